/- Part 13: no statement of the seat is proved here. -/
import Derived.Test.YtkebnkjegieagaaGreatDoorPq12
set_option linter.unusedVariables false
set_option linter.unusedSimpArgs false
open Go.Proofs.Tryz renaming prog->xV
namespace Go.Proofs
open Go Go.Sx
set_option maxRecDepth 100000
section
variable{V:Mem}{R:RP}
abbrev w3_0(a:KB)(b c d g i j k l o:Sl)(p:KB)(q r:Sl)(s:Int)(f:Mem)(R:RP):Prop:=TT 9 #[uD a b c d g i j k,uA #[uL l,uL o],uA #[uS p,uL q],uL r,uI s] f λe t=>∃B C D F G H L M N O,e=rT #[uA #[uI B,uI C,uI D,uI F,uI G],uA #[uL H,uL L],uA #[uS M,uI N],uI O]/\TT 10 #[uD a b c d g i j k,uA #[uL l,uL o],uA #[uS p,uL q],uL r,uI s] t λe h=>∃P Q U W X Y Z a0 a1 a2,e=rT #[uA #[uI P,uI Q,uI U,uI W,uI X],uA #[uL Y,uL Z],uA #[uS a0,uI a1],uI a2]/\Br (O=a2) (Br ((B=P)/\((C=Q)/\((D=U)/\((F=W)/\(G=X))))) (w4_1 M a0 O a b c d g i j k H L Y Z h N a1 R) (R KQ h)) (R KQ h)
def w3(a:KB)(b c d g i j k l o:Sl)(p:KB)(q r:Sl)(s:Int):MR:=λV R=>TB 5 #[] V λu V1=>Ac u (TB 6 #[uD a b c d g i j k,uA #[uL l,uL o],uI s] V1 λy V2=>Ac y (R KX V2) (TB 7 #[uA #[uS p,uL q]] V2 λz f=>Ac z (R KX f) (TB 8 #[uL r] f λA h=>Ac A (R KX h) (Br (400<s) (Br (s<=1048576) (R KX h) (w3_0 a b c d g i j k l o p q r s h R)) (w3_0 a b c d g i j k l o p q r s h R))))) (R KQ V1)
theorem x3{a:KB}{b c d g i j k l o:Sl}{p:KB}{q r:Sl}{s:Int}(h:w3 a b c d g i j k l o p q r s V R):TT 3 #[uD a b c d g i j k,uA #[uL l,uL o],uA #[uS p,uL q],uL r,uI s] V R:=Ad Tryz.func3 h
theorem x9{a:KB}{b c d g i j k l o:Sl}{p:KB}{q r:Sl}{s:Int}(h:TT 25 #[uD a b c d g i j k,uA #[uL l,uL o],z0,uI s] V λe V1=>∃u y z A,e=rT #[uL u,uA #[uL y,uL z],uI A]/\Br (A=0) (TT 26 #[uD a b c d g i j k,uL r] V1 λe V2=>∃B C D F G H L M N,e=rT #[uD B C D F G H L M,uI N]/\Br (N=0) (TT 27 #[uD a b c d g i j k,uD B C D F G H L M,uA #[uL l,uL o],uA #[uS p,uL q],uI s] V2 λe f=>∃O P Q U W X Y Z a0 a1,e=rT #[uA #[uI O,uI P,uI Q,uI U,uI W],uA #[uL X,uL Y],uA #[uS Z,uI a0],uI a1]/\R (rT #[uA #[uI O,uI P,uI Q,uI U,uI W],uA #[uL X,uL Y],uA #[uS Z,uI a0],uI a1]) f) (R (rT #[uA #[uI 0,uI 0,uI 0,uI 0,uI 0],uA #[z0,z0],uA #[uS (Ab []),uI 0],uI N]) V2)) (R (rT #[uA #[uI 0,uI 0,uI 0,uI 0,uI 0],uA #[z0,z0],uA #[uS (Ab []),uI 0],uI A]) V1)):TT 9 #[uD a b c d g i j k,uA #[uL l,uL o],uA #[uS p,uL q],uL r,uI s] V R:=Ad Tryz.func9 h
end
end Go.Proofs
namespace Go.Proofs.YtkebnkjegieagaaGreatDoor
open Go Go.Sx Go.Proofs Go.ChangeShapes Go.WideShapes Go.ChangeAt Go.RowKit
theorem call_of{H:Type}{enc:TypeId×Value->H}{W:World}{v:Value}{g:DataW H}{p:List MemPlace}(h:DataW.Trod enc xV W 0 (λ_=>true) true 36 v g p):∃(nm:KB)(l:Sl)(xs:XZ),v=.agg #[.string nm,l.v]/\Ae (Bb W) l 1 (xs.map Aw):=by
 obtain⟨fuel,h⟩:=h;obtain⟨nm,l,xs,hm,k⟩:=rdCl h;refine⟨nm,l,xs,?_,k⟩;have f:v.cells.toList.length=2:=by rw[<-hm];rfl
 cases v with
 |agg cs=>
  have:cs.toList=[Value.string nm,l.v]:=hm.symm;show Value.agg cs=.agg ([Value.string nm,l.v]:XV).toArray;rw[<-this]
 |_=>simp[Value.cells]at f
end Go.Proofs.YtkebnkjegieagaaGreatDoor
namespace Go.Proofs
open Go Go.Sx
attribute [local irreducible] Go.Sx.Tri
section
variable{V:Mem}{d:Ds}{F:Nat}{m:Mm}{nm:KB}{args:XZ}{l ns s:Sl}{nms:XN}
theorem c9[Tab V](p:Ds.Ok V d)(hm:Mm.Ok V m)(J:Ae V l 1 (args.map Aw))(c:Ae V ns 1 (nms.map Bs))(G:nms.length<=2147483647){F:Int}(N:F<=3000∨1048576<F):
  Tri xV 9 #[d.v,m.v,.agg #[uS nm,l.v],ns.v,uI F] V (GrdP V d F.toNat m nm args nms (runE d m nm args nms F)):=by
 obtain⟨R,e⟩:∃R,R=GrdP V d F.toNat m nm args nms (runE d m nm args nms F):=⟨_,rfl⟩;rw[<-e];refine x9 ?_;have bad:∀{k:Int}{V':Mem},runE d m nm args nms F=k->k≠0->V.sub V'->R (.returned (zeroG k)) V':=λh t Z=>by
  rw[e];exact .inl ⟨by rw[h];exact t,Z,by rw[h]⟩
 refine Tri.mono (N6 (l:=Ah) (cs:=[]) p hm ⟨Ae.nil,λ_ h=>by cases h⟩ N) ?_;have z:scrE d F m []=BT d m F:=by
  unfold scrE Fl;split;.rename_i h;rw[h];rfl
  .rfl
 rintro _ V1 ⟨j,⟨t,rfl⟩|⟨t,o,a,b,nd,-,-,-,-,rfl⟩⟩
 .rw[z]at t⊢;exact⟨_,_,_,_,rfl,λh=>absurd h t,λ_=>bad (by unfold runE;rw[if_neg t]) t j⟩
 rw[z]at t;have P:=Jb t;obtain⟨n,rfl⟩:∃n:Nat,F=(n:Int):=⟨F.toNat,by omega⟩;refine⟨_,_,_,_,rfl,λ_=>Tri.mono (N9 (p.sub j) (c.sub j) G) ?_,λh=>absurd rfl h⟩;rintro _ V2 ⟨H,⟨w,rfl⟩|⟨w,q,Y,rfl⟩⟩;.exact⟨_,_,_,_,_,_,_,_,_,rfl,λh=>absurd h w,λ_=>bad (by unfold runE;rw[if_pos t,if_neg w]) w (j.trans H)⟩
 have f:=j.trans H;haveI:Tab V2:=Tab.sub (V:=V) inferInstance f;refine⟨_,_,_,_,_,_,_,_,_,rfl,λ_=>Tri.mono (Oa (F:=n) (p.sub f) (hm.sub f) (J.sub f) (by omega) w Y) ?_,λh=>absurd rfl h⟩;have i:runE d m nm args nms n=Cg d m nm args n:=by unfold runE;rw[if_pos t,if_pos w]
 rintro _ O (⟨u,W,rfl⟩|⟨u,r,gs,ns,ls,nd,Q,L,rfl⟩);.exact⟨_,_,_,_,_,_,_,_,_,_,rfl,bad i u (f.trans W)⟩
 .refine⟨(if(Cm d nms r ⟨gs,r.st.g,ns,nd⟩).isSome then 22 else outC r),(if(Cm d nms r ⟨gs,r.st.g,ns,nd⟩).isSome then 0 else outV r),r.st.cm,AZ r.st.lg,0,gs,ns,((Cm d nms r ⟨gs,r.st.g,ns,nd⟩).getD (sE,0)).1,((Cm d nms r ⟨gs,r.st.g,ns,nd⟩).getD (sE,0)).2,0,?_,?_⟩;rotate_left
  .rw[e];refine .inr ⟨i.trans u,r,gs,ns,ls,nd,Q,L.narrow f,?_⟩;cases Cm d nms r ⟨gs,r.st.g,ns,nd⟩<;>rfl
  .cases Cm d nms r ⟨gs,r.st.g,ns,nd⟩<;>rfl
end
section
variable{V:Mem}{d:Ds}{m:Mm}{nm:KB}{args:XZ}{l ns:Sl}{nms:XN}
theorem longF:Tri xV 7 #[.agg #[uS nm,l.v]] V λe V'=>V=V'/\∃b:Bool,e=EQ b:=by
 refine x7 ?_;unfold w7;exact⟨λ_=>⟨rfl,_,rfl⟩,λ_=>⟨rfl,_,rfl⟩⟩
end
section
variable{V:Mem}{d:Ds}{m x y:Mm}{nm:KB}{args:XZ}{l ns:Sl}{nms:XN}
theorem grd_ex(r:Rx Int)(v:Option (KB×Int)):∃k g w0 h,grdO r v=[uI k,uI g,uI r.st.cm,uI (AZ r.st.lg),uI 0]/\grdX v=[uS w0,uI h]/\h=(v.getD (sE,0)).2:=by
 cases v;.exact⟨_,_,_,_,rfl,rfl,rfl⟩
 .exact⟨_,_,_,_,rfl,rfl,rfl⟩
theorem run_good{F:Int}(h:runE d m nm args nms F=0):An d (CX d F.toNat (BG d nm) args (AV m)).st.mm:=by
 unfold runE at h;split at h
 .split at h
  .obtain⟨G,k⟩:=I7 h;exact I8 G k
  .contradiction
 .contradiction
theorem c3(q:∀(V:Mem) [Tab V],PP 5 [] V (uB true))[Tab V](t:Ds.Ok V d)(hm:Mm.Ok V m)(o:Ae V l 1 (args.map Aw))(f:Ae V ns 1 (nms.map Bs)){F:Int}:
  PP 3 [d.v,m.v,.agg #[uS nm,l.v],ns.v,uI F] V (uB true):=by
 refine A6.mk (x3 ?_);unfold w3;have i:=Mem.sub.refl V;have fin:∀{V':Mem},V.sub V'->(Ending.returned (uB true)=EQ true/\V.sub V'):=λh=>⟨rfl,h⟩;refine(q V).call ⟨_,rfl,λ_=>Tri.mono (largeF t hm) ?_,λh=>absurd rfl h⟩;rintro _ _ ⟨rfl,b,rfl,w⟩;refine⟨_,rfl,λ_=>fin i,λh=>?_⟩;have w:=w (by simpa using h);refine Tri.mono longF ?_;rintro _ _ ⟨rfl,b,rfl⟩;refine⟨_,rfl,λ_=>fin i,λ_=>Tri.mono (manyF f) ?_⟩;rintro _ _ ⟨rfl,b,rfl,Z⟩;refine⟨_,rfl,λ_=>fin i,λh=>?_⟩;have Z:=Z (by simpa using h);refine⟨λ_=>⟨λ_=>fin i,λ_=>?_⟩,λ_=>?_⟩;all_goals
  refine Tri.mono (c9 t hm o f (by omega) w) ?_;rintro e V1 (⟨z,k,rfl⟩|⟨z,r,gs,j,ls,nd,Y,L,rfl⟩)
  .refine⟨_,_,_,_,_,_,_,_,_,_,rfl,Tri.mono (Mo (t.sub k) (hm.sub k) (o.sub k) (f.sub k) w) ?_⟩;rintro e V2 (⟨-,A,rfl⟩|⟨h,-⟩);.exact⟨_,_,_,_,_,_,_,_,_,_,rfl,λ_=>⟨λ_=>⟨λ_=>⟨λh=>absurd h z,λ_=>(c11 (a:=Ah) (b:=Ah)).call ⟨_,rfl,λ_=>⟨by simp,k.trans A⟩,λh=>absurd rfl h⟩⟩,λh=>absurd rfl h⟩,λh=>absurd ⟨rfl,rfl,rfl,rfl,rfl⟩ h⟩,λh=>absurd rfl h⟩
   .exact absurd h z
  have u:=run_good z;rw[<-Y]at u;obtain⟨I,p1⟩:=Hq t L u;have Q:An d ⟨gs,r.st.g,j,nd⟩:=⟨u.valid,u.chk,Gh ((St.plain r.st).trans p1.symm) u.mem⟩;have k:=L.sub;obtain⟨v,hv⟩:∃v,v=Cm d nms r ⟨gs,r.st.g,j,nd⟩:=⟨_,rfl⟩;obtain⟨D,E,w0,M,P,hw,p⟩:=grd_ex r v;have p:0<=M:=by
   rw[p,hv];unfold Cm;split;.exact vioNode Q
   .exact Int.le_refl _
  rw[<-hv,P,hw];refine⟨_,_,_,_,_,_,_,_,_,_,rfl,Tri.mono (Mo (t.sub k) (hm.sub k) (o.sub k) (f.sub k) w) ?_⟩;rintro e V2 (⟨h,-⟩|⟨-,c,H,J,X,nd2,G,n,rfl⟩);.exact absurd z h
  obtain rfl:c=r:=G.trans Y.symm;obtain⟨B,C⟩:=Hq (t.sub k) n u;have O:=p1.trans C.symm;have N:Cm d nms c ⟨H,c.st.g,J,nd2⟩=v:=by
   rw[hv];unfold Cm;rw[KI O]
  rw[N,P,hw];exact⟨_,_,_,_,_,_,_,_,_,_,rfl,λ_=>⟨λ_=>⟨λ_=>⟨λ_=>tailG (R:=λe W=>e=EQ true/\V.sub W) (t.sub (k.trans n.sub)) Q (I.sub n.sub) B O p (fin (k.trans n.sub)),λh=>absurd rfl h⟩,λh=>absurd rfl h⟩,λh=>absurd ⟨rfl,rfl,rfl,rfl,rfl⟩ h⟩,λh=>absurd rfl h⟩
end
end Go.Proofs
namespace Go.Proofs
open Go Go.Sx
theorem cRuns{V:Mem}{d:Ds}{m:Mm}{nm:KB}{args:XZ}{l ns:Sl}{nms:XN}[Tab V](k:Ds.Ok V d)(hm:Mm.Ok V m)(g:Ae V l 1 (args.map Aw))(h:Ae V ns 1 (nms.map Bs)){F:Int}:PP 3 [d.v,m.v,.agg #[uS nm,l.v],ns.v,uI F] V (uB true):=
 c3 (λV _=>c5 V) k hm g h
end Go.Proofs
