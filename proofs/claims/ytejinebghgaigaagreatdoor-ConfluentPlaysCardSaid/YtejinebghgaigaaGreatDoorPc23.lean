/- Part 23: no statement of the seat is proved here. -/
import Derived.Test.YtejinebghgaigaaGreatDoorPc17
import Derived.Test.YtejinebghgaigaaGreatDoorPc21
import Derived.Test.YtejinebghgaigaaGreatDoorPc22
set_option linter.unusedVariables false
set_option linter.unusedSimpArgs false
open Go.Proofs.Tryz renaming prog->xG,underlying58->uN
open List.cons renaming injEq->yF
open List renaming length_take->vU,length_map->xi,take_add_one->w8,take_of_length_le->wZ,getElem?_map->y6
open Int renaming toNat_natCast->xu
namespace Go.Proofs.YtejinebghgaigaaGreatDoor
open Go Go.Sx Go.Proofs Go.ChangeShapes Go.WideShapes Go.ChangeAt Go.RowKit
section
variable{H:Type}{enc:TypeId×Value->H}{w:World}
theorem clB1:xG.cellsOf 4=1:=by kernel_rfl
theorem gB{m:Nat}{v:Value}(h:∃y,TR enc w m 4 [v]=some y):∃b:Bool,v=.bool b:=by
 obtain⟨y,k⟩:=h;have k:DataW.trod enc xG w 0 (λ_=>true) true m 4 [v]=some y:=k;obtain⟨b,e,-⟩:=DataW.trod_bool Tryz.underlying4 k;exact⟨b,by simpa using e⟩
theorem clSp:xG.cellsOf 88=5:=by kernel_rfl
theorem rdSp{n:Nat}{cs:List Value}{x:DataW H×List MemPlace}(h:TR enc w n 88 cs=some x):∃f:Sp,Sp.row f=cs/\Ad (BL w) f.sl 1 (f.args.map Ak):=by
 obtain⟨q,m,-,k⟩:=FB Tryz.underlying88 h;obtain⟨a,d,e,f,g,rfl⟩:=len5 (q.trans clSp);obtain⟨t,rfl⟩:=gB (at1 (k 0 _ rfl) clB1 rfl);obtain⟨i,rfl,-⟩:=gI (at1 (k 1 _ rfl) Ii rfl);obtain⟨j,rfl,-⟩:=gI (at1 (k 2 _ rfl) Ii rfl);obtain⟨y,u⟩:=k 3 _ rfl;change TR enc w m 45 (([Value.bool t,Value.int .i64 i,Value.int .i64 j,f,g].drop 3).take (xG.cellsOf 45))=some y at u;rw[clCl]at u;obtain⟨nm,l,xs,r,z⟩:=rdCl u;simp only[List.drop_succ_cons,List.drop_zero,List.take_succ_cons,List.take_zero,yF,and_true]at r;obtain⟨rfl,rfl⟩:=r;exact⟨⟨t,i,j,nm,l,xs⟩,rfl,z⟩
end
set_option maxRecDepth 100000 in
theorem sps_of{H:Type}{enc:TypeId×Value->H}{W g:World}{r:Reach}{b0:Nat}{v:Value}{f:DataW H}{p:List MemPlace}(k:Value.okWide xG g r b0 58 v)(h:DataW.Trod enc xG W 0 (λ_=>true) true 58 v f p):∃(l:Sl)(cs:List Sp),v=l.v/\GF (BL W) l cs:=by
 obtain⟨a,len,cap,rfl⟩:=okWide_slice uN k;obtain⟨fuel,h⟩:=h;have h:∃y,TR enc W fuel 58 [.slice a len cap]=some y:=⟨_,h⟩;obtain⟨s,cs,t,u,z⟩:=E1 (row:=Sp.row) (ok:=λc:Sp=>Ad (BL W) c.sl 1 (c.args.map Ak)) uN clSp (by decide) (λ_=>rfl) (λi _ cs x j=>rdSp j) h;exact⟨s,cs,t,u,z⟩
end Go.Proofs.YtejinebghgaigaaGreatDoor
namespace Go.Proofs
open Go Go.Sx
attribute [local irreducible] Go.Sx.Tri
def sumP(ps:List PV)(l:List Int):Int:=(l.map λp=>(ps.getD p.toNat pv0).paths).sum
theorem pth_fold{ps:List PV}(h:∀p:Int,0<=(ps.getD p.toNat pv0).paths):∀(l:List Int)(a:Int),a<=BR->l.foldl (λa p=>min BR (a+(ps.getD p.toNat pv0).paths)) a=min BR (a+sumP ps l)
 |[],a,k=>by
  show a=min BR (a+0);omega
 |p::l,a,k=>by
  have h1:=h p;have h2:0<=sumP ps l:=by
   unfold sumP;induction l with
   |nil=>simp
   |cons q l g=>grind
  rw[List.foldl_cons,pth_fold h l _ (by omega)];grind[sumP,pv0]
section
variable{V:Mem}{P M:Sl}{ps:List PV}{d:Ds}
theorem getD_nn(h:∀v∈ps,0<=v.paths/\v.paths<=BR)(p:Int):0<=(ps.getD p.toNat pv0).paths/\(ps.getD p.toNat pv0).paths<=BR:=by
 rw[List.getD_eq_getElem?_getD];cases e:ps[p.toNat]? with
 |none=>show(0:Int)<=0/\(0:Int)<=BR;unfold BR;omega
 |some x=>grind
theorem pth_take(h:∀v∈ps,0<=v.paths/\v.paths<=BR){i:Nat}{l:List Int}(k:∀p∈l,BC (ps.take i) p):DJ (ps.take i) l=min BR (sumP ps l):=by
 have e:DJ (ps.take i) l=DJ ps l:=by
  unfold DJ;have:∀(l:List Int)(a:Int),(∀p∈l,BC (ps.take i) p)->l.foldl (λa p=>min BR (a+((ps.take i).getD p.toNat pv0).paths)) a=l.foldl (λa p=>min BR (a+(ps.getD p.toNat pv0).paths)) a:=by
   intro l;induction l with
   |nil=>intro a _;rfl
   |cons p l f=>
    intro a k;have g:=k p List.mem_cons_self;have e:(ps.take i).getD p.toNat pv0=ps.getD p.toNat pv0:=by
     have h2:=g.2;have h1:=g.1;grind
    simp_all
  grind
 rw[e];have:=pth_fold (λp=>(getD_nn h p).1) l 0 (by unfold BR;omega);grind[DJ]
theorem RM(h:CR V P M ps)(hO:FT ps)(hb:∀v∈ps,0<=v.paths/\v.paths<=BR)(hlen:ps.length<=900):Tri xG 23 #[E4 d P M] V λe V'=>V.sub V'/\∃s:Sl,e=.returned (.slice s.p s.n s.c)/\Ad V' s 1 ((ps.map PV.paths).map Ak):=by
 obtain⟨R,hR⟩:∃R:Ending->Mem->Prop,R=λe V'=>V.sub V'/\∃s:Sl,e=.returned (.slice s.p s.n s.c)/\Ad V' s 1 ((ps.map PV.paths).map Ak):=⟨_,rfl⟩;rw[<-hR];refine Px ?_;have hPn:=h.lens.1;obtain⟨v0,l0,B,hv0,-⟩:=hO.z;have C:1<=ps.length:=by rw[B];simp
 obtain⟨ss,ms,m⟩:=h;have hsl:=m.sl;intro b N;have o1:Sx.Own V (V.set b (.cells #[.int .i64 1] 3 (0,0))) 3 1 ⟨some ⟨b,0,none⟩,1,1⟩ (((ps.map PV.paths).take 1).flatMap Ak):=by
  have e:(ps.map PV.paths).take 1=[1]:=by simp_all
  rw[e];exact own_blk (xs:=[1]) (row:=Ak) (λ_=>rfl) N (Mem.sub_new N _) Az (by simp)
 refine⟨λr ys V2=>∃(j:Nat)(s:Sl),r=ps.length-j/\1<=j/\j<=ps.length/\ys=[.slice s.p s.n s.c,.int .i64 j]/\Sx.Own V V2 3 1 s (((ps.map PV.paths).take j).flatMap Ak),ps.length-1,⟨1,_,rfl,Nat.le_refl _,C,rfl,o1⟩,?_⟩;rintro r V2 s v12 ⟨j,s',rfl,D,hjl,Z,Y⟩ J hJ;simp only[yF,and_true]at Z;obtain⟨q1,q2⟩:=Z;cases Bv _ _ q1;cases Cu _ _ q2;have F:=Y.rows (row:=Ak) (λ_=>rfl) (by decide);have E:=F.n_eq;rw[vU,xi]at E;refine⟨λf=>?_,λW=>?_⟩
 ·have f:(j:Int)<(P.n:Int):=f;have K:=m.pr.sub Y.sub;obtain⟨a,ham,ha,-,-,hp,hz,t⟩:=K.get (i:=j) (by omega);obtain⟨v,hv⟩:∃v,ps[j]?=some v:=⟨_,List.getElem?_eq_getElem (by omega)⟩;have Q:=(m.ok j a v ha hv).sub Y.sub;obtain⟨e1,e2,e3⟩:=hO.st j v D hv;rw[pth_take hb e3]at e1;have han:=Q.n_eq;have S:∀l:List Int,0<=sumP ps l/\sumP ps l<=BR*l.length:=by
   intro l;unfold sumP;induction l with
   |nil=>simp
   |cons q l ih=>
    grind[getD_nn,List.length_cons,BR]
  refine Fo (mk:=.int .i64) (b0:=0) Cu v.par.length (λk n L=>L=V2/\n=sumP ps (v.par.take k)) ⟨rfl,rfl⟩ ?_;rintro k n L J1 hk ⟨rfl,rfl⟩ T;have o:=S (v.par.take k);rw[vU]at o;unfold BR at o;refine⟨hp,by omega,f,a,t,λg=>?_,λy=>?_⟩
  ·have g:(k:Int)<(a.n:Int):=g;obtain⟨q,U,hq,-,hql,hpq,hzq,hrq⟩:=Q.get (i:=k) (by omega);have O:=e3 q U;have hq2:=O.2;rw[vU]at hq2;have hq1:=O.1;obtain⟨u,rfl⟩:∃u:Nat,q=(u:Int):=⟨q.toNat,by omega⟩;obtain⟨w,-,hw,-,-,hpw,hzw,hrw⟩:=F.get (i:=u) (by omega);have hwe:w=(ps.getD u pv0).paths:=by
    grind
   have A:=getD_nn hb (u:Int);rw[xu]at A;unfold BR at A;have es:sumP ps (v.par.take (k+1))=sumP ps (v.par.take k)+w:=by
    grind[sumP,w8,Option.toList_some,List.map_singleton,xu]
   refine⟨hp,by omega,f,a,t,hpq,hzq,g,_,hrq,hpw,hzw,by omega,w,hrw,⟨by omega,by omega⟩,⟨by omega,by omega⟩,T (by omega) _ _ ⟨rfl,es.symm⟩⟩
  ·have y:¬(k:Int)<(a.n:Int):=y;rw[wZ (by omega)]at o⊢;have next:∀{c:Int},v.paths=c->∀{t1 t2:Nat}(X:Nat),L X=none->GenK xG (.call {callee:=(.builtin .append),args:=#[(.tmp 40),(.tmp 42)],argTypes:=#[43,43]}) 43 (gv [(40,uL s),(42,.slice (Aa (sa X) 0) (1:Int).toNat (1:Int).toNat)]) (L.set X (.cells #[.int .i64 c] 3 (0,0))) λx V5=>∃I:Sl,x=uL I/\IR ((j:Int)+1)/\J [uL I,uI ((j:Int)+1)] V5:=λ{c} hc {t1 t2} X htc=>by
    refine oneG Fy (x:=c) Y htc (by grind) rfl rfl (λ_=>rfl) λs5 V5 o5=>⟨s5,rfl,⟨by omega,by omega⟩,hJ _ _ _ (show ps.length-(j+1)<ps.length-j by omega) ⟨j+1,s5,rfl,by omega,by omega,rfl,?_⟩⟩;rw[w8,y6,hv];simp_all
   refine⟨λhbig tb G=>next ?_ (t1:=0) (t2:=0) tb G,λhsm tb G=>next ?_ (t1:=0) (t2:=0) tb G⟩;·grind[sumP,BR]
   grind[sumP,BR]
 ·have W:¬(j:Int)<(P.n:Int):=W;rw[wZ (by grind)]at F;rw[hR];exact⟨Y.sub,s,rfl,F⟩
end
section
variable{V:Mem}{d:Ds}{l:Sl}{xs:List Sp}
theorem RN{x:Sp}:Tri xG 54 #[.agg #[.bool x.meld,.int .i64 x.a,.int .i64 x.b,.string x.nm,x.sl.v]] V (RY V):=by
 refine Tri.mono (PW (R:=RY V) ?_) λ_ _ h=>h;exact⟨λ_=>⟨rfl,_,rfl⟩,λ_=>⟨rfl,_,rfl⟩⟩
theorem stepAny(h:GF V l xs):Tri xG 53 #[l.v,.func (.func 54) #[] #[]] V (RY V):=by
 refine PU (a:=l) (b:=.func (.func 54) #[] #[]) ?_;refine Tri.mono (Qp (a:=l) (b:=.func (.func 54) #[] #[]) (R:=λe V'=>V=V'/\∃r:Int,e=.returned (.int .i64 r)) ?_) ?_
 ·refine AR (mk:=.int .i64) (b0:=0) xs.length (λi V1=>V=V1) rfl ?_;rintro i b V1 J hi rfl t;refine⟨λk=>?_,λ_=>⟨rfl,_,rfl⟩⟩;obtain⟨x,u,j,-,f,z,y,g⟩:=h.rows.get k;refine⟨z,y,k,_,_,_,_,_,g,54,#[],#[],rfl,Tryz.call54,Tri.mono (RN (x:=x)) ?_⟩;rintro _ _ ⟨rfl,b,rfl⟩;exact⟨b,rfl,λ_=>⟨rfl,_,rfl⟩,λ_=>⟨h.rows.succ k,t f _ _ rfl⟩⟩
 ·rintro _ _ ⟨rfl,r,rfl⟩;exact⟨_,rfl,rfl,_,rfl⟩
theorem Nz(f:Ds.Ok V d)(g:GF V l xs):Tri xG 18 #[d.v,l.v] V λe V'=>V=V'/\∃b,e=.returned (.bool b)/\(b=false->xs.length<=10):=by
 refine Pv ?_;have t:=g.rows.n_eq;refine Tri.mono (greatC f) ?_;rintro _ _ ⟨rfl,b,rfl⟩;refine⟨_,rfl,λ_=>⟨rfl,true,rfl,λh=>by cases h⟩,λ_=>⟨λ_=>⟨rfl,true,rfl,λh=>by cases h⟩,λk=>?_⟩⟩;have k:¬(10:Int)<(l.n:Int):=k;refine Tri.mono (stepAny g) ?_;rintro _ _ ⟨rfl,b,rfl⟩;grind
theorem FT.par{ps:List PV}(h:FT ps){x:PV}(k:x∈ps):x.par.length<=2:=by
 obtain⟨i,hi⟩:=List.mem_iff_getElem?.1 k;by_cases g:i=0
 ·obtain⟨v,l,e,-,f⟩:=h.z;simp_all
 ·exact(h.st i x (by omega) hi).2.1
theorem c4[Tab V](hd:Ds.Ok V d)(hl:GF V l xs){v:Int}:PP 4 [d.v,l.v,.int .i64 v] V (.bool true):=by
 obtain⟨R,hR⟩:∃R:Ending->Mem->Prop,R=λe V'=>e=.returned (.bool true)/\V.sub V':=⟨_,rfl⟩;refine Bf.mk ?_;rw[<-hR];refine x4 ?_;unfold w4;have f:∀{V'},V.sub V'->R (.returned (.bool true)) V':=λh=>by simp_all
 refine c9.call ⟨_,rfl,λ_=>?_,λh=>absurd rfl h⟩;refine Tri.mono (Nz hd hl) ?_;rintro _ _ ⟨rfl,b,rfl,y⟩;refine⟨_,rfl,λ_=>f (Mem.sub.refl _),λhb=>?_⟩;have y:=y ((Bool.not_eq_true _).mp hb);refine Tri.mono (Ny hd hl (by omega)) ?_;rintro _ V3 ⟨s3,⟨hG,rfl⟩|⟨G,p,D,P,M,ps,rfl,hD,A,j,Z,m⟩⟩;·exact⟨_,_,_,_,_,_,_,_,_,_,_,_,rfl,λ_=>⟨λ_=>f s3,λh=>absurd rfl h⟩,λh=>absurd rfl h⟩
 refine⟨_,_,_,_,_,_,_,_,_,_,_,_,rfl,λ_=>⟨λh=>absurd h nn,λ_=>?_⟩,λh=>absurd rfl h⟩;have GV:=A.gv;obtain⟨vs,k,rfl,H⟩:=A;obtain⟨W,hDW,hWV,L,S⟩:=H.bs.use;have e3:=H.bs.sub;rw[xi]at Z;refine Tri.mono (Nt S (v:=v) (λx z=>(H.ok x z).sub e3) (λx z=>by have:=m.par (List.mem_map.2 ⟨x,z,rfl⟩);exact Nat.le_trans this (by decide))) ?_;rintro _ V4 ⟨Y,u⟩;have Q:=S.grow Y;have N:=Ns Q (v:=v);have g:=(j.sub e3).sub Y;have hPn:P.n=vs.length:=by rw[j.lens.1,xi]
 have r:BC (vs.map Vr.pv) v↔0<=v/\v<(vs.length:Int):=by grind[BC]
 have z4:=s3.trans Y;rcases u with⟨c,rfl⟩|⟨a,x,s,z,rfl,o⟩
 ·have c4:CD 0 vs.length [v]=24:=by rw[GB,if_neg c]
  have O:Fj vs v=0:=by grind[Fj]
  rw[c4,O]at N;refine⟨_,_,rfl,N.call ⟨_,_,rfl,(O4 Q).call ⟨_,rfl,λ_=>(c22 g).call ⟨_,rfl,λh=>absurd (r.1 (of_decide_eq_true h)) c,λ_=>⟨λ_=>⟨λ_=>⟨λ_=>f z4,λh=>absurd rfl h⟩,λh=>absurd rfl h⟩,λh=>absurd rfl h⟩⟩,λh=>absurd (show((vs.length:Nat):Int)=(P.n:Int)by omega) h⟩⟩⟩
 ·have c4:CD 0 vs.length [v]=0:=by rw[GB,if_pos a]
  have O:Fj vs v=x.paths:=by grind[Fj]
  rw[c4,O]at N;have hv:=r.2 a;obtain⟨q,I,F,X,B,J⟩:=g.parents hv;have C:(vs.map Vr.pv).getD v.toNat pv0=x.pv:=by simp_all
  rw[C]at J;have hr:=o.rows (row:=Ak) (λ_=>rfl) (by decide);refine⟨_,_,rfl,N.call ⟨_,_,rfl,(O4 Q).call ⟨_,rfl,λ_=>(c22 g).call ⟨_,rfl,λ_=>⟨λ_=>⟨I,F,X,q,B,(JW hr J).call ⟨_,rfl,λ_=>⟨λ_=>Tri.mono (RM g m GV.pth (by grind)) ?_,λh=>absurd rfl h⟩,λh=>absurd (decide_eq_true rfl) h⟩⟩,λh=>absurd rfl h⟩,λh=>absurd (decide_eq_true hv) h⟩,λh=>absurd (show((vs.length:Nat):Int)=(P.n:Int)by omega) h⟩⟩⟩;rintro _ V9 ⟨s9,t,rfl,ht⟩;have E:=ht.n_eq;rw[xi,xi]at E;obtain⟨i,rfl⟩:∃i:Nat,v=(i:Int):=⟨v.toNat,by omega⟩;obtain⟨w,-,hw,-,-,K,T,U⟩:=ht.get (i:=i) (by omega);have hwe:w=x.paths:=by
   rw[y6,y6]at hw;rw[xu]at z;rw[z]at hw;exact(Option.some.inj hw).symm
  refine⟨t,rfl,K,T,by omega,w,U,?_⟩;simp only[hwe,decide_true];exact f (z4.trans s9)
end
end Go.Proofs
