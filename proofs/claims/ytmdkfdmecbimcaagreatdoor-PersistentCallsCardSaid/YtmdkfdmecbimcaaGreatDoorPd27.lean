/- Part 27: no statement of the seat is proved here. -/
import Derived.Test.YtmdkfdmecbimcaaGreatDoorPd16
import Derived.Test.YtmdkfdmecbimcaaGreatDoorPd18
set_option linter.unusedVariables false
set_option linter.unusedSimpArgs false
open Go.Proofs.Tryz renaming prog->xS
open Go.DataW renaming Trod->vn
namespace Go.Proofs
open Go Go.Sx
set_option maxRecDepth 100000
section
variable{V:Mem}{R:RP}
abbrev w4_0(a:KB)(b c d g i j k l:Sl)(n:Mem)(R:RP)(o:Int)(p:KB)(q:Sl)(r:Int):Prop:=TT 10 #[uD a b c d g i j k,uL l] n λe h=>∃z A B C D F G H L M N O P Q U,e=rT #[uP z,uA #[uS A,uL B,uL C,uL D,uL F,uL G,uL H,uL L,uL M,uL N,uL O,uI P,uI Q],uB U]/\Br (U=true) (Br (z=none) (R (rV (uB U)) h) (TT 20 #[uP z,uI o,uA #[uS p,uL q],uI r] h λe m=>∃W X Y Z a0 a1,e=rT #[uA #[uI W,uI X,uI Y,uI Z,uI a0],uI a1]/\TT 21 #[uA #[uS A,uL B,uL C,uL D,uL F,uL G,uL H,uL L,uL M,uL N,uL O,uI P,uI Q],uI o,uA #[uS p,uL q],uI r] m λe f=>∃a2 a3 t u w y,e=rT #[uA #[uI a2,uI a3,uI t,uI u,uI w],uI y]/\Br ((W=a2)/\((X=a3)/\((Y=t)/\((Z=u)/\(a0=w))))) (Br (a1=y) (TT 23 #[uP z] f λe J=>∃x,e=rV (uA #[uL x])/\TB 22 #[uL x,uL M] J λE K=>R (rV (uB E)) K) (R KQ f)) (R KQ f))) (R (rV (uB U)) h)
def w4(a:KB)(b c d g i j k l:Sl)(o:Int)(p:KB)(q:Sl)(r:Int):MR:=λV R=>TB 8 #[] V λs V1=>Br (s=true) (TB 9 #[uD a b c d g i j k,uL l] V1 λu V2=>Br (u=true) (R KX V2) (TB 19 #[uA #[uS p,uL q]] V2 λy h=>Br (y=true) (R KX h) (Br (120<r) (Br (r<=1048576) (R KX h) (w4_0 a b c d g i j k l h R o p q r)) (w4_0 a b c d g i j k l h R o p q r)))) (R KQ V1)
theorem x4{a:KB}{b c d g i j k l:Sl}{o:Int}{p:KB}{q:Sl}{r:Int}(h:w4 a b c d g i j k l o p q r V R):TT 4 #[uD a b c d g i j k,uL l,uI o,uA #[uS p,uL q],uI r] V R:=Ae Tryz.func4 h
theorem Sg{a:KB}{b c d g i j k l o p:Sl}{q r s:Int}{u:KB}{y:Sl}{z:Int}(h:TI 42 #[uA #[uS a,uL b,uL c,uL d,uL g,uL i,uL j,uL k,uL l,uL o,uL p,uI q,uI r],uI s,uA #[uS u,uL y],uI z] V λA V1=>Br (A=0) (Ix o s (∃B C,V1.rowp o.p (s.toNat*2) 2=some [uL B,uL C]/\TP 43 #[uD a b c d g i j k,uA #[uL B,uL C],uA #[uS u,uL y],uI z] V1 λD V2=>TT 44 #[uP D] V2 λe f=>∃F G H L M,e=rV (uA #[uI F,uI G,uI H,uI L,uI M])/\R (rT #[uA #[uI F,uI G,uI H,uI L,uI M],uI 0]) f)) (R (rT #[uA #[uI 0,uI 0,uI 0,uI 0,uI 0],uI A]) V1)):TT 21 #[uA #[uS a,uL b,uL c,uL d,uL g,uL i,uL j,uL k,uL l,uL o,uL p,uI q,uI r],uI s,uA #[uS u,uL y],uI z] V R:=Ae Tryz.func21 h
end
end Go.Proofs
namespace Go.Proofs.YtmdkfdmecbimcaaGreatDoor
open Go Go.Sx Go.Proofs Go.ChangeShapes Go.WideShapes Go.ChangeAt Go.RowKit
theorem trodAll_five{H:Type}{enc:TypeId×Value->H}{w:World}{a b c d e:TypeId}{args:Array Value}{ds:List (DataW H)}{ps:List MemPlace}(h:DataW.TrodAll enc xS w 0 (λ_=>true) true [a,b,c,d,e] args.toList ds ps):
  ∃v0 g f t u z y x j i p0 p1 n p3 m,args=#[v0,g,f,t,u]/\ds=[z,y,x,j,i]/\ps=p0++(p1++(n++(p3++m)))/\vn enc xS w 0 (λ_=>true) true a v0 z p0/\vn enc xS w 0 (λ_=>true) true b g y p1/\vn enc xS w 0 (λ_=>true) true c f x n/\
   vn enc xS w 0 (λ_=>true) true d t j p3/\vn enc xS w 0 (λ_=>true) true e u i m:=by
 obtain⟨v0,vs,z,o,p,q,r,rfl,rfl,J,k⟩:=trodAll_cons h;obtain⟨g,G,y,N,p1,L,rfl,rfl,rfl,h1,k⟩:=trodAll_cons k;obtain⟨f,Z,x,Y,n,X,rfl,rfl,rfl,h2,k⟩:=trodAll_cons k;obtain⟨t,W,j,Q,p3,B,rfl,rfl,rfl,h3,k⟩:=trodAll_cons k;obtain⟨u,O,i,A,m,C,rfl,rfl,rfl,h4,k⟩:=trodAll_cons k;obtain⟨rfl,rfl,rfl⟩:=trodAll_nil k;exact⟨v0,g,f,t,u,z,y,x,j,i,p,p1,n,p3,m,by grind,rfl,by simp,J,h1,h2,h3,h4⟩
end Go.Proofs.YtmdkfdmecbimcaaGreatDoor
namespace Go.Proofs
open Go Go.Sx
attribute [local irreducible] Go.Sx.Tri
section
variable{V D:Mem}{p:Nat}{d:Ds}{s:PsS}{v a b:Int}{nm:KB}{args:List Int}{l:Sl}{F:Int}
theorem Sh[Tab D](H:BI D V p d s)(z:Ds.Ok D d)(x:Ab D l 1 (args.map Ah))(j:F<=4000∨1048576<F)(k:s.vs.length<=900):
  Tri xS 20 #[pv p,.int .i64 v,.agg #[.string nm,l.v],.int .i64 F] V λe V'=>∃g,D.sub g/\BI g V' p d s/\e=.returned (.tuple #[Dn (AH d F s v nm args) (AZ d F.toNat s v nm args),.int .i64 (AH d F s v nm args)]):=by
 obtain⟨q,vl,gl,nl,tr,gs,ns,H⟩:=H;obtain⟨R,f⟩:∃R:Ending->Mem->Prop,R=λe V'=>∃g,D.sub g/\BI g V' p d s/\e=.returned (.tuple #[Dn (AH d F s v nm args) (AZ d F.toNat s v nm args),.int .i64 (AH d F s v nm args)]):=⟨_,rfl⟩;rw[<-f];refine Mh ?_;refine Tri.mono (Nv H z x j k) ?_;rintro _ V1 ⟨u,h,w,⟨t,rfl⟩|⟨t,vb,mb,gsl,nsl,isl,ll,m,y,r,i,-,-,-,-,-,-,-,-,rfl⟩⟩
 ·refine⟨none,0,0,0,0,0,Af,Af,Af,_,rfl,?_⟩;rw[f];exact⟨u,h,⟨q,vl,gl,nl,tr,gs,ns,H.more h w⟩,by unfold Dn;rw[if_neg t];rfl⟩
 ·refine⟨_,_,_,_,_,_,_,_,_,_,rfl,?_⟩;rw[f];exact⟨u,h,⟨q,vl,gl,nl,tr,gs,ns,H.more h w⟩,by unfold Dn;rw[t,if_pos rfl,<-i];rfl⟩
end
section
variable{V:Mem}{P M I:Sl}{s:PsS}{d:Ds}{v a b:Int}{F:Int}{nm:KB}{args:List Int}{l:Sl}
theorem Si(h:DX V P M I s)(c:∀x∈s.vs,Ar d (AY x.m))(j:Ds.Ok V d)(i:Ab V l 1 (args.map Ah))(L:F<=4000∨1048576<F){n wr:Int}:
  Tri xS 21 #[rf3V d P M I n wr,.int .i64 v,.agg #[.string nm,l.v],.int .i64 F] V λe V'=>V.sub V'/\e=.returned (.tuple #[Dn (AH d F s v nm args) (AZ d F.toNat s v nm args),.int .i64 (AH d F s v nm args)]):=by
 refine Sg ?_;refine(Pj h.mr j (by rw[h.pn,List.length_map]) i).call ⟨_,rfl,λk=>?_,λk=>⟨Mem.sub.refl _,?_⟩⟩
 ·have k:CR d F (s.vs.map PsV.pv) v nm args=0:=k;have H:0<=F/\F<=1048576:=by
   grind[CR]
  obtain⟨n,rfl⟩:∃n:Nat,F=(n:Int):=⟨F.toNat,by omega⟩;obtain⟨hv,-,-,g⟩:=vc_zero k;obtain⟨m,J,G,N,Z,Y,o⟩:=h.mr.mem hv;obtain⟨x,B,u,f⟩:=isV_mem hv;obtain⟨y,W,rfl⟩:=List.mem_map.1 u;rw[f]at o;have w:memS (s.vs.map PsV.pv) v=AY y.m:=by unfold memS;rw[f];rfl
  have t:(AY y.m).plain=m.plain:=by rw[Ja,o];rfl
  have Gm:=(c y W).plain t;rw[w,IX t]at g;refine⟨J,G,N,_,_,Z,Tri.mono (O1 j Y Gm i g (by omega)) ?_⟩;rintro _ V1 ⟨q,r,C,X,rfl⟩;refine⟨_,rfl,(O2 X).call ?_⟩;obtain⟨gs,ns,ls,nd,Q,O⟩:=X.ex;have A:AH d (n:Int) s v nm args=0:=k;have z:AZ d (n:Int).toNat s v nm args=r:=by
   grind[AZ,psMem,Lw]
  refine⟨_,_,_,_,_,rfl,O.sub,?_⟩;rw[A,z];rfl
 ·have k:¬CR d F (s.vs.map PsV.pv) v nm args=0:=k;have h1:¬AH d F s v nm args=0:=k;unfold Dn;rw[if_neg h1];rfl
end
section
variable{V:Mem}{d:Ds}{l cl:Sl}{xs:List Sq}{nm:KB}{args:List Int}{v a b F:Int}
theorem Sj[Tab V](hAw:∀{U:Mem} [Tab U],PP 8 [] U (.bool true))(hd:Ds.Ok V d)(hl:Fe V l xs)(hc:Ab V cl 1 (args.map Ah)):PP 4 [d.v,l.v,.int .i64 v,.agg #[.string nm,cl.v],.int .i64 F] V (.bool true):=by
 obtain⟨R,hR⟩:∃R:Ending->Mem->Prop,R=λe V'=>e=.returned (.bool true)/\V.sub V':=⟨_,rfl⟩;refine Bn.mk ?_;rw[<-hR];refine x4 ?_;unfold w4;have k:∀{V':Mem},V.sub V'->R (.returned (.bool true)) V':=λh=>by simp_all
 refine hAw.call ⟨_,rfl,λ_=>?_,λh=>absurd rfl h⟩;refine Tri.mono (c9 hd hl) ?_;rintro _ _ ⟨rfl,b,rfl,hb⟩;refine⟨b,rfl,λ_=>k (Mem.sub.refl _),λhbf=>?_⟩;have hx:=hb ((Bool.not_eq_true _).mp hbf);refine Tri.mono NF ?_;rintro _ _ ⟨rfl,b2,rfl⟩;refine⟨b2,rfl,λ_=>k (Mem.sub.refl _),λ_=>?_⟩;have key:F<=4000∨1048576<F->Tri xS 10 #[d.v,l.v] V λe V4=>∃(g:Option Addr)(w:KB)(z y x j i n m t r q:Sl)(c H:Int)(f:Bool),e=.returned (.tuple #[.pointer g,.agg #[Go.Sx.vS w,z.v,y.v,x.v,j.v,i.v,n.v,m.v,t.v,r.v,q.v,.int .i64 c,.int .i64 H],.bool f])/\(Br (f=true) (Br (g=none) (R (.returned (.bool f)) V4) (Tri xS 20 #[.pointer g,.int .i64 v,.agg #[.string nm,cl.v],.int .i64 F] V4 λe V5=>∃J N Z Y W Q:Int,e=.returned (.tuple #[.agg #[.int .i64 J,.int .i64 N,.int .i64 Z,.int .i64 Y,.int .i64 W],.int .i64 Q])/\Tri xS 21 #[.agg #[Go.Sx.vS w,z.v,y.v,x.v,j.v,i.v,n.v,m.v,t.v,r.v,q.v,.int .i64 c,.int .i64 H],.int .i64 v,.agg #[.string nm,cl.v],.int .i64 F] V5 λe V6=>∃O L X B C E:Int,e=.returned (.tuple #[.agg #[.int .i64 O,.int .i64 L,.int .i64 X,.int .i64 B,.int .i64 C],.int .i64 E])/\Br ((J=O)/\((N=L)/\((Z=X)/\((Y=B)/\(W=C))))) (Br (Q=E) (Tri xS 23 #[.pointer g] V6 λe V7=>∃S:Sl,e=.returned (.agg #[S.v])/\Tri xS 22 #[S.v,t.v] V7 λe V8=>∃T:Bool,e=.returned (.bool T)/\R (.returned (.bool T)) V8) (R (.returned (.bool false)) V6)) (R (.returned (.bool false)) V6))) (R (.returned (.bool f)) V4)):=λhF=>by
  refine Tri.mono (J7 hd hl (by omega)) ?_;rintro _ V4 ⟨s4,⟨hG,rfl⟩|⟨G,p,D,P,M,I,s,rfl,hD,A,hRf,hl1,hl2⟩⟩;·exact⟨none,Ad [],Af,Af,Af,Af,Af,Af,Af,Af,Af,Af,0,0,true,rfl,λ_=>⟨λ_=>k s4,λh=>absurd rfl h⟩,λh=>absurd rfl h⟩
  refine⟨_,_,_,_,_,_,_,_,_,_,_,_,_,_,_,rfl,λ_=>⟨λh=>absurd h nn,λ_=>?_⟩,λh=>absurd rfl h⟩;haveI:Tab D:=Tab.sub (V:=V) inferInstance hD;have K:=A.ok;refine Tri.mono (Sh (nm:=nm) A (hd.sub hD) (hc.sub hD) hF (by omega)) ?_;rintro _ V5 ⟨D5,u,A5,rfl⟩;obtain⟨a1,a2,a3,a4,a5,eo⟩:=LB (AH d F s v nm args) (AZ d F.toNat s v nm args);rw[eo];refine⟨_,_,_,_,_,_,rfl,?_⟩;have d5:=hD.trans u;have e5:=A5.sub;refine Tri.mono (Si (nm:=nm) (hRf.sub (u.trans e5)) K.good (hd.sub (d5.trans e5)) (hc.sub (d5.trans e5)) hF) ?_;rintro _ V6 ⟨s6,rfl⟩;rw[eo];refine⟨_,_,_,_,_,_,rfl,λ_=>⟨λ_=>?_,λh=>absurd rfl h⟩,λh=>absurd ⟨rfl,rfl,rfl,rfl,rfl⟩ h⟩;have A6:=A5.grow s6;refine Tri.mono (LJ A6 (by omega)) ?_;rintro _ V7 ⟨o,rfl,ho⟩;refine⟨o,rfl,(c22 (ho.rows (row:=Ah) (λ_=>rfl) (by decide)) (hRf.pr.sub (u.trans (A6.sub.trans ho.sub)))).call ⟨_,rfl,?_⟩⟩;rw[decide_eq_true rfl];exact k (d5.trans (A6.sub.trans ho.sub))
 refine⟨λh1=>⟨λh2=>k (Mem.sub.refl _),λh2=>?_⟩,λh1=>?_⟩
 ·have h2:¬F<=1048576:=h2;exact key (.inr (by omega))
 ·have h1:¬120<F:=h1;exact key (.inl (by omega))
end
end Go.Proofs
