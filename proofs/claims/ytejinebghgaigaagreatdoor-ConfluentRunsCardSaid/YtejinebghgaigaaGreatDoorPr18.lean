/- Part 18: no statement of the seat is proved here. -/
import Derived.Test.YtejinebghgaigaaGreatDoorPr17
import Derived.Test.YtejinebghgaigaaGreatDoorPr16
import Derived.Test.YtejinebghgaigaaGreatDoorPr15
import Derived.Test.YtejinebghgaigaaGreatDoorPr12
set_option linter.unusedVariables false
set_option linter.unusedSimpArgs false
open List renaming mem_of_getElem?->xJ,getD_cons_zero->xr,getElem?_eq_some_iff->yw,replicate->yI,set_append_right->vO,take_add_one->wc,length_append->zw,length_map->xm,length_take->vQ,take_of_length_le->wW,getElem?_eq_getElem->yv,getElem?_zip_eq_some->vR,length_zip->vT,mem_append_left->vU,mem_cons_of_mem->zb,mem_cons_self->zc,filter_cons->z7,mem_cons->yC,mem_map->vV,mem_iff_getElem?->xn,mem_append->xh,mem_singleton->zO,length_singleton->xi,any_eq_false->vW,getElem?_map->y4,zip_nil_left->vX,zip_cons_cons->wH,ext_getElem?->zx,getElem?_eq_none_iff->vY,findIdx?_append->vz,findIdx?_eq_none_iff->vy,append_nil->wA,length_drop->vt
open Go.Value renaming int->xe
open Go.Proofs.Tryz renaming prog->xE,underlying3->wv,underlying154->vw
open Int renaming toNat_natCast->xv,toNat_of_nonneg->vu
open Nat renaming sub_self->vP,not_lt_zero->xT
open Go.Ending renaming returned->xG
open Bool renaming and_eq_true->zC,not_eq_true'->zU,not_eq_true->vx
open Prod renaming ext->vZ
open Option renaming map_some->zJ
open Prod.mk renaming inj->wu
namespace Go.Proofs
open Go Go.Sx
attribute [local irreducible] Go.Sx.Tri
section
variable{W V0 V V1 V':Mem}{d:Ds}{p F c q:Nat}{s:St}{pr:Pr}{vals:List Int}
theorem exprF{k u:Int}(M:XM V0 d p F V s u k)(w:k≠0){b:Option Addr}{e:E}:PP 318 [pv p,.pointer b,e.v] V (.int .i64 0):=by
 refine x318 ?_;exact⟨nn,nn,_,M.fault,λh=>absurd h w,λ_=>⟨rfl,rfl⟩⟩
theorem loopY{n:Nat}(hE:XExprC d p F n)(hS:JU d p F n):XLoopC d p F n:=by
 intro x W V0 V s c q pr vals h4 X hty A;obtain⟨G,hG0⟩:∃G:Rx Rt,G=DH d F (A9 d F n) c pr (n+1) x vals s:=⟨_,rfl⟩;rw[<-hG0];refine Tri.mono (S.v_eq x▸x300 (R:=PY W d p F c q pr G) ?_) λ_ _ h=>h;have hF:=X.S.fuel;have hcs:=Ga (F:=F) X.S.procs n;cases kindS hty with
 |@loop a h he hv ht=>
  have h0:x.es[0]?=some a:=by rw[he];rfl
  obtain⟨-,-,-,L,-⟩:=hty.parts;have hG:G=(EV F s).bind λ_ st=>DY d F (A9 d F n) c pr a x.ls (n+1) vals st:=by
   grind[DH,EJ]
  refine⟨λm xs V2=>xs=[]/\∃Z u s',Dq W Z d p F c q pr u (n+1) 0 V2 s'/\F<m+(s'.tk+1)/\G=(EV F s').bind λ_ st=>DY d F (A9 d F n) c pr a x.ls m u st,n+1,⟨rfl,V0,vals,s,X,by have:=X.n;omega,hG⟩,?_⟩;rintro m V2 ⟨-,Z,u,s',X',hm,hG'⟩ J hJ;refine Tri.mono (c301 hF X'.M) ?_;rintro e1 V3 (⟨I,rfl,M3⟩|⟨I,rfl,M3⟩);rotate_left
  ·refine⟨_,rfl,(λh=>by cases h),λ_=>PY.bad (s:=s') ?_ (by decide) X'.fr M3⟩;rw[hG',Lb I];rfl
  have N:=X'.tick I M3;have E:G=DY d F (A9 d F n) c pr a x.ls m u {s' with tk:=s'.tk+1}:=by rw[hG',La I];rfl
  obtain⟨m,rfl⟩:∃m',m=m'+1:=⟨m-1,by omega⟩;rw[DY]at E;have hp:=GR hv;obtain⟨k1,k3,k4⟩:=esAt (A.sub (N.fr.sub.trans N.M.sub)) h0;have HE:=hE a Au Z V3 _ c q pr u (N.cx.le (k:=AB a) (by omega)) hp.1 ((A.eOk a (xJ h0)).sub N.fr.sub) ht;refine⟨_,rfl,λ_=>⟨k1,by decide,k3,_,_,_,_,k4,XR.any HE λv kf K V4 M4 hc=>?_⟩,λh=>absurd rfl h⟩;rcases hc with⟨rfl,e2⟩|⟨T,rfl,e2⟩;rotate_left;·exact AV rfl (PY.bad (by rw[E];unfold CT;rw[e2];rfl) T N.fr M4)
  obtain⟨G2,g2,q2⟩:=(GS (F:=F) (c:=c) N.S.procs hcs N.po hv ht N.G N.hv).got e2;have e:G=if v=0 then .ok (u,none) K else(A9 d F n c pr x.ls u K).bind λr st=>match r.2 with|some _=>.ok r st|none=>(EV F st).bind λ_ st=>DY d F (A9 d F n) c pr a x.ls m r.1 st:=by
   rw[E];unfold CT;rw[e2];rfl
  have U:Dq W Z d p F c q pr u n 0 V4 K:=(N.le (k:=1000+0) (by omega)).next g2 G2 N.fr (BQ (λh=>g2.right h) N.hv) M4;refine⟨λhz=>?_,λhz=>⟨nn,nn,_,M4.fault,λ_=>?_,λh=>absurd rfl h⟩⟩
  ·rw[if_pos (show v=0 from hz)]at e;exact PY.ok e U.fr M4
  rw[if_neg (show ¬v=0 from hz)]at e;have P:=hcs c pr x.ls u K U.po L U.G U.hv;refine PY.any (hS x.ls W Z V4 K c q pr u x.ll U L A.lOk A.lRows) λV2' Y rv kf s3 V5 Q M5 hc=>?_;refine⟨nn,nn,_,Q.done M5,λhd=>?_,λhd=>⟨nn,nn,_,M5.fault,λH=>?_,λH=>?_⟩⟩
  ·rcases hc with⟨rfl,C⟩|⟨T,C⟩
   ·cases rv with
    |none=>cases hd
    |some z=>exact PY.ok (rt:=(Y,some z)) (by rw[e,C];rfl) Q M5
   ·exact PY.bad (by rw[e,C];rfl) T Q M5
  ·have H:kf=0:=H;rcases hc with⟨-,C⟩|⟨T,-⟩;rotate_left;·omega
   subst H;cases rv with
   |some z=>grind
   |none=>
    obtain⟨G3,g3,q3⟩:=P.got C;have t2:=g2.tk;have t3:=g3.tk;have hn1:=X'.n;have ht2:s'.tk+1<=K.tk:=t2;refine hJ m _ _ (by omega) ⟨rfl,V2',Y,s3,?_,by omega,by rw[e,C];rfl⟩;have D:=U.next (m:=0) (k:=0) g3 G3 Q q3.1 M5;exact⟨D.S,D.fr,D.pm,D.G,D.hv,D.M,D.tk,by omega,D.w⟩
  ·have H:¬kf=0:=H;rcases hc with⟨h,-⟩|⟨T,C⟩;·omega
   ·exact PY.bad (by rw[e,C];rfl) T Q M5
 |set h=>omega
 |put h=>omega
 |cond h=>omega
 |ret0 h=>omega
 |ret1 h=>omega
 |call h=>omega
theorem retY{w z:Int}(k:Eh W V0 q pr vals none)(M:XM V0 d p F V s z w){v:Int}{Q:Mem->Prop}(r:∀u V',Eh W u q pr vals (some v)->XM u d p F V' s z w->Q V'):
  Ao (Aa (sa q) 8) 0 [.int .i64 v] V λV2=>¬(some (⟨q,0,none⟩:Addr))=none/\¬(some (⟨q,0,none⟩:Addr))=none/\Ao (Aa (sa q) 7) 0 [.bool true] V2 Q:=by
 obtain⟨a,b,h1,h2,h3⟩:=k.ex;have e:V0 q≠none:=by rw[h1];simp
 refine Ao.at2 (off:=8) (M.sub _ _ h1) (by simp[Dp]) ⟨nn,nn,Ao.at2 (off:=7) Az (by simp[Dp]) ?_⟩;have H:=Ng h3 k.q0 h1 (.cells ((Dp pr a b none).toArray.toList.take 8++[xe .i64 v]++(Dp pr a b none).toArray.toList.drop (8+[xe .i64 v].length)).toArray 372 (0,0));have J:=Ng H k.q0 Az (.cells (Dp pr a b (some v)).toArray 372 (0,0));have G:=M.poke e (.cells ((Dp pr a b none).toArray.toList.take 8++[xe .i64 v]++(Dp pr a b none).toArray.toList.drop (8+[xe .i64 v].length)).toArray 372 (0,0));have N:=G.poke (b:=q) (by rw[Mem.set_same];simp) (.cells (Dp pr a b (some v)).toArray 372 (0,0));exact r _ _ ⟨(k.sub.set k.q0 _).set k.q0 _,k.q0,a,b,Mem.set_same _ _ _,h2,J⟩ N
theorem retY0{w z:Int}(k:Eh W V0 q pr vals none)(M:XM V0 d p F V s z w){Q:Mem->Prop}(r:∀u V',Eh W u q pr vals (some 0)->XM u d p F V' s z w->Q V'):
  Ao (Aa (sa q) 7) 0 [.bool true] V Q:=by
 obtain⟨a,b,h1,h2,h3⟩:=k.ex;have e:V0 q≠none:=by rw[h1];simp
 refine Ao.at2 (off:=7) (M.sub _ _ h1) (by simp[Dp]) ?_;have v:=Ng h3 k.q0 h1 (.cells (Dp pr a b (some 0)).toArray 372 (0,0));have H:=M.poke e (.cells (Dp pr a b (some 0)).toArray 372 (0,0));exact r _ _ ⟨k.sub.set k.q0 _,k.q0,a,b,Mem.set_same _ _ _,h2,v⟩ H
theorem bodyY{n:Nat}(hE:XExprC d p F n)(hR:XCallC d p F n)(hS:JU d p F n):XBodyC d p F n:=by
 intro x W V0 V s c q pr vals h4 I hty H;obtain⟨G,Y⟩:∃G:Rx Rt,G=EJ d F (A9 d F n) c pr (n+1) x vals s:=⟨_,rfl⟩;rw[<-Y];refine Tri.mono (S.v_eq x▸x302 (R:=PY W d p F c q pr G) ?_) λ_ _ h=>h;have hcs:=Ga (F:=F) I.S.procs n;have ex:∀{i:Nat}{a:E}{u:KB}{V2 N:Mem}{r:List Int}{X:St}{m:Nat},x.es[i]?=some a->Bz a=true->As d (Av d pr) a=(u,0)->Dq W N d p F c q pr r n m V2 X->1000<=m->
   Tri xE 318 #[pv p,pv q,.agg #[.int .i64 a.op,.int .i64 a.n,.string a.s,.slice a.l.p a.l.n a.l.c]] V2 (XR N d p F c (CT d (A9 d F n) c pr r a X)):=λ{i a u V2 N r X m} K hv ha J hm=>by
  have hp:=GR hv;exact hE a u N V2 X c q pr r (J.cx.le (by omega)) hp.1 ((H.eOk a (xJ K)).sub J.fr.sub) ha
 have go:∀{a:E}{u:KB}{V2 V3 N:Mem}{r:List Int}{X s3:St}{m:Nat}{v:Int},Bz a=true->As d (Av d pr) a=(u,0)->Dq W N d p F c q pr r n (1000+m) V2 X->CT d (A9 d F n) c pr r a X=.ok v s3->XM N d p F V3 s3 c 0->
   Dq W N d p F c q pr r n m V3 s3/\Cb d s3.mm u v/\Gr F 1000 X s3:=λ{a u V2 V3 N r X s3 m v} hv ha J e M3=>by
  obtain⟨G3,g3,q3⟩:=(GS (F:=F) (c:=c) J.S.procs hcs J.po hv ha J.G J.hv).got e;exact⟨J.next g3 G3 J.fr (BQ (λh=>g3.right h) J.hv) M3,q3,g3⟩
 unfold EJ at Y;have T:=I.fr.sub.trans I.M.sub;cases kindS hty with
 |@set a u t h C hv ht hl hne hf=>
  rw[if_pos h,C,xr]at Y;have K:x.es[0]?=some a:=by rw[C];rfl
  obtain⟨k1,k3,k4⟩:=esAt (H.sub T) K;refine AV h ⟨k1,by decide,k3,_,_,_,_,k4,XR.any (ex K hv ht I (by omega)) λv kf X V2 Q U=>?_⟩;refine x319 ?_;refine⟨nn,nn,_,Q.fault,λZ=>?_,λZ=>?_⟩;rotate_left
  ·rcases U with⟨h,-⟩|⟨D,-,A⟩;·omega
   ·exact⟨rfl,PY.bad (by rw[Y,A];rfl) D I.fr Q⟩
  have Z:kf=0:=Z;rcases U with⟨-,A⟩|⟨D,-⟩;rotate_left;·exact absurd Z D
  subst Z;rw[A]at Y;have hG2:G=setX d pr x.s v vals X:=Y;obtain⟨J,hv2,-⟩:=go (m:=3000) hv ht I A Q;obtain⟨fa,fb,hq0,hra0,hrb0⟩:=J.fr.ex;have hq:=Q.sub _ _ hq0;refine⟨nn,nn,fa,An hq 5 1 (by simp[Dp]),(c336 (hra0.sub (J.fr.sub.trans Q.sub))).call ⟨_,rfl,?_⟩⟩;unfold setX at hG2;rcases H8 J.G J.hv J.po.vars hl hne with⟨i,g,w,h1,h2,h3,h4,-⟩|⟨i,g,w,h0',h1,h2,h3,h4,-⟩
  ·rw[h1];rw[if_pos (by omega),h1,xv]at hG2;have hil:=(yw.1 h3).1;obtain⟨g1,g2,g3,-⟩:=Fm (hrb0.rows (λ_=>rfl) (by decide)) h3;refine AV (by omega) ⟨nn,nn,fb,An hq 6 1 (by simp[Dp]),g1,g2,g3,frStoreX hrb0 Q hil λN V' ho M' hx=>?_⟩;refine⟨rfl,PY.ok (rt:=(vals.set i v,none)) hG2 ⟨ho.sub,J.fr.q0,fa,fb,?_,hra0,ho⟩ M'⟩;rw[hx];exact hq0;exact hrb0.apart λcur hcq=>by
    simp_all
  ·rw[h0'];rw[if_neg (by omega),h1,xv]at hG2;obtain⟨gs,ns,ls,nd,hat,L⟩:=Q.ex;have hd:=(J.S.sub J.fr.sub).ds.sub L.sub;refine Ah (by decide) ⟨nn,nn,AX,d.gs,An hat 2 1 (by simp[AF]),(c336 hd.globals).call ⟨_,rfl,?_⟩⟩;rw[h1];refine Tri.mono (c331 Q (Yx.fit (m:=0) (J.cx.le (by omega)))) ?_;rintro _ V5 ⟨rfl,M5⟩;obtain⟨gs5,ns5,G8,nd5,P,L5⟩:=M5.ex;obtain⟨g1,g2,g3,-⟩:=Fm (L5.glob.rows (λ_=>rfl) (by decide)) (i:=i) (v:=w) h3;have hil:=(yw.1 h3).1;refine⟨rfl,nn,nn,AX,gs5,An P 8 1 (by simp[AF]),g1,g2,g3,L5.setG (i:=i) hil λV6 L6 hk6=>?_⟩;refine⟨rfl,PY.ok (V0:=V0) (rt:=(vals,none)) hG2 J.fr (MA.mk M5.p0 ⟨gs5,ns5,G8,nd5,?_,L6⟩)⟩;rw[hk6 _ (Hu P E8 L5.glob (.inl rfl))];exact P
 |@put a b u w t h C hv hw ha ht hl hf=>
  rw[if_neg (by omega),if_pos h,C,xr,List.getD_cons_succ,xr]at Y;have K:x.es[0]?=some a:=by rw[C];rfl
  have h1:x.es[1]?=some b:=by rw[C];rfl
  obtain⟨k1,k3,k4⟩:=esAt (H.sub T) K;refine Ah (by omega) (AV h ?_);refine x320 ?_;refine⟨k1,by decide,k3,_,_,_,_,k4,XR.any (ex K hv ha I (by omega)) λv kf X V2 Q U=>?_⟩;obtain⟨l1,l3,l4⟩:=esAt (H.sub (I.fr.sub.trans Q.sub)) h1;refine⟨l1,by decide,l3,_,_,_,_,l4,?_⟩;rcases U with⟨rfl,A⟩|⟨D,-,A⟩;rotate_left;·exact(exprF Q D (e:=b)).call ⟨_,rfl,nn,nn,_,Q.fault,λh=>absurd h D,λ_=>⟨rfl,PY.bad (by rw[Y,A];rfl) D I.fr Q⟩⟩
  rw[A]at Y;obtain⟨J,hv2,-⟩:=go (m:=3000) hv ha I A Q;refine XR.any (ex h1 hw ht J (by omega)) λy kf s3 V3 M3 U=>⟨nn,nn,_,M3.fault,λZ=>?_,λZ=>?_⟩;rotate_left
  ·rcases U with⟨h,-⟩|⟨D,-,e3⟩;·omega
   ·exact⟨rfl,PY.bad (by rw[Y];show((CT d (A9 d F n) c pr vals b X).bind _)=_;rw[e3];rfl) D J.fr M3⟩
  have Z:kf=0:=Z;rcases U with⟨-,e3⟩|⟨D,-⟩;rotate_left;·exact absurd Z D
  subst Z;have hG3:G=(putX d v y x.s s3).bind λ_ st=>.ok (vals,none) st:=by rw[Y];show((CT d (A9 d F n) c pr vals b X).bind _)=_;rw[e3];rfl
  obtain⟨X3,hv3,g3⟩:=go (m:=2000) hw ht J e3 M3;have hv2:=g3.val hv2;refine⟨λZ=>?_,λZ=>?_⟩
  ·refine Tri.mono (c275 M3) ?_;rintro _ V4 ⟨rfl,M4⟩;refine⟨_,rfl,rfl,PY.bad (s:=s3) (k:=17) ?_ (by decide) X3.fr M4⟩;rw[hG3];unfold putX;rw[if_pos (show v=0 from Z)];rfl
  have Z:¬v=0:=Z;obtain⟨k,i,j,tt,g,fs,z,rfl,f2,f3,f4,f5,f6,f7,f8,-⟩:=I4 X3.G hl hv2 Z;have hG4:G=.ok (vals,none) {s3 with ns:=s3.ns.set k ((j:Int),fs.set i y),lg:=s3.lg++[(2,(k:Int)+1,(i:Int))]}:=by
   rw[hG3];unfold putX;rw[if_neg Z,show((k:Int)+1-1).toNat=k by omega,f2];simp only;rw[f5,f6,xv];rfl
  refine(c330 (X3.S.sub X3.fr.sub) M3 f2 f3).call ⟨_,rfl,?_⟩;rw[f6];refine Tri.mono (c331 M3 (Yx.fit (m:=0) (X3.cx.le (by omega)))) ?_;rintro _ V5 ⟨rfl,M5⟩;obtain⟨gs5,ns5,G8,nd5,sl5,P,L5,hnd5,hI,n1,n2,n3,n4,m1,m2,m3,m4⟩:=nodeX M5 (k:=k) (i:=i) f2 f8;have hil:=(yw.1 f8).1;rw[show((k:Int)+1-1)=(k:Int)by omega];refine⟨rfl,nn,nn,AX,ns5,An P 9 1 (by simp[AF]),hI,n1,n2,n3,Ak n1,_,_,n4,m1,m2,m3,L5.setF hnd5 hil λV6 L6 hk6=>?_⟩;refine⟨rfl,PY.ok (V0:=V0) (rt:=(vals,none)) hG4 X3.fr (MA.mk M5.p0 ⟨gs5,ns5,G8,_,?_,L6⟩)⟩;rw[hk6 _ (Hu P E8 (L5.fld _ (xJ hnd5)) (.inl rfl))];exact P
 |@cond a h C hv ht=>
  rw[if_neg (by omega),if_neg (by omega),if_pos h,C,xr]at Y;have K:x.es[0]?=some a:=by rw[C];rfl
  obtain⟨k1,k3,k4⟩:=esAt (H.sub T) K;obtain⟨-,-,-,hlt1,hlt2⟩:=hty.parts;refine Ah (by omega) (Ah (by omega) (AV h ⟨k1,by decide,k3,_,_,_,_,k4,XR.any (ex K hv ht I (by omega)) λv kf X V2 Q U=>⟨nn,nn,_,Q.fault,λZ=>?_,λZ=>?_⟩⟩));rotate_left
  ·rcases U with⟨h,-⟩|⟨D,-,A⟩;·omega
   ·exact PY.bad (by rw[Y,A];rfl) D I.fr Q
  have Z:kf=0:=Z;rcases U with⟨-,A⟩|⟨D,-⟩;rotate_left;·omega
  subst Z;rw[A]at Y;have hG2:G=if v=0 then A9 d F n c pr x.xs vals X else A9 d F n c pr x.ls vals X:=Y
  obtain⟨J,-,-⟩:=go (m:=3000) hv ht I A Q;refine⟨λZ=>PY.last ?_ (hS x.xs W V0 V2 X c q pr vals x.xl (J.le (by omega)) hlt2 H.xOk H.xRows),λZ=>PY.last ?_ (hS x.ls W V0 V2 X c q pr vals x.ll (J.le (by omega)) hlt1 H.lOk H.lRows)⟩;·simp_all
  simp_all
 |loop h=>exact absurd h h4
 |ret0 h C hr=>
  rw[if_neg (by omega),if_neg (by omega),if_neg (by omega),if_neg (by omega),if_pos h,C]at Y;have hn:=(H.sub T).eRows.n_eq;rw[C]at hn;refine Ah (by omega) (Ah (by omega) (Ah (by omega) (AV h (Ah (by rw[hn];decide) ⟨nn,nn,retY0 I.fr I.M λN V' hf M'=>?_⟩))));exact PY.ok (rt:=(vals,some 0)) Y hf M'
 |@ret1 a u h C hv ht hr hf=>
  rw[if_neg (by omega),if_neg (by omega),if_neg (by omega),if_neg (by omega),if_pos h,C]at Y;have K:x.es[0]?=some a:=by rw[C];rfl
  have hn:=(H.sub T).eRows.n_eq;rw[C]at hn;obtain⟨k1,k3,k4⟩:=esAt (H.sub T) K;refine Ah (by omega) (Ah (by omega) (Ah (by omega) (AV h (AV (by rw[hn];rfl) ⟨k1,by decide,k3,_,_,_,_,k4,XR.any (ex K hv ht I (by omega)) λv kf X V2 Q U=>⟨nn,nn,retY I.fr Q λN V' hf M'=>?_⟩⟩))));rcases U with⟨rfl,A⟩|⟨D,-,A⟩;·exact PY.ok (rt:=(vals,some v)) (by rw[Y];show(CT d (A9 d F n) c pr vals a s).bind _=_;rw[A];rfl) hf M'
  ·exact PY.bad (by rw[Y];show(CT d (A9 d F n) c pr vals a s).bind _=_;rw[A];rfl) D hf M'
 |@call a pr' i h C hv ho U=>
  rw[if_neg (by omega),if_neg (by omega),if_neg (by omega),if_neg (by omega),if_neg (by omega),if_pos h,C,xr]at Y;have K:x.es[0]?=some a:=by rw[C];rfl
  obtain⟨k1,k3,k4⟩:=esAt (H.sub T) K;have hp:=GR hv;refine Ah (by omega) (Ah (by omega) (Ah (by omega) (Ah (by omega) (AV h ⟨k1,by decide,k3,_,_,_,_,k4,XR.any (exprX0 hR a V0 V s c q pr vals (I.cx.le (by omega)) hp.1 ((H.eOk a (xJ K)).sub I.fr.sub) (.inr ⟨ho,pr',i,U⟩)) λv kf X V2 Q hcc=>?_⟩))));rcases hcc with⟨rfl,A⟩|⟨D,-,A⟩;·exact PY.ok (rt:=(vals,none)) (by rw[Y];unfold CT;rw[A];rfl) I.fr Q
  ·exact PY.bad (by rw[Y];unfold CT;rw[A];rfl) D I.fr Q
end
theorem set_fill{args:List Int}{n i:Nat}{v:Int}(hi:args[i]?=some v)(u:i<n):(args.take i++yI (n-i) 0).set i v=args.take (i+1)++yI (n-(i+1)) 0:=by
 have w:=(yw.1 hi).1;have k:(args.take i).length=i:=by grind
 rw[vO _ _ (by omega),k,vP];obtain⟨m,hm⟩:∃m,n-i=m+1:=⟨n-i-1,by omega⟩;grind[wc]
section
variable{V0 V:Mem}{d:Ds}{p F:Nat}{s:St}
theorem callY{n:Nat}(H:JU d p F n):XCallC d p F n:=by
 intro V0 V s c i pr args l hS r G ha hl M htk hn hw;obtain⟨G',hG⟩:∃G':Rx Int,G'=CA d (A9 d F n) c i args s:=⟨_,rfl⟩;rw[<-hG];have N:=xJ r;have I:=hS.procs pr N;refine Tri.mono (x241 (R:=XR V0 d p F c G') ?_) λ_ _ h=>h;obtain⟨gs,ns,ls,nd,Z,L⟩:=M.ex;unfold CA at hG;refine⟨nn,nn,_,An Z 12 1 (by simp[AF]),λh2=>failX M (by decide) (by grind),λh2=>?_⟩;rw[if_neg (by omega),xv,r]at hG;refine⟨nn,nn,_,An Z 12 1 (by simp[AF]),⟨by omega,by omega⟩,nn,nn,Ao.at2 (off:=12) Z (by simp[AF]) ?_⟩;have M1:XM V0 d p F (V.set p (.cells (AF d F s.tk ((c+1:Nat):Int) 0 s.cm (Be s.lg) gs ns ls).toArray 302 (0,0))) s ((c+1:Nat):Int) 0:=MA.set (row':=AF d F s.tk ((c+1:Nat):Int) 0 s.cm (Be s.lg)) E8 M.p0 Z L rfl rfl rfl rfl;obtain⟨V1,hV1⟩:∃V1,V1=V.set p (.cells (AF d F s.tk ((c+1:Nat):Int) 0 s.cm (Be s.lg) gs ns ls).toArray 302 (0,0)):=⟨_,rfl⟩;rw[<-hV1]at M1;have e1:V.set p (.cells ((AF d F s.tk c 0 s.cm (Be s.lg) gs ns ls).toArray.toList.take 12++[xe .i64 ((c:Int)+1)]++(AF d F s.tk c 0 s.cm (Be s.lg) gs ns ls).toArray.toList.drop (12+[xe .i64 ((c:Int)+1)].length)).toArray 302 (0,0))=V1:=by rw[hV1];rfl
 erw [e1]
 obtain⟨gs1,ns1,Nf,I9,hat1,L1⟩:=M1.ex;have X:=hS.ds.sub L1.sub;have hn1:=X.procs.n_eq;have hil:=(yw.1 r).1;obtain⟨y,-,hy,-,-,hp1,hz1,C⟩:=X.procs.get (i:=i) (by omega);rw[r]at hy;cases hy;refine⟨nn,nn,AX,d.ps,An hat1 3 1 (by simp[AF]),hp1,hz1,by omega,_,_,_,_,_,C,λb0 hb0=>?_⟩;have hok:=X.procsOk pr N;have hln:=I.lens;have s0:=Mem.sub_new hb0 (.cells #[] 112 (0,0));refine ET (s:=⟨some ⟨b0,0,none⟩,0,0⟩) (u:=pr.ps) (xs:=[]) (ys:=pr.params) rfl rfl (Own.empty s0 _ _ _) (hok.params.sub s0) (by simp;omega) λs2 V2 o2=>⟨s2,rfl,?_⟩;refine ET (s:=s2) (u:=pr.ls) (xs:=pr.params) (ys:=pr.locals) rfl rfl o2 (hok.locals.sub o2.sub) (by omega) λk V3 o3=>⟨k,rfl,?_⟩;have h3n:=o3.n_eq (λ_=>rfl) (by decide);rw[zw]at h3n;refine mk43 (n:=k.n) rfl rfl (by omega) λg hg=>⟨⟨some ⟨g,0,none⟩,k.n,k.n⟩,rfl,?_⟩;have hown:=Jb hg (n:=k.n) (by omega);have hal:=(Cm.1 ha).1;obtain⟨V4,hV4⟩:∃V4,V4=V3.set g (.cells (madeCells (xe .i64 0).cells (k.n*1)) 3 (0,0)):=⟨_,rfl⟩;rw[<-hV4]at hown⊢;refine Fz args.length (λj D=>Sx.Own V3 D 3 1 ⟨some ⟨g,0,none⟩,k.n,k.n⟩ ((args.take j++yI (k.n-j) 0).flatMap Al)) (by simp_all) ?_;rintro j D J hj o5 hJ;have E:=o5.sub;have K:=hl.sub ((M1.sub.trans o3.sub).trans E);refine⟨λS=>?_,λhge=>?_⟩
 ·obtain⟨v,-,hv,-,hjl,hp,hz,hrow⟩:=K.get S;refine⟨hp,hz,S,v,hrow,nn,by omega,(show(j:Int)<(k.n:Int)by omega),?_⟩;show Ao (Aa (sa g) (j*1)) 0 [.int .i64 v] D _;rw[Nat.mul_one];refine Own.store o5 (i:=j) (by rw[CB,xm,zw,vQ,List.length_replicate];omega) λV6 o6 _=>⟨K.succ S,hJ hjl _ ?_⟩;have e:((args.take j++yI (k.n-j) 0).flatMap Al).set j (xe .i64 v)=(args.take (j+1)++yI (k.n-(j+1)) 0).flatMap Al:=by
   rw[CB,CB,<-set_fill hv (by omega),List.map_set]
  simp_all
 ·have hdn:=(K.done hge).2;have hja:j=args.length:=by omega
  subst hja;rw[List.take_length,show k.n-args.length=pr.locals.length by omega]at o5;intro b2 hb2;obtain⟨V6,Y⟩:∃V6,V6=D.set b2 (.cells (Dp pr k ⟨some ⟨g,0,none⟩,k.n,k.n⟩ none).toArray 372 (0,0)):=⟨_,rfl⟩;have e6:D.set b2 (.cells #[uS pr.name,uL pr.ps,uS pr.result,uL pr.ls,uL pr.bs,uL k,uL ⟨some ⟨g,0,none⟩,k.n,k.n⟩,uB false,uI 0] 372 (0,0))=V6:=by rw[Y];rfl
  show Tri _ _ #[pv p,pv b2,.slice pr.bs.p pr.bs.n pr.bs.c] (D.set b2 (.cells #[uS pr.name,uL pr.ps,uS pr.result,uL pr.ls,uL pr.bs,uL k,uL ⟨some ⟨g,0,none⟩,k.n,k.n⟩,uB false,uI 0] 372 (0,0))) _;rw[e6];have s56:D.sub V6:=Y▸Mem.sub_new hb2 _;have s36:=E.trans s56;have s16:=o3.sub.trans s36;obtain⟨W0,w0,w6,MW,T⟩:=M1.after s16;have n1:∀{b:Nat},V3 b=none->V1 b=none:=λ{b} h=>free o3.sub h;have n5:V3 b2=none:=free E hb2;obtain⟨b,hb⟩:∃b:Sl,b=⟨some ⟨g,0,none⟩,k.n,k.n⟩:=⟨_,rfl⟩;rw[<-hb]at o5 Y;have hbk:∀{x:Nat},Bh b x->V3 x=none:=λh=>Own.none0 o5 h;have nb2:¬Bh b b2:=λU=>by
   grind[Own.some]
  obtain⟨W,hW⟩:∃W,W=Mem.minus W0 (λx=>x=b2∨Bh b x):=⟨_,rfl⟩;have hWW:W.sub W0:=by rw[hW];exact GW
  have V03:V0.sub V3:=M1.sub.trans o3.sub;have hws:V0.sub W:=λx o hx=>by
   rw[hW,C6];·exact w0 _ _ hx
   ·rintro(rfl|U);·have:=V03 _ _ hx;simp_all
    ·have:=V03 _ _ hx;simp_all
  have o5':Sx.Own W W0 3 1 b ((args++yI pr.locals.length (0:Int)).flatMap Al):=Jc o5 hWW λx o U h0 h1=>⟨by rw[hW];exact EK (.inr U),T _ _ (n1 h0) (s56 _ _ h1)⟩;have hs3:Sx.Own (λ_=>none) W 112 2 k ((pr.params++pr.locals).flatMap Fld.row):=Jc o3 (λ_ _ h=>by cases h) λx o U h0 h1=>⟨rfl,by
   rw[hW,C6];·exact T _ _ h0 (s36 _ _ h1)
   grind⟩
  have hfr:W0 b2=some (.cells (Dp pr k b none).toArray 372 (0,0)):=T _ _ (n1 n5) (by rw[Y];exact Mem.set_same _ _ _);have FR:Eh W W0 b2 pr (args++yI pr.locals.length 0) none:=⟨hWW,by rw[hW];exact EK (.inl rfl),k,b,hfr,hs3.rows (λ_=>rfl) (by decide),o5'⟩;have hv:=JO ha (KY G.valid λf hf=>I.vars f (List.mem_append_right _ hf));have A:=(hS.ds.sub hws).procsOk pr N;refine PY.any (H pr.body W W0 V6 s (c+1) b2 pr _ pr.bs ⟨hS.sub hws,FR,N,G,hv,MW,htk,hn,hw⟩ I.body (λx hx=>A.stmts x hx) A.body) λW7 vals7 rv kf w V7 f7 M7 hc=>?_;obtain⟨Q,P,G7,nd7,z,L7⟩:=M7.ex;refine⟨nn,nn,_,An z 12 1 (by simp[AF]),⟨by omega,by omega⟩,nn,nn,Ao.at2 (off:=12) z (by simp[AF]) ?_⟩;have M8:XM W7 d p F (V7.set p (.cells (AF d F w.tk c kf w.cm (Be w.lg) Q P G7).toArray 302 (0,0))) w c kf:=MA.set (row':=AF d F w.tk c kf w.cm (Be w.lg)) E8 M7.p0 z L7 rfl rfl rfl rfl;obtain⟨V8,hV8⟩:∃V8,V8=V7.set p (.cells (AF d F w.tk c kf w.cm (Be w.lg) Q P G7).toArray 302 (0,0)):=⟨_,rfl⟩;rw[<-hV8]at M8;have e8:V7.set p (.cells ((AF d F w.tk ((c+1:Nat):Int) kf w.cm (Be w.lg) Q P G7).toArray.toList.take 12++[xe .i64 (((c+1:Nat):Int)-1)]++(AF d F w.tk ((c+1:Nat):Int) kf w.cm (Be w.lg) Q P G7).toArray.toList.drop (12+[xe .i64 (((c+1:Nat):Int)-1)].length)).toArray 302 (0,0))=V8:=by
   rw[hV8,show(((c+1:Nat):Int)-1)=(c:Int)by omega];rfl
  erw [e8]
  obtain⟨fa,fb,hq7,-,-⟩:=f7.ex;have MN:=M8.narrow (hws.trans f7.sub);refine⟨nn,nn,_,M8.fault,λhz=>⟨nn,nn,_,An (M8.sub _ _ hq7) 8 1 (by simp[Dp]),?_⟩,λhz=>?_⟩
  ·have hz:kf=0:=hz;rcases hc with⟨-,e⟩|⟨U,-⟩
   ·subst hz;exact XR.ok (by rw[hG];show((A9 d F n (c+1) pr pr.body _ s).bind _)=_;rw[e];rfl) MN
   omega
  ·rcases hc with⟨h,-⟩|⟨U,e⟩;·omega
   ·exact XR.bad (by rw[hG];show((A9 d F n (c+1) pr pr.body _ s).bind _)=_;rw[e];rfl) U MN
theorem allY(d:Ds)(p F:Nat):∀n,JU d p F n
 |0=>λl W V0 V s c q pr vals sl X _ _ _=>absurd X.n (by have:=X.tk;omega)
 |n+1=>stsY (loopY (exprX (callY (allY d p F n))) (allY d p F n)) (bodyY (exprX (callY (allY d p F n))) (callY (allY d p F n)) (allY d p F n))
end
theorem copyInt{V:Mem}{b:Nat}{l:Sl}{xs:List Int}(w:V b=none)(h:Ad V l 1 (xs.map Al))(z:xs.length<=2147483648){ty:Nat}{x y:Operand}{vals:Operand->Value}(r:vals x=.slice (sa b) 0 0)(e:vals y=.slice l.p l.n l.c){Q:Value->Mem->Prop}(v:∀s V',Sx.Own V V' 3 1 s (xs.flatMap Al)->Q (.slice s.p s.n s.c) V'):
  GenK xE (.call {callee:=.builtin .append,args:=#[x,y],argTypes:=#[43,43]}) ty vals (V.set b (.cells #[] 3 (0,0))) Q:=by
 have k:=Mem.sub_new w (.cells #[] 3 (0,0));exact FG (s:=⟨some ⟨b,0,none⟩,0,0⟩) (u:=l) (xs:=[]) (ys:=xs) r e (Own.empty (V0:=V) k _ _ _) (h.sub k) (by simpa using z) λs' V' H=>v s' V' (by simpa using H)
theorem Nh{V:Mem}{m:Mm}(hm:Mm.Ok V m)(h1:m.globals.length<=2147483648)(h2:m.nodes.length<=4096)(h3:∀n∈m.nodes,n.f.length<=2147483648):Tri xE 61 #[m.v] V λe V'=>∃gs ns nd,e=.returned (.agg #[.slice gs.p gs.n gs.c,.slice ns.p ns.n ns.c])/\AP V V' gs ns Aj nd (AR m):=by
 refine QC ?_;intro b0 Y;refine copyInt Y hm.globals h1 rfl rfl λgs V1 Q=>?_;refine⟨gs,rfl,loop3u (mk:=λs:Sl=>.slice s.p s.n s.c) (mc:=λs:Sl=>.slice s.p s.n s.c) (b0:=gs) (c0:=⟨none,0,0⟩) Bw Bw m.nodes.length (λi b ns V2=>b=gs/\∃nd,AP V V2 gs ns Aj nd ⟨m.globals,(m.nodes.take i).map λn=>(n.ty,n.f),0,0,[]⟩/\nd.length=i) ⟨rfl,[],⟨Q,Own.nil Q.sub _ _,Own.nil Q.sub _ _,(λn P=>by cases P),rfl,(λn P=>by cases P),(λi j n U c h=>by cases h)⟩,rfl⟩ ?_⟩;rintro i b ns V2 J hi ⟨rfl,nd,L,E⟩ K;have Z:=hm.nodes.sub L.sub;refine⟨λu=>?_,λA=>?_⟩
 ·obtain⟨x,H,S,-,I,r,G,z⟩:=Z.get u;have N:=Ak (n:=i*2) r;have X:(i:Int)<(m.ns.n:Int):=u;refine⟨r,G,u,N,x.ty,x.sl,z,r,G,u,N,x.ty,x.sl,z,JI (j:=1) (m:=1) z (by decide) (by decide),N,r,G,u,KL (k:=1) z (by decide),N,r,G,u,λb1 M=>?_⟩;refine copyInt M ((hm.nodesOk x H).rows.sub L.sub) (h3 x H) rfl rfl λfs V3 C=>?_;have w:=(Z.sub C.sub).get u;obtain⟨y,-,D,-,-,-,-,w⟩:=w;rw[S]at D;cases D;refine⟨fs,rfl,KL (k:=1) w (by decide),N,r,G,u,λtb R=>L.new (n:=⟨x.ty,fs,x.f⟩) C R rfl rfl (by omega) λs' V' L' _=>⟨s',rfl,Z.succ u,K I _ _ _ ⟨rfl,nd++[⟨x.ty,fs,x.f⟩],?_,by simp_all⟩⟩⟩;grind[wc]
 ·have T:=(Z.done A).2;rw[wW T]at L;exact⟨b,ns,nd,rfl,L⟩
section
variable{V V0:Mem}{d:Ds}{m:Mm}{F:Nat}{nm:KB}{args:List Int}{l:Sl}
theorem Q5(k:Ds.Ok V d)(hm:Mm.Ok V m){F:Int}:PP 87 [d.v,m.v,.int .i64 F] V (.int .i64 (C8 d m F)):=by
 refine Qm ?_;have bad:¬Am d m->(xG (.int .i64 1)=.returned (.int .i64 (C8 d m F))/\V=V):=λh=>⟨by grind[C8],rfl⟩;refine(Ml k).call ⟨_,rfl,λh1=>(c135 k).call ⟨_,rfl,λh2=>(Oo k hm).call ⟨_,rfl,λh3=>?_,λh3=>bad λG=>h3 G.mem⟩,λh2=>bad λG=>h2 ?_⟩,λh1=>bad λG=>h1 G.valid⟩
 ·have h2:wellT d=true:=h2;unfold wellT at h2;rw[zC,decide_eq_true_eq]at h2;have G:Am d m:=⟨h1,Na h2.2,h3⟩;refine⟨λh=>⟨?_,rfl⟩,λh=>⟨λh2=>⟨?_,rfl⟩,λh2=>⟨?_,rfl⟩⟩⟩;·grind[C8]
  ·grind[C8]
  grind[C8]
 ·show wellT d=true;unfold wellT;rw[G.chk,G.valid];rfl
theorem c197(r:Ds.Ok V d)(hm:Mm.Ok V m)(Q:Ad V l 1 (args.map Al)):
  PP 197 [d.v,m.v,.agg #[.string nm,l.v]] V (.int .i64 (AQ d m nm args)):=by
 refine x197 ?_;have P:∀{e:Int},AQ d m nm args=e->(xG (.int .i64 e)=.returned (.int .i64 (AQ d m nm args))/\V=V):=λe=>⟨by rw[e],rfl⟩;refine(c136 r).call ⟨_,rfl,λh=>?_,λh=>?_⟩;·grind[AQ,AD]
 ·have h:¬AD d nm<0:=h;rcases CP (λt:Pr=>decide (t.name=nm)) d.procs with⟨h1,-⟩|⟨i,pr,h1,h2,-⟩;·omega
  have hi:AD d nm=(i:Int):=h1;have hn:=r.procs.n_eq;have hil:=(yw.1 h2).1;obtain⟨y,A,K,-,-,hp,hz,H⟩:=r.procs.get (i:=i) (by omega);rw[h2]at K;cases K;have S:AQ d m nm args=if args.length=pr.params.length then(if Aw d m pr.params args=true then 0 else 11)else 3:=by grind[AQ]
  have G:=(r.procsOk pr A).params;have hln:=G.n_eq;have han:=Q.n_eq;rw[h1];refine⟨hp,hz,by omega,_,_,_,_,_,H,λu=>?_,λu=>?_⟩
  ·have u:(l.n:Int)=(pr.ps.n:Int):=u;have N:args.length=pr.params.length:=by omega
   rw[if_pos N]at S;refine AU (mk:=λk:Int=>.int .i64 k) (b0:=0) args.length (λj V1=>V1=V/\∀(i:Nat) f v,i<j->pr.params[i]?=some f->args[i]?=some v->AJ d m f.ty v=true) ⟨rfl,λi f v h=>by omega⟩ ?_;rintro j b V1 J hj ⟨rfl,Z⟩ hJ;refine⟨λz=>?_,λI=>?_⟩
   ·obtain⟨v,hvm,hv,-,M,L,R,X⟩:=Q.get z;obtain⟨f,hfm,C,-,-,Y,D,E⟩:=G.get (i:=j) (by omega);refine⟨Y,D,by omega,Ak Y,_,_,E,L,R,z,v,X,(MB r hm).call ⟨_,rfl,λT=>⟨Q.succ z,hJ M _ _ ⟨rfl,λi g w hi' hg hw=>?_⟩⟩,λT=>P ?_⟩⟩;·grind
    ·rw[S,if_neg λk=>T ((Cm.1 k).2 j f v C hv)]
   ·have hd2:=(Q.done I).2;have U:Aw d m pr.params args=true:=Cm.2 ⟨N.symm,λi f v C hv=>Z i f v (by grind) C hv⟩;simp_all
  grind
theorem Jg(G:Am d m):m.globals.length<=2147483648/\m.nodes.length<=4096/\∀n∈m.nodes,n.f.length<=2147483648:=by
 obtain⟨p1,w,p3,J,z⟩:=BD G.mem;have r:=Ja G.valid;refine⟨by grind[Cm],w,λn u=>?_⟩;have:=(Cm.1 (z n u)).1;have e:=of_decide_eq_true (p3 n u);obtain⟨j,v⟩:∃j:Nat,n.ty=(j:Int):=⟨n.ty.toNat,by omega⟩;have k:j<d.types.length:=by omega
 have H:=yv k;rw[v,Ef H rfl]at this;grind
def PlayX(V0:Mem)(d:Ds)(F:Nat)(m:Mm)(nm:KB)(args:List Int):Ending->Mem->Prop:=λe V'=>
 ∃p,∃r:Rx Int,r=BP d F (AD d nm) args (AR m)/\XM V0 d p F V' r.st (outV r) (DI r)/\e=.returned (pv p)
theorem c193(N:Ds.Ok V d)(hm:Mm.Ok V m)(G:Am d m)(A:Ad V l 1 (args.map Al))(I:AQ d m nm args=0)(M:F<=4000):
  Tri xE 193 #[d.v,m.v,.agg #[.string nm,l.v],.int .i64 F] V (PlayX V d F m nm args):=by
 refine x193 (R:=PlayX V d F m nm args) ?_;obtain⟨i,pr,hi,r,w⟩:=Je I;obtain⟨X,C,D⟩:=Jg G;refine Tri.mono (Nh hm X C D) ?_;rintro _ V1 ⟨gs,ns,nd,rfl,L⟩;refine⟨gs,ns,rfl,(c136 (N.sub L.sub)).call ⟨_,rfl,?_⟩⟩;rw[show Ck (λt:Pr=>decide (t.name=nm)) d.procs=(i:Int)from hi];intro p Z;have p0:V p=none:=free L.sub Z;have E:=Mem.sub_new Z (.cells (AF d F 0 0 0 0 0 gs ns Aj).toArray 302 (0,0));have K:XM V d p F (V1.set p (.cells (AF d F 0 0 0 0 0 gs ns Aj).toArray 302 (0,0))) (AR m) ((0:Nat):Int) 0:=⟨p0,gs,ns,Aj,nd,by rw[Mem.set_same];rfl,L.grow E⟩;have S:=callY (allY d p F (F+1)) V (V1.set p (.cells (AF d F 0 0 0 0 0 gs ns Aj).toArray 302 (0,0))) (AR m) 0 i pr args l ⟨N,G.valid,I1 G.valid G.chk,M⟩ r (Hz G) (BQ (Ie (Ge m).symm) w) A K (by show 0<=F;omega) (by omega) (by unfold BW;simp[AR]);refine XR.any S λv z k V2 Y T=>?_;obtain⟨H,J,JR,G5,u,U⟩:=Y.ex;refine⟨AX,AX,Ao.at2 (off:=12) u (by simp[AF]) ?_⟩;have Q:XM V d p F (V2.set p (.cells (AF d F k.tk v z k.cm (Be k.lg) H J JR).toArray 302 (0,0))) k v z:=MA.set (row':=AF d F k.tk v z k.cm (Be k.lg)) E8 Y.p0 u U rfl rfl rfl rfl;have P:BP d F (AD d nm) args (AR m)=CA d (A9 d F (F+1)) 0 i args (AR m):=by rw[hi];rfl
 rcases T with⟨rfl,e⟩|⟨hk0,rfl,e⟩;·exact⟨p,.ok v k,by rw[P,e],Q,rfl⟩
 ·exact⟨p,.bad z k,by rw[P,e],Q,rfl⟩
theorem c194{p:Nat}{s:St}{c k:Int}(M:XM V0 d p F V s c k):PP 194 [pv p] V (.agg (Bo k c s.cm (Be s.lg)).toArray):=by
 obtain⟨gs,ns,ls,nd,u,L⟩:=M.ex;refine x194 ?_;exact⟨nn,nn,_,An u 13 1 (by simp[AF]),nn,nn,_,An u 12 1 (by simp[AF]),nn,nn,_,_,_,An u 14 3 (by simp[AF]),rfl,rfl⟩
end
structure Q6 where
 name:KB
 sl:Sl
 args:List Int
end Go.Proofs
namespace Go.Proofs
open Go Go.Sx
abbrev Bj:=List (Int×Int)
def RV(B:Bj)(ty:KB)(v k:Int):Prop:=if AC ty=true then k=v else(v=0/\k=0)∨(v,k)∈B
def RL(B:Bj)(l:List Fld)(vs k:List Int):Prop:=k.length=vs.length/\∀(j:Nat) f v v',l[j]?=some f->vs[j]?=some v->k[j]?=some v'->RV B f.ty v v'
structure Gh (d:Ds)(B:Bj)(s t:St):Prop where
 bij:∀a b a' b',(a,b)∈B->(a',b')∈B->(a=a'↔b=b')
 node:∀a b,(a,b)∈B->∃(i j:Nat)(ty:Int)(f f':List Int),a=(i:Int)+1/\b=(j:Int)+1/\s.ns[i]?=some (ty,f)/\t.ns[j]?=some (ty,f')/\RL B (Bm d ty) f f'
 glob:RL B d.globals s.g t.g
 tk:t.tk=s.tk
 cm:t.cm=s.cm
 nd:Be t.lg=Be s.lg
 len:t.ns.length<=s.ns.length
section
variable{d:Ds}{F:Nat}{B B':Bj}{s t:St}
theorem RV.plain{ty:KB}{v k:Int}(h:RV B ty v k)(u:AC ty=true):k=v:=by unfold RV at h;rw[if_pos u]at h;exact h
theorem RV.ref{ty:KB}{v k:Int}(h:RV B ty v k)(u:AC ty=false):(v=0/\k=0)∨(v,k)∈B:=by unfold RV at h;rw[if_neg (by rw[u];decide)]at h;exact h
theorem RL.at_{l:List Fld}{vs k:List Int}(h:RL B l vs k){j:Nat}{f:Fld}{v:Int}(z:l[j]?=some f)(hv:vs[j]?=some v):∃w,k[j]?=some w/\RV B f.ty v w:=by
 have r:=(yw.1 hv).1;have u:k[j]?=some (k[j]'(by have:=h.1;omega)):=yv _;exact⟨_,u,h.2 j f v _ z hv u⟩
end
end Go.Proofs
namespace Go.Proofs
open Go Go.Sx
end Go.Proofs
namespace Go.Proofs
open Go Go.Sx
structure Sr where
 order:List Int
 again:Int
def DE(x:Fld×Int):Bool:=!AC x.1.ty&&decide (x.2≠0)
def tgtI(l:List Fld)(vs:List Int)(i:Nat):List Int:=(((l.zip vs).take i).filter DE).map (·.2)
def CV(l:List Fld)(vs:List Int):List Int:=((l.zip vs).filter DE).map (·.2)
def nodeTgt(d:Ds)(m:Mm)(n:Int):List Int:=match m.nodes[(n-1).toNat]? with|some x=>CV (Bm d x.ty) x.f|none=>[]
def Ba(d:Ds)(m:Mm):Nat->Sr->Int->Sr
 |0,st,_=>st
 |f+1,st,n=>if n∈st.order then⟨st.order,if st.again=0 then n else st.again⟩else(nodeTgt d m n).foldl (Ba d m f) ⟨st.order++[n],st.again⟩
def lookP(d:Ds)(m:Mm)(f:Nat)(st:Sr)(l:List Fld)(vs:List Int):Sr:=(CV l vs).foldl (Ba d m f) st
def AS(d:Ds)(m:Mm):Sr:=lookP d m (m.nodes.length+1) ⟨[],0⟩ d.globals m.globals
theorem tgtI_zero(l:List Fld)(vs:List Int):tgtI l vs 0=[]:=rfl
theorem Lh{l:List Fld}{vs:List Int}{i:Nat}{f:Fld}{v:Int}(k:l[i]?=some f)(hv:vs[i]?=some v):tgtI l vs (i+1)=tgtI l vs i++if DE (f,v)=true then[v]else[]:=by
 have u:(l.zip vs)[i]?=some (f,v):=by rw[vR];exact⟨k,hv⟩
 unfold tgtI;rw[wc,u,List.filter_append,List.map_append];by_cases h:DE (f,v)=true;·simp[h]
 ·simp[h]
theorem tgtI_all{l:List Fld}{vs:List Int}{i:Nat}(h:l.length<=i):tgtI l vs i=CV l vs:=by
 unfold tgtI CV;rw[wW];rw[vT];omega
def Cc(m:Mm)(st:Sr):Nat:=((List.range m.nodes.length).filter λ(i:Nat)=>!decide (((i:Int)+1)∈st.order)).length
theorem Li(d:Ds)(m:Mm):∀(f:Nat)(st:Sr)(n:Int),∀x∈st.order,x∈(Ba d m f st n).order
 |0,st,n,x,h=>h
 |f+1,st,n,x,h=>by
  unfold Ba;split;·exact h
  ·have:∀(l:List Int)(s:Sr),x∈s.order->x∈(l.foldl (Ba d m f) s).order:=λl=>by
    induction l with
    |nil=>exact λs h=>h
    |cons a l k=>exact λs h=>k _ (Li d m f s a x h)
   exact this _ _ (vU _ h)
theorem foldP_sub(d:Ds)(m:Mm)(f:Nat)(x:Int):∀(l:List Int)(s:Sr),x∈s.order->x∈(l.foldl (Ba d m f) s).order:=λl=>by
 induction l with
 |nil=>exact λs h=>h
 |cons a l k=>exact λs h=>k _ (Li d m f s a x h)
theorem Ni{α:Type}{p q:α->Bool}:∀{l:List α},(∀a∈l,q a=true->p a=true)->(l.filter q).length<=(l.filter p).length
 |[],_=>Nat.le_refl _
 |a::l,h=>by
  have k:=Ni (l:=l) λx u=>h x (zb _ u);have w:=h a zc;rw[z7,z7];cases z:q a with
  |true=>rw[w z];simpa using k
  |false=>
   cases r:p a with
   |true=>simp;omega
   |false=>simpa using k
theorem filter_lt{α:Type}{p q:α->Bool}:∀{l:List α},(∀a∈l,q a=true->p a=true)->∀a∈l,p a=true->q a=false->(l.filter q).length<(l.filter p).length
 |[],_,a,k,_,_=>by cases k
 |b::l,h,a,k,w,z=>by
  have r:∀x∈l,q x=true->p x=true:=λx v=>h x (zb _ v);rw[z7,z7];rcases yC.1 k with rfl|hm
  ·rw[w,z];have:=Ni r;simp;omega
  ·have e:=filter_lt r a hm w z;have H:=h b zc;cases u:q b with
   |true=>rw[H u];simpa using e
   |false=>
    cases J:p b with
    |true=>simp;omega
    |false=>simpa using e
section
variable{d:Ds}{m:Mm}{st:Sr}
theorem unS_le{a b:Sr}(h:∀x∈a.order,x∈b.order):Cc m b<=Cc m a:=by
 unfold Cc;refine Ni λi _ hi=>?_;simp only[zU,decide_eq_false_iff_not]at hi⊢;exact λk=>hi (h _ k)
theorem unS_lt{n:Int}(w:1<=n/\n<=(m.nodes.length:Int))(h:¬n∈st.order){a:Int}:Cc m ⟨st.order++[n],a⟩<Cc m st:=by
 unfold Cc;obtain⟨i,rfl⟩:∃i:Nat,n=(i:Int)+1:=⟨(n-1).toNat,by omega⟩;refine filter_lt (λj _ u=>?_) i (List.mem_range.2 (by omega)) (by simpa using h) (by simp);simp only[zU,decide_eq_false_iff_not]at u⊢;exact λk=>u (vU _ k)
theorem G9{xs:List Fld}{vs:List Int}(h:Aw d m xs vs=true){i:Nat}{f:Fld}{v:Int}(r:xs[i]?=some f)(w:vs[i]?=some v)(u:AC f.ty=false)(e:v≠0):1<=v/\v<=(m.nodes.length:Int):=by
 obtain⟨H,k,z⟩:=KN h r;rw[w]at k;cases k;unfold AC at u;simp only[Bool.or_eq_false_iff,decide_eq_false_iff_not]at u;unfold AJ at z;rw[if_neg u.1,if_neg u.2,decide_eq_true_eq]at z;rcases z with h|⟨h1,h2,-⟩;·exact absurd h e
 ·exact⟨h1,h2⟩
end
section
variable{d:Ds}{m c:Mm}{O:List Int}
structure Cl (d:Ds)(m:Mm)(a b:Sr):Prop where
 sub:∀x∈a.order,x∈b.order
 shut:∀x∈b.order,x∈a.order∨∀y∈nodeTgt d m x,y∈b.order
 dup:a.order.Nodup->b.order.Nodup
 rng:(∀x∈a.order,1<=x/\x<=(m.nodes.length:Int))->∀x∈b.order,1<=x/\x<=(m.nodes.length:Int)
 cap:a.order.length+Cc m a<=m.nodes.length->b.order.length+Cc m b<=m.nodes.length
theorem Cl.trans{a b e:Sr}(h:Cl d m a b)(k:Cl d m b e):Cl d m a e:=⟨λx u=>k.sub x (h.sub x u),λx u=>by
 rcases k.shut x u with u|u
 ·rcases h.shut x u with u|u;·exact .inl u
  ·exact .inr λy w=>k.sub y (u y w)
 ·exact .inr u,λn=>k.dup (h.dup n),λr=>k.rng (h.rng r),λr=>k.cap (h.cap r)⟩
theorem Gi{l:List Fld}{vs:List Int}{y:Int}:y∈CV l vs↔∃(i:Nat)(f:Fld),l[i]?=some f/\vs[i]?=some y/\AC f.ty=false/\y≠0:=by
 unfold CV DE;simp only[vV,List.mem_filter,zC,zU,decide_eq_true_eq,Prod.exists,exists_eq_right];constructor
 ·rintro⟨f,h,h1,h2⟩;obtain⟨i,hi⟩:=xn.1 h;rw[vR]at hi;exact⟨i,f,hi.1,hi.2,h1,h2⟩
 ·rintro⟨i,f,h,h1,h2,h3⟩;exact⟨f,xn.2 ⟨i,vR.2 ⟨h,h1⟩⟩,h2,h3⟩
theorem tgt_in(hv:Bs d m=true):(∀y∈CV d.globals m.globals,1<=y/\y<=(m.nodes.length:Int))/\∀n,∀y∈nodeTgt d m n,1<=y/\y<=(m.nodes.length:Int):=by
 obtain⟨-,-,-,u,w⟩:=BD hv;refine⟨λy k=>?_,λn y k=>?_⟩
 ·obtain⟨i,f,h1,h2,h3,h4⟩:=Gi.1 k;exact G9 u h1 h2 h3 h4
 ·unfold nodeTgt at k;split at k
  ·rename_i x z;obtain⟨i,f,h1,h2,h3,h4⟩:=Gi.1 k;exact G9 (w x (xJ z)) h1 h2 h3 h4
  ·cases k
theorem Lj{f:Nat}(H:∀st n,1<=n/\n<=(m.nodes.length:Int)->Cc m st<f->Cl d m st (Ba d m f st n)/\n∈(Ba d m f st n).order):
  ∀(l:List Int)(s:Sr),(∀y∈l,1<=y/\y<=(m.nodes.length:Int))->Cc m s<f->Cl d m s (l.foldl (Ba d m f) s)/\∀y∈l,y∈(l.foldl (Ba d m f) s).order
 |[],s,_,_=>⟨⟨λ_ h=>h,λ_ h=>.inl h,λh=>h,λh=>h,λh=>h⟩,λ_ h=>by cases h⟩
 |a::l,s,u,r=>by
  obtain⟨w,e⟩:=H s a (u a zc) r;obtain⟨z,v⟩:=Lj H l (Ba d m f s a) (λy k=>u y (zb _ k)) (by have:=unS_le (m:=m) w.sub;omega);refine⟨w.trans z,λy k=>?_⟩;rcases yC.1 k with rfl|k;·exact z.sub _ e
  ·exact v y k
theorem ent_cl(hv:Bs d m=true):∀(f:Nat)(st:Sr)(n:Int),1<=n/\n<=(m.nodes.length:Int)->Cc m st<f->Cl d m st (Ba d m f st n)/\n∈(Ba d m f st n).order
 |0,_,_,_,h=>absurd h (xT _)
 |f+1,st,n,z,N=>by
  rw[Ba];split;·rename_i h;exact⟨⟨λ_ h=>h,λ_ h=>.inl h,λh=>h,λh=>h,λh=>h⟩,h⟩
  ·rename_i w;have r:=unS_lt z w (a:=st.again);obtain⟨u,v⟩:=Lj (ent_cl hv f) (nodeTgt d m n) ⟨st.order++[n],st.again⟩ (λy H=>(tgt_in hv).2 n y H) (by omega);have hm:n∈(⟨st.order++[n],st.again⟩:Sr).order:=by simp
   refine⟨⟨λx k=>u.sub x (vU _ k),λx k=>?_,λh=>u.dup ?_,λh=>u.rng λx k=>?_,λh=>u.cap ?_⟩,u.sub n hm⟩
   ·rcases u.shut x k with h|h
    ·rcases xh.1 h with h|h;·exact .inl h
     ·rw[zO.1 h];exact .inr v
    ·exact .inr h
   ·show(st.order++[n]).Nodup;rw[List.nodup_append];refine⟨h,by simp,λa J b G e=>w ?_⟩;rw[<-zO.1 G,<-e];exact J
   ·rcases xh.1 k with k|k;·exact h x k
    ·rw[zO.1 k];exact z
   ·show(st.order++[n]).length+_<=_;rw[zw,xi];omega
structure Rch (d:Ds)(m:Mm)(O:List Int):Prop where
 dup:O.Nodup
 rng:∀x∈O,1<=x/\x<=(m.nodes.length:Int)
 glob:∀y∈CV d.globals m.globals,y∈O
 shut:∀x∈O,∀y∈nodeTgt d m x,y∈O
 cap:O.length<=m.nodes.length
theorem JV:Cc m ⟨[],0⟩<=m.nodes.length:=by
 unfold Cc;have:=List.length_filter_le (λi:Nat=>!decide (((i:Int)+1)∈(⟨[],0⟩:Sr).order)) (List.range m.nodes.length);rw[List.length_range]at this;exact this
theorem FI(hv:Bs d m=true):Rch d m (AS d m).order:=by
 have hu:=JV (m:=m);obtain⟨k,w⟩:=Lj (ent_cl hv (m.nodes.length+1)) (CV d.globals m.globals) ⟨[],0⟩ (tgt_in hv).1 (by omega);refine⟨k.dup List.nodup_nil,k.rng (λx u=>by cases u),w,λx u=>?_,?_⟩
 ·rcases k.shut x u with h|h;·cases h
  ·exact h
 ·have:=k.cap (by show 0+_<=_;omega);exact Nat.le_trans (Nat.le_add_right _ _) this
def CQ(l:List Int)(x:Int):Int:=Ck (λy=>decide (y=x)) l
def Cv(O:List Int)(x:Int):Int:=if x=0 then 0 else CQ O x+1
def BH(O:List Int)(l:List Fld)(vs:List Int):List Int:=(l.zip vs).map λx=>if AC x.1.ty=true then x.2 else Cv O x.2
structure Gj (d:Ds)(m c:Mm)(O:List Int):Prop where
 globals:c.globals=BH O d.globals m.globals
 len:c.nodes.length=O.length
 at_:∀(i:Nat) n x,O[i]?=some n->m.nodes[(n-1).toNat]?=some x->∃s,c.nodes[i]?=some ⟨x.ty,s,BH O (Bm d x.ty) x.f⟩
theorem pos_at(h:O.Nodup){i:Nat}{x:Int}(k:O[i]?=some x):CQ O x=i:=by
 unfold CQ;rcases CP (λy=>decide (y=x)) O with⟨-,-,h1⟩|⟨j,y,h1,h2,-,h3,h4,-⟩
 ·rw[vW]at h1;exact absurd (decide_eq_true rfl) (h1 x (xJ k))
 ·have e:y=x:=of_decide_eq_true h4;subst e;rw[h1,(List.getElem?_inj h3 h).1 (h2.trans k.symm)]
theorem pos_mem(h:O.Nodup){x:Int}(k:x∈O):∃i:Nat,O[i]?=some x/\CQ O x=i/\i<O.length:=by
 obtain⟨i,hi⟩:=xn.1 k;exact⟨i,hi,pos_at h hi,(yw.1 hi).1⟩
theorem Jh(R:Rch d m O){x:Int}(k:x∈O):∃i:Nat,O[i]?=some x/\Cv O x=(i:Int)+1/\i<O.length:=by
 obtain⟨i,h1,h2,h3⟩:=pos_mem R.dup k;have:=R.rng x k;exact⟨i,h1,by unfold Cv;rw[if_neg (by omega),h2],h3⟩
theorem HC:Cv O 0=0:=by unfold Cv;rw[if_pos rfl]
theorem rho_inj(R:Rch d m O){x y:Int}(u:x=0∨x∈O)(k:y=0∨y∈O)(h:Cv O x=Cv O y):x=y:=by
 rcases u with rfl|u
 ·rcases k with rfl|k;·rfl
  ·obtain⟨i,-,h2,-⟩:=Jh R k;rw[HC]at h;omega
 ·obtain⟨i,h1,h2,-⟩:=Jh R u;rcases k with rfl|k;·rw[HC]at h;omega
  ·obtain⟨j,w,z,-⟩:=Jh R k;have:i=j:=by omega
   subst this;rw[h1]at w;cases w;rfl
theorem HD{l:List Fld}{vs:List Int}{i:Nat}{f:Fld}{v:Int}(k:l[i]?=some f)(hv:vs[i]?=some v):(BH O l vs)[i]?=some (if AC f.ty=true then v else Cv O v):=by
 have u:(l.zip vs)[i]?=some (f,v):=vR.2 ⟨k,hv⟩;unfold BH;rw[y4,u];rfl
end
end Go.Proofs
namespace Go.Proofs
open Go Go.Sx
inductive F2 (B:Bj):List Int->List Int->Prop where
 |nil:F2 B [] []
 |cons {a b:Int} {l l':List Int} (h:(a,b)∈B) (t:F2 B l l'):F2 B (a::l) (b::l')
section
variable{d:Ds}{B:Bj}{s t:St}
theorem F2.app{l l' k k':List Int}(h:F2 B l l')(g:F2 B k k'):F2 B (l++k) (l'++k'):=by
 induction h with
 |nil=>exact g
 |cons h _ u=>exact .cons h u
theorem F2.len{l l':List Int}(h:F2 B l l'):l'.length=l.length:=by
 induction h with
 |nil=>rfl
 |cons _ _ k=>simp[k]
theorem F2.at_{l l':List Int}(h:F2 B l l'):∀(i:Nat) a,l[i]?=some a->∃b,l'[i]?=some b/\(a,b)∈B:=by
 induction h with
 |nil=>intro i a h;simp at h
 |cons h _ k=>
  intro i a hi;cases i with
  |zero=>simp at hi;subst hi;exact⟨_,rfl,h⟩
  |succ i=>obtain⟨b,h1,h2⟩:=k i a (by simpa using hi);exact⟨b,by simpa using h1,h2⟩
theorem F2.mem{l l':List Int}(h:F2 B l l')(S:Gh d B s t){x y:Int}(k:(x,y)∈B):x∈l↔y∈l':=by
 induction h with
 |nil=>exact⟨λh=>(by cases h),λh=>(by cases h)⟩
 |@cons a b _ _ h _ u=>
  rw[yC,yC,u,S.bij _ _ _ _ k h]
theorem tgt_sim(S:Gh d B s t):∀(l:List Fld)(vs k:List Int),RL B l vs k->F2 B (CV l vs) (CV l k)
 |[],vs,k,_=>by unfold CV;rw[vX,vX];exact .nil
 |f::l,[],k,h=>by
  obtain rfl:k=[]:=List.eq_nil_of_length_eq_zero h.1;exact .nil
 |f::l,v::vs,[],h=>by have:=h.1;simp at this
 |f::l,v::vs,r::k,h=>by
  have z:=tgt_sim S l vs k ⟨by simpa using h.1,λj g w w' a b c=>h.2 (j+1) g w w' (by simpa using a) (by simpa using b) (by simpa using c)⟩;have H:=h.2 0 f v r rfl rfl rfl;unfold CV at z⊢;rw[wH,wH,z7,z7];have e:DE (f,v)=DE (f,r):=by
   unfold DE;cases J:AC f.ty with
   |true=>simp[J]
   |false=>
    rcases H.ref J with⟨rfl,rfl⟩|hm;·rfl
    ·obtain⟨i,j,_,_,_,rfl,rfl,-⟩:=S.node _ _ hm;rw[decide_eq_true (show((i:Int)+1)≠0 by omega),decide_eq_true (show((j:Int)+1)≠0 by omega)]
  rw[<-e];cases u:DE (f,v)with
  |false=>exact z
  |true=>
   rw[if_pos rfl,if_pos rfl];refine .cons ?_ z;unfold DE at u;rw[zC,zU,decide_eq_true_eq]at u;rcases H.ref u.1 with⟨h1,-⟩|hm;·exact absurd h1 u.2
   ·exact hm
theorem nodeTgt_sim(S:Gh d B s t){x y:Int}(h:(x,y)∈B):F2 B (nodeTgt d s.mm x) (nodeTgt d t.mm y):=by
 obtain⟨i,j,ty,f,f',rfl,rfl,k,u,w⟩:=S.node _ _ h;unfold nodeTgt;rw[show((i:Int)+1-1).toNat=i by omega,show((j:Int)+1-1).toNat=j by omega,F9,F9,k,u];exact tgt_sim S _ _ _ w
theorem Gh.rng(S:Gh d B s t){x y:Int}(h:(x,y)∈B):(1<=x/\x<=(s.mm.nodes.length:Int))/\1<=y/\y<=(t.mm.nodes.length:Int):=by
 obtain⟨i,j,ty,f,f',rfl,rfl,k,u,-⟩:=S.node _ _ h;have:=(yw.1 k).1;have:=(yw.1 u).1;rw[I2,I2];omega
theorem fold_sim2{f f':Nat}(E:∀(a a':Sr)(n u:Int),(n,u)∈B->F2 B a.order a'.order->Cc s.mm a<f->Cc t.mm a'<f'->F2 B (Ba d s.mm f a n).order (Ba d t.mm f' a' u).order):
  ∀{l l':List Int},F2 B l l'->∀(a a':Sr),F2 B a.order a'.order->Cc s.mm a<f->Cc t.mm a'<f'->F2 B (l.foldl (Ba d s.mm f) a).order (l'.foldl (Ba d t.mm f') a').order:=by
 intro l l' h;induction h with
 |nil=>exact λa a' h _ _=>h
 |@cons x y l l' k _ w=>
  intro a a' h1 h2 h3;have z:=unS_le (m:=s.mm) (Li d s.mm f a x);have r:=unS_le (m:=t.mm) (Li d t.mm f' a' y);exact w _ _ (E a a' x y k h1 h2 h3) (by omega) (by omega)
theorem ent_sim2(S:Gh d B s t):∀(f f':Nat)(a a':Sr)(n z:Int),(n,z)∈B->F2 B a.order a'.order->Cc s.mm a<f->Cc t.mm a'<f'->F2 B (Ba d s.mm f a n).order (Ba d t.mm f' a' z).order
 |0,_,_,_,_,_,_,_,h,_=>absurd h (xT _)
 |_+1,0,_,_,_,_,_,_,_,h=>absurd h (xT _)
 |f+1,f'+1,a,a',n,z,w,h1,h2,h3=>by
  rw[Ba,Ba];have hm:=h1.mem S w;by_cases u:n∈a.order;·rw[if_pos u,if_pos (hm.1 u)];exact h1
  ·rw[if_neg u,if_neg λk=>u (hm.2 k)];obtain⟨r,e⟩:=S.rng w;have v:=unS_lt r u (a:=a.again);have H:=unS_lt e (λk=>u (hm.2 k)) (a:=a'.again);exact fold_sim2 (ent_sim2 S f f') (nodeTgt_sim S w) _ _ (h1.app (.cons w .nil)) (by omega) (by omega)
theorem reach_sim2(S:Gh d B s t):F2 B (AS d s.mm).order (AS d t.mm).order:=
 fold_sim2 (ent_sim2 S _ _) (tgt_sim S _ _ _ S.glob) ⟨[],0⟩ ⟨[],0⟩ .nil (by have:=JV (m:=s.mm);omega) (by have:=JV (m:=t.mm);omega)
def Cn(d:Ds)(m:Mm):List Int×List (Int×List Int):=
 (BH (AS d m).order d.globals m.globals,(AS d m).order.map λn=>match m.nodes[(n-1).toNat]? with|some x=>(x.ty,BH (AS d m).order (Bm d x.ty) x.f)|none=>(0,[]))
theorem renL_sim(S:Gh d B s t){O z:List Int}(R:Rch d s.mm O)(N:Rch d t.mm z)(h:F2 B O z){l:List Fld}{vs k:List Int}(hv:RL B l vs k)(Z:∀y∈CV l vs,y∈O):BH O l vs=BH z l k:=by
 refine zx λj=>?_;cases u:l[j]? with
 |none=>
  have e:∀(O:List Int)(ws:List Int),(BH O l ws)[j]?=none:=λO ws=>by
   unfold BH;rw[y4];have:(l.zip ws)[j]?=none:=by
    rw[vY]at u⊢;rw[vT];omega
   rw[this];rfl
  rw[e,e]
 |some f=>
  cases hw:vs[j]? with
  |none=>
   have e:∀(O:List Int)(ws:List Int),ws.length=vs.length->(BH O l ws)[j]?=none:=λO ws X=>by
    unfold BH;rw[y4];have:(l.zip ws)[j]?=none:=by
     rw[vY]at hw⊢;rw[vT];omega
    rw[this];rfl
   rw[e _ _ rfl,e _ _ hv.1]
  |some v=>
   obtain⟨Y,r,G⟩:=hv.at_ u hw;rw[HD u hw,HD u r];cases H:AC f.ty with
   |true=>rw[if_pos rfl,if_pos rfl,G.plain H]
   |false=>
    rw[if_neg (by decide),if_neg (by decide)];rcases G.ref H with⟨rfl,rfl⟩|hm;·rw[HC,HC]
    ·have Q:v≠0:=by have:=(S.rng hm).1;omega
     have P:=Z v (Gi.2 ⟨j,f,u,hw,H,Q⟩);obtain⟨i,A,I,-⟩:=Jh R P;obtain⟨w,M,L⟩:=h.at_ i v A;have e:w=Y:=(S.bij _ _ _ _ L hm).1 rfl;subst e;have J:w≠0:=by have:=(S.rng hm).2;omega
     rw[I];unfold Cv;rw[if_neg J,pos_at N.dup M]
theorem can_sim(S:Gh d B s t)(e:Bs d s.mm=true)(v:Bs d t.mm=true):Cn d s.mm=Cn d t.mm:=by
 have R:=FI e;have z:=FI v;have h:=reach_sim2 S;unfold Cn;refine vZ (renL_sim S R z h S.glob R.glob) (zx λi=>?_);rw[y4,y4];cases u:(AS d s.mm).order[i]? with
 |none=>
  have:(AS d t.mm).order[i]?=none:=by
   rw[vY]at u⊢;rw[h.len];exact u
  rw[this];rfl
 |some x=>
  obtain⟨y,H,w⟩:=h.at_ i x u;rw[H];obtain⟨q,j,ty,f,f',rfl,rfl,r,J,G⟩:=S.node _ _ w;have k:=R.shut _ (xJ u);unfold nodeTgt at k;rw[show((q:Int)+1-1).toNat=q by omega,F9,r]at k;simp only[zJ];rw[show((q:Int)+1-1).toNat=q by omega,show((j:Int)+1-1).toNat=j by omega,F9,F9,r,J];simp only[zJ];rw[renL_sim S R z h G k]
theorem sim_start{m c:Mm}(hv:Bs d m=true)(I:Gj d m c (AS d m).order):Gh d ((AS d m).order.map λx=>(x,Cv (AS d m).order x)) (AR m) (AR c):=by
 have R:=FI hv;have k:∀{a b:Int},(a,b)∈((AS d m).order.map λx=>(x,Cv (AS d m).order x))->a∈(AS d m).order/\b=Cv (AS d m).order a:=λh=>by
  obtain⟨x,G,e⟩:=vV.1 h;cases e;exact⟨G,rfl⟩
 have rel:∀{l:List Fld}{vs:List Int},l.length=vs.length->(∀y∈CV l vs,y∈(AS d m).order)->RL ((AS d m).order.map λx=>(x,Cv (AS d m).order x)) l vs (BH (AS d m).order l vs):=λ{l vs} X N=>by
  refine⟨by unfold BH;rw[xm,vT];omega,λj f v C H hv u=>?_⟩;rw[HD H hv]at u;rw[<-Option.some.inj u];unfold RV;cases Z:AC f.ty with
  |true=>rfl
  |false=>
   rw[if_neg (by decide),if_neg (by decide)];by_cases J:v=0;·left;rw[J];exact⟨rfl,HC⟩
   ·right;exact vV.2 ⟨v,N v (Gi.2 ⟨j,f,H,hv,Z,J⟩),rfl⟩
 obtain⟨p1,D,p3,Y,Q⟩:=BD hv;refine⟨λa b a' b' h1 h2=>?_,λa b h=>?_,?_,rfl,rfl,rfl,?_⟩
 ·obtain⟨P,rfl⟩:=k h1;obtain⟨A,rfl⟩:=k h2;exact⟨λe=>by rw[e],λe=>rho_inj R (.inr P) (.inr A) e⟩
 ·obtain⟨hm,rfl⟩:=k h;obtain⟨j,M,L,E⟩:=Jh R hm;have K:=R.rng a hm;obtain⟨i,rfl⟩:∃i:Nat,a=(i:Int)+1:=⟨(a-1).toNat,by omega⟩;have w:i<m.nodes.length:=by omega
  have z:m.nodes[i]?=some m.nodes[i]:=yv w;obtain⟨sl,r⟩:=I.at_ j ((i:Int)+1) m.nodes[i] M (by rw[show((i:Int)+1-1).toNat=i by omega];exact z);refine⟨i,j,m.nodes[i].ty,m.nodes[i].f,BH (AS d m).order (Bm d m.nodes[i].ty) m.nodes[i].f,rfl,L,?_,?_,rel (Cm.1 (Q _ (List.getElem_mem _))).1 ?_⟩;·show(m.nodes.map _)[i]?=_;rw[y4,z];rfl
  ·show(c.nodes.map _)[j]?=_;rw[y4,r];rfl
  ·have:=R.shut _ hm;unfold nodeTgt at this;rw[show((i:Int)+1-1).toNat=i by omega,z]at this;exact this
 ·show RL _ d.globals m.globals c.globals;rw[I.globals];exact rel (Cm.1 Y).1 R.glob
 ·show(c.nodes.map _).length<=(m.nodes.map _).length;rw[xm,xm,I.len];exact R.cap
end
end Go.Proofs
namespace Go.Proofs
open Go Go.Sx
attribute [local irreducible] Go.Sx.Tri
section
variable{V0 V V1:Mem}{d:Ds}{m:Mm}{p ib:Nat}{st:Sr}{o:Sl}
def srow(d:Ds)(m:Mm)(o:Sl)(ib:Nat)(a:Int):List Value:=[Go.Sx.vS d.name,d.ts.v,d.gs.v,d.ps.v,d.ms.v,d.is.v,d.qs.v,d.bs.v,m.gs.v,m.ns.v,o.v,.map (some ib),.int .i64 a]
def kn(O:List Int)(n:Int):Option Int:=if n∈O then some (CQ O n+1)else none
theorem pos_app{O:List Int}{n x:Int}(k:x∈O):CQ (O++[n]) x=CQ O x:=by
 unfold CQ Ck;rw[vz];cases h:O.findIdx? (λy=>decide (y=x))with
 |none=>exact absurd (decide_eq_true rfl) (by rw[vy.1 h x k];decide)
 |some i=>rfl
theorem pos_new{O:List Int}{n:Int}(k:¬n∈O):CQ (O++[n]) n=(O.length:Int):=by
 unfold CQ Ck;have h:O.findIdx? (λy=>decide (y=n))=none:=vy.2 λx u=>decide_eq_false (by rintro rfl;exact k u);rw[vz,h];simp[List.findIdx?_cons]
theorem kn_new{O:List Int}{n:Int}(u:¬n∈O)(x:Int):kn (O++[n]) x=if x=n then some ((O.length:Int)+1)else kn O x:=by
 unfold kn;by_cases k:x=n
 ·subst k;rw[if_pos (by simp),if_pos rfl,pos_new u]
 ·rw[if_neg k];by_cases hm:x∈O;·rw[if_pos (by simp[hm]),if_pos hm,pos_app hm]
  ·rw[if_neg (by simp[hm,k]),if_neg hm]
structure SrAt (V0:Mem)(d:Ds)(m:Mm)(p ib:Nat)(V:Mem)(st:Sr)(o:Sl):Prop where
 at_:V p=some (.cells (srow d m o ib st.again).toArray 230 (0,0))
 own:Sx.Own V0 V 3 1 o (st.order.flatMap Al)
 map:CZ (xe .i64) V ib λn=>(kn st.order n).map (xe .i64)
 cap:st.order.length+Cc m st<=m.nodes.length
 rng:∀x∈st.order,1<=x/\x<=(m.nodes.length:Int)
structure Nj (V0:Mem)(d:Ds)(m:Mm)(p ib:Nat):Prop where
 mem:Bs d m=true
 ds:Ds.Ok V0 d
 mm:Mm.Ok V0 m
 p0:V0 p=none
 i0:V0 ib=none
 pi:p≠ib
theorem SrAt.cell(h:SrAt V0 d m p ib V st o)(i n:Nat)(hi:i+n<=13):V.rowp (sa p) i n=some (((srow d m o ib st.again).drop i).take n):=An h.at_ i n hi
theorem kn_pos{O:List Int}{n:Int}(h:n∈O):∃j,kn O n=some j/\1<=j:=by
 unfold kn;rw[if_pos h];refine⟨_,rfl,?_⟩;unfold CQ;rcases CP (λy=>decide (y=n)) O with⟨-,-,h1⟩|⟨j,z,h1,-⟩
 ·rw[vW]at h1;exact absurd (decide_eq_true rfl) (h1 n h)
 ·rw[h1];omega
def SrPost(V0:Mem)(d:Ds)(m:Mm)(p ib:Nat)(st:Sr):Ending->Mem->Prop:=λe V'=>e=.returned (.tuple #[])/\∃o,SrAt V0 d m p ib V' st o
variable(V0 d m p ib)in
def EntC(N:Nat):Prop:=∀(st:Sr)(n:Int)(f:Nat) V o,SrAt V0 d m p ib V st o->1<=n/\n<=(m.nodes.length:Int)->Cc m st<=N->Cc m st<f->
 Tri xE 235 #[pv p,.int .i64 n] V (SrPost V0 d m p ib (Ba d m f st n))
theorem lookC{N:Nat}(E:EntC V0 d m p ib N){l s:Sl}{xs:List Fld}{vs:List Int}(K:Ad V0 l 2 (xs.map Fld.row))(S:Ad V0 s 1 (vs.map Al))(hv:Aw d m xs vs=true){f:Nat}(h:SrAt V0 d m p ib V st o)(hN:Cc m st<=N)(hf:Cc m st<f):
  Tri xE 190 #[pv p,l.v,s.v] V (SrPost V0 d m p ib ((CV xs vs).foldl (Ba d m f) st)):=by
 refine Tri.mono (x190 (R:=SrPost V0 d m p ib ((CV xs vs).foldl (Ba d m f) st)) ?_) λ_ _ h=>h;have D:xs.length=vs.length:=(Cm.1 hv).1;refine Fz xs.length (λi V1=>∃e,SrAt V0 d m p ib V1 ((tgtI xs vs i).foldl (Ba d m f) st) e) ⟨o,by rw[tgtI_zero];exact h⟩ ?_;rintro i V1 J hi ⟨e,h1⟩ P;have k:=K.sub h1.own.sub;have H:=S.sub h1.own.sub;refine⟨λu=>?_,λA=>?_⟩
 ·obtain⟨x,T,I,-,r,U,M,G⟩:=k.get u;have n1:=k.n_eq;have n2:=H.n_eq;obtain⟨y,hym,L,-,hjl,Z,Y,w⟩:=H.get (i:=i) (by omega);have hu:Cc m ((tgtI xs vs i).foldl (Ba d m f) st)<=Cc m st:=unS_le λz M=>foldP_sub d m f z _ _ M;have same:DE (x,y)=false->∃X,SrAt V0 d m p ib V1 ((tgtI xs vs (i+1)).foldl (Ba d m f) st) X:=λC=>by
   rw[Lh I L,C,if_neg (by decide),wA];exact⟨e,h1⟩
  refine⟨U,M,u,_,_,G,c124.call ⟨_,rfl,λh2=>⟨k.succ u,P r _ (same ?_)⟩,λh2=>⟨Z,Y,by omega,_,w,λh3=>⟨k.succ u,P r _ (same ?_)⟩,λh3=>⟨Z,Y,by omega,_,w,?_⟩⟩⟩⟩;·unfold DE;rw[show AC x.ty=true from h2];rfl
  ·have h3:y=0:=h3;unfold DE;rw[h3];simp
  ·have Q:AC x.ty=false:=(vx _).mp h2;have h3:¬y=0:=h3;have C:DE (x,y)=true:=by unfold DE;rw[Q,decide_eq_true h3];rfl
   refine Tri.mono (E _ y f V1 e h1 (G9 hv I L Q h3) (by omega) (by omega)) ?_;rintro _ V2 ⟨rfl,X,h4⟩;refine⟨rfl,k.succ u,P r _ ⟨X,?_⟩⟩;rw[Lh I L,C,if_pos rfl,List.foldl_append,List.foldl_cons,List.foldl_nil];exact h4
 ·have hd:=(k.done A).2;rw[tgtI_all hd]at h1;exact⟨rfl,e,h1⟩
theorem enterC(S:Nj V0 d m p ib)(N:Nat)(ih:∀N',N'<N->EntC V0 d m p ib N'):EntC V0 d m p ib N:=by
 intro st n f V o h hn hN hf;obtain⟨f,rfl⟩:∃f',f=f'+1:=⟨f-1,by omega⟩;refine Tri.mono (x235 (R:=SrPost V0 d m p ib (Ba d m (f+1) st n)) ?_) λ_ _ h=>h;have hg:=h.map;refine⟨nn,nn,_,h.cell 11 1 (by decide),BJ.key1 (k:=n) (I6 wv) vw If hg ?_⟩;by_cases r:n∈st.order
 ·obtain⟨j,hj,hj1⟩:=kn_pos r;rw[hj];have e:Ba d m (f+1) st n=⟨st.order,if st.again=0 then n else st.again⟩:=by unfold Ba;rw[if_pos r]
  rw[e];refine⟨j,rfl,λv=>?_,λ_=>⟨nn,nn,_,h.cell 12 1 (by decide),λv=>⟨nn,nn,?_⟩,λv=>?_⟩⟩
  ·have v:j=0:=v;omega
  ·have v:st.again=0:=v;rw[if_pos v];refine Ao.at2 (off:=12) h.at_ (by simp[srow]) ⟨rfl,o,?_,h.own.put (h.own.apart λw z=>?_) S.p0 _,hg.set S.pi.symm,h.cap,h.rng⟩;·rw[Mem.set_same];rfl
   ·rw[h.at_]at z;cases z
  ·have v:¬st.again=0:=v;rw[if_neg v];exact⟨rfl,o,h⟩
 ·have hno:kn st.order n=none:=by unfold kn;rw[if_neg r]
  rw[hno];have hcap:=h.cap;have hlt:=unS_lt (st:=st) hn r (a:=st.again);refine⟨0,rfl,λ_=>⟨nn,nn,o,h.cell 10 1 (by decide),λtb htb=>?_⟩,λv=>absurd rfl v⟩;have pne:∀w,V p≠some (.cells w 3 (0,0)):=λw z=>by rw[h.at_]at z;cases z
  have ine:∀w,V ib≠some (.cells w 3 (0,0)):=λw z=>by
   obtain⟨e1,K,T,-⟩:=hg.at_;rw[T]at z;cases z
  have m4:=(BD S.mem).2.1;have P:=(h.own.but).new htb (.cells #[.int .i64 n] 3 (0,0));refine FG (s:=o) (u:=⟨some ⟨tb,0,none⟩,1,1⟩) (xs:=st.order) (ys:=[n]) rfl rfl P (I8 Az) (by simp;omega) λJ V2 U=>⟨J,rfl,nn,nn,?_⟩;have Y:=U.sub;have hp2:V2 p=some (.cells (srow d m o ib st.again).toArray 230 (0,0)):=Y _ _ (Mem.but_at h.at_ (h.own.apart pne));have hg2:CZ (xe .i64) V2 ib λn=>(kn st.order n).map (xe .i64):=by
   obtain⟨e1,K,T,k2⟩:=hg.at_;exact⟨e1,K,Y _ _ (Mem.but_at T (h.own.apart ine)),k2⟩
  have ho3:Sx.Own V0 V2 3 1 J ((st.order++[n]).flatMap Al):=U.narrow h.own.sub_but;refine Ao.at2 (off:=10) hp2 (by simp[srow]) ?_;obtain⟨A,G⟩:∃A,A=V2.set p (.cells (srow d m J ib st.again).toArray 230 (0,0)):=⟨_,rfl⟩;have I:V2.set p (.cells ((srow d m o ib st.again).toArray.toList.take 10++[uL J]++(srow d m o ib st.again).toArray.toList.drop (10+[uL J].length)).toArray 230 (0,0))=A:=G.symm;have M:A p=some (.cells (srow d m J ib st.again).toArray 230 (0,0)):=by rw[G,Mem.set_same]
  have hg3:CZ (xe .i64) A ib λn=>(kn st.order n).map (xe .i64):=by rw[G];exact hg2.set S.pi.symm
  have pne2:∀w,V2 p≠some (.cells w 3 (0,0)):=λw z=>by rw[hp2]at z;cases z
  have L:Sx.Own V0 A 3 1 J ((st.order++[n]).flatMap Al):=by rw[G];exact ho3.put (ho3.apart pne2) S.p0 _
  show ¬_/\_;rw[I];refine⟨nn,nn,_,An M 11 1 (by simp[srow]),nn,nn,J,An M 10 1 (by simp[srow]),C3.key (k:=n) (I6 wv) vw hg3 λob hob=>?_⟩;have hn2:=L.n_eq (λ_=>rfl) (by decide);rw[zw,xi]at hn2;have h5:SrAt V0 d m p ib (A.set ib ob) ⟨st.order++[n],st.again⟩ J:=by
   refine⟨by rw[Mem.set_ne S.pi];exact M,L.put (L.apart λw z=>?_) S.i0 _,hob.congr λx=>?_,?_,λx Z=>?_⟩
   ·obtain⟨e1,K,T,-⟩:=hg3.at_;rw[T]at z;cases z
   ·rw[kn_new r,show((st.order.length:Int)+1)=(J.n:Int)by omega];by_cases Z:x=n<;>simp[Z]
   ·show(st.order++[n]).length+_<=_;rw[zw,xi];omega
   ·rcases xh.1 Z with Z|Z;·exact h.rng x Z
    ·rw[zO.1 Z];exact hn
  obtain⟨q,rfl⟩:∃q:Nat,n=(q:Int)+1:=⟨(n-1).toNat,by omega⟩;have X:=S.mm.sub h5.own.sub;have hdd:=S.ds.sub h5.own.sub;have hnn:=X.nodes.n_eq;obtain⟨x,C,Z,-,hl2,hpx,hzx,D⟩:=X.nodes.get (i:=q) (by omega);have hty:=(BD S.mem).2.2.1 x C;obtain⟨K,c2⟩:=of_decide_eq_true hty;obtain⟨j,hj⟩:∃j:Nat,x.ty=(j:Int):=⟨_,(vu K).symm⟩;have htn:=hdd.types.n_eq;obtain⟨t,htm,ht,-,hl3,Q,hzt,E⟩:=hdd.types.get (i:=j) (by omega);have hI:IR ((q:Int)):=⟨by omega,by have:=(X.nodes.succ (i:=q) (by omega)).2;omega⟩;rw[show((q:Int)+1-1)=(q:Int)by omega];refine⟨nn,nn,AX,m.ns,h5.cell 9 1 (by decide),hI,hpx,hzx,by omega,_,_,D,nn,nn,AX,d.ts,h5.cell 1 1 (by decide),?_⟩;rw[hj];have hfo:=Ef ht hj;have H:=(BD S.mem).2.2.2.2 x C;rw[hfo]at H;refine⟨Q,hzt,by omega,Ak Q,_,_,E,Tri.mono (lookC (ih (Cc m ⟨st.order++[(q:Int)+1],st.again⟩) (by omega)) (S.ds.typesOk t htm).fields (S.mm.nodesOk x C).rows H (f:=f) h5 (Nat.le_refl _) (by omega)) ?_⟩;rintro _ V5 ⟨rfl,o5,h6⟩;refine⟨rfl,rfl,o5,?_⟩;have e:Ba d m (f+1) st ((q:Int)+1)=(CV t.fields x.f).foldl (Ba d m f) ⟨st.order++[(q:Int)+1],st.again⟩:=by
   rw[Ba,if_neg r];unfold nodeTgt;rw[show((q:Int)+1-1).toNat=q by omega,Z];show(CV (Bm d x.ty) x.f).foldl _ _=_;rw[hfo]
  rw[e];exact h6
theorem entAll(S:Nj V0 d m p ib):∀N,EntC V0 d m p ib N:=λN=>Nat.strongRecOn N λN k=>enterC S N k
end
section
variable{V:Mem}{d:Ds}{m:Mm}
theorem c129(k:Bs d m=true)(r:Ds.Ok V d)(hm:Mm.Ok V m):Tri xE 129 #[d.v,m.v] V λe V'=>∃p ib o,e=.returned (pv p)/\SrAt V d m p ib V' (AS d m) o:=by
 refine x129 ?_;refine GenK.makeMap λib u=>⟨some ib,rfl,λp w=>?_⟩;have H:p≠ib:=λe=>by rw[e,Mem.set_same]at w;cases w
 have z:V p=none:=by rw[Mem.set_ne H]at w;exact w
 have G:=Mem.sub_new u (.map #[] 0);have J:=Mem.sub_new w (.cells (srow d m ⟨none,0,0⟩ ib 0).toArray 230 (0,0));have S:Nj V d m p ib:=⟨k,r,hm,z,u,H⟩;have hu:Cc m ⟨[],0⟩<=m.nodes.length:=JV;have N:SrAt V d m p ib ((V.set ib (.map #[] 0)).set p (.cells (srow d m ⟨none,0,0⟩ ib 0).toArray 230 (0,0))) ⟨[],0⟩ ⟨none,0,0⟩:=
  ⟨Mem.set_same _ _ _,Own.nil (G.trans J) _ _,(((CZ.made V ib).sub J)).congr λ_=>rfl,by show 0+Cc m ⟨[],0⟩<=_;omega,λx h=>by simp at h⟩
 refine Tri.mono (lookC (entAll S m.nodes.length) r.globals hm.globals (BD k).2.2.2.1 (f:=m.nodes.length+1) N hu (by omega)) ?_;rintro _ V2 ⟨rfl,o,h⟩;exact⟨rfl,p,ib,o,rfl,h⟩
theorem kn_rho{O:List Int}(h:∀x∈O,1<=x)(x:Int):(kn O x).getD 0=Cv O x:=by
 unfold kn Cv;by_cases k:x∈O
 ·have:=h x k;rw[if_pos k,if_neg (by omega)];rfl
 ·rw[if_neg k];by_cases u:x=0;·rw[if_pos u];rfl
  ·rw[if_neg u];unfold CQ;rcases CP (λy=>decide (y=x)) O with⟨e,-⟩|⟨j,z,-,h2,-,-,h4,-⟩;·rw[e];rfl
   ·have:=of_decide_eq_true h4;subst this;exact absurd (xJ h2) k
theorem renL_len{O:List Int}{xs:List Fld}{vs:List Int}(h:xs.length=vs.length):(BH O xs vs).length=xs.length:=by
 unfold BH;rw[xm,vT];omega
theorem OK{U:Mem}{p ib:Nat}{o l q:Sl}{xs:List Fld}{vs:List Int}(C:SrAt U d m p ib V (AS d m) o)(hl:Ad V l 2 (xs.map Fld.row))(hq:Ad V q 1 (vs.map Al))(he:xs.length=vs.length)(hb:xs.length<=4096):
  Tri xE 191 #[pv p,l.v,q.v] V λe V'=>∃s:Sl,e=.returned (.slice s.p s.n s.c)/\Sx.Own V V' 3 1 s ((BH (AS d m).order xs vs).flatMap Al):=by
 refine x191 ?_;refine Tri.mono (G4 hq (by omega)) ?_;rintro _ V1 ⟨s,rfl,o1⟩;have D:=renL_len (O:=(AS d m).order) he;obtain⟨R,E⟩:∃R,R=BH (AS d m).order xs vs:=⟨_,rfl⟩;rw[<-E]at D;refine⟨s,rfl,Fz xs.length (λi V2=>Sx.Own V V2 3 1 s ((R.take i++vs.drop i).flatMap Al)) (by rw[List.take_zero,List.drop_zero];exact o1) ?_⟩;rintro i V2 J hi r hJ;have H:=hl.sub r.sub;have P:=hq.sub r.sub;have hn:=r.n_eq (λ_=>rfl) (by decide);rw[zw,vQ,vt]at hn;refine⟨λG=>?_,λK=>?_⟩
 ·obtain⟨x,hxm,S,-,A,hp,hz,I⟩:=H.get G;have n2:=P.n_eq;obtain⟨y,hym,hy,M,hjl,T,hzy,Y⟩:=P.get (i:=i) (by omega);have u:=HD (O:=(AS d m).order) S hy;rw[<-E]at u;have Z:∀w:Int,R[i]?=some w->(R.take i++vs.drop i).set i w=R.take (i+1)++vs.drop (i+1):=λw hw=>by
   have Q:(R.take i).length=i:=by rw[vQ];omega
   rw[vO _ _ (by omega),Q,vP,M,List.set_cons_zero,wc,hw];simp
  refine⟨hp,hz,G,_,_,I,c124.call ⟨_,rfl,λh2=>⟨H.succ G,hJ A _ ?_⟩,λh2=>?_⟩⟩
  ·rw[if_pos (show AC x.ty=true from h2)]at u;rw[<-Z y u];have L:(R.take i++vs.drop i)[i]?=some y:=by
    have Q:(R.take i).length=i:=by rw[vQ];omega
    rw[List.getElem?_append_right (by omega),Q,vP,M];rfl
   have:(R.take i++vs.drop i).set i y=R.take i++vs.drop i:=by
    refine zx λk=>?_;rw[List.getElem?_set];split
    ·rename_i e;subst e;rw[L,if_pos (yw.1 L).1]
    ·rfl
   rw[this];exact r
  ·have hpl:AC x.ty=false:=(vx _).mp h2;rw[hpl,if_neg (by decide)]at u;have X:=C.map.sub r.sub;refine⟨nn,nn,_,An (r.sub _ _ C.at_) 11 1 (by simp[srow]),T,hzy,by omega,_,Y,BJ.key1 (k:=y) (I6 wv) vw If X ?_⟩;have N:=kn_rho (λx S=>(C.rng x S).1) y;have go:∀w:Int,w=Cv (AS d m).order y->¬s.p=none/\0<=(i:Int)/\(i:Int)<(s.n:Int)/\Ao (Aa s.p (((i:Int)).toNat*1)) 0 [uI w] V2 λV4=>IR ((i:Int)+1)/\J [uI ((i:Int)+1)] V4:=λw hw=>by
    have hrw:=r.rows (xs:=R.take i++vs.drop i) (λ_=>rfl) (by decide);have z:i<(R.take i++vs.drop i).length:=by rw[zw,vQ,vt];omega
    obtain⟨g1,g2,g3,-⟩:=Fm hrw (yv z);refine⟨g1,g2,g3,?_⟩;rw[xv,Nat.mul_one];refine Own.store r (i:=i) (by rw[CB,xm];exact z) λV' ho _=>⟨H.succ G,hJ A _ ?_⟩;rw[<-Z w (by rw[hw];exact u),CB,List.map_set,<-CB];exact ho
   cases hk:kn (AS d m).order y with
   |none=>rw[hk]at N;exact⟨0,rfl,go 0 N⟩
   |some j=>rw[hk]at N;exact⟨j,rfl,go j N⟩
 ·have hdn:=(H.done K).2;rw[wW (by omega),List.drop_eq_nil_of_le (by omega),wA,E]at r;exact⟨s,rfl,r⟩
end
section
variable{V:Mem}{d:Ds}{m:Mm}
theorem Own.growS{V0 V V':Mem}{e:TypeId}{sz:Nat}{s:Sl}{vs:List Value}(h:Sx.Own V0 V e sz s vs)(k:V.sub V'):Sx.Own V0 V' e sz s vs:=Own.moveB h (h.sub.trans k) λ_ _ _ u=>k _ _ u
theorem Nk(h:Dn d=true):BC d=true:=by
 unfold Dn at h;simp only[zC]at h;exact h.1.1
theorem SrAt.grow{U V V':Mem}{p ib:Nat}{st:Sr}{o:Sl}(h:SrAt U d m p ib V st o)(k:V.sub V'):SrAt U d m p ib V' st o:=⟨k _ _ h.at_,Own.growS h.own k,h.map.sub k,h.cap,h.rng⟩
structure CanAt (d:Ds)(m:Mm)(V2 V:Mem)(s:Sl)(i:Nat)(nd:List Nd):Prop where
 len:nd.length=i
 at_:∀(j:Nat) n x,j<i->(AS d m).order[j]?=some n->m.nodes[(n-1).toNat]?=some x->∃s,nd[j]?=some ⟨x.ty,s,BH (AS d m).order (Bm d x.ty) x.f⟩
 mem:∃W,V2.sub W/\Sx.Own W V 55 2 s (nd.flatMap Nd.row)/\∀n∈nd,Nd.Ok W n
theorem ren_in{O:List Int}{xs:List Fld}{vs:List Int}(w:O.length<=4096)(h:∀v∈vs,DX v):∀v∈BH O xs vs,DX v:=λv hv=>by
 unfold BH at hv;obtain⟨⟨a,b⟩,k,rfl⟩:=vV.1 hv;have u:=h b (List.of_mem_zip k).2;show DX (if _ then b else Cv O b);split;·exact u
 ·unfold Cv;split;·exact⟨by omega,by omega⟩
  ·unfold CQ;rcases CP (λz=>decide (z=b)) O with⟨e,-⟩|⟨j,_,e,-,-,e2,-⟩;·rw[e];exact⟨by decide,by decide⟩
   ·rw[e];exact⟨by show(-9223372036854775808:Int)<=(j:Int)+1;omega,by show(j:Int)+1<=(9223372036854775807:Int);omega⟩
theorem canonicalC{U:Mem}{p ib:Nat}{o:Sl}(hvd:BC d=true)(T:Bs d m=true)(hd:Ds.Ok V d)(hm:Mm.Ok V m)(A:SrAt U d m p ib V (AS d m) o):Tri xE 130 #[pv p] V λe V'=>V.sub V'/\∃c:Mm,e=.returned (.agg #[c.gs.v,c.ns.v])/\Mm.Ok V' c/\Gj d m c (AS d m).order:=by
 refine x130 ?_;have R:=FI T;obtain⟨p1,p2,p3,p4,p5⟩:=BD T;obtain⟨l1,l2⟩:=Ja hvd;have hcap:=R.cap;have hoR:Ad V o 1 ((AS d m).order.map Al):=A.own.rows (λ_=>rfl) (by decide);refine⟨nn,nn,AX,d.gs,A.cell 2 1 (by decide),nn,nn,AX,m.gs,A.cell 8 1 (by decide),Tri.mono (OK A hd.globals hm.globals (Cm.1 p4).1 (by omega)) ?_⟩;rintro _ V2 ⟨gs,rfl,hg⟩;have hs2:=A.grow hg.sub;refine⟨gs,rfl,nn,nn,o,hs2.cell 10 1 (by decide),?_⟩;have hgR:Ad V2 gs 1 ((BH (AS d m).order d.globals m.globals).map Al):=hg.rows (λ_=>rfl) (by decide);refine loop3u (mk:=λs:Sl=>.slice s.p s.n s.c) (mc:=λs:Sl=>.slice s.p s.n s.c) (b0:=gs) (c0:=⟨none,0,0⟩) Bw Bw (AS d m).order.length (λi b c V3=>b=gs/\∃nd,CanAt d m V2 V3 c i nd) ⟨rfl,[],rfl,(λ_ _ _ h=>by omega),V2,Mem.sub.refl _,Own.nil (Mem.sub.refl _) _ _,(λ_ h=>by cases h)⟩ ?_;rintro i b s V3 J hi ⟨rfl,nd,C⟩ hJ;obtain⟨W,hW,r,hnd⟩:=C.mem;have I:=hW.trans r.sub;have Z:V.sub V3:=hg.sub.trans I;have Y:=hd.sub Z;have H:=hm.sub Z;have M:=hs2.grow I;have L:=hoR.sub Z;refine⟨λX=>?_,λhge=>?_⟩
 ·obtain⟨n,hnm,hn,-,hil,hp,hz,hrow⟩:=L.get X;have hr:=R.rng n hnm;obtain⟨k,rfl⟩:∃k:Nat,n=(k:Int)+1:=⟨(n-1).toNat,by omega⟩;have hnn:=H.nodes.n_eq;obtain⟨z,Q,hz',-,hl2,hpx,hzx,D⟩:=H.nodes.get (i:=k) (by omega);obtain⟨c1,c2⟩:=of_decide_eq_true (p3 z Q);obtain⟨j,S⟩:∃j:Nat,z.ty=(j:Int):=⟨_,(vu c1).symm⟩;have htn:=Y.types.n_eq;obtain⟨t,htm,ht,-,hl3,P,hzt,E⟩:=Y.types.get (i:=j) (by omega);have hI:IR ((k:Int)):=⟨by omega,by have:=(H.nodes.succ (i:=k) (by omega)).2;omega⟩;have hfo:=Ef ht S;have G:=p5 z Q;rw[hfo]at G;refine⟨hp,hz,X,_,hrow,nn,nn,AX,m.ns,M.cell 9 1 (by decide),?_⟩;rw[show((k:Int)+1-1)=(k:Int)by omega];refine⟨hI,hpx,hzx,by omega,_,_,D,nn,nn,AX,d.ts,M.cell 1 1 (by decide),?_⟩;rw[S];refine⟨P,hzt,by omega,Ak P,_,_,E,Tri.mono (OK M (Y.typesOk t htm).fields (H.nodesOk z Q).rows (Cm.1 G).1 (by have:=l2 t htm;omega)) ?_⟩;rintro _ V4 ⟨fs,rfl,hf⟩;refine⟨fs,rfl,λtb htb=>?_⟩;have K:=Own.growS r hf.sub;obtain⟨nn,N⟩:∃nn:Nd,nn=⟨(j:Int),fs,BH (AS d m).order t.fields z.f⟩:=⟨_,rfl⟩;have hblk:Ad (V4.but s) fs 1 ((BH (AS d m).order t.fields z.f).map Al):=by
   have:Sx.Own (λ_=>none) (V4.but s) 3 1 fs ((BH (AS d m).order t.fields z.f).flatMap Al):=⟨(λ_ _ h=>by cases h),hf.len,by
    rcases hf.at_ with h|⟨g,cur,a,b,c,dd⟩;·exact .inl h
    ·exact .inr ⟨g,cur,a,rfl,Mem.but_at c (r.apartN b),dd⟩⟩
   exact this.rows (λ_=>rfl) (by decide)
  have hn2:Nd.Ok (V4.but s) nn:=by
   rw[N];exact⟨hblk,⟨by show -9223372036854775808<=(j:Int);omega,by show(j:Int)<=9223372036854775807;have:=(Y.types.succ (i:=j) (by omega)).2;omega⟩,ren_in (by omega) (H.nodesOk z Q).vals⟩
  have hlen:nd.length<=4096:=by rw[C.len];omega
  refine app47 (s:=s) (u:=⟨some ⟨tb,0,none⟩,1,1⟩) (xs:=nd) (ys:=[nn]) rfl rfl (K.but.new htb (.cells #[uI (j:Int),uL fs] 55 (0,0))) (Ad.cells (xs:=[nn]) (row:=Nd.row) Az (by rw[N];simp[Nd.row,Sl.v]) (λ_=>rfl) rfl (by simp)) (by simp;omega) λo2 V5 ho2=>⟨o2,rfl,L.succ X,hJ hil _ _ _ ⟨rfl,nd++[nn],by rw[zw,C.len];rfl,λq w x hq hw hx=>?_,V4.but s,hW.trans K.sub_but,ho2,λw hw=>?_⟩⟩
  ·by_cases hqi:q<i
   ·obtain⟨sl,A⟩:=C.at_ q w x hqi hw hx;exact⟨sl,by rw[List.getElem?_append_left (by rw[C.len];exact hqi)];exact A⟩
   ·have:q=i:=by omega
    subst this;rw[hn]at hw;cases hw;rw[show((k:Int)+1-1).toNat=k by omega,hz']at hx;cases hx;refine⟨fs,?_⟩;rw[<-C.len,List.getElem?_concat_length,N,hfo,S]
  ·rcases xh.1 hw with hw|hw;·exact(hnd w hw).sub K.sub_but
   ·rw[zO.1 hw];exact hn2
 ·have hdn:=(L.done hge).2;have hi':i=(AS d m).order.length:=by omega
  refine⟨Z,⟨b,BH (AS d m).order d.globals m.globals,s,nd⟩,rfl,⟨hgR.sub I,ren_in (by omega) hm.gIn,r.rows (λ_=>rfl) (by decide),λn hn=>(hnd n hn).sub r.sub⟩,rfl,by rw[<-hi'];exact C.len,λj n x S hx=>C.at_ j n x (by rw[hi'];exact(yw.1 S).1) S hx⟩
theorem Q7[Tab V](u:Ds.Ok V d)(hm:Mm.Ok V m):Tri xE 81 #[d.v,m.v] V λe V'=>V.sub V'/\
  ((Bs d m=false/\e=.returned (.tuple #[.agg #[Aj.v,Aj.v],.int .i64 1]))∨(Bs d m=true/\∃c:Mm,e=.returned (.tuple #[.agg #[c.gs.v,c.ns.v],.int .i64 0])/\Mm.Ok V' c/\Gj d m c (AS d m).order)):=by
 refine Qg ?_;refine Tri.mono (c128 u hm) ?_;rintro _ V1 ⟨rfl,rfl⟩;refine⟨_,rfl,λh=>?_,λh=>⟨Mem.sub.refl _,.inl ⟨(vx _).mp h,rfl⟩⟩⟩;have h:Bs d m=true:=h;have w:=Nk (BD h).1;refine Tri.mono (c129 h u hm) ?_;rintro _ V2 ⟨p,ib,o,rfl,k⟩;refine⟨_,rfl,Tri.mono (canonicalC w h (u.sub k.own.sub) (hm.sub k.own.sub) k) ?_⟩;rintro _ H ⟨z,c,rfl,r,I⟩;exact⟨_,_,rfl,k.own.sub.trans z,.inr ⟨h,c,rfl,r,I⟩⟩
theorem Q8{s t:Sl}{xs ys:List Int}(h:Ad V s 1 (xs.map Al))(k:Ad V t 1 (ys.map Al)):PP 17 [.slice s.p s.n s.c,.slice t.p t.n t.c] V (.bool (decide (xs=ys))):=by
 refine Pm ?_;have A:=h.n_eq;have I:=k.n_eq;refine⟨λQ=>?_,λQ=>?_⟩
 ·refine AU (mk:=.bool) (b0:=false) xs.length (λi V1=>V=V1/\xs.take i=ys.take i) ⟨rfl,rfl⟩ ?_;rintro i b V1 J hi ⟨rfl,r⟩ M;refine⟨λu=>?_,λv=>?_⟩
  ·obtain⟨x,L,H,-,G,R,X,z⟩:=h.get u;obtain⟨y,C,P,-,D,N,Z,w⟩:=k.get (i:=i) (by omega);refine⟨R,X,u,_,z,N,Z,by omega,_,w,λY=>⟨h.succ u,M G _ _ ⟨rfl,take_eq r H P Y⟩⟩,λY=>?_⟩;rw[decide_eq_false λe=>?_];·exact⟨rfl,rfl⟩
   ·rw[e,P]at H;cases H;exact Y rfl
  ·have E:=(h.done v).2;rw[wW E,wW (by omega)]at r;rw[decide_eq_true r];exact⟨rfl,rfl⟩
 ·rw[decide_eq_false λe=>Q (by rw[A,I,e])];exact⟨rfl,rfl⟩
theorem JW{c:Mm}(u:Bs d m=true)(I:Gj d m c (AS d m).order):c.plain=Cn d m:=by
 have R:=FI u;unfold Mm.plain Cn;rw[I.globals];refine vZ rfl (zx λi=>?_);rw[y4,y4];cases k:(AS d m).order[i]? with
 |none=>
  have:c.nodes[i]?=none:=by
   rw[vY]at k⊢;rw[I.len];exact k
  rw[this];rfl
 |some n=>
  have r:=R.rng n (xJ k);have w:=yv (l:=m.nodes) (i:=(n-1).toNat) (by omega);obtain⟨sl,z⟩:=I.at_ i n _ k w;rw[z];simp only[zJ];rw[w]
end
section
variable{d:Ds}{F:Nat}{m m':Mm}
theorem Q9(h:m.plain=m'.plain)(n:Int):nodeTgt d m n=nodeTgt d m' n:=by
 unfold nodeTgt;cases k:m.nodes[(n-1).toNat]? with
 |some x=>
  obtain⟨y,h1,h2,h3⟩:=Jd h k;rw[h1];simp only[h2,h3]
 |none=>
  have:m'.nodes[(n-1).toNat]?=none:=by
   rw[vY]at k⊢;rw[<-Ic h];exact k
  rw[this]
theorem OL(h:m.plain=m'.plain):∀f:Nat,Ba d m f=Ba d m' f
 |0=>by funext st n;rw[Ba,Ba]
 |f+1=>by
  funext st n;rw[Ba,Ba,Q9 h,OL h f]
theorem OM(h:m.plain=m'.plain):AS d m=AS d m':=by
 have k:m.globals=m'.globals:=(wu h).1;unfold AS lookP;rw[Ic h,OL h,k]
theorem Ji(h:m.plain=m'.plain):Cn d m=Cn d m':=by
 have u:m.globals=m'.globals:=(wu h).1;unfold Cn;rw[OM h,u];refine vZ rfl (List.map_congr_left λn _=>?_);cases k:m.nodes[(n-1).toNat]? with
 |some x=>
  obtain⟨y,h1,h2,h3⟩:=Jd h k;rw[h1];simp only[h2,h3]
 |none=>
  have:m'.nodes[(n-1).toNat]?=none:=by
   rw[vY]at k⊢;rw[<-Ic h];exact k
  rw[this]
end
end Go.Proofs
