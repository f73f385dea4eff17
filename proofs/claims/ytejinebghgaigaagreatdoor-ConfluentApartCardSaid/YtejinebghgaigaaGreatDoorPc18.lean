/- Part 18: no statement of the seat is proved here. -/
import Derived.Test.YtejinebghgaigaaGreatDoorPc17
import Derived.Test.YtejinebghgaigaaGreatDoorPc16
import Derived.Test.YtejinebghgaigaaGreatDoorPc15
import Derived.Test.YtejinebghgaigaaGreatDoorPc12
set_option linter.unusedVariables false
set_option linter.unusedSimpArgs false
open List renaming mem_of_getElem?->xr,getD_cons_zero->xo,getElem?_eq_some_iff->yu,replicate->yK,set_append_right->vR,take_add_one->w8,length_append->zw,length_map->xi,length_take->vU,take_of_length_le->wZ,getElem?_eq_getElem->yr,getElem?_zip_eq_some->vV,length_zip->vW,mem_append_left->vX,mem_cons_of_mem->z6,mem_cons_self->za,filter_cons->yA,mem_iff_getElem?->xj,mem_append->xe,mem_singleton->zO,length_singleton->xf,any_eq_false->vY,getElem?_map->y6,findIdx?_append->vZ,findIdx?_eq_none_iff->vz,append_nil->wD,length_drop->vu,ext_getElem?->zx,getElem?_eq_none_iff->vt,getElem_mem->ym
open Go.Value renaming int->xa
open Go.Proofs.Tryz renaming prog->xG,underlying3->wo,underlying154->vx
open Int renaming toNat_natCast->xu,toNat_of_nonneg->vw
open Nat renaming sub_self->vT
open Go.Ending renaming returned->xI
open Bool renaming and_eq_true->zC,not_eq_true'->zU,not_eq_true->vy
open Prod.mk renaming inj->wm
namespace Go.Proofs
open Go Go.Sx
attribute [local irreducible] Go.Sx.Tri
section
variable{W V0 V V1 V':Mem}{d:Ds}{p F c q:Nat}{s:St}{pr:Pr}{vals:List Int}
theorem exprF{k g:Int}(M:XM V0 d p F V s g k)(u:k≠0){b:Option Addr}{e:E}:PP 318 [pv p,.pointer b,e.v] V (.int .i64 0):=by
 refine x318 ?_;exact⟨nn,nn,_,M.fault,λh=>absurd h u,λ_=>⟨rfl,rfl⟩⟩
theorem loopY{n:Nat}(hE:XExprC d p F n)(hS:JV d p F n):XLoopC d p F n:=by
 intro x W V0 V s c q pr vals h4 X hty Q;obtain⟨G,hG0⟩:∃G:Rx Rt,G=DU d F (A4 d F n) c pr (n+1) x vals s:=⟨_,rfl⟩;rw[<-hG0];refine Tri.mono (S.v_eq x▸x300 (R:=PY W d p F c q pr G) ?_) λ_ _ h=>h;have hF:=X.S.fuel;have hcs:=Gk (F:=F) X.S.procs n;cases kindS hty with
 |@loop a h he hv ht=>
  have h0:x.es[0]?=some a:=by rw[he];rfl
  obtain⟨-,-,-,I,-⟩:=hty.parts;have hG:G=(Fx F s).bind λ_ st=>Ew d F (A4 d F n) c pr a x.ls (n+1) vals st:=by
   grind[DU,Fe]
  refine⟨λm xs V2=>xs=[]/\∃N g s',Du W N d p F c q pr g (n+1) 0 V2 s'/\F<m+(s'.tk+1)/\G=(Fx F s').bind λ_ st=>Ew d F (A4 d F n) c pr a x.ls m g st,n+1,⟨rfl,V0,vals,s,X,by have:=X.n;omega,hG⟩,?_⟩;rintro m V2 ⟨-,N,g,s',X',hm,hG'⟩ J hJ;refine Tri.mono (c301 hF X'.M) ?_;rintro e1 V3 (⟨A,rfl,M3⟩|⟨A,rfl,M3⟩);rotate_left
  ·refine⟨_,rfl,(λh=>by cases h),λ_=>PY.bad (s:=s') ?_ (by decide) X'.fr M3⟩;rw[hG',K8 A];rfl
  have H:=X'.tick A M3;have D:G=Ew d F (A4 d F n) c pr a x.ls m g {s' with tk:=s'.tk+1}:=by rw[hG',K7 A];rfl
  obtain⟨m,rfl⟩:∃m',m=m'+1:=⟨m-1,by omega⟩;rw[Ew]at D;have hp:=G4 hv;obtain⟨k1,k3,k4⟩:=esAt (Q.sub (H.fr.sub.trans H.M.sub)) h0;have HE:=hE a Au N V3 _ c q pr g (H.cx.le (k:=AB a) (by omega)) hp.1 ((Q.eOk a (xr h0)).sub H.fr.sub) ht;refine⟨_,rfl,λ_=>⟨k1,by decide,k3,_,_,_,_,k4,XR.any HE λv kf E V4 M4 hc=>?_⟩,λh=>absurd rfl h⟩;rcases hc with⟨rfl,e2⟩|⟨K,rfl,e2⟩;rotate_left;·exact AT rfl (PY.bad (by rw[D];unfold CZ;rw[e2];rfl) K H.fr M4)
  obtain⟨G2,g2,q2⟩:=(G5 (F:=F) (c:=c) H.S.procs hcs H.po hv ht H.G H.hv).got e2;have u:G=if v=0 then .ok (g,none) E else(A4 d F n c pr x.ls g E).bind λr st=>match r.2 with|some _=>.ok r st|none=>(Fx F st).bind λ_ st=>Ew d F (A4 d F n) c pr a x.ls m r.1 st:=by
   rw[D];unfold CZ;rw[e2];rfl
  have T:Du W N d p F c q pr g n 0 V4 E:=(H.le (k:=1000+0) (by omega)).next g2 G2 H.fr (BV (λh=>g2.right h) H.hv) M4;refine⟨λhz=>?_,λhz=>⟨nn,nn,_,M4.fault,λ_=>?_,λh=>absurd rfl h⟩⟩
  ·rw[if_pos (show v=0 from hz)]at u;exact PY.ok u T.fr M4
  rw[if_neg (show ¬v=0 from hz)]at u;have P:=hcs c pr x.ls g E T.po I T.G T.hv;refine PY.any (hS x.ls W N V4 E c q pr g x.ll T I Q.lOk Q.lRows) λV2' Z rv kf s3 V5 Y U hc=>?_;refine⟨nn,nn,_,Y.done U,λhd=>?_,λhd=>⟨nn,nn,_,U.fault,λe=>?_,λe=>?_⟩⟩
  ·rcases hc with⟨rfl,L⟩|⟨K,L⟩
   ·cases rv with
    |none=>cases hd
    |some z=>exact PY.ok (rt:=(Z,some z)) (by rw[u,L];rfl) Y U
   ·exact PY.bad (by rw[u,L];rfl) K Y U
  ·have e:kf=0:=e;rcases hc with⟨-,L⟩|⟨K,-⟩;rotate_left;·omega
   subst e;cases rv with
   |some z=>grind
   |none=>
    obtain⟨G3,g3,q3⟩:=P.got L;have t2:=g2.tk;have t3:=g3.tk;have hn1:=X'.n;have ht2:s'.tk+1<=E.tk:=t2;refine hJ m _ _ (by omega) ⟨rfl,V2',Z,s3,?_,by omega,by rw[u,L];rfl⟩;have C:=T.next (m:=0) (k:=0) g3 G3 Y q3.1 U;exact⟨C.S,C.fr,C.pm,C.G,C.hv,C.M,C.tk,by omega,C.w⟩
  ·have e:¬kf=0:=e;rcases hc with⟨h,-⟩|⟨K,L⟩;·omega
   ·exact PY.bad (by rw[u,L];rfl) K Y U
 |set h=>omega
 |put h=>omega
 |cond h=>omega
 |ret0 h=>omega
 |ret1 h=>omega
 |call h=>omega
theorem retY{g u:Int}(h:Ej W V0 q pr vals none)(M:XM V0 d p F V s u g){v:Int}{Q:Mem->Prop}(w:∀k V',Ej W k q pr vals (some v)->XM k d p F V' s u g->Q V'):
  An (Aa (sa q) 8) 0 [.int .i64 v] V λV2=>¬(some (⟨q,0,none⟩:Addr))=none/\¬(some (⟨q,0,none⟩:Addr))=none/\An (Aa (sa q) 7) 0 [.bool true] V2 Q:=by
 obtain⟨a,b,h1,h2,h3⟩:=h.ex;have z:V0 q≠none:=by rw[h1];simp
 refine An.at2 (off:=8) (M.sub _ _ h1) (by simp[Dt]) ⟨nn,nn,An.at2 (off:=7) Az (by simp[Dt]) ?_⟩;have r:=Na h3 h.q0 h1 (.cells ((Dt pr a b none).toArray.toList.take 8++[xa .i64 v]++(Dt pr a b none).toArray.toList.drop (8+[xa .i64 v].length)).toArray 372 (0,0));have e:=Na r h.q0 Az (.cells (Dt pr a b (some v)).toArray 372 (0,0));have H:=M.poke z (.cells ((Dt pr a b none).toArray.toList.take 8++[xa .i64 v]++(Dt pr a b none).toArray.toList.drop (8+[xa .i64 v].length)).toArray 372 (0,0));have J:=H.poke (b:=q) (by rw[Mem.set_same];simp) (.cells (Dt pr a b (some v)).toArray 372 (0,0));exact w _ _ ⟨(h.sub.set h.q0 _).set h.q0 _,h.q0,a,b,Mem.set_same _ _ _,h2,e⟩ J
theorem retY0{g u:Int}(h:Ej W V0 q pr vals none)(M:XM V0 d p F V s u g){Q:Mem->Prop}(w:∀k V',Ej W k q pr vals (some 0)->XM k d p F V' s u g->Q V'):
  An (Aa (sa q) 7) 0 [.bool true] V Q:=by
 obtain⟨a,b,h1,h2,h3⟩:=h.ex;have z:V0 q≠none:=by rw[h1];simp
 refine An.at2 (off:=7) (M.sub _ _ h1) (by simp[Dt]) ?_;have r:=Na h3 h.q0 h1 (.cells (Dt pr a b (some 0)).toArray 372 (0,0));have e:=M.poke z (.cells (Dt pr a b (some 0)).toArray 372 (0,0));exact w _ _ ⟨h.sub.set h.q0 _,h.q0,a,b,Mem.set_same _ _ _,h2,r⟩ e
theorem bodyY{n:Nat}(hE:XExprC d p F n)(hR:XCallC d p F n)(hS:JV d p F n):XBodyC d p F n:=by
 intro x W V0 V s c q pr vals h4 I hty H;obtain⟨G,Y⟩:∃G:Rx Rt,G=Fe d F (A4 d F n) c pr (n+1) x vals s:=⟨_,rfl⟩;rw[<-Y];refine Tri.mono (S.v_eq x▸x302 (R:=PY W d p F c q pr G) ?_) λ_ _ h=>h;have hcs:=Gk (F:=F) I.S.procs n;have ex:∀{i:Nat}{a:E}{u:KB}{V2 N:Mem}{r:List Int}{X:St}{m:Nat},x.es[i]?=some a->By a=true->As d (Av d pr) a=(u,0)->Du W N d p F c q pr r n m V2 X->1000<=m->
   Tri xG 318 #[pv p,pv q,.agg #[.int .i64 a.op,.int .i64 a.n,.string a.s,.slice a.l.p a.l.n a.l.c]] V2 (XR N d p F c (CZ d (A4 d F n) c pr r a X)):=λ{i a u V2 N r X m} K hv ha J hm=>by
  have hp:=G4 hv;exact hE a u N V2 X c q pr r (J.cx.le (by omega)) hp.1 ((H.eOk a (xr K)).sub J.fr.sub) ha
 have go:∀{a:E}{u:KB}{V2 V3 N:Mem}{r:List Int}{X s3:St}{m:Nat}{v:Int},By a=true->As d (Av d pr) a=(u,0)->Du W N d p F c q pr r n (1000+m) V2 X->CZ d (A4 d F n) c pr r a X=.ok v s3->XM N d p F V3 s3 c 0->
   Du W N d p F c q pr r n m V3 s3/\Ca d s3.mm u v/\Gr F 1000 X s3:=λ{a u V2 V3 N r X s3 m v} hv ha J e M3=>by
  obtain⟨G3,g3,q3⟩:=(G5 (F:=F) (c:=c) J.S.procs hcs J.po hv ha J.G J.hv).got e;exact⟨J.next g3 G3 J.fr (BV (λh=>g3.right h) J.hv) M3,q3,g3⟩
 unfold Fe at Y;have T:=I.fr.sub.trans I.M.sub;cases kindS hty with
 |@set a u t h C hv ht hl hne hf=>
  rw[if_pos h,C,xo]at Y;have K:x.es[0]?=some a:=by rw[C];rfl
  obtain⟨k1,k3,k4⟩:=esAt (H.sub T) K;refine AT h ⟨k1,by decide,k3,_,_,_,_,k4,XR.any (ex K hv ht I (by omega)) λv kf X V2 Q U=>?_⟩;refine x319 ?_;refine⟨nn,nn,_,Q.fault,λZ=>?_,λZ=>?_⟩;rotate_left
  ·rcases U with⟨h,-⟩|⟨D,-,A⟩;·omega
   ·exact⟨rfl,PY.bad (by rw[Y,A];rfl) D I.fr Q⟩
  have Z:kf=0:=Z;rcases U with⟨-,A⟩|⟨D,-⟩;rotate_left;·exact absurd Z D
  subst Z;rw[A]at Y;have hG2:G=setX d pr x.s v vals X:=Y;obtain⟨J,hv2,-⟩:=go (m:=3000) hv ht I A Q;obtain⟨fa,fb,hq0,hra0,hrb0⟩:=J.fr.ex;have hq:=Q.sub _ _ hq0;refine⟨nn,nn,fa,Am hq 5 1 (by simp[Dt]),(c336 (hra0.sub (J.fr.sub.trans Q.sub))).call ⟨_,rfl,?_⟩⟩;unfold setX at hG2;rcases H9 J.G J.hv J.po.vars hl hne with⟨i,g,w,h1,h2,h3,h4,-⟩|⟨i,g,w,h0',h1,h2,h3,h4,-⟩
  ·rw[h1];rw[if_pos (by omega),h1,xu]at hG2;have hil:=(yu.1 h3).1;obtain⟨g1,g2,g3,-⟩:=Fz (hrb0.rows (λ_=>rfl) (by decide)) h3;refine AT (by omega) ⟨nn,nn,fb,Am hq 6 1 (by simp[Dt]),g1,g2,g3,frStoreX hrb0 Q hil λN V' ho M' hx=>?_⟩;refine⟨rfl,PY.ok (rt:=(vals.set i v,none)) hG2 ⟨ho.sub,J.fr.q0,fa,fb,?_,hra0,ho⟩ M'⟩;rw[hx];exact hq0;exact hrb0.apart λcur hcq=>by
    simp_all
  ·rw[h0'];rw[if_neg (by omega),h1,xu]at hG2;obtain⟨gs,ns,ls,nd,hat,L⟩:=Q.ex;have hd:=(J.S.sub J.fr.sub).ds.sub L.sub;refine Ah (by decide) ⟨nn,nn,AV,d.gs,Am hat 2 1 (by simp[AE]),(c336 hd.globals).call ⟨_,rfl,?_⟩⟩;rw[h1];refine Tri.mono (c331 Q (Yx.fit (m:=0) (J.cx.le (by omega)))) ?_;rintro _ V5 ⟨rfl,M5⟩;obtain⟨gs5,ns5,G9,nd5,P,L5⟩:=M5.ex;obtain⟨g1,g2,g3,-⟩:=Fz (L5.glob.rows (λ_=>rfl) (by decide)) (i:=i) (v:=w) h3;have hil:=(yu.1 h3).1;refine⟨rfl,nn,nn,AV,gs5,Am P 8 1 (by simp[AE]),g1,g2,g3,L5.setG (i:=i) hil λV6 L6 hk6=>?_⟩;refine⟨rfl,PY.ok (V0:=V0) (rt:=(vals,none)) hG2 J.fr (MA.mk M5.p0 ⟨gs5,ns5,G9,nd5,?_,L6⟩)⟩;rw[hk6 _ (Hy P Fg L5.glob (.inl rfl))];exact P
 |@put a b u w t h C hv hw ha ht hl hf=>
  rw[if_neg (by omega),if_pos h,C,xo,List.getD_cons_succ,xo]at Y;have K:x.es[0]?=some a:=by rw[C];rfl
  have h1:x.es[1]?=some b:=by rw[C];rfl
  obtain⟨k1,k3,k4⟩:=esAt (H.sub T) K;refine Ah (by omega) (AT h ?_);refine x320 ?_;refine⟨k1,by decide,k3,_,_,_,_,k4,XR.any (ex K hv ha I (by omega)) λv kf X V2 Q U=>?_⟩;obtain⟨l1,l3,l4⟩:=esAt (H.sub (I.fr.sub.trans Q.sub)) h1;refine⟨l1,by decide,l3,_,_,_,_,l4,?_⟩;rcases U with⟨rfl,A⟩|⟨D,-,A⟩;rotate_left;·exact(exprF Q D (e:=b)).call ⟨_,rfl,nn,nn,_,Q.fault,λh=>absurd h D,λ_=>⟨rfl,PY.bad (by rw[Y,A];rfl) D I.fr Q⟩⟩
  rw[A]at Y;obtain⟨J,hv2,-⟩:=go (m:=3000) hv ha I A Q;refine XR.any (ex h1 hw ht J (by omega)) λy kf s3 V3 M3 U=>⟨nn,nn,_,M3.fault,λZ=>?_,λZ=>?_⟩;rotate_left
  ·rcases U with⟨h,-⟩|⟨D,-,e3⟩;·omega
   ·exact⟨rfl,PY.bad (by rw[Y];show((CZ d (A4 d F n) c pr vals b X).bind _)=_;rw[e3];rfl) D J.fr M3⟩
  have Z:kf=0:=Z;rcases U with⟨-,e3⟩|⟨D,-⟩;rotate_left;·exact absurd Z D
  subst Z;have hG3:G=(putX d v y x.s s3).bind λ_ st=>.ok (vals,none) st:=by rw[Y];show((CZ d (A4 d F n) c pr vals b X).bind _)=_;rw[e3];rfl
  obtain⟨X3,hv3,g3⟩:=go (m:=2000) hw ht J e3 M3;have hv2:=g3.val hv2;refine⟨λZ=>?_,λZ=>?_⟩
  ·refine Tri.mono (c275 M3) ?_;rintro _ V4 ⟨rfl,M4⟩;refine⟨_,rfl,rfl,PY.bad (s:=s3) (k:=17) ?_ (by decide) X3.fr M4⟩;rw[hG3];unfold putX;rw[if_pos (show v=0 from Z)];rfl
  have Z:¬v=0:=Z;obtain⟨k,i,j,tt,g,fs,z,rfl,f2,f3,f4,f5,f6,f7,f8,-⟩:=IV X3.G hl hv2 Z;have hG4:G=.ok (vals,none) {s3 with ns:=s3.ns.set k ((j:Int),fs.set i y),lg:=s3.lg++[(2,(k:Int)+1,(i:Int))]}:=by
   rw[hG3];unfold putX;rw[if_neg Z,show((k:Int)+1-1).toNat=k by omega,f2];simp only;rw[f5,f6,xu];rfl
  refine(c330 (X3.S.sub X3.fr.sub) M3 f2 f3).call ⟨_,rfl,?_⟩;rw[f6];refine Tri.mono (c331 M3 (Yx.fit (m:=0) (X3.cx.le (by omega)))) ?_;rintro _ V5 ⟨rfl,M5⟩;obtain⟨gs5,ns5,G9,nd5,sl5,P,L5,hnd5,hI,n1,n2,n3,n4,m1,m2,m3,m4⟩:=nodeX M5 (k:=k) (i:=i) f2 f8;have hil:=(yu.1 f8).1;rw[show((k:Int)+1-1)=(k:Int)by omega];refine⟨rfl,nn,nn,AV,ns5,Am P 9 1 (by simp[AE]),hI,n1,n2,n3,Al n1,_,_,n4,m1,m2,m3,L5.setF hnd5 hil λV6 L6 hk6=>?_⟩;refine⟨rfl,PY.ok (V0:=V0) (rt:=(vals,none)) hG4 X3.fr (MA.mk M5.p0 ⟨gs5,ns5,G9,_,?_,L6⟩)⟩;rw[hk6 _ (Hy P Fg (L5.fld _ (xr hnd5)) (.inl rfl))];exact P
 |@cond a h C hv ht=>
  rw[if_neg (by omega),if_neg (by omega),if_pos h,C,xo]at Y;have K:x.es[0]?=some a:=by rw[C];rfl
  obtain⟨k1,k3,k4⟩:=esAt (H.sub T) K;obtain⟨-,-,-,hlt1,hlt2⟩:=hty.parts;refine Ah (by omega) (Ah (by omega) (AT h ⟨k1,by decide,k3,_,_,_,_,k4,XR.any (ex K hv ht I (by omega)) λv kf X V2 Q U=>⟨nn,nn,_,Q.fault,λZ=>?_,λZ=>?_⟩⟩));rotate_left
  ·rcases U with⟨h,-⟩|⟨D,-,A⟩;·omega
   ·exact PY.bad (by rw[Y,A];rfl) D I.fr Q
  have Z:kf=0:=Z;rcases U with⟨-,A⟩|⟨D,-⟩;rotate_left;·omega
  subst Z;rw[A]at Y;have hG2:G=if v=0 then A4 d F n c pr x.xs vals X else A4 d F n c pr x.ls vals X:=Y
  obtain⟨J,-,-⟩:=go (m:=3000) hv ht I A Q;refine⟨λZ=>PY.last ?_ (hS x.xs W V0 V2 X c q pr vals x.xl (J.le (by omega)) hlt2 H.xOk H.xRows),λZ=>PY.last ?_ (hS x.ls W V0 V2 X c q pr vals x.ll (J.le (by omega)) hlt1 H.lOk H.lRows)⟩;·simp_all
  simp_all
 |loop h=>exact absurd h h4
 |ret0 h C hr=>
  rw[if_neg (by omega),if_neg (by omega),if_neg (by omega),if_neg (by omega),if_pos h,C]at Y;have hn:=(H.sub T).eRows.n_eq;rw[C]at hn;refine Ah (by omega) (Ah (by omega) (Ah (by omega) (AT h (Ah (by rw[hn];decide) ⟨nn,nn,retY0 I.fr I.M λN V' hf M'=>?_⟩))));exact PY.ok (rt:=(vals,some 0)) Y hf M'
 |@ret1 a u h C hv ht hr hf=>
  rw[if_neg (by omega),if_neg (by omega),if_neg (by omega),if_neg (by omega),if_pos h,C]at Y;have K:x.es[0]?=some a:=by rw[C];rfl
  have hn:=(H.sub T).eRows.n_eq;rw[C]at hn;obtain⟨k1,k3,k4⟩:=esAt (H.sub T) K;refine Ah (by omega) (Ah (by omega) (Ah (by omega) (AT h (AT (by rw[hn];rfl) ⟨k1,by decide,k3,_,_,_,_,k4,XR.any (ex K hv ht I (by omega)) λv kf X V2 Q U=>⟨nn,nn,retY I.fr Q λN V' hf M'=>?_⟩⟩))));rcases U with⟨rfl,A⟩|⟨D,-,A⟩;·exact PY.ok (rt:=(vals,some v)) (by rw[Y];show(CZ d (A4 d F n) c pr vals a s).bind _=_;rw[A];rfl) hf M'
  ·exact PY.bad (by rw[Y];show(CZ d (A4 d F n) c pr vals a s).bind _=_;rw[A];rfl) D hf M'
 |@call a pr' i h C hv ho U=>
  rw[if_neg (by omega),if_neg (by omega),if_neg (by omega),if_neg (by omega),if_neg (by omega),if_pos h,C,xo]at Y;have K:x.es[0]?=some a:=by rw[C];rfl
  obtain⟨k1,k3,k4⟩:=esAt (H.sub T) K;have hp:=G4 hv;refine Ah (by omega) (Ah (by omega) (Ah (by omega) (Ah (by omega) (AT h ⟨k1,by decide,k3,_,_,_,_,k4,XR.any (exprX0 hR a V0 V s c q pr vals (I.cx.le (by omega)) hp.1 ((H.eOk a (xr K)).sub I.fr.sub) (.inr ⟨ho,pr',i,U⟩)) λv kf X V2 Q hcc=>?_⟩))));rcases hcc with⟨rfl,A⟩|⟨D,-,A⟩;·exact PY.ok (rt:=(vals,none)) (by rw[Y];unfold CZ;rw[A];rfl) I.fr Q
  ·exact PY.bad (by rw[Y];unfold CZ;rw[A];rfl) D I.fr Q
end
theorem set_fill{args:List Int}{n i:Nat}{v:Int}(hi:args[i]?=some v)(k:i<n):(args.take i++yK (n-i) 0).set i v=args.take (i+1)++yK (n-(i+1)) 0:=by
 have g:=(yu.1 hi).1;have h:(args.take i).length=i:=by grind
 rw[vR _ _ (by omega),h,vT];obtain⟨m,hm⟩:∃m,n-i=m+1:=⟨n-i-1,by omega⟩;grind[w8]
section
variable{V0 V:Mem}{d:Ds}{p F:Nat}{s:St}
theorem callY{n:Nat}(H:JV d p F n):XCallC d p F n:=by
 intro V0 V s c i pr args l hS r G ha hl M htk hn hw;obtain⟨G',hG⟩:∃G':Rx Int,G'=CJ d (A4 d F n) c i args s:=⟨_,rfl⟩;rw[<-hG];have N:=xr r;have I:=hS.procs pr N;refine Tri.mono (x241 (R:=XR V0 d p F c G') ?_) λ_ _ h=>h;obtain⟨gs,ns,ls,nd,Z,L⟩:=M.ex;unfold CJ at hG;refine⟨nn,nn,_,Am Z 12 1 (by simp[AE]),λh2=>failX M (by decide) (by grind),λh2=>?_⟩;rw[if_neg (by omega),xu,r]at hG;refine⟨nn,nn,_,Am Z 12 1 (by simp[AE]),⟨by omega,by omega⟩,nn,nn,An.at2 (off:=12) Z (by simp[AE]) ?_⟩;have M1:XM V0 d p F (V.set p (.cells (AE d F s.tk ((c+1:Nat):Int) 0 s.cm (Bh s.lg) gs ns ls).toArray 302 (0,0))) s ((c+1:Nat):Int) 0:=MA.set (row':=AE d F s.tk ((c+1:Nat):Int) 0 s.cm (Bh s.lg)) Fg M.p0 Z L rfl rfl rfl rfl;obtain⟨V1,hV1⟩:∃V1,V1=V.set p (.cells (AE d F s.tk ((c+1:Nat):Int) 0 s.cm (Bh s.lg) gs ns ls).toArray 302 (0,0)):=⟨_,rfl⟩;rw[<-hV1]at M1;have e1:V.set p (.cells ((AE d F s.tk c 0 s.cm (Bh s.lg) gs ns ls).toArray.toList.take 12++[xa .i64 ((c:Int)+1)]++(AE d F s.tk c 0 s.cm (Bh s.lg) gs ns ls).toArray.toList.drop (12+[xa .i64 ((c:Int)+1)].length)).toArray 302 (0,0))=V1:=by rw[hV1];rfl
 erw [e1]
 obtain⟨gs1,ns1,M9,I1,hat1,L1⟩:=M1.ex;have X:=hS.ds.sub L1.sub;have hn1:=X.procs.n_eq;have hil:=(yu.1 r).1;obtain⟨y,-,hy,-,-,hp1,hz1,C⟩:=X.procs.get (i:=i) (by omega);rw[r]at hy;cases hy;refine⟨nn,nn,AV,d.ps,Am hat1 3 1 (by simp[AE]),hp1,hz1,by omega,_,_,_,_,_,C,λb0 hb0=>?_⟩;have hok:=X.procsOk pr N;have hln:=I.lens;have s0:=Mem.sub_new hb0 (.cells #[] 112 (0,0));refine EX (s:=⟨some ⟨b0,0,none⟩,0,0⟩) (u:=pr.ps) (xs:=[]) (ys:=pr.params) rfl rfl (Own.empty s0 _ _ _) (hok.params.sub s0) (by simp;omega) λs2 V2 o2=>⟨s2,rfl,?_⟩;refine EX (s:=s2) (u:=pr.ls) (xs:=pr.params) (ys:=pr.locals) rfl rfl o2 (hok.locals.sub o2.sub) (by omega) λk V3 o3=>⟨k,rfl,?_⟩;have h3n:=o3.n_eq (λ_=>rfl) (by decide);rw[zw]at h3n;refine mk43 (n:=k.n) rfl rfl (by omega) λg hg=>⟨⟨some ⟨g,0,none⟩,k.n,k.n⟩,rfl,?_⟩;have hown:=I4 hg (n:=k.n) (by omega);have hal:=(Cw.1 ha).1;obtain⟨V4,hV4⟩:∃V4,V4=V3.set g (.cells (madeCells (xa .i64 0).cells (k.n*1)) 3 (0,0)):=⟨_,rfl⟩;rw[<-hV4]at hown⊢;refine EW args.length (λj D=>Sx.Own V3 D 3 1 ⟨some ⟨g,0,none⟩,k.n,k.n⟩ ((args.take j++yK (k.n-j) 0).flatMap Ak)) (by simp_all) ?_;rintro j D J hj o5 hJ;have E:=o5.sub;have K:=hl.sub ((M1.sub.trans o3.sub).trans E);refine⟨λS=>?_,λhge=>?_⟩
 ·obtain⟨v,-,hv,-,hjl,hp,hz,hrow⟩:=K.get S;refine⟨hp,hz,S,v,hrow,nn,by omega,(show(j:Int)<(k.n:Int)by omega),?_⟩;show An (Aa (sa g) (j*1)) 0 [.int .i64 v] D _;rw[Nat.mul_one];refine Own.store o5 (i:=j) (by rw[Cy,xi,zw,vU,List.length_replicate];omega) λV6 o6 _=>⟨K.succ S,hJ hjl _ ?_⟩;have e:((args.take j++yK (k.n-j) 0).flatMap Ak).set j (xa .i64 v)=(args.take (j+1)++yK (k.n-(j+1)) 0).flatMap Ak:=by
   rw[Cy,Cy,<-set_fill hv (by omega),List.map_set]
  simp_all
 ·have hdn:=(K.done hge).2;have hja:j=args.length:=by omega
  subst hja;rw[List.take_length,show k.n-args.length=pr.locals.length by omega]at o5;intro b2 hb2;obtain⟨V6,Y⟩:∃V6,V6=D.set b2 (.cells (Dt pr k ⟨some ⟨g,0,none⟩,k.n,k.n⟩ none).toArray 372 (0,0)):=⟨_,rfl⟩;have e6:D.set b2 (.cells #[uS pr.name,uL pr.ps,uS pr.result,uL pr.ls,uL pr.bs,uL k,uL ⟨some ⟨g,0,none⟩,k.n,k.n⟩,uB false,uI 0] 372 (0,0))=V6:=by rw[Y];rfl
  show Tri _ _ #[pv p,pv b2,.slice pr.bs.p pr.bs.n pr.bs.c] (D.set b2 (.cells #[uS pr.name,uL pr.ps,uS pr.result,uL pr.ls,uL pr.bs,uL k,uL ⟨some ⟨g,0,none⟩,k.n,k.n⟩,uB false,uI 0] 372 (0,0))) _;rw[e6];have s56:D.sub V6:=Y▸Mem.sub_new hb2 _;have s36:=E.trans s56;have s16:=o3.sub.trans s36;obtain⟨W0,w0,w6,MW,T⟩:=M1.after s16;have n1:∀{b:Nat},V3 b=none->V1 b=none:=λ{b} h=>free o3.sub h;have n5:V3 b2=none:=free E hb2;obtain⟨b,hb⟩:∃b:Sl,b=⟨some ⟨g,0,none⟩,k.n,k.n⟩:=⟨_,rfl⟩;rw[<-hb]at o5 Y;have hbk:∀{x:Nat},A8 b x->V3 x=none:=λh=>Own.none0 o5 h;have nb2:¬A8 b b2:=λU=>by
   grind[Own.some]
  obtain⟨W,hW⟩:∃W,W=Mem.minus W0 (λx=>x=b2∨A8 b x):=⟨_,rfl⟩;have hWW:W.sub W0:=by rw[hW];exact G6
  have V03:V0.sub V3:=M1.sub.trans o3.sub;have hws:V0.sub W:=λx o hx=>by
   rw[hW,C4];·exact w0 _ _ hx
   ·rintro(rfl|U);·have:=V03 _ _ hx;simp_all
    ·have:=V03 _ _ hx;simp_all
  have o5':Sx.Own W W0 3 1 b ((args++yK pr.locals.length (0:Int)).flatMap Ak):=I6 o5 hWW λx o U h0 h1=>⟨by rw[hW];exact EO (.inr U),T _ _ (n1 h0) (s56 _ _ h1)⟩;have hs3:Sx.Own (λ_=>none) W 112 2 k ((pr.params++pr.locals).flatMap Fld.row):=I6 o3 (λ_ _ h=>by cases h) λx o U h0 h1=>⟨rfl,by
   rw[hW,C4];·exact T _ _ h0 (s36 _ _ h1)
   grind⟩
  have hfr:W0 b2=some (.cells (Dt pr k b none).toArray 372 (0,0)):=T _ _ (n1 n5) (by rw[Y];exact Mem.set_same _ _ _);have FR:Ej W W0 b2 pr (args++yK pr.locals.length 0) none:=⟨hWW,by rw[hW];exact EO (.inl rfl),k,b,hfr,hs3.rows (λ_=>rfl) (by decide),o5'⟩;have hv:=JN ha (KV G.valid λf hf=>I.vars f (List.mem_append_right _ hf));have A:=(hS.ds.sub hws).procsOk pr N;refine PY.any (H pr.body W W0 V6 s (c+1) b2 pr _ pr.bs ⟨hS.sub hws,FR,N,G,hv,MW,htk,hn,hw⟩ I.body (λx hx=>A.stmts x hx) A.body) λW7 vals7 rv kf w V7 f7 M7 hc=>?_;obtain⟨Q,P,G8,nd7,z,L7⟩:=M7.ex;refine⟨nn,nn,_,Am z 12 1 (by simp[AE]),⟨by omega,by omega⟩,nn,nn,An.at2 (off:=12) z (by simp[AE]) ?_⟩;have M8:XM W7 d p F (V7.set p (.cells (AE d F w.tk c kf w.cm (Bh w.lg) Q P G8).toArray 302 (0,0))) w c kf:=MA.set (row':=AE d F w.tk c kf w.cm (Bh w.lg)) Fg M7.p0 z L7 rfl rfl rfl rfl;obtain⟨V8,hV8⟩:∃V8,V8=V7.set p (.cells (AE d F w.tk c kf w.cm (Bh w.lg) Q P G8).toArray 302 (0,0)):=⟨_,rfl⟩;rw[<-hV8]at M8;have e8:V7.set p (.cells ((AE d F w.tk ((c+1:Nat):Int) kf w.cm (Bh w.lg) Q P G8).toArray.toList.take 12++[xa .i64 (((c+1:Nat):Int)-1)]++(AE d F w.tk ((c+1:Nat):Int) kf w.cm (Bh w.lg) Q P G8).toArray.toList.drop (12+[xa .i64 (((c+1:Nat):Int)-1)].length)).toArray 302 (0,0))=V8:=by
   rw[hV8,show(((c+1:Nat):Int)-1)=(c:Int)by omega];rfl
  erw [e8]
  obtain⟨fa,fb,hq7,-,-⟩:=f7.ex;have MN:=M8.narrow (hws.trans f7.sub);refine⟨nn,nn,_,M8.fault,λhz=>⟨nn,nn,_,Am (M8.sub _ _ hq7) 8 1 (by simp[Dt]),?_⟩,λhz=>?_⟩
  ·have hz:kf=0:=hz;rcases hc with⟨-,e⟩|⟨U,-⟩
   ·subst hz;exact XR.ok (by rw[hG];show((A4 d F n (c+1) pr pr.body _ s).bind _)=_;rw[e];rfl) MN
   omega
  ·rcases hc with⟨h,-⟩|⟨U,e⟩;·omega
   ·exact XR.bad (by rw[hG];show((A4 d F n (c+1) pr pr.body _ s).bind _)=_;rw[e];rfl) U MN
theorem allY(d:Ds)(p F:Nat):∀n,JV d p F n
 |0=>λl W V0 V s c q pr vals sl X _ _ _=>absurd X.n (by have:=X.tk;omega)
 |n+1=>stsY (loopY (exprX (callY (allY d p F n))) (allY d p F n)) (bodyY (exprX (callY (allY d p F n))) (callY (allY d p F n)) (allY d p F n))
end
theorem copyInt{V:Mem}{b:Nat}{l:Sl}{xs:List Int}(g:V b=none)(h:Ad V l 1 (xs.map Ak))(w:xs.length<=2147483648){ty:Nat}{x y:Operand}{vals:Operand->Value}(z:vals x=.slice (sa b) 0 0)(r:vals y=.slice l.p l.n l.c){Q:Value->Mem->Prop}(e:∀s V',Sx.Own V V' 3 1 s (xs.flatMap Ak)->Q (.slice s.p s.n s.c) V'):
  GenK xG (.call {callee:=.builtin .append,args:=#[x,y],argTypes:=#[43,43]}) ty vals (V.set b (.cells #[] 3 (0,0))) Q:=by
 have k:=Mem.sub_new g (.cells #[] 3 (0,0));exact Fy (s:=⟨some ⟨b,0,none⟩,0,0⟩) (u:=l) (xs:=[]) (ys:=xs) z r (Own.empty (V0:=V) k _ _ _) (h.sub k) (by simpa using w) λs' V' v=>e s' V' (by simpa using v)
theorem Nb{V:Mem}{m:Mm}(hm:Mm.Ok V m)(h1:m.globals.length<=2147483648)(h2:m.nodes.length<=4096)(h3:∀n∈m.nodes,n.f.length<=2147483648):Tri xG 61 #[m.v] V λe V'=>∃gs ns nd,e=.returned (.agg #[.slice gs.p gs.n gs.c,.slice ns.p ns.n ns.c])/\AM V V' gs ns Ai nd (AY m):=by
 refine QF ?_;intro b0 Z;refine copyInt Z hm.globals h1 rfl rfl λgs V1 Y=>?_;refine⟨gs,rfl,loop3u (mk:=λs:Sl=>.slice s.p s.n s.c) (mc:=λs:Sl=>.slice s.p s.n s.c) (b0:=gs) (c0:=⟨none,0,0⟩) Bv Bv m.nodes.length (λi b ns V2=>b=gs/\∃nd,AM V V2 gs ns Ai nd ⟨m.globals,(m.nodes.take i).map λn=>(n.ty,n.f),0,0,[]⟩/\nd.length=i) ⟨rfl,[],⟨Y,Own.nil Y.sub _ _,Own.nil Y.sub _ _,(λn Q=>by cases Q),rfl,(λn Q=>by cases Q),(λi j n T c h=>by cases h)⟩,rfl⟩ ?_⟩;rintro i b ns V2 J hi ⟨rfl,nd,L,D⟩ E;have N:=hm.nodes.sub L.sub;refine⟨λg=>?_,λP=>?_⟩
 ·obtain⟨x,r,K,-,A,z,H,w⟩:=N.get g;have G:=Al (n:=i*2) z;have R:(i:Int)<(m.ns.n:Int):=g;refine⟨z,H,g,G,x.ty,x.sl,w,z,H,g,G,x.ty,x.sl,w,JG (j:=1) (m:=1) w (by decide) (by decide),G,z,H,g,KI (k:=1) w (by decide),G,z,H,g,λb1 I=>?_⟩;refine copyInt I ((hm.nodesOk x r).rows.sub L.sub) (h3 x r) rfl rfl λfs U X=>?_;have u:=(N.sub X.sub).get g;obtain⟨y,-,C,-,-,-,-,u⟩:=u;rw[K]at C;cases C;refine⟨fs,rfl,KI (k:=1) u (by decide),G,z,H,g,λtb M=>L.new (n:=⟨x.ty,fs,x.f⟩) X M rfl rfl (by omega) λs' V' L' _=>⟨s',rfl,N.succ g,E A _ _ _ ⟨rfl,nd++[⟨x.ty,fs,x.f⟩],?_,by simp_all⟩⟩⟩;grind[w8]
 ·have S:=(N.done P).2;rw[wZ S]at L;exact⟨b,ns,nd,rfl,L⟩
section
variable{V V0:Mem}{d:Ds}{m:Mm}{F:Nat}{nm:KB}{args:List Int}{l:Sl}
theorem Q8(k:Ds.Ok V d)(hm:Mm.Ok V m){F:Int}:PP 87 [d.v,m.v,.int .i64 F] V (.int .i64 (C8 d m F)):=by
 refine Qq ?_;have bad:¬Ao d m->(xI (.int .i64 1)=.returned (.int .i64 (C8 d m F))/\V=V):=λh=>⟨by grind[C8],rfl⟩;refine(Mh k).call ⟨_,rfl,λh1=>(c135 k).call ⟨_,rfl,λh2=>(QO k hm).call ⟨_,rfl,λh3=>?_,λh3=>bad λG=>h3 G.mem⟩,λh2=>bad λG=>h2 ?_⟩,λh1=>bad λG=>h1 G.valid⟩
 ·have h2:wellT d=true:=h2;unfold wellT at h2;rw[zC,decide_eq_true_eq]at h2;have G:Ao d m:=⟨h1,MX h2.2,h3⟩;refine⟨λh=>⟨?_,rfl⟩,λh=>⟨λh2=>⟨?_,rfl⟩,λh2=>⟨?_,rfl⟩⟩⟩;·grind[C8]
  ·grind[C8]
  grind[C8]
 ·show wellT d=true;unfold wellT;rw[G.chk,G.valid];rfl
theorem c197(r:Ds.Ok V d)(hm:Mm.Ok V m)(Q:Ad V l 1 (args.map Ak)):
  PP 197 [d.v,m.v,.agg #[.string nm,l.v]] V (.int .i64 (AQ d m nm args)):=by
 refine x197 ?_;have P:∀{e:Int},AQ d m nm args=e->(xI (.int .i64 e)=.returned (.int .i64 (AQ d m nm args))/\V=V):=λe=>⟨by rw[e],rfl⟩;refine(c136 r).call ⟨_,rfl,λh=>?_,λh=>?_⟩;·grind[AQ,AC]
 ·have h:¬AC d nm<0:=h;rcases CP (λt:Pr=>decide (t.name=nm)) d.procs with⟨h1,-⟩|⟨i,pr,h1,h2,-⟩;·omega
  have hi:AC d nm=(i:Int):=h1;have hn:=r.procs.n_eq;have hil:=(yu.1 h2).1;obtain⟨y,A,K,-,-,hp,hz,H⟩:=r.procs.get (i:=i) (by omega);rw[h2]at K;cases K;have S:AQ d m nm args=if args.length=pr.params.length then(if Ax d m pr.params args=true then 0 else 11)else 3:=by grind[AQ]
  have G:=(r.procsOk pr A).params;have hln:=G.n_eq;have han:=Q.n_eq;rw[h1];refine⟨hp,hz,by omega,_,_,_,_,_,H,λu=>?_,λu=>?_⟩
  ·have u:(l.n:Int)=(pr.ps.n:Int):=u;have N:args.length=pr.params.length:=by omega
   rw[if_pos N]at S;refine AR (mk:=λk:Int=>.int .i64 k) (b0:=0) args.length (λj V1=>V1=V/\∀(i:Nat) f v,i<j->pr.params[i]?=some f->args[i]?=some v->AL d m f.ty v=true) ⟨rfl,λi f v h=>by omega⟩ ?_;rintro j b V1 J hj ⟨rfl,Z⟩ hJ;refine⟨λz=>?_,λI=>?_⟩
   ·obtain⟨v,hvm,hv,-,M,L,R,X⟩:=Q.get z;obtain⟨f,hfm,C,-,-,Y,D,E⟩:=G.get (i:=j) (by omega);refine⟨Y,D,by omega,Al Y,_,_,E,L,R,z,v,X,(Mw r hm).call ⟨_,rfl,λT=>⟨Q.succ z,hJ M _ _ ⟨rfl,λi g w hi' hg hw=>?_⟩⟩,λT=>P ?_⟩⟩;·grind
    ·rw[S,if_neg λk=>T ((Cw.1 k).2 j f v C hv)]
   ·have hd2:=(Q.done I).2;have U:Ax d m pr.params args=true:=Cw.2 ⟨N.symm,λi f v C hv=>Z i f v (by grind) C hv⟩;simp_all
  grind
theorem Ja(G:Ao d m):m.globals.length<=2147483648/\m.nodes.length<=4096/\∀n∈m.nodes,n.f.length<=2147483648:=by
 obtain⟨p1,g,p3,v,u⟩:=BG G.mem;have w:=I3 G.valid;refine⟨by grind[Cw],g,λn k=>?_⟩;have:=(Cw.1 (u n k)).1;have z:=of_decide_eq_true (p3 n k);obtain⟨j,r⟩:∃j:Nat,n.ty=(j:Int):=⟨n.ty.toNat,by omega⟩;have h:j<d.types.length:=by omega
 have e:=yr h;rw[r,Ef e rfl]at this;grind
def PlayX(V0:Mem)(d:Ds)(F:Nat)(m:Mm)(nm:KB)(args:List Int):Ending->Mem->Prop:=λe V'=>
 ∃p,∃r:Rx Int,r=Cc d F (AC d nm) args (AY m)/\XM V0 d p F V' r.st (outV r) (DI r)/\e=.returned (pv p)
theorem c193(H:Ds.Ok V d)(hm:Mm.Ok V m)(G:Ao d m)(Q:Ad V l 1 (args.map Ak))(P:AQ d m nm args=0)(A:F<=4000):
  Tri xG 193 #[d.v,m.v,.agg #[.string nm,l.v],.int .i64 F] V (PlayX V d F m nm args):=by
 refine x193 (R:=PlayX V d F m nm args) ?_;obtain⟨i,pr,hi,w,g⟩:=La P;obtain⟨I,M,X⟩:=Ja G;refine Tri.mono (Nb hm I M X) ?_;rintro _ V1 ⟨gs,ns,nd,rfl,L⟩;refine⟨gs,ns,rfl,(c136 (H.sub L.sub)).call ⟨_,rfl,?_⟩⟩;rw[show Ci (λt:Pr=>decide (t.name=nm)) d.procs=(i:Int)from hi];intro p J;have p0:V p=none:=free L.sub J;have C:=Mem.sub_new J (.cells (AE d F 0 0 0 0 0 gs ns Ai).toArray 302 (0,0));have D:XM V d p F (V1.set p (.cells (AE d F 0 0 0 0 0 gs ns Ai).toArray 302 (0,0))) (AY m) ((0:Nat):Int) 0:=⟨p0,gs,ns,Ai,nd,by rw[Mem.set_same];rfl,L.grow C⟩;have E:=callY (allY d p F (F+1)) V (V1.set p (.cells (AE d F 0 0 0 0 0 gs ns Ai).toArray 302 (0,0))) (AY m) 0 i pr args l ⟨H,G.valid,KT G.valid G.chk,A⟩ w (K9 G) (BV (JR (Ic m).symm) g) Q D (by show 0<=F;omega) (by omega) (by unfold BW;simp[AY]);refine XR.any E λv u h V2 N K=>?_;obtain⟨z,r,JQ,I2,k,S⟩:=N.ex;refine⟨AV,AV,An.at2 (off:=12) k (by simp[AE]) ?_⟩;have Z:XM V d p F (V2.set p (.cells (AE d F h.tk v u h.cm (Bh h.lg) z r JQ).toArray 302 (0,0))) h v u:=MA.set (row':=AE d F h.tk v u h.cm (Bh h.lg)) Fg N.p0 k S rfl rfl rfl rfl;have Y:Cc d F (AC d nm) args (AY m)=CJ d (A4 d F (F+1)) 0 i args (AY m):=by rw[hi];rfl
 rcases K with⟨rfl,e⟩|⟨T,rfl,e⟩;·exact⟨p,.ok v h,by rw[Y,e],Z,rfl⟩
 ·exact⟨p,.bad u h,by rw[Y,e],Z,rfl⟩
theorem c194{p:Nat}{s:St}{c k:Int}(M:XM V0 d p F V s c k):PP 194 [pv p] V (.agg (Bo k c s.cm (Bh s.lg)).toArray):=by
 obtain⟨gs,ns,ls,nd,h,L⟩:=M.ex;refine x194 ?_;exact⟨nn,nn,_,Am h 13 1 (by simp[AE]),nn,nn,_,Am h 12 1 (by simp[AE]),nn,nn,_,_,_,Am h 14 3 (by simp[AE]),rfl,rfl⟩
end
structure Q9 where
 name:KB
 sl:Sl
 args:List Int
end Go.Proofs
namespace Go.Proofs
open Go Go.Sx
abbrev Bj:=List (Int×Int)
end Go.Proofs
namespace Go.Proofs
open Go Go.Sx
end Go.Proofs
namespace Go.Proofs
open Go Go.Sx
structure Sr where
 order:List Int
 again:Int
def Ez(x:Fld×Int):Bool:=!AF x.1.ty&&decide (x.2≠0)
def tgtI(l:List Fld)(vs:List Int)(i:Nat):List Int:=(((l.zip vs).take i).filter Ez).map (·.2)
def DV(l:List Fld)(vs:List Int):List Int:=((l.zip vs).filter Ez).map (·.2)
def nodeTgt(d:Ds)(m:Mm)(n:Int):List Int:=match m.nodes[(n-1).toNat]? with|some x=>DV (Bi d x.ty) x.f|none=>[]
def Bp(d:Ds)(m:Mm):Nat->Sr->Int->Sr
 |0,st,_=>st
 |f+1,st,n=>if n∈st.order then⟨st.order,if st.again=0 then n else st.again⟩else(nodeTgt d m n).foldl (Bp d m f) ⟨st.order++[n],st.again⟩
def lookP(d:Ds)(m:Mm)(f:Nat)(st:Sr)(l:List Fld)(vs:List Int):Sr:=(DV l vs).foldl (Bp d m f) st
def Bn(d:Ds)(m:Mm):Sr:=lookP d m (m.nodes.length+1) ⟨[],0⟩ d.globals m.globals
theorem tgtI_zero(l:List Fld)(vs:List Int):tgtI l vs 0=[]:=rfl
theorem Lk{l:List Fld}{vs:List Int}{i:Nat}{f:Fld}{v:Int}(k:l[i]?=some f)(hv:vs[i]?=some v):tgtI l vs (i+1)=tgtI l vs i++if Ez (f,v)=true then[v]else[]:=by
 have g:(l.zip vs)[i]?=some (f,v):=by rw[vV];exact⟨k,hv⟩
 unfold tgtI;rw[w8,g,List.filter_append,List.map_append];by_cases h:Ez (f,v)=true;·simp[h]
 ·simp[h]
theorem tgtI_all{l:List Fld}{vs:List Int}{i:Nat}(h:l.length<=i):tgtI l vs i=DV l vs:=by
 unfold tgtI DV;rw[wZ];rw[vW];omega
def CC(m:Mm)(st:Sr):Nat:=((List.range m.nodes.length).filter λ(i:Nat)=>!decide (((i:Int)+1)∈st.order)).length
theorem entP_sub(d:Ds)(m:Mm):∀(f:Nat)(st:Sr)(n:Int),∀x∈st.order,x∈(Bp d m f st n).order
 |0,st,n,x,h=>h
 |f+1,st,n,x,h=>by
  unfold Bp;split;·exact h
  ·have:∀(l:List Int)(s:Sr),x∈s.order->x∈(l.foldl (Bp d m f) s).order:=λl=>by
    induction l with
    |nil=>exact λs h=>h
    |cons a l k=>exact λs h=>k _ (entP_sub d m f s a x h)
   exact this _ _ (vX _ h)
theorem foldP_sub(d:Ds)(m:Mm)(f:Nat)(x:Int):∀(l:List Int)(s:Sr),x∈s.order->x∈(l.foldl (Bp d m f) s).order:=λl=>by
 induction l with
 |nil=>exact λs h=>h
 |cons a l k=>exact λs h=>k _ (entP_sub d m f s a x h)
theorem Nc{α:Type}{p q:α->Bool}:∀{l:List α},(∀a∈l,q a=true->p a=true)->(l.filter q).length<=(l.filter p).length
 |[],_=>Nat.le_refl _
 |a::l,h=>by
  have k:=Nc (l:=l) λx g=>h x (z6 _ g);have u:=h a za;rw[yA,yA];cases w:q a with
  |true=>rw[u w];simpa using k
  |false=>
   cases z:p a with
   |true=>simp;omega
   |false=>simpa using k
theorem filter_lt{α:Type}{p q:α->Bool}:∀{l:List α},(∀a∈l,q a=true->p a=true)->∀a∈l,p a=true->q a=false->(l.filter q).length<(l.filter p).length
 |[],_,a,k,_,_=>by cases k
 |b::l,h,a,k,u,w=>by
  have z:∀x∈l,q x=true->p x=true:=λx e=>h x (z6 _ e);rw[yA,yA];rcases List.mem_cons.1 k with rfl|hm
  ·rw[u,w];have:=Nc z;simp;omega
  ·have r:=filter_lt z a hm u w;have v:=h b za;cases g:q b with
   |true=>rw[v g];simpa using r
   |false=>
    cases H:p b with
    |true=>simp;omega
    |false=>simpa using r
section
variable{d:Ds}{m:Mm}{st:Sr}
theorem unS_le{a b:Sr}(h:∀x∈a.order,x∈b.order):CC m b<=CC m a:=by
 unfold CC;refine Nc λi _ hi=>?_;simp only[zU,decide_eq_false_iff_not]at hi⊢;exact λk=>hi (h _ k)
theorem unS_lt{n:Int}(u:1<=n/\n<=(m.nodes.length:Int))(h:¬n∈st.order){a:Int}:CC m ⟨st.order++[n],a⟩<CC m st:=by
 unfold CC;obtain⟨i,rfl⟩:∃i:Nat,n=(i:Int)+1:=⟨(n-1).toNat,by omega⟩;refine filter_lt (λj _ g=>?_) i (List.mem_range.2 (by omega)) (by simpa using h) (by simp);simp only[zU,decide_eq_false_iff_not]at g⊢;exact λk=>g (vX _ k)
theorem Hb{xs:List Fld}{vs:List Int}(h:Ax d m xs vs=true){i:Nat}{f:Fld}{v:Int}(z:xs[i]?=some f)(u:vs[i]?=some v)(g:AF f.ty=false)(r:v≠0):1<=v/\v<=(m.nodes.length:Int):=by
 obtain⟨e,k,w⟩:=KK h z;rw[u]at k;cases k;unfold AF at g;simp only[Bool.or_eq_false_iff,decide_eq_false_iff_not]at g;unfold AL at w;rw[if_neg g.1,if_neg g.2,decide_eq_true_eq]at w;rcases w with h|⟨h1,h2,-⟩;·exact absurd h r
 ·exact⟨h1,h2⟩
end
section
variable{d:Ds}{m c:Mm}{O:List Int}
structure Cl (d:Ds)(m:Mm)(a b:Sr):Prop where
 sub:∀x∈a.order,x∈b.order
 shut:∀x∈b.order,x∈a.order∨∀y∈nodeTgt d m x,y∈b.order
 dup:a.order.Nodup->b.order.Nodup
 rng:(∀x∈a.order,1<=x/\x<=(m.nodes.length:Int))->∀x∈b.order,1<=x/\x<=(m.nodes.length:Int)
 cap:a.order.length+CC m a<=m.nodes.length->b.order.length+CC m b<=m.nodes.length
theorem Cl.trans{a b e:Sr}(h:Cl d m a b)(k:Cl d m b e):Cl d m a e:=⟨λx g=>k.sub x (h.sub x g),λx g=>by
 rcases k.shut x g with g|g
 ·rcases h.shut x g with g|g;·exact .inl g
  ·exact .inr λy u=>k.sub y (g y u)
 ·exact .inr g,λn=>k.dup (h.dup n),λr=>k.rng (h.rng r),λr=>k.cap (h.cap r)⟩
theorem Jb{l:List Fld}{vs:List Int}{y:Int}:y∈DV l vs↔∃(i:Nat)(f:Fld),l[i]?=some f/\vs[i]?=some y/\AF f.ty=false/\y≠0:=by
 unfold DV Ez;simp only[List.mem_map,List.mem_filter,zC,zU,decide_eq_true_eq,Prod.exists,exists_eq_right];constructor
 ·rintro⟨f,h,h1,h2⟩;obtain⟨i,hi⟩:=xj.1 h;rw[vV]at hi;exact⟨i,f,hi.1,hi.2,h1,h2⟩
 ·rintro⟨i,f,h,h1,h2,h3⟩;exact⟨f,xj.2 ⟨i,vV.2 ⟨h,h1⟩⟩,h2,h3⟩
theorem tgt_in(hv:BF d m=true):(∀y∈DV d.globals m.globals,1<=y/\y<=(m.nodes.length:Int))/\∀n,∀y∈nodeTgt d m n,1<=y/\y<=(m.nodes.length:Int):=by
 obtain⟨-,-,-,k,g⟩:=BG hv;refine⟨λy h=>?_,λn y h=>?_⟩
 ·obtain⟨i,f,h1,h2,h3,h4⟩:=Jb.1 h;exact Hb k h1 h2 h3 h4
 ·unfold nodeTgt at h;split at h
  ·rename_i x u;obtain⟨i,f,h1,h2,h3,h4⟩:=Jb.1 h;exact Hb (g x (xr u)) h1 h2 h3 h4
  ·cases h
theorem Ll{f:Nat}(H:∀st n,1<=n/\n<=(m.nodes.length:Int)->CC m st<f->Cl d m st (Bp d m f st n)/\n∈(Bp d m f st n).order):
  ∀(l:List Int)(s:Sr),(∀y∈l,1<=y/\y<=(m.nodes.length:Int))->CC m s<f->Cl d m s (l.foldl (Bp d m f) s)/\∀y∈l,y∈(l.foldl (Bp d m f) s).order
 |[],s,_,_=>⟨⟨λ_ h=>h,λ_ h=>.inl h,λh=>h,λh=>h,λh=>h⟩,λ_ h=>by cases h⟩
 |a::l,s,g,z=>by
  obtain⟨u,r⟩:=H s a (g a za) z;obtain⟨w,e⟩:=Ll H l (Bp d m f s a) (λy k=>g y (z6 _ k)) (by have:=unS_le (m:=m) u.sub;omega);refine⟨u.trans w,λy k=>?_⟩;rcases List.mem_cons.1 k with rfl|k;·exact w.sub _ r
  ·exact e y k
theorem ent_cl(hv:BF d m=true):∀(f:Nat)(st:Sr)(n:Int),1<=n/\n<=(m.nodes.length:Int)->CC m st<f->Cl d m st (Bp d m f st n)/\n∈(Bp d m f st n).order
 |0,_,_,_,h=>absurd h (Nat.not_lt_zero _)
 |f+1,st,n,w,G=>by
  rw[Bp];split;·rename_i h;exact⟨⟨λ_ h=>h,λ_ h=>.inl h,λh=>h,λh=>h,λh=>h⟩,h⟩
  ·rename_i u;have z:=unS_lt w u (a:=st.again);obtain⟨g,r⟩:=Ll (ent_cl hv f) (nodeTgt d m n) ⟨st.order++[n],st.again⟩ (λy v=>(tgt_in hv).2 n y v) (by omega);have hm:n∈(⟨st.order++[n],st.again⟩:Sr).order:=by simp
   refine⟨⟨λx k=>g.sub x (vX _ k),λx k=>?_,λh=>g.dup ?_,λh=>g.rng λx k=>?_,λh=>g.cap ?_⟩,g.sub n hm⟩
   ·rcases g.shut x k with h|h
    ·rcases xe.1 h with h|h;·exact .inl h
     ·rw[zO.1 h];exact .inr r
    ·exact .inr h
   ·show(st.order++[n]).Nodup;rw[List.nodup_append];refine⟨h,by simp,λa H b J e=>u ?_⟩;rw[<-zO.1 J,<-e];exact H
   ·rcases xe.1 k with k|k;·exact h x k
    ·rw[zO.1 k];exact w
   ·show(st.order++[n]).length+_<=_;rw[zw,xf];omega
structure Rch (d:Ds)(m:Mm)(O:List Int):Prop where
 dup:O.Nodup
 rng:∀x∈O,1<=x/\x<=(m.nodes.length:Int)
 glob:∀y∈DV d.globals m.globals,y∈O
 shut:∀x∈O,∀y∈nodeTgt d m x,y∈O
 cap:O.length<=m.nodes.length
theorem Nf:CC m ⟨[],0⟩<=m.nodes.length:=by
 unfold CC;have:=List.length_filter_le (λi:Nat=>!decide (((i:Int)+1)∈(⟨[],0⟩:Sr).order)) (List.range m.nodes.length);rw[List.length_range]at this;exact this
theorem Jc(hv:BF d m=true):Rch d m (Bn d m).order:=by
 have hu:=Nf (m:=m);obtain⟨k,u⟩:=Ll (ent_cl hv (m.nodes.length+1)) (DV d.globals m.globals) ⟨[],0⟩ (tgt_in hv).1 (by omega);refine⟨k.dup List.nodup_nil,k.rng (λx g=>by cases g),u,λx g=>?_,?_⟩
 ·rcases k.shut x g with h|h;·cases h
  ·exact h
 ·have:=k.cap (by show 0+_<=_;omega);exact Nat.le_trans (Nat.le_add_right _ _) this
def CQ(l:List Int)(x:Int):Int:=Ci (λy=>decide (y=x)) l
def Da(O:List Int)(x:Int):Int:=if x=0 then 0 else CQ O x+1
def Cm(O:List Int)(l:List Fld)(vs:List Int):List Int:=(l.zip vs).map λx=>if AF x.1.ty=true then x.2 else Da O x.2
structure Hc (d:Ds)(m c:Mm)(O:List Int):Prop where
 globals:c.globals=Cm O d.globals m.globals
 len:c.nodes.length=O.length
 at_:∀(i:Nat) n x,O[i]?=some n->m.nodes[(n-1).toNat]?=some x->∃s,c.nodes[i]?=some ⟨x.ty,s,Cm O (Bi d x.ty) x.f⟩
theorem pos_at(h:O.Nodup){i:Nat}{x:Int}(k:O[i]?=some x):CQ O x=i:=by
 unfold CQ;rcases CP (λy=>decide (y=x)) O with⟨-,-,h1⟩|⟨j,y,h1,h2,-,h3,h4,-⟩
 ·rw[vY]at h1;exact absurd (decide_eq_true rfl) (h1 x (xr k))
 ·have e:y=x:=of_decide_eq_true h4;subst e;rw[h1,(List.getElem?_inj h3 h).1 (h2.trans k.symm)]
theorem pos_mem(h:O.Nodup){x:Int}(k:x∈O):∃i:Nat,O[i]?=some x/\CQ O x=i/\i<O.length:=by
 obtain⟨i,hi⟩:=xj.1 k;exact⟨i,hi,pos_at h hi,(yu.1 hi).1⟩
theorem rho_mem(R:Rch d m O){x:Int}(h:x∈O):∃i:Nat,O[i]?=some x/\Da O x=(i:Int)+1/\i<O.length:=by
 obtain⟨i,h1,h2,h3⟩:=pos_mem R.dup h;have:=R.rng x h;exact⟨i,h1,by unfold Da;rw[if_neg (by omega),h2],h3⟩
theorem Ng:Da O 0=0:=by unfold Da;rw[if_pos rfl]
theorem ren_at{l:List Fld}{vs:List Int}{i:Nat}{f:Fld}{v:Int}(h:l[i]?=some f)(hv:vs[i]?=some v):(Cm O l vs)[i]?=some (if AF f.ty=true then v else Da O v):=by
 have k:(l.zip vs)[i]?=some (f,v):=vV.2 ⟨h,hv⟩;unfold Cm;rw[y6,k];rfl
end
end Go.Proofs
namespace Go.Proofs
open Go Go.Sx
section
variable{d:Ds}{B:Bj}{s t:St}
def canP(d:Ds)(m:Mm):List Int×List (Int×List Int):=
 (Cm (Bn d m).order d.globals m.globals,(Bn d m).order.map λn=>match m.nodes[(n-1).toNat]? with|some x=>(x.ty,Cm (Bn d m).order (Bi d x.ty) x.f)|none=>(0,[]))
end
end Go.Proofs
namespace Go.Proofs
open Go Go.Sx
attribute [local irreducible] Go.Sx.Tri
section
variable{V0 V V1:Mem}{d:Ds}{m:Mm}{p ib:Nat}{st:Sr}{o:Sl}
def srow(d:Ds)(m:Mm)(o:Sl)(ib:Nat)(a:Int):List Value:=[Go.Sx.vS d.name,d.ts.v,d.gs.v,d.ps.v,d.ms.v,d.is.v,d.qs.v,d.bs.v,m.gs.v,m.ns.v,o.v,.map (some ib),.int .i64 a]
def kn(O:List Int)(n:Int):Option Int:=if n∈O then some (CQ O n+1)else none
theorem pos_app{O:List Int}{n x:Int}(k:x∈O):CQ (O++[n]) x=CQ O x:=by
 unfold CQ Ci;rw[vZ];cases h:O.findIdx? (λy=>decide (y=x))with
 |none=>exact absurd (decide_eq_true rfl) (by rw[vz.1 h x k];decide)
 |some i=>rfl
theorem pos_new{O:List Int}{n:Int}(k:¬n∈O):CQ (O++[n]) n=(O.length:Int):=by
 unfold CQ Ci;have h:O.findIdx? (λy=>decide (y=n))=none:=vz.2 λx g=>decide_eq_false (by rintro rfl;exact k g);rw[vZ,h];simp[List.findIdx?_cons]
theorem kn_new{O:List Int}{n:Int}(k:¬n∈O)(x:Int):kn (O++[n]) x=if x=n then some ((O.length:Int)+1)else kn O x:=by
 unfold kn;by_cases h:x=n
 ·subst h;rw[if_pos (by simp),if_pos rfl,pos_new k]
 ·rw[if_neg h];by_cases hm:x∈O;·rw[if_pos (by simp[hm]),if_pos hm,pos_app hm]
  ·rw[if_neg (by simp[hm,h]),if_neg hm]
structure SrAt (V0:Mem)(d:Ds)(m:Mm)(p ib:Nat)(V:Mem)(st:Sr)(o:Sl):Prop where
 at_:V p=some (.cells (srow d m o ib st.again).toArray 230 (0,0))
 own:Sx.Own V0 V 3 1 o (st.order.flatMap Ak)
 map:CY (xa .i64) V ib λn=>(kn st.order n).map (xa .i64)
 cap:st.order.length+CC m st<=m.nodes.length
 rng:∀x∈st.order,1<=x/\x<=(m.nodes.length:Int)
structure Nh (V0:Mem)(d:Ds)(m:Mm)(p ib:Nat):Prop where
 mem:BF d m=true
 ds:Ds.Ok V0 d
 mm:Mm.Ok V0 m
 p0:V0 p=none
 i0:V0 ib=none
 pi:p≠ib
theorem SrAt.cell(h:SrAt V0 d m p ib V st o)(i n:Nat)(hi:i+n<=13):V.rowp (sa p) i n=some (((srow d m o ib st.again).drop i).take n):=Am h.at_ i n hi
theorem kn_pos{O:List Int}{n:Int}(h:n∈O):∃j,kn O n=some j/\1<=j:=by
 unfold kn;rw[if_pos h];refine⟨_,rfl,?_⟩;unfold CQ;rcases CP (λy=>decide (y=n)) O with⟨-,-,h1⟩|⟨j,z,h1,-⟩
 ·rw[vY]at h1;exact absurd (decide_eq_true rfl) (h1 n h)
 ·rw[h1];omega
def SrPost(V0:Mem)(d:Ds)(m:Mm)(p ib:Nat)(st:Sr):Ending->Mem->Prop:=λe V'=>e=.returned (.tuple #[])/\∃o,SrAt V0 d m p ib V' st o
variable(V0 d m p ib)in
def EntC(N:Nat):Prop:=∀(st:Sr)(n:Int)(f:Nat) V o,SrAt V0 d m p ib V st o->1<=n/\n<=(m.nodes.length:Int)->CC m st<=N->CC m st<f->
 Tri xG 235 #[pv p,.int .i64 n] V (SrPost V0 d m p ib (Bp d m f st n))
theorem lookC{N:Nat}(D:EntC V0 d m p ib N){l s:Sl}{xs:List Fld}{vs:List Int}(E:Ad V0 l 2 (xs.map Fld.row))(K:Ad V0 s 1 (vs.map Ak))(hv:Ax d m xs vs=true){f:Nat}(h:SrAt V0 d m p ib V st o)(hN:CC m st<=N)(hf:CC m st<f):
  Tri xG 190 #[pv p,l.v,s.v] V (SrPost V0 d m p ib ((DV xs vs).foldl (Bp d m f) st)):=by
 refine Tri.mono (x190 (R:=SrPost V0 d m p ib ((DV xs vs).foldl (Bp d m f) st)) ?_) λ_ _ h=>h;have C:xs.length=vs.length:=(Cw.1 hv).1;refine EW xs.length (λi V1=>∃r,SrAt V0 d m p ib V1 ((tgtI xs vs i).foldl (Bp d m f) st) r) ⟨o,by rw[tgtI_zero];exact h⟩ ?_;rintro i V1 J hi ⟨r,h1⟩ Q;have k:=E.sub h1.own.sub;have e:=K.sub h1.own.sub;refine⟨λg=>?_,λP=>?_⟩
 ·obtain⟨x,S,A,-,w,T,I,H⟩:=k.get g;have n1:=k.n_eq;have n2:=e.n_eq;obtain⟨y,U,M,-,hjl,G,Z,u⟩:=e.get (i:=i) (by omega);have hu:CC m ((tgtI xs vs i).foldl (Bp d m f) st)<=CC m st:=unS_le λz I=>foldP_sub d m f z _ _ I;have same:Ez (x,y)=false->∃L,SrAt V0 d m p ib V1 ((tgtI xs vs (i+1)).foldl (Bp d m f) st) L:=λX=>by
   rw[Lk A M,X,if_neg (by decide),wD];exact⟨r,h1⟩
  refine⟨T,I,g,_,_,H,c124.call ⟨_,rfl,λh2=>⟨k.succ g,Q w _ (same ?_)⟩,λh2=>⟨G,Z,by omega,_,u,λh3=>⟨k.succ g,Q w _ (same ?_)⟩,λh3=>⟨G,Z,by omega,_,u,?_⟩⟩⟩⟩;·unfold Ez;rw[show AF x.ty=true from h2];rfl
  ·have h3:y=0:=h3;unfold Ez;rw[h3];simp
  ·have Y:AF x.ty=false:=(vy _).mp h2;have h3:¬y=0:=h3;have X:Ez (x,y)=true:=by unfold Ez;rw[Y,decide_eq_true h3];rfl
   refine Tri.mono (D _ y f V1 r h1 (Hb hv A M Y h3) (by omega) (by omega)) ?_;rintro _ V2 ⟨rfl,L,h4⟩;refine⟨rfl,k.succ g,Q w _ ⟨L,?_⟩⟩;rw[Lk A M,X,if_pos rfl,List.foldl_append,List.foldl_cons,List.foldl_nil];exact h4
 ·have hd:=(k.done P).2;rw[tgtI_all hd]at h1;exact⟨rfl,r,h1⟩
theorem enterC(S:Nh V0 d m p ib)(N:Nat)(ih:∀N',N'<N->EntC V0 d m p ib N'):EntC V0 d m p ib N:=by
 intro st n f V o h hn hN hf;obtain⟨f,rfl⟩:∃f',f=f'+1:=⟨f-1,by omega⟩;refine Tri.mono (x235 (R:=SrPost V0 d m p ib (Bp d m (f+1) st n)) ?_) λ_ _ h=>h;have hg:=h.map;refine⟨nn,nn,_,h.cell 11 1 (by decide),BJ.key1 (k:=n) (IX wo) vx Ie hg ?_⟩;by_cases z:n∈st.order
 ·obtain⟨j,hj,hj1⟩:=kn_pos z;rw[hj];have e:Bp d m (f+1) st n=⟨st.order,if st.again=0 then n else st.again⟩:=by unfold Bp;rw[if_pos z]
  rw[e];refine⟨j,rfl,λr=>?_,λ_=>⟨nn,nn,_,h.cell 12 1 (by decide),λr=>⟨nn,nn,?_⟩,λr=>?_⟩⟩
  ·have r:j=0:=r;omega
  ·have r:st.again=0:=r;rw[if_pos r];refine An.at2 (off:=12) h.at_ (by simp[srow]) ⟨rfl,o,?_,h.own.put (h.own.apart λg w=>?_) S.p0 _,hg.set S.pi.symm,h.cap,h.rng⟩;·rw[Mem.set_same];rfl
   ·rw[h.at_]at w;cases w
  ·have r:¬st.again=0:=r;rw[if_neg r];exact⟨rfl,o,h⟩
 ·have hno:kn st.order n=none:=by unfold kn;rw[if_neg z]
  rw[hno];have hcap:=h.cap;have hlt:=unS_lt (st:=st) hn z (a:=st.again);refine⟨0,rfl,λ_=>⟨nn,nn,o,h.cell 10 1 (by decide),λtb htb=>?_⟩,λr=>absurd rfl r⟩;have pne:∀g,V p≠some (.cells g 3 (0,0)):=λg w=>by rw[h.at_]at w;cases w
  have ine:∀g,V ib≠some (.cells g 3 (0,0)):=λg w=>by
   obtain⟨e1,E,K,-⟩:=hg.at_;rw[K]at w;cases w
  have m4:=(BG S.mem).2.1;have Q:=(h.own.but).new htb (.cells #[.int .i64 n] 3 (0,0));refine Fy (s:=o) (u:=⟨some ⟨tb,0,none⟩,1,1⟩) (xs:=st.order) (ys:=[n]) rfl rfl Q (I0 Az) (by simp;omega) λH V2 T=>⟨H,rfl,nn,nn,?_⟩;have Z:=T.sub;have U:V2 p=some (.cells (srow d m o ib st.again).toArray 230 (0,0)):=Z _ _ (Mem.but_at h.at_ (h.own.apart pne));have hg2:CY (xa .i64) V2 ib λn=>(kn st.order n).map (xa .i64):=by
   obtain⟨e1,E,K,k2⟩:=hg.at_;exact⟨e1,E,Z _ _ (Mem.but_at K (h.own.apart ine)),k2⟩
  have ho3:Sx.Own V0 V2 3 1 H ((st.order++[n]).flatMap Ak):=T.narrow h.own.sub_but;refine An.at2 (off:=10) U (by simp[srow]) ?_;obtain⟨P,J⟩:∃P,P=V2.set p (.cells (srow d m H ib st.again).toArray 230 (0,0)):=⟨_,rfl⟩;have A:V2.set p (.cells ((srow d m o ib st.again).toArray.toList.take 10++[uL H]++(srow d m o ib st.again).toArray.toList.drop (10+[uL H].length)).toArray 230 (0,0))=P:=J.symm;have I:P p=some (.cells (srow d m H ib st.again).toArray 230 (0,0)):=by rw[J,Mem.set_same]
  have hg3:CY (xa .i64) P ib λn=>(kn st.order n).map (xa .i64):=by rw[J];exact hg2.set S.pi.symm
  have pne2:∀g,V2 p≠some (.cells g 3 (0,0)):=λg w=>by rw[U]at w;cases w
  have M:Sx.Own V0 P 3 1 H ((st.order++[n]).flatMap Ak):=by rw[J];exact ho3.put (ho3.apart pne2) S.p0 _
  show ¬_/\_;rw[A];refine⟨nn,nn,_,Am I 11 1 (by simp[srow]),nn,nn,H,Am I 10 1 (by simp[srow]),C2.key (k:=n) (IX wo) vx hg3 λob hob=>?_⟩;have hn2:=M.n_eq (λ_=>rfl) (by decide);rw[zw,xf]at hn2;have h5:SrAt V0 d m p ib (P.set ib ob) ⟨st.order++[n],st.again⟩ H:=by
   refine⟨by rw[Mem.set_ne S.pi];exact I,M.put (M.apart λg w=>?_) S.i0 _,hob.congr λx=>?_,?_,λx G=>?_⟩
   ·obtain⟨e1,E,K,-⟩:=hg3.at_;rw[K]at w;cases w
   ·rw[kn_new z,show((st.order.length:Int)+1)=(H.n:Int)by omega];by_cases G:x=n<;>simp[G]
   ·show(st.order++[n]).length+_<=_;rw[zw,xf];omega
   ·rcases xe.1 G with G|G;·exact h.rng x G
    ·rw[zO.1 G];exact hn
  obtain⟨q,rfl⟩:∃q:Nat,n=(q:Int)+1:=⟨(n-1).toNat,by omega⟩;have L:=S.mm.sub h5.own.sub;have hdd:=S.ds.sub h5.own.sub;have hnn:=L.nodes.n_eq;obtain⟨x,X,G,-,hl2,hpx,hzx,C⟩:=L.nodes.get (i:=q) (by omega);have hty:=(BG S.mem).2.2.1 x X;obtain⟨E,c2⟩:=of_decide_eq_true hty;obtain⟨j,hj⟩:∃j:Nat,x.ty=(j:Int):=⟨_,(vw E).symm⟩;have htn:=hdd.types.n_eq;obtain⟨t,htm,ht,-,hl3,Y,hzt,D⟩:=hdd.types.get (i:=j) (by omega);have hI:IR ((q:Int)):=⟨by omega,by have:=(L.nodes.succ (i:=q) (by omega)).2;omega⟩;rw[show((q:Int)+1-1)=(q:Int)by omega];refine⟨nn,nn,AV,m.ns,h5.cell 9 1 (by decide),hI,hpx,hzx,by omega,_,_,C,nn,nn,AV,d.ts,h5.cell 1 1 (by decide),?_⟩;rw[hj];have hfo:=Ef ht hj;have v:=(BG S.mem).2.2.2.2 x X;rw[hfo]at v;refine⟨Y,hzt,by omega,Al Y,_,_,D,Tri.mono (lookC (ih (CC m ⟨st.order++[(q:Int)+1],st.again⟩) (by omega)) (S.ds.typesOk t htm).fields (S.mm.nodesOk x X).rows v (f:=f) h5 (Nat.le_refl _) (by omega)) ?_⟩;rintro _ V5 ⟨rfl,o5,h6⟩;refine⟨rfl,rfl,o5,?_⟩;have e:Bp d m (f+1) st ((q:Int)+1)=(DV t.fields x.f).foldl (Bp d m f) ⟨st.order++[(q:Int)+1],st.again⟩:=by
   rw[Bp,if_neg z];unfold nodeTgt;rw[show((q:Int)+1-1).toNat=q by omega,G];show(DV (Bi d x.ty) x.f).foldl _ _=_;rw[hfo]
  rw[e];exact h6
theorem entAll(S:Nh V0 d m p ib):∀N,EntC V0 d m p ib N:=λN=>Nat.strongRecOn N λN h=>enterC S N h
end
section
variable{V:Mem}{d:Ds}{m:Mm}
theorem c129(k:BF d m=true)(z:Ds.Ok V d)(hm:Mm.Ok V m):Tri xG 129 #[d.v,m.v] V λe V'=>∃p ib o,e=.returned (pv p)/\SrAt V d m p ib V' (Bn d m) o:=by
 refine x129 ?_;refine GenK.makeMap λib g=>⟨some ib,rfl,λp u=>?_⟩;have r:p≠ib:=λe=>by rw[e,Mem.set_same]at u;cases u
 have w:V p=none:=by rw[Mem.set_ne r]at u;exact u
 have J:=Mem.sub_new g (.map #[] 0);have H:=Mem.sub_new u (.cells (srow d m ⟨none,0,0⟩ ib 0).toArray 230 (0,0));have S:Nh V d m p ib:=⟨k,z,hm,w,g,r⟩;have hu:CC m ⟨[],0⟩<=m.nodes.length:=Nf;have G:SrAt V d m p ib ((V.set ib (.map #[] 0)).set p (.cells (srow d m ⟨none,0,0⟩ ib 0).toArray 230 (0,0))) ⟨[],0⟩ ⟨none,0,0⟩:=
  ⟨Mem.set_same _ _ _,Own.nil (J.trans H) _ _,(((CY.made V ib).sub H)).congr λ_=>rfl,by show 0+CC m ⟨[],0⟩<=_;omega,λx h=>by simp at h⟩
 refine Tri.mono (lookC (entAll S m.nodes.length) z.globals hm.globals (BG k).2.2.2.1 (f:=m.nodes.length+1) G hu (by omega)) ?_;rintro _ V2 ⟨rfl,o,h⟩;exact⟨rfl,p,ib,o,rfl,h⟩
theorem kn_rho{O:List Int}(h:∀x∈O,1<=x)(x:Int):(kn O x).getD 0=Da O x:=by
 unfold kn Da;by_cases k:x∈O
 ·have:=h x k;rw[if_pos k,if_neg (by omega)];rfl
 ·rw[if_neg k];by_cases g:x=0;·rw[if_pos g];rfl
  ·rw[if_neg g];unfold CQ;rcases CP (λy=>decide (y=x)) O with⟨e,-⟩|⟨j,z,-,h2,-,-,h4,-⟩;·rw[e];rfl
   ·have:=of_decide_eq_true h4;subst this;exact absurd (xr h2) k
theorem renL_len{O:List Int}{xs:List Fld}{vs:List Int}(h:xs.length=vs.length):(Cm O xs vs).length=xs.length:=by
 unfold Cm;rw[xi,vW];omega
theorem OS{U:Mem}{p ib:Nat}{o l q:Sl}{xs:List Fld}{vs:List Int}(L:SrAt U d m p ib V (Bn d m) o)(hl:Ad V l 2 (xs.map Fld.row))(hq:Ad V q 1 (vs.map Ak))(he:xs.length=vs.length)(hb:xs.length<=4096):
  Tri xG 191 #[pv p,l.v,q.v] V λe V'=>∃s:Sl,e=.returned (.slice s.p s.n s.c)/\Sx.Own V V' 3 1 s ((Cm (Bn d m).order xs vs).flatMap Ak):=by
 refine x191 ?_;refine Tri.mono (Gl hq (by omega)) ?_;rintro _ V1 ⟨s,rfl,o1⟩;have X:=renL_len (O:=(Bn d m).order) he;obtain⟨R,C⟩:∃R,R=Cm (Bn d m).order xs vs:=⟨_,rfl⟩;rw[<-C]at X;refine⟨s,rfl,EW xs.length (λi V2=>Sx.Own V V2 3 1 s ((R.take i++vs.drop i).flatMap Ak)) (by rw[List.take_zero,List.drop_zero];exact o1) ?_⟩;rintro i V2 J hi u hJ;have z:=hl.sub u.sub;have Y:=hq.sub u.sub;have hn:=u.n_eq (λ_=>rfl) (by decide);rw[zw,vU,vu]at hn;refine⟨λr=>?_,λD=>?_⟩
 ·obtain⟨x,hxm,E,-,Q,hp,hz,P⟩:=z.get r;have n2:=Y.n_eq;obtain⟨y,hym,hy,A,hjl,K,S,N⟩:=Y.get (i:=i) (by omega);have h:=ren_at (O:=(Bn d m).order) E hy;rw[<-C]at h;have G:∀w:Int,R[i]?=some w->(R.take i++vs.drop i).set i w=R.take (i+1)++vs.drop (i+1):=λw hw=>by
   have Z:(R.take i).length=i:=by rw[vU];omega
   rw[vR _ _ (by omega),Z,vT,A,List.set_cons_zero,w8,hw];simp
  refine⟨hp,hz,r,_,_,P,c124.call ⟨_,rfl,λh2=>⟨z.succ r,hJ Q _ ?_⟩,λh2=>?_⟩⟩
  ·rw[if_pos (show AF x.ty=true from h2)]at h;rw[<-G y h];have I:(R.take i++vs.drop i)[i]?=some y:=by
    have Z:(R.take i).length=i:=by rw[vU];omega
    rw[List.getElem?_append_right (by omega),Z,vT,A];rfl
   have:(R.take i++vs.drop i).set i y=R.take i++vs.drop i:=by
    refine zx λk=>?_;rw[List.getElem?_set];split
    ·rename_i e;subst e;rw[I,if_pos (yu.1 I).1]
    ·rfl
   rw[this];exact u
  ·have T:AF x.ty=false:=(vy _).mp h2;rw[T,if_neg (by decide)]at h;have M:=L.map.sub u.sub;refine⟨nn,nn,_,Am (u.sub _ _ L.at_) 11 1 (by simp[srow]),K,S,by omega,_,N,BJ.key1 (k:=y) (IX wo) vx Ie M ?_⟩;have H:=kn_rho (λx E=>(L.rng x E).1) y;have go:∀w:Int,w=Da (Bn d m).order y->¬s.p=none/\0<=(i:Int)/\(i:Int)<(s.n:Int)/\An (Aa s.p (((i:Int)).toNat*1)) 0 [uI w] V2 λV4=>IR ((i:Int)+1)/\J [uI ((i:Int)+1)] V4:=λw hw=>by
    have hrw:=u.rows (xs:=R.take i++vs.drop i) (λ_=>rfl) (by decide);have g:i<(R.take i++vs.drop i).length:=by rw[zw,vU,vu];omega
    obtain⟨g1,g2,g3,-⟩:=Fz hrw (yr g);refine⟨g1,g2,g3,?_⟩;rw[xu,Nat.mul_one];refine Own.store u (i:=i) (by rw[Cy,xi];exact g) λV' ho _=>⟨z.succ r,hJ Q _ ?_⟩;rw[<-G w (by rw[hw];exact h),Cy,List.map_set,<-Cy];exact ho
   cases hk:kn (Bn d m).order y with
   |none=>rw[hk]at H;exact⟨0,rfl,go 0 H⟩
   |some j=>rw[hk]at H;exact⟨j,rfl,go j H⟩
 ·have hdn:=(z.done D).2;rw[wZ (by omega),List.drop_eq_nil_of_le (by omega),wD,C]at u;exact⟨s,rfl,u⟩
end
section
variable{V:Mem}{d:Ds}{m:Mm}
theorem Own.growS{V0 V V':Mem}{e:TypeId}{sz:Nat}{s:Sl}{vs:List Value}(h:Sx.Own V0 V e sz s vs)(k:V.sub V'):Sx.Own V0 V' e sz s vs:=Own.moveB h (h.sub.trans k) λ_ _ _ g=>k _ _ g
theorem Ni(h:Dq d=true):BB d=true:=by
 unfold Dq at h;simp only[zC]at h;exact h.1.1
theorem SrAt.grow{U V V':Mem}{p ib:Nat}{st:Sr}{o:Sl}(h:SrAt U d m p ib V st o)(k:V.sub V'):SrAt U d m p ib V' st o:=⟨k _ _ h.at_,Own.growS h.own k,h.map.sub k,h.cap,h.rng⟩
structure CanAt (d:Ds)(m:Mm)(V2 V:Mem)(s:Sl)(i:Nat)(nd:List Nd):Prop where
 len:nd.length=i
 at_:∀(j:Nat) n x,j<i->(Bn d m).order[j]?=some n->m.nodes[(n-1).toNat]?=some x->∃s,nd[j]?=some ⟨x.ty,s,Cm (Bn d m).order (Bi d x.ty) x.f⟩
 mem:∃W,V2.sub W/\Sx.Own W V 55 2 s (nd.flatMap Nd.row)/\∀n∈nd,Nd.Ok W n
theorem ren_in{O:List Int}{xs:List Fld}{vs:List Int}(u:O.length<=4096)(h:∀v∈vs,DZ v):∀v∈Cm O xs vs,DZ v:=λv hv=>by
 unfold Cm at hv;obtain⟨⟨a,b⟩,k,rfl⟩:=List.mem_map.1 hv;have g:=h b (List.of_mem_zip k).2;show DZ (if _ then b else Da O b);split;·exact g
 ·unfold Da;split;·exact⟨by omega,by omega⟩
  ·unfold CQ;rcases CP (λz=>decide (z=b)) O with⟨e,-⟩|⟨j,_,e,-,-,e2,-⟩;·rw[e];exact⟨by decide,by decide⟩
   ·rw[e];exact⟨by show(-9223372036854775808:Int)<=(j:Int)+1;omega,by show(j:Int)+1<=(9223372036854775807:Int);omega⟩
theorem canonicalC{U:Mem}{p ib:Nat}{o:Sl}(hvd:BB d=true)(T:BF d m=true)(hd:Ds.Ok V d)(hm:Mm.Ok V m)(A:SrAt U d m p ib V (Bn d m) o):Tri xG 130 #[pv p] V λe V'=>V.sub V'/\∃c:Mm,e=.returned (.agg #[c.gs.v,c.ns.v])/\Mm.Ok V' c/\Hc d m c (Bn d m).order:=by
 refine x130 ?_;have R:=Jc T;obtain⟨p1,p2,p3,p4,p5⟩:=BG T;obtain⟨l1,l2⟩:=I3 hvd;have hcap:=R.cap;have hoR:Ad V o 1 ((Bn d m).order.map Ak):=A.own.rows (λ_=>rfl) (by decide);refine⟨nn,nn,AV,d.gs,A.cell 2 1 (by decide),nn,nn,AV,m.gs,A.cell 8 1 (by decide),Tri.mono (OS A hd.globals hm.globals (Cw.1 p4).1 (by omega)) ?_⟩;rintro _ V2 ⟨gs,rfl,hg⟩;have hs2:=A.grow hg.sub;refine⟨gs,rfl,nn,nn,o,hs2.cell 10 1 (by decide),?_⟩;have hgR:Ad V2 gs 1 ((Cm (Bn d m).order d.globals m.globals).map Ak):=hg.rows (λ_=>rfl) (by decide);refine loop3u (mk:=λs:Sl=>.slice s.p s.n s.c) (mc:=λs:Sl=>.slice s.p s.n s.c) (b0:=gs) (c0:=⟨none,0,0⟩) Bv Bv (Bn d m).order.length (λi b c V3=>b=gs/\∃nd,CanAt d m V2 V3 c i nd) ⟨rfl,[],rfl,(λ_ _ _ h=>by omega),V2,Mem.sub.refl _,Own.nil (Mem.sub.refl _) _ _,(λ_ h=>by cases h)⟩ ?_;rintro i b s V3 J hi ⟨rfl,nd,C⟩ hJ;obtain⟨W,hW,r,hnd⟩:=C.mem;have I:=hW.trans r.sub;have Z:V.sub V3:=hg.sub.trans I;have Y:=hd.sub Z;have H:=hm.sub Z;have M:=hs2.grow I;have L:=hoR.sub Z;refine⟨λX=>?_,λhge=>?_⟩
 ·obtain⟨n,hnm,hn,-,hil,hp,hz,hrow⟩:=L.get X;have hr:=R.rng n hnm;obtain⟨k,rfl⟩:∃k:Nat,n=(k:Int)+1:=⟨(n-1).toNat,by omega⟩;have hnn:=H.nodes.n_eq;obtain⟨z,Q,hz',-,hl2,hpx,hzx,D⟩:=H.nodes.get (i:=k) (by omega);obtain⟨c1,c2⟩:=of_decide_eq_true (p3 z Q);obtain⟨j,S⟩:∃j:Nat,z.ty=(j:Int):=⟨_,(vw c1).symm⟩;have htn:=Y.types.n_eq;obtain⟨t,htm,ht,-,hl3,P,hzt,E⟩:=Y.types.get (i:=j) (by omega);have hI:IR ((k:Int)):=⟨by omega,by have:=(H.nodes.succ (i:=k) (by omega)).2;omega⟩;have hfo:=Ef ht S;have G:=p5 z Q;rw[hfo]at G;refine⟨hp,hz,X,_,hrow,nn,nn,AV,m.ns,M.cell 9 1 (by decide),?_⟩;rw[show((k:Int)+1-1)=(k:Int)by omega];refine⟨hI,hpx,hzx,by omega,_,_,D,nn,nn,AV,d.ts,M.cell 1 1 (by decide),?_⟩;rw[S];refine⟨P,hzt,by omega,Al P,_,_,E,Tri.mono (OS M (Y.typesOk t htm).fields (H.nodesOk z Q).rows (Cw.1 G).1 (by have:=l2 t htm;omega)) ?_⟩;rintro _ V4 ⟨fs,rfl,hf⟩;refine⟨fs,rfl,λtb htb=>?_⟩;have K:=Own.growS r hf.sub;obtain⟨nn,N⟩:∃nn:Nd,nn=⟨(j:Int),fs,Cm (Bn d m).order t.fields z.f⟩:=⟨_,rfl⟩;have hblk:Ad (V4.but s) fs 1 ((Cm (Bn d m).order t.fields z.f).map Ak):=by
   have:Sx.Own (λ_=>none) (V4.but s) 3 1 fs ((Cm (Bn d m).order t.fields z.f).flatMap Ak):=⟨(λ_ _ h=>by cases h),hf.len,by
    rcases hf.at_ with h|⟨g,cur,a,b,c,dd⟩;·exact .inl h
    ·exact .inr ⟨g,cur,a,rfl,Mem.but_at c (r.apartN b),dd⟩⟩
   exact this.rows (λ_=>rfl) (by decide)
  have hn2:Nd.Ok (V4.but s) nn:=by
   rw[N];exact⟨hblk,⟨by show -9223372036854775808<=(j:Int);omega,by show(j:Int)<=9223372036854775807;have:=(Y.types.succ (i:=j) (by omega)).2;omega⟩,ren_in (by omega) (H.nodesOk z Q).vals⟩
  have hlen:nd.length<=4096:=by rw[C.len];omega
  refine app47 (s:=s) (u:=⟨some ⟨tb,0,none⟩,1,1⟩) (xs:=nd) (ys:=[nn]) rfl rfl (K.but.new htb (.cells #[uI (j:Int),uL fs] 55 (0,0))) (Ad.cells (xs:=[nn]) (row:=Nd.row) Az (by rw[N];simp[Nd.row,Sl.v]) (λ_=>rfl) rfl (by simp)) (by simp;omega) λo2 V5 ho2=>⟨o2,rfl,L.succ X,hJ hil _ _ _ ⟨rfl,nd++[nn],by rw[zw,C.len];rfl,λq w x hq hw hx=>?_,V4.but s,hW.trans K.sub_but,ho2,λw hw=>?_⟩⟩
  ·by_cases hqi:q<i
   ·obtain⟨sl,A⟩:=C.at_ q w x hqi hw hx;exact⟨sl,by rw[List.getElem?_append_left (by rw[C.len];exact hqi)];exact A⟩
   ·have:q=i:=by omega
    subst this;rw[hn]at hw;cases hw;rw[show((k:Int)+1-1).toNat=k by omega,hz']at hx;cases hx;refine⟨fs,?_⟩;rw[<-C.len,List.getElem?_concat_length,N,hfo,S]
  ·rcases xe.1 hw with hw|hw;·exact(hnd w hw).sub K.sub_but
   ·rw[zO.1 hw];exact hn2
 ·have hdn:=(L.done hge).2;have hi':i=(Bn d m).order.length:=by omega
  refine⟨Z,⟨b,Cm (Bn d m).order d.globals m.globals,s,nd⟩,rfl,⟨hgR.sub I,ren_in (by omega) hm.gIn,r.rows (λ_=>rfl) (by decide),λn hn=>(hnd n hn).sub r.sub⟩,rfl,by rw[<-hi'];exact C.len,λj n x S hx=>C.at_ j n x (by rw[hi'];exact(yu.1 S).1) S hx⟩
theorem Ra[Tab V](g:Ds.Ok V d)(hm:Mm.Ok V m):Tri xG 81 #[d.v,m.v] V λe V'=>V.sub V'/\
  ((BF d m=false/\e=.returned (.tuple #[.agg #[Ai.v,Ai.v],.int .i64 1]))∨(BF d m=true/\∃c:Mm,e=.returned (.tuple #[.agg #[c.gs.v,c.ns.v],.int .i64 0])/\Mm.Ok V' c/\Hc d m c (Bn d m).order)):=by
 refine Qk ?_;refine Tri.mono (c128 g hm) ?_;rintro _ V1 ⟨rfl,rfl⟩;refine⟨_,rfl,λh=>?_,λh=>⟨Mem.sub.refl _,.inl ⟨(vy _).mp h,rfl⟩⟩⟩;have h:BF d m=true:=h;have u:=Ni (BG h).1;refine Tri.mono (c129 h g hm) ?_;rintro _ V2 ⟨p,ib,o,rfl,k⟩;refine⟨_,rfl,Tri.mono (canonicalC u h (g.sub k.own.sub) (hm.sub k.own.sub) k) ?_⟩;rintro _ r ⟨w,c,rfl,z,I⟩;exact⟨_,_,rfl,k.own.sub.trans w,.inr ⟨h,c,rfl,z,I⟩⟩
theorem JW{s t:Sl}{xs ys:List Int}(h:Ad V s 1 (xs.map Ak))(k:Ad V t 1 (ys.map Ak)):PP 17 [.slice s.p s.n s.c,.slice t.p t.n t.c] V (.bool (decide (xs=ys))):=by
 refine Pu ?_;have P:=h.n_eq;have A:=k.n_eq;refine⟨λY=>?_,λY=>?_⟩
 ·refine AR (mk:=.bool) (b0:=false) xs.length (λi V1=>V=V1/\xs.take i=ys.take i) ⟨rfl,rfl⟩ ?_;rintro i b V1 J hi ⟨rfl,z⟩ I;refine⟨λg=>?_,λr=>?_⟩
  ·obtain⟨x,M,v,-,H,L,R,w⟩:=h.get g;obtain⟨y,X,Q,-,C,G,N,u⟩:=k.get (i:=i) (by omega);refine⟨L,R,g,_,w,G,N,by omega,_,u,λZ=>⟨h.succ g,I H _ _ ⟨rfl,take_eq z v Q Z⟩⟩,λZ=>?_⟩;rw[decide_eq_false λe=>?_];·exact⟨rfl,rfl⟩
   ·rw[e,Q]at v;cases v;exact Z rfl
  ·have D:=(h.done r).2;rw[wZ D,wZ (by omega)]at z;rw[decide_eq_true z];exact⟨rfl,rfl⟩
 ·rw[decide_eq_false λe=>Y (by rw[P,A,e])];exact⟨rfl,rfl⟩
theorem canP_of{c:Mm}(k:BF d m=true)(I:Hc d m c (Bn d m).order):c.plain=canP d m:=by
 have R:=Jc k;unfold Mm.plain canP;rw[I.globals];refine Prod.ext rfl (zx λi=>?_);rw[y6,y6];cases h:(Bn d m).order[i]? with
 |none=>
  have:c.nodes[i]?=none:=by
   rw[vt]at h⊢;rw[I.len];exact h
  rw[this];rfl
 |some n=>
  have w:=R.rng n (xr h);have g:=yr (l:=m.nodes) (i:=(n-1).toNat) (by omega);obtain⟨sl,u⟩:=I.at_ i n _ h g;rw[u];simp only[Option.map_some];rw[g]
end
section
variable{d:Ds}{F:Nat}{m m':Mm}
theorem Rb(h:m.plain=m'.plain)(n:Int):nodeTgt d m n=nodeTgt d m' n:=by
 unfold nodeTgt;cases k:m.nodes[(n-1).toNat]? with
 |some x=>
  obtain⟨y,h1,h2,h3⟩:=I7 h k;rw[h1];simp only[h2,h3]
 |none=>
  have:m'.nodes[(n-1).toNat]?=none:=by
   rw[vt]at k⊢;rw[<-Ha h];exact k
  rw[this]
theorem OT(h:m.plain=m'.plain):∀f:Nat,Bp d m f=Bp d m' f
 |0=>by funext st n;rw[Bp,Bp]
 |f+1=>by
  funext st n;rw[Bp,Bp,Rb h,OT h f]
theorem OU(h:m.plain=m'.plain):Bn d m=Bn d m':=by
 have k:m.globals=m'.globals:=(wm h).1;unfold Bn lookP;rw[Ha h,OT h,k]
theorem Lm(h:m.plain=m'.plain):canP d m=canP d m':=by
 have g:m.globals=m'.globals:=(wm h).1;unfold canP;rw[OU h,g];refine Prod.ext rfl (List.map_congr_left λn _=>?_);cases k:m.nodes[(n-1).toNat]? with
 |some x=>
  obtain⟨y,h1,h2,h3⟩:=I7 h k;rw[h1];simp only[h2,h3]
 |none=>
  have:m'.nodes[(n-1).toNat]?=none:=by
   rw[vt]at k⊢;rw[<-Ha h];exact k
  rw[this]
end
section
variable{d:Ds}{m c:Mm}{O:List Int}
structure Ren (d:Ds)(m c:Mm)(O:List Int):Prop where
 good:Ao d m
 rch:Rch d m O
 can:Hc d m c O
theorem Ren.node(H:Ren d m c O){x:Int}(h:x∈O):∃(i:Nat)(n:Nd)(s:Sl),O[i]?=some x/\Da O x=(i:Int)+1/\i<O.length/\m.nodes[(x-1).toNat]?=some n/\n∈m.nodes/\c.nodes[(Da O x-1).toNat]?=some ⟨n.ty,s,Cm O (Bi d n.ty) n.f⟩:=by
 obtain⟨i,h1,h2,h3⟩:=rho_mem H.rch h;have u:=H.rch.rng x h;have k:(x-1).toNat<m.nodes.length:=by omega
 obtain⟨s,g⟩:=H.can.at_ i x _ h1 (yr k);refine⟨i,_,s,h1,h2,h3,yr k,ym _,?_⟩;rw[h2,show((i:Int)+1-1).toNat=i by omega];exact g
theorem plain_not{t:KB}(h:AF t=false):t≠Aj/\t≠Au:=by
 unfold AF at h;simpa using h
theorem ren_right(H:Ren d m c O){t:KB}{v:Int}(h:AL d m t v=true)(hv:AF t=false->v=0∨v∈O):AL d c t (if AF t=true then v else Da O v)=true:=by
 cases k:AF t with
 |true=>
  rw[if_pos rfl];unfold AF at k;unfold AL at h⊢;by_cases h1:t=Aj;·rw[if_pos h1]at h⊢;exact h
  ·rw[if_neg h1]at h⊢;have h2:t=Au:=by simpa [h1]using k
   rw[if_pos h2]at h⊢;exact h
 |false=>
  rw[if_neg (by decide)];obtain⟨h1,h2⟩:=plain_not k;unfold AL at h⊢;rw[if_neg h1,if_neg h2,decide_eq_true_eq]at h⊢;rcases hv k with rfl|hm;·exact .inl Ng
  ·obtain⟨i,n,s,-,w,z,g,-,u⟩:=H.node hm;have r:=H.rch.rng v hm;rw[u];rw[g]at h;have e:=H.can.len;refine .inr ⟨by omega,by omega,?_⟩;rcases h with h|h;·omega
   ·exact h.2.2
theorem OW(H:Ren d m c O){l:List Fld}{vs:List Int}(h:Ax d m l vs=true)(J:∀y∈DV l vs,y∈O):Ax d c l (Cm O l vs)=true:=by
 unfold Ax at h⊢;rw[zC,decide_eq_true_eq,GX]at h⊢;obtain⟨h1,h2⟩:=h;refine⟨by unfold Cm;rw[xi,vW];omega,λj x k=>?_⟩;have z:=(yu.1 k).1;have g:j<vs.length:=by unfold Cm at z;rw[xi,vW]at z;omega
 obtain⟨v,hv⟩:∃v,vs[j]?=some v:=⟨_,yr g⟩;obtain⟨f,u⟩:∃f,l[j]?=some f:=⟨_,yr (by omega)⟩;rw[ren_at u hv]at k;have r:=h2 j v hv;have w:tyAt l j=f.ty:=by unfold tyAt;rw[u];rfl
 rw[w]at r⊢;rw[<-Option.some.inj k];refine ren_right H r λG=>?_;by_cases e:v=0;·exact .inl e
 ·exact .inr (J v (Jb.2 ⟨j,f,u,hv,G,e⟩))
theorem ren_tgtN(H:Ren d m c O){x:Int}(h:x∈O){n:Nd}(k:m.nodes[(x-1).toNat]?=some n):∀y∈DV (Bi d n.ty) n.f,y∈O:=by
 have:=H.rch.shut x h;unfold Proofs.nodeTgt at this;rw[k]at this;exact this
theorem ren_good(H:Ren d m c O):Ao d c:=by
 refine⟨H.good.valid,H.good.chk,?_⟩;obtain⟨p1,J,p3,z,r⟩:=BG H.good.mem;have G:=H.can.len;have N:=H.rch.cap;have nd:∀n∈c.nodes,∃x∈m.nodes,n.ty=x.ty/\Ax d c (Bi d n.ty) n.f=true:=λn k=>by
  obtain⟨i,hi⟩:=xj.1 k;have v:=(yu.1 hi).1;have g:O[i]?=some (O[i]'(by omega)):=yr _;have hm:=xr g;have Z:=H.rch.rng _ hm;have u:=yr (l:=m.nodes) (i:=((O[i]'(by omega))-1).toNat) (by omega);obtain⟨s,w⟩:=H.can.at_ i _ _ g u;rw[hi]at w;cases w;exact⟨_,ym _,rfl,OW H (r _ (ym _)) (ren_tgtN H hm u)⟩
 unfold BF;simp only[zC,List.all_eq_true,decide_eq_true_eq];refine⟨⟨⟨⟨p1,by omega⟩,λn k=>?_⟩,?_⟩,λn k=>?_⟩
 ·obtain⟨x,g,e,-⟩:=nd n k;have:=p3 x g;unfold Eu at this⊢;rw[e];exact this
 ·rw[H.can.globals];exact OW H z H.rch.glob
 ·obtain⟨x,g,e,h⟩:=nd n k;exact h
end
section
variable{V V0:Mem}{d:Ds}{F:Nat}{m:Mm}{l:Sl}{cs:List Q9}
theorem Nj{c:Mm}(G:Ao d m)(I:Hc d m c (Bn d m).order):Ao d c:=ren_good ⟨G,Jc G.mem,I⟩
end
end Go.Proofs
