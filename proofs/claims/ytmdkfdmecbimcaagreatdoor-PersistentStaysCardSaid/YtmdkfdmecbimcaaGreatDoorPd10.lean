/- Part 10: no statement of the seat is proved here. -/
import Derived.Test.YtmdkfdmecbimcaaGreatDoorPd09
import Derived.TacticsIn
import Derived.RangeFuncNested
set_option linter.unusedVariables false
set_option linter.unusedSimpArgs false
open Array renaming replicate->wZ,getElem?_eq_some_iff->yE,all_eq_true'->wz,getD_eq_getD_getElem?->w8,getElem?_setIfInBounds_ne->w9
open Bool renaming and_eq_true->zC
open List renaming range->zB,prefix_refl->yk,range_eq_range'->wy,prefix_append->yG,map_cons->zH,zip_cons_cons->wv,lookup_cons->z7,nodup_cons->yr,range'->wi,getElem?_eq_some_iff->yj,take_of_length_le->xc,drop_eq_getElem_cons->vC,map_toArray->xM
open Nat renaming le_refl->yq,log2->vD,two_pow_pos->vF,le_log2->vG,le_div_iff_mul_le->vH
open Option.some renaming injEq->zG
open Go.Code renaming wpIn->wx
open Option renaming map_eq_some_iff->zy
open Go.Ending.returned renaming injEq->wu
open Go.Value.tuple renaming injEq->wq
open Go.World renaming alloc_heap_new->wo,putObj_heap_other->wm,putObj_size->wk,putObj_heap_same->wj
open Go.RowKit.Below renaming heap_alloc->xz
open Go.Proofs.Tryz renaming prog->xS,f281->wh,f154->we,f155->wc,f214->wb,f80->wa,underlying276->xf,underlying9->xh,underlying351->vB
open Go.Sem renaming run_bind->zN,run_pure->zP
open Go.Result renaming andThen_ok->zO
open Ne renaming symm->vA
open Go.Value renaming string->ye,map->zp
open Go.IntKind renaming u64->vJ,wrap->xT
namespace Go.Sx
open Go
open Classical in
theorem ML{P:Program}{F:Fence}{t:Nat}{c:Code}{Q:Exit->Act->World->Prop}{a:Act}{w:World}(Inv:Nat->Act->World->Prop)(y:∃n,Inv n a w)
  (round:∀n a w,Inv n a w->c.wpIn F t P (Exit.then (λu w'=>∃z,z<n/\Inv z u w') Q) a w):(Code.loop c).wpIn F t P Q a w:=by
 let m:Act->World->Nat:=λa w=>if h:∃n,Inv n a w then Classical.choose (Ma _ h)else 0
 have hm:∀a w (h:∃n,Inv n a w),Inv (m a w) a w/\∀k,Inv k a w->m a w<=k:=λa w h=>by
  grind
 refine wpIn_loop (λa w=>∃n,Inv n a w) m y λa w x=>?_;obtain⟨h1,h2⟩:=hm a w x;refine wpIn_mono (round _ a w h1) (λe u w' q=>?_);grind
section
variable{all:Array Oper}{k:St->Tr}{Q:Exit->Act->World->Prop}
variable{P:Program}{R:Ending->Mem->Prop}{V0:Mem}{w0:World}{L:List (KZ)}{ρ0:List Value}{fs:List Nat}{H:CJ}
theorem Rf(t:Ez P fs){st:St}{a:Act}{w:World}(Z:F7 R V0 w0 a.defers Q)(h:Bg P R DI V0 w0 H.N L ρ0 a.tmps w st (Jj P fs H all st k))
  (l:LetsOut (λ(_:Exit) (_:Act) (_:World)=>False)->LetsOut Q)
  (Y:∀y r w',r.defers=a.defers->Bg P R DI V0 w0 H.N L ρ0 r.tmps w' y (k y)->Q .normal r w'):wpAny P .any all Q all.size (wZ all.size false) a {w with drawn:=w.drawn+1}:=by
 unfold Jj at h;simp only at h;obtain⟨β,ρ,V,hp,W,q⟩:=h;split at q;case isFalse=>exact q.elim
 rename_i G;simp only[zC,List.all_eq_true]at G;obtain⟨b,e⟩:=G;obtain⟨v,h2,h3,h4,A⟩:=N6 b;have z:∀j d,j<all.size->(wZ all.size false).getD j d=false:=λj d u=>by simp_all
 refine(any_sound t v (λi o I=>e o (by grind)) Z l Y all.size (zB all.size) (Il all (CB all.toList []) all.size 0) [] st _ a _ a [] DI (λx=>x) ?_ rfl List.nodup_range (by simp) λj=>?_)
 ·exact
  {lsize:=by simp
   closed:=λj M u J=>by
    rw[z j _ (yE.1 u).1]at J;cases J
   chain:=A
   nd:=h3
   bound:=h4
   unl:=λj u _=>.inr (nodup_all h3 h4 h2 u)
   pu:=λj u=>by cases u
   ru:=λj u=>.inl (z j _ (h4 j u))
   boi:=λi X j u J=>by omega
   fsize:=rfl
   fdef:=rfl
   fill:=λs _=>rfl
   goes:=⟨_,β,ρ,V,hp,W.drawn _,q⟩}
 simp_all
end
section
variable{P:Program}{R:Ending->Mem->Prop}{O V0:Mem}{w0:World}{fs:List Nat}{H:CJ}
theorem noOut(Q:Exit->Act->World->Prop):¬LetsOut (λe t w'=>e≠.outgrown/\Q e t w'):=λ⟨_,_,h⟩=>h.1 rfl
theorem nd1{x y:Bool}(h:(x&&y)=true):x=true:=by simp_all
theorem Ht{x y:Bool}(h:(x&&y)=true):y=true:=by simp_all
theorem ndOps{id:Nat}{ops:Array Oper}{d:Bool}(h:FP (.region id ops d)=true):∀o∈ops,K3 o.op=true:=by
 grind[FP,wz]
theorem ex_sound_in{r:Option Nat}{n₀:Nat}(M:Ez P fs)(hm:P.follows .mixedOrders=true):∀(c:Code),FP c=true->∀(L:List (KZ))(ρ0:List Value)(st:St)(k:Ex->St->Tr)(a:Act)(w:World)(Q:Exit->Act->World->Prop),
  F7 R V0 w0 a.defers Q->Bg P R DI V0 w0 H.N L ρ0 a.tmps w st (ex P fs H c st k)->
  (∀e u l w' E,L<+:E->l.defers=a.defers->Bg P R DI V0 w0 H.N E ρ0 l.tmps w' u (k e u)->Q e.toExit l w')->c.wpIn (Ay r) n₀ P Q a w:=by
 intro c;induction c with
 |skip=>intro nd L ρ0 st k a w Q G h z;exact wpIn_skip (z .normal st a w L (yk _) rfl h)
 |ret=>intro nd L ρ0 st k a w Q G h z;exact wpIn_ret (z .ret st a w L (yk _) rfl h)
 |exit id=>intro nd L ρ0 st k a w Q G h z;exact wpIn_exit (z (.exit id) st a w L (yk _) rfl h)
 |seq x y K S=>
  intro nd L ρ0 st k a w Q G h z;refine wpIn_seq (K (nd1 nd) L ρ0 st _ a w _ G h λe u l w' E hL Y W=>?_);cases e with
  |normal=>exact S (Ht nd) E ρ0 u k l w' Q (by grind) W λe st'' a'' w'' L'' hL' hd' hg'=>z e st'' a'' w'' L'' (hL.trans hL') (hd'.trans Y) hg'
  |exit i=>exact z (.exit i) u l w' E hL Y W
  |ret=>exact z .ret u l w' E hL Y W
 |block id b ih=>
  intro nd L ρ0 st k a w Q G h z;refine wpIn_block (ih nd L ρ0 st _ a w _ G h λe u l w' E hL Y W=>?_);cases e with
  |normal=>exact z .normal u l w' E hL Y W
  |exit i=>
   simp only at W;show(if i=id then Q .normal l w' else Q (.exit i) l w');split;·rename_i e;rw[if_pos e]at W;exact z .normal u l w' E hL Y W
   ·rename_i e;rw[if_neg e]at W;exact z (.exit i) u l w' E hL Y W
  |ret=>exact z .ret u l w' E hL Y W
 |cond c x y K S=>
  intro nd L ρ0 st k a w Q G h z;obtain⟨β,ρ,V,C,X,q⟩:=h;simp only[ex]at q;split at q
  ·rename_i v hv;have he:a.eval c=.bool v:=Bx X hv;cases v with
   |true=>exact wpIn_cond_true he (K (nd1 nd) L ρ0 st k a w Q G ⟨β,ρ,V,C,X,q⟩ z)
   |false=>exact wpIn_cond_false he (S (Ht nd) L ρ0 st k a w Q G ⟨β,ρ,V,C,X,q⟩ z)
  ·rename_i t _ ht;split at q
   ·rename_i hc;obtain⟨hc1,hc2⟩:=hc;obtain⟨b,hb⟩:=GF (ρ:=ρ) (β:=β) hc1;have he:a.eval c=.bool b:=(Bx X ht).trans hb;have hfr:=(T.ev_free (β:=id) (β':=β) (ρ:=ρ) t hc2).1;split at q
    ·rename_i d;simp only[D,hfr,hb,asB]at q;have B:Rel DI V0 w0 H.N β (st.now d (.bool b)) ρ V a.tmps w:=X.now (t:=t) ht (by rw[hb];rfl);cases b with
     |true=>exact wpIn_cond_true he (K (nd1 nd) L ρ0 _ k a w Q G ⟨β,ρ,V,C.now _ _,B,q.1 rfl⟩ z)
     |false=>exact wpIn_cond_false he (S (Ht nd) L ρ0 _ k a w Q G ⟨β,ρ,V,C.now _ _,B,q.2 rfl⟩ z)
    ·simp only[D,hfr,hb,asB]at q;cases b with
     |true=>exact wpIn_cond_true he (K (nd1 nd) L ρ0 _ k a w Q G ⟨β,ρ,V,C,X,q.1 rfl⟩ z)
     |false=>exact wpIn_cond_false he (S (Ht nd) L ρ0 _ k a w Q G ⟨β,ρ,V,C,X,q.2 rfl⟩ z)
   ·exact q.elim
  ·exact q.elim
 |region id ops draw=>
  intro nd L ρ0 st k a w Q G h z;cases draw with
  |true=>
   refine wpIn_mono (wpIn_region_any (Q:=λe l w'=>e≠.outgrown/\Q e l w') hm (Re (noOut Q) (λo ho=>MK (ndOps nd o ho)) _ _ _ _ (Rf M (λch l w' Y hR=>⟨by simp,G ch l w' Y hR⟩) h (λ⟨_,_,h⟩=>h.elim) λu l w' Y W=>⟨by simp,z .normal u l w' L (yk _) Y W⟩))) λe a w h=>h.2
  |false=>
   refine wpIn_mono (wpIn_region (Q:=λe l w'=>e≠.outgrown/\Q e l w') ?_) λe a w h=>h.2;rw[wy,<-Array.length_toList];exact OQ (noOut Q) (λo ho=>MK (ndOps nd o ho)) _ _ (λj _=>by simp) _ _ (Js M ops.toList st a w (λch l w' Y hR=>⟨by simp,G ch l w' Y hR⟩) h λu l w' Y W=>⟨by simp,z .normal u l w' L (yk _) Y W⟩)
 |loop b ih=>
  intro nd L ρ0 st k a w Q G h z;obtain⟨β,ρ,V,C,X,q⟩:=h;simp only[ex,exLoop]at q;generalize dedup (G9 b)=ws at q;generalize(((Ha b).bind λi=>H.loops.lookup i).getD [])=hint at q;obtain⟨u,t,W,hfree,β',ρ',V',hp',hr',Z⟩:=ER _ _ _ _ ⟨β,ρ,V,C,X,q⟩;split at Z;case isFalse=>exact Z.elim
  rename_i hw;split at Z;·exact Z.elim
  ·rename_i st1 bs hgb;split at Z;·exact Z.elim
   ·rename_i init hinit;split at Z;case isFalse=>exact Z.elim
    rename_i hok;simp only[D]at Z;obtain⟨I,μ,hI,hround⟩:=Z;obtain⟨hrh,hsh⟩:=Ku hw hr'.nv (yk _) hgb hinit hok hr';let Inv:Nat->Act->World->Prop:=λn l w'=>∃β xs V',Shaped (bs.flatMap (·.2.2)++(CN ws st1).2.flatMap (·.2.2)) xs/\I xs V'/\μ xs V'=n/\
     Rel DI V0 w0 H.N β {(CN ws st1).1 with depth:=u.depth+1} (ρ'++xs) V' l.tmps w'/\l.defers=a.defers
    refine ML Inv ⟨_,β',init.evs ρ' id,V',hsh,hI,rfl,hrh,rfl⟩ ?_;rintro n a1 w1 ⟨β1,xs,V1,hsh1,hI1,rfl,hr1,hd1⟩;have hDb:=hround xs V1 hsh1 hI1;refine ih nd (L++[λys U=>I ys U/\μ ys U<μ xs V1]) ρ' _ _ a1 w1 _ (by rw[hd1];exact G) ⟨β1,ρ'++xs,V1,⟨yG _ _,?_⟩,hr1,hDb⟩ ?_;·simp[hp'.2]
    ·intro e st2 a2 w2 L2 hL2 hd2 hg2;cases e with
     |normal=>
      obtain⟨β2,ρ2,V2,hp2,hr2,A⟩:=hg2;simp only at A;split at A
      ·rename_i vs hvs;split at A
       ·rename_i hok2;simp only[D]at A;obtain⟨J,hJ,hJ2⟩:=A;have hlvl:L2[u.depth]?=some (λys U=>I ys U/\μ ys U<μ xs V1):=by
         obtain⟨σ,rfl⟩:=hL2;rw[<-hp'.2,List.getElem?_append_left (by simp),List.getElem?_append_right (yq _)];simp
        rw[hlvl]at hJ;simp only[zG]at hJ;subst hJ;obtain⟨hrh2,hsh2⟩:=Ku hw hr'.nv hp2.1 hgb hvs hok2 hr2;exact⟨_,hJ2.2,β2,vs.evs ρ2 id,V2,hsh2,hJ2.1,rfl,hrh2,hd2.trans hd1⟩
       ·exact A.elim
      ·exact A.elim
     |exit i=>exact z (.exit i) st2 a2 w2 L2 ((yG _ _).trans hL2) (hd2.trans hd1) (hg2.weak hp'.1)
     |ret=>exact z .ret st2 a2 w2 L2 ((yG _ _).trans hL2) (hd2.trans hd1) (hg2.weak hp'.1)
 |rangeFunc _ _ _ _ _ _=>intro nd L ρ0 st k a w Q G h z;obtain⟨β,ρ,V,C,X,q⟩:=h;exact q.elim
 |scope _ _=>intro nd L ρ0 st k a w Q G h z;obtain⟨β,ρ,V,C,X,q⟩:=h;exact q.elim
 |label _=>intro nd L ρ0 st k a w Q G h z;obtain⟨β,ρ,V,C,X,q⟩:=h;exact q.elim
 |goto _=>intro nd L ρ0 st k a w Q G h z;obtain⟨β,ρ,V,C,X,q⟩:=h;exact q.elim
 |refuse _=>intro nd L ρ0 st k a w Q G h z;obtain⟨β,ρ,V,C,X,q⟩:=h;exact q.elim
end
section
variable{P:Program}{fs:List Nat}{H:CJ}
def CQ(r:Option Nat)(n:Nat)(P:Program)(Q:Exit->Act->World->Prop):List Code->Act->World->Prop
 |[],a,w=>Q .normal a w
 |c::h,a,w=>c.wpIn (Ay r) n P (Exit.then (CQ r n P Q h) Q) a w
def flat:Code->List Code
 |.seq x y=>flat x++flat y
 |c=>[c]
theorem OR{r:Option Nat}{n:Nat}{Q:Exit->Act->World->Prop}{t:List Code}:∀{u:List Code}{a:Act}{w:World},CQ r n P (Exit.then (CQ r n P Q t) Q) u a w->CQ r n P Q (u++t) a w
 |[],_,_,h=>h
 |c::y,a,w,h=>by
  refine wpIn_mono (show c.wpIn (Ay r) n P _ a w from h) λe x w' z=>?_;cases e with
  |normal=>exact OR z
  |_=>exact z
theorem GX{r:Option Nat}{n:Nat}{Q u:Exit->Act->World->Prop}(t:∀e a w,Q e a w->u e a w):∀{l:List Code}{a:Act}{w:World},CQ r n P Q l a w->CQ r n P u l a w
 |[],_,_,h=>t _ _ _ h
 |c::y,a,w,h=>by
  refine wpIn_mono (show c.wpIn (Ay r) n P _ a w from h) λe x w' z=>?_;cases e with
  |normal=>exact GX t z
  |_=>exact t _ _ _ z
theorem MM{r:Option Nat}{n:Nat}{Q:Exit->Act->World->Prop}{t:List Code}:∀{u:List Code}{a:Act}{w:World},CQ r n P Q (u++t) a w->CQ r n P (Exit.then (CQ r n P Q t) Q) u a w
 |[],_,_,h=>h
 |c::y,a,w,h=>by
  refine wpIn_mono (show c.wpIn (Ay r) n P _ a w from h) λe x w' z=>?_;cases e with
  |normal=>exact MM z
  |_=>exact z
theorem FQ{r:Option Nat}{n:Nat}:∀{c:Code}{Q:Exit->Act->World->Prop}{a:Act}{w:World},CQ r n P Q (flat c) a w->c.wpIn (Ay r) n P Q a w:=by
 intro c;induction c with
 |seq x y u z=>
  intro Q a w h;refine wpIn_seq (u ?_);refine GX (λe a w t=>?_) (MM h);cases e with
  |normal=>exact z t
  |_=>exact t
 |_=>
  intro Q a w h;refine wpIn_mono (show wx (Ay r) n P _ _ a w from h) λe j w' t=>?_;cases e with
  |normal=>exact t
  |_=>exact t
def AI(P:Program)(N:Nat)(cs:List Code)(t:List (Nat×Value))(h:List Nat)(V:Mem)(R:KZ):Prop:=
 ∀r n a w,V.le w->a.tmps.size=N->(∀s v,t.lookup s=some v->a.tmps.getD s undef=v)->
  CQ r n P (λe u w'=>e=.normal/\u.defers=a.defers/\u.tmps.size=N/\∃vs V',(∀s v,(h.zip vs).lookup s=some v->u.tmps.getD s undef=v)/\R vs V'/\As V w V' w') cs a w
theorem AI.mono{N:Nat}{cs:List Code}{u:List (Nat×Value)}{t:List Nat}{V:Mem}{R z:KZ}(h:AI P N cs u t V R)(y:∀vs V',R vs V'->z vs V'):AI P N cs u t V z:=
 λr n a w x j i=>GX (λ_ _ _ ⟨h1,h2,h3,vs,V',h4,l,q⟩=>⟨h1,h2,h3,vs,V',h4,y _ _ l,q⟩) (h r n a w x j i)
def MO(P:Program)(fs:List Nat)(H:CJ):List Code->St->(Ex->St->Tr)->Tr
 |[],st,k=>k .normal st
 |c::h,st,k=>ex P fs H c st λe st=>match e with|.normal=>MO P fs H h st k|e=>k e st
def segT(P:Program)(fs:List Nat)(H:CJ)(cs:List Code)(slots:List (Nat×T))(nv:Nat)(h:List Nat):Tr:=
 if(slots.all λx=>x.2.wf nv 0)/\cs.all FP then
  MO P fs H cs {slots,boxes:=[],nv,nb:=0,depth:=0} λe st=>
   match e with
   |.normal=>pubT (st.nb+2) st (λst=>(FH st h).map T.tup) λ_ t=>.ret t
   |_=>.bad 60 0
 else .bad 61 0
theorem exL_sound{R:Ending->Mem->Prop}{V0:Mem}{w0:World}{r:Option Nat}{n:Nat}(t:Ez P fs)(hm:P.follows .mixedOrders=true){k:Ex->St->Tr}{Q:Exit->Act->World->Prop}{ρ0:List Value}:∀{cs:List Code}{L:List (KZ)}{st:St}{a:Act}{w:World},
  F7 R V0 w0 a.defers Q->Bg P R DI V0 w0 H.N L ρ0 a.tmps w st (MO P fs H cs st k)->cs.all FP=true->
  (∀e u y w' x,L<+:x->y.defers=a.defers->Bg P R DI V0 w0 H.N x ρ0 y.tmps w' u (k e u)->Q e.toExit y w')->CQ r n P Q cs a w
 |[],L,st,a,w,_,h,_,j=>j .normal st a w L (yk _) rfl h
 |c::cs,L,st,a,w,A,h,z,j=>by
  simp only[List.all_cons,zC]at z;refine ex_sound_in t hm c z.1 L ρ0 st _ a w _ A h λe u y w' x q o b=>?_;cases e with
  |normal=>exact exL_sound t hm (by grind) b z.2 λe l v J G Z Y W=>j e l v J G (q.trans Z) (Y.trans o) W
  |exit i=>exact j (.exit i) u y w' x q o b
  |ret=>exact j .ret u y w' x q o b
end
section
variable{P:Program}{fs:List Nat}{H:CJ}
theorem MP{f:T->Value}:∀{l:List Nat}{ts:List T}{s:Nat}{v:Value},(l.zip (ts.map f)).lookup s=some v->∃t,(l.zip ts).lookup s=some t/\f t=v/\s∈l
 |[],_,s,v,h=>by simp at h
 |x::xs,[],s,v,h=>by simp at h
 |x::xs,t::ts,s,v,h=>by
  simp only[zH,wv,z7]at h⊢;by_cases e:s=x;·simp_all
  ·have:(s==x)=false:=by simpa using e
   rw[this]at h⊢;obtain⟨u,h1,h2,h3⟩:=MP h;simp_all
theorem MQ{f:T->Value}:∀{l:List (Nat×T)}{s:Nat}{t:T},l.lookup s=some t->(l.map λx=>(x.1,f x.2)).lookup s=some (f t)
 |[],s,t,h=>by simp at h
 |(x,u)::xs,s,t,h=>by
  simp only[zH,z7]at h⊢;split at h;·simp_all
  ·exact MQ h
theorem seg_sound(z:Ez P fs)(hm:P.follows .mixedOrders=true){N:Nat}{cs:List Code}{slots:List (Nat×T)}{nv:Nat}{l:List Nat}{t:Tr}(ht:segT P fs {H with N:=N} cs slots nv l=t)(ρ:List Value)(hn:ρ.length=nv)
  {G:List (Nat×Value)} (Z:G=slots.map λx=>(x.1,x.2.ev ρ id)) {V:Mem} {R:KZ} {q:Prop} (hq:q=DT P {} (λe V'=>∃vs:List Value,e=.returned (.tuple vs.toArray)/\R vs V') t [] ρ V) (h:q):
  AI P N cs G l V R:=by
 intro r n a w hV hN hs;subst hq Z ht;have u:=DZ _ _ _ _ h;unfold segT at u;split at u;case isFalse=>exact u.elim
 rename_i hw;obtain⟨hwf,M⟩:=hw;refine exL_sound (L:=[]) (ρ0:=ρ) (V0:=V) (w0:=w) z hm (λ_ _ _ _ h=>by simp_all) ⟨id,ρ,V,⟨yk _,rfl⟩,?_,u⟩ M ?_
 ·exact
   {nv:=hn
    size:=hN
    slots:=λs t Y=>by
     have hl:=Iu Y;simp_all[MQ,id]
    frm:=As.refl hV
    boxes:=λi cs ty E=>by simp[St.box]at E
    hid:=λb o hb=>by cases hb
    inj:=λi j E _ _=>by grind}
 ·intro e st' a' w' L' _ hd Y;cases e with
  |exit j=>obtain⟨β,J,V2,K,W,u⟩:=Y;exact u.elim
  |ret=>obtain⟨β,J,V2,K,W,u⟩:=Y;exact u.elim
  |normal=>
   obtain⟨st2,t2,A,X,β,J,V2,K,W,u⟩:=ER _ _ _ _ Y;simp only[zy]at A;obtain⟨x,S,rfl⟩:=A;simp only[D]at u;obtain⟨vs,h1,h2⟩:=u;simp only[T.ev,wu,wq]at h1;have B:T.evs J id x=vs:=by simp_all
   refine⟨rfl,hd,W.size,vs,V2,λs v I=>?_,h2,W.frm⟩;rw[<-B,DR]at I;obtain⟨t,g1,g2,U⟩:=MP I;obtain⟨y,g4,g5⟩:=Ko S s U;have C:=Kn S s U;rw[g1,g4]at C;simp only[zG]at C;subst C;rw[W.slots s t g4,<-g2];grind[Kp,T.firstBox,T.ev_free]
end
section
variable{P:Program}
def BC(fn:FuncId)(tmps:Array Value)(ps:Array Tmp)(assign body:Code)(D:Nat):Loop:={state:=.ready,pending:=none,fn,tmps,params:=ps,assign,body,defers:=D}
theorem MS{g:Operand}{ps:Array Tmp}{assign body:Code}{a:Act}{w:World}{V:Mem}{f:FuncId}{caps:Array Value}{n:Nat}{Q:Exit->Act->World->Prop}{Φ:Mem->Prop}
  (q:V.le w) (X:a.eval g=.func (.func f) #[] caps) (B:∀args w,(callFunc f args).run P w=.ok (.enter f args) w)
  (J:∀fn l D,V l=none->Tri P f (#[.func (.yield l) #[] #[]]++caps) (V.set l (.loop (BC fn a.tmps ps assign body D))) λe V'=>(∃v,e=.returned v)/\∃V2,V'=V2.set l (.loop (BC fn a.tmps ps assign body D))/\V2 l=none/\Φ V2)
  (j:∀D V' W,w.heap.size<=D->As V w V' W->V' D=none->W.heap[D]?=some (.deferred (some []))->Φ V'->Q .normal {a with defers:={target:=.collected D,args:=#[]}::a.defers} W):
  (Code.rangeFunc g ps assign body).wpIn (Ay none) n P Q a w:=by
 refine wpIn_rangeFunc λfn _=>?_;obtain⟨t,z⟩:∃t,(w.alloc (.deferred (some []))).alloc (.loop (BC fn a.tmps ps assign body w.heap.size))=t:=⟨_,rfl⟩;have C:t.heap.size=w.heap.size+2:=by rw[<-z];simp
 have E:t.heap[w.heap.size+1]?=some (.loop (BC fn a.tmps ps assign body w.heap.size)):=by
  grind[wo,BC,World.size_alloc]
 have G:t.heap[w.heap.size]?=some (.deferred (some [])):=by
  grind[xz,wo]
 have y:∀b,b<w.heap.size->t.heap[b]?=w.heap[b]?:=λb u=>by
  grind[xz]
 have N:∀b,w.heap.size<=b->V b=none:=λb u=>by
  cases M:V b with
  |none=>rfl
  |some o=>have:=(yE.1 (q b o M)).1;omega
 have Z:(V.set (w.heap.size+1) (.loop (BC fn a.tmps ps assign body w.heap.size))).le t:=λb o u=>by
  by_cases e:b=w.heap.size+1;·grind[Mem.set_same]
  ·rw[Mem.set_ne e]at u;have:=(yE.1 (q b o u)).1;rw[y b this];exact q b o u
 refine⟨w.heap.size+1,[{target:=.collected w.heap.size,args:=#[]}],t,{target:=.fn (.func f) caps,args:=#[.func (.yield (w.heap.size+1)) #[] #[]]},t,f,
  #[.func (.yield (w.heap.size+1)) #[] #[]]++caps,t,?_,?_,?_,?_,λh=>by simp[Ay,Fence.wide]at h,?_⟩
 ·rw[<-z];exact run_enterLoop_outer _ _ _ _ _
 ·simp only[resolve,X];simp[go_sem]
 ·intro f' K;trivial
 ·simp[invoke,go_sem,B]
 ·refine MJ.2 (F6 (J fn (w.heap.size+1) w.heap.size (N _ (by omega)) t Z) ?_);rintro e i ⟨V',⟨⟨v,rfl⟩,V2,rfl,h2,Y⟩,x⟩;have r:i.heap[w.heap.size+1]?=some (.loop (BC fn a.tmps ps assign body w.heap.size)):=x.le _ _ (Mem.set_same _ _ _);have S:w.heap.size+1<i.heap.size:=(yE.1 r).1;refine⟨none,_,run_endLoop (P:=P) r (by simp[BC]),?_⟩;have A:(V.set (w.heap.size+1) (.loop (BC fn a.tmps ps assign body w.heap.size))) w.heap.size=none:=by
   simp_all[Mem.set_ne,yq]
  have I:i.heap[w.heap.size]?=some (.deferred (some [])):=(x.old _ (by omega) A).trans G;refine j w.heap.size V2 _ (yq _) ?_ ?_ ((wm (by omega)).trans I) Y
  ·refine⟨?_,λb o u=>?_,λb u T=>?_,λb u=>?_,?_,?_⟩;·grind[wk]
   ·have e:b≠w.heap.size+1:=λe=>by simp_all
    refine(wm e).trans (x.le b o ?_);rw[Mem.set_ne e];exact u
   ·refine(wm (by omega)).trans ((x.old b (by omega) ?_).trans (y b u));grind[Mem.set_ne]
   ·have e:b≠w.heap.size+1:=λe=>by simp_all
    rcases x.dom b (by rw[Mem.set_ne e];exact u)with h|h
    ·grind[Mem.set_ne]
    omega
   ·show i.os=w.os;rw[x.os,<-z];rfl
   ·show i.output=w.output;rw[x.out,<-z];rfl
  ·cases M:V2 w.heap.size with
   |none=>rfl
   |some o=>
    rcases x.dom w.heap.size (by grind[Mem.set_ne])with h|h;·grind
    ·omega
theorem MT{l:Nat}{V:Mem}{w:World}{fn:FuncId}{tmps:Array Value}{ps:Array Tmp}{assign body:Code}{D:Nat}{args:Array Value}{N n:Nat}(hl:V l=none)
  (T:(V.set l (.loop (BC fn tmps ps assign body D))).le w) {insA:List (Nat×Value)} {outsA:List Nat} {U:KZ} {J:Mem->Prop} (hN:((ps.zip args).foldl (λt (p,v)=>t.setIfInBounds p v) tmps).size=N)
  (x:∀s v,insA.lookup s=some v->((ps.zip args).foldl (λt (p,v)=>t.setIfInBounds p v) tmps).getD s undef=v)
  (hA:AI P N [assign] insA outsA V U) (hB:∀vs V1,U vs V1->AI P N [body] (outsA.zip vs) [] V1 λ_ V2=>J V2):
  RoundIn (Ay none) n P l fn ((ps.zip args).foldl (λt (p,v)=>t.setIfInBounds p v) tmps) assign body w λe w'=>
   e=.returned (.bool true)/\∃V2,J V2/\V2 l=none/\As (V.set l (.loop (BC fn tmps ps assign body D))) w (V2.set l (.loop (BC fn tmps ps assign body D))) w':=by
 have j:w.heap[l]?=some (.loop (BC fn tmps ps assign body D)):=T l _ (Mem.set_same _ _ _);have i:l<w.heap.size:=(yE.1 j).1;have r:V.le w:=λb o y=>by
  have e:b≠l:=λe=>by simp_all
  exact T b o (by rw[Mem.set_ne e];exact y)
 refine roundIn_of_wpIn (F:=Ay none) trivial ?_;have h1:=hA (some l) n {tmps:=(ps.zip args).foldl (λt (p,v)=>t.setIfInBounds p v) tmps,defers:=[]} w r hN x;refine wpIn_mono (show assign.wpIn (Ay (some l)) n P _ _ w from h1) ?_;rintro e a1 X he;cases e with
 |normal=>
  obtain⟨_,hd1,B,vs,V1,C,E,u⟩:=he;have q:X.heap[l]?=some (.loop (BC fn tmps ps assign body D)):=(u.old l i hl).trans j;refine⟨_,run_beginRound q rfl,?_⟩;have a:l<X.heap.size:=(yE.1 q).1;have G:V1 l=none:=by
   cases Z:V1 l with
   |none=>rfl
   |some o=>
    rcases u.dom l (by rw[Z];simp)with h|h
    ·grind
    ·omega
  have K:V1.le (X.putObj l (.loop {BC fn tmps ps assign body D with state:=.busy})):=λb o y=>by
   have e:b≠l:=λe=>by simp_all
   exact(wm e).trans (u.le b o y)
  have h2:=hB vs V1 E (some l) n a1 _ K B C;refine wpIn_mono (show body.wpIn (Ay (some l)) n P _ _ _ from h2) ?_;rintro e a2 M Y;cases e with
  |normal=>
   obtain⟨_,_,_,_,V2,_,hJ,z⟩:=Y;have W:M.heap[l]?=some (.loop {BC fn tmps ps assign body D with state:=.busy}):=(z.old l (by simp_all) G).trans (wj a);have A:l<M.heap.size:=(yE.1 W).1;have I:V2 l=none:=by
    cases Z:V2 l with
    |none=>rfl
    |some o=>
     rcases z.dom l (by rw[Z];simp)with h|h
     ·grind
     grind[wk]
   refine⟨_,_,run_endRound (P:=P) none W,rfl,V2,hJ,I,?_⟩;have z2:=z.size;rw[wk]at z2;have z1:=u.size;refine⟨?_,λb o y=>?_,λb y hn=>?_,λb y=>?_,?_,?_⟩;·rw[wk];omega
   ·by_cases e:b=l
    ·subst e;rw[Mem.set_same]at y;rw[<-y];exact wj A
    ·rw[Mem.set_ne e]at y;exact(wm e).trans (z.le b o y)
   ·have e:b≠l:=λe=>by grind[Mem.set_same]
    rw[Mem.set_ne e]at hn;have S:V1 b=none:=by
     cases Z:V1 b with
     |none=>rfl
     |some o=>
      rcases u.dom b (by rw[Z];simp)with h|h
      ·grind
      ·omega
    refine(wm e).trans ((z.old b (by rw[wk];omega) S).trans ((wm e).trans (u.old b y hn)))
   ·by_cases e:b=l;·grind[Mem.set_same]
    ·rw[Mem.set_ne e]at y⊢;rcases z.dom b y with h|h
     ·rcases u.dom b h with h|h;·exact .inl h
      ·exact .inr h
     grind[inr,wk]
   ·show M.os=w.os;rw[z.os];exact u.os
   ·show M.output=w.output;rw[z.out];exact u.out
  |_=>exact absurd Y.1 (by simp)
 |_=>exact absurd he.1 (by simp)
theorem MU{f:FuncId}{fn:Func}{c:Code}{args:Array Value}{V:Mem}{R:Ending->Mem->Prop}(q:P.funcs[f]?=some fn)(y:fn.body=some c)
  (h:∀w,V.le w->CQ none 0 P (λe u w'=>(e=.normal∨e=.ret)/\∃Ds:List Nat,u.defers=Ds.map (λD=>{target:=.collected D,args:=#[]})/\Ds.Nodup/\∃V',As V w V' w'/\
    (∀D∈Ds,w.heap.size<=D/\w'.heap[D]?=some (.deferred (some []))/\V' D=none)/\∃v,(∀t,V'.le t->(results fn u.tmps).run P t=.ok v t)/\R (.returned v) V')
   (flat c) {tmps:=args++wZ (fn.ntmps-args.size) undef,defers:=[]} w):Tri P f args V R:=by
 intro w a;have key:∀(Ds:List Nat)(u:Act)(V':Mem)(v:Value)(w':World),Ds.Nodup->As V w V' w'->(∀D∈Ds,w.heap.size<=D/\w'.heap[D]?=some (.deferred (some []))/\V' D=none)->
   (∀t,V'.le t->(results fn u.tmps).run P t=.ok v t)->R (.returned v) V'->
   LeavesInM (Ay none) 0 P fn u.tmps (λe w'=>∃V',R e V'/\As V w V' w') (Ds.map λD=>{target:=.collected D,args:=#[]}) .returning w':=by
  intro Ds u V' v;induction Ds with
  |nil=>intro w' _ z _ i l;exact⟨v,i w' z.le,V',l,z⟩
  |cons D Ds J=>
   intro w' x z r i l;obtain⟨G,j,N⟩:=r D (by simp);have Z:=(yE.1 j).1;refine⟨by simp,.inl ⟨D,_,rfl,run_takeDeferred j,J _ (yr.1 x).2 ?_ ?_ i l⟩⟩
   ·refine⟨by grind[wk],λb o y=>?_,λb y Y=>?_,z.dom,z.os,z.out⟩
    ·have e:b≠D:=λe=>by simp_all
     exact(wm e).trans (z.le b o y)
    ·exact(wm (by omega)).trans (z.old b y Y)
   grind[D,yr,wm]
 refine(callsIn_wide (n:=0)).1 (callsIn_of_wp_marks (F:=Ay none) q y trivial (FQ ?_) rfl);refine GX ?_ (h w a);rintro e u w' ⟨W,Ds,A,x,V',z,r,v,i,l⟩;rcases W with rfl|rfl
 ·show LeavesInM _ _ _ _ _ _ u.defers _ _;grind
 ·show LeavesInM _ _ _ _ _ _ u.defers _ _;grind
end
def kid:Code->Nat->Code
 |.block _ b,_=>b
 |.loop b,_=>b
 |.cond _ x y,j=>if j=0 then x else y
 |.rangeFunc _ _ x y,j=>if j=0 then x else y
 |c,_=>c
def AU(c:Code):List Nat->List Code
 |i::j::p=>match(flat c)[i]? with|some d=>AU (kid d j) p|none=>[]
 |_=>flat c
def DF:Code->Array Oper
 |.region _ h _=>h
 |_=>#[]
def Az(f:Func):Code:=f.body.getD .skip
section
variable{P:Program}{fs:List Nat}{H:CJ}
def AS(P:Program)(N:Nat)(ops:Array Oper)(k m:Nat)(t:List (Nat×Value))(h:List Nat)(V:Mem)(R:KZ):Prop:=
 ∀r n a w,V.le w->a.tmps.size=N->(∀s v,t.lookup s=some v->a.tmps.getD s undef=v)->
  wpOpsIn (Ay r) n P ops (λe u w'=>e=.normal/\u.defers=a.defers/\u.tmps.size=N/\∃vs V',(∀s v,(h.zip vs).lookup s=some v->u.tmps.getD s undef=v)/\R vs V'/\As V w V' w') (wi k m) a w
def segOT(P:Program)(fs:List Nat)(H:CJ)(ops:Array Oper)(k m:Nat)(slots:List (Nat×T))(nv:Nat)(h:List Nat):Tr:=
 if(slots.all λx=>x.2.wf nv 0)/\(ops.all λo=>K3 o.op)/\((ops.toList.drop k).take m).length=m then
  GC P fs H ops ((ops.toList.drop k).take m) {slots,boxes:=[],nv,nb:=0,depth:=0} λst=>
   pubT (st.nb+2) st (λst=>(FH st h).map T.tup) λ_ t=>.ret t
 else .bad 61 0
theorem sego_sound(u:Ez P fs){N:Nat}{ops:Array Oper}{k m:Nat}{slots:List (Nat×T)}{nv:Nat}{z:List Nat}{t:Tr}(ht:segOT P fs {H with N:=N} ops k m slots nv z=t)(ρ:List Value)(hn:ρ.length=nv)
  {J:List (Nat×Value)} (G:J=slots.map λx=>(x.1,x.2.ev ρ id)) {V:Mem} {R:KZ} {q:Prop} (hq:q=DT P {} (λe V'=>∃vs:List Value,e=.returned (.tuple vs.toArray)/\R vs V') t [] ρ V) (h:q):
  AS P N ops k m J z V R:=by
 intro r n a w hV hN hs;subst hq G ht;have l:=DZ _ _ _ _ h;unfold segOT at l;split at l;case isFalse=>exact l.elim
 rename_i hw;obtain⟨hwf,hnd,Z⟩:=hw;have e1:(wi k m)=wi k ((ops.toList.drop k).take m).length:=by rw[Z]
 rw[e1];refine OQ (λh=>by obtain⟨_,_,h,_⟩:=h;cases h) (λo ho=>MK (by grind[wz])) _ _ (λj hj=>?_) a w ?_;·simp_all
 refine Js (L:=[]) (ρ0:=ρ) (V0:=V) (w0:=w) (O:=DI) u _ _ a w (λ_ _ _ _ h=>by simp_all) ⟨id,ρ,V,⟨yk _,rfl⟩,?_,l⟩ ?_
 ·exact
   {nv:=hn
    size:=hN
    slots:=λs t A=>by
     have hl:=Iu A;simp_all[MQ,id]
    frm:=As.refl hV
    boxes:=λi cs ty E=>by simp[St.box]at E
    hid:=λb o hb=>by cases hb
    inj:=λi j E _ _=>by grind}
 ·intro st' a' w' hd A;obtain⟨st2,t2,Y,I,β,M,V2,hp,X,l⟩:=ER _ _ _ _ A;simp only[zy]at Y;obtain⟨x,K,rfl⟩:=Y;simp only[D]at l;obtain⟨vs,h1,h2⟩:=l;simp only[T.ev,wu,wq]at h1;have B:T.evs M id x=vs:=by simp_all
  refine⟨rfl,hd,X.size,vs,V2,λs v W=>?_,h2,X.frm⟩;rw[<-B,DR]at W;obtain⟨t,g1,g2,S⟩:=MP W;obtain⟨y,U,g5⟩:=Ko K s S;have C:=Kn K s S;rw[g1,U]at C;simp only[zG]at C;subst C;rw[X.slots s t U,<-g2];grind[Kp,T.firstBox,T.ev_free]
theorem wpOpIn_monoQ{F:Fence}{n:Nat}{ops:Array Oper}{Q u:Exit->Act->World->Prop}(q:∀c a w,u (.panic c) a w->Q (.panic c) a w)(b:LetsOut u->LetsOut Q){i:Nat}{a:Act}{w:World}{K y:Act->World->Prop}(h:∀a w,K a w->y a w)
  (t:wpOpIn F n P ops u i K a w):wpOpIn F n P ops Q i y a w:=by
 unfold wpOpIn at*
 split;·simp_all
 ·rename_i o z;simp only[z]at t;split
  ·rename_i hw;simp only[hw,if_true]at t;unfold Oper.wpIn at*
   refine⟨t.1,?_⟩;have t:=t.2;generalize(o.semAt F.round a.eval).run P w=r at*
   cases r with
   |ok x w'=>
    cases x<;>simp only[Oper.uponIn]at t⊢<;>
     first
      |exact h _ _ t
      |exact⟨t.1,CallsIn.mono t.2 (λe l j=>by grind)⟩
      |exact⟨t.1,RowsIn.mono t.2 (λ_ _ j=>h _ _ j)⟩
      |grind[RoundIn.mono]
   |halt x w'=>cases x<;>simp only[Oper.uponIn]at t⊢<;>first|grind|exact t
  simp_all
theorem Rg{F:Fence}{n:Nat}{ops:Array Oper}{Q u:Exit->Act->World->Prop}(x:∀c a w,u (.panic c) a w->Q (.panic c) a w)(j:LetsOut u->LetsOut Q){z:List Nat}(y:∀a w,u .normal a w->wpOpsIn F n P ops Q z a w):∀{t:List Nat}{a:Act}{w:World},
  wpOpsIn F n P ops u t a w->wpOpsIn F n P ops Q (t++z) a w:=by
 intro t;induction t with
 |nil=>exact λh=>y _ _ h
 |cons i t l=>
  grind[wpOpsIn_cons,wpOpIn_monoQ]
end
end Go.Sx
namespace Go.Proofs
open Go Go.Sx
set_option maxRecDepth 100000
section
variable{V:Mem}{R:RP}
theorem Cm{H:CJ}{N:Nat}{cs:List Code}(slots:List (Nat×T)){t:List Nat}(ρ:List Value){u:List (Nat×Value)}(w:u=slots.map λx=>(x.1,x.2.ev ρ id)){V:Mem}{R:KZ}{q:Prop}
  (z:q=DT xS {} (OV R) (segT xS fs {H with N:=N} cs slots ρ.length t) [] ρ V) (h:q):AI xS N cs u t V R:=
 seg_sound (H:=H) KA Mg rfl ρ rfl w z h
theorem Bl{H:CJ}{N:Nat}{ops:Array Oper}{k m:Nat}(slots:List (Nat×T)){t:List Nat}(ρ:List Value){u:List (Nat×Value)}(w:u=slots.map λx=>(x.1,x.2.ev ρ id)){V:Mem}{R:KZ}{q:Prop}
  (z:q=DT xS {} (OV R) (segOT xS fs {H with N:=N} ops k m slots ρ.length t) [] ρ V) (h:q):AS xS N ops k m u t V R:=
 sego_sound (H:=H) KA rfl ρ rfl w z h
noncomputable def c281a:List Code:=((AU (Az wh) []).drop 0).take 1
def w281a(a:Value)(b:Option Addr):MR:=λV R=>∃c,V.rowp b ((0:Int).toNat*1) 1=some [uL c]/\IR ((c.n:Int)-1)/\R (rT #[K.cast .f a,uP b,uI ((c.n:Int)-1)]) V
theorem s281a{a:Value}{b:Option Addr}{V:Mem}{R:KZ}(h:w281a a b V (OV R)):AI xS 19 c281a [(0,K.cast .f a),(1,uP b)] [0,1,3] V R:=
 Cm (H:=hK 19) [(0,(.var .f 0)),(1,(.var .p 1))] [a,uP b] rfl (by kernel_rfl) h
noncomputable def c281b:List Code:=((AU (Az wh) [1,0,0,0]).drop 0).take 1
def w281b(a:Value)(b:Option Addr)(c:Int):MR:=λV R=>R (rT #[K.cast .f a,uP b,uI c,uB (decide (0<=c))]) V
theorem s281b{a:Value}{b:Option Addr}{c:Int}{V:Mem}{R:KZ}(h:w281b a b c V (OV R)):AI xS 19 c281b [(0,K.cast .f a),(1,uP b),(3,uI c)] [0,1,3,8] V R:=
 Cm (H:=hK 19) [(0,(.var .f 0)),(1,(.var .p 1)),(3,(.var (.i .i64) 2))] [a,uP b,uI c] rfl (by kernel_rfl) h
noncomputable def c281c:Array Oper:=DF ((AU (Az wh) [1,0,0,0,2,0]).getD 0 .skip)
def w281c(a:Value)(b:Option Addr)(c:Int):MR:=λV R=>∃d,V.rowp b ((0:Int).toNat*1) 1=some [uL d]/\Ix d c (∃g i,V.rowp d.p (c.toNat*2) 2=some [uS g,uS i]/\R (rT #[K.cast .f a,uP b,uI c,K.cast .f a,uI c,uA #[uS g,uS i]]) V)
theorem s281c{a:Value}{b:Option Addr}{c:Int}{V:Mem}{R:KZ}(h:w281c a b c V (OV R)):AS xS 19 c281c 0 6 [(0,K.cast .f a),(1,uP b),(3,uI c)] [0,1,3,11,12,16] V R:=
 Bl (H:=hK 19) [(0,(.var .f 0)),(1,(.var .p 1)),(3,(.var (.i .i64) 2))] [a,uP b,uI c] rfl (by kernel_rfl) h
noncomputable def c281d:Array Oper:=DF ((AU (Az wh) [1,0,0,0,2,0]).getD 0 .skip)
def w281d(a:Value)(b:Option Addr)(c:Int)(d:Bool):MR:=λV R=>R (rT #[K.cast .f a,uP b,uI c,uB (!d)]) V
theorem s281d{a:Value}{b:Option Addr}{c:Int}{d:Bool}{V:Mem}{R:KZ}(h:w281d a b c d V (OV R)):AS xS 19 c281d 7 1 [(0,K.cast .f a),(1,uP b),(3,uI c),(17,uB d)] [0,1,3,18] V R:=
 Bl (H:=hK 19) [(0,(.var .f 0)),(1,(.var .p 1)),(3,(.var (.i .i64) 2)),(17,(.var .b 3))] [a,uP b,uI c,uB d] rfl (by kernel_rfl) h
noncomputable def c281e:List Code:=((AU (Az wh) [1,0,0,0]).drop 3).take 1
def w281e(a:Value)(b:Option Addr)(c:Int):MR:=λV R=>IR (c-1)/\R (rT #[K.cast .f a,uP b,uI (c-1)]) V
theorem s281e{a:Value}{b:Option Addr}{c:Int}{V:Mem}{R:KZ}(h:w281e a b c V (OV R)):AI xS 19 c281e [(0,K.cast .f a),(1,uP b),(3,uI c)] [0,1,3] V R:=
 Cm (H:=hK 19) [(0,(.var .f 0)),(1,(.var .p 1)),(3,(.var (.i .i64) 2))] [a,uP b,uI c] rfl (by kernel_rfl) h
noncomputable def c154a:List Code:=((AU (Az we) []).drop 0).take 1
def w154a(a:Value)(b:Option Addr):MR:=λV R=>∃c,V.rowp b ((0:Int).toNat*1) 1=some [uL c]/\IR ((c.n:Int)-1)/\R (rT #[K.cast .f a,uP b,uI ((c.n:Int)-1)]) V
theorem s154a{a:Value}{b:Option Addr}{V:Mem}{R:KZ}(h:w154a a b V (OV R)):AI xS 19 c154a [(0,K.cast .f a),(1,uP b)] [0,1,3] V R:=
 Cm (H:=hK 19) [(0,(.var .f 0)),(1,(.var .p 1))] [a,uP b] rfl (by kernel_rfl) h
noncomputable def c154b:List Code:=((AU (Az we) [1,0,0,0]).drop 0).take 1
def w154b(a:Value)(b:Option Addr)(c:Int):MR:=λV R=>R (rT #[K.cast .f a,uP b,uI c,uB (decide (0<=c))]) V
theorem s154b{a:Value}{b:Option Addr}{c:Int}{V:Mem}{R:KZ}(h:w154b a b c V (OV R)):AI xS 19 c154b [(0,K.cast .f a),(1,uP b),(3,uI c)] [0,1,3,8] V R:=
 Cm (H:=hK 19) [(0,(.var .f 0)),(1,(.var .p 1)),(3,(.var (.i .i64) 2))] [a,uP b,uI c] rfl (by kernel_rfl) h
noncomputable def c154c:Array Oper:=DF ((AU (Az we) [1,0,0,0,2,0]).getD 0 .skip)
def w154c(a:Value)(b:Option Addr)(c:Int):MR:=λV R=>∃d,V.rowp b ((0:Int).toNat*1) 1=some [uL d]/\Ix d c (∃g i,V.rowp d.p (c.toNat*2) 2=some [uS g,uL i]/\R (rT #[K.cast .f a,uP b,uI c,K.cast .f a,uI c,uA #[uS g,uL i]]) V)
theorem s154c{a:Value}{b:Option Addr}{c:Int}{V:Mem}{R:KZ}(h:w154c a b c V (OV R)):AS xS 19 c154c 0 6 [(0,K.cast .f a),(1,uP b),(3,uI c)] [0,1,3,11,12,16] V R:=
 Bl (H:=hK 19) [(0,(.var .f 0)),(1,(.var .p 1)),(3,(.var (.i .i64) 2))] [a,uP b,uI c] rfl (by kernel_rfl) h
noncomputable def c154d:Array Oper:=DF ((AU (Az we) [1,0,0,0,2,0]).getD 0 .skip)
def w154d(a:Value)(b:Option Addr)(c:Int)(d:Bool):MR:=λV R=>R (rT #[K.cast .f a,uP b,uI c,uB (!d)]) V
theorem s154d{a:Value}{b:Option Addr}{c:Int}{d:Bool}{V:Mem}{R:KZ}(h:w154d a b c d V (OV R)):AS xS 19 c154d 7 1 [(0,K.cast .f a),(1,uP b),(3,uI c),(17,uB d)] [0,1,3,18] V R:=
 Bl (H:=hK 19) [(0,(.var .f 0)),(1,(.var .p 1)),(3,(.var (.i .i64) 2)),(17,(.var .b 3))] [a,uP b,uI c,uB d] rfl (by kernel_rfl) h
noncomputable def c154e:List Code:=((AU (Az we) [1,0,0,0]).drop 3).take 1
def w154e(a:Value)(b:Option Addr)(c:Int):MR:=λV R=>IR (c-1)/\R (rT #[K.cast .f a,uP b,uI (c-1)]) V
theorem s154e{a:Value}{b:Option Addr}{c:Int}{V:Mem}{R:KZ}(h:w154e a b c V (OV R)):AI xS 19 c154e [(0,K.cast .f a),(1,uP b),(3,uI c)] [0,1,3] V R:=
 Cm (H:=hK 19) [(0,(.var .f 0)),(1,(.var .p 1)),(3,(.var (.i .i64) 2))] [a,uP b,uI c] rfl (by kernel_rfl) h
noncomputable def c155a:List Code:=((AU (Az wc) []).drop 0).take 1
def w155a(a:Value)(b:Option Addr):MR:=λV R=>∃c,V.rowp b ((0:Int).toNat*1) 1=some [uL c]/\IR ((c.n:Int)-1)/\R (rT #[K.cast .f a,uP b,uI ((c.n:Int)-1)]) V
theorem s155a{a:Value}{b:Option Addr}{V:Mem}{R:KZ}(h:w155a a b V (OV R)):AI xS 19 c155a [(0,K.cast .f a),(1,uP b)] [0,1,3] V R:=
 Cm (H:=hK 19) [(0,(.var .f 0)),(1,(.var .p 1))] [a,uP b] rfl (by kernel_rfl) h
noncomputable def c155b:List Code:=((AU (Az wc) [1,0,0,0]).drop 0).take 1
def w155b(a:Value)(b:Option Addr)(c:Int):MR:=λV R=>R (rT #[K.cast .f a,uP b,uI c,uB (decide (0<=c))]) V
theorem s155b{a:Value}{b:Option Addr}{c:Int}{V:Mem}{R:KZ}(h:w155b a b c V (OV R)):AI xS 19 c155b [(0,K.cast .f a),(1,uP b),(3,uI c)] [0,1,3,8] V R:=
 Cm (H:=hK 19) [(0,(.var .f 0)),(1,(.var .p 1)),(3,(.var (.i .i64) 2))] [a,uP b,uI c] rfl (by kernel_rfl) h
noncomputable def c155c:Array Oper:=DF ((AU (Az wc) [1,0,0,0,2,0]).getD 0 .skip)
def w155c(a:Value)(b:Option Addr)(c:Int):MR:=λV R=>∃d,V.rowp b ((0:Int).toNat*1) 1=some [uL d]/\Ix d c (∃g i j k l,V.rowp d.p (c.toNat*5) 5=some [uS g,uL i,uS j,uL k,uL l]/\R (rT #[K.cast .f a,uP b,uI c,K.cast .f a,uI c,uA #[uS g,uL i,uS j,uL k,uL l]]) V)
theorem s155c{a:Value}{b:Option Addr}{c:Int}{V:Mem}{R:KZ}(h:w155c a b c V (OV R)):AS xS 19 c155c 0 6 [(0,K.cast .f a),(1,uP b),(3,uI c)] [0,1,3,11,12,16] V R:=
 Bl (H:=hK 19) [(0,(.var .f 0)),(1,(.var .p 1)),(3,(.var (.i .i64) 2))] [a,uP b,uI c] rfl (by kernel_rfl) h
noncomputable def c155d:Array Oper:=DF ((AU (Az wc) [1,0,0,0,2,0]).getD 0 .skip)
def w155d(a:Value)(b:Option Addr)(c:Int)(d:Bool):MR:=λV R=>R (rT #[K.cast .f a,uP b,uI c,uB (!d)]) V
theorem s155d{a:Value}{b:Option Addr}{c:Int}{d:Bool}{V:Mem}{R:KZ}(h:w155d a b c d V (OV R)):AS xS 19 c155d 7 1 [(0,K.cast .f a),(1,uP b),(3,uI c),(17,uB d)] [0,1,3,18] V R:=
 Bl (H:=hK 19) [(0,(.var .f 0)),(1,(.var .p 1)),(3,(.var (.i .i64) 2)),(17,(.var .b 3))] [a,uP b,uI c,uB d] rfl (by kernel_rfl) h
noncomputable def c155e:List Code:=((AU (Az wc) [1,0,0,0]).drop 3).take 1
def w155e(a:Value)(b:Option Addr)(c:Int):MR:=λV R=>IR (c-1)/\R (rT #[K.cast .f a,uP b,uI (c-1)]) V
theorem s155e{a:Value}{b:Option Addr}{c:Int}{V:Mem}{R:KZ}(h:w155e a b c V (OV R)):AI xS 19 c155e [(0,K.cast .f a),(1,uP b),(3,uI c)] [0,1,3] V R:=
 Cm (H:=hK 19) [(0,(.var .f 0)),(1,(.var .p 1)),(3,(.var (.i .i64) 2))] [a,uP b,uI c] rfl (by kernel_rfl) h
noncomputable def c214a:List Code:=((AU (Az wb) []).drop 0).take 3
def w214a(a:Option Addr)(b:Bool)(c:Sl):MR:=λV R=>GenK xS (.makeMap 276 none) 276 (gv []) V λx V1=>∃d,x=uM d/\N2 a (¬(Aa a 0)=none/\∃g,V1.rowp a 2 1=some [uL g]/\TT 255 #[uL g] V1 λe V2=>∃i,K.f.ok i/\e=rV i/\Ag [uP none,uM none,uB false] 278 V2 λj h=>Ag [uP a,uM d,uB b] 278 h λk t=>R (rT #[uP a,uB b,uL c,uP (Aa j 0),uP (Aa k 0),K.cast .f i]) t)
theorem s214a{a:Option Addr}{b:Bool}{c:Sl}{V:Mem}{R:KZ}(h:w214a a b c V (OV R)):AI xS 63 c214a [(0,uP a),(1,uB b),(2,uL c)] [0,1,2,6,7,24] V R:=
 Cm (H:=hK 63) [(0,(.var .p 0)),(1,(.var .b 1)),(2,(.var .sl 2))] [uP a,uB b,uL c] rfl (by kernel_rfl) h
noncomputable def c214b:List Code:=((AU (Az wb) [3,0,0,0]).drop 0).take 1
def w214b(a:Option Addr)(b c:KB):MR:=λV R=>Ag [uS b,uS c] 138 V λd V1=>R (rT #[uP a,uP (Aa d 0)]) V1
theorem s214b{a:Option Addr}{b c:KB}{V:Mem}{R:KZ}(h:w214b a b c V (OV R)):AI xS 63 c214b [(7,uP a),(26,uA #[uS b,uS c])] [7,9] V R:=
 Cm (H:=hK 63) [(7,(.var .p 0)),(26,(.agg (.cons (.var .s 1) (.cons (.var .s 2) .nil))))] [uP a,uS b,uS c] rfl (by kernel_rfl) h
noncomputable def c214c:List Code:=((AU (Az wb) [3,0,0,1]).drop 0).take 1
def w214c(a b:Option Addr):MR:=λV R=>¬a=none/\∃c,V.rowp a 1 1=some [uM c]/\¬b=none/\∃d,V.rowp b ((0:Int).toNat*1) 1=some [uS d]/\¬b=none/\∃g,V.rowp b 1 1=some [uS g]/\Cr xS 276 (uM c) (uS d) (uS g) V λV1=>R (rT #[]) V1
theorem s214c{a b:Option Addr}{V:Mem}{R:KZ}(h:w214c a b V (OV R)):AI xS 63 c214c [(7,uP a),(9,uP b)] [] V R:=
 Cm (H:=hK 63) [(7,(.var .p 0)),(9,(.var .p 1))] [uP a,uP b] rfl (by kernel_rfl) h
noncomputable def c214d:List Code:=((AU (Az wb) []).drop 4).take 4
def w214d(a:Option Addr)(b:Bool)(c:Sl)(d g:Option Addr):MR:=λV R=>GenK xS (.makeMap 351 none) 351 (gv []) V λx V1=>∃i,x=uM i/\Lp [uI 0] V1 λI n V2=>∀j,I n [uI j] V2->∀u:LMP,Nx I n u->Br (j<(c.n:Int)) (Ix c j (∃k,V2.rowp c.p (j.toNat*1) 1=some [uL k]/\Lp [uI 0] V2 λI n h=>∀l,I n [uI l] h->∀t:LMP,Nx I n t->Br (l<(k.n:Int)) (Ix k l (∃o p,h.rowp k.p (l.toNat*2) 2=some [uS o,uS p]/\Cd xS 351 (uM i) (uS o) false h λx=>∃q,x=uB q/\Br (q=true) (IR (l+1)/\t [uI (l+1)] h) (¬g=none/\∃r,h.rowp g 1 1=some [uM r]/\Cr xS 276 (uM r) (uS o) (uS p) h λw=>Cr xS 351 (uM i) (uS o) (.bool true) w λz=>IR (l+1)/\t [uI (l+1)] z))) (IR (j+1)/\u [uI (j+1)] h))) (∃k l o,V2.rowp g ((0:Int).toNat*1) 3=some [uP k,uM l,uB o]/\Ak d 0 [uP k,uM l,uB o] V2 λh=>R (rT #[uP d]) h)
theorem s214d{a:Option Addr}{b:Bool}{c:Sl}{d g:Option Addr}{V:Mem}{R:KZ}(h:w214d a b c d g V (OV R)):AI xS 63 c214d [(0,uP a),(1,uB b),(2,uL c),(6,uP d),(7,uP g)] [6] V R:=
 Cm (H:=hK 63) [(0,(.var .p 0)),(1,(.var .b 1)),(2,(.var .sl 2)),(6,(.var .p 3)),(7,(.var .p 4))] [uP a,uB b,uL c,uP d,uP g] rfl (by kernel_rfl) h
noncomputable def c80a:List Code:=((AU (Az wa) []).drop 0).take 3
def w80a(a:KB)(b c d g i j k:Sl):MR:=λV R=>GenK xS (.makeMap 231 none) 231 (gv []) V λx V1=>∃l,x=uM l/\GenK xS (.makeMap 232 none) 232 (gv []) V1 λx V2=>∃o,x=uM o/\TT 117 #[uL b] V2 λe h=>∃p,K.f.ok p/\e=rV p/\Ag [uS a,uL b,uL c,uL d,uL g,uL i,uL j,uL k] 30 h λq t=>Ag [uS a,uL b,uL c,uL d,uL g,uL i,uL j,uL k,uM l,uM o] 234 t λr u=>Ag [uP (Aa r 0)] 183 u λs w=>R (rT #[uP (Aa q 0),uP (Aa s 0),K.cast .f p]) w
theorem s80a{a:KB}{b c d g i j k:Sl}{V:Mem}{R:KZ}(h:w80a a b c d g i j k V (OV R)):AI xS 38 c80a [(0,uD a b c d g i j k)] [1,3,15] V R:=
 Cm (H:=hK 38) [(0,(.agg (.cons (.var .s 0) (.cons (.var .sl 1) (.cons (.var .sl 2) (.cons (.var .sl 3) (.cons (.var .sl 4) (.cons (.var .sl 5) (.cons (.var .sl 6) (.cons (.var .sl 7) .nil))))))))))] [uS a,uL b,uL c,uL d,uL g,uL i,uL j,uL k] rfl (by kernel_rfl) h
noncomputable def c80b:List Code:=((AU (Az wa) [3,0,0,0]).drop 0).take 1
def w80b(a:Option Addr)(b:KB)(c:Sl):MR:=λV R=>Ag [uS b,uL c] 140 V λd V1=>R (rT #[uP a,uP (Aa d 0)]) V1
theorem s80b{a:Option Addr}{b:KB}{c:Sl}{V:Mem}{R:KZ}(h:w80b a b c V (OV R)):AI xS 38 c80b [(3,uP a),(17,uA #[uS b,uL c])] [3,5] V R:=
 Cm (H:=hK 38) [(3,(.var .p 0)),(17,(.agg (.cons (.var .s 1) (.cons (.var .sl 2) .nil))))] [uP a,uS b,uL c] rfl (by kernel_rfl) h
noncomputable def c80c:List Code:=((AU (Az wa) [3,0,0,1]).drop 0).take 1
def w80c(a b:Option Addr):MR:=λV R=>∃c,V.rowp a ((0:Int).toNat*1) 1=some [uP c]/\N2 c (∃d,V.rowp c 8 1=some [uM d]/\¬b=none/\∃g,V.rowp b ((0:Int).toNat*1) 1=some [uS g]/\∃i j,V.rowp b ((0:Int).toNat*1) 2=some [uS i,uL j]/\Cr xS 231 (uM d) (uS g) (uA #[uS i,uL j]) V λV1=>R (rT #[]) V1)
theorem s80c{a b:Option Addr}{V:Mem}{R:KZ}(h:w80c a b V (OV R)):AI xS 38 c80c [(3,uP a),(5,uP b)] [] V R:=
 Cm (H:=hK 38) [(3,(.var .p 0)),(5,(.var .p 1))] [uP a,uP b] rfl (by kernel_rfl) h
noncomputable def c80d:List Code:=((AU (Az wa) []).drop 4).take 1
def w80d(a b:Option Addr):MR:=λV R=>¬a=none/\∃c,V.rowp a 3 1=some [uL c]/\TT 118 #[uL c] V λe V1=>∃d,K.f.ok d/\e=rV d/\R (rT #[uP b,K.cast .f d]) V1
theorem s80d{a b:Option Addr}{V:Mem}{R:KZ}(h:w80d a b V (OV R)):AI xS 38 c80d [(1,uP a),(3,uP b)] [3,27] V R:=
 Cm (H:=hK 38) [(1,(.var .p 0)),(3,(.var .p 1))] [uP a,uP b] rfl (by kernel_rfl) h
noncomputable def c80e:List Code:=((AU (Az wa) [5,0,0,0]).drop 0).take 1
def w80e(a:Option Addr)(b:KB)(c:Sl)(d:KB)(g i:Sl):MR:=λV R=>Ag [uS b,uL c,uS d,uL g,uL i] 142 V λj V1=>R (rT #[uP a,uP (Aa j 0)]) V1
theorem s80e{a:Option Addr}{b:KB}{c:Sl}{d:KB}{g i:Sl}{V:Mem}{R:KZ}(h:w80e a b c d g i V (OV R)):AI xS 38 c80e [(3,uP a),(29,uA #[uS b,uL c,uS d,uL g,uL i])] [3,7] V R:=
 Cm (H:=hK 38) [(3,(.var .p 0)),(29,(.agg (.cons (.var .s 1) (.cons (.var .sl 2) (.cons (.var .s 3) (.cons (.var .sl 4) (.cons (.var .sl 5) .nil)))))))] [uP a,uS b,uL c,uS d,uL g,uL i] rfl (by kernel_rfl) h
noncomputable def c80f:List Code:=((AU (Az wa) [5,0,0,1]).drop 0).take 1
def w80f(a b:Option Addr):MR:=λV R=>∃c,V.rowp a ((0:Int).toNat*1) 1=some [uP c]/\N2 c (∃d,V.rowp c 9 1=some [uM d]/\¬b=none/\∃g,V.rowp b ((0:Int).toNat*1) 1=some [uS g]/\∃i j k l o,V.rowp b ((0:Int).toNat*1) 5=some [uS i,uL j,uS k,uL l,uL o]/\Cr xS 232 (uM d) (uS g) (uA #[uS i,uL j,uS k,uL l,uL o]) V λV1=>R (rT #[]) V1)
theorem s80f{a b:Option Addr}{V:Mem}{R:KZ}(h:w80f a b V (OV R)):AI xS 38 c80f [(3,uP a),(7,uP b)] [] V R:=
 Cm (H:=hK 38) [(3,(.var .p 0)),(7,(.var .p 1))] [uP a,uP b] rfl (by kernel_rfl) h
noncomputable def c80g:List Code:=((AU (Az wa) []).drop 6).take 1
def w80g(a:Option Addr):MR:=λV R=>∃b,V.rowp a ((0:Int).toNat*1) 1=some [uP b]/\R (rT #[uP b]) V
theorem s80g{a:Option Addr}{V:Mem}{R:KZ}(h:w80g a V (OV R)):AI xS 38 c80g [(3,uP a)] [2] V R:=
 Cm (H:=hK 38) [(3,(.var .p 0))] [uP a] rfl (by kernel_rfl) h
end
end Go.Proofs
namespace Go.Sx
open Go
section
variable{P:Program}
def Has(N:Nat)(a:Act)(l:List (Nat×Value)):Prop:=a.tmps.size=N/\∀s v,l.lookup s=some v->a.tmps.getD s undef=v
theorem AI.step{r:Option Nat}{n N:Nat}{Q:Exit->Act->World->Prop}{cs rest:List Code}{u:List (Nat×Value)}{t:List Nat}{V:Mem}{R:KZ}{a:Act}{w:World}(h:AI P N cs u t V R)(x:V.le w)(y:Has N a u)
  (k:∀z w' vs V',z.defers=a.defers->Has N z (t.zip vs)->R vs V'->As V w V' w'->CQ r n P Q rest z w'):CQ r n P Q (cs++rest) a w:=by
 refine OR (GX ?_ (h r n a w x y.1 y.2));rintro e z w' ⟨rfl,h1,h2,vs,V',h3,h4,j⟩;exact k z w' vs V' h1 ⟨h2,h3⟩ h4 j
theorem AS.step{r:Option Nat}{n N k m:Nat}{Q:Exit->Act->World->Prop}{ops:Array Oper}{rest:List Nat}{u:List (Nat×Value)}{t:List Nat}{V:Mem}{R:KZ}{a:Act}{w:World}(h:AS P N ops k m u t V R)(j:V.le w)(x:Has N a u)
  (i:∀z w' vs V',z.defers=a.defers->Has N z (t.zip vs)->R vs V'->As V w V' w'->wpOpsIn (Ay r) n P ops Q rest z w'):wpOpsIn (Ay r) n P ops Q (wi k m++rest) a w:=by
 refine Rg (λc a w y=>by cases y.1) (λ⟨_,_,y⟩=>by cases y.1) ?_ (h r n a w j x.1 x.2);rintro z w' ⟨_,h1,h2,vs,V',h3,h4,l⟩;exact i z w' vs V' h1 ⟨h2,h3⟩ h4 l
theorem yield_op{ops:Array Oper}{i:Nat}{o:Oper}{c:Call}{fv:Operand}{l:Nat}{u:Loop}{args:Array Value}{rest:List Nat}{Q:Exit->Act->World->Prop}{a:Act}{w:World}(j:ops[i]?=some o)(r:o.guard=none)(x:o.op=.call c)(q:c.callee=.value fv)
  (b:a.eval fv=.func (.yield l) #[] #[]) (z:c.args.map a.eval=args) (G:w.heap[l]?=some (.loop u)) (N:args.size=u.params.size)
  (J:RoundIn (Ay none) 0 P l u.fn ((u.params.zip args).foldl (λt (p,v)=>t.setIfInBounds p v) u.tmps) u.assign u.body w λe w'=>∃v,e=.returned v/\wpOpsIn (Ay none) 0 P ops Q rest (a.put o.dst v) w'):
  wpOpsIn (Ay none) 0 P ops Q (i::rest) a w:=by
 rw[wpOpsIn_cons];unfold wpOpIn;simp only[j];rw[if_pos (by simp[Region.wanted,r])];refine⟨λ_ _=>trivial,?_⟩;rw[Oper.semAt_eq _ _ _ (λd=>by simp_all)];have y:(execOp a.eval o).run P w=.ok (.round l u.fn ((u.params.zip args).foldl (λt (p,v)=>t.setIfInBounds p v) u.tmps) u.assign u.body) w:=by
  unfold execOp;simp only[x,resolve,q,b,z,Deferred.ofValue,zN,zP,zO,invoke];grind[run_yield]
 rw[y];refine⟨λh=>by simp[Ay,Fence.wide]at h,J.mono ?_⟩;simp_all
theorem Has.get{N:Nat}{a:Act}{l:List (Nat×Value)}(h:Has N a l){s:Nat}{v:Value}(t:l.lookup s=some v):a.tmps.getD s undef=v:=h.2 s v t
theorem MV{f:FuncId}{fn:Func}{c L B:Code}{b0 b1 id:Nat}{cA cB cE:List Code}{ops:Array Oper}{o6:Oper}{at6:Array TypeId}{fn':FuncId}{tmps:Array Value}{ps:Array Tmp}{assign body:Code}{D:Nat}{l:Nat}{box:Option Addr}{n:Nat}{el:Nat->Value}{J:Nat->Mem->Prop}{Bk:Mem->Prop}{V:Mem}
  (hf:P.funcs[f]?=some fn) (hb:fn.body=some c) (e1:flat c=cA++[.block b0 (.loop L)]) (e2:flat L=cB++([.cond (.tmp 8) .skip (.exit b0),.block b1 B]++cE)) (e3:flat B=[.region id ops false,.cond (.tmp 18) .ret .skip])
  (ho:ops[6]?=some o6) (T:o6.guard=none) (U:o6.op=.call {callee:=.value (.tmp 11),args:=#[.tmp 12,.tmp 16],argTypes:=at6}) (W:o6.dst=some 17) (hsz:ops.size=8) (A:fn.results=#[]) (hN:fn.ntmps=19) (hps:ps.size=2)
  (hA:∀M,Bk M->AI P 19 cA [(0,.func (.yield l) #[] #[]),(1,.pointer box)] [0,1,3] M λvs V'=>V'=M/\vs=[.func (.yield l) #[] #[],.pointer box,.int .i64 ((n:Int)-1)])
  (hB:∀M (j:Int),AI P 19 cB [(0,.func (.yield l) #[] #[]),(1,.pointer box),(3,.int .i64 j)] [0,1,3,8] M λvs V'=>V'=M/\vs=[.func (.yield l) #[] #[],.pointer box,.int .i64 j,.bool (decide (0<=j))])
  (hC:∀M (k:Nat),Bk M->k<n->AS P 19 ops 0 6 [(0,.func (.yield l) #[] #[]),(1,.pointer box),(3,.int .i64 k)] [0,1,3,11,12,16] M λvs V'=>V'=M/\vs=[.func (.yield l) #[] #[],.pointer box,.int .i64 k,.func (.yield l) #[] #[],.int .i64 k,el k])
  (hD:∀M (j:Int) (b:Bool),AS P 19 ops 7 1 [(0,.func (.yield l) #[] #[]),(1,.pointer box),(3,.int .i64 j),(17,.bool b)] [0,1,3,18] M λvs V'=>V'=M/\vs=[.func (.yield l) #[] #[],.pointer box,.int .i64 j,.bool (!b)])
  (hE:∀M (j:Int),Bk M->0<=j->j<n->AI P 19 cE [(0,.func (.yield l) #[] #[]),(1,.pointer box),(3,.int .i64 j)] [0,1,3] M λvs V'=>V'=M/\vs=[.func (.yield l) #[] #[],.pointer box,.int .i64 (j-1)])
  (hJ:∀i V2,J i V2->V2 l=none->Bk (V2.set l (.loop (BC fn' tmps ps assign body D))))
  (y:∀k,k<n->∀V2,J (n-1-k) V2->V2 l=none->∀w,(V2.set l (.loop (BC fn' tmps ps assign body D))).le w->
   RoundIn (Ay none) 0 P l fn' ((ps.zip #[.int .i64 k,el k]).foldl (λt (p,v)=>t.setIfInBounds p v) tmps) assign body w λe w'=>
    e=.returned (.bool true)/\∃S,J (n-k) S/\S l=none/\As (V2.set l (.loop (BC fn' tmps ps assign body D))) w (S.set l (.loop (BC fn' tmps ps assign body D))) w')
  (h0:J 0 V) (hl:V l=none):
  Tri P f #[.func (.yield l) #[] #[],.pointer box] (V.set l (.loop (BC fn' tmps ps assign body D))) λe V'=>(∃v,e=.returned v)/\∃V2,V'=V2.set l (.loop (BC fn' tmps ps assign body D))/\V2 l=none/\J n V2:=by
 intro w hV;refine(callsIn_wide (n:=0)).1 (callsIn_of_wp (F:=Ay none) hf hb trivial (FQ ?_) rfl);rw[e1];have hH0:Has 19 {tmps:=#[.func (.yield l) #[] #[],.pointer box]++wZ (fn.ntmps-(#[Value.func (.yield l) #[] #[],.pointer box]).size) undef,defers:=[]} [(0,.func (.yield l) #[] #[]),(1,.pointer box)]:=by
  constructor;·simp[hN]
  ·intro s v h;simp only[z7]at h;split at h;·simp_all
   ·split at h;·simp_all
    ·cases h
 refine(hA _ (hJ 0 V h0 hl)).step hV hH0 ?_;rintro a1 w1 vs V1 hd1 hH1 ⟨rfl,rfl⟩ hF1;refine wpIn_block ?_;refine ML (λm a w'=>∃(i:Nat)(V2:Mem),i<=n/\m=n-i/\J i V2/\V2 l=none/\a.defers=[]/\Has 19 a [(0,.func (.yield l) #[] #[]),(1,.pointer box),(3,.int .i64 ((n:Int)-1-i))]/\
  As (V.set l (.loop (BC fn' tmps ps assign body D))) w (V2.set l (.loop (BC fn' tmps ps assign body D))) w') ⟨n,0,V,by omega,rfl,h0,hl,hd1,by simpa using hH1,hF1⟩ ?_
 rintro m a2 w2 ⟨i,V2,hi,rfl,I,x,hd2,hH2,r⟩;refine FQ ?_;rw[e2];refine(hB _ _).step r.le hH2 ?_;rintro a3 w3 vs S hd3 q ⟨rfl,rfl⟩ o;have z:a3.eval (.tmp 8)=.bool (decide (0<=(n:Int)-1-i)):=q.get rfl;show wx (Ay none) 0 P _ _ a3 w3;by_cases hlt:i<n
 ·have G:decide (0<=(n:Int)-1-i)=true:=by simp;omega
  rw[G]at z;refine wpIn_cond_true z (wpIn_skip ?_);show wx (Ay none) 0 P _ _ a3 w3;refine wpIn_block (FQ ?_);rw[e3];have hk:((n:Int)-1-i)=((n-1-i:Nat):Int):=by omega
  have X:Has 19 a3 [(0,.func (.yield l) #[] #[]),(1,.pointer box),(3,.int .i64 ((n-1-i:Nat):Int))]:=⟨q.1,λs v h=>q.2 s v (by
   grind[wv])⟩
  refine wpIn_region ?_;rw[hsz,show zB 8=wi 0 6++[6,7]from rfl];refine(hC _ (n-1-i) (hJ _ _ I x) (by omega)).step o.le X ?_;rintro N w4 vs V4 hd4 u ⟨rfl,rfl⟩ Z;have hl4:w4.heap[l]?=some (.loop (BC fn' tmps ps assign body D)):=Z.le _ _ (Mem.set_same _ _ _);refine yield_op (args:=#[.int .i64 ((n-1-i:Nat):Int),el (n-1-i)]) ho T U rfl (u.get rfl) ?_ hl4 (by simp[BC,hps]) ?_
  ·have g1:N.eval (.tmp 12)=.int .i64 ((n-1-i:Nat):Int):=u.get rfl;have g2:N.eval (.tmp 16)=el (n-1-i):=u.get rfl;simp[g1,g2]
  refine(y (n-1-i) (by omega) V2 (by grind) x w4 Z.le).mono ?_;rintro e w5 ⟨rfl,V5,hJ5,C,E⟩;refine⟨_,rfl,?_⟩;rw[W];have hlt17:(17:Nat)<N.tmps.size:=by rw[u.1];decide
  have hH5:Has 19 (N.put (some 17) (.bool true)) [(0,.func (.yield l) #[] #[]),(1,.pointer box),(3,.int .i64 ((n-1-i:Nat):Int)),(17,.bool true)]:=by
   refine⟨by simp[Act.put,u.1],λs v h=>?_⟩;have other:∀s,s≠17->(N.put (some 17) (.bool true)).tmps.getD s undef=N.tmps.getD s undef:=λs h=>by
    simp[Act.put,w8,w9 (vA h)]
   simp only[z7]at h;split at h;·rename_i e;simp only[beq_iff_eq]at e;subst e;cases h;rw[other _ (by decide)];exact u.get rfl
   ·split at h;·rename_i e;simp only[beq_iff_eq]at e;subst e;cases h;rw[other _ (by decide)];exact u.get rfl
    ·split at h;·rename_i e;simp only[beq_iff_eq]at e;subst e;cases h;rw[other _ (by decide)];exact u.get rfl
     ·split at h;·simp_all[beq_iff_eq,Act.put,w8]
      ·cases h
  rw[show[7]=wi 7 1++[]from rfl];refine(hD _ _ true).step E.le hH5 ?_;rintro a6 w6 vs V6 hd6 Y ⟨rfl,rfl⟩ K;show wx (Ay none) 0 P (.cond (.tmp 18) .ret .skip) _ a6 w6;refine wpIn_cond_false (Y.get rfl) (wpIn_skip ?_);rw[<-List.append_nil cE];refine(hE _ ((n-1-i:Nat):Int) (hJ _ _ hJ5 C) (by omega) (by omega)).step K.le ⟨Y.1,λs v h=>Y.2 s v ?_⟩ ?_;·grind[wv]
  rintro a7 w7 vs V7 hd7 hH7 ⟨rfl,rfl⟩ hF7;refine⟨n-(i+1),by omega,i+1,V5,by omega,rfl,?_,C,?_,?_,?_⟩;·grind
  ·rw[hd7,hd6];show N.defers=[];grind
  ·rw[show(n:Int)-1-((i+1:Nat):Int)=((n-1-i:Nat):Int)-1 by omega];exact hH7
  ·exact((((r.trans o).trans Z).trans E).trans K).trans hF7
 ·have hin:i=n:=by omega
  subst hin;have G:decide (0<=(i:Int)-1-i)=false:=by simp;omega
  rw[G]at z;refine wpIn_cond_false z (wpIn_exit ?_);show(if b0=b0 then _ else _);rw[if_pos rfl];refine⟨?_,_,results_none A _ _ _,_,⟨⟨_,rfl⟩,V2,rfl,x,I⟩,r.trans o⟩;rw[hd3,hd2]
end
end Go.Sx
namespace Go.Proofs
open Go Go.Sx
attribute [local irreducible] Go.Sx.Tri
theorem GenK.makeMap{P:Program}{V:Mem}{t:TypeId}{ty:Nat}{vals:Operand->Value}{q:Value->Mem->Prop}(z:∀b,V b=none->q (.map (some b)) (V.set b (.map #[] 0))):GenK P (.makeMap t none) ty vals V q:=by
 intro w hw;have y:V w.heap.size=none:=by
  cases x:V w.heap.size with
  |none=>rfl
  |some o=>have:=(yE.1 (hw _ o x)).1;omega
 refine⟨_,w.alloc (.map #[] 0),V.set w.heap.size (.map #[] 0),rfl,?_,z _ y⟩;refine⟨by simp,λb o h=>?_,λb h _=>xz _ _ _ h,λb h=>?_,rfl,rfl⟩
 ·by_cases e:b=w.heap.size;·grind[Mem.set_same,wo]
  ·rw[Mem.set_ne e]at h;have u:=(yE.1 (hw b o h)).1;exact(xz _ _ _ u).trans (hw b o h)
 grind[inr,Mem.set_ne]
theorem MX{α:Type}{V:Mem}{s:Sl}{sz:Nat}{row:α->List Value}{xs:List α}(h:Ab V s sz (xs.map row)):K.inR .i64 ((s.n:Int)-1):=by
 have:=h.cap;have:=h.fit;exact⟨by omega,by omega⟩
theorem it281{V:Mem}{fn':FuncId}{tmps:Array Value}{ps:Array Tmp}{assign body:Code}{D:Nat}{l:Nat}{bx:Nat}{s:Sl}{xs:List Fld}{J:Nat->Mem->Prop}(y:ps.size=2)
  (G:∀i V2,J i V2->V2 l=none->V2 bx=some (cell (.slice s.p s.n s.c) 23)/\Ab V2 s 2 (xs.map Fld.row))
  (z:∀k x,xs[k]?=some x->∀V2,J (xs.length-1-k) V2->V2 l=none->∀w,(V2.set l (.loop (BC fn' tmps ps assign body D))).le w->
   RoundIn (Ay none) 0 xS l fn' ((ps.zip #[.int .i64 k,Fld.v x]).foldl (λt (p,v)=>t.setIfInBounds p v) tmps) assign body w λe w'=>
    e=.returned (.bool true)/\∃r,J (xs.length-k) r/\r l=none/\As (V2.set l (.loop (BC fn' tmps ps assign body D))) w (r.set l (.loop (BC fn' tmps ps assign body D))) w')
  (N:J 0 V) (Z:V l=none):
  Tri xS 281 #[.func (.yield l) #[] #[],pv bx] (V.set l (.loop (BC fn' tmps ps assign body D))) λe V'=>(∃v,e=.returned v)/\∃V2,V'=V2.set l (.loop (BC fn' tmps ps assign body D))/\V2 l=none/\J xs.length V2:=by
 refine MV (c:=Az wh) (L:=kid ((AU (Az wh) [1,0]).getD 0 .skip) 0) (B:=kid ((AU (Az wh) [1,0,0,0]).getD 2 .skip) 0) (cA:=c281a) (cB:=c281b) (cE:=c281e) (ops:=c281c) (b0:=0) (b1:=1) (id:=3)
  (o6:=(c281c)[6]?.getD default) (at6:=#[3,138]) (el:=λk=>(xs[k]?.map Fld.v).getD undef) (Bk:=λM=>M bx=some (cell (.slice s.p s.n s.c) 23)/\Ab M s 2 (xs.map Fld.row))
  Tryz.func281 (by kernel_rfl) (by kernel_rfl) (by kernel_rfl) (by kernel_rfl) (by kernel_rfl) (by kernel_rfl) (by kernel_rfl) (by kernel_rfl) (by kernel_rfl) (by kernel_rfl) (by kernel_rfl) y ?_ ?_ ?_ ?_ ?_ ?_ ?_ N Z
 ·rintro M ⟨h1,h2⟩;refine s281a (a:=.func (.yield l) #[] #[]) (b:=some ⟨bx,0,none⟩) ?_;unfold w281a;exact⟨s,An h1,MX h2,_,rfl,rfl,by rw[h2.n_eq];rfl⟩
 ·intro M j;refine s281b (a:=.func (.yield l) #[] #[]) (b:=some ⟨bx,0,none⟩) ?_;unfold w281b;exact⟨_,rfl,rfl,rfl⟩
 ·rintro M k ⟨h1,h2⟩ S;refine s281c (a:=.func (.yield l) #[] #[]) (b:=some ⟨bx,0,none⟩) ?_;unfold w281c;obtain⟨x,hm,Y,W,A,q,I,h⟩:=h2.get (i:=k) (by rw[h2.n_eq];omega);exact⟨s,An h1,q,I,by rw[h2.n_eq];omega,x.name,x.ty,h,_,rfl,rfl,by rw[Y];rfl⟩
 ·intro M j b;refine s281d (a:=.func (.yield l) #[] #[]) (b:=some ⟨bx,0,none⟩) ?_;unfold w281d;exact⟨_,rfl,rfl,rfl⟩
 ·rintro M j ⟨h1,h2⟩ o X;have C:=h2.cap;have E:=h2.fit;have K:=h2.n_eq;refine s281e (a:=.func (.yield l) #[] #[]) (b:=some ⟨bx,0,none⟩) ?_;unfold w281e;exact⟨⟨by omega,by omega⟩,_,rfl,rfl,rfl⟩
 ·intro i V2 o u;obtain⟨h1,h2⟩:=G i V2 o u;have e:bx≠l:=λe=>by simp_all
  exact⟨by rw[Mem.set_ne e];exact h1,h2.sub (Mem.sub_new u _)⟩
 simp_all
theorem it154{V:Mem}{fn':FuncId}{tmps:Array Value}{ps:Array Tmp}{assign body:Code}{D:Nat}{l:Nat}{bx:Nat}{s:Sl}{xs:List Ty}{J:Nat->Mem->Prop}(y:ps.size=2)
  (G:∀i V2,J i V2->V2 l=none->V2 bx=some (cell (.slice s.p s.n s.c) 22)/\Ab V2 s 2 (xs.map Ty.row))
  (z:∀k x,xs[k]?=some x->∀V2,J (xs.length-1-k) V2->V2 l=none->∀w,(V2.set l (.loop (BC fn' tmps ps assign body D))).le w->
   RoundIn (Ay none) 0 xS l fn' ((ps.zip #[.int .i64 k,Ty.v x]).foldl (λt (p,v)=>t.setIfInBounds p v) tmps) assign body w λe w'=>
    e=.returned (.bool true)/\∃r,J (xs.length-k) r/\r l=none/\As (V2.set l (.loop (BC fn' tmps ps assign body D))) w (r.set l (.loop (BC fn' tmps ps assign body D))) w')
  (N:J 0 V) (Z:V l=none):
  Tri xS 154 #[.func (.yield l) #[] #[],pv bx] (V.set l (.loop (BC fn' tmps ps assign body D))) λe V'=>(∃v,e=.returned v)/\∃V2,V'=V2.set l (.loop (BC fn' tmps ps assign body D))/\V2 l=none/\J xs.length V2:=by
 refine MV (c:=Az we) (L:=kid ((AU (Az we) [1,0]).getD 0 .skip) 0) (B:=kid ((AU (Az we) [1,0,0,0]).getD 2 .skip) 0) (cA:=c154a) (cB:=c154b) (cE:=c154e) (ops:=c154c) (b0:=0) (b1:=1) (id:=3)
  (o6:=(c154c)[6]?.getD default) (at6:=#[3,140]) (el:=λk=>(xs[k]?.map Ty.v).getD undef) (Bk:=λM=>M bx=some (cell (.slice s.p s.n s.c) 22)/\Ab M s 2 (xs.map Ty.row))
  Tryz.func154 (by kernel_rfl) (by kernel_rfl) (by kernel_rfl) (by kernel_rfl) (by kernel_rfl) (by kernel_rfl) (by kernel_rfl) (by kernel_rfl) (by kernel_rfl) (by kernel_rfl) (by kernel_rfl) y ?_ ?_ ?_ ?_ ?_ ?_ ?_ N Z
 ·rintro M ⟨h1,h2⟩;refine s154a (a:=.func (.yield l) #[] #[]) (b:=some ⟨bx,0,none⟩) ?_;unfold w154a;exact⟨s,An h1,MX h2,_,rfl,rfl,by rw[h2.n_eq];rfl⟩
 ·intro M j;refine s154b (a:=.func (.yield l) #[] #[]) (b:=some ⟨bx,0,none⟩) ?_;unfold w154b;exact⟨_,rfl,rfl,rfl⟩
 ·rintro M k ⟨h1,h2⟩ S;refine s154c (a:=.func (.yield l) #[] #[]) (b:=some ⟨bx,0,none⟩) ?_;unfold w154c;obtain⟨x,hm,Y,W,A,q,I,h⟩:=h2.get (i:=k) (by rw[h2.n_eq];omega);exact⟨s,An h1,q,I,by rw[h2.n_eq];omega,x.name,x.fs,h,_,rfl,rfl,by rw[Y];rfl⟩
 ·intro M j b;refine s154d (a:=.func (.yield l) #[] #[]) (b:=some ⟨bx,0,none⟩) ?_;unfold w154d;exact⟨_,rfl,rfl,rfl⟩
 ·rintro M j ⟨h1,h2⟩ o X;have C:=h2.cap;have E:=h2.fit;have K:=h2.n_eq;refine s154e (a:=.func (.yield l) #[] #[]) (b:=some ⟨bx,0,none⟩) ?_;unfold w154e;exact⟨⟨by omega,by omega⟩,_,rfl,rfl,rfl⟩
 ·intro i V2 o u;obtain⟨h1,h2⟩:=G i V2 o u;have e:bx≠l:=λe=>by simp_all
  exact⟨by rw[Mem.set_ne e];exact h1,h2.sub (Mem.sub_new u _)⟩
 simp_all
theorem it155{V:Mem}{fn':FuncId}{tmps:Array Value}{ps:Array Tmp}{assign body:Code}{D:Nat}{l:Nat}{bx:Nat}{s:Sl}{xs:List Pr}{J:Nat->Mem->Prop}(y:ps.size=2)
  (G:∀i V2,J i V2->V2 l=none->V2 bx=some (cell (.slice s.p s.n s.c) 24)/\Ab V2 s 5 (xs.map Pr.row))
  (z:∀k x,xs[k]?=some x->∀V2,J (xs.length-1-k) V2->V2 l=none->∀w,(V2.set l (.loop (BC fn' tmps ps assign body D))).le w->
   RoundIn (Ay none) 0 xS l fn' ((ps.zip #[.int .i64 k,Pr.v x]).foldl (λt (p,v)=>t.setIfInBounds p v) tmps) assign body w λe w'=>
    e=.returned (.bool true)/\∃r,J (xs.length-k) r/\r l=none/\As (V2.set l (.loop (BC fn' tmps ps assign body D))) w (r.set l (.loop (BC fn' tmps ps assign body D))) w')
  (N:J 0 V) (Z:V l=none):
  Tri xS 155 #[.func (.yield l) #[] #[],pv bx] (V.set l (.loop (BC fn' tmps ps assign body D))) λe V'=>(∃v,e=.returned v)/\∃V2,V'=V2.set l (.loop (BC fn' tmps ps assign body D))/\V2 l=none/\J xs.length V2:=by
 refine MV (c:=Az wc) (L:=kid ((AU (Az wc) [1,0]).getD 0 .skip) 0) (B:=kid ((AU (Az wc) [1,0,0,0]).getD 2 .skip) 0) (cA:=c155a) (cB:=c155b) (cE:=c155e) (ops:=c155c) (b0:=0) (b1:=1) (id:=3)
  (o6:=(c155c)[6]?.getD default) (at6:=#[3,142]) (el:=λk=>(xs[k]?.map Pr.v).getD undef) (Bk:=λM=>M bx=some (cell (.slice s.p s.n s.c) 24)/\Ab M s 5 (xs.map Pr.row))
  Tryz.func155 (by kernel_rfl) (by kernel_rfl) (by kernel_rfl) (by kernel_rfl) (by kernel_rfl) (by kernel_rfl) (by kernel_rfl) (by kernel_rfl) (by kernel_rfl) (by kernel_rfl) (by kernel_rfl) y ?_ ?_ ?_ ?_ ?_ ?_ ?_ N Z
 ·rintro M ⟨h1,h2⟩;refine s155a (a:=.func (.yield l) #[] #[]) (b:=some ⟨bx,0,none⟩) ?_;unfold w155a;exact⟨s,An h1,MX h2,_,rfl,rfl,by rw[h2.n_eq];rfl⟩
 ·intro M j;refine s155b (a:=.func (.yield l) #[] #[]) (b:=some ⟨bx,0,none⟩) ?_;unfold w155b;exact⟨_,rfl,rfl,rfl⟩
 ·rintro M k ⟨h1,h2⟩ S;refine s155c (a:=.func (.yield l) #[] #[]) (b:=some ⟨bx,0,none⟩) ?_;unfold w155c;obtain⟨x,hm,Y,W,A,q,I,h⟩:=h2.get (i:=k) (by rw[h2.n_eq];omega);exact⟨s,An h1,q,I,by rw[h2.n_eq];omega,x.name,x.ps,x.result,x.ls,x.bs,h,_,rfl,rfl,by rw[Y];rfl⟩
 ·intro M j b;refine s155d (a:=.func (.yield l) #[] #[]) (b:=some ⟨bx,0,none⟩) ?_;unfold w155d;exact⟨_,rfl,rfl,rfl⟩
 ·rintro M j ⟨h1,h2⟩ o X;have C:=h2.cap;have E:=h2.fit;have K:=h2.n_eq;refine s155e (a:=.func (.yield l) #[] #[]) (b:=some ⟨bx,0,none⟩) ?_;unfold w155e;exact⟨⟨by omega,by omega⟩,_,rfl,rfl,rfl⟩
 ·intro i V2 o u;obtain⟨h1,h2⟩:=G i V2 o u;have e:bx≠l:=λe=>by simp_all
  exact⟨by rw[Mem.set_ne e];exact h1,h2.sub (Mem.sub_new u _)⟩
 simp_all
theorem c255{V:Mem}{s:Sl}:Tri xS 255 #[.slice s.p s.n s.c] V λe V'=>∃b,V b=none/\e=.returned (.func (.func 281) #[] #[pv b])/\V'=V.set b (cell (.slice s.p s.n s.c) 23):=by
 refine x255 ?_;exact λb h=>⟨b,h,rfl,rfl⟩
theorem c117{V:Mem}{s:Sl}:Tri xS 117 #[.slice s.p s.n s.c] V λe V'=>∃b,V b=none/\e=.returned (.func (.func 154) #[] #[pv b])/\V'=V.set b (cell (.slice s.p s.n s.c) 22):=by
 refine x117 ?_;exact λb h=>⟨b,h,rfl,rfl⟩
theorem c118{V:Mem}{s:Sl}:Tri xS 118 #[.slice s.p s.n s.c] V λe V'=>∃b,V b=none/\e=.returned (.func (.func 155) #[] #[pv b])/\V'=V.set b (cell (.slice s.p s.n s.c) 24):=by
 refine x118 ?_;exact λb h=>⟨b,h,rfl,rfl⟩
theorem JI{args:List Value}{N:Nat}(h:args.length<=N):Has N {tmps:=args.toArray++wZ (N-args.toArray.size) undef,defers:=[]} ((zB args.length).zip args):=by
 refine⟨by simp;omega,λs v t=>?_⟩;rw[wy]at t;have key:∀(l:List Value)(k:Nat),((wi k l.length).zip l).lookup s=some v->k<=s/\l[s-k]?=some v:=by
  intro l;induction l with
  |nil=>simp_all
  |cons x xs w=>
   intro k h;simp only[List.length_cons,List.range'_succ,wv,z7]at h;grind
 obtain⟨-,h1⟩:=key args 0 t;have u:=(yj.1 h1).1;simp_all[Nat.sub_zero,w8,Array.getElem?_append_left]
theorem K4{tmps:Array Value}{p q:Nat}{u v:Value}:((#[p,q].zip #[u,v]).foldl (λt (p,v)=>t.setIfInBounds p v) tmps)=(tmps.setIfInBounds p u).setIfInBounds q v:=by
 simp
theorem K5{tmps:Array Value}{p s:Nat}{u:Value}(h:s≠p):(tmps.setIfInBounds p u).getD s undef=tmps.getD s undef:=by
 simp[w8,w9 (vA h)]
theorem getD_same{tmps:Array Value}{p:Nat}{u:Value}(h:p<tmps.size):(tmps.setIfInBounds p u).getD p undef=u:=by
 simp_all
theorem MY(f:Fld)(l:List Fld)(k:KB):Ck (f::l) k=if k=f.name then some f.ty else Ck l k:=by
 grind[Ck]
theorem varOf_app(a b:List Fld)(k:KB):Ck (a++b) k=(Ck a k).or (Ck b k):=by
 grind[Ck]
theorem varOf_any(a:List Fld)(k:KB):(Ck a k).isSome=a.any λf=>decide (f.name=k):=by
 grind[Ck]
theorem seen_old{a g:List Fld}{f:Fld}(h:(a.any λx=>decide (x.name=f.name))=true)(k:KB):Ck (a++[f]++g) k=Ck (a++g) k:=by
 simp only[varOf_app,MY];rw[<-varOf_any]at h;by_cases e:k=f.name
 ·subst e;rw[if_pos rfl];cases hv:Ck a f.name with
  |none=>simp_all
  |some x=>rfl
 grind[Ck]
theorem seen_new{a g:List Fld}{f:Fld}(h:¬(a.any λx=>decide (x.name=f.name))=true)(k:KB):Ck (a++[f]++g) k=if k=f.name then some f.ty else Ck (a++g) k:=by
 simp only[varOf_app,MY];rw[<-varOf_any]at h;by_cases e:k=f.name;·simp_all
 grind[Ck]
structure SI (V:Mem)(c:Option Addr)(body:Bool)(d:Ds)(mb bx b6 b7:Nat)(m:KB->Option Value)(V1:Mem):Prop where
 sub:V.sub V1
 nm:V mb=none
 n6:V b6=none
 map:By V1 mb m
 bx:V1 bx=some (cell (.slice d.gs.p d.gs.n d.gs.c) 23)
 b6:V1 b6=some (.cells #[.pointer none,.map none,.bool false] 278 (0,0))
 b7:V1 b7=some (.cells #[.pointer c,.map (some mb),.bool body] 278 (0,0))
section
variable{V V1:Mem}{c:Option Addr}{body:Bool}{d:Ds}{mb bx b6 b7:Nat}{m m':KB->Option Value}
theorem SI.fresh(h:SI V c body d mb bx b6 b7 m V1){b:Nat}(u:V1 b=none)(o:Obj):SI V c body d mb bx b6 b7 m (V1.set b o):=
 have t:=Mem.sub_new u o
 ⟨h.sub.trans t,h.nm,h.n6,h.map.sub t,t _ _ h.bx,t _ _ h.b6,t _ _ h.b7⟩
theorem SI.up(h:SI V c body d mb bx b6 b7 m V1){o:Obj}(t:By (V1.set mb o) mb m'):SI V c body d mb bx b6 b7 m' (V1.set mb o):=by
 obtain⟨es,y,hm,-,-⟩:=h.map.at_;have u:bx≠mb:=λe=>by have:=h.bx;simp_all
 have w:b6≠mb:=λe=>by have:=h.b6;simp_all
 have z:b7≠mb:=λe=>by have:=h.b7;simp_all
 exact⟨h.sub.set h.nm o,h.nm,h.n6,t,by rw[Mem.set_ne u];exact h.bx,by rw[Mem.set_ne w];exact h.b6,by rw[Mem.set_ne z];exact h.b7⟩
theorem SI.cg(h:SI V c body d mb bx b6 b7 m V1)(e:∀k,m k=m' k):SI V c body d mb bx b6 b7 m' V1:=⟨h.sub,h.nm,h.n6,h.map.congr e,h.bx,h.b6,h.b7⟩
end
section
variable{V V1:Mem}{c:Option Addr}{body:Bool}{d:Ds}{mb bx b6 b7:Nat}{m m':KB->Option Value}
theorem scopeRound{l:Sl}(h:SI V c body d mb bx b6 b7 m V1)(x:Fld)(V2:Mem)(b:Nat)(t:V1 b=none)(u:V2=V1.set b (.cells x.row.toArray 138 (0,0))):
  AI xS 63 c214c [(7,pv b7),(9,pv b)] [] V2 λ_ w=>SI V c body d mb bx b6 b7 (λk=>if k=x.name then some (.string x.ty)else m k) w:=by
 subst u;have h2:=h.fresh t (.cells x.row.toArray 138 (0,0));refine s214c ?_;unfold w214c;refine⟨by simp,some mb,Aj h2.b7 1 1 (by simp),by simp,x.name,Aj Au 0 1 (by simp[Fld.row]),by simp,x.ty,Aj Au 1 1 (by simp[Fld.row]),?_⟩;exact Cr.str xf xh h2.map λo z=>⟨_,rfl,h2.up z⟩
theorem scopeAssign(x:Fld):AI xS 63 c214b [(7,pv b7),(26,Fld.v x)] [7,9] V1 λvs V2=>∃b,V1 b=none/\V2=V1.set b (.cells x.row.toArray 138 (0,0))/\vs=[pv b7,pv b]:=by
 refine s214b (b:=x.name) (c:=x.ty) ?_;unfold w214b;exact λb h=>⟨_,rfl,b,h,rfl,rfl⟩
theorem zero4(w:World):(zeroValue 4).run xS w=.ok (.bool false) w:=by kernel_rfl
theorem scopeTail{l:Sl}{ls:List (Sl×List Fld)}(h:SI V c body d mb bx b6 b7 (λk=>(Ck d.globals k).map ye) V1)(hl:Ab V l 1 (ls.map λx=>[x.1.v]))(E:∀x∈ls,Ab V x.1 2 (x.2.map Fld.row)):
  AI xS 63 c214d [(0,.pointer c),(1,.bool body),(2,.slice l.p l.n l.c),(6,pv b6),(7,pv b7)] [6] V1 λvs V2=>vs=[pv b6]/\
   V.sub V2/\V mb=none/\By V2 mb (λk=>(Ck (ls.flatMap (·.2)++d.globals) k).map ye)/\V2 b6=some (.cells #[.pointer c,.map (some mb),.bool body] 278 (0,0)):=by
 refine s214d ?_;unfold w214d;refine GenK.makeMap λr K=>⟨some r,rfl,?_⟩;have S:V r=none:=by
  cases hc:V r with
  |none=>rfl
  |some o=>have:=h.sub _ _ hc;simp_all
 have Y:mb≠r:=λe=>by
  obtain⟨es,cl,hm,-,-⟩:=h.map.at_;simp_all
 let TI (done:List Fld) (V2:Mem):Prop:=SI V c body d mb bx b6 b7 (λk=>(Ck (done++d.globals) k).map ye) V2/\By V2 r (λk=>if(done.any λf=>decide (f.name=k))=true then some (.bool true)else none);have h0:TI [] (V1.set r (.map #[] 0)):=⟨h.fresh K _,(By.made V1 r).congr λk=>by simp⟩;refine E4 ls.length (λi V2=>TI ((ls.take i).flatMap (·.2)) V2) (by simpa using h0) ?_;intro i V2 J hi w hJ;have G:=hl.sub w.1.sub;refine⟨λz=>?_,λz=>?_⟩
 ·obtain⟨x,hm,hx,hdr,W,T,hz,A⟩:=G.get z;refine⟨T,hz,z,x.1,A,?_⟩;have htk:(ls.take (i+1)).flatMap (·.2)=(ls.take i).flatMap (·.2)++x.2:=by
   grind
  refine E4 x.2.length (λj V3=>TI ((ls.take i).flatMap (·.2)++x.2.take j) V3) (by simpa using w) ?_;intro j V3 J' hj t I;have q:=(E x hm).sub t.1.sub;refine⟨λu=>?_,λu=>?_⟩
  ·obtain⟨f,hmf,hf,hdrf,a,M,U,N⟩:=q.get u;have Z:(ls.take i).flatMap (·.2)++x.2.take (j+1)=((ls.take i).flatMap (·.2)++x.2.take j)++[f]:=by
    grind
   refine⟨M,U,u,f.name,f.ty,N,?_⟩;refine Cd.str1 vB xh zero4 t.2 ?_;generalize hdone:(ls.take i).flatMap (·.2)++x.2.take j=done at t Z;refine⟨done.any λy=>decide (y.name=f.name),?_,λhs=>?_,λhs=>?_⟩;·grind
   ·refine⟨q.succ u,I a _ ?_⟩;rw[Z];refine⟨t.1.cg λk=>by rw[seen_old hs],t.2.congr λk=>?_⟩;grind
   ·refine⟨by simp,some mb,Aj t.1.b7 1 1 (by simp),?_⟩;refine Cr.str xf xh t.1.map λo ho=>?_;have hsi:=t.1.up ho;refine Cr.str vB xh (t.2.set (o:=o) (vA Y)) λo2 ho2=>?_;refine⟨q.succ u,I a _ ?_⟩;rw[Z];have X:b6≠r:=λe=>by have:=h.b6;simp_all
    have B:b7≠r:=λe=>by have:=h.b7;simp_all
    have C:bx≠r:=λe=>by have:=h.bx;simp_all
    refine⟨?_,ho2.congr λk=>?_⟩
    ·have h3:=hsi.cg (m':=λk=>(Ck (done++[f]++d.globals) k).map ye) λk=>by
      rw[seen_new hs];grind
     exact⟨h3.sub.set S _,h3.nm,h3.n6,h3.map.set Y,by rw[Mem.set_ne C];exact h3.bx,by rw[Mem.set_ne X];exact h3.b6,by rw[Mem.set_ne B];exact h3.b7⟩
    grind
  ·obtain⟨hd,D⟩:=q.done u;refine⟨G.succ z,hJ W _ ?_⟩;simp_all[xc]
 ·obtain⟨hd,D⟩:=G.done z;rw[xc D]at w;have b:=Aj w.1.b7 0 3 (by simp);refine⟨c,some mb,body,b,⟨⟨b6,0,none⟩,_,_,rfl,w.1.b6,rfl,by simp,?_⟩⟩;have e7:mb≠b6:=λe=>by
   obtain⟨es,cl,hm,-,-⟩:=w.1.map.at_;have:=w.1.b6;simp_all
  exact⟨_,rfl,rfl,w.1.sub.set h.n6 _,h.nm,w.1.map.set e7,by rw[Mem.set_same];rfl⟩
end
theorem cell3{b:Nat}{c:Option Addr}{mb:Option Nat}{body:Bool}{w:World}(h:w.heap[b]?=some (.cells #[.pointer c,.map mb,.bool body] 278 (0,0))):(loadVar 278 ⟨b,0,none⟩).run xS w=.ok (.agg #[.pointer c,.map mb,.bool body]) w:=
 Jp (P:=xS) (t:=278) (cs:=.cons (.var .p 0) (.cons (.var .m 1) (.cons (.var .b 2) .nil))) (x:=.agg (.cons (.var .p 0) (.cons (.var .m 1) (.cons (.var .b 2) .nil)))) (ρ:=[.pointer c,.map mb,.bool body]) (β:=id) (o:=0) h (by kernel_rfl)
theorem results113{tmps:Array Value}{b:Nat}{c:Option Addr}{mb:Option Nat}{body:Bool}{w:World}(t:tmps.getD 6 undef=pv b)(h:w.heap[b]?=some (.cells #[.pointer c,.map mb,.bool body] 278 (0,0))):
  (results wb tmps).run xS w=.ok (.agg #[.pointer c,.map mb,.bool body]) w:=by
 have u:wb.results=#[.cell 6 278]:=by kernel_rfl
 unfold results;rw[u];have e:asAddr (tmps.getD 6 undef)=pure ⟨b,0,none⟩:=by rw[t];rfl
 simp only[List.mapM_toArray,List.mapM_cons,List.mapM_nil,zN,Sem.run_map,zP,zO,e,cell3 h];rfl
theorem MZ{V V1 V2 t:Mem}{w w1 u w3:World}{D:Nat}(h1:As V w V1 w1)(h2:As V1 w1 V2 u)(x:w1.heap.size<=D)(j:V2 D=none)(y:u.heap[D]?=some (.deferred (some [])))(h3:As V2 u t w3):
  As V w t w3/\w.heap.size<=D/\w3.heap[D]?=some (.deferred (some []))/\t D=none:=by
 have z:=(yE.1 y).1;refine⟨(h1.trans h2).trans h3,Nat.le_trans h1.size x,(h3.old D z j).trans y,?_⟩;cases i:t D with
 |none=>rfl
 |some o=>
  rcases h3.dom D (by rw[i];simp)with h|h
  ·grind
  ·omega
theorem scopeC:Gf:=by
 intro V c d body l ls q hl A;refine MU (c:=Az wb) Tryz.func214 (by kernel_rfl) ?_;intro w hV;rw[show flat (Az wb)=c214a++([.block 0 (.rangeFunc (.tmp 24) #[25,26] ((AU (Az wb) [3,0,0,0]).getD 0 .skip) ((AU (Az wb) [3,0,0,1]).getD 0 .skip))]++(c214d++[.ret]))from by kernel_rfl];have hA:AI xS 63 c214a [(0,.pointer c),(1,.bool body),(2,.slice l.p l.n l.c)] [0,1,2,6,7,24] V λvs V1=>∃mb bx b6 b7,
   vs=[.pointer c,.bool body,.slice l.p l.n l.c,pv b6,pv b7,.func (.func 281) #[] #[pv bx]]/\SI V c body d mb bx b6 b7 (λ_=>none) V1:=by
  refine s214a ?_;unfold w214a;refine GenK.makeMap λmb j=>⟨some mb,rfl,q.nn,q.nn,?_,d.gs,?_,?_⟩
  ·obtain⟨cb,mt,mp,t,h1,h2,h3,h4⟩:=q.at_;rw[h1];simp[Aa]
  ·exact(q.sub (Mem.sub_new j _)).cell (i:=2) rfl
  refine Tri.mono c255 ?_;rintro _ V2 ⟨bx,I,rfl,rfl⟩;refine⟨.func (.func 281) #[] #[pv bx],rfl,rfl,λb6 M b7 X=>⟨_,rfl,mb,bx,b6,b7,rfl,?_⟩⟩;have n1:bx≠mb:=λe=>by grind[Mem.set_same]
  have n2:b6≠bx:=λe=>by grind[Mem.set_same]
  have n3:b7≠b6:=λe=>by grind[Mem.set_same]
  have s1:=Mem.sub_new j (.map #[] 0);have B:=Mem.sub_new I (cell (.slice d.gs.p d.gs.n d.gs.c) 23);have C:=Mem.sub_new M (.cells #[.pointer none,.map none,.bool false] 278 (0,0));have Z:=Mem.sub_new X (.cells #[.pointer c,.map (some mb),.bool body] 278 (0,0));refine⟨s1.trans (B.trans (C.trans Z)),j,?_,(By.made V mb).sub (B.trans (C.trans Z)),(C.trans Z) _ _ Au,Z _ _ Au,Mem.set_same _ _ _⟩;cases hv:V b6 with
  |none=>rfl
  |some o=>have:=(s1.trans B) _ _ hv;simp_all
 refine hA.step hV (JI (args:=[.pointer c,.bool body,.slice l.p l.n l.c]) (N:=63) (by simp)) ?_;rintro a1 w1 vs V1 hd1 u ⟨mb,bx,b6,b7,rfl,E⟩ a;show wx (Ay none) 0 xS _ _ a1 w1;refine wpIn_block ?_;have K:=λfn S D r=>it281 (V:=V1) (fn':=fn) (tmps:=a1.tmps) (ps:=#[25,26]) (assign:=(AU (Az wb) [3,0,0,0]).getD 0 .skip) (body:=(AU (Az wb) [3,0,0,1]).getD 0 .skip) (D:=D) (l:=S) (bx:=bx) (s:=d.gs) (xs:=d.globals)
  (J:=λi V2=>SI V c body d mb bx b6 b7 (λk=>(Ck (d.globals.drop (d.globals.length-i)) k).map ye) V2) rfl (λi V2 Y _=>⟨Y.bx,q.ok.globals.sub Y.sub⟩) (λk x hx V2 Y T w2 U=>by
   have hk:=(yj.1 hx).1;refine MT (N:=63) (insA:=[(7,pv b7),(26,Fld.v x)]) (outsA:=[7,9]) T U (by rw[K4];simpa using u.1) ?_ (scopeAssign x) (λvs V3 hvs=>?_)
   ·intro s v z;rw[K4];simp only[z7]at z;split at z
    ·rename_i e;simp only[beq_iff_eq]at e;subst e;cases z;rw[K5 (by decide),K5 (by decide)];exact u.get rfl
    ·split at z
     ·rename_i e;simp only[beq_iff_eq]at e;subst e;cases z;exact getD_same (by simp[u.1])
     ·cases z
   ·obtain⟨b,hb,e2,rfl⟩:=hvs;refine(scopeRound (l:=l) Y x V3 b hb e2).mono λ_ V4 h4=>h4.cg λy=>?_;rw[show d.globals.length-(d.globals.length-1-k)=k+1 by omega,show d.globals.length-(d.globals.length-k)=k by omega];have e3:d.globals.drop k=x::d.globals.drop (k+1):=by
     grind[vC,yj]
    rw[e3,MY];grind)
  (by simpa [Ck]using E) r
 refine MS (Φ:=λV2=>SI V c body d mb bx b6 b7 (λk=>(Ck d.globals k).map ye) V2) a.le (u.get (s:=24) rfl) Tryz.call281 (λfn S D r=>Tri.mono (K fn S D r) λe V' h=>?_) ?_;·simp_all
 ·intro D V2 W hD G hn2 hW hS2;show CQ none 0 xS _ (c214d++[.ret]) _ W;refine(scopeTail hS2 hl A).step G.le ⟨u.1,λs v z=>u.2 s v ?_⟩ ?_
  ·simp only[wv,z7]at z⊢
   repeat' (split at z<;>first|exact z|skip)
   simp_all
  ·rintro a3 w3 vs V3 hd3 hH3 ⟨rfl,h1,h2,h3,h4⟩ hF3;show wx (Ay none) 0 xS .ret _ a3 w3;refine wpIn_ret ?_;obtain⟨g1,g2,g3,g4⟩:=MZ a G hD hn2 hW hF3;refine⟨.inr rfl,[D],?_,by simp,V3,g1,λD' hD'=>?_,_,λw4 hw4=>results113 (hH3.get rfl) (hw4 _ _ h4),mb,rfl,h1,h2,h3⟩;·simp_all
   simp_all
structure NI (V:Mem)(d:Ds)(cb mt mp p1 p3:Nat)(f g:KB->Option Value)(V1:Mem):Prop where
 sub:V.sub V1
 nt:V mt=none
 np:V mp=none
 ne:mt≠mp
 ck:V1 cb=some (.cells (d.row++[zp (some mt),zp (some mp)]).toArray 234 (0,0))
 b1:V1 p1=some (.cells d.row.toArray 30 (0,0))
 b3:V1 p3=some (cell (pv cb) 183)
 mapT:By V1 mt f
 mapP:By V1 mp g
section
variable{V V1:Mem}{d:Ds}{cb mt mp p1 p3:Nat}{f g f' g':KB->Option Value}
theorem NI.fresh(h:NI V d cb mt mp p1 p3 f g V1){b:Nat}(u:V1 b=none)(o:Obj):NI V d cb mt mp p1 p3 f g (V1.set b o):=
 have t:=Mem.sub_new u o
 ⟨h.sub.trans t,h.nt,h.np,h.ne,t _ _ h.ck,t _ _ h.b1,t _ _ h.b3,h.mapT.sub t,h.mapP.sub t⟩
theorem Hu{V:Mem}{b m:Nat}{c:Array Value}{t:Nat}{fr:Nat×Nat}{f:KB->Option Value}(h:V b=some (.cells c t fr))(hm:By V m f):b≠m:=λe=>by
 obtain⟨es,u,hm,-,-⟩:=hm.at_;simp_all
theorem NI.upT(h:NI V d cb mt mp p1 p3 f g V1){o:Obj}(t:By (V1.set mt o) mt f'):NI V d cb mt mp p1 p3 f' g (V1.set mt o):=
 ⟨h.sub.set h.nt o,h.nt,h.np,h.ne,by rw[Mem.set_ne (Hu h.ck h.mapT)];exact h.ck,by rw[Mem.set_ne (Hu h.b1 h.mapT)];exact h.b1,by rw[Mem.set_ne (Hu h.b3 h.mapT)];exact h.b3,t,h.mapP.set (vA h.ne)⟩
theorem NI.upP(h:NI V d cb mt mp p1 p3 f g V1){o:Obj}(t:By (V1.set mp o) mp g'):NI V d cb mt mp p1 p3 f g' (V1.set mp o):=
 ⟨h.sub.set h.np o,h.nt,h.np,h.ne,by rw[Mem.set_ne (Hu h.ck h.mapP)];exact h.ck,by rw[Mem.set_ne (Hu h.b1 h.mapP)];exact h.b1,by rw[Mem.set_ne (Hu h.b3 h.mapP)];exact h.b3,h.mapT.set h.ne,t⟩
theorem NI.cg(h:NI V d cb mt mp p1 p3 f g V1)(t:∀k,f k=f' k)(u:∀k,g k=g' k):NI V d cb mt mp p1 p3 f' g' V1:=⟨h.sub,h.nt,h.np,h.ne,h.ck,h.b1,h.b3,h.mapT.congr t,h.mapP.congr u⟩
theorem newRoundT(h:NI V d cb mt mp p1 p3 f g V1){bx:Nat}{v:Value}{ty:Nat}(u:V1 bx=some (cell v ty))(x:Ty)(V2:Mem)(b:Nat)(w:V1 b=none)(y:V2=V1.set b (.cells x.row.toArray 140 (0,0))):
  AI xS 38 c80c [(3,pv p3),(5,pv b)] [] V2 λ_ z=>NI V d cb mt mp p1 p3 (λk=>if k=x.name then some x.v else f k) g z/\z bx=some (cell v ty):=by
 subst y;have h2:=h.fresh w (.cells x.row.toArray 140 (0,0));have t:=Mem.sub_new w (.cells x.row.toArray 140 (0,0)) _ _ u;refine s80c ?_;unfold w80c;refine⟨_,An h2.b3,by simp,by simp,some mt,Aj h2.ck 8 1 (by simp[Ds.row]),by simp,x.name,Aj Au 0 1 (by simp[Ty.row]),x.name,x.fs,Aj Au 0 2 (by simp[Ty.row]),?_⟩;exact Cr.str Tryz.underlying231 xh h2.mapT λo j=>⟨_,rfl,h2.upT j,by rw[Mem.set_ne (Hu t h2.mapT)];exact t⟩
theorem newRoundP(h:NI V d cb mt mp p1 p3 f g V1){bx:Nat}{v:Value}{ty:Nat}(u:V1 bx=some (cell v ty))(x:Pr)(V2:Mem)(b:Nat)(w:V1 b=none)(y:V2=V1.set b (.cells x.row.toArray 142 (0,0))):
  AI xS 38 c80f [(3,pv p3),(7,pv b)] [] V2 λ_ z=>NI V d cb mt mp p1 p3 f (λk=>if k=x.name then some x.v else g k) z/\z bx=some (cell v ty):=by
 subst y;have h2:=h.fresh w (.cells x.row.toArray 142 (0,0));have t:=Mem.sub_new w (.cells x.row.toArray 142 (0,0)) _ _ u;refine s80f ?_;unfold w80f;refine⟨_,An h2.b3,by simp,by simp,some mp,Aj h2.ck 9 1 (by simp[Ds.row]),by simp,x.name,Aj Au 0 1 (by simp[Pr.row]),x.name,x.ps,x.result,x.ls,x.bs,Aj Au 0 5 (by simp[Pr.row]),?_⟩;exact Cr.str Tryz.underlying232 xh h2.mapP λo j=>⟨_,rfl,h2.upP j,by rw[Mem.set_ne (Hu t h2.mapP)];exact t⟩
theorem newAssignT(x:Ty):AI xS 38 c80b [(3,pv p3),(17,Ty.v x)] [3,5] V1 λvs V2=>∃b,V1 b=none/\V2=V1.set b (.cells x.row.toArray 140 (0,0))/\vs=[pv p3,pv b]:=by
 refine s80b (b:=x.name) (c:=x.fs) ?_;unfold w80b;exact λb h=>⟨_,rfl,b,h,rfl,rfl⟩
theorem newAssignP(x:Pr):AI xS 38 c80e [(3,pv p3),(29,Pr.v x)] [3,7] V1 λvs V2=>∃b,V1 b=none/\V2=V1.set b (.cells x.row.toArray 142 (0,0))/\vs=[pv p3,pv b]:=by
 refine s80e (b:=x.name) (c:=x.ps) (d:=x.result) (g:=x.ls) (i:=x.bs) ?_;unfold w80e;exact λb h=>⟨_,rfl,b,h,rfl,rfl⟩
end
theorem K6{N:Nat}{a:Act}{p q r:Nat}{l:List (Nat×Value)}{x u z:Value}(w:Has N a l)(j:l.lookup r=some x)(i:r≠p)(o:r≠q)(y:q<N):Has N {tmps:=(#[p,q].zip #[u,z]).foldl (λt (p,v)=>t.setIfInBounds p v) a.tmps,defers:=[]} [(r,x),(q,z)]:=by
 refine⟨by rw[K4];simpa using w.1,λs v h=>?_⟩;rw[K4];simp only[z7]at h;split at h
 ·rename_i e;simp only[beq_iff_eq]at e;subst e;cases h;rw[K5 o,K5 i];exact w.get j
 ·split at h
  ·rename_i e;simp only[beq_iff_eq]at e;subst e;cases h;exact getD_same (by simp[w.1,y])
  ·cases h
theorem mark_keep{V V1:Mem}{w w1:World}{D:Nat}(h:As V w V1 w1)(z:V D=none)(u:w.heap[D]?=some (.deferred (some []))):w1.heap[D]?=some (.deferred (some []))/\V1 D=none:=by
 have t:=(yE.1 u).1;refine⟨(h.old D t z).trans u,?_⟩;cases y:V1 D with
 |none=>rfl
 |some o=>
  rcases h.dom D (by rw[y];simp)with h|h
  ·grind
  ·omega
theorem find_drop{α:Type}{l:List α}{nm:α->KB}{vv:α->Value}{k:Nat}{x:α}(h:l[k]?=some x)(y:KB):
  (if y=nm x then some (vv x)else((l.drop (l.length-(l.length-1-k))).find? λt=>decide (nm t=y)).map vv)=((l.drop (l.length-(l.length-k))).find? λt=>decide (nm t=y)).map vv:=by
 have u:=(yj.1 h).1;rw[show l.length-(l.length-1-k)=k+1 by omega,show l.length-(l.length-k)=k by omega];have w:l.drop k=x::l.drop (k+1):=by
  grind[vC,yj]
 grind
theorem newC:NewC:=by
 intro V d hd;refine MU (c:=Az wa) Tryz.func80 (by kernel_rfl) ?_;intro w hV;rw[show flat (Az wa)=c80a++([.block 0 (.rangeFunc (.tmp 15) #[16,17] ((AU (Az wa) [3,0,0,0]).getD 0 .skip) ((AU (Az wa) [3,0,0,1]).getD 0 .skip))]++
  (c80d++([.block 2 (.rangeFunc (.tmp 27) #[28,29] ((AU (Az wa) [5,0,0,0]).getD 0 .skip) ((AU (Az wa) [5,0,0,1]).getD 0 .skip))]++(c80g++[.ret]))))from by kernel_rfl]
 have hA:AI xS 38 c80a [(0,d.v)] [1,3,15] V λvs V1=>∃cb mt mp p1 p3 bx,
   vs=[pv p1,pv p3,.func (.func 154) #[] #[pv bx]]/\NI V d cb mt mp p1 p3 (λ_=>none) (λ_=>none) V1/\V1 bx=some (cell (.slice d.ts.p d.ts.n d.ts.c) 22):=by
  refine s80a (a:=d.name) (b:=d.ts) (c:=d.gs) (d:=d.ps) (g:=d.ms) (i:=d.is) (j:=d.qs) (k:=d.bs) ?_;unfold w80a;refine GenK.makeMap λmt U=>⟨some mt,rfl,GenK.makeMap λmp hmp=>⟨some mp,rfl,?_⟩⟩;refine Tri.mono c117 ?_;rintro _ V2 ⟨bx,X,rfl,rfl⟩;refine⟨.func (.func 154) #[] #[pv bx],rfl,rfl,λp1 hp1 cb hcb p3 hp3=>⟨_,rfl,cb,mt,mp,p1,p3,bx,rfl,?_,?_⟩⟩;all_goals
   have s1:=Mem.sub_new U (.map #[] 0);have s2:=Mem.sub_new hmp (.map #[] 0);have s3:=Mem.sub_new X (cell (.slice d.ts.p d.ts.n d.ts.c) 22);have s4:=Mem.sub_new hp1 (.cells d.row.toArray 30 (0,0));have s5:=Mem.sub_new hcb (.cells (d.row++[zp (some mt),zp (some mp)]).toArray 234 (0,0));have T:=Mem.sub_new hp3 (cell (pv cb) 183)
  ·have nmp:mt≠mp:=λe=>by grind[Mem.set_same]
   refine⟨s1.trans (s2.trans (s3.trans (s4.trans (s5.trans T)))),U,?_,nmp,T _ _ Au,(s5.trans T) _ _ Au,Mem.set_same _ _ _,(By.made V mt).sub (s2.trans (s3.trans (s4.trans (s5.trans T)))),(By.made (V.set mt (.map #[] 0)) mp).sub (s3.trans (s4.trans (s5.trans T)))⟩;cases hv:V mp with
   |none=>rfl
   |some o=>have:=s1 _ _ hv;simp_all
  ·exact(s4.trans (s5.trans T)) _ _ Au
 refine hA.step hV (JI (args:=[d.v]) (N:=38) (by simp)) ?_;rintro a1 w1 vs V1 hd1 Y ⟨cb,mt,mp,p1,p3,bx,rfl,hN1,hbx1⟩ hF1;show wx (Ay none) 0 xS _ _ a1 w1;refine wpIn_block ?_;have hit:=λfn B D G=>it154 (V:=V1) (fn':=fn) (tmps:=a1.tmps) (ps:=#[16,17]) (assign:=(AU (Az wa) [3,0,0,0]).getD 0 .skip) (body:=(AU (Az wa) [3,0,0,1]).getD 0 .skip) (D:=D) (l:=B) (bx:=bx) (s:=d.ts) (xs:=d.types)
  (J:=λi V2=>NI V d cb mt mp p1 p3 (λy=>((d.types.drop (d.types.length-i)).find? λt=>decide (t.name=y)).map Ty.v) (λ_=>none) V2/\V2 bx=some (cell (.slice d.ts.p d.ts.n d.ts.c) 22)) rfl (λi V2 A _=>⟨A.2,hd.types.sub A.1.sub⟩) (λk x hx V2 A C w2 E=>by
   refine MT (N:=38) (insA:=[(3,pv p3),(17,Ty.v x)]) (outsA:=[3,5]) C E (K6 (u:=.int .i64 k) (z:=Ty.v x) (p:=16) (q:=17) (r:=3) Y rfl (by decide) (by decide) (by decide)).1 (K6 (p:=16) (q:=17) (r:=3) Y rfl (by decide) (by decide) (by decide)).2 (newAssignT x) (λvs M K=>?_);obtain⟨b,hb,e2,rfl⟩:=K;exact(newRoundT A.1 A.2 x M b hb e2).mono λ_ V4 h4=>⟨h4.1.cg (find_drop (nm:=Ty.name) (vv:=Ty.v) hx) λ_=>rfl,h4.2⟩)
  ⟨by simpa using hN1,hbx1⟩ G
 refine MS (Φ:=λV2=>NI V d cb mt mp p1 p3 (λy=>(Dq d y).map Ty.v) (λ_=>none) V2) hF1.le (Y.get (s:=15) rfl) Tryz.call154 (λfn B D G=>Tri.mono (hit fn B D G) λe V' h=>?_) ?_
 ·obtain⟨h1,V2,h2,h3,h4⟩:=h;exact⟨h1,V2,h2,h3,by simpa [Dq]using h4.1⟩
 intro D V2 W hD hF2 hn2 hW hN2;show CQ none 0 xS _ (c80d++_) _ W;have hS:AI xS 38 c80d [(1,pv p1),(3,pv p3)] [3,27] V2 λvs M=>∃bx,vs=[pv p3,.func (.func 155) #[] #[pv bx]]/\NI V d cb mt mp p1 p3 (λy=>(Dq d y).map Ty.v) (λ_=>none) M/\M bx=some (cell (.slice d.ps.p d.ps.n d.ps.c) 24):=by
  refine s80d ?_;unfold w80d;refine⟨by simp,d.ps,Aj hN2.b1 3 1 (by simp[Ds.row]),?_⟩;refine Tri.mono c118 ?_;rintro _ M ⟨bx,X,rfl,rfl⟩;exact⟨.func (.func 155) #[] #[pv bx],rfl,rfl,_,rfl,bx,rfl,hN2.fresh X _,Mem.set_same _ _ _⟩
 refine hS.step hF2.le ⟨Y.1,λs v hs=>Y.2 s v ?_⟩ ?_;·grind[wv]
 rintro a3 w3 vs M hd3 I ⟨bx2,rfl,hN3,hbx3⟩ hF3;show wx (Ay none) 0 xS _ _ a3 w3;refine wpIn_block ?_;have hit2:=λfn B D G=>it155 (V:=M) (fn':=fn) (tmps:=a3.tmps) (ps:=#[28,29]) (assign:=(AU (Az wa) [5,0,0,0]).getD 0 .skip) (body:=(AU (Az wa) [5,0,0,1]).getD 0 .skip) (D:=D) (l:=B) (bx:=bx2) (s:=d.ps) (xs:=d.procs)
  (J:=λi V2=>NI V d cb mt mp p1 p3 (λy=>(Dq d y).map Ty.v) (λy=>((d.procs.drop (d.procs.length-i)).find? λt=>decide (t.name=y)).map Pr.v) V2/\V2 bx2=some (cell (.slice d.ps.p d.ps.n d.ps.c) 24)) rfl (λi V2 A _=>⟨A.2,hd.procs.sub A.1.sub⟩) (λk x hx V2 A C w2 E=>by
   refine MT (N:=38) (insA:=[(3,pv p3),(29,Pr.v x)]) (outsA:=[3,7]) C E (K6 (u:=.int .i64 k) (z:=Pr.v x) (p:=28) (q:=29) (r:=3) I rfl (by decide) (by decide) (by decide)).1 (K6 (p:=28) (q:=29) (r:=3) I rfl (by decide) (by decide) (by decide)).2 (newAssignP x) (λvs M K=>?_);obtain⟨b,hb,e2,rfl⟩:=K;exact(newRoundP A.1 A.2 x M b hb e2).mono λ_ V4 h4=>⟨h4.1.cg (λ_=>rfl) (find_drop (nm:=Pr.name) (vv:=Pr.v) hx),h4.2⟩)
  ⟨by simpa using hN3,hbx3⟩ G
 refine MS (Φ:=λV2=>NI V d cb mt mp p1 p3 (λy=>(Dq d y).map Ty.v) (λy=>(Ch d y).map Pr.v) V2) hF3.le (I.get (s:=27) rfl) Tryz.call155 (λfn B D G=>Tri.mono (hit2 fn B D G) λe V' h=>?_) ?_
 ·obtain⟨h1,V2,h2,h3,h4⟩:=h;exact⟨h1,V2,h2,h3,by simpa [Ch]using h4.1⟩
 intro D2 V4 W4 hD2 S hn4 hW4 Z;show CQ none 0 xS _ (c80g++_) _ W4;have hS2:AI xS 38 c80g [(3,pv p3)] [2] V4 λvs V5=>V5=V4/\vs=[pv cb]:=by
  refine s80g ?_;unfold w80g;exact⟨_,An Z.b3,_,rfl,rfl,rfl⟩
 refine hS2.step S.le ⟨I.1,λs v hs=>I.2 s v ?_⟩ ?_;·grind[wv]
 rintro a5 w5 vs V5 hd5 hH5 ⟨rfl,rfl⟩ hF5;show wx (Ay none) 0 xS .ret _ a5 w5;refine wpIn_ret ?_;obtain⟨g1,g2,g3,g4⟩:=MZ hF1 hF2 hD hn2 hW hF3;obtain⟨k1,k2,k3,k4⟩:=MZ g1 S hD2 hn4 hW4 hF5;obtain⟨m1,m2⟩:=mark_keep (S.trans hF5) g4 g3;have hDlt:D<w3.heap.size:=(yE.1 g3).1;refine⟨.inr rfl,[D2,D],?_,by simp;omega,_,k1,λD' hD'=>?_,_,λw6 hw6=>results_tmp (t:=2) (by kernel_rfl) _ _ _,some ⟨cb,0,none⟩,by rw[hH5.get rfl],Z.sub,?_⟩;·simp_all
 ·grind
 ·exact⟨⟨cb,mt,mp,234,rfl,Z.ck,Z.mapT,Z.mapP⟩,hd.sub Z.sub⟩
section
variable{P:Program}{V:Mem}{ty:Nat}{vals:Operand->Value}
theorem GenK.shr{t u:TypeId}{x:Operand}{k h:IntKind}{n c:Int}(z:vals x=.int k n)(y:vals (.const (.int h c))=.int h c)(j:¬c<0){q:Value->Mem->Prop}(i:q (.int k (n.fdiv (2^(min c.toNat k.bits)))) V):GenK P (.binOp .shr t x (.const (.int h c)) u) ty vals V q:=by
 intro w hw;refine⟨_,w,V,?_,As.refl hw,i⟩;unfold execOp;simp[z,y,binOp,Op.shift,j,eqGuard]
theorem GenK.max2{a b:Operand}{ts:Array TypeId}{n1 n2:Int}(h1:vals a=.int .i64 n1)(h2:vals b=.int .i64 n2){q:Value->Mem->Prop}(h:q (.int .i64 (if n1<n2 then n2 else n1)) V):GenK P (.call {callee:=.builtin .max,args:=#[a,b],argTypes:=ts}) ty vals V q:=by
 intro w hw;refine⟨_,w,V,?_,As.refl hw,h⟩;unfold execOp;simp only[resolve,invoke,builtin,zN,zP,zO,xM,zH,List.map_nil,h1,h2];rfl
theorem GenK.min2{a b:Operand}{ts:Array TypeId}{n1 n2:Int}(h1:vals a=.int .i64 n1)(h2:vals b=.int .i64 n2){q:Value->Mem->Prop}(h:q (.int .i64 (if n2<n1 then n2 else n1)) V):GenK P (.call {callee:=.builtin .min,args:=#[a,b],argTypes:=ts}) ty vals V q:=by
 intro w hw;refine⟨_,w,V,?_,As.refl hw,h⟩;unfold execOp;simp only[resolve,invoke,builtin,zN,zP,zO,xM,zH,List.map_nil,h1,h2];rfl
theorem GenK.iface{t:TypeId}{ts:Array Field}{x:Operand}{v:Value}(h:P.underlying t=some (.struct ts))(u:vals x=v){q:Value->Mem->Prop}(z:q (.iface t v) V):GenK P (.makeInterface t x) ty vals V q:=by
 intro w hw;refine⟨_,w,V,?_,As.refl hw,z⟩;unfold execOp;simp[u,Instr.makeInterface,run_underlying h,zN]
end
section
variable{V:Mem}
theorem M0{n:Nat}{k:Nat}:((n:Int)).fdiv (2^k)=((n/2^k:Nat):Int):=by
 grind
theorem Rh(n:Nat)(h:n<18446744073709551616):K.inR .u64 (n:Int):=K.inR_iff.2 (by simp[IntKind.min,IntKind.max,IntKind.signed,IntKind.bits];omega)
end
abbrev Ia:KB:=Ad [0,1,2,2,3,3,3,3,4,4,4,4,4,4,4,4,5,5,5,5,5,5,5,5,5,5,5,5,5,5,5,5,6,6,6,6,6,6,6,6,6,6,6,6,6,6,6,6,6,6,6,6,6,6,6,6,6,6,6,6,6,6,6,6,7,7,7,7,7,7,7,7,7,7,7,7,7,7,7,7,7,7,7,7,7,7,7,7,7,7,7,7,7,7,7,7,7,7,7,7,7,7,7,7,7,7,7,7,7,7,7,7,7,7,7,7,7,7,7,7,7,7,7,7,7,7,7,7,8,8,8,8,8,8,8,8,8,8,8,8,8,8,8,8,8,8,8,8,8,8,8,8,8,8,8,8,8,8,8,8,8,8,8,8,8,8,8,8,8,8,8,8,8,8,8,8,8,8,8,8,8,8,8,8,8,8,8,8,8,8,8,8,8,8,8,8,8,8,8,8,8,8,8,8,8,8,8,8,8,8,8,8,8,8,8,8,8,8,8,8,8,8,8,8,8,8,8,8,8,8,8,8,8,8,8,8,8,8,8,8,8,8,8,8,8,8,8,8,8,8,8,8,8,8,8,8]
def lenN(n:Nat):Int:=if n=0 then 0 else(vD n:Int)+1
theorem lenTab_at{n:Nat}(h:n<256):Bq Ia (n:Int)=lenN n:=by
 have:((zB 256).all λn=>decide (Bq Ia (n:Int)=lenN n))=true:=by kernel_rfl
 simp_all
theorem log2_shift{n k:Nat}(h:2^k<=n):vD n=k+vD (n/2^k):=by
 have u:0<2^k:=vF k;have w:n/2^k≠0:=by
  simp_all
 have t:n≠0:=by omega
 have key:∀j,j<=vD (n/2^k)↔k+j<=vD n:=λj=>by
  rw[vG w,vG t,vH u,<-Nat.pow_add,Nat.add_comm]
 have h1:=(key (vD (n/2^k))).1 (yq _);have h2:k<=vD n:=(vG t).2 h;have h3:=(key (vD n-k)).2 (by omega);omega
theorem JJ{n k:Nat}(h:2^k<=n):lenN n=k+lenN (n/2^k):=by
 have u:0<2^k:=vF k;have t:n/2^k≠0:=by
  simp_all
 unfold lenN;rw[if_neg (by omega),if_neg t,log2_shift h];omega
theorem lenN_small{n:Nat}(h:n<256):0<=lenN n/\lenN n<=8:=by
 unfold lenN;split;·omega
 ·rename_i t;have:vD n<8:=(Nat.log2_lt t).2 h;omega
section
variable{V:Mem}
theorem c313{n:Nat}(y:n<=1099511627776):PP 313 [.int .u64 n] V (.int .i64 (lenN n)):=by
 refine x313 ?_;have shr:∀(k:Nat)(c:Int),min c.toNat vJ.bits=k->(n:Int).fdiv (2^(min c.toNat vJ.bits))=((n/2^k:Nat):Int):=λk c h=>by rw[h,M0]
 have t:∀(k c:Nat),k<256->c<=64->lenN n=c+lenN k->∀v:Int,v=(k:Int)->∀u:Int,u=(c:Int)->K.inR .u8 v/\(0<=v/\v<(Ia.size:Int))/\IR (Bq Ia v)/\IR (u+Bq Ia v)/\(rV (uI (u+Bq Ia v))=Ending.returned (.int .i64 (lenN n))/\V=V):=by
  rintro k c h1 h2 h3 _ rfl _ rfl;have h4:=lenN_small h1;have w:Ia.size=256:=by kernel_rfl
  rw[lenTab_at h1,w,h3];exact⟨⟨by omega,by omega⟩,⟨by omega,by omega⟩,⟨by omega,by omega⟩,⟨by omega,by omega⟩,rfl,rfl⟩
 refine⟨λh1=>GenK.shr rfl rfl (by decide) ⟨_,rfl,?_⟩,λh1=>⟨λh2=>GenK.shr rfl rfl (by decide) ⟨_,rfl,⟨by omega,by omega⟩,?_⟩,λh2=>⟨λh3=>GenK.shr rfl rfl (by decide) ⟨_,rfl,⟨by omega,by omega⟩,?_⟩,λh3=>?_⟩⟩⟩
 ·rw[shr 32 _ rfl];have e:=JJ (n:=n) (k:=32) (by omega);have x:n/2^32<=256:=by omega
  refine⟨λh=>by omega,λ_=>⟨λh2=>GenK.shr rfl rfl (by decide) ⟨_,rfl,⟨by omega,by omega⟩,?_⟩,λh2=>t _ 32 (by omega) (by omega) (by omega) _ rfl _ rfl⟩⟩;have z:=JJ (n:=n/2^32) (k:=8) (by omega);have:((n/2^32:Nat):Int).fdiv (2^(min (8:Int).toNat vJ.bits))=((n/2^32/2^8:Nat):Int):=by
   rw[show min (8:Int).toNat vJ.bits=8 from rfl,M0]
  rw[this];exact t _ 40 (by omega) (by omega) (by omega) _ rfl _ rfl
 ·rw[shr 16 _ rfl];have e:=JJ (n:=n) (k:=16) (by omega);refine⟨λh=>GenK.shr rfl rfl (by decide) ⟨_,rfl,⟨by omega,by omega⟩,?_⟩,λh=>t _ 16 (by omega) (by omega) (by omega) _ rfl _ rfl⟩;have z:=JJ (n:=n/2^16) (k:=8) (by omega);have:((n/2^16:Nat):Int).fdiv (2^(min (8:Int).toNat vJ.bits))=((n/2^16/2^8:Nat):Int):=by
   rw[show min (8:Int).toNat vJ.bits=8 from rfl,M0]
  rw[this];exact t _ 24 (by omega) (by omega) (by omega) _ rfl _ rfl
 ·rw[shr 8 _ rfl];have e:=JJ (n:=n) (k:=8) (by omega);exact t _ 8 (by omega) (by omega) (by omega) _ rfl _ rfl
 ·exact t _ 0 (by omega) (by omega) (by omega) _ rfl _ rfl
theorem c304{n:Nat}(h:n<=1099511627776):PP 304 [.int .u64 n] V (.int .i64 (lenN n)):=by
 refine x304 ?_;exact(c313 h).call ⟨_,rfl,rfl,rfl⟩
end
def fltE(e:Int):Ending:=.panicked [{v:=.iface 294 (.agg #[.int .i64 e]),recovered:=false}]
theorem GenK.panE{ty:Nat}{vals:Operand->Value}{V:Mem}{x:Operand}{e:Int}(u:vals x=.agg #[.int .i64 e]){R:Ending->Mem->Prop}(h:R (fltE e) V):
  GenK xS (.makeInterface 294 x) ty vals V λy V1=>∃v,K.r.ok v/\y=v/\∃t x,K.cast .r v=.iface t x/\R (.panicked [{v:=.iface t x,recovered:=false}]) V1:=
 GenK.iface Tryz.underlying294 u ⟨.iface 294 (.agg #[.int .i64 e]),(rfl:K.cast .r (.iface 294 (.agg #[.int .i64 e]))=_),rfl,_,_,rfl,h⟩
def AN(d:Ds)(F tk c cm:Int)(gs ns ls:Sl):List Value:=[Go.Sx.vS d.name,d.ts.v,d.gs.v,d.ps.v,d.ms.v,d.is.v,d.qs.v,d.bs.v,gs.v,ns.v,.int .i64 F,.int .i64 tk,.int .i64 c,.int .i64 cm,ls.v]
abbrev EM(V0:Mem)(d:Ds)(p F:Nat)(V:Mem)(s:St)(c:Nat):Prop:=MA 218 V0 p (AN d F s.tk c s.cm) V s
theorem Gj:NT 218:=by unfold NT;decide
structure ES (V0:Mem)(d:Ds)(F:Nat):Prop where
 ds:Ds.Ok V0 d
 valid:Bv d=true
 procs:∀p∈d.procs,Eb d p
 fuel:F<=4000
theorem ES.sub{V0 W:Mem}{d:Ds}{F:Nat}(h:ES V0 d F)(t:V0.sub W):ES W d F:=⟨h.ds.sub t,h.valid,h.procs,h.fuel⟩
def PX(V0:Mem)(d:Ds)(p F c:Nat)(r:Rx Int):Ending->Mem->Prop:=λe V'=>match r with
 |.ok v s=>e=.returned (.int .i64 v)/\EM V0 d p F V' s c
 |.bad k s=>e=fltE k/\∃h,EM V0 d p F V' s h
def PB(r:Rs)(V:Mem):Ending->Mem->Prop:=λe V'=>V'=V/\e=match r with|.ok v=>.returned (.int .i64 v)|.bad k=>fltE k
section
variable{V0 V V1:Mem}{d:Ds}{p F c:Nat}{s:St}
theorem c234{k:Int}{a:Option Addr}:Tri xS 234 #[.pointer a,.int .i64 k] V λe V'=>e=fltE k/\V'=V:=by
 refine x234 ?_;exact GenK.panE (e:=k) (R:=λe V'=>e=fltE k/\V'=V) rfl ⟨rfl,rfl⟩
theorem Gk{k:Int}{a:Option Addr}{K:Mem->Prop}{R:Ending->Mem->Prop}(h:R (fltE k) V):Tri xS 234 #[.pointer a,.int .i64 k] V λe V'=>(e=.returned (.tuple #[])/\K V')∨∃t,e=.panicked t/\R e V':=
 Tri.mono c234 λ_ _ ⟨u,w⟩=>.inr ⟨_,u,by simp_all⟩
theorem PX.split{f:FuncId}{args:Array Value}{r:Rx Int}{K:Int->Mem->Prop}{R:Ending->Mem->Prop}(H:Tri xS f args V (PX V0 d p F c r))(u:∀k s t V',r=.bad k s->EM V0 d p F V' s t->R (fltE k) V')(w:∀v s V',r=.ok v s->EM V0 d p F V' s c->K v V'):
  Tri xS f args V λe V'=>(∃v,e=.returned (.int .i64 v)/\K v V')∨∃z,e=.panicked z/\R e V':=
 Tri.mono H λe V' h=>by
  cases r with
  |ok v s=>exact .inl ⟨v,h.1,w v s V' rfl h.2⟩
  |bad k s=>
   obtain⟨y,t,hm⟩:=h;subst y;exact .inr ⟨_,rfl,u k s t V' rfl hm⟩
theorem PB.split{f:FuncId}{args:Array Value}{r:Rs}{K:Int->Mem->Prop}{R:Ending->Mem->Prop}(H:Tri xS f args V (PB r V))(h:∀k,r=.bad k->R (fltE k) V)(z:∀v,r=.ok v->K v V):
  Tri xS f args V λe V'=>(∃v,e=.returned (.int .i64 v)/\K v V')∨∃t,e=.panicked t/\R e V':=
 Tri.mono H λe V' ⟨u,w⟩=>by
  subst u;cases r with
  |ok v=>simp_all
  |bad k=>subst w;exact .inr ⟨_,rfl,h k rfl⟩
theorem PX.bind{f:FuncId}{args:Array Value}{G r:Rx Int}{h:Int->St->Rx Int}{K:Int->Mem->Prop}(t:G=r.bind h)(H:Tri xS f args V (PX V0 d p F c r))(u:∀v s V',r=.ok v s->EM V0 d p F V' s c->G=h v s->K v V'):
  Tri xS f args V λe V'=>(∃v,e=.returned (.int .i64 v)/\K v V')∨∃w,e=.panicked w/\PX V0 d p F c G e V':=
 PX.split H (λk s z V' e hm=>by subst e;rw[t];exact⟨rfl,z,hm⟩) λv s V' e hm=>u v s V' e hm (by rw[t,e];rfl)
theorem PX.ok{G:Rx Int}{v:Int}(h:G=.ok v s)(M:EM V0 d p F V s c):PX V0 d p F c G (.returned (.int .i64 v)) V:=by rw[h];exact⟨rfl,M⟩
theorem PX.bad{G:Rx Int}{k:Int}(h:G=.bad k s)(M:EM V0 d p F V s c):PX V0 d p F c G (fltE k) V:=by rw[h];exact⟨rfl,c,M⟩
theorem PX.last{f:FuncId}{args:Array Value}{G r:Rx Int}(h:G=r)(H:Tri xS f args V (PX V0 d p F c r)):
  Tri xS f args V λe V'=>(∃v,e=.returned (.int .i64 v)/\PX V0 d p F c G (.returned (.int .i64 v)) V')∨∃t,e=.panicked t/\PX V0 d p F c G e V':=by
 subst h;exact PX.split H (λk s u V' e hm=>by rw[e];exact⟨rfl,u,hm⟩) λv s V' e hm=>by rw[e];exact⟨rfl,hm⟩
theorem PB.last{f:FuncId}{args:Array Value}{G:Rx Int}{r:Rs}(h:G=DM r s)(M:EM V0 d p F V s c)(H:Tri xS f args V (PB r V)):
  Tri xS f args V λe V'=>(∃v,e=.returned (.int .i64 v)/\PX V0 d p F c G (.returned (.int .i64 v)) V')∨∃t,e=.panicked t/\PX V0 d p F c G e V':=
 PB.split H (λk e=>PX.bad (by rw[h,e];rfl) M) λv e=>PX.ok (by rw[h,e];rfl) M
theorem c308{b t:Nat}{s:KB}(h:V b=some (cell (.string s) t)){x:Fld}:PP 308 [x.v,pv b] V (.bool (decide (x.name=s))):=by
 refine x308 ?_;exact⟨_,An h,rfl,rfl⟩
theorem c136:JA 136 Fld.row Fld.v 2:=idC g136
theorem c152:JA 152 Ty.row Ty.v 2:=idC g152
theorem Ri:JA 95 Pr.row Pr.v 5:=idC Ot
theorem c295{l:Sl}{xs:List Fld}(h:Ab V l 2 (xs.map Fld.row)){s:KB}:PP 295 [l.v,.string s] V (.int .i64 (Cp xs s)):=by
 refine Bn.mk (x295 ?_);intro b w;have u:=Mem.sub_new w (cell (.string s) 9);exact(c136 (first:=[]) (caps:=[pv b]) (h.sub u) Tryz.call308 (λt=>decide (t.name=s)) (λx _=>c308 Au)).call ⟨_,rfl,rfl,u⟩
theorem c273{b t:Nat}{s:KB}(h:V b=some (cell (.string s) t)){x:Pr}:PP 273 [x.v,pv b] V (.bool (decide (x.name=s))):=by
 refine x273 ?_;exact⟨_,An h,rfl,rfl⟩
theorem c232(h:Ds.Ok V d){s:KB}:PP 232 [d.v,.string s] V (.int .i64 (AV d s)):=by
 refine Bn.mk (x232 ?_);intro b w;have u:=Mem.sub_new w (cell (.string s) 9);exact(Ri (first:=[]) (caps:=[pv b]) (h.procs.sub u) Tryz.call273 (λt=>decide (t.name=s)) (λx _=>c273 Au)).call ⟨_,rfl,rfl,u⟩
theorem c311{b t:Nat}{s:KB}(h:V b=some (cell (.string s) t)){x:Ty}:PP 311 [x.v,pv b] V (.bool (decide (x.name=s))):=by
 refine x311 ?_;exact⟨_,An h,rfl,rfl⟩
theorem c302(S:ES V0 d F)(h:EM V0 d p F V s c){nm:KB}:PP 302 [pv p,.string nm] V (.int .i64 (Bw d nm)):=by
 obtain⟨gs,ns,ls,nd,u,L⟩:=h.ex;refine Bn.mk (x302 ?_);refine⟨nn,nn,AM,d.ts,Aj u 1 1 (by simp[AN]),λb z=>?_⟩;have w:=Mem.sub_new z (cell (.string nm) 9);exact(c152 (first:=[]) (caps:=[pv b]) (S.ds.sub (L.sub.trans w)).types Tryz.call311 (λt=>decide (t.name=nm)) (λx _=>c311 Au)).call ⟨_,rfl,rfl,w⟩
theorem c306{b:Bool}:PP 306 [.bool b] V (.int .i64 (Er b)):=by
 refine x306 ?_;refine⟨λh=>?_,λh=>?_⟩;·rw[h];exact⟨rfl,rfl⟩
 ·rw[(Bool.not_eq_true b).mp h];exact⟨rfl,rfl⟩
theorem c303{n:Int}{a:Option Addr}:Tri xS 303 #[.pointer a,.int .i64 n] V (PB (CK n) V):=by
 refine Tri.mono (x303 (R:=PB (CK n) V) ?_) λ_ _ h=>h;have bad:¬(-1099511627776<=n/\n<=1099511627776)->PB (CK n) V (fltE 5) V:=λh=>⟨rfl,by grind[CK]⟩;refine⟨λh=>Gk (bad (by omega)),λh1=>⟨λh=>Gk (bad (by omega)),λh2=>⟨rfl,?_⟩⟩⟩;grind[CK]
theorem c314{n:Int}(h:-1099511627776<=n/\n<=1099511627776):PP 314 [.int .i64 n] V (.int .i64 (if n<0 then -n else n)):=by
 refine x314 ?_;refine⟨⟨by omega,by omega⟩,GenK.max2 rfl rfl ⟨_,rfl,?_⟩⟩;grind
theorem mul_big{a b:Int}(l:-1099511627776<=a/\a<=1099511627776)(r:-1099511627776<=b/\b<=1099511627776)(q:a≠0):((1099511627776:Int).tdiv (if a<0 then -a else a)<(if b<0 then -b else b))↔¬(-1099511627776<=a*b/\a*b<=1099511627776):=by
 obtain⟨x,w⟩:∃x:Nat,(if a<0 then -a else a)=(x:Int):=⟨a.natAbs,by split<;>omega⟩;obtain⟨y,z⟩:∃y:Nat,(if b<0 then -b else b)=(y:Int):=⟨b.natAbs,by split<;>omega⟩;have h:x=a.natAbs:=by omega
 have t:y=b.natAbs:=by omega
 have u:0<x:=by omega
 rw[w,z];have j:(1099511627776:Int).tdiv (x:Int)=((1099511627776/x:Nat):Int):=by
  rfl
 rw[j];have o:(a*b).natAbs=x*y:=by rw[Int.natAbs_mul,h,t]
 have i:(-1099511627776<=a*b/\a*b<=1099511627776)↔x*y<=1099511627776:=by omega
 rw[i];have e:y<=1099511627776/x↔y*x<=1099511627776:=vH u;grind
theorem mul_in{a b:Int}(_:-1099511627776<=a/\a<=1099511627776)(_:-1099511627776<=b/\b<=1099511627776)(h:a=0∨(-1099511627776<=a*b/\a*b<=1099511627776)):IR (a*b):=by
 rcases h with rfl|h;·rw[Int.zero_mul];exact⟨by omega,by omega⟩
 ·exact⟨by omega,by omega⟩
theorem K7{a:Int}(h:-1099511627776<=a/\a<=1099511627776){b:Int}:xT .i64 (a.tdiv b)=a.tdiv b:=by
 have:=tdiv_in (b:=b) h;rw[IntKind.wrap_i64];omega
theorem c307{a:Option Addr}{op v w:Int}(Z:op=9∨op=10∨op=11∨op=12∨op=13∨op=22∨op=23)(hv:-1099511627776<=v/\v<=1099511627776)(hw:-1099511627776<=w/\w<=1099511627776):Tri xS 307 #[.pointer a,.int .i64 op,.int .i64 v,.int .i64 w] V (PB (Bh op v w) V):=by
 refine Tri.mono (x307 (R:=PB (Bh op v w) V) ?_) λ_ _ h=>h;have y:∀{n:Int},Bh op v w=CK n->Tri xS 303 #[.pointer a,.int .i64 n] V λe V'=>(∃u,e=.returned (.int .i64 u)/\PB (Bh op v w) V (.returned (.int .i64 u)) V')∨∃j,e=.panicked j/\PB (Bh op v w) V e V':=λe=>PB.split c303 (λk i=>⟨rfl,by rw[e,i]⟩) λn l=>⟨rfl,by rw[e,l]⟩;have good:∀{n:Int},Bh op v w=.ok n->PB (Bh op v w) V (.returned (.int .i64 n)) V:=λe=>⟨rfl,by rw[e]⟩;have bad:∀{k:Int},Bh op v w=.bad k->PB (Bh op v w) V (fltE k) V:=λe=>⟨rfl,by rw[e]⟩;have x:∀{n:Int},-2199023255552<=n/\n<=2199023255552->IR n:=λh=>⟨by omega,by omega⟩;have wr:=K7 (b:=w) hv;refine⟨λh=>⟨x (by omega),y (by grind[Bh])⟩,λY=>⟨λh=>⟨x (by omega),y (by grind[Bh])⟩,λr=>⟨λh=>?_,λq=>⟨λh=>?_,λz=>⟨λh=>?_,λo=>⟨λh=>?_,λJ=>?_⟩⟩⟩⟩⟩⟩
 ·have e:Bh op v w=CK (v*w):=by grind[Bh]
  have fit:(-1099511627776<=v*w/\v*w<=1099511627776)->PB (Bh op v w) V (.returned (.int .i64 (v*w))) V:=λk=>good (by grind[CK]);refine⟨λt=>⟨mul_in hv hw (.inl t),fit ?_⟩,λt=>?_⟩;·simp_all
  have t:¬v=0:=t;have G:xT .i64 ((1099511627776:Int).tdiv (if v<0 then -v else v))=(1099511627776:Int).tdiv (if v<0 then -v else v):=K7 ⟨by omega,by omega⟩;refine(c314 hw).call ⟨_,rfl,(c314 hv).call ⟨_,rfl,by split<;>omega,?_⟩⟩;rw[G];refine⟨λk=>Gk (bad ?_),λk=>?_⟩;·simp_all[CK,if_neg,mul_big]
  simp_all[Classical.not_not,mul_big,mul_in,inr]
 ·have e:w≠0->Bh op v w=.ok (v.tdiv w):=λk=>by grind[Bh]
  first|rw[wr]|(unfold w307_0;rw[wr])
  refine⟨λt=>Gk (bad ?_),λt=>⟨λ_=>⟨t,good (e t)⟩,λk=>absurd h k⟩⟩;grind[Bh]
 ·have e:w≠0->Bh op v w=.ok (v.tmod w):=λk=>by grind[Bh]
  refine⟨λt=>Gk (bad ?_),λt=>⟨λk=>absurd k z,λ_=>⟨t,good (e t)⟩⟩⟩;grind[Bh]
 ·exact GenK.max2 rfl rfl ⟨_,rfl,good (by grind[Bh])⟩
 ·have N:op=23:=by
   omega
  exact GenK.min2 rfl rfl ⟨_,rfl,good (by grind[Bh])⟩
end
end Go.Proofs
