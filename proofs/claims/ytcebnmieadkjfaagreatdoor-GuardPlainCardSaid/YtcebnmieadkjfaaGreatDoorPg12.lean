/- Part 12: no statement of the seat is proved here. -/
import Derived.Test.YtcebnmieadkjfaaGreatDoorPg11
import Derived.TacticsIn
import Derived.RangeFuncNested
set_option linter.unusedVariables false
set_option linter.unusedSimpArgs false
open Array renaming replicate->xd,getElem?_eq_some_iff->yA,all_eq_true'->xb,getD_eq_getD_getElem?->wO,getElem?_setIfInBounds_ne->wP
open Bool renaming and_eq_true->zC
open List renaming range->zB,prefix_refl->yw,range_eq_range'->xa,prefix_append->yC,zip_cons_cons->wB,lookup_cons->zc,nodup_cons->yU,range'->wI,take_of_length_le->wR
open Nat renaming le_refl->yV
open Option.some renaming injEq->zF
open Go.Code renaming wpIn->wA
open Option renaming map_eq_some_iff->zi
open Go.Ending.returned renaming injEq->wC
open Go.Value.tuple renaming injEq->wD
open Go.World renaming alloc_heap_new->wE,putObj_heap_other->wF,putObj_size->wG,putObj_heap_same->wH
open Go.RowKit.Below renaming heap_alloc->xS
open Go.Proofs.Tryz renaming prog->xG,f302->wJ,f228->wK,f229->wL,f283->wM,f128->wN,underlying319->xn,underlying9->xo,underlying360->wQ
open Go.Value renaming string->yo
namespace Go.Sx
open Go
open Classical in
theorem Ma{P:Program}{F:Fence}{g:Nat}{c:Code}{Q:Exit->Act->World->Prop}{a:Act}{w:World}(Inv:Nat->Act->World->Prop)(u:∃n,Inv n a w)
  (round:∀n a w,Inv n a w->c.wpIn F g P (Exit.then (λf w'=>∃t,t<n/\Inv t f w') Q) a w):(Code.loop c).wpIn F g P Q a w:=by
 let m:Act->World->Nat:=λa w=>if h:∃n,Inv n a w then Classical.choose (JK _ h)else 0
 have hm:∀a w (h:∃n,Inv n a w),Inv (m a w) a w/\∀k,Inv k a w->m a w<=k:=λa w h=>by
  grind
 refine wpIn_loop (λa w=>∃n,Inv n a w) m u λa w z=>?_;obtain⟨y,x⟩:=hm a w z;refine wpIn_mono (round _ a w y) (λe f w' q=>?_);grind
section
variable{all:Array Oper}{k:St->Tr}{Q:Exit->Act->World->Prop}
variable{P:Program}{R:Ending->Mem->Prop}{V0:Mem}{w0:World}{L:List (KZ)}{ρ0:List Value}{fs:List Nat}{H:Ca}
theorem O9(g:Dz P fs){st:St}{a:Act}{w:World}(Z:EY R V0 w0 a.defers Q)(h:AV P R CZ V0 w0 H.N L ρ0 a.tmps w st (HD P fs H all st k))
  (z:LetsOut (λ(_:Exit) (_:Act) (_:World)=>False)->LetsOut Q)
  (Y:∀u y w',y.defers=a.defers->AV P R CZ V0 w0 H.N L ρ0 y.tmps w' u (k u)->Q .normal y w'):wpAny P .any all Q all.size (xd all.size false) a {w with drawn:=w.drawn+1}:=by
 unfold HD at h;simp only at h;obtain⟨β,ρ,V,hp,W,l⟩:=h;split at l;case isFalse=>exact l.elim
 rename_i J;simp only[zC,List.all_eq_true]at J;obtain⟨r,q⟩:=J;obtain⟨b,A,G,e,I⟩:=Lq r;have t:∀j d,j<all.size->(xd all.size false).getD j d=false:=λj d f=>by simp_all
 refine(any_sound g b (λi o M=>q o (by grind)) Z z Y all.size (zB all.size) (GP all (B5 all.toList []) all.size 0) [] st _ a _ a [] CZ (λx=>x) ?_ rfl List.nodup_range (by simp) λj=>?_)
 ·exact
  {lsize:=by simp
   closed:=λj F f v=>by
    rw[t j _ (yA.1 f).1]at v;cases v
   chain:=I
   nd:=G
   bound:=e
   unl:=λj f _=>.inr (nodup_all G e A f)
   pu:=λj f=>by cases f
   ru:=λj f=>.inl (t j _ (e j f))
   boi:=λi X j f v=>by omega
   fsize:=rfl
   fdef:=rfl
   fill:=λs _=>rfl
   goes:=⟨_,β,ρ,V,hp,W.drawn _,l⟩}
 simp_all
end
section
variable{P:Program}{R:Ending->Mem->Prop}{O V0:Mem}{w0:World}{fs:List Nat}{H:Ca}
theorem noOut(Q:Exit->Act->World->Prop):¬LetsOut (λe g w'=>e≠.outgrown/\Q e g w'):=λ⟨_,_,h⟩=>h.1 rfl
theorem nd1{x y:Bool}(h:(x&&y)=true):x=true:=by simp_all
theorem Gz{x y:Bool}(h:(x&&y)=true):y=true:=by simp_all
theorem ndOps{id:Nat}{ops:Array Oper}{d:Bool}(h:EH (.region id ops d)=true):∀o∈ops,I3 o.op=true:=by
 grind[EH,xb]
theorem ex_sound_in{r:Option Nat}{n₀:Nat}(Y:Dz P fs)(hm:P.follows .mixedOrders=true):∀(c:Code),EH c=true->∀(L:List (KZ))(ρ0:List Value)(st:St)(k:Ex->St->Tr)(a:Act)(w:World)(Q:Exit->Act->World->Prop),
  EY R V0 w0 a.defers Q->AV P R CZ V0 w0 H.N L ρ0 a.tmps w st (ex P fs H c st k)->
  (∀e g u w' F,L<+:F->u.defers=a.defers->AV P R CZ V0 w0 H.N F ρ0 u.tmps w' g (k e g)->Q e.toExit u w')->c.wpIn (Au r) n₀ P Q a w:=by
 intro c;induction c with
 |skip=>intro nd L ρ0 st k a w Q l h f;exact wpIn_skip (f .normal st a w L (yw _) rfl h)
 |ret=>intro nd L ρ0 st k a w Q l h f;exact wpIn_ret (f .ret st a w L (yw _) rfl h)
 |exit id=>intro nd L ρ0 st k a w Q l h f;exact wpIn_exit (f (.exit id) st a w L (yw _) rfl h)
 |seq x y X B=>
  intro nd L ρ0 st k a w Q l h f;refine wpIn_seq (X (nd1 nd) L ρ0 st _ a w _ l h λe g u w' F hL s G=>?_);cases e with
  |normal=>exact B (Gz nd) F ρ0 g k u w' Q (by grind) G λe st'' a'' w'' L'' hL' hd' hg'=>f e st'' a'' w'' L'' (hL.trans hL') (hd'.trans s) hg'
  |exit i=>exact f (.exit i) g u w' F hL s G
  |ret=>exact f .ret g u w' F hL s G
 |block id b ih=>
  intro nd L ρ0 st k a w Q l h f;refine wpIn_block (ih nd L ρ0 st _ a w _ l h λe g u w' F hL s G=>?_);cases e with
  |normal=>exact f .normal g u w' F hL s G
  |exit i=>
   simp only at G;show(if i=id then Q .normal u w' else Q (.exit i) u w');split;·rename_i e;rw[if_pos e]at G;exact f .normal g u w' F hL s G
   ·rename_i e;rw[if_neg e]at G;exact f (.exit i) g u w' F hL s G
  |ret=>exact f .ret g u w' F hL s G
 |cond c x y X B=>
  intro nd L ρ0 st k a w Q l h f;obtain⟨β,ρ,V,M,W,z⟩:=h;simp only[ex]at z;split at z
  ·rename_i v hv;have he:a.eval c=.bool v:=A3 W hv;cases v with
   |true=>exact wpIn_cond_true he (X (nd1 nd) L ρ0 st k a w Q l ⟨β,ρ,V,M,W,z⟩ f)
   |false=>exact wpIn_cond_false he (B (Gz nd) L ρ0 st k a w Q l ⟨β,ρ,V,M,W,z⟩ f)
  ·rename_i t _ ht;split at z
   ·rename_i hc;obtain⟨hc1,hc2⟩:=hc;obtain⟨b,hb⟩:=Fq (ρ:=ρ) (β:=β) hc1;have he:a.eval c=.bool b:=(A3 W ht).trans hb;have hfr:=(T.ev_free (β:=id) (β':=β) (ρ:=ρ) t hc2).1;split at z
    ·rename_i d;simp only[D,hfr,hb,asB]at z;have A:Rel CZ V0 w0 H.N β (st.now d (.bool b)) ρ V a.tmps w:=W.now (t:=t) ht (by rw[hb];rfl);cases b with
     |true=>exact wpIn_cond_true he (X (nd1 nd) L ρ0 _ k a w Q l ⟨β,ρ,V,M.now _ _,A,z.1 rfl⟩ f)
     |false=>exact wpIn_cond_false he (B (Gz nd) L ρ0 _ k a w Q l ⟨β,ρ,V,M.now _ _,A,z.2 rfl⟩ f)
    ·simp only[D,hfr,hb,asB]at z;cases b with
     |true=>exact wpIn_cond_true he (X (nd1 nd) L ρ0 _ k a w Q l ⟨β,ρ,V,M,W,z.1 rfl⟩ f)
     |false=>exact wpIn_cond_false he (B (Gz nd) L ρ0 _ k a w Q l ⟨β,ρ,V,M,W,z.2 rfl⟩ f)
   ·exact z.elim
  ·exact z.elim
 |region id ops draw=>
  intro nd L ρ0 st k a w Q l h f;cases draw with
  |true=>
   refine wpIn_mono (wpIn_region_any (Q:=λe u w'=>e≠.outgrown/\Q e u w') hm (O8 (noOut Q) (λo ho=>Kf (ndOps nd o ho)) _ _ _ _ (O9 Y (λch u w' s hR=>⟨by simp,l ch u w' s hR⟩) h (λ⟨_,_,h⟩=>h.elim) λg u w' s G=>⟨by simp,f .normal g u w' L (yw _) s G⟩))) λe a w h=>h.2
  |false=>
   refine wpIn_mono (wpIn_region (Q:=λe u w'=>e≠.outgrown/\Q e u w') ?_) λe a w h=>h.2;rw[xa,<-Array.length_toList];exact L9 (noOut Q) (λo ho=>Kf (ndOps nd o ho)) _ _ (λj _=>by simp) _ _ (HL Y ops.toList st a w (λch u w' s hR=>⟨by simp,l ch u w' s hR⟩) h λg u w' s G=>⟨by simp,f .normal g u w' L (yw _) s G⟩)
 |loop b ih=>
  intro nd L ρ0 st k a w Q l h f;obtain⟨β,ρ,V,M,W,z⟩:=h;simp only[ex,exLoop]at z;generalize dedup (FH b)=ws at z;generalize(((FI b).bind λi=>H.loops.lookup i).getD [])=hint at z;obtain⟨g,t,G,hfree,β',E,V',K,hr',q⟩:=DK _ _ _ _ ⟨β,ρ,V,M,W,z⟩;split at q;case isFalse=>exact q.elim
  rename_i hw;split at q;·exact q.elim
  ·rename_i st1 bs hgb;split at q;·exact q.elim
   ·rename_i init hinit;split at q;case isFalse=>exact q.elim
    rename_i hok;simp only[D]at q;obtain⟨I,μ,hI,S⟩:=q;obtain⟨hrh,hsh⟩:=IB hw hr'.nv (yw _) hgb hinit hok hr';let Inv:Nat->Act->World->Prop:=λn u w'=>∃β xs V',Shaped (bs.flatMap (·.2.2)++(Ce ws st1).2.flatMap (·.2.2)) xs/\I xs V'/\μ xs V'=n/\
     Rel CZ V0 w0 H.N β {(Ce ws st1).1 with depth:=g.depth+1} (E++xs) V' u.tmps w'/\u.defers=a.defers
    refine Ma Inv ⟨_,β',init.evs E id,V',hsh,hI,rfl,hrh,rfl⟩ ?_;rintro n a1 w1 ⟨β1,xs,V1,hsh1,hI1,rfl,hr1,U⟩;have hDb:=S xs V1 hsh1 hI1;refine ih nd (L++[λys C=>I ys C/\μ ys C<μ xs V1]) E _ _ a1 w1 _ (by rw[U];exact l) ⟨β1,E++xs,V1,⟨yC _ _,?_⟩,hr1,hDb⟩ ?_;·simp[K.2]
    ·intro e st2 a2 w2 L2 hL2 hd2 hg2;cases e with
     |normal=>
      obtain⟨β2,ρ2,V2,hp2,hr2,Z⟩:=hg2;simp only at Z;split at Z
      ·rename_i vs hvs;split at Z
       ·rename_i hok2;simp only[D]at Z;obtain⟨J,hJ,hJ2⟩:=Z;have hlvl:L2[g.depth]?=some (λys C=>I ys C/\μ ys C<μ xs V1):=by
         obtain⟨σ,rfl⟩:=hL2;rw[<-K.2,List.getElem?_append_left (by simp),List.getElem?_append_right (yV _)];simp
        rw[hlvl]at hJ;simp only[zF]at hJ;subst hJ;obtain⟨hrh2,hsh2⟩:=IB hw hr'.nv hp2.1 hgb hvs hok2 hr2;exact⟨_,hJ2.2,β2,vs.evs ρ2 id,V2,hsh2,hJ2.1,rfl,hrh2,hd2.trans U⟩
       ·exact Z.elim
      ·exact Z.elim
     |exit i=>exact f (.exit i) st2 a2 w2 L2 ((yC _ _).trans hL2) (hd2.trans U) (hg2.weak K.1)
     |ret=>exact f .ret st2 a2 w2 L2 ((yC _ _).trans hL2) (hd2.trans U) (hg2.weak K.1)
 |rangeFunc _ _ _ _ _ _=>intro nd L ρ0 st k a w Q l h f;obtain⟨β,ρ,V,M,W,z⟩:=h;exact z.elim
 |scope _ _=>intro nd L ρ0 st k a w Q l h f;obtain⟨β,ρ,V,M,W,z⟩:=h;exact z.elim
 |label _=>intro nd L ρ0 st k a w Q l h f;obtain⟨β,ρ,V,M,W,z⟩:=h;exact z.elim
 |goto _=>intro nd L ρ0 st k a w Q l h f;obtain⟨β,ρ,V,M,W,z⟩:=h;exact z.elim
 |refuse _=>intro nd L ρ0 st k a w Q l h f;obtain⟨β,ρ,V,M,W,z⟩:=h;exact z.elim
end
section
variable{P:Program}{fs:List Nat}{H:Ca}
def Cq(r:Option Nat)(n:Nat)(P:Program)(Q:Exit->Act->World->Prop):List Code->Act->World->Prop
 |[],a,w=>Q .normal a w
 |c::cs,a,w=>c.wpIn (Au r) n P (Exit.then (Cq r n P Q cs) Q) a w
def flat:Code->List Code
 |.seq x y=>flat x++flat y
 |c=>[c]
theorem Mb{r:Option Nat}{n:Nat}{Q:Exit->Act->World->Prop}{g:List Code}:∀{f:List Code}{a:Act}{w:World},Cq r n P (Exit.then (Cq r n P Q g) Q) f a w->Cq r n P Q (f++g) a w
 |[],_,_,h=>h
 |c::cs,a,w,h=>by
  refine wpIn_mono (show c.wpIn (Au r) n P _ a w from h) λe u w' t=>?_;cases e with
  |normal=>exact Mb t
  |_=>exact t
theorem EI{r:Option Nat}{n:Nat}{Q f:Exit->Act->World->Prop}(g:∀e a w,Q e a w->f e a w):∀{l:List Code}{a:Act}{w:World},Cq r n P Q l a w->Cq r n P f l a w
 |[],_,_,h=>g _ _ _ h
 |c::cs,a,w,h=>by
  refine wpIn_mono (show c.wpIn (Au r) n P _ a w from h) λe u w' t=>?_;cases e with
  |normal=>exact EI g t
  |_=>exact g _ _ _ t
theorem Kg{r:Option Nat}{n:Nat}{Q:Exit->Act->World->Prop}{g:List Code}:∀{f:List Code}{a:Act}{w:World},Cq r n P Q (f++g) a w->Cq r n P (Exit.then (Cq r n P Q g) Q) f a w
 |[],_,_,h=>h
 |c::cs,a,w,h=>by
  refine wpIn_mono (show c.wpIn (Au r) n P _ a w from h) λe u w' t=>?_;cases e with
  |normal=>exact Kg t
  |_=>exact t
theorem E9{r:Option Nat}{n:Nat}:∀{c:Code}{Q:Exit->Act->World->Prop}{a:Act}{w:World},Cq r n P Q (flat c) a w->c.wpIn (Au r) n P Q a w:=by
 intro c;induction c with
 |seq x y f t=>
  intro Q a w h;refine wpIn_seq (f ?_);refine EI (λe a w g=>?_) (Kg h);cases e with
  |normal=>exact t g
  |_=>exact g
 |_=>
  intro Q a w h;refine wpIn_mono (show wA (Au r) n P _ _ a w from h) λe u w' g=>?_;cases e with
  |normal=>exact g
  |_=>exact g
def AO(P:Program)(N:Nat)(cs:List Code)(h:List (Nat×Value))(outs:List Nat)(V:Mem)(R:KZ):Prop:=
 ∀r n a w,V.le w->a.tmps.size=N->(∀s v,h.lookup s=some v->a.tmps.getD s undef=v)->
  Cq r n P (λe g w'=>e=.normal/\g.defers=a.defers/\g.tmps.size=N/\∃vs V',(∀s v,(outs.zip vs).lookup s=some v->g.tmps.getD s undef=v)/\R vs V'/\Aq V w V' w') cs a w
theorem AO.mono{N:Nat}{cs:List Code}{g:List (Nat×Value)}{outs:List Nat}{V:Mem}{R f:KZ}(h:AO P N cs g outs V R)(t:∀vs V',R vs V'->f vs V'):AO P N cs g outs V f:=
 λr n a w u z y=>EI (λ_ _ _ ⟨x,j,i,vs,V',l,q,h6⟩=>⟨x,j,i,vs,V',l,t _ _ q,h6⟩) (h r n a w u z y)
def AU(P:Program)(fs:List Nat)(H:Ca):List Code->St->(Ex->St->Tr)->Tr
 |[],st,k=>k .normal st
 |c::cs,st,k=>ex P fs H c st λe st=>match e with|.normal=>AU P fs H cs st k|e=>k e st
def segT(P:Program)(fs:List Nat)(H:Ca)(cs:List Code)(slots:List (Nat×T))(nv:Nat)(outs:List Nat):Tr:=
 if(slots.all λx=>x.2.wf nv 0)/\cs.all EH then
  AU P fs H cs {slots,boxes:=[],nv,nb:=0,depth:=0} λe st=>
   match e with
   |.normal=>pubT (st.nb+2) st (λst=>(Ew st outs).map T.tup) λ_ t=>.ret t
   |_=>.bad 60 0
 else .bad 61 0
theorem exL_sound{R:Ending->Mem->Prop}{V0:Mem}{w0:World}{r:Option Nat}{n:Nat}(g:Dz P fs)(hm:P.follows .mixedOrders=true){k:Ex->St->Tr}{Q:Exit->Act->World->Prop}{ρ0:List Value}:∀{cs:List Code}{L:List (KZ)}{st:St}{a:Act}{w:World},
  EY R V0 w0 a.defers Q->AV P R CZ V0 w0 H.N L ρ0 a.tmps w st (AU P fs H cs st k)->cs.all EH=true->
  (∀e f u w' z,L<+:z->u.defers=a.defers->AV P R CZ V0 w0 H.N z ρ0 u.tmps w' f (k e f)->Q e.toExit u w')->Cq r n P Q cs a w
 |[],L,st,a,w,_,h,_,y=>y .normal st a w L (yw _) rfl h
 |c::cs,L,st,a,w,Z,h,t,y=>by
  simp only[List.all_cons,zC]at t;refine ex_sound_in g hm c t.1 L ρ0 st _ a w _ Z h λe f u w' z j l q=>?_;cases e with
  |normal=>exact exL_sound g hm (by grind) q t.2 λe x o b s v J G=>y e x o b s (j.trans v) (J.trans l) G
  |exit i=>exact y (.exit i) f u w' z j l q
  |ret=>exact y .ret f u w' z j l q
end
section
variable{P:Program}{fs:List Nat}{H:Ca}
theorem Kh{f:T->Value}:∀{l:List Nat}{ts:List T}{s:Nat}{v:Value},(l.zip (ts.map f)).lookup s=some v->∃t,(l.zip ts).lookup s=some t/\f t=v/\s∈l
 |[],_,s,v,h=>by simp at h
 |x::xs,[],s,v,h=>by simp at h
 |x::xs,t::ts,s,v,h=>by
  simp only[List.map_cons,wB,zc]at h⊢;by_cases e:s=x;·simp_all
  ·have:(s==x)=false:=by simpa using e
   rw[this]at h⊢;obtain⟨g,u,w,z⟩:=Kh h;simp_all
theorem Ki{f:T->Value}:∀{l:List (Nat×T)}{s:Nat}{t:T},l.lookup s=some t->(l.map λx=>(x.1,f x.2)).lookup s=some (f t)
 |[],s,t,h=>by simp at h
 |(x,u)::xs,s,t,h=>by
  simp only[List.map_cons,zc]at h⊢;split at h;·simp_all
  ·exact Ki h
theorem seg_sound(f:Dz P fs)(hm:P.follows .mixedOrders=true){N:Nat}{cs:List Code}{slots:List (Nat×T)}{nv:Nat}{outs:List Nat}{t:Tr}(K:segT P fs {H with N:=N} cs slots nv outs=t)(ρ:List Value)(S:ρ.length=nv)
  {z:List (Nat×Value)} (l:z=slots.map λx=>(x.1,x.2.ev ρ id)) {V:Mem} {R:KZ} {q:Prop} (U:q=DT P {} (λe V'=>∃vs:List Value,e=.returned (.tuple vs.toArray)/\R vs V') t [] ρ V) (h:q):
  AO P N cs z outs V R:=by
 intro r n a w hV hN hs;subst U l K;have g:=Df _ _ _ _ h;unfold segT at g;split at g;case isFalse=>exact g.elim
 rename_i hw;obtain⟨hwf,W⟩:=hw;refine exL_sound (L:=[]) (ρ0:=ρ) (V0:=V) (w0:=w) f hm (λ_ _ _ _ h=>by simp_all) ⟨id,ρ,V,⟨yw _,rfl⟩,?_,g⟩ W ?_
 ·exact
   {nv:=S
    size:=hN
    slots:=λs t J=>by
     have hl:=GZ J;simp_all[Ki,id]
    frm:=Aq.refl hV
    boxes:=λi cs ty F=>by simp[St.box]at F
    hid:=λb o hb=>by cases hb
    inj:=λi j F _ _=>by grind}
 ·intro e st' a' w' L' _ hd J;cases e with
  |exit j=>obtain⟨β,u,V2,X,G,g⟩:=J;exact g.elim
  |ret=>obtain⟨β,u,V2,X,G,g⟩:=J;exact g.elim
  |normal=>
   obtain⟨st2,t2,Z,A,β,u,V2,X,G,g⟩:=DK _ _ _ _ J;simp only[zi]at Z;obtain⟨x,B,rfl⟩:=Z;simp only[D]at g;obtain⟨vs,h1,h2⟩:=g;simp only[T.ev,wC,wD]at h1;have I:T.evs u id x=vs:=by simp_all
   refine⟨rfl,hd,G.size,vs,V2,λs v Y=>?_,h2,G.frm⟩;rw[<-I,C9]at Y;obtain⟨t,g1,g2,C⟩:=Kh Y;obtain⟨y,E,g5⟩:=It B s C;have M:=Is B s C;rw[g1,E]at M;simp only[zF]at M;subst M;rw[G.slots s t E,<-g2];grind[Iu,T.firstBox,T.ev_free]
end
section
variable{P:Program}
def Bg(fn:FuncId)(tmps:Array Value)(ps:Array Tmp)(assign body:Code)(D:Nat):Loop:={state:=.ready,pending:=none,fn,tmps,params:=ps,assign,body,defers:=D}
theorem Kj{g:Operand}{ps:Array Tmp}{assign body:Code}{a:Act}{w:World}{V:Mem}{f:FuncId}{caps:Array Value}{n:Nat}{Q:Exit->Act->World->Prop}{Φ:Mem->Prop}
  (r:V.le w) (I:a.eval g=.func (.func f) #[] caps) (M:∀args w,(callFunc f args).run P w=.ok (.enter f args) w)
  (q:∀fn l D,V l=none->Tri P f (#[.func (.yield l) #[] #[]]++caps) (V.set l (.loop (Bg fn a.tmps ps assign body D))) λe V'=>(∃v,e=.returned v)/\∃V2,V'=V2.set l (.loop (Bg fn a.tmps ps assign body D))/\V2 l=none/\Φ V2)
  (x:∀D V' W,w.heap.size<=D->Aq V w V' W->V' D=none->W.heap[D]?=some (.deferred (some []))->Φ V'->Q .normal {a with defers:={target:=.collected D,args:=#[]}::a.defers} W):
  (Code.rangeFunc g ps assign body).wpIn (Au none) n P Q a w:=by
 refine wpIn_rangeFunc λfn _=>?_;obtain⟨t,z⟩:∃t,(w.alloc (.deferred (some []))).alloc (.loop (Bg fn a.tmps ps assign body w.heap.size))=t:=⟨_,rfl⟩;have F:t.heap.size=w.heap.size+2:=by rw[<-z];simp
 have X:t.heap[w.heap.size+1]?=some (.loop (Bg fn a.tmps ps assign body w.heap.size)):=by
  grind[wE,Bg,World.size_alloc]
 have s:t.heap[w.heap.size]?=some (.deferred (some [])):=by
  grind[xS,wE]
 have hold:∀b,b<w.heap.size->t.heap[b]?=w.heap[b]?:=λb u=>by
  grind[xS]
 have J:∀b,w.heap.size<=b->V b=none:=λb u=>by
  cases A:V b with
  |none=>rfl
  |some o=>have:=(yA.1 (r b o A)).1;omega
 have G:(V.set (w.heap.size+1) (.loop (Bg fn a.tmps ps assign body w.heap.size))).le t:=λb o u=>by
  by_cases e:b=w.heap.size+1;·grind[Mem.set_same]
  ·rw[Mem.set_ne e]at u;have:=(yA.1 (r b o u)).1;rw[hold b this];exact r b o u
 refine⟨w.heap.size+1,[{target:=.collected w.heap.size,args:=#[]}],t,{target:=.fn (.func f) caps,args:=#[.func (.yield (w.heap.size+1)) #[] #[]]},t,f,
  #[.func (.yield (w.heap.size+1)) #[] #[]]++caps,t,?_,?_,?_,?_,λh=>by simp[Au,Fence.wide]at h,?_⟩
 ·rw[<-z];exact run_enterLoop_outer _ _ _ _ _
 ·simp only[resolve,I];simp[go_sem]
 ·intro E B;trivial
 ·simp[invoke,go_sem,M]
 ·refine Ke.2 (Gn (q fn (w.heap.size+1) w.heap.size (J _ (by omega)) t G) ?_);rintro e j ⟨V',⟨⟨v,rfl⟩,V2,rfl,K,N⟩,y⟩;have i:j.heap[w.heap.size+1]?=some (.loop (Bg fn a.tmps ps assign body w.heap.size)):=y.le _ _ (Mem.set_same _ _ _);have C:w.heap.size+1<j.heap.size:=(yA.1 i).1;refine⟨none,_,run_endLoop (P:=P) i (by simp[Bg]),?_⟩;have Z:(V.set (w.heap.size+1) (.loop (Bg fn a.tmps ps assign body w.heap.size))) w.heap.size=none:=by
   simp_all[Mem.set_ne,yV]
  have Y:j.heap[w.heap.size]?=some (.deferred (some [])):=(y.old _ (by omega) Z).trans s;refine x w.heap.size V2 _ (yV _) ?_ ?_ ((wF (by omega)).trans Y) N
  ·refine⟨?_,λb o u=>?_,λb u S=>?_,λb u=>?_,?_,?_⟩;·grind[wG]
   ·have e:b≠w.heap.size+1:=λe=>by simp_all
    refine(wF e).trans (y.le b o ?_);rw[Mem.set_ne e];exact u
   ·refine(wF (by omega)).trans ((y.old b (by omega) ?_).trans (hold b u));grind[Mem.set_ne]
   ·have e:b≠w.heap.size+1:=λe=>by simp_all
    rcases y.dom b (by rw[Mem.set_ne e];exact u)with h|h
    ·grind[Mem.set_ne]
    omega
   ·show j.os=w.os;rw[y.os,<-z];rfl
   ·show j.output=w.output;rw[y.out,<-z];rfl
  ·cases A:V2 w.heap.size with
   |none=>rfl
   |some o=>
    rcases y.dom w.heap.size (by grind[Mem.set_ne])with h|h;·grind
    ·omega
theorem Kk{l:Nat}{V:Mem}{w:World}{fn:FuncId}{tmps:Array Value}{ps:Array Tmp}{assign body:Code}{D:Nat}{args:Array Value}{N n:Nat}(hl:V l=none)
  (K:(V.set l (.loop (Bg fn tmps ps assign body D))).le w) {insA:List (Nat×Value)} {outsA:List Nat} {S:KZ} {J:Mem->Prop} (hN:((ps.zip args).foldl (λt (p,v)=>t.setIfInBounds p v) tmps).size=N)
  (z:∀s v,insA.lookup s=some v->((ps.zip args).foldl (λt (p,v)=>t.setIfInBounds p v) tmps).getD s undef=v)
  (hA:AO P N [assign] insA outsA V S) (hB:∀vs V1,S vs V1->AO P N [body] (outsA.zip vs) [] V1 λ_ V2=>J V2):
  RoundIn (Au none) n P l fn ((ps.zip args).foldl (λt (p,v)=>t.setIfInBounds p v) tmps) assign body w λe w'=>
   e=.returned (.bool true)/\∃V2,J V2/\V2 l=none/\Aq (V.set l (.loop (Bg fn tmps ps assign body D))) w (V2.set l (.loop (Bg fn tmps ps assign body D))) w':=by
 have y:w.heap[l]?=some (.loop (Bg fn tmps ps assign body D)):=K l _ (Mem.set_same _ _ _);have x:l<w.heap.size:=(yA.1 y).1;have j:V.le w:=λb o u=>by
  have e:b≠l:=λe=>by simp_all
  exact K b o (by rw[Mem.set_ne e];exact u)
 refine roundIn_of_wpIn (F:=Au none) trivial ?_;have h1:=hA (some l) n {tmps:=(ps.zip args).foldl (λt (p,v)=>t.setIfInBounds p v) tmps,defers:=[]} w j hN z;refine wpIn_mono (show assign.wpIn (Au (some l)) n P _ _ w from h1) ?_;rintro e a1 I T;cases e with
 |normal=>
  obtain⟨_,hd1,M,vs,V1,X,B,g⟩:=T;have i:I.heap[l]?=some (.loop (Bg fn tmps ps assign body D)):=(g.old l x hl).trans y;refine⟨_,run_beginRound i rfl,?_⟩;have r:l<I.heap.size:=(yA.1 i).1;have q:V1 l=none:=by
   cases a:V1 l with
   |none=>rfl
   |some o=>
    rcases g.dom l (by rw[a];simp)with h|h
    ·grind
    ·omega
  have C:V1.le (I.putObj l (.loop {Bg fn tmps ps assign body D with state:=.busy})):=λb o u=>by
   have e:b≠l:=λe=>by simp_all
   exact(wF e).trans (g.le b o u)
  have h2:=hB vs V1 B (some l) n a1 _ C M X;refine wpIn_mono (show body.wpIn (Au (some l)) n P _ _ _ from h2) ?_;rintro e a2 A G;cases e with
  |normal=>
   obtain⟨_,_,_,_,V2,_,hJ,f⟩:=G;have Z:A.heap[l]?=some (.loop {Bg fn tmps ps assign body D with state:=.busy}):=(f.old l (by simp_all) q).trans (wH r);have Y:l<A.heap.size:=(yA.1 Z).1;have W:V2 l=none:=by
    cases a:V2 l with
    |none=>rfl
    |some o=>
     rcases f.dom l (by rw[a];simp)with h|h
     ·grind
     grind[wG]
   refine⟨_,_,run_endRound (P:=P) none Z,rfl,V2,hJ,W,?_⟩;have z2:=f.size;rw[wG]at z2;have z1:=g.size;refine⟨?_,λb o u=>?_,λb u U=>?_,λb u=>?_,?_,?_⟩;·rw[wG];omega
   ·by_cases e:b=l
    ·subst e;rw[Mem.set_same]at u;rw[<-u];exact wH Y
    ·rw[Mem.set_ne e]at u;exact(wF e).trans (f.le b o u)
   ·have e:b≠l:=λe=>by grind[Mem.set_same]
    rw[Mem.set_ne e]at U;have E:V1 b=none:=by
     cases a:V1 b with
     |none=>rfl
     |some o=>
      rcases g.dom b (by rw[a];simp)with h|h
      ·grind
      ·omega
    refine(wF e).trans ((f.old b (by rw[wG];omega) E).trans ((wF e).trans (g.old b u U)))
   ·by_cases e:b=l;·grind[Mem.set_same]
    ·rw[Mem.set_ne e]at u⊢;rcases f.dom b u with h|h
     ·rcases g.dom b h with h|h;·exact .inl h
      ·exact .inr h
     grind[inr,wG]
   ·show A.os=w.os;rw[f.os];exact g.os
   ·show A.output=w.output;rw[f.out];exact g.out
  |_=>exact absurd G.1 (by simp)
 |_=>exact absurd T.1 (by simp)
theorem Mc{f:FuncId}{fn:Func}{c:Code}{args:Array Value}{V:Mem}{R:Ending->Mem->Prop}(r:P.funcs[f]?=some fn)(z:fn.body=some c)
  (h:∀w,V.le w->Cq none 0 P (λe t w'=>(e=.normal∨e=.ret)/\∃Ds:List Nat,t.defers=Ds.map (λD=>{target:=.collected D,args:=#[]})/\Ds.Nodup/\∃V',Aq V w V' w'/\
    (∀D∈Ds,w.heap.size<=D/\w'.heap[D]?=some (.deferred (some []))/\V' D=none)/\∃v,(∀g,V'.le g->(results fn t.tmps).run P g=.ok v g)/\R (.returned v) V')
   (flat c) {tmps:=args++xd (fn.ntmps-args.size) undef,defers:=[]} w):Tri P f args V R:=by
 intro w q;have key:∀(Ds:List Nat)(t:Act)(V':Mem)(v:Value)(w':World),Ds.Nodup->Aq V w V' w'->(∀D∈Ds,w.heap.size<=D/\w'.heap[D]?=some (.deferred (some []))/\V' D=none)->
   (∀g,V'.le g->(results fn t.tmps).run P g=.ok v g)->R (.returned v) V'->
   LeavesInM (Au none) 0 P fn t.tmps (λe w'=>∃V',R e V'/\Aq V w V' w') (Ds.map λD=>{target:=.collected D,args:=#[]}) .returning w':=by
  intro Ds t V' v;induction Ds with
  |nil=>intro w' _ u _ j i;exact⟨v,j w' u.le,V',i,u⟩
  |cons D Ds a=>
   intro w' y u l j i;obtain⟨s,x,J⟩:=l D (by simp);have G:=(yA.1 x).1;refine⟨by simp,.inl ⟨D,_,rfl,run_takeDeferred x,a _ (yU.1 y).2 ?_ ?_ j i⟩⟩
   ·refine⟨by grind[wG],λb o z=>?_,λb z N=>?_,u.dom,u.os,u.out⟩
    ·have e:b≠D:=λe=>by simp_all
     exact(wF e).trans (u.le b o z)
    ·exact(wF (by omega)).trans (u.old b z N)
   grind[D,yU,wF]
 refine(callsIn_wide (n:=0)).1 (callsIn_of_wp_marks (F:=Au none) r z trivial (E9 ?_) rfl);refine EI ?_ (h w q);rintro e t w' ⟨Z,Ds,Y,y,V',u,l,v,j,i⟩;rcases Z with rfl|rfl
 ·show LeavesInM _ _ _ _ _ _ t.defers _ _;grind
 ·show LeavesInM _ _ _ _ _ _ t.defers _ _;grind
end
def kid:Code->Nat->Code
 |.block _ b,_=>b
 |.loop b,_=>b
 |.cond _ x y,j=>if j=0 then x else y
 |.rangeFunc _ _ x y,j=>if j=0 then x else y
 |c,_=>c
def AP(c:Code):List Nat->List Code
 |i::j::p=>match(flat c)[i]? with|some d=>AP (kid d j) p|none=>[]
 |_=>flat c
def Cj:Code->Array Oper
 |.region _ h _=>h
 |_=>#[]
def Az(f:Func):Code:=f.body.getD .skip
section
variable{P:Program}{fs:List Nat}{H:Ca}
def Aw(P:Program)(N:Nat)(ops:Array Oper)(k m:Nat)(h:List (Nat×Value))(outs:List Nat)(V:Mem)(R:KZ):Prop:=
 ∀r n a w,V.le w->a.tmps.size=N->(∀s v,h.lookup s=some v->a.tmps.getD s undef=v)->
  wpOpsIn (Au r) n P ops (λe g w'=>e=.normal/\g.defers=a.defers/\g.tmps.size=N/\∃vs V',(∀s v,(outs.zip vs).lookup s=some v->g.tmps.getD s undef=v)/\R vs V'/\Aq V w V' w') (wI k m) a w
def segOT(P:Program)(fs:List Nat)(H:Ca)(ops:Array Oper)(k m:Nat)(slots:List (Nat×T))(nv:Nat)(outs:List Nat):Tr:=
 if(slots.all λx=>x.2.wf nv 0)/\(ops.all λo=>I3 o.op)/\((ops.toList.drop k).take m).length=m then
  Fo P fs H ops ((ops.toList.drop k).take m) {slots,boxes:=[],nv,nb:=0,depth:=0} λst=>
   pubT (st.nb+2) st (λst=>(Ew st outs).map T.tup) λ_ t=>.ret t
 else .bad 61 0
theorem sego_sound(g:Dz P fs){N:Nat}{ops:Array Oper}{k m:Nat}{slots:List (Nat×T)}{nv:Nat}{outs:List Nat}{t:Tr}(E:segOT P fs {H with N:=N} ops k m slots nv outs=t)(ρ:List Value)(K:ρ.length=nv)
  {u:List (Nat×Value)} (z:u=slots.map λx=>(x.1,x.2.ev ρ id)) {V:Mem} {R:KZ} {q:Prop} (S:q=DT P {} (λe V'=>∃vs:List Value,e=.returned (.tuple vs.toArray)/\R vs V') t [] ρ V) (h:q):
  Aw P N ops k m u outs V R:=by
 intro r n a w U hN hs;subst S z E;have f:=Df _ _ _ _ h;unfold segOT at f;split at f;case isFalse=>exact f.elim
 rename_i hw;obtain⟨hwf,hnd,l⟩:=hw;have e1:(wI k m)=wI k ((ops.toList.drop k).take m).length:=by rw[l]
 rw[e1];refine L9 (λh=>by obtain⟨_,_,h,_⟩:=h;cases h) (λo ho=>Kf (by grind[xb])) _ _ (λj hj=>?_) a w ?_;·simp_all
 refine HL (L:=[]) (ρ0:=ρ) (V0:=V) (w0:=w) (O:=CZ) g _ _ a w (λ_ _ _ _ h=>by simp_all) ⟨id,ρ,V,⟨yw _,rfl⟩,?_,f⟩ ?_
 ·exact
   {nv:=K
    size:=hN
    slots:=λs t Z=>by
     have hl:=GZ Z;simp_all[Ki,id]
    frm:=Aq.refl U
    boxes:=λi cs ty F=>by simp[St.box]at F
    hid:=λb o hb=>by cases hb
    inj:=λi j F _ _=>by grind}
 ·intro st' a' w' hd Z;obtain⟨st2,t2,J,Y,β,W,V2,hp,A,f⟩:=DK _ _ _ _ Z;simp only[zi]at J;obtain⟨x,X,rfl⟩:=J;simp only[D]at f;obtain⟨vs,h1,h2⟩:=f;simp only[T.ev,wC,wD]at h1;have I:T.evs W id x=vs:=by simp_all
  refine⟨rfl,hd,A.size,vs,V2,λs v G=>?_,h2,A.frm⟩;rw[<-I,C9]at G;obtain⟨t,g1,g2,B⟩:=Kh G;obtain⟨y,C,g5⟩:=It X s B;have M:=Is X s B;rw[g1,C]at M;simp only[zF]at M;subst M;rw[A.slots s t C,<-g2];grind[Iu,T.firstBox,T.ev_free]
theorem wpOpIn_monoQ{F:Fence}{n:Nat}{ops:Array Oper}{Q f:Exit->Act->World->Prop}(j:∀c a w,f (.panic c) a w->Q (.panic c) a w)(l:LetsOut f->LetsOut Q){i:Nat}{a:Act}{w:World}{K u:Act->World->Prop}(h:∀a w,K a w->u a w)
  (g:wpOpIn F n P ops f i K a w):wpOpIn F n P ops Q i u a w:=by
 unfold wpOpIn at*
 split;·simp_all
 ·rename_i o t;simp only[t]at g;split
  ·rename_i hw;simp only[hw,if_true]at g;unfold Oper.wpIn at*
   refine⟨g.1,?_⟩;have g:=g.2;generalize(o.semAt F.round a.eval).run P w=r at*
   cases r with
   |ok x w'=>
    cases x<;>simp only[Oper.uponIn]at g⊢<;>
     first
      |exact h _ _ g
      |exact⟨g.1,CallsIn.mono g.2 (λe y z=>by grind)⟩
      |exact⟨g.1,RowsIn.mono g.2 (λ_ _ z=>h _ _ z)⟩
      |grind[RoundIn.mono]
   |halt x w'=>cases x<;>simp only[Oper.uponIn]at g⊢<;>first|grind|exact g
  simp_all
theorem Pa{F:Fence}{n:Nat}{ops:Array Oper}{Q f:Exit->Act->World->Prop}(z:∀c a w,f (.panic c) a w->Q (.panic c) a w)(y:LetsOut f->LetsOut Q){t:List Nat}(u:∀a w,f .normal a w->wpOpsIn F n P ops Q t a w):∀{g:List Nat}{a:Act}{w:World},
  wpOpsIn F n P ops f g a w->wpOpsIn F n P ops Q (g++t) a w:=by
 intro g;induction g with
 |nil=>exact λh=>u _ _ h
 |cons i g x=>
  grind[wpOpsIn_cons,wpOpIn_monoQ]
end
end Go.Sx
namespace Go.Proofs
open Go Go.Sx
set_option maxRecDepth 100000
section
variable{V:Mem}{R:RP}
theorem B7{H:Ca}{N:Nat}{cs:List Code}(slots:List (Nat×T)){outs:List Nat}(ρ:List Value){g:List (Nat×Value)}(f:g=slots.map λx=>(x.1,x.2.ev ρ id)){V:Mem}{R:KZ}{q:Prop}
  (t:q=DT xG {} (OV R) (segT xG fs {H with N:=N} cs slots ρ.length outs) [] ρ V) (h:q):AO xG N cs g outs V R:=
 seg_sound (H:=H) IH JR rfl ρ rfl f t h
theorem AC{H:Ca}{N:Nat}{ops:Array Oper}{k m:Nat}(slots:List (Nat×T)){outs:List Nat}(ρ:List Value){g:List (Nat×Value)}(f:g=slots.map λx=>(x.1,x.2.ev ρ id)){V:Mem}{R:KZ}{q:Prop}
  (t:q=DT xG {} (OV R) (segOT xG fs {H with N:=N} ops k m slots ρ.length outs) [] ρ V) (h:q):Aw xG N ops k m g outs V R:=
 sego_sound (H:=H) IH rfl ρ rfl f t h
noncomputable def c302a:List Code:=((AP (Az wJ) []).drop 0).take 1
def w302a(a:Value)(b:Option Addr):MR:=λV R=>∃c,V.rowp b ((0:Int).toNat*1) 1=some [uL c]/\IR ((c.n:Int)-1)/\R (rT #[K.cast .f a,uP b,uI ((c.n:Int)-1)]) V
theorem s302a{a:Value}{b:Option Addr}{V:Mem}{R:KZ}(h:w302a a b V (OV R)):AO xG 19 c302a [(0,K.cast .f a),(1,uP b)] [0,1,3] V R:=
 B7 (H:=hK 19) [(0,(.var .f 0)),(1,(.var .p 1))] [a,uP b] rfl (by kernel_rfl) h
noncomputable def c302b:List Code:=((AP (Az wJ) [1,0,0,0]).drop 0).take 1
def w302b(a:Value)(b:Option Addr)(c:Int):MR:=λV R=>R (rT #[K.cast .f a,uP b,uI c,uB (decide (0<=c))]) V
theorem s302b{a:Value}{b:Option Addr}{c:Int}{V:Mem}{R:KZ}(h:w302b a b c V (OV R)):AO xG 19 c302b [(0,K.cast .f a),(1,uP b),(3,uI c)] [0,1,3,8] V R:=
 B7 (H:=hK 19) [(0,(.var .f 0)),(1,(.var .p 1)),(3,(.var (.i .i64) 2))] [a,uP b,uI c] rfl (by kernel_rfl) h
noncomputable def c302c:Array Oper:=Cj ((AP (Az wJ) [1,0,0,0,2,0]).getD 0 .skip)
def w302c(a:Value)(b:Option Addr)(c:Int):MR:=λV R=>∃d,V.rowp b ((0:Int).toNat*1) 1=some [uL d]/\Ix d c (∃g i,V.rowp d.p (c.toNat*2) 2=some [uS g,uS i]/\R (rT #[K.cast .f a,uP b,uI c,K.cast .f a,uI c,uA #[uS g,uS i]]) V)
theorem s302c{a:Value}{b:Option Addr}{c:Int}{V:Mem}{R:KZ}(h:w302c a b c V (OV R)):Aw xG 19 c302c 0 6 [(0,K.cast .f a),(1,uP b),(3,uI c)] [0,1,3,11,12,16] V R:=
 AC (H:=hK 19) [(0,(.var .f 0)),(1,(.var .p 1)),(3,(.var (.i .i64) 2))] [a,uP b,uI c] rfl (by kernel_rfl) h
noncomputable def c302d:Array Oper:=Cj ((AP (Az wJ) [1,0,0,0,2,0]).getD 0 .skip)
def w302d(a:Value)(b:Option Addr)(c:Int)(d:Bool):MR:=λV R=>R (rT #[K.cast .f a,uP b,uI c,uB (!d)]) V
theorem s302d{a:Value}{b:Option Addr}{c:Int}{d:Bool}{V:Mem}{R:KZ}(h:w302d a b c d V (OV R)):Aw xG 19 c302d 7 1 [(0,K.cast .f a),(1,uP b),(3,uI c),(17,uB d)] [0,1,3,18] V R:=
 AC (H:=hK 19) [(0,(.var .f 0)),(1,(.var .p 1)),(3,(.var (.i .i64) 2)),(17,(.var .b 3))] [a,uP b,uI c,uB d] rfl (by kernel_rfl) h
noncomputable def c302e:List Code:=((AP (Az wJ) [1,0,0,0]).drop 3).take 1
def w302e(a:Value)(b:Option Addr)(c:Int):MR:=λV R=>IR (c-1)/\R (rT #[K.cast .f a,uP b,uI (c-1)]) V
theorem s302e{a:Value}{b:Option Addr}{c:Int}{V:Mem}{R:KZ}(h:w302e a b c V (OV R)):AO xG 19 c302e [(0,K.cast .f a),(1,uP b),(3,uI c)] [0,1,3] V R:=
 B7 (H:=hK 19) [(0,(.var .f 0)),(1,(.var .p 1)),(3,(.var (.i .i64) 2))] [a,uP b,uI c] rfl (by kernel_rfl) h
noncomputable def c228a:List Code:=((AP (Az wK) []).drop 0).take 1
def w228a(a:Value)(b:Option Addr):MR:=λV R=>∃c,V.rowp b ((0:Int).toNat*1) 1=some [uL c]/\IR ((c.n:Int)-1)/\R (rT #[K.cast .f a,uP b,uI ((c.n:Int)-1)]) V
theorem s228a{a:Value}{b:Option Addr}{V:Mem}{R:KZ}(h:w228a a b V (OV R)):AO xG 19 c228a [(0,K.cast .f a),(1,uP b)] [0,1,3] V R:=
 B7 (H:=hK 19) [(0,(.var .f 0)),(1,(.var .p 1))] [a,uP b] rfl (by kernel_rfl) h
noncomputable def c228b:List Code:=((AP (Az wK) [1,0,0,0]).drop 0).take 1
def w228b(a:Value)(b:Option Addr)(c:Int):MR:=λV R=>R (rT #[K.cast .f a,uP b,uI c,uB (decide (0<=c))]) V
theorem s228b{a:Value}{b:Option Addr}{c:Int}{V:Mem}{R:KZ}(h:w228b a b c V (OV R)):AO xG 19 c228b [(0,K.cast .f a),(1,uP b),(3,uI c)] [0,1,3,8] V R:=
 B7 (H:=hK 19) [(0,(.var .f 0)),(1,(.var .p 1)),(3,(.var (.i .i64) 2))] [a,uP b,uI c] rfl (by kernel_rfl) h
noncomputable def c228c:Array Oper:=Cj ((AP (Az wK) [1,0,0,0,2,0]).getD 0 .skip)
def w228c(a:Value)(b:Option Addr)(c:Int):MR:=λV R=>∃d,V.rowp b ((0:Int).toNat*1) 1=some [uL d]/\Ix d c (∃g i,V.rowp d.p (c.toNat*2) 2=some [uS g,uL i]/\R (rT #[K.cast .f a,uP b,uI c,K.cast .f a,uI c,uA #[uS g,uL i]]) V)
theorem s228c{a:Value}{b:Option Addr}{c:Int}{V:Mem}{R:KZ}(h:w228c a b c V (OV R)):Aw xG 19 c228c 0 6 [(0,K.cast .f a),(1,uP b),(3,uI c)] [0,1,3,11,12,16] V R:=
 AC (H:=hK 19) [(0,(.var .f 0)),(1,(.var .p 1)),(3,(.var (.i .i64) 2))] [a,uP b,uI c] rfl (by kernel_rfl) h
noncomputable def c228d:Array Oper:=Cj ((AP (Az wK) [1,0,0,0,2,0]).getD 0 .skip)
def w228d(a:Value)(b:Option Addr)(c:Int)(d:Bool):MR:=λV R=>R (rT #[K.cast .f a,uP b,uI c,uB (!d)]) V
theorem s228d{a:Value}{b:Option Addr}{c:Int}{d:Bool}{V:Mem}{R:KZ}(h:w228d a b c d V (OV R)):Aw xG 19 c228d 7 1 [(0,K.cast .f a),(1,uP b),(3,uI c),(17,uB d)] [0,1,3,18] V R:=
 AC (H:=hK 19) [(0,(.var .f 0)),(1,(.var .p 1)),(3,(.var (.i .i64) 2)),(17,(.var .b 3))] [a,uP b,uI c,uB d] rfl (by kernel_rfl) h
noncomputable def c228e:List Code:=((AP (Az wK) [1,0,0,0]).drop 3).take 1
def w228e(a:Value)(b:Option Addr)(c:Int):MR:=λV R=>IR (c-1)/\R (rT #[K.cast .f a,uP b,uI (c-1)]) V
theorem s228e{a:Value}{b:Option Addr}{c:Int}{V:Mem}{R:KZ}(h:w228e a b c V (OV R)):AO xG 19 c228e [(0,K.cast .f a),(1,uP b),(3,uI c)] [0,1,3] V R:=
 B7 (H:=hK 19) [(0,(.var .f 0)),(1,(.var .p 1)),(3,(.var (.i .i64) 2))] [a,uP b,uI c] rfl (by kernel_rfl) h
noncomputable def c229a:List Code:=((AP (Az wL) []).drop 0).take 1
def w229a(a:Value)(b:Option Addr):MR:=λV R=>∃c,V.rowp b ((0:Int).toNat*1) 1=some [uL c]/\IR ((c.n:Int)-1)/\R (rT #[K.cast .f a,uP b,uI ((c.n:Int)-1)]) V
theorem s229a{a:Value}{b:Option Addr}{V:Mem}{R:KZ}(h:w229a a b V (OV R)):AO xG 19 c229a [(0,K.cast .f a),(1,uP b)] [0,1,3] V R:=
 B7 (H:=hK 19) [(0,(.var .f 0)),(1,(.var .p 1))] [a,uP b] rfl (by kernel_rfl) h
noncomputable def c229b:List Code:=((AP (Az wL) [1,0,0,0]).drop 0).take 1
def w229b(a:Value)(b:Option Addr)(c:Int):MR:=λV R=>R (rT #[K.cast .f a,uP b,uI c,uB (decide (0<=c))]) V
theorem s229b{a:Value}{b:Option Addr}{c:Int}{V:Mem}{R:KZ}(h:w229b a b c V (OV R)):AO xG 19 c229b [(0,K.cast .f a),(1,uP b),(3,uI c)] [0,1,3,8] V R:=
 B7 (H:=hK 19) [(0,(.var .f 0)),(1,(.var .p 1)),(3,(.var (.i .i64) 2))] [a,uP b,uI c] rfl (by kernel_rfl) h
noncomputable def c229c:Array Oper:=Cj ((AP (Az wL) [1,0,0,0,2,0]).getD 0 .skip)
def w229c(a:Value)(b:Option Addr)(c:Int):MR:=λV R=>∃d,V.rowp b ((0:Int).toNat*1) 1=some [uL d]/\Ix d c (∃g i j k l,V.rowp d.p (c.toNat*5) 5=some [uS g,uL i,uS j,uL k,uL l]/\R (rT #[K.cast .f a,uP b,uI c,K.cast .f a,uI c,uA #[uS g,uL i,uS j,uL k,uL l]]) V)
theorem s229c{a:Value}{b:Option Addr}{c:Int}{V:Mem}{R:KZ}(h:w229c a b c V (OV R)):Aw xG 19 c229c 0 6 [(0,K.cast .f a),(1,uP b),(3,uI c)] [0,1,3,11,12,16] V R:=
 AC (H:=hK 19) [(0,(.var .f 0)),(1,(.var .p 1)),(3,(.var (.i .i64) 2))] [a,uP b,uI c] rfl (by kernel_rfl) h
noncomputable def c229d:Array Oper:=Cj ((AP (Az wL) [1,0,0,0,2,0]).getD 0 .skip)
def w229d(a:Value)(b:Option Addr)(c:Int)(d:Bool):MR:=λV R=>R (rT #[K.cast .f a,uP b,uI c,uB (!d)]) V
theorem s229d{a:Value}{b:Option Addr}{c:Int}{d:Bool}{V:Mem}{R:KZ}(h:w229d a b c d V (OV R)):Aw xG 19 c229d 7 1 [(0,K.cast .f a),(1,uP b),(3,uI c),(17,uB d)] [0,1,3,18] V R:=
 AC (H:=hK 19) [(0,(.var .f 0)),(1,(.var .p 1)),(3,(.var (.i .i64) 2)),(17,(.var .b 3))] [a,uP b,uI c,uB d] rfl (by kernel_rfl) h
noncomputable def c229e:List Code:=((AP (Az wL) [1,0,0,0]).drop 3).take 1
def w229e(a:Value)(b:Option Addr)(c:Int):MR:=λV R=>IR (c-1)/\R (rT #[K.cast .f a,uP b,uI (c-1)]) V
theorem s229e{a:Value}{b:Option Addr}{c:Int}{V:Mem}{R:KZ}(h:w229e a b c V (OV R)):AO xG 19 c229e [(0,K.cast .f a),(1,uP b),(3,uI c)] [0,1,3] V R:=
 B7 (H:=hK 19) [(0,(.var .f 0)),(1,(.var .p 1)),(3,(.var (.i .i64) 2))] [a,uP b,uI c] rfl (by kernel_rfl) h
noncomputable def c283a:List Code:=((AP (Az wM) []).drop 0).take 3
def w283a(a:Option Addr)(b:Bool)(c:Sl):MR:=λV R=>GenK xG (.makeMap 319 none) 319 (gv []) V λx V1=>∃d,x=uM d/\N2 a (¬(Aa a 0)=none/\∃g,V1.rowp a 2 1=some [uL g]/\TT 293 #[uL g] V1 λe V2=>∃i,K.f.ok i/\e=rV i/\Af [uP none,uM none,uB false] 321 V2 λj h=>Af [uP a,uM d,uB b] 321 h λk t=>R (rT #[uP a,uB b,uL c,uP (Aa j 0),uP (Aa k 0),K.cast .f i]) t)
theorem s283a{a:Option Addr}{b:Bool}{c:Sl}{V:Mem}{R:KZ}(h:w283a a b c V (OV R)):AO xG 63 c283a [(0,uP a),(1,uB b),(2,uL c)] [0,1,2,6,7,24] V R:=
 B7 (H:=hK 63) [(0,(.var .p 0)),(1,(.var .b 1)),(2,(.var .sl 2))] [uP a,uB b,uL c] rfl (by kernel_rfl) h
noncomputable def c283b:List Code:=((AP (Az wM) [3,0,0,0]).drop 0).take 1
def w283b(a:Option Addr)(b c:KB):MR:=λV R=>Af [uS b,uS c] 110 V λd V1=>R (rT #[uP a,uP (Aa d 0)]) V1
theorem s283b{a:Option Addr}{b c:KB}{V:Mem}{R:KZ}(h:w283b a b c V (OV R)):AO xG 63 c283b [(7,uP a),(26,uA #[uS b,uS c])] [7,9] V R:=
 B7 (H:=hK 63) [(7,(.var .p 0)),(26,(.agg (.cons (.var .s 1) (.cons (.var .s 2) .nil))))] [uP a,uS b,uS c] rfl (by kernel_rfl) h
noncomputable def c283c:List Code:=((AP (Az wM) [3,0,0,1]).drop 0).take 1
def w283c(a b:Option Addr):MR:=λV R=>¬a=none/\∃c,V.rowp a 1 1=some [uM c]/\¬b=none/\∃d,V.rowp b ((0:Int).toNat*1) 1=some [uS d]/\¬b=none/\∃g,V.rowp b 1 1=some [uS g]/\Cg xG 319 (uM c) (uS d) (uS g) V λV1=>R (rT #[]) V1
theorem s283c{a b:Option Addr}{V:Mem}{R:KZ}(h:w283c a b V (OV R)):AO xG 63 c283c [(7,uP a),(9,uP b)] [] V R:=
 B7 (H:=hK 63) [(7,(.var .p 0)),(9,(.var .p 1))] [uP a,uP b] rfl (by kernel_rfl) h
noncomputable def c283d:List Code:=((AP (Az wM) []).drop 4).take 4
def w283d(a:Option Addr)(b:Bool)(c:Sl)(d g:Option Addr):MR:=λV R=>GenK xG (.makeMap 360 none) 360 (gv []) V λx V1=>∃i,x=uM i/\Lp [uI 0] V1 λI n V2=>∀j,I n [uI j] V2->∀t:LMP,Nx I n t->Br (j<(c.n:Int)) (Ix c j (∃k,V2.rowp c.p (j.toNat*1) 1=some [uL k]/\Lp [uI 0] V2 λI n h=>∀l,I n [uI l] h->∀f:LMP,Nx I n f->Br (l<(k.n:Int)) (Ix k l (∃o p,h.rowp k.p (l.toNat*2) 2=some [uS o,uS p]/\Bu xG 360 (uM i) (uS o) false h λx=>∃q,x=uB q/\Br (q=true) (IR (l+1)/\f [uI (l+1)] h) (¬g=none/\∃r,h.rowp g 1 1=some [uM r]/\Cg xG 319 (uM r) (uS o) (uS p) h λu=>Cg xG 360 (uM i) (uS o) (.bool true) u λw=>IR (l+1)/\f [uI (l+1)] w))) (IR (j+1)/\t [uI (j+1)] h))) (∃k l o,V2.rowp g ((0:Int).toNat*1) 3=some [uP k,uM l,uB o]/\As d 0 [uP k,uM l,uB o] V2 λh=>R (rT #[uP d]) h)
theorem s283d{a:Option Addr}{b:Bool}{c:Sl}{d g:Option Addr}{V:Mem}{R:KZ}(h:w283d a b c d g V (OV R)):AO xG 63 c283d [(0,uP a),(1,uB b),(2,uL c),(6,uP d),(7,uP g)] [6] V R:=
 B7 (H:=hK 63) [(0,(.var .p 0)),(1,(.var .b 1)),(2,(.var .sl 2)),(6,(.var .p 3)),(7,(.var .p 4))] [uP a,uB b,uL c,uP d,uP g] rfl (by kernel_rfl) h
noncomputable def c128a:List Code:=((AP (Az wN) []).drop 0).take 3
def w128a(a:KB)(b c d g i j k:Sl):MR:=λV R=>GenK xG (.makeMap 257 none) 257 (gv []) V λx V1=>∃l,x=uM l/\GenK xG (.makeMap 258 none) 258 (gv []) V1 λx V2=>∃o,x=uM o/\TT 179 #[uL b] V2 λe h=>∃p,K.f.ok p/\e=rV p/\Af [uS a,uL b,uL c,uL d,uL g,uL i,uL j,uL k] 30 h λq t=>Af [uS a,uL b,uL c,uL d,uL g,uL i,uL j,uL k,uM l,uM o] 260 t λr u=>Af [uP (Aa r 0)] 209 u λs w=>R (rT #[uP (Aa q 0),uP (Aa s 0),K.cast .f p]) w
theorem s128a{a:KB}{b c d g i j k:Sl}{V:Mem}{R:KZ}(h:w128a a b c d g i j k V (OV R)):AO xG 38 c128a [(0,uD a b c d g i j k)] [1,3,15] V R:=
 B7 (H:=hK 38) [(0,(.agg (.cons (.var .s 0) (.cons (.var .sl 1) (.cons (.var .sl 2) (.cons (.var .sl 3) (.cons (.var .sl 4) (.cons (.var .sl 5) (.cons (.var .sl 6) (.cons (.var .sl 7) .nil))))))))))] [uS a,uL b,uL c,uL d,uL g,uL i,uL j,uL k] rfl (by kernel_rfl) h
noncomputable def c128b:List Code:=((AP (Az wN) [3,0,0,0]).drop 0).take 1
def w128b(a:Option Addr)(b:KB)(c:Sl):MR:=λV R=>Af [uS b,uL c] 112 V λd V1=>R (rT #[uP a,uP (Aa d 0)]) V1
theorem s128b{a:Option Addr}{b:KB}{c:Sl}{V:Mem}{R:KZ}(h:w128b a b c V (OV R)):AO xG 38 c128b [(3,uP a),(17,uA #[uS b,uL c])] [3,5] V R:=
 B7 (H:=hK 38) [(3,(.var .p 0)),(17,(.agg (.cons (.var .s 1) (.cons (.var .sl 2) .nil))))] [uP a,uS b,uL c] rfl (by kernel_rfl) h
noncomputable def c128c:List Code:=((AP (Az wN) [3,0,0,1]).drop 0).take 1
def w128c(a b:Option Addr):MR:=λV R=>∃c,V.rowp a ((0:Int).toNat*1) 1=some [uP c]/\N2 c (∃d,V.rowp c 8 1=some [uM d]/\¬b=none/\∃g,V.rowp b ((0:Int).toNat*1) 1=some [uS g]/\∃i j,V.rowp b ((0:Int).toNat*1) 2=some [uS i,uL j]/\Cg xG 257 (uM d) (uS g) (uA #[uS i,uL j]) V λV1=>R (rT #[]) V1)
theorem s128c{a b:Option Addr}{V:Mem}{R:KZ}(h:w128c a b V (OV R)):AO xG 38 c128c [(3,uP a),(5,uP b)] [] V R:=
 B7 (H:=hK 38) [(3,(.var .p 0)),(5,(.var .p 1))] [uP a,uP b] rfl (by kernel_rfl) h
noncomputable def c128d:List Code:=((AP (Az wN) []).drop 4).take 1
def w128d(a b:Option Addr):MR:=λV R=>¬a=none/\∃c,V.rowp a 3 1=some [uL c]/\TT 180 #[uL c] V λe V1=>∃d,K.f.ok d/\e=rV d/\R (rT #[uP b,K.cast .f d]) V1
theorem s128d{a b:Option Addr}{V:Mem}{R:KZ}(h:w128d a b V (OV R)):AO xG 38 c128d [(1,uP a),(3,uP b)] [3,27] V R:=
 B7 (H:=hK 38) [(1,(.var .p 0)),(3,(.var .p 1))] [uP a,uP b] rfl (by kernel_rfl) h
noncomputable def c128e:List Code:=((AP (Az wN) [5,0,0,0]).drop 0).take 1
def w128e(a:Option Addr)(b:KB)(c:Sl)(d:KB)(g i:Sl):MR:=λV R=>Af [uS b,uL c,uS d,uL g,uL i] 74 V λj V1=>R (rT #[uP a,uP (Aa j 0)]) V1
theorem s128e{a:Option Addr}{b:KB}{c:Sl}{d:KB}{g i:Sl}{V:Mem}{R:KZ}(h:w128e a b c d g i V (OV R)):AO xG 38 c128e [(3,uP a),(29,uA #[uS b,uL c,uS d,uL g,uL i])] [3,7] V R:=
 B7 (H:=hK 38) [(3,(.var .p 0)),(29,(.agg (.cons (.var .s 1) (.cons (.var .sl 2) (.cons (.var .s 3) (.cons (.var .sl 4) (.cons (.var .sl 5) .nil)))))))] [uP a,uS b,uL c,uS d,uL g,uL i] rfl (by kernel_rfl) h
noncomputable def c128f:List Code:=((AP (Az wN) [5,0,0,1]).drop 0).take 1
def w128f(a b:Option Addr):MR:=λV R=>∃c,V.rowp a ((0:Int).toNat*1) 1=some [uP c]/\N2 c (∃d,V.rowp c 9 1=some [uM d]/\¬b=none/\∃g,V.rowp b ((0:Int).toNat*1) 1=some [uS g]/\∃i j k l o,V.rowp b ((0:Int).toNat*1) 5=some [uS i,uL j,uS k,uL l,uL o]/\Cg xG 258 (uM d) (uS g) (uA #[uS i,uL j,uS k,uL l,uL o]) V λV1=>R (rT #[]) V1)
theorem s128f{a b:Option Addr}{V:Mem}{R:KZ}(h:w128f a b V (OV R)):AO xG 38 c128f [(3,uP a),(7,uP b)] [] V R:=
 B7 (H:=hK 38) [(3,(.var .p 0)),(7,(.var .p 1))] [uP a,uP b] rfl (by kernel_rfl) h
noncomputable def c128g:List Code:=((AP (Az wN) []).drop 6).take 1
def w128g(a:Option Addr):MR:=λV R=>∃b,V.rowp a ((0:Int).toNat*1) 1=some [uP b]/\R (rT #[uP b]) V
theorem s128g{a:Option Addr}{V:Mem}{R:KZ}(h:w128g a V (OV R)):AO xG 38 c128g [(3,uP a)] [2] V R:=
 B7 (H:=hK 38) [(3,(.var .p 0))] [uP a] rfl (by kernel_rfl) h
noncomputable def c77a:List Code:=((AP (Az Tryz.f77) []).drop 0).take 1
def w77a(a:Option Addr)(b:Value):MR:=λV R=>Af [uP a] 90 V λc V1=>Af [uI 0] 3 V1 λd V2=>Af [uI 0] 43 V2 λg h=>R (rT #[K.cast .f b,uP (Aa c 0),uP (Aa d 0),uP (Aa g 0)]) h
theorem s77a{a:Option Addr}{b:Value}{V:Mem}{R:KZ}(h:w77a a b V (OV R)):AO xG 9 c77a [(0,uP a),(1,K.cast .f b)] [1,2,4,5] V R:=
 B7 (H:=hK 9) [(0,(.var .p 0)),(1,(.var .f 1))] [uP a,b] rfl (by kernel_rfl) h
noncomputable def c77b:Array Oper:=Cj ((AP (Az Tryz.f77) []).getD 2 .skip)
def w77b(a b:Option Addr)(c:Int):MR:=λV R=>As a 0 [uI c] V λV1=>As b 0 [uI 0] V1 λV2=>R (rT #[uP a,uP b]) V2
theorem s77b{a b:Option Addr}{c:Int}{V:Mem}{R:KZ}(h:w77b a b c V (OV R)):Aw xG 9 c77b 2 2 [(4,uP a),(5,uP b),(8,uI c)] [4,5] V R:=
 AC (H:=hK 9) [(4,(.var .p 0)),(5,(.var .p 1)),(8,(.var (.i .i64) 2))] [uP a,uP b,uI c] rfl (by kernel_rfl) h
noncomputable def c133a:List Code:=((AP (Az Tryz.f133) []).drop 1).take 2
def w133a(a b c:Option Addr)(d:Value):MR:=λV R=>GenK xG (.binOp .neq 20 (.tmp 7) (.const .nilIface) 20) 4 (gv [(7,K.cast .r d)]) V λx V1=>∃g,x=uB g/\Br (g=true) (GenK xG (.typeAssert (.tmp 10) 20 219 true) 220 (gv [(10,K.cast .r d)]) V1 λx V2=>∃i j,x=.tuple #[uA #[uI i],uB j]/\Br (j=true) (As a 0 [uI 0] V2 λf=>As b 0 [uI i] f λh=>∃k,h.rowp c ((0:Int).toNat*1) 1=some [uP k]/\N2 k (∃l,h.rowp k 11 1=some [uM l]/\GenK xG (.call {callee:=(.builtin .clear),args:=#[(.tmp 22)],argTypes:=#[145]}) 0 (gv [(22,uM l)]) h λx u=>x=.tuple #[]/\R (rT #[]) u)) (∃t x,K.cast .r d=.iface t x/\R (.panicked [{v:=.iface t x,recovered:=false}]) V2)) (R (rT #[]) V1)
theorem s133a{a b c:Option Addr}{d:Value}{V:Mem}{R:KZ}(h:w133a a b c d V (OV R)):AO xG 23 c133a [(0,uP a),(1,uP b),(2,uP c),(3,K.cast .r d)] [] V R:=
 B7 (H:=hK 23) [(0,(.var .p 0)),(1,(.var .p 1)),(2,(.var .p 2)),(3,(.var .r 3))] [uP a,uP b,uP c,d] rfl (by kernel_rfl) h
end
end Go.Proofs
namespace Go.Sx
open Go
section
variable{P:Program}
def Has(N:Nat)(a:Act)(l:List (Nat×Value)):Prop:=a.tmps.size=N/\∀s v,l.lookup s=some v->a.tmps.getD s undef=v
theorem AO.step{r:Option Nat}{n N:Nat}{Q:Exit->Act->World->Prop}{cs rest:List Code}{g:List (Nat×Value)}{outs:List Nat}{V:Mem}{R:KZ}{a:Act}{w:World}(h:AO P N cs g outs V R)(u:V.le w)(t:Has N a g)
  (k:∀f w' vs V',f.defers=a.defers->Has N f (outs.zip vs)->R vs V'->Aq V w V' w'->Cq r n P Q rest f w'):Cq r n P Q (cs++rest) a w:=by
 refine Mb (EI ?_ (h r n a w u t.1 t.2));rintro e f w' ⟨rfl,z,y,vs,V',x,j,i⟩;exact k f w' vs V' z ⟨y,x⟩ j i
theorem Aw.step{r:Option Nat}{n N k m:Nat}{Q:Exit->Act->World->Prop}{ops:Array Oper}{rest:List Nat}{g:List (Nat×Value)}{outs:List Nat}{V:Mem}{R:KZ}{a:Act}{w:World}(h:Aw P N ops k m g outs V R)(z:V.le w)(u:Has N a g)
  (y:∀f w' vs V',f.defers=a.defers->Has N f (outs.zip vs)->R vs V'->Aq V w V' w'->wpOpsIn (Au r) n P ops Q rest f w'):wpOpsIn (Au r) n P ops Q (wI k m++rest) a w:=by
 refine Pa (λc a w t=>by cases t.1) (λ⟨_,_,t⟩=>by cases t.1) ?_ (h r n a w z u.1 u.2);rintro f w' ⟨_,x,j,vs,V',i,l,q⟩;exact y f w' vs V' x ⟨j,i⟩ l q
theorem yield_op{ops:Array Oper}{i:Nat}{o:Oper}{c:Call}{fv:Operand}{l:Nat}{g:Loop}{args:Array Value}{rest:List Nat}{Q:Exit->Act->World->Prop}{a:Act}{w:World}(y:ops[i]?=some o)(x:o.guard=none)(z:o.op=.call c)(j:c.callee=.value fv)
  (r:a.eval fv=.func (.yield l) #[] #[]) (f:c.args.map a.eval=args) (b:w.heap[l]?=some (.loop g)) (s:args.size=g.params.size)
  (q:RoundIn (Au none) 0 P l g.fn ((g.params.zip args).foldl (λt (p,v)=>t.setIfInBounds p v) g.tmps) g.assign g.body w λe w'=>∃v,e=.returned v/\wpOpsIn (Au none) 0 P ops Q rest (a.put o.dst v) w'):
  wpOpsIn (Au none) 0 P ops Q (i::rest) a w:=by
 rw[wpOpsIn_cons];unfold wpOpIn;simp only[y];rw[if_pos (by simp[Region.wanted,x])];refine⟨λ_ _=>trivial,?_⟩;rw[Oper.semAt_eq _ _ _ (λd=>by simp_all)];have u:(execOp a.eval o).run P w=.ok (.round l g.fn ((g.params.zip args).foldl (λt (p,v)=>t.setIfInBounds p v) g.tmps) g.assign g.body) w:=by
  unfold execOp;simp only[z,resolve,j,r,f,Deferred.ofValue,Sem.run_bind,Sem.run_pure,Result.andThen_ok,invoke];grind[run_yield]
 rw[u];refine⟨λh=>by simp[Au,Fence.wide]at h,q.mono ?_⟩;simp_all
theorem Has.get{N:Nat}{a:Act}{l:List (Nat×Value)}(h:Has N a l){s:Nat}{v:Value}(g:l.lookup s=some v):a.tmps.getD s undef=v:=h.2 s v g
theorem Kl{f:FuncId}{fn:Func}{c L B:Code}{b0 b1 id:Nat}{cA cB cE:List Code}{ops:Array Oper}{o6:Oper}{at6:Array TypeId}{fn':FuncId}{tmps:Array Value}{ps:Array Tmp}{assign body:Code}{D:Nat}{l:Nat}{box:Option Addr}{n:Nat}{el:Nat->Value}{J:Nat->Mem->Prop}{Bk:Mem->Prop}{V:Mem}
  (hf:P.funcs[f]?=some fn) (hb:fn.body=some c) (e1:flat c=cA++[.block b0 (.loop L)]) (e2:flat L=cB++([.cond (.tmp 8) .skip (.exit b0),.block b1 B]++cE)) (e3:flat B=[.region id ops false,.cond (.tmp 18) .ret .skip])
  (ho:ops[6]?=some o6) (S:o6.guard=none) (T:o6.op=.call {callee:=.value (.tmp 11),args:=#[.tmp 12,.tmp 16],argTypes:=at6}) (Y:o6.dst=some 17) (U:ops.size=8) (W:fn.results=#[]) (hN:fn.ntmps=19) (hps:ps.size=2)
  (hA:∀M,Bk M->AO P 19 cA [(0,.func (.yield l) #[] #[]),(1,.pointer box)] [0,1,3] M λvs V'=>V'=M/\vs=[.func (.yield l) #[] #[],.pointer box,.int .i64 ((n:Int)-1)])
  (hB:∀M (j:Int),AO P 19 cB [(0,.func (.yield l) #[] #[]),(1,.pointer box),(3,.int .i64 j)] [0,1,3,8] M λvs V'=>V'=M/\vs=[.func (.yield l) #[] #[],.pointer box,.int .i64 j,.bool (decide (0<=j))])
  (hC:∀M (k:Nat),Bk M->k<n->Aw P 19 ops 0 6 [(0,.func (.yield l) #[] #[]),(1,.pointer box),(3,.int .i64 k)] [0,1,3,11,12,16] M λvs V'=>V'=M/\vs=[.func (.yield l) #[] #[],.pointer box,.int .i64 k,.func (.yield l) #[] #[],.int .i64 k,el k])
  (hD:∀M (j:Int) (b:Bool),Aw P 19 ops 7 1 [(0,.func (.yield l) #[] #[]),(1,.pointer box),(3,.int .i64 j),(17,.bool b)] [0,1,3,18] M λvs V'=>V'=M/\vs=[.func (.yield l) #[] #[],.pointer box,.int .i64 j,.bool (!b)])
  (hE:∀M (j:Int),Bk M->0<=j->j<n->AO P 19 cE [(0,.func (.yield l) #[] #[]),(1,.pointer box),(3,.int .i64 j)] [0,1,3] M λvs V'=>V'=M/\vs=[.func (.yield l) #[] #[],.pointer box,.int .i64 (j-1)])
  (hJ:∀i V2,J i V2->V2 l=none->Bk (V2.set l (.loop (Bg fn' tmps ps assign body D))))
  (z:∀k,k<n->∀V2,J (n-1-k) V2->V2 l=none->∀w,(V2.set l (.loop (Bg fn' tmps ps assign body D))).le w->
   RoundIn (Au none) 0 P l fn' ((ps.zip #[.int .i64 k,el k]).foldl (λt (p,v)=>t.setIfInBounds p v) tmps) assign body w λe w'=>
    e=.returned (.bool true)/\∃K,J (n-k) K/\K l=none/\Aq (V2.set l (.loop (Bg fn' tmps ps assign body D))) w (K.set l (.loop (Bg fn' tmps ps assign body D))) w')
  (h0:J 0 V) (hl:V l=none):
  Tri P f #[.func (.yield l) #[] #[],.pointer box] (V.set l (.loop (Bg fn' tmps ps assign body D))) λe V'=>(∃v,e=.returned v)/\∃V2,V'=V2.set l (.loop (Bg fn' tmps ps assign body D))/\V2 l=none/\J n V2:=by
 intro w hV;refine(callsIn_wide (n:=0)).1 (callsIn_of_wp (F:=Au none) hf hb trivial (E9 ?_) rfl);rw[e1];have hH0:Has 19 {tmps:=#[.func (.yield l) #[] #[],.pointer box]++xd (fn.ntmps-(#[Value.func (.yield l) #[] #[],.pointer box]).size) undef,defers:=[]} [(0,.func (.yield l) #[] #[]),(1,.pointer box)]:=by
  constructor;·simp[hN]
  ·intro s v h;simp only[zc]at h;split at h;·simp_all
   ·split at h;·simp_all
    ·cases h
 refine(hA _ (hJ 0 V h0 hl)).step hV hH0 ?_;rintro a1 w1 vs V1 hd1 hH1 ⟨rfl,rfl⟩ hF1;refine wpIn_block ?_;refine Ma (λm a w'=>∃(i:Nat)(V2:Mem),i<=n/\m=n-i/\J i V2/\V2 l=none/\a.defers=[]/\Has 19 a [(0,.func (.yield l) #[] #[]),(1,.pointer box),(3,.int .i64 ((n:Int)-1-i))]/\
  Aq (V.set l (.loop (Bg fn' tmps ps assign body D))) w (V2.set l (.loop (Bg fn' tmps ps assign body D))) w') ⟨n,0,V,by omega,rfl,h0,hl,hd1,by simpa using hH1,hF1⟩ ?_
 rintro m a2 w2 ⟨i,V2,hi,rfl,A,y,hd2,hH2,x⟩;refine E9 ?_;rw[e2];refine(hB _ _).step x.le hH2 ?_;rintro a3 w3 vs K hd3 r ⟨rfl,rfl⟩ q;have u:a3.eval (.tmp 8)=.bool (decide (0<=(n:Int)-1-i)):=r.get rfl;show wA (Au none) 0 P _ _ a3 w3;by_cases hlt:i<n
 ·have o:decide (0<=(n:Int)-1-i)=true:=by simp;omega
  rw[o]at u;refine wpIn_cond_true u (wpIn_skip ?_);show wA (Au none) 0 P _ _ a3 w3;refine wpIn_block (E9 ?_);rw[e3];have hk:((n:Int)-1-i)=((n-1-i:Nat):Int):=by omega
  have I:Has 19 a3 [(0,.func (.yield l) #[] #[]),(1,.pointer box),(3,.int .i64 ((n-1-i:Nat):Int))]:=⟨r.1,λs v h=>r.2 s v (by
   grind[wB])⟩
  refine wpIn_region ?_;rw[U,show zB 8=wI 0 6++[6,7]from rfl];refine(hC _ (n-1-i) (hJ _ _ A y) (by omega)).step q.le I ?_;rintro G w4 vs V4 hd4 g ⟨rfl,rfl⟩ N;have hl4:w4.heap[l]?=some (.loop (Bg fn' tmps ps assign body D)):=N.le _ _ (Mem.set_same _ _ _);refine yield_op (args:=#[.int .i64 ((n-1-i:Nat):Int),el (n-1-i)]) ho S T rfl (g.get rfl) ?_ hl4 (by simp[Bg,hps]) ?_
  ·have g1:G.eval (.tmp 12)=.int .i64 ((n-1-i:Nat):Int):=g.get rfl;have g2:G.eval (.tmp 16)=el (n-1-i):=g.get rfl;simp[g1,g2]
  refine(z (n-1-i) (by omega) V2 (by grind) y w4 N.le).mono ?_;rintro e w5 ⟨rfl,V5,hJ5,X,C⟩;refine⟨_,rfl,?_⟩;rw[Y];have hlt17:(17:Nat)<G.tmps.size:=by rw[g.1];decide
  have hH5:Has 19 (G.put (some 17) (.bool true)) [(0,.func (.yield l) #[] #[]),(1,.pointer box),(3,.int .i64 ((n-1-i:Nat):Int)),(17,.bool true)]:=by
   refine⟨by simp[Act.put,g.1],λs v h=>?_⟩;have other:∀s,s≠17->(G.put (some 17) (.bool true)).tmps.getD s undef=G.tmps.getD s undef:=λs h=>by
    simp[Act.put,wO,wP (Ne.symm h)]
   simp only[zc]at h;split at h;·rename_i e;simp only[beq_iff_eq]at e;subst e;cases h;rw[other _ (by decide)];exact g.get rfl
   ·split at h;·rename_i e;simp only[beq_iff_eq]at e;subst e;cases h;rw[other _ (by decide)];exact g.get rfl
    ·split at h;·rename_i e;simp only[beq_iff_eq]at e;subst e;cases h;rw[other _ (by decide)];exact g.get rfl
     ·split at h;·simp_all[beq_iff_eq,Act.put,wO]
      ·cases h
  rw[show[7]=wI 7 1++[]from rfl];refine(hD _ _ true).step C.le hH5 ?_;rintro a6 w6 vs V6 hd6 Z ⟨rfl,rfl⟩ E;show wA (Au none) 0 P (.cond (.tmp 18) .ret .skip) _ a6 w6;refine wpIn_cond_false (Z.get rfl) (wpIn_skip ?_);rw[<-List.append_nil cE];refine(hE _ ((n-1-i:Nat):Int) (hJ _ _ hJ5 X) (by omega) (by omega)).step E.le ⟨Z.1,λs v h=>Z.2 s v ?_⟩ ?_;·grind[wB]
  rintro a7 w7 vs V7 hd7 hH7 ⟨rfl,rfl⟩ hF7;refine⟨n-(i+1),by omega,i+1,V5,by omega,rfl,?_,X,?_,?_,?_⟩;·grind
  ·rw[hd7,hd6];show G.defers=[];grind
  ·rw[show(n:Int)-1-((i+1:Nat):Int)=((n-1-i:Nat):Int)-1 by omega];exact hH7
  ·exact((((x.trans q).trans N).trans C).trans E).trans hF7
 ·have hin:i=n:=by omega
  subst hin;have o:decide (0<=(i:Int)-1-i)=false:=by simp;omega
  rw[o]at u;refine wpIn_cond_false u (wpIn_exit ?_);show(if b0=b0 then _ else _);rw[if_pos rfl];refine⟨?_,_,results_none W _ _ _,_,⟨⟨_,rfl⟩,V2,rfl,y,A⟩,x.trans q⟩;rw[hd3,hd2]
end
end Go.Sx
namespace Go.Proofs
open Go Go.Sx
attribute [local irreducible] Go.Sx.Tri
theorem GenK.makeMap{P:Program}{V:Mem}{t:TypeId}{ty:Nat}{vals:Operand->Value}{q:Value->Mem->Prop}(f:∀b,V b=none->q (.map (some b)) (V.set b (.map #[] 0))):GenK P (.makeMap t none) ty vals V q:=by
 intro w hw;have u:V w.heap.size=none:=by
  cases z:V w.heap.size with
  |none=>rfl
  |some o=>have:=(yA.1 (hw _ o z)).1;omega
 refine⟨_,w.alloc (.map #[] 0),V.set w.heap.size (.map #[] 0),rfl,?_,f _ u⟩;refine⟨by simp,λb o h=>?_,λb h _=>xS _ _ _ h,λb h=>?_,rfl,rfl⟩
 ·by_cases e:b=w.heap.size;·grind[Mem.set_same,wE]
  ·rw[Mem.set_ne e]at h;have g:=(yA.1 (hw b o h)).1;exact(xS _ _ _ g).trans (hw b o h)
 grind[inr,Mem.set_ne]
theorem Km{α:Type}{V:Mem}{s:Sl}{sz:Nat}{row:α->List Value}{xs:List α}(h:Ad V s sz (xs.map row)):K.inR .i64 ((s.n:Int)-1):=by
 have:=h.cap;have:=h.fit;exact⟨by omega,by omega⟩
theorem it302{V:Mem}{fn':FuncId}{tmps:Array Value}{ps:Array Tmp}{assign body:Code}{D:Nat}{l:Nat}{bx:Nat}{s:Sl}{xs:List Fld}{J:Nat->Mem->Prop}(y:ps.size=2)
  (G:∀i V2,J i V2->V2 l=none->V2 bx=some (cell (.slice s.p s.n s.c) 23)/\Ad V2 s 2 (xs.map Fld.row))
  (z:∀k x,xs[k]?=some x->∀V2,J (xs.length-1-k) V2->V2 l=none->∀w,(V2.set l (.loop (Bg fn' tmps ps assign body D))).le w->
   RoundIn (Au none) 0 xG l fn' ((ps.zip #[.int .i64 k,Fld.v x]).foldl (λt (p,v)=>t.setIfInBounds p v) tmps) assign body w λe w'=>
    e=.returned (.bool true)/\∃r,J (xs.length-k) r/\r l=none/\Aq (V2.set l (.loop (Bg fn' tmps ps assign body D))) w (r.set l (.loop (Bg fn' tmps ps assign body D))) w')
  (N:J 0 V) (Z:V l=none):
  Tri xG 302 #[.func (.yield l) #[] #[],pv bx] (V.set l (.loop (Bg fn' tmps ps assign body D))) λe V'=>(∃v,e=.returned v)/\∃V2,V'=V2.set l (.loop (Bg fn' tmps ps assign body D))/\V2 l=none/\J xs.length V2:=by
 refine Kl (c:=Az wJ) (L:=kid ((AP (Az wJ) [1,0]).getD 0 .skip) 0) (B:=kid ((AP (Az wJ) [1,0,0,0]).getD 2 .skip) 0) (cA:=c302a) (cB:=c302b) (cE:=c302e) (ops:=c302c) (b0:=0) (b1:=1) (id:=3)
  (o6:=(c302c)[6]?.getD default) (at6:=#[3,110]) (el:=λk=>(xs[k]?.map Fld.v).getD undef) (Bk:=λM=>M bx=some (cell (.slice s.p s.n s.c) 23)/\Ad M s 2 (xs.map Fld.row))
  Tryz.func302 (by kernel_rfl) (by kernel_rfl) (by kernel_rfl) (by kernel_rfl) (by kernel_rfl) (by kernel_rfl) (by kernel_rfl) (by kernel_rfl) (by kernel_rfl) (by kernel_rfl) (by kernel_rfl) y ?_ ?_ ?_ ?_ ?_ ?_ ?_ N Z
 ·rintro M ⟨g,h⟩;refine s302a (a:=.func (.yield l) #[] #[]) (b:=some ⟨bx,0,none⟩) ?_;unfold w302a;exact⟨s,Ax g,Km h,_,rfl,rfl,by rw[h.n_eq];rfl⟩
 ·intro M j;refine s302b (a:=.func (.yield l) #[] #[]) (b:=some ⟨bx,0,none⟩) ?_;unfold w302b;exact⟨_,rfl,rfl,rfl⟩
 ·rintro M k ⟨g,h⟩ K;refine s302c (a:=.func (.yield l) #[] #[]) (b:=some ⟨bx,0,none⟩) ?_;unfold w302c;obtain⟨x,hm,Y,W,A,q,I,f⟩:=h.get (i:=k) (by rw[h.n_eq];omega);exact⟨s,Ax g,q,I,by rw[h.n_eq];omega,x.name,x.ty,f,_,rfl,rfl,by rw[Y];rfl⟩
 ·intro M j b;refine s302d (a:=.func (.yield l) #[] #[]) (b:=some ⟨bx,0,none⟩) ?_;unfold w302d;exact⟨_,rfl,rfl,rfl⟩
 ·rintro M j ⟨g,h⟩ o F;have X:=h.cap;have C:=h.fit;have E:=h.n_eq;refine s302e (a:=.func (.yield l) #[] #[]) (b:=some ⟨bx,0,none⟩) ?_;unfold w302e;exact⟨⟨by omega,by omega⟩,_,rfl,rfl,rfl⟩
 ·intro i V2 o u;obtain⟨g,h⟩:=G i V2 o u;have e:bx≠l:=λe=>by simp_all
  exact⟨by rw[Mem.set_ne e];exact g,h.sub (Mem.sub_new u _)⟩
 simp_all
theorem it228{V:Mem}{fn':FuncId}{tmps:Array Value}{ps:Array Tmp}{assign body:Code}{D:Nat}{l:Nat}{bx:Nat}{s:Sl}{xs:List Ty}{J:Nat->Mem->Prop}(y:ps.size=2)
  (G:∀i V2,J i V2->V2 l=none->V2 bx=some (cell (.slice s.p s.n s.c) 22)/\Ad V2 s 2 (xs.map Ty.row))
  (z:∀k x,xs[k]?=some x->∀V2,J (xs.length-1-k) V2->V2 l=none->∀w,(V2.set l (.loop (Bg fn' tmps ps assign body D))).le w->
   RoundIn (Au none) 0 xG l fn' ((ps.zip #[.int .i64 k,Ty.v x]).foldl (λt (p,v)=>t.setIfInBounds p v) tmps) assign body w λe w'=>
    e=.returned (.bool true)/\∃r,J (xs.length-k) r/\r l=none/\Aq (V2.set l (.loop (Bg fn' tmps ps assign body D))) w (r.set l (.loop (Bg fn' tmps ps assign body D))) w')
  (N:J 0 V) (Z:V l=none):
  Tri xG 228 #[.func (.yield l) #[] #[],pv bx] (V.set l (.loop (Bg fn' tmps ps assign body D))) λe V'=>(∃v,e=.returned v)/\∃V2,V'=V2.set l (.loop (Bg fn' tmps ps assign body D))/\V2 l=none/\J xs.length V2:=by
 refine Kl (c:=Az wK) (L:=kid ((AP (Az wK) [1,0]).getD 0 .skip) 0) (B:=kid ((AP (Az wK) [1,0,0,0]).getD 2 .skip) 0) (cA:=c228a) (cB:=c228b) (cE:=c228e) (ops:=c228c) (b0:=0) (b1:=1) (id:=3)
  (o6:=(c228c)[6]?.getD default) (at6:=#[3,112]) (el:=λk=>(xs[k]?.map Ty.v).getD undef) (Bk:=λM=>M bx=some (cell (.slice s.p s.n s.c) 22)/\Ad M s 2 (xs.map Ty.row))
  Tryz.func228 (by kernel_rfl) (by kernel_rfl) (by kernel_rfl) (by kernel_rfl) (by kernel_rfl) (by kernel_rfl) (by kernel_rfl) (by kernel_rfl) (by kernel_rfl) (by kernel_rfl) (by kernel_rfl) y ?_ ?_ ?_ ?_ ?_ ?_ ?_ N Z
 ·rintro M ⟨g,h⟩;refine s228a (a:=.func (.yield l) #[] #[]) (b:=some ⟨bx,0,none⟩) ?_;unfold w228a;exact⟨s,Ax g,Km h,_,rfl,rfl,by rw[h.n_eq];rfl⟩
 ·intro M j;refine s228b (a:=.func (.yield l) #[] #[]) (b:=some ⟨bx,0,none⟩) ?_;unfold w228b;exact⟨_,rfl,rfl,rfl⟩
 ·rintro M k ⟨g,h⟩ K;refine s228c (a:=.func (.yield l) #[] #[]) (b:=some ⟨bx,0,none⟩) ?_;unfold w228c;obtain⟨x,hm,Y,W,A,q,I,f⟩:=h.get (i:=k) (by rw[h.n_eq];omega);exact⟨s,Ax g,q,I,by rw[h.n_eq];omega,x.name,x.fs,f,_,rfl,rfl,by rw[Y];rfl⟩
 ·intro M j b;refine s228d (a:=.func (.yield l) #[] #[]) (b:=some ⟨bx,0,none⟩) ?_;unfold w228d;exact⟨_,rfl,rfl,rfl⟩
 ·rintro M j ⟨g,h⟩ o F;have X:=h.cap;have C:=h.fit;have E:=h.n_eq;refine s228e (a:=.func (.yield l) #[] #[]) (b:=some ⟨bx,0,none⟩) ?_;unfold w228e;exact⟨⟨by omega,by omega⟩,_,rfl,rfl,rfl⟩
 ·intro i V2 o u;obtain⟨g,h⟩:=G i V2 o u;have e:bx≠l:=λe=>by simp_all
  exact⟨by rw[Mem.set_ne e];exact g,h.sub (Mem.sub_new u _)⟩
 simp_all
theorem it229{V:Mem}{fn':FuncId}{tmps:Array Value}{ps:Array Tmp}{assign body:Code}{D:Nat}{l:Nat}{bx:Nat}{s:Sl}{xs:List Pr}{J:Nat->Mem->Prop}(y:ps.size=2)
  (G:∀i V2,J i V2->V2 l=none->V2 bx=some (cell (.slice s.p s.n s.c) 24)/\Ad V2 s 5 (xs.map Pr.row))
  (z:∀k x,xs[k]?=some x->∀V2,J (xs.length-1-k) V2->V2 l=none->∀w,(V2.set l (.loop (Bg fn' tmps ps assign body D))).le w->
   RoundIn (Au none) 0 xG l fn' ((ps.zip #[.int .i64 k,Pr.v x]).foldl (λt (p,v)=>t.setIfInBounds p v) tmps) assign body w λe w'=>
    e=.returned (.bool true)/\∃r,J (xs.length-k) r/\r l=none/\Aq (V2.set l (.loop (Bg fn' tmps ps assign body D))) w (r.set l (.loop (Bg fn' tmps ps assign body D))) w')
  (N:J 0 V) (Z:V l=none):
  Tri xG 229 #[.func (.yield l) #[] #[],pv bx] (V.set l (.loop (Bg fn' tmps ps assign body D))) λe V'=>(∃v,e=.returned v)/\∃V2,V'=V2.set l (.loop (Bg fn' tmps ps assign body D))/\V2 l=none/\J xs.length V2:=by
 refine Kl (c:=Az wL) (L:=kid ((AP (Az wL) [1,0]).getD 0 .skip) 0) (B:=kid ((AP (Az wL) [1,0,0,0]).getD 2 .skip) 0) (cA:=c229a) (cB:=c229b) (cE:=c229e) (ops:=c229c) (b0:=0) (b1:=1) (id:=3)
  (o6:=(c229c)[6]?.getD default) (at6:=#[3,74]) (el:=λk=>(xs[k]?.map Pr.v).getD undef) (Bk:=λM=>M bx=some (cell (.slice s.p s.n s.c) 24)/\Ad M s 5 (xs.map Pr.row))
  Tryz.func229 (by kernel_rfl) (by kernel_rfl) (by kernel_rfl) (by kernel_rfl) (by kernel_rfl) (by kernel_rfl) (by kernel_rfl) (by kernel_rfl) (by kernel_rfl) (by kernel_rfl) (by kernel_rfl) y ?_ ?_ ?_ ?_ ?_ ?_ ?_ N Z
 ·rintro M ⟨g,h⟩;refine s229a (a:=.func (.yield l) #[] #[]) (b:=some ⟨bx,0,none⟩) ?_;unfold w229a;exact⟨s,Ax g,Km h,_,rfl,rfl,by rw[h.n_eq];rfl⟩
 ·intro M j;refine s229b (a:=.func (.yield l) #[] #[]) (b:=some ⟨bx,0,none⟩) ?_;unfold w229b;exact⟨_,rfl,rfl,rfl⟩
 ·rintro M k ⟨g,h⟩ K;refine s229c (a:=.func (.yield l) #[] #[]) (b:=some ⟨bx,0,none⟩) ?_;unfold w229c;obtain⟨x,hm,Y,W,A,q,I,f⟩:=h.get (i:=k) (by rw[h.n_eq];omega);exact⟨s,Ax g,q,I,by rw[h.n_eq];omega,x.name,x.ps,x.result,x.ls,x.bs,f,_,rfl,rfl,by rw[Y];rfl⟩
 ·intro M j b;refine s229d (a:=.func (.yield l) #[] #[]) (b:=some ⟨bx,0,none⟩) ?_;unfold w229d;exact⟨_,rfl,rfl,rfl⟩
 ·rintro M j ⟨g,h⟩ o F;have X:=h.cap;have C:=h.fit;have E:=h.n_eq;refine s229e (a:=.func (.yield l) #[] #[]) (b:=some ⟨bx,0,none⟩) ?_;unfold w229e;exact⟨⟨by omega,by omega⟩,_,rfl,rfl,rfl⟩
 ·intro i V2 o u;obtain⟨g,h⟩:=G i V2 o u;have e:bx≠l:=λe=>by simp_all
  exact⟨by rw[Mem.set_ne e];exact g,h.sub (Mem.sub_new u _)⟩
 simp_all
theorem c293{V:Mem}{s:Sl}:Tri xG 293 #[.slice s.p s.n s.c] V λe V'=>∃b,V b=none/\e=.returned (.func (.func 302) #[] #[pv b])/\V'=V.set b (cell (.slice s.p s.n s.c) 23):=by
 refine x293 ?_;exact λb h=>⟨b,h,rfl,rfl⟩
theorem c179{V:Mem}{s:Sl}:Tri xG 179 #[.slice s.p s.n s.c] V λe V'=>∃b,V b=none/\e=.returned (.func (.func 228) #[] #[pv b])/\V'=V.set b (cell (.slice s.p s.n s.c) 22):=by
 refine x179 ?_;exact λb h=>⟨b,h,rfl,rfl⟩
theorem c180{V:Mem}{s:Sl}:Tri xG 180 #[.slice s.p s.n s.c] V λe V'=>∃b,V b=none/\e=.returned (.func (.func 229) #[] #[pv b])/\V'=V.set b (cell (.slice s.p s.n s.c) 24):=by
 refine x180 ?_;exact λb h=>⟨b,h,rfl,rfl⟩
theorem Hk{args:List Value}{N:Nat}(h:args.length<=N):Has N {tmps:=args.toArray++xd (N-args.toArray.size) undef,defers:=[]} ((zB args.length).zip args):=by
 refine⟨by simp;omega,λs v g=>?_⟩;rw[xa]at g;have key:∀(l:List Value)(k:Nat),((wI k l.length).zip l).lookup s=some v->k<=s/\l[s-k]?=some v:=by
  intro l;induction l with
  |nil=>simp_all
  |cons x xs u=>
   intro k h;simp only[List.length_cons,List.range'_succ,wB,zc]at h;grind
 obtain⟨-,f⟩:=key args 0 g;have t:=(List.getElem?_eq_some_iff.1 f).1;simp_all[Nat.sub_zero,wO,Array.getElem?_append_left]
theorem I4{tmps:Array Value}{p q:Nat}{u v:Value}:((#[p,q].zip #[u,v]).foldl (λt (p,v)=>t.setIfInBounds p v) tmps)=(tmps.setIfInBounds p u).setIfInBounds q v:=by
 simp
theorem I5{tmps:Array Value}{p s:Nat}{u:Value}(h:s≠p):(tmps.setIfInBounds p u).getD s undef=tmps.getD s undef:=by
 simp[wO,wP (Ne.symm h)]
theorem getD_same{tmps:Array Value}{p:Nat}{u:Value}(h:p<tmps.size):(tmps.setIfInBounds p u).getD p undef=u:=by
 simp_all
theorem Kn(f:Fld)(l:List Fld)(k:KB):BK (f::l) k=if k=f.name then some f.ty else BK l k:=by
 grind[BK]
theorem varOf_app(a b:List Fld)(k:KB):BK (a++b) k=(BK a k).or (BK b k):=by
 grind[BK]
theorem varOf_any(a:List Fld)(k:KB):(BK a k).isSome=a.any λf=>decide (f.name=k):=by
 grind[BK]
theorem seen_old{a g:List Fld}{f:Fld}(h:(a.any λx=>decide (x.name=f.name))=true)(k:KB):BK (a++[f]++g) k=BK (a++g) k:=by
 simp only[varOf_app,Kn];rw[<-varOf_any]at h;by_cases e:k=f.name
 ·subst e;rw[if_pos rfl];cases hv:BK a f.name with
  |none=>simp_all
  |some x=>rfl
 grind[BK]
theorem seen_new{a g:List Fld}{f:Fld}(h:¬(a.any λx=>decide (x.name=f.name))=true)(k:KB):BK (a++[f]++g) k=if k=f.name then some f.ty else BK (a++g) k:=by
 simp only[varOf_app,Kn];rw[<-varOf_any]at h;by_cases e:k=f.name;·simp_all
 grind[BK]
structure SI (V:Mem)(c:Option Addr)(body:Bool)(d:Ds)(mb bx b6 b7:Nat)(m:KB->Option Value)(V1:Mem):Prop where
 sub:V.sub V1
 nm:V mb=none
 n6:V b6=none
 map:A5 V1 mb m
 bx:V1 bx=some (cell (.slice d.gs.p d.gs.n d.gs.c) 23)
 b6:V1 b6=some (.cells #[.pointer none,.map none,.bool false] 321 (0,0))
 b7:V1 b7=some (.cells #[.pointer c,.map (some mb),.bool body] 321 (0,0))
section
variable{V V1:Mem}{c:Option Addr}{body:Bool}{d:Ds}{mb bx b6 b7:Nat}{m m':KB->Option Value}
theorem SI.fresh(h:SI V c body d mb bx b6 b7 m V1){b:Nat}(f:V1 b=none)(o:Obj):SI V c body d mb bx b6 b7 m (V1.set b o):=
 have g:=Mem.sub_new f o
 ⟨h.sub.trans g,h.nm,h.n6,h.map.sub g,g _ _ h.bx,g _ _ h.b6,g _ _ h.b7⟩
theorem SI.up(h:SI V c body d mb bx b6 b7 m V1){o:Obj}(g:A5 (V1.set mb o) mb m'):SI V c body d mb bx b6 b7 m' (V1.set mb o):=by
 obtain⟨es,w,hm,-,-⟩:=h.map.at_;have f:bx≠mb:=λe=>by have:=h.bx;simp_all
 have t:b6≠mb:=λe=>by have:=h.b6;simp_all
 have u:b7≠mb:=λe=>by have:=h.b7;simp_all
 exact⟨h.sub.set h.nm o,h.nm,h.n6,g,by rw[Mem.set_ne f];exact h.bx,by rw[Mem.set_ne t];exact h.b6,by rw[Mem.set_ne u];exact h.b7⟩
theorem SI.cg(h:SI V c body d mb bx b6 b7 m V1)(e:∀k,m k=m' k):SI V c body d mb bx b6 b7 m' V1:=⟨h.sub,h.nm,h.n6,h.map.congr e,h.bx,h.b6,h.b7⟩
end
section
variable{V V1:Mem}{c:Option Addr}{body:Bool}{d:Ds}{mb bx b6 b7:Nat}{m m':KB->Option Value}
theorem scopeRound{l:Sl}(h:SI V c body d mb bx b6 b7 m V1)(x:Fld)(V2:Mem)(b:Nat)(f:V1 b=none)(t:V2=V1.set b (.cells x.row.toArray 110 (0,0))):
  AO xG 63 c283c [(7,pv b7),(9,pv b)] [] V2 λ_ u=>SI V c body d mb bx b6 b7 (λk=>if k=x.name then some (.string x.ty)else m k) u:=by
 subst t;have g:=h.fresh f (.cells x.row.toArray 110 (0,0));refine s283c ?_;unfold w283c;refine⟨by simp,some mb,An g.b7 1 1 (by simp),by simp,x.name,An Ao 0 1 (by simp[Fld.row]),by simp,x.ty,An Ao 1 1 (by simp[Fld.row]),?_⟩;exact Cg.str xn xo g.map λo w=>⟨_,rfl,g.up w⟩
theorem scopeAssign(x:Fld):AO xG 63 c283b [(7,pv b7),(26,Fld.v x)] [7,9] V1 λvs V2=>∃b,V1 b=none/\V2=V1.set b (.cells x.row.toArray 110 (0,0))/\vs=[pv b7,pv b]:=by
 refine s283b (b:=x.name) (c:=x.ty) ?_;unfold w283b;exact λb h=>⟨_,rfl,b,h,rfl,rfl⟩
theorem zero4(w:World):(zeroValue 4).run xG w=.ok (.bool false) w:=by kernel_rfl
theorem scopeTail{l:Sl}{ls:List (Sl×List Fld)}(h:SI V c body d mb bx b6 b7 (λk=>(BK d.globals k).map yo) V1)(hl:Ad V l 1 (ls.map λx=>[x.1.v]))(C:∀x∈ls,Ad V x.1 2 (x.2.map Fld.row)):
  AO xG 63 c283d [(0,.pointer c),(1,.bool body),(2,.slice l.p l.n l.c),(6,pv b6),(7,pv b7)] [6] V1 λvs V2=>vs=[pv b6]/\
   V.sub V2/\V mb=none/\A5 V2 mb (λk=>(BK (ls.flatMap (·.2)++d.globals) k).map yo)/\V2 b6=some (.cells #[.pointer c,.map (some mb),.bool body] 321 (0,0)):=by
 refine s283d ?_;unfold w283d;refine GenK.makeMap λz D=>⟨some z,rfl,?_⟩;have E:V z=none:=by
  cases hc:V z with
  |none=>rfl
  |some o=>have:=h.sub _ _ hc;simp_all
 have Z:mb≠z:=λe=>by
  obtain⟨es,cl,hm,-,-⟩:=h.map.at_;simp_all
 let TI (done:List Fld) (V2:Mem):Prop:=SI V c body d mb bx b6 b7 (λk=>(BK (done++d.globals) k).map yo) V2/\A5 V2 z (λk=>if(done.any λf=>decide (f.name=k))=true then some (.bool true)else none);have h0:TI [] (V1.set z (.map #[] 0)):=⟨h.fresh D _,(A5.made V1 z).congr λk=>by simp⟩;refine E3 ls.length (λi V2=>TI ((ls.take i).flatMap (·.2)) V2) (by simpa using h0) ?_;intro i V2 J hi u hJ;have a:=hl.sub u.1.sub;refine⟨λw=>?_,λw=>?_⟩
 ·obtain⟨x,hm,hx,hdr,Y,K,hz,W⟩:=a.get w;refine⟨K,hz,w,x.1,W,?_⟩;have htk:(ls.take (i+1)).flatMap (·.2)=(ls.take i).flatMap (·.2)++x.2:=by
   grind
  refine E3 x.2.length (λj V3=>TI ((ls.take i).flatMap (·.2)++x.2.take j) V3) (by simpa using u) ?_;intro j V3 J' hj g A;have r:=(C x hm).sub g.1.sub;refine⟨λt=>?_,λt=>?_⟩
  ·obtain⟨f,hmf,hf,hdrf,b,I,S,s⟩:=r.get t;have G:(ls.take i).flatMap (·.2)++x.2.take (j+1)=((ls.take i).flatMap (·.2)++x.2.take j)++[f]:=by
    grind
   refine⟨I,S,t,f.name,f.ty,s,?_⟩;refine Bu.str1 wQ xo zero4 g.2 ?_;generalize T:(ls.take i).flatMap (·.2)++x.2.take j=done at g G;refine⟨done.any λy=>decide (y.name=f.name),?_,λU=>?_,λU=>?_⟩;·grind
   ·refine⟨r.succ t,A b _ ?_⟩;rw[G];refine⟨g.1.cg λk=>by rw[seen_old U],g.2.congr λk=>?_⟩;grind
   ·refine⟨by simp,some mb,An g.1.b7 1 1 (by simp),?_⟩;refine Cg.str xn xo g.1.map λo ho=>?_;have hsi:=g.1.up ho;refine Cg.str wQ xo (g.2.set (o:=o) (Ne.symm Z)) λo2 ho2=>?_;refine⟨r.succ t,A b _ ?_⟩;rw[G];have M:b6≠z:=λe=>by have:=h.b6;simp_all
    have F:b7≠z:=λe=>by have:=h.b7;simp_all
    have X:bx≠z:=λe=>by have:=h.bx;simp_all
    refine⟨?_,ho2.congr λk=>?_⟩
    ·have N:=hsi.cg (m':=λk=>(BK (done++[f]++d.globals) k).map yo) λk=>by
      rw[seen_new U];grind
     exact⟨N.sub.set E _,N.nm,N.n6,N.map.set Z,by rw[Mem.set_ne X];exact N.bx,by rw[Mem.set_ne M];exact N.b6,by rw[Mem.set_ne F];exact N.b7⟩
    grind
  ·obtain⟨hd,B⟩:=r.done t;refine⟨a.succ w,hJ Y _ ?_⟩;simp_all[wR]
 ·obtain⟨hd,B⟩:=a.done w;rw[wR B]at u;have q:=An u.1.b7 0 3 (by simp);refine⟨c,some mb,body,q,⟨⟨b6,0,none⟩,_,_,rfl,u.1.b6,rfl,by simp,?_⟩⟩;have e7:mb≠b6:=λe=>by
   obtain⟨es,cl,hm,-,-⟩:=u.1.map.at_;have:=u.1.b6;simp_all
  exact⟨_,rfl,rfl,u.1.sub.set h.n6 _,h.nm,u.1.map.set e7,by rw[Mem.set_same];rfl⟩
end
end Go.Proofs
