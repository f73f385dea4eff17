/- Part 13 of a proof of a law of this seat: no statement of the seat is proved here. -/
import Derived.Test.YtmeagdecjpknkaaGreatDoorPp12
import Derived.Test.YtmeagdecjpknkaaGreatDoorPp04
import Derived.Tactics
import Derived.TacticsIn
import Derived.RangeFuncNested
import Derived.Test.YtmeagdecjpknkaaGreatDoorPp10
set_option linter.unusedVariables false
set_option linter.unusedSimpArgs false
namespace Go.Sx
open Go
section
variable{P:Program}{fs:List Nat}{H:qHa}
def wpL(r:Option Nat)(n:Nat)(P:Program)(Q:Exit->Act->World->Prop):List Code->Act->World->Prop
 | [],a,w=>Q .normal a w
 | c::cs,a,w=>c.wpIn (qAz r) n P (Exit.then (wpL r n P Q cs) Q) a w
def flat:Code->List Code
 | .seq x y=>flat x++flat y
 | c=>[c]
theorem qJm{r:Option Nat}{n:Nat}{Q:Exit->Act->World->Prop}{l2:List Code}:∀{l1:List Code} {a:Act} {w:World},wpL r n P (Exit.then (wpL r n P Q l2) Q) l1 a w->wpL r n P Q (l1++l2) a w
 | [],_,_,h=>h
 | c::cs,a,w,h=>by
  refine wpIn_mono (show c.wpIn (qAz r) n P _ a w from h) fun e a' w' he=>?_
  cases e with
  | normal=>exact qJm he
  | _=>exact he
theorem qCA{r:Option Nat}{n:Nat}{Q Q':Exit->Act->World->Prop}(hq:∀e a w,Q e a w->Q' e a w):∀{l:List Code} {a:Act} {w:World},wpL r n P Q l a w->wpL r n P Q' l a w
 | [],_,_,h=>hq _ _ _ h
 | c::cs,a,w,h=>by
  refine wpIn_mono (show c.wpIn (qAz r) n P _ a w from h) fun e a' w' he=>?_
  cases e with
  | normal=>exact qCA hq he
  | _=>exact hq _ _ _ he
theorem qFn{r:Option Nat}{n:Nat}{Q:Exit->Act->World->Prop}{l2:List Code}:∀{l1:List Code} {a:Act} {w:World},wpL r n P Q (l1++l2) a w->wpL r n P (Exit.then (wpL r n P Q l2) Q) l1 a w
 | [],_,_,h=>h
 | c::cs,a,w,h=>by
  refine wpIn_mono (show c.wpIn (qAz r) n P _ a w from h) fun e a' w' he=>?_
  cases e with
  | normal=>exact qFn he
  | _=>exact he
theorem qCo{r:Option Nat}{n:Nat}:∀{c:Code} {Q:Exit->Act->World->Prop} {a:Act} {w:World},wpL r n P Q (flat c) a w->c.wpIn (qAz r) n P Q a w:=by
 intro c
 induction c with
 | seq x y ihx ihy =>
  intro Q a w h
  refine wpIn_seq (ihx ?_)
  refine qCA (fun e a w he=>?_) (qFn h)
  cases e with
  | normal=>exact ihy he
  | _=>exact he
 | _ =>
  intro Q a w h
  refine wpIn_mono (show Code.wpIn (qAz r) n P _ _ a w from h) fun e a' w' he=>?_
  cases e with
  | normal=>exact he
  | _=>exact he
def Seg(P:Program)(N:Nat)(cs:List Code)(ins:List (Nat×Value))(outs:List Nat)(V:Mem)(R:List Value->Mem->Prop):Prop :=
 ∀r n a w,V.le w->a.tmps.size=N->(∀s v,ins.lookup s=some v->a.tmps.getD s undef=v) ->
  wpL r n P (fun e a' w'=>e=.normal/\a'.defers=a.defers/\a'.tmps.size=N/\∃vs V',(∀s v,(outs.zip vs).lookup s=some v->a'.tmps.getD s undef=v)/\R vs V'/\Frm V w V' w') cs a w
theorem Seg.mono{N:Nat}{cs:List Code}{ins:List (Nat×Value)}{outs:List Nat}{V:Mem}{R R':List Value->Mem->Prop}(h:Seg P N cs ins outs V R)(hr:∀vs V',R vs V'->R' vs V'):Seg P N cs ins outs V R' :=
 fun r n a w hV hN hs=>qCA (fun _ _ _ ⟨h1,h2,h3,vs,V',h4,h5,h6⟩=>⟨h1,h2,h3,vs,V',h4,hr _ _ h5,h6⟩) (h r n a w hV hN hs)
def exL(P:Program)(fs:List Nat)(H:qHa):List Code->St->(Ex->St->Tr)->Tr
 | [],st,k=>k .normal st
 | c::cs,st,k=>ex P fs H c st fun e st=>match e with | .normal=>exL P fs H cs st k|e=>k e st
def segT(P:Program)(fs:List Nat)(H:qHa)(cs:List Code)(slots:List (Nat×T))(nv:Nat)(outs:List Nat):Tr :=
 if (slots.all fun x=>x.2.wf nv 0)/\cs.all qCQ then
  exL P fs H cs { slots,boxes:=[],nv,nb:=0,depth:=0 } fun e st =>
   match e with
   | .normal=>pubT (st.nb+2) st (fun st=>(qED st outs).map T.tup) fun _ t=>.ret t
   | _=>.bad 60 0
 else .bad 61 0
theorem exL_sound{R:Ending->Mem->Prop}{V0:Mem}{w0:World}{r:Option Nat}{n:Nat}(hcalls:qBT P fs)(hm:P.follows .mixedOrders=true){k:Ex->St->Tr}{Q:Exit->Act->World->Prop}{ρ0:List Value}:∀{cs:List Code} {L:List (List Value->Mem->Prop)} {st:St} {a:Act} {w:World},
  qJk R V0 w0 a.defers Q->qCs P R noO V0 w0 H.N L ρ0 a.tmps w st (exL P fs H cs st k)->cs.all qCQ=true ->
  (∀e st' a' w' L',L <+: L'->a'.defers=a.defers->qCs P R noO V0 w0 H.N L' ρ0 a'.tmps w' st' (k e st')->Q e.toExit a' w')->wpL r n P Q cs a w
 | [],L,st,a,w,_,h,_,hk=>hk .normal st a w L (List.prefix_refl _) rfl h
 | c::cs,L,st,a,w,hQ,h,hnd,hk=>by
  simp only[List.all_cons,Bool.and_eq_true]at hnd
  refine ex_sound_in hcalls hm c hnd.1 L ρ0 st _ a w _ hQ h fun e st' a' w' L' hL hd hg=>?_
  cases e with
  | normal=>exact exL_sound hcalls hm (by grind) hg hnd.2 fun e st'' a'' w'' L'' hL' hd' hg'=>hk e st'' a'' w'' L'' (hL.trans hL') (hd'.trans hd) hg'
  | exit i=>exact hk (.exit i) st' a' w' L' hL hd hg
  | ret=>exact hk .ret st' a' w' L' hL hd hg
end
section
variable{P:Program}{fs:List Nat}{H:qHa}
theorem qDn{f:T->Value}:∀{l:List Nat} {ts:List T} {s:Nat} {v:Value},(l.zip (ts.map f)).lookup s=some v->∃t,(l.zip ts).lookup s=some t/\f t=v/\s∈l
 | [],_,s,v,h=>by simp at h
 | x::xs,[],s,v,h=>by simp at h
 | x::xs,t::ts,s,v,h=>by
  simp only[List.map_cons,List.zip_cons_cons,List.lookup_cons]at h ⊢
  by_cases e:s=x
  ·simp_all
  ·have:(s==x)=false:=by simpa using e
   rw[this]at h ⊢
   obtain⟨t',h1,h2,h3⟩:=qDn h
   simp_all
theorem qDo{f:T->Value}:∀{l:List (Nat×T)} {s:Nat} {t:T},l.lookup s=some t->(l.map fun x=>(x.1,f x.2)).lookup s=some (f t)
 | [],s,t,h=>by simp at h
 | (x,u)::xs,s,t,h=>by
  simp only[List.map_cons,List.lookup_cons]at h ⊢
  split at h
  ·simp_all
  ·exact qDo h
theorem seg_sound(hcalls:qBT P fs)(hm:P.follows .mixedOrders=true){N:Nat}{cs:List Code}{slots:List (Nat×T)}{nv:Nat}{outs:List Nat}{t:Tr}(ht:segT P fs { H with N:=N } cs slots nv outs=t)(ρ:List Value)(hn:ρ.length=nv)
  {ins:List (Nat×Value)} (hins:ins=slots.map fun x=>(x.1,x.2.ev ρ id)) {V:Mem} {R:List Value->Mem->Prop} {q:Prop} (hq:q=DT P {} (fun e V'=>∃vs:List Value,e=.returned (.tuple vs.toArray)/\R vs V') t [] ρ V) (h:q) :
  Seg P N cs ins outs V R:=by
 intro r n a w hV hN hs
 subst hq hins ht
 have hD:=qBG _ _ _ _ h
 unfold segT at hD
 split at hD
 case isFalse=>exact hD.elim
 rename_i hw
 obtain⟨hwf,hnd⟩:=hw
 refine exL_sound (L:=[]) (ρ0:=ρ) (V0:=V) (w0:=w) hcalls hm (fun _ _ _ _ h=>by simp_all) ⟨id,ρ,V,⟨List.prefix_refl _,rfl⟩,?_,hD⟩ hnd ?_
 ·exact
   {nv:=hn
    size:=hN
    slots:=fun s t hg=>by
     have hl:=qCI hg
     simp_all [qDo,id]
    frm:=Frm.refl hV
    boxes:=fun i cs ty hi=>by simp[St.box]at hi
    hid:=fun b o hb=>by cases hb
    inj:=fun i j hi _ _=>by grind }
 ·intro e st' a' w' L' _ hd hg
  cases e with
  | exit j=>obtain⟨β,ρ2,V2,hp,hr,hD⟩:=hg;exact hD.elim
  | ret=>obtain⟨β,ρ2,V2,hp,hr,hD⟩:=hg;exact hD.elim
  | normal =>
   obtain⟨st2,t2,hg2,hfree,β,ρ2,V2,hp,hr,hD⟩:=qAT _ _ _ _ hg
   simp only[Option.map_eq_some_iff]at hg2
   obtain⟨x,hx,rfl⟩:=hg2
   simp only[D]at hD
   obtain⟨vs,h1,h2⟩:=hD
   simp only[T.ev,Ending.returned.injEq,Value.tuple.injEq]at h1
   have h1':T.evs ρ2 id x=vs:=by simp_all
   refine⟨rfl,hd,hr.size,vs,V2,fun s v hsv=>?_,h2,hr.frm⟩
   rw[<- h1',qAD]at hsv
   obtain⟨t,g1,g2,g3⟩:=qDn hsv
   obtain⟨y,g4,g5⟩:=qEc hx s g3
   have g6:=qCH hx s g3
   rw[g1,g4]at g6
   simp only[Option.some.injEq]at g6;subst g6
   rw[hr.slots s t g4,<- g2]
   grind [qHP,T.firstBox,T.ev_free]
end
section
variable{P:Program}
def qDy(fn:FuncId)(tmps:Array Value)(ps:Array Tmp)(assign body:Code)(D:Nat):Loop:={ state:=.ready,pending:=none,fn,tmps,params:=ps,assign,body,defers:=D }
theorem qGJ{g:Operand}{ps:Array Tmp}{assign body:Code}{a:Act}{w:World}{V:Mem}{f:FuncId}{caps:Array Value}{n:Nat}{Q:Exit->Act->World->Prop}{Φ:Mem->Prop}
  (hV:V.le w) (hg:a.eval g=.func (.func f) #[] caps) (eg:∀args w,(callFunc f args).run P w=.ok (.enter f args) w)
  (hit:∀fn l D,V l=none->Tri P f (#[.func (.yield l) #[] #[]]++caps) (V.set l (.loop (qDy fn a.tmps ps assign body D))) fun e V'=>(∃v,e=.returned v)/\∃V2,V'=V2.set l (.loop (qDy fn a.tmps ps assign body D))/\V2 l=none/\Φ V2)
  (hdone:∀D V' W,w.heap.size<=D->Frm V w V' W->V' D=none->W.heap[D]?=some (.deferred (some []))->Φ V'->Q .normal { a with defers:={ target:=.collected D,args:=#[] }::a.defers } W) :
  (Code.rangeFunc g ps assign body).wpIn (qAz none) n P Q a w:=by
 refine wpIn_rangeFunc fun fn _=>?_
 obtain⟨W1,hW1⟩:∃W1,(w.alloc (.deferred (some []))).alloc (.loop (qDy fn a.tmps ps assign body w.heap.size))=W1:=⟨_,rfl⟩
 have hs1:W1.heap.size=w.heap.size+2:=by rw[<- hW1];simp
 have hL1:W1.heap[w.heap.size+1]?=some (.loop (qDy fn a.tmps ps assign body w.heap.size)):=by
  grind [World.alloc_heap_new,qDy,World.size_alloc]
 have hK1:W1.heap[w.heap.size]?=some (.deferred (some [])):=by
  grind [Go.RowKit.Below.heap_alloc,World.alloc_heap_new]
 have hold:∀b,b<w.heap.size->W1.heap[b]?=w.heap[b]?:=fun b hb=>by
  grind [Go.RowKit.Below.heap_alloc]
 have hVn:∀b,w.heap.size<=b->V b=none:=fun b hb=>by
  cases hc:V b with
  | none=>rfl
  | some o=>have:=(Array.getElem?_eq_some_iff.1 (hV b o hc)).1;omega
 have hle:(V.set (w.heap.size+1) (.loop (qDy fn a.tmps ps assign body w.heap.size))).le W1:=fun b o hb=>by
  by_cases e:b=w.heap.size+1
  ·grind [Mem.set_same]
  ·rw[Mem.set_ne e]at hb
   have:=(Array.getElem?_eq_some_iff.1 (hV b o hb)).1
   rw[hold b this];exact hV b o hb
 refine⟨w.heap.size+1,[{ target:=.collected w.heap.size,args:=#[] }],W1,{ target:=.fn (.func f) caps,args:=#[.func (.yield (w.heap.size+1)) #[] #[]] },W1,f,
  #[.func (.yield (w.heap.size+1)) #[] #[]]++caps,W1,?_,?_,?_,?_,fun h=>by simp[qAz,Fence.wide]at h,?_⟩
 ·rw[<- hW1];exact run_enterLoop_outer _ _ _ _ _
 ·simp only[resolve,hg]
  simp[go_sem]
 ·intro f' hf';trivial
 ·simp[invoke,go_sem,eg]
 ·refine qEg.2 (qCL (hit fn (w.heap.size+1) w.heap.size (hVn _ (by omega)) W1 hle) ?_)
  rintro e W3 ⟨V',⟨⟨v,rfl⟩,V2,rfl,h2,hΦ⟩,hF⟩
  have hl3:W3.heap[w.heap.size+1]?=some (.loop (qDy fn a.tmps ps assign body w.heap.size)):=hF.le _ _ (Mem.set_same _ _ _)
  have hlt:w.heap.size+1<W3.heap.size:=(Array.getElem?_eq_some_iff.1 hl3).1
  refine⟨none,_,run_endLoop (P:=P) hl3 (by simp[qDy]),?_⟩
  have hD0:(V.set (w.heap.size+1) (.loop (qDy fn a.tmps ps assign body w.heap.size))) w.heap.size=none:=by
   simp_all [Mem.set_ne,Nat.le_refl]
  have hD3:W3.heap[w.heap.size]?=some (.deferred (some [])):=(hF.old _ (by omega) hD0).trans hK1
  refine hdone w.heap.size V2 _ (Nat.le_refl _) ?_ ?_ ((World.putObj_heap_other (by omega)).trans hD3) hΦ
  ·refine⟨?_,fun b o hb=>?_,fun b hb hn=>?_,fun b hb=>?_,?_,?_⟩
   ·grind [World.putObj_size]
   ·have e:b≠w.heap.size+1:=fun e=>by simp_all
    refine(World.putObj_heap_other e).trans (hF.le b o ?_)
    rw[Mem.set_ne e];exact hb
   ·refine(World.putObj_heap_other (by omega)).trans ((hF.old b (by omega) ?_).trans (hold b hb))
    grind [Mem.set_ne]
   ·have e:b≠w.heap.size+1:=fun e=>by simp_all
    rcases hF.dom b (by rw[Mem.set_ne e];exact hb) with h|h
    ·grind [Mem.set_ne]
    omega
   ·show W3.os=w.os;rw[hF.os,<- hW1];rfl
   ·show W3.output=w.output;rw[hF.out,<- hW1];rfl
  ·cases hc:V2 w.heap.size with
   | none=>rfl
   | some o =>
    rcases hF.dom w.heap.size (by grind [Mem.set_ne]) with h|h
    ·grind
    ·omega
theorem qGF{l:Nat}{V:Mem}{w:World}{fn:FuncId}{tmps:Array Value}{ps:Array Tmp}{assign body:Code}{D:Nat}{args:Array Value}{N n:Nat}(hl:V l=none)
  (hV:(V.set l (.loop (qDy fn tmps ps assign body D))).le w) {insA:List (Nat×Value)} {outsA:List Nat} {RA:List Value->Mem->Prop} {J:Mem->Prop} (hN:((ps.zip args).foldl (fun t (p,v)=>t.setIfInBounds p v) tmps).size=N)
  (hins:∀s v,insA.lookup s=some v->((ps.zip args).foldl (fun t (p,v)=>t.setIfInBounds p v) tmps).getD s undef=v)
  (hA:Seg P N [assign] insA outsA V RA) (hB:∀vs V1,RA vs V1->Seg P N [body] (outsA.zip vs) [] V1 fun _ V2=>J V2) :
  RoundIn (qAz none) n P l fn ((ps.zip args).foldl (fun t (p,v)=>t.setIfInBounds p v) tmps) assign body w fun e w' =>
   e=.returned (.bool true)/\∃V2,J V2/\V2 l=none/\Frm (V.set l (.loop (qDy fn tmps ps assign body D))) w (V2.set l (.loop (qDy fn tmps ps assign body D))) w':=by
 have hlw:w.heap[l]?=some (.loop (qDy fn tmps ps assign body D)):=hV l _ (Mem.set_same _ _ _)
 have hllt:l<w.heap.size:=(Array.getElem?_eq_some_iff.1 hlw).1
 have hVle:V.le w:=fun b o hb=>by
  have e:b≠l:=fun e=>by simp_all
  exact hV b o (by rw[Mem.set_ne e];exact hb)
 refine roundIn_of_wpIn (F:=qAz none) trivial ?_
 have h1:=hA (some l) n { tmps:=(ps.zip args).foldl (fun t (p,v)=>t.setIfInBounds p v) tmps,defers:=[] } w hVle hN hins
 refine wpIn_mono (show assign.wpIn (qAz (some l)) n P _ _ w from h1) ?_
 rintro e a1 w1 he
 cases e with
 | normal =>
  obtain⟨_,hd1,hN1,vs,V1,hs1,hR1,hF1⟩:=he
  have hl1:w1.heap[l]?=some (.loop (qDy fn tmps ps assign body D)):=(hF1.old l hllt hl).trans hlw
  refine⟨_,run_beginRound hl1 rfl,?_⟩
  have hlt1:l<w1.heap.size:=(Array.getElem?_eq_some_iff.1 hl1).1
  have hV1l:V1 l=none:=by
   cases hc:V1 l with
   | none=>rfl
   | some o =>
    rcases hF1.dom l (by rw[hc];simp) with h|h
    ·grind
    ·omega
  have hV1:V1.le (w1.putObj l (.loop { qDy fn tmps ps assign body D with state:=.busy })):=fun b o hb=>by
   have e:b≠l:=fun e=>by simp_all
   exact(World.putObj_heap_other e).trans (hF1.le b o hb)
  have h2:=hB vs V1 hR1 (some l) n a1 _ hV1 hN1 hs1
  refine wpIn_mono (show body.wpIn (qAz (some l)) n P _ _ _ from h2) ?_
  rintro e a2 w2 he2
  cases e with
  | normal =>
   obtain⟨_,_,_,_,V2,_,hJ,hF2⟩:=he2
   have hl2:w2.heap[l]?=some (.loop { qDy fn tmps ps assign body D with state:=.busy }):=(hF2.old l (by simp_all) hV1l).trans (World.putObj_heap_same hlt1)
   have hlt2:l<w2.heap.size:=(Array.getElem?_eq_some_iff.1 hl2).1
   have hV2l:V2 l=none:=by
    cases hc:V2 l with
    | none=>rfl
    | some o =>
     rcases hF2.dom l (by rw[hc];simp) with h|h
     ·grind
     grind [World.putObj_size]
   refine⟨_,_,run_endRound (P:=P) none hl2,rfl,V2,hJ,hV2l,?_⟩
   have z2:=hF2.size
   rw[World.putObj_size]at z2
   have z1:=hF1.size
   refine⟨?_,fun b o hb=>?_,fun b hb hn=>?_,fun b hb=>?_,?_,?_⟩
   ·rw[World.putObj_size];omega
   ·by_cases e:b=l
    ·subst e
     rw[Mem.set_same]at hb
     rw[<- hb];exact World.putObj_heap_same hlt2
    ·rw[Mem.set_ne e]at hb
     exact(World.putObj_heap_other e).trans (hF2.le b o hb)
   ·have e:b≠l:=fun e=>by grind [Mem.set_same]
    rw[Mem.set_ne e]at hn
    have hn1:V1 b=none:=by
     cases hc:V1 b with
     | none=>rfl
     | some o =>
      rcases hF1.dom b (by rw[hc];simp) with h|h
      ·grind
      ·omega
    refine(World.putObj_heap_other e).trans ((hF2.old b (by rw[World.putObj_size];omega) hn1).trans ((World.putObj_heap_other e).trans (hF1.old b hb hn)))
   ·by_cases e:b=l
    ·grind [Mem.set_same]
    ·rw[Mem.set_ne e]at hb ⊢
     rcases hF2.dom b hb with h|h
     ·rcases hF1.dom b h with h|h
      ·exact .inl h
      ·exact .inr h
     grind [inr,World.putObj_size]
   ·show w2.os=w.os;rw[hF2.os];exact hF1.os
   ·show w2.output=w.output;rw[hF2.out];exact hF1.out
  | _=>exact absurd he2.1 (by simp)
 | _=>exact absurd he.1 (by simp)
theorem qHe{f:FuncId}{fn:Func}{c:Code}{args:Array Value}{V:Mem}{R:Ending->Mem->Prop}(hf:P.funcs[f]?=some fn)(hb:fn.body=some c)
  (h:∀w,V.le w->wpL none 0 P (fun e a' w'=>(e=.normal∨e=.ret)/\∃Ds:List Nat,a'.defers=Ds.map (fun D=>{ target:=.collected D,args:=#[] })/\Ds.Nodup/\∃V',Frm V w V' w' /\
    (∀D∈Ds,w.heap.size<=D/\w'.heap[D]?=some (.deferred (some []))/\V' D=none)/\∃v,(∀w'',V'.le w''->(results fn a'.tmps).run P w''=.ok v w'')/\R (.returned v) V')
   (flat c) { tmps:=args++Array.replicate (fn.ntmps-args.size) undef,defers:=[] } w):Tri P f args V R:=by
 intro w hV
 have key:∀(Ds:List Nat) (a':Act) (V':Mem) (v:Value) (w':World),Ds.Nodup->Frm V w V' w'->(∀D∈Ds,w.heap.size<=D/\w'.heap[D]?=some (.deferred (some []))/\V' D=none) ->
   (∀w'',V'.le w''->(results fn a'.tmps).run P w''=.ok v w'')->R (.returned v) V' ->
   LeavesInM (qAz none) 0 P fn a'.tmps (fun e w'=>∃V',R e V'/\Frm V w V' w') (Ds.map fun D=>{ target:=.collected D,args:=#[] }) .returning w':=by
  intro Ds a' V' v
  induction Ds with
  | nil=>intro w' _ hF _ hr hR;exact⟨v,hr w' hF.le,V',hR,hF⟩
  | cons D Ds ih =>
   intro w' hnd hF hD hr hR
   obtain⟨hD1,hD2,hD3⟩:=hD D (by simp)
   have hlt:=(Array.getElem?_eq_some_iff.1 hD2).1
   refine⟨by simp,.inl ⟨D,_,rfl,run_takeDeferred hD2,ih _ (List.nodup_cons.1 hnd).2 ?_ ?_ hr hR⟩⟩
   ·refine⟨by grind [World.putObj_size],fun b o hb=>?_,fun b hb hn=>?_,hF.dom,hF.os,hF.out⟩
    ·have e:b≠D:=fun e=>by simp_all
     exact(World.putObj_heap_other e).trans (hF.le b o hb)
    ·exact(World.putObj_heap_other (by omega)).trans (hF.old b hb hn)
   grind [D,List.nodup_cons,World.putObj_heap_other]
 refine(callsIn_wide (n:=0)).1 (callsIn_of_wp_marks (F:=qAz none) hf hb trivial (qCo ?_) rfl)
 refine qCA ?_ (h w hV)
 rintro e a' w' ⟨he,Ds,hd,hnd,V',hF,hD,v,hr,hR⟩
 rcases he with rfl|rfl
 ·show LeavesInM _ _ _ _ _ _ a'.defers _ _
  grind
 ·show LeavesInM _ _ _ _ _ _ a'.defers _ _
  grind
end
def kid:Code->Nat->Code
 | .block _ b,_=>b
 | .loop b,_=>b
 | .cond _ x y,j=>if j=0 then x else y
 | .rangeFunc _ _ x y,j=>if j=0 then x else y
 | c,_=>c
def qCk(c:Code):List Nat->List Code
 | i::j::p=>match (flat c)[i]? with|some d=>qCk (kid d j) p|none=>[]
 | _=>flat c
def qEt:Code->Array Oper
 | .region _ ops _=>ops
 | _=>#[]
def qAn(f:Func):Code:=f.body.getD .skip
section
variable{P:Program}{fs:List Nat}{H:qHa}
def qCX(P:Program)(N:Nat)(ops:Array Oper)(k m:Nat)(ins:List (Nat×Value))(outs:List Nat)(V:Mem)(R:List Value->Mem->Prop):Prop :=
 ∀r n a w,V.le w->a.tmps.size=N->(∀s v,ins.lookup s=some v->a.tmps.getD s undef=v) ->
  wpOpsIn (qAz r) n P ops (fun e a' w'=>e=.normal/\a'.defers=a.defers/\a'.tmps.size=N/\∃vs V',(∀s v,(outs.zip vs).lookup s=some v->a'.tmps.getD s undef=v)/\R vs V'/\Frm V w V' w') (List.range' k m) a w
def segOT(P:Program)(fs:List Nat)(H:qHa)(ops:Array Oper)(k m:Nat)(slots:List (Nat×T))(nv:Nat)(outs:List Nat):Tr :=
 if (slots.all fun x=>x.2.wf nv 0)/\(ops.all fun o=>qFZ o.op)/\((ops.toList.drop k).take m).length=m then
  qKV P fs H ops ((ops.toList.drop k).take m) { slots,boxes:=[],nv,nb:=0,depth:=0 } fun st =>
   pubT (st.nb+2) st (fun st=>(qED st outs).map T.tup) fun _ t=>.ret t
 else .bad 61 0
theorem sego_sound(hcalls:qBT P fs){N:Nat}{ops:Array Oper}{k m:Nat}{slots:List (Nat×T)}{nv:Nat}{outs:List Nat}{t:Tr}(ht:segOT P fs { H with N:=N } ops k m slots nv outs=t)(ρ:List Value)(hn:ρ.length=nv)
  {ins:List (Nat×Value)} (hins:ins=slots.map fun x=>(x.1,x.2.ev ρ id)) {V:Mem} {R:List Value->Mem->Prop} {q:Prop} (hq:q=DT P {} (fun e V'=>∃vs:List Value,e=.returned (.tuple vs.toArray)/\R vs V') t [] ρ V) (h:q) :
  qCX P N ops k m ins outs V R:=by
 intro r n a w hV hN hs
 subst hq hins ht
 have hD:=qBG _ _ _ _ h
 unfold segOT at hD
 split at hD
 case isFalse=>exact hD.elim
 rename_i hw
 obtain⟨hwf,hnd,hlen⟩:=hw
 have e1:(List.range' k m)=List.range' k ((ops.toList.drop k).take m).length:=by rw[hlen]
 rw[e1]
 refine qDv (fun h=>by obtain⟨_,_,h,_⟩:=h;cases h) (fun o ho=>qDl (by grind [Array.all_eq_true'])) _ _ (fun j hj=>?_) a w ?_
 ·simp_all
 refine qCS (L:=[]) (ρ0:=ρ) (V0:=V) (w0:=w) (O:=noO) hcalls _ _ a w (fun _ _ _ _ h=>by simp_all) ⟨id,ρ,V,⟨List.prefix_refl _,rfl⟩,?_,hD⟩ ?_
 ·exact
   {nv:=hn
    size:=hN
    slots:=fun s t hg=>by
     have hl:=qCI hg
     simp_all [qDo,id]
    frm:=Frm.refl hV
    boxes:=fun i cs ty hi=>by simp[St.box]at hi
    hid:=fun b o hb=>by cases hb
    inj:=fun i j hi _ _=>by grind }
 ·intro st' a' w' hd hg
  obtain⟨st2,t2,hg2,hfree,β,ρ2,V2,hp,hr,hD⟩:=qAT _ _ _ _ hg
  simp only[Option.map_eq_some_iff]at hg2
  obtain⟨x,hx,rfl⟩:=hg2
  simp only[D]at hD
  obtain⟨vs,h1,h2⟩:=hD
  simp only[T.ev,Ending.returned.injEq,Value.tuple.injEq]at h1
  have h1':T.evs ρ2 id x=vs:=by simp_all
  refine⟨rfl,hd,hr.size,vs,V2,fun s v hsv=>?_,h2,hr.frm⟩
  rw[<- h1',qAD]at hsv
  obtain⟨t,g1,g2,g3⟩:=qDn hsv
  obtain⟨y,g4,g5⟩:=qEc hx s g3
  have g6:=qCH hx s g3
  rw[g1,g4]at g6
  simp only[Option.some.injEq]at g6;subst g6
  rw[hr.slots s t g4,<- g2]
  grind [qHP,T.firstBox,T.ev_free]
theorem wpOpIn_monoQ{F:Fence}{n:Nat}{ops:Array Oper}{Q Q':Exit->Act->World->Prop}(hp:∀c a w,Q' (.panic c) a w->Q (.panic c) a w)(ho:LetsOut Q'->LetsOut Q){i:Nat}{a:Act}{w:World}{K K':Act->World->Prop}(h:∀a w,K a w->K' a w)
  (hh:wpOpIn F n P ops Q' i K a w):wpOpIn F n P ops Q i K' a w:=by
 unfold wpOpIn at *
 split
 ·simp_all
 ·rename_i o hoi
  simp only[hoi]at hh
  split
  ·rename_i hw
   simp only[hw,if_true]at hh
   unfold Oper.wpIn at *
   refine⟨hh.1,?_⟩
   have hh:=hh.2
   generalize (o.semAt F.round a.eval).run P w=r at *
   cases r with
   | ok x w' =>
    cases x <;> simp only[Oper.uponIn]at hh ⊢ <;>
     first
      | exact h _ _ hh
      | exact⟨hh.1,CallsIn.mono hh.2 (fun e w'' he=>by grind)⟩
      | exact⟨hh.1,RowsIn.mono hh.2 (fun _ _ he=>h _ _ he)⟩
      | grind [RoundIn.mono]
   | halt x w'=>cases x <;> simp only[Oper.uponIn]at hh ⊢ <;> first|grind|exact hh
  simp_all
theorem qJc{F:Fence}{n:Nat}{ops:Array Oper}{Q Q':Exit->Act->World->Prop}(hp:∀c a w,Q' (.panic c) a w->Q (.panic c) a w)(ho:LetsOut Q'->LetsOut Q){l2:List Nat}(hq:∀a w,Q' .normal a w->wpOpsIn F n P ops Q l2 a w):∀{l1:List Nat} {a:Act} {w:World},
  wpOpsIn F n P ops Q' l1 a w->wpOpsIn F n P ops Q (l1++l2) a w:=by
 intro l1
 induction l1 with
 | nil=>exact fun h=>hq _ _ h
 | cons i l1 ih =>
  grind [wpOpsIn_cons,wpOpIn_monoQ]
end
end Go.Sx
namespace Go.Proofs
open Go Go.Sx
set_option maxRecDepth 100000
set_option linter.unusedVariables false
section
variable{V:Mem}{R:RP}
theorem qBp{H:qHa}{N:Nat}{cs:List Code}(slots:List (Nat×T)){outs:List Nat}(ρ:List Value){ins:List (Nat×Value)}(hins:ins=slots.map fun x=>(x.1,x.2.ev ρ id)){V:Mem}{R:List Value->Mem->Prop}{q:Prop}
  (hq:q=DT Tryz.prog {} (OV R) (segT Tryz.prog fs { H with N:=N } cs slots ρ.length outs) [] ρ V) (h:q):Seg Tryz.prog N cs ins outs V R :=
 seg_sound (H:=H) qHS qKB rfl ρ rfl hins hq h
theorem qAy{H:qHa}{N:Nat}{ops:Array Oper}{k m:Nat}(slots:List (Nat×T)){outs:List Nat}(ρ:List Value){ins:List (Nat×Value)}(hins:ins=slots.map fun x=>(x.1,x.2.ev ρ id)){V:Mem}{R:List Value->Mem->Prop}{q:Prop}
  (hq:q=DT Tryz.prog {} (OV R) (segOT Tryz.prog fs { H with N:=N } ops k m slots ρ.length outs) [] ρ V) (h:q):qCX Tryz.prog N ops k m ins outs V R :=
 sego_sound (H:=H) qHS rfl ρ rfl hins hq h
noncomputable def c311a:List Code:=((qCk (qAn Tryz.f311) []).drop 0).take 1
def w311a(a:Value)(b:Option Addr):MR:=fun V R=>∃c,V.rowp b ((0:Int).toNat*1) 1=some [uL c]/\IR ((c.n:Int)-1)/\R (rT #[K.cast .f a,uP b,uI ((c.n:Int)-1)]) V
theorem s311a{a:Value}{b:Option Addr}{V:Mem}{R:List Value->Mem->Prop}(h:w311a a b V (OV R)):Seg Tryz.prog 19 c311a [(0,K.cast .f a),(1,uP b)] [0,1,3] V R :=
 qBp (H:=hK 19) [(0,(.var .f 0)),(1,(.var .p 1))] [a,uP b] rfl (by kernel_rfl) h
noncomputable def c311b:List Code:=((qCk (qAn Tryz.f311) [1,0,0,0]).drop 0).take 1
def w311b(a:Value)(b:Option Addr)(c:Int):MR:=fun V R=>R (rT #[K.cast .f a,uP b,uI c,uB (decide (0<=c))]) V
theorem s311b{a:Value}{b:Option Addr}{c:Int}{V:Mem}{R:List Value->Mem->Prop}(h:w311b a b c V (OV R)):Seg Tryz.prog 19 c311b [(0,K.cast .f a),(1,uP b),(3,uI c)] [0,1,3,8] V R :=
 qBp (H:=hK 19) [(0,(.var .f 0)),(1,(.var .p 1)),(3,(.var (.i .i64) 2))] [a,uP b,uI c] rfl (by kernel_rfl) h
noncomputable def c311c:Array Oper:=qEt ((qCk (qAn Tryz.f311) [1,0,0,0,2,0]).getD 0 .skip)
def w311c(a:Value)(b:Option Addr)(c:Int):MR:=fun V R=>∃d,V.rowp b ((0:Int).toNat*1) 1=some [uL d]/\Ix d c (∃g i,V.rowp d.p (c.toNat*2) 2=some [uS g,uS i]/\R (rT #[K.cast .f a,uP b,uI c,K.cast .f a,uI c,uA #[uS g,uS i]]) V)
theorem s311c{a:Value}{b:Option Addr}{c:Int}{V:Mem}{R:List Value->Mem->Prop}(h:w311c a b c V (OV R)):qCX Tryz.prog 19 c311c 0 6 [(0,K.cast .f a),(1,uP b),(3,uI c)] [0,1,3,11,12,16] V R :=
 qAy (H:=hK 19) [(0,(.var .f 0)),(1,(.var .p 1)),(3,(.var (.i .i64) 2))] [a,uP b,uI c] rfl (by kernel_rfl) h
noncomputable def c311d:Array Oper:=qEt ((qCk (qAn Tryz.f311) [1,0,0,0,2,0]).getD 0 .skip)
def w311d(a:Value)(b:Option Addr)(c:Int)(d:Bool):MR:=fun V R=>R (rT #[K.cast .f a,uP b,uI c,uB (!d)]) V
theorem s311d{a:Value}{b:Option Addr}{c:Int}{d:Bool}{V:Mem}{R:List Value->Mem->Prop}(h:w311d a b c d V (OV R)):qCX Tryz.prog 19 c311d 7 1 [(0,K.cast .f a),(1,uP b),(3,uI c),(17,uB d)] [0,1,3,18] V R :=
 qAy (H:=hK 19) [(0,(.var .f 0)),(1,(.var .p 1)),(3,(.var (.i .i64) 2)),(17,(.var .b 3))] [a,uP b,uI c,uB d] rfl (by kernel_rfl) h
noncomputable def c311e:List Code:=((qCk (qAn Tryz.f311) [1,0,0,0]).drop 3).take 1
def w311e(a:Value)(b:Option Addr)(c:Int):MR:=fun V R=>IR (c-1)/\R (rT #[K.cast .f a,uP b,uI (c-1)]) V
theorem s311e{a:Value}{b:Option Addr}{c:Int}{V:Mem}{R:List Value->Mem->Prop}(h:w311e a b c V (OV R)):Seg Tryz.prog 19 c311e [(0,K.cast .f a),(1,uP b),(3,uI c)] [0,1,3] V R :=
 qBp (H:=hK 19) [(0,(.var .f 0)),(1,(.var .p 1)),(3,(.var (.i .i64) 2))] [a,uP b,uI c] rfl (by kernel_rfl) h
noncomputable def c218a:List Code:=((qCk (qAn Tryz.f218) []).drop 0).take 1
def w218a(a:Value)(b:Option Addr):MR:=fun V R=>∃c,V.rowp b ((0:Int).toNat*1) 1=some [uL c]/\IR ((c.n:Int)-1)/\R (rT #[K.cast .f a,uP b,uI ((c.n:Int)-1)]) V
theorem s218a{a:Value}{b:Option Addr}{V:Mem}{R:List Value->Mem->Prop}(h:w218a a b V (OV R)):Seg Tryz.prog 19 c218a [(0,K.cast .f a),(1,uP b)] [0,1,3] V R :=
 qBp (H:=hK 19) [(0,(.var .f 0)),(1,(.var .p 1))] [a,uP b] rfl (by kernel_rfl) h
noncomputable def c218b:List Code:=((qCk (qAn Tryz.f218) [1,0,0,0]).drop 0).take 1
def w218b(a:Value)(b:Option Addr)(c:Int):MR:=fun V R=>R (rT #[K.cast .f a,uP b,uI c,uB (decide (0<=c))]) V
theorem s218b{a:Value}{b:Option Addr}{c:Int}{V:Mem}{R:List Value->Mem->Prop}(h:w218b a b c V (OV R)):Seg Tryz.prog 19 c218b [(0,K.cast .f a),(1,uP b),(3,uI c)] [0,1,3,8] V R :=
 qBp (H:=hK 19) [(0,(.var .f 0)),(1,(.var .p 1)),(3,(.var (.i .i64) 2))] [a,uP b,uI c] rfl (by kernel_rfl) h
noncomputable def c218c:Array Oper:=qEt ((qCk (qAn Tryz.f218) [1,0,0,0,2,0]).getD 0 .skip)
def w218c(a:Value)(b:Option Addr)(c:Int):MR:=fun V R=>∃d,V.rowp b ((0:Int).toNat*1) 1=some [uL d]/\Ix d c (∃g i,V.rowp d.p (c.toNat*2) 2=some [uS g,uL i]/\R (rT #[K.cast .f a,uP b,uI c,K.cast .f a,uI c,uA #[uS g,uL i]]) V)
theorem s218c{a:Value}{b:Option Addr}{c:Int}{V:Mem}{R:List Value->Mem->Prop}(h:w218c a b c V (OV R)):qCX Tryz.prog 19 c218c 0 6 [(0,K.cast .f a),(1,uP b),(3,uI c)] [0,1,3,11,12,16] V R :=
 qAy (H:=hK 19) [(0,(.var .f 0)),(1,(.var .p 1)),(3,(.var (.i .i64) 2))] [a,uP b,uI c] rfl (by kernel_rfl) h
noncomputable def c218d:Array Oper:=qEt ((qCk (qAn Tryz.f218) [1,0,0,0,2,0]).getD 0 .skip)
def w218d(a:Value)(b:Option Addr)(c:Int)(d:Bool):MR:=fun V R=>R (rT #[K.cast .f a,uP b,uI c,uB (!d)]) V
theorem s218d{a:Value}{b:Option Addr}{c:Int}{d:Bool}{V:Mem}{R:List Value->Mem->Prop}(h:w218d a b c d V (OV R)):qCX Tryz.prog 19 c218d 7 1 [(0,K.cast .f a),(1,uP b),(3,uI c),(17,uB d)] [0,1,3,18] V R :=
 qAy (H:=hK 19) [(0,(.var .f 0)),(1,(.var .p 1)),(3,(.var (.i .i64) 2)),(17,(.var .b 3))] [a,uP b,uI c,uB d] rfl (by kernel_rfl) h
noncomputable def c218e:List Code:=((qCk (qAn Tryz.f218) [1,0,0,0]).drop 3).take 1
def w218e(a:Value)(b:Option Addr)(c:Int):MR:=fun V R=>IR (c-1)/\R (rT #[K.cast .f a,uP b,uI (c-1)]) V
theorem s218e{a:Value}{b:Option Addr}{c:Int}{V:Mem}{R:List Value->Mem->Prop}(h:w218e a b c V (OV R)):Seg Tryz.prog 19 c218e [(0,K.cast .f a),(1,uP b),(3,uI c)] [0,1,3] V R :=
 qBp (H:=hK 19) [(0,(.var .f 0)),(1,(.var .p 1)),(3,(.var (.i .i64) 2))] [a,uP b,uI c] rfl (by kernel_rfl) h
noncomputable def c219a:List Code:=((qCk (qAn Tryz.f219) []).drop 0).take 1
def w219a(a:Value)(b:Option Addr):MR:=fun V R=>∃c,V.rowp b ((0:Int).toNat*1) 1=some [uL c]/\IR ((c.n:Int)-1)/\R (rT #[K.cast .f a,uP b,uI ((c.n:Int)-1)]) V
theorem s219a{a:Value}{b:Option Addr}{V:Mem}{R:List Value->Mem->Prop}(h:w219a a b V (OV R)):Seg Tryz.prog 19 c219a [(0,K.cast .f a),(1,uP b)] [0,1,3] V R :=
 qBp (H:=hK 19) [(0,(.var .f 0)),(1,(.var .p 1))] [a,uP b] rfl (by kernel_rfl) h
noncomputable def c219b:List Code:=((qCk (qAn Tryz.f219) [1,0,0,0]).drop 0).take 1
def w219b(a:Value)(b:Option Addr)(c:Int):MR:=fun V R=>R (rT #[K.cast .f a,uP b,uI c,uB (decide (0<=c))]) V
theorem s219b{a:Value}{b:Option Addr}{c:Int}{V:Mem}{R:List Value->Mem->Prop}(h:w219b a b c V (OV R)):Seg Tryz.prog 19 c219b [(0,K.cast .f a),(1,uP b),(3,uI c)] [0,1,3,8] V R :=
 qBp (H:=hK 19) [(0,(.var .f 0)),(1,(.var .p 1)),(3,(.var (.i .i64) 2))] [a,uP b,uI c] rfl (by kernel_rfl) h
noncomputable def c219c:Array Oper:=qEt ((qCk (qAn Tryz.f219) [1,0,0,0,2,0]).getD 0 .skip)
def w219c(a:Value)(b:Option Addr)(c:Int):MR:=fun V R=>∃d,V.rowp b ((0:Int).toNat*1) 1=some [uL d]/\Ix d c (∃g i j k l,V.rowp d.p (c.toNat*5) 5=some [uS g,uL i,uS j,uL k,uL l]/\R (rT #[K.cast .f a,uP b,uI c,K.cast .f a,uI c,uA #[uS g,uL i,uS j,uL k,uL l]]) V)
theorem s219c{a:Value}{b:Option Addr}{c:Int}{V:Mem}{R:List Value->Mem->Prop}(h:w219c a b c V (OV R)):qCX Tryz.prog 19 c219c 0 6 [(0,K.cast .f a),(1,uP b),(3,uI c)] [0,1,3,11,12,16] V R :=
 qAy (H:=hK 19) [(0,(.var .f 0)),(1,(.var .p 1)),(3,(.var (.i .i64) 2))] [a,uP b,uI c] rfl (by kernel_rfl) h
noncomputable def c219d:Array Oper:=qEt ((qCk (qAn Tryz.f219) [1,0,0,0,2,0]).getD 0 .skip)
def w219d(a:Value)(b:Option Addr)(c:Int)(d:Bool):MR:=fun V R=>R (rT #[K.cast .f a,uP b,uI c,uB (!d)]) V
theorem s219d{a:Value}{b:Option Addr}{c:Int}{d:Bool}{V:Mem}{R:List Value->Mem->Prop}(h:w219d a b c d V (OV R)):qCX Tryz.prog 19 c219d 7 1 [(0,K.cast .f a),(1,uP b),(3,uI c),(17,uB d)] [0,1,3,18] V R :=
 qAy (H:=hK 19) [(0,(.var .f 0)),(1,(.var .p 1)),(3,(.var (.i .i64) 2)),(17,(.var .b 3))] [a,uP b,uI c,uB d] rfl (by kernel_rfl) h
noncomputable def c219e:List Code:=((qCk (qAn Tryz.f219) [1,0,0,0]).drop 3).take 1
def w219e(a:Value)(b:Option Addr)(c:Int):MR:=fun V R=>IR (c-1)/\R (rT #[K.cast .f a,uP b,uI (c-1)]) V
theorem s219e{a:Value}{b:Option Addr}{c:Int}{V:Mem}{R:List Value->Mem->Prop}(h:w219e a b c V (OV R)):Seg Tryz.prog 19 c219e [(0,K.cast .f a),(1,uP b),(3,uI c)] [0,1,3] V R :=
 qBp (H:=hK 19) [(0,(.var .f 0)),(1,(.var .p 1)),(3,(.var (.i .i64) 2))] [a,uP b,uI c] rfl (by kernel_rfl) h
noncomputable def c267a:List Code:=((qCk (qAn Tryz.f267) []).drop 0).take 3
def w267a(a:Option Addr)(b:Bool)(c:Sl):MR:=fun V R=>GenK Tryz.prog (.makeMap 312 none) 312 (gv []) V fun x V1=>∃d,x=uM d/\¬a=none/\¬a=none/\¬(qAa a 0)=none/\∃g,V1.rowp a 2 1=some [uL g]/\TT 296 #[uL g] V1 fun e V2=>∃i,K.f.ok i/\e=rV i/\qAr [uP none,uM none,uB false] 314 V2 fun j V3=>qAr [uP a,uM d,uB b] 314 V3 fun k V4=>R (rT #[uP a,uB b,uL c,uP (qAa j 0),uP (qAa k 0),K.cast .f i]) V4
theorem s267a{a:Option Addr}{b:Bool}{c:Sl}{V:Mem}{R:List Value->Mem->Prop}(h:w267a a b c V (OV R)):Seg Tryz.prog 63 c267a [(0,uP a),(1,uB b),(2,uL c)] [0,1,2,6,7,24] V R :=
 qBp (H:=hK 63) [(0,(.var .p 0)),(1,(.var .b 1)),(2,(.var .sl 2))] [uP a,uB b,uL c] rfl (by kernel_rfl) h
noncomputable def c267b:List Code:=((qCk (qAn Tryz.f267) [3,0,0,0]).drop 0).take 1
def w267b(a:Option Addr)(b c:ByteArray):MR:=fun V R=>qAr [uS b,uS c] 101 V fun d V1=>R (rT #[uP a,uP (qAa d 0)]) V1
theorem s267b{a:Option Addr}{b c:ByteArray}{V:Mem}{R:List Value->Mem->Prop}(h:w267b a b c V (OV R)):Seg Tryz.prog 63 c267b [(7,uP a),(26,uA #[uS b,uS c])] [7,9] V R :=
 qBp (H:=hK 63) [(7,(.var .p 0)),(26,(.agg (.cons (.var .s 1) (.cons (.var .s 2) .nil))))] [uP a,uS b,uS c] rfl (by kernel_rfl) h
noncomputable def c267c:List Code:=((qCk (qAn Tryz.f267) [3,0,0,1]).drop 0).take 1
def w267c(a b:Option Addr):MR:=fun V R=>¬a=none/\∃c,V.rowp a 1 1=some [uM c]/\¬b=none/\∃d,V.rowp b ((0:Int).toNat*1) 1=some [uS d]/\¬b=none/\∃g,V.rowp b 1 1=some [uS g]/\qDu Tryz.prog 312 (uM c) (uS d) (uS g) V fun V1=>R (rT #[]) V1
theorem s267c{a b:Option Addr}{V:Mem}{R:List Value->Mem->Prop}(h:w267c a b V (OV R)):Seg Tryz.prog 63 c267c [(7,uP a),(9,uP b)] [] V R :=
 qBp (H:=hK 63) [(7,(.var .p 0)),(9,(.var .p 1))] [uP a,uP b] rfl (by kernel_rfl) h
noncomputable def c267d:List Code:=((qCk (qAn Tryz.f267) []).drop 4).take 4
def w267d(a:Option Addr)(b:Bool)(c:Sl)(d g:Option Addr):MR:=fun V R=>GenK Tryz.prog (.makeMap 357 none) 357 (gv []) V fun x V1=>∃i,x=uM i/\Lp [uI 0] V1 fun I n V2=>∀j,I n [uI j] V2->∀J0:LMP,Nx I n J0->Br (j<(c.n:Int)) (Ix c j (∃k,V2.rowp c.p (j.toNat*1) 1=some [uL k]/\Lp [uI 0] V2 fun I n V3=>∀l,I n [uI l] V3->∀J1:LMP,Nx I n J1->Br (l<(k.n:Int)) (Ix k l (∃o p,V3.rowp k.p (l.toNat*2) 2=some [uS o,uS p]/\qBv Tryz.prog 357 (uM i) (uS o) false V3 fun x=>∃q,x=uB q/\Br (q=true) (IR (l+1)/\J1 [uI (l+1)] V3) (¬g=none/\∃r,V3.rowp g 1 1=some [uM r]/\qDu Tryz.prog 312 (uM r) (uS o) (uS p) V3 fun V4=>qDu Tryz.prog 357 (uM i) (uS o) (.bool true) V4 fun V5=>IR (l+1)/\J1 [uI (l+1)] V5))) (IR (j+1)/\J0 [uI (j+1)] V3))) (∃k l o,V2.rowp g ((0:Int).toNat*1) 3=some [uP k,uM l,uB o]/\StT d 0 [uP k,uM l,uB o] V2 fun V3=>R (rT #[uP d]) V3)
theorem s267d{a:Option Addr}{b:Bool}{c:Sl}{d g:Option Addr}{V:Mem}{R:List Value->Mem->Prop}(h:w267d a b c d g V (OV R)):Seg Tryz.prog 63 c267d [(0,uP a),(1,uB b),(2,uL c),(6,uP d),(7,uP g)] [6] V R :=
 qBp (H:=hK 63) [(0,(.var .p 0)),(1,(.var .b 1)),(2,(.var .sl 2)),(6,(.var .p 3)),(7,(.var .p 4))] [uP a,uB b,uL c,uP d,uP g] rfl (by kernel_rfl) h
noncomputable def c158a:List Code:=((qCk (qAn Tryz.f158) []).drop 0).take 3
def w158a(a:ByteArray)(b c d g i j k:Sl):MR:=fun V R=>GenK Tryz.prog (.makeMap 269 none) 269 (gv []) V fun x V1=>∃l,x=uM l/\GenK Tryz.prog (.makeMap 270 none) 270 (gv []) V1 fun x V2=>∃o,x=uM o/\TT 189 #[uL b] V2 fun e V3=>∃p,K.f.ok p/\e=rV p/\qAr [uS a,uL b,uL c,uL d,uL g,uL i,uL j,uL k] 30 V3 fun q V4=>qAr [uS a,uL b,uL c,uL d,uL g,uL i,uL j,uL k,uM l,uM o] 272 V4 fun r V5=>qAr [uP (qAa r 0)] 234 V5 fun s V6=>R (rT #[uP (qAa q 0),uP (qAa s 0),K.cast .f p]) V6
theorem s158a{a:ByteArray}{b c d g i j k:Sl}{V:Mem}{R:List Value->Mem->Prop}(h:w158a a b c d g i j k V (OV R)):Seg Tryz.prog 38 c158a [(0,uD a b c d g i j k)] [1,3,15] V R :=
 qBp (H:=hK 38) [(0,(.agg (.cons (.var .s 0) (.cons (.var .sl 1) (.cons (.var .sl 2) (.cons (.var .sl 3) (.cons (.var .sl 4) (.cons (.var .sl 5) (.cons (.var .sl 6) (.cons (.var .sl 7) .nil))))))))))] [uS a,uL b,uL c,uL d,uL g,uL i,uL j,uL k] rfl (by kernel_rfl) h
noncomputable def c158b:List Code:=((qCk (qAn Tryz.f158) [3,0,0,0]).drop 0).take 1
def w158b(a:Option Addr)(b:ByteArray)(c:Sl):MR:=fun V R=>qAr [uS b,uL c] 98 V fun d V1=>R (rT #[uP a,uP (qAa d 0)]) V1
theorem s158b{a:Option Addr}{b:ByteArray}{c:Sl}{V:Mem}{R:List Value->Mem->Prop}(h:w158b a b c V (OV R)):Seg Tryz.prog 38 c158b [(3,uP a),(17,uA #[uS b,uL c])] [3,5] V R :=
 qBp (H:=hK 38) [(3,(.var .p 0)),(17,(.agg (.cons (.var .s 1) (.cons (.var .sl 2) .nil))))] [uP a,uS b,uL c] rfl (by kernel_rfl) h
noncomputable def c158c:List Code:=((qCk (qAn Tryz.f158) [3,0,0,1]).drop 0).take 1
def w158c(a b:Option Addr):MR:=fun V R=>∃c,V.rowp a ((0:Int).toNat*1) 1=some [uP c]/\¬c=none/\¬c=none/\∃d,V.rowp c 8 1=some [uM d]/\¬b=none/\∃g,V.rowp b ((0:Int).toNat*1) 1=some [uS g]/\∃i j,V.rowp b ((0:Int).toNat*1) 2=some [uS i,uL j]/\qDu Tryz.prog 269 (uM d) (uS g) (uA #[uS i,uL j]) V fun V1=>R (rT #[]) V1
theorem s158c{a b:Option Addr}{V:Mem}{R:List Value->Mem->Prop}(h:w158c a b V (OV R)):Seg Tryz.prog 38 c158c [(3,uP a),(5,uP b)] [] V R :=
 qBp (H:=hK 38) [(3,(.var .p 0)),(5,(.var .p 1))] [uP a,uP b] rfl (by kernel_rfl) h
noncomputable def c158d:List Code:=((qCk (qAn Tryz.f158) []).drop 4).take 1
def w158d(a b:Option Addr):MR:=fun V R=>¬a=none/\∃c,V.rowp a 3 1=some [uL c]/\TT 190 #[uL c] V fun e V1=>∃d,K.f.ok d/\e=rV d/\R (rT #[uP b,K.cast .f d]) V1
theorem s158d{a b:Option Addr}{V:Mem}{R:List Value->Mem->Prop}(h:w158d a b V (OV R)):Seg Tryz.prog 38 c158d [(1,uP a),(3,uP b)] [3,27] V R :=
 qBp (H:=hK 38) [(1,(.var .p 0)),(3,(.var .p 1))] [uP a,uP b] rfl (by kernel_rfl) h
noncomputable def c158e:List Code:=((qCk (qAn Tryz.f158) [5,0,0,0]).drop 0).take 1
def w158e(a:Option Addr)(b:ByteArray)(c:Sl)(d:ByteArray)(g i:Sl):MR:=fun V R=>qAr [uS b,uL c,uS d,uL g,uL i] 143 V fun j V1=>R (rT #[uP a,uP (qAa j 0)]) V1
theorem s158e{a:Option Addr}{b:ByteArray}{c:Sl}{d:ByteArray}{g i:Sl}{V:Mem}{R:List Value->Mem->Prop}(h:w158e a b c d g i V (OV R)):Seg Tryz.prog 38 c158e [(3,uP a),(29,uA #[uS b,uL c,uS d,uL g,uL i])] [3,7] V R :=
 qBp (H:=hK 38) [(3,(.var .p 0)),(29,(.agg (.cons (.var .s 1) (.cons (.var .sl 2) (.cons (.var .s 3) (.cons (.var .sl 4) (.cons (.var .sl 5) .nil)))))))] [uP a,uS b,uL c,uS d,uL g,uL i] rfl (by kernel_rfl) h
noncomputable def c158f:List Code:=((qCk (qAn Tryz.f158) [5,0,0,1]).drop 0).take 1
def w158f(a b:Option Addr):MR:=fun V R=>∃c,V.rowp a ((0:Int).toNat*1) 1=some [uP c]/\¬c=none/\¬c=none/\∃d,V.rowp c 9 1=some [uM d]/\¬b=none/\∃g,V.rowp b ((0:Int).toNat*1) 1=some [uS g]/\∃i j k l o,V.rowp b ((0:Int).toNat*1) 5=some [uS i,uL j,uS k,uL l,uL o]/\qDu Tryz.prog 270 (uM d) (uS g) (uA #[uS i,uL j,uS k,uL l,uL o]) V fun V1=>R (rT #[]) V1
theorem s158f{a b:Option Addr}{V:Mem}{R:List Value->Mem->Prop}(h:w158f a b V (OV R)):Seg Tryz.prog 38 c158f [(3,uP a),(7,uP b)] [] V R :=
 qBp (H:=hK 38) [(3,(.var .p 0)),(7,(.var .p 1))] [uP a,uP b] rfl (by kernel_rfl) h
noncomputable def c158g:List Code:=((qCk (qAn Tryz.f158) []).drop 6).take 1
def w158g(a:Option Addr):MR:=fun V R=>∃b,V.rowp a ((0:Int).toNat*1) 1=some [uP b]/\R (rT #[uP b]) V
theorem s158g{a:Option Addr}{V:Mem}{R:List Value->Mem->Prop}(h:w158g a V (OV R)):Seg Tryz.prog 38 c158g [(3,uP a)] [2] V R :=
 qBp (H:=hK 38) [(3,(.var .p 0))] [uP a] rfl (by kernel_rfl) h
end
end Go.Proofs
namespace Go.Sx
open Go
section
variable{P:Program}
def Has(N:Nat)(a:Act)(l:List (Nat×Value)):Prop:=a.tmps.size=N/\∀s v,l.lookup s=some v->a.tmps.getD s undef=v
theorem Seg.step{r:Option Nat}{n N:Nat}{Q:Exit->Act->World->Prop}{cs rest:List Code}{ins:List (Nat×Value)}{outs:List Nat}{V:Mem}{R:List Value->Mem->Prop}{a:Act}{w:World}(h:Seg P N cs ins outs V R)(hV:V.le w)(ha:Has N a ins)
  (k:∀a' w' vs V',a'.defers=a.defers->Has N a' (outs.zip vs)->R vs V'->Frm V w V' w'->wpL r n P Q rest a' w'):wpL r n P Q (cs++rest) a w:=by
 refine qJm (qCA ?_ (h r n a w hV ha.1 ha.2))
 rintro e a' w' ⟨rfl,h1,h2,vs,V',h3,h4,h5⟩
 exact k a' w' vs V' h1 ⟨h2,h3⟩ h4 h5
theorem qCX.step{r:Option Nat}{n N k m:Nat}{Q:Exit->Act->World->Prop}{ops:Array Oper}{rest:List Nat}{ins:List (Nat×Value)}{outs:List Nat}{V:Mem}{R:List Value->Mem->Prop}{a:Act}{w:World}(h:qCX P N ops k m ins outs V R)(hV:V.le w)(ha:Has N a ins)
  (go:∀a' w' vs V',a'.defers=a.defers->Has N a' (outs.zip vs)->R vs V'->Frm V w V' w'->wpOpsIn (qAz r) n P ops Q rest a' w'):wpOpsIn (qAz r) n P ops Q (List.range' k m++rest) a w:=by
 refine qJc (fun c a w he=>by cases he.1) (fun⟨_,_,he⟩=>by cases he.1) ?_ (h r n a w hV ha.1 ha.2)
 rintro a' w' ⟨_,h1,h2,vs,V',h3,h4,h5⟩
 exact go a' w' vs V' h1 ⟨h2,h3⟩ h4 h5
theorem yield_op{ops:Array Oper}{i:Nat}{o:Oper}{c:Call}{fv:Operand}{l:Nat}{rec:Loop}{args:Array Value}{rest:List Nat}{Q:Exit->Act->World->Prop}{a:Act}{w:World}(ho:ops[i]?=some o)(hg:o.guard=none)(hop:o.op=.call c)(hc:c.callee=.value fv)
  (hf:a.eval fv=.func (.yield l) #[] #[]) (hargs:c.args.map a.eval=args) (hl:w.heap[l]?=some (.loop rec)) (hs:args.size=rec.params.size)
  (hR:RoundIn (qAz none) 0 P l rec.fn ((rec.params.zip args).foldl (fun t (p,v)=>t.setIfInBounds p v) rec.tmps) rec.assign rec.body w fun e w'=>∃v,e=.returned v/\wpOpsIn (qAz none) 0 P ops Q rest (a.put o.dst v) w') :
  wpOpsIn (qAz none) 0 P ops Q (i::rest) a w:=by
 rw[wpOpsIn_cons]
 unfold wpOpIn
 simp only[ho]
 rw[if_pos (by simp[Region.wanted,hg])]
 refine⟨fun _ _=>trivial,?_⟩
 rw[Oper.semAt_eq _ _ _ (fun d=>by simp_all)]
 have hrun:(execOp a.eval o).run P w=.ok (.round l rec.fn ((rec.params.zip args).foldl (fun t (p,v)=>t.setIfInBounds p v) rec.tmps) rec.assign rec.body) w:=by
  unfold execOp
  simp only[hop,resolve,hc,hf,hargs,Deferred.ofValue,Sem.run_bind,Sem.run_pure,Result.andThen_ok,invoke]
  grind [run_yield]
 rw[hrun]
 refine⟨fun h=>by simp[qAz,Fence.wide]at h,hR.mono ?_⟩
 simp_all
theorem Has.get{N:Nat}{a:Act}{l:List (Nat×Value)}(h:Has N a l){s:Nat}{v:Value}(hs:l.lookup s=some v):a.tmps.getD s undef=v:=h.2 s v hs
theorem qIX{f:FuncId}{fn:Func}{c L B:Code}{b0 b1 id:Nat}{cA cB cE:List Code}{ops:Array Oper}{o6:Oper}{at6:Array TypeId}{fn':FuncId}{tmps:Array Value}{ps:Array Tmp}{assign body:Code}{D:Nat}{l:Nat}{box:Option Addr}{n:Nat}{el:Nat->Value}{J:Nat->Mem->Prop}{Bk:Mem->Prop}{V:Mem}
  (hf:P.funcs[f]?=some fn) (hb:fn.body=some c) (e1:flat c=cA++[.block b0 (.loop L)]) (e2:flat L=cB++([.cond (.tmp 8) .skip (.exit b0),.block b1 B]++cE)) (e3:flat B=[.region id ops false,.cond (.tmp 18) .ret .skip])
  (ho:ops[6]?=some o6) (hgd:o6.guard=none) (hop:o6.op=.call { callee:=.value (.tmp 11),args:=#[.tmp 12,.tmp 16],argTypes:=at6 }) (hdst:o6.dst=some 17) (hsz:ops.size=8) (hres:fn.results=#[]) (hN:fn.ntmps=19) (hps:ps.size=2)
  (hA:∀M,Bk M->Seg P 19 cA [(0,.func (.yield l) #[] #[]),(1,.pointer box)] [0,1,3] M fun vs V'=>V'=M/\vs=[.func (.yield l) #[] #[],.pointer box,.int .i64 ((n:Int)-1)])
  (hB:∀M (j:Int),Seg P 19 cB [(0,.func (.yield l) #[] #[]),(1,.pointer box),(3,.int .i64 j)] [0,1,3,8] M fun vs V'=>V'=M/\vs=[.func (.yield l) #[] #[],.pointer box,.int .i64 j,.bool (decide (0<=j))])
  (hC:∀M (k:Nat),Bk M->k<n->qCX P 19 ops 0 6 [(0,.func (.yield l) #[] #[]),(1,.pointer box),(3,.int .i64 k)] [0,1,3,11,12,16] M fun vs V'=>V'=M/\vs=[.func (.yield l) #[] #[],.pointer box,.int .i64 k,.func (.yield l) #[] #[],.int .i64 k,el k])
  (hD:∀M (j:Int) (b:Bool),qCX P 19 ops 7 1 [(0,.func (.yield l) #[] #[]),(1,.pointer box),(3,.int .i64 j),(17,.bool b)] [0,1,3,18] M fun vs V'=>V'=M/\vs=[.func (.yield l) #[] #[],.pointer box,.int .i64 j,.bool (!b)])
  (hE:∀M (j:Int),Bk M->0<=j->j<n->Seg P 19 cE [(0,.func (.yield l) #[] #[]),(1,.pointer box),(3,.int .i64 j)] [0,1,3] M fun vs V'=>V'=M/\vs=[.func (.yield l) #[] #[],.pointer box,.int .i64 (j-1)])
  (hJ:∀i V2,J i V2->V2 l=none->Bk (V2.set l (.loop (qDy fn' tmps ps assign body D))))
  (hround:∀k,k<n->∀V2,J (n-1-k) V2->V2 l=none->∀w,(V2.set l (.loop (qDy fn' tmps ps assign body D))).le w ->
   RoundIn (qAz none) 0 P l fn' ((ps.zip #[.int .i64 k,el k]).foldl (fun t (p,v)=>t.setIfInBounds p v) tmps) assign body w fun e w' =>
    e=.returned (.bool true)/\∃V3,J (n-k) V3/\V3 l=none/\Frm (V2.set l (.loop (qDy fn' tmps ps assign body D))) w (V3.set l (.loop (qDy fn' tmps ps assign body D))) w')
  (h0:J 0 V) (hl:V l=none) :
  Tri P f #[.func (.yield l) #[] #[],.pointer box] (V.set l (.loop (qDy fn' tmps ps assign body D))) fun e V'=>(∃v,e=.returned v)/\∃V2,V'=V2.set l (.loop (qDy fn' tmps ps assign body D))/\V2 l=none/\J n V2:=by
 intro w hV
 refine(callsIn_wide (n:=0)).1 (callsIn_of_wp (F:=qAz none) hf hb trivial (qCo ?_) rfl)
 rw[e1]
 have hH0:Has 19 { tmps:=#[.func (.yield l) #[] #[],.pointer box]++Array.replicate (fn.ntmps-(#[Value.func (.yield l) #[] #[],.pointer box]).size) undef,defers:=[] } [(0,.func (.yield l) #[] #[]),(1,.pointer box)]:=by
  constructor
  ·simp[hN]
  ·intro s v hs
   simp only[List.lookup_cons]at hs
   split at hs
   ·simp_all
   ·split at hs
    ·simp_all
    ·cases hs
 refine(hA _ (hJ 0 V h0 hl)).step hV hH0 ?_
 rintro a1 w1 vs V1 hd1 hH1 ⟨rfl,rfl⟩ hF1
 refine wpIn_block ?_
 refine qFM (fun m a w'=>∃(i:Nat) (V2:Mem),i<=n/\m=n-i/\J i V2/\V2 l=none/\a.defers=[]/\Has 19 a [(0,.func (.yield l) #[] #[]),(1,.pointer box),(3,.int .i64 ((n:Int)-1-i))] /\
  Frm (V.set l (.loop (qDy fn' tmps ps assign body D))) w (V2.set l (.loop (qDy fn' tmps ps assign body D))) w') ⟨n,0,V,by omega,rfl,h0,hl,hd1,by simpa using hH1,hF1⟩ ?_
 rintro m a2 w2 ⟨i,V2,hi,rfl,hJi,hl2,hd2,hH2,hF2⟩
 refine qCo ?_
 rw[e2]
 refine(hB _ _).step hF2.le hH2 ?_
 rintro a3 w3 vs V3 hd3 hH3 ⟨rfl,rfl⟩ hF3
 have hev8:a3.eval (.tmp 8)=.bool (decide (0<=(n:Int)-1-i)):=hH3.get rfl
 show Code.wpIn (qAz none) 0 P _ _ a3 w3
 by_cases hlt:i<n
 ·have hdc:decide (0<=(n:Int)-1-i)=true:=by simp;omega
  rw[hdc]at hev8
  refine wpIn_cond_true hev8 (wpIn_skip ?_)
  show Code.wpIn (qAz none) 0 P _ _ a3 w3
  refine wpIn_block (qCo ?_)
  rw[e3]
  have hk:((n:Int)-1-i)=((n-1-i:Nat):Int):=by omega
  have hH3':Has 19 a3 [(0,.func (.yield l) #[] #[]),(1,.pointer box),(3,.int .i64 ((n-1-i:Nat):Int))]:=⟨hH3.1,fun s v hs=>hH3.2 s v (by
   grind [List.zip_cons_cons])⟩
  refine wpIn_region ?_
  rw[hsz,show List.range 8=List.range' 0 6++[6,7] from rfl]
  refine(hC _ (n-1-i) (hJ _ _ hJi hl2) (by omega)).step hF3.le hH3' ?_
  rintro a4 w4 vs V4 hd4 hH4 ⟨rfl,rfl⟩ hF4
  have hl4:w4.heap[l]?=some (.loop (qDy fn' tmps ps assign body D)):=hF4.le _ _ (Mem.set_same _ _ _)
  refine yield_op (args:=#[.int .i64 ((n-1-i:Nat):Int),el (n-1-i)]) ho hgd hop rfl (hH4.get rfl) ?_ hl4 (by simp[qDy,hps]) ?_
  ·have g1:a4.eval (.tmp 12)=.int .i64 ((n-1-i:Nat):Int):=hH4.get rfl
   have g2:a4.eval (.tmp 16)=el (n-1-i):=hH4.get rfl
   simp[g1,g2]
  refine(hround (n-1-i) (by omega) V2 (by grind) hl2 w4 hF4.le).mono ?_
  rintro e w5 ⟨rfl,V5,hJ5,hl5,hF5⟩
  refine⟨_,rfl,?_⟩
  rw[hdst]
  have hlt17:(17:Nat)<a4.tmps.size:=by rw[hH4.1];decide
  have hH5:Has 19 (a4.put (some 17) (.bool true)) [(0,.func (.yield l) #[] #[]),(1,.pointer box),(3,.int .i64 ((n-1-i:Nat):Int)),(17,.bool true)]:=by
   refine⟨by simp[Act.put,hH4.1],fun s v hs=>?_⟩
   have other:∀s,s≠17->(a4.put (some 17) (.bool true)).tmps.getD s undef=a4.tmps.getD s undef:=fun s hs=>by
    simp[Act.put,Array.getD_eq_getD_getElem?,Array.getElem?_setIfInBounds_ne (Ne.symm hs)]
   simp only[List.lookup_cons]at hs
   split at hs
   ·rename_i e;simp only[beq_iff_eq]at e;subst e;cases hs;rw[other _ (by decide)];exact hH4.get rfl
   ·split at hs
    ·rename_i e;simp only[beq_iff_eq]at e;subst e;cases hs;rw[other _ (by decide)];exact hH4.get rfl
    ·split at hs
     ·rename_i e;simp only[beq_iff_eq]at e;subst e;cases hs;rw[other _ (by decide)];exact hH4.get rfl
     ·split at hs
      ·simp_all [beq_iff_eq,Act.put,Array.getD_eq_getD_getElem?]
      ·cases hs
  rw[show [7]=List.range' 7 1++[] from rfl]
  refine(hD _ _ true).step hF5.le hH5 ?_
  rintro a6 w6 vs V6 hd6 hH6 ⟨rfl,rfl⟩ hF6
  show Code.wpIn (qAz none) 0 P (.cond (.tmp 18) .ret .skip) _ a6 w6
  refine wpIn_cond_false (hH6.get rfl) (wpIn_skip ?_)
  rw[<- List.append_nil cE]
  refine(hE _ ((n-1-i:Nat):Int) (hJ _ _ hJ5 hl5) (by omega) (by omega)).step hF6.le ⟨hH6.1,fun s v hs=>hH6.2 s v ?_⟩ ?_
  ·grind [List.zip_cons_cons]
  rintro a7 w7 vs V7 hd7 hH7 ⟨rfl,rfl⟩ hF7
  refine⟨n-(i+1),by omega,i+1,V5,by omega,rfl,?_,hl5,?_,?_,?_⟩
  ·grind
  ·rw[hd7,hd6]
   show a4.defers=[]
   grind
  ·rw[show (n:Int)-1-((i+1:Nat):Int)=((n-1-i:Nat):Int)-1 by omega]
   exact hH7
  ·exact((((hF2.trans hF3).trans hF4).trans hF5).trans hF6).trans hF7
 ·have hin:i=n:=by omega
  subst hin
  have hdc:decide (0<=(i:Int)-1-i)=false:=by simp;omega
  rw[hdc]at hev8
  refine wpIn_cond_false hev8 (wpIn_exit ?_)
  show (if b0=b0 then _ else _)
  rw[if_pos rfl]
  refine⟨?_,_,results_none hres _ _ _,_,⟨⟨_,rfl⟩,V2,rfl,hl2,hJi⟩,hF2.trans hF3⟩
  rw[hd3,hd2]
end
end Go.Sx
namespace Go.Proofs
open Go Go.Sx
attribute [local irreducible] Go.Sx.Tri
theorem GenK.makeMap{P:Program}{V:Mem}{t:TypeId}{ty:Nat}{vals:Operand->Value}{q:Value->Mem->Prop}(hq:∀b,V b=none->q (.map (some b)) (V.set b (.map #[] 0))):GenK P (.makeMap t none) ty vals V q:=by
 intro w hw
 have hn:V w.heap.size=none:=by
  cases hc:V w.heap.size with
  | none=>rfl
  | some o=>have:=(Array.getElem?_eq_some_iff.1 (hw _ o hc)).1;omega
 refine⟨_,w.alloc (.map #[] 0),V.set w.heap.size (.map #[] 0),rfl,?_,hq _ hn⟩
 refine⟨by simp,fun b o hb=>?_,fun b hb _=>Go.RowKit.Below.heap_alloc _ _ _ hb,fun b hb=>?_,rfl,rfl⟩
 ·by_cases e:b=w.heap.size
  ·grind [Mem.set_same,World.alloc_heap_new]
  ·rw[Mem.set_ne e]at hb
   have hlt:=(Array.getElem?_eq_some_iff.1 (hw b o hb)).1
   exact(Go.RowKit.Below.heap_alloc _ _ _ hlt).trans (hw b o hb)
 grind [inr,Mem.set_ne]
theorem qKl{α:Type}{V:Mem}{s:Sl}{sz:Nat}{row:α->List Value}{xs:List α}(h:qAc V s sz (xs.map row)):K.inR .i64 ((s.n:Int)-1):=by
 have:=h.cap;have:=h.fit
 exact⟨by omega,by omega⟩
theorem it311{V:Mem}{fn':FuncId}{tmps:Array Value}{ps:Array Tmp}{assign body:Code}{D:Nat}{l:Nat}{bx:Nat}{s:Sl}{xs:List Fld}{J:Nat->Mem->Prop}(hps:ps.size=2)
  (hJ:∀i V2,J i V2->V2 l=none->V2 bx=some (cell (.slice s.p s.n s.c) 23)/\qAc V2 s 2 (xs.map Fld.row))
  (hround:∀k x,xs[k]?=some x->∀V2,J (xs.length-1-k) V2->V2 l=none->∀w,(V2.set l (.loop (qDy fn' tmps ps assign body D))).le w ->
   RoundIn (qAz none) 0 Tryz.prog l fn' ((ps.zip #[.int .i64 k,Fld.v x]).foldl (fun t (p,v)=>t.setIfInBounds p v) tmps) assign body w fun e w' =>
    e=.returned (.bool true)/\∃V3,J (xs.length-k) V3/\V3 l=none/\Frm (V2.set l (.loop (qDy fn' tmps ps assign body D))) w (V3.set l (.loop (qDy fn' tmps ps assign body D))) w')
  (h0:J 0 V) (hl:V l=none) :
  Tri Tryz.prog 311 #[.func (.yield l) #[] #[],pv bx] (V.set l (.loop (qDy fn' tmps ps assign body D))) fun e V'=>(∃v,e=.returned v)/\∃V2,V'=V2.set l (.loop (qDy fn' tmps ps assign body D))/\V2 l=none/\J xs.length V2:=by
 refine qIX (c:=qAn Tryz.f311) (L:=kid ((qCk (qAn Tryz.f311) [1,0]).getD 0 .skip) 0) (B:=kid ((qCk (qAn Tryz.f311) [1,0,0,0]).getD 2 .skip) 0) (cA:=c311a) (cB:=c311b) (cE:=c311e) (ops:=c311c) (b0:=0) (b1:=1) (id:=3)
  (o6:=(c311c)[6]?.getD default) (at6:=#[3,101]) (el:=fun k=>(xs[k]?.map Fld.v).getD undef) (Bk:=fun M=>M bx=some (cell (.slice s.p s.n s.c) 23)/\qAc M s 2 (xs.map Fld.row))
  Tryz.func311 (by kernel_rfl) (by kernel_rfl) (by kernel_rfl) (by kernel_rfl) (by kernel_rfl) (by kernel_rfl) (by kernel_rfl) (by kernel_rfl) (by kernel_rfl) (by kernel_rfl) (by kernel_rfl) hps ?_ ?_ ?_ ?_ ?_ ?_ ?_ h0 hl
 ·rintro M ⟨h1,h2⟩
  refine s311a (a:=.func (.yield l) #[] #[]) (b:=some ⟨bx,0,none⟩) ?_
  unfold w311a
  exact⟨s,qBD h1,qKl h2,_,rfl,rfl,by rw[h2.n_eq];rfl⟩
 ·intro M j
  refine s311b (a:=.func (.yield l) #[] #[]) (b:=some ⟨bx,0,none⟩) ?_
  unfold w311b
  exact⟨_,rfl,rfl,rfl⟩
 ·rintro M k ⟨h1,h2⟩ hk
  refine s311c (a:=.func (.yield l) #[] #[]) (b:=some ⟨bx,0,none⟩) ?_
  unfold w311c
  obtain⟨x,hm,hx,hdr,hlt,hnn,hz,hrow⟩:=h2.get (i:=k) (by rw[h2.n_eq];omega)
  exact⟨s,qBD h1,hnn,hz,by rw[h2.n_eq];omega,x.name,x.ty,hrow,_,rfl,rfl,by rw[hx];rfl⟩
 ·intro M j b
  refine s311d (a:=.func (.yield l) #[] #[]) (b:=some ⟨bx,0,none⟩) ?_
  unfold w311d
  exact⟨_,rfl,rfl,rfl⟩
 ·rintro M j ⟨h1,h2⟩ hj hj2
  have hb1:=h2.cap
  have hb2:=h2.fit
  have hb3:=h2.n_eq
  refine s311e (a:=.func (.yield l) #[] #[]) (b:=some ⟨bx,0,none⟩) ?_
  unfold w311e
  exact⟨⟨by omega,by omega⟩,_,rfl,rfl,rfl⟩
 ·intro i V2 hj hl2
  obtain⟨h1,h2⟩:=hJ i V2 hj hl2
  have e:bx≠l:=fun e=>by simp_all
  exact⟨by rw[Mem.set_ne e];exact h1,h2.sub (Mem.sub_new hl2 _)⟩
 simp_all
theorem it218{V:Mem}{fn':FuncId}{tmps:Array Value}{ps:Array Tmp}{assign body:Code}{D:Nat}{l:Nat}{bx:Nat}{s:Sl}{xs:List Ty}{J:Nat->Mem->Prop}(hps:ps.size=2)
  (hJ:∀i V2,J i V2->V2 l=none->V2 bx=some (cell (.slice s.p s.n s.c) 22)/\qAc V2 s 2 (xs.map Ty.row))
  (hround:∀k x,xs[k]?=some x->∀V2,J (xs.length-1-k) V2->V2 l=none->∀w,(V2.set l (.loop (qDy fn' tmps ps assign body D))).le w ->
   RoundIn (qAz none) 0 Tryz.prog l fn' ((ps.zip #[.int .i64 k,Ty.v x]).foldl (fun t (p,v)=>t.setIfInBounds p v) tmps) assign body w fun e w' =>
    e=.returned (.bool true)/\∃V3,J (xs.length-k) V3/\V3 l=none/\Frm (V2.set l (.loop (qDy fn' tmps ps assign body D))) w (V3.set l (.loop (qDy fn' tmps ps assign body D))) w')
  (h0:J 0 V) (hl:V l=none) :
  Tri Tryz.prog 218 #[.func (.yield l) #[] #[],pv bx] (V.set l (.loop (qDy fn' tmps ps assign body D))) fun e V'=>(∃v,e=.returned v)/\∃V2,V'=V2.set l (.loop (qDy fn' tmps ps assign body D))/\V2 l=none/\J xs.length V2:=by
 refine qIX (c:=qAn Tryz.f218) (L:=kid ((qCk (qAn Tryz.f218) [1,0]).getD 0 .skip) 0) (B:=kid ((qCk (qAn Tryz.f218) [1,0,0,0]).getD 2 .skip) 0) (cA:=c218a) (cB:=c218b) (cE:=c218e) (ops:=c218c) (b0:=0) (b1:=1) (id:=3)
  (o6:=(c218c)[6]?.getD default) (at6:=#[3,98]) (el:=fun k=>(xs[k]?.map Ty.v).getD undef) (Bk:=fun M=>M bx=some (cell (.slice s.p s.n s.c) 22)/\qAc M s 2 (xs.map Ty.row))
  Tryz.func218 (by kernel_rfl) (by kernel_rfl) (by kernel_rfl) (by kernel_rfl) (by kernel_rfl) (by kernel_rfl) (by kernel_rfl) (by kernel_rfl) (by kernel_rfl) (by kernel_rfl) (by kernel_rfl) hps ?_ ?_ ?_ ?_ ?_ ?_ ?_ h0 hl
 ·rintro M ⟨h1,h2⟩
  refine s218a (a:=.func (.yield l) #[] #[]) (b:=some ⟨bx,0,none⟩) ?_
  unfold w218a
  exact⟨s,qBD h1,qKl h2,_,rfl,rfl,by rw[h2.n_eq];rfl⟩
 ·intro M j
  refine s218b (a:=.func (.yield l) #[] #[]) (b:=some ⟨bx,0,none⟩) ?_
  unfold w218b
  exact⟨_,rfl,rfl,rfl⟩
 ·rintro M k ⟨h1,h2⟩ hk
  refine s218c (a:=.func (.yield l) #[] #[]) (b:=some ⟨bx,0,none⟩) ?_
  unfold w218c
  obtain⟨x,hm,hx,hdr,hlt,hnn,hz,hrow⟩:=h2.get (i:=k) (by rw[h2.n_eq];omega)
  exact⟨s,qBD h1,hnn,hz,by rw[h2.n_eq];omega,x.name,x.fs,hrow,_,rfl,rfl,by rw[hx];rfl⟩
 ·intro M j b
  refine s218d (a:=.func (.yield l) #[] #[]) (b:=some ⟨bx,0,none⟩) ?_
  unfold w218d
  exact⟨_,rfl,rfl,rfl⟩
 ·rintro M j ⟨h1,h2⟩ hj hj2
  have hb1:=h2.cap
  have hb2:=h2.fit
  have hb3:=h2.n_eq
  refine s218e (a:=.func (.yield l) #[] #[]) (b:=some ⟨bx,0,none⟩) ?_
  unfold w218e
  exact⟨⟨by omega,by omega⟩,_,rfl,rfl,rfl⟩
 ·intro i V2 hj hl2
  obtain⟨h1,h2⟩:=hJ i V2 hj hl2
  have e:bx≠l:=fun e=>by simp_all
  exact⟨by rw[Mem.set_ne e];exact h1,h2.sub (Mem.sub_new hl2 _)⟩
 simp_all
theorem it219{V:Mem}{fn':FuncId}{tmps:Array Value}{ps:Array Tmp}{assign body:Code}{D:Nat}{l:Nat}{bx:Nat}{s:Sl}{xs:List Pr}{J:Nat->Mem->Prop}(hps:ps.size=2)
  (hJ:∀i V2,J i V2->V2 l=none->V2 bx=some (cell (.slice s.p s.n s.c) 24)/\qAc V2 s 5 (xs.map Pr.row))
  (hround:∀k x,xs[k]?=some x->∀V2,J (xs.length-1-k) V2->V2 l=none->∀w,(V2.set l (.loop (qDy fn' tmps ps assign body D))).le w ->
   RoundIn (qAz none) 0 Tryz.prog l fn' ((ps.zip #[.int .i64 k,Pr.v x]).foldl (fun t (p,v)=>t.setIfInBounds p v) tmps) assign body w fun e w' =>
    e=.returned (.bool true)/\∃V3,J (xs.length-k) V3/\V3 l=none/\Frm (V2.set l (.loop (qDy fn' tmps ps assign body D))) w (V3.set l (.loop (qDy fn' tmps ps assign body D))) w')
  (h0:J 0 V) (hl:V l=none) :
  Tri Tryz.prog 219 #[.func (.yield l) #[] #[],pv bx] (V.set l (.loop (qDy fn' tmps ps assign body D))) fun e V'=>(∃v,e=.returned v)/\∃V2,V'=V2.set l (.loop (qDy fn' tmps ps assign body D))/\V2 l=none/\J xs.length V2:=by
 refine qIX (c:=qAn Tryz.f219) (L:=kid ((qCk (qAn Tryz.f219) [1,0]).getD 0 .skip) 0) (B:=kid ((qCk (qAn Tryz.f219) [1,0,0,0]).getD 2 .skip) 0) (cA:=c219a) (cB:=c219b) (cE:=c219e) (ops:=c219c) (b0:=0) (b1:=1) (id:=3)
  (o6:=(c219c)[6]?.getD default) (at6:=#[3,143]) (el:=fun k=>(xs[k]?.map Pr.v).getD undef) (Bk:=fun M=>M bx=some (cell (.slice s.p s.n s.c) 24)/\qAc M s 5 (xs.map Pr.row))
  Tryz.func219 (by kernel_rfl) (by kernel_rfl) (by kernel_rfl) (by kernel_rfl) (by kernel_rfl) (by kernel_rfl) (by kernel_rfl) (by kernel_rfl) (by kernel_rfl) (by kernel_rfl) (by kernel_rfl) hps ?_ ?_ ?_ ?_ ?_ ?_ ?_ h0 hl
 ·rintro M ⟨h1,h2⟩
  refine s219a (a:=.func (.yield l) #[] #[]) (b:=some ⟨bx,0,none⟩) ?_
  unfold w219a
  exact⟨s,qBD h1,qKl h2,_,rfl,rfl,by rw[h2.n_eq];rfl⟩
 ·intro M j
  refine s219b (a:=.func (.yield l) #[] #[]) (b:=some ⟨bx,0,none⟩) ?_
  unfold w219b
  exact⟨_,rfl,rfl,rfl⟩
 ·rintro M k ⟨h1,h2⟩ hk
  refine s219c (a:=.func (.yield l) #[] #[]) (b:=some ⟨bx,0,none⟩) ?_
  unfold w219c
  obtain⟨x,hm,hx,hdr,hlt,hnn,hz,hrow⟩:=h2.get (i:=k) (by rw[h2.n_eq];omega)
  exact⟨s,qBD h1,hnn,hz,by rw[h2.n_eq];omega,x.name,x.ps,x.result,x.ls,x.bs,hrow,_,rfl,rfl,by rw[hx];rfl⟩
 ·intro M j b
  refine s219d (a:=.func (.yield l) #[] #[]) (b:=some ⟨bx,0,none⟩) ?_
  unfold w219d
  exact⟨_,rfl,rfl,rfl⟩
 ·rintro M j ⟨h1,h2⟩ hj hj2
  have hb1:=h2.cap
  have hb2:=h2.fit
  have hb3:=h2.n_eq
  refine s219e (a:=.func (.yield l) #[] #[]) (b:=some ⟨bx,0,none⟩) ?_
  unfold w219e
  exact⟨⟨by omega,by omega⟩,_,rfl,rfl,rfl⟩
 ·intro i V2 hj hl2
  obtain⟨h1,h2⟩:=hJ i V2 hj hl2
  have e:bx≠l:=fun e=>by simp_all
  exact⟨by rw[Mem.set_ne e];exact h1,h2.sub (Mem.sub_new hl2 _)⟩
 simp_all
theorem c296{V:Mem}{s:Sl}:Tri Tryz.prog 296 #[.slice s.p s.n s.c] V fun e V'=>∃b,V b=none/\e=.returned (.func (.func 311) #[] #[pv b])/\V'=V.set b (cell (.slice s.p s.n s.c) 23):=by
 refine x296 ?_
 unfold w296
 exact fun b hb=>⟨b,hb,rfl,rfl⟩
theorem c189{V:Mem}{s:Sl}:Tri Tryz.prog 189 #[.slice s.p s.n s.c] V fun e V'=>∃b,V b=none/\e=.returned (.func (.func 218) #[] #[pv b])/\V'=V.set b (cell (.slice s.p s.n s.c) 22):=by
 refine x189 ?_
 unfold w189
 exact fun b hb=>⟨b,hb,rfl,rfl⟩
theorem c190{V:Mem}{s:Sl}:Tri Tryz.prog 190 #[.slice s.p s.n s.c] V fun e V'=>∃b,V b=none/\e=.returned (.func (.func 219) #[] #[pv b])/\V'=V.set b (cell (.slice s.p s.n s.c) 24):=by
 refine x190 ?_
 unfold w190
 exact fun b hb=>⟨b,hb,rfl,rfl⟩
theorem qHN{args:List Value}{N:Nat}(h:args.length<=N):Has N { tmps:=args.toArray++Array.replicate (N-args.toArray.size) undef,defers:=[] } ((List.range args.length).zip args):=by
 refine⟨by simp;omega,fun s v hs=>?_⟩
 rw[List.range_eq_range']at hs
 have key:∀(l:List Value) (k:Nat),((List.range' k l.length).zip l).lookup s=some v->k<=s/\l[s-k]?=some v:=by
  intro l
  induction l with
  | nil=>simp_all
  | cons x xs ih =>
   intro k h
   simp only[List.length_cons,List.range'_succ,List.zip_cons_cons,List.lookup_cons]at h
   grind
 obtain⟨-,h1⟩:=key args 0 hs
 have hlt:=(List.getElem?_eq_some_iff.1 h1).1
 simp_all [Nat.sub_zero,Array.getD_eq_getD_getElem?,Array.getElem?_append_left]
theorem qJY{tmps:Array Value}{p q:Nat}{u v:Value}:((#[p,q].zip #[u,v]).foldl (fun t (p,v)=>t.setIfInBounds p v) tmps)=(tmps.setIfInBounds p u).setIfInBounds q v:=by
 simp
theorem qHO{tmps:Array Value}{p s:Nat}{u:Value}(h:s≠p):(tmps.setIfInBounds p u).getD s undef=tmps.getD s undef:=by
 simp[Array.getD_eq_getD_getElem?,Array.getElem?_setIfInBounds_ne (Ne.symm h)]
theorem getD_same{tmps:Array Value}{p:Nat}{u:Value}(h:p<tmps.size):(tmps.setIfInBounds p u).getD p undef=u:=by
 simp_all
theorem qGy(f:Fld)(l:List Fld)(k:ByteArray):qBN (f::l) k=if k=f.name then some f.ty else qBN l k:=by
 grind [qBN]
theorem varOf_app(a b:List Fld)(k:ByteArray):qBN (a++b) k=(qBN a k).or (qBN b k):=by
 grind [qBN]
theorem varOf_any(a:List Fld)(k:ByteArray):(qBN a k).isSome=a.any fun f=>decide (f.name=k):=by
 grind [qBN]
theorem seen_old{a g:List Fld}{f:Fld}(h:(a.any fun x=>decide (x.name=f.name))=true)(k:ByteArray):qBN (a++[f]++g) k=qBN (a++g) k:=by
 simp only[varOf_app,qGy]
 rw[<- varOf_any]at h
 by_cases e:k=f.name
 ·subst e
  rw[if_pos rfl]
  cases hv:qBN a f.name with
  | none=>simp_all
  | some x=>rfl
 grind [qBN]
theorem seen_new{a g:List Fld}{f:Fld}(h:¬(a.any fun x=>decide (x.name=f.name))=true)(k:ByteArray):qBN (a++[f]++g) k=if k=f.name then some f.ty else qBN (a++g) k:=by
 simp only[varOf_app,qGy]
 rw[<- varOf_any]at h
 by_cases e:k=f.name
 ·simp_all
 grind [qBN]
structure SI (V:Mem) (c:Option Addr) (body:Bool) (d:Ds) (mb bx b6 b7:Nat) (m:ByteArray->Option Value) (V1:Mem):Prop where
 sub:V.sub V1
 nm:V mb=none
 n6:V b6=none
 map:qBk V1 mb m
 bx:V1 bx=some (cell (.slice d.gs.p d.gs.n d.gs.c) 23)
 b6:V1 b6=some (.cells #[.pointer none,.map none,.bool false] 314 (0,0))
 b7:V1 b7=some (.cells #[.pointer c,.map (some mb),.bool body] 314 (0,0))
section
variable{V V1:Mem}{c:Option Addr}{body:Bool}{d:Ds}{mb bx b6 b7:Nat}{m m':ByteArray->Option Value}
theorem SI.fresh(h:SI V c body d mb bx b6 b7 m V1){b:Nat}(hb:V1 b=none)(o:Obj):SI V c body d mb bx b6 b7 m (V1.set b o) :=
 have hs:=Mem.sub_new hb o
 ⟨h.sub.trans hs,h.nm,h.n6,h.map.sub hs,hs _ _ h.bx,hs _ _ h.b6,hs _ _ h.b7⟩
theorem SI.up(h:SI V c body d mb bx b6 b7 m V1){o:Obj}(ho:qBk (V1.set mb o) mb m'):SI V c body d mb bx b6 b7 m' (V1.set mb o):=by
 obtain⟨es,cl,hm,-,-⟩:=h.map.at_
 have e1:bx≠mb:=fun e=>by have:=h.bx;simp_all
 have e2:b6≠mb:=fun e=>by have:=h.b6;simp_all
 have e3:b7≠mb:=fun e=>by have:=h.b7;simp_all
 exact⟨h.sub.set h.nm o,h.nm,h.n6,ho,by rw[Mem.set_ne e1];exact h.bx,by rw[Mem.set_ne e2];exact h.b6,by rw[Mem.set_ne e3];exact h.b7⟩
theorem SI.cg(h:SI V c body d mb bx b6 b7 m V1)(e:∀k,m k=m' k):SI V c body d mb bx b6 b7 m' V1:=⟨h.sub,h.nm,h.n6,h.map.congr e,h.bx,h.b6,h.b7⟩
end
section
variable{V V1:Mem}{c:Option Addr}{body:Bool}{d:Ds}{mb bx b6 b7:Nat}{m m':ByteArray->Option Value}
theorem scopeRound{l:Sl}(h:SI V c body d mb bx b6 b7 m V1)(x:Fld)(V2:Mem)(b:Nat)(hb:V1 b=none)(e2:V2=V1.set b (.cells x.row.toArray 101 (0,0))) :
  Seg Tryz.prog 63 c267c [(7,pv b7),(9,pv b)] [] V2 fun _ V3=>SI V c body d mb bx b6 b7 (fun k=>if k=x.name then some (.string x.ty) else m k) V3:=by
 subst e2
 have h2:=h.fresh hb (.cells x.row.toArray 101 (0,0))
 refine s267c ?_
 unfold w267c
 refine⟨by simp,some mb,qAd h2.b7 1 1 (by simp),by simp,x.name,qAd mss 0 1 (by simp[Fld.row]),by simp,x.ty,qAd mss 1 1 (by simp[Fld.row]),?_⟩
 exact qDu.str Tryz.underlying312 Tryz.underlying9 h2.map fun o ho=>⟨_,rfl,h2.up ho⟩
theorem scopeAssign(x:Fld):Seg Tryz.prog 63 c267b [(7,pv b7),(26,Fld.v x)] [7,9] V1 fun vs V2=>∃b,V1 b=none/\V2=V1.set b (.cells x.row.toArray 101 (0,0))/\vs=[pv b7,pv b]:=by
 refine s267b (b:=x.name) (c:=x.ty) ?_
 unfold w267b
 exact fun b hb=>⟨_,rfl,b,hb,rfl,rfl⟩
theorem zero4(w:World):(zeroValue 4).run Tryz.prog w=.ok (.bool false) w:=by kernel_rfl
theorem scopeTail{l:Sl}{ls:List (Sl×List Fld)}(h:SI V c body d mb bx b6 b7 (fun k=>(qBN d.globals k).map Value.string) V1)(hl:qAc V l 1 (ls.map fun x=>[x.1.v]))(hls:∀x∈ls,qAc V x.1 2 (x.2.map Fld.row)) :
  Seg Tryz.prog 63 c267d [(0,.pointer c),(1,.bool body),(2,.slice l.p l.n l.c),(6,pv b6),(7,pv b7)] [6] V1 fun vs V2=>vs=[pv b6] /\
   V.sub V2/\V mb=none/\qBk V2 mb (fun k=>(qBN (ls.flatMap (·.2)++d.globals) k).map Value.string)/\V2 b6=some (.cells #[.pointer c,.map (some mb),.bool body] 314 (0,0)):=by
 refine s267d ?_
 unfold w267d
 refine GenK.makeMap fun sb hsb=>⟨some sb,rfl,?_⟩
 have hsV:V sb=none:=by
  cases hc:V sb with
  | none=>rfl
  | some o=>have:=h.sub _ _ hc;simp_all
 have hne:mb≠sb:=fun e=>by
  obtain⟨es,cl,hm,-,-⟩:=h.map.at_
  simp_all
 let TI (done:List Fld) (V2:Mem):Prop:=SI V c body d mb bx b6 b7 (fun k=>(qBN (done++d.globals) k).map Value.string) V2/\qBk V2 sb (fun k=>if (done.any fun f=>decide (f.name=k))=true then some (.bool true) else none)
 have h0:TI [] (V1.set sb (.map #[] 0)):=⟨h.fresh hsb _,(qBk.made V1 sb).congr fun k=>by simp⟩
 refine qJg ls.length (fun i V2=>TI ((ls.take i).flatMap (·.2)) V2) (by simpa using h0) ?_
 intro i V2 J hi hst hJ
 have hlV:=hl.sub hst.1.sub
 refine⟨fun hlt=>?_,fun hlt=>?_⟩
 ·obtain⟨x,hm,hx,hdr,hlt',hnn,hz,hrow⟩:=hlV.get hlt
  refine⟨hnn,hz,hlt,x.1,hrow,?_⟩
  have htk:(ls.take (i+1)).flatMap (·.2)=(ls.take i).flatMap (·.2)++x.2:=by
   grind
  refine qJg x.2.length (fun j V3=>TI ((ls.take i).flatMap (·.2)++x.2.take j) V3) (by simpa using hst) ?_
  intro j V3 J' hj hst' hJ'
  have hxV:=(hls x hm).sub hst'.1.sub
  refine⟨fun hlt2=>?_,fun hlt2=>?_⟩
  ·obtain⟨f,hmf,hf,hdrf,hltf,hnnf,hzf,hrowf⟩:=hxV.get hlt2
   have htj:(ls.take i).flatMap (·.2)++x.2.take (j+1)=((ls.take i).flatMap (·.2)++x.2.take j)++[f]:=by
    grind
   refine⟨hnnf,hzf,hlt2,f.name,f.ty,hrowf,?_⟩
   refine qBv.str1 Tryz.underlying357 Tryz.underlying9 zero4 hst'.2 ?_
   generalize hdone:(ls.take i).flatMap (·.2)++x.2.take j=done at hst' htj
   refine⟨done.any fun y=>decide (y.name=f.name),?_,fun hs=>?_,fun hs=>?_⟩
   ·grind
   ·refine⟨hxV.succ hlt2,hJ' hltf _ ?_⟩
    rw[htj]
    refine⟨hst'.1.cg fun k=>by rw[seen_old hs],hst'.2.congr fun k=>?_⟩
    grind
   ·refine⟨by simp,some mb,qAd hst'.1.b7 1 1 (by simp),?_⟩
    refine qDu.str Tryz.underlying312 Tryz.underlying9 hst'.1.map fun o ho=>?_
    have hsi:=hst'.1.up ho
    refine qDu.str Tryz.underlying357 Tryz.underlying9 (hst'.2.set (o:=o) (Ne.symm hne)) fun o2 ho2=>?_
    refine⟨hxV.succ hlt2,hJ' hltf _ ?_⟩
    rw[htj]
    have hsb6:b6≠sb:=fun e=>by have:=h.b6;simp_all
    have hsb7:b7≠sb:=fun e=>by have:=h.b7;simp_all
    have hsbx:bx≠sb:=fun e=>by have:=h.bx;simp_all
    refine⟨?_,ho2.congr fun k=>?_⟩
    ·have h3:=hsi.cg (m':=fun k=>(qBN (done++[f]++d.globals) k).map Value.string) fun k=>by
      rw[seen_new hs]
      grind
     exact⟨h3.sub.set hsV _,h3.nm,h3.n6,h3.map.set hne,by rw[Mem.set_ne hsbx];exact h3.bx,by rw[Mem.set_ne hsb6];exact h3.b6,by rw[Mem.set_ne hsb7];exact h3.b7⟩
    grind
  ·obtain⟨hd,hle⟩:=hxV.done hlt2
   refine⟨hlV.succ hlt,hJ hlt' _ ?_⟩
   simp_all [List.take_of_length_le]
 ·obtain⟨hd,hle⟩:=hlV.done hlt
  rw[List.take_of_length_le hle]at hst
  have hcells:=qAd hst.1.b7 0 3 (by simp)
  refine⟨c,some mb,body,hcells,⟨⟨b6,0,none⟩,_,_,rfl,hst.1.b6,rfl,by simp,?_⟩⟩
  have e7:mb≠b6:=fun e=>by
   obtain⟨es,cl,hm,-,-⟩:=hst.1.map.at_
   have:=hst.1.b6;simp_all
  exact⟨_,rfl,rfl,hst.1.sub.set h.n6 _,h.nm,hst.1.map.set e7,by rw[Mem.set_same];rfl⟩
end
theorem cell3{b:Nat}{c:Option Addr}{mb:Option Nat}{body:Bool}{w:World}(h:w.heap[b]?=some (.cells #[.pointer c,.map mb,.bool body] 314 (0,0))):(loadVar 314 ⟨b,0,none⟩).run Tryz.prog w=.ok (.agg #[.pointer c,.map mb,.bool body]) w :=
 qBP (P:=Tryz.prog) (t:=314) (cs:=.cons (.var .p 0) (.cons (.var .m 1) (.cons (.var .b 2) .nil))) (x:=.agg (.cons (.var .p 0) (.cons (.var .m 1) (.cons (.var .b 2) .nil)))) (ρ:=[.pointer c,.map mb,.bool body]) (β:=id) (o:=0) h (by kernel_rfl)
theorem results113{tmps:Array Value}{b:Nat}{c:Option Addr}{mb:Option Nat}{body:Bool}{w:World}(h6:tmps.getD 6 undef=pv b)(h:w.heap[b]?=some (.cells #[.pointer c,.map mb,.bool body] 314 (0,0))) :
  (results Tryz.f267 tmps).run Tryz.prog w=.ok (.agg #[.pointer c,.map mb,.bool body]) w:=by
 have hr:Tryz.f267.results=#[.cell 6 314]:=by kernel_rfl
 unfold results
 rw[hr]
 have e:asAddr (tmps.getD 6 undef)=pure ⟨b,0,none⟩:=by rw[h6];rfl
 simp only[List.mapM_toArray,List.mapM_cons,List.mapM_nil,Sem.run_bind,Sem.run_map,Sem.run_pure,Result.andThen_ok,e,cell3 h]
 rfl
theorem qFx{V V1 V2 V3:Mem}{w w1 w2 w3:World}{D:Nat}(h1:Frm V w V1 w1)(h2:Frm V1 w1 V2 w2)(hD:w1.heap.size<=D)(hn:V2 D=none)(hW:w2.heap[D]?=some (.deferred (some [])))(h3:Frm V2 w2 V3 w3) :
  Frm V w V3 w3/\w.heap.size<=D/\w3.heap[D]?=some (.deferred (some []))/\V3 D=none:=by
 have hlt:=(Array.getElem?_eq_some_iff.1 hW).1
 refine⟨(h1.trans h2).trans h3,Nat.le_trans h1.size hD,(h3.old D hlt hn).trans hW,?_⟩
 cases hc:V3 D with
 | none=>rfl
 | some o =>
  rcases h3.dom D (by rw[hc];simp) with h|h
  ·grind
  ·omega
theorem scopeC:qHw:=by
 intro V c d body l ls hc hl hls
 refine qHe (c:=qAn Tryz.f267) Tryz.func267 (by kernel_rfl) ?_
 intro w hV
 rw[show flat (qAn Tryz.f267)=c267a++([.block 0 (.rangeFunc (.tmp 24) #[25,26] ((qCk (qAn Tryz.f267) [3,0,0,0]).getD 0 .skip) ((qCk (qAn Tryz.f267) [3,0,0,1]).getD 0 .skip))]++(c267d++[.ret])) from by kernel_rfl]
 have hA:Seg Tryz.prog 63 c267a [(0,.pointer c),(1,.bool body),(2,.slice l.p l.n l.c)] [0,1,2,6,7,24] V fun vs V1=>∃mb bx b6 b7,
   vs=[.pointer c,.bool body,.slice l.p l.n l.c,pv b6,pv b7,.func (.func 311) #[] #[pv bx]]/\SI V c body d mb bx b6 b7 (fun _=>none) V1:=by
  refine s267a ?_
  unfold w267a
  refine GenK.makeMap fun mb hmb=>⟨some mb,rfl,hc.nn,hc.nn,?_,d.gs,?_,?_⟩
  ·obtain⟨cb,mt,mp,t,h1,h2,h3,h4⟩:=hc.at_
   rw[h1];simp[qAa]
  ·exact(hc.sub (Mem.sub_new hmb _)).cell (i:=2) rfl
  refine Tri.mono c296 ?_
  rintro _ V2 ⟨bx,hbx,rfl,rfl⟩
  refine⟨.func (.func 311) #[] #[pv bx],rfl,rfl,fun b6 hb6 b7 hb7=>⟨_,rfl,mb,bx,b6,b7,rfl,?_⟩⟩
  have n1:bx≠mb:=fun e=>by grind [Mem.set_same]
  have n2:b6≠bx:=fun e=>by grind [Mem.set_same]
  have n3:b7≠b6:=fun e=>by grind [Mem.set_same]
  have s1:=Mem.sub_new hmb (.map #[] 0)
  have s2:=Mem.sub_new hbx (cell (.slice d.gs.p d.gs.n d.gs.c) 23)
  have s3:=Mem.sub_new hb6 (.cells #[.pointer none,.map none,.bool false] 314 (0,0))
  have s4:=Mem.sub_new hb7 (.cells #[.pointer c,.map (some mb),.bool body] 314 (0,0))
  refine⟨s1.trans (s2.trans (s3.trans s4)),hmb,?_,(qBk.made V mb).sub (s2.trans (s3.trans s4)),(s3.trans s4) _ _ mss,s4 _ _ mss,Mem.set_same _ _ _⟩
  cases hv:V b6 with
  | none=>rfl
  | some o=>have:=(s1.trans s2) _ _ hv;simp_all
 refine hA.step hV (qHN (args:=[.pointer c,.bool body,.slice l.p l.n l.c]) (N:=63) (by simp)) ?_
 rintro a1 w1 vs V1 hd1 hH1 ⟨mb,bx,b6,b7,rfl,hS1⟩ hF1
 show Code.wpIn (qAz none) 0 Tryz.prog _ _ a1 w1
 refine wpIn_block ?_
 have hit:=fun fn lp D hlp=>it311 (V:=V1) (fn':=fn) (tmps:=a1.tmps) (ps:=#[25,26]) (assign:=(qCk (qAn Tryz.f267) [3,0,0,0]).getD 0 .skip) (body:=(qCk (qAn Tryz.f267) [3,0,0,1]).getD 0 .skip) (D:=D) (l:=lp) (bx:=bx) (s:=d.gs) (xs:=d.globals)
  (J:=fun i V2=>SI V c body d mb bx b6 b7 (fun k=>(qBN (d.globals.drop (d.globals.length-i)) k).map Value.string) V2) rfl (fun i V2 hj _=>⟨hj.bx,hc.ok.globals.sub hj.sub⟩) (fun k x hx V2 hj hl2 w2 hw2=>by
   have hk:=(List.getElem?_eq_some_iff.1 hx).1
   refine qGF (N:=63) (insA:=[(7,pv b7),(26,Fld.v x)]) (outsA:=[7,9]) hl2 hw2 (by rw[qJY];simpa using hH1.1) ?_ (scopeAssign x) (fun vs V3 hvs=>?_)
   ·intro s v hs
    rw[qJY]
    simp only[List.lookup_cons]at hs
    split at hs
    ·rename_i e;simp only[beq_iff_eq]at e;subst e;cases hs
     rw[qHO (by decide),qHO (by decide)];exact hH1.get rfl
    ·split at hs
     ·rename_i e;simp only[beq_iff_eq]at e;subst e;cases hs
      exact getD_same (by simp[hH1.1])
     ·cases hs
   ·obtain⟨b,hb,e2,rfl⟩:=hvs
    refine(scopeRound (l:=l) hj x V3 b hb e2).mono fun _ V4 h4=>h4.cg fun y=>?_
    rw[show d.globals.length-(d.globals.length-1-k)=k+1 by omega,show d.globals.length-(d.globals.length-k)=k by omega]
    have e3:d.globals.drop k=x::d.globals.drop (k+1):=by
     grind [List.drop_eq_getElem_cons,List.getElem?_eq_some_iff]
    rw[e3,qGy]
    grind)
  (by simpa [qBN]using hS1) hlp
 refine qGJ (Φ:=fun V2=>SI V c body d mb bx b6 b7 (fun k=>(qBN d.globals k).map Value.string) V2) hF1.le (hH1.get (s:=24) rfl) Tryz.call311 (fun fn lp D hlp=>Tri.mono (hit fn lp D hlp) fun e V' h=>?_) ?_
 ·simp_all
 ·intro D V2 W hD hF2 hn2 hW hS2
  show wpL none 0 Tryz.prog _ (c267d++[.ret]) _ W
  refine(scopeTail hS2 hl hls).step hF2.le ⟨hH1.1,fun s v hs=>hH1.2 s v ?_⟩ ?_
  ·simp only[List.zip_cons_cons,List.lookup_cons]at hs ⊢
   repeat' (split at hs <;> first|exact hs|skip)
   simp_all
  ·rintro a3 w3 vs V3 hd3 hH3 ⟨rfl,h1,h2,h3,h4⟩ hF3
   show Code.wpIn (qAz none) 0 Tryz.prog .ret _ a3 w3
   refine wpIn_ret ?_
   obtain⟨g1,g2,g3,g4⟩:=qFx hF1 hF2 hD hn2 hW hF3
   refine⟨.inr rfl,[D],?_,by simp,V3,g1,fun D' hD'=>?_,_,fun w4 hw4=>results113 (hH3.get rfl) (hw4 _ _ h4),mb,rfl,h1,h2,h3⟩
   ·simp_all
   simp_all
end Go.Proofs
