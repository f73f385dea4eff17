/- Part 3 of a proof of a law of this seat: no statement of the seat is proved here. -/
import Derived.Test.YtmeagdecjpknkaaGreatDoorPp02
import Derived.Orders
set_option linter.unusedVariables false
set_option linter.unusedSimpArgs false
namespace Go.Sx
open Go
section
variable{P:Program}{R:Ending->Mem->Prop}{O V0:Mem}{w0:World}{N:Nat}{β:Nat->Nat}{ρ:List Value}{V:Mem}{w:World}{tmps:Array Value}
theorem qJT{ρ:List Value}{β:Nat->Nat}{t:T}{ks:List K}(h:qCh t=some ks):Shaped ks (t.toList.map (·.ev ρ β)):=by
 rw[<- qAH];exact qHq t ks h
theorem qCx:∀(ws:List Nat) (st1:St) (ρ1:List Value),ρ1.length=st1.nv->∀(st':St) (ρ2:List Value) (β:Nat->Nat) (ts:List T),qDR st' (qAE ws st1).2=some ts ->
  (∀s t,st'.get s=some t->tmps.getD s undef=t.ev ρ2 β) ->
  Shaped ((qAE ws st1).2.flatMap (·.2.2)) (ts.map (·.ev ρ2 β))/\(qAE ws st1).1.nv=st1.nv+ts.length /\
  (qAE ws st1).1.boxes=st1.boxes/\(qAE ws st1).1.nb=st1.nb/\(qAE ws st1).1.depth=st1.depth /\
  ∀s t,(qAE ws st1).1.get s=some t->(s ∉ ws/\st1.get s=some t)∨(s∈ws/\tmps.getD s undef=t.ev (ρ1++ts.map (·.ev ρ2 β)) β)
 | [],st1,ρ1,h1,st',ρ2,β,ts,hb,hs=>by
  simp only[qAE,qDR,Option.some.injEq]at hb
  subst hb
  exact⟨trivial,by simp[qAE],rfl,rfl,rfl,fun s t hg=>.inl ⟨by simp,hg⟩⟩
 | s0::ws,st1,ρ1,h1,st',ρ2,β,ts,hb,hs=>by
  cases hm:((st1.get s0).bind fun t=>(genKinds t).map fun ks=>(qGu t,ks)) with
  | some p =>
   obtain⟨b,ks⟩:=p
   simp only[qAE,hm]at hb ⊢
   simp only[qDR]at hb
   split at hb
   ·rename_i t' ts' hg' hb'
    split at hb
    ·rename_i hc
     obtain⟨hc1,hc2⟩:=hc
     simp only[Option.some.injEq]at hb;subst hb
     have hsh:Shaped ks (t'.cellsT.toList.map (·.ev ρ2 β)):=qJT hc2
     have hlen:(t'.cellsT.toList.map (·.ev ρ2 β)).length=ks.length:=hsh.length
     obtain⟨g1,g2,g3,g4,g5,g6⟩:=qCx ws ({ st1 with nv:=st1.nv+ks.length }.put s0 (genTerm b ks st1.nv)) (ρ1++t'.cellsT.toList.map (·.ev ρ2 β)) (by simp only[List.length_append,hlen,h1];rfl) st' ρ2 β ts' hb' hs
     refine⟨?_,?_,g3,g4,g5,fun s t hg=>?_⟩
     ·rw[List.map_append];exact qCK hsh g1
     ·grind [St.put]
     ·rcases g6 s t hg with⟨e1,e2⟩|⟨e1,e2⟩
      ·rw[qLn]at e2
       split at e2
       ·rename_i e;subst e
        right
        refine⟨List.mem_cons_self,?_⟩
        split at e2
        ·simp at e2
        ·simp only[Option.some.injEq]at e2;subst e2
         rw[hs s t' hg']
         have hv:=qGM (β:=β) ks (t'.cellsT.toList.map (·.ev ρ2 β)) ρ1 (ts'.map (·.ev ρ2 β)) hsh
         rw[h1]at hv
         rw[List.map_append,<- List.append_assoc]
         unfold genTerm
         cases b with
         | true =>
          simp only[if_true,T.ev,qAy,hv]
          cases t' <;> simp[qGu]at hc1
          simp[T.ev,T.cellsT,qAH]
         | false =>
          simp only[Bool.false_eq_true,if_false]
          have hcell:t'.cellsT=.cons t' .nil:=by cases t' <;> simp_all [qGu,T.cellsT]
          rw[hcell]at hv hsh
          simp only[T.toList,List.map_cons,List.map_nil]at hv hsh
          match ks,hsh,hv with
          | [k],hsh,hv =>
           grind [vars,T.toList]
       ·rename_i e
        exact .inl ⟨by simp[e,e1],e2⟩
      simp_all
    ·simp at hb
   ·simp at hb
  | none =>
   simp only[qAE,hm]at hb ⊢
   cases hgs:st1.get s0 with
   | none =>
    simp only[hgs]at hb ⊢
    obtain⟨g1,g2,g3,g4,g5,g6⟩:=qCx ws st1 ρ1 h1 st' ρ2 β ts hb hs
    grind
   | some t0 =>
   simp only[hgs]at hb ⊢
   obtain⟨g1,g2,g3,g4,g5,g6⟩:=qCx ws (st1.put s0 .nil) ρ1 h1 st' ρ2 β ts hb hs
   refine⟨g1,g2,g3,g4,g5,fun s t hg=>?_⟩
   grind [qLn,inr,List.mem_cons_of_mem]
theorem qKr(st:St)(i j:Nat)(cs:T)(ty:Nat):(st.setBox i cs ty).box j=if j=i then some (cs,ty) else st.box j:=by
 grind [St.box,St.setBox]
theorem qFu:∀(hint:List Nat) (st:St) (ρ1:List Value),ρ1.length=st.nv->∀(st1:St) (bs:List (Nat×Nat×List K)),qFf hint st=some (st1,bs)->∀(st':St) (ρ2:List Value) (β:Nat->Nat) (ts:List T),qDS st' bs=some ts ->
  Shaped (bs.flatMap (·.2.2)) (ts.map (·.ev ρ2 β))/\st1.nv=st.nv+ts.length/\st1.slots=st.slots/\st1.nb=st.nb/\st1.depth=st.depth /\
  (∀i,i∈bs.map (·.1)->(st.box i).isSome=true) /\
  ∀i cs ty,st1.box i=some (cs,ty)->(i ∉ bs.map (·.1)/\st.box i=some (cs,ty))∨(i∈bs.map (·.1)/\∃cs',st'.box i=some (cs',ty)/\∀σ,cs.evs (ρ1++ts.map (·.ev ρ2 β)++σ) β=cs'.evs ρ2 β)
 | [],st,ρ1,h1,st1,bs,hg,st',ρ2,β,ts,hb=>by
  simp only[qFf,Option.some.injEq,Prod.mk.injEq]at hg
  obtain⟨rfl,rfl⟩:=hg
  simp only[qDS,Option.some.injEq]at hb;subst hb
  exact⟨trivial,by simp,rfl,rfl,rfl,by simp,fun i cs ty h=>.inl ⟨by simp,h⟩⟩
 | s::hint,st,ρ1,h1,st1,bs,hg,st',ρ2,β,ts,hb=>by
  simp only[qFf]at hg
  split at hg
  ·rename_i i off hs
   split at hg
   ·rename_i cs ty hbx
    split at hg
    ·rename_i ks hks
     simp only[Option.map_eq_some_iff,Prod.mk.injEq]at hg
     obtain⟨⟨r1,r2⟩,hr,rfl,rfl⟩:=hg
     simp only[qDS]at hb
     split at hb
     ·rename_i cs' ty' ts' hb1 hb2
      split at hb
      ·rename_i hc
       obtain⟨rfl,hc2⟩:=hc
       simp only[Option.some.injEq]at hb;subst hb
       have hsh:Shaped ks (cs'.toList.map (·.ev ρ2 β)):=qJT hc2
       have hlen:(cs'.toList.map (·.ev ρ2 β)).length=ks.length:=hsh.length
       obtain⟨g1,g2,g3,g4,g5,g7,g6⟩:=qFu hint _ (ρ1++cs'.toList.map (·.ev ρ2 β)) (by simp only[List.length_append,hlen,h1];rfl) _ _ hr st' ρ2 β ts' hb2
       refine⟨?_,?_,g3,g4,g5,fun j hj=>?_,fun j cs0 ty0 hj=>?_⟩
       ·grind [qCK]
       ·grind [St.setBox]
       ·simp only[List.map_cons,List.mem_cons]at hj
        rcases hj with rfl|hj
        ·simp[hbx]
        ·have:=g7 j hj
         rw[qKr]at this
         by_cases e:j=i
         ·grind
         ·rw[if_neg e]at this;exact this
       ·rcases g6 j cs0 ty0 hj with⟨e1,e2⟩|⟨e1,cs2,e2,e3⟩
        ·rw[qKr]at e2
         split at e2
         ·rename_i e;subst e
          simp only[Option.some.injEq,Prod.mk.injEq]at e2
          obtain⟨rfl,rfl⟩:=e2
          grind [inr,qGM,qAy,qAH,List.append_assoc]
         ·rename_i e
          exact .inl ⟨by simp_all,e2⟩
        simp_all
      ·simp at hb
     ·simp at hb
    ·simp at hg
   ·simp at hg
  ·simp at hg
theorem qLz{st:St}{bs:List (Nat×Nat×List K)}{ss:List (Nat×Bool×List K)}{t:T}(h:qGC st bs ss=some t) :
  ∃l m,qDS st bs=some l/\qDR st ss=some m/\t=T.ofList (l++m)/\t.firstBox=none:=by
 unfold qGC at h
 grind
theorem qIb{ws hint:List Nat}{st st1 st':St}{bs:List (Nat×Nat×List K)}{vs:T}{ρ':List Value}(hw:st.wf=true)(hl:ρ.length=st.nv)(hp:ρ <+: ρ')
  (hg:qFf hint st=some (st1,bs)) (hb:qGC st' bs (qAE ws st1).2=some vs) (hok:backOk { (qAE ws st1).1 with depth:=st.depth+1 } st' bs ws=true)
  (hr:Rel O V0 w0 N β st' ρ' V tmps w) :
  Rel O V0 w0 N β { (qAE ws st1).1 with depth:=st.depth+1 } (ρ++vs.evs ρ' id) V tmps w/\Shaped (bs.flatMap (·.2.2)++(qAE ws st1).2.flatMap (·.2.2)) (vs.evs ρ' id):=by
 obtain⟨l,m,h1,h2,rfl,h3⟩:=qLz hb
 rw[(T.ev_free (β:=id) (β':=β) (ρ:=ρ') _ h3).2,qAy,List.map_append]
 obtain⟨a1,a2,a3,a4,a5,a6,a7⟩:=qFu hint st ρ hl st1 bs hg st' ρ' β l h1
 obtain⟨b1,b2,b3,b4,b5,b6⟩:=qCx (tmps:=tmps) ws st1 (ρ++l.map (·.ev ρ' β)) (by grind) st' ρ' β m h2 hr.slots
 simp only[backOk,Bool.and_eq_true,List.all_eq_true,Bool.or_eq_true,decide_eq_true_eq]at hok
 have hcg:∀t:T,t.wf st.nv st.nb=true->t.ev ρ' β=t.ev (ρ++(l.map (·.ev ρ' β)++m.map (·.ev ρ' β))) β/\t.evs ρ' β=t.evs (ρ++(l.map (·.ev ρ' β)++m.map (·.ev ρ' β))) β:=by
  refine T.ev_congr (fun i hi=>?_) (fun _ _=>rfl)
  obtain⟨σ,rfl⟩:=hp
  grind
 have hget1:∀s,st1.get s=st.get s:=fun s=>by unfold St.get;rw[a3]
 have hboxh:∀i,St.box { (qAE ws st1).1 with depth:=st.depth+1 } i=st1.box i:=fun i=>by grind [St.box]
 have hsome:∀i,(St.box { (qAE ws st1).1 with depth:=st.depth+1 } i).isSome=true->(st'.box i).isSome=true:=by
  intro i hi
  obtain⟨⟨cs,ty⟩,hx⟩:=Option.isSome_iff_exists.1 hi
  rcases hok.2 _ (qFF hx) with h|h
  ·grind
  grind
 refine⟨
 {nv:=?_
  size:=hr.size
  slots:=fun s t hs=>?_
  frm:=hr.frm
  boxes:=fun i cs ty hi=>?_
  hid:=fun b o hb=>⟨(hr.hid b o hb).1,(hr.hid b o hb).2.1,(hr.hid b o hb).2.2.1,fun i hi=>(hr.hid b o hb).2.2.2 i (hsome i hi)⟩
  inj:=fun i j hi hj=>hr.inj i j (hsome i hi) (hsome j hj) },qCK a1 b1⟩
 ·grind
 ·rcases b6 s t hs with⟨e1,e2⟩|⟨_,e2⟩
  ·have e3:st'.get s=some t:=by
    rcases hok.1 _ (lookup_mem (qCP hs)) with h|h
    ·simp_all
    grind
   rw[hget1]at e2
   rw[hr.slots s t e3]
   grind [wf_get]
  simp_all
 ·rw[hboxh]at hi
  rcases a7 i cs ty hi with⟨e1,e2⟩|⟨e1,cs',e2,e3⟩
  ·have e3:st'.box i=some (cs,ty):=by
    grind [St.box,qAE,absurd]
   obtain⟨c1,c2,c3,_⟩:=hr.boxes i cs ty e3
   rw[<- (hcg cs (qIn hw e2).2).2]
   exact⟨c1,c2,c3,by simp only[b4,a4];exact(qIn hw e2).1⟩
  ·obtain⟨c1,c2,c3,_⟩:=hr.boxes i cs' ty e2
   have e4:=e3 (m.map (·.ev ρ' β))
   rw[List.append_assoc]at e4
   rw[e4]
   obtain⟨x,hx⟩:=Option.isSome_iff_exists.1 (a6 i e1)
   exact⟨c1,c2,c3,by simp only[b4,a4];exact(qIn hw hx).1⟩
end
def qGp(acc:List Nat)(o:Oper):Nat:=o.after.toList.foldl (fun s e=>if Region.binds .any e then s ||| (1 <<< e.on) ||| acc.getD e.on 0 else s) 0
theorem qKh:∀(os:List Oper) (acc:List Nat),(∃tl,qAO os acc=acc++tl/\tl.length=os.length) /\
  ∀k o,os[k]?=some o->(qAO os acc).getD (acc.length+k) 0=qGp ((qAO os acc).take (acc.length+k)) o
 | [],acc=>⟨⟨[],by simp[qAO]⟩,fun k o h=>by simp at h⟩
 | o::os,acc=>by
  have e:qAO (o::os) acc=qAO os (acc++[qGp acc o]):=rfl
  obtain⟨⟨tl,h1,h2⟩,h3⟩:=qKh os (acc++[qGp acc o])
  rw[e]
  refine⟨⟨qGp acc o::tl,by rw[h1];simp,by simp[h2]⟩,fun k o' h=>?_⟩
  cases k with
  | zero =>
   simp_all
  | succ k =>
   have:=h3 k o' (by simpa using h)
   simp only[List.length_append,List.length_singleton]at this
   grind
theorem fold_bits(acc:List Nat):∀(es:List Edge) (s j:Nat),(es.foldl (fun s e=>if Region.binds .any e then s ||| (1 <<< e.on) ||| acc.getD e.on 0 else s) s).testBit j=true ->
  s.testBit j=true∨∃e∈es,Region.binds .any e=true/\(j=e.on∨(acc.getD e.on 0).testBit j=true)
 | [],s,j,h=>.inl h
 | e::es,s,j,h=>by
  simp only[List.foldl_cons]at h
  rcases fold_bits acc es _ j h with h1|⟨e',h2,h3⟩
  ·by_cases hb:Region.binds .any e=true
   ·rw[if_pos hb]at h1
    simp only[Nat.testBit_or,Bool.or_eq_true]at h1
    rcases h1 with (h1|h1) | h1
    ·exact .inl h1
    ·right
     refine⟨e,List.mem_cons_self,hb,.inl ?_⟩
     rw[Nat.testBit_shiftLeft]at h1
     simp only[Bool.and_eq_true,decide_eq_true_eq]at h1
     have h4:=h1.2
     rcases Nat.eq_or_lt_of_le h1.1 with h5|h5
     ·exact h5.symm
     ·have:(1:Nat).testBit (j-e.on)=false:=by
       obtain⟨m,hm⟩:∃m,j-e.on=m+1:=⟨j-e.on-1,by omega⟩
       rw[hm,Nat.testBit_succ];simp
      rw[this]at h4;cases h4
    ·exact .inr ⟨e,List.mem_cons_self,hb,.inr h1⟩
   ·rw[if_neg hb]at h1;exact .inl h1
  ·exact .inr ⟨e',List.mem_cons_of_mem _ h2,h3⟩
def qJx(all:Array Oper)(listed:Array Bool):Prop:=∀j oj,all[j]?=some oj->listed.getD j false=true->∀e∈oj.after,Region.binds .any e=true->listed.getD e.on false=true
def qLD(all:Array Oper):Prop:=∀i o,all[i]?=some o->∀e∈o.after,Region.binds .any e=true->e.on<i
theorem mask_listed{all:Array Oper}(he:qLD all){listed:Array Bool}(hc:qJx all listed):∀(i:Nat) (o:Oper),all[i]?=some o ->
  (∀e∈o.after,Region.binds .any e=true->listed.getD e.on false=true)->∀j,(qBF (qAO all.toList []) i).testBit j=true->listed.getD j false=true:=by
 intro i
 induction i using Nat.strongRecOn with
 | _ i ih =>
  intro o ho hd j hj
  have h1:=(qKh all.toList []).2 i o (by simpa using ho)
  simp only[List.length_nil,Nat.zero_add]at h1
  unfold qBF at hj
  rw[h1]at hj
  unfold qGp at hj
  rcases fold_bits _ _ _ _ hj with h2|⟨e,h2,h3,h4⟩
  ·simp at h2
  ·have h2':e∈o.after:=by simpa using h2
   have hlt:=he i o ho e h2' h3
   have hl:=hd e h2' h3
   rcases h4 with rfl|h4
   ·exact hl
   ·have hget:((qAO all.toList []).take i).getD e.on 0=(qAO all.toList []).getD e.on 0:=by
     simp[List.getD,hlt]
    rw[hget]at h4
    have hi:i<all.size:=(Array.getElem?_eq_some_iff.1 ho).1
    have ho':all[e.on]?=some (all[e.on]'(by omega)):=Array.getElem?_eq_getElem _
    exact ih e.on hlt _ ho' (hc e.on _ ho' hl) j h4
theorem qDZ:∀{l:List Nat},qKe l=true->l.Nodup
 | [],_=>List.nodup_nil
 | x::xs,h=>by
  simp only[qKe,Bool.and_eq_true,Bool.not_eq_true']at h
  exact List.nodup_cons.2 ⟨by simpa using h.1,qDZ h.2⟩
structure Ext (w w':World):Prop where
 heap:∀(b:Nat) (o:Obj),w.heap[b]?=some o->w'.heap[b]?=some o
 size:w.heap.size<=w'.heap.size
 os:w'.os=w.os
 out:w'.output=w.output
theorem Ext.refl(w:World):Ext w w:=⟨fun _ _ h=>h,Nat.le_refl _,rfl,rfl⟩
theorem Ext.trans{a b c:World}(h:Ext a b)(k:Ext b c):Ext a c:=⟨fun i o hi=>k.heap i o (h.heap i o hi),Nat.le_trans h.size k.size,k.os.trans h.os,k.out.trans h.out⟩
theorem Ext.alloc(w:World)(o:Obj):Ext w (w.alloc o) :=
 ⟨fun b o' h=>(qES w o (Array.getElem?_eq_some_iff.1 h).1).trans h,by simp_all,rfl,rfl⟩
section
variable{P:Program}{O V0:Mem}{w0:World}{N:Nat}{β:Nat->Nat}{st:St}{ρ:List Value}{V:Mem}{w:World}{tmps:Array Value}
theorem Rel.ext(h:Rel O V0 w0 N β st ρ V tmps w){w':World}(e:Ext w w'):Rel O V0 w0 N β st ρ V tmps w' :=
 {h with
  frm :=
   {size:=Nat.le_trans h.frm.size e.size
    le:=fun b o hb=>e.heap b o (h.frm.le b o hb)
    old:=fun b hb hV=>by
     have h1:=h.frm.old b hb hV
     rw[<- h1]
     have hlt:b<w.heap.size:=Nat.lt_of_lt_of_le hb h.frm.size
     exact(e.heap b _ (Array.getElem?_eq_getElem hlt)).trans (Array.getElem?_eq_getElem hlt).symm
    dom:=h.frm.dom
    os:=e.os.trans h.frm.os
    out:=e.out.trans h.frm.out }
  boxes:=fun i cs ty hi=>⟨e.heap _ _ (h.boxes i cs ty hi).1,(h.boxes i cs ty hi).2⟩
  hid:=fun b o hb=>⟨e.heap _ _ (h.hid b o hb).1,(h.hid b o hb).2⟩ }
theorem Rel.less(h:Rel O V0 w0 N β st ρ V tmps w){O':Mem}(ho:∀b o,O' b=some o->O b=some o):Rel O' V0 w0 N β st ρ V tmps w :=
 {h with hid:=fun b o hb=>h.hid b o (ho b o hb) }
theorem Rel.orphan(h:Rel O V0 w0 N β st ρ V tmps w)(o:Obj):Rel (O.set w.heap.size o) V0 w0 N β st ρ V tmps (w.alloc o) :=
 {h.ext (Ext.alloc w o) with
  hid:=fun b o' hb=>by
   by_cases e:b=w.heap.size
   ·subst e
    rw[Mem.set_same]at hb;cases hb
    refine⟨qKs w o,le_none h.frm.le (Nat.le_refl _),h.frm.size,fun i hi=>?_⟩
    obtain⟨x,hx⟩:=Option.isSome_iff_exists.1 hi
    have:=(h.boxes i x.1 x.2 hx).1
    grind
   ·rw[Mem.set_ne e]at hb
    exact(h.ext (Ext.alloc w o)).hid b o' hb }
theorem Rel.adopt(h:Rel O V0 w0 N β st ρ V tmps w)(hw:st.wf=true){cs:T}(hc:cs.wf st.nv st.nb=true){ty b:Nat}(hO:O b=some (.cells (cs.evs ρ β).toArray ty (0,0))) :
  Rel (fun c=>if c=b then none else O c) V0 w0 N (upd β st.nb b) { st with boxes:=(st.nb,cs,ty)::st.boxes,nb:=st.nb+1 } ρ V tmps w:=by
 have hcg:∀t:T,t.wf st.nv st.nb=true->t.ev ρ β=t.ev ρ (upd β st.nb b)/\t.evs ρ β=t.evs ρ (upd β st.nb b) :=
  T.ev_congr (fun _ _=>rfl) (fun i hi=>by grind [upd])
 have hbox:∀(i:Nat) (x:T×Nat),St.box { st with boxes:=(st.nb,cs,ty)::st.boxes,nb:=st.nb+1 } i=some x->(i=st.nb/\x=(cs,ty))∨(i≠st.nb/\st.box i=some x):=by
  grind [St.box,inr]
 obtain⟨g1,g2,g3,g4⟩:=h.hid b _ hO
 exact
 {nv:=h.nv
  size:=h.size
  slots:=fun s t hs=>(h.slots s t hs).trans (hcg t (wf_get hw hs)).1
  frm:=h.frm
  boxes:=fun i cs' ty' hi=>by
   rcases hbox i _ hi with⟨rfl,e⟩|⟨hne,hi'⟩
   ·grind [upd]
   ·obtain⟨h1,h2,h3,h4⟩:=h.boxes i cs' ty' hi'
    grind [upd,qIn,Nat.lt_succ_of_lt]
  hid:=fun c o hb=>by
   split at hb
   ·cases hb
   ·rename_i hne
    obtain⟨k1,k2,k3,k4⟩:=h.hid c o hb
    refine⟨k1,k2,k3,fun i hi=>?_⟩
    obtain⟨x,hx⟩:=Option.isSome_iff_exists.1 hi
    rcases hbox i x hx with⟨rfl,_⟩|⟨hne',hi'⟩
    ·grind [upd]
    grind [upd]
  inj:=fun i j hi hj he=>by
   obtain⟨x,hx⟩:=Option.isSome_iff_exists.1 hi
   obtain⟨y,hy⟩:=Option.isSome_iff_exists.1 hj
   rcases hbox i x hx with⟨rfl,_⟩|⟨hne,hi'⟩ <;> rcases hbox j y hy with⟨rfl,_⟩|⟨hne',hj'⟩
   ·rfl
   ·grind [upd,absurd]
   ·grind [upd,absurd]
   ·simp only[upd,if_neg hne,if_neg hne']at he
    exact h.inj i j (by simp[hi']) (by simp[hj']) he }
end
section
variable{P:Program}{R:Ending->Mem->Prop}{O V0:Mem}{w0:World}{N:Nat}{L:List (List Value->Mem->Prop)}{ρ0:List Value}{fs:List Nat}{H:qHl}
variable{all:Array Oper}
def qGH(P:Program)(all:Array Oper)(j:Nat)(wt:Bool)(as:Act)(w:World):Prop :=
 ∃o d,all[j]?=some o/\o.dst=some d/\d<as.tmps.size/\Region.wanted o (yielded all as.tmps)=wt /\
  (wt=true->∀w',Ext w w'->(execOp as.eval o).run P w'=.ok (.value (as.tmps.getD d undef)) w')/\(wt=false->as.tmps.getD d undef=undef)
theorem qGH.ext{j:Nat}{wt:Bool}{as:Act}{w w':World}(h:qGH P all j wt as w)(e:Ext w w'):qGH P all j wt as w':=by
 obtain⟨o,d,h1,h2,h3,h4,h5,h6⟩:=h
 exact⟨o,d,h1,h2,h3,h4,fun hw w'' e'=>h5 hw w'' (e.trans e'),h6⟩
theorem qBn{a:Act}{dst:Option Nat}{v:Value}{d:Nat}(h:dst≠some d):(a.put dst v).tmps.getD d undef=a.tmps.getD d undef:=by
 cases dst with
 | none=>rfl
 | some e =>
  simp_all [Act.put,Array.getD]
theorem qBy{a:Act}{v:Value}{d:Nat}(h:d<a.tmps.size):(a.put (some d) v).tmps.getD d undef=v:=by
 simp[Act.put,Array.getD,h]
theorem qCv(a:Act)(dst:Option Nat)(v:Value):(a.put dst v).tmps.size=a.tmps.size:=by cases dst <;> simp[Act.put]
theorem noSel{all:Array Oper}(h:∀o,o∈all.toList->qCw o.op=false){j:Nat}{o:Oper}(ho:all[j]?=some o):∀cs b,o.op≠.select cs b:=by
 grind [qCw]
theorem qGH.put(hs:∀o,o∈all.toList->qCw o.op=false){j:Nat}{wt:Bool}{as:Act}{w:World}(h:qGH P all j wt as w){dst:Option Nat}{v:Value}
  (hl:∀o,all[j]?=some o->∀d',dst=some d'->d' ∉ o.looksAt all/\o.dst≠some d'):qGH P all j wt (as.put dst v) w:=by
 obtain⟨o,d,h1,h2,h3,h4,h5,h6⟩:=h
 have hlook:∀d',dst=some d'->d' ∉ o.looksAt all:=fun d' hd=>(hl o h1 d' hd).1
 have hne:dst≠some d:=fun e=>(hl o h1 d e).2 h2
 refine⟨o,d,h1,h2,by rw[qCv];exact h3,?_,fun hw w' e=>?_,fun hw=>?_⟩
 ·grind [wanted_put]
 ·rw[execOp_put o (noSel hs h1) as dst v hlook,qBn hne];exact h5 hw w' e
 grind [qBn]
theorem qDp{fl:List (Nat×Bool)}{dst:Option Nat}(h:qFP all fl dst=true){j:Nat}{b:Bool}(hj:(j,b)∈fl):∀o,all[j]?=some o->∀d',dst=some d'->d' ∉ o.looksAt all:=by
 intro o ho d' hd
 have:=List.all_eq_true.1 h _ hj
 simp_all
theorem exLoad_run{a:Act}{w:World}{st:St}{o:Oper}{k:St->Tr}{t:TypeId}{x:Operand}(hop:o.op=.load t x)(hd:qFo N o.dst=true)
  (h:qCE P R O V0 w0 N L ρ0 a.tmps w st (qKo P st o.dst t x k)) :
  ∃v st',(∀w',Ext w w'->(execOp a.eval o).run P w'=.ok (.value v) w')/\qCE P R O V0 w0 N L ρ0 (a.put o.dst v).tmps w st' (k st'):=by
 obtain⟨β,ρ,V,hp,hr,hD⟩:=h
 unfold qKo at hD
 obtain⟨st',p,hg,hfree,β',ρ',V',hp',hr',hD'⟩:=qAW _ _ _ _ ⟨β,ρ,V,hp,hr,hD⟩
 have hx:a.eval x=p.ev ρ' β':=qAK hr' hg
 have hfr:∀{b i sz off e},qIu p=(b,i,sz,off,e)->b.firstBox=none/\i.firstBox=none:=by
  intro b i sz off e hs
  unfold qIu at hs
  grind [T.firstBox]
 have go:∀(q:Addr) (ks:List K) (vs:List Value) (off:Nat) (z:T),asP (p.ev ρ' β')=some (q.add off)->p.kind=some .p->Shaped ks vs->st'.wf=true ->
   (∀w',Ext w w'->∀j v,vs[j]?=some v->w'.cell? (q.add j)=some v)->qFn P t (T.ofList (vars ks st'.nv)) off=some z->D P R (k ((st'.more ks.length).putO o.dst z)) L (ρ'++vs) V' ->
   ∃v st',(∀w',Ext w w'->(execOp a.eval o).run P w'=.ok (.value v) w')/\qCE P R O V0 w0 N L ρ0 (a.put o.dst v).tmps w st' (k st'):=by
  intro q ks vs off z hq hpk hsh hw hc hz hD2
  have hl:vs.length=ks.length:=hsh.length
  have hrb:=hr'.bind hw vs
  rw[hl]at hrb
  have hev:(T.ofList (vars ks st'.nv)).evs (ρ'++vs) β'=vs:=by
   rw[qAy,<- hr'.nv]
   have:=qGM (β:=β') ks vs ρ' [] hsh
   simp_all
  obtain⟨p',hpe⟩:=qIZ (ρ:=ρ') (β:=β') hpk
  rw[hpe]at hq
  simp only[asP]at hq;subst hq
  refine⟨z.ev (ρ'++vs) β',_,fun w' e=>?_,β',ρ'++vs,V',(hp'.more _ _).putO _ _,hrb.putO hd z rfl,hD2⟩
  grind [qGg,execOp,Instr.loadAt,Instr.sureAddr,Sem.run_bind,Sem.run_pure,Result.andThen_ok]
 have hle:∀w',Ext w w'->V'.le w':=fun w' e=>(hr'.ext e).frm.le
 split at hD'
 case isFalse=>exact hD'.elim
 rename_i hpk
 split at hD'
 ·rename_i b i sz off e hs
  obtain⟨hb,hi⟩:=hfr hs
  split at hD'
  ·rename_i ks hks
   split at hD'
   ·rename_i hlen
    unfold bind at hD'
    split at hD'
    ·rename_i hw
     split at hD'
     ·rename_i z hz
      simp only[D]at hD'
      obtain⟨vs,h1,h2,h3⟩:=hD'
      have he:=qGd (ρ:=ρ') (β:=β') hs hpk
      simp only at he
      rw[(T.ev_free (β:=id) (β':=β') (ρ:=ρ') b hb).1,(T.ev_free (β:=id) (β':=β') (ρ:=ρ') i hi).1]at h1
      cases hq:asP (b.ev ρ' β') with
      | none=>simp[hq,Mem.rowp]at h1
      | some q =>
       grind [Mem.rowp,qAa,qEZ]
     ·exact hD'.elim
    ·exact hD'.elim
   ·exact hD'.elim
  ·exact hD'.elim
 ·rename_i b i sz off hs
  obtain⟨hb,hi⟩:=hfr hs
  split at hD'
  ·rename_i ks hks
   unfold bind at hD'
   split at hD'
   ·rename_i hw
    split at hD'
    ·rename_i z hz
     simp only[D]at hD'
     obtain⟨vs,h1,h2,h3⟩:=hD'
     have he:=qGd (ρ:=ρ') (β:=β') hs hpk
     simp only at he
     rw[(T.ev_free (β:=id) (β':=β') (ρ:=ρ') b hb).1,(T.ev_free (β:=id) (β':=β') (ρ:=ρ') i hi).1]at h1
     cases hq:asP (b.ev ρ' β') with
     | none=>simp[hq,Mem.rowp]at h1
     | some q =>
      simp only[hq,Mem.rowp]at h1
      rw[hq]at he
      simp only[qAa,Option.map_some]at he
      exact go _ ks vs 0 z (by rw[he,Addr.add_zero']) hpk h2 hw (fun w' e=>(qEZ (hle w' e) h1).2) hz h3
    ·exact hD'.elim
   ·exact hD'.elim
  ·exact hD'.elim
theorem qCL{as:Act}{w:World}{st:St}:∀{fl:List (Nat×Bool)} {t:Tr} {β:Nat->Nat} {ρ:List Value} {V:Mem},Rel O V0 w0 N β st ρ V as.tmps w->D P R (qFB P all fl st t) L ρ V ->
  D P R t L ρ V/\∀j,(j,true)∈fl->∃o d,all[j]?=some o/\o.dst=some d/\∀w',Ext w w'->(execOp as.eval o).run P w'=.ok (.value (as.tmps.getD d undef)) w'
 | [],t,β,ρ,V,hr,hD=>⟨hD,fun j hj=>by cases hj⟩
 | (i,false)::fl,t,β,ρ,V,hr,hD=>by
  obtain⟨h1,h2⟩:=qCL (fl:=fl) hr hD
  exact⟨h1,fun j hj=>h2 j (by simpa using hj)⟩
 | (i, true)::fl,t,β,ρ,V,hr,hD=>by
  simp only[qFB]at hD
  split at hD
  ·exact hD.elim
  ·rename_i o ho
   split at hD
   ·rename_i ns x y hpu hy
    split at hD
    ·rename_i e;subst e
     obtain⟨g1,g2⟩:=qFE hD β
     obtain⟨h1,h2⟩:=qCL (fl:=fl) hr g2
     refine⟨h1,fun j hj=>?_⟩
     rcases List.mem_cons.1 hj with e|hj
     ·cases e
      cases hd:o.dst with
      | none=>simp[hd]at hy
      | some d =>
       simp only[hd,Option.bind_some]at hy
       refine⟨o,d,ho,hd,fun w' ew=>?_⟩
       rw[hr.slots d _ hy]
       exact qIG (hr.ext ew) hpu g1
     ·exact h2 j hj
    ·exact hD.elim
   ·rename_i y hpu hy
    split at hD
    ·rename_i ty x hop
     split at hD
     ·rename_i p n ag hp hn hag
      split at hD
      ·rename_i hc
       obtain⟨c1,c2,c3,c4,c5,c6,c7⟩:=hc
       simp only[D]at hD
       obtain⟨g1,g2⟩:=hD
       obtain⟨h1,h2⟩:=qCL (fl:=fl) hr g2
       refine⟨h1,fun j hj=>?_⟩
       rcases List.mem_cons.1 hj with e|hj
       ·cases e
        cases hd:o.dst with
        | none=>simp[hd]at hy
        | some d =>
         simp only[hd,Option.bind_some]at hy
         refine⟨o,d,ho,hd,fun w' ew=>?_⟩
         rw[hr.slots d _ hy]
         have hfy:y.cellsT.firstBox=none:=by cases y <;> simp_all [T.cellsT,T.firstBox]
         rw[(T.ev_free (β:=id) (β':=β) (ρ:=ρ) p c2).1,(T.ev_free (β:=id) (β':=β) (ρ:=ρ) _ hfy).2]at g1
         obtain⟨q,hq⟩:=qIZ (ρ:=ρ) (β:=β) c1
         rw[hq]at g1
         have hx:as.eval x=.pointer q:=(qAK hr hp).trans hq
         cases q with
         | none=>simp[asP,Mem.rowp]at g1
         | some q =>
          simp only[asP,Mem.rowp,Addr.add_zero']at g1
          obtain⟨_,g3⟩:=qEZ (hr.ext ew).frm.le g1
          have hlen:(y.cellsT.evs ρ β).length=n:=by grind [qAH]
          have hrun:(loadVar ty q).run P w'=.ok (y.ev ρ β) w':=by
           cases ag with
           | true =>
            have hl:=run_loadCells_list (P:=P) w' q (y.cellsT.evs ρ β) g3
            rw[hlen]at hl
            cases y <;> simp[qGu]at c7
            simp only[loadVar,Sem.run_bind,qCc hag,Result.andThen_ok,if_true,qBm hn,T.cellsT]at hl ⊢
            rw[hl];simp[T.ev]
           | false =>
            have hcell:y.cellsT=.cons y .nil:=by cases y <;> simp_all [qGu,T.cellsT]
            have g4:=g3 0 (y.ev ρ β) (by rw[hcell];rfl)
            rw[Addr.add_zero']at g4
            simp only[loadVar,Sem.run_bind,qCc hag,Result.andThen_ok,Bool.false_eq_true,if_false,run_load,g4]
          grind [execOp,Instr.loadAt,Instr.sureAddr,Sem.run_bind,Sem.run_pure,Result.andThen_ok]
       ·exact h2 j hj
      ·exact hD.elim
     ·exact hD.elim
    ·exact hD.elim
   ·exact hD.elim
end
def noO:Mem:=fun _=>none
structure qFv (P:Program) (all:Array Oper) (ms:List Nat):Prop where
 edges:qLD all
 dsts:∀(i j:Nat) (oi oj:Oper) (d:Nat),all[i]?=some oi->all[j]?=some oj->oi.dst=some d->oj.dst=some d->i=j
 sel:∀o,o∈all.toList->qCw o.op=false
 look:∀(i:Nat) (o:Oper) (p:Nat) (op:Oper) (t:Nat),all[i]?=some o->t∈o.looksAt all->(qBb all p=true∨qBD all p=true)->all[p]?=some op->op.dst=some t->(qBF ms i).testBit p=true/\p≠i
 allocs:∀(i:Nat) (o:Oper) (e:Nat),all[i]?=some o->o.op=.alloc e->(qBP P e).isSome=true
theorem qKd:∀{l:List Oper},(l.filterMap (·.dst)).Nodup->∀(i j:Nat) (oi oj:Oper) (d:Nat),l[i]?=some oi->l[j]?=some oj->oi.dst=some d->oj.dst=some d->i=j
 | [],_,i,j,oi,oj,d,h1,_,_,_=>by simp at h1
 | o::l,hn,i,j,oi,oj,d,h1,h2,h3,h4=>by
  have hmem:∀(k:Nat) ok,l[k]?=some ok->ok.dst=some d->d∈l.filterMap (·.dst):=fun k ok hk hd=>List.mem_filterMap.2 ⟨ok,List.mem_of_getElem? hk,hd⟩
  have htl:(l.filterMap (·.dst)).Nodup:=by
   grind
  have hhd:∀d,o.dst=some d->d ∉ l.filterMap (·.dst):=by
   grind
  cases i with
  | zero =>
   grind
  | succ i =>
   cases j with
   | zero =>
    grind
   | succ j=>exact congrArg (·+1) (qKd htl i j oi oj d (by simpa using h1) (by simpa using h2) h3 h4)
theorem qKg{all:Array Oper}{i:Nat}{o:Oper}(h:all[i]?=some o):(o,i)∈all.toList.zipIdx:=by
 grind
theorem qJp{P:Program}{all:Array Oper}{ms order:List Nat}(h:drawOk P all ms order=true) :
  qFv P all ms/\order.length=all.size/\order.Nodup/\(∀i∈order,i<all.size)/\qDA all ms order=true:=by
 simp only[drawOk,Bool.and_eq_true,List.all_eq_true,beq_iff_eq,decide_eq_true_eq,Bool.not_eq_true']at h
 obtain⟨⟨⟨⟨⟨⟨⟨⟨h1,h2⟩,h3⟩,h4⟩,h5⟩,h6⟩,h7⟩,h8⟩,h9⟩:=h
 refine⟨⟨fun i o ho e he hb=>?_,fun i j oi oj d hi hj=>?_,fun o ho=>h6 o ho,fun i o p op t ho ht hp hop hd=>?_,fun i o e ho hop=>?_⟩,h2,qDZ h3,h4,h8⟩
 ·have:=h1 _ (qKg ho)
  simp only[Array.all_eq_true_iff_forall_mem,Bool.or_eq_true,Bool.not_eq_true',decide_eq_true_eq]at this
  grind
 ·exact qKd (qDZ h5) i j oi oj d (by simpa using hi) (by simpa using hj)
 ·have hlt:p<all.size:=(Array.getElem?_eq_some_iff.1 hop).1
  have:=h7 _ (qKg ho) t ht p (List.mem_range.2 hlt)
  grind
 grind
def Orph(P:Program)(all:Array Oper)(O:Mem)(j b:Nat)(a:Act):Prop :=
 ∃o d e z,all[j]?=some o/\o.dst=some d/\o.op=.alloc e/\qFT P e=some z/\O b=some (.cells z.cells e (0,0))/\a.tmps.getD d undef=.pointer (some ⟨b,0,none⟩)
structure Inv (c:Bool) (P:Program) (R:Ending->Mem->Prop) (V0:Mem) (w0:World) (L:List (List Value->Mem->Prop)) (ρ0:List Value) (fs:List Nat) (H:qHl) (all:Array Oper) (ms:List Nat) (k:St->Tr)
  (rest:List Nat) (fl:List (Nat×Bool)) (st:St) (listed:Array Bool) (a:Act) (w:World) (as:Act) (pend:List Nat) (O:Mem) (bo:Nat->Nat):Prop where
 lsize:listed.size=all.size
 closed:qJx all listed
 chain:qDA all ms rest=true
 nd:rest.Nodup
 bound:∀j∈rest,j<all.size
 unl:∀j,j<all.size->listed.getD j true=false->j∈pend∨j∈rest
 pu:∀j∈pend,listed.getD j true=false/\qBb all j=true/\j ∉ rest/\(∀r∈rest,(qBF ms j).testBit r=false)/\∃b,(j,b)∈fl/\qGH P all j b as w
 ru:∀j∈rest,listed.getD j true=false∨(qBD all j=true/\Orph P all O j (bo j) a)
 boi:∀i∈rest,∀j∈rest,listed.getD i true=true->listed.getD j true=true->bo i=bo j->i=j
 fsize:as.tmps.size=a.tmps.size
 fdef:as.defers=a.defers
 fill:∀s,(∀j o,(j∈pend∨(j∈rest/\listed.getD j true=true))->all[j]?=some o->o.dst≠some s)->as.tmps.getD s undef=a.tmps.getD s undef
 goes:∃n,qCE P R O V0 w0 H.N L ρ0 as.tmps w st (qCZ P fs H all ms c n rest fl st k)
theorem qJf{all:Array Oper}{i:Nat}(h:qBb all i=true):qBD all i=false:=by
 unfold qBb at h;grind [qBD,floatOp]
theorem qDP{all:Array Oper}{ms:List Nat}{r:Nat}{tl:List Nat}(h:qDA all ms (r::tl)=true) :
  (qBb all r=true∨∀j∈tl,(((qBF ms j).testBit r=true∨qBD all j=true)∨(qBb all j=false/\∀q∈tl,(qBF ms j).testBit q=false))∨∃q∈tl,(qBF ms j).testBit q=true/\qBD all q=false)/\(∀j∈tl,(qBF ms r).testBit j=false)/\qDA all ms tl=true:=by
 simp_all [qDA,Bool.and_eq_true,Bool.or_eq_true,List.all_eq_true,List.any_eq_true,Bool.not_eq_true']
theorem sameSet_spec{l m:List Nat}(h:qIz l m=true):l.length=m.length/\l.Nodup/\∀x∈l,x∈m:=by
 simp_all [qIz,Bool.and_eq_true,List.all_eq_true,decide_eq_true_eq,qDZ]
section
variable{P:Program}{R:Ending->Mem->Prop}{O V0:Mem}{w0:World}{L:List (List Value->Mem->Prop)}{ρ0:List Value}{fs:List Nat}{H:qHl}
variable{all:Array Oper}{ms:List Nat}{k:St->Tr}{rest:List Nat}{fl:List (Nat×Bool)}{st:St}{listed:Array Bool}{a as:Act}{w:World}{pend:List Nat}{bo:Nat->Nat}
theorem qJe{N:Nat}{f:Nat->Tr}{t:Tr}:∀{l:List Nat},qCE P R O V0 w0 N L ρ0 as.tmps w st (forks f t l)->qCE P R O V0 w0 N L ρ0 as.tmps w st t/\∀j∈l,qCE P R O V0 w0 N L ρ0 as.tmps w st (f j)
 | [],h=>⟨h,fun j hj=>by cases hj⟩
 | j::js,⟨β,ρ,V,hp,hr,hD⟩=>by
  obtain⟨h1,h2⟩:=qJe (l:=js) ⟨β,ρ,V,hp,hr,hD.2⟩
  refine⟨h1,fun i hi=>?_⟩
  rcases List.mem_cons.1 hi with rfl|hi
  ·exact⟨β,ρ,V,hp,hr,hD.1⟩
  ·exact h2 i hi
theorem qGA{N:Nat}{c:Bool}{n r:Nat}{tl:List Nat}{o:Oper}(ho:all[r]?=some o)(h:qCE P R O V0 w0 N L ρ0 as.tmps w st (qCZ P fs H all ms c n (r::tl) fl st k)) :
  ∃m,qCE P R O V0 w0 N L ρ0 as.tmps w st (guardD all o st (qJo P fs H all ms r o fl fun fl st=>qCZ P fs H all ms true m tl fl st k) (drawNo H all ms r o fl fun fl st=>qCZ P fs H all ms true m tl fl st k)) /\
   (c=true->∀j∈altsOf all ms r tl,∃l,qIz (j::l) (r::tl)=true/\qDA all ms (j::l)=true/\qCE P R O V0 w0 N L ρ0 as.tmps w st (qCZ P fs H all ms false m (j::l) fl st k)):=by
 cases n with
 | zero=>obtain⟨β,ρ,V,hp,hr,hD⟩:=h;exact hD.elim
 | succ m =>
  unfold qCZ at h
  rw[ho]at h
  simp only at h
  obtain⟨h1,h2⟩:=qJe h
  refine⟨m,h1,fun hc j hj=>?_⟩
  subst hc
  have h3:=h2 j hj
  split at h3
  ·grind
  ·obtain⟨β,ρ,V,hp,hr,hD⟩:=h3;exact hD.elim
theorem qHC{N:Nat}{o:Oper}{yes no:St->Tr}(h:qCE P R O V0 w0 N L ρ0 as.tmps w st (guardD all o st yes no)) :
  (Region.wanted o (yielded all as.tmps)=true/\∃st',qCE P R O V0 w0 N L ρ0 as.tmps w st' (yes st')) ∨
  (Region.wanted o (yielded all as.tmps)=false/\∃st',qCE P R O V0 w0 N L ρ0 as.tmps w st' (no st')):=by
 unfold guardD at h
 split at h
 ·grind [Region.wanted]
 ·rename_i j want hg
  split at h
  ·obtain⟨β,ρ,V,hp,hr,hD⟩:=h;exact hD.elim
  ·rename_i d hj
   have hy:=qGL (tmps:=as.tmps) hj
   have hwant:Region.wanted o (yielded all as.tmps)=(yielded all as.tmps j==some want):=by simp[Region.wanted,hg]
   obtain⟨β,ρ,V,hp,hr,hD⟩:=h
   split at hD
   ·rename_i v hv
    rw[hr.getD_size hv]at hy
    simp only[T.ev]at hy
    split at hD
    ·rename_i e;subst e;exact .inl ⟨by simp_all,st,β,ρ,V,hp,hr,hD⟩
    ·rename_i e;exact .inr ⟨by simp_all,st,β,ρ,V,hp,hr,hD⟩
   ·rename_i hv
    rw[hr.getD_size hv]at hy
    have:yielded all as.tmps j=none:=by rw[hy];rfl
    exact .inr ⟨by grind,st,β,ρ,V,hp,hr,hD⟩
   ·rename_i c _ _ hv
    split at hD
    ·rename_i hc
     obtain⟨hc1,hc2,hc3⟩:=hc
     obtain⟨b,hb⟩:=qGs (ρ:=ρ) (β:=β) hc1
     rw[hr.getD_size hv,hb]at hy
     simp only at hy
     simp only[D]at hD
     have hfr:=(T.ev_free (β:=id) (β':=β) (ρ:=ρ) c hc2).1
     have hlearn:Rel O V0 w0 N β (st.now d (.bool b)) ρ V as.tmps w:=hr.now hv (by rw[hb];rfl)
     cases b with
     | true =>
      have hD':=hD.1 (by rw[hfr,hb];rfl)
      split at hD'
      ·rename_i e;exact .inl ⟨by simp_all,_,β,ρ,V,hp.now _ _,hlearn,hD'⟩
      ·rename_i e;exact .inr ⟨by simp_all,_,β,ρ,V,hp.now _ _,hlearn,hD'⟩
     | false =>
      have hD':=hD.2 (by rw[hfr,hb];rfl)
      split at hD'
      ·rename_i e;exact .inr ⟨by simp_all,_,β,ρ,V,hp.now _ _,hlearn,hD'⟩
      ·rename_i e;exact .inl ⟨by simp_all,_,β,ρ,V,hp.now _ _,hlearn,hD'⟩
    ·exact hD.elim
   ·exact hD.elim
end
section
variable{P:Program}{R:Ending->Mem->Prop}{O V0:Mem}{w0:World}{L:List (List Value->Mem->Prop)}{ρ0:List Value}{fs:List Nat}{H:qHl}
variable{all:Array Oper}{ms:List Nat}{k:St->Tr}{rest:List Nat}{fl:List (Nat×Bool)}{st:St}{listed:Array Bool}{a as:Act}{w:World}{pend:List Nat}{bo:Nat->Nat}
theorem isFloat_dst{i:Nat}{o:Oper}(h:qBb all i=true)(ho:all[i]?=some o):∃d,o.dst=some d:=by
 simp_all [qBb,Bool.and_eq_true,Option.isSome_iff_exists]
theorem qGz{N d:Nat}{o:Oper}(h:qFo N o.dst=true)(hd:o.dst=some d):d<N:=by
 grind [qFo]
theorem Inv.float(hok:qFv P all ms){r:Nat}{tl:List Nat}(h:Inv true P R V0 w0 L ρ0 fs H all ms k (r::tl) fl st listed a w as pend O bo)(hr:qBb all r=true) :
  ∃fl' st' as',Inv true P R V0 w0 L ρ0 fs H all ms k tl fl' st' listed a w as' (r::pend) O bo:=by
 obtain⟨hnr,hnd⟩:=List.nodup_cons.1 h.nd
 obtain⟨_,hc2,hc3⟩:=qDP h.chain
 have hrl:listed.getD r true=false:=by
  rcases h.ru r List.mem_cons_self with h1|h1
  ·exact h1
  grind [qJf]
 have hrlt:=h.bound r List.mem_cons_self
 obtain⟨o,ho⟩:∃o,all[r]?=some o:=⟨_,Array.getElem?_eq_getElem hrlt⟩
 obtain⟨d,hd⟩:=isFloat_dst hr ho
 have hself:∀d',o.dst=some d'->d' ∉ o.looksAt all:=fun d' hd' hm=>(hok.look r o r o d' ho hm (.inl hr) ho hd').2 rfl
 obtain⟨n0,hg0⟩:=h.goes
 obtain⟨m,hg,_⟩:=qGA ho hg0
 clear hg0
 -- what is left to be shown, whichever way it goes
 have fin:∀(b:Bool) (v:Value) (st':St),d<H.N->qFP all fl o.dst=true->Region.wanted o (yielded all as.tmps)=b ->
   (b=true->∀w',Ext w w'->(execOp as.eval o).run P w'=.ok (.value v) w')->(b=false->v=undef) ->
   qCE P R O V0 w0 H.N L ρ0 (as.put o.dst v).tmps w st' (qCZ P fs H all ms true m tl ((r,b)::fl) st' k) ->
   ∃fl' st' as',Inv true P R V0 w0 L ρ0 fs H all ms k tl fl' st' listed a w as' (r::pend) O bo:=by
  intro b v st' hdlt hap hw h1 h2 hG
  have hdsz:d<as.tmps.size:=by
   obtain⟨β,ρ,V,hp,hrr,_⟩:=hG
   have h5:as.tmps.size=H.N:=by have:=hrr.size;rwa [qCv]at this
   grind
  have hPr:qGH P all r b (as.put o.dst v) w:=by
   refine⟨o,d,ho,hd,by rw[qCv];exact hdsz,by grind [wanted_put],fun hb w' e=>?_,fun hb=>?_⟩
   ·rw[execOp_put o (noSel hok.sel ho) as o.dst v hself,h1 hb w' e,hd,qBy hdsz]
   grind [qBy]
  refine⟨(r,b)::fl,st',as.put o.dst v,
   {lsize:=h.lsize,closed:=h.closed,chain:=hc3,nd:=hnd,bound:=fun j hj=>h.bound j (List.mem_cons_of_mem _ hj),unl:=fun j hj hl=>?_,pu:=fun j hj=>?_,ru:=fun j hj=>h.ru j (List.mem_cons_of_mem _ hj)
    boi:=fun i hi j hj=>h.boi i (List.mem_cons_of_mem _ hi) j (List.mem_cons_of_mem _ hj),fsize:=by rw[qCv];exact h.fsize,fdef:=by rw[qBh];exact h.fdef,fill:=fun s hs=>?_,goes:=⟨_,hG⟩ }⟩
  ·rcases h.unl j hj hl with h3|h3
   ·simp_all
   grind
  ·rcases List.mem_cons.1 hj with rfl|hj
   ·simp_all
   ·obtain⟨g1,g2,g3,g4,b',g5,g6⟩:=h.pu j hj
    refine⟨g1,g2,fun hm=>g3 (List.mem_cons_of_mem _ hm),fun r' hr'=>g4 r' (List.mem_cons_of_mem _ hr'),b',List.mem_cons_of_mem _ g5,g6.put hok.sel fun o' ho' d' hd'=>?_⟩
    refine⟨qDp hap g5 o' ho' d' hd',fun e=>?_⟩
    have:=hok.dsts j r o' o d' ho' ho e hd'
    simp_all
  ·have hne:o.dst≠some s:=hs r o (.inl List.mem_cons_self) ho
   rw[qBn hne]
   refine h.fill s fun j o' hj ho'=>?_
   grind
 rcases qHC hg with⟨hw,st',hy⟩|⟨hw,st',hn⟩
 ·unfold qJo at hy
  rw[if_pos hr]at hy
  obtain⟨β,ρ,V,hp,hrr,hD⟩:=hy
  split at hD
  case isFalse=>exact hD.elim
  rename_i hc
  simp only[Bool.and_eq_true]at hc
  split at hD
  ·rename_i ns t hpu
   obtain⟨g1,g2⟩:=qFE hD β
   exact fin true (t.ev ρ β) _ (qGz hc.1 hd) hc.2 hw (fun _ w' e=>qIG (hrr.ext e) hpu g1) (fun h=>by cases h) ⟨β,ρ,V,hp.putO _ _,hrr.putO hc.1 t rfl,g2⟩
  ·split at hD
   ·rename_i ty x hop
    obtain⟨v,st2,g1,g2⟩:=exLoad_run hop hc.1 ⟨β,ρ,V,hp,hrr,hD⟩
    grind [qGz]
   ·exact hD.elim
 ·unfold drawNo at hn
  obtain⟨β,ρ,V,hp,hrr,hD⟩:=hn
  split at hD
  case isFalse=>exact hD.elim
  rename_i hc
  simp only[Bool.and_eq_true]at hc
  exact fin false undef _ (qGz hc.1 hd) hc.2 hw (fun h=>by cases h) (fun _=>rfl) ⟨β,ρ,V,hp.putO _ _,hrr.putO hc.1 .und rfl,hD⟩
theorem Inv.commit(hok:qFv P all ms){r:Nat}{tl:List Nat}(h:Inv true P R V0 w0 L ρ0 fs H all ms k (r::tl) fl st listed a w as pend O bo)(hr:qBb all r=false)(hl:listed.getD r true=true) :
  ∃st' as' O',Inv true P R V0 w0 L ρ0 fs H all ms k tl fl st' listed a w as' pend O' bo:=by
 obtain⟨hnr,hnd⟩:=List.nodup_cons.1 h.nd
 obtain⟨_,hc2,hc3⟩:=qDP h.chain
 obtain⟨hal,o,d,e,z,ho,hd,hop,hz,hO,hv⟩:qBD all r=true/\Orph P all O r (bo r) a:=by
  rcases h.ru r List.mem_cons_self with h1|h1
  ·simp_all
  ·exact h1
 obtain⟨n0,hg0⟩:=h.goes
 obtain⟨m,hg,_⟩:=qGA ho hg0
 clear hg0
 have hguard:o.guard=none:=by
  simp_all [qBD,Bool.and_eq_true]
 unfold guardD at hg
 rw[hguard]at hg
 simp only at hg
 unfold qJo at hg
 rw[if_neg (by rw[hr];simp),if_pos hal]at hg
 obtain⟨β,ρ,V,hp,hrr,hD⟩:=hg
 split at hD
 case isFalse=>exact hD.elim
 rename_i hap
 unfold exOp at hD
 split at hD
 case isFalse=>exact hD.elim
 rename_i hdo
 have hpu:pur P st o.op=none:=by rw[hop];rfl
 rw[hpu]at hD
 simp only[hop]at hD
 obtain⟨cs,hcs⟩:=Option.isSome_iff_exists.1 (hok.allocs r o e ho hop)
 rw[hcs]at hD
 simp only at hD
 obtain⟨z',hz',hzc⟩:=qDh (ρ:=ρ) (β:=β) hcs
 rw[hz]at hz';cases hz'
 have hcells:((T.ofList cs).evs ρ β).toArray=z.cells:=by rw[qAy,<- hzc,Array.toArray_toList]
 unfold qHf at hD
 split at hD
 case isFalse=>exact hD.elim
 rename_i hwf
 simp only[Bool.and_eq_true]at hwf
 have hr2:=hrr.adopt hwf.1 hwf.2 (ty:=e) (b:=bo r) (by simp_all)
 have hx:Value.pointer (some ⟨bo r,0,none⟩)=(T.box st.nb 0).ev ρ (upd β st.nb (bo r)):=by simp[T.ev,upd]
 have hr3:=hr2.putO hdo (T.box st.nb 0) hx
 have hp3:Pre ρ0 L ρ (({ st with boxes:=(st.nb,T.ofList cs,e)::st.boxes,nb:=st.nb+1 }:St).putO o.dst (T.box st.nb 0)):=Pre.putO (st:={ st with boxes:=(st.nb,T.ofList cs,e)::st.boxes,nb:=st.nb+1 }) ⟨hp.1,hp.2⟩ _ _
 simp only[hd]at hD hr3 hp3
 have hdsz:d<as.tmps.size:=by rw[hrr.size];exact qGz hdo hd
 obtain⟨st',hG⟩:∃st',qCE P R (fun c=>if c=bo r then none else O c) V0 w0 H.N L ρ0 (as.put (some d) (.pointer (some ⟨bo r,0,none⟩))).tmps w st' (qCZ P fs H all ms true m tl fl st' k):=by
  split at hD
  ·exact qCA _ _ _ _ ⟨_,_,_,hp3,hr3,hD⟩
  ·exact⟨_,_,_,_,hp3,hr3,hD⟩
 refine⟨st',as.put (some d) (.pointer (some ⟨bo r,0,none⟩)),_,
  {lsize:=h.lsize,closed:=h.closed,chain:=hc3,nd:=hnd,bound:=fun j hj=>h.bound j (List.mem_cons_of_mem _ hj),unl:=fun j hj hl'=>?_,pu:=fun j hj=>?_,ru:=fun j hj=>?_
   boi:=fun i hi j hj=>h.boi i (List.mem_cons_of_mem _ hi) j (List.mem_cons_of_mem _ hj),fsize:=by rw[qCv];exact h.fsize,fdef:=by rw[qBh];exact h.fdef,fill:=fun s hs=>?_,goes:=⟨_,hG⟩ }⟩
 ·rcases h.unl j hj hl' with h3|h3
  ·exact .inl h3
  grind
 ·obtain⟨g1,g2,g3,g4,b',g5,g6⟩:=h.pu j hj
  refine⟨g1,g2,fun hm=>g3 (List.mem_cons_of_mem _ hm),fun r' hr'=>g4 r' (List.mem_cons_of_mem _ hr'),b',g5,g6.put hok.sel fun o' ho' d' hd'=>?_⟩
  rw[<- hd]at hd'
  refine⟨qDp hap g5 o' ho' d' hd',fun e=>?_⟩
  have:=hok.dsts j r o' o d' ho' ho e hd'
  simp_all
 ·rcases h.ru j (List.mem_cons_of_mem _ hj) with h1|⟨h1,o',d',e',z',k1,k2,k3,k4,k5,k6⟩
  ·exact .inl h1
  ·by_cases hlj:listed.getD j true=false
   ·exact .inl hlj
   ·refine .inr ⟨h1,o',d',e',z',k1,k2,k3,k4,?_,k6⟩
    have hne:bo j≠bo r:=fun e=>by
     have:=h.boi j (List.mem_cons_of_mem _ hj) r List.mem_cons_self (by simpa using hlj) hl e
     simp_all
    simp_all
 ·by_cases hsd:s=d
  ·grind [qBy]
  ·rw[qBn (by grind)]
   refine h.fill s fun j o' hj ho'=>?_
   grind
theorem Inv.advance(hok:qFv P all ms):∀(rest:List Nat) {fl:List (Nat×Bool)} {st:St} {as:Act} {pend:List Nat} {O:Mem},Inv true P R V0 w0 L ρ0 fs H all ms k rest fl st listed a w as pend O bo ->
  ∃rest' fl' st' as' pend' O',Inv true P R V0 w0 L ρ0 fs H all ms k rest' fl' st' listed a w as' pend' O' bo/\(∀r tl,rest'=r::tl->qBb all r=false/\listed.getD r true=false)
 | [],fl,st,as,pend,O,h=>⟨[],fl,st,as,pend,O,h,fun r tl e=>by cases e⟩
 | r::tl,fl,st,as,pend,O,h=>by
  by_cases hr:qBb all r=true
  ·obtain⟨fl',st',as',h'⟩:=h.float hok hr
   exact Inv.advance hok tl h'
  ·have hr':qBb all r=false:=by simpa using hr
   by_cases hl:listed.getD r true=true
   ·obtain⟨st',as',O',h'⟩:=h.commit hok hr' hl
    exact Inv.advance hok tl h'
   ·exact⟨r::tl,fl,st,as,pend,O,h,fun r' tl' e=>by cases e;exact⟨hr',by simpa using hl⟩⟩
end
theorem qJU{all:Array Oper}(hs:∀o,o∈all.toList->qCw o.op=false){i:Nat}{o:Oper}(ho:all[i]?=some o){a as:Act}
  (h:∀t∈o.looksAt all,as.tmps.getD t undef=a.tmps.getD t undef) :
  execOp a.eval o=execOp as.eval o/\Region.wanted o (yielded all a.tmps)=Region.wanted o (yielded all as.tmps):=by
 constructor
 ·refine execOp_congr o (noSel hs ho) fun x hx=>?_
  cases x with
  | tmp t =>
   have:=h t (List.mem_append_left _ (List.mem_filterMap.2 ⟨.tmp t,by simpa using hx,rfl⟩))
   grind [Act.eval,undef]
  | _=>rfl
 ·unfold Region.wanted
  cases hg:o.guard with
  | none=>rfl
  | some gw =>
   obtain⟨g,want⟩:=gw
   simp only
   cases ht:(all[g]?).bind (·.dst) with
   | none=>simp[yielded,ht]
   | some d =>
    have:=h d (List.mem_append_right _ (by simp[hg,ht]))
    grind [qGL]
theorem nodup_sub:∀{l m:List Nat},l.Nodup->(∀x∈l,x∈m)->l.length<=m.length
 | [],m,_,_=>Nat.zero_le _
 | x::l,m,hn,h=>by
  obtain⟨h1,h2⟩:=List.nodup_cons.1 hn
  have hm:=h x List.mem_cons_self
  have:=nodup_sub (m:=m.erase x) h2 fun y hy=>by
   grind
  grind
theorem qHu{l:List Nat}{i x:Nat}(h:i ∉ l)(hx:x∈l):i≠x:=fun e=>h (e ▸ hx)
theorem set_same{l:Array Bool}{i:Nat}(h:i<l.size)(d:Bool):(l.setIfInBounds i true).getD i d=true:=by
 simp_all
theorem qAU{l:Array Bool}{i j:Nat}(h:i≠j)(d:Bool):(l.setIfInBounds i true).getD j d=l.getD j d:=by
 simp_all
theorem getD_any{l:Array Bool}{j:Nat}(h:l.getD j true=false):l.getD j false=false:=by
 grind
theorem ready_mem{all:Array Oper}{listed:Array Bool}{i:Nat}(h:i∈Region.ready .any all listed) :
  i<all.size/\listed.getD i true=false/\∃o,all[i]?=some o/\∀e∈o.after,Region.binds .any e=true->listed.getD e.on false=true:=by
 simp only[Region.ready,List.mem_filter,List.mem_range,Bool.and_eq_true,Bool.not_eq_true']at h
 grind [Array.getElem?_eq_getElem,Array.all_eq_true_iff_forall_mem]
theorem ready_ne{all:Array Oper}{listed:Array Bool}(he:qLD all)(hs:listed.size=all.size):∀j,j<all.size->listed.getD j true=false->Region.ready .any all listed≠[]:=by
 intro j
 induction j using Nat.strongRecOn with
 | _ j ih =>
  intro hj hl
  have ho:=Array.getElem?_eq_getElem hj
  by_cases h:∃e∈all[j].after,Region.binds .any e=true/\listed.getD e.on false=false
  ·obtain⟨e,h1,h2,h3⟩:=h
   have hlt:=he j _ ho e h1 h2
   grind
  ·intro hn
   have:j∈Region.ready .any all listed:=by
    grind [Region.ready,Region.binds,absurd]
   simp_all
theorem wp_transfer{P:Program}{o:Oper}{a as:Act}{w:World}{K:Act->World->Prop}{Q:Exit->Act->World->Prop}(he:execOp a.eval o=execOp as.eval o)(hd:∀d,o.dst=some d->d<as.tmps.size)
  (h:o.wp P as w (fun as' w'=>∃v,as'=as.put o.dst v/\K (a.put o.dst v) w') (fun e _ w'=>match e with | .panic ch=>Q (.panic ch) a w'|_=>False)) (hlo:LetsOut (fun(_:Exit) (_:Act) (_:World)=>False)->LetsOut Q):o.wp P a w K Q:=by
 have hput:∀v v' w',as.put o.dst v=as.put o.dst v'->K (a.put o.dst v') w'->K (a.put o.dst v) w':=by
  intro v v' w' e hK
  cases hdst:o.dst with
  | none=>rw[hdst]at hK;exact hK
  | some d =>
   have h1:=hd d hdst
   rw[hdst]at e hK
   have:v=v':=by
    have e1:=congrArg (fun x:Act=>x.tmps.getD d undef) e
    grind [qBy]
   simp_all
 unfold Oper.wp at *
 rw[he]
 generalize (execOp as.eval o).run P w=r at *
 cases r with
 | ok n w' =>
  cases n with
  | value v=>grind [Oper.upon]
  | skip=>grind [Oper.upon,undef]
  | defer d =>
   simp only[Oper.upon]at h ⊢
   obtain⟨v',h1,h2⟩:=h
   have e:=congrArg (fun x:Act=>x.defers) h1
   simp only[qBh]at e
   simp_all
  | enter f args =>
   simp only[Oper.upon]at h ⊢
   refine Calls.mono h fun e w'' he=>?_
   cases e with
   | returned v=>grind
   | panicked c=>exact he
   | outgrown=>exact hlo (by obtain⟨a',w',h⟩:=he;exact h.elim)
  | row nm args =>
   grind [Oper.upon]
  | _=>simp only[Oper.upon]at h ⊢
 | halt x w'=>cases x <;> simp only[Oper.upon]at h ⊢ <;> exact h
section
variable{P:Program}{R:Ending->Mem->Prop}{O V0:Mem}{w0:World}{L:List (List Value->Mem->Prop)}{ρ0:List Value}{fs:List Nat}{H:qHl}
variable{all:Array Oper}{k:St->Tr}{rest:List Nat}{fl:List (Nat×Bool)}{st:St}{listed:Array Bool}{a as:Act}{w:World}{pend:List Nat}{bo:Nat->Nat}
theorem qHi(hs:listed.size=all.size)(h:qJx all listed){i:Nat}{o:Oper}(ho:all[i]?=some o)(hi:∀e∈o.after,Region.binds .any e=true->listed.getD e.on false=true) :
  qJx all (listed.setIfInBounds i true):=by
 have up:∀j,listed.getD j false=true->(listed.setIfInBounds i true).getD j false=true:=by
  intro j hj
  by_cases e:i=j
  ·subst e;exact set_same (by grind) _
  simp_all
 intro j oj hj hl e he hb
 by_cases e':i=j
 ·simp_all
 ·rw[qAU e']at hl;exact up _ (h j oj hj hl e he hb)
theorem qKm{c:Bool}{ms:List Nat}(hok:qFv P all ms)(h:Inv c P R V0 w0 L ρ0 fs H all ms k rest fl st listed a w as pend O bo){i:Nat}{o:Oper}(ho:all[i]?=some o)
  (hm:∀j,(qBF ms i).testBit j=true->listed.getD j false=true) (hrest:∀j∈rest,j≠i->(qBF ms i).testBit j=false):∀t∈o.looksAt all,as.tmps.getD t undef=a.tmps.getD t undef:=by
 intro t ht
 refine h.fill t fun j oj hj hoj hd=>?_
 rcases hj with hj|⟨hj,hl⟩
 ·obtain⟨g1,g2,_⟩:=h.pu j hj
  have:=hm j (hok.look i o j oj t ho ht (.inl g2) hoj hd).1
  grind
 ·rcases h.ru j hj with g|⟨g,_⟩
  ·simp_all
  ·obtain⟨g1,g2⟩:=hok.look i o j oj t ho ht (.inr g) hoj hd
   simp_all
theorem Orph.put{ms:List Nat}(hok:qFv P all ms){i j b:Nat}{o:Oper}(ho:all[i]?=some o)(hne:i≠j)(h:Orph P all O j b a)(v:Value):Orph P all O j b (a.put o.dst v):=by
 obtain⟨o',d',e',z',k1,k2,k3,k4,k5,k6⟩:=h
 exact⟨o',d',e',z',k1,k2,k3,k4,k5,by rw[qBn fun e=>hne (hok.dsts i j o o' d' ho k1 e k2)];exact k6⟩
theorem Inv.carry{ms:List Nat}(hok:qFv P all ms)(h:Inv true P R V0 w0 L ρ0 fs H all ms k rest fl st listed a w as pend O bo){i:Nat}(hi:i∈pend){o:Oper}(ho:all[i]?=some o){d:Nat}(hd:o.dst=some d)(hdlt:d<a.tmps.size)
  (hre:∀e∈o.after,Region.binds .any e=true->listed.getD e.on false=true) :
  Inv true P R V0 w0 L ρ0 fs H all ms k rest fl st (listed.setIfInBounds i true) (a.put o.dst (as.tmps.getD d undef)) w as (pend.filter (·≠i)) O bo:=by
 have hir:i ∉ rest:=(h.pu i hi).2.2.1
 have hlt:i<listed.size:=by rw[h.lsize];grind
 exact
 {lsize:=by rw[Array.size_setIfInBounds];exact h.lsize
  closed:=qHi h.lsize h.closed ho hre
  chain:=h.chain,nd:=h.nd,bound:=h.bound
  unl:=fun j hj hl=>by
   by_cases e:i=j
   ·simp_all
   ·rw[qAU e]at hl
    rcases h.unl j hj hl with h1|h1
    ·grind
    ·exact .inr h1
  pu:=fun j hj=>by
   obtain⟨h1,h2⟩:=List.mem_filter.1 hj
   have hne:i≠j:=fun e=>by simp[e]at h2
   rw[qAU hne]
   exact h.pu j h1
  ru:=fun j hj=>by
   have hne:i≠j:=qHu hir hj
   rw[qAU hne]
   exact(h.ru j hj).imp id fun⟨g1,g2⟩=>⟨g1,g2.put hok ho hne _⟩
  boi:=fun x hx y hy hlx hly=>by
   rw[qAU (qHu hir hx)]at hlx
   rw[qAU (qHu hir hy)]at hly
   exact h.boi x hx y hy hlx hly
  fsize:=by rw[qCv];exact h.fsize
  fdef:=by rw[qBh];exact h.fdef
  fill:=fun s hs=>by
   by_cases e:d=s
   ·grind [qBy]
   ·rw[hd,qBn (by simpa using e)]
    refine h.fill s fun j o' hj ho'=>?_
    rcases hj with hj|⟨hj,hl⟩
    ·grind
    ·exact hs j o' (.inr ⟨hj,by rw[qAU (qHu hir hj)];exact hl⟩) ho'
  goes:=h.goes }
theorem Inv.make{ms:List Nat}(hok:qFv P all ms)(h:Inv true P R V0 w0 L ρ0 fs H all ms k rest fl st listed a w as pend O bo){i:Nat}(hi:i∈rest)(hip:i ∉ pend){o:Oper}(ho:all[i]?=some o){d:Nat}(hd:o.dst=some d)(hdlt:d<a.tmps.size)
  (hal:qBD all i=true) {e:TypeId} (hop:o.op=.alloc e) {z:Value} (hz:qFT P e=some z)
  (hre:∀e∈o.after,Region.binds .any e=true->listed.getD e.on false=true) :
  Inv true P R V0 w0 L ρ0 fs H all ms k rest fl st (listed.setIfInBounds i true) (a.put o.dst (.pointer (some ⟨w.heap.size,0,none⟩))) (w.alloc (.cells z.cells e (0,0))) as pend (O.set w.heap.size (.cells z.cells e (0,0))) (upd bo i w.heap.size):=by
 have hlt:i<listed.size:=by rw[h.lsize];grind
 obtain⟨n0,β,ρ,V,hp,hr,hD⟩:=h.goes
 have hO:∀b o,O b=some o->b<w.heap.size:=fun b o hb=>(Array.getElem?_eq_some_iff.1 (hr.hid b o hb).1).1
 have horph:∀j∈rest,j≠i->(listed.setIfInBounds i true).getD j true=true->qBD all j=true/\Orph P all O j (bo j) a:=by
  intro j hj hne hl
  rw[qAU (fun e=>hne e.symm)]at hl
  rcases h.ru j hj with g|g
  ·simp_all
  ·exact g
 exact
 {lsize:=by rw[Array.size_setIfInBounds];exact h.lsize
  closed:=qHi h.lsize h.closed ho hre
  chain:=h.chain,nd:=h.nd,bound:=h.bound
  unl:=fun j hj hl=>by
   by_cases e:i=j
   ·simp_all
   ·rw[qAU e]at hl;exact h.unl j hj hl
  pu:=fun j hj=>by
   have hne:i≠j:=qHu hip hj
   rw[qAU hne]
   obtain⟨g1,g2,g3,g4,b,g5,g6⟩:=h.pu j hj
   exact⟨g1,g2,g3,g4,b,g5,g6.ext (Ext.alloc _ _)⟩
  ru:=fun j hj=>by
   by_cases e':i=j
   ·subst e'
    exact .inr ⟨hal,o,d,e,z,ho,hd,hop,hz,by simp only[upd,if_true,Mem.set_same],by simp only[upd,if_true];rw[hd,qBy hdlt]⟩
   ·cases hl:(listed.setIfInBounds i true).getD j true with
    | false=>exact .inl rfl
    | true =>
     obtain⟨g1,g2⟩:=horph j hj (fun e=>e' e.symm) hl
     obtain⟨o',d',e'',z',k1,k2,k3,k4,k5,k6⟩:=g2.put hok ho e' (.pointer (some ⟨w.heap.size,0,none⟩))
     have hje:¬j=i:=fun e=>e' e.symm
     refine .inr ⟨g1,o',d',e'',z',k1,k2,k3,k4,?_,?_⟩
     ·simp only[upd,if_neg hje]
      grind [Mem.set_ne,Nat.ne_of_lt]
     grind [upd]
  boi:=fun x hx y hy hlx hly hxy=>by
   by_cases ex:x=i <;> by_cases ey:y=i
   ·rw[ex,ey]
   ·subst ex
    obtain⟨_,_,_,_,_,_,_,_,_,k5,_⟩:=horph y hy ey hly
    grind [upd]
   ·subst ey
    obtain⟨_,_,_,_,_,_,_,_,_,k5,_⟩:=horph x hx ex hlx
    grind [upd,ex]
   ·simp only[upd,if_neg ex,if_neg ey]at hxy
    rw[qAU (fun e=>ex e.symm)]at hlx
    rw[qAU (fun e=>ey e.symm)]at hly
    exact h.boi x hx y hy hlx hly hxy
  fsize:=by rw[qCv];exact h.fsize
  fdef:=by rw[qBh];exact h.fdef
  fill:=fun s hs=>by
   rw[qBn (hs i o (.inr ⟨hi,set_same hlt _⟩) ho)]
   refine h.fill s fun j o' hj ho'=>?_
   rcases hj with hj|⟨hj,hl⟩
   ·grind
   ·refine hs j o' (.inr ⟨hj,?_⟩) ho'
    by_cases e':i=j
    ·simp_all
    simp_all
  goes:=⟨n0,β,ρ,V,hp,hr.orphan _,hD⟩ }
theorem Inv.lock{c:Bool}{ms:List Nat}(hok:qFv P all ms){r:Nat}{tl:List Nat}(h:Inv c P R V0 w0 L ρ0 fs H all ms k (r::tl) fl st listed a w as pend O bo){o:Oper}(ho:all[r]?=some o)(hrl:listed.getD r true=false)
  (hds:∀d,o.dst=some d->d<a.tmps.size) (hre:∀e∈o.after,Region.binds .any e=true->listed.getD e.on false=true) {v:Value} {w':World} {st':St} {fl':List (Nat×Bool)} {n:Nat}
  (hp:∀j∈pend,∃b,(j,b)∈fl'/\qGH P all j b (as.put o.dst v) w') (hG:qCE P R O V0 w0 H.N L ρ0 (as.put o.dst v).tmps w' st' (qCZ P fs H all ms true n tl fl' st' k)) :
  Inv true P R V0 w0 L ρ0 fs H all ms k tl fl' st' (listed.setIfInBounds r true) (a.put o.dst v) w' (as.put o.dst v) pend O bo:=by
 obtain⟨hnr,hnd⟩:=List.nodup_cons.1 h.nd
 obtain⟨_,_,hc3⟩:=qDP h.chain
 have hlt:r<listed.size:=by grind
 exact
 {lsize:=by rw[Array.size_setIfInBounds];exact h.lsize
  closed:=qHi h.lsize h.closed ho hre
  chain:=hc3,nd:=hnd,bound:=fun j hj=>h.bound j (List.mem_cons_of_mem _ hj)
  unl:=fun j hj hl=>by
   by_cases e:r=j
   ·simp_all
   ·rw[qAU e]at hl
    rcases h.unl j hj hl with h1|h1
    ·exact .inl h1
    grind
  pu:=fun j hj=>by
   obtain⟨g1,g2,g3,g4,_⟩:=h.pu j hj
   have hne:r≠j:=fun e=>g3 (e ▸ List.mem_cons_self)
   simp_all
  ru:=fun j hj=>by
   have hne:r≠j:=qHu hnr hj
   rw[qAU hne]
   exact(h.ru j (List.mem_cons_of_mem _ hj)).imp id fun⟨g1,g2⟩=>⟨g1,g2.put hok ho hne _⟩
  boi:=fun x hx y hy hlx hly=>by
   rw[qAU (qHu hnr hx)]at hlx
   rw[qAU (qHu hnr hy)]at hly
   exact h.boi x (List.mem_cons_of_mem _ hx) y (List.mem_cons_of_mem _ hy) hlx hly
  fsize:=by rw[qCv,qCv];exact h.fsize
  fdef:=by rw[qBh,qBh];exact h.fdef
  fill:=fun s hs=>by
   by_cases e:o.dst=some s
   ·have h1:=hds s e
    rw[e,qBy h1,qBy (by rw[h.fsize];exact h1)]
   ·rw[qBn e,qBn e]
    refine h.fill s fun j o' hj ho'=>?_
    rcases hj with hj|⟨hj,hl⟩
    ·grind
    ·rcases List.mem_cons.1 hj with rfl|hj
     ·simp_all
     ·have hne:r≠j:=fun e'=>by simp_all
      exact hs j o' (.inr ⟨hj,by simp_all⟩) ho'
  goes:=⟨n,hG⟩ }
theorem Inv.reorder{ms:List Nat}(h:Inv true P R V0 w0 L ρ0 fs H all ms k rest fl st listed a w as pend O bo){rest':List Nat}(hs:qIz rest' rest=true)(hc:qDA all ms rest'=true){n:Nat}
  (hG:qCE P R O V0 w0 H.N L ρ0 as.tmps w st (qCZ P fs H all ms false n rest' fl st k)):Inv false P R V0 w0 L ρ0 fs H all ms k rest' fl st listed a w as pend O bo:=by
 obtain⟨h1,h2,h3⟩:=sameSet_spec hs
 have h4:∀x∈rest,x∈rest':=fun x hx=>by
  by_cases hm:x∈rest'
  ·exact hm
  ·exfalso
   have hle:(x::rest').length<=rest.length:=nodup_sub (List.nodup_cons.2 ⟨hm,h2⟩) fun y hy=>by
    grind
   grind
 exact
 {lsize:=h.lsize,closed:=h.closed,chain:=hc,nd:=h2,bound:=fun j hj=>h.bound j (h3 j hj),unl:=fun j hj hl=>(h.unl j hj hl).imp id (h4 j)
  pu:=fun j hj=>by
   obtain⟨g1,g2,g3,g4,g5⟩:=h.pu j hj
   grind
  ru:=fun j hj=>h.ru j (h3 j hj),boi:=fun i hi j hj=>h.boi i (h3 i hi) j (h3 j hj),fsize:=h.fsize,fdef:=h.fdef
  fill:=fun s hs=>h.fill s fun j o hj=>hs j o (hj.imp id fun x=>⟨h4 j x.1,x.2⟩),goes:=⟨n,hG⟩ }
end
section
variable{P:Program}{R:Ending->Mem->Prop}{V0:Mem}{w0:World}{L:List (List Value->Mem->Prop)}{ρ0:List Value}{fs:List Nat}{H:qHl}
variable{all:Array Oper}{k:St->Tr}{Q:Exit->Act->World->Prop}
theorem nodup_le:∀(n:Nat) (l:List Nat),l.Nodup->(∀x∈l,x<n)->l.length<=n
 | 0,l,_,h=>by
  cases l with
  | nil=>exact Nat.le_refl _
  | cons x l=>exact absurd (h x List.mem_cons_self) (Nat.not_lt_zero _)
 | n+1,l,hn,h=>by
  by_cases hm:n∈l
  ·have h1:=nodup_le n (l.erase n) (hn.erase n) fun x hx=>by
    obtain⟨h2,h3⟩:=hn.mem_erase_iff.1 hx
    have:=h x h3;omega
   rw[List.length_erase_of_mem hm]at h1
   omega
  ·have h1:=nodup_le n l hn fun x hx=>by
    have:=h x hx
    have hne:x≠n:=fun e=>hm (e ▸ hx)
    omega
   omega
theorem nodup_all{l:List Nat}{n:Nat}(hn:l.Nodup)(h:∀x∈l,x<n)(hl:l.length=n){j:Nat}(hj:j<n):j∈l:=by
 by_cases hm:j∈l
 ·exact hm
 ·have:=nodup_le n (j::l) (List.nodup_cons.2 ⟨hm,hn⟩) fun x hx=>by
   grind
  grind
theorem qLc{listed:Array Bool}(he:qLD all)(hc:qJx all listed){i:Nat}{o:Oper}(ho:all[i]?=some o)(hre:∀e∈o.after,Region.binds .any e=true->listed.getD e.on false=true) :
  ∀j,(qBF (qAO all.toList []) i).testBit j=true->listed.getD j false=true:=mask_listed he hc i o ho hre
theorem any_sound(hcalls:qCb P fs)(hok:qFv P all (qAO all.toList []))(hdst:∀(i:Nat) (o:Oper),all[i]?=some o->qFo H.N o.dst=true){a0:Act}(hQ:qJL R V0 w0 a0.defers Q)(hlo:LetsOut (fun(_:Exit) (_:Act) (_:World)=>False)->LetsOut Q)
  (hk:∀st' a' w',a'.defers=a0.defers->qCE P R noO V0 w0 H.N L ρ0 a'.tmps w' st' (k st')->Q .normal a' w') :
  ∀(fuel:Nat) (rem:List Nat) (rest:List Nat) (fl:List (Nat×Bool)) (st:St) (listed:Array Bool) (a:Act) (w:World) (as:Act) (pend:List Nat) (O:Mem) (bo:Nat->Nat),
   Inv true P R V0 w0 L ρ0 fs H all (qAO all.toList []) k rest fl st listed a w as pend O bo->as.defers=a0.defers->rem.Nodup->rem.length=fuel->(∀j,j∈rem↔(j<all.size/\listed.getD j true=false)) ->
   wpAny P .any all Q fuel listed a w:=by
 intro fuel
 induction fuel with
 | zero =>
  intro rem rest fl st listed a w as pend O bo h hdef hnd hlen hrem
  have hnil:rem=[]:=List.length_eq_zero_iff.1 hlen
  subst hnil
  obtain⟨rest',fl',st',as',pend',O',h',hhead⟩:=h.advance hok
  have hnone:∀j,j<all.size->listed.getD j true=false->False:=fun j h1 h2=>by simp_all
  have hr:rest'=[]:=by
   cases rest' with
   | nil=>rfl
   | cons r tl=>exact(hnone r (h'.bound r List.mem_cons_self) (hhead r tl rfl).2).elim
  subst hr
  have hp:pend'=[]:=by
   cases pend' with
   | nil=>rfl
   | cons j tl =>
    obtain⟨g1,_,_,_,b,_,o,d,g2,_⟩:=h'.pu j List.mem_cons_self
    grind
  subst hp
  refine⟨?_,?_⟩
  ·cases hrd:Region.ready .any all listed with
   | nil=>rfl
   | cons i tl =>
    obtain⟨g1,g2,_⟩:=ready_mem (all:=all) (listed:=listed) (i:=i) (by simp_all)
    simp_all
  ·have htm:as'.tmps=a.tmps:=by
    refine Array.ext h'.fsize fun i h1 h2=>?_
    have:=h'.fill i fun j o hj=>by simp_all
    simp_all
   obtain⟨n0,β,ρ,V,hp,hr,hD⟩:=h'.goes
   have hD:D P R (k (st'.compact H.keep)) L ρ V:=by cases n0 <;> exact hD
   refine hk (st'.compact H.keep) a w (by rw[<- h.fdef];exact hdef) ⟨β,ρ,V,hp.compact _,?_,hD⟩
   rw[<- htm]
   exact(hr.compact _).less fun b o hb=>by cases hb
 | succ fuel ih =>
  intro rem rest0 fl0 st0 listed a w as0 pend0 O0 bo h0 hdef0 hnd hlen hrem
  obtain⟨rest,fl,st,as,pend,O,h,hhead⟩:=h0.advance hok
  have hdef:as.defers=a0.defers:=by rw[h.fdef,<- h0.fdef];exact hdef0
  have next:∀{i:Nat} {rest:List Nat} {fl:List (Nat×Bool)} {st:St} {a:Act} {w:World} {as:Act} {pend:List Nat} {O:Mem} {bo:Nat->Nat},i<all.size->listed.getD i true=false ->
    Inv true P R V0 w0 L ρ0 fs H all (qAO all.toList []) k rest fl st (listed.setIfInBounds i true) a w as pend O bo->as.defers=a0.defers->wpAny P .any all Q fuel (listed.setIfInBounds i true) a w:=by
   intro i rest fl st a w as pend O bo hi hil hI hd
   have him:i∈rem:=(hrem i).2 ⟨hi,hil⟩
   refine ih (rem.erase i) rest fl st _ a w as pend O bo hI hd (hnd.erase i) (by simp_all) fun j=>?_
   rw[hnd.mem_erase_iff,hrem j]
   by_cases e:i=j
   ·simp_all
   ·rw[qAU e]
    grind
  refine⟨fun hn=>?_,fun i hi=>?_⟩
  ·obtain⟨j,hj⟩:∃j,j∈rem:=by
    cases rem with
    | nil=>cases hlen
    | cons j _=>grind
   obtain⟨h1,h2⟩:=(hrem j).1 hj
   exact absurd hn (ready_ne hok.edges h.lsize j h1 h2)
  ·obtain⟨hilt,hil,o,ho,hre⟩:=ready_mem hi
   have hmask:=qLc hok.edges h.closed ho hre
   have hsize:as.tmps.size=H.N:=by obtain⟨_,β,ρ,V,_,hr,_⟩:=h.goes;exact hr.size
   have hds:∀d,o.dst=some d->d<a.tmps.size:=fun d hd=>by
    rw[<- h.fsize,hsize]
    exact qGz (hdst i o ho) hd
   unfold wpOp
   simp only[ho]
   by_cases hip:i∈pend
   ·-- it floats and stands out
    obtain⟨g1,g2,g3,g4,b,g5,o',d,k1,k2,k3,k4,k5,k6⟩:=h.pu i hip
    rw[ho]at k1;cases k1
    obtain⟨e1,e2⟩:=qJU hok.sel ho (qKm hok h ho hmask fun j hj _=>g4 j hj)
    rw[e2,k4]
    have hI:=h.carry hok hip ho k2 (hds d k2) hre
    cases b with
    | true =>
     rw[if_pos rfl]
     refine .inl ?_
     unfold Oper.wp
     rw[e1,k5 rfl w (Ext.refl w)]
     exact next hilt hil hI hdef
    | false =>
     grind
   ·have hir:i∈rest:=(h.unl i hilt hil).resolve_left hip
    by_cases hal:qBD all i=true
    ·-- a block is made
     have hal':=hal
     unfold qBD at hal'
     rw[ho]at hal'
     simp only[Bool.and_eq_true]at hal'
     obtain⟨⟨⟨q1,q2⟩,q3⟩,q4⟩:=hal'
     obtain⟨d,hd⟩:=Option.isSome_iff_exists.1 q4
     cases hop:o.op with
     | alloc e =>
      obtain⟨cs,hcs⟩:=Option.isSome_iff_exists.1 (hok.allocs i o e ho hop)
      obtain⟨z,hz,hzc⟩:=qDh (ρ:=[]) (β:=id) hcs
      have hI:=h.make hok hir hip ho hd (hds d hd) hal hop hz hre
      have hg:o.guard=none:=by simpa using q2
      rw[show Region.wanted o (yielded all a.tmps)=true by simp[Region.wanted,hg],if_pos rfl]
      refine .inl ?_
      have hrun:(execOp a.eval o).run P w=.ok (.value (.pointer (some ⟨w.heap.size,0,none⟩))) (w.alloc (.cells z.cells e (0,0))):=by
       unfold execOp
       simp only[hop,Instr.alloc,qGR hz,newVar,newRow,Sem.run_bind,run_newObj,Sem.run_pure,Result.andThen_ok]
       rfl
      unfold Oper.wp
      rw[hrun]
      exact next hilt hil hI hdef
     | _=>simp[hop]at q1
    ·-- both go on
     -- i is the next one
     have go:∀{c:Bool} {tl:List Nat} {fl:List (Nat×Bool)} {st:St} {as:Act} {pend:List Nat} {O:Mem} {bo:Nat->Nat},Inv c P R V0 w0 L ρ0 fs H all (qAO all.toList []) k (i::tl) fl st listed a w as pend O bo->i ∉ pend->as.defers=a0.defers->qBb all i=false ->
       (if Region.wanted o (yielded all a.tmps) then o.wp P a w (wpAny P .any all Q fuel (listed.setIfInBounds i true)) Q∨(o.asks P a w/\LetsOut Q) else wpAny P .any all Q fuel (listed.setIfInBounds i true) (a.put o.dst undef) w):=by
      clear h hdef hsize hip hir hhead
      intro c tl fl st as pend O bo h hip hdef hrf
      obtain⟨_,hc2,hc3⟩:=qDP h.chain
      have hnotin:∀j∈pend,(qBF (qAO all.toList []) i).testBit j=false:=fun j hj=>by
       cases hb:(qBF (qAO all.toList []) i).testBit j with
       | false=>rfl
       | true =>
        have:=hmask j hb
        rw[getD_any (h.pu j hj).1]at this;cases this
      obtain⟨e1,e2⟩:=qJU hok.sel ho (qKm hok h ho hmask fun j hj hne=>by
       simp_all)
      rw[e2]
      obtain⟨n0,hg0⟩:=h.goes
      obtain⟨m,hg,_⟩:=qGA ho hg0
      have hneq:∀j∈pend,∀oj,all[j]?=some oj->∀d',o.dst=some d'->oj.dst≠some d':=fun j hj oj hoj d' hd' e=>by
       have:=hok.dsts j i oj o d' hoj ho e hd'
       simp_all
      rcases qHC hg with⟨hw,st',hy⟩|⟨hw,st',hn⟩
      ·rw[hw,if_pos rfl]
       refine .inl ?_
       unfold qJo at hy
       rw[if_neg (by rw[hrf];simp),if_neg hal]at hy
       have hy':qFP all (qCJ (qAO all.toList []) i fl) o.dst=true/\qCE P R O V0 w0 H.N L ρ0 as.tmps w st' (exOp P fs H st' o fun st=>qFB P all (qCJ (qAO all.toList []) i fl) st (qCZ P fs H all (qAO all.toList []) true m tl (qCJ (qAO all.toList []) i fl) st k)):=by
        split at hy
        ·simp_all
        ·obtain⟨β,ρ,V,_,_,hD⟩:=hy;exact hD.elim
       obtain⟨hap,hy2⟩:=hy'
       refine wp_transfer e1 (fun d hd=>by rw[h.fsize];exact hds d hd) ?_ hlo
       refine qKn hcalls (fun ch a' w' _ hR=>hQ ch a w' (by rw[<- h.fdef];exact hdef) hR) hy2 fun st2 as2 w2 ⟨v,hv⟩ hG=>⟨v,hv,?_⟩
       subst hv
       obtain⟨β,ρ,V,hp2,hr2,hD2⟩:=hG
       obtain⟨hD3,hrec⟩:=qCL hr2 hD2
       refine next hilt hil (h.lock hok ho hil hds hre (fun j hj=>?_) ⟨β,ρ,V,hp2,hr2,hD3⟩) (by rw[qBh];exact hdef)
       obtain⟨_,_,_,_,b,g5,oj,d,k1,k2,k3,k4,k5,k6⟩:=h.pu j hj
       have hst:(j,b)∈qCJ (qAO all.toList []) i fl:=List.mem_filter.2 ⟨g5,by simp_all⟩
       refine⟨b,hst,oj,d,k1,k2,by rw[qCv];exact k3,?_,fun hb w' ew=>?_,fun hb=>?_⟩
       ·grind [wanted_put,qDp]
       ·grind
       grind [qBn]
      ·rw[hw,if_neg (by simp)]
       unfold drawNo at hn
       obtain⟨β,ρ,V,hp,hr,hD⟩:=hn
       split at hD
       case isFalse=>exact hD.elim
       rename_i hc
       simp only[Bool.and_eq_true]at hc
       rw[hrf]at hD
       simp only[Bool.false_eq_true,if_false]at hD
       refine next hilt hil (h.lock hok ho hil hds hre (v:=undef) (fun j hj=>?_) ⟨β,ρ,V,hp.putO _ _,hr.putO hc.1 .und rfl,hD⟩) (by rw[qBh];exact hdef)
       obtain⟨_,_,_,_,b,g5,g6⟩:=h.pu j hj
       have hst:(j,b)∈qCJ (qAO all.toList []) i fl:=List.mem_filter.2 ⟨g5,by simp_all⟩
       exact⟨b,hst,g6.put hok.sel fun oj hoj d' hd'=>⟨qDp hc.2 g5 oj hoj d' hd',hneq j hj oj hoj d' hd'⟩⟩
     cases rest with
     | nil=>cases hir
     | cons r tl =>
      obtain⟨hrf,hrl⟩:=hhead r tl rfl
      rcases List.mem_cons.1 hir with e|e
      ·grind
      ·obtain⟨hc1,hc2,hc3⟩:=qDP h.chain
       have hnr:(qBF (qAO all.toList []) i).testBit r=false:=by
        grind
       rcases hc1 with hc1|hc1
       ·simp_all
       ·rcases hc1 i e with ((q|q) | ⟨hif,hall⟩) | ⟨q,q1,q2,q3⟩
        ·simp_all
        ·grind
        ·obtain⟨or',hor⟩:∃or',all[r]?=some or':=⟨_,Array.getElem?_eq_getElem (h.bound r List.mem_cons_self)⟩
         obtain⟨n0,hg0⟩:=h.goes
         obtain⟨m,_,hfork⟩:=qGA hor hg0
         have hmem:i∈altsOf all (qAO all.toList []) r tl:=by
          grind [altsOf]
         obtain⟨l,f1,f2,f3⟩:=hfork rfl i hmem
         exact go (h.reorder f1 f2 f3) hip hdef hif
        ·exfalso
         have hql:=hmask q q2
         rcases h.ru q (List.mem_cons_of_mem _ q1) with g|⟨g,_⟩
         ·grind
         simp_all
theorem Rel.drawn{O V0:Mem}{w0:World}{N:Nat}{β:Nat->Nat}{st:St}{ρ:List Value}{V:Mem}{w:World}{tmps:Array Value}(h:Rel O V0 w0 N β st ρ V tmps w)(n:Nat):Rel O V0 w0 N β st ρ V tmps { w with drawn:=n } :=
 h.ext ⟨fun _ _ h=>h,Nat.le_refl _,rfl,rfl⟩
theorem qGV(hcalls:qCb P fs)(hm:P.follows .mixedOrders=true){id:Nat}{st:St}{a:Act}{w:World}(hQ:qJL R V0 w0 a.defers Q)(h:qCE P R noO V0 w0 H.N L ρ0 a.tmps w st (qCB P fs H all st k))
  (hlo:LetsOut (fun(_:Exit) (_:Act) (_:World)=>False)->LetsOut Q)
  (hk:∀st' a' w',a'.defers=a.defers->qCE P R noO V0 w0 H.N L ρ0 a'.tmps w' st' (k st')->Q .normal a' w'):(Code.region id all true).wp P Q a w:=by
 unfold qCB at h
 simp only at h
 obtain⟨β,ρ,V,hp,hr,hD⟩:=h
 split at hD
 case isFalse=>exact hD.elim
 rename_i hc
 simp only[Bool.and_eq_true,List.all_eq_true]at hc
 obtain⟨hc1,hc2⟩:=hc
 obtain⟨hok,h2,h3,h4,h5⟩:=qJp hc1
 have hrep:∀j d,j<all.size->(Array.replicate all.size false).getD j d=false:=fun j d hj=>by simp_all
 refine wp_region_any hm (any_sound hcalls hok (fun i o ho=>hc2 o (by grind)) hQ hlo hk all.size (List.range all.size) (qGZ all (qAO all.toList []) all.size 0) [] st _ a _ a [] noO (fun x=>x) ?_ rfl List.nodup_range (by simp) fun j=>?_)
 ·exact
  {lsize:=by simp
   closed:=fun j oj hj hl=>by
    rw[hrep j _ (Array.getElem?_eq_some_iff.1 hj).1]at hl;cases hl
   chain:=h5
   nd:=h3
   bound:=h4
   unl:=fun j hj _=>.inr (nodup_all h3 h4 h2 hj)
   pu:=fun j hj=>by cases hj
   ru:=fun j hj=>.inl (hrep j _ (h4 j hj))
   boi:=fun i hi j hj hl=>by omega
   fsize:=rfl
   fdef:=rfl
   fill:=fun s _=>rfl
   goes:=⟨_,β,ρ,V,hp,hr.drawn _,hD⟩ }
 simp_all
end
def Ex.toExit:Ex->Exit
 | .normal=>.normal
 | .exit i=>.exit i
 | .ret=>.ret
theorem qHe(p:Nat->Prop)(h:∃n,p n):∃n,p n/\∀m,p m->n<=m:=by
 obtain⟨n,hn⟩:=h
 induction n using Nat.strongRecOn with
 | _ n ih =>
  grind
open Classical in
theorem wp_loop_rel{P:Program}{c:Code}{Q:Exit->Act->World->Prop}{a:Act}{w:World}(Inv:Nat->Act->World->Prop)(h0:∃n,Inv n a w)
  (round:∀n a w,Inv n a w->c.wp P (Exit.then (fun a' w'=>∃n',n'<n/\Inv n' a' w') Q) a w):(Code.loop c).wp P Q a w:=by
 let m:Act->World->Nat:=fun a w=>if h:∃n,Inv n a w then Classical.choose (qHe _ h) else 0
 have hm:∀a w (h:∃n,Inv n a w),Inv (m a w) a w/\∀k,Inv k a w->m a w<=k:=fun a w h=>by
  grind
 refine wp_loop (fun a w=>∃n,Inv n a w) m h0 fun a w hI=>?_
 obtain⟨h1,h2⟩:=hm a w hI
 refine Code.wp_mono (fun e a' w' q=>?_) (round _ a w h1)
 grind
section
variable{P:Program}{R:Ending->Mem->Prop}{O V0:Mem}{w0:World}{fs:List Nat}{H:qHl}
theorem qCE.weak{L:List (List Value->Mem->Prop)}{ρ0 ρ1:List Value}{N:Nat}{tmps:Array Value}{w:World}{st:St}{t:Tr}(h:qCE P R O V0 w0 N L ρ1 tmps w st t)(hp:ρ0 <+: ρ1):qCE P R O V0 w0 N L ρ0 tmps w st t:=by
 obtain⟨β,ρ,V,hpre,hr,hD⟩:=h
 exact⟨β,ρ,V,⟨hp.trans hpre.1,hpre.2⟩,hr,hD⟩
theorem ex_sound(hcalls:qCb P fs)(hm:P.follows .mixedOrders=true):∀(c:Code) (L:List (List Value->Mem->Prop)) (ρ0:List Value) (st:St) (k:Ex->St->Tr) (a:Act) (w:World) (Q:Exit->Act->World->Prop),
  qJL R V0 w0 a.defers Q->qCE P R noO V0 w0 H.N L ρ0 a.tmps w st (ex P fs H c st k) ->
  (∀e st' a' w' L',L <+: L'->a'.defers=a.defers->qCE P R noO V0 w0 H.N L' ρ0 a'.tmps w' st' (k e st')->Q e.toExit a' w')->c.wp P Q a w:=by
 intro c
 induction c with
 | skip=>intro L ρ0 st k a w Q hQ h hk;exact wp_skip (hk .normal st a w L (List.prefix_refl _) rfl h)
 | ret=>intro L ρ0 st k a w Q hQ h hk;exact wp_ret (hk .ret st a w L (List.prefix_refl _) rfl h)
 | exit id=>intro L ρ0 st k a w Q hQ h hk;exact wp_exit (hk (.exit id) st a w L (List.prefix_refl _) rfl h)
 | seq x y ihx ihy =>
  intro L ρ0 st k a w Q hQ h hk
  refine wp_seq (ihx L ρ0 st _ a w _ hQ h fun e st' a' w' L' hL hd hg=>?_)
  cases e with
  | normal=>exact ihy L' ρ0 st' k a' w' Q (by grind) hg fun e st'' a'' w'' L'' hL' hd' hg'=>hk e st'' a'' w'' L'' (hL.trans hL') (hd'.trans hd) hg'
  | exit i=>exact hk (.exit i) st' a' w' L' hL hd hg
  | ret=>exact hk .ret st' a' w' L' hL hd hg
 | block id b ih =>
  intro L ρ0 st k a w Q hQ h hk
  refine wp_block (ih L ρ0 st _ a w _ hQ h fun e st' a' w' L' hL hd hg=>?_)
  cases e with
  | normal=>exact hk .normal st' a' w' L' hL hd hg
  | exit i =>
   simp only at hg
   show (if i=id then Q .normal a' w' else Q (.exit i) a' w')
   split
   ·rename_i e;rw[if_pos e]at hg;exact hk .normal st' a' w' L' hL hd hg
   ·rename_i e;rw[if_neg e]at hg;exact hk (.exit i) st' a' w' L' hL hd hg
  | ret=>exact hk .ret st' a' w' L' hL hd hg
 | cond c x y ihx ihy =>
  intro L ρ0 st k a w Q hQ h hk
  obtain⟨β,ρ,V,hp,hr,hD⟩:=h
  simp only[ex]at hD
  split at hD
  ·rename_i v hv
   have he:a.eval c=.bool v:=qAK hr hv
   cases v with
   | true=>exact wp_cond_true he (ihx L ρ0 st k a w Q hQ ⟨β,ρ,V,hp,hr,hD⟩ hk)
   | false=>exact wp_cond_false he (ihy L ρ0 st k a w Q hQ ⟨β,ρ,V,hp,hr,hD⟩ hk)
  ·rename_i t _ ht
   split at hD
   ·rename_i hc
    obtain⟨hc1,hc2⟩:=hc
    obtain⟨b,hb⟩:=qGs (ρ:=ρ) (β:=β) hc1
    have he:a.eval c=.bool b:=(qAK hr ht).trans hb
    have hfr:=(T.ev_free (β:=id) (β':=β) (ρ:=ρ) t hc2).1
    split at hD
    ·rename_i d
     simp only[D,hfr,hb,asB]at hD
     have hlearn:Rel noO V0 w0 H.N β (st.now d (.bool b)) ρ V a.tmps w:=hr.now (t:=t) ht (by rw[hb];rfl)
     cases b with
     | true=>exact wp_cond_true he (ihx L ρ0 _ k a w Q hQ ⟨β,ρ,V,hp.now _ _,hlearn,hD.1 rfl⟩ hk)
     | false=>exact wp_cond_false he (ihy L ρ0 _ k a w Q hQ ⟨β,ρ,V,hp.now _ _,hlearn,hD.2 rfl⟩ hk)
    ·simp only[D,hfr,hb,asB]at hD
     cases b with
     | true=>exact wp_cond_true he (ihx L ρ0 _ k a w Q hQ ⟨β,ρ,V,hp,hr,hD.1 rfl⟩ hk)
     | false=>exact wp_cond_false he (ihy L ρ0 _ k a w Q hQ ⟨β,ρ,V,hp,hr,hD.2 rfl⟩ hk)
   ·exact hD.elim
  ·exact hD.elim
 | region id ops draw =>
  intro L ρ0 st k a w Q hQ h hk
  cases draw with
  | true=>exact qGV hcalls hm hQ h (fun⟨_,_,h⟩=>h.elim) fun st' a' w' hd hg=>hk .normal st' a' w' L (List.prefix_refl _) hd hg
  | false =>
   refine wp_region_list (qCY hcalls ops.toList st a w hQ h fun st' a' w' hd hg=>hk .normal st' a' w' L (List.prefix_refl _) hd hg)
 | loop b ih =>
  intro L ρ0 st k a w Q hQ h hk
  obtain⟨β,ρ,V,hp,hr,hD⟩:=h
  simp only[ex,exLoop]at hD
  generalize dedup (qHm b)=ws at hD
  generalize (((qBM b).bind fun i=>H.loops.lookup i).getD [])=hint at hD
  obtain⟨st',t,hg,hfree,β',ρ',V',hp',hr',hD'⟩:=qAW _ _ _ _ ⟨β,ρ,V,hp,hr,hD⟩
  split at hD'
  case isFalse=>exact hD'.elim
  rename_i hw
  split at hD'
  ·exact hD'.elim
  ·rename_i st1 bs hgb
   split at hD'
   ·exact hD'.elim
   ·rename_i init hinit
    split at hD'
    case isFalse=>exact hD'.elim
    rename_i hok
    simp only[D]at hD'
    obtain⟨I,μ,hI,hround⟩:=hD'
    obtain⟨hrh,hsh⟩:=qIb hw hr'.nv (List.prefix_refl _) hgb hinit hok hr'
    let Inv:Nat->Act->World->Prop:=fun n a' w'=>∃β xs V',Shaped (bs.flatMap (·.2.2)++(qAE ws st1).2.flatMap (·.2.2)) xs/\I xs V'/\μ xs V'=n /\
     Rel noO V0 w0 H.N β { (qAE ws st1).1 with depth:=st'.depth+1 } (ρ'++xs) V' a'.tmps w'/\a'.defers=a.defers
    refine wp_loop_rel Inv ⟨_,β',init.evs ρ' id,V',hsh,hI,rfl,hrh,rfl⟩ ?_
    rintro n a1 w1 ⟨β1,xs,V1,hsh1,hI1,rfl,hr1,hd1⟩
    have hDb:=hround xs V1 hsh1 hI1
    refine ih (L++[fun ys V''=>I ys V''/\μ ys V''<μ xs V1]) ρ' _ _ a1 w1 _ (by rw[hd1];exact hQ) ⟨β1,ρ'++xs,V1,⟨List.prefix_append _ _,?_⟩,hr1,hDb⟩ ?_
    ·simp[hp'.2]
    ·intro e st2 a2 w2 L2 hL2 hd2 hg2
     cases e with
     | normal =>
      obtain⟨β2,ρ2,V2,hp2,hr2,hD2⟩:=hg2
      simp only at hD2
      split at hD2
      ·rename_i vs hvs
       split at hD2
       ·rename_i hok2
        simp only[D]at hD2
        obtain⟨J,hJ,hJ2⟩:=hD2
        have hlvl:L2[st'.depth]?=some (fun ys V''=>I ys V''/\μ ys V''<μ xs V1):=by
         obtain⟨σ,rfl⟩:=hL2
         rw[<- hp'.2,List.getElem?_append_left (by simp),List.getElem?_append_right (Nat.le_refl _)]
         simp
        rw[hlvl]at hJ
        simp only[Option.some.injEq]at hJ
        subst hJ
        obtain⟨hrh2,hsh2⟩:=qIb hw hr'.nv hp2.1 hgb hvs hok2 hr2
        exact⟨_,hJ2.2,β2,vs.evs ρ2 id,V2,hsh2,hJ2.1,rfl,hrh2,hd2.trans hd1⟩
       ·exact hD2.elim
      ·exact hD2.elim
     | exit i=>exact hk (.exit i) st2 a2 w2 L2 ((List.prefix_append _ _).trans hL2) (hd2.trans hd1) (hg2.weak hp'.1)
     | ret=>exact hk .ret st2 a2 w2 L2 ((List.prefix_append _ _).trans hL2) (hd2.trans hd1) (hg2.weak hp'.1)
 | rangeFunc _ _ _ _ _ _=>intro L ρ0 st k a w Q hQ h hk;obtain⟨β,ρ,V,hp,hr,hD⟩:=h;exact hD.elim
 | scope _ _=>intro L ρ0 st k a w Q hQ h hk;obtain⟨β,ρ,V,hp,hr,hD⟩:=h;exact hD.elim
 | label _=>intro L ρ0 st k a w Q hQ h hk;obtain⟨β,ρ,V,hp,hr,hD⟩:=h;exact hD.elim
 | goto _=>intro L ρ0 st k a w Q hQ h hk;obtain⟨β,ρ,V,hp,hr,hD⟩:=h;exact hD.elim
 | refuse _=>intro L ρ0 st k a w Q hQ h hk;obtain⟨β,ρ,V,hp,hr,hD⟩:=h;exact hD.elim
end
end Go.Sx
