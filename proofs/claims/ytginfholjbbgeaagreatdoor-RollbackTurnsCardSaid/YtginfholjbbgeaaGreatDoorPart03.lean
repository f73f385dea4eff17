/- Part 3 of a proof of a law of this seat: no statement of the seat is proved here. -/
import Derived.Test.YtginfholjbbgeaaGreatDoorPart02
import Derived.Orders
set_option linter.unusedVariables false
set_option linter.unusedSimpArgs false
namespace Go.Sx
open Go
section
variable{P:Program}{R:Ending->Mem->Prop}{O V0:Mem}{w0:World}{N:Nat}{L:List (List Value->Mem->Prop)}{ρ0:List Value}{fs:List Nat}{H:qGl}
theorem qJH{a:Act}{w:World}{st:St}{o:Oper}{x:Operand}{next:Act->World->Prop}{Q:Exit->Act->World->Prop}(hQ:qIg R V0 w0 a.defers Q)(hop:o.op=.panic x)
  (h:qCo P R O V0 w0 N L ρ0 a.tmps w st (exPanic st x)):o.wp P a w next Q:=by
 obtain⟨st2,t,hg,hfree,β,ρ,V,hp,hr,hD⟩:=qAL _ _ _ _ h
 simp only[D]at hD
 obtain⟨ty,v,he,hR⟩:=hD
 rw[(T.ev_free (β:=id) (β':=β) (ρ:=ρ) t hfree).1]at he
 have e1:a.eval x=.iface ty v:=(qAD hr hg).trans he
 have hrun:(execOp a.eval o).run P w=.halt (.panic (.iface ty v)) w:=by
  unfold execOp
  simp only[hop,e1]
  rfl
 unfold Oper.wp
 rw[hrun]
 exact hQ _ a w rfl ⟨V,hR,hr.frm⟩
theorem qIK(hcalls:qBJ P fs){a:Act}{w:World}{st:St}{o:Oper}{k:St->Tr}{next:Act->World->Prop}{Q:Exit->Act->World->Prop}(hQ:qIg R V0 w0 a.defers Q)
  (h:qCo P R O V0 w0 H.N L ρ0 a.tmps w st (exOp P fs H st o k))
  (hk:∀st' a' w',(∃v,a'=a.put o.dst v)->qCo P R O V0 w0 H.N L ρ0 a'.tmps w' st' (k st')->next a' w'):o.wp P a w next Q:=by
 obtain⟨β,ρ,V,hp,hr,hD⟩:=h
 unfold exOp at hD
 split at hD
 case isFalse=>exact hD.elim
 rename_i hd
 split at hD
 ·rename_i ns t hpu
  obtain⟨h1,h2⟩:=qEP hD β
  exact qGL (qHo hr hpu h1) (hk _ _ _ ⟨_,rfl⟩ ⟨β,ρ,V,hp.putO _ _,hr.putO hd t rfl,h2⟩)
 ·split at hD
  ·rename_i e x hop
   split at hD
   ·rename_i v hx
    split at hD
    ·rename_i hks
     have hcells:=qFG (ρ:=ρ) (β:=β) hks
     refine qDE (x:=fun b=>.pointer (some ⟨b,0,none⟩)) hd hp hr hD ?_ (fun _=>rfl) hk
     unfold execOp
     simp only[hop,Instr.box,newVar,newRow,Sem.run_bind,run_newObj,Sem.run_pure,Result.andThen_ok,qAD hr hx,<- hcells,Array.toArray_toList]
     rfl
    ·exact hD.elim
   ·exact hD.elim
  ·rename_i e hop
   split at hD
   ·rename_i cs hz
    obtain⟨z,h1,h2⟩:=qCQ (ρ:=ρ) (β:=β) hz
    refine qDE (x:=fun b=>.pointer (some ⟨b,0,none⟩)) hd hp hr hD ?_ (fun _=>rfl) hk
    unfold execOp
    simp only[hop,Instr.alloc,qFV h1,newVar,newRow,Sem.run_bind,run_newObj,Sem.run_pure,Result.andThen_ok,qAp,<- h2,Array.toArray_toList]
    rfl
   ·exact hD.elim
  ·rename_i t n parts hop
   split at hD
   ·rename_i e hu
    split at hD
    ·rename_i sz z ps hs hz hpt
     split at hD
     ·rename_i cs hf
      split at hD
      ·rename_i hc
       obtain⟨zv,h1,h2⟩:=qCQ (ρ:=ρ) (β:=β) hz
       have h3:=qJD (ρ:=ρ) (β:=β) hf
       refine qDE (x:=fun b=>.slice (some ⟨b,0,none⟩) n n) hd hp hr hD ?_ (fun β'=>by simp[T.ev,C.ev,asP,asI]) hk
       have hps:(parts.map fun(i,x)=>(i,a.eval x)).toList=ps.map (fun x=>(x.1,x.2.ev ρ β)):=by rw[<- qHr hr hpt,Array.toList_map]
       unfold execOp
       have hsmall:¬n*(sz+1) > 2 ^ 24:=by omega
       have hzl:zv.cells=(z.map (·.ev ρ β)).toArray:=by rw[<- h2,Array.toArray_toList]
       have hrep:(List.replicate n z).flatten.map (·.ev ρ β)=(List.replicate n (z.map (·.ev ρ β))).flatten:=by simp[List.map_flatten]
       rw[hrep]at h3
       have hmod:=mod_cells (z.map (·.ev ρ β)) sz (by simpa using hc.2) n
       by_cases h0:n*(sz+1)=0
       ·obtain rfl:n=0:=by rcases Nat.mul_eq_zero.1 h0 with h|h;exact h;omega
        simp only[List.replicate_zero,List.flatten_nil]at h3
        have e0:Array.range (0*(sz+1))=#[]:=by simp
        simp only[hop,Instr.buildSlice,run_underlying hu,qAW hs,Sem.run_bind,Result.andThen_ok,hps,if_neg hsmall,if_pos h0,Sem.run_pure,e0,Array.map_empty,h3]
        simp[qAp,newRow]
       ·simp only[hop,Instr.buildSlice,run_underlying hu,qAW hs,Sem.run_bind,Result.andThen_ok,hps,if_neg hsmall,if_neg h0,qFV h1,Sem.run_pure,hzl,hmod,h3]
        simp[qAp,newRow]
      ·exact hD.elim
     ·exact hD.elim
    ·exact hD.elim
   ·exact hD.elim
  ·rename_i t x hop
   exact exLoad_sound hop hd ⟨β,ρ,V,hp,hr,hD⟩ hk
  ·rename_i t x y hop
   split at hD
   ·rename_i hdst
    exact qJG hop hdst ⟨β,ρ,V,hp,hr,hD⟩ hk
   ·exact hD.elim
  ·rename_i c hop
   split at hD
   ·rename_i f hcf
    exact exCall_sound hcalls hQ hop hcf hd ⟨β,ρ,V,hp,hr,hD⟩ hk
   ·exact qHL hd ⟨β,ρ,V,hp,hr,hD⟩ hk
   ·exact hD.elim
  ·rename_i x hop
   exact qJH hQ hop ⟨β,ρ,V,hp,hr,hD⟩
  ·exact qHL hd ⟨β,ρ,V,hp,hr,hD⟩ hk
theorem Rel.getD_size{O V0:Mem}{w0:World}{N:Nat}{β:Nat->Nat}{st:St}{ρ:List Value}{V:Mem}{tmps:Array Value}{w:World}(hr:Rel O V0 w0 N β st ρ V tmps w){d:Nat}{t:T}(hd:st.get d=some t) :
  tmps.getD d undef=t.ev ρ β:=hr.slots d t hd
theorem qEj{all:Array Oper}{tmps:Array Value}{j d:Nat}(hj:(all[j]?).bind (·.dst)=some d):yielded all tmps j=match tmps.getD d undef with | .bool b=>some b|_=>none:=by
 unfold yielded
 rw[hj]
 by_cases h:d<tmps.size
 ·simp only[Option.bind_some,Array.getD,h,dif_pos,getElem?_pos]
  show _=match tmps[d]with | .bool b=>some b|_=>none
  generalize tmps[d]=v
  cases v <;> rfl
 ·simp only[Option.bind_some,Array.getD,h,dif_neg,not_false_eq_true]
  rw[getElem?_neg tmps d h]
  rfl
theorem qCM(hcalls:qBJ P fs){all:Array Oper}{k:St->Tr}{Q:Exit->Act->World->Prop}:∀(l:List Oper) (st:St) (a:Act) (w:World),
  qIg R V0 w0 a.defers Q->qCo P R O V0 w0 H.N L ρ0 a.tmps w st (qJI P fs H all l st k) ->
  (∀st' a' w',a'.defers=a.defers->qCo P R O V0 w0 H.N L ρ0 a'.tmps w' st' (k st')->Q .normal a' w')->wpList P all Q l a w
 | [],st,a,w,_,⟨β,ρ,V,hp,hr,hD⟩,hk=>hk _ a w rfl ⟨β,ρ,V,hp.compact _,hr.compact _,hD⟩
 | o::rest,st,a,w,hQ,h,hk=>by
  have yes:∀st,Region.wanted o (yielded all a.tmps)=true->qCo P R O V0 w0 H.N L ρ0 a.tmps w st (exOp P fs H st o fun st=>qJI P fs H all rest st k)->wpList P all Q (o::rest) a w:=by
   intro st hw hg
   unfold wpList
   rw[if_pos hw]
   refine .inl (qIK hcalls hQ hg fun st' a' w' hd0 hg'=>?_)
   have hd':a'.defers=a.defers:=by obtain⟨v,rfl⟩:=hd0;exact qAT _ _ _
   exact qCM hcalls rest st' a' w' (by rw[hd'];exact hQ) hg' fun st'' a'' w'' h1 h2=>hk st'' a'' w'' (h1.trans hd') h2
  have no:∀st,Region.wanted o (yielded all a.tmps)=false->qCo P R O V0 w0 H.N L ρ0 a.tmps w st (if qEC H.N o.dst then qJI P fs H all rest (st.putO o.dst .und) k else .bad 35 0)->wpList P all Q (o::rest) a w:=by
   intro st hw hg
   unfold wpList
   rw[if_neg (by rw[hw];simp)]
   obtain⟨β,ρ,V,hp,hr,hD⟩:=hg
   split at hD
   ·rename_i hd
    refine qCM hcalls rest _ _ w (by rw[qAT];exact hQ) ⟨β,ρ,V,hp.putO _ _,hr.putO hd .und rfl,hD⟩ fun st'' a'' w'' h1 h2=>hk st'' a'' w'' (h1.trans (qAT _ _ _)) h2
   ·exact hD.elim
  simp only[qJI]at h
  split at h
  ·rename_i hg
   exact yes st (by simp[Region.wanted,hg]) h
  ·rename_i j want hg
   split at h
   ·obtain⟨β,ρ,V,hp,hr,hD⟩:=h;exact hD.elim
   ·rename_i d hj
    have hy:=qEj (tmps:=a.tmps) hj
    have hwant:Region.wanted o (yielded all a.tmps)=(yielded all a.tmps j==some want):=by simp[Region.wanted,hg]
    obtain⟨β,ρ,V,hp,hr,hD⟩:=h
    split at hD
    ·rename_i v hv
     rw[hr.getD_size hv]at hy
     simp only[T.ev]at hy
     split at hD
     ·rename_i e;subst e;exact yes st (by rw[hwant,hy];simp) ⟨β,ρ,V,hp,hr,hD⟩
     ·rename_i e;exact no st (by rw[hwant,hy];simpa using e) ⟨β,ρ,V,hp,hr,hD⟩
    ·rename_i hv
     rw[hr.getD_size hv]at hy
     have:yielded all a.tmps j=none:=by rw[hy];rfl
     exact no st (by rw[hwant,this];rfl) ⟨β,ρ,V,hp,hr,hD⟩
    ·rename_i c _ _ hv
     split at hD
     ·rename_i hc
      obtain⟨hc1,hc2,hc3⟩:=hc
      obtain⟨b,hb⟩:=qFy (ρ:=ρ) (β:=β) hc1
      rw[hr.getD_size hv,hb]at hy
      simp only at hy
      simp only[D]at hD
      have hfr:=(T.ev_free (β:=id) (β':=β) (ρ:=ρ) c hc2).1
      have hlearn:Rel O V0 w0 H.N β (st.now d (.bool b)) ρ V a.tmps w:=hr.now hv (by rw[hb];rfl)
      cases b with
      | true =>
       have hD':=hD.1 (by rw[hfr,hb];rfl)
       split at hD'
       ·rename_i e;exact yes _ (by rw[hwant,hy,e];rfl) ⟨β,ρ,V,hp.now _ _,hlearn,hD'⟩
       ·rename_i e;exact no _ (by rw[hwant,hy];simpa using e) ⟨β,ρ,V,hp.now _ _,hlearn,hD'⟩
      | false =>
       have hD':=hD.2 (by rw[hfr,hb];rfl)
       split at hD'
       ·rename_i e;exact no _ (by rw[hwant,hy,e];rfl) ⟨β,ρ,V,hp.now _ _,hlearn,hD'⟩
       ·rename_i e;exact yes _ (by rw[hwant,hy];simpa using e) ⟨β,ρ,V,hp.now _ _,hlearn,hD'⟩
     ·exact hD.elim
    ·exact hD.elim
end
section
variable{P:Program}{R:Ending->Mem->Prop}{O V0:Mem}{w0:World}{N:Nat}{β:Nat->Nat}{ρ:List Value}{V:Mem}{w:World}{tmps:Array Value}
theorem qIr{ρ:List Value}{β:Nat->Nat}{t:T}{ks:List K}(h:qBQ t=some ks):Shaped ks (t.toList.map (·.ev ρ β)):=by
 rw[<- qAA];exact qGq t ks h
theorem qCi:∀(ws:List Nat) (st1:St) (ρ1:List Value),ρ1.length=st1.nv->∀(st':St) (ρ2:List Value) (β:Nat->Nat) (ts:List T),qDs st' (qAx ws st1).2=some ts ->
  (∀s t,st'.get s=some t->tmps.getD s undef=t.ev ρ2 β) ->
  Shaped ((qAx ws st1).2.flatMap (·.2.2)) (ts.map (·.ev ρ2 β))/\(qAx ws st1).1.nv=st1.nv+ts.length /\
  (qAx ws st1).1.boxes=st1.boxes/\(qAx ws st1).1.nb=st1.nb/\(qAx ws st1).1.depth=st1.depth /\
  ∀s t,(qAx ws st1).1.get s=some t->(s ∉ ws/\st1.get s=some t)∨(s∈ws/\tmps.getD s undef=t.ev (ρ1++ts.map (·.ev ρ2 β)) β)
 | [],st1,ρ1,h1,st',ρ2,β,ts,hb,hs=>by
  simp only[qAx,qDs,Option.some.injEq]at hb
  subst hb
  exact⟨trivial,by simp[qAx],rfl,rfl,rfl,fun s t hg=>.inl ⟨by simp,hg⟩⟩
 | s0::ws,st1,ρ1,h1,st',ρ2,β,ts,hb,hs=>by
  cases hm:((st1.get s0).bind fun t=>(genKinds t).map fun ks=>(qFz t,ks)) with
  | some p =>
   obtain⟨b,ks⟩:=p
   simp only[qAx,hm]at hb ⊢
   simp only[qDs]at hb
   split at hb
   ·rename_i t' ts' hg' hb'
    split at hb
    ·rename_i hc
     obtain⟨hc1,hc2⟩:=hc
     simp only[Option.some.injEq]at hb;subst hb
     have hsh:Shaped ks (t'.cellsT.toList.map (·.ev ρ2 β)):=qIr hc2
     have hlen:(t'.cellsT.toList.map (·.ev ρ2 β)).length=ks.length:=hsh.length
     obtain⟨g1,g2,g3,g4,g5,g6⟩:=qCi ws ({ st1 with nv:=st1.nv+ks.length }.put s0 (genTerm b ks st1.nv)) (ρ1++t'.cellsT.toList.map (·.ev ρ2 β)) (by simp only[List.length_append,hlen,h1];rfl) st' ρ2 β ts' hb' hs
     refine⟨?_,?_,g3,g4,g5,fun s t hg=>?_⟩
     ·rw[List.map_append];exact qCw hsh g1
     ·rw[g2];simp only[St.put,List.length_append];rw[List.length_map]at hlen;omega
     ·rcases g6 s t hg with⟨e1,e2⟩|⟨e1,e2⟩
      ·rw[qJA]at e2
       split at e2
       ·rename_i e;subst e
        right
        refine⟨List.mem_cons_self,?_⟩
        split at e2
        ·simp at e2
        ·simp only[Option.some.injEq]at e2;subst e2
         rw[hs s t' hg']
         have hv:=qFQ (β:=β) ks (t'.cellsT.toList.map (·.ev ρ2 β)) ρ1 (ts'.map (·.ev ρ2 β)) hsh
         rw[h1]at hv
         rw[List.map_append,<- List.append_assoc]
         unfold genTerm
         cases b with
         | true =>
          simp only[if_true,T.ev,qAp,hv]
          cases t' <;> simp[qFz]at hc1
          simp[T.ev,T.cellsT,qAA]
         | false =>
          simp only[Bool.false_eq_true,if_false]
          have hcell:t'.cellsT=.cons t' .nil:=by cases t' <;> simp_all [qFz,T.cellsT]
          rw[hcell]at hv hsh
          simp only[T.toList,List.map_cons,List.map_nil]at hv hsh
          match ks,hsh,hv with
          | [k],hsh,hv =>
           simp only[vars,List.map_cons,List.map_nil,List.cons.injEq,and_true]at hv
           simp only[vars,List.headD_cons,hcell,T.toList,List.map_cons,List.map_nil]
           exact hv.symm
       ·rename_i e
        exact .inl ⟨by simp[e,e1],e2⟩
      ·rw[List.map_append,<- List.append_assoc]
       exact .inr ⟨List.mem_cons_of_mem _ e1,e2⟩
    ·simp at hb
   ·simp at hb
  | none =>
   simp only[qAx,hm]at hb ⊢
   cases hgs:st1.get s0 with
   | none =>
    simp only[hgs]at hb ⊢
    obtain⟨g1,g2,g3,g4,g5,g6⟩:=qCi ws st1 ρ1 h1 st' ρ2 β ts hb hs
    refine⟨g1,g2,g3,g4,g5,fun s t hg=>?_⟩
    rcases g6 s t hg with⟨e1,e2⟩|⟨e1,e2⟩
    ·have e:s≠s0:=fun e=>by subst e;rw[hgs]at e2;cases e2
     exact .inl ⟨by simp[e,e1],e2⟩
    ·exact .inr ⟨List.mem_cons_of_mem _ e1,e2⟩
   | some t0 =>
   simp only[hgs]at hb ⊢
   obtain⟨g1,g2,g3,g4,g5,g6⟩:=qCi ws (st1.put s0 .nil) ρ1 h1 st' ρ2 β ts hb hs
   refine⟨g1,g2,g3,g4,g5,fun s t hg=>?_⟩
   rcases g6 s t hg with⟨e1,e2⟩|⟨e1,e2⟩
   ·rw[qJA]at e2
    split at e2
    ·simp at e2
    ·rename_i e;exact .inl ⟨by simp[e,e1],e2⟩
   ·exact .inr ⟨List.mem_cons_of_mem _ e1,e2⟩
theorem qIM(st:St)(i j:Nat)(cs:T)(ty:Nat):(st.setBox i cs ty).box j=if j=i then some (cs,ty) else st.box j:=by
 simp only[St.box,St.setBox,List.lookup_cons]
 by_cases h:j=i
 ·subst h;simp
 ·have:(j==i)=false:=by simpa using h
  simp[h,this]
theorem qEG:∀(hint:List Nat) (st:St) (ρ1:List Value),ρ1.length=st.nv->∀(st1:St) (bs:List (Nat×Nat×List K)),qEq hint st=some (st1,bs)->∀(st':St) (ρ2:List Value) (β:Nat->Nat) (ts:List T),qDt st' bs=some ts ->
  Shaped (bs.flatMap (·.2.2)) (ts.map (·.ev ρ2 β))/\st1.nv=st.nv+ts.length/\st1.slots=st.slots/\st1.nb=st.nb/\st1.depth=st.depth /\
  (∀i,i∈bs.map (·.1)->(st.box i).isSome=true) /\
  ∀i cs ty,st1.box i=some (cs,ty)->(i ∉ bs.map (·.1)/\st.box i=some (cs,ty))∨(i∈bs.map (·.1)/\∃cs',st'.box i=some (cs',ty)/\∀σ,cs.evs (ρ1++ts.map (·.ev ρ2 β)++σ) β=cs'.evs ρ2 β)
 | [],st,ρ1,h1,st1,bs,hg,st',ρ2,β,ts,hb=>by
  simp only[qEq,Option.some.injEq,Prod.mk.injEq]at hg
  obtain⟨rfl,rfl⟩:=hg
  simp only[qDt,Option.some.injEq]at hb;subst hb
  exact⟨trivial,by simp,rfl,rfl,rfl,by simp,fun i cs ty h=>.inl ⟨by simp,h⟩⟩
 | s::hint,st,ρ1,h1,st1,bs,hg,st',ρ2,β,ts,hb=>by
  simp only[qEq]at hg
  split at hg
  ·rename_i i off hs
   split at hg
   ·rename_i cs ty hbx
    split at hg
    ·rename_i ks hks
     simp only[Option.map_eq_some_iff,Prod.mk.injEq]at hg
     obtain⟨⟨r1,r2⟩,hr,rfl,rfl⟩:=hg
     simp only[qDt]at hb
     split at hb
     ·rename_i cs' ty' ts' hb1 hb2
      split at hb
      ·rename_i hc
       obtain⟨rfl,hc2⟩:=hc
       simp only[Option.some.injEq]at hb;subst hb
       have hsh:Shaped ks (cs'.toList.map (·.ev ρ2 β)):=qIr hc2
       have hlen:(cs'.toList.map (·.ev ρ2 β)).length=ks.length:=hsh.length
       obtain⟨g1,g2,g3,g4,g5,g7,g6⟩:=qEG hint _ (ρ1++cs'.toList.map (·.ev ρ2 β)) (by simp only[List.length_append,hlen,h1];rfl) _ _ hr st' ρ2 β ts' hb2
       refine⟨?_,?_,g3,g4,g5,fun j hj=>?_,fun j cs0 ty0 hj=>?_⟩
       ·simp only[List.flatMap_cons,List.map_append];exact qCw hsh g1
       ·rw[g2];simp only[St.setBox,List.length_append];rw[List.length_map]at hlen;omega
       ·simp only[List.map_cons,List.mem_cons]at hj
        rcases hj with rfl|hj
        ·simp[hbx]
        ·have:=g7 j hj
         rw[qIM]at this
         by_cases e:j=i
         ·subst e;simp[hbx]
         ·rw[if_neg e]at this;exact this
       ·rcases g6 j cs0 ty0 hj with⟨e1,e2⟩|⟨e1,cs2,e2,e3⟩
        ·rw[qIM]at e2
         split at e2
         ·rename_i e;subst e
          simp only[Option.some.injEq,Prod.mk.injEq]at e2
          obtain⟨rfl,rfl⟩:=e2
          refine .inr ⟨by simp,cs',hb1,fun σ=>?_⟩
          have hv:=qFQ (β:=β) ks (cs'.toList.map (·.ev ρ2 β)) ρ1 (ts'.map (·.ev ρ2 β)++σ) hsh
          rw[h1]at hv
          rw[List.map_append,qAp,qAA ρ2 β cs']
          simpa only[List.append_assoc]using hv
         ·rename_i e
          exact .inl ⟨by simp only[List.map_cons,List.mem_cons,not_or];exact⟨e,e1⟩,e2⟩
        ·refine .inr ⟨by simp only[List.map_cons,List.mem_cons];exact .inr e1,cs2,e2,fun σ=>?_⟩
         have:=e3 σ
         simpa only[List.map_append,List.append_assoc]using this
      ·simp at hb
     ·simp at hb
    ·simp at hg
   ·simp at hg
  ·simp at hg
theorem qJO{st:St}{bs:List (Nat×Nat×List K)}{ss:List (Nat×Bool×List K)}{t:T}(h:qFH st bs ss=some t) :
  ∃l m,qDt st bs=some l/\qDs st ss=some m/\t=T.ofList (l++m)/\t.firstBox=none:=by
 unfold qFH at h
 split at h
 ·rename_i l m h1 h2
  simp only at h
  split at h
  ·rename_i h3
   simp only[Option.some.injEq]at h;subst h
   exact⟨l,m,h1,h2,rfl,h3⟩
  ·simp at h
 ·simp at h
theorem qGR{ws hint:List Nat}{st st1 st':St}{bs:List (Nat×Nat×List K)}{vs:T}{ρ':List Value}(hw:st.wf=true)(hl:ρ.length=st.nv)(hp:ρ <+: ρ')
  (hg:qEq hint st=some (st1,bs)) (hb:qFH st' bs (qAx ws st1).2=some vs) (hok:backOk { (qAx ws st1).1 with depth:=st.depth+1 } st' bs ws=true)
  (hr:Rel O V0 w0 N β st' ρ' V tmps w) :
  Rel O V0 w0 N β { (qAx ws st1).1 with depth:=st.depth+1 } (ρ++vs.evs ρ' id) V tmps w/\Shaped (bs.flatMap (·.2.2)++(qAx ws st1).2.flatMap (·.2.2)) (vs.evs ρ' id):=by
 obtain⟨l,m,h1,h2,rfl,h3⟩:=qJO hb
 rw[(T.ev_free (β:=id) (β':=β) (ρ:=ρ') _ h3).2,qAp,List.map_append]
 obtain⟨a1,a2,a3,a4,a5,a6,a7⟩:=qEG hint st ρ hl st1 bs hg st' ρ' β l h1
 obtain⟨b1,b2,b3,b4,b5,b6⟩:=qCi (tmps:=tmps) ws st1 (ρ++l.map (·.ev ρ' β)) (by rw[a2];simp[hl]) st' ρ' β m h2 hr.slots
 simp only[backOk,Bool.and_eq_true,List.all_eq_true,Bool.or_eq_true,decide_eq_true_eq]at hok
 have hcg:∀t:T,t.wf st.nv st.nb=true->t.ev ρ' β=t.ev (ρ++(l.map (·.ev ρ' β)++m.map (·.ev ρ' β))) β/\t.evs ρ' β=t.evs (ρ++(l.map (·.ev ρ' β)++m.map (·.ev ρ' β))) β:=by
  refine T.ev_congr (fun i hi=>?_) (fun _ _=>rfl)
  obtain⟨σ,rfl⟩:=hp
  rw[<- qDA (by rw[hl];exact hi),<- qDA (by rw[hl];exact hi)]
 have hget1:∀s,st1.get s=st.get s:=fun s=>by unfold St.get;rw[a3]
 have hboxh:∀i,St.box { (qAx ws st1).1 with depth:=st.depth+1 } i=st1.box i:=fun i=>by unfold St.box;simp only[b3]
 have hsome:∀i,(St.box { (qAx ws st1).1 with depth:=st.depth+1 } i).isSome=true->(st'.box i).isSome=true:=by
  intro i hi
  obtain⟨⟨cs,ty⟩,hx⟩:=Option.isSome_iff_exists.1 hi
  rcases hok.2 _ (qDx hx) with h|h
  ·rw[hboxh]at hx
   have hm:i∈bs.map (·.1):=List.contains_iff_mem.1 h
   rcases a7 i cs ty hx with⟨e1,_⟩|⟨_,cs',e2,_⟩
   ·exact absurd hm e1
   ·simp[e2]
  ·rw[h];exact hi
 refine⟨
 {nv:=?_
  size:=hr.size
  slots:=fun s t hs=>?_
  frm:=hr.frm
  boxes:=fun i cs ty hi=>?_
  hid:=fun b o hb=>⟨(hr.hid b o hb).1,(hr.hid b o hb).2.1,(hr.hid b o hb).2.2.1,fun i hi=>(hr.hid b o hb).2.2.2 i (hsome i hi)⟩
  inj:=fun i j hi hj=>hr.inj i j (hsome i hi) (hsome j hj) },qCw a1 b1⟩
 ·simp only[b2,a2,List.length_append,List.length_map,hl];omega
 ·rcases b6 s t hs with⟨e1,e2⟩|⟨_,e2⟩
  ·have e3:st'.get s=some t:=by
    rcases hok.1 _ (lookup_mem (qCc hs)) with h|h
    ·exact absurd (List.contains_iff_mem.1 h) e1
    ·rw[h];exact hs
   rw[hget1]at e2
   rw[hr.slots s t e3]
   exact(hcg t (wf_get hw e2)).1
  ·rw[e2,List.append_assoc]
 ·rw[hboxh]at hi
  rcases a7 i cs ty hi with⟨e1,e2⟩|⟨e1,cs',e2,e3⟩
  ·have e3:st'.box i=some (cs,ty):=by
    rcases hok.2 _ (qDx (show St.box { (qAx ws st1).1 with depth:=st.depth+1 } i=some (cs,ty) by rw[hboxh];exact hi)) with h|h
    ·exact absurd (List.contains_iff_mem.1 h) e1
    ·rw[h,hboxh];exact hi
   obtain⟨c1,c2,c3,_⟩:=hr.boxes i cs ty e3
   rw[<- (hcg cs (qGZ hw e2).2).2]
   exact⟨c1,c2,c3,by simp only[b4,a4];exact(qGZ hw e2).1⟩
  ·obtain⟨c1,c2,c3,_⟩:=hr.boxes i cs' ty e2
   have e4:=e3 (m.map (·.ev ρ' β))
   rw[List.append_assoc]at e4
   rw[e4]
   obtain⟨x,hx⟩:=Option.isSome_iff_exists.1 (a6 i e1)
   exact⟨c1,c2,c3,by simp only[b4,a4];exact(qGZ hw hx).1⟩
end
def qFu(acc:List Nat)(o:Oper):Nat:=o.after.toList.foldl (fun s e=>if Region.binds .any e then s ||| (1 <<< e.on) ||| acc.getD e.on 0 else s) 0
theorem qIE:∀(os:List Oper) (acc:List Nat),(∃tl,qAF os acc=acc++tl/\tl.length=os.length) /\
  ∀k o,os[k]?=some o->(qAF os acc).getD (acc.length+k) 0=qFu ((qAF os acc).take (acc.length+k)) o
 | [],acc=>⟨⟨[],by simp[qAF]⟩,fun k o h=>by simp at h⟩
 | o::os,acc=>by
  have e:qAF (o::os) acc=qAF os (acc++[qFu acc o]):=rfl
  obtain⟨⟨tl,h1,h2⟩,h3⟩:=qIE os (acc++[qFu acc o])
  rw[e]
  refine⟨⟨qFu acc o::tl,by rw[h1];simp,by simp[h2]⟩,fun k o' h=>?_⟩
  cases k with
  | zero =>
   simp only[List.getElem?_cons_zero,Option.some.injEq]at h;subst h
   rw[h1]
   simp only[Nat.add_zero,List.append_assoc,List.take_left',List.singleton_append]
   simp[List.getD]
  | succ k =>
   have:=h3 k o' (by simpa using h)
   simp only[List.length_append,List.length_singleton]at this
   rw[show acc.length+(k+1)=acc.length+1+k by omega]
   exact this
theorem fold_bits(acc:List Nat):∀(es:List Edge) (s j:Nat),(es.foldl (fun s e=>if Region.binds .any e then s ||| (1 <<< e.on) ||| acc.getD e.on 0 else s) s).testBit j=true ->
  s.testBit j=true∨∃e∈es,Region.binds .any e=true/\(j=e.on∨(acc.getD e.on 0).testBit j=true)
 | [],s,j,h=>.inl h
 | e::es,s,j,h=>by
  simp only[List.foldl_cons]at h
  rcases fold_bits acc es _ j h with h1|⟨e',h2,h3⟩
  ·by_cases hb:Region.binds .any e=true
   ·rw[if_pos hb]at h1
    simp only[Nat.testBit_or,Bool.or_eq_true]at h1
    rcases h1 with (h1|h1) | h1
    ·exact .inl h1
    ·right
     refine⟨e,List.mem_cons_self,hb,.inl ?_⟩
     rw[Nat.testBit_shiftLeft]at h1
     simp only[Bool.and_eq_true,decide_eq_true_eq]at h1
     have h4:=h1.2
     rcases Nat.eq_or_lt_of_le h1.1 with h5|h5
     ·exact h5.symm
     ·have:(1:Nat).testBit (j-e.on)=false:=by
       obtain⟨m,hm⟩:∃m,j-e.on=m+1:=⟨j-e.on-1,by omega⟩
       rw[hm,Nat.testBit_succ];simp
      rw[this]at h4;cases h4
    ·exact .inr ⟨e,List.mem_cons_self,hb,.inr h1⟩
   ·rw[if_neg hb]at h1;exact .inl h1
  ·exact .inr ⟨e',List.mem_cons_of_mem _ h2,h3⟩
def qHV(all:Array Oper)(listed:Array Bool):Prop:=∀j oj,all[j]?=some oj->listed.getD j false=true->∀e∈oj.after,Region.binds .any e=true->listed.getD e.on false=true
def qJR(all:Array Oper):Prop:=∀i o,all[i]?=some o->∀e∈o.after,Region.binds .any e=true->e.on<i
theorem mask_listed{all:Array Oper}(he:qJR all){listed:Array Bool}(hc:qHV all listed):∀(i:Nat) (o:Oper),all[i]?=some o ->
  (∀e∈o.after,Region.binds .any e=true->listed.getD e.on false=true)->∀j,(qBl (qAF all.toList []) i).testBit j=true->listed.getD j false=true:=by
 intro i
 induction i using Nat.strongRecOn with
 | _ i ih =>
  intro o ho hd j hj
  have h1:=(qIE all.toList []).2 i o (by simpa using ho)
  simp only[List.length_nil,Nat.zero_add]at h1
  unfold qBl at hj
  rw[h1]at hj
  unfold qFu at hj
  rcases fold_bits _ _ _ _ hj with h2|⟨e,h2,h3,h4⟩
  ·simp at h2
  ·have h2':e∈o.after:=by simpa using h2
   have hlt:=he i o ho e h2' h3
   have hl:=hd e h2' h3
   rcases h4 with rfl|h4
   ·exact hl
   ·have hget:((qAF all.toList []).take i).getD e.on 0=(qAF all.toList []).getD e.on 0:=by
     simp[List.getD,hlt]
    rw[hget]at h4
    have hi:i<all.size:=(Array.getElem?_eq_some_iff.1 ho).1
    have ho':all[e.on]?=some (all[e.on]'(by omega)):=Array.getElem?_eq_getElem _
    exact ih e.on hlt _ ho' (hc e.on _ ho' hl) j h4
theorem qDw:∀{l:List Nat},qIC l=true->l.Nodup
 | [],_=>List.nodup_nil
 | x::xs,h=>by
  simp only[qIC,Bool.and_eq_true,Bool.not_eq_true']at h
  exact List.nodup_cons.2 ⟨by simpa using h.1,qDw h.2⟩
structure Ext (w w':World):Prop where
 heap:∀(b:Nat) (o:Obj),w.heap[b]?=some o->w'.heap[b]?=some o
 size:w.heap.size<=w'.heap.size
 os:w'.os=w.os
 out:w'.output=w.output
theorem Ext.refl(w:World):Ext w w:=⟨fun _ _ h=>h,Nat.le_refl _,rfl,rfl⟩
theorem Ext.trans{a b c:World}(h:Ext a b)(k:Ext b c):Ext a c:=⟨fun i o hi=>k.heap i o (h.heap i o hi),Nat.le_trans h.size k.size,k.os.trans h.os,k.out.trans h.out⟩
theorem Ext.alloc(w:World)(o:Obj):Ext w (w.alloc o) :=
 ⟨fun b o' h=>(qEh w o (Array.getElem?_eq_some_iff.1 h).1).trans h,by show w.heap.size<=(w.heap.push o).size;simp,rfl,rfl⟩
section
variable{P:Program}{O V0:Mem}{w0:World}{N:Nat}{β:Nat->Nat}{st:St}{ρ:List Value}{V:Mem}{w:World}{tmps:Array Value}
theorem Rel.ext(h:Rel O V0 w0 N β st ρ V tmps w){w':World}(e:Ext w w'):Rel O V0 w0 N β st ρ V tmps w' :=
 {h with
  frm :=
   {size:=Nat.le_trans h.frm.size e.size
    le:=fun b o hb=>e.heap b o (h.frm.le b o hb)
    old:=fun b hb hV=>by
     have h1:=h.frm.old b hb hV
     rw[<- h1]
     have hlt:b<w.heap.size:=Nat.lt_of_lt_of_le hb h.frm.size
     exact(e.heap b _ (Array.getElem?_eq_getElem hlt)).trans (Array.getElem?_eq_getElem hlt).symm
    dom:=h.frm.dom
    os:=e.os.trans h.frm.os
    out:=e.out.trans h.frm.out }
  boxes:=fun i cs ty hi=>⟨e.heap _ _ (h.boxes i cs ty hi).1,(h.boxes i cs ty hi).2⟩
  hid:=fun b o hb=>⟨e.heap _ _ (h.hid b o hb).1,(h.hid b o hb).2⟩ }
theorem Rel.less(h:Rel O V0 w0 N β st ρ V tmps w){O':Mem}(ho:∀b o,O' b=some o->O b=some o):Rel O' V0 w0 N β st ρ V tmps w :=
 {h with hid:=fun b o hb=>h.hid b o (ho b o hb) }
theorem Rel.orphan(h:Rel O V0 w0 N β st ρ V tmps w)(o:Obj):Rel (O.set w.heap.size o) V0 w0 N β st ρ V tmps (w.alloc o) :=
 {h.ext (Ext.alloc w o) with
  hid:=fun b o' hb=>by
   by_cases e:b=w.heap.size
   ·subst e
    rw[Mem.set_same]at hb;cases hb
    refine⟨qIO w o,le_none h.frm.le (Nat.le_refl _),h.frm.size,fun i hi=>?_⟩
    obtain⟨x,hx⟩:=Option.isSome_iff_exists.1 hi
    have:=(h.boxes i x.1 x.2 hx).1
    have hlt:=(Array.getElem?_eq_some_iff.1 this).1
    omega
   ·rw[Mem.set_ne e]at hb
    exact(h.ext (Ext.alloc w o)).hid b o' hb }
theorem Rel.adopt(h:Rel O V0 w0 N β st ρ V tmps w)(hw:st.wf=true){cs:T}(hc:cs.wf st.nv st.nb=true){ty b:Nat}(hO:O b=some (.cells (cs.evs ρ β).toArray ty (0,0))) :
  Rel (fun c=>if c=b then none else O c) V0 w0 N (upd β st.nb b) { st with boxes:=(st.nb,cs,ty)::st.boxes,nb:=st.nb+1 } ρ V tmps w:=by
 have hcg:∀t:T,t.wf st.nv st.nb=true->t.ev ρ β=t.ev ρ (upd β st.nb b)/\t.evs ρ β=t.evs ρ (upd β st.nb b) :=
  T.ev_congr (fun _ _=>rfl) (fun i hi=>by simp[upd,show ¬i=st.nb by omega])
 have hbox:∀(i:Nat) (x:T×Nat),St.box { st with boxes:=(st.nb,cs,ty)::st.boxes,nb:=st.nb+1 } i=some x->(i=st.nb/\x=(cs,ty))∨(i≠st.nb/\st.box i=some x):=by
  intro i x hx
  simp only[St.box,List.lookup_cons]at hx
  split at hx
  ·rename_i e;simp only[beq_iff_eq]at e;simp only[Option.some.injEq]at hx;exact .inl ⟨e,hx.symm⟩
  ·rename_i e;exact .inr ⟨by simpa using e,hx⟩
 obtain⟨g1,g2,g3,g4⟩:=h.hid b _ hO
 exact
 {nv:=h.nv
  size:=h.size
  slots:=fun s t hs=>(h.slots s t hs).trans (hcg t (wf_get hw hs)).1
  frm:=h.frm
  boxes:=fun i cs' ty' hi=>by
   rcases hbox i _ hi with⟨rfl,e⟩|⟨hne,hi'⟩
   ·cases e
    rw[<- (hcg cs hc).2];simp only[upd,if_true]
    exact⟨g1,g2,g3,Nat.lt_succ_self _⟩
   ·obtain⟨h1,h2,h3,h4⟩:=h.boxes i cs' ty' hi'
    have e:upd β st.nb b i=β i:=by simp[upd,hne]
    rw[e,<- (hcg cs' (qGZ hw hi').2).2]
    exact⟨h1,h2,h3,Nat.lt_succ_of_lt h4⟩
  hid:=fun c o hb=>by
   split at hb
   ·cases hb
   ·rename_i hne
    obtain⟨k1,k2,k3,k4⟩:=h.hid c o hb
    refine⟨k1,k2,k3,fun i hi=>?_⟩
    obtain⟨x,hx⟩:=Option.isSome_iff_exists.1 hi
    rcases hbox i x hx with⟨rfl,_⟩|⟨hne',hi'⟩
    ·simp only[upd,if_true];exact fun e=>hne e.symm
    ·simp only[upd,if_neg hne'];exact k4 i (by simp[hi'])
  inj:=fun i j hi hj he=>by
   obtain⟨x,hx⟩:=Option.isSome_iff_exists.1 hi
   obtain⟨y,hy⟩:=Option.isSome_iff_exists.1 hj
   rcases hbox i x hx with⟨rfl,_⟩|⟨hne,hi'⟩ <;> rcases hbox j y hy with⟨rfl,_⟩|⟨hne',hj'⟩
   ·rfl
   ·simp only[upd,if_true,if_neg hne']at he;exact absurd he.symm (g4 j (by simp[hj']))
   ·simp only[upd,if_true,if_neg hne]at he;exact absurd he (g4 i (by simp[hi']))
   ·simp only[upd,if_neg hne,if_neg hne']at he
    exact h.inj i j (by simp[hi']) (by simp[hj']) he }
end
section
variable{P:Program}{R:Ending->Mem->Prop}{O V0:Mem}{w0:World}{N:Nat}{L:List (List Value->Mem->Prop)}{ρ0:List Value}{fs:List Nat}{H:qGl}
variable{all:Array Oper}
def qFL(P:Program)(all:Array Oper)(j:Nat)(wt:Bool)(as:Act)(w:World):Prop :=
 ∃o d,all[j]?=some o/\o.dst=some d/\d<as.tmps.size/\Region.wanted o (yielded all as.tmps)=wt /\
  (wt=true->∀w',Ext w w'->(execOp as.eval o).run P w'=.ok (.value (as.tmps.getD d undef)) w')/\(wt=false->as.tmps.getD d undef=undef)
theorem qFL.ext{j:Nat}{wt:Bool}{as:Act}{w w':World}(h:qFL P all j wt as w)(e:Ext w w'):qFL P all j wt as w':=by
 obtain⟨o,d,h1,h2,h3,h4,h5,h6⟩:=h
 exact⟨o,d,h1,h2,h3,h4,fun hw w'' e'=>h5 hw w'' (e.trans e'),h6⟩
theorem qAY{a:Act}{dst:Option Nat}{v:Value}{d:Nat}(h:dst≠some d):(a.put dst v).tmps.getD d undef=a.tmps.getD d undef:=by
 cases dst with
 | none=>rfl
 | some e =>
  have hne:e≠d:=fun e'=>h (by rw[e'])
  simp only[Act.put,Array.getD]
  by_cases hlt:d<a.tmps.size
  ·simp[hlt,hne]
  ·simp[hlt]
theorem qBj{a:Act}{v:Value}{d:Nat}(h:d<a.tmps.size):(a.put (some d) v).tmps.getD d undef=v:=by
 simp[Act.put,Array.getD,h]
theorem qCf(a:Act)(dst:Option Nat)(v:Value):(a.put dst v).tmps.size=a.tmps.size:=by cases dst <;> simp[Act.put]
theorem noSel{all:Array Oper}(h:∀o,o∈all.toList->qCh o.op=false){j:Nat}{o:Oper}(ho:all[j]?=some o):∀cs b,o.op≠.select cs b:=by
 intro cs b e
 have hm:o∈all.toList:=by
  have:=Array.mem_of_getElem? ho;simpa using this
 have:=h o hm
 rw[e]at this;simp[qCh]at this
theorem qFL.put(hs:∀o,o∈all.toList->qCh o.op=false){j:Nat}{wt:Bool}{as:Act}{w:World}(h:qFL P all j wt as w){dst:Option Nat}{v:Value}
  (hl:∀o,all[j]?=some o->∀d',dst=some d'->d' ∉ o.looksAt all/\o.dst≠some d'):qFL P all j wt (as.put dst v) w:=by
 obtain⟨o,d,h1,h2,h3,h4,h5,h6⟩:=h
 have hlook:∀d',dst=some d'->d' ∉ o.looksAt all:=fun d' hd=>(hl o h1 d' hd).1
 have hne:dst≠some d:=fun e=>(hl o h1 d e).2 h2
 refine⟨o,d,h1,h2,by rw[qCf];exact h3,?_,fun hw w' e=>?_,fun hw=>?_⟩
 ·rw[wanted_put o as dst v hlook];exact h4
 ·rw[execOp_put o (noSel hs h1) as dst v hlook,qAY hne];exact h5 hw w' e
 ·rw[qAY hne];exact h6 hw
theorem qDa{fl:List (Nat×Bool)}{dst:Option Nat}(h:qEW all fl dst=true){j:Nat}{b:Bool}(hj:(j,b)∈fl):∀o,all[j]?=some o->∀d',dst=some d'->d' ∉ o.looksAt all:=by
 intro o ho d' hd
 have:=List.all_eq_true.1 h _ hj
 simp only[ho,hd,Bool.not_eq_true']at this
 simpa using this
theorem exLoad_run{a:Act}{w:World}{st:St}{o:Oper}{k:St->Tr}{t:TypeId}{x:Operand}(hop:o.op=.load t x)(hd:qEC N o.dst=true)
  (h:qCo P R O V0 w0 N L ρ0 a.tmps w st (qIL P st o.dst t x k)) :
  ∃v st',(∀w',Ext w w'->(execOp a.eval o).run P w'=.ok (.value v) w')/\qCo P R O V0 w0 N L ρ0 (a.put o.dst v).tmps w st' (k st'):=by
 obtain⟨β,ρ,V,hp,hr,hD⟩:=h
 unfold qIL at hD
 obtain⟨st',p,hg,hfree,β',ρ',V',hp',hr',hD'⟩:=qAL _ _ _ _ ⟨β,ρ,V,hp,hr,hD⟩
 have hx:a.eval x=p.ev ρ' β':=qAD hr' hg
 have hfr:∀{b i sz off e},qHf p=(b,i,sz,off,e)->b.firstBox=none/\i.firstBox=none:=by
  intro b i sz off e hs
  unfold qHf at hs
  split at hs <;> cases hs <;> simp_all [T.firstBox]
 have go:∀(q:Addr) (ks:List K) (vs:List Value) (off:Nat) (z:T),asP (p.ev ρ' β')=some (q.add off)->p.kind=some .p->Shaped ks vs->st'.wf=true ->
   (∀w',Ext w w'->∀j v,vs[j]?=some v->w'.cell? (q.add j)=some v)->qEA P t (T.ofList (vars ks st'.nv)) off=some z->D P R (k ((st'.more ks.length).putO o.dst z)) L (ρ'++vs) V' ->
   ∃v st',(∀w',Ext w w'->(execOp a.eval o).run P w'=.ok (.value v) w')/\qCo P R O V0 w0 N L ρ0 (a.put o.dst v).tmps w st' (k st'):=by
  intro q ks vs off z hq hpk hsh hw hc hz hD2
  have hl:vs.length=ks.length:=hsh.length
  have hrb:=hr'.bind hw vs
  rw[hl]at hrb
  have hev:(T.ofList (vars ks st'.nv)).evs (ρ'++vs) β'=vs:=by
   rw[qAp,<- hr'.nv]
   have:=qFQ (β:=β') ks vs ρ' [] hsh
   rwa [List.append_nil]at this
  obtain⟨p',hpe⟩:=qHB (ρ:=ρ') (β:=β') hpk
  rw[hpe]at hq
  simp only[asP]at hq;subst hq
  refine⟨z.ev (ρ'++vs) β',_,fun w' e=>?_,β',ρ'++vs,V',(hp'.more _ _).putO _ _,hrb.putO hd z rfl,hD2⟩
  have hrun:=qFl (P:=P) (w:=w') (ρ:=ρ'++vs) (β:=β') (b:=q) (by rw[hev];exact hc w' e) hz
  unfold execOp
  simp only[hop,hx,hpe,Instr.loadAt,Instr.sureAddr,Sem.run_bind,Sem.run_pure,Result.andThen_ok,hrun]
 have hle:∀w',Ext w w'->V'.le w':=fun w' e=>(hr'.ext e).frm.le
 split at hD'
 case isFalse=>exact hD'.elim
 rename_i hpk
 split at hD'
 ·rename_i b i sz off e hs
  obtain⟨hb,hi⟩:=hfr hs
  split at hD'
  ·rename_i ks hks
   split at hD'
   ·rename_i hlen
    unfold bind at hD'
    split at hD'
    ·rename_i hw
     split at hD'
     ·rename_i z hz
      simp only[D]at hD'
      obtain⟨vs,h1,h2,h3⟩:=hD'
      have he:=qFi (ρ:=ρ') (β:=β') hs hpk
      simp only at he
      rw[(T.ev_free (β:=id) (β':=β') (ρ:=ρ') b hb).1,(T.ev_free (β:=id) (β':=β') (ρ:=ρ') i hi).1]at h1
      cases hq:asP (b.ev ρ' β') with
      | none=>simp[hq,Mem.rowp]at h1
      | some q =>
       simp only[hq,Mem.rowp]at h1
       rw[hq]at he
       simp only[qAa,Option.map_some]at he
       rw[<- hlen]at h3
       exact go _ ks vs off z he hpk h2 hw (fun w' e=>(qEm (hle w' e) h1).2) hz h3
     ·exact hD'.elim
    ·exact hD'.elim
   ·exact hD'.elim
  ·exact hD'.elim
 ·rename_i b i sz off hs
  obtain⟨hb,hi⟩:=hfr hs
  split at hD'
  ·rename_i ks hks
   unfold bind at hD'
   split at hD'
   ·rename_i hw
    split at hD'
    ·rename_i z hz
     simp only[D]at hD'
     obtain⟨vs,h1,h2,h3⟩:=hD'
     have he:=qFi (ρ:=ρ') (β:=β') hs hpk
     simp only at he
     rw[(T.ev_free (β:=id) (β':=β') (ρ:=ρ') b hb).1,(T.ev_free (β:=id) (β':=β') (ρ:=ρ') i hi).1]at h1
     cases hq:asP (b.ev ρ' β') with
     | none=>simp[hq,Mem.rowp]at h1
     | some q =>
      simp only[hq,Mem.rowp]at h1
      rw[hq]at he
      simp only[qAa,Option.map_some]at he
      exact go _ ks vs 0 z (by rw[he,Addr.add_zero']) hpk h2 hw (fun w' e=>(qEm (hle w' e) h1).2) hz h3
    ·exact hD'.elim
   ·exact hD'.elim
  ·exact hD'.elim
theorem qCy{as:Act}{w:World}{st:St}:∀{fl:List (Nat×Bool)} {t:Tr} {β:Nat->Nat} {ρ:List Value} {V:Mem},Rel O V0 w0 N β st ρ V as.tmps w->D P R (qEO P all fl st t) L ρ V ->
  D P R t L ρ V/\∀j,(j,true)∈fl->∃o d,all[j]?=some o/\o.dst=some d/\∀w',Ext w w'->(execOp as.eval o).run P w'=.ok (.value (as.tmps.getD d undef)) w'
 | [],t,β,ρ,V,hr,hD=>⟨hD,fun j hj=>by cases hj⟩
 | (i,false)::fl,t,β,ρ,V,hr,hD=>by
  obtain⟨h1,h2⟩:=qCy (fl:=fl) hr hD
  exact⟨h1,fun j hj=>h2 j (by simpa using hj)⟩
 | (i, true)::fl,t,β,ρ,V,hr,hD=>by
  simp only[qEO]at hD
  split at hD
  ·exact hD.elim
  ·rename_i o ho
   split at hD
   ·rename_i ns x y hpu hy
    split at hD
    ·rename_i e;subst e
     obtain⟨g1,g2⟩:=qEP hD β
     obtain⟨h1,h2⟩:=qCy (fl:=fl) hr g2
     refine⟨h1,fun j hj=>?_⟩
     rcases List.mem_cons.1 hj with e|hj
     ·cases e
      cases hd:o.dst with
      | none=>simp[hd]at hy
      | some d =>
       simp only[hd,Option.bind_some]at hy
       refine⟨o,d,ho,hd,fun w' ew=>?_⟩
       rw[hr.slots d _ hy]
       exact qHo (hr.ext ew) hpu g1
     ·exact h2 j hj
    ·exact hD.elim
   ·rename_i y hpu hy
    split at hD
    ·rename_i ty x hop
     split at hD
     ·rename_i p n ag hp hn hag
      split at hD
      ·rename_i hc
       obtain⟨c1,c2,c3,c4,c5,c6,c7⟩:=hc
       simp only[D]at hD
       obtain⟨g1,g2⟩:=hD
       obtain⟨h1,h2⟩:=qCy (fl:=fl) hr g2
       refine⟨h1,fun j hj=>?_⟩
       rcases List.mem_cons.1 hj with e|hj
       ·cases e
        cases hd:o.dst with
        | none=>simp[hd]at hy
        | some d =>
         simp only[hd,Option.bind_some]at hy
         refine⟨o,d,ho,hd,fun w' ew=>?_⟩
         rw[hr.slots d _ hy]
         have hfy:y.cellsT.firstBox=none:=by cases y <;> simp_all [T.cellsT,T.firstBox]
         rw[(T.ev_free (β:=id) (β':=β) (ρ:=ρ) p c2).1,(T.ev_free (β:=id) (β':=β) (ρ:=ρ) _ hfy).2]at g1
         obtain⟨q,hq⟩:=qHB (ρ:=ρ) (β:=β) c1
         rw[hq]at g1
         have hx:as.eval x=.pointer q:=(qAD hr hp).trans hq
         cases q with
         | none=>simp[asP,Mem.rowp]at g1
         | some q =>
          simp only[asP,Mem.rowp,Addr.add_zero']at g1
          obtain⟨_,g3⟩:=qEm (hr.ext ew).frm.le g1
          have hlen:(y.cellsT.evs ρ β).length=n:=by rw[qAA];simpa using c4
          have hrun:(loadVar ty q).run P w'=.ok (y.ev ρ β) w':=by
           cases ag with
           | true =>
            have hl:=run_loadCells_list (P:=P) w' q (y.cellsT.evs ρ β) g3
            rw[hlen]at hl
            cases y <;> simp[qFz]at c7
            simp only[loadVar,Sem.run_bind,qBM hag,Result.andThen_ok,if_true,qAW hn,T.cellsT]at hl ⊢
            rw[hl];simp[T.ev]
           | false =>
            have hcell:y.cellsT=.cons y .nil:=by cases y <;> simp_all [qFz,T.cellsT]
            have g4:=g3 0 (y.ev ρ β) (by rw[hcell];rfl)
            rw[Addr.add_zero']at g4
            simp only[loadVar,Sem.run_bind,qBM hag,Result.andThen_ok,Bool.false_eq_true,if_false,run_load,g4]
          unfold execOp
          simp only[hop,hx,Instr.loadAt,Instr.sureAddr,Sem.run_bind,Sem.run_pure,Result.andThen_ok,hrun]
       ·exact h2 j hj
      ·exact hD.elim
     ·exact hD.elim
    ·exact hD.elim
   ·exact hD.elim
end
def noO:Mem:=fun _=>none
structure qEH (P:Program) (all:Array Oper) (ms:List Nat):Prop where
 edges:qJR all
 dsts:∀(i j:Nat) (oi oj:Oper) (d:Nat),all[i]?=some oi->all[j]?=some oj->oi.dst=some d->oj.dst=some d->i=j
 sel:∀o,o∈all.toList->qCh o.op=false
 look:∀(i:Nat) (o:Oper) (p:Nat) (op:Oper) (t:Nat),all[i]?=some o->t∈o.looksAt all->(qAR all p=true∨qBm all p=true)->all[p]?=some op->op.dst=some t->(qBl ms i).testBit p=true/\p≠i
 allocs:∀(i:Nat) (o:Oper) (e:Nat),all[i]?=some o->o.op=.alloc e->(qBx P e).isSome=true
theorem qIB:∀{l:List Oper},(l.filterMap (·.dst)).Nodup->∀(i j:Nat) (oi oj:Oper) (d:Nat),l[i]?=some oi->l[j]?=some oj->oi.dst=some d->oj.dst=some d->i=j
 | [],_,i,j,oi,oj,d,h1,_,_,_=>by simp at h1
 | o::l,hn,i,j,oi,oj,d,h1,h2,h3,h4=>by
  have hmem:∀(k:Nat) ok,l[k]?=some ok->ok.dst=some d->d∈l.filterMap (·.dst):=fun k ok hk hd=>List.mem_filterMap.2 ⟨ok,List.mem_of_getElem? hk,hd⟩
  have htl:(l.filterMap (·.dst)).Nodup:=by
   simp only[List.filterMap_cons]at hn
   split at hn
   ·exact hn
   ·exact(List.nodup_cons.1 hn).2
  have hhd:∀d,o.dst=some d->d ∉ l.filterMap (·.dst):=by
   intro d hd
   simp only[List.filterMap_cons,hd]at hn
   exact(List.nodup_cons.1 hn).1
  cases i with
  | zero =>
   cases j with
   | zero=>rfl
   | succ j =>
    simp only[List.getElem?_cons_zero,Option.some.injEq]at h1;subst h1
    exact absurd (hmem j oj (by simpa using h2) h4) (hhd d h3)
  | succ i =>
   cases j with
   | zero =>
    simp only[List.getElem?_cons_zero,Option.some.injEq]at h2;subst h2
    exact absurd (hmem i oi (by simpa using h1) h3) (hhd d h4)
   | succ j=>exact congrArg (·+1) (qIB htl i j oi oj d (by simpa using h1) (by simpa using h2) h3 h4)
theorem qID{all:Array Oper}{i:Nat}{o:Oper}(h:all[i]?=some o):(o,i)∈all.toList.zipIdx:=by
 rw[List.mem_zipIdx_iff_getElem?];simpa using h
theorem qHO{P:Program}{all:Array Oper}{ms order:List Nat}(h:drawOk P all ms order=true) :
  qEH P all ms/\order.length=all.size/\order.Nodup/\(∀i∈order,i<all.size)/\qDh all ms order=true:=by
 simp only[drawOk,Bool.and_eq_true,List.all_eq_true,beq_iff_eq,decide_eq_true_eq,Bool.not_eq_true']at h
 obtain⟨⟨⟨⟨⟨⟨⟨⟨h1,h2⟩,h3⟩,h4⟩,h5⟩,h6⟩,h7⟩,h8⟩,h9⟩:=h
 refine⟨⟨fun i o ho e he hb=>?_,fun i j oi oj d hi hj=>?_,fun o ho=>h6 o ho,fun i o p op t ho ht hp hop hd=>?_,fun i o e ho hop=>?_⟩,h2,qDw h3,h4,h8⟩
 ·have:=h1 _ (qID ho)
  simp only[Array.all_eq_true_iff_forall_mem,Bool.or_eq_true,Bool.not_eq_true',decide_eq_true_eq]at this
  rcases this e he with h|h
  ·rw[hb]at h;cases h
  ·exact h
 ·exact qIB (qDw h5) i j oi oj d (by simpa using hi) (by simpa using hj)
 ·have hlt:p<all.size:=(Array.getElem?_eq_some_iff.1 hop).1
  have:=h7 _ (qID ho) t ht p (List.mem_range.2 hlt)
  simp only[Bool.or_eq_true,Bool.not_eq_true',Bool.and_eq_true,Bool.and_eq_false_iff,decide_eq_true_eq,decide_eq_false_iff_not,hop,Option.bind_some,hd,Bool.or_eq_false_iff]at this
  rcases this with (h|h) | h
  ·rcases hp with hp|hp
   ·rw[h.1]at hp;cases hp
   ·rw[h.2]at hp;cases hp
  ·exact absurd trivial h
  ·exact⟨h.1,by simpa using h.2⟩
 ·have:=h9 o (by have:=Array.mem_of_getElem? ho;simpa using this)
  rw[hop]at this;exact this
def Orph(P:Program)(all:Array Oper)(O:Mem)(j b:Nat)(a:Act):Prop :=
 ∃o d e z,all[j]?=some o/\o.dst=some d/\o.op=.alloc e/\qFb P e=some z/\O b=some (.cells z.cells e (0,0))/\a.tmps.getD d undef=.pointer (some ⟨b,0,none⟩)
structure Inv (c:Bool) (P:Program) (R:Ending->Mem->Prop) (V0:Mem) (w0:World) (L:List (List Value->Mem->Prop)) (ρ0:List Value) (fs:List Nat) (H:qGl) (all:Array Oper) (ms:List Nat) (k:St->Tr)
  (rest:List Nat) (fl:List (Nat×Bool)) (st:St) (listed:Array Bool) (a:Act) (w:World) (as:Act) (pend:List Nat) (O:Mem) (bo:Nat->Nat):Prop where
 lsize:listed.size=all.size
 closed:qHV all listed
 chain:qDh all ms rest=true
 nd:rest.Nodup
 bound:∀j∈rest,j<all.size
 unl:∀j,j<all.size->listed.getD j true=false->j∈pend∨j∈rest
 pu:∀j∈pend,listed.getD j true=false/\qAR all j=true/\j ∉ rest/\(∀r∈rest,(qBl ms j).testBit r=false)/\∃b,(j,b)∈fl/\qFL P all j b as w
 ru:∀j∈rest,listed.getD j true=false∨(qBm all j=true/\Orph P all O j (bo j) a)
 boi:∀i∈rest,∀j∈rest,listed.getD i true=true->listed.getD j true=true->bo i=bo j->i=j
 fsize:as.tmps.size=a.tmps.size
 fdef:as.defers=a.defers
 fill:∀s,(∀j o,(j∈pend∨(j∈rest/\listed.getD j true=true))->all[j]?=some o->o.dst≠some s)->as.tmps.getD s undef=a.tmps.getD s undef
 goes:∃n,qCo P R O V0 w0 H.N L ρ0 as.tmps w st (qCN P fs H all ms c n rest fl st k)
theorem qHH{all:Array Oper}{i:Nat}(h:qAR all i=true):qBm all i=false:=by
 unfold qAR at h;unfold qBm
 split
 ·rename_i o ho
  rw[ho]at h
  simp only[Bool.and_eq_true]at h
  cases hop:o.op <;> simp_all [floatOp]
 ·rfl
theorem qDr{all:Array Oper}{ms:List Nat}{r:Nat}{tl:List Nat}(h:qDh all ms (r::tl)=true) :
  (qAR all r=true∨∀j∈tl,(((qBl ms j).testBit r=true∨qBm all j=true)∨(qAR all j=false/\∀q∈tl,(qBl ms j).testBit q=false))∨∃q∈tl,(qBl ms j).testBit q=true/\qBm all q=false)/\(∀j∈tl,(qBl ms r).testBit j=false)/\qDh all ms tl=true:=by
 simp only[qDh,Bool.and_eq_true,Bool.or_eq_true,List.all_eq_true,List.any_eq_true,Bool.not_eq_true']at h
 exact⟨h.1.1,h.1.2,h.2⟩
theorem sameSet_spec{l m:List Nat}(h:qHj l m=true):l.length=m.length/\l.Nodup/\∀x∈l,x∈m:=by
 simp only[qHj,Bool.and_eq_true,List.all_eq_true,decide_eq_true_eq]at h
 exact⟨h.1.1,qDw h.1.2,fun x hx=>by simpa using h.2 x hx⟩
section
variable{P:Program}{R:Ending->Mem->Prop}{O V0:Mem}{w0:World}{L:List (List Value->Mem->Prop)}{ρ0:List Value}{fs:List Nat}{H:qGl}
variable{all:Array Oper}{ms:List Nat}{k:St->Tr}{rest:List Nat}{fl:List (Nat×Bool)}{st:St}{listed:Array Bool}{a as:Act}{w:World}{pend:List Nat}{bo:Nat->Nat}
theorem qHG{N:Nat}{f:Nat->Tr}{t:Tr}:∀{l:List Nat},qCo P R O V0 w0 N L ρ0 as.tmps w st (forks f t l)->qCo P R O V0 w0 N L ρ0 as.tmps w st t/\∀j∈l,qCo P R O V0 w0 N L ρ0 as.tmps w st (f j)
 | [],h=>⟨h,fun j hj=>by cases hj⟩
 | j::js,⟨β,ρ,V,hp,hr,hD⟩=>by
  obtain⟨h1,h2⟩:=qHG (l:=js) ⟨β,ρ,V,hp,hr,hD.2⟩
  refine⟨h1,fun i hi=>?_⟩
  rcases List.mem_cons.1 hi with rfl|hi
  ·exact⟨β,ρ,V,hp,hr,hD.1⟩
  ·exact h2 i hi
theorem qFF{N:Nat}{c:Bool}{n r:Nat}{tl:List Nat}{o:Oper}(ho:all[r]?=some o)(h:qCo P R O V0 w0 N L ρ0 as.tmps w st (qCN P fs H all ms c n (r::tl) fl st k)) :
  ∃m,qCo P R O V0 w0 N L ρ0 as.tmps w st (guardD all o st (qHN P fs H all ms r o fl fun fl st=>qCN P fs H all ms true m tl fl st k) (drawNo H all ms r o fl fun fl st=>qCN P fs H all ms true m tl fl st k)) /\
   (c=true->∀j∈altsOf all ms r tl,∃l,qHj (j::l) (r::tl)=true/\qDh all ms (j::l)=true/\qCo P R O V0 w0 N L ρ0 as.tmps w st (qCN P fs H all ms false m (j::l) fl st k)):=by
 cases n with
 | zero=>obtain⟨β,ρ,V,hp,hr,hD⟩:=h;exact hD.elim
 | succ m =>
  unfold qCN at h
  rw[ho]at h
  simp only at h
  obtain⟨h1,h2⟩:=qHG h
  refine⟨m,h1,fun hc j hj=>?_⟩
  subst hc
  have h3:=h2 j hj
  split at h3
  ·rename_i hc
   simp only[Bool.and_eq_true]at hc
   exact⟨_,hc.1,hc.2,h3⟩
  ·obtain⟨β,ρ,V,hp,hr,hD⟩:=h3;exact hD.elim
theorem qGA{N:Nat}{o:Oper}{yes no:St->Tr}(h:qCo P R O V0 w0 N L ρ0 as.tmps w st (guardD all o st yes no)) :
  (Region.wanted o (yielded all as.tmps)=true/\∃st',qCo P R O V0 w0 N L ρ0 as.tmps w st' (yes st')) ∨
  (Region.wanted o (yielded all as.tmps)=false/\∃st',qCo P R O V0 w0 N L ρ0 as.tmps w st' (no st')):=by
 unfold guardD at h
 split at h
 ·rename_i hg;exact .inl ⟨by simp[Region.wanted,hg],st,h⟩
 ·rename_i j want hg
  split at h
  ·obtain⟨β,ρ,V,hp,hr,hD⟩:=h;exact hD.elim
  ·rename_i d hj
   have hy:=qEj (tmps:=as.tmps) hj
   have hwant:Region.wanted o (yielded all as.tmps)=(yielded all as.tmps j==some want):=by simp[Region.wanted,hg]
   obtain⟨β,ρ,V,hp,hr,hD⟩:=h
   split at hD
   ·rename_i v hv
    rw[hr.getD_size hv]at hy
    simp only[T.ev]at hy
    split at hD
    ·rename_i e;subst e;exact .inl ⟨by rw[hwant,hy];simp,st,β,ρ,V,hp,hr,hD⟩
    ·rename_i e;exact .inr ⟨by rw[hwant,hy];simpa using e,st,β,ρ,V,hp,hr,hD⟩
   ·rename_i hv
    rw[hr.getD_size hv]at hy
    have:yielded all as.tmps j=none:=by rw[hy];rfl
    exact .inr ⟨by rw[hwant,this];rfl,st,β,ρ,V,hp,hr,hD⟩
   ·rename_i c _ _ hv
    split at hD
    ·rename_i hc
     obtain⟨hc1,hc2,hc3⟩:=hc
     obtain⟨b,hb⟩:=qFy (ρ:=ρ) (β:=β) hc1
     rw[hr.getD_size hv,hb]at hy
     simp only at hy
     simp only[D]at hD
     have hfr:=(T.ev_free (β:=id) (β':=β) (ρ:=ρ) c hc2).1
     have hlearn:Rel O V0 w0 N β (st.now d (.bool b)) ρ V as.tmps w:=hr.now hv (by rw[hb];rfl)
     cases b with
     | true =>
      have hD':=hD.1 (by rw[hfr,hb];rfl)
      split at hD'
      ·rename_i e;exact .inl ⟨by rw[hwant,hy,e];rfl,_,β,ρ,V,hp.now _ _,hlearn,hD'⟩
      ·rename_i e;exact .inr ⟨by rw[hwant,hy];simpa using e,_,β,ρ,V,hp.now _ _,hlearn,hD'⟩
     | false =>
      have hD':=hD.2 (by rw[hfr,hb];rfl)
      split at hD'
      ·rename_i e;exact .inr ⟨by rw[hwant,hy,e];rfl,_,β,ρ,V,hp.now _ _,hlearn,hD'⟩
      ·rename_i e;exact .inl ⟨by rw[hwant,hy];simpa using e,_,β,ρ,V,hp.now _ _,hlearn,hD'⟩
    ·exact hD.elim
   ·exact hD.elim
end
section
variable{P:Program}{R:Ending->Mem->Prop}{O V0:Mem}{w0:World}{L:List (List Value->Mem->Prop)}{ρ0:List Value}{fs:List Nat}{H:qGl}
variable{all:Array Oper}{ms:List Nat}{k:St->Tr}{rest:List Nat}{fl:List (Nat×Bool)}{st:St}{listed:Array Bool}{a as:Act}{w:World}{pend:List Nat}{bo:Nat->Nat}
theorem isFloat_dst{i:Nat}{o:Oper}(h:qAR all i=true)(ho:all[i]?=some o):∃d,o.dst=some d:=by
 unfold qAR at h;rw[ho]at h
 simp only[Bool.and_eq_true]at h
 exact Option.isSome_iff_exists.1 h.2
theorem qFE{N d:Nat}{o:Oper}(h:qEC N o.dst=true)(hd:o.dst=some d):d<N:=by
 rw[hd]at h;simpa [qEC]using h
theorem Inv.float(hok:qEH P all ms){r:Nat}{tl:List Nat}(h:Inv true P R V0 w0 L ρ0 fs H all ms k (r::tl) fl st listed a w as pend O bo)(hr:qAR all r=true) :
  ∃fl' st' as',Inv true P R V0 w0 L ρ0 fs H all ms k tl fl' st' listed a w as' (r::pend) O bo:=by
 obtain⟨hnr,hnd⟩:=List.nodup_cons.1 h.nd
 obtain⟨_,hc2,hc3⟩:=qDr h.chain
 have hrl:listed.getD r true=false:=by
  rcases h.ru r List.mem_cons_self with h1|h1
  ·exact h1
  ·rw[qHH hr]at h1;cases h1.1
 have hrlt:=h.bound r List.mem_cons_self
 obtain⟨o,ho⟩:∃o,all[r]?=some o:=⟨_,Array.getElem?_eq_getElem hrlt⟩
 obtain⟨d,hd⟩:=isFloat_dst hr ho
 have hself:∀d',o.dst=some d'->d' ∉ o.looksAt all:=fun d' hd' hm=>(hok.look r o r o d' ho hm (.inl hr) ho hd').2 rfl
 obtain⟨n0,hg0⟩:=h.goes
 obtain⟨m,hg,_⟩:=qFF ho hg0
 clear hg0
 -- what is left to be shown, whichever way it goes
 have fin:∀(b:Bool) (v:Value) (st':St),d<H.N->qEW all fl o.dst=true->Region.wanted o (yielded all as.tmps)=b ->
   (b=true->∀w',Ext w w'->(execOp as.eval o).run P w'=.ok (.value v) w')->(b=false->v=undef) ->
   qCo P R O V0 w0 H.N L ρ0 (as.put o.dst v).tmps w st' (qCN P fs H all ms true m tl ((r,b)::fl) st' k) ->
   ∃fl' st' as',Inv true P R V0 w0 L ρ0 fs H all ms k tl fl' st' listed a w as' (r::pend) O bo:=by
  intro b v st' hdlt hap hw h1 h2 hG
  have hdsz:d<as.tmps.size:=by
   obtain⟨β,ρ,V,hp,hrr,_⟩:=hG
   have h5:as.tmps.size=H.N:=by have:=hrr.size;rwa [qCf]at this
   rw[h5];exact hdlt
  have hPr:qFL P all r b (as.put o.dst v) w:=by
   refine⟨o,d,ho,hd,by rw[qCf];exact hdsz,by rw[wanted_put o as o.dst v hself];exact hw,fun hb w' e=>?_,fun hb=>?_⟩
   ·rw[execOp_put o (noSel hok.sel ho) as o.dst v hself,h1 hb w' e,hd,qBj hdsz]
   ·rw[hd,qBj hdsz];exact h2 hb
  refine⟨(r,b)::fl,st',as.put o.dst v,
   {lsize:=h.lsize,closed:=h.closed,chain:=hc3,nd:=hnd,bound:=fun j hj=>h.bound j (List.mem_cons_of_mem _ hj),unl:=fun j hj hl=>?_,pu:=fun j hj=>?_,ru:=fun j hj=>h.ru j (List.mem_cons_of_mem _ hj)
    boi:=fun i hi j hj=>h.boi i (List.mem_cons_of_mem _ hi) j (List.mem_cons_of_mem _ hj),fsize:=by rw[qCf];exact h.fsize,fdef:=by rw[qAT];exact h.fdef,fill:=fun s hs=>?_,goes:=⟨_,hG⟩ }⟩
  ·rcases h.unl j hj hl with h3|h3
   ·exact .inl (List.mem_cons_of_mem _ h3)
   ·rcases List.mem_cons.1 h3 with rfl|h3
    ·exact .inl List.mem_cons_self
    ·exact .inr h3
  ·rcases List.mem_cons.1 hj with rfl|hj
   ·exact⟨hrl,hr,hnr,hc2,b,List.mem_cons_self,hPr⟩
   ·obtain⟨g1,g2,g3,g4,b',g5,g6⟩:=h.pu j hj
    refine⟨g1,g2,fun hm=>g3 (List.mem_cons_of_mem _ hm),fun r' hr'=>g4 r' (List.mem_cons_of_mem _ hr'),b',List.mem_cons_of_mem _ g5,g6.put hok.sel fun o' ho' d' hd'=>?_⟩
    refine⟨qDa hap g5 o' ho' d' hd',fun e=>?_⟩
    have:=hok.dsts j r o' o d' ho' ho e hd'
    subst this;exact g3 List.mem_cons_self
  ·have hne:o.dst≠some s:=hs r o (.inl List.mem_cons_self) ho
   rw[qAY hne]
   refine h.fill s fun j o' hj ho'=>?_
   rcases hj with hj|⟨hj,hl⟩
   ·exact hs j o' (.inl (List.mem_cons_of_mem _ hj)) ho'
   ·rcases List.mem_cons.1 hj with rfl|hj
    ·exact hs j o' (.inl List.mem_cons_self) ho'
    ·exact hs j o' (.inr ⟨hj,hl⟩) ho'
 rcases qGA hg with⟨hw,st',hy⟩|⟨hw,st',hn⟩
 ·unfold qHN at hy
  rw[if_pos hr]at hy
  obtain⟨β,ρ,V,hp,hrr,hD⟩:=hy
  split at hD
  case isFalse=>exact hD.elim
  rename_i hc
  simp only[Bool.and_eq_true]at hc
  split at hD
  ·rename_i ns t hpu
   obtain⟨g1,g2⟩:=qEP hD β
   exact fin true (t.ev ρ β) _ (qFE hc.1 hd) hc.2 hw (fun _ w' e=>qHo (hrr.ext e) hpu g1) (fun h=>by cases h) ⟨β,ρ,V,hp.putO _ _,hrr.putO hc.1 t rfl,g2⟩
  ·split at hD
   ·rename_i ty x hop
    obtain⟨v,st2,g1,g2⟩:=exLoad_run hop hc.1 ⟨β,ρ,V,hp,hrr,hD⟩
    exact fin true v st2 (qFE hc.1 hd) hc.2 hw (fun _=>g1) (fun h=>by cases h) g2
   ·exact hD.elim
 ·unfold drawNo at hn
  obtain⟨β,ρ,V,hp,hrr,hD⟩:=hn
  split at hD
  case isFalse=>exact hD.elim
  rename_i hc
  simp only[Bool.and_eq_true]at hc
  exact fin false undef _ (qFE hc.1 hd) hc.2 hw (fun h=>by cases h) (fun _=>rfl) ⟨β,ρ,V,hp.putO _ _,hrr.putO hc.1 .und rfl,hD⟩
theorem Inv.commit(hok:qEH P all ms){r:Nat}{tl:List Nat}(h:Inv true P R V0 w0 L ρ0 fs H all ms k (r::tl) fl st listed a w as pend O bo)(hr:qAR all r=false)(hl:listed.getD r true=true) :
  ∃st' as' O',Inv true P R V0 w0 L ρ0 fs H all ms k tl fl st' listed a w as' pend O' bo:=by
 obtain⟨hnr,hnd⟩:=List.nodup_cons.1 h.nd
 obtain⟨_,hc2,hc3⟩:=qDr h.chain
 obtain⟨hal,o,d,e,z,ho,hd,hop,hz,hO,hv⟩:qBm all r=true/\Orph P all O r (bo r) a:=by
  rcases h.ru r List.mem_cons_self with h1|h1
  ·rw[h1]at hl;cases hl
  ·exact h1
 obtain⟨n0,hg0⟩:=h.goes
 obtain⟨m,hg,_⟩:=qFF ho hg0
 clear hg0
 have hguard:o.guard=none:=by
  unfold qBm at hal;rw[ho]at hal
  simp only[Bool.and_eq_true]at hal
  simpa using hal.1.1.2
 unfold guardD at hg
 rw[hguard]at hg
 simp only at hg
 unfold qHN at hg
 rw[if_neg (by rw[hr];simp),if_pos hal]at hg
 obtain⟨β,ρ,V,hp,hrr,hD⟩:=hg
 split at hD
 case isFalse=>exact hD.elim
 rename_i hap
 unfold exOp at hD
 split at hD
 case isFalse=>exact hD.elim
 rename_i hdo
 have hpu:pur P st o.op=none:=by rw[hop];rfl
 rw[hpu]at hD
 simp only[hop]at hD
 obtain⟨cs,hcs⟩:=Option.isSome_iff_exists.1 (hok.allocs r o e ho hop)
 rw[hcs]at hD
 simp only at hD
 obtain⟨z',hz',hzc⟩:=qCQ (ρ:=ρ) (β:=β) hcs
 rw[hz]at hz';cases hz'
 have hcells:((T.ofList cs).evs ρ β).toArray=z.cells:=by rw[qAp,<- hzc,Array.toArray_toList]
 unfold qGe at hD
 split at hD
 case isFalse=>exact hD.elim
 rename_i hwf
 simp only[Bool.and_eq_true]at hwf
 have hr2:=hrr.adopt hwf.1 hwf.2 (ty:=e) (b:=bo r) (by rw[hcells];exact hO)
 have hx:Value.pointer (some ⟨bo r,0,none⟩)=(T.box st.nb 0).ev ρ (upd β st.nb (bo r)):=by simp[T.ev,upd]
 have hr3:=hr2.putO hdo (T.box st.nb 0) hx
 have hp3:Pre ρ0 L ρ (({ st with boxes:=(st.nb,T.ofList cs,e)::st.boxes,nb:=st.nb+1 }:St).putO o.dst (T.box st.nb 0)):=Pre.putO (st:={ st with boxes:=(st.nb,T.ofList cs,e)::st.boxes,nb:=st.nb+1 }) ⟨hp.1,hp.2⟩ _ _
 simp only[hd]at hD hr3 hp3
 have hdsz:d<as.tmps.size:=by rw[hrr.size];exact qFE hdo hd
 obtain⟨st',hG⟩:∃st',qCo P R (fun c=>if c=bo r then none else O c) V0 w0 H.N L ρ0 (as.put (some d) (.pointer (some ⟨bo r,0,none⟩))).tmps w st' (qCN P fs H all ms true m tl fl st' k):=by
  split at hD
  ·exact qCj _ _ _ _ ⟨_,_,_,hp3,hr3,hD⟩
  ·exact⟨_,_,_,_,hp3,hr3,hD⟩
 refine⟨st',as.put (some d) (.pointer (some ⟨bo r,0,none⟩)),_,
  {lsize:=h.lsize,closed:=h.closed,chain:=hc3,nd:=hnd,bound:=fun j hj=>h.bound j (List.mem_cons_of_mem _ hj),unl:=fun j hj hl'=>?_,pu:=fun j hj=>?_,ru:=fun j hj=>?_
   boi:=fun i hi j hj=>h.boi i (List.mem_cons_of_mem _ hi) j (List.mem_cons_of_mem _ hj),fsize:=by rw[qCf];exact h.fsize,fdef:=by rw[qAT];exact h.fdef,fill:=fun s hs=>?_,goes:=⟨_,hG⟩ }⟩
 ·rcases h.unl j hj hl' with h3|h3
  ·exact .inl h3
  ·rcases List.mem_cons.1 h3 with rfl|h3
   ·rw[hl]at hl';cases hl'
   ·exact .inr h3
 ·obtain⟨g1,g2,g3,g4,b',g5,g6⟩:=h.pu j hj
  refine⟨g1,g2,fun hm=>g3 (List.mem_cons_of_mem _ hm),fun r' hr'=>g4 r' (List.mem_cons_of_mem _ hr'),b',g5,g6.put hok.sel fun o' ho' d' hd'=>?_⟩
  rw[<- hd]at hd'
  refine⟨qDa hap g5 o' ho' d' hd',fun e=>?_⟩
  have:=hok.dsts j r o' o d' ho' ho e hd'
  subst this;exact g3 List.mem_cons_self
 ·rcases h.ru j (List.mem_cons_of_mem _ hj) with h1|⟨h1,o',d',e',z',k1,k2,k3,k4,k5,k6⟩
  ·exact .inl h1
  ·by_cases hlj:listed.getD j true=false
   ·exact .inl hlj
   ·refine .inr ⟨h1,o',d',e',z',k1,k2,k3,k4,?_,k6⟩
    have hne:bo j≠bo r:=fun e=>by
     have:=h.boi j (List.mem_cons_of_mem _ hj) r List.mem_cons_self (by simpa using hlj) hl e
     subst this;exact hnr hj
    simp only[if_neg hne];exact k5
 ·by_cases hsd:s=d
  ·subst hsd;rw[qBj hdsz];exact hv.symm
  ·rw[qAY (by simpa using fun e=>hsd e.symm)]
   refine h.fill s fun j o' hj ho'=>?_
   rcases hj with hj|⟨hj,hl'⟩
   ·exact hs j o' (.inl hj) ho'
   ·rcases List.mem_cons.1 hj with rfl|hj
    ·rw[ho]at ho';cases ho';rw[hd];simpa using fun e=>hsd e.symm
    ·exact hs j o' (.inr ⟨hj,hl'⟩) ho'
theorem Inv.advance(hok:qEH P all ms):∀(rest:List Nat) {fl:List (Nat×Bool)} {st:St} {as:Act} {pend:List Nat} {O:Mem},Inv true P R V0 w0 L ρ0 fs H all ms k rest fl st listed a w as pend O bo ->
  ∃rest' fl' st' as' pend' O',Inv true P R V0 w0 L ρ0 fs H all ms k rest' fl' st' listed a w as' pend' O' bo/\(∀r tl,rest'=r::tl->qAR all r=false/\listed.getD r true=false)
 | [],fl,st,as,pend,O,h=>⟨[],fl,st,as,pend,O,h,fun r tl e=>by cases e⟩
 | r::tl,fl,st,as,pend,O,h=>by
  by_cases hr:qAR all r=true
  ·obtain⟨fl',st',as',h'⟩:=h.float hok hr
   exact Inv.advance hok tl h'
  ·have hr':qAR all r=false:=by simpa using hr
   by_cases hl:listed.getD r true=true
   ·obtain⟨st',as',O',h'⟩:=h.commit hok hr' hl
    exact Inv.advance hok tl h'
   ·exact⟨r::tl,fl,st,as,pend,O,h,fun r' tl' e=>by cases e;exact⟨hr',by simpa using hl⟩⟩
end
theorem qIu{all:Array Oper}(hs:∀o,o∈all.toList->qCh o.op=false){i:Nat}{o:Oper}(ho:all[i]?=some o){a as:Act}
  (h:∀t∈o.looksAt all,as.tmps.getD t undef=a.tmps.getD t undef) :
  execOp a.eval o=execOp as.eval o/\Region.wanted o (yielded all a.tmps)=Region.wanted o (yielded all as.tmps):=by
 constructor
 ·refine execOp_congr o (noSel hs ho) fun x hx=>?_
  cases x with
  | tmp t =>
   have:=h t (List.mem_append_left _ (List.mem_filterMap.2 ⟨.tmp t,by simpa using hx,rfl⟩))
   simp only[Act.eval]
   show a.tmps.getD t undef=as.tmps.getD t undef
   exact this.symm
  | _=>rfl
 ·unfold Region.wanted
  cases hg:o.guard with
  | none=>rfl
  | some gw =>
   obtain⟨g,want⟩:=gw
   simp only
   cases ht:(all[g]?).bind (·.dst) with
   | none=>simp[yielded,ht]
   | some d =>
    have:=h d (List.mem_append_right _ (by simp[hg,ht]))
    rw[qEj ht,qEj ht,this]
theorem nodup_sub:∀{l m:List Nat},l.Nodup->(∀x∈l,x∈m)->l.length<=m.length
 | [],m,_,_=>Nat.zero_le _
 | x::l,m,hn,h=>by
  obtain⟨h1,h2⟩:=List.nodup_cons.1 hn
  have hm:=h x List.mem_cons_self
  have:=nodup_sub (m:=m.erase x) h2 fun y hy=>by
   have hne:y≠x:=fun e=>h1 (by rw[<- e];exact hy)
   exact(List.mem_erase_of_ne hne).2 (h y (List.mem_cons_of_mem _ hy))
  rw[List.length_erase_of_mem hm]at this
  have hpos:0<m.length:=List.length_pos_of_mem hm
  simp only[List.length_cons];omega
theorem qGu{l:List Nat}{i x:Nat}(h:i ∉ l)(hx:x∈l):i≠x:=fun e=>h (e ▸ hx)
theorem set_same{l:Array Bool}{i:Nat}(h:i<l.size)(d:Bool):(l.setIfInBounds i true).getD i d=true:=by
 simp[Array.getD,h]
theorem qAB{l:Array Bool}{i j:Nat}(h:i≠j)(d:Bool):(l.setIfInBounds i true).getD j d=l.getD j d:=by
 rw[Array.getD_eq_getD_getElem?,Array.getD_eq_getD_getElem?,Array.getElem?_setIfInBounds_ne h]
theorem qGU{l:Array Bool}{j:Nat}(h:l.getD j true=false):l.getD j false=false:=by
 simp only[Array.getD]at h ⊢
 split at h
 ·rename_i h1;simpa [h1]using h
 ·cases h
theorem ready_mem{all:Array Oper}{listed:Array Bool}{i:Nat}(h:i∈Region.ready .any all listed) :
  i<all.size/\listed.getD i true=false/\∃o,all[i]?=some o/\∀e∈o.after,Region.binds .any e=true->listed.getD e.on false=true:=by
 simp only[Region.ready,List.mem_filter,List.mem_range,Bool.and_eq_true,Bool.not_eq_true']at h
 obtain⟨h1,h2,h3⟩:=h
 refine⟨h1,h2,all[i],Array.getElem?_eq_getElem h1,fun e he hb=>?_⟩
 rw[Array.getElem?_eq_getElem h1]at h3
 simp only[Option.map_some,Option.getD_some,Array.all_eq_true_iff_forall_mem]at h3
 have:=h3 e he
 simpa [hb]using this
theorem ready_ne{all:Array Oper}{listed:Array Bool}(he:qJR all)(hs:listed.size=all.size):∀j,j<all.size->listed.getD j true=false->Region.ready .any all listed≠[]:=by
 intro j
 induction j using Nat.strongRecOn with
 | _ j ih =>
  intro hj hl
  have ho:=Array.getElem?_eq_getElem hj
  by_cases h:∃e∈all[j].after,Region.binds .any e=true/\listed.getD e.on false=false
  ·obtain⟨e,h1,h2,h3⟩:=h
   have hlt:=he j _ ho e h1 h2
   refine ih e.on hlt (by omega) ?_
   have:e.on<listed.size:=by omega
   simp only[Array.getD,this,dif_pos]at h3 ⊢
   exact h3
  ·intro hn
   have:j∈Region.ready .any all listed:=by
    simp only[Region.ready,List.mem_filter,List.mem_range,Bool.and_eq_true,Bool.not_eq_true']
    refine⟨hj,hl,?_⟩
    rw[ho]
    simp only[Option.map_some,Option.getD_some,Array.all_eq_true_iff_forall_mem,Bool.or_eq_true,Bool.not_eq_true']
    intro e h1
    by_cases hb:Region.binds .any e=true
    ·right
     cases h3:listed.getD e.on false with
     | true=>rfl
     | false=>exact absurd ⟨e,h1,hb,h3⟩ h
    ·left;simpa using hb
   rw[hn]at this;cases this
theorem wp_transfer{P:Program}{o:Oper}{a as:Act}{w:World}{K:Act->World->Prop}{Q:Exit->Act->World->Prop}(he:execOp a.eval o=execOp as.eval o)(hd:∀d,o.dst=some d->d<as.tmps.size)
  (h:o.wp P as w (fun as' w'=>∃v,as'=as.put o.dst v/\K (a.put o.dst v) w') (fun e _ w'=>match e with | .panic ch=>Q (.panic ch) a w'|_=>False)) (hlo:LetsOut (fun(_:Exit) (_:Act) (_:World)=>False)->LetsOut Q):o.wp P a w K Q:=by
 have hput:∀v v' w',as.put o.dst v=as.put o.dst v'->K (a.put o.dst v') w'->K (a.put o.dst v) w':=by
  intro v v' w' e hK
  cases hdst:o.dst with
  | none=>rw[hdst]at hK;exact hK
  | some d =>
   have h1:=hd d hdst
   rw[hdst]at e hK
   have:v=v':=by
    have e1:=congrArg (fun x:Act=>x.tmps.getD d undef) e
    simpa only[qBj h1]using e1
   subst this;exact hK
 unfold Oper.wp at *
 rw[he]
 generalize (execOp as.eval o).run P w=r at *
 cases r with
 | ok n w' =>
  cases n with
  | value v=>simp only[Oper.upon]at h ⊢;obtain⟨v',h1,h2⟩:=h;exact hput v v' w' h1 h2
  | skip=>simp only[Oper.upon]at h ⊢;obtain⟨v',h1,h2⟩:=h;exact hput undef v' w' h1 h2
  | defer d =>
   simp only[Oper.upon]at h ⊢
   obtain⟨v',h1,h2⟩:=h
   have e:=congrArg (fun x:Act=>x.defers) h1
   simp only[qAT]at e
   have:=congrArg List.length e
   simp at this
  | enter f args =>
   simp only[Oper.upon]at h ⊢
   refine Calls.mono h fun e w'' he=>?_
   cases e with
   | returned v=>obtain⟨v',h1,h2⟩:=he;exact hput v v' w'' h1 h2
   | panicked c=>exact he
   | outgrown=>exact hlo (by obtain⟨a',w',h⟩:=he;exact h.elim)
  | row nm args =>
   simp only[Oper.upon]at h ⊢
   exact Rows.mono h fun v w'' ⟨v',h1,h2⟩=>hput v v' w'' h1 h2
  | _=>simp only[Oper.upon]at h ⊢
 | halt x w'=>cases x <;> simp only[Oper.upon]at h ⊢ <;> exact h
section
variable{P:Program}{R:Ending->Mem->Prop}{O V0:Mem}{w0:World}{L:List (List Value->Mem->Prop)}{ρ0:List Value}{fs:List Nat}{H:qGl}
variable{all:Array Oper}{k:St->Tr}{rest:List Nat}{fl:List (Nat×Bool)}{st:St}{listed:Array Bool}{a as:Act}{w:World}{pend:List Nat}{bo:Nat->Nat}
theorem qGg(hs:listed.size=all.size)(h:qHV all listed){i:Nat}{o:Oper}(ho:all[i]?=some o)(hi:∀e∈o.after,Region.binds .any e=true->listed.getD e.on false=true) :
  qHV all (listed.setIfInBounds i true):=by
 have up:∀j,listed.getD j false=true->(listed.setIfInBounds i true).getD j false=true:=by
  intro j hj
  by_cases e:i=j
  ·subst e;exact set_same (by rw[hs];exact(Array.getElem?_eq_some_iff.1 ho).1) _
  ·rw[qAB e];exact hj
 intro j oj hj hl e he hb
 by_cases e':i=j
 ·subst e';rw[ho]at hj;cases hj;exact up _ (hi e he hb)
 ·rw[qAB e']at hl;exact up _ (h j oj hj hl e he hb)
theorem qIJ{c:Bool}{ms:List Nat}(hok:qEH P all ms)(h:Inv c P R V0 w0 L ρ0 fs H all ms k rest fl st listed a w as pend O bo){i:Nat}{o:Oper}(ho:all[i]?=some o)
  (hm:∀j,(qBl ms i).testBit j=true->listed.getD j false=true) (hrest:∀j∈rest,j≠i->(qBl ms i).testBit j=false):∀t∈o.looksAt all,as.tmps.getD t undef=a.tmps.getD t undef:=by
 intro t ht
 refine h.fill t fun j oj hj hoj hd=>?_
 rcases hj with hj|⟨hj,hl⟩
 ·obtain⟨g1,g2,_⟩:=h.pu j hj
  have:=hm j (hok.look i o j oj t ho ht (.inl g2) hoj hd).1
  rw[qGU g1]at this;cases this
 ·rcases h.ru j hj with g|⟨g,_⟩
  ·rw[g]at hl;cases hl
  ·obtain⟨g1,g2⟩:=hok.look i o j oj t ho ht (.inr g) hoj hd
   rw[hrest j hj g2]at g1;cases g1
theorem Orph.put{ms:List Nat}(hok:qEH P all ms){i j b:Nat}{o:Oper}(ho:all[i]?=some o)(hne:i≠j)(h:Orph P all O j b a)(v:Value):Orph P all O j b (a.put o.dst v):=by
 obtain⟨o',d',e',z',k1,k2,k3,k4,k5,k6⟩:=h
 exact⟨o',d',e',z',k1,k2,k3,k4,k5,by rw[qAY fun e=>hne (hok.dsts i j o o' d' ho k1 e k2)];exact k6⟩
theorem Inv.carry{ms:List Nat}(hok:qEH P all ms)(h:Inv true P R V0 w0 L ρ0 fs H all ms k rest fl st listed a w as pend O bo){i:Nat}(hi:i∈pend){o:Oper}(ho:all[i]?=some o){d:Nat}(hd:o.dst=some d)(hdlt:d<a.tmps.size)
  (hre:∀e∈o.after,Region.binds .any e=true->listed.getD e.on false=true) :
  Inv true P R V0 w0 L ρ0 fs H all ms k rest fl st (listed.setIfInBounds i true) (a.put o.dst (as.tmps.getD d undef)) w as (pend.filter (·≠i)) O bo:=by
 have hir:i ∉ rest:=(h.pu i hi).2.2.1
 have hlt:i<listed.size:=by rw[h.lsize];exact(Array.getElem?_eq_some_iff.1 ho).1
 exact
 {lsize:=by rw[Array.size_setIfInBounds];exact h.lsize
  closed:=qGg h.lsize h.closed ho hre
  chain:=h.chain,nd:=h.nd,bound:=h.bound
  unl:=fun j hj hl=>by
   by_cases e:i=j
   ·subst e;rw[set_same hlt]at hl;cases hl
   ·rw[qAB e]at hl
    rcases h.unl j hj hl with h1|h1
    ·exact .inl (List.mem_filter.2 ⟨h1,by simpa using fun e'=>e e'.symm⟩)
    ·exact .inr h1
  pu:=fun j hj=>by
   obtain⟨h1,h2⟩:=List.mem_filter.1 hj
   have hne:i≠j:=fun e=>by simp[e]at h2
   rw[qAB hne]
   exact h.pu j h1
  ru:=fun j hj=>by
   have hne:i≠j:=qGu hir hj
   rw[qAB hne]
   exact(h.ru j hj).imp id fun⟨g1,g2⟩=>⟨g1,g2.put hok ho hne _⟩
  boi:=fun x hx y hy hlx hly=>by
   rw[qAB (qGu hir hx)]at hlx
   rw[qAB (qGu hir hy)]at hly
   exact h.boi x hx y hy hlx hly
  fsize:=by rw[qCf];exact h.fsize
  fdef:=by rw[qAT];exact h.fdef
  fill:=fun s hs=>by
   by_cases e:d=s
   ·subst e;rw[hd,qBj hdlt]
   ·rw[hd,qAY (by simpa using e)]
    refine h.fill s fun j o' hj ho'=>?_
    rcases hj with hj|⟨hj,hl⟩
    ·by_cases e':j=i
     ·subst e';rw[ho]at ho';cases ho';rw[hd];simpa using e
     ·exact hs j o' (.inl (List.mem_filter.2 ⟨hj,by simpa using e'⟩)) ho'
    ·exact hs j o' (.inr ⟨hj,by rw[qAB (qGu hir hj)];exact hl⟩) ho'
  goes:=h.goes }
theorem Inv.make{ms:List Nat}(hok:qEH P all ms)(h:Inv true P R V0 w0 L ρ0 fs H all ms k rest fl st listed a w as pend O bo){i:Nat}(hi:i∈rest)(hip:i ∉ pend){o:Oper}(ho:all[i]?=some o){d:Nat}(hd:o.dst=some d)(hdlt:d<a.tmps.size)
  (hal:qBm all i=true) {e:TypeId} (hop:o.op=.alloc e) {z:Value} (hz:qFb P e=some z)
  (hre:∀e∈o.after,Region.binds .any e=true->listed.getD e.on false=true) :
  Inv true P R V0 w0 L ρ0 fs H all ms k rest fl st (listed.setIfInBounds i true) (a.put o.dst (.pointer (some ⟨w.heap.size,0,none⟩))) (w.alloc (.cells z.cells e (0,0))) as pend (O.set w.heap.size (.cells z.cells e (0,0))) (upd bo i w.heap.size):=by
 have hlt:i<listed.size:=by rw[h.lsize];exact(Array.getElem?_eq_some_iff.1 ho).1
 obtain⟨n0,β,ρ,V,hp,hr,hD⟩:=h.goes
 have hO:∀b o,O b=some o->b<w.heap.size:=fun b o hb=>(Array.getElem?_eq_some_iff.1 (hr.hid b o hb).1).1
 have horph:∀j∈rest,j≠i->(listed.setIfInBounds i true).getD j true=true->qBm all j=true/\Orph P all O j (bo j) a:=by
  intro j hj hne hl
  rw[qAB (fun e=>hne e.symm)]at hl
  rcases h.ru j hj with g|g
  ·rw[g]at hl;cases hl
  ·exact g
 exact
 {lsize:=by rw[Array.size_setIfInBounds];exact h.lsize
  closed:=qGg h.lsize h.closed ho hre
  chain:=h.chain,nd:=h.nd,bound:=h.bound
  unl:=fun j hj hl=>by
   by_cases e:i=j
   ·subst e;rw[set_same hlt]at hl;cases hl
   ·rw[qAB e]at hl;exact h.unl j hj hl
  pu:=fun j hj=>by
   have hne:i≠j:=qGu hip hj
   rw[qAB hne]
   obtain⟨g1,g2,g3,g4,b,g5,g6⟩:=h.pu j hj
   exact⟨g1,g2,g3,g4,b,g5,g6.ext (Ext.alloc _ _)⟩
  ru:=fun j hj=>by
   by_cases e':i=j
   ·subst e'
    exact .inr ⟨hal,o,d,e,z,ho,hd,hop,hz,by simp only[upd,if_true,Mem.set_same],by simp only[upd,if_true];rw[hd,qBj hdlt]⟩
   ·cases hl:(listed.setIfInBounds i true).getD j true with
    | false=>exact .inl rfl
    | true =>
     obtain⟨g1,g2⟩:=horph j hj (fun e=>e' e.symm) hl
     obtain⟨o',d',e'',z',k1,k2,k3,k4,k5,k6⟩:=g2.put hok ho e' (.pointer (some ⟨w.heap.size,0,none⟩))
     have hje:¬j=i:=fun e=>e' e.symm
     refine .inr ⟨g1,o',d',e'',z',k1,k2,k3,k4,?_,?_⟩
     ·simp only[upd,if_neg hje]
      rw[Mem.set_ne (Nat.ne_of_lt (hO _ _ k5))];exact k5
     ·simp only[upd,if_neg hje];exact k6
  boi:=fun x hx y hy hlx hly hxy=>by
   by_cases ex:x=i <;> by_cases ey:y=i
   ·rw[ex,ey]
   ·subst ex
    obtain⟨_,_,_,_,_,_,_,_,_,k5,_⟩:=horph y hy ey hly
    have:=hO _ _ k5
    simp only[upd,if_true,if_neg ey]at hxy
    omega
   ·subst ey
    obtain⟨_,_,_,_,_,_,_,_,_,k5,_⟩:=horph x hx ex hlx
    have:=hO _ _ k5
    simp only[upd,if_true,if_neg ex]at hxy
    omega
   ·simp only[upd,if_neg ex,if_neg ey]at hxy
    rw[qAB (fun e=>ex e.symm)]at hlx
    rw[qAB (fun e=>ey e.symm)]at hly
    exact h.boi x hx y hy hlx hly hxy
  fsize:=by rw[qCf];exact h.fsize
  fdef:=by rw[qAT];exact h.fdef
  fill:=fun s hs=>by
   rw[qAY (hs i o (.inr ⟨hi,set_same hlt _⟩) ho)]
   refine h.fill s fun j o' hj ho'=>?_
   rcases hj with hj|⟨hj,hl⟩
   ·exact hs j o' (.inl hj) ho'
   ·refine hs j o' (.inr ⟨hj,?_⟩) ho'
    by_cases e':i=j
    ·subst e';exact set_same hlt _
    ·rw[qAB e'];exact hl
  goes:=⟨n0,β,ρ,V,hp,hr.orphan _,hD⟩ }
theorem Inv.lock{c:Bool}{ms:List Nat}(hok:qEH P all ms){r:Nat}{tl:List Nat}(h:Inv c P R V0 w0 L ρ0 fs H all ms k (r::tl) fl st listed a w as pend O bo){o:Oper}(ho:all[r]?=some o)(hrl:listed.getD r true=false)
  (hds:∀d,o.dst=some d->d<a.tmps.size) (hre:∀e∈o.after,Region.binds .any e=true->listed.getD e.on false=true) {v:Value} {w':World} {st':St} {fl':List (Nat×Bool)} {n:Nat}
  (hp:∀j∈pend,∃b,(j,b)∈fl'/\qFL P all j b (as.put o.dst v) w') (hG:qCo P R O V0 w0 H.N L ρ0 (as.put o.dst v).tmps w' st' (qCN P fs H all ms true n tl fl' st' k)) :
  Inv true P R V0 w0 L ρ0 fs H all ms k tl fl' st' (listed.setIfInBounds r true) (a.put o.dst v) w' (as.put o.dst v) pend O bo:=by
 obtain⟨hnr,hnd⟩:=List.nodup_cons.1 h.nd
 obtain⟨_,_,hc3⟩:=qDr h.chain
 have hlt:r<listed.size:=by rw[h.lsize];exact(Array.getElem?_eq_some_iff.1 ho).1
 exact
 {lsize:=by rw[Array.size_setIfInBounds];exact h.lsize
  closed:=qGg h.lsize h.closed ho hre
  chain:=hc3,nd:=hnd,bound:=fun j hj=>h.bound j (List.mem_cons_of_mem _ hj)
  unl:=fun j hj hl=>by
   by_cases e:r=j
   ·subst e;rw[set_same hlt]at hl;cases hl
   ·rw[qAB e]at hl
    rcases h.unl j hj hl with h1|h1
    ·exact .inl h1
    ·rcases List.mem_cons.1 h1 with h1|h1
     ·exact absurd h1.symm e
     ·exact .inr h1
  pu:=fun j hj=>by
   obtain⟨g1,g2,g3,g4,_⟩:=h.pu j hj
   have hne:r≠j:=fun e=>g3 (e ▸ List.mem_cons_self)
   rw[qAB hne]
   exact⟨g1,g2,fun hm=>g3 (List.mem_cons_of_mem _ hm),fun r' hr'=>g4 r' (List.mem_cons_of_mem _ hr'),hp j hj⟩
  ru:=fun j hj=>by
   have hne:r≠j:=qGu hnr hj
   rw[qAB hne]
   exact(h.ru j (List.mem_cons_of_mem _ hj)).imp id fun⟨g1,g2⟩=>⟨g1,g2.put hok ho hne _⟩
  boi:=fun x hx y hy hlx hly=>by
   rw[qAB (qGu hnr hx)]at hlx
   rw[qAB (qGu hnr hy)]at hly
   exact h.boi x (List.mem_cons_of_mem _ hx) y (List.mem_cons_of_mem _ hy) hlx hly
  fsize:=by rw[qCf,qCf];exact h.fsize
  fdef:=by rw[qAT,qAT];exact h.fdef
  fill:=fun s hs=>by
   by_cases e:o.dst=some s
   ·have h1:=hds s e
    rw[e,qBj h1,qBj (by rw[h.fsize];exact h1)]
   ·rw[qAY e,qAY e]
    refine h.fill s fun j o' hj ho'=>?_
    rcases hj with hj|⟨hj,hl⟩
    ·exact hs j o' (.inl hj) ho'
    ·rcases List.mem_cons.1 hj with rfl|hj
     ·rw[hrl]at hl;cases hl
     ·have hne:r≠j:=fun e'=>by subst e';exact hnr hj
      exact hs j o' (.inr ⟨hj,by rw[qAB hne];exact hl⟩) ho'
  goes:=⟨n,hG⟩ }
theorem Inv.reorder{ms:List Nat}(h:Inv true P R V0 w0 L ρ0 fs H all ms k rest fl st listed a w as pend O bo){rest':List Nat}(hs:qHj rest' rest=true)(hc:qDh all ms rest'=true){n:Nat}
  (hG:qCo P R O V0 w0 H.N L ρ0 as.tmps w st (qCN P fs H all ms false n rest' fl st k)):Inv false P R V0 w0 L ρ0 fs H all ms k rest' fl st listed a w as pend O bo:=by
 obtain⟨h1,h2,h3⟩:=sameSet_spec hs
 have h4:∀x∈rest,x∈rest':=fun x hx=>by
  by_cases hm:x∈rest'
  ·exact hm
  ·exfalso
   have hle:(x::rest').length<=rest.length:=nodup_sub (List.nodup_cons.2 ⟨hm,h2⟩) fun y hy=>by
    rcases List.mem_cons.1 hy with rfl|hy
    ·exact hx
    ·exact h3 y hy
   simp only[List.length_cons]at hle;omega
 exact
 {lsize:=h.lsize,closed:=h.closed,chain:=hc,nd:=h2,bound:=fun j hj=>h.bound j (h3 j hj),unl:=fun j hj hl=>(h.unl j hj hl).imp id (h4 j)
  pu:=fun j hj=>by
   obtain⟨g1,g2,g3,g4,g5⟩:=h.pu j hj
   exact⟨g1,g2,fun hm=>g3 (h3 j hm),fun r hr=>g4 r (h3 r hr),g5⟩
  ru:=fun j hj=>h.ru j (h3 j hj),boi:=fun i hi j hj=>h.boi i (h3 i hi) j (h3 j hj),fsize:=h.fsize,fdef:=h.fdef
  fill:=fun s hs=>h.fill s fun j o hj=>hs j o (hj.imp id fun x=>⟨h4 j x.1,x.2⟩),goes:=⟨n,hG⟩ }
end
end Go.Sx
