/- Part 4 of a proof of a law of this seat: no statement of the seat is proved here. -/
import Derived.Test.YtginfholjbbgeaaGreatDoorPart03
set_option linter.unusedVariables false
set_option linter.unusedSimpArgs false
namespace Go.Sx
open Go
section
variable{P:Program}{R:Ending->Mem->Prop}{V0:Mem}{w0:World}{L:List (List Value->Mem->Prop)}{ρ0:List Value}{fs:List Nat}{H:qGl}
variable{all:Array Oper}{k:St->Tr}{Q:Exit->Act->World->Prop}
theorem qJn:∀(n:Nat) (l:List Nat),l.Nodup->(∀x∈l,x<n)->l.length<=n
 | 0,l,_,h=>by
  cases l with
  | nil=>exact Nat.le_refl _
  | cons x l=>exact absurd (h x List.mem_cons_self) (Nat.not_lt_zero _)
 | n+1,l,hn,h=>by
  by_cases hm:n∈l
  ·have h1:=qJn n (l.erase n) (hn.erase n) fun x hx=>by
    obtain⟨h2,h3⟩:=hn.mem_erase_iff.1 hx
    have:=h x h3;omega
   rw[List.length_erase_of_mem hm]at h1
   omega
  ·have h1:=qJn n l hn fun x hx=>by
    have:=h x hx
    have hne:x≠n:=fun e=>hm (e ▸ hx)
    omega
   omega
theorem nodup_all{l:List Nat}{n:Nat}(hn:l.Nodup)(h:∀x∈l,x<n)(hl:l.length=n){j:Nat}(hj:j<n):j∈l:=by
 by_cases hm:j∈l
 ·exact hm
 ·have:=qJn n (j::l) (List.nodup_cons.2 ⟨hm,hn⟩) fun x hx=>by
   rcases List.mem_cons.1 hx with rfl|hx
   ·exact hj
   ·exact h x hx
  simp only[List.length_cons]at this;omega
theorem qJq{listed:Array Bool}(he:qJR all)(hc:qHV all listed){i:Nat}{o:Oper}(ho:all[i]?=some o)(hre:∀e∈o.after,Region.binds .any e=true->listed.getD e.on false=true) :
  ∀j,(qBl (qAF all.toList []) i).testBit j=true->listed.getD j false=true:=mask_listed he hc i o ho hre
theorem any_sound(hcalls:qBJ P fs)(hok:qEH P all (qAF all.toList []))(hdst:∀(i:Nat) (o:Oper),all[i]?=some o->qEC H.N o.dst=true){a0:Act}(hQ:qIg R V0 w0 a0.defers Q)(hlo:LetsOut (fun(_:Exit) (_:Act) (_:World)=>False)->LetsOut Q)
  (hk:∀st' a' w',a'.defers=a0.defers->qCo P R noO V0 w0 H.N L ρ0 a'.tmps w' st' (k st')->Q .normal a' w') :
  ∀(fuel:Nat) (rem:List Nat) (rest:List Nat) (fl:List (Nat×Bool)) (st:St) (listed:Array Bool) (a:Act) (w:World) (as:Act) (pend:List Nat) (O:Mem) (bo:Nat->Nat),
   Inv true P R V0 w0 L ρ0 fs H all (qAF all.toList []) k rest fl st listed a w as pend O bo->as.defers=a0.defers->rem.Nodup->rem.length=fuel->(∀j,j∈rem↔(j<all.size/\listed.getD j true=false)) ->
   wpAny P .any all Q fuel listed a w:=by
 intro fuel
 induction fuel with
 | zero =>
  intro rem rest fl st listed a w as pend O bo h hdef hnd hlen hrem
  have hnil:rem=[]:=List.length_eq_zero_iff.1 hlen
  subst hnil
  obtain⟨rest',fl',st',as',pend',O',h',hhead⟩:=h.advance hok
  have hnone:∀j,j<all.size->listed.getD j true=false->False:=fun j h1 h2=>by have:=(hrem j).2 ⟨h1,h2⟩;cases this
  have hr:rest'=[]:=by
   cases rest' with
   | nil=>rfl
   | cons r tl=>exact(hnone r (h'.bound r List.mem_cons_self) (hhead r tl rfl).2).elim
  subst hr
  have hp:pend'=[]:=by
   cases pend' with
   | nil=>rfl
   | cons j tl =>
    obtain⟨g1,_,_,_,b,_,o,d,g2,_⟩:=h'.pu j List.mem_cons_self
    exact(hnone j (Array.getElem?_eq_some_iff.1 g2).1 g1).elim
  subst hp
  refine⟨?_,?_⟩
  ·cases hrd:Region.ready .any all listed with
   | nil=>rfl
   | cons i tl =>
    obtain⟨g1,g2,_⟩:=ready_mem (all:=all) (listed:=listed) (i:=i) (by rw[hrd];exact List.mem_cons_self)
    exact(hnone i g1 g2).elim
  ·have htm:as'.tmps=a.tmps:=by
    refine Array.ext h'.fsize fun i h1 h2=>?_
    have:=h'.fill i fun j o hj=>by rcases hj with hj|⟨hj,_⟩ <;> cases hj
    simpa [Array.getD,h1,h2]using this
   obtain⟨n0,β,ρ,V,hp,hr,hD⟩:=h'.goes
   have hD:D P R (k (st'.compact H.keep)) L ρ V:=by cases n0 <;> exact hD
   refine hk (st'.compact H.keep) a w (by rw[<- h.fdef];exact hdef) ⟨β,ρ,V,hp.compact _,?_,hD⟩
   rw[<- htm]
   exact(hr.compact _).less fun b o hb=>by cases hb
 | succ fuel ih =>
  intro rem rest0 fl0 st0 listed a w as0 pend0 O0 bo h0 hdef0 hnd hlen hrem
  obtain⟨rest,fl,st,as,pend,O,h,hhead⟩:=h0.advance hok
  have hdef:as.defers=a0.defers:=by rw[h.fdef,<- h0.fdef];exact hdef0
  have next:∀{i:Nat} {rest:List Nat} {fl:List (Nat×Bool)} {st:St} {a:Act} {w:World} {as:Act} {pend:List Nat} {O:Mem} {bo:Nat->Nat},i<all.size->listed.getD i true=false ->
    Inv true P R V0 w0 L ρ0 fs H all (qAF all.toList []) k rest fl st (listed.setIfInBounds i true) a w as pend O bo->as.defers=a0.defers->wpAny P .any all Q fuel (listed.setIfInBounds i true) a w:=by
   intro i rest fl st a w as pend O bo hi hil hI hd
   have him:i∈rem:=(hrem i).2 ⟨hi,hil⟩
   refine ih (rem.erase i) rest fl st _ a w as pend O bo hI hd (hnd.erase i) (by rw[List.length_erase_of_mem him,hlen];rfl) fun j=>?_
   rw[hnd.mem_erase_iff,hrem j]
   by_cases e:i=j
   ·subst e
    rw[set_same (by rw[h.lsize];exact hi)]
    simp
   ·rw[qAB e]
    constructor
    ·exact fun x=>x.2
    ·exact fun x=>⟨fun e'=>e e'.symm,x⟩
  refine⟨fun hn=>?_,fun i hi=>?_⟩
  ·obtain⟨j,hj⟩:∃j,j∈rem:=by
    cases rem with
    | nil=>cases hlen
    | cons j _=>exact⟨j,List.mem_cons_self⟩
   obtain⟨h1,h2⟩:=(hrem j).1 hj
   exact absurd hn (ready_ne hok.edges h.lsize j h1 h2)
  ·obtain⟨hilt,hil,o,ho,hre⟩:=ready_mem hi
   have hmask:=qJq hok.edges h.closed ho hre
   have hsize:as.tmps.size=H.N:=by obtain⟨_,β,ρ,V,_,hr,_⟩:=h.goes;exact hr.size
   have hds:∀d,o.dst=some d->d<a.tmps.size:=fun d hd=>by
    rw[<- h.fsize,hsize]
    exact qFE (hdst i o ho) hd
   unfold wpOp
   simp only[ho]
   by_cases hip:i∈pend
   ·-- it floats and stands out
    obtain⟨g1,g2,g3,g4,b,g5,o',d,k1,k2,k3,k4,k5,k6⟩:=h.pu i hip
    rw[ho]at k1;cases k1
    obtain⟨e1,e2⟩:=qIu hok.sel ho (qIJ hok h ho hmask fun j hj _=>g4 j hj)
    rw[e2,k4]
    have hI:=h.carry hok hip ho k2 (hds d k2) hre
    cases b with
    | true =>
     rw[if_pos rfl]
     refine .inl ?_
     unfold Oper.wp
     rw[e1,k5 rfl w (Ext.refl w)]
     exact next hilt hil hI hdef
    | false =>
     rw[if_neg (by simp)]
     have:=next hilt hil hI hdef
     rw[k6 rfl]at this
     exact this
   ·have hir:i∈rest:=(h.unl i hilt hil).resolve_left hip
    by_cases hal:qBm all i=true
    ·-- a block is made
     have hal':=hal
     unfold qBm at hal'
     rw[ho]at hal'
     simp only[Bool.and_eq_true]at hal'
     obtain⟨⟨⟨q1,q2⟩,q3⟩,q4⟩:=hal'
     obtain⟨d,hd⟩:=Option.isSome_iff_exists.1 q4
     cases hop:o.op with
     | alloc e =>
      obtain⟨cs,hcs⟩:=Option.isSome_iff_exists.1 (hok.allocs i o e ho hop)
      obtain⟨z,hz,hzc⟩:=qCQ (ρ:=[]) (β:=id) hcs
      have hI:=h.make hok hir hip ho hd (hds d hd) hal hop hz hre
      have hg:o.guard=none:=by simpa using q2
      rw[show Region.wanted o (yielded all a.tmps)=true by simp[Region.wanted,hg],if_pos rfl]
      refine .inl ?_
      have hrun:(execOp a.eval o).run P w=.ok (.value (.pointer (some ⟨w.heap.size,0,none⟩))) (w.alloc (.cells z.cells e (0,0))):=by
       unfold execOp
       simp only[hop,Instr.alloc,qFV hz,newVar,newRow,Sem.run_bind,run_newObj,Sem.run_pure,Result.andThen_ok]
       rfl
      unfold Oper.wp
      rw[hrun]
      exact next hilt hil hI hdef
     | _=>simp[hop]at q1
    ·-- both go on
     -- i is the next one
     have go:∀{c:Bool} {tl:List Nat} {fl:List (Nat×Bool)} {st:St} {as:Act} {pend:List Nat} {O:Mem} {bo:Nat->Nat},Inv c P R V0 w0 L ρ0 fs H all (qAF all.toList []) k (i::tl) fl st listed a w as pend O bo->i ∉ pend->as.defers=a0.defers->qAR all i=false ->
       (if Region.wanted o (yielded all a.tmps) then o.wp P a w (wpAny P .any all Q fuel (listed.setIfInBounds i true)) Q∨(o.asks P a w/\LetsOut Q) else wpAny P .any all Q fuel (listed.setIfInBounds i true) (a.put o.dst undef) w):=by
      clear h hdef hsize hip hir hhead
      intro c tl fl st as pend O bo h hip hdef hrf
      obtain⟨_,hc2,hc3⟩:=qDr h.chain
      have hnotin:∀j∈pend,(qBl (qAF all.toList []) i).testBit j=false:=fun j hj=>by
       cases hb:(qBl (qAF all.toList []) i).testBit j with
       | false=>rfl
       | true =>
        have:=hmask j hb
        rw[qGU (h.pu j hj).1]at this;cases this
      obtain⟨e1,e2⟩:=qIu hok.sel ho (qIJ hok h ho hmask fun j hj hne=>by
       rcases List.mem_cons.1 hj with e|e
       ·exact absurd e hne
       ·exact hc2 j e)
      rw[e2]
      obtain⟨n0,hg0⟩:=h.goes
      obtain⟨m,hg,_⟩:=qFF ho hg0
      have hneq:∀j∈pend,∀oj,all[j]?=some oj->∀d',o.dst=some d'->oj.dst≠some d':=fun j hj oj hoj d' hd' e=>by
       have:=hok.dsts j i oj o d' hoj ho e hd'
       exact hip (this ▸ hj)
      rcases qGA hg with⟨hw,st',hy⟩|⟨hw,st',hn⟩
      ·rw[hw,if_pos rfl]
       refine .inl ?_
       unfold qHN at hy
       rw[if_neg (by rw[hrf];simp),if_neg hal]at hy
       have hy':qEW all (qCv (qAF all.toList []) i fl) o.dst=true/\qCo P R O V0 w0 H.N L ρ0 as.tmps w st' (exOp P fs H st' o fun st=>qEO P all (qCv (qAF all.toList []) i fl) st (qCN P fs H all (qAF all.toList []) true m tl (qCv (qAF all.toList []) i fl) st k)):=by
        split at hy
        ·rename_i hap;exact⟨hap,hy⟩
        ·obtain⟨β,ρ,V,_,_,hD⟩:=hy;exact hD.elim
       obtain⟨hap,hy2⟩:=hy'
       refine wp_transfer e1 (fun d hd=>by rw[h.fsize];exact hds d hd) ?_ hlo
       refine qIK hcalls (fun ch a' w' _ hR=>hQ ch a w' (by rw[<- h.fdef];exact hdef) hR) hy2 fun st2 as2 w2 ⟨v,hv⟩ hG=>⟨v,hv,?_⟩
       subst hv
       obtain⟨β,ρ,V,hp2,hr2,hD2⟩:=hG
       obtain⟨hD3,hrec⟩:=qCy hr2 hD2
       refine next hilt hil (h.lock hok ho hil hds hre (fun j hj=>?_) ⟨β,ρ,V,hp2,hr2,hD3⟩) (by rw[qAT];exact hdef)
       obtain⟨_,_,_,_,b,g5,oj,d,k1,k2,k3,k4,k5,k6⟩:=h.pu j hj
       have hst:(j,b)∈qCv (qAF all.toList []) i fl:=List.mem_filter.2 ⟨g5,by rw[hnotin j hj];rfl⟩
       refine⟨b,hst,oj,d,k1,k2,by rw[qCf];exact k3,?_,fun hb w' ew=>?_,fun hb=>?_⟩
       ·rw[wanted_put oj as o.dst v (fun d' hd'=>qDa hap hst oj k1 d' hd')];exact k4
       ·subst hb
        obtain⟨oj',d',r1,r2,r3⟩:=hrec j hst
        rw[k1]at r1;cases r1
        rw[k2]at r2;cases r2
        exact r3 w' ew
       ·rw[qAY (fun e=>hneq j hj oj k1 d e k2)];exact k6 hb
      ·rw[hw,if_neg (by simp)]
       unfold drawNo at hn
       obtain⟨β,ρ,V,hp,hr,hD⟩:=hn
       split at hD
       case isFalse=>exact hD.elim
       rename_i hc
       simp only[Bool.and_eq_true]at hc
       rw[hrf]at hD
       simp only[Bool.false_eq_true,if_false]at hD
       refine next hilt hil (h.lock hok ho hil hds hre (v:=undef) (fun j hj=>?_) ⟨β,ρ,V,hp.putO _ _,hr.putO hc.1 .und rfl,hD⟩) (by rw[qAT];exact hdef)
       obtain⟨_,_,_,_,b,g5,g6⟩:=h.pu j hj
       have hst:(j,b)∈qCv (qAF all.toList []) i fl:=List.mem_filter.2 ⟨g5,by rw[hnotin j hj];rfl⟩
       exact⟨b,hst,g6.put hok.sel fun oj hoj d' hd'=>⟨qDa hc.2 g5 oj hoj d' hd',hneq j hj oj hoj d' hd'⟩⟩
     cases rest with
     | nil=>cases hir
     | cons r tl =>
      obtain⟨hrf,hrl⟩:=hhead r tl rfl
      rcases List.mem_cons.1 hir with e|e
      ·subst e;exact go h hip hdef hrf
      ·obtain⟨hc1,hc2,hc3⟩:=qDr h.chain
       have hnr:(qBl (qAF all.toList []) i).testBit r=false:=by
        cases hb:(qBl (qAF all.toList []) i).testBit r with
        | false=>rfl
        | true=>have:=hmask r hb;rw[qGU hrl]at this;cases this
       rcases hc1 with hc1|hc1
       ·rw[hrf]at hc1;cases hc1
       ·rcases hc1 i e with ((q|q) | ⟨hif,hall⟩) | ⟨q,q1,q2,q3⟩
        ·rw[hnr]at q;cases q
        ·exact absurd q hal
        ·obtain⟨or',hor⟩:∃or',all[r]?=some or':=⟨_,Array.getElem?_eq_getElem (h.bound r List.mem_cons_self)⟩
         obtain⟨n0,hg0⟩:=h.goes
         obtain⟨m,_,hfork⟩:=qFF hor hg0
         have hmem:i∈altsOf all (qAF all.toList []) r tl:=by
          unfold altsOf
          rw[if_neg (by rw[hrf];simp)]
          refine List.mem_filter.2 ⟨e,?_⟩
          simp only[Bool.and_eq_true,Bool.not_eq_true',List.all_eq_true]
          exact⟨⟨⟨hnr,by simpa using hal⟩,hif⟩,hall⟩
         obtain⟨l,f1,f2,f3⟩:=hfork rfl i hmem
         exact go (h.reorder f1 f2 f3) hip hdef hif
        ·exfalso
         have hql:=hmask q q2
         rcases h.ru q (List.mem_cons_of_mem _ q1) with g|⟨g,_⟩
         ·rw[qGU g]at hql;cases hql
         ·rw[q3]at g;cases g
theorem Rel.drawn{O V0:Mem}{w0:World}{N:Nat}{β:Nat->Nat}{st:St}{ρ:List Value}{V:Mem}{w:World}{tmps:Array Value}(h:Rel O V0 w0 N β st ρ V tmps w)(n:Nat):Rel O V0 w0 N β st ρ V tmps { w with drawn:=n } :=
 h.ext ⟨fun _ _ h=>h,Nat.le_refl _,rfl,rfl⟩
theorem qFZ(hcalls:qBJ P fs)(hm:P.follows .mixedOrders=true){id:Nat}{st:St}{a:Act}{w:World}(hQ:qIg R V0 w0 a.defers Q)(h:qCo P R noO V0 w0 H.N L ρ0 a.tmps w st (qCm P fs H all st k))
  (hlo:LetsOut (fun(_:Exit) (_:Act) (_:World)=>False)->LetsOut Q)
  (hk:∀st' a' w',a'.defers=a.defers->qCo P R noO V0 w0 H.N L ρ0 a'.tmps w' st' (k st')->Q .normal a' w'):(Code.region id all true).wp P Q a w:=by
 unfold qCm at h
 simp only at h
 obtain⟨β,ρ,V,hp,hr,hD⟩:=h
 split at hD
 case isFalse=>exact hD.elim
 rename_i hc
 simp only[Bool.and_eq_true,List.all_eq_true]at hc
 obtain⟨hc1,hc2⟩:=hc
 obtain⟨hok,h2,h3,h4,h5⟩:=qHO hc1
 have hrep:∀j d,j<all.size->(Array.replicate all.size false).getD j d=false:=fun j d hj=>by simp[Array.getD,hj]
 refine wp_region_any hm (any_sound hcalls hok (fun i o ho=>hc2 o (by have:=Array.mem_of_getElem? ho;simpa using this)) hQ hlo hk all.size (List.range all.size) (qGb all (qAF all.toList []) all.size 0) [] st _ a _ a [] noO (fun x=>x) ?_ rfl List.nodup_range (by simp) fun j=>?_)
 ·exact
  {lsize:=by simp
   closed:=fun j oj hj hl=>by
    rw[hrep j _ (Array.getElem?_eq_some_iff.1 hj).1]at hl;cases hl
   chain:=h5
   nd:=h3
   bound:=h4
   unl:=fun j hj _=>.inr (nodup_all h3 h4 h2 hj)
   pu:=fun j hj=>by cases hj
   ru:=fun j hj=>.inl (hrep j _ (h4 j hj))
   boi:=fun i hi j hj hl=>by rw[hrep i _ (h4 i hi)]at hl;cases hl
   fsize:=rfl
   fdef:=rfl
   fill:=fun s _=>rfl
   goes:=⟨_,β,ρ,V,hp,hr.drawn _,hD⟩ }
 ·rw[List.mem_range]
  constructor
  ·exact fun h=>⟨h,hrep j _ h⟩
  ·exact fun h=>h.1
end
def Ex.toExit:Ex->Exit
 | .normal=>.normal
 | .exit i=>.exit i
 | .ret=>.ret
theorem qBA(p:Nat->Prop)(h:∃n,p n):∃n,p n/\∀m,p m->n<=m:=by
 obtain⟨n,hn⟩:=h
 induction n using Nat.strongRecOn with
 | _ n ih =>
  by_cases h:∃m,m<n/\p m
  ·obtain⟨m,h1,h2⟩:=h
   exact ih m h1 h2
  ·exact⟨n,hn,fun m hm=>by
    rcases Nat.lt_or_ge m n with h1|h1
    ·exact absurd ⟨m,h1,hm⟩ h
    ·exact h1⟩
open Classical in
theorem wp_loop_rel{P:Program}{c:Code}{Q:Exit->Act->World->Prop}{a:Act}{w:World}(Inv:Nat->Act->World->Prop)(h0:∃n,Inv n a w)
  (round:∀n a w,Inv n a w->c.wp P (Exit.then (fun a' w'=>∃n',n'<n/\Inv n' a' w') Q) a w):(Code.loop c).wp P Q a w:=by
 let m:Act->World->Nat:=fun a w=>if h:∃n,Inv n a w then Classical.choose (qBA _ h) else 0
 have hm:∀a w (h:∃n,Inv n a w),Inv (m a w) a w/\∀k,Inv k a w->m a w<=k:=fun a w h=>by
  have e:m a w=Classical.choose (qBA _ h):=by simp only[m,dif_pos h]
  rw[e];exact Classical.choose_spec (qBA _ h)
 refine wp_loop (fun a w=>∃n,Inv n a w) m h0 fun a w hI=>?_
 obtain⟨h1,h2⟩:=hm a w hI
 refine Code.wp_mono (fun e a' w' q=>?_) (round _ a w h1)
 cases e with
 | normal =>
  obtain⟨n',h3,h4⟩:=q
  exact⟨⟨n',h4⟩,Nat.lt_of_le_of_lt ((hm a' w' ⟨n',h4⟩).2 n' h4) h3⟩
 | _=>exact q
section
variable{P:Program}{R:Ending->Mem->Prop}{O V0:Mem}{w0:World}{fs:List Nat}{H:qGl}
theorem qCo.weak{L:List (List Value->Mem->Prop)}{ρ0 ρ1:List Value}{N:Nat}{tmps:Array Value}{w:World}{st:St}{t:Tr}(h:qCo P R O V0 w0 N L ρ1 tmps w st t)(hp:ρ0 <+: ρ1):qCo P R O V0 w0 N L ρ0 tmps w st t:=by
 obtain⟨β,ρ,V,hpre,hr,hD⟩:=h
 exact⟨β,ρ,V,⟨hp.trans hpre.1,hpre.2⟩,hr,hD⟩
theorem ex_sound(hcalls:qBJ P fs)(hm:P.follows .mixedOrders=true):∀(c:Code) (L:List (List Value->Mem->Prop)) (ρ0:List Value) (st:St) (k:Ex->St->Tr) (a:Act) (w:World) (Q:Exit->Act->World->Prop),
  qIg R V0 w0 a.defers Q->qCo P R noO V0 w0 H.N L ρ0 a.tmps w st (ex P fs H c st k) ->
  (∀e st' a' w' L',L <+: L'->a'.defers=a.defers->qCo P R noO V0 w0 H.N L' ρ0 a'.tmps w' st' (k e st')->Q e.toExit a' w')->c.wp P Q a w:=by
 intro c
 induction c with
 | skip=>intro L ρ0 st k a w Q hQ h hk;exact wp_skip (hk .normal st a w L (List.prefix_refl _) rfl h)
 | ret=>intro L ρ0 st k a w Q hQ h hk;exact wp_ret (hk .ret st a w L (List.prefix_refl _) rfl h)
 | exit id=>intro L ρ0 st k a w Q hQ h hk;exact wp_exit (hk (.exit id) st a w L (List.prefix_refl _) rfl h)
 | seq x y ihx ihy =>
  intro L ρ0 st k a w Q hQ h hk
  refine wp_seq (ihx L ρ0 st _ a w _ hQ h fun e st' a' w' L' hL hd hg=>?_)
  cases e with
  | normal=>exact ihy L' ρ0 st' k a' w' Q (by rw[hd];exact hQ) hg fun e st'' a'' w'' L'' hL' hd' hg'=>hk e st'' a'' w'' L'' (hL.trans hL') (hd'.trans hd) hg'
  | exit i=>exact hk (.exit i) st' a' w' L' hL hd hg
  | ret=>exact hk .ret st' a' w' L' hL hd hg
 | block id b ih =>
  intro L ρ0 st k a w Q hQ h hk
  refine wp_block (ih L ρ0 st _ a w _ hQ h fun e st' a' w' L' hL hd hg=>?_)
  cases e with
  | normal=>exact hk .normal st' a' w' L' hL hd hg
  | exit i =>
   simp only at hg
   show (if i=id then Q .normal a' w' else Q (.exit i) a' w')
   split
   ·rename_i e;rw[if_pos e]at hg;exact hk .normal st' a' w' L' hL hd hg
   ·rename_i e;rw[if_neg e]at hg;exact hk (.exit i) st' a' w' L' hL hd hg
  | ret=>exact hk .ret st' a' w' L' hL hd hg
 | cond c x y ihx ihy =>
  intro L ρ0 st k a w Q hQ h hk
  obtain⟨β,ρ,V,hp,hr,hD⟩:=h
  simp only[ex]at hD
  split at hD
  ·rename_i v hv
   have he:a.eval c=.bool v:=qAD hr hv
   cases v with
   | true=>exact wp_cond_true he (ihx L ρ0 st k a w Q hQ ⟨β,ρ,V,hp,hr,hD⟩ hk)
   | false=>exact wp_cond_false he (ihy L ρ0 st k a w Q hQ ⟨β,ρ,V,hp,hr,hD⟩ hk)
  ·rename_i t _ ht
   split at hD
   ·rename_i hc
    obtain⟨hc1,hc2⟩:=hc
    obtain⟨b,hb⟩:=qFy (ρ:=ρ) (β:=β) hc1
    have he:a.eval c=.bool b:=(qAD hr ht).trans hb
    have hfr:=(T.ev_free (β:=id) (β':=β) (ρ:=ρ) t hc2).1
    split at hD
    ·rename_i d
     simp only[D,hfr,hb,asB]at hD
     have hlearn:Rel noO V0 w0 H.N β (st.now d (.bool b)) ρ V a.tmps w:=hr.now (t:=t) ht (by rw[hb];rfl)
     cases b with
     | true=>exact wp_cond_true he (ihx L ρ0 _ k a w Q hQ ⟨β,ρ,V,hp.now _ _,hlearn,hD.1 rfl⟩ hk)
     | false=>exact wp_cond_false he (ihy L ρ0 _ k a w Q hQ ⟨β,ρ,V,hp.now _ _,hlearn,hD.2 rfl⟩ hk)
    ·simp only[D,hfr,hb,asB]at hD
     cases b with
     | true=>exact wp_cond_true he (ihx L ρ0 _ k a w Q hQ ⟨β,ρ,V,hp,hr,hD.1 rfl⟩ hk)
     | false=>exact wp_cond_false he (ihy L ρ0 _ k a w Q hQ ⟨β,ρ,V,hp,hr,hD.2 rfl⟩ hk)
   ·exact hD.elim
  ·exact hD.elim
 | region id ops draw =>
  intro L ρ0 st k a w Q hQ h hk
  cases draw with
  | true=>exact qFZ hcalls hm hQ h (fun⟨_,_,h⟩=>h.elim) fun st' a' w' hd hg=>hk .normal st' a' w' L (List.prefix_refl _) hd hg
  | false =>
   refine wp_region_list (qCM hcalls ops.toList st a w hQ h fun st' a' w' hd hg=>hk .normal st' a' w' L (List.prefix_refl _) hd hg)
 | loop b ih =>
  intro L ρ0 st k a w Q hQ h hk
  obtain⟨β,ρ,V,hp,hr,hD⟩:=h
  simp only[ex,exLoop]at hD
  generalize dedup (qGm b)=ws at hD
  generalize (((qBt b).bind fun i=>H.loops.lookup i).getD [])=hint at hD
  obtain⟨st',t,hg,hfree,β',ρ',V',hp',hr',hD'⟩:=qAL _ _ _ _ ⟨β,ρ,V,hp,hr,hD⟩
  split at hD'
  case isFalse=>exact hD'.elim
  rename_i hw
  split at hD'
  ·exact hD'.elim
  ·rename_i st1 bs hgb
   split at hD'
   ·exact hD'.elim
   ·rename_i init hinit
    split at hD'
    case isFalse=>exact hD'.elim
    rename_i hok
    simp only[D]at hD'
    obtain⟨I,μ,hI,hround⟩:=hD'
    obtain⟨hrh,hsh⟩:=qGR hw hr'.nv (List.prefix_refl _) hgb hinit hok hr'
    let Inv:Nat->Act->World->Prop:=fun n a' w'=>∃β xs V',Shaped (bs.flatMap (·.2.2)++(qAx ws st1).2.flatMap (·.2.2)) xs/\I xs V'/\μ xs V'=n /\
     Rel noO V0 w0 H.N β { (qAx ws st1).1 with depth:=st'.depth+1 } (ρ'++xs) V' a'.tmps w'/\a'.defers=a.defers
    refine wp_loop_rel Inv ⟨_,β',init.evs ρ' id,V',hsh,hI,rfl,hrh,rfl⟩ ?_
    rintro n a1 w1 ⟨β1,xs,V1,hsh1,hI1,rfl,hr1,hd1⟩
    have hDb:=hround xs V1 hsh1 hI1
    refine ih (L++[fun ys V''=>I ys V''/\μ ys V''<μ xs V1]) ρ' _ _ a1 w1 _ (by rw[hd1];exact hQ) ⟨β1,ρ'++xs,V1,⟨List.prefix_append _ _,?_⟩,hr1,hDb⟩ ?_
    ·simp[hp'.2]
    ·intro e st2 a2 w2 L2 hL2 hd2 hg2
     cases e with
     | normal =>
      obtain⟨β2,ρ2,V2,hp2,hr2,hD2⟩:=hg2
      simp only at hD2
      split at hD2
      ·rename_i vs hvs
       split at hD2
       ·rename_i hok2
        simp only[D]at hD2
        obtain⟨J,hJ,hJ2⟩:=hD2
        have hlvl:L2[st'.depth]?=some (fun ys V''=>I ys V''/\μ ys V''<μ xs V1):=by
         obtain⟨σ,rfl⟩:=hL2
         rw[<- hp'.2,List.getElem?_append_left (by simp),List.getElem?_append_right (Nat.le_refl _)]
         simp
        rw[hlvl]at hJ
        simp only[Option.some.injEq]at hJ
        subst hJ
        obtain⟨hrh2,hsh2⟩:=qGR hw hr'.nv hp2.1 hgb hvs hok2 hr2
        exact⟨_,hJ2.2,β2,vs.evs ρ2 id,V2,hsh2,hJ2.1,rfl,hrh2,hd2.trans hd1⟩
       ·exact hD2.elim
      ·exact hD2.elim
     | exit i=>exact hk (.exit i) st2 a2 w2 L2 ((List.prefix_append _ _).trans hL2) (hd2.trans hd1) (hg2.weak hp'.1)
     | ret=>exact hk .ret st2 a2 w2 L2 ((List.prefix_append _ _).trans hL2) (hd2.trans hd1) (hg2.weak hp'.1)
 | rangeFunc _ _ _ _ _ _=>intro L ρ0 st k a w Q hQ h hk;obtain⟨β,ρ,V,hp,hr,hD⟩:=h;exact hD.elim
 | scope _ _=>intro L ρ0 st k a w Q hQ h hk;obtain⟨β,ρ,V,hp,hr,hD⟩:=h;exact hD.elim
 | label _=>intro L ρ0 st k a w Q hQ h hk;obtain⟨β,ρ,V,hp,hr,hD⟩:=h;exact hD.elim
 | goto _=>intro L ρ0 st k a w Q hQ h hk;obtain⟨β,ρ,V,hp,hr,hD⟩:=h;exact hD.elim
 | refuse _=>intro L ρ0 st k a w Q hQ h hk;obtain⟨β,ρ,V,hp,hr,hD⟩:=h;exact hD.elim
end
section
variable{P:Program}{R:Ending->Mem->Prop}{fs:List Nat}{H:qGl}
theorem qFY{O V0:Mem}{w0:World}{N:Nat}{β:Nat->Nat}{st:St}{ρ:List Value}{V:Mem}{tmps:Array Value}{w:World}(hr:Rel O V0 w0 N β st ρ V tmps w) :
  ∀(rs:List ResultVar) (ts:List T),resT P st rs=some ts ->
   (rs.mapM fun | .tmp t=>pure (tmps.getD t undef) | .cell a t=>do loadVar t (<- asAddr (tmps.getD a undef)):Sem (List Value)).run P w=.ok (ts.map (·.ev ρ β)) w
 | [],ts,h=>by simp only[resT,Option.some.injEq]at h;subst h;rfl
 | .tmp t::rs,ts,h=>by
  simp only[resT]at h
  split at h
  ·rename_i x xs h1 h2
   simp only[Option.some.injEq]at h;subst h
   have ih:=qFY hr rs xs h2
   simp only[List.mapM_cons,Sem.run_bind,Sem.run_pure,Result.andThen_ok,hr.slots t x h1,List.map_cons]
   rw[ih];rfl
  ·simp at h
 | .cell c t::rs,ts,h=>by
  simp only[resT]at h
  split at h
  ·rename_i i o xs h1 h2
   cases hb:st.box i with
   | none=>simp[hb]at h
   | some cs =>
    obtain⟨cs,ty⟩:=cs
    simp only[hb,Option.bind_some,Option.map_eq_some_iff]at h
    obtain⟨x,h3,rfl⟩:=h
    have ih:=qFY hr rs xs h2
    have hl:=qCe (P:=P) (hr.boxes i cs ty hb).1 h3
    have e:asAddr (tmps.getD c undef)=pure ⟨β i,o,none⟩:=by rw[hr.slots c _ h1];rfl
    simp only[List.mapM_cons,Sem.run_bind,Sem.run_pure,Result.andThen_ok,e,hl,List.map_cons]
    rw[ih];rfl
  ·simp at h
theorem qJe{O V0:Mem}{w0:World}{N:Nat}{β:Nat->Nat}{st:St}{ρ:List Value}{V:Mem}{tmps:Array Value}{w:World}(hr:Rel O V0 w0 N β st ρ V tmps w){fn:Func}{t:T}
  (h:qJf P st fn.results.toList=some t):(results fn tmps).run P w=.ok (t.ev ρ β) w:=by
 unfold qJf at h
 have key:∀ts,resT P st fn.results.toList=some ts->(results fn tmps).run P w=.ok (if h:(ts.map (·.ev ρ β)).toArray.size=1 then (ts.map (·.ev ρ β)).toArray[0] else .tuple (ts.map (·.ev ρ β)).toArray) w:=by
  intro ts hts
  have h1:=qFY (P:=P) hr _ ts hts
  unfold results
  rw[Array.mapM_eq_mapM_toList]
  rw[Sem.run_bind,Sem.run_map]
  erw [h1]
  rfl
 split at h
 ·rename_i x hx
  simp only[Option.some.injEq]at h;subst h
  rw[key _ hx];rfl
 ·rename_i ts hne hts
  simp only[Option.some.injEq]at h;subst h
  rw[key _ hts]
  have:¬(ts.map (·.ev ρ β)).toArray.size=1:=by
   intro e
   match ts,e with
   | [x],_=>exact hne x rfl
  rw[dif_neg this]
  simp only[T.ev,qAp]
 ·simp at h
theorem qIF:∀(ps:List T) (n s:Nat) (t:T),((List.range' n ps.length).zip ps).lookup s=some t->∃i,s=n+i/\ps[i]?=some t
 | [],n,s,t,h=>by simp at h
 | p::ps,n,s,t,h=>by
  simp only[List.length_cons,List.range'_succ,List.zip_cons_cons,List.lookup_cons]at h
  split at h
  ·rename_i e
   simp only[beq_iff_eq]at e;subst e
   exact⟨0,rfl,by simpa using h⟩
  ·obtain⟨i,h1,h2⟩:=qIF ps (n+1) s t h
   exact⟨i+1,by omega,by simpa using h2⟩
theorem tri_of_tree(hcalls:qBJ P fs)(hm:P.follows .mixedOrders=true){f:FuncId}{fn:Func}(hf:P.funcs[f]?=some fn){ps:List T}{ρ:List Value}{t:Tr}(ht:qHM P fs H fn ps ρ.length=t){args:Array Value}(hargs:args=(ps.map (·.ev ρ id)).toArray)
  {V:Mem} (h:D P R t [] ρ V):Tri P f args V R:=by
 intro w hV
 subst ht
 unfold qHM at h
 split at h
 ·exact h.elim
 ·rename_i c hc
  split at h
  case isFalse=>exact h.elim
  rename_i hcond
  obtain⟨h1,h2,h3⟩:=hcond
  rw[wf_ofList]at h3
  have hsz:args.size=ps.length:=by rw[hargs];simp
  refine calls_of_wp hf hc (ex_sound (V0:=V) (w0:=w) (H:=H) (R:=R) hcalls hm c [] ρ _ _ _ w _ (fun ch a' w' hd hR=>⟨hd,hR⟩) ⟨id,ρ,V,⟨List.prefix_refl _,rfl⟩,?_,h⟩ ?_)
  ·exact
   {nv:=rfl
    size:=by simp[hsz,h2];omega
    slots:=fun s t hs=>by
     have hl:=qCc hs
     simp only at hl
     rw[List.range_eq_range']at hl
     obtain⟨i,rfl,hi⟩:=qIF ps 0 s t hl
     have hlt:i<ps.length:=(List.getElem?_eq_some_iff.1 hi).1
     have hev:ps[i]=t:=(List.getElem?_eq_some_iff.1 hi).2
     simp[Array.getD,show i<ps.length+(fn.ntmps-ps.length) by omega,hlt,hargs,hev]
    frm:=Frm.refl hV
    boxes:=fun i cs ty hi=>by simp[St.box]at hi
    hid:=fun b o hb=>by cases hb
    inj:=fun i j hi _ _=>by simp[St.box]at hi }
  ·intro e st' a' w' L' _ hd hg
   have fin:qCo P R noO V w H.N L' ρ a'.tmps w' st' (pubT (st'.nb+2) st' (fun st=>qJf P st fn.results.toList) fun _ t=>.ret t) ->
     a'.defers=[]/\∃v,(results fn a'.tmps).run P w'=.ok v w'/\∃V',R (.returned v) V'/\Frm V w V' w':=by
    intro hg
    obtain⟨st2,t2,hg2,hfree,β,ρ2,V2,hp,hr,hD⟩:=qAL _ _ _ _ hg
    simp only[D]at hD
    rw[(T.ev_free (β:=id) (β':=β) (ρ:=ρ2) t2 hfree).1]at hD
    exact⟨hd,_,qJe hr hg2,V2,hD,hr.frm⟩
   cases e with
   | normal=>exact fin hg
   | ret=>exact fin hg
   | exit j=>obtain⟨β,ρ2,V2,hp,hr,hD⟩:=hg;exact hD.elim
end
def Mem.sub(V V':Mem):Prop:=∀b o,V b=some o->V' b=some o
theorem Mem.sub.refl(V:Mem):V.sub V:=fun _ _ h=>h
theorem Mem.sub.trans{A B C:Mem}(h:A.sub B)(k:B.sub C):A.sub C:=fun b o x=>k b o (h b o x)
theorem Mem.sub.set{V V':Mem}(h:V.sub V'){b:Nat}(hb:V b=none)(o:Obj):V.sub (V'.set b o):=fun c o' hc=>by
 by_cases e:c=b
 ·subst e;rw[hb]at hc;cases hc
 ·rw[Mem.set_ne e];exact h c o' hc
theorem Mem.sub.new{V V':Mem}(h:V.sub V'){b:Nat}(hb:V' b=none)(o:Obj):V.sub (V'.set b o) :=
 h.set (by cases hv:V b with|none=>rfl|some x=>rw[h b x hv]at hb;cases hb) o
theorem Mem.sub.row{V V':Mem}(h:V.sub V'){a:Addr}{n:Nat}{vs:List Value}(hr:V.row a n=some vs):V'.row a n=some vs:=by
 unfold Mem.row at hr ⊢
 split at hr
 ·rename_i c x y hb;rw[h _ _ hb];exact hr
 ·cases hr
def Pur(P:Program)(f:FuncId)(args:List Value)(V:Mem)(v:Value):Prop:=Tri P f args.toArray V fun e V'=>e=.returned v/\V'=V
theorem Frm.less{V V' V'':Mem}{w w':World}(h:Frm V w V' w')(hs:V''.sub V'):Frm V w V'' w' :=
 {h with
  le:=fun b o hb=>h.le b o (hs b o hb)
  dom:=fun b hb=>h.dom b fun e=>by
   cases hv:V'' b with
   | none=>exact hb hv
   | some o=>rw[hs b o hv]at e;cases e }
theorem Tri.forget{P:Program}{f:FuncId}{args:Array Value}{V:Mem}{v:Value}(h:Tri P f args V fun e V'=>e=.returned v/\V.sub V'):Tri P f args V fun e V'=>e=.returned v/\V'=V:=by
 intro w hw cs
 obtain⟨e,w',fr,⟨V',⟨hR,hs⟩,hF⟩,rest⟩:=h w hw cs
 exact⟨e,w',fr,⟨V,⟨hR,rfl⟩,hF.less hs⟩,rest⟩
structure Sl where
 p:Option Addr
 n:Nat
 c:Nat
def Sl.v(s:Sl):Value:=.slice s.p s.n s.c
structure qAc (V:Mem) (s:Sl) (sz:Nat) (rows:List (List Value)):Prop where
 len:s.n=rows.length
 cap:s.n<=s.c
 fit:s.c<=9223372036854775807
 size:∀r∈rows,r.length=sz
 at_:∀i r,rows[i]?=some r->∃a,s.p=some a/\V.row (a.add (i*sz)) sz=some r
theorem qAc.sub{V V':Mem}{s:Sl}{sz:Nat}{rows:List (List Value)}(h:qAc V s sz rows)(hs:V.sub V'):qAc V' s sz rows :=
 ⟨h.len,h.cap,h.fit,h.size,fun i r hr=>let ⟨a,h1,h2⟩:=h.at_ i r hr;⟨a,h1,hs.row h2⟩⟩
theorem qAc.rowp{V:Mem}{s:Sl}{sz:Nat}{rows:List (List Value)}(h:qAc V s sz rows){i:Nat}{r:List Value}(hr:rows[i]?=some r):V.rowp s.p (i*sz) sz=some r:=by
 obtain⟨a,h1,h2⟩:=h.at_ i r hr
 rw[h1];exact h2
theorem qAc.base{V:Mem}{s:Sl}{sz:Nat}{rows:List (List Value)}(h:qAc V s sz rows){i:Nat}(hi:i<rows.length):s.p.isNone=false:=by
 obtain⟨a,h1,_⟩:=h.at_ i _ (List.getElem?_eq_getElem hi)
 rw[h1];rfl
def vI(n:Int):Value:=.int .i64 n
def vS(s:ByteArray):Value:=.string s
inductive E where
 | mk (op n:Int) (s:ByteArray) (l:Sl) (k:List E)
def E.op:E->Int | .mk o _ _ _ _=>o
def E.n:E->Int | .mk _ n _ _ _=>n
def E.s:E->ByteArray | .mk _ _ s _ _=>s
def E.l:E->Sl | .mk _ _ _ l _=>l
def E.k:E->List E | .mk _ _ _ _ k=>k
def E.row(e:E):List Value:=[vI e.op,vI e.n,vS e.s,e.l.v]
def E.v(e:E):Value:=.agg e.row.toArray
inductive E.Ok (V:Mem):E->Prop where
 | mk {op n:Int} {s:ByteArray} {l:Sl} {k:List E} (h:qAc V l 4 (k.map E.row)) (hk:∀x∈k,E.Ok V x) (ho:IntKind.i64.min<=op/\op<=IntKind.i64.max) (hn:IntKind.i64.min<=n/\n<=IntKind.i64.max):E.Ok V (.mk op n s l k)
theorem E.Ok.sub{V V':Mem}(hs:V.sub V'):∀{e:E},E.Ok V e->E.Ok V' e:=by
 intro e h
 induction h with
 | mk h hk ho hn ih=>exact .mk (h.sub hs) (fun x hx=>ih x hx) ho hn
structure Fld where
 name:ByteArray
 ty:ByteArray
def Fld.row(f:Fld):List Value:=[vS f.name,vS f.ty]
structure Ty where
 name:ByteArray
 fs:Sl
 fields:List Fld
def Ty.row(t:Ty):List Value:=[vS t.name,t.fs.v]
structure Ty.Ok (V:Mem) (t:Ty):Prop where
 fields:qAc V t.fs 2 (t.fields.map Fld.row)
inductive S where
 | mk (op:Int) (s:ByteArray) (el:Sl) (es:List E) (ll:Sl) (ls:List S) (xl:Sl) (xs:List S)
def S.row:S->List Value | .mk op s el _ ll _ xl _=>[vI op,vS s,el.v,ll.v,xl.v]
inductive S.Ok (V:Mem):S->Prop where
 | mk {op:Int} {s:ByteArray} {el:Sl} {es:List E} {ll:Sl} {ls:List S} {xl:Sl} {xs:List S} (he:qAc V el 4 (es.map E.row)) (hes:∀x∈es,E.Ok V x)
   (hl:qAc V ll 5 (ls.map S.row)) (hls:∀x∈ls,S.Ok V x) (hx:qAc V xl 5 (xs.map S.row)) (hxs:∀x∈xs,S.Ok V x) (ho:IntKind.i64.min<=op/\op<=IntKind.i64.max):S.Ok V (.mk op s el es ll ls xl xs)
theorem S.Ok.sub{V V':Mem}(hs:V.sub V'):∀{e:S},S.Ok V e->S.Ok V' e:=by
 intro e h
 induction h with
 | mk he hes hl hls hx hxs ho ihl ihx=>exact .mk (he.sub hs) (fun x hx=>(hes x hx).sub hs) (hl.sub hs) ihl (hx.sub hs) ihx ho
section
variable(P:Program)(R:Ending->Mem->Prop)
def LoopK(init:List Value)(ks:List K)(body:Tr)(L:List (List Value->Mem->Prop))(ρ:List Value)(V:Mem):Prop :=
 ∃(I:List Value->Mem->Prop) (μ:List Value->Mem->Nat),I init V/\∀xs V',Shaped ks xs->I xs V'->D P R body (L++[fun ys V''=>I ys V''/\μ ys V''<μ xs V']) (ρ++xs) V'
variable{P R}
variable{L:List (List Value->Mem->Prop)}{ρ:List Value}{V:Mem}
theorem ok_int{k:IntKind}{n:Int}:(K.i k).ok (.int k n)=True:=by simp[K.ok,K.cast,asI]
theorem ok_b{b:Bool}:K.b.ok (.bool b)=True:=by simp[K.ok,K.cast,asB]
theorem ok_s{b:ByteArray}:K.s.ok (.string b)=True:=by simp[K.ok,K.cast,asS]
theorem ok_p{b:Option Addr}:K.p.ok (.pointer b)=True:=by simp[K.ok,K.cast,asP]
theorem ok_sl{b:Option Addr}{n c:Nat}:K.sl.ok (.slice b n c)=True:=by simp[K.ok,K.cast,asP,qHT,asCap]
theorem ok_m{b:Option Nat}:K.m.ok (.map b)=True:=by simp[K.ok,K.cast,asM]
open Classical in
theorem LoopK.rel{init:List Value}{ks:List K}{body:Tr}(I:Nat->List Value->Mem->Prop)(n0:Nat)(h0:I n0 init V)
  (round:∀n xs V',Shaped ks xs->I n xs V'->∀J:List Value->Mem->Prop,(∀m ys V'',m<n->I m ys V''->J ys V'')->D P R body (L++[J]) (ρ++xs) V'):LoopK P R init ks body L ρ V:=by
 let m:List Value->Mem->Nat:=fun xs V'=>if h:∃n,I n xs V' then Classical.choose (qBA _ h) else 0
 have hm:∀xs V' (h:∃n,I n xs V'),I (m xs V') xs V'/\∀k,I k xs V'->m xs V'<=k:=fun xs V' h=>by
  have e:m xs V'=Classical.choose (qBA _ h):=by simp only[m,dif_pos h]
  rw[e];exact Classical.choose_spec (qBA _ h)
 refine⟨fun xs V'=>∃n,I n xs V',m,⟨n0,h0⟩,fun xs V' hs hI=>?_⟩
 obtain⟨h1,h2⟩:=hm xs V' hI
 exact round _ xs V' hs h1 _ fun k ys V'' hk hk2=>⟨⟨k,hk2⟩,Nat.lt_of_le_of_lt ((hm ys V'' ⟨k,hk2⟩).2 k hk2) hk⟩
theorem row_cell1{b:Nat}{v:Value}{ty:Nat}(h:V b=some (.cells #[v] ty (0,0))):V.rowp (some ⟨b,0,none⟩) 0 1=some [v]:=by
 simp[Mem.rowp,Mem.row,h,Addr.add]
theorem tri_of{fs:List Nat}{H:qGl}(hcalls:qBJ P fs)(hm:P.follows .mixedOrders=true){f:FuncId}{fn:Func}(hf:P.funcs[f]?=some fn){ps:List T}{nv:Nat}{t:Tr}(ht:qHM P fs H fn ps nv=t)
  (ρ:List Value) (hn:ρ.length=nv) {args:Array Value} (hargs:args=(ps.map (·.ev ρ id)).toArray) (h:D P R t [] ρ V):Tri P f args V R:=by
 subst hn;exact tri_of_tree hcalls hm hf ht hargs h
end
def K.ex:K->(Value->Prop)->Prop
 | .i k,q=>∃n:Int,q (.int k n)
 | .b,q=>∃b:Bool,q (.bool b)
 | .s,q=>∃s:ByteArray,q (.string s)
 | .sl,q=>∃s:Sl,q (.slice s.p s.n s.c)
 | .p,q=>∃a:Option Addr,q (.pointer a)
 | .m,q=>∃m:Option Nat,q (.map m)
 | .f,q=>∃v,K.f.ok v/\q v
 | .r,q=>∃v,K.r.ok v/\q v
def K.al:K->(Value->Prop)->Prop
 | .i k,q=>∀n:Int,q (.int k n)
 | .b,q=>∀b:Bool,q (.bool b)
 | .s,q=>∀s:ByteArray,q (.string s)
 | .sl,q=>∀s:Sl,q (.slice s.p s.n s.c)
 | .p,q=>∀a:Option Addr,q (.pointer a)
 | .m,q=>∀m:Option Nat,q (.map m)
 | .f,q=>∀v,K.f.ok v->q v
 | .r,q=>∀v,K.r.ok v->q v
def ExK:List K->(List Value->Prop)->Prop
 | [],p=>p []
 | k::ks,p=>k.ex fun v=>ExK ks fun vs=>p (v::vs)
def AlK:List K->(List Value->Prop)->Prop
 | [],p=>p []
 | k::ks,p=>k.al fun v=>AlK ks fun vs=>p (v::vs)
theorem K.ex_ok{k:K}{q:Value->Prop}(h:k.ex q):∃v,k.ok v/\q v:=by
 cases k <;> simp only[K.ex]at h
 ·obtain⟨n,h⟩:=h;exact⟨_,by simp[ok_int],h⟩
 ·obtain⟨n,h⟩:=h;exact⟨_,by simp[ok_b],h⟩
 ·obtain⟨n,h⟩:=h;exact⟨_,by simp[ok_s],h⟩
 ·obtain⟨n,h⟩:=h;exact⟨_,by simp[ok_sl],h⟩
 ·obtain⟨n,h⟩:=h;exact⟨_,by simp[ok_p],h⟩
 ·obtain⟨n,h⟩:=h;exact⟨_,by simp[ok_m],h⟩
 ·exact h
 ·exact h
theorem K.al_ok{k:K}{q:Value->Prop}(h:k.al q){v:Value}(hv:k.ok v):q v:=by
 unfold K.ok at hv
 cases k <;> simp only[K.al]at h <;> simp only[K.cast]at hv
 ·rw[<- hv];exact h _
 ·rw[<- hv];exact h _
 ·rw[<- hv];exact h _
 ·rw[<- hv];exact h ⟨_,_,_⟩
 ·rw[<- hv];exact h _
 ·rw[<- hv];exact h _
 ·exact h _ hv
 ·exact h _ hv
theorem ExK.shaped:∀{ks:List K} {p:List Value->Prop},ExK ks p->∃vs,Shaped ks vs/\p vs
 | [],_,h=>⟨[],trivial,h⟩
 | _::_,_,h=>by
  obtain⟨v,hv,h⟩:=K.ex_ok h
  obtain⟨vs,hs,h⟩:=ExK.shaped h
  exact⟨v::vs,⟨hv,hs⟩,h⟩
theorem AlK.shaped:∀{ks:List K} {p:List Value->Prop},AlK ks p->∀{vs},Shaped ks vs->p vs
 | [],_,h,[],_=>h
 | [],_,_,_::_,hs=>hs.elim
 | _::_,_,_,[],hs=>hs.elim
 | _::_,_,h,_::_,hs=>AlK.shaped (K.al_ok h hs.1) hs.2
def K.inR:IntKind->Int->Prop
 | .i64,x=>-9223372036854775808<=x/\x<=9223372036854775807
 | .u8,x=>0<=x/\x<=255
 | k,x=>k.min<=x/\x<=k.max
theorem K.inR_iff{k:IntKind}{x:Int}:K.inR k x↔(k.min<=x/\x<=k.max):=by
 cases k <;> exact Iff.rfl
def T.holds(ρ:List Value):T->Prop
 | .u .not x=>¬x.holds ρ
 | .u (.inr k) x=>K.inR k (asI (x.ev ρ id))
 | .u .pnil x=>asP (x.ev ρ id)=none
 | .u .slnil x=>asP (x.ev ρ id)=none
 | .u .mnil x=>asM (x.ev ρ id)=none
 | .u .szero x=>asS (x.ev ρ id)=ByteArray.empty
 | .b2 .lt x y=>asI (x.ev ρ id)<asI (y.ev ρ id)
 | .b2 .le x y=>asI (x.ev ρ id)<=asI (y.ev ρ id)
 | .b2 .eqi x y=>asI (x.ev ρ id)=asI (y.ev ρ id)
 | .b2 .eqs x y=>asS (x.ev ρ id)=asS (y.ev ρ id)
 | .b2 .and x y=>x.holds ρ/\y.holds ρ
 | .b2 .or x y=>x.holds ρ∨y.holds ρ
 | .b2 .idxok x y=>0<=asI (y.ev ρ id)/\asI (y.ev ρ id)<(qHT (x.ev ρ id):Int)
 | .b2 .sidxok x y=>0<=asI (y.ev ρ id)/\asI (y.ev ρ id)<((asS (x.ev ρ id)).size:Int)
 | .c3 .bnd l h m=>0<=asI (l.ev ρ id)/\asI (l.ev ρ id)<=asI (h.ev ρ id)/\asI (h.ev ρ id)<=asI (m.ev ρ id)
 | c=>asB (c.ev ρ id)=true
theorem T.holds_iff{ρ:List Value}:∀c:T,c.holds ρ↔asB (c.ev ρ id)=true
 | .u o x=>by
  cases o <;> simp only[T.holds,T.ev,U.ev,asB,Bool.not_eq_true',decide_eq_true_eq,T.holds_iff x,K.inR_iff,Option.isNone_iff_eq_none,<- Bool.not_eq_true]
 | .b2 o x y=>by
  cases o <;> simp only[T.holds,T.ev,B.ev,asB,decide_eq_true_eq,T.holds_iff x,T.holds_iff y,Bool.and_eq_true,Bool.or_eq_true,beq_iff_eq]
 | .c3 o x y z=>by
  cases o <;> simp only[T.holds,T.ev,C.ev,asB,decide_eq_true_eq]
 | .var _ _ | .int _ _ | .bool _ | .str _ | .und | .nilp | .nilsl | .nilm | .nilf | .nili | .box _ _ | .glob _ | .fn _ _ | .nil | .cons _ _ | .agg _ | .tup _=>Iff.rfl
section
variable(P:Program)
def qCd(t:TypeId)(m key:Value)(ok:Bool)(V:Mem)(q:Value->Prop):Prop:=∀w,V.le w->∃x,(Instr.lookup t m key ok).run P w=.ok x w/\q x
def UpdK(t:TypeId)(m key val:Value)(V:Mem)(q:Mem->Prop):Prop:=∀w,V.le w->∃w' V',(Instr.mapUpdate t m key val).run P w=.ok () w'/\Frm V w V' w'/\q V'
def GenK(o:Op)(ty:Nat)(vals:Operand->Value)(V:Mem)(q:Value->Mem->Prop):Prop:=∀w,V.le w->∃x w' V',(execOp vals { dst:=none,op:=o,type:=ty,pos := "",after:=#[],guard:=none }).run P w=.ok (.value x) w'/\Frm V w V' w'/\q x V'
def LdT(o:Option (List Value))(ks:List K)(q:List Value->Prop):Prop:=ExK ks fun vs=>o=some vs/\q vs
def StT(p:Option Addr)(off:Nat)(cs:List Value)(V:Mem)(q:Mem->Prop):Prop :=
 ∃a c ty,p=some a/\V a.block=some (.cells c ty (0,0))/\a.spot=none/\a.off+off+cs.length<=c.size /\
  q (V.set a.block (.cells (c.toList.take (a.off+off)++cs++c.toList.drop (a.off+off+cs.length)).toArray ty (0,0)))
def qAC(cs:List Value)(ty:Nat)(V:Mem)(q:Option Addr->Mem->Prop):Prop:=∀b,V b=none->q (some ⟨b,0,none⟩) (V.set b (.cells cs.toArray ty (0,0)))
def PanC(b:Bool)(R strict:Ending->Mem->Prop):Ending->Mem->Prop :=
 match b with
 | false=>strict
 | true=>fun e V'=>strict e V'∨∃ch,e=.panicked ch/\R e V'
theorem PanC.out{b:Bool}{R strict:Ending->Mem->Prop}{e:Ending}{V':Mem}(h:PanC b R strict e V'):strict e V'∨∃ch,e=.panicked ch/\R e V':=by
 cases b with
 | false=>exact .inl h
 | true=>exact h
def CallT(b:Bool)(R:Ending->Mem->Prop)(f:Nat)(args:List Value)(rs:List RK)(V:Mem)(q:List Value->Mem->Prop):Prop :=
 Tri P f args.toArray V (PanC b R fun e V'=>ExK (rs.flatMap RK.kinds) fun vs=>e=.returned (qDj rs vs)/\q vs V')
def CallvT(b:Bool)(R:Ending->Mem->Prop)(fv:Value)(args:List Value)(rs:List RK)(V:Mem)(q:List Value->Mem->Prop):Prop :=
 ∃f first caps,fv=.func (.func f) first caps/\(∀args w,(callFunc f args).run P w=.ok (.enter f args) w) /\
   Tri P f (first++args.toArray++caps) V (PanC b R fun e V'=>ExK (rs.flatMap RK.kinds) fun vs=>e=.returned (qDj rs vs)/\q vs V')
def LoopT(init:List Value)(ks:List K)(V:Mem)(q:(List Value->Mem->Prop)->List Value->Mem->Prop):Prop :=
 ∃(I:Nat->List Value->Mem->Prop) (n0:Nat),I n0 init V/\∀n V',AlK ks fun xs=>I n xs V'->∀J:List Value->Mem->Prop,(∀m ys V'',m<n->I m ys V''->J ys V'')->q J xs V'
end
structure Pan where
 fs:List Nat:=[]
 v:Bool:=false
def DT(P:Program)(pn:Pan)(R:Ending->Mem->Prop):Tr->List (List Value->Mem->Prop)->List Value->Mem->Prop
 | .bad _ _,_,_,_=>False
 | .ret v,_,ρ,V=>R (.returned (v.ev ρ id)) V
 | .br c a b,L,ρ,V =>
  match c with
  | .u .not d=>(d.holds ρ->DT P pn R b L ρ V)/\(¬d.holds ρ->DT P pn R a L ρ V)
  | c=>(c.holds ρ->DT P pn R a L ρ V)/\(¬c.holds ρ->DT P pn R b L ρ V)
 | .need c k,L,ρ,V=>c.holds ρ/\DT P pn R k L ρ V
 | .ld base idx sz n ks k,L,ρ,V=>LdT (V.rowp (asP (base.ev ρ id)) ((asI (idx.ev ρ id)).toNat*sz) n) ks fun vs=>DT P pn R k L (ρ++vs) V
 | .st p off cs k,L,ρ,V=>StT (asP (p.ev ρ id)) off (cs.evs ρ id) V fun V'=>DT P pn R k L ρ V'
 | .pub cs ty k,L,ρ,V=>qAC (cs.evs ρ id) ty V fun p V'=>DT P pn R k L (ρ++[.pointer p]) V'
 | .call f args rs k,L,ρ,V=>CallT P (pn.fs.contains f) R f (args.evs ρ id) rs V fun vs V'=>DT P pn R k L (ρ++vs) V'
 | .callv fv args rs k,L,ρ,V=>CallvT P pn.v R (fv.ev ρ id) (args.evs ρ id) rs V fun vs V'=>DT P pn R k L (ρ++vs) V'
 | .loop init ks body,L,ρ,V=>LoopT (init.evs ρ id) ks V fun J xs V'=>DT P pn R body (L++[J]) (ρ++xs) V'
 | .cont lvl vals,L,ρ,V=>L.getD lvl (fun _ _=>False) (vals.evs ρ id) V
 | .gen o ty ts rs k,L,ρ,V =>
  match o with
  | .lookup t x i ok=>qCd P t (gval ts ρ x) (gval ts ρ i) ok V fun x=>ExK (rs.flatMap RK.kinds) fun vs=>x=qDj rs vs/\DT P pn R k L (ρ++vs) V
  | o=>GenK P o ty (gval ts ρ) V fun x V'=>ExK (rs.flatMap RK.kinds) fun vs=>x=qDj rs vs/\DT P pn R k L (ρ++vs) V'
 | .again p cs k,L,ρ,V=>V.rowp (asP (p.ev ρ id)) 0 (cs.evs ρ id).length=some (cs.evs ρ id)/\DT P pn R k L ρ V
 | .both a b,L,ρ,V=>DT P pn R a L ρ V/\DT P pn R b L ρ V
 | .pan v,_,ρ,V=>∃t x,v.ev ρ id=.iface t x/\R (.panicked [{ v:=.iface t x,recovered:=false }]) V
 | .gens o ty ts k,L,ρ,V =>
  match o with
  | .mapUpdate t m x y | .insert t m x y=>UpdK P t (gval ts ρ m) (gval ts ρ x) (gval ts ρ y) V fun V'=>DT P pn R k L ρ V'
  | o=>∀w,V.le w->∃w' V',(execOp (gval ts ρ) { dst:=none,op:=o,type:=ty,pos := "",after:=#[],guard:=none }).run P w=.ok .skip w'/\Frm V w V' w'/\DT P pn R k L ρ V'
section
variable{P:Program}{pn:Pan}{R:Ending->Mem->Prop}
theorem qBv:∀(t:Tr) (L:List (List Value->Mem->Prop)) (ρ:List Value) (V:Mem),DT P pn R t L ρ V->D P R t L ρ V
 | .bad _ _,_,_,_,h=>h
 | .ret v,_,ρ,V,h=>h
 | .br c a b,L,ρ,V,h=>by
  have h:(c.holds ρ->DT P pn R a L ρ V)/\(¬c.holds ρ->DT P pn R b L ρ V):=by
   simp only[DT]at h
   split at h
   ·exact⟨fun hc=>h.2 hc,fun hc=>h.1 (Classical.byContradiction fun x=>hc x)⟩
   ·exact h
  refine⟨fun hc=>qBv a L ρ V (h.1 ((T.holds_iff c).2 hc)),fun hc=>qBv b L ρ V (h.2 fun x=>?_)⟩
  rw[T.holds_iff,hc]at x
  exact absurd x (by simp)
 | .need c k,L,ρ,V,h=>⟨(T.holds_iff c).1 h.1,qBv k L ρ V h.2⟩
 | .ld base idx sz n ks k,L,ρ,V,h=>by
  obtain⟨vs,hs,h1,h2⟩:=ExK.shaped h
  exact⟨vs,h1,hs,qBv k L _ V h2⟩
 | .st p off cs k,L,ρ,V,h=>by
  obtain⟨a,c,ty,h1,h2,h3,h4,h5⟩:=h
  exact⟨a,c,ty,h1,h2,h3,h4,qBv k L ρ _ h5⟩
 | .pub cs ty k,L,ρ,V,h=>fun b hb=>qBv k L _ _ (h b hb)
 | .call f args rs k,L,ρ,V,h=>by
  refine Tri.mono h fun e V' h=>?_
  rcases h.out with h|h
  ·obtain⟨vs,hs,h1,h2⟩:=ExK.shaped h
   exact .inl ⟨vs,h1,hs,qBv k L _ _ h2⟩
  ·exact .inr h
 | .callv fv args rs k,L,ρ,V,h=>by
  obtain⟨f,first,caps,h1,h2,h⟩:=h
  refine⟨f,first,caps,h1,h2,Tri.mono h fun e V' h=>?_⟩
  rcases h.out with h|h
  ·obtain⟨vs,hs,h1,h2⟩:=ExK.shaped h
   exact .inl ⟨vs,h1,hs,qBv k L _ _ h2⟩
  ·exact .inr h
 | .loop init ks body,L,ρ,V,h=>by
  obtain⟨I,n0,h0,h⟩:=h
  exact LoopK.rel I n0 h0 fun n xs V' hs hI J hJ=>qBv body _ _ _ (AlK.shaped (h n V') hs hI J hJ)
 | .cont lvl vals,L,ρ,V,h=>by
  simp only[DT,List.getD_eq_getElem?_getD]at h
  cases hl:L[lvl]? with
  | none=>rw[hl]at h;exact h.elim
  | some J=>rw[hl]at h;exact⟨J,hl,h⟩
 | .gen o ty ts rs k,L,ρ,V,h=>by
  have key:∀(x:Value) (V':Mem),(ExK (rs.flatMap RK.kinds) fun vs=>x=qDj rs vs/\DT P pn R k L (ρ++vs) V')->∃vs,x=qDj rs vs/\Shaped (rs.flatMap RK.kinds) vs/\D P R k L (ρ++vs) V':=by
   intro x V' h
   obtain⟨vs,hs,h1,h2⟩:=ExK.shaped h
   exact⟨vs,h1,hs,qBv k L _ _ h2⟩
  have fin:(GenK P o ty (gval ts ρ) V fun x V'=>ExK (rs.flatMap RK.kinds) fun vs=>x=qDj rs vs/\DT P pn R k L (ρ++vs) V')->D P R (.gen o ty ts rs k) L ρ V:=by
   intro h w hw
   obtain⟨x,w',V',h1,h2,h3⟩:=h w hw
   obtain⟨vs,h4,h5,h6⟩:=key x V' h3
   exact⟨x,w',V',vs,h1,h2,h4,h5,h6⟩
  cases o
  case lookup t x i ok =>
   intro w hw
   obtain⟨x,h1,h3⟩:=h w hw
   obtain⟨vs,h4,h5,h6⟩:=key x V h3
   refine⟨x,w,V,vs,?_,Frm.refl hw,h4,h5,h6⟩
   simp only[execOp,Sem.run_bind,h1,Sem.run_pure,Result.andThen_ok]
  all_goals exact fin h
 | .again p cs k,L,ρ,V,h=>⟨h.1,qBv k L ρ V h.2⟩
 | .both a b,L,ρ,V,h=>⟨qBv a L ρ V h.1,qBv b L ρ V h.2⟩
 | .pan _,_,_,_,h=>h
 | .gens o ty ts k,L,ρ,V,h=>by
  have fin:(∀w,V.le w->∃w' V',(execOp (gval ts ρ) { dst:=none,op:=o,type:=ty,pos := "",after:=#[],guard:=none }).run P w=.ok .skip w'/\Frm V w V' w'/\DT P pn R k L ρ V')->D P R (.gens o ty ts k) L ρ V:=by
   intro h w hw
   obtain⟨w',V',h1,h2,h3⟩:=h w hw
   exact⟨w',V',h1,h2,qBv k L ρ V' h3⟩
  have upd:∀(t:TypeId) (m x y:Value),UpdK P t m x y V (fun V'=>DT P pn R k L ρ V')->∀w,V.le w->∃w' V',(do Instr.mapUpdate t m x y;pure .skip:Sem Next).run P w=.ok .skip w'/\Frm V w V' w'/\DT P pn R k L ρ V':=by
   intro t m x y h w hw
   obtain⟨w',V',h1,h2,h3⟩:=h w hw
   exact⟨w',V',by simp only[Sem.run_bind,h1,Sem.run_pure,Result.andThen_ok],h2,h3⟩
  cases o
  case mapUpdate t m x y=>exact fin (upd _ _ _ _ h)
  case insert t m x y=>exact fin (upd _ _ _ _ h)
  all_goals exact fin h
theorem tri_dt{fs:List Nat}{H:qGl}(hcalls:qBJ P fs)(hm:P.follows .mixedOrders=true){f:FuncId}{fn:Func}(hf:P.funcs[f]?=some fn){ps:List T}{nv:Nat}{t:Tr}(ht:qHM P fs H fn ps nv=t)
  (ρ:List Value) (hn:ρ.length=nv) {args:List Value} (hargs:args=ps.map (·.ev ρ id)) {V:Mem} {q:Prop} (hq:q=DT P pn R t [] ρ V) (h:q):Tri P f args.toArray V R:=by
 subst hq;exact tri_of hcalls hm hf ht ρ hn (by rw[hargs]) (qBv _ _ _ _ h)
end
end Go.Sx
