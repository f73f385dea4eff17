/- Part 18 of a proof of a law of this seat: no statement of the seat is proved here. -/
import Derived.Test.YtmeagdecjpknkaaGreatDoorPp16
import Derived.Test.YtmeagdecjpknkaaGreatDoorPp14
import Derived.Test.YtmeagdecjpknkaaGreatDoorPp17
import Derived.Test.YtmeagdecjpknkaaGreatDoorPp04
set_option linter.unusedVariables false
set_option linter.unusedSimpArgs false
namespace Go.Sx
open Go
section
variable{P:Program}{n:Nat}{ops:Array Oper}{Q:Exit->Act->World->Prop}
theorem qJM{F:Fence}{i:Nat}{o:Oper}{a:Act}{w:World}{K:Act->World->Prop}(ho:ops[i]?=some o)(hg:o.guard=none)(h:wpOpIn F n P ops Q i K a w):wpOpIn F n P ops Q i (fun a' w'=>(∃v,a'.tmps=(a.put o.dst v).tmps)/\K a' w') a w:=by
 unfold wpOpIn at *
 simp only[ho]at *
 have hw:=qBZ (ops:=ops) (a:=a) hg
 rw[if_pos hw]at h ⊢
 unfold Oper.wpIn at *
 refine⟨h.1,?_⟩
 have h:=h.2
 generalize (o.semAt F.round a.eval).run P w=r at *
 have put_d:∀(ds:List Deferred) (v:Value),(({ a with defers:=ds }:Act).put o.dst v).tmps=(a.put o.dst v).tmps:=fun ds v=>by
  cases o.dst <;> rfl
 cases r with
 | ok x w' =>
  cases x <;> simp only[Oper.uponIn]at h ⊢ <;>
   first
    | exact⟨⟨_,rfl⟩,h⟩
    | exact⟨⟨_,put_d _ _⟩,h⟩
    | exact⟨h.1,CallsIn.mono h.2 (fun e w'' he=>by cases e <;> first|exact⟨⟨_,rfl⟩,he⟩|exact he)⟩
    | exact⟨h.1,RowsIn.mono h.2 (fun _ _ he=>⟨⟨_,rfl⟩,he⟩)⟩
    | exact⟨h.1,RoundIn.mono h.2 (fun e w'' he=>by cases e <;> first|exact⟨⟨_,rfl⟩,he⟩|exact he)⟩
    | exact h
 | halt x w'=>cases x <;> simp only[Oper.uponIn]at h ⊢ <;> exact h
theorem qHn{F:Fence}{i:Nat}{o:Oper}{a:Act}{w:World}{K K':Act->World->Prop}{Q':Exit->Act->World->Prop}(ho:ops[i]?=some o)(hg:o.guard=none)(h:wpOpIn F n P ops Q' i K a w)(hp:∀ch a w,¬Q' (.panic ch) a w)(hl:¬LetsOut Q')(hK:∀a w,K a w->K' a w) :
  wpOpIn F n P ops Q i K' a w:=by
 unfold wpOpIn at *
 simp only[ho]at *
 have hw:=qBZ (ops:=ops) (a:=a) hg
 rw[if_pos hw]at h ⊢
 unfold Oper.wpIn at *
 refine⟨h.1,?_⟩
 have h:=h.2
 generalize (o.semAt F.round a.eval).run P w=r at *
 cases r with
 | ok x w' =>
  cases x <;> simp only[Oper.uponIn]at h ⊢ <;>
   first
    | exact hK _ _ h
    | exact⟨h.1,CallsIn.mono h.2 (fun e w'' he=>by cases e <;> first|exact hK _ _ he|exact(hp _ _ _ he).elim|exact(hl he).elim)⟩
    | exact⟨h.1,RowsIn.mono h.2 (fun _ _ he=>hK _ _ he)⟩
    | exact⟨h.1,RoundIn.mono h.2 (fun e w'' he=>by cases e <;> first|exact hK _ _ he|exact(hp _ _ _ he).elim|exact(hl he).elim)⟩
    | exact h
 | halt x w' =>
  cases x <;> simp only[Oper.uponIn]at h ⊢
  all_goals first|exact(hp _ _ _ h).elim|exact h
def aft(ops:Array Oper)(i:Nat):List Nat:=((ops[i]?).map fun o=>(o.after.toList.filter (Region.binds .any)).map (·.on)).getD []
def anyOk(ops:Array Oper)(M k0:Nat)(deps:Nat->List Nat):Bool :=
 decide (ops.size=M+1)&&decide ((ops[M]?).map (·.dst)=some none)&&(List.range M).all (fun i=>decide ((ops[i]?).map (·.dst)=some (some (k0+i))))&&(List.range (M+1)).all (fun i=>((ops[i]?).map fun o=>o.guard.isNone).getD false&&(aft ops i).all (fun j=>decide (j<i))&&(deps i).all fun j=>decide (j∈aft ops i)) &&
  (List.range M).all fun j=>(List.range (M+1)).any fun i=>decide (j<i)&&decide (j∈aft ops i)
theorem qJZ{ops:Array Oper}{listed:Array Bool}{i:Nat}(h:i∈Region.ready .any ops listed):i<ops.size/\listed.getD i true=false/\∀j∈aft ops i,listed.getD j false=true:=by
 unfold Region.ready at h
 rw[List.mem_filter,List.mem_range,Bool.and_eq_true]at h
 refine⟨h.1,by simpa using h.2.1,fun j hj=>?_⟩
 unfold aft at hj
 have h2:=h.2.2
 cases ho:ops[i]? with
 | none=>rw[ho]at hj;simp at hj
 | some o =>
  rw[ho]at hj h2
  simp only[Option.map_some,Option.getD_some,List.mem_map,List.mem_filter,Array.mem_toList_iff,Array.all_eq_true']at hj h2
  obtain⟨e,⟨he,hb⟩,rfl⟩:=hj
  have:=h2 e he
  rw[hb]at this
  simpa using this
theorem ready_in{ops:Array Oper}{listed:Array Bool}{i:Nat}(hi:i<ops.size)(h1:listed.getD i true=false)(h2:∀j∈aft ops i,listed.getD j false=true):i∈Region.ready .any ops listed:=by
 unfold Region.ready
 rw[List.mem_filter,List.mem_range,Bool.and_eq_true]
 refine⟨hi,by simp[h1],?_⟩
 have ho:ops[i]?=some ops[i]:=Array.getElem?_eq_getElem hi
 unfold aft at h2
 rw[ho]at h2 ⊢
 simp only[Option.map_some,Option.getD_some,List.mem_map,List.mem_filter,Array.mem_toList_iff,Array.all_eq_true']at h2 ⊢
 intro e he
 cases hb:Region.binds .any e with
 | false=>rfl
 | true=>simpa using h2 e.on ⟨e,⟨he,hb⟩,rfl⟩
theorem qGv{l:Array Bool}{i:Nat}(hi:i<l.size)(a b:Bool):l.getD i a=l.getD i b:=by simp[Array.getD,hi]
def unl(listed:Array Bool)(M:Nat):Nat:=((List.range M).filter fun i=>!listed.getD i true).length
theorem filt_le{α:Type}{p q:α->Bool}:∀{l:List α},(∀a∈l,q a=true->p a=true)->(l.filter q).length<=(l.filter p).length
 | [],_=>Nat.le_refl _
 | a::l,h=>by
  have ih:=filt_le (l:=l) fun x hx=>h x (List.mem_cons_of_mem _ hx)
  have ha:=h a List.mem_cons_self
  rw[List.filter_cons,List.filter_cons]
  cases hq:q a with
  | true=>rw[ha hq];simpa using ih
  | false =>
   cases hp:p a with
   | true=>simp;omega
   | false=>simpa using ih
theorem filt_lt{α:Type}{p q:α->Bool}:∀{l:List α},(∀a∈l,q a=true->p a=true)->∀a∈l,p a=true->q a=false->(l.filter q).length<(l.filter p).length
 | [],_,a,ha,_,_=>by cases ha
 | b::l,h,a,ha,hp,hq=>by
  have h':∀x∈l,q x=true->p x=true:=fun x hx=>h x (List.mem_cons_of_mem _ hx)
  rw[List.filter_cons,List.filter_cons]
  rcases List.mem_cons.1 ha with rfl|hm
  ·rw[hp,hq]
   have:=filt_le h'
   simp;omega
  ·have ih:=filt_lt h' a hm hp hq
   have hb:=h b List.mem_cons_self
   cases hqb:q b with
   | true=>rw[hb hqb];simpa using ih
   | false =>
    cases hpb:p b with
    | true=>simp;omega
    | false=>simpa using ih
theorem unl_set{listed:Array Bool}{M i:Nat}(hi:i<M)(hs:listed.size=M)(h:listed.getD i true=false):unl (listed.setIfInBounds i true) M<unl listed M:=by
 have h1:(listed.setIfInBounds i true).getD i true=true:=by simp[Array.getD,hs,hi]
 refine filt_lt (fun j _ hj=>?_) i (List.mem_range.2 hi) (by rw[h];rfl) (by rw[h1];rfl)
 by_cases hx:j=i
 ·subst hx;rw[h1]at hj;cases hj
 ·have:(listed.setIfInBounds i true).getD j true=listed.getD j true:=by
   simp[Array.getD_eq_getD_getElem?,Array.getElem?_setIfInBounds_ne (Ne.symm hx)]
  rw[this]at hj;exact hj
theorem unl_zero{listed:Array Bool}{M:Nat}(hs:listed.size=M)(h:unl listed M=0):∀i,i<M->listed.getD i false=true:=fun i hi=>by
 unfold unl at h
 have:=List.eq_nil_of_length_eq_zero h
 rw[List.filter_eq_nil_iff]at this
 have:=this i (List.mem_range.2 hi)
 rw[qGv (by omega) false true]
 simpa using this
section
variable{M k0 N:Nat}{deps:Nat->List Nat}{Pr:Nat->Value->Mem->Prop}{Φ:Mem->Prop}{V:Mem}{base:List (Nat×Value)}{a0:Act}{w0:World}
theorem anyR_sound(chk:anyOk ops M k0 deps=true)(mono:∀i v V1 V2,V1.sub V2->Pr i v V1->Pr i v V2)(hbase:∀s v,base.lookup s=some v->s<k0)
  (hN:k0+M<=N)
  (hstep:∀i,i<M->∀V1,V.sub V1->∀val:Nat->Value,(∀j∈deps i,Pr j (val j) V1)->∃ins,(∀s v,ins.lookup s=some v->base.lookup s=some v∨∃j∈deps i,s=k0+j/\v=val j)/\qDd P N ops i 1 ins [k0+i] V1 fun vs V2=>∃v,vs=[v]/\V1.sub V2/\Pr i v V2)
  (hlast:∀V1,V.sub V1->∀val:Nat->Value,(∀j∈deps M,Pr j (val j) V1)->∃ins,(∀s v,ins.lookup s=some v->base.lookup s=some v∨∃j∈deps M,s=k0+j/\v=val j)/\qDd P N ops M 1 ins [] V1 fun _ V2=>Φ V2)
  (hQ:∀a' w' V',a'.defers=a0.defers->Has N a' base->Φ V'->Frm V w0 V' w'->Q .normal a' w') :
  ∀(fuel:Nat) (listed:Array Bool) (a:Act) (w:World),listed.size=M+1->unl listed (M+1)<=fuel ->
   ((∃V1,V.sub V1/\Frm V w0 V1 w/\a.defers=a0.defers/\Has N a base/\listed.getD M false=false/\(∀i,i<M->listed.getD i false=true->Pr i (a.tmps.getD (k0+i) undef) V1)/\∀i,i<M->listed.getD i false=true->∀j∈aft ops i,listed.getD j false=true)∨((∀i,i<M+1->listed.getD i false=true)/\Q .normal a w)) ->
   wpAnyIn (qAA none) n P .any ops Q fuel listed a w:=by
 unfold anyOk at chk
 simp only[Bool.and_eq_true,decide_eq_true_eq,List.all_eq_true,List.mem_range,List.any_eq_true]at chk
 obtain⟨⟨⟨⟨c1,c0⟩,c2⟩,c3⟩,c4⟩:=chk
 have op:∀i,i<M+1->∃o,ops[i]?=some o/\o.guard=none:=fun i hi=>by
  have:=(c3 i hi).1.1
  cases ho:ops[i]? with
  | none=>rw[ho]at this;cases this
  | some o =>
   rw[ho]at this
   refine⟨o,rfl,?_⟩
   cases hg:o.guard with
   | none=>rfl
   | some g=>simp[hg]at this
 have none_left:∀listed:Array Bool,listed.size=M+1->Region.ready .any ops listed=[]->∀i,i<M+1->listed.getD i false=true:=fun listed hs hr i=>by
  induction i using Nat.strongRecOn with
  | ind i ih =>
   intro hi
   cases h:listed.getD i false with
   | true=>rfl
   | false =>
    have:i∈Region.ready .any ops listed:=ready_in (by omega) (by rw[qGv (by omega) true false];exact h) fun j hj=>by
     have hji:=(c3 i hi).1.2 j hj
     exact ih j hji (by omega)
    rw[hr]at this;cases this
 intro fuel
 induction fuel with
 | zero =>
  intro listed a w hs hu hI
  have hall:=unl_zero hs (by omega)
  rw[wpAnyIn]
  rcases hI with⟨V1,-,-,-,-,hM,-⟩|⟨-,hq⟩
  ·rw[hall M (by omega)]at hM;cases hM
  ·refine⟨?_,hq⟩
   cases hr:Region.ready .any ops listed with
   | nil=>rfl
   | cons i l =>
    obtain⟨h1,h2,-⟩:=qJZ (hr ▸ List.mem_cons_self:i∈Region.ready .any ops listed)
    rw[qGv (by omega) true false,hall i (by omega)]at h2;cases h2
 | succ fuel ih =>
  intro listed a w hs hu hI
  rw[wpAnyIn]
  refine⟨fun hr=>?_,fun i hi=>?_⟩
  ·rcases hI with⟨V1,-,-,-,-,hM,-⟩|⟨-,hq⟩
   ·rw[none_left listed hs hr M (by omega)]at hM;cases hM
   ·exact hq
  ·obtain⟨h1,h2,h3⟩:=qJZ hi
   have hi':i<M+1:=by omega
   rcases hI with⟨V1,hsub,hF,hdf,hH,hM,hP,hC⟩|⟨hall,-⟩
   rotate_left
   ·rw[qGv (by omega) true false,hall i hi']at h2;cases h2
   obtain⟨o,ho,hg⟩:=op i hi'
   have hs':(listed.setIfInBounds i true).size=M+1:=by simp[hs]
   have hu':unl (listed.setIfInBounds i true) (M+1)<=fuel:=by have:=unl_set hi' hs h2;omega
   have hsame:(listed.setIfInBounds i true).getD i false=true:=by simp[Array.getD,hs,hi']
   have hother:∀j,j≠i->(listed.setIfInBounds i true).getD j false=listed.getD j false:=fun j hj=>by
    simp[Array.getD_eq_getD_getElem?,Array.getElem?_setIfInBounds_ne (Ne.symm hj)]
   have hdeps:∀j∈deps i,j<i/\listed.getD j false=true:=fun j hj=>⟨(c3 i hi').1.2 j ((c3 i hi').2 j hj),h3 j ((c3 i hi').2 j hj)⟩
   have hval:∀j∈deps i,Pr j (a.tmps.getD (k0+j) undef) V1:=fun j hj=>by
    have:=hdeps j hj
    exact hP j (by omega) this.2
   have hin:∀(ins:List (Nat×Value)),(∀s v,ins.lookup s=some v->base.lookup s=some v∨∃j∈deps i,s=k0+j/\v=a.tmps.getD (k0+j) undef)->∀s v,ins.lookup s=some v->a.tmps.getD s undef=v:=fun ins h s v hl=>by
    rcases h s v hl with h|⟨j,-,rfl,rfl⟩
    ·exact hH.2 s v h
    ·rfl
   by_cases hiM:i<M
   ·obtain⟨ins,hins,hseg⟩:=hstep i hiM V1 hsub (fun j=>a.tmps.getD (k0+j) undef) hval
    have hw:=hseg none n a w hF.le hH.1 (hin ins hins)
    rw[show List.range' i 1=[i] from rfl,wpOpsIn_cons]at hw
    have hdst:o.dst=some (k0+i):=by have:=c2 i hiM;rw[ho]at this;simpa using this
    have hfin:wpOpIn (qAA none) n P ops Q i (wpAnyIn (qAA none) n P .any ops Q fuel (listed.setIfInBounds i true)) a w:=by
     refine qHn ho hg (qJM ho hg hw) (fun _ _ _ h=>by cases h.1) (fun h=>by obtain⟨_,_,h,_⟩:=h;cases h) ?_
     rintro a' w' ⟨⟨v,hv⟩,-,hd',hs2,vs,V2,hlook,⟨u,rfl,hsub2,hPu⟩,hF2⟩
     rw[hdst]at hv
     have hget:∀s,s≠k0+i->a'.tmps.getD s undef=a.tmps.getD s undef:=fun s hne=>by
      rw[hv];simp[Act.put,Array.getD_eq_getD_getElem?,Array.getElem?_setIfInBounds_ne (Ne.symm hne)]
     refine ih _ a' w' hs' hu' (.inl ⟨V2,hsub.trans hsub2,hF.trans hF2,hd'.trans hdf,⟨hs2,fun s v hs3=>?_⟩,?_,fun j hj hl=>?_,fun j hj hl k hk=>?_⟩)
     ·rw[hget s (by have:=hbase s v hs3;omega)];exact hH.2 s v hs3
     ·rw[hother M (by omega)];exact hM
     ·by_cases hji:j=i
      ·subst hji
       have:=hlook (k0+j) u (by simp)
       rw[this];exact hPu
      ·rw[hget (k0+j) (by omega)]
       rw[hother j hji]at hl
       exact mono _ _ _ _ hsub2 (hP j hj hl)
     ·by_cases hji:j=i
      ·subst hji
       by_cases hkj:k=j
       ·rw[hkj];exact hsame
       ·rw[hother k hkj];exact h3 k hk
      ·rw[hother j hji]at hl
       by_cases hki:k=i
       ·rw[hki];exact hsame
       ·rw[hother k hki];exact hC j hj hl k hk
    exact hfin
   ·have hiM:i=M:=by omega
    subst hiM
    have hall:∀k,k<=i->∀j,i-k<=j->j<i->listed.getD j false=true:=fun k=>by
     induction k with
     | zero=>intro _ j h4 h5;omega
     | succ k ihk =>
      intro hk j h4 h5
      obtain⟨b,hb1,hb2,hb3⟩:=c4 j h5
      by_cases hbi:b=i
      ·subst hbi;exact h3 j hb3
      ·exact hC b (by omega) (ihk (by omega) b (by omega) (by omega)) j hb3
    obtain⟨ins,hins,hseg⟩:=hlast V1 hsub (fun j=>a.tmps.getD (k0+j) undef) hval
    have hw:=hseg none n a w hF.le hH.1 (hin ins hins)
    rw[show List.range' i 1=[i] from rfl,wpOpsIn_cons]at hw
    have hdst:o.dst=none:=by rw[ho]at c0;simpa using c0
    refine qHn ho hg (qJM ho hg hw) (fun _ _ _ h=>by cases h.1) (fun h=>by obtain⟨_,_,h,_⟩:=h;cases h) ?_
    rintro a' w' ⟨⟨u,hu''⟩,-,hd',hs2,vs,V2,-,hΦ,hF2⟩
    rw[hdst]at hu''
    have hu3:a'.tmps=a.tmps:=hu''
    refine ih _ a' w' hs' hu' (.inr ⟨fun j hj=>?_,hQ a' w' V2 (hd'.trans hdf) ⟨by rw[hu3];exact hH.1,fun s v hs3=>by rw[hu3];exact hH.2 s v hs3⟩ hΦ (hF.trans hF2)⟩)
    by_cases hji:j=i
    ·rw[hji];exact hsame
    ·rw[hother j hji];exact hall i (Nat.le_refl _) j (by omega) (by omega)
end
end
end Go.Sx
namespace Go.Proofs
open Go Go.Sx
set_option maxRecDepth 100000
set_option linter.unusedVariables false
section
variable{V:Mem}{R:RP}
noncomputable def c37a:List Code:=((qCu (qAp Tryz.f37) []).drop 0).take 3
def w37a  : MR:=fun V R=>TT 75 #[uS (qAm [120])] V fun e V1=>∃a b c d,e=rV (uA #[uI a,uI b,uS c,uL d])/\qAs [uS (qAm []),.slice none 0 0,.slice none 0 0,.slice none 0 0,.slice none 0 0,.slice none 0 0,.slice none 0 0,.slice none 0 0] 30 V1 fun g V2=>qAs [uI a,uI b,uS c,uL d] 151 V2 fun i V3=>qAs [uI 5,uI 0,uS (qAm [110,101,120,116]),.slice (qAa i 0) 1 1] 151 V3 fun j V4=>R (rT #[uP (qAa g 0),.func (.func 75) #[] #[],uP (qAa j 0)]) V4
theorem s37a{V:Mem}{R:List Value->Mem->Prop}(h:w37a V (OV R)):Seg Tryz.prog 34 c37a [] [0,1,2] V R :=
 qBs (H:=hK 34) [] [] rfl (by kernel_rfl) h
noncomputable def qBY:Array Oper:=qED ((qCu (qAp Tryz.f37) []).getD 3 .skip)
def w37o0  : MR:=fun V R=>R (rT #[uA #[uS (qAm [110,101,120,116]),uS (qAm [76])]]) V
theorem s37o0{V:Mem}{R:List Value->Mem->Prop}(h:w37o0 V (OV R)):qDd Tryz.prog 34 qBY 0 1 [] [7] V R :=
 qAz (H:=hK 34) [] [] rfl (by kernel_rfl) h
def w37o1(a b:ByteArray):MR:=fun V R=>qAs [uS a,uS b] 101 V fun c V1=>R (rT #[.slice (qAa c 0) 1 1]) V1
theorem s37o1{a b:ByteArray}{V:Mem}{R:List Value->Mem->Prop}(h:w37o1 a b V (OV R)):qDd Tryz.prog 34 qBY 1 1 [(7,uA #[uS a,uS b])] [8] V R :=
 qAz (H:=hK 34) [(7,(.agg (.cons (.var .s 0) (.cons (.var .s 1) .nil))))] [uS a,uS b] rfl (by kernel_rfl) h
def w37o2(a:Sl):MR:=fun V R=>R (rT #[uA #[uS (qAm [76]),uL a]]) V
theorem s37o2{a:Sl}{V:Mem}{R:List Value->Mem->Prop}(h:w37o2 a V (OV R)):qDd Tryz.prog 34 qBY 2 1 [(8,uL a)] [9] V R :=
 qAz (H:=hK 34) [(8,(.var .sl 0))] [uL a] rfl (by kernel_rfl) h
def w37o3(a:ByteArray)(b:Sl):MR:=fun V R=>qAs [uS a,uL b] 98 V fun c V1=>R (rT #[.slice (qAa c 0) 1 1]) V1
theorem s37o3{a:ByteArray}{b:Sl}{V:Mem}{R:List Value->Mem->Prop}(h:w37o3 a b V (OV R)):qDd Tryz.prog 34 qBY 3 1 [(9,uA #[uS a,uL b])] [10] V R :=
 qAz (H:=hK 34) [(9,(.agg (.cons (.var .s 0) (.cons (.var .sl 1) .nil))))] [uS a,uL b] rfl (by kernel_rfl) h
def w37o4  : MR:=fun V R=>R (rT #[uA #[uS (qAm [104,101,97,100]),uS (qAm [76])]]) V
theorem s37o4{V:Mem}{R:List Value->Mem->Prop}(h:w37o4 V (OV R)):qDd Tryz.prog 34 qBY 4 1 [] [11] V R :=
 qAz (H:=hK 34) [] [] rfl (by kernel_rfl) h
def w37o5(a b:ByteArray):MR:=fun V R=>qAs [uS a,uS b] 101 V fun c V1=>R (rT #[.slice (qAa c 0) 1 1]) V1
theorem s37o5{a b:ByteArray}{V:Mem}{R:List Value->Mem->Prop}(h:w37o5 a b V (OV R)):qDd Tryz.prog 34 qBY 5 1 [(11,uA #[uS a,uS b])] [12] V R :=
 qAz (H:=hK 34) [(11,(.agg (.cons (.var .s 0) (.cons (.var .s 1) .nil))))] [uS a,uS b] rfl (by kernel_rfl) h
def w37o6  : MR:=fun V R=>R (rT #[uA #[uS (qAm [120]),uS (qAm [76])]]) V
theorem s37o6{V:Mem}{R:List Value->Mem->Prop}(h:w37o6 V (OV R)):qDd Tryz.prog 34 qBY 6 1 [] [13] V R :=
 qAz (H:=hK 34) [] [] rfl (by kernel_rfl) h
def w37o7(a b:ByteArray):MR:=fun V R=>qAs [uS a,uS b] 101 V fun c V1=>R (rT #[.slice (qAa c 0) 1 1]) V1
theorem s37o7{a b:ByteArray}{V:Mem}{R:List Value->Mem->Prop}(h:w37o7 a b V (OV R)):qDd Tryz.prog 34 qBY 7 1 [(13,uA #[uS a,uS b])] [14] V R :=
 qAz (H:=hK 34) [(13,(.agg (.cons (.var .s 0) (.cons (.var .s 1) .nil))))] [uS a,uS b] rfl (by kernel_rfl) h
def w37o8(a:Value):MR:=fun V R=>R (rT #[K.cast .f a]) V
theorem s37o8{a:Value}{V:Mem}{R:List Value->Mem->Prop}(h:w37o8 a V (OV R)):qDd Tryz.prog 34 qBY 8 1 [(1,K.cast .f a)] [15] V R :=
 qAz (H:=hK 34) [(1,(.var .f 0))] [a] rfl (by kernel_rfl) h
def w37o9(a:Value):MR:=fun V R=>∃f first caps,K.cast .f a=.func (.func f) first caps/\CO f/\TT f (first++#[uS (qAm [104,101,97,100])]++caps) V fun e V1=>∃b c d g,e=rV (uA #[uI b,uI c,uS d,uL g])/\R (rT #[uA #[uI b,uI c,uS d,uL g]]) V1
theorem s37o9{a:Value}{V:Mem}{R:List Value->Mem->Prop}(h:w37o9 a V (OV R)):qDd Tryz.prog 34 qBY 9 1 [(15,K.cast .f a)] [16] V R :=
 qAz (H:=hK 34) [(15,(.var .f 0))] [a] rfl (by kernel_rfl) h
def w37o10(a b:Int)(c:ByteArray)(d:Sl):MR:=fun V R=>qAs [uI a,uI b,uS c,uL d] 151 V fun g V1=>R (rT #[.slice (qAa g 0) 1 1]) V1
theorem s37o10{a b:Int}{c:ByteArray}{d:Sl}{V:Mem}{R:List Value->Mem->Prop}(h:w37o10 a b c d V (OV R)):qDd Tryz.prog 34 qBY 10 1 [(16,uA #[uI a,uI b,uS c,uL d])] [17] V R :=
 qAz (H:=hK 34) [(16,(.agg (.cons (.var (.i .i64) 0) (.cons (.var (.i .i64) 1) (.cons (.var .s 2) (.cons (.var .sl 3) .nil))))))] [uI a,uI b,uS c,uL d] rfl (by kernel_rfl) h
def w37o11(a:Sl):MR:=fun V R=>R (rT #[uA #[uI 1,uS (qAm [120]),uL a,.slice none 0 0,.slice none 0 0]]) V
theorem s37o11{a:Sl}{V:Mem}{R:List Value->Mem->Prop}(h:w37o11 a V (OV R)):qDd Tryz.prog 34 qBY 11 1 [(17,uL a)] [18] V R :=
 qAz (H:=hK 34) [(17,(.var .sl 0))] [uL a] rfl (by kernel_rfl) h
def w37o12(a:Value):MR:=fun V R=>R (rT #[K.cast .f a]) V
theorem s37o12{a:Value}{V:Mem}{R:List Value->Mem->Prop}(h:w37o12 a V (OV R)):qDd Tryz.prog 34 qBY 12 1 [(1,K.cast .f a)] [19] V R :=
 qAz (H:=hK 34) [(1,(.var .f 0))] [a] rfl (by kernel_rfl) h
def w37o13(a:Value):MR:=fun V R=>∃f first caps,K.cast .f a=.func (.func f) first caps/\CO f/\TT f (first++#[uS (qAm [120])]++caps) V fun e V1=>∃b c d g,e=rV (uA #[uI b,uI c,uS d,uL g])/\R (rT #[uA #[uI b,uI c,uS d,uL g]]) V1
theorem s37o13{a:Value}{V:Mem}{R:List Value->Mem->Prop}(h:w37o13 a V (OV R)):qDd Tryz.prog 34 qBY 13 1 [(19,K.cast .f a)] [20] V R :=
 qAz (H:=hK 34) [(19,(.var .f 0))] [a] rfl (by kernel_rfl) h
def w37o14  : MR:=fun V R=>R (rT #[uA #[uI 3,uI 0,uS (qAm []),.slice none 0 0]]) V
theorem s37o14{V:Mem}{R:List Value->Mem->Prop}(h:w37o14 V (OV R)):qDd Tryz.prog 34 qBY 14 1 [] [21] V R :=
 qAz (H:=hK 34) [] [] rfl (by kernel_rfl) h
def w37o15(a b:Int)(c:ByteArray)(d:Sl)(g i:Int)(j:ByteArray)(k:Sl):MR:=fun V R=>qAs [uI a,uI b,uS c,uL d,uI g,uI i,uS j,uL k] 151 V fun l V1=>R (rT #[.slice (qAa l 0) 2 2]) V1
theorem s37o15{a b:Int}{c:ByteArray}{d:Sl}{g i:Int}{j:ByteArray}{k:Sl}{V:Mem}{R:List Value->Mem->Prop}(h:w37o15 a b c d g i j k V (OV R)):qDd Tryz.prog 34 qBY 15 1 [(20,uA #[uI a,uI b,uS c,uL d]),(21,uA #[uI g,uI i,uS j,uL k])] [22] V R :=
 qAz (H:=hK 34) [(20,(.agg (.cons (.var (.i .i64) 0) (.cons (.var (.i .i64) 1) (.cons (.var .s 2) (.cons (.var .sl 3) .nil)))))),(21,(.agg (.cons (.var (.i .i64) 4) (.cons (.var (.i .i64) 5) (.cons (.var .s 6) (.cons (.var .sl 7) .nil))))))] [uI a,uI b,uS c,uL d,uI g,uI i,uS j,uL k] rfl (by kernel_rfl) h
def w37o16(a:Sl):MR:=fun V R=>R (rT #[uA #[uI 15,uI 0,uS (qAm []),uL a]]) V
theorem s37o16{a:Sl}{V:Mem}{R:List Value->Mem->Prop}(h:w37o16 a V (OV R)):qDd Tryz.prog 34 qBY 16 1 [(22,uL a)] [23] V R :=
 qAz (H:=hK 34) [(22,(.var .sl 0))] [uL a] rfl (by kernel_rfl) h
def w37o17(a b:Int)(c:ByteArray)(d:Sl):MR:=fun V R=>qAs [uI a,uI b,uS c,uL d] 151 V fun g V1=>R (rT #[.slice (qAa g 0) 1 1]) V1
theorem s37o17{a b:Int}{c:ByteArray}{d:Sl}{V:Mem}{R:List Value->Mem->Prop}(h:w37o17 a b c d V (OV R)):qDd Tryz.prog 34 qBY 17 1 [(23,uA #[uI a,uI b,uS c,uL d])] [24] V R :=
 qAz (H:=hK 34) [(23,(.agg (.cons (.var (.i .i64) 0) (.cons (.var (.i .i64) 1) (.cons (.var .s 2) (.cons (.var .sl 3) .nil))))))] [uI a,uI b,uS c,uL d] rfl (by kernel_rfl) h
def w37o18(a:Option Addr):MR:=fun V R=>∃b c d g,V.rowp a ((0:Int).toNat*1) 4=some [uI b,uI c,uS d,uL g]/\R (rT #[uA #[uI b,uI c,uS d,uL g]]) V
theorem s37o18{a:Option Addr}{V:Mem}{R:List Value->Mem->Prop}(h:w37o18 a V (OV R)):qDd Tryz.prog 34 qBY 18 1 [(2,uP a)] [25] V R :=
 qAz (H:=hK 34) [(2,(.var .p 0))] [uP a] rfl (by kernel_rfl) h
def w37o19(a b:Int)(c:ByteArray)(d:Sl):MR:=fun V R=>qAs [uI a,uI b,uS c,uL d] 151 V fun g V1=>R (rT #[.slice (qAa g 0) 1 1]) V1
theorem s37o19{a b:Int}{c:ByteArray}{d:Sl}{V:Mem}{R:List Value->Mem->Prop}(h:w37o19 a b c d V (OV R)):qDd Tryz.prog 34 qBY 19 1 [(25,uA #[uI a,uI b,uS c,uL d])] [26] V R :=
 qAz (H:=hK 34) [(25,(.agg (.cons (.var (.i .i64) 0) (.cons (.var (.i .i64) 1) (.cons (.var .s 2) (.cons (.var .sl 3) .nil))))))] [uI a,uI b,uS c,uL d] rfl (by kernel_rfl) h
def w37o20(a:Sl):MR:=fun V R=>R (rT #[uA #[uI 1,uS (qAm [120]),uL a,.slice none 0 0,.slice none 0 0]]) V
theorem s37o20{a:Sl}{V:Mem}{R:List Value->Mem->Prop}(h:w37o20 a V (OV R)):qDd Tryz.prog 34 qBY 20 1 [(26,uL a)] [27] V R :=
 qAz (H:=hK 34) [(26,(.var .sl 0))] [uL a] rfl (by kernel_rfl) h
def w37o21(a:Int)(b:ByteArray)(c d g:Sl):MR:=fun V R=>qAs [uI a,uS b,uL c,uL d,uL g] 154 V fun i V1=>R (rT #[.slice (qAa i 0) 1 1]) V1
theorem s37o21{a:Int}{b:ByteArray}{c d g:Sl}{V:Mem}{R:List Value->Mem->Prop}(h:w37o21 a b c d g V (OV R)):qDd Tryz.prog 34 qBY 21 1 [(27,uA #[uI a,uS b,uL c,uL d,uL g])] [28] V R :=
 qAz (H:=hK 34) [(27,(.agg (.cons (.var (.i .i64) 0) (.cons (.var .s 1) (.cons (.var .sl 2) (.cons (.var .sl 3) (.cons (.var .sl 4) .nil)))))))] [uI a,uS b,uL c,uL d,uL g] rfl (by kernel_rfl) h
def w37o22(a b:Sl):MR:=fun V R=>R (rT #[uA #[uI 4,uS (qAm []),uL a,uL b,.slice none 0 0]]) V
theorem s37o22{a b:Sl}{V:Mem}{R:List Value->Mem->Prop}(h:w37o22 a b V (OV R)):qDd Tryz.prog 34 qBY 22 1 [(24,uL a),(28,uL b)] [29] V R :=
 qAz (H:=hK 34) [(24,(.var .sl 0)),(28,(.var .sl 1))] [uL a,uL b] rfl (by kernel_rfl) h
def w37o23(a:Int)(b:ByteArray)(c d g:Sl)(i:Int)(j:ByteArray)(k l o:Sl):MR:=fun V R=>qAs [uI a,uS b,uL c,uL d,uL g,uI i,uS j,uL k,uL l,uL o] 154 V fun p V1=>R (rT #[.slice (qAa p 0) 2 2]) V1
theorem s37o23{a:Int}{b:ByteArray}{c d g:Sl}{i:Int}{j:ByteArray}{k l o:Sl}{V:Mem}{R:List Value->Mem->Prop}(h:w37o23 a b c d g i j k l o V (OV R)):qDd Tryz.prog 34 qBY 23 1 [(18,uA #[uI a,uS b,uL c,uL d,uL g]),(29,uA #[uI i,uS j,uL k,uL l,uL o])] [30] V R :=
 qAz (H:=hK 34) [(18,(.agg (.cons (.var (.i .i64) 0) (.cons (.var .s 1) (.cons (.var .sl 2) (.cons (.var .sl 3) (.cons (.var .sl 4) .nil))))))),(29,(.agg (.cons (.var (.i .i64) 5) (.cons (.var .s 6) (.cons (.var .sl 7) (.cons (.var .sl 8) (.cons (.var .sl 9) .nil)))))))] [uI a,uS b,uL c,uL d,uL g,uI i,uS j,uL k,uL l,uL o] rfl (by kernel_rfl) h
def w37o24(a b:Sl):MR:=fun V R=>R (rT #[uA #[uS (qAm [119,97,108,107]),.slice none 0 0,uS (qAm []),uL a,uL b]]) V
theorem s37o24{a b:Sl}{V:Mem}{R:List Value->Mem->Prop}(h:w37o24 a b V (OV R)):qDd Tryz.prog 34 qBY 24 1 [(14,uL a),(30,uL b)] [31] V R :=
 qAz (H:=hK 34) [(14,(.var .sl 0)),(30,(.var .sl 1))] [uL a,uL b] rfl (by kernel_rfl) h
def w37o25(a:ByteArray)(b:Sl)(c:ByteArray)(d g:Sl):MR:=fun V R=>qAs [uS a,uL b,uS c,uL d,uL g] 143 V fun i V1=>R (rT #[.slice (qAa i 0) 1 1]) V1
theorem s37o25{a:ByteArray}{b:Sl}{c:ByteArray}{d g:Sl}{V:Mem}{R:List Value->Mem->Prop}(h:w37o25 a b c d g V (OV R)):qDd Tryz.prog 34 qBY 25 1 [(31,uA #[uS a,uL b,uS c,uL d,uL g])] [32] V R :=
 qAz (H:=hK 34) [(31,(.agg (.cons (.var .s 0) (.cons (.var .sl 1) (.cons (.var .s 2) (.cons (.var .sl 3) (.cons (.var .sl 4) .nil)))))))] [uS a,uL b,uS c,uL d,uL g] rfl (by kernel_rfl) h
def w37o26(a b c:Sl):MR:=fun V R=>R (rT #[uA #[uS (qAm [99,104,97,105,110]),uL a,uL b,uL c,.slice none 0 0,.slice none 0 0,.slice none 0 0,.slice none 0 0]]) V
theorem s37o26{a b c:Sl}{V:Mem}{R:List Value->Mem->Prop}(h:w37o26 a b c V (OV R)):qDd Tryz.prog 34 qBY 26 1 [(10,uL a),(12,uL b),(32,uL c)] [33] V R :=
 qAz (H:=hK 34) [(10,(.var .sl 0)),(12,(.var .sl 1)),(32,(.var .sl 2))] [uL a,uL b,uL c] rfl (by kernel_rfl) h
def w37o27(a:Option Addr)(b:ByteArray)(c d g i j k l:Sl):MR:=fun V R=>StT a 0 [uS b,uL c,uL d,uL g,uL i,uL j,uL k,uL l] V fun V1=>R (rT #[]) V1
theorem s37o27{a:Option Addr}{b:ByteArray}{c d g i j k l:Sl}{V:Mem}{R:List Value->Mem->Prop}(h:w37o27 a b c d g i j k l V (OV R)):qDd Tryz.prog 34 qBY 27 1 [(0,uP a),(33,uD b c d g i j k l)] [] V R :=
 qAz (H:=hK 34) [(0,(.var .p 0)),(33,(.agg (.cons (.var .s 1) (.cons (.var .sl 2) (.cons (.var .sl 3) (.cons (.var .sl 4) (.cons (.var .sl 5) (.cons (.var .sl 6) (.cons (.var .sl 7) (.cons (.var .sl 8) .nil))))))))))] [uP a,uS b,uL c,uL d,uL g,uL i,uL j,uL k,uL l] rfl (by kernel_rfl) h
end
end Go.Proofs
namespace Go.Proofs
open Go Go.Sx
attribute [local irreducible] Go.Sx.Tri
set_option linter.unusedVariables false
def chL:ByteArray:=qAm [76]
def qDQ:ByteArray:=qAm [110,101,120,116]
def qCC:ByteArray:=qAm [104,101,97,100]
def chX:ByteArray:=qAm [120]
def qHE:ByteArray:=qAm [119,97,108,107]
def chChain:ByteArray:=qAm [99,104,97,105,110]
def nmX(s:ByteArray):E:=.mk 4 0 s qAC []
def nxX:E:=.mk 5 0 qDQ qAC [nmX chX]
def nlX:E:=.mk 3 0 sE qAC []
def neX:E:=.mk 15 0 sE qAC [nmX chX,nlX]
def st1:S:=.mk 1 chX qAC [nmX qCC] qAC [] qAC []
def st2:S:=.mk 1 chX qAC [nxX] qAC [] qAC []
def st3:S:=.mk 4 sE qAC [neX] qAC [st2] qAC []
def chPr:Pr:=⟨qHE,qAC,[],sE,qAC,[⟨chX,chL⟩],qAC,[st1,st3]⟩
def chTy:Ty:=⟨chL,qAC,[⟨qDQ,chL⟩]⟩
def qCn:Ds:=⟨chChain,qAC,[chTy],qAC,[⟨qCC,chL⟩],qAC,[chPr],qAC,[],qAC,[],qAC,[],qAC,[]⟩
def chF:Value:=.func (.func 75) #[] #[]
def cE(x:E)(v:Value)(A:Mem):Prop:=∃e,v=e.v/\eEr e=x/\E.Ok A e
def cL(xs:List E)(v:Value)(A:Mem):Prop:=∃(s:Sl) (es:List E),v=s.v/\es.map eEr=xs/\qAc A s 4 (es.map E.row)/\∀e∈es,E.Ok A e
def cS(x:S)(v:Value)(A:Mem):Prop:=∃e:S,v=e.v/\sEr e=x/\S.Ok A e
def cB(xs:List S)(v:Value)(A:Mem):Prop:=∃(s:Sl) (es:List S),v=s.v/\es.map sEr=xs/\qAc A s 5 (es.map S.row)/\∀e∈es,S.Ok A e
def cF(f:Fld)(v:Value)(A:Mem):Prop:=∃s:Sl,v=s.v/\qAc A s 2 ([f].map Fld.row)
def cT(v:Value)(A:Mem):Prop:=∃t:Ty,v=.agg t.row.toArray/\tEr t=chTy/\Ty.Ok A t
def cTs(v:Value)(A:Mem):Prop:=∃(s:Sl) (t:Ty),v=s.v/\tEr t=chTy/\qAc A s 2 ([t].map Ty.row)/\Ty.Ok A t
def cP(v:Value)(A:Mem):Prop:=∃p:Pr,v=p.v/\pEr p=chPr/\Pr.Ok A p
def cPs(v:Value)(A:Mem):Prop:=∃(s:Sl) (p:Pr),v=s.v/\pEr p=chPr/\qAc A s 5 ([p].map Pr.row)/\Pr.Ok A p
def cD(v:Value)(A:Mem):Prop:=∃d:Ds,v=d.v/\qJw qCn d/\Ds.Ok A d
section
variable{A B:Mem}{v:Value}(hs:A.sub B)
include hs
theorem cE.mono{x:E}(h:cE x v A):cE x v B:=by obtain⟨e,a,b,c⟩:=h;exact⟨e,a,b,c.sub hs⟩
theorem cL.mono{x:List E}(h:cL x v A):cL x v B:=by obtain⟨s,es,a,b,c,d⟩:=h;exact⟨s,es,a,b,c.sub hs,fun e he=>(d e he).sub hs⟩
theorem cS.mono{x:S}(h:cS x v A):cS x v B:=by obtain⟨e,a,b,c⟩:=h;exact⟨e,a,b,c.sub hs⟩
theorem cB.mono{x:List S}(h:cB x v A):cB x v B:=by obtain⟨s,es,a,b,c,d⟩:=h;exact⟨s,es,a,b,c.sub hs,fun e he=>(d e he).sub hs⟩
theorem cF.mono{f:Fld}(h:cF f v A):cF f v B:=by obtain⟨s,a,b⟩:=h;exact⟨s,a,b.sub hs⟩
theorem cT.mono(h:cT v A):cT v B:=by obtain⟨t,a,b,c⟩:=h;exact⟨t,a,b,c.sub hs⟩
theorem cTs.mono(h:cTs v A):cTs v B:=by obtain⟨s,t,a,b,c,d⟩:=h;exact⟨s,t,a,b,c.sub hs,d.sub hs⟩
theorem pr_sub{p:Pr}(h:Pr.Ok A p):Pr.Ok B p:=⟨h.params.sub hs,h.locals.sub hs,h.body.sub hs,fun s hp=>(h.stmts s hp).sub hs⟩
theorem cP.mono(h:cP v A):cP v B:=by obtain⟨p,a,b,c⟩:=h;exact⟨p,a,b,pr_sub hs c⟩
theorem cPs.mono(h:cPs v A):cPs v B:=by obtain⟨s,p,a,b,c,d⟩:=h;exact⟨s,p,a,b,c.sub hs,pr_sub hs d⟩
theorem cD.mono(h:cD v A):cD v B:=by obtain⟨d,a,b,c⟩:=h;exact⟨d,a,b,c.sub hs⟩
end
def qAk:Nat->List Nat
 | 1=>[0]
 | 2=>[1]
 | 3=>[2]
 | 5=>[4]
 | 7=>[6]
 | 9=>[8]
 | 10=>[9]
 | 11=>[10]
 | 13=>[12]
 | 15=>[13,14]
 | 16=>[15]
 | 17=>[16]
 | 19=>[18]
 | 20=>[19]
 | 21=>[20]
 | 22=>[17,21]
 | 23=>[11,22]
 | 24=>[7,23]
 | 25=>[24]
 | 26=>[3,5,25]
 | 27=>[26]
 | _=>[]
def chQ(A:Mem):Nat->Value->Prop
 | 0,v=>v=.agg #[uS qDQ,uS chL]
 | 1,v=>cF ⟨qDQ,chL⟩ v A
 | 2,v=>cT v A
 | 3,v=>cTs v A
 | 4,v=>v=.agg #[uS qCC,uS chL]
 | 5,v=>cF ⟨qCC,chL⟩ v A
 | 6,v=>v=.agg #[uS chX,uS chL]
 | 7,v=>cF ⟨chX,chL⟩ v A
 | 8,v=>v=chF
 | 9,v=>cE (nmX qCC) v A
 | 10,v=>cL [nmX qCC] v A
 | 11,v=>cS st1 v A
 | 12,v=>v=chF
 | 13,v=>cE (nmX chX) v A
 | 14,v=>cE nlX v A
 | 15,v=>cL [nmX chX,nlX] v A
 | 16,v=>cE neX v A
 | 17,v=>cL [neX] v A
 | 18,v=>cE nxX v A
 | 19,v=>cL [nxX] v A
 | 20,v=>cS st2 v A
 | 21,v=>cB [st2] v A
 | 22,v=>cS st3 v A
 | 23,v=>cB [st1,st3] v A
 | 24,v=>cP v A
 | 25,v=>cPs v A
 | 26,v=>cD v A
 | _,_=>True
theorem chQ_mono{A B:Mem}(hs:A.sub B):∀(i:Nat) (v:Value),chQ A i v->chQ B i v
 | 0,_,h=>h
 | 1,_,h=>cF.mono hs h
 | 2,_,h=>cT.mono hs h
 | 3,_,h=>cTs.mono hs h
 | 4,_,h=>h
 | 5,_,h=>cF.mono hs h
 | 6,_,h=>h
 | 7,_,h=>cF.mono hs h
 | 8,_,h=>h
 | 9,_,h=>cE.mono hs h
 | 10,_,h=>cL.mono hs h
 | 11,_,h=>cS.mono hs h
 | 12,_,h=>h
 | 13,_,h=>cE.mono hs h
 | 14,_,h=>cE.mono hs h
 | 15,_,h=>cL.mono hs h
 | 16,_,h=>cE.mono hs h
 | 17,_,h=>cL.mono hs h
 | 18,_,h=>cE.mono hs h
 | 19,_,h=>cL.mono hs h
 | 20,_,h=>cS.mono hs h
 | 21,_,h=>cB.mono hs h
 | 22,_,h=>cS.mono hs h
 | 23,_,h=>cB.mono hs h
 | 24,_,h=>cP.mono hs h
 | 25,_,h=>cPs.mono hs h
 | 26,_,h=>cD.mono hs h
 | _+27,_,_=>trivial
def chN(b0:Nat)(V:Mem):Mem:=fun c=>if c=b0 then none else V c
theorem chN_ne{b0 c:Nat}{A:Mem}(h:c≠b0):chN b0 A c=A c:=if_neg h
theorem chN_no{b0 c:Nat}{A:Mem}(h:c=b0):chN b0 A c=none:=if_pos h
theorem chN_sub{b0:Nat}{A B:Mem}(h:A.sub B):(chN b0 A).sub (chN b0 B):=fun c o hc=>by
 by_cases e:c=b0
 ·rw[chN_no e]at hc;cases hc
 ·rw[chN_ne e]at hc ⊢;exact h _ _ hc
theorem chN_le{b0:Nat}{A:Mem}:(chN b0 A).sub A:=fun c o hc=>by
 by_cases e:c=b0
 ·rw[chN_no e]at hc;cases hc
 ·rw[chN_ne e]at hc;exact hc
def chBase(b0 b6:Nat):List (Nat×Value):=[(0,pv b0),(1,chF),(2,pv b6)]
structure ChB (V:Mem) (b0 b6:Nat):Prop where
 z:∃o,V b0=some o
 next:∃e,eEr e=nxX/\V b6=some (.cells e.row.toArray 151 (0,0))/\E.Ok (chN b0 V) e
def ChG(i:Nat)(b0 b6:Nat)(V1:Mem)(val:Nat->Value):Prop:=∃ins,(∀s v,ins.lookup s=some v->(chBase b0 b6).lookup s=some v∨∃j∈qAk i,s=7+j/\v=val j)/\qDd Tryz.prog 34 qBY i 1 ins [7+i] V1 fun vs V2=>∃v,vs=[v]/\V1.sub V2/\chQ (chN b0 V2) i v
theorem qDC{val:Nat->Value}:∀{l:List Nat} {s:Nat} {v:Value},(l.map fun j=>(7+j,val j)).lookup s=some v->∃j∈l,s=7+j/\v=val j
 | [],_,_,h=>by cases h
 | j::l,s,v,h=>by
  rw[List.map_cons,List.lookup_cons]at h
  split at h
  ·rename_i e;simp only[beq_iff_eq]at e;cases h;exact⟨j,List.mem_cons_self,e,rfl⟩
  ·obtain⟨k,hk,h1⟩:=qDC h;exact⟨k,List.mem_cons_of_mem _ hk,h1⟩
theorem chIn1{k s:Nat}{x v:Value}(h:[(k,x)].lookup s=some v):s=k/\v=x:=by
 rw[List.lookup_cons]at h
 split at h
 ·rename_i e;simp only[beq_iff_eq]at e;cases h;exact⟨e,rfl⟩
 ·cases h
theorem chIn0{s:Nat}{v:Value}{Q:Prop}(h:([]:List (Nat×Value)).lookup s=some v):Q:=by cases h
section
variable{V V1:Mem}{b0 b6:Nat}{val:Nat->Value}
theorem qEQ(hB:ChB V b0 b6)(hs:V.sub V1){b:Nat}(hb:V1 b=none)(o:Obj):chN b0 (V1.set b o) b=some o:=by
 have h:b≠b0:=fun e=>by
  obtain⟨o,ho⟩:=hB.z
  rw[e,hs _ _ ho]at hb;cases hb
 rw[chN_ne h];exact Mem.set_same _ _ _
theorem qDB{b:Nat}(hb:V1 b=none)(o:Obj):(chN b0 V1).sub (chN b0 (V1.set b o)):=chN_sub (Mem.sub_new hb o)
theorem c75{s:ByteArray}:PP 75 [.string s] V (nmX s).v:=by
 refine x75 ?_
 unfold w75
 exact⟨rfl,rfl⟩
theorem chNil{A:Mem}{n:Nat}:qAc A ⟨none,0,0⟩ n []:=qAc.nil
theorem chNm{A:Mem}{op:Int}{s:ByteArray}(h:IntKind.i64.min<=op/\op<=IntKind.i64.max):E.Ok A (.mk op 0 s ⟨none,0,0⟩ []):=.mk chNil (fun _ h=>by simp at h) h (by decide)
theorem ch0(hB:ChB V b0 b6)(hs:V.sub V1)(hv:∀j∈qAk 0,chQ (chN b0 V1) j (val j)):ChG 0 b0 b6 V1 val:=by
 have _:=hB.z;have _:=hs;have _:=hv
 exact⟨[],fun _ _ h=>chIn0 h,s37o0 ⟨_,rfl,.agg #[uS qDQ,uS chL],rfl,Mem.sub.refl _,rfl⟩⟩
theorem ch1(hB:ChB V b0 b6)(hs:V.sub V1)(hv:∀j∈qAk 1,chQ (chN b0 V1) j (val j)):ChG 1 b0 b6 V1 val:=by
 have h0:(val 0)=.agg #[uS qDQ,uS chL]:=hv 0 (by simp[qAk])
 have eq:[(7,.agg #[uS qDQ,uS chL])]=(qAk 1).map fun j=>(7+j,val j):=by simp[qAk,h0]
 refine⟨_,fun s v h=>.inr (qDC (by rw[<- eq];exact h)),s37o1 (a:=qDQ) (b:=chL) ?_⟩
 unfold w37o1
 intro b hb
 exact⟨_,rfl,_,rfl,Mem.sub_new hb _,⟨some ⟨b,0,none⟩,1,1⟩,rfl,qAc.cells (xs:=[⟨qDQ,chL⟩]) (row:=Fld.row) (qEQ hB hs hb _) rfl (fun _=>rfl) rfl (by simp)⟩
theorem ch2(hB:ChB V b0 b6)(hs:V.sub V1)(hv:∀j∈qAk 2,chQ (chN b0 V1) j (val j)):ChG 2 b0 b6 V1 val:=by
 have h1:cF ⟨qDQ,chL⟩ (val 1) (chN b0 V1):=hv 1 (by simp[qAk])
 obtain⟨l,s1,s2⟩:=h1
 have eq:[(8,l.v)]=(qAk 2).map fun j=>(7+j,val j):=by simp[qAk,s1]
 refine⟨_,fun s v h=>.inr (qDC (by rw[<- eq];exact h)),s37o2 (a:=l) ⟨_,rfl,_,rfl,Mem.sub.refl _,⟨chL,l,[⟨qDQ,chL⟩]⟩,rfl,rfl,⟨s2⟩⟩⟩
theorem ch3(hB:ChB V b0 b6)(hs:V.sub V1)(hv:∀j∈qAk 3,chQ (chN b0 V1) j (val j)):ChG 3 b0 b6 V1 val:=by
 have h2:cT (val 2) (chN b0 V1):=hv 2 (by simp[qAk])
 obtain⟨x,s1,s2,s3⟩:=h2
 have eq:[(9,.agg x.row.toArray)]=(qAk 3).map fun j=>(7+j,val j):=by simp[qAk,s1]
 refine⟨_,fun s v h=>.inr (qDC (by rw[<- eq];exact h)),s37o3 (a:=x.name) (b:=x.fs) ?_⟩
 unfold w37o3
 intro b hb
 exact⟨_,rfl,_,rfl,Mem.sub_new hb _,⟨some ⟨b,0,none⟩,1,1⟩,x,rfl,s2,qAc.cells (xs:=[x]) (row:=Ty.row) (qEQ hB hs hb _) rfl (fun _=>rfl) rfl (by simp),s3.sub (qDB hb _)⟩
theorem ch4(hB:ChB V b0 b6)(hs:V.sub V1)(hv:∀j∈qAk 4,chQ (chN b0 V1) j (val j)):ChG 4 b0 b6 V1 val:=by
 have _:=hB.z;have _:=hs;have _:=hv
 exact⟨[],fun _ _ h=>chIn0 h,s37o4 ⟨_,rfl,.agg #[uS qCC,uS chL],rfl,Mem.sub.refl _,rfl⟩⟩
theorem ch5(hB:ChB V b0 b6)(hs:V.sub V1)(hv:∀j∈qAk 5,chQ (chN b0 V1) j (val j)):ChG 5 b0 b6 V1 val:=by
 have h4:(val 4)=.agg #[uS qCC,uS chL]:=hv 4 (by simp[qAk])
 have eq:[(11,.agg #[uS qCC,uS chL])]=(qAk 5).map fun j=>(7+j,val j):=by simp[qAk,h4]
 refine⟨_,fun s v h=>.inr (qDC (by rw[<- eq];exact h)),s37o5 (a:=qCC) (b:=chL) ?_⟩
 unfold w37o5
 intro b hb
 exact⟨_,rfl,_,rfl,Mem.sub_new hb _,⟨some ⟨b,0,none⟩,1,1⟩,rfl,qAc.cells (xs:=[⟨qCC,chL⟩]) (row:=Fld.row) (qEQ hB hs hb _) rfl (fun _=>rfl) rfl (by simp)⟩
theorem ch6(hB:ChB V b0 b6)(hs:V.sub V1)(hv:∀j∈qAk 6,chQ (chN b0 V1) j (val j)):ChG 6 b0 b6 V1 val:=by
 have _:=hB.z;have _:=hs;have _:=hv
 exact⟨[],fun _ _ h=>chIn0 h,s37o6 ⟨_,rfl,.agg #[uS chX,uS chL],rfl,Mem.sub.refl _,rfl⟩⟩
theorem ch7(hB:ChB V b0 b6)(hs:V.sub V1)(hv:∀j∈qAk 7,chQ (chN b0 V1) j (val j)):ChG 7 b0 b6 V1 val:=by
 have h6:(val 6)=.agg #[uS chX,uS chL]:=hv 6 (by simp[qAk])
 have eq:[(13,.agg #[uS chX,uS chL])]=(qAk 7).map fun j=>(7+j,val j):=by simp[qAk,h6]
 refine⟨_,fun s v h=>.inr (qDC (by rw[<- eq];exact h)),s37o7 (a:=chX) (b:=chL) ?_⟩
 unfold w37o7
 intro b hb
 exact⟨_,rfl,_,rfl,Mem.sub_new hb _,⟨some ⟨b,0,none⟩,1,1⟩,rfl,qAc.cells (xs:=[⟨chX,chL⟩]) (row:=Fld.row) (qEQ hB hs hb _) rfl (fun _=>rfl) rfl (by simp)⟩
theorem ch8(hB:ChB V b0 b6)(hs:V.sub V1)(hv:∀j∈qAk 8,chQ (chN b0 V1) j (val j)):ChG 8 b0 b6 V1 val:=by
 have _:=hB.z;have _:=hs;have _:=hv
 exact⟨[(1,chF)],fun s v h=>.inl (by obtain⟨rfl,rfl⟩:=chIn1 h;rfl),s37o8 (a:=chF) ⟨_,rfl,chF,rfl,Mem.sub.refl _,rfl⟩⟩
theorem ch9(hB:ChB V b0 b6)(hs:V.sub V1)(hv:∀j∈qAk 9,chQ (chN b0 V1) j (val j)):ChG 9 b0 b6 V1 val:=by
 have h8:(val 8)=chF:=hv 8 (by simp[qAk])
 have eq:[(15,chF)]=(qAk 9).map fun j=>(7+j,val j):=by simp[qAk,h8]
 refine⟨_,fun s v h=>.inr (qDC (by rw[<- eq];exact h)),s37o9 (a:=chF) ?_⟩
 unfold w37o9
 refine⟨75,#[],#[],rfl,Tryz.call75,(c75 (s:=qCC)).callv (first:=[]) (caps:=[]) ⟨_,_,_,_,rfl,_,rfl,_,rfl,Mem.sub.refl _,.mk 4 0 qCC ⟨none,0,0⟩ [],rfl,rfl,chNm (by decide)⟩⟩
theorem ch10(hB:ChB V b0 b6)(hs:V.sub V1)(hv:∀j∈qAk 10,chQ (chN b0 V1) j (val j)):ChG 10 b0 b6 V1 val:=by
 have h9:cE (nmX qCC) (val 9) (chN b0 V1):=hv 9 (by simp[qAk])
 obtain⟨e,e1,e2,e3⟩:=h9
 have eq:[(16,e.v)]=(qAk 10).map fun j=>(7+j,val j):=by simp[qAk,e1]
 refine⟨_,fun s v h=>.inr (qDC (by rw[<- eq];exact h)),s37o10 (a:=e.op) (b:=e.n) (c:=e.s) (d:=e.l) ?_⟩
 unfold w37o10
 intro b hb
 exact⟨_,rfl,_,rfl,Mem.sub_new hb _,⟨some ⟨b,0,none⟩,1,1⟩,[e],rfl,by rw[List.map_singleton,e2],qAc.cells (xs:=[e]) (row:=E.row) (qEQ hB hs hb _) rfl (fun _=>rfl) rfl (by simp),fun x hx=>by rw[List.mem_singleton.1 hx];exact e3.sub (qDB hb _)⟩
theorem ch11(hB:ChB V b0 b6)(hs:V.sub V1)(hv:∀j∈qAk 11,chQ (chN b0 V1) j (val j)):ChG 11 b0 b6 V1 val:=by
 have h10:cL [nmX qCC] (val 10) (chN b0 V1):=hv 10 (by simp[qAk])
 obtain⟨l,es,s1,s2,s3,s4⟩:=h10
 have eq:[(17,l.v)]=(qAk 11).map fun j=>(7+j,val j):=by simp[qAk,s1]
 refine⟨_,fun s v h=>.inr (qDC (by rw[<- eq];exact h)),s37o11 (a:=l) ⟨_,rfl,_,rfl,Mem.sub.refl _,.mk 1 chX l es ⟨none,0,0⟩ [] ⟨none,0,0⟩ [],rfl,by unfold sEr;rw[qDo,s2];rfl,.mk s3 s4 chNil (fun _ h=>by simp at h) chNil (fun _ h=>by simp at h) (by decide)⟩⟩
theorem ch12(hB:ChB V b0 b6)(hs:V.sub V1)(hv:∀j∈qAk 12,chQ (chN b0 V1) j (val j)):ChG 12 b0 b6 V1 val:=by
 have _:=hB.z;have _:=hs;have _:=hv
 exact⟨[(1,chF)],fun s v h=>.inl (by obtain⟨rfl,rfl⟩:=chIn1 h;rfl),s37o12 (a:=chF) ⟨_,rfl,chF,rfl,Mem.sub.refl _,rfl⟩⟩
theorem ch13(hB:ChB V b0 b6)(hs:V.sub V1)(hv:∀j∈qAk 13,chQ (chN b0 V1) j (val j)):ChG 13 b0 b6 V1 val:=by
 have h12:(val 12)=chF:=hv 12 (by simp[qAk])
 have eq:[(19,chF)]=(qAk 13).map fun j=>(7+j,val j):=by simp[qAk,h12]
 refine⟨_,fun s v h=>.inr (qDC (by rw[<- eq];exact h)),s37o13 (a:=chF) ?_⟩
 unfold w37o13
 refine⟨75,#[],#[],rfl,Tryz.call75,(c75 (s:=chX)).callv (first:=[]) (caps:=[]) ⟨_,_,_,_,rfl,_,rfl,_,rfl,Mem.sub.refl _,.mk 4 0 chX ⟨none,0,0⟩ [],rfl,rfl,chNm (by decide)⟩⟩
theorem ch14(hB:ChB V b0 b6)(hs:V.sub V1)(hv:∀j∈qAk 14,chQ (chN b0 V1) j (val j)):ChG 14 b0 b6 V1 val:=by
 have _:=hB.z;have _:=hs;have _:=hv
 exact⟨[],fun _ _ h=>chIn0 h,s37o14 ⟨_,rfl,_,rfl,Mem.sub.refl _,.mk 3 0 sE ⟨none,0,0⟩ [],rfl,rfl,chNm (by decide)⟩⟩
theorem ch15(hB:ChB V b0 b6)(hs:V.sub V1)(hv:∀j∈qAk 15,chQ (chN b0 V1) j (val j)):ChG 15 b0 b6 V1 val:=by
 have h13:cE (nmX chX) (val 13) (chN b0 V1):=hv 13 (by simp[qAk])
 have h14:cE nlX (val 14) (chN b0 V1):=hv 14 (by simp[qAk])
 obtain⟨e,e1,e2,e3⟩:=h13
 obtain⟨f,f1,f2,f3⟩:=h14
 have eq:[(20,e.v),(21,f.v)]=(qAk 15).map fun j=>(7+j,val j):=by simp[qAk,e1,f1]
 refine⟨_,fun s v h=>.inr (qDC (by rw[<- eq];exact h)),s37o15 (a:=e.op) (b:=e.n) (c:=e.s) (d:=e.l) (g:=f.op) (i:=f.n) (j:=f.s) (k:=f.l) ?_⟩
 unfold w37o15
 intro b hb
 exact⟨_,rfl,_,rfl,Mem.sub_new hb _,⟨some ⟨b,0,none⟩,2,2⟩,[e,f],rfl,by simp[e2,f2],qAc.cells (xs:=[e,f]) (row:=E.row) (qEQ hB hs hb _) rfl (fun _=>rfl) rfl (by simp),fun x hx=>by
  rcases List.mem_cons.1 hx with rfl|hx
  ·exact e3.sub (qDB hb _)
  ·rw[List.mem_singleton.1 hx];exact f3.sub (qDB hb _)⟩
theorem ch16(hB:ChB V b0 b6)(hs:V.sub V1)(hv:∀j∈qAk 16,chQ (chN b0 V1) j (val j)):ChG 16 b0 b6 V1 val:=by
 have h15:cL [nmX chX,nlX] (val 15) (chN b0 V1):=hv 15 (by simp[qAk])
 obtain⟨l,es,s1,s2,s3,s4⟩:=h15
 have eq:[(22,l.v)]=(qAk 16).map fun j=>(7+j,val j):=by simp[qAk,s1]
 refine⟨_,fun s v h=>.inr (qDC (by rw[<- eq];exact h)),s37o16 (a:=l) ⟨_,rfl,_,rfl,Mem.sub.refl _,.mk 15 0 sE l es,rfl,by unfold eEr;rw[qDo,s2];rfl,.mk s3 s4 (by decide) (by decide)⟩⟩
theorem ch17(hB:ChB V b0 b6)(hs:V.sub V1)(hv:∀j∈qAk 17,chQ (chN b0 V1) j (val j)):ChG 17 b0 b6 V1 val:=by
 have h16:cE neX (val 16) (chN b0 V1):=hv 16 (by simp[qAk])
 obtain⟨e,e1,e2,e3⟩:=h16
 have eq:[(23,e.v)]=(qAk 17).map fun j=>(7+j,val j):=by simp[qAk,e1]
 refine⟨_,fun s v h=>.inr (qDC (by rw[<- eq];exact h)),s37o17 (a:=e.op) (b:=e.n) (c:=e.s) (d:=e.l) ?_⟩
 unfold w37o17
 intro b hb
 exact⟨_,rfl,_,rfl,Mem.sub_new hb _,⟨some ⟨b,0,none⟩,1,1⟩,[e],rfl,by rw[List.map_singleton,e2],qAc.cells (xs:=[e]) (row:=E.row) (qEQ hB hs hb _) rfl (fun _=>rfl) rfl (by simp),fun x hx=>by rw[List.mem_singleton.1 hx];exact e3.sub (qDB hb _)⟩
theorem ch18(hB:ChB V b0 b6)(hs:V.sub V1)(hv:∀j∈qAk 18,chQ (chN b0 V1) j (val j)):ChG 18 b0 b6 V1 val:=by
 have _:=hB.z;have _:=hs;have _:=hv
 obtain⟨e,he,hb,hok⟩:=hB.next
 exact⟨[(2,pv b6)],fun s v h=>.inl (by obtain⟨rfl,rfl⟩:=chIn1 h;rfl),s37o18 (a:=some ⟨b6,0,none⟩) ⟨_,_,_,_,qAe (hs _ _ hb) 0 4 (by simp[E.row]),_,rfl,e.v,rfl,Mem.sub.refl _,e,rfl,he,hok.sub (chN_sub hs)⟩⟩
theorem ch19(hB:ChB V b0 b6)(hs:V.sub V1)(hv:∀j∈qAk 19,chQ (chN b0 V1) j (val j)):ChG 19 b0 b6 V1 val:=by
 have h18:cE nxX (val 18) (chN b0 V1):=hv 18 (by simp[qAk])
 obtain⟨e,e1,e2,e3⟩:=h18
 have eq:[(25,e.v)]=(qAk 19).map fun j=>(7+j,val j):=by simp[qAk,e1]
 refine⟨_,fun s v h=>.inr (qDC (by rw[<- eq];exact h)),s37o19 (a:=e.op) (b:=e.n) (c:=e.s) (d:=e.l) ?_⟩
 unfold w37o19
 intro b hb
 exact⟨_,rfl,_,rfl,Mem.sub_new hb _,⟨some ⟨b,0,none⟩,1,1⟩,[e],rfl,by rw[List.map_singleton,e2],qAc.cells (xs:=[e]) (row:=E.row) (qEQ hB hs hb _) rfl (fun _=>rfl) rfl (by simp),fun x hx=>by rw[List.mem_singleton.1 hx];exact e3.sub (qDB hb _)⟩
theorem ch20(hB:ChB V b0 b6)(hs:V.sub V1)(hv:∀j∈qAk 20,chQ (chN b0 V1) j (val j)):ChG 20 b0 b6 V1 val:=by
 have h19:cL [nxX] (val 19) (chN b0 V1):=hv 19 (by simp[qAk])
 obtain⟨l,es,s1,s2,s3,s4⟩:=h19
 have eq:[(26,l.v)]=(qAk 20).map fun j=>(7+j,val j):=by simp[qAk,s1]
 refine⟨_,fun s v h=>.inr (qDC (by rw[<- eq];exact h)),s37o20 (a:=l) ⟨_,rfl,_,rfl,Mem.sub.refl _,.mk 1 chX l es ⟨none,0,0⟩ [] ⟨none,0,0⟩ [],rfl,by unfold sEr;rw[qDo,s2];rfl,.mk s3 s4 chNil (fun _ h=>by simp at h) chNil (fun _ h=>by simp at h) (by decide)⟩⟩
theorem ch21(hB:ChB V b0 b6)(hs:V.sub V1)(hv:∀j∈qAk 21,chQ (chN b0 V1) j (val j)):ChG 21 b0 b6 V1 val:=by
 have h20:cS st2 (val 20) (chN b0 V1):=hv 20 (by simp[qAk])
 obtain⟨⟨op,s,el,es,ll,ls,xl,xs⟩,e1,e2,e3⟩:=h20
 have eq:[(27,(S.mk op s el es ll ls xl xs).v)]=(qAk 21).map fun j=>(7+j,val j):=by simp[qAk,e1]
 refine⟨_,fun s v h=>.inr (qDC (by rw[<- eq];exact h)),s37o21 (a:=op) (b:=s) (c:=el) (d:=ll) (g:=xl) ?_⟩
 unfold w37o21
 intro b hb
 exact⟨_,rfl,_,rfl,Mem.sub_new hb _,⟨some ⟨b,0,none⟩,1,1⟩,[S.mk op s el es ll ls xl xs],rfl,by rw[List.map_singleton,e2],qAc.cells (xs:=[S.mk op s el es ll ls xl xs]) (row:=S.row) (qEQ hB hs hb _) rfl (fun x=>by cases x;rfl) rfl (by simp),fun x hx=>by rw[List.mem_singleton.1 hx];exact e3.sub (qDB hb _)⟩
theorem ch22(hB:ChB V b0 b6)(hs:V.sub V1)(hv:∀j∈qAk 22,chQ (chN b0 V1) j (val j)):ChG 22 b0 b6 V1 val:=by
 have h17:cL [neX] (val 17) (chN b0 V1):=hv 17 (by simp[qAk])
 have h21:cB [st2] (val 21) (chN b0 V1):=hv 21 (by simp[qAk])
 obtain⟨l,es,s1,s2,s3,s4⟩:=h17
 obtain⟨k,ss,k1,k2,k3,k4⟩:=h21
 have eq:[(24,l.v),(28,k.v)]=(qAk 22).map fun j=>(7+j,val j):=by simp[qAk,s1,k1]
 refine⟨_,fun s v h=>.inr (qDC (by rw[<- eq];exact h)),s37o22 (a:=l) (b:=k) ⟨_,rfl,_,rfl,Mem.sub.refl _,.mk 4 sE l es k ss ⟨none,0,0⟩ [],rfl,by unfold sEr;rw[qDo,s2,qHT,k2];rfl,.mk s3 s4 k3 k4 chNil (fun _ h=>by simp at h) (by decide)⟩⟩
theorem ch23(hB:ChB V b0 b6)(hs:V.sub V1)(hv:∀j∈qAk 23,chQ (chN b0 V1) j (val j)):ChG 23 b0 b6 V1 val:=by
 have h11:cS st1 (val 11) (chN b0 V1):=hv 11 (by simp[qAk])
 have h22:cS st3 (val 22) (chN b0 V1):=hv 22 (by simp[qAk])
 obtain⟨⟨op,s,el,es,ll,ls,xl,xs⟩,e1,e2,e3⟩:=h11
 obtain⟨⟨op2,s2,el2,es2,ll2,ls2,xl2,xs2⟩,f1,f2,f3⟩:=h22
 have eq:[(18,(S.mk op s el es ll ls xl xs).v),(29,(S.mk op2 s2 el2 es2 ll2 ls2 xl2 xs2).v)]=(qAk 23).map fun j=>(7+j,val j):=by simp[qAk,e1,f1]
 refine⟨_,fun s v h=>.inr (qDC (by rw[<- eq];exact h)),s37o23 (a:=op) (b:=s) (c:=el) (d:=ll) (g:=xl) (i:=op2) (j:=s2) (k:=el2) (l:=ll2) (o:=xl2) ?_⟩
 unfold w37o23
 intro b hb
 exact⟨_,rfl,_,rfl,Mem.sub_new hb _,⟨some ⟨b,0,none⟩,2,2⟩,[S.mk op s el es ll ls xl xs,S.mk op2 s2 el2 es2 ll2 ls2 xl2 xs2],rfl,by rw[List.map_cons,List.map_singleton,e2,f2],qAc.cells (xs:=[S.mk op s el es ll ls xl xs,S.mk op2 s2 el2 es2 ll2 ls2 xl2 xs2]) (row:=S.row) (qEQ hB hs hb _) rfl (fun x=>by cases x;rfl) rfl (by simp),fun x hx=>by
  rcases List.mem_cons.1 hx with rfl|hx
  ·exact e3.sub (qDB hb _)
  ·rw[List.mem_singleton.1 hx];exact f3.sub (qDB hb _)⟩
theorem ch24(hB:ChB V b0 b6)(hs:V.sub V1)(hv:∀j∈qAk 24,chQ (chN b0 V1) j (val j)):ChG 24 b0 b6 V1 val:=by
 have h7:cF ⟨chX,chL⟩ (val 7) (chN b0 V1):=hv 7 (by simp[qAk])
 have h23:cB [st1,st3] (val 23) (chN b0 V1):=hv 23 (by simp[qAk])
 obtain⟨l,s1,s2⟩:=h7
 obtain⟨k,ss,k1,k2,k3,k4⟩:=h23
 have eq:[(14,l.v),(30,k.v)]=(qAk 24).map fun j=>(7+j,val j):=by simp[qAk,s1,k1]
 refine⟨_,fun s v h=>.inr (qDC (by rw[<- eq];exact h)),s37o24 (a:=l) (b:=k) ⟨_,rfl,_,rfl,Mem.sub.refl _,⟨qHE,⟨none,0,0⟩,[],sE,l,[⟨chX,chL⟩],k,ss⟩,rfl,by unfold pEr;rw[qHT,k2];rfl,⟨chNil,s2,k3,k4⟩⟩⟩
theorem ch25(hB:ChB V b0 b6)(hs:V.sub V1)(hv:∀j∈qAk 25,chQ (chN b0 V1) j (val j)):ChG 25 b0 b6 V1 val:=by
 have h24:cP (val 24) (chN b0 V1):=hv 24 (by simp[qAk])
 obtain⟨p,e1,e2,e3⟩:=h24
 have eq:[(31,p.v)]=(qAk 25).map fun j=>(7+j,val j):=by simp[qAk,e1]
 refine⟨_,fun s v h=>.inr (qDC (by rw[<- eq];exact h)),s37o25 (a:=p.name) (b:=p.ps) (c:=p.result) (d:=p.ls) (g:=p.bs) ?_⟩
 unfold w37o25
 intro b hb
 exact⟨_,rfl,_,rfl,Mem.sub_new hb _,⟨some ⟨b,0,none⟩,1,1⟩,p,rfl,e2,qAc.cells (xs:=[p]) (row:=Pr.row) (qEQ hB hs hb _) rfl (fun _=>rfl) rfl (by simp),pr_sub (qDB hb _) e3⟩
theorem ch26(hB:ChB V b0 b6)(hs:V.sub V1)(hv:∀j∈qAk 26,chQ (chN b0 V1) j (val j)):ChG 26 b0 b6 V1 val:=by
 have h3:cTs (val 3) (chN b0 V1):=hv 3 (by simp[qAk])
 have h5:cF ⟨qCC,chL⟩ (val 5) (chN b0 V1):=hv 5 (by simp[qAk])
 have h25:cPs (val 25) (chN b0 V1):=hv 25 (by simp[qAk])
 obtain⟨ts,x,t1,t2,t3,t4⟩:=h3
 obtain⟨gs,g1,g2⟩:=h5
 obtain⟨ps,p,p1,p2,p3,p4⟩:=h25
 have eq:[(10,ts.v),(12,gs.v),(32,ps.v)]=(qAk 26).map fun j=>(7+j,val j):=by simp[qAk,t1,g1,p1]
 refine⟨_,fun s v h=>.inr (qDC (by rw[<- eq];exact h)),s37o26 (a:=ts) (b:=gs) (c:=ps) ⟨_,rfl,_,rfl,Mem.sub.refl _,⟨chChain,ts,[x],gs,[⟨qCC,chL⟩],ps,[p],⟨none,0,0⟩,[],⟨none,0,0⟩,[],⟨none,0,0⟩,[],⟨none,0,0⟩,[]⟩,rfl,⟨?_,rfl,rfl,rfl,rfl⟩,?_⟩⟩
 ·unfold dEr
  rw[List.map_singleton,List.map_singleton,t2,p2];rfl
 ·exact
  {types:=t3
   typesOk:=fun t ht=>by rw[List.mem_singleton.1 ht];exact t4
   globals:=g2
   procs:=p3
   procsOk:=fun t ht=>by rw[List.mem_singleton.1 ht];exact p4
   measures:=qAc.nil
   measuresOk:=fun _ h=>by simp at h
   invs:=qAc.nil
   invsOk:=fun _ h=>by simp at h
   pots:=qAc.nil
   potsOk:=fun _ h=>by simp at h
   bounds:=qAc.nil
   boundsOk:=fun _ h=>by simp at h }
noncomputable def chR3:Code:=(flat (qAp Tryz.f37)).getD 3 .skip
theorem chain_flat:flat (qAp Tryz.f37)=c37a++[chR3,.ret]:=by kernel_rfl
theorem chR3_eq:chR3=.region 3 qBY true:=by kernel_rfl
theorem chR3_ok:anyOk qBY 27 7 qAk=true:=by kernel_rfl
theorem chR3_size:(qBY).size=28:=by kernel_rfl
theorem qKN{tmps:Array Value}{b:Nat}{d:Ds}{w:World}(h0:tmps.getD 0 undef=pv b)(h:w.heap[b]?=some (.cells d.row.toArray 30 (0,0))):(results Tryz.f37 tmps).run Tryz.prog w=.ok d.v w:=by
 have hr:Tryz.f37.results=#[.cell 0 30]:=by kernel_rfl
 unfold results
 rw[hr]
 have e:asAddr (tmps.getD 0 undef)=pure ⟨b,0,none⟩:=by rw[h0];rfl
 have hl:=qBW (P:=Tryz.prog) (t:=30) (cs:=.cons (.var .s 0) (.cons (.var .sl 1) (.cons (.var .sl 2) (.cons (.var .sl 3) (.cons (.var .sl 4) (.cons (.var .sl 5) (.cons (.var .sl 6) (.cons (.var .sl 7) .nil)))))))) (x:=.agg (.cons (.var .s 0) (.cons (.var .sl 1) (.cons (.var .sl 2) (.cons (.var .sl 3) (.cons (.var .sl 4) (.cons (.var .sl 5) (.cons (.var .sl 6) (.cons (.var .sl 7) .nil))))))))) (ρ:=d.row) (β:=id) (o:=0) (b:=b) (w:=w) h (by kernel_rfl)
 simp only[List.mapM_toArray,List.mapM_cons,List.mapM_nil,Sem.run_bind,Sem.run_map,Sem.run_pure,Result.andThen_ok,e,show (loadVar 30 ⟨b,0,none⟩).run Tryz.prog w=.ok d.v w from hl]
 rfl
theorem chStep(hB:ChB V b0 b6)(hs:V.sub V1):∀i,i<27->(∀j∈qAk i,chQ (chN b0 V1) j (val j))->ChG i b0 b6 V1 val
 | 0,_,hv=>ch0 hB hs hv
 | 1,_,hv=>ch1 hB hs hv
 | 2,_,hv=>ch2 hB hs hv
 | 3,_,hv=>ch3 hB hs hv
 | 4,_,hv=>ch4 hB hs hv
 | 5,_,hv=>ch5 hB hs hv
 | 6,_,hv=>ch6 hB hs hv
 | 7,_,hv=>ch7 hB hs hv
 | 8,_,hv=>ch8 hB hs hv
 | 9,_,hv=>ch9 hB hs hv
 | 10,_,hv=>ch10 hB hs hv
 | 11,_,hv=>ch11 hB hs hv
 | 12,_,hv=>ch12 hB hs hv
 | 13,_,hv=>ch13 hB hs hv
 | 14,_,hv=>ch14 hB hs hv
 | 15,_,hv=>ch15 hB hs hv
 | 16,_,hv=>ch16 hB hs hv
 | 17,_,hv=>ch17 hB hs hv
 | 18,_,hv=>ch18 hB hs hv
 | 19,_,hv=>ch19 hB hs hv
 | 20,_,hv=>ch20 hB hs hv
 | 21,_,hv=>ch21 hB hs hv
 | 22,_,hv=>ch22 hB hs hv
 | 23,_,hv=>ch23 hB hs hv
 | 24,_,hv=>ch24 hB hs hv
 | 25,_,hv=>ch25 hB hs hv
 | 26,_,hv=>ch26 hB hs hv
 | _+27,h,_=>by omega
theorem c37{V:Mem}:Tri Tryz.prog 37 #[] V fun e V'=>V.sub V'/\∃d:Ds,e=.returned d.v/\qJw qCn d/\Ds.Ok V' d:=by
 unfold Go.Sx.Tri
 intro w hV
 refine(callsIn_wide (n:=0)).1 (callsIn_of_wp (F:=qAA none) Tryz.func37 (c:=qAp Tryz.f37) (by kernel_rfl) trivial (qCy ?_) rfl)
 rw[chain_flat]
 have hA:Seg Tryz.prog 34 c37a [] [0,1,2] V fun vs V1=>∃b0 b6,vs=[pv b0,chF,pv b6]/\ChB V1 b0 b6/\V.sub V1/\V b0=none/\∃c,c.size=8/\V1 b0=some (.cells c 30 (0,0)):=by
  refine s37a ?_
  unfold w37a
  refine(c75 (s:=chX)).call ⟨_,_,_,_,rfl,fun b0 hb0 b4 hb4 b6 hb6=>⟨_,rfl,b0,b6,rfl,?_⟩⟩
  have n4:b4≠b0:=fun e=>by rw[e,Mem.set_same]at hb4;cases hb4
  have s0:=Mem.sub_new hb0 (.cells #[uS (qAm []),.slice none 0 0,.slice none 0 0,.slice none 0 0,.slice none 0 0,.slice none 0 0,.slice none 0 0,.slice none 0 0] 30 (0,0))
  have s4:=Mem.sub_new hb4 (.cells (nmX chX).row.toArray 151 (0,0))
  have s6:=Mem.sub_new hb6 (.cells (E.mk 5 0 qDQ ⟨some ⟨b4,0,none⟩,1,1⟩ [nmX chX]).row.toArray 151 (0,0))
  have hthis:∀{A:Mem},E.Ok A (nmX chX):=fun {A}=>chNm (by decide)
  refine⟨⟨⟨_,(s4.trans s6) _ _ mss⟩,⟨E.mk 5 0 qDQ ⟨some ⟨b4,0,none⟩,1,1⟩ [nmX chX],rfl,Mem.set_same _ _ _,?_⟩⟩,s0.trans (s4.trans s6),hb0,_,rfl,(s4.trans s6) _ _ mss⟩
  refine .mk (qAc.cells (xs:=[nmX chX]) (row:=E.row) (fr:=(0,0)) (t:=151) ?_ rfl (fun _=>rfl) rfl (by simp)) (fun x hx=>by rw[List.mem_singleton.1 hx];exact hthis) (by decide) (by decide)
  rw[chN_ne n4];exact s6 _ _ mss
 refine hA.step hV ⟨by simp,fun s v h=>by cases h⟩ ?_
 rintro a1 w1 vs V1 hd1 hH1 ⟨b0,b6,rfl,hB,hs1,hb0,c,hc,hV1⟩ hF1
 show Code.wpIn (qAA none) 0 Tryz.prog chR3 _ a1 w1
 rw[chR3_eq]
 refine wpIn_region_any (by kernel_rfl) ?_
 rw[chR3_size]
 refine anyR_sound (M:=27) (k0:=7) (N:=34) (deps:=qAk) (Pr:=fun i v A=>chQ (chN b0 A) i v) (Φ:=fun V'=>V.sub V'/\∃d:Ds,qJw qCn d/\Ds.Ok V' d/\V' b0=some (.cells d.row.toArray 30 (0,0))) (V:=V1) (base:=chBase b0 b6) (a0:=a1) (w0:=w1) chR3_ok (fun i v A B h=>chQ_mono (chN_sub h) i v) (fun s v h=>?_) (by decide)
  (fun i hi A hA' val hv=>chStep hB hA' i hi hv) (fun A hA' val hv=>?_) (fun a' w' V' hd' hH' hΦ hF'=>?_) 28 _ _ _ (by simp) ?_ (.inl ⟨V1,Mem.sub.refl _,⟨Nat.le_refl _,hF1.le,fun _ _ _=>rfl,fun _ h=>.inl h,rfl,rfl⟩,rfl,hH1,by simp,fun i hi h=>?_,fun i hi h=>?_⟩)
 ·simp only[chBase,List.lookup_cons]at h
  repeat' split at h
  all_goals first
   | (rename_i e;simp only[beq_iff_eq]at e;omega)
   | cases h
 ·obtain⟨d,d1,d2,d3⟩:cD (val 26) (chN b0 A):=hv 26 (by simp[qAk])
  refine⟨[(0,pv b0),(33,d.v)],fun s v h=>?_,s37o27 (a:=some ⟨b0,0,none⟩) (b:=d.name) (c:=d.ts) (d:=d.gs) (g:=d.ps) (i:=d.ms) (j:=d.is) (k:=d.qs) (l:=d.bs) ?_⟩
  ·rw[List.lookup_cons]at h
   split at h
   ·rename_i e;simp only[beq_iff_eq]at e;subst e;cases h;exact .inl rfl
   ·obtain⟨rfl,rfl⟩:=chIn1 h
    exact .inr ⟨26,by simp[qAk],rfl,d1.symm⟩
  ·unfold w37o27
   have hAb:=hA' _ _ hV1
   refine StT.at_ hAb (by simp[hc]) ⟨_,rfl,(hs1.trans hA').set hb0 _,d,d2,d3.sub fun x o hx=>?_,?_⟩
   ·by_cases e:x=b0
    ·rw[chN_no e]at hx;cases hx
    ·rw[Mem.set_ne e];exact chN_le _ _ hx
   ·rw[Mem.set_same]
    have:c.toList.drop (0+8)=[]:=List.drop_eq_nil_of_le (by simp[hc])
    show some (Obj.cells (c.toList.take 0++d.row++c.toList.drop (0+8)).toArray _ _)=_
    rw[this];simp
 ·obtain⟨h1,d,h2,h3,h4⟩:=hΦ
  show Code.wpIn (qAA none) 0 Tryz.prog .ret _ a' w'
  refine wpIn_ret ?_
  exact⟨hd'.trans hd1,d.v,qKN (hH'.get rfl) (hF'.le _ _ h4),V',⟨h1,d,rfl,h2,h3⟩,hF1.trans hF'⟩
 ·have h2:=List.length_filter_le (fun i=>!(Array.replicate 28 false).getD i true) (List.range (27+1))
  rw[List.length_range]at h2
  exact h2
 ·have hf:(Array.replicate 28 false).getD i false=false:=by simp[Array.getD]
  rw[hf]at h;cases h
 ·have hf:(Array.replicate 28 false).getD i false=false:=by simp[Array.getD]
  rw[hf]at h;cases h
end
end Go.Proofs
namespace Go.Proofs
def mtf(T:List Int)(b:Int):List Int:=b::T.erase b
theorem mtf_len_mem{T:List Int}{b:Int}(h:b∈T):(mtf T b).length=T.length:=by
 grind [mtf]
theorem nodup_mtf{T:List Int}{b:Int}(h:T.Nodup):(mtf T b).Nodup:=by
 grind [mtf]
theorem nodup_le:∀(S U:List Int),S.Nodup->(∀x∈S,x∈U)->S.length<=U.length
 | [],_,_,_=>Nat.zero_le _
 | s::S,U,hn,h=>by
  rw[List.nodup_cons]at hn
  have hs:=h s (by simp)
  have ih:=nodup_le S (U.erase s) hn.2 fun x hx=>(List.mem_erase_of_ne fun e=>hn.1 (by simp_all)).2 (h x (by simp[hx]))
  grind
end Go.Proofs
namespace Go.Proofs
def chain(nx pv:List Int):Nat->List Nat->Prop
 | a,[]=>nx[a]?=some 0/\pv[0]?=some (a:Int)
 | a,b::L=>nx[a]?=some (b:Int)/\pv[b]?=some (a:Int)/\chain nx pv b L
theorem qIi{nx pv:List Int}{x:Nat}{v:Int}:∀{a:Nat} {L:List Nat},x ∉ a::L->chain nx pv a L->chain (nx.set x v) pv a L
 | a,[],h,⟨h1,h2⟩=>⟨by rw[List.getElem?_set_ne (by grind)];exact h1,h2⟩
 | a,b::L,h,⟨h1,h2,h3⟩=>⟨by rw[List.getElem?_set_ne (by grind)];exact h1,h2,qIi (by grind) h3⟩
theorem qIh{nx pv:List Int}{x:Nat}{v:Int}:∀{a:Nat} {L:List Nat},x ∉ L->x≠0->chain nx pv a L->chain nx (pv.set x v) a L
 | a,[],h,h0,⟨h1,h2⟩=>⟨h1,by rw[List.getElem?_set_ne h0];exact h2⟩
 | a,b::L,h,h0,⟨h1,h2,h3⟩=>⟨h1,by rw[List.getElem?_set_ne (by grind)];exact h2,qIh (by grind) h0 h3⟩
theorem chain_app{nx pv:List Int}:∀{a:Nat} {L:List Nat} {u v:List Int},chain nx pv a L->chain (nx++u) (pv++v) a L
 | a,[],u,v,⟨h1,h2⟩=>⟨by grind,by grind⟩
 | a,b::L,u,v,⟨h1,h2,h3⟩=>⟨by grind,by grind,chain_app h3⟩
theorem qLx{nx pv:List Int}{i:Nat}:∀{a:Nat} {A B:List Nat},chain nx pv a (A++i::B)->∃p n:Nat,pv[i]?=some (p:Int)/\nx[i]?=some (n:Int)/\p=(a::A).getLast (by simp)/\n=(B++[0]).head (by simp)
 | a,[],[],⟨h1,h2,h3,h4⟩=>⟨a,0,h2,h3,rfl,rfl⟩
 | a,[],b::B,⟨h1,h2,h3,h4,h5⟩=>⟨a,b,h2,h3,rfl,rfl⟩
 | a,c::A,B,⟨h1,h2,h3⟩=>by
  obtain⟨p,n,k1,k2,k3,k4⟩:=qLx h3
  exact⟨p,n,k1,k2,by rw[List.getLast_cons (by simp)];exact k3,k4⟩
theorem chain_cut{nx pv:List Int}{i p n:Nat}:∀{a:Nat} {A B:List Nat},chain nx pv a (A++i::B)->(a::(A++i::B)).Nodup->0 ∉ A++i::B->pv[i]?=some (p:Int)->nx[i]?=some (n:Int)->chain (nx.set p n) (pv.set n p) a (A++B)
 | a,[],[],⟨h1,h2,h3,h4⟩,hn,h0,hp,hnx=>by
  rw[hp]at h2;rw[hnx]at h3
  obtain rfl:p=a:=by injection h2 with h2;omega
  obtain rfl:n=0:=by injection h3 with h3;omega
  refine⟨?_,?_⟩
  ·rw[List.getElem?_set_self (List.getElem?_eq_some_iff.1 h1).1];rfl
  ·rw[List.getElem?_set_self (List.getElem?_eq_some_iff.1 h4).1]
 | a,[],b::B,⟨h1,h2,h3,h4,h5⟩,hn,h0,hp,hnx=>by
  rw[hp]at h2;rw[hnx]at h3
  obtain rfl:p=a:=by injection h2 with h2;omega
  obtain rfl:n=b:=by injection h3 with h3;omega
  refine⟨?_,?_,?_⟩
  ·rw[List.getElem?_set_self (List.getElem?_eq_some_iff.1 h1).1]
  ·rw[List.getElem?_set_self (List.getElem?_eq_some_iff.1 h4).1]
  ·exact qIi (by grind) (qIh (by grind) (by grind) h5)
 | a,c::A,B,h,hn,h0,hp,hnx=>by
  obtain⟨p',n',k1,k2,k3,k4⟩:=qLx h.2.2
  have ih:=chain_cut h.2.2 (by grind) (by grind) hp hnx
  rw[hp]at k1;rw[hnx]at k2
  obtain rfl:p=p':=by injection k1 with k1;omega
  obtain rfl:n=n':=by injection k2 with k2;omega
  have hpm:p∈c::A:=by rw[k3];exact List.getLast_mem _
  have hnm:n∈B++[0]:=by rw[k4];exact List.head_mem _
  refine⟨?_,?_,ih⟩
  ·rw[List.getElem?_set_ne (by grind)];exact h.1
  ·rw[List.getElem?_set_ne (by grind)];exact h.2.1
theorem qFM{nx pv:List Int}{i n:Nat}{L:List Nat}(h:chain nx pv 0 L)(hi:i ∉ 0::L)(hn:(0::L).Nodup)(h0:nx[0]?=some (n:Int))(hi1:i<nx.length)(hi2:i<pv.length) :
  chain ((nx.set i n).set 0 i) ((pv.set i 0).set n i) 0 (i::L):=by
 cases L with
 | nil =>
  obtain⟨h1,h2⟩:=h
  rw[h0]at h1
  obtain rfl:n=0:=by injection h1 with h1;omega
  have h0l:=(List.getElem?_eq_some_iff.1 h0).1
  have h2l:=(List.getElem?_eq_some_iff.1 h2).1
  refine⟨?_,?_,?_,?_⟩ <;> grind
 | cons b L =>
  obtain⟨h1,h2,h3⟩:=h
  rw[h0]at h1
  obtain rfl:n=b:=by injection h1 with h1;omega
  have h0l:=(List.getElem?_eq_some_iff.1 h0).1
  have h2l:=(List.getElem?_eq_some_iff.1 h2).1
  refine⟨by grind,by grind,by grind,by grind,?_⟩
  exact qIi (by grind) (qIi (by grind) (qIh (by grind) (by grind) (qIh (by grind) (by grind) h3)))
theorem qKq{nx pv:List Int}:∀{a:Nat} {L:List Nat},chain nx pv a L->pv[0]?=some (((a::L).getLast (by simp):Nat):Int)
 | a,[],⟨_,h2⟩=>h2
 | a,b::L,⟨_,_,h3⟩=>by rw[List.getLast_cons (by simp)];exact qKq h3
end Go.Proofs
namespace Go.Proofs
structure CaI (k:Nat) (c B N P:List Int) (L:List Nat) (f:Int->Option Int):Prop where
 bl:B.length=L.length+1
 nl:N.length=B.length
 pl:P.length=B.length
 ring:chain N P 0 L
 nd:L.Nodup
 rng:∀s∈L,1<=s/\s<B.length
 cl:c.length=L.length
 at_:∀(i:Nat) (s:Nat) (b:Int),L[i]?=some s->c[i]?=some b->B[s]?=some b/\f b=some (s:Int)
 cn:c.Nodup
 no:∀b,b ∉ c->f b=none
 cap:c.length<=k
section
variable{k:Nat}{c B N P:List Int}{L:List Nat}{f:Int->Option Int}{b:Int}
theorem CaI.new(hk:1<=k):CaI k [] [-1] [0] [0] [] fun _=>none:=⟨rfl,rfl,rfl,⟨rfl,rfl⟩,List.nodup_nil,by simp,rfl,by simp,List.nodup_nil,fun _ _=>rfl,by simp⟩
theorem CaI.hit(h:CaI k c B N P L f)(hb:b∈c):∃(i s:Nat),c[i]?=some b/\L[i]?=some s/\f b=some (s:Int):=by
 obtain⟨i,hi⟩:=List.mem_iff_getElem?.1 hb
 have hl:=(List.getElem?_eq_some_iff.1 hi).1
 have hs:=List.getElem?_eq_getElem (l:=L) (i:=i) (by rw[<- h.cl];exact hl)
 exact⟨i,_,hi,hs,(h.at_ i _ b hs hi).2⟩
theorem CaI.dec(h:CaI k c B N P L f):(f b).isSome=decide (b∈c):=by
 by_cases hb:b∈c
 ·obtain⟨i,s,-,-,e⟩:=h.hit hb
  simp_all
 ·rw[h.no b hb,decide_eq_false hb];rfl
theorem qGc{α:Type}{l:List α}{i:Nat}{x:α}(h:l[i]?=some x):l=l.take i++x::l.drop (i+1):=by
 obtain⟨hl,rfl⟩:=List.getElem?_eq_some_iff.1 h
 simp_all
theorem CaI.zero(h:CaI k c B N P L f):0 ∉ L/\(0::L).Nodup:=by
 have h0:0 ∉ L:=fun h'=>by have:=h.rng 0 h';omega
 exact⟨h0,List.nodup_cons.2 ⟨h0,h.nd⟩⟩
theorem CaI.head(h:CaI k c B N P L f):∃n:Nat,N[0]?=some (n:Int)/\n<B.length:=by
 have hr:=h.ring
 cases hL:L with
 | nil=>rw[hL]at hr;exact⟨0,hr.1,by rw[h.bl];omega⟩
 | cons s L' =>
  rw[hL]at hr
  exact⟨s,hr.1,(h.rng s (by rw[hL];simp)).2⟩
theorem CaI.around(h:CaI k c B N P L f){i s:Nat}(hs:L[i]?=some s):∃p n:Nat,P[s]?=some (p:Int)/\N[s]?=some (n:Int)/\p<B.length/\n<B.length/\chain (N.set p n) (P.set n p) 0 (L.take i++L.drop (i+1)):=by
 have e:=qGc hs
 have hr:=h.ring
 obtain⟨h0,h1⟩:=h.zero
 rw[e]at hr h0 h1
 obtain⟨p,n,k1,k2,k3,k4⟩:=qLx hr
 have hpm:p∈0::L.take i:=by grind
 have hnm:n∈L.drop (i+1)++[0]:=by grind
 have lt:∀x,x∈L∨x=0->x<B.length:=fun x hx=>by
  rcases hx with hx|rfl
  ·exact(h.rng x hx).2
  ·rw[h.bl];omega
 refine⟨p,n,k1,k2,lt p ?_,lt n ?_,chain_cut hr h1 h0 k1 k2⟩
 ·grind
 grind
theorem erase_at{c:List Int}(hn:c.Nodup){i:Nat}(hi:c[i]?=some b):c.erase b=c.take i++c.drop (i+1):=by
 have e:=qGc hi
 grind
theorem get_cut{α:Type}{l:List α}{i j:Nat}(hi:i<l.length):(l.take i++l.drop (i+1))[j]?=if j<i then l[j]? else l[j+1]?:=by
 grind
theorem CaI.touch(h:CaI k c B N P L f){i s p n q:Nat}(hc:c[i]?=some b)(hs:L[i]?=some s)(hr:chain (N.set p n) (P.set n p) 0 (L.take i++L.drop (i+1)))(h0:(N.set p n)[0]?=some (q:Int)) :
  CaI k (b::c.erase b) B (((N.set p n).set s q).set 0 s) (((P.set n p).set s 0).set q s) (s::(L.take i++L.drop (i+1))) f:=by
 have hil:=(List.getElem?_eq_some_iff.1 hs).1
 have hsm:=List.mem_of_getElem? hs
 have hsr:=h.rng s hsm
 have e:=qGc hs
 obtain⟨z0,z1⟩:=h.zero
 have hnd:=h.nd
 rw[e]at hnd z0 z1
 have hcl:=h.cl
 have ec:=erase_at h.cn hc
 have hsub:∀x∈L.take i++L.drop (i+1),x∈L:=fun x hx=>by
  grind
 have nd2:(s::(L.take i++L.drop (i+1))).Nodup:=by grind
 have len2:(L.take i++L.drop (i+1)).length+1=L.length:=by grind
 refine⟨by rw[List.length_cons,len2];exact h.bl,by simp[h.nl],by simp[h.pl],qFM hr (by grind) (by grind) h0 (by simp[h.nl];omega) (by simp[h.pl];omega),nd2,fun x hx=>?_,?_,fun j t y hj hy=>?_,?_,fun y hy=>h.no y fun hy'=>hy ?_,?_⟩
 ·rcases List.mem_cons.1 hx with rfl|hx
  ·exact hsr
  ·exact h.rng x (hsub x hx)
 ·grind
 ·cases j with
  | zero=>cases hj;cases hy;exact h.at_ i s b hs hc
  | succ j =>
   rw[List.getElem?_cons_succ,get_cut hil]at hj
   rw[List.getElem?_cons_succ,ec,get_cut (by omega)]at hy
   split at hj
   ·rename_i hji;rw[if_pos hji]at hy;exact h.at_ j t y hj hy
   ·rename_i hji;rw[if_neg hji]at hy;exact h.at_ _ t y hj hy
 ·exact nodup_mtf h.cn
 ·grind
 ·have:=mtf_len_mem (List.mem_of_getElem? hc)
  unfold mtf at this
  rw[this];exact h.cap
theorem CaI.room(h:CaI k c B N P L f)(hb:b ∉ c)(hk:c.length<k){q:Nat}(h0:(N++[0])[0]?=some (q:Int)) :
  CaI k (b::c) (B++[b]) (((N++[0]).set B.length q).set 0 (B.length:Nat)) (((P++[0]).set B.length 0).set q (B.length:Nat)) (B.length::L) (fun x=>if x=b then some (B.length:Int) else f x):=by
 obtain⟨z0,z1⟩:=h.zero
 have hbl:=h.bl
 have hx:B.length ∉ 0::L:=fun hm=>by
  rcases List.mem_cons.1 hm with e|e
  ·omega
  ·have:=h.rng _ e;omega
 refine⟨by simp[hbl],by simp[h.nl],by simp[h.pl],qFM (chain_app h.ring) hx z1 h0 (by simp[h.nl]) (by simp[h.pl]),List.nodup_cons.2 ⟨fun h=>hx (by simp[h]),h.nd⟩,fun x hx=>?_,by simp[h.cl],fun j t y hj hy=>?_,List.nodup_cons.2 ⟨hb,h.cn⟩,fun y hy=>?_,by grind⟩
 ·rw[List.length_append,List.length_singleton]
  rcases List.mem_cons.1 hx with rfl|hx
  ·omega
  ·have:=h.rng x hx;omega
 ·cases j with
  | zero =>
   simp_all
  | succ j =>
   rw[List.getElem?_cons_succ]at hj hy
   obtain⟨k1,k2⟩:=h.at_ j t y hj hy
   grind
 ·have hy:¬(y=b∨y∈c):=by simpa using hy
  rw[not_or]at hy
  show (if y=b then _ else f y)=none
  rw[if_neg hy.1];exact h.no y hy.2
theorem CaI.full(h:CaI k c B N P L f)(hb:b ∉ c)(hk:1<=k)(hf:c.length=k):∃(s p n:Nat) (o:Int),P[0]?=some (s:Int)/\1<=s/\s<B.length/\B[s]?=some o/\P[s]?=some (p:Int)/\N[s]?=some (n:Int)/\p<B.length/\n<B.length/\∀q:Nat,(N.set p n)[0]?=some (q:Int) ->
  CaI k (b::c.take (k-1)) (B.set s b) (((N.set p n).set s q).set 0 s) (((P.set n p).set s 0).set q s) (s::L.take (k-1)) (fun x=>if x=b then some (s:Int) else if x=o then none else f x):=by
 have hcl:=h.cl
 have hi:k-1<L.length:=by omega
 have hs:=List.getElem?_eq_getElem hi
 obtain⟨s,hsd⟩:∃s,s=L[k-1]:=⟨_,rfl⟩
 rw[<- hsd]at hs
 have hc:=List.getElem?_eq_getElem (l:=c) (i:=k-1) (by omega)
 obtain⟨o,hod⟩:∃o,o=c[k-1]'(by omega):=⟨_,rfl⟩
 rw[<- hod]at hc
 obtain⟨p,n,k1,k2,k3,k4,k5⟩:=h.around hs
 rw[List.drop_of_length_le (by omega),List.append_nil]at k5
 have hsm:=List.mem_of_getElem? hs
 have hsr:=h.rng s hsm
 obtain⟨b1,b2⟩:=h.at_ _ s o hs hc
 obtain⟨z0,z1⟩:=h.zero
 have e:=qGc hs
 rw[List.drop_of_length_le (by omega)]at e
 have ec:=qGc hc
 rw[List.drop_of_length_le (by omega)]at ec
 have hl0:=qKq h.ring
 have hlast:(0::L).getLast (by simp)=s:=by
  grind
 rw[hlast]at hl0
 have hnd:=h.nd
 rw[e]at hnd
 have cnd:=h.cn
 rw[ec]at cnd
 have hst:s ∉ L.take (k-1):=fun hm=>by
  grind
 have hot:o ∉ c.take (k-1):=fun hm=>by
  grind
 have hbt:b ∉ c.take (k-1):=fun hm=>hb (List.mem_of_mem_take hm)
 have hob:o≠b:=fun e=>hb (by grind)
 refine⟨s,p,n,o,hl0,hsr.1,hsr.2,b1,k1,k2,k3,k4,fun q hq=>⟨?_,by simp[h.nl],by simp[h.pl],?_,List.nodup_cons.2 ⟨hst,(List.nodup_append.1 hnd).1⟩,fun x hx=>?_,?_,fun j t y hj hy=>?_,List.nodup_cons.2 ⟨hbt,(List.nodup_append.1 cnd).1⟩,fun y hy=>?_,?_⟩⟩
 ·rw[List.length_set,List.length_cons,List.length_take];have:=h.bl;omega
 ·grind [qFM,List.nodup_cons,List.mem_of_mem_take,List.nodup_append]
 ·rw[List.length_set]
  rcases List.mem_cons.1 hx with rfl|hx
  ·exact hsr
  ·exact h.rng x (List.mem_of_mem_take hx)
 ·grind
 ·cases j with
  | zero =>
   grind
  | succ j =>
   rw[List.getElem?_cons_succ]at hj hy
   have ht:=List.mem_of_getElem? hj
   have hyc:=List.mem_of_getElem? hy
   rw[List.getElem?_take]at hj hy
   split at hj
   ·rename_i hjk
    rw[if_pos hjk]at hy
    obtain⟨r1,r2⟩:=h.at_ j t y hj hy
    refine⟨?_,?_⟩
    ·grind
    ·rw[if_neg fun e=>hbt (by grind),if_neg fun e=>hot (by grind)];exact r2
   ·cases hj
 ·have hy:¬(y=b∨y∈c.take (k-1)):=by simpa using hy
  rw[not_or]at hy
  show (if y=b then _ else if y=o then none else f y)=none
  rw[if_neg hy.1]
  split
  ·rfl
  ·rename_i ho
   refine h.no y fun hm=>?_
   grind
 grind
end
end Go.Proofs
namespace Go.Proofs
open Go Go.Sx
attribute [local irreducible] Go.Sx.Tri
theorem tri_frame{P:Program}{f:FuncId}{args:Array Value}{U:Mem}{M:Nat->Prop}{R:Ending->Mem->Prop}(hM:∀b,M b->U b≠none)(h:Tri P f args (Mem.minus U M) R) :
  Tri P f args U fun e V2=>∃V',R e V'/\V'.sub V2/\(∀b o,M b->U b=some o->V2 b=some o)/\∀b,M b->V' b=none:=by
 unfold Tri at h ⊢
 intro w hw
 have hlt:∀b,M b->b<w.heap.size:=fun b hb=>by
  cases hu:U b with
  | none=>simp_all
  | some o=>exact(Array.getElem?_eq_some_iff.1 (hw b o hu)).1
 intro cs
 obtain⟨e,w',fr,⟨V',hR,hF⟩,rest⟩:=h w (fun b o hb=>hw b o (qCf b o hb)) cs
 have hno:∀b,M b->V' b=none:=fun b hb=>by
  cases hv:V' b with
  | none=>rfl
  | some o =>
   rcases hF.dom b (by rw[hv];simp) with h1|h1
   ·exact absurd (qBR hb) h1
   grind
 classical
 refine⟨e,w',fr,⟨fun b=>if M b then U b else V' b,⟨V',hR,fun b o hb=>?_,fun b o hm hb=>?_,hno⟩,⟨hF.size,fun b o hb=>?_,fun b hb hu=>?_,fun b hb=>?_,hF.os,hF.out⟩⟩,rest⟩
 ·grind
 ·simp_all
 ·have hb:(if M b then U b else V' b)=some o:=hb
  by_cases hm:M b
  ·rw[if_pos hm]at hb
   rw[hF.old b (hlt b hm) (qBR hm)]
   exact hw b o hb
  ·rw[if_neg hm]at hb
   exact hF.le b o hb
 ·refine hF.old b hb ?_
  grind [qBR,qBi]
 ·have hb:(if M b then U b else V' b)≠none:=hb
  by_cases hm:M b
  ·simp_all
  ·rw[if_neg hm]at hb
   rcases hF.dom b hb with h1|h1
   ·grind [qBi]
   ·exact .inr h1
def Owns(Q:Mem->Mem->Prop)(M:Nat->Prop)(V:Mem):Prop:=(∀b,M b->V b≠none)/\∀V',(∀b o,M b->V b=some o->V' b=some o)->Q (Mem.minus V' M) V'
def qKv(Q:Mem->Mem->Prop):Prop:=∀W V,Q W V->∃M,(∀b,M b->W b=none)/\Owns Q M V
def qBC(D V:Mem)(Q:Mem->Mem->Prop):Prop:=∃M,Owns Q M V/\D.sub V/\∀b,D b≠none->¬M b
section
variable{D D' V V' W:Mem}{Q:Mem->Mem->Prop}
theorem Owns.keep{M:Nat->Prop}(h:Owns Q M V)(hk:∀b o,M b->V b=some o->V' b=some o):Owns Q M V':=⟨fun b hb=>by
 cases hv:V b with
 | none=>exact absurd hv (h.1 b hb)
 | some o=>simp_all,fun V2 h2=>h.2 V2 fun b o hb hv=>h2 b o hb (hk b o hb hv)⟩
theorem qBC.sub(h:qBC D V Q):D.sub V:=by obtain⟨M,-,h,-⟩:=h;exact h
theorem qBC.new(hF:qKv Q)(S:Q W V)(hW:W.sub V)(hD:D.sub W):qBC D V Q:=by
 obtain⟨M,h1,h2⟩:=hF W V S
 refine⟨M,h2,hD.trans hW,fun b hb hm=>?_⟩
 cases h':D b with
 | none=>exact hb h'
 | some o =>
  have:=hD _ _ h'
  simp_all
theorem qBC.use(h:qBC D V Q):∃W,D.sub W/\W.sub V/\Q W V:=by
 obtain⟨M,f,hd,hn⟩:=h
 exact⟨Mem.minus V M,fun b o hb=>by
  rw[qBi (hn b (by rw[hb];simp))];exact hd _ _ hb,qCf,f.2 V fun _ _ _ h=>h⟩
theorem qBC.run{P:Program}{f:FuncId}{args:Array Value}{R:Ending->Mem->Prop}(h:qBC D V Q)(H:∀U,D.sub U->Tri P f args U fun e U'=>U.sub U'/\R e U') :
  Tri P f args V fun e V'=>∃D',D.sub D'/\R e D'/\qBC D' V' Q:=by
 obtain⟨M,f,hd,hn⟩:=h
 have hD:D.sub (Mem.minus V M):=fun b o hb=>by
  rw[qBi (hn b (by rw[hb];simp))];exact hd _ _ hb
 refine Tri.mono (tri_frame f.1 (H _ hD)) ?_
 rintro e V2 ⟨V3,⟨h1,h2⟩,k1,k2,k3⟩
 exact⟨V3,hD.trans h1,h2,M,f.keep fun b o hm hv=>k2 b o hm hv,k1,fun b hv hm=>hv (k3 b hm)⟩
end
end Go.Proofs
