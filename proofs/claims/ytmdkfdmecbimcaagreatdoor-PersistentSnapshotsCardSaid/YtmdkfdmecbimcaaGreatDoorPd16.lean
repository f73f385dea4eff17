/- Part 16: no statement of the seat is proved here. -/
import Derived.Test.YtmdkfdmecbimcaaGreatDoorPd15
import Derived.Maps.RangeRun
set_option linter.unusedVariables false
set_option linter.unusedSimpArgs false
open Go.Oper renaming uponIn->vR
open Go.CallsIn renaming mono->um
open Go.RoundIn renaming mono->uk
open Go.Region renaming binds->yw,ready->yn
open List renaming range->zB,mem_filter->ym,mem_range->yo,mem_cons_of_mem->yB,mem_cons_self->yA,filter_cons->yD,mem_cons->yH,range'->wi,map_cons->zH,lookup_cons->z7,map->ug,map_singleton->uz,mem_singleton->zR,not_mem_nil->xQ,getElem?_map->xI
open Bool renaming and_eq_true->zC
open Option renaming map_some->zL,getD_some->xk
open Array renaming mem_toList_iff->uj,all_eq_true'->wz,getD->yZ,getD_eq_getD_getElem?->w8,getElem?_setIfInBounds_ne->w9,replicate->wZ
open Nat renaming le_refl->yq
open Ne renaming symm->vA
open Go.Act renaming put->ui
open Go.Proofs.Tryz renaming f30->uh,prog->xS,call53->uf,f8->ue,underlying92->uX
open Go.IntKind renaming i64->yh
open Go.Sem renaming run_bind->zN,run_pure->zP
open Go.Result renaming andThen_ok->zO
open Go.Code renaming wpIn->wx
open Prod renaming fst->ud
open Go.Instr renaming mapUpdate->yf
namespace Go.Sx
open Go
section
variable{P:Program}{n:Nat}{ops:Array Oper}{Q:Exit->Act->World->Prop}
theorem Pl{F:Fence}{i:Nat}{o:Oper}{a:Act}{w:World}{K:Act->World->Prop}(y:ops[i]?=some o)(j:o.guard=none)(h:wpOpIn F n P ops Q i K a w):wpOpIn F n P ops Q i (λu w'=>(∃v,u.tmps=(a.put o.dst v).tmps)/\K u w') a w:=by
 unfold wpOpIn at*
 simp only[y]at*
 have hw:=Ie (ops:=ops) (a:=a) j;rw[if_pos hw]at h⊢;unfold Oper.wpIn at*
 refine⟨h.1,?_⟩;have h:=h.2;generalize(o.semAt F.round a.eval).run P w=r at*
 have k:∀(ds:List Deferred)(v:Value),(({a with defers:=ds}:Act).put o.dst v).tmps=(a.put o.dst v).tmps:=λds v=>by
  cases o.dst<;>rfl
 cases r with
 |ok x w'=>
  cases x<;>simp only[vR]at h⊢<;>
   first
    |exact⟨⟨_,rfl⟩,h⟩
    |exact⟨⟨_,k _ _⟩,h⟩
    |exact⟨h.1,um h.2 (λe f g=>by cases e<;>first|exact⟨⟨_,rfl⟩,g⟩|exact g)⟩
    |exact⟨h.1,RowsIn.mono h.2 (λ_ _ g=>⟨⟨_,rfl⟩,g⟩)⟩
    |exact⟨h.1,uk h.2 (λe f g=>by cases e<;>first|exact⟨⟨_,rfl⟩,g⟩|exact g)⟩
    |exact h
 |halt x w'=>cases x<;>simp only[vR]at h⊢<;>exact h
theorem Pm{F:Fence}{i:Nat}{o:Oper}{a:Act}{w:World}{K y:Act->World->Prop}{g:Exit->Act->World->Prop}(c:ops[i]?=some o)(H:o.guard=none)(h:wpOpIn F n P ops g i K a w)(f:∀J a w,¬g (.panic J) a w)(j:¬LetsOut g)(hK:∀a w,K a w->y a w):
  wpOpIn F n P ops Q i y a w:=by
 unfold wpOpIn at*
 simp only[c]at*
 have hw:=Ie (ops:=ops) (a:=a) H;rw[if_pos hw]at h⊢;unfold Oper.wpIn at*
 refine⟨h.1,?_⟩;have h:=h.2;generalize(o.semAt F.round a.eval).run P w=r at*
 cases r with
 |ok x w'=>
  cases x<;>simp only[vR]at h⊢<;>
   first
    |exact hK _ _ h
    |exact⟨h.1,um h.2 (λe u k=>by cases e<;>first|exact hK _ _ k|exact(f _ _ _ k).elim|exact(j k).elim)⟩
    |exact⟨h.1,RowsIn.mono h.2 (λ_ _ k=>hK _ _ k)⟩
    |exact⟨h.1,uk h.2 (λe u k=>by cases e<;>first|exact hK _ _ k|exact(f _ _ _ k).elim|exact(j k).elim)⟩
    |exact h
 |halt x w'=>
  cases x<;>simp only[vR]at h⊢;all_goals first|exact(f _ _ _ h).elim|exact h
def HH(ops:Array Oper)(i:Nat):List Nat:=((ops[i]?).map λo=>(o.after.toList.filter (yw .any)).map (·.on)).getD []
def anyOk(ops:Array Oper)(M k0:Nat)(deps:Nat->List Nat):Bool:=
 decide (ops.size=M+1)&&decide ((ops[M]?).map (·.dst)=some none)&&(zB M).all (λi=>decide ((ops[i]?).map (·.dst)=some (some (k0+i))))&&(zB (M+1)).all (λi=>((ops[i]?).map λo=>o.guard.isNone).getD false&&(HH ops i).all (λj=>decide (j<i))&&(deps i).all λj=>decide (j∈HH ops i)) &&
  (zB M).all λj=>(zB (M+1)).any λi=>decide (j<i)&&decide (j∈HH ops i)
theorem Pn{ops:Array Oper}{listed:Array Bool}{i:Nat}(h:i∈yn .any ops listed):i<ops.size/\listed.getD i true=false/\∀j∈HH ops i,listed.getD j false=true:=by
 unfold yn at h;rw[ym,yo,zC]at h;refine⟨h.1,by simpa using h.2.1,λj k=>?_⟩;unfold HH at k;have h2:=h.2.2;cases g:ops[i]? with
 |none=>rw[g]at k;simp at k
 |some o=>
  rw[g]at k h2;simp only[zL,xk,List.mem_map,ym,uj,wz]at k h2;obtain⟨e,⟨f,u⟩,rfl⟩:=k;have:=h2 e f;rw[u]at this;simpa using this
theorem ready_in{ops:Array Oper}{listed:Array Bool}{i:Nat}(hi:i<ops.size)(h1:listed.getD i true=false)(h2:∀j∈HH ops i,listed.getD j false=true):i∈yn .any ops listed:=by
 unfold yn;rw[ym,yo,zC];refine⟨hi,by simp[h1],?_⟩;have h:ops[i]?=some ops[i]:=Array.getElem?_eq_getElem hi;unfold HH at h2;rw[h]at h2⊢;simp only[zL,xk,List.mem_map,ym,uj,wz]at h2⊢;intro e k;cases g:yw .any e with
 |false=>rfl
 |true=>simpa using h2 e.on ⟨e,⟨k,g⟩,rfl⟩
theorem LC{l:Array Bool}{i:Nat}(hi:i<l.size)(a b:Bool):l.getD i a=l.getD i b:=by simp[yZ,hi]
def unl(listed:Array Bool)(M:Nat):Nat:=((zB M).filter λi=>!listed.getD i true).length
theorem filt_le{α:Type}{p q:α->Bool}:∀{l:List α},(∀a∈l,q a=true->p a=true)->(l.filter q).length<=(l.filter p).length
 |[],_=>yq _
 |a::l,h=>by
  have k:=filt_le (l:=l) λx g=>h x (yB _ g);have f:=h a yA;rw[yD,yD];cases u:q a with
  |true=>rw[f u];simpa using k
  |false=>
   cases y:p a with
   |true=>simp;omega
   |false=>simpa using k
theorem filt_lt{α:Type}{p q:α->Bool}:∀{l:List α},(∀a∈l,q a=true->p a=true)->∀a∈l,p a=true->q a=false->(l.filter q).length<(l.filter p).length
 |[],_,a,k,_,_=>by cases k
 |b::l,h,a,k,f,u=>by
  have y:∀x∈l,q x=true->p x=true:=λx c=>h x (yB _ c);rw[yD,yD];rcases yH.1 k with rfl|hm
  ·rw[f,u];have:=filt_le y;simp;omega
  ·have j:=filt_lt y a hm f u;have e:=h b yA;cases g:q b with
   |true=>rw[e g];simpa using j
   |false=>
    cases H:p b with
    |true=>simp;omega
    |false=>simpa using j
theorem unl_set{listed:Array Bool}{M i:Nat}(hi:i<M)(hs:listed.size=M)(h:listed.getD i true=false):unl (listed.setIfInBounds i true) M<unl listed M:=by
 have h1:(listed.setIfInBounds i true).getD i true=true:=by simp[yZ,hs,hi]
 refine filt_lt (λj _ k=>?_) i (yo.2 hi) (by rw[h];rfl) (by rw[h1];rfl);by_cases g:j=i;·subst g;rw[h1]at k;cases k
 ·have:(listed.setIfInBounds i true).getD j true=listed.getD j true:=by
   simp[w8,w9 (vA g)]
  rw[this]at k;exact k
theorem unl_zero{listed:Array Bool}{M:Nat}(hs:listed.size=M)(h:unl listed M=0):∀i,i<M->listed.getD i false=true:=λi k=>by
 unfold unl at h;have:=List.eq_nil_of_length_eq_zero h;rw[List.filter_eq_nil_iff]at this;have:=this i (yo.2 k);rw[LC (by omega) false true];simpa using this
section
variable{M k0 N:Nat}{deps:Nat->List Nat}{Pr:Nat->Value->Mem->Prop}{Φ:Mem->Prop}{V:Mem}{base:List (Nat×Value)}{a0:Act}{w0:World}
theorem anyR_sound(chk:anyOk ops M k0 deps=true)(mono:∀i v V1 V2,V1.sub V2->Pr i v V1->Pr i v V2)(hbase:∀s v,base.lookup s=some v->s<k0)
  (hN:k0+M<=N)
  (hstep:∀i,i<M->∀V1,V.sub V1->∀val:Nat->Value,(∀j∈deps i,Pr j (val j) V1)->∃y,(∀s v,y.lookup s=some v->base.lookup s=some v∨∃j∈deps i,s=k0+j/\v=val j)/\AS P N ops i 1 y [k0+i] V1 λvs V2=>∃v,vs=[v]/\V1.sub V2/\Pr i v V2)
  (hlast:∀V1,V.sub V1->∀val:Nat->Value,(∀j∈deps M,Pr j (val j) V1)->∃y,(∀s v,y.lookup s=some v->base.lookup s=some v∨∃j∈deps M,s=k0+j/\v=val j)/\AS P N ops M 1 y [] V1 λ_ V2=>Φ V2)
  (hQ:∀X w' V',X.defers=a0.defers->Has N X base->Φ V'->As V w0 V' w'->Q .normal X w'):
  ∀(fuel:Nat)(listed:Array Bool)(a:Act)(w:World),listed.size=M+1->unl listed (M+1)<=fuel->
   ((∃V1,V.sub V1/\As V w0 V1 w/\a.defers=a0.defers/\Has N a base/\listed.getD M false=false/\(∀i,i<M->listed.getD i false=true->Pr i (a.tmps.getD (k0+i) undef) V1)/\∀i,i<M->listed.getD i false=true->∀j∈HH ops i,listed.getD j false=true)∨((∀i,i<M+1->listed.getD i false=true)/\Q .normal a w))->
   wpAnyIn (Ay none) n P .any ops Q fuel listed a w:=by
 unfold anyOk at chk;simp only[zC,decide_eq_true_eq,List.all_eq_true,yo,List.any_eq_true]at chk;obtain⟨⟨⟨⟨c1,c0⟩,c2⟩,c3⟩,c4⟩:=chk;have op:∀i,i<M+1->∃o,ops[i]?=some o/\o.guard=none:=λi hi=>by
  have:=(c3 i hi).1.1;cases C:ops[i]? with
  |none=>rw[C]at this;cases this
  |some o=>
   rw[C]at this;refine⟨o,rfl,?_⟩;cases hg:o.guard with
   |none=>rfl
   |some g=>simp[hg]at this
 have H:∀listed:Array Bool,listed.size=M+1->yn .any ops listed=[]->∀i,i<M+1->listed.getD i false=true:=λlisted hs hr i=>by
  induction i using Nat.strongRecOn with
  |ind i ih=>
   intro hi;cases h:listed.getD i false with
   |true=>rfl
   |false=>
    have:i∈yn .any ops listed:=ready_in (by omega) (by rw[LC (by omega) true false];exact h) λj Z=>by
     have c:=(c3 i hi).1.2 j Z;exact ih j c (by omega)
    rw[hr]at this;cases this
 intro fuel;induction fuel with
 |zero=>
  intro listed a w hs hu hI;have e:=unl_zero hs (by omega);rw[wpAnyIn];rcases hI with⟨V1,-,-,-,-,hM,-⟩|⟨-,hq⟩;·rw[e M (by omega)]at hM;cases hM
  ·refine⟨?_,hq⟩;cases hr:yn .any ops listed with
   |nil=>rfl
   |cons i l=>
    obtain⟨h1,h2,-⟩:=Pn (hr▸yA:i∈yn .any ops listed);rw[LC (by omega) true false,e i (by omega)]at h2;cases h2
 |succ fuel ih=>
  intro listed a w hs hu hI;rw[wpAnyIn];refine⟨λhr=>?_,λi hi=>?_⟩
  ·rcases hI with⟨V1,-,-,-,-,hM,-⟩|⟨-,hq⟩;·rw[H listed hs hr M (by omega)]at hM;cases hM
   ·exact hq
  ·obtain⟨h1,h2,h3⟩:=Pn hi;have J:i<M+1:=by omega
   rcases hI with⟨V1,Y,hF,hdf,hH,hM,hP,hC⟩|⟨e,-⟩;rotate_left;·rw[LC (by omega) true false,e i J]at h2;cases h2
   obtain⟨o,C,hg⟩:=op i J;have hs':(listed.setIfInBounds i true).size=M+1:=by simp[hs]
   have hu':unl (listed.setIfInBounds i true) (M+1)<=fuel:=by have:=unl_set J hs h2;omega
   have G:(listed.setIfInBounds i true).getD i false=true:=by simp[yZ,hs,J]
   have f:∀j,j≠i->(listed.setIfInBounds i true).getD j false=listed.getD j false:=λj Z=>by
    simp[w8,w9 (vA Z)]
   have hdeps:∀j∈deps i,j<i/\listed.getD j false=true:=λj Z=>⟨(c3 i J).1.2 j ((c3 i J).2 j Z),h3 j ((c3 i J).2 j Z)⟩;have S:∀j∈deps i,Pr j (a.tmps.getD (k0+j) undef) V1:=λj Z=>by
    have:=hdeps j Z;exact hP j (by omega) this.2
   have hin:∀(y:List (Nat×Value)),(∀s v,y.lookup s=some v->base.lookup s=some v∨∃j∈deps i,s=k0+j/\v=a.tmps.getD (k0+j) undef)->∀s v,y.lookup s=some v->a.tmps.getD s undef=v:=λy h s v hl=>by
    rcases h s v hl with h|⟨j,-,rfl,rfl⟩;·exact hH.2 s v h
    ·rfl
   by_cases E:i<M
   ·obtain⟨y,W,O⟩:=hstep i E V1 Y (λj=>a.tmps.getD (k0+j) undef) S;have hw:=O none n a w hF.le hH.1 (hin y W);rw[show wi i 1=[i]from rfl,wpOpsIn_cons]at hw;have I:o.dst=some (k0+i):=by have:=c2 i E;rw[C]at this;simpa using this
    have hfin:wpOpIn (Ay none) n P ops Q i (wpAnyIn (Ay none) n P .any ops Q fuel (listed.setIfInBounds i true)) a w:=by
     refine Pm C hg (Pl C hg hw) (λ_ _ _ h=>by cases h.1) (λh=>by obtain⟨_,_,h,_⟩:=h;cases h) ?_;rintro X w' ⟨⟨v,hv⟩,-,hd',hs2,vs,V2,hlook,⟨u,rfl,L,hPu⟩,hF2⟩;rw[I]at hv;have T:∀s,s≠k0+i->X.tmps.getD s undef=a.tmps.getD s undef:=λs hne=>by
      rw[hv];simp[ui,w8,w9 (vA hne)]
     refine ih _ X w' hs' hu' (.inl ⟨V2,Y.trans L,hF.trans hF2,hd'.trans hdf,⟨hs2,λs v K=>?_⟩,?_,λj Z hl=>?_,λj Z hl k hk=>?_⟩);·rw[T s (by have:=hbase s v K;omega)];exact hH.2 s v K
     ·rw[f M (by omega)];exact hM
     ·by_cases c:j=i
      ·subst c;have:=hlook (k0+j) u (by simp);rw[this];exact hPu
      ·rw[T (k0+j) (by omega)];rw[f j c]at hl;exact mono _ _ _ _ L (hP j Z hl)
     ·by_cases c:j=i
      ·subst c;by_cases hkj:k=j;·rw[hkj];exact G
       ·rw[f k hkj];exact h3 k hk
      ·rw[f j c]at hl;by_cases hki:k=i;·rw[hki];exact G
       ·rw[f k hki];exact hC j Z hl k hk
    exact hfin
   ·have E:i=M:=by omega
    subst E;have e:∀k,k<=i->∀j,i-k<=j->j<i->listed.getD j false=true:=λk=>by
     induction k with
     |zero=>intro _ j h4 h5;omega
     |succ k ihk=>
      intro hk j h4 h5;obtain⟨b,hb1,hb2,hb3⟩:=c4 j h5;by_cases hbi:b=i;·subst hbi;exact h3 j hb3
      ·exact hC b (by omega) (ihk (by omega) b (by omega) (by omega)) j hb3
    obtain⟨y,W,O⟩:=hlast V1 Y (λj=>a.tmps.getD (k0+j) undef) S;have hw:=O none n a w hF.le hH.1 (hin y W);rw[show wi i 1=[i]from rfl,wpOpsIn_cons]at hw;have I:o.dst=none:=by rw[C]at c0;simpa using c0
    refine Pm C hg (Pl C hg hw) (λ_ _ _ h=>by cases h.1) (λh=>by obtain⟨_,_,h,_⟩:=h;cases h) ?_;rintro X w' ⟨⟨u,U⟩,-,hd',hs2,vs,V2,-,hΦ,hF2⟩;rw[I]at U;have hu3:X.tmps=a.tmps:=U;refine ih _ X w' hs' hu' (.inr ⟨λj Z=>?_,hQ X w' V2 (hd'.trans hdf) ⟨by rw[hu3];exact hH.1,λs v K=>by rw[hu3];exact hH.2 s v K⟩ hΦ (hF.trans hF2)⟩);by_cases c:j=i;·rw[c];exact G
    ·rw[f j c];exact e i (yq _) j (by omega) (by omega)
end
end
end Go.Sx
namespace Go.Proofs
open Go Go.Sx
set_option maxRecDepth 100000
section
variable{V:Mem}{R:RP}
noncomputable def c30a:List Code:=((AU (Az uh) []).drop 0).take 4
def w30a:MR:=λV R=>Ag [uS (Ad []),z0,z0,z0,z0,z0,z0,z0] 30 V λa V1=>Ag [.func (.func 53) #[] #[]] 132 V1 λb V2=>R (rT #[uP (Aa a 0),uP (Aa b 0),.func (.func 54) #[] #[],.func (.func 55) #[] #[uP (Aa b 0)]]) V2
theorem s30a{V:Mem}{R:KZ}(h:w30a V (OV R)):AI xS 45 c30a [] [0,1,2,3] V R:=
 Cm (H:=hK 45) [] [] rfl (by kernel_rfl) h
noncomputable def Bs:Array Oper:=DF ((AU (Az uh) []).getD 4 .skip)
def w30o0:MR:=λV R=>R (rT #[uA #[uS (Ad [110]),uS (Ad [105,110,116])]]) V
theorem s30o0{V:Mem}{R:KZ}(h:w30o0 V (OV R)):AS xS 45 Bs 0 1 [] [5] V R:=
 Bl (H:=hK 45) [] [] rfl (by kernel_rfl) h
def w30o1:MR:=λV R=>R (rT #[uA #[uS (Ad [110,101,120,116]),uS (Ad [67])]]) V
theorem s30o1{V:Mem}{R:KZ}(h:w30o1 V (OV R)):AS xS 45 Bs 1 1 [] [6] V R:=
 Bl (H:=hK 45) [] [] rfl (by kernel_rfl) h
def w30o2(a b c d:KB):MR:=λV R=>Ag [uS a,uS b,uS c,uS d] 138 V λg V1=>R (rT #[.slice (Aa g 0) 2 2]) V1
theorem s30o2{a b c d:KB}{V:Mem}{R:KZ}(h:w30o2 a b c d V (OV R)):AS xS 45 Bs 2 1 [(5,uA #[uS a,uS b]),(6,uA #[uS c,uS d])] [7] V R:=
 Bl (H:=hK 45) [(5,(.agg (.cons (.var .s 0) (.cons (.var .s 1) .nil)))),(6,(.agg (.cons (.var .s 2) (.cons (.var .s 3) .nil))))] [uS a,uS b,uS c,uS d] rfl (by kernel_rfl) h
def w30o3(a:Sl):MR:=λV R=>R (rT #[uA #[uS (Ad [67]),uL a]]) V
theorem s30o3{a:Sl}{V:Mem}{R:KZ}(h:w30o3 a V (OV R)):AS xS 45 Bs 3 1 [(7,uL a)] [8] V R:=
 Bl (H:=hK 45) [(7,(.var .sl 0))] [uL a] rfl (by kernel_rfl) h
def w30o4(a:KB)(b:Sl):MR:=λV R=>Ag [uS a,uL b] 140 V λc V1=>R (rT #[.slice (Aa c 0) 1 1]) V1
theorem s30o4{a:KB}{b:Sl}{V:Mem}{R:KZ}(h:w30o4 a b V (OV R)):AS xS 45 Bs 4 1 [(8,uA #[uS a,uL b])] [9] V R:=
 Bl (H:=hK 45) [(8,(.agg (.cons (.var .s 0) (.cons (.var .sl 1) .nil))))] [uS a,uL b] rfl (by kernel_rfl) h
def w30o5:MR:=λV R=>R (rT #[uA #[uS (Ad [102,105,114,115,116]),uS (Ad [67])]]) V
theorem s30o5{V:Mem}{R:KZ}(h:w30o5 V (OV R)):AS xS 45 Bs 5 1 [] [10] V R:=
 Bl (H:=hK 45) [] [] rfl (by kernel_rfl) h
def w30o6(a b:KB):MR:=λV R=>Ag [uS a,uS b] 138 V λc V1=>R (rT #[.slice (Aa c 0) 1 1]) V1
theorem s30o6{a b:KB}{V:Mem}{R:KZ}(h:w30o6 a b V (OV R)):AS xS 45 Bs 6 1 [(10,uA #[uS a,uS b])] [11] V R:=
 Bl (H:=hK 45) [(10,(.agg (.cons (.var .s 0) (.cons (.var .s 1) .nil))))] [uS a,uS b] rfl (by kernel_rfl) h
def w30o7:MR:=λV R=>R (rT #[uA #[uS (Ad [107]),uS (Ad [105,110,116])]]) V
theorem s30o7{V:Mem}{R:KZ}(h:w30o7 V (OV R)):AS xS 45 Bs 7 1 [] [12] V R:=
 Bl (H:=hK 45) [] [] rfl (by kernel_rfl) h
def w30o8(a b:KB):MR:=λV R=>Ag [uS a,uS b] 138 V λc V1=>R (rT #[.slice (Aa c 0) 1 1]) V1
theorem s30o8{a b:KB}{V:Mem}{R:KZ}(h:w30o8 a b V (OV R)):AS xS 45 Bs 8 1 [(12,uA #[uS a,uS b])] [13] V R:=
 Bl (H:=hK 45) [(12,(.agg (.cons (.var .s 0) (.cons (.var .s 1) .nil))))] [uS a,uS b] rfl (by kernel_rfl) h
def w30o9:MR:=λV R=>R (rT #[uA #[uS (Ad [99]),uS (Ad [67])]]) V
theorem s30o9{V:Mem}{R:KZ}(h:w30o9 V (OV R)):AS xS 45 Bs 9 1 [] [14] V R:=
 Bl (H:=hK 45) [] [] rfl (by kernel_rfl) h
def w30o10(a b:KB):MR:=λV R=>Ag [uS a,uS b] 138 V λc V1=>R (rT #[.slice (Aa c 0) 1 1]) V1
theorem s30o10{a b:KB}{V:Mem}{R:KZ}(h:w30o10 a b V (OV R)):AS xS 45 Bs 10 1 [(14,uA #[uS a,uS b])] [15] V R:=
 Bl (H:=hK 45) [(14,(.agg (.cons (.var .s 0) (.cons (.var .s 1) .nil))))] [uS a,uS b] rfl (by kernel_rfl) h
def w30o11(a:Value):MR:=λV R=>R (rT #[K.cast .f a]) V
theorem s30o11{a:Value}{V:Mem}{R:KZ}(h:w30o11 a V (OV R)):AS xS 45 Bs 11 1 [(2,K.cast .f a)] [16] V R:=
 Bl (H:=hK 45) [(2,(.var .f 0))] [a] rfl (by kernel_rfl) h
def w30o12(a:Option Addr):MR:=λV R=>∃b,K.f.ok b/\V.rowp a ((0:Int).toNat*1) 1=some [b]/\R (rT #[K.cast .f b]) V
theorem s30o12{a:Option Addr}{V:Mem}{R:KZ}(h:w30o12 a V (OV R)):AS xS 45 Bs 12 1 [(1,uP a)] [17] V R:=
 Bl (H:=hK 45) [(1,(.var .p 0))] [uP a] rfl (by kernel_rfl) h
def w30o13(a:Value):MR:=λV R=>∃f first h,K.cast .f a=.func (.func f) first h/\CO f/\TT f (first++#[uI 6,uS (Ad [67]),z0]++h) V λe V1=>∃b c d g,e=rV (uA #[uI b,uI c,uS d,uL g])/\R (rT #[uA #[uI b,uI c,uS d,uL g]]) V1
theorem s30o13{a:Value}{V:Mem}{R:KZ}(h:w30o13 a V (OV R)):AS xS 45 Bs 13 1 [(17,K.cast .f a)] [18] V R:=
 Bl (H:=hK 45) [(17,(.var .f 0))] [a] rfl (by kernel_rfl) h
def w30o14(a:Value)(b c:Int)(d:KB)(g:Sl):MR:=λV R=>∃f first h,K.cast .f a=.func (.func f) first h/\CO f/\TT f (first++#[uS (Ad [99]),uA #[uI b,uI c,uS d,uL g]]++h) V λe V1=>∃i j k l o,e=rV (uA #[uI i,uS j,uL k,uL l,uL o])/\R (rT #[uA #[uI i,uS j,uL k,uL l,uL o]]) V1
theorem s30o14{a:Value}{b c:Int}{d:KB}{g:Sl}{V:Mem}{R:KZ}(h:w30o14 a b c d g V (OV R)):AS xS 45 Bs 14 1 [(16,K.cast .f a),(18,uA #[uI b,uI c,uS d,uL g])] [19] V R:=
 Bl (H:=hK 45) [(16,(.var .f 0)),(18,(.agg (.cons (.var (.i .i64) 1) (.cons (.var (.i .i64) 2) (.cons (.var .s 3) (.cons (.var .sl 4) .nil))))))] [a,uI b,uI c,uS d,uL g] rfl (by kernel_rfl) h
def w30o15(a:Value):MR:=λV R=>R (rT #[K.cast .f a]) V
theorem s30o15{a:Value}{V:Mem}{R:KZ}(h:w30o15 a V (OV R)):AS xS 45 Bs 15 1 [(3,K.cast .f a)] [20] V R:=
 Bl (H:=hK 45) [(3,(.var .f 0))] [a] rfl (by kernel_rfl) h
def w30o16(a:Option Addr):MR:=λV R=>∃b,K.f.ok b/\V.rowp a ((0:Int).toNat*1) 1=some [b]/\R (rT #[K.cast .f b]) V
theorem s30o16{a:Option Addr}{V:Mem}{R:KZ}(h:w30o16 a V (OV R)):AS xS 45 Bs 16 1 [(1,uP a)] [21] V R:=
 Bl (H:=hK 45) [(1,(.var .p 0))] [uP a] rfl (by kernel_rfl) h
def w30o17(a:Value):MR:=λV R=>∃f first h,K.cast .f a=.func (.func f) first h/\CO f/\TT f (first++#[uI 4,uS (Ad [107]),z0]++h) V λe V1=>∃b c d g,e=rV (uA #[uI b,uI c,uS d,uL g])/\R (rT #[uA #[uI b,uI c,uS d,uL g]]) V1
theorem s30o17{a:Value}{V:Mem}{R:KZ}(h:w30o17 a V (OV R)):AS xS 45 Bs 17 1 [(21,K.cast .f a)] [22] V R:=
 Bl (H:=hK 45) [(21,(.var .f 0))] [a] rfl (by kernel_rfl) h
def w30o18(a:Value)(b c:Int)(d:KB)(g:Sl):MR:=λV R=>∃f first h,K.cast .f a=.func (.func f) first h/\CO f/\TT f (first++#[uS (Ad [110]),uA #[uI b,uI c,uS d,uL g]]++h) V λe V1=>∃i j k l o,e=rV (uA #[uI i,uS j,uL k,uL l,uL o])/\R (rT #[uA #[uI i,uS j,uL k,uL l,uL o]]) V1
theorem s30o18{a:Value}{b c:Int}{d:KB}{g:Sl}{V:Mem}{R:KZ}(h:w30o18 a b c d g V (OV R)):AS xS 45 Bs 18 1 [(20,K.cast .f a),(22,uA #[uI b,uI c,uS d,uL g])] [23] V R:=
 Bl (H:=hK 45) [(20,(.var .f 0)),(22,(.agg (.cons (.var (.i .i64) 1) (.cons (.var (.i .i64) 2) (.cons (.var .s 3) (.cons (.var .sl 4) .nil))))))] [a,uI b,uI c,uS d,uL g] rfl (by kernel_rfl) h
def w30o19(a:Value):MR:=λV R=>R (rT #[K.cast .f a]) V
theorem s30o19{a:Value}{V:Mem}{R:KZ}(h:w30o19 a V (OV R)):AS xS 45 Bs 19 1 [(3,K.cast .f a)] [24] V R:=
 Bl (H:=hK 45) [(3,(.var .f 0))] [a] rfl (by kernel_rfl) h
def w30o20(a:Option Addr):MR:=λV R=>∃b,K.f.ok b/\V.rowp a ((0:Int).toNat*1) 1=some [b]/\R (rT #[K.cast .f b]) V
theorem s30o20{a:Option Addr}{V:Mem}{R:KZ}(h:w30o20 a V (OV R)):AS xS 45 Bs 20 1 [(1,uP a)] [25] V R:=
 Bl (H:=hK 45) [(1,(.var .p 0))] [uP a] rfl (by kernel_rfl) h
def w30o21(a:Value):MR:=λV R=>∃f first h,K.cast .f a=.func (.func f) first h/\CO f/\TT f (first++#[uI 4,uS (Ad [102,105,114,115,116]),z0]++h) V λe V1=>∃b c d g,e=rV (uA #[uI b,uI c,uS d,uL g])/\R (rT #[uA #[uI b,uI c,uS d,uL g]]) V1
theorem s30o21{a:Value}{V:Mem}{R:KZ}(h:w30o21 a V (OV R)):AS xS 45 Bs 21 1 [(25,K.cast .f a)] [26] V R:=
 Bl (H:=hK 45) [(25,(.var .f 0))] [a] rfl (by kernel_rfl) h
def w30o22(a:Value)(b c:Int)(d:KB)(g:Sl):MR:=λV R=>∃f first h,K.cast .f a=.func (.func f) first h/\CO f/\TT f (first++#[uS (Ad [110,101,120,116]),uA #[uI b,uI c,uS d,uL g]]++h) V λe V1=>∃i j k l o,e=rV (uA #[uI i,uS j,uL k,uL l,uL o])/\R (rT #[uA #[uI i,uS j,uL k,uL l,uL o]]) V1
theorem s30o22{a:Value}{b c:Int}{d:KB}{g:Sl}{V:Mem}{R:KZ}(h:w30o22 a b c d g V (OV R)):AS xS 45 Bs 22 1 [(24,K.cast .f a),(26,uA #[uI b,uI c,uS d,uL g])] [27] V R:=
 Bl (H:=hK 45) [(24,(.var .f 0)),(26,(.agg (.cons (.var (.i .i64) 1) (.cons (.var (.i .i64) 2) (.cons (.var .s 3) (.cons (.var .sl 4) .nil))))))] [a,uI b,uI c,uS d,uL g] rfl (by kernel_rfl) h
def w30o23(a:Value):MR:=λV R=>R (rT #[K.cast .f a]) V
theorem s30o23{a:Value}{V:Mem}{R:KZ}(h:w30o23 a V (OV R)):AS xS 45 Bs 23 1 [(2,K.cast .f a)] [28] V R:=
 Bl (H:=hK 45) [(2,(.var .f 0))] [a] rfl (by kernel_rfl) h
def w30o24(a:Option Addr):MR:=λV R=>∃b,K.f.ok b/\V.rowp a ((0:Int).toNat*1) 1=some [b]/\R (rT #[K.cast .f b]) V
theorem s30o24{a:Option Addr}{V:Mem}{R:KZ}(h:w30o24 a V (OV R)):AS xS 45 Bs 24 1 [(1,uP a)] [29] V R:=
 Bl (H:=hK 45) [(1,(.var .p 0))] [uP a] rfl (by kernel_rfl) h
def w30o25(a:Value):MR:=λV R=>∃f first h,K.cast .f a=.func (.func f) first h/\CO f/\TT f (first++#[uI 4,uS (Ad [99]),z0]++h) V λe V1=>∃b c d g,e=rV (uA #[uI b,uI c,uS d,uL g])/\R (rT #[uA #[uI b,uI c,uS d,uL g]]) V1
theorem s30o25{a:Value}{V:Mem}{R:KZ}(h:w30o25 a V (OV R)):AS xS 45 Bs 25 1 [(29,K.cast .f a)] [30] V R:=
 Bl (H:=hK 45) [(29,(.var .f 0))] [a] rfl (by kernel_rfl) h
def w30o26(a:Value)(b c:Int)(d:KB)(g:Sl):MR:=λV R=>∃f first h,K.cast .f a=.func (.func f) first h/\CO f/\TT f (first++#[uS (Ad [102,105,114,115,116]),uA #[uI b,uI c,uS d,uL g]]++h) V λe V1=>∃i j k l o,e=rV (uA #[uI i,uS j,uL k,uL l,uL o])/\R (rT #[uA #[uI i,uS j,uL k,uL l,uL o]]) V1
theorem s30o26{a:Value}{b c:Int}{d:KB}{g:Sl}{V:Mem}{R:KZ}(h:w30o26 a b c d g V (OV R)):AS xS 45 Bs 26 1 [(28,K.cast .f a),(30,uA #[uI b,uI c,uS d,uL g])] [31] V R:=
 Bl (H:=hK 45) [(28,(.var .f 0)),(30,(.agg (.cons (.var (.i .i64) 1) (.cons (.var (.i .i64) 2) (.cons (.var .s 3) (.cons (.var .sl 4) .nil))))))] [a,uI b,uI c,uS d,uL g] rfl (by kernel_rfl) h
def w30o27(a:Int)(b:KB)(c d g:Sl)(i:Int)(j:KB)(k l o:Sl)(p:Int)(q:KB)(r s u:Sl)(y:Int)(z:KB)(A B C:Sl):MR:=λV R=>Ag [uI a,uS b,uL c,uL d,uL g,uI i,uS j,uL k,uL l,uL o,uI p,uS q,uL r,uL s,uL u,uI y,uS z,uL A,uL B,uL C] 135 V λD V1=>R (rT #[.slice (Aa D 0) 4 4]) V1
theorem s30o27{a:Int}{b:KB}{c d g:Sl}{i:Int}{j:KB}{k l o:Sl}{p:Int}{q:KB}{r s u:Sl}{y:Int}{z:KB}{A B C:Sl}{V:Mem}{R:KZ}(h:w30o27 a b c d g i j k l o p q r s u y z A B C V (OV R)):AS xS 45 Bs 27 1 [(19,uA #[uI a,uS b,uL c,uL d,uL g]),(23,uA #[uI i,uS j,uL k,uL l,uL o]),(27,uA #[uI p,uS q,uL r,uL s,uL u]),(31,uA #[uI y,uS z,uL A,uL B,uL C])] [32] V R:=
 Bl (H:=hK 45) [(19,(.agg (.cons (.var (.i .i64) 0) (.cons (.var .s 1) (.cons (.var .sl 2) (.cons (.var .sl 3) (.cons (.var .sl 4) .nil))))))),(23,(.agg (.cons (.var (.i .i64) 5) (.cons (.var .s 6) (.cons (.var .sl 7) (.cons (.var .sl 8) (.cons (.var .sl 9) .nil))))))),(27,(.agg (.cons (.var (.i .i64) 10) (.cons (.var .s 11) (.cons (.var .sl 12) (.cons (.var .sl 13) (.cons (.var .sl 14) .nil))))))),(31,(.agg (.cons (.var (.i .i64) 15) (.cons (.var .s 16) (.cons (.var .sl 17) (.cons (.var .sl 18) (.cons (.var .sl 19) .nil)))))))] [uI a,uS b,uL c,uL d,uL g,uI i,uS j,uL k,uL l,uL o,uI p,uS q,uL r,uL s,uL u,uI y,uS z,uL A,uL B,uL C] rfl (by kernel_rfl) h
def w30o28(a b c:Sl):MR:=λV R=>R (rT #[uA #[uS (Ad [112,117,115,104]),uL a,uS (Ad []),uL b,uL c]]) V
theorem s30o28{a b c:Sl}{V:Mem}{R:KZ}(h:w30o28 a b c V (OV R)):AS xS 45 Bs 28 1 [(13,uL a),(15,uL b),(32,uL c)] [33] V R:=
 Bl (H:=hK 45) [(13,(.var .sl 0)),(15,(.var .sl 1)),(32,(.var .sl 2))] [uL a,uL b,uL c] rfl (by kernel_rfl) h
def w30o29(a:Option Addr):MR:=λV R=>∃b,K.f.ok b/\V.rowp a ((0:Int).toNat*1) 1=some [b]/\R (rT #[K.cast .f b]) V
theorem s30o29{a:Option Addr}{V:Mem}{R:KZ}(h:w30o29 a V (OV R)):AS xS 45 Bs 29 1 [(1,uP a)] [34] V R:=
 Bl (H:=hK 45) [(1,(.var .p 0))] [uP a] rfl (by kernel_rfl) h
def w30o30(a:Option Addr):MR:=λV R=>∃b,K.f.ok b/\V.rowp a ((0:Int).toNat*1) 1=some [b]/\R (rT #[K.cast .f b]) V
theorem s30o30{a:Option Addr}{V:Mem}{R:KZ}(h:w30o30 a V (OV R)):AS xS 45 Bs 30 1 [(1,uP a)] [35] V R:=
 Bl (H:=hK 45) [(1,(.var .p 0))] [uP a] rfl (by kernel_rfl) h
def w30o31(a:Value):MR:=λV R=>∃f first h,K.cast .f a=.func (.func f) first h/\CO f/\TT f (first++#[uI 4,uS (Ad [102,105,114,115,116]),z0]++h) V λe V1=>∃b c d g,e=rV (uA #[uI b,uI c,uS d,uL g])/\R (rT #[uA #[uI b,uI c,uS d,uL g]]) V1
theorem s30o31{a:Value}{V:Mem}{R:KZ}(h:w30o31 a V (OV R)):AS xS 45 Bs 31 1 [(35,K.cast .f a)] [36] V R:=
 Bl (H:=hK 45) [(35,(.var .f 0))] [a] rfl (by kernel_rfl) h
def w30o32(a b:Int)(c:KB)(d:Sl):MR:=λV R=>Ag [uI a,uI b,uS c,uL d] 131 V λg V1=>R (rT #[.slice (Aa g 0) 1 1]) V1
theorem s30o32{a b:Int}{c:KB}{d:Sl}{V:Mem}{R:KZ}(h:w30o32 a b c d V (OV R)):AS xS 45 Bs 32 1 [(36,uA #[uI a,uI b,uS c,uL d])] [37] V R:=
 Bl (H:=hK 45) [(36,(.agg (.cons (.var (.i .i64) 0) (.cons (.var (.i .i64) 1) (.cons (.var .s 2) (.cons (.var .sl 3) .nil))))))] [uI a,uI b,uS c,uL d] rfl (by kernel_rfl) h
def w30o33(a:Value)(b:Sl):MR:=λV R=>∃f first h,K.cast .f a=.func (.func f) first h/\CO f/\TT f (first++#[uI 5,uS (Ad [110]),uL b]++h) V λe V1=>∃c d g i,e=rV (uA #[uI c,uI d,uS g,uL i])/\R (rT #[uA #[uI c,uI d,uS g,uL i]]) V1
theorem s30o33{a:Value}{b:Sl}{V:Mem}{R:KZ}(h:w30o33 a b V (OV R)):AS xS 45 Bs 33 1 [(34,K.cast .f a),(37,uL b)] [38] V R:=
 Bl (H:=hK 45) [(34,(.var .f 0)),(37,(.var .sl 1))] [a,uL b] rfl (by kernel_rfl) h
def w30o34(a b:Int)(c:KB)(d:Sl):MR:=λV R=>Ag [uI a,uI b,uS c,uL d] 131 V λg V1=>R (rT #[.slice (Aa g 0) 1 1]) V1
theorem s30o34{a b:Int}{c:KB}{d:Sl}{V:Mem}{R:KZ}(h:w30o34 a b c d V (OV R)):AS xS 45 Bs 34 1 [(38,uA #[uI a,uI b,uS c,uL d])] [39] V R:=
 Bl (H:=hK 45) [(38,(.agg (.cons (.var (.i .i64) 0) (.cons (.var (.i .i64) 1) (.cons (.var .s 2) (.cons (.var .sl 3) .nil))))))] [uI a,uI b,uS c,uL d] rfl (by kernel_rfl) h
def w30o35(a:Sl):MR:=λV R=>R (rT #[uA #[uI 5,uS (Ad []),uL a,z0,z0]]) V
theorem s30o35{a:Sl}{V:Mem}{R:KZ}(h:w30o35 a V (OV R)):AS xS 45 Bs 35 1 [(39,uL a)] [40] V R:=
 Bl (H:=hK 45) [(39,(.var .sl 0))] [uL a] rfl (by kernel_rfl) h
def w30o36(a:Int)(b:KB)(c d g:Sl):MR:=λV R=>Ag [uI a,uS b,uL c,uL d,uL g] 135 V λi V1=>R (rT #[.slice (Aa i 0) 1 1]) V1
theorem s30o36{a:Int}{b:KB}{c d g:Sl}{V:Mem}{R:KZ}(h:w30o36 a b c d g V (OV R)):AS xS 45 Bs 36 1 [(40,uA #[uI a,uS b,uL c,uL d,uL g])] [41] V R:=
 Bl (H:=hK 45) [(40,(.agg (.cons (.var (.i .i64) 0) (.cons (.var .s 1) (.cons (.var .sl 2) (.cons (.var .sl 3) (.cons (.var .sl 4) .nil)))))))] [uI a,uS b,uL c,uL d,uL g] rfl (by kernel_rfl) h
def w30o37(a:Sl):MR:=λV R=>R (rT #[uA #[uS (Ad [116,111,112]),z0,uS (Ad [105,110,116]),z0,uL a]]) V
theorem s30o37{a:Sl}{V:Mem}{R:KZ}(h:w30o37 a V (OV R)):AS xS 45 Bs 37 1 [(41,uL a)] [42] V R:=
 Bl (H:=hK 45) [(41,(.var .sl 0))] [uL a] rfl (by kernel_rfl) h
def w30o38(a:KB)(b:Sl)(c:KB)(d g:Sl)(i:KB)(j:Sl)(k:KB)(l o:Sl):MR:=λV R=>Ag [uS a,uL b,uS c,uL d,uL g,uS i,uL j,uS k,uL l,uL o] 142 V λp V1=>R (rT #[.slice (Aa p 0) 2 2]) V1
theorem s30o38{a:KB}{b:Sl}{c:KB}{d g:Sl}{i:KB}{j:Sl}{k:KB}{l o:Sl}{V:Mem}{R:KZ}(h:w30o38 a b c d g i j k l o V (OV R)):AS xS 45 Bs 38 1 [(33,uA #[uS a,uL b,uS c,uL d,uL g]),(42,uA #[uS i,uL j,uS k,uL l,uL o])] [43] V R:=
 Bl (H:=hK 45) [(33,(.agg (.cons (.var .s 0) (.cons (.var .sl 1) (.cons (.var .s 2) (.cons (.var .sl 3) (.cons (.var .sl 4) .nil))))))),(42,(.agg (.cons (.var .s 5) (.cons (.var .sl 6) (.cons (.var .s 7) (.cons (.var .sl 8) (.cons (.var .sl 9) .nil)))))))] [uS a,uL b,uS c,uL d,uL g,uS i,uL j,uS k,uL l,uL o] rfl (by kernel_rfl) h
def w30o39(a b c:Sl):MR:=λV R=>R (rT #[uA #[uS (Ad [115,116,97,99,107]),uL a,uL b,uL c,z0,z0,z0,z0]]) V
theorem s30o39{a b c:Sl}{V:Mem}{R:KZ}(h:w30o39 a b c V (OV R)):AS xS 45 Bs 39 1 [(9,uL a),(11,uL b),(43,uL c)] [44] V R:=
 Bl (H:=hK 45) [(9,(.var .sl 0)),(11,(.var .sl 1)),(43,(.var .sl 2))] [uL a,uL b,uL c] rfl (by kernel_rfl) h
def w30o40(a:Option Addr)(b:KB)(c d g i j k l:Sl):MR:=λV R=>Ak a 0 [uS b,uL c,uL d,uL g,uL i,uL j,uL k,uL l] V λV1=>R (rT #[]) V1
theorem s30o40{a:Option Addr}{b:KB}{c d g i j k l:Sl}{V:Mem}{R:KZ}(h:w30o40 a b c d g i j k l V (OV R)):AS xS 45 Bs 40 1 [(0,uP a),(44,uD b c d g i j k l)] [] V R:=
 Bl (H:=hK 45) [(0,(.var .p 0)),(44,(.agg (.cons (.var .s 1) (.cons (.var .sl 2) (.cons (.var .sl 3) (.cons (.var .sl 4) (.cons (.var .sl 5) (.cons (.var .sl 6) (.cons (.var .sl 7) (.cons (.var .sl 8) .nil))))))))))] [uP a,uS b,uL c,uL d,uL g,uL i,uL j,uL k,uL l] rfl (by kernel_rfl) h
end
end Go.Proofs
namespace Go.Proofs
open Go Go.Sx
attribute [local irreducible] Go.Sx.Tri
def CS:KB:=Ad [67]
def Ff:KB:=Ad [110]
def Gz:KB:=Ad [110,101,120,116]
def DG:KB:=Ad [102,105,114,115,116]
def Fy:KB:=Ad [107]
def CW:KB:=Ad [99]
def EO:KB:=Ad [112,117,115,104]
def Ew(s:KB):E:=.mk 4 0 s Af []
def lsNew:E:=.mk 6 0 CS Af []
def lsSet(s:KB)(e:E):S:=.mk 1 s Af [e] Af [] Af []
def lsPut(s:KB)(e f:E):S:=.mk 2 s Af [e,f] Af [] Af []
def lsPr1:Pr:=⟨EO,Af,[⟨Fy,Am⟩],sE,Af,[⟨CW,CS⟩],Af,[lsSet CW lsNew,lsPut Ff (Ew CW) (Ew Fy),lsPut Gz (Ew CW) (Ew DG),lsSet DG (Ew CW)]⟩
def lsTy:Ty:=⟨CS,Af,[⟨Ff,Am⟩,⟨Gz,CS⟩]⟩
def lE(x:E)(v:Value)(A:Mem):Prop:=∃e,v=e.v/\Dz e=x/\E.Ok A e
def lL(xs:List E)(v:Value)(A:Mem):Prop:=∃(s:Sl)(es:List E),v=s.v/\es.map Dz=xs/\Ab A s 4 (es.map E.row)/\∀e∈es,E.Ok A e
def lS(x:S)(v:Value)(A:Mem):Prop:=∃(op:Int)(s:KB)(l:Sl)(es:List E)(k:Sl)(h:List S),v=(S.mk op s l es k h ⟨none,0,0⟩ []).v/\DP (S.mk op s l es k h ⟨none,0,0⟩ [])=x/\S.Ok A (S.mk op s l es k h ⟨none,0,0⟩ [])
def lB(xs:List S)(v:Value)(A:Mem):Prop:=∃(s:Sl)(es:List S),v=s.v/\es.map DP=xs/\Ab A s 5 (es.map S.row)/\∀e∈es,S.Ok A e
def lF(fs:List Fld)(v:Value)(A:Mem):Prop:=∃s:Sl,v=s.v/\Ab A s 2 (fs.map Fld.row)
def lT(v:Value)(A:Mem):Prop:=∃t:Ty,v=.agg t.row.toArray/\tEr t=lsTy/\Ty.Ok A t
def J8(v:Value)(A:Mem):Prop:=∃(s:Sl)(t:Ty),v=s.v/\tEr t=lsTy/\Ab A s 2 ([t].map Ty.row)/\Ty.Ok A t
def lP(q:Pr)(v:Value)(A:Mem):Prop:=∃p:Pr,v=p.v/\pEr p=q/\Pr.Ok A p
section
variable{A B:Mem}{v:Value}(hs:A.sub B)
include hs
theorem lE.mono{x:E}(h:lE x v A):lE x v B:=by obtain⟨e,a,b,c⟩:=h;exact⟨e,a,b,c.sub hs⟩
theorem lL.mono{x:List E}(h:lL x v A):lL x v B:=by obtain⟨s,es,a,b,c,d⟩:=h;exact⟨s,es,a,b,c.sub hs,λe k=>(d e k).sub hs⟩
theorem lS.mono{x:S}(h:lS x v A):lS x v B:=by obtain⟨o,s,l,es,k,g,a,b,c⟩:=h;exact⟨o,s,l,es,k,g,a,b,c.sub hs⟩
theorem lB.mono{x:List S}(h:lB x v A):lB x v B:=by obtain⟨s,es,a,b,c,d⟩:=h;exact⟨s,es,a,b,c.sub hs,λe k=>(d e k).sub hs⟩
theorem lF.mono{f:List Fld}(h:lF f v A):lF f v B:=by obtain⟨s,a,b⟩:=h;exact⟨s,a,b.sub hs⟩
theorem lT.mono(h:lT v A):lT v B:=by obtain⟨t,a,b,c⟩:=h;exact⟨t,a,b,c.sub hs⟩
theorem J8.mono(h:J8 v A):J8 v B:=by obtain⟨s,t,a,b,c,d⟩:=h;exact⟨s,t,a,b,c.sub hs,d.sub hs⟩
theorem J9{p:Pr}(h:Pr.Ok A p):Pr.Ok B p:=⟨h.params.sub hs,h.locals.sub hs,h.body.sub hs,λs k=>(h.stmts s k).sub hs⟩
theorem lP.mono{q:Pr}(h:lP q v A):lP q v B:=by obtain⟨p,a,b,c⟩:=h;exact⟨p,a,b,J9 hs c⟩
end
def Fg(b0:Nat)(V:Mem):Mem:=λc=>if c=b0 then none else V c
theorem lsO_ne{b0 c:Nat}{A:Mem}(h:c≠b0):Fg b0 A c=A c:=if_neg h
theorem lsO_no{b0 c:Nat}{A:Mem}(h:c=b0):Fg b0 A c=none:=if_pos h
theorem lsO_sub{b0:Nat}{A B:Mem}(h:A.sub B):(Fg b0 A).sub (Fg b0 B):=λc o k=>by
 by_cases e:c=b0;·grind[lsO_no]
 ·rw[lsO_ne e]at k⊢;exact h _ _ k
theorem lsO_le{b0:Nat}{A:Mem}:(Fg b0 A).sub A:=λc o h=>by
 grind[lsO_no,lsO_ne]
theorem FY{k s:Nat}{x v:Value}(h:[(k,x)].lookup s=some v):s=k/\v=x:=by
 grind
theorem lsIn0{s:Nat}{v:Value}{Q:Prop}(h:([]:List (Nat×Value)).lookup s=some v):Q:=by cases h
section
variable{V V1:Mem}{b0 b1:Nat}{sl:Sl}{val:Nat->Value}
theorem Fh{A:Mem}{n:Nat}:Ab A ⟨none,0,0⟩ n []:=Ab.nil
theorem lsEk{A:Mem}{op:Int}{s:KB}(h:yh.min<=op/\op<=yh.max):E.Ok A (.mk op 0 s ⟨none,0,0⟩ []):=.mk Fh (λ_ h=>by simp at h) h (by decide)
end
def DC:KB:=Ad [116,111,112]
def skStack:KB:=Ad [115,116,97,99,107]
def skFe:E:=.mk 5 0 Ff Af [Ew DG]
def skRet:S:=.mk 5 sE Af [skFe] Af [] Af []
def skPr2:Pr:=⟨DC,Af,[],Am,Af,[],Af,[skRet]⟩
def Bp:Ds:=⟨skStack,Af,[lsTy],Af,[⟨DG,CS⟩],Af,[lsPr1,skPr2],Af,[],Af,[],Af,[],Af,[]⟩
def CI:Value:=.func (.func 53) #[] #[]
def Fz:Value:=.func (.func 54) #[] #[]
def FA(b:Nat):Value:=.func (.func 55) #[] #[pv b]
def skPs(v:Value)(A:Mem):Prop:=∃(s:Sl)(p q:Pr),v=s.v/\pEr p=lsPr1/\pEr q=skPr2/\Ab A s 5 ([p,q].map Pr.row)/\Pr.Ok A p/\Pr.Ok A q
def Jd(v:Value)(A:Mem):Prop:=∃d:Ds,v=d.v/\EK Bp d/\Ds.Ok A d
section
variable{A B:Mem}{v:Value}(hs:A.sub B)
include hs
theorem skPs.mono(h:skPs v A):skPs v B:=by obtain⟨s,p,q,a,b,c,d,e,f⟩:=h;exact⟨s,p,q,a,b,c,d.sub hs,J9 hs e,J9 hs f⟩
theorem Jd.mono(h:Jd v A):Jd v B:=by obtain⟨d,a,b,c⟩:=h;exact⟨d,a,b,c.sub hs⟩
end
def Cn:Nat->List Nat
 |2=>[0,1]
 |3=>[2]
 |4=>[3]
 |6=>[5]
 |8=>[7]
 |10=>[9]
 |13=>[12]
 |14=>[11,13]
 |17=>[16]
 |18=>[15,17]
 |21=>[20]
 |22=>[19,21]
 |25=>[24]
 |26=>[23,25]
 |27=>[14,18,22,26]
 |28=>[8,10,27]
 |31=>[30]
 |32=>[31]
 |33=>[29,32]
 |34=>[33]
 |35=>[34]
 |36=>[35]
 |37=>[36]
 |38=>[28,37]
 |39=>[4,6,38]
 |40=>[39]
 |_=>[]
def Je(b1:Nat)(A:Mem):Nat->Value->Prop
 |0,v=>v=.agg #[uS Ff,uS Am]
 |1,v=>v=.agg #[uS Gz,uS CS]
 |2,v=>lF [⟨Ff,Am⟩,⟨Gz,CS⟩] v A
 |3,v=>lT v A
 |4,v=>J8 v A
 |5,v=>v=.agg #[uS DG,uS CS]
 |6,v=>lF [⟨DG,CS⟩] v A
 |7,v=>v=.agg #[uS Fy,uS Am]
 |8,v=>lF [⟨Fy,Am⟩] v A
 |9,v=>v=.agg #[uS CW,uS CS]
 |10,v=>lF [⟨CW,CS⟩] v A
 |11,v=>v=Fz
 |12,v=>v=CI
 |13,v=>lE lsNew v A
 |14,v=>lS (lsSet CW lsNew) v A
 |15,v=>v=(FA b1)
 |16,v=>v=CI
 |17,v=>lE (Ew Fy) v A
 |18,v=>lS (lsPut Ff (Ew CW) (Ew Fy)) v A
 |19,v=>v=(FA b1)
 |20,v=>v=CI
 |21,v=>lE (Ew DG) v A
 |22,v=>lS (lsPut Gz (Ew CW) (Ew DG)) v A
 |23,v=>v=Fz
 |24,v=>v=CI
 |25,v=>lE (Ew CW) v A
 |26,v=>lS (lsSet DG (Ew CW)) v A
 |27,v=>lB lsPr1.body v A
 |28,v=>lP lsPr1 v A
 |29,v=>v=CI
 |30,v=>v=CI
 |31,v=>lE (Ew DG) v A
 |32,v=>lL [Ew DG] v A
 |33,v=>lE skFe v A
 |34,v=>lL [skFe] v A
 |35,v=>lS skRet v A
 |36,v=>lB skPr2.body v A
 |37,v=>lP skPr2 v A
 |38,v=>skPs v A
 |39,v=>Jd v A
 |_,_=>True
theorem skQ_mono{b1:Nat}{A B:Mem}(hs:A.sub B):∀(i:Nat)(v:Value),Je b1 A i v->Je b1 B i v
 |0,_,h=>h
 |1,_,h=>h
 |2,_,h=>lF.mono hs h
 |3,_,h=>lT.mono hs h
 |4,_,h=>J8.mono hs h
 |5,_,h=>h
 |6,_,h=>lF.mono hs h
 |7,_,h=>h
 |8,_,h=>lF.mono hs h
 |9,_,h=>h
 |10,_,h=>lF.mono hs h
 |11,_,h=>h
 |12,_,h=>h
 |13,_,h=>lE.mono hs h
 |14,_,h=>lS.mono hs h
 |15,_,h=>h
 |16,_,h=>h
 |17,_,h=>lE.mono hs h
 |18,_,h=>lS.mono hs h
 |19,_,h=>h
 |20,_,h=>h
 |21,_,h=>lE.mono hs h
 |22,_,h=>lS.mono hs h
 |23,_,h=>h
 |24,_,h=>h
 |25,_,h=>lE.mono hs h
 |26,_,h=>lS.mono hs h
 |27,_,h=>lB.mono hs h
 |28,_,h=>lP.mono hs h
 |29,_,h=>h
 |30,_,h=>h
 |31,_,h=>lE.mono hs h
 |32,_,h=>lL.mono hs h
 |33,_,h=>lE.mono hs h
 |34,_,h=>lL.mono hs h
 |35,_,h=>lS.mono hs h
 |36,_,h=>lB.mono hs h
 |37,_,h=>lP.mono hs h
 |38,_,h=>skPs.mono hs h
 |39,_,h=>Jd.mono hs h
 |_+40,_,_=>trivial
def skBase(b0 b1:Nat):List (Nat×Value):=[(0,pv b0),(1,pv b1),(2,Fz),(3,FA b1)]
structure NC (V:Mem)(b0 b1:Nat):Prop where
 z:∃o,V b0=some o
 x:∃t,V b1=some (.cells #[CI] t (0,0))
def Pp(i:Nat)(b0 b1:Nat)(V1:Mem)(val:Nat->Value):Prop:=∃h,(∀s v,h.lookup s=some v->(skBase b0 b1).lookup s=some v∨∃j∈Cn i,s=5+j/\v=val j)/\AS xS 45 Bs i 1 h [5+i] V1 λvs V2=>∃v,vs=[v]/\V1.sub V2/\Je b1 (Fg b0 V2) i v
theorem skIns{val:Nat->Value}:∀{l:List Nat}{s:Nat}{v:Value},(l.map λj=>(5+j,val j)).lookup s=some v->∃j∈l,s=5+j/\v=val j
 |[],_,_,h=>by cases h
 |j::l,s,v,h=>by
  rw[zH,z7]at h;split at h;·simp_all
  ·obtain⟨k,g,h1⟩:=skIns h;grind
section
variable{V V1:Mem}{b0 b1:Nat}{val:Nat->Value}
theorem EZ(g:NC V b0 b1)(hs:V.sub V1){b:Nat}(k:V1 b=none)(o:Obj):Fg b0 (V1.set b o) b=some o:=by
 have h:b≠b0:=λe=>by
  obtain⟨o,f⟩:=g.z;rw[e,hs _ _ f]at k;cases k
 rw[lsO_ne h];exact Mem.set_same _ _ _
theorem E0{b:Nat}(h:V1 b=none)(o:Obj):(Fg b0 V1).sub (Fg b0 (V1.set b o)):=lsO_sub (Mem.sub_new h o)
theorem HI{op:Int}{s:KB}{l:Sl}:PP 53 [.int .i64 op,.string s,l.v] V (.agg #[.int .i64 op,.int .i64 0,.string s,l.v]):=by
 refine Ql ?_;exact⟨rfl,rfl⟩
end
section
variable{V V1:Mem}{b0 b1:Nat}{val:Nat->Value}
theorem CX{i:Nat}{k:List (Nat×Value)}(eq:k=(Cn i).map λj=>(5+j,val j))(h:AS xS 45 Bs i 1 k [5+i] V1 λvs V2=>∃v,vs=[v]/\V1.sub V2/\Je b1 (Fg b0 V2) i v):Pp i b0 b1 V1 val:=
 ⟨k,λs v h=>.inr (skIns (by rw[<-eq];exact h)),h⟩
theorem skStep(G:NC V b0 b1)(hs:V.sub V1):∀i,i<40->(∀j∈Cn i,Je b1 (Fg b0 V1) j (val j))->Pp i b0 b1 V1 val
 |0,_,hv=>by
  exact⟨[],λ_ _ h=>lsIn0 h,s30o0 ⟨_,rfl,.agg #[uS Ff,uS Am],rfl,Mem.sub.refl _,rfl⟩⟩
 |1,_,hv=>by
  exact⟨[],λ_ _ h=>lsIn0 h,s30o1 ⟨_,rfl,.agg #[uS Gz,uS CS],rfl,Mem.sub.refl _,rfl⟩⟩
 |2,_,hv=>by
  have h0:val 0=_:=hv 0 (by decide);have h1:val 1=_:=hv 1 (by decide);refine CX (by simp only[Cn,ug,h0,h1]<;>rfl) (s30o2 (a:=Ff) (b:=Am) (c:=Gz) (d:=CS) ?_);unfold w30o2;intro b H;exact⟨_,rfl,_,rfl,Mem.sub_new H _,⟨some ⟨b,0,none⟩,2,2⟩,rfl,Ab.cells (xs:=[⟨Ff,Am⟩,⟨Gz,CS⟩]) (row:=Fld.row) (EZ G hs H _) rfl (λ_=>rfl) rfl (by simp)⟩
 |3,_,hv=>by
  obtain⟨l,W,O⟩:=hv 2 (by decide);refine CX (by simp only[Cn,ug,W]<;>rfl) (s30o3 (a:=l) ⟨_,rfl,_,rfl,Mem.sub.refl _,⟨CS,l,[⟨Ff,Am⟩,⟨Gz,CS⟩]⟩,rfl,rfl,⟨O⟩⟩)
 |4,_,hv=>by
  obtain⟨x,W,O,s3⟩:=hv 3 (by decide);refine CX (by simp only[Cn,ug,W]<;>rfl) (s30o4 (a:=x.name) (b:=x.fs) ?_);unfold w30o4;intro b H;exact⟨_,rfl,_,rfl,Mem.sub_new H _,⟨some ⟨b,0,none⟩,1,1⟩,x,rfl,O,Ab.cells (xs:=[x]) (row:=Ty.row) (EZ G hs H _) rfl (λ_=>rfl) rfl (by simp),s3.sub (E0 H _)⟩
 |5,_,hv=>by
  exact⟨[],λ_ _ h=>lsIn0 h,s30o5 ⟨_,rfl,.agg #[uS DG,uS CS],rfl,Mem.sub.refl _,rfl⟩⟩
 |6,_,hv=>by
  have h5:val 5=_:=hv 5 (by decide);refine CX (by simp only[Cn,ug,h5]<;>rfl) (s30o6 (a:=DG) (b:=CS) ?_);unfold w30o6;intro b H;exact⟨_,rfl,_,rfl,Mem.sub_new H _,⟨some ⟨b,0,none⟩,1,1⟩,rfl,Ab.cells (xs:=[⟨DG,CS⟩]) (row:=Fld.row) (EZ G hs H _) rfl (λ_=>rfl) rfl (by simp)⟩
 |7,_,hv=>by
  exact⟨[],λ_ _ h=>lsIn0 h,s30o7 ⟨_,rfl,.agg #[uS Fy,uS Am],rfl,Mem.sub.refl _,rfl⟩⟩
 |8,_,hv=>by
  have h7:val 7=_:=hv 7 (by decide);refine CX (by simp only[Cn,ug,h7]<;>rfl) (s30o8 (a:=Fy) (b:=Am) ?_);unfold w30o8;intro b H;exact⟨_,rfl,_,rfl,Mem.sub_new H _,⟨some ⟨b,0,none⟩,1,1⟩,rfl,Ab.cells (xs:=[⟨Fy,Am⟩]) (row:=Fld.row) (EZ G hs H _) rfl (λ_=>rfl) rfl (by simp)⟩
 |9,_,hv=>by
  exact⟨[],λ_ _ h=>lsIn0 h,s30o9 ⟨_,rfl,.agg #[uS CW,uS CS],rfl,Mem.sub.refl _,rfl⟩⟩
 |10,_,hv=>by
  have h9:val 9=_:=hv 9 (by decide);refine CX (by simp only[Cn,ug,h9]<;>rfl) (s30o10 (a:=CW) (b:=CS) ?_);unfold w30o10;intro b H;exact⟨_,rfl,_,rfl,Mem.sub_new H _,⟨some ⟨b,0,none⟩,1,1⟩,rfl,Ab.cells (xs:=[⟨CW,CS⟩]) (row:=Fld.row) (EZ G hs H _) rfl (λ_=>rfl) rfl (by simp)⟩
 |11,_,hv=>by
  exact⟨[(2,Fz)],λs v h=>.inl (by obtain⟨rfl,rfl⟩:=FY h;rfl),s30o11 (a:=Fz) ⟨_,rfl,Fz,rfl,Mem.sub.refl _,rfl⟩⟩
 |12,_,hv=>by
  obtain⟨t,J⟩:=G.x;exact⟨[(1,pv b1)],λs v h=>.inl (by obtain⟨rfl,rfl⟩:=FY h;rfl),s30o12 (a:=some ⟨b1,0,none⟩) ⟨CI,rfl,Aj (hs _ _ J) 0 1 (by simp),_,rfl,CI,rfl,Mem.sub.refl _,rfl⟩⟩
 |13,_,hv=>by
  have h12:val 12=_:=hv 12 (by decide);refine CX (by simp only[Cn,ug,h12]<;>rfl) (s30o13 (a:=CI) ?_);unfold w30o13;exact⟨53,#[],#[],rfl,uf,(HI (op:=6) (s:=CS) (l:=Af)).callv (first:=[]) (caps:=[]) ⟨_,_,_,_,rfl,_,rfl,_,rfl,Mem.sub.refl _,.mk 6 0 CS ⟨none,0,0⟩ [],rfl,rfl,lsEk (by decide)⟩⟩
 |14,_,hv=>by
  have h11:val 11=_:=hv 11 (by decide);obtain⟨e,I,L,X⟩:=hv 13 (by decide);refine CX (by simp only[Cn,ug,h11,I]<;>rfl) (s30o14 (a:=Fz) (b:=e.op) (c:=e.n) (d:=e.s) (g:=e.l) ?_);unfold w30o14;refine⟨54,#[],#[],rfl,Tryz.call54,Om ?_⟩;intro b H;exact⟨_,_,_,_,_,rfl,_,rfl,_,rfl,Mem.sub_new H _,1,CW,⟨some ⟨b,0,none⟩,1,1⟩,[e],⟨none,0,0⟩,[],rfl,by unfold DP;rw[Gt,uz,L];rfl,.mk (Ab.cells (xs:=[e]) (row:=E.row) (EZ G hs H _) rfl (λ_=>rfl) rfl (by simp)) (λx J=>by rw[zR.1 J];exact X.sub (E0 H _)) Fh (λ_ h=>by simp at h) Fh (λ_ h=>by simp at h) (by decide)⟩
 |15,_,hv=>by
  exact⟨[(3,(FA b1))],λs v h=>.inl (by obtain⟨rfl,rfl⟩:=FY h;rfl),s30o15 (a:=(FA b1)) ⟨_,rfl,(FA b1),rfl,Mem.sub.refl _,rfl⟩⟩
 |16,_,hv=>by
  obtain⟨t,J⟩:=G.x;exact⟨[(1,pv b1)],λs v h=>.inl (by obtain⟨rfl,rfl⟩:=FY h;rfl),s30o16 (a:=some ⟨b1,0,none⟩) ⟨CI,rfl,Aj (hs _ _ J) 0 1 (by simp),_,rfl,CI,rfl,Mem.sub.refl _,rfl⟩⟩
 |17,_,hv=>by
  have h16:val 16=_:=hv 16 (by decide);refine CX (by simp only[Cn,ug,h16]<;>rfl) (s30o17 (a:=CI) ?_);unfold w30o17;exact⟨53,#[],#[],rfl,uf,(HI (op:=4) (s:=Fy) (l:=Af)).callv (first:=[]) (caps:=[]) ⟨_,_,_,_,rfl,_,rfl,_,rfl,Mem.sub.refl _,.mk 4 0 Fy ⟨none,0,0⟩ [],rfl,rfl,lsEk (by decide)⟩⟩
 |18,_,hv=>by
  have h15:val 15=_:=hv 15 (by decide);obtain⟨t,J⟩:=G.x;obtain⟨f,f1,f2,f3⟩:=hv 17 (by decide);refine CX (by simp only[Cn,ug,h15,f1]<;>rfl) (s30o18 (a:=FA b1) (b:=f.op) (c:=f.n) (d:=f.s) (g:=f.l) ?_);unfold w30o18;refine⟨55,#[],#[pv b1],rfl,Tryz.call55,On ?_⟩;refine⟨CI,rfl,Aj (hs _ _ J) 0 1 (by simp),53,#[],#[],rfl,uf,(HI (op:=4) (s:=CW) (l:=Af)).callv (first:=[]) (caps:=[]) ⟨_,_,_,_,rfl,?_⟩⟩;intro b H;exact⟨_,_,_,_,_,rfl,_,rfl,_,rfl,Mem.sub_new H _,2,Ff,⟨some ⟨b,0,none⟩,2,2⟩,[.mk 4 0 CW ⟨none,0,0⟩ [],f],⟨none,0,0⟩,[],rfl,by unfold DP;rw[Gt,zH,uz,f2];rfl,.mk (Ab.cells (xs:=[.mk 4 0 CW ⟨none,0,0⟩ [],f]) (row:=E.row) (EZ G hs H _) rfl (λ_=>rfl) rfl (by simp)) (λx J=>by
   rcases yH.1 J with rfl|J;·exact lsEk (by decide)
   ·rw[zR.1 J];exact f3.sub (E0 H _)) Fh (λ_ h=>by simp at h) Fh (λ_ h=>by simp at h) (by decide)⟩
 |19,_,hv=>by
  exact⟨[(3,(FA b1))],λs v h=>.inl (by obtain⟨rfl,rfl⟩:=FY h;rfl),s30o19 (a:=(FA b1)) ⟨_,rfl,(FA b1),rfl,Mem.sub.refl _,rfl⟩⟩
 |20,_,hv=>by
  obtain⟨t,J⟩:=G.x;exact⟨[(1,pv b1)],λs v h=>.inl (by obtain⟨rfl,rfl⟩:=FY h;rfl),s30o20 (a:=some ⟨b1,0,none⟩) ⟨CI,rfl,Aj (hs _ _ J) 0 1 (by simp),_,rfl,CI,rfl,Mem.sub.refl _,rfl⟩⟩
 |21,_,hv=>by
  have h20:val 20=_:=hv 20 (by decide);refine CX (by simp only[Cn,ug,h20]<;>rfl) (s30o21 (a:=CI) ?_);unfold w30o21;exact⟨53,#[],#[],rfl,uf,(HI (op:=4) (s:=DG) (l:=Af)).callv (first:=[]) (caps:=[]) ⟨_,_,_,_,rfl,_,rfl,_,rfl,Mem.sub.refl _,.mk 4 0 DG ⟨none,0,0⟩ [],rfl,rfl,lsEk (by decide)⟩⟩
 |22,_,hv=>by
  have h19:val 19=_:=hv 19 (by decide);obtain⟨t,J⟩:=G.x;obtain⟨f,f1,f2,f3⟩:=hv 21 (by decide);refine CX (by simp only[Cn,ug,h19,f1]<;>rfl) (s30o22 (a:=FA b1) (b:=f.op) (c:=f.n) (d:=f.s) (g:=f.l) ?_);unfold w30o22;refine⟨55,#[],#[pv b1],rfl,Tryz.call55,On ?_⟩;refine⟨CI,rfl,Aj (hs _ _ J) 0 1 (by simp),53,#[],#[],rfl,uf,(HI (op:=4) (s:=CW) (l:=Af)).callv (first:=[]) (caps:=[]) ⟨_,_,_,_,rfl,?_⟩⟩;intro b H;exact⟨_,_,_,_,_,rfl,_,rfl,_,rfl,Mem.sub_new H _,2,Gz,⟨some ⟨b,0,none⟩,2,2⟩,[.mk 4 0 CW ⟨none,0,0⟩ [],f],⟨none,0,0⟩,[],rfl,by unfold DP;rw[Gt,zH,uz,f2];rfl,.mk (Ab.cells (xs:=[.mk 4 0 CW ⟨none,0,0⟩ [],f]) (row:=E.row) (EZ G hs H _) rfl (λ_=>rfl) rfl (by simp)) (λx J=>by
   rcases yH.1 J with rfl|J;·exact lsEk (by decide)
   ·rw[zR.1 J];exact f3.sub (E0 H _)) Fh (λ_ h=>by simp at h) Fh (λ_ h=>by simp at h) (by decide)⟩
 |23,_,hv=>by
  exact⟨[(2,Fz)],λs v h=>.inl (by obtain⟨rfl,rfl⟩:=FY h;rfl),s30o23 (a:=Fz) ⟨_,rfl,Fz,rfl,Mem.sub.refl _,rfl⟩⟩
 |24,_,hv=>by
  obtain⟨t,J⟩:=G.x;exact⟨[(1,pv b1)],λs v h=>.inl (by obtain⟨rfl,rfl⟩:=FY h;rfl),s30o24 (a:=some ⟨b1,0,none⟩) ⟨CI,rfl,Aj (hs _ _ J) 0 1 (by simp),_,rfl,CI,rfl,Mem.sub.refl _,rfl⟩⟩
 |25,_,hv=>by
  have h24:val 24=_:=hv 24 (by decide);refine CX (by simp only[Cn,ug,h24]<;>rfl) (s30o25 (a:=CI) ?_);unfold w30o25;exact⟨53,#[],#[],rfl,uf,(HI (op:=4) (s:=CW) (l:=Af)).callv (first:=[]) (caps:=[]) ⟨_,_,_,_,rfl,_,rfl,_,rfl,Mem.sub.refl _,.mk 4 0 CW ⟨none,0,0⟩ [],rfl,rfl,lsEk (by decide)⟩⟩
 |26,_,hv=>by
  have h23:val 23=_:=hv 23 (by decide);obtain⟨e,I,L,X⟩:=hv 25 (by decide);refine CX (by simp only[Cn,ug,h23,I]<;>rfl) (s30o26 (a:=Fz) (b:=e.op) (c:=e.n) (d:=e.s) (g:=e.l) ?_);unfold w30o26;refine⟨54,#[],#[],rfl,Tryz.call54,Om ?_⟩;intro b H;exact⟨_,_,_,_,_,rfl,_,rfl,_,rfl,Mem.sub_new H _,1,DG,⟨some ⟨b,0,none⟩,1,1⟩,[e],⟨none,0,0⟩,[],rfl,by unfold DP;rw[Gt,uz,L];rfl,.mk (Ab.cells (xs:=[e]) (row:=E.row) (EZ G hs H _) rfl (λ_=>rfl) rfl (by simp)) (λx J=>by rw[zR.1 J];exact X.sub (E0 H _)) Fh (λ_ h=>by simp at h) Fh (λ_ h=>by simp at h) (by decide)⟩
 |27,_,hv=>by
  obtain⟨K,T,U,Z,k0,Y,p0,q0,r0⟩:=hv 14 (by decide);obtain⟨o1,n1,l1,es1,k1,ss1,p1,q1,r1⟩:=hv 18 (by decide);obtain⟨o2,n2,l2,es2,k2,ss2,p2,q2,r2⟩:=hv 22 (by decide);obtain⟨o3,n3,l3,es3,k3,ss3,p3,q3,r3⟩:=hv 26 (by decide);refine CX (by simp only[Cn,ug,p0,p1,p2,p3]<;>rfl) (s30o27 (a:=K) (b:=T) (c:=U) (d:=k0) (g:=⟨none,0,0⟩) (i:=o1) (j:=n1) (k:=l1) (l:=k1) (o:=⟨none,0,0⟩) (p:=o2) (q:=n2) (r:=l2) (s:=k2) (u:=⟨none,0,0⟩) (y:=o3) (z:=n3) (A:=l3) (B:=k3) (C:=⟨none,0,0⟩) ?_);unfold w30o27;intro b H;exact⟨_,rfl,_,rfl,Mem.sub_new H _,⟨some ⟨b,0,none⟩,4,4⟩,[S.mk K T U Z k0 Y ⟨none,0,0⟩ [],S.mk o1 n1 l1 es1 k1 ss1 ⟨none,0,0⟩ [],S.mk o2 n2 l2 es2 k2 ss2 ⟨none,0,0⟩ [],S.mk o3 n3 l3 es3 k3 ss3 ⟨none,0,0⟩ []],rfl,by simp only[zH,List.map_nil,q0,q1,q2,q3];rfl,Ab.cells (xs:=[S.mk K T U Z k0 Y ⟨none,0,0⟩ [],S.mk o1 n1 l1 es1 k1 ss1 ⟨none,0,0⟩ [],S.mk o2 n2 l2 es2 k2 ss2 ⟨none,0,0⟩ [],S.mk o3 n3 l3 es3 k3 ss3 ⟨none,0,0⟩ []]) (row:=S.row) (EZ G hs H _) rfl (λx=>by cases x;rfl) rfl (by simp),λx J=>by
   simp only[yH,xQ,or_false]at J;rcases J with rfl|rfl|rfl|rfl;·exact r0.sub (E0 H _)
   ·exact r1.sub (E0 H _)
   ·exact r2.sub (E0 H _)
   ·exact r3.sub (E0 H _)⟩
 |28,_,hv=>by
  obtain⟨l,W,O⟩:=hv 8 (by decide);obtain⟨m,m1,m2⟩:=hv 10 (by decide);obtain⟨k,ss,k1,k2,k3,k4⟩:=hv 27 (by decide);refine CX (by simp only[Cn,ug,W,m1,k1]<;>rfl) (s30o28 (a:=l) (b:=m) (c:=k) ⟨_,rfl,_,rfl,Mem.sub.refl _,⟨EO,l,[⟨Fy,Am⟩],sE,m,[⟨CW,CS⟩],k,ss⟩,rfl,by unfold pEr;rw[Lm,k2];rfl,⟨O,m2,k3,k4⟩⟩)
 |29,_,hv=>by
  obtain⟨t,J⟩:=G.x;exact⟨[(1,pv b1)],λs v h=>.inl (by obtain⟨rfl,rfl⟩:=FY h;rfl),s30o29 (a:=some ⟨b1,0,none⟩) ⟨CI,rfl,Aj (hs _ _ J) 0 1 (by simp),_,rfl,CI,rfl,Mem.sub.refl _,rfl⟩⟩
 |30,_,hv=>by
  obtain⟨t,J⟩:=G.x;exact⟨[(1,pv b1)],λs v h=>.inl (by obtain⟨rfl,rfl⟩:=FY h;rfl),s30o30 (a:=some ⟨b1,0,none⟩) ⟨CI,rfl,Aj (hs _ _ J) 0 1 (by simp),_,rfl,CI,rfl,Mem.sub.refl _,rfl⟩⟩
 |31,_,hv=>by
  have h30:val 30=_:=hv 30 (by decide);refine CX (by simp only[Cn,ug,h30]<;>rfl) (s30o31 (a:=CI) ?_);unfold w30o31;exact⟨53,#[],#[],rfl,uf,(HI (op:=4) (s:=DG) (l:=Af)).callv (first:=[]) (caps:=[]) ⟨_,_,_,_,rfl,_,rfl,_,rfl,Mem.sub.refl _,.mk 4 0 DG ⟨none,0,0⟩ [],rfl,rfl,lsEk (by decide)⟩⟩
 |32,_,hv=>by
  obtain⟨e,I,L,X⟩:=hv 31 (by decide);refine CX (by simp only[Cn,ug,I]<;>rfl) (s30o32 (a:=e.op) (b:=e.n) (c:=e.s) (d:=e.l) ?_);unfold w30o32;intro b H;exact⟨_,rfl,_,rfl,Mem.sub_new H _,⟨some ⟨b,0,none⟩,1,1⟩,[e],rfl,by rw[uz,L],Ab.cells (xs:=[e]) (row:=E.row) (EZ G hs H _) rfl (λ_=>rfl) rfl (by simp),λx J=>by rw[zR.1 J];exact X.sub (E0 H _)⟩
 |33,_,hv=>by
  have h29:val 29=_:=hv 29 (by decide);obtain⟨l,es,W,O,s3,s4⟩:=hv 32 (by decide);refine CX (by simp only[Cn,ug,h29,W]<;>rfl) (s30o33 (a:=CI) (b:=l) ?_);unfold w30o33;exact⟨53,#[],#[],rfl,uf,(HI (op:=5) (s:=Ff) (l:=l)).callv (first:=[]) (caps:=[]) ⟨_,_,_,_,rfl,_,rfl,_,rfl,Mem.sub.refl _,.mk 5 0 Ff l es,rfl,by unfold Dz;rw[Gt,O];rfl,.mk s3 s4 (by decide) (by decide)⟩⟩
 |34,_,hv=>by
  obtain⟨e,I,L,X⟩:=hv 33 (by decide);refine CX (by simp only[Cn,ug,I]<;>rfl) (s30o34 (a:=e.op) (b:=e.n) (c:=e.s) (d:=e.l) ?_);unfold w30o34;intro b H;exact⟨_,rfl,_,rfl,Mem.sub_new H _,⟨some ⟨b,0,none⟩,1,1⟩,[e],rfl,by rw[uz,L],Ab.cells (xs:=[e]) (row:=E.row) (EZ G hs H _) rfl (λ_=>rfl) rfl (by simp),λx J=>by rw[zR.1 J];exact X.sub (E0 H _)⟩
 |35,_,hv=>by
  obtain⟨l,es,W,O,s3,s4⟩:=hv 34 (by decide);refine CX (by simp only[Cn,ug,W]<;>rfl) (s30o35 (a:=l) ⟨_,rfl,_,rfl,Mem.sub.refl _,5,sE,l,es,⟨none,0,0⟩,[],rfl,by unfold DP;rw[Gt,O];rfl,.mk s3 s4 Fh (λ_ h=>by simp at h) Fh (λ_ h=>by simp at h) (by decide)⟩)
 |36,_,hv=>by
  obtain⟨K,T,U,Z,k0,Y,p0,q0,r0⟩:=hv 35 (by decide);refine CX (by simp only[Cn,ug,p0]<;>rfl) (s30o36 (a:=K) (b:=T) (c:=U) (d:=k0) (g:=⟨none,0,0⟩) ?_);unfold w30o36;intro b H;exact⟨_,rfl,_,rfl,Mem.sub_new H _,⟨some ⟨b,0,none⟩,1,1⟩,[S.mk K T U Z k0 Y ⟨none,0,0⟩ []],rfl,by simp only[zH,List.map_nil,q0];rfl,Ab.cells (xs:=[S.mk K T U Z k0 Y ⟨none,0,0⟩ []]) (row:=S.row) (EZ G hs H _) rfl (λx=>by cases x;rfl) rfl (by simp),λx J=>by
   simp only[yH,xQ,or_false]at J;subst J;·exact r0.sub (E0 H _)⟩
 |37,_,hv=>by
  obtain⟨k,ss,k1,k2,k3,k4⟩:=hv 36 (by decide);refine CX (by simp only[Cn,ug,k1]<;>rfl) (s30o37 (a:=k) ⟨_,rfl,_,rfl,Mem.sub.refl _,⟨DC,⟨none,0,0⟩,[],Am,⟨none,0,0⟩,[],k,ss⟩,rfl,by unfold pEr;rw[Lm,k2];rfl,⟨Fh,Fh,k3,k4⟩⟩)
 |38,_,hv=>by
  obtain⟨p,I,L,X⟩:=hv 28 (by decide);obtain⟨q,f1,f2,f3⟩:=hv 37 (by decide);refine CX (by simp only[Cn,ug,I,f1]<;>rfl) (s30o38 (a:=p.name) (b:=p.ps) (c:=p.result) (d:=p.ls) (g:=p.bs) (i:=q.name) (j:=q.ps) (k:=q.result) (l:=q.ls) (o:=q.bs) ?_);unfold w30o38;intro b H;exact⟨_,rfl,_,rfl,Mem.sub_new H _,⟨some ⟨b,0,none⟩,2,2⟩,p,q,rfl,L,f2,Ab.cells (xs:=[p,q]) (row:=Pr.row) (EZ G hs H _) rfl (λ_=>rfl) rfl (by simp),J9 (E0 H _) X,J9 (E0 H _) f3⟩
 |39,_,hv=>by
  obtain⟨ts,x,t1,t2,t3,t4⟩:=hv 4 (by decide);obtain⟨gs,g1,g2⟩:=hv 6 (by decide);obtain⟨ps,p,q,p1,p2,q2,p3,p4,q4⟩:=hv 38 (by decide);refine CX (by simp only[Cn,ug,t1,g1,p1]<;>rfl) (s30o39 (a:=ts) (b:=gs) (c:=ps) ⟨_,rfl,_,rfl,Mem.sub.refl _,⟨skStack,ts,[x],gs,[⟨DG,CS⟩],ps,[p,q],⟨none,0,0⟩,[],⟨none,0,0⟩,[],⟨none,0,0⟩,[],⟨none,0,0⟩,[]⟩,rfl,⟨?_,rfl,rfl,rfl,rfl⟩,?_⟩)
  ·unfold AA;rw[uz,zH,uz,t2,p2,q2];rfl
  ·exact
   {types:=t3
    typesOk:=λt ht=>by rw[zR.1 ht];exact t4
    globals:=g2
    procs:=p3
    procsOk:=λt ht=>by
     rcases yH.1 ht with rfl|ht;·exact p4
     ·rw[zR.1 ht];exact q4
    measures:=Ab.nil
    measuresOk:=λ_ h=>by simp at h
    invs:=Ab.nil
    invsOk:=λ_ h=>by simp at h
    pots:=Ab.nil
    potsOk:=λ_ h=>by simp at h
    bounds:=Ab.nil
    boundsOk:=λ_ h=>by simp at h}
 |_+40,h,_=>by omega
end
section
variable{V V1:Mem}{b0 b1:Nat}{val:Nat->Value}
noncomputable def skR4:Code:=(flat (Az uh)).getD 4 .skip
theorem stack_flat:flat (Az uh)=c30a++[skR4,.ret]:=by kernel_rfl
theorem skR4_eq:skR4=.region 4 Bs true:=by kernel_rfl
theorem skR4_ok:anyOk Bs 40 5 Cn=true:=by kernel_rfl
theorem skR4_size:(Bs).size=41:=by kernel_rfl
theorem RN{tmps:Array Value}{b:Nat}{d:Ds}{w:World}(k:tmps.getD 0 undef=pv b)(h:w.heap[b]?=some (.cells d.row.toArray 30 (0,0))):(results uh tmps).run xS w=.ok d.v w:=by
 have g:uh.results=#[.cell 0 30]:=by kernel_rfl
 unfold results;rw[g];have e:asAddr (tmps.getD 0 undef)=pure ⟨b,0,none⟩:=by rw[k];rfl
 have f:=Jp (P:=xS) (t:=30) (cs:=.cons (.var .s 0) (.cons (.var .sl 1) (.cons (.var .sl 2) (.cons (.var .sl 3) (.cons (.var .sl 4) (.cons (.var .sl 5) (.cons (.var .sl 6) (.cons (.var .sl 7) .nil)))))))) (x:=.agg (.cons (.var .s 0) (.cons (.var .sl 1) (.cons (.var .sl 2) (.cons (.var .sl 3) (.cons (.var .sl 4) (.cons (.var .sl 5) (.cons (.var .sl 6) (.cons (.var .sl 7) .nil))))))))) (ρ:=d.row) (β:=id) (o:=0) (b:=b) (w:=w) h (by kernel_rfl);simp only[List.mapM_toArray,List.mapM_cons,List.mapM_nil,zN,Sem.run_map,zP,zO,e,show(loadVar 30 ⟨b,0,none⟩).run xS w=.ok d.v w from f];rfl
theorem RO{V:Mem}:Tri xS 30 #[] V λe V'=>V.sub V'/\∃d:Ds,e=.returned d.v/\EK Bp d/\Ds.Ok V' d:=by
 unfold Go.Sx.Tri;intro w T;refine(callsIn_wide (n:=0)).1 (callsIn_of_wp (F:=Ay none) Tryz.func30 (c:=Az uh) (by kernel_rfl) trivial (FQ ?_) rfl);rw[stack_flat];have U:AI xS 45 c30a [] [0,1,2,3] V λvs V1=>∃b0 b1,vs=[pv b0,pv b1,Fz,FA b1]/\NC V1 b0 b1/\V.sub V1/\V b0=none/\∃c,c.size=8/\V1 b0=some (.cells c 30 (0,0)):=by
  refine s30a ?_;unfold w30a;intro b0 f b1 J;refine⟨_,rfl,b0,b1,rfl,?_⟩;have s0:=Mem.sub_new f (.cells #[uS (Ad []),.slice none 0 0,.slice none 0 0,.slice none 0 0,.slice none 0 0,.slice none 0 0,.slice none 0 0,.slice none 0 0] 30 (0,0));have E:=Mem.sub_new J (.cells #[CI] 132 (0,0));have K:=E _ _ (Mem.set_same V b0 (.cells #[uS (Ad []),.slice none 0 0,.slice none 0 0,.slice none 0 0,.slice none 0 0,.slice none 0 0,.slice none 0 0,.slice none 0 0] 30 (0,0)));exact⟨⟨⟨_,K⟩,132,Mem.set_same _ _ _⟩,s0.trans E,f,_,rfl,K⟩
 refine U.step T ⟨by simp,λs v h=>by cases h⟩ ?_;rintro a1 w1 vs V1 G Z ⟨b0,b1,rfl,hB,Y,f,c,S,W⟩ y;show wx (Ay none) 0 xS skR4 _ a1 w1;rw[skR4_eq];refine wpIn_region_any (by kernel_rfl) ?_;rw[skR4_size];refine anyR_sound (M:=40) (k0:=5) (N:=45) (deps:=Cn) (Pr:=λi v A=>Je b1 (Fg b0 A) i v) (Φ:=λV'=>V.sub V'/\∃d:Ds,EK Bp d/\Ds.Ok V' d/\V' b0=some (.cells d.row.toArray 30 (0,0))) (V:=V1) (base:=skBase b0 b1) (a0:=a1) (w0:=w1) skR4_ok (λi v A B h=>skQ_mono (lsO_sub h) i v) (λs v h=>?_) (by decide)
  (λi O A u val hv=>skStep hB u i O hv) (λA u val hv=>?_) (λa' w' V' I L X H=>?_) 41 _ _ _ (by simp) ?_ (.inl ⟨V1,Mem.sub.refl _,⟨yq _,y.le,λ_ _ _=>rfl,λ_ h=>.inl h,rfl,rfl⟩,rfl,Z,by simp,λi O h=>?_,λi O h=>?_⟩)
 ·grind[skBase]
 ·obtain⟨d,d1,d2,d3⟩:Jd (val 39) (Fg b0 A):=hv 39 (by simp[Cn]);refine⟨[(0,pv b0),(44,d.v)],λs v h=>?_,s30o40 (a:=some ⟨b0,0,none⟩) (b:=d.name) (c:=d.ts) (d:=d.gs) (g:=d.ps) (i:=d.ms) (j:=d.is) (k:=d.qs) (l:=d.bs) ?_⟩
  ·rw[z7]at h;split at h;·rename_i e;simp only[beq_iff_eq]at e;subst e;cases h;exact .inl rfl
   ·obtain⟨rfl,rfl⟩:=FY h;exact .inr ⟨39,by simp[Cn],rfl,d1.symm⟩
  ·unfold w30o40;have C:=u _ _ W;refine Ak.at_ C (by simp[S]) ⟨_,rfl,(Y.trans u).set f _,d,d2,d3.sub λx o hx=>?_,?_⟩
   ·by_cases e:x=b0;·grind[lsO_no]
    ·rw[Mem.set_ne e];exact lsO_le _ _ hx
   ·rw[Mem.set_same];have:c.toList.drop (0+8)=[]:=List.drop_eq_nil_of_le (by simp[S]);show some (Obj.cells (c.toList.take 0++d.row++c.toList.drop (0+8)).toArray _ _)=_;rw[this];simp
 ·obtain⟨h1,d,h2,h3,h4⟩:=X;show wx (Ay none) 0 xS .ret _ a' w';refine wpIn_ret ?_;exact⟨I.trans G,d.v,RN (L.get rfl) (H.le _ _ h4),V',⟨h1,d,rfl,h2,h3⟩,y.trans H⟩
 ·have h2:=List.length_filter_le (λi=>!(wZ 41 false).getD i true) (zB (40+1));rw[List.length_range]at h2;exact h2
 ·have hf:(wZ 41 false).getD i false=false:=by simp[yZ]
  simp_all
 ·have hf:(wZ 41 false).getD i false=false:=by simp[yZ]
  simp_all
end
end Go.Proofs
namespace Go.Proofs
open Go Go.Sx
section
variable{d d':Ds}{m:Mm}
theorem nodeTgt_same(h:∀t,AL d' t=AL d t)(n:Int):nodeTgt d' m n=nodeTgt d m n:=by
 simp_all[nodeTgt]
theorem ND(h:∀t,AL d' t=AL d t):∀f,A4 d' m f=A4 d m f
 |0=>by funext st n;rw[A4,A4]
 |f+1=>by
  funext st n;rw[A4,A4,nodeTgt_same h,ND h f]
theorem canP_same(h:∀t,AL d' t=AL d t)(k:d'.globals=d.globals)(m:Mm):C3 d' m=C3 d m:=by
 have g:AX d' m=AX d m:=by
  grind[AX,GY,ND]
 simp_all[C3]
variable(SD:EK d d')
include SD
theorem Ka:d'.globals=d.globals:=(congrArg Ds.globals SD.er).symm
theorem sd_can(m:Mm):C3 d' m=C3 d m:=canP_same SD.fields (Ka SD) m
theorem sd_uni(x y:Mm):uniP d' x y=uniP d x y/\uniR d' x y=uniR d x y:=by
 unfold uniP uniR partP;rw[sd_can SD];simp only[SD.fields,and_self]
theorem sd_pr(nm:KB):(DA d' nm).params=(DA d nm).params/\(DA d' nm).result=(DA d nm).result:=by
 unfold DA;rw[SD.idx];have h:d.procs.map pEr=d'.procs.map pEr:=congrArg Ds.procs SD.er;have h2:(d.procs[(AV d nm).toNat]?).map pEr=(d'.procs[(AV d nm).toNat]?).map pEr:=by rw[<-xI,<-xI,h]
 cases k:d.procs[(AV d nm).toNat]? with
 |none=>
  grind
 |some p=>
  cases g:d'.procs[(AV d nm).toNat]? with
  |none=>simp_all
  |some q=>
   rw[k,g]at h2;have h3:pEr p=pEr q:=Option.some.inj h2;exact⟨(congrArg Pr.params h3).symm,(congrArg Pr.result h3).symm⟩
theorem sd_stE(F:Int)(ps:List PV)(x:Sp):Nm d' F ps x=Nm d F ps x:=by
 obtain⟨h1,h2⟩:=sd_pr SD x.nm;have h:entB (DA d' x.nm)=entB (DA d x.nm):=by grind[entB]
 have k:mldB d' (DA d' x.nm)=mldB d (DA d x.nm):=by grind[mldB,Ka]
 unfold Nm Pa CR;rw[h,k,SD.idx,SD.cll,(sd_uni SD _ _).1]
end
end Go.Proofs
namespace Go.Proofs
open Go Go.Sx
section
variable{d d':Ds}(SD:EK d d')
include SD
theorem sd_psE(F:Int)(s:PsS)(v:Int)(nm:KB)(args:List Int):AH d' F s v nm args=AH d F s v nm args:=sd_stE SD F (s.vs.map PsV.pv) ⟨false,v,0,nm,Af,args⟩
theorem sd_psR(F:Nat)(s:PsS)(v:Int)(nm:KB)(args:List Int):AZ d' F s v nm args=AZ d F s v nm args:=by
 unfold AZ;rw[SD.idx,SD.play]
theorem sd_reach(m:Mm):AX d' m=AX d m:=by
 have h1:=λf=>ND (m:=m) SD.fields f;have h2:=Ka SD;have h3:=SD.fields;grind[AX,GY]
theorem sd_psNext(s:PsS)(v:Int)(r:Rx Int)(er:Int):CL d' s v r er=CL d s v r er:=by
 unfold CL G5 Fx;rw[sd_can SD,sd_reach SD]
theorem sd_ps0:Eg d'=Eg d:=by
 unfold Eg BM;rw[Ka SD]
end
def skDo(s:PsS)(v k:Int):PsS:=CL Bp s v (AZ Bp 100 s v EO [k]) (AH Bp 100 s v EO [k])
def sk_0:PsS:=Eg Bp
def sk_1:PsS:=skDo sk_0 0 5
def sk_2:PsS:=skDo sk_1 1 7
def B5:PsS:=skDo sk_2 1 9
theorem sk_valid:Bv Bp=true:=by kernel_rfl
theorem sk_chk:Ct Bp=none:=by kernel_rfl
theorem sk_mem:BY Bp (BM Bp Af)=true:=by kernel_rfl
theorem sk_good:Ar Bp (BM Bp Af):=⟨sk_valid,sk_chk,sk_mem⟩
theorem sk_c1:(AH Bp 100 sk_0 0 EO [5],CV (AZ Bp 100 sk_0 0 EO [5]),sk_1.vs.length)=(0,0,2):=by kernel_rfl
theorem sk_c2:(AH Bp 100 sk_1 1 EO [7],CV (AZ Bp 100 sk_1 1 EO [7]),sk_2.vs.length)=(0,0,3):=by kernel_rfl
theorem sk_c3:(AH Bp 100 sk_2 1 EO [9],CV (AZ Bp 100 sk_2 1 EO [9]),B5.vs.length)=(0,0,4):=by kernel_rfl
theorem sk_p1:(AH Bp 100 B5 1 DC [],CV (AZ Bp 100 B5 1 DC []),outV (AZ Bp 100 B5 1 DC []))=(0,0,5):=by kernel_rfl
theorem sk_p2:(AH Bp 100 B5 2 DC [],CV (AZ Bp 100 B5 2 DC []),outV (AZ Bp 100 B5 2 DC []))=(0,0,7):=by kernel_rfl
theorem sk_p3:(AH Bp 100 B5 3 DC [],CV (AZ Bp 100 B5 3 DC []),outV (AZ Bp 100 B5 3 DC []))=(0,0,9):=by kernel_rfl
theorem sk_sh:(B5.n,Dm (Bo B5 2) (Bo B5 3))=(3,1):=by kernel_rfl
end Go.Proofs
namespace Go.Proofs
open Go Go.Sx
attribute [local irreducible] Go.Sx.Tri
section
variable{V:Mem}{d:Ds}{l cl:Sl}{xs:List Sq}{nm:KB}{args:List Int}{v a b F:Int}
theorem NF{s:KB}{l:Sl}:Tri xS 19 #[.agg #[.string s,l.v]] V (RY V):=by
 refine Tri.mono (PU (R:=RY V) ?_) λ_ _ h=>h;exact⟨λ_=>⟨rfl,_,rfl⟩,λ_=>⟨rfl,_,rfl⟩⟩
theorem RQ{x:Sq}:Tri xS 33 #[.agg #[.int .i64 x.ver,.string x.nm,x.sl.v]] V (RY V):=by
 refine Tri.mono (P5 (R:=RY V) ?_) λ_ _ h=>h;refine Tri.mono NF ?_;rintro _ _ ⟨rfl,b,rfl⟩;exact⟨b,rfl,rfl,_,rfl⟩
theorem step3Any(h:Fe V l xs):Tri xS 32 #[l.v,.func (.func 33) #[] #[]] V (RY V):=by
 refine P3 (a:=l) (b:=.func (.func 33) #[] #[]) ?_;refine Tri.mono (Qn (a:=l) (b:=.func (.func 33) #[] #[]) (R:=λe V'=>V=V'/\∃r:Int,e=.returned (.int .i64 r)) ?_) ?_
 ·refine AE (mk:=.int .i64) (b0:=0) xs.length (λi V1=>V=V1) rfl ?_;rintro i b V1 J H rfl u;refine⟨λk=>?_,λ_=>⟨rfl,_,rfl⟩⟩;obtain⟨x,y,G,-,f,j,c,g⟩:=h.rows.get k;refine⟨j,c,k,_,_,_,g,33,#[],#[],rfl,Tryz.call33,Tri.mono (RQ (x:=x)) ?_⟩;rintro _ _ ⟨rfl,b,rfl⟩;exact⟨b,rfl,λ_=>⟨rfl,_,rfl⟩,λ_=>⟨h.rows.succ k,u f _ _ rfl⟩⟩
 ·rintro _ _ ⟨rfl,r,rfl⟩;exact⟨_,rfl,rfl,_,rfl⟩
theorem c9(f:Ds.Ok V d)(g:Fe V l xs):Tri xS 9 #[d.v,l.v] V λe V'=>V=V'/\∃b,e=.returned (.bool b)/\(b=false->xs.length<=12):=by
 refine x9 ?_;have u:=g.rows.n_eq;refine Tri.mono (greatC f) ?_;rintro _ _ ⟨rfl,b,rfl⟩;refine⟨_,rfl,λ_=>⟨rfl,true,rfl,λh=>by cases h⟩,λ_=>⟨λ_=>⟨rfl,true,rfl,λh=>by cases h⟩,λk=>?_⟩⟩;have k:¬(12:Int)<(l.n:Int):=k;refine Tri.mono (step3Any g) ?_;rintro _ _ ⟨rfl,b,rfl⟩;grind
end
section
variable{V:Mem}{d:Ds}{l:Sl}{xs:List Sq}{a b:Int}
theorem G6{s:PsS}(h:Bm s a)(k:Bm s b):(if Bm s a/\Bm s b then(Dm (Bo s a) (Bo s b):Int)else 0)=Dm (Bo s a) (Bo s b)/\(if Bm s a/\Bm s b then(0:Int)else 24)=0:=⟨if_pos ⟨h,k⟩,if_pos ⟨h,k⟩⟩
end
end Go.Proofs
namespace Go.Proofs
open Go Go.Sx
set_option maxRecDepth 100000
/- heartwood/heartwoodlaw36.awake, piece a -/
/- BAD [(60, 0)] -/
noncomputable def NG:List Code:=((AU (Az ue) []).drop 0).take 4
def Pq(V:Mem)(R:RP):Prop:=TT 30 #[] V λe V1=>∃a b c d g i j k,e=rV (uA #[uS a,uL b,uL c,uL d,uL g,uL i,uL j,uL k])/\TT 29 #[uA #[uS a,uL b,uL c,uL d,uL g,uL i,uL j,uL k]] V1 λe V2=>∃l o,e=rT #[uP l,uI o]/\Br (o=0) (Br (l=none) (False) (R (rT #[uB false,uP l]) V2)) (False)
theorem RR{V:Mem}{R:KZ}(h:Pq V (OV R)):AI xS 105 NG [] [0,1] V R:=
 Cm (H:={N:=0,early:=[],loops:=[],keep:=zB 105}) [] [] rfl (by kernel_rfl) h
/- heartwood/heartwoodlaw36.awake, piece b -/
/- BAD [(60, 0)] -/
noncomputable def NH:List Code:=((AU (Az ue) []).drop 4).take 2
def Ps(a:Bool)(b:Option Addr)(V:Mem)(R:RP):Prop:=Ag [uI 0,uI 5,uI 1,uI 7,uI 1,uI 9] 90 V λc V1=>∃(I:Nat->KZ)(y:Nat),I y [uB a,uI 0] V1/\∀n V2,∀d g,I n [uB d,uI g] V2->∀f:KZ,(∀m ys h,m<n->I m ys h->f ys h)->Br (g<3) (¬(Aa c 0)=none/\0<=g/\g<3/\∃i j,V2.rowp (Aa c 0) (g.toNat*2) 2=some [uI i,uI j]/\Ag [uI j] 3 V2 λk H=>TT 26 #[uP b,uI i,uA #[uS (Ad [112,117,115,104]),.slice (Aa k 0) (1:Int).toNat (1:Int).toNat],uI 100] H λe J=>∃l o p q r s u,e=rT #[uI l,uA #[uI o,uI p,uI q,uI r,uI s],uI u]/\IR (g+1)/\Br (l=(g+1)) (Br (o=0) (Br (u=0) (IR (g+1)/\f [uB d,uI (g+1)] J) (False)) (False)) (False)) (R (rT #[uB d,uP b]) V2)
theorem RS{a:Bool}{b:Option Addr}{V:Mem}{R:KZ}(h:Ps a b V (OV R)):AI xS 105 NH [(0,uB a),(1,uP b)] [0,1] V R:=
 Cm (H:={N:=0,early:=[28],loops:=[],keep:=zB 105}) [(0,(.var .b 0)),(1,(.var .p 1))] [uB a,uP b] rfl (by kernel_rfl) h
/- heartwood/heartwoodlaw36.awake, piece c -/
/- BAD [(60, 0)] -/
noncomputable def c8c:List Code:=((AU (Az ue) [7,0,0,0,2,0]).drop 1).take 3
def Pt(a:Bool)(b:Option Addr)(c d:Int)(g:Option Addr)(V:Mem)(R:RP):Prop:=TT 20 #[uP b,uI c,uA #[uS (Ad [116,111,112]),.slice none 0 0],uI 100] V λe V1=>∃i j k l o p,e=rT #[uA #[uI i,uI j,uI k,uI l,uI o],uI p]/\Br (p=0) (Br (i=0) (Br (j=d) (R (rT #[uB a,uP b,uP g]) V1) (False)) (False)) (False)
theorem RT{a:Bool}{b:Option Addr}{c d:Int}{g:Option Addr}{V:Mem}{R:KZ}(h:Pt a b c d g V (OV R)):AI xS 105 c8c [(0,uB a),(1,uP b),(8,uI c),(9,uI d),(63,uP g)] [0,1,63] V R:=
 Cm (H:={N:=0,early:=[],loops:=[],keep:=zB 105}) [(0,(.var .b 0)),(1,(.var .p 1)),(8,(.var (.i .i64) 2)),(9,(.var (.i .i64) 3)),(63,(.var .p 4))] [uB a,uP b,uI c,uI d,uP g] rfl (by kernel_rfl) h
/- heartwood/heartwoodlaw36.awake, piece d -/
noncomputable def LD:List Code:=((AU (Az ue) []).drop 8).take 2
def Pu(a:Option Addr)(V:Mem)(R:RP):Prop:=TT 13 #[uP a,uI 2,uI 3] V λe V1=>∃b c,e=rT #[uI b,uI c]/\Br (c=0) (Br (b=1) (TT 14 #[uP a] V1 λe V2=>∃d,e=rV (uI d)/\R (rT #[uB (decide (d=3))]) V2) (R (rT #[uB false]) V1)) (R (rT #[uB false]) V1)
theorem RU{a:Option Addr}{V:Mem}{R:KZ}(h:Pu a V (OV R)):AI xS 105 LD [(1,uP a)] [0] V R:=
 Cm (H:={N:=0,early:=[],loops:=[],keep:=zB 105}) [(1,(.var .p 0))] [uP a] rfl (by kernel_rfl) h
/- heartwood/heartwoodlaw36.awake, piece e -/
noncomputable def Kb:Array Oper:=DF ((AU (Az ue) []).getD 6 .skip)
def Pv(a:Bool)(b:Option Addr)(V:Mem)(R:RP):Prop:=GenK xS (.makeMap 92 none) 92 (gv []) V λx V1=>∃c,x=uM c/\Cr xS 92 (uM c) (.int .i64 1) (.int .i64 5) V1 λV2=>Cr xS 92 (uM c) (.int .i64 2) (.int .i64 7) V2 λh=>Cr xS 92 (uM c) (.int .i64 3) (.int .i64 9) h λk=>R (rT #[uB a,uP b,uM c]) k
theorem RW{a:Bool}{b:Option Addr}{V:Mem}{R:KZ}(h:Pv a b V (OV R)):AS xS 105 Kb 0 5 [(0,uB a),(1,uP b)] [0,1,62] V R:=
 Bl (H:={N:=0,early:=[],loops:=[],keep:=zB 105}) [(0,(.var .b 0)),(1,(.var .p 1))] [uB a,uP b] rfl (by kernel_rfl) h
end Go.Proofs
namespace Go.Proofs
open Go Go.Sx
attribute [local irreducible] Go.Sx.Tri
section
variable{V D:Mem}{p:Nat}{d:Ds}
theorem sk_new(SD:EK Bp d):BM d Af=BM Bp Af:=by
 unfold BM;rw[Ka SD]
theorem RX[Tab V]:AI xS 105 NG [] [0,1] V λvs V1=>∃d p D,vs=[.bool false,pv p]/\EK Bp d/\Ds.Ok D d/\V.sub D/\BI D V1 p d sk_0:=by
 refine RR ?_;unfold Pq;refine Tri.mono RO ?_;rintro _ V1 ⟨k,d,rfl,SD,g⟩;haveI:Tab V1:=Tab.sub (V:=V) inferInstance k;refine⟨_,_,_,_,_,_,_,_,rfl,Tri.mono (Pg g) ?_⟩;have u:Ar d (BM d Af):=by rw[sk_new SD];exact Ar.same sk_good SD
 rintro _ V2 ⟨j,⟨y,-⟩|⟨G,p,D,rfl,f,A⟩⟩;·exact absurd u y
 rw[sd_ps0 SD]at A;exact⟨_,_,rfl,λ_=>⟨λh=>absurd h nn,λ_=>⟨_,rfl,d,p,D,rfl,SD,g.sub f,k.trans f,A⟩⟩,λh=>absurd rfl h⟩
theorem RZ(A:BI D V p d B5)(k:Ds.Ok D d):AI xS 105 LD [(1,pv p)] [0] V λvs V'=>vs=[.bool true]/\V.sub V':=by
 refine RU (a:=some ⟨p,0,none⟩) ?_;unfold Pu;have f:B5.vs.length=4:=congrArg (λx=>x.2.2) sk_c3;have u:B5.n=3:=congrArg ud sk_sh;have hs:Dm (Bo B5 2) (Bo B5 3)=1:=congrArg Prod.snd sk_sh;refine Tri.mono (Jb (a:=2) (b:=3) A k (by omega)) ?_;rintro _ V1 ⟨g,rfl⟩;have h2:Bm B5 2:=⟨by omega,by omega⟩;have h3:Bm B5 3:=⟨by omega,by omega⟩;rw[(G6 h2 h3).1,(G6 h2 h3).2,hs];refine⟨_,_,rfl,λ_=>⟨λ_=>(NA (A.grow g)).call ⟨_,rfl,?_⟩,λh=>absurd rfl h⟩,λh=>absurd rfl h⟩;rw[u];exact⟨_,rfl,rfl,g⟩
def skS_:Nat->PsS
 |0=>sk_0
 |1=>sk_1
 |2=>sk_2
 |_=>B5
def LF:List (Int×Int):=[(0,5),(1,7),(1,9)]
theorem sk_step(j:Nat)(h:j<3):∃x:Int×Int,LF[j]?=some x/\AH Bp 100 (skS_ j) x.1 EO [x.2]=0/\CV (AZ Bp (100:Int).toNat (skS_ j) x.1 EO [x.2])=0/\CL Bp (skS_ j) x.1 (AZ Bp (100:Int).toNat (skS_ j) x.1 EO [x.2]) (AH Bp 100 (skS_ j) x.1 EO [x.2])=skS_ (j+1)/\(skS_ j).vs.length=j+1:=by
 match j,h with
 |0,_=>exact⟨_,rfl,congrArg ud sk_c1,congrArg (λx=>x.2.1) sk_c1,rfl,rfl⟩
 |1,_=>exact⟨_,rfl,congrArg ud sk_c2,congrArg (λx=>x.2.1) sk_c2,rfl,congrArg (λx=>x.2.2) sk_c1⟩
 |2,_=>exact⟨_,rfl,congrArg ud sk_c3,congrArg (λx=>x.2.1) sk_c3,rfl,congrArg (λx=>x.2.2) sk_c2⟩
theorem BI.pub{s:PsS}(h:BI D V p d s){b:Nat}(k:V b=none)(o:Obj):BI (D.set b o) (V.set b o) p d s/\D.sub (D.set b o):=by
 obtain⟨q,vl,gl,nl,tr,gs,ns,H⟩:=h;have g:=Mem.sub_new (Cz H.bs.sub k) o;exact⟨⟨q,vl,gl,nl,tr,gs,ns,H.more g (H.bs.pub k o)⟩,g⟩
def skRow(x:Int×Int):List Value:=[.int .i64 x.1,.int .i64 x.2]
theorem R0[Tab D](A:BI D V p d sk_0)(SD:EK Bp d)(hd:Ds.Ok D d):AI xS 105 NH [(0,.bool false),(1,pv p)] [0,1] V λvs V'=>∃b u,vs=[.bool b,pv p]/\D.sub u/\BI u V' p d B5:=by
 refine RS (a:=false) (b:=some ⟨p,0,none⟩) ?_;unfold Ps;intro b hb;obtain⟨X,g⟩:=A.pub hb (.cells #[.int .i64 0,.int .i64 5,.int .i64 1,.int .i64 7,.int .i64 1,.int .i64 9] 90 (0,0));have C:Ab (D.set b (.cells #[.int .i64 0,.int .i64 5,.int .i64 1,.int .i64 7,.int .i64 1,.int .i64 9] 90 (0,0))) ⟨some ⟨b,0,none⟩,3,3⟩ 2 (LF.map skRow):=Ab.cells (xs:=LF) (row:=skRow) Au rfl (λ_=>rfl) rfl (by simp[LF]);obtain⟨H,G⟩:∃H,H=D.set b (.cells #[.int .i64 0,.int .i64 5,.int .i64 1,.int .i64 7,.int .i64 1,.int .i64 9] 90 (0,0)):=⟨_,rfl⟩;rw[<-G]at X g C;refine AE (mk:=.bool) (b0:=false) 3 (λj U=>∃u,H.sub u/\BI u U p d (skS_ j)) ⟨H,Mem.sub.refl _,X⟩ ?_;rintro j bb U J hj ⟨Z,k,Y⟩ hJ;refine⟨λf=>?_,λy=>?_⟩
 ·have f:(j:Int)<3:=f;obtain⟨x,hx,e1,E,e3,e4⟩:=sk_step j (by omega);obtain⟨z,-,K,-,-,hp1,W,c⟩:=(C.sub (k.trans Y.sub)).get (i:=j) (show(j:Int)<((3:Nat):Int)by omega);rw[hx]at K;cases K;refine⟨nn,W,f,x.1,x.2,c,λO I=>?_⟩;obtain⟨A5,e⟩:=Y.pub I (.cells #[.int .i64 x.2] 3 (0,0));have S:=g.trans (k.trans e);haveI:Tab (Z.set O (.cells #[.int .i64 x.2] 3 (0,0))):=Tab.sub (V:=D) inferInstance S;refine Tri.mono (Nw (F:=100) (v:=x.1) (nm:=EO) (l:=⟨some ⟨O,0,none⟩,1,1⟩) (args:=[x.2]) A5 (hd.sub S) (one_at (V:=Z) (b:=O) x.2) (.inl (by decide)) (by omega)) ?_;rintro _ U2 ⟨D6,L,T,rfl⟩;rw[sd_psE SD,sd_psR SD,sd_psNext SD,e3]at T;rw[sd_psE SD,sd_psR SD,e1];unfold resV;rw[if_pos rfl,if_pos E,E];exact⟨_,_,_,_,_,_,_,rfl,⟨by omega,by omega⟩,λ_=>⟨λ_=>⟨λ_=>⟨⟨by omega,by omega⟩,hJ (by omega) _ _ ⟨D6,k.trans (e.trans L),T⟩⟩,λh=>absurd rfl h⟩,λh=>absurd rfl h⟩,λh=>absurd (show(((skS_ j).vs.length:Nat):Int)=(j:Int)+1 by omega) h⟩
 ·have y:¬(j:Int)<3:=y;obtain rfl:j=3:=by omega
  exact⟨_,rfl,bb,Z,rfl,g.trans k,Y⟩
end
section
variable{V D:Mem}{p:Nat}{d:Ds}{s s':PsS}{v F:Int}{nm:KB}{args:List Int}{cl:Sl}
section
variable{q:Nat}{vl gl nl:Sl}{tr:List Tv}{g2:List Gl}{n2:List Nn}
theorem peekB[Tab D](H:Fc D V p q d vl gl nl tr g2 n2 s)(J:Ds.Ok D d)(G:Ab D cl 1 (args.map Ah))(Z:F<=4000∨1048576<F)(h:s.vs.length<=900):
  Tri xS 20 #[pv p,.int .i64 v,.agg #[.string nm,cl.v],.int .i64 F] V λe V'=>∃k,D.sub k/\Bi k V' (At p q d vl gl nl s.wr vl tr gl g2 nl n2 n2)/\e=.returned (.tuple #[Dn (AH d F s v nm args) (AZ d F.toNat s v nm args),.int .i64 (AH d F s v nm args)]):=by
 obtain⟨R,f⟩:∃R:Ending->Mem->Prop,R=λe V'=>∃k,D.sub k/\Bi k V' (At p q d vl gl nl s.wr vl tr gl g2 nl n2 n2)/\e=.returned (.tuple #[Dn (AH d F s v nm args) (AZ d F.toNat s v nm args),.int .i64 (AH d F s v nm args)]):=⟨_,rfl⟩;rw[<-f];refine Mh ?_;refine Tri.mono (Nv H J G Z h) ?_;rintro _ V1 ⟨j,g,c,⟨u,rfl⟩|⟨u,vb,mb,gsl,nsl,isl,ll,m,y,r,Y,-,-,-,-,-,-,-,-,rfl⟩⟩
 ·refine⟨none,0,0,0,0,0,Af,Af,Af,_,rfl,?_⟩;rw[f];exact⟨j,g,c,by unfold Dn;rw[if_neg u];rfl⟩
 ·refine⟨_,_,_,_,_,_,_,_,_,_,rfl,?_⟩;rw[f];exact⟨j,g,c,by unfold Dn;rw[u,if_pos rfl,<-Y];rfl⟩
end
end
theorem Bi.poke{D V:Mem}{Q:Mem->Mem->Prop}(h:Bi D V Q){b:Nat}(u:D b≠none)(o:Obj):Bi (D.set b o) (V.set b o) Q:=by
 obtain⟨M,f,y,g⟩:=h;have ne:∀c,M c->c≠b:=λc k e=>g b u (e▸k);refine⟨M,f.keep λc j hm k=>by rw[Mem.set_ne (ne c hm)];exact k,λc j k=>?_,λc k hm=>?_⟩
 ·by_cases e:c=b
  ·subst e;rw[Mem.set_same]at k⊢;exact k
  ·rw[Mem.set_ne e]at k⊢;exact y _ _ k
 ·rw[Mem.set_ne (ne c hm)]at k;exact g c k hm
section
variable{V D:Mem}{p q:Nat}{d:Ds}{vl gl nl:Sl}{tr:List Tv}{g2:List Gl}{n2:List Nn}
theorem akC'[Tab D](H:Fc D V p q d vl gl nl tr g2 n2 B5)(SD:EK Bp d)(u:Ds.Ok D d){b0:Bool}{v x:Int}{it:Option Addr}(hv:(AH Bp 100 B5 v DC [],CV (AZ Bp 100 B5 v DC []),outV (AZ Bp 100 B5 v DC []))=(0,0,x)):AI xS 105 c8c [(0,.bool b0),(1,pv p),(8,.int .i64 v),(9,.int .i64 x),(63,.pointer it)] [0,1,63] V λvs V'=>vs=[.bool b0,pv p,.pointer it]/\∃f,D.sub f/\Bi f V' (At p q d vl gl nl B5.wr vl tr gl g2 nl n2 n2):=by
 refine RT (a:=b0) (b:=some ⟨p,0,none⟩) (c:=v) (d:=x) (g:=it) ?_;unfold Pt;have Z:B5.vs.length=4:=congrArg (λx=>x.2.2) sk_c3;refine Tri.mono (peekB (v:=v) (nm:=DC) (cl:=Af) (args:=[]) (F:=100) H u Ab.nil (.inl (by decide)) (by omega)) ?_;rintro _ V1 ⟨y,k,j,rfl⟩;have e:AH Bp 100 B5 v DC []=0:=congrArg ud hv;have J:CV (AZ Bp 100 B5 v DC [])=0:=congrArg (λx=>x.2.1) hv;have G:outV (AZ Bp 100 B5 v DC [])=x:=congrArg (λx=>x.2.2) hv;rw[sd_psE SD,sd_psR SD,e,show(100:Int).toNat=100 from rfl];unfold Dn;rw[if_pos rfl,J,G];exact⟨_,_,_,_,_,_,rfl,λ_=>⟨λ_=>⟨λ_=>⟨_,rfl,rfl,y,k,j⟩,λh=>absurd rfl h⟩,λh=>absurd rfl h⟩,λh=>absurd rfl h⟩
end
end Go.Proofs
namespace Go.Sx
open Go Go.ChangeMaps
section
variable{P:Program}
open Classical in
theorem Cr.push{α:Type}{enc:α->Value}{t kt g:TypeId}{V:Mem}{b c:Nat}(K:KeyOf P kt enc)(f:P.underlying t=some (.map kt g)){es:Array MapEntry}(h1:V b=some (.map es c))(h2:∀e∈es.toList,∃a,e.key=enc a){k:α}(j:∀e∈es.toList,e.key≠enc k){val:Value}{q:Mem->Prop}(u:q (V.set b (.map (es.push {key:=enc k,val:=val,born:=c}) (c+1)))):Cr P t (.map (some b)) (enc k) val V q:=by
 intro w hw;have y:es.toList.findIdx? (λe=>decide (e.key=enc k))=none:=by
  simp_all
 have h:(yf t (.map (some b)) (enc k) val).run P w=(setObj b (.map (es.push {key:=enc k,val:=val,born:=c}) (c+1))).run P w:=by
  unfold yf;simp only[zN,run_underlying f,zO,MapKept.run_getObj_map (hw _ _ h1),K.check,K.find k _ w h2,y];rfl
 exact⟨_,_,h.trans (MapKept.run_setObj_map _ (hw _ _ h1)),As.put hw h1,u⟩
theorem one_op{ops:Array Oper}{i:Nat}{o:Oper}{rest:List Nat}{r:Option Nat}{n:Nat}{Q:Exit->Act->World->Prop}{a:Act}{w w1:World}{x:Value}(g:ops[i]?=some o)(f:o.guard=none)(u:∀c,o.op≠.defer c)(k:(execOp a.eval o).run P w=.ok (.value x) w1)(h:wpOpsIn (Ay r) n P ops Q rest (a.put o.dst x) w1):wpOpsIn (Ay r) n P ops Q (i::rest) a w:=by
 rw[wpOpsIn_cons];unfold wpOpIn;simp only[g];rw[if_pos (by simp[Region.wanted,f])];refine⟨λ_ _=>trivial,?_⟩;rw[Oper.semAt_eq _ _ _ u,k];exact h
theorem Has.put{N:Nat}{a:Act}{l:List (Nat×Value)}(h:Has N a l){d:Nat}(g:d<N)(x:Value):Has N (a.put (some d) x) ((d,x)::l):=by
 have h1:=h.1;refine⟨by simp[ui,h1],λs v hs=>?_⟩;rw[z7]at hs;split at hs;·simp_all[beq_iff_eq,ui,w8]
 ·rename_i e;have k:s≠d:=by simpa using e
  rw[<-h.2 s v hs];simp[ui,w8,w9 (vA k)]
theorem lookup_in{l:List (Nat×Value)}{s:Nat}{v:Value}(h:l.lookup s=some v):(s,v)∈l:=by
 induction l with
 |nil=>cases h
 |cons x l k=>
  grind
theorem Has.weak{N:Nat}{a:Act}{l k:List (Nat×Value)}(h:Has N a l)(e:(k.map λx=>l.lookup x.1)=k.map λx=>some x.2):Has N a k:=
 ⟨h.1,λs v hs=>h.2 s v (List.map_inj_left.1 e _ (lookup_in hs))⟩
def FB(x:Array Oper)(i:Nat):Option (Option (Nat×Bool)×Op×Option Nat):=(x[i]?).map λo=>(o.guard,o.op,o.dst)
section
variable{ops:Array Oper}{i d N n:Nat}{rest:List Nat}{r:Option Nat}{Q:Exit->Act->World->Prop}{a:Act}{w w1:World}{x:Value}{p:Op}{l:List (Nat×Value)}
theorem Jf(g:FB ops i=some (none,p,some d))(G:∀c,p≠.defer c)(h:∀o:Oper,o.op=p->(execOp a.eval o).run P w=.ok (.value x) w1)(j:Has N a l)(e:d<N)
  (k:∀f,f.defers=a.defers->Has N f ((d,x)::l)->wpOpsIn (Ay r) n P ops Q rest f w1):wpOpsIn (Ay r) n P ops Q (i::rest) a w:=by
 unfold FB at g;simp only[Option.map_eq_some_iff,Prod.mk.injEq]at g;obtain⟨o,H,J,u,y⟩:=g;refine one_op H J (by grind) (h o u) ?_;rw[y];exact k _ rfl (j.put e x)
theorem op_ext{t j:Nat}{vs:Array Value}(u:FB ops i=some (none,.extract (.tmp t) j,some d))(f:Has N a l)(y:l.lookup t=some (.tuple vs))(H:(Instr.extract (.tuple vs) j).run P w=.ok x w)(c:d<N)
  (k:∀g,g.defers=a.defers->Has N g ((d,x)::l)->wpOpsIn (Ay r) n P ops Q rest g w):wpOpsIn (Ay r) n P ops Q (i::rest) a w:=by
 refine Jf u (λ_ h=>by cases h) (λo h=>?_) f c k;have e:a.eval (.tmp t)=.tuple vs:=f.get y;grind[execOp,zN,zO,zP]
theorem op_asg{t:Nat}(u:FB ops i=some (none,.assign (.tmp t),some d))(f:Has N a l)(y:l.lookup t=some x)(j:d<N)
  (k:∀g,g.defers=a.defers->Has N g ((d,x)::l)->wpOpsIn (Ay r) n P ops Q rest g w):wpOpsIn (Ay r) n P ops Q (i::rest) a w:=by
 refine Jf u (λ_ h=>by cases h) (λo h=>?_) f j k;have e:a.eval (.tmp t)=x:=f.get y;grind[execOp,zP]
end
theorem As.drew{V:Mem}{w w1:World}(h:V.le w)(e:w1=w∨w1=w.drew):As V w V w1:=by
 rcases e with rfl|rfl;·exact As.refl h
 ·exact⟨yq _,h,λ_ _ _=>rfl,λ_ h=>.inl h,rfl,rfl⟩
end
end Go.Sx
namespace Go.Proofs
open Go Go.Sx Go.ChangeMaps
attribute [local irreducible] Go.Sx.Tri
def akEs:Array MapEntry:=#[{key:=.int .i64 1,val:=.int .i64 5,born:=0},{key:=.int .i64 2,val:=.int .i64 7,born:=1},{key:=.int .i64 3,val:=.int .i64 9,born:=2}]
theorem akEs_born:∀x∈akEs.toList,x.born<3:=by simp[akEs]
theorem akEs_nd:(akEs.toList.map (·.born)).Nodup:=by simp[akEs]
theorem akEs_val{e:MapEntry}(h:e∈akEs.toList):∃v x:Int,e.key=.int .i64 v/\e.val=.int .i64 x/\(AH Bp 100 B5 v DC [],CV (AZ Bp 100 B5 v DC []),outV (AZ Bp 100 B5 v DC []))=(0,0,x):=by
 simp only[akEs,yH,xQ,or_false]at h;rcases h with rfl|rfl|rfl;·exact⟨1,5,rfl,rfl,sk_p1⟩
 ·exact⟨2,7,rfl,rfl,sk_p2⟩
 ·exact⟨3,9,rfl,rfl,sk_p3⟩
theorem Mem.set_set(V:Mem)(b:Nat)(x y:Obj):(V.set b x).set b y=V.set b y:=by
 grind[Mem.set]
theorem R2{V:Mem}{b:Bool}{p:Option Addr}:AS xS 105 Kb 0 5 [(0,.bool b),(1,.pointer p)] [0,1,62] V λvs V'=>∃h,V h=none/\vs=[.bool b,.pointer p,.map (some h)]/\V'=V.set h (.map akEs 3):=by
 refine RW (a:=b) (b:=p) ?_;unfold Pv;refine GenK.makeMap λh g=>⟨some h,rfl,?_⟩;have f:=keyInt (P:=xS) Tryz.underlying3;have hu:=uX;refine Cr.push f hu (k:=1) Au (by simp) (by simp) ?_;refine Cr.push f hu (k:=2) Au (by simp) (by simp) ?_;refine Cr.push f hu (k:=3) Au (by simp) (by simp) ?_;exact⟨_,rfl,h,g,rfl,by simp only[Mem.set_set];rfl⟩
noncomputable def akR6:Code:=(flat (Az ue)).getD 6 .skip
noncomputable def akB7:Code:=(flat (Az ue)).getD 7 .skip
noncomputable def LG:Code:=kid (kid akB7 0) 0
noncomputable def LH:Code:=kid ((flat LG).getD 2 .skip) 0
noncomputable def akO12:Array Oper:=DF ((flat LG).getD 0 .skip)
noncomputable def akO13:Array Oper:=DF ((flat LH).getD 0 .skip)
theorem awake_flat:flat (Az ue)=NG++(NH++([akR6,akB7]++(LD++[.ret]))):=by kernel_rfl
theorem akR6_eq:akR6=.region 11 Kb false:=by kernel_rfl
theorem akB7_eq:akB7=.block 2 (.loop LG):=by kernel_rfl
theorem akL_flat:flat LG=[.region 12 akO12 false,.cond (.tmp 65) .skip (.exit 2),.block 3 LH]:=by kernel_rfl
theorem akC_flat:flat LH=[.region 13 akO13 false]++c8c:=by kernel_rfl
theorem akO6_size:(Kb).size=6:=by kernel_rfl
theorem akO12_size:akO12.size=2:=by kernel_rfl
theorem akO13_size:akO13.size=5:=by kernel_rfl
theorem akO6_5:FB Kb 5=some (none,.range 92 (.tmp 62),some 63):=by kernel_rfl
theorem akO12_0:FB akO12 0=some (none,.next (.tmp 63) false,some 64):=by kernel_rfl
theorem akO12_1:FB akO12 1=some (none,.extract (.tmp 64) 0,some 65):=by kernel_rfl
theorem akO13_0:FB akO13 0=some (none,.entry (.tmp 63),some 66):=by kernel_rfl
theorem akO13_1:FB akO13 1=some (none,.extract (.tmp 66) 0,some 67):=by kernel_rfl
theorem akO13_2:FB akO13 2=some (none,.extract (.tmp 66) 1,some 68):=by kernel_rfl
theorem akO13_3:FB akO13 3=some (none,.assign (.tmp 67),some 8):=by kernel_rfl
theorem akO13_4:FB akO13 4=some (none,.assign (.tmp 68),some 9):=by kernel_rfl
theorem results_b{f:Func}(h:f.results=#[.tmp 0]){tmps:Array Value}{w:World}{b:Bool}(k:tmps.getD 0 undef=.bool b):(results f tmps).run xS w=.ok (.bool b) w:=by
 unfold results;simp_all
theorem Kc{V:Mem}[Tab V]:PP 8 [] V (.bool true):=by
 refine Bn.mk ?_;unfold Go.Sx.Tri;intro w hV;refine(callsIn_wide (n:=0)).1 (callsIn_of_wp (F:=Ay none) Tryz.func8 (c:=Az ue) (by kernel_rfl) trivial (FQ ?_) rfl);rw[awake_flat];refine(RX (V:=V)).step hV ⟨by simp,λs v h=>by cases h⟩ ?_;rintro a1 w1 _ V1 hd1 hH1 ⟨d,p,D1,rfl,SD,hd,s1,A1⟩ T;haveI:Tab D1:=Tab.sub (V:=V) inferInstance s1;refine(R0 A1 SD hd).step T.le hH1 ?_;rintro a2 w2 _ V2 hd2 hH2 ⟨b,D2,rfl,s2,q,vl,gl,nl,tr,gs,ns,H⟩ hF2;show wx (Ay none) 0 xS akR6 _ a2 w2;rw[akR6_eq];refine wpIn_region ?_;rw[akO6_size,show zB 6=wi 0 5++[5]from rfl];refine R2.step hF2.le hH2 ?_;rintro a3 w3 _ V3 hd3 hH3 ⟨k,hbm,rfl,rfl⟩ L;obtain⟨X,g⟩:=As.made L.le (.mapIter (some k) 3 #[] 3);refine Jf akO6_5 (λ_ h=>by cases h) (x:=.pointer (some ⟨w3.heap.size,0,none⟩)) (w1:=w3.alloc (.mapIter (some k) 3 #[] 3)) (λo h=>?_) hH3 (by decide) λa5 j u=>?_
 ·have e62:a3.eval (.tmp 62)=.map (some k):=hH3.get rfl;unfold execOp;rw[h];simp only[e62,zN,run_range_map (P:=xS) w3 92 3 3 k akEs 3 uX (L.le _ _ Au),zO,zP]
 generalize w3.heap.size=r at X g u;show wx (Ay none) 0 xS akB7 _ _ _;rw[akB7_eq];have B1:=H.bs.pub hbm (.map akEs 3);have B2:=B1.pub X (.mapIter (some k) 3 #[] 3);have nbm:D2 k=none:=Cz H.bs.sub hbm;have W:r≠k:=by
  rintro rfl;grind[Mem.set_same]
 have nr:D2 r=none:=by
  have:=Cz B1.sub X;rwa [Mem.set_ne W]at this
 have sD2:V.sub D2:=s1.trans s2;refine wpIn_block ?_;refine ML (λn a w'=>∃(seen:Array Nat)(D U:Mem),n=(leftOf akEs seen).size/\D2.sub D/\Bi D U (At p q d vl gl nl B5.wr vl tr gl gs nl ns ns)/\D k=some (.map akEs 3)/\D r=some (.mapIter (some k) 3 seen 3)/\a.defers=[]/\
  Has 105 a [(0,.bool b),(1,pv p),(63,pv r)]/\As V w U w')
  ⟨_,#[],_,_,rfl,(Mem.sub_new nbm _).trans (Mem.sub_new (by rw[Mem.set_ne W];exact nr) _),B2,by rw[Mem.set_ne (vA W),Mem.set_same],Mem.set_same _ _ _,j.trans (hd3.trans (hd2.trans hd1)),u.weak rfl,((T.trans hF2).trans L).trans g⟩ ?_
 rintro n a4 w4 ⟨seen,D,U,rfl,sD,B,hDb,C,hd4,u,g⟩;have hwb:=g.le _ _ (B.sub _ _ hDb);have hwr:=g.le _ _ (B.sub _ _ C);refine FQ ?_;rw[akL_flat];refine wpIn_region ?_;rw[akO12_size,show zB 2=[0,1]from rfl];have e63:a4.eval (.tmp 63)=pv r:=u.get rfl;rcases run_next_at (P:=xS) w4 0 r k 3 3 seen akEs 3 hwr hwb akEs_born (yq _)with⟨h0,J⟩|⟨e,he,w5,hal,J⟩
 ·refine Jf (w1:=w4) akO12_0 (λ_ h=>by cases h) (λo h=>?_) u (by decide) λa5 j E=>op_ext (x:=.bool false) (vs:=#[.bool false]) akO12_1 E rfl rfl (by decide) λI K y=>?_;·grind[execOp,zN,Instr.next,xS,zO,zP]
  show wx (Ay none) 0 xS (.cond (.tmp 65) .skip (.exit 2)) _ I w4;refine wpIn_cond_false (y.get rfl:I.eval (.tmp 65)=_) (wpIn_exit ?_);show CQ none 0 xS _ (LD++[.ret]) I w4;refine(RZ (V:=U) ⟨q,vl,gl,nl,tr,gs,ns,H.more sD B⟩ ((hd.sub s2).sub sD)).step g.le (y.weak rfl) ?_;rintro a7 w7 _ V7 hd7 hH7 ⟨rfl,s7⟩ hF7;exact wpIn_ret ⟨hd7.trans (K.trans (j.trans hd4)),.bool true,results_b (by kernel_rfl) (hH7.get rfl),V7,⟨rfl,(((sD2.trans sD).trans B.sub).trans s7)⟩,g.trans hF7⟩
 ·obtain⟨v,x,hk,hx,hv⟩:=akEs_val (mem_left he).1;rw[hk,hx]at J;have hF5:As V w U w5:=g.trans (As.drew g.le hal);have f:=hF5.trans (As.put hF5.le (B.sub _ _ C) (o':=.mapIter (some k) 3 (seen.push e.born) 3));have B6:=B.poke (b:=r) (by rw[C];simp) (.mapIter (some k) 3 (seen.push e.born) 3);have G:=sD.set nr (.mapIter (some k) 3 (seen.push e.born) 3);have Z:(D.set r (.mapIter (some k) 3 (seen.push e.born) 3)) k=some (.map akEs 3):=by rw[Mem.set_ne (vA W)];exact hDb
  have Y:=Mem.set_same D r (.mapIter (some k) 3 (seen.push e.born) 3);change As V w _ (setBlock w5 r (.mapIter (some k) 3 (seen.push e.born) 3))at f;generalize setBlock w5 r (.mapIter (some k) 3 (seen.push e.born) 3)=w6 at J f;generalize D.set r (.mapIter (some k) 3 (seen.push e.born) 3)=D6 at B6 G Z Y;generalize U.set r (.mapIter (some k) 3 (seen.push e.born) 3)=U6 at B6 f;refine Jf (w1:=w6) akO12_0 (λ_ h=>by cases h) (λo h=>?_) u (by decide) λa5 j E=>op_ext (x:=.bool true) (vs:=#[.bool true,.int .i64 v,.int .i64 x]) akO12_1 E rfl rfl (by decide) λI K y=>?_;·grind[execOp,zN,Instr.next,xS,zO,zP]
  show wx (Ay none) 0 xS (.cond (.tmp 65) .skip (.exit 2)) _ I w6;refine wpIn_cond_true (y.get rfl:I.eval (.tmp 65)=_) (wpIn_skip ?_);show wx (Ay none) 0 xS (.block 3 LH) _ I w6;refine wpIn_block (FQ ?_);rw[akC_flat];refine wpIn_region ?_;rw[akO13_size,show zB 5=[0,1,2,3,4]from rfl];have hent:=run_entry_at (P:=xS) w6 r k 3 seen akEs 3 e (f.le _ _ (B6.sub _ _ Y)) (f.le _ _ (B6.sub _ _ Z)) (mem_left he).1 akEs_nd;rw[hk,hx]at hent;have e63':I.eval (.tmp 63)=pv r:=y.get rfl;refine Jf (w1:=w6) akO13_0 (λ_ h=>by cases h) (λo h=>?_) y (by decide) λb1 d1 O=>op_ext (x:=.int .i64 v) (vs:=#[.int .i64 v,.int .i64 x]) akO13_1 O rfl rfl (by decide) λb2 d2 O=>op_ext (x:=.int .i64 x) (vs:=#[.int .i64 v,.int .i64 x]) akO13_2 O rfl rfl (by decide) λb3 d3 O=>op_asg akO13_3 O rfl (by decide) λb4 d4 O=>op_asg akO13_4 O rfl (by decide) λb5 d5 O=>?_;·grind[execOp,zN,zO,zP]
  haveI:Tab D6:=Tab.sub (V:=V) inferInstance (sD2.trans G);show CQ none 0 xS _ c8c b5 w6;rw[<-List.append_nil c8c];refine(akC' (H.more G B6) SD ((hd.sub s2).sub G) hv (it:=some ⟨r,0,none⟩) (b0:=b)).step f.le (O.weak rfl) ?_;rintro a10 Mi _ V10 hd10 hH10 ⟨rfl,D7,S,B7⟩ hF10;exact⟨_,left_shrinks akEs seen e he,seen.push e.born,D7,V10,rfl,G.trans S,B7,S _ _ Z,S _ _ Y,hd10.trans (d5.trans (d4.trans (d3.trans (d2.trans (d1.trans (K.trans (j.trans hd4))))))),hH10,f.trans hF10⟩
end Go.Proofs
