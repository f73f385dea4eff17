/- Part 25: no statement of the seat is proved here. -/
import Derived.Test.YtgdmkmfchcflpaaGreatDoorPe15
set_option linter.unusedVariables false
set_option linter.unusedSimpArgs false
namespace Go.Proofs.YtgdmkmfchcflpaaGreatDoor
open Go Go.Sx Go.Proofs Go.ChangeShapes Go.WideShapes Go.ChangeAt Go.RowKit
section
variable{H:Type}{enc:TypeId×Value->H}{w:World}
theorem cl1b:Tryz.prog.cellsOf 5=1:=by kernel_rfl
theorem rd_u8{n:Nat}{t:TypeId}{cs:List Value}{x:DataW H×List MemPlace}(g:Tryz.prog.underlying t=some (.int .u8))(h:TR enc w n t cs=some x):∃v:Int,cs=[.int .u8 v]/\0<=v/\v<256:=by
 cases n with
 |zero=>cases h
 |succ n=>
  unfold TR DataW.trod at h;have key:∀v:Int,(Lit.int .u8 v).wf=true->0<=v/\v<256:=λv k=>by
   simp only[Lit.wf,Bool.and_eq_true,decide_eq_true_eq]at k;have f:(0:Int)<=v:=k.1;have u:v<=255:=k.2;omega
  grind
theorem M2{m:Nat}{v:Value}(h:∃y,TR enc w m 34 [v]=some y):∃(s:Sl)(b:List Int),v=.slice s.p s.n s.c/\Bt (A3 w) s b:=by
 obtain⟨s,b,k,g,f⟩:=DF (row:=AS) (ok:=λx:Int=>0<=x/\x<256) Tryz.underlying34 cl1b (by decide) (λ_=>rfl) (λz _ j x t=>by
  obtain⟨n,rfl,u⟩:=rd_u8 Tryz.underlying5 t;exact⟨n,rfl,u⟩) h
 exact⟨s,b,k,⟨g,f⟩⟩
end
end Go.Proofs.YtgdmkmfchcflpaaGreatDoor
