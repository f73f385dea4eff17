/- Part 20: no statement of the seat is proved here. -/
import Derived.Test.YtmdkfdmecbimcaaGreatDoorPd18
set_option linter.unusedVariables false
set_option linter.unusedSimpArgs false
namespace Go.Proofs.YtmdkfdmecbimcaaGreatDoor
open Go Go.Sx Go.Proofs Go.ChangeShapes Go.WideShapes Go.ChangeAt Go.RowKit
theorem call_of{H:Type}{enc:TypeId×Value->H}{W:World}{v:Value}{f:DataW H}{p:List MemPlace}(h:DataW.Trod enc Tryz.prog W 0 (λ_=>true) true 57 v f p):∃(nm:KB)(l:Sl)(xs:List Int),v=.agg #[.string nm,l.v]/\Ab (BE W) l 1 (xs.map Ah):=by
 obtain⟨fuel,h⟩:=h;obtain⟨nm,l,xs,hm,k⟩:=rdCl h;refine⟨nm,l,xs,?_,k⟩;have t:v.cells.toList.length=2:=by rw[<-hm];rfl
 cases v with
 |agg g=>
  have:g.toList=[Value.string nm,l.v]:=hm.symm;show Value.agg g=.agg ([Value.string nm,l.v]:List Value).toArray;rw[<-this]
 |_=>simp[Value.cells]at t
end Go.Proofs.YtmdkfdmecbimcaaGreatDoor
