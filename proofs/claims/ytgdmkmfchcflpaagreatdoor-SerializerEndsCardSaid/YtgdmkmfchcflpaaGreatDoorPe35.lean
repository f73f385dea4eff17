/- Proved here: the card of SerializerEnds, as it is given, with no condition beyond those of the statement itself. -/
import Derived.Test.YtgdmkmfchcflpaaGreatDoorPe34
import Derived.ChangeMaps5
import Derived.Test.YtgdmkmfchcflpaaGreatDoorCards
import Derived.Test.YtgdmkmfchcflpaaGreatDoorTie
set_option linter.unusedVariables false
set_option linter.unusedSimpArgs false
open Go.Proofs.Tryz renaming checked->tI,prog->xE,f5->tK,func5->tL
open List renaming not_mem_nil->xC
open Option.some renaming inj->wR
namespace Go.Proofs.YtgdmkmfchcflpaaGreatDoor
open Go Go.Sx Go.Proofs Go.ChangeShapes Go.WideShapes Go.ChangeAt Go.RowKit Go.ChangeMaps
set_option maxRecDepth 100000 in
theorem sends_lifted(os:Os)(k:os.Started)(H:Type)(enc:TypeId×Value->H):
  ReturnsInHanded {} tI os 5 .any (λw args=>(Rows.serializerEndsSpec.pre enc xE tK [] false w args/\laidMetH xE Dr w)/\sizedMet enc xE tK (OpenSpec.ofChange Rows.serializerEndsSpec) false w args)
   (Rows.serializerEndsSpec.post enc xE tK false true false false):=by
 refine returnsInHanded_of_change_and (C:=tI) (X:=λw _=>laidMetH xE Dr w) (λ_ _ _ a h=>h.of_heap a) Tryz.own k (by kernel_rfl) tL
  (H5 (C:=tI) (os:=os) (enc:=enc) (X:=λw _=>laidMetH xE Dr w) (Hm os) #[.agg #[.int .i64 0,.slice none 0 0,.int .i64 0,.int .i64 0],.int .i64 0] 8 rfl (by kernel_rfl) (by kernel_rfl) (by kernel_rfl) (by kernel_rfl) (by kernel_rfl) (E8.2 (H3 os _))) ?_
 intro W base args ds gs x u o _ _ d _;have z:=o;obtain⟨p,q,j,i,rfl,s,J⟩:=o;have l:DataW.TrodAll enc xE W 0 (λ_=>true) true tK.params.toList args.toList ds p:=j;have c:DataW.TrodVars enc xE W (λ_=>true) [] gs q:=i;rw[Tryz.params5]at l;have n:=l;obtain⟨A,G,I,M,p0,p1,rfl,rfl,rfl,N,m⟩:=trodAll_two l;obtain⟨rfl,rfl⟩:gs=[]/\q=[]:=by
  cases gs with
  |nil=>exact⟨rfl,c⟩
  |cons g r=>exact absurd c (by intro h;cases h)
 obtain⟨Z,Y,rfl,Q⟩:=disk_of N;obtain⟨P,rfl,-,-,F⟩:=open_int Tryz.underlying3 (u 1 3 G (by kernel_rfl) rfl) m;haveI:=H4 (E8.1 d);have y:=z.lt;rw[List.append_nil]at y;refine(Fk (H2 (c5 Q)) ?_:Calls xE _ #[Z.v Y,.int .i64 P] W _);rintro e L ⟨rfl,m,O,R,f⟩;refine⟨_,rfl,_,_,_,[],p0++p1,[],z,?_,?_,rfl,kept m O f _,λh=>by cases h⟩;·exact trodAll_mk1 (shut_bool Tryz.underlying4 true)
 ·exact Hn f (ts:=[36,3]) (by
   intro t b;simp only[List.mem_cons,xC,or_false]at b;rcases b with rfl|rfl;·exact⟨by kernel_rfl,of_decide_eq_true (by kernel_rfl)⟩
   ·exact⟨by kernel_rfl,of_decide_eq_true (by kernel_rfl)⟩) n y
theorem sends_holds:Rows.SerializerEndsSaid:=
 OpenClaim.holds_of_wide 5 tK rfl rfl rfl rfl rfl rfl rfl ⟨rfl,rfl,rfl,rfl,rfl⟩ rfl rfl rfl rfl rfl (by kernel_rfl) tL sends_facts
  (of_decide_eq_true (by kernel_rfl)) (by unfold Func.isWrapper;first|(rw[if_pos (by decide+kernel)];kernel_rfl)|(rw[if_neg (by decide+kernel)];exact⟨rfl,rfl⟩))
  (λos h H enc _=>sends_lifted os h H enc)
theorem sends_card:Rows.SerializerEndsCardSaid:=
 Claim7.holds_tied_plain_at .later [] [.listed,.data] true (true, "3bd207a272a8885aebe866ee4164e02c7dde111f027890948da3109e9f894133") false
  sends_holds (λ_ h=>by cases h) (by as_aux_lemma=>kernel_rfl) (λ_ h=>by cases h) serializerEnds_row_tie rfl ⟨rfl,rfl⟩ (by as_aux_lemma=>kernel_rfl) rfl
  (λf fn g k=>by
   obtain rfl:f=5:=wR ((show xE.funcNamed Rows.serializerEndsRow.func=some 5 by kernel_rfl).symm.trans g)|>.symm;obtain rfl:fn=tK:=(wR (tL.symm.trans k)).symm;exact⟨by as_aux_lemma=>kernel_rfl,λj t u=>by
    have hm:t∈tK.params.toList:=by
     rw[Array.mem_toList_iff];exact Array.mem_of_getElem? (by simpa using u)
    rw[Tryz.params5]at hm;simp only[List.mem_cons,xC,or_false]at hm;rcases hm with rfl|rfl;·exact(show xE.wantsStandIn 36=false by as_aux_lemma=>kernel_rfl)
    ·exact(show xE.wantsStandIn 3=false by as_aux_lemma=>kernel_rfl)⟩)
  (by as_aux_lemma=>kernel_rfl)
end Go.Proofs.YtgdmkmfchcflpaaGreatDoor
