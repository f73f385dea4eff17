/- Proved here: the card of PersistentApart, as it is given, with no condition beyond those of the statement itself. -/
import Derived.Test.YtmdkfdmecbimcaaGreatDoorPd25
import Derived.ChangeMaps5
import Derived.Test.YtmdkfdmecbimcaaGreatDoorCards
import Derived.Test.YtmdkfdmecbimcaaGreatDoorTie
set_option linter.unusedVariables false
set_option linter.unusedSimpArgs false
open Go.Proofs.Tryz renaming checked->ua,prog->xS,f7->ub,func7->u0
open List renaming not_mem_nil->xQ
open Option.some renaming inj->vk
namespace Go.Proofs.YtmdkfdmecbimcaaGreatDoor
open Go Go.Sx Go.Proofs Go.ChangeShapes Go.WideShapes Go.ChangeAt Go.RowKit Go.ChangeMaps
set_option maxRecDepth 100000 in
theorem papart_lifted(os:Os)(k:os.Started)(H:Type)(enc:TypeId×Value->H):
  ReturnsInHanded {} ua os 7 .any (λw args=>(Rows.persistentApartSpec.pre enc xS ub [] false w args/\laidMetH xS DW w)/\sizedMet enc xS ub (OpenSpec.ofChange Rows.persistentApartSpec) false w args)
   (Rows.persistentApartSpec.post enc xS ub false true false false):=by
 refine returnsInHanded_of_change_and (C:=ua) (X:=λw _=>laidMetH xS DW w) (λ_ _ _ b h=>h.of_heap b) Tryz.own k (by kernel_rfl) u0
  (JS (C:=ua) (os:=os) (enc:=enc) (X:=λw _=>laidMetH xS DW w) (I0 os) #[.agg #[.string ByteArray.empty,.slice none 0 0,.slice none 0 0,.slice none 0 0,.slice none 0 0,.slice none 0 0,.slice none 0 0,.slice none 0 0],.slice none 0 0] 8 rfl (by kernel_rfl) (by kernel_rfl) (by kernel_rfl) (by kernel_rfl) (by kernel_rfl) (Gq.2 (JQ os _))) ?_
 intro W base args ds gs x u m _ _ a _;have z:=m;obtain⟨p,q,j,i,rfl,d,s⟩:=m;have l:DataW.TrodAll enc xS W 0 (λ_=>true) true ub.params.toList args.toList ds p:=j;have o:DataW.TrodVars enc xS W (λ_=>true) [] gs q:=i;rw[Tryz.params7]at l;have n:=l;obtain⟨v0,J,P,O,p0,p1,rfl,rfl,rfl,G,h1⟩:=trodAll_two l;obtain⟨rfl,rfl⟩:gs=[]/\q=[]:=by
  cases gs with
  |nil=>exact⟨rfl,o⟩
  |cons g r=>exact absurd o (by intro h;cases h)
 obtain⟨N,rfl,Z⟩:=JP G;obtain⟨Y,A,rfl,Q⟩:=Jc (u 1 31 J (by kernel_rfl) rfl) h1;haveI:=JR (Gq.1 a);have y:=z.lt;rw[List.append_nil]at y;refine(F6 (JO (Se Kc Z Q)) ?_:Calls xS _ #[N.v,Y.v] W _);rintro e I ⟨rfl,h1,h2,h3,f⟩;refine⟨_,rfl,_,_,_,[],p0++p1,[],z,?_,?_,rfl,kept h1 h2 f _,λh=>by cases h⟩;·exact trodAll_mk1 (shut_bool Tryz.underlying4 true)
 ·exact I3 f (ts:=[30,31]) (by
   intro t c;simp only[List.mem_cons,xQ,or_false]at c;rcases c with rfl|rfl;·exact⟨by kernel_rfl,of_decide_eq_true (by kernel_rfl)⟩
   ·exact⟨by kernel_rfl,of_decide_eq_true (by kernel_rfl)⟩) n y
theorem papart_holds:Rows.PersistentApartSaid:=
 OpenClaim.holds_of_wide 7 ub rfl rfl rfl rfl rfl rfl rfl ⟨rfl,rfl,rfl,rfl,rfl⟩ rfl rfl rfl rfl rfl (by kernel_rfl) u0 papart_facts
  (of_decide_eq_true (by kernel_rfl)) (by unfold Func.isWrapper;first|(rw[if_pos (by decide+kernel)];kernel_rfl)|(rw[if_neg (by decide+kernel)];exact⟨rfl,rfl⟩))
  (λos h H enc _=>papart_lifted os h H enc)
theorem papart_card:Rows.PersistentApartCardSaid:=
 Claim7.holds_tied_plain_at .later [] [.listed,.data] true (true, "e07cc6ac13b378ed68c263a1b335f1bd3e83bdd203d679267bb8e5ef9e72052c") true
  papart_holds (λ_ h=>by cases h) (by as_aux_lemma=>kernel_rfl) (λ_ h=>by cases h) persistentApart_row_tie rfl ⟨rfl,rfl⟩ (by as_aux_lemma=>kernel_rfl) rfl
  (λf fn g k=>by
   obtain rfl:f=7:=vk ((show xS.funcNamed Rows.persistentApartRow.func=some 7 by kernel_rfl).symm.trans g)|>.symm;obtain rfl:fn=ub:=(vk (u0.symm.trans k)).symm;exact⟨by as_aux_lemma=>kernel_rfl,λj t u=>by
    have hm:t∈ub.params.toList:=by
     rw[Array.mem_toList_iff];exact Array.mem_of_getElem? (by simpa using u)
    rw[Tryz.params7]at hm;simp only[List.mem_cons,xQ,or_false]at hm;rcases hm with rfl|rfl;·exact(show xS.wantsStandIn 30=false by as_aux_lemma=>kernel_rfl)
    ·exact(show xS.wantsStandIn 31=false by as_aux_lemma=>kernel_rfl)⟩)
  (by as_aux_lemma=>kernel_rfl)
end Go.Proofs.YtmdkfdmecbimcaaGreatDoor
