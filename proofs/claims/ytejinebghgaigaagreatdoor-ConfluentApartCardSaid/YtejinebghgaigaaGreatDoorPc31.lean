/- Proved here: the card of ConfluentApart, as it is given, with no condition beyond those of the statement itself. -/
import Derived.Test.YtejinebghgaigaaGreatDoorPc23
import Derived.Test.YtejinebghgaigaaGreatDoorPc17
import Derived.Test.YtejinebghgaigaaGreatDoorPc29
import Derived.Test.YtejinebghgaigaaGreatDoorPc30
import Derived.ChangeMaps5
import Derived.Test.YtejinebghgaigaaGreatDoorCards
import Derived.Test.YtejinebghgaigaaGreatDoorTie
set_option linter.unusedVariables false
set_option linter.unusedSimpArgs false
open Go.Proofs.Tryz renaming checked->uR,prog->xG,f7->uX,func7->uY
open List renaming not_mem_nil->xE
open Option.some renaming inj->vN
namespace Go.Proofs.YtejinebghgaigaaGreatDoor
open Go Go.Sx Go.Proofs Go.ChangeShapes Go.WideShapes Go.ChangeAt Go.RowKit Go.ChangeMaps
set_option maxRecDepth 100000 in
theorem xapart_lifted(os:Os)(k:os.Started)(H:Type)(enc:TypeId×Value->H):
  ReturnsInHanded {} uR os 7 .any (λw args=>(Rows.confluentApartSpec.pre enc xG uX [] false w args/\laidMetH xG ER w)/\sizedMet enc xG uX (OpenSpec.ofChange Rows.confluentApartSpec) false w args)
   (Rows.confluentApartSpec.post enc xG uX false true false false):=by
 refine returnsInHanded_of_change_and (C:=uR) (X:=λw _=>laidMetH xG ER w) (λ_ _ _ b h=>h.of_heap b) Tryz.own k (by kernel_rfl) uY
  (Lj (C:=uR) (os:=os) (enc:=enc) (X:=λw _=>laidMetH xG ER w) (JT os) #[.agg #[.string ByteArray.empty,.slice none 0 0,.slice none 0 0,.slice none 0 0,.slice none 0 0,.slice none 0 0,.slice none 0 0,.slice none 0 0],.slice none 0 0] 8 rfl (by kernel_rfl) (by kernel_rfl) (by kernel_rfl) (by kernel_rfl) (by kernel_rfl) (HF.2 (Lh os _))) ?_
 intro W base args ds gs x u m _ _ a _;have z:=m;obtain⟨p,q,j,i,rfl,d,s⟩:=m;have l:DataW.TrodAll enc xG W 0 (λ_=>true) true uX.params.toList args.toList ds p:=j;have o:DataW.TrodVars enc xG W (λ_=>true) [] gs q:=i;rw[Tryz.params7]at l;have n:=l;obtain⟨Q,J,P,O,p0,p1,rfl,rfl,rfl,G,h1⟩:=trodAll_two l;obtain⟨rfl,rfl⟩:gs=[]/\q=[]:=by
  cases gs with
  |nil=>exact⟨rfl,o⟩
  |cons g r=>exact absurd o (by intro h;cases h)
 obtain⟨N,rfl,k0⟩:=desc_of G;obtain⟨Z,A,rfl,Y⟩:=sps_of (u 1 58 J (by kernel_rfl) rfl) h1;haveI:=Li (HF.1 a);have y:=z.lt;rw[List.append_nil]at y;refine(GO (Lg (c7 k0 Y)) ?_:Calls xG _ #[N.v,Z.v] W _);rintro e I ⟨rfl,h1,h2,h3,f⟩;refine⟨_,rfl,_,_,_,[],p0++p1,[],z,?_,?_,rfl,kept h1 h2 f _,λh=>by cases h⟩;·exact trodAll_mk1 (shut_bool Tryz.underlying4 true)
 ·exact JU f (ts:=[35,58]) (by
   intro t c;simp only[List.mem_cons,xE,or_false]at c;rcases c with rfl|rfl;·exact⟨by kernel_rfl,of_decide_eq_true (by kernel_rfl)⟩
   ·exact⟨by kernel_rfl,of_decide_eq_true (by kernel_rfl)⟩) n y
theorem xapart_holds:Rows.ConfluentApartSaid:=
 OpenClaim.holds_of_wide 7 uX rfl rfl rfl rfl rfl rfl rfl ⟨rfl,rfl,rfl,rfl,rfl⟩ rfl rfl rfl rfl rfl (by kernel_rfl) uY xapart_facts
  (of_decide_eq_true (by kernel_rfl)) (by unfold Func.isWrapper;first|(rw[if_pos (by decide+kernel)];kernel_rfl)|(rw[if_neg (by decide+kernel)];exact⟨rfl,rfl⟩))
  (λos h H enc _=>xapart_lifted os h H enc)
theorem xapart_card:Rows.ConfluentApartCardSaid:=
 Claim7.holds_tied_plain_at .later [] [.listed,.data] true (true, "a359887999f03d526b0199056f0a049eb93740affa981db22f417ad67e0f51f7") true
  xapart_holds (λ_ h=>by cases h) (by as_aux_lemma=>kernel_rfl) (λ_ h=>by cases h) confluentApart_row_tie rfl ⟨rfl,rfl⟩ (by as_aux_lemma=>kernel_rfl) rfl
  (λf fn g k=>by
   obtain rfl:f=7:=vN ((show xG.funcNamed Rows.confluentApartRow.func=some 7 by kernel_rfl).symm.trans g)|>.symm;obtain rfl:fn=uX:=(vN (uY.symm.trans k)).symm;exact⟨by as_aux_lemma=>kernel_rfl,λj t u=>by
    have hm:t∈uX.params.toList:=by
     rw[Array.mem_toList_iff];exact Array.mem_of_getElem? (by simpa using u)
    rw[Tryz.params7]at hm;simp only[List.mem_cons,xE,or_false]at hm;rcases hm with rfl|rfl;·exact(show xG.wantsStandIn 35=false by as_aux_lemma=>kernel_rfl)
    ·exact(show xG.wantsStandIn 58=false by as_aux_lemma=>kernel_rfl)⟩)
  (by as_aux_lemma=>kernel_rfl)
end Go.Proofs.YtejinebghgaigaaGreatDoor
