/- Proved here: the card of ConfluentDoubles, as it is given, with no condition beyond those of the statement itself. -/
import Derived.Test.YtejinebghgaigaaGreatDoorPc17
import Derived.Test.YtejinebghgaigaaGreatDoorPc32
import Derived.Test.YtejinebghgaigaaGreatDoorPc33
import Derived.ChangeMaps5
import Derived.Test.YtejinebghgaigaaGreatDoorCards
import Derived.Test.YtejinebghgaigaaGreatDoorTie
set_option linter.unusedVariables false
set_option linter.unusedSimpArgs false
open Go.Proofs.Tryz renaming checked->uR,prog->xG,f3->uy,func3->ux
open List renaming not_mem_nil->xE
open Option.some renaming inj->vN
namespace Go.Proofs.YtejinebghgaigaaGreatDoor
open Go Go.Sx Go.Proofs Go.ChangeShapes Go.WideShapes Go.ChangeAt Go.RowKit Go.ChangeMaps
set_option maxRecDepth 100000 in
theorem xdoubles_lifted(os:Os)(k:os.Started)(H:Type)(enc:TypeId×Value->H):
  ReturnsInHanded {} uR os 3 .any (λw args=>(Rows.confluentDoublesSpec.pre enc xG uy [] false w args/\laidMetH xG ER w)/\sizedMet enc xG uy (OpenSpec.ofChange Rows.confluentDoublesSpec) false w args)
   (Rows.confluentDoublesSpec.post enc xG uy false true false false):=by
 refine returnsInHanded_of_change_and (C:=uR) (X:=λw _=>laidMetH xG ER w) (λ_ _ _ b h=>h.of_heap b) Tryz.own k (by kernel_rfl) ux
  (Lj (C:=uR) (os:=os) (enc:=enc) (X:=λw _=>laidMetH xG ER w) (JT os) #[.int .u8 0,.int .i64 0] 8 rfl (by kernel_rfl) (by kernel_rfl) (by kernel_rfl) (by kernel_rfl) (by kernel_rfl) (HF.2 (Lh os _))) ?_
 intro W base args ds gs x f m _ _ a _;have z:=m;obtain⟨p,q,j,i,rfl,d,s⟩:=m;have l:DataW.TrodAll enc xG W 0 (λ_=>true) true uy.params.toList args.toList ds p:=j;have o:DataW.TrodVars enc xG W (λ_=>true) [] gs q:=i;rw[Tryz.params3]at l;have n:=l;obtain⟨v,J,Y,Q,p0,p1,rfl,rfl,rfl,G,h1⟩:=trodAll_two l;obtain⟨rfl,rfl⟩:gs=[]/\q=[]:=by
  cases gs with
  |nil=>exact⟨rfl,o⟩
  |cons g r=>exact absurd o (by intro h;cases h)
 obtain⟨N,rfl,-,-,k0⟩:=open_int Tryz.underlying5 (f 0 5 v (by kernel_rfl) rfl) G;obtain⟨Z,rfl,-,-,P⟩:=open_int Tryz.underlying3 (f 1 3 J (by kernel_rfl) rfl) h1;haveI:=Li (HF.1 a);have y:=z.lt;rw[List.append_nil]at y;refine(GO (Lg (c3 (Q7 k0))) ?_:Calls xG _ #[.int .u8 N,.int .i64 Z] W _);rintro e O ⟨rfl,h1,h2,h3,u⟩;refine⟨_,rfl,_,_,_,[],p0++p1,[],z,?_,?_,rfl,kept h1 h2 u _,λh=>by cases h⟩;·exact trodAll_mk1 (shut_bool Tryz.underlying4 true)
 ·exact JU u (ts:=[5,3]) (by
   intro t c;simp only[List.mem_cons,xE,or_false]at c;rcases c with rfl|rfl;·exact⟨by kernel_rfl,of_decide_eq_true (by kernel_rfl)⟩
   ·exact⟨by kernel_rfl,of_decide_eq_true (by kernel_rfl)⟩) n y
theorem xdoubles_holds:Rows.ConfluentDoublesSaid:=
 OpenClaim.holds_of_wide 3 uy rfl rfl rfl rfl rfl rfl rfl ⟨rfl,rfl,rfl,rfl,rfl⟩ rfl rfl rfl rfl rfl (by kernel_rfl) ux RO
  (of_decide_eq_true (by kernel_rfl)) (by unfold Func.isWrapper;first|(rw[if_pos (by decide+kernel)];kernel_rfl)|(rw[if_neg (by decide+kernel)];exact⟨rfl,rfl⟩))
  (λos h H enc _=>xdoubles_lifted os h H enc)
theorem xdoubles_card:Rows.ConfluentDoublesCardSaid:=
 Claim7.holds_tied_plain_at .later [] [.listed,.data] true (true, "a359887999f03d526b0199056f0a049eb93740affa981db22f417ad67e0f51f7") true
  xdoubles_holds (λ_ h=>by cases h) (by as_aux_lemma=>kernel_rfl) (λ_ h=>by cases h) confluentDoubles_row_tie rfl ⟨rfl,rfl⟩ (by as_aux_lemma=>kernel_rfl) rfl
  (λf fn g k=>by
   obtain rfl:f=3:=vN ((show xG.funcNamed Rows.confluentDoublesRow.func=some 3 by kernel_rfl).symm.trans g)|>.symm;obtain rfl:fn=uy:=(vN (ux.symm.trans k)).symm;exact⟨by as_aux_lemma=>kernel_rfl,λj t u=>by
    have hm:t∈uy.params.toList:=by
     rw[Array.mem_toList_iff];exact Array.mem_of_getElem? (by simpa using u)
    rw[Tryz.params3]at hm;simp only[List.mem_cons,xE,or_false]at hm;rcases hm with rfl|rfl;·exact(show xG.wantsStandIn 5=false by as_aux_lemma=>kernel_rfl)
    ·exact(show xG.wantsStandIn 3=false by as_aux_lemma=>kernel_rfl)⟩)
  (by as_aux_lemma=>kernel_rfl)
end Go.Proofs.YtejinebghgaigaaGreatDoor
