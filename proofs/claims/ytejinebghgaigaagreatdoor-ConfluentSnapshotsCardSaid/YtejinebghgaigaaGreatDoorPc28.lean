/- Proved here: the card of ConfluentSnapshots, as it is given, with no condition beyond those of the statement itself. -/
import Derived.Test.YtejinebghgaigaaGreatDoorPc23
import Derived.Test.YtejinebghgaigaaGreatDoorPc17
import Derived.Test.YtejinebghgaigaaGreatDoorPc24
import Derived.Test.YtejinebghgaigaaGreatDoorPc27
import Derived.ChangeMaps5
import Derived.Test.YtejinebghgaigaaGreatDoorCards
import Derived.Test.YtejinebghgaigaaGreatDoorTie
set_option linter.unusedVariables false
set_option linter.unusedSimpArgs false
open Go.Proofs.Tryz renaming checked->uR,prog->xG,f5->uU,func5->uV
open List renaming not_mem_nil->xE
open Option.some renaming inj->vN
namespace Go.Proofs.YtejinebghgaigaaGreatDoor
open Go Go.Sx Go.Proofs Go.ChangeShapes Go.WideShapes Go.ChangeAt Go.RowKit Go.ChangeMaps
set_option maxRecDepth 100000 in
theorem xsnaps_lifted(os:Os)(k:os.Started)(H:Type)(enc:TypeId×Value->H):
  ReturnsInHanded {} uR os 5 .any (λw args=>(Rows.confluentSnapshotsSpec.pre enc xG uU [] false w args/\laidMetH xG ER w)/\sizedMet enc xG uU (OpenSpec.ofChange Rows.confluentSnapshotsSpec) false w args)
   (Rows.confluentSnapshotsSpec.post enc xG uU false true false false):=by
 refine returnsInHanded_of_change_and (C:=uR) (X:=λw _=>laidMetH xG ER w) (λ_ _ _ b h=>h.of_heap b) Tryz.own k (by kernel_rfl) uV
  (Lj (C:=uR) (os:=os) (enc:=enc) (X:=λw _=>laidMetH xG ER w) (JT os) #[.agg #[.string ByteArray.empty,.slice none 0 0,.slice none 0 0,.slice none 0 0,.slice none 0 0,.slice none 0 0,.slice none 0 0,.slice none 0 0],.slice none 0 0,.int .i64 0] 8 rfl (by kernel_rfl) (by kernel_rfl) (by kernel_rfl) (by kernel_rfl) (by kernel_rfl) (HF.2 (Lh os _))) ?_
 intro W base args ds gs x f m _ _ a _;have z:=m;obtain⟨p,q,j,i,rfl,d,s⟩:=m;have l:DataW.TrodAll enc xG W 0 (λ_=>true) true uU.params.toList args.toList ds p:=j;have o:DataW.TrodVars enc xG W (λ_=>true) [] gs q:=i;rw[Tryz.params5]at l;have n:=l;obtain⟨A,J,G,I,M,F,p0,p1,N,rfl,rfl,rfl,Z,h1,h2⟩:=trodAll_three l;obtain⟨rfl,rfl⟩:gs=[]/\q=[]:=by
  cases gs with
  |nil=>exact⟨rfl,o⟩
  |cons g r=>exact absurd o (by intro h;cases h)
 obtain⟨Y,rfl,k0⟩:=desc_of Z;obtain⟨Q,L,rfl,P⟩:=sps_of (f 1 58 J (by kernel_rfl) rfl) h1;obtain⟨O,rfl,-,-,R⟩:=open_int Tryz.underlying3 (f 2 3 G (by kernel_rfl) rfl) h2;haveI:=Li (HF.1 a);have y:=z.lt;rw[List.append_nil]at y;refine(GO (Lg (c5 k0 P)) ?_:Calls xG _ #[Y.v,Q.v,.int .i64 O] W _);rintro e V ⟨rfl,h1,h2,h3,u⟩;refine⟨_,rfl,_,_,_,[],p0++p1++N,[],z,?_,?_,rfl,kept h1 h2 u _,λh=>by cases h⟩;·exact trodAll_mk1 (shut_bool Tryz.underlying4 true)
 ·exact JU u (ts:=[35,58,3]) (by
   intro t c;simp only[List.mem_cons,xE,or_false]at c;rcases c with rfl|rfl|rfl;·exact⟨by kernel_rfl,of_decide_eq_true (by kernel_rfl)⟩
   ·exact⟨by kernel_rfl,of_decide_eq_true (by kernel_rfl)⟩
   ·exact⟨by kernel_rfl,of_decide_eq_true (by kernel_rfl)⟩) n y
theorem xsnaps_holds:Rows.ConfluentSnapshotsSaid:=
 OpenClaim.holds_of_wide 5 uU rfl rfl rfl rfl rfl rfl rfl ⟨rfl,rfl,rfl,rfl,rfl⟩ rfl rfl rfl rfl rfl (by kernel_rfl) uV xsnaps_facts
  (of_decide_eq_true (by kernel_rfl)) (by unfold Func.isWrapper;first|(rw[if_pos (by decide+kernel)];kernel_rfl)|(rw[if_neg (by decide+kernel)];exact⟨rfl,rfl⟩))
  (λos h H enc _=>xsnaps_lifted os h H enc)
theorem xsnaps_card:Rows.ConfluentSnapshotsCardSaid:=
 Claim7.holds_tied_plain_at .later [] [.listed,.data] true (true, "a359887999f03d526b0199056f0a049eb93740affa981db22f417ad67e0f51f7") true
  xsnaps_holds (λ_ h=>by cases h) (by as_aux_lemma=>kernel_rfl) (λ_ h=>by cases h) confluentSnapshots_row_tie rfl ⟨rfl,rfl⟩ (by as_aux_lemma=>kernel_rfl) rfl
  (λf fn g k=>by
   obtain rfl:f=5:=vN ((show xG.funcNamed Rows.confluentSnapshotsRow.func=some 5 by kernel_rfl).symm.trans g)|>.symm;obtain rfl:fn=uU:=(vN (uV.symm.trans k)).symm;exact⟨by as_aux_lemma=>kernel_rfl,λj t u=>by
    have hm:t∈uU.params.toList:=by
     rw[Array.mem_toList_iff];exact Array.mem_of_getElem? (by simpa using u)
    rw[Tryz.params5]at hm;simp only[List.mem_cons,xE,or_false]at hm;rcases hm with rfl|rfl|rfl;·exact(show xG.wantsStandIn 35=false by as_aux_lemma=>kernel_rfl)
    ·exact(show xG.wantsStandIn 58=false by as_aux_lemma=>kernel_rfl)
    ·exact(show xG.wantsStandIn 3=false by as_aux_lemma=>kernel_rfl)⟩)
  (by as_aux_lemma=>kernel_rfl)
end Go.Proofs.YtejinebghgaigaaGreatDoor
