/- Proved here: the card of ConfluentRuns, as it is given, with no condition beyond those of the statement itself. -/
import Derived.Test.YtejinebghgaigaaGreatDoorPr21
import Derived.Test.YtejinebghgaigaaGreatDoorPr17
import Derived.Test.YtejinebghgaigaaGreatDoorPr23
import Derived.Test.YtejinebghgaigaaGreatDoorPr24
import Derived.ChangeMaps5
import Derived.Test.YtejinebghgaigaaGreatDoorCards
import Derived.Test.YtejinebghgaigaaGreatDoorTie
set_option linter.unusedVariables false
set_option linter.unusedSimpArgs false
open Go.Proofs.Tryz renaming checked->uQ,prog->xE,f6->uO,func6->uR,underlying3->wv
open ByteArray renaming empty->zA
open List renaming not_mem_nil->xC
open Option.some renaming inj->vK
namespace Go.Proofs.YtejinebghgaigaaGreatDoor
open Go Go.Sx Go.Proofs Go.ChangeShapes Go.WideShapes Go.ChangeAt Go.RowKit Go.ChangeMaps
set_option maxRecDepth 100000 in
theorem xmruns_lifted(os:Os)(f:os.Started)(H:Type)(enc:TypeId×Value->H):
  ReturnsInHanded {} uQ os 6 .any (λw args=>(Rows.confluentRunsSpec.pre enc xE uO [] false w args/\laidMetH xE laid0 w)/\sizedMet enc xE uO (OpenSpec.ofChange Rows.confluentRunsSpec) false w args)
   (Rows.confluentRunsSpec.post enc xE uO false true false false):=by
 refine returnsInHanded_of_change_and (C:=uQ) (X:=λw _=>laidMetH xE laid0 w) (λ_ _ _ b h=>h.of_heap b) Tryz.own f (by kernel_rfl) uR
  (Q4 (C:=uQ) (os:=os) (enc:=enc) (X:=λw _=>laidMetH xE laid0 w) (laidWorld os) #[.agg #[.string zA,.slice none 0 0,.slice none 0 0,.slice none 0 0,.slice none 0 0,.slice none 0 0,.slice none 0 0,.slice none 0 0],.slice none 0 0,.int .i64 0,.int .i64 0,.string zA] 8 rfl (by kernel_rfl) (by kernel_rfl) (by kernel_rfl) (by kernel_rfl) (by kernel_rfl) (OJ.2 (Q3 os _))) ?_
 intro W base args ds gs x k m _ _ a _;have z:=m;obtain⟨p,q,j,i,rfl,d,s⟩:=m;have l:DataW.TrodAll enc xE W 0 (λ_=>true) true uO.params.toList args.toList ds p:=j;have o:DataW.TrodVars enc xE W (λ_=>true) [] gs q:=i;rw[Tryz.params6]at l;have n:=l;obtain⟨R,J,G,N,Z,V,B,D,E,K,p0,p1,Y,p3,Q,rfl,rfl,rfl,P,h1,h2,h3,h4⟩:=trodAll_five l;obtain⟨rfl,rfl⟩:gs=[]/\q=[]:=by
  cases gs with
  |nil=>exact⟨rfl,o⟩
  |cons g r=>exact absurd o (by intro h;cases h)
 obtain⟨O,rfl,k0⟩:=desc_of P;obtain⟨A,S,rfl,I⟩:=sps_of (k 1 58 J (by kernel_rfl) rfl) h1;obtain⟨M,rfl,-,-,T⟩:=open_int wv (k 2 3 G (by kernel_rfl) rfl) h2;obtain⟨F,rfl,-,-,U⟩:=open_int wv (k 3 3 N (by kernel_rfl) rfl) h3;obtain⟨L,rfl,-,-⟩:=open_string Tryz.underlying9 (k 4 9 Z (by kernel_rfl) rfl) h4;haveI:=tab_laid (OJ.1 a);have y:=z.lt;rw[List.append_nil]at y;refine(IJ (same_old (c6 k0 I)) ?_:Calls xE _ #[O.v,A.v,.int .i64 M,.int .i64 F,.string L] W _);rintro e W' ⟨rfl,h1,h2,h3,u⟩;refine⟨_,rfl,_,_,_,[],p0++(p1++(Y++(p3++Q))),[],z,?_,?_,rfl,kept h1 h2 u _,λh=>by cases h⟩;·exact trodAll_mk1 (shut_bool Tryz.underlying4 true)
 ·exact again_all u (ts:=[35,58,3,3,9]) (by
   intro t c;simp only[List.mem_cons,xC,or_false]at c;rcases c with rfl|rfl|rfl|rfl|rfl;·exact⟨by kernel_rfl,of_decide_eq_true (by kernel_rfl)⟩
   ·exact⟨by kernel_rfl,of_decide_eq_true (by kernel_rfl)⟩
   ·exact⟨by kernel_rfl,of_decide_eq_true (by kernel_rfl)⟩
   ·exact⟨by kernel_rfl,of_decide_eq_true (by kernel_rfl)⟩
   ·exact⟨by kernel_rfl,of_decide_eq_true (by kernel_rfl)⟩) n y
theorem xmruns_holds:Rows.ConfluentRunsSaid:=
 OpenClaim.holds_of_wide 6 uO rfl rfl rfl rfl rfl rfl rfl ⟨rfl,rfl,rfl,rfl,rfl⟩ rfl rfl rfl rfl rfl (by kernel_rfl) uR xmruns_facts
  (of_decide_eq_true (by kernel_rfl)) (by unfold Func.isWrapper;first|(rw[if_pos (by decide+kernel)];kernel_rfl)|(rw[if_neg (by decide+kernel)];exact⟨rfl,rfl⟩))
  (λos h H enc _=>xmruns_lifted os h H enc)
theorem xmruns_card:Rows.ConfluentRunsCardSaid:=
 Claim7.holds_tied_plain_at .later [] [.listed,.data] true (true, "a359887999f03d526b0199056f0a049eb93740affa981db22f417ad67e0f51f7") true
  xmruns_holds (λ_ h=>by cases h) (by as_aux_lemma=>kernel_rfl) (λ_ h=>by cases h) confluentRuns_row_tie rfl ⟨rfl,rfl⟩ (by as_aux_lemma=>kernel_rfl) rfl
  (λf fn g k=>by
   obtain rfl:f=6:=vK ((show xE.funcNamed Rows.confluentRunsRow.func=some 6 by kernel_rfl).symm.trans g)|>.symm;obtain rfl:fn=uO:=(vK (uR.symm.trans k)).symm;exact⟨by as_aux_lemma=>kernel_rfl,λj t u=>by
    have hm:t∈uO.params.toList:=by
     rw[Array.mem_toList_iff];exact Array.mem_of_getElem? (by simpa using u)
    rw[Tryz.params6]at hm;simp only[List.mem_cons,xC,or_false]at hm;rcases hm with rfl|rfl|rfl|rfl|rfl;·exact(show xE.wantsStandIn 35=false by as_aux_lemma=>kernel_rfl)
    ·exact(show xE.wantsStandIn 58=false by as_aux_lemma=>kernel_rfl)
    ·exact(show xE.wantsStandIn 3=false by as_aux_lemma=>kernel_rfl)
    ·exact(show xE.wantsStandIn 3=false by as_aux_lemma=>kernel_rfl)
    ·exact(show xE.wantsStandIn 9=false by as_aux_lemma=>kernel_rfl)⟩)
  (by as_aux_lemma=>kernel_rfl)
end Go.Proofs.YtejinebghgaigaaGreatDoor
