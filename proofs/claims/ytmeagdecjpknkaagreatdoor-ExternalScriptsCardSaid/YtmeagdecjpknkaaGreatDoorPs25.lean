/- Proved here: the card of ExternalScripts, as it is given, with no condition beyond those of the statement itself. -/
import Derived.Test.YtmeagdecjpknkaaGreatDoorPs18
import Derived.Test.YtmeagdecjpknkaaGreatDoorPs23
import Derived.Test.YtmeagdecjpknkaaGreatDoorPs24
import Derived.ChangeMaps5
import Derived.Test.YtmeagdecjpknkaaGreatDoorCards
import Derived.Test.YtmeagdecjpknkaaGreatDoorTie
set_option linter.unusedVariables false
set_option linter.unusedSimpArgs false
open Go.Proofs.Tryz renaming checked->ui,prog->xE,f6->uj,func6->uh,underlying3->wi
open List renaming not_mem_nil->xC
open Option.some renaming inj->vR
namespace Go.Proofs.YtmeagdecjpknkaaGreatDoor
open Go Go.Sx Go.Proofs Go.ChangeShapes Go.WideShapes Go.ChangeAt Go.RowKit Go.ChangeMaps
set_option maxRecDepth 100000 in
theorem xscripts_lifted(os:Os)(f:os.Started)(H:Type)(enc:TypeId×Value->H):
  ReturnsInHanded {} ui os 6 .any (λw args=>(Rows.externalScriptsSpec.pre enc xE uj [] false w args/\laidMetH xE laid0 w)/\sizedMet enc xE uj (OpenSpec.ofChange Rows.externalScriptsSpec) false w args)
   (Rows.externalScriptsSpec.post enc xE uj false true false false):=by
 refine returnsInHanded_of_change_and (C:=ui) (X:=λw _=>laidMetH xE laid0 w) (λ_ _ _ b h=>h.of_heap b) Tryz.own f (by kernel_rfl) uh
  (wit (C:=ui) (os:=os) (enc:=enc) (X:=λw _=>laidMetH xE laid0 w) (laidWorld os) #[.agg #[.string ByteArray.empty,.slice none 0 0,.slice none 0 0,.slice none 0 0,.slice none 0 0,.slice none 0 0,.slice none 0 0,.slice none 0 0],.slice none 0 0,.int .i64 0,.int .i64 0,.int .i64 0,.int .i64 0] 8 rfl (by kernel_rfl) (by kernel_rfl) (by kernel_rfl) (by kernel_rfl) (by kernel_rfl) (qIf.2 (qLM os _))) ?_
 intro W base args ds gs x k m _ _ a _;have z:=m;obtain⟨p,q,j,i,rfl,d,s⟩:=m;have l:DataW.TrodAll enc xE W 0 (λ_=>true) true uj.params.toList args.toList ds p:=j;have o:DataW.TrodVars enc xE W (λ_=>true) [] gs q:=i;rw[Tryz.params6]at l;have n:=l;obtain⟨E,J,G,N,Z,Y,K,d1,d2,d3,S,T,p0,p1,Q,p3,P,O,rfl,rfl,rfl,h0,h1,h2,h3,h4,A⟩:=trodAll_six l;obtain⟨rfl,rfl⟩:gs=[]/\q=[]:=by
  cases gs with
  |nil=>exact⟨rfl,o⟩
  |cons g r=>exact absurd o (by intro h;cases h)
 obtain⟨I,rfl,M⟩:=desc_of h0;obtain⟨F,U,rfl,L⟩:=cls_of (k 1 71 J (by kernel_rfl) rfl) h1;obtain⟨R,rfl,-,-,k2⟩:=open_int wi (k 2 3 G (by kernel_rfl) rfl) h2;obtain⟨V,rfl,-,-,k3⟩:=open_int wi (k 3 3 N (by kernel_rfl) rfl) h3;obtain⟨B,rfl,-,-,k4⟩:=open_int wi (k 4 3 Z (by kernel_rfl) rfl) h4;obtain⟨D,rfl,-,-,k5⟩:=open_int wi (k 5 3 Y (by kernel_rfl) rfl) A;haveI:=tab_laid (qIf.1 a);have y:=z.lt;rw[List.append_nil]at y;refine(qDp (same_old (c6 M L)) ?_:Calls xE _ #[I.v,F.v,.int .i64 R,.int .i64 V,.int .i64 B,.int .i64 D] W _);rintro e W' ⟨rfl,h1,h2,h3,u⟩;refine⟨_,rfl,_,_,_,[],p0++(p1++(Q++(p3++(P++O)))),[],z,?_,?_,rfl,kept h1 h2 u _,λh=>by cases h⟩;·exact trodAll_mk1 (shut_bool Tryz.underlying4 true)
 ·exact again_all u (ts:=[30,71,3,3,3,3]) (by
   intro t c;simp only[List.mem_cons,xC,or_false]at c;rcases c with rfl|rfl|rfl|rfl|rfl|rfl;·exact⟨by kernel_rfl,of_decide_eq_true (by kernel_rfl)⟩
   ·exact⟨by kernel_rfl,of_decide_eq_true (by kernel_rfl)⟩
   ·exact⟨by kernel_rfl,of_decide_eq_true (by kernel_rfl)⟩
   ·exact⟨by kernel_rfl,of_decide_eq_true (by kernel_rfl)⟩
   ·exact⟨by kernel_rfl,of_decide_eq_true (by kernel_rfl)⟩
   ·exact⟨by kernel_rfl,of_decide_eq_true (by kernel_rfl)⟩) n y
theorem xscripts_holds:Rows.ExternalScriptsSaid:=
 OpenClaim.holds_of_wide 6 uj rfl rfl rfl rfl rfl rfl rfl ⟨rfl,rfl,rfl,rfl,rfl⟩ rfl rfl rfl rfl rfl (by kernel_rfl) uh qKh
  (of_decide_eq_true (by kernel_rfl)) (by unfold Func.isWrapper;first|(rw[if_pos (by decide+kernel)];kernel_rfl)|(rw[if_neg (by decide+kernel)];exact⟨rfl,rfl⟩))
  (λos h H enc _=>xscripts_lifted os h H enc)
theorem xscripts_card:Rows.ExternalScriptsCardSaid:=
 Claim7.holds_tied_plain_at .later [] [.listed,.data] true (true, "99e446f510d6d5fdedf0a2dd7c0fcbc4cb61f4f1aa15e0f86652079d8e99abc7") true
  xscripts_holds (λ_ h=>by cases h) (by as_aux_lemma=>kernel_rfl) (λ_ h=>by cases h) externalScripts_row_tie rfl ⟨rfl,rfl⟩ (by as_aux_lemma=>kernel_rfl) rfl
  (λf fn g k=>by
   obtain rfl:f=6:=vR ((show xE.funcNamed Rows.externalScriptsRow.func=some 6 by kernel_rfl).symm.trans g)|>.symm;obtain rfl:fn=uj:=(vR (uh.symm.trans k)).symm;exact⟨by as_aux_lemma=>kernel_rfl,λj t u=>by
    have hm:t∈uj.params.toList:=by
     rw[Array.mem_toList_iff];exact Array.mem_of_getElem? (by simpa using u)
    rw[Tryz.params6]at hm;simp only[List.mem_cons,xC,or_false]at hm;rcases hm with rfl|rfl|rfl|rfl|rfl|rfl;·exact(show xE.wantsStandIn 30=false by as_aux_lemma=>kernel_rfl)
    ·exact(show xE.wantsStandIn 71=false by as_aux_lemma=>kernel_rfl)
    ·exact(show xE.wantsStandIn 3=false by as_aux_lemma=>kernel_rfl)
    ·exact(show xE.wantsStandIn 3=false by as_aux_lemma=>kernel_rfl)
    ·exact(show xE.wantsStandIn 3=false by as_aux_lemma=>kernel_rfl)
    ·exact(show xE.wantsStandIn 3=false by as_aux_lemma=>kernel_rfl)⟩)
  (by as_aux_lemma=>kernel_rfl)
end Go.Proofs.YtmeagdecjpknkaaGreatDoor
