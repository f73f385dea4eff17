/- Proved here: the card of GuardScripts, as it is given, with no condition beyond those of the statement itself. -/
import Derived.Test.YtkebnkjegieagaaGreatDoorPq17
import Derived.ChangeMaps5
import Derived.Test.YtkebnkjegieagaaGreatDoorCards
import Derived.Test.YtkebnkjegieagaaGreatDoorTie
set_option linter.unusedVariables false
set_option linter.unusedSimpArgs false
open Go.Proofs.Tryz renaming checked->tJ,prog->xV,f4->tO,func4->tP
open List renaming not_mem_nil->xT
open Option.some renaming inj->uh
namespace Go.Proofs.YtkebnkjegieagaaGreatDoor
open Go Go.Sx Go.Proofs Go.ChangeShapes Go.WideShapes Go.ChangeAt Go.RowKit Go.ChangeMaps
set_option maxRecDepth 100000 in
theorem gscr_lifted(os:Os)(f:os.Started)(H:Type)(enc:TypeId×Value->H):
  ReturnsInHanded {} tJ os 4 .any (λw args=>(Rows.guardScriptsSpec.pre enc xV tO [] false w args/\laidMetH xV Gi w)/\sizedMet enc xV tO (OpenSpec.ofChange Rows.guardScriptsSpec) false w args)
   (Rows.guardScriptsSpec.post enc xV tO false true false false):=by
 refine returnsInHanded_of_change_and (C:=tJ) (X:=λw _=>laidMetH xV Gi w) (λ_ _ _ d h=>h.of_heap d) Tryz.own f (by kernel_rfl) tP
  (N4 (C:=tJ) (os:=os) (enc:=enc) (X:=λw _=>laidMetH xV Gi w) (Mg os) #[.agg #[.string ByteArray.empty,.slice none 0 0,.slice none 0 0,.slice none 0 0,.slice none 0 0,.slice none 0 0,.slice none 0 0,.slice none 0 0],.agg #[.slice none 0 0,.slice none 0 0],.slice none 0 0,.slice none 0 0,.int .i64 0] 8 rfl (by kernel_rfl) (by kernel_rfl) (by kernel_rfl) (by kernel_rfl) (by kernel_rfl) (KG.2 (N3 os _))) ?_
 intro W base args ds gs y k o _ _ s _;have u:=o;obtain⟨p,q,x,j,rfl,J,G⟩:=o;have i:DataW.TrodAll enc xV W 0 (λ_=>true) true tO.params.toList args.toList ds p:=x;have c:DataW.TrodVars enc xV W (λ_=>true) [] gs q:=j;rw[Tryz.params4]at i;have l:=i;obtain⟨B,D,N,Z,Y,E,K,S,T,U,p0,p1,Q,p3,P,rfl,rfl,rfl,O,n,m,b,A⟩:=N5 i;obtain⟨rfl,rfl⟩:gs=[]/\q=[]:=by
  cases gs with
  |nil=>exact⟨rfl,c⟩
  |cons g r=>exact absurd c (by intro h;cases h)
 obtain⟨I,rfl,k0⟩:=desc_of O;obtain⟨M,rfl,F⟩:=mem_of n;obtain⟨L,y2,rfl,R⟩:=cls_of (k 2 57 N (by kernel_rfl) rfl) m;obtain⟨x3,y3,rfl,V⟩:=strs_of (k 3 37 Z (by kernel_rfl) rfl) b;obtain⟨x4,rfl,-,-,k4⟩:=open_int Tryz.underlying3 (k 4 3 Y (by kernel_rfl) rfl) A;haveI:=tab_laid (KG.1 s);have z:=u.lt;rw[List.append_nil]at z;refine(Gu (same_old (cScripts k0 F R V)) ?_:Calls xV _ #[I.v,M.v,L.v,x3.v,.int .i64 x4] W _);rintro e W' ⟨rfl,n,m,b,hold⟩;refine⟨_,rfl,_,_,_,[],p0++(p1++(Q++(p3++P))),[],u,?_,?_,rfl,kept n m hold _,λh=>by cases h⟩;.exact trodAll_mk1 (shut_bool Tryz.underlying4 true)
 .exact Mh hold (ts:=[30,34,57,37,3]) (by
   intro t a;simp only[List.mem_cons,xT,or_false]at a;rcases a with rfl|rfl|rfl|rfl|rfl;.exact⟨by kernel_rfl,of_decide_eq_true (by kernel_rfl)⟩
   .exact⟨by kernel_rfl,of_decide_eq_true (by kernel_rfl)⟩
   .exact⟨by kernel_rfl,of_decide_eq_true (by kernel_rfl)⟩
   .exact⟨by kernel_rfl,of_decide_eq_true (by kernel_rfl)⟩
   .exact⟨by kernel_rfl,of_decide_eq_true (by kernel_rfl)⟩) l z
theorem gscr_holds:Rows.GuardScriptsSaid:=
 OpenClaim.holds_of_wide 4 tO rfl rfl rfl rfl rfl rfl rfl ⟨rfl,rfl,rfl,rfl,rfl⟩ rfl rfl rfl rfl rfl (by kernel_rfl) tP gscr_facts
  (of_decide_eq_true (by kernel_rfl)) (by unfold Func.isWrapper;first|(rw[if_pos (by decide+kernel)];kernel_rfl)|(rw[if_neg (by decide+kernel)];exact⟨rfl,rfl⟩))
  (λos h H enc _=>gscr_lifted os h H enc)
theorem gscr_card:Rows.GuardScriptsCardSaid:=
 Claim7.holds_tied_plain_at .later [] [.listed,.data] true (true, "d18e7ec0b62029c8899e74f6be6398170469de21da93098eb43adbf3bef1c512") true
  gscr_holds (λ_ h=>by cases h) (by as_aux_lemma=>kernel_rfl) (λ_ h=>by cases h) guardScripts_row_tie rfl ⟨rfl,rfl⟩ (by as_aux_lemma=>kernel_rfl) rfl
  (λf fn g k=>by
   obtain rfl:f=4:=uh ((show xV.funcNamed Rows.guardScriptsRow.func=some 4 by kernel_rfl).symm.trans g)|>.symm;obtain rfl:fn=tO:=(uh (tP.symm.trans k)).symm;exact⟨by as_aux_lemma=>kernel_rfl,λj t u=>by
    have hm:t∈tO.params.toList:=by
     rw[Array.mem_toList_iff];exact Array.mem_of_getElem? (by simpa using u)
    rw[Tryz.params4]at hm;simp only[List.mem_cons,xT,or_false]at hm;rcases hm with rfl|rfl|rfl|rfl|rfl;.exact(show xV.wantsStandIn 30=false by as_aux_lemma=>kernel_rfl)
    .exact(show xV.wantsStandIn 34=false by as_aux_lemma=>kernel_rfl)
    .exact(show xV.wantsStandIn 57=false by as_aux_lemma=>kernel_rfl)
    .exact(show xV.wantsStandIn 37=false by as_aux_lemma=>kernel_rfl)
    .exact(show xV.wantsStandIn 3=false by as_aux_lemma=>kernel_rfl)⟩)
  (by as_aux_lemma=>kernel_rfl)
end Go.Proofs.YtkebnkjegieagaaGreatDoor
