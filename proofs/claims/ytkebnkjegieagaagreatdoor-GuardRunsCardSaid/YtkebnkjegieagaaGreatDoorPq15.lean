/- Proved here: the card of GuardRuns, as it is given, with no condition beyond those of the statement itself. -/
import Derived.Test.YtkebnkjegieagaaGreatDoorPq14
import Derived.ChangeMaps5
import Derived.Test.YtkebnkjegieagaaGreatDoorCards
import Derived.Test.YtkebnkjegieagaaGreatDoorTie
set_option linter.unusedVariables false
set_option linter.unusedSimpArgs false
open Go.Proofs.Tryz renaming checked->tJ,prog->xV,f3->tI,func3->tK
open ByteArray renaming empty->zA
open List renaming not_mem_nil->xT
open Option.some renaming inj->uh
namespace Go.Proofs.YtkebnkjegieagaaGreatDoor
open Go Go.Sx Go.Proofs Go.ChangeShapes Go.WideShapes Go.ChangeAt Go.RowKit Go.ChangeMaps
set_option maxRecDepth 100000 in
theorem gruns_lifted(os:Os)(k:os.Started)(H:Type)(enc:TypeId×Value->H):
  ReturnsInHanded {} tJ os 3 .any (λw args=>(Rows.guardRunsSpec.pre enc xV tI [] false w args/\laidMetH xV Gi w)/\sizedMet enc xV tI (OpenSpec.ofChange Rows.guardRunsSpec) false w args)
   (Rows.guardRunsSpec.post enc xV tI false true false false):=by
 refine returnsInHanded_of_change_and (C:=tJ) (X:=λw _=>laidMetH xV Gi w) (λ_ _ _ d h=>h.of_heap d) Tryz.own k (by kernel_rfl) tK
  (N4 (C:=tJ) (os:=os) (enc:=enc) (X:=λw _=>laidMetH xV Gi w) (Mg os) #[.agg #[.string zA,.slice none 0 0,.slice none 0 0,.slice none 0 0,.slice none 0 0,.slice none 0 0,.slice none 0 0,.slice none 0 0],.agg #[.slice none 0 0,.slice none 0 0],.agg #[.string zA,.slice none 0 0],.slice none 0 0,.int .i64 0] 8 rfl (by kernel_rfl) (by kernel_rfl) (by kernel_rfl) (by kernel_rfl) (by kernel_rfl) (KG.2 (N3 os _))) ?_
 intro W base args ds gs y f o _ _ s _;have u:=o;obtain⟨p,q,x,j,rfl,J,G⟩:=o;have i:DataW.TrodAll enc xV W 0 (λ_=>true) true tI.params.toList args.toList ds p:=x;have c:DataW.TrodVars enc xV W (λ_=>true) [] gs q:=j;rw[Tryz.params3]at i;have l:=i;obtain⟨B,D,E,N,Z,K,S,T,U,d4,p0,p1,Y,p3,Q,rfl,rfl,rfl,P,n,m,b,O⟩:=N5 i;obtain⟨rfl,rfl⟩:gs=[]/\q=[]:=by
  cases gs with
  |nil=>exact⟨rfl,c⟩
  |cons g r=>exact absurd c (by intro h;cases h)
 obtain⟨A,rfl,k0⟩:=desc_of P;obtain⟨I,rfl,M⟩:=mem_of n;obtain⟨F,L,z2,rfl,R⟩:=call_of m;obtain⟨x3,y3,rfl,V⟩:=strs_of (f 3 37 N (by kernel_rfl) rfl) b;obtain⟨x4,rfl,-,-,k4⟩:=open_int Tryz.underlying3 (f 4 3 Z (by kernel_rfl) rfl) O;haveI:=tab_laid (KG.1 s);have z:=u.lt;rw[List.append_nil]at z;refine(Gu (same_old (cRuns k0 M R V)) ?_:Calls xV _ #[A.v,I.v,.agg #[.string F,L.v],x3.v,.int .i64 x4] W _);rintro e W' ⟨rfl,n,m,b,hold⟩;refine⟨_,rfl,_,_,_,[],p0++(p1++(Y++(p3++Q))),[],u,?_,?_,rfl,kept n m hold _,λh=>by cases h⟩;.exact trodAll_mk1 (shut_bool Tryz.underlying4 true)
 .exact Mh hold (ts:=[30,34,36,37,3]) (by
   intro t a;simp only[List.mem_cons,xT,or_false]at a;rcases a with rfl|rfl|rfl|rfl|rfl;.exact⟨by kernel_rfl,of_decide_eq_true (by kernel_rfl)⟩
   .exact⟨by kernel_rfl,of_decide_eq_true (by kernel_rfl)⟩
   .exact⟨by kernel_rfl,of_decide_eq_true (by kernel_rfl)⟩
   .exact⟨by kernel_rfl,of_decide_eq_true (by kernel_rfl)⟩
   .exact⟨by kernel_rfl,of_decide_eq_true (by kernel_rfl)⟩) l z
theorem gruns_holds:Rows.GuardRunsSaid:=
 OpenClaim.holds_of_wide 3 tI rfl rfl rfl rfl rfl rfl rfl ⟨rfl,rfl,rfl,rfl,rfl⟩ rfl rfl rfl rfl rfl (by kernel_rfl) tK gruns_facts
  (of_decide_eq_true (by kernel_rfl)) (by unfold Func.isWrapper;first|(rw[if_pos (by decide+kernel)];kernel_rfl)|(rw[if_neg (by decide+kernel)];exact⟨rfl,rfl⟩))
  (λos h H enc _=>gruns_lifted os h H enc)
theorem gruns_card:Rows.GuardRunsCardSaid:=
 Claim7.holds_tied_plain_at .later [] [.listed,.data] true (true, "d18e7ec0b62029c8899e74f6be6398170469de21da93098eb43adbf3bef1c512") true
  gruns_holds (λ_ h=>by cases h) (by as_aux_lemma=>kernel_rfl) (λ_ h=>by cases h) guardRuns_row_tie rfl ⟨rfl,rfl⟩ (by as_aux_lemma=>kernel_rfl) rfl
  (λf fn g k=>by
   obtain rfl:f=3:=uh ((show xV.funcNamed Rows.guardRunsRow.func=some 3 by kernel_rfl).symm.trans g)|>.symm;obtain rfl:fn=tI:=(uh (tK.symm.trans k)).symm;exact⟨by as_aux_lemma=>kernel_rfl,λj t u=>by
    have hm:t∈tI.params.toList:=by
     rw[Array.mem_toList_iff];exact Array.mem_of_getElem? (by simpa using u)
    rw[Tryz.params3]at hm;simp only[List.mem_cons,xT,or_false]at hm;rcases hm with rfl|rfl|rfl|rfl|rfl;.exact(show xV.wantsStandIn 30=false by as_aux_lemma=>kernel_rfl)
    .exact(show xV.wantsStandIn 34=false by as_aux_lemma=>kernel_rfl)
    .exact(show xV.wantsStandIn 36=false by as_aux_lemma=>kernel_rfl)
    .exact(show xV.wantsStandIn 37=false by as_aux_lemma=>kernel_rfl)
    .exact(show xV.wantsStandIn 3=false by as_aux_lemma=>kernel_rfl)⟩)
  (by as_aux_lemma=>kernel_rfl)
end Go.Proofs.YtkebnkjegieagaaGreatDoor
