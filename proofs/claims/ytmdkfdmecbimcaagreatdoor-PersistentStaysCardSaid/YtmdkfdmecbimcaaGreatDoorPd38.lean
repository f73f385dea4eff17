/- Proved here: the card of PersistentStays, as it is given, with no condition beyond those of the statement itself. -/
import Derived.Test.YtmdkfdmecbimcaaGreatDoorPd20
import Derived.Test.YtmdkfdmecbimcaaGreatDoorPd37
import Derived.ChangeMaps5
import Derived.Test.YtmdkfdmecbimcaaGreatDoorCards
import Derived.Test.YtmdkfdmecbimcaaGreatDoorTie
set_option linter.unusedVariables false
set_option linter.unusedSimpArgs false
open Go.Proofs.Tryz renaming checked->ua,prog->xS,f6->tD,func6->tE
open ByteArray renaming empty->zA
open List renaming not_mem_nil->xQ
open Option.some renaming inj->vk
namespace Go.Proofs.YtmdkfdmecbimcaaGreatDoor
open Go Go.Sx Go.Proofs Go.ChangeShapes Go.WideShapes Go.ChangeAt Go.RowKit Go.ChangeMaps
set_option maxRecDepth 100000 in
theorem pstays_lifted(os:Os)(k:os.Started)(H:Type)(enc:TypeId×Value->H):
  ReturnsInHanded {} ua os 6 .any (λw args=>(Rows.persistentStaysSpec.pre enc xS tD [] false w args/\laidMetH xS DW w)/\sizedMet enc xS tD (OpenSpec.ofChange Rows.persistentStaysSpec) false w args)
   (Rows.persistentStaysSpec.post enc xS tD false true false false):=by
 refine returnsInHanded_of_change_and (C:=ua) (X:=λw _=>laidMetH xS DW w) (λ_ _ _ b h=>h.of_heap b) Tryz.own k (by kernel_rfl) tE
  (JS (C:=ua) (os:=os) (enc:=enc) (X:=λw _=>laidMetH xS DW w) (I0 os) #[.agg #[.string zA,.slice none 0 0,.slice none 0 0,.slice none 0 0,.slice none 0 0,.slice none 0 0,.slice none 0 0,.slice none 0 0],.slice none 0 0,.slice none 0 0,.agg #[.string zA,.slice none 0 0]] 8 rfl (by kernel_rfl) (by kernel_rfl) (by kernel_rfl) (by kernel_rfl) (by kernel_rfl) (Gq.2 (JQ os _))) ?_
 intro W base args ds gs x f m _ _ a _;have z:=m;obtain⟨p,q,j,i,rfl,d,s⟩:=m;have l:DataW.TrodAll enc xS W 0 (λ_=>true) true tD.params.toList args.toList ds p:=j;have o:DataW.TrodVars enc xS W (λ_=>true) [] gs q:=i;rw[Tryz.params6]at l;have n:=l;obtain⟨v0,J,G,L,R,V,B,D,p0,p1,N,p3,rfl,rfl,rfl,Z,h1,h2,h3⟩:=trodAll_four l;obtain⟨rfl,rfl⟩:gs=[]/\q=[]:=by
  cases gs with
  |nil=>exact⟨rfl,o⟩
  |cons g r=>exact absurd o (by intro h;cases h)
 obtain⟨Y,rfl,Q⟩:=JP Z;obtain⟨P,E,rfl,O⟩:=Jc (f 1 31 J (by kernel_rfl) rfl) h1;obtain⟨A,K,rfl,I⟩:=Jc (f 2 31 G (by kernel_rfl) rfl) h2;obtain⟨x3,M,S,rfl,F⟩:=call_of h3;haveI:=JR (Gq.1 a);have y:=z.lt;rw[List.append_nil]at y;refine(F6 (JO (Sy Kc Q O I F)) ?_:Calls xS _ #[Y.v,P.v,A.v,.agg #[.string x3,M.v]] W _);rintro e T ⟨rfl,h1,h2,h3,u⟩;refine⟨_,rfl,_,_,_,[],p0++p1++N++p3,[],z,?_,?_,rfl,kept h1 h2 u _,λh=>by cases h⟩;·exact trodAll_mk1 (shut_bool Tryz.underlying4 true)
 ·exact I3 u (ts:=[30,31,31,57]) (by
   intro t c;simp only[List.mem_cons,xQ,or_false]at c;rcases c with rfl|rfl|rfl|rfl;·exact⟨by kernel_rfl,of_decide_eq_true (by kernel_rfl)⟩
   ·exact⟨by kernel_rfl,of_decide_eq_true (by kernel_rfl)⟩
   ·exact⟨by kernel_rfl,of_decide_eq_true (by kernel_rfl)⟩
   ·exact⟨by kernel_rfl,of_decide_eq_true (by kernel_rfl)⟩) n y
theorem pstays_holds:Rows.PersistentStaysSaid:=
 OpenClaim.holds_of_wide 6 tD rfl rfl rfl rfl rfl rfl rfl ⟨rfl,rfl,rfl,rfl,rfl⟩ rfl rfl rfl rfl rfl (by kernel_rfl) tE pstays_facts
  (of_decide_eq_true (by kernel_rfl)) (by unfold Func.isWrapper;first|(rw[if_pos (by decide+kernel)];kernel_rfl)|(rw[if_neg (by decide+kernel)];exact⟨rfl,rfl⟩))
  (λos h H enc _=>pstays_lifted os h H enc)
theorem pstays_card:Rows.PersistentStaysCardSaid:=
 Claim7.holds_tied_plain_at .later [] [.listed,.data] true (true, "e07cc6ac13b378ed68c263a1b335f1bd3e83bdd203d679267bb8e5ef9e72052c") true
  pstays_holds (λ_ h=>by cases h) (by as_aux_lemma=>kernel_rfl) (λ_ h=>by cases h) persistentStays_row_tie rfl ⟨rfl,rfl⟩ (by as_aux_lemma=>kernel_rfl) rfl
  (λf fn g k=>by
   obtain rfl:f=6:=vk ((show xS.funcNamed Rows.persistentStaysRow.func=some 6 by kernel_rfl).symm.trans g)|>.symm;obtain rfl:fn=tD:=(vk (tE.symm.trans k)).symm;exact⟨by as_aux_lemma=>kernel_rfl,λj t u=>by
    have hm:t∈tD.params.toList:=by
     rw[Array.mem_toList_iff];exact Array.mem_of_getElem? (by simpa using u)
    rw[Tryz.params6]at hm;simp only[List.mem_cons,xQ,or_false]at hm;rcases hm with rfl|rfl|rfl|rfl;·exact(show xS.wantsStandIn 30=false by as_aux_lemma=>kernel_rfl)
    ·exact(show xS.wantsStandIn 31=false by as_aux_lemma=>kernel_rfl)
    ·exact(show xS.wantsStandIn 31=false by as_aux_lemma=>kernel_rfl)
    ·exact(show xS.wantsStandIn 57=false by as_aux_lemma=>kernel_rfl)⟩)
  (by as_aux_lemma=>kernel_rfl)
end Go.Proofs.YtmdkfdmecbimcaaGreatDoor
