/- Proved here: the card of GuardPlain, as it is given, with no condition beyond those of the statement itself. -/
import Derived.Test.YtcebnmieadkjfaaGreatDoorPg22
import Derived.Test.YtcebnmieadkjfaaGreatDoorPg23
import Derived.ChangeMaps5
import Derived.Test.YtcebnmieadkjfaaGreatDoorCards
import Derived.Test.YtcebnmieadkjfaaGreatDoorTie
set_option linter.unusedVariables false
set_option linter.unusedSimpArgs false
open Go.Proofs.Tryz renaming checked->uo,prog->xG,f3->uq,func3->um
open ByteArray renaming empty->zA
open List renaming not_mem_nil->xD
open Option.some renaming inj->uK
namespace Go.Proofs.YtcebnmieadkjfaaGreatDoor
open Go Go.Sx Go.Proofs Go.ChangeShapes Go.WideShapes Go.ChangeAt Go.RowKit Go.ChangeMaps
set_option maxRecDepth 100000 in
theorem gplain_lifted(os:Os)(k:os.Started)(H:Type)(enc:TypeId×Value->H):
  ReturnsInHanded {} uo os 3 .any (λw args=>(Rows.guardPlainSpec.pre enc xG uq [] false w args/\laidMetH xG laid0 w)/\sizedMet enc xG uq (OpenSpec.ofChange Rows.guardPlainSpec) false w args)
   (Rows.guardPlainSpec.post enc xG uq false true false false):=by
 refine returnsInHanded_of_change_and (C:=uo) (X:=λw _=>laidMetH xG laid0 w) (λ_ _ _ d h=>h.of_heap d) Tryz.own k (by kernel_rfl) um
  (Pw (C:=uo) (os:=os) (enc:=enc) (X:=λw _=>laidMetH xG laid0 w) (laidWorld os) #[.agg #[.string zA,.slice none 0 0,.slice none 0 0,.slice none 0 0,.slice none 0 0,.slice none 0 0,.slice none 0 0,.slice none 0 0],.agg #[.slice none 0 0,.slice none 0 0],.agg #[.string zA,.slice none 0 0],.slice none 0 0,.int .i64 0] 8 rfl (by kernel_rfl) (by kernel_rfl) (by kernel_rfl) (by kernel_rfl) (by kernel_rfl) (MJ.2 (Pv os _))) ?_
 intro W base args ds gs y f o _ _ s _;have u:=o;obtain⟨p,q,x,j,rfl,J,G⟩:=o;have i:DataW.TrodAll enc xG W 0 (λ_=>true) true uq.params.toList args.toList ds p:=x;have c:DataW.TrodVars enc xG W (λ_=>true) [] gs q:=j;rw[Tryz.params3]at i;have l:=i;obtain⟨B,D,E,N,Z,K,S,T,U,d4,p0,p1,Y,p3,Q,rfl,rfl,rfl,P,n,m,b,O⟩:=trodAll_five i;obtain⟨rfl,rfl⟩:gs=[]/\q=[]:=by
  cases gs with
  |nil=>exact⟨rfl,c⟩
  |cons g r=>exact absurd c (by intro h;cases h)
 obtain⟨A,rfl,k0⟩:=desc_of P;obtain⟨I,rfl,M⟩:=mem_of n;obtain⟨F,L,z2,rfl,R⟩:=call_of m;obtain⟨x3,y3,rfl,V⟩:=strs_of (f 3 37 N (by kernel_rfl) rfl) b;obtain⟨x4,rfl,-,-,k4⟩:=open_int Tryz.underlying3 (f 4 3 Z (by kernel_rfl) rfl) O;haveI:=tab_laid (MJ.1 s);have z:=u.lt;rw[List.append_nil]at z;refine(Gn (same_old (cPlain k0 M R V)) ?_:Calls xG _ #[A.v,I.v,.agg #[.string F,L.v],x3.v,.int .i64 x4] W _);rintro e W' ⟨rfl,n,m,b,hold⟩;refine⟨_,rfl,_,_,_,[],p0++(p1++(Y++(p3++Q))),[],u,?_,?_,rfl,kept n m hold _,λh=>by cases h⟩;·exact trodAll_mk1 (shut_bool Tryz.underlying4 true)
 ·exact again_all hold (ts:=[30,34,36,37,3]) (by
   intro t a;simp only[List.mem_cons,xD,or_false]at a;rcases a with rfl|rfl|rfl|rfl|rfl;·exact⟨by kernel_rfl,of_decide_eq_true (by kernel_rfl)⟩
   ·exact⟨by kernel_rfl,of_decide_eq_true (by kernel_rfl)⟩
   ·exact⟨by kernel_rfl,of_decide_eq_true (by kernel_rfl)⟩
   ·exact⟨by kernel_rfl,of_decide_eq_true (by kernel_rfl)⟩
   ·exact⟨by kernel_rfl,of_decide_eq_true (by kernel_rfl)⟩) l z
theorem gplain_holds:Rows.GuardPlainSaid:=
 OpenClaim.holds_of_wide 3 uq rfl rfl rfl rfl rfl rfl rfl ⟨rfl,rfl,rfl,rfl,rfl⟩ rfl rfl rfl rfl rfl (by kernel_rfl) um gplain_facts
  (of_decide_eq_true (by kernel_rfl)) (by unfold Func.isWrapper;first|(rw[if_pos (by decide+kernel)];kernel_rfl)|(rw[if_neg (by decide+kernel)];exact⟨rfl,rfl⟩))
  (λos h H enc _=>gplain_lifted os h H enc)
theorem gplain_card:Rows.GuardPlainCardSaid:=
 Claim7.holds_tied_plain_at .later [] [.listed,.data] true (true, "f2889a6f2b0e5a6ea401e41f2f7bd0c46c20323cde478dd572aa74aed6002ee4") true
  gplain_holds (λ_ h=>by cases h) (by as_aux_lemma=>kernel_rfl) (λ_ h=>by cases h) guardPlain_row_tie rfl ⟨rfl,rfl⟩ (by as_aux_lemma=>kernel_rfl) rfl
  (λf fn g k=>by
   obtain rfl:f=3:=uK ((show xG.funcNamed Rows.guardPlainRow.func=some 3 by kernel_rfl).symm.trans g)|>.symm;obtain rfl:fn=uq:=(uK (um.symm.trans k)).symm;exact⟨by as_aux_lemma=>kernel_rfl,λj t u=>by
    have hm:t∈uq.params.toList:=by
     rw[Array.mem_toList_iff];exact Array.mem_of_getElem? (by simpa using u)
    rw[Tryz.params3]at hm;simp only[List.mem_cons,xD,or_false]at hm;rcases hm with rfl|rfl|rfl|rfl|rfl;·exact(show xG.wantsStandIn 30=false by as_aux_lemma=>kernel_rfl)
    ·exact(show xG.wantsStandIn 34=false by as_aux_lemma=>kernel_rfl)
    ·exact(show xG.wantsStandIn 36=false by as_aux_lemma=>kernel_rfl)
    ·exact(show xG.wantsStandIn 37=false by as_aux_lemma=>kernel_rfl)
    ·exact(show xG.wantsStandIn 3=false by as_aux_lemma=>kernel_rfl)⟩)
  (by as_aux_lemma=>kernel_rfl)
end Go.Proofs.YtcebnmieadkjfaaGreatDoor
