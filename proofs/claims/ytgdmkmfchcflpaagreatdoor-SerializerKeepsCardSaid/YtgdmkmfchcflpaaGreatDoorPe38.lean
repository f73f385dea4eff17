/- Proved here: the card of SerializerKeeps, as it is given, with no condition beyond those of the statement itself. -/
import Derived.Test.YtgdmkmfchcflpaaGreatDoorPe37
import Derived.ChangeMaps5
import Derived.Test.YtgdmkmfchcflpaaGreatDoorCards
import Derived.Test.YtgdmkmfchcflpaaGreatDoorTie
set_option linter.unusedVariables false
set_option linter.unusedSimpArgs false
open Go.Proofs.Tryz renaming checked->tI,prog->xE,f3->tM,func3->tN
open List renaming not_mem_nil->xC
open Option.some renaming inj->wR
namespace Go.Proofs.YtgdmkmfchcflpaaGreatDoor
open Go Go.Sx Go.Proofs Go.ChangeShapes Go.WideShapes Go.ChangeAt Go.RowKit Go.ChangeMaps
set_option maxRecDepth 100000 in
theorem skeeps_lifted(os:Os)(f:os.Started)(H:Type)(enc:TypeId×Value->H):
  ReturnsInHanded {} tI os 3 .any (λw args=>(Rows.serializerKeepsSpec.pre enc xE tM [] false w args/\laidMetH xE Dr w)/\sizedMet enc xE tM (OpenSpec.ofChange Rows.serializerKeepsSpec) false w args)
   (Rows.serializerKeepsSpec.post enc xE tM false true false false):=by
 refine returnsInHanded_of_change_and (C:=tI) (X:=λw _=>laidMetH xE Dr w) (λ_ _ _ s h=>h.of_heap s) Tryz.own f (by kernel_rfl) tN
  (H5 (C:=tI) (os:=os) (enc:=enc) (X:=λw _=>laidMetH xE Dr w) (Hm os) #[.agg #[.string ByteArray.empty,.slice none 0 0,.slice none 0 0,.slice none 0 0,.slice none 0 0,.slice none 0 0,.slice none 0 0,.slice none 0 0],.slice none 0 0,.int .i64 0,.int .u8 0] 8 rfl (by kernel_rfl) (by kernel_rfl) (by kernel_rfl) (by kernel_rfl) (by kernel_rfl) (E8.2 (H3 os _))) ?_
 intro W base args ds gs x k c _ _ J _;have z:=c;obtain⟨p,q,j,i,rfl,G,N⟩:=c;have l:DataW.TrodAll enc xE W 0 (λ_=>true) true tM.params.toList args.toList ds p:=j;have b:DataW.TrodVars enc xE W (λ_=>true) [] gs q:=i;rw[Tryz.params3]at l;have n:=l;obtain⟨V,Z,Y,Q,B,D,E,K,p0,p1,P,p3,rfl,rfl,rfl,O,m,o,a⟩:=trodAll_four l;obtain⟨rfl,rfl⟩:gs=[]/\q=[]:=by
  cases gs with
  |nil=>exact⟨rfl,b⟩
  |cons g r=>exact absurd b (by intro h;cases h)
 obtain⟨A,rfl,I⟩:=JT O;obtain⟨M,S,rfl,F⟩:=JV (k 1 31 Z (by kernel_rfl) rfl) m;obtain⟨L,rfl,-,-,T⟩:=open_int Tryz.underlying3 (k 2 3 Y (by kernel_rfl) rfl) o;obtain⟨x3,rfl,-,-,R⟩:=open_int Tryz.underlying5 (k 3 5 Q (by kernel_rfl) rfl) a;haveI:=H4 (E8.1 J);have y:=z.lt;rw[List.append_nil]at y;refine(Fk (H2 (c3 I F (Pz R))) ?_:Calls xE _ #[A.v,M.v,.int .i64 L,.int .u8 x3] W _);rintro e U ⟨rfl,m,o,a,u⟩;refine⟨_,rfl,_,_,_,[],p0++p1++P++p3,[],z,?_,?_,rfl,kept m o u _,λh=>by cases h⟩;·exact trodAll_mk1 (shut_bool Tryz.underlying4 true)
 ·exact Hn u (ts:=[30,31,3,5]) (by
   intro t d;simp only[List.mem_cons,xC,or_false]at d;rcases d with rfl|rfl|rfl|rfl;·exact⟨by kernel_rfl,of_decide_eq_true (by kernel_rfl)⟩
   ·exact⟨by kernel_rfl,of_decide_eq_true (by kernel_rfl)⟩
   ·exact⟨by kernel_rfl,of_decide_eq_true (by kernel_rfl)⟩
   ·exact⟨by kernel_rfl,of_decide_eq_true (by kernel_rfl)⟩) n y
theorem skeeps_holds:Rows.SerializerKeepsSaid:=
 OpenClaim.holds_of_wide 3 tM rfl rfl rfl rfl rfl rfl rfl ⟨rfl,rfl,rfl,rfl,rfl⟩ rfl rfl rfl rfl rfl (by kernel_rfl) tN skeeps_facts
  (of_decide_eq_true (by kernel_rfl)) (by unfold Func.isWrapper;first|(rw[if_pos (by decide+kernel)];kernel_rfl)|(rw[if_neg (by decide+kernel)];exact⟨rfl,rfl⟩))
  (λos h H enc _=>skeeps_lifted os h H enc)
theorem skeeps_card:Rows.SerializerKeepsCardSaid:=
 Claim7.holds_tied_plain_at .later [] [.listed,.data] true (true, "3bd207a272a8885aebe866ee4164e02c7dde111f027890948da3109e9f894133") false
  skeeps_holds (λ_ h=>by cases h) (by as_aux_lemma=>kernel_rfl) (λ_ h=>by cases h) serializerKeeps_row_tie rfl ⟨rfl,rfl⟩ (by as_aux_lemma=>kernel_rfl) rfl
  (λf fn g k=>by
   obtain rfl:f=3:=wR ((show xE.funcNamed Rows.serializerKeepsRow.func=some 3 by kernel_rfl).symm.trans g)|>.symm;obtain rfl:fn=tM:=(wR (tN.symm.trans k)).symm;exact⟨by as_aux_lemma=>kernel_rfl,λj t u=>by
    have hm:t∈tM.params.toList:=by
     rw[Array.mem_toList_iff];exact Array.mem_of_getElem? (by simpa using u)
    rw[Tryz.params3]at hm;simp only[List.mem_cons,xC,or_false]at hm;rcases hm with rfl|rfl|rfl|rfl;·exact(show xE.wantsStandIn 30=false by as_aux_lemma=>kernel_rfl)
    ·exact(show xE.wantsStandIn 31=false by as_aux_lemma=>kernel_rfl)
    ·exact(show xE.wantsStandIn 3=false by as_aux_lemma=>kernel_rfl)
    ·exact(show xE.wantsStandIn 5=false by as_aux_lemma=>kernel_rfl)⟩)
  (by as_aux_lemma=>kernel_rfl)
end Go.Proofs.YtgdmkmfchcflpaaGreatDoor
