/- Proved here: the card of SerializerSurvives, as it is given, with no condition beyond those of the statement itself. -/
import Derived.Test.YtgdmkmfchcflpaaGreatDoorPe43
import Derived.ChangeMaps5
import Derived.Test.YtgdmkmfchcflpaaGreatDoorCards
import Derived.Test.YtgdmkmfchcflpaaGreatDoorTie
set_option linter.unusedVariables false
set_option linter.unusedSimpArgs false
open Go.Proofs.Tryz renaming checked->tI,prog->xE,f7->tR,func7->tS,underlying3->vJ
open List renaming not_mem_nil->xC
open Option.some renaming inj->wR
namespace Go.Proofs.YtgdmkmfchcflpaaGreatDoor
open Go Go.Sx Go.Proofs Go.ChangeShapes Go.WideShapes Go.ChangeAt Go.RowKit Go.ChangeMaps
set_option maxRecDepth 100000 in
theorem ssurv_lifted(os:Os)(f:os.Started)(H:Type)(enc:TypeId×Value->H):
  ReturnsInHanded {} tI os 7 .any (λw args=>(Rows.serializerSurvivesSpec.pre enc xE tR [] false w args/\laidMetH xE Dr w)/\sizedMet enc xE tR (OpenSpec.ofChange Rows.serializerSurvivesSpec) false w args)
   (Rows.serializerSurvivesSpec.post enc xE tR false true false false):=by
 refine returnsInHanded_of_change_and (C:=tI) (X:=λw _=>laidMetH xE Dr w) (λ_ _ _ s h=>h.of_heap s) Tryz.own f (by kernel_rfl) tS
  (H5 (C:=tI) (os:=os) (enc:=enc) (X:=λw _=>laidMetH xE Dr w) (Hm os) #[.agg #[.string ByteArray.empty,.slice none 0 0,.slice none 0 0,.slice none 0 0,.slice none 0 0,.slice none 0 0,.slice none 0 0,.slice none 0 0],.slice none 0 0,.int .i64 0,.int .i64 0,.int .u16 0] 8 rfl (by kernel_rfl) (by kernel_rfl) (by kernel_rfl) (by kernel_rfl) (by kernel_rfl) (E8.2 (H3 os _))) ?_
 intro W base args ds gs x k c _ _ J _;have z:=c;obtain⟨p,q,j,i,rfl,G,N⟩:=c;have l:DataW.TrodAll enc xE W 0 (λ_=>true) true tR.params.toList args.toList ds p:=j;have b:DataW.TrodVars enc xE W (λ_=>true) [] gs q:=i;rw[Tryz.params7]at l;have n:=l;obtain⟨E,Z,Y,Q,P,K,S,T,U,d4,p0,p1,O,p3,A,rfl,rfl,rfl,I,m,o,a,M⟩:=trodAll_five l;obtain⟨rfl,rfl⟩:gs=[]/\q=[]:=by
  cases gs with
  |nil=>exact⟨rfl,b⟩
  |cons g r=>exact absurd b (by intro h;cases h)
 obtain⟨F,rfl,L⟩:=JT I;obtain⟨R,y1,rfl,V⟩:=JV (k 1 31 Z (by kernel_rfl) rfl) m;obtain⟨B,rfl,-,-,k2⟩:=open_int vJ (k 2 3 Y (by kernel_rfl) rfl) o;obtain⟨x3,rfl,-,-,k3⟩:=open_int vJ (k 3 3 Q (by kernel_rfl) rfl) a;obtain⟨x4,rfl,-,-,D⟩:=open_int Tryz.underlying73 (k 4 73 P (by kernel_rfl) rfl) M;haveI:=H4 (E8.1 J);have y:=z.lt;rw[List.append_nil]at y;refine(Fk (H2 (c7 L V (u16R D))) ?_:Calls xE _ #[F.v,R.v,.int .i64 B,.int .i64 x3,.int .u16 x4] W _);rintro e W' ⟨rfl,m,o,a,u⟩;refine⟨_,rfl,_,_,_,[],p0++(p1++(O++(p3++A))),[],z,?_,?_,rfl,kept m o u _,λh=>by cases h⟩;·exact trodAll_mk1 (shut_bool Tryz.underlying4 true)
 ·exact Hn u (ts:=[30,31,3,3,73]) (by
   intro t d;simp only[List.mem_cons,xC,or_false]at d;rcases d with rfl|rfl|rfl|rfl|rfl;·exact⟨by kernel_rfl,of_decide_eq_true (by kernel_rfl)⟩
   ·exact⟨by kernel_rfl,of_decide_eq_true (by kernel_rfl)⟩
   ·exact⟨by kernel_rfl,of_decide_eq_true (by kernel_rfl)⟩
   ·exact⟨by kernel_rfl,of_decide_eq_true (by kernel_rfl)⟩
   ·exact⟨by kernel_rfl,of_decide_eq_true (by kernel_rfl)⟩) n y
theorem ssurv_holds:Rows.SerializerSurvivesSaid:=
 OpenClaim.holds_of_wide 7 tR rfl rfl rfl rfl rfl rfl rfl ⟨rfl,rfl,rfl,rfl,rfl⟩ rfl rfl rfl rfl rfl (by kernel_rfl) tS ssurv_facts
  (of_decide_eq_true (by kernel_rfl)) (by unfold Func.isWrapper;first|(rw[if_pos (by decide+kernel)];kernel_rfl)|(rw[if_neg (by decide+kernel)];exact⟨rfl,rfl⟩))
  (λos h H enc _=>ssurv_lifted os h H enc)
theorem ssurv_card:Rows.SerializerSurvivesCardSaid:=
 Claim7.holds_tied_plain_at .later [] [.listed,.data] true (true, "3bd207a272a8885aebe866ee4164e02c7dde111f027890948da3109e9f894133") false
  ssurv_holds (λ_ h=>by cases h) (by as_aux_lemma=>kernel_rfl) (λ_ h=>by cases h) serializerSurvives_row_tie rfl ⟨rfl,rfl⟩ (by as_aux_lemma=>kernel_rfl) rfl
  (λf fn g k=>by
   obtain rfl:f=7:=wR ((show xE.funcNamed Rows.serializerSurvivesRow.func=some 7 by kernel_rfl).symm.trans g)|>.symm;obtain rfl:fn=tR:=(wR (tS.symm.trans k)).symm;exact⟨by as_aux_lemma=>kernel_rfl,λj t u=>by
    have hm:t∈tR.params.toList:=by
     rw[Array.mem_toList_iff];exact Array.mem_of_getElem? (by simpa using u)
    rw[Tryz.params7]at hm;simp only[List.mem_cons,xC,or_false]at hm;rcases hm with rfl|rfl|rfl|rfl|rfl;·exact(show xE.wantsStandIn 30=false by as_aux_lemma=>kernel_rfl)
    ·exact(show xE.wantsStandIn 31=false by as_aux_lemma=>kernel_rfl)
    ·exact(show xE.wantsStandIn 3=false by as_aux_lemma=>kernel_rfl)
    ·exact(show xE.wantsStandIn 3=false by as_aux_lemma=>kernel_rfl)
    ·exact(show xE.wantsStandIn 73=false by as_aux_lemma=>kernel_rfl)⟩)
  (by as_aux_lemma=>kernel_rfl)
end Go.Proofs.YtgdmkmfchcflpaaGreatDoor
