/- Proved here: the card of SerializerShares, as it is given, with no condition beyond those of the statement itself. -/
import Derived.Test.YtgdmkmfchcflpaaGreatDoorPe40
import Derived.ChangeMaps5
import Derived.Test.YtgdmkmfchcflpaaGreatDoorCards
import Derived.Test.YtgdmkmfchcflpaaGreatDoorTie
set_option linter.unusedVariables false
set_option linter.unusedSimpArgs false
open Go.Proofs.Tryz renaming checked->tI,prog->xE,f6->tO,func6->tP
open List renaming not_mem_nil->xC
open Option.some renaming inj->wR
namespace Go.Proofs.YtgdmkmfchcflpaaGreatDoor
open Go Go.Sx Go.Proofs Go.ChangeShapes Go.WideShapes Go.ChangeAt Go.RowKit Go.ChangeMaps
set_option maxRecDepth 100000 in
theorem sshares_lifted(os:Os)(k:os.Started)(H:Type)(enc:TypeId×Value->H):
  ReturnsInHanded {} tI os 6 .any (λw args=>(Rows.serializerSharesSpec.pre enc xE tO [] false w args/\laidMetH xE Dr w)/\sizedMet enc xE tO (OpenSpec.ofChange Rows.serializerSharesSpec) false w args)
   (Rows.serializerSharesSpec.post enc xE tO false true false false):=by
 refine returnsInHanded_of_change_and (C:=tI) (X:=λw _=>laidMetH xE Dr w) (λ_ _ _ a h=>h.of_heap a) Tryz.own k (by kernel_rfl) tP
  (H5 (C:=tI) (os:=os) (enc:=enc) (X:=λw _=>laidMetH xE Dr w) (Hm os) #[.agg #[.string ByteArray.empty,.slice none 0 0,.slice none 0 0,.slice none 0 0,.slice none 0 0,.slice none 0 0,.slice none 0 0,.slice none 0 0],.slice none 0 0] 8 rfl (by kernel_rfl) (by kernel_rfl) (by kernel_rfl) (by kernel_rfl) (by kernel_rfl) (E8.2 (H3 os _))) ?_
 intro W base args ds gs x u o _ _ d _;have z:=o;obtain⟨p,q,j,i,rfl,s,J⟩:=o;have l:DataW.TrodAll enc xE W 0 (λ_=>true) true tO.params.toList args.toList ds p:=j;have c:DataW.TrodVars enc xE W (λ_=>true) [] gs q:=i;rw[Tryz.params6]at l;have n:=l;obtain⟨A,G,I,M,p0,p1,rfl,rfl,rfl,N,m⟩:=trodAll_two l;obtain⟨rfl,rfl⟩:gs=[]/\q=[]:=by
  cases gs with
  |nil=>exact⟨rfl,c⟩
  |cons g r=>exact absurd c (by intro h;cases h)
 obtain⟨Z,rfl,Y⟩:=JT N;obtain⟨Q,F,rfl,P⟩:=JV (u 1 31 G (by kernel_rfl) rfl) m;haveI:=H4 (E8.1 d);have y:=z.lt;rw[List.append_nil]at y;refine(Fk (H2 (c6 Y P)) ?_:Calls xE _ #[Z.v,Q.v] W _);rintro e L ⟨rfl,m,O,R,f⟩;refine⟨_,rfl,_,_,_,[],p0++p1,[],z,?_,?_,rfl,kept m O f _,λh=>by cases h⟩;·exact trodAll_mk1 (shut_bool Tryz.underlying4 true)
 ·exact Hn f (ts:=[30,31]) (by
   intro t b;simp only[List.mem_cons,xC,or_false]at b;rcases b with rfl|rfl;·exact⟨by kernel_rfl,of_decide_eq_true (by kernel_rfl)⟩
   ·exact⟨by kernel_rfl,of_decide_eq_true (by kernel_rfl)⟩) n y
theorem sshares_holds:Rows.SerializerSharesSaid:=
 OpenClaim.holds_of_wide 6 tO rfl rfl rfl rfl rfl rfl rfl ⟨rfl,rfl,rfl,rfl,rfl⟩ rfl rfl rfl rfl rfl (by kernel_rfl) tP PD
  (of_decide_eq_true (by kernel_rfl)) (by unfold Func.isWrapper;first|(rw[if_pos (by decide+kernel)];kernel_rfl)|(rw[if_neg (by decide+kernel)];exact⟨rfl,rfl⟩))
  (λos h H enc _=>sshares_lifted os h H enc)
theorem sshares_card:Rows.SerializerSharesCardSaid:=
 Claim7.holds_tied_plain_at .later [] [.listed,.data] true (true, "3bd207a272a8885aebe866ee4164e02c7dde111f027890948da3109e9f894133") false
  sshares_holds (λ_ h=>by cases h) (by as_aux_lemma=>kernel_rfl) (λ_ h=>by cases h) serializerShares_row_tie rfl ⟨rfl,rfl⟩ (by as_aux_lemma=>kernel_rfl) rfl
  (λf fn g k=>by
   obtain rfl:f=6:=wR ((show xE.funcNamed Rows.serializerSharesRow.func=some 6 by kernel_rfl).symm.trans g)|>.symm;obtain rfl:fn=tO:=(wR (tP.symm.trans k)).symm;exact⟨by as_aux_lemma=>kernel_rfl,λj t u=>by
    have hm:t∈tO.params.toList:=by
     rw[Array.mem_toList_iff];exact Array.mem_of_getElem? (by simpa using u)
    rw[Tryz.params6]at hm;simp only[List.mem_cons,xC,or_false]at hm;rcases hm with rfl|rfl;·exact(show xE.wantsStandIn 30=false by as_aux_lemma=>kernel_rfl)
    ·exact(show xE.wantsStandIn 31=false by as_aux_lemma=>kernel_rfl)⟩)
  (by as_aux_lemma=>kernel_rfl)
end Go.Proofs.YtgdmkmfchcflpaaGreatDoor
