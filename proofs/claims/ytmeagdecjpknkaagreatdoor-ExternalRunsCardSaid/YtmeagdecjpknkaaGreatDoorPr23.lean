/- Part 23 of a proof of a law of this seat: no statement of the seat is proved here. -/
import Derived.Test.YtmeagdecjpknkaaGreatDoorPr17
import Derived.Test.YtmeagdecjpknkaaGreatDoorPr22
import Derived.ChangeMaps5
import Derived.Test.YtmeagdecjpknkaaGreatDoorCards
import Derived.Test.YtmeagdecjpknkaaGreatDoorTie
set_option linter.unusedVariables false
set_option linter.unusedSimpArgs false
open Go.OpenSpec renaming ofChange->ux
open Go.Proofs.Tryz renaming prog->xD,f4->uw,checked->uv,underlying3->wo
open ByteArray renaming empty->zA
namespace Go.Proofs.YtmeagdecjpknkaaGreatDoor
open Go
set_option maxRecDepth 100000
theorem qGf{a b:Bool}(h:a=true)(k:b=true):(a&&b)=true:=by rw[h,k];rfl
theorem xruns_j1:(Rows.externalRunsRow.wf (ux Rows.externalRunsSpec))=true:=by kernel_rfl
theorem xruns_j2:(laidOutB xD)=true:=by kernel_rfl
theorem xruns_j3:(mapsRowed xD)=true:=by kernel_rfl
theorem xruns_j4:(uw.params.all (xD.readableRec ·))=true:=by kernel_rfl
theorem xruns_j5:(namedTie xD Rows.externalRunsRow.named Rows.externalRunsSpec.vars)=true:=by kernel_rfl
theorem xruns_j6:((Rows.externalRunsRow.stops==[]))=true:=by kernel_rfl
theorem xruns_j7:((xD.stops==[]))=true:=by kernel_rfl
theorem xruns_j8:((Rows.externalRunsRow.knobs==[]))=true:=by kernel_rfl
theorem xruns_j9:((xD.stopKnobs==[]))=true:=by kernel_rfl
theorem xruns_j10:((Rows.externalRunsRow.inPlace==xD.inPlace 4))=true:=by kernel_rfl
theorem xruns_j11:((Rows.externalRunsRow.unfollowed==xD.unfollowed 4))=true:=by kernel_rfl
theorem xruns_j12:((Rows.externalRunsRow.recurses==xD.recurses 4))=true:=by kernel_rfl
theorem xruns_j13:((Rows.externalRunsRow.named==xD.varsNamed 4))=true:=by kernel_rfl
theorem xruns_j14:((Rows.externalRunsRow.maps==(uw.params.toList++Rows.externalRunsSpec.plain.varTypes xD).any (xD.mapsRec ·)))=true:=by kernel_rfl
theorem xruns_j15:((Rows.externalRunsRow.ifaces==(uw.params.toList++Rows.externalRunsSpec.plain.varTypes xD).any (xD.ifacesRec ·)))=true:=by kernel_rfl
theorem xruns_j16:((Rows.externalRunsRow.mapsOut==xD.mapsAmong uw.resultTypes.toList))=true:=by kernel_rfl
theorem xruns_j17:((Rows.externalRunsRow.loops==(uw.params.toList++Rows.externalRunsSpec.plain.varTypes xD).any (xD.loopsFrom ·)))=true:=by kernel_rfl
theorem xruns_j18:((Rows.externalRunsRow.wideKeys==(uw.params.toList++Rows.externalRunsSpec.plain.varTypes xD++uw.resultTypes.toList).any (xD.wideKeysFrom ·)))=true:=by kernel_rfl
theorem xruns_j19:(Rows.externalRunsSpec.vars.all (xD.varReadable ·))=true:=by kernel_rfl
theorem xruns_j20:(uw.resultTypes.all (λt=>xD.readableRec t&&decide (t<xD.types.size)))=true:=by kernel_rfl
theorem xruns_j21:((Rows.externalRunsRow.ifacesOut==uw.resultTypes.toList.any (xD.ifacesRec ·)))=true:=by kernel_rfl
theorem xruns_j22:((Rows.externalRunsRow.loopsOut==uw.resultTypes.toList.any (xD.loopsFrom ·)))=true:=by kernel_rfl
theorem xruns_j23:((Rows.externalRunsRow.plainKeys==xD.plainKeys))=true:=by kernel_rfl
theorem xruns_j24:(Rows.externalRunsRow.shortTexts.isNone)=true:=by kernel_rfl
theorem xruns_j25:(xD.stopsHeard)=true:=by kernel_rfl
theorem xruns_j26:(xD.mayEnter)=true:=by kernel_rfl
theorem xruns_j27:((Rows.externalRunsRow.lifted==xD.liftsFinal))=true:=by kernel_rfl
theorem xruns_j28:((xD.make==some Rows.externalRunsRow.make))=true:=by kernel_rfl
theorem xruns_j29:((Rows.externalRunsRow.kinds==(if Rows.externalRunsRow.domain.isEmpty then[]else uw.params.toList.map λt=>match xD.underlying t with|some (.int k)=>some k|_=>none)))=true:=by kernel_rfl
theorem xruns_j30:((Rows.externalRunsRow.pinned==Rows.externalRunsRow.pinnedBy))=true:=by kernel_rfl
theorem xruns_j31:((Rows.externalRunsRow.veiled==(uw.params.toList++Rows.externalRunsSpec.plain.varTypes xD++uw.resultTypes.toList).any (xD.veiledRec ·)))=true:=by kernel_rfl
theorem xruns_j32:(Rows.externalRunsRow.veiledFits xD uw.params.toList (uw.params.toList++Rows.externalRunsSpec.plain.varTypes xD++uw.resultTypes.toList))=true:=by kernel_rfl
theorem xruns_facts:joinedFacts xD 4 uw Rows.externalRunsSpec Rows.externalRunsRow=true:=(qGf (qGf (qGf (qGf (qGf (qGf (qGf (qGf (qGf (qGf (qGf (qGf (qGf (qGf (qGf (qGf (qGf (qGf (qGf (qGf (qGf (qGf (qGf (qGf (qGf (qGf (qGf (qGf (qGf (qGf (qGf xruns_j1 xruns_j2) xruns_j3) xruns_j4) xruns_j5) xruns_j6) xruns_j7) xruns_j8) xruns_j9) xruns_j10) xruns_j11) xruns_j12) xruns_j13) xruns_j14) xruns_j15) xruns_j16) xruns_j17) xruns_j18) xruns_j19) xruns_j20) xruns_j21) xruns_j22) xruns_j23) xruns_j24) xruns_j25) xruns_j26) xruns_j27) xruns_j28) xruns_j29) xruns_j30) xruns_j31) xruns_j32)
end Go.Proofs.YtmeagdecjpknkaaGreatDoor
namespace Go.Proofs.YtmeagdecjpknkaaGreatDoor
open Go Go.Sx Go.Proofs Go.ChangeShapes Go.WideShapes Go.ChangeAt Go.RowKit Go.ChangeMaps
set_option maxRecDepth 100000 in
theorem xruns_lifted(os:Os)(f:os.Started)(H:Type)(enc:TypeId×Value->H):
  ReturnsInHanded {} uv os 4 .any (λw args=>(Rows.externalRunsSpec.pre enc xD uw [] false w args/\laidMetH xD laid0 w)/\sizedMet enc xD uw (ux Rows.externalRunsSpec) false w args)
   (Rows.externalRunsSpec.post enc xD uw false true false false):=by
 refine returnsInHanded_of_change_and (C:=uv) (X:=λw _=>laidMetH xD laid0 w) (λ_ _ _ b h=>h.of_heap b) Tryz.own f (by kernel_rfl) Tryz.func4
  (wit (C:=uv) (os:=os) (enc:=enc) (X:=λw _=>laidMetH xD laid0 w) (laidWorld os) #[.agg #[.string zA,.slice none 0 0,.slice none 0 0,.slice none 0 0,.slice none 0 0,.slice none 0 0,.slice none 0 0,.slice none 0 0],.agg #[.slice none 0 0,.slice none 0 0],.slice none 0 0,.int .i64 0,.int .i64 0,.agg #[.string zA,.slice none 0 0],.int .i64 0] 8 rfl (by kernel_rfl) (by kernel_rfl) (by kernel_rfl) (by kernel_rfl) (by kernel_rfl) (qHS.2 (qLp os _))) ?_
 intro W base args ds gs x k m _ _ a _;have z:=m;obtain⟨p,q,j,i,rfl,d,s⟩:=m;have l:DataW.TrodAll enc xD W 0 (λ_=>true) true uw.params.toList args.toList ds p:=j;have o:DataW.TrodVars enc xD W (λ_=>true) [] gs q:=i;rw[Tryz.params4]at l;have n:=l;obtain⟨U,v1,J,G,N,v5,Z,d0,d1,d2,d3,d4,d5,d6,p0,p1,Y,p3,Q,P,O,rfl,rfl,rfl,h0,h1,h2,h3,h4,A,I⟩:=qKK l;obtain⟨rfl,rfl⟩:gs=[]/\q=[]:=by
  cases gs with
  |nil=>exact⟨rfl,o⟩
  |cons g r=>exact absurd o (by intro h;cases h)
 obtain⟨M,rfl,F⟩:=desc_of h0;obtain⟨L,rfl,R⟩:=mem_of h1;obtain⟨V,y2,rfl,B⟩:=ints_of (k 2 31 J (by kernel_rfl) rfl) h2;obtain⟨D,rfl,-,-,k3⟩:=open_int wo (k 3 3 G (by kernel_rfl) rfl) h3;obtain⟨x4,rfl,-,-,k4⟩:=open_int wo (k 4 3 N (by kernel_rfl) rfl) h4;obtain⟨E,K,z5,rfl,S⟩:=call_of A;obtain⟨T,rfl,-,-,k6⟩:=open_int wo (k 6 3 Z (by kernel_rfl) rfl) I;haveI:=tab_laid (qHS.1 a);have y:=z.lt;rw[List.append_nil]at y;refine(qCX (same_old (c4 F R B S)) ?_:Calls xD _ #[M.v,L.v,V.v,.int .i64 D,.int .i64 x4,.agg #[.string E,K.v],.int .i64 T] W _);rintro e W' ⟨rfl,h1,h2,h3,u⟩;refine⟨_,rfl,_,_,_,[],p0++(p1++(Y++(p3++(Q++(P++O))))),[],z,?_,?_,rfl,kept h1 h2 u _,λh=>by cases h⟩;·exact trodAll_mk1 (shut_bool Tryz.underlying4 true)
 ·exact again_all u (ts:=[30,34,31,3,3,49,3]) (by
   intro t c;simp only[List.mem_cons,List.not_mem_nil,or_false]at c;rcases c with rfl|rfl|rfl|rfl|rfl|rfl|rfl;·exact⟨by kernel_rfl,of_decide_eq_true (by kernel_rfl)⟩
   ·exact⟨by kernel_rfl,of_decide_eq_true (by kernel_rfl)⟩
   ·exact⟨by kernel_rfl,of_decide_eq_true (by kernel_rfl)⟩
   ·exact⟨by kernel_rfl,of_decide_eq_true (by kernel_rfl)⟩
   ·exact⟨by kernel_rfl,of_decide_eq_true (by kernel_rfl)⟩
   ·exact⟨by kernel_rfl,of_decide_eq_true (by kernel_rfl)⟩
   ·exact⟨by kernel_rfl,of_decide_eq_true (by kernel_rfl)⟩) n y
theorem xruns_holds:Rows.ExternalRunsSaid:=
 OpenClaim.holds_of_wide 4 uw rfl rfl rfl rfl rfl rfl rfl ⟨rfl,rfl,rfl,rfl,rfl⟩ rfl rfl rfl rfl rfl (by kernel_rfl) Tryz.func4 xruns_facts
  (of_decide_eq_true (by kernel_rfl)) (by unfold Func.isWrapper;first|(rw[if_pos (by decide+kernel)];kernel_rfl)|(rw[if_neg (by decide+kernel)];exact⟨rfl,rfl⟩))
  (λos h H enc _=>xruns_lifted os h H enc)
end Go.Proofs.YtmeagdecjpknkaaGreatDoor
