/- Part 16 of a proof of a law of this seat: no statement of the seat is proved here. -/
import Derived.Test.YtmeagdecjpknkaaGreatDoorPp15
import Derived.Test.YtmeagdecjpknkaaGreatDoorRows
import Derived.Lib.LaidIn
import Derived.Lib.LaidTab
import Derived.Handed
import Derived.Test.YtmeagdecjpknkaaGreatDoorPp14
import Derived.Test.YtmeagdecjpknkaaGreatDoorPp12
set_option linter.unusedVariables false
set_option linter.unusedSimpArgs false
namespace Go.Proofs.YtmeagdecjpknkaaGreatDoor
open Go Go.Sx Go.Proofs Go.ChangeShapes Go.WideShapes Go.ChangeAt Go.RowKit
theorem same_old{P:Program}{f:FuncId}{args:List Value}{W:World}{v:Value}(h:Pur P f args (qBf W) v):Calls P f args.toArray W fun e W'=>e=.returned v/\W'.os=W.os/\W'.output=W.output/\W.heap.size<=W'.heap.size/\∀b,b<W.heap.size->W'.heap[b]?=W.heap[b]?:=by
 have h2:Tri P f args.toArray (qBf W) fun e V'=>e=.returned v/\V'=qBf W:=h
 unfold Tri at h2
 refine qCH (h2 W (heapM_le W)) ?_
 rintro e W' ⟨V',⟨rfl,rfl⟩,hF⟩
 refine⟨rfl,hF.os,hF.out,hF.size,fun b hb=>?_⟩
 have:qBf W b=some W.heap[b]:=Array.getElem?_eq_getElem hb
 rw[hF.le b _ this];exact this.symm
theorem Tryz.own:ownKnob Tryz.prog.godebug=none:=by kernel_rfl
theorem Tryz.laidOut:laidOutB Tryz.prog=true:=by kernel_rfl
theorem tab_of{W:World}(h:Lib.TabIs Tryz.prog W "strings.asciiSpace" .u8 Lib.asciiSpaceTab):Tab (qBf W):=by
 have hg:Tryz.prog.globalNamed "strings.asciiSpace" = some 0:=by kernel_rfl
 unfold Lib.TabIs World.var? at h
 rw[hg,Option.bind_some]at h
 split at h
 ·rename_i cs t fr hb
  simp only[Option.some.injEq]at h
  exact⟨t,fr,by rw[<- h];exact hb⟩
 ·cases h
theorem desc_of{H:Type}{enc:TypeId×Value->H}{W:World}{v:Value}{d0:DataW H}{p:List MemPlace}(h:DataW.Trod enc Tryz.prog W 0 (fun _=>true) true 30 v d0 p):∃d:Ds,v=d.v/\Ds.Ok (qBf W) d:=by
 obtain⟨fuel,h⟩:=h
 obtain⟨d,hd,hok⟩:=rdDs h
 refine⟨d,?_,hok⟩
 have hl:v.cells.toList.length=8:=by rw[<- hd];rfl
 cases v with
 | agg cs =>
  have:cs.toList=d.row:=hd.symm
  show Value.agg cs=.agg d.row.toArray
  rw[<- this]
 | _=>simp[Value.cells]at hl
noncomputable def laidWorld(os:Os):World :=
 let w0:=World.holding Tryz.prog os ⟨#[.cells #[.int .u16 9,.int .u16 13,.int .u16 1,.int .u16 32,.int .u16 133,.int .u16 101,.int .u16 160,.int .u16 5760,.int .u16 5600,.int .u16 8192,.int .u16 8202,.int .u16 1,.int .u16 8232,.int .u16 8233,.int .u16 1,.int .u16 8239,.int .u16 8287,.int .u16 48,.int .u16 12288,.int .u16 12288,.int .u16 1] 385,
  .cells #[.slice (some ⟨(World.settled Tryz.prog os).heap.size,0,none⟩) 7 7,.slice none 0 0,.int .i64 2] 382],#[],[]⟩
 {w0 with heap:=(w0.heap.modify 0 fun
   | .cells _ t frozen=>.cells (Lib.asciiSpaceTab.map fun z=>Value.int .u8 z).toArray t frozen
   | o=>o).modify 1 fun
   | .cells _ t frozen=>.cells #[.pointer (some ⟨(World.settled Tryz.prog os).heap.size+1,0,none⟩)] t frozen
   | o=>o }
theorem qKs(os:Os)(args:Array Value):laidMet Tryz.prog [("unicode.White_Space",Rows.laid_unicode_White_Space),("strings.asciiSpace",Rows.laid_strings_asciiSpace)] ((laidWorld os).forCall (fun _ _=>0) ⟨#[],args,[]⟩).memory :=
 (LaidIn.of_run [0,1,(World.settled Tryz.prog os).heap.size,(World.settled Tryz.prog os).heap.size+1] 12 (by kernel_rfl) (by kernel_rfl) (by kernel_rfl) (by kernel_rfl)).met
end Go.Proofs.YtmeagdecjpknkaaGreatDoor
namespace Go.Proofs.YtmeagdecjpknkaaGreatDoor
open Go Go.Sx Go.Proofs Go.ChangeShapes Go.WideShapes Go.ChangeAt Go.RowKit
abbrev laid0:List (String×DataW Unit):=[("unicode.White_Space",Rows.laid_unicode_White_Space),("strings.asciiSpace",Rows.laid_strings_asciiSpace)]
theorem qGV{w:World}:laidMetH Tryz.prog laid0 w↔laidMet Tryz.prog laid0 w:=by
 rfl
theorem tab_laid{W:World}(h:laidMet Tryz.prog laid0 W):Tab (qBf W):=by
 obtain⟨ps,h1,h2,h3⟩:=h
 obtain⟨g,t,cs,fuel,p,q,hg,ht,hvar,hd,hrest,hps⟩:=h1
 obtain⟨g',t',cs',fuel',p',q',hg',ht',hvar',hd',hrest',hps'⟩:=hrest
 refine tab_of ?_
 unfold Lib.TabIs
 rw[hvar']
 have hgg:g'=0:=Option.some.inj (hg'.symm.trans (show Tryz.prog.globalNamed "strings.asciiSpace" = some 0 by kernel_rfl))
 subst hgg
 have htt:t'=365:=Option.some.inj (ht'.symm.trans (show (Tryz.prog.globals[0]?).map (·.type)=some 365 by kernel_rfl))
 subst htt
 have hdat:(Rows.laid_strings_asciiSpace:DataW Unit)=Lib.tabData .u8 Lib.asciiSpaceTab:=by kernel_rfl
 rw[hdat]at hd'
 rw[<- Lib.cells_of_tab (n:=256) (e:=5) Tryz.underlying365 Tryz.underlying5 (by kernel_rfl) (by kernel_rfl) hd']
theorem kept{W W':World}(h1:W'.os=W.os)(h2:W'.output=W.output)(hold:∀b,b<W.heap.size->W'.heap[b]?=W.heap[b]?)(may:MemPlace->Prop):W.keptBut W' may:=by
 refine⟨h1,h2,fun i hi=>?_⟩
 grind
theorem again_arg{H:Type}{enc:TypeId×Value->H}{t:TypeId}(hr:Tryz.prog.readableRec t=true)(hrow:t<Tryz.prog.types.size){W W':World}{v:Value}{d:DataW H}{ps:List MemPlace}(h:DataW.Trod enc Tryz.prog W 0 (fun _=>true) true t v d ps)
  (hold:∀b,b<W.heap.size->W'.heap[b]?=W.heap[b]?) (hlt:∀x∈ps,x.block<W.heap.size):DataW.Trod enc Tryz.prog W' 0 (fun b=>decide (b<W.heap.size)) true t v d ps :=
 WideElems.Trod_stays Tryz.laidOut hr hrow h (fun x hx=>by
  have:=hlt x hx
  cases x with
  | cell b o=>exact World.cell?_of_block (w:=W) (hold b this)
  | map b=>exact hold b this) (fun x hx=>by simp_all)
theorem wit{C:Checked}{os:Os}{f:FuncId}{fn:Func}{s:ChangeSpec}{conds:List PathCond}{apart:Bool}{X:World->Array Value->Prop}{H:Type}{enc:TypeId×Value->H}(w0:World)(args:Array Value)(fuel:Nat)(hos:w0.os=os)
  (hv:(w0.forCall (fun _ _=>0) ⟨#[],args,[]⟩).variablesRefB C.prog=true)
  (hr:((w0.forCall (fun _ _=>0) ⟨#[],args,[]⟩).heap.toList.drop C.prog.globals.size).take ((begin C.prog (fun _ _=>0) default).world.heap.size-C.prog.globals.size) =
   (begin C.prog (fun _ _=>0) default).world.heap.toList.drop C.prog.globals.size)
  (hok:Input.okWideB C.prog (w0.forCall (fun _ _=>0) ⟨#[],args,[]⟩) f ⟨#[],args,[]⟩=true)
  (hpre:s.preB enc C.prog fn conds apart (w0.forCall (fun _ _=>0) ⟨#[],args,[]⟩).memory args fuel=true)
  (hsz:s.sizedB enc C.prog fn apart (w0.forCall (fun _ _=>0) ⟨#[],args,[]⟩).memory args fuel=true)
  (hx:X (w0.forCall (fun _ _=>0) ⟨#[],args,[]⟩).memory args) :
  ∃(w:World) (tape:Tape) (i:Input),w.os=os/\(w.forCall tape i).Shaped C.prog/\i.vars=[]/\Input.okWide C.prog (w.forCall tape i) .any w.heap.size f i /\
   ((s.pre enc C.prog fn conds apart (w.forCall tape i).memory i.args/\X (w.forCall tape i).memory i.args)/\sizedMet enc C.prog fn (OpenSpec.ofChange s) apart (w.forCall tape i).memory i.args)/\({}:Assume).holds C.prog (lone (Frame.enter C.prog f i.args .normal) [] (w.forCall tape i)) :=
 ⟨w0,fun _ _=>0,⟨#[],args,[]⟩,hos,World.shaped_of_RefB hv hr,(Input.okWide_of_okWideB (base:=0) hok).1,(Input.okWide_of_okWideB hok).2,⟨⟨ChangeSpec.pre_of_preB hpre,hx⟩,sizedMet_of_sizedB hsz⟩,by
  grind [Assume.holds]⟩
theorem again_all{H:Type}{enc:TypeId×Value->H}{W W':World}(hold:∀b,b<W.heap.size->W'.heap[b]?=W.heap[b]?):∀{ts:List TypeId} {vs:List Value} {ds:List (DataW H)} {ps:List MemPlace},(∀t∈ts,Tryz.prog.readableRec t=true/\t<Tryz.prog.types.size) ->
  DataW.TrodAll enc Tryz.prog W 0 (fun _=>true) true ts vs ds ps->(∀x∈ps,x.block<W.heap.size)->DataW.TrodAll enc Tryz.prog W' 0 (fun b=>decide (b<W.heap.size)) true ts vs ds ps
 | [],_,_,_,_,h,_=>by
  obtain⟨rfl,rfl,rfl⟩:=trodAll_nil h
  rfl
 | t::ts,_,_,_,hr,h,hlt=>by
  obtain⟨v,vs,d,ds,p,q,rfl,rfl,rfl,h1,h2⟩:=trodAll_cons h
  exact⟨p,q,again_arg (hr t (by simp)).1 (hr t (by simp)).2 h1 hold (fun x hx=>hlt x (List.mem_append_left _ hx)),again_all hold (fun u hu=>hr u (by simp[hu])) h2 (fun x hx=>hlt x (List.mem_append_right _ hx)),rfl⟩
theorem u8R{n:Int}(h:(Lit.int .u8 n).wf=true):0<=n/\n<=255:=by
 simp only[Lit.wf,Bool.and_eq_true,decide_eq_true_eq]at h
 exact⟨h.1,h.2⟩
end Go.Proofs.YtmeagdecjpknkaaGreatDoor
namespace Go.Proofs.YtmeagdecjpknkaaGreatDoor
open Go Go.Sx Go.Proofs Go.ChangeShapes Go.WideShapes Go.ChangeAt Go.RowKit
section
variable{H:Type}{enc:TypeId×Value->H}{w:World}
theorem cl31:Tryz.prog.cellsOf 31=1:=by kernel_rfl
theorem clNd:Tryz.prog.cellsOf 92=2:=by kernel_rfl
theorem clNds:Tryz.prog.cellsOf 32=1:=by kernel_rfl
theorem clMm:Tryz.prog.cellsOf 34=2:=by kernel_rfl
theorem gInts{m:Nat}{v:Value}(h:∃y,TR enc w m 31 [v]=some y):∃(s:Sl) (xs:List Int),v=.slice s.p s.n s.c/\qAc (qBf w) s 1 (xs.map qAe)/\∀x∈xs,inI x :=
 gSl (row:=qAe) (ok:=inI) Tryz.underlying31 cl3 (by decide) (fun _=>rfl) (fun m' _ cs x hx=>by
  obtain⟨n,rfl,hn⟩:=rd_int Tryz.underlying3 hx
  exact⟨n,rfl,hn⟩) h
theorem rdNd{n:Nat}{cs:List Value}{x:DataW H×List MemPlace}(h:TR enc w n 92 cs=some x):∃f:Nd,Nd.row f=cs/\Nd.Ok (qBf w) f:=by
 obtain⟨hl,m,-,hs⟩:=qBg Tryz.underlying92 h
 obtain⟨a,b,rfl⟩:=len2 (hl.trans clNd)
 obtain⟨t,rfl,ht⟩:=gI (at1 (hs 0 _ rfl) cl3 rfl)
 obtain⟨l,k,rfl,hr,hk⟩:=gInts (at1 (hs 1 _ rfl) cl31 rfl)
 exact⟨⟨t,l,k⟩,rfl,⟨hr,ht,hk⟩⟩
theorem rdMm{n:Nat}{cs:List Value}{x:DataW H×List MemPlace}(h:TR enc w n 34 cs=some x):∃m:Mm,m.row=cs/\Mm.Ok (qBf w) m:=by
 obtain⟨hl,m,-,hs⟩:=qBg Tryz.underlying34 h
 obtain⟨a,b,rfl⟩:=len2 (hl.trans clMm)
 obtain⟨l1,k1,rfl,h1,o1⟩:=gInts (at1 (hs 0 _ rfl) cl31 rfl)
 obtain⟨l2,k2,rfl,h2,o2⟩:=gSl (row:=Nd.row) (ok:=Nd.Ok (qBf w)) Tryz.underlying32 clNd (by decide) (fun _=>rfl) (fun _ _ _ _=>rdNd) (at1 (hs 1 _ rfl) clNds rfl)
 exact⟨⟨l1,k1,l2,k2⟩,rfl,⟨h1,o1,h2,o2⟩⟩
theorem clCl:Tryz.prog.cellsOf 49=2:=by kernel_rfl
theorem rdCl{n:Nat}{cs:List Value}{x:DataW H×List MemPlace}(h:TR enc w n 49 cs=some x):∃(nm:ByteArray) (l:Sl) (xs:List Int),[Value.string nm,l.v]=cs/\qAc (qBf w) l 1 (xs.map qAe):=by
 obtain⟨hl,m,-,hs⟩:=qBg Tryz.underlying49 h
 obtain⟨a,b,rfl⟩:=len2 (hl.trans clCl)
 obtain⟨t,rfl⟩:=gS (at1 (hs 0 _ rfl) cl9 rfl)
 obtain⟨l,k,rfl,hr,-⟩:=gInts (at1 (hs 1 _ rfl) cl31 rfl)
 exact⟨t,l,k,rfl,hr⟩
end
theorem mem_of{H:Type}{enc:TypeId×Value->H}{W:World}{v:Value}{d0:DataW H}{p:List MemPlace}(h:DataW.Trod enc Tryz.prog W 0 (fun _=>true) true 34 v d0 p):∃m:Mm,v=m.v/\Mm.Ok (qBf W) m:=by
 obtain⟨fuel,h⟩:=h
 obtain⟨m,hm,hok⟩:=rdMm h
 refine⟨m,?_,hok⟩
 have hl:v.cells.toList.length=2:=by rw[<- hm];rfl
 cases v with
 | agg cs =>
  have:cs.toList=m.row:=hm.symm
  show Value.agg cs=.agg m.row.toArray
  rw[<- this]
 | _=>simp[Value.cells]at hl
theorem call_of{H:Type}{enc:TypeId×Value->H}{W:World}{v:Value}{d0:DataW H}{p:List MemPlace}(h:DataW.Trod enc Tryz.prog W 0 (fun _=>true) true 49 v d0 p):∃(nm:ByteArray) (l:Sl) (xs:List Int),v=.agg #[.string nm,l.v]/\qAc (qBf W) l 1 (xs.map qAe):=by
 obtain⟨fuel,h⟩:=h
 obtain⟨nm,l,xs,hm,hok⟩:=rdCl h
 refine⟨nm,l,xs,?_,hok⟩
 have hl:v.cells.toList.length=2:=by rw[<- hm];rfl
 cases v with
 | agg cs =>
  have:cs.toList=[Value.string nm,l.v]:=hm.symm
  show Value.agg cs=.agg ([Value.string nm,l.v]:List Value).toArray
  rw[<- this]
 | _=>simp[Value.cells]at hl
end Go.Proofs.YtmeagdecjpknkaaGreatDoor
namespace Go.Proofs.YtmeagdecjpknkaaGreatDoor
open Go Go.Sx Go.Proofs Go.ChangeShapes Go.WideShapes Go.ChangeAt Go.RowKit
theorem qJN{H:Type}{enc:TypeId×Value->H}{w:World}{a b c d e f g:TypeId}{args:Array Value}{ds:List (DataW H)}{ps:List MemPlace}(h:DataW.TrodAll enc Tryz.prog w 0 (fun _=>true) true [a,b,c,d,e,f,g] args.toList ds ps) :
  ∃v0 v1 v2 v3 v4 v5 v6 d0 d1 d2 d3 d4 d5 d6 p0 p1 p2 p3 p4 p5 p6,args=#[v0,v1,v2,v3,v4,v5,v6]/\ds=[d0,d1,d2,d3,d4,d5,d6]/\ps=p0++(p1++(p2++(p3++(p4++(p5++p6)))))/\DataW.Trod enc Tryz.prog w 0 (fun _=>true) true a v0 d0 p0/\DataW.Trod enc Tryz.prog w 0 (fun _=>true) true b v1 d1 p1/\DataW.Trod enc Tryz.prog w 0 (fun _=>true) true c v2 d2 p2/\DataW.Trod enc Tryz.prog w 0 (fun _=>true) true d v3 d3 p3/\DataW.Trod enc Tryz.prog w 0 (fun _=>true) true e v4 d4 p4/\DataW.Trod enc Tryz.prog w 0 (fun _=>true) true f v5 d5 p5/\DataW.Trod enc Tryz.prog w 0 (fun _=>true) true g v6 d6 p6:=by
 obtain⟨v0,vs,d0,ds',p,q,hargs,rfl,rfl,h0,hrest⟩:=trodAll_cons h
 obtain⟨v1,vs1,d1,ds1,p1,q1,rfl,rfl,rfl,h1,hrest⟩:=trodAll_cons hrest
 obtain⟨v2,vs2,d2,ds2,p2,q2,rfl,rfl,rfl,h2,hrest⟩:=trodAll_cons hrest
 obtain⟨v3,vs3,d3,ds3,p3,q3,rfl,rfl,rfl,h3,hrest⟩:=trodAll_cons hrest
 obtain⟨v4,vs4,d4,ds4,p4,q4,rfl,rfl,rfl,h4,hrest⟩:=trodAll_cons hrest
 obtain⟨v5,vs5,d5,ds5,p5,q5,rfl,rfl,rfl,h5,hrest⟩:=trodAll_cons hrest
 obtain⟨v6,vs6,d6,ds6,p6,q6,rfl,rfl,rfl,h6,hrest⟩:=trodAll_cons hrest
 obtain⟨rfl,rfl,rfl⟩:=trodAll_nil hrest
 exact⟨v0,v1,v2,v3,v4,v5,v6,d0,d1,d2,d3,d4,d5,d6,p,p1,p2,p3,p4,p5,p6,by grind,rfl,by simp,h0,h1,h2,h3,h4,h5,h6⟩
end Go.Proofs.YtmeagdecjpknkaaGreatDoor
namespace Go.Proofs
open Go Go.Sx
end Go.Proofs
namespace Go.Proofs
open Go Go.Sx
mutual
def eEr:E->E | .mk o n s _ k=>.mk o n s qAL (qFp k)
def qFp:List E->List E | []=>[] | x::xs=>eEr x::qFp xs
end
mutual
def sEr:S->S | .mk o s _ es _ ls _ xs=>.mk o s qAL (qFp es) qAL (qGc ls) qAL (qGc xs)
def qGc:List S->List S | []=>[] | x::xs=>sEr x::qGc xs
end
def tEr(t:Ty):Ty:=⟨t.name,qAL,t.fields⟩
def pEr(p:Pr):Pr:=⟨p.name,qAL,p.params,p.result,qAL,p.locals,qAL,qGc p.body⟩
def dEr(d:Ds):Ds:=⟨d.name,qAL,d.types.map tEr,qAL,d.globals,qAL,d.procs.map pEr,qAL,[],qAL,[],qAL,[],qAL,[]⟩
theorem qDg:∀l:List E,qFp l=l.map eEr
 | []=>by unfold qFp;rfl
 | x::xs=>by unfold qFp;rw[qDg xs];rfl
theorem qHo:∀l:List S,qGc l=l.map sEr
 | []=>by unfold qGc;rfl
 | x::xs=>by unfold qGc;rw[qHo xs];rfl
theorem eErs_len(l:List E):(qFp l).length=l.length:=by rw[qDg,List.length_map]
theorem sErs_len(l:List S):(qGc l).length=l.length:=by rw[qHo,List.length_map]
mutual
theorem okE_er:∀(k:Int) (e:E),okE k (eEr e)=okE k e
 | k,.mk o n s _ l=>by unfold eEr okE;rw[eErs_len,okEs_er]
theorem okEs_er:∀(k:Int) (l:List E),okEs k (qFp l)=okEs k l
 | _,[]=>by unfold qFp;rfl
 | k,x::xs=>by unfold qFp okEs;rw[okE_er,okEs_er]
end
mutual
theorem szE_er:∀e:E,szE (eEr e)=szE e
 | .mk o n s _ l=>by unfold eEr szE;rw[szEs_er]
theorem szEs_er:∀l:List E,szEs (qFp l)=szEs l
 | []=>by unfold qFp;rfl
 | x::xs=>by unfold qFp szEs;rw[szE_er,szEs_er]
end
theorem validE_er(e:E):qAM (eEr e)=qAM e:=by unfold qAM;rw[okE_er,szE_er]
theorem fop_er:∀l:List E,fop (qFp l)=fop l
 | []=>by unfold qFp;rfl
 | .mk o n s _ l::xs=>by rfl
theorem shapeR_er(op:Int)(s:ByteArray)(es:List E)(nl nx:Int):qCb op s (qFp es) nl nx=qCb op s es nl nx:=by
 unfold qCb qGO
 have:(qFp es).all qAM=es.all qAM:=by
  rw[qDg,List.all_map]
  simp_all [congrArg,funext,validE_er]
 rw[eErs_len,fop_er,this]
mutual
theorem okS_er:∀(k:Int) (e:S),okS k (sEr e)=okS k e
 | k,.mk o s _ es _ ls _ xs=>by unfold sEr okS;rw[sErs_len,sErs_len,shapeR_er,qKk,qKk]
theorem qKk:∀(k:Int) (l:List S),qGw k (qGc l)=qGw k l
 | _,[]=>by unfold qGc;rfl
 | k,x::xs=>by unfold qGc qGw;rw[okS_er,qKk]
end
mutual
theorem szS_er:∀e:S,szS (sEr e)=szS e
 | .mk o s _ es _ ls _ xs=>by unfold sEr szS;rw[qJR,qJR]
theorem qJR:∀l:List S,qGk (qGc l)=qGk l
 | []=>by unfold qGc;rfl
 | x::xs=>by unfold qGc qGk;rw[szS_er,qJR]
end
theorem qFY{α β:Type}{f:α->β}{p:β->Bool}{q:α->Bool}(l:List α)(h:∀x,p (f x)=q x):(l.map f).all p=l.all q:=by
 grind
theorem qKN{α β:Type}{f:α->β}{p:β->Bool}{q:α->Bool}(l:List α)(h:∀x,p (f x)=q x):(l.map f).any p=l.any q:=by
 grind
theorem idx_map{α β:Type}{f:α->β}{p:β->Bool}{q:α->Bool}(l:List α)(h:∀x,p (f x)=q x):qIQ p (l.map f)=qIQ q l:=by
 unfold qIQ
 have e:p ∘ f=q:=funext h
 simp_all
theorem find_map'{α β:Type}{f:α->β}{p:β->Bool}{q:α->Bool}(l:List α)(h:∀x,p (f x)=q x):(l.map f).find? p=(l.find? q).map f:=by
 rw[List.find?_map]
 have e:p ∘ f=q:=funext h
 rw[e]
theorem qEw{α β γ:Type}{f:α->β}{p:Nat->β->Option γ}{q:Nat->α->Option γ}:∀(l:List α) (i:Nat),(∀j x,p j (f x)=q j x)->qAl p i (l.map f)=qAl q i l
 | [],_,_=>rfl
 | x::l,i,h=>by
  unfold List.map qAl
  rw[h,qEw l (i+1) h]
theorem tyB_er(t:Ty):tyB (tEr t)=tyB t:=rfl
theorem prB_er(p:Pr):prB (pEr p)=prB p:=by
 unfold prB qGj
 show (qAV p.name&&qEv p.params 6&&qEv p.locals 12&&(decide (p.result=qAr [])||typB p.result)&&decide (qGw 1 (qGc p.body)=true/\qGk (qGc p.body)<=200))=_
 rw[qKk,qJR]
section
variable(d:Ds)
theorem valid_er(h:qAF d=true):qAF (dEr d)=true:=by
 unfold qAF at h ⊢
 simp only[Bool.and_eq_true,decide_eq_true_eq]at h ⊢
 refine⟨⟨⟨⟨⟨⟨⟨h.1.1.1.1.1.1.1,?_⟩,h.1.1.1.1.1.2⟩,?_⟩,rfl⟩,?_⟩,?_⟩,rfl⟩
 ·have:=h.1.1.1.1.1.1.2
  show ((d.types.map tEr).length:Int)<=12
  simp_all
 ·have:=h.1.1.1.1.2
  show ((d.procs.map pEr).length:Int)<=40
  simp_all
 ·show (d.types.map tEr).all tyB=true
  grind [qFY,tyB_er]
 ·show (d.procs.map pEr).all prB=true
  rw[qFY _ prB_er];exact h.1.2
theorem valid_re(h:qAF (dEr d)=true)(h1:d.measures=[])(h2:d.invs=[])(h3:d.pots=[])(h4:d.bounds=[]):qAF d=true:=by
 unfold qAF at h ⊢
 simp only[Bool.and_eq_true,decide_eq_true_eq]at h ⊢
 refine⟨⟨⟨⟨⟨⟨⟨h.1.1.1.1.1.1.1,?_⟩,h.1.1.1.1.1.2⟩,?_⟩,?_⟩,?_⟩,?_⟩,?_⟩
 ·grind [dEr,tEr]
 ·grind [dEr,pEr]
 ·grind [lensB]
 ·have:=h.1.1.2
  rw[show (dEr d).types=d.types.map tEr from rfl,qFY _ tyB_er]at this;exact this
 ·have:=h.1.2
  rw[show (dEr d).procs=d.procs.map pEr from rfl,qFY _ prB_er]at this;exact this
 grind [formB]
theorem qIq(s:ByteArray):qBm (dEr d) s=qBm d s:=qKN (f:=tEr) _ fun _=>rfl
theorem qKt(s:ByteArray):qBx (dEr d) s=qBx d s:=by unfold qBx;rw[qIq]
theorem fits_er(a b:ByteArray):qEb (dEr d) a b=qEb d a b:=by unfold qEb;rw[qIq]
theorem tyOf_er(s:ByteArray):qJh (dEr d) s=(qJh d s).map tEr:=find_map' (f:=tEr) _ fun _=>rfl
theorem prOf_er(s:ByteArray):qHZ (dEr d) s=(qHZ d s).map pEr:=find_map' (f:=pEr) _ fun _=>rfl
theorem fieldT_er(t n:ByteArray):qCc (dEr d) t n=qCc d t n:=by
 unfold qCc
 rw[tyOf_er]
 cases qJh d t <;> rfl
theorem fitAll_er:∀(l:List ByteArray) (fs:List Fld),qCw (dEr d) l fs=qCw d l fs
 | a::l,f::fs=>by unfold qCw;rw[fits_er,fitAll_er]
 | [],_=>by simp[qCw]
 | _::_,[]=>by simp[qCw]
theorem callT_er(n:ByteArray)(l:List ByteArray):qGG (dEr d) n l=qGG d n l:=by
 unfold qGG
 rw[prOf_er]
 cases qHZ d n with
 | none=>rfl
 | some p =>
  show (if l.length≠p.params.length then _ else if qCw (dEr d) l p.params=true then _ else _)=_
  rw[fitAll_er];rfl
theorem nodeT_er{sc:Sc}(hb:sc.body=true)(op:Int)(s:ByteArray)(l:List ByteArray):qGx (dEr d) sc op s l=qGx d sc op s l:=by
 unfold qGx callE
 rw[if_pos hb,if_pos hb]
 simp only[fieldT_er,qIq,callT_er,fits_er]
mutual
theorem exprT_er{sc:Sc}(hb:sc.body=true):∀e:E,qAo (dEr d) sc (eEr e)=qAo d sc e
 | .mk o n s _ k=>by unfold eEr qAo;rw[qFH hb,nodeT_er d hb]
theorem qFH{sc:Sc}(hb:sc.body=true):∀(acc:List ByteArray) (l:List E),partsT (dEr d) sc acc (qFp l)=partsT d sc acc l
 | _,[]=>by rfl
 | acc,x::xs=>by unfold qFp partsT;rw[exprT_er hb,qFH hb]
end
theorem stmtT_er{sc:Sc}(hb:sc.body=true)(r:ByteArray)(op:Int)(s:ByteArray)(es:List E):qGm (dEr d) sc r op s (qFp es)=qGm d sc r op s es:=by
 unfold qGm
 rw[qFH d hb]
 simp only[fits_er,fieldT_er]
 congr 1
 match es with
 | []=>unfold qFp;rfl
 | .mk o n s _ k::es =>
  grind [qFp,eEr,E.k,E.s,qFH,callT_er]
mutual
theorem stT_er{sc:Sc}(hb:sc.body=true)(r:ByteArray):∀(n:Int) (e:S),stT (dEr d) sc r n (sEr e)=stT d sc r n e
 | n,.mk o s _ es _ ls _ xs=>by
  unfold sEr stT
  rw[stmtT_er d hb,qJS hb r (n+1) ls,qJS hb r _ xs]
theorem qJS{sc:Sc}(hb:sc.body=true)(r:ByteArray):∀(n:Int) (l:List S),qBQ (dEr d) sc r n (qGc l)=qBQ d sc r n l
 | _,[]=>by rfl
 | n,x::xs=>by unfold qGc qBQ;rw[stT_er hb,qJS hb]
end
theorem oneT_er(l:List Fld)(i:Nat)(f:Fld):qGd (dEr d) l i f=qGd d l i f:=by unfold qGd;rw[qKt]
theorem declT_er(l:List Fld):qDA (dEr d) l=qDA d l:=by
 grind [qDA,oneT_er]
theorem types_er:qGK (dEr d)=qGK d:=by
 unfold qGK
 congr 1
 ·unfold types1
  refine qEw (f:=tEr) d.types 0 fun j x=>?_
  rw[show (dEr d).types=d.types.map tEr from rfl,<- List.map_take,qKN (f:=tEr) (q:=fun g=>decide (g.name=x.name)) _ fun _=>rfl]
  rfl
 congr 1
 ·grind [types2,qEw,tEr,qDA,dEr,Int,declT_er]
 ·unfold types3
  simp only[oneT_er]
  rfl
theorem heads_er:qEY (dEr d)=qEY d:=by
 unfold qEY
 refine qEw (f:=pEr) d.procs 0 fun j x=>?_
 rw[show (dEr d).procs=d.procs.map pEr from rfl,<- List.map_take,qKN (f:=pEr) (q:=fun g=>decide (g.name=x.name)) _ fun _=>rfl,declT_er,qKt]
 rfl
theorem bodies_er:qCu (dEr d)=qCu d:=by
 unfold qCu
 refine qEw (f:=pEr) d.procs 0 fun j x=>?_
 show (if (qBQ (dEr d) (qAj d x) x.result 0 (qGc x.body)).2≠0 then some (x.name,(qBQ (dEr d) (qAj d x) x.result 0 (qGc x.body)).1,(qBQ (dEr d) (qAj d x) x.result 0 (qGc x.body)).2) else none)=_
 rw[qJS d rfl]
theorem qDc{α:Type}{a b:Option α}:a.or b=none↔a=none/\b=none:=by cases a <;> simp
theorem chk_er(h:qIH d=none):qIH (dEr d)=none:=by
 unfold qIH at h ⊢
 rw[qDc,qDc,qDc,qDc]at h
 rw[types_er,heads_er,bodies_er,h.1,h.2.1,h.2.2.2.1]
 rfl
theorem chk_re(h:qIH (dEr d)=none)(h1:d.measures=[])(h2:d.invs=[])(h3:d.pots=[])(h4:d.bounds=[]):qIH d=none:=by
 unfold qIH at h ⊢
 rw[qDc,qDc,qDc,qDc,types_er,heads_er,bodies_er]at h
 rw[h.1,h.2.1,h.2.2.2.1]
 have e1:qFl d=none:=by unfold qFl form1 form2 form3 form4;rw[h1,h2,h3,h4];rfl
 have e2:qIA d=none:=by unfold qIA exp1 exp2 exp3 exp4;rw[h1,h2,h3,h4];rfl
 rw[e1,e2];rfl
theorem idxT_er(s:ByteArray):qDQ (dEr d) s=qDQ d s:=idx_map (f:=tEr) _ fun _=>rfl
theorem qDz(t:Int):qAq (dEr d) t=qAq d t:=by
 unfold qAq
 rw[show (dEr d).types=d.types.map tEr from rfl,List.getElem?_map,Option.map_map];rfl
theorem right_er(m:Mm)(t:ByteArray)(v:Int):qAu (dEr d) m t v=qAu d m t v:=by unfold qAu;rw[idxT_er]
theorem values_er(m:Mm)(l:List Fld)(vs:List Int):qAg (dEr d) m l vs=qAg d m l vs:=by unfold qAg;simp only[right_er]
theorem typed_er(l:List Fld):qBO (dEr d) l=qBO d l:=by unfold qBO;simp only[qKt]
theorem has_er:(qBO (dEr d) (dEr d).globals&&allI (fun i t=>decide (qDQ (dEr d) t.name=(i:Int))&&qBO (dEr d) t.fields) (dEr d).types)=(qBO d d.globals&&allI (fun i t=>decide (qDQ d t.name=(i:Int))&&qBO d t.fields) d.types):=by
 simp only[idxT_er,typed_er]
 congr 1
 unfold allI
 rw[show (dEr d).types=d.types.map tEr from rfl,List.zipIdx_map]
 exact qFY _ fun _=>rfl
theorem mem_er{d':Ds}(he:dEr d=dEr d')(hv:qAF d'=true){m:Mm}(h:qAx d m=true):qAx d' m=true:=by
 have key:∀x:Ds,qAx x m=(qAF x&&(qBO (dEr x) (dEr x).globals&&allI (fun i t=>decide (qDQ (dEr x) t.name=(i:Int))&&qBO (dEr x) t.fields) (dEr x).types)&&(decide (m.nodes.length<=4096)&&m.nodes.all (fun n=>decide (0<=n.ty/\n.ty<((dEr x).types.length:Int)))&&qAg (dEr x) m (dEr x).globals m.globals&&m.nodes.all fun n=>qAg (dEr x) m (qAq (dEr x) n.ty) n.f)):=fun x=>by
  rw[has_er]
  simp only[values_er,qDz]
  rw[show (dEr x).types=x.types.map tEr from rfl,List.length_map]
  unfold qAx hasT
  simp only[Bool.and_assoc]
  rfl
 simp_all
end
structure qIM (d d':Ds):Prop where
 er:dEr d=dEr d'
 h1:d'.measures=[]
 h2:d'.invs=[]
 h3:d'.pots=[]
 h4:d'.bounds=[]
theorem qAz.same{d d':Ds}{m:Mm}(G:qAz d m)(h:qIM d d'):qAz d' m:=by
 have hv:=valid_re d' (h.er ▸ valid_er d G.valid) h.h1 h.h2 h.h3 h.h4
 exact⟨hv,chk_re d' (h.er ▸ chk_er d G.chk) h.h1 h.h2 h.h3 h.h4,mem_er d h.er hv G.mem⟩
section
variable(d:Ds)
theorem qKh(s:ByteArray):qCU (dEr d) s=qCU d s:=idx_map (f:=pEr) _ fun _=>rfl
theorem cllE_er(m:Mm)(nm:ByteArray)(l:List Int):qDh (dEr d) m nm l=qDh d m nm l:=by
 unfold qDh
 rw[qKh,show (dEr d).procs=d.procs.map pEr from rfl,List.getElem?_map]
 cases d.procs[(qCU d nm).toNat]? with
 | none=>rfl
 | some p =>
  show (if qCU d nm<0 then _ else if l.length=p.params.length then (if qAg (dEr d) m p.params l=true then _ else _) else _)=_
  rw[values_er]
theorem fldX_er(a:Int)(s:ByteArray)(st:St):fldX (dEr d) a s st=fldX d a s st:=by unfold fldX;simp only[qDz]
theorem newX_er(s:ByteArray)(st:St):newX (dEr d) s st=newX d s st:=by unfold newX;simp only[qDz,idxT_er]
theorem putX_er(a v:Int)(s:ByteArray)(st:St):putX (dEr d) a v s st=putX d a v s st:=by unfold putX;simp only[qDz]
theorem intB_er{sc:Sc}(hb:sc.body=true):∀l:List E,intB (dEr d) sc (qFp l)=intB d sc l
 | []=>by unfold qFp;rfl
 | x::xs=>by
  unfold qFp
  show decide ((qAo (dEr d) sc (eEr x)).1=qBd)=decide ((qAo d sc x).1=qBd)
  rw[exprT_er d hb]
theorem combX_er(C:Cf)(p:Pr)(vals:List Int)(b:Bool)(op n:Int)(s:ByteArray)(ks:List (St->Rx Int))(st:St):qDo (dEr d) C (pEr p) vals b op n s ks st=qDo d C p vals b op n s ks st:=by
 unfold qDo
 simp only[fldX_er,newX_er,qKh]
 rfl
mutual
theorem evX_er(C:Cf)(p:Pr)(vals:List Int):∀e:E,evX (dEr d) C (pEr p) vals (eEr e)=evX d C p vals e
 | .mk o n s _ k=>by
  unfold eEr evX
  funext st
  rw[combX_er,evXs_er C p vals k]
  show qDo d C p vals (intB (dEr d) (qAj d p) (qFp k)) o n s _ st=_
  rw[intB_er d rfl]
theorem evXs_er(C:Cf)(p:Pr)(vals:List Int):∀l:List E,evXs (dEr d) C (pEr p) vals (qFp l)=evXs d C p vals l
 | []=>by rfl
 | x::xs=>by unfold qFp evXs;rw[evX_er C p vals x,evXs_er C p vals xs]
end
theorem evX_er'(C:Cf)(p:Pr)(vals:List Int)(e:E)(st:St):evX (dEr d) C (pEr p) vals (eEr e) st=evX d C p vals e st:=congrFun (evX_er d C p vals e) st
theorem getD_er(l:List E)(i:Nat):(qFp l).getD i noE=eEr (l.getD i noE):=by
 rw[qDg,List.getD_eq_getElem?_getD,List.getD_eq_getElem?_getD,List.getElem?_map]
 grind [noE,eEr,qFp]
section
variable{Sn Sn':Sf}(hS:∀c p l vals st,Sn' c (pEr p) (qGc l) vals st=Sn c p l vals st)
include hS
theorem callX_er(c:Nat):qDW (dEr d) Sn' c=qDW d Sn c:=by
 funext i l st
 unfold qDW
 rw[show (dEr d).procs=d.procs.map pEr from rfl,List.getElem?_map]
 cases d.procs[i.toNat]? with
 | none=>rfl
 | some p =>
  show (if 200<=c then _ else (Sn' (c+1) (pEr p) (qGc p.body) _ st).bind _)=_
  rw[hS];rfl
theorem evS_er(c:Nat)(p:Pr)(vals:List Int)(e:E)(st:St):evS (dEr d) Sn' c (pEr p) vals (eEr e) st=evS d Sn c p vals e st:=by
 unfold evS
 rw[callX_er d hS,evX_er']
theorem whX_er(F c:Nat)(p:Pr)(e:E)(b:List S):∀(n:Nat) (vals:List Int) (st:St),whX (dEr d) F Sn' c (pEr p) (eEr e) (qGc b) n vals st=whX d F Sn c p e b n vals st
 | 0,_,_=>rfl
 | n+1,vals,st=>by
  unfold whX
  simp only[evS_er d hS,hS,whX_er F c p e b n]
theorem bodyX_er(F c:Nat)(p:Pr)(n:Nat)(s:S)(vals:List Int)(st:St):bodyX (dEr d) F Sn' c (pEr p) n (sEr s) vals st=bodyX d F Sn c p n s vals st:=by
 match s with
 | .mk o s _ es _ ls _ xs =>
  unfold sEr bodyX
  simp only[S.op,S.s,S.es,S.ls,S.xs,getD_er,evS_er d hS,hS,whX_er d hS,putX_er]
  cases es <;> simp only[qFp,evS_er d hS] <;> rfl
end
theorem stX_er{Sn Sn':Sf}(hS:∀c p l vals st,Sn' c (pEr p) (qGc l) vals st=Sn c p l vals st)(F c:Nat)(p:Pr)(n:Nat)(s:S)(vals:List Int)(st:St):stX (dEr d) F Sn' c (pEr p) n (sEr s) vals st=stX d F Sn c p n s vals st:=by
 grind [stX,bodyX_er]
theorem listX_er{f f':S->List Int->St->Rx Rt}(h:∀s vals st,f' (sEr s) vals st=f s vals st):∀(l:List S) (vals:List Int) (st:St),qGy f' (qGc l) vals st=qGy f l vals st
 | [],_,_=>by rfl
 | s::l,vals,st=>by
  unfold qGc qGy
  rw[h]
  simp only[listX_er h l]
theorem stsX_er(F:Nat):∀(n c:Nat) (p:Pr) (l:List S) (vals:List Int) (st:St),qFB (dEr d) F n c (pEr p) (qGc l) vals st=qFB d F n c p l vals st
 | 0,_,_,_,_,_=>rfl
 | n+1,c,p,l,vals,st=>listX_er (fun s vals st=>stX_er d (stsX_er F n) F c p (n+1) s vals st) l vals st
theorem playX_er(F:Nat)(i:Int)(l:List Int)(st:St):qBM (dEr d) F i l st=qBM d F i l st:=by
 simp_all [qBM,callX_er,stsX_er]
end
section
variable{d d':Ds}(h:qIM d d')
include h
theorem qIM.play(F:Nat)(i:Int)(l:List Int)(st:St):qBM d' F i l st=qBM d F i l st:=by rw[<- playX_er d,h.er,playX_er]
theorem qIM.cll(m:Mm)(nm:ByteArray)(l:List Int):qDh d' m nm l=qDh d m nm l:=by rw[<- cllE_er d,h.er,cllE_er]
theorem qIM.idx(s:ByteArray):qCU d' s=qCU d s:=by rw[<- qKh d,h.er,qKh]
theorem qIM.fields(t:Int):qAq d' t=qAq d t:=by rw[<- qDz d,h.er,qDz]
end
end Go.Proofs
namespace Go.Sx
open Go
section
variable{P:Program}{n:Nat}{ops:Array Oper}{Q:Exit->Act->World->Prop}
theorem qJc{F:Fence}{i:Nat}{o:Oper}{a:Act}{w:World}{K:Act->World->Prop}(ho:ops[i]?=some o)(hg:o.guard=none)(h:wpOpIn F n P ops Q i K a w):wpOpIn F n P ops Q i (fun a' w'=>(∃v,a'.tmps=(a.put o.dst v).tmps)/\K a' w') a w:=by
 unfold wpOpIn at *
 simp only[ho]at *
 have hw:=qBL (ops:=ops) (a:=a) hg
 rw[if_pos hw]at h ⊢
 unfold Oper.wpIn at *
 refine⟨h.1,?_⟩
 have h:=h.2
 generalize (o.semAt F.round a.eval).run P w=r at *
 have put_d:∀(ds:List Deferred) (v:Value),(({ a with defers:=ds }:Act).put o.dst v).tmps=(a.put o.dst v).tmps:=fun ds v=>by
  cases o.dst <;> rfl
 cases r with
 | ok x w' =>
  cases x <;> simp only[Oper.uponIn]at h ⊢ <;>
   first
    | exact⟨⟨_,rfl⟩,h⟩
    | exact⟨⟨_,put_d _ _⟩,h⟩
    | exact⟨h.1,CallsIn.mono h.2 (fun e w'' he=>by cases e <;> first|exact⟨⟨_,rfl⟩,he⟩|exact he)⟩
    | exact⟨h.1,RowsIn.mono h.2 (fun _ _ he=>⟨⟨_,rfl⟩,he⟩)⟩
    | exact⟨h.1,RoundIn.mono h.2 (fun e w'' he=>by cases e <;> first|exact⟨⟨_,rfl⟩,he⟩|exact he)⟩
    | exact h
 | halt x w'=>cases x <;> simp only[Oper.uponIn]at h ⊢ <;> exact h
theorem qGJ{F:Fence}{i:Nat}{o:Oper}{a:Act}{w:World}{K K':Act->World->Prop}{Q':Exit->Act->World->Prop}(ho:ops[i]?=some o)(hg:o.guard=none)(h:wpOpIn F n P ops Q' i K a w)(hp:∀ch a w,¬Q' (.panic ch) a w)(hl:¬LetsOut Q')(hK:∀a w,K a w->K' a w) :
  wpOpIn F n P ops Q i K' a w:=by
 unfold wpOpIn at *
 simp only[ho]at *
 have hw:=qBL (ops:=ops) (a:=a) hg
 rw[if_pos hw]at h ⊢
 unfold Oper.wpIn at *
 refine⟨h.1,?_⟩
 have h:=h.2
 generalize (o.semAt F.round a.eval).run P w=r at *
 cases r with
 | ok x w' =>
  cases x <;> simp only[Oper.uponIn]at h ⊢ <;>
   first
    | exact hK _ _ h
    | exact⟨h.1,CallsIn.mono h.2 (fun e w'' he=>by cases e <;> first|exact hK _ _ he|exact(hp _ _ _ he).elim|exact(hl he).elim)⟩
    | exact⟨h.1,RowsIn.mono h.2 (fun _ _ he=>hK _ _ he)⟩
    | exact⟨h.1,RoundIn.mono h.2 (fun e w'' he=>by cases e <;> first|exact hK _ _ he|exact(hp _ _ _ he).elim|exact(hl he).elim)⟩
    | exact h
 | halt x w' =>
  cases x <;> simp only[Oper.uponIn]at h ⊢
  all_goals first|exact(hp _ _ _ h).elim|exact h
def aft(ops:Array Oper)(i:Nat):List Nat:=((ops[i]?).map fun o=>(o.after.toList.filter (Region.binds .any)).map (·.on)).getD []
def anyOk(ops:Array Oper)(M k0:Nat)(deps:Nat->List Nat):Bool :=
 decide (ops.size=M+1)&&decide ((ops[M]?).map (·.dst)=some none)&&(List.range M).all (fun i=>decide ((ops[i]?).map (·.dst)=some (some (k0+i))))&&(List.range (M+1)).all (fun i=>((ops[i]?).map fun o=>o.guard.isNone).getD false&&(aft ops i).all (fun j=>decide (j<i))&&(deps i).all fun j=>decide (j∈aft ops i)) &&
  (List.range M).all fun j=>(List.range (M+1)).any fun i=>decide (j<i)&&decide (j∈aft ops i)
theorem qJq{ops:Array Oper}{listed:Array Bool}{i:Nat}(h:i∈Region.ready .any ops listed):i<ops.size/\listed.getD i true=false/\∀j∈aft ops i,listed.getD j false=true:=by
 unfold Region.ready at h
 rw[List.mem_filter,List.mem_range,Bool.and_eq_true]at h
 refine⟨h.1,by simpa using h.2.1,fun j hj=>?_⟩
 unfold aft at hj
 have h2:=h.2.2
 cases ho:ops[i]? with
 | none=>rw[ho]at hj;simp at hj
 | some o =>
  rw[ho]at hj h2
  simp only[Option.map_some,Option.getD_some,List.mem_map,List.mem_filter,Array.mem_toList_iff,Array.all_eq_true']at hj h2
  obtain⟨e,⟨he,hb⟩,rfl⟩:=hj
  have:=h2 e he
  rw[hb]at this
  simpa using this
theorem ready_in{ops:Array Oper}{listed:Array Bool}{i:Nat}(hi:i<ops.size)(h1:listed.getD i true=false)(h2:∀j∈aft ops i,listed.getD j false=true):i∈Region.ready .any ops listed:=by
 unfold Region.ready
 rw[List.mem_filter,List.mem_range,Bool.and_eq_true]
 refine⟨hi,by simp[h1],?_⟩
 have ho:ops[i]?=some ops[i]:=Array.getElem?_eq_getElem hi
 unfold aft at h2
 rw[ho]at h2 ⊢
 simp only[Option.map_some,Option.getD_some,List.mem_map,List.mem_filter,Array.mem_toList_iff,Array.all_eq_true']at h2 ⊢
 intro e he
 cases hb:Region.binds .any e with
 | false=>rfl
 | true=>simpa using h2 e.on ⟨e,⟨he,hb⟩,rfl⟩
theorem qFT{l:Array Bool}{i:Nat}(hi:i<l.size)(a b:Bool):l.getD i a=l.getD i b:=by simp[Array.getD,hi]
def unl(listed:Array Bool)(M:Nat):Nat:=((List.range M).filter fun i=>!listed.getD i true).length
theorem filt_le{α:Type}{p q:α->Bool}:∀{l:List α},(∀a∈l,q a=true->p a=true)->(l.filter q).length<=(l.filter p).length
 | [],_=>Nat.le_refl _
 | a::l,h=>by
  have ih:=filt_le (l:=l) fun x hx=>h x (List.mem_cons_of_mem _ hx)
  have ha:=h a List.mem_cons_self
  rw[List.filter_cons,List.filter_cons]
  cases hq:q a with
  | true=>rw[ha hq];simpa using ih
  | false =>
   cases hp:p a with
   | true=>simp;omega
   | false=>simpa using ih
theorem filt_lt{α:Type}{p q:α->Bool}:∀{l:List α},(∀a∈l,q a=true->p a=true)->∀a∈l,p a=true->q a=false->(l.filter q).length<(l.filter p).length
 | [],_,a,ha,_,_=>by cases ha
 | b::l,h,a,ha,hp,hq=>by
  have h':∀x∈l,q x=true->p x=true:=fun x hx=>h x (List.mem_cons_of_mem _ hx)
  rw[List.filter_cons,List.filter_cons]
  rcases List.mem_cons.1 ha with rfl|hm
  ·rw[hp,hq]
   have:=filt_le h'
   simp;omega
  ·have ih:=filt_lt h' a hm hp hq
   have hb:=h b List.mem_cons_self
   cases hqb:q b with
   | true=>rw[hb hqb];simpa using ih
   | false =>
    cases hpb:p b with
    | true=>simp;omega
    | false=>simpa using ih
theorem unl_set{listed:Array Bool}{M i:Nat}(hi:i<M)(hs:listed.size=M)(h:listed.getD i true=false):unl (listed.setIfInBounds i true) M<unl listed M:=by
 have h1:(listed.setIfInBounds i true).getD i true=true:=by simp[Array.getD,hs,hi]
 refine filt_lt (fun j _ hj=>?_) i (List.mem_range.2 hi) (by rw[h];rfl) (by rw[h1];rfl)
 by_cases hx:j=i
 ·subst hx;rw[h1]at hj;cases hj
 ·have:(listed.setIfInBounds i true).getD j true=listed.getD j true:=by
   simp[Array.getD_eq_getD_getElem?,Array.getElem?_setIfInBounds_ne (Ne.symm hx)]
  rw[this]at hj;exact hj
theorem unl_zero{listed:Array Bool}{M:Nat}(hs:listed.size=M)(h:unl listed M=0):∀i,i<M->listed.getD i false=true:=fun i hi=>by
 unfold unl at h
 have:=List.eq_nil_of_length_eq_zero h
 rw[List.filter_eq_nil_iff]at this
 have:=this i (List.mem_range.2 hi)
 rw[qFT (by omega) false true]
 simpa using this
section
variable{M k0 N:Nat}{deps:Nat->List Nat}{Pr:Nat->Value->Mem->Prop}{Φ:Mem->Prop}{V:Mem}{base:List (Nat×Value)}{a0:Act}{w0:World}
theorem anyR_sound(chk:anyOk ops M k0 deps=true)(mono:∀i v V1 V2,V1.sub V2->Pr i v V1->Pr i v V2)(hbase:∀s v,base.lookup s=some v->s<k0)
  (hN:k0+M<=N)
  (hstep:∀i,i<M->∀V1,V.sub V1->∀val:Nat->Value,(∀j∈deps i,Pr j (val j) V1)->∃ins,(∀s v,ins.lookup s=some v->base.lookup s=some v∨∃j∈deps i,s=k0+j/\v=val j)/\qCS P N ops i 1 ins [k0+i] V1 fun vs V2=>∃v,vs=[v]/\V1.sub V2/\Pr i v V2)
  (hlast:∀V1,V.sub V1->∀val:Nat->Value,(∀j∈deps M,Pr j (val j) V1)->∃ins,(∀s v,ins.lookup s=some v->base.lookup s=some v∨∃j∈deps M,s=k0+j/\v=val j)/\qCS P N ops M 1 ins [] V1 fun _ V2=>Φ V2)
  (hQ:∀a' w' V',a'.defers=a0.defers->Has N a' base->Φ V'->Frm V w0 V' w'->Q .normal a' w') :
  ∀(fuel:Nat) (listed:Array Bool) (a:Act) (w:World),listed.size=M+1->unl listed (M+1)<=fuel ->
   ((∃V1,V.sub V1/\Frm V w0 V1 w/\a.defers=a0.defers/\Has N a base/\listed.getD M false=false/\(∀i,i<M->listed.getD i false=true->Pr i (a.tmps.getD (k0+i) undef) V1)/\∀i,i<M->listed.getD i false=true->∀j∈aft ops i,listed.getD j false=true)∨((∀i,i<M+1->listed.getD i false=true)/\Q .normal a w)) ->
   wpAnyIn (qAy none) n P .any ops Q fuel listed a w:=by
 unfold anyOk at chk
 simp only[Bool.and_eq_true,decide_eq_true_eq,List.all_eq_true,List.mem_range,List.any_eq_true]at chk
 obtain⟨⟨⟨⟨c1,c0⟩,c2⟩,c3⟩,c4⟩:=chk
 have op:∀i,i<M+1->∃o,ops[i]?=some o/\o.guard=none:=fun i hi=>by
  have:=(c3 i hi).1.1
  cases ho:ops[i]? with
  | none=>rw[ho]at this;cases this
  | some o =>
   rw[ho]at this
   refine⟨o,rfl,?_⟩
   cases hg:o.guard with
   | none=>rfl
   | some g=>simp[hg]at this
 have none_left:∀listed:Array Bool,listed.size=M+1->Region.ready .any ops listed=[]->∀i,i<M+1->listed.getD i false=true:=fun listed hs hr i=>by
  induction i using Nat.strongRecOn with
  | ind i ih =>
   intro hi
   cases h:listed.getD i false with
   | true=>rfl
   | false =>
    have:i∈Region.ready .any ops listed:=ready_in (by omega) (by rw[qFT (by omega) true false];exact h) fun j hj=>by
     have hji:=(c3 i hi).1.2 j hj
     exact ih j hji (by omega)
    rw[hr]at this;cases this
 intro fuel
 induction fuel with
 | zero =>
  intro listed a w hs hu hI
  have hall:=unl_zero hs (by omega)
  rw[wpAnyIn]
  rcases hI with⟨V1,-,-,-,-,hM,-⟩|⟨-,hq⟩
  ·rw[hall M (by omega)]at hM;cases hM
  ·refine⟨?_,hq⟩
   cases hr:Region.ready .any ops listed with
   | nil=>rfl
   | cons i l =>
    obtain⟨h1,h2,-⟩:=qJq (hr ▸ List.mem_cons_self:i∈Region.ready .any ops listed)
    rw[qFT (by omega) true false,hall i (by omega)]at h2;cases h2
 | succ fuel ih =>
  intro listed a w hs hu hI
  rw[wpAnyIn]
  refine⟨fun hr=>?_,fun i hi=>?_⟩
  ·rcases hI with⟨V1,-,-,-,-,hM,-⟩|⟨-,hq⟩
   ·rw[none_left listed hs hr M (by omega)]at hM;cases hM
   ·exact hq
  ·obtain⟨h1,h2,h3⟩:=qJq hi
   have hi':i<M+1:=by omega
   rcases hI with⟨V1,hsub,hF,hdf,hH,hM,hP,hC⟩|⟨hall,-⟩
   rotate_left
   ·rw[qFT (by omega) true false,hall i hi']at h2;cases h2
   obtain⟨o,ho,hg⟩:=op i hi'
   have hs':(listed.setIfInBounds i true).size=M+1:=by simp[hs]
   have hu':unl (listed.setIfInBounds i true) (M+1)<=fuel:=by have:=unl_set hi' hs h2;omega
   have hsame:(listed.setIfInBounds i true).getD i false=true:=by simp[Array.getD,hs,hi']
   have hother:∀j,j≠i->(listed.setIfInBounds i true).getD j false=listed.getD j false:=fun j hj=>by
    simp[Array.getD_eq_getD_getElem?,Array.getElem?_setIfInBounds_ne (Ne.symm hj)]
   have hdeps:∀j∈deps i,j<i/\listed.getD j false=true:=fun j hj=>⟨(c3 i hi').1.2 j ((c3 i hi').2 j hj),h3 j ((c3 i hi').2 j hj)⟩
   have hval:∀j∈deps i,Pr j (a.tmps.getD (k0+j) undef) V1:=fun j hj=>by
    have:=hdeps j hj
    exact hP j (by omega) this.2
   have hin:∀(ins:List (Nat×Value)),(∀s v,ins.lookup s=some v->base.lookup s=some v∨∃j∈deps i,s=k0+j/\v=a.tmps.getD (k0+j) undef)->∀s v,ins.lookup s=some v->a.tmps.getD s undef=v:=fun ins h s v hl=>by
    rcases h s v hl with h|⟨j,-,rfl,rfl⟩
    ·exact hH.2 s v h
    ·rfl
   by_cases hiM:i<M
   ·obtain⟨ins,hins,hseg⟩:=hstep i hiM V1 hsub (fun j=>a.tmps.getD (k0+j) undef) hval
    have hw:=hseg none n a w hF.le hH.1 (hin ins hins)
    rw[show List.range' i 1=[i] from rfl,wpOpsIn_cons]at hw
    have hdst:o.dst=some (k0+i):=by have:=c2 i hiM;rw[ho]at this;simpa using this
    have hfin:wpOpIn (qAy none) n P ops Q i (wpAnyIn (qAy none) n P .any ops Q fuel (listed.setIfInBounds i true)) a w:=by
     refine qGJ ho hg (qJc ho hg hw) (fun _ _ _ h=>by cases h.1) (fun h=>by obtain⟨_,_,h,_⟩:=h;cases h) ?_
     rintro a' w' ⟨⟨v,hv⟩,-,hd',hs2,vs,V2,hlook,⟨u,rfl,hsub2,hPu⟩,hF2⟩
     rw[hdst]at hv
     have hget:∀s,s≠k0+i->a'.tmps.getD s undef=a.tmps.getD s undef:=fun s hne=>by
      rw[hv];simp[Act.put,Array.getD_eq_getD_getElem?,Array.getElem?_setIfInBounds_ne (Ne.symm hne)]
     refine ih _ a' w' hs' hu' (.inl ⟨V2,hsub.trans hsub2,hF.trans hF2,hd'.trans hdf,⟨hs2,fun s v hs3=>?_⟩,?_,fun j hj hl=>?_,fun j hj hl k hk=>?_⟩)
     ·rw[hget s (by have:=hbase s v hs3;omega)];exact hH.2 s v hs3
     ·rw[hother M (by omega)];exact hM
     ·by_cases hji:j=i
      ·subst hji
       have:=hlook (k0+j) u (by simp)
       rw[this];exact hPu
      ·rw[hget (k0+j) (by omega)]
       rw[hother j hji]at hl
       exact mono _ _ _ _ hsub2 (hP j hj hl)
     ·by_cases hji:j=i
      ·subst hji
       by_cases hkj:k=j
       ·rw[hkj];exact hsame
       ·rw[hother k hkj];exact h3 k hk
      ·rw[hother j hji]at hl
       by_cases hki:k=i
       ·rw[hki];exact hsame
       ·rw[hother k hki];exact hC j hj hl k hk
    exact hfin
   ·have hiM:i=M:=by omega
    subst hiM
    have hall:∀k,k<=i->∀j,i-k<=j->j<i->listed.getD j false=true:=fun k=>by
     induction k with
     | zero=>intro _ j h4 h5;omega
     | succ k ihk =>
      intro hk j h4 h5
      obtain⟨b,hb1,hb2,hb3⟩:=c4 j h5
      by_cases hbi:b=i
      ·subst hbi;exact h3 j hb3
      ·exact hC b (by omega) (ihk (by omega) b (by omega) (by omega)) j hb3
    obtain⟨ins,hins,hseg⟩:=hlast V1 hsub (fun j=>a.tmps.getD (k0+j) undef) hval
    have hw:=hseg none n a w hF.le hH.1 (hin ins hins)
    rw[show List.range' i 1=[i] from rfl,wpOpsIn_cons]at hw
    have hdst:o.dst=none:=by rw[ho]at c0;simpa using c0
    refine qGJ ho hg (qJc ho hg hw) (fun _ _ _ h=>by cases h.1) (fun h=>by obtain⟨_,_,h,_⟩:=h;cases h) ?_
    rintro a' w' ⟨⟨u,hu''⟩,-,hd',hs2,vs,V2,-,hΦ,hF2⟩
    rw[hdst]at hu''
    have hu3:a'.tmps=a.tmps:=hu''
    refine ih _ a' w' hs' hu' (.inr ⟨fun j hj=>?_,hQ a' w' V2 (hd'.trans hdf) ⟨by rw[hu3];exact hH.1,fun s v hs3=>by rw[hu3];exact hH.2 s v hs3⟩ hΦ (hF.trans hF2)⟩)
    by_cases hji:j=i
    ·rw[hji];exact hsame
    ·rw[hother j hji];exact hall i (Nat.le_refl _) j (by omega) (by omega)
end
end
end Go.Sx
namespace Go.Proofs
open Go Go.Sx
set_option maxRecDepth 100000
set_option linter.unusedVariables false
section
variable{V:Mem}{R:RP}
noncomputable def c37a:List Code:=((qCi (qAm Tryz.f37) []).drop 0).take 3
def w37a  : MR:=fun V R=>TT 75 #[uS (qAr [120])] V fun e V1=>∃a b c d,e=rV (uA #[uI a,uI b,uS c,uL d])/\qAp [uS (qAr []),.slice none 0 0,.slice none 0 0,.slice none 0 0,.slice none 0 0,.slice none 0 0,.slice none 0 0,.slice none 0 0] 30 V1 fun g V2=>qAp [uI a,uI b,uS c,uL d] 151 V2 fun i V3=>qAp [uI 5,uI 0,uS (qAr [110,101,120,116]),.slice (qAa i 0) 1 1] 151 V3 fun j V4=>R (rT #[uP (qAa g 0),.func (.func 75) #[] #[],uP (qAa j 0)]) V4
theorem s37a{V:Mem}{R:List Value->Mem->Prop}(h:w37a V (OV R)):Seg Tryz.prog 34 c37a [] [0,1,2] V R :=
 qBl (H:=hK 34) [] [] rfl (by kernel_rfl) h
noncomputable def qBK:Array Oper:=qEl ((qCi (qAm Tryz.f37) []).getD 3 .skip)
def w37o0  : MR:=fun V R=>R (rT #[uA #[uS (qAr [110,101,120,116]),uS (qAr [76])]]) V
theorem s37o0{V:Mem}{R:List Value->Mem->Prop}(h:w37o0 V (OV R)):qCS Tryz.prog 34 qBK 0 1 [] [7] V R :=
 qAv (H:=hK 34) [] [] rfl (by kernel_rfl) h
def w37o1(a b:ByteArray):MR:=fun V R=>qAp [uS a,uS b] 101 V fun c V1=>R (rT #[.slice (qAa c 0) 1 1]) V1
theorem s37o1{a b:ByteArray}{V:Mem}{R:List Value->Mem->Prop}(h:w37o1 a b V (OV R)):qCS Tryz.prog 34 qBK 1 1 [(7,uA #[uS a,uS b])] [8] V R :=
 qAv (H:=hK 34) [(7,(.agg (.cons (.var .s 0) (.cons (.var .s 1) .nil))))] [uS a,uS b] rfl (by kernel_rfl) h
def w37o2(a:Sl):MR:=fun V R=>R (rT #[uA #[uS (qAr [76]),uL a]]) V
theorem s37o2{a:Sl}{V:Mem}{R:List Value->Mem->Prop}(h:w37o2 a V (OV R)):qCS Tryz.prog 34 qBK 2 1 [(8,uL a)] [9] V R :=
 qAv (H:=hK 34) [(8,(.var .sl 0))] [uL a] rfl (by kernel_rfl) h
def w37o3(a:ByteArray)(b:Sl):MR:=fun V R=>qAp [uS a,uL b] 98 V fun c V1=>R (rT #[.slice (qAa c 0) 1 1]) V1
theorem s37o3{a:ByteArray}{b:Sl}{V:Mem}{R:List Value->Mem->Prop}(h:w37o3 a b V (OV R)):qCS Tryz.prog 34 qBK 3 1 [(9,uA #[uS a,uL b])] [10] V R :=
 qAv (H:=hK 34) [(9,(.agg (.cons (.var .s 0) (.cons (.var .sl 1) .nil))))] [uS a,uL b] rfl (by kernel_rfl) h
def w37o4  : MR:=fun V R=>R (rT #[uA #[uS (qAr [104,101,97,100]),uS (qAr [76])]]) V
theorem s37o4{V:Mem}{R:List Value->Mem->Prop}(h:w37o4 V (OV R)):qCS Tryz.prog 34 qBK 4 1 [] [11] V R :=
 qAv (H:=hK 34) [] [] rfl (by kernel_rfl) h
def w37o5(a b:ByteArray):MR:=fun V R=>qAp [uS a,uS b] 101 V fun c V1=>R (rT #[.slice (qAa c 0) 1 1]) V1
theorem s37o5{a b:ByteArray}{V:Mem}{R:List Value->Mem->Prop}(h:w37o5 a b V (OV R)):qCS Tryz.prog 34 qBK 5 1 [(11,uA #[uS a,uS b])] [12] V R :=
 qAv (H:=hK 34) [(11,(.agg (.cons (.var .s 0) (.cons (.var .s 1) .nil))))] [uS a,uS b] rfl (by kernel_rfl) h
def w37o6  : MR:=fun V R=>R (rT #[uA #[uS (qAr [120]),uS (qAr [76])]]) V
theorem s37o6{V:Mem}{R:List Value->Mem->Prop}(h:w37o6 V (OV R)):qCS Tryz.prog 34 qBK 6 1 [] [13] V R :=
 qAv (H:=hK 34) [] [] rfl (by kernel_rfl) h
def w37o7(a b:ByteArray):MR:=fun V R=>qAp [uS a,uS b] 101 V fun c V1=>R (rT #[.slice (qAa c 0) 1 1]) V1
theorem s37o7{a b:ByteArray}{V:Mem}{R:List Value->Mem->Prop}(h:w37o7 a b V (OV R)):qCS Tryz.prog 34 qBK 7 1 [(13,uA #[uS a,uS b])] [14] V R :=
 qAv (H:=hK 34) [(13,(.agg (.cons (.var .s 0) (.cons (.var .s 1) .nil))))] [uS a,uS b] rfl (by kernel_rfl) h
def w37o8(a:Value):MR:=fun V R=>R (rT #[K.cast .f a]) V
theorem s37o8{a:Value}{V:Mem}{R:List Value->Mem->Prop}(h:w37o8 a V (OV R)):qCS Tryz.prog 34 qBK 8 1 [(1,K.cast .f a)] [15] V R :=
 qAv (H:=hK 34) [(1,(.var .f 0))] [a] rfl (by kernel_rfl) h
def w37o9(a:Value):MR:=fun V R=>∃f first caps,K.cast .f a=.func (.func f) first caps/\CO f/\TT f (first++#[uS (qAr [104,101,97,100])]++caps) V fun e V1=>∃b c d g,e=rV (uA #[uI b,uI c,uS d,uL g])/\R (rT #[uA #[uI b,uI c,uS d,uL g]]) V1
theorem s37o9{a:Value}{V:Mem}{R:List Value->Mem->Prop}(h:w37o9 a V (OV R)):qCS Tryz.prog 34 qBK 9 1 [(15,K.cast .f a)] [16] V R :=
 qAv (H:=hK 34) [(15,(.var .f 0))] [a] rfl (by kernel_rfl) h
def w37o10(a b:Int)(c:ByteArray)(d:Sl):MR:=fun V R=>qAp [uI a,uI b,uS c,uL d] 151 V fun g V1=>R (rT #[.slice (qAa g 0) 1 1]) V1
theorem s37o10{a b:Int}{c:ByteArray}{d:Sl}{V:Mem}{R:List Value->Mem->Prop}(h:w37o10 a b c d V (OV R)):qCS Tryz.prog 34 qBK 10 1 [(16,uA #[uI a,uI b,uS c,uL d])] [17] V R :=
 qAv (H:=hK 34) [(16,(.agg (.cons (.var (.i .i64) 0) (.cons (.var (.i .i64) 1) (.cons (.var .s 2) (.cons (.var .sl 3) .nil))))))] [uI a,uI b,uS c,uL d] rfl (by kernel_rfl) h
def w37o11(a:Sl):MR:=fun V R=>R (rT #[uA #[uI 1,uS (qAr [120]),uL a,.slice none 0 0,.slice none 0 0]]) V
theorem s37o11{a:Sl}{V:Mem}{R:List Value->Mem->Prop}(h:w37o11 a V (OV R)):qCS Tryz.prog 34 qBK 11 1 [(17,uL a)] [18] V R :=
 qAv (H:=hK 34) [(17,(.var .sl 0))] [uL a] rfl (by kernel_rfl) h
def w37o12(a:Value):MR:=fun V R=>R (rT #[K.cast .f a]) V
theorem s37o12{a:Value}{V:Mem}{R:List Value->Mem->Prop}(h:w37o12 a V (OV R)):qCS Tryz.prog 34 qBK 12 1 [(1,K.cast .f a)] [19] V R :=
 qAv (H:=hK 34) [(1,(.var .f 0))] [a] rfl (by kernel_rfl) h
def w37o13(a:Value):MR:=fun V R=>∃f first caps,K.cast .f a=.func (.func f) first caps/\CO f/\TT f (first++#[uS (qAr [120])]++caps) V fun e V1=>∃b c d g,e=rV (uA #[uI b,uI c,uS d,uL g])/\R (rT #[uA #[uI b,uI c,uS d,uL g]]) V1
theorem s37o13{a:Value}{V:Mem}{R:List Value->Mem->Prop}(h:w37o13 a V (OV R)):qCS Tryz.prog 34 qBK 13 1 [(19,K.cast .f a)] [20] V R :=
 qAv (H:=hK 34) [(19,(.var .f 0))] [a] rfl (by kernel_rfl) h
def w37o14  : MR:=fun V R=>R (rT #[uA #[uI 3,uI 0,uS (qAr []),.slice none 0 0]]) V
theorem s37o14{V:Mem}{R:List Value->Mem->Prop}(h:w37o14 V (OV R)):qCS Tryz.prog 34 qBK 14 1 [] [21] V R :=
 qAv (H:=hK 34) [] [] rfl (by kernel_rfl) h
def w37o15(a b:Int)(c:ByteArray)(d:Sl)(g i:Int)(j:ByteArray)(k:Sl):MR:=fun V R=>qAp [uI a,uI b,uS c,uL d,uI g,uI i,uS j,uL k] 151 V fun l V1=>R (rT #[.slice (qAa l 0) 2 2]) V1
theorem s37o15{a b:Int}{c:ByteArray}{d:Sl}{g i:Int}{j:ByteArray}{k:Sl}{V:Mem}{R:List Value->Mem->Prop}(h:w37o15 a b c d g i j k V (OV R)):qCS Tryz.prog 34 qBK 15 1 [(20,uA #[uI a,uI b,uS c,uL d]),(21,uA #[uI g,uI i,uS j,uL k])] [22] V R :=
 qAv (H:=hK 34) [(20,(.agg (.cons (.var (.i .i64) 0) (.cons (.var (.i .i64) 1) (.cons (.var .s 2) (.cons (.var .sl 3) .nil)))))),(21,(.agg (.cons (.var (.i .i64) 4) (.cons (.var (.i .i64) 5) (.cons (.var .s 6) (.cons (.var .sl 7) .nil))))))] [uI a,uI b,uS c,uL d,uI g,uI i,uS j,uL k] rfl (by kernel_rfl) h
def w37o16(a:Sl):MR:=fun V R=>R (rT #[uA #[uI 15,uI 0,uS (qAr []),uL a]]) V
theorem s37o16{a:Sl}{V:Mem}{R:List Value->Mem->Prop}(h:w37o16 a V (OV R)):qCS Tryz.prog 34 qBK 16 1 [(22,uL a)] [23] V R :=
 qAv (H:=hK 34) [(22,(.var .sl 0))] [uL a] rfl (by kernel_rfl) h
def w37o17(a b:Int)(c:ByteArray)(d:Sl):MR:=fun V R=>qAp [uI a,uI b,uS c,uL d] 151 V fun g V1=>R (rT #[.slice (qAa g 0) 1 1]) V1
theorem s37o17{a b:Int}{c:ByteArray}{d:Sl}{V:Mem}{R:List Value->Mem->Prop}(h:w37o17 a b c d V (OV R)):qCS Tryz.prog 34 qBK 17 1 [(23,uA #[uI a,uI b,uS c,uL d])] [24] V R :=
 qAv (H:=hK 34) [(23,(.agg (.cons (.var (.i .i64) 0) (.cons (.var (.i .i64) 1) (.cons (.var .s 2) (.cons (.var .sl 3) .nil))))))] [uI a,uI b,uS c,uL d] rfl (by kernel_rfl) h
def w37o18(a:Option Addr):MR:=fun V R=>∃b c d g,V.rowp a ((0:Int).toNat*1) 4=some [uI b,uI c,uS d,uL g]/\R (rT #[uA #[uI b,uI c,uS d,uL g]]) V
theorem s37o18{a:Option Addr}{V:Mem}{R:List Value->Mem->Prop}(h:w37o18 a V (OV R)):qCS Tryz.prog 34 qBK 18 1 [(2,uP a)] [25] V R :=
 qAv (H:=hK 34) [(2,(.var .p 0))] [uP a] rfl (by kernel_rfl) h
def w37o19(a b:Int)(c:ByteArray)(d:Sl):MR:=fun V R=>qAp [uI a,uI b,uS c,uL d] 151 V fun g V1=>R (rT #[.slice (qAa g 0) 1 1]) V1
theorem s37o19{a b:Int}{c:ByteArray}{d:Sl}{V:Mem}{R:List Value->Mem->Prop}(h:w37o19 a b c d V (OV R)):qCS Tryz.prog 34 qBK 19 1 [(25,uA #[uI a,uI b,uS c,uL d])] [26] V R :=
 qAv (H:=hK 34) [(25,(.agg (.cons (.var (.i .i64) 0) (.cons (.var (.i .i64) 1) (.cons (.var .s 2) (.cons (.var .sl 3) .nil))))))] [uI a,uI b,uS c,uL d] rfl (by kernel_rfl) h
def w37o20(a:Sl):MR:=fun V R=>R (rT #[uA #[uI 1,uS (qAr [120]),uL a,.slice none 0 0,.slice none 0 0]]) V
theorem s37o20{a:Sl}{V:Mem}{R:List Value->Mem->Prop}(h:w37o20 a V (OV R)):qCS Tryz.prog 34 qBK 20 1 [(26,uL a)] [27] V R :=
 qAv (H:=hK 34) [(26,(.var .sl 0))] [uL a] rfl (by kernel_rfl) h
def w37o21(a:Int)(b:ByteArray)(c d g:Sl):MR:=fun V R=>qAp [uI a,uS b,uL c,uL d,uL g] 154 V fun i V1=>R (rT #[.slice (qAa i 0) 1 1]) V1
theorem s37o21{a:Int}{b:ByteArray}{c d g:Sl}{V:Mem}{R:List Value->Mem->Prop}(h:w37o21 a b c d g V (OV R)):qCS Tryz.prog 34 qBK 21 1 [(27,uA #[uI a,uS b,uL c,uL d,uL g])] [28] V R :=
 qAv (H:=hK 34) [(27,(.agg (.cons (.var (.i .i64) 0) (.cons (.var .s 1) (.cons (.var .sl 2) (.cons (.var .sl 3) (.cons (.var .sl 4) .nil)))))))] [uI a,uS b,uL c,uL d,uL g] rfl (by kernel_rfl) h
def w37o22(a b:Sl):MR:=fun V R=>R (rT #[uA #[uI 4,uS (qAr []),uL a,uL b,.slice none 0 0]]) V
theorem s37o22{a b:Sl}{V:Mem}{R:List Value->Mem->Prop}(h:w37o22 a b V (OV R)):qCS Tryz.prog 34 qBK 22 1 [(24,uL a),(28,uL b)] [29] V R :=
 qAv (H:=hK 34) [(24,(.var .sl 0)),(28,(.var .sl 1))] [uL a,uL b] rfl (by kernel_rfl) h
def w37o23(a:Int)(b:ByteArray)(c d g:Sl)(i:Int)(j:ByteArray)(k l o:Sl):MR:=fun V R=>qAp [uI a,uS b,uL c,uL d,uL g,uI i,uS j,uL k,uL l,uL o] 154 V fun p V1=>R (rT #[.slice (qAa p 0) 2 2]) V1
theorem s37o23{a:Int}{b:ByteArray}{c d g:Sl}{i:Int}{j:ByteArray}{k l o:Sl}{V:Mem}{R:List Value->Mem->Prop}(h:w37o23 a b c d g i j k l o V (OV R)):qCS Tryz.prog 34 qBK 23 1 [(18,uA #[uI a,uS b,uL c,uL d,uL g]),(29,uA #[uI i,uS j,uL k,uL l,uL o])] [30] V R :=
 qAv (H:=hK 34) [(18,(.agg (.cons (.var (.i .i64) 0) (.cons (.var .s 1) (.cons (.var .sl 2) (.cons (.var .sl 3) (.cons (.var .sl 4) .nil))))))),(29,(.agg (.cons (.var (.i .i64) 5) (.cons (.var .s 6) (.cons (.var .sl 7) (.cons (.var .sl 8) (.cons (.var .sl 9) .nil)))))))] [uI a,uS b,uL c,uL d,uL g,uI i,uS j,uL k,uL l,uL o] rfl (by kernel_rfl) h
def w37o24(a b:Sl):MR:=fun V R=>R (rT #[uA #[uS (qAr [119,97,108,107]),.slice none 0 0,uS (qAr []),uL a,uL b]]) V
theorem s37o24{a b:Sl}{V:Mem}{R:List Value->Mem->Prop}(h:w37o24 a b V (OV R)):qCS Tryz.prog 34 qBK 24 1 [(14,uL a),(30,uL b)] [31] V R :=
 qAv (H:=hK 34) [(14,(.var .sl 0)),(30,(.var .sl 1))] [uL a,uL b] rfl (by kernel_rfl) h
def w37o25(a:ByteArray)(b:Sl)(c:ByteArray)(d g:Sl):MR:=fun V R=>qAp [uS a,uL b,uS c,uL d,uL g] 143 V fun i V1=>R (rT #[.slice (qAa i 0) 1 1]) V1
theorem s37o25{a:ByteArray}{b:Sl}{c:ByteArray}{d g:Sl}{V:Mem}{R:List Value->Mem->Prop}(h:w37o25 a b c d g V (OV R)):qCS Tryz.prog 34 qBK 25 1 [(31,uA #[uS a,uL b,uS c,uL d,uL g])] [32] V R :=
 qAv (H:=hK 34) [(31,(.agg (.cons (.var .s 0) (.cons (.var .sl 1) (.cons (.var .s 2) (.cons (.var .sl 3) (.cons (.var .sl 4) .nil)))))))] [uS a,uL b,uS c,uL d,uL g] rfl (by kernel_rfl) h
def w37o26(a b c:Sl):MR:=fun V R=>R (rT #[uA #[uS (qAr [99,104,97,105,110]),uL a,uL b,uL c,.slice none 0 0,.slice none 0 0,.slice none 0 0,.slice none 0 0]]) V
theorem s37o26{a b c:Sl}{V:Mem}{R:List Value->Mem->Prop}(h:w37o26 a b c V (OV R)):qCS Tryz.prog 34 qBK 26 1 [(10,uL a),(12,uL b),(32,uL c)] [33] V R :=
 qAv (H:=hK 34) [(10,(.var .sl 0)),(12,(.var .sl 1)),(32,(.var .sl 2))] [uL a,uL b,uL c] rfl (by kernel_rfl) h
def w37o27(a:Option Addr)(b:ByteArray)(c d g i j k l:Sl):MR:=fun V R=>StT a 0 [uS b,uL c,uL d,uL g,uL i,uL j,uL k,uL l] V fun V1=>R (rT #[]) V1
theorem s37o27{a:Option Addr}{b:ByteArray}{c d g i j k l:Sl}{V:Mem}{R:List Value->Mem->Prop}(h:w37o27 a b c d g i j k l V (OV R)):qCS Tryz.prog 34 qBK 27 1 [(0,uP a),(33,uD b c d g i j k l)] [] V R :=
 qAv (H:=hK 34) [(0,(.var .p 0)),(33,(.agg (.cons (.var .s 1) (.cons (.var .sl 2) (.cons (.var .sl 3) (.cons (.var .sl 4) (.cons (.var .sl 5) (.cons (.var .sl 6) (.cons (.var .sl 7) (.cons (.var .sl 8) .nil))))))))))] [uP a,uS b,uL c,uL d,uL g,uL i,uL j,uL k,uL l] rfl (by kernel_rfl) h
end
end Go.Proofs
