/- Part 15 of a proof of a law of this seat: no statement of the seat is proved here. -/
import Derived.Test.YtmeagdecjpknkaaGreatDoorPp12
import Derived.DefersIn
import Derived.RecoverIn
import Derived.Test.YtmeagdecjpknkaaGreatDoorPp04
import Derived.Test.YtmeagdecjpknkaaGreatDoorPp14
import Derived.ProofKit
set_option linter.unusedVariables false
set_option linter.unusedSimpArgs false
namespace Go.Sx
open Go
section
variable{P:Program}{n:Nat}{ops:Array Oper}{i:Nat}{o:Oper}{rest:List Nat}{Q:Exit->Act->World->Prop}{a:Act}{w:World}
theorem qBL(hg:o.guard=none):Region.wanted o (yielded ops a.tmps)=true:=by simp[Region.wanted,hg]
theorem step_value{v:Value}(ho:ops[i]?=some o)(hg:o.guard=none)(hrun:(execOp a.eval o).run P w=.ok (.value v) w)(k:wpOpsIn (qAy none) n P ops Q rest (a.put o.dst v) w):wpOpsIn (qAy none) n P ops Q (i::rest) a w:=by
 rw[wpOpsIn_cons]
 unfold wpOpIn
 simp only[ho]
 rw[if_pos (qBL hg)]
 refine⟨fun _ _=>trivial,?_⟩
 show Oper.uponIn _ _ _ _ _ _ _ ((execOp a.eval o).run P w)
 rw[hrun];exact k
theorem step_defer{d:Deferred}(ho:ops[i]?=some o)(hg:o.guard=none)(hrun:(execOp a.eval o).run P w=.ok (.defer d) w)(k:wpOpsIn (qAy none) n P ops Q rest (({ a with defers:=d::a.defers }:Act).put o.dst undef) w):wpOpsIn (qAy none) n P ops Q (i::rest) a w:=by
 rw[wpOpsIn_cons]
 unfold wpOpIn
 simp only[ho]
 rw[if_pos (qBL hg)]
 refine⟨fun _ _=>trivial,?_⟩
 show Oper.uponIn _ _ _ _ _ _ _ ((execOp a.eval o).run P w)
 rw[hrun];exact k
theorem step_call{f:FuncId}{args:Array Value}{V:Mem}{R:Ending->Mem->Prop}(ho:ops[i]?=some o)(hg:o.guard=none)(hrun:(execOp a.eval o).run P w=.ok (.enter f args) w)(hV:V.le w)(H:Tri P f args V R)
  (hp:∀ch V' w',R (.panicked ch) V'->Frm V w V' w'->Q (.panic ch) a w') (hr:∀v V' w',R (.returned v) V'->Frm V w V' w'->wpOpsIn (qAy none) n P ops Q rest (a.put o.dst v) w') (hn:∀V',¬R .outgrown V'):wpOpsIn (qAy none) n P ops Q (i::rest) a w:=by
 rw[wpOpsIn_cons]
 unfold wpOpIn
 simp only[ho]
 rw[if_pos (qBL hg)]
 refine⟨fun _ _=>trivial,?_⟩
 show Oper.uponIn _ _ _ _ _ _ _ ((execOp a.eval o).run P w)
 rw[hrun]
 refine⟨fun h=>by simp[qAy,Fence.wide]at h,qDV.2 (qCH (H w hV) ?_)⟩
 grind
theorem run_callv{c:Call}{fv:Operand}{f:FuncId}{first caps args:Array Value}(hop:o.op=.call c)(hc:c.callee=.value fv)(hf:a.eval fv=.func (.func f) first caps)(hargs:c.args.map a.eval=args)(hk:∀args w,(callFunc f args).run P w=.ok (.enter f args) w) :
  (execOp a.eval o).run P w=.ok (.enter f (first++args++caps)) w:=by
 grind [execOp,resolve,Deferred.ofValue,invoke]
def Rec(u:FrameMode)(v:Value)(u':FrameMode):Prop :=
 match u with
 | .panicking ({ v:=v',recovered:=false,goexit:=false }::older)=>v=v'/\u'=.panicking ({ v:=v',recovered:=true }::older)
 | _=>v=.nilIface/\u'=u
end
section
variable{P:Program}{n:Nat}
theorem qHH{F:Fence}{c:Code}{Q Q':Exit->Act->List Frame->World->Prop}{a:Act}{cs:List Frame}{w:World}(h:c.wpSIn F n P Q a cs w)(hq:∀e a cs w,Q e a cs w->Q' e a cs w):c.wpSIn F n P Q' a cs w :=
 fun b k hb hr hF hroom=>let ⟨e,a',cs',w',hl,q,r⟩:=h b k hb hr hF hroom;⟨e,a',cs',w',hl,hq _ _ _ _ q,r⟩
theorem wpSIn_head{x:Code}:∀{c:Code} {rest:List Code} {Q:Exit->Act->List Frame->World->Prop} {a:Act} {cs:List Frame} {w:World},flat c=x::rest->x.wpSIn (qAy none) n P (Exit.thenS (fun a cs w=>wpL none n P (fun e a' w'=>Q e a' cs w') rest a w) Q) a cs w->c.wpSIn (qAy none) n P Q a cs w:=by
 intro c
 induction c with
 | seq p q ihp ihq =>
  intro rest Q a cs w hf h
  rw[flat]at hf
  cases hp:flat p with
  | nil =>
   exfalso
   have:∀c:Code,flat c≠[]:=fun c=>by
    induction c with
    | seq a b iha ihb=>rw[flat];simp[iha]
    | _=>simp[flat]
   exact this p hp
  | cons y r' =>
   rw[hp,List.cons_append]at hf
   obtain⟨rfl,rfl⟩:y=x/\r'++flat q=rest:=by
    simp_all
   refine wpSIn_seq (ihp hp (qHH h ?_))
   intro e a cs w he
   cases e with
   | normal =>
    refine qCx ?_ (qFc he)
    intro e a w he
    cases e with
    | normal=>exact wpSIn_of_wpIn rfl (qCm he)
    | _=>exact he
   | _=>exact he
 | _ =>
  intro rest Q a cs w hf h
  rw[flat]at hf
  ·injection hf with h1 h2
   subst h1;subst h2
   refine qHH h ?_
   intro e a cs w he
   cases e with
   | normal=>exact he
   | _=>exact he
  all_goals (intro x y;nofun)
variable{ops:Array Oper}{i:Nat}{o:Oper}{rest:List Nat}{Q:Exit->Act->World->Prop}{a:Act}{w:World}
theorem qJa{f:FuncId}{fn:Func}{x c:Code}{rest:List Code}{id:Nat}{o0 o1:Oper}{args:Array Value}{u:FrameMode}{R:Ending->FrameMode->World->Prop}{at0:Array TypeId}{t3 t6:Nat}(hf:P.funcs[f]?=some fn)(hb:fn.body=some c)(hfl:flat c=x::rest)(hx:x=.region id #[o0,o1] false)
  (h0:o0.op=.call { callee:=.builtin .recover,args:=#[],argTypes:=at0 }) (d0:o0.dst=some t6) (g0:o0.guard=none) (h1:o1.op=.assign (.tmp t6)) (d1:o1.dst=some t3) (g1:o1.guard=none) (h6:t6<fn.ntmps) (hd:args.size<=fn.ntmps)
  (H:∀(v:Value) (u':FrameMode),Rec u v u' ->
   wpL none n P (fun e a' w'=>(e=.normal∨e=.ret)/\a'.defers=[]/\∃v,(results fn a'.tmps).run P w'=.ok v w'/\R (.returned v) u' w') rest ((({ tmps:=args++Array.replicate (fn.ntmps-args.size) undef,defers:=[] }:Act).put (some t6) v).put (some t3) v) w) :
  CallsDIn (qAy none) n P f args u w R:=by
 refine callsDIn_of_wpSIn hf hb trivial fun c₀ cs hu=>?_
 refine wpSIn_head hfl ?_
 subst hx
 refine wpSIn_region ?_
 have hr0:∀a:Act,(execOp a.eval o0).run P w=.ok .recover w:=fun a=>by
  unfold execOp
  simp[h0,resolve,invoke,builtin]
 have hr1:∀a:Act,(execOp a.eval o1).run P w=.ok (.value (a.eval (.tmp t6))) w:=fun a=>by
  unfold execOp
  simp[h1]
 have go:∀(v:Value) (u':FrameMode) (cs':List Frame),Rec u v u'->cs'={ c₀ with mode:=u' }::cs ->
   wpOpsSIn (qAy none) n P #[o0,o1] (Exit.thenS (fun a cs' w=>wpL none n P (fun e a' w'=>bodyPostS P fn c₀ cs R e a' cs' w') rest a w) (bodyPostS P fn c₀ cs R)) [1] (({ tmps:=args++Array.replicate (fn.ntmps-args.size) undef,defers:=[] }:Act).put o0.dst v) cs' w:=fun v u' cs' hv hcs=>by
  rw[wpOpsSIn.eq_2]
  simp only[List.getElem?_toArray,List.getElem?_cons_succ,List.getElem?_cons_zero]
  refine⟨fun _ _=>trivial,?_⟩
  have hw:=qBL (ops:=#[o0,o1]) (a:=(({ tmps:=args++Array.replicate (fn.ntmps-args.size) undef,defers:=[] }:Act).put o0.dst v)) g1
  rw[if_pos hw,hr1]
  simp only
  rw[wpOpsSIn.eq_1]
  show wpL none n P (fun e a' w'=>bodyPostS P fn c₀ cs R e a' cs' w') rest _ w
  have e:(({ tmps:=args++Array.replicate (fn.ntmps-args.size) undef,defers:=[] }:Act).put o0.dst v).eval (.tmp t6)=v:=by
   rw[d0]
   exact qBq (a:={ tmps:=args++Array.replicate (fn.ntmps-args.size) undef,defers:=[] }) (v:=v) (by simp;omega)
  rw[e,d0,d1]
  refine qCx ?_ (H v u' hv)
  rintro e a' w' ⟨he,h1,v',h2,h3⟩
  rcases he with rfl|rfl
  ·exact⟨h1,u',hcs,v',h2,h3⟩
  ·exact⟨h1,u',hcs,v',h2,h3⟩
 show wpOpsSIn _ _ _ _ _ [0,1] _ _ _
 rw[wpOpsSIn.eq_2]
 simp only[List.getElem?_toArray,List.getElem?_cons_zero]
 refine⟨fun _ _=>trivial,?_⟩
 have hw:=qBL (ops:=#[o0,o1]) (a:=({ tmps:=args++Array.replicate (fn.ntmps-args.size) undef,defers:=[] }:Act)) g0
 simp only at hw
 rw[if_pos hw,hr0]
 simp only
 unfold recoverD
 split
 ·rename_i v cs' hrec
  simp only at hrec
  split at hrec
  ·rename_i v' older hm
   simp only[Option.some.injEq,Prod.mk.injEq]at hrec
   obtain⟨rfl,rfl⟩:=hrec
   rw[hu]at hm
   exact go _ _ _ (by unfold Rec;rw[hm];exact⟨rfl,rfl⟩) rfl
  ·cases hrec
 ·rename_i hrec
  simp only at hrec
  split at hrec
  ·cases hrec
  ·rename_i hm
   refine go _ u _ ?_ (by cases c₀;simp only at hu;subst hu;rfl)
   rw[hu]at hm
   unfold Rec
   split
   ·exact absurd rfl (hm _ _)
   ·exact⟨rfl,rfl⟩
end
end Go.Sx
namespace Go.Proofs
open Go Go.Sx
set_option maxRecDepth 100000
set_option linter.unusedVariables false
section
variable{V:Mem}{R:RP}
noncomputable def c73a:List Code:=((qCi (qAm Tryz.f73) []).drop 0).take 3
def w73a(a:ByteArray)(b c d g i j k l o:Sl)(p:ByteArray)(q:Sl)(r:Int):MR:=fun V R=>TT 114 #[uD a b c d g i j k,uA #[uL l,uL o],uA #[uS p,uL q]] V fun e V1=>∃s u y z A B,e=rT #[uA #[uS s,uL u,uS y,uL z,uL A],uI B]/\qAp [uS a,uL b,uL c,uL d,uL g,uL i,uL j,uL k] 30 V1 fun C V2=>qAp [uL l,uL o] 34 V2 fun D V3=>qAp [uS p,uL q] 49 V3 fun F V4=>qAp [uP none] 124 V4 fun G V5=>qAp [uI 0,uI 0,uI 0,uI 0,uI 0] 54 V5 fun H V6=>qAp [uS s,uL u,uS y,uL z,uL A] 143 V6 fun L V7=>R (rT #[uI r,uP (qAa C 0),uP (qAa D 0),uP (qAa F 0),uP (qAa G 0),uP (qAa H 0),uI B,uP (qAa L 0),uB (!(decide (B=0)))]) V7
theorem s73a{a:ByteArray}{b c d g i j k l o:Sl}{p:ByteArray}{q:Sl}{r:Int}{V:Mem}{R:List Value->Mem->Prop}(h:w73a a b c d g i j k l o p q r V (OV R)):Seg Tryz.prog 37 c73a [(0,uD a b c d g i j k),(1,uA #[uL l,uL o]),(2,uA #[uS p,uL q]),(3,uI r)] [3,4,5,6,8,9,10,11,20] V R :=
 qBl (H:=hK 37) [(0,(.agg (.cons (.var .s 0) (.cons (.var .sl 1) (.cons (.var .sl 2) (.cons (.var .sl 3) (.cons (.var .sl 4) (.cons (.var .sl 5) (.cons (.var .sl 6) (.cons (.var .sl 7) .nil)))))))))),(1,(.agg (.cons (.var .sl 8) (.cons (.var .sl 9) .nil)))),(2,(.agg (.cons (.var .s 10) (.cons (.var .sl 11) .nil)))),(3,(.var (.i .i64) 12))] [uS a,uL b,uL c,uL d,uL g,uL i,uL j,uL k,uL l,uL o,uS p,uL q,uI r] rfl (by kernel_rfl) h
noncomputable def c73b:List Code:=((qCi (qAm Tryz.f73) [3,0]).drop 0).take 1
def w73b(a b:Option Addr)(c:Int):MR:=fun V R=>StT a 0 [uP none] V fun V1=>StT b 0 [uI 0,uI 0,uI 0,uI 0,uI 0] V1 fun V2=>R (rT #[uP a,uP b,uI c]) V2
theorem s73b{a b:Option Addr}{c:Int}{V:Mem}{R:List Value->Mem->Prop}(h:w73b a b c V (OV R)):Seg Tryz.prog 37 c73b [(8,uP a),(9,uP b),(10,uI c)] [8,9,10] V R :=
 qBl (H:=hK 37) [(8,(.var .p 0)),(9,(.var .p 1)),(10,(.var (.i .i64) 2))] [uP a,uP b,uI c] rfl (by kernel_rfl) h
noncomputable def c73c:List Code:=((qCi (qAm Tryz.f73) []).drop 4).take 1
def w73c(a:Int)(b c d g i:Option Addr)(j:Int)(k:Option Addr):MR:=fun V R=>∃l o p q r s u y,V.rowp b ((0:Int).toNat*1) 8=some [uS l,uL o,uL p,uL q,uL r,uL s,uL u,uL y]/\∃z A,V.rowp c ((0:Int).toNat*1) 2=some [uL z,uL A]/\qAp [uS l,uL o,uL p,uL q,uL r,uL s,uL u,uL y,uL z,uL A,uI a,uI 0,uI 0,uI 0,.slice none 0 0] 128 V fun B V1=>StT g 0 [uP (qAa B 0)] V1 fun V2=>R (rT #[uP d,uP g,uP i,uI j,uP k]) V2
theorem s73c{a:Int}{b c d g i:Option Addr}{j:Int}{k:Option Addr}{V:Mem}{R:List Value->Mem->Prop}(h:w73c a b c d g i j k V (OV R)):Seg Tryz.prog 37 c73c [(3,uI a),(4,uP b),(5,uP c),(6,uP d),(8,uP g),(9,uP i),(10,uI j),(11,uP k)] [6,8,9,10,11] V R :=
 qBl (H:=hK 37) [(3,(.var (.i .i64) 0)),(4,(.var .p 1)),(5,(.var .p 2)),(6,(.var .p 3)),(8,(.var .p 4)),(9,(.var .p 5)),(10,(.var (.i .i64) 6)),(11,(.var .p 7))] [uI a,uP b,uP c,uP d,uP g,uP i,uI j,uP k] rfl (by kernel_rfl) h
noncomputable def c73d:Array Oper:=qEl ((qCi (qAm Tryz.f73) []).getD 6 .skip)
def w73d(a b c:Option Addr)(d:Int)(g:Option Addr):MR:=fun V R=>∃i,V.rowp b ((0:Int).toNat*1) 1=some [uP i]/\∃j k l o p,V.rowp g ((0:Int).toNat*1) 5=some [uS j,uL k,uS l,uL o,uL p]/\¬a=none/\∃q,V.rowp a 1 1=some [uL q]/\R (rT #[uP b,uP c,uI d,uP i,uA #[uS j,uL k,uS l,uL o,uL p],uL q]) V
theorem s73d{a b c:Option Addr}{d:Int}{g:Option Addr}{V:Mem}{R:List Value->Mem->Prop}(h:w73d a b c d g V (OV R)):qCS Tryz.prog 37 c73d 0 4 [(6,uP a),(8,uP b),(9,uP c),(10,uI d),(11,uP g)] [8,9,10,29,30,32] V R :=
 qAv (H:=hK 37) [(6,(.var .p 0)),(8,(.var .p 1)),(9,(.var .p 2)),(10,(.var (.i .i64) 3)),(11,(.var .p 4))] [uP a,uP b,uP c,uI d,uP g] rfl (by kernel_rfl) h
noncomputable def c73e:Array Oper:=qEl ((qCi (qAm Tryz.f73) []).getD 6 .skip)
def w73e(a b:Option Addr)(c:Int):MR:=fun V R=>¬b=none/\StT (qAa b 1) 0 [uI c] V fun V1=>R (rT #[uP a,uP b]) V1
theorem s73e{a b:Option Addr}{c:Int}{V:Mem}{R:List Value->Mem->Prop}(h:w73e a b c V (OV R)):qCS Tryz.prog 37 c73e 5 2 [(8,uP a),(9,uP b),(33,uI c)] [8,9] V R :=
 qAv (H:=hK 37) [(8,(.var .p 0)),(9,(.var .p 1)),(33,(.var (.i .i64) 2))] [uP a,uP b,uI c] rfl (by kernel_rfl) h
noncomputable def c73f:List Code:=((qCi (qAm Tryz.f73) []).drop 7).take 1
def w73f(a b:Option Addr):MR:=fun V R=>∃c,V.rowp a ((0:Int).toNat*1) 1=some [uP c]/\∃d g i j k,V.rowp b ((0:Int).toNat*1) 5=some [uI d,uI g,uI i,uI j,uI k]/\StT a 0 [uP c] V fun V1=>V1.rowp b 0 5=some [uI d,uI g,uI i,uI j,uI k]/\StT b 0 [uI d,uI g,uI i,uI j,uI k] V1 fun V2=>R (rT #[uP a,uP b,uI 0]) V2
theorem s73f{a b:Option Addr}{V:Mem}{R:List Value->Mem->Prop}(h:w73f a b V (OV R)):Seg Tryz.prog 37 c73f [(8,uP a),(9,uP b)] [8,9,10] V R :=
 qBl (H:=hK 37) [(8,(.var .p 0)),(9,(.var .p 1))] [uP a,uP b] rfl (by kernel_rfl) h
noncomputable def c115a:List Code:=((qCi (qAm Tryz.f115) []).drop 1).take 5
def w115a(a b:Option Addr)(c:Value):MR:=fun V R=>GenK Tryz.prog (.binOp .neq 20 (.tmp 8) (.const .nilIface) 20) 4 (gv [(8,K.cast .r c)]) V fun x V1=>∃d,x=uB d/\Br (d=true) (GenK Tryz.prog (.typeAssert (.tmp 11) 20 201 true) 202 (gv [(11,K.cast .r c)]) V1 fun x V2=>∃g i,x=.tuple #[uA #[uI g],uB i]/\Br (i=true) (¬a=none/\StT (qAa a 0) 0 [uI g] V2 fun V3=>∃j,V3.rowp b ((0:Int).toNat*1) 1=some [uP j]/\¬j=none/\¬j=none/\∃k,V3.rowp j 13 1=some [uI k]/\¬a=none/\¬(qAa a 2)=none/\StT (qAa a 2) 0 [uI k] V3 fun V4=>∃l,V4.rowp b ((0:Int).toNat*1) 1=some [uP l]/\¬l=none/\¬l=none/\∃o,V4.rowp l 14 1=some [uL o]/\Lp [uI 0] V4 fun I n V5=>∀p,I n [uI p] V5->∀J0:LMP,Nx I n J0->Br (p<(o.n:Int)) (Ix o p (∃q r s,V5.rowp o.p (p.toNat*3) 3=some [uI q,uI r,uI s]/\Br (0<r) (¬a=none/\¬(qAa a 2)=none/\∃u,V5.rowp a 3 1=some [uI u]/\IR (u+1)/\¬a=none/\¬(qAa a 2)=none/\StT (qAa a 3) 0 [uI (u+1)] V5 fun V6=>IR (p+1)/\J0 [uI (p+1)] V6) (IR (p+1)/\J0 [uI (p+1)] V5))) (R (rT #[]) V5)) (∃t x,K.cast .r c=.iface t x/\R (.panicked [{ v:=.iface t x,recovered:=false }]) V2)) (∃g,V1.rowp b ((0:Int).toNat*1) 1=some [uP g]/\¬g=none/\¬g=none/\∃i,V1.rowp g 13 1=some [uI i]/\¬a=none/\¬(qAa a 2)=none/\StT (qAa a 2) 0 [uI i] V1 fun V2=>∃j,V2.rowp b ((0:Int).toNat*1) 1=some [uP j]/\¬j=none/\¬j=none/\∃k,V2.rowp j 14 1=some [uL k]/\Lp [uI 0] V2 fun I n V3=>∀l,I n [uI l] V3->∀J0:LMP,Nx I n J0->Br (l<(k.n:Int)) (Ix k l (∃o p q,V3.rowp k.p (l.toNat*3) 3=some [uI o,uI p,uI q]/\Br (0<p) (¬a=none/\¬(qAa a 2)=none/\∃r,V3.rowp a 3 1=some [uI r]/\IR (r+1)/\¬a=none/\¬(qAa a 2)=none/\StT (qAa a 3) 0 [uI (r+1)] V3 fun V4=>IR (l+1)/\J0 [uI (l+1)] V4) (IR (l+1)/\J0 [uI (l+1)] V3))) (R (rT #[]) V3))
theorem s115a{a b:Option Addr}{c:Value}{V:Mem}{R:List Value->Mem->Prop}(h:w115a a b c V (OV R)):Seg Tryz.prog 46 c115a [(0,uP a),(1,uP b),(2,K.cast .r c)] [] V R :=
 qBl (H:=hK 46) [(0,(.var .p 0)),(1,(.var .p 1)),(2,(.var .r 2))] [uP a,uP b,c] rfl (by kernel_rfl) h
end
end Go.Proofs
namespace Go.Proofs
open Go Go.Sx
attribute [local irreducible] Go.Sx.Tri
theorem GenK.neqNil{V:Mem}{x:Operand}{t:TypeId}{v:Value}{ty:Nat}{vals:Operand->Value}(hx:vals x=.iface t v)(hy:vals (.const .nilIface)=.nilIface){q:Value->Mem->Prop}(hq:q (.bool true) V):GenK Tryz.prog (.binOp .neq 20 x (.const .nilIface) 20) ty vals V q:=by
 intro w hw
 refine⟨_,w,V,?_,Frm.refl hw,hq⟩
 have he:(Op.equal 20 (.iface t v) .nilIface).run Tryz.prog w=.ok false w:=by
  rw[qBX,Op.equalIn];simp[Sem.run_bind,run_underlying Tryz.underlying20]
 simp_all [execOp,binOp,eqGuard,Sem.run_bind]
theorem GenK.eqNilNil{V:Mem}{x:Operand}{ty:Nat}{vals:Operand->Value}(hx:vals x=.nilIface)(hy:vals (.const .nilIface)=.nilIface){q:Value->Mem->Prop}(hq:q (.bool false) V):GenK Tryz.prog (.binOp .neq 20 x (.const .nilIface) 20) ty vals V q:=by
 intro w hw
 refine⟨_,w,V,?_,Frm.refl hw,hq⟩
 have he:(Op.equal 20 .nilIface .nilIface).run Tryz.prog w=.ok true w:=by
  rw[qBX,Op.equalIn];simp[Sem.run_bind,run_underlying Tryz.underlying20]
 simp_all [execOp,binOp,eqGuard,Sem.run_bind]
theorem GenK.assertOk{P:Program}{V:Mem}{x:Operand}{t u:TypeId}{ts:Array Field}{v:Value}{ty:Nat}{vals:Operand->Value}(ht:P.underlying t=some (.struct ts))(hx:vals x=.iface t v){q:Value->Mem->Prop}(hq:q (.tuple #[v,.bool true]) V):GenK P (.typeAssert x u t true) ty vals V q:=by
 intro w hw
 refine⟨_,w,V,?_,Frm.refl hw,hq⟩
 unfold execOp
 simp[hx,Instr.typeAssert,Sem.run_bind,run_underlying ht]
noncomputable def dOp:Oper:={ dst:=none,op:=.move (.tmp 0),type:=0,pos := "",after:=#[],guard:=none }
theorem run_makeFunc{P:Program}{a:Act}{o:Oper}{f:Fn}{first caps:Array Operand}{w:World}(ho:o.op=.makeFunc f first caps):(execOp a.eval o).run P w=.ok (.value (.func f (first.map a.eval) (caps.map a.eval))) w:=by
 unfold execOp
 simp[ho,Instr.makeFunc]
theorem run_deferv{P:Program}{a:Act}{o:Oper}{c:Call}{fv:Operand}{f:Fn}{first caps:Array Value}{w:World}(hop:o.op=.defer c)(hc:c.callee=.value fv)(hf:a.eval fv=.func f first caps)(hargs:c.args.map a.eval=#[]) :
  (execOp a.eval o).run P w=.ok (.defer { target:=.fn f caps,args:=first++#[] }) w:=by
 simp_all [execOp,resolve,Deferred.ofValue]
theorem qKv{N:Nat}{a:Act}{l:List (Nat×Value)}(h:Has N a l){t:Nat}{v:Value}(ht:t<N):Has N (a.put (some t) v) ((t,v)::l):=by
 refine⟨by simp[Act.put,h.1],fun s u hs=>?_⟩
 rw[List.lookup_cons]at hs
 by_cases e:s=t
 ·subst e
  simp only[beq_self_eq_true]at hs
  cases hs
  simp[Act.put,Array.getD_eq_getD_getElem?,h.1,ht]
 ·have e':(s==t)=false:=by simpa using e
  rw[e']at hs
  have:=h.2 s u hs
  simp_all [Act.put,Array.getD_eq_getD_getElem?,Array.getElem?_setIfInBounds_ne,Ne.symm]
theorem qII{F:Fence}{n:Nat}{P:Program}{f:FuncId}{args:Array Value}{u:FrameMode}{w:World}{R R':Ending->FrameMode->World->Prop}(h:CallsDIn F n P f args u w R)(k:∀e u' w',R e u' w'->R' e u' w'):CallsDIn F n P f args u w R' :=
 ⟨h.1,fun c cs h1 h2=>let ⟨e,u',w',fr,a,b⟩:=h.2 c cs h1 h2;⟨e,u',w',fr,k _ _ _ a,b⟩⟩
def qEe(a0 a1 a2 a3:Int):List Value:=[.int .i64 a0,.int .i64 a1,.int .i64 a2,.int .i64 a3,.int .i64 0]
structure PM (V0:Mem) (d:Ds) (p F b8 b9:Nat) (gs ns ls:Sl) (nd:List Nd) (V:Mem) (s:St) (c:Nat) (a0 a1 a2 a3:Int):Prop where
 ex:∃W,V0.sub W/\W p=none/\V p=some (.cells (qBG d F s.tk c s.cm gs ns ls).toArray 128 (0,0))/\Lay W V gs ns ls nd s/\W b8=some (cell (pv p) 124)/\W b9=some (.cells (qEe a0 a1 a2 a3).toArray 54 (0,0))
section
variable{V0 V:Mem}{d:Ds}{p F b8 b9 c:Nat}{gs ns ls:Sl}{nd:List Nd}{s:St}{a0 a1 a2 a3 a0' a1' a2' a3':Int}
theorem PM.set9(h:PM V0 d p F b8 b9 gs ns ls nd V s c a0 a1 a2 a3)(n89:b8≠b9)(v9:V0 b9=none){x:Array Value}(hx:x=(qEe a0' a1' a2' a3').toArray):PM V0 d p F b8 b9 gs ns ls nd (V.set b9 (.cells x 54 (0,0))) s c a0' a1' a2' a3':=by
 obtain⟨W,h1,h2,h3,L,h8,h9⟩:=h.ex
 have np:p≠b9:=fun e=>by simp_all
 exact⟨W.set b9 (.cells x 54 (0,0)),h1.set v9 _,by rw[Mem.set_ne np];exact h2,by rw[Mem.set_ne np];exact h3,L.poke (by rw[h9];simp) _,by rw[Mem.set_ne n89];exact h8,by rw[Mem.set_same,hx]⟩
theorem PM.set8(h:PM V0 d p F b8 b9 gs ns ls nd V s c a0 a1 a2 a3)(n89:b8≠b9)(v8:V0 b8=none){x:Array Value}(hx:x=#[pv p]):PM V0 d p F b8 b9 gs ns ls nd (V.set b8 (.cells x 124 (0,0))) s c a0 a1 a2 a3:=by
 obtain⟨W,h1,h2,h3,L,h8,h9⟩:=h.ex
 have np:p≠b8:=fun e=>by simp_all
 exact⟨W.set b8 (.cells x 124 (0,0)),h1.set v8 _,by rw[Mem.set_ne np];exact h2,by rw[Mem.set_ne np];exact h3,L.poke (by rw[h8];simp) _,by rw[Mem.set_same,hx],by grind [Mem.set_ne]⟩
theorem PM.at8(h:PM V0 d p F b8 b9 gs ns ls nd V s c a0 a1 a2 a3):V b8=some (cell (pv p) 124):=by
 obtain⟨W,h1,h2,h3,L,h8,h9⟩:=h.ex
 exact L.sub _ _ h8
theorem PM.at9(h:PM V0 d p F b8 b9 gs ns ls nd V s c a0 a1 a2 a3):V b9=some (.cells (qEe a0 a1 a2 a3).toArray 54 (0,0)):=by
 obtain⟨W,h1,h2,h3,L,h8,h9⟩:=h.ex
 exact L.sub _ _ h9
theorem PM.em(h:PM V0 d p F b8 b9 gs ns ls nd V s c a0 a1 a2 a3):EM V0 d p F V s c:=by
 obtain⟨W,h1,h2,h3,L,h8,h9⟩:=h.ex
 exact MA.narrow (W:=W) ⟨h2,gs,ns,ls,nd,h3,L⟩ h1
theorem PM.atp(h:PM V0 d p F b8 b9 gs ns ls nd V s c a0 a1 a2 a3):V p=some (.cells (qBG d F s.tk c s.cm gs ns ls).toArray 128 (0,0)):=by
 obtain⟨W,h1,h2,h3,L,h8,h9⟩:=h.ex
 exact h3
theorem PM.log(h:PM V0 d p F b8 b9 gs ns ls nd V s c a0 a1 a2 a3):qAc V ls 3 (s.lg.map qGa):=by
 obtain⟨W,h1,h2,h3,L,h8,h9⟩:=h.ex
 exact L.log.rows (fun _=>rfl) (by decide)
theorem qIe{l:List (Int×Int×Int)}{i:Nat}{x:Int×Int×Int}(h:l[i]?=some x):qBe (l.take (i+1))=qBe (l.take i)+if 0<x.2.1 then 1 else 0:=by
 unfold qBe
 rw[List.take_add_one,h,List.filter_append,List.length_append]
 grind
theorem nodesN_le(l:List (Int×Int×Int))(i:Nat):qBe (l.take i)<=i:=by
 grind [qBe]
theorem lateTail(n89:b8≠b9)(v9:V0 b9=none)(P:PM V0 d p F b8 b9 gs ns ls nd V s c a0 a1 0 0){R:Ending->Mem->Prop}(hR:∀V',PM V0 d p F b8 b9 gs ns ls nd V' s c a0 a1 s.cm (qBe s.lg)->R (rT #[]) V') :
    (∃v4,V.rowp (sa b8) ((0:Int).toNat*1) 1=some [uP v4] /\
 ¬v4=none/\¬v4=none/\∃v5,V.rowp v4 ((13:Int).toNat*1) 1=some [uI v5] /\
 ¬(some (⟨b9,0,none⟩:Addr))=none/\¬(qAa (sa b9) 2)=none/\StT (qAa (sa b9) 2) 0 [uI v5] V fun V2 =>
 ∃v6,V2.rowp (sa b8) ((0:Int).toNat*1) 1=some [uP v6] /\
 ¬v6=none/\¬v6=none/\∃v7,V2.rowp v6 ((14:Int).toNat*1) 1=some [uL v7] /\
 ∃(I:Nat->List Value->Mem->Prop) (n0:Nat),I n0 [uI 0] V2/\∀n V3,∀v8,I n [uI v8] V3->∀J0:List Value->Mem->Prop,(∀m ys V'',m<n->I m ys V''->J0 ys V'') ->
 Br (v8<(v7.n:Int))
 (¬v7.p=none/\0<=v8/\v8<(v7.n:Int)/\∃v9 v10 v11,V3.rowp v7.p (v8.toNat*3) 3=some [uI v9,uI v10,uI v11] /\
 Br (0<v10)
 (¬(some (⟨b9,0,none⟩:Addr))=none/\¬(qAa (sa b9) 2)=none/\∃v12,V3.rowp (sa b9) ((3:Int).toNat*1) 1=some [uI v12] /\
 IR (v12+1)/\¬(some (⟨b9,0,none⟩:Addr))=none/\¬(qAa (sa b9) 2)=none/\StT (qAa (sa b9) 3) 0 [uI (v12+1)] V3 fun V4 =>
 IR (v8+1)/\J0 [uI (v8+1)] V4)
 (IR (v8+1)/\J0 [uI (v8+1)] V3))
 (R (rT #[]) V3)):=by
  refine⟨_,qBw P.at8,nn,nn,_,qAd P.atp 13 1 (by simp[qBG]),nn,pnn,StT.at2 (off:=2) P.at9 (by simp[qEe]) ?_⟩
  have P2:=P.set9 (a0':=a0) (a1':=a1) (a2':=s.cm) (a3':=0) n89 v9 (x:=(((qEe a0 a1 0 0).toArray.toList.take 2++[Value.int .i64 (s.cm:Int)]++(qEe a0 a1 0 0).toArray.toList.drop (2+[Value.int .i64 (s.cm:Int)].length)).toArray)) (by simp[qEe])
  refine⟨_,qBw P2.at8,nn,nn,ls,qAd P2.atp 14 1 (by simp[qBG]),qIY s.lg.length (fun i V3=>PM V0 d p F b8 b9 gs ns ls nd V3 s c a0 a1 s.cm (qBe (s.lg.take i))) P2 ?_⟩
  intro i V3 J hi P3 hJ
  refine⟨fun hlt=>?_,fun hge=>?_⟩
  · have hr:=P3.log
    obtain⟨x,-,hx,-,hil,hp,hz,hrow⟩:=hr.get hlt
    have hc:=hr.cap
    have hf:=hr.fit
    have hnn:=hr.n_eq
    have hle:=nodesN_le s.lg i
    have hs:=qIe hx
    refine⟨hp,hz,hlt,_,_,_,hrow,fun h0=>⟨nn,pnn,_,qAd P3.at9 3 1 (by simp[qEe]),⟨by omega,by omega⟩,nn,pnn,StT.at2 (off:=3) P3.at9 (by simp[qEe]) ⟨hr.succ hlt,hJ hil _ ?_⟩⟩,fun h0=>⟨hr.succ hlt,hJ hil _ ?_⟩⟩
    · rw[if_pos h0]at hs
      exact P3.set9 n89 v9 (by rw[hs];simp[qEe])
    simp_all
  · have hd:=(P3.log.done hge).2
    grind
def fltVE(e:Int):Value:=.iface 201 (.agg #[.int .i64 e])
theorem lateNil(n89:b8≠b9)(v9:V0 b9=none)(P:PM V0 d p F b8 b9 gs ns ls nd V s c 0 a1 0 0):Seg Tryz.prog 46 c115a [(0,pv b9),(1,pv b8),(2,.nilIface)] [] V fun _ V'=>PM V0 d p F b8 b9 gs ns ls nd V' s c 0 a1 s.cm (qBe s.lg):=by
 refine s115a (c:=.nilIface) ?_
 unfold w115a
 exact GenK.eqNilNil rfl rfl ⟨false,rfl,(fun k=>by cases k),fun _=>lateTail (R:=fun e V'=>∃vs:List Value,e=.returned (.tuple vs.toArray)/\PM V0 d p F b8 b9 gs ns ls nd V' s c 0 a1 s.cm (qBe s.lg)) n89 v9 P fun V' h=>⟨[],rfl,h⟩⟩
theorem lateFlt(n89:b8≠b9)(v9:V0 b9=none){e:Int}(P:PM V0 d p F b8 b9 gs ns ls nd V s c 0 a1 0 0):Seg Tryz.prog 46 c115a [(0,pv b9),(1,pv b8),(2,fltVE e)] [] V fun _ V'=>PM V0 d p F b8 b9 gs ns ls nd V' s c e a1 s.cm (qBe s.lg):=by
 refine s115a (c:=fltVE e) ?_
 unfold w115a
 refine GenK.neqNil rfl rfl ⟨true,rfl,fun _=>?_,fun k=>absurd rfl k⟩
 refine GenK.assertOk Tryz.underlying201 rfl ⟨e,true,rfl,fun _=>⟨nn,StT.at2 (off:=0) P.at9 (by simp[qEe]) ?_⟩,fun k=>absurd rfl k⟩
 exact lateTail (R:=fun x V'=>∃vs:List Value,x=.returned (.tuple vs.toArray)/\PM V0 d p F b8 b9 gs ns ls nd V' s c e a1 s.cm (qBe s.lg)) n89 v9 (P.set9 (a0':=e) (a1':=a1) (a2':=0) (a3':=0) n89 v9 (by simp[qEe])) fun V' h=>⟨[],rfl,h⟩
noncomputable def lateX:Code:=(flat (qAm Tryz.f115)).getD 0 .skip
theorem lateBody:(Tryz.f115).body=some (qAm Tryz.f115):=by kernel_rfl
theorem lateX_eq:lateX=.region 0 #[(qEl lateX).getD 0 dOp,(qEl lateX).getD 1 dOp] false:=by kernel_rfl
theorem late_flat:flat (qAm Tryz.f115)=lateX::c115a:=by kernel_rfl
theorem qGP{tmps:Array Value}{w:World}:(results Tryz.f115 tmps).run Tryz.prog w=.ok (.tuple #[]) w:=by
 simp_all [results]
theorem lateC(n89:b8≠b9)(v9:V0 b9=none)(P:PM V0 d p F b8 b9 gs ns ls nd V s c 0 a1 0 0){w:World}(hw:V.le w){u:FrameMode}{n:Nat}{f:Int}(hu:(u=.returning/\f=0)∨u=.panicking [{ v:=fltVE f,recovered:=false }]) :
  CallsDIn (qAy none) n Tryz.prog 115 #[pv b9,pv b8] u w fun e u' w'=>(∃v,e=.returned v)/\(∃V2,Frm V w V2 w'/\PM V0 d p F b8 b9 gs ns ls nd V2 s c f a1 s.cm (qBe s.lg)) /\
   ((u=.returning/\u'=.returning)∨(u'=.panicking [{ v:=fltVE f,recovered:=true }])):=by
 refine qJa (fn:=Tryz.f115) (at0:=#[]) (t3:=2) (t6:=7) Tryz.func115 lateBody late_flat lateX_eq (by kernel_rfl) (by kernel_rfl) (by kernel_rfl) (by kernel_rfl) (by kernel_rfl) (by kernel_rfl) (by simp_all) (by simp_all) ?_
 intro v u' hrec
 have h0:=qKv (qKv (qHy (args:=[pv b9,pv b8]) (N:=46) (by simp)) (t:=7) (v:=v) (by decide)) (t:=2) (v:=v) (by decide)
 have hH:Has 46 _ [(0,pv b9),(1,pv b8),(2,v)]:=⟨h0.1,fun s x hs=>by
  simp only[List.lookup_cons]at hs
  repeat' split at hs
  all_goals first
   | (rename_i e;simp only[beq_iff_eq]at e;subst e;cases hs;exact h0.get rfl)
   | cases hs⟩
 rcases hu with⟨rfl,rfl⟩|rfl
 ·obtain⟨rfl,rfl⟩:v=.nilIface/\u'=.returning:=hrec
  refine qCx ?_ (lateNil n89 v9 P none n _ w hw hH.1 hH.2)
  rintro e a' w' ⟨rfl,h1,-,vs,V',-,h4,h5⟩
  exact⟨.inl rfl,h1,_,qGP,⟨_,rfl⟩,⟨V',h5,h4⟩,.inl ⟨rfl,rfl⟩⟩
 ·obtain⟨rfl,rfl⟩:v=fltVE f/\u'=.panicking [{ v:=fltVE f,recovered:=true }]:=by
   obtain⟨h1,h2⟩:=hrec
   grind
  refine qCx ?_ (lateFlt n89 v9 P none n _ w hw hH.1 hH.2)
  rintro e a' w' ⟨rfl,h1,-,vs,V',-,h4,h5⟩
  exact⟨.inl rfl,h1,_,qGP,⟨_,rfl⟩,⟨V',h5,h4⟩,.inr rfl⟩
end
theorem Lay.base{V0 V:Mem}{gs ns ls:Sl}{nd:List Nd}{s:St}(L:Lay V0 V gs ns ls nd s){p:Nat}(p0:V0 p=none):∃W,V0.sub W/\W p=none/\W.sub V/\Lay W V gs ns ls nd s/\∀b o,V b=some o->b≠p->Alien V b->W b=some o:=by
 refine⟨Mem.minus V (Mine p gs ns ls nd),fun b o hb=>?_,qFM (.inl rfl),qEq,L.frame (fun _ _ _ h=>h),fun b o hb hne ha=>?_⟩
 ·rw[qCB fun hm=>by rw[L.mine0 p0 hm]at hb;cases hb];exact L.sub _ _ hb
 ·rw[qCB];exact hb
  have no:∀{e sz sl vs},(e=3∨e=92∨e=89)->Sx.Own V0 V e sz sl vs->¬Blk sl b:=fun {e sz sl vs} he ho=>ho.apart fun cur=>ha cur e he
  rintro (h|h|h|h|⟨n,hn,h⟩)
  ·exact hne h
  ·exact no (.inl rfl) L.glob h
  ·exact no (.inr (.inl rfl)) L.nodes h
  ·exact no (.inr (.inr rfl)) L.log h
  ·exact no (.inl rfl) (L.fld n hn) h
theorem qKO{V:Mem}{b:Nat}{x:Array Value}{t:Nat}(h:V b=some (.cells x t (0,0)))(hty:NT t):Alien V b:=qHE h hty
noncomputable def playI:Code:=(flat (qAm Tryz.f73)).getD 3 .skip
noncomputable def qIV:Code:=(flat (qAm Tryz.f73)).getD 5 .skip
noncomputable def playR:Code:=(flat (qAm Tryz.f73)).getD 6 .skip
theorem play_flat:flat (qAm Tryz.f73)=c73a++playI::(c73c++qIV::playR::(c73f++[.ret])):=by kernel_rfl
theorem playI_eq:playI=.cond (.tmp 20) (kid playI 0) .skip:=by kernel_rfl
theorem playK_flat:flat (kid playI 0)=c73b++[.ret]:=by kernel_rfl
theorem playD_eq:qIV=.region 5 #[(qEl qIV).getD 0 dOp,(qEl qIV).getD 1 dOp] false:=by kernel_rfl
theorem playR_eq:playR=.region 6 c73d false:=by kernel_rfl
theorem playR_size:(c73d).size=7:=by kernel_rfl
theorem playde:c73d=c73e:=rfl
theorem run_ldv{w:World}{b t T:Nat}{x:Value}{cs y:Go.Sx.T}{ρ:List Value}(h:w.heap[b]?=some (.cells (cs.evs ρ id).toArray t (0,0)))(hT:qEQ Tryz.prog T cs 0=some y)(hx:y.ev ρ id=x):(loadVar T ⟨b,0,none⟩).run Tryz.prog w=.ok x w:=by
 grind [qBJ,Tryz.prog,T,id]
def outT:Go.Sx.T:=.cons (.var (.i .i64) 0) (.cons (.var (.i .i64) 1) (.cons (.var (.i .i64) 2) (.cons (.var (.i .i64) 3) (.cons (.var (.i .i64) 4) .nil))))
theorem qDa{tmps:Array Value}{b8 b9 t8 t9:Nat}{q:Option Addr}{a0 a1 a2 a3 er:Int}{w:World}(h8:tmps.getD 8 undef=pv b8)(h9:tmps.getD 9 undef=pv b9)(h10:tmps.getD 10 undef=.int .i64 er)
  (c8:w.heap[b8]?=some (cell (.pointer q) t8)) (c9:w.heap[b9]?=some (.cells (qEe a0 a1 a2 a3).toArray t9 (0,0))) :
  (results Tryz.f73 tmps).run Tryz.prog w=.ok (.tuple #[.pointer q,.agg (qEe a0 a1 a2 a3).toArray,.int .i64 er]) w:=by
 have hr:Tryz.f73.results=#[.cell 8 124,.cell 9 54,.tmp 10]:=by kernel_rfl
 unfold results
 rw[hr]
 have e8:asAddr (tmps.getD 8 undef)=pure ⟨b8,0,none⟩:=by rw[h8];rfl
 have e9:asAddr (tmps.getD 9 undef)=pure ⟨b9,0,none⟩:=by rw[h9];rfl
 have l8:(loadVar 124 ⟨b8,0,none⟩).run Tryz.prog w=.ok (.pointer q) w:=run_ldv (cs:=.cons (.var .p 0) .nil) (y:=.var .p 0) (ρ:=[.pointer q]) c8 (by kernel_rfl) rfl
 have l9:(loadVar 54 ⟨b9,0,none⟩).run Tryz.prog w=.ok (.agg (qEe a0 a1 a2 a3).toArray) w:=run_ldv (cs:=outT) (y:=.agg outT) (ρ:=qEe a0 a1 a2 a3) c9 (by kernel_rfl) rfl
 simp_all
section
variable{V0 V:Mem}{d:Ds}{F:Nat}{gs ns:Sl}{nd:List Nd}{m:Mm}
def PlayP(V0:Mem)(d:Ds)(F:Nat)(m:Mm)(nm:ByteArray)(args:List Int)(V:Mem):Ending->Mem->Prop:=fun e V' =>
 (qDh d m nm args≠0/\V.sub V'/\e=.returned (.tuple #[.pointer none,.agg (qEe 0 0 0 0).toArray,.int .i64 (qDh d m nm args)])) ∨
 (qDh d m nm args=0/\∃p c,∃r:Rx Int,r=qBM d F (qCU d nm) args (qBR m)/\EM V0 d p F V' r.st c/\e=.returned (.tuple #[pv p,.agg (qEe (outC r) (outV r) r.st.cm (qBe r.st.lg)).toArray,.int .i64 0]))
end
theorem lookup_mem{s:Nat}{v:Value}:∀{l:List (Nat×Value)},l.lookup s=some v->(s,v)∈l
 | [],h=>by cases h
 | (t,u)::l,h=>by
  rw[List.lookup_cons]at h
  split at h
  ·rename_i e
   simp only[beq_iff_eq]at e
   subst e;cases h;exact List.mem_cons_self
  ·exact List.mem_cons_of_mem _ (lookup_mem h)
theorem qHx{N:Nat}{a:Act}{l l':List (Nat×Value)}(h:Has N a l)(hl:∀x∈l',l.lookup x.1=some x.2):Has N a l':=⟨h.1,fun s v hs=>h.2 s v (hl (s,v) (lookup_mem hs))⟩
noncomputable def qEG:Call:=match ((c73d).getD 4 dOp).op with | .call c=>c|_=>{ callee:=.value (.tmp 0),args:=#[],argTypes:=#[] }
noncomputable def playFv:Operand:=match qEG.callee with | .value f=>f|_=>.tmp 0
theorem playCall_op:((c73d).getD 4 dOp).op=.call qEG:=by kernel_rfl
theorem playCall_fv:qEG.callee=.value playFv:=by kernel_rfl
theorem qKf:qEG.args=#[.tmp 29,.tmp 30,.tmp 32]:=by kernel_rfl
theorem playFv_eval(a:Act):a.eval playFv=.func (.func 116) #[] #[]:=by kernel_rfl
theorem free{V U:Mem}(hs:V.sub U){b:Nat}(h:U b=none):V b=none:=by
 cases hc:V b with
 | none=>rfl
 | some o=>rw[hs _ _ hc]at h;cases h
section
variable{V0 V:Mem}{d:Ds}{F:Nat}{m:Mm}{nm:ByteArray}{args:List Int}{l:Sl}{b4 b5 b6 b8 b9 b11 p c:Nat}{gs ns ls:Sl}{nd:List Nd}{s:St}{a1:Int}{pr:Pr}{er:Int}
theorem segA(hd:Ds.Ok V d)(hm:Mm.Ok V m)(G:qAz d m)(ha:qAc V l 1 (args.map qAe))(hpr:pr=if qDh d m nm args=0 then (d.procs[(qCU d nm).toNat]?).getD noPr else noPr) :
  Seg Tryz.prog 37 c73a [(0,d.v),(1,m.v),(2,.agg #[.string nm,l.v]),(3,.int .i64 F)] [3,4,5,6,8,9,10,11,20] V fun vs V1=>∃b4 b5 b6 b8 b9 b11:Nat,vs=[.int .i64 F,pv b4,pv b5,pv b6,pv b8,pv b9,.int .i64 (qDh d m nm args),pv b11,.bool (!(decide (qDh d m nm args=0)))] /\
   V.sub V1/\V b8=none/\V b9=none/\b8≠b9/\V1 b4=some (.cells d.row.toArray 30 (0,0))/\V1 b5=some (.cells m.row.toArray 34 (0,0))/\V1 b6=some (.cells #[.string nm,l.v] 49 (0,0))/\V1 b8=some (cell (.pointer none) 124)/\V1 b9=some (.cells (qEe 0 0 0 0).toArray 54 (0,0))/\V1 b11=some (.cells pr.row.toArray 143 (0,0)):=by
 have hc:=c114 hd hm G ha (nm:=nm)
 rw[<- hpr]at hc
 refine s73a (a:=d.name) (b:=d.ts) (c:=d.gs) (d:=d.ps) (g:=d.ms) (i:=d.is) (j:=d.qs) (k:=d.bs) (l:=m.gs) (o:=m.ns) (p:=nm) (q:=l) (r:=F) ?_
 unfold w73a
 refine hc.call ⟨_,_,_,_,_,_,rfl,fun b4 h4 b5 h5 b6 h6 b8 h8 b9 h9 b11 h11=>?_⟩
 have s4:=fun o=>Mem.sub_new h4 o
 have s5:=fun o=>Mem.sub_new h5 o
 have s6:=fun o=>Mem.sub_new h6 o
 have s8:=fun o=>Mem.sub_new h8 o
 have s9:=fun o=>Mem.sub_new h9 o
 have s11:=fun o=>Mem.sub_new h11 o
 refine⟨_,rfl,b4,b5,b6,b8,b9,b11,rfl,(s4 _).trans ((s5 _).trans ((s6 _).trans ((s8 _).trans ((s9 _).trans (s11 _))))),free ((s4 _).trans ((s5 _).trans (s6 _))) h8,free ((s4 _).trans ((s5 _).trans ((s6 _).trans (s8 _)))) h9,fun e=>?_,?_,?_,?_,?_,?_,Mem.set_same _ _ _⟩
 ·grind [Mem.set_same]
 ·exact((s5 _).trans ((s6 _).trans ((s8 _).trans ((s9 _).trans (s11 _))))) _ _ mss
 ·exact((s6 _).trans ((s8 _).trans ((s9 _).trans (s11 _)))) _ _ mss
 ·exact((s8 _).trans ((s9 _).trans (s11 _))) _ _ mss
 ·exact((s9 _).trans (s11 _)) _ _ mss
 ·exact(s11 _) _ _ mss
theorem segB(n89:b8≠b9)(v8:V0 b8=none)(v9:V0 b9=none)(hs:V0.sub V)(e8:V b8=some (cell (.pointer none) 124))(e9:V b9=some (.cells (qEe 0 0 0 0).toArray 54 (0,0))) :
  Seg Tryz.prog 37 c73b [(8,pv b8),(9,pv b9),(10,.int .i64 er)] [8,9,10] V fun vs V1=>vs=[pv b8,pv b9,.int .i64 er]/\V0.sub V1/\V1 b8=some (cell (.pointer none) 124)/\V1 b9=some (.cells (qEe 0 0 0 0).toArray 54 (0,0)):=by
 refine s73b (a:=some ⟨b8,0,none⟩) (b:=some ⟨b9,0,none⟩) (c:=er) ?_
 unfold w73b
 refine StT.cell e8 ?_
 show StT (qAa (sa b9) 0) 0 _ _ _
 refine StT.at2 (off:=0) (by rw[Mem.set_ne n89.symm];exact e9) (by simp[qEe]) ⟨_,rfl,rfl,(hs.set v8 _).set v9 _,by rw[Mem.set_ne n89,Mem.set_same],by rw[Mem.set_same];simp[qEe]⟩
theorem segC(e4:V b4=some (.cells d.row.toArray 30 (0,0)))(e5:V b5=some (.cells m.row.toArray 34 (0,0)))(e8:V b8=some (cell (.pointer none) 124)) :
  Seg Tryz.prog 37 c73c [(3,.int .i64 F),(4,pv b4),(5,pv b5),(6,pv b6),(8,pv b8),(9,pv b9),(10,.int .i64 er),(11,pv b11)] [6,8,9,10,11] V fun vs V1 =>
   vs=[pv b6,pv b8,pv b9,.int .i64 er,pv b11]/\∃p,V p=none/\V1=(V.set p (.cells (qBG d F ((0:Nat):Int) ((0:Nat):Int) ((0:Nat):Int) m.gs m.ns qAL).toArray 128 (0,0))).set b8 (cell (pv p) 124):=by
 refine s73c (a:=F) (b:=some ⟨b4,0,none⟩) (c:=some ⟨b5,0,none⟩) (d:=some ⟨b6,0,none⟩) (g:=some ⟨b8,0,none⟩) (i:=some ⟨b9,0,none⟩) (j:=er) (k:=some ⟨b11,0,none⟩) ?_
 unfold w73c
 refine⟨_,_,_,_,_,_,_,_,qAd e4 0 8 (by simp[Ds.row]),_,_,qAd e5 0 2 (by simp[Mm.row]),fun p hp=>?_⟩
 have hne:b8≠p:=fun e=>by simp_all
 exact StT.cell (by rw[Mem.set_ne hne];exact e8) ⟨_,rfl,rfl,p,hp,rfl⟩
theorem segD(e6:V b6=some (.cells #[.string nm,l.v] 49 (0,0)))(e8:V b8=some (cell (pv p) 124))(e11:V b11=some (.cells pr.row.toArray 143 (0,0))) :
  qCS Tryz.prog 37 c73d 0 4 [(6,pv b6),(8,pv b8),(9,pv b9),(10,.int .i64 er),(11,pv b11)] [8,9,10,29,30,32] V fun vs V1 =>
   vs=[pv b8,pv b9,.int .i64 er,pv p,pr.v,l.v]/\V1=V:=by
 refine s73d (a:=some ⟨b6,0,none⟩) (b:=some ⟨b8,0,none⟩) (c:=some ⟨b9,0,none⟩) (d:=er) (g:=some ⟨b11,0,none⟩) ?_
 unfold w73d
 exact⟨_,qBw e8,_,_,_,_,_,qAd e11 0 5 (by simp[Pr.row]),nn,l,qAd e6 1 1 (by simp),_,rfl,rfl,rfl⟩
theorem segE(n89:b8≠b9)(v9:V0 b9=none){v:Int}(P:PM V0 d p F b8 b9 gs ns ls nd V s c 0 0 0 0) :
  qCS Tryz.prog 37 c73e 5 2 [(8,pv b8),(9,pv b9),(33,.int .i64 v)] [8,9] V fun vs V1=>vs=[pv b8,pv b9]/\PM V0 d p F b8 b9 gs ns ls nd V1 s c 0 v 0 0:=by
 refine s73e (a:=some ⟨b8,0,none⟩) (b:=some ⟨b9,0,none⟩) (c:=v) ?_
 unfold w73e
 exact⟨nn,StT.at2 (off:=1) P.at9 (by simp[qEe]) ⟨_,rfl,rfl,P.set9 n89 v9 (by simp[qEe])⟩⟩
theorem segF(n89:b8≠b9)(v8:V0 b8=none)(v9:V0 b9=none)(P:PM V0 d p F b8 b9 gs ns ls nd V s c 0 a1 0 0) :
  Seg Tryz.prog 37 c73f [(8,pv b8),(9,pv b9)] [8,9,10] V fun vs V1=>vs=[pv b8,pv b9,.int .i64 0]/\PM V0 d p F b8 b9 gs ns ls nd V1 s c 0 a1 0 0:=by
 refine s73f (a:=some ⟨b8,0,none⟩) (b:=some ⟨b9,0,none⟩) ?_
 unfold w73f
 have P1:=P.set8 n89 v8 (x:=#[pv p]) rfl
 refine⟨_,qBw P.at8,_,_,_,_,_,qAd P.at9 0 5 (by simp[qEe]),StT.cell P.at8 ⟨qAd P1.at9 0 5 (by simp[qEe]),?_⟩⟩
 show StT (qAa (sa b9) 0) 0 _ _ _
 exact StT.at2 (off:=0) P1.at9 (by simp[qEe]) ⟨_,rfl,rfl,P1.set9 n89 v9 (by simp[qEe])⟩
end
section
variable{V0 V:Mem}{d:Ds}{F:Nat}{m:Mm}{nm:ByteArray}{args:List Int}{l:Sl}
theorem c73(S:ES V0 d F)(L:Lay V0 V m.gs m.ns qAL m.nodes (qBR m))(hm:Mm.Ok V m)(G:qAz d m)(ha:qAc V0 l 1 (args.map qAe)) :
  Tri Tryz.prog 73 #[d.v,m.v,.agg #[.string nm,l.v],.int .i64 F] V (PlayP V0 d F m nm args V):=by
 unfold Go.Sx.Tri
 intro w hV
 refine(callsIn_wide (n:=0)).1 (callsIn_of_wp_defers (F:=qAy none) Tryz.func73 (c:=qAm Tryz.f73) (by kernel_rfl) trivial (qCm ?_) rfl)
 rw[play_flat]
 obtain⟨pr,hpr⟩:∃pr,pr=if qDh d m nm args=0 then (d.procs[(qCU d nm).toNat]?).getD noPr else noPr:=⟨_,rfl⟩
 refine(segA (F:=F) (S.ds.sub L.sub) hm G (ha.sub L.sub) hpr).step hV (qHy (args:=[d.v,m.v,.agg #[.string nm,l.v],.int .i64 F]) (N:=37) (by simp)) ?_
 rintro a1 w1 vs V1 hd1 hH1 ⟨b4,b5,b6,b8,b9,b11,rfl,s1,f8,f9,n89,e4,e5,e6,e8,e9,e11⟩ hF1
 have v8:=free L.sub f8
 have v9:=free L.sub f9
 have h20:a1.eval (.tmp 20)=.bool (!(decide (qDh d m nm args=0))):=hH1.get rfl
 show Code.wpIn (qAy none) 0 Tryz.prog playI _ a1 w1
 rw[playI_eq]
 by_cases hc:qDh d m nm args=0
 ·refine wpIn_cond_false (by grind) (wpIn_skip ?_)
  show wpL none 0 Tryz.prog _ (c73c++qIV::playR::(c73f++[.ret])) a1 w1
  refine(segC (F:=F) (m:=m) e4 e5 e8).step hF1.le (qHx hH1 (by
   intro x hx
   simp only[List.mem_cons,List.not_mem_nil,or_false]at hx
   rcases hx with rfl|rfl|rfl|rfl|rfl|rfl|rfl|rfl <;> rfl)) ?_
  rintro a2 w2 vs V2 hd2 hH2 ⟨rfl,p,hp,hV2⟩ hF2
  have hp8:b8≠p:=fun e=>by simp_all
  have s2:V1.sub (V1.set p (.cells (qBG d F ((0:Nat):Int) ((0:Nat):Int) ((0:Nat):Int) m.gs m.ns qAL).toArray 128 (0,0))):=Mem.sub_new hp _
  have L1:=(L.grow s1).grow s2
  have L2:Lay V0 V2 m.gs m.ns qAL m.nodes (qBR m):=by
   rw[hV2]
   exact L1.put (qKO (s2 _ _ e8) (by unfold NT;decide)) v8 _
  have p0:V0 p=none:=free (L.sub.trans s1) hp
  obtain⟨W,w0,wp,wV,LW,hW⟩:=L2.base p0
  have hat:V2 p=some (.cells (qBG d F ((0:Nat):Int) ((0:Nat):Int) ((0:Nat):Int) m.gs m.ns qAL).toArray 128 (0,0)):=by rw[hV2,Mem.set_ne hp8.symm,Mem.set_same]
  have keep:∀{b:Nat} {o:Obj},V1 b=some o->b≠b8->V2 b=some o:=fun {b o} hb hne=>by rw[hV2,Mem.set_ne hne];exact s2 _ _ hb
  have e8':V2 b8=some (cell (pv p) 124):=by rw[hV2,Mem.set_same]
  have n6:b6≠b8:=fun e=>by simp_all
  have n11:b11≠b8:=fun e=>by simp_all
  have e9':=keep e9 n89.symm
  have hp9:b9≠p:=fun e=>by simp_all
  have W8:W b8=some (cell (pv p) 124):=hW _ _ e8' hp8 (qKO e8' (by unfold NT;decide))
  have W9:W b9=some (.cells (qEe 0 0 0 0).toArray 54 (0,0)):=hW _ _ e9' hp9 (qKO e9' (by unfold NT;decide))
  have MW:EM W d p F V2 (qBR m) 0:=⟨wp,m.gs,m.ns,qAL,m.nodes,hat,LW⟩
  obtain⟨i,q,hi,hq,hval⟩:=qIG hc
  have hpq:pr=q:=by simp_all
  have hG:=qKx G
  have hvs:qAg d (qBR m).mm q.params args=true:=qAk (qDJ (qED m).symm) hval
  obtain⟨r,hr⟩:∃r:Rx Int,r=qBM d F (i:Int) args (qBR m):=⟨_,rfl⟩
  have H:Tri Tryz.prog 116 #[pv p,pr.v,l.v] V2 (PX W d p F 0 r):=by
   rw[hr,hpq]
   exact runC (allC d p F (F+1)) W V2 (qBR m) 0 i q args l (S.sub w0) hq hG hvs (ha.sub w0) MW (Nat.zero_le _) (by omega) (by unfold BW;show 0+0+0<=_;omega)
  -- the deferred function is put aside
  show Code.wpIn (qAy none) 0 Tryz.prog qIV _ a2 w2
  rw[playD_eq]
  refine wpIn_region ?_
  show wpOpsIn _ _ _ _ _ [0,1] _ _
  refine Go.Sx.step_value (o:=(qEl qIV).getD 0 dOp) rfl (by kernel_rfl) (run_makeFunc (f:=.func 115) (first:=#[]) (caps:=#[.tmp 9,.tmp 8]) (by kernel_rfl)) ?_
  have g8:a2.eval (.tmp 8)=pv b8:=hH2.get rfl
  have g9:a2.eval (.tmp 9)=pv b9:=hH2.get rfl
  have hd0:((qEl qIV).getD 0 dOp).dst=some 28:=by kernel_rfl
  have hd1':((qEl qIV).getD 1 dOp).dst=none:=by kernel_rfl
  rw[hd0,show (#[Operand.tmp 9,.tmp 8].map a2.eval)=#[pv b9,pv b8] by simp[g8,g9],show ((#[]:Array Operand).map a2.eval)=#[] by simp]
  have hH3:=qKv hH2 (t:=28) (v:=.func (.func 115) #[] #[pv b9,pv b8]) (by decide)
  refine Go.Sx.step_defer (o:=(qEl qIV).getD 1 dOp) rfl (by kernel_rfl) (run_deferv (c:={ callee:=.value (.tmp 28),args:=#[],argTypes:=#[] }) (fv:=.tmp 28) (f:=.func 115) (first:=#[]) (by kernel_rfl) rfl (hH3.get rfl) (by simp)) ?_
  rw[hd1']
  show Code.wpIn (qAy none) 0 Tryz.prog playR _ _ w2
  rw[playR_eq]
  refine wpIn_region ?_
  rw[playR_size]
  show wpOpsIn _ _ _ _ _ (List.range' 0 4++[4,5,6]) _ _
  have hH3':Has 37 _ [(6,pv b6),(8,pv b8),(9,pv b9),(10,.int .i64 (qDh d m nm args)),(11,pv b11)]:=qHx hH3 (by
   intro x hx
   simp only[List.mem_cons,List.not_mem_nil,or_false]at hx
   rcases hx with rfl|rfl|rfl|rfl|rfl <;> rfl)
  refine(segD (pr:=pr) (keep e6 n6) e8' (keep e11 n11)).step hF2.le ⟨hH3'.1,hH3'.2⟩ ?_
  rintro a4 w4 vs V4 hd4 hH4 ⟨rfl,rfl⟩ hF4
  have hdf:a4.defers=[{ target:=.fn (.func 115) #[pv b9,pv b8],args:=#[]++#[] }]:=by
   rw[hd4]
   show _::a2.defers=_
   rw[hd2,hd1]
  have inv:∀w',(invoke (.fn (.func 115) #[pv b9,pv b8]) (#[]++#[])).run Tryz.prog w'=.ok (.enter 115 #[pv b9,pv b8]) w':=fun w'=>by simp[invoke]
  have q29:a4.eval (.tmp 29)=pv p:=hH4.get rfl
  have q30:a4.eval (.tmp 30)=pr.v:=hH4.get rfl
  have q32:a4.eval (.tmp 32)=l.v:=hH4.get rfl
  have t8:a4.tmps.getD 8 undef=pv b8:=hH4.get rfl
  have t9:a4.tmps.getD 9 undef=pv b9:=hH4.get rfl
  have t10:a4.tmps.getD 10 undef=.int .i64 0:=by rw[<- hc];exact hH4.get rfl
  have i4:(c73d)[4]?=some ((c73d).getD 4 dOp):=by kernel_rfl
  have d4:((c73d).getD 4 dOp).dst=some 33:=by kernel_rfl
  have hargs:qEG.args.map a4.eval=#[pv p,pr.v,l.v]:=by grind [qKf]
  have mk:∀{V':Mem} {s':St} {c':Nat},EM W d p F V' s' c'->∃gs ns ls nd,PM V0 d p F b8 b9 gs ns ls nd V' s' c' 0 0 0 0:=fun {V' s' c'} h=>by
   obtain⟨gs,ns,ls,nd,h1,h2⟩:=h.ex
   exact⟨gs,ns,ls,nd,W,w0,wp,h1,h2,W8,W9⟩
  have hrs:(r.st:St)=(qBM d F (qCU d nm) args (qBR m)).st:=by rw[hr,hi]
  refine Go.Sx.step_call i4 (by kernel_rfl) (by simpa using run_callv (c:=qEG) (fv:=playFv) (f:=116) (first:=#[]) (caps:=#[]) (args:=#[pv p,pr.v,l.v]) playCall_op playCall_fv (playFv_eval a4) hargs Tryz.call116) hF4.le H ?_ ?_ ?_
  ·intro ch V' w' hP hF5
   cases r with
   | ok v s'=>cases hP.1
   | bad k s' =>
    obtain⟨he,c',hm'⟩:=hP
    have hch:ch=[{ v:=fltVE k,recovered:=false }]:=by
     unfold fltE at he
     injection he
    subst hch
    obtain⟨gs,ns,ls,nd,P⟩:=mk hm'
    show LeavesIn (qAy none) 0 Tryz.prog _ _ _ a4.defers _ w'
    rw[hdf]
    refine⟨nofun,(fun h=>by simp[qAy,Fence.wide]at h),_,_,_,_,rfl,inv w',fun _ _=>trivial,qII (lateC n89 v9 P hF5.le (f:=k) (.inr rfl)) ?_⟩
    rintro e u' w'' ⟨⟨v,rfl⟩,⟨V6,hF6,P6⟩,⟨h,-⟩|rfl⟩
    ·cases h
    ·refine⟨_,qDa t8 t9 t10 (hF6.le _ _ P6.at8) (hF6.le _ _ P6.at9),V6,.inr ⟨hc,p,c',.bad k s',by rw[hr,hi],P6.em,rfl⟩,(((hF1.trans hF2).trans hF4).trans hF5).trans hF6⟩
  ·intro v V' w' hP hF5
   cases r with
   | bad k s'=>cases hP.1
   | ok x s' =>
    obtain⟨he,hm'⟩:=hP
    cases he
    rw[d4]
    obtain⟨gs,ns,ls,nd,P⟩:=mk hm'
    have hH5:=qKv hH4 (t:=33) (v:=.int .i64 x) (by decide)
    show wpOpsIn _ _ _ _ _ (List.range' 5 2++[]) _ w'
    rw[playde]
    refine(segE n89 v9 (v:=x) P).step hF5.le (qHx ⟨hH5.1,hH5.2⟩ (by
     intro x hx
     simp only[List.mem_cons,List.not_mem_nil,or_false]at hx
     rcases hx with rfl|rfl|rfl <;> rfl)) ?_
    rintro a6 w6 vs V6 hd6 hH6 ⟨rfl,P6⟩ hF6
    show wpL none 0 Tryz.prog _ (c73f++[.ret]) a6 w6
    refine(segF n89 v8 v9 P6).step hF6.le hH6 ?_
    rintro a7 w7 vs V7 hd7 hH7 ⟨rfl,P7⟩ hF7
    show Code.wpIn (qAy none) 0 Tryz.prog .ret _ a7 w7
    refine wpIn_ret ?_
    show LeavesIn (qAy none) 0 Tryz.prog _ _ _ a7.defers _ w7
    have hdf7:a7.defers=_:=(hd7.trans hd6).trans hdf
    rw[hdf7]
    refine⟨nofun,(fun h=>by simp[qAy,Fence.wide]at h),_,_,_,_,rfl,inv w7,fun _ _=>trivial,qII (lateC n89 v9 P7 hF7.le (f:=0) (.inl ⟨rfl,rfl⟩)) ?_⟩
    rintro e u' w'' ⟨⟨v,rfl⟩,⟨V8,hF8,P8⟩,⟨-,rfl⟩|rfl⟩
    ·refine⟨_,qDa (hH7.get rfl) (hH7.get rfl) (hH7.get rfl) (hF8.le _ _ P8.at8) (hF8.le _ _ P8.at9),V8,.inr ⟨hc,p,0,.ok x s',by rw[hr,hi],P8.em,rfl⟩,((((((hF1.trans hF2).trans hF4).trans hF5).trans hF6).trans hF7).trans hF8)⟩
    ·refine⟨_,qDa (hH7.get rfl) (hH7.get rfl) (hH7.get rfl) (hF8.le _ _ P8.at8) (hF8.le _ _ P8.at9),V8,.inr ⟨hc,p,0,.ok x s',by rw[hr,hi],P8.em,rfl⟩,((((((hF1.trans hF2).trans hF4).trans hF5).trans hF6).trans hF7).trans hF8)⟩
  ·intro V' hP
   cases r with
   | ok v s'=>cases hP.1
   | bad k s'=>cases hP.1
 ·refine wpIn_cond_true (by grind) (qCm ?_)
  rw[playK_flat]
  refine(segB n89 f8 f9 s1 e8 e9).step hF1.le (qHx hH1 (by
   intro x hx
   simp only[List.mem_cons,List.not_mem_nil,or_false]at hx
   rcases hx with rfl|rfl|rfl <;> rfl)) ?_
  rintro a2 w2 vs V2 hd2 hH2 ⟨rfl,s2,e8',e9'⟩ hF2
  show Code.wpIn (qAy none) 0 Tryz.prog .ret _ a2 w2
  refine wpIn_ret ?_
  show LeavesIn (qAy none) 0 Tryz.prog _ _ _ a2.defers _ w2
  rw[hd2,hd1]
  exact⟨_,qDa (hH2.get rfl) (hH2.get rfl) (hH2.get rfl) (hF2.le _ _ e8') (hF2.le _ _ e9'),V2,.inl ⟨hc,s2,rfl⟩,hF1.trans hF2⟩
end
section
variable{V:Mem}{d:Ds}{F:Nat}{m m':Mm}{nm:ByteArray}{args:List Int}{l:Sl}
theorem values_plain(h:m.plain=m'.plain){t:List Fld}{vs:List Int}:qAg d m t vs=qAg d m' t vs:=by
 rw[Bool.eq_iff_iff]
 grind [qAk,qDJ]
theorem qJF(h:m.plain=m'.plain):qDh d m nm args=qDh d m' nm args:=by
 grind [qDh,values_plain]
noncomputable def qBc(d:Ds)(m:Mm)(nm:ByteArray)(args:List Int)(F:Int):Int:=if qBs d m F=0 then qDh d m nm args else qBs d m F
theorem qGA{F:Int}(h:qBs d m F=0):qAz d m:=by
 grind [qBs]
theorem ok_copy(hm:Mm.Ok V m){V':Mem}{gs ns:Sl}{nd:List Nd}(L:Lay V V' gs ns qAL nd (qBR m)):Mm.Ok V' ⟨gs,m.globals,ns,nd⟩/\(⟨gs,m.globals,ns,nd⟩:Mm).plain=m.plain:=by
 have hp:(⟨gs,m.globals,ns,nd⟩:Mm).plain=m.plain:=by
  unfold Mm.plain
  rw[L.eq];rfl
 refine⟨⟨L.glob.rows (fun _=>rfl) (by decide),hm.gIn,L.nodes.rows (fun _=>rfl) (by decide),fun n hn=>?_⟩,hp⟩
 obtain⟨i,hi⟩:=List.mem_iff_getElem?.1 hn
 obtain⟨y,hy,e1,e2⟩:=qHr hp hi
 have hk:=hm.nodesOk y (List.mem_of_getElem? hy)
 exact⟨(L.fld n hn).rows (fun _=>rfl) (by decide),by rw[<- e1];exact hk.tyIn,by rw[<- e2];exact hk.vals⟩
def StartP(V:Mem)(d:Ds)(F:Nat)(m:Mm)(nm:ByteArray)(args:List Int):Ending->Mem->Prop:=fun e V' =>
 (qBc d m nm args F≠0/\V.sub V'/\e=.returned (.tuple #[.pointer none,.agg (qEe 0 0 0 0).toArray,.int .i64 (qBc d m nm args F)])) ∨
 (qBc d m nm args F=0/\∃p c,∃r:Rx Int,r=qBM d F (qCU d nm) args (qBR m)/\EM V d p F V' r.st c/\e=.returned (.tuple #[pv p,.agg (qEe (outC r) (outV r) r.st.cm (qBe r.st.lg)).toArray,.int .i64 0]))
theorem c61[Tab V](hd:Ds.Ok V d)(hm:Mm.Ok V m)(ha:qAc V l 1 (args.map qAe))(hF:F<=4000):Tri Tryz.prog 61 #[d.v,m.v,.agg #[.string nm,l.v],.int .i64 F] V (StartP V d F m nm args):=by
 refine x61 (R:=StartP V d F m nm args) ?_
 unfold w61
 refine(c71 hd hm).call ⟨_,rfl,fun h0=>?_,fun h0=>?_⟩
 ·have G:=qGA h0
  have hs:qBc d m nm args F=qDh d m nm args:=by grind [qBc]
  obtain⟨p1,p2,p3,p4,p5⟩:=qAi G.mem
  have h12:=lens12 G.valid
  refine Tri.mono (c72 hm (by grind [qAC]) p2 fun n hn=>?_) ?_
  ·have:=(qAC.1 (p5 n hn)).1
   have hty:=of_decide_eq_true (p3 n hn)
   obtain⟨j,hj⟩:∃j:Nat,n.ty=(j:Int):=⟨n.ty.toNat,by omega⟩
   have hjl:j<d.types.length:=by omega
   have hx:=List.getElem?_eq_getElem hjl
   rw[hj,qBr hx rfl]at this
   grind
  rintro _ V1 ⟨gs,ns,nd,rfl,L⟩
  obtain⟨hm1,hp⟩:=ok_copy hm L
  have G1:qAz d ⟨gs,m.globals,ns,nd⟩:=⟨G.valid,G.chk,qFe hp.symm G.mem⟩
  have hst:qBR ⟨gs,m.globals,ns,nd⟩=qBR m:=by
   unfold qBR
   rw[show nd.map (fun n=>(n.ty,n.f))=m.nodes.map (fun n=>(n.ty,n.f)) from L.eq]
  have L1:Lay V V1 gs ns qAL nd (qBR ⟨gs,m.globals,ns,nd⟩):=by grind
  refine⟨gs,ns,rfl,Tri.mono (c73 (m:=⟨gs,m.globals,ns,nd⟩) ⟨hd,G.valid,qHp G.valid G.chk,hF⟩ L1 hm1 G1 ha) ?_⟩
  have hcp:qDh d ⟨gs,m.globals,ns,nd⟩ nm args=qDh d m nm args:=qJF hp
  rintro e V2 (⟨hc,hs2,rfl⟩|⟨hc,p,c,r,hr,M,rfl⟩)
  ·rw[hcp]at hc ⊢
   exact⟨_,_,_,_,_,_,_,rfl,.inl ⟨by omega,L.sub.trans hs2,by rw[hs];rfl⟩⟩
  ·rw[hcp]at hc
   exact⟨_,_,_,_,_,_,_,rfl,.inr ⟨by omega,p,c,r,by rw[hr,hst],M,rfl⟩⟩
 ·have hs:qBc d m nm args F=qBs d m F:=by grind [qBc]
  exact .inl ⟨by omega,Mem.sub.refl _,by rw[hs];rfl⟩
def RunP(V:Mem)(d:Ds)(F:Nat)(m:Mm)(nm:ByteArray)(args:List Int):Ending->Mem->Prop:=fun e V' =>
 (qBc d m nm args F≠0/\V.sub V'/\e=.returned (.tuple #[.agg (qEe 0 0 0 0).toArray,.agg #[qAL.v,qAL.v],.int .i64 (qBc d m nm args F)])) ∨
 (qBc d m nm args F=0/\∃r:Rx Int,∃gs ns ls nd,r=qBM d F (qCU d nm) args (qBR m)/\Lay V V' gs ns ls nd r.st/\e=.returned (.tuple #[.agg (qEe (outC r) (outV r) r.st.cm (qBe r.st.lg)).toArray,.agg #[gs.v,ns.v],.int .i64 0]))
theorem c24[Tab V](hd:Ds.Ok V d)(hm:Mm.Ok V m)(ha:qAc V l 1 (args.map qAe))(hF:F<=4000):Tri Tryz.prog 24 #[d.v,m.v,.agg #[.string nm,l.v],.int .i64 F] V (RunP V d F m nm args):=by
 refine x24 (R:=RunP V d F m nm args) ?_
 unfold w24
 refine Tri.mono (c61 hd hm ha hF) ?_
 rintro e V1 (⟨hc,hs,rfl⟩|⟨hc,p,c,r,hr,M,rfl⟩)
 ·exact⟨_,_,_,_,_,_,_,rfl,fun h=>absurd h hc,fun _=>.inl ⟨hc,hs,rfl⟩⟩
 ·obtain⟨gs,ns,ls,nd,hat,L⟩:=M.ex
  exact⟨_,_,_,_,_,_,_,rfl,fun _=>⟨nn,nn,gs,ns,qAd hat 8 2 (by simp[qBG]),qAI hat 8 0 2 (by simp[qBG]),nn,nn,.inr ⟨hc,r,gs,ns,ls,nd,hr,L,rfl⟩⟩,fun h=>absurd rfl h⟩
def TraceP(V:Mem)(d:Ds)(F:Nat)(m:Mm)(nm:ByteArray)(args:List Int):Ending->Mem->Prop:=fun e V' =>
 (qBc d m nm args F≠0/\V.sub V'/\e=.returned (.tuple #[qAL.v,.int .i64 (qBc d m nm args F)])) ∨
 (qBc d m nm args F=0/\∃r:Rx Int,∃ls,r=qBM d F (qCU d nm) args (qBR m)/\Sx.Own V V' 89 3 ls (r.st.lg.flatMap qGa)/\e=.returned (.tuple #[ls.v,.int .i64 0]))
theorem c36[Tab V](hd:Ds.Ok V d)(hm:Mm.Ok V m)(ha:qAc V l 1 (args.map qAe))(hF:F<=4000):Tri Tryz.prog 36 #[d.v,m.v,.agg #[.string nm,l.v],.int .i64 F] V (TraceP V d F m nm args):=by
 refine x36 (R:=TraceP V d F m nm args) ?_
 unfold w36
 refine Tri.mono (c61 hd hm ha hF) ?_
 rintro e V1 (⟨hc,hs,rfl⟩|⟨hc,p,c,r,hr,M,rfl⟩)
 ·exact⟨_,_,_,_,_,_,_,rfl,fun h=>absurd h hc,fun _=>.inl ⟨hc,hs,rfl⟩⟩
 ·obtain⟨gs,ns,ls,nd,hat,L⟩:=M.ex
  exact⟨_,_,_,_,_,_,_,rfl,fun _=>⟨nn,nn,ls,qAd hat 14 1 (by simp[qBG]),.inr ⟨hc,r,ls,hr,L.log,rfl⟩⟩,fun h=>absurd rfl h⟩
end
theorem qEy{p q B X:Prop}(hX:(¬p∨¬q)->X)(hB:p->q->B):Br p (Br q B X) X:=⟨fun hp=>⟨fun hq=>hB hp hq,fun hq=>hX (.inr hq)⟩,fun hp=>hX (.inl hp)⟩
theorem take_eq{α:Type}{xs ys:List α}{i:Nat}{x y:α}(h:xs.take i=ys.take i)(hx:xs[i]?=some x)(hy:ys[i]?=some y)(e:x=y):xs.take (i+1)=ys.take (i+1):=by
 grind [List.take_add_one]
section
variable{V:Mem}{d:Ds}{m:Mm}
def RI(V:Mem):Ending->Mem->Prop:=fun e V'=>V=V'/\∃r:Int,e=.returned (.int .i64 r)/\-1<=r/\r<=2000
def RY(V:Mem):Ending->Mem->Prop:=fun e V'=>V=V'/\∃b:Bool,e=.returned (.bool b)
theorem RI.mk{r:Int}(h:-1<=r/\r<=2000):RI V (.returned (.int .i64 r)) V:=⟨rfl,r,rfl,h⟩
theorem RY.mk{b:Bool}:RY V (.returned (.bool b)) V:=⟨rfl,b,rfl⟩
theorem leftC:∀(k:Nat),k<=65->∀(e:E) (n:Int),E.Ok V e->-1<=n->n<=2000->Tri Tryz.prog 119 #[e.v,.int .i64 k,.int .i64 n] V (RI V):=by
 intro k
 induction k with
 | zero =>
  intro _ e n he h1 h2
  refine Tri.mono (x119 (R:=RI V) ?_) fun _ _ h=>h
  unfold w119
  exact⟨fun _=>.mk ⟨by omega,by omega⟩,fun _=>⟨fun _=>.mk ⟨by omega,by omega⟩,fun h=>absurd rfl h⟩⟩
 | succ k ih =>
  intro hk e n he h1 h2
  refine Tri.mono (x119 (R:=RI V) ?_) fun _ _ h=>h
  unfold w119
  refine⟨fun _=>.mk ⟨by omega,by omega⟩,fun h3=>⟨fun _=>.mk ⟨by omega,by omega⟩,fun _=>⟨fun _=>.mk ⟨by omega,by omega⟩,fun _=>⟨⟨by omega,by omega⟩,?_⟩⟩⟩⟩
  have h3:¬n<=0:=h3
  refine qEX (mk:=.int .i64) (b0:=n-1) qFS e.k.length (fun i a V1=>V=V1/\-1<=a/\a<=2000) ⟨rfl,by omega,by omega⟩ ?_
  rintro i a V1 J hi ⟨rfl,ha1,ha2⟩ hJ
  refine qEy (fun _=>.mk ⟨ha1,ha2⟩) (fun hlt hn=>?_)
  obtain⟨x,hxm,hx,-,hil,hp,hz,hrow⟩:=he.rows.get hlt
  refine⟨hp,hz,hlt,_,_,_,_,hrow,⟨by omega,by omega⟩,?_⟩
  rw[show ((k+1:Nat):Int)-1=(k:Int) by omega]
  refine Tri.mono (ih (by omega) x a (he.kids x hxm) ha1 ha2) ?_
  rintro _ _ ⟨rfl,r,rfl,h4⟩
  exact⟨_,rfl,he.rows.succ hlt,hJ hil _ _ ⟨rfl,h4⟩⟩
theorem leftAllC:∀(k:Nat),k<=65->∀(s:Sl) (xs:List S) (n:Int),qAc V s 5 (xs.map S.row)->(∀x∈xs,S.Ok V x)->-1<=n->n<=2000->Tri Tryz.prog 118 #[s.v,.int .i64 k,.int .i64 n] V (RI V):=by
 intro k
 induction k with
 | zero =>
  intro _ s xs n hr ho h1 h2
  refine Tri.mono (x118 (R:=RI V) ?_) fun _ _ h=>h
  unfold w118
  exact⟨fun _=>.mk ⟨by omega,by omega⟩,fun h=>absurd rfl h⟩
 | succ k ih =>
  intro hk s xs n hr ho h1 h2
  refine Tri.mono (x118 (R:=RI V) ?_) fun _ _ h=>h
  unfold w118
  refine⟨fun _=>.mk ⟨by omega,by omega⟩,fun _=>?_⟩
  refine qIj (mk:=.int .i64) (mc:=.int .i64) 0 n qFS xs.length (fun i a V1=>V=V1/\-1<=a/\a<=2000) ⟨rfl,h1,h2⟩ ?_
  rintro i b a V1 J hi ⟨rfl,ha1,ha2⟩ hJ
  refine qEy (fun _=>.mk ⟨ha1,ha2⟩) (fun hlt hn=>?_)
  have hn:0<=a:=hn
  obtain⟨x,hxm,hx,-,hil,hp,hz,hrow⟩:=hr.get hlt
  have hxo:=ho x hxm
  cases x with
  | mk op sn el es ll ls xl xs' =>
  cases hxo with
  | mk he hes hl hls hxr hxs hop =>
  have hq:=qAh (n:=i*5) hp
  have hsucc:=hr.succ hlt
  refine⟨⟨by omega,by omega⟩,hp,hz,hlt,hq,_,_,_,_,_,hrow,fun _=>.mk ⟨by omega,by omega⟩,fun _=>?_⟩
  refine qEX (mk:=.int .i64) (b0:=a-1) qFS es.length (fun j c V2=>V=V2/\-1<=c/\c<=2000) ⟨rfl,by omega,by omega⟩ ?_
  rintro j c V2 J1 hj ⟨rfl,hc1,hc2⟩ hJ1
  have ek:((k+1:Nat):Int)-1=(k:Int):=by omega
  refine⟨hp,hz,hlt,hq,_,_,_,_,_,hrow,qEy (fun _=>⟨fun hc=>⟨hp,hz,hlt,hq,_,_,_,_,_,hrow,⟨by omega,by omega⟩,?_⟩,fun hc=>⟨fun h=>absurd h hc,fun _=>⟨hsucc,hJ hil _ _ _ ⟨rfl,hc1,hc2⟩⟩⟩⟩) (fun hlt2 hc=>?_)⟩
  ·rw[ek]
   refine Tri.mono (ih (by omega) ll ls c hl hls hc1 hc2) ?_
   rintro _ _ ⟨rfl,r,rfl,h3⟩
   refine⟨_,rfl,fun hr0=>⟨hp,hz,hlt,hq,_,_,_,_,_,hrow,⟨by omega,by omega⟩,Tri.mono (ih (by omega) xl xs' r hxr hxs h3.1 h3.2) ?_⟩,fun _=>⟨hsucc,hJ hil _ _ _ ⟨rfl,h3⟩⟩⟩
   rintro _ _ ⟨rfl,r2,rfl,h4⟩
   simp_all
  ·obtain⟨y,hym,hy,-,hjl,hpy,hzy,hrowy⟩:=he.get hlt2
   refine⟨hp,hz,hlt,hq,_,_,_,_,_,hrow,hpy,hzy,hlt2,_,_,_,_,hrowy,Tri.mono (leftC 65 (by omega) y c (hes y hym) hc1 hc2) ?_⟩
   rintro _ _ ⟨rfl,r,rfl,h3⟩
   exact⟨_,rfl,he.succ hlt2,hJ1 hjl _ _ ⟨rfl,h3⟩⟩
theorem wideC{l:Sl}{xs:List Fld}(hr:qAc V l 2 (xs.map Fld.row)):Tri Tryz.prog 117 #[l.v] V (RY V):=by
 refine Tri.mono (x117 (R:=RY V) ?_) fun _ _ h=>h
 unfold w117
 refine⟨fun _=>.mk,fun _=>qBp (mk:=.bool) (b0:=false) xs.length (fun i V1=>V=V1) rfl ?_⟩
 rintro i b V1 J hi rfl hJ
 refine⟨fun hlt=>?_,fun _=>.mk⟩
 obtain⟨x,hxm,hx,-,hil,hp,hz,hrow⟩:=hr.get hlt
 have hq:=qAh (n:=i*2) hp
 exact⟨hp,hz,hlt,hq,_,_,hrow,fun _=>.mk,fun _=>⟨hp,hz,hlt,hq,_,_,hrow,fun _=>.mk,fun _=>⟨hr.succ hlt,hJ hil _ _ rfl⟩⟩⟩
theorem overC(hd:Ds.Ok V d){n:Int}(h1:-1<=n)(h2:n<=2000):Tri Tryz.prog 76 #[d.v,.int .i64 n] V (RY V):=by
 refine Tri.mono (x76 (R:=RY V) ?_) fun _ _ h=>h
 unfold w76
 refine⟨fun _=>.mk,fun _=>⟨fun _=>.mk,fun _=>⟨fun _=>.mk,fun _=>⟨fun _=>.mk,fun _=>⟨fun _=>.mk,fun _=>⟨fun _=>.mk,fun _=>⟨fun _=>.mk,fun _=>Tri.mono (wideC hd.globals) ?_⟩⟩⟩⟩⟩⟩⟩
 rintro _ _ ⟨rfl,b,rfl⟩
 refine⟨_,rfl,fun _=>.mk,fun _=>qBp (mk:=.bool) (b0:=false) d.types.length (fun i V1=>V=V1) rfl ?_⟩
 rintro i b V1 J hi rfl hJ
 refine⟨fun hlt=>?_,fun _=>?_⟩
 ·obtain⟨x,hxm,hx,-,hil,hp,hz,hrow⟩:=hd.types.get hlt
  have hq:=qAh (n:=i*2) hp
  refine⟨hp,hz,hlt,hq,_,_,hrow,fun _=>.mk,fun _=>⟨hp,hz,hlt,hq,_,_,hrow,Tri.mono (wideC (hd.typesOk x hxm).fields) ?_⟩⟩
  rintro _ _ ⟨rfl,b,rfl⟩
  exact⟨_,rfl,fun _=>.mk,fun _=>⟨hd.types.succ hlt,hJ hil _ _ rfl⟩⟩
 refine qIj (mk:=.bool) (mc:=.int .i64) b n qFS d.procs.length (fun i a V1=>V=V1/\-1<=a/\a<=2000) ⟨rfl,h1,h2⟩ ?_
 rintro i b a V1 J hi ⟨rfl,ha1,ha2⟩ hJ
 refine qEy (fun _=>?_) (fun hlt hn=>?_)
 rotate_left
 ·obtain⟨x,hxm,hx,-,hil,hp,hz,hrow⟩:=hd.procs.get hlt
  have ho:=hd.procsOk x hxm
  refine⟨hp,hz,hlt,_,_,_,_,_,hrow,fun _=>.mk,fun _=>⟨fun _=>.mk,fun _=>Tri.mono (wideC ho.params) ?_⟩⟩
  rintro _ _ ⟨rfl,b1,rfl⟩
  refine⟨_,rfl,fun _=>.mk,fun _=>Tri.mono (wideC ho.locals) ?_⟩
  rintro _ _ ⟨rfl,b2,rfl⟩
  refine⟨_,rfl,fun _=>.mk,fun _=>Tri.mono (leftAllC 65 (by omega) x.bs x.body a ho.body ho.stmts ha1 ha2) ?_⟩
  rintro _ _ ⟨rfl,r,rfl,h3⟩
  exact⟨_,rfl,hd.procs.succ hlt,hJ hil _ _ _ ⟨rfl,h3⟩⟩
 refine qIj (mk:=.bool) (mc:=.int .i64) b a qFS d.measures.length (fun i a V1=>V=V1/\-1<=a/\a<=2000) ⟨rfl,ha1,ha2⟩ ?_
 clear hJ
 rintro i b a V1 J hi ⟨rfl,ha1,ha2⟩ hJ
 refine qEy (fun _=>?_) (fun hlt hn=>?_)
 rotate_left
 ·obtain⟨x,hxm,hx,-,hil,hp,hz,hrow⟩:=hd.measures.get hlt
  have hq:=qAh (n:=i*7) hp
  refine⟨hp,hz,hlt,hq,_,_,_,_,_,_,_,hrow,fun _=>.mk,fun _=>⟨hp,hz,hlt,hq,_,_,_,_,_,_,_,hrow,fun _=>.mk,fun _=>⟨hp,hz,hlt,hq,_,_,_,_,_,_,_,hrow,Tri.mono (leftC 65 (by omega) x.x a (hd.measuresOk x hxm).x ha1 ha2) ?_⟩⟩⟩
  rintro _ _ ⟨rfl,r,rfl,h3⟩
  exact⟨_,rfl,hd.measures.succ hlt,hJ hil _ _ _ ⟨rfl,h3⟩⟩
 refine qIj (mk:=.bool) (mc:=.int .i64) b a qFS d.invs.length (fun i a V1=>V=V1/\-1<=a/\a<=2000) ⟨rfl,ha1,ha2⟩ ?_
 clear hJ
 rintro i b a V1 J hi ⟨rfl,ha1,ha2⟩ hJ
 refine qEy (fun _=>?_) (fun hlt hn=>?_)
 rotate_left
 ·obtain⟨x,hxm,hx,-,hil,hp,hz,hrow⟩:=hd.invs.get hlt
  have hq:=qAh (n:=i*6) hp
  refine⟨hp,hz,hlt,hq,_,_,_,_,_,_,hrow,fun _=>.mk,fun _=>⟨hp,hz,hlt,hq,_,_,_,_,_,_,hrow,fun _=>.mk,fun _=>⟨hp,hz,hlt,hq,_,_,_,_,_,_,hrow,Tri.mono (leftC 65 (by omega) x.x a (hd.invsOk x hxm) ha1 ha2) ?_⟩⟩⟩
  rintro _ _ ⟨rfl,r,rfl,h3⟩
  exact⟨_,rfl,hd.invs.succ hlt,hJ hil _ _ _ ⟨rfl,h3⟩⟩
 refine qIj (mk:=.bool) (mc:=.int .i64) b a qFS d.pots.length (fun i a V1=>V=V1/\-1<=a/\a<=2000) ⟨rfl,ha1,ha2⟩ ?_
 clear hJ
 rintro i b a V1 J hi ⟨rfl,ha1,ha2⟩ hJ
 refine qEy (fun _=>?_) (fun hlt hn=>?_)
 rotate_left
 ·obtain⟨x,hxm,hx,-,hil,hp,hz,hrow⟩:=hd.pots.get hlt
  have hq:=qAh (n:=i*5) hp
  refine⟨hp,hz,hlt,hq,_,_,_,_,_,hrow,fun _=>.mk,fun _=>⟨hp,hz,hlt,hq,_,_,_,_,_,hrow,Tri.mono (leftC 65 (by omega) x.x a (hd.potsOk x hxm) ha1 ha2) ?_⟩⟩
  rintro _ _ ⟨rfl,r,rfl,h3⟩
  exact⟨_,rfl,hd.pots.succ hlt,hJ hil _ _ _ ⟨rfl,h3⟩⟩
 refine qIj (mk:=.bool) (mc:=.int .i64) b a qFS d.bounds.length (fun i a V1=>V=V1/\-1<=a/\a<=2000) ⟨rfl,ha1,ha2⟩ ?_
 clear hJ
 rintro i b a V1 J hi ⟨rfl,ha1,ha2⟩ hJ
 refine qEy (fun _=>.mk) (fun hlt hn=>?_)
 obtain⟨x,hxm,hx,-,hil,hp,hz,hrow⟩:=hd.bounds.get hlt
 have hq:=qAh (n:=i*5) hp
 refine⟨hp,hz,hlt,hq,_,_,_,_,_,hrow,fun _=>.mk,fun _=>⟨hp,hz,hlt,hq,_,_,_,_,_,hrow,Tri.mono (leftC 65 (by omega) x.x a (hd.boundsOk x hxm) ha1 ha2) ?_⟩⟩
 rintro _ _ ⟨rfl,r,rfl,h3⟩
 exact⟨_,rfl,hd.bounds.succ hlt,hJ hil _ _ _ ⟨rfl,h3⟩⟩
theorem greatC(hd:Ds.Ok V d):Tri Tryz.prog 38 #[d.v] V (RY V):=by
 refine Tri.mono (x38 (R:=RY V) ?_) fun _ _ h=>h
 unfold w38
 refine Tri.mono (overC hd (n:=2000) (by omega) (by omega)) ?_
 rintro _ _ ⟨rfl,b,rfl⟩
 exact⟨_,rfl,.mk⟩
theorem manyC(hm:Mm.Ok V m):Tri Tryz.prog 39 #[m.v] V (RY V):=by
 refine Tri.mono (x39 (R:=RY V) ?_) fun _ _ h=>h
 unfold w39
 refine⟨fun _=>.mk,fun _=>⟨fun _=>.mk,fun _=>qBp (mk:=.bool) (b0:=false) m.nodes.length (fun i V1=>V=V1) rfl ?_⟩⟩
 rintro i b V1 J hi rfl hJ
 refine⟨fun hlt=>?_,fun _=>.mk⟩
 obtain⟨x,hxm,hx,-,hil,hp,hz,hrow⟩:=hm.nodes.get hlt
 exact⟨hp,hz,hlt,qAh hp,_,_,hrow,fun _=>.mk,fun _=>⟨hm.nodes.succ hlt,hJ hil _ _ rfl⟩⟩
instance:DecidableEq (List Int×List (Int×List Int)):=inferInstance
end
theorem start_ok{d:Ds}{m:Mm}{nm:ByteArray}{args:List Int}{F:Int}(G:qAz d m)(h:0<=F/\F<=1048576):qBc d m nm args F=qDh d m nm args:=by
 grind [qBs,qBc]
section
variable{V:Mem}
def qDG(b n:Nat):Sl:=⟨some ⟨b,0,none⟩,n,n⟩
end
section
variable{V V0:Mem}{d:Ds}{F:Nat}{m:Mm}{nm:ByteArray}{args:List Int}{l:Sl}
theorem qGn{F:Int}(h:qBc d m nm args F=0):qAz d m/\qDh d m nm args=0:=by
 grind [qBc,qGA,absurd]
end
section
variable{V V0:Mem}{d:Ds}{F:Nat}{m:Mm}{nm:ByteArray}{args:List Int}{l:Sl}
theorem mm_of_lay(hd:Ds.Ok V d){V':Mem}{gs ns ls:Sl}{nd:List Nd}{s:St}(L:Lay V V' gs ns ls nd s)(hg:qAz d s.mm):Mm.Ok V' ⟨gs,s.g,ns,nd⟩/\(⟨gs,s.g,ns,nd⟩:Mm).plain=(s.g,s.ns):=by
 have hp:(⟨gs,s.g,ns,nd⟩:Mm).plain=(s.g,s.ns):=by
  unfold Mm.plain
  rw[<- L.eq]
 obtain⟨p1,p2,p3,p4,p5⟩:=qAi hg.mem
 have vi:∀{t:List Fld} {vs:List Int},qAg d s.mm t vs=true->∀v∈vs,inI v:=fun {t vs} h v hv=>by
  obtain⟨j,hj⟩:=List.mem_iff_getElem?.1 hv
  obtain⟨hl,hk⟩:=qAC.1 h
  have hjl:=(List.getElem?_eq_some_iff.1 hj).1
  have:=hk j _ v (List.getElem?_eq_getElem (by omega)) hj
  grind [qAu,inI]
 refine⟨⟨L.glob.rows (fun _=>rfl) (by decide),vi p4,L.nodes.rows (fun _=>rfl) (by decide),fun n hn=>?_⟩,hp⟩
 have hmem:(⟨n.ty,qAL,n.f⟩:Nd)∈s.mm.nodes:=by
  unfold St.mm
  rw[<- L.eq]
  grind
 refine⟨(L.fld n hn).rows (fun _=>rfl) (by decide),?_,vi (p5 ⟨n.ty,qAL,n.f⟩ hmem)⟩
 have:=of_decide_eq_true (p3 ⟨n.ty,qAL,n.f⟩ hmem)
 have hl:d.types.length<=9223372036854775807:=by
  have:=hd.types.n_eq;have:=hd.types.cap;have:=hd.types.fit;omega
 grind [inI]
theorem play_good(G:qAz d m)(hc:qDh d m nm args=0):qAz d (qBM d F (qCU d nm) args (qBR m)).st.mm:=by
 obtain⟨i,q,hi,hq,hval⟩:=qIG hc
 rw[hi]
 exact(play_snd (F:=F) (qHp G.valid G.chk) hq (qKx G) (qAk (qDJ (qED m).symm) hval)).good
end
end Go.Proofs
namespace Go.Proofs
open Go Go.Sx
def qBf(w:World):Mem:=fun b=>w.heap[b]?
theorem heapM_le(w:World):(qBf w).le w:=fun _ _ h=>h
theorem qFO{α β:Type}{f:α->Option β}:∀{l:List α} {r:List β},l.mapM f=some r->r.length=l.length/\∀(i:Nat) (a:α),l[i]?=some a->∃b,r[i]?=some b/\f a=some b
 | [],r,h=>by simp_all
 | x::l,r,h=>by
  simp only[List.mapM_cons,Option.bind_eq_bind,Option.bind_eq_some_iff,Option.pure_def,Option.some.injEq]at h
  obtain⟨b,hb,r',hr',rfl⟩:=h
  obtain⟨h1,h2⟩:=qFO hr'
  grind
theorem cells_row{w:World}{a:Addr}{n:Nat}{cs:List Value}(h:w.cells? 0 a n=some cs)(hn:0<n):(qBf w).row a n=some cs:=by
 unfold World.cells? at h
 rw[if_pos (Nat.zero_le _)]at h
 obtain⟨h1,h2⟩:=qFO h
 have hat:∀i,i<n->∃v,cs[i]?=some v/\w.cell? (a.add i)=some v:=fun i hi=>h2 i i (by simp[hi])
 obtain⟨v0,-,hc0⟩:=hat 0 hn
 have e0:a.add 0=a:=by rfl
 rw[e0]at hc0
 unfold World.cell? at hc0
 split at hc0
 ·rename_i c t fr hb
  split at hc0
  ·cases hc0
  ·rename_i hsp
   have hsp':a.spot.isNone=true:=by simp_all
   have hsp2:a.spot=none:=by simp_all
   have hci:∀i,i<n->∃v,cs[i]?=some v/\c[a.off+i]?=some v:=fun i hi=>by
    obtain⟨v,hv,hc⟩:=hat i hi
    refine⟨v,hv,?_⟩
    have e:a.add i=⟨a.block,a.off+i,none⟩:=by
     unfold Addr.add
     by_cases h0:i=0
     ·subst h0;rw[if_pos rfl]
      cases a with
      | mk b o s=>simp_all
     grind
    grind [World.cell?]
   have hlen:a.off+n<=c.size:=by
    obtain⟨v,_,hc⟩:=hci (n-1) (by omega)
    grind
   have hcs:cs.length=n:=by rw[h1];simp
   unfold Mem.row qBf
   simp only[hb]
   rw[if_pos ⟨hsp',hlen⟩]
   congr 1
   apply List.ext_getElem?
   grind
 ·cases hc0
section
variable{H:Type}{enc:TypeId×Value->H}{w:World}
noncomputable abbrev TR(enc:TypeId×Value->H)(w:World)(n:Nat)(t:TypeId)(cs:List Value):=DataW.trod enc Tryz.prog w 0 (fun _=>true) true n t cs
theorem rd_str{n:Nat}{t:TypeId}{cs:List Value}{x:DataW H×List MemPlace}(ht:Tryz.prog.underlying t=some .string)(h:TR enc w n t cs=some x):∃s,cs=[.string s]:=by
 cases n with
 | zero=>cases h
 | succ n =>
  unfold TR DataW.trod at h
  grind
theorem rd_int{n:Nat}{t:TypeId}{cs:List Value}{x:DataW H×List MemPlace}(ht:Tryz.prog.underlying t=some (.int .i64))(h:TR enc w n t cs=some x):∃v:Int,cs=[.int .i64 v]/\IntKind.i64.min<=v/\v<=IntKind.i64.max:=by
 cases n with
 | zero=>cases h
 | succ n =>
  unfold TR DataW.trod at h
  grind [Lit.wf]
theorem rd_slice{α:Type}{row:α->List Value}{ok:α->Prop}{sz n:Nat}{t e:TypeId}{cs:List Value}{x:DataW H×List MemPlace}(ht:Tryz.prog.underlying t=some (.slice e))(hc:Tryz.prog.cellsOf e=sz)(hsz:0<sz)(hrow:∀a,(row a).length=sz)
  (hE:∀m,m<n->∀cs x,TR enc w m e cs=some x->∃a,row a=cs/\ok a) (h:TR enc w n t cs=some x):∃(s:Sl) (xs:List α),cs=[.slice s.p s.n s.c]/\qAc (qBf w) s sz (xs.map row)/\∀a∈xs,ok a:=by
 cases n with
 | zero=>cases h
 | succ n =>
  have key:∀(a:Addr) (len cap:Nat),TR enc w (n+1) t [.slice (some a) len cap]=some x->∃(xs:List α),qAc (qBf w) ⟨some a,len,cap⟩ sz (xs.map row)/\∀a∈xs,ok a:=by
   intro a len cap h
   unfold TR DataW.trod at h
   rw[ht]at h
   simp only at h
   split at h
   case isFalse=>cases h
   rename_i hcond
   simp only[Option.bind_eq_some_iff]at h
   obtain⟨elems,hm,-⟩:=h
   obtain⟨h1,h2⟩:=qFO hm
   have hex:∀i:Fin len,∃y:α,(qBf w).row (a.add (i*sz)) sz=some (row y)/\ok y:=by
    intro i
    obtain⟨b,-,hb⟩:=h2 i i (by simp)
    simp only[Option.bind_eq_some_iff]at hb
    obtain⟨ci,hci,hti⟩:=hb
    obtain⟨y,hy,hok⟩:=hE n (Nat.lt_succ_self n) ci _ hti
    grind [cells_row]
   refine⟨List.ofFn fun i=>Classical.choose (hex i),⟨by simp,hcond.2.1,by grind [maxLen],?_,?_⟩,?_⟩
   ·simp_all
   ·grind
   grind
  have main:cs=[.slice none 0 0]∨∃a len cap,cs=[.slice (some a) len cap]:=by
   unfold TR DataW.trod at h
   grind
  rcases main with rfl|⟨a,len,cap,rfl⟩
  ·exact⟨⟨none,0,0⟩,[],rfl,qAc.nil,by simp⟩
  grind
theorem qBg{n:Nat}{t:TypeId}{fs:Array Field}{cs:List Value}{x:DataW H×List MemPlace}(ht:Tryz.prog.underlying t=some (.struct fs))(h:TR enc w n t cs=some x) :
  cs.length=Tryz.prog.cellsOf t/\∃m,m<n/\∀(i:Nat) (f:Field),fs.toList[i]?=some f->∃y,TR enc w m f.type ((cs.drop f.offset).take (Tryz.prog.cellsOf f.type))=some y:=by
 cases n with
 | zero=>cases h
 | succ n =>
  have key:cs.length=Tryz.prog.cellsOf t->(∃xs,(fs.toList.mapM fun f=>DataW.trod enc Tryz.prog w 0 (fun _=>true) true n f.type ((cs.drop f.offset).take (Tryz.prog.cellsOf f.type)))=some xs) ->
    cs.length=Tryz.prog.cellsOf t/\∃m,m<n+1/\∀(i:Nat) (f:Field),fs.toList[i]?=some f->∃y,TR enc w m f.type ((cs.drop f.offset).take (Tryz.prog.cellsOf f.type))=some y:=by
   rintro hl ⟨xs,hx⟩
   refine⟨hl,n,Nat.lt_succ_self n,fun i f hf=>?_⟩
   obtain⟨-,h2⟩:=qFO hx
   grind
  unfold TR DataW.trod at h
  rw[ht]at h
  split at h
  all_goals first | (rename_i e;cases e;done) | (rename_i e _;cases e;done) | (rename_i e _ _;cases e;done) | (exact absurd rfl ((by assumption:∀fs_1:Array Field,some (TypeDesc.struct fs)=some (TypeDesc.struct fs_1)->False) fs)) | skip
  rename_i e
  cases e
  split at h
  ·rename_i hl
   simp only[Option.map_eq_some_iff]at h
   obtain⟨xs,hx,-⟩:=h
   simp_all
  simp_all
end
end Go.Proofs
namespace Go.Proofs
open Go Go.Sx
section
variable{H:Type}{enc:TypeId×Value->H}{w:World}
theorem at1{cs:List Value}{v:Value}{off m:Nat}{t:TypeId}(h:∃y,TR enc w m t ((cs.drop off).take (Tryz.prog.cellsOf t))=some y)(hc:Tryz.prog.cellsOf t=1)(hv:cs[off]?=some v):∃y,TR enc w m t [v]=some y:=by
 grind [List.getElem?_eq_some_iff,List.drop_eq_getElem_cons]
theorem cl9:Tryz.prog.cellsOf 9=1:=by kernel_rfl
theorem cl3:Tryz.prog.cellsOf 3=1:=by kernel_rfl
theorem cl22:Tryz.prog.cellsOf 22=1:=by kernel_rfl
theorem cl23:Tryz.prog.cellsOf 23=1:=by kernel_rfl
theorem cl24:Tryz.prog.cellsOf 24=1:=by kernel_rfl
theorem cl25:Tryz.prog.cellsOf 25=1:=by kernel_rfl
theorem cl26:Tryz.prog.cellsOf 26=1:=by kernel_rfl
theorem cl27:Tryz.prog.cellsOf 27=1:=by kernel_rfl
theorem cl28:Tryz.prog.cellsOf 28=1:=by kernel_rfl
theorem cl38:Tryz.prog.cellsOf 149=1:=by kernel_rfl
theorem cl52:Tryz.prog.cellsOf 141=1:=by kernel_rfl
theorem cl40:Tryz.prog.cellsOf 151=4:=by kernel_rfl
theorem cl67:Tryz.prog.cellsOf 101=2:=by kernel_rfl
theorem cl94:Tryz.prog.cellsOf 98=2:=by kernel_rfl
theorem cl54:Tryz.prog.cellsOf 143=5:=by kernel_rfl
theorem cl75:Tryz.prog.cellsOf 154=5:=by kernel_rfl
theorem cl97:Tryz.prog.cellsOf 184=7:=by kernel_rfl
theorem cl58:Tryz.prog.cellsOf 187=6:=by kernel_rfl
theorem cl61:Tryz.prog.cellsOf 189=5:=by kernel_rfl
theorem cl64:Tryz.prog.cellsOf 191=5:=by kernel_rfl
theorem cl30:Tryz.prog.cellsOf 30=8:=by kernel_rfl
theorem gS{m:Nat}{v:Value}(h:∃y,TR enc w m 9 [v]=some y):∃s,v=.string s:=by
 obtain⟨y,hy⟩:=h
 obtain⟨s,e⟩:=rd_str Tryz.underlying9 hy
 exact⟨s,by simpa using e⟩
theorem gI{m:Nat}{v:Value}(h:∃y,TR enc w m 3 [v]=some y):∃n:Int,v=.int .i64 n/\IntKind.i64.min<=n/\n<=IntKind.i64.max:=by
 obtain⟨y,hy⟩:=h
 obtain⟨s,e,h1⟩:=rd_int Tryz.underlying3 hy
 exact⟨s,by simpa using e,h1⟩
theorem gSl{α:Type}{row:α->List Value}{ok:α->Prop}{sz m:Nat}{t e:TypeId}{v:Value}(ht:Tryz.prog.underlying t=some (.slice e))(hc:Tryz.prog.cellsOf e=sz)(hsz:0<sz)(hrow:∀a,(row a).length=sz)
  (hE:∀m',m'<m->∀cs x,TR enc w m' e cs=some x->∃a,row a=cs/\ok a) (h:∃y,TR enc w m t [v]=some y):∃(s:Sl) (xs:List α),v=.slice s.p s.n s.c/\qAc (qBf w) s sz (xs.map row)/\∀a∈xs,ok a:=by
 obtain⟨y,hy⟩:=h
 obtain⟨s,xs,e,h1,h2⟩:=rd_slice ht hc hsz hrow hE hy
 grind
theorem len2{cs:List Value}(h:cs.length=2):∃a b,cs=[a,b]:=by
 match cs,h with
 | [a,b],_=>simp_all
theorem len4{cs:List Value}(h:cs.length=4):∃a b c d,cs=[a,b,c,d]:=by
 match cs,h with
 | [a,b,c,d],_=>simp_all
theorem len5{cs:List Value}(h:cs.length=5):∃a b c d e,cs=[a,b,c,d,e]:=by
 match cs,h with
 | [a,b,c,d,e],_=>simp_all
theorem len6{cs:List Value}(h:cs.length=6):∃a b c d e f,cs=[a,b,c,d,e,f]:=by
 match cs,h with
 | [a,b,c,d,e,f],_=>simp_all
theorem len7{cs:List Value}(h:cs.length=7):∃a b c d e f g,cs=[a,b,c,d,e,f,g]:=by
 match cs,h with
 | [a,b,c,d,e,f,g],_=>simp_all
theorem len8{cs:List Value}(h:cs.length=8):∃a b c d e f g i,cs=[a,b,c,d,e,f,g,i]:=by
 match cs,h with
 | [a,b,c,d,e,f,g,i],_=>simp_all
theorem rdFld{n:Nat}{cs:List Value}{x:DataW H×List MemPlace}(h:TR enc w n 101 cs=some x):∃f:Fld,Fld.row f=cs/\True:=by
 obtain⟨hl,m,-,hs⟩:=qBg Tryz.underlying101 h
 obtain⟨a,b,rfl⟩:=len2 (hl.trans cl67)
 obtain⟨s1,rfl⟩:=gS (at1 (hs 0 _ rfl) cl9 rfl)
 obtain⟨s2,rfl⟩:=gS (at1 (hs 1 _ rfl) cl9 rfl)
 exact⟨⟨s1,s2⟩,rfl,trivial⟩
theorem rdE:∀(n:Nat) (cs:List Value) (x:DataW H×List MemPlace),TR enc w n 151 cs=some x->∃e:E,E.row e=cs/\E.Ok (qBf w) e:=by
 intro n
 induction n using Nat.strongRecOn with
 | _ n ih =>
 intro cs x h
 obtain⟨hl,m,hm,hs⟩:=qBg Tryz.underlying151 h
 obtain⟨a,b,c,d,rfl⟩:=len4 (hl.trans cl40)
 obtain⟨op,rfl,ho⟩:=gI (at1 (hs 0 _ rfl) cl3 rfl)
 obtain⟨nn,rfl,hn⟩:=gI (at1 (hs 1 _ rfl) cl3 rfl)
 obtain⟨s,rfl⟩:=gS (at1 (hs 2 _ rfl) cl9 rfl)
 obtain⟨l,k,rfl,hr,hk⟩:=gSl (row:=E.row) (ok:=E.Ok (qBf w)) Tryz.underlying149 cl40 (by decide) (fun _=>rfl) (fun m' hm'=>ih m' (by omega)) (at1 (hs 3 _ rfl) cl38 rfl)
 exact⟨.mk op nn s l k,rfl,.mk hr hk ho hn⟩
theorem S.row_len:∀s:S,(S.row s).length=5:=fun s=>by cases s;rfl
theorem rdS:∀(n:Nat) (cs:List Value) (x:DataW H×List MemPlace),TR enc w n 154 cs=some x->∃e:S,S.row e=cs/\S.Ok (qBf w) e:=by
 intro n
 induction n using Nat.strongRecOn with
 | _ n ih =>
 intro cs x h
 obtain⟨hl,m,hm,hs⟩:=qBg Tryz.underlying154 h
 obtain⟨a,b,c,d,e,rfl⟩:=len5 (hl.trans cl75)
 obtain⟨op,rfl,ho⟩:=gI (at1 (hs 0 _ rfl) cl3 rfl)
 obtain⟨s,rfl⟩:=gS (at1 (hs 1 _ rfl) cl9 rfl)
 obtain⟨el,es,rfl,hr1,hk1⟩:=gSl (row:=E.row) (ok:=E.Ok (qBf w)) Tryz.underlying149 cl40 (by decide) (fun _=>rfl) (fun m' _=>rdE m') (at1 (hs 2 _ rfl) cl38 rfl)
 obtain⟨ll,ls,rfl,hr2,hk2⟩:=gSl (row:=S.row) (ok:=S.Ok (qBf w)) Tryz.underlying141 cl75 (by decide) S.row_len (fun m' hm'=>ih m' (by omega)) (at1 (hs 3 _ rfl) cl52 rfl)
 obtain⟨xl,xs,rfl,hr3,hk3⟩:=gSl (row:=S.row) (ok:=S.Ok (qBf w)) Tryz.underlying141 cl75 (by decide) S.row_len (fun m' hm'=>ih m' (by omega)) (at1 (hs 4 _ rfl) cl52 rfl)
 exact⟨.mk op s el es ll ls xl xs,rfl,.mk hr1 hk1 hr2 hk2 hr3 hk3 ho⟩
theorem gF{m:Nat}{v:Value}(h:∃y,TR enc w m 23 [v]=some y):∃(s:Sl) (xs:List Fld),v=.slice s.p s.n s.c/\qAc (qBf w) s 2 (xs.map Fld.row):=by
 obtain⟨s,xs,h1,h2,-⟩:=gSl (row:=Fld.row) (ok:=fun _=>True) Tryz.underlying23 cl67 (by decide) (fun _=>rfl) (fun _ _ _ _=>rdFld) h
 grind
theorem rdTy{n:Nat}{cs:List Value}{x:DataW H×List MemPlace}(h:TR enc w n 98 cs=some x):∃f:Ty,Ty.row f=cs/\Ty.Ok (qBf w) f:=by
 obtain⟨hl,m,-,hs⟩:=qBg Tryz.underlying98 h
 obtain⟨a,b,rfl⟩:=len2 (hl.trans cl94)
 obtain⟨s1,rfl⟩:=gS (at1 (hs 0 _ rfl) cl9 rfl)
 obtain⟨l,k,rfl,hr⟩:=gF (at1 (hs 1 _ rfl) cl23 rfl)
 exact⟨⟨s1,l,k⟩,rfl,⟨hr⟩⟩
theorem rdPr{n:Nat}{cs:List Value}{x:DataW H×List MemPlace}(h:TR enc w n 143 cs=some x):∃f:Pr,Pr.row f=cs/\Pr.Ok (qBf w) f:=by
 obtain⟨hl,m,-,hs⟩:=qBg Tryz.underlying143 h
 obtain⟨a,b,c,d,e,rfl⟩:=len5 (hl.trans cl54)
 obtain⟨s1,rfl⟩:=gS (at1 (hs 0 _ rfl) cl9 rfl)
 obtain⟨l1,k1,rfl,hr1⟩:=gF (at1 (hs 1 _ rfl) cl23 rfl)
 obtain⟨s2,rfl⟩:=gS (at1 (hs 2 _ rfl) cl9 rfl)
 obtain⟨l2,k2,rfl,hr2⟩:=gF (at1 (hs 3 _ rfl) cl23 rfl)
 obtain⟨l3,k3,rfl,hr3,hk3⟩:=gSl (row:=S.row) (ok:=S.Ok (qBf w)) Tryz.underlying141 cl75 (by decide) S.row_len (fun m' _=>rdS m') (at1 (hs 4 _ rfl) cl52 rfl)
 exact⟨⟨s1,l1,k1,s2,l2,k2,l3,k3⟩,rfl,⟨hr1,hr2,hr3,hk3⟩⟩
theorem rdMs{n:Nat}{cs:List Value}{x:DataW H×List MemPlace}(h:TR enc w n 184 cs=some x):∃f:Ms,Ms.row f=cs/\Ms.Ok (qBf w) f:=by
 obtain⟨hl,m,-,hs⟩:=qBg Tryz.underlying184 h
 obtain⟨a,b,c,d,e,f,g,rfl⟩:=len7 (hl.trans cl97)
 obtain⟨s1,rfl⟩:=gS (at1 (hs 0 _ rfl) cl9 rfl)
 obtain⟨s2,rfl⟩:=gS (at1 (hs 1 _ rfl) cl9 rfl)
 obtain⟨nn,rfl,hn⟩:=gI (at1 (hs 2 _ rfl) cl3 rfl)
 obtain⟨y,hy⟩:=hs 3 _ rfl
 change TR enc w m 151 (([Value.string s1,.string s2,.int .i64 nn,d,e,f,g].drop 3).take (Tryz.prog.cellsOf 151))=some y at hy
 rw[cl40]at hy
 obtain⟨x,hx,hxo⟩:=rdE m _ _ hy
 simp only[List.drop_succ_cons,List.drop_zero,List.take_succ_cons,List.take_zero,E.row,List.cons.injEq,and_true]at hx
 obtain⟨rfl,rfl,rfl,rfl⟩:=hx
 exact⟨⟨s1,s2,nn,x⟩,rfl,⟨hxo,hn⟩⟩
theorem rdIv{n:Nat}{cs:List Value}{x:DataW H×List MemPlace}(h:TR enc w n 187 cs=some x):∃f:Iv,Iv.row f=cs/\E.Ok (qBf w) f.x:=by
 obtain⟨hl,m,-,hs⟩:=qBg Tryz.underlying187 h
 obtain⟨a,b,d,e,f,g,rfl⟩:=len6 (hl.trans cl58)
 obtain⟨s1,rfl⟩:=gS (at1 (hs 0 _ rfl) cl9 rfl)
 obtain⟨s2,rfl⟩:=gS (at1 (hs 1 _ rfl) cl9 rfl)
 obtain⟨y,hy⟩:=hs 2 _ rfl
 change TR enc w m 151 (([Value.string s1,.string s2,d,e,f,g].drop 2).take (Tryz.prog.cellsOf 151))=some y at hy
 rw[cl40]at hy
 obtain⟨x,hx,hxo⟩:=rdE m _ _ hy
 simp only[List.drop_succ_cons,List.drop_zero,List.take_succ_cons,List.take_zero,E.row,List.cons.injEq,and_true]at hx
 obtain⟨rfl,rfl,rfl,rfl⟩:=hx
 exact⟨⟨s1,s2,x⟩,rfl,hxo⟩
theorem rdPo{n:Nat}{cs:List Value}{x:DataW H×List MemPlace}(h:TR enc w n 189 cs=some x):∃f:Po,Po.row f=cs/\E.Ok (qBf w) f.x:=by
 obtain⟨hl,m,-,hs⟩:=qBg Tryz.underlying189 h
 obtain⟨a,d,e,f,g,rfl⟩:=len5 (hl.trans cl61)
 obtain⟨s1,rfl⟩:=gS (at1 (hs 0 _ rfl) cl9 rfl)
 obtain⟨y,hy⟩:=hs 1 _ rfl
 change TR enc w m 151 (([Value.string s1,d,e,f,g].drop 1).take (Tryz.prog.cellsOf 151))=some y at hy
 rw[cl40]at hy
 obtain⟨x,hx,hxo⟩:=rdE m _ _ hy
 simp only[List.drop_succ_cons,List.drop_zero,List.take_succ_cons,List.take_zero,E.row,List.cons.injEq,and_true]at hx
 obtain⟨rfl,rfl,rfl,rfl⟩:=hx
 exact⟨⟨s1,x⟩,rfl,hxo⟩
theorem rdBd{n:Nat}{cs:List Value}{x:DataW H×List MemPlace}(h:TR enc w n 191 cs=some x):∃f:Bd,Bd.row f=cs/\E.Ok (qBf w) f.x:=by
 obtain⟨hl,m,-,hs⟩:=qBg Tryz.underlying191 h
 obtain⟨a,d,e,f,g,rfl⟩:=len5 (hl.trans cl64)
 obtain⟨s1,rfl⟩:=gS (at1 (hs 0 _ rfl) cl9 rfl)
 obtain⟨y,hy⟩:=hs 1 _ rfl
 change TR enc w m 151 (([Value.string s1,d,e,f,g].drop 1).take (Tryz.prog.cellsOf 151))=some y at hy
 rw[cl40]at hy
 obtain⟨x,hx,hxo⟩:=rdE m _ _ hy
 simp only[List.drop_succ_cons,List.drop_zero,List.take_succ_cons,List.take_zero,E.row,List.cons.injEq,and_true]at hx
 obtain⟨rfl,rfl,rfl,rfl⟩:=hx
 exact⟨⟨s1,x⟩,rfl,hxo⟩
theorem rdDs{n:Nat}{cs:List Value}{x:DataW H×List MemPlace}(h:TR enc w n 30 cs=some x):∃d:Ds,d.row=cs/\Ds.Ok (qBf w) d:=by
 obtain⟨hl,m,-,hs⟩:=qBg Tryz.underlying30 h
 obtain⟨a,b,c,d,e,f,g,i,rfl⟩:=len8 (hl.trans cl30)
 obtain⟨s1,rfl⟩:=gS (at1 (hs 0 _ rfl) cl9 rfl)
 obtain⟨l1,k1,rfl,h1,o1⟩:=gSl (row:=Ty.row) (ok:=Ty.Ok (qBf w)) Tryz.underlying22 cl94 (by decide) (fun _=>rfl) (fun _ _ _ _=>rdTy) (at1 (hs 1 _ rfl) cl22 rfl)
 obtain⟨l2,k2,rfl,h2⟩:=gF (at1 (hs 2 _ rfl) cl23 rfl)
 obtain⟨l3,k3,rfl,h3,o3⟩:=gSl (row:=Pr.row) (ok:=Pr.Ok (qBf w)) Tryz.underlying24 cl54 (by decide) (fun _=>rfl) (fun _ _ _ _=>rdPr) (at1 (hs 3 _ rfl) cl24 rfl)
 obtain⟨l4,k4,rfl,h4,o4⟩:=gSl (row:=Ms.row) (ok:=Ms.Ok (qBf w)) Tryz.underlying25 cl97 (by decide) (fun _=>rfl) (fun _ _ _ _=>rdMs) (at1 (hs 4 _ rfl) cl25 rfl)
 obtain⟨l5,k5,rfl,h5,o5⟩:=gSl (row:=Iv.row) (ok:=fun f=>E.Ok (qBf w) f.x) Tryz.underlying26 cl58 (by decide) (fun _=>rfl) (fun _ _ _ _=>rdIv) (at1 (hs 5 _ rfl) cl26 rfl)
 obtain⟨l6,k6,rfl,h6,o6⟩:=gSl (row:=Po.row) (ok:=fun f=>E.Ok (qBf w) f.x) Tryz.underlying27 cl61 (by decide) (fun _=>rfl) (fun _ _ _ _=>rdPo) (at1 (hs 6 _ rfl) cl27 rfl)
 obtain⟨l7,k7,rfl,h7,o7⟩:=gSl (row:=Bd.row) (ok:=fun f=>E.Ok (qBf w) f.x) Tryz.underlying28 cl64 (by decide) (fun _=>rfl) (fun _ _ _ _=>rdBd) (at1 (hs 7 _ rfl) cl28 rfl)
 exact⟨⟨s1,l1,k1,l2,k2,l3,k3,l4,k4,l5,k5,l6,k6,l7,k7⟩,rfl,⟨h1,o1,h2,h3,o3,h4,o4,h5,o5,h6,o6,h7,o7⟩⟩
end
end Go.Proofs
