/- Part 16 of a proof of a law of this seat: no statement of the seat is proved here. -/
import Derived.Test.YtginfholjbbgeaaGreatDoorPart15
import Derived.Test.YtginfholjbbgeaaGreatDoorPart14
import Derived.Test.YtginfholjbbgeaaGreatDoorPart13
import Derived.DefersIn
import Derived.RecoverIn
import Derived.Test.YtginfholjbbgeaaGreatDoorPart05
set_option linter.unusedVariables false
set_option linter.unusedSimpArgs false
namespace Go.Proofs
open Go Go.Sx
attribute [local irreducible] Go.Sx.Tri
theorem chk_none{d:Ds}(h:(fltR (qHQ d)).2.2=0):qHQ d=none:=by
 have key:∀{a:Option Flt},(∀r,a=some r->r.2.2≠0)->(fltR a).2.2=0->a=none:=fun {a} hb h=>by
  cases a with
  | none=>rfl
  | some r=>exact absurd h (hb r rfl)
 refine key (fun r hr=>?_) h
 unfold qHQ at hr
 have orC:∀{a b:Option Flt} {r},a.or b=some r->a=some r∨b=some r:=fun {a b r} h=>by
  cases a with
  | none=>exact .inr (by simpa using h)
  | some x=>exact .inl (by simpa using h)
 rcases orC hr with h1|hr
 ·exact(types_bad d r h1).1
 rcases orC hr with h1|hr
 ·exact(heads_bad d r h1).1
 rcases orC hr with h1|hr
 ·exact(form_bad d r h1).1
 rcases orC hr with h1|hr
 ·unfold qCs at h1
  obtain⟨j,x,-,hx⟩:=qCB h1
  split at hx
  ·rename_i hne;cases hx;exact hne
  ·cases hx
 ·exact(exps_bad d r hr).1
section
variable{V:Mem}{d:Ds}{m:Mm}
theorem c97(hd:Ds.Ok V d)(hm:Mm.Ok V m)(G:qAo d m){typ:ByteArray}{v:Int}:PP 97 [d.v,m.v,.string typ,.int .i64 v] V (.bool (qAs d m typ v)):=by
 refine x97 ?_
 unfold w97
 have fin:∀{b:Bool},qAs d m typ v=b->(Ending.returned (.bool b)=.returned (.bool (qAs d m typ v))/\V=V):=fun e=>⟨by rw[e],rfl⟩
 refine⟨fun h=>⟨fun a=>fin ?_,fun a=>fin ?_⟩,fun h=>⟨fun h1=>⟨fun a=>fin ?_,fun a=>fin ?_⟩,fun h1=>⟨fun h0=>fin ?_,fun h0=>⟨fun hp=>⟨fun hl=>?_,fun hl=>fin ?_⟩,fun hp=>fin ?_⟩⟩⟩⟩
 ·unfold qAs;rw[if_pos (show typ=qBb from h)];simp[show (-1099511627776:Int)<=v from a]
 ·unfold qAs;rw[if_pos (show typ=qBb from h)];exact decide_eq_false fun k=>a k.1
 ·unfold qAs;rw[if_neg (show ¬typ=qBb from h),if_pos (show typ=qAu from h1)];exact decide_eq_true (.inl a)
 ·unfold qAs;rw[if_neg (show ¬typ=qBb from h),if_pos (show typ=qAu from h1)]
  have a:¬v=0:=a
  simp[a]
 ·unfold qAs;rw[if_neg (show ¬typ=qBb from h),if_neg (show ¬typ=qAu from h1)];exact decide_eq_true (.inl h0)
 ·have h0:¬v=0:=h0
  have hn:=hm.nodes.n_eq
  have hl:v<=(m.ns.n:Int):=hl
  obtain⟨k,hk⟩:∃k:Nat,v-1=(k:Int):=⟨(v-1).toNat,by omega⟩
  obtain⟨y,hym,hy,-,-,hpn,hz,hrow⟩:=hm.nodes.get (i:=k) (by omega)
  obtain⟨p1,p2,p3,-⟩:=qAt G.mem
  have hty:=of_decide_eq_true (p3 y hym)
  obtain⟨j,hj⟩:∃j:Nat,y.ty=(j:Int):=⟨y.ty.toNat,by omega⟩
  have htn:=hd.types.n_eq
  obtain⟨tt,-,htt,-,-,hp2,hz2,hrow2⟩:=hd.types.get (i:=j) (by omega)
  have hrow':V.rowp m.ns.p (k*2) 2=some [.int .i64 (j:Int),y.sl.v]:=by rw[<- hj];exact hrow
  rw[hk]
  refine⟨⟨by omega,by omega⟩,hpn,hz,by omega,qAe hpn,_,_,hrow',hp2,hz2,by omega,qAe hp2,_,_,hrow2,fin ?_⟩
  unfold qAs
  rw[if_neg (show ¬typ=qBb from h),if_neg (show ¬typ=qAu from h1),hk,Int.toNat_natCast,hy]
  refine decide_eq_decide.2 ⟨fun k1=>?_,fun k1=>.inr ⟨by omega,by omega,?_⟩⟩
  ·rcases k1 with k1|⟨-,-,k1⟩
   ·exact absurd k1 h0
   ·simp only[Option.map_some,Option.some.injEq]at k1
    obtain⟨x,hx,hxn⟩:=idxT_at (d:=d) (k:=typ) (i:=j) (by rw[<- k1,hj])
    rw[htt]at hx;cases hx;exact hxn
  ·simp only[Option.map_some,Option.some.injEq]
   rw[hj,<- (qBr p1).2.1 j tt htt]
   exact congrArg _ k1
 ·have hl:¬v<=(m.ns.n:Int):=hl
  have hn:=hm.nodes.n_eq
  have h0:¬v=0:=h0
  unfold qAs
  rw[if_neg (show ¬typ=qBb from h),if_neg (show ¬typ=qAu from h1)]
  exact decide_eq_false fun k1=>by rcases k1 with k1|⟨-,k1,-⟩ <;> omega
 ·have hp:¬0<v:=hp
  have h0:¬v=0:=h0
  unfold qAs
  rw[if_neg (show ¬typ=qBb from h),if_neg (show ¬typ=qAu from h1)]
  exact decide_eq_false fun k1=>by rcases k1 with k1|⟨k1,-,-⟩ <;> omega
def qCn(d:Ds)(m:Mm)(nm:ByteArray)(args:List Int):Int :=
 if qDT d nm<0 then 9 else match d.procs[(qDT d nm).toNat]? with
  | none=>9
  | some pr=>if args.length=pr.params.length then (if qAf d m pr.params args=true then 0 else 11) else 3
theorem qHP{nm:ByteArray}{args:List Int}(h:qCn d m nm args=0):∃(i:Nat) (pr:Pr),qDT d nm=(i:Int)/\d.procs[i]?=some pr/\qAf d m pr.params args=true:=by
 unfold qCn at h
 split at h
 ·cases h
 ·split at h
  ·cases h
  ·rename_i h1 pr hp
   split at h
   ·split at h
    ·exact⟨(qDT d nm).toNat,pr,by omega,hp,by assumption⟩
    ·cases h
   ·cases h
def noPr:Pr:=⟨qAq [],qAv,[],qAq [],qAv,[],qAv,[]⟩
theorem c67(hd:Ds.Ok V d)(hm:Mm.Ok V m)(G:qAo d m){l:Sl}{args:List Int}(ha:qAc V l 1 (args.map qAn)){nm:ByteArray} :
  PP 67 [d.v,m.v,.agg #[.string nm,l.v]] V (.tuple #[(if qCn d m nm args=0 then ((d.procs[(qDT d nm).toNat]?).getD noPr) else noPr).v,.int .i64 (qCn d m nm args)]):=by
 refine x67 ?_
 unfold w67
 have bad:∀{e:Int},qCn d m nm args=e->e≠0->(Ending.returned (.tuple #[noPr.v,.int .i64 e])=.returned (.tuple #[(if qCn d m nm args=0 then ((d.procs[(qDT d nm).toNat]?).getD noPr) else noPr).v,.int .i64 (qCn d m nm args)])/\V=V):=fun e h=>⟨by rw[e,if_neg h],rfl⟩
 refine(c96 hd).call ⟨_,rfl,fun h=>?_,fun h=>?_⟩
 ·exact bad (by unfold qCn;rw[if_pos h]) (by decide)
 ·have h:¬qDT d nm<0:=h
  rcases qBq (fun t:Pr=>decide (t.name=nm)) d.procs with⟨h1,-⟩|⟨i,pr,h1,h2,-⟩
  ·have:qDT d nm=-1:=h1
   omega
  have hi:qDT d nm=(i:Int):=h1
  have hn:=hd.procs.n_eq
  have hil:=(List.getElem?_eq_some_iff.1 h2).1
  obtain⟨y,hym,hy,-,-,hp,hz,hrow⟩:=hd.procs.get (i:=i) (by omega)
  rw[h2]at hy;cases hy
  have hc:qCn d m nm args=if args.length=pr.params.length then (if qAf d m pr.params args=true then 0 else 11) else 3:=by unfold qCn;rw[if_neg h,hi,Int.toNat_natCast,h2]
  have hok:=(hd.procsOk pr hym).params
  have hln:=hok.n_eq
  have han:=ha.n_eq
  rw[hi]at bad ⊢
  refine⟨hp,hz,by omega,_,_,_,_,_,hrow,fun hlen=>?_,fun hlen=>?_⟩
  ·have hlen:(l.n:Int)=(pr.ps.n:Int):=hlen
   have hl2:args.length=pr.params.length:=by omega
   rw[if_pos hl2]at hc
   refine qBe (mk:=fun k:Int=>.int .i64 k) (b0:=0) args.length (fun j V1=>V1=V/\∀(i:Nat) f v,i<j->pr.params[i]?=some f->args[i]?=some v->qAs d m f.ty v=true) ⟨rfl,fun i f v h=>by omega⟩ ?_
   rintro j b V1 J hj ⟨rfl,hall⟩ hJ
   refine⟨fun hlt=>?_,fun hge=>?_⟩
   ·obtain⟨v,hvm,hv,-,hjl,hp1,hz1,hr1⟩:=ha.get hlt
    obtain⟨f,hfm,hf,-,-,hp2,hz2,hr2⟩:=hok.get (i:=j) (by omega)
    refine⟨hp1,hz1,hlt,v,hr1,hp2,hz2,by omega,qAe hp2,_,_,hr2,(c97 hd hm G).call ⟨_,rfl,fun hb=>⟨ha.succ hlt,hJ hjl _ _ ⟨rfl,fun i g w hi' hg hw=>?_⟩⟩,fun hb=>bad ?_ (by decide)⟩⟩
    ·rcases Nat.lt_or_ge i j with h3|h3
     ·exact hall i g w h3 hg hw
     ·obtain rfl:i=j:=by omega
      rw[hf]at hg;cases hg
      rw[hv]at hw;cases hw
      exact hb
    ·rw[hc,if_neg fun k=>hb ((qAz.1 k).2 j f v hf hv)]
   ·have hd2:=(ha.done hge).2
    have hval:qAf d m pr.params args=true:=qAz.2 ⟨hl2.symm,fun i f v hf hv=>hall i f v (by have:=(List.getElem?_eq_some_iff.1 hv).1;omega) hf hv⟩
    rw[if_pos hval]at hc
    refine⟨?_,rfl⟩
    rw[hc,if_pos rfl,Int.toNat_natCast,h2]
    rfl
  ·have hlen:¬(l.n:Int)=(pr.ps.n:Int):=hlen
   exact bad (by rw[hc,if_neg (by omega)]) (by decide)
noncomputable def qBs(d:Ds)(m:Mm)(F:Int):Int:=by
 classical
 exact if qAo d m then (if F<0 then 2 else if 1048576<F then 2 else 0) else 1
theorem c43[Tab V](hd:Ds.Ok V d)(hm:Mm.Ok V m){F:Int}:PP 43 [d.v,m.v,.int .i64 F] V (.int .i64 (qBs d m F)):=by
 refine x43 ?_
 unfold w43
 have bad:¬qAo d m->(Ending.returned (.int .i64 1)=.returned (.int .i64 (qBs d m F))/\V=V):=fun h=>⟨by unfold qBs;rw[if_neg h],rfl⟩
 refine(c66 scopeC newC hd).call ?_
 by_cases hv:qAH d=true
 ·rw[if_pos hv]
  refine⟨_,_,_,rfl,fun h0=>(c30 hd hm).call ⟨_,rfl,fun h1=>?_,fun h1=>bad fun k=>h1 k.mem⟩,fun h0=>bad fun k=>h0 (by rw[k.chk];rfl)⟩
  have G:qAo d m:=⟨hv,chk_none h0,h1⟩
  refine⟨fun h=>⟨?_,rfl⟩,fun h=>⟨fun h2=>⟨?_,rfl⟩,fun h2=>⟨?_,rfl⟩⟩⟩
  ·unfold qBs;rw[if_pos G,if_pos h]
  ·unfold qBs;rw[if_pos G,if_neg h,if_pos h2]
  ·unfold qBs;rw[if_pos G,if_neg h,if_neg h2]
 ·rw[if_neg hv]
  exact⟨_,_,_,rfl,fun h=>absurd h (by decide),fun _=>bad fun k=>hv k.valid⟩
end
theorem loop3u{V:Mem}{β γ:Type}{mk:β->Value}{mc:γ->Value}{B:β->γ->Int->Mem->(List Value->Mem->Prop)->Prop}{b0:β}{c0:γ}(inj:∀x y,mk x=mk y->x=y)(inc:∀x y,mc x=mc y->x=y)(len:Nat)(St:Nat->β->γ->Mem->Prop)(h0:St 0 b0 c0 V)
  (step:∀(i:Nat) (b:β) (c:γ) V1 J,i<=len->St i b c V1->(i<len->∀b' c' V2,St (i+1) b' c' V2->J [mk b',mc c',.int .i64 ((i:Int)+1)] V2)->B b c (i:Int) V1 J) :
  ∃(I:Nat->List Value->Mem->Prop) (n0:Nat),I n0 [mk b0,mc c0,.int .i64 0] V/\∀n V1,∀b:β,∀c:γ,∀v:Int,I n [mk b,mc c,.int .i64 v] V1->∀J:List Value->Mem->Prop,(∀m ys V'',m<n->I m ys V''->J ys V'')->B b c v V1 J:=by
 refine⟨LI len fun i xs V=>∃b c,xs=[mk b,mc c,.int .i64 i]/\St i b c V,len,LI.start ⟨b0,c0,rfl,h0⟩,?_⟩
 rintro n V1 b c v ⟨i,rfl,hi,b',c',hx,hs⟩ J hJ
 simp only[List.cons.injEq,Value.int.injEq,true_and,and_true]at hx
 obtain⟨hb,hc,rfl⟩:=hx
 cases inj _ _ hb
 cases inc _ _ hc
 exact step i b c V1 J hi hs fun hlt b' c' V2 h2=>LI.next hJ hlt ⟨b',c',rfl,h2⟩
theorem c44{V:Mem}{m:Mm}(hm:Mm.Ok V m)(h1:m.globals.length<=2147483648)(h2:m.nodes.length<=4096)(h3:∀n∈m.nodes,n.f.length<=2147483648):Tri Tryz.prog 44 #[m.v] V fun e V'=>∃gs ns nd,e=.returned (.agg #[.slice gs.p gs.n gs.c,.slice ns.p ns.n ns.c])/\Lay V V' gs ns qAv nd (qBG m):=by
 refine x44 ?_
 unfold w44
 refine Tri.mono (c58 hm.globals h1) ?_
 rintro _ V1 ⟨gs,rfl,o1⟩
 refine⟨gs,rfl,loop3u (mk:=fun s:Sl=>.slice s.p s.n s.c) (mc:=fun s:Sl=>.slice s.p s.n s.c) (b0:=gs) (c0:=⟨none,0,0⟩) qCY qCY m.nodes.length (fun i b ns V2=>b=gs/\∃nd,Lay V V2 gs ns qAv nd ⟨m.globals,(m.nodes.take i).map fun n=>(n.ty,n.f),0,0,[]⟩/\nd.length=i) ⟨rfl,[],⟨o1,Own.nil o1.sub _ _,Own.nil o1.sub _ _,(fun n hn=>by cases hn),rfl,(fun n hn=>by cases hn),(fun i j n n' c h=>by cases h)⟩,rfl⟩ ?_⟩
 rintro i b ns V2 J hi ⟨rfl,nd,L,hnl⟩ hJ
 have hr:=hm.nodes.sub L.sub
 refine⟨fun hlt=>?_,fun hge=>?_⟩
 ·obtain⟨x,hxm,hx,-,hil,hp,hz,hrow⟩:=hr.get hlt
  refine⟨hp,hz,hlt,x.ty,x.sl,hrow,Tri.mono (c58 ((hm.nodesOk x hxm).rows.sub L.sub) (h3 x hxm)) ?_⟩
  rintro _ V3 ⟨fs,rfl,o3⟩
  refine⟨fs,rfl,fun tb htb=>L.new (n:=⟨x.ty,fs,x.f⟩) o3 htb rfl rfl (by omega) fun s' V' L' _=>⟨s',rfl,hr.succ hlt,hJ hil _ _ _ ⟨rfl,nd++[⟨x.ty,fs,x.f⟩],?_,by rw[List.length_append,hnl];rfl⟩⟩⟩
  rw[List.take_add_one,hx]
  simpa using L'
 ·have hd:=(hr.done hge).2
  rw[List.take_of_length_le hd]at L
  exact⟨b,ns,nd,rfl,L⟩
end Go.Proofs
namespace Go.Sx
open Go
section
variable{P:Program}{n:Nat}{ops:Array Oper}{i:Nat}{o:Oper}{rest:List Nat}{Q:Exit->Act->World->Prop}{a:Act}{w:World}
theorem qCF(hg:o.guard=none):Region.wanted o (yielded ops a.tmps)=true:=by simp[Region.wanted,hg]
theorem step_value{v:Value}(ho:ops[i]?=some o)(hg:o.guard=none)(hrun:(execOp a.eval o).run P w=.ok (.value v) w)(k:wpOpsIn (qAy none) n P ops Q rest (a.put o.dst v) w):wpOpsIn (qAy none) n P ops Q (i::rest) a w:=by
 rw[wpOpsIn_cons]
 unfold wpOpIn
 simp only[ho]
 rw[if_pos (qCF hg)]
 refine⟨fun _ _=>trivial,?_⟩
 show Oper.uponIn _ _ _ _ _ _ _ ((execOp a.eval o).run P w)
 rw[hrun];exact k
theorem step_defer{d:Deferred}(ho:ops[i]?=some o)(hg:o.guard=none)(hrun:(execOp a.eval o).run P w=.ok (.defer d) w)(k:wpOpsIn (qAy none) n P ops Q rest (({ a with defers:=d::a.defers }:Act).put o.dst undef) w):wpOpsIn (qAy none) n P ops Q (i::rest) a w:=by
 rw[wpOpsIn_cons]
 unfold wpOpIn
 simp only[ho]
 rw[if_pos (qCF hg)]
 refine⟨fun _ _=>trivial,?_⟩
 show Oper.uponIn _ _ _ _ _ _ _ ((execOp a.eval o).run P w)
 rw[hrun];exact k
theorem step_call{f:FuncId}{args:Array Value}{V:Mem}{R:Ending->Mem->Prop}(ho:ops[i]?=some o)(hg:o.guard=none)(hrun:(execOp a.eval o).run P w=.ok (.enter f args) w)(hV:V.le w)(H:Tri P f args V R)
  (hp:∀ch V' w',R (.panicked ch) V'->Frm V w V' w'->Q (.panic ch) a w') (hr:∀v V' w',R (.returned v) V'->Frm V w V' w'->wpOpsIn (qAy none) n P ops Q rest (a.put o.dst v) w') (hn:∀V',¬R .outgrown V'):wpOpsIn (qAy none) n P ops Q (i::rest) a w:=by
 rw[wpOpsIn_cons]
 unfold wpOpIn
 simp only[ho]
 rw[if_pos (qCF hg)]
 refine⟨fun _ _=>trivial,?_⟩
 show Oper.uponIn _ _ _ _ _ _ _ ((execOp a.eval o).run P w)
 rw[hrun]
 refine⟨fun h=>by simp[qAy,Fence.wide]at h,qDF.2 (qCD (H w hV) ?_)⟩
 rintro e w' ⟨V',hR,hF⟩
 cases e with
 | returned v=>exact hr v V' w' hR hF
 | panicked ch=>exact hp ch V' w' hR hF
 | outgrown=>exact(hn V' hR).elim
theorem run_callv{c:Call}{fv:Operand}{f:FuncId}{first caps args:Array Value}(hop:o.op=.call c)(hc:c.callee=.value fv)(hf:a.eval fv=.func (.func f) first caps)(hargs:c.args.map a.eval=args)(hk:∀args w,(callFunc f args).run P w=.ok (.enter f args) w) :
  (execOp a.eval o).run P w=.ok (.enter f (first++args++caps)) w:=by
 unfold execOp
 simp only[hop,resolve,hc,hf,hargs,Deferred.ofValue,Sem.run_bind,Sem.run_pure,Result.andThen_ok,invoke]
 simp[hk]
def Rec(u:FrameMode)(v:Value)(u':FrameMode):Prop :=
 match u with
 | .panicking ({ v:=v',recovered:=false,goexit:=false }::older)=>v=v'/\u'=.panicking ({ v:=v',recovered:=true }::older)
 | _=>v=.nilIface/\u'=u
end
section
variable{P:Program}{n:Nat}
theorem qGY{F:Fence}{c:Code}{Q Q':Exit->Act->List Frame->World->Prop}{a:Act}{cs:List Frame}{w:World}(h:c.wpSIn F n P Q a cs w)(hq:∀e a cs w,Q e a cs w->Q' e a cs w):c.wpSIn F n P Q' a cs w :=
 fun b k hb hr hF hroom=>let ⟨e,a',cs',w',hl,q,r⟩:=h b k hb hr hF hroom;⟨e,a',cs',w',hl,hq _ _ _ _ q,r⟩
theorem wpSIn_head{x:Code}:∀{c:Code} {rest:List Code} {Q:Exit->Act->List Frame->World->Prop} {a:Act} {cs:List Frame} {w:World},flat c=x::rest->x.wpSIn (qAy none) n P (Exit.thenS (fun a cs w=>wpL none n P (fun e a' w'=>Q e a' cs w') rest a w) Q) a cs w->c.wpSIn (qAy none) n P Q a cs w:=by
 intro c
 induction c with
 | seq p q ihp ihq =>
  intro rest Q a cs w hf h
  rw[flat]at hf
  cases hp:flat p with
  | nil =>
   exfalso
   have:∀c:Code,flat c≠[]:=fun c=>by
    induction c with
    | seq a b iha ihb=>rw[flat];simp[iha]
    | _=>simp[flat]
   exact this p hp
  | cons y r' =>
   rw[hp,List.cons_append]at hf
   obtain⟨rfl,rfl⟩:y=x/\r'++flat q=rest:=by
    injection hf with h1 h2
    exact⟨h1,h2⟩
   refine wpSIn_seq (ihp hp (qGY h ?_))
   intro e a cs w he
   cases e with
   | normal =>
    refine qCu ?_ (qEI he)
    intro e a w he
    cases e with
    | normal=>exact wpSIn_of_wpIn rfl (qCE he)
    | _=>exact he
   | _=>exact he
 | _ =>
  intro rest Q a cs w hf h
  rw[flat]at hf
  ·injection hf with h1 h2
   subst h1;subst h2
   refine qGY h ?_
   intro e a cs w he
   cases e with
   | normal=>exact he
   | _=>exact he
  all_goals (intro x y;nofun)
variable{ops:Array Oper}{i:Nat}{o:Oper}{rest:List Nat}{Q:Exit->Act->World->Prop}{a:Act}{w:World}
theorem qIf{f:FuncId}{fn:Func}{x c:Code}{rest:List Code}{id:Nat}{o0 o1:Oper}{args:Array Value}{u:FrameMode}{R:Ending->FrameMode->World->Prop}{at0:Array TypeId}{t3 t6:Nat}(hf:P.funcs[f]?=some fn)(hb:fn.body=some c)(hfl:flat c=x::rest)(hx:x=.region id #[o0,o1] false)
  (h0:o0.op=.call { callee:=.builtin .recover,args:=#[],argTypes:=at0 }) (d0:o0.dst=some t6) (g0:o0.guard=none) (h1:o1.op=.assign (.tmp t6)) (d1:o1.dst=some t3) (g1:o1.guard=none) (h6:t6<fn.ntmps) (hd:args.size<=fn.ntmps)
  (H:∀(v:Value) (u':FrameMode),Rec u v u' ->
   wpL none n P (fun e a' w'=>(e=.normal∨e=.ret)/\a'.defers=[]/\∃v,(results fn a'.tmps).run P w'=.ok v w'/\R (.returned v) u' w') rest ((({ tmps:=args++Array.replicate (fn.ntmps-args.size) undef,defers:=[] }:Act).put (some t6) v).put (some t3) v) w) :
  CallsDIn (qAy none) n P f args u w R:=by
 refine callsDIn_of_wpSIn hf hb trivial fun c₀ cs hu=>?_
 refine wpSIn_head hfl ?_
 subst hx
 refine wpSIn_region ?_
 have hr0:∀a:Act,(execOp a.eval o0).run P w=.ok .recover w:=fun a=>by
  unfold execOp
  simp[h0,resolve,invoke,builtin]
 have hr1:∀a:Act,(execOp a.eval o1).run P w=.ok (.value (a.eval (.tmp t6))) w:=fun a=>by
  unfold execOp
  simp[h1]
 have go:∀(v:Value) (u':FrameMode) (cs':List Frame),Rec u v u'->cs'={ c₀ with mode:=u' }::cs ->
   wpOpsSIn (qAy none) n P #[o0,o1] (Exit.thenS (fun a cs' w=>wpL none n P (fun e a' w'=>bodyPostS P fn c₀ cs R e a' cs' w') rest a w) (bodyPostS P fn c₀ cs R)) [1] (({ tmps:=args++Array.replicate (fn.ntmps-args.size) undef,defers:=[] }:Act).put o0.dst v) cs' w:=fun v u' cs' hv hcs=>by
  rw[wpOpsSIn.eq_2]
  simp only[List.getElem?_toArray,List.getElem?_cons_succ,List.getElem?_cons_zero]
  refine⟨fun _ _=>trivial,?_⟩
  have hw:=qCF (ops:=#[o0,o1]) (a:=(({ tmps:=args++Array.replicate (fn.ntmps-args.size) undef,defers:=[] }:Act).put o0.dst v)) g1
  rw[if_pos hw,hr1]
  simp only
  rw[wpOpsSIn.eq_1]
  show wpL none n P (fun e a' w'=>bodyPostS P fn c₀ cs R e a' cs' w') rest _ w
  have e:(({ tmps:=args++Array.replicate (fn.ntmps-args.size) undef,defers:=[] }:Act).put o0.dst v).eval (.tmp t6)=v:=by
   rw[d0]
   exact qBj (a:={ tmps:=args++Array.replicate (fn.ntmps-args.size) undef,defers:=[] }) (v:=v) (by simp;omega)
  rw[e,d0,d1]
  refine qCu ?_ (H v u' hv)
  rintro e a' w' ⟨he,h1,v',h2,h3⟩
  rcases he with rfl|rfl
  ·exact⟨h1,u',hcs,v',h2,h3⟩
  ·exact⟨h1,u',hcs,v',h2,h3⟩
 show wpOpsSIn _ _ _ _ _ [0,1] _ _ _
 rw[wpOpsSIn.eq_2]
 simp only[List.getElem?_toArray,List.getElem?_cons_zero]
 refine⟨fun _ _=>trivial,?_⟩
 have hw:=qCF (ops:=#[o0,o1]) (a:=({ tmps:=args++Array.replicate (fn.ntmps-args.size) undef,defers:=[] }:Act)) g0
 simp only at hw
 rw[if_pos hw,hr0]
 simp only
 unfold recoverD
 split
 ·rename_i v cs' hrec
  simp only at hrec
  split at hrec
  ·rename_i v' older hm
   simp only[Option.some.injEq,Prod.mk.injEq]at hrec
   obtain⟨rfl,rfl⟩:=hrec
   rw[hu]at hm
   exact go _ _ _ (by unfold Rec;rw[hm];exact⟨rfl,rfl⟩) rfl
  ·cases hrec
 ·rename_i hrec
  simp only at hrec
  split at hrec
  ·cases hrec
  ·rename_i hm
   refine go _ u _ ?_ (by cases c₀;simp only at hu;subst hu;rfl)
   rw[hu]at hm
   unfold Rec
   split
   ·exact absurd rfl (hm _ _)
   ·exact⟨rfl,rfl⟩
end
end Go.Sx
namespace Go.Proofs
open Go Go.Sx
set_option maxRecDepth 100000
set_option linter.unusedVariables false
section
variable{V:Mem}{R:RP}
noncomputable def c45a:List Code:=((qBZ (qAj Tryz.f45) []).drop 0).take 3
def w45a(a:ByteArray)(b c d g i j k l o:Sl)(p:ByteArray)(q:Sl)(r:Int):MR:=fun V R=>TT 67 #[uD a b c d g i j k,uA #[uL l,uL o],uA #[uS p,uL q]] V fun e V1=>∃s u y z A B,e=rT #[uA #[uS s,uL u,uS y,uL z,uL A],uI B]/\qAC [uS a,uL b,uL c,uL d,uL g,uL i,uL j,uL k] 30 V1 fun C V2=>qAC [uL l,uL o] 34 V2 fun D V3=>qAC [uS p,uL q] 48 V3 fun F V4=>qAC [uP none] 107 V4 fun G V5=>qAC [uI 0,uI 0,uI 0,uI 0,uI 0] 54 V5 fun H V6=>qAC [uS s,uL u,uS y,uL z,uL A] 121 V6 fun L V7=>R (rT #[uI r,uP (qAa C 0),uP (qAa D 0),uP (qAa F 0),uP (qAa G 0),uP (qAa H 0),uI B,uP (qAa L 0),uB (!(decide (B=0)))]) V7
theorem s45a{a:ByteArray}{b c d g i j k l o:Sl}{p:ByteArray}{q:Sl}{r:Int}{V:Mem}{R:List Value->Mem->Prop}(h:w45a a b c d g i j k l o p q r V (OV R)):Seg Tryz.prog 37 c45a [(0,uD a b c d g i j k),(1,uA #[uL l,uL o]),(2,uA #[uS p,uL q]),(3,uI r)] [3,4,5,6,8,9,10,11,20] V R :=
 qBa (H:=hK 37) [(0,(.agg (.cons (.var .s 0) (.cons (.var .sl 1) (.cons (.var .sl 2) (.cons (.var .sl 3) (.cons (.var .sl 4) (.cons (.var .sl 5) (.cons (.var .sl 6) (.cons (.var .sl 7) .nil)))))))))),(1,(.agg (.cons (.var .sl 8) (.cons (.var .sl 9) .nil)))),(2,(.agg (.cons (.var .s 10) (.cons (.var .sl 11) .nil)))),(3,(.var (.i .i64) 12))] [uS a,uL b,uL c,uL d,uL g,uL i,uL j,uL k,uL l,uL o,uS p,uL q,uI r] rfl (by kernel_rfl) h
noncomputable def c45b:List Code:=((qBZ (qAj Tryz.f45) [3,0]).drop 0).take 1
def w45b(a b:Option Addr)(c:Int):MR:=fun V R=>StT a 0 [uP none] V fun V1=>StT b 0 [uI 0,uI 0,uI 0,uI 0,uI 0] V1 fun V2=>R (rT #[uP a,uP b,uI c]) V2
theorem s45b{a b:Option Addr}{c:Int}{V:Mem}{R:List Value->Mem->Prop}(h:w45b a b c V (OV R)):Seg Tryz.prog 37 c45b [(8,uP a),(9,uP b),(10,uI c)] [8,9,10] V R :=
 qBa (H:=hK 37) [(8,(.var .p 0)),(9,(.var .p 1)),(10,(.var (.i .i64) 2))] [uP a,uP b,uI c] rfl (by kernel_rfl) h
noncomputable def c45c:List Code:=((qBZ (qAj Tryz.f45) []).drop 4).take 1
def w45c(a:Int)(b c d g i:Option Addr)(j:Int)(k:Option Addr):MR:=fun V R=>∃l o p q r s u y,V.rowp b ((0:Int).toNat*1) 8=some [uS l,uL o,uL p,uL q,uL r,uL s,uL u,uL y]/\∃z A,V.rowp c ((0:Int).toNat*1) 2=some [uL z,uL A]/\qAC [uS l,uL o,uL p,uL q,uL r,uL s,uL u,uL y,uL z,uL A,uI a,uI 0,uI 0,uI 0,.slice none 0 0] 111 V fun B V1=>StT g 0 [uP (qAa B 0)] V1 fun V2=>R (rT #[uP d,uP g,uP i,uI j,uP k]) V2
theorem s45c{a:Int}{b c d g i:Option Addr}{j:Int}{k:Option Addr}{V:Mem}{R:List Value->Mem->Prop}(h:w45c a b c d g i j k V (OV R)):Seg Tryz.prog 37 c45c [(3,uI a),(4,uP b),(5,uP c),(6,uP d),(8,uP g),(9,uP i),(10,uI j),(11,uP k)] [6,8,9,10,11] V R :=
 qBa (H:=hK 37) [(3,(.var (.i .i64) 0)),(4,(.var .p 1)),(5,(.var .p 2)),(6,(.var .p 3)),(8,(.var .p 4)),(9,(.var .p 5)),(10,(.var (.i .i64) 6)),(11,(.var .p 7))] [uI a,uP b,uP c,uP d,uP g,uP i,uI j,uP k] rfl (by kernel_rfl) h
noncomputable def c45d:Array Oper:=qEB ((qBZ (qAj Tryz.f45) []).getD 6 .skip)
def w45d(a b c:Option Addr)(d:Int)(g:Option Addr):MR:=fun V R=>∃i,V.rowp b ((0:Int).toNat*1) 1=some [uP i]/\∃j k l o p,V.rowp g ((0:Int).toNat*1) 5=some [uS j,uL k,uS l,uL o,uL p]/\¬a=none/\∃q,V.rowp a 1 1=some [uL q]/\R (rT #[uP b,uP c,uI d,uP i,uA #[uS j,uL k,uS l,uL o,uL p],uL q]) V
theorem s45d{a b c:Option Addr}{d:Int}{g:Option Addr}{V:Mem}{R:List Value->Mem->Prop}(h:w45d a b c d g V (OV R)):SegO Tryz.prog 37 c45d 0 4 [(6,uP a),(8,uP b),(9,uP c),(10,uI d),(11,uP g)] [8,9,10,29,30,32] V R :=
 qDQ (H:=hK 37) [(6,(.var .p 0)),(8,(.var .p 1)),(9,(.var .p 2)),(10,(.var (.i .i64) 3)),(11,(.var .p 4))] [uP a,uP b,uP c,uI d,uP g] rfl (by kernel_rfl) h
noncomputable def c45e:Array Oper:=qEB ((qBZ (qAj Tryz.f45) []).getD 6 .skip)
def w45e(a b:Option Addr)(c:Int):MR:=fun V R=>¬b=none/\StT (qAa b 1) 0 [uI c] V fun V1=>R (rT #[uP a,uP b]) V1
theorem s45e{a b:Option Addr}{c:Int}{V:Mem}{R:List Value->Mem->Prop}(h:w45e a b c V (OV R)):SegO Tryz.prog 37 c45e 5 2 [(8,uP a),(9,uP b),(33,uI c)] [8,9] V R :=
 qDQ (H:=hK 37) [(8,(.var .p 0)),(9,(.var .p 1)),(33,(.var (.i .i64) 2))] [uP a,uP b,uI c] rfl (by kernel_rfl) h
noncomputable def c45f:List Code:=((qBZ (qAj Tryz.f45) []).drop 7).take 1
def w45f(a b:Option Addr):MR:=fun V R=>∃c,V.rowp a ((0:Int).toNat*1) 1=some [uP c]/\∃d g i j k,V.rowp b ((0:Int).toNat*1) 5=some [uI d,uI g,uI i,uI j,uI k]/\StT a 0 [uP c] V fun V1=>V1.rowp b 0 5=some [uI d,uI g,uI i,uI j,uI k]/\StT b 0 [uI d,uI g,uI i,uI j,uI k] V1 fun V2=>R (rT #[uP a,uP b,uI 0]) V2
theorem s45f{a b:Option Addr}{V:Mem}{R:List Value->Mem->Prop}(h:w45f a b V (OV R)):Seg Tryz.prog 37 c45f [(8,uP a),(9,uP b)] [8,9,10] V R :=
 qBa (H:=hK 37) [(8,(.var .p 0)),(9,(.var .p 1))] [uP a,uP b] rfl (by kernel_rfl) h
noncomputable def c68a:List Code:=((qBZ (qAj Tryz.f68) []).drop 1).take 5
def w68a(a b:Option Addr)(c:Value):MR:=fun V R=>GenK Tryz.prog (.binOp .neq 20 (.tmp 8) (.const .nilIface) 20) 4 (gv [(8,K.cast .r c)]) V fun x V1=>∃d,x=uB d/\Br (d=true) (GenK Tryz.prog (.typeAssert (.tmp 11) 20 147 true) 148 (gv [(11,K.cast .r c)]) V1 fun x V2=>∃g i,x=.tuple #[uA #[uI g],uB i]/\Br (i=true) (¬a=none/\StT (qAa a 0) 0 [uI g] V2 fun V3=>∃j,V3.rowp b ((0:Int).toNat*1) 1=some [uP j]/\¬j=none/\¬j=none/\∃k,V3.rowp j 13 1=some [uI k]/\¬a=none/\¬(qAa a 2)=none/\StT (qAa a 2) 0 [uI k] V3 fun V4=>∃l,V4.rowp b ((0:Int).toNat*1) 1=some [uP l]/\¬l=none/\¬l=none/\∃o,V4.rowp l 14 1=some [uL o]/\Lp [uI 0] V4 fun I n V5=>∀p,I n [uI p] V5->∀J0:LMP,Nx I n J0->Br (p<(o.n:Int)) (Ix o p (∃q r s,V5.rowp o.p (p.toNat*3) 3=some [uI q,uI r,uI s]/\Br (0<r) (¬a=none/\¬(qAa a 2)=none/\∃u,V5.rowp a 3 1=some [uI u]/\IR (u+1)/\¬a=none/\¬(qAa a 2)=none/\StT (qAa a 3) 0 [uI (u+1)] V5 fun V6=>IR (p+1)/\J0 [uI (p+1)] V6) (IR (p+1)/\J0 [uI (p+1)] V5))) (R (rT #[]) V5)) (∃t x,K.cast .r c=.iface t x/\R (.panicked [{ v:=.iface t x,recovered:=false }]) V2)) (∃g,V1.rowp b ((0:Int).toNat*1) 1=some [uP g]/\¬g=none/\¬g=none/\∃i,V1.rowp g 13 1=some [uI i]/\¬a=none/\¬(qAa a 2)=none/\StT (qAa a 2) 0 [uI i] V1 fun V2=>∃j,V2.rowp b ((0:Int).toNat*1) 1=some [uP j]/\¬j=none/\¬j=none/\∃k,V2.rowp j 14 1=some [uL k]/\Lp [uI 0] V2 fun I n V3=>∀l,I n [uI l] V3->∀J0:LMP,Nx I n J0->Br (l<(k.n:Int)) (Ix k l (∃o p q,V3.rowp k.p (l.toNat*3) 3=some [uI o,uI p,uI q]/\Br (0<p) (¬a=none/\¬(qAa a 2)=none/\∃r,V3.rowp a 3 1=some [uI r]/\IR (r+1)/\¬a=none/\¬(qAa a 2)=none/\StT (qAa a 3) 0 [uI (r+1)] V3 fun V4=>IR (l+1)/\J0 [uI (l+1)] V4) (IR (l+1)/\J0 [uI (l+1)] V3))) (R (rT #[]) V3))
theorem s68a{a b:Option Addr}{c:Value}{V:Mem}{R:List Value->Mem->Prop}(h:w68a a b c V (OV R)):Seg Tryz.prog 46 c68a [(0,uP a),(1,uP b),(2,K.cast .r c)] [] V R :=
 qBa (H:=hK 46) [(0,(.var .p 0)),(1,(.var .p 1)),(2,(.var .r 2))] [uP a,uP b,c] rfl (by kernel_rfl) h
end
end Go.Proofs
namespace Go.Proofs
open Go Go.Sx
attribute [local irreducible] Go.Sx.Tri
theorem GenK.neqNil{V:Mem}{x:Operand}{t:TypeId}{v:Value}{ty:Nat}{vals:Operand->Value}(hx:vals x=.iface t v)(hy:vals (.const .nilIface)=.nilIface){q:Value->Mem->Prop}(hq:q (.bool true) V):GenK Tryz.prog (.binOp .neq 20 x (.const .nilIface) 20) ty vals V q:=by
 intro w hw
 refine⟨_,w,V,?_,Frm.refl hw,hq⟩
 have he:(Op.equal 20 (.iface t v) .nilIface).run Tryz.prog w=.ok false w:=by
  rw[qBS,Op.equalIn];simp[Sem.run_bind,run_underlying Tryz.underlying20]
 unfold execOp
 simp[hx,hy,binOp,eqGuard,Sem.run_bind,he]
theorem GenK.eqNilNil{V:Mem}{x:Operand}{ty:Nat}{vals:Operand->Value}(hx:vals x=.nilIface)(hy:vals (.const .nilIface)=.nilIface){q:Value->Mem->Prop}(hq:q (.bool false) V):GenK Tryz.prog (.binOp .neq 20 x (.const .nilIface) 20) ty vals V q:=by
 intro w hw
 refine⟨_,w,V,?_,Frm.refl hw,hq⟩
 have he:(Op.equal 20 .nilIface .nilIface).run Tryz.prog w=.ok true w:=by
  rw[qBS,Op.equalIn];simp[Sem.run_bind,run_underlying Tryz.underlying20]
 unfold execOp
 simp[hx,hy,binOp,eqGuard,Sem.run_bind,he]
theorem GenK.assertOk{P:Program}{V:Mem}{x:Operand}{t u:TypeId}{ts:Array Field}{v:Value}{ty:Nat}{vals:Operand->Value}(ht:P.underlying t=some (.struct ts))(hx:vals x=.iface t v){q:Value->Mem->Prop}(hq:q (.tuple #[v,.bool true]) V):GenK P (.typeAssert x u t true) ty vals V q:=by
 intro w hw
 refine⟨_,w,V,?_,Frm.refl hw,hq⟩
 unfold execOp
 simp[hx,Instr.typeAssert,Sem.run_bind,run_underlying ht]
noncomputable def dOp:Oper:={ dst:=none,op:=.move (.tmp 0),type:=0,pos := "",after:=#[],guard:=none }
theorem run_makeFunc{P:Program}{a:Act}{o:Oper}{f:Fn}{first caps:Array Operand}{w:World}(ho:o.op=.makeFunc f first caps):(execOp a.eval o).run P w=.ok (.value (.func f (first.map a.eval) (caps.map a.eval))) w:=by
 unfold execOp
 simp[ho,Instr.makeFunc]
theorem run_deferv{P:Program}{a:Act}{o:Oper}{c:Call}{fv:Operand}{f:Fn}{first caps:Array Value}{w:World}(hop:o.op=.defer c)(hc:c.callee=.value fv)(hf:a.eval fv=.func f first caps)(hargs:c.args.map a.eval=#[]) :
  (execOp a.eval o).run P w=.ok (.defer { target:=.fn f caps,args:=first++#[] }) w:=by
 unfold execOp
 simp[hop,resolve,hc,hf,hargs,Deferred.ofValue]
theorem qJx{N:Nat}{a:Act}{l:List (Nat×Value)}(h:Has N a l){t:Nat}{v:Value}(ht:t<N):Has N (a.put (some t) v) ((t,v)::l):=by
 refine⟨by simp[Act.put,h.1],fun s u hs=>?_⟩
 rw[List.lookup_cons]at hs
 by_cases e:s=t
 ·subst e
  simp only[beq_self_eq_true]at hs
  cases hs
  simp[Act.put,Array.getD_eq_getD_getElem?,h.1,ht]
 ·have e':(s==t)=false:=by simpa using e
  rw[e']at hs
  have:=h.2 s u hs
  rw[<- this]
  simp[Act.put,Array.getD_eq_getD_getElem?,Array.getElem?_setIfInBounds_ne (Ne.symm e)]
theorem qHR{F:Fence}{n:Nat}{P:Program}{f:FuncId}{args:Array Value}{u:FrameMode}{w:World}{R R':Ending->FrameMode->World->Prop}(h:CallsDIn F n P f args u w R)(k:∀e u' w',R e u' w'->R' e u' w'):CallsDIn F n P f args u w R' :=
 ⟨h.1,fun c cs h1 h2=>let ⟨e,u',w',fr,a,b⟩:=h.2 c cs h1 h2;⟨e,u',w',fr,k _ _ _ a,b⟩⟩
def qDv(a0 a1 a2 a3:Int):List Value:=[.int .i64 a0,.int .i64 a1,.int .i64 a2,.int .i64 a3,.int .i64 0]
structure PM (V0:Mem) (d:Ds) (p F b8 b9:Nat) (gs ns ls:Sl) (nd:List Nd) (V:Mem) (s:St) (c:Nat) (a0 a1 a2 a3:Int):Prop where
 ex:∃W,V0.sub W/\W p=none/\V p=some (.cells (qBE d F s.tk c s.cm gs ns ls).toArray 111 (0,0))/\Lay W V gs ns ls nd s/\W b8=some (cell (pv p) 107)/\W b9=some (.cells (qDv a0 a1 a2 a3).toArray 54 (0,0))
section
variable{V0 V:Mem}{d:Ds}{p F b8 b9 c:Nat}{gs ns ls:Sl}{nd:List Nd}{s:St}{a0 a1 a2 a3 a0' a1' a2' a3':Int}
theorem PM.set9(h:PM V0 d p F b8 b9 gs ns ls nd V s c a0 a1 a2 a3)(n89:b8≠b9)(v9:V0 b9=none){x:Array Value}(hx:x=(qDv a0' a1' a2' a3').toArray):PM V0 d p F b8 b9 gs ns ls nd (V.set b9 (.cells x 54 (0,0))) s c a0' a1' a2' a3':=by
 obtain⟨W,h1,h2,h3,L,h8,h9⟩:=h.ex
 have np:p≠b9:=fun e=>by rw[e,h9]at h2;cases h2
 exact⟨W.set b9 (.cells x 54 (0,0)),h1.set v9 _,by rw[Mem.set_ne np];exact h2,by rw[Mem.set_ne np];exact h3,L.poke (by rw[h9];simp) _,by rw[Mem.set_ne n89];exact h8,by rw[Mem.set_same,hx]⟩
theorem PM.set8(h:PM V0 d p F b8 b9 gs ns ls nd V s c a0 a1 a2 a3)(n89:b8≠b9)(v8:V0 b8=none){x:Array Value}(hx:x=#[pv p]):PM V0 d p F b8 b9 gs ns ls nd (V.set b8 (.cells x 107 (0,0))) s c a0 a1 a2 a3:=by
 obtain⟨W,h1,h2,h3,L,h8,h9⟩:=h.ex
 have np:p≠b8:=fun e=>by rw[e,h8]at h2;cases h2
 exact⟨W.set b8 (.cells x 107 (0,0)),h1.set v8 _,by rw[Mem.set_ne np];exact h2,by rw[Mem.set_ne np];exact h3,L.poke (by rw[h8];simp) _,by rw[Mem.set_same,hx],by rw[Mem.set_ne n89.symm];exact h9⟩
theorem PM.at8(h:PM V0 d p F b8 b9 gs ns ls nd V s c a0 a1 a2 a3):V b8=some (cell (pv p) 107):=by
 obtain⟨W,h1,h2,h3,L,h8,h9⟩:=h.ex
 exact L.sub _ _ h8
theorem PM.at9(h:PM V0 d p F b8 b9 gs ns ls nd V s c a0 a1 a2 a3):V b9=some (.cells (qDv a0 a1 a2 a3).toArray 54 (0,0)):=by
 obtain⟨W,h1,h2,h3,L,h8,h9⟩:=h.ex
 exact L.sub _ _ h9
theorem PM.em(h:PM V0 d p F b8 b9 gs ns ls nd V s c a0 a1 a2 a3):EM V0 d p F V s c:=by
 obtain⟨W,h1,h2,h3,L,h8,h9⟩:=h.ex
 exact MA.narrow (W:=W) ⟨h2,gs,ns,ls,nd,h3,L⟩ h1
theorem PM.atp(h:PM V0 d p F b8 b9 gs ns ls nd V s c a0 a1 a2 a3):V p=some (.cells (qBE d F s.tk c s.cm gs ns ls).toArray 111 (0,0)):=by
 obtain⟨W,h1,h2,h3,L,h8,h9⟩:=h.ex
 exact h3
theorem PM.log(h:PM V0 d p F b8 b9 gs ns ls nd V s c a0 a1 a2 a3):qAc V ls 3 (s.lg.map qFK):=by
 obtain⟨W,h1,h2,h3,L,h8,h9⟩:=h.ex
 exact L.log.rows (fun _=>rfl) (by decide)
theorem nodesN_succ{l:List (Int×Int×Int)}{i:Nat}{x:Int×Int×Int}(h:l[i]?=some x):qCl (l.take (i+1))=qCl (l.take i)+if 0<x.2.1 then 1 else 0:=by
 unfold qCl
 rw[List.take_add_one,h,List.filter_append,List.length_append]
 congr 1
 by_cases hx:0<x.2.1
 ·rw[if_pos hx];simp[hx]
 ·rw[if_neg hx];simp[hx]
theorem nodesN_le(l:List (Int×Int×Int))(i:Nat):qCl (l.take i)<=i:=by
 unfold qCl
 refine Nat.le_trans (List.length_filter_le _ _) ?_
 rw[List.length_take];omega
theorem lateTail(n89:b8≠b9)(v9:V0 b9=none)(P:PM V0 d p F b8 b9 gs ns ls nd V s c a0 a1 0 0){R:Ending->Mem->Prop}(hR:∀V',PM V0 d p F b8 b9 gs ns ls nd V' s c a0 a1 s.cm (qCl s.lg)->R (rT #[]) V') :
    (∃v4,V.rowp (sa b8) ((0:Int).toNat*1) 1=some [uP v4] /\
 ¬v4=none/\¬v4=none/\∃v5,V.rowp v4 ((13:Int).toNat*1) 1=some [uI v5] /\
 ¬(some (⟨b9,0,none⟩:Addr))=none/\¬(qAa (sa b9) 2)=none/\StT (qAa (sa b9) 2) 0 [uI v5] V fun V2 =>
 ∃v6,V2.rowp (sa b8) ((0:Int).toNat*1) 1=some [uP v6] /\
 ¬v6=none/\¬v6=none/\∃v7,V2.rowp v6 ((14:Int).toNat*1) 1=some [uL v7] /\
 ∃(I:Nat->List Value->Mem->Prop) (n0:Nat),I n0 [uI 0] V2/\∀n V3,∀v8,I n [uI v8] V3->∀J0:List Value->Mem->Prop,(∀m ys V'',m<n->I m ys V''->J0 ys V'') ->
 Br (v8<(v7.n:Int))
 (¬v7.p=none/\0<=v8/\v8<(v7.n:Int)/\∃v9 v10 v11,V3.rowp v7.p (v8.toNat*3) 3=some [uI v9,uI v10,uI v11] /\
 Br (0<v10)
 (¬(some (⟨b9,0,none⟩:Addr))=none/\¬(qAa (sa b9) 2)=none/\∃v12,V3.rowp (sa b9) ((3:Int).toNat*1) 1=some [uI v12] /\
 IR (v12+1)/\¬(some (⟨b9,0,none⟩:Addr))=none/\¬(qAa (sa b9) 2)=none/\StT (qAa (sa b9) 3) 0 [uI (v12+1)] V3 fun V4 =>
 IR (v8+1)/\J0 [uI (v8+1)] V4)
 (IR (v8+1)/\J0 [uI (v8+1)] V3))
 (R (rT #[]) V3)):=by
  refine⟨_,qBp P.at8,nn,nn,_,qAd P.atp 13 1 (by simp[qBE]),nn,pnn,StT.at2 (off:=2) P.at9 (by simp[qDv]) ?_⟩
  have P2:=P.set9 (a0':=a0) (a1':=a1) (a2':=s.cm) (a3':=0) n89 v9 (x:=(((qDv a0 a1 0 0).toArray.toList.take 2++[Value.int .i64 (s.cm:Int)]++(qDv a0 a1 0 0).toArray.toList.drop (2+[Value.int .i64 (s.cm:Int)].length)).toArray)) (by simp[qDv])
  refine⟨_,qBp P2.at8,nn,nn,ls,qAd P2.atp 14 1 (by simp[qBE]),qHw s.lg.length (fun i V3=>PM V0 d p F b8 b9 gs ns ls nd V3 s c a0 a1 s.cm (qCl (s.lg.take i))) P2 ?_⟩
  intro i V3 J hi P3 hJ
  refine⟨fun hlt=>?_,fun hge=>?_⟩
  · have hr:=P3.log
    obtain⟨x,-,hx,-,hil,hp,hz,hrow⟩:=hr.get hlt
    have hc:=hr.cap
    have hf:=hr.fit
    have hnn:=hr.n_eq
    have hle:=nodesN_le s.lg i
    have hs:=nodesN_succ hx
    refine⟨hp,hz,hlt,_,_,_,hrow,fun h0=>⟨nn,pnn,_,qAd P3.at9 3 1 (by simp[qDv]),⟨by omega,by omega⟩,nn,pnn,StT.at2 (off:=3) P3.at9 (by simp[qDv]) ⟨hr.succ hlt,hJ hil _ ?_⟩⟩,fun h0=>⟨hr.succ hlt,hJ hil _ ?_⟩⟩
    · rw[if_pos h0]at hs
      exact P3.set9 n89 v9 (by rw[hs];simp[qDv])
    · rw[if_neg h0]at hs
      rw[hs];exact P3
  · have hd:=(P3.log.done hge).2
    rw[List.take_of_length_le hd]at P3
    exact hR _ P3
def fltVE(e:Int):Value:=.iface 147 (.agg #[.int .i64 e])
theorem lateNil(n89:b8≠b9)(v9:V0 b9=none)(P:PM V0 d p F b8 b9 gs ns ls nd V s c 0 a1 0 0):Seg Tryz.prog 46 c68a [(0,pv b9),(1,pv b8),(2,.nilIface)] [] V fun _ V'=>PM V0 d p F b8 b9 gs ns ls nd V' s c 0 a1 s.cm (qCl s.lg):=by
 refine s68a (c:=.nilIface) ?_
 unfold w68a
 exact GenK.eqNilNil rfl rfl ⟨false,rfl,(fun k=>by cases k),fun _=>lateTail (R:=fun e V'=>∃vs:List Value,e=.returned (.tuple vs.toArray)/\PM V0 d p F b8 b9 gs ns ls nd V' s c 0 a1 s.cm (qCl s.lg)) n89 v9 P fun V' h=>⟨[],rfl,h⟩⟩
theorem lateFlt(n89:b8≠b9)(v9:V0 b9=none){e:Int}(P:PM V0 d p F b8 b9 gs ns ls nd V s c 0 a1 0 0):Seg Tryz.prog 46 c68a [(0,pv b9),(1,pv b8),(2,fltVE e)] [] V fun _ V'=>PM V0 d p F b8 b9 gs ns ls nd V' s c e a1 s.cm (qCl s.lg):=by
 refine s68a (c:=fltVE e) ?_
 unfold w68a
 refine GenK.neqNil rfl rfl ⟨true,rfl,fun _=>?_,fun k=>absurd rfl k⟩
 refine GenK.assertOk Tryz.underlying147 rfl ⟨e,true,rfl,fun _=>⟨nn,StT.at2 (off:=0) P.at9 (by simp[qDv]) ?_⟩,fun k=>absurd rfl k⟩
 exact lateTail (R:=fun x V'=>∃vs:List Value,x=.returned (.tuple vs.toArray)/\PM V0 d p F b8 b9 gs ns ls nd V' s c e a1 s.cm (qCl s.lg)) n89 v9 (P.set9 (a0':=e) (a1':=a1) (a2':=0) (a3':=0) n89 v9 (by simp[qDv])) fun V' h=>⟨[],rfl,h⟩
noncomputable def lateX:Code:=(flat (qAj Tryz.f68)).getD 0 .skip
theorem lateBody:(Tryz.f68).body=some (qAj Tryz.f68):=by kernel_rfl
theorem lateX_eq:lateX=.region 0 #[(qEB lateX).getD 0 dOp,(qEB lateX).getD 1 dOp] false:=by kernel_rfl
theorem late_flat:flat (qAj Tryz.f68)=lateX::c68a:=by kernel_rfl
theorem qGr{tmps:Array Value}{w:World}:(results Tryz.f68 tmps).run Tryz.prog w=.ok (.tuple #[]) w:=by
 have hr:Tryz.f68.results=#[]:=by kernel_rfl
 unfold results
 rw[hr]
 simp
theorem lateC(n89:b8≠b9)(v9:V0 b9=none)(P:PM V0 d p F b8 b9 gs ns ls nd V s c 0 a1 0 0){w:World}(hw:V.le w){u:FrameMode}{n:Nat}{f:Int}(hu:(u=.returning/\f=0)∨u=.panicking [{ v:=fltVE f,recovered:=false }]) :
  CallsDIn (qAy none) n Tryz.prog 68 #[pv b9,pv b8] u w fun e u' w'=>(∃v,e=.returned v)/\(∃V2,Frm V w V2 w'/\PM V0 d p F b8 b9 gs ns ls nd V2 s c f a1 s.cm (qCl s.lg)) /\
   ((u=.returning/\u'=.returning)∨(u'=.panicking [{ v:=fltVE f,recovered:=true }])):=by
 refine qIf (fn:=Tryz.f68) (at0:=#[]) (t3:=2) (t6:=7) Tryz.func68 lateBody late_flat lateX_eq (by kernel_rfl) (by kernel_rfl) (by kernel_rfl) (by kernel_rfl) (by kernel_rfl) (by kernel_rfl) (by rw[show Tryz.f68.ntmps=46 by kernel_rfl];decide) (by rw[show Tryz.f68.ntmps=46 by kernel_rfl];simp) ?_
 intro v u' hrec
 have h0:=qJx (qJx (qFA (args:=[pv b9,pv b8]) (N:=46) (by simp)) (t:=7) (v:=v) (by decide)) (t:=2) (v:=v) (by decide)
 have hH:Has 46 _ [(0,pv b9),(1,pv b8),(2,v)]:=⟨h0.1,fun s x hs=>by
  simp only[List.lookup_cons]at hs
  repeat' split at hs
  all_goals first
   | (rename_i e;simp only[beq_iff_eq]at e;subst e;cases hs;exact h0.get rfl)
   | cases hs⟩
 rcases hu with⟨rfl,rfl⟩|rfl
 ·obtain⟨rfl,rfl⟩:v=.nilIface/\u'=.returning:=hrec
  refine qCu ?_ (lateNil n89 v9 P none n _ w hw hH.1 hH.2)
  rintro e a' w' ⟨rfl,h1,-,vs,V',-,h4,h5⟩
  exact⟨.inl rfl,h1,_,qGr,⟨_,rfl⟩,⟨V',h5,h4⟩,.inl ⟨rfl,rfl⟩⟩
 ·obtain⟨rfl,rfl⟩:v=fltVE f/\u'=.panicking [{ v:=fltVE f,recovered:=true }]:=by
   obtain⟨h1,h2⟩:=hrec
   exact⟨h1,h2⟩
  refine qCu ?_ (lateFlt n89 v9 P none n _ w hw hH.1 hH.2)
  rintro e a' w' ⟨rfl,h1,-,vs,V',-,h4,h5⟩
  exact⟨.inl rfl,h1,_,qGr,⟨_,rfl⟩,⟨V',h5,h4⟩,.inr rfl⟩
end
theorem Lay.base{V0 V:Mem}{gs ns ls:Sl}{nd:List Nd}{s:St}(L:Lay V0 V gs ns ls nd s){p:Nat}(p0:V0 p=none):∃W,V0.sub W/\W p=none/\W.sub V/\Lay W V gs ns ls nd s/\∀b o,V b=some o->b≠p->qIh V b->W b=some o:=by
 refine⟨Mem.minus V (Mine p gs ns ls nd),fun b o hb=>?_,qCg (.inl rfl),qBH,L.frame (fun _ _ _ h=>h),fun b o hb hne ha=>?_⟩
 ·rw[qAS fun hm=>by rw[L.mine0 p0 hm]at hb;cases hb];exact L.sub _ _ hb
 ·rw[qAS];exact hb
  have no:∀{e sz sl vs},(e=3∨e=104∨e=98)->Sx.Own V0 V e sz sl vs->¬Blk sl b:=fun {e sz sl vs} he ho=>ho.apart fun cur=>ha cur e he
  rintro (h|h|h|h|⟨n,hn,h⟩)
  ·exact hne h
  ·exact no (.inl rfl) L.glob h
  ·exact no (.inr (.inl rfl)) L.nodes h
  ·exact no (.inr (.inr rfl)) L.log h
  ·exact no (.inl rfl) (L.fld n hn) h
theorem qJQ{V:Mem}{b:Nat}{x:Array Value}{t:Nat}(h:V b=some (.cells x t (0,0)))(hty:NT t):qIh V b:=qBU h hty
noncomputable def playI:Code:=(flat (qAj Tryz.f45)).getD 3 .skip
noncomputable def qIb:Code:=(flat (qAj Tryz.f45)).getD 5 .skip
noncomputable def playR:Code:=(flat (qAj Tryz.f45)).getD 6 .skip
theorem play_flat:flat (qAj Tryz.f45)=c45a++playI::(c45c++qIb::playR::(c45f++[.ret])):=by kernel_rfl
theorem playI_eq:playI=.cond (.tmp 20) (kid playI 0) .skip:=by kernel_rfl
theorem playK_flat:flat (kid playI 0)=c45b++[.ret]:=by kernel_rfl
theorem playD_eq:qIb=.region 5 #[(qEB qIb).getD 0 dOp,(qEB qIb).getD 1 dOp] false:=by kernel_rfl
theorem playR_eq:playR=.region 6 c45d false:=by kernel_rfl
theorem playR_size:(c45d).size=7:=by kernel_rfl
theorem playde:c45d=c45e:=rfl
theorem run_ldv{w:World}{b t T:Nat}{x:Value}{cs y:Go.Sx.T}{ρ:List Value}(h:w.heap[b]?=some (.cells (cs.evs ρ id).toArray t (0,0)))(hT:qEA Tryz.prog T cs 0=some y)(hx:y.ev ρ id=x):(loadVar T ⟨b,0,none⟩).run Tryz.prog w=.ok x w:=by
 rw[<- hx];exact qCe (P:=Tryz.prog) (t:=T) (cs:=cs) (x:=y) (ρ:=ρ) (β:=id) (o:=0) h hT
def outT:Go.Sx.T:=.cons (.var (.i .i64) 0) (.cons (.var (.i .i64) 1) (.cons (.var (.i .i64) 2) (.cons (.var (.i .i64) 3) (.cons (.var (.i .i64) 4) .nil))))
theorem qCV{tmps:Array Value}{b8 b9 t8 t9:Nat}{q:Option Addr}{a0 a1 a2 a3 er:Int}{w:World}(h8:tmps.getD 8 undef=pv b8)(h9:tmps.getD 9 undef=pv b9)(h10:tmps.getD 10 undef=.int .i64 er)
  (c8:w.heap[b8]?=some (cell (.pointer q) t8)) (c9:w.heap[b9]?=some (.cells (qDv a0 a1 a2 a3).toArray t9 (0,0))) :
  (results Tryz.f45 tmps).run Tryz.prog w=.ok (.tuple #[.pointer q,.agg (qDv a0 a1 a2 a3).toArray,.int .i64 er]) w:=by
 have hr:Tryz.f45.results=#[.cell 8 107,.cell 9 54,.tmp 10]:=by kernel_rfl
 unfold results
 rw[hr]
 have e8:asAddr (tmps.getD 8 undef)=pure ⟨b8,0,none⟩:=by rw[h8];rfl
 have e9:asAddr (tmps.getD 9 undef)=pure ⟨b9,0,none⟩:=by rw[h9];rfl
 have l8:(loadVar 107 ⟨b8,0,none⟩).run Tryz.prog w=.ok (.pointer q) w:=run_ldv (cs:=.cons (.var .p 0) .nil) (y:=.var .p 0) (ρ:=[.pointer q]) c8 (by kernel_rfl) rfl
 have l9:(loadVar 54 ⟨b9,0,none⟩).run Tryz.prog w=.ok (.agg (qDv a0 a1 a2 a3).toArray) w:=run_ldv (cs:=outT) (y:=.agg outT) (ρ:=qDv a0 a1 a2 a3) c9 (by kernel_rfl) rfl
 simp only[List.mapM_toArray,List.mapM_cons,List.mapM_nil,Sem.run_bind,Sem.run_map,Sem.run_pure,Result.andThen_ok,e8,e9,l8,l9,h10]
 rfl
section
variable{V0 V:Mem}{d:Ds}{F:Nat}{gs ns:Sl}{nd:List Nd}{m:Mm}
def PlayP(V0:Mem)(d:Ds)(F:Nat)(m:Mm)(nm:ByteArray)(args:List Int)(V:Mem):Ending->Mem->Prop:=fun e V' =>
 (qCn d m nm args≠0/\V.sub V'/\e=.returned (.tuple #[.pointer none,.agg (qDv 0 0 0 0).toArray,.int .i64 (qCn d m nm args)])) ∨
 (qCn d m nm args=0/\∃p c,∃r:Rx Int,r=qCq d F (qDT d nm) args (qBG m)/\EM V0 d p F V' r.st c/\e=.returned (.tuple #[pv p,.agg (qDv (outC r) (outV r) r.st.cm (qCl r.st.lg)).toArray,.int .i64 0]))
end
theorem lookup_mem{s:Nat}{v:Value}:∀{l:List (Nat×Value)},l.lookup s=some v->(s,v)∈l
 | [],h=>by cases h
 | (t,u)::l,h=>by
  rw[List.lookup_cons]at h
  split at h
  ·rename_i e
   simp only[beq_iff_eq]at e
   subst e;cases h;exact List.mem_cons_self
  ·exact List.mem_cons_of_mem _ (lookup_mem h)
theorem qGS{N:Nat}{a:Act}{l l':List (Nat×Value)}(h:Has N a l)(hl:∀x∈l',l.lookup x.1=some x.2):Has N a l':=⟨h.1,fun s v hs=>h.2 s v (hl (s,v) (lookup_mem hs))⟩
noncomputable def qEn:Call:=match ((c45d).getD 4 dOp).op with | .call c=>c|_=>{ callee:=.value (.tmp 0),args:=#[],argTypes:=#[] }
noncomputable def playFv:Operand:=match qEn.callee with | .value f=>f|_=>.tmp 0
theorem playCall_op:((c45d).getD 4 dOp).op=.call qEn:=by kernel_rfl
theorem playCall_fv:qEn.callee=.value playFv:=by kernel_rfl
theorem qJi:qEn.args=#[.tmp 29,.tmp 30,.tmp 32]:=by kernel_rfl
theorem playFv_eval(a:Act):a.eval playFv=.func (.func 69) #[] #[]:=by kernel_rfl
theorem free{V U:Mem}(hs:V.sub U){b:Nat}(h:U b=none):V b=none:=by
 cases hc:V b with
 | none=>rfl
 | some o=>rw[hs _ _ hc]at h;cases h
section
variable{V0 V:Mem}{d:Ds}{F:Nat}{m:Mm}{nm:ByteArray}{args:List Int}{l:Sl}{b4 b5 b6 b8 b9 b11 p c:Nat}{gs ns ls:Sl}{nd:List Nd}{s:St}{a1:Int}{pr:Pr}{er:Int}
theorem segA(hd:Ds.Ok V d)(hm:Mm.Ok V m)(G:qAo d m)(ha:qAc V l 1 (args.map qAn))(hpr:pr=if qCn d m nm args=0 then (d.procs[(qDT d nm).toNat]?).getD noPr else noPr) :
  Seg Tryz.prog 37 c45a [(0,d.v),(1,m.v),(2,.agg #[.string nm,l.v]),(3,.int .i64 F)] [3,4,5,6,8,9,10,11,20] V fun vs V1=>∃b4 b5 b6 b8 b9 b11:Nat,vs=[.int .i64 F,pv b4,pv b5,pv b6,pv b8,pv b9,.int .i64 (qCn d m nm args),pv b11,.bool (!(decide (qCn d m nm args=0)))] /\
   V.sub V1/\V b8=none/\V b9=none/\b8≠b9/\V1 b4=some (.cells d.row.toArray 30 (0,0))/\V1 b5=some (.cells m.row.toArray 34 (0,0))/\V1 b6=some (.cells #[.string nm,l.v] 48 (0,0))/\V1 b8=some (cell (.pointer none) 107)/\V1 b9=some (.cells (qDv 0 0 0 0).toArray 54 (0,0))/\V1 b11=some (.cells pr.row.toArray 121 (0,0)):=by
 have hc:=c67 hd hm G ha (nm:=nm)
 rw[<- hpr]at hc
 refine s45a (a:=d.name) (b:=d.ts) (c:=d.gs) (d:=d.ps) (g:=d.ms) (i:=d.is) (j:=d.qs) (k:=d.bs) (l:=m.gs) (o:=m.ns) (p:=nm) (q:=l) (r:=F) ?_
 unfold w45a
 refine hc.call ⟨_,_,_,_,_,_,rfl,fun b4 h4 b5 h5 b6 h6 b8 h8 b9 h9 b11 h11=>?_⟩
 have s4:=fun o=>Mem.sub_new h4 o
 have s5:=fun o=>Mem.sub_new h5 o
 have s6:=fun o=>Mem.sub_new h6 o
 have s8:=fun o=>Mem.sub_new h8 o
 have s9:=fun o=>Mem.sub_new h9 o
 have s11:=fun o=>Mem.sub_new h11 o
 refine⟨_,rfl,b4,b5,b6,b8,b9,b11,rfl,(s4 _).trans ((s5 _).trans ((s6 _).trans ((s8 _).trans ((s9 _).trans (s11 _))))),free ((s4 _).trans ((s5 _).trans (s6 _))) h8,free ((s4 _).trans ((s5 _).trans ((s6 _).trans (s8 _)))) h9,fun e=>?_,?_,?_,?_,?_,?_,Mem.set_same _ _ _⟩
 ·rw[e]at h9;rw[Mem.set_same]at h9;cases h9
 ·exact((s5 _).trans ((s6 _).trans ((s8 _).trans ((s9 _).trans (s11 _))))) _ _ mss
 ·exact((s6 _).trans ((s8 _).trans ((s9 _).trans (s11 _)))) _ _ mss
 ·exact((s8 _).trans ((s9 _).trans (s11 _))) _ _ mss
 ·exact((s9 _).trans (s11 _)) _ _ mss
 ·exact(s11 _) _ _ mss
theorem segB(n89:b8≠b9)(v8:V0 b8=none)(v9:V0 b9=none)(hs:V0.sub V)(e8:V b8=some (cell (.pointer none) 107))(e9:V b9=some (.cells (qDv 0 0 0 0).toArray 54 (0,0))) :
  Seg Tryz.prog 37 c45b [(8,pv b8),(9,pv b9),(10,.int .i64 er)] [8,9,10] V fun vs V1=>vs=[pv b8,pv b9,.int .i64 er]/\V0.sub V1/\V1 b8=some (cell (.pointer none) 107)/\V1 b9=some (.cells (qDv 0 0 0 0).toArray 54 (0,0)):=by
 refine s45b (a:=some ⟨b8,0,none⟩) (b:=some ⟨b9,0,none⟩) (c:=er) ?_
 unfold w45b
 refine StT.cell e8 ?_
 show StT (qAa (sa b9) 0) 0 _ _ _
 refine StT.at2 (off:=0) (by rw[Mem.set_ne n89.symm];exact e9) (by simp[qDv]) ⟨_,rfl,rfl,(hs.set v8 _).set v9 _,by rw[Mem.set_ne n89,Mem.set_same],by rw[Mem.set_same];simp[qDv]⟩
theorem segC(e4:V b4=some (.cells d.row.toArray 30 (0,0)))(e5:V b5=some (.cells m.row.toArray 34 (0,0)))(e8:V b8=some (cell (.pointer none) 107)) :
  Seg Tryz.prog 37 c45c [(3,.int .i64 F),(4,pv b4),(5,pv b5),(6,pv b6),(8,pv b8),(9,pv b9),(10,.int .i64 er),(11,pv b11)] [6,8,9,10,11] V fun vs V1 =>
   vs=[pv b6,pv b8,pv b9,.int .i64 er,pv b11]/\∃p,V p=none/\V1=(V.set p (.cells (qBE d F ((0:Nat):Int) ((0:Nat):Int) ((0:Nat):Int) m.gs m.ns qAv).toArray 111 (0,0))).set b8 (cell (pv p) 107):=by
 refine s45c (a:=F) (b:=some ⟨b4,0,none⟩) (c:=some ⟨b5,0,none⟩) (d:=some ⟨b6,0,none⟩) (g:=some ⟨b8,0,none⟩) (i:=some ⟨b9,0,none⟩) (j:=er) (k:=some ⟨b11,0,none⟩) ?_
 unfold w45c
 refine⟨_,_,_,_,_,_,_,_,qAd e4 0 8 (by simp[Ds.row]),_,_,qAd e5 0 2 (by simp[Mm.row]),fun p hp=>?_⟩
 have hne:b8≠p:=fun e=>by rw[<- e,e8]at hp;cases hp
 exact StT.cell (by rw[Mem.set_ne hne];exact e8) ⟨_,rfl,rfl,p,hp,rfl⟩
theorem segD(e6:V b6=some (.cells #[.string nm,l.v] 48 (0,0)))(e8:V b8=some (cell (pv p) 107))(e11:V b11=some (.cells pr.row.toArray 121 (0,0))) :
  SegO Tryz.prog 37 c45d 0 4 [(6,pv b6),(8,pv b8),(9,pv b9),(10,.int .i64 er),(11,pv b11)] [8,9,10,29,30,32] V fun vs V1 =>
   vs=[pv b8,pv b9,.int .i64 er,pv p,pr.v,l.v]/\V1=V:=by
 refine s45d (a:=some ⟨b6,0,none⟩) (b:=some ⟨b8,0,none⟩) (c:=some ⟨b9,0,none⟩) (d:=er) (g:=some ⟨b11,0,none⟩) ?_
 unfold w45d
 exact⟨_,qBp e8,_,_,_,_,_,qAd e11 0 5 (by simp[Pr.row]),nn,l,qAd e6 1 1 (by simp),_,rfl,rfl,rfl⟩
theorem segE(n89:b8≠b9)(v9:V0 b9=none){v:Int}(P:PM V0 d p F b8 b9 gs ns ls nd V s c 0 0 0 0) :
  SegO Tryz.prog 37 c45e 5 2 [(8,pv b8),(9,pv b9),(33,.int .i64 v)] [8,9] V fun vs V1=>vs=[pv b8,pv b9]/\PM V0 d p F b8 b9 gs ns ls nd V1 s c 0 v 0 0:=by
 refine s45e (a:=some ⟨b8,0,none⟩) (b:=some ⟨b9,0,none⟩) (c:=v) ?_
 unfold w45e
 exact⟨nn,StT.at2 (off:=1) P.at9 (by simp[qDv]) ⟨_,rfl,rfl,P.set9 n89 v9 (by simp[qDv])⟩⟩
theorem segF(n89:b8≠b9)(v8:V0 b8=none)(v9:V0 b9=none)(P:PM V0 d p F b8 b9 gs ns ls nd V s c 0 a1 0 0) :
  Seg Tryz.prog 37 c45f [(8,pv b8),(9,pv b9)] [8,9,10] V fun vs V1=>vs=[pv b8,pv b9,.int .i64 0]/\PM V0 d p F b8 b9 gs ns ls nd V1 s c 0 a1 0 0:=by
 refine s45f (a:=some ⟨b8,0,none⟩) (b:=some ⟨b9,0,none⟩) ?_
 unfold w45f
 have P1:=P.set8 n89 v8 (x:=#[pv p]) rfl
 refine⟨_,qBp P.at8,_,_,_,_,_,qAd P.at9 0 5 (by simp[qDv]),StT.cell P.at8 ⟨qAd P1.at9 0 5 (by simp[qDv]),?_⟩⟩
 show StT (qAa (sa b9) 0) 0 _ _ _
 exact StT.at2 (off:=0) P1.at9 (by simp[qDv]) ⟨_,rfl,rfl,P1.set9 n89 v9 (by simp[qDv])⟩
end
section
variable{V0 V:Mem}{d:Ds}{F:Nat}{m:Mm}{nm:ByteArray}{args:List Int}{l:Sl}
theorem c45(S:ES V0 d F)(L:Lay V0 V m.gs m.ns qAv m.nodes (qBG m))(hm:Mm.Ok V m)(G:qAo d m)(ha:qAc V0 l 1 (args.map qAn)) :
  Tri Tryz.prog 45 #[d.v,m.v,.agg #[.string nm,l.v],.int .i64 F] V (PlayP V0 d F m nm args V):=by
 unfold Go.Sx.Tri
 intro w hV
 refine(callsIn_wide (n:=0)).1 (callsIn_of_wp_defers (F:=qAy none) Tryz.func45 (c:=qAj Tryz.f45) (by kernel_rfl) trivial (qCE ?_) rfl)
 rw[play_flat]
 obtain⟨pr,hpr⟩:∃pr,pr=if qCn d m nm args=0 then (d.procs[(qDT d nm).toNat]?).getD noPr else noPr:=⟨_,rfl⟩
 refine(segA (F:=F) (S.ds.sub L.sub) hm G (ha.sub L.sub) hpr).step hV (qFA (args:=[d.v,m.v,.agg #[.string nm,l.v],.int .i64 F]) (N:=37) (by simp)) ?_
 rintro a1 w1 vs V1 hd1 hH1 ⟨b4,b5,b6,b8,b9,b11,rfl,s1,f8,f9,n89,e4,e5,e6,e8,e9,e11⟩ hF1
 have v8:=free L.sub f8
 have v9:=free L.sub f9
 have h20:a1.eval (.tmp 20)=.bool (!(decide (qCn d m nm args=0))):=hH1.get rfl
 show Code.wpIn (qAy none) 0 Tryz.prog playI _ a1 w1
 rw[playI_eq]
 by_cases hc:qCn d m nm args=0
 ·refine wpIn_cond_false (by rw[h20,hc];rfl) (wpIn_skip ?_)
  show wpL none 0 Tryz.prog _ (c45c++qIb::playR::(c45f++[.ret])) a1 w1
  refine(segC (F:=F) (m:=m) e4 e5 e8).step hF1.le (qGS hH1 (by
   intro x hx
   simp only[List.mem_cons,List.not_mem_nil,or_false]at hx
   rcases hx with rfl|rfl|rfl|rfl|rfl|rfl|rfl|rfl <;> rfl)) ?_
  rintro a2 w2 vs V2 hd2 hH2 ⟨rfl,p,hp,hV2⟩ hF2
  have hp8:b8≠p:=fun e=>by rw[<- e,e8]at hp;cases hp
  have s2:V1.sub (V1.set p (.cells (qBE d F ((0:Nat):Int) ((0:Nat):Int) ((0:Nat):Int) m.gs m.ns qAv).toArray 111 (0,0))):=Mem.sub_new hp _
  have L1:=(L.grow s1).grow s2
  have L2:Lay V0 V2 m.gs m.ns qAv m.nodes (qBG m):=by
   rw[hV2]
   exact L1.put (qJQ (s2 _ _ e8) (by unfold NT;decide)) v8 _
  have p0:V0 p=none:=free (L.sub.trans s1) hp
  obtain⟨W,w0,wp,wV,LW,hW⟩:=L2.base p0
  have hat:V2 p=some (.cells (qBE d F ((0:Nat):Int) ((0:Nat):Int) ((0:Nat):Int) m.gs m.ns qAv).toArray 111 (0,0)):=by rw[hV2,Mem.set_ne hp8.symm,Mem.set_same]
  have keep:∀{b:Nat} {o:Obj},V1 b=some o->b≠b8->V2 b=some o:=fun {b o} hb hne=>by rw[hV2,Mem.set_ne hne];exact s2 _ _ hb
  have e8':V2 b8=some (cell (pv p) 107):=by rw[hV2,Mem.set_same]
  have n6:b6≠b8:=fun e=>by rw[e,e8]at e6;cases e6
  have n11:b11≠b8:=fun e=>by rw[e,e8]at e11;cases e11
  have e9':=keep e9 n89.symm
  have hp9:b9≠p:=fun e=>by rw[<- e,e9]at hp;cases hp
  have W8:W b8=some (cell (pv p) 107):=hW _ _ e8' hp8 (qJQ e8' (by unfold NT;decide))
  have W9:W b9=some (.cells (qDv 0 0 0 0).toArray 54 (0,0)):=hW _ _ e9' hp9 (qJQ e9' (by unfold NT;decide))
  have MW:EM W d p F V2 (qBG m) 0:=⟨wp,m.gs,m.ns,qAv,m.nodes,hat,LW⟩
  obtain⟨i,q,hi,hq,hval⟩:=qHP hc
  have hpq:pr=q:=by rw[hpr,if_pos hc,hi,Int.toNat_natCast,hq];rfl
  have hG:=qJy G
  have hvs:qAf d (qBG m).mm q.params args=true:=qAg (qCH (qEl m).symm) hval
  obtain⟨r,hr⟩:∃r:Rx Int,r=qCq d F (i:Int) args (qBG m):=⟨_,rfl⟩
  have H:Tri Tryz.prog 69 #[pv p,pr.v,l.v] V2 (PX W d p F 0 r):=by
   rw[hr,hpq]
   exact runC (allC d p F (F+1)) W V2 (qBG m) 0 i q args l (S.sub w0) hq hG hvs (ha.sub w0) MW (Nat.zero_le _) (by show F<F+1+0;omega) (by unfold BW;show 0+0+0<=_;omega)
  -- the deferred function is put aside
  show Code.wpIn (qAy none) 0 Tryz.prog qIb _ a2 w2
  rw[playD_eq]
  refine wpIn_region ?_
  show wpOpsIn _ _ _ _ _ [0,1] _ _
  refine Go.Sx.step_value (o:=(qEB qIb).getD 0 dOp) rfl (by kernel_rfl) (run_makeFunc (f:=.func 68) (first:=#[]) (caps:=#[.tmp 9,.tmp 8]) (by kernel_rfl)) ?_
  have g8:a2.eval (.tmp 8)=pv b8:=hH2.get rfl
  have g9:a2.eval (.tmp 9)=pv b9:=hH2.get rfl
  have hd0:((qEB qIb).getD 0 dOp).dst=some 28:=by kernel_rfl
  have hd1':((qEB qIb).getD 1 dOp).dst=none:=by kernel_rfl
  rw[hd0,show (#[Operand.tmp 9,.tmp 8].map a2.eval)=#[pv b9,pv b8] by simp[g8,g9],show ((#[]:Array Operand).map a2.eval)=#[] by simp]
  have hH3:=qJx hH2 (t:=28) (v:=.func (.func 68) #[] #[pv b9,pv b8]) (by decide)
  refine Go.Sx.step_defer (o:=(qEB qIb).getD 1 dOp) rfl (by kernel_rfl) (run_deferv (c:={ callee:=.value (.tmp 28),args:=#[],argTypes:=#[] }) (fv:=.tmp 28) (f:=.func 68) (first:=#[]) (by kernel_rfl) rfl (hH3.get rfl) (by simp)) ?_
  rw[hd1']
  show Code.wpIn (qAy none) 0 Tryz.prog playR _ _ w2
  rw[playR_eq]
  refine wpIn_region ?_
  rw[playR_size]
  show wpOpsIn _ _ _ _ _ (List.range' 0 4++[4,5,6]) _ _
  have hH3':Has 37 _ [(6,pv b6),(8,pv b8),(9,pv b9),(10,.int .i64 (qCn d m nm args)),(11,pv b11)]:=qGS hH3 (by
   intro x hx
   simp only[List.mem_cons,List.not_mem_nil,or_false]at hx
   rcases hx with rfl|rfl|rfl|rfl|rfl <;> rfl)
  refine(segD (pr:=pr) (keep e6 n6) e8' (keep e11 n11)).step hF2.le ⟨hH3'.1,hH3'.2⟩ ?_
  rintro a4 w4 vs V4 hd4 hH4 ⟨rfl,rfl⟩ hF4
  have hdf:a4.defers=[{ target:=.fn (.func 68) #[pv b9,pv b8],args:=#[]++#[] }]:=by
   rw[hd4]
   show _::a2.defers=_
   rw[hd2,hd1]
  have inv:∀w',(invoke (.fn (.func 68) #[pv b9,pv b8]) (#[]++#[])).run Tryz.prog w'=.ok (.enter 68 #[pv b9,pv b8]) w':=fun w'=>by simp[invoke]
  have q29:a4.eval (.tmp 29)=pv p:=hH4.get rfl
  have q30:a4.eval (.tmp 30)=pr.v:=hH4.get rfl
  have q32:a4.eval (.tmp 32)=l.v:=hH4.get rfl
  have t8:a4.tmps.getD 8 undef=pv b8:=hH4.get rfl
  have t9:a4.tmps.getD 9 undef=pv b9:=hH4.get rfl
  have t10:a4.tmps.getD 10 undef=.int .i64 0:=by rw[<- hc];exact hH4.get rfl
  have i4:(c45d)[4]?=some ((c45d).getD 4 dOp):=by kernel_rfl
  have d4:((c45d).getD 4 dOp).dst=some 33:=by kernel_rfl
  have hargs:qEn.args.map a4.eval=#[pv p,pr.v,l.v]:=by rw[qJi];simp[q29,q30,q32]
  have mk:∀{V':Mem} {s':St} {c':Nat},EM W d p F V' s' c'->∃gs ns ls nd,PM V0 d p F b8 b9 gs ns ls nd V' s' c' 0 0 0 0:=fun {V' s' c'} h=>by
   obtain⟨gs,ns,ls,nd,h1,h2⟩:=h.ex
   exact⟨gs,ns,ls,nd,W,w0,wp,h1,h2,W8,W9⟩
  have hrs:(r.st:St)=(qCq d F (qDT d nm) args (qBG m)).st:=by rw[hr,hi]
  refine Go.Sx.step_call i4 (by kernel_rfl) (by simpa using run_callv (c:=qEn) (fv:=playFv) (f:=69) (first:=#[]) (caps:=#[]) (args:=#[pv p,pr.v,l.v]) playCall_op playCall_fv (playFv_eval a4) hargs Tryz.call69) hF4.le H ?_ ?_ ?_
  ·intro ch V' w' hP hF5
   cases r with
   | ok v s'=>cases hP.1
   | bad k s' =>
    obtain⟨he,c',hm'⟩:=hP
    have hch:ch=[{ v:=fltVE k,recovered:=false }]:=by
     unfold fltE at he
     injection he
    subst hch
    obtain⟨gs,ns,ls,nd,P⟩:=mk hm'
    show LeavesIn (qAy none) 0 Tryz.prog _ _ _ a4.defers _ w'
    rw[hdf]
    refine⟨nofun,(fun h=>by simp[qAy,Fence.wide]at h),_,_,_,_,rfl,inv w',fun _ _=>trivial,qHR (lateC n89 v9 P hF5.le (f:=k) (.inr rfl)) ?_⟩
    rintro e u' w'' ⟨⟨v,rfl⟩,⟨V6,hF6,P6⟩,⟨h,-⟩|rfl⟩
    ·cases h
    ·refine⟨_,qCV t8 t9 t10 (hF6.le _ _ P6.at8) (hF6.le _ _ P6.at9),V6,.inr ⟨hc,p,c',.bad k s',by rw[hr,hi],P6.em,rfl⟩,(((hF1.trans hF2).trans hF4).trans hF5).trans hF6⟩
  ·intro v V' w' hP hF5
   cases r with
   | bad k s'=>cases hP.1
   | ok x s' =>
    obtain⟨he,hm'⟩:=hP
    cases he
    rw[d4]
    obtain⟨gs,ns,ls,nd,P⟩:=mk hm'
    have hH5:=qJx hH4 (t:=33) (v:=.int .i64 x) (by decide)
    show wpOpsIn _ _ _ _ _ (List.range' 5 2++[]) _ w'
    rw[playde]
    refine(segE n89 v9 (v:=x) P).step hF5.le (qGS ⟨hH5.1,hH5.2⟩ (by
     intro x hx
     simp only[List.mem_cons,List.not_mem_nil,or_false]at hx
     rcases hx with rfl|rfl|rfl <;> rfl)) ?_
    rintro a6 w6 vs V6 hd6 hH6 ⟨rfl,P6⟩ hF6
    show wpL none 0 Tryz.prog _ (c45f++[.ret]) a6 w6
    refine(segF n89 v8 v9 P6).step hF6.le hH6 ?_
    rintro a7 w7 vs V7 hd7 hH7 ⟨rfl,P7⟩ hF7
    show Code.wpIn (qAy none) 0 Tryz.prog .ret _ a7 w7
    refine wpIn_ret ?_
    show LeavesIn (qAy none) 0 Tryz.prog _ _ _ a7.defers _ w7
    have hdf7:a7.defers=_:=(hd7.trans hd6).trans hdf
    rw[hdf7]
    refine⟨nofun,(fun h=>by simp[qAy,Fence.wide]at h),_,_,_,_,rfl,inv w7,fun _ _=>trivial,qHR (lateC n89 v9 P7 hF7.le (f:=0) (.inl ⟨rfl,rfl⟩)) ?_⟩
    rintro e u' w'' ⟨⟨v,rfl⟩,⟨V8,hF8,P8⟩,⟨-,rfl⟩|rfl⟩
    ·refine⟨_,qCV (hH7.get rfl) (hH7.get rfl) (hH7.get rfl) (hF8.le _ _ P8.at8) (hF8.le _ _ P8.at9),V8,.inr ⟨hc,p,0,.ok x s',by rw[hr,hi],P8.em,rfl⟩,((((((hF1.trans hF2).trans hF4).trans hF5).trans hF6).trans hF7).trans hF8)⟩
    ·refine⟨_,qCV (hH7.get rfl) (hH7.get rfl) (hH7.get rfl) (hF8.le _ _ P8.at8) (hF8.le _ _ P8.at9),V8,.inr ⟨hc,p,0,.ok x s',by rw[hr,hi],P8.em,rfl⟩,((((((hF1.trans hF2).trans hF4).trans hF5).trans hF6).trans hF7).trans hF8)⟩
  ·intro V' hP
   cases r with
   | ok v s'=>cases hP.1
   | bad k s'=>cases hP.1
 ·refine wpIn_cond_true (by rw[h20];simp[hc]) (qCE ?_)
  rw[playK_flat]
  refine(segB n89 f8 f9 s1 e8 e9).step hF1.le (qGS hH1 (by
   intro x hx
   simp only[List.mem_cons,List.not_mem_nil,or_false]at hx
   rcases hx with rfl|rfl|rfl <;> rfl)) ?_
  rintro a2 w2 vs V2 hd2 hH2 ⟨rfl,s2,e8',e9'⟩ hF2
  show Code.wpIn (qAy none) 0 Tryz.prog .ret _ a2 w2
  refine wpIn_ret ?_
  show LeavesIn (qAy none) 0 Tryz.prog _ _ _ a2.defers _ w2
  rw[hd2,hd1]
  exact⟨_,qCV (hH2.get rfl) (hH2.get rfl) (hH2.get rfl) (hF2.le _ _ e8') (hF2.le _ _ e9'),V2,.inl ⟨hc,s2,rfl⟩,hF1.trans hF2⟩
end
section
variable{V:Mem}{d:Ds}{F:Nat}{m m':Mm}{nm:ByteArray}{args:List Int}{l:Sl}
theorem values_plain(h:m.plain=m'.plain){t:List Fld}{vs:List Int}:qAf d m t vs=qAf d m' t vs:=by
 rw[Bool.eq_iff_iff]
 exact⟨fun k=>qAg (qCH h) k,fun k=>qAg (qCH h.symm) k⟩
theorem qGh(h:m.plain=m'.plain):qCn d m nm args=qCn d m' nm args:=by
 unfold qCn
 split
 ·rfl
 ·split
  ·rfl
  ·rw[values_plain h]
noncomputable def qAO(d:Ds)(m:Mm)(nm:ByteArray)(args:List Int)(F:Int):Int:=if qBs d m F=0 then qCn d m nm args else qBs d m F
theorem qEp{F:Int}(h:qBs d m F=0):qAo d m:=by
 unfold qBs at h
 split at h
 ·assumption
 ·cases h
theorem ok_copy(hm:Mm.Ok V m){V':Mem}{gs ns:Sl}{nd:List Nd}(L:Lay V V' gs ns qAv nd (qBG m)):Mm.Ok V' ⟨gs,m.globals,ns,nd⟩/\(⟨gs,m.globals,ns,nd⟩:Mm).plain=m.plain:=by
 have hp:(⟨gs,m.globals,ns,nd⟩:Mm).plain=m.plain:=by
  unfold Mm.plain
  rw[L.eq];rfl
 refine⟨⟨L.glob.rows (fun _=>rfl) (by decide),hm.gIn,L.nodes.rows (fun _=>rfl) (by decide),fun n hn=>?_⟩,hp⟩
 obtain⟨i,hi⟩:=List.mem_iff_getElem?.1 hn
 obtain⟨y,hy,e1,e2⟩:=qFm hp hi
 have hk:=hm.nodesOk y (List.mem_of_getElem? hy)
 exact⟨(L.fld n hn).rows (fun _=>rfl) (by decide),by rw[<- e1];exact hk.tyIn,by rw[<- e2];exact hk.vals⟩
def StartP(V:Mem)(d:Ds)(F:Nat)(m:Mm)(nm:ByteArray)(args:List Int):Ending->Mem->Prop:=fun e V' =>
 (qAO d m nm args F≠0/\V.sub V'/\e=.returned (.tuple #[.pointer none,.agg (qDv 0 0 0 0).toArray,.int .i64 (qAO d m nm args F)])) ∨
 (qAO d m nm args F=0/\∃p c,∃r:Rx Int,r=qCq d F (qDT d nm) args (qBG m)/\EM V d p F V' r.st c/\e=.returned (.tuple #[pv p,.agg (qDv (outC r) (outV r) r.st.cm (qCl r.st.lg)).toArray,.int .i64 0]))
theorem c48[Tab V](hd:Ds.Ok V d)(hm:Mm.Ok V m)(ha:qAc V l 1 (args.map qAn))(hF:F<=4000):Tri Tryz.prog 48 #[d.v,m.v,.agg #[.string nm,l.v],.int .i64 F] V (StartP V d F m nm args):=by
 refine x48 (R:=StartP V d F m nm args) ?_
 unfold w48
 refine(c43 hd hm).call ⟨_,rfl,fun h0=>?_,fun h0=>?_⟩
 ·have G:=qEp h0
  have hs:qAO d m nm args F=qCn d m nm args:=by unfold qAO;rw[if_pos h0]
  obtain⟨p1,p2,p3,p4,p5⟩:=qAt G.mem
  have h12:=lens12 G.valid
  refine Tri.mono (c44 hm (by have:=(qAz.1 p4).1;omega) p2 fun n hn=>?_) ?_
  ·have:=(qAz.1 (p5 n hn)).1
   have hty:=of_decide_eq_true (p3 n hn)
   obtain⟨j,hj⟩:∃j:Nat,n.ty=(j:Int):=⟨n.ty.toNat,by omega⟩
   have hjl:j<d.types.length:=by omega
   have hx:=List.getElem?_eq_getElem hjl
   rw[hj,qBu hx rfl]at this
   have:=h12.2 _ (List.getElem_mem hjl)
   omega
  rintro _ V1 ⟨gs,ns,nd,rfl,L⟩
  obtain⟨hm1,hp⟩:=ok_copy hm L
  have G1:qAo d ⟨gs,m.globals,ns,nd⟩:=⟨G.valid,G.chk,qCG hp.symm G.mem⟩
  have hst:qBG ⟨gs,m.globals,ns,nd⟩=qBG m:=by
   unfold qBG
   rw[show nd.map (fun n=>(n.ty,n.f))=m.nodes.map (fun n=>(n.ty,n.f)) from L.eq]
  have L1:Lay V V1 gs ns qAv nd (qBG ⟨gs,m.globals,ns,nd⟩):=by rw[hst];exact L
  refine⟨gs,ns,rfl,Tri.mono (c45 (m:=⟨gs,m.globals,ns,nd⟩) ⟨hd,G.valid,qGO G.valid G.chk,hF⟩ L1 hm1 G1 ha) ?_⟩
  have hcp:qCn d ⟨gs,m.globals,ns,nd⟩ nm args=qCn d m nm args:=qGh hp
  rintro e V2 (⟨hc,hs2,rfl⟩|⟨hc,p,c,r,hr,M,rfl⟩)
  ·rw[hcp]at hc ⊢
   exact⟨_,_,_,_,_,_,_,rfl,.inl ⟨by rw[hs];exact hc,L.sub.trans hs2,by rw[hs];rfl⟩⟩
  ·rw[hcp]at hc
   exact⟨_,_,_,_,_,_,_,rfl,.inr ⟨by rw[hs];exact hc,p,c,r,by rw[hr,hst],M,rfl⟩⟩
 ·have hs:qAO d m nm args F=qBs d m F:=by unfold qAO;rw[if_neg h0]
  exact .inl ⟨by rw[hs];exact h0,Mem.sub.refl _,by rw[hs];rfl⟩
def RunP(V:Mem)(d:Ds)(F:Nat)(m:Mm)(nm:ByteArray)(args:List Int):Ending->Mem->Prop:=fun e V' =>
 (qAO d m nm args F≠0/\V.sub V'/\e=.returned (.tuple #[.agg (qDv 0 0 0 0).toArray,.agg #[qAv.v,qAv.v],.int .i64 (qAO d m nm args F)])) ∨
 (qAO d m nm args F=0/\∃r:Rx Int,∃gs ns ls nd,r=qCq d F (qDT d nm) args (qBG m)/\Lay V V' gs ns ls nd r.st/\e=.returned (.tuple #[.agg (qDv (outC r) (outV r) r.st.cm (qCl r.st.lg)).toArray,.agg #[gs.v,ns.v],.int .i64 0]))
theorem c62[Tab V](hd:Ds.Ok V d)(hm:Mm.Ok V m)(ha:qAc V l 1 (args.map qAn))(hF:F<=4000):Tri Tryz.prog 62 #[d.v,m.v,.agg #[.string nm,l.v],.int .i64 F] V (RunP V d F m nm args):=by
 refine x62 (R:=RunP V d F m nm args) ?_
 unfold w62
 refine Tri.mono (c48 hd hm ha hF) ?_
 rintro e V1 (⟨hc,hs,rfl⟩|⟨hc,p,c,r,hr,M,rfl⟩)
 ·exact⟨_,_,_,_,_,_,_,rfl,fun h=>absurd h hc,fun _=>.inl ⟨hc,hs,rfl⟩⟩
 ·obtain⟨gs,ns,ls,nd,hat,L⟩:=M.ex
  exact⟨_,_,_,_,_,_,_,rfl,fun _=>⟨nn,nn,gs,ns,qAd hat 8 2 (by simp[qBE]),qAK hat 8 0 2 (by simp[qBE]),nn,nn,.inr ⟨hc,r,gs,ns,ls,nd,hr,L,rfl⟩⟩,fun h=>absurd rfl h⟩
def TraceP(V:Mem)(d:Ds)(F:Nat)(m:Mm)(nm:ByteArray)(args:List Int):Ending->Mem->Prop:=fun e V' =>
 (qAO d m nm args F≠0/\V.sub V'/\e=.returned (.tuple #[qAv.v,.int .i64 (qAO d m nm args F)])) ∨
 (qAO d m nm args F=0/\∃r:Rx Int,∃ls,r=qCq d F (qDT d nm) args (qBG m)/\Sx.Own V V' 98 3 ls (r.st.lg.flatMap qFK)/\e=.returned (.tuple #[ls.v,.int .i64 0]))
theorem c29[Tab V](hd:Ds.Ok V d)(hm:Mm.Ok V m)(ha:qAc V l 1 (args.map qAn))(hF:F<=4000):Tri Tryz.prog 29 #[d.v,m.v,.agg #[.string nm,l.v],.int .i64 F] V (TraceP V d F m nm args):=by
 refine x29 (R:=TraceP V d F m nm args) ?_
 unfold w29
 refine Tri.mono (c48 hd hm ha hF) ?_
 rintro e V1 (⟨hc,hs,rfl⟩|⟨hc,p,c,r,hr,M,rfl⟩)
 ·exact⟨_,_,_,_,_,_,_,rfl,fun h=>absurd h hc,fun _=>.inl ⟨hc,hs,rfl⟩⟩
 ·obtain⟨gs,ns,ls,nd,hat,L⟩:=M.ex
  exact⟨_,_,_,_,_,_,_,rfl,fun _=>⟨nn,nn,ls,qAd hat 14 1 (by simp[qBE]),.inr ⟨hc,r,ls,hr,L.log,rfl⟩⟩,fun h=>absurd rfl h⟩
end
theorem qEg{p q B X:Prop}(hX:(¬p∨¬q)->X)(hB:p->q->B):Br p (Br q B X) X:=⟨fun hp=>⟨fun hq=>hB hp hq,fun hq=>hX (.inr hq)⟩,fun hp=>hX (.inl hp)⟩
theorem take_eq{α:Type}{xs ys:List α}{i:Nat}{x y:α}(h:xs.take i=ys.take i)(hx:xs[i]?=some x)(hy:ys[i]?=some y)(e:x=y):xs.take (i+1)=ys.take (i+1):=by
 rw[List.take_add_one,List.take_add_one,h,hx,hy,e]
section
variable{V:Mem}{d:Ds}{m:Mm}
def RI(V:Mem):Ending->Mem->Prop:=fun e V'=>V=V'/\∃r:Int,e=.returned (.int .i64 r)/\-1<=r/\r<=2000
def RY(V:Mem):Ending->Mem->Prop:=fun e V'=>V=V'/\∃b:Bool,e=.returned (.bool b)
theorem RI.mk{r:Int}(h:-1<=r/\r<=2000):RI V (.returned (.int .i64 r)) V:=⟨rfl,r,rfl,h⟩
theorem RY.mk{b:Bool}:RY V (.returned (.bool b)) V:=⟨rfl,b,rfl⟩
theorem leftC:∀(k:Nat),k<=65->∀(e:E) (n:Int),E.Ok V e->-1<=n->n<=2000->Tri Tryz.prog 72 #[e.v,.int .i64 k,.int .i64 n] V (RI V):=by
 intro k
 induction k with
 | zero =>
  intro _ e n he h1 h2
  refine Tri.mono (x72 (R:=RI V) ?_) fun _ _ h=>h
  unfold w72
  exact⟨fun _=>.mk ⟨by omega,by omega⟩,fun _=>⟨fun _=>.mk ⟨by omega,by omega⟩,fun h=>absurd rfl h⟩⟩
 | succ k ih =>
  intro hk e n he h1 h2
  refine Tri.mono (x72 (R:=RI V) ?_) fun _ _ h=>h
  unfold w72
  refine⟨fun _=>.mk ⟨by omega,by omega⟩,fun h3=>⟨fun _=>.mk ⟨by omega,by omega⟩,fun _=>⟨fun _=>.mk ⟨by omega,by omega⟩,fun _=>⟨⟨by omega,by omega⟩,?_⟩⟩⟩⟩
  have h3:¬n<=0:=h3
  refine qGv (mk:=.int .i64) (b0:=n-1) qIc e.k.length (fun i a V1=>V=V1/\-1<=a/\a<=2000) ⟨rfl,by omega,by omega⟩ ?_
  rintro i a V1 J hi ⟨rfl,ha1,ha2⟩ hJ
  refine qEg (fun _=>.mk ⟨ha1,ha2⟩) (fun hlt hn=>?_)
  obtain⟨x,hxm,hx,-,hil,hp,hz,hrow⟩:=he.rows.get hlt
  refine⟨hp,hz,hlt,_,_,_,_,hrow,⟨by omega,by omega⟩,?_⟩
  rw[show ((k+1:Nat):Int)-1=(k:Int) by omega]
  refine Tri.mono (ih (by omega) x a (he.kids x hxm) ha1 ha2) ?_
  rintro _ _ ⟨rfl,r,rfl,h4⟩
  exact⟨_,rfl,he.rows.succ hlt,hJ hil _ _ ⟨rfl,h4⟩⟩
theorem leftAllC:∀(k:Nat),k<=65->∀(s:Sl) (xs:List S) (n:Int),qAc V s 5 (xs.map S.row)->(∀x∈xs,S.Ok V x)->-1<=n->n<=2000->Tri Tryz.prog 71 #[s.v,.int .i64 k,.int .i64 n] V (RI V):=by
 intro k
 induction k with
 | zero =>
  intro _ s xs n hr ho h1 h2
  refine Tri.mono (x71 (R:=RI V) ?_) fun _ _ h=>h
  unfold w71
  exact⟨fun _=>.mk ⟨by omega,by omega⟩,fun h=>absurd rfl h⟩
 | succ k ih =>
  intro hk s xs n hr ho h1 h2
  refine Tri.mono (x71 (R:=RI V) ?_) fun _ _ h=>h
  unfold w71
  refine⟨fun _=>.mk ⟨by omega,by omega⟩,fun _=>?_⟩
  refine qHv (mk:=.int .i64) (mc:=.int .i64) 0 n qIc xs.length (fun i a V1=>V=V1/\-1<=a/\a<=2000) ⟨rfl,h1,h2⟩ ?_
  rintro i b a V1 J hi ⟨rfl,ha1,ha2⟩ hJ
  refine qEg (fun _=>.mk ⟨ha1,ha2⟩) (fun hlt hn=>?_)
  have hn:0<=a:=hn
  obtain⟨x,hxm,hx,-,hil,hp,hz,hrow⟩:=hr.get hlt
  have hxo:=ho x hxm
  cases x with
  | mk op sn el es ll ls xl xs' =>
  cases hxo with
  | mk he hes hl hls hxr hxs hop =>
  have hq:=qAe (n:=i*5) hp
  have hsucc:=hr.succ hlt
  refine⟨⟨by omega,by omega⟩,hp,hz,hlt,hq,_,_,_,_,_,hrow,fun _=>.mk ⟨by omega,by omega⟩,fun _=>?_⟩
  refine qGv (mk:=.int .i64) (b0:=a-1) qIc es.length (fun j c V2=>V=V2/\-1<=c/\c<=2000) ⟨rfl,by omega,by omega⟩ ?_
  rintro j c V2 J1 hj ⟨rfl,hc1,hc2⟩ hJ1
  have ek:((k+1:Nat):Int)-1=(k:Int):=by omega
  refine⟨hp,hz,hlt,hq,_,_,_,_,_,hrow,qEg (fun _=>⟨fun hc=>⟨hp,hz,hlt,hq,_,_,_,_,_,hrow,⟨by omega,by omega⟩,?_⟩,fun hc=>⟨fun h=>absurd h hc,fun _=>⟨hsucc,hJ hil _ _ _ ⟨rfl,hc1,hc2⟩⟩⟩⟩) (fun hlt2 hc=>?_)⟩
  ·rw[ek]
   refine Tri.mono (ih (by omega) ll ls c hl hls hc1 hc2) ?_
   rintro _ _ ⟨rfl,r,rfl,h3⟩
   refine⟨_,rfl,fun hr0=>⟨hp,hz,hlt,hq,_,_,_,_,_,hrow,⟨by omega,by omega⟩,Tri.mono (ih (by omega) xl xs' r hxr hxs h3.1 h3.2) ?_⟩,fun _=>⟨hsucc,hJ hil _ _ _ ⟨rfl,h3⟩⟩⟩
   rintro _ _ ⟨rfl,r2,rfl,h4⟩
   exact⟨_,rfl,hsucc,hJ hil _ _ _ ⟨rfl,h4⟩⟩
  ·obtain⟨y,hym,hy,-,hjl,hpy,hzy,hrowy⟩:=he.get hlt2
   refine⟨hp,hz,hlt,hq,_,_,_,_,_,hrow,hpy,hzy,hlt2,_,_,_,_,hrowy,Tri.mono (leftC 65 (by omega) y c (hes y hym) hc1 hc2) ?_⟩
   rintro _ _ ⟨rfl,r,rfl,h3⟩
   exact⟨_,rfl,he.succ hlt2,hJ1 hjl _ _ ⟨rfl,h3⟩⟩
theorem wideC{l:Sl}{xs:List Fld}(hr:qAc V l 2 (xs.map Fld.row)):Tri Tryz.prog 70 #[l.v] V (RY V):=by
 refine Tri.mono (x70 (R:=RY V) ?_) fun _ _ h=>h
 unfold w70
 refine⟨fun _=>.mk,fun _=>qBe (mk:=.bool) (b0:=false) xs.length (fun i V1=>V=V1) rfl ?_⟩
 rintro i b V1 J hi rfl hJ
 refine⟨fun hlt=>?_,fun _=>.mk⟩
 obtain⟨x,hxm,hx,-,hil,hp,hz,hrow⟩:=hr.get hlt
 have hq:=qAe (n:=i*2) hp
 exact⟨hp,hz,hlt,hq,_,_,hrow,fun _=>.mk,fun _=>⟨hp,hz,hlt,hq,_,_,hrow,fun _=>.mk,fun _=>⟨hr.succ hlt,hJ hil _ _ rfl⟩⟩⟩
theorem overC(hd:Ds.Ok V d){n:Int}(h1:-1<=n)(h2:n<=2000):Tri Tryz.prog 46 #[d.v,.int .i64 n] V (RY V):=by
 refine Tri.mono (x46 (R:=RY V) ?_) fun _ _ h=>h
 unfold w46
 refine⟨fun _=>.mk,fun _=>⟨fun _=>.mk,fun _=>⟨fun _=>.mk,fun _=>⟨fun _=>.mk,fun _=>⟨fun _=>.mk,fun _=>⟨fun _=>.mk,fun _=>⟨fun _=>.mk,fun _=>Tri.mono (wideC hd.globals) ?_⟩⟩⟩⟩⟩⟩⟩
 rintro _ _ ⟨rfl,b,rfl⟩
 refine⟨_,rfl,fun _=>.mk,fun _=>qBe (mk:=.bool) (b0:=false) d.types.length (fun i V1=>V=V1) rfl ?_⟩
 rintro i b V1 J hi rfl hJ
 refine⟨fun hlt=>?_,fun _=>?_⟩
 ·obtain⟨x,hxm,hx,-,hil,hp,hz,hrow⟩:=hd.types.get hlt
  have hq:=qAe (n:=i*2) hp
  refine⟨hp,hz,hlt,hq,_,_,hrow,fun _=>.mk,fun _=>⟨hp,hz,hlt,hq,_,_,hrow,Tri.mono (wideC (hd.typesOk x hxm).fields) ?_⟩⟩
  rintro _ _ ⟨rfl,b,rfl⟩
  exact⟨_,rfl,fun _=>.mk,fun _=>⟨hd.types.succ hlt,hJ hil _ _ rfl⟩⟩
 refine qHv (mk:=.bool) (mc:=.int .i64) b n qIc d.procs.length (fun i a V1=>V=V1/\-1<=a/\a<=2000) ⟨rfl,h1,h2⟩ ?_
 rintro i b a V1 J hi ⟨rfl,ha1,ha2⟩ hJ
 refine qEg (fun _=>?_) (fun hlt hn=>?_)
 rotate_left
 ·obtain⟨x,hxm,hx,-,hil,hp,hz,hrow⟩:=hd.procs.get hlt
  have ho:=hd.procsOk x hxm
  refine⟨hp,hz,hlt,_,_,_,_,_,hrow,fun _=>.mk,fun _=>⟨fun _=>.mk,fun _=>Tri.mono (wideC ho.params) ?_⟩⟩
  rintro _ _ ⟨rfl,b1,rfl⟩
  refine⟨_,rfl,fun _=>.mk,fun _=>Tri.mono (wideC ho.locals) ?_⟩
  rintro _ _ ⟨rfl,b2,rfl⟩
  refine⟨_,rfl,fun _=>.mk,fun _=>Tri.mono (leftAllC 65 (by omega) x.bs x.body a ho.body ho.stmts ha1 ha2) ?_⟩
  rintro _ _ ⟨rfl,r,rfl,h3⟩
  exact⟨_,rfl,hd.procs.succ hlt,hJ hil _ _ _ ⟨rfl,h3⟩⟩
 refine qHv (mk:=.bool) (mc:=.int .i64) b a qIc d.measures.length (fun i a V1=>V=V1/\-1<=a/\a<=2000) ⟨rfl,ha1,ha2⟩ ?_
 clear hJ
 rintro i b a V1 J hi ⟨rfl,ha1,ha2⟩ hJ
 refine qEg (fun _=>?_) (fun hlt hn=>?_)
 rotate_left
 ·obtain⟨x,hxm,hx,-,hil,hp,hz,hrow⟩:=hd.measures.get hlt
  have hq:=qAe (n:=i*7) hp
  refine⟨hp,hz,hlt,hq,_,_,_,_,_,_,_,hrow,fun _=>.mk,fun _=>⟨hp,hz,hlt,hq,_,_,_,_,_,_,_,hrow,fun _=>.mk,fun _=>⟨hp,hz,hlt,hq,_,_,_,_,_,_,_,hrow,Tri.mono (leftC 65 (by omega) x.x a (hd.measuresOk x hxm).x ha1 ha2) ?_⟩⟩⟩
  rintro _ _ ⟨rfl,r,rfl,h3⟩
  exact⟨_,rfl,hd.measures.succ hlt,hJ hil _ _ _ ⟨rfl,h3⟩⟩
 refine qHv (mk:=.bool) (mc:=.int .i64) b a qIc d.invs.length (fun i a V1=>V=V1/\-1<=a/\a<=2000) ⟨rfl,ha1,ha2⟩ ?_
 clear hJ
 rintro i b a V1 J hi ⟨rfl,ha1,ha2⟩ hJ
 refine qEg (fun _=>?_) (fun hlt hn=>?_)
 rotate_left
 ·obtain⟨x,hxm,hx,-,hil,hp,hz,hrow⟩:=hd.invs.get hlt
  have hq:=qAe (n:=i*6) hp
  refine⟨hp,hz,hlt,hq,_,_,_,_,_,_,hrow,fun _=>.mk,fun _=>⟨hp,hz,hlt,hq,_,_,_,_,_,_,hrow,fun _=>.mk,fun _=>⟨hp,hz,hlt,hq,_,_,_,_,_,_,hrow,Tri.mono (leftC 65 (by omega) x.x a (hd.invsOk x hxm) ha1 ha2) ?_⟩⟩⟩
  rintro _ _ ⟨rfl,r,rfl,h3⟩
  exact⟨_,rfl,hd.invs.succ hlt,hJ hil _ _ _ ⟨rfl,h3⟩⟩
 refine qHv (mk:=.bool) (mc:=.int .i64) b a qIc d.pots.length (fun i a V1=>V=V1/\-1<=a/\a<=2000) ⟨rfl,ha1,ha2⟩ ?_
 clear hJ
 rintro i b a V1 J hi ⟨rfl,ha1,ha2⟩ hJ
 refine qEg (fun _=>?_) (fun hlt hn=>?_)
 rotate_left
 ·obtain⟨x,hxm,hx,-,hil,hp,hz,hrow⟩:=hd.pots.get hlt
  have hq:=qAe (n:=i*5) hp
  refine⟨hp,hz,hlt,hq,_,_,_,_,_,hrow,fun _=>.mk,fun _=>⟨hp,hz,hlt,hq,_,_,_,_,_,hrow,Tri.mono (leftC 65 (by omega) x.x a (hd.potsOk x hxm) ha1 ha2) ?_⟩⟩
  rintro _ _ ⟨rfl,r,rfl,h3⟩
  exact⟨_,rfl,hd.pots.succ hlt,hJ hil _ _ _ ⟨rfl,h3⟩⟩
 refine qHv (mk:=.bool) (mc:=.int .i64) b a qIc d.bounds.length (fun i a V1=>V=V1/\-1<=a/\a<=2000) ⟨rfl,ha1,ha2⟩ ?_
 clear hJ
 rintro i b a V1 J hi ⟨rfl,ha1,ha2⟩ hJ
 refine qEg (fun _=>.mk) (fun hlt hn=>?_)
 obtain⟨x,hxm,hx,-,hil,hp,hz,hrow⟩:=hd.bounds.get hlt
 have hq:=qAe (n:=i*5) hp
 refine⟨hp,hz,hlt,hq,_,_,_,_,_,hrow,fun _=>.mk,fun _=>⟨hp,hz,hlt,hq,_,_,_,_,_,hrow,Tri.mono (leftC 65 (by omega) x.x a (hd.boundsOk x hxm) ha1 ha2) ?_⟩⟩
 rintro _ _ ⟨rfl,r,rfl,h3⟩
 exact⟨_,rfl,hd.bounds.succ hlt,hJ hil _ _ _ ⟨rfl,h3⟩⟩
theorem greatC(hd:Ds.Ok V d):Tri Tryz.prog 25 #[d.v] V (RY V):=by
 refine Tri.mono (x25 (R:=RY V) ?_) fun _ _ h=>h
 unfold w25
 refine Tri.mono (overC hd (n:=2000) (by omega) (by omega)) ?_
 rintro _ _ ⟨rfl,b,rfl⟩
 exact⟨_,rfl,.mk⟩
theorem manyC(hm:Mm.Ok V m):Tri Tryz.prog 26 #[m.v] V (RY V):=by
 refine Tri.mono (x26 (R:=RY V) ?_) fun _ _ h=>h
 unfold w26
 refine⟨fun _=>.mk,fun _=>⟨fun _=>.mk,fun _=>qBe (mk:=.bool) (b0:=false) m.nodes.length (fun i V1=>V=V1) rfl ?_⟩⟩
 rintro i b V1 J hi rfl hJ
 refine⟨fun hlt=>?_,fun _=>.mk⟩
 obtain⟨x,hxm,hx,-,hil,hp,hz,hrow⟩:=hm.nodes.get hlt
 exact⟨hp,hz,hlt,qAe hp,_,_,hrow,fun _=>.mk,fun _=>⟨hm.nodes.succ hlt,hJ hil _ _ rfl⟩⟩
theorem c42{s t:Sl}{xs ys:List Int}(h:qAc V s 1 (xs.map qAn))(k:qAc V t 1 (ys.map qAn)):PP 42 [.slice s.p s.n s.c,.slice t.p t.n t.c] V (.bool (decide (xs=ys))):=by
 refine x42 ?_
 unfold w42
 have n1:=h.n_eq
 have n2:=k.n_eq
 refine⟨fun hl=>?_,fun hl=>?_⟩
 ·refine qBe (mk:=.bool) (b0:=false) xs.length (fun i V1=>V=V1/\xs.take i=ys.take i) ⟨rfl,rfl⟩ ?_
  rintro i b V1 J hi ⟨rfl,he⟩ hJ
  refine⟨fun hlt=>?_,fun hge=>?_⟩
  ·obtain⟨x,hxm,hx,-,hil,hp,hz,hrow⟩:=h.get hlt
   obtain⟨y,hym,hy,-,hjl,hp2,hz2,hrow2⟩:=k.get (i:=i) (by omega)
   refine⟨hp,hz,hlt,_,hrow,hp2,hz2,by omega,_,hrow2,fun hE=>⟨h.succ hlt,hJ hil _ _ ⟨rfl,take_eq he hx hy hE⟩⟩,fun hE=>?_⟩
   rw[decide_eq_false fun e=>?_]
   ·exact⟨rfl,rfl⟩
   ·rw[e,hy]at hx;cases hx;exact hE rfl
  ·have hd:=(h.done hge).2
   rw[List.take_of_length_le hd,List.take_of_length_le (by omega)]at he
   rw[decide_eq_true he];exact⟨rfl,rfl⟩
 ·rw[decide_eq_false fun e=>hl (by rw[n1,n2,e])];exact⟨rfl,rfl⟩
theorem plain_ext{a b:Mm}(hg:a.globals=b.globals)(hn:(a.nodes.map fun n=>(n.ty,n.f))=b.nodes.map fun n=>(n.ty,n.f)):a.plain=b.plain:=by unfold Mm.plain;rw[hg,hn]
instance:DecidableEq (List Int×List (Int×List Int)):=inferInstance
theorem c22{a b:Mm}(ha:Mm.Ok V a)(hb:Mm.Ok V b):PP 22 [a.v,b.v] V (.bool (decide (a.plain=b.plain))):=by
 refine x22 ?_
 unfold w22
 have n1:=ha.nodes.n_eq
 have n2:=hb.nodes.n_eq
 have no:a.plain≠b.plain->(Ending.returned (.bool false)=.returned (.bool (decide (a.plain=b.plain)))/\V=V):=fun h=>⟨by rw[decide_eq_false h],rfl⟩
 refine(c42 ha.globals hb.globals).call ⟨_,rfl,fun hg=>?_,fun hg=>no fun e=>hg (decide_eq_true (Prod.mk.inj e).1)⟩
 have hg:=of_decide_eq_true hg
 refine⟨fun hl=>?_,fun hl=>no fun e=>hl (by rw[n1,n2,qHq e])⟩
 refine qBe (mk:=.bool) (b0:=false) a.nodes.length (fun i V1=>V=V1/\(a.nodes.map fun n=>(n.ty,n.f)).take i=(b.nodes.map fun n=>(n.ty,n.f)).take i) ⟨rfl,rfl⟩ ?_
 rintro i b0 V1 J hi ⟨rfl,he⟩ hJ
 refine⟨fun hlt=>?_,fun hge=>?_⟩
 ·obtain⟨x,hxm,hx,-,hil,hp,hz,hrow⟩:=ha.nodes.get hlt
  obtain⟨y,hym,hy,-,hjl,hp2,hz2,hrow2⟩:=hb.nodes.get (i:=i) (by omega)
  have l2:(i:Int)<(b.ns.n:Int):=by omega
  have hx':(a.nodes.map fun n=>(n.ty,n.f))[i]?=some (x.ty,x.f):=by rw[List.getElem?_map,hx];rfl
  have hy':(b.nodes.map fun n=>(n.ty,n.f))[i]?=some (y.ty,y.f):=by rw[List.getElem?_map,hy];rfl
  have bad:(x.ty,x.f)≠(y.ty,y.f)->a.plain≠b.plain:=fun h e=>h (by rw[show (a.nodes.map fun n=>(n.ty,n.f))=b.nodes.map fun n=>(n.ty,n.f) from (Prod.mk.inj e).2,hy']at hx';exact(Option.some.inj hx').symm)
  refine⟨hp,hz,hlt,qAe hp,_,_,hrow,hp2,hz2,l2,qAe hp2,_,_,hrow2,fun ht=>⟨hp,hz,hlt,qAe hp,_,_,hrow,hp2,hz2,l2,qAe hp2,_,_,hrow2,(c42 (ha.nodesOk x hxm).rows (hb.nodesOk y hym).rows).call ⟨_,rfl,fun hf=>⟨ha.nodes.succ hlt,hJ hil _ _ ⟨rfl,take_eq he hx' hy' (Prod.ext ht (of_decide_eq_true hf))⟩⟩,fun hf=>no (bad fun e=>hf (decide_eq_true (Prod.mk.inj e).2))⟩⟩,fun ht=>no (bad fun e=>ht (Prod.mk.inj e).1)⟩
 ·have hd:=(ha.nodes.done hge).2
  rw[List.take_of_length_le (by rw[List.length_map];exact hd),List.take_of_length_le (by rw[List.length_map];omega)]at he
  exact⟨by rw[decide_eq_true (plain_ext hg he)],rfl⟩
end
def awN:ByteArray:=qAq [110]
def awK:ByteArray:=qAq [107]
def awI:ByteArray:=qAq [105,110,116]
def awE(l:Sl):E:=.mk 9 0 (qAq []) l [.mk 4 0 awN qAv [],.mk 4 0 awK qAv []]
section
variable{gs pr ps bs l1 l2 l3 g:Sl}
end
theorem qIY{d:Ds}{m:Mm}{nm:ByteArray}{args:List Int}{F:Int}(G:qAo d m)(h:0<=F/\F<=1048576):qAO d m nm args F=qCn d m nm args:=by
 have:qBs d m F=0:=by unfold qBs;rw[if_pos G,if_neg (by omega),if_neg (by omega)]
 unfold qAO;rw[if_pos this]
section
variable{V:Mem}
def qIN(b n:Nat):Sl:=⟨some ⟨b,0,none⟩,n,n⟩
theorem nameOk{V:Mem}{s:ByteArray}:E.Ok V (.mk 4 0 s qAv []):=.mk qAc.nil (by simp) (by decide) (by decide)
end
section
variable{V V0:Mem}{d:Ds}{F:Nat}{m:Mm}{nm:ByteArray}{args:List Int}{l:Sl}
theorem qIp{F:Int}(h:qAO d m nm args F=0):qAo d m/\qCn d m nm args=0:=by
 unfold qAO at h
 split at h
 ·exact⟨qEp (by assumption),h⟩
 ·rename_i hn;exact absurd h hn
end
section
variable{V V0:Mem}{d:Ds}{F:Nat}{m:Mm}{nm:ByteArray}{args:List Int}{l:Sl}
theorem qDZ(hd:Ds.Ok V d){V':Mem}{gs ns ls:Sl}{nd:List Nd}{s:St}(L:Lay V V' gs ns ls nd s)(hg:qAo d s.mm):Mm.Ok V' ⟨gs,s.g,ns,nd⟩/\(⟨gs,s.g,ns,nd⟩:Mm).plain=(s.g,s.ns):=by
 have hp:(⟨gs,s.g,ns,nd⟩:Mm).plain=(s.g,s.ns):=by
  unfold Mm.plain
  rw[<- L.eq]
 obtain⟨p1,p2,p3,p4,p5⟩:=qAt hg.mem
 have vi:∀{t:List Fld} {vs:List Int},qAf d s.mm t vs=true->∀v∈vs,inI v:=fun {t vs} h v hv=>by
  obtain⟨j,hj⟩:=List.mem_iff_getElem?.1 hv
  obtain⟨hl,hk⟩:=qAz.1 h
  have hjl:=(List.getElem?_eq_some_iff.1 hj).1
  have:=hk j _ v (List.getElem?_eq_getElem (by omega)) hj
  unfold qAs at this
  unfold inI
  split at this
  ·have:=of_decide_eq_true this;omega
  ·split at this
   ·have:=of_decide_eq_true this;omega
   ·have:=of_decide_eq_true this
    omega
 refine⟨⟨L.glob.rows (fun _=>rfl) (by decide),vi p4,L.nodes.rows (fun _=>rfl) (by decide),fun n hn=>?_⟩,hp⟩
 have hmem:(⟨n.ty,qAv,n.f⟩:Nd)∈s.mm.nodes:=by
  unfold St.mm
  rw[<- L.eq]
  simp only[List.map_map]
  exact List.mem_map.2 ⟨n,hn,rfl⟩
 refine⟨(L.fld n hn).rows (fun _=>rfl) (by decide),?_,vi (p5 ⟨n.ty,qAv,n.f⟩ hmem)⟩
 have:=of_decide_eq_true (p3 ⟨n.ty,qAv,n.f⟩ hmem)
 have hl:d.types.length<=9223372036854775807:=by
  have:=hd.types.n_eq;have:=hd.types.cap;have:=hd.types.fit;omega
 unfold inI
 simp only at this
 omega
theorem play_good(G:qAo d m)(hc:qCn d m nm args=0):qAo d (qCq d F (qDT d nm) args (qBG m)).st.mm:=by
 obtain⟨i,q,hi,hq,hval⟩:=qHP hc
 rw[hi]
 exact(play_snd (F:=F) (qGO G.valid G.chk) hq (qJy G) (qAg (qCH (qEl m).symm) hval)).good
end
end Go.Proofs
