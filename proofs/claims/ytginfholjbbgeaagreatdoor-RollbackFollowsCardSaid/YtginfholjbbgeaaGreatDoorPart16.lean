/- Part 16 of a proof of a law of this seat: no statement of the seat is proved here. -/
import Derived.Test.YtginfholjbbgeaaGreatDoorPart15
import Derived.ProofKit
import Derived.Test.YtginfholjbbgeaaGreatDoorRows
import Derived.Lib.LaidIn
import Derived.Lib.LaidTab
import Derived.Handed
set_option linter.unusedVariables false
set_option linter.unusedSimpArgs false
namespace Go.Proofs
open Go Go.Sx
attribute [local irreducible] Go.Sx.Tri
theorem lookup_mem{s:Nat}{v:Value}:∀{l:List (Nat×Value)},l.lookup s=some v->(s,v)∈l
 | [],h=>by cases h
 | (t,u)::l,h=>by
  rw[List.lookup_cons]at h
  split at h
  ·rename_i e
   simp only[beq_iff_eq]at e
   subst e;cases h;exact List.mem_cons_self
  ·exact List.mem_cons_of_mem _ (lookup_mem h)
theorem qHE{N:Nat}{a:Act}{l l':List (Nat×Value)}(h:Has N a l)(hl:∀x∈l',l.lookup x.1=some x.2):Has N a l':=⟨h.1,fun s v hs=>h.2 s v (hl (s,v) (lookup_mem hs))⟩
noncomputable def qEK:Call:=match ((c45d).getD 4 dOp).op with | .call c=>c|_=>{ callee:=.value (.tmp 0),args:=#[],argTypes:=#[] }
noncomputable def playFv:Operand:=match qEK.callee with | .value f=>f|_=>.tmp 0
theorem playCall_op:((c45d).getD 4 dOp).op=.call qEK:=by kernel_rfl
theorem playCall_fv:qEK.callee=.value playFv:=by kernel_rfl
theorem qJY:qEK.args=#[.tmp 29,.tmp 30,.tmp 32]:=by kernel_rfl
theorem playFv_eval(a:Act):a.eval playFv=.func (.func 69) #[] #[]:=by kernel_rfl
theorem free{V U:Mem}(hs:V.sub U){b:Nat}(h:U b=none):V b=none:=by
 cases hc:V b with
 | none=>rfl
 | some o=>rw[hs _ _ hc]at h;cases h
section
variable{V0 V:Mem}{d:Ds}{F:Nat}{m:Mm}{nm:ByteArray}{args:List Int}{l:Sl}{b4 b5 b6 b8 b9 b11 p c:Nat}{gs ns ls:Sl}{nd:List Nd}{s:St}{a1:Int}{pr:Pr}{er:Int}
theorem segA(hd:Ds.Ok V d)(hm:Mm.Ok V m)(G:qAs d m)(ha:qAd V l 1 (args.map qAo))(hpr:pr=if qCN d m nm args=0 then (d.procs[(qDJ d nm).toNat]?).getD noPr else noPr) :
  Seg Tryz.prog 37 c45a [(0,d.v),(1,m.v),(2,.agg #[.string nm,l.v]),(3,.int .i64 F)] [3,4,5,6,8,9,10,11,20] V fun vs V1=>∃b4 b5 b6 b8 b9 b11:Nat,vs=[.int .i64 F,pv b4,pv b5,pv b6,pv b8,pv b9,.int .i64 (qCN d m nm args),pv b11,.bool (!(decide (qCN d m nm args=0)))] /\
   V.sub V1/\V b8=none/\V b9=none/\b8≠b9/\V1 b4=some (.cells d.row.toArray 30 (0,0))/\V1 b5=some (.cells m.row.toArray 34 (0,0))/\V1 b6=some (.cells #[.string nm,l.v] 48 (0,0))/\V1 b8=some (cell (.pointer none) 107)/\V1 b9=some (.cells (qCZ 0 0 0 0).toArray 54 (0,0))/\V1 b11=some (.cells pr.row.toArray 121 (0,0)):=by
 have hc:=c67 hd hm G ha (nm:=nm)
 rw[<- hpr]at hc
 refine s45a (a:=d.name) (b:=d.ts) (c:=d.gs) (d:=d.ps) (g:=d.ms) (i:=d.is) (j:=d.qs) (k:=d.bs) (l:=m.gs) (o:=m.ns) (p:=nm) (q:=l) (r:=F) ?_
 unfold w45a
 refine hc.call ⟨_,_,_,_,_,_,rfl,fun b4 h4 b5 h5 b6 h6 b8 h8 b9 h9 b11 h11=>?_⟩
 have s4:=fun o=>Mem.sub_new h4 o
 have s5:=fun o=>Mem.sub_new h5 o
 have s6:=fun o=>Mem.sub_new h6 o
 have s8:=fun o=>Mem.sub_new h8 o
 have s9:=fun o=>Mem.sub_new h9 o
 have s11:=fun o=>Mem.sub_new h11 o
 refine⟨_,rfl,b4,b5,b6,b8,b9,b11,rfl,(s4 _).trans ((s5 _).trans ((s6 _).trans ((s8 _).trans ((s9 _).trans (s11 _))))),free ((s4 _).trans ((s5 _).trans (s6 _))) h8,free ((s4 _).trans ((s5 _).trans ((s6 _).trans (s8 _)))) h9,fun e=>?_,?_,?_,?_,?_,?_,Mem.set_same _ _ _⟩
 ·grind [Mem.set_same]
 ·exact((s5 _).trans ((s6 _).trans ((s8 _).trans ((s9 _).trans (s11 _))))) _ _ mss
 ·exact((s6 _).trans ((s8 _).trans ((s9 _).trans (s11 _)))) _ _ mss
 ·exact((s8 _).trans ((s9 _).trans (s11 _))) _ _ mss
 ·exact((s9 _).trans (s11 _)) _ _ mss
 ·exact(s11 _) _ _ mss
theorem segB(n89:b8≠b9)(v8:V0 b8=none)(v9:V0 b9=none)(hs:V0.sub V)(e8:V b8=some (cell (.pointer none) 107))(e9:V b9=some (.cells (qCZ 0 0 0 0).toArray 54 (0,0))) :
  Seg Tryz.prog 37 c45b [(8,pv b8),(9,pv b9),(10,.int .i64 er)] [8,9,10] V fun vs V1=>vs=[pv b8,pv b9,.int .i64 er]/\V0.sub V1/\V1 b8=some (cell (.pointer none) 107)/\V1 b9=some (.cells (qCZ 0 0 0 0).toArray 54 (0,0)):=by
 refine s45b (a:=some ⟨b8,0,none⟩) (b:=some ⟨b9,0,none⟩) (c:=er) ?_
 unfold w45b
 refine StT.cell e8 ?_
 show StT (qAa (sa b9) 0) 0 _ _ _
 refine StT.at2 (off:=0) (by rw[Mem.set_ne n89.symm];exact e9) (by simp[qCZ]) ⟨_,rfl,rfl,(hs.set v8 _).set v9 _,by rw[Mem.set_ne n89,Mem.set_same],by rw[Mem.set_same];simp[qCZ]⟩
theorem segC(e4:V b4=some (.cells d.row.toArray 30 (0,0)))(e5:V b5=some (.cells m.row.toArray 34 (0,0)))(e8:V b8=some (cell (.pointer none) 107)) :
  Seg Tryz.prog 37 c45c [(3,.int .i64 F),(4,pv b4),(5,pv b5),(6,pv b6),(8,pv b8),(9,pv b9),(10,.int .i64 er),(11,pv b11)] [6,8,9,10,11] V fun vs V1 =>
   vs=[pv b6,pv b8,pv b9,.int .i64 er,pv b11]/\∃p,V p=none/\V1=(V.set p (.cells (qBQ d F ((0:Nat):Int) ((0:Nat):Int) ((0:Nat):Int) m.gs m.ns qAt).toArray 111 (0,0))).set b8 (cell (pv p) 107):=by
 refine s45c (a:=F) (b:=some ⟨b4,0,none⟩) (c:=some ⟨b5,0,none⟩) (d:=some ⟨b6,0,none⟩) (g:=some ⟨b8,0,none⟩) (i:=some ⟨b9,0,none⟩) (j:=er) (k:=some ⟨b11,0,none⟩) ?_
 unfold w45c
 refine⟨_,_,_,_,_,_,_,_,qAc e4 0 8 (by simp[Ds.row]),_,_,qAc e5 0 2 (by simp[Mm.row]),fun p hp=>?_⟩
 have hne:b8≠p:=fun e=>by simp_all
 exact StT.cell (by rw[Mem.set_ne hne];exact e8) ⟨_,rfl,rfl,p,hp,rfl⟩
theorem segD(e6:V b6=some (.cells #[.string nm,l.v] 48 (0,0)))(e8:V b8=some (cell (pv p) 107))(e11:V b11=some (.cells pr.row.toArray 121 (0,0))) :
  SegO Tryz.prog 37 c45d 0 4 [(6,pv b6),(8,pv b8),(9,pv b9),(10,.int .i64 er),(11,pv b11)] [8,9,10,29,30,32] V fun vs V1 =>
   vs=[pv b8,pv b9,.int .i64 er,pv p,pr.v,l.v]/\V1=V:=by
 refine s45d (a:=some ⟨b6,0,none⟩) (b:=some ⟨b8,0,none⟩) (c:=some ⟨b9,0,none⟩) (d:=er) (g:=some ⟨b11,0,none⟩) ?_
 unfold w45d
 exact⟨_,qBG e8,_,_,_,_,_,qAc e11 0 5 (by simp[Pr.row]),nn,l,qAc e6 1 1 (by simp),_,rfl,rfl,rfl⟩
theorem segE(n89:b8≠b9)(v9:V0 b9=none){v:Int}(P:PM V0 d p F b8 b9 gs ns ls nd V s c 0 0 0 0) :
  SegO Tryz.prog 37 c45e 5 2 [(8,pv b8),(9,pv b9),(33,.int .i64 v)] [8,9] V fun vs V1=>vs=[pv b8,pv b9]/\PM V0 d p F b8 b9 gs ns ls nd V1 s c 0 v 0 0:=by
 refine s45e (a:=some ⟨b8,0,none⟩) (b:=some ⟨b9,0,none⟩) (c:=v) ?_
 unfold w45e
 exact⟨nn,StT.at2 (off:=1) P.at9 (by simp[qCZ]) ⟨_,rfl,rfl,P.set9 n89 v9 (by simp[qCZ])⟩⟩
theorem segF(n89:b8≠b9)(v8:V0 b8=none)(v9:V0 b9=none)(P:PM V0 d p F b8 b9 gs ns ls nd V s c 0 a1 0 0) :
  Seg Tryz.prog 37 c45f [(8,pv b8),(9,pv b9)] [8,9,10] V fun vs V1=>vs=[pv b8,pv b9,.int .i64 0]/\PM V0 d p F b8 b9 gs ns ls nd V1 s c 0 a1 0 0:=by
 refine s45f (a:=some ⟨b8,0,none⟩) (b:=some ⟨b9,0,none⟩) ?_
 unfold w45f
 have P1:=P.set8 n89 v8 (x:=#[pv p]) rfl
 refine⟨_,qBG P.at8,_,_,_,_,_,qAc P.at9 0 5 (by simp[qCZ]),StT.cell P.at8 ⟨qAc P1.at9 0 5 (by simp[qCZ]),?_⟩⟩
 show StT (qAa (sa b9) 0) 0 _ _ _
 exact StT.at2 (off:=0) P1.at9 (by simp[qCZ]) ⟨_,rfl,rfl,P1.set9 n89 v9 (by simp[qCZ])⟩
end
section
variable{V0 V:Mem}{d:Ds}{F:Nat}{m:Mm}{nm:ByteArray}{args:List Int}{l:Sl}
theorem c45(S:ES V0 d F)(L:Lay V0 V m.gs m.ns qAt m.nodes (qDM m))(hm:Mm.Ok V m)(G:qAs d m)(ha:qAd V0 l 1 (args.map qAo)) :
  Tri Tryz.prog 45 #[d.v,m.v,.agg #[.string nm,l.v],.int .i64 F] V (PlayP V0 d F m nm args V):=by
 unfold Go.Sx.Tri
 intro w hV
 refine(callsIn_wide (n:=0)).1 (callsIn_of_wp_defers (F:=qAG none) Tryz.func45 (c:=qAp Tryz.f45) (by kernel_rfl) trivial (qCP ?_) rfl)
 rw[play_flat]
 obtain⟨pr,hpr⟩:∃pr,pr=if qCN d m nm args=0 then (d.procs[(qDJ d nm).toNat]?).getD noPr else noPr:=⟨_,rfl⟩
 refine(segA (F:=F) (S.ds.sub L.sub) hm G (ha.sub L.sub) hpr).step hV (qFZ (args:=[d.v,m.v,.agg #[.string nm,l.v],.int .i64 F]) (N:=37) (by simp)) ?_
 rintro a1 w1 vs V1 hd1 hH1 ⟨b4,b5,b6,b8,b9,b11,rfl,s1,f8,f9,n89,e4,e5,e6,e8,e9,e11⟩ hF1
 have v8:=free L.sub f8
 have v9:=free L.sub f9
 have h20:a1.eval (.tmp 20)=.bool (!(decide (qCN d m nm args=0))):=hH1.get rfl
 show Code.wpIn (qAG none) 0 Tryz.prog playI _ a1 w1
 rw[playI_eq]
 by_cases hc:qCN d m nm args=0
 ·refine wpIn_cond_false (by grind) (wpIn_skip ?_)
  show wpL none 0 Tryz.prog _ (c45c++qIS::playR::(c45f++[.ret])) a1 w1
  refine(segC (F:=F) (m:=m) e4 e5 e8).step hF1.le (qHE hH1 (by
   intro x hx
   simp only[List.mem_cons,List.not_mem_nil,or_false]at hx
   rcases hx with rfl|rfl|rfl|rfl|rfl|rfl|rfl|rfl <;> rfl)) ?_
  rintro a2 w2 vs V2 hd2 hH2 ⟨rfl,p,hp,hV2⟩ hF2
  have hp8:b8≠p:=fun e=>by simp_all
  have s2:V1.sub (V1.set p (.cells (qBQ d F ((0:Nat):Int) ((0:Nat):Int) ((0:Nat):Int) m.gs m.ns qAt).toArray 111 (0,0))):=Mem.sub_new hp _
  have L1:=(L.grow s1).grow s2
  have L2:Lay V0 V2 m.gs m.ns qAt m.nodes (qDM m):=by
   rw[hV2]
   exact L1.put (qKJ (s2 _ _ e8) (by unfold NT;decide)) v8 _
  have p0:V0 p=none:=free (L.sub.trans s1) hp
  obtain⟨W,w0,wp,wV,LW,hW⟩:=L2.base p0
  have hat:V2 p=some (.cells (qBQ d F ((0:Nat):Int) ((0:Nat):Int) ((0:Nat):Int) m.gs m.ns qAt).toArray 111 (0,0)):=by rw[hV2,Mem.set_ne hp8.symm,Mem.set_same]
  have keep:∀{b:Nat} {o:Obj},V1 b=some o->b≠b8->V2 b=some o:=fun {b o} hb hne=>by rw[hV2,Mem.set_ne hne];exact s2 _ _ hb
  have e8':V2 b8=some (cell (pv p) 107):=by rw[hV2,Mem.set_same]
  have n6:b6≠b8:=fun e=>by simp_all
  have n11:b11≠b8:=fun e=>by simp_all
  have e9':=keep e9 n89.symm
  have hp9:b9≠p:=fun e=>by simp_all
  have W8:W b8=some (cell (pv p) 107):=hW _ _ e8' hp8 (qKJ e8' (by unfold NT;decide))
  have W9:W b9=some (.cells (qCZ 0 0 0 0).toArray 54 (0,0)):=hW _ _ e9' hp9 (qKJ e9' (by unfold NT;decide))
  have MW:EM W d p F V2 (qDM m) 0:=⟨wp,m.gs,m.ns,qAt,m.nodes,hat,LW⟩
  obtain⟨i,q,hi,hq,hval⟩:=qID hc
  have hpq:pr=q:=by simp_all
  have hG:=good_st G
  have hvs:qAj d (qDM m).mm q.params args=true:=qAm (qDN (qEH m).symm) hval
  obtain⟨r,hr⟩:∃r:Rx Int,r=qCn d F (i:Int) args (qDM m):=⟨_,rfl⟩
  have H:Tri Tryz.prog 69 #[pv p,pr.v,l.v] V2 (PX W d p F 0 r):=by
   rw[hr,hpq]
   exact runC (allC d p F (F+1)) W V2 (qDM m) 0 i q args l (S.sub w0) hq hG hvs (ha.sub w0) MW (Nat.zero_le _) (by omega) (by unfold BW;show 0+0+0<=_;omega)
  -- the deferred function is put aside
  show Code.wpIn (qAG none) 0 Tryz.prog qIS _ a2 w2
  rw[playD_eq]
  refine wpIn_region ?_
  show wpOpsIn _ _ _ _ _ [0,1] _ _
  refine Go.Sx.step_value (o:=(qEY qIS).getD 0 dOp) rfl (by kernel_rfl) (run_makeFunc (f:=.func 68) (first:=#[]) (caps:=#[.tmp 9,.tmp 8]) (by kernel_rfl)) ?_
  have g8:a2.eval (.tmp 8)=pv b8:=hH2.get rfl
  have g9:a2.eval (.tmp 9)=pv b9:=hH2.get rfl
  have hd0:((qEY qIS).getD 0 dOp).dst=some 28:=by kernel_rfl
  have hd1':((qEY qIS).getD 1 dOp).dst=none:=by kernel_rfl
  rw[hd0,show (#[Operand.tmp 9,.tmp 8].map a2.eval)=#[pv b9,pv b8] by simp[g8,g9],show ((#[]:Array Operand).map a2.eval)=#[] by simp]
  have hH3:=qKq hH2 (t:=28) (v:=.func (.func 68) #[] #[pv b9,pv b8]) (by decide)
  refine Go.Sx.step_defer (o:=(qEY qIS).getD 1 dOp) rfl (by kernel_rfl) (run_deferv (c:={ callee:=.value (.tmp 28),args:=#[],argTypes:=#[] }) (fv:=.tmp 28) (f:=.func 68) (first:=#[]) (by kernel_rfl) rfl (hH3.get rfl) (by simp)) ?_
  rw[hd1']
  show Code.wpIn (qAG none) 0 Tryz.prog playR _ _ w2
  rw[playR_eq]
  refine wpIn_region ?_
  rw[playR_size]
  show wpOpsIn _ _ _ _ _ (List.range' 0 4++[4,5,6]) _ _
  have hH3':Has 37 _ [(6,pv b6),(8,pv b8),(9,pv b9),(10,.int .i64 (qCN d m nm args)),(11,pv b11)]:=qHE hH3 (by
   intro x hx
   simp only[List.mem_cons,List.not_mem_nil,or_false]at hx
   rcases hx with rfl|rfl|rfl|rfl|rfl <;> rfl)
  refine(segD (pr:=pr) (keep e6 n6) e8' (keep e11 n11)).step hF2.le ⟨hH3'.1,hH3'.2⟩ ?_
  rintro a4 w4 vs V4 hd4 hH4 ⟨rfl,rfl⟩ hF4
  have hdf:a4.defers=[{ target:=.fn (.func 68) #[pv b9,pv b8],args:=#[]++#[] }]:=by
   rw[hd4]
   show _::a2.defers=_
   rw[hd2,hd1]
  have inv:∀w',(invoke (.fn (.func 68) #[pv b9,pv b8]) (#[]++#[])).run Tryz.prog w'=.ok (.enter 68 #[pv b9,pv b8]) w':=fun w'=>by simp[invoke]
  have q29:a4.eval (.tmp 29)=pv p:=hH4.get rfl
  have q30:a4.eval (.tmp 30)=pr.v:=hH4.get rfl
  have q32:a4.eval (.tmp 32)=l.v:=hH4.get rfl
  have t8:a4.tmps.getD 8 undef=pv b8:=hH4.get rfl
  have t9:a4.tmps.getD 9 undef=pv b9:=hH4.get rfl
  have t10:a4.tmps.getD 10 undef=.int .i64 0:=by rw[<- hc];exact hH4.get rfl
  have i4:(c45d)[4]?=some ((c45d).getD 4 dOp):=by kernel_rfl
  have d4:((c45d).getD 4 dOp).dst=some 33:=by kernel_rfl
  have hargs:qEK.args.map a4.eval=#[pv p,pr.v,l.v]:=by grind [qJY]
  have mk:∀{V':Mem} {s':St} {c':Nat},EM W d p F V' s' c'->∃gs ns ls nd,PM V0 d p F b8 b9 gs ns ls nd V' s' c' 0 0 0 0:=fun {V' s' c'} h=>by
   obtain⟨gs,ns,ls,nd,h1,h2⟩:=h.ex
   exact⟨gs,ns,ls,nd,W,w0,wp,h1,h2,W8,W9⟩
  have hrs:(r.st:St)=(qCn d F (qDJ d nm) args (qDM m)).st:=by rw[hr,hi]
  refine Go.Sx.step_call i4 (by kernel_rfl) (by simpa using run_callv (c:=qEK) (fv:=playFv) (f:=69) (first:=#[]) (caps:=#[]) (args:=#[pv p,pr.v,l.v]) playCall_op playCall_fv (playFv_eval a4) hargs Tryz.call69) hF4.le H ?_ ?_ ?_
  ·intro ch V' w' hP hF5
   cases r with
   | ok v s'=>cases hP.1
   | bad k s' =>
    obtain⟨he,c',hm'⟩:=hP
    have hch:ch=[{ v:=fltVE k,recovered:=false }]:=by
     unfold fltE at he
     injection he
    subst hch
    obtain⟨gs,ns,ls,nd,P⟩:=mk hm'
    show LeavesIn (qAG none) 0 Tryz.prog _ _ _ a4.defers _ w'
    rw[hdf]
    refine⟨nofun,(fun h=>by simp[qAG,Fence.wide]at h),_,_,_,_,rfl,inv w',fun _ _=>trivial,qIE (lateC n89 v9 P hF5.le (f:=k) (.inr rfl)) ?_⟩
    rintro e u' w'' ⟨⟨v,rfl⟩,⟨V6,hF6,P6⟩,⟨h,-⟩|rfl⟩
    ·cases h
    ·refine⟨_,qDg t8 t9 t10 (hF6.le _ _ P6.at8) (hF6.le _ _ P6.at9),V6,.inr ⟨hc,p,c',.bad k s',by rw[hr,hi],P6.em,rfl⟩,(((hF1.trans hF2).trans hF4).trans hF5).trans hF6⟩
  ·intro v V' w' hP hF5
   cases r with
   | bad k s'=>cases hP.1
   | ok x s' =>
    obtain⟨he,hm'⟩:=hP
    cases he
    rw[d4]
    obtain⟨gs,ns,ls,nd,P⟩:=mk hm'
    have hH5:=qKq hH4 (t:=33) (v:=.int .i64 x) (by decide)
    show wpOpsIn _ _ _ _ _ (List.range' 5 2++[]) _ w'
    rw[playde]
    refine(segE n89 v9 (v:=x) P).step hF5.le (qHE ⟨hH5.1,hH5.2⟩ (by
     intro x hx
     simp only[List.mem_cons,List.not_mem_nil,or_false]at hx
     rcases hx with rfl|rfl|rfl <;> rfl)) ?_
    rintro a6 w6 vs V6 hd6 hH6 ⟨rfl,P6⟩ hF6
    show wpL none 0 Tryz.prog _ (c45f++[.ret]) a6 w6
    refine(segF n89 v8 v9 P6).step hF6.le hH6 ?_
    rintro a7 w7 vs V7 hd7 hH7 ⟨rfl,P7⟩ hF7
    show Code.wpIn (qAG none) 0 Tryz.prog .ret _ a7 w7
    refine wpIn_ret ?_
    show LeavesIn (qAG none) 0 Tryz.prog _ _ _ a7.defers _ w7
    have hdf7:a7.defers=_:=(hd7.trans hd6).trans hdf
    rw[hdf7]
    refine⟨nofun,(fun h=>by simp[qAG,Fence.wide]at h),_,_,_,_,rfl,inv w7,fun _ _=>trivial,qIE (lateC n89 v9 P7 hF7.le (f:=0) (.inl ⟨rfl,rfl⟩)) ?_⟩
    rintro e u' w'' ⟨⟨v,rfl⟩,⟨V8,hF8,P8⟩,⟨-,rfl⟩|rfl⟩
    ·refine⟨_,qDg (hH7.get rfl) (hH7.get rfl) (hH7.get rfl) (hF8.le _ _ P8.at8) (hF8.le _ _ P8.at9),V8,.inr ⟨hc,p,0,.ok x s',by rw[hr,hi],P8.em,rfl⟩,((((((hF1.trans hF2).trans hF4).trans hF5).trans hF6).trans hF7).trans hF8)⟩
    ·refine⟨_,qDg (hH7.get rfl) (hH7.get rfl) (hH7.get rfl) (hF8.le _ _ P8.at8) (hF8.le _ _ P8.at9),V8,.inr ⟨hc,p,0,.ok x s',by rw[hr,hi],P8.em,rfl⟩,((((((hF1.trans hF2).trans hF4).trans hF5).trans hF6).trans hF7).trans hF8)⟩
  ·intro V' hP
   cases r with
   | ok v s'=>cases hP.1
   | bad k s'=>cases hP.1
 ·refine wpIn_cond_true (by grind) (qCP ?_)
  rw[playK_flat]
  refine(segB n89 f8 f9 s1 e8 e9).step hF1.le (qHE hH1 (by
   intro x hx
   simp only[List.mem_cons,List.not_mem_nil,or_false]at hx
   rcases hx with rfl|rfl|rfl <;> rfl)) ?_
  rintro a2 w2 vs V2 hd2 hH2 ⟨rfl,s2,e8',e9'⟩ hF2
  show Code.wpIn (qAG none) 0 Tryz.prog .ret _ a2 w2
  refine wpIn_ret ?_
  show LeavesIn (qAG none) 0 Tryz.prog _ _ _ a2.defers _ w2
  rw[hd2,hd1]
  exact⟨_,qDg (hH2.get rfl) (hH2.get rfl) (hH2.get rfl) (hF2.le _ _ e8') (hF2.le _ _ e9'),V2,.inl ⟨hc,s2,rfl⟩,hF1.trans hF2⟩
end
section
variable{V:Mem}{d:Ds}{F:Nat}{m m':Mm}{nm:ByteArray}{args:List Int}{l:Sl}
theorem values_plain(h:m.plain=m'.plain){t:List Fld}{vs:List Int}:qAj d m t vs=qAj d m' t vs:=by
 rw[Bool.eq_iff_iff]
 grind [qAm,qDN]
theorem qGK(h:m.plain=m'.plain):qCN d m nm args=qCN d m' nm args:=by
 grind [qCN,values_plain]
noncomputable def qAE(d:Ds)(m:Mm)(nm:ByteArray)(args:List Int)(F:Int):Int:=if qAC d m F=0 then qCN d m nm args else qAC d m F
theorem qEN{F:Int}(h:qAC d m F=0):qAs d m:=by
 grind [qAC]
theorem ok_copy(hm:Mm.Ok V m){V':Mem}{gs ns:Sl}{nd:List Nd}(L:Lay V V' gs ns qAt nd (qDM m)):Mm.Ok V' ⟨gs,m.globals,ns,nd⟩/\(⟨gs,m.globals,ns,nd⟩:Mm).plain=m.plain:=by
 have hp:(⟨gs,m.globals,ns,nd⟩:Mm).plain=m.plain:=by
  unfold Mm.plain
  rw[L.eq];rfl
 refine⟨⟨L.glob.rows (fun _=>rfl) (by decide),hm.gIn,L.nodes.rows (fun _=>rfl) (by decide),fun n hn=>?_⟩,hp⟩
 obtain⟨i,hi⟩:=List.mem_iff_getElem?.1 hn
 obtain⟨y,hy,e1,e2⟩:=qHy hp hi
 have hk:=hm.nodesOk y (List.mem_of_getElem? hy)
 exact⟨(L.fld n hn).rows (fun _=>rfl) (by decide),by rw[<- e1];exact hk.tyIn,by rw[<- e2];exact hk.vals⟩
def StartP(V:Mem)(d:Ds)(F:Nat)(m:Mm)(nm:ByteArray)(args:List Int):Ending->Mem->Prop:=fun e V' =>
 (qAE d m nm args F≠0/\V.sub V'/\e=.returned (.tuple #[.pointer none,.agg (qCZ 0 0 0 0).toArray,.int .i64 (qAE d m nm args F)])) ∨
 (qAE d m nm args F=0/\∃p c,∃r:Rx Int,r=qCn d F (qDJ d nm) args (qDM m)/\EM V d p F V' r.st c/\e=.returned (.tuple #[pv p,.agg (qCZ (qKb r) (outV r) r.st.cm (qAB r.st.lg)).toArray,.int .i64 0]))
theorem c48[Tab V](hd:Ds.Ok V d)(hm:Mm.Ok V m)(ha:qAd V l 1 (args.map qAo))(hF:F<=4000):Tri Tryz.prog 48 #[d.v,m.v,.agg #[.string nm,l.v],.int .i64 F] V (StartP V d F m nm args):=by
 refine x48 (R:=StartP V d F m nm args) ?_
 unfold w48
 refine(c43 hd hm).call ⟨_,rfl,fun h0=>?_,fun h0=>?_⟩
 ·have G:=qEN h0
  have hs:qAE d m nm args F=qCN d m nm args:=by grind [qAE]
  obtain⟨p1,p2,p3,p4,p5⟩:=qAx G.mem
  have h12:=qIo G.valid
  refine Tri.mono (c44 hm (by grind [qAy]) p2 fun n hn=>?_) ?_
  ·have:=(qAy.1 (p5 n hn)).1
   have hty:=of_decide_eq_true (p3 n hn)
   obtain⟨j,hj⟩:∃j:Nat,n.ty=(j:Int):=⟨n.ty.toNat,by omega⟩
   have hjl:j<d.types.length:=by omega
   have hx:=List.getElem?_eq_getElem hjl
   rw[hj,qBc hx rfl]at this
   grind
  rintro _ V1 ⟨gs,ns,nd,rfl,L⟩
  obtain⟨hm1,hp⟩:=ok_copy hm L
  have G1:qAs d ⟨gs,m.globals,ns,nd⟩:=⟨G.valid,G.chk,qCl hp.symm G.mem⟩
  have hst:qDM ⟨gs,m.globals,ns,nd⟩=qDM m:=by
   unfold qDM
   rw[show nd.map (fun n=>(n.ty,n.f))=m.nodes.map (fun n=>(n.ty,n.f)) from L.eq]
  have L1:Lay V V1 gs ns qAt nd (qDM ⟨gs,m.globals,ns,nd⟩):=by grind
  refine⟨gs,ns,rfl,Tri.mono (c45 (m:=⟨gs,m.globals,ns,nd⟩) ⟨hd,G.valid,qJW G.valid G.chk,hF⟩ L1 hm1 G1 ha) ?_⟩
  have hcp:qCN d ⟨gs,m.globals,ns,nd⟩ nm args=qCN d m nm args:=qGK hp
  rintro e V2 (⟨hc,hs2,rfl⟩|⟨hc,p,c,r,hr,M,rfl⟩)
  ·rw[hcp]at hc ⊢
   exact⟨_,_,_,_,_,_,_,rfl,.inl ⟨by omega,L.sub.trans hs2,by rw[hs];rfl⟩⟩
  ·rw[hcp]at hc
   exact⟨_,_,_,_,_,_,_,rfl,.inr ⟨by omega,p,c,r,by rw[hr,hst],M,rfl⟩⟩
 ·have hs:qAE d m nm args F=qAC d m F:=by grind [qAE]
  exact .inl ⟨by omega,Mem.sub.refl _,by rw[hs];rfl⟩
def RunP(V:Mem)(d:Ds)(F:Nat)(m:Mm)(nm:ByteArray)(args:List Int):Ending->Mem->Prop:=fun e V' =>
 (qAE d m nm args F≠0/\V.sub V'/\e=.returned (.tuple #[.agg (qCZ 0 0 0 0).toArray,.agg #[qAt.v,qAt.v],.int .i64 (qAE d m nm args F)])) ∨
 (qAE d m nm args F=0/\∃r:Rx Int,∃gs ns ls nd,r=qCn d F (qDJ d nm) args (qDM m)/\Lay V V' gs ns ls nd r.st/\e=.returned (.tuple #[.agg (qCZ (qKb r) (outV r) r.st.cm (qAB r.st.lg)).toArray,.agg #[gs.v,ns.v],.int .i64 0]))
theorem c62[Tab V](hd:Ds.Ok V d)(hm:Mm.Ok V m)(ha:qAd V l 1 (args.map qAo))(hF:F<=4000):Tri Tryz.prog 62 #[d.v,m.v,.agg #[.string nm,l.v],.int .i64 F] V (RunP V d F m nm args):=by
 refine x62 (R:=RunP V d F m nm args) ?_
 unfold w62
 refine Tri.mono (c48 hd hm ha hF) ?_
 rintro e V1 (⟨hc,hs,rfl⟩|⟨hc,p,c,r,hr,M,rfl⟩)
 ·exact⟨_,_,_,_,_,_,_,rfl,fun h=>absurd h hc,fun _=>.inl ⟨hc,hs,rfl⟩⟩
 ·obtain⟨gs,ns,ls,nd,hat,L⟩:=M.ex
  exact⟨_,_,_,_,_,_,_,rfl,fun _=>⟨nn,nn,gs,ns,qAc hat 8 2 (by simp[qBQ]),qAD hat 8 0 2 (by simp[qBQ]),nn,nn,.inr ⟨hc,r,gs,ns,ls,nd,hr,L,rfl⟩⟩,fun h=>absurd rfl h⟩
def TraceP(V:Mem)(d:Ds)(F:Nat)(m:Mm)(nm:ByteArray)(args:List Int):Ending->Mem->Prop:=fun e V' =>
 (qAE d m nm args F≠0/\V.sub V'/\e=.returned (.tuple #[qAt.v,.int .i64 (qAE d m nm args F)])) ∨
 (qAE d m nm args F=0/\∃r:Rx Int,∃ls,r=qCn d F (qDJ d nm) args (qDM m)/\Sx.Own V V' 98 3 ls (r.st.lg.flatMap qFg)/\e=.returned (.tuple #[ls.v,.int .i64 0]))
theorem c29[Tab V](hd:Ds.Ok V d)(hm:Mm.Ok V m)(ha:qAd V l 1 (args.map qAo))(hF:F<=4000):Tri Tryz.prog 29 #[d.v,m.v,.agg #[.string nm,l.v],.int .i64 F] V (TraceP V d F m nm args):=by
 refine x29 (R:=TraceP V d F m nm args) ?_
 unfold w29
 refine Tri.mono (c48 hd hm ha hF) ?_
 rintro e V1 (⟨hc,hs,rfl⟩|⟨hc,p,c,r,hr,M,rfl⟩)
 ·exact⟨_,_,_,_,_,_,_,rfl,fun h=>absurd h hc,fun _=>.inl ⟨hc,hs,rfl⟩⟩
 ·obtain⟨gs,ns,ls,nd,hat,L⟩:=M.ex
  exact⟨_,_,_,_,_,_,_,rfl,fun _=>⟨nn,nn,ls,qAc hat 14 1 (by simp[qBQ]),.inr ⟨hc,r,ls,hr,L.log,rfl⟩⟩,fun h=>absurd rfl h⟩
end
theorem qED{p q B X:Prop}(hX:(¬p∨¬q)->X)(hB:p->q->B):Br p (Br q B X) X:=⟨fun hp=>⟨fun hq=>hB hp hq,fun hq=>hX (.inr hq)⟩,fun hp=>hX (.inl hp)⟩
theorem take_eq{α:Type}{xs ys:List α}{i:Nat}{x y:α}(h:xs.take i=ys.take i)(hx:xs[i]?=some x)(hy:ys[i]?=some y)(e:x=y):xs.take (i+1)=ys.take (i+1):=by
 grind [List.take_add_one]
section
variable{V:Mem}{d:Ds}{m:Mm}
def RI(V:Mem):Ending->Mem->Prop:=fun e V'=>V=V'/\∃r:Int,e=.returned (.int .i64 r)/\-1<=r/\r<=2000
def RY(V:Mem):Ending->Mem->Prop:=fun e V'=>V=V'/\∃b:Bool,e=.returned (.bool b)
theorem RI.mk{r:Int}(h:-1<=r/\r<=2000):RI V (.returned (.int .i64 r)) V:=⟨rfl,r,rfl,h⟩
theorem RY.mk{b:Bool}:RY V (.returned (.bool b)) V:=⟨rfl,b,rfl⟩
theorem leftC:∀(k:Nat),k<=65->∀(e:E) (n:Int),E.Ok V e->-1<=n->n<=2000->Tri Tryz.prog 72 #[e.v,.int .i64 k,.int .i64 n] V (RI V):=by
 intro k
 induction k with
 | zero =>
  intro _ e n he h1 h2
  refine Tri.mono (x72 (R:=RI V) ?_) fun _ _ h=>h
  unfold w72
  exact⟨fun _=>.mk ⟨by omega,by omega⟩,fun _=>⟨fun _=>.mk ⟨by omega,by omega⟩,fun h=>absurd rfl h⟩⟩
 | succ k ih =>
  intro hk e n he h1 h2
  refine Tri.mono (x72 (R:=RI V) ?_) fun _ _ h=>h
  unfold w72
  refine⟨fun _=>.mk ⟨by omega,by omega⟩,fun h3=>⟨fun _=>.mk ⟨by omega,by omega⟩,fun _=>⟨fun _=>.mk ⟨by omega,by omega⟩,fun _=>⟨⟨by omega,by omega⟩,?_⟩⟩⟩⟩
  have h3:¬n<=0:=h3
  refine qFW (mk:=.int .i64) (b0:=n-1) qDt e.k.length (fun i a V1=>V=V1/\-1<=a/\a<=2000) ⟨rfl,by omega,by omega⟩ ?_
  rintro i a V1 J hi ⟨rfl,ha1,ha2⟩ hJ
  refine qED (fun _=>.mk ⟨ha1,ha2⟩) (fun hlt hn=>?_)
  obtain⟨x,hxm,hx,-,hil,hp,hz,hrow⟩:=he.rows.get hlt
  refine⟨hp,hz,hlt,_,_,_,_,hrow,⟨by omega,by omega⟩,?_⟩
  rw[show ((k+1:Nat):Int)-1=(k:Int) by omega]
  refine Tri.mono (ih (by omega) x a (he.kids x hxm) ha1 ha2) ?_
  rintro _ _ ⟨rfl,r,rfl,h4⟩
  exact⟨_,rfl,he.rows.succ hlt,hJ hil _ _ ⟨rfl,h4⟩⟩
theorem leftAllC:∀(k:Nat),k<=65->∀(s:Sl) (xs:List S) (n:Int),qAd V s 5 (xs.map S.row)->(∀x∈xs,S.Ok V x)->-1<=n->n<=2000->Tri Tryz.prog 71 #[s.v,.int .i64 k,.int .i64 n] V (RI V):=by
 intro k
 induction k with
 | zero =>
  intro _ s xs n hr ho h1 h2
  refine Tri.mono (x71 (R:=RI V) ?_) fun _ _ h=>h
  unfold w71
  exact⟨fun _=>.mk ⟨by omega,by omega⟩,fun h=>absurd rfl h⟩
 | succ k ih =>
  intro hk s xs n hr ho h1 h2
  refine Tri.mono (x71 (R:=RI V) ?_) fun _ _ h=>h
  unfold w71
  refine⟨fun _=>.mk ⟨by omega,by omega⟩,fun _=>?_⟩
  refine qGY (mk:=.int .i64) (mc:=.int .i64) 0 n qDt xs.length (fun i a V1=>V=V1/\-1<=a/\a<=2000) ⟨rfl,h1,h2⟩ ?_
  rintro i b a V1 J hi ⟨rfl,ha1,ha2⟩ hJ
  refine qED (fun _=>.mk ⟨ha1,ha2⟩) (fun hlt hn=>?_)
  have hn:0<=a:=hn
  obtain⟨x,hxm,hx,-,hil,hp,hz,hrow⟩:=hr.get hlt
  have hxo:=ho x hxm
  cases x with
  | mk op sn el es ll ls xl xs' =>
  cases hxo with
  | mk he hes hl hls hxr hxs hop =>
  have hq:=qAe (n:=i*5) hp
  have hsucc:=hr.succ hlt
  refine⟨⟨by omega,by omega⟩,hp,hz,hlt,hq,_,_,_,_,_,hrow,fun _=>.mk ⟨by omega,by omega⟩,fun _=>?_⟩
  refine qFW (mk:=.int .i64) (b0:=a-1) qDt es.length (fun j c V2=>V=V2/\-1<=c/\c<=2000) ⟨rfl,by omega,by omega⟩ ?_
  rintro j c V2 J1 hj ⟨rfl,hc1,hc2⟩ hJ1
  have ek:((k+1:Nat):Int)-1=(k:Int):=by omega
  refine⟨hp,hz,hlt,hq,_,_,_,_,_,hrow,qED (fun _=>⟨fun hc=>⟨hp,hz,hlt,hq,_,_,_,_,_,hrow,⟨by omega,by omega⟩,?_⟩,fun hc=>⟨fun h=>absurd h hc,fun _=>⟨hsucc,hJ hil _ _ _ ⟨rfl,hc1,hc2⟩⟩⟩⟩) (fun hlt2 hc=>?_)⟩
  ·rw[ek]
   refine Tri.mono (ih (by omega) ll ls c hl hls hc1 hc2) ?_
   rintro _ _ ⟨rfl,r,rfl,h3⟩
   refine⟨_,rfl,fun hr0=>⟨hp,hz,hlt,hq,_,_,_,_,_,hrow,⟨by omega,by omega⟩,Tri.mono (ih (by omega) xl xs' r hxr hxs h3.1 h3.2) ?_⟩,fun _=>⟨hsucc,hJ hil _ _ _ ⟨rfl,h3⟩⟩⟩
   rintro _ _ ⟨rfl,r2,rfl,h4⟩
   simp_all
  ·obtain⟨y,hym,hy,-,hjl,hpy,hzy,hrowy⟩:=he.get hlt2
   refine⟨hp,hz,hlt,hq,_,_,_,_,_,hrow,hpy,hzy,hlt2,_,_,_,_,hrowy,Tri.mono (leftC 65 (by omega) y c (hes y hym) hc1 hc2) ?_⟩
   rintro _ _ ⟨rfl,r,rfl,h3⟩
   exact⟨_,rfl,he.succ hlt2,hJ1 hjl _ _ ⟨rfl,h3⟩⟩
theorem wideC{l:Sl}{xs:List Fld}(hr:qAd V l 2 (xs.map Fld.row)):Tri Tryz.prog 70 #[l.v] V (RY V):=by
 refine Tri.mono (x70 (R:=RY V) ?_) fun _ _ h=>h
 unfold w70
 refine⟨fun _=>.mk,fun _=>qAJ (mk:=.bool) (b0:=false) xs.length (fun i V1=>V=V1) rfl ?_⟩
 rintro i b V1 J hi rfl hJ
 refine⟨fun hlt=>?_,fun _=>.mk⟩
 obtain⟨x,hxm,hx,-,hil,hp,hz,hrow⟩:=hr.get hlt
 have hq:=qAe (n:=i*2) hp
 exact⟨hp,hz,hlt,hq,_,_,hrow,fun _=>.mk,fun _=>⟨hp,hz,hlt,hq,_,_,hrow,fun _=>.mk,fun _=>⟨hr.succ hlt,hJ hil _ _ rfl⟩⟩⟩
theorem overC(hd:Ds.Ok V d){n:Int}(h1:-1<=n)(h2:n<=2000):Tri Tryz.prog 46 #[d.v,.int .i64 n] V (RY V):=by
 refine Tri.mono (x46 (R:=RY V) ?_) fun _ _ h=>h
 unfold w46
 refine⟨fun _=>.mk,fun _=>⟨fun _=>.mk,fun _=>⟨fun _=>.mk,fun _=>⟨fun _=>.mk,fun _=>⟨fun _=>.mk,fun _=>⟨fun _=>.mk,fun _=>⟨fun _=>.mk,fun _=>Tri.mono (wideC hd.globals) ?_⟩⟩⟩⟩⟩⟩⟩
 rintro _ _ ⟨rfl,b,rfl⟩
 refine⟨_,rfl,fun _=>.mk,fun _=>qAJ (mk:=.bool) (b0:=false) d.types.length (fun i V1=>V=V1) rfl ?_⟩
 rintro i b V1 J hi rfl hJ
 refine⟨fun hlt=>?_,fun _=>?_⟩
 ·obtain⟨x,hxm,hx,-,hil,hp,hz,hrow⟩:=hd.types.get hlt
  have hq:=qAe (n:=i*2) hp
  refine⟨hp,hz,hlt,hq,_,_,hrow,fun _=>.mk,fun _=>⟨hp,hz,hlt,hq,_,_,hrow,Tri.mono (wideC (hd.typesOk x hxm).fields) ?_⟩⟩
  rintro _ _ ⟨rfl,b,rfl⟩
  exact⟨_,rfl,fun _=>.mk,fun _=>⟨hd.types.succ hlt,hJ hil _ _ rfl⟩⟩
 refine qGY (mk:=.bool) (mc:=.int .i64) b n qDt d.procs.length (fun i a V1=>V=V1/\-1<=a/\a<=2000) ⟨rfl,h1,h2⟩ ?_
 rintro i b a V1 J hi ⟨rfl,ha1,ha2⟩ hJ
 refine qED (fun _=>?_) (fun hlt hn=>?_)
 rotate_left
 ·obtain⟨x,hxm,hx,-,hil,hp,hz,hrow⟩:=hd.procs.get hlt
  have ho:=hd.procsOk x hxm
  refine⟨hp,hz,hlt,_,_,_,_,_,hrow,fun _=>.mk,fun _=>⟨fun _=>.mk,fun _=>Tri.mono (wideC ho.params) ?_⟩⟩
  rintro _ _ ⟨rfl,b1,rfl⟩
  refine⟨_,rfl,fun _=>.mk,fun _=>Tri.mono (wideC ho.locals) ?_⟩
  rintro _ _ ⟨rfl,b2,rfl⟩
  refine⟨_,rfl,fun _=>.mk,fun _=>Tri.mono (leftAllC 65 (by omega) x.bs x.body a ho.body ho.stmts ha1 ha2) ?_⟩
  rintro _ _ ⟨rfl,r,rfl,h3⟩
  exact⟨_,rfl,hd.procs.succ hlt,hJ hil _ _ _ ⟨rfl,h3⟩⟩
 refine qGY (mk:=.bool) (mc:=.int .i64) b a qDt d.measures.length (fun i a V1=>V=V1/\-1<=a/\a<=2000) ⟨rfl,ha1,ha2⟩ ?_
 clear hJ
 rintro i b a V1 J hi ⟨rfl,ha1,ha2⟩ hJ
 refine qED (fun _=>?_) (fun hlt hn=>?_)
 rotate_left
 ·obtain⟨x,hxm,hx,-,hil,hp,hz,hrow⟩:=hd.measures.get hlt
  have hq:=qAe (n:=i*7) hp
  refine⟨hp,hz,hlt,hq,_,_,_,_,_,_,_,hrow,fun _=>.mk,fun _=>⟨hp,hz,hlt,hq,_,_,_,_,_,_,_,hrow,fun _=>.mk,fun _=>⟨hp,hz,hlt,hq,_,_,_,_,_,_,_,hrow,Tri.mono (leftC 65 (by omega) x.x a (hd.measuresOk x hxm).x ha1 ha2) ?_⟩⟩⟩
  rintro _ _ ⟨rfl,r,rfl,h3⟩
  exact⟨_,rfl,hd.measures.succ hlt,hJ hil _ _ _ ⟨rfl,h3⟩⟩
 refine qGY (mk:=.bool) (mc:=.int .i64) b a qDt d.invs.length (fun i a V1=>V=V1/\-1<=a/\a<=2000) ⟨rfl,ha1,ha2⟩ ?_
 clear hJ
 rintro i b a V1 J hi ⟨rfl,ha1,ha2⟩ hJ
 refine qED (fun _=>?_) (fun hlt hn=>?_)
 rotate_left
 ·obtain⟨x,hxm,hx,-,hil,hp,hz,hrow⟩:=hd.invs.get hlt
  have hq:=qAe (n:=i*6) hp
  refine⟨hp,hz,hlt,hq,_,_,_,_,_,_,hrow,fun _=>.mk,fun _=>⟨hp,hz,hlt,hq,_,_,_,_,_,_,hrow,fun _=>.mk,fun _=>⟨hp,hz,hlt,hq,_,_,_,_,_,_,hrow,Tri.mono (leftC 65 (by omega) x.x a (hd.invsOk x hxm) ha1 ha2) ?_⟩⟩⟩
  rintro _ _ ⟨rfl,r,rfl,h3⟩
  exact⟨_,rfl,hd.invs.succ hlt,hJ hil _ _ _ ⟨rfl,h3⟩⟩
 refine qGY (mk:=.bool) (mc:=.int .i64) b a qDt d.pots.length (fun i a V1=>V=V1/\-1<=a/\a<=2000) ⟨rfl,ha1,ha2⟩ ?_
 clear hJ
 rintro i b a V1 J hi ⟨rfl,ha1,ha2⟩ hJ
 refine qED (fun _=>?_) (fun hlt hn=>?_)
 rotate_left
 ·obtain⟨x,hxm,hx,-,hil,hp,hz,hrow⟩:=hd.pots.get hlt
  have hq:=qAe (n:=i*5) hp
  refine⟨hp,hz,hlt,hq,_,_,_,_,_,hrow,fun _=>.mk,fun _=>⟨hp,hz,hlt,hq,_,_,_,_,_,hrow,Tri.mono (leftC 65 (by omega) x.x a (hd.potsOk x hxm) ha1 ha2) ?_⟩⟩
  rintro _ _ ⟨rfl,r,rfl,h3⟩
  exact⟨_,rfl,hd.pots.succ hlt,hJ hil _ _ _ ⟨rfl,h3⟩⟩
 refine qGY (mk:=.bool) (mc:=.int .i64) b a qDt d.bounds.length (fun i a V1=>V=V1/\-1<=a/\a<=2000) ⟨rfl,ha1,ha2⟩ ?_
 clear hJ
 rintro i b a V1 J hi ⟨rfl,ha1,ha2⟩ hJ
 refine qED (fun _=>.mk) (fun hlt hn=>?_)
 obtain⟨x,hxm,hx,-,hil,hp,hz,hrow⟩:=hd.bounds.get hlt
 have hq:=qAe (n:=i*5) hp
 refine⟨hp,hz,hlt,hq,_,_,_,_,_,hrow,fun _=>.mk,fun _=>⟨hp,hz,hlt,hq,_,_,_,_,_,hrow,Tri.mono (leftC 65 (by omega) x.x a (hd.boundsOk x hxm) ha1 ha2) ?_⟩⟩
 rintro _ _ ⟨rfl,r,rfl,h3⟩
 exact⟨_,rfl,hd.bounds.succ hlt,hJ hil _ _ _ ⟨rfl,h3⟩⟩
theorem greatC(hd:Ds.Ok V d):Tri Tryz.prog 25 #[d.v] V (RY V):=by
 refine Tri.mono (x25 (R:=RY V) ?_) fun _ _ h=>h
 unfold w25
 refine Tri.mono (overC hd (n:=2000) (by omega) (by omega)) ?_
 rintro _ _ ⟨rfl,b,rfl⟩
 exact⟨_,rfl,.mk⟩
theorem manyC(hm:Mm.Ok V m):Tri Tryz.prog 26 #[m.v] V (RY V):=by
 refine Tri.mono (x26 (R:=RY V) ?_) fun _ _ h=>h
 unfold w26
 refine⟨fun _=>.mk,fun _=>⟨fun _=>.mk,fun _=>qAJ (mk:=.bool) (b0:=false) m.nodes.length (fun i V1=>V=V1) rfl ?_⟩⟩
 rintro i b V1 J hi rfl hJ
 refine⟨fun hlt=>?_,fun _=>.mk⟩
 obtain⟨x,hxm,hx,-,hil,hp,hz,hrow⟩:=hm.nodes.get hlt
 exact⟨hp,hz,hlt,qAe hp,_,_,hrow,fun _=>.mk,fun _=>⟨hm.nodes.succ hlt,hJ hil _ _ rfl⟩⟩
theorem c42{s t:Sl}{xs ys:List Int}(h:qAd V s 1 (xs.map qAo))(k:qAd V t 1 (ys.map qAo)):PP 42 [.slice s.p s.n s.c,.slice t.p t.n t.c] V (.bool (decide (xs=ys))):=by
 refine x42 ?_
 unfold w42
 have n1:=h.n_eq
 have n2:=k.n_eq
 refine⟨fun hl=>?_,fun hl=>?_⟩
 ·refine qAJ (mk:=.bool) (b0:=false) xs.length (fun i V1=>V=V1/\xs.take i=ys.take i) ⟨rfl,rfl⟩ ?_
  rintro i b V1 J hi ⟨rfl,he⟩ hJ
  refine⟨fun hlt=>?_,fun hge=>?_⟩
  ·obtain⟨x,hxm,hx,-,hil,hp,hz,hrow⟩:=h.get hlt
   obtain⟨y,hym,hy,-,hjl,hp2,hz2,hrow2⟩:=k.get (i:=i) (by omega)
   refine⟨hp,hz,hlt,_,hrow,hp2,hz2,by omega,_,hrow2,fun hE=>⟨h.succ hlt,hJ hil _ _ ⟨rfl,take_eq he hx hy hE⟩⟩,fun hE=>?_⟩
   rw[decide_eq_false fun e=>?_]
   ·simp_all
   simp_all
  grind
 ·rw[decide_eq_false fun e=>hl (by rw[n1,n2,e])];simp_all
theorem plain_ext{a b:Mm}(hg:a.globals=b.globals)(hn:(a.nodes.map fun n=>(n.ty,n.f))=b.nodes.map fun n=>(n.ty,n.f)):a.plain=b.plain:=by grind [Mm.plain]
instance:DecidableEq (List Int×List (Int×List Int)):=inferInstance
theorem c22{a b:Mm}(ha:Mm.Ok V a)(hb:Mm.Ok V b):PP 22 [a.v,b.v] V (.bool (decide (a.plain=b.plain))):=by
 refine x22 ?_
 unfold w22
 have n1:=ha.nodes.n_eq
 have n2:=hb.nodes.n_eq
 have no:a.plain≠b.plain->(Ending.returned (.bool false)=.returned (.bool (decide (a.plain=b.plain)))/\V=V):=fun h=>⟨by simp_all,rfl⟩
 refine(c42 ha.globals hb.globals).call ⟨_,rfl,fun hg=>?_,fun hg=>no fun e=>hg (decide_eq_true (Prod.mk.inj e).1)⟩
 have hg:=of_decide_eq_true hg
 refine⟨fun hl=>?_,fun hl=>no fun e=>hl (by rw[n1,n2,qId e])⟩
 refine qAJ (mk:=.bool) (b0:=false) a.nodes.length (fun i V1=>V=V1/\(a.nodes.map fun n=>(n.ty,n.f)).take i=(b.nodes.map fun n=>(n.ty,n.f)).take i) ⟨rfl,rfl⟩ ?_
 rintro i b0 V1 J hi ⟨rfl,he⟩ hJ
 refine⟨fun hlt=>?_,fun hge=>?_⟩
 ·obtain⟨x,hxm,hx,-,hil,hp,hz,hrow⟩:=ha.nodes.get hlt
  obtain⟨y,hym,hy,-,hjl,hp2,hz2,hrow2⟩:=hb.nodes.get (i:=i) (by omega)
  have l2:(i:Int)<(b.ns.n:Int):=by omega
  have hx':(a.nodes.map fun n=>(n.ty,n.f))[i]?=some (x.ty,x.f):=by simp_all
  have hy':(b.nodes.map fun n=>(n.ty,n.f))[i]?=some (y.ty,y.f):=by simp_all
  have bad:(x.ty,x.f)≠(y.ty,y.f)->a.plain≠b.plain:=fun h e=>h (by rw[show (a.nodes.map fun n=>(n.ty,n.f))=b.nodes.map fun n=>(n.ty,n.f) from (Prod.mk.inj e).2,hy']at hx';simp_all)
  refine⟨hp,hz,hlt,qAe hp,_,_,hrow,hp2,hz2,l2,qAe hp2,_,_,hrow2,fun ht=>⟨hp,hz,hlt,qAe hp,_,_,hrow,hp2,hz2,l2,qAe hp2,_,_,hrow2,(c42 (ha.nodesOk x hxm).rows (hb.nodesOk y hym).rows).call ⟨_,rfl,fun hf=>⟨ha.nodes.succ hlt,hJ hil _ _ ⟨rfl,take_eq he hx' hy' (Prod.ext ht (of_decide_eq_true hf))⟩⟩,fun hf=>no (bad fun e=>hf (decide_eq_true (Prod.mk.inj e).2))⟩⟩,fun ht=>no (bad fun e=>ht (Prod.mk.inj e).1)⟩
 ·have hd:=(ha.nodes.done hge).2
  rw[List.take_of_length_le (by simp_all),List.take_of_length_le (by simp_all)]at he
  exact⟨by rw[decide_eq_true (plain_ext hg he)],rfl⟩
end
def awN:ByteArray:=qAl [110]
def awK:ByteArray:=qAl [107]
def awI:ByteArray:=qAl [105,110,116]
def awE(l:Sl):E:=.mk 9 0 (qAl []) l [.mk 4 0 awN qAt [],.mk 4 0 awK qAt []]
theorem start_ok{d:Ds}{m:Mm}{nm:ByteArray}{args:List Int}{F:Int}(G:qAs d m)(h:0<=F/\F<=1048576):qAE d m nm args F=qCN d m nm args:=by
 grind [qAC,qAE]
section
variable{V:Mem}
def qJC(b n:Nat):Sl:=⟨some ⟨b,0,none⟩,n,n⟩
theorem nameOk{V:Mem}{s:ByteArray}:E.Ok V (.mk 4 0 s qAt []):=.mk qAd.nil (by simp) (by decide) (by decide)
end
section
variable{V V0:Mem}{d:Ds}{F:Nat}{m:Mm}{nm:ByteArray}{args:List Int}{l:Sl}
theorem qEG{F:Int}(h:qAE d m nm args F=0):qAs d m/\qCN d m nm args=0:=by
 grind [qAE,qEN,absurd]
end
section
variable{V V0:Mem}{d:Ds}{F:Nat}{m:Mm}{nm:ByteArray}{args:List Int}{l:Sl}
theorem qFT(hd:Ds.Ok V d){V':Mem}{gs ns ls:Sl}{nd:List Nd}{s:St}(L:Lay V V' gs ns ls nd s)(hg:qAs d s.mm):Mm.Ok V' ⟨gs,s.g,ns,nd⟩/\(⟨gs,s.g,ns,nd⟩:Mm).plain=(s.g,s.ns):=by
 have hp:(⟨gs,s.g,ns,nd⟩:Mm).plain=(s.g,s.ns):=by
  unfold Mm.plain
  rw[<- L.eq]
 obtain⟨p1,p2,p3,p4,p5⟩:=qAx hg.mem
 have vi:∀{t:List Fld} {vs:List Int},qAj d s.mm t vs=true->∀v∈vs,inI v:=fun {t vs} h v hv=>by
  obtain⟨j,hj⟩:=List.mem_iff_getElem?.1 hv
  obtain⟨hl,hk⟩:=qAy.1 h
  have hjl:=(List.getElem?_eq_some_iff.1 hj).1
  have:=hk j _ v (List.getElem?_eq_getElem (by omega)) hj
  grind [qAv,inI]
 refine⟨⟨L.glob.rows (fun _=>rfl) (by decide),vi p4,L.nodes.rows (fun _=>rfl) (by decide),fun n hn=>?_⟩,hp⟩
 have hmem:(⟨n.ty,qAt,n.f⟩:Nd)∈s.mm.nodes:=by
  unfold St.mm
  rw[<- L.eq]
  grind
 refine⟨(L.fld n hn).rows (fun _=>rfl) (by decide),?_,vi (p5 ⟨n.ty,qAt,n.f⟩ hmem)⟩
 have:=of_decide_eq_true (p3 ⟨n.ty,qAt,n.f⟩ hmem)
 have hl:d.types.length<=9223372036854775807:=by
  have:=hd.types.n_eq;have:=hd.types.cap;have:=hd.types.fit;omega
 grind [inI]
end
end Go.Proofs
namespace Go.Proofs
open Go Go.Sx
def qBg(w:World):Mem:=fun b=>w.heap[b]?
theorem heapM_le(w:World):(qBg w).le w:=fun _ _ h=>h
theorem qFV{α β:Type}{f:α->Option β}:∀{l:List α} {r:List β},l.mapM f=some r->r.length=l.length/\∀(i:Nat) (a:α),l[i]?=some a->∃b,r[i]?=some b/\f a=some b
 | [],r,h=>by simp_all
 | x::l,r,h=>by
  simp only[List.mapM_cons,Option.bind_eq_bind,Option.bind_eq_some_iff,Option.pure_def,Option.some.injEq]at h
  obtain⟨b,hb,r',hr',rfl⟩:=h
  obtain⟨h1,h2⟩:=qFV hr'
  grind
theorem cells_row{w:World}{a:Addr}{n:Nat}{cs:List Value}(h:w.cells? 0 a n=some cs)(hn:0<n):(qBg w).row a n=some cs:=by
 unfold World.cells? at h
 rw[if_pos (Nat.zero_le _)]at h
 obtain⟨h1,h2⟩:=qFV h
 have hat:∀i,i<n->∃v,cs[i]?=some v/\w.cell? (a.add i)=some v:=fun i hi=>h2 i i (by simp[hi])
 obtain⟨v0,-,hc0⟩:=hat 0 hn
 have e0:a.add 0=a:=by rfl
 rw[e0]at hc0
 unfold World.cell? at hc0
 split at hc0
 ·rename_i c t fr hb
  split at hc0
  ·cases hc0
  ·rename_i hsp
   have hsp':a.spot.isNone=true:=by simp_all
   have hsp2:a.spot=none:=by simp_all
   have hci:∀i,i<n->∃v,cs[i]?=some v/\c[a.off+i]?=some v:=fun i hi=>by
    obtain⟨v,hv,hc⟩:=hat i hi
    refine⟨v,hv,?_⟩
    have e:a.add i=⟨a.block,a.off+i,none⟩:=by
     unfold Addr.add
     by_cases h0:i=0
     ·subst h0;rw[if_pos rfl]
      cases a with
      | mk b o s=>simp_all
     grind
    grind [World.cell?]
   have hlen:a.off+n<=c.size:=by
    obtain⟨v,_,hc⟩:=hci (n-1) (by omega)
    grind
   have hcs:cs.length=n:=by rw[h1];simp
   unfold Mem.row qBg
   simp only[hb]
   rw[if_pos ⟨hsp',hlen⟩]
   congr 1
   apply List.ext_getElem?
   grind
 ·cases hc0
section
variable{H:Type}{enc:TypeId×Value->H}{w:World}
noncomputable abbrev TR(enc:TypeId×Value->H)(w:World)(n:Nat)(t:TypeId)(cs:List Value):=DataW.trod enc Tryz.prog w 0 (fun _=>true) true n t cs
theorem rd_str{n:Nat}{t:TypeId}{cs:List Value}{x:DataW H×List MemPlace}(ht:Tryz.prog.underlying t=some .string)(h:TR enc w n t cs=some x):∃s,cs=[.string s]:=by
 cases n with
 | zero=>cases h
 | succ n =>
  unfold TR DataW.trod at h
  grind
theorem rd_int{n:Nat}{t:TypeId}{cs:List Value}{x:DataW H×List MemPlace}(ht:Tryz.prog.underlying t=some (.int .i64))(h:TR enc w n t cs=some x):∃v:Int,cs=[.int .i64 v]/\IntKind.i64.min<=v/\v<=IntKind.i64.max:=by
 cases n with
 | zero=>cases h
 | succ n =>
  unfold TR DataW.trod at h
  grind [Lit.wf]
theorem rd_slice{α:Type}{row:α->List Value}{ok:α->Prop}{sz n:Nat}{t e:TypeId}{cs:List Value}{x:DataW H×List MemPlace}(ht:Tryz.prog.underlying t=some (.slice e))(hc:Tryz.prog.cellsOf e=sz)(hsz:0<sz)(hrow:∀a,(row a).length=sz)
  (hE:∀m,m<n->∀cs x,TR enc w m e cs=some x->∃a,row a=cs/\ok a) (h:TR enc w n t cs=some x):∃(s:Sl) (xs:List α),cs=[.slice s.p s.n s.c]/\qAd (qBg w) s sz (xs.map row)/\∀a∈xs,ok a:=by
 cases n with
 | zero=>cases h
 | succ n =>
  have key:∀(a:Addr) (len cap:Nat),TR enc w (n+1) t [.slice (some a) len cap]=some x->∃(xs:List α),qAd (qBg w) ⟨some a,len,cap⟩ sz (xs.map row)/\∀a∈xs,ok a:=by
   intro a len cap h
   unfold TR DataW.trod at h
   rw[ht]at h
   simp only at h
   split at h
   case isFalse=>cases h
   rename_i hcond
   simp only[Option.bind_eq_some_iff]at h
   obtain⟨elems,hm,-⟩:=h
   obtain⟨h1,h2⟩:=qFV hm
   have hex:∀i:Fin len,∃y:α,(qBg w).row (a.add (i*sz)) sz=some (row y)/\ok y:=by
    intro i
    obtain⟨b,-,hb⟩:=h2 i i (by simp)
    simp only[Option.bind_eq_some_iff]at hb
    obtain⟨ci,hci,hti⟩:=hb
    obtain⟨y,hy,hok⟩:=hE n (Nat.lt_succ_self n) ci _ hti
    grind [cells_row]
   refine⟨List.ofFn fun i=>Classical.choose (hex i),⟨by simp,hcond.2.1,by grind [maxLen],?_,?_⟩,?_⟩
   ·simp_all
   ·grind
   grind
  have main:cs=[.slice none 0 0]∨∃a len cap,cs=[.slice (some a) len cap]:=by
   unfold TR DataW.trod at h
   grind
  rcases main with rfl|⟨a,len,cap,rfl⟩
  ·exact⟨⟨none,0,0⟩,[],rfl,qAd.nil,by simp⟩
  grind
theorem qBi{n:Nat}{t:TypeId}{fs:Array Field}{cs:List Value}{x:DataW H×List MemPlace}(ht:Tryz.prog.underlying t=some (.struct fs))(h:TR enc w n t cs=some x) :
  cs.length=Tryz.prog.cellsOf t/\∃m,m<n/\∀(i:Nat) (f:Field),fs.toList[i]?=some f->∃y,TR enc w m f.type ((cs.drop f.offset).take (Tryz.prog.cellsOf f.type))=some y:=by
 cases n with
 | zero=>cases h
 | succ n =>
  have key:cs.length=Tryz.prog.cellsOf t->(∃xs,(fs.toList.mapM fun f=>DataW.trod enc Tryz.prog w 0 (fun _=>true) true n f.type ((cs.drop f.offset).take (Tryz.prog.cellsOf f.type)))=some xs) ->
    cs.length=Tryz.prog.cellsOf t/\∃m,m<n+1/\∀(i:Nat) (f:Field),fs.toList[i]?=some f->∃y,TR enc w m f.type ((cs.drop f.offset).take (Tryz.prog.cellsOf f.type))=some y:=by
   rintro hl ⟨xs,hx⟩
   refine⟨hl,n,Nat.lt_succ_self n,fun i f hf=>?_⟩
   obtain⟨-,h2⟩:=qFV hx
   grind
  unfold TR DataW.trod at h
  rw[ht]at h
  split at h
  all_goals first | (rename_i e;cases e;done) | (rename_i e _;cases e;done) | (rename_i e _ _;cases e;done) | (exact absurd rfl ((by assumption:∀fs_1:Array Field,some (TypeDesc.struct fs)=some (TypeDesc.struct fs_1)->False) fs)) | skip
  rename_i e
  cases e
  split at h
  ·rename_i hl
   simp only[Option.map_eq_some_iff]at h
   obtain⟨xs,hx,-⟩:=h
   simp_all
  simp_all
end
end Go.Proofs
namespace Go.Proofs
open Go Go.Sx
section
variable{H:Type}{enc:TypeId×Value->H}{w:World}
theorem at1{cs:List Value}{v:Value}{off m:Nat}{t:TypeId}(h:∃y,TR enc w m t ((cs.drop off).take (Tryz.prog.cellsOf t))=some y)(hc:Tryz.prog.cellsOf t=1)(hv:cs[off]?=some v):∃y,TR enc w m t [v]=some y:=by
 grind [List.getElem?_eq_some_iff,List.drop_eq_getElem_cons]
theorem cl9:Tryz.prog.cellsOf 9=1:=by kernel_rfl
theorem cl3:Tryz.prog.cellsOf 3=1:=by kernel_rfl
theorem cl22:Tryz.prog.cellsOf 22=1:=by kernel_rfl
theorem cl23:Tryz.prog.cellsOf 23=1:=by kernel_rfl
theorem cl24:Tryz.prog.cellsOf 24=1:=by kernel_rfl
theorem cl25:Tryz.prog.cellsOf 25=1:=by kernel_rfl
theorem cl26:Tryz.prog.cellsOf 26=1:=by kernel_rfl
theorem cl27:Tryz.prog.cellsOf 27=1:=by kernel_rfl
theorem cl28:Tryz.prog.cellsOf 28=1:=by kernel_rfl
theorem cl38:Tryz.prog.cellsOf 114=1:=by kernel_rfl
theorem cl52:Tryz.prog.cellsOf 117=1:=by kernel_rfl
theorem cl40:Tryz.prog.cellsOf 116=4:=by kernel_rfl
theorem cl67:Tryz.prog.cellsOf 113=2:=by kernel_rfl
theorem cl94:Tryz.prog.cellsOf 132=2:=by kernel_rfl
theorem cl54:Tryz.prog.cellsOf 121=5:=by kernel_rfl
theorem cl75:Tryz.prog.cellsOf 119=5:=by kernel_rfl
theorem cl97:Tryz.prog.cellsOf 153=7:=by kernel_rfl
theorem cl58:Tryz.prog.cellsOf 156=6:=by kernel_rfl
theorem cl61:Tryz.prog.cellsOf 158=5:=by kernel_rfl
theorem cl64:Tryz.prog.cellsOf 160=5:=by kernel_rfl
theorem cl30:Tryz.prog.cellsOf 30=8:=by kernel_rfl
theorem gS{m:Nat}{v:Value}(h:∃y,TR enc w m 9 [v]=some y):∃s,v=.string s:=by
 obtain⟨y,hy⟩:=h
 obtain⟨s,e⟩:=rd_str Tryz.underlying9 hy
 exact⟨s,by simpa using e⟩
theorem gI{m:Nat}{v:Value}(h:∃y,TR enc w m 3 [v]=some y):∃n:Int,v=.int .i64 n/\IntKind.i64.min<=n/\n<=IntKind.i64.max:=by
 obtain⟨y,hy⟩:=h
 obtain⟨s,e,h1⟩:=rd_int Tryz.underlying3 hy
 exact⟨s,by simpa using e,h1⟩
theorem gSl{α:Type}{row:α->List Value}{ok:α->Prop}{sz m:Nat}{t e:TypeId}{v:Value}(ht:Tryz.prog.underlying t=some (.slice e))(hc:Tryz.prog.cellsOf e=sz)(hsz:0<sz)(hrow:∀a,(row a).length=sz)
  (hE:∀m',m'<m->∀cs x,TR enc w m' e cs=some x->∃a,row a=cs/\ok a) (h:∃y,TR enc w m t [v]=some y):∃(s:Sl) (xs:List α),v=.slice s.p s.n s.c/\qAd (qBg w) s sz (xs.map row)/\∀a∈xs,ok a:=by
 obtain⟨y,hy⟩:=h
 obtain⟨s,xs,e,h1,h2⟩:=rd_slice ht hc hsz hrow hE hy
 grind
theorem len2{cs:List Value}(h:cs.length=2):∃a b,cs=[a,b]:=by
 match cs,h with
 | [a,b],_=>simp_all
theorem len4{cs:List Value}(h:cs.length=4):∃a b c d,cs=[a,b,c,d]:=by
 match cs,h with
 | [a,b,c,d],_=>simp_all
theorem len5{cs:List Value}(h:cs.length=5):∃a b c d e,cs=[a,b,c,d,e]:=by
 match cs,h with
 | [a,b,c,d,e],_=>simp_all
theorem len6{cs:List Value}(h:cs.length=6):∃a b c d e f,cs=[a,b,c,d,e,f]:=by
 match cs,h with
 | [a,b,c,d,e,f],_=>simp_all
theorem len7{cs:List Value}(h:cs.length=7):∃a b c d e f g,cs=[a,b,c,d,e,f,g]:=by
 match cs,h with
 | [a,b,c,d,e,f,g],_=>simp_all
theorem len8{cs:List Value}(h:cs.length=8):∃a b c d e f g i,cs=[a,b,c,d,e,f,g,i]:=by
 match cs,h with
 | [a,b,c,d,e,f,g,i],_=>simp_all
theorem rdFld{n:Nat}{cs:List Value}{x:DataW H×List MemPlace}(h:TR enc w n 113 cs=some x):∃f:Fld,Fld.row f=cs/\True:=by
 obtain⟨hl,m,-,hs⟩:=qBi Tryz.underlying113 h
 obtain⟨a,b,rfl⟩:=len2 (hl.trans cl67)
 obtain⟨s1,rfl⟩:=gS (at1 (hs 0 _ rfl) cl9 rfl)
 obtain⟨s2,rfl⟩:=gS (at1 (hs 1 _ rfl) cl9 rfl)
 exact⟨⟨s1,s2⟩,rfl,trivial⟩
theorem rdE:∀(n:Nat) (cs:List Value) (x:DataW H×List MemPlace),TR enc w n 116 cs=some x->∃e:E,E.row e=cs/\E.Ok (qBg w) e:=by
 intro n
 induction n using Nat.strongRecOn with
 | _ n ih =>
 intro cs x h
 obtain⟨hl,m,hm,hs⟩:=qBi Tryz.underlying116 h
 obtain⟨a,b,c,d,rfl⟩:=len4 (hl.trans cl40)
 obtain⟨op,rfl,ho⟩:=gI (at1 (hs 0 _ rfl) cl3 rfl)
 obtain⟨nn,rfl,hn⟩:=gI (at1 (hs 1 _ rfl) cl3 rfl)
 obtain⟨s,rfl⟩:=gS (at1 (hs 2 _ rfl) cl9 rfl)
 obtain⟨l,k,rfl,hr,hk⟩:=gSl (row:=E.row) (ok:=E.Ok (qBg w)) Tryz.underlying114 cl40 (by decide) (fun _=>rfl) (fun m' hm'=>ih m' (by omega)) (at1 (hs 3 _ rfl) cl38 rfl)
 exact⟨.mk op nn s l k,rfl,.mk hr hk ho hn⟩
theorem S.row_len:∀s:S,(S.row s).length=5:=fun s=>by cases s;rfl
theorem rdS:∀(n:Nat) (cs:List Value) (x:DataW H×List MemPlace),TR enc w n 119 cs=some x->∃e:S,S.row e=cs/\S.Ok (qBg w) e:=by
 intro n
 induction n using Nat.strongRecOn with
 | _ n ih =>
 intro cs x h
 obtain⟨hl,m,hm,hs⟩:=qBi Tryz.underlying119 h
 obtain⟨a,b,c,d,e,rfl⟩:=len5 (hl.trans cl75)
 obtain⟨op,rfl,ho⟩:=gI (at1 (hs 0 _ rfl) cl3 rfl)
 obtain⟨s,rfl⟩:=gS (at1 (hs 1 _ rfl) cl9 rfl)
 obtain⟨el,es,rfl,hr1,hk1⟩:=gSl (row:=E.row) (ok:=E.Ok (qBg w)) Tryz.underlying114 cl40 (by decide) (fun _=>rfl) (fun m' _=>rdE m') (at1 (hs 2 _ rfl) cl38 rfl)
 obtain⟨ll,ls,rfl,hr2,hk2⟩:=gSl (row:=S.row) (ok:=S.Ok (qBg w)) Tryz.underlying117 cl75 (by decide) S.row_len (fun m' hm'=>ih m' (by omega)) (at1 (hs 3 _ rfl) cl52 rfl)
 obtain⟨xl,xs,rfl,hr3,hk3⟩:=gSl (row:=S.row) (ok:=S.Ok (qBg w)) Tryz.underlying117 cl75 (by decide) S.row_len (fun m' hm'=>ih m' (by omega)) (at1 (hs 4 _ rfl) cl52 rfl)
 exact⟨.mk op s el es ll ls xl xs,rfl,.mk hr1 hk1 hr2 hk2 hr3 hk3 ho⟩
theorem gF{m:Nat}{v:Value}(h:∃y,TR enc w m 23 [v]=some y):∃(s:Sl) (xs:List Fld),v=.slice s.p s.n s.c/\qAd (qBg w) s 2 (xs.map Fld.row):=by
 obtain⟨s,xs,h1,h2,-⟩:=gSl (row:=Fld.row) (ok:=fun _=>True) Tryz.underlying23 cl67 (by decide) (fun _=>rfl) (fun _ _ _ _=>rdFld) h
 grind
theorem rdTy{n:Nat}{cs:List Value}{x:DataW H×List MemPlace}(h:TR enc w n 132 cs=some x):∃f:Ty,Ty.row f=cs/\Ty.Ok (qBg w) f:=by
 obtain⟨hl,m,-,hs⟩:=qBi Tryz.underlying132 h
 obtain⟨a,b,rfl⟩:=len2 (hl.trans cl94)
 obtain⟨s1,rfl⟩:=gS (at1 (hs 0 _ rfl) cl9 rfl)
 obtain⟨l,k,rfl,hr⟩:=gF (at1 (hs 1 _ rfl) cl23 rfl)
 exact⟨⟨s1,l,k⟩,rfl,⟨hr⟩⟩
theorem rdPr{n:Nat}{cs:List Value}{x:DataW H×List MemPlace}(h:TR enc w n 121 cs=some x):∃f:Pr,Pr.row f=cs/\Pr.Ok (qBg w) f:=by
 obtain⟨hl,m,-,hs⟩:=qBi Tryz.underlying121 h
 obtain⟨a,b,c,d,e,rfl⟩:=len5 (hl.trans cl54)
 obtain⟨s1,rfl⟩:=gS (at1 (hs 0 _ rfl) cl9 rfl)
 obtain⟨l1,k1,rfl,hr1⟩:=gF (at1 (hs 1 _ rfl) cl23 rfl)
 obtain⟨s2,rfl⟩:=gS (at1 (hs 2 _ rfl) cl9 rfl)
 obtain⟨l2,k2,rfl,hr2⟩:=gF (at1 (hs 3 _ rfl) cl23 rfl)
 obtain⟨l3,k3,rfl,hr3,hk3⟩:=gSl (row:=S.row) (ok:=S.Ok (qBg w)) Tryz.underlying117 cl75 (by decide) S.row_len (fun m' _=>rdS m') (at1 (hs 4 _ rfl) cl52 rfl)
 exact⟨⟨s1,l1,k1,s2,l2,k2,l3,k3⟩,rfl,⟨hr1,hr2,hr3,hk3⟩⟩
theorem rdMs{n:Nat}{cs:List Value}{x:DataW H×List MemPlace}(h:TR enc w n 153 cs=some x):∃f:Ms,Ms.row f=cs/\Ms.Ok (qBg w) f:=by
 obtain⟨hl,m,-,hs⟩:=qBi Tryz.underlying153 h
 obtain⟨a,b,c,d,e,f,g,rfl⟩:=len7 (hl.trans cl97)
 obtain⟨s1,rfl⟩:=gS (at1 (hs 0 _ rfl) cl9 rfl)
 obtain⟨s2,rfl⟩:=gS (at1 (hs 1 _ rfl) cl9 rfl)
 obtain⟨nn,rfl,hn⟩:=gI (at1 (hs 2 _ rfl) cl3 rfl)
 obtain⟨y,hy⟩:=hs 3 _ rfl
 change TR enc w m 116 (([Value.string s1,.string s2,.int .i64 nn,d,e,f,g].drop 3).take (Tryz.prog.cellsOf 116))=some y at hy
 rw[cl40]at hy
 obtain⟨x,hx,hxo⟩:=rdE m _ _ hy
 simp only[List.drop_succ_cons,List.drop_zero,List.take_succ_cons,List.take_zero,E.row,List.cons.injEq,and_true]at hx
 obtain⟨rfl,rfl,rfl,rfl⟩:=hx
 exact⟨⟨s1,s2,nn,x⟩,rfl,⟨hxo,hn⟩⟩
theorem rdIv{n:Nat}{cs:List Value}{x:DataW H×List MemPlace}(h:TR enc w n 156 cs=some x):∃f:Iv,Iv.row f=cs/\E.Ok (qBg w) f.x:=by
 obtain⟨hl,m,-,hs⟩:=qBi Tryz.underlying156 h
 obtain⟨a,b,d,e,f,g,rfl⟩:=len6 (hl.trans cl58)
 obtain⟨s1,rfl⟩:=gS (at1 (hs 0 _ rfl) cl9 rfl)
 obtain⟨s2,rfl⟩:=gS (at1 (hs 1 _ rfl) cl9 rfl)
 obtain⟨y,hy⟩:=hs 2 _ rfl
 change TR enc w m 116 (([Value.string s1,.string s2,d,e,f,g].drop 2).take (Tryz.prog.cellsOf 116))=some y at hy
 rw[cl40]at hy
 obtain⟨x,hx,hxo⟩:=rdE m _ _ hy
 simp only[List.drop_succ_cons,List.drop_zero,List.take_succ_cons,List.take_zero,E.row,List.cons.injEq,and_true]at hx
 obtain⟨rfl,rfl,rfl,rfl⟩:=hx
 exact⟨⟨s1,s2,x⟩,rfl,hxo⟩
theorem rdPo{n:Nat}{cs:List Value}{x:DataW H×List MemPlace}(h:TR enc w n 158 cs=some x):∃f:Po,Po.row f=cs/\E.Ok (qBg w) f.x:=by
 obtain⟨hl,m,-,hs⟩:=qBi Tryz.underlying158 h
 obtain⟨a,d,e,f,g,rfl⟩:=len5 (hl.trans cl61)
 obtain⟨s1,rfl⟩:=gS (at1 (hs 0 _ rfl) cl9 rfl)
 obtain⟨y,hy⟩:=hs 1 _ rfl
 change TR enc w m 116 (([Value.string s1,d,e,f,g].drop 1).take (Tryz.prog.cellsOf 116))=some y at hy
 rw[cl40]at hy
 obtain⟨x,hx,hxo⟩:=rdE m _ _ hy
 simp only[List.drop_succ_cons,List.drop_zero,List.take_succ_cons,List.take_zero,E.row,List.cons.injEq,and_true]at hx
 obtain⟨rfl,rfl,rfl,rfl⟩:=hx
 exact⟨⟨s1,x⟩,rfl,hxo⟩
theorem rdBd{n:Nat}{cs:List Value}{x:DataW H×List MemPlace}(h:TR enc w n 160 cs=some x):∃f:Bd,Bd.row f=cs/\E.Ok (qBg w) f.x:=by
 obtain⟨hl,m,-,hs⟩:=qBi Tryz.underlying160 h
 obtain⟨a,d,e,f,g,rfl⟩:=len5 (hl.trans cl64)
 obtain⟨s1,rfl⟩:=gS (at1 (hs 0 _ rfl) cl9 rfl)
 obtain⟨y,hy⟩:=hs 1 _ rfl
 change TR enc w m 116 (([Value.string s1,d,e,f,g].drop 1).take (Tryz.prog.cellsOf 116))=some y at hy
 rw[cl40]at hy
 obtain⟨x,hx,hxo⟩:=rdE m _ _ hy
 simp only[List.drop_succ_cons,List.drop_zero,List.take_succ_cons,List.take_zero,E.row,List.cons.injEq,and_true]at hx
 obtain⟨rfl,rfl,rfl,rfl⟩:=hx
 exact⟨⟨s1,x⟩,rfl,hxo⟩
theorem rdDs{n:Nat}{cs:List Value}{x:DataW H×List MemPlace}(h:TR enc w n 30 cs=some x):∃d:Ds,d.row=cs/\Ds.Ok (qBg w) d:=by
 obtain⟨hl,m,-,hs⟩:=qBi Tryz.underlying30 h
 obtain⟨a,b,c,d,e,f,g,i,rfl⟩:=len8 (hl.trans cl30)
 obtain⟨s1,rfl⟩:=gS (at1 (hs 0 _ rfl) cl9 rfl)
 obtain⟨l1,k1,rfl,h1,o1⟩:=gSl (row:=Ty.row) (ok:=Ty.Ok (qBg w)) Tryz.underlying22 cl94 (by decide) (fun _=>rfl) (fun _ _ _ _=>rdTy) (at1 (hs 1 _ rfl) cl22 rfl)
 obtain⟨l2,k2,rfl,h2⟩:=gF (at1 (hs 2 _ rfl) cl23 rfl)
 obtain⟨l3,k3,rfl,h3,o3⟩:=gSl (row:=Pr.row) (ok:=Pr.Ok (qBg w)) Tryz.underlying24 cl54 (by decide) (fun _=>rfl) (fun _ _ _ _=>rdPr) (at1 (hs 3 _ rfl) cl24 rfl)
 obtain⟨l4,k4,rfl,h4,o4⟩:=gSl (row:=Ms.row) (ok:=Ms.Ok (qBg w)) Tryz.underlying25 cl97 (by decide) (fun _=>rfl) (fun _ _ _ _=>rdMs) (at1 (hs 4 _ rfl) cl25 rfl)
 obtain⟨l5,k5,rfl,h5,o5⟩:=gSl (row:=Iv.row) (ok:=fun f=>E.Ok (qBg w) f.x) Tryz.underlying26 cl58 (by decide) (fun _=>rfl) (fun _ _ _ _=>rdIv) (at1 (hs 5 _ rfl) cl26 rfl)
 obtain⟨l6,k6,rfl,h6,o6⟩:=gSl (row:=Po.row) (ok:=fun f=>E.Ok (qBg w) f.x) Tryz.underlying27 cl61 (by decide) (fun _=>rfl) (fun _ _ _ _=>rdPo) (at1 (hs 6 _ rfl) cl27 rfl)
 obtain⟨l7,k7,rfl,h7,o7⟩:=gSl (row:=Bd.row) (ok:=fun f=>E.Ok (qBg w) f.x) Tryz.underlying28 cl64 (by decide) (fun _=>rfl) (fun _ _ _ _=>rdBd) (at1 (hs 7 _ rfl) cl28 rfl)
 exact⟨⟨s1,l1,k1,l2,k2,l3,k3,l4,k4,l5,k5,l6,k6,l7,k7⟩,rfl,⟨h1,o1,h2,h3,o3,h4,o4,h5,o5,h6,o6,h7,o7⟩⟩
end
end Go.Proofs
namespace Go.Proofs.YtginfholjbbgeaaGreatDoor
open Go Go.Sx Go.Proofs Go.ChangeShapes Go.WideShapes Go.ChangeAt Go.RowKit
theorem same_old{P:Program}{f:FuncId}{args:List Value}{W:World}{v:Value}(h:Pur P f args (qBg W) v):Calls P f args.toArray W fun e W'=>e=.returned v/\W'.os=W.os/\W'.output=W.output/\W.heap.size<=W'.heap.size/\∀b,b<W.heap.size->W'.heap[b]?=W.heap[b]?:=by
 have h2:Tri P f args.toArray (qBg W) fun e V'=>e=.returned v/\V'=qBg W:=h
 unfold Tri at h2
 refine qCO (h2 W (heapM_le W)) ?_
 rintro e W' ⟨V',⟨rfl,rfl⟩,hF⟩
 refine⟨rfl,hF.os,hF.out,hF.size,fun b hb=>?_⟩
 have:qBg W b=some W.heap[b]:=Array.getElem?_eq_getElem hb
 rw[hF.le b _ this];exact this.symm
theorem Tryz.own:ownKnob Tryz.prog.godebug=none:=by kernel_rfl
theorem Tryz.laidOut:laidOutB Tryz.prog=true:=by kernel_rfl
theorem tab_of{W:World}(h:Lib.TabIs Tryz.prog W "strings.asciiSpace" .u8 Lib.asciiSpaceTab):Tab (qBg W):=by
 have hg:Tryz.prog.globalNamed "strings.asciiSpace" = some 0:=by kernel_rfl
 unfold Lib.TabIs World.var? at h
 rw[hg,Option.bind_some]at h
 split at h
 ·rename_i cs t fr hb
  simp only[Option.some.injEq]at h
  exact⟨t,fr,by rw[<- h];exact hb⟩
 ·cases h
theorem desc_of{H:Type}{enc:TypeId×Value->H}{W:World}{v:Value}{d0:DataW H}{p:List MemPlace}(h:DataW.Trod enc Tryz.prog W 0 (fun _=>true) true 30 v d0 p):∃d:Ds,v=d.v/\Ds.Ok (qBg W) d:=by
 obtain⟨fuel,h⟩:=h
 obtain⟨d,hd,hok⟩:=rdDs h
 refine⟨d,?_,hok⟩
 have hl:v.cells.toList.length=8:=by rw[<- hd];rfl
 cases v with
 | agg cs =>
  have:cs.toList=d.row:=hd.symm
  show Value.agg cs=.agg d.row.toArray
  rw[<- this]
 | _=>simp[Value.cells]at hl
noncomputable def laidWorld(os:Os):World :=
 let w0:=World.holding Tryz.prog os ⟨#[.cells #[.int .u16 9,.int .u16 13,.int .u16 1,.int .u16 32,.int .u16 133,.int .u16 101,.int .u16 160,.int .u16 5760,.int .u16 5600,.int .u16 8192,.int .u16 8202,.int .u16 1,.int .u16 8232,.int .u16 8233,.int .u16 1,.int .u16 8239,.int .u16 8287,.int .u16 48,.int .u16 12288,.int .u16 12288,.int .u16 1] 344,
  .cells #[.slice (some ⟨(World.settled Tryz.prog os).heap.size,0,none⟩) 7 7,.slice none 0 0,.int .i64 2] 342],#[],[]⟩
 {w0 with heap:=(w0.heap.modify 0 fun
   | .cells _ t frozen=>.cells (Lib.asciiSpaceTab.map fun z=>Value.int .u8 z).toArray t frozen
   | o=>o).modify 1 fun
   | .cells _ t frozen=>.cells #[.pointer (some ⟨(World.settled Tryz.prog os).heap.size+1,0,none⟩)] t frozen
   | o=>o }
theorem qKm(os:Os)(args:Array Value):laidMet Tryz.prog [("unicode.White_Space",Rows.laid_unicode_White_Space),("strings.asciiSpace",Rows.laid_strings_asciiSpace)] ((laidWorld os).forCall (fun _ _=>0) ⟨#[],args,[]⟩).memory :=
 (LaidIn.of_run [0,1,(World.settled Tryz.prog os).heap.size,(World.settled Tryz.prog os).heap.size+1] 12 (by kernel_rfl) (by kernel_rfl) (by kernel_rfl) (by kernel_rfl)).met
end Go.Proofs.YtginfholjbbgeaaGreatDoor
namespace Go.Proofs.YtginfholjbbgeaaGreatDoor
open Go Go.Sx Go.Proofs Go.ChangeShapes Go.WideShapes Go.ChangeAt Go.RowKit
abbrev laid0:List (String×DataW Unit):=[("unicode.White_Space",Rows.laid_unicode_White_Space),("strings.asciiSpace",Rows.laid_strings_asciiSpace)]
theorem qHb{w:World}:laidMetH Tryz.prog laid0 w↔laidMet Tryz.prog laid0 w:=by
 rfl
theorem tab_laid{W:World}(h:laidMet Tryz.prog laid0 W):Tab (qBg W):=by
 obtain⟨ps,h1,h2,h3⟩:=h
 obtain⟨g,t,cs,fuel,p,q,hg,ht,hvar,hd,hrest,hps⟩:=h1
 obtain⟨g',t',cs',fuel',p',q',hg',ht',hvar',hd',hrest',hps'⟩:=hrest
 refine tab_of ?_
 unfold Lib.TabIs
 rw[hvar']
 have hgg:g'=0:=Option.some.inj (hg'.symm.trans (show Tryz.prog.globalNamed "strings.asciiSpace" = some 0 by kernel_rfl))
 subst hgg
 have htt:t'=325:=Option.some.inj (ht'.symm.trans (show (Tryz.prog.globals[0]?).map (·.type)=some 325 by kernel_rfl))
 subst htt
 have hdat:(Rows.laid_strings_asciiSpace:DataW Unit)=Lib.tabData .u8 Lib.asciiSpaceTab:=by kernel_rfl
 rw[hdat]at hd'
 rw[<- Lib.cells_of_tab (n:=256) (e:=5) Tryz.underlying325 Tryz.underlying5 (by kernel_rfl) (by kernel_rfl) hd']
theorem kept{W W':World}(h1:W'.os=W.os)(h2:W'.output=W.output)(hold:∀b,b<W.heap.size->W'.heap[b]?=W.heap[b]?)(may:MemPlace->Prop):W.keptBut W' may:=by
 refine⟨h1,h2,fun i hi=>?_⟩
 grind
theorem again_arg{H:Type}{enc:TypeId×Value->H}{t:TypeId}(hr:Tryz.prog.readableRec t=true)(hrow:t<Tryz.prog.types.size){W W':World}{v:Value}{d:DataW H}{ps:List MemPlace}(h:DataW.Trod enc Tryz.prog W 0 (fun _=>true) true t v d ps)
  (hold:∀b,b<W.heap.size->W'.heap[b]?=W.heap[b]?) (hlt:∀x∈ps,x.block<W.heap.size):DataW.Trod enc Tryz.prog W' 0 (fun b=>decide (b<W.heap.size)) true t v d ps :=
 WideElems.Trod_stays Tryz.laidOut hr hrow h (fun x hx=>by
  have:=hlt x hx
  cases x with
  | cell b o=>exact World.cell?_of_block (w:=W) (hold b this)
  | map b=>exact hold b this) (fun x hx=>by simp_all)
theorem wit{C:Checked}{os:Os}{f:FuncId}{fn:Func}{s:ChangeSpec}{conds:List PathCond}{apart:Bool}{X:World->Array Value->Prop}{H:Type}{enc:TypeId×Value->H}(w0:World)(args:Array Value)(fuel:Nat)(hos:w0.os=os)
  (hv:(w0.forCall (fun _ _=>0) ⟨#[],args,[]⟩).variablesRefB C.prog=true)
  (hr:((w0.forCall (fun _ _=>0) ⟨#[],args,[]⟩).heap.toList.drop C.prog.globals.size).take ((begin C.prog (fun _ _=>0) default).world.heap.size-C.prog.globals.size) =
   (begin C.prog (fun _ _=>0) default).world.heap.toList.drop C.prog.globals.size)
  (hok:Input.okWideB C.prog (w0.forCall (fun _ _=>0) ⟨#[],args,[]⟩) f ⟨#[],args,[]⟩=true)
  (hpre:s.preB enc C.prog fn conds apart (w0.forCall (fun _ _=>0) ⟨#[],args,[]⟩).memory args fuel=true)
  (hsz:s.sizedB enc C.prog fn apart (w0.forCall (fun _ _=>0) ⟨#[],args,[]⟩).memory args fuel=true)
  (hx:X (w0.forCall (fun _ _=>0) ⟨#[],args,[]⟩).memory args) :
  ∃(w:World) (tape:Tape) (i:Input),w.os=os/\(w.forCall tape i).Shaped C.prog/\i.vars=[]/\Input.okWide C.prog (w.forCall tape i) .any w.heap.size f i /\
   ((s.pre enc C.prog fn conds apart (w.forCall tape i).memory i.args/\X (w.forCall tape i).memory i.args)/\sizedMet enc C.prog fn (OpenSpec.ofChange s) apart (w.forCall tape i).memory i.args)/\({}:Assume).holds C.prog (lone (Frame.enter C.prog f i.args .normal) [] (w.forCall tape i)) :=
 ⟨w0,fun _ _=>0,⟨#[],args,[]⟩,hos,World.shaped_of_RefB hv hr,(Input.okWide_of_okWideB (base:=0) hok).1,(Input.okWide_of_okWideB hok).2,⟨⟨ChangeSpec.pre_of_preB hpre,hx⟩,sizedMet_of_sizedB hsz⟩,by
  grind [Assume.holds]⟩
theorem again_all{H:Type}{enc:TypeId×Value->H}{W W':World}(hold:∀b,b<W.heap.size->W'.heap[b]?=W.heap[b]?):∀{ts:List TypeId} {vs:List Value} {ds:List (DataW H)} {ps:List MemPlace},(∀t∈ts,Tryz.prog.readableRec t=true/\t<Tryz.prog.types.size) ->
  DataW.TrodAll enc Tryz.prog W 0 (fun _=>true) true ts vs ds ps->(∀x∈ps,x.block<W.heap.size)->DataW.TrodAll enc Tryz.prog W' 0 (fun b=>decide (b<W.heap.size)) true ts vs ds ps
 | [],_,_,_,_,h,_=>by
  obtain⟨rfl,rfl,rfl⟩:=trodAll_nil h
  rfl
 | t::ts,_,_,_,hr,h,hlt=>by
  obtain⟨v,vs,d,ds,p,q,rfl,rfl,rfl,h1,h2⟩:=trodAll_cons h
  exact⟨p,q,again_arg (hr t (by simp)).1 (hr t (by simp)).2 h1 hold (fun x hx=>hlt x (List.mem_append_left _ hx)),again_all hold (fun u hu=>hr u (by simp[hu])) h2 (fun x hx=>hlt x (List.mem_append_right _ hx)),rfl⟩
end Go.Proofs.YtginfholjbbgeaaGreatDoor
namespace Go.Proofs.YtginfholjbbgeaaGreatDoor
open Go Go.Sx Go.Proofs Go.ChangeShapes Go.WideShapes Go.ChangeAt Go.RowKit
section
variable{H:Type}{enc:TypeId×Value->H}{w:World}
theorem cl31:Tryz.prog.cellsOf 31=1:=by kernel_rfl
theorem clNd:Tryz.prog.cellsOf 104=2:=by kernel_rfl
theorem clNds:Tryz.prog.cellsOf 32=1:=by kernel_rfl
theorem clMm:Tryz.prog.cellsOf 34=2:=by kernel_rfl
theorem gInts{m:Nat}{v:Value}(h:∃y,TR enc w m 31 [v]=some y):∃(s:Sl) (xs:List Int),v=.slice s.p s.n s.c/\qAd (qBg w) s 1 (xs.map qAo)/\∀x∈xs,inI x :=
 gSl (row:=qAo) (ok:=inI) Tryz.underlying31 cl3 (by decide) (fun _=>rfl) (fun m' _ cs x hx=>by
  obtain⟨n,rfl,hn⟩:=rd_int Tryz.underlying3 hx
  exact⟨n,rfl,hn⟩) h
theorem rdNd{n:Nat}{cs:List Value}{x:DataW H×List MemPlace}(h:TR enc w n 104 cs=some x):∃f:Nd,Nd.row f=cs/\Nd.Ok (qBg w) f:=by
 obtain⟨hl,m,-,hs⟩:=qBi Tryz.underlying104 h
 obtain⟨a,b,rfl⟩:=len2 (hl.trans clNd)
 obtain⟨t,rfl,ht⟩:=gI (at1 (hs 0 _ rfl) cl3 rfl)
 obtain⟨l,k,rfl,hr,hk⟩:=gInts (at1 (hs 1 _ rfl) cl31 rfl)
 exact⟨⟨t,l,k⟩,rfl,⟨hr,ht,hk⟩⟩
theorem rdMm{n:Nat}{cs:List Value}{x:DataW H×List MemPlace}(h:TR enc w n 34 cs=some x):∃m:Mm,m.row=cs/\Mm.Ok (qBg w) m:=by
 obtain⟨hl,m,-,hs⟩:=qBi Tryz.underlying34 h
 obtain⟨a,b,rfl⟩:=len2 (hl.trans clMm)
 obtain⟨l1,k1,rfl,h1,o1⟩:=gInts (at1 (hs 0 _ rfl) cl31 rfl)
 obtain⟨l2,k2,rfl,h2,o2⟩:=gSl (row:=Nd.row) (ok:=Nd.Ok (qBg w)) Tryz.underlying32 clNd (by decide) (fun _=>rfl) (fun _ _ _ _=>rdNd) (at1 (hs 1 _ rfl) clNds rfl)
 exact⟨⟨l1,k1,l2,k2⟩,rfl,⟨h1,o1,h2,o2⟩⟩
theorem clCl:Tryz.prog.cellsOf 48=2:=by kernel_rfl
theorem rdCl{n:Nat}{cs:List Value}{x:DataW H×List MemPlace}(h:TR enc w n 48 cs=some x):∃(nm:ByteArray) (l:Sl) (xs:List Int),[Value.string nm,l.v]=cs/\qAd (qBg w) l 1 (xs.map qAo):=by
 obtain⟨hl,m,-,hs⟩:=qBi Tryz.underlying48 h
 obtain⟨a,b,rfl⟩:=len2 (hl.trans clCl)
 obtain⟨t,rfl⟩:=gS (at1 (hs 0 _ rfl) cl9 rfl)
 obtain⟨l,k,rfl,hr,-⟩:=gInts (at1 (hs 1 _ rfl) cl31 rfl)
 exact⟨t,l,k,rfl,hr⟩
end
theorem mem_of{H:Type}{enc:TypeId×Value->H}{W:World}{v:Value}{d0:DataW H}{p:List MemPlace}(h:DataW.Trod enc Tryz.prog W 0 (fun _=>true) true 34 v d0 p):∃m:Mm,v=m.v/\Mm.Ok (qBg W) m:=by
 obtain⟨fuel,h⟩:=h
 obtain⟨m,hm,hok⟩:=rdMm h
 refine⟨m,?_,hok⟩
 have hl:v.cells.toList.length=2:=by rw[<- hm];rfl
 cases v with
 | agg cs =>
  have:cs.toList=m.row:=hm.symm
  show Value.agg cs=.agg m.row.toArray
  rw[<- this]
 | _=>simp[Value.cells]at hl
end Go.Proofs.YtginfholjbbgeaaGreatDoor
namespace Go.Proofs
open Go Go.Sx
structure En where
 node:Int
 field:Int
 old:Int
 new:Int
 al:Bool
 typ:Int
 size:Int
def qHp(x:Gm)(n i:Nat):Int:=if n=0 then x.1.getD i 0 else ((x.2.getD (n-1) (0,[])).2).getD i 0
def qJi(x:Gm)(n i:Nat)(v:Int):Gm:=if n=0 then (x.1.set i v,x.2) else match x.2[n-1]? with
 | some y=>(x.1,x.2.set (n-1) (y.1,y.2.set i v))
 | none=>x
def qIM(x:Gm)(e:En):Gm:=if e.al=true then (x.1,x.2.take (e.node-1).toNat) else qJi x e.node.toNat e.field.toNat e.old
def qHo(x:Gm)(e:En):Gm:=if e.al=true then (x.1,x.2++[(e.typ,List.replicate e.size.toNat 0)]) else qJi x e.node.toNat e.field.toNat e.new
def qKB(d:Ds)(b a:Gm)(t:Int×Int×Int):List En :=
 if t.1=2 then [⟨t.2.1,t.2.2,qHp b t.2.1.toNat t.2.2.toNat,qHp a t.2.1.toNat t.2.2.toNat,false,0,0⟩]
 else if t.1=3 then [⟨t.2.1,0,0,0,true,t.2.2,((qAr d t.2.2).length:Int)⟩] else []
def qBP(d:Ds)(b a:Gm)(l:List (Int×Int×Int)):List En:=l.flatMap (qKB d b a)
def Sh(u x:Gm):Prop:=u.1.length=x.1.length/\(u.2.map fun y=>(y.1,y.2.length))=x.2.map fun y=>(y.1,y.2.length)
def Qp(B:Nat->Nat->Int)(u x:Gm):Prop:=Sh u x/\∀n i,qHp u n i=qHp x n i∨qHp u n i=B n i
section
variable{u x y:Gm}{B:Nat->Nat->Int}
theorem Sh.refl(x:Gm):Sh x x:=⟨rfl,rfl⟩
theorem Sh.len(h:Sh u x):u.2.length=x.2.length:=by have:=congrArg List.length h.2;simpa using this
theorem Sh.at_(h:Sh u x){k:Nat}{t:Int}{f:List Int}(hk:x.2[k]?=some (t,f)):∃f',u.2[k]?=some (t,f')/\f'.length=f.length:=by
 have h2:=congrArg (fun l=>l[k]?) h.2
 grind
theorem Sh.symm(h:Sh u x):Sh x u:=⟨h.1.symm,h.2.symm⟩
theorem loc_g(x:Gm)(i:Nat):qHp x 0 i=x.1.getD i 0:=rfl
theorem qKk(x:Gm)(k i:Nat):qHp x (k+1) i=((x.2.getD k (0,[])).2).getD i 0:=rfl
theorem loc_at{k i:Nat}{t:Int}{f:List Int}(h:x.2[k]?=some (t,f)):qHp x (k+1) i=f.getD i 0:=by
 grind [qKk]
theorem ext_loc(h:Sh u x)(hl:∀n i,qHp u n i=qHp x n i):u=x:=by
 refine Prod.ext (List.ext_getElem? fun i=>?_) (List.ext_getElem? fun k=>?_)
 ·have:=hl 0 i
  rw[loc_g,loc_g,List.getD_eq_getElem?_getD,List.getD_eq_getElem?_getD]at this
  by_cases hi:i<x.1.length
  ·rw[List.getElem?_eq_getElem hi,List.getElem?_eq_getElem (h.1 ▸ hi)]at this ⊢
   simp_all
  ·have h1:=h.1
   simp_all
 ·cases hk:x.2[k]? with
  | none =>
   rw[List.getElem?_eq_none_iff]at hk ⊢
   rw[h.len];exact hk
  | some y =>
   obtain⟨f',h1,h2⟩:=h.at_ (t:=y.1) (f:=y.2) hk
   rw[h1]
   refine congrArg some (Prod.ext rfl (List.ext_getElem? fun i=>?_))
   have:=hl (k+1) i
   rw[loc_at h1,loc_at (t:=y.1) (f:=y.2) hk,List.getD_eq_getElem?_getD,List.getD_eq_getElem?_getD]at this
   grind
theorem Qp.eq(h:Qp (qHp x) u x):u=x:=ext_loc h.1 fun n i=>(h.2 n i).elim id id
theorem getD_sett{l:List Int}{i j:Nat}{v:Int}(hi:i<l.length):(l.set i v).getD j 0=if j=i then v else l.getD j 0:=by
 grind
theorem set_g(x:Gm)(i:Nat)(v:Int):qJi x 0 i v=(x.1.set i v,x.2):=rfl
theorem set_n{k i:Nat}{t v:Int}{f:List Int}(h:x.2[k]?=some (t,f)):qJi x (k+1) i v=(x.1,x.2.set k (t,f.set i v)):=by
 grind [qJi]
theorem qJh{n i:Nat}{v:Int}:Sh (qJi x n i v) x:=by
 unfold qJi
 split
 ·exact⟨by simp,rfl⟩
 ·split
  ·rename_i y hy
   refine⟨rfl,List.ext_getElem? fun k=>?_⟩
   grind
  ·exact Sh.refl x
def InP(x:Gm)(n i:Nat):Prop:=(n=0/\i<x.1.length)∨∃k t f,n=k+1/\x.2[k]?=some (t,f)/\i<f.length
theorem InP.sh{n i:Nat}(h:InP x n i)(hs:Sh u x):InP u n i:=by
 rcases h with⟨rfl,h⟩|⟨k,t,f,rfl,h1,h2⟩
 ·exact .inl ⟨rfl,by rw[hs.1];exact h⟩
 ·obtain⟨f',e1,e2⟩:=hs.at_ h1
  exact .inr ⟨k,t,f',rfl,e1,by omega⟩
theorem qKj{n i:Nat}{v:Int}(h:InP x n i)(m j:Nat):qHp (qJi x n i v) m j=if m=n/\j=i then v else qHp x m j:=by
 rcases h with⟨rfl,h⟩|⟨k,t,f,rfl,h1,h2⟩
 ·rw[set_g]
  cases m with
  | zero =>
   rw[loc_g,loc_g,getD_sett h]
   omega
  | succ m=>rfl
 ·rw[set_n h1]
  cases m with
  | zero=>rfl
  | succ m =>
   by_cases hm:m=k
   ·subst hm
    have hl:=(List.getElem?_eq_some_iff.1 h1).1
    rw[loc_at (x:=(x.1,x.2.set m (t,f.set i v))) (t:=t) (f:=f.set i v) (by simp_all),loc_at h1,getD_sett h2]
    omega
   simp_all [qKk,if_neg,List.getD_eq_getElem?_getD,List.getElem?_set_ne,Ne.symm]
theorem Sh.trans{z:Gm}(h:Sh u x)(k:Sh x z):Sh u z:=⟨h.1.trans k.1,h.2.trans k.2⟩
theorem Qp.fwd{n i:Nat}{v:Int}(h:Qp B u x)(hi:InP x n i):Qp B (qJi u n i (B n i)) (qJi x n i v):=⟨(qJh.trans h.1).trans qJh.symm,fun m j=>by
 rw[qKj (hi.sh h.1),qKj hi]
 by_cases e:m=n/\j=i
 ·simp_all
 ·rw[if_neg e,if_neg e];exact h.2 m j⟩
theorem Qp.bwd{n i:Nat}{v:Int}(h:Qp B u (qJi x n i v))(hi:InP x n i):Qp B (qJi u n i (B n i)) x:=by
 have hs:Sh u x:=h.1.trans qJh
 refine⟨qJh.trans hs,fun m j=>?_⟩
 have h2:=h.2 m j
 rw[qKj hi]at h2
 rw[qKj (hi.sh hs)]
 grind
theorem getD_app{α:Type}{l l':List α}{i:Nat}{a:α}:(l++l').getD i a=if i<l.length then l.getD i a else l'.getD (i-l.length) a:=by
 grind
theorem Qp.app{n:Int×List Int}(h:Qp B u x):Qp B (u.1,u.2++[n]) (x.1,x.2++[n]):=⟨⟨h.1.1,by simp[h.1.2]⟩,fun m j=>by
 cases m with
 | zero=>exact h.2 0 j
 | succ m =>
  rw[qKk,qKk]
  show ((u.2++[n]).getD m _).2.getD j 0=((x.2++[n]).getD m _).2.getD j 0∨_
  rw[getD_app,getD_app,h.1.len]
  split
  ·have:=h.2 (m+1) j
   grind [qKk,inr]
  omega⟩
theorem Qp.cut{n:Int×List Int}(h:Qp B u (x.1,x.2++[n])):Qp B (u.1,u.2.take x.2.length) x:=by
 have hl:=h.1.len
 have hl:u.2.length=x.2.length+1:=by rw[hl];simp
 refine⟨⟨h.1.1,?_⟩,fun m j=>?_⟩
 ·have:=congrArg (List.take x.2.length) h.1.2
  simp_all
 ·cases m with
  | zero=>exact h.2 0 j
  | succ m =>
   rw[qKk,qKk]
   show ((u.2.take x.2.length).getD m _).2.getD j 0=_∨_
   have h2:=h.2 (m+1) j
   rw[qKk,qKk]at h2
   grind
end
def SzOk(d:Ds)(a:Gm):Prop:=∀(k:Nat) t f,a.2[k]?=some (t,f)->f.length=(qAr d t).length
section
variable{d:Ds}{b a x y:Gm}{l:List (Int×Int×Int)}
theorem Tra.shape(h:Tra x l y):∀(k:Nat) t f,x.2[k]?=some (t,f)->∃f',y.2[k]?=some (t,f')/\f'.length=f.length:=by
 induction h with
 | nil=>simp_all
 | rd _ ih=>exact ih
 | wg _ _ ih=>exact ih
 | @wf g ns y l k i ty v f hk hi _ ih =>
  intro m t g' hm
  by_cases e:m=k
  ·grind [List.getElem?_set_self,List.getElem?_eq_some_iff,List.length_set]
  ·exact ih m t g' (by grind)
 | @al g ns y l ty n _ ih =>
  intro m t g' hm
  have hm:ns[m]?=some (t,g'):=hm
  exact ih m t g' (by grind)
theorem Tra.glen(h:Tra x l y):y.1.length=x.1.length:=by
 induction h with
 | nil=>rfl
 | rd _ ih=>exact ih
 | wg _ _ ih=>simp_all
 | wf _ _ _ ih=>exact ih
 | al _ ih=>exact ih
theorem Tra.inP(h:Tra x l y){n i:Nat}(k:InP x n i):InP y n i:=by
 rcases k with⟨rfl,k⟩|⟨k,t,f,rfl,h1,h2⟩
 ·exact .inl ⟨rfl,by rw[h.glen];exact k⟩
 ·obtain⟨f',e1,e2⟩:=h.shape k t f h1
  exact .inr ⟨k,t,f',rfl,e1,by omega⟩
theorem Tra.at_(h:Tra x l y):∀t∈l,t.1=1∨(t.1=2/\∃n i:Nat,t.2.1=n/\t.2.2=i/\InP y n i/\(x.2.length<n∨InP x n i))∨(t.1=3/\∃(n:Nat) (f:List Int),t.2.1=n+1/\y.2[n]?=some (t.2.2,f)):=by
 induction h with
 | nil=>simp_all
 | rd _ ih =>
  simp_all
 | @wg g ns y l i v hi h ih =>
  intro t ht
  rcases List.mem_cons.1 ht with rfl|ht
  ·exact .inr (.inl ⟨rfl,0,i,rfl,rfl,h.inP (.inl ⟨rfl,by simp_all⟩),.inr (.inl ⟨rfl,hi⟩)⟩)
  ·rcases ih t ht with k|⟨k,n,j,e1,e2,h1,h2⟩|k
   ·exact .inl k
   ·refine .inr (.inl ⟨k,n,j,e1,e2,h1,h2.imp id fun h2=>?_⟩)
    rcases h2 with⟨e0,h3⟩|h3
    ·exact .inl ⟨e0,by simp_all⟩
    ·exact .inr h3
   simp_all
 | @wf g ns y l k i ty v f hk hi h ih =>
  have hkl:=(List.getElem?_eq_some_iff.1 hk).1
  intro t ht
  rcases List.mem_cons.1 ht with rfl|ht
  ·refine .inr (.inl ⟨rfl,k+1,i,rfl,rfl,h.inP (.inr ⟨k,ty,f.set i v,rfl,?_,by simp_all⟩),.inr (.inr ⟨k,ty,f,rfl,hk,hi⟩)⟩)
   simp_all
  ·rcases ih t ht with q|⟨q,n,j,e1,e2,h1,h2⟩|q
   ·exact .inl q
   ·refine .inr (.inl ⟨q,n,j,e1,e2,h1,h2.imp (fun h2=>?_) fun h2=>?_⟩)
    ·simp_all
    ·rcases h2 with h2|⟨m,t',f',e,h3,h4⟩
     ·exact .inl h2
     ·by_cases hm:m=k
      ·subst hm
       have h3:(ns.set m (ty,f.set i v))[m]?=_:=h3
       rw[List.getElem?_set_self hkl]at h3
       cases h3
       exact .inr ⟨m,ty,f,e,hk,by simp_all⟩
      ·have h3:(ns.set k (ty,f.set i v))[m]?=_:=h3
       rw[List.getElem?_set_ne (Ne.symm hm)]at h3
       exact .inr ⟨m,t',f',e,h3,h4⟩
   simp_all
 | @al g ns y l ty n h ih =>
  intro t ht
  rcases List.mem_cons.1 ht with rfl|ht
  ·obtain⟨f',h1,-⟩:=h.shape ns.length ty (List.replicate n 0) (by simp_all)
   grind
  ·rcases ih t ht with q|⟨q,m,j,e1,e2,h1,h2⟩|q
   ·exact .inl q
   ·refine .inr (.inl ⟨q,m,j,e1,e2,h1,?_⟩)
    rcases h2 with h2|h2|⟨p,t',f',e,h3,h4⟩
    ·grind
    ·exact .inr (.inl h2)
    ·have h3:(ns++[(ty,List.replicate n 0)])[p]?=_:=h3
     by_cases hp:p<ns.length
     ·rw[List.getElem?_append_left hp]at h3
      exact .inr (.inr ⟨p,t',f',e,h3,h4⟩)
     grind
   simp_all
inductive Chn (f:Gm->En->Gm) (ok:Gm->En->Prop):Gm->List En->Gm->Prop where
 | nil (u:Gm):Chn f ok u [] u
 | cons {u x:Gm} {e:En} {l:List En} (h:ok u e) (k:Chn f ok (f u e) l x):Chn f ok u (e::l) x
theorem Chn.app{f:Gm->En->Gm}{ok:Gm->En->Prop}{u w z:Gm}{m n:List En}(h:Chn f ok u m w)(k:Chn f ok w n z):Chn f ok u (m++n) z:=by
 induction h with
 | nil=>exact k
 | cons h _ ih=>exact .cons h (ih k)
def plcP(u:Gm)(e:En):Prop:=∃n i:Nat,e.node=n/\e.field=i/\InP u n i
def redoK(u:Gm)(e:En):Prop:=(e.al=true/\(∃n:Nat,e.size=n/\n<=12)/\u.2.length<4096)∨(e.al=false/\plcP u e)
def undoK(u:Gm)(e:En):Prop:=(e.al=true/\∃k:Nat,e.node=k+1/\k<=u.2.length)∨(e.al=false/\plcP u e)
theorem redo_run(hs:SzOk d a)(hL:∀t,(qAr d t).length<=12)(hn:a.2.length<=4096)(h:Tra x l a):∀u,Qp (qHp a) u x->Chn qHo redoK u (qBP d b a l) a:=by
 induction h with
 | nil=>exact fun u hu=>hu.eq ▸ .nil _
 | rd _ ih=>exact fun u hu=>ih hs hn u hu
 | @wg g ns y l i v hi _ ih =>
  intro u hu
  exact .cons (.inr ⟨rfl,0,i,rfl,rfl,.inl ⟨rfl,by rw[hu.1.1];exact hi⟩⟩) (ih hs hn (qJi u 0 i (qHp y 0 i)) (hu.fwd (n:=0) (v:=v) (.inl ⟨rfl,hi⟩)))
 | @wf g ns y l k i ty v f hk hi _ ih =>
  intro u hu
  have hin:InP (g,ns) (k+1) i:=.inr ⟨k,ty,f,rfl,hk,hi⟩
  have h1:=hu.fwd (n:=k+1) (i:=i) (v:=v) hin
  rw[set_n (x:=(g,ns)) hk]at h1
  have:=ih hs hn _ h1
  refine .cons (.inr ⟨rfl,k+1,i,rfl,rfl,hin.sh hu.1⟩) ?_
  show Chn qHo redoK (qJi u ((k:Int)+1).toNat ((i:Int)).toNat (qHp y ((k:Int)+1).toNat ((i:Int)).toNat)) (qBP d b y l) y
  simp_all
 | @al g ns y l ty n ht ih =>
  intro u hu
  obtain⟨f',h1,h2⟩:=ht.shape ns.length ty (List.replicate n 0) (by simp_all)
  have h3:=hs _ _ _ h1
  rw[h2,List.length_replicate]at h3
  have:=ih hs hn _ (hu.app (n:=(ty,List.replicate n 0)))
  have hl:=(List.getElem?_eq_some_iff.1 h1).1
  have hul:u.2.length=ns.length:=hu.1.len
  refine .cons (.inl ⟨rfl,⟨_,rfl,hL ty⟩,by omega⟩) ?_
  show Chn qHo redoK (u.1,u.2++[(ty,List.replicate ((qAr d ty).length:Int).toNat 0)]) (qBP d b y l) y
  simp_all
theorem redo_all(hs:SzOk d a)(hL:∀t,(qAr d t).length<=12)(hn:a.2.length<=4096)(h:Tra b l a):Chn qHo redoK b (qBP d b a l) a:=redo_run hs hL hn h b ⟨Sh.refl b,fun _ _=>.inl rfl⟩
theorem undo_run(h:Tra x l a):∀u,Qp (qHp b) u a->∃w,Chn qIM undoK u (qBP d b a l).reverse w/\Qp (qHp b) w x:=by
 induction h with
 | nil=>exact fun u hu=>⟨u,.nil _,hu⟩
 | rd _ ih=>exact fun u hu=>ih u hu
 | @wg g ns y l i v hi _ ih =>
  intro u hu
  obtain⟨w,h0,h1⟩:=ih u hu
  unfold qBP at h0 ⊢
  rw[List.flatMap_cons,List.reverse_append]
  have hw:Sh w (g,ns):=h1.1.trans (qJh (x:=(g,ns)) (n:=0) (i:=i) (v:=v))
  exact⟨_,h0.app (.cons (.inr ⟨rfl,0,i,rfl,rfl,.inl ⟨rfl,by rw[hw.1];exact hi⟩⟩) (.nil _)),Qp.bwd (x:=(g,ns)) (n:=0) (i:=i) (v:=v) h1 (.inl ⟨rfl,hi⟩)⟩
 | @wf g ns y l k i ty v f hk hi _ ih =>
  intro u hu
  have hin:InP (g,ns) (k+1) i:=.inr ⟨k,ty,f,rfl,hk,hi⟩
  obtain⟨w,h0,h1⟩:=ih u hu
  unfold qBP at h0 ⊢
  rw[List.flatMap_cons,List.reverse_append]
  rw[<- set_n (x:=(g,ns)) hk]at h1
  have h2:=h1.bwd hin
  refine⟨_,h0.app (.cons (.inr ⟨rfl,k+1,i,rfl,rfl,hin.sh (h1.1.trans qJh)⟩) (.nil _)),?_⟩
  show Qp (qHp b) (qJi _ ((k:Int)+1).toNat ((i:Int)).toNat (qHp b ((k:Int)+1).toNat ((i:Int)).toNat)) (g,ns)
  simp_all
 | @al g ns y l ty n ht ih =>
  intro u hu
  obtain⟨w,h0,h1⟩:=ih u hu
  unfold qBP at h0 ⊢
  rw[List.flatMap_cons,List.reverse_append]
  have h2:=Qp.cut (x:=(g,ns)) h1
  have hwl:=h1.1.len
  rw[List.length_append]at hwl
  refine⟨_,h0.app (.cons (.inl ⟨rfl,ns.length,rfl,by omega⟩) (.nil _)),?_⟩
  show Qp (qHp b) (_,List.take ((ns.length:Int)+1-1).toNat _) (g,ns)
  simp_all
theorem undo_all(h:Tra b l a):Chn qIM undoK a (qBP d b a l).reverse b:=by
 obtain⟨w,h1,h2⟩:=undo_run (d:=d) (b:=b) h a ⟨Sh.refl a,fun _ _=>.inl rfl⟩
 rw[h2.eq]at h1;exact h1
theorem ents_len(h:Tra x l y)(b a:Gm):(qBP d b a l).length=(l.filter fun t=>decide (t.1≠1)).length:=by
 have key:∀t∈l,(qKB d b a t).length=if t.1≠1 then 1 else 0:=fun t ht=>by
  rcases h.at_ t ht with k|⟨k,-⟩|⟨k,-⟩ <;> unfold qKB <;> rw[k] <;> rfl
 clear h
 unfold qBP
 induction l with
 | nil=>rfl
 | cons t l ih =>
  grind
end
end Go.Proofs
