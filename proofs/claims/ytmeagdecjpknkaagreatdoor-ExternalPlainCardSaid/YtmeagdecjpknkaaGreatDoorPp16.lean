/- Part 16 of a proof of a law of this seat: no statement of the seat is proved here. -/
import Derived.Test.YtmeagdecjpknkaaGreatDoorPp15
import Derived.ProofKit
import Derived.Test.YtmeagdecjpknkaaGreatDoorRows
import Derived.Lib.LaidIn
import Derived.Lib.LaidTab
import Derived.Handed
set_option linter.unusedVariables false
set_option linter.unusedSimpArgs false
namespace Go.Proofs
open Go Go.Sx
attribute [local irreducible] Go.Sx.Tri
theorem Lay.base{V0 V:Mem}{gs ns ls:Sl}{nd:List Nd}{s:St}(L:Lay V0 V gs ns ls nd s){p:Nat}(p0:V0 p=none):∃W,V0.sub W/\W p=none/\W.sub V/\Lay W V gs ns ls nd s/\∀b o,V b=some o->b≠p->Alien V b->W b=some o:=by
 refine⟨Mem.minus V (Mine p gs ns ls nd),fun b o hb=>?_,qGd (.inl rfl),qEy,L.frame (fun _ _ _ h=>h),fun b o hb hne ha=>?_⟩
 ·rw[qCE fun hm=>by rw[L.mine0 p0 hm]at hb;cases hb];exact L.sub _ _ hb
 ·rw[qCE];exact hb
  have no:∀{e sz sl vs},(e=3∨e=92∨e=89)->Sx.Own V0 V e sz sl vs->¬Blk sl b:=fun {e sz sl vs} he ho=>ho.apart fun cur=>ha cur e he
  rintro (h|h|h|h|⟨n,hn,h⟩)
  ·exact hne h
  ·exact no (.inl rfl) L.glob h
  ·exact no (.inr (.inl rfl)) L.nodes h
  ·exact no (.inr (.inr rfl)) L.log h
  ·exact no (.inl rfl) (L.fld n hn) h
theorem qLa{V:Mem}{b:Nat}{x:Array Value}{t:Nat}(h:V b=some (.cells x t (0,0)))(hty:NT t):Alien V b:=qHT h hty
noncomputable def playI:Code:=(flat (qAn Tryz.f73)).getD 3 .skip
noncomputable def qJf:Code:=(flat (qAn Tryz.f73)).getD 5 .skip
noncomputable def playR:Code:=(flat (qAn Tryz.f73)).getD 6 .skip
theorem play_flat:flat (qAn Tryz.f73)=c73a++playI::(c73c++qJf::playR::(c73f++[.ret])):=by kernel_rfl
theorem playI_eq:playI=.cond (.tmp 20) (kid playI 0) .skip:=by kernel_rfl
theorem playK_flat:flat (kid playI 0)=c73b++[.ret]:=by kernel_rfl
theorem playD_eq:qJf=.region 5 #[(qEt qJf).getD 0 dOp,(qEt qJf).getD 1 dOp] false:=by kernel_rfl
theorem playR_eq:playR=.region 6 c73d false:=by kernel_rfl
theorem playR_size:(c73d).size=7:=by kernel_rfl
theorem playde:c73d=c73e:=rfl
theorem run_ldv{w:World}{b t T:Nat}{x:Value}{cs y:Go.Sx.T}{ρ:List Value}(h:w.heap[b]?=some (.cells (cs.evs ρ id).toArray t (0,0)))(hT:qFc Tryz.prog T cs 0=some y)(hx:y.ev ρ id=x):(loadVar T ⟨b,0,none⟩).run Tryz.prog w=.ok x w:=by
 grind [qBP,Tryz.prog,T,id]
def outT:Go.Sx.T:=.cons (.var (.i .i64) 0) (.cons (.var (.i .i64) 1) (.cons (.var (.i .i64) 2) (.cons (.var (.i .i64) 3) (.cons (.var (.i .i64) 4) .nil))))
theorem qDd{tmps:Array Value}{b8 b9 t8 t9:Nat}{q:Option Addr}{a0 a1 a2 a3 er:Int}{w:World}(h8:tmps.getD 8 undef=pv b8)(h9:tmps.getD 9 undef=pv b9)(h10:tmps.getD 10 undef=.int .i64 er)
  (c8:w.heap[b8]?=some (cell (.pointer q) t8)) (c9:w.heap[b9]?=some (.cells (qDP a0 a1 a2 a3).toArray t9 (0,0))) :
  (results Tryz.f73 tmps).run Tryz.prog w=.ok (.tuple #[.pointer q,.agg (qDP a0 a1 a2 a3).toArray,.int .i64 er]) w:=by
 have hr:Tryz.f73.results=#[.cell 8 124,.cell 9 54,.tmp 10]:=by kernel_rfl
 unfold results
 rw[hr]
 have e8:asAddr (tmps.getD 8 undef)=pure ⟨b8,0,none⟩:=by rw[h8];rfl
 have e9:asAddr (tmps.getD 9 undef)=pure ⟨b9,0,none⟩:=by rw[h9];rfl
 have l8:(loadVar 124 ⟨b8,0,none⟩).run Tryz.prog w=.ok (.pointer q) w:=run_ldv (cs:=.cons (.var .p 0) .nil) (y:=.var .p 0) (ρ:=[.pointer q]) c8 (by kernel_rfl) rfl
 have l9:(loadVar 54 ⟨b9,0,none⟩).run Tryz.prog w=.ok (.agg (qDP a0 a1 a2 a3).toArray) w:=run_ldv (cs:=outT) (y:=.agg outT) (ρ:=qDP a0 a1 a2 a3) c9 (by kernel_rfl) rfl
 simp_all
section
variable{V0 V:Mem}{d:Ds}{F:Nat}{gs ns:Sl}{nd:List Nd}{m:Mm}
def PlayP(V0:Mem)(d:Ds)(F:Nat)(m:Mm)(nm:ByteArray)(args:List Int)(V:Mem):Ending->Mem->Prop:=fun e V' =>
 (qDi d m nm args≠0/\V.sub V'/\e=.returned (.tuple #[.pointer none,.agg (qDP 0 0 0 0).toArray,.int .i64 (qDi d m nm args)])) ∨
 (qDi d m nm args=0/\∃p c,∃r:Rx Int,r=qBQ d F (qCP d nm) args (qBV m)/\EM V0 d p F V' r.st c/\e=.returned (.tuple #[pv p,.agg (qDP (outC r) (outV r) r.st.cm (qBa r.st.lg)).toArray,.int .i64 0]))
end
theorem lookup_mem{s:Nat}{v:Value}:∀{l:List (Nat×Value)},l.lookup s=some v->(s,v)∈l
 | [],h=>by cases h
 | (t,u)::l,h=>by
  rw[List.lookup_cons]at h
  split at h
  ·rename_i e
   simp only[beq_iff_eq]at e
   subst e;cases h;exact List.mem_cons_self
  ·exact List.mem_cons_of_mem _ (lookup_mem h)
theorem qHM{N:Nat}{a:Act}{l l':List (Nat×Value)}(h:Has N a l)(hl:∀x∈l',l.lookup x.1=some x.2):Has N a l':=⟨h.1,fun s v hs=>h.2 s v (hl (s,v) (lookup_mem hs))⟩
noncomputable def qEO:Call:=match ((c73d).getD 4 dOp).op with | .call c=>c|_=>{ callee:=.value (.tmp 0),args:=#[],argTypes:=#[] }
noncomputable def playFv:Operand:=match qEO.callee with | .value f=>f|_=>.tmp 0
theorem playCall_op:((c73d).getD 4 dOp).op=.call qEO:=by kernel_rfl
theorem playCall_fv:qEO.callee=.value playFv:=by kernel_rfl
theorem qKs:qEO.args=#[.tmp 29,.tmp 30,.tmp 32]:=by kernel_rfl
theorem playFv_eval(a:Act):a.eval playFv=.func (.func 116) #[] #[]:=by kernel_rfl
theorem free{V U:Mem}(hs:V.sub U){b:Nat}(h:U b=none):V b=none:=by
 cases hc:V b with
 | none=>rfl
 | some o=>rw[hs _ _ hc]at h;cases h
section
variable{V0 V:Mem}{d:Ds}{F:Nat}{m:Mm}{nm:ByteArray}{args:List Int}{l:Sl}{b4 b5 b6 b8 b9 b11 p c:Nat}{gs ns ls:Sl}{nd:List Nd}{s:St}{a1:Int}{pr:Pr}{er:Int}
theorem segA(hd:Ds.Ok V d)(hm:Mm.Ok V m)(G:qAx d m)(ha:qAc V l 1 (args.map qAe))(hpr:pr=if qDi d m nm args=0 then (d.procs[(qCP d nm).toNat]?).getD noPr else noPr) :
  Seg Tryz.prog 37 c73a [(0,d.v),(1,m.v),(2,.agg #[.string nm,l.v]),(3,.int .i64 F)] [3,4,5,6,8,9,10,11,20] V fun vs V1=>∃b4 b5 b6 b8 b9 b11:Nat,vs=[.int .i64 F,pv b4,pv b5,pv b6,pv b8,pv b9,.int .i64 (qDi d m nm args),pv b11,.bool (!(decide (qDi d m nm args=0)))] /\
   V.sub V1/\V b8=none/\V b9=none/\b8≠b9/\V1 b4=some (.cells d.row.toArray 30 (0,0))/\V1 b5=some (.cells m.row.toArray 34 (0,0))/\V1 b6=some (.cells #[.string nm,l.v] 49 (0,0))/\V1 b8=some (cell (.pointer none) 124)/\V1 b9=some (.cells (qDP 0 0 0 0).toArray 54 (0,0))/\V1 b11=some (.cells pr.row.toArray 143 (0,0)):=by
 have hc:=c114 hd hm G ha (nm:=nm)
 rw[<- hpr]at hc
 refine s73a (a:=d.name) (b:=d.ts) (c:=d.gs) (d:=d.ps) (g:=d.ms) (i:=d.is) (j:=d.qs) (k:=d.bs) (l:=m.gs) (o:=m.ns) (p:=nm) (q:=l) (r:=F) ?_
 unfold w73a
 refine hc.call ⟨_,_,_,_,_,_,rfl,fun b4 h4 b5 h5 b6 h6 b8 h8 b9 h9 b11 h11=>?_⟩
 have s4:=fun o=>Mem.sub_new h4 o
 have s5:=fun o=>Mem.sub_new h5 o
 have s6:=fun o=>Mem.sub_new h6 o
 have s8:=fun o=>Mem.sub_new h8 o
 have s9:=fun o=>Mem.sub_new h9 o
 have s11:=fun o=>Mem.sub_new h11 o
 refine⟨_,rfl,b4,b5,b6,b8,b9,b11,rfl,(s4 _).trans ((s5 _).trans ((s6 _).trans ((s8 _).trans ((s9 _).trans (s11 _))))),free ((s4 _).trans ((s5 _).trans (s6 _))) h8,free ((s4 _).trans ((s5 _).trans ((s6 _).trans (s8 _)))) h9,fun e=>?_,?_,?_,?_,?_,?_,Mem.set_same _ _ _⟩
 ·grind [Mem.set_same]
 ·exact((s5 _).trans ((s6 _).trans ((s8 _).trans ((s9 _).trans (s11 _))))) _ _ mss
 ·exact((s6 _).trans ((s8 _).trans ((s9 _).trans (s11 _)))) _ _ mss
 ·exact((s8 _).trans ((s9 _).trans (s11 _))) _ _ mss
 ·exact((s9 _).trans (s11 _)) _ _ mss
 ·exact(s11 _) _ _ mss
theorem segB(n89:b8≠b9)(v8:V0 b8=none)(v9:V0 b9=none)(hs:V0.sub V)(e8:V b8=some (cell (.pointer none) 124))(e9:V b9=some (.cells (qDP 0 0 0 0).toArray 54 (0,0))) :
  Seg Tryz.prog 37 c73b [(8,pv b8),(9,pv b9),(10,.int .i64 er)] [8,9,10] V fun vs V1=>vs=[pv b8,pv b9,.int .i64 er]/\V0.sub V1/\V1 b8=some (cell (.pointer none) 124)/\V1 b9=some (.cells (qDP 0 0 0 0).toArray 54 (0,0)):=by
 refine s73b (a:=some ⟨b8,0,none⟩) (b:=some ⟨b9,0,none⟩) (c:=er) ?_
 unfold w73b
 refine StT.cell e8 ?_
 show StT (qAa (sa b9) 0) 0 _ _ _
 refine StT.at2 (off:=0) (by rw[Mem.set_ne n89.symm];exact e9) (by simp[qDP]) ⟨_,rfl,rfl,(hs.set v8 _).set v9 _,by rw[Mem.set_ne n89,Mem.set_same],by rw[Mem.set_same];simp[qDP]⟩
theorem segC(e4:V b4=some (.cells d.row.toArray 30 (0,0)))(e5:V b5=some (.cells m.row.toArray 34 (0,0)))(e8:V b8=some (cell (.pointer none) 124)) :
  Seg Tryz.prog 37 c73c [(3,.int .i64 F),(4,pv b4),(5,pv b5),(6,pv b6),(8,pv b8),(9,pv b9),(10,.int .i64 er),(11,pv b11)] [6,8,9,10,11] V fun vs V1 =>
   vs=[pv b6,pv b8,pv b9,.int .i64 er,pv b11]/\∃p,V p=none/\V1=(V.set p (.cells (qBM d F ((0:Nat):Int) ((0:Nat):Int) ((0:Nat):Int) m.gs m.ns qAP).toArray 128 (0,0))).set b8 (cell (pv p) 124):=by
 refine s73c (a:=F) (b:=some ⟨b4,0,none⟩) (c:=some ⟨b5,0,none⟩) (d:=some ⟨b6,0,none⟩) (g:=some ⟨b8,0,none⟩) (i:=some ⟨b9,0,none⟩) (j:=er) (k:=some ⟨b11,0,none⟩) ?_
 unfold w73c
 refine⟨_,_,_,_,_,_,_,_,qAd e4 0 8 (by simp[Ds.row]),_,_,qAd e5 0 2 (by simp[Mm.row]),fun p hp=>?_⟩
 have hne:b8≠p:=fun e=>by simp_all
 exact StT.cell (by rw[Mem.set_ne hne];exact e8) ⟨_,rfl,rfl,p,hp,rfl⟩
theorem segD(e6:V b6=some (.cells #[.string nm,l.v] 49 (0,0)))(e8:V b8=some (cell (pv p) 124))(e11:V b11=some (.cells pr.row.toArray 143 (0,0))) :
  qCX Tryz.prog 37 c73d 0 4 [(6,pv b6),(8,pv b8),(9,pv b9),(10,.int .i64 er),(11,pv b11)] [8,9,10,29,30,32] V fun vs V1 =>
   vs=[pv b8,pv b9,.int .i64 er,pv p,pr.v,l.v]/\V1=V:=by
 refine s73d (a:=some ⟨b6,0,none⟩) (b:=some ⟨b8,0,none⟩) (c:=some ⟨b9,0,none⟩) (d:=er) (g:=some ⟨b11,0,none⟩) ?_
 unfold w73d
 exact⟨_,qBD e8,_,_,_,_,_,qAd e11 0 5 (by simp[Pr.row]),nn,l,qAd e6 1 1 (by simp),_,rfl,rfl,rfl⟩
theorem segE(n89:b8≠b9)(v9:V0 b9=none){v:Int}(P:PM V0 d p F b8 b9 gs ns ls nd V s c 0 0 0 0) :
  qCX Tryz.prog 37 c73e 5 2 [(8,pv b8),(9,pv b9),(33,.int .i64 v)] [8,9] V fun vs V1=>vs=[pv b8,pv b9]/\PM V0 d p F b8 b9 gs ns ls nd V1 s c 0 v 0 0:=by
 refine s73e (a:=some ⟨b8,0,none⟩) (b:=some ⟨b9,0,none⟩) (c:=v) ?_
 unfold w73e
 exact⟨nn,StT.at2 (off:=1) P.at9 (by simp[qDP]) ⟨_,rfl,rfl,P.set9 n89 v9 (by simp[qDP])⟩⟩
theorem segF(n89:b8≠b9)(v8:V0 b8=none)(v9:V0 b9=none)(P:PM V0 d p F b8 b9 gs ns ls nd V s c 0 a1 0 0) :
  Seg Tryz.prog 37 c73f [(8,pv b8),(9,pv b9)] [8,9,10] V fun vs V1=>vs=[pv b8,pv b9,.int .i64 0]/\PM V0 d p F b8 b9 gs ns ls nd V1 s c 0 a1 0 0:=by
 refine s73f (a:=some ⟨b8,0,none⟩) (b:=some ⟨b9,0,none⟩) ?_
 unfold w73f
 have P1:=P.set8 n89 v8 (x:=#[pv p]) rfl
 refine⟨_,qBD P.at8,_,_,_,_,_,qAd P.at9 0 5 (by simp[qDP]),StT.cell P.at8 ⟨qAd P1.at9 0 5 (by simp[qDP]),?_⟩⟩
 show StT (qAa (sa b9) 0) 0 _ _ _
 exact StT.at2 (off:=0) P1.at9 (by simp[qDP]) ⟨_,rfl,rfl,P1.set9 n89 v9 (by simp[qDP])⟩
end
section
variable{V0 V:Mem}{d:Ds}{F:Nat}{m:Mm}{nm:ByteArray}{args:List Int}{l:Sl}
theorem c73(S:ES V0 d F)(L:Lay V0 V m.gs m.ns qAP m.nodes (qBV m))(hm:Mm.Ok V m)(G:qAx d m)(ha:qAc V0 l 1 (args.map qAe)) :
  Tri Tryz.prog 73 #[d.v,m.v,.agg #[.string nm,l.v],.int .i64 F] V (PlayP V0 d F m nm args V):=by
 unfold Go.Sx.Tri
 intro w hV
 refine(callsIn_wide (n:=0)).1 (callsIn_of_wp_defers (F:=qAz none) Tryz.func73 (c:=qAn Tryz.f73) (by kernel_rfl) trivial (qCo ?_) rfl)
 rw[play_flat]
 obtain⟨pr,hpr⟩:∃pr,pr=if qDi d m nm args=0 then (d.procs[(qCP d nm).toNat]?).getD noPr else noPr:=⟨_,rfl⟩
 refine(segA (F:=F) (S.ds.sub L.sub) hm G (ha.sub L.sub) hpr).step hV (qHN (args:=[d.v,m.v,.agg #[.string nm,l.v],.int .i64 F]) (N:=37) (by simp)) ?_
 rintro a1 w1 vs V1 hd1 hH1 ⟨b4,b5,b6,b8,b9,b11,rfl,s1,f8,f9,n89,e4,e5,e6,e8,e9,e11⟩ hF1
 have v8:=free L.sub f8
 have v9:=free L.sub f9
 have h20:a1.eval (.tmp 20)=.bool (!(decide (qDi d m nm args=0))):=hH1.get rfl
 show Code.wpIn (qAz none) 0 Tryz.prog playI _ a1 w1
 rw[playI_eq]
 by_cases hc:qDi d m nm args=0
 ·refine wpIn_cond_false (by grind) (wpIn_skip ?_)
  show wpL none 0 Tryz.prog _ (c73c++qJf::playR::(c73f++[.ret])) a1 w1
  refine(segC (F:=F) (m:=m) e4 e5 e8).step hF1.le (qHM hH1 (by
   intro x hx
   simp only[List.mem_cons,List.not_mem_nil,or_false]at hx
   rcases hx with rfl|rfl|rfl|rfl|rfl|rfl|rfl|rfl <;> rfl)) ?_
  rintro a2 w2 vs V2 hd2 hH2 ⟨rfl,p,hp,hV2⟩ hF2
  have hp8:b8≠p:=fun e=>by simp_all
  have s2:V1.sub (V1.set p (.cells (qBM d F ((0:Nat):Int) ((0:Nat):Int) ((0:Nat):Int) m.gs m.ns qAP).toArray 128 (0,0))):=Mem.sub_new hp _
  have L1:=(L.grow s1).grow s2
  have L2:Lay V0 V2 m.gs m.ns qAP m.nodes (qBV m):=by
   rw[hV2]
   exact L1.put (qLa (s2 _ _ e8) (by unfold NT;decide)) v8 _
  have p0:V0 p=none:=free (L.sub.trans s1) hp
  obtain⟨W,w0,wp,wV,LW,hW⟩:=L2.base p0
  have hat:V2 p=some (.cells (qBM d F ((0:Nat):Int) ((0:Nat):Int) ((0:Nat):Int) m.gs m.ns qAP).toArray 128 (0,0)):=by rw[hV2,Mem.set_ne hp8.symm,Mem.set_same]
  have keep:∀{b:Nat} {o:Obj},V1 b=some o->b≠b8->V2 b=some o:=fun {b o} hb hne=>by rw[hV2,Mem.set_ne hne];exact s2 _ _ hb
  have e8':V2 b8=some (cell (pv p) 124):=by rw[hV2,Mem.set_same]
  have n6:b6≠b8:=fun e=>by simp_all
  have n11:b11≠b8:=fun e=>by simp_all
  have e9':=keep e9 n89.symm
  have hp9:b9≠p:=fun e=>by simp_all
  have W8:W b8=some (cell (pv p) 124):=hW _ _ e8' hp8 (qLa e8' (by unfold NT;decide))
  have W9:W b9=some (.cells (qDP 0 0 0 0).toArray 54 (0,0)):=hW _ _ e9' hp9 (qLa e9' (by unfold NT;decide))
  have MW:EM W d p F V2 (qBV m) 0:=⟨wp,m.gs,m.ns,qAP,m.nodes,hat,LW⟩
  obtain⟨i,q,hi,hq,hval⟩:=qIT hc
  have hpq:pr=q:=by simp_all
  have hG:=qKL G
  have hvs:qAg d (qBV m).mm q.params args=true:=qAk (qDV (qEM m).symm) hval
  obtain⟨r,hr⟩:∃r:Rx Int,r=qBQ d F (i:Int) args (qBV m):=⟨_,rfl⟩
  have H:Tri Tryz.prog 116 #[pv p,pr.v,l.v] V2 (PX W d p F 0 r):=by
   rw[hr,hpq]
   exact runC (allC d p F (F+1)) W V2 (qBV m) 0 i q args l (S.sub w0) hq hG hvs (ha.sub w0) MW (Nat.zero_le _) (by omega) (by unfold BW;show 0+0+0<=_;omega)
  -- the deferred function is put aside
  show Code.wpIn (qAz none) 0 Tryz.prog qJf _ a2 w2
  rw[playD_eq]
  refine wpIn_region ?_
  show wpOpsIn _ _ _ _ _ [0,1] _ _
  refine Go.Sx.step_value (o:=(qEt qJf).getD 0 dOp) rfl (by kernel_rfl) (run_makeFunc (f:=.func 115) (first:=#[]) (caps:=#[.tmp 9,.tmp 8]) (by kernel_rfl)) ?_
  have g8:a2.eval (.tmp 8)=pv b8:=hH2.get rfl
  have g9:a2.eval (.tmp 9)=pv b9:=hH2.get rfl
  have hd0:((qEt qJf).getD 0 dOp).dst=some 28:=by kernel_rfl
  have hd1':((qEt qJf).getD 1 dOp).dst=none:=by kernel_rfl
  rw[hd0,show (#[Operand.tmp 9,.tmp 8].map a2.eval)=#[pv b9,pv b8] by simp[g8,g9],show ((#[]:Array Operand).map a2.eval)=#[] by simp]
  have hH3:=qKJ hH2 (t:=28) (v:=.func (.func 115) #[] #[pv b9,pv b8]) (by decide)
  refine Go.Sx.step_defer (o:=(qEt qJf).getD 1 dOp) rfl (by kernel_rfl) (run_deferv (c:={ callee:=.value (.tmp 28),args:=#[],argTypes:=#[] }) (fv:=.tmp 28) (f:=.func 115) (first:=#[]) (by kernel_rfl) rfl (hH3.get rfl) (by simp)) ?_
  rw[hd1']
  show Code.wpIn (qAz none) 0 Tryz.prog playR _ _ w2
  rw[playR_eq]
  refine wpIn_region ?_
  rw[playR_size]
  show wpOpsIn _ _ _ _ _ (List.range' 0 4++[4,5,6]) _ _
  have hH3':Has 37 _ [(6,pv b6),(8,pv b8),(9,pv b9),(10,.int .i64 (qDi d m nm args)),(11,pv b11)]:=qHM hH3 (by
   intro x hx
   simp only[List.mem_cons,List.not_mem_nil,or_false]at hx
   rcases hx with rfl|rfl|rfl|rfl|rfl <;> rfl)
  refine(segD (pr:=pr) (keep e6 n6) e8' (keep e11 n11)).step hF2.le ⟨hH3'.1,hH3'.2⟩ ?_
  rintro a4 w4 vs V4 hd4 hH4 ⟨rfl,rfl⟩ hF4
  have hdf:a4.defers=[{ target:=.fn (.func 115) #[pv b9,pv b8],args:=#[]++#[] }]:=by
   rw[hd4]
   show _::a2.defers=_
   rw[hd2,hd1]
  have inv:∀w',(invoke (.fn (.func 115) #[pv b9,pv b8]) (#[]++#[])).run Tryz.prog w'=.ok (.enter 115 #[pv b9,pv b8]) w':=fun w'=>by simp[invoke]
  have q29:a4.eval (.tmp 29)=pv p:=hH4.get rfl
  have q30:a4.eval (.tmp 30)=pr.v:=hH4.get rfl
  have q32:a4.eval (.tmp 32)=l.v:=hH4.get rfl
  have t8:a4.tmps.getD 8 undef=pv b8:=hH4.get rfl
  have t9:a4.tmps.getD 9 undef=pv b9:=hH4.get rfl
  have t10:a4.tmps.getD 10 undef=.int .i64 0:=by rw[<- hc];exact hH4.get rfl
  have i4:(c73d)[4]?=some ((c73d).getD 4 dOp):=by kernel_rfl
  have d4:((c73d).getD 4 dOp).dst=some 33:=by kernel_rfl
  have hargs:qEO.args.map a4.eval=#[pv p,pr.v,l.v]:=by grind [qKs]
  have mk:∀{V':Mem} {s':St} {c':Nat},EM W d p F V' s' c'->∃gs ns ls nd,PM V0 d p F b8 b9 gs ns ls nd V' s' c' 0 0 0 0:=fun {V' s' c'} h=>by
   obtain⟨gs,ns,ls,nd,h1,h2⟩:=h.ex
   exact⟨gs,ns,ls,nd,W,w0,wp,h1,h2,W8,W9⟩
  have hrs:(r.st:St)=(qBQ d F (qCP d nm) args (qBV m)).st:=by rw[hr,hi]
  refine Go.Sx.step_call i4 (by kernel_rfl) (by simpa using run_callv (c:=qEO) (fv:=playFv) (f:=116) (first:=#[]) (caps:=#[]) (args:=#[pv p,pr.v,l.v]) playCall_op playCall_fv (playFv_eval a4) hargs Tryz.call116) hF4.le H ?_ ?_ ?_
  ·intro ch V' w' hP hF5
   cases r with
   | ok v s'=>cases hP.1
   | bad k s' =>
    obtain⟨he,c',hm'⟩:=hP
    have hch:ch=[{ v:=fltVE k,recovered:=false }]:=by
     unfold fltE at he
     injection he
    subst hch
    obtain⟨gs,ns,ls,nd,P⟩:=mk hm'
    show LeavesIn (qAz none) 0 Tryz.prog _ _ _ a4.defers _ w'
    rw[hdf]
    refine⟨nofun,(fun h=>by simp[qAz,Fence.wide]at h),_,_,_,_,rfl,inv w',fun _ _=>trivial,qIV (lateC n89 v9 P hF5.le (f:=k) (.inr rfl)) ?_⟩
    rintro e u' w'' ⟨⟨v,rfl⟩,⟨V6,hF6,P6⟩,⟨h,-⟩|rfl⟩
    ·cases h
    ·refine⟨_,qDd t8 t9 t10 (hF6.le _ _ P6.at8) (hF6.le _ _ P6.at9),V6,.inr ⟨hc,p,c',.bad k s',by rw[hr,hi],P6.em,rfl⟩,(((hF1.trans hF2).trans hF4).trans hF5).trans hF6⟩
  ·intro v V' w' hP hF5
   cases r with
   | bad k s'=>cases hP.1
   | ok x s' =>
    obtain⟨he,hm'⟩:=hP
    cases he
    rw[d4]
    obtain⟨gs,ns,ls,nd,P⟩:=mk hm'
    have hH5:=qKJ hH4 (t:=33) (v:=.int .i64 x) (by decide)
    show wpOpsIn _ _ _ _ _ (List.range' 5 2++[]) _ w'
    rw[playde]
    refine(segE n89 v9 (v:=x) P).step hF5.le (qHM ⟨hH5.1,hH5.2⟩ (by
     intro x hx
     simp only[List.mem_cons,List.not_mem_nil,or_false]at hx
     rcases hx with rfl|rfl|rfl <;> rfl)) ?_
    rintro a6 w6 vs V6 hd6 hH6 ⟨rfl,P6⟩ hF6
    show wpL none 0 Tryz.prog _ (c73f++[.ret]) a6 w6
    refine(segF n89 v8 v9 P6).step hF6.le hH6 ?_
    rintro a7 w7 vs V7 hd7 hH7 ⟨rfl,P7⟩ hF7
    show Code.wpIn (qAz none) 0 Tryz.prog .ret _ a7 w7
    refine wpIn_ret ?_
    show LeavesIn (qAz none) 0 Tryz.prog _ _ _ a7.defers _ w7
    have hdf7:a7.defers=_:=(hd7.trans hd6).trans hdf
    rw[hdf7]
    refine⟨nofun,(fun h=>by simp[qAz,Fence.wide]at h),_,_,_,_,rfl,inv w7,fun _ _=>trivial,qIV (lateC n89 v9 P7 hF7.le (f:=0) (.inl ⟨rfl,rfl⟩)) ?_⟩
    rintro e u' w'' ⟨⟨v,rfl⟩,⟨V8,hF8,P8⟩,⟨-,rfl⟩|rfl⟩
    ·refine⟨_,qDd (hH7.get rfl) (hH7.get rfl) (hH7.get rfl) (hF8.le _ _ P8.at8) (hF8.le _ _ P8.at9),V8,.inr ⟨hc,p,0,.ok x s',by rw[hr,hi],P8.em,rfl⟩,((((((hF1.trans hF2).trans hF4).trans hF5).trans hF6).trans hF7).trans hF8)⟩
    ·refine⟨_,qDd (hH7.get rfl) (hH7.get rfl) (hH7.get rfl) (hF8.le _ _ P8.at8) (hF8.le _ _ P8.at9),V8,.inr ⟨hc,p,0,.ok x s',by rw[hr,hi],P8.em,rfl⟩,((((((hF1.trans hF2).trans hF4).trans hF5).trans hF6).trans hF7).trans hF8)⟩
  ·intro V' hP
   cases r with
   | ok v s'=>cases hP.1
   | bad k s'=>cases hP.1
 ·refine wpIn_cond_true (by grind) (qCo ?_)
  rw[playK_flat]
  refine(segB n89 f8 f9 s1 e8 e9).step hF1.le (qHM hH1 (by
   intro x hx
   simp only[List.mem_cons,List.not_mem_nil,or_false]at hx
   rcases hx with rfl|rfl|rfl <;> rfl)) ?_
  rintro a2 w2 vs V2 hd2 hH2 ⟨rfl,s2,e8',e9'⟩ hF2
  show Code.wpIn (qAz none) 0 Tryz.prog .ret _ a2 w2
  refine wpIn_ret ?_
  show LeavesIn (qAz none) 0 Tryz.prog _ _ _ a2.defers _ w2
  rw[hd2,hd1]
  exact⟨_,qDd (hH2.get rfl) (hH2.get rfl) (hH2.get rfl) (hF2.le _ _ e8') (hF2.le _ _ e9'),V2,.inl ⟨hc,s2,rfl⟩,hF1.trans hF2⟩
end
section
variable{V:Mem}{d:Ds}{F:Nat}{m m':Mm}{nm:ByteArray}{args:List Int}{l:Sl}
theorem values_plain(h:m.plain=m'.plain){t:List Fld}{vs:List Int}:qAg d m t vs=qAg d m' t vs:=by
 rw[Bool.eq_iff_iff]
 grind [qAk,qDV]
theorem qJQ(h:m.plain=m'.plain):qDi d m nm args=qDi d m' nm args:=by
 grind [qDi,values_plain]
noncomputable def qAJ(d:Ds)(m:Mm)(nm:ByteArray)(args:List Int)(F:Int):Int:=if qAS d m F=0 then qDi d m nm args else qAS d m F
theorem qDF{F:Int}(h:qAS d m F=0):qAx d m:=by
 grind [qAS]
theorem ok_copy(hm:Mm.Ok V m){V':Mem}{gs ns:Sl}{nd:List Nd}(L:Lay V V' gs ns qAP nd (qBV m)):Mm.Ok V' ⟨gs,m.globals,ns,nd⟩/\(⟨gs,m.globals,ns,nd⟩:Mm).plain=m.plain:=by
 have hp:(⟨gs,m.globals,ns,nd⟩:Mm).plain=m.plain:=by
  unfold Mm.plain
  rw[L.eq];rfl
 refine⟨⟨L.glob.rows (fun _=>rfl) (by decide),hm.gIn,L.nodes.rows (fun _=>rfl) (by decide),fun n hn=>?_⟩,hp⟩
 obtain⟨i,hi⟩:=List.mem_iff_getElem?.1 hn
 obtain⟨y,hy,e1,e2⟩:=qEP hp hi
 have hk:=hm.nodesOk y (List.mem_of_getElem? hy)
 exact⟨(L.fld n hn).rows (fun _=>rfl) (by decide),by rw[<- e1];exact hk.tyIn,by rw[<- e2];exact hk.vals⟩
def StartP(V:Mem)(d:Ds)(F:Nat)(m:Mm)(nm:ByteArray)(args:List Int):Ending->Mem->Prop:=fun e V' =>
 (qAJ d m nm args F≠0/\V.sub V'/\e=.returned (.tuple #[.pointer none,.agg (qDP 0 0 0 0).toArray,.int .i64 (qAJ d m nm args F)])) ∨
 (qAJ d m nm args F=0/\∃p c,∃r:Rx Int,r=qBQ d F (qCP d nm) args (qBV m)/\EM V d p F V' r.st c/\e=.returned (.tuple #[pv p,.agg (qDP (outC r) (outV r) r.st.cm (qBa r.st.lg)).toArray,.int .i64 0]))
theorem c61[Tab V](hd:Ds.Ok V d)(hm:Mm.Ok V m)(ha:qAc V l 1 (args.map qAe))(hF:F<=4000):Tri Tryz.prog 61 #[d.v,m.v,.agg #[.string nm,l.v],.int .i64 F] V (StartP V d F m nm args):=by
 refine x61 (R:=StartP V d F m nm args) ?_
 unfold w61
 refine(c71 hd hm).call ⟨_,rfl,fun h0=>?_,fun h0=>?_⟩
 ·have G:=qDF h0
  have hs:qAJ d m nm args F=qDi d m nm args:=by grind [qAJ]
  obtain⟨p1,p2,p3,p4,p5⟩:=qAh G.mem
  have h12:=lens12 G.valid
  refine Tri.mono (c72 hm (by grind [qAC]) p2 fun n hn=>?_) ?_
  ·have:=(qAC.1 (p5 n hn)).1
   have hty:=of_decide_eq_true (p3 n hn)
   obtain⟨j,hj⟩:∃j:Nat,n.ty=(j:Int):=⟨n.ty.toNat,by omega⟩
   have hjl:j<d.types.length:=by omega
   have hx:=List.getElem?_eq_getElem hjl
   rw[hj,qAO hx rfl]at this
   grind
  rintro _ V1 ⟨gs,ns,nd,rfl,L⟩
  obtain⟨hm1,hp⟩:=ok_copy hm L
  have G1:qAx d ⟨gs,m.globals,ns,nd⟩:=⟨G.valid,G.chk,qDS hp.symm G.mem⟩
  have hst:qBV ⟨gs,m.globals,ns,nd⟩=qBV m:=by
   unfold qBV
   rw[show nd.map (fun n=>(n.ty,n.f))=m.nodes.map (fun n=>(n.ty,n.f)) from L.eq]
  have L1:Lay V V1 gs ns qAP nd (qBV ⟨gs,m.globals,ns,nd⟩):=by grind
  refine⟨gs,ns,rfl,Tri.mono (c73 (m:=⟨gs,m.globals,ns,nd⟩) ⟨hd,G.valid,qHG G.valid G.chk,hF⟩ L1 hm1 G1 ha) ?_⟩
  have hcp:qDi d ⟨gs,m.globals,ns,nd⟩ nm args=qDi d m nm args:=qJQ hp
  rintro e V2 (⟨hc,hs2,rfl⟩|⟨hc,p,c,r,hr,M,rfl⟩)
  ·rw[hcp]at hc ⊢
   exact⟨_,_,_,_,_,_,_,rfl,.inl ⟨by omega,L.sub.trans hs2,by rw[hs];rfl⟩⟩
  ·rw[hcp]at hc
   exact⟨_,_,_,_,_,_,_,rfl,.inr ⟨by omega,p,c,r,by rw[hr,hst],M,rfl⟩⟩
 ·have hs:qAJ d m nm args F=qAS d m F:=by grind [qAJ]
  exact .inl ⟨by omega,Mem.sub.refl _,by rw[hs];rfl⟩
def RunP(V:Mem)(d:Ds)(F:Nat)(m:Mm)(nm:ByteArray)(args:List Int):Ending->Mem->Prop:=fun e V' =>
 (qAJ d m nm args F≠0/\V.sub V'/\e=.returned (.tuple #[.agg (qDP 0 0 0 0).toArray,.agg #[qAP.v,qAP.v],.int .i64 (qAJ d m nm args F)])) ∨
 (qAJ d m nm args F=0/\∃r:Rx Int,∃gs ns ls nd,r=qBQ d F (qCP d nm) args (qBV m)/\Lay V V' gs ns ls nd r.st/\e=.returned (.tuple #[.agg (qDP (outC r) (outV r) r.st.cm (qBa r.st.lg)).toArray,.agg #[gs.v,ns.v],.int .i64 0]))
theorem c24[Tab V](hd:Ds.Ok V d)(hm:Mm.Ok V m)(ha:qAc V l 1 (args.map qAe))(hF:F<=4000):Tri Tryz.prog 24 #[d.v,m.v,.agg #[.string nm,l.v],.int .i64 F] V (RunP V d F m nm args):=by
 refine x24 (R:=RunP V d F m nm args) ?_
 unfold w24
 refine Tri.mono (c61 hd hm ha hF) ?_
 rintro e V1 (⟨hc,hs,rfl⟩|⟨hc,p,c,r,hr,M,rfl⟩)
 ·exact⟨_,_,_,_,_,_,_,rfl,fun h=>absurd h hc,fun _=>.inl ⟨hc,hs,rfl⟩⟩
 ·obtain⟨gs,ns,ls,nd,hat,L⟩:=M.ex
  exact⟨_,_,_,_,_,_,_,rfl,fun _=>⟨nn,nn,gs,ns,qAd hat 8 2 (by simp[qBM]),qAN hat 8 0 2 (by simp[qBM]),nn,nn,.inr ⟨hc,r,gs,ns,ls,nd,hr,L,rfl⟩⟩,fun h=>absurd rfl h⟩
def TraceP(V:Mem)(d:Ds)(F:Nat)(m:Mm)(nm:ByteArray)(args:List Int):Ending->Mem->Prop:=fun e V' =>
 (qAJ d m nm args F≠0/\V.sub V'/\e=.returned (.tuple #[qAP.v,.int .i64 (qAJ d m nm args F)])) ∨
 (qAJ d m nm args F=0/\∃r:Rx Int,∃ls,r=qBQ d F (qCP d nm) args (qBV m)/\Sx.Own V V' 89 3 ls (r.st.lg.flatMap qHv)/\e=.returned (.tuple #[ls.v,.int .i64 0]))
theorem c36[Tab V](hd:Ds.Ok V d)(hm:Mm.Ok V m)(ha:qAc V l 1 (args.map qAe))(hF:F<=4000):Tri Tryz.prog 36 #[d.v,m.v,.agg #[.string nm,l.v],.int .i64 F] V (TraceP V d F m nm args):=by
 refine x36 (R:=TraceP V d F m nm args) ?_
 unfold w36
 refine Tri.mono (c61 hd hm ha hF) ?_
 rintro e V1 (⟨hc,hs,rfl⟩|⟨hc,p,c,r,hr,M,rfl⟩)
 ·exact⟨_,_,_,_,_,_,_,rfl,fun h=>absurd h hc,fun _=>.inl ⟨hc,hs,rfl⟩⟩
 ·obtain⟨gs,ns,ls,nd,hat,L⟩:=M.ex
  exact⟨_,_,_,_,_,_,_,rfl,fun _=>⟨nn,nn,ls,qAd hat 14 1 (by simp[qBM]),.inr ⟨hc,r,ls,hr,L.log,rfl⟩⟩,fun h=>absurd rfl h⟩
end
theorem qEH{p q B X:Prop}(hX:(¬p∨¬q)->X)(hB:p->q->B):Br p (Br q B X) X:=⟨fun hp=>⟨fun hq=>hB hp hq,fun hq=>hX (.inr hq)⟩,fun hp=>hX (.inl hp)⟩
theorem take_eq{α:Type}{xs ys:List α}{i:Nat}{x y:α}(h:xs.take i=ys.take i)(hx:xs[i]?=some x)(hy:ys[i]?=some y)(e:x=y):xs.take (i+1)=ys.take (i+1):=by
 grind [List.take_add_one]
section
variable{V:Mem}{d:Ds}{m:Mm}
def RI(V:Mem):Ending->Mem->Prop:=fun e V'=>V=V'/\∃r:Int,e=.returned (.int .i64 r)/\-1<=r/\r<=2000
def RY(V:Mem):Ending->Mem->Prop:=fun e V'=>V=V'/\∃b:Bool,e=.returned (.bool b)
theorem RI.mk{r:Int}(h:-1<=r/\r<=2000):RI V (.returned (.int .i64 r)) V:=⟨rfl,r,rfl,h⟩
theorem RY.mk{b:Bool}:RY V (.returned (.bool b)) V:=⟨rfl,b,rfl⟩
theorem leftC:∀(k:Nat),k<=65->∀(e:E) (n:Int),E.Ok V e->-1<=n->n<=2000->Tri Tryz.prog 119 #[e.v,.int .i64 k,.int .i64 n] V (RI V):=by
 intro k
 induction k with
 | zero =>
  intro _ e n he h1 h2
  refine Tri.mono (x119 (R:=RI V) ?_) fun _ _ h=>h
  unfold w119
  exact⟨fun _=>.mk ⟨by omega,by omega⟩,fun _=>⟨fun _=>.mk ⟨by omega,by omega⟩,fun h=>absurd rfl h⟩⟩
 | succ k ih =>
  intro hk e n he h1 h2
  refine Tri.mono (x119 (R:=RI V) ?_) fun _ _ h=>h
  unfold w119
  refine⟨fun _=>.mk ⟨by omega,by omega⟩,fun h3=>⟨fun _=>.mk ⟨by omega,by omega⟩,fun _=>⟨fun _=>.mk ⟨by omega,by omega⟩,fun _=>⟨⟨by omega,by omega⟩,?_⟩⟩⟩⟩
  have h3:¬n<=0:=h3
  refine qFi (mk:=.int .i64) (b0:=n-1) qGk e.k.length (fun i a V1=>V=V1/\-1<=a/\a<=2000) ⟨rfl,by omega,by omega⟩ ?_
  rintro i a V1 J hi ⟨rfl,ha1,ha2⟩ hJ
  refine qEH (fun _=>.mk ⟨ha1,ha2⟩) (fun hlt hn=>?_)
  obtain⟨x,hxm,hx,-,hil,hp,hz,hrow⟩:=he.rows.get hlt
  refine⟨hp,hz,hlt,_,_,_,_,hrow,⟨by omega,by omega⟩,?_⟩
  rw[show ((k+1:Nat):Int)-1=(k:Int) by omega]
  refine Tri.mono (ih (by omega) x a (he.kids x hxm) ha1 ha2) ?_
  rintro _ _ ⟨rfl,r,rfl,h4⟩
  exact⟨_,rfl,he.rows.succ hlt,hJ hil _ _ ⟨rfl,h4⟩⟩
theorem leftAllC:∀(k:Nat),k<=65->∀(s:Sl) (xs:List S) (n:Int),qAc V s 5 (xs.map S.row)->(∀x∈xs,S.Ok V x)->-1<=n->n<=2000->Tri Tryz.prog 118 #[s.v,.int .i64 k,.int .i64 n] V (RI V):=by
 intro k
 induction k with
 | zero =>
  intro _ s xs n hr ho h1 h2
  refine Tri.mono (x118 (R:=RI V) ?_) fun _ _ h=>h
  unfold w118
  exact⟨fun _=>.mk ⟨by omega,by omega⟩,fun h=>absurd rfl h⟩
 | succ k ih =>
  intro hk s xs n hr ho h1 h2
  refine Tri.mono (x118 (R:=RI V) ?_) fun _ _ h=>h
  unfold w118
  refine⟨fun _=>.mk ⟨by omega,by omega⟩,fun _=>?_⟩
  refine qIv (mk:=.int .i64) (mc:=.int .i64) 0 n qGk xs.length (fun i a V1=>V=V1/\-1<=a/\a<=2000) ⟨rfl,h1,h2⟩ ?_
  rintro i b a V1 J hi ⟨rfl,ha1,ha2⟩ hJ
  refine qEH (fun _=>.mk ⟨ha1,ha2⟩) (fun hlt hn=>?_)
  have hn:0<=a:=hn
  obtain⟨x,hxm,hx,-,hil,hp,hz,hrow⟩:=hr.get hlt
  have hxo:=ho x hxm
  cases x with
  | mk op sn el es ll ls xl xs' =>
  cases hxo with
  | mk he hes hl hls hxr hxs hop =>
  have hq:=qAf (n:=i*5) hp
  have hsucc:=hr.succ hlt
  refine⟨⟨by omega,by omega⟩,hp,hz,hlt,hq,_,_,_,_,_,hrow,fun _=>.mk ⟨by omega,by omega⟩,fun _=>?_⟩
  refine qFi (mk:=.int .i64) (b0:=a-1) qGk es.length (fun j c V2=>V=V2/\-1<=c/\c<=2000) ⟨rfl,by omega,by omega⟩ ?_
  rintro j c V2 J1 hj ⟨rfl,hc1,hc2⟩ hJ1
  have ek:((k+1:Nat):Int)-1=(k:Int):=by omega
  refine⟨hp,hz,hlt,hq,_,_,_,_,_,hrow,qEH (fun _=>⟨fun hc=>⟨hp,hz,hlt,hq,_,_,_,_,_,hrow,⟨by omega,by omega⟩,?_⟩,fun hc=>⟨fun h=>absurd h hc,fun _=>⟨hsucc,hJ hil _ _ _ ⟨rfl,hc1,hc2⟩⟩⟩⟩) (fun hlt2 hc=>?_)⟩
  ·rw[ek]
   refine Tri.mono (ih (by omega) ll ls c hl hls hc1 hc2) ?_
   rintro _ _ ⟨rfl,r,rfl,h3⟩
   refine⟨_,rfl,fun hr0=>⟨hp,hz,hlt,hq,_,_,_,_,_,hrow,⟨by omega,by omega⟩,Tri.mono (ih (by omega) xl xs' r hxr hxs h3.1 h3.2) ?_⟩,fun _=>⟨hsucc,hJ hil _ _ _ ⟨rfl,h3⟩⟩⟩
   rintro _ _ ⟨rfl,r2,rfl,h4⟩
   simp_all
  ·obtain⟨y,hym,hy,-,hjl,hpy,hzy,hrowy⟩:=he.get hlt2
   refine⟨hp,hz,hlt,hq,_,_,_,_,_,hrow,hpy,hzy,hlt2,_,_,_,_,hrowy,Tri.mono (leftC 65 (by omega) y c (hes y hym) hc1 hc2) ?_⟩
   rintro _ _ ⟨rfl,r,rfl,h3⟩
   exact⟨_,rfl,he.succ hlt2,hJ1 hjl _ _ ⟨rfl,h3⟩⟩
theorem wideC{l:Sl}{xs:List Fld}(hr:qAc V l 2 (xs.map Fld.row)):Tri Tryz.prog 117 #[l.v] V (RY V):=by
 refine Tri.mono (x117 (R:=RY V) ?_) fun _ _ h=>h
 unfold w117
 refine⟨fun _=>.mk,fun _=>qAI (mk:=.bool) (b0:=false) xs.length (fun i V1=>V=V1) rfl ?_⟩
 rintro i b V1 J hi rfl hJ
 refine⟨fun hlt=>?_,fun _=>.mk⟩
 obtain⟨x,hxm,hx,-,hil,hp,hz,hrow⟩:=hr.get hlt
 have hq:=qAf (n:=i*2) hp
 exact⟨hp,hz,hlt,hq,_,_,hrow,fun _=>.mk,fun _=>⟨hp,hz,hlt,hq,_,_,hrow,fun _=>.mk,fun _=>⟨hr.succ hlt,hJ hil _ _ rfl⟩⟩⟩
theorem overC(hd:Ds.Ok V d){n:Int}(h1:-1<=n)(h2:n<=2000):Tri Tryz.prog 76 #[d.v,.int .i64 n] V (RY V):=by
 refine Tri.mono (x76 (R:=RY V) ?_) fun _ _ h=>h
 unfold w76
 refine⟨fun _=>.mk,fun _=>⟨fun _=>.mk,fun _=>⟨fun _=>.mk,fun _=>⟨fun _=>.mk,fun _=>⟨fun _=>.mk,fun _=>⟨fun _=>.mk,fun _=>⟨fun _=>.mk,fun _=>Tri.mono (wideC hd.globals) ?_⟩⟩⟩⟩⟩⟩⟩
 rintro _ _ ⟨rfl,b,rfl⟩
 refine⟨_,rfl,fun _=>.mk,fun _=>qAI (mk:=.bool) (b0:=false) d.types.length (fun i V1=>V=V1) rfl ?_⟩
 rintro i b V1 J hi rfl hJ
 refine⟨fun hlt=>?_,fun _=>?_⟩
 ·obtain⟨x,hxm,hx,-,hil,hp,hz,hrow⟩:=hd.types.get hlt
  have hq:=qAf (n:=i*2) hp
  refine⟨hp,hz,hlt,hq,_,_,hrow,fun _=>.mk,fun _=>⟨hp,hz,hlt,hq,_,_,hrow,Tri.mono (wideC (hd.typesOk x hxm).fields) ?_⟩⟩
  rintro _ _ ⟨rfl,b,rfl⟩
  exact⟨_,rfl,fun _=>.mk,fun _=>⟨hd.types.succ hlt,hJ hil _ _ rfl⟩⟩
 refine qIv (mk:=.bool) (mc:=.int .i64) b n qGk d.procs.length (fun i a V1=>V=V1/\-1<=a/\a<=2000) ⟨rfl,h1,h2⟩ ?_
 rintro i b a V1 J hi ⟨rfl,ha1,ha2⟩ hJ
 refine qEH (fun _=>?_) (fun hlt hn=>?_)
 rotate_left
 ·obtain⟨x,hxm,hx,-,hil,hp,hz,hrow⟩:=hd.procs.get hlt
  have ho:=hd.procsOk x hxm
  refine⟨hp,hz,hlt,_,_,_,_,_,hrow,fun _=>.mk,fun _=>⟨fun _=>.mk,fun _=>Tri.mono (wideC ho.params) ?_⟩⟩
  rintro _ _ ⟨rfl,b1,rfl⟩
  refine⟨_,rfl,fun _=>.mk,fun _=>Tri.mono (wideC ho.locals) ?_⟩
  rintro _ _ ⟨rfl,b2,rfl⟩
  refine⟨_,rfl,fun _=>.mk,fun _=>Tri.mono (leftAllC 65 (by omega) x.bs x.body a ho.body ho.stmts ha1 ha2) ?_⟩
  rintro _ _ ⟨rfl,r,rfl,h3⟩
  exact⟨_,rfl,hd.procs.succ hlt,hJ hil _ _ _ ⟨rfl,h3⟩⟩
 refine qIv (mk:=.bool) (mc:=.int .i64) b a qGk d.measures.length (fun i a V1=>V=V1/\-1<=a/\a<=2000) ⟨rfl,ha1,ha2⟩ ?_
 clear hJ
 rintro i b a V1 J hi ⟨rfl,ha1,ha2⟩ hJ
 refine qEH (fun _=>?_) (fun hlt hn=>?_)
 rotate_left
 ·obtain⟨x,hxm,hx,-,hil,hp,hz,hrow⟩:=hd.measures.get hlt
  have hq:=qAf (n:=i*7) hp
  refine⟨hp,hz,hlt,hq,_,_,_,_,_,_,_,hrow,fun _=>.mk,fun _=>⟨hp,hz,hlt,hq,_,_,_,_,_,_,_,hrow,fun _=>.mk,fun _=>⟨hp,hz,hlt,hq,_,_,_,_,_,_,_,hrow,Tri.mono (leftC 65 (by omega) x.x a (hd.measuresOk x hxm).x ha1 ha2) ?_⟩⟩⟩
  rintro _ _ ⟨rfl,r,rfl,h3⟩
  exact⟨_,rfl,hd.measures.succ hlt,hJ hil _ _ _ ⟨rfl,h3⟩⟩
 refine qIv (mk:=.bool) (mc:=.int .i64) b a qGk d.invs.length (fun i a V1=>V=V1/\-1<=a/\a<=2000) ⟨rfl,ha1,ha2⟩ ?_
 clear hJ
 rintro i b a V1 J hi ⟨rfl,ha1,ha2⟩ hJ
 refine qEH (fun _=>?_) (fun hlt hn=>?_)
 rotate_left
 ·obtain⟨x,hxm,hx,-,hil,hp,hz,hrow⟩:=hd.invs.get hlt
  have hq:=qAf (n:=i*6) hp
  refine⟨hp,hz,hlt,hq,_,_,_,_,_,_,hrow,fun _=>.mk,fun _=>⟨hp,hz,hlt,hq,_,_,_,_,_,_,hrow,fun _=>.mk,fun _=>⟨hp,hz,hlt,hq,_,_,_,_,_,_,hrow,Tri.mono (leftC 65 (by omega) x.x a (hd.invsOk x hxm) ha1 ha2) ?_⟩⟩⟩
  rintro _ _ ⟨rfl,r,rfl,h3⟩
  exact⟨_,rfl,hd.invs.succ hlt,hJ hil _ _ _ ⟨rfl,h3⟩⟩
 refine qIv (mk:=.bool) (mc:=.int .i64) b a qGk d.pots.length (fun i a V1=>V=V1/\-1<=a/\a<=2000) ⟨rfl,ha1,ha2⟩ ?_
 clear hJ
 rintro i b a V1 J hi ⟨rfl,ha1,ha2⟩ hJ
 refine qEH (fun _=>?_) (fun hlt hn=>?_)
 rotate_left
 ·obtain⟨x,hxm,hx,-,hil,hp,hz,hrow⟩:=hd.pots.get hlt
  have hq:=qAf (n:=i*5) hp
  refine⟨hp,hz,hlt,hq,_,_,_,_,_,hrow,fun _=>.mk,fun _=>⟨hp,hz,hlt,hq,_,_,_,_,_,hrow,Tri.mono (leftC 65 (by omega) x.x a (hd.potsOk x hxm) ha1 ha2) ?_⟩⟩
  rintro _ _ ⟨rfl,r,rfl,h3⟩
  exact⟨_,rfl,hd.pots.succ hlt,hJ hil _ _ _ ⟨rfl,h3⟩⟩
 refine qIv (mk:=.bool) (mc:=.int .i64) b a qGk d.bounds.length (fun i a V1=>V=V1/\-1<=a/\a<=2000) ⟨rfl,ha1,ha2⟩ ?_
 clear hJ
 rintro i b a V1 J hi ⟨rfl,ha1,ha2⟩ hJ
 refine qEH (fun _=>.mk) (fun hlt hn=>?_)
 obtain⟨x,hxm,hx,-,hil,hp,hz,hrow⟩:=hd.bounds.get hlt
 have hq:=qAf (n:=i*5) hp
 refine⟨hp,hz,hlt,hq,_,_,_,_,_,hrow,fun _=>.mk,fun _=>⟨hp,hz,hlt,hq,_,_,_,_,_,hrow,Tri.mono (leftC 65 (by omega) x.x a (hd.boundsOk x hxm) ha1 ha2) ?_⟩⟩
 rintro _ _ ⟨rfl,r,rfl,h3⟩
 exact⟨_,rfl,hd.bounds.succ hlt,hJ hil _ _ _ ⟨rfl,h3⟩⟩
theorem greatC(hd:Ds.Ok V d):Tri Tryz.prog 38 #[d.v] V (RY V):=by
 refine Tri.mono (x38 (R:=RY V) ?_) fun _ _ h=>h
 unfold w38
 refine Tri.mono (overC hd (n:=2000) (by omega) (by omega)) ?_
 rintro _ _ ⟨rfl,b,rfl⟩
 exact⟨_,rfl,.mk⟩
theorem manyC(hm:Mm.Ok V m):Tri Tryz.prog 39 #[m.v] V (RY V):=by
 refine Tri.mono (x39 (R:=RY V) ?_) fun _ _ h=>h
 unfold w39
 refine⟨fun _=>.mk,fun _=>⟨fun _=>.mk,fun _=>qAI (mk:=.bool) (b0:=false) m.nodes.length (fun i V1=>V=V1) rfl ?_⟩⟩
 rintro i b V1 J hi rfl hJ
 refine⟨fun hlt=>?_,fun _=>.mk⟩
 obtain⟨x,hxm,hx,-,hil,hp,hz,hrow⟩:=hm.nodes.get hlt
 exact⟨hp,hz,hlt,qAf hp,_,_,hrow,fun _=>.mk,fun _=>⟨hm.nodes.succ hlt,hJ hil _ _ rfl⟩⟩
theorem c141{s t:Sl}{xs ys:List Int}(h:qAc V s 1 (xs.map qAe))(k:qAc V t 1 (ys.map qAe)):PP 141 [.slice s.p s.n s.c,.slice t.p t.n t.c] V (.bool (decide (xs=ys))):=by
 refine x141 ?_
 unfold w141
 have n1:=h.n_eq
 have n2:=k.n_eq
 refine⟨fun hl=>?_,fun hl=>?_⟩
 ·refine qAI (mk:=.bool) (b0:=false) xs.length (fun i V1=>V=V1/\xs.take i=ys.take i) ⟨rfl,rfl⟩ ?_
  rintro i b V1 J hi ⟨rfl,he⟩ hJ
  refine⟨fun hlt=>?_,fun hge=>?_⟩
  ·obtain⟨x,hxm,hx,-,hil,hp,hz,hrow⟩:=h.get hlt
   obtain⟨y,hym,hy,-,hjl,hp2,hz2,hrow2⟩:=k.get (i:=i) (by omega)
   refine⟨hp,hz,hlt,_,hrow,hp2,hz2,by omega,_,hrow2,fun hE=>⟨h.succ hlt,hJ hil _ _ ⟨rfl,take_eq he hx hy hE⟩⟩,fun hE=>?_⟩
   rw[decide_eq_false fun e=>?_]
   ·simp_all
   simp_all
  grind
 ·rw[decide_eq_false fun e=>hl (by rw[n1,n2,e])];simp_all
theorem plain_ext{a b:Mm}(hg:a.globals=b.globals)(hn:(a.nodes.map fun n=>(n.ty,n.f))=b.nodes.map fun n=>(n.ty,n.f)):a.plain=b.plain:=by grind [Mm.plain]
instance:DecidableEq (List Int×List (Int×List Int)):=inferInstance
theorem c95{a b:Mm}(ha:Mm.Ok V a)(hb:Mm.Ok V b):PP 95 [a.v,b.v] V (.bool (decide (a.plain=b.plain))):=by
 refine x95 ?_
 unfold w95
 have n1:=ha.nodes.n_eq
 have n2:=hb.nodes.n_eq
 have no:a.plain≠b.plain->(Ending.returned (.bool false)=.returned (.bool (decide (a.plain=b.plain)))/\V=V):=fun h=>⟨by simp_all,rfl⟩
 refine(c141 ha.globals hb.globals).call ⟨_,rfl,fun hg=>?_,fun hg=>no fun e=>hg (decide_eq_true (Prod.mk.inj e).1)⟩
 have hg:=of_decide_eq_true hg
 refine⟨fun hl=>?_,fun hl=>no fun e=>hl (by rw[n1,n2,qDA e])⟩
 refine qAI (mk:=.bool) (b0:=false) a.nodes.length (fun i V1=>V=V1/\(a.nodes.map fun n=>(n.ty,n.f)).take i=(b.nodes.map fun n=>(n.ty,n.f)).take i) ⟨rfl,rfl⟩ ?_
 rintro i b0 V1 J hi ⟨rfl,he⟩ hJ
 refine⟨fun hlt=>?_,fun hge=>?_⟩
 ·obtain⟨x,hxm,hx,-,hil,hp,hz,hrow⟩:=ha.nodes.get hlt
  obtain⟨y,hym,hy,-,hjl,hp2,hz2,hrow2⟩:=hb.nodes.get (i:=i) (by omega)
  have l2:(i:Int)<(b.ns.n:Int):=by omega
  have hx':(a.nodes.map fun n=>(n.ty,n.f))[i]?=some (x.ty,x.f):=by simp_all
  have hy':(b.nodes.map fun n=>(n.ty,n.f))[i]?=some (y.ty,y.f):=by simp_all
  have bad:(x.ty,x.f)≠(y.ty,y.f)->a.plain≠b.plain:=fun h e=>h (by rw[show (a.nodes.map fun n=>(n.ty,n.f))=b.nodes.map fun n=>(n.ty,n.f) from (Prod.mk.inj e).2,hy']at hx';simp_all)
  refine⟨hp,hz,hlt,qAf hp,_,_,hrow,hp2,hz2,l2,qAf hp2,_,_,hrow2,fun ht=>⟨hp,hz,hlt,qAf hp,_,_,hrow,hp2,hz2,l2,qAf hp2,_,_,hrow2,(c141 (ha.nodesOk x hxm).rows (hb.nodesOk y hym).rows).call ⟨_,rfl,fun hf=>⟨ha.nodes.succ hlt,hJ hil _ _ ⟨rfl,take_eq he hx' hy' (Prod.ext ht (of_decide_eq_true hf))⟩⟩,fun hf=>no (bad fun e=>hf (decide_eq_true (Prod.mk.inj e).2))⟩⟩,fun ht=>no (bad fun e=>ht (Prod.mk.inj e).1)⟩
 ·have hd:=(ha.nodes.done hge).2
  rw[List.take_of_length_le (by simp_all),List.take_of_length_le (by simp_all)]at he
  exact⟨by rw[decide_eq_true (plain_ext hg he)],rfl⟩
end
theorem start_ok{d:Ds}{m:Mm}{nm:ByteArray}{args:List Int}{F:Int}(G:qAx d m)(h:0<=F/\F<=1048576):qAJ d m nm args F=qDi d m nm args:=by
 grind [qAS,qAJ]
section
variable{V:Mem}
def qDQ(b n:Nat):Sl:=⟨some ⟨b,0,none⟩,n,n⟩
end
section
variable{V V0:Mem}{d:Ds}{F:Nat}{m:Mm}{nm:ByteArray}{args:List Int}{l:Sl}
theorem qDw{F:Int}(h:qAJ d m nm args F=0):qAx d m/\qDi d m nm args=0:=by
 grind [qAJ,qDF,absurd]
end
section
variable{V V0:Mem}{d:Ds}{F:Nat}{m:Mm}{nm:ByteArray}{args:List Int}{l:Sl}
theorem qGc(hd:Ds.Ok V d){V':Mem}{gs ns ls:Sl}{nd:List Nd}{s:St}(L:Lay V V' gs ns ls nd s)(hg:qAx d s.mm):Mm.Ok V' ⟨gs,s.g,ns,nd⟩/\(⟨gs,s.g,ns,nd⟩:Mm).plain=(s.g,s.ns):=by
 have hp:(⟨gs,s.g,ns,nd⟩:Mm).plain=(s.g,s.ns):=by
  unfold Mm.plain
  rw[<- L.eq]
 obtain⟨p1,p2,p3,p4,p5⟩:=qAh hg.mem
 have vi:∀{t:List Fld} {vs:List Int},qAg d s.mm t vs=true->∀v∈vs,inI v:=fun {t vs} h v hv=>by
  obtain⟨j,hj⟩:=List.mem_iff_getElem?.1 hv
  obtain⟨hl,hk⟩:=qAC.1 h
  have hjl:=(List.getElem?_eq_some_iff.1 hj).1
  have:=hk j _ v (List.getElem?_eq_getElem (by omega)) hj
  grind [qAt,inI]
 refine⟨⟨L.glob.rows (fun _=>rfl) (by decide),vi p4,L.nodes.rows (fun _=>rfl) (by decide),fun n hn=>?_⟩,hp⟩
 have hmem:(⟨n.ty,qAP,n.f⟩:Nd)∈s.mm.nodes:=by
  unfold St.mm
  rw[<- L.eq]
  grind
 refine⟨(L.fld n hn).rows (fun _=>rfl) (by decide),?_,vi (p5 ⟨n.ty,qAP,n.f⟩ hmem)⟩
 have:=of_decide_eq_true (p3 ⟨n.ty,qAP,n.f⟩ hmem)
 have hl:d.types.length<=9223372036854775807:=by
  have:=hd.types.n_eq;have:=hd.types.cap;have:=hd.types.fit;omega
 grind [inI]
theorem qIn(G:qAx d m)(hc:qDi d m nm args=0):qAx d (qBQ d F (qCP d nm) args (qBV m)).st.mm:=by
 obtain⟨i,q,hi,hq,hval⟩:=qIT hc
 rw[hi]
 exact(play_snd (F:=F) (qHG G.valid G.chk) hq (qKL G) (qAk (qDV (qEM m).symm) hval)).good
end
end Go.Proofs
namespace Go.Proofs
open Go Go.Sx
def qBm(w:World):Mem:=fun b=>w.heap[b]?
theorem heapM_le(w:World):(qBm w).le w:=fun _ _ h=>h
theorem qGf{α β:Type}{f:α->Option β}:∀{l:List α} {r:List β},l.mapM f=some r->r.length=l.length/\∀(i:Nat) (a:α),l[i]?=some a->∃b,r[i]?=some b/\f a=some b
 | [],r,h=>by simp_all
 | x::l,r,h=>by
  simp only[List.mapM_cons,Option.bind_eq_bind,Option.bind_eq_some_iff,Option.pure_def,Option.some.injEq]at h
  obtain⟨b,hb,r',hr',rfl⟩:=h
  obtain⟨h1,h2⟩:=qGf hr'
  grind
theorem cells_row{w:World}{a:Addr}{n:Nat}{cs:List Value}(h:w.cells? 0 a n=some cs)(hn:0<n):(qBm w).row a n=some cs:=by
 unfold World.cells? at h
 rw[if_pos (Nat.zero_le _)]at h
 obtain⟨h1,h2⟩:=qGf h
 have hat:∀i,i<n->∃v,cs[i]?=some v/\w.cell? (a.add i)=some v:=fun i hi=>h2 i i (by simp[hi])
 obtain⟨v0,-,hc0⟩:=hat 0 hn
 have e0:a.add 0=a:=by rfl
 rw[e0]at hc0
 unfold World.cell? at hc0
 split at hc0
 ·rename_i c t fr hb
  split at hc0
  ·cases hc0
  ·rename_i hsp
   have hsp':a.spot.isNone=true:=by simp_all
   have hsp2:a.spot=none:=by simp_all
   have hci:∀i,i<n->∃v,cs[i]?=some v/\c[a.off+i]?=some v:=fun i hi=>by
    obtain⟨v,hv,hc⟩:=hat i hi
    refine⟨v,hv,?_⟩
    have e:a.add i=⟨a.block,a.off+i,none⟩:=by
     unfold Addr.add
     by_cases h0:i=0
     ·subst h0;rw[if_pos rfl]
      cases a with
      | mk b o s=>simp_all
     grind
    grind [World.cell?]
   have hlen:a.off+n<=c.size:=by
    obtain⟨v,_,hc⟩:=hci (n-1) (by omega)
    grind
   have hcs:cs.length=n:=by rw[h1];simp
   unfold Mem.row qBm
   simp only[hb]
   rw[if_pos ⟨hsp',hlen⟩]
   congr 1
   apply List.ext_getElem?
   grind
 ·cases hc0
section
variable{H:Type}{enc:TypeId×Value->H}{w:World}
noncomputable abbrev TR(enc:TypeId×Value->H)(w:World)(n:Nat)(t:TypeId)(cs:List Value):=DataW.trod enc Tryz.prog w 0 (fun _=>true) true n t cs
theorem rd_str{n:Nat}{t:TypeId}{cs:List Value}{x:DataW H×List MemPlace}(ht:Tryz.prog.underlying t=some .string)(h:TR enc w n t cs=some x):∃s,cs=[.string s]:=by
 cases n with
 | zero=>cases h
 | succ n =>
  unfold TR DataW.trod at h
  grind
theorem rd_int{n:Nat}{t:TypeId}{cs:List Value}{x:DataW H×List MemPlace}(ht:Tryz.prog.underlying t=some (.int .i64))(h:TR enc w n t cs=some x):∃v:Int,cs=[.int .i64 v]/\IntKind.i64.min<=v/\v<=IntKind.i64.max:=by
 cases n with
 | zero=>cases h
 | succ n =>
  unfold TR DataW.trod at h
  grind [Lit.wf]
theorem rd_slice{α:Type}{row:α->List Value}{ok:α->Prop}{sz n:Nat}{t e:TypeId}{cs:List Value}{x:DataW H×List MemPlace}(ht:Tryz.prog.underlying t=some (.slice e))(hc:Tryz.prog.cellsOf e=sz)(hsz:0<sz)(hrow:∀a,(row a).length=sz)
  (hE:∀m,m<n->∀cs x,TR enc w m e cs=some x->∃a,row a=cs/\ok a) (h:TR enc w n t cs=some x):∃(s:Sl) (xs:List α),cs=[.slice s.p s.n s.c]/\qAc (qBm w) s sz (xs.map row)/\∀a∈xs,ok a:=by
 cases n with
 | zero=>cases h
 | succ n =>
  have key:∀(a:Addr) (len cap:Nat),TR enc w (n+1) t [.slice (some a) len cap]=some x->∃(xs:List α),qAc (qBm w) ⟨some a,len,cap⟩ sz (xs.map row)/\∀a∈xs,ok a:=by
   intro a len cap h
   unfold TR DataW.trod at h
   rw[ht]at h
   simp only at h
   split at h
   case isFalse=>cases h
   rename_i hcond
   simp only[Option.bind_eq_some_iff]at h
   obtain⟨elems,hm,-⟩:=h
   obtain⟨h1,h2⟩:=qGf hm
   have hex:∀i:Fin len,∃y:α,(qBm w).row (a.add (i*sz)) sz=some (row y)/\ok y:=by
    intro i
    obtain⟨b,-,hb⟩:=h2 i i (by simp)
    simp only[Option.bind_eq_some_iff]at hb
    obtain⟨ci,hci,hti⟩:=hb
    obtain⟨y,hy,hok⟩:=hE n (Nat.lt_succ_self n) ci _ hti
    grind [cells_row]
   refine⟨List.ofFn fun i=>Classical.choose (hex i),⟨by simp,hcond.2.1,by grind [maxLen],?_,?_⟩,?_⟩
   ·simp_all
   ·grind
   grind
  have main:cs=[.slice none 0 0]∨∃a len cap,cs=[.slice (some a) len cap]:=by
   unfold TR DataW.trod at h
   grind
  rcases main with rfl|⟨a,len,cap,rfl⟩
  ·exact⟨⟨none,0,0⟩,[],rfl,qAc.nil,by simp⟩
  grind
theorem qBn{n:Nat}{t:TypeId}{fs:Array Field}{cs:List Value}{x:DataW H×List MemPlace}(ht:Tryz.prog.underlying t=some (.struct fs))(h:TR enc w n t cs=some x) :
  cs.length=Tryz.prog.cellsOf t/\∃m,m<n/\∀(i:Nat) (f:Field),fs.toList[i]?=some f->∃y,TR enc w m f.type ((cs.drop f.offset).take (Tryz.prog.cellsOf f.type))=some y:=by
 cases n with
 | zero=>cases h
 | succ n =>
  have key:cs.length=Tryz.prog.cellsOf t->(∃xs,(fs.toList.mapM fun f=>DataW.trod enc Tryz.prog w 0 (fun _=>true) true n f.type ((cs.drop f.offset).take (Tryz.prog.cellsOf f.type)))=some xs) ->
    cs.length=Tryz.prog.cellsOf t/\∃m,m<n+1/\∀(i:Nat) (f:Field),fs.toList[i]?=some f->∃y,TR enc w m f.type ((cs.drop f.offset).take (Tryz.prog.cellsOf f.type))=some y:=by
   rintro hl ⟨xs,hx⟩
   refine⟨hl,n,Nat.lt_succ_self n,fun i f hf=>?_⟩
   obtain⟨-,h2⟩:=qGf hx
   grind
  unfold TR DataW.trod at h
  rw[ht]at h
  split at h
  all_goals first | (rename_i e;cases e;done) | (rename_i e _;cases e;done) | (rename_i e _ _;cases e;done) | (exact absurd rfl ((by assumption:∀fs_1:Array Field,some (TypeDesc.struct fs)=some (TypeDesc.struct fs_1)->False) fs)) | skip
  rename_i e
  cases e
  split at h
  ·rename_i hl
   simp only[Option.map_eq_some_iff]at h
   obtain⟨xs,hx,-⟩:=h
   simp_all
  simp_all
end
end Go.Proofs
namespace Go.Proofs
open Go Go.Sx
section
variable{H:Type}{enc:TypeId×Value->H}{w:World}
theorem at1{cs:List Value}{v:Value}{off m:Nat}{t:TypeId}(h:∃y,TR enc w m t ((cs.drop off).take (Tryz.prog.cellsOf t))=some y)(hc:Tryz.prog.cellsOf t=1)(hv:cs[off]?=some v):∃y,TR enc w m t [v]=some y:=by
 grind [List.getElem?_eq_some_iff,List.drop_eq_getElem_cons]
theorem cl9:Tryz.prog.cellsOf 9=1:=by kernel_rfl
theorem cl3:Tryz.prog.cellsOf 3=1:=by kernel_rfl
theorem cl22:Tryz.prog.cellsOf 22=1:=by kernel_rfl
theorem cl23:Tryz.prog.cellsOf 23=1:=by kernel_rfl
theorem cl24:Tryz.prog.cellsOf 24=1:=by kernel_rfl
theorem cl25:Tryz.prog.cellsOf 25=1:=by kernel_rfl
theorem cl26:Tryz.prog.cellsOf 26=1:=by kernel_rfl
theorem cl27:Tryz.prog.cellsOf 27=1:=by kernel_rfl
theorem cl28:Tryz.prog.cellsOf 28=1:=by kernel_rfl
theorem cl38:Tryz.prog.cellsOf 149=1:=by kernel_rfl
theorem cl52:Tryz.prog.cellsOf 141=1:=by kernel_rfl
theorem cl40:Tryz.prog.cellsOf 151=4:=by kernel_rfl
theorem cl67:Tryz.prog.cellsOf 101=2:=by kernel_rfl
theorem cl94:Tryz.prog.cellsOf 98=2:=by kernel_rfl
theorem cl54:Tryz.prog.cellsOf 143=5:=by kernel_rfl
theorem cl75:Tryz.prog.cellsOf 154=5:=by kernel_rfl
theorem cl97:Tryz.prog.cellsOf 184=7:=by kernel_rfl
theorem cl58:Tryz.prog.cellsOf 187=6:=by kernel_rfl
theorem cl61:Tryz.prog.cellsOf 189=5:=by kernel_rfl
theorem cl64:Tryz.prog.cellsOf 191=5:=by kernel_rfl
theorem cl30:Tryz.prog.cellsOf 30=8:=by kernel_rfl
theorem gS{m:Nat}{v:Value}(h:∃y,TR enc w m 9 [v]=some y):∃s,v=.string s:=by
 obtain⟨y,hy⟩:=h
 obtain⟨s,e⟩:=rd_str Tryz.underlying9 hy
 exact⟨s,by simpa using e⟩
theorem gI{m:Nat}{v:Value}(h:∃y,TR enc w m 3 [v]=some y):∃n:Int,v=.int .i64 n/\IntKind.i64.min<=n/\n<=IntKind.i64.max:=by
 obtain⟨y,hy⟩:=h
 obtain⟨s,e,h1⟩:=rd_int Tryz.underlying3 hy
 exact⟨s,by simpa using e,h1⟩
theorem gSl{α:Type}{row:α->List Value}{ok:α->Prop}{sz m:Nat}{t e:TypeId}{v:Value}(ht:Tryz.prog.underlying t=some (.slice e))(hc:Tryz.prog.cellsOf e=sz)(hsz:0<sz)(hrow:∀a,(row a).length=sz)
  (hE:∀m',m'<m->∀cs x,TR enc w m' e cs=some x->∃a,row a=cs/\ok a) (h:∃y,TR enc w m t [v]=some y):∃(s:Sl) (xs:List α),v=.slice s.p s.n s.c/\qAc (qBm w) s sz (xs.map row)/\∀a∈xs,ok a:=by
 obtain⟨y,hy⟩:=h
 obtain⟨s,xs,e,h1,h2⟩:=rd_slice ht hc hsz hrow hE hy
 grind
theorem len2{cs:List Value}(h:cs.length=2):∃a b,cs=[a,b]:=by
 match cs,h with
 | [a,b],_=>simp_all
theorem len4{cs:List Value}(h:cs.length=4):∃a b c d,cs=[a,b,c,d]:=by
 match cs,h with
 | [a,b,c,d],_=>simp_all
theorem len5{cs:List Value}(h:cs.length=5):∃a b c d e,cs=[a,b,c,d,e]:=by
 match cs,h with
 | [a,b,c,d,e],_=>simp_all
theorem len6{cs:List Value}(h:cs.length=6):∃a b c d e f,cs=[a,b,c,d,e,f]:=by
 match cs,h with
 | [a,b,c,d,e,f],_=>simp_all
theorem len7{cs:List Value}(h:cs.length=7):∃a b c d e f g,cs=[a,b,c,d,e,f,g]:=by
 match cs,h with
 | [a,b,c,d,e,f,g],_=>simp_all
theorem len8{cs:List Value}(h:cs.length=8):∃a b c d e f g i,cs=[a,b,c,d,e,f,g,i]:=by
 match cs,h with
 | [a,b,c,d,e,f,g,i],_=>simp_all
theorem rdFld{n:Nat}{cs:List Value}{x:DataW H×List MemPlace}(h:TR enc w n 101 cs=some x):∃f:Fld,Fld.row f=cs/\True:=by
 obtain⟨hl,m,-,hs⟩:=qBn Tryz.underlying101 h
 obtain⟨a,b,rfl⟩:=len2 (hl.trans cl67)
 obtain⟨s1,rfl⟩:=gS (at1 (hs 0 _ rfl) cl9 rfl)
 obtain⟨s2,rfl⟩:=gS (at1 (hs 1 _ rfl) cl9 rfl)
 exact⟨⟨s1,s2⟩,rfl,trivial⟩
theorem rdE:∀(n:Nat) (cs:List Value) (x:DataW H×List MemPlace),TR enc w n 151 cs=some x->∃e:E,E.row e=cs/\E.Ok (qBm w) e:=by
 intro n
 induction n using Nat.strongRecOn with
 | _ n ih =>
 intro cs x h
 obtain⟨hl,m,hm,hs⟩:=qBn Tryz.underlying151 h
 obtain⟨a,b,c,d,rfl⟩:=len4 (hl.trans cl40)
 obtain⟨op,rfl,ho⟩:=gI (at1 (hs 0 _ rfl) cl3 rfl)
 obtain⟨nn,rfl,hn⟩:=gI (at1 (hs 1 _ rfl) cl3 rfl)
 obtain⟨s,rfl⟩:=gS (at1 (hs 2 _ rfl) cl9 rfl)
 obtain⟨l,k,rfl,hr,hk⟩:=gSl (row:=E.row) (ok:=E.Ok (qBm w)) Tryz.underlying149 cl40 (by decide) (fun _=>rfl) (fun m' hm'=>ih m' (by omega)) (at1 (hs 3 _ rfl) cl38 rfl)
 exact⟨.mk op nn s l k,rfl,.mk hr hk ho hn⟩
theorem S.row_len:∀s:S,(S.row s).length=5:=fun s=>by cases s;rfl
theorem rdS:∀(n:Nat) (cs:List Value) (x:DataW H×List MemPlace),TR enc w n 154 cs=some x->∃e:S,S.row e=cs/\S.Ok (qBm w) e:=by
 intro n
 induction n using Nat.strongRecOn with
 | _ n ih =>
 intro cs x h
 obtain⟨hl,m,hm,hs⟩:=qBn Tryz.underlying154 h
 obtain⟨a,b,c,d,e,rfl⟩:=len5 (hl.trans cl75)
 obtain⟨op,rfl,ho⟩:=gI (at1 (hs 0 _ rfl) cl3 rfl)
 obtain⟨s,rfl⟩:=gS (at1 (hs 1 _ rfl) cl9 rfl)
 obtain⟨el,es,rfl,hr1,hk1⟩:=gSl (row:=E.row) (ok:=E.Ok (qBm w)) Tryz.underlying149 cl40 (by decide) (fun _=>rfl) (fun m' _=>rdE m') (at1 (hs 2 _ rfl) cl38 rfl)
 obtain⟨ll,ls,rfl,hr2,hk2⟩:=gSl (row:=S.row) (ok:=S.Ok (qBm w)) Tryz.underlying141 cl75 (by decide) S.row_len (fun m' hm'=>ih m' (by omega)) (at1 (hs 3 _ rfl) cl52 rfl)
 obtain⟨xl,xs,rfl,hr3,hk3⟩:=gSl (row:=S.row) (ok:=S.Ok (qBm w)) Tryz.underlying141 cl75 (by decide) S.row_len (fun m' hm'=>ih m' (by omega)) (at1 (hs 4 _ rfl) cl52 rfl)
 exact⟨.mk op s el es ll ls xl xs,rfl,.mk hr1 hk1 hr2 hk2 hr3 hk3 ho⟩
theorem gF{m:Nat}{v:Value}(h:∃y,TR enc w m 23 [v]=some y):∃(s:Sl) (xs:List Fld),v=.slice s.p s.n s.c/\qAc (qBm w) s 2 (xs.map Fld.row):=by
 obtain⟨s,xs,h1,h2,-⟩:=gSl (row:=Fld.row) (ok:=fun _=>True) Tryz.underlying23 cl67 (by decide) (fun _=>rfl) (fun _ _ _ _=>rdFld) h
 grind
theorem rdTy{n:Nat}{cs:List Value}{x:DataW H×List MemPlace}(h:TR enc w n 98 cs=some x):∃f:Ty,Ty.row f=cs/\Ty.Ok (qBm w) f:=by
 obtain⟨hl,m,-,hs⟩:=qBn Tryz.underlying98 h
 obtain⟨a,b,rfl⟩:=len2 (hl.trans cl94)
 obtain⟨s1,rfl⟩:=gS (at1 (hs 0 _ rfl) cl9 rfl)
 obtain⟨l,k,rfl,hr⟩:=gF (at1 (hs 1 _ rfl) cl23 rfl)
 exact⟨⟨s1,l,k⟩,rfl,⟨hr⟩⟩
theorem rdPr{n:Nat}{cs:List Value}{x:DataW H×List MemPlace}(h:TR enc w n 143 cs=some x):∃f:Pr,Pr.row f=cs/\Pr.Ok (qBm w) f:=by
 obtain⟨hl,m,-,hs⟩:=qBn Tryz.underlying143 h
 obtain⟨a,b,c,d,e,rfl⟩:=len5 (hl.trans cl54)
 obtain⟨s1,rfl⟩:=gS (at1 (hs 0 _ rfl) cl9 rfl)
 obtain⟨l1,k1,rfl,hr1⟩:=gF (at1 (hs 1 _ rfl) cl23 rfl)
 obtain⟨s2,rfl⟩:=gS (at1 (hs 2 _ rfl) cl9 rfl)
 obtain⟨l2,k2,rfl,hr2⟩:=gF (at1 (hs 3 _ rfl) cl23 rfl)
 obtain⟨l3,k3,rfl,hr3,hk3⟩:=gSl (row:=S.row) (ok:=S.Ok (qBm w)) Tryz.underlying141 cl75 (by decide) S.row_len (fun m' _=>rdS m') (at1 (hs 4 _ rfl) cl52 rfl)
 exact⟨⟨s1,l1,k1,s2,l2,k2,l3,k3⟩,rfl,⟨hr1,hr2,hr3,hk3⟩⟩
theorem rdMs{n:Nat}{cs:List Value}{x:DataW H×List MemPlace}(h:TR enc w n 184 cs=some x):∃f:Ms,Ms.row f=cs/\Ms.Ok (qBm w) f:=by
 obtain⟨hl,m,-,hs⟩:=qBn Tryz.underlying184 h
 obtain⟨a,b,c,d,e,f,g,rfl⟩:=len7 (hl.trans cl97)
 obtain⟨s1,rfl⟩:=gS (at1 (hs 0 _ rfl) cl9 rfl)
 obtain⟨s2,rfl⟩:=gS (at1 (hs 1 _ rfl) cl9 rfl)
 obtain⟨nn,rfl,hn⟩:=gI (at1 (hs 2 _ rfl) cl3 rfl)
 obtain⟨y,hy⟩:=hs 3 _ rfl
 change TR enc w m 151 (([Value.string s1,.string s2,.int .i64 nn,d,e,f,g].drop 3).take (Tryz.prog.cellsOf 151))=some y at hy
 rw[cl40]at hy
 obtain⟨x,hx,hxo⟩:=rdE m _ _ hy
 simp only[List.drop_succ_cons,List.drop_zero,List.take_succ_cons,List.take_zero,E.row,List.cons.injEq,and_true]at hx
 obtain⟨rfl,rfl,rfl,rfl⟩:=hx
 exact⟨⟨s1,s2,nn,x⟩,rfl,⟨hxo,hn⟩⟩
theorem rdIv{n:Nat}{cs:List Value}{x:DataW H×List MemPlace}(h:TR enc w n 187 cs=some x):∃f:Iv,Iv.row f=cs/\E.Ok (qBm w) f.x:=by
 obtain⟨hl,m,-,hs⟩:=qBn Tryz.underlying187 h
 obtain⟨a,b,d,e,f,g,rfl⟩:=len6 (hl.trans cl58)
 obtain⟨s1,rfl⟩:=gS (at1 (hs 0 _ rfl) cl9 rfl)
 obtain⟨s2,rfl⟩:=gS (at1 (hs 1 _ rfl) cl9 rfl)
 obtain⟨y,hy⟩:=hs 2 _ rfl
 change TR enc w m 151 (([Value.string s1,.string s2,d,e,f,g].drop 2).take (Tryz.prog.cellsOf 151))=some y at hy
 rw[cl40]at hy
 obtain⟨x,hx,hxo⟩:=rdE m _ _ hy
 simp only[List.drop_succ_cons,List.drop_zero,List.take_succ_cons,List.take_zero,E.row,List.cons.injEq,and_true]at hx
 obtain⟨rfl,rfl,rfl,rfl⟩:=hx
 exact⟨⟨s1,s2,x⟩,rfl,hxo⟩
theorem rdPo{n:Nat}{cs:List Value}{x:DataW H×List MemPlace}(h:TR enc w n 189 cs=some x):∃f:Po,Po.row f=cs/\E.Ok (qBm w) f.x:=by
 obtain⟨hl,m,-,hs⟩:=qBn Tryz.underlying189 h
 obtain⟨a,d,e,f,g,rfl⟩:=len5 (hl.trans cl61)
 obtain⟨s1,rfl⟩:=gS (at1 (hs 0 _ rfl) cl9 rfl)
 obtain⟨y,hy⟩:=hs 1 _ rfl
 change TR enc w m 151 (([Value.string s1,d,e,f,g].drop 1).take (Tryz.prog.cellsOf 151))=some y at hy
 rw[cl40]at hy
 obtain⟨x,hx,hxo⟩:=rdE m _ _ hy
 simp only[List.drop_succ_cons,List.drop_zero,List.take_succ_cons,List.take_zero,E.row,List.cons.injEq,and_true]at hx
 obtain⟨rfl,rfl,rfl,rfl⟩:=hx
 exact⟨⟨s1,x⟩,rfl,hxo⟩
theorem rdBd{n:Nat}{cs:List Value}{x:DataW H×List MemPlace}(h:TR enc w n 191 cs=some x):∃f:Bd,Bd.row f=cs/\E.Ok (qBm w) f.x:=by
 obtain⟨hl,m,-,hs⟩:=qBn Tryz.underlying191 h
 obtain⟨a,d,e,f,g,rfl⟩:=len5 (hl.trans cl64)
 obtain⟨s1,rfl⟩:=gS (at1 (hs 0 _ rfl) cl9 rfl)
 obtain⟨y,hy⟩:=hs 1 _ rfl
 change TR enc w m 151 (([Value.string s1,d,e,f,g].drop 1).take (Tryz.prog.cellsOf 151))=some y at hy
 rw[cl40]at hy
 obtain⟨x,hx,hxo⟩:=rdE m _ _ hy
 simp only[List.drop_succ_cons,List.drop_zero,List.take_succ_cons,List.take_zero,E.row,List.cons.injEq,and_true]at hx
 obtain⟨rfl,rfl,rfl,rfl⟩:=hx
 exact⟨⟨s1,x⟩,rfl,hxo⟩
theorem rdDs{n:Nat}{cs:List Value}{x:DataW H×List MemPlace}(h:TR enc w n 30 cs=some x):∃d:Ds,d.row=cs/\Ds.Ok (qBm w) d:=by
 obtain⟨hl,m,-,hs⟩:=qBn Tryz.underlying30 h
 obtain⟨a,b,c,d,e,f,g,i,rfl⟩:=len8 (hl.trans cl30)
 obtain⟨s1,rfl⟩:=gS (at1 (hs 0 _ rfl) cl9 rfl)
 obtain⟨l1,k1,rfl,h1,o1⟩:=gSl (row:=Ty.row) (ok:=Ty.Ok (qBm w)) Tryz.underlying22 cl94 (by decide) (fun _=>rfl) (fun _ _ _ _=>rdTy) (at1 (hs 1 _ rfl) cl22 rfl)
 obtain⟨l2,k2,rfl,h2⟩:=gF (at1 (hs 2 _ rfl) cl23 rfl)
 obtain⟨l3,k3,rfl,h3,o3⟩:=gSl (row:=Pr.row) (ok:=Pr.Ok (qBm w)) Tryz.underlying24 cl54 (by decide) (fun _=>rfl) (fun _ _ _ _=>rdPr) (at1 (hs 3 _ rfl) cl24 rfl)
 obtain⟨l4,k4,rfl,h4,o4⟩:=gSl (row:=Ms.row) (ok:=Ms.Ok (qBm w)) Tryz.underlying25 cl97 (by decide) (fun _=>rfl) (fun _ _ _ _=>rdMs) (at1 (hs 4 _ rfl) cl25 rfl)
 obtain⟨l5,k5,rfl,h5,o5⟩:=gSl (row:=Iv.row) (ok:=fun f=>E.Ok (qBm w) f.x) Tryz.underlying26 cl58 (by decide) (fun _=>rfl) (fun _ _ _ _=>rdIv) (at1 (hs 5 _ rfl) cl26 rfl)
 obtain⟨l6,k6,rfl,h6,o6⟩:=gSl (row:=Po.row) (ok:=fun f=>E.Ok (qBm w) f.x) Tryz.underlying27 cl61 (by decide) (fun _=>rfl) (fun _ _ _ _=>rdPo) (at1 (hs 6 _ rfl) cl27 rfl)
 obtain⟨l7,k7,rfl,h7,o7⟩:=gSl (row:=Bd.row) (ok:=fun f=>E.Ok (qBm w) f.x) Tryz.underlying28 cl64 (by decide) (fun _=>rfl) (fun _ _ _ _=>rdBd) (at1 (hs 7 _ rfl) cl28 rfl)
 exact⟨⟨s1,l1,k1,l2,k2,l3,k3,l4,k4,l5,k5,l6,k6,l7,k7⟩,rfl,⟨h1,o1,h2,h3,o3,h4,o4,h5,o5,h6,o6,h7,o7⟩⟩
end
end Go.Proofs
namespace Go.Proofs.YtmeagdecjpknkaaGreatDoor
open Go Go.Sx Go.Proofs Go.ChangeShapes Go.WideShapes Go.ChangeAt Go.RowKit
theorem same_old{P:Program}{f:FuncId}{args:List Value}{W:World}{v:Value}(h:Pur P f args (qBm W) v):Calls P f args.toArray W fun e W'=>e=.returned v/\W'.os=W.os/\W'.output=W.output/\W.heap.size<=W'.heap.size/\∀b,b<W.heap.size->W'.heap[b]?=W.heap[b]?:=by
 have h2:Tri P f args.toArray (qBm W) fun e V'=>e=.returned v/\V'=qBm W:=h
 unfold Tri at h2
 refine qCL (h2 W (heapM_le W)) ?_
 rintro e W' ⟨V',⟨rfl,rfl⟩,hF⟩
 refine⟨rfl,hF.os,hF.out,hF.size,fun b hb=>?_⟩
 have:qBm W b=some W.heap[b]:=Array.getElem?_eq_getElem hb
 rw[hF.le b _ this];exact this.symm
theorem Tryz.own:ownKnob Tryz.prog.godebug=none:=by kernel_rfl
theorem Tryz.laidOut:laidOutB Tryz.prog=true:=by kernel_rfl
theorem tab_of{W:World}(h:Lib.TabIs Tryz.prog W "strings.asciiSpace" .u8 Lib.asciiSpaceTab):Tab (qBm W):=by
 have hg:Tryz.prog.globalNamed "strings.asciiSpace" = some 0:=by kernel_rfl
 unfold Lib.TabIs World.var? at h
 rw[hg,Option.bind_some]at h
 split at h
 ·rename_i cs t fr hb
  simp only[Option.some.injEq]at h
  exact⟨t,fr,by rw[<- h];exact hb⟩
 ·cases h
theorem desc_of{H:Type}{enc:TypeId×Value->H}{W:World}{v:Value}{d0:DataW H}{p:List MemPlace}(h:DataW.Trod enc Tryz.prog W 0 (fun _=>true) true 30 v d0 p):∃d:Ds,v=d.v/\Ds.Ok (qBm W) d:=by
 obtain⟨fuel,h⟩:=h
 obtain⟨d,hd,hok⟩:=rdDs h
 refine⟨d,?_,hok⟩
 have hl:v.cells.toList.length=8:=by rw[<- hd];rfl
 cases v with
 | agg cs =>
  have:cs.toList=d.row:=hd.symm
  show Value.agg cs=.agg d.row.toArray
  rw[<- this]
 | _=>simp[Value.cells]at hl
noncomputable def laidWorld(os:Os):World :=
 let w0:=World.holding Tryz.prog os ⟨#[.cells #[.int .u16 9,.int .u16 13,.int .u16 1,.int .u16 32,.int .u16 133,.int .u16 101,.int .u16 160,.int .u16 5760,.int .u16 5600,.int .u16 8192,.int .u16 8202,.int .u16 1,.int .u16 8232,.int .u16 8233,.int .u16 1,.int .u16 8239,.int .u16 8287,.int .u16 48,.int .u16 12288,.int .u16 12288,.int .u16 1] 385,
  .cells #[.slice (some ⟨(World.settled Tryz.prog os).heap.size,0,none⟩) 7 7,.slice none 0 0,.int .i64 2] 382],#[],[]⟩
 {w0 with heap:=(w0.heap.modify 0 fun
   | .cells _ t frozen=>.cells (Lib.asciiSpaceTab.map fun z=>Value.int .u8 z).toArray t frozen
   | o=>o).modify 1 fun
   | .cells _ t frozen=>.cells #[.pointer (some ⟨(World.settled Tryz.prog os).heap.size+1,0,none⟩)] t frozen
   | o=>o }
theorem qKG(os:Os)(args:Array Value):laidMet Tryz.prog [("unicode.White_Space",Rows.laid_unicode_White_Space),("strings.asciiSpace",Rows.laid_strings_asciiSpace)] ((laidWorld os).forCall (fun _ _=>0) ⟨#[],args,[]⟩).memory :=
 (LaidIn.of_run [0,1,(World.settled Tryz.prog os).heap.size,(World.settled Tryz.prog os).heap.size+1] 12 (by kernel_rfl) (by kernel_rfl) (by kernel_rfl) (by kernel_rfl)).met
end Go.Proofs.YtmeagdecjpknkaaGreatDoor
namespace Go.Proofs.YtmeagdecjpknkaaGreatDoor
open Go Go.Sx Go.Proofs Go.ChangeShapes Go.WideShapes Go.ChangeAt Go.RowKit
abbrev laid0:List (String×DataW Unit):=[("unicode.White_Space",Rows.laid_unicode_White_Space),("strings.asciiSpace",Rows.laid_strings_asciiSpace)]
theorem qHn{w:World}:laidMetH Tryz.prog laid0 w↔laidMet Tryz.prog laid0 w:=by
 rfl
theorem tab_laid{W:World}(h:laidMet Tryz.prog laid0 W):Tab (qBm W):=by
 obtain⟨ps,h1,h2,h3⟩:=h
 obtain⟨g,t,cs,fuel,p,q,hg,ht,hvar,hd,hrest,hps⟩:=h1
 obtain⟨g',t',cs',fuel',p',q',hg',ht',hvar',hd',hrest',hps'⟩:=hrest
 refine tab_of ?_
 unfold Lib.TabIs
 rw[hvar']
 have hgg:g'=0:=Option.some.inj (hg'.symm.trans (show Tryz.prog.globalNamed "strings.asciiSpace" = some 0 by kernel_rfl))
 subst hgg
 have htt:t'=365:=Option.some.inj (ht'.symm.trans (show (Tryz.prog.globals[0]?).map (·.type)=some 365 by kernel_rfl))
 subst htt
 have hdat:(Rows.laid_strings_asciiSpace:DataW Unit)=Lib.tabData .u8 Lib.asciiSpaceTab:=by kernel_rfl
 rw[hdat]at hd'
 rw[<- Lib.cells_of_tab (n:=256) (e:=5) Tryz.underlying365 Tryz.underlying5 (by kernel_rfl) (by kernel_rfl) hd']
theorem kept{W W':World}(h1:W'.os=W.os)(h2:W'.output=W.output)(hold:∀b,b<W.heap.size->W'.heap[b]?=W.heap[b]?)(may:MemPlace->Prop):W.keptBut W' may:=by
 refine⟨h1,h2,fun i hi=>?_⟩
 grind
theorem again_arg{H:Type}{enc:TypeId×Value->H}{t:TypeId}(hr:Tryz.prog.readableRec t=true)(hrow:t<Tryz.prog.types.size){W W':World}{v:Value}{d:DataW H}{ps:List MemPlace}(h:DataW.Trod enc Tryz.prog W 0 (fun _=>true) true t v d ps)
  (hold:∀b,b<W.heap.size->W'.heap[b]?=W.heap[b]?) (hlt:∀x∈ps,x.block<W.heap.size):DataW.Trod enc Tryz.prog W' 0 (fun b=>decide (b<W.heap.size)) true t v d ps :=
 WideElems.Trod_stays Tryz.laidOut hr hrow h (fun x hx=>by
  have:=hlt x hx
  cases x with
  | cell b o=>exact World.cell?_of_block (w:=W) (hold b this)
  | map b=>exact hold b this) (fun x hx=>by simp_all)
theorem wit{C:Checked}{os:Os}{f:FuncId}{fn:Func}{s:ChangeSpec}{conds:List PathCond}{apart:Bool}{X:World->Array Value->Prop}{H:Type}{enc:TypeId×Value->H}(w0:World)(args:Array Value)(fuel:Nat)(hos:w0.os=os)
  (hv:(w0.forCall (fun _ _=>0) ⟨#[],args,[]⟩).variablesRefB C.prog=true)
  (hr:((w0.forCall (fun _ _=>0) ⟨#[],args,[]⟩).heap.toList.drop C.prog.globals.size).take ((begin C.prog (fun _ _=>0) default).world.heap.size-C.prog.globals.size) =
   (begin C.prog (fun _ _=>0) default).world.heap.toList.drop C.prog.globals.size)
  (hok:Input.okWideB C.prog (w0.forCall (fun _ _=>0) ⟨#[],args,[]⟩) f ⟨#[],args,[]⟩=true)
  (hpre:s.preB enc C.prog fn conds apart (w0.forCall (fun _ _=>0) ⟨#[],args,[]⟩).memory args fuel=true)
  (hsz:s.sizedB enc C.prog fn apart (w0.forCall (fun _ _=>0) ⟨#[],args,[]⟩).memory args fuel=true)
  (hx:X (w0.forCall (fun _ _=>0) ⟨#[],args,[]⟩).memory args) :
  ∃(w:World) (tape:Tape) (i:Input),w.os=os/\(w.forCall tape i).Shaped C.prog/\i.vars=[]/\Input.okWide C.prog (w.forCall tape i) .any w.heap.size f i /\
   ((s.pre enc C.prog fn conds apart (w.forCall tape i).memory i.args/\X (w.forCall tape i).memory i.args)/\sizedMet enc C.prog fn (OpenSpec.ofChange s) apart (w.forCall tape i).memory i.args)/\({}:Assume).holds C.prog (lone (Frame.enter C.prog f i.args .normal) [] (w.forCall tape i)) :=
 ⟨w0,fun _ _=>0,⟨#[],args,[]⟩,hos,World.shaped_of_RefB hv hr,(Input.okWide_of_okWideB (base:=0) hok).1,(Input.okWide_of_okWideB hok).2,⟨⟨ChangeSpec.pre_of_preB hpre,hx⟩,sizedMet_of_sizedB hsz⟩,by
  grind [Assume.holds]⟩
theorem again_all{H:Type}{enc:TypeId×Value->H}{W W':World}(hold:∀b,b<W.heap.size->W'.heap[b]?=W.heap[b]?):∀{ts:List TypeId} {vs:List Value} {ds:List (DataW H)} {ps:List MemPlace},(∀t∈ts,Tryz.prog.readableRec t=true/\t<Tryz.prog.types.size) ->
  DataW.TrodAll enc Tryz.prog W 0 (fun _=>true) true ts vs ds ps->(∀x∈ps,x.block<W.heap.size)->DataW.TrodAll enc Tryz.prog W' 0 (fun b=>decide (b<W.heap.size)) true ts vs ds ps
 | [],_,_,_,_,h,_=>by
  obtain⟨rfl,rfl,rfl⟩:=trodAll_nil h
  rfl
 | t::ts,_,_,_,hr,h,hlt=>by
  obtain⟨v,vs,d,ds,p,q,rfl,rfl,rfl,h1,h2⟩:=trodAll_cons h
  exact⟨p,q,again_arg (hr t (by simp)).1 (hr t (by simp)).2 h1 hold (fun x hx=>hlt x (List.mem_append_left _ hx)),again_all hold (fun u hu=>hr u (by simp[hu])) h2 (fun x hx=>hlt x (List.mem_append_right _ hx)),rfl⟩
end Go.Proofs.YtmeagdecjpknkaaGreatDoor
namespace Go.Proofs.YtmeagdecjpknkaaGreatDoor
open Go Go.Sx Go.Proofs Go.ChangeShapes Go.WideShapes Go.ChangeAt Go.RowKit
section
variable{H:Type}{enc:TypeId×Value->H}{w:World}
theorem cl31:Tryz.prog.cellsOf 31=1:=by kernel_rfl
theorem clNd:Tryz.prog.cellsOf 92=2:=by kernel_rfl
theorem clNds:Tryz.prog.cellsOf 32=1:=by kernel_rfl
theorem clMm:Tryz.prog.cellsOf 34=2:=by kernel_rfl
theorem gInts{m:Nat}{v:Value}(h:∃y,TR enc w m 31 [v]=some y):∃(s:Sl) (xs:List Int),v=.slice s.p s.n s.c/\qAc (qBm w) s 1 (xs.map qAe)/\∀x∈xs,inI x :=
 gSl (row:=qAe) (ok:=inI) Tryz.underlying31 cl3 (by decide) (fun _=>rfl) (fun m' _ cs x hx=>by
  obtain⟨n,rfl,hn⟩:=rd_int Tryz.underlying3 hx
  exact⟨n,rfl,hn⟩) h
theorem rdNd{n:Nat}{cs:List Value}{x:DataW H×List MemPlace}(h:TR enc w n 92 cs=some x):∃f:Nd,Nd.row f=cs/\Nd.Ok (qBm w) f:=by
 obtain⟨hl,m,-,hs⟩:=qBn Tryz.underlying92 h
 obtain⟨a,b,rfl⟩:=len2 (hl.trans clNd)
 obtain⟨t,rfl,ht⟩:=gI (at1 (hs 0 _ rfl) cl3 rfl)
 obtain⟨l,k,rfl,hr,hk⟩:=gInts (at1 (hs 1 _ rfl) cl31 rfl)
 exact⟨⟨t,l,k⟩,rfl,⟨hr,ht,hk⟩⟩
theorem rdMm{n:Nat}{cs:List Value}{x:DataW H×List MemPlace}(h:TR enc w n 34 cs=some x):∃m:Mm,m.row=cs/\Mm.Ok (qBm w) m:=by
 obtain⟨hl,m,-,hs⟩:=qBn Tryz.underlying34 h
 obtain⟨a,b,rfl⟩:=len2 (hl.trans clMm)
 obtain⟨l1,k1,rfl,h1,o1⟩:=gInts (at1 (hs 0 _ rfl) cl31 rfl)
 obtain⟨l2,k2,rfl,h2,o2⟩:=gSl (row:=Nd.row) (ok:=Nd.Ok (qBm w)) Tryz.underlying32 clNd (by decide) (fun _=>rfl) (fun _ _ _ _=>rdNd) (at1 (hs 1 _ rfl) clNds rfl)
 exact⟨⟨l1,k1,l2,k2⟩,rfl,⟨h1,o1,h2,o2⟩⟩
theorem clCl:Tryz.prog.cellsOf 49=2:=by kernel_rfl
theorem rdCl{n:Nat}{cs:List Value}{x:DataW H×List MemPlace}(h:TR enc w n 49 cs=some x):∃(nm:ByteArray) (l:Sl) (xs:List Int),[Value.string nm,l.v]=cs/\qAc (qBm w) l 1 (xs.map qAe):=by
 obtain⟨hl,m,-,hs⟩:=qBn Tryz.underlying49 h
 obtain⟨a,b,rfl⟩:=len2 (hl.trans clCl)
 obtain⟨t,rfl⟩:=gS (at1 (hs 0 _ rfl) cl9 rfl)
 obtain⟨l,k,rfl,hr,-⟩:=gInts (at1 (hs 1 _ rfl) cl31 rfl)
 exact⟨t,l,k,rfl,hr⟩
end
theorem mem_of{H:Type}{enc:TypeId×Value->H}{W:World}{v:Value}{d0:DataW H}{p:List MemPlace}(h:DataW.Trod enc Tryz.prog W 0 (fun _=>true) true 34 v d0 p):∃m:Mm,v=m.v/\Mm.Ok (qBm W) m:=by
 obtain⟨fuel,h⟩:=h
 obtain⟨m,hm,hok⟩:=rdMm h
 refine⟨m,?_,hok⟩
 have hl:v.cells.toList.length=2:=by rw[<- hm];rfl
 cases v with
 | agg cs =>
  have:cs.toList=m.row:=hm.symm
  show Value.agg cs=.agg m.row.toArray
  rw[<- this]
 | _=>simp[Value.cells]at hl
theorem call_of{H:Type}{enc:TypeId×Value->H}{W:World}{v:Value}{d0:DataW H}{p:List MemPlace}(h:DataW.Trod enc Tryz.prog W 0 (fun _=>true) true 49 v d0 p):∃(nm:ByteArray) (l:Sl) (xs:List Int),v=.agg #[.string nm,l.v]/\qAc (qBm W) l 1 (xs.map qAe):=by
 obtain⟨fuel,h⟩:=h
 obtain⟨nm,l,xs,hm,hok⟩:=rdCl h
 refine⟨nm,l,xs,?_,hok⟩
 have hl:v.cells.toList.length=2:=by rw[<- hm];rfl
 cases v with
 | agg cs =>
  have:cs.toList=[Value.string nm,l.v]:=hm.symm
  show Value.agg cs=.agg ([Value.string nm,l.v]:List Value).toArray
  rw[<- this]
 | _=>simp[Value.cells]at hl
end Go.Proofs.YtmeagdecjpknkaaGreatDoor
namespace Go.Proofs.YtmeagdecjpknkaaGreatDoor
open Go Go.Sx Go.Proofs Go.ChangeShapes Go.WideShapes Go.ChangeAt Go.RowKit
theorem qJZ{H:Type}{enc:TypeId×Value->H}{w:World}{a b c d e f g:TypeId}{args:Array Value}{ds:List (DataW H)}{ps:List MemPlace}(h:DataW.TrodAll enc Tryz.prog w 0 (fun _=>true) true [a,b,c,d,e,f,g] args.toList ds ps) :
  ∃v0 v1 v2 v3 v4 v5 v6 d0 d1 d2 d3 d4 d5 d6 p0 p1 p2 p3 p4 p5 p6,args=#[v0,v1,v2,v3,v4,v5,v6]/\ds=[d0,d1,d2,d3,d4,d5,d6]/\ps=p0++(p1++(p2++(p3++(p4++(p5++p6)))))/\DataW.Trod enc Tryz.prog w 0 (fun _=>true) true a v0 d0 p0/\DataW.Trod enc Tryz.prog w 0 (fun _=>true) true b v1 d1 p1/\DataW.Trod enc Tryz.prog w 0 (fun _=>true) true c v2 d2 p2/\DataW.Trod enc Tryz.prog w 0 (fun _=>true) true d v3 d3 p3/\DataW.Trod enc Tryz.prog w 0 (fun _=>true) true e v4 d4 p4/\DataW.Trod enc Tryz.prog w 0 (fun _=>true) true f v5 d5 p5/\DataW.Trod enc Tryz.prog w 0 (fun _=>true) true g v6 d6 p6:=by
 obtain⟨v0,vs,d0,ds',p,q,hargs,rfl,rfl,h0,hrest⟩:=trodAll_cons h
 obtain⟨v1,vs1,d1,ds1,p1,q1,rfl,rfl,rfl,h1,hrest⟩:=trodAll_cons hrest
 obtain⟨v2,vs2,d2,ds2,p2,q2,rfl,rfl,rfl,h2,hrest⟩:=trodAll_cons hrest
 obtain⟨v3,vs3,d3,ds3,p3,q3,rfl,rfl,rfl,h3,hrest⟩:=trodAll_cons hrest
 obtain⟨v4,vs4,d4,ds4,p4,q4,rfl,rfl,rfl,h4,hrest⟩:=trodAll_cons hrest
 obtain⟨v5,vs5,d5,ds5,p5,q5,rfl,rfl,rfl,h5,hrest⟩:=trodAll_cons hrest
 obtain⟨v6,vs6,d6,ds6,p6,q6,rfl,rfl,rfl,h6,hrest⟩:=trodAll_cons hrest
 obtain⟨rfl,rfl,rfl⟩:=trodAll_nil hrest
 exact⟨v0,v1,v2,v3,v4,v5,v6,d0,d1,d2,d3,d4,d5,d6,p,p1,p2,p3,p4,p5,p6,by grind,rfl,by simp,h0,h1,h2,h3,h4,h5,h6⟩
end Go.Proofs.YtmeagdecjpknkaaGreatDoor
namespace Go.Proofs
open Go Go.Sx
end Go.Proofs
