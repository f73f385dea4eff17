/- Part 21 of a proof of a law of this seat: no statement of the seat is proved here. -/
import Derived.Test.YtmeagdecjpknkaaGreatDoorPp20
set_option linter.unusedVariables false
set_option linter.unusedSimpArgs false
namespace Go.Proofs
open Go Go.Sx
attribute [local irreducible] Go.Sx.Tri
section
variable{V:Mem}{d:Ds}{m:Mm}{nm:ByteArray}{args pl:List Int}{l ps:Sl}{size most:Int}
theorem runAny[Tab V]{fu:Int}(hd:Ds.Ok V d)(hm:Mm.Ok V m)(ha:qAc V l 1 (args.map qAe))(hF:fu<=4000∨1048576<fu):Tri Tryz.prog 24 #[d.v,m.v,.agg #[.string nm,l.v],.int .i64 fu] V fun e V' =>
  (qAJ d m nm args fu≠0/\V.sub V'/\e=.returned (.tuple #[.agg (qDP 0 0 0 0).toArray,.agg #[qAP.v,qAP.v],.int .i64 (qAJ d m nm args fu)])) ∨
  (qAJ d m nm args fu=0/\∃r:Rx Int,∃gs ns ls nd,r=qBQ d fu.toNat (qCP d nm) args (qBV m)/\Lay V V' gs ns ls nd r.st/\e=.returned (.tuple #[.agg (qDP (outC r) (outV r) r.st.cm (qBa r.st.lg)).toArray,.agg #[gs.v,ns.v],.int .i64 0])):=by
 by_cases hg:qAS d m fu=0
 ·have hf:=qET hg
  obtain⟨n,rfl⟩:∃n:Nat,fu=(n:Int):=⟨fu.toNat,by omega⟩
  refine Tri.mono (c24 hd hm ha (by omega)) ?_
  rintro e V' (h|h)
  ·exact .inl h
  ·exact .inr (by rw[Int.toNat_natCast];exact h)
 ·refine Tri.mono (runEv hd hm hg) ?_
  rintro e V' ⟨hs,rfl⟩
  have e:qAJ d m nm args fu=qAS d m fu:=by unfold qAJ;rw[if_neg hg]
  exact .inl ⟨by rw[e];exact hg,hs,by rw[e]⟩
theorem exr_why{F:Int}(h:qFJ d m pl size most nm args F≠0)(hst:qAJ d m nm args F=0)(hs:1<=size/\size<=64)(hl:pl.length=m.nodes.length)(hp:plB pl size=true):qFJ d m pl size most nm args F=2/\¬(1<=most/\most<=1000):=by
 have hg:qAS d m F=0:=Classical.byContradiction fun hg=>by
  unfold qAJ at hst
  rw[if_neg hg]at hst
  exact hg hst
 have hf:=qET hg
 have G:=qDF hg
 have h0:qAS d m 0=0:=by grind [qAS]
 by_cases c:1<=most/\most<=1000
 ·exfalso
  apply h
  unfold qFJ exE
  rw[if_pos h0,if_pos (by omega),if_pos ⟨hl,hp⟩]
  exact hst
 ·have e:exE d m size most F=2:=by unfold exE;rw[if_pos h0,if_neg (by omega)]
  exact⟨by unfold qFJ;rw[e,if_neg (by decide)],c⟩
theorem exr_one{F:Int}(h:qFJ d m pl size most nm args F=0):qFJ d m pl size 1 nm args F=0:=by
 unfold qFJ at h ⊢
 by_cases h0:exE d m size most F=0
 ·obtain⟨G,a1,a2,-,-,a3,a4⟩:=qGU h0
  have h1:qAS d m 0=0:=by grind [qAS]
  have e:exE d m size 1 F=0:=by unfold exE;rw[if_pos h1,if_pos (by omega)]
  rw[if_pos h0]at h
  rw[if_pos e];exact h
 ·rw[if_neg h0]at h;exact absurd h h0
theorem blk_right{F:Nat}{k:Int}{z:Nat}{r:Rx Int}(h:qAJ d m nm args F=0)(hr:r=qBQ d F (qCP d nm) args (qBV m))(hP:qAY d m k z pl)(hz:1<=z) :
  plB pl z=true/\pl.length=m.nodes.length/\plB (qCx z r.st.lg pl).1 z=true/\(qCx z r.st.lg pl).1.length=r.st.ns.length/\pl <+: (qCx z r.st.lg pl).1/\(qCx z r.st.lg pl).2.length=qBa r.st.lg/\∀b∈(qCx z r.st.lg pl).2,0<=b/\b<=1048576:=by
 have G:=(qDw h).1
 obtain⟨hlog,hlen⟩:=qKr h
 have hns:r.st.ns.length<=4096:=by rw[hr];exact qDz h
 rw[<- hr]at hlog hlen
 obtain⟨P,hlow,hl⟩:=place_plc G.mem hz hP
 have hln:=hlog.len
 have h4:=(qAh G.mem).2.1
 have a1:=blk_plc (lg:=r.st.lg) P hlow (by omega) (by omega) r.st.lg.length (Nat.le_refl _)
 have a2:=blk_len (size:=(z:Int)) (lg:=r.st.lg) (pl:=pl) r.st.lg.length (Nat.le_refl _)
 have a3:=blk_pre (size:=(z:Int)) (lg:=r.st.lg) (pl:=pl) r.st.lg.length (Nat.le_refl _)
 have a4:=blk_tr (size:=(z:Int)) (lg:=r.st.lg) (pl:=pl) r.st.lg.length (Nat.le_refl _)
 have a5:=(blk_rng (size:=(z:Int)) (lg:=r.st.lg) (pl:=pl) (M:=4095) (fun b hb=>⟨(P.rng b hb).1,by have:=(P.rng b hb).2;omega⟩) (by omega) r.st.lg.length (Nat.le_refl _)).2
 rw[List.take_length]at a1 a2 a3 a4 a5
 exact⟨qDW.2 ⟨by omega,P⟩,hl,qDW.2 ⟨by omega,a1.1⟩,by omega,a3,a4,fun b hb=>by have:=a5 b hb;omega⟩
theorem c5[Tab V](hd:Ds.Ok V d)(hm:Mm.Ok V m)(ha:qAc V l 1 (args.map qAe)){k fu:Int}:PP 5 [d.v,m.v,.int .i64 k,.int .i64 size,.int .i64 most,.agg #[.string nm,l.v],.int .i64 fu] V (.bool true):=by
 obtain⟨R,hR⟩:∃R:Ending->Mem->Prop,R=fun e V'=>e=.returned (.bool true)/\V.sub V':=⟨_,rfl⟩
 refine Pur.mk ?_
 rw[<- hR]
 refine x5 ?_
 unfold w5
 have fin:∀{V'},V.sub V'->R (.returned (.bool true)) V':=fun h=>by rw[hR];exact⟨rfl,h⟩
 refine c9.call ⟨_,rfl,fun _=>?_,fun h=>absurd rfl h⟩
 refine Tri.mono (c10 hd hm (fu:=fu)) ?_
 rintro _ V0 ⟨rfl,b,rfl,hfu⟩
 refine⟨_,rfl,fun _=>fin (Mem.sub.refl _),fun hb=>?_⟩
 have hF:fu<=4000∨1048576<fu:=(hfu ((Bool.not_eq_true _).mp hb)).imp (fun h=>by omega) id
 refine Tri.mono c18 ?_
 rintro _ _ ⟨rfl,b,rfl⟩
 refine⟨_,rfl,fun _=>fin (Mem.sub.refl _),fun _=>?_⟩
 refine Tri.mono (c14 hd hm (k:=k) (size:=size)) ?_
 rintro _ V4 ⟨q,rfl,s4,hno,hyes⟩
 haveI:Tab V4:=Tab.sub inferInstance s4
 refine⟨_,_,rfl,fun h0=>?_,fun h0=>?_⟩
 rotate_left
 ·rw[hno h0];exact fin s4
 obtain⟨pl,o,P⟩:=hyes h0
 have hsz:1<=size/\size<=64:=by
  have h0:plF d m k size=0:=h0
  unfold plF at h0
  by_cases c:qAs d m=true
  ·rw[if_pos c]at h0
   by_cases c2:1<=k/\k<=4/\1<=size/\size<=64
   ·exact c2.2.2
   ·rw[if_neg c2]at h0;cases h0
  ·rw[if_neg c]at h0;cases h0
 obtain⟨z,rfl⟩:∃z:Nat,size=(z:Int):=⟨size.toNat,by omega⟩
 rw[Int.toNat_natCast]at P
 have hq:=o.rows (row:=qAe) (fun _=>rfl) (by decide)
 refine Tri.mono (c19 (nm:=nm) (size:=(z:Int)) (most:=most) (hd.sub s4) (hm.sub s4) (ha.sub s4) hF hq) ?_
 rintro e V5 hrun
 have s5:V4.sub V5:=by
  rcases hrun with⟨-,h,-⟩|⟨-,_,_,_,_,_,_,_,L,-⟩
  ·exact h
  ·exact L.sub
 have s45:=s4.trans s5
 haveI:Tab V5:=Tab.sub inferInstance s45
 have plain:=runAny (nm:=nm) (hd.sub s45) (hm.sub s45) (ha.sub s45) hF
 rcases hrun with⟨hx,-,rfl⟩|⟨hx,r,gs,ns,ls,nd,p,hr,L,hpl,rfl⟩
 ·refine⟨_,_,_,_,_,_,_,_,_,rfl,Tri.mono plain ?_⟩
  rintro e V6 (⟨hst,s6,rfl⟩|⟨hst,r2,gs2,ns2,ls2,nd2,hr2,L2,rfl⟩)
  ·exact⟨_,_,_,_,_,_,_,_,rfl,fun h=>absurd h hx,fun _=>⟨fun h=>absurd h hst,fun _=>fin (s45.trans s6)⟩⟩
  ·have s6:=L2.sub
   have hfu0:=qET (F:=fu) (d:=d) (m:=m) (Classical.byContradiction fun hg=>by
    unfold qAJ at hst
    rw[if_neg hg]at hst
    exact hg hst)
   have hst':qAJ d m nm args (fu.toNat:Int)=0:=by rw[Int.toNat_of_nonneg (by omega)];exact hst
   obtain⟨b1,b2,-⟩:=blk_right hst' hr2 P (by omega)
   obtain⟨c1,c2⟩:=exr_why hx hst hsz b2 b1
   refine⟨_,_,_,_,_,_,_,_,rfl,fun h=>absurd h hx,fun _=>⟨fun _=>⟨fun _=>⟨fun _=>fin (s45.trans s6),fun h=>?_⟩,fun h=>absurd c1 h⟩,fun h=>absurd rfl h⟩⟩
   rw[decide_eq_true (show (1000:Int)<most by omega)];exact fin (s45.trans s6)
 ·have hst':=exr_start hx
  have hf0:0<=fu:=(qGU (size:=(z:Int)) (most:=most) (F:=fu) (d:=d) (m:=m) (Classical.byContradiction fun h0=>by
   unfold qFJ at hx
   rw[if_neg h0]at hx
   exact h0 hx)).2.2.2.2.2.1
  have hmost:=qGU (size:=(z:Int)) (most:=most) (F:=fu) (d:=d) (m:=m) (Classical.byContradiction fun h0=>by
   unfold qFJ at hx
   rw[if_neg h0]at hx
   exact h0 hx)
  have hst:qAJ d m nm args fu=0:=by rw[<- Int.toNat_of_nonneg hf0];exact hst'
  refine⟨_,_,_,_,_,_,_,_,_,rfl,Tri.mono plain ?_⟩
  rintro e V6 (⟨h1,-⟩|⟨-,r2,gs2,ns2,ls2,nd2,hr2,L2,rfl⟩)
  ·exact absurd hst h1
  obtain rfl:r2=r:=by rw[hr2,hr]
  have s6:=L2.sub
  have s46:=s45.trans s6
  obtain⟨b1,b2,b3,b4,b5,b6,b7⟩:=blk_right hst' hr P (by omega)
  have hgd:=qIn (F:=fu.toNat) (qDw hst').1 (qDw hst').2
  have hns:r2.st.ns.length<=4096:=by rw[hr];exact qDz hst'
  rw[<- hr]at hgd
  obtain⟨hmm,hpn⟩:=qGc (hd.sub s4) L hgd
  obtain⟨hmm2,hpn2⟩:=qGc (hd.sub s45) L2 hgd
  have G:qAx d ⟨gs,r2.st.g,ns,nd⟩:=hgd.plain (mm_len' L.eq).symm
  have e1:nd.length=r2.st.ns.length:=by rw[<- L.eq,List.length_map]
  have e2:nd2.length=r2.st.ns.length:=by rw[<- L2.eq,List.length_map]
  have n1:=hmm.nodes.n_eq
  have n2:=hmm2.nodes.n_eq
  have n3:=hpl.n_eq
  have n4:=hq.n_eq
  have n1:ns.n=nd.length:=n1
  have n2:ns2.n=nd2.length:=n2
  have hcap:=(hpl.cap)
  have hle:=b5.length_le
  have hp6:=hpl.sub s6
  refine⟨_,_,_,_,_,_,_,_,rfl,fun _=>⟨fun _=>⟨fun h=>absurd h (by show ¬(4096:Int)<(ns.n:Int);omega),fun _=>⟨fun h=>absurd h (by show ¬(4096:Int)<(ns2.n:Int);omega),fun _=>⟨fun _=>?_,fun h=>absurd (by show (p.n:Int)=(ns.n:Int);omega) h⟩⟩⟩,fun h=>absurd rfl h⟩,fun h=>absurd rfl h⟩
  refine(c25 (size:=(z:Int)) hp6).call ⟨_,rfl,fun _=>⟨fun h=>absurd h (by show ¬(p.n:Int)<(q.n:Int);omega),fun _=>⟨⟨by omega,by omega,by omega⟩,?_⟩⟩,fun h=>absurd b3 h⟩
  have hpre:qAc V6 ⟨p.p,pl.length,p.c⟩ 1 (pl.map qAe):=by
   have:=qAc.pre hp6 (i:=pl.length) hle
   rwa [<- List.prefix_iff_eq_take.1 b5]at this
  have epre:Value.slice (if (p.c:Int)=(0:Int) then p.p else qAa p.p ((0:Int).toNat*1)) ((q.n:Int)-0).toNat ((p.c:Int)-0).toNat=(⟨p.p,pl.length,p.c⟩:Sl).v:=by
   rw[qFX,sub0,sub0,n4];rfl
  rw[epre]
  refine(c13 hpre (hq.sub (s5.trans s6))).call ⟨_,rfl,fun _=>⟨fun _=>?_,fun h=>absurd ⟨rfl,rfl,rfl,rfl,rfl⟩ h⟩,fun h=>absurd (decide_eq_true rfl) h⟩
  refine(c23 (x:=⟨gs,r2.st.g,ns,nd⟩) (y:=⟨gs2,r2.st.g,ns2,nd2⟩) (hd.sub s46) G (hmm.sub s6) hmm2 (hpn.trans hpn2.symm)).call ⟨_,rfl,fun _=>?_,fun h=>absurd rfl h⟩
  haveI:Tab V6:=Tab.sub inferInstance s46
  refine Tri.mono (c20 (size:=(z:Int)) (nm:=nm) (hd.sub s46) (hm.sub s46) (ha.sub s46) hF (hq.sub (s5.trans s6))) ?_
  rintro _ V7 ⟨s7,⟨h0,-⟩|⟨-,-,rfl⟩|⟨-,hlt,t,rfl,ht⟩⟩
  ·exact absurd (exr_one hx) h0
  ·exact⟨_,_,rfl,fun h=>absurd h (by decide),fun _=>by
    rw[decide_eq_true rfl]
    exact fin (s46.trans s7)⟩
  ·rw[<- hr]at ht hlt
   have n7:=ht.n_eq
   obtain⟨-,-,-,m1,m2,-⟩:=hmost
   refine⟨_,_,rfl,fun _=>Tri.mono (c26 (m:=most) ht b7 ⟨m1,m2⟩ (by omega)) ?_,fun h=>absurd rfl h⟩
   rintro _ V8 ⟨rfl,s8⟩
   refine⟨_,_,rfl,fun _=>⟨fun _=>?_,fun h=>absurd (by show ((misN _ _ _:Nat):Int)=((qHK _ _ _:Nat):Int);rw[misL_nil (by omega)]) h⟩,fun h=>absurd rfl h⟩
   rw[decide_eq_true (show (t.n:Int)=(qBa r2.st.lg:Int) by omega)]
   exact fin (s46.trans (s7.trans s8))
end
end Go.Proofs
