/- Part 21 of a proof of a law of this seat: no statement of the seat is proved here. -/
import Derived.Test.YtmeagdecjpknkaaGreatDoorPp20
import Derived.Test.YtmeagdecjpknkaaGreatDoorPp17
import Derived.Test.YtmeagdecjpknkaaGreatDoorPp18
set_option linter.unusedVariables false
set_option linter.unusedSimpArgs false
namespace Go.Proofs
open Go Go.Sx
section
variable{d d':Ds}{m m':Mm}(hn:∀n,qAM d' m' n=qAM d m n)
include hn
theorem ent_same:∀(n:Nat) (s:Sr) (x:Int),qCR d' m' n s x=qCR d m n s x:=by
 intro n
 induction n with
 | zero=>intro s x;rfl
 | succ n ih =>
  intro s x
  have e:qCR d' m' n=qCR d m n:=funext fun s=>funext fun x=>ih s x
  unfold qCR
  rw[hn,e]
theorem bfs_same(most:Nat)(but:List Int):∀(f:Nat) (l:List Int) (i:Nat),bfsP d' m' most but f l i=bfsP d m most but f l i:=by
 intro f
 induction f with
 | zero=>intro l i;rfl
 | succ f ih =>
  intro l i
  unfold bfsP
  simp only[ih,hn]
variable(hl:m'.nodes.length=m.nodes.length)
include hl
theorem wide_same(l:List Int)(most:Nat)(but:List Int):qDV d' m' l most but=qDV d m l most but:=by
 unfold qDV
 rw[hl]
 exact bfs_same hn _ _ _ _ _
theorem qKc(ht:tgt d'.globals m'.globals=tgt d.globals m.globals){k:Int}{size:Nat}{zs:List Int}(h:qAL d' m' k size zs):qAL d m k size zs:=by
 have e1:qBt d' m'=qBt d m:=by unfold qBt lookP;rw[ht,hl,show qCR d' m' (m.nodes.length+1)=qCR d m (m.nodes.length+1) from funext fun s=>funext fun x=>ent_same hn _ s x]
 have e2:qDa d' m'=qDa d m:=by unfold qDa;rw[e1,hl]
 have e3:qJs d' m'=qJs d m:=by
  unfold qJs firstP
  rw[wide_same hn hl,ht,hl]
 have e4:cluS d' m' size=cluS d m size:=by
  funext s n
  unfold cluS
  rw[wide_same hn hl]
 unfold qAL qDH cluP at h ⊢
 rw[e2,e3,e4,hl]at h
 exact h
end
theorem place_same{d d':Ds}{m:Mm}(hf:∀t,qAq d' t=qAq d t)(hg:d'.globals=d.globals){k:Int}{size:Nat}{zs:List Int}(h:qAL d' m k size zs):qAL d m k size zs :=
 qKc (fun n=>by unfold qAM;simp only[hf]) rfl (by rw[hg]) h
theorem place_plain{d:Ds}{m m':Mm}(h:m'.plain=m.plain){k:Int}{size:Nat}{zs:List Int}(hp:qAL d m' k size zs):qAL d m k size zs:=by
 exact qKc (qGn h) (qCV h) (by rw[show m'.globals=m.globals from (Prod.mk.inj h).1]) hp
end Go.Proofs
namespace Go.Proofs
open Go Go.Sx
def chM(a b s0 s1 s2 s3:Sl):Mm:=⟨a,[4],b,[⟨0,s0,[0]⟩,⟨0,s1,[1]⟩,⟨0,s2,[2]⟩,⟨0,s3,[3]⟩]⟩
section
variable{a b s0 s1 s2 s3:Sl}
theorem ch_valid:qAB qCn=true:=by kernel_rfl
theorem ch_chk:qHD qCn=none:=by kernel_rfl
theorem ch_mem:qAu qCn (chM a b s0 s1 s2 s3)=true:=by kernel_rfl
theorem ch_good:qAv qCn (chM a b s0 s1 s2 s3):=⟨ch_valid,ch_chk,ch_mem⟩
theorem ch_start:qCH qCn (chM a b s0 s1 s2 s3) qHE []=0:=by kernel_rfl
theorem ch_idx:qDr qCn qHE=0:=by kernel_rfl
theorem ch_run:(fun r:Rx Int=>(outC r,outV r,r.st.cm,qBa r.st.lg,(qCD 2 r.st.lg [1,1,0,0]).1,qKf 1 [] (qCD 2 r.st.lg [1,1,0,0]).2)) (qCo qCn 100 0 [] (qCd (chM a b s0 s1 s2 s3)))=(0,0,0,4,[1,1,0,0],2):=by kernel_rfl
theorem ch_ord:qDH qCn (chM a b s0 s1 s2 s3) 1=[1,2,3,4]:=by kernel_rfl
theorem ch_deep:qDa qCn (chM a b s0 s1 s2 s3)=[4,3,2,1]:=by kernel_rfl
theorem ch_clu:cluP qCn (chM a b s0 s1 s2 s3) 2 [4,3,2,1]=[[4,3],[2,1]]:=by kernel_rfl
end
end Go.Proofs
namespace Go.Proofs
open Go Go.Sx
section
variable{a b s0 s1 s2 s3:Sl}
theorem ch_pl1:qAL qCn (chM a b s0 s1 s2 s3) 1 2 [0,0,1,1]:=by
 unfold qAL
 rw[if_pos (by decide),ch_ord]
 refine⟨rfl,fun j n hj=>?_⟩
 match j,hj with
 | 0,hj=>cases hj;rfl
 | 1,hj=>cases hj;rfl
 | 2,hj=>cases hj;rfl
 | 3,hj=>cases hj;rfl
 | j+4,hj=>cases hj
theorem ch_pl4:qAL qCn (chM a b s0 s1 s2 s3) 4 2 [1,1,0,0]:=by
 unfold qAL
 rw[if_neg (by decide),ch_deep,ch_clu]
 refine⟨rfl,fun j c hj n hn=>?_⟩
 match j,hj with
 | 0,hj =>
  cases hj
  simp only[List.mem_cons,List.not_mem_nil,or_false]at hn
  rcases hn with rfl|rfl <;> rfl
 | 1,hj =>
  cases hj
  simp only[List.mem_cons,List.not_mem_nil,or_false]at hn
  rcases hn with rfl|rfl <;> rfl
 | j+2,hj=>cases hj
theorem ch_place{d:Ds}(SD:qJw qCn d){k:Int}{zs ys:List Int}(h:qAL d (chM a b s0 s1 s2 s3) k 2 zs)(h2:qAL qCn (chM a b s0 s1 s2 s3) k 2 ys):zs=ys :=
 place_eq ch_mem (by decide) (place_same SD.fields (congrArg Ds.globals SD.er).symm h) h2
end
end Go.Proofs
namespace Go.Proofs
open Go Go.Sx
attribute [local irreducible] Go.Sx.Tri
theorem plF_zero{d:Ds}{m:Mm}{k size:Int}(h:qAu d m=true)(h1:1<=k/\k<=4/\1<=size/\size<=64):plF d m k size=0:=by grind [plF]
section
variable{a b s0 s1 s2 s3:Sl}{d:Ds}(SD:qJw qCn d)
include SD
theorem ch_gd:qAv d (chM a b s0 s1 s2 s3):=qAv.same ch_good SD
theorem ch_exr:exrE d (chM a b s0 s1 s2 s3) [1,1,0,0] 2 1 qHE [] 100=0:=by
 have G:=ch_gd (a:=a) (b:=b) (s0:=s0) (s1:=s1) (s2:=s2) (s3:=s3) SD
 have h0:qAN d (chM a b s0 s1 s2 s3) 0=0:=by grind [qAN]
 have P:=(qGj (a:=[1,1,0,0]) (ch_mem (a:=a) (b:=b) (s0:=s0) (s1:=s1) (s2:=s2) (s3:=s3)) (by decide) ch_pl4).1
 unfold exrE exE
 rw[if_pos h0,if_pos (by decide),if_pos ⟨by rfl,qKT.2 ⟨by decide,P⟩⟩,start_ok G (by decide),SD.cll,ch_start]
theorem ch_play{r:Rx Int}(hr:r=qCo d (100:Int).toNat (qDr d qHE) [] (qCd (chM a b s0 s1 s2 s3))):outC r=0/\outV r=0/\r.st.cm=0/\qBa r.st.lg=4/\(qCD 2 r.st.lg [1,1,0,0]).1=[1,1,0,0]/\qKf (1:Int).toNat [] (qCD 2 r.st.lg [1,1,0,0]).2=2:=by
 rw[SD.idx,ch_idx,SD.play]at hr
 grind [ch_run,qCo,qCn,qCd,chM,Prod.mk.injEq]
end
section
variable{V:Mem}
theorem qEe{V:Mem}{b n:Nat}{xs:List Int}(h:V b=some (.cells (xs.map (Value.int .i64)).toArray 3 (0,0)))(hn:n=xs.length)(hx:xs.length<=100):qAc V (qDU b n) 1 (xs.map qAf) :=
 qAc.cells (row:=qAf) (xs:=xs) h (by rw[qBj]) (fun _=>rfl) hn (Nat.le_trans hx (by decide))
theorem c9[Tab V]:PP 9 [] V (.bool true):=by
 refine Pur.mk (x9 ?_)
 unfold w9
 refine Tri.mono c37 ?_
 rintro _ V1 ⟨s1,d,rfl,SD,hd⟩
 refine⟨_,_,_,_,_,_,_,_,rfl,fun b8 h8 b9 h9 b10 h10 b11 h11 b12 h12 b13 h13=>?_⟩
 have t8:=Mem.sub_new h8 (.cells ([4].map (Value.int .i64)).toArray 3 (0,0))
 have t9:=Mem.sub_new h9 (.cells ([0].map (Value.int .i64)).toArray 3 (0,0))
 have t10:=Mem.sub_new h10 (.cells ([1].map (Value.int .i64)).toArray 3 (0,0))
 have t11:=Mem.sub_new h11 (.cells ([2].map (Value.int .i64)).toArray 3 (0,0))
 have t12:=Mem.sub_new h12 (.cells ([3].map (Value.int .i64)).toArray 3 (0,0))
 have t13:=Mem.sub_new h13 (.cells #[.int .i64 0,(qDU b9 1).v,.int .i64 0,(qDU b10 1).v,.int .i64 0,(qDU b11 1).v,.int .i64 0,(qDU b12 1).v] 92 (0,0))
 obtain⟨U,hU⟩:∃U,U=((((((V1.set b8 (.cells ([4].map (Value.int .i64)).toArray 3 (0,0))).set b9 (.cells ([0].map (Value.int .i64)).toArray 3 (0,0))).set b10 (.cells ([1].map (Value.int .i64)).toArray 3 (0,0))).set b11 (.cells ([2].map (Value.int .i64)).toArray 3 (0,0))).set b12 (.cells ([3].map (Value.int .i64)).toArray 3 (0,0))).set b13 (.cells #[.int .i64 0,(qDU b9 1).v,.int .i64 0,(qDU b10 1).v,.int .i64 0,(qDU b11 1).v,.int .i64 0,(qDU b12 1).v] 92 (0,0))):=⟨_,rfl⟩
 have sU:V1.sub U:=by rw[hU];exact t8.trans (t9.trans (t10.trans (t11.trans (t12.trans t13))))
 have ca8:qAc U (qDU b8 1) 1 (([4]:List Int).map qAf):=qEe (xs:=[4]) (by rw[hU];exact(t9.trans (t10.trans (t11.trans (t12.trans t13)))) _ _ mss) rfl (by decide)
 have ca9:qAc U (qDU b9 1) 1 (([0]:List Int).map qAf):=qEe (xs:=[0]) (by rw[hU];exact(t10.trans (t11.trans (t12.trans t13))) _ _ mss) rfl (by decide)
 have ca10:qAc U (qDU b10 1) 1 (([1]:List Int).map qAf):=qEe (xs:=[1]) (by rw[hU];exact(t11.trans (t12.trans t13)) _ _ mss) rfl (by decide)
 have ca11:qAc U (qDU b11 1) 1 (([2]:List Int).map qAf):=qEe (xs:=[2]) (by rw[hU];exact(t12.trans t13) _ _ mss) rfl (by decide)
 have ca12:qAc U (qDU b12 1) 1 (([3]:List Int).map qAf):=qEe (xs:=[3]) (by rw[hU];exact t13 _ _ mss) rfl (by decide)
 have ca13:U b13=some (.cells #[.int .i64 0,(qDU b9 1).v,.int .i64 0,(qDU b10 1).v,.int .i64 0,(qDU b11 1).v,.int .i64 0,(qDU b12 1).v] 92 (0,0)):=by rw[hU];exact Mem.set_same _ _ _
 obtain⟨m,hm⟩:∃m,m=chM (qDU b8 1) (qDU b13 4) (qDU b9 1) (qDU b10 1) (qDU b11 1) (qDU b12 1):=⟨_,rfl⟩
 have M:Mm.Ok U m:=by
  rw[hm]
  refine⟨ca8,fun x hx=>by grind [chM,inI],qAc.cells (row:=Nd.row) ca13 rfl (fun _=>rfl) rfl (by simp[chM]),fun n hn=>?_⟩
  have one:∀{s:Sl} {x:Int},qAc U s 1 (([x]:List Int).map qAf)->inI x->Nd.Ok U ⟨0,s,[x]⟩:=fun h hx=>⟨h,(show inI 0 by unfold inI;decide),fun y hy=>by simp_all⟩
  simp only[chM,List.mem_cons,List.not_mem_nil,or_false]at hn
  rcases hn with rfl|rfl|rfl|rfl
  ·grind [inI]
  ·grind [inI]
  ·grind [inI]
  grind [inI]
 have z:V.sub U:=s1.trans sU
 haveI:Tab U:=Tab.sub (V:=V) inferInstance z
 have mv:m.v=.agg #[(qDU b8 1).v,(qDU b13 4).v]:=by rw[hm];rfl
 show Tri _ _ #[d.v,.agg #[(qDU b8 1).v,(qDU b13 4).v],.int .i64 1,.int .i64 2] ((((((V1.set b8 (.cells ([4].map (Value.int .i64)).toArray 3 (0,0))).set b9 (.cells ([0].map (Value.int .i64)).toArray 3 (0,0))).set b10 (.cells ([1].map (Value.int .i64)).toArray 3 (0,0))).set b11 (.cells ([2].map (Value.int .i64)).toArray 3 (0,0))).set b12 (.cells ([3].map (Value.int .i64)).toArray 3 (0,0))).set b13 (.cells #[.int .i64 0,(qDU b9 1).v,.int .i64 0,(qDU b10 1).v,.int .i64 0,(qDU b11 1).v,.int .i64 0,(qDU b12 1).v] 92 (0,0))) _
 rw[<- hU,<- mv]
 clear hU t8 t9 t10 t11 t12 t13 h8 h9 h10 h11 h12 h13
 refine Tri.mono (c14 (hd.sub sU) M (k:=1) (size:=2)) ?_
 rintro _ V8 ⟨p,rfl,s8,-,hp⟩
 have G1:qAu d m=true:=by rw[hm];exact(ch_gd SD).mem
 have e8:=plF_zero (k:=1) (size:=2) G1 (by decide)
 obtain⟨zs,o8,P8⟩:=hp e8
 obtain rfl:zs=[0,0,1,1]:=by grind [ch_place,ch_pl1]
 refine⟨_,_,rfl,Tri.mono c37 ?_⟩
 rintro _ V9 ⟨s9,d2,rfl,SD2,hd2⟩
 haveI:Tab V9:=Tab.sub (V:=U) inferInstance (s8.trans s9)
 refine⟨_,_,_,_,_,_,_,_,rfl,?_⟩
 show Tri _ _ #[d2.v,.agg #[(qDU b8 1).v,(qDU b13 4).v],.int .i64 4,.int .i64 2] V9 _
 rw[<- mv]
 refine Tri.mono (c14 hd2 (M.sub (s8.trans s9)) (k:=4) (size:=2)) ?_
 rintro _ V10 ⟨p2,rfl,s10,-,hp2⟩
 have G2:qAu d2 m=true:=by rw[hm];exact(ch_gd SD2).mem
 have e10:=plF_zero (k:=4) (size:=2) G2 (by decide)
 obtain⟨zs2,o10,P10⟩:=hp2 e10
 obtain rfl:zs2=[1,1,0,0]:=by grind [ch_place,ch_pl4]
 have r8:=(o8.rows (row:=qAf) (xs:=[0,0,1,1]) (fun _=>rfl) (by decide)).sub (s9.trans s10)
 have r10:=o10.rows (row:=qAf) (xs:=[1,1,0,0]) (fun _=>rfl) (by decide)
 refine⟨_,_,rfl,and_self_iff.2 (Tri.mono c37 ?_)⟩
 rintro _ V11 ⟨s11,d3,rfl,SD3,hd3⟩
 refine⟨_,_,_,_,_,_,_,_,rfl,fun b34 h34=>?_⟩
 have t34:=Mem.sub_new h34 (.cells (([1,1,0,0]:List Int).map (Value.int .i64)).toArray 3 (0,0))
 have z12:U.sub (V11.set b34 (.cells (([1,1,0,0]:List Int).map (Value.int .i64)).toArray 3 (0,0))):=s8.trans (s9.trans (s10.trans (s11.trans t34)))
 haveI:Tab (V11.set b34 (.cells (([1,1,0,0]:List Int).map (Value.int .i64)).toArray 3 (0,0))):=Tab.sub (V:=U) inferInstance z12
 show Tri _ _ #[d3.v,.agg #[(qDU b8 1).v,(qDU b13 4).v],(qDU b34 4).v,.int .i64 2,.int .i64 1,.agg #[.string qHE,qAC.v],.int .i64 100] (V11.set b34 (.cells (([1,1,0,0]:List Int).map (Value.int .i64)).toArray 3 (0,0))) _
 rw[<- mv]
 refine Tri.mono (c19 (nm:=qHE) (args:=[]) (pl:=[1,1,0,0]) (size:=2) (most:=1) (hd3.sub t34) (M.sub z12) qAc.nil (.inl (by decide)) (qEe (xs:=[1,1,0,0]) mss rfl (by decide))) ?_
 rintro _ V13 (⟨h,-⟩|⟨-,r,gs,ns,ls,nd,q,hr,L,hq,rfl⟩)
 ·exact absurd (by rw[hm];exact ch_exr SD3) h
 rw[hm]at hr
 obtain⟨k1,k2,k3,k4,k5,k6⟩:=ch_play SD3 hr
 rw[k1,k2,k3,k4,k6]
 rw[k5]at hq
 have s13:=t34.trans L.sub
 have eq:∀{V':Mem} {s t:Sl} {xs:List Int},V.sub V'->qAc V' s 1 (xs.map qAf)->qAc V' t 1 (xs.map qAf)->∀{q:Ending->Mem->Prop},(V.sub V'->q (.returned (.bool true)) V')->Tri Tryz.prog 13 #[s.v,t.v] V' q:=fun h h1 h2 _ hq=>(c13 h1 h2).call (by simp_all)
 have z13:V.sub V13:=z.trans (z12.trans L.sub)
 refine⟨_,_,_,_,_,_,_,_,_,rfl,fun _ b14 h14=>?_,fun h=>absurd e8 h⟩
 have t14:=Mem.sub_new h14 (.cells (([0,0,1,1]:List Int).map (Value.int .i64)).toArray 3 (0,0))
 refine eq (xs:=[0,0,1,1]) (t:=qDU b14 4) (z13.trans t14) (r8.sub (s11.trans (s13.trans t14))) (qEe (xs:=[0,0,1,1]) mss rfl (by decide)) fun z14=>⟨_,rfl,fun _=>⟨fun _ b16 h16=>?_,fun h=>absurd e10 h⟩,fun h=>absurd rfl h⟩
 have t16:=Mem.sub_new h16 (.cells (([1,1,0,0]:List Int).map (Value.int .i64)).toArray 3 (0,0))
 refine eq (xs:=[1,1,0,0]) (t:=qDU b16 4) (z14.trans t16) (r10.sub (s11.trans (s13.trans (t14.trans t16)))) (qEe (xs:=[1,1,0,0]) mss rfl (by decide)) fun z16=>⟨_,rfl,fun _=>⟨fun _=>⟨fun _ b18 h18=>?_,fun h=>absurd ⟨rfl,rfl,rfl,rfl,rfl⟩ h⟩,fun h=>absurd rfl h⟩,fun h=>absurd rfl h⟩
 have t18:=Mem.sub_new h18 (.cells (([1,1,0,0]:List Int).map (Value.int .i64)).toArray 3 (0,0))
 exact eq (xs:=[1,1,0,0]) (t:=qDU b18 4) (z16.trans t18) (hq.sub (t14.trans (t16.trans t18))) (qEe (xs:=[1,1,0,0]) mss rfl (by decide)) fun z18=>⟨_,rfl,rfl,z18⟩
end
theorem qAv.plain{d:Ds}{x y:Mm}(G:qAv d x)(h:x.plain=y.plain):qAv d y:=⟨G.valid,G.chk,qDW h G.mem⟩
section
variable{V:Mem}{d:Ds}{m:Mm}{nm:ByteArray}{args pl:List Int}{l ps:Sl}{size most:Int}
theorem c60{x y:Mm}(hd:Ds.Ok V d)(G:qAv d x)(hx:Mm.Ok V x)(hy:Mm.Ok V y)(h:x.plain=y.plain):PP 60 [d.v,x.v,y.v] V (.bool true):=by
 refine Pur.mk (x60 ?_)
 unfold w60
 have Gy:=G.plain h
 refine Tri.mono (c96 G hd hx) ?_
 rintro _ V1 ⟨s1,a,rfl,ha,Ia⟩
 refine⟨_,_,rfl,Tri.mono (c96 Gy (hd.sub s1) (hy.sub s1)) ?_⟩
 rintro _ V2 ⟨s2,b,rfl,hb,Ib⟩
 have e:a.plain=b.plain:=by rw[canP_of G.mem Ia,canP_of Gy.mem Ib,canP_plain h]
 refine⟨_,_,rfl,(c95 (ha.sub s2) hb).call ⟨_,rfl,?_⟩⟩
 rw[decide_eq_true e]
 exact⟨rfl,s1.trans s2⟩
theorem c23{x y:Mm}(hd:Ds.Ok V d)(G:qAv d x)(hx:Mm.Ok V x)(hy:Mm.Ok V y)(h:x.plain=y.plain):PP 23 [d.v,x.v,y.v] V (.bool true):=by
 refine Pur.mk (x23 ?_)
 unfold w23
 have hn:=(qAj G.mem).2.1
 have hl:=hx.nodes.n_eq
 refine⟨fun _=>(c15 hd hx).call ⟨_,rfl,fun _=>(c60 hd G hx hy h).call ⟨_,rfl,rfl,Mem.sub.refl _⟩,fun hv=>absurd G.mem hv⟩,fun hc=>absurd (by omega) hc⟩
end
def qIN(d:Ds)(s:Sl):Mm:=⟨s,List.replicate d.globals.length 0,qAC,[]⟩
def st0(d:Ds):St:=⟨List.replicate d.globals.length 0,[],0,0,[]⟩
section
variable{V:Mem}{d:Ds}
theorem c65[Tab V](hd:Ds.Ok V d):Tri Tryz.prog 65 #[d.v] V fun e V'=>V.sub V'/\((qJz d=false/\e=.returned (.tuple #[.agg #[qAC.v,qAC.v],.int .i64 1]))∨(qJz d=true/\∃s:Sl,e=.returned (.tuple #[.agg #[s.v,qAC.v],.int .i64 0])/\Mm.Ok V' (qIN d s))):=by
 refine x65 ?_
 unfold w65
 have hn:=hd.globals.n_eq
 have hc:=hd.globals.cap
 have hf:=hd.globals.fit
 refine Tri.mono (c78 hd) ?_
 rintro _ V1 ⟨mo,rfl,s1,⟨ht,b,rfl,-⟩|⟨ht,rfl⟩⟩
 ·have hg:=(qIX (valid_hasT ht)).1
  refine⟨_,rfl,fun h=>absurd h (by intro h;cases h),fun _=>mk31 (n:=d.gs.n) rfl rfl (by omega) fun g hg=>⟨⟨some ⟨g,0,none⟩,d.gs.n,d.gs.n⟩,rfl,s1.trans (Mem.sub_new hg _),.inr ⟨ht,_,rfl,?_⟩⟩⟩
  have o:=qHW hg (n:=d.gs.n) (by omega)
  rw[hn]at o ⊢
  exact⟨o.rows (fun _=>rfl) (by decide),fun x hx=>by rw[(List.mem_replicate.1 hx).2];unfold inI;decide,qAc.nil,fun n hn=>by cases hn⟩
 ·exact⟨_,rfl,fun _=>⟨s1,.inl ⟨by simpa using ht,rfl⟩⟩,fun h=>absurd rfl h⟩
theorem c34(hd:Ds.Ok V d)(hg8:d.globals.length<=8):Tri Tryz.prog 34 #[d.v] V fun e V'=>V.sub V'/\∃s:Sl,e=.returned (.agg #[s.v,qAC.v])/\Mm.Ok V' (qIN d s):=by
 refine x34 ?_
 unfold w34
 have hn:=hd.globals.n_eq
 refine mk31 (n:=d.gs.n) rfl rfl (by omega) fun g hg=>⟨⟨some ⟨g,0,none⟩,d.gs.n,d.gs.n⟩,rfl,Mem.sub_new hg _,_,rfl,?_⟩
 have o:=qHW hg (n:=d.gs.n) (by omega)
 rw[hn]at o ⊢
 exact⟨o.rows (fun _=>rfl) (by decide),fun x hx=>by rw[(List.mem_replicate.1 hx).2];unfold inI;decide,qAc.nil,fun n hn=>by cases hn⟩
end
def o5Row(x:O4×Nat):List Value:=[.int .i64 x.1.1,.int .i64 x.1.2.1,.int .i64 x.1.2.2.1,.int .i64 x.1.2.2.2,.int .i64 x.2]
theorem app5:AppP 73 54 5 o5Row:=appG Tryz.underlying73 (by kernel_rfl) (by kernel_rfl) (by kernel_rfl) (by kernel_rfl) (by kernel_rfl) (by decide) (by intro _;rfl) fun x u hu=>by simp only[o5Row,List.mem_cons,List.not_mem_nil,or_false]at hu;rcases hu with rfl|rfl|rfl|rfl|rfl <;> rfl
noncomputable def plcF(d:Ds)(s:St)(k:Int)(z:Nat):List Int:=by
 classical
 exact if h:∃zs,qAL d s.mm k z zs then h.choose else []
theorem plcF_eq{d:Ds}{s:St}{k:Int}{z:Nat}{zs:List Int}(hv:qAu d s.mm=true)(hz:1<=z)(h:qAL d s.mm k z zs):zs=plcF d s k z:=by
 have hh:∃zs,qAL d s.mm k z zs:=⟨zs,h⟩
 unfold plcF
 rw[dif_pos hh]
 grind [place_eq]
noncomputable def xN(d:Ds)(k:Int)(z most:Nat)(r:Rx Int)(p:List Int×List Int):List Int×List Int :=
 if 0<k then (plcF d (rsS r.st) k z,[]) else ((qCD z r.st.lg p.1).1,tchL most p.2 (qCD z r.st.lg p.1).2)
def xM(z most:Nat)(r:Rx Int)(p:List Int×List Int):Nat:=qKf most p.2 (qCD z r.st.lg p.1).2
section
variable(d:Ds)(F:Nat)(k:Int)(z most:Nat)
noncomputable def xB:List Int×List Int->St->List Cl2->List Nat
 | _,_,[]=>[]
 | p,s,c::cs=>xM z most (qBA d F c s) p::xB (xN d k z most (qBA d F c s) p) (rsS (qBA d F c s).st) cs
end
structure XAt (d:Ds) (F:Nat) (k:Int) (z most:Nat) (cs:List Cl2) (j:Nat) (outs:List (O4×Nat)) (s:St) (p:List Int×List Int):Prop where
 at_:At d F (st0 d) cs j (outs.map Prod.fst) s
 bs:xB d F k z most ([],[]) (st0 d) cs=outs.map Prod.snd++xB d F k z most p s (cs.drop j)
 plc:Plc p.1 z
 low:Low p.1
 pl:p.1.length=s.ns.length
 cl:p.2.length<=most
 cs0:0<k->p.2=[]
section
variable{d:Ds}{F:Nat}{k:Int}{z most:Nat}{cs:List Cl2}{j:Nat}{outs:List (O4×Nat)}{s:St}{p:List Int×List Int}{c:Cl2}
theorem XAt.start(G:qAv d (qIN d qAC)):XAt d F k z most cs 0 [] (st0 d) ([],[]) :=
 ⟨.start rfl (by exact G.plain rfl),rfl,⟨by simp,by simp⟩,fun b hb=>(by cases hb),rfl,Nat.zero_le _,fun _=>rfl⟩
theorem tchL_len(hm:1<=most):∀(l c:List Int),c.length<=most->(tchL most c l).length<=most
 | [],_,h=>h
 | b::l,c,h=>tchL_len hm l (tch most c b) (tch_len hm h b)
theorem XAt.next(h:XAt d F k z most cs j outs s p)(hc:cs.drop j=c::cs.drop (j+1))(h0:qCH d s.mm c.name c.args=0)(hz:1<=z)(hm:1<=most)(hk:0<k->qAL d (rsS (qBA d F c s).st).mm k z (plcF d (rsS (qBA d F c s).st) k z))(hg:qAv d (qBA d F c s).st.mm)
  (hl:qKu s.ns.length (qBA d F c s).st.lg (qBA d F c s).st.ns.length) (hn:(qBA d F c s).st.ns.length<=4096) :
  XAt d F k z most cs (j+1) (outs++[(outO (qBA d F c s),xM z most (qBA d F c s) p)]) (rsS (qBA d F c s).st) (xN d k z most (qBA d F c s) p):=by
 have hln:=hl.len
 have a1:=blk_plc (lg:=(qBA d F c s).st.lg) h.plc h.low (by omega) (by rw[h.pl];omega) (qBA d F c s).st.lg.length (Nat.le_refl _)
 have a2:=blk_len (size:=(z:Int)) (lg:=(qBA d F c s).st.lg) (pl:=p.1) (qBA d F c s).st.lg.length (Nat.le_refl _)
 rw[List.take_length]at a1 a2
 have hb:=h.bs
 rw[hc]at hb
 have hx:xN d k z most (qBA d F c s) p=if 0<k then (plcF d (rsS (qBA d F c s).st) k z,[]) else ((qCD z (qBA d F c s).st.lg p.1).1,tchL most p.2 (qCD z (qBA d F c s).st.lg p.1).2):=rfl
 refine⟨?_,?_,?_,?_,?_,?_,?_⟩
 ·rw[List.map_append];exact h.at_.next hc h0 hg
 ·rw[hb,List.map_append,List.append_assoc];rfl
 all_goals rw[hx]
 all_goals by_cases c:0<k
 all_goals first|rw[if_pos c] | rw[if_neg c]
 ·exact(qGj hg.mem hz (hk c)).1
 ·exact a1.1
 ·exact(qGj hg.mem hz (hk c)).2.1
 ·exact a1.2
 ·rw[(qGj hg.mem hz (hk c)).2.2];exact List.length_map ..
 ·show (qCD _ _ _).1.length=(qBA d F _ s).st.ns.length;rw[a2,h.pl];omega
 ·grind
 ·exact tchL_len hm _ _ h.cl
 ·grind
 omega
theorem XAt.done(h:XAt d F k z most cs j outs s p)(hj:cs.length<=j):scE d F (st0 d) cs=0/\scO d F (st0 d) cs=outs.map Prod.fst/\scS d F (st0 d) cs=s/\xB d F k z most ([],[]) (st0 d) cs=outs.map Prod.snd:=by
 have e1:=h.at_.err
 have e2:=h.at_.out
 have e3:=h.at_.st
 have e4:=h.bs
 rw[List.drop_eq_nil_of_le hj]at e1 e2 e3 e4
 exact⟨e1,by rw[e2];simp[scO],e3,by rw[e4];simp[xB]⟩
noncomputable def qJD(d:Ds)(cs:List Cl2)(k size most F:Int):Int:=if qAN d (qIN d qAC) 0=0 then (if 0<=k/\k<=4/\1<=size/\size<=64/\1<=most/\most<=1000/\0<=F/\F<=1048576 then (if 2000<cs.length then 4 else scE d F.toNat (st0 d) cs) else 2) else 1
theorem qJc{m m':Mm}(h:m.plain=m'.plain){F:Int}:qAN d m F=qAN d m' F:=by
 have:qAv d m↔qAv d m':=⟨fun G=>G.plain h,fun G=>G.plain h.symm⟩
 grind [qAN]
def ScxP(V:Mem)(d:Ds)(cs:List Cl2)(k size most F:Int):Ending->Mem->Prop:=fun e V'=>V.sub V' /\
 ((qJD d cs k size most F≠0/\e=.returned (.tuple #[qAC.v,.agg #[qAC.v,qAC.v],.int .i64 (qJD d cs k size most F)])) ∨
 (qJD d cs k size most F=0/\∃(o:Sl) (x:Mm) (outs:List (O4×Nat)),qAc V' o 5 (outs.map o5Row)/\outs.map Prod.fst=scO d F.toNat (st0 d) cs/\outs.map Prod.snd=xB d F.toNat k size.toNat most.toNat ([],[]) (st0 d) cs/\Mm.Ok V' x/\x.plain=(scS d F.toNat (st0 d) cs).mm.plain/\qAv d x/\e=.returned (.tuple #[o.v,.agg #[x.gs.v,x.ns.v],.int .i64 0])))
end
abbrev OB:=54
def QO(Q:Mem->Mem->Prop)(o:Sl)(xs:List (O4×Nat)):Mem->Mem->Prop:=fun W V=>∃W1,Sx.Own W W1 OB 5 o (xs.flatMap o5Row)/\Q W1 V
theorem pushG{W V V1:Mem}{e sz:Nat}{s s':Sl}{xs ys:List Value}(o:Sx.Own W V e sz s xs)(h:Sx.Own (V.but s) V1 e sz s' ys):Sx.Own W V1 e sz s' ys/\(∀c,¬Blk s c->V c≠none->V1 c=V c)/\∀c,Blk s' c->Blk s c∨V c=none:=by
 refine⟨h.narrow o.sub_but,fun c hc hv=>?_,fun c hc=>?_⟩
 ·cases e:V c with
  | none=>grind
  | some x=>exact h.sub _ _ (Mem.but_at e hc)
 ·have h0:=Own.none0 h hc
  by_cases hb:Blk s c
  ·exact .inl hb
  ·right
   cases hv:V c with
   | none=>rfl
   | some o=>grind [Mem.but_at]
def subQ:Mem->Mem->Prop:=fun W V=>W.sub V
theorem qIs:qKv subQ:=fun W V h=>⟨fun _=>False,fun b h=>h.elim,fun b h=>h.elim,fun V' _=>qCf⟩
section
variable{Q:Mem->Mem->Prop}{D V V' W:Mem}{o:Sl}{xs:List (O4×Nat)}
theorem QO.framed(hF:qKv Q)(hS:∀W V,Q W V->W.sub V):qKv (QO Q o xs):=fun W V ⟨W1,ho,hq⟩=>by
 obtain⟨M,hM,hO⟩:=hF W1 V hq
 have h1:=hS _ _ hq
 have hB:∀b,Blk o b->∃x,W1 b=some x/\V b=some x/\¬M b:=fun b hb=>by
  obtain⟨x,hx⟩:=Own.some ho hb
  exact⟨_,hx,h1 _ _ hx,fun hm=>by simp_all⟩
 refine⟨fun b=>M b∨Blk o b,fun b hb=>?_,fun b hb=>?_,fun V' hk=>?_⟩
 ·rcases hb with hb|hb
  ·cases e:W b with
   | none=>rfl
   | some x =>
    have:=ho.sub _ _ e
    simp_all
  ·exact Own.none0 ho hb
 ·rcases hb with hb|hb
  ·exact hO.1 b hb
  grind
 ·refine⟨Mem.minus V' M,own_to ho (fun c x hc=>?_) (fun g x hg h0 hx=>⟨qBR (.inr hg),?_⟩),hO.2 V' fun b x hb hx=>hk b x (.inl hb) hx⟩
  ·grind [qBR,Blk,inr,qBi]
  grind [qBi,inr]
theorem newO{m:Int}(hS:∀W V,Q W V->W.sub V)(hm:1<=m/\m<=1000)(h:qBC D V (QO Q o xs)):Tri Tryz.prog 53 #[.int .i64 m] V fun e V'=>∃p,e=.returned (.tuple #[pv p,.int .i64 0])/\qBC D V' (QO (qJA p m.toNat [] 0) o xs):=by
 obtain⟨W,hD,hW,W1,ho,hq⟩:=h.use
 refine Tri.mono c53 ?_
 rintro _ V1 (⟨h,-⟩|⟨-,p,rfl,C⟩)
 ·omega
 ·exact⟨p,rfl,qBC.new (QO.framed qJA.framed fun _ _ h=>h.sub) (W:=W) ⟨V,Own.growS ho (hS _ _ hq),C⟩ (hW.trans C.sub) hD⟩
theorem dropO(hS:∀W V,Q W V->W.sub V)(h:qBC D V (QO Q o xs)):qBC D V (QO subQ o xs):=by
 obtain⟨W,hD,hW,W1,ho,hq⟩:=h.use
 exact qBC.new (QO.framed qIs fun _ _ h=>h) (W:=W) ⟨W1,ho,hS _ _ hq⟩ hW hD
theorem touchO{p k n:Nat}{c tr:List Int}{l:Sl}(h:qBC D V (QO (qJA p k c n) o xs))(hk:1<=k/\k<=1000)(hl:qAc D l 1 (tr.map qAf))(hb:∀x∈tr,0<=x/\x<=1048576)(hn:n+tr.length<2147483648) :
  Tri Tryz.prog 54 #[pv p,l.v] V fun e V'=>e=.returned (.int .i64 (qKf k c tr))/\qBC D V' (QO (qJA p k (tchL k c tr) (n+qKf k c tr)) o xs):=by
 obtain⟨W,hD,hW,W1,ho,hq⟩:=h.use
 refine Tri.mono (c54 hq hk (hl.sub (hD.trans ho.sub)) hb hn) ?_
 rintro _ V1 ⟨rfl,C⟩
 exact⟨rfl,qBC.new (QO.framed qJA.framed fun _ _ h=>h.sub) (W:=W) ⟨W1,ho,C⟩ (ho.sub.trans C.sub) hD⟩
theorem pushO(hF:qKv Q)(hS:∀W V,Q W V->W.sub V)(h:qBC D V (QO Q o xs)){b:Nat}(hb:V b=none){x:O4×Nat}(hn:xs.length<=3000){ty:Nat}{y z:Operand}{vals:Operand->Value}(hx:vals y=.slice o.p o.n o.c)(hy:vals z=.slice (sa b) 1 1){K:Value->Mem->Prop}(hK:∀o' V',qBC D V' (QO Q o' (xs++[x]))->K (.slice o'.p o'.n o'.c) V') :
  GenK Tryz.prog (.call { callee:=.builtin .append,args:=#[y,z],argTypes:=#[73,73] }) ty vals (V.set b (.cells (o5Row x).toArray OB (0,0))) K:=by
 obtain⟨W,hD,hW,W1,ho,hq⟩:=h.use
 have h1:=hS _ _ hq
 have ho1:=Own.growS ho h1
 refine oneG app5 ho1.but hb (by omega) hx hy (fun _=>rfl) fun o' V' ho'=>hK o' V' ?_
 obtain⟨g1,g2,g3⟩:=pushG ho1 ho'
 obtain⟨M,hM,hO⟩:=hF W1 V hq
 have hB:∀c,M c->V c≠none/\¬Blk o c:=fun c hc=>⟨hO.1 c hc,fun hb=>by
  grind [Own.some]⟩
 have hW1:W.sub (Mem.minus V' M):=fun c x hc=>by
  have:¬M c:=fun hm=>by
   have:=ho.sub _ _ hc
   simp_all
  rw[qBi this];exact g1.sub _ _ hc
 exact qBC.new (QO.framed hF hS) (W:=W) ⟨Mem.minus V' M,own_to g1 hW1 (fun g x hg h0 hx=>⟨h0,by
  grind [qBi]⟩),hO.2 V' fun c x hm hc=>by simp_all⟩ g1.sub hD
end
section
variable{V:Mem}{d:Ds}{l:Sl}{cs:List Cl2}{k size most F:Int}
theorem playO[Tab V]{x:Mm}{nm:ByteArray}{args pl:List Int}{l ps:Sl}{n z:Nat}(hd:Ds.Ok V d)(hm:Mm.Ok V x)(G:qAv d x)(ha:qAc V l 1 (args.map qAf))(hF:n<=4000)(hp:qAc V ps 1 (pl.map qAf))(hpl:pl.length=x.nodes.length)(P:Plc pl z)(hz:1<=z) :
  Tri Tryz.prog 52 #[d.v,x.v,ps.v,.int .i64 z,.agg #[.string nm,l.v],.int .i64 n] V fun e V'=>V.sub V' /\
   ((qCH d x nm args≠0/\e=.returned (.tuple #[.agg #[.int .i64 0,.int .i64 0,.int .i64 0,.int .i64 0,.int .i64 0,qAC.v,qAC.v,qAC.v,qAC.v],.int .i64 (qCH d x nm args)])) ∨
   (qCH d x nm args=0/\∃(r:Rx Int) (y:Mm) (p t:Sl),r=qCo d n (qDr d nm) args (qCd x)/\qAv d y/\Mm.Ok V' y/\y.plain=(r.st.g,r.st.ns)/\qKu x.nodes.length r.st.lg r.st.ns.length/\r.st.ns.length<=4096/\r.st.lg.length<=16000000/\qAc V' p 1 ((qCD z r.st.lg pl).1.map qAf)/\qAc V' t 1 ((qCD z r.st.lg pl).2.map qAf)/\e=.returned (.tuple #[.agg #[.int .i64 (outC r),.int .i64 (outV r),.int .i64 r.st.cm,.int .i64 (qBa r.st.lg),.int .i64 0,y.gs.v,y.ns.v,p.v,t.v],.int .i64 0]))):=by
 have es:qBr d x nm args n=qCH d x nm args:=start_ok G (by omega)
 refine Tri.mono (c52 (M:=4095) (pl:=pl) (size:=(z:Int)) (nm:=nm) hd hm ha hF hp hpl P.pl0 (by omega) (fun b hb=>by have:=(P.rng b hb).2;omega) (by omega) fun r hr hc=>by rw[hr];exact qFa hc) ?_
 rintro _ V2 (⟨hc,s2,rfl⟩|⟨hc,r,gs,ns,ls,nd,p,t,hr,L,T,rfl⟩)
 ·simp_all
 ·have hgd:=qIH (F:=n) (qEX hc).1 (qEX hc).2
  obtain⟨hlog,hlen⟩:=qKR hc
  have hns:r.st.ns.length<=4096:=by rw[hr];exact qFa hc
  rw[<- hr]at hgd hlog hlen
  obtain⟨hmm,hpn⟩:=qIP hd L hgd
  exact⟨L.sub,.inr ⟨by omega,r,⟨gs,r.st.g,ns,nd⟩,p,t,hr,hgd.plain (qLa L.eq).symm,hmm,hpn,hlog,hns,by omega,T.op.rows (row:=qAf) (fun _=>rfl) (by decide),T.ot.rows (row:=qAf) (fun _=>rfl) (by decide),rfl⟩⟩
end
section
variable{V:Mem}{d:Ds}{l:Sl}{cs:List Cl2}{k size most fu:Int}
theorem scx_bad{j:Int}{V':Mem}(h:qJD d cs k size most fu=j)(hj:j≠0)(hs:V.sub V'):ScxP V d cs k size most fu (.returned (.tuple #[qAC.v,.agg #[qAC.v,qAC.v],.int .i64 j])) V':=⟨hs,.inl ⟨by rw[h];exact hj,by rw[h]⟩⟩
theorem step_of{s:St}{x:Mm}(hx:x.plain=s.mm.plain)(hs:s=rsS s):qCd x=s:=by
 have:qCd x=rsS s:=by
  have h1:=(Prod.mk.inj hx).1
  have h2:=(Prod.mk.inj hx).2
  unfold qCd rsS
  rw[h1,h2]
  unfold St.mm
  simp[Function.comp_def]
 grind
theorem c28[Tab V](hd:Ds.Ok V d)(hcs:Cls.Ok V l cs)(hlen:cs.length<=14∨2000<cs.length)(hF:fu<=3000∨1048576<fu) :
  Tri Tryz.prog 28 #[d.v,l.v,.int .i64 k,.int .i64 size,.int .i64 most,.int .i64 fu] V (ScxP V d cs k size most fu):=by
 obtain⟨R,hR⟩:∃R,R=ScxP V d cs k size most fu:=⟨_,rfl⟩
 rw[<- hR]
 refine x28 ?_
 unfold w28
 have hln:=hcs.rows.n_eq
 have bad:∀{j:Int} {V':Mem},qJD d cs k size most fu=j->j≠0->V.sub V'->R (.returned (.tuple #[qAC.v,.agg #[qAC.v,qAC.v],.int .i64 j])) V':=fun h hj hs=>by simp_all [scx_bad]
 refine Tri.mono (c65 hd) ?_
 rintro _ V1 ⟨s1,⟨hT,rfl⟩|⟨hT,s0,rfl,hm0⟩⟩
 ·refine⟨qAC,qAC,_,rfl,fun h=>absurd h (by decide),fun _=>bad ?_ (by decide) s1⟩
  unfold qJD
  rw[if_neg fun h=>?_]
  have:=(qAj (qCO h).mem).1
  simp_all
 haveI:Tab V1:=Tab.sub (V:=V) inferInstance s1
 have hg0:qAN d (qIN d s0) 0=qAN d (qIN d qAC) 0:=qJc (m:=qIN d s0) (m':=qIN d qAC) rfl
 refine⟨_,_,_,rfl,fun _=>?_,fun h=>absurd rfl h⟩
 refine Tri.mono (c51 (size:=size) (most:=most) (fuel:=fu) (hd.sub s1) hm0) ?_
 rintro _ V2 ⟨rfl,s2⟩
 have s12:=s1.trans s2
 refine⟨_,rfl,fun h0=>?_,fun h0=>bad ?_ h0 s12⟩
 rotate_left
 ·unfold exE at h0 ⊢
  unfold qJD
  rw[hg0]at h0 ⊢
  by_cases c:qAN d (qIN d qAC) 0=0
  ·omega
  grind [qAN]
 have h0:exE d (qIN d s0) size most fu=0:=h0
 obtain⟨G0,hs1,hs2,hm1,hm2,hf0,hf1⟩:=ex_zero h0
 have hg:qAN d (qIN d qAC) 0=0:=by
  have G0':qAv d (qIN d qAC):=G0.plain rfl
  grind [qAN]
 have out:¬(0<=k/\k<=4)->qJD d cs k size most fu=2:=fun h=>by grind [qJD]
 refine⟨fun h=>bad (out (by omega)) (by decide) s12,fun hk0=>⟨fun h=>bad (out (by omega)) (by decide) s12,fun hk4=>⟨fun h=>bad ?_ (by decide) s12,fun hlt=>?_⟩⟩⟩
 ·grind [qJD]
 have hlt:¬(2000:Int)<(l.n:Int):=hlt
 have hl14:cs.length<=14:=by omega
 obtain⟨n,rfl⟩:∃n:Nat,fu=(n:Int):=⟨fu.toNat,by omega⟩
 obtain⟨z,rfl⟩:∃z:Nat,size=(z:Int):=⟨size.toNat,by omega⟩
 obtain⟨q,rfl⟩:∃q:Nat,most=(q:Int):=⟨most.toNat,by omega⟩
 have hsc:qJD d cs k z q n=scE d n (st0 d) cs:=by grind [qJD]
 have hd2:=hd.sub s12
 have hc2:=hcs.sub s12
 haveI:Tab V2:=Tab.sub (V:=V) inferInstance s12
 have S0:QO subQ qAC [] V2 V2:=⟨V2,Own.nil (Mem.sub.refl _) _ _,Mem.sub.refl _⟩
 have B0:qBC V2 V2 (QO subQ qAC []):=qBC.new (QO.framed qIs fun _ _ h=>h) S0 (Mem.sub.refl _) (Mem.sub.refl _)
 refine Tri.mono (newO (fun _ _ h=>h) (by omega) B0) ?_
 rintro _ V3 ⟨p0,rfl,B3⟩
 rw[Int.toNat_natCast]at B3
 refine⟨_,_,rfl,fun r ys V4=>∃(j:Nat) (x:Mm) (pc:Option Addr) (sl o at':Sl) (iv:Int) (outs:List (O4×Nat)) (s:St) (p:List Int×List Int) (D:Mem),r=cs.length-j/\j<=cs.length/\ys=[x.gs.v,x.ns.v,.pointer pc,.int .i64 0,.slice sl.p sl.n sl.c,.int .i64 iv,.slice o.p o.n o.c,.slice at'.p at'.n at'.c,.int .i64 j]/\XAt d n k z q cs j outs s p/\V2.sub D/\Mm.Ok D x/\x.plain=s.mm.plain/\qAc D at' 1 (p.1.map qAf) /\
  (0<k->qBC D V4 (QO subQ o outs))/\(¬0<k->∃b nn,pc=some ⟨b,0,none⟩/\nn<=j*16000000/\qBC D V4 (QO (qJA b q p.2 nn) o outs)),cs.length,⟨0,qIN d s0,_,qAC,qAC,qAC,0,[],st0 d,([],[]),V2,rfl,Nat.zero_le _,rfl,XAt.start (G0.plain rfl),Mem.sub.refl _,hm0.sub s2,rfl,qAc.nil,fun _=>dropO (fun _ _ h=>h.sub) B3,fun _=>⟨p0,0,rfl,Nat.zero_le _,B3⟩⟩,?_⟩
 rintro r V4 v19 v20 v21 v22 v23 v24 o v26 v27 ⟨j,x,pc,sl,o1,at',iv,outs,s,p,D,rfl,hj,hys,A,hD,hx,hxp,hat,hB1,hB0⟩ J hJ
 simp only[List.cons.injEq,and_true]at hys
 obtain⟨e1,e2,e3,e4,e5,e6,e7,e8,e9⟩:=hys
 cases qBc _ _ e1;cases qBc _ _ e2;cases inj_p _ _ e3;cases qEf _ _ e4;cases qBc _ _ e5;cases qEf _ _ e6;cases qBc _ _ e7;cases qBc _ _ e8;cases qEf _ _ e9
 have sD4:D.sub V4:=by
  by_cases c:0<k
  ·exact(hB1 c).sub
  ·obtain⟨_,_,_,_,h⟩:=hB0 c
   exact h.sub
 have hst:=step_of hxp A.at_.rs
 have Gx:qAv d x:=A.at_.good.plain hxp.symm
 have hln2:=A.at_.len
 rw[List.length_map]at hln2
 have hxl:p.1.length=x.nodes.length:=by
  rw[A.pl]
  have:=congrArg (fun y:List Int×List (Int×List Int)=>y.2.length) hxp
  grind [Mm.plain,St.mm]
 refine⟨fun hlt=>?_,fun hge=>?_⟩
 ·obtain⟨c,hcm,hc,hdr,hjl,hp,hz,hrow⟩:=(hc2.rows.sub (hD.trans sD4)).get hlt
  have hcl:qCH d x c.name c.args=qCH d s.mm c.name c.args:=qHj hxp
  have hsu:=(hc2.rows.sub (hD.trans sD4)).succ hlt
  refine⟨hp,hz,hlt,_,_,hrow,fun c0=>Tri.mono (newO (fun _ _ h=>h) (by omega) (hB1 c0)) ?_,fun c0=>⟨fun _=>?_,fun h=>absurd rfl h⟩⟩
  rintro _ V5 ⟨b,rfl,B5⟩
  rw[Int.toNat_natCast,<- A.cs0 c0]at B5
  have hnn:0<=j*16000000:=Nat.zero_le _
  refine⟨_,_,rfl,fun _=>?_,fun h=>absurd rfl h⟩
  rotate_left
  obtain⟨b,nn,rfl,hnn,B5⟩:=hB0 c0
  all_goals
   refine Tri.mono (B5.run fun U hU=>@playO U d (Tab.sub inferInstance (hD.trans hU)) x c.name c.args p.1 c.sl _ n z (hd2.sub (hD.trans hU)) (hx.sub hU) Gx ((hc2.sub (hD.trans hU)).args c hcm) (by omega) (hat.sub hU) hxl A.plc (by omega)) ?_
   rintro _ V6 ⟨D6,hD6,⟨hk,rfl⟩|⟨hk,r,y,pp,t,hr,Gy,hy,hyp,hlog,hns,hlg,hpp,ht,rfl⟩,B6⟩
   ·rw[hcl]at hk ⊢
    exact⟨_,_,_,_,_,_,_,_,_,_,rfl,fun h=>absurd h hk,fun _=>bad (hsc.trans (A.at_.stop hdr hk)) hk (s12.trans (hD.trans (hD6.trans B6.sub)))⟩
   rw[hcl]at hk
   rw[hst]at hr
   have hr:r=qBA d n c s:=hr
   have hlog':qKu s.ns.length r.st.lg r.st.ns.length:=by rw[<- A.pl,hxl];exact hlog
   have hbr:=blk_rng (size:=(z:Int)) (lg:=r.st.lg) (pl:=p.1) (M:=4095) (fun b hb=>⟨(A.plc.rng b hb).1,by have:=(A.plc.rng b hb).2;omega⟩) (by omega) r.st.lg.length (Nat.le_refl _)
   have hbt:=blk_tr (size:=(z:Int)) (lg:=r.st.lg) (pl:=p.1) r.st.lg.length (Nat.le_refl _)
   rw[List.take_length]at hbr hbt
   have hln:=hlog'.len
   have hnl:qBa r.st.lg<=16000000:=by
    unfold qBa
    exact Nat.le_trans (List.length_filter_le _ _) hlg
   have hgm:qAv d (qBA d n c s).st.mm:=by rw[<- hr];exact Gy.plain (hyp.trans (by simp[Mm.plain,St.mm,Function.comp_def]))
   refine⟨_,_,_,_,_,_,_,_,_,_,rfl,fun _=>Tri.mono (touchO B6 (by omega) ht (fun x hx=>by have:=hbr.2 x hx;omega) (by omega)) ?_,fun h=>absurd rfl h⟩
   rintro _ V7 ⟨rfl,B7⟩
   refine⟨_,rfl,fun tb htb=>?_⟩
   refine pushO qJA.framed (fun _ _ h=>h.sub) B7 (x:=(outO r,xM z q r p)) htb (by omega) rfl rfl fun o' V9 B9=>⟨o',rfl,fun ck=>?_,fun ck=>?_⟩
   ·have hvm:qAu d y=true:=Gy.mem
    refine Tri.mono (B9.run (R:=fun e U'=>∃(s:Sl) (zs:List Int),e=.returned s.v/\qAc U' s 1 (zs.map qAf)/\qAL d y k z zs) fun U hU=>Tri.mono (@c45 U d y z (Tab.sub inferInstance (hD.trans (hD6.trans hU))) Gy.valid hvm (hd2.sub (hD.trans (hD6.trans hU))) (hy.sub hU) k (by omega) (by omega)) ?_) ?_
    ·rintro _ U' ⟨s,zs,rfl,o,P⟩
     exact⟨o.sub,s,zs,rfl,o.rows (row:=qAf) (fun _=>rfl) (by decide),P⟩
    ·rintro _ V10 ⟨D10,hD10,⟨s10,zs,rfl,hs10,P10⟩,B10⟩
     have P':qAL d (rsS r.st).mm k z zs:=place_plain (hyp.trans (by simp[Mm.plain,St.mm,Function.comp_def,rsS])) P10
     have hz':=plcF_eq (s:=rsS r.st) (by exact(hr ▸ hgm).mem) (by omega) P'
     subst hz'
     have A':=A.next (z:=z) (most:=q) hdr hk (by omega) (by omega) (fun _=>by rw[<- hr];exact P') hgm (by rw[<- hr];exact hlog') (by rw[<- hr];exact hns)
     rw[<- hr]at A'
     have ex:xN d k z q r p=(plcF d (rsS r.st) k z,[]):=by unfold xN;rw[if_pos ck]
     rw[ex]at A'
     refine⟨_,rfl,hsu,hJ _ _ _ (show cs.length-(j+1)<cs.length-j by omega) ⟨j+1,y,_,_,o',s10,_,_,_,_,D10,rfl,hjl,rfl,A',hD.trans (hD6.trans hD10),hy.sub hD10,hyp.trans (by simp[Mm.plain,St.mm,Function.comp_def,rsS]),hs10,fun _=>dropO (fun _ _ h=>h.sub) B10,fun h=>absurd ck h⟩⟩
   ·have A':=A.next (z:=z) (most:=q) hdr hk (by omega) (by omega) (fun h=>absurd h ck) hgm (by rw[<- hr];exact hlog') (by rw[<- hr];exact hns)
    rw[<- hr]at A'
    have ex:xN d k z q r p=((qCD z r.st.lg p.1).1,tchL q p.2 (qCD z r.st.lg p.1).2):=by unfold xN;rw[if_neg ck]
    rw[ex]at A'
    have hml:=qIR q (qCD (z:Int) r.st.lg p.1).2 p.2
    refine⟨hsu,hJ _ _ _ (show cs.length-(j+1)<cs.length-j by omega) ⟨j+1,y,_,_,o',pp,_,_,_,_,D6,rfl,hjl,rfl,A',hD.trans hD6,hy,hyp.trans (by simp[Mm.plain,St.mm,Function.comp_def,rsS]),hpp,fun h=>absurd h ck,fun _=>⟨b,_,rfl,?_,B9⟩⟩⟩
    omega
 ·have hdn:=(hc2.rows.sub (hD.trans sD4)).done hge
  obtain⟨f1,f2,f3,f4⟩:=A.done hdn.2
  rw[hR]
  have hro:qAc V4 o 5 (outs.map o5Row):=by
   by_cases c:0<k
   ·obtain⟨W,-,hW,W1,ho,hq⟩:=(hB1 c).use
    exact(ho.rows (fun _=>rfl) (by decide)).sub hq
   ·obtain⟨_,_,_,_,h⟩:=hB0 c
    obtain⟨W,-,hW,W1,ho,hq⟩:=h.use
    exact(ho.rows (fun _=>rfl) (by decide)).sub hq.sub
  refine⟨s12.trans (hD.trans sD4),.inr ⟨hsc.trans f1,o,x,outs,hro,?_,?_,hx.sub sD4,?_,Gx,rfl⟩⟩
  ·rw[Int.toNat_natCast];exact f2.symm
  ·rw[Int.toNat_natCast,Int.toNat_natCast,Int.toNat_natCast];exact f4.symm
  grind
end
section
variable{V:Mem}{d:Ds}{l:Sl}{cs:List Cl2}{k size most fu:Int}
theorem longAny(h:Cls.Ok V l cs):Tri Tryz.prog 27 #[l.v,.func (.func 18) #[] #[]] V (RY V):=by
 refine x27 (a:=l) (b:=.func (.func 18) #[] #[]) ?_
 unfold w27
 refine Tri.mono (x64 (a:=l) (b:=.func (.func 18) #[] #[]) (R:=fun e V'=>V=V'/\∃r:Int,e=.returned (.int .i64 r)) ?_) ?_
 ·unfold w64
  refine qAD (mk:=.int .i64) (b0:=0) cs.length (fun i V1=>V=V1) rfl ?_
  rintro i b V1 J hi rfl hJ
  refine⟨fun hlt=>?_,fun _=>⟨rfl,_,rfl⟩⟩
  obtain⟨x,hxm,hx,-,hil,hp,hz,hrow⟩:=h.rows.get hlt
  refine⟨hp,hz,hlt,_,_,hrow,18,#[],#[],rfl,Tryz.call18,Tri.mono (c18 (nm:=x.name) (l:=x.sl)) ?_⟩
  rintro _ _ ⟨rfl,b,rfl⟩
  exact⟨b,rfl,fun _=>⟨rfl,_,rfl⟩,fun _=>⟨h.rows.succ hlt,hJ hil _ _ rfl⟩⟩
 ·rintro _ _ ⟨rfl,r,rfl⟩
  exact⟨_,rfl,rfl,_,rfl⟩
end
section
variable{d:Ds}{F:Nat}{k:Int}{z q:Nat}
theorem xB_le:∀(cs:List Cl2) (p:List Int×List Int) (s:St) (i b:Nat) (o:O4),(xB d F k z q p s cs)[i]?=some b->(scO d F s cs)[i]?=some o->b<=o.2.2.2
 | [],_,_,_,_,_,h,_=>by simp[xB]at h
 | c::cs,p,s,0,b,o,h,ho=>by
  have h:some (xM z q (qBA d F c s) p)=some b:=h
  have ho:some (outO (qBA d F c s))=some o:=ho
  cases h;cases ho
  have h1:=qIR q (qCD (z:Int) (qBA d F c s).st.lg p.1).2 p.2
  have h2:=blk_tr (size:=(z:Int)) (lg:=(qBA d F c s).st.lg) (pl:=p.1) (qBA d F c s).st.lg.length (Nat.le_refl _)
  rw[List.take_length]at h2
  show qKf _ _ _<=qBa _
  omega
 | c::cs,p,s,i+1,b,o,h,ho=>xB_le cs _ _ i b o (by simpa [xB]using h) (by simpa [scO]using ho)
end
section
variable{V:Mem}{d:Ds}{l:Sl}{cs:List Cl2}{size most fu:Int}
theorem c7[Tab V](hd:Ds.Ok V d)(hcs:Cls.Ok V l cs):PP 7 [d.v,l.v,.int .i64 size,.int .i64 most,.int .i64 fu] V (.bool true):=by
 obtain⟨R,hR⟩:∃R:Ending->Mem->Prop,R=fun e V'=>e=.returned (.bool true)/\V.sub V':=⟨_,rfl⟩
 refine Pur.mk ?_
 rw[<- hR]
 refine x7 ?_
 unfold w7
 have fin:∀{V'},V.sub V'->R (.returned (.bool true)) V':=fun h=>by simp_all
 refine c9.call ⟨_,rfl,fun _=>?_,fun h=>absurd rfl h⟩
 refine Tri.mono (c10 (m:=⟨qAC,[],qAC,[]⟩) hd ⟨qAc.nil,(fun _ h=>by cases h),qAc.nil,(fun _ h=>by cases h)⟩ (fu:=fu)) ?_
 rintro _ V0 ⟨rfl,b,rfl,hfu⟩
 have hn:=hcs.rows.n_eq
 refine⟨_,rfl,fun _=>fin (Mem.sub.refl _),fun hb=>⟨fun _=>fin (Mem.sub.refl _),fun hl=>?_⟩⟩
 have hl:¬(14:Int)<(l.n:Int):=hl
 have hlen:cs.length<=14∨2000<cs.length:=.inl (by omega)
 have hF:=hfu ((Bool.not_eq_true _).mp hb)
 refine Tri.mono (longAny hcs) ?_
 rintro _ _ ⟨rfl,b,rfl⟩
 refine⟨_,rfl,fun _=>fin (Mem.sub.refl _),fun _=>?_⟩
 refine(c31 hd).call ⟨_,rfl,fun hv=>(c32 hd).call ⟨_,rfl,fun _=>?_,fun _=>fin (Mem.sub.refl _)⟩,fun _=>fin (Mem.sub.refl _)⟩
 refine Tri.mono (c34 hd (qIX hv).1) ?_
 rintro _ V6 ⟨s6,s0,rfl,hm0⟩
 haveI:Tab V6:=Tab.sub inferInstance s6
 refine⟨_,_,rfl,Tri.mono (c33 (hd.sub s6) hm0 (hcs.sub s6) hF) ?_⟩
 rintro _ V7 ⟨s7,H⟩
 have s67:=s6.trans s7
 have hg0:qAN d (qIN d s0) 0=qAN d (qIN d qAC) 0:=qJc (m:=qIN d s0) (m':=qIN d qAC) rfl
 -- the two faults
 have key:∀i:Nat,i<5->(scrE d fu (qIN d s0) cs=0->qJD d cs i size most fu≠0->qJD d cs i size most fu=2)/\(qJD d cs i size most fu=0->scrE d fu (qIN d s0) cs=0):=fun i hi=>by
  by_cases c:qAN d (qIN d qAC) 0=0
  ·by_cases c2:0<=(i:Int)/\(i:Int)<=4/\1<=size/\size<=64/\1<=most/\most<=1000/\0<=fu/\fu<=1048576
   ·have e1:qJD d cs i size most fu=scE d fu.toNat (st0 d) cs:=by grind [qJD]
    have e2:scrE d fu (qIN d s0) cs=scE d fu.toNat (st0 d) cs:=by
     have G:=qCO (hg0.trans c)
     have hgf:qAN d (qIN d s0) fu=0:=by grind [qAN]
     unfold scrE
     rw[if_pos hgf,if_neg (by omega)];rfl
    omega
   ·have e1:qJD d cs i size most fu=2:=by unfold qJD;rw[if_pos c,if_neg c2]
    rw[e1]
    exact⟨fun _ _=>rfl,fun h=>by cases h⟩
  ·have e1:qJD d cs i size most fu=1:=by grind [qJD]
   grind [scr_zero,absurd,qAN]
 rcases H with⟨he,rfl⟩|⟨he,wo,wa,wb,wn,hwo,hwm,hwn,hwG,rfl⟩
 ·refine⟨_,_,_,_,rfl,qAD (mk:=.bool) (b0:=false) 5 (fun i A=>V7.sub A) (Mem.sub.refl _) ?_⟩
  rintro i b V8 J hi s8 hJ
  have s08:=s67.trans s8
  haveI:Tab V8:=Tab.sub inferInstance s08
  refine⟨fun hlt=>Tri.mono (c28 (k:=(i:Int)) (size:=size) (most:=most) (hd.sub s08) (hcs.sub s08) hlen hF) ?_,fun _=>fin s08⟩
  have hlt:(i:Int)<5:=hlt
  rintro _ V9 ⟨s9,⟨hx,rfl⟩|⟨hx,-⟩⟩
  ·exact⟨_,_,_,_,rfl,fun h=>absurd h hx,fun _=>⟨fun h=>absurd h he,fun _=>⟨fun _=>⟨⟨by omega,by omega⟩,hJ (by omega) _ _ (s8.trans s9)⟩,fun h=>absurd rfl h⟩⟩⟩
  ·exact absurd ((key i (by omega)).2 hx) he
 ·refine⟨_,_,_,_,rfl,qAD (mk:=.bool) (b0:=false) 5 (fun i A=>V7.sub A) (Mem.sub.refl _) ?_⟩
  rintro i b V8 J hi s8 hJ
  have s08:=s67.trans s8
  haveI:Tab V8:=Tab.sub inferInstance s08
  refine⟨fun hlt=>Tri.mono (c28 (k:=(i:Int)) (size:=size) (most:=most) (hd.sub s08) (hcs.sub s08) hlen hF) ?_,fun _=>fin s08⟩
  have hlt:(i:Int)<5:=hlt
  rintro _ V9 ⟨s9,⟨hx,rfl⟩|⟨hx,o,x,outs,ho,h1,h2,hxm,hxp,G,rfl⟩⟩
  ·exact⟨_,_,_,_,rfl,fun h=>absurd h hx,fun _=>⟨fun _=>⟨fun _=>⟨fun _=>⟨⟨by omega,by omega⟩,hJ (by omega) _ _ (s8.trans s9)⟩,fun h=>absurd rfl h⟩,fun h=>absurd ((key i (by omega)).1 he hx) h⟩,fun h=>absurd rfl h⟩⟩
  have s89:=s8.trans s9
  have n1:=ho.n_eq
  have n2:=hwo.n_eq
  have hst:qCd (qIN d s0)=st0 d:=rfl
  rw[hst]at hwo hwm hwn n2
  have e1:=congrArg List.length h1
  rw[List.length_map]at e1
  have hnn:=(qAj hwG.mem).2.1
  have n3:=hwm.nodes.n_eq
  have e3:wn.length=(scS d fu.toNat (st0 d) cs).ns.length:=by grind
  have e4:(scS d fu.toNat (st0 d) cs).mm.nodes.length=(scS d fu.toNat (st0 d) cs).ns.length:=List.length_map ..
  rw[hst,e4]at hnn
  have n3:wb.n=wn.length:=n3
  refine⟨_,_,_,_,rfl,fun _=>⟨fun _=>⟨fun _=>⟨fun h=>absurd h (by omega),fun _=>?_⟩,fun h=>absurd (by omega) h⟩,fun h=>absurd rfl h⟩,fun h=>absurd rfl h⟩
  refine(c23 (x:=x) (y:=⟨wa,(scS d fu.toNat (st0 d) cs).g,wb,wn⟩) (hd.sub (s67.trans s89)) G hxm (hwm.sub s89) (hxp.trans (qLa hwn).symm)).call ⟨_,rfl,fun _=>?_,fun h=>absurd rfl h⟩
  refine qAD (mk:=.bool) (b0:=b) outs.length (fun j A=>A=V9) rfl ?_
  rintro j b2 A J2 hj rfl hJ2
  refine⟨fun hlt2=>?_,fun _=>⟨⟨by omega,by omega⟩,hJ (by omega) _ _ s89⟩⟩
  obtain⟨y,hym,hyj,-,hjl,hp,hz,hrow⟩:=ho.get hlt2
  obtain⟨w,hwm',hwj,-,hjl2,hp2,hz2,hrow2⟩:=(hwo.sub s89).get (i:=j) (by omega)
  have f1:(scO d fu.toNat (st0 d) cs)[j]?=some y.1:=by grind
  have f2:(xB d fu.toNat (i:Int) size.toNat most.toNat ([],[]) (st0 d) cs)[j]?=some y.2:=by grind
  have hle:=xB_le cs _ _ j _ _ f2 f1
  rw[hwj]at f1
  cases f1
  refine⟨hp,hz,hlt2,_,_,_,_,_,hrow,fun h=>absurd h (by omega),fun _=>⟨fun h=>absurd h (by omega),fun _=>⟨hp2,hz2,by omega,_,_,_,_,_,hrow2,fun _=>⟨ho.succ hlt2,hJ2 hjl _ _ rfl⟩,fun h=>absurd ⟨rfl,rfl,rfl,rfl,rfl⟩ h⟩⟩⟩
end
end Go.Proofs
