/- Part 15 of a proof of a law of this seat: no statement of the seat is proved here. -/
import Derived.Test.YtginfholjbbgeaaGreatDoorPart14
import Derived.Test.YtginfholjbbgeaaGreatDoorPart12
import Derived.Test.YtginfholjbbgeaaGreatDoorPart11
set_option linter.unusedVariables false
set_option linter.unusedSimpArgs false
namespace Go.Proofs
open Go Go.Sx
attribute [local irreducible] Go.Sx.Tri
section
variable{V0 V V1:Mem}{d:Ds}{p F c q:Nat}{s:St}{pr:Pr}{vals:List Int}
theorem gAt{V:Mem}{gs:Sl}{l:List Int}(h:qAc V gs 1 (l.map qAn)){i:Nat}{v:Int}(hv:l[i]?=some v):¬gs.p=none/\(0:Int)<=(i:Int)/\(i:Int)<(gs.n:Int)/\V.rowp gs.p (i*1) 1=some [.int .i64 v]:=by
 have hn:=h.n_eq
 have hl:=(List.getElem?_eq_some_iff.1 hv).1
 obtain⟨y,-,hy,-,hl2,hp,hz,hrow⟩:=h.get (i:=i) (by omega)
 rw[hv]at hy;cases hy
 exact⟨hp,hz,by omega,hrow⟩
theorem nodeAt(M:EM V0 d p F V s c){k i:Nat}{ty v:Int}{fs:List Int}(hk:s.ns[k]?=some (ty,fs))(hv:fs[i]?=some v):∃gs ns ls nd sl,V p=some (.cells (qBE d F s.tk c s.cm gs ns ls).toArray 111 (0,0))/\Lay V0 V gs ns ls nd s/\nd[k]?=some ⟨ty,sl,fs⟩/\IR (k:Int) /\
  ¬ns.p=none/\(0:Int)<=(k:Int)/\(k:Int)<(ns.n:Int)/\V.rowp ns.p (k*2) 2=some [.int .i64 ty,.slice sl.p sl.n sl.c]/\¬sl.p=none/\(0:Int)<=(i:Int)/\(i:Int)<(sl.n:Int)/\V.rowp sl.p (i*1) 1=some [.int .i64 v]:=by
 obtain⟨gs,ns,ls,nd,hat,L⟩:=M.ex
 have hnR:=L.nodes.rows (fun _=>rfl) (by decide)
 have hnn:=hnR.n_eq
 obtain⟨sl,hsl⟩:=L.at_ hk
 have hkl:=(List.getElem?_eq_some_iff.1 hsl).1
 obtain⟨y,-,hy,-,-,hp,hz,hrow⟩:=hnR.get (i:=k) (by omega)
 rw[hsl]at hy;cases hy
 have hI:IR ((k:Int)):=⟨by omega,by have:=(hnR.succ (i:=k) (by omega)).2;omega⟩
 obtain⟨g1,g2,g3,g4⟩:=gAt ((L.fld _ (List.mem_of_getElem? hsl)).rows (fun _=>rfl) (by decide)) hv
 exact⟨gs,ns,ls,nd,sl,hat,L,hsl,hI,hp,hz,by omega,hrow,g1,g2,g3,g4⟩
theorem exprC{n:Nat}(hR:CallC d p F n):ExprC d p F n:=by
 intro e
 induction e using E.ind with
 | h e ih =>
 intro t V0 V s c q pr vals X hv he ht
 obtain⟨gs,ns,ls,nd,hat,L⟩:=X.M.ex
 obtain⟨fa,fb,hq0,hra0,hrb0⟩:=X.fr.ex
 have hq:=L.sub _ _ hq0
 have hd:=X.S.ds.sub L.sub
 have heV:=he.sub L.sub
 obtain⟨f,hf⟩:∃f,f=evX d (qDG d (qFg d F n) c) pr vals:=⟨_,rfl⟩
 obtain⟨G,hG0⟩:∃G:Rx Int,G=qDg d (qDG d (qFg d F n) c) pr vals (intB d (qAh d pr) e.k) e.op e.n e.s (e.k.map f) s:=⟨_,rfl⟩
 rw[evX_eq,<- hf,<- hG0]
 have hcs:=qEx X.S.procs (qFT (F:=F) X.S.procs n) c
 have hsz:=szE_eq e
 have K:∀{i:Nat} {a:E},e.k[i]?=some a->qFa (e.k.map f) i=f a:=fun h=>kidX_at h
 have kid:∀{i:Nat} {a:E} {u:ByteArray} {V1:Mem} {s1:St},e.k[i]?=some a->qAl d (qAh d pr) a=(u,0)->Cx V0 d p F c q pr vals n (szE a) V1 s1->Tri Tryz.prog 188 #[pv p,pv q,.agg #[.int .i64 a.op,.int .i64 a.n,.string a.s,.slice a.l.p a.l.n a.l.c]] V1 (PX V0 d p F c (f a s1)):=fun {i a u V1 s1} h0 ha X1=>by
  have hm:=List.mem_of_getElem? h0
  rw[hf]
  exact ih a hm u V0 V1 s1 c q pr vals X1 (hv.kids a hm) (he.kids a hm) ha
 have go:∀{i:Nat} {a:E} {u:ByteArray} {s1 s2:St} {V1 V2:Mem} {m k:Nat} {v:Int},e.k[i]?=some a->qAl d (qAh d pr) a=(u,0)->Cx V0 d p F c q pr vals n m V1 s1->szE a+k<=m->f a s1=.ok v s2->EM V0 d p F V2 s2 c->Cx V0 d p F c q pr vals n k V2 s2/\qBC d s2.mm u v:=fun {i a u s1 s2 V1 V2 m k v} h0 ha X1 hm e2 M2=>by
  have hmem:=List.mem_of_getElem? h0
  have P:=ev_snd X.S.procs hcs X.po a u s1 (hv.kids a hmem) ha X1.G X1.hv
  rw[hf]at e2
  obtain⟨G2,g2,q2⟩:=P.got e2
  exact⟨(X1.le hm).next g2 G2 M2,q2⟩
 have s1':∀{a:E},e.k=[a]->szE e=szE a+1:=fun h=>by rw[hsz,h];simp;omega
 have s2':∀{a b:E},e.k=[a,b]->szE e=szE a+szE b+1:=fun h=>by rw[hsz,h];simp;omega
 have s3':∀{a b c:E},e.k=[a,b,c]->szE e=szE a+szE b+szE c+1:=fun h=>by rw[hsz,h];simp;omega
 refine Tri.mono (x188 (R:=PX V0 d p F c G) ?_) fun _ _ h=>h
 have two:∀{a b:E} {u w':ByteArray},(9<=e.op/\e.op<=23/\e.op≠18/\e.op≠19/\e.op≠20/\e.op≠21)->e.k=[a,b]->qAl d (qAh d pr) a=(u,0)->qAl d (qAh d pr) b=(w',0)->(e.op≠14->e.op≠15->u=qBb/\w'=qBb) ->
   w188 (sa p) (sa q) e.op e.n e.s e.l V (PX V0 d p F c G):=by
  intro a b u w' h hk ha hb hint
  have h0:e.k[0]?=some a:=by rw[hk];rfl
  have h1:e.k[1]?=some b:=by rw[hk];rfl
  have hG:=hG0
  rw[cXTwo h,K h0,K h1]at hG
  obtain⟨k1,k2,k3,k4⟩:=qEb heV h0
  unfold w188
  have hs:=s2' hk
  refine qAw (by omega) (qAw (by omega) (qAw (by omega) (qAw (by omega) (qAw (by omega) (qAw (by omega) (qAw (by omega) (qAw (by omega) (qAw (by omega) (qAw (by omega) (qAw (by omega) (qAw (by omega) (qAw (by omega) ?_))))))))))))
  refine⟨k1,by decide,k3,_,_,_,_,k4,PX.bind hG (kid h0 ha (X.le (by omega))) fun v s1 V1 e1 M1 hG1=>?_⟩
  obtain⟨X1,hv1⟩:=go (k:=szE b+1) h0 ha X (by omega) e1 M1
  obtain⟨l1,l2,l3,l4⟩:=qEb (he.sub M1.sub) h1
  refine⟨l1,by decide,l3,_,_,_,_,l4,PX.bind hG1 (kid h1 hb (X1.le (by omega))) fun w s2 V2 e2 M2 hG2=>?_⟩
  obtain⟨X2,hv2⟩:=go (k:=1) h1 hb X1 (by omega) e2 M2
  have g2:=((ev_snd X.S.procs hcs X.po b w' s1 (hv.kids b (List.mem_of_getElem? h1)) hb X1.G X1.hv).got (by rw[hf]at e2;exact e2)).2.1
  have hv1:=g2.val hv1
  obtain⟨gs2,ns2,ls2,nd2,hat2,L2⟩:=M2.ex
  obtain⟨m1,m2,m3,m4⟩:=qEb (he.sub M2.sub) h0
  have hcm:s2.cm+1<=16000000:=by have h1:=X2.w;have h2:=X2.tk;have h3:=X2.S.fuel;unfold BW at h1;omega
  have hib:intB d (qAh d pr) e.k=decide (u=qBb):=by rw[hk];show decide ((qAl d (qAh d pr) a).1=qBb)=_;rw[ha]
  rw[hib]at hG2
  have ty:=typC (F:=F) X2.S M2 X2.fr X2.po X2.G X2.hv a u (hv.kids a (List.mem_of_getElem? h0)) (he.kids a (List.mem_of_getElem? h0)) ha
  have hM:EM V0 d p F (V2.set p (.cells (qBE d F s2.tk c ((s2.cm+1:Nat):Int) gs2 ns2 ls2).toArray 111 (0,0))) { s2 with cm:=s2.cm+1 } c:=MA.set (row':=qBE d F s2.tk c ((s2.cm+1:Nat):Int)) ntE M2.p0 hat2 L2 rfl rfl rfl rfl
  have yes:∀{x:Int},(e.op=16∨e.op=17∨((e.op=14∨e.op=15)/\u=qBb))->qED e.op v w=.ok x->G=.ok x { s2 with cm:=s2.cm+1 }:=fun hc hx=>by
   rw[hG2,hx];unfold cntX;rw[if_pos (by simpa using hc)];rfl
  have no:∀{x:Int},¬(e.op=16∨e.op=17∨((e.op=14∨e.op=15)/\u=qBb))->qED e.op v w=.ok x->G=.ok x s2:=fun hc hx=>by
   rw[hG2,hx];unfold cntX;rw[if_neg (by simpa using hc)];rfl
  have eqB:∀{x:Bool},(e.op=14∨e.op=15)->qED e.op v w=.ok (trI x)->((decide (v=w))==(decide (e.op=14)))=x->_:=fun {x} ho hx hb=>by
   refine(⟨m1,by decide,m3,_,_,_,_,m4,ty.call ⟨_,rfl,fun hi=>⟨nn,nn,_,qAd hat2 13 1 (by simp[qBE]),⟨by omega,by omega⟩,nn,nn,StT.at2 (off:=13) hat2 (by simp[qBE]) ?_⟩,fun hi=>?_⟩⟩:¬e.l.p=none/\(0:Int)<=(0:Int)/\0<(e.l.n:Int)/\∃v16 v17 v18 v19,V2.rowp e.l.p ((0:Int).toNat*4) 4=some [uI v16,uI v17,uS v18,uL v19] /\
    TT 228 #[uP (sa p),uP (sa q),uA #[uI v16,uI v17,uS v18,uL v19]] V2 fun e' V3=>∃v20,e'=rV (uS v20) /\
    Br (v20=(qAq [105,110,116]))
    (¬(some (⟨p,0,none⟩:Addr))=none/\¬(some (⟨p,0,none⟩:Addr))=none/\∃v21,V3.rowp (sa p) ((13:Int).toNat*1) 1=some [uI v21] /\
    IR (v21+1)/\¬(some (⟨p,0,none⟩:Addr))=none/\¬(some (⟨p,0,none⟩:Addr))=none/\StT (qAa (sa p) 13) 0 [uI (v21+1)] V3 fun V4 =>
    TT 229 #[uB ((decide (v=w))==(decide (e.op=14)))] V4 fun e' V5=>∃v22,e'=rV (uI v22)/\PX V0 d p F c G (rV (uI v22)) V5)
    (TT 229 #[uB ((decide (v=w))==(decide (e.op=14)))] V3 fun e' V4=>∃v21,e'=rV (uI v21)/\PX V0 d p F c G (rV (uI v21)) V4))
   ·rw[hb]
    exact c229.call ⟨_,rfl,PX.ok (yes (.inr (.inr ⟨ho,hi⟩)) hx) hM⟩
   ·rw[hb]
    exact c229.call ⟨_,rfl,PX.ok (no (fun k=>k.elim (fun k=>by omega) fun k=>k.elim (fun k=>by omega) fun k=>hi k.2) hx) M2⟩
  have cmB:∀{x:Bool},(e.op=16∨e.op=17)->qED e.op v w=.ok (trI x)->(¬(some (⟨p,0,none⟩:Addr))=none/\¬(some (⟨p,0,none⟩:Addr))=none/\∃v16,V2.rowp (sa p) ((13:Int).toNat*1) 1=some [uI v16] /\
    IR (v16+1)/\¬(some (⟨p,0,none⟩:Addr))=none/\¬(some (⟨p,0,none⟩:Addr))=none/\StT (qAa (sa p) 13) 0 [uI (v16+1)] V2 fun V3 =>
    TT 229 #[uB x] V3 fun e' V4=>∃v17,e'=rV (uI v17)/\PX V0 d p F c G (rV (uI v17)) V4):=fun {x} ho hx =>
   ⟨nn,nn,_,qAd hat2 13 1 (by simp[qBE]),⟨by omega,by omega⟩,nn,nn,StT.at2 (off:=13) hat2 (by simp[qBE]) (c229.call ⟨_,rfl,PX.ok (yes (by omega) hx) hM⟩)⟩
  refine⟨fun h14=>eqB (x:=decide (v=w)) (.inl h14) ?_ ?_,fun h14=>⟨fun h15=>eqB (x:=!decide (v=w)) (.inr h15) ?_ ?_,fun h15=>⟨fun h16=>cmB (.inl h16) ?_,fun h16=>⟨fun h17=>cmB (.inr h17) ?_,fun h17=>?_⟩⟩⟩⟩
  ·rw[show e.op=14 from h14];rfl
  ·rw[decide_eq_true (show e.op=14 from h14)];cases decide (v=w) <;> rfl
  ·rw[show e.op=15 from h15];rfl
  ·rw[decide_eq_false (show ¬e.op=14 from h14)];cases decide (v=w) <;> rfl
  ·rw[show e.op=16 from h16];rfl
  ·rw[show e.op=17 from h17];rfl
  ·have h14:¬e.op=14:=h14
   have h15:¬e.op=15:=h15
   have h16:¬e.op=16:=h16
   have h17:¬e.op=17:=h17
   obtain⟨rfl,rfl⟩:=hint h14 h15
   refine PB.last (s:=s2) ?_ M2 (c230 (by omega) (qBo.1 hv1) (qBo.1 hv2))
   rw[hG2];unfold cntX;rw[if_neg (by omega)]
 have hkind:=kindX (sc:=qAh d pr) rfl hv ht
 cases hkind with
 | int h hn =>
  unfold w188
  exact qAG h (PX.ok (hG0.trans (cX1 (.inl h))) X.M)
 | bool h hn =>
  unfold w188
  exact qAw (by omega) (qAG h (PX.ok (hG0.trans (cX1 (.inr h))) X.M))
 | nil h hn =>
  unfold w188
  repeat refine qAw (h ▸ (by decide)) ?_
  exact qAG h (PX.ok (hG0.trans (cX3 h)) X.M)
 | var h hl hne =>
  unfold w188
  have hG:=hG0.trans (cX4 h)
  have hra:=hra0.sub L.sub
  repeat refine qAw (h ▸ (by decide)) ?_
  refine qAG h ⟨nn,nn,fa,qAd hq 0 1 (by simp),(c189 hra).call ⟨_,rfl,?_⟩⟩
  have hvg:=(qAt X.G.mem).2.2.2.1
  rcases qHa X.G X.hv X.po.vars hl hne with⟨i,g,v,h1,h2,h3,h4,-,h6⟩|⟨i,g,v,h0,h1,h2,h3,h4,-,h6⟩
  ·rw[h1]
   obtain⟨g1,g2,g3,g4⟩:=gAt (hrb0.sub L.sub) h3
   exact qAG (by omega) ⟨nn,nn,fb,qAd hq 1 1 (by simp),g1,g2,g3,_,g4,PX.ok (hG.trans h6) X.M⟩
  ·rw[h0]
   have X1:=X.le (k:=1) (by omega)
   refine qAw (by decide) ⟨nn,nn,pnn,d.gs,qAd hat 2 1 (by simp[qBE]),(c189 hd.globals).call ⟨_,rfl,?_⟩⟩
   rw[h1]
   refine Tri.mono (c190 X.M (Cx.fit (m:=0) X1)) ?_
   rintro _ V3 ⟨rfl,M3⟩
   obtain⟨gs3,ns3,ls3,nd3,hat3,L3⟩:=M3.ex
   obtain⟨g1,g2,g3,g4⟩:=gAt (L3.glob.rows (fun _=>rfl) (by decide)) (i:=i) (v:=v) h3
   exact⟨rfl,nn,nn,pnn,gs3,qAd hat3 8 1 (by simp[qBE]),g1,g2,g3,_,g4,PX.ok (hG.trans h6) M3⟩
 | @fld _ u a h hk ha hf' =>
  unfold w188
  have h0:e.k[0]?=some a:=by rw[hk];rfl
  have hG:=hG0
  rw[cX5 h,K h0]at hG
  obtain⟨k1,k2,k3,k4⟩:=qEb heV h0
  have hs:=s1' hk
  repeat refine qAw (h ▸ (by decide)) ?_
  refine qAG h ⟨k1,by decide,k3,_,_,_,_,k4,PX.bind hG (kid h0 ha (X.le (by omega))) fun v s1 V1 e1 M1 hG1=>?_⟩
  obtain⟨X1,hv1⟩:=go (k:=1) h0 ha X (by omega) e1 M1
  refine⟨fun hz=>qId (PX.bad ?_ M1),fun hz=>?_⟩
  ·rw[hG1];unfold fldX;rw[if_pos (show v=0 from hz)]
  have hz:¬v=0:=hz
  obtain⟨k,i,j,tt,g,fs,w,rfl,e2,e3,e4,e5,e6,e7,e8,e9,-⟩:=qGQ X1.G hf' hv1 hz
  refine(c191 X.S M1 e2 e3).call ⟨_,rfl,?_⟩
  rw[e6]
  refine Tri.mono (c190 M1 (Cx.fit (m:=0) X1)) ?_
  rintro _ V3 ⟨rfl,M3⟩
  obtain⟨gs3,ns3,ls3,nd3,sl3,hat3,L3,-,hI,n1,n2,n3,n4,m1,m2,m3,m4⟩:=nodeAt M3 (k:=k) (i:=i) e2 e8
  rw[show ((k:Int)+1-1)=(k:Int) by omega]
  refine⟨rfl,nn,nn,pnn,ns3,qAd hat3 9 1 (by simp[qBE]),hI,n1,n2,n3,qAe n1,_,_,n4,m1,m2,m3,_,m4,PX.ok ?_ M3⟩
  rw[hG1]
  unfold fldX
  rw[if_neg hz,show ((k:Int)+1-1).toNat=k by omega,e2]
  simp only
  rw[e5,e6,Int.toNat_natCast,e8];rfl
 | new h hn =>
  unfold w188
  have hG:=hG0.trans (cX6 h)
  repeat refine qAw (h ▸ (by decide)) ?_
  have hnn:=(L.nodes.rows (fun _=>rfl) (by decide)).n_eq
  have hlen:=L.len
  refine qAG h ⟨nn,nn,pnn,ns,qAd hat 9 1 (by simp[qBE]),fun hl=>qId (PX.bad ?_ X.M),fun hl=>?_⟩
  ·have hl:4096<=(ns.n:Int):=hl
   rw[hG];unfold newX;rw[if_pos (by omega)]
  have hl:¬4096<=(ns.n:Int):=hl
  obtain⟨tt,htm,hte⟩:=List.any_eq_true.1 hn
  have hte:tt.name=e.s:=of_decide_eq_true hte
  obtain⟨j,hj⟩:=List.mem_iff_getElem?.1 htm
  have hidx:qDp d e.s=(j:Int):=hte ▸ (qBr (qAt X.G.mem).1).2.1 j tt hj
  have hfo:qAm d (j:Int)=tt.fields:=qBu hj rfl
  refine(c225 X.S X.M).call ⟨_,rfl,?_⟩
  rw[hidx]
  have htn:=hd.types.n_eq
  have hjl:=(List.getElem?_eq_some_iff.1 hj).1
  obtain⟨y,-,hy,-,-,hp,hz,hrow⟩:=hd.types.get (i:=j) (by omega)
  rw[hj]at hy;cases hy
  have hfn:=(hd.typesOk tt htm).fields.n_eq
  have hfl:=(lens12 X.S.valid).2 tt htm
  refine⟨nn,nn,pnn,ns,qAd hat 9 1 (by simp[qBE]),nn,nn,pnn,d.ts,qAd hat 1 1 (by simp[qBE]),hp,hz,by omega,qAe hp,_,_,hrow,mk31 (n:=tt.fs.n) rfl rfl (by omega) fun g hg=>⟨⟨some ⟨g,0,none⟩,tt.fs.n,tt.fs.n⟩,rfl,?_⟩⟩
  obtain⟨V2,hV2⟩:∃V2,V2=V.set g (.cells (madeCells (Value.int .i64 0).cells (tt.fs.n*1)) 3 (0,0)):=⟨_,rfl⟩
  have hown:=own_made hg (n:=tt.fs.n) (by omega)
  rw[<- hV2]at hown ⊢
  have hat2:=hown.sub _ _ hat
  refine⟨qAK hat2 9 0 1 (by simp[qBE]),pnn,nn,nn,qAK hat2 9 0 1 (by simp[qBE]),pnn,nn,nn,fun tb htb=>?_⟩
  refine L.new (n:=⟨(j:Int),⟨some ⟨g,0,none⟩,tt.fs.n,tt.fs.n⟩,List.replicate tt.fs.n 0⟩) hown htb rfl rfl (by omega) fun s3 V3 L3 hk3=>⟨s3,rfl,nn,nn,pnn,?_⟩
  have hat3:=hk3 _ _ hat2 (notBlk hat ntE L.nodes (.inr (.inl rfl)))
  refine StT.at2 (off:=9) hat3 (by simp[qBE]) ?_
  have M4:EM V0 d p F (V3.set p (.cells (qBE d F s.tk c s.cm gs s3 ls).toArray 111 (0,0))) { s with ns:=s.ns++[((j:Int),List.replicate tt.fs.n 0)] } c :=
   ⟨X.M.p0,gs,s3,ls,nd++[_],Mem.set_same _ _ _,L3.put (qBU hat3 ntE) X.M.p0 _⟩
  have hn3:=(L3.nodes.rows (fun _=>rfl) (by decide)).n_eq
  rw[List.length_append,List.length_singleton]at hn3
  show ¬(some (⟨p,0,none⟩:Addr):Option Addr)=none/\_
  refine⟨nn,nn,pnn,s3,qAd mss 9 1 (by simp[qBE]),?_⟩
  rw[show ((s3.n:Nat):Int)=(s.ns.length:Int)+1 by omega]
  have hfit:s.lg.length+1<=2147483648:=Cx.fit (m:=0) (X.le (k:=0+1) (by omega))
  refine Tri.mono (c190 M4 hfit) ?_
  rintro _ V7 ⟨rfl,M7⟩
  obtain⟨gs7,ns7,ls7,nd7,hat7,L7⟩:=M7.ex
  have hn7:=(L7.nodes.rows (fun _=>rfl) (by decide)).n_eq
  have hl7:=L7.len
  have hl7:nd7.length=(s.ns++[((j:Int),List.replicate tt.fs.n 0)]).length:=hl7
  rw[List.length_append,List.length_singleton]at hl7
  refine⟨rfl,nn,nn,pnn,ns7,qAd hat7 9 1 (by simp[qBE]),?_⟩
  rw[show ((ns7.n:Nat):Int)=(s.ns.length:Int)+1 by omega]
  refine PX.ok ?_ M7
  rw[hG];unfold newX
  rw[if_neg (by omega),hidx,hfo,<- hfn];rfl
 | @call pr' i h hc hr =>
  unfold w188
  have hG:=hG0.trans (cX7 h)
  rw[hc.idx]at hG
  repeat refine qAw (h ▸ (by decide)) ?_
  refine qAG h (PX.last hG ?_)
  rw[hf]
  refine callC hR X he hc hv fun a hm u W V' s' hW X' ha=>?_
  exact ih a hm u W V' s' c q pr vals X' (hv.kids a hm) ((he.kids a hm).sub hW) ha
 | @neg a h hk ha =>
  unfold w188
  have h0:e.k[0]?=some a:=by rw[hk];rfl
  have hG:=hG0
  rw[cX8 h,K h0]at hG
  obtain⟨k1,k2,k3,k4⟩:=qEb heV h0
  have hs:=s1' hk
  repeat refine qAw (h ▸ (by decide)) ?_
  refine qAG h ⟨k1,by decide,k3,_,_,_,_,k4,PX.bind hG (kid h0 ha (X.le (by omega))) fun v s1 V1 e1 M1 hG1=>?_⟩
  obtain⟨X1,hv1⟩:=go (k:=1) h0 ha X (by omega) e1 M1
  have:=qBo.1 hv1
  rw[<- Int.zero_sub]at hG1
  exact⟨⟨by omega,by omega⟩,PB.last hG1 M1 c226⟩
 | @not a h hk ha =>
  unfold w188
  have h0:e.k[0]?=some a:=by rw[hk];rfl
  have hG:=hG0
  rw[cX18 h,K h0]at hG
  obtain⟨k1,k2,k3,k4⟩:=qEb heV h0
  have hs:=s1' hk
  repeat refine qAw (h ▸ (by decide)) ?_
  refine qAG h ⟨k1,by decide,k3,_,_,_,_,k4,PX.bind hG (kid h0 ha (X.le (by omega))) fun v s1 V1 e1 M1 hG1=>?_⟩
  obtain⟨X1,hv1⟩:=go (k:=1) h0 ha X (by omega) e1 M1
  have:=qAP.1 hv1
  exact⟨⟨by omega,by omega⟩,PX.ok hG1 M1⟩
 | @log a h hk ha =>
  unfold w188
  have h0:e.k[0]?=some a:=by rw[hk];rfl
  have hG:=hG0
  rw[cX24 h,K h0]at hG
  obtain⟨k1,k2,k3,k4⟩:=qEb heV h0
  have hs:=s1' hk
  repeat refine qAw (h ▸ (by decide)) ?_
  refine qAG h ⟨k1,by decide,k3,_,_,_,_,k4,PX.bind hG (kid h0 ha (X.le (by omega))) fun v s1 V1 e1 M1 hG1=>?_⟩
  obtain⟨X1,hv1⟩:=go (k:=1) h0 ha X (by omega) e1 M1
  have hr:=qBo.1 hv1
  refine GenK.max2 rfl rfl ⟨_,rfl,?_⟩
  obtain⟨w,hw⟩:∃w:Nat,(if (1:Int)<v then v else 1)=(w:Int):=⟨(if (1:Int)<v then v else 1).toNat,by split <;> omega⟩
  rw[hw]
  have hw1:1<=w/\(w:Int)<=1099511627776:=by split at hw <;> omega
  have hb:Nat.log2 w<64:=(Nat.log2_lt (by omega)).2 (by omega)
  have hlen:lenN w=(Nat.log2 w:Int)+1:=by unfold lenN;rw[if_neg (by omega)]
  refine⟨inU _ (by omega),(c227 (by omega)).call ⟨_,rfl,?_⟩⟩
  rw[hlen]
  refine⟨⟨by omega,by omega⟩,PX.ok ?_ M1⟩
  rw[hG1]
  have:logV v=(Nat.log2 w:Int):=by
   unfold logV
   by_cases hv1:1<v
   ·rw[if_pos hv1]at hw;rw[hw,Int.toNat_natCast]
   ·rw[if_neg hv1]at hw
    have:w=1:=by omega
    subst this
    have:v.toNat=0∨v.toNat=1:=by omega
    rcases this with h|h <;> rw[h] <;> rfl
  rw[this,show (Nat.log2 w:Int)+1-1=(Nat.log2 w:Int) by omega]
 | @and a b h hk ha hb =>
  unfold w188
  have h0:e.k[0]?=some a:=by rw[hk];rfl
  have h1:e.k[1]?=some b:=by rw[hk];rfl
  have hG:=hG0
  rw[cX19 h,K h0,K h1]at hG
  obtain⟨k1,k2,k3,k4⟩:=qEb heV h0
  have hs:=s2' hk
  repeat refine qAw (h ▸ (by decide)) ?_
  refine qAG h ⟨k1,by decide,k3,_,_,_,_,k4,PX.bind hG (kid h0 ha (X.le (by omega))) fun v s1 V1 e1 M1 hG1=>?_⟩
  obtain⟨X1,hv1⟩:=go (k:=szE b) h0 ha X (by omega) e1 M1
  obtain⟨l1,l2,l3,l4⟩:=qEb (he.sub M1.sub) h1
  refine⟨fun hz=>PX.ok ?_ M1,fun hz=>⟨l1,by decide,l3,_,_,_,_,l4,PX.last ?_ (kid h1 hb X1)⟩⟩
  ·rw[hG1,if_pos (show v=0 from hz)]
  ·rw[hG1,if_neg (show ¬v=0 from hz)]
 | @or a b h hk ha hb =>
  unfold w188
  have h0:e.k[0]?=some a:=by rw[hk];rfl
  have h1:e.k[1]?=some b:=by rw[hk];rfl
  have hG:=hG0
  rw[cX20 h,K h0,K h1]at hG
  obtain⟨k1,k2,k3,k4⟩:=qEb heV h0
  have hs:=s2' hk
  repeat refine qAw (h ▸ (by decide)) ?_
  refine qAG h ⟨k1,by decide,k3,_,_,_,_,k4,PX.bind hG (kid h0 ha (X.le (by omega))) fun v s1 V1 e1 M1 hG1=>?_⟩
  obtain⟨X1,hv1⟩:=go (k:=szE b) h0 ha X (by omega) e1 M1
  obtain⟨l1,l2,l3,l4⟩:=qEb (he.sub M1.sub) h1
  have hv1:=qAP.1 hv1
  refine⟨fun hz=>PX.ok ?_ M1,fun hz=>⟨l1,by decide,l3,_,_,_,_,l4,PX.last ?_ (kid h1 hb X1)⟩⟩
  ·have hz:v=1:=hz
   rw[hG1,if_neg (by omega)]
  ·have hz:¬v=1:=hz
   rw[hG1,if_pos (by omega)]
 | @cond a b c' _ u w h hk ha hb hc hu hw _ =>
  unfold w188
  have h0:e.k[0]?=some a:=by rw[hk];rfl
  have h1:e.k[1]?=some b:=by rw[hk];rfl
  have h2:e.k[2]?=some c':=by rw[hk];rfl
  have hG:=hG0
  rw[cX21 h,K h0,K h1,K h2]at hG
  obtain⟨k1,k2,k3,k4⟩:=qEb heV h0
  have hs:=s3' hk
  repeat refine qAw (h ▸ (by decide)) ?_
  refine qAG h ⟨k1,by decide,k3,_,_,_,_,k4,PX.bind hG (kid h0 ha (X.le (by omega))) fun v s1 V1 e1 M1 hG1=>?_⟩
  obtain⟨X1,hv1⟩:=go (k:=szE b+szE c') h0 ha X (by omega) e1 M1
  obtain⟨l1,l2,l3,l4⟩:=qEb (he.sub M1.sub) h1
  obtain⟨m1,m2,m3,m4⟩:=qEb (he.sub M1.sub) h2
  have hv1:=qAP.1 hv1
  refine⟨fun hz=>⟨l1,by decide,l3,_,_,_,_,l4,PX.last ?_ (kid h1 hb (X1.le (by omega)))⟩,fun hz=>⟨m1,by decide,m3,_,_,_,_,m4,PX.last ?_ (kid h2 hc (X1.le (by omega)))⟩⟩
  ·have hz:v=1:=hz
   rw[hG1,if_neg (by omega)]
  ·have hz:¬v=1:=hz
   rw[hG1,if_pos (by omega)]
 | @eq a b u w h hk ha hb hf'=>exact two (by omega) hk ha hb fun _ _=>by omega
 | @cmp a b h hk ha hb=>exact two (by omega) hk ha hb fun _ _=>⟨rfl,rfl⟩
 | @ari a b h hk ha hb=>exact two (by omega) hk ha hb fun _ _=>⟨rfl,rfl⟩
end
section
variable{W V0 V V1 V':Mem}{d:Ds}{p F c q:Nat}{s:St}{pr:Pr}{vals:List Int}
theorem MA.poke{ty:Nat}{row:Sl->Sl->Sl->List Value}(h:MA ty V0 p row V s){b:Nat}(hb:V0 b≠none)(o:Obj):MA ty (V0.set b o) p row (V.set b o) s:=by
 obtain⟨gs,ns,ls,nd,hat,L⟩:=h.ex
 have hne:p≠b:=fun e=>hb (e ▸ h.p0)
 exact⟨by rw[Mem.set_ne hne];exact h.p0,gs,ns,ls,nd,by rw[Mem.set_ne hne];exact hat,L.poke hb o⟩
structure FrM (W V0:Mem) (q:Nat) (pr:Pr) (vals:List Int):Prop where
 sub:W.sub V0
 ex:∃a b:Sl,W q=some (.cells #[a.v,b.v] 187 (0,0))/\qAc W a 2 (pr.vars.map Fld.row)/\Sx.Own W V0 3 1 b (vals.flatMap qAn)
theorem FrM.fv(h:FrM W V0 q pr vals):Fv V0 q pr vals:=by
 obtain⟨a,b,h1,h2,h3⟩:=h.ex
 exact⟨a,b,h.sub _ _ h1,h2.sub h.sub,h3.rows (fun _=>rfl) (by decide)⟩
theorem frStore{b:Sl}(own:Sx.Own W V0 3 1 b (vals.flatMap qAn))(M:EM V0 d p F V s c){i:Nat}(hi:i<vals.length){v:Int}{Q:Mem->Prop}
  (hQ:∀V0' V',Sx.Own W V0' 3 1 b ((vals.set i v).flatMap qAn)->EM V0' d p F V' s c->Q V'):StT (qAa b.p (i*1)) 0 [.int .i64 v] V Q:=by
 rw[Nat.mul_one]
 rcases own.cases0 with⟨h1,h2,h3⟩|⟨hc,g,cur,h1,h2,h3,h4,h5,h6,h7⟩
 ·rw[qBk]at h3
  have:vals=[]:=by simpa using h3
  rw[this]at hi;simp at hi
 have hle:b.n*1<=b.c*1:=Nat.mul_le_mul_right _ h4
 have hn:=own.len
 rw[qBk,List.length_map]at hn
 have hg0:V0 g≠none:=by rw[h3];simp
 rw[h1]
 have e:(cur.toList.take i++[Value.int .i64 v]++cur.toList.drop (i+1))=cur.toList.set i (.int .i64 v):=qCx _ _ _ (by simp;omega)
 refine StT.at2 (off:=i) (M.sub _ _ h3) (by simp;omega) (hQ (V0.set g _) _ ⟨own.sub.set h2 _,?_,.inr ⟨g,_,h1,h2,Mem.set_same _ _ _,h4,h5,?_,?_⟩⟩ (M.poke hg0 _))
 ·rw[qBk,List.length_map,List.length_set];exact hn
 ·rw[show i+[Value.int .i64 v].length=i+1 from rfl,e];simp[h6]
 ·rw[show i+[Value.int .i64 v].length=i+1 from rfl,e]
  show (cur.toList.set i (.int .i64 v)).take (b.n*1)=_
  rw[List.take_set,h7,qBk,qBk,List.map_set]
def PS(W:Mem)(d:Ds)(p F c q:Nat)(pr:Pr)(r:Rx Rt):Ending->Mem->Prop:=fun e V'=>match r with
 | .ok rt s=>e=.returned (.agg #[.bool rt.2.isSome,.int .i64 (rt.2.getD 0)])/\∃V0',FrM W V0' q pr rt.1/\EM V0' d p F V' s c
 | .bad k s=>e=fltE k/\∃c',EM W d p F V' s c'
theorem PS.bind{f:FuncId}{args:Array Value}{r:Rx Int}{G:Rx Rt}{h:Int->St->Rx Rt}{K:Int->Mem->Prop}(hW:W.sub V0)(hG:G=r.bind h)(H:Tri Tryz.prog f args V (PX V0 d p F c r))(ho:∀v s V',r=.ok v s->EM V0 d p F V' s c->G=h v s->K v V') :
  Tri Tryz.prog f args V fun e V'=>(∃v,e=.returned (.int .i64 v)/\K v V')∨∃ch,e=.panicked ch/\PS W d p F c q pr G e V' :=
 PX.split H (fun k s c' V' e hm=>by subst e;rw[hG];exact⟨rfl,c',hm.narrow hW⟩) fun v s V' e hm=>ho v s V' e hm (by rw[hG,e];rfl)
theorem PS.ok{G:Rx Rt}{rt:Rt}(hG:G=.ok rt s)(hf:FrM W V0 q pr rt.1)(M:EM V0 d p F V s c){b:Bool}{v:Int}(hb:b=rt.2.isSome)(hv:v=rt.2.getD 0):PS W d p F c q pr G (.returned (.agg #[.bool b,.int .i64 v])) V:=by
 rw[hG,hb,hv];exact⟨rfl,V0,hf,M⟩
theorem PS.bad{G:Rx Rt}{k:Int}(hG:G=.bad k s)(hW:W.sub V0)(M:EM V0 d p F V s c):PS W d p F c q pr G (fltE k) V:=by rw[hG];exact⟨rfl,c,M.narrow hW⟩
theorem PS.split{f:FuncId}{args:Array Value}{r:Rx Rt}{K:Bool->Int->Mem->Prop}{R:Ending->Mem->Prop}(H:Tri Tryz.prog f args V (PS W d p F c q pr r))(hb:∀k s c' V',r=.bad k s->EM W d p F V' s c'->R (fltE k) V')(ho:∀rt s V0' V',r=.ok rt s->FrM W V0' q pr rt.1->EM V0' d p F V' s c->K rt.2.isSome (rt.2.getD 0) V') :
  Tri Tryz.prog f args V fun e V'=>(∃b v,e=.returned (.agg #[.bool b,.int .i64 v])/\K b v V')∨∃ch,e=.panicked ch/\R e V' :=
 Tri.mono H fun e V' h=>by
  cases r with
  | ok rt s=>obtain⟨h1,V0',h2,h3⟩:=h;exact .inl ⟨_,_,h1,ho rt s V0' V' rfl h2 h3⟩
  | bad k s =>
   obtain⟨he,c',hm⟩:=h
   subst he
   exact .inr ⟨_,rfl,hb k s c' V' rfl hm⟩
structure Sx1 (W V0:Mem) (d:Ds) (p F c q:Nat) (pr:Pr) (vals:List Int) (n m:Nat) (V:Mem) (s:St):Prop where
 S:ES W d F
 fr:FrM W V0 q pr vals
 po:qCP d pr
 G:qAo d s.mm
 hv:qAf d s.mm pr.vars vals=true
 M:EM V0 d p F V s c
 tk:s.tk<=F
 n:F<n+s.tk
 w:BW m s
theorem Sx1.cx{n m:Nat}(X:Sx1 W V0 d p F c q pr vals n m V s):Cx V0 d p F c q pr vals n m V s:=⟨X.S.sub X.fr.sub,X.fr.fv,X.po,X.G,X.hv,X.M,X.tk,X.n,X.w⟩
theorem Sx1.next{n m k:Nat}{V0':Mem}{vals':List Int}{s':St}(X:Sx1 W V0 d p F c q pr vals n (m+k) V s)(g:Gr F m s s')(G:qAo d s'.mm)(hf:FrM W V0' q pr vals')(hv:qAf d s'.mm pr.vars vals'=true)(M:EM V0' d p F V' s' c):Sx1 W V0' d p F c q pr vals' n k V' s' :=
 ⟨X.S,hf,X.po,G,hv,M,g.fu X.tk,by have:=g.tk;have:=X.n;omega,X.w.next g⟩
theorem Sx1.le{n m k:Nat}(X:Sx1 W V0 d p F c q pr vals n m V s)(h:k<=m):Sx1 W V0 d p F c q pr vals n k V s:=⟨X.S,X.fr,X.po,X.G,X.hv,X.M,X.tk,X.n,X.w.le h⟩
variable(d p F) in
def SC(n:Nat):Prop:=∀(l:List S) (W V0 V:Mem) (s:St) (c q:Nat) (pr:Pr) (vals:List Int) (sl:Sl),Sx1 W V0 d p F c q pr vals n 0 V s->(∀x∈l,TyS d pr x)->(∀x∈l,S.Ok W x)->qAc W sl 5 (l.map S.row) ->
 Tri Tryz.prog 100 #[pv p,pv q,sl.v] V (PS W d p F c q pr (qFg d F n c pr l vals s))
variable(d p F) in
def StC(n:Nat):Prop:=∀(x:S) (W V0 V:Mem) (s:St) (c q:Nat) (pr:Pr) (vals:List Int),Sx1 W V0 d p F c q pr vals (n+1) 0 V s->TyS d pr x->S.Ok W x ->
 Tri Tryz.prog 138 #[pv p,pv q,x.v] V (PS W d p F c q pr (stX d F (qFg d F n) c pr (n+1) x vals s))
theorem stsC{n:Nat}(H:StC d p F n):SC d p F (n+1):=by
 intro l W V0 V s c q pr vals sl X hty hok hrows
 obtain⟨f,hf⟩:∃f,f=stX d F (qFg d F n) c pr (n+1):=⟨_,rfl⟩
 obtain⟨G,hG⟩:∃G:Rx Rt,G=qFx f l vals s:=⟨_,rfl⟩
 show Tri _ _ _ _ (PS W d p F c q pr (qFx (stX d F (qFg d F n) c pr (n+1)) l vals s))
 rw[<- hf,<- hG]
 refine Tri.mono (x100 (R:=PS W d p F c q pr G) ?_) fun _ _ h=>h
 unfold w100
 refine qHw l.length (fun i V1=>∃V0' vals' s',Sx1 W V0' d p F c q pr vals' (n+1) 0 V1 s'/\G=qFx f (l.drop i) vals' s') ⟨V0,vals,s,X,hG⟩ ?_
 rintro i V1 J hi ⟨V0',vals',s',X',hG'⟩ hJ
 have hr:=hrows.sub (X'.fr.sub.trans X'.M.sub)
 refine⟨fun hlt=>?_,fun hge=>?_⟩
 ·obtain⟨x,hxm,hx,hdr,hil,hp,hz,hrow⟩:=hr.get hlt
  rw[S.row_eq]at hrow
  rw[hdr]at hG'
  have hG2:G=(f x vals' s').bind fun r st=>match r.2 with|some _=>.ok r st|none=>qFx f (l.drop (i+1)) r.1 st:=hG'
  have P:=st_snd (F:=F) (c:=c) (n:=n+1) X'.S.procs (qFT X'.S.procs n) X'.po (hty x hxm) X'.G X'.hv
  have Hx:=H x W V0' V1 s' c q pr vals' X' (hty x hxm) (hok x hxm)
  rw[<- hf]at Hx P
  rw[show x.v=.agg #[.int .i64 x.op,.string x.s,.slice x.el.p x.el.n x.el.c,.slice x.ll.p x.ll.n x.ll.c,.slice x.xl.p x.xl.n x.xl.c] by unfold S.v;rw[S.row_eq];rfl]at Hx
  refine⟨hp,hz,hlt,_,_,_,_,_,hrow,PS.split Hx (fun k s2 c' V2 e2 M2=>?_) fun rt s2 V0'' V2 e2 hf2 M2=>?_⟩
  ·rw[hG2,e2];exact⟨rfl,c',M2⟩
  obtain⟨G2,g2,q2⟩:=P.got e2
  rw[e2]at hG2
  cases hrt:rt.2 with
  | some v =>
   have hG3:G=.ok rt s2:=by rw[hG2];show (match rt.2 with|some _=>_|none=>_)=_;rw[hrt]
   exact⟨fun _=>PS.ok hG3 hf2 M2 (by rw[hrt]) (by rw[hrt]),fun h=>absurd rfl h⟩
  | none =>
   have hG3:G=qFx f (l.drop (i+1)) rt.1 s2:=by rw[hG2];show (match rt.2 with|some _=>_|none=>_)=_;rw[hrt]
   exact⟨(fun h=>by cases h),fun _=>⟨hr.succ hlt,hJ hil _ ⟨V0'',rt.1,s2,X'.next (m:=0) g2 G2 hf2 q2.1 M2,hG3⟩⟩⟩
 ·rw[(hr.done hge).1]at hG'
  exact PS.ok hG' X'.fr X'.M rfl rfl
end
section
variable{W V0 V V1 V':Mem}{d:Ds}{p F c q:Nat}{s:St}{pr:Pr}{vals:List Int}
theorem esAt{x:S}(h:S.Ok V x){i:Nat}{a:E}(ha:x.es[i]?=some a):¬x.el.p=none/\(i:Int)<(x.el.n:Int)/\V.rowp x.el.p (i*4) 4=some [.int .i64 a.op,.int .i64 a.n,.string a.s,.slice a.l.p a.l.n a.l.c]:=by
 have hr:=h.eRows
 have hn:=hr.n_eq
 have hl:=(List.getElem?_eq_some_iff.1 ha).1
 obtain⟨y,-,hy,-,hl2,hp,hz,hrow⟩:=hr.get (i:=i) (by omega)
 rw[ha]at hy;cases hy
 exact⟨hp,by omega,hrow⟩
theorem tickX_ok(h:s.tk<F):qIS F s=.ok () { s with tk:=s.tk+1 }:=by unfold qIS;rw[if_neg (by omega)]
theorem tickX_bad(h:F<=s.tk):qIS F s=.bad 20 s:=by unfold qIS;rw[if_pos h]
theorem Sx1.tick{n:Nat}(X:Sx1 W V0 d p F c q pr vals (n+1) 0 V s)(h:s.tk<F)(M:EM V0 d p F V' { s with tk:=s.tk+1 } c):Sx1 W V0 d p F c q pr vals n 4000 V' { s with tk:=s.tk+1 } :=
 ⟨X.S,X.fr,X.po,⟨X.G.valid,X.G.chk,X.G.mem⟩,X.hv,M,h,by have:=X.n;show F<n+(s.tk+1);omega,by have:=X.w;unfold BW at *;show s.lg.length+s.cm+4000<=4000*(s.tk+1);omega⟩
theorem Sx1.tick'{n:Nat}(X:Sx1 W V0 d p F c q pr vals n 0 V s)(h:s.tk<F)(M:EM V0 d p F V' { s with tk:=s.tk+1 } c):Sx1 W V0 d p F c q pr vals n 4000 V' { s with tk:=s.tk+1 } :=
 ⟨X.S,X.fr,X.po,⟨X.G.valid,X.G.chk,X.G.mem⟩,X.hv,M,h,by have:=X.n;show F<n+(s.tk+1);omega,by have:=X.w;unfold BW at *;show s.lg.length+s.cm+4000<=4000*(s.tk+1);omega⟩
theorem stC{n:Nat}(hE:ExprC d p F n)(hS:SC d p F n)(hR:CallC d p F n):StC d p F n:=by
 intro x W V0 V s c q pr vals X hty hok
 obtain⟨G,hG0⟩:∃G:Rx Rt,G=stX d F (qFg d F n) c pr (n+1) x vals s:=⟨_,rfl⟩
 rw[<- hG0]
 refine Tri.mono ((show x.v=.agg #[.int .i64 x.op,.string x.s,.slice x.el.p x.el.n x.el.c,.slice x.ll.p x.ll.n x.ll.c,.slice x.xl.p x.xl.n x.xl.c] by unfold S.v;rw[S.row_eq];rfl) ▸ x138 (R:=PS W d p F c q pr G) ?_) fun _ _ h=>h
 unfold w138
 have hF:=X.S.fuel
 refine Tri.mono (c187 hF X.M) ?_
 rintro e1 V1 (⟨hlt,rfl,M1⟩|⟨hge,rfl,rfl⟩)
 rotate_left
 ·refine .inr ⟨_,rfl,PS.bad (s:=s) ?_ X.fr.sub X.M⟩
  rw[hG0];unfold stX;rw[tickX_bad hge];rfl
 refine .inl ⟨rfl,?_⟩
 obtain⟨s1,hs1⟩:∃s1:St,s1={ s with tk:=s.tk+1 }:=⟨_,rfl⟩
 have X1:Sx1 W V0 d p F c q pr vals n 4000 V1 s1:=by rw[hs1];exact X.tick hlt M1
 have hG:G=bodyX d F (qFg d F n) c pr (n+1) x vals s1:=by rw[hG0];unfold stX;rw[tickX_ok hlt,hs1];rfl
 have hcs:=qFT (F:=F) X.S.procs n
 have okV:∀{V2:Mem} {V0':Mem},W.sub V0'->V0'.sub V2->S.Ok V2 x:=fun h1 h2=>hok.sub (h1.trans h2)
 -- an expression of the statement
 have ex:∀{i:Nat} {a:E} {u:ByteArray} {V2 V0':Mem} {vals':List Int} {s2:St} {m:Nat},x.es[i]?=some a->qAJ a=true->qAl d (qAh d pr) a=(u,0)->Sx1 W V0' d p F c q pr vals' n m V2 s2->1000<=m ->
   Tri Tryz.prog 188 #[pv p,pv q,.agg #[.int .i64 a.op,.int .i64 a.n,.string a.s,.slice a.l.p a.l.n a.l.c]] V2 (PX V0' d p F c (evS d (qFg d F n) c pr vals' a s2)):=fun {i a u V2 V0' vals' s2 m} h0 hv ha X2 hm=>by
  have hp:=qBX hv
  exact hE a u V0' V2 s2 c q pr vals' (X2.cx.le (by omega)) hp.1 ((hok.eOk a (List.mem_of_getElem? h0)).sub X2.fr.sub) ha
 have go:∀{a:E} {u:ByteArray} {V2 V3 V0':Mem} {vals':List Int} {s2 s3:St} {m:Nat} {v:Int},qAJ a=true->qAl d (qAh d pr) a=(u,0)->Sx1 W V0' d p F c q pr vals' n (1000+m) V2 s2->evS d (qFg d F n) c pr vals' a s2=.ok v s3->EM V0' d p F V3 s3 c ->
   Sx1 W V0' d p F c q pr vals' n m V3 s3/\qBC d s3.mm u v/\Gr F 1000 s2 s3:=fun {a u V2 V3 V0' vals' s2 s3 m v} hv ha X2 e M3=>by
  obtain⟨G3,g3,q3⟩:=(qEU (F:=F) (c:=c) X2.S.procs hcs X2.po hv ha X2.G X2.hv).got e
  exact⟨X2.next g3 G3 X2.fr (qAg (fun h=>g3.right h) X2.hv) M3,q3,g3⟩
 unfold bodyX at hG
 cases kindS hty with
 | @set a u t h he hv ht hl hne hf =>
  rw[if_pos h,he,List.getD_cons_zero]at hG
  have h0:x.es[0]?=some a:=by rw[he];rfl
  obtain⟨k1,k3,k4⟩:=esAt (okV X1.fr.sub X1.M.sub) h0
  refine qAG h ⟨k1,by decide,k3,_,_,_,_,k4,PS.bind X1.fr.sub hG (ex h0 hv ht X1 (by omega)) fun v s2 V2 e2 M2 hG2=>?_⟩
  obtain⟨X2,hv2,-⟩:=go (m:=3000) hv ht X1 e2 M2
  obtain⟨fa,fb,hq0,hra0,hrb0⟩:=X2.fr.ex
  have hW2:=X2.fr.sub.trans X2.M.sub
  have hq:=hW2 _ _ hq0
  refine⟨nn,nn,fa,qAd hq 0 1 (by simp),(c189 (hra0.sub hW2)).call ⟨_,rfl,?_⟩⟩
  unfold setX at hG2
  rcases qHa X2.G X2.hv X2.po.vars hl hne with⟨i,g,w,h1,h2,h3,h4,-⟩|⟨i,g,w,h0',h1,h2,h3,h4,-⟩
  ·rw[h1]
   rw[if_pos (by omega),h1,Int.toNat_natCast]at hG2
   have hil:=(List.getElem?_eq_some_iff.1 h3).1
   have hbn:=((hrb0.rows (fun _=>rfl) (by decide):qAc V0 fb 1 (vals.map qAn))).n_eq
   obtain⟨g1,g2,g3,-⟩:=gAt (hrb0.rows (fun _=>rfl) (by decide)) h3
   refine qAG (by omega) ⟨nn,nn,fb,qAd hq 1 1 (by simp),g1,g2,g3,frStore hrb0 M2 hil fun V0' V' ho M'=>?_⟩
   exact PS.ok hG2 ⟨ho.sub,fa,fb,hq0,hra0,ho⟩ M' rfl rfl
  ·rw[h0']
   rw[if_neg (by omega),h1,Int.toNat_natCast]at hG2
   obtain⟨gs,ns,ls,nd,hat,L⟩:=M2.ex
   have hd:=(X2.S.sub X2.fr.sub).ds.sub L.sub
   refine qAw (by decide) ⟨nn,nn,pnn,d.gs,qAd hat 2 1 (by simp[qBE]),(c189 hd.globals).call ⟨_,rfl,?_⟩⟩
   rw[h1]
   refine Tri.mono (c190 M2 (Cx.fit (m:=0) (X2.cx.le (by omega)))) ?_
   rintro _ V5 ⟨rfl,M5⟩
   obtain⟨gs5,ns5,ls5,nd5,hat5,L5⟩:=M5.ex
   obtain⟨g1,g2,g3,-⟩:=gAt (L5.glob.rows (fun _=>rfl) (by decide)) (i:=i) (v:=w) h3
   have hil:=(List.getElem?_eq_some_iff.1 h3).1
   refine⟨rfl,nn,nn,pnn,gs5,qAd hat5 8 1 (by simp[qBE]),g1,g2,g3,L5.setG (i:=i) hil fun V6 L6 hk6=>?_⟩
   refine PS.ok hG2 X2.fr (V0:=V0) (MA.mk M5.p0 ⟨gs5,ns5,ls5,nd5,?_,L6⟩) rfl rfl
   rw[hk6 _ (notBlk hat5 ntE L5.glob (.inl rfl))];exact hat5
 | @put a b u w t h he hv hw ha ht hl hf =>
  rw[if_neg (by omega),if_pos h,he,List.getD_cons_zero,List.getD_cons_succ,List.getD_cons_zero]at hG
  have h0:x.es[0]?=some a:=by rw[he];rfl
  have h1:x.es[1]?=some b:=by rw[he];rfl
  obtain⟨k1,k3,k4⟩:=esAt (okV X1.fr.sub X1.M.sub) h0
  refine qAw (by omega) (qAG h ⟨k1,by decide,k3,_,_,_,_,k4,PS.bind X1.fr.sub hG (ex h0 hv ha X1 (by omega)) fun v s2 V2 e2 M2 hG2=>?_⟩)
  obtain⟨X2,hv2,-⟩:=go (m:=3000) hv ha X1 e2 M2
  obtain⟨l1,l3,l4⟩:=esAt (okV X2.fr.sub X2.M.sub) h1
  refine⟨l1,by decide,l3,_,_,_,_,l4,PS.bind X2.fr.sub hG2 (ex h1 hw ht X2 (by omega)) fun y s3 V3 e3 M3 hG3=>?_⟩
  obtain⟨X3,hv3,g3⟩:=go (m:=2000) hw ht X2 e3 M3
  have hv2:=g3.val hv2
  refine⟨fun hz=>qId (PS.bad (s:=s3) ?_ X3.fr.sub M3),fun hz=>?_⟩
  ·rw[hG3];unfold putX;rw[if_pos (show v=0 from hz)];rfl
  have hz:¬v=0:=hz
  obtain⟨k,i,j,tt,g,fs,z,rfl,f2,f3,f4,f5,f6,f7,f8,-⟩:=qGQ X3.G hl hv2 hz
  have hG4:G=.ok (vals,none) { s3 with ns:=s3.ns.set k ((j:Int),fs.set i y),lg:=s3.lg++[(2,(k:Int)+1,(i:Int))] }:=by
   rw[hG3];unfold putX
   rw[if_neg hz,show ((k:Int)+1-1).toNat=k by omega,f2]
   simp only
   rw[f5,f6,Int.toNat_natCast];rfl
  refine(c191 (X3.S.sub X3.fr.sub) M3 f2 f3).call ⟨_,rfl,?_⟩
  rw[f6]
  refine Tri.mono (c190 M3 (Cx.fit (m:=0) (X3.cx.le (by omega)))) ?_
  rintro _ V5 ⟨rfl,M5⟩
  obtain⟨gs5,ns5,ls5,nd5,sl5,hat5,L5,hnd5,hI,n1,n2,n3,n4,m1,m2,m3,m4⟩:=nodeAt M5 (k:=k) (i:=i) f2 f8
  have hil:=(List.getElem?_eq_some_iff.1 f8).1
  rw[show ((k:Int)+1-1)=(k:Int) by omega]
  refine⟨rfl,nn,nn,pnn,ns5,qAd hat5 9 1 (by simp[qBE]),hI,n1,n2,n3,qAe n1,_,_,n4,m1,m2,m3,L5.setF hnd5 hil fun V6 L6 hk6=>?_⟩
  refine PS.ok hG4 X3.fr (V0:=V0) (MA.mk M5.p0 ⟨gs5,ns5,ls5,_,?_,L6⟩) rfl rfl
  rw[hk6 _ (notBlk hat5 ntE (L5.fld _ (List.mem_of_getElem? hnd5)) (.inl rfl))];exact hat5
 | @cond a h he hv ht =>
  rw[if_neg (by omega),if_neg (by omega),if_pos h,he,List.getD_cons_zero]at hG
  have h0:x.es[0]?=some a:=by rw[he];rfl
  obtain⟨k1,k3,k4⟩:=esAt (okV X1.fr.sub X1.M.sub) h0
  obtain⟨-,-,-,hlt1,hlt2⟩:=hty.parts
  refine qAw (by omega) (qAw (by omega) (qAG h ⟨k1,by decide,k3,_,_,_,_,k4,PS.bind X1.fr.sub hG (ex h0 hv ht X1 (by omega)) fun v s2 V2 e2 M2 hG2=>?_⟩))
  obtain⟨X2,hv2,-⟩:=go (m:=3000) hv ht X1 e2 M2
  have hv2:=qAP.1 hv2
  have fin:∀{l:List S} {sl:Sl},(∀y∈l,TyS d pr y)->(∀y∈l,S.Ok W y)->qAc W sl 5 (l.map S.row)->G=qFg d F n c pr l vals s2->Tri Tryz.prog 100 #[pv p,pv q,.slice sl.p sl.n sl.c] V2 fun e' V'=>(∃b v,e'=.returned (.agg #[.bool b,.int .i64 v])/\PS W d p F c q pr G (.returned (.agg #[.bool b,.int .i64 v])) V')∨∃ch,e'=.panicked ch/\PS W d p F c q pr G e' V':=fun {l sl} t1 t2 t3 hGl =>
   PS.split (hS l W V0 V2 s2 c q pr vals sl (X2.le (by omega)) t1 t2 t3) (fun k s3 c' V3 e3 M3=>by rw[hGl,e3];exact⟨rfl,c',M3⟩) fun rt s3 V0' V3 e3 hf3 M3=>PS.ok (hGl.trans e3) hf3 M3 rfl rfl
  refine⟨fun hz=>fin hlt1 hok.lOk hok.lRows ?_,fun hz=>fin hlt2 hok.xOk hok.xRows ?_⟩
  ·have hz:v=1:=hz
   rw[hG2,if_neg (by omega)]
  ·have hz:¬v=1:=hz
   rw[hG2,if_pos (by omega)]
 | @loop a h he hv ht =>
  rw[if_neg (by omega),if_neg (by omega),if_neg (by omega),if_pos h,he,List.getD_cons_zero]at hG
  have h0:x.es[0]?=some a:=by rw[he];rfl
  obtain⟨-,-,-,hlt1,-⟩:=hty.parts
  refine qAw (by omega) (qAw (by omega) (qAw (by omega) (qAG h ?_)))
  refine⟨fun m xs V2=>xs=[]/\∃V0' vals' s',Sx1 W V0' d p F c q pr vals' n 1000 V2 s'/\F<m+s'.tk/\G=whX d F (qFg d F n) c pr a x.ls m vals' s',n+1,⟨rfl,V0,vals,s1,X1.le (by omega),by have:=X1.n;omega,hG⟩,?_⟩
  rintro m V2 ⟨-,V0',vals',s',X',hm,hG'⟩ J hJ
  obtain⟨m,rfl⟩:∃m',m=m'+1:=⟨m-1,by have:=X'.tk;omega⟩
  rw[whX]at hG'
  obtain⟨k1,k3,k4⟩:=esAt (okV X'.fr.sub X'.M.sub) h0
  refine⟨k1,by decide,k3,_,_,_,_,k4,PS.bind X'.fr.sub hG' (ex h0 hv ht X' (by omega)) fun v s2 V3 e2 M2 hG2=>?_⟩
  obtain⟨X2,hv2,g2⟩:=go (m:=0) hv ht X' e2 M2
  have hv2:=qAP.1 hv2
  refine⟨fun hz=>?_,fun hz=>?_⟩
  rotate_left
  ·have hz:¬v=1:=hz
   rw[if_pos (by omega)]at hG2
   exact PS.ok hG2 X2.fr X2.M rfl rfl
  have hz:v=1:=hz
  rw[if_neg (by omega)]at hG2
  have P:=hcs c pr x.ls vals' s2 X2.po hlt1 X2.G X2.hv
  refine PS.split (hS x.ls W V0' V3 s2 c q pr vals' x.ll X2 hlt1 hok.lOk hok.lRows) (fun k s3 c' V4 e3 M3=>?_) fun rt s3 V0'' V4 e3 hf3 M3=>?_
  ·rw[hG2,e3];exact⟨rfl,c',M3⟩
  obtain⟨G3,g3,q3⟩:=P.got e3
  have X3:=X2.next (m:=0) (k:=0) g3 G3 hf3 q3.1 M3
  rw[e3]at hG2
  cases hrt:rt.2 with
  | some z =>
   have hG3:G=.ok rt s3:=by rw[hG2];show (match rt.2 with|some _=>_|none=>_)=_;rw[hrt]
   exact⟨fun _=>PS.ok hG3 hf3 M3 (by rw[hrt]) (by rw[hrt]),fun h=>absurd rfl h⟩
  | none =>
   have hG3:G=(qIS F s3).bind fun _ st=>whX d F (qFg d F n) c pr a x.ls m rt.1 st:=by rw[hG2];show (match rt.2 with|some _=>_|none=>_)=_;rw[hrt]
   refine⟨(fun h=>by cases h),fun _=>Tri.mono (c187 hF M3) ?_⟩
   rintro e4 V5 (⟨hlt',rfl,M5⟩|⟨hge,rfl,rfl⟩)
   ·refine .inl ⟨rfl,hJ m _ _ (by omega) ⟨rfl,V0'',rt.1,{ s3 with tk:=s3.tk+1 },(X3.tick' hlt' M5).le (by omega),?_,by rw[hG3,tickX_ok hlt'];rfl⟩⟩
    have:=g2.tk;have:=g3.tk
    show F<m+(s3.tk+1);omega
   ·exact .inr ⟨_,rfl,PS.bad (s:=s3) (by rw[hG3,tickX_bad hge];rfl) hf3.sub M3⟩
 | ret0 h he hr =>
  rw[if_neg (by omega),if_neg (by omega),if_neg (by omega),if_neg (by omega),if_pos h,he]at hG
  have hn:=(okV X1.fr.sub X1.M.sub).eRows.n_eq
  rw[he]at hn
  refine qAw (by omega) (qAw (by omega) (qAw (by omega) (qAw (by omega) (qAG h (qAG (by rw[hn];rfl) ?_)))))
  exact PS.ok hG X1.fr X1.M rfl rfl
 | @ret1 a u h he hv ht hr hf =>
  rw[if_neg (by omega),if_neg (by omega),if_neg (by omega),if_neg (by omega),if_pos h,he]at hG
  have h0:x.es[0]?=some a:=by rw[he];rfl
  obtain⟨k1,k3,k4⟩:=esAt (okV X1.fr.sub X1.M.sub) h0
  refine qAw (by omega) (qAw (by omega) (qAw (by omega) (qAw (by omega) (qAG h (qAw (by omega) ⟨k1,by decide,k3,_,_,_,_,k4,PS.bind X1.fr.sub hG (ex h0 hv ht X1 (by omega)) fun v s2 V2 e2 M2 hG2=>?_⟩)))))
  exact PS.ok hG2 X1.fr M2 rfl rfl
 | @call a pr' i h he hv ho hc =>
  rw[if_neg (by omega),if_neg (by omega),if_neg (by omega),if_neg (by omega),if_neg (by omega),if_pos h,he,List.getD_cons_zero]at hG
  unfold evS at hG
  rw[evX_eq,cX7 ho,hc.idx]at hG
  have h0:x.es[0]?=some a:=by rw[he];rfl
  obtain⟨k1,k3,k4⟩:=esAt (okV X1.fr.sub X1.M.sub) h0
  have hp:=qBX hv
  have hea:=hok.eOk a (List.mem_of_getElem? h0)
  refine qAw (by omega) (qAw (by omega) (qAw (by omega) (qAw (by omega) (qAw (by omega) (qAG h ⟨k1,by decide,k3,_,_,_,_,k4,PS.bind X1.fr.sub hG (callC hR (X1.cx.le (by omega)) (hea.sub X1.fr.sub) hc hp.1 fun b hb u W' V2 s2 hW' X2 ht=>?_) fun v s2 V2 e2 M2 hG2=>?_⟩)))))
  ·exact hE b u W' V2 s2 c q pr vals X2 (hp.1.kids b hb) (((hea.sub X1.fr.sub).kids b hb).sub hW') ht
  ·exact PS.ok hG2 X1.fr M2 rfl rfl
end
theorem own_zero{V0 V:Mem}{e:TypeId}{sz:Nat}{s:Sl}{vs:List Value}(h:Sx.Own V0 V e sz s vs):Sx.Own V0 V e sz ⟨s.p,0,s.c⟩ []:=⟨h.sub,by simp,by
 rcases h.at_ with⟨h1,h2,h3⟩|⟨g,cur,h1,h2,h3,h4,h5,h6,h7⟩
 ·exact .inl ⟨rfl,h2,rfl⟩
 ·exact .inr ⟨g,cur,h1,h2,h3,Nat.zero_le _,h5,h6,by simp⟩⟩
theorem own_to{V0 V V0' V':Mem}{e:TypeId}{sz:Nat}{s:Sl}{vs:List Value}(h:Sx.Own V0 V e sz s vs)(hs:V0'.sub V')(hk:∀g o,Blk s g->V0 g=none->V g=some o->V0' g=none/\V' g=some o):Sx.Own V0' V' e sz s vs:=⟨hs,h.len,by
 rcases h.cases0 with h1|⟨hc,g,cur,h1,h2,h3,h4⟩
 ·exact .inl h1
 ·exact .inr ⟨g,cur,h1,(hk g _ ⟨hc,h1⟩ h2 h3).1,(hk g _ ⟨hc,h1⟩ h2 h3).2,h4⟩⟩
theorem own_p0{V0 V:Mem}{e:TypeId}{sz:Nat}{s:Sl}{vs:List Value}(h:Sx.Own V0 V e sz s vs)(hc:s.c≠0)(m:Nat):qAa s.p (0*m)=s.p:=by
 rw[Nat.zero_mul]
 rcases h.at_ with⟨h1,h2,h3⟩|⟨g,cur,h1,-⟩
 ·exact absurd h2 hc
 ·rw[h1];rfl
theorem az31{V0 V:Mem}{ty:TypeId}{x y:Operand}{vals:Operand->Value}{s:Sl}{n:Nat}{vs:List Int}(hx:vals x=.slice s.p s.n s.c)(hy:vals y=.int .i64 n)(own:Sx.Own V0 V 3 1 s (vs.flatMap qAn))(hfit:s.n+n<=2147483648){q:Value->Mem->Prop}
  (hq:∀(s':Sl) V',Sx.Own V0 V' 3 1 s' ((vs++List.replicate n (0:Int)).flatMap qAn)->q (.slice s'.p s'.n s'.c) V'):GenK Tryz.prog (.call { callee:=.builtin .append,args:=#[x,y],argTypes:=#[31,3] }) ty vals V q :=
 Go.Sx.GenK.appendZ (z:=.int .i64 0) (i:=ti 3) (k:=.i64) Tryz.underlying31 Tryz.underlying3 (by kernel_rfl) (by kernel_rfl) (by kernel_rfl) (by kernel_rfl) (by decide) (of_decide_eq_true (by kernel_rfl)) (fun u hu=>by
  have hc:(Value.int .i64 0).cells=#[Value.int .i64 0]:=by simp[Value.cells]
  rw[hc]at hu;simp at hu;subst hu;rfl) hx hy own hfit fun s' V' h=>hq s' V' (by
  rw[List.flatMap_append]
  have e:(List.replicate n (0:Int)).flatMap qAn=(Builtin.zeroCells (Value.int .i64 0).cells n).toList:=by rw[qIP,qBk,List.map_replicate]
  rw[e];exact h)
theorem az23{V0 V:Mem}{ty:TypeId}{x y:Operand}{vals:Operand->Value}{s:Sl}{n:Nat}{vs:List Value}(hx:vals x=.slice s.p s.n s.c)(hy:vals y=.int .i64 n)(own:Sx.Own V0 V 113 2 s vs)(hfit:s.n+n<=2147483648){q:Value->Mem->Prop}
  (hq:∀(s':Sl) V' ws,Sx.Own V0 V' 113 2 s' ws->q (.slice s'.p s'.n s'.c) V'):GenK Tryz.prog (.call { callee:=.builtin .append,args:=#[x,y],argTypes:=#[23,3] }) ty vals V q :=
 Go.Sx.GenK.appendZ (z:=.agg #[.string (qAq []),.string (qAq [])]) (i:=ti 113) (k:=.i64) Tryz.underlying23 Tryz.underlying3 (by kernel_rfl) (by kernel_rfl) (by kernel_rfl) (by kernel_rfl) (by decide) (of_decide_eq_true (by kernel_rfl)) (fun u hu=>by
  have hc:(Value.agg #[.string (qAq []),.string (qAq [])]).cells=#[.string (qAq []),.string (qAq [])]:=by simp[Value.cells]
  rw[hc]at hu;simp at hu;subst hu;rfl) hx hy own hfit fun s' V' h=>hq s' V' _ h
theorem c137{V:Mem}{n:Nat}(hn:n<=2147483648):Tri Tryz.prog 137 #[.slice none 0 0,.int .i64 n] V fun e V'=>∃s:Sl,e=.returned (.slice s.p s.n s.c)/\Sx.Own V V' 113 2 s []:=by
 refine x137 (a:=⟨none,0,0⟩) (b:=n) ?_
 unfold w137
 have e:(n:Int)-(((0:Nat):Int)-((0:Nat):Int))=n:=by omega
 refine qAw (by omega) ⟨⟨by simp,by simp⟩,⟨by rw[e];omega,by rw[e];omega⟩,fun h=>⟨⟨by omega,by omega,by omega⟩,?_⟩,fun h=>⟨⟨none,0,0⟩,rfl,Own.nil (Mem.sub.refl _) _ _⟩⟩
 refine az23 (s:=⟨none,0,0⟩) (n:=n) (vs:=[]) (V0:=V) rfl (by show Value.int .i64 _=_;rw[e]) (Own.nil (Mem.sub.refl _) _ _) (by simpa using hn) fun s' V' ws ho=>⟨s',rfl,⟨by omega,by omega,by simp⟩,⟨s'.p,0,s'.c⟩,?_,own_zero ho⟩
 by_cases hc:s'.c=0
 ·simp[hc]
 ·rw[if_neg (by omega),show ((0:Int).toNat*2)=0*2 from rfl,own_p0 ho hc];simp
theorem c99{V:Mem}{sl a b:Sl}{xs ys:List Fld}(h:qAc V sl 1 ([a,b].map fun s:Sl=>[s.v]))(ha:qAc V a 2 (xs.map Fld.row))(hb:qAc V b 2 (ys.map Fld.row))(hx:xs.length<=100)(hy:ys.length<=100) :
  Tri Tryz.prog 99 #[sl.v] V fun e V'=>∃s:Sl,e=.returned (.slice s.p s.n s.c)/\Sx.Own V V' 113 2 s ((xs++ys).flatMap Fld.row):=by
 have han:=ha.n_eq
 have hbn:=hb.n_eq
 refine x99 ?_
 unfold w99
 refine qGv (mk:=fun k:Int=>.int .i64 k) (b0:=0) qIc 2 (fun i k V1=>V1=V/\k=(((([a,b].take i).map (fun s:Sl=>s.n)).sum:Nat):Int)) ⟨rfl,rfl⟩ ?_
 rintro i k V1 J hi ⟨rfl,rfl⟩ hJ
 refine⟨fun hlt=>?_,fun hge=>?_⟩
 ·obtain⟨u,hum,hu,hdr,hil,hp,hz,hrow⟩:=h.get hlt
  have hun:u.n<=100:=by
   simp only[List.mem_cons,List.not_mem_nil,or_false]at hum
   rcases hum with rfl|rfl <;> omega
  have hs:(([a,b].take (i+1)).map (fun s:Sl=>s.n)).sum=(([a,b].take i).map (fun s:Sl=>s.n)).sum+u.n:=by rw[List.take_add_one,hu];simp
  have hs2:(([a,b].take i).map (fun s:Sl=>s.n)).sum<=200:=by
   rcases (show i=0∨i=1 by simp at hil;omega) with rfl|rfl
   ·simp
   ·simp;omega
  refine⟨hp,hz,hlt,u,hrow,⟨by omega,by omega⟩,qAw (by omega) ⟨h.succ hlt,hJ hil _ _ ⟨rfl,by rw[hs,Int.natCast_add]⟩⟩⟩
 ·have h2:=(h.done hge).2
  have hi2:i=2:=by simp at h2;omega
  subst hi2
  refine Tri.mono (c137 (by simp;omega)) ?_
  rintro _ V2 ⟨s0,rfl,ho0⟩
  refine⟨s0,rfl,qGv (mk:=fun s:Sl=>.slice s.p s.n s.c) (b0:=s0) qCY 2 (fun j s V3=>Sx.Own V1 V3 113 2 s ((([xs,ys].take j).flatten).flatMap Fld.row)) ho0 ?_⟩
  rintro j s V3 J1 hj ho hJ1
  have h':=h.sub ho.sub
  refine⟨fun hlt=>?_,fun hge=>?_⟩
  ·obtain⟨u,hum,hu,hdr,hil,hp,hz,hrow⟩:=h'.get hlt
   obtain⟨zs,hzs,hzr,hzl⟩:∃zs,[xs,ys][j]?=some zs/\qAc V3 u 2 (zs.map Fld.row)/\([xs,ys].take j).flatten.length+zs.length<=2147483648:=by
    rcases (show j=0∨j=1 by simp at hil;omega) with rfl|rfl
    ·simp at hu;subst hu;exact⟨xs,rfl,ha.sub ho.sub,by simp;omega⟩
    ·simp at hu;subst hu;exact⟨ys,rfl,hb.sub ho.sub,by simp;omega⟩
   refine⟨hp,hz,hlt,u,hrow,app23 (s:=s) (u:=u) (xs:=([xs,ys].take j).flatten) (ys:=zs) rfl rfl ho hzr hzl fun s' V' ho'=>⟨s',rfl,h'.succ hlt,hJ1 hil _ _ ?_⟩⟩
   rw[List.take_add_one,hzs];simpa using ho'
  ·have h3:=(h'.done hge).2
   have hj2:j=2:=by simp at h3;omega
   subst hj2
   exact⟨s,rfl,by simpa using ho⟩
theorem runC{d:Ds}{p F n:Nat}(H:SC d p F n):CallC d p F n:=by
 intro V0 V s c i pr args l hS hpr G ha hl M htk hn hw
 obtain⟨G',hG⟩:∃G':Rx Int,G'=qDG d (qFg d F n) c i args s:=⟨_,rfl⟩
 rw[<- hG]
 have hpm:=List.mem_of_getElem? hpr
 have hpo:=hS.procs pr hpm
 have hok:=hS.ds.procsOk pr hpm
 refine Tri.mono (x69 (R:=PX V0 d p F c G') ?_) fun _ _ h=>h
 unfold w69
 obtain⟨gs,ns,ls,nd,hat,L⟩:=M.ex
 unfold qDG at hG
 refine⟨nn,nn,_,qAd hat 12 1 (by simp[qBE]),fun h2=>qId (PX.bad (by rw[hG,if_pos (by omega)]) M),fun h2=>?_⟩
 rw[if_neg (by omega),Int.toNat_natCast,hpr]at hG
 refine⟨nn,nn,_,qAd hat 12 1 (by simp[qBE]),⟨by omega,by omega⟩,nn,nn,StT.at2 (off:=12) hat (by simp[qBE]) ?_⟩
 have M1:EM V0 d p F (V.set p (.cells (qBE d F s.tk ((c+1:Nat):Int) s.cm gs ns ls).toArray 111 (0,0))) s (c+1):=MA.set (row':=qBE d F s.tk ((c+1:Nat):Int) s.cm) ntE M.p0 hat L rfl rfl rfl rfl
 obtain⟨V1,hV1⟩:∃V1,V1=V.set p (.cells (qBE d F s.tk ((c+1:Nat):Int) s.cm gs ns ls).toArray 111 (0,0)):=⟨_,rfl⟩
 rw[<- hV1]at M1
 show qAC _ _ (V.set p (.cells (qBE d F s.tk ((c+1:Nat):Int) s.cm gs ns ls).toArray 111 (0,0))) _
 rw[<- hV1]
 intro b1 hb1
 obtain⟨V2,hV2⟩:∃V2,V2=V1.set b1 (.cells #[.slice pr.ps.p pr.ps.n pr.ps.c,.slice pr.ls.p pr.ls.n pr.ls.c] 23 (0,0)):=⟨_,rfl⟩
 have s12:V1.sub V2:=hV2 ▸ Mem.sub_new hb1 _
 have s02:=M1.sub.trans s12
 have hrow:qAc V2 ⟨some ⟨b1,0,none⟩,2,2⟩ 1 ([pr.ps,pr.ls].map fun s:Sl=>[s.v]):=qAc.cells (xs:=[pr.ps,pr.ls]) (row:=fun s:Sl=>[s.v]) (by rw[hV2];exact Mem.set_same _ _ _) rfl (fun _=>rfl) rfl (by simp)
 show Tri _ _ #[.slice (sa b1) 2 2] (V1.set b1 (.cells #[.slice pr.ps.p pr.ps.n pr.ps.c,.slice pr.ls.p pr.ls.n pr.ls.c] 23 (0,0))) _
 rw[<- hV2]
 have hln:=hpo.lens
 refine Tri.mono (c99 hrow (hok.params.sub s02) (hok.locals.sub s02) (by omega) (by omega)) ?_
 rintro _ V3 ⟨s3,rfl,o3⟩
 have s03:=s02.trans o3.sub
 have hal:=(qAz.1 ha).1
 refine⟨s3,rfl,Tri.mono (c58 (hl.sub s03) (by omega)) ?_⟩
 rintro _ V4 ⟨s4,rfl,o4⟩
 have h4n:=o4.n_eq (fun _=>rfl) (by decide)
 have hlsn:=hok.locals.n_eq
 refine⟨s4,rfl,az31 (s:=s4) (n:=pr.ls.n) rfl rfl o4 (by omega) fun s5 V5 o5=>⟨s5,rfl,fun b2 hb2=>?_⟩⟩
 rw[hlsn]at o5
 obtain⟨V6,hV6⟩:∃V6,V6=V5.set b2 (.cells #[.slice s3.p s3.n s3.c,.slice s5.p s5.n s5.c] 187 (0,0)):=⟨_,rfl⟩
 have s56:V5.sub V6:=hV6 ▸ Mem.sub_new hb2 _
 have s36:=o5.sub.trans s56
 have s16:=s12.trans (o3.sub.trans s36)
 obtain⟨W,w0,w6,MW,hWn⟩:=M1.after s16
 show Tri _ _ #[pv p,pv b2,.slice pr.bs.p pr.bs.n pr.bs.c] (V5.set b2 (.cells #[.slice s3.p s3.n s3.c,.slice s5.p s5.n s5.c] 187 (0,0))) _
 rw[<- hV6]
 have n1:∀{b:Nat},V2 b=none->V1 b=none:=fun {b} h=>by
  cases hc:V1 b with
  | none=>rfl
  | some o=>rw[s12 _ _ hc]at h;cases h
 have n3:∀{b:Nat},V3 b=none->V2 b=none:=fun {b} h=>by
  cases hc:V2 b with
  | none=>rfl
  | some o=>rw[o3.sub _ _ hc]at h;cases h
 have n5:V3 b2=none:=by
  cases hc:V3 b2 with
  | none=>rfl
  | some o=>rw[o5.sub _ _ hc]at hb2;cases hb2
 have hbk:∀{b:Nat},Blk s5 b->V3 b=none:=fun h=>Own.none0 o5 h
 have hws:V0.sub (W.but s5):=fun b o hb=>Mem.but_at (w0 _ _ hb) fun hk=>by have:=hbk hk;rw[s03 _ _ hb]at this;cases this
 have o5':Sx.Own (W.but s5) W 3 1 s5 ((args++List.replicate pr.locals.length (0:Int)).flatMap qAn):=own_to o5 (Mem.but_sub _ _) fun g o hk h0 h1=>⟨by unfold Mem.but;rw[if_pos hk],hWn _ _ (n1 (n3 h0)) (s56 _ _ h1)⟩
 have o3':Sx.Own (fun _=>none) (W.but s5) 113 2 s3 ((pr.params++pr.locals).flatMap Fld.row):=own_to o3 (fun _ _ h=>by cases h) fun g o hk h0 h1=>⟨rfl,Mem.but_at (hWn _ _ (n1 h0) (s36 _ _ h1)) fun hk'=>by have:=hbk hk';rw[h1]at this;cases this⟩
 have hfr:W b2=some (.cells #[s3.v,s5.v] 187 (0,0)):=hWn _ _ (n1 (n3 n5)) (by rw[hV6];exact Mem.set_same _ _ _)
 have nb2:¬Blk s5 b2:=fun hk=>by
  obtain⟨cur,hc⟩:=Own.some o5 hk
  rw[hb2]at hc;cases hc
 have FR:FrM (W.but s5) W b2 pr (args++List.replicate pr.locals.length 0):=⟨Mem.but_sub _ _,s3,s5,Mem.but_at hfr nb2,o3'.rows (fun _=>rfl) (by decide),o5'⟩
 have hv:=qEk ha (qEJ G.valid fun f hf=>hpo.vars f (List.mem_append_right _ hf))
 have hbody:qAc (W.but s5) pr.bs 5 (pr.body.map S.row):=hok.body.sub hws
 refine PS.split (H pr.body (W.but s5) W V6 s (c+1) b2 pr _ pr.bs ⟨hS.sub hws,FR,hpo,G,hv,MW,htk,hn,hw⟩ hpo.body (fun x hx=>(hok.stmts x hx).sub hws) hbody) (fun k s2 c' V7 e2 M7=>?_) fun rt s2 W7 V7 e2 f7 M7=>?_
 ·rw[hG];show PX V0 d p F c ((qFg d F n (c+1) pr pr.body _ s).bind _) _ _
  rw[e2];exact⟨rfl,c',M7.narrow hws⟩
 ·have M8:=M7.narrow (hws.trans f7.sub)
  obtain⟨gs7,ns7,ls7,nd7,hat7,L7⟩:=M8.ex
  refine⟨nn,nn,_,qAd hat7 12 1 (by simp[qBE]),⟨by omega,by omega⟩,nn,nn,StT.at2 (off:=12) hat7 (by simp[qBE]) ?_⟩
  rw[hG];show PX V0 d p F c ((qFg d F n (c+1) pr pr.body _ s).bind _) _ _
  rw[e2]
  refine⟨rfl,?_⟩
  have e:(((c+1:Nat):Int)-1)=(c:Int):=by omega
  rw[e]
  exact MA.set (row':=qBE d F s2.tk c s2.cm) ntE M8.p0 hat7 L7 rfl rfl rfl rfl
theorem allC(d:Ds)(p F:Nat):∀n,SC d p F n
 | 0=>fun l W V0 V s c q pr vals sl X _ _ _=>absurd X.n (by have:=X.tk;omega)
 | n+1=>stsC (stC (exprC (runC (allC d p F n))) (allC d p F n) (runC (allC d p F n)))
end Go.Proofs
namespace Go.Proofs
open Go Go.Sx
section
variable{d:Ds}{F F' b:Nat}
def Sext(s t:St):Prop:=(∃l,t.lg=s.lg++l)/\s.tk<=t.tk/\s.ns.length<=t.ns.length
def RE{α:Type}(s:St)(r:Rx α):Prop:=Sext s r.st
section
variable{α β:Type}{s:St}{r r':Rx α}
inductive Frel (F F' b:Nat):Rx α->Rx α->Prop where
 | eq {r:Rx α} (h:∀s,r≠.bad 20 s) (h1:b<=r.st.tk) (h2:r.st.tk<=F):Frel F F' b r r
 | out {s:St} {r':Rx α} (h1:s.tk=F) (h2:∃l,r'.st.lg=s.lg++l) (h3:F<r'.st.tk∨(r'=.bad 20 s/\F'=F)):Frel F F' b (.bad 20 s) r'
end
def SExt(Sn:Sf):Prop:=∀c p l vals s,RE s (Sn c p l vals s)
section
variable{Sn:Sf}(h:SExt Sn)
include h
end
def CRel(F F' b:Nat)(C C':Cf):Prop:=(∀i args s,b<=s.tk->s.tk<=F->Frel F F' b (C i args s) (C' i args s))/\∀i args s,RE s (C' i args s)
section
variable{C C':Cf}(hC:CRel F F' b C C')
include hC
end
def SRel(F F' b:Nat)(Sn Sn':Sf):Prop:=(∀c p l vals s,b<=s.tk->s.tk<=F->Frel F F' b (Sn c p l vals s) (Sn' c p l vals s))/\SExt Sn'
section
variable{Sn Sn':Sf}(h:SRel F F' b Sn Sn')(hF:F<=F')
include h hF
end
end
end Go.Proofs
namespace Go.Proofs
open Go Go.Sx
section
variable{d:Ds}{F F':Nat}
def Mm.plain(m:Mm):List Int×List (Int×List Int):=(m.globals,m.nodes.map fun n=>(n.ty,n.f))
def qBG(m:Mm):St:=⟨m.globals,m.nodes.map fun n=>(n.ty,n.f),0,0,[]⟩
theorem St.plain(s:St):s.mm.plain=(s.g,s.ns):=by
 unfold Mm.plain St.mm
 simp[Function.comp_def]
theorem qFm{m m':Mm}(h:m.plain=m'.plain){i:Nat}{x:Nd}(hx:m.nodes[i]?=some x):∃y,m'.nodes[i]?=some y/\y.ty=x.ty/\y.f=x.f:=by
 have h2:(m.nodes.map fun n=>(n.ty,n.f))=m'.nodes.map fun n=>(n.ty,n.f):=(Prod.mk.inj h).2
 have:(m'.nodes.map fun n=>(n.ty,n.f))[i]?=some (x.ty,x.f):=by rw[<- h2,List.getElem?_map,hx];rfl
 rw[List.getElem?_map]at this
 cases hy:m'.nodes[i]? with
 | none=>rw[hy]at this;cases this
 | some y =>
  rw[hy]at this
  simp only[Option.map_some,Option.some.injEq,Prod.mk.injEq]at this
  exact⟨y,rfl,this.1,this.2⟩
theorem qHq{m m':Mm}(h:m.plain=m'.plain):m.nodes.length=m'.nodes.length:=by
 have h2:(m.nodes.map fun n=>(n.ty,n.f))=m'.nodes.map fun n=>(n.ty,n.f):=(Prod.mk.inj h).2
 have:=congrArg List.length h2
 simpa using this
theorem qCG{m m':Mm}(h:m.plain=m'.plain)(hv:qBK d m=true):qBK d m'=true:=by
 obtain⟨p1,p2,p3,p4,p5⟩:=qAt hv
 have hl:=qHq h
 have hg:m.globals=m'.globals:=(Prod.mk.inj h).1
 have r:∀{t v},qAs d m t v=true->qAs d m' t v=true:=fun hr=>qFX (by omega) (fun i x hx=>by
  obtain⟨y,e1,e2,-⟩:=qFm h hx
  exact⟨y,e1,e2⟩) hr
 refine qFd p1 (by omega) (fun n hn=>?_) (by rw[<- hg];exact qAg r p4) fun n hn=>?_
 ·obtain⟨i,hi⟩:=List.mem_iff_getElem?.1 hn
  obtain⟨x,e1,e2,-⟩:=qFm h.symm hi
  have:=p3 x (List.mem_of_getElem? e1)
  unfold qDX at this ⊢
  rw[<- e2];exact this
 ·obtain⟨i,hi⟩:=List.mem_iff_getElem?.1 hn
  obtain⟨x,e1,e2,e3⟩:=qFm h.symm hi
  have:=p5 x (List.mem_of_getElem? e1)
  rw[<- e2,<- e3];exact qAg r this
theorem qEl(m:Mm):(qBG m).mm.plain=m.plain:=St.plain _
theorem qJy{m:Mm}(G:qAo d m):qAo d (qBG m).mm:=⟨G.valid,G.chk,qCG (qEl m).symm G.mem⟩
theorem qCH{m m':Mm}(h:m.plain=m'.plain){t:ByteArray}{v:Int}(hr:qAs d m t v=true):qAs d m' t v=true:=qFX (by rw[qHq h];exact Nat.le_refl _) (fun i x hx=>by
 obtain⟨y,e1,e2,-⟩:=qFm h hx
 exact⟨y,e1,e2⟩) hr
def outC:Rx Int->Int | .ok _ _=>0 | .bad c _=>c
def outV:Rx Int->Int | .ok v _=>v | .bad _ _=>0
def qCl(l:List (Int×Int×Int)):Nat:=(l.filter fun a=>decide (0<a.2.1)).length
section
variable{i:Int}{args:List Int}{s:St}(h0:s.tk=0)
include h0
end
end
end Go.Proofs
namespace Go.Proofs
open Go Go.Sx
attribute [local irreducible] Go.Sx.Tri
theorem g110:IdxP 110 Nd.row Nd.v 2:=by
 intro V l xs g first caps hg St Hit hrows h0 hp
 refine x110 (a:=l) (b:=.func (.func g) first.toArray caps.toArray) ?_
 unfold w110
 refine qBe xs.length St h0 ?_
 intro i b V1 J hi hs hJ
 have h:=hrows i V1 hs
 refine⟨fun hlt=>?_,fun hge=>?_⟩
 ·obtain⟨x,hm,hx,hd,hl,hp0,hz,hrow⟩:=h.get hlt
  refine⟨hp0,hz,hlt,_,_,hrow,g,_,_,rfl,hg,Tri.mono (hp i x V1 hx hs) ?_⟩
  rintro e V2 ⟨b,rfl,h1,h2⟩
  exact⟨b,rfl,fun hb=>.inl ⟨i,rfl,h1 hb⟩,fun hb=>⟨h.succ hlt,hJ hl _ _ (h2 (by simpa using hb))⟩⟩
 ·have e:i=xs.length:=by have:=(h.done hge).2;omega
  exact .inr ⟨rfl,e ▸ hs⟩
theorem g81:ConP 81 Nd.row Nd.v 2:=conG g110 x81
theorem c81:ConC 81 Nd.row Nd.v 2:=conC g81
theorem zeroInt(w:World):(zeroValue 3).run Tryz.prog w=.ok (.int .i64 0) w:=by kernel_rfl
def pmap(d:Ds)(i:Nat)(k:ByteArray):Option Value:=if 0<=qDp d k/\qDp d k<(i:Int) then some (.int .i64 (qDp d k)) else none
def tmap(d:Ds)(k:ByteArray):Option Value:=if qBg d k=true then some (.int .i64 (qDp d k)) else none
section
variable{V:Mem}{d:Ds}{m:Mm}{b:Nat}
theorem idxT_le{i:Nat}{x:Ty}(hx:d.types[i]?=some x):0<=qDp d x.name/\qDp d x.name<=(i:Int):=by
 unfold qDp
 rcases qBq (fun t:Ty=>decide (t.name=x.name)) d.types with⟨-,-,h⟩|⟨j,y,h1,h2,-,h4,-,-,-,h5⟩
 ·have:=List.any_eq_false.1 h x (List.mem_of_getElem? hx)
  exact absurd (decide_eq_true rfl) this
 ·rw[h1]
  refine⟨by omega,?_⟩
  have hji:¬i<j:=fun hlt=>by
   have:=List.any_eq_false.1 h5 x (List.mem_take_iff_getElem.2 ⟨i,by have:=(List.getElem?_eq_some_iff.1 hx).1;omega,(List.getElem?_eq_some_iff.1 hx).2⟩)
   exact this (decide_eq_true rfl)
  omega
theorem idxT_at{k:ByteArray}{i:Nat}(h:qDp d k=(i:Int)):∃x,d.types[i]?=some x/\x.name=k:=by
 unfold qDp at h
 rcases qBq (fun t:Ty=>decide (t.name=k)) d.types with⟨h1,-⟩|⟨j,y,h1,h2,-,h4,h5,-⟩
 ·rw[h1]at h;omega
 ·rw[h1]at h
  obtain rfl:j=i:=by omega
  exact⟨y,h2,of_decide_eq_true h5⟩
theorem pmap_all{k:ByteArray}(i:Nat)(hi:d.types.length<=i):pmap d i k=tmap d k:=by
 unfold pmap tmap
 rcases isNode_idx d k with⟨h1,h2⟩|⟨h1,h2⟩
 ·rw[if_neg (by omega),if_neg (by rw[h2];decide)]
 ·obtain⟨j,hj⟩:∃j:Nat,qDp d k=(j:Int):=⟨(qDp d k).toNat,by omega⟩
  obtain⟨x,hx,-⟩:=idxT_at hj
  have:=(List.getElem?_eq_some_iff.1 hx).1
  rw[if_pos ⟨h1,by omega⟩,if_pos h2]
theorem c77{s:ByteArray}:PP 77 [.string s] V (.bool (decide (s=qBb)||decide (s=qAu))):=by
 refine x77 ?_
 unfold w77
 refine⟨fun h=>⟨by rw[decide_eq_true (show s=qBb from h)];rfl,rfl⟩,fun h=>⟨by rw[decide_eq_false (show ¬s=qBb from h)];rfl,rfl⟩⟩
theorem c78{s:ByteArray}(h:qAZ V b (tmap d)):PP 78 [.map (some b),.string s] V (.bool (qBg d s)):=by
 refine x78 ?_
 unfold w78
 refine qCd.str Tryz.underlying125 Tryz.underlying9 zeroInt h ?_
 unfold tmap
 cases hn:qBg d s with
 | true=>exact⟨_,_,rfl,rfl,rfl⟩
 | false=>exact⟨_,_,rfl,rfl,rfl⟩
theorem c76{p t:Nat}(hp:V p=some (cell (.map (some b)) t))(h:qAZ V b (tmap d)){f:Fld}:PP 76 [f.v,pv p] V (.bool (!qBn d f.ty)):=by
 refine x76 ?_
 unfold w76
 refine c77.call ⟨_,rfl,fun h1=>?_,fun h1=>⟨some b,qBp hp,(c78 h).call ⟨_,rfl,?_,rfl⟩⟩⟩
 ·unfold qBn;rw[h1];exact⟨rfl,rfl⟩
 ·unfold qBn;rw[show (decide (f.ty=qBb)||decide (f.ty=qAu))=false by simpa using h1];rfl
theorem c74{p t:Nat}(hp:V p=some (cell (.map (some b)) t))(h:qAZ V b (tmap d)){l:Sl}{xs:List Fld}(hr:qAc V l 2 (xs.map Fld.row)):PP 74 [l.v,pv p] V (.bool (qBL d xs)):=by
 refine x74 ?_
 unfold w74
 refine(c75 (first:=[]) (caps:=[pv p]) hr Tryz.call76 (fun f=>!qBn d f.ty) (fun f _=>c76 hp h)).call ⟨_,rfl,?_,rfl⟩
 unfold qBL
 rw[List.all_eq_not_any_not]
theorem c80{p q t t2:Nat}(hp:V p=some (cell (.map (some b)) t))(hq:V q=some (cell (.func (.func 74) #[] #[pv p]) t2))(h:qAZ V b (tmap d)){y:Ty}(hy:Ty.Ok V y) :
  PP 80 [y.v,pv q] V (.bool (!qBL d y.fields)):=by
 refine x80 ?_
 unfold w80
 exact⟨.func (.func 74) #[] #[pv p],rfl,qBp hq,74,_,_,rfl,Tryz.call74,(c74 hp h hy.fields).callv (first:=[]) (caps:=[pv p]) ⟨_,rfl,rfl,rfl⟩⟩
theorem qCb:hasT d=true↔qAH d=true/\qBL d d.globals=true/\(∀(i:Nat) (x:Ty),d.types[i]?=some x->qDp d x.name=(i:Int))/\∀x∈d.types,qBL d x.fields=true:=by
 unfold hasT
 rw[Bool.and_eq_true,Bool.and_eq_true,qEz,and_assoc]
 refine and_congr_right fun _=>and_congr_right fun _=>⟨fun h=>⟨fun i x hx=>?_,fun x hx=>?_⟩,fun h i x hx=>?_⟩
 ·have:=h i x hx
  rw[Bool.and_eq_true,decide_eq_true_eq]at this
  exact this.1
 ·obtain⟨i,hi,rfl⟩:=List.mem_iff_getElem.1 hx
  have:=h i _ (List.getElem?_eq_getElem hi)
  rw[Bool.and_eq_true]at this
  exact this.2
 ·rw[Bool.and_eq_true,decide_eq_true_eq]
  exact⟨h.1 i x hx,h.2 x (List.mem_of_getElem? hx)⟩
def TyM(V':Mem)(d:Ds)(mo:Option Nat):Prop:=(hasT d=true/\∃b,mo=some b/\qAZ V' b (tmap d))∨(¬hasT d=true/\mo=none)
theorem c49[Tab V](h:Ds.Ok V d):Tri Tryz.prog 49 #[d.v] V fun r V'=>∃mo,r=.returned (.map mo)/\V.sub V'/\TyM V' d mo:=by
 refine x49 ?_
 unfold w49
 have no:∀{V1:Mem},V.sub V1->¬hasT d=true->(∃mo,Ending.returned (.map none)=.returned (.map mo)/\V.sub V1/\TyM V1 d mo):=fun hs k=>⟨none,rfl,hs,.inr ⟨k,rfl⟩⟩
 refine(c73 h).call ⟨_,rfl,fun hv=>?_,fun hv=>no (Mem.sub.refl _) fun k=>hv (qCb.1 k).1⟩
 refine GenK.makeMap fun b hb=>⟨some b,rfl,?_⟩
 have hs:∀o,V.sub (V.set b o):=fun o=>Mem.sub_new hb _
 refine qBe (mk:=.map) (b0:=none) d.types.length (fun i V1=>(∃o,V1=V.set b o)/\qAZ V1 b (pmap d i)/\∀(j:Nat) (x:Ty),j<i->d.types[j]?=some x->qDp d x.name=(j:Int)) ⟨⟨_,rfl⟩,(qAZ.made V b).congr fun k=>?_,fun _ _ h=>absurd h (Nat.not_lt_zero _)⟩ ?_
 ·unfold pmap;rw[if_neg (by omega)]
 rintro i b1 _ J hi ⟨⟨o,rfl⟩,hm,hd⟩ hJ
 have hd1:=h.sub (hs o)
 refine⟨fun hlt=>?_,fun hge=>?_⟩
 ·obtain⟨x,hxm,hx,hdr,hl,hp,hz,hrow⟩:=hd1.types.get hlt
  have hle:=idxT_le hx
  refine⟨hp,hz,hlt,_,_,hrow,qCd.str Tryz.underlying125 Tryz.underlying9 zeroInt hm ?_⟩
  by_cases hlo:qDp d x.name<(i:Int)
  ·have e:pmap d i x.name=some (.int .i64 (qDp d x.name)):=by unfold pmap;rw[if_pos ⟨hle.1,hlo⟩]
   rw[e]
   refine⟨_,_,rfl,fun _=>no (hs o) fun k=>?_,fun k=>absurd rfl k⟩
   have:=(qCb.1 k).2.2.1 i x hx
   omega
  ·have e:pmap d i x.name=none:=by unfold pmap;rw[if_neg fun k=>hlo k.2]
   rw[e]
   refine⟨0,false,rfl,(fun k=>by cases k),fun _=>UpdK.str Tryz.underlying125 Tryz.underlying9 hm fun o2 ho2=>⟨hd1.types.succ hlt,hJ hl _ _ ⟨⟨o2,by rw[Mem.set_set]⟩,ho2.congr fun k=>?_,fun j y hj hy=>?_⟩⟩⟩
   ·by_cases hk:k=x.name
    ·subst hk
     rw[if_pos rfl]
     unfold pmap
     rw[if_pos ⟨hle.1,by omega⟩,show qDp d x.name=(i:Int) by omega]
    ·rw[if_neg hk]
     unfold pmap
     by_cases hki:qDp d k=(i:Int)
     ·obtain⟨y,hy,hyk⟩:=idxT_at hki
      rw[hx]at hy;cases hy
      exact absurd hyk.symm hk
     ·by_cases hc:0<=qDp d k/\qDp d k<(i:Int)
      ·rw[if_pos hc,if_pos ⟨hc.1,by omega⟩]
      ·rw[if_neg hc,if_neg fun c=>hc ⟨c.1,by omega⟩]
   ·rcases Nat.lt_succ_iff_lt_or_eq.1 hj with hj|rfl
    ·exact hd j y hj hy
    ·rw[hx]at hy;cases hy;omega
 ·have hlen:=(hd1.types.done hge).2
  have hm':qAZ (V.set b o) b (tmap d):=hm.congr fun k=>pmap_all i hlen
  have hdist:∀(j:Nat) (x:Ty),d.types[j]?=some x->qDp d x.name=(j:Int):=fun j x hx=>hd j x (by have:=(List.getElem?_eq_some_iff.1 hx).1;omega) hx
  intro p hp
  have s1:=Mem.sub_new hp (cell (.map (some b)) 125)
  have hpp:=Mem.set_same (V.set b o) p (cell (.map (some b)) 125)
  have hm1:=hm'.sub s1
  have hd2:=hd1.sub s1
  refine(c74 hpp hm1 hd2.globals).call ⟨_,rfl,fun hg=>fun q hq=>?_,fun hg=>no ((hs o).trans s1) fun k=>hg (qCb.1 k).2.1⟩
  have s2:=Mem.sub_new hq (cell (.func (.func 74) #[] #[pv p]) 150)
  have hqq:=Mem.set_same ((V.set b o).set p (cell (.map (some b)) 125)) q (cell (.func (.func 74) #[] #[pv p]) 150)
  have hd3:=hd2.sub s2
  refine(c79 (first:=[]) (caps:=[pv q]) hd3.types Tryz.call80 (fun y=>!qBL d y.fields) (fun y hy=>c80 (s2 _ _ hpp) hqq (hm1.sub s2) (hd3.typesOk y hy))).call ⟨_,rfl,fun ha=>no ((hs o).trans (s1.trans s2)) fun k=>?_,fun ha=>⟨_,qBp (s2 _ _ hpp),some b,rfl,(hs o).trans (s1.trans s2),.inl ⟨qCb.2 ⟨hv,hg,hdist,fun x hx=>?_⟩,b,rfl,hm1.sub s2⟩⟩⟩
  ·obtain⟨y,hy,hyt⟩:=List.any_eq_true.1 ha
   have:=(qCb.1 k).2.2.2 y hy
   rw[this]at hyt;cases hyt
  ·have:=List.any_eq_false.1 ((Bool.not_eq_true _).mp ha) x hx
   simpa using this
theorem c111{mo:Option Nat}(ht:TyM V d mo)(hT:hasT d=true)(hm:Mm.Ok V m){typ:ByteArray}(hk:qBn d typ=true){v:Int}:PP 111 [.map mo,m.v,.string typ,.int .i64 v] V (.bool (qAs d m typ v)):=by
 refine x111 ?_
 unfold w111
 have hn:=hm.nodes.n_eq
 obtain⟨b,rfl,hb⟩:∃b,mo=some b/\qAZ V b (tmap d):=by
  rcases ht with⟨-,h⟩|⟨h,-⟩
  ·exact h
  ·exact absurd hT h
 have ret:∀{x y:Bool},x=y->Ending.returned (.bool x)=.returned (.bool y)/\V=V:=fun h=>by rw[h];exact⟨rfl,rfl⟩
 refine⟨fun h1=>?_,fun h1=>⟨fun h2=>?_,fun h2=>?_⟩⟩
 ·unfold qAs;rw[if_pos (show typ=qBb from h1)]
  refine⟨fun h3=>ret ?_,fun h3=>ret ?_⟩
  ·rw[decide_eq_decide];exact⟨fun h=>⟨h3,h⟩,fun h=>h.2⟩
  ·exact(decide_eq_false fun h=>h3 h.1).symm
 ·unfold qAs;rw[if_neg (show ¬typ=qBb from h1),if_pos (show typ=qAu from h2)]
  refine⟨fun h3=>ret (decide_eq_true (.inl h3)).symm,fun h3=>ret ?_⟩
  rw[decide_eq_decide];exact⟨.inr,fun h=>h.resolve_left h3⟩
 ·unfold qAs;rw[if_neg (show ¬typ=qBb from h1),if_neg (show ¬typ=qAu from h2)]
  refine⟨fun h3=>ret (decide_eq_true (.inl h3)).symm,fun h3=>⟨fun h4=>⟨fun h5=>?_,fun h5=>ret ?_⟩,fun h4=>ret ?_⟩⟩
  ·obtain⟨i,rfl⟩:∃i:Nat,v=(i:Int)+1:=⟨(v-1).toNat,by omega⟩
   have e1:((i:Int)+1-1).toNat=i:=by omega
   obtain⟨x,hxm,hx,-,hl,hp,hz,hrow⟩:=hm.nodes.get (i:=i) (by omega)
   have hq:=qAe (n:=i*2) hp
   have hr:IR ((i:Int)+1-1):=⟨by omega,by have:=(hm.nodes.succ (i:=i) (by omega)).2;omega⟩
   have hnode:qBg d typ=true:=by
    unfold qBn at hk
    rw[decide_eq_false (show ¬typ=qBb from h1),decide_eq_false (show ¬typ=qAu from h2)]at hk
    simpa using hk
   rw[e1]
   refine⟨hr,hp,by omega,by omega,hq,_,_,hrow,qCd.str1 Tryz.underlying125 Tryz.underlying9 zeroInt hb ?_⟩
   unfold tmap
   rw[if_pos hnode]
   refine⟨_,rfl,rowp_first (k:=1) hrow (by decide),hq,hp,by omega,by omega,hr,ret ?_⟩
   rw[decide_eq_decide,hx]
   constructor
   ·intro h;exact .inr ⟨by omega,by omega,by rw[<- h];rfl⟩
   ·rintro (h|⟨-,-,h⟩)
    ·exact absurd h h3
    ·simpa using h
  ·exact(decide_eq_false (by omega)).symm
  ·exact(decide_eq_false (by omega)).symm
theorem c83{mo:Option Nat}(ht:TyM V d mo)(hT:hasT d=true)(hm:Mm.Ok V m){l:Sl}{xs:List Fld}(hr:qAc V l 2 (xs.map Fld.row))(hk:qBL d xs=true){s:Sl}{vs:List Int}(hv:qAc V s 1 (vs.map qAn)):PP 83 [.map mo,m.v,l.v,s.v] V (.bool (qAf d m xs vs)):=by
 refine x83 ?_
 unfold w83
 have h1:=hr.n_eq
 have h2:=hv.n_eq
 refine⟨fun he=>?_,fun he=>?_⟩
 ·refine qBe (mk:=.bool) (b0:=false) vs.length (fun i V1=>V=V1/\AllI (fun i v=>qAs d m (tyAt xs i) v) vs i) ⟨rfl,AllI.zero⟩ ?_
  rintro i b V1 J hi ⟨rfl,ha⟩ hJ
  refine⟨fun hlt=>?_,fun hge=>?_⟩
  ·obtain⟨x,hxm,hx,-,hl,hp,hz,hrow⟩:=hr.get hlt
   obtain⟨y,hym,hy,-,hl2,hp2,hz2,hrow2⟩:=hv.get (i:=i) (by omega)
   have hty:tyAt xs i=x.ty:=by unfold tyAt;rw[hx];rfl
   have hkx:qBn d x.ty=true:=List.all_eq_true.1 hk x hxm
   refine⟨hp,hz,hlt,_,_,hrow,hp2,hz2,by omega,_,hrow2,(c111 ht hT hm hkx).call ⟨_,rfl,fun h3=>⟨hr.succ hlt,hJ hl2 _ _ ⟨rfl,ha.succ hy (by rw[hty];exact h3)⟩⟩,fun h3=>?_⟩⟩
   unfold qAf
   rw[allI_false hy (by rw[hty];exact h3),Bool.and_false];exact⟨rfl,rfl⟩
  ·unfold qAf
   rw[ha.all (by omega),decide_eq_true (by omega)];exact⟨rfl,rfl⟩
 ·unfold qAf
  rw[decide_eq_false (by omega)];exact⟨rfl,rfl⟩
theorem c82(h:Ds.Ok V d){p t:Nat}(hp:V p=some (.cells d.row.toArray t (0,0))){n:Nd}:PP 82 [n.v,pv p] V (.bool (!qDX d n)):=by
 refine x82 ?_
 unfold w82
 have hn:=h.types.n_eq
 refine⟨fun h1=>?_,fun h1=>⟨by simp,_,qAd hp 1 1 (by simp[Ds.row]),?_⟩⟩
 ·unfold qDX;rw[decide_eq_false (by omega)];exact⟨rfl,rfl⟩
 ·refine⟨?_,rfl⟩
  show Ending.returned (Value.bool _)=_
  unfold qDX
  rw[<- decide_not]
  congr 2
  rw[decide_eq_decide]
  show ((d.ts.n:Int)<=n.ty)↔_
  omega
theorem c84(h:Ds.Ok V d)(hm:Mm.Ok V m){mo:Option Nat}(ht:TyM V d mo)(hT:hasT d=true){p q r t t2 t3:Nat}(hp:V p=some (cell (.map mo) t))(hq:V q=some (.cells m.row.toArray t2 (0,0)))(hr:V r=some (.cells d.row.toArray t3 (0,0))){n:Nd}(hn:n∈m.nodes)(hty:qDX d n=true) :
  PP 84 [n.v,pv p,pv q,pv r] V (.bool (!qAf d m (qAm d n.ty) n.f)):=by
 refine x84 ?_
 unfold w84
 obtain⟨h1,h2⟩:=of_decide_eq_true hty
 have hlen:=h.types.n_eq
 obtain⟨i,hi⟩:∃i:Nat,n.ty=(i:Int):=⟨n.ty.toNat,by omega⟩
 obtain⟨x,hxm,hx,-,hl,hp1,hz,hrow⟩:=h.types.get (i:=i) (by omega)
 have hf:=qBu hx hi
 rw[hf]
 refine⟨_,qBp hp,_,_,qAd hq 0 2 (by simp[Mm.row]),by simp,_,qAd hr 1 1 (by simp[Ds.row]),hp1,h1,by omega,?_⟩
 rw[hi]
 refine⟨qAe hp1,_,_,hrow,(c83 ht hT hm (h.typesOk x hxm).fields ((qCb.1 hT).2.2.2 x hxm) (hm.nodesOk n hn).rows).call ⟨_,rfl,rfl,rfl⟩⟩
theorem c50(h:Ds.Ok V d)(hm:Mm.Ok V m){mo:Option Nat}(ht:TyM V d mo):Pur Tryz.prog 50 [.map mo,d.v,m.v] V (.bool (qBK d m)):=by
 refine Pur.mk ?_
 refine x50 ?_
 unfold w50
 have hn:=hm.nodes.n_eq
 rcases ht with⟨hT,b,rfl,hb⟩|⟨hT,rfl⟩
 rotate_left
 ·refine⟨fun _=>?_,fun k=>absurd rfl k⟩
  unfold qBK;rw[(Bool.not_eq_true _).mp hT];exact⟨rfl,Mem.sub.refl _⟩
 refine⟨(fun k=>by cases k),fun _=>⟨fun h1=>?_,fun h1=>?_⟩⟩
 ·unfold qBK;rw[decide_eq_false (by omega:¬m.nodes.length<=4096)];simp only[Bool.and_false,Bool.false_and];exact⟨trivial,Mem.sub.refl _⟩
 intro p hp
 have s1:=Mem.sub_new hp (.cells d.row.toArray 30 (0,0))
 have hpp:=Mem.set_same V p (.cells d.row.toArray 30 (0,0))
 have hm1:=hm.sub s1
 refine(c81 (first:=[]) (caps:=[pv p]) hm1.nodes Tryz.call82 (fun n=>!qDX d n) (fun n hn=>c82 (h.sub s1) hpp)).call ⟨_,rfl,fun h2=>?_,fun h2=>?_⟩
 ·unfold qBK
  have:m.nodes.all (qDX d)=false:=by
   rw[List.all_eq_not_any_not,h2];rfl
  rw[this];simp only[Bool.and_false,Bool.false_and];exact⟨trivial,s1⟩
 have hall:m.nodes.all (qDX d)=true:=by
  rw[List.all_eq_not_any_not,(Bool.not_eq_true _).mp h2];rfl
 have ht1:TyM (V.set p (.cells d.row.toArray 30 (0,0))) d (some b):=.inl ⟨hT,b,rfl,hb.sub s1⟩
 have hd1:=h.sub s1
 refine⟨nofun,_,qAd hpp 2 1 (by simp[Ds.row]),(c83 ht1 hT hm1 hd1.globals (qCb.1 hT).2.1 hm1.globals).call ⟨_,rfl,fun h3=>?_,fun h3=>?_⟩⟩
 rotate_left
 ·unfold qBK
  rw[(Bool.not_eq_true _).mp h3];simp only[Bool.and_false,Bool.false_and];exact⟨trivial,s1⟩
 intro q hq
 have s2:=Mem.sub_new hq (cell (.map (some b)) 125)
 intro r hr
 have s3:=Mem.sub_new hr (.cells m.row.toArray 34 (0,0))
 have s23:=s2.trans s3
 refine(c81 (first:=[]) (caps:=[pv q,pv r,pv p]) (hm1.sub s23).nodes Tryz.call84 (fun n=>!qAf d m (qAm d n.ty) n.f) (fun n hn=>?_)).call ⟨_,rfl,?_,s1.trans s23⟩
 ·refine c84 (hd1.sub s23) (hm1.sub s23) (mo:=some b) (.inl ⟨hT,b,rfl,(hb.sub s1).sub s23⟩) hT (s3 _ _ mss) mss (s23 _ _ hpp) hn (List.all_eq_true.1 hall n hn)
 ·show Ending.returned (Value.bool _)=_
  congr 2
  unfold qBK
  rw[hT,decide_eq_true (show m.nodes.length<=4096 by omega),hall,show qAf d m d.globals m.globals=true from h3,List.all_eq_not_any_not]
  simp
theorem c30[Tab V](h:Ds.Ok V d)(hm:Mm.Ok V m):Pur Tryz.prog 30 [d.v,m.v] V (.bool (qBK d m)):=by
 refine Pur.mk ?_
 refine x30 ?_
 unfold w30
 refine Tri.mono (c49 h) ?_
 rintro _ V' ⟨mo,rfl,hs,ht⟩
 exact⟨mo,rfl,(c50 (h.sub hs) (hm.sub hs) ht).call ⟨_,rfl,rfl,hs⟩⟩
end
end Go.Proofs
