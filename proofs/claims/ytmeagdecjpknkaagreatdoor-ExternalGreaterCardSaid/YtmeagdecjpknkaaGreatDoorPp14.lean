/- Part 14 of a proof of a law of this seat: no statement of the seat is proved here. -/
import Derived.Test.YtmeagdecjpknkaaGreatDoorPp13
import Derived.Test.YtmeagdecjpknkaaGreatDoorPp11
import Derived.Test.YtmeagdecjpknkaaGreatDoorPp10
set_option linter.unusedVariables false
set_option linter.unusedSimpArgs false
namespace Go.Proofs
open Go Go.Sx
attribute [local irreducible] Go.Sx.Tri
section
variable{V0 V V1:Mem}{d:Ds}{p F c q:Nat}{s:St}{pr:Pr}{vals:List Int}
theorem gAt{V:Mem}{gs:Sl}{l:List Int}(h:qAc V gs 1 (l.map qAe)){i:Nat}{v:Int}(hv:l[i]?=some v):¬gs.p=none/\(0:Int)<=(i:Int)/\(i:Int)<(gs.n:Int)/\V.rowp gs.p (i*1) 1=some [.int .i64 v]:=by
 have hn:=h.n_eq
 have hl:=(List.getElem?_eq_some_iff.1 hv).1
 obtain⟨y,-,hy,-,hl2,hp,hz,hrow⟩:=h.get (i:=i) (by omega)
 rw[hv]at hy;cases hy
 exact⟨hp,hz,by omega,hrow⟩
theorem nodeAt(M:EM V0 d p F V s c){k i:Nat}{ty v:Int}{fs:List Int}(hk:s.ns[k]?=some (ty,fs))(hv:fs[i]?=some v):∃gs ns ls nd sl,V p=some (.cells (qBG d F s.tk c s.cm gs ns ls).toArray 128 (0,0))/\Lay V0 V gs ns ls nd s/\nd[k]?=some ⟨ty,sl,fs⟩/\IR (k:Int) /\
  ¬ns.p=none/\(0:Int)<=(k:Int)/\(k:Int)<(ns.n:Int)/\V.rowp ns.p (k*2) 2=some [.int .i64 ty,.slice sl.p sl.n sl.c]/\¬sl.p=none/\(0:Int)<=(i:Int)/\(i:Int)<(sl.n:Int)/\V.rowp sl.p (i*1) 1=some [.int .i64 v]:=by
 obtain⟨gs,ns,ls,nd,hat,L⟩:=M.ex
 have hnR:=L.nodes.rows (fun _=>rfl) (by decide)
 have hnn:=hnR.n_eq
 obtain⟨sl,hsl⟩:=L.at_ hk
 have hkl:=(List.getElem?_eq_some_iff.1 hsl).1
 obtain⟨y,-,hy,-,-,hp,hz,hrow⟩:=hnR.get (i:=k) (by omega)
 rw[hsl]at hy;cases hy
 have hI:IR ((k:Int)):=⟨by omega,by have:=(hnR.succ (i:=k) (by omega)).2;omega⟩
 obtain⟨g1,g2,g3,g4⟩:=gAt ((L.fld _ (List.mem_of_getElem? hsl)).rows (fun _=>rfl) (by decide)) hv
 exact⟨gs,ns,ls,nd,sl,hat,L,hsl,hI,hp,hz,by omega,hrow,g1,g2,g3,g4⟩
theorem exprC{n:Nat}(hR:CallC d p F n):ExprC d p F n:=by
 intro e
 induction e using E.ind with
 | h e ih =>
 intro t V0 V s c q pr vals X hv he ht
 obtain⟨gs,ns,ls,nd,hat,L⟩:=X.M.ex
 obtain⟨fa,fb,hq0,hra0,hrb0⟩:=X.fr.ex
 have hq:=L.sub _ _ hq0
 have hd:=X.S.ds.sub L.sub
 have heV:=he.sub L.sub
 obtain⟨f,hf⟩:∃f,f=evX d (qDW d (qFB d F n) c) pr vals:=⟨_,rfl⟩
 obtain⟨G,hG0⟩:∃G:Rx Int,G=qDo d (qDW d (qFB d F n) c) pr vals (intB d (qAj d pr) e.k) e.op e.n e.s (e.k.map f) s:=⟨_,rfl⟩
 rw[evX_eq,<- hf,<- hG0]
 have hcs:=qEO X.S.procs (qGl (F:=F) X.S.procs n) c
 have hsz:=szE_eq e
 have K:∀{i:Nat} {a:E},e.k[i]?=some a->qFv (e.k.map f) i=f a:=fun h=>kidX_at h
 have kid:∀{i:Nat} {a:E} {u:ByteArray} {V1:Mem} {s1:St},e.k[i]?=some a->qAo d (qAj d pr) a=(u,0)->Cx V0 d p F c q pr vals n (szE a) V1 s1->Tri Tryz.prog 241 #[pv p,pv q,.agg #[.int .i64 a.op,.int .i64 a.n,.string a.s,.slice a.l.p a.l.n a.l.c]] V1 (PX V0 d p F c (f a s1)):=fun {i a u V1 s1} h0 ha X1=>by
  have hm:=List.mem_of_getElem? h0
  rw[hf]
  exact ih a hm u V0 V1 s1 c q pr vals X1 (hv.kids a hm) (he.kids a hm) ha
 have go:∀{i:Nat} {a:E} {u:ByteArray} {s1 s2:St} {V1 V2:Mem} {m k:Nat} {v:Int},e.k[i]?=some a->qAo d (qAj d pr) a=(u,0)->Cx V0 d p F c q pr vals n m V1 s1->szE a+k<=m->f a s1=.ok v s2->EM V0 d p F V2 s2 c->Cx V0 d p F c q pr vals n k V2 s2/\qBI d s2.mm u v:=fun {i a u s1 s2 V1 V2 m k v} h0 ha X1 hm e2 M2=>by
  have hmem:=List.mem_of_getElem? h0
  have P:=ev_snd X.S.procs hcs X.po a u s1 (hv.kids a hmem) ha X1.G X1.hv
  rw[hf]at e2
  obtain⟨G2,g2,q2⟩:=P.got e2
  exact⟨(X1.le hm).next g2 G2 M2,q2⟩
 have s1':∀{a:E},e.k=[a]->szE e=szE a+1:=fun h=>by rw[hsz,h];simp;omega
 have s2':∀{a b:E},e.k=[a,b]->szE e=szE a+szE b+1:=fun h=>by rw[hsz,h];simp;omega
 have s3':∀{a b c:E},e.k=[a,b,c]->szE e=szE a+szE b+szE c+1:=fun h=>by rw[hsz,h];simp;omega
 refine Tri.mono (x241 (R:=PX V0 d p F c G) ?_) fun _ _ h=>h
 have two:∀{a b:E} {u w':ByteArray},(9<=e.op/\e.op<=23/\e.op≠18/\e.op≠19/\e.op≠20/\e.op≠21)->e.k=[a,b]->qAo d (qAj d pr) a=(u,0)->qAo d (qAj d pr) b=(w',0)->(e.op≠14->e.op≠15->u=qBd/\w'=qBd) ->
   w241 (sa p) (sa q) e.op e.n e.s e.l V (PX V0 d p F c G):=by
  intro a b u w' h hk ha hb hint
  have h0:e.k[0]?=some a:=by rw[hk];rfl
  have h1:e.k[1]?=some b:=by rw[hk];rfl
  have hG:=hG0
  rw[cXTwo h,K h0,K h1]at hG
  obtain⟨k1,k2,k3,k4⟩:=qEs heV h0
  unfold w241
  have hs:=s2' hk
  refine qAB (by omega) (qAB (by omega) (qAB (by omega) (qAB (by omega) (qAB (by omega) (qAB (by omega) (qAB (by omega) (qAB (by omega) (qAB (by omega) (qAB (by omega) (qAB (by omega) (qAB (by omega) (qAB (by omega) ?_))))))))))))
  refine⟨k1,by decide,k3,_,_,_,_,k4,PX.bind hG (kid h0 ha (X.le (by omega))) fun v s1 V1 e1 M1 hG1=>?_⟩
  obtain⟨X1,hv1⟩:=go (k:=szE b+1) h0 ha X (by omega) e1 M1
  obtain⟨l1,l2,l3,l4⟩:=qEs (he.sub M1.sub) h1
  refine⟨l1,by decide,l3,_,_,_,_,l4,PX.bind hG1 (kid h1 hb (X1.le (by omega))) fun w s2 V2 e2 M2 hG2=>?_⟩
  obtain⟨X2,hv2⟩:=go (k:=1) h1 hb X1 (by omega) e2 M2
  have g2:=((ev_snd X.S.procs hcs X.po b w' s1 (hv.kids b (List.mem_of_getElem? h1)) hb X1.G X1.hv).got (by rw[hf]at e2;exact e2)).2.1
  have hv1:=g2.val hv1
  obtain⟨gs2,ns2,ls2,nd2,hat2,L2⟩:=M2.ex
  obtain⟨m1,m2,m3,m4⟩:=qEs (he.sub M2.sub) h0
  have hcm:s2.cm+1<=16000000:=by have h1:=X2.w;have h2:=X2.tk;have h3:=X2.S.fuel;unfold BW at h1;omega
  have hib:intB d (qAj d pr) e.k=decide (u=qBd):=by rw[hk];show decide ((qAo d (qAj d pr) a).1=qBd)=_;rw[ha]
  rw[hib]at hG2
  have ty:=typC (F:=F) X2.S M2 X2.fr X2.po X2.G X2.hv a u (hv.kids a (List.mem_of_getElem? h0)) (he.kids a (List.mem_of_getElem? h0)) ha
  have hM:EM V0 d p F (V2.set p (.cells (qBG d F s2.tk c ((s2.cm+1:Nat):Int) gs2 ns2 ls2).toArray 128 (0,0))) { s2 with cm:=s2.cm+1 } c:=MA.set (row':=qBG d F s2.tk c ((s2.cm+1:Nat):Int)) ntE M2.p0 hat2 L2 rfl rfl rfl rfl
  have yes:∀{x:Int},(e.op=16∨e.op=17∨((e.op=14∨e.op=15)/\u=qBd))->qEV e.op v w=.ok x->G=.ok x { s2 with cm:=s2.cm+1 }:=fun hc hx=>by
   rw[hG2,hx];unfold cntX;rw[if_pos (by simpa using hc)];rfl
  have no:∀{x:Int},¬(e.op=16∨e.op=17∨((e.op=14∨e.op=15)/\u=qBd))->qEV e.op v w=.ok x->G=.ok x s2:=fun hc hx=>by
   rw[hG2,hx];unfold cntX;rw[if_neg (by simpa using hc)];rfl
  have eqB:∀{x:Bool},(e.op=14∨e.op=15)->qEV e.op v w=.ok (trI x)->((decide (v=w))==(decide (e.op=14)))=x->_:=fun {x} ho hx hb=>by
   refine(⟨m1,by decide,m3,_,_,_,_,m4,ty.call ⟨_,rfl,fun hi=>⟨nn,nn,_,qAd hat2 13 1 (by simp[qBG]),⟨by omega,by omega⟩,nn,nn,StT.at2 (off:=13) hat2 (by simp[qBG]) ?_⟩,fun hi=>?_⟩⟩:¬e.l.p=none/\(0:Int)<=(0:Int)/\0<(e.l.n:Int)/\∃v16 v17 v18 v19,V2.rowp e.l.p ((0:Int).toNat*4) 4=some [uI v16,uI v17,uS v18,uL v19] /\
    TT 273 #[uP (sa p),uP (sa q),uA #[uI v16,uI v17,uS v18,uL v19]] V2 fun e' V3=>∃v20,e'=rV (uS v20) /\
    Br (v20=(qAr [105,110,116]))
    (¬(some (⟨p,0,none⟩:Addr))=none/\¬(some (⟨p,0,none⟩:Addr))=none/\∃v21,V3.rowp (sa p) ((13:Int).toNat*1) 1=some [uI v21] /\
    IR (v21+1)/\¬(some (⟨p,0,none⟩:Addr))=none/\¬(some (⟨p,0,none⟩:Addr))=none/\StT (qAa (sa p) 13) 0 [uI (v21+1)] V3 fun V4 =>
    TT 274 #[uB ((decide (v=w))==(decide (e.op=14)))] V4 fun e' V5=>∃v22,e'=rV (uI v22)/\PX V0 d p F c G (rV (uI v22)) V5)
    (TT 274 #[uB ((decide (v=w))==(decide (e.op=14)))] V3 fun e' V4=>∃v21,e'=rV (uI v21)/\PX V0 d p F c G (rV (uI v21)) V4))
   ·rw[hb]
    exact c274.call ⟨_,rfl,PX.ok (yes (.inr (.inr ⟨ho,hi⟩)) hx) hM⟩
   ·rw[hb]
    exact c274.call ⟨_,rfl,PX.ok (no (fun k=>k.elim (fun k=>by omega) fun k=>k.elim (fun k=>by omega) fun k=>hi k.2) hx) M2⟩
  have cmB:∀{x:Bool},(e.op=16∨e.op=17)->qEV e.op v w=.ok (trI x)->(¬(some (⟨p,0,none⟩:Addr))=none/\¬(some (⟨p,0,none⟩:Addr))=none/\∃v16,V2.rowp (sa p) ((13:Int).toNat*1) 1=some [uI v16] /\
    IR (v16+1)/\¬(some (⟨p,0,none⟩:Addr))=none/\¬(some (⟨p,0,none⟩:Addr))=none/\StT (qAa (sa p) 13) 0 [uI (v16+1)] V2 fun V3 =>
    TT 274 #[uB x] V3 fun e' V4=>∃v17,e'=rV (uI v17)/\PX V0 d p F c G (rV (uI v17)) V4):=fun {x} ho hx =>
   ⟨nn,nn,_,qAd hat2 13 1 (by simp[qBG]),⟨by omega,by omega⟩,nn,nn,StT.at2 (off:=13) hat2 (by simp[qBG]) (c274.call ⟨_,rfl,PX.ok (yes (by omega) hx) hM⟩)⟩
  refine⟨fun h14=>eqB (x:=decide (v=w)) (.inl h14) ?_ ?_,fun h14=>⟨fun h15=>eqB (x:=!decide (v=w)) (.inr h15) ?_ ?_,fun h15=>⟨fun h16=>cmB (.inl h16) ?_,fun h16=>⟨fun h17=>cmB (.inr h17) ?_,fun h17=>?_⟩⟩⟩⟩
  ·rw[show e.op=14 from h14];rfl
  ·rw[decide_eq_true (show e.op=14 from h14)];cases decide (v=w) <;> rfl
  ·rw[show e.op=15 from h15];rfl
  ·rw[decide_eq_false (show ¬e.op=14 from h14)];cases decide (v=w) <;> rfl
  ·rw[show e.op=16 from h16];rfl
  ·rw[show e.op=17 from h17];rfl
  ·have h14:¬e.op=14:=h14
   have h15:¬e.op=15:=h15
   have h16:¬e.op=16:=h16
   have h17:¬e.op=17:=h17
   obtain⟨rfl,rfl⟩:=hint h14 h15
   refine PB.last (s:=s2) ?_ M2 (c275 (by omega) (qBv.1 hv1) (qBv.1 hv2))
   rw[hG2];unfold cntX;rw[if_neg (by omega)]
 have hkind:=kindX (sc:=qAj d pr) rfl hv ht
 cases hkind with
 | int h hn =>
  unfold w241
  exact qAH h (PX.ok (hG0.trans (cX1 (.inl h))) X.M)
 | bool h hn =>
  unfold w241
  exact qAB (by omega) (qAH h (PX.ok (hG0.trans (cX1 (.inr h))) X.M))
 | nil h hn =>
  unfold w241
  repeat refine qAB (h ▸ (by decide)) ?_
  exact qAH h (PX.ok (hG0.trans (cX3 h)) X.M)
 | var h hl hne =>
  unfold w241
  have hG:=hG0.trans (cX4 h)
  have hra:=hra0.sub L.sub
  repeat refine qAB (h ▸ (by decide)) ?_
  refine qAH h ⟨nn,nn,fa,qAd hq 0 1 (by simp),(c242 hra).call ⟨_,rfl,?_⟩⟩
  have hvg:=(qAi X.G.mem).2.2.2.1
  rcases qHJ X.G X.hv X.po.vars hl hne with⟨i,g,v,h1,h2,h3,h4,-,h6⟩|⟨i,g,v,h0,h1,h2,h3,h4,-,h6⟩
  ·rw[h1]
   obtain⟨g1,g2,g3,g4⟩:=gAt (hrb0.sub L.sub) h3
   exact qAH (by omega) ⟨nn,nn,fb,qAd hq 1 1 (by simp),g1,g2,g3,_,g4,PX.ok (hG.trans h6) X.M⟩
  ·rw[h0]
   have X1:=X.le (k:=1) (by omega)
   refine qAB (by decide) ⟨nn,nn,pnn,d.gs,qAd hat 2 1 (by simp[qBG]),(c242 hd.globals).call ⟨_,rfl,?_⟩⟩
   rw[h1]
   refine Tri.mono (c243 X.M (Cx.fit (m:=0) X1)) ?_
   rintro _ V3 ⟨rfl,M3⟩
   obtain⟨gs3,ns3,ls3,nd3,hat3,L3⟩:=M3.ex
   obtain⟨g1,g2,g3,g4⟩:=gAt (L3.glob.rows (fun _=>rfl) (by decide)) (i:=i) (v:=v) h3
   exact⟨rfl,nn,nn,pnn,gs3,qAd hat3 8 1 (by simp[qBG]),g1,g2,g3,_,g4,PX.ok (hG.trans h6) M3⟩
 | @fld _ u a h hk ha hf' =>
  unfold w241
  have h0:e.k[0]?=some a:=by rw[hk];rfl
  have hG:=hG0
  rw[cX5 h,K h0]at hG
  obtain⟨k1,k2,k3,k4⟩:=qEs heV h0
  have hs:=s1' hk
  repeat refine qAB (h ▸ (by decide)) ?_
  refine qAH h ⟨k1,by decide,k3,_,_,_,_,k4,PX.bind hG (kid h0 ha (X.le (by omega))) fun v s1 V1 e1 M1 hG1=>?_⟩
  obtain⟨X1,hv1⟩:=go (k:=1) h0 ha X (by omega) e1 M1
  refine⟨fun hz=>qIZ (PX.bad ?_ M1),fun hz=>?_⟩
  ·rw[hG1];unfold fldX;rw[if_pos (show v=0 from hz)]
  have hz:¬v=0:=hz
  obtain⟨k,i,j,tt,g,fs,w,rfl,e2,e3,e4,e5,e6,e7,e8,e9,-⟩:=qHu X1.G hf' hv1 hz
  refine(c244 X.S M1 e2 e3).call ⟨_,rfl,?_⟩
  rw[e6]
  refine Tri.mono (c243 M1 (Cx.fit (m:=0) X1)) ?_
  rintro _ V3 ⟨rfl,M3⟩
  obtain⟨gs3,ns3,ls3,nd3,sl3,hat3,L3,-,hI,n1,n2,n3,n4,m1,m2,m3,m4⟩:=nodeAt M3 (k:=k) (i:=i) e2 e8
  rw[show ((k:Int)+1-1)=(k:Int) by omega]
  refine⟨rfl,nn,nn,pnn,ns3,qAd hat3 9 1 (by simp[qBG]),hI,n1,n2,n3,qAh n1,_,_,n4,m1,m2,m3,_,m4,PX.ok ?_ M3⟩
  rw[hG1]
  unfold fldX
  rw[if_neg hz,show ((k:Int)+1-1).toNat=k by omega,e2]
  simp only
  rw[e5,e6,Int.toNat_natCast,e8];rfl
 | new h hn =>
  unfold w241
  have hG:=hG0.trans (cX6 h)
  repeat refine qAB (h ▸ (by decide)) ?_
  have hnn:=(L.nodes.rows (fun _=>rfl) (by decide)).n_eq
  have hlen:=L.len
  refine qAH h ⟨nn,nn,pnn,ns,qAd hat 9 1 (by simp[qBG]),fun hl=>qIZ (PX.bad ?_ X.M),fun hl=>?_⟩
  ·have hl:4096<=(ns.n:Int):=hl
   rw[hG];unfold newX;rw[if_pos (by omega)]
  have hl:¬4096<=(ns.n:Int):=hl
  obtain⟨tt,htm,hte⟩:=List.any_eq_true.1 hn
  have hte:tt.name=e.s:=of_decide_eq_true hte
  obtain⟨j,hj⟩:=List.mem_iff_getElem?.1 htm
  have hidx:qDQ d e.s=(j:Int):=hte ▸ (qBy (qAi X.G.mem).1).2.1 j tt hj
  have hfo:qAq d (j:Int)=tt.fields:=qBr hj rfl
  refine(c270 X.S X.M).call ⟨_,rfl,?_⟩
  rw[hidx]
  have htn:=hd.types.n_eq
  have hjl:=(List.getElem?_eq_some_iff.1 hj).1
  obtain⟨y,-,hy,-,-,hp,hz,hrow⟩:=hd.types.get (i:=j) (by omega)
  rw[hj]at hy;cases hy
  have hfn:=(hd.typesOk tt htm).fields.n_eq
  have hfl:=(lens12 X.S.valid).2 tt htm
  refine⟨nn,nn,pnn,ns,qAd hat 9 1 (by simp[qBG]),nn,nn,pnn,d.ts,qAd hat 1 1 (by simp[qBG]),hp,hz,by omega,qAh hp,_,_,hrow,mk31 (n:=tt.fs.n) rfl rfl (by omega) fun g hg=>⟨⟨some ⟨g,0,none⟩,tt.fs.n,tt.fs.n⟩,rfl,?_⟩⟩
  obtain⟨V2,hV2⟩:∃V2,V2=V.set g (.cells (madeCells (Value.int .i64 0).cells (tt.fs.n*1)) 3 (0,0)):=⟨_,rfl⟩
  have hown:=qHs hg (n:=tt.fs.n) (by omega)
  rw[<- hV2]at hown ⊢
  have hat2:=hown.sub _ _ hat
  refine⟨qAI hat2 9 0 1 (by simp[qBG]),pnn,nn,nn,qAI hat2 9 0 1 (by simp[qBG]),pnn,nn,nn,fun tb htb=>?_⟩
  refine L.new (n:=⟨(j:Int),⟨some ⟨g,0,none⟩,tt.fs.n,tt.fs.n⟩,List.replicate tt.fs.n 0⟩) hown htb rfl rfl (by omega) fun s3 V3 L3 hk3=>⟨s3,rfl,nn,nn,pnn,?_⟩
  have hat3:=hk3 _ _ hat2 (notBlk hat ntE L.nodes (.inr (.inl rfl)))
  refine StT.at2 (off:=9) hat3 (by simp[qBG]) ?_
  have M4:EM V0 d p F (V3.set p (.cells (qBG d F s.tk c s.cm gs s3 ls).toArray 128 (0,0))) { s with ns:=s.ns++[((j:Int),List.replicate tt.fs.n 0)] } c :=
   ⟨X.M.p0,gs,s3,ls,nd++[_],Mem.set_same _ _ _,L3.put (qHE hat3 ntE) X.M.p0 _⟩
  have hn3:=(L3.nodes.rows (fun _=>rfl) (by decide)).n_eq
  rw[List.length_append,List.length_singleton]at hn3
  show ¬(some (⟨p,0,none⟩:Addr):Option Addr)=none/\_
  refine⟨nn,nn,pnn,s3,qAd mss 9 1 (by simp[qBG]),?_⟩
  rw[show ((s3.n:Nat):Int)=(s.ns.length:Int)+1 by omega]
  have hfit:s.lg.length+1<=2147483648:=Cx.fit (m:=0) (X.le (k:=0+1) (by omega))
  refine Tri.mono (c243 M4 hfit) ?_
  rintro _ V7 ⟨rfl,M7⟩
  obtain⟨gs7,ns7,ls7,nd7,hat7,L7⟩:=M7.ex
  have hn7:=(L7.nodes.rows (fun _=>rfl) (by decide)).n_eq
  have hl7:=L7.len
  have hl7:nd7.length=(s.ns++[((j:Int),List.replicate tt.fs.n 0)]).length:=hl7
  rw[List.length_append,List.length_singleton]at hl7
  refine⟨rfl,nn,nn,pnn,ns7,qAd hat7 9 1 (by simp[qBG]),?_⟩
  rw[show ((ns7.n:Nat):Int)=(s.ns.length:Int)+1 by omega]
  refine PX.ok ?_ M7
  rw[hG];unfold newX
  rw[if_neg (by omega),hidx,hfo,<- hfn];rfl
 | @call pr' i h hc hr =>
  unfold w241
  have hG:=hG0.trans (cX7 h)
  rw[hc.idx]at hG
  repeat refine qAB (h ▸ (by decide)) ?_
  refine qAH h (PX.last hG ?_)
  rw[hf]
  refine callC hR X he hc hv fun a hm u W V' s' hW X' ha=>?_
  exact ih a hm u W V' s' c q pr vals X' (hv.kids a hm) ((he.kids a hm).sub hW) ha
 | @neg a h hk ha =>
  unfold w241
  have h0:e.k[0]?=some a:=by rw[hk];rfl
  have hG:=hG0
  rw[cX8 h,K h0]at hG
  obtain⟨k1,k2,k3,k4⟩:=qEs heV h0
  have hs:=s1' hk
  repeat refine qAB (h ▸ (by decide)) ?_
  refine qAH h ⟨k1,by decide,k3,_,_,_,_,k4,PX.bind hG (kid h0 ha (X.le (by omega))) fun v s1 V1 e1 M1 hG1=>?_⟩
  obtain⟨X1,hv1⟩:=go (k:=1) h0 ha X (by omega) e1 M1
  have:=qBv.1 hv1
  rw[<- Int.zero_sub]at hG1
  exact⟨⟨by omega,by omega⟩,PB.last hG1 M1 c271⟩
 | @not a h hk ha =>
  unfold w241
  have h0:e.k[0]?=some a:=by rw[hk];rfl
  have hG:=hG0
  rw[cX18 h,K h0]at hG
  obtain⟨k1,k2,k3,k4⟩:=qEs heV h0
  have hs:=s1' hk
  repeat refine qAB (h ▸ (by decide)) ?_
  refine qAH h ⟨k1,by decide,k3,_,_,_,_,k4,PX.bind hG (kid h0 ha (X.le (by omega))) fun v s1 V1 e1 M1 hG1=>?_⟩
  obtain⟨X1,hv1⟩:=go (k:=1) h0 ha X (by omega) e1 M1
  have:=qAT.1 hv1
  exact⟨⟨by omega,by omega⟩,PX.ok hG1 M1⟩
 | @log a h hk ha =>
  unfold w241
  have h0:e.k[0]?=some a:=by rw[hk];rfl
  have hG:=hG0
  rw[cX24 h,K h0]at hG
  obtain⟨k1,k2,k3,k4⟩:=qEs heV h0
  have hs:=s1' hk
  repeat refine qAB (h ▸ (by decide)) ?_
  refine qAH h ⟨k1,by decide,k3,_,_,_,_,k4,PX.bind hG (kid h0 ha (X.le (by omega))) fun v s1 V1 e1 M1 hG1=>?_⟩
  obtain⟨X1,hv1⟩:=go (k:=1) h0 ha X (by omega) e1 M1
  have hr:=qBv.1 hv1
  refine GenK.max2 rfl rfl ⟨_,rfl,?_⟩
  obtain⟨w,hw⟩:∃w:Nat,(if (1:Int)<v then v else 1)=(w:Int):=⟨(if (1:Int)<v then v else 1).toNat,by split <;> omega⟩
  rw[hw]
  have hw1:1<=w/\(w:Int)<=1099511627776:=by split at hw <;> omega
  have hb:Nat.log2 w<64:=(Nat.log2_lt (by omega)).2 (by omega)
  have hlen:lenN w=(Nat.log2 w:Int)+1:=by unfold lenN;rw[if_neg (by omega)]
  refine⟨inU _ (by omega),(c272 (by omega)).call ⟨_,rfl,?_⟩⟩
  rw[hlen]
  refine⟨⟨by omega,by omega⟩,PX.ok ?_ M1⟩
  rw[hG1]
  have:logV v=(Nat.log2 w:Int):=by
   unfold logV
   by_cases hv1:1<v
   ·rw[if_pos hv1]at hw;rw[hw,Int.toNat_natCast]
   ·rw[if_neg hv1]at hw
    have:w=1:=by omega
    subst this
    have:v.toNat=0∨v.toNat=1:=by omega
    rcases this with h|h <;> rw[h] <;> rfl
  rw[this,show (Nat.log2 w:Int)+1-1=(Nat.log2 w:Int) by omega]
 | @and a b h hk ha hb =>
  unfold w241
  have h0:e.k[0]?=some a:=by rw[hk];rfl
  have h1:e.k[1]?=some b:=by rw[hk];rfl
  have hG:=hG0
  rw[cX19 h,K h0,K h1]at hG
  obtain⟨k1,k2,k3,k4⟩:=qEs heV h0
  have hs:=s2' hk
  repeat refine qAB (h ▸ (by decide)) ?_
  refine qAH h ⟨k1,by decide,k3,_,_,_,_,k4,PX.bind hG (kid h0 ha (X.le (by omega))) fun v s1 V1 e1 M1 hG1=>?_⟩
  obtain⟨X1,hv1⟩:=go (k:=szE b) h0 ha X (by omega) e1 M1
  obtain⟨l1,l2,l3,l4⟩:=qEs (he.sub M1.sub) h1
  refine⟨fun hz=>PX.ok ?_ M1,fun hz=>⟨l1,by decide,l3,_,_,_,_,l4,PX.last ?_ (kid h1 hb X1)⟩⟩
  ·rw[hG1,if_pos (show v=0 from hz)]
  ·rw[hG1,if_neg (show ¬v=0 from hz)]
 | @or a b h hk ha hb =>
  unfold w241
  have h0:e.k[0]?=some a:=by rw[hk];rfl
  have h1:e.k[1]?=some b:=by rw[hk];rfl
  have hG:=hG0
  rw[cX20 h,K h0,K h1]at hG
  obtain⟨k1,k2,k3,k4⟩:=qEs heV h0
  have hs:=s2' hk
  repeat refine qAB (h ▸ (by decide)) ?_
  refine qAH h ⟨k1,by decide,k3,_,_,_,_,k4,PX.bind hG (kid h0 ha (X.le (by omega))) fun v s1 V1 e1 M1 hG1=>?_⟩
  obtain⟨X1,hv1⟩:=go (k:=szE b) h0 ha X (by omega) e1 M1
  obtain⟨l1,l2,l3,l4⟩:=qEs (he.sub M1.sub) h1
  have hv1:=qAT.1 hv1
  refine⟨fun hz=>PX.ok ?_ M1,fun hz=>⟨l1,by decide,l3,_,_,_,_,l4,PX.last ?_ (kid h1 hb X1)⟩⟩
  ·have hz:v=1:=hz
   rw[hG1,if_neg (by omega)]
  ·have hz:¬v=1:=hz
   rw[hG1,if_pos (by omega)]
 | @cond a b c' _ u w h hk ha hb hc hu hw _ =>
  unfold w241
  have h0:e.k[0]?=some a:=by rw[hk];rfl
  have h1:e.k[1]?=some b:=by rw[hk];rfl
  have h2:e.k[2]?=some c':=by rw[hk];rfl
  have hG:=hG0
  rw[cX21 h,K h0,K h1,K h2]at hG
  obtain⟨k1,k2,k3,k4⟩:=qEs heV h0
  have hs:=s3' hk
  repeat refine qAB (h ▸ (by decide)) ?_
  refine qAH h ⟨k1,by decide,k3,_,_,_,_,k4,PX.bind hG (kid h0 ha (X.le (by omega))) fun v s1 V1 e1 M1 hG1=>?_⟩
  obtain⟨X1,hv1⟩:=go (k:=szE b+szE c') h0 ha X (by omega) e1 M1
  obtain⟨l1,l2,l3,l4⟩:=qEs (he.sub M1.sub) h1
  obtain⟨m1,m2,m3,m4⟩:=qEs (he.sub M1.sub) h2
  have hv1:=qAT.1 hv1
  refine⟨fun hz=>⟨l1,by decide,l3,_,_,_,_,l4,PX.last ?_ (kid h1 hb (X1.le (by omega)))⟩,fun hz=>⟨m1,by decide,m3,_,_,_,_,m4,PX.last ?_ (kid h2 hc (X1.le (by omega)))⟩⟩
  ·have hz:v=1:=hz
   rw[hG1,if_neg (by omega)]
  ·have hz:¬v=1:=hz
   rw[hG1,if_pos (by omega)]
 | @eq a b u w h hk ha hb hf'=>exact two (by omega) hk ha hb fun _ _=>by omega
 | @cmp a b h hk ha hb=>exact two (by omega) hk ha hb fun _ _=>⟨rfl,rfl⟩
 | @ari a b h hk ha hb=>exact two (by omega) hk ha hb fun _ _=>⟨rfl,rfl⟩
end
section
variable{W V0 V V1 V':Mem}{d:Ds}{p F c q:Nat}{s:St}{pr:Pr}{vals:List Int}
theorem MA.poke{ty:Nat}{row:Sl->Sl->Sl->List Value}(h:MA ty V0 p row V s){b:Nat}(hb:V0 b≠none)(o:Obj):MA ty (V0.set b o) p row (V.set b o) s:=by
 obtain⟨gs,ns,ls,nd,hat,L⟩:=h.ex
 have hne:p≠b:=fun e=>hb (e ▸ h.p0)
 exact⟨by rw[Mem.set_ne hne];exact h.p0,gs,ns,ls,nd,by grind [Mem.set_ne],L.poke hb o⟩
structure FrM (W V0:Mem) (q:Nat) (pr:Pr) (vals:List Int):Prop where
 sub:W.sub V0
 ex:∃a b:Sl,W q=some (.cells #[a.v,b.v] 243 (0,0))/\qAc W a 2 (pr.vars.map Fld.row)/\Sx.Own W V0 3 1 b (vals.flatMap qAe)
theorem FrM.fv(h:FrM W V0 q pr vals):Fv V0 q pr vals:=by
 obtain⟨a,b,h1,h2,h3⟩:=h.ex
 exact⟨a,b,h.sub _ _ h1,h2.sub h.sub,h3.rows (fun _=>rfl) (by decide)⟩
theorem frStore{b:Sl}(own:Sx.Own W V0 3 1 b (vals.flatMap qAe))(M:EM V0 d p F V s c){i:Nat}(hi:i<vals.length){v:Int}{Q:Mem->Prop}
  (hQ:∀V0' V',Sx.Own W V0' 3 1 b ((vals.set i v).flatMap qAe)->EM V0' d p F V' s c->Q V'):StT (qAa b.p (i*1)) 0 [.int .i64 v] V Q:=by
 rw[Nat.mul_one]
 rcases own.cases0 with⟨h1,h2,h3⟩|⟨hc,g,cur,h1,h2,h3,h4,h5,h6,h7⟩
 ·rw[qAW]at h3
  have:vals=[]:=by simpa using h3
  rw[this]at hi;simp at hi
 have hle:b.n*1<=b.c*1:=Nat.mul_le_mul_right _ h4
 have hn:=own.len
 rw[qAW,List.length_map]at hn
 have hg0:V0 g≠none:=by rw[h3];simp
 rw[h1]
 have e:(cur.toList.take i++[Value.int .i64 v]++cur.toList.drop (i+1))=cur.toList.set i (.int .i64 v):=qDI _ _ _ (by simp;omega)
 refine StT.at2 (off:=i) (M.sub _ _ h3) (by simp;omega) (hQ (V0.set g _) _ ⟨own.sub.set h2 _,?_,.inr ⟨g,_,h1,h2,Mem.set_same _ _ _,h4,h5,?_,?_⟩⟩ (M.poke hg0 _))
 ·rw[qAW,List.length_map,List.length_set];exact hn
 ·simp_all
 ·rw[show i+[Value.int .i64 v].length=i+1 from rfl,e]
  show (cur.toList.set i (.int .i64 v)).take (b.n*1)=_
  rw[List.take_set,h7,qAW,qAW,List.map_set]
def PS(W:Mem)(d:Ds)(p F c q:Nat)(pr:Pr)(r:Rx Rt):Ending->Mem->Prop:=fun e V'=>match r with
 | .ok rt s=>e=.returned (.agg #[.bool rt.2.isSome,.int .i64 (rt.2.getD 0)])/\∃V0',FrM W V0' q pr rt.1/\EM V0' d p F V' s c
 | .bad k s=>e=fltE k/\∃c',EM W d p F V' s c'
theorem PS.bind{f:FuncId}{args:Array Value}{r:Rx Int}{G:Rx Rt}{h:Int->St->Rx Rt}{K:Int->Mem->Prop}(hW:W.sub V0)(hG:G=r.bind h)(H:Tri Tryz.prog f args V (PX V0 d p F c r))(ho:∀v s V',r=.ok v s->EM V0 d p F V' s c->G=h v s->K v V') :
  Tri Tryz.prog f args V fun e V'=>(∃v,e=.returned (.int .i64 v)/\K v V')∨∃ch,e=.panicked ch/\PS W d p F c q pr G e V' :=
 PX.split H (fun k s c' V' e hm=>by subst e;rw[hG];exact⟨rfl,c',hm.narrow hW⟩) fun v s V' e hm=>ho v s V' e hm (by rw[hG,e];rfl)
theorem PS.ok{G:Rx Rt}{rt:Rt}(hG:G=.ok rt s)(hf:FrM W V0 q pr rt.1)(M:EM V0 d p F V s c){b:Bool}{v:Int}(hb:b=rt.2.isSome)(hv:v=rt.2.getD 0):PS W d p F c q pr G (.returned (.agg #[.bool b,.int .i64 v])) V:=by
 rw[hG,hb,hv];exact⟨rfl,V0,hf,M⟩
theorem PS.bad{G:Rx Rt}{k:Int}(hG:G=.bad k s)(hW:W.sub V0)(M:EM V0 d p F V s c):PS W d p F c q pr G (fltE k) V:=by rw[hG];exact⟨rfl,c,M.narrow hW⟩
theorem PS.split{f:FuncId}{args:Array Value}{r:Rx Rt}{K:Bool->Int->Mem->Prop}{R:Ending->Mem->Prop}(H:Tri Tryz.prog f args V (PS W d p F c q pr r))(hb:∀k s c' V',r=.bad k s->EM W d p F V' s c'->R (fltE k) V')(ho:∀rt s V0' V',r=.ok rt s->FrM W V0' q pr rt.1->EM V0' d p F V' s c->K rt.2.isSome (rt.2.getD 0) V') :
  Tri Tryz.prog f args V fun e V'=>(∃b v,e=.returned (.agg #[.bool b,.int .i64 v])/\K b v V')∨∃ch,e=.panicked ch/\R e V' :=
 Tri.mono H fun e V' h=>by
  cases r with
  | ok rt s=>obtain⟨h1,V0',h2,h3⟩:=h;grind
  | bad k s =>
   obtain⟨he,c',hm⟩:=h
   subst he
   exact .inr ⟨_,rfl,hb k s c' V' rfl hm⟩
structure Sx1 (W V0:Mem) (d:Ds) (p F c q:Nat) (pr:Pr) (vals:List Int) (n m:Nat) (V:Mem) (s:St):Prop where
 S:ES W d F
 fr:FrM W V0 q pr vals
 po:qCT d pr
 G:qAz d s.mm
 hv:qAg d s.mm pr.vars vals=true
 M:EM V0 d p F V s c
 tk:s.tk<=F
 n:F<n+s.tk
 w:BW m s
theorem Sx1.cx{n m:Nat}(X:Sx1 W V0 d p F c q pr vals n m V s):Cx V0 d p F c q pr vals n m V s:=⟨X.S.sub X.fr.sub,X.fr.fv,X.po,X.G,X.hv,X.M,X.tk,X.n,X.w⟩
theorem Sx1.next{n m k:Nat}{V0':Mem}{vals':List Int}{s':St}(X:Sx1 W V0 d p F c q pr vals n (m+k) V s)(g:Gr F m s s')(G:qAz d s'.mm)(hf:FrM W V0' q pr vals')(hv:qAg d s'.mm pr.vars vals'=true)(M:EM V0' d p F V' s' c):Sx1 W V0' d p F c q pr vals' n k V' s' :=
 ⟨X.S,hf,X.po,G,hv,M,g.fu X.tk,by have:=g.tk;have:=X.n;omega,X.w.next g⟩
theorem Sx1.le{n m k:Nat}(X:Sx1 W V0 d p F c q pr vals n m V s)(h:k<=m):Sx1 W V0 d p F c q pr vals n k V s:=⟨X.S,X.fr,X.po,X.G,X.hv,X.M,X.tk,X.n,X.w.le h⟩
variable(d p F) in
def SC(n:Nat):Prop:=∀(l:List S) (W V0 V:Mem) (s:St) (c q:Nat) (pr:Pr) (vals:List Int) (sl:Sl),Sx1 W V0 d p F c q pr vals n 0 V s->(∀x∈l,TyS d pr x)->(∀x∈l,S.Ok W x)->qAc W sl 5 (l.map S.row) ->
 Tri Tryz.prog 164 #[pv p,pv q,sl.v] V (PS W d p F c q pr (qFB d F n c pr l vals s))
variable(d p F) in
def StC(n:Nat):Prop:=∀(x:S) (W V0 V:Mem) (s:St) (c q:Nat) (pr:Pr) (vals:List Int),Sx1 W V0 d p F c q pr vals (n+1) 0 V s->TyS d pr x->S.Ok W x ->
 Tri Tryz.prog 199 #[pv p,pv q,x.v] V (PS W d p F c q pr (stX d F (qFB d F n) c pr (n+1) x vals s))
theorem stsC{n:Nat}(H:StC d p F n):SC d p F (n+1):=by
 intro l W V0 V s c q pr vals sl X hty hok hrows
 obtain⟨f,hf⟩:∃f,f=stX d F (qFB d F n) c pr (n+1):=⟨_,rfl⟩
 obtain⟨G,hG⟩:∃G:Rx Rt,G=qGy f l vals s:=⟨_,rfl⟩
 show Tri _ _ _ _ (PS W d p F c q pr (qGy (stX d F (qFB d F n) c pr (n+1)) l vals s))
 rw[<- hf,<- hG]
 refine Tri.mono (x164 (R:=PS W d p F c q pr G) ?_) fun _ _ h=>h
 unfold w164
 refine qIY l.length (fun i V1=>∃V0' vals' s',Sx1 W V0' d p F c q pr vals' (n+1) 0 V1 s'/\G=qGy f (l.drop i) vals' s') ⟨V0,vals,s,X,hG⟩ ?_
 rintro i V1 J hi ⟨V0',vals',s',X',hG'⟩ hJ
 have hr:=hrows.sub (X'.fr.sub.trans X'.M.sub)
 refine⟨fun hlt=>?_,fun hge=>?_⟩
 ·obtain⟨x,hxm,hx,hdr,hil,hp,hz,hrow⟩:=hr.get hlt
  rw[S.row_eq]at hrow
  rw[hdr]at hG'
  have hG2:G=(f x vals' s').bind fun r st=>match r.2 with|some _=>.ok r st|none=>qGy f (l.drop (i+1)) r.1 st:=hG'
  have P:=st_snd (F:=F) (c:=c) (n:=n+1) X'.S.procs (qGl X'.S.procs n) X'.po (hty x hxm) X'.G X'.hv
  have Hx:=H x W V0' V1 s' c q pr vals' X' (hty x hxm) (hok x hxm)
  rw[<- hf]at Hx P
  rw[show x.v=.agg #[.int .i64 x.op,.string x.s,.slice x.el.p x.el.n x.el.c,.slice x.ll.p x.ll.n x.ll.c,.slice x.xl.p x.xl.n x.xl.c] by unfold S.v;rw[S.row_eq];rfl]at Hx
  refine⟨hp,hz,hlt,_,_,_,_,_,hrow,PS.split Hx (fun k s2 c' V2 e2 M2=>?_) fun rt s2 V0'' V2 e2 hf2 M2=>?_⟩
  ·rw[hG2,e2];exact⟨rfl,c',M2⟩
  obtain⟨G2,g2,q2⟩:=P.got e2
  rw[e2]at hG2
  cases hrt:rt.2 with
  | some v =>
   have hG3:G=.ok rt s2:=by rw[hG2];show (match rt.2 with|some _=>_|none=>_)=_;rw[hrt]
   exact⟨fun _=>PS.ok hG3 hf2 M2 (by rw[hrt]) (by rw[hrt]),fun h=>absurd rfl h⟩
  | none =>
   have hG3:G=qGy f (l.drop (i+1)) rt.1 s2:=by rw[hG2];show (match rt.2 with|some _=>_|none=>_)=_;rw[hrt]
   exact⟨(fun h=>by cases h),fun _=>⟨hr.succ hlt,hJ hil _ ⟨V0'',rt.1,s2,X'.next (m:=0) g2 G2 hf2 q2.1 M2,hG3⟩⟩⟩
 ·rw[(hr.done hge).1]at hG'
  exact PS.ok hG' X'.fr X'.M rfl rfl
end
section
variable{W V0 V V1 V':Mem}{d:Ds}{p F c q:Nat}{s:St}{pr:Pr}{vals:List Int}
theorem esAt{x:S}(h:S.Ok V x){i:Nat}{a:E}(ha:x.es[i]?=some a):¬x.el.p=none/\(i:Int)<(x.el.n:Int)/\V.rowp x.el.p (i*4) 4=some [.int .i64 a.op,.int .i64 a.n,.string a.s,.slice a.l.p a.l.n a.l.c]:=by
 have hr:=h.eRows
 have hn:=hr.n_eq
 have hl:=(List.getElem?_eq_some_iff.1 ha).1
 obtain⟨y,-,hy,-,hl2,hp,hz,hrow⟩:=hr.get (i:=i) (by omega)
 rw[ha]at hy;cases hy
 exact⟨hp,by omega,hrow⟩
theorem tickX_ok(h:s.tk<F):qJO F s=.ok () { s with tk:=s.tk+1 }:=by unfold qJO;rw[if_neg (by omega)]
theorem tickX_bad(h:F<=s.tk):qJO F s=.bad 20 s:=by unfold qJO;rw[if_pos h]
theorem Sx1.tick{n:Nat}(X:Sx1 W V0 d p F c q pr vals (n+1) 0 V s)(h:s.tk<F)(M:EM V0 d p F V' { s with tk:=s.tk+1 } c):Sx1 W V0 d p F c q pr vals n 4000 V' { s with tk:=s.tk+1 } :=
 ⟨X.S,X.fr,X.po,⟨X.G.valid,X.G.chk,X.G.mem⟩,X.hv,M,h,by have:=X.n;show F<n+(s.tk+1);omega,by have:=X.w;unfold BW at *;show s.lg.length+s.cm+4000<=4000*(s.tk+1);omega⟩
theorem Sx1.tick'{n:Nat}(X:Sx1 W V0 d p F c q pr vals n 0 V s)(h:s.tk<F)(M:EM V0 d p F V' { s with tk:=s.tk+1 } c):Sx1 W V0 d p F c q pr vals n 4000 V' { s with tk:=s.tk+1 } :=
 ⟨X.S,X.fr,X.po,⟨X.G.valid,X.G.chk,X.G.mem⟩,X.hv,M,h,by have:=X.n;show F<n+(s.tk+1);omega,by have:=X.w;unfold BW at *;show s.lg.length+s.cm+4000<=4000*(s.tk+1);omega⟩
theorem stC{n:Nat}(hE:ExprC d p F n)(hS:SC d p F n)(hR:CallC d p F n):StC d p F n:=by
 intro x W V0 V s c q pr vals X hty hok
 obtain⟨G,hG0⟩:∃G:Rx Rt,G=stX d F (qFB d F n) c pr (n+1) x vals s:=⟨_,rfl⟩
 rw[<- hG0]
 refine Tri.mono ((show x.v=.agg #[.int .i64 x.op,.string x.s,.slice x.el.p x.el.n x.el.c,.slice x.ll.p x.ll.n x.ll.c,.slice x.xl.p x.xl.n x.xl.c] by unfold S.v;rw[S.row_eq];rfl) ▸ x199 (R:=PS W d p F c q pr G) ?_) fun _ _ h=>h
 unfold w199
 have hF:=X.S.fuel
 refine Tri.mono (c240 hF X.M) ?_
 rintro e1 V1 (⟨hlt,rfl,M1⟩|⟨hge,rfl,rfl⟩)
 rotate_left
 ·refine .inr ⟨_,rfl,PS.bad (s:=s) ?_ X.fr.sub X.M⟩
  rw[hG0];unfold stX;rw[tickX_bad hge];rfl
 refine .inl ⟨rfl,?_⟩
 obtain⟨s1,hs1⟩:∃s1:St,s1={ s with tk:=s.tk+1 }:=⟨_,rfl⟩
 have X1:Sx1 W V0 d p F c q pr vals n 4000 V1 s1:=by rw[hs1];exact X.tick hlt M1
 have hG:G=bodyX d F (qFB d F n) c pr (n+1) x vals s1:=by rw[hG0];unfold stX;rw[tickX_ok hlt,hs1];rfl
 have hcs:=qGl (F:=F) X.S.procs n
 have okV:∀{V2:Mem} {V0':Mem},W.sub V0'->V0'.sub V2->S.Ok V2 x:=fun h1 h2=>hok.sub (h1.trans h2)
 -- an expression of the statement
 have ex:∀{i:Nat} {a:E} {u:ByteArray} {V2 V0':Mem} {vals':List Int} {s2:St} {m:Nat},x.es[i]?=some a->qAM a=true->qAo d (qAj d pr) a=(u,0)->Sx1 W V0' d p F c q pr vals' n m V2 s2->1000<=m ->
   Tri Tryz.prog 241 #[pv p,pv q,.agg #[.int .i64 a.op,.int .i64 a.n,.string a.s,.slice a.l.p a.l.n a.l.c]] V2 (PX V0' d p F c (evS d (qFB d F n) c pr vals' a s2)):=fun {i a u V2 V0' vals' s2 m} h0 hv ha X2 hm=>by
  have hp:=qCe hv
  exact hE a u V0' V2 s2 c q pr vals' (X2.cx.le (by omega)) hp.1 ((hok.eOk a (List.mem_of_getElem? h0)).sub X2.fr.sub) ha
 have go:∀{a:E} {u:ByteArray} {V2 V3 V0':Mem} {vals':List Int} {s2 s3:St} {m:Nat} {v:Int},qAM a=true->qAo d (qAj d pr) a=(u,0)->Sx1 W V0' d p F c q pr vals' n (1000+m) V2 s2->evS d (qFB d F n) c pr vals' a s2=.ok v s3->EM V0' d p F V3 s3 c ->
   Sx1 W V0' d p F c q pr vals' n m V3 s3/\qBI d s3.mm u v/\Gr F 1000 s2 s3:=fun {a u V2 V3 V0' vals' s2 s3 m v} hv ha X2 e M3=>by
  obtain⟨G3,g3,q3⟩:=(qFo (F:=F) (c:=c) X2.S.procs hcs X2.po hv ha X2.G X2.hv).got e
  exact⟨X2.next g3 G3 X2.fr (qAk (fun h=>g3.right h) X2.hv) M3,q3,g3⟩
 unfold bodyX at hG
 cases kindS hty with
 | @set a u t h he hv ht hl hne hf =>
  rw[if_pos h,he,List.getD_cons_zero]at hG
  have h0:x.es[0]?=some a:=by rw[he];rfl
  obtain⟨k1,k3,k4⟩:=esAt (okV X1.fr.sub X1.M.sub) h0
  refine qAH h ⟨k1,by decide,k3,_,_,_,_,k4,PS.bind X1.fr.sub hG (ex h0 hv ht X1 (by omega)) fun v s2 V2 e2 M2 hG2=>?_⟩
  obtain⟨X2,hv2,-⟩:=go (m:=3000) hv ht X1 e2 M2
  obtain⟨fa,fb,hq0,hra0,hrb0⟩:=X2.fr.ex
  have hW2:=X2.fr.sub.trans X2.M.sub
  have hq:=hW2 _ _ hq0
  refine⟨nn,nn,fa,qAd hq 0 1 (by simp),(c242 (hra0.sub hW2)).call ⟨_,rfl,?_⟩⟩
  unfold setX at hG2
  rcases qHJ X2.G X2.hv X2.po.vars hl hne with⟨i,g,w,h1,h2,h3,h4,-⟩|⟨i,g,w,h0',h1,h2,h3,h4,-⟩
  ·rw[h1]
   rw[if_pos (by omega),h1,Int.toNat_natCast]at hG2
   have hil:=(List.getElem?_eq_some_iff.1 h3).1
   have hbn:=((hrb0.rows (fun _=>rfl) (by decide):qAc V0 fb 1 (vals.map qAe))).n_eq
   obtain⟨g1,g2,g3,-⟩:=gAt (hrb0.rows (fun _=>rfl) (by decide)) h3
   refine qAH (by omega) ⟨nn,nn,fb,qAd hq 1 1 (by simp),g1,g2,g3,frStore hrb0 M2 hil fun V0' V' ho M'=>?_⟩
   exact PS.ok hG2 ⟨ho.sub,fa,fb,hq0,hra0,ho⟩ M' rfl rfl
  ·rw[h0']
   rw[if_neg (by omega),h1,Int.toNat_natCast]at hG2
   obtain⟨gs,ns,ls,nd,hat,L⟩:=M2.ex
   have hd:=(X2.S.sub X2.fr.sub).ds.sub L.sub
   refine qAB (by decide) ⟨nn,nn,pnn,d.gs,qAd hat 2 1 (by simp[qBG]),(c242 hd.globals).call ⟨_,rfl,?_⟩⟩
   rw[h1]
   refine Tri.mono (c243 M2 (Cx.fit (m:=0) (X2.cx.le (by omega)))) ?_
   rintro _ V5 ⟨rfl,M5⟩
   obtain⟨gs5,ns5,ls5,nd5,hat5,L5⟩:=M5.ex
   obtain⟨g1,g2,g3,-⟩:=gAt (L5.glob.rows (fun _=>rfl) (by decide)) (i:=i) (v:=w) h3
   have hil:=(List.getElem?_eq_some_iff.1 h3).1
   refine⟨rfl,nn,nn,pnn,gs5,qAd hat5 8 1 (by simp[qBG]),g1,g2,g3,L5.setG (i:=i) hil fun V6 L6 hk6=>?_⟩
   refine PS.ok hG2 X2.fr (V0:=V0) (MA.mk M5.p0 ⟨gs5,ns5,ls5,nd5,?_,L6⟩) rfl rfl
   rw[hk6 _ (notBlk hat5 ntE L5.glob (.inl rfl))];exact hat5
 | @put a b u w t h he hv hw ha ht hl hf =>
  rw[if_neg (by omega),if_pos h,he,List.getD_cons_zero,List.getD_cons_succ,List.getD_cons_zero]at hG
  have h0:x.es[0]?=some a:=by rw[he];rfl
  have h1:x.es[1]?=some b:=by rw[he];rfl
  obtain⟨k1,k3,k4⟩:=esAt (okV X1.fr.sub X1.M.sub) h0
  refine qAB (by omega) (qAH h ⟨k1,by decide,k3,_,_,_,_,k4,PS.bind X1.fr.sub hG (ex h0 hv ha X1 (by omega)) fun v s2 V2 e2 M2 hG2=>?_⟩)
  obtain⟨X2,hv2,-⟩:=go (m:=3000) hv ha X1 e2 M2
  obtain⟨l1,l3,l4⟩:=esAt (okV X2.fr.sub X2.M.sub) h1
  refine⟨l1,by decide,l3,_,_,_,_,l4,PS.bind X2.fr.sub hG2 (ex h1 hw ht X2 (by omega)) fun y s3 V3 e3 M3 hG3=>?_⟩
  obtain⟨X3,hv3,g3⟩:=go (m:=2000) hw ht X2 e3 M3
  have hv2:=g3.val hv2
  refine⟨fun hz=>qIZ (PS.bad (s:=s3) ?_ X3.fr.sub M3),fun hz=>?_⟩
  ·rw[hG3];unfold putX;rw[if_pos (show v=0 from hz)];rfl
  have hz:¬v=0:=hz
  obtain⟨k,i,j,tt,g,fs,z,rfl,f2,f3,f4,f5,f6,f7,f8,-⟩:=qHu X3.G hl hv2 hz
  have hG4:G=.ok (vals,none) { s3 with ns:=s3.ns.set k ((j:Int),fs.set i y),lg:=s3.lg++[(2,(k:Int)+1,(i:Int))] }:=by
   rw[hG3];unfold putX
   rw[if_neg hz,show ((k:Int)+1-1).toNat=k by omega,f2]
   simp only
   rw[f5,f6,Int.toNat_natCast];rfl
  refine(c244 (X3.S.sub X3.fr.sub) M3 f2 f3).call ⟨_,rfl,?_⟩
  rw[f6]
  refine Tri.mono (c243 M3 (Cx.fit (m:=0) (X3.cx.le (by omega)))) ?_
  rintro _ V5 ⟨rfl,M5⟩
  obtain⟨gs5,ns5,ls5,nd5,sl5,hat5,L5,hnd5,hI,n1,n2,n3,n4,m1,m2,m3,m4⟩:=nodeAt M5 (k:=k) (i:=i) f2 f8
  have hil:=(List.getElem?_eq_some_iff.1 f8).1
  rw[show ((k:Int)+1-1)=(k:Int) by omega]
  refine⟨rfl,nn,nn,pnn,ns5,qAd hat5 9 1 (by simp[qBG]),hI,n1,n2,n3,qAh n1,_,_,n4,m1,m2,m3,L5.setF hnd5 hil fun V6 L6 hk6=>?_⟩
  refine PS.ok hG4 X3.fr (V0:=V0) (MA.mk M5.p0 ⟨gs5,ns5,ls5,_,?_,L6⟩) rfl rfl
  rw[hk6 _ (notBlk hat5 ntE (L5.fld _ (List.mem_of_getElem? hnd5)) (.inl rfl))];exact hat5
 | @cond a h he hv ht =>
  rw[if_neg (by omega),if_neg (by omega),if_pos h,he,List.getD_cons_zero]at hG
  have h0:x.es[0]?=some a:=by rw[he];rfl
  obtain⟨k1,k3,k4⟩:=esAt (okV X1.fr.sub X1.M.sub) h0
  obtain⟨-,-,-,hlt1,hlt2⟩:=hty.parts
  refine qAB (by omega) (qAB (by omega) (qAH h ⟨k1,by decide,k3,_,_,_,_,k4,PS.bind X1.fr.sub hG (ex h0 hv ht X1 (by omega)) fun v s2 V2 e2 M2 hG2=>?_⟩))
  obtain⟨X2,hv2,-⟩:=go (m:=3000) hv ht X1 e2 M2
  have hv2:=qAT.1 hv2
  have fin:∀{l:List S} {sl:Sl},(∀y∈l,TyS d pr y)->(∀y∈l,S.Ok W y)->qAc W sl 5 (l.map S.row)->G=qFB d F n c pr l vals s2->Tri Tryz.prog 164 #[pv p,pv q,.slice sl.p sl.n sl.c] V2 fun e' V'=>(∃b v,e'=.returned (.agg #[.bool b,.int .i64 v])/\PS W d p F c q pr G (.returned (.agg #[.bool b,.int .i64 v])) V')∨∃ch,e'=.panicked ch/\PS W d p F c q pr G e' V':=fun {l sl} t1 t2 t3 hGl =>
   PS.split (hS l W V0 V2 s2 c q pr vals sl (X2.le (by omega)) t1 t2 t3) (fun k s3 c' V3 e3 M3=>by rw[hGl,e3];exact⟨rfl,c',M3⟩) fun rt s3 V0' V3 e3 hf3 M3=>PS.ok (hGl.trans e3) hf3 M3 rfl rfl
  refine⟨fun hz=>fin hlt1 hok.lOk hok.lRows ?_,fun hz=>fin hlt2 hok.xOk hok.xRows ?_⟩
  ·have hz:v=1:=hz
   rw[hG2,if_neg (by omega)]
  ·have hz:¬v=1:=hz
   rw[hG2,if_pos (by omega)]
 | @loop a h he hv ht =>
  rw[if_neg (by omega),if_neg (by omega),if_neg (by omega),if_pos h,he,List.getD_cons_zero]at hG
  have h0:x.es[0]?=some a:=by rw[he];rfl
  obtain⟨-,-,-,hlt1,-⟩:=hty.parts
  refine qAB (by omega) (qAB (by omega) (qAB (by omega) (qAH h ?_)))
  refine⟨fun m xs V2=>xs=[]/\∃V0' vals' s',Sx1 W V0' d p F c q pr vals' n 1000 V2 s'/\F<m+s'.tk/\G=whX d F (qFB d F n) c pr a x.ls m vals' s',n+1,⟨rfl,V0,vals,s1,X1.le (by omega),by have:=X1.n;omega,hG⟩,?_⟩
  rintro m V2 ⟨-,V0',vals',s',X',hm,hG'⟩ J hJ
  obtain⟨m,rfl⟩:∃m',m=m'+1:=⟨m-1,by have:=X'.tk;omega⟩
  rw[whX]at hG'
  obtain⟨k1,k3,k4⟩:=esAt (okV X'.fr.sub X'.M.sub) h0
  refine⟨k1,by decide,k3,_,_,_,_,k4,PS.bind X'.fr.sub hG' (ex h0 hv ht X' (by omega)) fun v s2 V3 e2 M2 hG2=>?_⟩
  obtain⟨X2,hv2,g2⟩:=go (m:=0) hv ht X' e2 M2
  have hv2:=qAT.1 hv2
  refine⟨fun hz=>?_,fun hz=>?_⟩
  rotate_left
  ·have hz:¬v=1:=hz
   rw[if_pos (by omega)]at hG2
   exact PS.ok hG2 X2.fr X2.M rfl rfl
  have hz:v=1:=hz
  rw[if_neg (by omega)]at hG2
  have P:=hcs c pr x.ls vals' s2 X2.po hlt1 X2.G X2.hv
  refine PS.split (hS x.ls W V0' V3 s2 c q pr vals' x.ll X2 hlt1 hok.lOk hok.lRows) (fun k s3 c' V4 e3 M3=>?_) fun rt s3 V0'' V4 e3 hf3 M3=>?_
  ·rw[hG2,e3];exact⟨rfl,c',M3⟩
  obtain⟨G3,g3,q3⟩:=P.got e3
  have X3:=X2.next (m:=0) (k:=0) g3 G3 hf3 q3.1 M3
  rw[e3]at hG2
  cases hrt:rt.2 with
  | some z =>
   have hG3:G=.ok rt s3:=by rw[hG2];show (match rt.2 with|some _=>_|none=>_)=_;rw[hrt]
   exact⟨fun _=>PS.ok hG3 hf3 M3 (by rw[hrt]) (by rw[hrt]),fun h=>absurd rfl h⟩
  | none =>
   have hG3:G=(qJO F s3).bind fun _ st=>whX d F (qFB d F n) c pr a x.ls m rt.1 st:=by rw[hG2];show (match rt.2 with|some _=>_|none=>_)=_;rw[hrt]
   refine⟨(fun h=>by cases h),fun _=>Tri.mono (c240 hF M3) ?_⟩
   rintro e4 V5 (⟨hlt',rfl,M5⟩|⟨hge,rfl,rfl⟩)
   ·refine .inl ⟨rfl,hJ m _ _ (by omega) ⟨rfl,V0'',rt.1,{ s3 with tk:=s3.tk+1 },(X3.tick' hlt' M5).le (by omega),?_,by rw[hG3,tickX_ok hlt'];rfl⟩⟩
    have:=g2.tk;have:=g3.tk
    show F<m+(s3.tk+1);omega
   ·exact .inr ⟨_,rfl,PS.bad (s:=s3) (by rw[hG3,tickX_bad hge];rfl) hf3.sub M3⟩
 | ret0 h he hr =>
  rw[if_neg (by omega),if_neg (by omega),if_neg (by omega),if_neg (by omega),if_pos h,he]at hG
  have hn:=(okV X1.fr.sub X1.M.sub).eRows.n_eq
  rw[he]at hn
  refine qAB (by omega) (qAB (by omega) (qAB (by omega) (qAB (by omega) (qAH h (qAH (by rw[hn];rfl) ?_)))))
  exact PS.ok hG X1.fr X1.M rfl rfl
 | @ret1 a u h he hv ht hr hf =>
  rw[if_neg (by omega),if_neg (by omega),if_neg (by omega),if_neg (by omega),if_pos h,he]at hG
  have h0:x.es[0]?=some a:=by rw[he];rfl
  obtain⟨k1,k3,k4⟩:=esAt (okV X1.fr.sub X1.M.sub) h0
  refine qAB (by omega) (qAB (by omega) (qAB (by omega) (qAB (by omega) (qAH h (qAB (by omega) ⟨k1,by decide,k3,_,_,_,_,k4,PS.bind X1.fr.sub hG (ex h0 hv ht X1 (by omega)) fun v s2 V2 e2 M2 hG2=>?_⟩)))))
  exact PS.ok hG2 X1.fr M2 rfl rfl
 | @call a pr' i h he hv ho hc =>
  rw[if_neg (by omega),if_neg (by omega),if_neg (by omega),if_neg (by omega),if_neg (by omega),if_pos h,he,List.getD_cons_zero]at hG
  unfold evS at hG
  rw[evX_eq,cX7 ho,hc.idx]at hG
  have h0:x.es[0]?=some a:=by rw[he];rfl
  obtain⟨k1,k3,k4⟩:=esAt (okV X1.fr.sub X1.M.sub) h0
  have hp:=qCe hv
  have hea:=hok.eOk a (List.mem_of_getElem? h0)
  refine qAB (by omega) (qAB (by omega) (qAB (by omega) (qAB (by omega) (qAB (by omega) (qAH h ⟨k1,by decide,k3,_,_,_,_,k4,PS.bind X1.fr.sub hG (callC hR (X1.cx.le (by omega)) (hea.sub X1.fr.sub) hc hp.1 fun b hb u W' V2 s2 hW' X2 ht=>?_) fun v s2 V2 e2 M2 hG2=>?_⟩)))))
  ·exact hE b u W' V2 s2 c q pr vals X2 (hp.1.kids b hb) (((hea.sub X1.fr.sub).kids b hb).sub hW') ht
  ·exact PS.ok hG2 X1.fr M2 rfl rfl
end
theorem own_zero{V0 V:Mem}{e:TypeId}{sz:Nat}{s:Sl}{vs:List Value}(h:Sx.Own V0 V e sz s vs):Sx.Own V0 V e sz ⟨s.p,0,s.c⟩ []:=⟨h.sub,by simp,by
 rcases h.at_ with⟨h1,h2,h3⟩|⟨g,cur,h1,h2,h3,h4,h5,h6,h7⟩
 ·simp_all
 simp_all⟩
theorem own_to{V0 V V0' V':Mem}{e:TypeId}{sz:Nat}{s:Sl}{vs:List Value}(h:Sx.Own V0 V e sz s vs)(hs:V0'.sub V')(hk:∀g o,Blk s g->V0 g=none->V g=some o->V0' g=none/\V' g=some o):Sx.Own V0' V' e sz s vs:=⟨hs,h.len,by
 rcases h.cases0 with h1|⟨hc,g,cur,h1,h2,h3,h4⟩
 ·exact .inl h1
 ·exact .inr ⟨g,cur,h1,(hk g _ ⟨hc,h1⟩ h2 h3).1,(hk g _ ⟨hc,h1⟩ h2 h3).2,h4⟩⟩
theorem own_p0{V0 V:Mem}{e:TypeId}{sz:Nat}{s:Sl}{vs:List Value}(h:Sx.Own V0 V e sz s vs)(hc:s.c≠0)(m:Nat):qAa s.p (0*m)=s.p:=by
 rw[Nat.zero_mul]
 rcases h.at_ with⟨h1,h2,h3⟩|⟨g,cur,h1,-⟩
 ·omega
 ·rw[h1];rfl
theorem az31{V0 V:Mem}{ty:TypeId}{x y:Operand}{vals:Operand->Value}{s:Sl}{n:Nat}{vs:List Int}(hx:vals x=.slice s.p s.n s.c)(hy:vals y=.int .i64 n)(own:Sx.Own V0 V 3 1 s (vs.flatMap qAe))(hfit:s.n+n<=2147483648){q:Value->Mem->Prop}
  (hq:∀(s':Sl) V',Sx.Own V0 V' 3 1 s' ((vs++List.replicate n (0:Int)).flatMap qAe)->q (.slice s'.p s'.n s'.c) V'):GenK Tryz.prog (.call { callee:=.builtin .append,args:=#[x,y],argTypes:=#[31,3] }) ty vals V q :=
 Go.Sx.GenK.appendZ (z:=.int .i64 0) (i:=ti 3) (k:=.i64) Tryz.underlying31 Tryz.underlying3 (by kernel_rfl) (by kernel_rfl) (by kernel_rfl) (by kernel_rfl) (by decide) (of_decide_eq_true (by kernel_rfl)) (fun u hu=>by
  have hc:(Value.int .i64 0).cells=#[Value.int .i64 0]:=by rfl
  rw[hc]at hu;simp at hu;subst hu;rfl) hx hy own hfit fun s' V' h=>hq s' V' (by
  rw[List.flatMap_append]
  have e:(List.replicate n (0:Int)).flatMap qAe=(Builtin.zeroCells (Value.int .i64 0).cells n).toList:=by rw[qJJ,qAW,List.map_replicate]
  rw[e];exact h)
theorem az23{V0 V:Mem}{ty:TypeId}{x y:Operand}{vals:Operand->Value}{s:Sl}{n:Nat}{vs:List Value}(hx:vals x=.slice s.p s.n s.c)(hy:vals y=.int .i64 n)(own:Sx.Own V0 V 101 2 s vs)(hfit:s.n+n<=2147483648){q:Value->Mem->Prop}
  (hq:∀(s':Sl) V' ws,Sx.Own V0 V' 101 2 s' ws->q (.slice s'.p s'.n s'.c) V'):GenK Tryz.prog (.call { callee:=.builtin .append,args:=#[x,y],argTypes:=#[23,3] }) ty vals V q :=
 Go.Sx.GenK.appendZ (z:=.agg #[.string (qAr []),.string (qAr [])]) (i:=ti 101) (k:=.i64) Tryz.underlying23 Tryz.underlying3 (by kernel_rfl) (by kernel_rfl) (by kernel_rfl) (by kernel_rfl) (by decide) (of_decide_eq_true (by kernel_rfl)) (fun u hu=>by
  have hc:(Value.agg #[.string (qAr []),.string (qAr [])]).cells=#[.string (qAr []),.string (qAr [])]:=by rfl
  rw[hc]at hu;simp at hu;subst hu;rfl) hx hy own hfit fun s' V' h=>hq s' V' _ h
theorem c198{V:Mem}{n:Nat}(hn:n<=2147483648):Tri Tryz.prog 198 #[.slice none 0 0,.int .i64 n] V fun e V'=>∃s:Sl,e=.returned (.slice s.p s.n s.c)/\Sx.Own V V' 101 2 s []:=by
 refine x198 (a:=⟨none,0,0⟩) (b:=n) ?_
 unfold w198
 have e:(n:Int)-(((0:Nat):Int)-((0:Nat):Int))=n:=by omega
 refine qAB (by omega) ⟨⟨by simp,by simp⟩,⟨by rw[e];omega,by rw[e];omega⟩,fun h=>⟨⟨by omega,by omega,by omega⟩,?_⟩,fun h=>⟨⟨none,0,0⟩,rfl,Own.nil (Mem.sub.refl _) _ _⟩⟩
 refine az23 (s:=⟨none,0,0⟩) (n:=n) (vs:=[]) (V0:=V) rfl (by rfl) (Own.nil (Mem.sub.refl _) _ _) (by simpa using hn) fun s' V' ws ho=>⟨s',rfl,⟨by omega,by omega,by simp⟩,⟨s'.p,0,s'.c⟩,?_,own_zero ho⟩
 by_cases hc:s'.c=0
 ·simp[hc]
 ·rw[if_neg (by omega),show ((0:Int).toNat*2)=0*2 from rfl,own_p0 ho hc];simp
theorem c163{V:Mem}{sl a b:Sl}{xs ys:List Fld}(h:qAc V sl 1 ([a,b].map fun s:Sl=>[s.v]))(ha:qAc V a 2 (xs.map Fld.row))(hb:qAc V b 2 (ys.map Fld.row))(hx:xs.length<=100)(hy:ys.length<=100) :
  Tri Tryz.prog 163 #[sl.v] V fun e V'=>∃s:Sl,e=.returned (.slice s.p s.n s.c)/\Sx.Own V V' 101 2 s ((xs++ys).flatMap Fld.row):=by
 have han:=ha.n_eq
 have hbn:=hb.n_eq
 refine x163 ?_
 unfold w163
 refine qEX (mk:=fun k:Int=>.int .i64 k) (b0:=0) qFS 2 (fun i k V1=>V1=V/\k=(((([a,b].take i).map (fun s:Sl=>s.n)).sum:Nat):Int)) ⟨rfl,rfl⟩ ?_
 rintro i k V1 J hi ⟨rfl,rfl⟩ hJ
 refine⟨fun hlt=>?_,fun hge=>?_⟩
 ·obtain⟨u,hum,hu,hdr,hil,hp,hz,hrow⟩:=h.get hlt
  have hun:u.n<=100:=by
   grind
  have hs:(([a,b].take (i+1)).map (fun s:Sl=>s.n)).sum=(([a,b].take i).map (fun s:Sl=>s.n)).sum+u.n:=by grind
  have hs2:(([a,b].take i).map (fun s:Sl=>s.n)).sum<=200:=by
   rcases (show i=0∨i=1 by grind) with rfl|rfl
   ·simp
   ·simp;omega
  refine⟨hp,hz,hlt,u,hrow,⟨by omega,by omega⟩,qAB (by omega) ⟨h.succ hlt,hJ hil _ _ ⟨rfl,by omega⟩⟩⟩
 ·have h2:=(h.done hge).2
  have hi2:i=2:=by grind
  subst hi2
  refine Tri.mono (c198 (by simp;omega)) ?_
  rintro _ V2 ⟨s0,rfl,ho0⟩
  refine⟨s0,rfl,qEX (mk:=fun s:Sl=>.slice s.p s.n s.c) (b0:=s0) qBE 2 (fun j s V3=>Sx.Own V1 V3 101 2 s ((([xs,ys].take j).flatten).flatMap Fld.row)) ho0 ?_⟩
  rintro j s V3 J1 hj ho hJ1
  have h':=h.sub ho.sub
  refine⟨fun hlt=>?_,fun hge=>?_⟩
  ·obtain⟨u,hum,hu,hdr,hil,hp,hz,hrow⟩:=h'.get hlt
   obtain⟨zs,hzs,hzr,hzl⟩:∃zs,[xs,ys][j]?=some zs/\qAc V3 u 2 (zs.map Fld.row)/\([xs,ys].take j).flatten.length+zs.length<=2147483648:=by
    rcases (show j=0∨j=1 by omega) with rfl|rfl
    ·simp at hu;subst hu;exact⟨xs,rfl,ha.sub ho.sub,by simp;omega⟩
    ·simp at hu;subst hu;exact⟨ys,rfl,hb.sub ho.sub,by simp;omega⟩
   refine⟨hp,hz,hlt,u,hrow,app23 (s:=s) (u:=u) (xs:=([xs,ys].take j).flatten) (ys:=zs) rfl rfl ho hzr hzl fun s' V' ho'=>⟨s',rfl,h'.succ hlt,hJ1 hil _ _ ?_⟩⟩
   grind
  ·have h3:=(h'.done hge).2
   grind
theorem runC{d:Ds}{p F n:Nat}(H:SC d p F n):CallC d p F n:=by
 intro V0 V s c i pr args l hS hpr G ha hl M htk hn hw
 obtain⟨G',hG⟩:∃G':Rx Int,G'=qDW d (qFB d F n) c i args s:=⟨_,rfl⟩
 rw[<- hG]
 have hpm:=List.mem_of_getElem? hpr
 have hpo:=hS.procs pr hpm
 have hok:=hS.ds.procsOk pr hpm
 refine Tri.mono (x116 (R:=PX V0 d p F c G') ?_) fun _ _ h=>h
 unfold w116
 obtain⟨gs,ns,ls,nd,hat,L⟩:=M.ex
 unfold qDW at hG
 refine⟨nn,nn,_,qAd hat 12 1 (by simp[qBG]),fun h2=>qIZ (PX.bad (by grind) M),fun h2=>?_⟩
 rw[if_neg (by omega),Int.toNat_natCast,hpr]at hG
 refine⟨nn,nn,_,qAd hat 12 1 (by simp[qBG]),⟨by omega,by omega⟩,nn,nn,StT.at2 (off:=12) hat (by simp[qBG]) ?_⟩
 have M1:EM V0 d p F (V.set p (.cells (qBG d F s.tk ((c+1:Nat):Int) s.cm gs ns ls).toArray 128 (0,0))) s (c+1):=MA.set (row':=qBG d F s.tk ((c+1:Nat):Int) s.cm) ntE M.p0 hat L rfl rfl rfl rfl
 obtain⟨V1,hV1⟩:∃V1,V1=V.set p (.cells (qBG d F s.tk ((c+1:Nat):Int) s.cm gs ns ls).toArray 128 (0,0)):=⟨_,rfl⟩
 rw[<- hV1]at M1
 show qAp _ _ (V.set p (.cells (qBG d F s.tk ((c+1:Nat):Int) s.cm gs ns ls).toArray 128 (0,0))) _
 rw[<- hV1]
 intro b1 hb1
 obtain⟨V2,hV2⟩:∃V2,V2=V1.set b1 (.cells #[.slice pr.ps.p pr.ps.n pr.ps.c,.slice pr.ls.p pr.ls.n pr.ls.c] 23 (0,0)):=⟨_,rfl⟩
 have s12:V1.sub V2:=hV2 ▸ Mem.sub_new hb1 _
 have s02:=M1.sub.trans s12
 have hrow:qAc V2 ⟨some ⟨b1,0,none⟩,2,2⟩ 1 ([pr.ps,pr.ls].map fun s:Sl=>[s.v]):=qAc.cells (xs:=[pr.ps,pr.ls]) (row:=fun s:Sl=>[s.v]) (by rw[hV2];exact Mem.set_same _ _ _) rfl (fun _=>rfl) rfl (by simp)
 show Tri _ _ #[.slice (sa b1) 2 2] (V1.set b1 (.cells #[.slice pr.ps.p pr.ps.n pr.ps.c,.slice pr.ls.p pr.ls.n pr.ls.c] 23 (0,0))) _
 rw[<- hV2]
 have hln:=hpo.lens
 refine Tri.mono (c163 hrow (hok.params.sub s02) (hok.locals.sub s02) (by omega) (by omega)) ?_
 rintro _ V3 ⟨s3,rfl,o3⟩
 have s03:=s02.trans o3.sub
 have hal:=(qAC.1 ha).1
 refine⟨s3,rfl,Tri.mono (c42 (hl.sub s03) (by omega)) ?_⟩
 rintro _ V4 ⟨s4,rfl,o4⟩
 have h4n:=o4.n_eq (fun _=>rfl) (by decide)
 have hlsn:=hok.locals.n_eq
 refine⟨s4,rfl,az31 (s:=s4) (n:=pr.ls.n) rfl rfl o4 (by omega) fun s5 V5 o5=>⟨s5,rfl,fun b2 hb2=>?_⟩⟩
 rw[hlsn]at o5
 obtain⟨V6,hV6⟩:∃V6,V6=V5.set b2 (.cells #[.slice s3.p s3.n s3.c,.slice s5.p s5.n s5.c] 243 (0,0)):=⟨_,rfl⟩
 have s56:V5.sub V6:=hV6 ▸ Mem.sub_new hb2 _
 have s36:=o5.sub.trans s56
 have s16:=s12.trans (o3.sub.trans s36)
 obtain⟨W,w0,w6,MW,hWn⟩:=M1.after s16
 show Tri _ _ #[pv p,pv b2,.slice pr.bs.p pr.bs.n pr.bs.c] (V5.set b2 (.cells #[.slice s3.p s3.n s3.c,.slice s5.p s5.n s5.c] 243 (0,0))) _
 rw[<- hV6]
 have n1:∀{b:Nat},V2 b=none->V1 b=none:=fun {b} h=>by
  cases hc:V1 b with
  | none=>rfl
  | some o=>rw[s12 _ _ hc]at h;cases h
 have n3:∀{b:Nat},V3 b=none->V2 b=none:=fun {b} h=>by
  cases hc:V2 b with
  | none=>rfl
  | some o=>rw[o3.sub _ _ hc]at h;cases h
 have n5:V3 b2=none:=by
  cases hc:V3 b2 with
  | none=>rfl
  | some o=>rw[o5.sub _ _ hc]at hb2;cases hb2
 have hbk:∀{b:Nat},Blk s5 b->V3 b=none:=fun h=>Own.none0 o5 h
 have hws:V0.sub (W.but s5):=fun b o hb=>Mem.but_at (w0 _ _ hb) fun hk=>by have:=hbk hk;rw[s03 _ _ hb]at this;cases this
 have o5':Sx.Own (W.but s5) W 3 1 s5 ((args++List.replicate pr.locals.length (0:Int)).flatMap qAe):=own_to o5 (Mem.but_sub _ _) fun g o hk h0 h1=>⟨by grind [Mem.but],hWn _ _ (n1 (n3 h0)) (s56 _ _ h1)⟩
 have o3':Sx.Own (fun _=>none) (W.but s5) 101 2 s3 ((pr.params++pr.locals).flatMap Fld.row):=own_to o3 (fun _ _ h=>by cases h) fun g o hk h0 h1=>⟨rfl,Mem.but_at (hWn _ _ (n1 h0) (s36 _ _ h1)) fun hk'=>by simp_all⟩
 have hfr:W b2=some (.cells #[s3.v,s5.v] 243 (0,0)):=hWn _ _ (n1 (n3 n5)) (by rw[hV6];exact Mem.set_same _ _ _)
 have nb2:¬Blk s5 b2:=fun hk=>by
  grind [Own.some]
 have FR:FrM (W.but s5) W b2 pr (args++List.replicate pr.locals.length 0):=⟨Mem.but_sub _ _,s3,s5,Mem.but_at hfr nb2,o3'.rows (fun _=>rfl) (by decide),o5'⟩
 have hv:=qEC ha (qFd G.valid fun f hf=>hpo.vars f (List.mem_append_right _ hf))
 have hbody:qAc (W.but s5) pr.bs 5 (pr.body.map S.row):=hok.body.sub hws
 refine PS.split (H pr.body (W.but s5) W V6 s (c+1) b2 pr _ pr.bs ⟨hS.sub hws,FR,hpo,G,hv,MW,htk,hn,hw⟩ hpo.body (fun x hx=>(hok.stmts x hx).sub hws) hbody) (fun k s2 c' V7 e2 M7=>?_) fun rt s2 W7 V7 e2 f7 M7=>?_
 ·rw[hG];show PX V0 d p F c ((qFB d F n (c+1) pr pr.body _ s).bind _) _ _
  rw[e2];exact⟨rfl,c',M7.narrow hws⟩
 ·have M8:=M7.narrow (hws.trans f7.sub)
  obtain⟨gs7,ns7,ls7,nd7,hat7,L7⟩:=M8.ex
  refine⟨nn,nn,_,qAd hat7 12 1 (by simp[qBG]),⟨by omega,by omega⟩,nn,nn,StT.at2 (off:=12) hat7 (by simp[qBG]) ?_⟩
  rw[hG];show PX V0 d p F c ((qFB d F n (c+1) pr pr.body _ s).bind _) _ _
  rw[e2]
  refine⟨rfl,?_⟩
  have e:(((c+1:Nat):Int)-1)=(c:Int):=by omega
  rw[e]
  exact MA.set (row':=qBG d F s2.tk c s2.cm) ntE M8.p0 hat7 L7 rfl rfl rfl rfl
theorem allC(d:Ds)(p F:Nat):∀n,SC d p F n
 | 0=>fun l W V0 V s c q pr vals sl X _ _ _=>absurd X.n (by have:=X.tk;omega)
 | n+1=>stsC (stC (exprC (runC (allC d p F n))) (allC d p F n) (runC (allC d p F n)))
end Go.Proofs
namespace Go.Proofs
open Go Go.Sx
section
variable{d:Ds}{F F' b:Nat}
def Sext(s t:St):Prop:=(∃l,t.lg=s.lg++l)/\s.tk<=t.tk/\s.ns.length<=t.ns.length
def RE{α:Type}(s:St)(r:Rx α):Prop:=Sext s r.st
end
end Go.Proofs
namespace Go.Proofs
open Go Go.Sx
section
variable{d:Ds}{F F':Nat}
def Mm.plain(m:Mm):List Int×List (Int×List Int):=(m.globals,m.nodes.map fun n=>(n.ty,n.f))
def qBR(m:Mm):St:=⟨m.globals,m.nodes.map fun n=>(n.ty,n.f),0,0,[]⟩
theorem St.plain(s:St):s.mm.plain=(s.g,s.ns):=by
 unfold Mm.plain St.mm
 simp[Function.comp_def]
theorem qHr{m m':Mm}(h:m.plain=m'.plain){i:Nat}{x:Nd}(hx:m.nodes[i]?=some x):∃y,m'.nodes[i]?=some y/\y.ty=x.ty/\y.f=x.f:=by
 have h2:(m.nodes.map fun n=>(n.ty,n.f))=m'.nodes.map fun n=>(n.ty,n.f):=(Prod.mk.inj h).2
 have:(m'.nodes.map fun n=>(n.ty,n.f))[i]?=some (x.ty,x.f):=by grind
 simp_all
theorem plain_len{m m':Mm}(h:m.plain=m'.plain):m.nodes.length=m'.nodes.length:=by
 have h2:(m.nodes.map fun n=>(n.ty,n.f))=m'.nodes.map fun n=>(n.ty,n.f):=(Prod.mk.inj h).2
 have:=congrArg List.length h2
 simpa using this
theorem qFe{m m':Mm}(h:m.plain=m'.plain)(hv:qAx d m=true):qAx d m'=true:=by
 obtain⟨p1,p2,p3,p4,p5⟩:=qAi hv
 have hl:=plain_len h
 have hg:m.globals=m'.globals:=(Prod.mk.inj h).1
 have r:∀{t v},qAu d m t v=true->qAu d m' t v=true:=fun hr=>qGq (by omega) (fun i x hx=>by
  grind [qHr]) hr
 grind [qFz,qAk,List.mem_iff_getElem?,qHr,List.mem_of_getElem?,qEp]
theorem qED(m:Mm):(qBR m).mm.plain=m.plain:=St.plain _
theorem qKx{m:Mm}(G:qAz d m):qAz d (qBR m).mm:=⟨G.valid,G.chk,qFe (qED m).symm G.mem⟩
theorem qDJ{m m':Mm}(h:m.plain=m'.plain){t:ByteArray}{v:Int}(hr:qAu d m t v=true):qAu d m' t v=true:=qGq (by rw[plain_len h];omega) (fun i x hx=>by
 grind [qHr]) hr
def outC:Rx Int->Int | .ok _ _=>0 | .bad c _=>c
def outV:Rx Int->Int | .ok v _=>v | .bad _ _=>0
def qBe(l:List (Int×Int×Int)):Nat:=(l.filter fun a=>decide (0<a.2.1)).length
def alN(l:List (Int×Int×Int)):Nat:=(l.filter fun a=>decide (a.1=3)).length
theorem qHG(a:Int×Int×Int)(l:List (Int×Int×Int)):alN (a::l)=(if a.1=3 then 1 else 0)+alN l:=by
 grind [alN]
theorem qKP.len{n m:Nat}{l:List (Int×Int×Int)}(h:qKP n l m):m=n+alN l:=by
 induction h with
 | nil=>rfl
 | @acc n m k a f l hk _ _ _ _ ih=>rw[qHG,if_neg (by omega)];omega
 | alloc _ _ ih=>rw[qHG,if_pos rfl];omega
theorem qKP.at_{n m:Nat}{l:List (Int×Int×Int)}(h:qKP n l m):∀(i:Nat) a,l[i]?=some a->(a.1=1∨a.1=2∨a.1=3)/\(a.1=3->a.2.1=((n+alN (l.take i):Nat):Int)+1)/\(a.1≠3->a.2.1<=((n+alN (l.take i):Nat):Int))/\0<=a.2.1/\0<=a.2.2:=by
 induction h with
 | nil=>simp_all
 | @acc n m k x f l hk h0 h1 h2 _ ih =>
  intro i a hi
  cases i with
  | zero =>
   grind
  | succ i =>
   have:=ih i a (by simpa using hi)
   rwa [List.take_succ_cons,qHG,if_neg (by omega),Nat.zero_add]
 | @alloc n m f l h2 _ ih =>
  intro i a hi
  cases i with
  | zero =>
   simp only[List.getElem?_cons_zero,Option.some.injEq]at hi
   subst hi
   exact⟨.inr (.inr rfl),fun _=>rfl,fun h=>absurd rfl h,by grind,h2⟩
  | succ i =>
   have:=ih i a (by simpa using hi)
   rwa [List.take_succ_cons,qHG,if_pos rfl,<- Nat.add_assoc]
end
end Go.Proofs
namespace Go.Proofs
open Go Go.Sx
attribute [local irreducible] Go.Sx.Tri
theorem g174:IdxP 174 Nd.row Nd.v 2:=by
 intro V l xs g first caps hg St Hit hrows h0 hp
 refine x174 (a:=l) (b:=.func (.func g) first.toArray caps.toArray) ?_
 unfold w174
 refine qBp xs.length St h0 ?_
 intro i b V1 J hi hs hJ
 have h:=hrows i V1 hs
 refine⟨fun hlt=>?_,fun hge=>?_⟩
 ·obtain⟨x,hm,hx,hd,hl,hp0,hz,hrow⟩:=h.get hlt
  refine⟨hp0,hz,hlt,_,_,hrow,g,_,_,rfl,hg,Tri.mono (hp i x V1 hx hs) ?_⟩
  rintro e V2 ⟨b,rfl,h1,h2⟩
  exact⟨b,rfl,fun hb=>.inl ⟨i,rfl,h1 hb⟩,fun hb=>⟨h.succ hlt,hJ hl _ _ (h2 (by simpa using hb))⟩⟩
 ·have e:i=xs.length:=by have:=(h.done hge).2;omega
  simp_all
theorem g128:ConP 128 Nd.row Nd.v 2:=conG g174 x128
theorem c128:ConC 128 Nd.row Nd.v 2:=conC g128
theorem qEf(w:World):(zeroValue 3).run Tryz.prog w=.ok (.int .i64 0) w:=by kernel_rfl
def pmap(d:Ds)(i:Nat)(k:ByteArray):Option Value:=if 0<=qDQ d k/\qDQ d k<(i:Int) then some (.int .i64 (qDQ d k)) else none
def tmap(d:Ds)(k:ByteArray):Option Value:=if qBm d k=true then some (.int .i64 (qDQ d k)) else none
section
variable{V:Mem}{d:Ds}{m:Mm}{b:Nat}
theorem idxT_le{i:Nat}{x:Ty}(hx:d.types[i]?=some x):0<=qDQ d x.name/\qDQ d x.name<=(i:Int):=by
 unfold qDQ
 rcases qBh (fun t:Ty=>decide (t.name=x.name)) d.types with⟨-,-,h⟩|⟨j,y,h1,h2,-,h4,-,-,-,h5⟩
 ·grind
 ·rw[h1]
  refine⟨by omega,?_⟩
  have hji:¬i<j:=fun hlt=>by
   have:=List.any_eq_false.1 h5 x (List.mem_take_iff_getElem.2 ⟨i,by omega,(List.getElem?_eq_some_iff.1 hx).2⟩)
   simp_all
  omega
theorem idxT_at{k:ByteArray}{i:Nat}(h:qDQ d k=(i:Int)):∃x,d.types[i]?=some x/\x.name=k:=by
 unfold qDQ at h
 rcases qBh (fun t:Ty=>decide (t.name=k)) d.types with⟨h1,-⟩|⟨j,y,h1,h2,-,h4,h5,-⟩
 ·omega
 grind
theorem pmap_all{k:ByteArray}(i:Nat)(hi:d.types.length<=i):pmap d i k=tmap d k:=by
 unfold pmap tmap
 rcases isNode_idx d k with⟨h1,h2⟩|⟨h1,h2⟩
 ·grind
 ·obtain⟨j,hj⟩:∃j:Nat,qDQ d k=(j:Int):=⟨(qDQ d k).toNat,by omega⟩
  obtain⟨x,hx,-⟩:=idxT_at hj
  grind
theorem c124{s:ByteArray}:PP 124 [.string s] V (.bool (decide (s=qBd)||decide (s=qAw))):=by
 refine x124 ?_
 unfold w124
 refine⟨fun h=>⟨by grind [qBd],rfl⟩,fun h=>⟨by rw[decide_eq_false (show ¬s=qBd from h)];rfl,rfl⟩⟩
theorem c125{s:ByteArray}(h:qBb V b (tmap d)):PP 125 [.map (some b),.string s] V (.bool (qBm d s)):=by
 refine x125 ?_
 unfold w125
 refine qBi.str Tryz.underlying158 Tryz.underlying9 qEf h ?_
 unfold tmap
 cases hn:qBm d s with
 | true=>simp_all
 | false=>simp_all
theorem c123{p t:Nat}(hp:V p=some (cell (.map (some b)) t))(h:qBb V b (tmap d)){f:Fld}:PP 123 [f.v,pv p] V (.bool (!qBx d f.ty)):=by
 refine x123 ?_
 unfold w123
 refine c124.call ⟨_,rfl,fun h1=>?_,fun h1=>⟨some b,qBw hp,(c125 h).call ⟨_,rfl,?_,rfl⟩⟩⟩
 ·unfold qBx;grind
 grind [qBx,qBd,qAw]
theorem c121{p t:Nat}(hp:V p=some (cell (.map (some b)) t))(h:qBb V b (tmap d)){l:Sl}{xs:List Fld}(hr:qAc V l 2 (xs.map Fld.row)):PP 121 [l.v,pv p] V (.bool (qBO d xs)):=by
 refine x121 ?_
 unfold w121
 refine(c122 (first:=[]) (caps:=[pv p]) hr Tryz.call123 (fun f=>!qBx d f.ty) (fun f _=>c123 hp h)).call ⟨_,rfl,?_,rfl⟩
 grind [qBO]
theorem c127{p q t t2:Nat}(hp:V p=some (cell (.map (some b)) t))(hq:V q=some (cell (.func (.func 121) #[] #[pv p]) t2))(h:qBb V b (tmap d)){y:Ty}(hy:Ty.Ok V y) :
  PP 127 [y.v,pv q] V (.bool (!qBO d y.fields)):=by
 refine x127 ?_
 unfold w127
 exact⟨.func (.func 121) #[] #[pv p],rfl,qBw hq,121,_,_,rfl,Tryz.call121,(c121 hp h hy.fields).callv (first:=[]) (caps:=[pv p]) ⟨_,rfl,rfl,rfl⟩⟩
theorem qCg:hasT d=true↔qAF d=true/\qBO d d.globals=true/\(∀(i:Nat) (x:Ty),d.types[i]?=some x->qDQ d x.name=(i:Int))/\∀x∈d.types,qBO d x.fields=true:=by
 unfold hasT
 rw[Bool.and_eq_true,Bool.and_eq_true,qEP,and_assoc]
 refine and_congr_right fun _=>and_congr_right fun _=>⟨fun h=>⟨fun i x hx=>?_,fun x hx=>?_⟩,fun h i x hx=>?_⟩
 ·grind
 ·obtain⟨i,hi,rfl⟩:=List.mem_iff_getElem.1 hx
  have:=h i _ (List.getElem?_eq_getElem hi)
  simp_all
 grind
def TyM(V':Mem)(d:Ds)(mo:Option Nat):Prop:=(hasT d=true/\∃b,mo=some b/\qBb V' b (tmap d))∨(¬hasT d=true/\mo=none)
theorem c78[Tab V](h:Ds.Ok V d):Tri Tryz.prog 78 #[d.v] V fun r V'=>∃mo,r=.returned (.map mo)/\V.sub V'/\TyM V' d mo:=by
 refine x78 ?_
 unfold w78
 have no:∀{V1:Mem},V.sub V1->¬hasT d=true->(∃mo,Ending.returned (.map none)=.returned (.map mo)/\V.sub V1/\TyM V1 d mo):=fun hs k=>⟨none,rfl,hs,.inr ⟨k,rfl⟩⟩
 refine(c120 h).call ⟨_,rfl,fun hv=>?_,fun hv=>no (Mem.sub.refl _) fun k=>hv (qCg.1 k).1⟩
 refine GenK.makeMap fun b hb=>⟨some b,rfl,?_⟩
 have hs:∀o,V.sub (V.set b o):=fun o=>Mem.sub_new hb _
 refine qBp (mk:=.map) (b0:=none) d.types.length (fun i V1=>(∃o,V1=V.set b o)/\qBb V1 b (pmap d i)/\∀(j:Nat) (x:Ty),j<i->d.types[j]?=some x->qDQ d x.name=(j:Int)) ⟨⟨_,rfl⟩,(qBb.made V b).congr fun k=>?_,fun _ _ h=>absurd h (Nat.not_lt_zero _)⟩ ?_
 ·grind [pmap]
 rintro i b1 _ J hi ⟨⟨o,rfl⟩,hm,hd⟩ hJ
 have hd1:=h.sub (hs o)
 refine⟨fun hlt=>?_,fun hge=>?_⟩
 ·obtain⟨x,hxm,hx,hdr,hl,hp,hz,hrow⟩:=hd1.types.get hlt
  have hle:=idxT_le hx
  refine⟨hp,hz,hlt,_,_,hrow,qBi.str Tryz.underlying158 Tryz.underlying9 qEf hm ?_⟩
  by_cases hlo:qDQ d x.name<(i:Int)
  ·have e:pmap d i x.name=some (.int .i64 (qDQ d x.name)):=by grind [pmap]
   rw[e]
   refine⟨_,_,rfl,fun _=>no (hs o) fun k=>?_,fun k=>absurd rfl k⟩
   grind [qCg]
  ·have e:pmap d i x.name=none:=by grind [pmap]
   rw[e]
   refine⟨0,false,rfl,(fun k=>by cases k),fun _=>qCv.str Tryz.underlying158 Tryz.underlying9 hm fun o2 ho2=>⟨hd1.types.succ hlt,hJ hl _ _ ⟨⟨o2,by rw[Mem.set_set]⟩,ho2.congr fun k=>?_,fun j y hj hy=>?_⟩⟩⟩
   ·by_cases hk:k=x.name
    ·subst hk
     rw[if_pos rfl]
     grind [pmap,qDQ]
    ·rw[if_neg hk]
     unfold pmap
     by_cases hki:qDQ d k=(i:Int)
     ·grind [idxT_at,absurd]
     grind
   grind
 ·have hlen:=(hd1.types.done hge).2
  have hm':qBb (V.set b o) b (tmap d):=hm.congr fun k=>pmap_all i hlen
  have hdist:∀(j:Nat) (x:Ty),d.types[j]?=some x->qDQ d x.name=(j:Int):=fun j x hx=>hd j x (by grind) hx
  intro p hp
  have s1:=Mem.sub_new hp (cell (.map (some b)) 158)
  have hpp:=Mem.set_same (V.set b o) p (cell (.map (some b)) 158)
  have hm1:=hm'.sub s1
  have hd2:=hd1.sub s1
  refine(c121 hpp hm1 hd2.globals).call ⟨_,rfl,fun hg=>fun q hq=>?_,fun hg=>no ((hs o).trans s1) fun k=>hg (qCg.1 k).2.1⟩
  have s2:=Mem.sub_new hq (cell (.func (.func 121) #[] #[pv p]) 204)
  have hqq:=Mem.set_same ((V.set b o).set p (cell (.map (some b)) 158)) q (cell (.func (.func 121) #[] #[pv p]) 204)
  have hd3:=hd2.sub s2
  refine(c126 (first:=[]) (caps:=[pv q]) hd3.types Tryz.call127 (fun y=>!qBO d y.fields) (fun y hy=>c127 (s2 _ _ hpp) hqq (hm1.sub s2) (hd3.typesOk y hy))).call ⟨_,rfl,fun ha=>no ((hs o).trans (s1.trans s2)) fun k=>?_,fun ha=>⟨_,qBw (s2 _ _ hpp),some b,rfl,(hs o).trans (s1.trans s2),.inl ⟨qCg.2 ⟨hv,hg,hdist,fun x hx=>?_⟩,b,rfl,hm1.sub s2⟩⟩⟩
  ·grind [List.any_eq_true,qCg]
  simp_all
theorem c175{mo:Option Nat}(ht:TyM V d mo)(hT:hasT d=true)(hm:Mm.Ok V m){typ:ByteArray}(hk:qBx d typ=true){v:Int}:PP 175 [.map mo,m.v,.string typ,.int .i64 v] V (.bool (qAu d m typ v)):=by
 refine x175 ?_
 unfold w175
 have hn:=hm.nodes.n_eq
 obtain⟨b,rfl,hb⟩:∃b,mo=some b/\qBb V b (tmap d):=by
  rcases ht with⟨-,h⟩|⟨h,-⟩
  ·exact h
  simp_all
 have ret:∀{x y:Bool},x=y->Ending.returned (.bool x)=.returned (.bool y)/\V=V:=fun h=>by simp_all
 refine⟨fun h1=>?_,fun h1=>⟨fun h2=>?_,fun h2=>?_⟩⟩
 ·grind [qAu,qBd]
 ·grind [qAu,qBd,qAw,inr]
 ·unfold qAu;rw[if_neg (show ¬typ=qBd from h1),if_neg (show ¬typ=qAw from h2)]
  refine⟨fun h3=>ret (decide_eq_true (.inl h3)).symm,fun h3=>⟨fun h4=>⟨fun h5=>?_,fun h5=>ret ?_⟩,fun h4=>ret ?_⟩⟩
  ·obtain⟨i,rfl⟩:∃i:Nat,v=(i:Int)+1:=⟨(v-1).toNat,by omega⟩
   have e1:((i:Int)+1-1).toNat=i:=by omega
   obtain⟨x,hxm,hx,-,hl,hp,hz,hrow⟩:=hm.nodes.get (i:=i) (by omega)
   have hq:=qAh (n:=i*2) hp
   have hr:IR ((i:Int)+1-1):=⟨by omega,by have:=(hm.nodes.succ (i:=i) (by omega)).2;omega⟩
   have hnode:qBm d typ=true:=by
    grind [qBx,qBd,qAw]
   rw[e1]
   refine⟨hr,hp,by omega,by omega,hq,_,_,hrow,qBi.str1 Tryz.underlying158 Tryz.underlying9 qEf hb ?_⟩
   unfold tmap
   rw[if_pos hnode]
   refine⟨_,rfl,rowp_first (k:=1) hrow (by decide),hq,hp,by omega,by omega,hr,ret ?_⟩
   grind
  ·grind
  grind
theorem c130{mo:Option Nat}(ht:TyM V d mo)(hT:hasT d=true)(hm:Mm.Ok V m){l:Sl}{xs:List Fld}(hr:qAc V l 2 (xs.map Fld.row))(hk:qBO d xs=true){s:Sl}{vs:List Int}(hv:qAc V s 1 (vs.map qAe)):PP 130 [.map mo,m.v,l.v,s.v] V (.bool (qAg d m xs vs)):=by
 refine x130 ?_
 unfold w130
 have h1:=hr.n_eq
 have h2:=hv.n_eq
 refine⟨fun he=>?_,fun he=>?_⟩
 ·refine qBp (mk:=.bool) (b0:=false) vs.length (fun i V1=>V=V1/\AllI (fun i v=>qAu d m (tyAt xs i) v) vs i) ⟨rfl,AllI.zero⟩ ?_
  rintro i b V1 J hi ⟨rfl,ha⟩ hJ
  refine⟨fun hlt=>?_,fun hge=>?_⟩
  ·obtain⟨x,hxm,hx,-,hl,hp,hz,hrow⟩:=hr.get hlt
   obtain⟨y,hym,hy,-,hl2,hp2,hz2,hrow2⟩:=hv.get (i:=i) (by omega)
   have hty:tyAt xs i=x.ty:=by grind [tyAt]
   have hkx:qBx d x.ty=true:=List.all_eq_true.1 hk x hxm
   refine⟨hp,hz,hlt,_,_,hrow,hp2,hz2,by omega,_,hrow2,(c175 ht hT hm hkx).call ⟨_,rfl,fun h3=>⟨hr.succ hlt,hJ hl2 _ _ ⟨rfl,ha.succ hy (by grind)⟩⟩,fun h3=>?_⟩⟩
   unfold qAg
   rw[allI_false hy (by grind),Bool.and_false];simp_all
  ·unfold qAg
   rw[ha.all (by omega),decide_eq_true (by omega)];simp_all
 ·unfold qAg
  rw[decide_eq_false (by omega)];simp_all
theorem c129(h:Ds.Ok V d){p t:Nat}(hp:V p=some (.cells d.row.toArray t (0,0))){n:Nd}:PP 129 [n.v,pv p] V (.bool (!qEp d n)):=by
 refine x129 ?_
 unfold w129
 have hn:=h.types.n_eq
 refine⟨fun h1=>?_,fun h1=>⟨by simp,_,qAd hp 1 1 (by simp[Ds.row]),?_⟩⟩
 ·unfold qEp;rw[decide_eq_false (by omega)];exact⟨rfl,rfl⟩
 ·refine⟨?_,rfl⟩
  grind [qEp]
theorem c131(h:Ds.Ok V d)(hm:Mm.Ok V m){mo:Option Nat}(ht:TyM V d mo)(hT:hasT d=true){p q r t t2 t3:Nat}(hp:V p=some (cell (.map mo) t))(hq:V q=some (.cells m.row.toArray t2 (0,0)))(hr:V r=some (.cells d.row.toArray t3 (0,0))){n:Nd}(hn:n∈m.nodes)(hty:qEp d n=true) :
  PP 131 [n.v,pv p,pv q,pv r] V (.bool (!qAg d m (qAq d n.ty) n.f)):=by
 refine x131 ?_
 unfold w131
 obtain⟨h1,h2⟩:=of_decide_eq_true hty
 have hlen:=h.types.n_eq
 obtain⟨i,hi⟩:∃i:Nat,n.ty=(i:Int):=⟨n.ty.toNat,by omega⟩
 obtain⟨x,hxm,hx,-,hl,hp1,hz,hrow⟩:=h.types.get (i:=i) (by omega)
 have hf:=qBr hx hi
 rw[hf]
 refine⟨_,qBw hp,_,_,qAd hq 0 2 (by simp[Mm.row]),by simp,_,qAd hr 1 1 (by simp[Ds.row]),hp1,h1,by omega,?_⟩
 rw[hi]
 refine⟨qAh hp1,_,_,hrow,(c130 ht hT hm (h.typesOk x hxm).fields ((qCg.1 hT).2.2.2 x hxm) (hm.nodesOk n hn).rows).call ⟨_,rfl,rfl,rfl⟩⟩
theorem c79(h:Ds.Ok V d)(hm:Mm.Ok V m){mo:Option Nat}(ht:TyM V d mo):Pur Tryz.prog 79 [.map mo,d.v,m.v] V (.bool (qAx d m)):=by
 refine Pur.mk ?_
 refine x79 ?_
 unfold w79
 have hn:=hm.nodes.n_eq
 rcases ht with⟨hT,b,rfl,hb⟩|⟨hT,rfl⟩
 rotate_left
 ·refine⟨fun _=>?_,fun k=>absurd rfl k⟩
  unfold qAx;rw[(Bool.not_eq_true _).mp hT];exact⟨rfl,Mem.sub.refl _⟩
 refine⟨(fun k=>by cases k),fun _=>⟨fun h1=>?_,fun h1=>?_⟩⟩
 ·unfold qAx;rw[decide_eq_false (by omega:¬m.nodes.length<=4096)];simp_all [Bool.and_false,Bool.false_and,trivial,Mem.sub.refl]
 intro p hp
 have s1:=Mem.sub_new hp (.cells d.row.toArray 30 (0,0))
 have hpp:=Mem.set_same V p (.cells d.row.toArray 30 (0,0))
 have hm1:=hm.sub s1
 refine(c128 (first:=[]) (caps:=[pv p]) hm1.nodes Tryz.call129 (fun n=>!qEp d n) (fun n hn=>c129 (h.sub s1) hpp)).call ⟨_,rfl,fun h2=>?_,fun h2=>?_⟩
 ·grind [qAx,qEp]
 have hall:m.nodes.all (qEp d)=true:=by
  simp_all
 have ht1:TyM (V.set p (.cells d.row.toArray 30 (0,0))) d (some b):=.inl ⟨hT,b,rfl,hb.sub s1⟩
 have hd1:=h.sub s1
 refine⟨nofun,_,qAd hpp 2 1 (by simp[Ds.row]),(c130 ht1 hT hm1 hd1.globals (qCg.1 hT).2.1 hm1.globals).call ⟨_,rfl,fun h3=>?_,fun h3=>?_⟩⟩
 rotate_left
 ·grind [qAx]
 intro q hq
 have s2:=Mem.sub_new hq (cell (.map (some b)) 158)
 intro r hr
 have s3:=Mem.sub_new hr (.cells m.row.toArray 34 (0,0))
 have s23:=s2.trans s3
 refine(c128 (first:=[]) (caps:=[pv q,pv r,pv p]) (hm1.sub s23).nodes Tryz.call131 (fun n=>!qAg d m (qAq d n.ty) n.f) (fun n hn=>?_)).call ⟨_,rfl,?_,s1.trans s23⟩
 ·refine c131 (hd1.sub s23) (hm1.sub s23) (mo:=some b) (.inl ⟨hT,b,rfl,(hb.sub s1).sub s23⟩) hT (s3 _ _ mss) mss (s23 _ _ hpp) hn (List.all_eq_true.1 hall n hn)
 grind [qAx,qAg]
theorem c44[Tab V](h:Ds.Ok V d)(hm:Mm.Ok V m):Pur Tryz.prog 44 [d.v,m.v] V (.bool (qAx d m)):=by
 refine Pur.mk ?_
 refine x44 ?_
 unfold w44
 refine Tri.mono (c78 h) ?_
 rintro _ V' ⟨mo,rfl,hs,ht⟩
 exact⟨mo,rfl,(c79 (h.sub hs) (hm.sub hs) ht).call ⟨_,rfl,rfl,hs⟩⟩
end
theorem chk_none{d:Ds}(h:(fltR (qIH d)).2.2=0):qIH d=none:=by
 have key:∀{a:Option Flt},(∀r,a=some r->r.2.2≠0)->(fltR a).2.2=0->a=none:=fun {a} hb h=>by
  cases a with
  | none=>rfl
  | some r=>exact absurd h (hb r rfl)
 refine key (fun r hr=>?_) h
 unfold qIH at hr
 have orC:∀{a b:Option Flt} {r},a.or b=some r->a=some r∨b=some r:=fun {a b r} h=>by
  cases a with
  | none=>exact .inr (by simpa using h)
  | some x=>exact .inl (by simpa using h)
 rcases orC hr with h1|hr
 ·exact(types_bad d r h1).1
 rcases orC hr with h1|hr
 ·exact(heads_bad d r h1).1
 rcases orC hr with h1|hr
 ·exact(form_bad d r h1).1
 rcases orC hr with h1|hr
 ·unfold qCu at h1
  obtain⟨j,x,-,hx⟩:=qCG h1
  split at hx
  ·rename_i hne;cases hx;exact hne
  ·cases hx
 ·exact(exps_bad d r hr).1
section
variable{V:Mem}{d:Ds}{m:Mm}
theorem c161(hd:Ds.Ok V d)(hm:Mm.Ok V m)(G:qAz d m){typ:ByteArray}{v:Int}:PP 161 [d.v,m.v,.string typ,.int .i64 v] V (.bool (qAu d m typ v)):=by
 refine x161 ?_
 unfold w161
 have fin:∀{b:Bool},qAu d m typ v=b->(Ending.returned (.bool b)=.returned (.bool (qAu d m typ v))/\V=V):=fun e=>⟨by rw[e],rfl⟩
 refine⟨fun h=>⟨fun a=>fin ?_,fun a=>fin ?_⟩,fun h=>⟨fun h1=>⟨fun a=>fin ?_,fun a=>fin ?_⟩,fun h1=>⟨fun h0=>fin ?_,fun h0=>⟨fun hp=>⟨fun hl=>?_,fun hl=>fin ?_⟩,fun hp=>fin ?_⟩⟩⟩⟩
 ·unfold qAu;rw[if_pos (show typ=qBd from h)];simp[show (-1099511627776:Int)<=v from a]
 ·unfold qAu;rw[if_pos (show typ=qBd from h)];exact decide_eq_false fun k=>a k.1
 ·unfold qAu;rw[if_neg (show ¬typ=qBd from h),if_pos (show typ=qAw from h1)];exact decide_eq_true (.inl a)
 ·unfold qAu;rw[if_neg (show ¬typ=qBd from h),if_pos (show typ=qAw from h1)]
  have a:¬v=0:=a
  simp[a]
 ·unfold qAu;rw[if_neg (show ¬typ=qBd from h),if_neg (show ¬typ=qAw from h1)];exact decide_eq_true (.inl h0)
 ·have h0:¬v=0:=h0
  have hn:=hm.nodes.n_eq
  have hl:v<=(m.ns.n:Int):=hl
  obtain⟨k,hk⟩:∃k:Nat,v-1=(k:Int):=⟨(v-1).toNat,by omega⟩
  obtain⟨y,hym,hy,-,-,hpn,hz,hrow⟩:=hm.nodes.get (i:=k) (by omega)
  obtain⟨p1,p2,p3,-⟩:=qAi G.mem
  have hty:=of_decide_eq_true (p3 y hym)
  obtain⟨j,hj⟩:∃j:Nat,y.ty=(j:Int):=⟨y.ty.toNat,by omega⟩
  have htn:=hd.types.n_eq
  obtain⟨tt,-,htt,-,-,hp2,hz2,hrow2⟩:=hd.types.get (i:=j) (by omega)
  have hrow':V.rowp m.ns.p (k*2) 2=some [.int .i64 (j:Int),y.sl.v]:=by rw[<- hj];exact hrow
  rw[hk]
  refine⟨⟨by omega,by omega⟩,hpn,hz,by omega,qAh hpn,_,_,hrow',hp2,hz2,by omega,qAh hp2,_,_,hrow2,fin ?_⟩
  unfold qAu
  rw[if_neg (show ¬typ=qBd from h),if_neg (show ¬typ=qAw from h1),hk,Int.toNat_natCast,hy]
  refine decide_eq_decide.2 ⟨fun k1=>?_,fun k1=>.inr ⟨by omega,by omega,?_⟩⟩
  ·rcases k1 with k1|⟨-,-,k1⟩
   ·exact absurd k1 h0
   ·simp only[Option.map_some,Option.some.injEq]at k1
    obtain⟨x,hx,hxn⟩:=idxT_at (d:=d) (k:=typ) (i:=j) (by rw[<- k1,hj])
    rw[htt]at hx;cases hx;exact hxn
  ·simp only[Option.map_some,Option.some.injEq]
   rw[hj,<- (qBy p1).2.1 j tt htt]
   exact congrArg _ k1
 ·have hl:¬v<=(m.ns.n:Int):=hl
  have hn:=hm.nodes.n_eq
  have h0:¬v=0:=h0
  unfold qAu
  rw[if_neg (show ¬typ=qBd from h),if_neg (show ¬typ=qAw from h1)]
  exact decide_eq_false fun k1=>by rcases k1 with k1|⟨-,k1,-⟩ <;> omega
 ·have hp:¬0<v:=hp
  have h0:¬v=0:=h0
  unfold qAu
  rw[if_neg (show ¬typ=qBd from h),if_neg (show ¬typ=qAw from h1)]
  exact decide_eq_false fun k1=>by rcases k1 with k1|⟨k1,-,-⟩ <;> omega
def qDh(d:Ds)(m:Mm)(nm:ByteArray)(args:List Int):Int :=
 if qCU d nm<0 then 9 else match d.procs[(qCU d nm).toNat]? with
  | none=>9
  | some pr=>if args.length=pr.params.length then (if qAg d m pr.params args=true then 0 else 11) else 3
theorem qIG{nm:ByteArray}{args:List Int}(h:qDh d m nm args=0):∃(i:Nat) (pr:Pr),qCU d nm=(i:Int)/\d.procs[i]?=some pr/\qAg d m pr.params args=true:=by
 unfold qDh at h
 split at h
 ·cases h
 ·split at h
  ·cases h
  ·rename_i h1 pr hp
   split at h
   ·split at h
    ·exact⟨(qCU d nm).toNat,pr,by omega,hp,by assumption⟩
    ·cases h
   ·cases h
def noPr:Pr:=⟨qAr [],qAL,[],qAr [],qAL,[],qAL,[]⟩
theorem c114(hd:Ds.Ok V d)(hm:Mm.Ok V m)(G:qAz d m){l:Sl}{args:List Int}(ha:qAc V l 1 (args.map qAe)){nm:ByteArray} :
  PP 114 [d.v,m.v,.agg #[.string nm,l.v]] V (.tuple #[(if qDh d m nm args=0 then ((d.procs[(qCU d nm).toNat]?).getD noPr) else noPr).v,.int .i64 (qDh d m nm args)]):=by
 refine x114 ?_
 unfold w114
 have bad:∀{e:Int},qDh d m nm args=e->e≠0->(Ending.returned (.tuple #[noPr.v,.int .i64 e])=.returned (.tuple #[(if qDh d m nm args=0 then ((d.procs[(qCU d nm).toNat]?).getD noPr) else noPr).v,.int .i64 (qDh d m nm args)])/\V=V):=fun e h=>⟨by rw[e,if_neg h],rfl⟩
 refine(c160 hd).call ⟨_,rfl,fun h=>?_,fun h=>?_⟩
 ·exact bad (by unfold qDh;rw[if_pos h]) (by decide)
 ·have h:¬qCU d nm<0:=h
  rcases qBh (fun t:Pr=>decide (t.name=nm)) d.procs with⟨h1,-⟩|⟨i,pr,h1,h2,-⟩
  ·have:qCU d nm=-1:=h1
   omega
  have hi:qCU d nm=(i:Int):=h1
  have hn:=hd.procs.n_eq
  have hil:=(List.getElem?_eq_some_iff.1 h2).1
  obtain⟨y,hym,hy,-,-,hp,hz,hrow⟩:=hd.procs.get (i:=i) (by omega)
  rw[h2]at hy;cases hy
  have hc:qDh d m nm args=if args.length=pr.params.length then (if qAg d m pr.params args=true then 0 else 11) else 3:=by unfold qDh;rw[if_neg h,hi,Int.toNat_natCast,h2]
  have hok:=(hd.procsOk pr hym).params
  have hln:=hok.n_eq
  have han:=ha.n_eq
  rw[hi]at bad ⊢
  refine⟨hp,hz,by omega,_,_,_,_,_,hrow,fun hlen=>?_,fun hlen=>?_⟩
  ·have hlen:(l.n:Int)=(pr.ps.n:Int):=hlen
   have hl2:args.length=pr.params.length:=by omega
   rw[if_pos hl2]at hc
   refine qBp (mk:=fun k:Int=>.int .i64 k) (b0:=0) args.length (fun j V1=>V1=V/\∀(i:Nat) f v,i<j->pr.params[i]?=some f->args[i]?=some v->qAu d m f.ty v=true) ⟨rfl,fun i f v h=>by omega⟩ ?_
   rintro j b V1 J hj ⟨rfl,hall⟩ hJ
   refine⟨fun hlt=>?_,fun hge=>?_⟩
   ·obtain⟨v,hvm,hv,-,hjl,hp1,hz1,hr1⟩:=ha.get hlt
    obtain⟨f,hfm,hf,-,-,hp2,hz2,hr2⟩:=hok.get (i:=j) (by omega)
    refine⟨hp1,hz1,hlt,v,hr1,hp2,hz2,by omega,qAh hp2,_,_,hr2,(c161 hd hm G).call ⟨_,rfl,fun hb=>⟨ha.succ hlt,hJ hjl _ _ ⟨rfl,fun i g w hi' hg hw=>?_⟩⟩,fun hb=>bad ?_ (by decide)⟩⟩
    ·rcases Nat.lt_or_ge i j with h3|h3
     ·exact hall i g w h3 hg hw
     ·obtain rfl:i=j:=by omega
      rw[hf]at hg;cases hg
      rw[hv]at hw;cases hw
      exact hb
    ·rw[hc,if_neg fun k=>hb ((qAC.1 k).2 j f v hf hv)]
   ·have hd2:=(ha.done hge).2
    have hval:qAg d m pr.params args=true:=qAC.2 ⟨hl2.symm,fun i f v hf hv=>hall i f v (by have:=(List.getElem?_eq_some_iff.1 hv).1;omega) hf hv⟩
    rw[if_pos hval]at hc
    refine⟨?_,rfl⟩
    rw[hc,if_pos rfl,Int.toNat_natCast,h2]
    rfl
  ·have hlen:¬(l.n:Int)=(pr.ps.n:Int):=hlen
   exact bad (by rw[hc,if_neg (by omega)]) (by decide)
noncomputable def qBs(d:Ds)(m:Mm)(F:Int):Int:=by
 classical
 exact if qAz d m then (if F<0 then 2 else if 1048576<F then 2 else 0) else 1
theorem c71[Tab V](hd:Ds.Ok V d)(hm:Mm.Ok V m){F:Int}:PP 71 [d.v,m.v,.int .i64 F] V (.int .i64 (qBs d m F)):=by
 refine x71 ?_
 unfold w71
 have bad:¬qAz d m->(Ending.returned (.int .i64 1)=.returned (.int .i64 (qBs d m F))/\V=V):=fun h=>⟨by unfold qBs;rw[if_neg h],rfl⟩
 refine(c113 scopeC newC hd).call ?_
 by_cases hv:qAF d=true
 ·rw[if_pos hv]
  refine⟨_,_,_,rfl,fun h0=>(c44 hd hm).call ⟨_,rfl,fun h1=>?_,fun h1=>bad fun k=>h1 k.mem⟩,fun h0=>bad fun k=>h0 (by rw[k.chk];rfl)⟩
  have G:qAz d m:=⟨hv,chk_none h0,h1⟩
  refine⟨fun h=>⟨?_,rfl⟩,fun h=>⟨fun h2=>⟨?_,rfl⟩,fun h2=>⟨?_,rfl⟩⟩⟩
  ·unfold qBs;rw[if_pos G,if_pos h]
  ·unfold qBs;rw[if_pos G,if_neg h,if_pos h2]
  ·unfold qBs;rw[if_pos G,if_neg h,if_neg h2]
 ·rw[if_neg hv]
  exact⟨_,_,_,rfl,fun h=>absurd h (by decide),fun _=>bad fun k=>hv k.valid⟩
end
theorem loop3u{V:Mem}{β γ:Type}{mk:β->Value}{mc:γ->Value}{B:β->γ->Int->Mem->(List Value->Mem->Prop)->Prop}{b0:β}{c0:γ}(inj:∀x y,mk x=mk y->x=y)(inc:∀x y,mc x=mc y->x=y)(len:Nat)(St:Nat->β->γ->Mem->Prop)(h0:St 0 b0 c0 V)
  (step:∀(i:Nat) (b:β) (c:γ) V1 J,i<=len->St i b c V1->(i<len->∀b' c' V2,St (i+1) b' c' V2->J [mk b',mc c',.int .i64 ((i:Int)+1)] V2)->B b c (i:Int) V1 J) :
  ∃(I:Nat->List Value->Mem->Prop) (n0:Nat),I n0 [mk b0,mc c0,.int .i64 0] V/\∀n V1,∀b:β,∀c:γ,∀v:Int,I n [mk b,mc c,.int .i64 v] V1->∀J:List Value->Mem->Prop,(∀m ys V'',m<n->I m ys V''->J ys V'')->B b c v V1 J:=by
 refine⟨LI len fun i xs V=>∃b c,xs=[mk b,mc c,.int .i64 i]/\St i b c V,len,LI.start ⟨b0,c0,rfl,h0⟩,?_⟩
 rintro n V1 b c v ⟨i,rfl,hi,b',c',hx,hs⟩ J hJ
 simp only[List.cons.injEq,Value.int.injEq,true_and,and_true]at hx
 obtain⟨hb,hc,rfl⟩:=hx
 cases inj _ _ hb
 cases inc _ _ hc
 exact step i b c V1 J hi hs fun hlt b' c' V2 h2=>LI.next hJ hlt ⟨b',c',rfl,h2⟩
theorem c72{V:Mem}{m:Mm}(hm:Mm.Ok V m)(h1:m.globals.length<=2147483648)(h2:m.nodes.length<=4096)(h3:∀n∈m.nodes,n.f.length<=2147483648):Tri Tryz.prog 72 #[m.v] V fun e V'=>∃gs ns nd,e=.returned (.agg #[.slice gs.p gs.n gs.c,.slice ns.p ns.n ns.c])/\Lay V V' gs ns qAL nd (qBR m):=by
 refine x72 ?_
 unfold w72
 refine Tri.mono (c42 hm.globals h1) ?_
 rintro _ V1 ⟨gs,rfl,o1⟩
 refine⟨gs,rfl,loop3u (mk:=fun s:Sl=>.slice s.p s.n s.c) (mc:=fun s:Sl=>.slice s.p s.n s.c) (b0:=gs) (c0:=⟨none,0,0⟩) qBE qBE m.nodes.length (fun i b ns V2=>b=gs/\∃nd,Lay V V2 gs ns qAL nd ⟨m.globals,(m.nodes.take i).map fun n=>(n.ty,n.f),0,0,[]⟩/\nd.length=i) ⟨rfl,[],⟨o1,Own.nil o1.sub _ _,Own.nil o1.sub _ _,(fun n hn=>by cases hn),rfl,(fun n hn=>by cases hn),(fun i j n n' c h=>by cases h)⟩,rfl⟩ ?_⟩
 rintro i b ns V2 J hi ⟨rfl,nd,L,hnl⟩ hJ
 have hr:=hm.nodes.sub L.sub
 refine⟨fun hlt=>?_,fun hge=>?_⟩
 ·obtain⟨x,hxm,hx,-,hil,hp,hz,hrow⟩:=hr.get hlt
  refine⟨hp,hz,hlt,x.ty,x.sl,hrow,Tri.mono (c42 ((hm.nodesOk x hxm).rows.sub L.sub) (h3 x hxm)) ?_⟩
  rintro _ V3 ⟨fs,rfl,o3⟩
  refine⟨fs,rfl,fun tb htb=>L.new (n:=⟨x.ty,fs,x.f⟩) o3 htb rfl rfl (by omega) fun s' V' L' _=>⟨s',rfl,hr.succ hlt,hJ hil _ _ _ ⟨rfl,nd++[⟨x.ty,fs,x.f⟩],?_,by rw[List.length_append,hnl];rfl⟩⟩⟩
  rw[List.take_add_one,hx]
  simpa using L'
 ·have hd:=(hr.done hge).2
  rw[List.take_of_length_le hd]at L
  exact⟨b,ns,nd,rfl,L⟩
end Go.Proofs
