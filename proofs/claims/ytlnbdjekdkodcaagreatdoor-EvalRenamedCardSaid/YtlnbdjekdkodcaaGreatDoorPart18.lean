/- Part 18 of a proof of a law of this seat: no statement of the seat is proved here. -/
import Derived.Test.YtlnbdjekdkodcaaGreatDoorPart17
set_option linter.unusedVariables false
set_option linter.unusedSimpArgs false
namespace Go.Proofs
open Go Go.Sx
attribute [local irreducible] Go.Sx.Tri
def qIY(pr:Pr)(a b:Sl)(r:Option Int):List Value:=[Go.Sx.vS pr.name,pr.ps.v,Go.Sx.vS pr.result,pr.ls.v,pr.bs.v,a.v,b.v,.bool r.isSome,.int .i64 (r.getD 0)]
structure Gv (V0:Mem) (q:Nat) (pr:Pr) (vals:List Int):Prop where
 ex:∃a b:Sl,V0 q=some (.cells (qIY pr a b none).toArray 168 (0,0))/\qAd V0 a 2 (pr.vars.map Fld.row)/\qAd V0 b 1 (vals.map qAn)
structure Yx (V0:Mem) (d:Ds) (p F c q:Nat) (pr:Pr) (vals:List Int) (n m:Nat) (V:Mem) (s:St):Prop where
 S:ES V0 d F
 fr:Gv V0 q pr vals
 pm:pr∈d.procs
 G:qAr d s.mm
 hv:qAg d s.mm pr.vars vals=true
 M:XM V0 d p F V s c 0
 tk:s.tk<=F
 n:F<n+s.tk
 w:BW m s
section
variable{V0 V V1:Mem}{d:Ds}{p F c q:Nat}{s:St}{pr:Pr}{vals:List Int}
theorem Yx.po{n m:Nat}(X:Yx V0 d p F c q pr vals n m V s):qBu d pr:=X.S.procs pr X.pm
theorem Yx.fit{n m:Nat}(X:Yx V0 d p F c q pr vals n (m+1) V s):s.lg.length+1<=2147483648:=by
 have h1:=X.w;have h2:=X.tk;have h3:=X.S.fuel;unfold BW at h1;omega
theorem Yx.next{n m k:Nat}{V':Mem}{s':St}(X:Yx V0 d p F c q pr vals n (m+k) V s)(g:Gr F m s s')(G:qAr d s'.mm)(M:XM V0 d p F V' s' c 0):Yx V0 d p F c q pr vals n k V' s' :=
 ⟨X.S,X.fr,X.pm,G,qAh (fun h=>g.right h) X.hv,M,g.fu X.tk,by have:=g.tk;have:=X.n;omega,X.w.next g⟩
theorem Yx.le{n m k:Nat}(X:Yx V0 d p F c q pr vals n m V s)(h:k<=m):Yx V0 d p F c q pr vals n k V s:=⟨X.S,X.fr,X.pm,X.G,X.hv,X.M,X.tk,X.n,X.w.le h⟩
theorem Gv.sub{V':Mem}(h:Gv V0 q pr vals)(hs:V0.sub V'):Gv V' q pr vals:=by
 obtain⟨a,b,h1,h2,h3⟩:=h.ex
 exact⟨a,b,hs _ _ h1,h2.sub hs,h3.sub hs⟩
theorem nodeX{kf cc:Int}(M:XM V0 d p F V s cc kf){k i:Nat}{ty v:Int}{fs:List Int}(hk:s.ns[k]?=some (ty,fs))(hv:fs[i]?=some v):∃gs ns ls nd sl,V p=some (.cells (qBv d F s.tk cc kf s.cm (qAw s.lg) gs ns ls).toArray 66 (0,0))/\Lay V0 V gs ns ls nd s/\nd[k]?=some ⟨ty,sl,fs⟩/\IR (k:Int) /\
  ¬ns.p=none/\(0:Int)<=(k:Int)/\(k:Int)<(ns.n:Int)/\V.rowp ns.p (k*2) 2=some [.int .i64 ty,.slice sl.p sl.n sl.c]/\¬sl.p=none/\(0:Int)<=(i:Int)/\(i:Int)<(sl.n:Int)/\V.rowp sl.p (i*1) 1=some [.int .i64 v]:=by
 obtain⟨gs,ns,ls,nd,hat,L⟩:=M.ex
 have hnR:=L.nodes.rows (fun _=>rfl) (by decide)
 have hnn:=hnR.n_eq
 obtain⟨sl,hsl⟩:=L.at_ hk
 have hkl:=(List.getElem?_eq_some_iff.1 hsl).1
 obtain⟨y,-,hy,-,-,hp,hz,hrow⟩:=hnR.get (i:=k) (by omega)
 rw[hsl]at hy;cases hy
 have hI:IR ((k:Int)):=⟨by omega,by have:=(hnR.succ (i:=k) (by omega)).2;omega⟩
 obtain⟨g1,g2,g3,g4⟩:=gAt ((L.fld _ (List.mem_of_getElem? hsl)).rows (fun _=>rfl) (by decide)) hv
 exact⟨gs,ns,ls,nd,sl,hat,L,hsl,hI,hp,hz,by omega,hrow,g1,g2,g3,g4⟩
theorem nameX{n m:Nat}(X:Yx V0 d p F c q pr vals n (m+1) V s){nm t:ByteArray}(hl:qBF (qAf d pr).vars nm=t)(hne:t≠sE) :
  Tri Tryz.prog 208 #[pv p,pv q,.string nm] V (XR V0 d p F c (varX d pr vals nm s)):=by
 obtain⟨gs,ns,ls,nd,hat,L⟩:=X.M.ex
 obtain⟨fa,fb,hq0,hra0,hrb0⟩:=X.fr.ex
 have hq:=L.sub _ _ hq0
 have hd:=X.S.ds.sub L.sub
 refine x208 ?_
 unfold w208
 refine⟨nn,nn,fa,qAc hq 5 1 (by simp[qIY]),(c217 (hra0.sub L.sub)).call ⟨_,rfl,?_⟩⟩
 rcases qDV X.G X.hv X.po.vars hl hne with⟨i,g,v,h1,h2,h3,h4,-,h6⟩|⟨i,g,v,h0,h1,h2,h3,h4,-,h6⟩
 ·rw[h1]
  obtain⟨g1,g2,g3,g4⟩:=gAt (hrb0.sub L.sub) h3
  exact qAs (by omega) ⟨nn,nn,fb,qAc hq 6 1 (by simp[qIY]),g1,g2,g3,_,g4,XR.ok h6 X.M⟩
 ·rw[h0]
  refine qAj (by decide) ⟨nn,nn,pnn,d.gs,qAc hat 2 1 (by simp[qBv]),(c217 hd.globals).call ⟨_,rfl,?_⟩⟩
  rw[h1]
  refine Tri.mono (c212 X.M X.fit) ?_
  rintro _ V3 ⟨rfl,M3⟩
  obtain⟨gs3,ns3,ls3,nd3,hat3,L3⟩:=M3.ex
  obtain⟨g1,g2,g3,g4⟩:=gAt (L3.glob.rows (fun _=>rfl) (by decide)) (i:=i) (v:=v) h3
  exact⟨rfl,nn,nn,pnn,gs3,qAc hat3 8 1 (by simp[qBv]),g1,g2,g3,_,g4,XR.ok h6 M3⟩
theorem c211(S:ES V0 d F){kf cc:Int}(M:XM V0 d p F V s cc kf){k j:Nat}{fs:List Int}{tt:Ty}(hk:s.ns[k]?=some ((j:Int),fs))(hj:d.types[j]?=some tt){nm:ByteArray}:PP 211 [pv p,.int .i64 ((k:Int)+1),.string nm] V (.int .i64 (qFi tt.fields nm)):=by
 obtain⟨gs,ns,ls,nd,hat,L⟩:=M.ex
 refine x211 ?_
 unfold w211
 have hd:=S.ds.sub L.sub
 have hnR:=L.nodes.rows (fun _=>rfl) (by decide)
 have hnn:=hnR.n_eq
 obtain⟨sl,hsl⟩:=L.at_ hk
 have hkl:=(List.getElem?_eq_some_iff.1 hsl).1
 obtain⟨y,-,hy,-,-,hp,hz,hrow⟩:=hnR.get (i:=k) (by omega)
 rw[hsl]at hy;cases hy
 have hI:IR ((k:Int)):=⟨by omega,by have:=(hnR.succ (i:=k) (by omega)).2;omega⟩
 have hn:=hd.types.n_eq
 have hjl:=(List.getElem?_eq_some_iff.1 hj).1
 obtain⟨y,-,hy,-,-,hp2,hz2,hrow2⟩:=hd.types.get (i:=j) (by omega)
 rw[hj]at hy;cases hy
 refine⟨nn,nn,pnn,d.ts,qAc hat 1 1 (by simp[qBv]),nn,nn,pnn,ns,qAc hat 9 1 (by simp[qBv]),?_⟩
 rw[show ((k:Int)+1-1)=(k:Int) by omega]
 exact⟨hI,hp,hz,by omega,qAe hp,_,_,hrow,hp2,hz2,(show (j:Int)<d.ts.n by omega),qAe hp2,_,_,hrow2,(c217 (hd.typesOk tt (List.mem_of_getElem? hj)).fields).call ⟨_,rfl,rfl,rfl⟩⟩
theorem allocX{n m:Nat}(X:Yx V0 d p F c q pr vals n (m+1) V s){nm:ByteArray}(hn:qAX d nm=true) :
  Tri Tryz.prog 209 #[pv p,.string nm] V (XR V0 d p F c (newX d nm s)):=by
 obtain⟨gs,ns,ls,nd,hat,L⟩:=X.M.ex
 have hd:=X.S.ds.sub L.sub
 obtain⟨G,hG⟩:∃G,G=newX d nm s:=⟨_,rfl⟩
 rw[<- hG]
 refine Tri.mono (x209 (R:=XR V0 d p F c G) ?_) fun _ _ h=>h
 unfold w209
 have hnn:=(L.nodes.rows (fun _=>rfl) (by decide)).n_eq
 have hlen:=L.len
 refine⟨nn,nn,pnn,ns,qAc hat 9 1 (by simp[qBv]),fun hl=>failX X.M (by decide) ?_,fun hl=>?_⟩
 ·have hl:4096<=(ns.n:Int):=hl
  rw[hG];unfold newX;rw[if_pos (by omega)]
 have hl:¬4096<=(ns.n:Int):=hl
 obtain⟨tt,htm,hte⟩:=List.any_eq_true.1 hn
 have hte:tt.name=nm:=of_decide_eq_true hte
 obtain⟨j,hj⟩:=List.mem_iff_getElem?.1 htm
 have hidx:qDB d nm=(j:Int):=hte ▸ (qBz (qAp X.G.mem).1).2.1 j tt hj
 have hfo:qAx d (j:Int)=tt.fields:=qAW hj rfl
 refine⟨nn,nn,d.name,d.ts,d.gs,d.ps,d.ms,d.is,d.qs,d.bs,qAc hat 0 8 (by simp[qBv]),(c92 hd).call ⟨_,rfl,?_⟩⟩
 rw[show qHo (fun t:Ty=>decide (t.name=nm)) d.types=(j:Int) from hidx]
 have htn:=hd.types.n_eq
 have hjl:=(List.getElem?_eq_some_iff.1 hj).1
 obtain⟨y,-,hy,-,-,hp,hz,hrow⟩:=hd.types.get (i:=j) (by omega)
 rw[hj]at hy;cases hy
 have hfn:=(hd.typesOk tt htm).fields.n_eq
 have hfl:=(qJI X.S.valid).2 tt htm
 refine⟨nn,nn,pnn,ns,qAc hat 9 1 (by simp[qBv]),nn,nn,pnn,d.ts,qAc hat 1 1 (by simp[qBv]),hp,hz,by omega,qAe hp,_,_,hrow,mk31 (n:=tt.fs.n) rfl rfl (by omega) fun g hg=>⟨⟨some ⟨g,0,none⟩,tt.fs.n,tt.fs.n⟩,rfl,?_⟩⟩
 obtain⟨V2,hV2⟩:∃V2,V2=V.set g (.cells (madeCells (Value.int .i64 0).cells (tt.fs.n*1)) 3 (0,0)):=⟨_,rfl⟩
 have hown:=qKl hg (n:=tt.fs.n) (by omega)
 rw[<- hV2]at hown ⊢
 have hat2:=hown.sub _ _ hat
 refine⟨qBa hat2 9 0 1 (by simp[qBv]),pnn,nn,nn,qBa hat2 9 0 1 (by simp[qBv]),pnn,nn,nn,fun tb htb=>?_⟩
 refine L.new (n:=⟨(j:Int),⟨some ⟨g,0,none⟩,tt.fs.n,tt.fs.n⟩,List.replicate tt.fs.n 0⟩) hown htb rfl rfl (by omega) fun s3 V3 L3 hk3=>⟨s3,rfl,nn,nn,pnn,?_⟩
 have hat3:=hk3 _ _ hat2 (qGU hat ntX L.nodes (.inr (.inl rfl)))
 refine StT.at2 (off:=9) hat3 (by simp[qBv]) ?_
 have M4:XM V0 d p F (V3.set p (.cells (qBv d F s.tk c 0 s.cm (qAw s.lg) gs s3 ls).toArray 66 (0,0))) { s with ns:=s.ns++[((j:Int),List.replicate tt.fs.n 0)] } c 0 :=
  ⟨X.M.p0,gs,s3,ls,nd++[_],Mem.set_same _ _ _,L3.put (qGh hat3 ntX) X.M.p0 _⟩
 have hn3:=(L3.nodes.rows (fun _=>rfl) (by decide)).n_eq
 rw[List.length_append,List.length_singleton]at hn3
 show ¬(some (⟨p,0,none⟩:Addr):Option Addr)=none/\_
 refine⟨nn,nn,pnn,s3,qAc mss 9 1 (by simp[qBv]),?_⟩
 rw[show ((s3.n:Nat):Int)=(s.ns.length:Int)+1 by omega]
 refine Tri.mono (c212 M4 X.fit) ?_
 rintro _ V7 ⟨rfl,M7⟩
 obtain⟨gs7,ns7,ls7,nd7,hat7,L7⟩:=M7.ex
 have hn7:=(L7.nodes.rows (fun _=>rfl) (by decide)).n_eq
 have hl7:=L7.len
 have hl7:nd7.length=(s.ns++[((j:Int),List.replicate tt.fs.n 0)]).length:=hl7
 rw[List.length_append,List.length_singleton]at hl7
 refine⟨rfl,nn,nn,pnn,ns7,qAc hat7 9 1 (by simp[qBv]),?_⟩
 rw[show ((ns7.n:Nat):Int)=(s.ns.length:Int)+1 by omega]
 refine XR.ok ?_ M7
 rw[hG];unfold newX
 rw[if_neg (by omega),hidx,hfo,<- hfn];rfl
theorem integersX{n m:Nat}(X:Yx V0 d p F c q pr vals n m V s){e:E}{t:ByteArray}(hv:VE e)(he:E.Ok V0 e)(ht:qAo d (qAf d pr) e=(t,0)) :
  Tri Tryz.prog 245 #[pv p,pv q,e.v] V fun r V'=>r=.returned (.bool (decide (t=qAP)))/\V.sub V':=by
 obtain⟨gs,ns,ls,nd,hat,L⟩:=X.M.ex
 obtain⟨fa,fb,hq0,-,-⟩:=X.fr.ex
 have hq:=L.sub _ _ hq0
 have hd:=X.S.ds.sub L.sub
 have hpr:=hd.procsOk pr X.pm
 obtain⟨dd,hok⟩:=hv
 have hl:=X.po.lens
 have hg:=(qJI X.S.valid).1
 refine x245 ?_
 unfold w245
 refine⟨nn,nn,_,_,_,_,_,_,_,_,qAc hat 0 8 (by simp[qBv]),nn,nn,_,_,_,_,_,_,_,_,qAc hat 0 8 (by simp[qBv]),nn,nn,_,_,_,_,_,qAc hq 0 5 (by simp[qIY]),?_⟩
 refine Tri.mono (refInProc hd hpr (by omega) (by omega)) ?_
 rintro _ V1 ⟨s',rfl,hs1,hr1⟩
 refine⟨_,_,rfl,qBa (hs1 _ _ hat) 0 0 8 (by simp[qBv]),nn,nn,?_⟩
 have hE:=qKi (sc:=qAf d pr) (hd.sub hs1) hr1 e (he.sub (L.sub.trans hs1)) dd hok V1 (Mem.sub.refl _)
 refine hE.call ⟨_,_,rfl,fun h=>⟨?_,hs1⟩,fun h=>absurd (show (qAo d (qAf d pr) e).2=0 by rw[ht]) h⟩
 rw[ht];rfl
theorem compareX{n m:Nat}(X:Yx V0 d p F c q pr vals n (m+1) V s){e a:E}{u:ByteArray}{v w:Int}(hv:VE e)(he:E.Ok V0 e)(h0:e.k[0]?=some a)(ha:qAo d (qAf d pr) a=(u,0))(hop:e.op=14∨e.op=15∨(e.op=16/\u=qAP)∨(e.op=17/\u=qAP)) :
  Tri Tryz.prog 215 #[pv p,pv q,e.v,.int .i64 v,.int .i64 w] V (XR V0 d p F c (qDh (qCA e.op v w) (qHM (decide (u=qAP)) e.op s))):=by
 obtain⟨gs,ns,ls,nd,hat,L⟩:=X.M.ex
 obtain⟨G,hG⟩:∃G,G=qDh (qCA e.op v w) (qHM (decide (u=qAP)) e.op s):=⟨_,rfl⟩
 rw[<- hG]
 obtain⟨k1,k2,k3,k4⟩:=qDx (he.sub L.sub) h0
 have ham:=List.mem_of_getElem? h0
 have hcm:s.cm+1<=16000000:=by have h1:=X.w;have h2:=X.tk;have h3:=X.S.fuel;unfold BW at h1;omega
 refine Tri.mono (x215 (R:=XR V0 d p F c G) ?_) fun _ _ h=>h
 unfold w215
 refine⟨k1,by decide,k3,_,_,_,_,k4,Tri.mono (integersX X (hv.kids a ham) (he.kids a ham) ha) ?_⟩
 rintro _ V1 ⟨rfl,hs1⟩
 have M1:=X.M.grow hs1
 obtain⟨gs1,ns1,ls1,nd1,hat1,L1⟩:=M1.ex
 have fin:∀{s':St} {V2:Mem},XM V0 d p F V2 s' c 0->s'=qHM (decide (u=qAP)) e.op s ->
   Br (e.op=14) (TT 246 #[uB (decide (v=w))] V2 fun e' V3=>∃v14,e'=rV (uI v14)/\XR V0 d p F c G (rV (uI v14)) V3)
   (Br (e.op=15) (TT 246 #[uB (!(decide (v=w)))] V2 fun e' V3=>∃v14,e'=rV (uI v14)/\XR V0 d p F c G (rV (uI v14)) V3)
   (Br (e.op=16) (TT 246 #[uB (decide (v<w))] V2 fun e' V3=>∃v14,e'=rV (uI v14)/\XR V0 d p F c G (rV (uI v14)) V3)
   (TT 246 #[uB (decide (v<=w))] V2 fun e' V3=>∃v14,e'=rV (uI v14)/\XR V0 d p F c G (rV (uI v14)) V3))):=fun {s' V2} M2 hs'=>by
  have go:∀{x:Bool},qCA e.op v w=.ok (trI x)->Tri Tryz.prog 246 #[.bool x] V2 fun e' V3=>∃v14,e'=.returned (.int .i64 v14)/\XR V0 d p F c G (.returned (.int .i64 v14)) V3:=fun hx=>c246.call ⟨_,rfl,XR.ok (s:=s') (by rw[hG,hx,hs'];rfl) M2⟩
  refine⟨fun h=>go ?_,fun h14=>⟨fun h=>go ?_,fun h15=>⟨fun h=>go ?_,fun h16=>go ?_⟩⟩⟩
  ·rw[show e.op=14 from h];rfl
  ·rw[show e.op=15 from h];rfl
  ·rw[show e.op=16 from h];rfl
  ·have h14:¬e.op=14:=h14
   have h15:¬e.op=15:=h15
   have h16:¬e.op=16:=h16
   rw[show e.op=17 by omega];rfl
 refine⟨_,rfl,fun hi=>?_,fun hi=>?_⟩
 ·have hi:u=qAP:=of_decide_eq_true hi
  refine⟨nn,nn,pnn,_,qAc hat1 14 1 (by simp[qBv]),⟨by omega,by omega⟩,nn,nn,pnn,StT.at2 (off:=14) hat1 (by simp[qBv]) ?_⟩
  refine fin (s':={ s with cm:=s.cm+1 }) (MA.set (row':=qBv d F s.tk c 0 ((s.cm+1:Nat):Int) (qAw s.lg)) ntX M1.p0 hat1 L1 rfl rfl rfl rfl) ?_
  unfold qHM
  rw[if_pos]
  rcases hop with h|h|h|h
  ·exact .inr (.inr ⟨.inl h,decide_eq_true hi⟩)
  ·exact .inr (.inr ⟨.inr h,decide_eq_true hi⟩)
  ·exact .inl h.1
  ·exact .inr (.inl h.1)
 ·have hi:¬u=qAP:=fun h=>hi (decide_eq_true h)
  refine fin (s':=s) M1 ?_
  unfold qHM
  rw[if_neg]
  rintro (h|h|h)
  ·rcases hop with h1|h1|h1|h1
   ·omega
   ·omega
   ·exact hi h1.2
   ·exact hi h1.2
  ·rcases hop with h1|h1|h1|h1
   ·omega
   ·omega
   ·exact hi h1.2
   ·exact hi h1.2
  ·exact hi (of_decide_eq_true h.2)
end
section
variable{x y:St->Rx Int}{s s1 s2:St}{acc:List Int}{k:Int}
theorem sq1_ok(h:qGQ [x] [] s=.ok acc s1):∃v,x s=.ok v s1/\acc=[v]:=by
 have h:(x s).bind (fun v st=>.ok [v] st)=.ok acc s1:=h
 cases e:x s with
 | ok v t=>rw[e]at h;cases h;exact⟨v,rfl,rfl⟩
 | bad c t=>rw[e]at h;cases h
theorem sq1_bad(h:qGQ [x] [] s=.bad k s1):x s=.bad k s1:=by
 have h:(x s).bind (fun v st=>.ok [v] st)=.bad k s1:=h
 cases e:x s with
 | ok v t=>rw[e]at h;cases h
 | bad c t=>rw[e]at h;cases h;rfl
theorem sq2_ok(h:qGQ [x,y] [] s=.ok acc s2):∃v w s1,x s=.ok v s1/\y s1=.ok w s2/\acc=[v,w]:=by
 have h:(x s).bind (fun v st=>(y st).bind fun w st=>.ok [v,w] st)=.ok acc s2:=h
 cases e:x s with
 | ok v t =>
  rw[e]at h
  have h:(y t).bind (fun w st=>.ok [v,w] st)=.ok acc s2:=h
  cases e2:y t with
  | ok w u=>rw[e2]at h;cases h;exact⟨v,w,t,rfl,e2,rfl⟩
  | bad c u=>rw[e2]at h;cases h
 | bad c t=>rw[e]at h;cases h
theorem sq2_bad(h:qGQ [x,y] [] s=.bad k s2){g:Int->Int->St->Rx Int}:((x s).bind fun v st=>(y st).bind fun w st=>g v w st)=.bad k s2:=by
 have h:(x s).bind (fun v st=>(y st).bind fun w st=>.ok [v,w] st)=.bad k s2:=h
 cases e:x s with
 | ok v t =>
  rw[e]at h
  have h:(y t).bind (fun w st=>.ok [v,w] st)=.bad k s2:=h
  cases e2:y t with
  | ok w u=>rw[e2]at h;cases h
  | bad c u =>
   rw[e2]at h;cases h
   show ((y t).bind fun w st=>g v w st)=_
   rw[e2];rfl
 | bad c t=>rw[e]at h;cases h;rfl
end
section
variable{V0 W V V1:Mem}{d:Ds}{p F c q:Nat}{s:St}{pr:Pr}{vals:List Int}
theorem XR.narrow{c:Int}{r:Rx Int}{e:Ending}(hs:V0.sub W)(h:XR W d p F c r e V):XR V0 d p F c r e V:=by
 cases r with
 | ok v s=>exact⟨h.1,h.2.narrow hs⟩
 | bad k s=>exact⟨h.1,h.2.1,h.2.2.narrow hs⟩
theorem XR.any{c:Int}{f:FuncId}{args:Array Value}{r:Rx Int}{K:Int->Mem->Prop}(H:Tri Tryz.prog f args V (XR V0 d p F c r))(h:∀v kf s V',XM V0 d p F V' s c kf->(kf=0/\r=.ok v s∨kf≠0/\v=0/\r=.bad kf s)->K v V') :
  Tri Tryz.prog f args V fun e V'=>∃v,e=.returned (.int .i64 v)/\K v V' :=
 XR.call H (fun v s V' e M=>h v 0 s V' M (.inl ⟨rfl,e⟩)) fun k s V' e hk M=>h 0 k s V' M (.inr ⟨hk,rfl,e⟩)
theorem lastW{c:Int}{f:FuncId}{args:Array Value}{G r:Rx Int}(hs:V0.sub W)(hG:G=r)(H:Tri Tryz.prog f args V (XR W d p F c r)):Tri Tryz.prog f args V fun e V'=>∃v,e=.returned (.int .i64 v)/\XR V0 d p F c G (.returned (.int .i64 v)) V' :=
 Tri.mono (XR.last hG H) fun _ _ ⟨v,he,h⟩=>⟨v,he,h.narrow hs⟩
theorem XM.fault{c:Int}{kf:Int}(M:XM V0 d p F V s c kf):V.rowp (sa p) ((13:Int).toNat*1) 1=some [.int .i64 kf]:=by
 obtain⟨gs,ns,ls,nd,hat,L⟩:=M.ex
 exact qAc hat 13 1 (by simp[qBv])
variable(d p F) in
def XCallC(n:Nat):Prop:=∀(V0 V:Mem) (s:St) (c i:Nat) (pr:Pr) (args:List Int) (l:Sl),ES V0 d F->d.procs[i]?=some pr->qAr d s.mm->qAg d s.mm pr.params args=true->qAd V0 l 1 (args.map qAn)->XM V0 d p F V s c 0->s.tk<=F->F<n+s.tk->BW 0 s ->
 Tri Tryz.prog 64 #[pv p,.int .i64 (i:Int),l.v] V (XR V0 d p F c (qBY d (qCe d F n) c i args s))
variable(d p F) in
def XExprC(n:Nat):Prop:=∀(e:E) (t:ByteArray) (V0 V:Mem) (s:St) (c q:Nat) (pr:Pr) (vals:List Int),Yx V0 d p F c q pr vals n (szE e) V s->VE e->E.Ok V0 e->qAo d (qAf d pr) e=(t,0) ->
 Tri Tryz.prog 161 #[pv p,pv q,e.v] V (XR V0 d p F c (evX d (qBY d (qCe d F n) c) pr vals e s))
theorem lazyX{n:Nat}{e:E}(X:Yx V0 d p F c q pr vals n (szE e) V s)(he:E.Ok V0 e){f:E->St->Rx Int}{G:Rx Int}(hop:e.op=19∨e.op=20∨e.op=21){C:Cf}{b:Bool}(hG0:G=qDy d C pr vals b e.op e.n e.s (e.k.map f) s)
  {a a1:E} (h0:e.k[0]?=some a) (h1:e.k[1]?=some a1) (h2:e.op=21->∃a2,e.k[2]?=some a2)
  (kid:∀{i:Nat} {y:E} {V1:Mem} {s1:St},e.k[i]?=some y->(i=0/\V1=V/\s1=s∨i≠0/\∃v,f a s=.ok v s1/\XM V0 d p F V1 s1 c 0)->Tri Tryz.prog 161 #[pv p,pv q,.agg #[.int .i64 y.op,.int .i64 y.n,.string y.s,.slice y.l.p y.l.n y.l.c]] V1 (XR V0 d p F c (f y s1))) :
  Tri Tryz.prog 210 #[pv p,pv q,e.v] V (XR V0 d p F c G):=by
 obtain⟨gs,ns,ls,nd,hat,L⟩:=X.M.ex
 obtain⟨k1,k2,k3,k4⟩:=qDx (he.sub L.sub) h0
 have K:∀{i:Nat} {a:E},e.k[i]?=some a->qDT (e.k.map f) i=f a:=fun h=>qIA h
 refine Tri.mono (x210 (R:=XR V0 d p F c G) ?_) fun _ _ h=>h
 unfold w210
 have hGe:∀{v:Int} {s1:St},f a s=.ok v s1->G=if e.op=19 then (if v=0 then .ok 0 s1 else f a1 s1) else if e.op=20 then (if v=0 then f a1 s1 else .ok 1 s1) else if v=0 then qDT (e.k.map f) 2 s1 else f a1 s1:=fun {v s1} hv=>by
  rcases hop with h|h|h
  ·rw[hG0,cX19 h,K h0,hv,if_pos h];show (if v=0 then _ else qDT (e.k.map f) 1 s1)=_;rw[K h1]
  ·rw[hG0,cX20 h,K h0,hv,if_neg (by omega),if_pos h];show (if v=0 then qDT (e.k.map f) 1 s1 else _)=_;rw[K h1]
  ·rw[hG0,cX21 h,K h0,hv,if_neg (by omega),if_neg (by omega)];show (if v=0 then qDT (e.k.map f) 2 s1 else qDT (e.k.map f) 1 s1)=_;rw[K h1]
 have hGb:∀{k:Int} {s1:St},f a s=.bad k s1->G=.bad k s1:=fun {k s1} hv=>by
  rcases hop with h|h|h
  ·rw[hG0,cX19 h,K h0,hv];rfl
  ·rw[hG0,cX20 h,K h0,hv];rfl
  ·rw[hG0,cX21 h,K h0,hv];rfl
 refine⟨k1,by decide,k3,_,_,_,_,k4,XR.any (kid h0 (.inl ⟨rfl,rfl,rfl⟩)) fun v kf s1 V1 M1 hc=>⟨nn,nn,_,M1.fault,fun hz=>?_,fun hz=>?_⟩⟩
 rotate_left
 ·have hz:¬kf=0:=hz
  rcases hc with⟨h,-⟩|⟨-,rfl,hb⟩
  ·exact absurd h hz
  ·exact XR.bad (hGb hb) hz M1
 have hz:kf=0:=hz
 rcases hc with⟨-,hv⟩|⟨h,-⟩
 rotate_left
 ·exact absurd hz h
 subst hz
 have hG:=hGe hv
 have heV:=he.sub M1.sub
 obtain⟨l1,l2,l3,l4⟩:=qDx heV h1
 have second:∀{G':Rx Int},G'=f a1 s1->(¬e.l.p=none/\(0:Int)<=(1:Int)/\1<(e.l.n:Int)/\∃v12 v13 v14 v15,V1.rowp e.l.p ((1:Int).toNat*4) 4=some [uI v12,uI v13,uS v14,uL v15] /\
   TT 161 #[uP (sa p),uP (sa q),uA #[uI v12,uI v13,uS v14,uL v15]] V1 fun e' V2=>∃v16,e'=rV (uI v16)/\XR V0 d p F c G' (rV (uI v16)) V2):=fun hG' =>
  ⟨l1,by decide,l3,_,_,_,_,l4,XR.last hG' (kid h1 (.inr ⟨by decide,v,hv,M1⟩))⟩
 rcases hop with h|h|h
 ·rw[if_pos h]at hG
  refine qAj (by omega) (qAs h ⟨fun hv0=>?_,fun hv0=>qAj (by omega) (second ?_)⟩)
  ·rw[if_pos (show v=0 from hv0)]at hG;exact XR.ok hG M1
  ·rw[if_neg (show ¬v=0 from hv0)]at hG;exact hG
 ·rw[if_neg (by omega),if_pos h]at hG
  refine qAj (by omega) (qAj (by omega) (qAs h ⟨fun hv0=>second ?_,fun hv0=>?_⟩))
  ·rw[if_pos (show v=0 from hv0)]at hG;exact hG
  ·rw[if_neg (show ¬v=0 from hv0)]at hG;exact XR.ok hG M1
 ·rw[if_neg (by omega),if_neg (by omega)]at hG
  obtain⟨a2,h2'⟩:=h2 h
  obtain⟨m1,m2,m3,m4⟩:=qDx heV h2'
  refine qAs h ⟨fun hv0=>⟨m1,by decide,m3,_,_,_,_,m4,XR.last ?_ (kid h2' (.inr ⟨by decide,v,hv,M1⟩))⟩,fun hv0=>qAj (by omega) (qAj (by omega) (second ?_))⟩
  ·rw[if_pos (show v=0 from hv0),K h2']at hG;exact hG
  ·rw[if_neg (show ¬v=0 from hv0)]at hG;exact hG
end
section
variable{V0 W V V1:Mem}{d:Ds}{p F c q:Nat}{s:St}{pr:Pr}{vals:List Int}
theorem qJE:∀{l:List Nat} {a:Nat},a∈l->a<=l.sum
 | [],a,h=>by cases h
 | b::l,a,h=>by
  rw[List.sum_cons]
  rcases List.mem_cons.1 h with rfl|h
  ·omega
  ·have:=qJE h;omega
theorem failW{c:Int}(hs:V0.sub W)(M:XM W d p F V s c 0){k:Int}(hk:k≠0){G:Rx Int}(hG:G=.bad k s):Tri Tryz.prog 93 #[pv p,.int .i64 k] V fun e V'=>∃v,e=.returned (.int .i64 v)/\XR V0 d p F c G (.returned (.int .i64 v)) V' :=
 Tri.mono (failX M hk hG) fun _ _ ⟨v,he,h⟩=>⟨v,he,h.narrow hs⟩
theorem exprX0{n:Nat}(hR:XCallC d p F n):∀(e:E) (V0 V:Mem) (s:St) (c q:Nat) (pr:Pr) (vals:List Int),Yx V0 d p F c q pr vals n (szE e) V s->VE e->E.Ok V0 e->((∃t,qAo d (qAf d pr) e=(t,0))∨(e.op=7/\∃pr' i,CallK d (qAf d pr) e pr' i)) ->
  Tri Tryz.prog 161 #[pv p,pv q,e.v] V (XR V0 d p F c (evX d (qBY d (qCe d F n) c) pr vals e s)):=by
 intro e
 induction e using E.ind with
 | h e ih =>
 intro V0 V s c q pr vals X hv he ht
 have L0:=X.M.sub
 obtain⟨f,hf⟩:∃f,f=evX d (qBY d (qCe d F n) c) pr vals:=⟨_,rfl⟩
 obtain⟨G,hG0⟩:∃G:Rx Int,G=qDy d (qBY d (qCe d F n) c) pr vals (intB d (qAf d pr) e.k) e.op e.n e.s (e.k.map f) s:=⟨_,rfl⟩
 rw[qFk,<- hf,<- hG0]
 have hcs:=qCz X.S.procs (qCG (F:=F) X.S.procs n) c
 have hsz:=szE_eq e
 have K:∀{i:Nat} {a:E},e.k[i]?=some a->qDT (e.k.map f) i=f a:=fun h=>qIA h
 have kid:∀{a:E} {u:ByteArray} {W V1:Mem} {s1:St},a∈e.k->qAo d (qAf d pr) a=(u,0)->V0.sub W->Yx W d p F c q pr vals n (szE a) V1 s1->Tri Tryz.prog 161 #[pv p,pv q,.agg #[.int .i64 a.op,.int .i64 a.n,.string a.s,.slice a.l.p a.l.n a.l.c]] V1 (XR W d p F c (f a s1)):=fun {a u W V1 s1} hm ha hW X1=>by
  rw[hf]
  exact ih a hm W V1 s1 c q pr vals X1 (hv.kids a hm) ((he.kids a hm).sub hW) (.inl ⟨u,ha⟩)
 have snd:∀{a:E} {u:ByteArray} {s1:St} {m:Nat},a∈e.k->qAo d (qAf d pr) a=(u,0)->qAr d s1.mm->Gr F m s s1->RxP d F (szE a) s1 (f a s1) fun v s'=>qBq d s'.mm u v:=fun hm ha G1 g1=>by
  rw[hf];exact qHe X.S.procs hcs X.po _ _ _ (hv.kids _ hm) ha G1 (qAh (fun h=>g1.right h) X.hv)
 have hkt:∀a∈e.k,qAo d (qAf d pr) a=((qAo d (qAf d pr) a).1,0):=fun a ha=>by
  rcases ht with⟨t,ht⟩|⟨-,pr',i,hc⟩
  ·exact Prod.ext rfl ((qFo ht).1 a ha)
  ·obtain⟨j,hj⟩:=List.mem_iff_getElem?.1 ha
   have hjl:=(List.getElem?_eq_some_iff.1 hj).1
   rw[hc.len]at hjl
   obtain⟨u,hu,-⟩:=hc.fit j a _ hj (List.getElem?_eq_getElem hjl)
   rw[hu]
 have hkind:(∃t,qEm d (qAf d pr) e t/\e.op≠7)∨(e.op=7/\∃pr' i,CallK d (qAf d pr) e pr' i):=by
  rcases ht with⟨t,ht⟩|h
  ·by_cases h7:e.op=7
   ·right
    cases kindX (sc:=qAf d pr) rfl hv ht with
    | call h hc hr=>exact⟨h7,_,_,hc⟩
    | int h hn=>omega
    | bool h hn=>omega
    | nil h hn=>omega
    | var h hl hne=>omega
    | fld h=>omega
    | new h=>omega
    | neg h=>omega
    | not h=>omega
    | log h=>omega
    | and h=>omega
    | or h=>omega
    | cond h=>omega
    | eq h=>omega
    | cmp h=>omega
    | ari h=>omega
   ·exact .inl ⟨t,kindX (sc:=qAf d pr) rfl hv ht,h7⟩
  ·exact .inr h
 have hall:∀j:Nat,((e.k.take j).map szE).sum<=(e.k.map szE).sum:=fun j=>by
  have:=congrArg (fun l=>(l.map szE).sum) (List.take_append_drop j e.k)
  simp only[List.map_append,List.sum_append]at this
  omega
 refine Tri.mono (x161 (R:=XR V0 d p F c G) ?_) fun _ _ h=>h
 unfold w161
 refine⟨nn,nn,_,X.M.fault,fun _=>?_,fun h=>absurd rfl h⟩
 have lz:(e.op=19∨e.op=20∨e.op=21)->∀{a a1:E},e.k[0]?=some a->e.k[1]?=some a1->(e.op=21->∃a2,e.k[2]?=some a2)->(∀{i:Nat} {y:E},i≠0->e.k[i]?=some y->szE a+szE y<=szE e) ->
   Tri Tryz.prog 210 #[pv p,pv q,e.v] V fun e' V'=>∃v,e'=.returned (.int .i64 v)/\XR V0 d p F c G (.returned (.int .i64 v)) V':=fun hop {a a1} h0 h1 h2 hle=>by
  refine XR.last rfl (lazyX X he hop hG0 h0 h1 h2 fun {i y V1 s1} hy hc=>?_)
  have hm:=List.mem_of_getElem? hy
  rcases hc with⟨rfl,rfl,rfl⟩|⟨hi,v,hv1,M1⟩
  ·rw[h0]at hy;cases hy
   have:szE a<=szE e:=by rw[hsz];have:=qJE (List.mem_map_of_mem (f:=szE) (List.mem_of_getElem? h0));omega
   exact kid hm (hkt _ hm) (Mem.sub.refl _) (X.le this)
  ·have ha:=List.mem_of_getElem? h0
   obtain⟨G1,g1,-⟩:=(snd ha (hkt _ ha) X.G (Gr.refl s)).got hv1
   exact kid hm (hkt _ hm) (Mem.sub.refl _) ((X.le (k:=szE a+szE y) (hle hi hy)).next g1 G1 M1)
 by_cases hE:e.op=1∨e.op=2∨e.op=3∨e.op=4∨e.op=6∨e.op=19∨e.op=20∨e.op=21
 ·rcases hkind with⟨t,hkind,h7⟩|⟨h7,-⟩
  rotate_left
  ·omega
  cases hkind with
  | int h hn=>exact qAs h (XR.ok (hG0.trans (cX1 (.inl h))) X.M)
  | bool h hn=>exact qAj (by omega) (qAs h (XR.ok (hG0.trans (cX1 (.inr h))) X.M))
  | nil h hn=>exact qAj (by omega) (qAj (by omega) (qAs h (XR.ok (hG0.trans (cX3 h)) X.M)))
  | var h hl hne=>exact qAj (by omega) (qAj (by omega) (qAj (by omega) (qAs h (XR.last (hG0.trans (cX4 h)) (nameX (X.le (k:=0+1) (by omega)) hl hne)))))
  | new h hn=>exact qAj (by omega) (qAj (by omega) (qAj (by omega) (qAj (by omega) (qAs h (XR.last (hG0.trans (cX6 h)) (allocX (X.le (k:=0+1) (by omega)) hn))))))
  | @and a b h hk ha hb =>
   refine qAj (by omega) (qAj (by omega) (qAj (by omega) (qAj (by omega) (qAj (by omega) (qAs h (lz (.inl h) (a:=a) (a1:=b) (by rw[hk];rfl) (by rw[hk];rfl) (fun h=>by omega) fun {i y} hi hy=>?_))))))
   rw[hk]at hy
   rcases (show i=1 by have:=(List.getElem?_eq_some_iff.1 hy).1;simp at this;omega) with rfl
   cases hy;rw[hsz,hk];simp <;> omega
  | @or a b h hk ha hb =>
   refine qAj (by omega) (qAj (by omega) (qAj (by omega) (qAj (by omega) (qAj (by omega) (qAj (by omega) (qAs h (lz (.inr (.inl h)) (a:=a) (a1:=b) (by rw[hk];rfl) (by rw[hk];rfl) (fun h=>by omega) fun {i y} hi hy=>?_)))))))
   rw[hk]at hy
   rcases (show i=1 by have:=(List.getElem?_eq_some_iff.1 hy).1;simp at this;omega) with rfl
   cases hy;rw[hsz,hk];simp <;> omega
  | @cond a b c' _ u w h hk ha hb hc hu hw htt =>
   refine qAj (by omega) (qAj (by omega) (qAj (by omega) (qAj (by omega) (qAj (by omega) (qAj (by omega) (qAj (by omega) (qAs h (lz (.inr (.inr h)) (a:=a) (a1:=b) (by rw[hk];rfl) (by rw[hk];rfl) (fun _=>⟨c',by rw[hk];rfl⟩) fun {i y} hi hy=>?_))))))))
   rw[hk]at hy
   rcases (show i=1∨i=2 by have:=(List.getElem?_eq_some_iff.1 hy).1;simp at this;omega) with rfl|rfl
   ·cases hy;rw[hsz,hk];simp <;> omega
   ·cases hy;rw[hsz,hk];simp <;> omega
  | fld h=>omega
  | call h=>omega
  | neg h=>omega
  | not h=>omega
  | log h=>omega
  | eq h=>omega
  | cmp h=>omega
  | ari h=>omega
 ·refine qAj (by omega) (qAj (by omega) (qAj (by omega) (qAj (by omega) (qAj (by omega) (qAj (by omega) (qAj (by omega) (qAj (by omega) ?_)))))))
  have hGb:∀{k:Int} {s2:St},qGQ (e.k.map f) [] s=.bad k s2->G=.bad k s2:=fun {k s2} hb=>by
   have one:∀{a:E},e.k=[a]->f a s=.bad k s2:=fun hk=>by rw[hk]at hb;exact sq1_bad hb
   rcases hkind with⟨t,hkind,h7⟩|⟨h7,-⟩
   rotate_left
   ·rw[hG0,cX7 h7,hb];rfl
   cases hkind with
   | @fld _ u a h hk ha hf'=>rw[hG0,cX5 h,K (a:=a) (by rw[hk];rfl),one hk];rfl
   | call h hc hr=>exact absurd h h7
   | @neg a h hk ha=>rw[hG0,cX8 h,K (a:=a) (by rw[hk];rfl),one hk];rfl
   | @not a h hk ha=>rw[hG0,cX18 h,K (a:=a) (by rw[hk];rfl),one hk];rfl
   | @log a h hk ha=>rw[hG0,cX24 h,K (a:=a) (by rw[hk];rfl),one hk];rfl
   | @eq a b u w h hk ha hb' hf'=>rw[hG0,qFg (by omega),K (i:=0) (a:=a) (by rw[hk];rfl),K (i:=1) (a:=b) (by rw[hk];rfl)];rw[hk]at hb;exact sq2_bad hb
   | @cmp a b h hk ha hb'=>rw[hG0,qFg (by omega),K (i:=0) (a:=a) (by rw[hk];rfl),K (i:=1) (a:=b) (by rw[hk];rfl)];rw[hk]at hb;exact sq2_bad hb
   | @ari a b h hk ha hb'=>rw[hG0,qFg (by omega),K (i:=0) (a:=a) (by rw[hk];rfl),K (i:=1) (a:=b) (by rw[hk];rfl)];rw[hk]at hb;exact sq2_bad hb
   | int h=>omega
   | bool h=>omega
   | nil h=>omega
   | var h=>omega
   | new h=>omega
   | and h=>omega
   | or h=>omega
   | cond h=>omega
  have hlen6:e.k.length<=2000:=by
   have h1:=he.rows.n_eq
   rcases hkind with⟨t,hkind,h7⟩|⟨h7,pr',i,hc⟩
   rotate_left
   ·rw[hc.len];have:=qGZ X.S.procs hc.at_;omega
   cases hkind with
   | @fld _ u a h hk ha hf'=>rw[hk];simp
   | call h hc hr=>exact absurd h h7
   | @neg a h hk ha=>rw[hk];simp
   | @not a h hk ha=>rw[hk];simp
   | @log a h hk ha=>rw[hk];simp
   | @eq a b u w h hk ha hb' hf'=>rw[hk];simp
   | @cmp a b h hk ha hb'=>rw[hk];simp
   | @ari a b h hk ha hb'=>rw[hk];simp
   | int h=>omega
   | bool h=>omega
   | nil h=>omega
   | var h=>omega
   | new h=>omega
   | and h=>omega
   | or h=>omega
   | cond h=>omega
  refine loop3u (mk:=fun s:Sl=>.slice s.p s.n s.c) (mc:=.int .i64) (b0:=⟨none,0,0⟩) (c0:=0) qCo qFw e.k.length (fun j sl _ V1=>∃W acc s1,V0.sub W/\Sx.Own V0 W 3 1 sl (acc.flatMap qAn)/\XM W d p F V1 s1 c 0/\acc.length=j/\qAr d s1.mm/\Gr F ((e.k.take j).map szE).sum s s1/\(∀(i:Nat) a v,e.k[i]?=some a->acc[i]?=some v->qBq d s1.mm (qAo d (qAf d pr) a).1 v) /\
   qGQ (e.k.map f) [] s=qGQ ((e.k.drop j).map f) acc s1) ⟨V0,[],s,Mem.sub.refl _,Own.nil (Mem.sub.refl _) _ _,X.M,rfl,X.G,by simpa using Gr.refl s,fun i a v _ h=>by simp at h,rfl⟩ ?_
  rintro j sl z V1 J hj ⟨W,acc,s1,hW,ho,M1,hacc,G1,g1,ha1,hseq⟩ hJ
  have heW:=(he.sub hW).sub M1.sub
  refine⟨fun hlt=>?_,fun hge=>?_⟩
  ·obtain⟨a,ham,ha,hdr,hjl,hp,hz,hrow⟩:=heW.rows.get hlt
   have hu:=hkt a ham
   have hsum:((e.k.take (j+1)).map szE).sum=((e.k.take j).map szE).sum+szE a:=by rw[List.take_add_one,ha];simp
   have X1:Yx W d p F c q pr vals n (szE a) V1 s1:=by
    have X':=X.le (k:=((e.k.take j).map szE).sum+szE a) (by have:=hall (j+1);omega)
    exact⟨X.S.sub hW,X.fr.sub hW,X.pm,G1,qAh (fun h=>g1.right h) X.hv,M1,g1.fu X.tk,by have:=g1.tk;have:=X.n;omega,X'.w.next g1⟩
   rw[hdr,List.map_cons]at hseq
   have hseq':qGQ (e.k.map f) [] s=(f a s1).bind fun v st=>qGQ ((e.k.drop (j+1)).map f) (acc++[v]) st:=hseq
   refine⟨hp,hz,hlt,_,_,_,_,hrow,XR.any (kid ham hu hW X1) fun v kf s2 V2 M2 hc=>fun tb htb=>?_⟩
   have ho2:Sx.Own V0 V2 3 1 sl (acc.flatMap qAn):=Own.moveB ho (hW.trans M2.sub) fun g cur _ hg=>M2.sub _ _ hg
   refine app31 (s:=sl) (u:=⟨some ⟨tb,0,none⟩,1,1⟩) (xs:=acc) (ys:=[v]) rfl rfl (ho2.but.new htb (.cells #[.int .i64 v] 3 (0,0))) (one_int mss) (by simp;omega) fun o3 V3 ho3=>⟨o3,rfl,?_⟩
   obtain⟨W',hW',M3,ho4⟩:=M2.beside hW ho ho3
   refine⟨nn,nn,_,XM.fault M3,fun hkf=>⟨heW.rows.succ hlt,hJ hjl _ _ _ ?_⟩,fun hkf=>?_⟩
   ·rcases hc with⟨hk0,e2⟩|⟨h,-⟩
    rotate_left
    ·exact absurd hkf h
    subst hk0
    obtain⟨G2,g2,hv2⟩:=(snd ham hu G1 g1).got e2
    refine⟨W',acc++[v],s2,hW',ho4,M3,by rw[List.length_append,hacc];rfl,G2,by rw[hsum];exact g1.trans g2,fun i b w hb hw=>?_,by rw[hseq',e2];rfl⟩
    by_cases hi:i<acc.length
    ·rw[List.getElem?_append_left hi]at hw
     exact g2.val (ha1 i b w hb hw)
    ·rw[List.getElem?_append_right (by omega)]at hw
     have hi0:i=j:=by have:=(List.getElem?_eq_some_iff.1 hw).1;simp at this;omega
     subst hi0
     rw[hacc,Nat.sub_self]at hw
     cases hw
     rw[ha]at hb;cases hb
     exact hv2
   ·have hkf:¬kf=0:=hkf
    rcases hc with⟨h,-⟩|⟨-,rfl,e2⟩
    ·exact absurd h hkf
    exact(XR.bad (hGb (by rw[hseq',e2];rfl)) hkf M3).narrow hW'
  ·have hdn:=(heW.rows.done hge).2
   rw[List.take_of_length_le hdn]at g1
   rw[List.drop_eq_nil_of_le hdn]at hseq
   have hseq:qGQ (e.k.map f) [] s=.ok acc s1:=hseq
   obtain⟨gs,ns,ls,nd,hat,L⟩:=M1.ex
   have hd:=(X.S.sub hW).ds.sub L.sub
   have hoR:qAd W sl 1 (acc.map qAn):=ho.rows (fun _=>rfl) (by decide)
   have X1:Yx W d p F c q pr vals n 1 V1 s1:=by
    have X':=X.le (k:=(e.k.map szE).sum+1) (by omega)
    exact⟨X.S.sub hW,X.fr.sub hW,X.pm,G1,qAh (fun h=>g1.right h) X.hv,M1,g1.fu X.tk,by have:=g1.tk;have:=X.n;omega,X'.w.next g1⟩
   have at_:∀{i:Nat} {v:Int} {V':Mem},acc[i]?=some v->W.sub V'->¬sl.p=none/\(0:Int)<=(i:Int)/\(i:Int)<(sl.n:Int)/\V'.rowp sl.p (i*1) 1=some [.int .i64 v]:=fun h hs=>gAt (hoR.sub hs) h
   rcases hkind with⟨t,hkind,h7⟩|⟨h,pr',i,hc⟩
   rotate_left
   ·have hG:=hG0.trans (cX7 h)
    rw[hseq,hc.idx]at hG
    have hG:G=qBY d (qCe d F n) c (i:Int) acc s1:=hG
    refine qAj (by omega) (qAs h ⟨nn,nn,_,_,_,_,_,_,_,_,qAc hat 0 8 (by simp[qBv]),(c23 hd).call ⟨_,rfl,?_⟩⟩)
    rw[show qHo (fun t:Pr=>decide (t.name=e.s)) d.procs=(i:Int) from hc.idx]
    have hkn:=qCd X.S.procs hc.at_
    refine lastW hW hG (hR W V1 s1 c i pr' acc sl (X.S.sub hW) hc.at_ G1 (qAq.2 ⟨by rw[<- hc.len];omega,fun jj g v hg hv=>?_⟩) hoR M1 (g1.fu X.tk) (by have:=g1.tk;have:=X.n;omega) (X1.w.le (by omega)))
    have hjl:=(List.getElem?_eq_some_iff.1 hg).1
    rw[<- hc.len]at hjl
    obtain⟨u,hu,hfit⟩:=hc.fit jj _ _ (List.getElem?_eq_getElem hjl) hg
    have:=ha1 jj _ v (List.getElem?_eq_getElem hjl) hv
    rw[hu]at this
    exact(qBk X.S.valid (hkn _ (List.mem_of_getElem? hg))).1 (qCa X.S.valid hfit this)
   cases hkind with
   | @fld _ u a h hk ha hf' =>
    have h0:e.k[0]?=some a:=by rw[hk];rfl
    have hG:=hG0
    rw[cX5 h,K h0]at hG
    rw[hk]at hseq
    obtain⟨v,e1,rfl⟩:=sq1_ok hseq
    rw[e1]at hG
    have hG:G=fldX d v e.s s1:=hG
    have hv1:=ha1 0 a v h0 rfl
    rw[ha]at hv1
    obtain⟨a1,a2,a3,a4⟩:=at_ (i:=0) (v:=v) rfl L.sub
    refine qAs h ⟨a1,by decide,a3,_,a4,fun hz=>failW hW M1 (by decide) ?_,fun hz=>?_⟩
    ·rw[hG];unfold fldX;rw[if_pos (show v=0 from hz)]
    have hz:¬v=0:=hz
    obtain⟨k,i,jj,tt,g,fs,w,rfl,e2,e3,e4,e5,e6,e7,e8,e9,-⟩:=qDm X1.G hf' hv1 hz
    refine⟨a1,by decide,a3,_,a4,(c211 X1.S M1 e2 e3).call ⟨_,rfl,a1,by decide,a3,_,a4,?_⟩⟩
    rw[e6]
    refine Tri.mono (c212 M1 (X1.fit (m:=0))) ?_
    rintro _ V3 ⟨rfl,M3⟩
    obtain⟨gs3,ns3,ls3,nd3,sl3,hat3,L3,-,hI,n1,n2,n3,n4,m1,m2,m3,m4⟩:=nodeX M3 (k:=k) (i:=i) e2 e8
    obtain⟨b1,b2,b3,b4⟩:=at_ (i:=0) (v:=(k:Int)+1) rfl L3.sub
    refine⟨rfl,nn,nn,pnn,ns3,qAc hat3 9 1 (by simp[qBv]),b1,by decide,b3,_,b4,?_⟩
    rw[show ((k:Int)+1-1)=(k:Int) by omega]
    refine⟨hI,n1,n2,n3,qAe n1,_,_,n4,m1,m2,m3,_,m4,(XR.ok ?_ M3).narrow hW⟩
    rw[hG]
    unfold fldX
    rw[if_neg hz,show ((k:Int)+1-1).toNat=k by omega,e2]
    simp only
    rw[e5,e6,Int.toNat_natCast,e8];rfl
   | call h hc hr=>exact absurd h h7
   | @neg a h hk ha =>
    have h0:e.k[0]?=some a:=by rw[hk];rfl
    have hG:=hG0
    rw[cX8 h,K h0]at hG
    rw[hk]at hseq
    obtain⟨v,e1,rfl⟩:=sq1_ok hseq
    rw[e1]at hG
    have hG:G=qDh (big (-v)) s1:=hG
    have hv1:=ha1 0 a v h0 rfl
    rw[ha]at hv1
    have:=qBc.1 hv1
    rw[<- Int.zero_sub]at hG
    obtain⟨a1,a2,a3,a4⟩:=at_ (i:=0) (v:=v) rfl L.sub
    exact qAj (by omega) (qAj (by omega) (qAs h ⟨a1,by decide,a3,_,a4,⟨by omega,by omega⟩,lastW hW hG (c213 M1)⟩))
   | @log a h hk ha =>
    have h0:e.k[0]?=some a:=by rw[hk];rfl
    have hG:=hG0
    rw[cX24 h,K h0]at hG
    rw[hk]at hseq
    obtain⟨v,e1,rfl⟩:=sq1_ok hseq
    rw[e1]at hG
    have hG:G=.ok (qIX v) s1:=hG
    have hv1:=ha1 0 a v h0 rfl
    rw[ha]at hv1
    have:=qBc.1 hv1
    obtain⟨a1,a2,a3,a4⟩:=at_ (i:=0) (v:=v) rfl L.sub
    exact qAj (by omega) (qAj (by omega) (qAj (by omega) (qAs h ⟨a1,by decide,a3,_,a4,(c214 (by omega)).call ⟨_,rfl,(XR.ok hG M1).narrow hW⟩⟩)))
   | @not a h hk ha =>
    have h0:e.k[0]?=some a:=by rw[hk];rfl
    have hG:=hG0
    rw[cX18 h,K h0]at hG
    rw[hk]at hseq
    obtain⟨v,e1,rfl⟩:=sq1_ok hseq
    rw[e1]at hG
    have hG:G=.ok (1-v) s1:=hG
    have hv1:=ha1 0 a v h0 rfl
    rw[ha]at hv1
    have:=qAU.1 hv1
    obtain⟨a1,a2,a3,a4⟩:=at_ (i:=0) (v:=v) rfl L.sub
    exact qAj (by omega) (qAj (by omega) (qAj (by omega) (qAj (by omega) (qAs h ⟨a1,by decide,a3,_,a4,⟨by omega,by omega⟩,(XR.ok hG M1).narrow hW⟩))))
   | @eq a b u w h hk ha hb' hf' =>
    have h0:e.k[0]?=some a:=by rw[hk];rfl
    have h1:e.k[1]?=some b:=by rw[hk];rfl
    have hG:=hG0
    rw[qFg (by omega),K h0,K h1]at hG
    have hib:intB d (qAf d pr) e.k=decide (u=qAP):=by rw[hk];show decide ((qAo d (qAf d pr) a).1=qAP)=_;rw[ha]
    rw[hib]at hG
    rw[hk]at hseq
    obtain⟨v,y,s',e1,e2,rfl⟩:=sq2_ok hseq
    rw[e1]at hG
    have hG:G=(f b s').bind fun w st=>qDh (qCA e.op v w) (qHM (decide (u=qAP)) e.op st):=hG
    rw[e2]at hG
    obtain⟨a1,a2,a3,a4⟩:=at_ (i:=0) (v:=v) rfl L.sub
    obtain⟨b1,b2,b3,b4⟩:=at_ (i:=1) (v:=y) rfl L.sub
    have fin:=lastW hW hG (compareX (v:=v) (w:=y) (X1.le (k:=0+1) (by omega)) hv (he.sub hW) h0 ha (by omega))
    rcases h with h|h
    ·exact qAj (by omega) (qAj (by omega) (qAj (by omega) (qAj (by omega) (qAj (by omega) (qAs h ⟨a1,by decide,a3,_,a4,b1,by decide,b3,_,b4,fin⟩)))))
    ·exact qAj (by omega) (qAj (by omega) (qAj (by omega) (qAj (by omega) (qAj (by omega) (qAj (by omega) (qAs h ⟨a1,by decide,a3,_,a4,b1,by decide,b3,_,b4,fin⟩))))))
   | @cmp a b h hk ha hb' =>
    have h0:e.k[0]?=some a:=by rw[hk];rfl
    have h1:e.k[1]?=some b:=by rw[hk];rfl
    have hG:=hG0
    rw[qFg (by omega),K h0,K h1]at hG
    have hib:intB d (qAf d pr) e.k=decide (qAP=qAP):=by rw[hk];show decide ((qAo d (qAf d pr) a).1=qAP)=_;rw[ha]
    rw[hib]at hG
    rw[hk]at hseq
    obtain⟨v,y,s',e1,e2,rfl⟩:=sq2_ok hseq
    rw[e1]at hG
    have hG:G=(f b s').bind fun w st=>qDh (qCA e.op v w) (qHM (decide (qAP=qAP)) e.op st):=hG
    rw[e2]at hG
    obtain⟨a1,a2,a3,a4⟩:=at_ (i:=0) (v:=v) rfl L.sub
    obtain⟨b1,b2,b3,b4⟩:=at_ (i:=1) (v:=y) rfl L.sub
    have fin:=lastW hW hG (compareX (v:=v) (w:=y) (X1.le (k:=0+1) (by omega)) hv (he.sub hW) h0 ha (by rcases h with h|h;exact .inr (.inr (.inl ⟨h,rfl⟩));exact .inr (.inr (.inr ⟨h,rfl⟩))))
    rcases h with h|h
    ·exact qAj (by omega) (qAj (by omega) (qAj (by omega) (qAj (by omega) (qAj (by omega) (qAj (by omega) (qAj (by omega) (qAs h ⟨a1,by decide,a3,_,a4,b1,by decide,b3,_,b4,fin⟩)))))))
    ·exact qAj (by omega) (qAj (by omega) (qAj (by omega) (qAj (by omega) (qAj (by omega) (qAj (by omega) (qAj (by omega) (qAj (by omega) (qAs h ⟨a1,by decide,a3,_,a4,b1,by decide,b3,_,b4,fin⟩))))))))
   | @ari a b h hk ha hb' =>
    have h0:e.k[0]?=some a:=by rw[hk];rfl
    have h1:e.k[1]?=some b:=by rw[hk];rfl
    have hG:=hG0
    rw[qFg (by omega),K h0,K h1]at hG
    rw[hk]at hseq
    obtain⟨v,y,s',e1,e2,rfl⟩:=sq2_ok hseq
    rw[e1]at hG
    have hG:G=(f b s').bind fun w st=>qDh (qCA e.op v w) (qHM (intB d (qAf d pr) e.k) e.op st):=hG
    rw[e2]at hG
    have hG:G=qDh (qCA e.op v y) (qHM (intB d (qAf d pr) e.k) e.op s1):=hG
    unfold qHM at hG
    rw[if_neg (by omega)]at hG
    have hv1:=ha1 0 a v h0 rfl
    have hv2:=ha1 1 b y h1 rfl
    rw[ha]at hv1
    rw[hb']at hv2
    obtain⟨a1,a2,a3,a4⟩:=at_ (i:=0) (v:=v) rfl L.sub
    obtain⟨b1,b2,b3,b4⟩:=at_ (i:=1) (v:=y) rfl L.sub
    exact qAj (by omega) (qAj (by omega) (qAj (by omega) (qAj (by omega) (qAj (by omega) (qAj (by omega) (qAj (by omega) (qAj (by omega) (qAj (by omega) ⟨a1,by decide,a3,_,a4,b1,by decide,b3,_,b4,lastW hW hG (c216 M1 h (qBc.1 hv1) (qBc.1 hv2))⟩))))))))
   | int h=>omega
   | bool h=>omega
   | nil h=>omega
   | var h=>omega
   | new h=>omega
   | and h=>omega
   | or h=>omega
   | cond h=>omega
theorem exprX{n:Nat}(hR:XCallC d p F n):XExprC d p F n:=fun e t V0 V s c q pr vals X hv he ht=>exprX0 hR e V0 V s c q pr vals X hv he (.inl ⟨t,ht⟩)
end
section
variable{W V0 V V1 V':Mem}{d:Ds}{p F c q:Nat}{s:St}{pr:Pr}{vals:List Int}
structure FrX (W V0:Mem) (q:Nat) (pr:Pr) (vals:List Int) (r:Option Int):Prop where
 sub:W.sub V0
 q0:W q=none
 ex:∃a b:Sl,V0 q=some (.cells (qIY pr a b r).toArray 168 (0,0))/\qAd W a 2 (pr.vars.map Fld.row)/\Sx.Own W V0 3 1 b (vals.flatMap qAn)
theorem FrX.gv(h:FrX W V0 q pr vals none):Gv V0 q pr vals:=by
 obtain⟨a,b,h1,h2,h3⟩:=h.ex
 exact⟨a,b,h1,h2.sub h.sub,h3.rows (fun _=>rfl) (by decide)⟩
theorem qIo{b:Sl}{vs:List Value}(own:Sx.Own W V0 3 1 b vs)(q0:W q=none){x:Array Value}(hq:V0 q=some (.cells x 168 (0,0)))(o:Obj):Sx.Own W (V0.set q o) 3 1 b vs :=
 Own.moveB own (own.sub.set q0 _) fun g cur _ hg=>by
  rw[Mem.set_ne];exact hg
  rintro rfl
  rw[hq]at hg
  simp only[Option.some.injEq,Obj.cells.injEq]at hg
  exact absurd hg.2.1 (by decide)
theorem frStoreX{ty:Nat}{row:Sl->Sl->Sl->List Value}{b:Sl}(own:Sx.Own W V0 3 1 b (vals.flatMap qAn))(M:MA ty V0 p row V s){i:Nat}(hi:i<vals.length){v:Int}{Q:Mem->Prop}
  (hQ:∀V0' V',Sx.Own W V0' 3 1 b ((vals.set i v).flatMap qAn)->MA ty V0' p row V' s->(∀x,¬Blk b x->V0' x=V0 x)->Q V'):StT (qAa b.p (i*1)) 0 [.int .i64 v] V Q:=by
 rw[Nat.mul_one]
 rcases own.cases0 with⟨h1,h2,h3⟩|⟨hc,g,cur,h1,h2,h3,h4,h5,h6,h7⟩
 ·rw[qAG]at h3
  have:vals=[]:=by simpa using h3
  rw[this]at hi;simp at hi
 have hle:b.n*1<=b.c*1:=Nat.mul_le_mul_right _ h4
 have hn:=own.len
 rw[qAG,List.length_map]at hn
 have hg0:V0 g≠none:=by rw[h3];simp
 rw[h1]
 have e:(cur.toList.take i++[Value.int .i64 v]++cur.toList.drop (i+1))=cur.toList.set i (.int .i64 v):=qCf _ _ _ (by simp;omega)
 refine StT.at2 (off:=i) (M.sub _ _ h3) (by simp;omega) (hQ (V0.set g _) _ ⟨own.sub.set h2 _,?_,.inr ⟨g,_,h1,h2,Mem.set_same _ _ _,h4,h5,?_,?_⟩⟩ (M.poke hg0 _) fun x hx=>?_)
 ·rw[qAG,List.length_map,List.length_set];exact hn
 ·rw[show i+[Value.int .i64 v].length=i+1 from rfl,e];simp[h6]
 ·rw[show i+[Value.int .i64 v].length=i+1 from rfl,e]
  show (cur.toList.set i (.int .i64 v)).take (b.n*1)=_
  rw[List.take_set,h7,qAG,qAG,List.map_set]
 ·rw[Mem.set_ne]
  rintro rfl
  exact hx ⟨hc,h1⟩
def PY(W:Mem)(d:Ds)(p F:Nat)(c:Int)(q:Nat)(pr:Pr)(r:Rx Rt):Ending->Mem->Prop:=fun e V'=>e=.returned (.tuple #[])/\match r with
 | .ok rt s=>∃V0',FrX W V0' q pr rt.1 rt.2/\XM V0' d p F V' s c 0
 | .bad k s=>k≠0/\∃V0' vals rv,FrX W V0' q pr vals rv/\XM V0' d p F V' s c k
theorem PY.ok{c:Int}{G:Rx Rt}{rt:Rt}(hG:G=.ok rt s)(hf:FrX W V0 q pr rt.1 rt.2)(M:XM V0 d p F V s c 0):PY W d p F c q pr G (.returned (.tuple #[])) V:=by
 rw[hG];exact⟨rfl,V0,hf,M⟩
theorem PY.bad{c:Int}{G:Rx Rt}{k:Int}(hG:G=.bad k s)(hk:k≠0){rv:Option Int}(hf:FrX W V0 q pr vals rv)(M:XM V0 d p F V s c k):PY W d p F c q pr G (.returned (.tuple #[])) V:=by
 rw[hG];exact⟨rfl,hk,V0,vals,rv,hf,M⟩
theorem PY.any{c:Int}{f:FuncId}{args:Array Value}{r:Rx Rt}{K:Mem->Prop}(H:Tri Tryz.prog f args V (PY W d p F c q pr r))(h:∀V0' vals' rv kf s V',FrX W V0' q pr vals' rv->XM V0' d p F V' s c kf->(kf=0/\r=.ok (vals',rv) s∨kf≠0/\r=.bad kf s)->K V') :
  Tri Tryz.prog f args V fun e V'=>e=.returned (.tuple #[])/\K V' :=
 Tri.mono H fun e V' k=>by
  cases r with
  | ok rt s=>obtain⟨h1,V0',h2,h3⟩:=k;exact⟨h1,h V0' rt.1 rt.2 0 s V' h2 h3 (.inl ⟨rfl,rfl⟩)⟩
  | bad kf s=>obtain⟨h1,hk,V0',vals',rv,h2,h3⟩:=k;exact⟨h1,h V0' vals' rv kf s V' h2 h3 (.inr ⟨hk,rfl⟩)⟩
theorem PY.last{c:Int}{f:FuncId}{args:Array Value}{G r:Rx Rt}(hG:G=r)(H:Tri Tryz.prog f args V (PY W d p F c q pr r)):Tri Tryz.prog f args V fun e V'=>e=.returned (.tuple #[])/\PY W d p F c q pr G (.returned (.tuple #[])) V':=by
 subst hG
 refine PY.any H fun V0' vals' rv kf s V' hf M hc=>?_
 rcases hc with⟨rfl,e⟩|⟨hk,e⟩
 ·exact PY.ok e hf M
 ·exact PY.bad e hk hf M
structure Yx1 (W V0:Mem) (d:Ds) (p F c q:Nat) (pr:Pr) (vals:List Int) (n m:Nat) (V:Mem) (s:St):Prop where
 S:ES W d F
 fr:FrX W V0 q pr vals none
 pm:pr∈d.procs
 G:qAr d s.mm
 hv:qAg d s.mm pr.vars vals=true
 M:XM V0 d p F V s c 0
 tk:s.tk<=F
 n:F<n+s.tk
 w:BW m s
theorem Yx1.po{n m:Nat}(X:Yx1 W V0 d p F c q pr vals n m V s):qBu d pr:=X.S.procs pr X.pm
theorem Yx1.cx{n m:Nat}(X:Yx1 W V0 d p F c q pr vals n m V s):Yx V0 d p F c q pr vals n m V s:=⟨X.S.sub X.fr.sub,X.fr.gv,X.pm,X.G,X.hv,X.M,X.tk,X.n,X.w⟩
theorem Yx1.next{n m k:Nat}{V0':Mem}{vals':List Int}{s':St}(X:Yx1 W V0 d p F c q pr vals n (m+k) V s)(g:Gr F m s s')(G:qAr d s'.mm)(hf:FrX W V0' q pr vals' none)(hv:qAg d s'.mm pr.vars vals'=true)(M:XM V0' d p F V' s' c 0):Yx1 W V0' d p F c q pr vals' n k V' s' :=
 ⟨X.S,hf,X.pm,G,hv,M,g.fu X.tk,by have:=g.tk;have:=X.n;omega,X.w.next g⟩
theorem Yx1.le{n m k:Nat}(X:Yx1 W V0 d p F c q pr vals n m V s)(h:k<=m):Yx1 W V0 d p F c q pr vals n k V s:=⟨X.S,X.fr,X.pm,X.G,X.hv,X.M,X.tk,X.n,X.w.le h⟩
theorem Yx1.tick{n:Nat}(X:Yx1 W V0 d p F c q pr vals (n+1) 0 V s)(h:s.tk<F)(M:XM V0 d p F V' { s with tk:=s.tk+1 } c 0):Yx1 W V0 d p F c q pr vals n 4000 V' { s with tk:=s.tk+1 } :=
 ⟨X.S,X.fr,X.pm,⟨X.G.valid,X.G.chk,X.G.mem⟩,X.hv,M,h,by have:=X.n;show F<n+(s.tk+1);omega,by have:=X.w;unfold BW at *;show s.lg.length+s.cm+4000<=4000*(s.tk+1);omega⟩
variable(d p F) in
def XSC(n:Nat):Prop:=∀(l:List S) (W V0 V:Mem) (s:St) (c q:Nat) (pr:Pr) (vals:List Int) (sl:Sl),Yx1 W V0 d p F c q pr vals n 0 V s->(∀x∈l,TyS d pr x)->(∀x∈l,S.Ok W x)->qAd W sl 5 (l.map S.row) ->
 Tri Tryz.prog 94 #[pv p,pv q,sl.v] V (PY W d p F c q pr (qCe d F n c pr l vals s))
variable(d p F) in
def XLoopC(n:Nat):Prop:=∀(x:S) (W V0 V:Mem) (s:St) (c q:Nat) (pr:Pr) (vals:List Int),x.op=4->Yx1 W V0 d p F c q pr vals (n+1) 0 V s->TyS d pr x->S.Ok W x ->
 Tri Tryz.prog 126 #[pv p,pv q,x.v] V (PY W d p F c q pr (stX d F (qCe d F n) c pr (n+1) x vals s))
variable(d p F) in
def XBodyC(n:Nat):Prop:=∀(x:S) (W V0 V:Mem) (s:St) (c q:Nat) (pr:Pr) (vals:List Int),x.op≠4->Yx1 W V0 d p F c q pr vals n 4000 V s->TyS d pr x->S.Ok W x ->
 Tri Tryz.prog 128 #[pv p,pv q,x.v] V (PY W d p F c q pr (qFC d F (qCe d F n) c pr (n+1) x vals s))
theorem FrX.done{kf cc:Int}{r:Option Int}(h:FrX W V0 q pr vals r)(M:XM V0 d p F V s cc kf):V.rowp (sa q) ((7:Int).toNat*1) 1=some [.bool r.isSome]:=by
 obtain⟨a,b,h1,-,-⟩:=h.ex
 exact qAc (M.sub _ _ h1) 7 1 (by simp[qIY])
theorem stsY{n:Nat}(HL:XLoopC d p F n)(HB:XBodyC d p F n):XSC d p F (n+1):=by
 intro l W V0 V s c q pr vals sl X hty hok hrows
 obtain⟨f,hf⟩:∃f,f=stX d F (qCe d F n) c pr (n+1):=⟨_,rfl⟩
 obtain⟨G,hG⟩:∃G:Rx Rt,G=qDK f l vals s:=⟨_,rfl⟩
 show Tri _ _ _ _ (PY W d p F c q pr (qDK (stX d F (qCe d F n) c pr (n+1)) l vals s))
 rw[<- hf,<- hG]
 refine Tri.mono (x94 (R:=PY W d p F c q pr G) ?_) fun _ _ h=>h
 unfold w94
 refine loop1 l.length (fun i V1=>∃V0' vals' s',Yx1 W V0' d p F c q pr vals' (n+1) 0 V1 s'/\G=qDK f (l.drop i) vals' s') ⟨V0,vals,s,X,hG⟩ ?_
 rintro i V1 J hi ⟨V0',vals',s',X',hG'⟩ hJ
 have hr:=hrows.sub (X'.fr.sub.trans X'.M.sub)
 refine⟨fun hlt=>?_,fun hge=>?_⟩
 ·obtain⟨x,hxm,hx,hdr,hil,hp,hz,hrow⟩:=hr.get hlt
  rw[S.row_eq]at hrow
  rw[hdr]at hG'
  have hG2:G=(f x vals' s').bind fun r st=>match r.2 with|some _=>.ok r st|none=>qDK f (l.drop (i+1)) r.1 st:=hG'
  have P:=st_snd (F:=F) (c:=c) (n:=n+1) X'.S.procs (qCG X'.S.procs n) X'.po (hty x hxm) X'.G X'.hv
  rw[<- hf]at P
  have after:∀{V2 V2':Mem} {vals2:List Int} {rv:Option Int} {kf:Int} {s2:St},FrX W V2' q pr vals2 rv->XM V2' d p F V2 s2 c kf->(kf=0/\f x vals' s'=.ok (vals2,rv) s2∨kf≠0/\f x vals' s'=.bad kf s2) ->
    (¬(some (⟨q,0,none⟩:Addr))=none/\¬(some (⟨q,0,none⟩:Addr))=none/\∃v9,V2.rowp (sa q) ((7:Int).toNat*1) 1=some [uB v9] /\
    Br (v9=true) (PY W d p F c q pr G (rT #[]) V2)
    (¬(some (⟨p,0,none⟩:Addr))=none/\¬(some (⟨p,0,none⟩:Addr))=none/\∃v10,V2.rowp (sa p) ((13:Int).toNat*1) 1=some [uI v10] /\
    Br (v10=0) (IR ((i:Int)+1)/\J [uI ((i:Int)+1)] V2) (PY W d p F c q pr G (rT #[]) V2))):=fun {V2 V2' vals2 rv kf s2} hf2 M2 hc=>by
   refine⟨nn,nn,_,hf2.done M2,fun hd=>?_,fun hd=>⟨nn,nn,_,M2.fault,fun hk0=>?_,fun hk0=>?_⟩⟩
   ·rcases hc with⟨rfl,e2⟩|⟨hk,e2⟩
    ·cases rv with
     | none=>cases hd
     | some z=>exact PY.ok (rt:=(vals2,some z)) (by rw[hG2,e2];rfl) hf2 M2
    ·exact PY.bad (by rw[hG2,e2];rfl) hk hf2 M2
   ·have hk0:kf=0:=hk0
    rcases hc with⟨-,e2⟩|⟨hk,-⟩
    rotate_left
    ·exact absurd hk0 hk
    subst hk0
    cases rv with
    | some z=>exact absurd rfl hd
    | none =>
     obtain⟨G2,g2,q2⟩:=P.got e2
     exact⟨hr.succ hlt,hJ hil _ ⟨V2',vals2,s2,X'.next (m:=0) g2 G2 hf2 q2.1 M2,by rw[hG2,e2];rfl⟩⟩
   ·have hk0:¬kf=0:=hk0
    rcases hc with⟨h,-⟩|⟨hk,e2⟩
    ·exact absurd h hk0
    ·exact PY.bad (by rw[hG2,e2];rfl) hk hf2 M2
  refine⟨hp,hz,hlt,_,_,_,_,_,hrow,fun h4=>?_,fun h4=>?_⟩
  ·have Hx:=HL x W V0' V1 s' c q pr vals' h4 X' (hty x hxm) (hok x hxm)
   rw[<- hf,S.v_eq]at Hx
   exact PY.any Hx fun V2' vals2 rv kf s2 V2 hf2 M2 hc=>after hf2 M2 hc
  ·refine Tri.mono (c127 X'.S.fuel X'.M) ?_
   rintro e1 V2 (⟨htk,rfl,M2⟩|⟨htk,rfl,M2⟩)
   ·refine⟨_,rfl,fun _=>?_,fun h=>absurd rfl h⟩
    have Hx:=HB x W V0' V2 _ c q pr vals' h4 (X'.tick htk M2) (hty x hxm) (hok x hxm)
    have e:qFC d F (qCe d F n) c pr (n+1) x vals' { s' with tk:=s'.tk+1 }=f x vals' s':=by rw[hf];unfold stX;rw[qHu htk];rfl
    rw[e,S.v_eq]at Hx
    exact PY.any Hx fun V2' vals2 rv kf s2 V2 hf2 M2 hc=>after hf2 M2 hc
   ·refine⟨_,rfl,(fun h=>by cases h),fun _=>after X'.fr M2 (.inr ⟨by decide,?_⟩)⟩
    rw[hf];unfold stX;rw[qFK htk];rfl
 ·rw[(hr.done hge).1]at hG'
  exact PY.ok hG' X'.fr X'.M
end
section
variable{W V0 V V1 V':Mem}{d:Ds}{p F c q:Nat}{s:St}{pr:Pr}{vals:List Int}
theorem exprF{kf cc:Int}(M:XM V0 d p F V s cc kf)(hk:kf≠0){b:Option Addr}{e:E}:PP 161 [pv p,.pointer b,e.v] V (.int .i64 0):=by
 refine x161 ?_
 unfold w161
 exact⟨nn,nn,_,M.fault,fun h=>absurd h hk,fun _=>⟨rfl,rfl⟩⟩
theorem loopY{n:Nat}(hE:XExprC d p F n)(hS:XSC d p F n):XLoopC d p F n:=by
 intro x W V0 V s c q pr vals h4 X hty hok
 obtain⟨G,hG0⟩:∃G:Rx Rt,G=stX d F (qCe d F n) c pr (n+1) x vals s:=⟨_,rfl⟩
 rw[<- hG0]
 refine Tri.mono (S.v_eq x ▸ x126 (R:=PY W d p F c q pr G) ?_) fun _ _ h=>h
 unfold w126
 have hF:=X.S.fuel
 have hcs:=qCG (F:=F) X.S.procs n
 cases kindS hty with
 | @loop a h he hv ht =>
  have h0:x.es[0]?=some a:=by rw[he];rfl
  obtain⟨-,-,-,hlt1,-⟩:=hty.parts
  have hG:G=(qDD F s).bind fun _ st=>whX d F (qCe d F n) c pr a x.ls (n+1) vals st:=by
   rw[hG0];unfold stX qFC
   simp only[if_neg (show ¬x.op=1 by omega),if_neg (show ¬x.op=2 by omega),if_neg (show ¬x.op=3 by omega),if_pos h,he,List.getD_cons_zero]
  refine⟨fun m xs V2=>xs=[]/\∃V0' vals' s',Yx1 W V0' d p F c q pr vals' (n+1) 0 V2 s'/\F<m+(s'.tk+1)/\G=(qDD F s').bind fun _ st=>whX d F (qCe d F n) c pr a x.ls m vals' st,n+1,⟨rfl,V0,vals,s,X,by have:=X.n;omega,hG⟩,?_⟩
  rintro m V2 ⟨-,V0',vals',s',X',hm,hG'⟩ J hJ
  refine Tri.mono (c127 hF X'.M) ?_
  rintro e1 V3 (⟨htk,rfl,M3⟩|⟨htk,rfl,M3⟩)
  rotate_left
  ·refine⟨_,rfl,(fun h=>by cases h),fun _=>PY.bad (s:=s') ?_ (by decide) X'.fr M3⟩
   rw[hG',qFK htk];rfl
  have X1:=X'.tick htk M3
  have hG1:G=whX d F (qCe d F n) c pr a x.ls m vals' { s' with tk:=s'.tk+1 }:=by rw[hG',qHu htk];rfl
  obtain⟨m,rfl⟩:∃m',m=m'+1:=⟨m-1,by have:=X1.tk;have:s'.tk+1<=F:=this;omega⟩
  rw[whX]at hG1
  have hp:=qBb hv
  obtain⟨k1,k3,k4⟩:=esAt (hok.sub (X1.fr.sub.trans X1.M.sub)) h0
  have HE:=hE a qAu V0' V3 _ c q pr vals' (X1.cx.le (k:=szE a) (by omega)) hp.1 ((hok.eOk a (List.mem_of_getElem? h0)).sub X1.fr.sub) ht
  refine⟨_,rfl,fun _=>⟨k1,by decide,k3,_,_,_,_,k4,XR.any HE fun v kf s2 V4 M4 hc=>?_⟩,fun h=>absurd rfl h⟩
  rcases hc with⟨rfl,e2⟩|⟨hk,rfl,e2⟩
  rotate_left
  ·exact qAs rfl (PY.bad (by rw[hG1];unfold evS;rw[e2];rfl) hk X1.fr M4)
  obtain⟨G2,g2,q2⟩:=(qCl (F:=F) (c:=c) X1.S.procs hcs X1.po hv ht X1.G X1.hv).got e2
  have hG2:G=if v=0 then .ok (vals',none) s2 else (qCe d F n c pr x.ls vals' s2).bind fun r st=>match r.2 with|some _=>.ok r st|none=>(qDD F st).bind fun _ st=>whX d F (qCe d F n) c pr a x.ls m r.1 st:=by
   rw[hG1];unfold evS;rw[e2];rfl
  have X2:Yx1 W V0' d p F c q pr vals' n 0 V4 s2:=(X1.le (k:=1000+0) (by omega)).next g2 G2 X1.fr (qAh (fun h=>g2.right h) X1.hv) M4
  refine⟨fun hz=>?_,fun hz=>⟨nn,nn,_,M4.fault,fun _=>?_,fun h=>absurd rfl h⟩⟩
  ·rw[if_pos (show v=0 from hz)]at hG2
   exact PY.ok hG2 X2.fr M4
  rw[if_neg (show ¬v=0 from hz)]at hG2
  have P:=hcs c pr x.ls vals' s2 X2.po hlt1 X2.G X2.hv
  refine PY.any (hS x.ls W V0' V4 s2 c q pr vals' x.ll X2 hlt1 hok.lOk hok.lRows) fun V2' vals2 rv kf s3 V5 hf3 M5 hc=>?_
  refine⟨nn,nn,_,hf3.done M5,fun hd=>?_,fun hd=>⟨nn,nn,_,M5.fault,fun hk0=>?_,fun hk0=>?_⟩⟩
  ·rcases hc with⟨rfl,e3⟩|⟨hk,e3⟩
   ·cases rv with
    | none=>cases hd
    | some z=>exact PY.ok (rt:=(vals2,some z)) (by rw[hG2,e3];rfl) hf3 M5
   ·exact PY.bad (by rw[hG2,e3];rfl) hk hf3 M5
  ·have hk0:kf=0:=hk0
   rcases hc with⟨-,e3⟩|⟨hk,-⟩
   rotate_left
   ·exact absurd hk0 hk
   subst hk0
   cases rv with
   | some z=>exact absurd rfl hd
   | none =>
    obtain⟨G3,g3,q3⟩:=P.got e3
    have t2:=g2.tk
    have t3:=g3.tk
    have hn1:=X'.n
    have ht2:s'.tk+1<=s2.tk:=t2
    refine hJ m _ _ (by omega) ⟨rfl,V2',vals2,s3,?_,by omega,by rw[hG2,e3];rfl⟩
    have X3:=X2.next (m:=0) (k:=0) g3 G3 hf3 q3.1 M5
    exact⟨X3.S,X3.fr,X3.pm,X3.G,X3.hv,X3.M,X3.tk,by omega,X3.w⟩
  ·have hk0:¬kf=0:=hk0
   rcases hc with⟨h,-⟩|⟨hk,e3⟩
   ·exact absurd h hk0
   ·exact PY.bad (by rw[hG2,e3];rfl) hk hf3 M5
 | set h=>omega
 | put h=>omega
 | cond h=>omega
 | ret0 h=>omega
 | ret1 h=>omega
 | call h=>omega
theorem retY{kf cc:Int}(hf:FrX W V0 q pr vals none)(M:XM V0 d p F V s cc kf){v:Int}{Q:Mem->Prop}(hQ:∀V0' V',FrX W V0' q pr vals (some v)->XM V0' d p F V' s cc kf->Q V') :
  StT (qAa (sa q) 8) 0 [.int .i64 v] V fun V2=>¬(some (⟨q,0,none⟩:Addr))=none/\¬(some (⟨q,0,none⟩:Addr))=none/\StT (qAa (sa q) 7) 0 [.bool true] V2 Q:=by
 obtain⟨a,b,h1,h2,h3⟩:=hf.ex
 have n0:V0 q≠none:=by rw[h1];simp
 refine StT.at2 (off:=8) (M.sub _ _ h1) (by simp[qIY]) ⟨nn,nn,StT.at2 (off:=7) mss (by simp[qIY]) ?_⟩
 have o1:=qIo h3 hf.q0 h1 (.cells ((qIY pr a b none).toArray.toList.take 8++[Value.int .i64 v]++(qIY pr a b none).toArray.toList.drop (8+[Value.int .i64 v].length)).toArray 168 (0,0))
 have o2:=qIo o1 hf.q0 mss (.cells (qIY pr a b (some v)).toArray 168 (0,0))
 have M1:=M.poke n0 (.cells ((qIY pr a b none).toArray.toList.take 8++[Value.int .i64 v]++(qIY pr a b none).toArray.toList.drop (8+[Value.int .i64 v].length)).toArray 168 (0,0))
 have M2:=M1.poke (b:=q) (by rw[Mem.set_same];simp) (.cells (qIY pr a b (some v)).toArray 168 (0,0))
 exact hQ _ _ ⟨(hf.sub.set hf.q0 _).set hf.q0 _,hf.q0,a,b,Mem.set_same _ _ _,h2,o2⟩ M2
theorem retY0{kf cc:Int}(hf:FrX W V0 q pr vals none)(M:XM V0 d p F V s cc kf){Q:Mem->Prop}(hQ:∀V0' V',FrX W V0' q pr vals (some 0)->XM V0' d p F V' s cc kf->Q V') :
  StT (qAa (sa q) 7) 0 [.bool true] V Q:=by
 obtain⟨a,b,h1,h2,h3⟩:=hf.ex
 have n0:V0 q≠none:=by rw[h1];simp
 refine StT.at2 (off:=7) (M.sub _ _ h1) (by simp[qIY]) ?_
 have o1:=qIo h3 hf.q0 h1 (.cells (qIY pr a b (some 0)).toArray 168 (0,0))
 have M1:=M.poke n0 (.cells (qIY pr a b (some 0)).toArray 168 (0,0))
 exact hQ _ _ ⟨hf.sub.set hf.q0 _,hf.q0,a,b,Mem.set_same _ _ _,h2,o1⟩ M1
theorem bodyY{n:Nat}(hE:XExprC d p F n)(hR:XCallC d p F n)(hS:XSC d p F n):XBodyC d p F n:=by
 intro x W V0 V s c q pr vals h4 X1 hty hok
 obtain⟨G,hG⟩:∃G:Rx Rt,G=qFC d F (qCe d F n) c pr (n+1) x vals s:=⟨_,rfl⟩
 rw[<- hG]
 refine Tri.mono (S.v_eq x ▸ x128 (R:=PY W d p F c q pr G) ?_) fun _ _ h=>h
 unfold w128
 have hcs:=qCG (F:=F) X1.S.procs n
 have ex:∀{i:Nat} {a:E} {u:ByteArray} {V2 V0':Mem} {vals':List Int} {s2:St} {m:Nat},x.es[i]?=some a->qAO a=true->qAo d (qAf d pr) a=(u,0)->Yx1 W V0' d p F c q pr vals' n m V2 s2->1000<=m ->
   Tri Tryz.prog 161 #[pv p,pv q,.agg #[.int .i64 a.op,.int .i64 a.n,.string a.s,.slice a.l.p a.l.n a.l.c]] V2 (XR V0' d p F c (evS d (qCe d F n) c pr vals' a s2)):=fun {i a u V2 V0' vals' s2 m} h0 hv ha X2 hm=>by
  have hp:=qBb hv
  exact hE a u V0' V2 s2 c q pr vals' (X2.cx.le (by omega)) hp.1 ((hok.eOk a (List.mem_of_getElem? h0)).sub X2.fr.sub) ha
 have go:∀{a:E} {u:ByteArray} {V2 V3 V0':Mem} {vals':List Int} {s2 s3:St} {m:Nat} {v:Int},qAO a=true->qAo d (qAf d pr) a=(u,0)->Yx1 W V0' d p F c q pr vals' n (1000+m) V2 s2->evS d (qCe d F n) c pr vals' a s2=.ok v s3->XM V0' d p F V3 s3 c 0 ->
   Yx1 W V0' d p F c q pr vals' n m V3 s3/\qBq d s3.mm u v/\Gr F 1000 s2 s3:=fun {a u V2 V3 V0' vals' s2 s3 m v} hv ha X2 e M3=>by
  obtain⟨G3,g3,q3⟩:=(qCl (F:=F) (c:=c) X2.S.procs hcs X2.po hv ha X2.G X2.hv).got e
  exact⟨X2.next g3 G3 X2.fr (qAh (fun h=>g3.right h) X2.hv) M3,q3,g3⟩
 unfold qFC at hG
 have hW1:=X1.fr.sub.trans X1.M.sub
 cases kindS hty with
 | @set a u t h he hv ht hl hne hf =>
  rw[if_pos h,he,List.getD_cons_zero]at hG
  have h0:x.es[0]?=some a:=by rw[he];rfl
  obtain⟨k1,k3,k4⟩:=esAt (hok.sub hW1) h0
  refine qAs h ⟨k1,by decide,k3,_,_,_,_,k4,XR.any (ex h0 hv ht X1 (by omega)) fun v kf s2 V2 M2 hc=>?_⟩
  refine x162 ?_
  unfold w162
  refine⟨nn,nn,_,M2.fault,fun hz=>?_,fun hz=>?_⟩
  rotate_left
  ·rcases hc with⟨h,-⟩|⟨hk,-,e2⟩
   ·exact absurd h hz
   ·exact⟨rfl,PY.bad (by rw[hG,e2];rfl) hk X1.fr M2⟩
  have hz:kf=0:=hz
  rcases hc with⟨-,e2⟩|⟨hk,-⟩
  rotate_left
  ·exact absurd hz hk
  subst hz
  rw[e2]at hG
  have hG2:G=setX d pr x.s v vals s2:=hG
  obtain⟨X2,hv2,-⟩:=go (m:=3000) hv ht X1 e2 M2
  obtain⟨fa,fb,hq0,hra0,hrb0⟩:=X2.fr.ex
  have hq:=M2.sub _ _ hq0
  refine⟨nn,nn,fa,qAc hq 5 1 (by simp[qIY]),(c217 (hra0.sub (X2.fr.sub.trans M2.sub))).call ⟨_,rfl,?_⟩⟩
  unfold setX at hG2
  rcases qDV X2.G X2.hv X2.po.vars hl hne with⟨i,g,w,h1,h2,h3,h4,-⟩|⟨i,g,w,h0',h1,h2,h3,h4,-⟩
  ·rw[h1]
   rw[if_pos (by omega),h1,Int.toNat_natCast]at hG2
   have hil:=(List.getElem?_eq_some_iff.1 h3).1
   obtain⟨g1,g2,g3,-⟩:=gAt (hrb0.rows (fun _=>rfl) (by decide)) h3
   refine qAs (by omega) ⟨nn,nn,fb,qAc hq 6 1 (by simp[qIY]),g1,g2,g3,frStoreX hrb0 M2 hil fun V0' V' ho M' hx=>?_⟩
   refine⟨rfl,PY.ok (rt:=(vals.set i v,none)) hG2 ⟨ho.sub,X2.fr.q0,fa,fb,?_,hra0,ho⟩ M'⟩
   rw[hx];exact hq0
   exact hrb0.apart fun cur hcq=>by
    rw[hq0]at hcq
    simp only[Option.some.injEq,Obj.cells.injEq]at hcq
    exact absurd hcq.2.1 (by decide)
  ·rw[h0']
   rw[if_neg (by omega),h1,Int.toNat_natCast]at hG2
   obtain⟨gs,ns,ls,nd,hat,L⟩:=M2.ex
   have hd:=(X2.S.sub X2.fr.sub).ds.sub L.sub
   refine qAj (by decide) ⟨nn,nn,pnn,d.gs,qAc hat 2 1 (by simp[qBv]),(c217 hd.globals).call ⟨_,rfl,?_⟩⟩
   rw[h1]
   refine Tri.mono (c212 M2 (Yx.fit (m:=0) (X2.cx.le (by omega)))) ?_
   rintro _ V5 ⟨rfl,M5⟩
   obtain⟨gs5,ns5,ls5,nd5,hat5,L5⟩:=M5.ex
   obtain⟨g1,g2,g3,-⟩:=gAt (L5.glob.rows (fun _=>rfl) (by decide)) (i:=i) (v:=w) h3
   have hil:=(List.getElem?_eq_some_iff.1 h3).1
   refine⟨rfl,nn,nn,pnn,gs5,qAc hat5 8 1 (by simp[qBv]),g1,g2,g3,L5.setG (i:=i) hil fun V6 L6 hk6=>?_⟩
   refine⟨rfl,PY.ok (V0:=V0) (rt:=(vals,none)) hG2 X2.fr (MA.mk M5.p0 ⟨gs5,ns5,ls5,nd5,?_,L6⟩)⟩
   rw[hk6 _ (qGU hat5 ntX L5.glob (.inl rfl))];exact hat5
 | @put a b u w t h he hv hw ha ht hl hf =>
  rw[if_neg (by omega),if_pos h,he,List.getD_cons_zero,List.getD_cons_succ,List.getD_cons_zero]at hG
  have h0:x.es[0]?=some a:=by rw[he];rfl
  have h1:x.es[1]?=some b:=by rw[he];rfl
  obtain⟨k1,k3,k4⟩:=esAt (hok.sub hW1) h0
  refine qAj (by omega) (qAs h ?_)
  refine x163 ?_
  unfold w163
  refine⟨k1,by decide,k3,_,_,_,_,k4,XR.any (ex h0 hv ha X1 (by omega)) fun v kf s2 V2 M2 hc=>?_⟩
  obtain⟨l1,l3,l4⟩:=esAt (hok.sub (X1.fr.sub.trans M2.sub)) h1
  refine⟨l1,by decide,l3,_,_,_,_,l4,?_⟩
  rcases hc with⟨rfl,e2⟩|⟨hk,-,e2⟩
  rotate_left
  ·exact(exprF M2 hk (e:=b)).call ⟨_,rfl,nn,nn,_,M2.fault,fun h=>absurd h hk,fun _=>⟨rfl,PY.bad (by rw[hG,e2];rfl) hk X1.fr M2⟩⟩
  rw[e2]at hG
  obtain⟨X2,hv2,-⟩:=go (m:=3000) hv ha X1 e2 M2
  refine XR.any (ex h1 hw ht X2 (by omega)) fun y kf s3 V3 M3 hc=>⟨nn,nn,_,M3.fault,fun hz=>?_,fun hz=>?_⟩
  rotate_left
  ·rcases hc with⟨h,-⟩|⟨hk,-,e3⟩
   ·exact absurd h hz
   ·exact⟨rfl,PY.bad (by rw[hG];show ((evS d (qCe d F n) c pr vals b s2).bind _)=_;rw[e3];rfl) hk X2.fr M3⟩
  have hz:kf=0:=hz
  rcases hc with⟨-,e3⟩|⟨hk,-⟩
  rotate_left
  ·exact absurd hz hk
  subst hz
  have hG3:G=(putX d v y x.s s3).bind fun _ st=>.ok (vals,none) st:=by rw[hG];show ((evS d (qCe d F n) c pr vals b s2).bind _)=_;rw[e3];rfl
  obtain⟨X3,hv3,g3⟩:=go (m:=2000) hw ht X2 e3 M3
  have hv2:=g3.val hv2
  refine⟨fun hz=>?_,fun hz=>?_⟩
  ·refine Tri.mono (c93 M3) ?_
   rintro _ V4 ⟨rfl,M4⟩
   refine⟨_,rfl,rfl,PY.bad (s:=s3) (k:=17) ?_ (by decide) X3.fr M4⟩
   rw[hG3];unfold putX;rw[if_pos (show v=0 from hz)];rfl
  have hz:¬v=0:=hz
  obtain⟨k,i,j,tt,g,fs,z,rfl,f2,f3,f4,f5,f6,f7,f8,-⟩:=qDm X3.G hl hv2 hz
  have hG4:G=.ok (vals,none) { s3 with ns:=s3.ns.set k ((j:Int),fs.set i y),lg:=s3.lg++[(2,(k:Int)+1,(i:Int))] }:=by
   rw[hG3];unfold putX
   rw[if_neg hz,show ((k:Int)+1-1).toNat=k by omega,f2]
   simp only
   rw[f5,f6,Int.toNat_natCast];rfl
  refine(c211 (X3.S.sub X3.fr.sub) M3 f2 f3).call ⟨_,rfl,?_⟩
  rw[f6]
  refine Tri.mono (c212 M3 (Yx.fit (m:=0) (X3.cx.le (by omega)))) ?_
  rintro _ V5 ⟨rfl,M5⟩
  obtain⟨gs5,ns5,ls5,nd5,sl5,hat5,L5,hnd5,hI,n1,n2,n3,n4,m1,m2,m3,m4⟩:=nodeX M5 (k:=k) (i:=i) f2 f8
  have hil:=(List.getElem?_eq_some_iff.1 f8).1
  rw[show ((k:Int)+1-1)=(k:Int) by omega]
  refine⟨rfl,nn,nn,pnn,ns5,qAc hat5 9 1 (by simp[qBv]),hI,n1,n2,n3,qAe n1,_,_,n4,m1,m2,m3,L5.setF hnd5 hil fun V6 L6 hk6=>?_⟩
  refine⟨rfl,PY.ok (V0:=V0) (rt:=(vals,none)) hG4 X3.fr (MA.mk M5.p0 ⟨gs5,ns5,ls5,_,?_,L6⟩)⟩
  rw[hk6 _ (qGU hat5 ntX (L5.fld _ (List.mem_of_getElem? hnd5)) (.inl rfl))];exact hat5
 | @cond a h he hv ht =>
  rw[if_neg (by omega),if_neg (by omega),if_pos h,he,List.getD_cons_zero]at hG
  have h0:x.es[0]?=some a:=by rw[he];rfl
  obtain⟨k1,k3,k4⟩:=esAt (hok.sub hW1) h0
  obtain⟨-,-,-,hlt1,hlt2⟩:=hty.parts
  refine qAj (by omega) (qAj (by omega) (qAs h ⟨k1,by decide,k3,_,_,_,_,k4,XR.any (ex h0 hv ht X1 (by omega)) fun v kf s2 V2 M2 hc=>⟨nn,nn,_,M2.fault,fun hz=>?_,fun hz=>?_⟩⟩))
  rotate_left
  ·rcases hc with⟨h,-⟩|⟨hk,-,e2⟩
   ·exact absurd h hz
   ·exact PY.bad (by rw[hG,e2];rfl) hk X1.fr M2
  have hz:kf=0:=hz
  rcases hc with⟨-,e2⟩|⟨hk,-⟩
  rotate_left
  ·exact absurd hz hk
  subst hz
  rw[e2]at hG
  have hG2:G=if v=0 then qCe d F n c pr x.xs vals s2 else qCe d F n c pr x.ls vals s2:=hG
  obtain⟨X2,-,-⟩:=go (m:=3000) hv ht X1 e2 M2
  refine⟨fun hz=>PY.last ?_ (hS x.xs W V0 V2 s2 c q pr vals x.xl (X2.le (by omega)) hlt2 hok.xOk hok.xRows),fun hz=>PY.last ?_ (hS x.ls W V0 V2 s2 c q pr vals x.ll (X2.le (by omega)) hlt1 hok.lOk hok.lRows)⟩
  ·rw[hG2,if_pos (show v=0 from hz)]
  ·rw[hG2,if_neg (show ¬v=0 from hz)]
 | loop h=>exact absurd h h4
 | ret0 h he hr =>
  rw[if_neg (by omega),if_neg (by omega),if_neg (by omega),if_neg (by omega),if_pos h,he]at hG
  have hn:=(hok.sub hW1).eRows.n_eq
  rw[he]at hn
  refine qAj (by omega) (qAj (by omega) (qAj (by omega) (qAs h (qAj (by rw[hn];decide) ⟨nn,nn,retY0 X1.fr X1.M fun V0' V' hf M'=>?_⟩))))
  exact PY.ok (rt:=(vals,some 0)) hG hf M'
 | @ret1 a u h he hv ht hr hf =>
  rw[if_neg (by omega),if_neg (by omega),if_neg (by omega),if_neg (by omega),if_pos h,he]at hG
  have h0:x.es[0]?=some a:=by rw[he];rfl
  have hn:=(hok.sub hW1).eRows.n_eq
  rw[he]at hn
  obtain⟨k1,k3,k4⟩:=esAt (hok.sub hW1) h0
  refine qAj (by omega) (qAj (by omega) (qAj (by omega) (qAs h (qAs (by rw[hn];rfl) ⟨k1,by decide,k3,_,_,_,_,k4,XR.any (ex h0 hv ht X1 (by omega)) fun v kf s2 V2 M2 hc=>⟨nn,nn,retY X1.fr M2 fun V0' V' hf M'=>?_⟩⟩))))
  rcases hc with⟨rfl,e2⟩|⟨hk,-,e2⟩
  ·exact PY.ok (rt:=(vals,some v)) (by rw[hG];show (evS d (qCe d F n) c pr vals a s).bind _=_;rw[e2];rfl) hf M'
  ·exact PY.bad (by rw[hG];show (evS d (qCe d F n) c pr vals a s).bind _=_;rw[e2];rfl) hk hf M'
 | @call a pr' i h he hv ho hc =>
  rw[if_neg (by omega),if_neg (by omega),if_neg (by omega),if_neg (by omega),if_neg (by omega),if_pos h,he,List.getD_cons_zero]at hG
  have h0:x.es[0]?=some a:=by rw[he];rfl
  obtain⟨k1,k3,k4⟩:=esAt (hok.sub hW1) h0
  have hp:=qBb hv
  refine qAj (by omega) (qAj (by omega) (qAj (by omega) (qAj (by omega) (qAs h ⟨k1,by decide,k3,_,_,_,_,k4,XR.any (exprX0 hR a V0 V s c q pr vals (X1.cx.le (by omega)) hp.1 ((hok.eOk a (List.mem_of_getElem? h0)).sub X1.fr.sub) (.inr ⟨ho,pr',i,hc⟩)) fun v kf s2 V2 M2 hcc=>?_⟩))))
  rcases hcc with⟨rfl,e2⟩|⟨hk,-,e2⟩
  ·exact PY.ok (rt:=(vals,none)) (by rw[hG];unfold evS;rw[e2];rfl) X1.fr M2
  ·exact PY.bad (by rw[hG];unfold evS;rw[e2];rfl) hk X1.fr M2
end
theorem set_fill{args:List Int}{n i:Nat}{v:Int}(hi:args[i]?=some v)(hn:i<n):(args.take i++List.replicate (n-i) 0).set i v=args.take (i+1)++List.replicate (n-(i+1)) 0:=by
 have hl:=(List.getElem?_eq_some_iff.1 hi).1
 have hlen:(args.take i).length=i:=by rw[List.length_take];omega
 rw[List.set_append_right _ _ (by omega),hlen,Nat.sub_self]
 obtain⟨m,hm⟩:∃m,n-i=m+1:=⟨n-i-1,by omega⟩
 rw[hm,List.replicate_succ,List.set_cons_zero,List.take_add_one,hi,show n-(i+1)=m by omega]
 simp
section
variable{V0 V:Mem}{d:Ds}{p F:Nat}{s:St}
theorem callY{n:Nat}(H:XSC d p F n):XCallC d p F n:=by
 intro V0 V s c i pr args l hS hpr G ha hl M htk hn hw
 obtain⟨G',hG⟩:∃G':Rx Int,G'=qBY d (qCe d F n) c i args s:=⟨_,rfl⟩
 rw[<- hG]
 have hpm:=List.mem_of_getElem? hpr
 have hpo:=hS.procs pr hpm
 refine Tri.mono (x64 (R:=XR V0 d p F c G') ?_) fun _ _ h=>h
 unfold w64
 obtain⟨gs,ns,ls,nd,hat,L⟩:=M.ex
 unfold qBY at hG
 refine⟨nn,nn,_,qAc hat 12 1 (by simp[qBv]),fun h2=>failX M (by decide) (by rw[hG,if_pos (by omega)]),fun h2=>?_⟩
 rw[if_neg (by omega),Int.toNat_natCast,hpr]at hG
 refine⟨nn,nn,_,qAc hat 12 1 (by simp[qBv]),⟨by omega,by omega⟩,nn,nn,StT.at2 (off:=12) hat (by simp[qBv]) ?_⟩
 have M1:XM V0 d p F (V.set p (.cells (qBv d F s.tk ((c+1:Nat):Int) 0 s.cm (qAw s.lg) gs ns ls).toArray 66 (0,0))) s ((c+1:Nat):Int) 0:=MA.set (row':=qBv d F s.tk ((c+1:Nat):Int) 0 s.cm (qAw s.lg)) ntX M.p0 hat L rfl rfl rfl rfl
 obtain⟨V1,hV1⟩:∃V1,V1=V.set p (.cells (qBv d F s.tk ((c+1:Nat):Int) 0 s.cm (qAw s.lg) gs ns ls).toArray 66 (0,0)):=⟨_,rfl⟩
 rw[<- hV1]at M1
 have e1:V.set p (.cells ((qBv d F s.tk c 0 s.cm (qAw s.lg) gs ns ls).toArray.toList.take 12++[Value.int .i64 ((c:Int)+1)]++(qBv d F s.tk c 0 s.cm (qAw s.lg) gs ns ls).toArray.toList.drop (12+[Value.int .i64 ((c:Int)+1)].length)).toArray 66 (0,0))=V1:=by rw[hV1];rfl
 erw [e1]
 obtain⟨gs1,ns1,ls1,nd1,hat1,L1⟩:=M1.ex
 have hd1:=hS.ds.sub L1.sub
 have hn1:=hd1.procs.n_eq
 have hil:=(List.getElem?_eq_some_iff.1 hpr).1
 obtain⟨y,-,hy,-,-,hp1,hz1,hrow1⟩:=hd1.procs.get (i:=i) (by omega)
 rw[hpr]at hy;cases hy
 refine⟨nn,nn,pnn,d.ps,qAc hat1 3 1 (by simp[qBv]),hp1,hz1,by omega,_,_,_,_,_,hrow1,fun b0 hb0=>?_⟩
 have hok:=hd1.procsOk pr hpm
 have hln:=hpo.lens
 have s0:=Mem.sub_new hb0 (.cells #[] 81 (0,0))
 refine qGe (s:=⟨some ⟨b0,0,none⟩,0,0⟩) (u:=pr.ps) (xs:=[]) (ys:=pr.params) rfl rfl (Own.empty s0 _ _ _) (hok.params.sub s0) (by simp;omega) fun s2 V2 o2=>⟨s2,rfl,?_⟩
 refine qGe (s:=s2) (u:=pr.ls) (xs:=pr.params) (ys:=pr.locals) rfl rfl o2 (hok.locals.sub o2.sub) (by omega) fun s3 V3 o3=>⟨s3,rfl,?_⟩
 have h3n:=o3.n_eq (fun _=>rfl) (by decide)
 rw[List.length_append]at h3n
 refine mk31 (n:=s3.n) rfl rfl (by omega) fun g hg=>⟨⟨some ⟨g,0,none⟩,s3.n,s3.n⟩,rfl,?_⟩
 have hown:=qKl hg (n:=s3.n) (by omega)
 have hal:=(qAq.1 ha).1
 obtain⟨V4,hV4⟩:∃V4,V4=V3.set g (.cells (madeCells (Value.int .i64 0).cells (s3.n*1)) 3 (0,0)):=⟨_,rfl⟩
 rw[<- hV4]at hown ⊢
 refine loop1 args.length (fun j V5=>Sx.Own V3 V5 3 1 ⟨some ⟨g,0,none⟩,s3.n,s3.n⟩ ((args.take j++List.replicate (s3.n-j) 0).flatMap qAn)) (by rw[List.take_zero,List.nil_append,Nat.sub_zero];exact hown) ?_
 rintro j V5 J hj o5 hJ
 have s35:=o5.sub
 have hl5:=hl.sub ((M1.sub.trans o3.sub).trans s35)
 refine⟨fun hlt=>?_,fun hge=>?_⟩
 ·obtain⟨v,-,hv,-,hjl,hp,hz,hrow⟩:=hl5.get hlt
  refine⟨hp,hz,hlt,v,hrow,nn,by omega,(show (j:Int)<(s3.n:Int) by omega),?_⟩
  show StT (qAa (sa g) (j*1)) 0 [.int .i64 v] V5 _
  rw[Nat.mul_one]
  refine Own.store o5 (i:=j) (by rw[qAG,List.length_map,List.length_append,List.length_take,List.length_replicate];omega) fun V6 o6 _=>⟨hl5.succ hlt,hJ hjl _ ?_⟩
  have e:((args.take j++List.replicate (s3.n-j) 0).flatMap qAn).set j (Value.int .i64 v)=(args.take (j+1)++List.replicate (s3.n-(j+1)) 0).flatMap qAn:=by
   rw[qAG,qAG,<- set_fill hv (by omega),List.map_set]
  rw[<- e];exact o6
 ·have hdn:=(hl5.done hge).2
  have hja:j=args.length:=by omega
  subst hja
  rw[List.take_length,show s3.n-args.length=pr.locals.length by omega]at o5
  intro b2 hb2
  obtain⟨V6,hV6⟩:∃V6,V6=V5.set b2 (.cells (qIY pr s3 ⟨some ⟨g,0,none⟩,s3.n,s3.n⟩ none).toArray 168 (0,0)):=⟨_,rfl⟩
  have e6:V5.set b2 (.cells #[uS pr.name,uL pr.ps,uS pr.result,uL pr.ls,uL pr.bs,uL s3,uL ⟨some ⟨g,0,none⟩,s3.n,s3.n⟩,uB false,uI 0] 168 (0,0))=V6:=by rw[hV6];rfl
  show Tri _ _ #[pv p,pv b2,.slice pr.bs.p pr.bs.n pr.bs.c] (V5.set b2 (.cells #[uS pr.name,uL pr.ps,uS pr.result,uL pr.ls,uL pr.bs,uL s3,uL ⟨some ⟨g,0,none⟩,s3.n,s3.n⟩,uB false,uI 0] 168 (0,0))) _
  rw[e6]
  have s56:V5.sub V6:=hV6 ▸ Mem.sub_new hb2 _
  have s36:=s35.trans s56
  have s16:=o3.sub.trans s36
  obtain⟨W0,w0,w6,MW,hWn⟩:=M1.after s16
  have n1:∀{b:Nat},V3 b=none->V1 b=none:=fun {b} h=>free o3.sub h
  have n5:V3 b2=none:=free s35 hb2
  obtain⟨b,hb⟩:∃b:Sl,b=⟨some ⟨g,0,none⟩,s3.n,s3.n⟩:=⟨_,rfl⟩
  rw[<- hb]at o5 hV6
  have hbk:∀{x:Nat},Blk b x->V3 x=none:=fun h=>Own.none0 o5 h
  have nb2:¬Blk b b2:=fun hk=>by
   obtain⟨cur,hc⟩:=Own.some o5 hk
   rw[hb2]at hc;cases hc
  obtain⟨W,hW⟩:∃W,W=Mem.minus W0 (fun x=>x=b2∨Blk b x):=⟨_,rfl⟩
  have hWW:W.sub W0:=by rw[hW];exact qFS
  have V03:V0.sub V3:=M1.sub.trans o3.sub
  have hws:V0.sub W:=fun x o hx=>by
   rw[hW,qDn]
   ·exact w0 _ _ hx
   ·rintro (rfl|hk)
    ·have:=V03 _ _ hx;rw[n5]at this;cases this
    ·have:=V03 _ _ hx;rw[hbk hk]at this;cases this
  have o5':Sx.Own W W0 3 1 b ((args++List.replicate pr.locals.length (0:Int)).flatMap qAn):=own_to o5 hWW fun x o hk h0 h1=>⟨by rw[hW];exact qFT (.inr hk),hWn _ _ (n1 h0) (s56 _ _ h1)⟩
  have hs3:Sx.Own (fun _=>none) W 81 2 s3 ((pr.params++pr.locals).flatMap Fld.row):=own_to o3 (fun _ _ h=>by cases h) fun x o hk h0 h1=>⟨rfl,by
   rw[hW,qDn]
   ·exact hWn _ _ h0 (s36 _ _ h1)
   ·rintro (rfl|hk')
    ·rw[n5]at h1;cases h1
    ·rw[hbk hk']at h1;cases h1⟩
  have hfr:W0 b2=some (.cells (qIY pr s3 b none).toArray 168 (0,0)):=hWn _ _ (n1 n5) (by rw[hV6];exact Mem.set_same _ _ _)
  have FR:FrX W W0 b2 pr (args++List.replicate pr.locals.length 0) none:=⟨hWW,by rw[hW];exact qFT (.inl rfl),s3,b,hfr,hs3.rows (fun _=>rfl) (by decide),o5'⟩
  have hv:=qCS ha (qCX G.valid fun f hf=>hpo.vars f (List.mem_append_right _ hf))
  have hokW:=(hS.ds.sub hws).procsOk pr hpm
  refine PY.any (H pr.body W W0 V6 s (c+1) b2 pr _ pr.bs ⟨hS.sub hws,FR,hpm,G,hv,MW,htk,hn,hw⟩ hpo.body (fun x hx=>hokW.stmts x hx) hokW.body) fun W7 vals7 rv kf s7 V7 f7 M7 hc=>?_
  obtain⟨gs7,ns7,ls7,nd7,hat7,L7⟩:=M7.ex
  refine⟨nn,nn,_,qAc hat7 12 1 (by simp[qBv]),⟨by omega,by omega⟩,nn,nn,StT.at2 (off:=12) hat7 (by simp[qBv]) ?_⟩
  have M8:XM W7 d p F (V7.set p (.cells (qBv d F s7.tk c kf s7.cm (qAw s7.lg) gs7 ns7 ls7).toArray 66 (0,0))) s7 c kf:=MA.set (row':=qBv d F s7.tk c kf s7.cm (qAw s7.lg)) ntX M7.p0 hat7 L7 rfl rfl rfl rfl
  obtain⟨V8,hV8⟩:∃V8,V8=V7.set p (.cells (qBv d F s7.tk c kf s7.cm (qAw s7.lg) gs7 ns7 ls7).toArray 66 (0,0)):=⟨_,rfl⟩
  rw[<- hV8]at M8
  have e8:V7.set p (.cells ((qBv d F s7.tk ((c+1:Nat):Int) kf s7.cm (qAw s7.lg) gs7 ns7 ls7).toArray.toList.take 12++[Value.int .i64 (((c+1:Nat):Int)-1)]++(qBv d F s7.tk ((c+1:Nat):Int) kf s7.cm (qAw s7.lg) gs7 ns7 ls7).toArray.toList.drop (12+[Value.int .i64 (((c+1:Nat):Int)-1)].length)).toArray 66 (0,0))=V8:=by
   rw[hV8,show (((c+1:Nat):Int)-1)=(c:Int) by omega];rfl
  erw [e8]
  obtain⟨fa,fb,hq7,-,-⟩:=f7.ex
  have MN:=M8.narrow (hws.trans f7.sub)
  refine⟨nn,nn,_,M8.fault,fun hz=>⟨nn,nn,_,qAc (M8.sub _ _ hq7) 8 1 (by simp[qIY]),?_⟩,fun hz=>?_⟩
  ·have hz:kf=0:=hz
   rcases hc with⟨-,e⟩|⟨hk,-⟩
   ·subst hz
    exact XR.ok (by rw[hG];show ((qCe d F n (c+1) pr pr.body _ s).bind _)=_;rw[e];rfl) MN
   ·exact absurd hz hk
  ·rcases hc with⟨h,-⟩|⟨hk,e⟩
   ·exact absurd h hz
   ·exact XR.bad (by rw[hG];show ((qCe d F n (c+1) pr pr.body _ s).bind _)=_;rw[e];rfl) hk MN
theorem allY(d:Ds)(p F:Nat):∀n,XSC d p F n
 | 0=>fun l W V0 V s c q pr vals sl X _ _ _=>absurd X.n (by have:=X.tk;omega)
 | n+1=>stsY (loopY (exprX (callY (allY d p F n))) (allY d p F n)) (bodyY (exprX (callY (allY d p F n))) (callY (allY d p F n)) (allY d p F n))
end
end Go.Proofs
