/- Part 15 of a proof of a law of this seat: no statement of the seat is proved here. -/
import Derived.Test.YtmeagdecjpknkaaGreatDoorPp14
import Derived.Test.YtmeagdecjpknkaaGreatDoorPp12
import Derived.Test.YtmeagdecjpknkaaGreatDoorPp11
import Derived.Test.YtmeagdecjpknkaaGreatDoorPp13
import Derived.DefersIn
import Derived.RecoverIn
import Derived.Test.YtmeagdecjpknkaaGreatDoorPp04
set_option linter.unusedVariables false
set_option linter.unusedSimpArgs false
namespace Go.Proofs
open Go Go.Sx
attribute [local irreducible] Go.Sx.Tri
section
variable{W V0 V V1 V':Mem}{d:Ds}{p F c q:Nat}{s:St}{pr:Pr}{vals:List Int}
theorem esAt{x:S}(h:S.Ok V x){i:Nat}{a:E}(ha:x.es[i]?=some a):¬x.el.p=none/\(i:Int)<(x.el.n:Int)/\V.rowp x.el.p (i*4) 4=some [.int .i64 a.op,.int .i64 a.n,.string a.s,.slice a.l.p a.l.n a.l.c]:=by
 have hr:=h.eRows
 have hn:=hr.n_eq
 have hl:=(List.getElem?_eq_some_iff.1 ha).1
 obtain⟨y,-,hy,-,hl2,hp,hz,hrow⟩:=hr.get (i:=i) (by omega)
 rw[ha]at hy;cases hy
 exact⟨hp,by omega,hrow⟩
theorem tickX_ok(h:s.tk<F):qKa F s=.ok () { s with tk:=s.tk+1 }:=by unfold qKa;rw[if_neg (by omega)]
theorem tickX_bad(h:F<=s.tk):qKa F s=.bad 20 s:=by unfold qKa;rw[if_pos h]
theorem Sx1.tick{n:Nat}(X:Sx1 W V0 d p F c q pr vals (n+1) 0 V s)(h:s.tk<F)(M:EM V0 d p F V' { s with tk:=s.tk+1 } c):Sx1 W V0 d p F c q pr vals n 4000 V' { s with tk:=s.tk+1 } :=
 ⟨X.S,X.fr,X.po,⟨X.G.valid,X.G.chk,X.G.mem⟩,X.hv,M,h,by have:=X.n;show F<n+(s.tk+1);omega,by have:=X.w;unfold BW at *;show s.lg.length+s.cm+4000<=4000*(s.tk+1);omega⟩
theorem Sx1.tick'{n:Nat}(X:Sx1 W V0 d p F c q pr vals n 0 V s)(h:s.tk<F)(M:EM V0 d p F V' { s with tk:=s.tk+1 } c):Sx1 W V0 d p F c q pr vals n 4000 V' { s with tk:=s.tk+1 } :=
 ⟨X.S,X.fr,X.po,⟨X.G.valid,X.G.chk,X.G.mem⟩,X.hv,M,h,by have:=X.n;show F<n+(s.tk+1);omega,by have:=X.w;unfold BW at *;show s.lg.length+s.cm+4000<=4000*(s.tk+1);omega⟩
theorem stC{n:Nat}(hE:ExprC d p F n)(hS:SC d p F n)(hR:CallC d p F n):StC d p F n:=by
 intro x W V0 V s c q pr vals X hty hok
 obtain⟨G,hG0⟩:∃G:Rx Rt,G=stX d F (qFQ d F n) c pr (n+1) x vals s:=⟨_,rfl⟩
 rw[<- hG0]
 refine Tri.mono ((show x.v=.agg #[.int .i64 x.op,.string x.s,.slice x.el.p x.el.n x.el.c,.slice x.ll.p x.ll.n x.ll.c,.slice x.xl.p x.xl.n x.xl.c] by unfold S.v;rw[S.row_eq];rfl) ▸ x199 (R:=PS W d p F c q pr G) ?_) fun _ _ h=>h
 unfold w199
 have hF:=X.S.fuel
 refine Tri.mono (c240 hF X.M) ?_
 rintro e1 V1 (⟨hlt,rfl,M1⟩|⟨hge,rfl,rfl⟩)
 rotate_left
 ·refine .inr ⟨_,rfl,PS.bad (s:=s) ?_ X.fr.sub X.M⟩
  rw[hG0];unfold stX;rw[tickX_bad hge];rfl
 refine .inl ⟨rfl,?_⟩
 obtain⟨s1,hs1⟩:∃s1:St,s1={ s with tk:=s.tk+1 }:=⟨_,rfl⟩
 have X1:Sx1 W V0 d p F c q pr vals n 4000 V1 s1:=by rw[hs1];exact X.tick hlt M1
 have hG:G=bodyX d F (qFQ d F n) c pr (n+1) x vals s1:=by rw[hG0];unfold stX;rw[tickX_ok hlt,hs1];rfl
 have hcs:=qGC (F:=F) X.S.procs n
 have okV:∀{V2:Mem} {V0':Mem},W.sub V0'->V0'.sub V2->S.Ok V2 x:=fun h1 h2=>hok.sub (h1.trans h2)
 -- an expression of the statement
 have ex:∀{i:Nat} {a:E} {u:ByteArray} {V2 V0':Mem} {vals':List Int} {s2:St} {m:Nat},x.es[i]?=some a->qAF a=true->qAq d (qAj d pr) a=(u,0)->Sx1 W V0' d p F c q pr vals' n m V2 s2->1000<=m ->
   Tri Tryz.prog 241 #[pv p,pv q,.agg #[.int .i64 a.op,.int .i64 a.n,.string a.s,.slice a.l.p a.l.n a.l.c]] V2 (PX V0' d p F c (evS d (qFQ d F n) c pr vals' a s2)):=fun {i a u V2 V0' vals' s2 m} h0 hv ha X2 hm=>by
  have hp:=qCh hv
  exact hE a u V0' V2 s2 c q pr vals' (X2.cx.le (by omega)) hp.1 ((hok.eOk a (List.mem_of_getElem? h0)).sub X2.fr.sub) ha
 have go:∀{a:E} {u:ByteArray} {V2 V3 V0':Mem} {vals':List Int} {s2 s3:St} {m:Nat} {v:Int},qAF a=true->qAq d (qAj d pr) a=(u,0)->Sx1 W V0' d p F c q pr vals' n (1000+m) V2 s2->evS d (qFQ d F n) c pr vals' a s2=.ok v s3->EM V0' d p F V3 s3 c ->
   Sx1 W V0' d p F c q pr vals' n m V3 s3/\qBO d s3.mm u v/\Gr F 1000 s2 s3:=fun {a u V2 V3 V0' vals' s2 s3 m v} hv ha X2 e M3=>by
  obtain⟨G3,g3,q3⟩:=(qFB (F:=F) (c:=c) X2.S.procs hcs X2.po hv ha X2.G X2.hv).got e
  exact⟨X2.next g3 G3 X2.fr (qAk (fun h=>g3.right h) X2.hv) M3,q3,g3⟩
 unfold bodyX at hG
 cases kindS hty with
 | @set a u t h he hv ht hl hne hf =>
  rw[if_pos h,he,List.getD_cons_zero]at hG
  have h0:x.es[0]?=some a:=by rw[he];rfl
  obtain⟨k1,k3,k4⟩:=esAt (okV X1.fr.sub X1.M.sub) h0
  refine qAM h ⟨k1,by decide,k3,_,_,_,_,k4,PS.bind X1.fr.sub hG (ex h0 hv ht X1 (by omega)) fun v s2 V2 e2 M2 hG2=>?_⟩
  obtain⟨X2,hv2,-⟩:=go (m:=3000) hv ht X1 e2 M2
  obtain⟨fa,fb,hq0,hra0,hrb0⟩:=X2.fr.ex
  have hW2:=X2.fr.sub.trans X2.M.sub
  have hq:=hW2 _ _ hq0
  refine⟨nn,nn,fa,qAd hq 0 1 (by simp),(c242 (hra0.sub hW2)).call ⟨_,rfl,?_⟩⟩
  unfold setX at hG2
  rcases qHX X2.G X2.hv X2.po.vars hl hne with⟨i,g,w,h1,h2,h3,h4,-⟩|⟨i,g,w,h0',h1,h2,h3,h4,-⟩
  ·rw[h1]
   rw[if_pos (by omega),h1,Int.toNat_natCast]at hG2
   have hil:=(List.getElem?_eq_some_iff.1 h3).1
   have hbn:=((hrb0.rows (fun _=>rfl) (by decide):qAc V0 fb 1 (vals.map qAe))).n_eq
   obtain⟨g1,g2,g3,-⟩:=gAt (hrb0.rows (fun _=>rfl) (by decide)) h3
   refine qAM (by omega) ⟨nn,nn,fb,qAd hq 1 1 (by simp),g1,g2,g3,frStore hrb0 M2 hil fun V0' V' ho M'=>?_⟩
   exact PS.ok hG2 ⟨ho.sub,fa,fb,hq0,hra0,ho⟩ M' rfl rfl
  ·rw[h0']
   rw[if_neg (by omega),h1,Int.toNat_natCast]at hG2
   obtain⟨gs,ns,ls,nd,hat,L⟩:=M2.ex
   have hd:=(X2.S.sub X2.fr.sub).ds.sub L.sub
   refine qAB (by decide) ⟨nn,nn,pnn,d.gs,qAd hat 2 1 (by simp[qBM]),(c242 hd.globals).call ⟨_,rfl,?_⟩⟩
   rw[h1]
   refine Tri.mono (c243 M2 (Cx.fit (m:=0) (X2.cx.le (by omega)))) ?_
   rintro _ V5 ⟨rfl,M5⟩
   obtain⟨gs5,ns5,ls5,nd5,hat5,L5⟩:=M5.ex
   obtain⟨g1,g2,g3,-⟩:=gAt (L5.glob.rows (fun _=>rfl) (by decide)) (i:=i) (v:=w) h3
   have hil:=(List.getElem?_eq_some_iff.1 h3).1
   refine⟨rfl,nn,nn,pnn,gs5,qAd hat5 8 1 (by simp[qBM]),g1,g2,g3,L5.setG (i:=i) hil fun V6 L6 hk6=>?_⟩
   refine PS.ok hG2 X2.fr (V0:=V0) (MA.mk M5.p0 ⟨gs5,ns5,ls5,nd5,?_,L6⟩) rfl rfl
   rw[hk6 _ (notBlk hat5 ntE L5.glob (.inl rfl))];exact hat5
 | @put a b u w t h he hv hw ha ht hl hf =>
  rw[if_neg (by omega),if_pos h,he,List.getD_cons_zero,List.getD_cons_succ,List.getD_cons_zero]at hG
  have h0:x.es[0]?=some a:=by rw[he];rfl
  have h1:x.es[1]?=some b:=by rw[he];rfl
  obtain⟨k1,k3,k4⟩:=esAt (okV X1.fr.sub X1.M.sub) h0
  refine qAB (by omega) (qAM h ⟨k1,by decide,k3,_,_,_,_,k4,PS.bind X1.fr.sub hG (ex h0 hv ha X1 (by omega)) fun v s2 V2 e2 M2 hG2=>?_⟩)
  obtain⟨X2,hv2,-⟩:=go (m:=3000) hv ha X1 e2 M2
  obtain⟨l1,l3,l4⟩:=esAt (okV X2.fr.sub X2.M.sub) h1
  refine⟨l1,by decide,l3,_,_,_,_,l4,PS.bind X2.fr.sub hG2 (ex h1 hw ht X2 (by omega)) fun y s3 V3 e3 M3 hG3=>?_⟩
  obtain⟨X3,hv3,g3⟩:=go (m:=2000) hw ht X2 e3 M3
  have hv2:=g3.val hv2
  refine⟨fun hz=>qJi (PS.bad (s:=s3) ?_ X3.fr.sub M3),fun hz=>?_⟩
  ·rw[hG3];unfold putX;rw[if_pos (show v=0 from hz)];rfl
  have hz:¬v=0:=hz
  obtain⟨k,i,j,tt,g,fs,z,rfl,f2,f3,f4,f5,f6,f7,f8,-⟩:=qHJ X3.G hl hv2 hz
  have hG4:G=.ok (vals,none) { s3 with ns:=s3.ns.set k ((j:Int),fs.set i y),lg:=s3.lg++[(2,(k:Int)+1,(i:Int))] }:=by
   rw[hG3];unfold putX
   rw[if_neg hz,show ((k:Int)+1-1).toNat=k by omega,f2]
   simp only
   rw[f5,f6,Int.toNat_natCast];rfl
  refine(c244 (X3.S.sub X3.fr.sub) M3 f2 f3).call ⟨_,rfl,?_⟩
  rw[f6]
  refine Tri.mono (c243 M3 (Cx.fit (m:=0) (X3.cx.le (by omega)))) ?_
  rintro _ V5 ⟨rfl,M5⟩
  obtain⟨gs5,ns5,ls5,nd5,sl5,hat5,L5,hnd5,hI,n1,n2,n3,n4,m1,m2,m3,m4⟩:=nodeAt M5 (k:=k) (i:=i) f2 f8
  have hil:=(List.getElem?_eq_some_iff.1 f8).1
  rw[show ((k:Int)+1-1)=(k:Int) by omega]
  refine⟨rfl,nn,nn,pnn,ns5,qAd hat5 9 1 (by simp[qBM]),hI,n1,n2,n3,qAf n1,_,_,n4,m1,m2,m3,L5.setF hnd5 hil fun V6 L6 hk6=>?_⟩
  refine PS.ok hG4 X3.fr (V0:=V0) (MA.mk M5.p0 ⟨gs5,ns5,ls5,_,?_,L6⟩) rfl rfl
  rw[hk6 _ (notBlk hat5 ntE (L5.fld _ (List.mem_of_getElem? hnd5)) (.inl rfl))];exact hat5
 | @cond a h he hv ht =>
  rw[if_neg (by omega),if_neg (by omega),if_pos h,he,List.getD_cons_zero]at hG
  have h0:x.es[0]?=some a:=by rw[he];rfl
  obtain⟨k1,k3,k4⟩:=esAt (okV X1.fr.sub X1.M.sub) h0
  obtain⟨-,-,-,hlt1,hlt2⟩:=hty.parts
  refine qAB (by omega) (qAB (by omega) (qAM h ⟨k1,by decide,k3,_,_,_,_,k4,PS.bind X1.fr.sub hG (ex h0 hv ht X1 (by omega)) fun v s2 V2 e2 M2 hG2=>?_⟩))
  obtain⟨X2,hv2,-⟩:=go (m:=3000) hv ht X1 e2 M2
  have hv2:=qBb.1 hv2
  have fin:∀{l:List S} {sl:Sl},(∀y∈l,TyS d pr y)->(∀y∈l,S.Ok W y)->qAc W sl 5 (l.map S.row)->G=qFQ d F n c pr l vals s2->Tri Tryz.prog 164 #[pv p,pv q,.slice sl.p sl.n sl.c] V2 fun e' V'=>(∃b v,e'=.returned (.agg #[.bool b,.int .i64 v])/\PS W d p F c q pr G (.returned (.agg #[.bool b,.int .i64 v])) V')∨∃ch,e'=.panicked ch/\PS W d p F c q pr G e' V':=fun {l sl} t1 t2 t3 hGl =>
   PS.split (hS l W V0 V2 s2 c q pr vals sl (X2.le (by omega)) t1 t2 t3) (fun k s3 c' V3 e3 M3=>by rw[hGl,e3];exact⟨rfl,c',M3⟩) fun rt s3 V0' V3 e3 hf3 M3=>PS.ok (hGl.trans e3) hf3 M3 rfl rfl
  refine⟨fun hz=>fin hlt1 hok.lOk hok.lRows ?_,fun hz=>fin hlt2 hok.xOk hok.xRows ?_⟩
  ·have hz:v=1:=hz
   rw[hG2,if_neg (by omega)]
  ·have hz:¬v=1:=hz
   rw[hG2,if_pos (by omega)]
 | @loop a h he hv ht =>
  rw[if_neg (by omega),if_neg (by omega),if_neg (by omega),if_pos h,he,List.getD_cons_zero]at hG
  have h0:x.es[0]?=some a:=by rw[he];rfl
  obtain⟨-,-,-,hlt1,-⟩:=hty.parts
  refine qAB (by omega) (qAB (by omega) (qAB (by omega) (qAM h ?_)))
  refine⟨fun m xs V2=>xs=[]/\∃V0' vals' s',Sx1 W V0' d p F c q pr vals' n 1000 V2 s'/\F<m+s'.tk/\G=whX d F (qFQ d F n) c pr a x.ls m vals' s',n+1,⟨rfl,V0,vals,s1,X1.le (by omega),by have:=X1.n;omega,hG⟩,?_⟩
  rintro m V2 ⟨-,V0',vals',s',X',hm,hG'⟩ J hJ
  obtain⟨m,rfl⟩:∃m',m=m'+1:=⟨m-1,by have:=X'.tk;omega⟩
  rw[whX]at hG'
  obtain⟨k1,k3,k4⟩:=esAt (okV X'.fr.sub X'.M.sub) h0
  refine⟨k1,by decide,k3,_,_,_,_,k4,PS.bind X'.fr.sub hG' (ex h0 hv ht X' (by omega)) fun v s2 V3 e2 M2 hG2=>?_⟩
  obtain⟨X2,hv2,g2⟩:=go (m:=0) hv ht X' e2 M2
  have hv2:=qBb.1 hv2
  refine⟨fun hz=>?_,fun hz=>?_⟩
  rotate_left
  ·have hz:¬v=1:=hz
   rw[if_pos (by omega)]at hG2
   exact PS.ok hG2 X2.fr X2.M rfl rfl
  have hz:v=1:=hz
  rw[if_neg (by omega)]at hG2
  have P:=hcs c pr x.ls vals' s2 X2.po hlt1 X2.G X2.hv
  refine PS.split (hS x.ls W V0' V3 s2 c q pr vals' x.ll X2 hlt1 hok.lOk hok.lRows) (fun k s3 c' V4 e3 M3=>?_) fun rt s3 V0'' V4 e3 hf3 M3=>?_
  ·rw[hG2,e3];exact⟨rfl,c',M3⟩
  obtain⟨G3,g3,q3⟩:=P.got e3
  have X3:=X2.next (m:=0) (k:=0) g3 G3 hf3 q3.1 M3
  rw[e3]at hG2
  cases hrt:rt.2 with
  | some z =>
   have hG3:G=.ok rt s3:=by rw[hG2];show (match rt.2 with|some _=>_|none=>_)=_;rw[hrt]
   exact⟨fun _=>PS.ok hG3 hf3 M3 (by rw[hrt]) (by rw[hrt]),fun h=>absurd rfl h⟩
  | none =>
   have hG3:G=(qKa F s3).bind fun _ st=>whX d F (qFQ d F n) c pr a x.ls m rt.1 st:=by rw[hG2];show (match rt.2 with|some _=>_|none=>_)=_;rw[hrt]
   refine⟨(fun h=>by cases h),fun _=>Tri.mono (c240 hF M3) ?_⟩
   rintro e4 V5 (⟨hlt',rfl,M5⟩|⟨hge,rfl,rfl⟩)
   ·refine .inl ⟨rfl,hJ m _ _ (by omega) ⟨rfl,V0'',rt.1,{ s3 with tk:=s3.tk+1 },(X3.tick' hlt' M5).le (by omega),?_,by rw[hG3,tickX_ok hlt'];rfl⟩⟩
    have:=g2.tk;have:=g3.tk
    show F<m+(s3.tk+1);omega
   ·exact .inr ⟨_,rfl,PS.bad (s:=s3) (by rw[hG3,tickX_bad hge];rfl) hf3.sub M3⟩
 | ret0 h he hr =>
  rw[if_neg (by omega),if_neg (by omega),if_neg (by omega),if_neg (by omega),if_pos h,he]at hG
  have hn:=(okV X1.fr.sub X1.M.sub).eRows.n_eq
  rw[he]at hn
  refine qAB (by omega) (qAB (by omega) (qAB (by omega) (qAB (by omega) (qAM h (qAM (by rw[hn];rfl) ?_)))))
  exact PS.ok hG X1.fr X1.M rfl rfl
 | @ret1 a u h he hv ht hr hf =>
  rw[if_neg (by omega),if_neg (by omega),if_neg (by omega),if_neg (by omega),if_pos h,he]at hG
  have h0:x.es[0]?=some a:=by rw[he];rfl
  obtain⟨k1,k3,k4⟩:=esAt (okV X1.fr.sub X1.M.sub) h0
  refine qAB (by omega) (qAB (by omega) (qAB (by omega) (qAB (by omega) (qAM h (qAB (by omega) ⟨k1,by decide,k3,_,_,_,_,k4,PS.bind X1.fr.sub hG (ex h0 hv ht X1 (by omega)) fun v s2 V2 e2 M2 hG2=>?_⟩)))))
  exact PS.ok hG2 X1.fr M2 rfl rfl
 | @call a pr' i h he hv ho hc =>
  rw[if_neg (by omega),if_neg (by omega),if_neg (by omega),if_neg (by omega),if_neg (by omega),if_pos h,he,List.getD_cons_zero]at hG
  unfold evS at hG
  rw[evX_eq,cX7 ho,hc.idx]at hG
  have h0:x.es[0]?=some a:=by rw[he];rfl
  obtain⟨k1,k3,k4⟩:=esAt (okV X1.fr.sub X1.M.sub) h0
  have hp:=qCh hv
  have hea:=hok.eOk a (List.mem_of_getElem? h0)
  refine qAB (by omega) (qAB (by omega) (qAB (by omega) (qAB (by omega) (qAB (by omega) (qAM h ⟨k1,by decide,k3,_,_,_,_,k4,PS.bind X1.fr.sub hG (callC hR (X1.cx.le (by omega)) (hea.sub X1.fr.sub) hc hp.1 fun b hb u W' V2 s2 hW' X2 ht=>?_) fun v s2 V2 e2 M2 hG2=>?_⟩)))))
  ·exact hE b u W' V2 s2 c q pr vals X2 (hp.1.kids b hb) (((hea.sub X1.fr.sub).kids b hb).sub hW') ht
  ·exact PS.ok hG2 X1.fr M2 rfl rfl
end
theorem own_zero{V0 V:Mem}{e:TypeId}{sz:Nat}{s:Sl}{vs:List Value}(h:Sx.Own V0 V e sz s vs):Sx.Own V0 V e sz ⟨s.p,0,s.c⟩ []:=⟨h.sub,by simp,by
 rcases h.at_ with⟨h1,h2,h3⟩|⟨g,cur,h1,h2,h3,h4,h5,h6,h7⟩
 ·simp_all
 simp_all⟩
theorem own_to{V0 V V0' V':Mem}{e:TypeId}{sz:Nat}{s:Sl}{vs:List Value}(h:Sx.Own V0 V e sz s vs)(hs:V0'.sub V')(hk:∀g o,Blk s g->V0 g=none->V g=some o->V0' g=none/\V' g=some o):Sx.Own V0' V' e sz s vs:=⟨hs,h.len,by
 rcases h.cases0 with h1|⟨hc,g,cur,h1,h2,h3,h4⟩
 ·exact .inl h1
 ·exact .inr ⟨g,cur,h1,(hk g _ ⟨hc,h1⟩ h2 h3).1,(hk g _ ⟨hc,h1⟩ h2 h3).2,h4⟩⟩
theorem own_p0{V0 V:Mem}{e:TypeId}{sz:Nat}{s:Sl}{vs:List Value}(h:Sx.Own V0 V e sz s vs)(hc:s.c≠0)(m:Nat):qAa s.p (0*m)=s.p:=by
 rw[Nat.zero_mul]
 rcases h.at_ with⟨h1,h2,h3⟩|⟨g,cur,h1,-⟩
 ·omega
 ·rw[h1];rfl
theorem az31{V0 V:Mem}{ty:TypeId}{x y:Operand}{vals:Operand->Value}{s:Sl}{n:Nat}{vs:List Int}(hx:vals x=.slice s.p s.n s.c)(hy:vals y=.int .i64 n)(own:Sx.Own V0 V 3 1 s (vs.flatMap qAe))(hfit:s.n+n<=2147483648){q:Value->Mem->Prop}
  (hq:∀(s':Sl) V',Sx.Own V0 V' 3 1 s' ((vs++List.replicate n (0:Int)).flatMap qAe)->q (.slice s'.p s'.n s'.c) V'):GenK Tryz.prog (.call { callee:=.builtin .append,args:=#[x,y],argTypes:=#[31,3] }) ty vals V q :=
 Go.Sx.GenK.appendZ (z:=.int .i64 0) (i:=ti 3) (k:=.i64) Tryz.underlying31 Tryz.underlying3 (by kernel_rfl) (by kernel_rfl) (by kernel_rfl) (by kernel_rfl) (by decide) (of_decide_eq_true (by kernel_rfl)) (fun u hu=>by
  have hc:(Value.int .i64 0).cells=#[Value.int .i64 0]:=by rfl
  rw[hc]at hu;simp at hu;subst hu;rfl) hx hy own hfit fun s' V' h=>hq s' V' (by
  rw[List.flatMap_append]
  have e:(List.replicate n (0:Int)).flatMap qAe=(Builtin.zeroCells (Value.int .i64 0).cells n).toList:=by rw[qJU,qBe,List.map_replicate]
  rw[e];exact h)
theorem az23{V0 V:Mem}{ty:TypeId}{x y:Operand}{vals:Operand->Value}{s:Sl}{n:Nat}{vs:List Value}(hx:vals x=.slice s.p s.n s.c)(hy:vals y=.int .i64 n)(own:Sx.Own V0 V 101 2 s vs)(hfit:s.n+n<=2147483648){q:Value->Mem->Prop}
  (hq:∀(s':Sl) V' ws,Sx.Own V0 V' 101 2 s' ws->q (.slice s'.p s'.n s'.c) V'):GenK Tryz.prog (.call { callee:=.builtin .append,args:=#[x,y],argTypes:=#[23,3] }) ty vals V q :=
 Go.Sx.GenK.appendZ (z:=.agg #[.string (qAm []),.string (qAm [])]) (i:=ti 101) (k:=.i64) Tryz.underlying23 Tryz.underlying3 (by kernel_rfl) (by kernel_rfl) (by kernel_rfl) (by kernel_rfl) (by decide) (of_decide_eq_true (by kernel_rfl)) (fun u hu=>by
  have hc:(Value.agg #[.string (qAm []),.string (qAm [])]).cells=#[.string (qAm []),.string (qAm [])]:=by rfl
  rw[hc]at hu;simp at hu;subst hu;rfl) hx hy own hfit fun s' V' h=>hq s' V' _ h
theorem c198{V:Mem}{n:Nat}(hn:n<=2147483648):Tri Tryz.prog 198 #[.slice none 0 0,.int .i64 n] V fun e V'=>∃s:Sl,e=.returned (.slice s.p s.n s.c)/\Sx.Own V V' 101 2 s []:=by
 refine x198 (a:=⟨none,0,0⟩) (b:=n) ?_
 unfold w198
 have e:(n:Int)-(((0:Nat):Int)-((0:Nat):Int))=n:=by omega
 refine qAB (by omega) ⟨⟨by simp,by simp⟩,⟨by rw[e];omega,by rw[e];omega⟩,fun h=>⟨⟨by omega,by omega,by omega⟩,?_⟩,fun h=>⟨⟨none,0,0⟩,rfl,Own.nil (Mem.sub.refl _) _ _⟩⟩
 refine az23 (s:=⟨none,0,0⟩) (n:=n) (vs:=[]) (V0:=V) rfl (by rfl) (Own.nil (Mem.sub.refl _) _ _) (by simpa using hn) fun s' V' ws ho=>⟨s',rfl,⟨by omega,by omega,by simp⟩,⟨s'.p,0,s'.c⟩,?_,own_zero ho⟩
 by_cases hc:s'.c=0
 ·simp[hc]
 ·rw[if_neg (by omega),show ((0:Int).toNat*2)=0*2 from rfl,own_p0 ho hc];simp
theorem c163{V:Mem}{sl a b:Sl}{xs ys:List Fld}(h:qAc V sl 1 ([a,b].map fun s:Sl=>[s.v]))(ha:qAc V a 2 (xs.map Fld.row))(hb:qAc V b 2 (ys.map Fld.row))(hx:xs.length<=100)(hy:ys.length<=100) :
  Tri Tryz.prog 163 #[sl.v] V fun e V'=>∃s:Sl,e=.returned (.slice s.p s.n s.c)/\Sx.Own V V' 101 2 s ((xs++ys).flatMap Fld.row):=by
 have han:=ha.n_eq
 have hbn:=hb.n_eq
 refine x163 ?_
 unfold w163
 refine qFi (mk:=fun k:Int=>.int .i64 k) (b0:=0) qGk 2 (fun i k V1=>V1=V/\k=(((([a,b].take i).map (fun s:Sl=>s.n)).sum:Nat):Int)) ⟨rfl,rfl⟩ ?_
 rintro i k V1 J hi ⟨rfl,rfl⟩ hJ
 refine⟨fun hlt=>?_,fun hge=>?_⟩
 ·obtain⟨u,hum,hu,hdr,hil,hp,hz,hrow⟩:=h.get hlt
  have hun:u.n<=100:=by
   grind
  have hs:(([a,b].take (i+1)).map (fun s:Sl=>s.n)).sum=(([a,b].take i).map (fun s:Sl=>s.n)).sum+u.n:=by grind
  have hs2:(([a,b].take i).map (fun s:Sl=>s.n)).sum<=200:=by
   rcases (show i=0∨i=1 by grind) with rfl|rfl
   ·simp
   ·simp;omega
  refine⟨hp,hz,hlt,u,hrow,⟨by omega,by omega⟩,qAB (by omega) ⟨h.succ hlt,hJ hil _ _ ⟨rfl,by omega⟩⟩⟩
 ·have h2:=(h.done hge).2
  have hi2:i=2:=by grind
  subst hi2
  refine Tri.mono (c198 (by simp;omega)) ?_
  rintro _ V2 ⟨s0,rfl,ho0⟩
  refine⟨s0,rfl,qFi (mk:=fun s:Sl=>.slice s.p s.n s.c) (b0:=s0) qBA 2 (fun j s V3=>Sx.Own V1 V3 101 2 s ((([xs,ys].take j).flatten).flatMap Fld.row)) ho0 ?_⟩
  rintro j s V3 J1 hj ho hJ1
  have h':=h.sub ho.sub
  refine⟨fun hlt=>?_,fun hge=>?_⟩
  ·obtain⟨u,hum,hu,hdr,hil,hp,hz,hrow⟩:=h'.get hlt
   obtain⟨zs,hzs,hzr,hzl⟩:∃zs,[xs,ys][j]?=some zs/\qAc V3 u 2 (zs.map Fld.row)/\([xs,ys].take j).flatten.length+zs.length<=2147483648:=by
    rcases (show j=0∨j=1 by omega) with rfl|rfl
    ·simp at hu;subst hu;exact⟨xs,rfl,ha.sub ho.sub,by simp;omega⟩
    ·simp at hu;subst hu;exact⟨ys,rfl,hb.sub ho.sub,by simp;omega⟩
   refine⟨hp,hz,hlt,u,hrow,app23 (s:=s) (u:=u) (xs:=([xs,ys].take j).flatten) (ys:=zs) rfl rfl ho hzr hzl fun s' V' ho'=>⟨s',rfl,h'.succ hlt,hJ1 hil _ _ ?_⟩⟩
   grind
  ·have h3:=(h'.done hge).2
   grind
theorem runC{d:Ds}{p F n:Nat}(H:SC d p F n):CallC d p F n:=by
 intro V0 V s c i pr args l hS hpr G ha hl M htk hn hw
 obtain⟨G',hG⟩:∃G':Rx Int,G'=qEh d (qFQ d F n) c i args s:=⟨_,rfl⟩
 rw[<- hG]
 have hpm:=List.mem_of_getElem? hpr
 have hpo:=hS.procs pr hpm
 have hok:=hS.ds.procsOk pr hpm
 refine Tri.mono (x116 (R:=PX V0 d p F c G') ?_) fun _ _ h=>h
 unfold w116
 obtain⟨gs,ns,ls,nd,hat,L⟩:=M.ex
 unfold qEh at hG
 refine⟨nn,nn,_,qAd hat 12 1 (by simp[qBM]),fun h2=>qJi (PX.bad (by grind) M),fun h2=>?_⟩
 rw[if_neg (by omega),Int.toNat_natCast,hpr]at hG
 refine⟨nn,nn,_,qAd hat 12 1 (by simp[qBM]),⟨by omega,by omega⟩,nn,nn,StT.at2 (off:=12) hat (by simp[qBM]) ?_⟩
 have M1:EM V0 d p F (V.set p (.cells (qBM d F s.tk ((c+1:Nat):Int) s.cm gs ns ls).toArray 128 (0,0))) s (c+1):=MA.set (row':=qBM d F s.tk ((c+1:Nat):Int) s.cm) ntE M.p0 hat L rfl rfl rfl rfl
 obtain⟨V1,hV1⟩:∃V1,V1=V.set p (.cells (qBM d F s.tk ((c+1:Nat):Int) s.cm gs ns ls).toArray 128 (0,0)):=⟨_,rfl⟩
 rw[<- hV1]at M1
 show qAr _ _ (V.set p (.cells (qBM d F s.tk ((c+1:Nat):Int) s.cm gs ns ls).toArray 128 (0,0))) _
 rw[<- hV1]
 intro b1 hb1
 obtain⟨V2,hV2⟩:∃V2,V2=V1.set b1 (.cells #[.slice pr.ps.p pr.ps.n pr.ps.c,.slice pr.ls.p pr.ls.n pr.ls.c] 23 (0,0)):=⟨_,rfl⟩
 have s12:V1.sub V2:=hV2 ▸ Mem.sub_new hb1 _
 have s02:=M1.sub.trans s12
 have hrow:qAc V2 ⟨some ⟨b1,0,none⟩,2,2⟩ 1 ([pr.ps,pr.ls].map fun s:Sl=>[s.v]):=qAc.cells (xs:=[pr.ps,pr.ls]) (row:=fun s:Sl=>[s.v]) (by rw[hV2];exact Mem.set_same _ _ _) rfl (fun _=>rfl) rfl (by simp)
 show Tri _ _ #[.slice (sa b1) 2 2] (V1.set b1 (.cells #[.slice pr.ps.p pr.ps.n pr.ps.c,.slice pr.ls.p pr.ls.n pr.ls.c] 23 (0,0))) _
 rw[<- hV2]
 have hln:=hpo.lens
 refine Tri.mono (c163 hrow (hok.params.sub s02) (hok.locals.sub s02) (by omega) (by omega)) ?_
 rintro _ V3 ⟨s3,rfl,o3⟩
 have s03:=s02.trans o3.sub
 have hal:=(qAC.1 ha).1
 refine⟨s3,rfl,Tri.mono (c42 (hl.sub s03) (by omega)) ?_⟩
 rintro _ V4 ⟨s4,rfl,o4⟩
 have h4n:=o4.n_eq (fun _=>rfl) (by decide)
 have hlsn:=hok.locals.n_eq
 refine⟨s4,rfl,az31 (s:=s4) (n:=pr.ls.n) rfl rfl o4 (by omega) fun s5 V5 o5=>⟨s5,rfl,fun b2 hb2=>?_⟩⟩
 rw[hlsn]at o5
 obtain⟨V6,hV6⟩:∃V6,V6=V5.set b2 (.cells #[.slice s3.p s3.n s3.c,.slice s5.p s5.n s5.c] 243 (0,0)):=⟨_,rfl⟩
 have s56:V5.sub V6:=hV6 ▸ Mem.sub_new hb2 _
 have s36:=o5.sub.trans s56
 have s16:=s12.trans (o3.sub.trans s36)
 obtain⟨W,w0,w6,MW,hWn⟩:=M1.after s16
 show Tri _ _ #[pv p,pv b2,.slice pr.bs.p pr.bs.n pr.bs.c] (V5.set b2 (.cells #[.slice s3.p s3.n s3.c,.slice s5.p s5.n s5.c] 243 (0,0))) _
 rw[<- hV6]
 have n1:∀{b:Nat},V2 b=none->V1 b=none:=fun {b} h=>by
  cases hc:V1 b with
  | none=>rfl
  | some o=>rw[s12 _ _ hc]at h;cases h
 have n3:∀{b:Nat},V3 b=none->V2 b=none:=fun {b} h=>by
  cases hc:V2 b with
  | none=>rfl
  | some o=>rw[o3.sub _ _ hc]at h;cases h
 have n5:V3 b2=none:=by
  cases hc:V3 b2 with
  | none=>rfl
  | some o=>rw[o5.sub _ _ hc]at hb2;cases hb2
 have hbk:∀{b:Nat},Blk s5 b->V3 b=none:=fun h=>Own.none0 o5 h
 have hws:V0.sub (W.but s5):=fun b o hb=>Mem.but_at (w0 _ _ hb) fun hk=>by have:=hbk hk;rw[s03 _ _ hb]at this;cases this
 have o5':Sx.Own (W.but s5) W 3 1 s5 ((args++List.replicate pr.locals.length (0:Int)).flatMap qAe):=own_to o5 (Mem.but_sub _ _) fun g o hk h0 h1=>⟨by grind [Mem.but],hWn _ _ (n1 (n3 h0)) (s56 _ _ h1)⟩
 have o3':Sx.Own (fun _=>none) (W.but s5) 101 2 s3 ((pr.params++pr.locals).flatMap Fld.row):=own_to o3 (fun _ _ h=>by cases h) fun g o hk h0 h1=>⟨rfl,Mem.but_at (hWn _ _ (n1 h0) (s36 _ _ h1)) fun hk'=>by simp_all⟩
 have hfr:W b2=some (.cells #[s3.v,s5.v] 243 (0,0)):=hWn _ _ (n1 (n3 n5)) (by rw[hV6];exact Mem.set_same _ _ _)
 have nb2:¬Blk s5 b2:=fun hk=>by
  grind [Own.some]
 have FR:FrM (W.but s5) W b2 pr (args++List.replicate pr.locals.length 0):=⟨Mem.but_sub _ _,s3,s5,Mem.but_at hfr nb2,o3'.rows (fun _=>rfl) (by decide),o5'⟩
 have hv:=qEL ha (qFo G.valid fun f hf=>hpo.vars f (List.mem_append_right _ hf))
 have hbody:qAc (W.but s5) pr.bs 5 (pr.body.map S.row):=hok.body.sub hws
 refine PS.split (H pr.body (W.but s5) W V6 s (c+1) b2 pr _ pr.bs ⟨hS.sub hws,FR,hpo,G,hv,MW,htk,hn,hw⟩ hpo.body (fun x hx=>(hok.stmts x hx).sub hws) hbody) (fun k s2 c' V7 e2 M7=>?_) fun rt s2 W7 V7 e2 f7 M7=>?_
 ·rw[hG];show PX V0 d p F c ((qFQ d F n (c+1) pr pr.body _ s).bind _) _ _
  rw[e2];exact⟨rfl,c',M7.narrow hws⟩
 ·have M8:=M7.narrow (hws.trans f7.sub)
  obtain⟨gs7,ns7,ls7,nd7,hat7,L7⟩:=M8.ex
  refine⟨nn,nn,_,qAd hat7 12 1 (by simp[qBM]),⟨by omega,by omega⟩,nn,nn,StT.at2 (off:=12) hat7 (by simp[qBM]) ?_⟩
  rw[hG];show PX V0 d p F c ((qFQ d F n (c+1) pr pr.body _ s).bind _) _ _
  rw[e2]
  refine⟨rfl,?_⟩
  have e:(((c+1:Nat):Int)-1)=(c:Int):=by omega
  rw[e]
  exact MA.set (row':=qBM d F s2.tk c s2.cm) ntE M8.p0 hat7 L7 rfl rfl rfl rfl
theorem allC(d:Ds)(p F:Nat):∀n,SC d p F n
 | 0=>fun l W V0 V s c q pr vals sl X _ _ _=>absurd X.n (by have:=X.tk;omega)
 | n+1=>stsC (stC (exprC (runC (allC d p F n))) (allC d p F n) (runC (allC d p F n)))
end Go.Proofs
namespace Go.Proofs
open Go Go.Sx
section
variable{d:Ds}{F F' b:Nat}
def Sext(s t:St):Prop:=(∃l,t.lg=s.lg++l)/\s.tk<=t.tk/\s.ns.length<=t.ns.length
def RE{α:Type}(s:St)(r:Rx α):Prop:=Sext s r.st
end
end Go.Proofs
namespace Go.Proofs
open Go Go.Sx
section
variable{d:Ds}{F F':Nat}
def Mm.plain(m:Mm):List Int×List (Int×List Int):=(m.globals,m.nodes.map fun n=>(n.ty,n.f))
def qBV(m:Mm):St:=⟨m.globals,m.nodes.map fun n=>(n.ty,n.f),0,0,[]⟩
theorem St.plain(s:St):s.mm.plain=(s.g,s.ns):=by
 unfold Mm.plain St.mm
 simp[Function.comp_def]
theorem qEP{m m':Mm}(h:m.plain=m'.plain){i:Nat}{x:Nd}(hx:m.nodes[i]?=some x):∃y,m'.nodes[i]?=some y/\y.ty=x.ty/\y.f=x.f:=by
 have h2:(m.nodes.map fun n=>(n.ty,n.f))=m'.nodes.map fun n=>(n.ty,n.f):=(Prod.mk.inj h).2
 have:(m'.nodes.map fun n=>(n.ty,n.f))[i]?=some (x.ty,x.f):=by grind
 simp_all
theorem qDA{m m':Mm}(h:m.plain=m'.plain):m.nodes.length=m'.nodes.length:=by
 have h2:(m.nodes.map fun n=>(n.ty,n.f))=m'.nodes.map fun n=>(n.ty,n.f):=(Prod.mk.inj h).2
 have:=congrArg List.length h2
 simpa using this
theorem qDS{m m':Mm}(h:m.plain=m'.plain)(hv:qAs d m=true):qAs d m'=true:=by
 obtain⟨p1,p2,p3,p4,p5⟩:=qAh hv
 have hl:=qDA h
 have hg:m.globals=m'.globals:=(Prod.mk.inj h).1
 have r:∀{t v},qAt d m t v=true->qAt d m' t v=true:=fun hr=>qGG (by omega) (fun i x hx=>by
  grind [qEP]) hr
 grind [qFO,qAk,List.mem_iff_getElem?,qEP,List.mem_of_getElem?,qDg]
theorem qEM(m:Mm):(qBV m).mm.plain=m.plain:=St.plain _
theorem qKL{m:Mm}(G:qAx d m):qAx d (qBV m).mm:=⟨G.valid,G.chk,qDS (qEM m).symm G.mem⟩
theorem qDV{m m':Mm}(h:m.plain=m'.plain){t:ByteArray}{v:Int}(hr:qAt d m t v=true):qAt d m' t v=true:=qGG (by rw[qDA h];omega) (fun i x hx=>by
 grind [qEP]) hr
def outC:Rx Int->Int | .ok _ _=>0 | .bad c _=>c
def outV:Rx Int->Int | .ok v _=>v | .bad _ _=>0
def qBa(l:List (Int×Int×Int)):Nat:=(l.filter fun a=>decide (0<a.2.1)).length
def alN(l:List (Int×Int×Int)):Nat:=(l.filter fun a=>decide (a.1=3)).length
theorem qHU(a:Int×Int×Int)(l:List (Int×Int×Int)):alN (a::l)=(if a.1=3 then 1 else 0)+alN l:=by
 grind [alN]
theorem LgOk.len{n m:Nat}{l:List (Int×Int×Int)}(h:LgOk n l m):m=n+alN l:=by
 induction h with
 | nil=>rfl
 | @acc n m k a f l hk _ _ _ _ ih=>rw[qHU,if_neg (by omega)];omega
 | alloc _ _ ih=>rw[qHU,if_pos rfl];omega
theorem LgOk.at_{n m:Nat}{l:List (Int×Int×Int)}(h:LgOk n l m):∀(i:Nat) a,l[i]?=some a->(a.1=1∨a.1=2∨a.1=3)/\(a.1=3->a.2.1=((n+alN (l.take i):Nat):Int)+1)/\(a.1≠3->a.2.1<=((n+alN (l.take i):Nat):Int))/\0<=a.2.1/\0<=a.2.2:=by
 induction h with
 | nil=>simp_all
 | @acc n m k x f l hk h0 h1 h2 _ ih =>
  intro i a hi
  cases i with
  | zero =>
   grind
  | succ i =>
   have:=ih i a (by simpa using hi)
   rwa [List.take_succ_cons,qHU,if_neg (by omega),Nat.zero_add]
 | @alloc n m f l h2 _ ih =>
  intro i a hi
  cases i with
  | zero =>
   simp only[List.getElem?_cons_zero,Option.some.injEq]at hi
   subst hi
   exact⟨.inr (.inr rfl),fun _=>rfl,fun h=>absurd rfl h,by grind,h2⟩
  | succ i =>
   have:=ih i a (by simpa using hi)
   rwa [List.take_succ_cons,qHU,if_pos rfl,<- Nat.add_assoc]
end
end Go.Proofs
namespace Go.Proofs
open Go Go.Sx
attribute [local irreducible] Go.Sx.Tri
theorem g174:IdxP 174 Nd.row Nd.v 2:=by
 intro V l xs g first caps hg St Hit hrows h0 hp
 refine x174 (a:=l) (b:=.func (.func g) first.toArray caps.toArray) ?_
 unfold w174
 refine qAI xs.length St h0 ?_
 intro i b V1 J hi hs hJ
 have h:=hrows i V1 hs
 refine⟨fun hlt=>?_,fun hge=>?_⟩
 ·obtain⟨x,hm,hx,hd,hl,hp0,hz,hrow⟩:=h.get hlt
  refine⟨hp0,hz,hlt,_,_,hrow,g,_,_,rfl,hg,Tri.mono (hp i x V1 hx hs) ?_⟩
  rintro e V2 ⟨b,rfl,h1,h2⟩
  exact⟨b,rfl,fun hb=>.inl ⟨i,rfl,h1 hb⟩,fun hb=>⟨h.succ hlt,hJ hl _ _ (h2 (by simpa using hb))⟩⟩
 ·have e:i=xs.length:=by have:=(h.done hge).2;omega
  simp_all
theorem g128:ConP 128 Nd.row Nd.v 2:=conG g174 x128
theorem c128:ConC 128 Nd.row Nd.v 2:=conC g128
theorem qFm(w:World):(zeroValue 3).run Tryz.prog w=.ok (.int .i64 0) w:=by kernel_rfl
def pmap(d:Ds)(i:Nat)(k:ByteArray):Option Value:=if 0<=qDp d k/\qDp d k<(i:Int) then some (.int .i64 (qDp d k)) else none
def tmap(d:Ds)(k:ByteArray):Option Value:=if qBr d k=true then some (.int .i64 (qDp d k)) else none
section
variable{V:Mem}{d:Ds}{m:Mm}{b:Nat}
theorem idxT_le{i:Nat}{x:Ty}(hx:d.types[i]?=some x):0<=qDp d x.name/\qDp d x.name<=(i:Int):=by
 unfold qDp
 rcases qBd (fun t:Ty=>decide (t.name=x.name)) d.types with⟨-,-,h⟩|⟨j,y,h1,h2,-,h4,-,-,-,h5⟩
 ·grind
 ·rw[h1]
  refine⟨by omega,?_⟩
  have hji:¬i<j:=fun hlt=>by
   have:=List.any_eq_false.1 h5 x (List.mem_take_iff_getElem.2 ⟨i,by omega,(List.getElem?_eq_some_iff.1 hx).2⟩)
   simp_all
  omega
theorem idxT_at{k:ByteArray}{i:Nat}(h:qDp d k=(i:Int)):∃x,d.types[i]?=some x/\x.name=k:=by
 unfold qDp at h
 rcases qBd (fun t:Ty=>decide (t.name=k)) d.types with⟨h1,-⟩|⟨j,y,h1,h2,-,h4,h5,-⟩
 ·omega
 grind
theorem pmap_all{k:ByteArray}(i:Nat)(hi:d.types.length<=i):pmap d i k=tmap d k:=by
 unfold pmap tmap
 rcases qGR d k with⟨h1,h2⟩|⟨h1,h2⟩
 ·grind
 ·obtain⟨j,hj⟩:∃j:Nat,qDp d k=(j:Int):=⟨(qDp d k).toNat,by omega⟩
  obtain⟨x,hx,-⟩:=idxT_at hj
  grind
theorem c124{s:ByteArray}:PP 124 [.string s] V (.bool (decide (s=qAW)||decide (s=qAu))):=by
 refine x124 ?_
 unfold w124
 refine⟨fun h=>⟨by grind [qAW],rfl⟩,fun h=>⟨by rw[decide_eq_false (show ¬s=qAW from h)];rfl,rfl⟩⟩
theorem c125{s:ByteArray}(h:qBk V b (tmap d)):PP 125 [.map (some b),.string s] V (.bool (qBr d s)):=by
 refine x125 ?_
 unfold w125
 refine qBv.str Tryz.underlying158 Tryz.underlying9 qFm h ?_
 unfold tmap
 cases hn:qBr d s with
 | true=>simp_all
 | false=>simp_all
theorem c123{p t:Nat}(hp:V p=some (cell (.map (some b)) t))(h:qBk V b (tmap d)){f:Fld}:PP 123 [f.v,pv p] V (.bool (!qBl d f.ty)):=by
 refine x123 ?_
 unfold w123
 refine c124.call ⟨_,rfl,fun h1=>?_,fun h1=>⟨some b,qBD hp,(c125 h).call ⟨_,rfl,?_,rfl⟩⟩⟩
 ·unfold qBl;grind
 grind [qBl,qAW,qAu]
theorem c121{p t:Nat}(hp:V p=some (cell (.map (some b)) t))(h:qBk V b (tmap d)){l:Sl}{xs:List Fld}(hr:qAc V l 2 (xs.map Fld.row)):PP 121 [l.v,pv p] V (.bool (qBy d xs)):=by
 refine x121 ?_
 unfold w121
 refine(c122 (first:=[]) (caps:=[pv p]) hr Tryz.call123 (fun f=>!qBl d f.ty) (fun f _=>c123 hp h)).call ⟨_,rfl,?_,rfl⟩
 grind [qBy]
theorem c127{p q t t2:Nat}(hp:V p=some (cell (.map (some b)) t))(hq:V q=some (cell (.func (.func 121) #[] #[pv p]) t2))(h:qBk V b (tmap d)){y:Ty}(hy:Ty.Ok V y) :
  PP 127 [y.v,pv q] V (.bool (!qBy d y.fields)):=by
 refine x127 ?_
 unfold w127
 exact⟨.func (.func 121) #[] #[pv p],rfl,qBD hq,121,_,_,rfl,Tryz.call121,(c121 hp h hy.fields).callv (first:=[]) (caps:=[pv p]) ⟨_,rfl,rfl,rfl⟩⟩
theorem qCj:hasT d=true↔qAE d=true/\qBy d d.globals=true/\(∀(i:Nat) (x:Ty),d.types[i]?=some x->qDp d x.name=(i:Int))/\∀x∈d.types,qBy d x.fields=true:=by
 unfold hasT
 rw[Bool.and_eq_true,Bool.and_eq_true,qDk,and_assoc]
 refine and_congr_right fun _=>and_congr_right fun _=>⟨fun h=>⟨fun i x hx=>?_,fun x hx=>?_⟩,fun h i x hx=>?_⟩
 ·grind
 ·obtain⟨i,hi,rfl⟩:=List.mem_iff_getElem.1 hx
  have:=h i _ (List.getElem?_eq_getElem hi)
  simp_all
 grind
def TyM(V':Mem)(d:Ds)(mo:Option Nat):Prop:=(hasT d=true/\∃b,mo=some b/\qBk V' b (tmap d))∨(¬hasT d=true/\mo=none)
theorem c78[Tab V](h:Ds.Ok V d):Tri Tryz.prog 78 #[d.v] V fun r V'=>∃mo,r=.returned (.map mo)/\V.sub V'/\TyM V' d mo:=by
 refine x78 ?_
 unfold w78
 have no:∀{V1:Mem},V.sub V1->¬hasT d=true->(∃mo,Ending.returned (.map none)=.returned (.map mo)/\V.sub V1/\TyM V1 d mo):=fun hs k=>⟨none,rfl,hs,.inr ⟨k,rfl⟩⟩
 refine(c120 h).call ⟨_,rfl,fun hv=>?_,fun hv=>no (Mem.sub.refl _) fun k=>hv (qCj.1 k).1⟩
 refine GenK.makeMap fun b hb=>⟨some b,rfl,?_⟩
 have hs:∀o,V.sub (V.set b o):=fun o=>Mem.sub_new hb _
 refine qAI (mk:=.map) (b0:=none) d.types.length (fun i V1=>(∃o,V1=V.set b o)/\qBk V1 b (pmap d i)/\∀(j:Nat) (x:Ty),j<i->d.types[j]?=some x->qDp d x.name=(j:Int)) ⟨⟨_,rfl⟩,(qBk.made V b).congr fun k=>?_,fun _ _ h=>absurd h (Nat.not_lt_zero _)⟩ ?_
 ·grind [pmap]
 rintro i b1 _ J hi ⟨⟨o,rfl⟩,hm,hd⟩ hJ
 have hd1:=h.sub (hs o)
 refine⟨fun hlt=>?_,fun hge=>?_⟩
 ·obtain⟨x,hxm,hx,hdr,hl,hp,hz,hrow⟩:=hd1.types.get hlt
  have hle:=idxT_le hx
  refine⟨hp,hz,hlt,_,_,hrow,qBv.str Tryz.underlying158 Tryz.underlying9 qFm hm ?_⟩
  by_cases hlo:qDp d x.name<(i:Int)
  ·have e:pmap d i x.name=some (.int .i64 (qDp d x.name)):=by grind [pmap]
   rw[e]
   refine⟨_,_,rfl,fun _=>no (hs o) fun k=>?_,fun k=>absurd rfl k⟩
   grind [qCj]
  ·have e:pmap d i x.name=none:=by grind [pmap]
   rw[e]
   refine⟨0,false,rfl,(fun k=>by cases k),fun _=>qDu.str Tryz.underlying158 Tryz.underlying9 hm fun o2 ho2=>⟨hd1.types.succ hlt,hJ hl _ _ ⟨⟨o2,by rw[Mem.set_set]⟩,ho2.congr fun k=>?_,fun j y hj hy=>?_⟩⟩⟩
   ·by_cases hk:k=x.name
    ·subst hk
     rw[if_pos rfl]
     grind [pmap,qDp]
    ·rw[if_neg hk]
     unfold pmap
     by_cases hki:qDp d k=(i:Int)
     ·grind [idxT_at,absurd]
     grind
   grind
 ·have hlen:=(hd1.types.done hge).2
  have hm':qBk (V.set b o) b (tmap d):=hm.congr fun k=>pmap_all i hlen
  have hdist:∀(j:Nat) (x:Ty),d.types[j]?=some x->qDp d x.name=(j:Int):=fun j x hx=>hd j x (by grind) hx
  intro p hp
  have s1:=Mem.sub_new hp (cell (.map (some b)) 158)
  have hpp:=Mem.set_same (V.set b o) p (cell (.map (some b)) 158)
  have hm1:=hm'.sub s1
  have hd2:=hd1.sub s1
  refine(c121 hpp hm1 hd2.globals).call ⟨_,rfl,fun hg=>fun q hq=>?_,fun hg=>no ((hs o).trans s1) fun k=>hg (qCj.1 k).2.1⟩
  have s2:=Mem.sub_new hq (cell (.func (.func 121) #[] #[pv p]) 204)
  have hqq:=Mem.set_same ((V.set b o).set p (cell (.map (some b)) 158)) q (cell (.func (.func 121) #[] #[pv p]) 204)
  have hd3:=hd2.sub s2
  refine(c126 (first:=[]) (caps:=[pv q]) hd3.types Tryz.call127 (fun y=>!qBy d y.fields) (fun y hy=>c127 (s2 _ _ hpp) hqq (hm1.sub s2) (hd3.typesOk y hy))).call ⟨_,rfl,fun ha=>no ((hs o).trans (s1.trans s2)) fun k=>?_,fun ha=>⟨_,qBD (s2 _ _ hpp),some b,rfl,(hs o).trans (s1.trans s2),.inl ⟨qCj.2 ⟨hv,hg,hdist,fun x hx=>?_⟩,b,rfl,hm1.sub s2⟩⟩⟩
  ·grind [List.any_eq_true,qCj]
  simp_all
theorem c175{mo:Option Nat}(ht:TyM V d mo)(hT:hasT d=true)(hm:Mm.Ok V m){typ:ByteArray}(hk:qBl d typ=true){v:Int}:PP 175 [.map mo,m.v,.string typ,.int .i64 v] V (.bool (qAt d m typ v)):=by
 refine x175 ?_
 unfold w175
 have hn:=hm.nodes.n_eq
 obtain⟨b,rfl,hb⟩:∃b,mo=some b/\qBk V b (tmap d):=by
  rcases ht with⟨-,h⟩|⟨h,-⟩
  ·exact h
  simp_all
 have ret:∀{x y:Bool},x=y->Ending.returned (.bool x)=.returned (.bool y)/\V=V:=fun h=>by simp_all
 refine⟨fun h1=>?_,fun h1=>⟨fun h2=>?_,fun h2=>?_⟩⟩
 ·grind [qAt,qAW]
 ·grind [qAt,qAW,qAu,inr]
 ·unfold qAt;rw[if_neg (show ¬typ=qAW from h1),if_neg (show ¬typ=qAu from h2)]
  refine⟨fun h3=>ret (decide_eq_true (.inl h3)).symm,fun h3=>⟨fun h4=>⟨fun h5=>?_,fun h5=>ret ?_⟩,fun h4=>ret ?_⟩⟩
  ·obtain⟨i,rfl⟩:∃i:Nat,v=(i:Int)+1:=⟨(v-1).toNat,by omega⟩
   have e1:((i:Int)+1-1).toNat=i:=by omega
   obtain⟨x,hxm,hx,-,hl,hp,hz,hrow⟩:=hm.nodes.get (i:=i) (by omega)
   have hq:=qAf (n:=i*2) hp
   have hr:IR ((i:Int)+1-1):=⟨by omega,by have:=(hm.nodes.succ (i:=i) (by omega)).2;omega⟩
   have hnode:qBr d typ=true:=by
    grind [qBl,qAW,qAu]
   rw[e1]
   refine⟨hr,hp,by omega,by omega,hq,_,_,hrow,qBv.str1 Tryz.underlying158 Tryz.underlying9 qFm hb ?_⟩
   unfold tmap
   rw[if_pos hnode]
   refine⟨_,rfl,qJw (k:=1) hrow (by decide),hq,hp,by omega,by omega,hr,ret ?_⟩
   grind
  ·grind
  grind
theorem c130{mo:Option Nat}(ht:TyM V d mo)(hT:hasT d=true)(hm:Mm.Ok V m){l:Sl}{xs:List Fld}(hr:qAc V l 2 (xs.map Fld.row))(hk:qBy d xs=true){s:Sl}{vs:List Int}(hv:qAc V s 1 (vs.map qAe)):PP 130 [.map mo,m.v,l.v,s.v] V (.bool (qAg d m xs vs)):=by
 refine x130 ?_
 unfold w130
 have h1:=hr.n_eq
 have h2:=hv.n_eq
 refine⟨fun he=>?_,fun he=>?_⟩
 ·refine qAI (mk:=.bool) (b0:=false) vs.length (fun i V1=>V=V1/\AllI (fun i v=>qAt d m (tyAt xs i) v) vs i) ⟨rfl,AllI.zero⟩ ?_
  rintro i b V1 J hi ⟨rfl,ha⟩ hJ
  refine⟨fun hlt=>?_,fun hge=>?_⟩
  ·obtain⟨x,hxm,hx,-,hl,hp,hz,hrow⟩:=hr.get hlt
   obtain⟨y,hym,hy,-,hl2,hp2,hz2,hrow2⟩:=hv.get (i:=i) (by omega)
   have hty:tyAt xs i=x.ty:=by grind [tyAt]
   have hkx:qBl d x.ty=true:=List.all_eq_true.1 hk x hxm
   refine⟨hp,hz,hlt,_,_,hrow,hp2,hz2,by omega,_,hrow2,(c175 ht hT hm hkx).call ⟨_,rfl,fun h3=>⟨hr.succ hlt,hJ hl2 _ _ ⟨rfl,ha.succ hy (by grind)⟩⟩,fun h3=>?_⟩⟩
   unfold qAg
   rw[qGZ hy (by grind),Bool.and_false];simp_all
  ·unfold qAg
   rw[ha.all (by omega),decide_eq_true (by omega)];simp_all
 ·unfold qAg
  rw[decide_eq_false (by omega)];simp_all
theorem c129(h:Ds.Ok V d){p t:Nat}(hp:V p=some (.cells d.row.toArray t (0,0))){n:Nd}:PP 129 [n.v,pv p] V (.bool (!qDg d n)):=by
 refine x129 ?_
 unfold w129
 have hn:=h.types.n_eq
 refine⟨fun h1=>?_,fun h1=>⟨by simp,_,qAd hp 1 1 (by simp[Ds.row]),?_⟩⟩
 ·unfold qDg;rw[decide_eq_false (by omega)];exact⟨rfl,rfl⟩
 ·refine⟨?_,rfl⟩
  grind [qDg]
theorem c131(h:Ds.Ok V d)(hm:Mm.Ok V m){mo:Option Nat}(ht:TyM V d mo)(hT:hasT d=true){p q r t t2 t3:Nat}(hp:V p=some (cell (.map mo) t))(hq:V q=some (.cells m.row.toArray t2 (0,0)))(hr:V r=some (.cells d.row.toArray t3 (0,0))){n:Nd}(hn:n∈m.nodes)(hty:qDg d n=true) :
  PP 131 [n.v,pv p,pv q,pv r] V (.bool (!qAg d m (qAo d n.ty) n.f)):=by
 refine x131 ?_
 unfold w131
 obtain⟨h1,h2⟩:=of_decide_eq_true hty
 have hlen:=h.types.n_eq
 obtain⟨i,hi⟩:∃i:Nat,n.ty=(i:Int):=⟨n.ty.toNat,by omega⟩
 obtain⟨x,hxm,hx,-,hl,hp1,hz,hrow⟩:=h.types.get (i:=i) (by omega)
 have hf:=qAO hx hi
 rw[hf]
 refine⟨_,qBD hp,_,_,qAd hq 0 2 (by simp[Mm.row]),by simp,_,qAd hr 1 1 (by simp[Ds.row]),hp1,h1,by omega,?_⟩
 rw[hi]
 refine⟨qAf hp1,_,_,hrow,(c130 ht hT hm (h.typesOk x hxm).fields ((qCj.1 hT).2.2.2 x hxm) (hm.nodesOk n hn).rows).call ⟨_,rfl,rfl,rfl⟩⟩
theorem c79(h:Ds.Ok V d)(hm:Mm.Ok V m){mo:Option Nat}(ht:TyM V d mo):Pur Tryz.prog 79 [.map mo,d.v,m.v] V (.bool (qAs d m)):=by
 refine Pur.mk ?_
 refine x79 ?_
 unfold w79
 have hn:=hm.nodes.n_eq
 rcases ht with⟨hT,b,rfl,hb⟩|⟨hT,rfl⟩
 rotate_left
 ·refine⟨fun _=>?_,fun k=>absurd rfl k⟩
  unfold qAs;rw[(Bool.not_eq_true _).mp hT];exact⟨rfl,Mem.sub.refl _⟩
 refine⟨(fun k=>by cases k),fun _=>⟨fun h1=>?_,fun h1=>?_⟩⟩
 ·unfold qAs;rw[decide_eq_false (by omega:¬m.nodes.length<=4096)];simp_all [Bool.and_false,Bool.false_and,trivial,Mem.sub.refl]
 intro p hp
 have s1:=Mem.sub_new hp (.cells d.row.toArray 30 (0,0))
 have hpp:=Mem.set_same V p (.cells d.row.toArray 30 (0,0))
 have hm1:=hm.sub s1
 refine(c128 (first:=[]) (caps:=[pv p]) hm1.nodes Tryz.call129 (fun n=>!qDg d n) (fun n hn=>c129 (h.sub s1) hpp)).call ⟨_,rfl,fun h2=>?_,fun h2=>?_⟩
 ·grind [qAs,qDg]
 have hall:m.nodes.all (qDg d)=true:=by
  simp_all
 have ht1:TyM (V.set p (.cells d.row.toArray 30 (0,0))) d (some b):=.inl ⟨hT,b,rfl,hb.sub s1⟩
 have hd1:=h.sub s1
 refine⟨nofun,_,qAd hpp 2 1 (by simp[Ds.row]),(c130 ht1 hT hm1 hd1.globals (qCj.1 hT).2.1 hm1.globals).call ⟨_,rfl,fun h3=>?_,fun h3=>?_⟩⟩
 rotate_left
 ·grind [qAs]
 intro q hq
 have s2:=Mem.sub_new hq (cell (.map (some b)) 158)
 intro r hr
 have s3:=Mem.sub_new hr (.cells m.row.toArray 34 (0,0))
 have s23:=s2.trans s3
 refine(c128 (first:=[]) (caps:=[pv q,pv r,pv p]) (hm1.sub s23).nodes Tryz.call131 (fun n=>!qAg d m (qAo d n.ty) n.f) (fun n hn=>?_)).call ⟨_,rfl,?_,s1.trans s23⟩
 ·refine c131 (hd1.sub s23) (hm1.sub s23) (mo:=some b) (.inl ⟨hT,b,rfl,(hb.sub s1).sub s23⟩) hT (s3 _ _ mss) mss (s23 _ _ hpp) hn (List.all_eq_true.1 hall n hn)
 grind [qAs,qAg]
theorem c44[Tab V](h:Ds.Ok V d)(hm:Mm.Ok V m):Pur Tryz.prog 44 [d.v,m.v] V (.bool (qAs d m)):=by
 refine Pur.mk ?_
 refine x44 ?_
 unfold w44
 refine Tri.mono (c78 h) ?_
 rintro _ V' ⟨mo,rfl,hs,ht⟩
 exact⟨mo,rfl,(c79 (h.sub hs) (hm.sub hs) ht).call ⟨_,rfl,rfl,hs⟩⟩
end
theorem chk_none{d:Ds}(h:(fltR (qIU d)).2.2=0):qIU d=none:=by
 have key:∀{a:Option Flt},(∀r,a=some r->r.2.2≠0)->(fltR a).2.2=0->a=none:=fun {a} hb h=>by
  cases a with
  | none=>rfl
  | some r=>exact absurd h (hb r rfl)
 refine key (fun r hr=>?_) h
 unfold qIU at hr
 have orC:∀{a b:Option Flt} {r},a.or b=some r->a=some r∨b=some r:=fun {a b r} h=>by
  cases a with
  | none=>exact .inr (by simpa using h)
  | some x=>exact .inl (by simpa using h)
 rcases orC hr with h1|hr
 ·exact(types_bad d r h1).1
 rcases orC hr with h1|hr
 ·exact(heads_bad d r h1).1
 rcases orC hr with h1|hr
 ·exact(form_bad d r h1).1
 rcases orC hr with h1|hr
 ·unfold qCw at h1
  obtain⟨j,x,-,hx⟩:=qCJ h1
  split at hx
  ·rename_i hne;cases hx;exact hne
  ·cases hx
 ·exact(exps_bad d r hr).1
section
variable{V:Mem}{d:Ds}{m:Mm}
theorem c161(hd:Ds.Ok V d)(hm:Mm.Ok V m)(G:qAx d m){typ:ByteArray}{v:Int}:PP 161 [d.v,m.v,.string typ,.int .i64 v] V (.bool (qAt d m typ v)):=by
 refine x161 ?_
 unfold w161
 have fin:∀{b:Bool},qAt d m typ v=b->(Ending.returned (.bool b)=.returned (.bool (qAt d m typ v))/\V=V):=fun e=>⟨by rw[e],rfl⟩
 refine⟨fun h=>⟨fun a=>fin ?_,fun a=>fin ?_⟩,fun h=>⟨fun h1=>⟨fun a=>fin ?_,fun a=>fin ?_⟩,fun h1=>⟨fun h0=>fin ?_,fun h0=>⟨fun hp=>⟨fun hl=>?_,fun hl=>fin ?_⟩,fun hp=>fin ?_⟩⟩⟩⟩
 ·unfold qAt;rw[if_pos (show typ=qAW from h)];simp[show (-1099511627776:Int)<=v from a]
 ·unfold qAt;rw[if_pos (show typ=qAW from h)];exact decide_eq_false fun k=>a k.1
 ·unfold qAt;rw[if_neg (show ¬typ=qAW from h),if_pos (show typ=qAu from h1)];exact decide_eq_true (.inl a)
 ·unfold qAt;rw[if_neg (show ¬typ=qAW from h),if_pos (show typ=qAu from h1)]
  have a:¬v=0:=a
  simp[a]
 ·unfold qAt;rw[if_neg (show ¬typ=qAW from h),if_neg (show ¬typ=qAu from h1)];exact decide_eq_true (.inl h0)
 ·have h0:¬v=0:=h0
  have hn:=hm.nodes.n_eq
  have hl:v<=(m.ns.n:Int):=hl
  obtain⟨k,hk⟩:∃k:Nat,v-1=(k:Int):=⟨(v-1).toNat,by omega⟩
  obtain⟨y,hym,hy,-,-,hpn,hz,hrow⟩:=hm.nodes.get (i:=k) (by omega)
  obtain⟨p1,p2,p3,-⟩:=qAh G.mem
  have hty:=of_decide_eq_true (p3 y hym)
  obtain⟨j,hj⟩:∃j:Nat,y.ty=(j:Int):=⟨y.ty.toNat,by omega⟩
  have htn:=hd.types.n_eq
  obtain⟨tt,-,htt,-,-,hp2,hz2,hrow2⟩:=hd.types.get (i:=j) (by omega)
  have hrow':V.rowp m.ns.p (k*2) 2=some [.int .i64 (j:Int),y.sl.v]:=by rw[<- hj];exact hrow
  rw[hk]
  refine⟨⟨by omega,by omega⟩,hpn,hz,by omega,qAf hpn,_,_,hrow',hp2,hz2,by omega,qAf hp2,_,_,hrow2,fin ?_⟩
  unfold qAt
  rw[if_neg (show ¬typ=qAW from h),if_neg (show ¬typ=qAu from h1),hk,Int.toNat_natCast,hy]
  refine decide_eq_decide.2 ⟨fun k1=>?_,fun k1=>.inr ⟨by omega,by omega,?_⟩⟩
  ·rcases k1 with k1|⟨-,-,k1⟩
   ·exact absurd k1 h0
   ·simp only[Option.map_some,Option.some.injEq]at k1
    obtain⟨x,hx,hxn⟩:=idxT_at (d:=d) (k:=typ) (i:=j) (by rw[<- k1,hj])
    rw[htt]at hx;cases hx;exact hxn
  ·simp only[Option.map_some,Option.some.injEq]
   rw[hj,<- (qBE p1).2.1 j tt htt]
   exact congrArg _ k1
 ·have hl:¬v<=(m.ns.n:Int):=hl
  have hn:=hm.nodes.n_eq
  have h0:¬v=0:=h0
  unfold qAt
  rw[if_neg (show ¬typ=qAW from h),if_neg (show ¬typ=qAu from h1)]
  exact decide_eq_false fun k1=>by rcases k1 with k1|⟨-,k1,-⟩ <;> omega
 ·have hp:¬0<v:=hp
  have h0:¬v=0:=h0
  unfold qAt
  rw[if_neg (show ¬typ=qAW from h),if_neg (show ¬typ=qAu from h1)]
  exact decide_eq_false fun k1=>by rcases k1 with k1|⟨k1,-,-⟩ <;> omega
def qDi(d:Ds)(m:Mm)(nm:ByteArray)(args:List Int):Int :=
 if qCP d nm<0 then 9 else match d.procs[(qCP d nm).toNat]? with
  | none=>9
  | some pr=>if args.length=pr.params.length then (if qAg d m pr.params args=true then 0 else 11) else 3
theorem qIT{nm:ByteArray}{args:List Int}(h:qDi d m nm args=0):∃(i:Nat) (pr:Pr),qCP d nm=(i:Int)/\d.procs[i]?=some pr/\qAg d m pr.params args=true:=by
 unfold qDi at h
 split at h
 ·cases h
 ·split at h
  ·cases h
  ·rename_i h1 pr hp
   split at h
   ·split at h
    ·exact⟨(qCP d nm).toNat,pr,by omega,hp,by assumption⟩
    ·cases h
   ·cases h
def noPr:Pr:=⟨qAm [],qAP,[],qAm [],qAP,[],qAP,[]⟩
theorem c114(hd:Ds.Ok V d)(hm:Mm.Ok V m)(G:qAx d m){l:Sl}{args:List Int}(ha:qAc V l 1 (args.map qAe)){nm:ByteArray} :
  PP 114 [d.v,m.v,.agg #[.string nm,l.v]] V (.tuple #[(if qDi d m nm args=0 then ((d.procs[(qCP d nm).toNat]?).getD noPr) else noPr).v,.int .i64 (qDi d m nm args)]):=by
 refine x114 ?_
 unfold w114
 have bad:∀{e:Int},qDi d m nm args=e->e≠0->(Ending.returned (.tuple #[noPr.v,.int .i64 e])=.returned (.tuple #[(if qDi d m nm args=0 then ((d.procs[(qCP d nm).toNat]?).getD noPr) else noPr).v,.int .i64 (qDi d m nm args)])/\V=V):=fun e h=>⟨by rw[e,if_neg h],rfl⟩
 refine(c160 hd).call ⟨_,rfl,fun h=>?_,fun h=>?_⟩
 ·exact bad (by unfold qDi;rw[if_pos h]) (by decide)
 ·have h:¬qCP d nm<0:=h
  rcases qBd (fun t:Pr=>decide (t.name=nm)) d.procs with⟨h1,-⟩|⟨i,pr,h1,h2,-⟩
  ·have:qCP d nm=-1:=h1
   omega
  have hi:qCP d nm=(i:Int):=h1
  have hn:=hd.procs.n_eq
  have hil:=(List.getElem?_eq_some_iff.1 h2).1
  obtain⟨y,hym,hy,-,-,hp,hz,hrow⟩:=hd.procs.get (i:=i) (by omega)
  rw[h2]at hy;cases hy
  have hc:qDi d m nm args=if args.length=pr.params.length then (if qAg d m pr.params args=true then 0 else 11) else 3:=by unfold qDi;rw[if_neg h,hi,Int.toNat_natCast,h2]
  have hok:=(hd.procsOk pr hym).params
  have hln:=hok.n_eq
  have han:=ha.n_eq
  rw[hi]at bad ⊢
  refine⟨hp,hz,by omega,_,_,_,_,_,hrow,fun hlen=>?_,fun hlen=>?_⟩
  ·have hlen:(l.n:Int)=(pr.ps.n:Int):=hlen
   have hl2:args.length=pr.params.length:=by omega
   rw[if_pos hl2]at hc
   refine qAI (mk:=fun k:Int=>.int .i64 k) (b0:=0) args.length (fun j V1=>V1=V/\∀(i:Nat) f v,i<j->pr.params[i]?=some f->args[i]?=some v->qAt d m f.ty v=true) ⟨rfl,fun i f v h=>by omega⟩ ?_
   rintro j b V1 J hj ⟨rfl,hall⟩ hJ
   refine⟨fun hlt=>?_,fun hge=>?_⟩
   ·obtain⟨v,hvm,hv,-,hjl,hp1,hz1,hr1⟩:=ha.get hlt
    obtain⟨f,hfm,hf,-,-,hp2,hz2,hr2⟩:=hok.get (i:=j) (by omega)
    refine⟨hp1,hz1,hlt,v,hr1,hp2,hz2,by omega,qAf hp2,_,_,hr2,(c161 hd hm G).call ⟨_,rfl,fun hb=>⟨ha.succ hlt,hJ hjl _ _ ⟨rfl,fun i g w hi' hg hw=>?_⟩⟩,fun hb=>bad ?_ (by decide)⟩⟩
    ·rcases Nat.lt_or_ge i j with h3|h3
     ·exact hall i g w h3 hg hw
     ·obtain rfl:i=j:=by omega
      rw[hf]at hg;cases hg
      rw[hv]at hw;cases hw
      exact hb
    ·rw[hc,if_neg fun k=>hb ((qAC.1 k).2 j f v hf hv)]
   ·have hd2:=(ha.done hge).2
    have hval:qAg d m pr.params args=true:=qAC.2 ⟨hl2.symm,fun i f v hf hv=>hall i f v (by have:=(List.getElem?_eq_some_iff.1 hv).1;omega) hf hv⟩
    rw[if_pos hval]at hc
    refine⟨?_,rfl⟩
    rw[hc,if_pos rfl,Int.toNat_natCast,h2]
    rfl
  ·have hlen:¬(l.n:Int)=(pr.ps.n:Int):=hlen
   exact bad (by rw[hc,if_neg (by omega)]) (by decide)
noncomputable def qAS(d:Ds)(m:Mm)(F:Int):Int:=by
 classical
 exact if qAx d m then (if F<0 then 2 else if 1048576<F then 2 else 0) else 1
theorem c71[Tab V](hd:Ds.Ok V d)(hm:Mm.Ok V m){F:Int}:PP 71 [d.v,m.v,.int .i64 F] V (.int .i64 (qAS d m F)):=by
 refine x71 ?_
 unfold w71
 have bad:¬qAx d m->(Ending.returned (.int .i64 1)=.returned (.int .i64 (qAS d m F))/\V=V):=fun h=>⟨by unfold qAS;rw[if_neg h],rfl⟩
 refine(c113 scopeC newC hd).call ?_
 by_cases hv:qAE d=true
 ·rw[if_pos hv]
  refine⟨_,_,_,rfl,fun h0=>(c44 hd hm).call ⟨_,rfl,fun h1=>?_,fun h1=>bad fun k=>h1 k.mem⟩,fun h0=>bad fun k=>h0 (by rw[k.chk];rfl)⟩
  have G:qAx d m:=⟨hv,chk_none h0,h1⟩
  refine⟨fun h=>⟨?_,rfl⟩,fun h=>⟨fun h2=>⟨?_,rfl⟩,fun h2=>⟨?_,rfl⟩⟩⟩
  ·unfold qAS;rw[if_pos G,if_pos h]
  ·unfold qAS;rw[if_pos G,if_neg h,if_pos h2]
  ·unfold qAS;rw[if_pos G,if_neg h,if_neg h2]
 ·rw[if_neg hv]
  exact⟨_,_,_,rfl,fun h=>absurd h (by decide),fun _=>bad fun k=>hv k.valid⟩
end
theorem loop3u{V:Mem}{β γ:Type}{mk:β->Value}{mc:γ->Value}{B:β->γ->Int->Mem->(List Value->Mem->Prop)->Prop}{b0:β}{c0:γ}(inj:∀x y,mk x=mk y->x=y)(inc:∀x y,mc x=mc y->x=y)(len:Nat)(St:Nat->β->γ->Mem->Prop)(h0:St 0 b0 c0 V)
  (step:∀(i:Nat) (b:β) (c:γ) V1 J,i<=len->St i b c V1->(i<len->∀b' c' V2,St (i+1) b' c' V2->J [mk b',mc c',.int .i64 ((i:Int)+1)] V2)->B b c (i:Int) V1 J) :
  ∃(I:Nat->List Value->Mem->Prop) (n0:Nat),I n0 [mk b0,mc c0,.int .i64 0] V/\∀n V1,∀b:β,∀c:γ,∀v:Int,I n [mk b,mc c,.int .i64 v] V1->∀J:List Value->Mem->Prop,(∀m ys V'',m<n->I m ys V''->J ys V'')->B b c v V1 J:=by
 refine⟨LI len fun i xs V=>∃b c,xs=[mk b,mc c,.int .i64 i]/\St i b c V,len,LI.start ⟨b0,c0,rfl,h0⟩,?_⟩
 rintro n V1 b c v ⟨i,rfl,hi,b',c',hx,hs⟩ J hJ
 simp only[List.cons.injEq,Value.int.injEq,true_and,and_true]at hx
 obtain⟨hb,hc,rfl⟩:=hx
 cases inj _ _ hb
 cases inc _ _ hc
 exact step i b c V1 J hi hs fun hlt b' c' V2 h2=>LI.next hJ hlt ⟨b',c',rfl,h2⟩
theorem c72{V:Mem}{m:Mm}(hm:Mm.Ok V m)(h1:m.globals.length<=2147483648)(h2:m.nodes.length<=4096)(h3:∀n∈m.nodes,n.f.length<=2147483648):Tri Tryz.prog 72 #[m.v] V fun e V'=>∃gs ns nd,e=.returned (.agg #[.slice gs.p gs.n gs.c,.slice ns.p ns.n ns.c])/\Lay V V' gs ns qAP nd (qBV m):=by
 refine x72 ?_
 unfold w72
 refine Tri.mono (c42 hm.globals h1) ?_
 rintro _ V1 ⟨gs,rfl,o1⟩
 refine⟨gs,rfl,loop3u (mk:=fun s:Sl=>.slice s.p s.n s.c) (mc:=fun s:Sl=>.slice s.p s.n s.c) (b0:=gs) (c0:=⟨none,0,0⟩) qBA qBA m.nodes.length (fun i b ns V2=>b=gs/\∃nd,Lay V V2 gs ns qAP nd ⟨m.globals,(m.nodes.take i).map fun n=>(n.ty,n.f),0,0,[]⟩/\nd.length=i) ⟨rfl,[],⟨o1,Own.nil o1.sub _ _,Own.nil o1.sub _ _,(fun n hn=>by cases hn),rfl,(fun n hn=>by cases hn),(fun i j n n' c h=>by cases h)⟩,rfl⟩ ?_⟩
 rintro i b ns V2 J hi ⟨rfl,nd,L,hnl⟩ hJ
 have hr:=hm.nodes.sub L.sub
 refine⟨fun hlt=>?_,fun hge=>?_⟩
 ·obtain⟨x,hxm,hx,-,hil,hp,hz,hrow⟩:=hr.get hlt
  refine⟨hp,hz,hlt,x.ty,x.sl,hrow,Tri.mono (c42 ((hm.nodesOk x hxm).rows.sub L.sub) (h3 x hxm)) ?_⟩
  rintro _ V3 ⟨fs,rfl,o3⟩
  refine⟨fs,rfl,fun tb htb=>L.new (n:=⟨x.ty,fs,x.f⟩) o3 htb rfl rfl (by omega) fun s' V' L' _=>⟨s',rfl,hr.succ hlt,hJ hil _ _ _ ⟨rfl,nd++[⟨x.ty,fs,x.f⟩],?_,by rw[List.length_append,hnl];rfl⟩⟩⟩
  rw[List.take_add_one,hx]
  simpa using L'
 ·have hd:=(hr.done hge).2
  rw[List.take_of_length_le hd]at L
  exact⟨b,ns,nd,rfl,L⟩
end Go.Proofs
namespace Go.Sx
open Go
section
variable{P:Program}{n:Nat}{ops:Array Oper}{i:Nat}{o:Oper}{rest:List Nat}{Q:Exit->Act->World->Prop}{a:Act}{w:World}
theorem qBS(hg:o.guard=none):Region.wanted o (yielded ops a.tmps)=true:=by simp[Region.wanted,hg]
theorem step_value{v:Value}(ho:ops[i]?=some o)(hg:o.guard=none)(hrun:(execOp a.eval o).run P w=.ok (.value v) w)(k:wpOpsIn (qAz none) n P ops Q rest (a.put o.dst v) w):wpOpsIn (qAz none) n P ops Q (i::rest) a w:=by
 rw[wpOpsIn_cons]
 unfold wpOpIn
 simp only[ho]
 rw[if_pos (qBS hg)]
 refine⟨fun _ _=>trivial,?_⟩
 show Oper.uponIn _ _ _ _ _ _ _ ((execOp a.eval o).run P w)
 rw[hrun];exact k
theorem step_defer{d:Deferred}(ho:ops[i]?=some o)(hg:o.guard=none)(hrun:(execOp a.eval o).run P w=.ok (.defer d) w)(k:wpOpsIn (qAz none) n P ops Q rest (({ a with defers:=d::a.defers }:Act).put o.dst undef) w):wpOpsIn (qAz none) n P ops Q (i::rest) a w:=by
 rw[wpOpsIn_cons]
 unfold wpOpIn
 simp only[ho]
 rw[if_pos (qBS hg)]
 refine⟨fun _ _=>trivial,?_⟩
 show Oper.uponIn _ _ _ _ _ _ _ ((execOp a.eval o).run P w)
 rw[hrun];exact k
theorem step_call{f:FuncId}{args:Array Value}{V:Mem}{R:Ending->Mem->Prop}(ho:ops[i]?=some o)(hg:o.guard=none)(hrun:(execOp a.eval o).run P w=.ok (.enter f args) w)(hV:V.le w)(H:Tri P f args V R)
  (hp:∀ch V' w',R (.panicked ch) V'->Frm V w V' w'->Q (.panic ch) a w') (hr:∀v V' w',R (.returned v) V'->Frm V w V' w'->wpOpsIn (qAz none) n P ops Q rest (a.put o.dst v) w') (hn:∀V',¬R .outgrown V'):wpOpsIn (qAz none) n P ops Q (i::rest) a w:=by
 rw[wpOpsIn_cons]
 unfold wpOpIn
 simp only[ho]
 rw[if_pos (qBS hg)]
 refine⟨fun _ _=>trivial,?_⟩
 show Oper.uponIn _ _ _ _ _ _ _ ((execOp a.eval o).run P w)
 rw[hrun]
 refine⟨fun h=>by simp[qAz,Fence.wide]at h,qEg.2 (qCL (H w hV) ?_)⟩
 grind
theorem run_callv{c:Call}{fv:Operand}{f:FuncId}{first caps args:Array Value}(hop:o.op=.call c)(hc:c.callee=.value fv)(hf:a.eval fv=.func (.func f) first caps)(hargs:c.args.map a.eval=args)(hk:∀args w,(callFunc f args).run P w=.ok (.enter f args) w) :
  (execOp a.eval o).run P w=.ok (.enter f (first++args++caps)) w:=by
 grind [execOp,resolve,Deferred.ofValue,invoke]
def Rec(u:FrameMode)(v:Value)(u':FrameMode):Prop :=
 match u with
 | .panicking ({ v:=v',recovered:=false,goexit:=false }::older)=>v=v'/\u'=.panicking ({ v:=v',recovered:=true }::older)
 | _=>v=.nilIface/\u'=u
end
section
variable{P:Program}{n:Nat}
theorem qHV{F:Fence}{c:Code}{Q Q':Exit->Act->List Frame->World->Prop}{a:Act}{cs:List Frame}{w:World}(h:c.wpSIn F n P Q a cs w)(hq:∀e a cs w,Q e a cs w->Q' e a cs w):c.wpSIn F n P Q' a cs w :=
 fun b k hb hr hF hroom=>let ⟨e,a',cs',w',hl,q,r⟩:=h b k hb hr hF hroom;⟨e,a',cs',w',hl,hq _ _ _ _ q,r⟩
theorem wpSIn_head{x:Code}:∀{c:Code} {rest:List Code} {Q:Exit->Act->List Frame->World->Prop} {a:Act} {cs:List Frame} {w:World},flat c=x::rest->x.wpSIn (qAz none) n P (Exit.thenS (fun a cs w=>wpL none n P (fun e a' w'=>Q e a' cs w') rest a w) Q) a cs w->c.wpSIn (qAz none) n P Q a cs w:=by
 intro c
 induction c with
 | seq p q ihp ihq =>
  intro rest Q a cs w hf h
  rw[flat]at hf
  cases hp:flat p with
  | nil =>
   exfalso
   have:∀c:Code,flat c≠[]:=fun c=>by
    induction c with
    | seq a b iha ihb=>rw[flat];simp[iha]
    | _=>simp[flat]
   exact this p hp
  | cons y r' =>
   rw[hp,List.cons_append]at hf
   obtain⟨rfl,rfl⟩:y=x/\r'++flat q=rest:=by
    simp_all
   refine wpSIn_seq (ihp hp (qHV h ?_))
   intro e a cs w he
   cases e with
   | normal =>
    refine qCA ?_ (qFn he)
    intro e a w he
    cases e with
    | normal=>exact wpSIn_of_wpIn rfl (qCo he)
    | _=>exact he
   | _=>exact he
 | _ =>
  intro rest Q a cs w hf h
  rw[flat]at hf
  ·injection hf with h1 h2
   subst h1;subst h2
   refine qHV h ?_
   intro e a cs w he
   cases e with
   | normal=>exact he
   | _=>exact he
  all_goals (intro x y;nofun)
variable{ops:Array Oper}{i:Nat}{o:Oper}{rest:List Nat}{Q:Exit->Act->World->Prop}{a:Act}{w:World}
theorem qJj{f:FuncId}{fn:Func}{x c:Code}{rest:List Code}{id:Nat}{o0 o1:Oper}{args:Array Value}{u:FrameMode}{R:Ending->FrameMode->World->Prop}{at0:Array TypeId}{t3 t6:Nat}(hf:P.funcs[f]?=some fn)(hb:fn.body=some c)(hfl:flat c=x::rest)(hx:x=.region id #[o0,o1] false)
  (h0:o0.op=.call { callee:=.builtin .recover,args:=#[],argTypes:=at0 }) (d0:o0.dst=some t6) (g0:o0.guard=none) (h1:o1.op=.assign (.tmp t6)) (d1:o1.dst=some t3) (g1:o1.guard=none) (h6:t6<fn.ntmps) (hd:args.size<=fn.ntmps)
  (H:∀(v:Value) (u':FrameMode),Rec u v u' ->
   wpL none n P (fun e a' w'=>(e=.normal∨e=.ret)/\a'.defers=[]/\∃v,(results fn a'.tmps).run P w'=.ok v w'/\R (.returned v) u' w') rest ((({ tmps:=args++Array.replicate (fn.ntmps-args.size) undef,defers:=[] }:Act).put (some t6) v).put (some t3) v) w) :
  CallsDIn (qAz none) n P f args u w R:=by
 refine callsDIn_of_wpSIn hf hb trivial fun c₀ cs hu=>?_
 refine wpSIn_head hfl ?_
 subst hx
 refine wpSIn_region ?_
 have hr0:∀a:Act,(execOp a.eval o0).run P w=.ok .recover w:=fun a=>by
  unfold execOp
  simp[h0,resolve,invoke,builtin]
 have hr1:∀a:Act,(execOp a.eval o1).run P w=.ok (.value (a.eval (.tmp t6))) w:=fun a=>by
  unfold execOp
  simp[h1]
 have go:∀(v:Value) (u':FrameMode) (cs':List Frame),Rec u v u'->cs'={ c₀ with mode:=u' }::cs ->
   wpOpsSIn (qAz none) n P #[o0,o1] (Exit.thenS (fun a cs' w=>wpL none n P (fun e a' w'=>bodyPostS P fn c₀ cs R e a' cs' w') rest a w) (bodyPostS P fn c₀ cs R)) [1] (({ tmps:=args++Array.replicate (fn.ntmps-args.size) undef,defers:=[] }:Act).put o0.dst v) cs' w:=fun v u' cs' hv hcs=>by
  rw[wpOpsSIn.eq_2]
  simp only[List.getElem?_toArray,List.getElem?_cons_succ,List.getElem?_cons_zero]
  refine⟨fun _ _=>trivial,?_⟩
  have hw:=qBS (ops:=#[o0,o1]) (a:=(({ tmps:=args++Array.replicate (fn.ntmps-args.size) undef,defers:=[] }:Act).put o0.dst v)) g1
  rw[if_pos hw,hr1]
  simp only
  rw[wpOpsSIn.eq_1]
  show wpL none n P (fun e a' w'=>bodyPostS P fn c₀ cs R e a' cs' w') rest _ w
  have e:(({ tmps:=args++Array.replicate (fn.ntmps-args.size) undef,defers:=[] }:Act).put o0.dst v).eval (.tmp t6)=v:=by
   rw[d0]
   exact qBu (a:={ tmps:=args++Array.replicate (fn.ntmps-args.size) undef,defers:=[] }) (v:=v) (by simp;omega)
  rw[e,d0,d1]
  refine qCA ?_ (H v u' hv)
  rintro e a' w' ⟨he,h1,v',h2,h3⟩
  rcases he with rfl|rfl
  ·exact⟨h1,u',hcs,v',h2,h3⟩
  ·exact⟨h1,u',hcs,v',h2,h3⟩
 show wpOpsSIn _ _ _ _ _ [0,1] _ _ _
 rw[wpOpsSIn.eq_2]
 simp only[List.getElem?_toArray,List.getElem?_cons_zero]
 refine⟨fun _ _=>trivial,?_⟩
 have hw:=qBS (ops:=#[o0,o1]) (a:=({ tmps:=args++Array.replicate (fn.ntmps-args.size) undef,defers:=[] }:Act)) g0
 simp only at hw
 rw[if_pos hw,hr0]
 simp only
 unfold recoverD
 split
 ·rename_i v cs' hrec
  simp only at hrec
  split at hrec
  ·rename_i v' older hm
   simp only[Option.some.injEq,Prod.mk.injEq]at hrec
   obtain⟨rfl,rfl⟩:=hrec
   rw[hu]at hm
   exact go _ _ _ (by unfold Rec;rw[hm];exact⟨rfl,rfl⟩) rfl
  ·cases hrec
 ·rename_i hrec
  simp only at hrec
  split at hrec
  ·cases hrec
  ·rename_i hm
   refine go _ u _ ?_ (by cases c₀;simp only at hu;subst hu;rfl)
   rw[hu]at hm
   unfold Rec
   split
   ·exact absurd rfl (hm _ _)
   ·exact⟨rfl,rfl⟩
end
end Go.Sx
namespace Go.Proofs
open Go Go.Sx
set_option maxRecDepth 100000
set_option linter.unusedVariables false
section
variable{V:Mem}{R:RP}
noncomputable def c73a:List Code:=((qCk (qAn Tryz.f73) []).drop 0).take 3
def w73a(a:ByteArray)(b c d g i j k l o:Sl)(p:ByteArray)(q:Sl)(r:Int):MR:=fun V R=>TT 114 #[uD a b c d g i j k,uA #[uL l,uL o],uA #[uS p,uL q]] V fun e V1=>∃s u y z A B,e=rT #[uA #[uS s,uL u,uS y,uL z,uL A],uI B]/\qAr [uS a,uL b,uL c,uL d,uL g,uL i,uL j,uL k] 30 V1 fun C V2=>qAr [uL l,uL o] 34 V2 fun D V3=>qAr [uS p,uL q] 49 V3 fun F V4=>qAr [uP none] 124 V4 fun G V5=>qAr [uI 0,uI 0,uI 0,uI 0,uI 0] 54 V5 fun H V6=>qAr [uS s,uL u,uS y,uL z,uL A] 143 V6 fun L V7=>R (rT #[uI r,uP (qAa C 0),uP (qAa D 0),uP (qAa F 0),uP (qAa G 0),uP (qAa H 0),uI B,uP (qAa L 0),uB (!(decide (B=0)))]) V7
theorem s73a{a:ByteArray}{b c d g i j k l o:Sl}{p:ByteArray}{q:Sl}{r:Int}{V:Mem}{R:List Value->Mem->Prop}(h:w73a a b c d g i j k l o p q r V (OV R)):Seg Tryz.prog 37 c73a [(0,uD a b c d g i j k),(1,uA #[uL l,uL o]),(2,uA #[uS p,uL q]),(3,uI r)] [3,4,5,6,8,9,10,11,20] V R :=
 qBp (H:=hK 37) [(0,(.agg (.cons (.var .s 0) (.cons (.var .sl 1) (.cons (.var .sl 2) (.cons (.var .sl 3) (.cons (.var .sl 4) (.cons (.var .sl 5) (.cons (.var .sl 6) (.cons (.var .sl 7) .nil)))))))))),(1,(.agg (.cons (.var .sl 8) (.cons (.var .sl 9) .nil)))),(2,(.agg (.cons (.var .s 10) (.cons (.var .sl 11) .nil)))),(3,(.var (.i .i64) 12))] [uS a,uL b,uL c,uL d,uL g,uL i,uL j,uL k,uL l,uL o,uS p,uL q,uI r] rfl (by kernel_rfl) h
noncomputable def c73b:List Code:=((qCk (qAn Tryz.f73) [3,0]).drop 0).take 1
def w73b(a b:Option Addr)(c:Int):MR:=fun V R=>StT a 0 [uP none] V fun V1=>StT b 0 [uI 0,uI 0,uI 0,uI 0,uI 0] V1 fun V2=>R (rT #[uP a,uP b,uI c]) V2
theorem s73b{a b:Option Addr}{c:Int}{V:Mem}{R:List Value->Mem->Prop}(h:w73b a b c V (OV R)):Seg Tryz.prog 37 c73b [(8,uP a),(9,uP b),(10,uI c)] [8,9,10] V R :=
 qBp (H:=hK 37) [(8,(.var .p 0)),(9,(.var .p 1)),(10,(.var (.i .i64) 2))] [uP a,uP b,uI c] rfl (by kernel_rfl) h
noncomputable def c73c:List Code:=((qCk (qAn Tryz.f73) []).drop 4).take 1
def w73c(a:Int)(b c d g i:Option Addr)(j:Int)(k:Option Addr):MR:=fun V R=>∃l o p q r s u y,V.rowp b ((0:Int).toNat*1) 8=some [uS l,uL o,uL p,uL q,uL r,uL s,uL u,uL y]/\∃z A,V.rowp c ((0:Int).toNat*1) 2=some [uL z,uL A]/\qAr [uS l,uL o,uL p,uL q,uL r,uL s,uL u,uL y,uL z,uL A,uI a,uI 0,uI 0,uI 0,.slice none 0 0] 128 V fun B V1=>StT g 0 [uP (qAa B 0)] V1 fun V2=>R (rT #[uP d,uP g,uP i,uI j,uP k]) V2
theorem s73c{a:Int}{b c d g i:Option Addr}{j:Int}{k:Option Addr}{V:Mem}{R:List Value->Mem->Prop}(h:w73c a b c d g i j k V (OV R)):Seg Tryz.prog 37 c73c [(3,uI a),(4,uP b),(5,uP c),(6,uP d),(8,uP g),(9,uP i),(10,uI j),(11,uP k)] [6,8,9,10,11] V R :=
 qBp (H:=hK 37) [(3,(.var (.i .i64) 0)),(4,(.var .p 1)),(5,(.var .p 2)),(6,(.var .p 3)),(8,(.var .p 4)),(9,(.var .p 5)),(10,(.var (.i .i64) 6)),(11,(.var .p 7))] [uI a,uP b,uP c,uP d,uP g,uP i,uI j,uP k] rfl (by kernel_rfl) h
noncomputable def c73d:Array Oper:=qEt ((qCk (qAn Tryz.f73) []).getD 6 .skip)
def w73d(a b c:Option Addr)(d:Int)(g:Option Addr):MR:=fun V R=>∃i,V.rowp b ((0:Int).toNat*1) 1=some [uP i]/\∃j k l o p,V.rowp g ((0:Int).toNat*1) 5=some [uS j,uL k,uS l,uL o,uL p]/\¬a=none/\∃q,V.rowp a 1 1=some [uL q]/\R (rT #[uP b,uP c,uI d,uP i,uA #[uS j,uL k,uS l,uL o,uL p],uL q]) V
theorem s73d{a b c:Option Addr}{d:Int}{g:Option Addr}{V:Mem}{R:List Value->Mem->Prop}(h:w73d a b c d g V (OV R)):qCX Tryz.prog 37 c73d 0 4 [(6,uP a),(8,uP b),(9,uP c),(10,uI d),(11,uP g)] [8,9,10,29,30,32] V R :=
 qAy (H:=hK 37) [(6,(.var .p 0)),(8,(.var .p 1)),(9,(.var .p 2)),(10,(.var (.i .i64) 3)),(11,(.var .p 4))] [uP a,uP b,uP c,uI d,uP g] rfl (by kernel_rfl) h
noncomputable def c73e:Array Oper:=qEt ((qCk (qAn Tryz.f73) []).getD 6 .skip)
def w73e(a b:Option Addr)(c:Int):MR:=fun V R=>¬b=none/\StT (qAa b 1) 0 [uI c] V fun V1=>R (rT #[uP a,uP b]) V1
theorem s73e{a b:Option Addr}{c:Int}{V:Mem}{R:List Value->Mem->Prop}(h:w73e a b c V (OV R)):qCX Tryz.prog 37 c73e 5 2 [(8,uP a),(9,uP b),(33,uI c)] [8,9] V R :=
 qAy (H:=hK 37) [(8,(.var .p 0)),(9,(.var .p 1)),(33,(.var (.i .i64) 2))] [uP a,uP b,uI c] rfl (by kernel_rfl) h
noncomputable def c73f:List Code:=((qCk (qAn Tryz.f73) []).drop 7).take 1
def w73f(a b:Option Addr):MR:=fun V R=>∃c,V.rowp a ((0:Int).toNat*1) 1=some [uP c]/\∃d g i j k,V.rowp b ((0:Int).toNat*1) 5=some [uI d,uI g,uI i,uI j,uI k]/\StT a 0 [uP c] V fun V1=>V1.rowp b 0 5=some [uI d,uI g,uI i,uI j,uI k]/\StT b 0 [uI d,uI g,uI i,uI j,uI k] V1 fun V2=>R (rT #[uP a,uP b,uI 0]) V2
theorem s73f{a b:Option Addr}{V:Mem}{R:List Value->Mem->Prop}(h:w73f a b V (OV R)):Seg Tryz.prog 37 c73f [(8,uP a),(9,uP b)] [8,9,10] V R :=
 qBp (H:=hK 37) [(8,(.var .p 0)),(9,(.var .p 1))] [uP a,uP b] rfl (by kernel_rfl) h
noncomputable def c115a:List Code:=((qCk (qAn Tryz.f115) []).drop 1).take 5
def w115a(a b:Option Addr)(c:Value):MR:=fun V R=>GenK Tryz.prog (.binOp .neq 20 (.tmp 8) (.const .nilIface) 20) 4 (gv [(8,K.cast .r c)]) V fun x V1=>∃d,x=uB d/\Br (d=true) (GenK Tryz.prog (.typeAssert (.tmp 11) 20 201 true) 202 (gv [(11,K.cast .r c)]) V1 fun x V2=>∃g i,x=.tuple #[uA #[uI g],uB i]/\Br (i=true) (¬a=none/\StT (qAa a 0) 0 [uI g] V2 fun V3=>∃j,V3.rowp b ((0:Int).toNat*1) 1=some [uP j]/\¬j=none/\¬j=none/\∃k,V3.rowp j 13 1=some [uI k]/\¬a=none/\¬(qAa a 2)=none/\StT (qAa a 2) 0 [uI k] V3 fun V4=>∃l,V4.rowp b ((0:Int).toNat*1) 1=some [uP l]/\¬l=none/\¬l=none/\∃o,V4.rowp l 14 1=some [uL o]/\Lp [uI 0] V4 fun I n V5=>∀p,I n [uI p] V5->∀J0:LMP,Nx I n J0->Br (p<(o.n:Int)) (Ix o p (∃q r s,V5.rowp o.p (p.toNat*3) 3=some [uI q,uI r,uI s]/\Br (0<r) (¬a=none/\¬(qAa a 2)=none/\∃u,V5.rowp a 3 1=some [uI u]/\IR (u+1)/\¬a=none/\¬(qAa a 2)=none/\StT (qAa a 3) 0 [uI (u+1)] V5 fun V6=>IR (p+1)/\J0 [uI (p+1)] V6) (IR (p+1)/\J0 [uI (p+1)] V5))) (R (rT #[]) V5)) (∃t x,K.cast .r c=.iface t x/\R (.panicked [{ v:=.iface t x,recovered:=false }]) V2)) (∃g,V1.rowp b ((0:Int).toNat*1) 1=some [uP g]/\¬g=none/\¬g=none/\∃i,V1.rowp g 13 1=some [uI i]/\¬a=none/\¬(qAa a 2)=none/\StT (qAa a 2) 0 [uI i] V1 fun V2=>∃j,V2.rowp b ((0:Int).toNat*1) 1=some [uP j]/\¬j=none/\¬j=none/\∃k,V2.rowp j 14 1=some [uL k]/\Lp [uI 0] V2 fun I n V3=>∀l,I n [uI l] V3->∀J0:LMP,Nx I n J0->Br (l<(k.n:Int)) (Ix k l (∃o p q,V3.rowp k.p (l.toNat*3) 3=some [uI o,uI p,uI q]/\Br (0<p) (¬a=none/\¬(qAa a 2)=none/\∃r,V3.rowp a 3 1=some [uI r]/\IR (r+1)/\¬a=none/\¬(qAa a 2)=none/\StT (qAa a 3) 0 [uI (r+1)] V3 fun V4=>IR (l+1)/\J0 [uI (l+1)] V4) (IR (l+1)/\J0 [uI (l+1)] V3))) (R (rT #[]) V3))
theorem s115a{a b:Option Addr}{c:Value}{V:Mem}{R:List Value->Mem->Prop}(h:w115a a b c V (OV R)):Seg Tryz.prog 46 c115a [(0,uP a),(1,uP b),(2,K.cast .r c)] [] V R :=
 qBp (H:=hK 46) [(0,(.var .p 0)),(1,(.var .p 1)),(2,(.var .r 2))] [uP a,uP b,c] rfl (by kernel_rfl) h
end
end Go.Proofs
namespace Go.Proofs
open Go Go.Sx
attribute [local irreducible] Go.Sx.Tri
theorem GenK.neqNil{V:Mem}{x:Operand}{t:TypeId}{v:Value}{ty:Nat}{vals:Operand->Value}(hx:vals x=.iface t v)(hy:vals (.const .nilIface)=.nilIface){q:Value->Mem->Prop}(hq:q (.bool true) V):GenK Tryz.prog (.binOp .neq 20 x (.const .nilIface) 20) ty vals V q:=by
 intro w hw
 refine⟨_,w,V,?_,Frm.refl hw,hq⟩
 have he:(Op.equal 20 (.iface t v) .nilIface).run Tryz.prog w=.ok false w:=by
  rw[qCc,Op.equalIn];simp[Sem.run_bind,run_underlying Tryz.underlying20]
 simp_all [execOp,binOp,eqGuard,Sem.run_bind]
theorem GenK.eqNilNil{V:Mem}{x:Operand}{ty:Nat}{vals:Operand->Value}(hx:vals x=.nilIface)(hy:vals (.const .nilIface)=.nilIface){q:Value->Mem->Prop}(hq:q (.bool false) V):GenK Tryz.prog (.binOp .neq 20 x (.const .nilIface) 20) ty vals V q:=by
 intro w hw
 refine⟨_,w,V,?_,Frm.refl hw,hq⟩
 have he:(Op.equal 20 .nilIface .nilIface).run Tryz.prog w=.ok true w:=by
  rw[qCc,Op.equalIn];simp[Sem.run_bind,run_underlying Tryz.underlying20]
 simp_all [execOp,binOp,eqGuard,Sem.run_bind]
theorem GenK.assertOk{P:Program}{V:Mem}{x:Operand}{t u:TypeId}{ts:Array Field}{v:Value}{ty:Nat}{vals:Operand->Value}(ht:P.underlying t=some (.struct ts))(hx:vals x=.iface t v){q:Value->Mem->Prop}(hq:q (.tuple #[v,.bool true]) V):GenK P (.typeAssert x u t true) ty vals V q:=by
 intro w hw
 refine⟨_,w,V,?_,Frm.refl hw,hq⟩
 unfold execOp
 simp[hx,Instr.typeAssert,Sem.run_bind,run_underlying ht]
noncomputable def dOp:Oper:={ dst:=none,op:=.move (.tmp 0),type:=0,pos := "",after:=#[],guard:=none }
theorem run_makeFunc{P:Program}{a:Act}{o:Oper}{f:Fn}{first caps:Array Operand}{w:World}(ho:o.op=.makeFunc f first caps):(execOp a.eval o).run P w=.ok (.value (.func f (first.map a.eval) (caps.map a.eval))) w:=by
 unfold execOp
 simp[ho,Instr.makeFunc]
theorem run_deferv{P:Program}{a:Act}{o:Oper}{c:Call}{fv:Operand}{f:Fn}{first caps:Array Value}{w:World}(hop:o.op=.defer c)(hc:c.callee=.value fv)(hf:a.eval fv=.func f first caps)(hargs:c.args.map a.eval=#[]) :
  (execOp a.eval o).run P w=.ok (.defer { target:=.fn f caps,args:=first++#[] }) w:=by
 simp_all [execOp,resolve,Deferred.ofValue]
theorem qKJ{N:Nat}{a:Act}{l:List (Nat×Value)}(h:Has N a l){t:Nat}{v:Value}(ht:t<N):Has N (a.put (some t) v) ((t,v)::l):=by
 refine⟨by simp[Act.put,h.1],fun s u hs=>?_⟩
 rw[List.lookup_cons]at hs
 by_cases e:s=t
 ·subst e
  simp only[beq_self_eq_true]at hs
  cases hs
  simp[Act.put,Array.getD_eq_getD_getElem?,h.1,ht]
 ·have e':(s==t)=false:=by simpa using e
  rw[e']at hs
  have:=h.2 s u hs
  simp_all [Act.put,Array.getD_eq_getD_getElem?,Array.getElem?_setIfInBounds_ne,Ne.symm]
theorem qIV{F:Fence}{n:Nat}{P:Program}{f:FuncId}{args:Array Value}{u:FrameMode}{w:World}{R R':Ending->FrameMode->World->Prop}(h:CallsDIn F n P f args u w R)(k:∀e u' w',R e u' w'->R' e u' w'):CallsDIn F n P f args u w R' :=
 ⟨h.1,fun c cs h1 h2=>let ⟨e,u',w',fr,a,b⟩:=h.2 c cs h1 h2;⟨e,u',w',fr,k _ _ _ a,b⟩⟩
def qDP(a0 a1 a2 a3:Int):List Value:=[.int .i64 a0,.int .i64 a1,.int .i64 a2,.int .i64 a3,.int .i64 0]
structure PM (V0:Mem) (d:Ds) (p F b8 b9:Nat) (gs ns ls:Sl) (nd:List Nd) (V:Mem) (s:St) (c:Nat) (a0 a1 a2 a3:Int):Prop where
 ex:∃W,V0.sub W/\W p=none/\V p=some (.cells (qBM d F s.tk c s.cm gs ns ls).toArray 128 (0,0))/\Lay W V gs ns ls nd s/\W b8=some (cell (pv p) 124)/\W b9=some (.cells (qDP a0 a1 a2 a3).toArray 54 (0,0))
section
variable{V0 V:Mem}{d:Ds}{p F b8 b9 c:Nat}{gs ns ls:Sl}{nd:List Nd}{s:St}{a0 a1 a2 a3 a0' a1' a2' a3':Int}
theorem PM.set9(h:PM V0 d p F b8 b9 gs ns ls nd V s c a0 a1 a2 a3)(n89:b8≠b9)(v9:V0 b9=none){x:Array Value}(hx:x=(qDP a0' a1' a2' a3').toArray):PM V0 d p F b8 b9 gs ns ls nd (V.set b9 (.cells x 54 (0,0))) s c a0' a1' a2' a3':=by
 obtain⟨W,h1,h2,h3,L,h8,h9⟩:=h.ex
 have np:p≠b9:=fun e=>by simp_all
 exact⟨W.set b9 (.cells x 54 (0,0)),h1.set v9 _,by rw[Mem.set_ne np];exact h2,by rw[Mem.set_ne np];exact h3,L.poke (by rw[h9];simp) _,by rw[Mem.set_ne n89];exact h8,by rw[Mem.set_same,hx]⟩
theorem PM.set8(h:PM V0 d p F b8 b9 gs ns ls nd V s c a0 a1 a2 a3)(n89:b8≠b9)(v8:V0 b8=none){x:Array Value}(hx:x=#[pv p]):PM V0 d p F b8 b9 gs ns ls nd (V.set b8 (.cells x 124 (0,0))) s c a0 a1 a2 a3:=by
 obtain⟨W,h1,h2,h3,L,h8,h9⟩:=h.ex
 have np:p≠b8:=fun e=>by simp_all
 exact⟨W.set b8 (.cells x 124 (0,0)),h1.set v8 _,by rw[Mem.set_ne np];exact h2,by rw[Mem.set_ne np];exact h3,L.poke (by rw[h8];simp) _,by rw[Mem.set_same,hx],by grind [Mem.set_ne]⟩
theorem PM.at8(h:PM V0 d p F b8 b9 gs ns ls nd V s c a0 a1 a2 a3):V b8=some (cell (pv p) 124):=by
 obtain⟨W,h1,h2,h3,L,h8,h9⟩:=h.ex
 exact L.sub _ _ h8
theorem PM.at9(h:PM V0 d p F b8 b9 gs ns ls nd V s c a0 a1 a2 a3):V b9=some (.cells (qDP a0 a1 a2 a3).toArray 54 (0,0)):=by
 obtain⟨W,h1,h2,h3,L,h8,h9⟩:=h.ex
 exact L.sub _ _ h9
theorem PM.em(h:PM V0 d p F b8 b9 gs ns ls nd V s c a0 a1 a2 a3):EM V0 d p F V s c:=by
 obtain⟨W,h1,h2,h3,L,h8,h9⟩:=h.ex
 exact MA.narrow (W:=W) ⟨h2,gs,ns,ls,nd,h3,L⟩ h1
theorem PM.atp(h:PM V0 d p F b8 b9 gs ns ls nd V s c a0 a1 a2 a3):V p=some (.cells (qBM d F s.tk c s.cm gs ns ls).toArray 128 (0,0)):=by
 obtain⟨W,h1,h2,h3,L,h8,h9⟩:=h.ex
 exact h3
theorem PM.log(h:PM V0 d p F b8 b9 gs ns ls nd V s c a0 a1 a2 a3):qAc V ls 3 (s.lg.map qHv):=by
 obtain⟨W,h1,h2,h3,L,h8,h9⟩:=h.ex
 exact L.log.rows (fun _=>rfl) (by decide)
theorem qIr{l:List (Int×Int×Int)}{i:Nat}{x:Int×Int×Int}(h:l[i]?=some x):qBa (l.take (i+1))=qBa (l.take i)+if 0<x.2.1 then 1 else 0:=by
 unfold qBa
 rw[List.take_add_one,h,List.filter_append,List.length_append]
 grind
theorem nodesN_le(l:List (Int×Int×Int))(i:Nat):qBa (l.take i)<=i:=by
 grind [qBa]
theorem lateTail(n89:b8≠b9)(v9:V0 b9=none)(P:PM V0 d p F b8 b9 gs ns ls nd V s c a0 a1 0 0){R:Ending->Mem->Prop}(hR:∀V',PM V0 d p F b8 b9 gs ns ls nd V' s c a0 a1 s.cm (qBa s.lg)->R (rT #[]) V') :
    (∃v4,V.rowp (sa b8) ((0:Int).toNat*1) 1=some [uP v4] /\
 ¬v4=none/\¬v4=none/\∃v5,V.rowp v4 ((13:Int).toNat*1) 1=some [uI v5] /\
 ¬(some (⟨b9,0,none⟩:Addr))=none/\¬(qAa (sa b9) 2)=none/\StT (qAa (sa b9) 2) 0 [uI v5] V fun V2 =>
 ∃v6,V2.rowp (sa b8) ((0:Int).toNat*1) 1=some [uP v6] /\
 ¬v6=none/\¬v6=none/\∃v7,V2.rowp v6 ((14:Int).toNat*1) 1=some [uL v7] /\
 ∃(I:Nat->List Value->Mem->Prop) (n0:Nat),I n0 [uI 0] V2/\∀n V3,∀v8,I n [uI v8] V3->∀J0:List Value->Mem->Prop,(∀m ys V'',m<n->I m ys V''->J0 ys V'') ->
 Br (v8<(v7.n:Int))
 (¬v7.p=none/\0<=v8/\v8<(v7.n:Int)/\∃v9 v10 v11,V3.rowp v7.p (v8.toNat*3) 3=some [uI v9,uI v10,uI v11] /\
 Br (0<v10)
 (¬(some (⟨b9,0,none⟩:Addr))=none/\¬(qAa (sa b9) 2)=none/\∃v12,V3.rowp (sa b9) ((3:Int).toNat*1) 1=some [uI v12] /\
 IR (v12+1)/\¬(some (⟨b9,0,none⟩:Addr))=none/\¬(qAa (sa b9) 2)=none/\StT (qAa (sa b9) 3) 0 [uI (v12+1)] V3 fun V4 =>
 IR (v8+1)/\J0 [uI (v8+1)] V4)
 (IR (v8+1)/\J0 [uI (v8+1)] V3))
 (R (rT #[]) V3)):=by
  refine⟨_,qBD P.at8,nn,nn,_,qAd P.atp 13 1 (by simp[qBM]),nn,pnn,StT.at2 (off:=2) P.at9 (by simp[qDP]) ?_⟩
  have P2:=P.set9 (a0':=a0) (a1':=a1) (a2':=s.cm) (a3':=0) n89 v9 (x:=(((qDP a0 a1 0 0).toArray.toList.take 2++[Value.int .i64 (s.cm:Int)]++(qDP a0 a1 0 0).toArray.toList.drop (2+[Value.int .i64 (s.cm:Int)].length)).toArray)) (by simp[qDP])
  refine⟨_,qBD P2.at8,nn,nn,ls,qAd P2.atp 14 1 (by simp[qBM]),qJg s.lg.length (fun i V3=>PM V0 d p F b8 b9 gs ns ls nd V3 s c a0 a1 s.cm (qBa (s.lg.take i))) P2 ?_⟩
  intro i V3 J hi P3 hJ
  refine⟨fun hlt=>?_,fun hge=>?_⟩
  · have hr:=P3.log
    obtain⟨x,-,hx,-,hil,hp,hz,hrow⟩:=hr.get hlt
    have hc:=hr.cap
    have hf:=hr.fit
    have hnn:=hr.n_eq
    have hle:=nodesN_le s.lg i
    have hs:=qIr hx
    refine⟨hp,hz,hlt,_,_,_,hrow,fun h0=>⟨nn,pnn,_,qAd P3.at9 3 1 (by simp[qDP]),⟨by omega,by omega⟩,nn,pnn,StT.at2 (off:=3) P3.at9 (by simp[qDP]) ⟨hr.succ hlt,hJ hil _ ?_⟩⟩,fun h0=>⟨hr.succ hlt,hJ hil _ ?_⟩⟩
    · rw[if_pos h0]at hs
      exact P3.set9 n89 v9 (by rw[hs];simp[qDP])
    simp_all
  · have hd:=(P3.log.done hge).2
    grind
def fltVE(e:Int):Value:=.iface 201 (.agg #[.int .i64 e])
theorem lateNil(n89:b8≠b9)(v9:V0 b9=none)(P:PM V0 d p F b8 b9 gs ns ls nd V s c 0 a1 0 0):Seg Tryz.prog 46 c115a [(0,pv b9),(1,pv b8),(2,.nilIface)] [] V fun _ V'=>PM V0 d p F b8 b9 gs ns ls nd V' s c 0 a1 s.cm (qBa s.lg):=by
 refine s115a (c:=.nilIface) ?_
 unfold w115a
 exact GenK.eqNilNil rfl rfl ⟨false,rfl,(fun k=>by cases k),fun _=>lateTail (R:=fun e V'=>∃vs:List Value,e=.returned (.tuple vs.toArray)/\PM V0 d p F b8 b9 gs ns ls nd V' s c 0 a1 s.cm (qBa s.lg)) n89 v9 P fun V' h=>⟨[],rfl,h⟩⟩
theorem lateFlt(n89:b8≠b9)(v9:V0 b9=none){e:Int}(P:PM V0 d p F b8 b9 gs ns ls nd V s c 0 a1 0 0):Seg Tryz.prog 46 c115a [(0,pv b9),(1,pv b8),(2,fltVE e)] [] V fun _ V'=>PM V0 d p F b8 b9 gs ns ls nd V' s c e a1 s.cm (qBa s.lg):=by
 refine s115a (c:=fltVE e) ?_
 unfold w115a
 refine GenK.neqNil rfl rfl ⟨true,rfl,fun _=>?_,fun k=>absurd rfl k⟩
 refine GenK.assertOk Tryz.underlying201 rfl ⟨e,true,rfl,fun _=>⟨nn,StT.at2 (off:=0) P.at9 (by simp[qDP]) ?_⟩,fun k=>absurd rfl k⟩
 exact lateTail (R:=fun x V'=>∃vs:List Value,x=.returned (.tuple vs.toArray)/\PM V0 d p F b8 b9 gs ns ls nd V' s c e a1 s.cm (qBa s.lg)) n89 v9 (P.set9 (a0':=e) (a1':=a1) (a2':=0) (a3':=0) n89 v9 (by simp[qDP])) fun V' h=>⟨[],rfl,h⟩
noncomputable def lateX:Code:=(flat (qAn Tryz.f115)).getD 0 .skip
theorem lateBody:(Tryz.f115).body=some (qAn Tryz.f115):=by kernel_rfl
theorem lateX_eq:lateX=.region 0 #[(qEt lateX).getD 0 dOp,(qEt lateX).getD 1 dOp] false:=by kernel_rfl
theorem late_flat:flat (qAn Tryz.f115)=lateX::c115a:=by kernel_rfl
theorem qHi{tmps:Array Value}{w:World}:(results Tryz.f115 tmps).run Tryz.prog w=.ok (.tuple #[]) w:=by
 simp_all [results]
theorem lateC(n89:b8≠b9)(v9:V0 b9=none)(P:PM V0 d p F b8 b9 gs ns ls nd V s c 0 a1 0 0){w:World}(hw:V.le w){u:FrameMode}{n:Nat}{f:Int}(hu:(u=.returning/\f=0)∨u=.panicking [{ v:=fltVE f,recovered:=false }]) :
  CallsDIn (qAz none) n Tryz.prog 115 #[pv b9,pv b8] u w fun e u' w'=>(∃v,e=.returned v)/\(∃V2,Frm V w V2 w'/\PM V0 d p F b8 b9 gs ns ls nd V2 s c f a1 s.cm (qBa s.lg)) /\
   ((u=.returning/\u'=.returning)∨(u'=.panicking [{ v:=fltVE f,recovered:=true }])):=by
 refine qJj (fn:=Tryz.f115) (at0:=#[]) (t3:=2) (t6:=7) Tryz.func115 lateBody late_flat lateX_eq (by kernel_rfl) (by kernel_rfl) (by kernel_rfl) (by kernel_rfl) (by kernel_rfl) (by kernel_rfl) (by simp_all) (by simp_all) ?_
 intro v u' hrec
 have h0:=qKJ (qKJ (qHN (args:=[pv b9,pv b8]) (N:=46) (by simp)) (t:=7) (v:=v) (by decide)) (t:=2) (v:=v) (by decide)
 have hH:Has 46 _ [(0,pv b9),(1,pv b8),(2,v)]:=⟨h0.1,fun s x hs=>by
  simp only[List.lookup_cons]at hs
  repeat' split at hs
  all_goals first
   | (rename_i e;simp only[beq_iff_eq]at e;subst e;cases hs;exact h0.get rfl)
   | cases hs⟩
 rcases hu with⟨rfl,rfl⟩|rfl
 ·obtain⟨rfl,rfl⟩:v=.nilIface/\u'=.returning:=hrec
  refine qCA ?_ (lateNil n89 v9 P none n _ w hw hH.1 hH.2)
  rintro e a' w' ⟨rfl,h1,-,vs,V',-,h4,h5⟩
  exact⟨.inl rfl,h1,_,qHi,⟨_,rfl⟩,⟨V',h5,h4⟩,.inl ⟨rfl,rfl⟩⟩
 ·obtain⟨rfl,rfl⟩:v=fltVE f/\u'=.panicking [{ v:=fltVE f,recovered:=true }]:=by
   obtain⟨h1,h2⟩:=hrec
   grind
  refine qCA ?_ (lateFlt n89 v9 P none n _ w hw hH.1 hH.2)
  rintro e a' w' ⟨rfl,h1,-,vs,V',-,h4,h5⟩
  exact⟨.inl rfl,h1,_,qHi,⟨_,rfl⟩,⟨V',h5,h4⟩,.inr rfl⟩
end
end Go.Proofs
