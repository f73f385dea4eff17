/- Part 18 of a proof of a law of this seat: no statement of the seat is proved here. -/
import Derived.Test.YtginfholjbbgeaaGreatDoorPart17
import Derived.Test.YtginfholjbbgeaaGreatDoorPart15
import Derived.Test.YtginfholjbbgeaaGreatDoorPart14
set_option linter.unusedVariables false
set_option linter.unusedSimpArgs false
namespace Go.Proofs
open Go Go.Sx
attribute [local irreducible] Go.Sx.Tri
section
variable{W V0 V V1 V':Mem}{d:Ds}{p F c q:Nat}{s:St}{pr:Pr}{vals:List Int}
structure FrX (W V0:Mem) (q:Nat) (pr:Pr) (vals:List Int) (r:Option Int):Prop where
 sub:W.sub V0
 q0:W q=none
 ex:∃a b:Sl,V0 q=some (.cells (qIK pr a b r).toArray 207 (0,0))/\qAd W a 2 (pr.vars.map Fld.row)/\Sx.Own W V0 3 1 b (vals.flatMap qAo)
theorem FrX.gv(h:FrX W V0 q pr vals none):Gv V0 q pr vals:=by
 obtain⟨a,b,h1,h2,h3⟩:=h.ex
 exact⟨a,b,h1,h2.sub h.sub,h3.rows (fun _=>rfl) (by decide)⟩
theorem qIf{b:Sl}{vs:List Value}(own:Sx.Own W V0 3 1 b vs)(q0:W q=none){x:Array Value}(hq:V0 q=some (.cells x 207 (0,0)))(o:Obj):Sx.Own W (V0.set q o) 3 1 b vs :=
 Own.moveB own (own.sub.set q0 _) fun g cur _ hg=>by
  rw[Mem.set_ne];exact hg
  grind
theorem frStoreX{ty:Nat}{row:Sl->Sl->Sl->List Value}{b:Sl}(own:Sx.Own W V0 3 1 b (vals.flatMap qAo))(M:MA ty V0 p row V s){i:Nat}(hi:i<vals.length){v:Int}{Q:Mem->Prop}
  (hQ:∀V0' V',Sx.Own W V0' 3 1 b ((vals.set i v).flatMap qAo)->MA ty V0' p row V' s->(∀x,¬Blk b x->V0' x=V0 x)->Q V'):StT (qAa b.p (i*1)) 0 [.int .i64 v] V Q:=by
 rw[Nat.mul_one]
 rcases own.cases0 with⟨h1,h2,h3⟩|⟨hc,g,cur,h1,h2,h3,h4,h5,h6,h7⟩
 ·rw[qAR]at h3
  have:vals=[]:=by simpa using h3
  rw[this]at hi;simp at hi
 have hle:b.n*1<=b.c*1:=Nat.mul_le_mul_right _ h4
 have hn:=own.len
 rw[qAR,List.length_map]at hn
 have hg0:V0 g≠none:=by rw[h3];simp
 rw[h1]
 have e:(cur.toList.take i++[Value.int .i64 v]++cur.toList.drop (i+1))=cur.toList.set i (.int .i64 v):=qCG _ _ _ (by simp;omega)
 refine StT.at2 (off:=i) (M.sub _ _ h3) (by simp;omega) (hQ (V0.set g _) _ ⟨own.sub.set h2 _,?_,.inr ⟨g,_,h1,h2,Mem.set_same _ _ _,h4,h5,?_,?_⟩⟩ (M.poke hg0 _) fun x hx=>?_)
 ·rw[qAR,List.length_map,List.length_set];exact hn
 ·simp_all
 ·rw[show i+[Value.int .i64 v].length=i+1 from rfl,e]
  show (cur.toList.set i (.int .i64 v)).take (b.n*1)=_
  rw[List.take_set,h7,qAR,qAR,List.map_set]
 ·rw[Mem.set_ne]
  rintro rfl
  exact hx ⟨hc,h1⟩
def PY(W:Mem)(d:Ds)(p F:Nat)(c:Int)(q:Nat)(pr:Pr)(r:Rx Rt):Ending->Mem->Prop:=fun e V'=>e=.returned (.tuple #[])/\match r with
 | .ok rt s=>∃V0',FrX W V0' q pr rt.1 rt.2/\XM V0' d p F V' s c 0
 | .bad k s=>k≠0/\∃V0' vals rv,FrX W V0' q pr vals rv/\XM V0' d p F V' s c k
theorem PY.ok{c:Int}{G:Rx Rt}{rt:Rt}(hG:G=.ok rt s)(hf:FrX W V0 q pr rt.1 rt.2)(M:XM V0 d p F V s c 0):PY W d p F c q pr G (.returned (.tuple #[])) V:=by
 rw[hG];exact⟨rfl,V0,hf,M⟩
theorem PY.bad{c:Int}{G:Rx Rt}{k:Int}(hG:G=.bad k s)(hk:k≠0){rv:Option Int}(hf:FrX W V0 q pr vals rv)(M:XM V0 d p F V s c k):PY W d p F c q pr G (.returned (.tuple #[])) V:=by
 rw[hG];exact⟨rfl,hk,V0,vals,rv,hf,M⟩
theorem PY.any{c:Int}{f:FuncId}{args:Array Value}{r:Rx Rt}{K:Mem->Prop}(H:Tri Tryz.prog f args V (PY W d p F c q pr r))(h:∀V0' vals' rv kf s V',FrX W V0' q pr vals' rv->XM V0' d p F V' s c kf->(kf=0/\r=.ok (vals',rv) s∨kf≠0/\r=.bad kf s)->K V') :
  Tri Tryz.prog f args V fun e V'=>e=.returned (.tuple #[])/\K V' :=
 Tri.mono H fun e V' k=>by
  cases r with
  | ok rt s=>obtain⟨h1,V0',h2,h3⟩:=k;grind
  | bad kf s=>obtain⟨h1,hk,V0',vals',rv,h2,h3⟩:=k;grind
theorem PY.last{c:Int}{f:FuncId}{args:Array Value}{G r:Rx Rt}(hG:G=r)(H:Tri Tryz.prog f args V (PY W d p F c q pr r)):Tri Tryz.prog f args V fun e V'=>e=.returned (.tuple #[])/\PY W d p F c q pr G (.returned (.tuple #[])) V':=by
 subst hG
 refine PY.any H fun V0' vals' rv kf s V' hf M hc=>?_
 rcases hc with⟨rfl,e⟩|⟨hk,e⟩
 ·exact PY.ok e hf M
 ·exact PY.bad e hk hf M
structure Yx1 (W V0:Mem) (d:Ds) (p F c q:Nat) (pr:Pr) (vals:List Int) (n m:Nat) (V:Mem) (s:St):Prop where
 S:ES W d F
 fr:FrX W V0 q pr vals none
 pm:pr∈d.procs
 G:qAs d s.mm
 hv:qAj d s.mm pr.vars vals=true
 M:XM V0 d p F V s c 0
 tk:s.tk<=F
 n:F<n+s.tk
 w:BW m s
theorem Yx1.po{n m:Nat}(X:Yx1 W V0 d p F c q pr vals n m V s):qCA d pr:=X.S.procs pr X.pm
theorem Yx1.cx{n m:Nat}(X:Yx1 W V0 d p F c q pr vals n m V s):Yx V0 d p F c q pr vals n m V s:=⟨X.S.sub X.fr.sub,X.fr.gv,X.pm,X.G,X.hv,X.M,X.tk,X.n,X.w⟩
theorem Yx1.next{n m k:Nat}{V0':Mem}{vals':List Int}{s':St}(X:Yx1 W V0 d p F c q pr vals n (m+k) V s)(g:Gr F m s s')(G:qAs d s'.mm)(hf:FrX W V0' q pr vals' none)(hv:qAj d s'.mm pr.vars vals'=true)(M:XM V0' d p F V' s' c 0):Yx1 W V0' d p F c q pr vals' n k V' s' :=
 ⟨X.S,hf,X.pm,G,hv,M,g.fu X.tk,by have:=g.tk;have:=X.n;omega,X.w.next g⟩
theorem Yx1.le{n m k:Nat}(X:Yx1 W V0 d p F c q pr vals n m V s)(h:k<=m):Yx1 W V0 d p F c q pr vals n k V s:=⟨X.S,X.fr,X.pm,X.G,X.hv,X.M,X.tk,X.n,X.w.le h⟩
theorem Yx1.tick{n:Nat}(X:Yx1 W V0 d p F c q pr vals (n+1) 0 V s)(h:s.tk<F)(M:XM V0 d p F V' { s with tk:=s.tk+1 } c 0):Yx1 W V0 d p F c q pr vals n 4000 V' { s with tk:=s.tk+1 } :=
 ⟨X.S,X.fr,X.pm,⟨X.G.valid,X.G.chk,X.G.mem⟩,X.hv,M,h,by have:=X.n;grind,by have:=X.w;grind [BW]⟩
variable(d p F) in
def XSC(n:Nat):Prop:=∀(l:List S) (W V0 V:Mem) (s:St) (c q:Nat) (pr:Pr) (vals:List Int) (sl:Sl),Yx1 W V0 d p F c q pr vals n 0 V s->(∀x∈l,TyS d pr x)->(∀x∈l,S.Ok W x)->qAd W sl 5 (l.map S.row) ->
 Tri Tryz.prog 127 #[pv p,pv q,sl.v] V (PY W d p F c q pr (qBZ d F n c pr l vals s))
variable(d p F) in
def XLoopC(n:Nat):Prop:=∀(x:S) (W V0 V:Mem) (s:St) (c q:Nat) (pr:Pr) (vals:List Int),x.op=4->Yx1 W V0 d p F c q pr vals (n+1) 0 V s->TyS d pr x->S.Ok W x ->
 Tri Tryz.prog 162 #[pv p,pv q,x.v] V (PY W d p F c q pr (stX d F (qBZ d F n) c pr (n+1) x vals s))
variable(d p F) in
def XBodyC(n:Nat):Prop:=∀(x:S) (W V0 V:Mem) (s:St) (c q:Nat) (pr:Pr) (vals:List Int),x.op≠4->Yx1 W V0 d p F c q pr vals n 4000 V s->TyS d pr x->S.Ok W x ->
 Tri Tryz.prog 164 #[pv p,pv q,x.v] V (PY W d p F c q pr (qGL d F (qBZ d F n) c pr (n+1) x vals s))
theorem FrX.done{kf cc:Int}{r:Option Int}(h:FrX W V0 q pr vals r)(M:XM V0 d p F V s cc kf):V.rowp (sa q) ((7:Int).toNat*1) 1=some [.bool r.isSome]:=by
 obtain⟨a,b,h1,-,-⟩:=h.ex
 exact qAc (M.sub _ _ h1) 7 1 (by simp[qIK])
theorem stsY{n:Nat}(HL:XLoopC d p F n)(HB:XBodyC d p F n):XSC d p F (n+1):=by
 intro l W V0 V s c q pr vals sl X hty hok hrows
 obtain⟨f,hf⟩:∃f,f=stX d F (qBZ d F n) c pr (n+1):=⟨_,rfl⟩
 obtain⟨G,hG⟩:∃G:Rx Rt,G=qEw f l vals s:=⟨_,rfl⟩
 show Tri _ _ _ _ (PY W d p F c q pr (qEw (stX d F (qBZ d F n) c pr (n+1)) l vals s))
 rw[<- hf,<- hG]
 refine Tri.mono (x127 (R:=PY W d p F c q pr G) ?_) fun _ _ h=>h
 unfold w127
 refine qGC l.length (fun i V1=>∃V0' vals' s',Yx1 W V0' d p F c q pr vals' (n+1) 0 V1 s'/\G=qEw f (l.drop i) vals' s') ⟨V0,vals,s,X,hG⟩ ?_
 rintro i V1 J hi ⟨V0',vals',s',X',hG'⟩ hJ
 have hr:=hrows.sub (X'.fr.sub.trans X'.M.sub)
 refine⟨fun hlt=>?_,fun hge=>?_⟩
 ·obtain⟨x,hxm,hx,hdr,hil,hp,hz,hrow⟩:=hr.get hlt
  rw[S.row_eq]at hrow
  rw[hdr]at hG'
  have hG2:G=(f x vals' s').bind fun r st=>match r.2 with|some _=>.ok r st|none=>qEw f (l.drop (i+1)) r.1 st:=hG'
  have P:=st_snd (F:=F) (c:=c) (n:=n+1) X'.S.procs (qDn X'.S.procs n) X'.po (hty x hxm) X'.G X'.hv
  rw[<- hf]at P
  have after:∀{V2 V2':Mem} {vals2:List Int} {rv:Option Int} {kf:Int} {s2:St},FrX W V2' q pr vals2 rv->XM V2' d p F V2 s2 c kf->(kf=0/\f x vals' s'=.ok (vals2,rv) s2∨kf≠0/\f x vals' s'=.bad kf s2) ->
    (¬(some (⟨q,0,none⟩:Addr))=none/\¬(some (⟨q,0,none⟩:Addr))=none/\∃v9,V2.rowp (sa q) ((7:Int).toNat*1) 1=some [uB v9] /\
    Br (v9=true) (PY W d p F c q pr G (rT #[]) V2)
    (¬(some (⟨p,0,none⟩:Addr))=none/\¬(some (⟨p,0,none⟩:Addr))=none/\∃v10,V2.rowp (sa p) ((13:Int).toNat*1) 1=some [uI v10] /\
    Br (v10=0) (IR ((i:Int)+1)/\J [uI ((i:Int)+1)] V2) (PY W d p F c q pr G (rT #[]) V2))):=fun {V2 V2' vals2 rv kf s2} hf2 M2 hc=>by
   refine⟨nn,nn,_,hf2.done M2,fun hd=>?_,fun hd=>⟨nn,nn,_,M2.fault,fun hk0=>?_,fun hk0=>?_⟩⟩
   ·rcases hc with⟨rfl,e2⟩|⟨hk,e2⟩
    ·cases rv with
     | none=>cases hd
     | some z=>exact PY.ok (rt:=(vals2,some z)) (by rw[hG2,e2];rfl) hf2 M2
    ·exact PY.bad (by rw[hG2,e2];rfl) hk hf2 M2
   ·have hk0:kf=0:=hk0
    rcases hc with⟨-,e2⟩|⟨hk,-⟩
    rotate_left
    ·omega
    subst hk0
    cases rv with
    | some z=>grind
    | none =>
     obtain⟨G2,g2,q2⟩:=P.got e2
     exact⟨hr.succ hlt,hJ hil _ ⟨V2',vals2,s2,X'.next (m:=0) g2 G2 hf2 q2.1 M2,by rw[hG2,e2];rfl⟩⟩
   ·have hk0:¬kf=0:=hk0
    rcases hc with⟨h,-⟩|⟨hk,e2⟩
    ·omega
    ·exact PY.bad (by rw[hG2,e2];rfl) hk hf2 M2
  refine⟨hp,hz,hlt,_,_,_,_,_,hrow,fun h4=>?_,fun h4=>?_⟩
  ·have Hx:=HL x W V0' V1 s' c q pr vals' h4 X' (hty x hxm) (hok x hxm)
   rw[<- hf,S.v_eq]at Hx
   exact PY.any Hx fun V2' vals2 rv kf s2 V2 hf2 M2 hc=>after hf2 M2 hc
  ·refine Tri.mono (c163 X'.S.fuel X'.M) ?_
   rintro e1 V2 (⟨htk,rfl,M2⟩|⟨htk,rfl,M2⟩)
   ·refine⟨_,rfl,fun _=>?_,fun h=>absurd rfl h⟩
    have Hx:=HB x W V0' V2 _ c q pr vals' h4 (X'.tick htk M2) (hty x hxm) (hok x hxm)
    have e:qGL d F (qBZ d F n) c pr (n+1) x vals' { s' with tk:=s'.tk+1 }=f x vals' s':=by rw[hf];unfold stX;rw[qHt htk];rfl
    rw[e,S.v_eq]at Hx
    exact PY.any Hx fun V2' vals2 rv kf s2 V2 hf2 M2 hc=>after hf2 M2 hc
   ·refine⟨_,rfl,(fun h=>by cases h),fun _=>after X'.fr M2 (.inr ⟨by decide,?_⟩)⟩
    rw[hf];unfold stX;rw[qFG htk];rfl
 ·rw[(hr.done hge).1]at hG'
  exact PY.ok hG' X'.fr X'.M
end
section
variable{W V0 V V1 V':Mem}{d:Ds}{p F c q:Nat}{s:St}{pr:Pr}{vals:List Int}
theorem exprF{kf cc:Int}(M:XM V0 d p F V s cc kf)(hk:kf≠0){b:Option Addr}{e:E}:PP 210 [pv p,.pointer b,e.v] V (.int .i64 0):=by
 refine x210 ?_
 unfold w210
 exact⟨nn,nn,_,M.fault,fun h=>absurd h hk,fun _=>⟨rfl,rfl⟩⟩
theorem loopY{n:Nat}(hE:XExprC d p F n)(hS:XSC d p F n):XLoopC d p F n:=by
 intro x W V0 V s c q pr vals h4 X hty hok
 obtain⟨G,hG0⟩:∃G:Rx Rt,G=stX d F (qBZ d F n) c pr (n+1) x vals s:=⟨_,rfl⟩
 rw[<- hG0]
 refine Tri.mono (S.v_eq x ▸ x162 (R:=PY W d p F c q pr G) ?_) fun _ _ h=>h
 unfold w162
 have hF:=X.S.fuel
 have hcs:=qDn (F:=F) X.S.procs n
 cases kindS hty with
 | @loop a h he hv ht =>
  have h0:x.es[0]?=some a:=by rw[he];rfl
  obtain⟨-,-,-,hlt1,-⟩:=hty.parts
  have hG:G=(qHk F s).bind fun _ st=>whX d F (qBZ d F n) c pr a x.ls (n+1) vals st:=by
   grind [stX,qGL]
  refine⟨fun m xs V2=>xs=[]/\∃V0' vals' s',Yx1 W V0' d p F c q pr vals' (n+1) 0 V2 s'/\F<m+(s'.tk+1)/\G=(qHk F s').bind fun _ st=>whX d F (qBZ d F n) c pr a x.ls m vals' st,n+1,⟨rfl,V0,vals,s,X,by have:=X.n;omega,hG⟩,?_⟩
  rintro m V2 ⟨-,V0',vals',s',X',hm,hG'⟩ J hJ
  refine Tri.mono (c163 hF X'.M) ?_
  rintro e1 V3 (⟨htk,rfl,M3⟩|⟨htk,rfl,M3⟩)
  rotate_left
  ·refine⟨_,rfl,(fun h=>by cases h),fun _=>PY.bad (s:=s') ?_ (by decide) X'.fr M3⟩
   rw[hG',qFG htk];rfl
  have X1:=X'.tick htk M3
  have hG1:G=whX d F (qBZ d F n) c pr a x.ls m vals' { s' with tk:=s'.tk+1 }:=by rw[hG',qHt htk];rfl
  obtain⟨m,rfl⟩:∃m',m=m'+1:=⟨m-1,by omega⟩
  rw[whX]at hG1
  have hp:=qBu hv
  obtain⟨k1,k3,k4⟩:=esAt (hok.sub (X1.fr.sub.trans X1.M.sub)) h0
  have HE:=hE a qAu V0' V3 _ c q pr vals' (X1.cx.le (k:=szE a) (by omega)) hp.1 ((hok.eOk a (List.mem_of_getElem? h0)).sub X1.fr.sub) ht
  refine⟨_,rfl,fun _=>⟨k1,by decide,k3,_,_,_,_,k4,XR.any HE fun v kf s2 V4 M4 hc=>?_⟩,fun h=>absurd rfl h⟩
  rcases hc with⟨rfl,e2⟩|⟨hk,rfl,e2⟩
  rotate_left
  ·exact qAq rfl (PY.bad (by rw[hG1];unfold evS;rw[e2];rfl) hk X1.fr M4)
  obtain⟨G2,g2,q2⟩:=(qDX (F:=F) (c:=c) X1.S.procs hcs X1.po hv ht X1.G X1.hv).got e2
  have hG2:G=if v=0 then .ok (vals',none) s2 else (qBZ d F n c pr x.ls vals' s2).bind fun r st=>match r.2 with|some _=>.ok r st|none=>(qHk F st).bind fun _ st=>whX d F (qBZ d F n) c pr a x.ls m r.1 st:=by
   rw[hG1];unfold evS;rw[e2];rfl
  have X2:Yx1 W V0' d p F c q pr vals' n 0 V4 s2:=(X1.le (k:=1000+0) (by omega)).next g2 G2 X1.fr (qAm (fun h=>g2.right h) X1.hv) M4
  refine⟨fun hz=>?_,fun hz=>⟨nn,nn,_,M4.fault,fun _=>?_,fun h=>absurd rfl h⟩⟩
  ·rw[if_pos (show v=0 from hz)]at hG2
   exact PY.ok hG2 X2.fr M4
  rw[if_neg (show ¬v=0 from hz)]at hG2
  have P:=hcs c pr x.ls vals' s2 X2.po hlt1 X2.G X2.hv
  refine PY.any (hS x.ls W V0' V4 s2 c q pr vals' x.ll X2 hlt1 hok.lOk hok.lRows) fun V2' vals2 rv kf s3 V5 hf3 M5 hc=>?_
  refine⟨nn,nn,_,hf3.done M5,fun hd=>?_,fun hd=>⟨nn,nn,_,M5.fault,fun hk0=>?_,fun hk0=>?_⟩⟩
  ·rcases hc with⟨rfl,e3⟩|⟨hk,e3⟩
   ·cases rv with
    | none=>cases hd
    | some z=>exact PY.ok (rt:=(vals2,some z)) (by rw[hG2,e3];rfl) hf3 M5
   ·exact PY.bad (by rw[hG2,e3];rfl) hk hf3 M5
  ·have hk0:kf=0:=hk0
   rcases hc with⟨-,e3⟩|⟨hk,-⟩
   rotate_left
   ·omega
   subst hk0
   cases rv with
   | some z=>grind
   | none =>
    obtain⟨G3,g3,q3⟩:=P.got e3
    have t2:=g2.tk
    have t3:=g3.tk
    have hn1:=X'.n
    have ht2:s'.tk+1<=s2.tk:=t2
    refine hJ m _ _ (by omega) ⟨rfl,V2',vals2,s3,?_,by omega,by rw[hG2,e3];rfl⟩
    have X3:=X2.next (m:=0) (k:=0) g3 G3 hf3 q3.1 M5
    exact⟨X3.S,X3.fr,X3.pm,X3.G,X3.hv,X3.M,X3.tk,by omega,X3.w⟩
  ·have hk0:¬kf=0:=hk0
   rcases hc with⟨h,-⟩|⟨hk,e3⟩
   ·omega
   ·exact PY.bad (by rw[hG2,e3];rfl) hk hf3 M5
 | set h=>omega
 | put h=>omega
 | cond h=>omega
 | ret0 h=>omega
 | ret1 h=>omega
 | call h=>omega
theorem retY{kf cc:Int}(hf:FrX W V0 q pr vals none)(M:XM V0 d p F V s cc kf){v:Int}{Q:Mem->Prop}(hQ:∀V0' V',FrX W V0' q pr vals (some v)->XM V0' d p F V' s cc kf->Q V') :
  StT (qAa (sa q) 8) 0 [.int .i64 v] V fun V2=>¬(some (⟨q,0,none⟩:Addr))=none/\¬(some (⟨q,0,none⟩:Addr))=none/\StT (qAa (sa q) 7) 0 [.bool true] V2 Q:=by
 obtain⟨a,b,h1,h2,h3⟩:=hf.ex
 have n0:V0 q≠none:=by rw[h1];simp
 refine StT.at2 (off:=8) (M.sub _ _ h1) (by simp[qIK]) ⟨nn,nn,StT.at2 (off:=7) mss (by simp[qIK]) ?_⟩
 have o1:=qIf h3 hf.q0 h1 (.cells ((qIK pr a b none).toArray.toList.take 8++[Value.int .i64 v]++(qIK pr a b none).toArray.toList.drop (8+[Value.int .i64 v].length)).toArray 207 (0,0))
 have o2:=qIf o1 hf.q0 mss (.cells (qIK pr a b (some v)).toArray 207 (0,0))
 have M1:=M.poke n0 (.cells ((qIK pr a b none).toArray.toList.take 8++[Value.int .i64 v]++(qIK pr a b none).toArray.toList.drop (8+[Value.int .i64 v].length)).toArray 207 (0,0))
 have M2:=M1.poke (b:=q) (by rw[Mem.set_same];simp) (.cells (qIK pr a b (some v)).toArray 207 (0,0))
 exact hQ _ _ ⟨(hf.sub.set hf.q0 _).set hf.q0 _,hf.q0,a,b,Mem.set_same _ _ _,h2,o2⟩ M2
theorem retY0{kf cc:Int}(hf:FrX W V0 q pr vals none)(M:XM V0 d p F V s cc kf){Q:Mem->Prop}(hQ:∀V0' V',FrX W V0' q pr vals (some 0)->XM V0' d p F V' s cc kf->Q V') :
  StT (qAa (sa q) 7) 0 [.bool true] V Q:=by
 obtain⟨a,b,h1,h2,h3⟩:=hf.ex
 have n0:V0 q≠none:=by rw[h1];simp
 refine StT.at2 (off:=7) (M.sub _ _ h1) (by simp[qIK]) ?_
 have o1:=qIf h3 hf.q0 h1 (.cells (qIK pr a b (some 0)).toArray 207 (0,0))
 have M1:=M.poke n0 (.cells (qIK pr a b (some 0)).toArray 207 (0,0))
 exact hQ _ _ ⟨hf.sub.set hf.q0 _,hf.q0,a,b,Mem.set_same _ _ _,h2,o1⟩ M1
theorem bodyY{n:Nat}(hE:XExprC d p F n)(hR:XCallC d p F n)(hS:XSC d p F n):XBodyC d p F n:=by
 intro x W V0 V s c q pr vals h4 X1 hty hok
 obtain⟨G,hG⟩:∃G:Rx Rt,G=qGL d F (qBZ d F n) c pr (n+1) x vals s:=⟨_,rfl⟩
 rw[<- hG]
 refine Tri.mono (S.v_eq x ▸ x164 (R:=PY W d p F c q pr G) ?_) fun _ _ h=>h
 unfold w164
 have hcs:=qDn (F:=F) X1.S.procs n
 have ex:∀{i:Nat} {a:E} {u:ByteArray} {V2 V0':Mem} {vals':List Int} {s2:St} {m:Nat},x.es[i]?=some a->qAI a=true->qAn d (qAf d pr) a=(u,0)->Yx1 W V0' d p F c q pr vals' n m V2 s2->1000<=m ->
   Tri Tryz.prog 210 #[pv p,pv q,.agg #[.int .i64 a.op,.int .i64 a.n,.string a.s,.slice a.l.p a.l.n a.l.c]] V2 (XR V0' d p F c (evS d (qBZ d F n) c pr vals' a s2)):=fun {i a u V2 V0' vals' s2 m} h0 hv ha X2 hm=>by
  have hp:=qBu hv
  exact hE a u V0' V2 s2 c q pr vals' (X2.cx.le (by omega)) hp.1 ((hok.eOk a (List.mem_of_getElem? h0)).sub X2.fr.sub) ha
 have go:∀{a:E} {u:ByteArray} {V2 V3 V0':Mem} {vals':List Int} {s2 s3:St} {m:Nat} {v:Int},qAI a=true->qAn d (qAf d pr) a=(u,0)->Yx1 W V0' d p F c q pr vals' n (1000+m) V2 s2->evS d (qBZ d F n) c pr vals' a s2=.ok v s3->XM V0' d p F V3 s3 c 0 ->
   Yx1 W V0' d p F c q pr vals' n m V3 s3/\qBE d s3.mm u v/\Gr F 1000 s2 s3:=fun {a u V2 V3 V0' vals' s2 s3 m v} hv ha X2 e M3=>by
  obtain⟨G3,g3,q3⟩:=(qDX (F:=F) (c:=c) X2.S.procs hcs X2.po hv ha X2.G X2.hv).got e
  exact⟨X2.next g3 G3 X2.fr (qAm (fun h=>g3.right h) X2.hv) M3,q3,g3⟩
 unfold qGL at hG
 have hW1:=X1.fr.sub.trans X1.M.sub
 cases kindS hty with
 | @set a u t h he hv ht hl hne hf =>
  rw[if_pos h,he,List.getD_cons_zero]at hG
  have h0:x.es[0]?=some a:=by rw[he];rfl
  obtain⟨k1,k3,k4⟩:=esAt (hok.sub hW1) h0
  refine qAq h ⟨k1,by decide,k3,_,_,_,_,k4,XR.any (ex h0 hv ht X1 (by omega)) fun v kf s2 V2 M2 hc=>?_⟩
  refine x211 ?_
  unfold w211
  refine⟨nn,nn,_,M2.fault,fun hz=>?_,fun hz=>?_⟩
  rotate_left
  ·rcases hc with⟨h,-⟩|⟨hk,-,e2⟩
   ·omega
   ·exact⟨rfl,PY.bad (by rw[hG,e2];rfl) hk X1.fr M2⟩
  have hz:kf=0:=hz
  rcases hc with⟨-,e2⟩|⟨hk,-⟩
  rotate_left
  ·exact absurd hz hk
  subst hz
  rw[e2]at hG
  have hG2:G=setX d pr x.s v vals s2:=hG
  obtain⟨X2,hv2,-⟩:=go (m:=3000) hv ht X1 e2 M2
  obtain⟨fa,fb,hq0,hra0,hrb0⟩:=X2.fr.ex
  have hq:=M2.sub _ _ hq0
  refine⟨nn,nn,fa,qAc hq 5 1 (by simp[qIK]),(c253 (hra0.sub (X2.fr.sub.trans M2.sub))).call ⟨_,rfl,?_⟩⟩
  unfold setX at hG2
  rcases qFj X2.G X2.hv X2.po.vars hl hne with⟨i,g,w,h1,h2,h3,h4,-⟩|⟨i,g,w,h0',h1,h2,h3,h4,-⟩
  ·rw[h1]
   rw[if_pos (by omega),h1,Int.toNat_natCast]at hG2
   have hil:=(List.getElem?_eq_some_iff.1 h3).1
   obtain⟨g1,g2,g3,-⟩:=gAt (hrb0.rows (fun _=>rfl) (by decide)) h3
   refine qAq (by omega) ⟨nn,nn,fb,qAc hq 6 1 (by simp[qIK]),g1,g2,g3,frStoreX hrb0 M2 hil fun V0' V' ho M' hx=>?_⟩
   refine⟨rfl,PY.ok (rt:=(vals.set i v,none)) hG2 ⟨ho.sub,X2.fr.q0,fa,fb,?_,hra0,ho⟩ M'⟩
   rw[hx];exact hq0
   exact hrb0.apart fun cur hcq=>by
    simp_all
  ·rw[h0']
   rw[if_neg (by omega),h1,Int.toNat_natCast]at hG2
   obtain⟨gs,ns,ls,nd,hat,L⟩:=M2.ex
   have hd:=(X2.S.sub X2.fr.sub).ds.sub L.sub
   refine qAi (by decide) ⟨nn,nn,pnn,d.gs,qAc hat 2 1 (by simp[qBt]),(c253 hd.globals).call ⟨_,rfl,?_⟩⟩
   rw[h1]
   refine Tri.mono (c248 M2 (Yx.fit (m:=0) (X2.cx.le (by omega)))) ?_
   rintro _ V5 ⟨rfl,M5⟩
   obtain⟨gs5,ns5,ls5,nd5,hat5,L5⟩:=M5.ex
   obtain⟨g1,g2,g3,-⟩:=gAt (L5.glob.rows (fun _=>rfl) (by decide)) (i:=i) (v:=w) h3
   have hil:=(List.getElem?_eq_some_iff.1 h3).1
   refine⟨rfl,nn,nn,pnn,gs5,qAc hat5 8 1 (by simp[qBt]),g1,g2,g3,L5.setG (i:=i) hil fun V6 L6 hk6=>?_⟩
   refine⟨rfl,PY.ok (V0:=V0) (rt:=(vals,none)) hG2 X2.fr (MA.mk M5.p0 ⟨gs5,ns5,ls5,nd5,?_,L6⟩)⟩
   rw[hk6 _ (qGW hat5 ntX L5.glob (.inl rfl))];exact hat5
 | @put a b u w t h he hv hw ha ht hl hf =>
  rw[if_neg (by omega),if_pos h,he,List.getD_cons_zero,List.getD_cons_succ,List.getD_cons_zero]at hG
  have h0:x.es[0]?=some a:=by rw[he];rfl
  have h1:x.es[1]?=some b:=by rw[he];rfl
  obtain⟨k1,k3,k4⟩:=esAt (hok.sub hW1) h0
  refine qAi (by omega) (qAq h ?_)
  refine x212 ?_
  unfold w212
  refine⟨k1,by decide,k3,_,_,_,_,k4,XR.any (ex h0 hv ha X1 (by omega)) fun v kf s2 V2 M2 hc=>?_⟩
  obtain⟨l1,l3,l4⟩:=esAt (hok.sub (X1.fr.sub.trans M2.sub)) h1
  refine⟨l1,by decide,l3,_,_,_,_,l4,?_⟩
  rcases hc with⟨rfl,e2⟩|⟨hk,-,e2⟩
  rotate_left
  ·exact(exprF M2 hk (e:=b)).call ⟨_,rfl,nn,nn,_,M2.fault,fun h=>absurd h hk,fun _=>⟨rfl,PY.bad (by rw[hG,e2];rfl) hk X1.fr M2⟩⟩
  rw[e2]at hG
  obtain⟨X2,hv2,-⟩:=go (m:=3000) hv ha X1 e2 M2
  refine XR.any (ex h1 hw ht X2 (by omega)) fun y kf s3 V3 M3 hc=>⟨nn,nn,_,M3.fault,fun hz=>?_,fun hz=>?_⟩
  rotate_left
  ·rcases hc with⟨h,-⟩|⟨hk,-,e3⟩
   ·omega
   ·exact⟨rfl,PY.bad (by rw[hG];show ((evS d (qBZ d F n) c pr vals b s2).bind _)=_;rw[e3];rfl) hk X2.fr M3⟩
  have hz:kf=0:=hz
  rcases hc with⟨-,e3⟩|⟨hk,-⟩
  rotate_left
  ·exact absurd hz hk
  subst hz
  have hG3:G=(putX d v y x.s s3).bind fun _ st=>.ok (vals,none) st:=by rw[hG];show ((evS d (qBZ d F n) c pr vals b s2).bind _)=_;rw[e3];rfl
  obtain⟨X3,hv3,g3⟩:=go (m:=2000) hw ht X2 e3 M3
  have hv2:=g3.val hv2
  refine⟨fun hz=>?_,fun hz=>?_⟩
  ·refine Tri.mono (c126 M3) ?_
   rintro _ V4 ⟨rfl,M4⟩
   refine⟨_,rfl,rfl,PY.bad (s:=s3) (k:=17) ?_ (by decide) X3.fr M4⟩
   rw[hG3];unfold putX;rw[if_pos (show v=0 from hz)];rfl
  have hz:¬v=0:=hz
  obtain⟨k,i,j,tt,g,fs,z,rfl,f2,f3,f4,f5,f6,f7,f8,-⟩:=qEM X3.G hl hv2 hz
  have hG4:G=.ok (vals,none) { s3 with ns:=s3.ns.set k ((j:Int),fs.set i y),lg:=s3.lg++[(2,(k:Int)+1,(i:Int))] }:=by
   rw[hG3];unfold putX
   rw[if_neg hz,show ((k:Int)+1-1).toNat=k by omega,f2]
   simp only
   rw[f5,f6,Int.toNat_natCast];rfl
  refine(c247 (X3.S.sub X3.fr.sub) M3 f2 f3).call ⟨_,rfl,?_⟩
  rw[f6]
  refine Tri.mono (c248 M3 (Yx.fit (m:=0) (X3.cx.le (by omega)))) ?_
  rintro _ V5 ⟨rfl,M5⟩
  obtain⟨gs5,ns5,ls5,nd5,sl5,hat5,L5,hnd5,hI,n1,n2,n3,n4,m1,m2,m3,m4⟩:=nodeX M5 (k:=k) (i:=i) f2 f8
  have hil:=(List.getElem?_eq_some_iff.1 f8).1
  rw[show ((k:Int)+1-1)=(k:Int) by omega]
  refine⟨rfl,nn,nn,pnn,ns5,qAc hat5 9 1 (by simp[qBt]),hI,n1,n2,n3,qAe n1,_,_,n4,m1,m2,m3,L5.setF hnd5 hil fun V6 L6 hk6=>?_⟩
  refine⟨rfl,PY.ok (V0:=V0) (rt:=(vals,none)) hG4 X3.fr (MA.mk M5.p0 ⟨gs5,ns5,ls5,_,?_,L6⟩)⟩
  rw[hk6 _ (qGW hat5 ntX (L5.fld _ (List.mem_of_getElem? hnd5)) (.inl rfl))];exact hat5
 | @cond a h he hv ht =>
  rw[if_neg (by omega),if_neg (by omega),if_pos h,he,List.getD_cons_zero]at hG
  have h0:x.es[0]?=some a:=by rw[he];rfl
  obtain⟨k1,k3,k4⟩:=esAt (hok.sub hW1) h0
  obtain⟨-,-,-,hlt1,hlt2⟩:=hty.parts
  refine qAi (by omega) (qAi (by omega) (qAq h ⟨k1,by decide,k3,_,_,_,_,k4,XR.any (ex h0 hv ht X1 (by omega)) fun v kf s2 V2 M2 hc=>⟨nn,nn,_,M2.fault,fun hz=>?_,fun hz=>?_⟩⟩))
  rotate_left
  ·rcases hc with⟨h,-⟩|⟨hk,-,e2⟩
   ·omega
   ·exact PY.bad (by rw[hG,e2];rfl) hk X1.fr M2
  have hz:kf=0:=hz
  rcases hc with⟨-,e2⟩|⟨hk,-⟩
  rotate_left
  ·omega
  subst hz
  rw[e2]at hG
  have hG2:G=if v=0 then qBZ d F n c pr x.xs vals s2 else qBZ d F n c pr x.ls vals s2:=hG
  obtain⟨X2,-,-⟩:=go (m:=3000) hv ht X1 e2 M2
  refine⟨fun hz=>PY.last ?_ (hS x.xs W V0 V2 s2 c q pr vals x.xl (X2.le (by omega)) hlt2 hok.xOk hok.xRows),fun hz=>PY.last ?_ (hS x.ls W V0 V2 s2 c q pr vals x.ll (X2.le (by omega)) hlt1 hok.lOk hok.lRows)⟩
  ·simp_all
  simp_all
 | loop h=>exact absurd h h4
 | ret0 h he hr =>
  rw[if_neg (by omega),if_neg (by omega),if_neg (by omega),if_neg (by omega),if_pos h,he]at hG
  have hn:=(hok.sub hW1).eRows.n_eq
  rw[he]at hn
  refine qAi (by omega) (qAi (by omega) (qAi (by omega) (qAq h (qAi (by rw[hn];decide) ⟨nn,nn,retY0 X1.fr X1.M fun V0' V' hf M'=>?_⟩))))
  exact PY.ok (rt:=(vals,some 0)) hG hf M'
 | @ret1 a u h he hv ht hr hf =>
  rw[if_neg (by omega),if_neg (by omega),if_neg (by omega),if_neg (by omega),if_pos h,he]at hG
  have h0:x.es[0]?=some a:=by rw[he];rfl
  have hn:=(hok.sub hW1).eRows.n_eq
  rw[he]at hn
  obtain⟨k1,k3,k4⟩:=esAt (hok.sub hW1) h0
  refine qAi (by omega) (qAi (by omega) (qAi (by omega) (qAq h (qAq (by rw[hn];rfl) ⟨k1,by decide,k3,_,_,_,_,k4,XR.any (ex h0 hv ht X1 (by omega)) fun v kf s2 V2 M2 hc=>⟨nn,nn,retY X1.fr M2 fun V0' V' hf M'=>?_⟩⟩))))
  rcases hc with⟨rfl,e2⟩|⟨hk,-,e2⟩
  ·exact PY.ok (rt:=(vals,some v)) (by rw[hG];show (evS d (qBZ d F n) c pr vals a s).bind _=_;rw[e2];rfl) hf M'
  ·exact PY.bad (by rw[hG];show (evS d (qBZ d F n) c pr vals a s).bind _=_;rw[e2];rfl) hk hf M'
 | @call a pr' i h he hv ho hc =>
  rw[if_neg (by omega),if_neg (by omega),if_neg (by omega),if_neg (by omega),if_neg (by omega),if_pos h,he,List.getD_cons_zero]at hG
  have h0:x.es[0]?=some a:=by rw[he];rfl
  obtain⟨k1,k3,k4⟩:=esAt (hok.sub hW1) h0
  have hp:=qBu hv
  refine qAi (by omega) (qAi (by omega) (qAi (by omega) (qAi (by omega) (qAq h ⟨k1,by decide,k3,_,_,_,_,k4,XR.any (exprX0 hR a V0 V s c q pr vals (X1.cx.le (by omega)) hp.1 ((hok.eOk a (List.mem_of_getElem? h0)).sub X1.fr.sub) (.inr ⟨ho,pr',i,hc⟩)) fun v kf s2 V2 M2 hcc=>?_⟩))))
  rcases hcc with⟨rfl,e2⟩|⟨hk,-,e2⟩
  ·exact PY.ok (rt:=(vals,none)) (by rw[hG];unfold evS;rw[e2];rfl) X1.fr M2
  ·exact PY.bad (by rw[hG];unfold evS;rw[e2];rfl) hk X1.fr M2
end
theorem set_fill{args:List Int}{n i:Nat}{v:Int}(hi:args[i]?=some v)(hn:i<n):(args.take i++List.replicate (n-i) 0).set i v=args.take (i+1)++List.replicate (n-(i+1)) 0:=by
 have hl:=(List.getElem?_eq_some_iff.1 hi).1
 have hlen:(args.take i).length=i:=by grind
 rw[List.set_append_right _ _ (by omega),hlen,Nat.sub_self]
 obtain⟨m,hm⟩:∃m,n-i=m+1:=⟨n-i-1,by omega⟩
 grind [List.take_add_one]
section
variable{V0 V:Mem}{d:Ds}{p F:Nat}{s:St}
theorem callY{n:Nat}(H:XSC d p F n):XCallC d p F n:=by
 intro V0 V s c i pr args l hS hpr G ha hl M htk hn hw
 obtain⟨G',hG⟩:∃G':Rx Int,G'=qCk d (qBZ d F n) c i args s:=⟨_,rfl⟩
 rw[<- hG]
 have hpm:=List.mem_of_getElem? hpr
 have hpo:=hS.procs pr hpm
 refine Tri.mono (x93 (R:=XR V0 d p F c G') ?_) fun _ _ h=>h
 unfold w93
 obtain⟨gs,ns,ls,nd,hat,L⟩:=M.ex
 unfold qCk at hG
 refine⟨nn,nn,_,qAc hat 12 1 (by simp[qBt]),fun h2=>failX M (by decide) (by grind),fun h2=>?_⟩
 rw[if_neg (by omega),Int.toNat_natCast,hpr]at hG
 refine⟨nn,nn,_,qAc hat 12 1 (by simp[qBt]),⟨by omega,by omega⟩,nn,nn,StT.at2 (off:=12) hat (by simp[qBt]) ?_⟩
 have M1:XM V0 d p F (V.set p (.cells (qBt d F s.tk ((c+1:Nat):Int) 0 s.cm (qAB s.lg) gs ns ls).toArray 96 (0,0))) s ((c+1:Nat):Int) 0:=MA.set (row':=qBt d F s.tk ((c+1:Nat):Int) 0 s.cm (qAB s.lg)) ntX M.p0 hat L rfl rfl rfl rfl
 obtain⟨V1,hV1⟩:∃V1,V1=V.set p (.cells (qBt d F s.tk ((c+1:Nat):Int) 0 s.cm (qAB s.lg) gs ns ls).toArray 96 (0,0)):=⟨_,rfl⟩
 rw[<- hV1]at M1
 have e1:V.set p (.cells ((qBt d F s.tk c 0 s.cm (qAB s.lg) gs ns ls).toArray.toList.take 12++[Value.int .i64 ((c:Int)+1)]++(qBt d F s.tk c 0 s.cm (qAB s.lg) gs ns ls).toArray.toList.drop (12+[Value.int .i64 ((c:Int)+1)].length)).toArray 96 (0,0))=V1:=by rw[hV1];rfl
 erw [e1]
 obtain⟨gs1,ns1,ls1,nd1,hat1,L1⟩:=M1.ex
 have hd1:=hS.ds.sub L1.sub
 have hn1:=hd1.procs.n_eq
 have hil:=(List.getElem?_eq_some_iff.1 hpr).1
 obtain⟨y,-,hy,-,-,hp1,hz1,hrow1⟩:=hd1.procs.get (i:=i) (by omega)
 rw[hpr]at hy;cases hy
 refine⟨nn,nn,pnn,d.ps,qAc hat1 3 1 (by simp[qBt]),hp1,hz1,by omega,_,_,_,_,_,hrow1,fun b0 hb0=>?_⟩
 have hok:=hd1.procsOk pr hpm
 have hln:=hpo.lens
 have s0:=Mem.sub_new hb0 (.cells #[] 113 (0,0))
 refine qFz (s:=⟨some ⟨b0,0,none⟩,0,0⟩) (u:=pr.ps) (xs:=[]) (ys:=pr.params) rfl rfl (Own.empty s0 _ _ _) (hok.params.sub s0) (by simp;omega) fun s2 V2 o2=>⟨s2,rfl,?_⟩
 refine qFz (s:=s2) (u:=pr.ls) (xs:=pr.params) (ys:=pr.locals) rfl rfl o2 (hok.locals.sub o2.sub) (by omega) fun s3 V3 o3=>⟨s3,rfl,?_⟩
 have h3n:=o3.n_eq (fun _=>rfl) (by decide)
 rw[List.length_append]at h3n
 refine mk31 (n:=s3.n) rfl rfl (by omega) fun g hg=>⟨⟨some ⟨g,0,none⟩,s3.n,s3.n⟩,rfl,?_⟩
 have hown:=qHz hg (n:=s3.n) (by omega)
 have hal:=(qAy.1 ha).1
 obtain⟨V4,hV4⟩:∃V4,V4=V3.set g (.cells (madeCells (Value.int .i64 0).cells (s3.n*1)) 3 (0,0)):=⟨_,rfl⟩
 rw[<- hV4]at hown ⊢
 refine qGC args.length (fun j V5=>Sx.Own V3 V5 3 1 ⟨some ⟨g,0,none⟩,s3.n,s3.n⟩ ((args.take j++List.replicate (s3.n-j) 0).flatMap qAo)) (by simp_all) ?_
 rintro j V5 J hj o5 hJ
 have s35:=o5.sub
 have hl5:=hl.sub ((M1.sub.trans o3.sub).trans s35)
 refine⟨fun hlt=>?_,fun hge=>?_⟩
 ·obtain⟨v,-,hv,-,hjl,hp,hz,hrow⟩:=hl5.get hlt
  refine⟨hp,hz,hlt,v,hrow,nn,by omega,(show (j:Int)<(s3.n:Int) by omega),?_⟩
  show StT (qAa (sa g) (j*1)) 0 [.int .i64 v] V5 _
  rw[Nat.mul_one]
  refine Own.store o5 (i:=j) (by rw[qAR,List.length_map,List.length_append,List.length_take,List.length_replicate];omega) fun V6 o6 _=>⟨hl5.succ hlt,hJ hjl _ ?_⟩
  have e:((args.take j++List.replicate (s3.n-j) 0).flatMap qAo).set j (Value.int .i64 v)=(args.take (j+1)++List.replicate (s3.n-(j+1)) 0).flatMap qAo:=by
   rw[qAR,qAR,<- set_fill hv (by omega),List.map_set]
  simp_all
 ·have hdn:=(hl5.done hge).2
  have hja:j=args.length:=by omega
  subst hja
  rw[List.take_length,show s3.n-args.length=pr.locals.length by omega]at o5
  intro b2 hb2
  obtain⟨V6,hV6⟩:∃V6,V6=V5.set b2 (.cells (qIK pr s3 ⟨some ⟨g,0,none⟩,s3.n,s3.n⟩ none).toArray 207 (0,0)):=⟨_,rfl⟩
  have e6:V5.set b2 (.cells #[uS pr.name,uL pr.ps,uS pr.result,uL pr.ls,uL pr.bs,uL s3,uL ⟨some ⟨g,0,none⟩,s3.n,s3.n⟩,uB false,uI 0] 207 (0,0))=V6:=by rw[hV6];rfl
  show Tri _ _ #[pv p,pv b2,.slice pr.bs.p pr.bs.n pr.bs.c] (V5.set b2 (.cells #[uS pr.name,uL pr.ps,uS pr.result,uL pr.ls,uL pr.bs,uL s3,uL ⟨some ⟨g,0,none⟩,s3.n,s3.n⟩,uB false,uI 0] 207 (0,0))) _
  rw[e6]
  have s56:V5.sub V6:=hV6 ▸ Mem.sub_new hb2 _
  have s36:=s35.trans s56
  have s16:=o3.sub.trans s36
  obtain⟨W0,w0,w6,MW,hWn⟩:=M1.after s16
  have n1:∀{b:Nat},V3 b=none->V1 b=none:=fun {b} h=>free o3.sub h
  have n5:V3 b2=none:=free s35 hb2
  obtain⟨b,hb⟩:∃b:Sl,b=⟨some ⟨g,0,none⟩,s3.n,s3.n⟩:=⟨_,rfl⟩
  rw[<- hb]at o5 hV6
  have hbk:∀{x:Nat},Blk b x->V3 x=none:=fun h=>Own.none0 o5 h
  have nb2:¬Blk b b2:=fun hk=>by
   grind [Own.some]
  obtain⟨W,hW⟩:∃W,W=Mem.minus W0 (fun x=>x=b2∨Blk b x):=⟨_,rfl⟩
  have hWW:W.sub W0:=by rw[hW];exact qBH
  have V03:V0.sub V3:=M1.sub.trans o3.sub
  have hws:V0.sub W:=fun x o hx=>by
   rw[hW,qAV]
   ·exact w0 _ _ hx
   ·rintro (rfl|hk)
    ·have:=V03 _ _ hx;simp_all
    ·have:=V03 _ _ hx;simp_all
  have o5':Sx.Own W W0 3 1 b ((args++List.replicate pr.locals.length (0:Int)).flatMap qAo):=own_to o5 hWW fun x o hk h0 h1=>⟨by rw[hW];exact qBT (.inr hk),hWn _ _ (n1 h0) (s56 _ _ h1)⟩
  have hs3:Sx.Own (fun _=>none) W 113 2 s3 ((pr.params++pr.locals).flatMap Fld.row):=own_to o3 (fun _ _ h=>by cases h) fun x o hk h0 h1=>⟨rfl,by
   rw[hW,qAV]
   ·exact hWn _ _ h0 (s36 _ _ h1)
   grind⟩
  have hfr:W0 b2=some (.cells (qIK pr s3 b none).toArray 207 (0,0)):=hWn _ _ (n1 n5) (by rw[hV6];exact Mem.set_same _ _ _)
  have FR:FrX W W0 b2 pr (args++List.replicate pr.locals.length 0) none:=⟨hWW,by rw[hW];exact qBT (.inl rfl),s3,b,hfr,hs3.rows (fun _=>rfl) (by decide),o5'⟩
  have hv:=qDx ha (qDK G.valid fun f hf=>hpo.vars f (List.mem_append_right _ hf))
  have hokW:=(hS.ds.sub hws).procsOk pr hpm
  refine PY.any (H pr.body W W0 V6 s (c+1) b2 pr _ pr.bs ⟨hS.sub hws,FR,hpm,G,hv,MW,htk,hn,hw⟩ hpo.body (fun x hx=>hokW.stmts x hx) hokW.body) fun W7 vals7 rv kf s7 V7 f7 M7 hc=>?_
  obtain⟨gs7,ns7,ls7,nd7,hat7,L7⟩:=M7.ex
  refine⟨nn,nn,_,qAc hat7 12 1 (by simp[qBt]),⟨by omega,by omega⟩,nn,nn,StT.at2 (off:=12) hat7 (by simp[qBt]) ?_⟩
  have M8:XM W7 d p F (V7.set p (.cells (qBt d F s7.tk c kf s7.cm (qAB s7.lg) gs7 ns7 ls7).toArray 96 (0,0))) s7 c kf:=MA.set (row':=qBt d F s7.tk c kf s7.cm (qAB s7.lg)) ntX M7.p0 hat7 L7 rfl rfl rfl rfl
  obtain⟨V8,hV8⟩:∃V8,V8=V7.set p (.cells (qBt d F s7.tk c kf s7.cm (qAB s7.lg) gs7 ns7 ls7).toArray 96 (0,0)):=⟨_,rfl⟩
  rw[<- hV8]at M8
  have e8:V7.set p (.cells ((qBt d F s7.tk ((c+1:Nat):Int) kf s7.cm (qAB s7.lg) gs7 ns7 ls7).toArray.toList.take 12++[Value.int .i64 (((c+1:Nat):Int)-1)]++(qBt d F s7.tk ((c+1:Nat):Int) kf s7.cm (qAB s7.lg) gs7 ns7 ls7).toArray.toList.drop (12+[Value.int .i64 (((c+1:Nat):Int)-1)].length)).toArray 96 (0,0))=V8:=by
   rw[hV8,show (((c+1:Nat):Int)-1)=(c:Int) by omega];rfl
  erw [e8]
  obtain⟨fa,fb,hq7,-,-⟩:=f7.ex
  have MN:=M8.narrow (hws.trans f7.sub)
  refine⟨nn,nn,_,M8.fault,fun hz=>⟨nn,nn,_,qAc (M8.sub _ _ hq7) 8 1 (by simp[qIK]),?_⟩,fun hz=>?_⟩
  ·have hz:kf=0:=hz
   rcases hc with⟨-,e⟩|⟨hk,-⟩
   ·subst hz
    exact XR.ok (by rw[hG];show ((qBZ d F n (c+1) pr pr.body _ s).bind _)=_;rw[e];rfl) MN
   omega
  ·rcases hc with⟨h,-⟩|⟨hk,e⟩
   ·omega
   ·exact XR.bad (by rw[hG];show ((qBZ d F n (c+1) pr pr.body _ s).bind _)=_;rw[e];rfl) hk MN
theorem allY(d:Ds)(p F:Nat):∀n,XSC d p F n
 | 0=>fun l W V0 V s c q pr vals sl X _ _ _=>absurd X.n (by have:=X.tk;omega)
 | n+1=>stsY (loopY (exprX (callY (allY d p F n))) (allY d p F n)) (bodyY (exprX (callY (allY d p F n))) (callY (allY d p F n)) (allY d p F n))
end
theorem copyInt{V:Mem}{b:Nat}{l:Sl}{xs:List Int}(hb:V b=none)(h:qAd V l 1 (xs.map qAo))(hn:xs.length<=2147483648){ty:Nat}{x y:Operand}{vals:Operand->Value}(hx:vals x=.slice (sa b) 0 0)(hy:vals y=.slice l.p l.n l.c){Q:Value->Mem->Prop}(hQ:∀s V',Sx.Own V V' 3 1 s (xs.flatMap qAo)->Q (.slice s.p s.n s.c) V') :
  GenK Tryz.prog (.call { callee:=.builtin .append,args:=#[x,y],argTypes:=#[31,31] }) ty vals (V.set b (.cells #[] 3 (0,0))) Q:=by
 have s1:=Mem.sub_new hb (.cells #[] 3 (0,0))
 exact app31 (s:=⟨some ⟨b,0,none⟩,0,0⟩) (u:=l) (xs:=[]) (ys:=xs) hx hy (Own.empty (V0:=V) s1 _ _ _) (h.sub s1) (by simpa using hn) fun s' V' ho=>hQ s' V' (by simpa using ho)
theorem c34{V:Mem}{m:Mm}(hm:Mm.Ok V m)(h1:m.globals.length<=2147483648)(h2:m.nodes.length<=4096)(h3:∀n∈m.nodes,n.f.length<=2147483648):Tri Tryz.prog 34 #[m.v] V fun e V'=>∃gs ns nd,e=.returned (.agg #[.slice gs.p gs.n gs.c,.slice ns.p ns.n ns.c])/\Lay V V' gs ns qAt nd (qDM m):=by
 refine x34 ?_
 unfold w34
 intro b0 hb0
 refine copyInt hb0 hm.globals h1 rfl rfl fun gs V1 o1=>?_
 refine⟨gs,rfl,loop3u (mk:=fun s:Sl=>.slice s.p s.n s.c) (mc:=fun s:Sl=>.slice s.p s.n s.c) (b0:=gs) (c0:=⟨none,0,0⟩) qBD qBD m.nodes.length (fun i b ns V2=>b=gs/\∃nd,Lay V V2 gs ns qAt nd ⟨m.globals,(m.nodes.take i).map fun n=>(n.ty,n.f),0,0,[]⟩/\nd.length=i) ⟨rfl,[],⟨o1,Own.nil o1.sub _ _,Own.nil o1.sub _ _,(fun n hn=>by cases hn),rfl,(fun n hn=>by cases hn),(fun i j n n' c h=>by cases h)⟩,rfl⟩ ?_⟩
 rintro i b ns V2 J hi ⟨rfl,nd,L,hnl⟩ hJ
 have hr:=hm.nodes.sub L.sub
 refine⟨fun hlt=>?_,fun hge=>?_⟩
 ·obtain⟨x,hxm,hx,-,hil,hp,hz,hrow⟩:=hr.get hlt
  have hq:=qAe (n:=i*2) hp
  have hlt':(i:Int)<(m.ns.n:Int):=hlt
  refine⟨hp,hz,hlt,hq,x.ty,x.sl,hrow,hp,hz,hlt,hq,x.ty,x.sl,hrow,qDy (j:=1) (m:=1) hrow (by decide) (by decide),hq,hp,hz,hlt,qEI (k:=1) hrow (by decide),hq,hp,hz,hlt,fun b1 hb1=>?_⟩
  refine copyInt hb1 ((hm.nodesOk x hxm).rows.sub L.sub) (h3 x hxm) rfl rfl fun fs V3 o3=>?_
  have hrow3:=(hr.sub o3.sub).get hlt
  obtain⟨y,-,hy,-,-,-,-,hrow3⟩:=hrow3
  rw[hx]at hy;cases hy
  refine⟨fs,rfl,qEI (k:=1) hrow3 (by decide),hq,hp,hz,hlt,fun tb htb=>L.new (n:=⟨x.ty,fs,x.f⟩) o3 htb rfl rfl (by omega) fun s' V' L' _=>⟨s',rfl,hr.succ hlt,hJ hil _ _ _ ⟨rfl,nd++[⟨x.ty,fs,x.f⟩],?_,by simp_all⟩⟩⟩
  grind [List.take_add_one]
 ·have hd:=(hr.done hge).2
  rw[List.take_of_length_le hd]at L
  exact⟨b,ns,nd,rfl,L⟩
section
variable{V V0:Mem}{d:Ds}{m:Mm}{F:Nat}{nm:ByteArray}{args:List Int}{l:Sl}
theorem c33(hd:Ds.Ok V d)(hm:Mm.Ok V m){F:Int}:PP 33 [d.v,m.v,.int .i64 F] V (.int .i64 (qAC d m F)):=by
 refine x33 ?_
 unfold w33
 have bad:¬qAs d m->(Ending.returned (.int .i64 1)=.returned (.int .i64 (qAC d m F))/\V=V):=fun h=>⟨by grind [qAC],rfl⟩
 refine(c59 hd).call ⟨_,rfl,fun h1=>(c60 hd).call ⟨_,rfl,fun h2=>(c61 hd hm).call ⟨_,rfl,fun h3=>?_,fun h3=>bad fun G=>h3 G.mem⟩,fun h2=>bad fun G=>h2 ?_⟩,fun h1=>bad fun G=>h1 G.valid⟩
 ·have h2:wellT d=true:=h2
  unfold wellT at h2
  rw[Bool.and_eq_true,decide_eq_true_eq]at h2
  have G:qAs d m:=⟨h1,chk_none h2.2,h3⟩
  refine⟨fun h=>⟨?_,rfl⟩,fun h=>⟨fun h2=>⟨?_,rfl⟩,fun h2=>⟨?_,rfl⟩⟩⟩
  ·grind [qAC]
  ·grind [qAC]
  grind [qAC]
 ·show wellT d=true
  unfold wellT
  rw[G.chk,G.valid];rfl
theorem c64(hd:Ds.Ok V d)(hm:Mm.Ok V m)(ha:qAd V l 1 (args.map qAo)) :
  PP 64 [d.v,m.v,.agg #[.string nm,l.v]] V (.int .i64 (qCN d m nm args)):=by
 refine x64 ?_
 unfold w64
 have fin:∀{e:Int},qCN d m nm args=e->(Ending.returned (.int .i64 e)=.returned (.int .i64 (qCN d m nm args))/\V=V):=fun e=>⟨by rw[e],rfl⟩
 refine(c92 hd).call ⟨_,rfl,fun h=>?_,fun h=>?_⟩
 ·grind [qCN,qDJ]
 ·have h:¬qDJ d nm<0:=h
  rcases qAP (fun t:Pr=>decide (t.name=nm)) d.procs with⟨h1,-⟩|⟨i,pr,h1,h2,-⟩
  ·omega
  have hi:qDJ d nm=(i:Int):=h1
  have hn:=hd.procs.n_eq
  have hil:=(List.getElem?_eq_some_iff.1 h2).1
  obtain⟨y,hym,hy,-,-,hp,hz,hrow⟩:=hd.procs.get (i:=i) (by omega)
  rw[h2]at hy;cases hy
  have hc:qCN d m nm args=if args.length=pr.params.length then (if qAj d m pr.params args=true then 0 else 11) else 3:=by grind [qCN]
  have hok:=(hd.procsOk pr hym).params
  have hln:=hok.n_eq
  have han:=ha.n_eq
  rw[h1]
  refine⟨hp,hz,by omega,_,_,_,_,_,hrow,fun hlen=>?_,fun hlen=>?_⟩
  ·have hlen:(l.n:Int)=(pr.ps.n:Int):=hlen
   have hl2:args.length=pr.params.length:=by omega
   rw[if_pos hl2]at hc
   refine qAJ (mk:=fun k:Int=>.int .i64 k) (b0:=0) args.length (fun j V1=>V1=V/\∀(i:Nat) f v,i<j->pr.params[i]?=some f->args[i]?=some v->qAv d m f.ty v=true) ⟨rfl,fun i f v h=>by omega⟩ ?_
   rintro j b V1 J hj ⟨rfl,hall⟩ hJ
   refine⟨fun hlt=>?_,fun hge=>?_⟩
   ·obtain⟨v,hvm,hv,-,hjl,hp1,hz1,hr1⟩:=ha.get hlt
    obtain⟨f,hfm,hf,-,-,hp2,hz2,hr2⟩:=hok.get (i:=j) (by omega)
    refine⟨hp2,hz2,by omega,qAe hp2,_,_,hr2,hp1,hz1,hlt,v,hr1,(c91 hd hm).call ⟨_,rfl,fun hb=>⟨ha.succ hlt,hJ hjl _ _ ⟨rfl,fun i g w hi' hg hw=>?_⟩⟩,fun hb=>fin ?_⟩⟩
    ·grind
    ·rw[hc,if_neg fun k=>hb ((qAy.1 k).2 j f v hf hv)]
   ·have hd2:=(ha.done hge).2
    have hval:qAj d m pr.params args=true:=qAy.2 ⟨hl2.symm,fun i f v hf hv=>hall i f v (by grind) hf hv⟩
    simp_all
  grind
theorem qGa(G:qAs d m):m.globals.length<=2147483648/\m.nodes.length<=4096/\∀n∈m.nodes,n.f.length<=2147483648:=by
 obtain⟨p1,p2,p3,p4,p5⟩:=qAx G.mem
 have h12:=qIo G.valid
 refine⟨by grind [qAy],p2,fun n hn=>?_⟩
 have:=(qAy.1 (p5 n hn)).1
 have hty:=of_decide_eq_true (p3 n hn)
 obtain⟨j,hj⟩:∃j:Nat,n.ty=(j:Int):=⟨n.ty.toNat,by omega⟩
 have hjl:j<d.types.length:=by omega
 have hx:=List.getElem?_eq_getElem hjl
 rw[hj,qBc hx rfl]at this
 grind
def PlayX(V0:Mem)(d:Ds)(F:Nat)(m:Mm)(nm:ByteArray)(args:List Int):Ending->Mem->Prop:=fun e V' =>
 ∃p,∃r:Rx Int,r=qCn d F (qDJ d nm) args (qDM m)/\XM V0 d p F V' r.st (outV r) (qKb r)/\e=.returned (pv p)
theorem c65(hd:Ds.Ok V d)(hm:Mm.Ok V m)(G:qAs d m)(ha:qAd V l 1 (args.map qAo))(hc:qCN d m nm args=0)(hF:F<=4000) :
  Tri Tryz.prog 65 #[d.v,m.v,.agg #[.string nm,l.v],.int .i64 F] V (PlayX V d F m nm args):=by
 refine x65 (R:=PlayX V d F m nm args) ?_
 unfold w65
 obtain⟨i,pr,hi,hpr,hval⟩:=qID hc
 obtain⟨l1,l2,l3⟩:=qGa G
 refine Tri.mono (c34 hm l1 l2 l3) ?_
 rintro _ V1 ⟨gs,ns,nd,rfl,L⟩
 refine⟨gs,ns,rfl,(c92 (hd.sub L.sub)).call ⟨_,rfl,?_⟩⟩
 rw[show qHC (fun t:Pr=>decide (t.name=nm)) d.procs=(i:Int) from hi]
 intro p hp
 have p0:V p=none:=free L.sub hp
 have s1:=Mem.sub_new hp (.cells (qBt d F 0 0 0 0 0 gs ns qAt).toArray 96 (0,0))
 have M1:XM V d p F (V1.set p (.cells (qBt d F 0 0 0 0 0 gs ns qAt).toArray 96 (0,0))) (qDM m) ((0:Nat):Int) 0:=⟨p0,gs,ns,qAt,nd,by rw[Mem.set_same];rfl,L.grow s1⟩
 have HC:=callY (allY d p F (F+1)) V (V1.set p (.cells (qBt d F 0 0 0 0 0 gs ns qAt).toArray 96 (0,0))) (qDM m) 0 i pr args l ⟨hd,G.valid,qJW G.valid G.chk,hF⟩ hpr (good_st G) (qAm (qDN (qEH m).symm) hval) ha M1 (by show 0<=F;omega) (by omega) (by unfold BW;simp[qDM])
 refine XR.any HC fun v kf s2 V2 M2 hk=>?_
 obtain⟨gs2,ns2,ls2,nd2,hat2,L2⟩:=M2.ex
 refine⟨pnn,pnn,StT.at2 (off:=12) hat2 (by simp[qBt]) ?_⟩
 have M3:XM V d p F (V2.set p (.cells (qBt d F s2.tk v kf s2.cm (qAB s2.lg) gs2 ns2 ls2).toArray 96 (0,0))) s2 v kf:=MA.set (row':=qBt d F s2.tk v kf s2.cm (qAB s2.lg)) ntX M2.p0 hat2 L2 rfl rfl rfl rfl
 have hr:qCn d F (qDJ d nm) args (qDM m)=qCk d (qBZ d F (F+1)) 0 i args (qDM m):=by rw[hi];rfl
 rcases hk with⟨rfl,e⟩|⟨hk0,rfl,e⟩
 ·exact⟨p,.ok v s2,by rw[hr,e],M3,rfl⟩
 ·exact⟨p,.bad kf s2,by rw[hr,e],M3,rfl⟩
theorem c38{p:Nat}{s:St}{c k:Int}(M:XM V0 d p F V s c k):PP 38 [pv p] V (.agg (qCZ k c s.cm (qAB s.lg)).toArray):=by
 obtain⟨gs,ns,ls,nd,hat,L⟩:=M.ex
 refine x38 ?_
 unfold w38
 exact⟨nn,nn,_,qAc hat 13 1 (by simp[qBt]),nn,nn,_,qAc hat 12 1 (by simp[qBt]),nn,nn,_,_,_,qAc hat 14 3 (by simp[qBt]),rfl,rfl⟩
def StartX(V:Mem)(d:Ds)(F:Nat)(m:Mm)(nm:ByteArray)(args:List Int):Ending->Mem->Prop:=fun e V' =>
 (qAE d m nm args F≠0/\V.sub V'/\∃q,V' q=some (.cells ([Go.Sx.vS (qAl []),qAt.v,qAt.v,qAt.v,qAt.v,qAt.v,qAt.v,qAt.v,qAt.v,qAt.v,.int .i64 0,.int .i64 0,.int .i64 0,.int .i64 0,.int .i64 0,.int .i64 0,.int .i64 0,qAt.v]:List Value).toArray 96 (0,0))/\e=.returned (.tuple #[pv q,.int .i64 (qAE d m nm args F)])) ∨
 (qAE d m nm args F=0/\∃p,∃r:Rx Int,r=qCn d F (qDJ d nm) args (qDM m)/\XM V d p F V' r.st (outV r) (qKb r)/\e=.returned (.tuple #[pv p,.int .i64 0]))
theorem c36(hd:Ds.Ok V d)(hm:Mm.Ok V m)(ha:qAd V l 1 (args.map qAo))(hF:F<=4000):Tri Tryz.prog 36 #[d.v,m.v,.agg #[.string nm,l.v],.int .i64 F] V (StartX V d F m nm args):=by
 refine x36 (R:=StartX V d F m nm args) ?_
 unfold w36
 have bad:∀{e:Int},qAE d m nm args F=e->e≠0->∀b,V b=none->StartX V d F m nm args (.returned (.tuple #[pv b,.int .i64 e])) (V.set b (.cells ([Go.Sx.vS (qAl []),qAt.v,qAt.v,qAt.v,qAt.v,qAt.v,qAt.v,qAt.v,qAt.v,qAt.v,.int .i64 0,.int .i64 0,.int .i64 0,.int .i64 0,.int .i64 0,.int .i64 0,.int .i64 0,qAt.v]:List Value).toArray 96 (0,0))):=fun h he b hb=>.inl ⟨by rw[h];exact he,Mem.sub_new hb _,b,Mem.set_same _ _ _,by rw[h]⟩
 refine(c33 hd hm).call ⟨_,rfl,fun h0=>?_,fun h0=>⟨fun h=>absurd h h0,fun _ b hb=>?_⟩⟩
 ·have G:=qEN h0
  have hs:qAE d m nm args F=qCN d m nm args:=by grind [qAE]
  refine(c64 hd hm ha).call ⟨_,rfl,fun h1=>?_,fun h1 b hb=>bad hs h1 b hb⟩
  refine Tri.mono (c65 hd hm G ha h1 hF) ?_
  rintro _ V1 ⟨p,r,hr,M,rfl⟩
  exact⟨_,rfl,.inr ⟨by omega,p,r,hr,M,rfl⟩⟩
 ·exact bad (by grind [qAE]) h0 b hb
end
theorem qEQ(x:Fld):(Fld.row x).length=2:=rfl
theorem qEl(x:Ty):(Ty.row x).length=2:=rfl
theorem qCy(x:Pr):(Pr.row x).length=5:=rfl
theorem qCh(x:E):(E.row x).length=4:=rfl
theorem qDe(x:S):(S.row x).length=5:=by cases x;rfl
theorem app22:AppP 22 132 2 Ty.row:=appG Tryz.underlying22 (by kernel_rfl) (by kernel_rfl) (by kernel_rfl) (by kernel_rfl) (by kernel_rfl) (by decide) qEl fun x u hu=>by simp only[Ty.row,Go.Sx.vS,Sl.v,List.mem_cons,List.not_mem_nil,or_false]at hu;rcases hu with rfl|rfl <;> rfl
theorem app24:AppP 24 121 5 Pr.row:=appG Tryz.underlying24 (by kernel_rfl) (by kernel_rfl) (by kernel_rfl) (by kernel_rfl) (by kernel_rfl) (by decide) qCy fun x u hu=>by simp only[Pr.row,Go.Sx.vS,Sl.v,List.mem_cons,List.not_mem_nil,or_false]at hu;rcases hu with rfl|rfl|rfl|rfl|rfl <;> rfl
theorem app114:AppP 114 116 4 E.row:=appG Tryz.underlying114 (by kernel_rfl) (by kernel_rfl) (by kernel_rfl) (by kernel_rfl) (by kernel_rfl) (by decide) qCh fun x u hu=>by simp only[E.row,Go.Sx.vS,Go.Sx.vI,Sl.v,List.mem_cons,List.not_mem_nil,or_false]at hu;rcases hu with rfl|rfl|rfl|rfl <;> rfl
theorem app117:AppP 117 119 5 S.row:=appG Tryz.underlying117 (by kernel_rfl) (by kernel_rfl) (by kernel_rfl) (by kernel_rfl) (by kernel_rfl) (by decide) qDe fun x u hu=>by
 cases x
 simp only[S.row,Go.Sx.vS,Go.Sx.vI,Sl.v,List.mem_cons,List.not_mem_nil,or_false]at hu;rcases hu with rfl|rfl|rfl|rfl|rfl <;> rfl
theorem c56{V:Mem}{l:Sl}{xs:List Fld}(h:qAd V l 2 (xs.map Fld.row))(hb:xs.length<=2147483648):Tri Tryz.prog 56 #[l.v] V fun e V'=>∃s:Sl,e=.returned (.slice s.p s.n s.c)/\Sx.Own V V' 113 2 s (xs.flatMap Fld.row):=by
 refine x56 ?_
 unfold w56
 refine⟨fun h0=>⟨⟨none,0,0⟩,rfl,?_⟩,fun h0 tb htb=>?_⟩
 ·have:xs=[]:=by
   cases xs with
   | nil=>rfl
   | cons a l2 =>
    have:=h.base (i:=0) (by simp)
    simp_all
  grind [Own.nil,Mem.sub.refl]
 ·have s1:=Mem.sub_new htb (.cells #[] 113 (0,0))
  exact qFz (s:=⟨some ⟨tb,0,none⟩,0,0⟩) (u:=l) (xs:=[]) (ys:=xs) rfl rfl (Own.empty (V0:=V) s1 _ _ _) (h.sub s1) (by simpa using hb) fun s' V' ho=>⟨s',rfl,s',rfl,by simpa using ho⟩
theorem c55{V:Mem}{l:Sl}{xs:List Ty}(h:qAd V l 2 (xs.map Ty.row))(hb:xs.length<=2147483648):Tri Tryz.prog 55 #[l.v] V fun e V'=>∃s:Sl,e=.returned (.slice s.p s.n s.c)/\Sx.Own V V' 132 2 s (xs.flatMap Ty.row):=by
 refine x55 ?_
 unfold w55
 refine⟨fun h0=>⟨⟨none,0,0⟩,rfl,?_⟩,fun h0 tb htb=>?_⟩
 ·have:xs=[]:=by
   cases xs with
   | nil=>rfl
   | cons a l2 =>
    have:=h.base (i:=0) (by simp)
    simp_all
  grind [Own.nil,Mem.sub.refl]
 ·have s1:=Mem.sub_new htb (.cells #[] 132 (0,0))
  exact app22 (s:=⟨some ⟨tb,0,none⟩,0,0⟩) (u:=l) (xs:=[]) (ys:=xs) rfl rfl (Own.empty (V0:=V) s1 _ _ _) (h.sub s1) (by simpa using hb) fun s' V' ho=>⟨s',rfl,s',rfl,by simpa using ho⟩
theorem c57{V:Mem}{l:Sl}{xs:List Pr}(h:qAd V l 5 (xs.map Pr.row))(hb:xs.length<=2147483648):Tri Tryz.prog 57 #[l.v] V fun e V'=>∃s:Sl,e=.returned (.slice s.p s.n s.c)/\Sx.Own V V' 121 5 s (xs.flatMap Pr.row):=by
 refine x57 ?_
 unfold w57
 refine⟨fun h0=>⟨⟨none,0,0⟩,rfl,?_⟩,fun h0 tb htb=>?_⟩
 ·have:xs=[]:=by
   cases xs with
   | nil=>rfl
   | cons a l2 =>
    have:=h.base (i:=0) (by simp)
    simp_all
  grind [Own.nil,Mem.sub.refl]
 ·have s1:=Mem.sub_new htb (.cells #[] 121 (0,0))
  exact app24 (s:=⟨some ⟨tb,0,none⟩,0,0⟩) (u:=l) (xs:=[]) (ys:=xs) rfl rfl (Own.empty (V0:=V) s1 _ _ _) (h.sub s1) (by simpa using hb) fun s' V' ho=>⟨s',rfl,s',rfl,by simpa using ho⟩
theorem c52{V:Mem}{l:Sl}{xs:List E}(h:qAd V l 4 (xs.map E.row))(hb:xs.length<=2147483648):Tri Tryz.prog 52 #[l.v] V fun e V'=>∃s:Sl,e=.returned (.slice s.p s.n s.c)/\Sx.Own V V' 116 4 s (xs.flatMap E.row):=by
 refine x52 ?_
 unfold w52
 refine⟨fun h0=>⟨⟨none,0,0⟩,rfl,?_⟩,fun h0 tb htb=>?_⟩
 ·have:xs=[]:=by
   cases xs with
   | nil=>rfl
   | cons a l2 =>
    have:=h.base (i:=0) (by simp)
    simp_all
  grind [Own.nil,Mem.sub.refl]
 ·have s1:=Mem.sub_new htb (.cells #[] 116 (0,0))
  exact app114 (s:=⟨some ⟨tb,0,none⟩,0,0⟩) (u:=l) (xs:=[]) (ys:=xs) rfl rfl (Own.empty (V0:=V) s1 _ _ _) (h.sub s1) (by simpa using hb) fun s' V' ho=>⟨s',rfl,s',rfl,by simpa using ho⟩
theorem c54{V:Mem}{l:Sl}{xs:List S}(h:qAd V l 5 (xs.map S.row))(hb:xs.length<=2147483648):Tri Tryz.prog 54 #[l.v] V fun e V'=>∃s:Sl,e=.returned (.slice s.p s.n s.c)/\Sx.Own V V' 119 5 s (xs.flatMap S.row):=by
 refine x54 ?_
 unfold w54
 refine⟨fun h0=>⟨⟨none,0,0⟩,rfl,?_⟩,fun h0 tb htb=>?_⟩
 ·have:xs=[]:=by
   cases xs with
   | nil=>rfl
   | cons a l2 =>
    have:=h.base (i:=0) (by simp)
    simp_all
  grind [Own.nil,Mem.sub.refl]
 ·have s1:=Mem.sub_new htb (.cells #[] 119 (0,0))
  exact app117 (s:=⟨some ⟨tb,0,none⟩,0,0⟩) (u:=l) (xs:=[]) (ys:=xs) rfl rfl (Own.empty (V0:=V) s1 _ _ _) (h.sub s1) (by simpa using hb) fun s' V' ho=>⟨s',rfl,s',rfl,by simpa using ho⟩
noncomputable def Mem.anew(V V':Mem):Mem:=Mem.minus V' fun c=>V c≠none
theorem anew_at{V V':Mem}{c:Nat}{o:Obj}(h:V c=none)(k:V' c=some o):Mem.anew V V' c=some o:=by
 simp_all [Mem.anew,qAV]
theorem qHJ{V V':Mem}{c:Nat}{o:Obj}(h:Mem.anew V V' c=some o):V c=none/\V' c=some o:=by
 simp_all [Mem.anew,Mem.minus]
def Kept(sl:Sl)(V V':Mem):Prop:=∀c o,V c=some o->¬Blk sl c->V' c=some o
theorem Kept.refl(sl:Sl)(V:Mem):Kept sl V V:=fun _ _ h _=>h
theorem Kept.trans{sl:Sl}{A B C:Mem}(h:Kept sl A B)(k:Kept sl B C):Kept sl A C:=fun c o hc hb=>k c o (h c o hc hb) hb
theorem Kept.of{sl:Sl}{A B:Mem}(h:A.sub B):Kept sl A B:=fun c o hc _=>h c o hc
theorem Kept.st{sl:Sl}{A B:Mem}(h:∀c,¬Blk sl c->B c=A c):Kept sl A B:=fun c o hc hb=>by simp_all
structure Prt {α:Type} (row:α->List Value) (e sz:Nat) (ok:Mem->α->Prop) (er:α->α) (V:Mem) (sl:Sl) (k:List α) (i:Nat) (O V2:Mem):Prop where
 ex:∃done:List α,done.length=i/\Sx.Own V V2 e sz sl ((done++k.drop i).flatMap row)/\(∀x∈done,ok (Mem.minus O fun c=>V c≠none∨Blk sl c) x)/\done.map er=(k.take i).map er
 vo:V.sub O
 kept:Kept sl O V2
theorem minus_mono{A B:Mem}{M:Nat->Prop}(h:∀c o,A c=some o->¬M c->B c=some o):(Mem.minus A M).sub (Mem.minus B M):=fun c o hc=>by
 grind [Mem.minus]
section
variable{α:Type}{row:α->List Value}{e sz:Nat}{ok:Mem->α->Prop}{er:α->α}{V O V2 V3 V4:Mem}{sl:Sl}{k:List α}{i:Nat}
theorem Prt.start(h:Sx.Own V V2 e sz sl (k.flatMap row)):Prt row e sz ok er V sl k 0 V2 V2:=⟨⟨[],rfl,h,(fun _ h=>by cases h),rfl⟩,h.sub,Kept.refl _ _⟩
theorem Prt.sub(h:Prt row e sz ok er V sl k i O V2):V.sub V2:=by obtain⟨_,_,o,_⟩:=h.ex;exact o.sub
theorem Prt.blk(h:Prt row e sz ok er V sl k i O V2){c:Nat}(hc:Blk sl c):V c=none/\∃cur,V2 c=some (.cells cur e (0,0)):=by
 obtain⟨_,_,o,_⟩:=h.ex
 grind [Own.none0,Own.some]
theorem Prt.get(hr:∀x,(row x).length=sz)(hz:0<sz)(h:Prt row e sz ok er V sl k i O V2){x:α}(hx:k[i]?=some x):¬sl.p=none/\(0:Int)<=(i:Int)/\(i:Int)<(sl.n:Int)/\V2.rowp sl.p (i*sz) sz=some (row x)/\IR ((i:Int)+1):=by
 obtain⟨done,hd,o,-,-⟩:=h.ex
 have R:=o.rows hr hz
 have hl:=(List.getElem?_eq_some_iff.1 hx).1
 have hn:=R.n_eq
 have e1:(done++k.drop i).length=k.length:=by grind
 have hx':(done++k.drop i)[i]?=some x:=by simp_all
 obtain⟨y,-,hy,-,-,hp,h0,hrow⟩:=R.get (i:=i) (by omega)
 rw[hx']at hy;cases hy
 exact⟨hp,h0,by omega,hrow,R.succ (by omega)⟩
theorem Prt.n(hr:∀x,(row x).length=sz)(hz:0<sz)(hi:i<=k.length)(h:Prt row e sz ok er V sl k i O V2):sl.n=k.length:=by
 obtain⟨done,hd,o,-,-⟩:=h.ex
 have:=(o.rows hr hz).n_eq
 simp_all
theorem Prt.move(h:Prt row e sz ok er V sl k i O V2)(hk:Kept sl O V3)(hb:∀g o,Blk sl g->V2 g=some o->V3 g=some o):Prt row e sz ok er V sl k i O V3:=by
 obtain⟨done,hd,o,h1,h2⟩:=h.ex
 exact⟨⟨done,hd,Own.moveB o (fun c ob hc=>hk _ _ (h.vo _ _ hc) (o.apart0 hc)) fun g cur hg hc=>hb g _ hg hc,h1,h2⟩,h.vo,hk⟩
theorem Prt.grow(h:Prt row e sz ok er V sl k i O V2)(hs:V2.sub V3):Prt row e sz ok er V sl k i O V3:=h.move (h.kept.trans (Kept.of hs)) fun _ _ _ hc=>hs _ _ hc
theorem Prt.rebase(hm:∀{W W' x},ok W x->W.sub W'->ok W' x)(h:Prt row e sz ok er V sl k i O V2):Prt row e sz ok er V sl k i V2 V2:=by
 obtain⟨done,hd,o,h1,h2⟩:=h.ex
 exact⟨⟨done,hd,o,fun x hx=>hm (h1 x hx) (minus_mono fun c ob hc hn=>h.kept _ _ hc fun hb=>hn (.inr hb)),h2⟩,o.sub,Kept.refl _ _⟩
theorem Prt.self(h:Prt row e sz ok er V sl k i O V2){x:α}(hx:k[i]?=some x):Prt row e sz ok er V sl (k.set i x) i O V2:=by
 grind [List.getElem?_eq_some_iff,List.set_getElem_self]
theorem Prt.part(hr:∀x,(row x).length=sz){x:α}(x':α)(h:Prt row e sz ok er V sl (k.set i x) i O V2)(hl:i<k.length){j m:Nat}{vs:List Value}(hj:j+vs.length<=sz)(hv:vs≠[])(hrow:row x'=(row x).take j++vs++(row x).drop (j+vs.length))(hp:m=i*sz+j){q:Mem->Prop}
  (hq:∀V',Prt row e sz ok er V sl (k.set i x') i O V'->(∀c,¬Blk sl c->V' c=V2 c)->q V'):StT (qAa sl.p m) 0 vs V2 q:=by
 obtain⟨done,hd,o,h1,h2⟩:=h.ex
 have hx':(done++(k.set i x).drop i)[i]?=some x:=by grind
 have hs:(done++(k.set i x).drop i).set i x'=done++(k.set i x').drop i:=by
  rw[List.set_append_right _ _ (by omega),hd,Nat.sub_self]
  refine congrArg (done++·) (List.ext_getElem? fun n=>?_)
  grind
 refine own_row hr o hx' hj hv hrow hp fun V' o' hk=>hq V' ⟨⟨done,hd,by simp_all,h1,?_⟩,h.vo,h.kept.trans (Kept.st hk)⟩ hk
 simp_all [List.take_set_of_le,Nat.le_refl]
theorem Prt.succ(hm:∀{W W' x},ok W x->W.sub W'->ok W' x){x':α}(h:Prt row e sz ok er V sl (k.set i x') i O V2){x:α}(hx:k[i]?=some x)(ho:ok (Mem.minus V2 fun c=>V c≠none∨Blk sl c) x')(he:er x'=er x):Prt row e sz ok er V sl k (i+1) V2 V2:=by
 obtain⟨done,hd,o,h1,h2⟩:=(Prt.rebase (ok:=ok) (fun a b=>hm a b) h).ex
 have hl:=(List.getElem?_eq_some_iff.1 hx).1
 refine⟨⟨done++[x'],by simp_all,?_,fun y hy=>?_,?_⟩,o.sub,Kept.refl _ _⟩
 ·have:done++(k.set i x').drop i=done++[x']++k.drop (i+1):=by
   rw[List.append_assoc]
   refine congrArg (done++·) ?_
   simp_all [List.drop_eq_getElem_cons,List.length_set,List.getElem_set_self,List.drop_set_of_lt,Nat.lt_succ_self]
  simp_all
 ·grind
 simp_all [List.map_append,List.take_set_of_le,Nat.le_refl,List.take_add_one]
theorem Prt.fin(hm:∀{W W' x},ok W x->W.sub W'->ok W' x)(hr:∀x,(row x).length=sz)(hz:0<sz)(h:Prt row e sz ok er V sl k i O V2)(hi:k.length<=i):∃k':List α,qAd (Mem.anew V V2) sl sz (k'.map row)/\(∀x∈k',ok (Mem.anew V V2) x)/\k'.map er=k.map er:=by
 obtain⟨done,hd,o,h1,h2⟩:=(Prt.rebase (ok:=ok) (fun a b=>hm a b) h).ex
 rw[List.drop_of_length_le hi,List.append_nil]at o
 rw[List.take_of_length_le hi]at h2
 refine⟨done,?_,fun x hx=>hm (h1 x hx) fun c ob hc=>?_,h2⟩
 ·have o':Sx.Own (fun _=>none) (Mem.anew V V2) e sz sl (done.flatMap row):=⟨(fun _ _ h=>by cases h),o.len,by
   rcases o.cases0 with h'|⟨hc,g,cur,a,b,c,d⟩
   ·exact .inl h'
   ·exact .inr ⟨g,cur,a,rfl,anew_at b c,d⟩⟩
  exact o'.rows hr hz
 grind [Mem.minus,anew_at,absurd]
theorem Prt.fresh(h:Prt row e sz ok er V sl k i O V2){U:Mem}(hs:V2.sub U∨Kept sl V2 U){U2 U3:Mem}(h2:∀c,Blk sl c->U c≠none)(hk:∀c o,U2 c=some o->¬Blk sl c->U3 c=some o):(Mem.anew U U2).sub (Mem.minus U3 fun c=>V c≠none∨Blk sl c):=fun c o hc=>by
 obtain⟨a,b⟩:=qHJ hc
 have hnb:¬Blk sl c:=fun hb=>h2 c hb a
 have hv:V c=none:=by
  cases hx:V c with
  | none=>rfl
  | some y =>
   have:=h.sub _ _ hx
   have:U c=some y:=hs.elim (fun k=>k _ _ this) fun k=>k _ _ this hnb
   simp_all
 grind [qAV]
end
theorem VE.few{e:E}(h:VE e):e.k.length<=6:=by
 have h:=h.node
 grind [qDa,qAM]
def FnE(V:Mem)(b:Nat):Prop:=∃t,V b=some (.cells #[.func (.func 51) #[] #[pv b]] t (0,0))
def FnS(V:Mem)(b1 b2:Nat):Prop:=∃t,V b2=some (.cells #[.func (.func 53) #[] #[pv b1,pv b2]] t (0,0))
theorem FnE.sub{V V':Mem}{b:Nat}(h:FnE V b)(hs:V.sub V'):FnE V' b:=by obtain⟨t,h⟩:=h;exact⟨t,hs _ _ h⟩
theorem FnS.sub{V V':Mem}{b1 b2:Nat}(h:FnS V b1 b2)(hs:V.sub V'):FnS V' b1 b2:=by obtain⟨t,h⟩:=h;exact⟨t,hs _ _ h⟩
theorem eOkM{W W':Mem}{x:E}(h:E.Ok W x)(k:W.sub W'):E.Ok W' x:=h.sub k
theorem sOkM{W W':Mem}{x:S}(h:S.Ok W x)(k:W.sub W'):S.Ok W' x:=h.sub k
theorem copyE:∀e:E,VE e->∀{V:Mem} {b:Nat},E.Ok V e->FnE V b->Tri Tryz.prog 51 #[e.v,pv b] V fun r V'=>∃e':E,r=.returned e'.v/\V.sub V'/\E.Ok (Mem.anew V V') e'/\eEr e'=eEr e:=by
 refine E.ind fun e ih hv V b ho hf=>?_
 cases e with
 | mk op n s l k =>
 refine x51 (R:=fun r V'=>∃e':E,r=.returned e'.v/\V.sub V'/\E.Ok (Mem.anew V V') e'/\eEr e'=eEr (.mk op n s l k)) ?_
 unfold w51
 refine Tri.mono (c52 ho.rows (Nat.le_trans hv.few (by decide))) ?_
 rintro _ V1 ⟨sl,rfl,o1⟩
 refine⟨sl,rfl,qGC k.length (fun i V2=>Prt E.row 116 4 E.Ok eEr V sl k i V2 V2) (Prt.start o1) ?_⟩
 rintro i V2 J hi P hJ
 have hn:=P.n qCh (by decide) hi
 refine⟨fun hlt=>?_,fun hge=>?_⟩
 ·have hlt:(i:Int)<(sl.n:Int):=hlt
  have hil:i<k.length:=by omega
  have hx:=List.getElem?_eq_getElem hil
  obtain⟨hp,h0,hl,hrow,hI⟩:=P.get qCh (by decide) hx
  have hf2:=hf.sub P.sub
  obtain⟨t,hft⟩:=hf2
  refine⟨.func (.func 51) #[] #[pv b],rfl,qAc hft 0 1 (by simp),hp,h0,hl,_,_,_,_,hrow,51,#[],#[pv b],rfl,Tryz.call51,?_⟩
  refine Tri.mono (ih _ (List.getElem_mem hil) (hv.kids _ (List.getElem_mem hil)) ((ho.kids _ (List.getElem_mem hil)).sub P.sub) ⟨t,hft⟩) ?_
  rintro _ V3 ⟨e',rfl,s3,o3,he⟩
  refine⟨e'.op,e'.n,e'.s,e'.l,rfl,hp,h0,hl,Prt.part (j:=0) (vs:=e'.row) qCh e' ((P.grow s3).self hx) hil (by rw[qCh];decide) (by simp[E.row]) (by simp[E.row]) rfl fun V4 P4 hk4=>⟨hI,hJ hil _ (Prt.succ (ok:=E.Ok) eOkM P4 hx (o3.sub (P.fresh (.inl (Mem.sub.refl _)) (fun c hc=>by obtain⟨cur,h⟩:=(P.blk hc).2;rw[h];simp) fun c o hc hb=>by simp_all)) he)⟩⟩
 ·have hge:¬(i:Int)<(sl.n:Int):=hge
  have hkl:k.length<=i:=by omega
  obtain⟨k',h1,h2,h3⟩:=Prt.fin (ok:=E.Ok) eOkM qCh (by decide) P hkl
  refine⟨.mk op n s sl k',rfl,P.sub,.mk h1 h2 ho.opR ho.nR,?_⟩
  grind [eEr,qET]
theorem szSs_len:∀l:List S,l.length<=qEg l
 | []=>Nat.zero_le _
 | x::xs=>by
  have:=szSs_len xs
  have h:1<=szS x:=by cases x;unfold szS;omega
  grind [qEg]
theorem qJJ:∀{l:List S} {x:S},x∈l->szS x<=qEg l
 | y::l,x,h=>by
  unfold qEg
  rcases List.mem_cons.1 h with rfl|h
  ·omega
  ·have:=qJJ h;omega
def VSs(l:List S):Prop:=(∃k,qFQ k l=true)/\qEg l<=200
theorem VSs.at_{l:List S}(h:VSs l){x:S}(hx:x∈l):VSs x.ls/\VSs x.xs/\x.es.length<=2/\∀e∈x.es,VE e:=by
 obtain⟨⟨k,hk⟩,hs⟩:=h
 have h1:=qFP hk x hx
 have h2:=qJJ hx
 rw[szS_eq]at h2
 rw[okS_eq,Bool.and_eq_true,Bool.and_eq_true,Bool.and_eq_true]at h1
 have h3:=h1.1.1.2
 unfold qBB at h3
 rw[Bool.and_eq_true]at h3
 refine⟨⟨⟨_,h1.1.2⟩,by omega⟩,⟨⟨_,h1.2⟩,by omega⟩,?_,fun e he=>VE.of_valid (List.all_eq_true.1 h3.2 e he)⟩
 grind [qFd,absurd]
theorem qFM{V:Mem}{p:Option Addr}{off n j:Nat}{vs:List Value}{v:Value}(h:V.rowp p off n=some vs)(hj:0<j)(hl:j+1<=n)(hv:(vs.drop j).take 1=[v]):V.rowp (qAa (qAa p off) j) 0 1=some [v]:=by rw[qDy h hj hl,hv]
theorem copyS:∀(n:Nat) (l:List S),qEg l=n->VSs l->∀{V:Mem} {b1 b2:Nat} {s0:Sl},qAd V s0 5 (l.map S.row)->(∀x∈l,S.Ok V x)->FnE V b1->FnS V b1 b2 ->
  Tri Tryz.prog 53 #[s0.v,pv b1,pv b2] V fun r V'=>∃(sl:Sl) (l':List S),r=.returned (.slice sl.p sl.n sl.c)/\V.sub V'/\qAd (Mem.anew V V') sl 5 (l'.map S.row)/\(∀x∈l',S.Ok (Mem.anew V V') x)/\l'.map sEr=l.map sEr:=by
 intro n
 induction n using Nat.strongRecOn with
 | _ n ih =>
 intro l hsz hv V b1 b2 s0 hr ho hf1 hf2
 refine x53 (R:=fun r V'=>∃(sl:Sl) (l':List S),r=.returned (.slice sl.p sl.n sl.c)/\V.sub V'/\qAd (Mem.anew V V') sl 5 (l'.map S.row)/\(∀x∈l',S.Ok (Mem.anew V V') x)/\l'.map sEr=l.map sEr) ?_
 unfold w53
 have hll:=szSs_len l
 have hv2:=hv.2
 refine Tri.mono (c54 hr (by omega)) ?_
 rintro _ V1 ⟨sl,rfl,o1⟩
 refine⟨sl,rfl,qGC l.length (fun i V2=>Prt S.row 119 5 S.Ok sEr V sl l i V2 V2) (Prt.start o1) ?_⟩
 rintro i V2 J hi P hJ
 have hn:=P.n qDe (by decide) hi
 refine⟨fun hlt=>?_,fun hge=>?_⟩
 ·have hlt:(i:Int)<(sl.n:Int):=hlt
  have hil:i<l.length:=by omega
  obtain⟨x,hx⟩:∃x,l[i]?=some x:=⟨_,List.getElem?_eq_getElem hil⟩
  have hxm:=List.mem_of_getElem? hx
  obtain⟨hvl,hvx,hel,hve⟩:=hv.at_ hxm
  have hsl:qEg x.ls<n/\qEg x.xs<n:=by have:=qJJ hxm;grind [szS_eq]
  have hox:=ho x hxm
  obtain⟨hp,h0,hl,hrow,hI⟩:=P.get qDe (by decide) hx
  have hq:=qAe (n:=i*5) hp
  cases x with
  | mk op s el es ll ls xl xs =>
  refine⟨hp,h0,hl,hq,op,s,el,ll,xl,hrow,Tri.mono (c52 (hox.eRows.sub P.sub) (Nat.le_trans hel (by decide))) ?_⟩
  rintro _ V3 ⟨el',rfl,o3⟩
  have s3:=o3.sub
  have hb3:∀c,Blk el' c->V2 c=none:=fun c hc=>Own.none0 o3 hc
  have hbs:∀c,Blk sl c->V2 c≠none:=fun c hc=>by obtain⟨cur,h⟩:=(P.blk hc).2;rw[h];simp
  refine⟨el',rfl,hp,h0,hl,hq,?_⟩
  show StT (qAa (qAa sl.p (i*5)) 2) 0 _ V3 _
  rw[qBN]
  refine Prt.part (j:=2) (vs:=[el'.v]) qDe (.mk op s el' es ll ls xl xs) ((P.grow s3).self hx) hil (by simp) (by simp) rfl rfl fun V4 P4 hk4=>?_
  -- the expressions
  have o4:Sx.Own (V4.but el') V4 116 4 el' (es.flatMap E.row):=by
   refine(Own.moveB (V0:=fun _=>none) (o3.narrow fun _ _ h=>by cases h) (fun _ _ h=>by cases h) fun g cur hg hc=>?_).but
   grind
  have get4:∀{V5:Mem},Prt S.row 119 5 S.Ok sEr V sl (l.set i (.mk op s el' es ll ls xl xs)) i V2 V5->V5.rowp sl.p (i*5) 5=some [.int .i64 op,.string s,el'.v,ll.v,xl.v]:=fun P5=>(P5.get qDe (by decide) (x:=.mk op s el' es ll ls xl xs) (by simp_all)).2.2.2.1
  refine⟨hp,h0,hl,hq,op,s,el',ll,xl,get4 P4,qGC es.length (fun j V5=>Prt E.row 116 4 E.Ok eEr (V4.but el') el' es j V5 V5/\Prt S.row 119 5 S.Ok sEr V sl (l.set i (.mk op s el' es ll ls xl xs)) i V2 V5) ⟨Prt.start o4,P4⟩ ?_⟩
  rintro j V5 J1 hj ⟨Q,P5⟩ hJ1
  have hn2:=Q.n qCh (by decide) hj
  have s05:=P5.sub
  refine⟨fun hlt2=>?_,fun hge2=>?_⟩
  ·have hlt2:(j:Int)<(el'.n:Int):=hlt2
   have hjl:j<es.length:=by omega
   obtain⟨y,hy⟩:∃y,es[j]?=some y:=⟨_,List.getElem?_eq_getElem hjl⟩
   have hym:=List.mem_of_getElem? hy
   obtain⟨qp,q0,ql,qrow,qI⟩:=Q.get qCh (by decide) hy
   obtain⟨t,hft⟩:=hf1.sub s05
   refine⟨hp,h0,hl,hq,op,s,el',ll,xl,get4 P5,.func (.func 51) #[] #[pv b1],rfl,qAc hft 0 1 (by simp),hp,h0,hl,hq,op,s,el',ll,xl,get4 P5,qp,q0,ql,_,_,_,_,qrow,51,#[],#[pv b1],rfl,Tryz.call51,?_⟩
   refine Tri.mono (copyE y (hve y hym) ((hox.eOk y hym).sub s05) ⟨t,hft⟩) ?_
   rintro _ V6 ⟨e',rfl,s6,o6,he⟩
   have P6:=P5.grow s6
   refine⟨e'.op,e'.n,e'.s,e'.l,rfl,qFM (j:=2) (get4 P6) (by decide) (by decide) rfl,hq,hp,h0,hl,qp,q0,ql,Prt.part (j:=0) (vs:=e'.row) qCh e' ((Q.grow s6).self hy) hjl (by rw[qCh];decide) (by simp[E.row]) (by simp[E.row]) rfl fun V7 Q7 hk7=>⟨qI,hJ1 hjl _ ⟨Prt.succ (ok:=E.Ok) eOkM Q7 hy (o6.sub (Q.fresh (.inl (Mem.sub.refl _)) (fun c hc=>by obtain⟨cur,h⟩:=(Q.blk hc).2;rw[h];simp) fun c o hc hb=>by simp_all)) he,P6.move (fun c o hc hb=>?_) fun g o hg hc=>?_⟩⟩⟩
   ·rw[hk7 c fun h=>by simp_all];exact P6.kept c o hc hb
   grind
  ·have hge2:¬(j:Int)<(el'.n:Int):=hge2
   have hkl:es.length<=j:=by omega
   obtain⟨es',e1,e2,e3⟩:=Prt.fin (ok:=E.Ok) eOkM qCh (by decide) Q hkl
   obtain⟨t,hft⟩:=hf2.sub s05
   refine⟨.func (.func 53) #[] #[pv b1,pv b2],rfl,qAc hft 0 1 (by simp),hp,h0,hl,hq,op,s,el',ll,xl,get4 P5,.func (.func 53) #[] #[pv b1,pv b2],rfl,qAc hft 0 1 (by simp),hp,h0,hl,hq,op,s,el',ll,xl,get4 P5,53,#[],#[pv b1,pv b2],rfl,Tryz.call53,?_⟩
   refine Tri.mono (ih _ hsl.1 ls rfl hvl (hox.lRows.sub s05) (fun y hy=>(hox.lOk y hy).sub s05) (hf1.sub s05) ⟨t,hft⟩) ?_
   rintro _ V6 ⟨ll',ls',rfl,s6,a1,a2,a3⟩
   have P6:=P5.grow s6
   refine⟨ll',rfl,qFM (j:=4) (get4 P6) (by decide) (by decide) rfl,hq,hp,h0,hl,qAc (s6 _ _ hft) 0 1 (by simp),53,#[],#[pv b1,pv b2],rfl,Tryz.call53,?_⟩
   have s06:=s05.trans s6
   refine Tri.mono (ih _ hsl.2 xs rfl hvx (hox.xRows.sub s06) (fun y hy=>(hox.xOk y hy).sub s06) (hf1.sub s06) ⟨t,s6 _ _ hft⟩) ?_
   rintro _ V7 ⟨xl',xs',rfl,s7,b3,b4,b5⟩
   have P7:=P6.grow s7
   refine⟨xl',rfl,hp,h0,hl,hq,?_⟩
   show StT (qAa (qAa sl.p (i*5)) 3) 0 _ V7 _
   rw[qBN]
   refine Prt.part (j:=3) (vs:=[ll'.v]) qDe (.mk op s el' es' ll' ls' xl xs) P7 hil (by simp) (by simp) rfl rfl fun V8 P8 hk8=>⟨hp,h0,hl,hq,?_⟩
   show StT (qAa (qAa sl.p (i*5)) 4) 0 _ V8 _
   rw[qBN]
   refine Prt.part (j:=4) (vs:=[xl'.v]) qDe (.mk op s el' es' ll' ls' xl' xs') P8 hil (by simp) (by simp) rfl rfl fun V9 P9 hk9=>⟨hI,hJ hil _ (Prt.succ (ok:=S.Ok) sOkM P9 hx ?_ ?_)⟩
   ·have k79:∀c o,V7 c=some o->¬Blk sl c->V9 c=some o:=fun c o hc hb=>by simp_all
    have k59:∀c o,V5 c=some o->¬Blk sl c->V9 c=some o:=fun c o hc hb=>k79 c o (s7 _ _ (s6 _ _ hc)) hb
    have f0:(Mem.anew (V4.but el') V5).sub (Mem.minus V9 fun c=>V c≠none∨Blk sl c):=fun c o hc=>by
     obtain⟨h1,h2⟩:=qHJ hc
     have k:V c=none/\¬Blk sl c:=by
      by_cases hb:Blk el' c
      ·exact⟨free P.sub (hb3 c hb),fun h=>hbs c h (hb3 c hb)⟩
      ·have h4:V4 c=none:=by
        cases hx:V4 c with
        | none=>rfl
        | some o'=>grind [Mem.but_at]
       exact⟨free P4.sub h4,fun h=>by obtain⟨cur,hc⟩:=(P4.blk h).2;simp_all⟩
     grind [qAV]
    have f1:∀{A B:Mem},V.sub A->(∀c,Blk sl c->A c≠none)->(∀c o,B c=some o->¬Blk sl c->V9 c=some o)->(Mem.anew A B).sub (Mem.minus V9 fun c=>V c≠none∨Blk sl c):=fun {A B} ha hb hk c o hc=>by
     obtain⟨h1,h2⟩:=qHJ hc
     have k2:¬Blk sl c:=fun h=>hb c h h1
     rw[qAV fun h=>h.elim (fun h=>h (free ha h1)) k2]
     grind
    have f5:=f1 (A:=V5) (B:=V6) s05 (fun c hc=>by obtain⟨cur,h⟩:=(P5.blk hc).2;rw[h];simp) fun c o hc hb=>k79 c o (s7 _ _ hc) hb
    have f6:=f1 (A:=V6) (B:=V7) s06 (fun c hc=>by obtain⟨cur,h⟩:=(P6.blk hc).2;rw[h];simp) k79
    have hor:IntKind.i64.min<=op/\op<=IntKind.i64.max:=by cases hox;assumption
    exact .mk (e1.sub f0) (fun y hy=>(e2 y hy).sub f0) (a1.sub f5) (fun y hy=>(a2 y hy).sub f5) (b3.sub f6) (fun y hy=>(b4 y hy).sub f6) hor
   grind [sEr,qET,qHw]
 ·have hge:¬(i:Int)<(sl.n:Int):=hge
  have hkl:l.length<=i:=by omega
  obtain⟨l',h1,h2,h3⟩:=Prt.fin (ok:=S.Ok) sOkM qDe (by decide) P hkl
  exact⟨sl,l',rfl,P.sub,h1,h2,h3⟩
theorem qHA{α:Type}{row:α->List Value}{sz e:Nat}{V V':Mem}{s:Sl}{xs:List α}(hr:∀x,(row x).length=sz)(hz:0<sz)(o:Sx.Own V V' e sz s (xs.flatMap row)):qAd (Mem.anew V V') s sz (xs.map row):=by
 have o':Sx.Own (fun _=>none) (Mem.anew V V') e sz s (xs.flatMap row):=⟨(fun _ _ h=>by cases h),o.len,by
  rcases o.cases0 with h'|⟨hc,g,cur,a,b,c,d⟩
  ·exact .inl h'
  ·exact .inr ⟨g,cur,a,rfl,anew_at b c,d⟩⟩
 exact o'.rows hr hz
noncomputable def qGo(V:Mem)(p1 p2:Nat):Mem:=Mem.minus V fun c=>c=p1∨c=p2
section
variable{V V':Mem}{p1 p2:Nat}
theorem qGd{c:Nat}{o:Obj}(h:V c=some o)(h1:c≠p1)(h2:c≠p2):qGo V p1 p2 c=some o:=by simp_all [qGo,qAV]
theorem qFx{c:Nat}{o:Obj}(h:qGo V p1 p2 c=some o):V c=some o/\c≠p1/\c≠p2:=by
 simp_all [qGo,Mem.minus,inr]
theorem qKC:(qGo V p1 p2).sub V:=fun _ _ h=>(qFx h).1
theorem qGc(h:V.sub V'):(qGo V p1 p2).sub (qGo V' p1 p2):=fun c o hc=>by
 obtain⟨a,b,e⟩:=qFx hc
 exact qGd (h _ _ a) b e
theorem qKD{o:Obj}:(qGo V p1 p2).sub (qGo (V.set p1 o) p1 p2):=fun c x hc=>by
 grind [qFx,qGd,Mem.set_ne]
theorem duo_new{A B:Mem}(h:B.sub V)(h1:A p1≠none)(h2:A p2≠none):(Mem.anew A B).sub (qGo V p1 p2):=fun c o hc=>by
 obtain⟨a,b⟩:=qHJ hc
 exact qGd (h _ _ b) (fun e=>h1 (e ▸ a)) fun e=>h2 (e ▸ a)
end
structure CS (V0:Mem) (p1 p2 p3 p4:Nat) (x:Ds) (V:Mem):Prop where
 base:V0.sub (qGo V p1 p2)
 fe:FnE (qGo V p1 p2) p3
 fs:FnS (qGo V p1 p2) p3 p4
 at1:V p1=some (.cells x.row.toArray 30 (0,0))
 at2:∃y,V p2=some (.cells y 30 (0,0))/\y.size=8
 ne:p1≠p2
section
variable{V0 V V':Mem}{p1 p2 p3 p4:Nat}{x x':Ds}
theorem CS.grow(h:CS V0 p1 p2 p3 p4 x V)(hs:V.sub V'):CS V0 p1 p2 p3 p4 x V':=⟨h.base.trans (qGc hs),h.fe.sub (qGc hs),h.fs.sub (qGc hs),hs _ _ h.at1,(by obtain⟨y,h1,h2⟩:=h.at2;exact⟨y,hs _ _ h1,h2⟩),h.ne⟩
theorem CS.set(h:CS V0 p1 p2 p3 p4 x V){c:Array Value}(hc:c=x'.row.toArray):CS V0 p1 p2 p3 p4 x' (V.set p1 (.cells c 30 (0,0))):=⟨h.base.trans qKD,h.fe.sub qKD,h.fs.sub qKD,by rw[Mem.set_same,hc],(by obtain⟨y,h1,h2⟩:=h.at2;exact⟨y,by rw[Mem.set_ne h.ne.symm];exact h1,h2⟩),h.ne⟩
theorem CS.st(h:CS V0 p1 p2 p3 p4 x V){j:Nat}{s:Sl}(hj:j+1<=8)(x':Ds)(hx:x'.row=x.row.take j++[s.v]++x.row.drop (j+1)){q:Mem->Prop}(hq:∀V',V'=V.set p1 (.cells x'.row.toArray 30 (0,0))->CS V0 p1 p2 p3 p4 x' V'->(qGo V p1 p2).sub (qGo V' p1 p2)->q V'):StT (qAa (sa p1) j) 0 [s.v] V q:=by
 refine StT.at2 (off:=j) h.at1 (by show j+1<=8;exact hj) ?_
 have e:((x.row.toArray.toList.take j++[s.v]++x.row.toArray.toList.drop (j+[s.v].length)).toArray:Array Value)=x'.row.toArray:=by rw[hx];rfl
 rw[e]
 exact hq _ rfl (h.set rfl) qKD
end
theorem own_self{α:Type}{row:α->List Value}{sz e:Nat}{V V1 V':Mem}{s:Sl}{xs:List α}(o:Sx.Own V V1 e sz s (xs.flatMap row))(hk:∀g,Blk s g->V' g=V1 g):Sx.Own (V'.but s) V' e sz s (xs.flatMap row) :=
 (Own.moveB (V0:=fun _=>none) (o.narrow fun _ _ h=>by cases h) (fun _ _ h=>by cases h) fun g cur hg hc=>by simp_all).but
theorem tOkM{W W':Mem}{x:Ty}(h:Ty.Ok W x)(k:W.sub W'):Ty.Ok W' x:=h.sub k
theorem pOkM{W W':Mem}{x:Pr}(h:Pr.Ok W x)(k:W.sub W'):Pr.Ok W' x:=h.sub k
def deskT:Go.Sx.T:=.cons (.var .s 0) (.cons (.var .sl 1) (.cons (.var .sl 2) (.cons (.var .sl 3) (.cons (.var .sl 4) (.cons (.var .sl 5) (.cons (.var .sl 6) (.cons (.var .sl 7) .nil)))))))
theorem results_desc{tmps:Array Value}{b:Nat}{x:Ds}{w:World}(h2:tmps.getD 2 undef=pv b)(hc:w.heap[b]?=some (.cells x.row.toArray 30 (0,0))):(results Tryz.f31 tmps).run Tryz.prog w=.ok x.v w:=by
 have hr:Tryz.f31.results=#[.cell 2 30]:=by kernel_rfl
 unfold results
 rw[hr]
 have e2:asAddr (tmps.getD 2 undef)=pure ⟨b,0,none⟩:=by rw[h2];rfl
 have l2:(loadVar 30 ⟨b,0,none⟩).run Tryz.prog w=.ok x.v w:=run_ldv (cs:=deskT) (y:=.agg deskT) (ρ:=x.row) hc (by kernel_rfl) rfl
 simp_all
theorem valid_small{d:Ds}(h:qAK d=true):d.types.length<=12/\(∀t∈d.types,t.fields.length<=12)/\d.globals.length<=8/\d.procs.length<=40/\∀p∈d.procs,p.params.length<=6/\p.locals.length<=12/\VSs p.body:=by
 have h12:=qIo h
 unfold qAK at h
 simp only[Bool.and_eq_true,decide_eq_true_eq]at h
 refine⟨by omega,h12.2,h12.1,by omega,fun p hp=>?_⟩
 have h1:=List.all_eq_true.1 h.1.2 p hp
 unfold prB qDb qDL at h1
 simp only[Bool.and_eq_true,decide_eq_true_eq]at h1
 exact⟨by omega,by omega,⟨1,h1.2.1⟩,h1.2.2⟩
end Go.Proofs
