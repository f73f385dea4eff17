/- Part 19 of a proof of a law of this seat: no statement of the seat is proved here. -/
import Derived.Test.YtmeagdecjpknkaaGreatDoorPp18
import Derived.Test.YtmeagdecjpknkaaGreatDoorPp16
import Derived.Test.YtmeagdecjpknkaaGreatDoorPp17
import Derived.Test.YtmeagdecjpknkaaGreatDoorPp12
set_option linter.unusedVariables false
set_option linter.unusedSimpArgs false
namespace Go.Proofs
open Go Go.Sx
attribute [local irreducible] Go.Sx.Tri
structure Sl3 where
 b:Sl
 n:Sl
 p:Sl
def crow(k n:Int)(mb:Nat)(F:Sl3):List Value:=[.int .i64 k,.int .i64 n,.map (some mb),F.b.v,F.n.v,F.p.v]
theorem qGw(l:List Int)(i:Nat)(x:Int):(l.flatMap qAf).set i (.int .i64 x)=(l.set i x).flatMap qAf:=by rw[qBj,qBj,List.map_set]
theorem qGx(l:List Int):(l.flatMap qAf).length=l.length:=by rw[qBj,List.length_map]
structure CaL (V0 V:Mem) (p:Nat) (k n:Int) (mb:Nat) (F S:Sl3) (B N P:List Int) (f:Int->Option Int):Prop where
 at_:V p=some (.cells (crow k n mb F).toArray 134 (0,0))
 mp:qFS (Value.int .i64) V mb fun b=>(f b).map (Value.int .i64)
 p0:V0 p=none
 m0:V0 mb=none
 bo:Sx.Own V0 V 3 1 S.b (B.flatMap qAf)
 no:Sx.Own V0 V 3 1 S.n (N.flatMap qAf)
 po:Sx.Own V0 V 3 1 S.p (P.flatMap qAf)
 bn:∀c,Blk S.b c->¬Blk S.n c
 bp:∀c,Blk S.b c->¬Blk S.p c
 np:∀c,Blk S.n c->¬Blk S.p c
section
variable{V0 V V':Mem}{p mb:Nat}{k n:Int}{F S:Sl3}{B N P:List Int}{f:Int->Option Int}
theorem CaL.pm(h:CaL V0 V p k n mb F S B N P f):p≠mb:=fun e=>by
 obtain⟨es,c,h1,-⟩:=h.mp.at_
 rw[<- e,h.at_]at h1;cases h1
theorem CaL.nB(h:CaL V0 V p k n mb F S B N P f):(¬Blk S.b p/\¬Blk S.n p/\¬Blk S.p p)/\(¬Blk S.b mb/\¬Blk S.n mb/\¬Blk S.p mb):=by
 have go:∀{s:Sl} {vs:List Value},Sx.Own V0 V 3 1 s vs->¬Blk s p/\¬Blk s mb:=fun {s vs} o=>by
  refine⟨fun hb=>?_,fun hb=>?_⟩
  ·obtain⟨cur,hc⟩:=Own.some o hb
   rw[h.at_]at hc
   simp_all
  ·obtain⟨cur,hc⟩:=Own.some o hb
   obtain⟨es,c,h1,-⟩:=h.mp.at_
   simp_all
 exact⟨⟨(go h.bo).1,(go h.no).1,(go h.po).1⟩,(go h.bo).2,(go h.no).2,(go h.po).2⟩
theorem CaL.sub(h:CaL V0 V p k n mb F S B N P f):V0.sub V:=h.bo.sub
theorem CaL.cell(h:CaL V0 V p k n mb F S B N P f)(i m:Nat)(hi:i+m<=6):V.rowp (sa p) i m=some (((crow k n mb F).drop i).take m):=qAe h.at_ i m hi
theorem qEH{W W':Mem}{b:Nat}{g:Int->Option Value}(h:qFS (Value.int .i64) W b g)(hk:W' b=W b):qFS (Value.int .i64) W' b g:=by
 obtain⟨es,c,h1,h2⟩:=h.at_
 exact⟨es,c,by grind,h2⟩
theorem CaL.setN(h:CaL V0 V p k n mb F S B N P f){i:Nat}(hi:i<N.length){x:Int}{q:Mem->Prop}(hq:∀V',CaL V0 V' p k n mb F S B (N.set i x) P f->q V'):StT (qAa S.n.p (i*1)) 0 [.int .i64 x] V q:=by
 rw[Nat.mul_one]
 obtain⟨⟨b1,b2,b3⟩,m1,m2,m3⟩:=h.nB
 refine Own.store h.no (by rw[qGx];exact hi) fun V' ho hk=>hq V' ?_
 rw[qGw]at ho
 exact⟨by rw[hk p b2];exact h.at_,qEH h.mp (hk mb m2),h.p0,h.m0,Own.moveB h.bo ho.sub fun g cur hg hc=>by rw[hk g (h.bn g hg)];exact hc,ho,Own.moveB h.po ho.sub fun g cur hg hc=>by rw[hk g fun hb=>h.np g hb hg];exact hc,h.bn,h.bp,h.np⟩
theorem CaL.setP(h:CaL V0 V p k n mb F S B N P f){i:Nat}(hi:i<P.length){x:Int}{q:Mem->Prop}(hq:∀V',CaL V0 V' p k n mb F S B N (P.set i x) f->q V'):StT (qAa S.p.p (i*1)) 0 [.int .i64 x] V q:=by
 rw[Nat.mul_one]
 obtain⟨⟨b1,b2,b3⟩,m1,m2,m3⟩:=h.nB
 refine Own.store h.po (by rw[qGx];exact hi) fun V' ho hk=>hq V' ?_
 rw[qGw]at ho
 exact⟨by rw[hk p b3];exact h.at_,qEH h.mp (hk mb m3),h.p0,h.m0,Own.moveB h.bo ho.sub fun g cur hg hc=>by rw[hk g (h.bp g hg)];exact hc,Own.moveB h.no ho.sub fun g cur hg hc=>by rw[hk g (h.np g hg)];exact hc,ho,h.bn,h.bp,h.np⟩
theorem CaL.setB(h:CaL V0 V p k n mb F S B N P f){i:Nat}(hi:i<B.length){x:Int}{q:Mem->Prop}(hq:∀V',CaL V0 V' p k n mb F S (B.set i x) N P f->q V'):StT (qAa S.b.p (i*1)) 0 [.int .i64 x] V q:=by
 rw[Nat.mul_one]
 obtain⟨⟨b1,b2,b3⟩,m1,m2,m3⟩:=h.nB
 refine Own.store h.bo (by rw[qGx];exact hi) fun V' ho hk=>hq V' ?_
 rw[qGw]at ho
 exact⟨by rw[hk p b1];exact h.at_,qEH h.mp (hk mb m1),h.p0,h.m0,ho,Own.moveB h.no ho.sub fun g cur hg hc=>by rw[hk g fun hb=>h.bn g hb hg];exact hc,Own.moveB h.po ho.sub fun g cur hg hc=>by rw[hk g fun hb=>h.bp g hb hg];exact hc,h.bn,h.bp,h.np⟩
theorem CaL.put(h:CaL V0 V p k n mb F S B N P f)(n':Int):CaL V0 (V.set p (.cells (crow k n' mb F).toArray 134 (0,0))) p k n' mb F S B N P f:=by
 obtain⟨⟨b1,b2,b3⟩,-⟩:=h.nB
 exact⟨Mem.set_same _ _ _,qEH h.mp (Mem.set_ne h.pm.symm),h.p0,h.m0,h.bo.put b1 h.p0 _,h.no.put b2 h.p0 _,h.po.put b3 h.p0 _,h.bn,h.bp,h.np⟩
theorem CaL.map(h:CaL V0 V p k n mb F S B N P f){o:Obj}{g:Int->Option Int}(hm:qFS (Value.int .i64) (V.set mb o) mb fun b=>(g b).map (Value.int .i64)):CaL V0 (V.set mb o) p k n mb F S B N P g:=by
 obtain⟨-,m1,m2,m3⟩:=h.nB
 exact⟨by rw[Mem.set_ne h.pm];exact h.at_,hm,h.p0,h.m0,h.bo.put m1 h.m0 _,h.no.put m2 h.m0 _,h.po.put m3 h.m0 _,h.bn,h.bp,h.np⟩
theorem qFC{W V V1:Mem}{s s':Sl}{xs:List Value}(o:Sx.Own W V 3 1 s xs){ys:List Value}(h:Sx.Own (V.but s) V1 3 1 s' ys):Sx.Own W V1 3 1 s' ys/\(∀c,¬Blk s c->V c≠none->V1 c=V c)/\∀c,Blk s' c->Blk s c∨V c=none:=by
 refine⟨h.narrow o.sub_but,fun c hc hv=>?_,fun c hc=>?_⟩
 ·cases e:V c with
  | none=>grind
  | some x=>exact h.sub _ _ (Mem.but_at e hc)
 ·have h0:=Own.none0 h hc
  by_cases hb:Blk s c
  ·exact .inl hb
  ·right
   cases hv:V c with
   | none=>rfl
   | some o=>grind [Mem.but_at]
theorem CaL.pushB(h:CaL V0 V p k n mb F S B N P f){V1:Mem}{s':Sl}{x:Int}(o:Sx.Own (V.but S.b) V1 3 1 s' ((B++[x]).flatMap qAf)):CaL V0 V1 p k n mb F ⟨s',S.n,S.p⟩ (B++[x]) N P f:=by
 obtain⟨⟨b1,b2,b3⟩,m1,m2,m3⟩:=h.nB
 obtain⟨o1,hk,hn⟩:=qFC h.bo o
 have some:∀{s:Sl} {vs:List Value},Sx.Own V0 V 3 1 s vs->∀c,Blk s c->V c≠none:=fun {s vs} o c hc=>by grind [Own.some]
 have mv:∀{s:Sl} {vs:List Value},Sx.Own V0 V 3 1 s vs->(∀c,Blk S.b c->¬Blk s c)->Sx.Own V0 V1 3 1 s vs:=fun {s vs} o hd=>Own.moveB o o1.sub fun g cur hg hc=>by grind
 have far:∀{s:Sl} {vs:List Value},Sx.Own V0 V 3 1 s vs->(∀c,Blk S.b c->¬Blk s c)->∀c,Blk s' c->¬Blk s c:=fun {s vs} o hd c hc hs=>(hn c hc).elim (fun hb=>hd c hb hs) (some o c hs)
 have em:V mb≠none:=by obtain⟨es,c,h1,-⟩:=h.mp.at_;rw[h1];simp
 exact⟨by rw[hk p b1 (by rw[h.at_];simp)];exact h.at_,qEH h.mp (hk mb m1 em),h.p0,h.m0,o1,mv h.no h.bn,mv h.po h.bp,far h.no h.bn,far h.po h.bp,h.np⟩
theorem CaL.pushN(h:CaL V0 V p k n mb F S B N P f){V1:Mem}{s':Sl}{x:Int}(o:Sx.Own (V.but S.n) V1 3 1 s' ((N++[x]).flatMap qAf)):CaL V0 V1 p k n mb F ⟨S.b,s',S.p⟩ B (N++[x]) P f:=by
 obtain⟨⟨b1,b2,b3⟩,m1,m2,m3⟩:=h.nB
 obtain⟨o1,hk,hn⟩:=qFC h.no o
 have some:∀{s:Sl} {vs:List Value},Sx.Own V0 V 3 1 s vs->∀c,Blk s c->V c≠none:=fun {s vs} o c hc=>by grind [Own.some]
 have mv:∀{s:Sl} {vs:List Value},Sx.Own V0 V 3 1 s vs->(∀c,Blk S.n c->¬Blk s c)->Sx.Own V0 V1 3 1 s vs:=fun {s vs} o hd=>Own.moveB o o1.sub fun g cur hg hc=>by grind
 have far:∀{s:Sl} {vs:List Value},Sx.Own V0 V 3 1 s vs->(∀c,Blk S.n c->¬Blk s c)->∀c,Blk s' c->¬Blk s c:=fun {s vs} o hd c hc hs=>(hn c hc).elim (fun hb=>hd c hb hs) (some o c hs)
 have em:V mb≠none:=by obtain⟨es,c,h1,-⟩:=h.mp.at_;rw[h1];simp
 have nb:∀c,Blk S.n c->¬Blk S.b c:=fun c h1 h2=>h.bn c h2 h1
 exact⟨by rw[hk p b2 (by rw[h.at_];simp)];exact h.at_,qEH h.mp (hk mb m2 em),h.p0,h.m0,mv h.bo nb,o1,mv h.po h.np,fun c h1 h2=>far h.bo nb c h2 h1,h.bp,far h.po h.np⟩
theorem CaL.pushP(h:CaL V0 V p k n mb F S B N P f){V1:Mem}{s':Sl}{x:Int}(o:Sx.Own (V.but S.p) V1 3 1 s' ((P++[x]).flatMap qAf)):CaL V0 V1 p k n mb F ⟨S.b,S.n,s'⟩ B N (P++[x]) f:=by
 obtain⟨⟨b1,b2,b3⟩,m1,m2,m3⟩:=h.nB
 obtain⟨o1,hk,hn⟩:=qFC h.po o
 have some:∀{s:Sl} {vs:List Value},Sx.Own V0 V 3 1 s vs->∀c,Blk s c->V c≠none:=fun {s vs} o c hc=>by grind [Own.some]
 have mv:∀{s:Sl} {vs:List Value},Sx.Own V0 V 3 1 s vs->(∀c,Blk S.p c->¬Blk s c)->Sx.Own V0 V1 3 1 s vs:=fun {s vs} o hd=>Own.moveB o o1.sub fun g cur hg hc=>by grind
 have far:∀{s:Sl} {vs:List Value},Sx.Own V0 V 3 1 s vs->(∀c,Blk S.p c->¬Blk s c)->∀c,Blk s' c->¬Blk s c:=fun {s vs} o hd c hc hs=>(hn c hc).elim (fun hb=>hd c hb hs) (some o c hs)
 have em:V mb≠none:=by obtain⟨es,c,h1,-⟩:=h.mp.at_;rw[h1];simp
 have pb:∀c,Blk S.p c->¬Blk S.b c:=fun c h1 h2=>h.bp c h2 h1
 have pn:∀c,Blk S.p c->¬Blk S.n c:=fun c h1 h2=>h.np c h2 h1
 exact⟨by rw[hk p b3 (by rw[h.at_];simp)];exact h.at_,qEH h.mp (hk mb m3 em),h.p0,h.m0,mv h.bo pb,mv h.no pn,o1,h.bn,fun c h1 h2=>far h.bo pb c h2 h1,fun c h1 h2=>far h.no pn c h2 h1⟩
theorem CaL.fields(h:CaL V0 V p k n mb F S B N P f)(G:Sl3):CaL V0 (V.set p (.cells (crow k n mb G).toArray 134 (0,0))) p k n mb G S B N P f:=by
 obtain⟨⟨b1,b2,b3⟩,-⟩:=h.nB
 exact⟨Mem.set_same _ _ _,qEH h.mp (Mem.set_ne h.pm.symm),h.p0,h.m0,h.bo.put b1 h.p0 _,h.no.put b2 h.p0 _,h.po.put b3 h.p0 _,h.bn,h.bp,h.np⟩
theorem CaL.frame(h:CaL V0 V p k n mb F S B N P f):∃M,(∀b,M b->V0 b=none)/\Owns (fun W V=>CaL W V p k n mb F S B N P f) M V:=by
 have own:∀{s:Sl} {vs:List Value},Sx.Own V0 V 3 1 s vs->∀c,Blk s c->V c≠none/\V0 c=none:=fun {s vs} o c hc=>⟨by grind [Own.some],Own.none0 o hc⟩
 have em:V mb≠none:=by obtain⟨es,c,h1,-⟩:=h.mp.at_;rw[h1];simp
 obtain⟨M,hM⟩:∃M:Nat->Prop,M=fun c=>c=p∨c=mb∨Blk S.b c∨Blk S.n c∨Blk S.p c:=⟨_,rfl⟩
 have hin:∀c,M c->V c≠none/\V0 c=none:=fun c hc=>by
  rw[hM]at hc
  rcases hc with rfl|rfl|h1|h1|h1
  ·exact⟨by rw[h.at_];simp,h.p0⟩
  ·exact⟨em,h.m0⟩
  ·exact own h.bo c h1
  ·exact own h.no c h1
  ·exact own h.po c h1
 refine⟨M,fun b hb=>(hin b hb).2,fun b hb=>(hin b hb).1,fun V' hk=>?_⟩
 have go:∀{s:Sl} {vs:List Value},(∀c,Blk s c->M c)->Sx.Own V0 V 3 1 s vs->Sx.Own (Mem.minus V' M) V' 3 1 s vs:=fun {s vs} hm h=>⟨qCf,h.len,by
  rcases h.cases0 with h1|⟨hc,g,cur,h1,h2,h3,h4⟩
  ·exact .inl h1
  ·exact .inr ⟨g,cur,h1,qBR (hm g ⟨hc,h1⟩),hk _ _ (hm g ⟨hc,h1⟩) h3,h4⟩⟩
 have hp:M p:=by simp_all
 have hm:M mb:=by simp_all
 refine⟨hk _ _ hp h.at_,?_,qBR hp,qBR hm,go (fun c hc=>by grind) h.bo,go (fun c hc=>by grind) h.no,go (fun c hc=>by grind) h.po,h.bn,h.bp,h.np⟩
 obtain⟨es,c,h1,h2⟩:=h.mp.at_
 exact⟨es,c,hk _ _ hm h1,h2⟩
def qJA(p:Nat)(k:Nat)(c:List Int)(n:Nat)(V0 V:Mem):Prop:=∃mb S B N P L f,CaL V0 V p k n mb S S B N P f/\CaI k c B N P L f
theorem qJA.framed{c:List Int}{k n:Nat}:qKv (qJA p k c n):=fun W V ⟨mb,S,B,N,P,L,f,h,hI⟩=>by
 obtain⟨M,h1,h2,h3⟩:=h.frame
 exact⟨M,h1,h2,fun V' hk=>⟨mb,S,B,N,P,L,f,h3 V' hk,hI⟩⟩
end
end Go.Proofs
namespace Go.Proofs
def tch(k:Nat)(c:List Int)(b:Int):List Int:=if b∈c then b::c.erase b else b::c.take (k-1)
def tchL(k:Nat)(c l:List Int):List Int:=l.foldl (tch k) c
def qKf(k:Nat):List Int->List Int->Nat
 | _,[]=>0
 | c,b::l=>(if b∈c then 0 else 1)+qKf k (tch k c b) l
theorem misL_snoc(k:Nat):∀(l c:List Int) (b:Int),qKf k c (l++[b])=qKf k c l+if b∈tchL k c l then 0 else 1
 | [],c,b=>by
  simp only[List.nil_append,qKf,Nat.add_zero,Nat.zero_add];rfl
 | x::l,c,b=>by
  rw[List.cons_append,qKf,qKf,misL_snoc k l (tch k c x) b,Nat.add_assoc];rfl
theorem tchL_snoc(k:Nat)(c l:List Int)(b:Int):tchL k c (l++[b])=tch k (tchL k c l) b:=by grind [tchL]
theorem tch_len{k:Nat}(hk:0<k){c:List Int}(h:c.length<=k)(b:Int):(tch k c b).length<=k:=by
 grind [tch,mtf]
theorem qIR(k:Nat):∀l c:List Int,qKf k c l<=l.length
 | [],_=>Nat.le_refl _
 | b::l,c=>by
  rw[qKf,List.length_cons]
  have:=qIR k l (tch k c b)
  split <;> omega
end Go.Proofs
namespace Go.Proofs
open Go Go.Sx
attribute [local irreducible] Go.Sx.Tri
section
variable{V0 V:Mem}{p mb:Nat}{k n:Int}{S:Sl3}{B N P:List Int}{f:Int->Option Int}
theorem qDL{s:Sl}{xs:List Int}(h:qAc V s 1 (xs.map qAf)){i:Nat}{x:Int}(hx:xs[i]?=some x):¬s.p=none/\(0:Int)<=(i:Int)/\(i:Int)<(s.n:Int)/\V.rowp s.p (i*1) 1=some [.int .i64 x]:=by
 have hn:=h.n_eq
 have hl:=(List.getElem?_eq_some_iff.1 hx).1
 obtain⟨y,-,hy,-,-,h1,h2,h3⟩:=h.get (i:=i) (by omega)
 rw[hx]at hy;cases hy
 exact⟨h1,h2,by omega,h3⟩
theorem c99(h:CaL V0 V p k n mb S S B N P f){s a b:Nat}(hP:P[s]?=some (a:Int))(hN:N[s]?=some (b:Int))(ha:a<N.length)(hb:b<P.length) :
  Tri Tryz.prog 99 #[pv p,.int .i64 s] V fun e V'=>e=.returned (.tuple #[])/\CaL V0 V' p k n mb S S B (N.set a b) (P.set b a) f:=by
 refine x99 ?_
 unfold w99
 obtain⟨n1,n2,n3,n4⟩:=qDL (h.no.rows (fun _=>rfl) (by decide)) hN
 obtain⟨p1,p2,p3,p4⟩:=qDL (h.po.rows (fun _=>rfl) (by decide)) hP
 have hnn:=(h.no.rows (row:=qAf) (xs:=N) (fun _=>rfl) (by decide)).n_eq
 have hpn:=(h.po.rows (row:=qAf) (xs:=P) (fun _=>rfl) (by decide)).n_eq
 refine⟨nn,nn,_,h.cell 4 1 (by decide),nn,nn,_,h.cell 5 1 (by decide),p1,p2,p3,_,p4,nn,nn,_,h.cell 5 1 (by decide),nn,nn,_,h.cell 4 1 (by decide),n1,n2,n3,_,n4,nn,nn,_,h.cell 4 1 (by decide),n1,n2,n3,_,n4,nn,nn,_,h.cell 5 1 (by decide),p1,p2,p3,_,p4,n1,by omega,by omega,h.setN ha fun V1 h1=>⟨p1,by omega,by omega,h1.setP hb fun V2 h2=>⟨rfl,h2⟩⟩⟩
theorem c100(h:CaL V0 V p k n mb S S B N P f){s q:Nat}(h0:N[0]?=some (q:Int))(hN:s<N.length)(hP:s<P.length)(hq:q<P.length)(hs:s≠0) :
  Tri Tryz.prog 100 #[pv p,.int .i64 s] V fun e V'=>e=.returned (.tuple #[])/\CaL V0 V' p k n mb S S B ((N.set s q).set 0 s) ((P.set s 0).set q s) f:=by
 refine x100 ?_
 unfold w100
 obtain⟨n1,n2,n3,n4⟩:=qDL (h.no.rows (fun _=>rfl) (by decide)) h0
 have hnn:=(h.no.rows (row:=qAf) (xs:=N) (fun _=>rfl) (by decide)).n_eq
 have hpn:=(h.po.rows (row:=qAf) (xs:=P) (fun _=>rfl) (by decide)).n_eq
 obtain⟨p1,-⟩:=qDL (h.po.rows (fun _=>rfl) (by decide)) (List.getElem?_eq_getElem hP)
 refine⟨nn,nn,_,h.cell 4 1 (by decide),nn,nn,_,h.cell 5 1 (by decide),nn,nn,_,h.cell 4 1 (by decide),n1,n2,n3,_,n4,n1,by omega,by omega,h.setN hN fun V1 h1=>⟨p1,by omega,by omega,h1.setP hP fun V2 h2=>?_⟩⟩
 obtain⟨m1,m2,m3,m4⟩:=qDL (h2.no.rows (fun _=>rfl) (by decide)) (i:=0) (x:=q) (by simp_all)
 refine⟨nn,nn,_,h2.cell 5 1 (by decide),nn,nn,_,h2.cell 4 1 (by decide),m1,m2,m3,_,m4,nn,nn,_,h2.cell 4 1 (by decide),p1,by omega,by omega,h2.setP (by simp_all) fun V3 h3=>⟨n1,by omega,by omega,h3.setN (i:=0) (by simp_all) fun V4 h4=>⟨rfl,h4⟩⟩⟩
end
section
variable{V0 V:Mem}{p k n:Nat}{c:List Int}
theorem c90(h:qJA p k c n V0 V):PP 90 [pv p] V (.int .i64 n):=by
 obtain⟨mb,S,B,N,P,L,f,h,-⟩:=h
 refine x90 ?_
 unfold w90
 exact⟨fun h=>absurd h nn,fun _=>⟨nn,nn,_,h.cell 1 1 (by decide),rfl,rfl⟩⟩
theorem c53{m:Int}:Tri Tryz.prog 53 #[.int .i64 m] V fun e V'=>(¬(1<=m/\m<=1000)/\e=.returned (.tuple #[.pointer none,.int .i64 2])/\V'=V)∨((1<=m/\m<=1000)/\∃p,e=.returned (.tuple #[pv p,.int .i64 0])/\qJA p m.toNat [] 0 V V'):=by
 refine x53 ?_
 unfold w53
 refine⟨fun h=>.inl ⟨fun hh=>by omega,rfl,rfl⟩,fun h=>⟨fun h2=>.inl ⟨fun hh=>by omega,rfl,rfl⟩,fun h2=>?_⟩⟩
 have hm:1<=m/\m<=1000:=by
  omega
 refine GenK.makeMap fun mb hmb=>⟨some mb,rfl,fun b1 h1 b2 h22 b3 h3 p hp=>.inr ⟨hm,p,rfl,?_⟩⟩
 obtain⟨k,rfl⟩:∃k:Nat,m=(k:Int):=⟨m.toNat,by omega⟩
 have s1:=Mem.sub_new hmb (.map #[] 0)
 have s2:=Mem.sub_new h1 (.cells #[.int .i64 (-1)] 3 (0,0))
 have s3:=Mem.sub_new h22 (.cells #[.int .i64 0] 3 (0,0))
 have s4:=Mem.sub_new h3 (.cells #[.int .i64 0] 3 (0,0))
 have none0:∀{A U:Mem} {b:Nat},A.sub U->U b=none->A b=none:=fun {A U b} hs hb=>by
  cases e:A b with
  | none=>rfl
  | some o=>rw[hs _ _ e]at hb;cases hb
 have one:∀{W U:Mem} {b:Nat} {x:Int},W b=none->W.sub U->U b=some (.cells #[.int .i64 x] 3 (0,0))->Sx.Own W U 3 1 ⟨some ⟨b,0,none⟩,1,1⟩ ([x].flatMap qAf):=fun {W U b x} h0 hs hb=>⟨hs,rfl,.inr ⟨b,_,rfl,h0,hb,Nat.le_refl _,(show 1<=maxLen by decide),rfl,rfl⟩⟩
 have sa:V.sub _:=s1.trans (s2.trans (s3.trans s4))
 have s5:=Mem.sub_new hp (.cells (crow k 0 mb ⟨⟨some ⟨b1,0,none⟩,1,1⟩,⟨some ⟨b2,0,none⟩,1,1⟩,⟨some ⟨b3,0,none⟩,1,1⟩⟩).toArray 134 (0,0))
 have blk:∀{b c:Nat},Blk ⟨some ⟨b,0,none⟩,1,1⟩ c->c=b:=fun {b c} h=>by
  have:=h.2
  grind
 have d12:b1≠b2:=fun e=>by grind [Mem.set_same]
 have d13:b1≠b3:=fun e=>by rw[<- e]at h3;rw[s3 _ _ mss]at h3;cases h3
 have d23:b2≠b3:=fun e=>by grind [Mem.set_same]
 refine⟨mb,⟨⟨some ⟨b1,0,none⟩,1,1⟩,⟨some ⟨b2,0,none⟩,1,1⟩,⟨some ⟨b3,0,none⟩,1,1⟩⟩,[-1],[0],[0],[],fun _=>none,⟨Mem.set_same _ _ _,((qFS.made V mb).sub (s2.trans (s3.trans (s4.trans s5)))).congr fun _=>rfl,none0 sa hp,hmb,one (none0 s1 h1) (sa.trans s5) ?_,one (none0 (s1.trans s2) h22) (sa.trans s5) ?_,one (none0 (s1.trans (s2.trans s3)) h3) (sa.trans s5) ?_,fun c k1 k2=>d12 ((blk k1).symm.trans (blk k2)),fun c k1 k2=>d13 ((blk k1).symm.trans (blk k2)),fun c k1 k2=>d23 ((blk k1).symm.trans (blk k2))⟩,?_⟩
 ·exact(s3.trans (s4.trans s5)) _ _ mss
 ·exact(s4.trans s5) _ _ mss
 ·exact s5 _ _ mss
 grind [Int.toNat_natCast,CaI.new]
end
end Go.Proofs
namespace Go.Proofs
open Go Go.Sx
abbrev Bj:=List (Int×Int)
end Go.Proofs
namespace Go.Proofs
open Go Go.Sx
end Go.Proofs
namespace Go.Proofs
open Go Go.Sx
structure Sr where
 order:List Int
 again:Int
def qDf(x:Fld×Int):Bool:=!qBB x.1.ty&&decide (x.2≠0)
def tgtI(l:List Fld)(vs:List Int)(i:Nat):List Int:=(((l.zip vs).take i).filter qDf).map (·.2)
def tgt(l:List Fld)(vs:List Int):List Int:=((l.zip vs).filter qDf).map (·.2)
def qAM(d:Ds)(m:Mm)(n:Int):List Int:=match m.nodes[(n-1).toNat]? with|some x=>tgt (qAq d x.ty) x.f|none=>[]
def qCR(d:Ds)(m:Mm):Nat->Sr->Int->Sr
 | 0,st,_=>st
 | f+1,st,n=>if n∈st.order then ⟨st.order,if st.again=0 then n else st.again⟩ else (qAM d m n).foldl (qCR d m f) ⟨st.order++[n],st.again⟩
def lookP(d:Ds)(m:Mm)(f:Nat)(st:Sr)(l:List Fld)(vs:List Int):Sr:=(tgt l vs).foldl (qCR d m f) st
def qBt(d:Ds)(m:Mm):Sr:=lookP d m (m.nodes.length+1) ⟨[],0⟩ d.globals m.globals
theorem tgtI_zero(l:List Fld)(vs:List Int):tgtI l vs 0=[]:=rfl
theorem qEv{l:List Fld}{vs:List Int}{i:Nat}{f:Fld}{v:Int}(hf:l[i]?=some f)(hv:vs[i]?=some v):tgtI l vs (i+1)=tgtI l vs i++if qDf (f,v)=true then [v] else []:=by
 have hz:(l.zip vs)[i]?=some (f,v):=by rw[List.getElem?_zip_eq_some];exact⟨hf,hv⟩
 unfold tgtI
 rw[List.take_add_one,hz,List.filter_append,List.map_append]
 by_cases h:qDf (f,v)=true
 ·simp[h]
 ·simp[h]
theorem qKC{l:List Fld}{vs:List Int}{i:Nat}(h:l.length<=i):tgtI l vs i=tgt l vs:=by
 unfold tgtI tgt
 rw[List.take_of_length_le]
 rw[List.length_zip];omega
def unS(m:Mm)(st:Sr):Nat:=((List.range m.nodes.length).filter fun(i:Nat)=>!decide (((i:Int)+1)∈st.order)).length
theorem entP_sub(d:Ds)(m:Mm):∀(f:Nat) (st:Sr) (n:Int),∀x∈st.order,x∈(qCR d m f st n).order
 | 0,st,n,x,h=>h
 | f+1,st,n,x,h=>by
  unfold qCR
  split
  ·exact h
  ·have:∀(l:List Int) (s:Sr),x∈s.order->x∈(l.foldl (qCR d m f) s).order:=fun l=>by
    induction l with
    | nil=>exact fun s h=>h
    | cons a l ih=>exact fun s h=>ih _ (entP_sub d m f s a x h)
   exact this _ _ (List.mem_append_left _ h)
theorem foldP_sub(d:Ds)(m:Mm)(f:Nat)(x:Int):∀(l:List Int) (s:Sr),x∈s.order->x∈(l.foldl (qCR d m f) s).order:=fun l=>by
 induction l with
 | nil=>exact fun s h=>h
 | cons a l ih=>exact fun s h=>ih _ (entP_sub d m f s a x h)
theorem qJk{α:Type}{p q:α->Bool}:∀{l:List α},(∀a∈l,q a=true->p a=true)->(l.filter q).length<=(l.filter p).length
 | [],_=>Nat.le_refl _
 | a::l,h=>by
  have ih:=qJk (l:=l) fun x hx=>h x (List.mem_cons_of_mem _ hx)
  have ha:=h a List.mem_cons_self
  rw[List.filter_cons,List.filter_cons]
  cases hq:q a with
  | true=>rw[ha hq];simpa using ih
  | false =>
   cases hp:p a with
   | true=>simp;omega
   | false=>simpa using ih
theorem filter_lt{α:Type}{p q:α->Bool}:∀{l:List α},(∀a∈l,q a=true->p a=true)->∀a∈l,p a=true->q a=false->(l.filter q).length<(l.filter p).length
 | [],_,a,ha,_,_=>by cases ha
 | b::l,h,a,ha,hp,hq=>by
  have h':∀x∈l,q x=true->p x=true:=fun x hx=>h x (List.mem_cons_of_mem _ hx)
  rw[List.filter_cons,List.filter_cons]
  rcases List.mem_cons.1 ha with rfl|hm
  ·rw[hp,hq]
   have:=qJk h'
   simp;omega
  ·have ih:=filter_lt h' a hm hp hq
   have hb:=h b List.mem_cons_self
   cases hqb:q b with
   | true=>rw[hb hqb];simpa using ih
   | false =>
    cases hpb:p b with
    | true=>simp;omega
    | false=>simpa using ih
section
variable{d:Ds}{m:Mm}{st:Sr}
theorem unS_le{a b:Sr}(h:∀x∈a.order,x∈b.order):unS m b<=unS m a:=by
 unfold unS
 refine qJk fun i _ hi=>?_
 simp only[Bool.not_eq_true',decide_eq_false_iff_not]at hi ⊢
 exact fun k=>hi (h _ k)
theorem unS_lt{n:Int}(hn:1<=n/\n<=(m.nodes.length:Int))(h:¬n∈st.order){a:Int}:unS m ⟨st.order++[n],a⟩<unS m st:=by
 unfold unS
 obtain⟨i,rfl⟩:∃i:Nat,n=(i:Int)+1:=⟨(n-1).toNat,by omega⟩
 refine filter_lt (fun j _ hj=>?_) i (List.mem_range.2 (by omega)) (by simpa using h) (by simp)
 simp only[Bool.not_eq_true',decide_eq_false_iff_not]at hj ⊢
 exact fun k=>hj (List.mem_append_left _ k)
theorem qJY{xs:List Fld}{vs:List Int}(h:qAi d m xs vs=true){i:Nat}{f:Fld}{v:Int}(hf:xs[i]?=some f)(hvv:vs[i]?=some v)(hp:qBB f.ty=false)(h0:v≠0):1<=v/\v<=(m.nodes.length:Int):=by
 obtain⟨v',hv',hr⟩:=qFV h hf
 rw[hvv]at hv';cases hv'
 unfold qBB at hp
 simp only[Bool.or_eq_false_iff,decide_eq_false_iff_not]at hp
 unfold qAw at hr
 rw[if_neg hp.1,if_neg hp.2,decide_eq_true_eq]at hr
 rcases hr with h|⟨h1,h2,-⟩
 ·exact absurd h h0
 ·exact⟨h1,h2⟩
end
section
variable{d:Ds}{m c:Mm}{O:List Int}
structure Cl (d:Ds) (m:Mm) (a b:Sr):Prop where
 sub:∀x∈a.order,x∈b.order
 shut:∀x∈b.order,x∈a.order∨∀y∈qAM d m x,y∈b.order
 dup:a.order.Nodup->b.order.Nodup
 rng:(∀x∈a.order,1<=x/\x<=(m.nodes.length:Int))->∀x∈b.order,1<=x/\x<=(m.nodes.length:Int)
 cap:a.order.length+unS m a<=m.nodes.length->b.order.length+unS m b<=m.nodes.length
theorem Cl.trans{a b e:Sr}(h:Cl d m a b)(k:Cl d m b e):Cl d m a e:=⟨fun x hx=>k.sub x (h.sub x hx),fun x hx=>by
 rcases k.shut x hx with hx|hx
 ·rcases h.shut x hx with hx|hx
  ·exact .inl hx
  ·exact .inr fun y hy=>k.sub y (hx y hy)
 ·exact .inr hx,fun n=>k.dup (h.dup n),fun r=>k.rng (h.rng r),fun r=>k.cap (h.cap r)⟩
theorem tgt_mem{l:List Fld}{vs:List Int}{y:Int}:y∈tgt l vs↔∃(i:Nat) (f:Fld),l[i]?=some f/\vs[i]?=some y/\qBB f.ty=false/\y≠0:=by
 unfold tgt qDf
 simp only[List.mem_map,List.mem_filter,Bool.and_eq_true,Bool.not_eq_true',decide_eq_true_eq,Prod.exists,exists_eq_right]
 constructor
 ·rintro ⟨f,h,h1,h2⟩
  obtain⟨i,hi⟩:=List.mem_iff_getElem?.1 h
  rw[List.getElem?_zip_eq_some]at hi
  exact⟨i,f,hi.1,hi.2,h1,h2⟩
 ·rintro ⟨i,f,h,h1,h2,h3⟩
  exact⟨f,List.mem_iff_getElem?.2 ⟨i,List.getElem?_zip_eq_some.2 ⟨h,h1⟩⟩,h2,h3⟩
theorem qJR(hv:qAu d m=true):(∀y∈tgt d.globals m.globals,1<=y/\y<=(m.nodes.length:Int))/\∀n,∀y∈qAM d m n,1<=y/\y<=(m.nodes.length:Int):=by
 obtain⟨-,-,-,p4,p5⟩:=qAj hv
 refine⟨fun y hy=>?_,fun n y hy=>?_⟩
 ·obtain⟨i,f,h1,h2,h3,h4⟩:=tgt_mem.1 hy
  exact qJY p4 h1 h2 h3 h4
 ·unfold qAM at hy
  split at hy
  ·rename_i x hx
   obtain⟨i,f,h1,h2,h3,h4⟩:=tgt_mem.1 hy
   exact qJY (p5 x (List.mem_of_getElem? hx)) h1 h2 h3 h4
  ·cases hy
theorem qLq{f:Nat}(H:∀st n,1<=n/\n<=(m.nodes.length:Int)->unS m st<f->Cl d m st (qCR d m f st n)/\n∈(qCR d m f st n).order) :
  ∀(l:List Int) (s:Sr),(∀y∈l,1<=y/\y<=(m.nodes.length:Int))->unS m s<f->Cl d m s (l.foldl (qCR d m f) s)/\∀y∈l,y∈(l.foldl (qCR d m f) s).order
 | [],s,_,_=>⟨⟨fun _ h=>h,fun _ h=>.inl h,fun h=>h,fun h=>h,fun h=>h⟩,fun _ h=>by cases h⟩
 | a::l,s,hl,hs=>by
  obtain⟨c1,c2⟩:=H s a (hl a List.mem_cons_self) hs
  obtain⟨e1,e2⟩:=qLq H l (qCR d m f s a) (fun y hy=>hl y (List.mem_cons_of_mem _ hy)) (by have:=unS_le (m:=m) c1.sub;omega)
  refine⟨c1.trans e1,fun y hy=>?_⟩
  rcases List.mem_cons.1 hy with rfl|hy
  ·exact e1.sub _ c2
  ·exact e2 y hy
theorem ent_cl(hv:qAu d m=true):∀(f:Nat) (st:Sr) (n:Int),1<=n/\n<=(m.nodes.length:Int)->unS m st<f->Cl d m st (qCR d m f st n)/\n∈(qCR d m f st n).order
 | 0,_,_,_,h=>absurd h (Nat.not_lt_zero _)
 | f+1,st,n,hn,hf=>by
  rw[qCR]
  split
  ·rename_i h;exact⟨⟨fun _ h=>h,fun _ h=>.inl h,fun h=>h,fun h=>h,fun h=>h⟩,h⟩
  ·rename_i hno
   have hlt:=unS_lt hn hno (a:=st.again)
   obtain⟨c1,c2⟩:=qLq (ent_cl hv f) (qAM d m n) ⟨st.order++[n],st.again⟩ (fun y hy=>(qJR hv).2 n y hy) (by omega)
   have hm:n∈(⟨st.order++[n],st.again⟩:Sr).order:=by simp
   refine⟨⟨fun x hx=>c1.sub x (List.mem_append_left _ hx),fun x hx=>?_,fun h=>c1.dup ?_,fun h=>c1.rng fun x hx=>?_,fun h=>c1.cap ?_⟩,c1.sub n hm⟩
   ·rcases c1.shut x hx with h|h
    ·rcases List.mem_append.1 h with h|h
     ·exact .inl h
     ·rw[List.mem_singleton.1 h];exact .inr c2
    ·exact .inr h
   ·show (st.order++[n]).Nodup
    rw[List.nodup_append]
    refine⟨h,by simp,fun a ha b hb e=>hno ?_⟩
    rw[<- List.mem_singleton.1 hb,<- e];exact ha
   ·rcases List.mem_append.1 hx with hx|hx
    ·exact h x hx
    ·rw[List.mem_singleton.1 hx];exact hn
   ·show (st.order++[n]).length+_<=_
    rw[List.length_append,List.length_singleton];omega
structure Rch (d:Ds) (m:Mm) (O:List Int):Prop where
 dup:O.Nodup
 rng:∀x∈O,1<=x/\x<=(m.nodes.length:Int)
 glob:∀y∈tgt d.globals m.globals,y∈O
 shut:∀x∈O,∀y∈qAM d m x,y∈O
 cap:O.length<=m.nodes.length
theorem qKz:unS m ⟨[],0⟩<=m.nodes.length:=by
 unfold unS
 have:=List.length_filter_le (fun i:Nat=>!decide (((i:Int)+1)∈(⟨[],0⟩:Sr).order)) (List.range m.nodes.length)
 rw[List.length_range]at this
 exact this
theorem qGi(hv:qAu d m=true):Rch d m (qBt d m).order:=by
 have hu:=qKz (m:=m)
 obtain⟨c1,c2⟩:=qLq (ent_cl hv (m.nodes.length+1)) (tgt d.globals m.globals) ⟨[],0⟩ (qJR hv).1 (by omega)
 refine⟨c1.dup List.nodup_nil,c1.rng (fun x hx=>by cases hx),c2,fun x hx=>?_,?_⟩
 ·rcases c1.shut x hx with h|h
  ·cases h
  ·exact h
 ·have:=c1.cap (by show 0+_<=_;omega)
  exact Nat.le_trans (Nat.le_add_right _ _) this
def posI(l:List Int)(x:Int):Int:=qIa (fun y=>decide (y=x)) l
def rho(O:List Int)(x:Int):Int:=if x=0 then 0 else posI O x+1
def renL(O:List Int)(l:List Fld)(vs:List Int):List Int:=(l.zip vs).map fun x=>if qBB x.1.ty=true then x.2 else rho O x.2
structure IsCan (d:Ds) (m c:Mm) (O:List Int):Prop where
 globals:c.globals=renL O d.globals m.globals
 len:c.nodes.length=O.length
 at_:∀(i:Nat) n x,O[i]?=some n->m.nodes[(n-1).toNat]?=some x->∃s,c.nodes[i]?=some ⟨x.ty,s,renL O (qAq d x.ty) x.f⟩
theorem rho_zero:rho O 0=0:=by unfold rho;rw[if_pos rfl]
theorem ren_at{l:List Fld}{vs:List Int}{i:Nat}{f:Fld}{v:Int}(hf:l[i]?=some f)(hv:vs[i]?=some v):(renL O l vs)[i]?=some (if qBB f.ty=true then v else rho O v):=by
 have hz:(l.zip vs)[i]?=some (f,v):=List.getElem?_zip_eq_some.2 ⟨hf,hv⟩
 unfold renL
 rw[List.getElem?_map,hz];rfl
end
end Go.Proofs
namespace Go.Proofs
open Go Go.Sx
section
variable{d:Ds}{B:Bj}{s t:St}
def canP(d:Ds)(m:Mm):List Int×List (Int×List Int) :=
 (renL (qBt d m).order d.globals m.globals,(qBt d m).order.map fun n=>match m.nodes[(n-1).toNat]? with|some x=>(x.ty,renL (qBt d m).order (qAq d x.ty) x.f) | none=>(0,[]))
end
end Go.Proofs
namespace Go.Proofs
open Go Go.Sx
attribute [local irreducible] Go.Sx.Tri
section
variable{V0 V V1:Mem}{d:Ds}{m:Mm}{p ib:Nat}{st:Sr}{o:Sl}
def srow(d:Ds)(m:Mm)(o:Sl)(ib:Nat)(a:Int):List Value:=[Go.Sx.vS d.name,d.ts.v,d.gs.v,d.ps.v,d.ms.v,d.is.v,d.qs.v,d.bs.v,m.gs.v,m.ns.v,o.v,.map (some ib),.int .i64 a]
def kn(O:List Int)(n:Int):Option Int:=if n∈O then some (posI O n+1) else none
theorem pos_app{O:List Int}{n x:Int}(hx:x∈O):posI (O++[n]) x=posI O x:=by
 unfold posI qIa
 rw[List.findIdx?_append]
 cases h:O.findIdx? (fun y=>decide (y=x)) with
 | none=>exact absurd (decide_eq_true rfl) (by rw[List.findIdx?_eq_none_iff.1 h x hx];decide)
 | some i=>rfl
theorem pos_new{O:List Int}{n:Int}(hn:¬n∈O):posI (O++[n]) n=(O.length:Int):=by
 unfold posI qIa
 have h:O.findIdx? (fun y=>decide (y=n))=none:=List.findIdx?_eq_none_iff.2 fun x hx=>decide_eq_false (by rintro rfl;exact hn hx)
 rw[List.findIdx?_append,h]
 simp[List.findIdx?_cons]
theorem kn_new{O:List Int}{n:Int}(hn:¬n∈O)(x:Int):kn (O++[n]) x=if x=n then some ((O.length:Int)+1) else kn O x:=by
 unfold kn
 by_cases hx:x=n
 ·subst hx
  rw[if_pos (by simp),if_pos rfl,pos_new hn]
 ·rw[if_neg hx]
  by_cases hm:x∈O
  ·rw[if_pos (by simp[hm]),if_pos hm,pos_app hm]
  ·rw[if_neg (by simp[hm,hx]),if_neg hm]
structure SrAt (V0:Mem) (d:Ds) (m:Mm) (p ib:Nat) (V:Mem) (st:Sr) (o:Sl):Prop where
 at_:V p=some (.cells (srow d m o ib st.again).toArray 253 (0,0))
 own:Sx.Own V0 V 3 1 o (st.order.flatMap qAf)
 map:qFS (Value.int .i64) V ib fun n=>(kn st.order n).map (Value.int .i64)
 cap:st.order.length+unS m st<=m.nodes.length
 rng:∀x∈st.order,1<=x/\x<=(m.nodes.length:Int)
structure SrS (V0:Mem) (d:Ds) (m:Mm) (p ib:Nat):Prop where
 mem:qAu d m=true
 ds:Ds.Ok V0 d
 mm:Mm.Ok V0 m
 p0:V0 p=none
 i0:V0 ib=none
 pi:p≠ib
theorem SrAt.cell(h:SrAt V0 d m p ib V st o)(i n:Nat)(hi:i+n<=13):V.rowp (sa p) i n=some (((srow d m o ib st.again).drop i).take n):=qAe h.at_ i n hi
theorem kn_pos{O:List Int}{n:Int}(h:n∈O):∃j,kn O n=some j/\1<=j:=by
 unfold kn
 rw[if_pos h]
 refine⟨_,rfl,?_⟩
 unfold posI
 rcases qAI (fun y=>decide (y=n)) O with⟨-,-,h1⟩|⟨j,z,h1,-⟩
 ·rw[List.any_eq_false]at h1
  exact absurd (decide_eq_true rfl) (h1 n h)
 ·rw[h1];omega
def SrPost(V0:Mem)(d:Ds)(m:Mm)(p ib:Nat)(st:Sr):Ending->Mem->Prop:=fun e V'=>e=.returned (.tuple #[])/\∃o,SrAt V0 d m p ib V' st o
variable(V0 d m p ib) in
def EntC(N:Nat):Prop:=∀(st:Sr) (n:Int) (f:Nat) V o,SrAt V0 d m p ib V st o->1<=n/\n<=(m.nodes.length:Int)->unS m st<=N->unS m st<f ->
 Tri Tryz.prog 254 #[pv p,.int .i64 n] V (SrPost V0 d m p ib (qCR d m f st n))
theorem lookC{N:Nat}(hE:EntC V0 d m p ib N){l s:Sl}{xs:List Fld}{vs:List Int}(hl:qAc V0 l 2 (xs.map Fld.row))(hs:qAc V0 s 1 (vs.map qAf))(hv:qAi d m xs vs=true){f:Nat}(h:SrAt V0 d m p ib V st o)(hN:unS m st<=N)(hf:unS m st<f) :
  Tri Tryz.prog 209 #[pv p,l.v,s.v] V (SrPost V0 d m p ib ((tgt xs vs).foldl (qCR d m f) st)):=by
 refine Tri.mono (x209 (R:=SrPost V0 d m p ib ((tgt xs vs).foldl (qCR d m f) st)) ?_) fun _ _ h=>h
 unfold w209
 have hlen:xs.length=vs.length:=(qAG.1 hv).1
 refine qLe xs.length (fun i V1=>∃o1,SrAt V0 d m p ib V1 ((tgtI xs vs i).foldl (qCR d m f) st) o1) ⟨o,by rw[tgtI_zero];exact h⟩ ?_
 rintro i V1 J hi ⟨o1,h1⟩ hJ
 have hl1:=hl.sub h1.own.sub
 have hs1:=hs.sub h1.own.sub
 refine⟨fun hlt=>?_,fun hge=>?_⟩
 ·obtain⟨x,hxm,hx,-,hil,hp,hz,hrow⟩:=hl1.get hlt
  have n1:=hl1.n_eq
  have n2:=hs1.n_eq
  obtain⟨y,hym,hy,-,hjl,hpy,hzy,hrowy⟩:=hs1.get (i:=i) (by omega)
  have hu:unS m ((tgtI xs vs i).foldl (qCR d m f) st)<=unS m st:=unS_le fun z hz=>foldP_sub d m f z _ _ hz
  have same:qDf (x,y)=false->∃o2,SrAt V0 d m p ib V1 ((tgtI xs vs (i+1)).foldl (qCR d m f) st) o2:=fun hr=>by
   rw[qEv hx hy,hr,if_neg (by decide),List.append_nil];exact⟨o1,h1⟩
  refine⟨hp,hz,hlt,_,_,hrow,c124.call ⟨_,rfl,fun h2=>⟨hl1.succ hlt,hJ hil _ (same ?_)⟩,fun h2=>⟨hpy,hzy,by omega,_,hrowy,fun h3=>⟨hl1.succ hlt,hJ hil _ (same ?_)⟩,fun h3=>⟨hpy,hzy,by omega,_,hrowy,?_⟩⟩⟩⟩
  ·unfold qDf;rw[show qBB x.ty=true from h2];rfl
  ·have h3:y=0:=h3
   unfold qDf;rw[h3];simp
  ·have hpl:qBB x.ty=false:=(Bool.not_eq_true _).mp h2
   have h3:¬y=0:=h3
   have hr:qDf (x,y)=true:=by unfold qDf;rw[hpl,decide_eq_true h3];rfl
   refine Tri.mono (hE _ y f V1 o1 h1 (qJY hv hx hy hpl h3) (by omega) (by omega)) ?_
   rintro _ V2 ⟨rfl,o2,h4⟩
   refine⟨rfl,hl1.succ hlt,hJ hil _ ⟨o2,?_⟩⟩
   rw[qEv hx hy,hr,if_pos rfl,List.foldl_append,List.foldl_cons,List.foldl_nil]
   exact h4
 ·have hd:=(hl1.done hge).2
  rw[qKC hd]at h1
  exact⟨rfl,o1,h1⟩
theorem enterC(S:SrS V0 d m p ib)(N:Nat)(ih:∀N',N'<N->EntC V0 d m p ib N'):EntC V0 d m p ib N:=by
 intro st n f V o h hn hN hf
 obtain⟨f,rfl⟩:∃f',f=f'+1:=⟨f-1,by omega⟩
 refine Tri.mono (x254 (R:=SrPost V0 d m p ib (qCR d m (f+1) st n)) ?_) fun _ _ h=>h
 unfold w254
 have hg:=h.map
 refine⟨nn,nn,_,h.cell 11 1 (by decide),qBz.key1 (k:=n) (qGt Tryz.underlying3) Tryz.underlying132 qFw hg ?_⟩
 by_cases hin:n∈st.order
 ·obtain⟨j,hj,hj1⟩:=kn_pos hin
  rw[hj]
  have e:qCR d m (f+1) st n=⟨st.order,if st.again=0 then n else st.again⟩:=by unfold qCR;rw[if_pos hin]
  rw[e]
  refine⟨j,rfl,fun h0=>?_,fun _=>⟨nn,nn,_,h.cell 12 1 (by decide),fun h0=>⟨nn,nn,?_⟩,fun h0=>?_⟩⟩
  ·have h0:j=0:=h0
   omega
  ·have h0:st.again=0:=h0
   rw[if_pos h0]
   refine StT.at2 (off:=12) h.at_ (by simp[srow]) ⟨rfl,o,?_,h.own.put (h.own.apart fun cur hc=>?_) S.p0 _,hg.set S.pi.symm,h.cap,h.rng⟩
   ·rw[Mem.set_same];rfl
   ·rw[h.at_]at hc;cases hc
  ·have h0:¬st.again=0:=h0
   rw[if_neg h0]
   exact⟨rfl,o,h⟩
 ·have hno:kn st.order n=none:=by unfold kn;rw[if_neg hin]
  rw[hno]
  have hcap:=h.cap
  have hlt:=unS_lt (st:=st) hn hin (a:=st.again)
  refine⟨0,rfl,fun _=>⟨nn,nn,o,h.cell 10 1 (by decide),fun tb htb=>?_⟩,fun h0=>absurd rfl h0⟩
  have pne:∀cur,V p≠some (.cells cur 3 (0,0)):=fun cur hc=>by rw[h.at_]at hc;cases hc
  have ine:∀cur,V ib≠some (.cells cur 3 (0,0)):=fun cur hc=>by
   obtain⟨e1,c1,k1,-⟩:=hg.at_
   rw[k1]at hc;cases hc
  have m4:=(qAj S.mem).2.1
  have hown2:=(h.own.but).new htb (.cells #[.int .i64 n] 3 (0,0))
  refine qFO (s:=o) (u:=⟨some ⟨tb,0,none⟩,1,1⟩) (xs:=st.order) (ys:=[n]) rfl rfl hown2 (qKX mss) (by simp;omega) fun o2 V2 ho2=>⟨o2,rfl,nn,nn,?_⟩
  have hsub:=ho2.sub
  have hp2:V2 p=some (.cells (srow d m o ib st.again).toArray 253 (0,0)):=hsub _ _ (Mem.but_at h.at_ (h.own.apart pne))
  have hg2:qFS (Value.int .i64) V2 ib fun n=>(kn st.order n).map (Value.int .i64):=by
   obtain⟨e1,c1,k1,k2⟩:=hg.at_
   exact⟨e1,c1,hsub _ _ (Mem.but_at k1 (h.own.apart ine)),k2⟩
  have ho3:Sx.Own V0 V2 3 1 o2 ((st.order++[n]).flatMap qAf):=ho2.narrow h.own.sub_but
  refine StT.at2 (off:=10) hp2 (by simp[srow]) ?_
  obtain⟨V3,hV3⟩:∃V3,V3=V2.set p (.cells (srow d m o2 ib st.again).toArray 253 (0,0)):=⟨_,rfl⟩
  have hgoal:V2.set p (.cells ((srow d m o ib st.again).toArray.toList.take 10++[uL o2]++(srow d m o ib st.again).toArray.toList.drop (10+[uL o2].length)).toArray 253 (0,0))=V3:=hV3.symm
  have hp3:V3 p=some (.cells (srow d m o2 ib st.again).toArray 253 (0,0)):=by rw[hV3,Mem.set_same]
  have hg3:qFS (Value.int .i64) V3 ib fun n=>(kn st.order n).map (Value.int .i64):=by rw[hV3];exact hg2.set S.pi.symm
  have pne2:∀cur,V2 p≠some (.cells cur 3 (0,0)):=fun cur hc=>by rw[hp2]at hc;cases hc
  have ho4:Sx.Own V0 V3 3 1 o2 ((st.order++[n]).flatMap qAf):=by rw[hV3];exact ho3.put (ho3.apart pne2) S.p0 _
  show ¬_/\_
  rw[hgoal]
  refine⟨nn,nn,_,qAe hp3 11 1 (by simp[srow]),nn,nn,o2,qAe hp3 10 1 (by simp[srow]),qDD.key (k:=n) (qGt Tryz.underlying3) Tryz.underlying132 hg3 fun ob hob=>?_⟩
  have hn2:=ho4.n_eq (fun _=>rfl) (by decide)
  rw[List.length_append,List.length_singleton]at hn2
  have h5:SrAt V0 d m p ib (V3.set ib ob) ⟨st.order++[n],st.again⟩ o2:=by
   refine⟨by rw[Mem.set_ne S.pi];exact hp3,ho4.put (ho4.apart fun cur hc=>?_) S.i0 _,hob.congr fun x=>?_,?_,fun x hx=>?_⟩
   ·obtain⟨e1,c1,k1,-⟩:=hg3.at_
    rw[k1]at hc;cases hc
   ·rw[kn_new hin,show ((st.order.length:Int)+1)=(o2.n:Int) by omega]
    by_cases hx:x=n <;> simp[hx]
   ·show (st.order++[n]).length+_<=_
    rw[List.length_append,List.length_singleton];omega
   ·rcases List.mem_append.1 hx with hx|hx
    ·exact h.rng x hx
    ·rw[List.mem_singleton.1 hx];exact hn
  obtain⟨q,rfl⟩:∃q:Nat,n=(q:Int)+1:=⟨(n-1).toNat,by omega⟩
  have hmm:=S.mm.sub h5.own.sub
  have hdd:=S.ds.sub h5.own.sub
  have hnn:=hmm.nodes.n_eq
  obtain⟨x,hxm,hx,-,hl2,hpx,hzx,hrowx⟩:=hmm.nodes.get (i:=q) (by omega)
  have hty:=(qAj S.mem).2.2.1 x hxm
  obtain⟨c1,c2⟩:=of_decide_eq_true hty
  obtain⟨j,hj⟩:∃j:Nat,x.ty=(j:Int):=⟨_,(Int.toNat_of_nonneg c1).symm⟩
  have htn:=hdd.types.n_eq
  obtain⟨t,htm,ht,-,hl3,hpt3,hzt,hrowt⟩:=hdd.types.get (i:=j) (by omega)
  have hI:IR ((q:Int)):=⟨by omega,by have:=(hmm.nodes.succ (i:=q) (by omega)).2;omega⟩
  rw[show ((q:Int)+1-1)=(q:Int) by omega]
  refine⟨nn,nn,pnn,m.ns,h5.cell 9 1 (by decide),hI,hpx,hzx,by omega,_,_,hrowx,nn,nn,pnn,d.ts,h5.cell 1 1 (by decide),?_⟩
  rw[hj]
  have hfo:=qAS ht hj
  have hvals:=(qAj S.mem).2.2.2.2 x hxm
  rw[hfo]at hvals
  refine⟨hpt3,hzt,by omega,qAd hpt3,_,_,hrowt,Tri.mono (lookC (ih (unS m ⟨st.order++[(q:Int)+1],st.again⟩) (by omega)) (S.ds.typesOk t htm).fields (S.mm.nodesOk x hxm).rows hvals (f:=f) h5 (Nat.le_refl _) (by omega)) ?_⟩
  rintro _ V5 ⟨rfl,o5,h6⟩
  refine⟨rfl,rfl,o5,?_⟩
  have e:qCR d m (f+1) st ((q:Int)+1)=(tgt t.fields x.f).foldl (qCR d m f) ⟨st.order++[(q:Int)+1],st.again⟩:=by
   rw[qCR,if_neg hin]
   unfold qAM
   rw[show ((q:Int)+1-1).toNat=q by omega,hx]
   show (tgt (qAq d x.ty) x.f).foldl _ _=_
   rw[hfo]
  rw[e];exact h6
theorem entAll(S:SrS V0 d m p ib):∀N,EntC V0 d m p ib N:=fun N=>Nat.strongRecOn N fun N ih=>enterC S N ih
end
section
variable{V:Mem}{d:Ds}{m:Mm}
theorem c176(hmv:qAu d m=true)(hd:Ds.Ok V d)(hm:Mm.Ok V m):Tri Tryz.prog 176 #[d.v,m.v] V fun e V'=>∃p ib o,e=.returned (pv p)/\SrAt V d m p ib V' (qBt d m) o:=by
 refine x176 ?_
 unfold w176
 refine GenK.makeMap fun ib hib=>⟨some ib,rfl,fun p hp=>?_⟩
 have n1:p≠ib:=fun e=>by rw[e,Mem.set_same]at hp;cases hp
 have hp0:V p=none:=by rw[Mem.set_ne n1]at hp;exact hp
 have s1:=Mem.sub_new hib (.map #[] 0)
 have s2:=Mem.sub_new hp (.cells (srow d m ⟨none,0,0⟩ ib 0).toArray 253 (0,0))
 have S:SrS V d m p ib:=⟨hmv,hd,hm,hp0,hib,n1⟩
 have hu:unS m ⟨[],0⟩<=m.nodes.length:=qKz
 have h0:SrAt V d m p ib ((V.set ib (.map #[] 0)).set p (.cells (srow d m ⟨none,0,0⟩ ib 0).toArray 253 (0,0))) ⟨[],0⟩ ⟨none,0,0⟩ :=
  ⟨Mem.set_same _ _ _,Own.nil (s1.trans s2) _ _,(((qFS.made V ib).sub s2)).congr fun _=>rfl,by show 0+unS m ⟨[],0⟩<=_;omega,fun x h=>by simp at h⟩
 refine Tri.mono (lookC (entAll S m.nodes.length) hd.globals hm.globals (qAj hmv).2.2.2.1 (f:=m.nodes.length+1) h0 hu (by omega)) ?_
 rintro _ V2 ⟨rfl,o,h⟩
 exact⟨rfl,p,ib,o,rfl,h⟩
theorem renL_len{O:List Int}{xs:List Fld}{vs:List Int}(h:xs.length=vs.length):(renL O xs vs).length=xs.length:=by
 unfold renL;rw[List.length_map,List.length_zip];omega
end
section
variable{V:Mem}{d:Ds}{m:Mm}
theorem Own.growS{V0 V V':Mem}{e:TypeId}{sz:Nat}{s:Sl}{vs:List Value}(h:Sx.Own V0 V e sz s vs)(hs:V.sub V'):Sx.Own V0 V' e sz s vs:=Own.moveB h (h.sub.trans hs) fun _ _ _ hg=>hs _ _ hg
theorem valid_hasT(h:qJz d=true):qAB d=true:=by
 unfold qJz at h
 simp only[Bool.and_eq_true]at h
 exact h.1.1
structure CanAt (d:Ds) (m:Mm) (V2 V:Mem) (s:Sl) (i:Nat) (nd:List Nd):Prop where
 len:nd.length=i
 at_:∀(j:Nat) n x,j<i->(qBt d m).order[j]?=some n->m.nodes[(n-1).toNat]?=some x->∃s,nd[j]?=some ⟨x.ty,s,renL (qBt d m).order (qAq d x.ty) x.f⟩
 mem:∃W,V2.sub W/\Sx.Own W V 92 2 s (nd.flatMap Nd.row)/\∀n∈nd,Nd.Ok W n
theorem ren_in{O:List Int}{xs:List Fld}{vs:List Int}(hO:O.length<=4096)(h:∀v∈vs,inI v):∀v∈renL O xs vs,inI v:=fun v hv=>by
 unfold renL at hv
 obtain⟨⟨a,b⟩,hab,rfl⟩:=List.mem_map.1 hv
 have hb:=h b (List.of_mem_zip hab).2
 show inI (if _ then b else rho O b)
 split
 ·exact hb
 ·unfold rho
  split
  ·exact⟨by omega,by omega⟩
  ·unfold posI
   rcases qAI (fun z=>decide (z=b)) O with⟨e,-⟩|⟨j,_,e,-,-,e2,-⟩
   ·rw[e];exact⟨by decide,by decide⟩
   ·rw[e];exact⟨by show (-9223372036854775808:Int)<=(j:Int)+1;omega,by show (j:Int)+1<=(9223372036854775807:Int);omega⟩
theorem c13{s t:Sl}{xs ys:List Int}(h:qAc V s 1 (xs.map qAf))(k:qAc V t 1 (ys.map qAf)):PP 13 [.slice s.p s.n s.c,.slice t.p t.n t.c] V (.bool (decide (xs=ys))):=by
 refine x13 ?_
 unfold w13
 have n1:=h.n_eq
 have n2:=k.n_eq
 refine⟨fun hl=>?_,fun hl=>?_⟩
 ·refine qAD (mk:=.bool) (b0:=false) xs.length (fun i V1=>V=V1/\xs.take i=ys.take i) ⟨rfl,rfl⟩ ?_
  rintro i b V1 J hi ⟨rfl,he⟩ hJ
  refine⟨fun hlt=>?_,fun hge=>?_⟩
  ·obtain⟨x,hxm,hx,-,hil,hp,hz,hrow⟩:=h.get hlt
   obtain⟨y,hym,hy,-,hjl,hp2,hz2,hrow2⟩:=k.get (i:=i) (by omega)
   refine⟨hp,hz,hlt,_,hrow,hp2,hz2,by omega,_,hrow2,fun hE=>⟨h.succ hlt,hJ hil _ _ ⟨rfl,take_eq he hx hy hE⟩⟩,fun hE=>?_⟩
   rw[decide_eq_false fun e=>?_]
   ·exact⟨rfl,rfl⟩
   ·rw[e,hy]at hx;cases hx;exact hE rfl
  ·have hd:=(h.done hge).2
   rw[List.take_of_length_le hd,List.take_of_length_le (by omega)]at he
   rw[decide_eq_true he];exact⟨rfl,rfl⟩
 ·rw[decide_eq_false fun e=>hl (by rw[n1,n2,e])];exact⟨rfl,rfl⟩
theorem canP_of{c:Mm}(hmv:qAu d m=true)(I:IsCan d m c (qBt d m).order):c.plain=canP d m:=by
 have R:=qGi hmv
 unfold Mm.plain canP
 rw[I.globals]
 refine Prod.ext rfl (List.ext_getElem? fun i=>?_)
 rw[List.getElem?_map,List.getElem?_map]
 cases hn:(qBt d m).order[i]? with
 | none =>
  have:c.nodes[i]?=none:=by
   rw[List.getElem?_eq_none_iff]at hn ⊢
   rw[I.len];exact hn
  rw[this];rfl
 | some n =>
  have hr:=R.rng n (List.mem_of_getElem? hn)
  have hx:=List.getElem?_eq_getElem (l:=m.nodes) (i:=(n-1).toNat) (by omega)
  obtain⟨sl,hs⟩:=I.at_ i n _ hn hx
  rw[hs]
  simp only[Option.map_some]
  rw[hx]
end
theorem loop3b{V:Mem}{β γ:Type}{mk:β->Value}{mc:γ->Value}{B:β->γ->Int->Mem->(List Value->Mem->Prop)->Prop}{b0:β}{c0:γ}(ib:∀x y,mk x=mk y->x=y)(ic:∀x y,mc x=mc y->x=y)(len:Nat)(St:Nat->β->γ->Mem->Prop)(h0:St 0 b0 c0 V)
  (step:∀(i:Nat) (b:β) (c:γ) V1 J,i<=len->St i b c V1->(i<len->∀b' c' V2,St (i+1) b' c' V2->J [mk b',mc c',.int .i64 ((i:Int)+1)] V2)->B b c (i:Int) V1 J) :
  ∃(I:Nat->List Value->Mem->Prop) (n0:Nat),I n0 [mk b0,mc c0,.int .i64 0] V/\∀n V1,∀b:β,∀c:γ,∀v:Int,I n [mk b,mc c,.int .i64 v] V1->∀J:List Value->Mem->Prop,(∀m ys V'',m<n->I m ys V''->J ys V'')->B b c v V1 J:=by
 refine⟨LI len fun i xs V=>∃b c,xs=[mk b,mc c,.int .i64 i]/\St i b c V,len,LI.start ⟨b0,c0,rfl,h0⟩,?_⟩
 rintro n V1 b c v ⟨i,rfl,hi,b',c',hx,hs⟩ J hJ
 simp only[List.cons.injEq,Value.int.injEq,true_and,and_true]at hx
 obtain⟨hb,hc,rfl⟩:=hx
 cases ib _ _ hb;cases ic _ _ hc
 exact step i b c V1 J hi hs fun hlt b' c' V2 h2=>LI.next hJ hlt ⟨b',c',rfl,h2⟩
theorem qHV{t:ByteArray}(h:t=qAV∨t=qAt):qBB t=true:=by
 unfold qBB
 rcases h with rfl|rfl <;> simp
section
variable{V0 V:Mem}{d:Ds}{m:Mm}
theorem c177{s:Sl}{l:List Int}(h:qAc V s 1 (l.map qAf)){x:Int}:PP 177 [s.v,.int .i64 x] V (.int .i64 (posI l x)):=by
 refine x177 ?_
 unfold w177
 refine qAD (mk:=.int .i64) (b0:=0) l.length (fun j V1=>V=V1/\qAX (fun y:Int=>!decide (y=x)) l j) ⟨rfl,qAX.zero _ _⟩ ?_
 rintro j b V1 J hj ⟨rfl,ha⟩ hJ
 refine⟨fun hlt=>?_,fun hge=>?_⟩
 ·obtain⟨y,hym,hy,-,hjl,hp,hz,hrow⟩:=h.get hlt
  refine⟨hp,hz,hlt,_,hrow,fun hE=>?_,fun hE=>⟨h.succ hlt,hJ hjl _ _ ⟨rfl,qCW ha hy (decide_eq_false hE)⟩⟩⟩
  have e:posI l x=(j:Int):=by grind [posI,qDM,decide_eq_true]
  simp_all
 ·have e:posI l x=-1:=by unfold posI;exact qEM ha (h.done hge).2
  simp_all
theorem pos_neg{l:List Int}{x:Int}:¬(0<=posI l x)↔¬x∈l:=by
 unfold posI
 rcases qAI (fun y=>decide (y=x)) l with⟨h1,-,h2⟩|⟨i,y,h1,h2,-,h3,h4,-⟩
 ·grind
 grind
theorem tgtI_in{xs:List Fld}{vs:List Int}(h:qAi d m xs vs=true){i:Nat}:∀y∈tgtI xs vs i,1<=y/\y<=(m.nodes.length:Int):=fun y hy=>by
 have:y∈tgt xs vs:=by
  unfold tgtI at hy;unfold tgt
  obtain⟨a,ha,rfl⟩:=List.mem_map.1 hy
  grind
 obtain⟨j,f,h1,h2,h3,h4⟩:=tgt_mem.1 this
 exact qJY h h1 h2 h3 h4
def LookRP(V0:Mem)(st:Sr):Ending->Mem->Prop:=fun e V'=>∃s:Sl,e=.returned (.agg #[s.v,.int .i64 st.again])/\Sx.Own V0 V' 3 1 s (st.order.flatMap qAf)
variable(V0 d m) in
def LookRC(N:Nat):Prop:=∀(st:Sr) (f:Nat) V (s l q:Sl) (xs:List Fld) (vs:List Int),unS m st<=N->unS m st<f->st.order.length+unS m st<=m.nodes.length->qAc V0 l 2 (xs.map Fld.row)->qAc V0 q 1 (vs.map qAf)->qAi d m xs vs=true->Sx.Own V0 V 3 1 s (st.order.flatMap qAf) ->
 Tri Tryz.prog 135 #[d.v,m.v,.agg #[s.v,.int .i64 st.again],l.v,q.v] V (LookRP V0 (lookP d m f st xs vs))
theorem lookRC(hmv:qAu d m=true)(hd:Ds.Ok V0 d)(hm:Mm.Ok V0 m)(N:Nat)(ih:∀N',N'<N->LookRC V0 d m N'):LookRC V0 d m N:=by
 intro st f V s l q xs vs hN hf hcap hl hq hv ho
 refine Tri.mono (x135 (R:=LookRP V0 (lookP d m f st xs vs)) ?_) fun _ _ h=>h
 unfold w135
 have hlen:xs.length=vs.length:=by
  grind [qAi]
 have m4:=(qAj hmv).2.1
 refine loop3b (mk:=fun s:Sl=>.slice s.p s.n s.c) (mc:=.int .i64) (b0:=s) (c0:=st.again) qBc qEf xs.length (fun i s1 a V1=>a=((tgtI xs vs i).foldl (qCR d m f) st).again/\Sx.Own V0 V1 3 1 s1 (((tgtI xs vs i).foldl (qCR d m f) st).order.flatMap qAf)) ⟨rfl,ho⟩ ?_
 rintro i s1 a V1 J hi ⟨rfl,h1⟩ hJ
 obtain⟨sti,hsti⟩:∃sti,sti=(tgtI xs vs i).foldl (qCR d m f) st:=⟨_,rfl⟩
 rw[<- hsti]at h1 ⊢
 have hu:unS m sti<=unS m st:=by simp_all [unS_le,foldP_sub]
 have hcl:Cl d m st sti:=by rw[hsti];exact(qLq (ent_cl hmv f) (tgtI xs vs i) st (tgtI_in hv) hf).1
 have hcap1:=hcl.cap hcap
 have hl1:=hl.sub h1.sub
 have hq1:=hq.sub h1.sub
 refine⟨fun hlt=>?_,fun hge=>?_⟩
 ·obtain⟨x,hxm,hx,-,hil,hp,hz,hrow⟩:=hl1.get hlt
  have n1:=hl1.n_eq
  have n2:=hq1.n_eq
  obtain⟨y,hym,hy,-,hjl,hpy,hzy,hrowy⟩:=hq1.get (i:=i) (by omega)
  have same:qDf (x,y)=false->J [.slice s1.p s1.n s1.c,.int .i64 sti.again,.int .i64 ((i:Int)+1)] V1:=fun hr=>by
   refine hJ hil s1 sti.again V1 ?_
   rw[qEv hx hy,hr,if_neg (by decide),List.append_nil,<- hsti];exact⟨rfl,h1⟩
  have pl:qBB x.ty=true->qDf (x,y)=false:=fun h=>by grind [qDf,qBB]
  refine⟨hpy,hzy,by omega,_,hrowy,hp,hz,hlt,qAd hp,_,_,hrow,fun h2=>⟨hl1.succ hlt,same (pl ?_)⟩,fun h2=>⟨hp,hz,hlt,qAd hp,_,_,hrow,fun h3=>⟨hl1.succ hlt,same (pl ?_)⟩,fun h3=>⟨fun h4=>⟨hl1.succ hlt,same ?_⟩,fun h4=>?_⟩⟩⟩
  ·grind [qAV,qBB]
  ·grind [qAt,qBB]
  ·grind [qDf]
  have hpl:qBB x.ty=false:=by
   grind [qAV,qAt,qBB]
  have h4:¬y=0:=h4
  have hr:qDf (x,y)=true:=by grind [qDf]
  have hy1:=qJY hv hx hy hpl h4
  have next:∀(s':Sl) V2,Sx.Own V0 V2 3 1 s' ((qCR d m f sti y).order.flatMap qAf)->J [.slice s'.p s'.n s'.c,.int .i64 (qCR d m f sti y).again,.int .i64 ((i:Int)+1)] V2:=fun s' V2 h=>by
   refine hJ hil s' _ V2 ?_
   rw[qEv hx hy,hr,if_pos rfl,List.foldl_append,List.foldl_cons,List.foldl_nil,<- hsti]
   exact⟨rfl,h⟩
  obtain⟨f,rfl⟩:∃f',f=f'+1:=⟨f-1,by omega⟩
  refine(c177 (h1.rows (fun _=>rfl) (by decide))).call ⟨_,rfl,fun h5=>?_,fun h5=>?_⟩
  ·have hin:y∈sti.order:=Classical.not_not.1 fun h=>pos_neg.2 h h5
   have e:qCR d m (f+1) sti y=⟨sti.order,if sti.again=0 then y else sti.again⟩:=by grind [qCR]
   rw[e]at next
   refine⟨fun h6=>⟨hl1.succ hlt,?_⟩,fun h6=>⟨hl1.succ hlt,?_⟩⟩
   ·simp_all
   simp_all
  ·have hin:¬y∈sti.order:=pos_neg.1 h5
   have hlt2:=unS_lt (st:=sti) hy1 hin (a:=sti.again)
   intro tb htb
   refine qFO (s:=s1) (u:=⟨some ⟨tb,0,none⟩,1,1⟩) (xs:=sti.order) (ys:=[y]) rfl rfl (h1.but.new htb (.cells #[.int .i64 y] 3 (0,0))) (qKX mss) (by simp;omega) fun o2 V2 ho2=>⟨o2,rfl,?_⟩
   have ho3:Sx.Own V0 V2 3 1 o2 ((sti.order++[y]).flatMap qAf):=ho2.narrow h1.sub_but
   obtain⟨k,rfl⟩:∃k:Nat,y=(k:Int)+1:=⟨(y-1).toNat,by omega⟩
   have hmm:=hm.sub ho3.sub
   have hdd:=hd.sub ho3.sub
   have hnn:=hmm.nodes.n_eq
   obtain⟨z,hzm,hz',-,hl2,hpx,hzx,hrowx⟩:=hmm.nodes.get (i:=k) (by omega)
   obtain⟨c1,c2⟩:=of_decide_eq_true ((qAj hmv).2.2.1 z hzm)
   obtain⟨j,hj⟩:∃j:Nat,z.ty=(j:Int):=⟨_,(Int.toNat_of_nonneg c1).symm⟩
   have htn:=hdd.types.n_eq
   obtain⟨t,htm,ht,-,hl3,hpt3,hzt,hrowt⟩:=hdd.types.get (i:=j) (by omega)
   have hI:IR ((k:Int)):=⟨by omega,by omega⟩
   have hfo:=qAS ht hj
   have hvals:=(qAj hmv).2.2.2.2 z hzm
   rw[hfo]at hvals
   rw[show ((k:Int)+1-1)=(k:Int) by omega]
   refine⟨hI,hpx,hzx,by omega,qAd hpx,_,_,hrowx,?_⟩
   rw[hj]
   refine⟨hpt3,hzt,by omega,qAd hpt3,_,_,hrowt,hI,hpx,hzx,by omega,qAd hpx,_,_,hrowx,?_⟩
   refine Tri.mono (ih (unS m ⟨sti.order++[(k:Int)+1],sti.again⟩) (by omega) ⟨sti.order++[(k:Int)+1],sti.again⟩ f V2 o2 t.fs z.sl t.fields z.f (Nat.le_refl _) (by omega) ?_ (hd.typesOk t htm).fields (hm.nodesOk z hzm).rows hvals ho3) ?_
   ·grind
   rintro _ V5 ⟨s5,rfl,h6⟩
   have e:qCR d m (f+1) sti ((k:Int)+1)=lookP d m f ⟨sti.order++[(k:Int)+1],sti.again⟩ t.fields z.f:=by
    rw[qCR,if_neg hin]
    simp_all [qAM,lookP,Int,tgt,qAq]
   rw[<- e]at h6 ⊢
   exact⟨_,_,rfl,hl1.succ hlt,next s5 V5 h6⟩
 ·have hdn:=(hl1.done hge).2
  rw[qKC hdn]at hsti
  have e:lookP d m f st xs vs=sti:=hsti.symm
  rw[e]
  exact⟨s1,rfl,h1⟩
theorem c87(hmv:qAu d m=true)(hd:Ds.Ok V d)(hm:Mm.Ok V m):Tri Tryz.prog 87 #[d.v,m.v] V (LookRP V (qBt d m)):=by
 refine Tri.mono (x87 (R:=LookRP V (qBt d m)) ?_) fun _ _ h=>h
 unfold w87
 have hu:=qKz (m:=m)
 have all:∀N,LookRC V d m N:=fun N=>Nat.strongRecOn N fun N ih=>lookRC hmv hd hm N ih
 refine Tri.mono (all m.nodes.length ⟨[],0⟩ (m.nodes.length+1) V ⟨none,0,0⟩ d.gs m.gs d.globals m.globals hu (by omega) (by simp_all) hd.globals hm.globals (qAj hmv).2.2.2.1 (Own.nil (Mem.sub.refl V) _ _)) ?_
 rintro _ V2 ⟨s,rfl,h⟩
 exact⟨_,_,rfl,s,rfl,h⟩
end
section
variable{V:Mem}{d:Ds}{m:Mm}
theorem c142{l q o:Sl}{xs:List Fld}{vs O:List Int}(hl:qAc V l 2 (xs.map Fld.row))(hq:qAc V q 1 (vs.map qAf))(ho:qAc V o 1 (O.map qAf))(hO:O.length<=4096)(he:xs.length=vs.length)(hb:xs.length<=4096) :
  Tri Tryz.prog 142 #[l.v,q.v,o.v] V fun e V'=>∃s:Sl,e=.returned (.slice s.p s.n s.c)/\Sx.Own V V' 3 1 s ((renL O xs vs).flatMap qAf):=by
 refine x142 ?_
 unfold w142
 have hrl:=renL_len (O:=O) he
 refine qFt (mk:=fun s:Sl=>.slice s.p s.n s.c) (b0:=⟨none,0,0⟩) qBc xs.length (fun i s V1=>Sx.Own V V1 3 1 s (((renL O xs vs).take i).flatMap qAf)) (Own.nil (Mem.sub.refl _) _ _) ?_
 rintro i s V1 J hi h1 hJ
 have hl1:=hl.sub h1.sub
 have hq1:=hq.sub h1.sub
 refine⟨fun hlt=>?_,fun hge=>?_⟩
 ·obtain⟨x,hxm,hx,-,hil,hp,hz,hrow⟩:=hl1.get hlt
  have n2:=hq1.n_eq
  obtain⟨y,hym,hy,-,hjl,hpy,hzy,hrowy⟩:=hq1.get (i:=i) (by omega)
  have hre:=ren_at (O:=O) hx hy
  have add:∀{w z:Int} {V2:Mem} {ty:Nat} {a b:Operand} {vals:Operand->Value},V1=V2->w=(if qBB x.ty=true then y else rho O y)->z=w->∀tb,V2 tb=none->vals a=.slice s.p s.n s.c->vals b=.slice (sa tb) 1 1 ->
    GenK Tryz.prog (.call { callee:=.builtin .append,args:=#[a,b],argTypes:=#[31,31] }) ty vals (V2.set tb (.cells #[.int .i64 z] 3 (0,0))) fun x V3=>∃v9:Sl,x=uL v9/\IR ((i:Int)+1)/\J [uL v9,uI ((i:Int)+1)] V3:=fun {w z V2 ty a b vals} e hw hz tb htb ha hb=>by
   subst e;subst hz
   refine qFO (s:=s) (u:=⟨some ⟨tb,0,none⟩,1,1⟩) (xs:=(renL O xs vs).take i) (ys:=[z]) ha hb (h1.but.new htb (.cells #[.int .i64 z] 3 (0,0))) (qKX mss) (by grind) fun o2 V3 ho2=>⟨o2,rfl,hl1.succ hlt,hJ hil _ _ ?_⟩
   rw[List.take_add_one,hre,<- hw]
   exact ho2.narrow h1.sub_but
  have pl:∀{c:Bool},qBB x.ty=c->(if qBB x.ty=true then y else rho O y)=if c=true then y else rho O y:=fun h=>by rw[h]
  refine⟨hpy,hzy,by omega,_,hrowy,hp,hz,hlt,qAd hp,_,_,hrow,fun h2 tb htb=>add rfl (by rw[pl (qHV (.inl h2))];rfl) rfl tb htb rfl rfl,fun h2=>⟨hp,hz,hlt,qAd hp,_,_,hrow,fun h3 tb htb=>add rfl (by rw[pl (qHV (.inr h3))];rfl) rfl tb htb rfl rfl,fun h3=>?_⟩⟩
  have hpl:qBB x.ty=false:=by
   grind [qAV,qAt,qBB]
  refine⟨fun h4 tb htb=>add rfl ?_ rfl tb htb rfl rfl,fun h4=>?_⟩
  ·grind [rho_zero]
  ·refine(c177 (ho.sub h1.sub)).call ⟨_,rfl,?_,fun tb htb=>add rfl ?_ rfl tb htb rfl rfl⟩
   ·unfold posI
    rcases qAI (fun z=>decide (z=y)) O with⟨e,-⟩|⟨j,_,e,-,-,e2,-⟩
    ·rw[e];exact⟨by omega,by omega⟩
    ·rw[e];exact⟨by omega,by omega⟩
   grind [rho]
 ·have hd:=(hl1.done hge).2
  grind
theorem qIX(h:qAB d=true):d.globals.length<=8/\∀t∈d.types,t.fields.length<=12:=by
 grind [qAB,qDg,tyB]
theorem qGP{l:List Fld}{vs:List Int}(h:qAi d m l vs=true):l.length=vs.length:=by
 grind [qAi]
theorem c96(G:qAv d m)(hd:Ds.Ok V d)(hm:Mm.Ok V m):Tri Tryz.prog 96 #[d.v,m.v] V fun e V'=>V.sub V'/\∃c:Mm,e=.returned (.agg #[c.gs.v,c.ns.v])/\Mm.Ok V' c/\IsCan d m c (qBt d m).order:=by
 refine x96 ?_
 unfold w96
 refine Tri.mono (c87 G.mem hd hm) ?_
 rintro _ V1 ⟨o,rfl,ho⟩
 have R:=qGi G.mem
 obtain⟨p1,p2,p3,p4,p5⟩:=qAj G.mem
 obtain⟨l1,l2⟩:=qIX G.valid
 have hcap:=R.cap
 have hoR:=ho.rows (fun _=>rfl) (by decide)
 refine⟨o,_,rfl,Tri.mono (c142 (hd.globals.sub ho.sub) (hm.globals.sub ho.sub) hoR (by omega) (qGP p4) (by omega)) ?_⟩
 rintro _ V2 ⟨gs,rfl,hg⟩
 refine⟨gs,rfl,?_⟩
 have hgR:=hg.rows (fun _=>rfl) (by decide)
 refine loop3b (mk:=fun s:Sl=>.slice s.p s.n s.c) (mc:=fun s:Sl=>.slice s.p s.n s.c) (b0:=gs) (c0:=⟨none,0,0⟩) qBc qBc (qBt d m).order.length (fun i b c V3=>b=gs/\∃nd,CanAt d m V2 V3 c i nd) ⟨rfl,[],rfl,(fun _ _ _ h=>by omega),V2,Mem.sub.refl _,Own.nil (Mem.sub.refl _) _ _,(fun _ h=>by cases h)⟩ ?_
 rintro i b s V3 J hi ⟨rfl,nd,C⟩ hJ
 obtain⟨W,hW,hown,hnd⟩:=C.mem
 have s03:V.sub V3:=((ho.sub.trans hg.sub).trans hW).trans hown.sub
 have hd3:=hd.sub s03
 have hm3:=hm.sub s03
 have ho3:=hoR.sub ((hg.sub.trans hW).trans hown.sub)
 refine⟨fun hlt=>?_,fun hge=>?_⟩
 ·obtain⟨n,hnm,hn,-,hil,hp,hz,hrow⟩:=ho3.get hlt
  have hr:=R.rng n hnm
  obtain⟨k,rfl⟩:∃k:Nat,n=(k:Int)+1:=⟨(n-1).toNat,by omega⟩
  have hnn:=hm3.nodes.n_eq
  obtain⟨z,hzm,hz',-,hl2,hpx,hzx,hrowx⟩:=hm3.nodes.get (i:=k) (by omega)
  obtain⟨c1,c2⟩:=of_decide_eq_true (p3 z hzm)
  obtain⟨j,hj⟩:∃j:Nat,z.ty=(j:Int):=⟨_,(Int.toNat_of_nonneg c1).symm⟩
  have htn:=hd3.types.n_eq
  obtain⟨t,htm,ht,-,hl3,hpt3,hzt,hrowt⟩:=hd3.types.get (i:=j) (by omega)
  have hI:IR ((k:Int)):=⟨by omega,by omega⟩
  have hfo:=qAS ht hj
  have hvals:=p5 z hzm
  rw[hfo]at hvals
  refine⟨hp,hz,hlt,_,hrow,?_⟩
  rw[show ((k:Int)+1-1)=(k:Int) by omega]
  refine⟨hI,hpx,hzx,by omega,_,_,hrowx,?_⟩
  rw[hj]
  refine⟨hpt3,hzt,by omega,qAd hpt3,_,_,hrowt,Tri.mono (c142 (hd3.typesOk t htm).fields (hm3.nodesOk z hzm).rows ho3 (by omega) (qGP hvals) (by grind)) ?_⟩
  rintro _ V4 ⟨fs,rfl,hf⟩
  refine⟨fs,rfl,fun tb htb=>?_⟩
  have ho4:=Own.growS hown hf.sub
  have hfR:=hf.rows (fun _=>rfl) (by decide)
  obtain⟨nn,hnn'⟩:∃nn:Nd,nn=⟨(j:Int),fs,renL (qBt d m).order t.fields z.f⟩:=⟨_,rfl⟩
  have hblk:qAc (V4.but s) fs 1 ((renL (qBt d m).order t.fields z.f).map qAf):=by
   have:Sx.Own (fun _=>none) (V4.but s) 3 1 fs ((renL (qBt d m).order t.fields z.f).flatMap qAf):=⟨(fun _ _ h=>by cases h),hf.len,by
    rcases hf.at_ with h|⟨g,cur,a,b,c,dd⟩
    ·exact .inl h
    ·exact .inr ⟨g,cur,a,rfl,Mem.but_at c (hown.apartN b),dd⟩⟩
   exact this.rows (fun _=>rfl) (by decide)
  have hn2:Nd.Ok (V4.but s) nn:=by
   rw[hnn']
   exact⟨hblk,⟨by simp_all,by show (j:Int)<=9223372036854775807;have:=(hd3.types.succ (i:=j) (by omega)).2;omega⟩,ren_in (by omega) (hm3.nodesOk z hzm).vals⟩
  have hlen:nd.length<=4096:=by rw[C.len];omega
  refine app32 (s:=s) (u:=⟨some ⟨tb,0,none⟩,1,1⟩) (xs:=nd) (ys:=[nn]) rfl rfl (ho4.but.new htb (.cells #[uI (j:Int),uL fs] 92 (0,0))) (qAc.cells (xs:=[nn]) (row:=Nd.row) mss (by rw[hnn'];rfl) (fun _=>rfl) rfl (by simp)) (by simp;omega) fun o2 V5 ho2=>⟨o2,rfl,ho3.succ hlt,hJ hil _ _ _ ⟨rfl,nd++[nn],by rw[List.length_append,C.len];rfl,fun q w x hq hw hx=>?_,V4.but s,hW.trans ho4.sub_but,ho2,fun w hw=>?_⟩⟩
  ·by_cases hqi:q<i
   ·obtain⟨sl,hs⟩:=C.at_ q w x hqi hw hx
    exact⟨sl,by rw[List.getElem?_append_left (by grind)];exact hs⟩
   ·have:q=i:=by omega
    subst this
    rw[hn]at hw;cases hw
    rw[show ((k:Int)+1-1).toNat=k by omega,hz']at hx;cases hx
    refine⟨fs,?_⟩
    rw[<- C.len,List.getElem?_concat_length,hnn',hfo,hj]
  ·rcases List.mem_append.1 hw with hw|hw
   ·exact(hnd w hw).sub ho4.sub_but
   simp_all
 ·have hdn:=(ho3.done hge).2
  have hi':i=(qBt d m).order.length:=by omega
  refine⟨s03,⟨b,renL (qBt d m).order d.globals m.globals,s,nd⟩,rfl,⟨hgR.sub (hW.trans hown.sub),ren_in (by omega) hm.gIn,hown.rows (fun _=>rfl) (by decide),fun n hn=>(hnd n hn).sub hown.sub⟩,rfl,by rw[<- hi'];exact C.len,fun j n x hj hx=>C.at_ j n x (by grind) hj hx⟩
end
section
variable{V:Mem}{d:Ds}{m:Mm}
theorem c132[Tab V](hmv:qAu d m=true)(hd:Ds.Ok V d)(hm:Mm.Ok V m):Tri Tryz.prog 132 #[d.v,m.v] V fun e V'=>∃o:Sl,e=.returned (.tuple #[.slice o.p o.n o.c,.int .i64 0])/\Sx.Own V V' 3 1 o ((qBt d m).order.flatMap qAf):=by
 refine x132 ?_
 unfold w132
 refine(c44 hd hm).call ⟨_,rfl,fun _=>Tri.mono (c176 hmv hd hm) ?_,fun h=>absurd hmv h⟩
 rintro _ V2 ⟨p,ib,o,rfl,h⟩
 exact⟨_,rfl,nn,nn,o,h.cell 10 1 (by decide),o,rfl,h.own⟩
end
theorem keys_len:∀(es:List MapEntry) (c:List Int),(∀e∈es,∃a,e.key=Value.int .i64 a)->es.Pairwise (fun e f=>e.key≠f.key)->c.Nodup->(∀a,(qEr es (.int .i64 a)).isSome=decide (a∈c))->es.length=c.length:=fun es c hk hd hc hl=>by
 have h1:∃ks:List Int,ks.map (Value.int .i64)=es.map (·.key):=by
  clear hd hl
  induction es with
  | nil=>exact⟨[],rfl⟩
  | cons e es ih =>
   obtain⟨ks,h⟩:=ih fun x hx=>hk x (by simp[hx])
   obtain⟨a,ha⟩:=hk e (by simp)
   exact⟨a::ks,by simp_all⟩
 obtain⟨ks,has⟩:=h1
 have hnd:ks.Nodup:=by
  grind [pair_keys]
 have hmem:∀a,a∈ks↔a∈c:=fun a=>by
  have h3:=hl a
  have h4:a∈ks↔∃e∈es,e.key=Value.int .i64 a:=by
   have:Value.int .i64 a∈ks.map (Value.int .i64)↔Value.int .i64 a∈es.map (·.key):=by rw[has]
   grind
  grind [qEr]
 have e1:es.length=ks.length:=by
  have:=congrArg List.length has
  grind
 have a1:=nodup_le ks c hnd fun x hx=>(hmem x).1 hx
 have a2:=nodup_le c ks hc fun x hx=>(hmem x).2 hx
 omega
theorem GenK.lenMap{P:Program}{V:Mem}{b:Nat}{f:Int->Option Value}{c:List Int}{t kt et ty:TypeId}(ht:P.underlying t=some (.map kt et))(hm:qFS (Value.int .i64) V b f)(hc:c.Nodup)(hd:∀a,(f a).isSome=decide (a∈c)){x:Operand}{vals:Operand->Value}(hx:vals x=.map (some b)){q:Value->Mem->Prop}(hq:q (.int .i64 c.length) V) :
  GenK P (.call { callee:=.builtin .len,args:=#[x],argTypes:=#[t] }) ty vals V q:=by
 intro w hw
 obtain⟨es,cl,h1,h2,h3,h4⟩:=hm.at_
 have hlen:=keys_len es.toList c h2 h3 hc fun a=>by grind
 refine⟨_,w,V,?_,Frm.refl hw,hq⟩
 unfold execOp
 simp only[resolve,invoke,builtin,Sem.run_bind,Sem.run_pure,Result.andThen_ok,List.map_toArray,List.map_cons,List.map_nil,hx,Builtin.len_]
 simp only[List.getElem?_toArray,List.getElem?_cons_zero,Sem.run_bind,run_underlying ht,Result.andThen_ok,MapKept.run_getObj_map (hw _ _ h1),Sem.run_pure]
 grind [goInt]
section
variable{V0 V:Mem}{p k n:Nat}{c:List Int}{b:Int}
theorem c63(h:qJA p k c n V0 V)(hk:1<=k/\k<=1000)(hb:0<=b/\b<=1048576)(hn:n<2147483648):Tri Tryz.prog 63 #[pv p,.int .i64 b] V fun e V'=>e=.returned (.tuple #[.bool (decide (b∈c)),.int .i64 0])/\qJA p k (tch k c b) (n+if b∈c then 0 else 1) V0 V':=by
 obtain⟨mb,S,B,N,P,L,f,h,hI⟩:=h
 obtain⟨R,hR⟩:∃R:Ending->Mem->Prop,R=fun e V'=>e=.returned (.tuple #[.bool (decide (b∈c)),.int .i64 0])/\qJA p k (tch k c b) (n+if b∈c then 0 else 1) V0 V':=⟨_,rfl⟩
 rw[<- hR]
 refine x63 ?_
 unfold w63
 refine⟨fun h=>absurd h nn,fun _=>⟨fun h=>absurd hb.1 (Int.not_le.2 h),fun _=>⟨fun h=>absurd hb.2 (Int.not_le.2 h),fun _=>⟨nn,nn,_,h.cell 2 1 (by decide),?_⟩⟩⟩⟩
 refine qBz.key2 (k:=b) (qGt Tryz.underlying3) Tryz.underlying132 qFw h.mp ?_
 have hNl:=hI.nl
 have hPl:=hI.pl
 have hBl:=hI.bl
 by_cases hbc:b∈c
 ·-- a hit
  obtain⟨i,s,hci,hLi,hfb⟩:=hI.hit hbc
  obtain⟨pr,nx,k1,k2,k3,k4,k5⟩:=hI.around hLi
  have hsr:=hI.rng s (List.mem_of_getElem? hLi)
  rw[hfb]
  refine⟨s,true,rfl,fun _=>?_,fun h=>absurd rfl h⟩
  refine Tri.mono (c99 h k1 k2 (by omega) (by omega)) ?_
  rintro _ V1 ⟨rfl,h1⟩
  refine⟨rfl,fun _=>?_,fun h=>absurd rfl h⟩
  obtain⟨q,hq,hql⟩:∃q:Nat,(N.set pr nx)[0]?=some (q:Int)/\q<B.length:=by
   by_cases e:pr=0
   ·grind
   ·obtain⟨q,h1,h2⟩:=hI.head
    grind
  refine Tri.mono (c100 h1 hq (by simp_all) (by simp_all) (by simp_all) (by omega)) ?_
  rintro _ V2 ⟨rfl,h2⟩
  refine⟨rfl,?_⟩
  rw[hR,decide_eq_true hbc,if_pos hbc]
  refine⟨rfl,mb,S,B,_,_,s::(L.take i++L.drop (i+1)),f,h2,?_⟩
  unfold tch
  rw[if_pos hbc]
  exact hI.touch hci hLi k5 hq
 ·-- a miss
  have hfb:=hI.no b hbc
  rw[hfb]
  refine⟨0,false,rfl,?_⟩
  refine⟨fun h=>absurd h (by decide),fun _=>⟨nn,nn,_,h.cell 2 1 (by decide),nn,nn,_,h.cell 0 1 (by decide),?_⟩⟩
  refine GenK.lenMap Tryz.underlying132 h.mp hI.cn (fun a=>by rw[Option.isSome_map];exact hI.dec) rfl ?_
  have hcap:=hI.cap
  have hR':R=fun e V'=>e=.returned (.tuple #[.bool false,.int .i64 0])/\qJA p k (b::c.take (k-1)) (n+1) V0 V':=by
   grind [tch]
  refine⟨_,rfl,qAR h.at_ 0 0 1 (by simp[crow]),nn,nn,fun hlt=>?_,fun hge=>?_⟩
  ·have hlk:c.length<k:=by omega
   obtain⟨q,hq,hql⟩:=hI.head
   have hSn:=(h.bo.rows (row:=qAf) (xs:=B) (fun _=>rfl) (by decide)).n_eq
   have hB1:B.length<=1001:=by have:=hI.cl;omega
   have one:∀{U:Mem} {t:Nat} {x:Int},U t=none->qAc (U.set t (.cells #[.int .i64 x] 3 (0,0))) ⟨some ⟨t,0,none⟩,1,1⟩ 1 ([x].map qAf):=fun {U t x} ht=>qAc.cells (xs:=[x]) (row:=qAf) mss rfl (fun _=>rfl) rfl (by simp)
   refine⟨nn,nn,_,h.cell 3 1 (by decide),nn,nn,_,h.cell 3 1 (by decide),nn,nn,_,h.cell 4 1 (by decide),nn,nn,_,h.cell 5 1 (by decide),?_⟩
   rw[show (S.b.n:Int)=((B.length:Nat):Int) by rw[hSn]]
   repeat' apply And.intro
   all_goals first
    | exact nn
    | exact qAR h.at_ 3 0 1 (by simp[crow])
    | exact qAR h.at_ 4 0 1 (by simp[crow])
    | exact qAR h.at_ 5 0 1 (by simp[crow])
    | skip
   all_goals
    intro b1 hb1
    refine qFO (s:=S.b) (xs:=B) (ys:=[b]) rfl rfl (h.bo.but.new hb1 _) (one hb1) (by simp;omega) fun s1 V3 o1=>⟨s1,rfl,?_⟩
    have h3:=h.pushB o1
    repeat' apply And.intro
    all_goals first
     | exact nn
     | exact qAR h3.at_ 4 0 1 (by simp[crow])
     | exact qAR h3.at_ 5 0 1 (by simp[crow])
     | skip
    all_goals
     intro b2 hb2
     refine qFO (s:=S.n) (xs:=N) (ys:=[0]) rfl rfl (h3.no.but.new hb2 _) (one hb2) (by simp;omega) fun s2 V5 o2=>⟨s2,rfl,?_⟩
     have h5:=h3.pushN o2
     repeat' apply And.intro
     all_goals first
      | exact nn
      | exact qAR h5.at_ 5 0 1 (by simp[crow])
      | skip
     intro b3 hb3
     refine qFO (s:=S.p) (xs:=P) (ys:=[0]) rfl rfl (h5.po.but.new hb3 _) (one hb3) (by simp;omega) fun s3 V7 o3=>⟨s3,rfl,?_⟩
     have h7:=h5.pushP o3
     refine⟨nn,nn,StT.at2 (off:=3) h7.at_ (by simp[crow]) ?_⟩
     have h8:=h7.fields ⟨s1,S.n,S.p⟩
     refine⟨nn,nn,StT.at2 (off:=4) h8.at_ (by simp[crow]) ?_⟩
     have h9:=h8.fields ⟨s1,s2,S.p⟩
     refine⟨nn,nn,StT.at2 (off:=5) h9.at_ (by simp[crow]) ⟨fun h=>absurd h (by decide),fun _=>?_⟩⟩
     have h10:=h9.fields ⟨s1,s2,s3⟩
     refine⟨nn,nn,_,h10.cell 1 1 (by decide),⟨by omega,by omega⟩,nn,nn,StT.at2 (off:=1) h10.at_ (by simp[crow]) ?_⟩
     have h11:=h10.put ((n:Int)+1)
     refine⟨nn,nn,_,h11.cell 2 1 (by decide),qDD.key (k:=b) (qGt Tryz.underlying3) Tryz.underlying132 h11.mp fun om hom=>?_⟩
     have h12:=h11.map (g:=fun x=>if x=b then some ((B.length:Nat):Int) else f x) (hom.congr fun x=>by by_cases e:x=b <;> simp[e])
     refine Tri.mono (c100 h12 (s:=B.length) (q:=q) (by rw[List.getElem?_append_left (List.getElem?_eq_some_iff.1 hq).1];exact hq) (by rw[List.length_append,List.length_singleton];omega) (by rw[List.length_append,List.length_singleton];omega) (by rw[List.length_append,List.length_singleton];omega) (by omega)) ?_
     rintro _ V13 ⟨rfl,h13⟩
     refine⟨rfl,?_⟩
     rw[hR']
     refine⟨rfl,mb,⟨s1,s2,s3⟩,B++[b],_,_,B.length::L,_,h13,?_⟩
     rw[List.take_of_length_le (by omega)]
     exact hI.room hbc hlk (by rw[List.getElem?_append_left (List.getElem?_eq_some_iff.1 hq).1];exact hq)
  ·have hlk:c.length=k:=by omega
   obtain⟨s,pr,nx,o,k1,k2,k3,k4,k5,k6,k7,k8,k9⟩:=hI.full hbc hk.1 hlk
   obtain⟨p1,p2,p3,p4⟩:=qDL (h.po.rows (fun _=>rfl) (by decide)) k1
   refine⟨nn,nn,_,h.cell 5 1 (by decide),p1,p2,p3,_,p4,Tri.mono (c99 h k5 k6 (by omega) (by omega)) ?_⟩
   rintro _ V2 ⟨rfl,h2⟩
   obtain⟨b1,b2,b3,b4⟩:=qDL (h2.bo.rows (fun _=>rfl) (by decide)) k4
   refine⟨rfl,nn,nn,_,h2.cell 2 1 (by decide),nn,nn,_,h2.cell 3 1 (by decide),b1,b2,b3,_,b4,GenK.delete (k:=o) (qGt Tryz.underlying3) Tryz.underlying132 h2.mp rfl rfl fun om hom=>?_⟩
   have h3:=h2.map (g:=fun x=>if x=o then none else f x) (hom.congr fun x=>by grind)
   refine⟨rfl,nn,nn,_,h3.cell 3 1 (by decide),b1,b2,b3,h3.setB k3 fun V4 h4=>⟨fun h=>absurd h (by decide),fun _=>?_⟩⟩
   refine⟨nn,nn,_,h4.cell 1 1 (by decide),⟨by omega,by omega⟩,nn,nn,StT.at2 (off:=1) h4.at_ (by simp[crow]) ?_⟩
   have h5:=h4.put ((n:Int)+1)
   refine⟨nn,nn,_,h5.cell 2 1 (by decide),qDD.key (k:=b) (qGt Tryz.underlying3) Tryz.underlying132 h5.mp fun om2 hom2=>?_⟩
   have h6:=h5.map (g:=fun x=>if x=b then some (s:Int) else if x=o then none else f x) (hom2.congr fun x=>by grind)
   obtain⟨q,hq,hql⟩:∃q:Nat,(N.set pr nx)[0]?=some (q:Int)/\q<B.length:=by
    by_cases e:pr=0
    ·grind
    ·obtain⟨q,h1,h2⟩:=hI.head
     grind
   refine Tri.mono (c100 h6 hq (by simp_all) (by simp_all) (by simp_all) (by omega)) ?_
   rintro _ V7 ⟨rfl,h7⟩
   refine⟨rfl,?_⟩
   rw[hR']
   exact⟨rfl,mb,S,_,_,_,s::L.take (k-1),_,h7,k9 q hq⟩
end
end Go.Proofs
namespace Go.Proofs
def lastS(a:Int×Nat)(x:Int):Int×Nat:=if a.1<x then (x,1) else if x=a.1 then (a.1,a.2+1) else a
def qEd(l:List Int):Int×Nat:=l.foldl lastS (-1,0)
theorem lastN_snoc(l:List Int)(x:Int):qEd (l++[x])=lastS (qEd l) x:=by grind [qEd]
theorem qKH{p:List Int->Prop}(h0:p [])(h:∀l x,p l->p (l++[x]))(l:List Int):p l:=by
 have:∀n,∀l:List Int,l.length=n->p l:=by
  intro n
  induction n with
  | zero=>simp_all
  | succ n ih =>
   intro l hl
   have hne:l≠[]:=by grind
   rw[<- List.dropLast_concat_getLast hne]
   simp_all
 grind
theorem qDK(l:List Int):(∀x∈l,x<=(qEd l).1)/\-1<=(qEd l).1/\((qEd l).1=-1∨(qEd l).1∈l)/\((∀x∈l,0<=x)->(qEd l).2=l.count (qEd l).1):=by
 induction l using qKH with
 | h0=>exact⟨by simp,by decide,.inl rfl,fun _=>rfl⟩
 | h l x ih =>
  obtain⟨h1,h2,h3,h4⟩:=ih
  rw[lastN_snoc]
  unfold lastS
  grind
def qCG(l:List Int)(size:Int):Int:=if (qEd l).1<0∨((qEd l).2:Int)=size then (qEd l).1+1 else (qEd l).1
structure Plc (l:List Int) (size:Int):Prop where
 rng:∀b∈l,0<=b/\b<4096
 cnt:∀b∈l,(l.count b:Int)<=size
theorem Plc.nil{size:Int}:Plc [] size:=⟨by simp,by simp⟩
theorem Plc.snoc{l:List Int}{size b:Int}(h:Plc l size)(h1:0<=b/\b<4096)(h2:((l++[b]).count b:Int)<=size):Plc (l++[b]) size:=by
 refine⟨fun x hx=>?_,fun x hx=>?_⟩
 ·rcases List.mem_append.1 hx with hx|hx
  ·exact h.rng x hx
  simp_all
 ·by_cases e:x=b
  ·rw[e];exact h2
  ·rcases List.mem_append.1 hx with hx|hx
   ·have:=h.cnt x hx
    grind
   simp_all
structure Pl0 (l:List Int) (size:Int):Prop where
 lo:∀b∈l,0<=b
 cnt:∀b∈l,(l.count b:Int)<=size
theorem Plc.pl0{l:List Int}{size:Int}(h:Plc l size):Pl0 l size:=⟨fun b hb=>(h.rng b hb).1,h.cnt⟩
theorem furth_eq{l:List Int}{size M:Int}{n:Nat}(h:Pl0 l size)(hM:M∈l)(hmax:∀x∈l,x<=M)(hn:n=l.count M):qCG l size=if (n:Int)<size then M else M+1:=by
 obtain⟨h1,h2,h3,h4⟩:=qDK l
 have h0:=h.lo M hM
 have e:(qEd l).1=M:=by
  grind
 have e2:=h4 h.lo
 rw[e,<- hn]at e2
 have hc:=h.cnt M hM
 grind [qCG]
theorem qLo(l:List Int)(size:Int):0<=qCG l size:=by
 obtain⟨h1,h2,h3,h4⟩:=qDK l
 grind [qCG]
theorem Pl0.snoc{l:List Int}{size b:Int}(h:Pl0 l size)(h1:0<=b)(h2:((l++[b]).count b:Int)<=size):Pl0 (l++[b]) size:=by
 refine⟨fun x hx=>?_,fun x hx=>?_⟩
 ·rcases List.mem_append.1 hx with hx|hx
  ·exact h.lo x hx
  simp_all
 ·by_cases e:x=b
  ·rw[e];exact h2
  ·rcases List.mem_append.1 hx with hx|hx
   ·have:=h.cnt x hx
    grind
   simp_all
theorem furth_pl0{l:List Int}{size:Int}(h:Pl0 l size)(hs:1<=size):Pl0 (l++[qCG l size]) size:=by
 obtain⟨h1,h2,h3,h4⟩:=qDK l
 have h4:=h4 h.lo
 refine h.snoc (qLo l size) ?_
 rw[List.count_append,show [qCG l size].count (qCG l size)=1 by simp]
 unfold qCG
 by_cases c:(qEd l).1<0∨((qEd l).2:Int)=size
 ·rw[if_pos c,List.count_eq_zero_of_not_mem fun hx=>by grind];omega
 ·rw[if_neg c,not_or]at *
  have hm:=h3.resolve_left (by omega)
  have:=h.cnt _ hm
  omega
def Low(l:List Int):Prop:=∀b∈l,b<(l.length:Int)
theorem furth_ok{l:List Int}{size:Int}(h:Plc l size)(hl:Low l)(hs:1<=size)(hn:l.length<4096):Plc (l++[qCG l size]) size/\Low (l++[qCG l size]):=by
 obtain⟨h1,h2,h3,h4⟩:=qDK l
 have h4:=h4 fun x hx=>(h.rng x hx).1
 have hlo:=qLo l size
 have hlen:qCG l size<(l.length:Int)+1:=by
  unfold qCG
  rcases h3 with h3|h3
  ·split <;> omega
  ·have:=hl _ h3
   split <;> omega
 refine⟨h.snoc ⟨hlo,by omega⟩ ?_,fun b hb=>?_⟩
 ·rw[List.count_append,show [qCG l size].count (qCG l size)=1 by simp]
  unfold qCG
  by_cases c:(qEd l).1<0∨((qEd l).2:Int)=size
  ·rw[if_pos c,List.count_eq_zero_of_not_mem fun hx=>by grind];omega
  ·rw[if_neg c,not_or]at *
   have hm:=h3.resolve_left (by omega)
   have:=h.cnt _ hm
   omega
 ·rw[List.length_append,List.length_singleton]
  rcases List.mem_append.1 hb with hb|hb
  ·have:=hl b hb;omega
  simp_all
end Go.Proofs
namespace Go.Proofs
open Go Go.Sx
attribute [local irreducible] Go.Sx.Tri
theorem qJA.sub{V0 V:Mem}{p k n:Nat}{c:List Int}(h:qJA p k c n V0 V):V0.sub V:=by
 obtain⟨mb,S,B,N,P,L,f,h,-⟩:=h
 exact h.sub
section
variable{V0 V:Mem}{p k n:Nat}{c xs:List Int}{l:Sl}{m:Int}
theorem qCz{i:Nat}{x:Int}(h:xs[i]?=some x):xs.take (i+1)=xs.take i++[x]:=by rw[List.take_add_one,h];rfl
theorem touchStep{i:Nat}(h:qJA p k (tchL k c (xs.take i)) (n+qKf k c (xs.take i)) V0 V)(hk:1<=k/\k<=1000){x:Int}(hx:xs[i]?=some x)(hb:0<=x/\x<=1048576)(hn:n+xs.length<2147483648) :
  Tri Tryz.prog 63 #[pv p,.int .i64 x] V fun e V'=>(∃b:Bool,e=.returned (.tuple #[.bool b,.int .i64 0]))/\qJA p k (tchL k c (xs.take (i+1))) (n+qKf k c (xs.take (i+1))) V0 V':=by
 have h1:=qIR k (xs.take i) c
 have hi:=(List.getElem?_eq_some_iff.1 hx).1
 rw[List.length_take]at h1
 refine Tri.mono (c63 h hk hb (by omega)) ?_
 rintro _ V' ⟨rfl,h2⟩
 rw[qCz hx,tchL_snoc,misL_snoc,<- Nat.add_assoc]
 exact⟨⟨_,rfl⟩,h2⟩
theorem c54(h:qJA p k c n V0 V)(hk:1<=k/\k<=1000)(hl:qAc V0 l 1 (xs.map qAf))(hb:∀x∈xs,0<=x/\x<=1048576)(hn:n+xs.length<2147483648) :
  Tri Tryz.prog 54 #[pv p,l.v] V fun e V'=>e=.returned (.int .i64 (qKf k c xs))/\qJA p k (tchL k c xs) (n+qKf k c xs) V0 V':=by
 refine x54 ?_
 unfold w54
 refine(c90 h).call ⟨_,rfl,?_⟩
 refine qLe xs.length (fun i V1=>qJA p k (tchL k c (xs.take i)) (n+qKf k c (xs.take i)) V0 V1) h ?_
 intro i V1 J hi h1 hJ
 have hl1:=hl.sub h1.sub
 refine⟨fun hlt=>?_,fun hge=>?_⟩
 ·obtain⟨x,hxm,hx,-,hil,hp,hz,hrow⟩:=hl1.get hlt
  refine⟨hp,hz,hlt,_,hrow,Tri.mono (touchStep h1 hk hx (hb x hxm) hn) ?_⟩
  rintro _ V2 ⟨⟨b,rfl⟩,h2⟩
  exact⟨_,_,rfl,hl1.succ hlt,hJ hil _ h2⟩
 ·have hd:=(hl1.done hge).2
  rw[List.take_of_length_le hd]at h1
  have h2:=qIR k xs c
  refine(c90 h1).call ⟨_,rfl,⟨by omega,by omega⟩,?_,h1⟩
  grind
end
section
variable{V:Mem}{xs:List Int}{l:Sl}{size:Int}
theorem c77(hl:qAc V l 1 (xs.map qAf))(hne:xs≠[]):∃M,M∈xs/\(∀x∈xs,x<=M)/\PP 77 [l.v] V (.int .i64 M):=by
 have hn:=hl.n_eq
 have hpos:=List.length_pos_iff.2 hne
 -- the greatest one
 obtain⟨M,hM,hmax⟩:∃M,M∈xs/\∀x∈xs,x<=M:=by
  clear hl hn hpos
  induction xs using qKH with
  | h0=>simp_all
  | h ys y ih =>
   by_cases e:ys=[]
   ·simp_all
   ·obtain⟨M,h1,h2⟩:=ih e
    by_cases c:M<y
    ·refine⟨y,by simp,fun x hx=>?_⟩
     grind
    ·refine⟨M,by simp[h1],fun x hx=>?_⟩
     grind
 refine⟨M,hM,hmax,x77 ?_⟩
 unfold w77
 refine⟨fun h=>absurd (show (l.n:Int)<1 from h) (by omega),fun _=>?_⟩
 obtain⟨p1,p2,p3,p4⟩:=qDL hl (List.getElem?_eq_getElem hpos)
 refine⟨p1,p2,p3,_,p4,fun n ys V'=>∃(i:Nat) (m:Int),ys=[.int .i64 m,.int .i64 i]/\1<=i/\i<=xs.length/\n=xs.length-i/\V'=V/\m∈xs/\∀j x,j<i->xs[j]?=some x->x<=m,xs.length-1,⟨1,_,rfl,Nat.le_refl _,hpos,rfl,rfl,List.getElem_mem hpos,fun j x hj hx=>?_⟩,?_⟩
 ·simp_all
 rintro n V' v2 v3 ⟨i,m,hys,h1,h2,rfl,rfl,hm,hall⟩ J hJ
 simp only[List.cons.injEq,Value.int.injEq,true_and,and_true]at hys
 obtain⟨rfl,rfl⟩:=hys
 refine⟨fun hlt=>?_,fun hge=>?_⟩
 ·obtain⟨y,hym,hy,-,hil,hp,hz,hrow⟩:=hl.get hlt
  refine⟨hp,hz,hlt,_,hrow,GenK.max2 (n1:=v2) (n2:=y) rfl rfl ⟨_,rfl,hl.succ hlt,hJ (xs.length-(i+1)) _ _ (by omega) ⟨i+1,_,rfl,by omega,hil,rfl,rfl,?_,fun j x hj hx=>?_⟩⟩⟩
  ·grind
  grind
 ·have hge:¬(i:Int)<(l.n:Int):=hge
  have e:v2=M:=by
   grind [List.mem_iff_getElem?,List.getElem?_eq_some_iff]
  simp_all
theorem qHh{i:Nat}{x y:Int}(h:xs[i]?=some x):(xs.take (i+1)).count y=(xs.take i).count y+if x=y then 1 else 0:=by
 rw[qCz h,List.count_append]
 grind
theorem c41(hl:qAc V l 1 (xs.map qAf))(h:Pl0 xs size)(hb:∀b∈xs,b<=1048576):PP 41 [l.v,.int .i64 size] V (.int .i64 (qCG xs size)):=by
 refine x41 ?_
 unfold w41
 have hn:=hl.n_eq
 have hc:=hl.cap
 have hf:=hl.fit
 refine⟨fun h0=>?_,fun h0=>?_⟩
 ·have:xs=[]:=List.length_eq_zero_iff.1 (by omega)
  subst this
  exact⟨rfl,rfl⟩
 ·have hne:xs≠[]:=fun e=>h0 (by rw[hn,e];rfl)
  obtain⟨M,hM,hmax,hP⟩:=c77 hl hne
  have h1:=h.lo M hM
  have h2:=hb M hM
  refine hP.call ⟨_,rfl,qFt (mk:=.int .i64) (b0:=0) qEf xs.length (fun i b V1=>V1=V/\b=(((xs.take i).count M:Nat):Int)) ⟨rfl,rfl⟩ ?_⟩
  rintro i b V1 J hi ⟨rfl,rfl⟩ hJ
  refine⟨fun hlt=>?_,fun hge=>?_⟩
  ·obtain⟨y,hym,hy,-,hil,hp,hz,hrow⟩:=hl.get hlt
   have e:=qHh (y:=M) hy
   have hcl:(xs.take i).count M<=i:=Nat.le_trans List.count_le_length (by simp_all)
   refine⟨hp,hz,hlt,_,hrow,fun hE=>⟨⟨by omega,by omega⟩,hl.succ hlt,hJ hil _ _ ⟨rfl,?_⟩⟩,fun hE=>⟨hl.succ hlt,hJ hil _ _ ⟨rfl,?_⟩⟩⟩
   ·simp_all
   simp_all
  ·have hd:=(hl.done hge).2
   rw[List.take_of_length_le hd]
   have e:=furth_eq h hM hmax rfl
   refine⟨fun hlt=>?_,fun hge=>⟨⟨by omega,by omega⟩,?_⟩⟩
   ·simp_all
   simp_all
open Classical in
noncomputable def plB(xs:List Int)(size:Int):Bool:=decide (xs.length<=4096/\Plc xs size)
theorem qKT:plB xs size=true↔xs.length<=4096/\Plc xs size:=by grind [plB]
theorem plB_false(h:¬(xs.length<=4096/\Plc xs size)):plB xs size=false:=by grind [plB]
theorem plc_next{i:Nat}{x:Int}(h:Plc (xs.take i) size)(hx:xs[i]?=some x)(h1:0<=x/\x<4096)(h2:(((xs.take (i+1)).count x:Nat):Int)<=size):Plc (xs.take (i+1)) size:=by
 rw[qCz hx]at h2 ⊢
 exact h.snoc h1 h2
theorem plc_not{i:Nat}{x:Int}(hx:xs[i]?=some x)(h:¬(0<=x/\x<4096)∨size<(((xs.take (i+1)).count x:Nat):Int)):¬Plc xs size:=fun P=>by
 have hm:=List.mem_of_getElem? hx
 have a:=P.rng x hm
 have b:=P.cnt x hm
 grind [List.take_sublist]
theorem c40{n:Int}(hl:qAc V l 1 (xs.map qAf)):PP 40 [l.v,.int .i64 size,.int .i64 n] V (.bool (decide ((xs.length:Int)=n)&&plB xs size)):=by
 obtain⟨R,hR⟩:∃R:Ending->Mem->Prop,R=fun e V'=>e=.returned (.bool (decide ((xs.length:Int)=n)&&plB xs size))/\V.sub V':=⟨_,rfl⟩
 refine Pur.mk ?_
 rw[<- hR]
 refine x40 ?_
 unfold w40
 have hn:=hl.n_eq
 have no:∀{V'},V.sub V'->¬(xs.length<=4096/\Plc xs size)->R (.returned (.bool false)) V':=fun hs h=>by
  rw[hR,plB_false h,Bool.and_false];exact⟨rfl,hs⟩
 refine⟨fun he=>⟨fun hg=>?_,fun hg=>?_⟩,fun he=>?_⟩
 ·grind [Int,Mem.sub.refl]
 ·have he:(l.n:Int)=n:=he
  have hg:¬4096<n:=hg
  refine GenK.makeMap fun mb hmb=>⟨some mb,rfl,?_⟩
  have s1:=Mem.sub_new hmb (.map #[] 0)
  refine qAD (mk:=.bool) (b0:=false) xs.length (fun i V1=>V.sub V1/\Plc (xs.take i) size/\qFS (Value.int .i64) V1 mb fun x=>if x∈xs.take i then some (.int .i64 (((xs.take i).count x:Nat):Int)) else none) ⟨s1,by rw[List.take_zero];exact Plc.nil,(qFS.made V mb).congr fun x=>by simp⟩ ?_
  rintro i b V1 J hi ⟨hs,hP,hm⟩ hJ
  have hl1:=hl.sub hs
  refine⟨fun hlt=>?_,fun hge=>?_⟩
  ·obtain⟨x,hxm,hx,-,hil,hp,hz,hrow⟩:=hl1.get hlt
   have e:=qHh (y:=x) hx
   rw[if_pos rfl]at e
   have hcl:(xs.take i).count x<=i:=Nat.le_trans List.count_le_length (by simp_all)
   have hval:((if x∈xs.take i then some (Value.int .i64 (((xs.take i).count x:Nat):Int)) else none:Option Value).getD (.int .i64 0))=.int .i64 (((xs.take i).count x:Nat):Int):=by
    grind
   refine⟨hp,hz,hlt,_,hrow,qBz.key1 (k:=x) (qGt Tryz.underlying3) Tryz.underlying132 qFw hm ⟨_,hval,⟨by omega,by omega⟩,qDD.key (k:=x) (qGt Tryz.underlying3) Tryz.underlying132 hm fun om hom=>?_⟩⟩
   have hs2:V.sub (V1.set mb om):=hs.set hmb om
   have hom2:qFS (Value.int .i64) (V1.set mb om) mb fun y=>if y∈xs.take (i+1) then some (.int .i64 (((xs.take (i+1)).count y:Nat):Int)) else none:=hom.congr fun y=>by
    have ey:=qHh (y:=y) hx
    grind
   refine⟨fun h=>no hs2 fun P=>?_,fun h1=>⟨fun h=>no hs2 fun P=>?_,fun h2=>?_⟩⟩
   ·grind [plc_not]
   ·grind [plc_not]
   ·have h1:¬x<0:=h1
    have h2:¬4096<=x:=h2
    refine qBz.key1 (k:=x) (qGt Tryz.underlying3) Tryz.underlying132 qFw hom2 ⟨(((xs.take (i+1)).count x:Nat):Int),by grind,fun h=>no hs2 fun P=>plc_not hx (.inr h) P.2,fun h3=>?_⟩
    exact⟨hl1.succ hlt,hJ hil _ _ ⟨hs2,plc_next hP hx (by omega) (Int.not_lt.1 h3),hom2⟩⟩
  ·have hd:=(hl1.done hge).2
   rw[List.take_of_length_le hd]at hP
   rw[hR,qKT.2 ⟨by omega,hP⟩,decide_eq_true (by omega)]
   grind
 ·have he:¬(l.n:Int)=n:=he
  rw[hR,decide_eq_false (by omega)]
  exact⟨rfl,Mem.sub.refl _⟩
end
end Go.Proofs
