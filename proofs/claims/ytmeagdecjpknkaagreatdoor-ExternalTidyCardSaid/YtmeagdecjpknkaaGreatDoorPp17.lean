/- Part 17 of a proof of a law of this seat: no statement of the seat is proved here. -/
import Derived.Test.YtmeagdecjpknkaaGreatDoorPp16
import Derived.ProofKit
import Derived.Test.YtmeagdecjpknkaaGreatDoorRows
import Derived.Lib.LaidIn
import Derived.Lib.LaidTab
import Derived.Handed
import Derived.Test.YtmeagdecjpknkaaGreatDoorPp10
set_option linter.unusedVariables false
set_option linter.unusedSimpArgs false
namespace Go.Proofs
open Go Go.Sx
attribute [local irreducible] Go.Sx.Tri
theorem qER{p q B X:Prop}(hX:(¬p∨¬q)->X)(hB:p->q->B):Br p (Br q B X) X:=⟨fun hp=>⟨fun hq=>hB hp hq,fun hq=>hX (.inr hq)⟩,fun hp=>hX (.inl hp)⟩
theorem take_eq{α:Type}{xs ys:List α}{i:Nat}{x y:α}(h:xs.take i=ys.take i)(hx:xs[i]?=some x)(hy:ys[i]?=some y)(e:x=y):xs.take (i+1)=ys.take (i+1):=by
 grind [List.take_add_one]
section
variable{V:Mem}{d:Ds}{m:Mm}
def RI(V:Mem):Ending->Mem->Prop:=fun e V'=>V=V'/\∃r:Int,e=.returned (.int .i64 r)/\-1<=r/\r<=2000
def RY(V:Mem):Ending->Mem->Prop:=fun e V'=>V=V'/\∃b:Bool,e=.returned (.bool b)
theorem RI.mk{r:Int}(h:-1<=r/\r<=2000):RI V (.returned (.int .i64 r)) V:=⟨rfl,r,rfl,h⟩
theorem RY.mk{b:Bool}:RY V (.returned (.bool b)) V:=⟨rfl,b,rfl⟩
theorem leftC:∀(k:Nat),k<=65->∀(e:E) (n:Int),E.Ok V e->-1<=n->n<=2000->Tri Tryz.prog 119 #[e.v,.int .i64 k,.int .i64 n] V (RI V):=by
 intro k
 induction k with
 | zero =>
  intro _ e n he h1 h2
  refine Tri.mono (x119 (R:=RI V) ?_) fun _ _ h=>h
  unfold w119
  exact⟨fun _=>.mk ⟨by omega,by omega⟩,fun _=>⟨fun _=>.mk ⟨by omega,by omega⟩,fun h=>absurd rfl h⟩⟩
 | succ k ih =>
  intro hk e n he h1 h2
  refine Tri.mono (x119 (R:=RI V) ?_) fun _ _ h=>h
  unfold w119
  refine⟨fun _=>.mk ⟨by omega,by omega⟩,fun h3=>⟨fun _=>.mk ⟨by omega,by omega⟩,fun _=>⟨fun _=>.mk ⟨by omega,by omega⟩,fun _=>⟨⟨by omega,by omega⟩,?_⟩⟩⟩⟩
  have h3:¬n<=0:=h3
  refine qFt (mk:=.int .i64) (b0:=n-1) qEf e.k.length (fun i a V1=>V=V1/\-1<=a/\a<=2000) ⟨rfl,by omega,by omega⟩ ?_
  rintro i a V1 J hi ⟨rfl,ha1,ha2⟩ hJ
  refine qER (fun _=>.mk ⟨ha1,ha2⟩) (fun hlt hn=>?_)
  obtain⟨x,hxm,hx,-,hil,hp,hz,hrow⟩:=he.rows.get hlt
  refine⟨hp,hz,hlt,_,_,_,_,hrow,⟨by omega,by omega⟩,?_⟩
  rw[show ((k+1:Nat):Int)-1=(k:Int) by omega]
  refine Tri.mono (ih (by omega) x a (he.kids x hxm) ha1 ha2) ?_
  rintro _ _ ⟨rfl,r,rfl,h4⟩
  exact⟨_,rfl,he.rows.succ hlt,hJ hil _ _ ⟨rfl,h4⟩⟩
theorem leftAllC:∀(k:Nat),k<=65->∀(s:Sl) (xs:List S) (n:Int),qAc V s 5 (xs.map S.row)->(∀x∈xs,S.Ok V x)->-1<=n->n<=2000->Tri Tryz.prog 118 #[s.v,.int .i64 k,.int .i64 n] V (RI V):=by
 intro k
 induction k with
 | zero =>
  intro _ s xs n hr ho h1 h2
  refine Tri.mono (x118 (R:=RI V) ?_) fun _ _ h=>h
  unfold w118
  exact⟨fun _=>.mk ⟨by omega,by omega⟩,fun h=>absurd rfl h⟩
 | succ k ih =>
  intro hk s xs n hr ho h1 h2
  refine Tri.mono (x118 (R:=RI V) ?_) fun _ _ h=>h
  unfold w118
  refine⟨fun _=>.mk ⟨by omega,by omega⟩,fun _=>?_⟩
  refine qHv (mk:=.int .i64) (mc:=.int .i64) 0 n qEf xs.length (fun i a V1=>V=V1/\-1<=a/\a<=2000) ⟨rfl,h1,h2⟩ ?_
  rintro i b a V1 J hi ⟨rfl,ha1,ha2⟩ hJ
  refine qER (fun _=>.mk ⟨ha1,ha2⟩) (fun hlt hn=>?_)
  have hn:0<=a:=hn
  obtain⟨x,hxm,hx,-,hil,hp,hz,hrow⟩:=hr.get hlt
  have hxo:=ho x hxm
  cases x with
  | mk op sn el es ll ls xl xs' =>
  cases hxo with
  | mk he hes hl hls hxr hxs hop =>
  have hq:=qAd (n:=i*5) hp
  have hsucc:=hr.succ hlt
  refine⟨⟨by omega,by omega⟩,hp,hz,hlt,hq,_,_,_,_,_,hrow,fun _=>.mk ⟨by omega,by omega⟩,fun _=>?_⟩
  refine qFt (mk:=.int .i64) (b0:=a-1) qEf es.length (fun j c V2=>V=V2/\-1<=c/\c<=2000) ⟨rfl,by omega,by omega⟩ ?_
  rintro j c V2 J1 hj ⟨rfl,hc1,hc2⟩ hJ1
  have ek:((k+1:Nat):Int)-1=(k:Int):=by omega
  refine⟨hp,hz,hlt,hq,_,_,_,_,_,hrow,qER (fun _=>⟨fun hc=>⟨hp,hz,hlt,hq,_,_,_,_,_,hrow,⟨by omega,by omega⟩,?_⟩,fun hc=>⟨fun h=>absurd h hc,fun _=>⟨hsucc,hJ hil _ _ _ ⟨rfl,hc1,hc2⟩⟩⟩⟩) (fun hlt2 hc=>?_)⟩
  ·rw[ek]
   refine Tri.mono (ih (by omega) ll ls c hl hls hc1 hc2) ?_
   rintro _ _ ⟨rfl,r,rfl,h3⟩
   refine⟨_,rfl,fun hr0=>⟨hp,hz,hlt,hq,_,_,_,_,_,hrow,⟨by omega,by omega⟩,Tri.mono (ih (by omega) xl xs' r hxr hxs h3.1 h3.2) ?_⟩,fun _=>⟨hsucc,hJ hil _ _ _ ⟨rfl,h3⟩⟩⟩
   rintro _ _ ⟨rfl,r2,rfl,h4⟩
   simp_all
  ·obtain⟨y,hym,hy,-,hjl,hpy,hzy,hrowy⟩:=he.get hlt2
   refine⟨hp,hz,hlt,hq,_,_,_,_,_,hrow,hpy,hzy,hlt2,_,_,_,_,hrowy,Tri.mono (leftC 65 (by omega) y c (hes y hym) hc1 hc2) ?_⟩
   rintro _ _ ⟨rfl,r,rfl,h3⟩
   exact⟨_,rfl,he.succ hlt2,hJ1 hjl _ _ ⟨rfl,h3⟩⟩
theorem wideC{l:Sl}{xs:List Fld}(hr:qAc V l 2 (xs.map Fld.row)):Tri Tryz.prog 117 #[l.v] V (RY V):=by
 refine Tri.mono (x117 (R:=RY V) ?_) fun _ _ h=>h
 unfold w117
 refine⟨fun _=>.mk,fun _=>qAD (mk:=.bool) (b0:=false) xs.length (fun i V1=>V=V1) rfl ?_⟩
 rintro i b V1 J hi rfl hJ
 refine⟨fun hlt=>?_,fun _=>.mk⟩
 obtain⟨x,hxm,hx,-,hil,hp,hz,hrow⟩:=hr.get hlt
 have hq:=qAd (n:=i*2) hp
 exact⟨hp,hz,hlt,hq,_,_,hrow,fun _=>.mk,fun _=>⟨hp,hz,hlt,hq,_,_,hrow,fun _=>.mk,fun _=>⟨hr.succ hlt,hJ hil _ _ rfl⟩⟩⟩
theorem overC(hd:Ds.Ok V d){n:Int}(h1:-1<=n)(h2:n<=2000):Tri Tryz.prog 76 #[d.v,.int .i64 n] V (RY V):=by
 refine Tri.mono (x76 (R:=RY V) ?_) fun _ _ h=>h
 unfold w76
 refine⟨fun _=>.mk,fun _=>⟨fun _=>.mk,fun _=>⟨fun _=>.mk,fun _=>⟨fun _=>.mk,fun _=>⟨fun _=>.mk,fun _=>⟨fun _=>.mk,fun _=>⟨fun _=>.mk,fun _=>Tri.mono (wideC hd.globals) ?_⟩⟩⟩⟩⟩⟩⟩
 rintro _ _ ⟨rfl,b,rfl⟩
 refine⟨_,rfl,fun _=>.mk,fun _=>qAD (mk:=.bool) (b0:=false) d.types.length (fun i V1=>V=V1) rfl ?_⟩
 rintro i b V1 J hi rfl hJ
 refine⟨fun hlt=>?_,fun _=>?_⟩
 ·obtain⟨x,hxm,hx,-,hil,hp,hz,hrow⟩:=hd.types.get hlt
  have hq:=qAd (n:=i*2) hp
  refine⟨hp,hz,hlt,hq,_,_,hrow,fun _=>.mk,fun _=>⟨hp,hz,hlt,hq,_,_,hrow,Tri.mono (wideC (hd.typesOk x hxm).fields) ?_⟩⟩
  rintro _ _ ⟨rfl,b,rfl⟩
  exact⟨_,rfl,fun _=>.mk,fun _=>⟨hd.types.succ hlt,hJ hil _ _ rfl⟩⟩
 refine qHv (mk:=.bool) (mc:=.int .i64) b n qEf d.procs.length (fun i a V1=>V=V1/\-1<=a/\a<=2000) ⟨rfl,h1,h2⟩ ?_
 rintro i b a V1 J hi ⟨rfl,ha1,ha2⟩ hJ
 refine qER (fun _=>?_) (fun hlt hn=>?_)
 rotate_left
 ·obtain⟨x,hxm,hx,-,hil,hp,hz,hrow⟩:=hd.procs.get hlt
  have ho:=hd.procsOk x hxm
  refine⟨hp,hz,hlt,_,_,_,_,_,hrow,fun _=>.mk,fun _=>⟨fun _=>.mk,fun _=>Tri.mono (wideC ho.params) ?_⟩⟩
  rintro _ _ ⟨rfl,b1,rfl⟩
  refine⟨_,rfl,fun _=>.mk,fun _=>Tri.mono (wideC ho.locals) ?_⟩
  rintro _ _ ⟨rfl,b2,rfl⟩
  refine⟨_,rfl,fun _=>.mk,fun _=>Tri.mono (leftAllC 65 (by omega) x.bs x.body a ho.body ho.stmts ha1 ha2) ?_⟩
  rintro _ _ ⟨rfl,r,rfl,h3⟩
  exact⟨_,rfl,hd.procs.succ hlt,hJ hil _ _ _ ⟨rfl,h3⟩⟩
 refine qHv (mk:=.bool) (mc:=.int .i64) b a qEf d.measures.length (fun i a V1=>V=V1/\-1<=a/\a<=2000) ⟨rfl,ha1,ha2⟩ ?_
 clear hJ
 rintro i b a V1 J hi ⟨rfl,ha1,ha2⟩ hJ
 refine qER (fun _=>?_) (fun hlt hn=>?_)
 rotate_left
 ·obtain⟨x,hxm,hx,-,hil,hp,hz,hrow⟩:=hd.measures.get hlt
  have hq:=qAd (n:=i*7) hp
  refine⟨hp,hz,hlt,hq,_,_,_,_,_,_,_,hrow,fun _=>.mk,fun _=>⟨hp,hz,hlt,hq,_,_,_,_,_,_,_,hrow,fun _=>.mk,fun _=>⟨hp,hz,hlt,hq,_,_,_,_,_,_,_,hrow,Tri.mono (leftC 65 (by omega) x.x a (hd.measuresOk x hxm).x ha1 ha2) ?_⟩⟩⟩
  rintro _ _ ⟨rfl,r,rfl,h3⟩
  exact⟨_,rfl,hd.measures.succ hlt,hJ hil _ _ _ ⟨rfl,h3⟩⟩
 refine qHv (mk:=.bool) (mc:=.int .i64) b a qEf d.invs.length (fun i a V1=>V=V1/\-1<=a/\a<=2000) ⟨rfl,ha1,ha2⟩ ?_
 clear hJ
 rintro i b a V1 J hi ⟨rfl,ha1,ha2⟩ hJ
 refine qER (fun _=>?_) (fun hlt hn=>?_)
 rotate_left
 ·obtain⟨x,hxm,hx,-,hil,hp,hz,hrow⟩:=hd.invs.get hlt
  have hq:=qAd (n:=i*6) hp
  refine⟨hp,hz,hlt,hq,_,_,_,_,_,_,hrow,fun _=>.mk,fun _=>⟨hp,hz,hlt,hq,_,_,_,_,_,_,hrow,fun _=>.mk,fun _=>⟨hp,hz,hlt,hq,_,_,_,_,_,_,hrow,Tri.mono (leftC 65 (by omega) x.x a (hd.invsOk x hxm) ha1 ha2) ?_⟩⟩⟩
  rintro _ _ ⟨rfl,r,rfl,h3⟩
  exact⟨_,rfl,hd.invs.succ hlt,hJ hil _ _ _ ⟨rfl,h3⟩⟩
 refine qHv (mk:=.bool) (mc:=.int .i64) b a qEf d.pots.length (fun i a V1=>V=V1/\-1<=a/\a<=2000) ⟨rfl,ha1,ha2⟩ ?_
 clear hJ
 rintro i b a V1 J hi ⟨rfl,ha1,ha2⟩ hJ
 refine qER (fun _=>?_) (fun hlt hn=>?_)
 rotate_left
 ·obtain⟨x,hxm,hx,-,hil,hp,hz,hrow⟩:=hd.pots.get hlt
  have hq:=qAd (n:=i*5) hp
  refine⟨hp,hz,hlt,hq,_,_,_,_,_,hrow,fun _=>.mk,fun _=>⟨hp,hz,hlt,hq,_,_,_,_,_,hrow,Tri.mono (leftC 65 (by omega) x.x a (hd.potsOk x hxm) ha1 ha2) ?_⟩⟩
  rintro _ _ ⟨rfl,r,rfl,h3⟩
  exact⟨_,rfl,hd.pots.succ hlt,hJ hil _ _ _ ⟨rfl,h3⟩⟩
 refine qHv (mk:=.bool) (mc:=.int .i64) b a qEf d.bounds.length (fun i a V1=>V=V1/\-1<=a/\a<=2000) ⟨rfl,ha1,ha2⟩ ?_
 clear hJ
 rintro i b a V1 J hi ⟨rfl,ha1,ha2⟩ hJ
 refine qER (fun _=>.mk) (fun hlt hn=>?_)
 obtain⟨x,hxm,hx,-,hil,hp,hz,hrow⟩:=hd.bounds.get hlt
 have hq:=qAd (n:=i*5) hp
 refine⟨hp,hz,hlt,hq,_,_,_,_,_,hrow,fun _=>.mk,fun _=>⟨hp,hz,hlt,hq,_,_,_,_,_,hrow,Tri.mono (leftC 65 (by omega) x.x a (hd.boundsOk x hxm) ha1 ha2) ?_⟩⟩
 rintro _ _ ⟨rfl,r,rfl,h3⟩
 exact⟨_,rfl,hd.bounds.succ hlt,hJ hil _ _ _ ⟨rfl,h3⟩⟩
theorem greatC(hd:Ds.Ok V d):Tri Tryz.prog 38 #[d.v] V (RY V):=by
 refine Tri.mono (x38 (R:=RY V) ?_) fun _ _ h=>h
 unfold w38
 refine Tri.mono (overC hd (n:=2000) (by omega) (by omega)) ?_
 rintro _ _ ⟨rfl,b,rfl⟩
 exact⟨_,rfl,.mk⟩
theorem manyC(hm:Mm.Ok V m):Tri Tryz.prog 39 #[m.v] V (RY V):=by
 refine Tri.mono (x39 (R:=RY V) ?_) fun _ _ h=>h
 unfold w39
 refine⟨fun _=>.mk,fun _=>⟨fun _=>.mk,fun _=>qAD (mk:=.bool) (b0:=false) m.nodes.length (fun i V1=>V=V1) rfl ?_⟩⟩
 rintro i b V1 J hi rfl hJ
 refine⟨fun hlt=>?_,fun _=>.mk⟩
 obtain⟨x,hxm,hx,-,hil,hp,hz,hrow⟩:=hm.nodes.get hlt
 exact⟨hp,hz,hlt,qAd hp,_,_,hrow,fun _=>.mk,fun _=>⟨hm.nodes.succ hlt,hJ hil _ _ rfl⟩⟩
theorem c141{s t:Sl}{xs ys:List Int}(h:qAc V s 1 (xs.map qAf))(k:qAc V t 1 (ys.map qAf)):PP 141 [.slice s.p s.n s.c,.slice t.p t.n t.c] V (.bool (decide (xs=ys))):=by
 refine x141 ?_
 unfold w141
 have n1:=h.n_eq
 have n2:=k.n_eq
 refine⟨fun hl=>?_,fun hl=>?_⟩
 ·refine qAD (mk:=.bool) (b0:=false) xs.length (fun i V1=>V=V1/\xs.take i=ys.take i) ⟨rfl,rfl⟩ ?_
  rintro i b V1 J hi ⟨rfl,he⟩ hJ
  refine⟨fun hlt=>?_,fun hge=>?_⟩
  ·obtain⟨x,hxm,hx,-,hil,hp,hz,hrow⟩:=h.get hlt
   obtain⟨y,hym,hy,-,hjl,hp2,hz2,hrow2⟩:=k.get (i:=i) (by omega)
   refine⟨hp,hz,hlt,_,hrow,hp2,hz2,by omega,_,hrow2,fun hE=>⟨h.succ hlt,hJ hil _ _ ⟨rfl,take_eq he hx hy hE⟩⟩,fun hE=>?_⟩
   rw[decide_eq_false fun e=>?_]
   ·simp_all
   simp_all
  grind
 ·rw[decide_eq_false fun e=>hl (by rw[n1,n2,e])];simp_all
theorem plain_ext{a b:Mm}(hg:a.globals=b.globals)(hn:(a.nodes.map fun n=>(n.ty,n.f))=b.nodes.map fun n=>(n.ty,n.f)):a.plain=b.plain:=by grind [Mm.plain]
instance:DecidableEq (List Int×List (Int×List Int)):=inferInstance
theorem c95{a b:Mm}(ha:Mm.Ok V a)(hb:Mm.Ok V b):PP 95 [a.v,b.v] V (.bool (decide (a.plain=b.plain))):=by
 refine x95 ?_
 unfold w95
 have n1:=ha.nodes.n_eq
 have n2:=hb.nodes.n_eq
 have no:a.plain≠b.plain->(Ending.returned (.bool false)=.returned (.bool (decide (a.plain=b.plain)))/\V=V):=fun h=>⟨by simp_all,rfl⟩
 refine(c141 ha.globals hb.globals).call ⟨_,rfl,fun hg=>?_,fun hg=>no fun e=>hg (decide_eq_true (Prod.mk.inj e).1)⟩
 have hg:=of_decide_eq_true hg
 refine⟨fun hl=>?_,fun hl=>no fun e=>hl (by rw[n1,n2,qCV e])⟩
 refine qAD (mk:=.bool) (b0:=false) a.nodes.length (fun i V1=>V=V1/\(a.nodes.map fun n=>(n.ty,n.f)).take i=(b.nodes.map fun n=>(n.ty,n.f)).take i) ⟨rfl,rfl⟩ ?_
 rintro i b0 V1 J hi ⟨rfl,he⟩ hJ
 refine⟨fun hlt=>?_,fun hge=>?_⟩
 ·obtain⟨x,hxm,hx,-,hil,hp,hz,hrow⟩:=ha.nodes.get hlt
  obtain⟨y,hym,hy,-,hjl,hp2,hz2,hrow2⟩:=hb.nodes.get (i:=i) (by omega)
  have l2:(i:Int)<(b.ns.n:Int):=by omega
  have hx':(a.nodes.map fun n=>(n.ty,n.f))[i]?=some (x.ty,x.f):=by simp_all
  have hy':(b.nodes.map fun n=>(n.ty,n.f))[i]?=some (y.ty,y.f):=by simp_all
  have bad:(x.ty,x.f)≠(y.ty,y.f)->a.plain≠b.plain:=fun h e=>h (by rw[show (a.nodes.map fun n=>(n.ty,n.f))=b.nodes.map fun n=>(n.ty,n.f) from (Prod.mk.inj e).2,hy']at hx';simp_all)
  refine⟨hp,hz,hlt,qAd hp,_,_,hrow,hp2,hz2,l2,qAd hp2,_,_,hrow2,fun ht=>⟨hp,hz,hlt,qAd hp,_,_,hrow,hp2,hz2,l2,qAd hp2,_,_,hrow2,(c141 (ha.nodesOk x hxm).rows (hb.nodesOk y hym).rows).call ⟨_,rfl,fun hf=>⟨ha.nodes.succ hlt,hJ hil _ _ ⟨rfl,take_eq he hx' hy' (Prod.ext ht (of_decide_eq_true hf))⟩⟩,fun hf=>no (bad fun e=>hf (decide_eq_true (Prod.mk.inj e).2))⟩⟩,fun ht=>no (bad fun e=>ht (Prod.mk.inj e).1)⟩
 ·have hd:=(ha.nodes.done hge).2
  rw[List.take_of_length_le (by simp_all),List.take_of_length_le (by simp_all)]at he
  exact⟨by rw[decide_eq_true (plain_ext hg he)],rfl⟩
end
theorem start_ok{d:Ds}{m:Mm}{nm:ByteArray}{args:List Int}{F:Int}(G:qAv d m)(h:0<=F/\F<=1048576):qBr d m nm args F=qCH d m nm args:=by
 grind [qAN,qBr]
section
variable{V:Mem}
def qDU(b n:Nat):Sl:=⟨some ⟨b,0,none⟩,n,n⟩
end
section
variable{V V0:Mem}{d:Ds}{F:Nat}{m:Mm}{nm:ByteArray}{args:List Int}{l:Sl}
theorem qEX{F:Int}(h:qBr d m nm args F=0):qAv d m/\qCH d m nm args=0:=by
 grind [qBr,qCO,absurd]
end
section
variable{V V0:Mem}{d:Ds}{F:Nat}{m:Mm}{nm:ByteArray}{args:List Int}{l:Sl}
theorem qIP(hd:Ds.Ok V d){V':Mem}{gs ns ls:Sl}{nd:List Nd}{s:St}(L:Lay V V' gs ns ls nd s)(hg:qAv d s.mm):Mm.Ok V' ⟨gs,s.g,ns,nd⟩/\(⟨gs,s.g,ns,nd⟩:Mm).plain=(s.g,s.ns):=by
 have hp:(⟨gs,s.g,ns,nd⟩:Mm).plain=(s.g,s.ns):=by
  unfold Mm.plain
  rw[<- L.eq]
 obtain⟨p1,p2,p3,p4,p5⟩:=qAj hg.mem
 have vi:∀{t:List Fld} {vs:List Int},qAi d s.mm t vs=true->∀v∈vs,inI v:=fun {t vs} h v hv=>by
  obtain⟨j,hj⟩:=List.mem_iff_getElem?.1 hv
  obtain⟨hl,hk⟩:=qAG.1 h
  have hjl:=(List.getElem?_eq_some_iff.1 hj).1
  have:=hk j _ v (List.getElem?_eq_getElem (by omega)) hj
  grind [qAw,inI]
 refine⟨⟨L.glob.rows (fun _=>rfl) (by decide),vi p4,L.nodes.rows (fun _=>rfl) (by decide),fun n hn=>?_⟩,hp⟩
 have hmem:(⟨n.ty,qAC,n.f⟩:Nd)∈s.mm.nodes:=by
  unfold St.mm
  rw[<- L.eq]
  grind
 refine⟨(L.fld n hn).rows (fun _=>rfl) (by decide),?_,vi (p5 ⟨n.ty,qAC,n.f⟩ hmem)⟩
 have:=of_decide_eq_true (p3 ⟨n.ty,qAC,n.f⟩ hmem)
 have hl:d.types.length<=9223372036854775807:=by
  have:=hd.types.n_eq;have:=hd.types.cap;have:=hd.types.fit;omega
 grind [inI]
theorem qIH(G:qAv d m)(hc:qCH d m nm args=0):qAv d (qCo d F (qDr d nm) args (qCd m)).st.mm:=by
 obtain⟨i,q,hi,hq,hval⟩:=qJq hc
 rw[hi]
 exact(play_snd (F:=F) (qHU G.valid G.chk) hq (qLl G) (qAo (qDY (qEY m).symm) hval)).good
end
end Go.Proofs
namespace Go.Proofs
open Go Go.Sx
def qBx(w:World):Mem:=fun b=>w.heap[b]?
theorem heapM_le(w:World):(qBx w).le w:=fun _ _ h=>h
theorem qGq{α β:Type}{f:α->Option β}:∀{l:List α} {r:List β},l.mapM f=some r->r.length=l.length/\∀(i:Nat) (a:α),l[i]?=some a->∃b,r[i]?=some b/\f a=some b
 | [],r,h=>by simp_all
 | x::l,r,h=>by
  simp only[List.mapM_cons,Option.bind_eq_bind,Option.bind_eq_some_iff,Option.pure_def,Option.some.injEq]at h
  obtain⟨b,hb,r',hr',rfl⟩:=h
  obtain⟨h1,h2⟩:=qGq hr'
  grind
theorem cells_row{w:World}{a:Addr}{n:Nat}{cs:List Value}(h:w.cells? 0 a n=some cs)(hn:0<n):(qBx w).row a n=some cs:=by
 unfold World.cells? at h
 rw[if_pos (Nat.zero_le _)]at h
 obtain⟨h1,h2⟩:=qGq h
 have hat:∀i,i<n->∃v,cs[i]?=some v/\w.cell? (a.add i)=some v:=fun i hi=>h2 i i (by simp[hi])
 obtain⟨v0,-,hc0⟩:=hat 0 hn
 have e0:a.add 0=a:=by rfl
 rw[e0]at hc0
 unfold World.cell? at hc0
 split at hc0
 ·rename_i c t fr hb
  split at hc0
  ·cases hc0
  ·rename_i hsp
   have hsp':a.spot.isNone=true:=by simp_all
   have hsp2:a.spot=none:=by simp_all
   have hci:∀i,i<n->∃v,cs[i]?=some v/\c[a.off+i]?=some v:=fun i hi=>by
    obtain⟨v,hv,hc⟩:=hat i hi
    refine⟨v,hv,?_⟩
    have e:a.add i=⟨a.block,a.off+i,none⟩:=by
     unfold Addr.add
     by_cases h0:i=0
     ·subst h0;rw[if_pos rfl]
      cases a with
      | mk b o s=>simp_all
     grind
    grind [World.cell?]
   have hlen:a.off+n<=c.size:=by
    obtain⟨v,_,hc⟩:=hci (n-1) (by omega)
    grind
   have hcs:cs.length=n:=by rw[h1];simp
   unfold Mem.row qBx
   simp only[hb]
   rw[if_pos ⟨hsp',hlen⟩]
   congr 1
   apply List.ext_getElem?
   grind
 ·cases hc0
section
variable{H:Type}{enc:TypeId×Value->H}{w:World}
noncomputable abbrev TR(enc:TypeId×Value->H)(w:World)(n:Nat)(t:TypeId)(cs:List Value):=DataW.trod enc Tryz.prog w 0 (fun _=>true) true n t cs
theorem rd_str{n:Nat}{t:TypeId}{cs:List Value}{x:DataW H×List MemPlace}(ht:Tryz.prog.underlying t=some .string)(h:TR enc w n t cs=some x):∃s,cs=[.string s]:=by
 cases n with
 | zero=>cases h
 | succ n =>
  unfold TR DataW.trod at h
  grind
theorem rd_int{n:Nat}{t:TypeId}{cs:List Value}{x:DataW H×List MemPlace}(ht:Tryz.prog.underlying t=some (.int .i64))(h:TR enc w n t cs=some x):∃v:Int,cs=[.int .i64 v]/\IntKind.i64.min<=v/\v<=IntKind.i64.max:=by
 cases n with
 | zero=>cases h
 | succ n =>
  unfold TR DataW.trod at h
  grind [Lit.wf]
theorem rd_slice{α:Type}{row:α->List Value}{ok:α->Prop}{sz n:Nat}{t e:TypeId}{cs:List Value}{x:DataW H×List MemPlace}(ht:Tryz.prog.underlying t=some (.slice e))(hc:Tryz.prog.cellsOf e=sz)(hsz:0<sz)(hrow:∀a,(row a).length=sz)
  (hE:∀m,m<n->∀cs x,TR enc w m e cs=some x->∃a,row a=cs/\ok a) (h:TR enc w n t cs=some x):∃(s:Sl) (xs:List α),cs=[.slice s.p s.n s.c]/\qAc (qBx w) s sz (xs.map row)/\∀a∈xs,ok a:=by
 cases n with
 | zero=>cases h
 | succ n =>
  have key:∀(a:Addr) (len cap:Nat),TR enc w (n+1) t [.slice (some a) len cap]=some x->∃(xs:List α),qAc (qBx w) ⟨some a,len,cap⟩ sz (xs.map row)/\∀a∈xs,ok a:=by
   intro a len cap h
   unfold TR DataW.trod at h
   rw[ht]at h
   simp only at h
   split at h
   case isFalse=>cases h
   rename_i hcond
   simp only[Option.bind_eq_some_iff]at h
   obtain⟨elems,hm,-⟩:=h
   obtain⟨h1,h2⟩:=qGq hm
   have hex:∀i:Fin len,∃y:α,(qBx w).row (a.add (i*sz)) sz=some (row y)/\ok y:=by
    intro i
    obtain⟨b,-,hb⟩:=h2 i i (by simp)
    simp only[Option.bind_eq_some_iff]at hb
    obtain⟨ci,hci,hti⟩:=hb
    obtain⟨y,hy,hok⟩:=hE n (Nat.lt_succ_self n) ci _ hti
    grind [cells_row]
   refine⟨List.ofFn fun i=>Classical.choose (hex i),⟨by simp,hcond.2.1,by grind [maxLen],?_,?_⟩,?_⟩
   ·simp_all
   ·grind
   grind
  have main:cs=[.slice none 0 0]∨∃a len cap,cs=[.slice (some a) len cap]:=by
   unfold TR DataW.trod at h
   grind
  rcases main with rfl|⟨a,len,cap,rfl⟩
  ·exact⟨⟨none,0,0⟩,[],rfl,qAc.nil,by simp⟩
  grind
theorem qBK{n:Nat}{t:TypeId}{fs:Array Field}{cs:List Value}{x:DataW H×List MemPlace}(ht:Tryz.prog.underlying t=some (.struct fs))(h:TR enc w n t cs=some x) :
  cs.length=Tryz.prog.cellsOf t/\∃m,m<n/\∀(i:Nat) (f:Field),fs.toList[i]?=some f->∃y,TR enc w m f.type ((cs.drop f.offset).take (Tryz.prog.cellsOf f.type))=some y:=by
 cases n with
 | zero=>cases h
 | succ n =>
  have key:cs.length=Tryz.prog.cellsOf t->(∃xs,(fs.toList.mapM fun f=>DataW.trod enc Tryz.prog w 0 (fun _=>true) true n f.type ((cs.drop f.offset).take (Tryz.prog.cellsOf f.type)))=some xs) ->
    cs.length=Tryz.prog.cellsOf t/\∃m,m<n+1/\∀(i:Nat) (f:Field),fs.toList[i]?=some f->∃y,TR enc w m f.type ((cs.drop f.offset).take (Tryz.prog.cellsOf f.type))=some y:=by
   rintro hl ⟨xs,hx⟩
   refine⟨hl,n,Nat.lt_succ_self n,fun i f hf=>?_⟩
   obtain⟨-,h2⟩:=qGq hx
   grind
  unfold TR DataW.trod at h
  rw[ht]at h
  split at h
  all_goals first | (rename_i e;cases e;done) | (rename_i e _;cases e;done) | (rename_i e _ _;cases e;done) | (exact absurd rfl ((by assumption:∀fs_1:Array Field,some (TypeDesc.struct fs)=some (TypeDesc.struct fs_1)->False) fs)) | skip
  rename_i e
  cases e
  split at h
  ·rename_i hl
   simp only[Option.map_eq_some_iff]at h
   obtain⟨xs,hx,-⟩:=h
   simp_all
  simp_all
end
end Go.Proofs
namespace Go.Proofs
open Go Go.Sx
section
variable{H:Type}{enc:TypeId×Value->H}{w:World}
theorem at1{cs:List Value}{v:Value}{off m:Nat}{t:TypeId}(h:∃y,TR enc w m t ((cs.drop off).take (Tryz.prog.cellsOf t))=some y)(hc:Tryz.prog.cellsOf t=1)(hv:cs[off]?=some v):∃y,TR enc w m t [v]=some y:=by
 grind [List.getElem?_eq_some_iff,List.drop_eq_getElem_cons]
theorem cl9:Tryz.prog.cellsOf 9=1:=by kernel_rfl
theorem cl3:Tryz.prog.cellsOf 3=1:=by kernel_rfl
theorem cl22:Tryz.prog.cellsOf 22=1:=by kernel_rfl
theorem cl23:Tryz.prog.cellsOf 23=1:=by kernel_rfl
theorem cl24:Tryz.prog.cellsOf 24=1:=by kernel_rfl
theorem cl25:Tryz.prog.cellsOf 25=1:=by kernel_rfl
theorem cl26:Tryz.prog.cellsOf 26=1:=by kernel_rfl
theorem cl27:Tryz.prog.cellsOf 27=1:=by kernel_rfl
theorem cl28:Tryz.prog.cellsOf 28=1:=by kernel_rfl
theorem cl38:Tryz.prog.cellsOf 149=1:=by kernel_rfl
theorem cl52:Tryz.prog.cellsOf 141=1:=by kernel_rfl
theorem cl40:Tryz.prog.cellsOf 151=4:=by kernel_rfl
theorem cl67:Tryz.prog.cellsOf 101=2:=by kernel_rfl
theorem cl94:Tryz.prog.cellsOf 98=2:=by kernel_rfl
theorem cl54:Tryz.prog.cellsOf 143=5:=by kernel_rfl
theorem cl75:Tryz.prog.cellsOf 154=5:=by kernel_rfl
theorem cl97:Tryz.prog.cellsOf 184=7:=by kernel_rfl
theorem cl58:Tryz.prog.cellsOf 187=6:=by kernel_rfl
theorem cl61:Tryz.prog.cellsOf 189=5:=by kernel_rfl
theorem cl64:Tryz.prog.cellsOf 191=5:=by kernel_rfl
theorem cl30:Tryz.prog.cellsOf 30=8:=by kernel_rfl
theorem gS{m:Nat}{v:Value}(h:∃y,TR enc w m 9 [v]=some y):∃s,v=.string s:=by
 obtain⟨y,hy⟩:=h
 obtain⟨s,e⟩:=rd_str Tryz.underlying9 hy
 exact⟨s,by simpa using e⟩
theorem gI{m:Nat}{v:Value}(h:∃y,TR enc w m 3 [v]=some y):∃n:Int,v=.int .i64 n/\IntKind.i64.min<=n/\n<=IntKind.i64.max:=by
 obtain⟨y,hy⟩:=h
 obtain⟨s,e,h1⟩:=rd_int Tryz.underlying3 hy
 exact⟨s,by simpa using e,h1⟩
theorem gSl{α:Type}{row:α->List Value}{ok:α->Prop}{sz m:Nat}{t e:TypeId}{v:Value}(ht:Tryz.prog.underlying t=some (.slice e))(hc:Tryz.prog.cellsOf e=sz)(hsz:0<sz)(hrow:∀a,(row a).length=sz)
  (hE:∀m',m'<m->∀cs x,TR enc w m' e cs=some x->∃a,row a=cs/\ok a) (h:∃y,TR enc w m t [v]=some y):∃(s:Sl) (xs:List α),v=.slice s.p s.n s.c/\qAc (qBx w) s sz (xs.map row)/\∀a∈xs,ok a:=by
 obtain⟨y,hy⟩:=h
 obtain⟨s,xs,e,h1,h2⟩:=rd_slice ht hc hsz hrow hE hy
 grind
theorem len2{cs:List Value}(h:cs.length=2):∃a b,cs=[a,b]:=by
 match cs,h with
 | [a,b],_=>simp_all
theorem len4{cs:List Value}(h:cs.length=4):∃a b c d,cs=[a,b,c,d]:=by
 match cs,h with
 | [a,b,c,d],_=>simp_all
theorem len5{cs:List Value}(h:cs.length=5):∃a b c d e,cs=[a,b,c,d,e]:=by
 match cs,h with
 | [a,b,c,d,e],_=>simp_all
theorem len6{cs:List Value}(h:cs.length=6):∃a b c d e f,cs=[a,b,c,d,e,f]:=by
 match cs,h with
 | [a,b,c,d,e,f],_=>simp_all
theorem len7{cs:List Value}(h:cs.length=7):∃a b c d e f g,cs=[a,b,c,d,e,f,g]:=by
 match cs,h with
 | [a,b,c,d,e,f,g],_=>simp_all
theorem len8{cs:List Value}(h:cs.length=8):∃a b c d e f g i,cs=[a,b,c,d,e,f,g,i]:=by
 match cs,h with
 | [a,b,c,d,e,f,g,i],_=>simp_all
theorem rdFld{n:Nat}{cs:List Value}{x:DataW H×List MemPlace}(h:TR enc w n 101 cs=some x):∃f:Fld,Fld.row f=cs/\True:=by
 obtain⟨hl,m,-,hs⟩:=qBK Tryz.underlying101 h
 obtain⟨a,b,rfl⟩:=len2 (hl.trans cl67)
 obtain⟨s1,rfl⟩:=gS (at1 (hs 0 _ rfl) cl9 rfl)
 obtain⟨s2,rfl⟩:=gS (at1 (hs 1 _ rfl) cl9 rfl)
 exact⟨⟨s1,s2⟩,rfl,trivial⟩
theorem rdE:∀(n:Nat) (cs:List Value) (x:DataW H×List MemPlace),TR enc w n 151 cs=some x->∃e:E,E.row e=cs/\E.Ok (qBx w) e:=by
 intro n
 induction n using Nat.strongRecOn with
 | _ n ih =>
 intro cs x h
 obtain⟨hl,m,hm,hs⟩:=qBK Tryz.underlying151 h
 obtain⟨a,b,c,d,rfl⟩:=len4 (hl.trans cl40)
 obtain⟨op,rfl,ho⟩:=gI (at1 (hs 0 _ rfl) cl3 rfl)
 obtain⟨nn,rfl,hn⟩:=gI (at1 (hs 1 _ rfl) cl3 rfl)
 obtain⟨s,rfl⟩:=gS (at1 (hs 2 _ rfl) cl9 rfl)
 obtain⟨l,k,rfl,hr,hk⟩:=gSl (row:=E.row) (ok:=E.Ok (qBx w)) Tryz.underlying149 cl40 (by decide) (fun _=>rfl) (fun m' hm'=>ih m' (by omega)) (at1 (hs 3 _ rfl) cl38 rfl)
 exact⟨.mk op nn s l k,rfl,.mk hr hk ho hn⟩
theorem S.row_len:∀s:S,(S.row s).length=5:=fun s=>by cases s;rfl
theorem rdS:∀(n:Nat) (cs:List Value) (x:DataW H×List MemPlace),TR enc w n 154 cs=some x->∃e:S,S.row e=cs/\S.Ok (qBx w) e:=by
 intro n
 induction n using Nat.strongRecOn with
 | _ n ih =>
 intro cs x h
 obtain⟨hl,m,hm,hs⟩:=qBK Tryz.underlying154 h
 obtain⟨a,b,c,d,e,rfl⟩:=len5 (hl.trans cl75)
 obtain⟨op,rfl,ho⟩:=gI (at1 (hs 0 _ rfl) cl3 rfl)
 obtain⟨s,rfl⟩:=gS (at1 (hs 1 _ rfl) cl9 rfl)
 obtain⟨el,es,rfl,hr1,hk1⟩:=gSl (row:=E.row) (ok:=E.Ok (qBx w)) Tryz.underlying149 cl40 (by decide) (fun _=>rfl) (fun m' _=>rdE m') (at1 (hs 2 _ rfl) cl38 rfl)
 obtain⟨ll,ls,rfl,hr2,hk2⟩:=gSl (row:=S.row) (ok:=S.Ok (qBx w)) Tryz.underlying141 cl75 (by decide) S.row_len (fun m' hm'=>ih m' (by omega)) (at1 (hs 3 _ rfl) cl52 rfl)
 obtain⟨xl,xs,rfl,hr3,hk3⟩:=gSl (row:=S.row) (ok:=S.Ok (qBx w)) Tryz.underlying141 cl75 (by decide) S.row_len (fun m' hm'=>ih m' (by omega)) (at1 (hs 4 _ rfl) cl52 rfl)
 exact⟨.mk op s el es ll ls xl xs,rfl,.mk hr1 hk1 hr2 hk2 hr3 hk3 ho⟩
theorem gF{m:Nat}{v:Value}(h:∃y,TR enc w m 23 [v]=some y):∃(s:Sl) (xs:List Fld),v=.slice s.p s.n s.c/\qAc (qBx w) s 2 (xs.map Fld.row):=by
 obtain⟨s,xs,h1,h2,-⟩:=gSl (row:=Fld.row) (ok:=fun _=>True) Tryz.underlying23 cl67 (by decide) (fun _=>rfl) (fun _ _ _ _=>rdFld) h
 grind
theorem rdTy{n:Nat}{cs:List Value}{x:DataW H×List MemPlace}(h:TR enc w n 98 cs=some x):∃f:Ty,Ty.row f=cs/\Ty.Ok (qBx w) f:=by
 obtain⟨hl,m,-,hs⟩:=qBK Tryz.underlying98 h
 obtain⟨a,b,rfl⟩:=len2 (hl.trans cl94)
 obtain⟨s1,rfl⟩:=gS (at1 (hs 0 _ rfl) cl9 rfl)
 obtain⟨l,k,rfl,hr⟩:=gF (at1 (hs 1 _ rfl) cl23 rfl)
 exact⟨⟨s1,l,k⟩,rfl,⟨hr⟩⟩
theorem rdPr{n:Nat}{cs:List Value}{x:DataW H×List MemPlace}(h:TR enc w n 143 cs=some x):∃f:Pr,Pr.row f=cs/\Pr.Ok (qBx w) f:=by
 obtain⟨hl,m,-,hs⟩:=qBK Tryz.underlying143 h
 obtain⟨a,b,c,d,e,rfl⟩:=len5 (hl.trans cl54)
 obtain⟨s1,rfl⟩:=gS (at1 (hs 0 _ rfl) cl9 rfl)
 obtain⟨l1,k1,rfl,hr1⟩:=gF (at1 (hs 1 _ rfl) cl23 rfl)
 obtain⟨s2,rfl⟩:=gS (at1 (hs 2 _ rfl) cl9 rfl)
 obtain⟨l2,k2,rfl,hr2⟩:=gF (at1 (hs 3 _ rfl) cl23 rfl)
 obtain⟨l3,k3,rfl,hr3,hk3⟩:=gSl (row:=S.row) (ok:=S.Ok (qBx w)) Tryz.underlying141 cl75 (by decide) S.row_len (fun m' _=>rdS m') (at1 (hs 4 _ rfl) cl52 rfl)
 exact⟨⟨s1,l1,k1,s2,l2,k2,l3,k3⟩,rfl,⟨hr1,hr2,hr3,hk3⟩⟩
theorem rdMs{n:Nat}{cs:List Value}{x:DataW H×List MemPlace}(h:TR enc w n 184 cs=some x):∃f:Ms,Ms.row f=cs/\Ms.Ok (qBx w) f:=by
 obtain⟨hl,m,-,hs⟩:=qBK Tryz.underlying184 h
 obtain⟨a,b,c,d,e,f,g,rfl⟩:=len7 (hl.trans cl97)
 obtain⟨s1,rfl⟩:=gS (at1 (hs 0 _ rfl) cl9 rfl)
 obtain⟨s2,rfl⟩:=gS (at1 (hs 1 _ rfl) cl9 rfl)
 obtain⟨nn,rfl,hn⟩:=gI (at1 (hs 2 _ rfl) cl3 rfl)
 obtain⟨y,hy⟩:=hs 3 _ rfl
 change TR enc w m 151 (([Value.string s1,.string s2,.int .i64 nn,d,e,f,g].drop 3).take (Tryz.prog.cellsOf 151))=some y at hy
 rw[cl40]at hy
 obtain⟨x,hx,hxo⟩:=rdE m _ _ hy
 simp only[List.drop_succ_cons,List.drop_zero,List.take_succ_cons,List.take_zero,E.row,List.cons.injEq,and_true]at hx
 obtain⟨rfl,rfl,rfl,rfl⟩:=hx
 exact⟨⟨s1,s2,nn,x⟩,rfl,⟨hxo,hn⟩⟩
theorem rdIv{n:Nat}{cs:List Value}{x:DataW H×List MemPlace}(h:TR enc w n 187 cs=some x):∃f:Iv,Iv.row f=cs/\E.Ok (qBx w) f.x:=by
 obtain⟨hl,m,-,hs⟩:=qBK Tryz.underlying187 h
 obtain⟨a,b,d,e,f,g,rfl⟩:=len6 (hl.trans cl58)
 obtain⟨s1,rfl⟩:=gS (at1 (hs 0 _ rfl) cl9 rfl)
 obtain⟨s2,rfl⟩:=gS (at1 (hs 1 _ rfl) cl9 rfl)
 obtain⟨y,hy⟩:=hs 2 _ rfl
 change TR enc w m 151 (([Value.string s1,.string s2,d,e,f,g].drop 2).take (Tryz.prog.cellsOf 151))=some y at hy
 rw[cl40]at hy
 obtain⟨x,hx,hxo⟩:=rdE m _ _ hy
 simp only[List.drop_succ_cons,List.drop_zero,List.take_succ_cons,List.take_zero,E.row,List.cons.injEq,and_true]at hx
 obtain⟨rfl,rfl,rfl,rfl⟩:=hx
 exact⟨⟨s1,s2,x⟩,rfl,hxo⟩
theorem rdPo{n:Nat}{cs:List Value}{x:DataW H×List MemPlace}(h:TR enc w n 189 cs=some x):∃f:Po,Po.row f=cs/\E.Ok (qBx w) f.x:=by
 obtain⟨hl,m,-,hs⟩:=qBK Tryz.underlying189 h
 obtain⟨a,d,e,f,g,rfl⟩:=len5 (hl.trans cl61)
 obtain⟨s1,rfl⟩:=gS (at1 (hs 0 _ rfl) cl9 rfl)
 obtain⟨y,hy⟩:=hs 1 _ rfl
 change TR enc w m 151 (([Value.string s1,d,e,f,g].drop 1).take (Tryz.prog.cellsOf 151))=some y at hy
 rw[cl40]at hy
 obtain⟨x,hx,hxo⟩:=rdE m _ _ hy
 simp only[List.drop_succ_cons,List.drop_zero,List.take_succ_cons,List.take_zero,E.row,List.cons.injEq,and_true]at hx
 obtain⟨rfl,rfl,rfl,rfl⟩:=hx
 exact⟨⟨s1,x⟩,rfl,hxo⟩
theorem rdBd{n:Nat}{cs:List Value}{x:DataW H×List MemPlace}(h:TR enc w n 191 cs=some x):∃f:Bd,Bd.row f=cs/\E.Ok (qBx w) f.x:=by
 obtain⟨hl,m,-,hs⟩:=qBK Tryz.underlying191 h
 obtain⟨a,d,e,f,g,rfl⟩:=len5 (hl.trans cl64)
 obtain⟨s1,rfl⟩:=gS (at1 (hs 0 _ rfl) cl9 rfl)
 obtain⟨y,hy⟩:=hs 1 _ rfl
 change TR enc w m 151 (([Value.string s1,d,e,f,g].drop 1).take (Tryz.prog.cellsOf 151))=some y at hy
 rw[cl40]at hy
 obtain⟨x,hx,hxo⟩:=rdE m _ _ hy
 simp only[List.drop_succ_cons,List.drop_zero,List.take_succ_cons,List.take_zero,E.row,List.cons.injEq,and_true]at hx
 obtain⟨rfl,rfl,rfl,rfl⟩:=hx
 exact⟨⟨s1,x⟩,rfl,hxo⟩
theorem rdDs{n:Nat}{cs:List Value}{x:DataW H×List MemPlace}(h:TR enc w n 30 cs=some x):∃d:Ds,d.row=cs/\Ds.Ok (qBx w) d:=by
 obtain⟨hl,m,-,hs⟩:=qBK Tryz.underlying30 h
 obtain⟨a,b,c,d,e,f,g,i,rfl⟩:=len8 (hl.trans cl30)
 obtain⟨s1,rfl⟩:=gS (at1 (hs 0 _ rfl) cl9 rfl)
 obtain⟨l1,k1,rfl,h1,o1⟩:=gSl (row:=Ty.row) (ok:=Ty.Ok (qBx w)) Tryz.underlying22 cl94 (by decide) (fun _=>rfl) (fun _ _ _ _=>rdTy) (at1 (hs 1 _ rfl) cl22 rfl)
 obtain⟨l2,k2,rfl,h2⟩:=gF (at1 (hs 2 _ rfl) cl23 rfl)
 obtain⟨l3,k3,rfl,h3,o3⟩:=gSl (row:=Pr.row) (ok:=Pr.Ok (qBx w)) Tryz.underlying24 cl54 (by decide) (fun _=>rfl) (fun _ _ _ _=>rdPr) (at1 (hs 3 _ rfl) cl24 rfl)
 obtain⟨l4,k4,rfl,h4,o4⟩:=gSl (row:=Ms.row) (ok:=Ms.Ok (qBx w)) Tryz.underlying25 cl97 (by decide) (fun _=>rfl) (fun _ _ _ _=>rdMs) (at1 (hs 4 _ rfl) cl25 rfl)
 obtain⟨l5,k5,rfl,h5,o5⟩:=gSl (row:=Iv.row) (ok:=fun f=>E.Ok (qBx w) f.x) Tryz.underlying26 cl58 (by decide) (fun _=>rfl) (fun _ _ _ _=>rdIv) (at1 (hs 5 _ rfl) cl26 rfl)
 obtain⟨l6,k6,rfl,h6,o6⟩:=gSl (row:=Po.row) (ok:=fun f=>E.Ok (qBx w) f.x) Tryz.underlying27 cl61 (by decide) (fun _=>rfl) (fun _ _ _ _=>rdPo) (at1 (hs 6 _ rfl) cl27 rfl)
 obtain⟨l7,k7,rfl,h7,o7⟩:=gSl (row:=Bd.row) (ok:=fun f=>E.Ok (qBx w) f.x) Tryz.underlying28 cl64 (by decide) (fun _=>rfl) (fun _ _ _ _=>rdBd) (at1 (hs 7 _ rfl) cl28 rfl)
 exact⟨⟨s1,l1,k1,l2,k2,l3,k3,l4,k4,l5,k5,l6,k6,l7,k7⟩,rfl,⟨h1,o1,h2,h3,o3,h4,o4,h5,o5,h6,o6,h7,o7⟩⟩
end
end Go.Proofs
namespace Go.Proofs.YtmeagdecjpknkaaGreatDoor
open Go Go.Sx Go.Proofs Go.ChangeShapes Go.WideShapes Go.ChangeAt Go.RowKit
theorem same_old{P:Program}{f:FuncId}{args:List Value}{W:World}{v:Value}(h:Pur P f args (qBx W) v):Calls P f args.toArray W fun e W'=>e=.returned v/\W'.os=W.os/\W'.output=W.output/\W.heap.size<=W'.heap.size/\∀b,b<W.heap.size->W'.heap[b]?=W.heap[b]?:=by
 have h2:Tri P f args.toArray (qBx W) fun e V'=>e=.returned v/\V'=qBx W:=h
 unfold Tri at h2
 refine qCS (h2 W (heapM_le W)) ?_
 rintro e W' ⟨V',⟨rfl,rfl⟩,hF⟩
 refine⟨rfl,hF.os,hF.out,hF.size,fun b hb=>?_⟩
 have:qBx W b=some W.heap[b]:=Array.getElem?_eq_getElem hb
 rw[hF.le b _ this];exact this.symm
theorem Tryz.own:ownKnob Tryz.prog.godebug=none:=by kernel_rfl
theorem Tryz.laidOut:laidOutB Tryz.prog=true:=by kernel_rfl
theorem tab_of{W:World}(h:Lib.TabIs Tryz.prog W "strings.asciiSpace" .u8 Lib.asciiSpaceTab):Tab (qBx W):=by
 have hg:Tryz.prog.globalNamed "strings.asciiSpace" = some 0:=by kernel_rfl
 unfold Lib.TabIs World.var? at h
 rw[hg,Option.bind_some]at h
 split at h
 ·rename_i cs t fr hb
  simp only[Option.some.injEq]at h
  exact⟨t,fr,by rw[<- h];exact hb⟩
 ·cases h
theorem desc_of{H:Type}{enc:TypeId×Value->H}{W:World}{v:Value}{d0:DataW H}{p:List MemPlace}(h:DataW.Trod enc Tryz.prog W 0 (fun _=>true) true 30 v d0 p):∃d:Ds,v=d.v/\Ds.Ok (qBx W) d:=by
 obtain⟨fuel,h⟩:=h
 obtain⟨d,hd,hok⟩:=rdDs h
 refine⟨d,?_,hok⟩
 have hl:v.cells.toList.length=8:=by rw[<- hd];rfl
 cases v with
 | agg cs =>
  have:cs.toList=d.row:=hd.symm
  show Value.agg cs=.agg d.row.toArray
  rw[<- this]
 | _=>simp[Value.cells]at hl
noncomputable def laidWorld(os:Os):World :=
 let w0:=World.holding Tryz.prog os ⟨#[.cells #[.int .u16 9,.int .u16 13,.int .u16 1,.int .u16 32,.int .u16 133,.int .u16 101,.int .u16 160,.int .u16 5760,.int .u16 5600,.int .u16 8192,.int .u16 8202,.int .u16 1,.int .u16 8232,.int .u16 8233,.int .u16 1,.int .u16 8239,.int .u16 8287,.int .u16 48,.int .u16 12288,.int .u16 12288,.int .u16 1] 385,
  .cells #[.slice (some ⟨(World.settled Tryz.prog os).heap.size,0,none⟩) 7 7,.slice none 0 0,.int .i64 2] 382],#[],[]⟩
 {w0 with heap:=(w0.heap.modify 0 fun
   | .cells _ t frozen=>.cells (Lib.asciiSpaceTab.map fun z=>Value.int .u8 z).toArray t frozen
   | o=>o).modify 1 fun
   | .cells _ t frozen=>.cells #[.pointer (some ⟨(World.settled Tryz.prog os).heap.size+1,0,none⟩)] t frozen
   | o=>o }
theorem qLg(os:Os)(args:Array Value):laidMet Tryz.prog [("unicode.White_Space",Rows.laid_unicode_White_Space),("strings.asciiSpace",Rows.laid_strings_asciiSpace)] ((laidWorld os).forCall (fun _ _=>0) ⟨#[],args,[]⟩).memory :=
 (LaidIn.of_run [0,1,(World.settled Tryz.prog os).heap.size,(World.settled Tryz.prog os).heap.size+1] 12 (by kernel_rfl) (by kernel_rfl) (by kernel_rfl) (by kernel_rfl)).met
end Go.Proofs.YtmeagdecjpknkaaGreatDoor
namespace Go.Proofs.YtmeagdecjpknkaaGreatDoor
open Go Go.Sx Go.Proofs Go.ChangeShapes Go.WideShapes Go.ChangeAt Go.RowKit
abbrev laid0:List (String×DataW Unit):=[("unicode.White_Space",Rows.laid_unicode_White_Space),("strings.asciiSpace",Rows.laid_strings_asciiSpace)]
theorem qHy{w:World}:laidMetH Tryz.prog laid0 w↔laidMet Tryz.prog laid0 w:=by
 rfl
theorem tab_laid{W:World}(h:laidMet Tryz.prog laid0 W):Tab (qBx W):=by
 obtain⟨ps,h1,h2,h3⟩:=h
 obtain⟨g,t,cs,fuel,p,q,hg,ht,hvar,hd,hrest,hps⟩:=h1
 obtain⟨g',t',cs',fuel',p',q',hg',ht',hvar',hd',hrest',hps'⟩:=hrest
 refine tab_of ?_
 unfold Lib.TabIs
 rw[hvar']
 have hgg:g'=0:=Option.some.inj (hg'.symm.trans (show Tryz.prog.globalNamed "strings.asciiSpace" = some 0 by kernel_rfl))
 subst hgg
 have htt:t'=365:=Option.some.inj (ht'.symm.trans (show (Tryz.prog.globals[0]?).map (·.type)=some 365 by kernel_rfl))
 subst htt
 have hdat:(Rows.laid_strings_asciiSpace:DataW Unit)=Lib.tabData .u8 Lib.asciiSpaceTab:=by kernel_rfl
 rw[hdat]at hd'
 rw[<- Lib.cells_of_tab (n:=256) (e:=5) Tryz.underlying365 Tryz.underlying5 (by kernel_rfl) (by kernel_rfl) hd']
theorem kept{W W':World}(h1:W'.os=W.os)(h2:W'.output=W.output)(hold:∀b,b<W.heap.size->W'.heap[b]?=W.heap[b]?)(may:MemPlace->Prop):W.keptBut W' may:=by
 refine⟨h1,h2,fun i hi=>?_⟩
 grind
theorem again_arg{H:Type}{enc:TypeId×Value->H}{t:TypeId}(hr:Tryz.prog.readableRec t=true)(hrow:t<Tryz.prog.types.size){W W':World}{v:Value}{d:DataW H}{ps:List MemPlace}(h:DataW.Trod enc Tryz.prog W 0 (fun _=>true) true t v d ps)
  (hold:∀b,b<W.heap.size->W'.heap[b]?=W.heap[b]?) (hlt:∀x∈ps,x.block<W.heap.size):DataW.Trod enc Tryz.prog W' 0 (fun b=>decide (b<W.heap.size)) true t v d ps :=
 WideElems.Trod_stays Tryz.laidOut hr hrow h (fun x hx=>by
  have:=hlt x hx
  cases x with
  | cell b o=>exact World.cell?_of_block (w:=W) (hold b this)
  | map b=>exact hold b this) (fun x hx=>by simp_all)
theorem wit{C:Checked}{os:Os}{f:FuncId}{fn:Func}{s:ChangeSpec}{conds:List PathCond}{apart:Bool}{X:World->Array Value->Prop}{H:Type}{enc:TypeId×Value->H}(w0:World)(args:Array Value)(fuel:Nat)(hos:w0.os=os)
  (hv:(w0.forCall (fun _ _=>0) ⟨#[],args,[]⟩).variablesRefB C.prog=true)
  (hr:((w0.forCall (fun _ _=>0) ⟨#[],args,[]⟩).heap.toList.drop C.prog.globals.size).take ((begin C.prog (fun _ _=>0) default).world.heap.size-C.prog.globals.size) =
   (begin C.prog (fun _ _=>0) default).world.heap.toList.drop C.prog.globals.size)
  (hok:Input.okWideB C.prog (w0.forCall (fun _ _=>0) ⟨#[],args,[]⟩) f ⟨#[],args,[]⟩=true)
  (hpre:s.preB enc C.prog fn conds apart (w0.forCall (fun _ _=>0) ⟨#[],args,[]⟩).memory args fuel=true)
  (hsz:s.sizedB enc C.prog fn apart (w0.forCall (fun _ _=>0) ⟨#[],args,[]⟩).memory args fuel=true)
  (hx:X (w0.forCall (fun _ _=>0) ⟨#[],args,[]⟩).memory args) :
  ∃(w:World) (tape:Tape) (i:Input),w.os=os/\(w.forCall tape i).Shaped C.prog/\i.vars=[]/\Input.okWide C.prog (w.forCall tape i) .any w.heap.size f i /\
   ((s.pre enc C.prog fn conds apart (w.forCall tape i).memory i.args/\X (w.forCall tape i).memory i.args)/\sizedMet enc C.prog fn (OpenSpec.ofChange s) apart (w.forCall tape i).memory i.args)/\({}:Assume).holds C.prog (lone (Frame.enter C.prog f i.args .normal) [] (w.forCall tape i)) :=
 ⟨w0,fun _ _=>0,⟨#[],args,[]⟩,hos,World.shaped_of_RefB hv hr,(Input.okWide_of_okWideB (base:=0) hok).1,(Input.okWide_of_okWideB hok).2,⟨⟨ChangeSpec.pre_of_preB hpre,hx⟩,sizedMet_of_sizedB hsz⟩,by
  grind [Assume.holds]⟩
theorem again_all{H:Type}{enc:TypeId×Value->H}{W W':World}(hold:∀b,b<W.heap.size->W'.heap[b]?=W.heap[b]?):∀{ts:List TypeId} {vs:List Value} {ds:List (DataW H)} {ps:List MemPlace},(∀t∈ts,Tryz.prog.readableRec t=true/\t<Tryz.prog.types.size) ->
  DataW.TrodAll enc Tryz.prog W 0 (fun _=>true) true ts vs ds ps->(∀x∈ps,x.block<W.heap.size)->DataW.TrodAll enc Tryz.prog W' 0 (fun b=>decide (b<W.heap.size)) true ts vs ds ps
 | [],_,_,_,_,h,_=>by
  obtain⟨rfl,rfl,rfl⟩:=trodAll_nil h
  rfl
 | t::ts,_,_,_,hr,h,hlt=>by
  obtain⟨v,vs,d,ds,p,q,rfl,rfl,rfl,h1,h2⟩:=trodAll_cons h
  exact⟨p,q,again_arg (hr t (by simp)).1 (hr t (by simp)).2 h1 hold (fun x hx=>hlt x (List.mem_append_left _ hx)),again_all hold (fun u hu=>hr u (by simp[hu])) h2 (fun x hx=>hlt x (List.mem_append_right _ hx)),rfl⟩
theorem trodAll_five{H:Type}{enc:TypeId×Value->H}{w:World}{a b c d e:TypeId}{args:Array Value}{ds:List (DataW H)}{ps:List MemPlace}(h:DataW.TrodAll enc Tryz.prog w 0 (fun _=>true) true [a,b,c,d,e] args.toList ds ps) :
  ∃v0 v1 v2 v3 v4 d0 d1 d2 d3 d4 p0 p1 p2 p3 p4,args=#[v0,v1,v2,v3,v4]/\ds=[d0,d1,d2,d3,d4]/\ps=p0++(p1++(p2++(p3++p4)))/\DataW.Trod enc Tryz.prog w 0 (fun _=>true) true a v0 d0 p0/\DataW.Trod enc Tryz.prog w 0 (fun _=>true) true b v1 d1 p1/\DataW.Trod enc Tryz.prog w 0 (fun _=>true) true c v2 d2 p2 /\
   DataW.Trod enc Tryz.prog w 0 (fun _=>true) true d v3 d3 p3/\DataW.Trod enc Tryz.prog w 0 (fun _=>true) true e v4 d4 p4:=by
 obtain⟨v0,vs,d0,ds',p,q,hargs,rfl,rfl,h0,hrest⟩:=trodAll_cons h
 obtain⟨v1,vs1,d1,ds1,p1,q1,rfl,rfl,rfl,h1,hrest⟩:=trodAll_cons hrest
 obtain⟨v2,vs2,d2,ds2,p2,q2,rfl,rfl,rfl,h2,hrest⟩:=trodAll_cons hrest
 obtain⟨v3,vs3,d3,ds3,p3,q3,rfl,rfl,rfl,h3,hrest⟩:=trodAll_cons hrest
 obtain⟨v4,vs4,d4,ds4,p4,q4,rfl,rfl,rfl,h4,hrest⟩:=trodAll_cons hrest
 obtain⟨rfl,rfl,rfl⟩:=trodAll_nil hrest
 exact⟨v0,v1,v2,v3,v4,d0,d1,d2,d3,d4,p,p1,p2,p3,p4,by grind,rfl,by simp,h0,h1,h2,h3,h4⟩
end Go.Proofs.YtmeagdecjpknkaaGreatDoor
namespace Go.Proofs.YtmeagdecjpknkaaGreatDoor
open Go Go.Sx Go.Proofs Go.ChangeShapes Go.WideShapes Go.ChangeAt Go.RowKit
section
variable{H:Type}{enc:TypeId×Value->H}{w:World}
theorem cl31:Tryz.prog.cellsOf 31=1:=by kernel_rfl
theorem gInts{m:Nat}{v:Value}(h:∃y,TR enc w m 31 [v]=some y):∃(s:Sl) (xs:List Int),v=.slice s.p s.n s.c/\qAc (qBx w) s 1 (xs.map qAf)/\∀x∈xs,inI x :=
 gSl (row:=qAf) (ok:=inI) Tryz.underlying31 cl3 (by decide) (fun _=>rfl) (fun m' _ cs x hx=>by
  obtain⟨n,rfl,hn⟩:=rd_int Tryz.underlying3 hx
  exact⟨n,rfl,hn⟩) h
theorem clCl:Tryz.prog.cellsOf 49=2:=by kernel_rfl
theorem rdCl{n:Nat}{cs:List Value}{x:DataW H×List MemPlace}(h:TR enc w n 49 cs=some x):∃(nm:ByteArray) (l:Sl) (xs:List Int),[Value.string nm,l.v]=cs/\qAc (qBx w) l 1 (xs.map qAf):=by
 obtain⟨hl,m,-,hs⟩:=qBK Tryz.underlying49 h
 obtain⟨a,b,rfl⟩:=len2 (hl.trans clCl)
 obtain⟨t,rfl⟩:=gS (at1 (hs 0 _ rfl) cl9 rfl)
 obtain⟨l,k,rfl,hr,-⟩:=gInts (at1 (hs 1 _ rfl) cl31 rfl)
 exact⟨t,l,k,rfl,hr⟩
end
end Go.Proofs.YtmeagdecjpknkaaGreatDoor
namespace Go.Proofs
open Go Go.Sx
attribute [local irreducible] Go.Sx.Tri
section
variable{V V0:Mem}{d:Ds}{m:Mm}{F:Nat}{nm:ByteArray}{args:List Int}{l:Sl}
theorem good_lens(G:qAv d m):m.globals.length<=2147483648/\m.nodes.length<=4096/\∀n∈m.nodes,n.f.length<=2147483648:=by
 obtain⟨p1,p2,p3,p4,p5⟩:=qAj G.mem
 have h12:=lens12 G.valid
 refine⟨by grind [qAG],p2,fun n hn=>?_⟩
 have:=(qAG.1 (p5 n hn)).1
 have hty:=of_decide_eq_true (p3 n hn)
 obtain⟨j,hj⟩:∃j:Nat,n.ty=(j:Int):=⟨n.ty.toNat,by omega⟩
 have hjl:j<d.types.length:=by omega
 have hx:=List.getElem?_eq_getElem hjl
 rw[hj,qAS hx rfl]at this
 grind
end
section
variable{V V0:Mem}{d:Ds}{m:Mm}{nm:ByteArray}{args:List Int}{l:Sl}
theorem given_fuel{F:Int}(h:qAN d m F=0):0<=F/\F<=1048576:=by
 grind [qAN]
end
def rsS(s:St):St:=⟨s.g,s.ns,0,0,[]⟩
abbrev O4:=Int×Int×Nat×Nat
def oRow(o:O4):List Value:=qEt o.1 o.2.1 o.2.2.1 o.2.2.2
def outO(r:Rx Int):O4:=(outC r,outV r,r.st.cm,qBa r.st.lg)
structure Cl2 where
 name:ByteArray
 sl:Sl
 args:List Int
def Cl2.row(c:Cl2):List Value:=[.string c.name,c.sl.v]
structure Cls.Ok (V:Mem) (l:Sl) (cs:List Cl2):Prop where
 rows:qAc V l 2 (cs.map Cl2.row)
 args:∀c∈cs,qAc V c.sl 1 (c.args.map qAf)
theorem Cls.Ok.sub{V V':Mem}{l:Sl}{cs:List Cl2}(h:Cls.Ok V l cs)(hs:V.sub V'):Cls.Ok V' l cs:=⟨h.rows.sub hs,fun c hc=>(h.args c hc).sub hs⟩
section
variable(d:Ds)(F:Nat)
def qBA(c:Cl2)(s:St):Rx Int:=qCo d F (qDr d c.name) c.args s
def scE:St->List Cl2->Int
 | _,[]=>0
 | s,c::cs=>if qCH d s.mm c.name c.args=0 then scE (rsS (qBA d F c s).st) cs else qCH d s.mm c.name c.args
def scO:St->List Cl2->List O4
 | _,[]=>[]
 | s,c::cs=>outO (qBA d F c s)::scO (rsS (qBA d F c s).st) cs
def scS:St->List Cl2->St
 | s,[]=>s
 | s,c::cs=>scS (rsS (qBA d F c s).st) cs
end
noncomputable def scrE(d:Ds)(F:Int)(m:Mm)(cs:List Cl2):Int:=if qAN d m F=0 then (if 2000<cs.length then 4 else scE d F.toNat (qCd m) cs) else qAN d m F
theorem loop6{V:Mem}{B:Sl->Sl->Sl->Int->Sl->Int->Mem->(List Value->Mem->Prop)->Prop}{a0 b0 x0:Sl}{y0:Int}{c0:Sl}(len:Nat)(St:Nat->Sl->Sl->Sl->Mem->Prop)(h0:St 0 a0 b0 c0 V)
  (step:∀(i:Nat) (a b x:Sl) (y:Int) (c:Sl) V1 J,i<=len->St i a b c V1->(i<len->∀(a' b' x':Sl) (y':Int) (c':Sl) V2,St (i+1) a' b' c' V2->J [.slice a'.p a'.n a'.c,.slice b'.p b'.n b'.c,.slice x'.p x'.n x'.c,.int .i64 y',.slice c'.p c'.n c'.c,.int .i64 ((i:Int)+1)] V2)->B a b x y c (i:Int) V1 J) :
  ∃(I:Nat->List Value->Mem->Prop) (n0:Nat),I n0 [.slice a0.p a0.n a0.c,.slice b0.p b0.n b0.c,.slice x0.p x0.n x0.c,.int .i64 y0,.slice c0.p c0.n c0.c,.int .i64 0] V/\∀n V1,∀(a b x:Sl) (y:Int) (c:Sl) (v:Int),I n [.slice a.p a.n a.c,.slice b.p b.n b.c,.slice x.p x.n x.c,.int .i64 y,.slice c.p c.n c.c,.int .i64 v] V1->∀J:List Value->Mem->Prop,(∀m ys V'',m<n->I m ys V''->J ys V'')->B a b x y c v V1 J:=by
 refine⟨LI len fun i xs V=>∃(a b x:Sl) (y:Int) (c:Sl),xs=[.slice a.p a.n a.c,.slice b.p b.n b.c,.slice x.p x.n x.c,.int .i64 y,.slice c.p c.n c.c,.int .i64 i]/\St i a b c V,len,LI.start ⟨a0,b0,x0,y0,c0,rfl,h0⟩,?_⟩
 rintro n V1 a b x y c v ⟨i,rfl,hi,a',b',x',y',c',hx,hs⟩ J hJ
 simp only[List.cons.injEq,Value.int.injEq,true_and,and_true]at hx
 obtain⟨h1,h2,h3,rfl,h5,rfl⟩:=hx
 cases qBc _ _ h1
 cases qBc _ _ h2
 cases qBc _ _ h5
 exact step i _ _ _ _ _ V1 J hi hs fun hlt a' b' x' y' c' V2 h2=>LI.next hJ hlt ⟨a',b',x',y',c',rfl,h2⟩
theorem app73:AppP 73 54 5 oRow:=appG Tryz.underlying73 (by kernel_rfl) (by kernel_rfl) (by kernel_rfl) (by kernel_rfl) (by kernel_rfl) (by decide) (by intro _;rfl) fun x u hu=>by simp only[oRow,qEt,List.mem_cons,List.not_mem_nil,or_false]at hu;rcases hu with rfl|rfl|rfl|rfl|rfl <;> rfl
theorem one_out{V:Mem}{b t:Nat}(o:O4)(h:V b=some (.cells (oRow o).toArray t (0,0))):qAc V ⟨some ⟨b,0,none⟩,1,1⟩ 5 ([o].map oRow) :=
 qAc.cells (xs:=[o]) (row:=oRow) h rfl (fun _=>rfl) rfl (by simp)
section
variable{V V0:Mem}{d:Ds}{F:Nat}{m:Mm}{l:Sl}{cs:List Cl2}
theorem qLa{s:St}{a b:Sl}{nd:List Nd}(h:nd.map (fun n=>(n.ty,n.f))=s.ns):(⟨a,s.g,b,nd⟩:Mm).plain=s.mm.plain:=by
 grind [St.plain,Mm.plain]
theorem lay_rs{W V:Mem}{gs ns ls:Sl}{nd:List Nd}{s:St}(L:Lay W V gs ns ls nd s):Lay W V gs ns qAC nd (rsS s):=⟨L.glob,L.nodes,Own.nil L.sub _ _,L.fld,L.eq,L.gf,L.ff⟩
theorem st_eta{s:St}(h:s=rsS s){a b:Sl}{nd:List Nd}(he:nd.map (fun n=>(n.ty,n.f))=s.ns):qCd ⟨a,s.g,b,nd⟩=s:=by
 grind [qCd,rsS]
def ScrP(V:Mem)(d:Ds)(F:Int)(m:Mm)(cs:List Cl2):Ending->Mem->Prop:=fun e V'=>V.sub V' /\
 ((scrE d F m cs≠0/\e=.returned (.tuple #[qAC.v,.agg #[qAC.v,qAC.v],.int .i64 (scrE d F m cs)])) ∨
 (scrE d F m cs=0/\∃(o a b:Sl) (nd:List Nd),qAc V' o 5 ((scO d F.toNat (qCd m) cs).map oRow)/\Mm.Ok V' ⟨a,(scS d F.toNat (qCd m) cs).g,b,nd⟩/\nd.map (fun n=>(n.ty,n.f))=(scS d F.toNat (qCd m) cs).ns/\qAv d (scS d F.toNat (qCd m) cs).mm/\e=.returned (.tuple #[o.v,.agg #[a.v,b.v],.int .i64 0])))
structure At (d:Ds) (F:Nat) (s0:St) (cs:List Cl2) (j:Nat) (outs:List O4) (s:St):Prop where
 err:scE d F s0 cs=scE d F s (cs.drop j)
 out:scO d F s0 cs=outs++scO d F s (cs.drop j)
 st:scS d F s0 cs=scS d F s (cs.drop j)
 len:outs.length=j
 rs:s=rsS s
 good:qAv d s.mm
theorem At.start{s:St}(h:s=rsS s)(G:qAv d s.mm):At d F s cs 0 [] s:=⟨by rfl,by rfl,by rfl,rfl,h,G⟩
theorem At.next{s0 s:St}{j:Nat}{outs:List O4}{c:Cl2}(h:At d F s0 cs j outs s)(hc:cs.drop j=c::cs.drop (j+1))(h0:qCH d s.mm c.name c.args=0)(hg:qAv d (qBA d F c s).st.mm):At d F s0 cs (j+1) (outs++[outO (qBA d F c s)]) (rsS (qBA d F c s).st):=by
 have e1:=h.err
 have e2:=h.out
 have e3:=h.st
 rw[hc]at e1 e2 e3
 refine⟨?_,?_,e3,by rw[List.length_append,h.len];rfl,rfl,⟨hg.valid,hg.chk,hg.mem⟩⟩
 ·grind [scE]
 ·rw[e2,scO];simp
theorem At.stop{s0 s:St}{j:Nat}{outs:List O4}{c:Cl2}(h:At d F s0 cs j outs s)(hc:cs.drop j=c::cs.drop (j+1))(h0:qCH d s.mm c.name c.args≠0):scE d F s0 cs=qCH d s.mm c.name c.args:=by
 rw[h.err,hc,scE,if_neg h0]
theorem scr_zero{F:Int}(h:scrE d F m cs=0):qAv d m:=by
 grind [scrE,qCO]
theorem c33[Tab V](hd:Ds.Ok V d)(hm:Mm.Ok V m)(hcs:Cls.Ok V l cs){F:Int}(hF:F<=3000∨1048576<F):Tri Tryz.prog 33 #[d.v,m.v,l.v,.int .i64 F] V (ScrP V d F m cs):=by
 refine x33 (R:=ScrP V d F m cs) ?_
 unfold w33
 have hln:=hcs.rows.n_eq
 have bad:∀{k:Int} {V':Mem},scrE d F m cs=k->k≠0->V.sub V'->ScrP V d F m cs (.returned (.tuple #[qAC.v,.agg #[qAC.v,qAC.v],.int .i64 k])) V':=fun h hk hs=>⟨hs,.inl ⟨by rw[h];exact hk,by rw[h]⟩⟩
 refine(c71 hd hm).call ⟨_,rfl,fun h0=>⟨fun hl=>?_,fun hl=>?_⟩,fun h0=>?_⟩
 ·exact bad (by grind [scrE]) (by decide) (Mem.sub.refl _)
 rotate_left
 ·exact bad (by grind [scrE]) h0 (Mem.sub.refl _)
 have hl:¬(2000:Int)<(l.n:Int):=hl
 have G:=qCO h0
 have hf:=given_fuel h0
 obtain⟨n,rfl⟩:∃n:Nat,F=(n:Int):=⟨F.toNat,by omega⟩
 have hsc:scrE d (n:Int) m cs=scE d n (qCd m) cs:=by grind [scrE]
 obtain⟨l1,l2,l3⟩:=good_lens G
 refine Tri.mono (c72 hm l1 l2 l3) ?_
 rintro _ V1 ⟨gs,ns,nd,rfl,L⟩
 refine⟨gs,ns,rfl,loop6 (x0:=qAC) (y0:=0) (c0:=qAC) cs.length (fun j a b o V2=>∃W outs s nd,V.sub W/\Sx.Own V W 54 5 o (outs.flatMap oRow)/\Lay W V2 a b qAC nd s/\At d n (qCd m) cs j outs s) ⟨V,[],qCd m,nd,Mem.sub.refl _,Own.nil (Mem.sub.refl _) _ _,L,.start rfl (qLl G)⟩ ?_⟩
 rintro j a b x y o V2 J hj ⟨W,outs,s,nd,hW,ho,L,A⟩ hJ
 have hc2:=hcs.sub (hW.trans L.sub)
 refine⟨fun hlt=>?_,fun hge=>?_⟩
 ·obtain⟨c,hcm,hc,hdr,hjl,hp,hz,hrow⟩:=hc2.rows.get hlt
  have hst:=st_eta (a:=a) (b:=b) A.rs L.eq
  have Gm:qAv d ⟨a,s.g,b,nd⟩:=⟨A.good.valid,A.good.chk,qDW (qLa L.eq).symm A.good.mem⟩
  have hmk:=(qIP (hd.sub hW) L A.good).1
  have hcl:qCH d ⟨a,s.g,b,nd⟩ c.name c.args=qCH d s.mm c.name c.args:=qHj (qLa L.eq)
  refine⟨hp,hz,hlt,_,_,hrow,Tri.mono (c73 (F:=n) (m:=⟨a,s.g,b,nd⟩) ⟨hd.sub hW,G.valid,qHU G.valid G.chk,by omega⟩ (by grind) hmk Gm ((hcs.args c hcm).sub hW)) ?_⟩
  rintro e V3 (⟨hk,s3,rfl⟩|⟨hk,p,cc,r,hr,M,rfl⟩)
  ·rw[hcl]at hk ⊢
   exact⟨_,_,_,_,_,_,_,rfl,fun h=>absurd h hk,fun _=>bad (hsc.trans (A.stop hdr hk)) hk (hW.trans (L.sub.trans s3))⟩
  ·rw[hcl]at hk
   rw[hst]at hr
   have hr:r=qBA d n c s:=hr
   refine⟨_,_,_,_,_,_,_,rfl,fun _ tb htb=>?_,fun h=>absurd rfl h⟩
   have ho3:Sx.Own V V3 54 5 o (outs.flatMap oRow):=Own.moveB ho (hW.trans M.sub) fun g cur _ hg=>M.sub _ _ hg
   refine app73 (s:=o) (u:=⟨some ⟨tb,0,none⟩,1,1⟩) (xs:=outs) (ys:=[outO r]) rfl rfl (ho3.but.new htb (.cells (oRow (outO r)).toArray 54 (0,0))) (one_out (outO r) mss) (by have:=A.len;simp;omega) fun o4 V4 ho4=>⟨o4,rfl,?_⟩
   obtain⟨W',hW',M4,ho5⟩:=M.beside hW ho ho4
   obtain⟨gs4,ns4,ls4,nd4,hat,L4⟩:=M4.ex
   have hgd:qAv d (qBA d n c s).st.mm:=by
    have:=qIH (F:=n) Gm (by rw[hcl];exact hk)
    simp_all
   have A':=A.next hdr hk hgd
   rw[<- hr]at A'
   exact⟨nn,nn,gs4,ns4,qAe hat 8 2 (by simp[qBT]),hc2.rows.succ hlt,hJ hjl _ _ _ _ _ _ ⟨W',_,_,nd4,hW',ho5,lay_rs L4,A'⟩⟩
 ·have hdn:=(hc2.rows.done hge).2
  have e1:=A.err
  have e2:=A.out
  have e3:=A.st
  rw[List.drop_eq_nil_of_le hdn]at e1 e2 e3
  have e1:scE d n (qCd m) cs=0:=e1
  have e2:scO d n (qCd m) cs=outs:=by rw[e2];simp[scO]
  have e3:scS d n (qCd m) cs=s:=e3
  refine⟨hW.trans L.sub,.inr ⟨hsc.trans e1,o,a,b,nd,?_,?_,?_,?_,rfl⟩⟩
  ·show qAc V2 o 5 ((scO d n (qCd m) cs).map oRow)
   rw[e2];exact(ho.rows (fun _=>rfl) (by decide)).sub L.sub
  ·show Mm.Ok V2 ⟨a,(scS d n (qCd m) cs).g,b,nd⟩
   rw[e3];exact(qIP (hd.sub hW) L A.good).1
  ·show _=(scS d n (qCd m) cs).ns
   rw[e3];exact L.eq
  ·show qAv d (scS d n (qCd m) cs).mm
   rw[e3];exact A.good
end
end Go.Proofs
namespace Go.Proofs.YtmeagdecjpknkaaGreatDoor
open Go Go.Sx Go.Proofs Go.ChangeShapes Go.WideShapes Go.ChangeAt Go.RowKit
set_option maxRecDepth 100000 in
theorem cls_of{H:Type}{enc:TypeId×Value->H}{W W':World}{r:Reach}{b0:Nat}{v:Value}{d0:DataW H}{p:List MemPlace}(hval:Value.okWide Tryz.prog W' r b0 71 v)(h:DataW.Trod enc Tryz.prog W 0 (fun _=>true) true 71 v d0 p):∃(l:Sl) (cs:List Cl2),v=l.v/\Cls.Ok (qBx W) l cs:=by
 obtain⟨a,len,cap,rfl⟩:=okWide_slice Tryz.underlying71 hval
 obtain⟨fuel,h⟩:=h
 have h:∃y,TR enc W fuel 71 [.slice a len cap]=some y:=⟨_,h⟩
 obtain⟨s,cs,hs,hr,hk⟩:=gSl (row:=Cl2.row) (ok:=fun c:Cl2=>qAc (qBx W) c.sl 1 (c.args.map qAf)) Tryz.underlying71 clCl (by decide) (fun _=>rfl) (fun m' _ cs x hx=>by
  obtain⟨nm,l,xs,hm,hok⟩:=rdCl hx
  exact⟨⟨nm,l,xs⟩,hm,hok⟩) h
 exact⟨s,cs,hs,hr,hk⟩
end Go.Proofs.YtmeagdecjpknkaaGreatDoor
namespace Go.Proofs.YtmeagdecjpknkaaGreatDoor
open Go Go.Sx Go.Proofs Go.ChangeShapes Go.WideShapes Go.ChangeAt Go.RowKit
end Go.Proofs.YtmeagdecjpknkaaGreatDoor
namespace Go.Proofs
open Go Go.Sx
end Go.Proofs
namespace Go.Proofs
open Go Go.Sx
mutual
def eEr:E->E | .mk o n s _ k=>.mk o n s qAC (qFL k)
def qFL:List E->List E | []=>[] | x::xs=>eEr x::qFL xs
end
mutual
def sEr:S->S | .mk o s _ es _ ls _ xs=>.mk o s qAC (qFL es) qAC (qGI ls) qAC (qGI xs)
def qGI:List S->List S | []=>[] | x::xs=>sEr x::qGI xs
end
def tEr(t:Ty):Ty:=⟨t.name,qAC,t.fields⟩
def pEr(p:Pr):Pr:=⟨p.name,qAC,p.params,p.result,qAC,p.locals,qAC,qGI p.body⟩
def dEr(d:Ds):Ds:=⟨d.name,qAC,d.types.map tEr,qAC,d.globals,qAC,d.procs.map pEr,qAC,[],qAC,[],qAC,[],qAC,[]⟩
theorem qDo:∀l:List E,qFL l=l.map eEr
 | []=>by unfold qFL;rfl
 | x::xs=>by unfold qFL;rw[qDo xs];rfl
theorem qHT:∀l:List S,qGI l=l.map sEr
 | []=>by unfold qGI;rfl
 | x::xs=>by unfold qGI;rw[qHT xs];rfl
theorem eErs_len(l:List E):(qFL l).length=l.length:=by rw[qDo,List.length_map]
theorem sErs_len(l:List S):(qGI l).length=l.length:=by rw[qHT,List.length_map]
mutual
theorem okE_er:∀(k:Int) (e:E),okE k (eEr e)=okE k e
 | k,.mk o n s _ l=>by unfold eEr okE;rw[eErs_len,okEs_er]
theorem okEs_er:∀(k:Int) (l:List E),okEs k (qFL l)=okEs k l
 | _,[]=>by unfold qFL;rfl
 | k,x::xs=>by unfold qFL okEs;rw[okE_er,okEs_er]
end
mutual
theorem szE_er:∀e:E,szE (eEr e)=szE e
 | .mk o n s _ l=>by unfold eEr szE;rw[szEs_er]
theorem szEs_er:∀l:List E,szEs (qFL l)=szEs l
 | []=>by unfold qFL;rfl
 | x::xs=>by unfold qFL szEs;rw[szE_er,szEs_er]
end
theorem validE_er(e:E):qAJ (eEr e)=qAJ e:=by unfold qAJ;rw[okE_er,szE_er]
theorem fop_er:∀l:List E,fop (qFL l)=fop l
 | []=>by unfold qFL;rfl
 | .mk o n s _ l::xs=>by rfl
theorem shapeR_er(op:Int)(s:ByteArray)(es:List E)(nl nx:Int):qBI op s (qFL es) nl nx=qBI op s es nl nx:=by
 unfold qBI qGe
 have:(qFL es).all qAJ=es.all qAJ:=by
  rw[qDo,List.all_map]
  simp_all [congrArg,funext,validE_er]
 rw[eErs_len,fop_er,this]
mutual
theorem okS_er:∀(k:Int) (e:S),okS k (sEr e)=okS k e
 | k,.mk o s _ es _ ls _ xs=>by unfold sEr okS;rw[sErs_len,sErs_len,shapeR_er,qKZ,qKZ]
theorem qKZ:∀(k:Int) (l:List S),qGJ k (qGI l)=qGJ k l
 | _,[]=>by unfold qGI;rfl
 | k,x::xs=>by unfold qGI qGJ;rw[okS_er,qKZ]
end
mutual
theorem szS_er:∀e:S,szS (sEr e)=szS e
 | .mk o s _ es _ ls _ xs=>by unfold sEr szS;rw[qKE,qKE]
theorem qKE:∀l:List S,qFZ (qGI l)=qFZ l
 | []=>by unfold qGI;rfl
 | x::xs=>by unfold qGI qFZ;rw[szS_er,qKE]
end
theorem qGF{α β:Type}{f:α->β}{p:β->Bool}{q:α->Bool}(l:List α)(h:∀x,p (f x)=q x):(l.map f).all p=l.all q:=by
 grind
theorem qLA{α β:Type}{f:α->β}{p:β->Bool}{q:α->Bool}(l:List α)(h:∀x,p (f x)=q x):(l.map f).any p=l.any q:=by
 grind
theorem idx_map{α β:Type}{f:α->β}{p:β->Bool}{q:α->Bool}(l:List α)(h:∀x,p (f x)=q x):qIa p (l.map f)=qIa q l:=by
 unfold qIa
 have e:p ∘ f=q:=funext h
 simp_all
theorem find_map'{α β:Type}{f:α->β}{p:β->Bool}{q:α->Bool}(l:List α)(h:∀x,p (f x)=q x):(l.map f).find? p=(l.find? q).map f:=by
 rw[List.find?_map]
 have e:p ∘ f=q:=funext h
 rw[e]
theorem qEO{α β γ:Type}{f:α->β}{p:Nat->β->Option γ}{q:Nat->α->Option γ}:∀(l:List α) (i:Nat),(∀j x,p j (f x)=q j x)->qAh p i (l.map f)=qAh q i l
 | [],_,_=>rfl
 | x::l,i,h=>by
  unfold List.map qAh
  rw[h,qEO l (i+1) h]
theorem tyB_er(t:Ty):tyB (tEr t)=tyB t:=rfl
theorem prB_er(p:Pr):prB (pEr p)=prB p:=by
 unfold prB qEu
 show (qAT p.name&&qDg p.params 6&&qDg p.locals 12&&(decide (p.result=qAm [])||typB p.result)&&decide (qGJ 1 (qGI p.body)=true/\qFZ (qGI p.body)<=200))=_
 rw[qKZ,qKE]
section
variable(d:Ds)
theorem valid_er(h:qAB d=true):qAB (dEr d)=true:=by
 unfold qAB at h ⊢
 simp only[Bool.and_eq_true,decide_eq_true_eq]at h ⊢
 refine⟨⟨⟨⟨⟨⟨⟨h.1.1.1.1.1.1.1,?_⟩,h.1.1.1.1.1.2⟩,?_⟩,rfl⟩,?_⟩,?_⟩,rfl⟩
 ·have:=h.1.1.1.1.1.1.2
  show ((d.types.map tEr).length:Int)<=12
  simp_all
 ·have:=h.1.1.1.1.2
  show ((d.procs.map pEr).length:Int)<=40
  simp_all
 ·show (d.types.map tEr).all tyB=true
  grind [qGF,tyB_er]
 ·show (d.procs.map pEr).all prB=true
  rw[qGF _ prB_er];exact h.1.2
theorem valid_re(h:qAB (dEr d)=true)(h1:d.measures=[])(h2:d.invs=[])(h3:d.pots=[])(h4:d.bounds=[]):qAB d=true:=by
 unfold qAB at h ⊢
 simp only[Bool.and_eq_true,decide_eq_true_eq]at h ⊢
 refine⟨⟨⟨⟨⟨⟨⟨h.1.1.1.1.1.1.1,?_⟩,h.1.1.1.1.1.2⟩,?_⟩,?_⟩,?_⟩,?_⟩,?_⟩
 ·grind [dEr,tEr]
 ·grind [dEr,pEr]
 ·grind [lensB]
 ·have:=h.1.1.2
  rw[show (dEr d).types=d.types.map tEr from rfl,qGF _ tyB_er]at this;exact this
 ·have:=h.1.2
  rw[show (dEr d).procs=d.procs.map pEr from rfl,qGF _ prB_er]at this;exact this
 grind [qJI]
theorem qJa(s:ByteArray):qAZ (dEr d) s=qAZ d s:=qLA (f:=tEr) _ fun _=>rfl
theorem qLh(s:ByteArray):qBf (dEr d) s=qBf d s:=by unfold qBf;rw[qJa]
theorem fits_er(a b:ByteArray):qDy (dEr d) a b=qDy d a b:=by unfold qDy;rw[qJa]
theorem tyOf_er(s:ByteArray):qJC (dEr d) s=(qJC d s).map tEr:=find_map' (f:=tEr) _ fun _=>rfl
theorem prOf_er(s:ByteArray):qFm (dEr d) s=(qFm d s).map pEr:=find_map' (f:=pEr) _ fun _=>rfl
theorem fieldT_er(t n:ByteArray):qBX (dEr d) t n=qBX d t n:=by
 unfold qBX
 rw[tyOf_er]
 cases qJC d t <;> rfl
theorem fitAll_er:∀(l:List ByteArray) (fs:List Fld),qCk (dEr d) l fs=qCk d l fs
 | a::l,f::fs=>by unfold qCk;rw[fits_er,fitAll_er]
 | [],_=>by simp[qCk]
 | _::_,[]=>by simp[qCk]
theorem callT_er(n:ByteArray)(l:List ByteArray):qFp (dEr d) n l=qFp d n l:=by
 unfold qFp
 rw[prOf_er]
 cases qFm d n with
 | none=>rfl
 | some p =>
  show (if l.length≠p.params.length then _ else if qCk (dEr d) l p.params=true then _ else _)=_
  rw[fitAll_er];rfl
theorem nodeT_er{sc:Sc}(hb:sc.body=true)(op:Int)(s:ByteArray)(l:List ByteArray):qFD (dEr d) sc op s l=qFD d sc op s l:=by
 unfold qFD qHN
 rw[if_pos hb,if_pos hb]
 simp only[fieldT_er,qJa,callT_er,fits_er]
mutual
theorem exprT_er{sc:Sc}(hb:sc.body=true):∀e:E,qAr (dEr d) sc (eEr e)=qAr d sc e
 | .mk o n s _ k=>by unfold eEr qAr;rw[qGk hb,nodeT_er d hb]
theorem qGk{sc:Sc}(hb:sc.body=true):∀(acc:List ByteArray) (l:List E),partsT (dEr d) sc acc (qFL l)=partsT d sc acc l
 | _,[]=>by rfl
 | acc,x::xs=>by unfold qFL partsT;rw[exprT_er hb,qGk hb]
end
theorem stmtT_er{sc:Sc}(hb:sc.body=true)(r:ByteArray)(op:Int)(s:ByteArray)(es:List E):qEw (dEr d) sc r op s (qFL es)=qEw d sc r op s es:=by
 unfold qEw
 rw[qGk d hb]
 simp only[fits_er,fieldT_er]
 congr 1
 match es with
 | []=>unfold qFL;rfl
 | .mk o n s _ k::es =>
  grind [qFL,eEr,E.k,E.s,qGk,callT_er]
mutual
theorem stT_er{sc:Sc}(hb:sc.body=true)(r:ByteArray):∀(n:Int) (e:S),stT (dEr d) sc r n (sEr e)=stT d sc r n e
 | n,.mk o s _ es _ ls _ xs=>by
  unfold sEr stT
  rw[stmtT_er d hb,qKF hb r (n+1) ls,qKF hb r _ xs]
theorem qKF{sc:Sc}(hb:sc.body=true)(r:ByteArray):∀(n:Int) (l:List S),qBH (dEr d) sc r n (qGI l)=qBH d sc r n l
 | _,[]=>by rfl
 | n,x::xs=>by unfold qGI qBH;rw[stT_er hb,qKF hb]
end
theorem oneT_er(l:List Fld)(i:Nat)(f:Fld):qEq (dEr d) l i f=qEq d l i f:=by unfold qEq;rw[qLh]
theorem declT_er(l:List Fld):qCm (dEr d) l=qCm d l:=by
 grind [qCm,oneT_er]
theorem types_er:qFq (dEr d)=qFq d:=by
 unfold qFq
 congr 1
 ·unfold types1
  refine qEO (f:=tEr) d.types 0 fun j x=>?_
  rw[show (dEr d).types=d.types.map tEr from rfl,<- List.map_take,qLA (f:=tEr) (q:=fun g=>decide (g.name=x.name)) _ fun _=>rfl]
  rfl
 congr 1
 ·grind [types2,qEO,tEr,qCm,dEr,Int,declT_er]
 ·unfold types3
  simp only[oneT_er]
  rfl
theorem heads_er:qEp (dEr d)=qEp d:=by
 unfold qEp
 refine qEO (f:=pEr) d.procs 0 fun j x=>?_
 rw[show (dEr d).procs=d.procs.map pEr from rfl,<- List.map_take,qLA (f:=pEr) (q:=fun g=>decide (g.name=x.name)) _ fun _=>rfl,declT_er,qLh]
 rfl
theorem bodies_er:qCt (dEr d)=qCt d:=by
 unfold qCt
 refine qEO (f:=pEr) d.procs 0 fun j x=>?_
 show (if (qBH (dEr d) (qAn d x) x.result 0 (qGI x.body)).2≠0 then some (x.name,(qBH (dEr d) (qAn d x) x.result 0 (qGI x.body)).1,(qBH (dEr d) (qAn d x) x.result 0 (qGI x.body)).2) else none)=_
 rw[qKF d rfl]
theorem qDm{α:Type}{a b:Option α}:a.or b=none↔a=none/\b=none:=by cases a <;> simp
theorem chk_er(h:qHD d=none):qHD (dEr d)=none:=by
 unfold qHD at h ⊢
 rw[qDm,qDm,qDm,qDm]at h
 rw[types_er,heads_er,bodies_er,h.1,h.2.1,h.2.2.2.1]
 rfl
theorem chk_re(h:qHD (dEr d)=none)(h1:d.measures=[])(h2:d.invs=[])(h3:d.pots=[])(h4:d.bounds=[]):qHD d=none:=by
 unfold qHD at h ⊢
 rw[qDm,qDm,qDm,qDm,types_er,heads_er,bodies_er]at h
 rw[h.1,h.2.1,h.2.2.2.1]
 have e1:qEs d=none:=by unfold qEs form1 form2 form3 form4;rw[h1,h2,h3,h4];rfl
 have e2:qHd d=none:=by unfold qHd exp1 exp2 exp3 exp4;rw[h1,h2,h3,h4];rfl
 rw[e1,e2];rfl
theorem idxT_er(s:ByteArray):qDx (dEr d) s=qDx d s:=idx_map (f:=tEr) _ fun _=>rfl
theorem qDO(t:Int):qAq (dEr d) t=qAq d t:=by
 unfold qAq
 rw[show (dEr d).types=d.types.map tEr from rfl,List.getElem?_map,Option.map_map];rfl
theorem right_er(m:Mm)(t:ByteArray)(v:Int):qAw (dEr d) m t v=qAw d m t v:=by unfold qAw;rw[idxT_er]
theorem values_er(m:Mm)(l:List Fld)(vs:List Int):qAi (dEr d) m l vs=qAi d m l vs:=by unfold qAi;simp only[right_er]
theorem typed_er(l:List Fld):qBE (dEr d) l=qBE d l:=by unfold qBE;simp only[qLh]
theorem has_er:(qBE (dEr d) (dEr d).globals&&allI (fun i t=>decide (qDx (dEr d) t.name=(i:Int))&&qBE (dEr d) t.fields) (dEr d).types)=(qBE d d.globals&&allI (fun i t=>decide (qDx d t.name=(i:Int))&&qBE d t.fields) d.types):=by
 simp only[idxT_er,typed_er]
 congr 1
 unfold allI
 rw[show (dEr d).types=d.types.map tEr from rfl,List.zipIdx_map]
 exact qGF _ fun _=>rfl
theorem mem_er{d':Ds}(he:dEr d=dEr d')(hv:qAB d'=true){m:Mm}(h:qAu d m=true):qAu d' m=true:=by
 have key:∀x:Ds,qAu x m=(qAB x&&(qBE (dEr x) (dEr x).globals&&allI (fun i t=>decide (qDx (dEr x) t.name=(i:Int))&&qBE (dEr x) t.fields) (dEr x).types)&&(decide (m.nodes.length<=4096)&&m.nodes.all (fun n=>decide (0<=n.ty/\n.ty<((dEr x).types.length:Int)))&&qAi (dEr x) m (dEr x).globals m.globals&&m.nodes.all fun n=>qAi (dEr x) m (qAq (dEr x) n.ty) n.f)):=fun x=>by
  rw[has_er]
  simp only[values_er,qDO]
  rw[show (dEr x).types=x.types.map tEr from rfl,List.length_map]
  unfold qAu qJz
  simp only[Bool.and_assoc]
  rfl
 simp_all
end
structure qJw (d d':Ds):Prop where
 er:dEr d=dEr d'
 h1:d'.measures=[]
 h2:d'.invs=[]
 h3:d'.pots=[]
 h4:d'.bounds=[]
theorem qAv.same{d d':Ds}{m:Mm}(G:qAv d m)(h:qJw d d'):qAv d' m:=by
 have hv:=valid_re d' (h.er ▸ valid_er d G.valid) h.h1 h.h2 h.h3 h.h4
 exact⟨hv,chk_re d' (h.er ▸ chk_er d G.chk) h.h1 h.h2 h.h3 h.h4,mem_er d h.er hv G.mem⟩
section
variable(d:Ds)
theorem qKU(s:ByteArray):qDr (dEr d) s=qDr d s:=idx_map (f:=pEr) _ fun _=>rfl
theorem cllE_er(m:Mm)(nm:ByteArray)(l:List Int):qCH (dEr d) m nm l=qCH d m nm l:=by
 unfold qCH
 rw[qKU,show (dEr d).procs=d.procs.map pEr from rfl,List.getElem?_map]
 cases d.procs[(qDr d nm).toNat]? with
 | none=>rfl
 | some p =>
  show (if qDr d nm<0 then _ else if l.length=p.params.length then (if qAi (dEr d) m p.params l=true then _ else _) else _)=_
  rw[values_er]
theorem fldX_er(a:Int)(s:ByteArray)(st:St):fldX (dEr d) a s st=fldX d a s st:=by unfold fldX;simp only[qDO]
theorem newX_er(s:ByteArray)(st:St):newX (dEr d) s st=newX d s st:=by unfold newX;simp only[qDO,idxT_er]
theorem putX_er(a v:Int)(s:ByteArray)(st:St):putX (dEr d) a v s st=putX d a v s st:=by unfold putX;simp only[qDO]
theorem intB_er{sc:Sc}(hb:sc.body=true):∀l:List E,intB (dEr d) sc (qFL l)=intB d sc l
 | []=>by unfold qFL;rfl
 | x::xs=>by
  unfold qFL
  show decide ((qAr (dEr d) sc (eEr x)).1=qAV)=decide ((qAr d sc x).1=qAV)
  rw[exprT_er d hb]
theorem combX_er(C:Cf)(p:Pr)(vals:List Int)(b:Bool)(op n:Int)(s:ByteArray)(ks:List (St->Rx Int))(st:St):qDz (dEr d) C (pEr p) vals b op n s ks st=qDz d C p vals b op n s ks st:=by
 unfold qDz
 simp only[fldX_er,newX_er,qKU]
 rfl
mutual
theorem evX_er(C:Cf)(p:Pr)(vals:List Int):∀e:E,evX (dEr d) C (pEr p) vals (eEr e)=evX d C p vals e
 | .mk o n s _ k=>by
  unfold eEr evX
  funext st
  rw[combX_er,evXs_er C p vals k]
  show qDz d C p vals (intB (dEr d) (qAn d p) (qFL k)) o n s _ st=_
  rw[intB_er d rfl]
theorem evXs_er(C:Cf)(p:Pr)(vals:List Int):∀l:List E,evXs (dEr d) C (pEr p) vals (qFL l)=evXs d C p vals l
 | []=>by rfl
 | x::xs=>by unfold qFL evXs;rw[evX_er C p vals x,evXs_er C p vals xs]
end
theorem evX_er'(C:Cf)(p:Pr)(vals:List Int)(e:E)(st:St):evX (dEr d) C (pEr p) vals (eEr e) st=evX d C p vals e st:=congrFun (evX_er d C p vals e) st
theorem getD_er(l:List E)(i:Nat):(qFL l).getD i noE=eEr (l.getD i noE):=by
 rw[qDo,List.getD_eq_getElem?_getD,List.getD_eq_getElem?_getD,List.getElem?_map]
 grind [noE,eEr,qFL]
section
variable{Sn Sn':Sf}(hS:∀c p l vals st,Sn' c (pEr p) (qGI l) vals st=Sn c p l vals st)
include hS
theorem callX_er(c:Nat):qEl (dEr d) Sn' c=qEl d Sn c:=by
 funext i l st
 unfold qEl
 rw[show (dEr d).procs=d.procs.map pEr from rfl,List.getElem?_map]
 cases d.procs[i.toNat]? with
 | none=>rfl
 | some p =>
  show (if 200<=c then _ else (Sn' (c+1) (pEr p) (qGI p.body) _ st).bind _)=_
  rw[hS];rfl
theorem evS_er(c:Nat)(p:Pr)(vals:List Int)(e:E)(st:St):evS (dEr d) Sn' c (pEr p) vals (eEr e) st=evS d Sn c p vals e st:=by
 unfold evS
 rw[callX_er d hS,evX_er']
theorem whX_er(F c:Nat)(p:Pr)(e:E)(b:List S):∀(n:Nat) (vals:List Int) (st:St),whX (dEr d) F Sn' c (pEr p) (eEr e) (qGI b) n vals st=whX d F Sn c p e b n vals st
 | 0,_,_=>rfl
 | n+1,vals,st=>by
  unfold whX
  simp only[evS_er d hS,hS,whX_er F c p e b n]
theorem bodyX_er(F c:Nat)(p:Pr)(n:Nat)(s:S)(vals:List Int)(st:St):bodyX (dEr d) F Sn' c (pEr p) n (sEr s) vals st=bodyX d F Sn c p n s vals st:=by
 match s with
 | .mk o s _ es _ ls _ xs =>
  unfold sEr bodyX
  simp only[S.op,S.s,S.es,S.ls,S.xs,getD_er,evS_er d hS,hS,whX_er d hS,putX_er]
  cases es <;> simp only[qFL,evS_er d hS] <;> rfl
end
theorem stX_er{Sn Sn':Sf}(hS:∀c p l vals st,Sn' c (pEr p) (qGI l) vals st=Sn c p l vals st)(F c:Nat)(p:Pr)(n:Nat)(s:S)(vals:List Int)(st:St):stX (dEr d) F Sn' c (pEr p) n (sEr s) vals st=stX d F Sn c p n s vals st:=by
 grind [stX,bodyX_er]
theorem listX_er{f f':S->List Int->St->Rx Rt}(h:∀s vals st,f' (sEr s) vals st=f s vals st):∀(l:List S) (vals:List Int) (st:St),qHa f' (qGI l) vals st=qHa f l vals st
 | [],_,_=>by rfl
 | s::l,vals,st=>by
  unfold qGI qHa
  rw[h]
  simp only[listX_er h l]
theorem stsX_er(F:Nat):∀(n c:Nat) (p:Pr) (l:List S) (vals:List Int) (st:St),qGa (dEr d) F n c (pEr p) (qGI l) vals st=qGa d F n c p l vals st
 | 0,_,_,_,_,_=>rfl
 | n+1,c,p,l,vals,st=>listX_er (fun s vals st=>stX_er d (stsX_er F n) F c p (n+1) s vals st) l vals st
theorem playX_er(F:Nat)(i:Int)(l:List Int)(st:St):qCo (dEr d) F i l st=qCo d F i l st:=by
 simp_all [qCo,callX_er,stsX_er]
end
section
variable{d d':Ds}(h:qJw d d')
include h
theorem qJw.play(F:Nat)(i:Int)(l:List Int)(st:St):qCo d' F i l st=qCo d F i l st:=by rw[<- playX_er d,h.er,playX_er]
theorem qJw.cll(m:Mm)(nm:ByteArray)(l:List Int):qCH d' m nm l=qCH d m nm l:=by rw[<- cllE_er d,h.er,cllE_er]
theorem qJw.idx(s:ByteArray):qDr d' s=qDr d s:=by rw[<- qKU d,h.er,qKU]
theorem qJw.fields(t:Int):qAq d' t=qAq d t:=by rw[<- qDO d,h.er,qDO]
end
end Go.Proofs
