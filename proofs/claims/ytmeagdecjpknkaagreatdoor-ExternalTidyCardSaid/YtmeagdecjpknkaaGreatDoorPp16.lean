/- Part 16 of a proof of a law of this seat: no statement of the seat is proved here. -/
import Derived.Test.YtmeagdecjpknkaaGreatDoorPp12
import Derived.Test.YtmeagdecjpknkaaGreatDoorPp15
import Derived.Test.YtmeagdecjpknkaaGreatDoorPp11
import Derived.Test.YtmeagdecjpknkaaGreatDoorPp14
import Derived.DefersIn
import Derived.RecoverIn
import Derived.Test.YtmeagdecjpknkaaGreatDoorPp04
set_option linter.unusedVariables false
set_option linter.unusedSimpArgs false
namespace Go.Proofs
open Go Go.Sx
section
variable{d:Ds}{F F':Nat}
def Mm.plain(m:Mm):List Int×List (Int×List Int):=(m.globals,m.nodes.map fun n=>(n.ty,n.f))
def qCd(m:Mm):St:=⟨m.globals,m.nodes.map fun n=>(n.ty,n.f),0,0,[]⟩
theorem St.plain(s:St):s.mm.plain=(s.g,s.ns):=by
 unfold Mm.plain St.mm
 simp[Function.comp_def]
theorem qFc{m m':Mm}(h:m.plain=m'.plain){i:Nat}{x:Nd}(hx:m.nodes[i]?=some x):∃y,m'.nodes[i]?=some y/\y.ty=x.ty/\y.f=x.f:=by
 have h2:(m.nodes.map fun n=>(n.ty,n.f))=m'.nodes.map fun n=>(n.ty,n.f):=(Prod.mk.inj h).2
 have:(m'.nodes.map fun n=>(n.ty,n.f))[i]?=some (x.ty,x.f):=by grind
 simp_all
theorem qCV{m m':Mm}(h:m.plain=m'.plain):m.nodes.length=m'.nodes.length:=by
 have h2:(m.nodes.map fun n=>(n.ty,n.f))=m'.nodes.map fun n=>(n.ty,n.f):=(Prod.mk.inj h).2
 have:=congrArg List.length h2
 simpa using this
theorem qDW{m m':Mm}(h:m.plain=m'.plain)(hv:qAu d m=true):qAu d m'=true:=by
 obtain⟨p1,p2,p3,p4,p5⟩:=qAj hv
 have hl:=qCV h
 have hg:m.globals=m'.globals:=(Prod.mk.inj h).1
 have r:∀{t v},qAw d m t v=true->qAw d m' t v=true:=fun hr=>qGT (by omega) (fun i x hx=>by
  grind [qFc]) hr
 grind [qFW,qAo,List.mem_iff_getElem?,qFc,List.mem_of_getElem?,qDn]
theorem qEY(m:Mm):(qCd m).mm.plain=m.plain:=St.plain _
theorem qLl{m:Mm}(G:qAv d m):qAv d (qCd m).mm:=⟨G.valid,G.chk,qDW (qEY m).symm G.mem⟩
theorem qDY{m m':Mm}(h:m.plain=m'.plain){t:ByteArray}{v:Int}(hr:qAw d m t v=true):qAw d m' t v=true:=qGT (by rw[qCV h];omega) (fun i x hx=>by
 grind [qFc]) hr
def outC:Rx Int->Int | .ok _ _=>0 | .bad c _=>c
def outV:Rx Int->Int | .ok v _=>v | .bad _ _=>0
def qBa(l:List (Int×Int×Int)):Nat:=(l.filter fun a=>decide (0<a.2.1)).length
def alN(l:List (Int×Int×Int)):Nat:=(l.filter fun a=>decide (a.1=3)).length
theorem qIl(a:Int×Int×Int)(l:List (Int×Int×Int)):alN (a::l)=(if a.1=3 then 1 else 0)+alN l:=by
 grind [alN]
theorem qKu.len{n m:Nat}{l:List (Int×Int×Int)}(h:qKu n l m):m=n+alN l:=by
 induction h with
 | nil=>rfl
 | @acc n m k a f l hk _ _ _ _ ih=>rw[qIl,if_neg (by omega)];omega
 | alloc _ _ ih=>rw[qIl,if_pos rfl];omega
theorem qKu.at_{n m:Nat}{l:List (Int×Int×Int)}(h:qKu n l m):∀(i:Nat) a,l[i]?=some a->(a.1=1∨a.1=2∨a.1=3)/\(a.1=3->a.2.1=((n+alN (l.take i):Nat):Int)+1)/\(a.1≠3->a.2.1<=((n+alN (l.take i):Nat):Int))/\0<=a.2.1/\0<=a.2.2:=by
 induction h with
 | nil=>simp_all
 | @acc n m k x f l hk h0 h1 h2 _ ih =>
  intro i a hi
  cases i with
  | zero =>
   grind
  | succ i =>
   have:=ih i a (by simpa using hi)
   rwa [List.take_succ_cons,qIl,if_neg (by omega),Nat.zero_add]
 | @alloc n m f l h2 _ ih =>
  intro i a hi
  cases i with
  | zero =>
   simp only[List.getElem?_cons_zero,Option.some.injEq]at hi
   subst hi
   exact⟨.inr (.inr rfl),fun _=>rfl,fun h=>absurd rfl h,by grind,h2⟩
  | succ i =>
   have:=ih i a (by simpa using hi)
   rwa [List.take_succ_cons,qIl,if_pos rfl,<- Nat.add_assoc]
end
end Go.Proofs
namespace Go.Proofs
open Go Go.Sx
attribute [local irreducible] Go.Sx.Tri
theorem g174:IdxP 174 Nd.row Nd.v 2:=by
 intro V l xs g first caps hg St Hit hrows h0 hp
 refine x174 (a:=l) (b:=.func (.func g) first.toArray caps.toArray) ?_
 unfold w174
 refine qAD xs.length St h0 ?_
 intro i b V1 J hi hs hJ
 have h:=hrows i V1 hs
 refine⟨fun hlt=>?_,fun hge=>?_⟩
 ·obtain⟨x,hm,hx,hd,hl,hp0,hz,hrow⟩:=h.get hlt
  refine⟨hp0,hz,hlt,_,_,hrow,g,_,_,rfl,hg,Tri.mono (hp i x V1 hx hs) ?_⟩
  rintro e V2 ⟨b,rfl,h1,h2⟩
  exact⟨b,rfl,fun hb=>.inl ⟨i,rfl,h1 hb⟩,fun hb=>⟨h.succ hlt,hJ hl _ _ (h2 (by simpa using hb))⟩⟩
 ·have e:i=xs.length:=by have:=(h.done hge).2;omega
  simp_all
theorem g128:ConP 128 Nd.row Nd.v 2:=conG g174 x128
theorem c128:ConC 128 Nd.row Nd.v 2:=conC g128
theorem qFw(w:World):(zeroValue 3).run Tryz.prog w=.ok (.int .i64 0) w:=by kernel_rfl
def pmap(d:Ds)(i:Nat)(k:ByteArray):Option Value:=if 0<=qDx d k/\qDx d k<(i:Int) then some (.int .i64 (qDx d k)) else none
def tmap(d:Ds)(k:ByteArray):Option Value:=if qAZ d k=true then some (.int .i64 (qDx d k)) else none
section
variable{V:Mem}{d:Ds}{m:Mm}{b:Nat}
theorem idxT_le{i:Nat}{x:Ty}(hx:d.types[i]?=some x):0<=qDx d x.name/\qDx d x.name<=(i:Int):=by
 unfold qDx
 rcases qAI (fun t:Ty=>decide (t.name=x.name)) d.types with⟨-,-,h⟩|⟨j,y,h1,h2,-,h4,-,-,-,h5⟩
 ·grind
 ·rw[h1]
  refine⟨by omega,?_⟩
  have hji:¬i<j:=fun hlt=>by
   have:=List.any_eq_false.1 h5 x (List.mem_take_iff_getElem.2 ⟨i,by omega,(List.getElem?_eq_some_iff.1 hx).2⟩)
   simp_all
  omega
theorem idxT_at{k:ByteArray}{i:Nat}(h:qDx d k=(i:Int)):∃x,d.types[i]?=some x/\x.name=k:=by
 unfold qDx at h
 rcases qAI (fun t:Ty=>decide (t.name=k)) d.types with⟨h1,-⟩|⟨j,y,h1,h2,-,h4,h5,-⟩
 ·omega
 grind
theorem pmap_all{k:ByteArray}(i:Nat)(hi:d.types.length<=i):pmap d i k=tmap d k:=by
 unfold pmap tmap
 rcases qHc d k with⟨h1,h2⟩|⟨h1,h2⟩
 ·grind
 ·obtain⟨j,hj⟩:∃j:Nat,qDx d k=(j:Int):=⟨(qDx d k).toNat,by omega⟩
  obtain⟨x,hx,-⟩:=idxT_at hj
  grind
theorem c124{s:ByteArray}:PP 124 [.string s] V (.bool (decide (s=qAV)||decide (s=qAt))):=by
 refine x124 ?_
 unfold w124
 refine⟨fun h=>⟨by grind [qAV],rfl⟩,fun h=>⟨by rw[decide_eq_false (show ¬s=qAV from h)];rfl,rfl⟩⟩
theorem c125{s:ByteArray}(h:qBo V b (tmap d)):PP 125 [.map (some b),.string s] V (.bool (qAZ d s)):=by
 refine x125 ?_
 unfold w125
 refine qBz.str Tryz.underlying158 Tryz.underlying9 qFw h ?_
 unfold tmap
 cases hn:qAZ d s with
 | true=>simp_all
 | false=>simp_all
theorem c123{p t:Nat}(hp:V p=some (cell (.map (some b)) t))(h:qBo V b (tmap d)){f:Fld}:PP 123 [f.v,pv p] V (.bool (!qBf d f.ty)):=by
 refine x123 ?_
 unfold w123
 refine c124.call ⟨_,rfl,fun h1=>?_,fun h1=>⟨some b,qBJ hp,(c125 h).call ⟨_,rfl,?_,rfl⟩⟩⟩
 ·unfold qBf;grind
 grind [qBf,qAV,qAt]
theorem c121{p t:Nat}(hp:V p=some (cell (.map (some b)) t))(h:qBo V b (tmap d)){l:Sl}{xs:List Fld}(hr:qAc V l 2 (xs.map Fld.row)):PP 121 [l.v,pv p] V (.bool (qBE d xs)):=by
 refine x121 ?_
 unfold w121
 refine(c122 (first:=[]) (caps:=[pv p]) hr Tryz.call123 (fun f=>!qBf d f.ty) (fun f _=>c123 hp h)).call ⟨_,rfl,?_,rfl⟩
 grind [qBE]
theorem c127{p q t t2:Nat}(hp:V p=some (cell (.map (some b)) t))(hq:V q=some (cell (.func (.func 121) #[] #[pv p]) t2))(h:qBo V b (tmap d)){y:Ty}(hy:Ty.Ok V y) :
  PP 127 [y.v,pv q] V (.bool (!qBE d y.fields)):=by
 refine x127 ?_
 unfold w127
 exact⟨.func (.func 121) #[] #[pv p],rfl,qBJ hq,121,_,_,rfl,Tryz.call121,(c121 hp h hy.fields).callv (first:=[]) (caps:=[pv p]) ⟨_,rfl,rfl,rfl⟩⟩
theorem qCs:qJz d=true↔qAB d=true/\qBE d d.globals=true/\(∀(i:Nat) (x:Ty),d.types[i]?=some x->qDx d x.name=(i:Int))/\∀x∈d.types,qBE d x.fields=true:=by
 unfold qJz
 rw[Bool.and_eq_true,Bool.and_eq_true,qDq,and_assoc]
 refine and_congr_right fun _=>and_congr_right fun _=>⟨fun h=>⟨fun i x hx=>?_,fun x hx=>?_⟩,fun h i x hx=>?_⟩
 ·grind
 ·obtain⟨i,hi,rfl⟩:=List.mem_iff_getElem.1 hx
  have:=h i _ (List.getElem?_eq_getElem hi)
  simp_all
 grind
def TyM(V':Mem)(d:Ds)(mo:Option Nat):Prop:=(qJz d=true/\∃b,mo=some b/\qBo V' b (tmap d))∨(¬qJz d=true/\mo=none)
theorem c78[Tab V](h:Ds.Ok V d):Tri Tryz.prog 78 #[d.v] V fun r V'=>∃mo,r=.returned (.map mo)/\V.sub V'/\TyM V' d mo:=by
 refine x78 ?_
 unfold w78
 have no:∀{V1:Mem},V.sub V1->¬qJz d=true->(∃mo,Ending.returned (.map none)=.returned (.map mo)/\V.sub V1/\TyM V1 d mo):=fun hs k=>⟨none,rfl,hs,.inr ⟨k,rfl⟩⟩
 refine(c120 h).call ⟨_,rfl,fun hv=>?_,fun hv=>no (Mem.sub.refl _) fun k=>hv (qCs.1 k).1⟩
 refine GenK.makeMap fun b hb=>⟨some b,rfl,?_⟩
 have hs:∀o,V.sub (V.set b o):=fun o=>Mem.sub_new hb _
 refine qAD (mk:=.map) (b0:=none) d.types.length (fun i V1=>(∃o,V1=V.set b o)/\qBo V1 b (pmap d i)/\∀(j:Nat) (x:Ty),j<i->d.types[j]?=some x->qDx d x.name=(j:Int)) ⟨⟨_,rfl⟩,(qBo.made V b).congr fun k=>?_,fun _ _ h=>absurd h (Nat.not_lt_zero _)⟩ ?_
 ·grind [pmap]
 rintro i b1 _ J hi ⟨⟨o,rfl⟩,hm,hd⟩ hJ
 have hd1:=h.sub (hs o)
 refine⟨fun hlt=>?_,fun hge=>?_⟩
 ·obtain⟨x,hxm,hx,hdr,hl,hp,hz,hrow⟩:=hd1.types.get hlt
  have hle:=idxT_le hx
  refine⟨hp,hz,hlt,_,_,hrow,qBz.str Tryz.underlying158 Tryz.underlying9 qFw hm ?_⟩
  by_cases hlo:qDx d x.name<(i:Int)
  ·have e:pmap d i x.name=some (.int .i64 (qDx d x.name)):=by grind [pmap]
   rw[e]
   refine⟨_,_,rfl,fun _=>no (hs o) fun k=>?_,fun k=>absurd rfl k⟩
   grind [qCs]
  ·have e:pmap d i x.name=none:=by grind [pmap]
   rw[e]
   refine⟨0,false,rfl,(fun k=>by cases k),fun _=>qDD.str Tryz.underlying158 Tryz.underlying9 hm fun o2 ho2=>⟨hd1.types.succ hlt,hJ hl _ _ ⟨⟨o2,by rw[Mem.set_set]⟩,ho2.congr fun k=>?_,fun j y hj hy=>?_⟩⟩⟩
   ·by_cases hk:k=x.name
    ·subst hk
     rw[if_pos rfl]
     grind [pmap,qDx]
    ·rw[if_neg hk]
     unfold pmap
     by_cases hki:qDx d k=(i:Int)
     ·grind [idxT_at,absurd]
     grind
   grind
 ·have hlen:=(hd1.types.done hge).2
  have hm':qBo (V.set b o) b (tmap d):=hm.congr fun k=>pmap_all i hlen
  have hdist:∀(j:Nat) (x:Ty),d.types[j]?=some x->qDx d x.name=(j:Int):=fun j x hx=>hd j x (by grind) hx
  intro p hp
  have s1:=Mem.sub_new hp (cell (.map (some b)) 158)
  have hpp:=Mem.set_same (V.set b o) p (cell (.map (some b)) 158)
  have hm1:=hm'.sub s1
  have hd2:=hd1.sub s1
  refine(c121 hpp hm1 hd2.globals).call ⟨_,rfl,fun hg=>fun q hq=>?_,fun hg=>no ((hs o).trans s1) fun k=>hg (qCs.1 k).2.1⟩
  have s2:=Mem.sub_new hq (cell (.func (.func 121) #[] #[pv p]) 204)
  have hqq:=Mem.set_same ((V.set b o).set p (cell (.map (some b)) 158)) q (cell (.func (.func 121) #[] #[pv p]) 204)
  have hd3:=hd2.sub s2
  refine(c126 (first:=[]) (caps:=[pv q]) hd3.types Tryz.call127 (fun y=>!qBE d y.fields) (fun y hy=>c127 (s2 _ _ hpp) hqq (hm1.sub s2) (hd3.typesOk y hy))).call ⟨_,rfl,fun ha=>no ((hs o).trans (s1.trans s2)) fun k=>?_,fun ha=>⟨_,qBJ (s2 _ _ hpp),some b,rfl,(hs o).trans (s1.trans s2),.inl ⟨qCs.2 ⟨hv,hg,hdist,fun x hx=>?_⟩,b,rfl,hm1.sub s2⟩⟩⟩
  ·grind [List.any_eq_true,qCs]
  simp_all
theorem c175{mo:Option Nat}(ht:TyM V d mo)(hT:qJz d=true)(hm:Mm.Ok V m){typ:ByteArray}(hk:qBf d typ=true){v:Int}:PP 175 [.map mo,m.v,.string typ,.int .i64 v] V (.bool (qAw d m typ v)):=by
 refine x175 ?_
 unfold w175
 have hn:=hm.nodes.n_eq
 obtain⟨b,rfl,hb⟩:∃b,mo=some b/\qBo V b (tmap d):=by
  rcases ht with⟨-,h⟩|⟨h,-⟩
  ·exact h
  simp_all
 have ret:∀{x y:Bool},x=y->Ending.returned (.bool x)=.returned (.bool y)/\V=V:=fun h=>by simp_all
 refine⟨fun h1=>?_,fun h1=>⟨fun h2=>?_,fun h2=>?_⟩⟩
 ·grind [qAw,qAV]
 ·grind [qAw,qAV,qAt,inr]
 ·unfold qAw;rw[if_neg (show ¬typ=qAV from h1),if_neg (show ¬typ=qAt from h2)]
  refine⟨fun h3=>ret (decide_eq_true (.inl h3)).symm,fun h3=>⟨fun h4=>⟨fun h5=>?_,fun h5=>ret ?_⟩,fun h4=>ret ?_⟩⟩
  ·obtain⟨i,rfl⟩:∃i:Nat,v=(i:Int)+1:=⟨(v-1).toNat,by omega⟩
   have e1:((i:Int)+1-1).toNat=i:=by omega
   obtain⟨x,hxm,hx,-,hl,hp,hz,hrow⟩:=hm.nodes.get (i:=i) (by omega)
   have hq:=qAd (n:=i*2) hp
   have hr:IR ((i:Int)+1-1):=⟨by omega,by have:=(hm.nodes.succ (i:=i) (by omega)).2;omega⟩
   have hnode:qAZ d typ=true:=by
    grind [qBf,qAV,qAt]
   rw[e1]
   refine⟨hr,hp,by omega,by omega,hq,_,_,hrow,qBz.str1 Tryz.underlying158 Tryz.underlying9 qFw hb ?_⟩
   unfold tmap
   rw[if_pos hnode]
   refine⟨_,rfl,qJV (k:=1) hrow (by decide),hq,hp,by omega,by omega,hr,ret ?_⟩
   grind
  ·grind
  grind
theorem c130{mo:Option Nat}(ht:TyM V d mo)(hT:qJz d=true)(hm:Mm.Ok V m){l:Sl}{xs:List Fld}(hr:qAc V l 2 (xs.map Fld.row))(hk:qBE d xs=true){s:Sl}{vs:List Int}(hv:qAc V s 1 (vs.map qAf)):PP 130 [.map mo,m.v,l.v,s.v] V (.bool (qAi d m xs vs)):=by
 refine x130 ?_
 unfold w130
 have h1:=hr.n_eq
 have h2:=hv.n_eq
 refine⟨fun he=>?_,fun he=>?_⟩
 ·refine qAD (mk:=.bool) (b0:=false) vs.length (fun i V1=>V=V1/\AllI (fun i v=>qAw d m (tyAt xs i) v) vs i) ⟨rfl,AllI.zero⟩ ?_
  rintro i b V1 J hi ⟨rfl,ha⟩ hJ
  refine⟨fun hlt=>?_,fun hge=>?_⟩
  ·obtain⟨x,hxm,hx,-,hl,hp,hz,hrow⟩:=hr.get hlt
   obtain⟨y,hym,hy,-,hl2,hp2,hz2,hrow2⟩:=hv.get (i:=i) (by omega)
   have hty:tyAt xs i=x.ty:=by grind [tyAt]
   have hkx:qBf d x.ty=true:=List.all_eq_true.1 hk x hxm
   refine⟨hp,hz,hlt,_,_,hrow,hp2,hz2,by omega,_,hrow2,(c175 ht hT hm hkx).call ⟨_,rfl,fun h3=>⟨hr.succ hlt,hJ hl2 _ _ ⟨rfl,ha.succ hy (by grind)⟩⟩,fun h3=>?_⟩⟩
   unfold qAi
   rw[qHk hy (by grind),Bool.and_false];simp_all
  ·unfold qAi
   rw[ha.all (by omega),decide_eq_true (by omega)];simp_all
 ·unfold qAi
  rw[decide_eq_false (by omega)];simp_all
theorem c129(h:Ds.Ok V d){p t:Nat}(hp:V p=some (.cells d.row.toArray t (0,0))){n:Nd}:PP 129 [n.v,pv p] V (.bool (!qDn d n)):=by
 refine x129 ?_
 unfold w129
 have hn:=h.types.n_eq
 refine⟨fun h1=>?_,fun h1=>⟨by simp,_,qAe hp 1 1 (by simp[Ds.row]),?_⟩⟩
 ·unfold qDn;rw[decide_eq_false (by omega)];exact⟨rfl,rfl⟩
 ·refine⟨?_,rfl⟩
  grind [qDn]
theorem c131(h:Ds.Ok V d)(hm:Mm.Ok V m){mo:Option Nat}(ht:TyM V d mo)(hT:qJz d=true){p q r t t2 t3:Nat}(hp:V p=some (cell (.map mo) t))(hq:V q=some (.cells m.row.toArray t2 (0,0)))(hr:V r=some (.cells d.row.toArray t3 (0,0))){n:Nd}(hn:n∈m.nodes)(hty:qDn d n=true) :
  PP 131 [n.v,pv p,pv q,pv r] V (.bool (!qAi d m (qAq d n.ty) n.f)):=by
 refine x131 ?_
 unfold w131
 obtain⟨h1,h2⟩:=of_decide_eq_true hty
 have hlen:=h.types.n_eq
 obtain⟨i,hi⟩:∃i:Nat,n.ty=(i:Int):=⟨n.ty.toNat,by omega⟩
 obtain⟨x,hxm,hx,-,hl,hp1,hz,hrow⟩:=h.types.get (i:=i) (by omega)
 have hf:=qAS hx hi
 rw[hf]
 refine⟨_,qBJ hp,_,_,qAe hq 0 2 (by simp[Mm.row]),by simp,_,qAe hr 1 1 (by simp[Ds.row]),hp1,h1,by omega,?_⟩
 rw[hi]
 refine⟨qAd hp1,_,_,hrow,(c130 ht hT hm (h.typesOk x hxm).fields ((qCs.1 hT).2.2.2 x hxm) (hm.nodesOk n hn).rows).call ⟨_,rfl,rfl,rfl⟩⟩
theorem c79(h:Ds.Ok V d)(hm:Mm.Ok V m){mo:Option Nat}(ht:TyM V d mo):Pur Tryz.prog 79 [.map mo,d.v,m.v] V (.bool (qAu d m)):=by
 refine Pur.mk ?_
 refine x79 ?_
 unfold w79
 have hn:=hm.nodes.n_eq
 rcases ht with⟨hT,b,rfl,hb⟩|⟨hT,rfl⟩
 rotate_left
 ·refine⟨fun _=>?_,fun k=>absurd rfl k⟩
  unfold qAu;rw[(Bool.not_eq_true _).mp hT];exact⟨rfl,Mem.sub.refl _⟩
 refine⟨(fun k=>by cases k),fun _=>⟨fun h1=>?_,fun h1=>?_⟩⟩
 ·unfold qAu;rw[decide_eq_false (by omega:¬m.nodes.length<=4096)];simp_all [Bool.and_false,Bool.false_and,trivial,Mem.sub.refl]
 intro p hp
 have s1:=Mem.sub_new hp (.cells d.row.toArray 30 (0,0))
 have hpp:=Mem.set_same V p (.cells d.row.toArray 30 (0,0))
 have hm1:=hm.sub s1
 refine(c128 (first:=[]) (caps:=[pv p]) hm1.nodes Tryz.call129 (fun n=>!qDn d n) (fun n hn=>c129 (h.sub s1) hpp)).call ⟨_,rfl,fun h2=>?_,fun h2=>?_⟩
 ·grind [qAu,qDn]
 have hall:m.nodes.all (qDn d)=true:=by
  simp_all
 have ht1:TyM (V.set p (.cells d.row.toArray 30 (0,0))) d (some b):=.inl ⟨hT,b,rfl,hb.sub s1⟩
 have hd1:=h.sub s1
 refine⟨nofun,_,qAe hpp 2 1 (by simp[Ds.row]),(c130 ht1 hT hm1 hd1.globals (qCs.1 hT).2.1 hm1.globals).call ⟨_,rfl,fun h3=>?_,fun h3=>?_⟩⟩
 rotate_left
 ·grind [qAu]
 intro q hq
 have s2:=Mem.sub_new hq (cell (.map (some b)) 158)
 intro r hr
 have s3:=Mem.sub_new hr (.cells m.row.toArray 34 (0,0))
 have s23:=s2.trans s3
 refine(c128 (first:=[]) (caps:=[pv q,pv r,pv p]) (hm1.sub s23).nodes Tryz.call131 (fun n=>!qAi d m (qAq d n.ty) n.f) (fun n hn=>?_)).call ⟨_,rfl,?_,s1.trans s23⟩
 ·refine c131 (hd1.sub s23) (hm1.sub s23) (mo:=some b) (.inl ⟨hT,b,rfl,(hb.sub s1).sub s23⟩) hT (s3 _ _ mss) mss (s23 _ _ hpp) hn (List.all_eq_true.1 hall n hn)
 grind [qAu,qAi]
theorem c44[Tab V](h:Ds.Ok V d)(hm:Mm.Ok V m):Pur Tryz.prog 44 [d.v,m.v] V (.bool (qAu d m)):=by
 refine Pur.mk ?_
 refine x44 ?_
 unfold w44
 refine Tri.mono (c78 h) ?_
 rintro _ V' ⟨mo,rfl,hs,ht⟩
 exact⟨mo,rfl,(c79 (h.sub hs) (hm.sub hs) ht).call ⟨_,rfl,rfl,hs⟩⟩
end
theorem chk_none{d:Ds}(h:(fltR (qHD d)).2.2=0):qHD d=none:=by
 have key:∀{a:Option Flt},(∀r,a=some r->r.2.2≠0)->(fltR a).2.2=0->a=none:=fun {a} hb h=>by
  cases a with
  | none=>rfl
  | some r=>exact absurd h (hb r rfl)
 refine key (fun r hr=>?_) h
 unfold qHD at hr
 have orC:∀{a b:Option Flt} {r},a.or b=some r->a=some r∨b=some r:=fun {a b r} h=>by
  cases a with
  | none=>exact .inr (by simpa using h)
  | some x=>exact .inl (by simpa using h)
 rcases orC hr with h1|hr
 ·exact(qIp d r h1).1
 rcases orC hr with h1|hr
 ·exact(qJb d r h1).1
 rcases orC hr with h1|hr
 ·exact(qLp d r h1).1
 rcases orC hr with h1|hr
 ·unfold qCt at h1
  obtain⟨j,x,-,hx⟩:=qCQ h1
  split at hx
  ·rename_i hne;cases hx;exact hne
  ·cases hx
 ·exact(qLt d r hr).1
section
variable{V:Mem}{d:Ds}{m:Mm}
theorem c161(hd:Ds.Ok V d)(hm:Mm.Ok V m)(G:qAv d m){typ:ByteArray}{v:Int}:PP 161 [d.v,m.v,.string typ,.int .i64 v] V (.bool (qAw d m typ v)):=by
 refine x161 ?_
 unfold w161
 have fin:∀{b:Bool},qAw d m typ v=b->(Ending.returned (.bool b)=.returned (.bool (qAw d m typ v))/\V=V):=fun e=>⟨by rw[e],rfl⟩
 refine⟨fun h=>⟨fun a=>fin ?_,fun a=>fin ?_⟩,fun h=>⟨fun h1=>⟨fun a=>fin ?_,fun a=>fin ?_⟩,fun h1=>⟨fun h0=>fin ?_,fun h0=>⟨fun hp=>⟨fun hl=>?_,fun hl=>fin ?_⟩,fun hp=>fin ?_⟩⟩⟩⟩
 ·unfold qAw;rw[if_pos (show typ=qAV from h)];simp[show (-1099511627776:Int)<=v from a]
 ·unfold qAw;rw[if_pos (show typ=qAV from h)];exact decide_eq_false fun k=>a k.1
 ·unfold qAw;rw[if_neg (show ¬typ=qAV from h),if_pos (show typ=qAt from h1)];exact decide_eq_true (.inl a)
 ·unfold qAw;rw[if_neg (show ¬typ=qAV from h),if_pos (show typ=qAt from h1)]
  have a:¬v=0:=a
  simp[a]
 ·unfold qAw;rw[if_neg (show ¬typ=qAV from h),if_neg (show ¬typ=qAt from h1)];exact decide_eq_true (.inl h0)
 ·have h0:¬v=0:=h0
  have hn:=hm.nodes.n_eq
  have hl:v<=(m.ns.n:Int):=hl
  obtain⟨k,hk⟩:∃k:Nat,v-1=(k:Int):=⟨(v-1).toNat,by omega⟩
  obtain⟨y,hym,hy,-,-,hpn,hz,hrow⟩:=hm.nodes.get (i:=k) (by omega)
  obtain⟨p1,p2,p3,-⟩:=qAj G.mem
  have hty:=of_decide_eq_true (p3 y hym)
  obtain⟨j,hj⟩:∃j:Nat,y.ty=(j:Int):=⟨y.ty.toNat,by omega⟩
  have htn:=hd.types.n_eq
  obtain⟨tt,-,htt,-,-,hp2,hz2,hrow2⟩:=hd.types.get (i:=j) (by omega)
  have hrow':V.rowp m.ns.p (k*2) 2=some [.int .i64 (j:Int),y.sl.v]:=by rw[<- hj];exact hrow
  rw[hk]
  refine⟨⟨by omega,by omega⟩,hpn,hz,by omega,qAd hpn,_,_,hrow',hp2,hz2,by omega,qAd hp2,_,_,hrow2,fin ?_⟩
  unfold qAw
  rw[if_neg (show ¬typ=qAV from h),if_neg (show ¬typ=qAt from h1),hk,Int.toNat_natCast,hy]
  refine decide_eq_decide.2 ⟨fun k1=>?_,fun k1=>.inr ⟨by omega,by omega,?_⟩⟩
  ·rcases k1 with k1|⟨-,-,k1⟩
   ·exact absurd k1 h0
   ·simp only[Option.map_some,Option.some.injEq]at k1
    obtain⟨x,hx,hxn⟩:=idxT_at (d:=d) (k:=typ) (i:=j) (by rw[<- k1,hj])
    rw[htt]at hx;cases hx;exact hxn
  ·simp only[Option.map_some,Option.some.injEq]
   rw[hj,<- (qBL p1).2.1 j tt htt]
   exact congrArg _ k1
 ·have hl:¬v<=(m.ns.n:Int):=hl
  have hn:=hm.nodes.n_eq
  have h0:¬v=0:=h0
  unfold qAw
  rw[if_neg (show ¬typ=qAV from h),if_neg (show ¬typ=qAt from h1)]
  exact decide_eq_false fun k1=>by rcases k1 with k1|⟨-,k1,-⟩ <;> omega
 ·have hp:¬0<v:=hp
  have h0:¬v=0:=h0
  unfold qAw
  rw[if_neg (show ¬typ=qAV from h),if_neg (show ¬typ=qAt from h1)]
  exact decide_eq_false fun k1=>by rcases k1 with k1|⟨k1,-,-⟩ <;> omega
def qCH(d:Ds)(m:Mm)(nm:ByteArray)(args:List Int):Int :=
 if qDr d nm<0 then 9 else match d.procs[(qDr d nm).toNat]? with
  | none=>9
  | some pr=>if args.length=pr.params.length then (if qAi d m pr.params args=true then 0 else 11) else 3
theorem qJq{nm:ByteArray}{args:List Int}(h:qCH d m nm args=0):∃(i:Nat) (pr:Pr),qDr d nm=(i:Int)/\d.procs[i]?=some pr/\qAi d m pr.params args=true:=by
 unfold qCH at h
 split at h
 ·cases h
 ·split at h
  ·cases h
  ·rename_i h1 pr hp
   split at h
   ·split at h
    ·exact⟨(qDr d nm).toNat,pr,by omega,hp,by assumption⟩
    ·cases h
   ·cases h
def noPr:Pr:=⟨qAm [],qAC,[],qAm [],qAC,[],qAC,[]⟩
theorem c114(hd:Ds.Ok V d)(hm:Mm.Ok V m)(G:qAv d m){l:Sl}{args:List Int}(ha:qAc V l 1 (args.map qAf)){nm:ByteArray} :
  PP 114 [d.v,m.v,.agg #[.string nm,l.v]] V (.tuple #[(if qCH d m nm args=0 then ((d.procs[(qDr d nm).toNat]?).getD noPr) else noPr).v,.int .i64 (qCH d m nm args)]):=by
 refine x114 ?_
 unfold w114
 have bad:∀{e:Int},qCH d m nm args=e->e≠0->(Ending.returned (.tuple #[noPr.v,.int .i64 e])=.returned (.tuple #[(if qCH d m nm args=0 then ((d.procs[(qDr d nm).toNat]?).getD noPr) else noPr).v,.int .i64 (qCH d m nm args)])/\V=V):=fun e h=>⟨by rw[e,if_neg h],rfl⟩
 refine(c160 hd).call ⟨_,rfl,fun h=>?_,fun h=>?_⟩
 ·exact bad (by unfold qCH;rw[if_pos h]) (by decide)
 ·have h:¬qDr d nm<0:=h
  rcases qAI (fun t:Pr=>decide (t.name=nm)) d.procs with⟨h1,-⟩|⟨i,pr,h1,h2,-⟩
  ·have:qDr d nm=-1:=h1
   omega
  have hi:qDr d nm=(i:Int):=h1
  have hn:=hd.procs.n_eq
  have hil:=(List.getElem?_eq_some_iff.1 h2).1
  obtain⟨y,hym,hy,-,-,hp,hz,hrow⟩:=hd.procs.get (i:=i) (by omega)
  rw[h2]at hy;cases hy
  have hc:qCH d m nm args=if args.length=pr.params.length then (if qAi d m pr.params args=true then 0 else 11) else 3:=by unfold qCH;rw[if_neg h,hi,Int.toNat_natCast,h2]
  have hok:=(hd.procsOk pr hym).params
  have hln:=hok.n_eq
  have han:=ha.n_eq
  rw[hi]at bad ⊢
  refine⟨hp,hz,by omega,_,_,_,_,_,hrow,fun hlen=>?_,fun hlen=>?_⟩
  ·have hlen:(l.n:Int)=(pr.ps.n:Int):=hlen
   have hl2:args.length=pr.params.length:=by omega
   rw[if_pos hl2]at hc
   refine qAD (mk:=fun k:Int=>.int .i64 k) (b0:=0) args.length (fun j V1=>V1=V/\∀(i:Nat) f v,i<j->pr.params[i]?=some f->args[i]?=some v->qAw d m f.ty v=true) ⟨rfl,fun i f v h=>by omega⟩ ?_
   rintro j b V1 J hj ⟨rfl,hall⟩ hJ
   refine⟨fun hlt=>?_,fun hge=>?_⟩
   ·obtain⟨v,hvm,hv,-,hjl,hp1,hz1,hr1⟩:=ha.get hlt
    obtain⟨f,hfm,hf,-,-,hp2,hz2,hr2⟩:=hok.get (i:=j) (by omega)
    refine⟨hp1,hz1,hlt,v,hr1,hp2,hz2,by omega,qAd hp2,_,_,hr2,(c161 hd hm G).call ⟨_,rfl,fun hb=>⟨ha.succ hlt,hJ hjl _ _ ⟨rfl,fun i g w hi' hg hw=>?_⟩⟩,fun hb=>bad ?_ (by decide)⟩⟩
    ·rcases Nat.lt_or_ge i j with h3|h3
     ·exact hall i g w h3 hg hw
     ·obtain rfl:i=j:=by omega
      rw[hf]at hg;cases hg
      rw[hv]at hw;cases hw
      exact hb
    ·rw[hc,if_neg fun k=>hb ((qAG.1 k).2 j f v hf hv)]
   ·have hd2:=(ha.done hge).2
    have hval:qAi d m pr.params args=true:=qAG.2 ⟨hl2.symm,fun i f v hf hv=>hall i f v (by have:=(List.getElem?_eq_some_iff.1 hv).1;omega) hf hv⟩
    rw[if_pos hval]at hc
    refine⟨?_,rfl⟩
    rw[hc,if_pos rfl,Int.toNat_natCast,h2]
    rfl
  ·have hlen:¬(l.n:Int)=(pr.ps.n:Int):=hlen
   exact bad (by rw[hc,if_neg (by omega)]) (by decide)
noncomputable def qAN(d:Ds)(m:Mm)(F:Int):Int:=by
 classical
 exact if qAv d m then (if F<0 then 2 else if 1048576<F then 2 else 0) else 1
theorem c71[Tab V](hd:Ds.Ok V d)(hm:Mm.Ok V m){F:Int}:PP 71 [d.v,m.v,.int .i64 F] V (.int .i64 (qAN d m F)):=by
 refine x71 ?_
 unfold w71
 have bad:¬qAv d m->(Ending.returned (.int .i64 1)=.returned (.int .i64 (qAN d m F))/\V=V):=fun h=>⟨by unfold qAN;rw[if_neg h],rfl⟩
 refine(c113 scopeC newC hd).call ?_
 by_cases hv:qAB d=true
 ·rw[if_pos hv]
  refine⟨_,_,_,rfl,fun h0=>(c44 hd hm).call ⟨_,rfl,fun h1=>?_,fun h1=>bad fun k=>h1 k.mem⟩,fun h0=>bad fun k=>h0 (by rw[k.chk];rfl)⟩
  have G:qAv d m:=⟨hv,chk_none h0,h1⟩
  refine⟨fun h=>⟨?_,rfl⟩,fun h=>⟨fun h2=>⟨?_,rfl⟩,fun h2=>⟨?_,rfl⟩⟩⟩
  ·unfold qAN;rw[if_pos G,if_pos h]
  ·unfold qAN;rw[if_pos G,if_neg h,if_pos h2]
  ·unfold qAN;rw[if_pos G,if_neg h,if_neg h2]
 ·rw[if_neg hv]
  exact⟨_,_,_,rfl,fun h=>absurd h (by decide),fun _=>bad fun k=>hv k.valid⟩
end
theorem loop3u{V:Mem}{β γ:Type}{mk:β->Value}{mc:γ->Value}{B:β->γ->Int->Mem->(List Value->Mem->Prop)->Prop}{b0:β}{c0:γ}(inj:∀x y,mk x=mk y->x=y)(inc:∀x y,mc x=mc y->x=y)(len:Nat)(St:Nat->β->γ->Mem->Prop)(h0:St 0 b0 c0 V)
  (step:∀(i:Nat) (b:β) (c:γ) V1 J,i<=len->St i b c V1->(i<len->∀b' c' V2,St (i+1) b' c' V2->J [mk b',mc c',.int .i64 ((i:Int)+1)] V2)->B b c (i:Int) V1 J) :
  ∃(I:Nat->List Value->Mem->Prop) (n0:Nat),I n0 [mk b0,mc c0,.int .i64 0] V/\∀n V1,∀b:β,∀c:γ,∀v:Int,I n [mk b,mc c,.int .i64 v] V1->∀J:List Value->Mem->Prop,(∀m ys V'',m<n->I m ys V''->J ys V'')->B b c v V1 J:=by
 refine⟨LI len fun i xs V=>∃b c,xs=[mk b,mc c,.int .i64 i]/\St i b c V,len,LI.start ⟨b0,c0,rfl,h0⟩,?_⟩
 rintro n V1 b c v ⟨i,rfl,hi,b',c',hx,hs⟩ J hJ
 simp only[List.cons.injEq,Value.int.injEq,true_and,and_true]at hx
 obtain⟨hb,hc,rfl⟩:=hx
 cases inj _ _ hb
 cases inc _ _ hc
 exact step i b c V1 J hi hs fun hlt b' c' V2 h2=>LI.next hJ hlt ⟨b',c',rfl,h2⟩
theorem c72{V:Mem}{m:Mm}(hm:Mm.Ok V m)(h1:m.globals.length<=2147483648)(h2:m.nodes.length<=4096)(h3:∀n∈m.nodes,n.f.length<=2147483648):Tri Tryz.prog 72 #[m.v] V fun e V'=>∃gs ns nd,e=.returned (.agg #[.slice gs.p gs.n gs.c,.slice ns.p ns.n ns.c])/\Lay V V' gs ns qAC nd (qCd m):=by
 refine x72 ?_
 unfold w72
 refine Tri.mono (c42 hm.globals h1) ?_
 rintro _ V1 ⟨gs,rfl,o1⟩
 refine⟨gs,rfl,loop3u (mk:=fun s:Sl=>.slice s.p s.n s.c) (mc:=fun s:Sl=>.slice s.p s.n s.c) (b0:=gs) (c0:=⟨none,0,0⟩) qBc qBc m.nodes.length (fun i b ns V2=>b=gs/\∃nd,Lay V V2 gs ns qAC nd ⟨m.globals,(m.nodes.take i).map fun n=>(n.ty,n.f),0,0,[]⟩/\nd.length=i) ⟨rfl,[],⟨o1,Own.nil o1.sub _ _,Own.nil o1.sub _ _,(fun n hn=>by cases hn),rfl,(fun n hn=>by cases hn),(fun i j n n' c h=>by cases h)⟩,rfl⟩ ?_⟩
 rintro i b ns V2 J hi ⟨rfl,nd,L,hnl⟩ hJ
 have hr:=hm.nodes.sub L.sub
 refine⟨fun hlt=>?_,fun hge=>?_⟩
 ·obtain⟨x,hxm,hx,-,hil,hp,hz,hrow⟩:=hr.get hlt
  refine⟨hp,hz,hlt,x.ty,x.sl,hrow,Tri.mono (c42 ((hm.nodesOk x hxm).rows.sub L.sub) (h3 x hxm)) ?_⟩
  rintro _ V3 ⟨fs,rfl,o3⟩
  refine⟨fs,rfl,fun tb htb=>L.new (n:=⟨x.ty,fs,x.f⟩) o3 htb rfl rfl (by omega) fun s' V' L' _=>⟨s',rfl,hr.succ hlt,hJ hil _ _ _ ⟨rfl,nd++[⟨x.ty,fs,x.f⟩],?_,by rw[List.length_append,hnl];rfl⟩⟩⟩
  rw[List.take_add_one,hx]
  simpa using L'
 ·have hd:=(hr.done hge).2
  rw[List.take_of_length_le hd]at L
  exact⟨b,ns,nd,rfl,L⟩
end Go.Proofs
namespace Go.Sx
open Go
section
variable{P:Program}{n:Nat}{ops:Array Oper}{i:Nat}{o:Oper}{rest:List Nat}{Q:Exit->Act->World->Prop}{a:Act}{w:World}
theorem qBZ(hg:o.guard=none):Region.wanted o (yielded ops a.tmps)=true:=by simp[Region.wanted,hg]
theorem step_value{v:Value}(ho:ops[i]?=some o)(hg:o.guard=none)(hrun:(execOp a.eval o).run P w=.ok (.value v) w)(k:wpOpsIn (qAA none) n P ops Q rest (a.put o.dst v) w):wpOpsIn (qAA none) n P ops Q (i::rest) a w:=by
 rw[wpOpsIn_cons]
 unfold wpOpIn
 simp only[ho]
 rw[if_pos (qBZ hg)]
 refine⟨fun _ _=>trivial,?_⟩
 show Oper.uponIn _ _ _ _ _ _ _ ((execOp a.eval o).run P w)
 rw[hrun];exact k
theorem step_defer{d:Deferred}(ho:ops[i]?=some o)(hg:o.guard=none)(hrun:(execOp a.eval o).run P w=.ok (.defer d) w)(k:wpOpsIn (qAA none) n P ops Q rest (({ a with defers:=d::a.defers }:Act).put o.dst undef) w):wpOpsIn (qAA none) n P ops Q (i::rest) a w:=by
 rw[wpOpsIn_cons]
 unfold wpOpIn
 simp only[ho]
 rw[if_pos (qBZ hg)]
 refine⟨fun _ _=>trivial,?_⟩
 show Oper.uponIn _ _ _ _ _ _ _ ((execOp a.eval o).run P w)
 rw[hrun];exact k
theorem step_call{f:FuncId}{args:Array Value}{V:Mem}{R:Ending->Mem->Prop}(ho:ops[i]?=some o)(hg:o.guard=none)(hrun:(execOp a.eval o).run P w=.ok (.enter f args) w)(hV:V.le w)(H:Tri P f args V R)
  (hp:∀ch V' w',R (.panicked ch) V'->Frm V w V' w'->Q (.panic ch) a w') (hr:∀v V' w',R (.returned v) V'->Frm V w V' w'->wpOpsIn (qAA none) n P ops Q rest (a.put o.dst v) w') (hn:∀V',¬R .outgrown V'):wpOpsIn (qAA none) n P ops Q (i::rest) a w:=by
 rw[wpOpsIn_cons]
 unfold wpOpIn
 simp only[ho]
 rw[if_pos (qBZ hg)]
 refine⟨fun _ _=>trivial,?_⟩
 show Oper.uponIn _ _ _ _ _ _ _ ((execOp a.eval o).run P w)
 rw[hrun]
 refine⟨fun h=>by simp[qAA,Fence.wide]at h,qEk.2 (qCS (H w hV) ?_)⟩
 grind
theorem run_callv{c:Call}{fv:Operand}{f:FuncId}{first caps args:Array Value}(hop:o.op=.call c)(hc:c.callee=.value fv)(hf:a.eval fv=.func (.func f) first caps)(hargs:c.args.map a.eval=args)(hk:∀args w,(callFunc f args).run P w=.ok (.enter f args) w) :
  (execOp a.eval o).run P w=.ok (.enter f (first++args++caps)) w:=by
 grind [execOp,resolve,Deferred.ofValue,invoke]
def Rec(u:FrameMode)(v:Value)(u':FrameMode):Prop :=
 match u with
 | .panicking ({ v:=v',recovered:=false,goexit:=false }::older)=>v=v'/\u'=.panicking ({ v:=v',recovered:=true }::older)
 | _=>v=.nilIface/\u'=u
end
section
variable{P:Program}{n:Nat}
theorem qIm{F:Fence}{c:Code}{Q Q':Exit->Act->List Frame->World->Prop}{a:Act}{cs:List Frame}{w:World}(h:c.wpSIn F n P Q a cs w)(hq:∀e a cs w,Q e a cs w->Q' e a cs w):c.wpSIn F n P Q' a cs w :=
 fun b k hb hr hF hroom=>let ⟨e,a',cs',w',hl,q,r⟩:=h b k hb hr hF hroom;⟨e,a',cs',w',hl,hq _ _ _ _ q,r⟩
theorem wpSIn_head{x:Code}:∀{c:Code} {rest:List Code} {Q:Exit->Act->List Frame->World->Prop} {a:Act} {cs:List Frame} {w:World},flat c=x::rest->x.wpSIn (qAA none) n P (Exit.thenS (fun a cs w=>wpL none n P (fun e a' w'=>Q e a' cs w') rest a w) Q) a cs w->c.wpSIn (qAA none) n P Q a cs w:=by
 intro c
 induction c with
 | seq p q ihp ihq =>
  intro rest Q a cs w hf h
  rw[flat]at hf
  cases hp:flat p with
  | nil =>
   exfalso
   have:∀c:Code,flat c≠[]:=fun c=>by
    induction c with
    | seq a b iha ihb=>rw[flat];simp[iha]
    | _=>simp[flat]
   exact this p hp
  | cons y r' =>
   rw[hp,List.cons_append]at hf
   obtain⟨rfl,rfl⟩:y=x/\r'++flat q=rest:=by
    simp_all
   refine wpSIn_seq (ihp hp (qIm h ?_))
   intro e a cs w he
   cases e with
   | normal =>
    refine qCI ?_ (qFx he)
    intro e a w he
    cases e with
    | normal=>exact wpSIn_of_wpIn rfl (qCy he)
    | _=>exact he
   | _=>exact he
 | _ =>
  intro rest Q a cs w hf h
  rw[flat]at hf
  ·injection hf with h1 h2
   subst h1;subst h2
   refine qIm h ?_
   intro e a cs w he
   cases e with
   | normal=>exact he
   | _=>exact he
  all_goals (intro x y;nofun)
variable{ops:Array Oper}{i:Nat}{o:Oper}{rest:List Nat}{Q:Exit->Act->World->Prop}{a:Act}{w:World}
theorem qJK{f:FuncId}{fn:Func}{x c:Code}{rest:List Code}{id:Nat}{o0 o1:Oper}{args:Array Value}{u:FrameMode}{R:Ending->FrameMode->World->Prop}{at0:Array TypeId}{t3 t6:Nat}(hf:P.funcs[f]?=some fn)(hb:fn.body=some c)(hfl:flat c=x::rest)(hx:x=.region id #[o0,o1] false)
  (h0:o0.op=.call { callee:=.builtin .recover,args:=#[],argTypes:=at0 }) (d0:o0.dst=some t6) (g0:o0.guard=none) (h1:o1.op=.assign (.tmp t6)) (d1:o1.dst=some t3) (g1:o1.guard=none) (h6:t6<fn.ntmps) (hd:args.size<=fn.ntmps)
  (H:∀(v:Value) (u':FrameMode),Rec u v u' ->
   wpL none n P (fun e a' w'=>(e=.normal∨e=.ret)/\a'.defers=[]/\∃v,(results fn a'.tmps).run P w'=.ok v w'/\R (.returned v) u' w') rest ((({ tmps:=args++Array.replicate (fn.ntmps-args.size) undef,defers:=[] }:Act).put (some t6) v).put (some t3) v) w) :
  CallsDIn (qAA none) n P f args u w R:=by
 refine callsDIn_of_wpSIn hf hb trivial fun c₀ cs hu=>?_
 refine wpSIn_head hfl ?_
 subst hx
 refine wpSIn_region ?_
 have hr0:∀a:Act,(execOp a.eval o0).run P w=.ok .recover w:=fun a=>by
  unfold execOp
  simp[h0,resolve,invoke,builtin]
 have hr1:∀a:Act,(execOp a.eval o1).run P w=.ok (.value (a.eval (.tmp t6))) w:=fun a=>by
  unfold execOp
  simp[h1]
 have go:∀(v:Value) (u':FrameMode) (cs':List Frame),Rec u v u'->cs'={ c₀ with mode:=u' }::cs ->
   wpOpsSIn (qAA none) n P #[o0,o1] (Exit.thenS (fun a cs' w=>wpL none n P (fun e a' w'=>bodyPostS P fn c₀ cs R e a' cs' w') rest a w) (bodyPostS P fn c₀ cs R)) [1] (({ tmps:=args++Array.replicate (fn.ntmps-args.size) undef,defers:=[] }:Act).put o0.dst v) cs' w:=fun v u' cs' hv hcs=>by
  rw[wpOpsSIn.eq_2]
  simp only[List.getElem?_toArray,List.getElem?_cons_succ,List.getElem?_cons_zero]
  refine⟨fun _ _=>trivial,?_⟩
  have hw:=qBZ (ops:=#[o0,o1]) (a:=(({ tmps:=args++Array.replicate (fn.ntmps-args.size) undef,defers:=[] }:Act).put o0.dst v)) g1
  rw[if_pos hw,hr1]
  simp only
  rw[wpOpsSIn.eq_1]
  show wpL none n P (fun e a' w'=>bodyPostS P fn c₀ cs R e a' cs' w') rest _ w
  have e:(({ tmps:=args++Array.replicate (fn.ntmps-args.size) undef,defers:=[] }:Act).put o0.dst v).eval (.tmp t6)=v:=by
   rw[d0]
   exact qBy (a:={ tmps:=args++Array.replicate (fn.ntmps-args.size) undef,defers:=[] }) (v:=v) (by simp;omega)
  rw[e,d0,d1]
  refine qCI ?_ (H v u' hv)
  rintro e a' w' ⟨he,h1,v',h2,h3⟩
  rcases he with rfl|rfl
  ·exact⟨h1,u',hcs,v',h2,h3⟩
  ·exact⟨h1,u',hcs,v',h2,h3⟩
 show wpOpsSIn _ _ _ _ _ [0,1] _ _ _
 rw[wpOpsSIn.eq_2]
 simp only[List.getElem?_toArray,List.getElem?_cons_zero]
 refine⟨fun _ _=>trivial,?_⟩
 have hw:=qBZ (ops:=#[o0,o1]) (a:=({ tmps:=args++Array.replicate (fn.ntmps-args.size) undef,defers:=[] }:Act)) g0
 simp only at hw
 rw[if_pos hw,hr0]
 simp only
 unfold recoverD
 split
 ·rename_i v cs' hrec
  simp only at hrec
  split at hrec
  ·rename_i v' older hm
   simp only[Option.some.injEq,Prod.mk.injEq]at hrec
   obtain⟨rfl,rfl⟩:=hrec
   rw[hu]at hm
   exact go _ _ _ (by unfold Rec;rw[hm];exact⟨rfl,rfl⟩) rfl
  ·cases hrec
 ·rename_i hrec
  simp only at hrec
  split at hrec
  ·cases hrec
  ·rename_i hm
   refine go _ u _ ?_ (by cases c₀;simp only at hu;subst hu;rfl)
   rw[hu]at hm
   unfold Rec
   split
   ·exact absurd rfl (hm _ _)
   ·exact⟨rfl,rfl⟩
end
end Go.Sx
namespace Go.Proofs
open Go Go.Sx
set_option maxRecDepth 100000
set_option linter.unusedVariables false
section
variable{V:Mem}{R:RP}
noncomputable def c73a:List Code:=((qCu (qAp Tryz.f73) []).drop 0).take 3
def w73a(a:ByteArray)(b c d g i j k l o:Sl)(p:ByteArray)(q:Sl)(r:Int):MR:=fun V R=>TT 114 #[uD a b c d g i j k,uA #[uL l,uL o],uA #[uS p,uL q]] V fun e V1=>∃s u y z A B,e=rT #[uA #[uS s,uL u,uS y,uL z,uL A],uI B]/\qAs [uS a,uL b,uL c,uL d,uL g,uL i,uL j,uL k] 30 V1 fun C V2=>qAs [uL l,uL o] 34 V2 fun D V3=>qAs [uS p,uL q] 49 V3 fun F V4=>qAs [uP none] 124 V4 fun G V5=>qAs [uI 0,uI 0,uI 0,uI 0,uI 0] 54 V5 fun H V6=>qAs [uS s,uL u,uS y,uL z,uL A] 143 V6 fun L V7=>R (rT #[uI r,uP (qAa C 0),uP (qAa D 0),uP (qAa F 0),uP (qAa G 0),uP (qAa H 0),uI B,uP (qAa L 0),uB (!(decide (B=0)))]) V7
theorem s73a{a:ByteArray}{b c d g i j k l o:Sl}{p:ByteArray}{q:Sl}{r:Int}{V:Mem}{R:List Value->Mem->Prop}(h:w73a a b c d g i j k l o p q r V (OV R)):Seg Tryz.prog 37 c73a [(0,uD a b c d g i j k),(1,uA #[uL l,uL o]),(2,uA #[uS p,uL q]),(3,uI r)] [3,4,5,6,8,9,10,11,20] V R :=
 qBs (H:=hK 37) [(0,(.agg (.cons (.var .s 0) (.cons (.var .sl 1) (.cons (.var .sl 2) (.cons (.var .sl 3) (.cons (.var .sl 4) (.cons (.var .sl 5) (.cons (.var .sl 6) (.cons (.var .sl 7) .nil)))))))))),(1,(.agg (.cons (.var .sl 8) (.cons (.var .sl 9) .nil)))),(2,(.agg (.cons (.var .s 10) (.cons (.var .sl 11) .nil)))),(3,(.var (.i .i64) 12))] [uS a,uL b,uL c,uL d,uL g,uL i,uL j,uL k,uL l,uL o,uS p,uL q,uI r] rfl (by kernel_rfl) h
noncomputable def c73b:List Code:=((qCu (qAp Tryz.f73) [3,0]).drop 0).take 1
def w73b(a b:Option Addr)(c:Int):MR:=fun V R=>StT a 0 [uP none] V fun V1=>StT b 0 [uI 0,uI 0,uI 0,uI 0,uI 0] V1 fun V2=>R (rT #[uP a,uP b,uI c]) V2
theorem s73b{a b:Option Addr}{c:Int}{V:Mem}{R:List Value->Mem->Prop}(h:w73b a b c V (OV R)):Seg Tryz.prog 37 c73b [(8,uP a),(9,uP b),(10,uI c)] [8,9,10] V R :=
 qBs (H:=hK 37) [(8,(.var .p 0)),(9,(.var .p 1)),(10,(.var (.i .i64) 2))] [uP a,uP b,uI c] rfl (by kernel_rfl) h
noncomputable def c73c:List Code:=((qCu (qAp Tryz.f73) []).drop 4).take 1
def w73c(a:Int)(b c d g i:Option Addr)(j:Int)(k:Option Addr):MR:=fun V R=>∃l o p q r s u y,V.rowp b ((0:Int).toNat*1) 8=some [uS l,uL o,uL p,uL q,uL r,uL s,uL u,uL y]/\∃z A,V.rowp c ((0:Int).toNat*1) 2=some [uL z,uL A]/\qAs [uS l,uL o,uL p,uL q,uL r,uL s,uL u,uL y,uL z,uL A,uI a,uI 0,uI 0,uI 0,.slice none 0 0] 128 V fun B V1=>StT g 0 [uP (qAa B 0)] V1 fun V2=>R (rT #[uP d,uP g,uP i,uI j,uP k]) V2
theorem s73c{a:Int}{b c d g i:Option Addr}{j:Int}{k:Option Addr}{V:Mem}{R:List Value->Mem->Prop}(h:w73c a b c d g i j k V (OV R)):Seg Tryz.prog 37 c73c [(3,uI a),(4,uP b),(5,uP c),(6,uP d),(8,uP g),(9,uP i),(10,uI j),(11,uP k)] [6,8,9,10,11] V R :=
 qBs (H:=hK 37) [(3,(.var (.i .i64) 0)),(4,(.var .p 1)),(5,(.var .p 2)),(6,(.var .p 3)),(8,(.var .p 4)),(9,(.var .p 5)),(10,(.var (.i .i64) 6)),(11,(.var .p 7))] [uI a,uP b,uP c,uP d,uP g,uP i,uI j,uP k] rfl (by kernel_rfl) h
noncomputable def c73d:Array Oper:=qED ((qCu (qAp Tryz.f73) []).getD 6 .skip)
def w73d(a b c:Option Addr)(d:Int)(g:Option Addr):MR:=fun V R=>∃i,V.rowp b ((0:Int).toNat*1) 1=some [uP i]/\∃j k l o p,V.rowp g ((0:Int).toNat*1) 5=some [uS j,uL k,uS l,uL o,uL p]/\¬a=none/\∃q,V.rowp a 1 1=some [uL q]/\R (rT #[uP b,uP c,uI d,uP i,uA #[uS j,uL k,uS l,uL o,uL p],uL q]) V
theorem s73d{a b c:Option Addr}{d:Int}{g:Option Addr}{V:Mem}{R:List Value->Mem->Prop}(h:w73d a b c d g V (OV R)):qDd Tryz.prog 37 c73d 0 4 [(6,uP a),(8,uP b),(9,uP c),(10,uI d),(11,uP g)] [8,9,10,29,30,32] V R :=
 qAz (H:=hK 37) [(6,(.var .p 0)),(8,(.var .p 1)),(9,(.var .p 2)),(10,(.var (.i .i64) 3)),(11,(.var .p 4))] [uP a,uP b,uP c,uI d,uP g] rfl (by kernel_rfl) h
noncomputable def c73e:Array Oper:=qED ((qCu (qAp Tryz.f73) []).getD 6 .skip)
def w73e(a b:Option Addr)(c:Int):MR:=fun V R=>¬b=none/\StT (qAa b 1) 0 [uI c] V fun V1=>R (rT #[uP a,uP b]) V1
theorem s73e{a b:Option Addr}{c:Int}{V:Mem}{R:List Value->Mem->Prop}(h:w73e a b c V (OV R)):qDd Tryz.prog 37 c73e 5 2 [(8,uP a),(9,uP b),(33,uI c)] [8,9] V R :=
 qAz (H:=hK 37) [(8,(.var .p 0)),(9,(.var .p 1)),(33,(.var (.i .i64) 2))] [uP a,uP b,uI c] rfl (by kernel_rfl) h
noncomputable def c73f:List Code:=((qCu (qAp Tryz.f73) []).drop 7).take 1
def w73f(a b:Option Addr):MR:=fun V R=>∃c,V.rowp a ((0:Int).toNat*1) 1=some [uP c]/\∃d g i j k,V.rowp b ((0:Int).toNat*1) 5=some [uI d,uI g,uI i,uI j,uI k]/\StT a 0 [uP c] V fun V1=>V1.rowp b 0 5=some [uI d,uI g,uI i,uI j,uI k]/\StT b 0 [uI d,uI g,uI i,uI j,uI k] V1 fun V2=>R (rT #[uP a,uP b,uI 0]) V2
theorem s73f{a b:Option Addr}{V:Mem}{R:List Value->Mem->Prop}(h:w73f a b V (OV R)):Seg Tryz.prog 37 c73f [(8,uP a),(9,uP b)] [8,9,10] V R :=
 qBs (H:=hK 37) [(8,(.var .p 0)),(9,(.var .p 1))] [uP a,uP b] rfl (by kernel_rfl) h
noncomputable def c115a:List Code:=((qCu (qAp Tryz.f115) []).drop 1).take 5
def w115a(a b:Option Addr)(c:Value):MR:=fun V R=>GenK Tryz.prog (.binOp .neq 20 (.tmp 8) (.const .nilIface) 20) 4 (gv [(8,K.cast .r c)]) V fun x V1=>∃d,x=uB d/\Br (d=true) (GenK Tryz.prog (.typeAssert (.tmp 11) 20 201 true) 202 (gv [(11,K.cast .r c)]) V1 fun x V2=>∃g i,x=.tuple #[uA #[uI g],uB i]/\Br (i=true) (¬a=none/\StT (qAa a 0) 0 [uI g] V2 fun V3=>∃j,V3.rowp b ((0:Int).toNat*1) 1=some [uP j]/\¬j=none/\¬j=none/\∃k,V3.rowp j 13 1=some [uI k]/\¬a=none/\¬(qAa a 2)=none/\StT (qAa a 2) 0 [uI k] V3 fun V4=>∃l,V4.rowp b ((0:Int).toNat*1) 1=some [uP l]/\¬l=none/\¬l=none/\∃o,V4.rowp l 14 1=some [uL o]/\Lp [uI 0] V4 fun I n V5=>∀p,I n [uI p] V5->∀J0:LMP,Nx I n J0->Br (p<(o.n:Int)) (Ix o p (∃q r s,V5.rowp o.p (p.toNat*3) 3=some [uI q,uI r,uI s]/\Br (0<r) (¬a=none/\¬(qAa a 2)=none/\∃u,V5.rowp a 3 1=some [uI u]/\IR (u+1)/\¬a=none/\¬(qAa a 2)=none/\StT (qAa a 3) 0 [uI (u+1)] V5 fun V6=>IR (p+1)/\J0 [uI (p+1)] V6) (IR (p+1)/\J0 [uI (p+1)] V5))) (R (rT #[]) V5)) (∃t x,K.cast .r c=.iface t x/\R (.panicked [{ v:=.iface t x,recovered:=false }]) V2)) (∃g,V1.rowp b ((0:Int).toNat*1) 1=some [uP g]/\¬g=none/\¬g=none/\∃i,V1.rowp g 13 1=some [uI i]/\¬a=none/\¬(qAa a 2)=none/\StT (qAa a 2) 0 [uI i] V1 fun V2=>∃j,V2.rowp b ((0:Int).toNat*1) 1=some [uP j]/\¬j=none/\¬j=none/\∃k,V2.rowp j 14 1=some [uL k]/\Lp [uI 0] V2 fun I n V3=>∀l,I n [uI l] V3->∀J0:LMP,Nx I n J0->Br (l<(k.n:Int)) (Ix k l (∃o p q,V3.rowp k.p (l.toNat*3) 3=some [uI o,uI p,uI q]/\Br (0<p) (¬a=none/\¬(qAa a 2)=none/\∃r,V3.rowp a 3 1=some [uI r]/\IR (r+1)/\¬a=none/\¬(qAa a 2)=none/\StT (qAa a 3) 0 [uI (r+1)] V3 fun V4=>IR (l+1)/\J0 [uI (l+1)] V4) (IR (l+1)/\J0 [uI (l+1)] V3))) (R (rT #[]) V3))
theorem s115a{a b:Option Addr}{c:Value}{V:Mem}{R:List Value->Mem->Prop}(h:w115a a b c V (OV R)):Seg Tryz.prog 46 c115a [(0,uP a),(1,uP b),(2,K.cast .r c)] [] V R :=
 qBs (H:=hK 46) [(0,(.var .p 0)),(1,(.var .p 1)),(2,(.var .r 2))] [uP a,uP b,c] rfl (by kernel_rfl) h
end
end Go.Proofs
namespace Go.Proofs
open Go Go.Sx
attribute [local irreducible] Go.Sx.Tri
theorem GenK.neqNil{V:Mem}{x:Operand}{t:TypeId}{v:Value}{ty:Nat}{vals:Operand->Value}(hx:vals x=.iface t v)(hy:vals (.const .nilIface)=.nilIface){q:Value->Mem->Prop}(hq:q (.bool true) V):GenK Tryz.prog (.binOp .neq 20 x (.const .nilIface) 20) ty vals V q:=by
 intro w hw
 refine⟨_,w,V,?_,Frm.refl hw,hq⟩
 have he:(Op.equal 20 (.iface t v) .nilIface).run Tryz.prog w=.ok false w:=by
  rw[qCl,Op.equalIn];simp[Sem.run_bind,run_underlying Tryz.underlying20]
 simp_all [execOp,binOp,eqGuard,Sem.run_bind]
theorem GenK.eqNilNil{V:Mem}{x:Operand}{ty:Nat}{vals:Operand->Value}(hx:vals x=.nilIface)(hy:vals (.const .nilIface)=.nilIface){q:Value->Mem->Prop}(hq:q (.bool false) V):GenK Tryz.prog (.binOp .neq 20 x (.const .nilIface) 20) ty vals V q:=by
 intro w hw
 refine⟨_,w,V,?_,Frm.refl hw,hq⟩
 have he:(Op.equal 20 .nilIface .nilIface).run Tryz.prog w=.ok true w:=by
  rw[qCl,Op.equalIn];simp[Sem.run_bind,run_underlying Tryz.underlying20]
 simp_all [execOp,binOp,eqGuard,Sem.run_bind]
theorem GenK.assertOk{P:Program}{V:Mem}{x:Operand}{t u:TypeId}{ts:Array Field}{v:Value}{ty:Nat}{vals:Operand->Value}(ht:P.underlying t=some (.struct ts))(hx:vals x=.iface t v){q:Value->Mem->Prop}(hq:q (.tuple #[v,.bool true]) V):GenK P (.typeAssert x u t true) ty vals V q:=by
 intro w hw
 refine⟨_,w,V,?_,Frm.refl hw,hq⟩
 unfold execOp
 simp[hx,Instr.typeAssert,Sem.run_bind,run_underlying ht]
noncomputable def dOp:Oper:={ dst:=none,op:=.move (.tmp 0),type:=0,pos := "",after:=#[],guard:=none }
theorem run_makeFunc{P:Program}{a:Act}{o:Oper}{f:Fn}{first caps:Array Operand}{w:World}(ho:o.op=.makeFunc f first caps):(execOp a.eval o).run P w=.ok (.value (.func f (first.map a.eval) (caps.map a.eval))) w:=by
 unfold execOp
 simp[ho,Instr.makeFunc]
theorem run_deferv{P:Program}{a:Act}{o:Oper}{c:Call}{fv:Operand}{f:Fn}{first caps:Array Value}{w:World}(hop:o.op=.defer c)(hc:c.callee=.value fv)(hf:a.eval fv=.func f first caps)(hargs:c.args.map a.eval=#[]) :
  (execOp a.eval o).run P w=.ok (.defer { target:=.fn f caps,args:=first++#[] }) w:=by
 simp_all [execOp,resolve,Deferred.ofValue]
theorem qLj{N:Nat}{a:Act}{l:List (Nat×Value)}(h:Has N a l){t:Nat}{v:Value}(ht:t<N):Has N (a.put (some t) v) ((t,v)::l):=by
 refine⟨by simp[Act.put,h.1],fun s u hs=>?_⟩
 rw[List.lookup_cons]at hs
 by_cases e:s=t
 ·subst e
  simp only[beq_self_eq_true]at hs
  cases hs
  simp[Act.put,Array.getD_eq_getD_getElem?,h.1,ht]
 ·have e':(s==t)=false:=by simpa using e
  rw[e']at hs
  have:=h.2 s u hs
  simp_all [Act.put,Array.getD_eq_getD_getElem?,Array.getElem?_setIfInBounds_ne,Ne.symm]
theorem qJr{F:Fence}{n:Nat}{P:Program}{f:FuncId}{args:Array Value}{u:FrameMode}{w:World}{R R':Ending->FrameMode->World->Prop}(h:CallsDIn F n P f args u w R)(k:∀e u' w',R e u' w'->R' e u' w'):CallsDIn F n P f args u w R' :=
 ⟨h.1,fun c cs h1 h2=>let ⟨e,u',w',fr,a,b⟩:=h.2 c cs h1 h2;⟨e,u',w',fr,k _ _ _ a,b⟩⟩
def qEt(a0 a1 a2 a3:Int):List Value:=[.int .i64 a0,.int .i64 a1,.int .i64 a2,.int .i64 a3,.int .i64 0]
structure PM (V0:Mem) (d:Ds) (p F b8 b9:Nat) (gs ns ls:Sl) (nd:List Nd) (V:Mem) (s:St) (c:Nat) (a0 a1 a2 a3:Int):Prop where
 ex:∃W,V0.sub W/\W p=none/\V p=some (.cells (qBT d F s.tk c s.cm gs ns ls).toArray 128 (0,0))/\Lay W V gs ns ls nd s/\W b8=some (cell (pv p) 124)/\W b9=some (.cells (qEt a0 a1 a2 a3).toArray 54 (0,0))
section
variable{V0 V:Mem}{d:Ds}{p F b8 b9 c:Nat}{gs ns ls:Sl}{nd:List Nd}{s:St}{a0 a1 a2 a3 a0' a1' a2' a3':Int}
theorem PM.set9(h:PM V0 d p F b8 b9 gs ns ls nd V s c a0 a1 a2 a3)(n89:b8≠b9)(v9:V0 b9=none){x:Array Value}(hx:x=(qEt a0' a1' a2' a3').toArray):PM V0 d p F b8 b9 gs ns ls nd (V.set b9 (.cells x 54 (0,0))) s c a0' a1' a2' a3':=by
 obtain⟨W,h1,h2,h3,L,h8,h9⟩:=h.ex
 have np:p≠b9:=fun e=>by simp_all
 exact⟨W.set b9 (.cells x 54 (0,0)),h1.set v9 _,by rw[Mem.set_ne np];exact h2,by rw[Mem.set_ne np];exact h3,L.poke (by rw[h9];simp) _,by rw[Mem.set_ne n89];exact h8,by rw[Mem.set_same,hx]⟩
theorem PM.set8(h:PM V0 d p F b8 b9 gs ns ls nd V s c a0 a1 a2 a3)(n89:b8≠b9)(v8:V0 b8=none){x:Array Value}(hx:x=#[pv p]):PM V0 d p F b8 b9 gs ns ls nd (V.set b8 (.cells x 124 (0,0))) s c a0 a1 a2 a3:=by
 obtain⟨W,h1,h2,h3,L,h8,h9⟩:=h.ex
 have np:p≠b8:=fun e=>by simp_all
 exact⟨W.set b8 (.cells x 124 (0,0)),h1.set v8 _,by rw[Mem.set_ne np];exact h2,by rw[Mem.set_ne np];exact h3,L.poke (by rw[h8];simp) _,by rw[Mem.set_same,hx],by grind [Mem.set_ne]⟩
theorem PM.at8(h:PM V0 d p F b8 b9 gs ns ls nd V s c a0 a1 a2 a3):V b8=some (cell (pv p) 124):=by
 obtain⟨W,h1,h2,h3,L,h8,h9⟩:=h.ex
 exact L.sub _ _ h8
theorem PM.at9(h:PM V0 d p F b8 b9 gs ns ls nd V s c a0 a1 a2 a3):V b9=some (.cells (qEt a0 a1 a2 a3).toArray 54 (0,0)):=by
 obtain⟨W,h1,h2,h3,L,h8,h9⟩:=h.ex
 exact L.sub _ _ h9
theorem PM.em(h:PM V0 d p F b8 b9 gs ns ls nd V s c a0 a1 a2 a3):EM V0 d p F V s c:=by
 obtain⟨W,h1,h2,h3,L,h8,h9⟩:=h.ex
 exact MA.narrow (W:=W) ⟨h2,gs,ns,ls,nd,h3,L⟩ h1
theorem PM.atp(h:PM V0 d p F b8 b9 gs ns ls nd V s c a0 a1 a2 a3):V p=some (.cells (qBT d F s.tk c s.cm gs ns ls).toArray 128 (0,0)):=by
 obtain⟨W,h1,h2,h3,L,h8,h9⟩:=h.ex
 exact h3
theorem PM.log(h:PM V0 d p F b8 b9 gs ns ls nd V s c a0 a1 a2 a3):qAc V ls 3 (s.lg.map qHH):=by
 obtain⟨W,h1,h2,h3,L,h8,h9⟩:=h.ex
 exact L.log.rows (fun _=>rfl) (by decide)
theorem qIM{l:List (Int×Int×Int)}{i:Nat}{x:Int×Int×Int}(h:l[i]?=some x):qBa (l.take (i+1))=qBa (l.take i)+if 0<x.2.1 then 1 else 0:=by
 unfold qBa
 rw[List.take_add_one,h,List.filter_append,List.length_append]
 grind
theorem nodesN_le(l:List (Int×Int×Int))(i:Nat):qBa (l.take i)<=i:=by
 grind [qBa]
theorem lateTail(n89:b8≠b9)(v9:V0 b9=none)(P:PM V0 d p F b8 b9 gs ns ls nd V s c a0 a1 0 0){R:Ending->Mem->Prop}(hR:∀V',PM V0 d p F b8 b9 gs ns ls nd V' s c a0 a1 s.cm (qBa s.lg)->R (rT #[]) V') :
    (∃v4,V.rowp (sa b8) ((0:Int).toNat*1) 1=some [uP v4] /\
 ¬v4=none/\¬v4=none/\∃v5,V.rowp v4 ((13:Int).toNat*1) 1=some [uI v5] /\
 ¬(some (⟨b9,0,none⟩:Addr))=none/\¬(qAa (sa b9) 2)=none/\StT (qAa (sa b9) 2) 0 [uI v5] V fun V2 =>
 ∃v6,V2.rowp (sa b8) ((0:Int).toNat*1) 1=some [uP v6] /\
 ¬v6=none/\¬v6=none/\∃v7,V2.rowp v6 ((14:Int).toNat*1) 1=some [uL v7] /\
 ∃(I:Nat->List Value->Mem->Prop) (n0:Nat),I n0 [uI 0] V2/\∀n V3,∀v8,I n [uI v8] V3->∀J0:List Value->Mem->Prop,(∀m ys V'',m<n->I m ys V''->J0 ys V'') ->
 Br (v8<(v7.n:Int))
 (¬v7.p=none/\0<=v8/\v8<(v7.n:Int)/\∃v9 v10 v11,V3.rowp v7.p (v8.toNat*3) 3=some [uI v9,uI v10,uI v11] /\
 Br (0<v10)
 (¬(some (⟨b9,0,none⟩:Addr))=none/\¬(qAa (sa b9) 2)=none/\∃v12,V3.rowp (sa b9) ((3:Int).toNat*1) 1=some [uI v12] /\
 IR (v12+1)/\¬(some (⟨b9,0,none⟩:Addr))=none/\¬(qAa (sa b9) 2)=none/\StT (qAa (sa b9) 3) 0 [uI (v12+1)] V3 fun V4 =>
 IR (v8+1)/\J0 [uI (v8+1)] V4)
 (IR (v8+1)/\J0 [uI (v8+1)] V3))
 (R (rT #[]) V3)):=by
  refine⟨_,qBJ P.at8,nn,nn,_,qAe P.atp 13 1 (by simp[qBT]),nn,pnn,StT.at2 (off:=2) P.at9 (by simp[qEt]) ?_⟩
  have P2:=P.set9 (a0':=a0) (a1':=a1) (a2':=s.cm) (a3':=0) n89 v9 (x:=(((qEt a0 a1 0 0).toArray.toList.take 2++[Value.int .i64 (s.cm:Int)]++(qEt a0 a1 0 0).toArray.toList.drop (2+[Value.int .i64 (s.cm:Int)].length)).toArray)) (by simp[qEt])
  refine⟨_,qBJ P2.at8,nn,nn,ls,qAe P2.atp 14 1 (by simp[qBT]),qLe s.lg.length (fun i V3=>PM V0 d p F b8 b9 gs ns ls nd V3 s c a0 a1 s.cm (qBa (s.lg.take i))) P2 ?_⟩
  intro i V3 J hi P3 hJ
  refine⟨fun hlt=>?_,fun hge=>?_⟩
  · have hr:=P3.log
    obtain⟨x,-,hx,-,hil,hp,hz,hrow⟩:=hr.get hlt
    have hc:=hr.cap
    have hf:=hr.fit
    have hnn:=hr.n_eq
    have hle:=nodesN_le s.lg i
    have hs:=qIM hx
    refine⟨hp,hz,hlt,_,_,_,hrow,fun h0=>⟨nn,pnn,_,qAe P3.at9 3 1 (by simp[qEt]),⟨by omega,by omega⟩,nn,pnn,StT.at2 (off:=3) P3.at9 (by simp[qEt]) ⟨hr.succ hlt,hJ hil _ ?_⟩⟩,fun h0=>⟨hr.succ hlt,hJ hil _ ?_⟩⟩
    · rw[if_pos h0]at hs
      exact P3.set9 n89 v9 (by rw[hs];simp[qEt])
    simp_all
  · have hd:=(P3.log.done hge).2
    grind
def fltVE(e:Int):Value:=.iface 201 (.agg #[.int .i64 e])
theorem lateNil(n89:b8≠b9)(v9:V0 b9=none)(P:PM V0 d p F b8 b9 gs ns ls nd V s c 0 a1 0 0):Seg Tryz.prog 46 c115a [(0,pv b9),(1,pv b8),(2,.nilIface)] [] V fun _ V'=>PM V0 d p F b8 b9 gs ns ls nd V' s c 0 a1 s.cm (qBa s.lg):=by
 refine s115a (c:=.nilIface) ?_
 unfold w115a
 exact GenK.eqNilNil rfl rfl ⟨false,rfl,(fun k=>by cases k),fun _=>lateTail (R:=fun e V'=>∃vs:List Value,e=.returned (.tuple vs.toArray)/\PM V0 d p F b8 b9 gs ns ls nd V' s c 0 a1 s.cm (qBa s.lg)) n89 v9 P fun V' h=>⟨[],rfl,h⟩⟩
theorem lateFlt(n89:b8≠b9)(v9:V0 b9=none){e:Int}(P:PM V0 d p F b8 b9 gs ns ls nd V s c 0 a1 0 0):Seg Tryz.prog 46 c115a [(0,pv b9),(1,pv b8),(2,fltVE e)] [] V fun _ V'=>PM V0 d p F b8 b9 gs ns ls nd V' s c e a1 s.cm (qBa s.lg):=by
 refine s115a (c:=fltVE e) ?_
 unfold w115a
 refine GenK.neqNil rfl rfl ⟨true,rfl,fun _=>?_,fun k=>absurd rfl k⟩
 refine GenK.assertOk Tryz.underlying201 rfl ⟨e,true,rfl,fun _=>⟨nn,StT.at2 (off:=0) P.at9 (by simp[qEt]) ?_⟩,fun k=>absurd rfl k⟩
 exact lateTail (R:=fun x V'=>∃vs:List Value,x=.returned (.tuple vs.toArray)/\PM V0 d p F b8 b9 gs ns ls nd V' s c e a1 s.cm (qBa s.lg)) n89 v9 (P.set9 (a0':=e) (a1':=a1) (a2':=0) (a3':=0) n89 v9 (by simp[qEt])) fun V' h=>⟨[],rfl,h⟩
noncomputable def lateX:Code:=(flat (qAp Tryz.f115)).getD 0 .skip
theorem lateBody:(Tryz.f115).body=some (qAp Tryz.f115):=by kernel_rfl
theorem lateX_eq:lateX=.region 0 #[(qED lateX).getD 0 dOp,(qED lateX).getD 1 dOp] false:=by kernel_rfl
theorem late_flat:flat (qAp Tryz.f115)=lateX::c115a:=by kernel_rfl
theorem qHr{tmps:Array Value}{w:World}:(results Tryz.f115 tmps).run Tryz.prog w=.ok (.tuple #[]) w:=by
 simp_all [results]
theorem lateC(n89:b8≠b9)(v9:V0 b9=none)(P:PM V0 d p F b8 b9 gs ns ls nd V s c 0 a1 0 0){w:World}(hw:V.le w){u:FrameMode}{n:Nat}{f:Int}(hu:(u=.returning/\f=0)∨u=.panicking [{ v:=fltVE f,recovered:=false }]) :
  CallsDIn (qAA none) n Tryz.prog 115 #[pv b9,pv b8] u w fun e u' w'=>(∃v,e=.returned v)/\(∃V2,Frm V w V2 w'/\PM V0 d p F b8 b9 gs ns ls nd V2 s c f a1 s.cm (qBa s.lg)) /\
   ((u=.returning/\u'=.returning)∨(u'=.panicking [{ v:=fltVE f,recovered:=true }])):=by
 refine qJK (fn:=Tryz.f115) (at0:=#[]) (t3:=2) (t6:=7) Tryz.func115 lateBody late_flat lateX_eq (by kernel_rfl) (by kernel_rfl) (by kernel_rfl) (by kernel_rfl) (by kernel_rfl) (by kernel_rfl) (by simp_all) (by simp_all) ?_
 intro v u' hrec
 have h0:=qLj (qLj (qId (args:=[pv b9,pv b8]) (N:=46) (by simp)) (t:=7) (v:=v) (by decide)) (t:=2) (v:=v) (by decide)
 have hH:Has 46 _ [(0,pv b9),(1,pv b8),(2,v)]:=⟨h0.1,fun s x hs=>by
  simp only[List.lookup_cons]at hs
  repeat' split at hs
  all_goals first
   | (rename_i e;simp only[beq_iff_eq]at e;subst e;cases hs;exact h0.get rfl)
   | cases hs⟩
 rcases hu with⟨rfl,rfl⟩|rfl
 ·obtain⟨rfl,rfl⟩:v=.nilIface/\u'=.returning:=hrec
  refine qCI ?_ (lateNil n89 v9 P none n _ w hw hH.1 hH.2)
  rintro e a' w' ⟨rfl,h1,-,vs,V',-,h4,h5⟩
  exact⟨.inl rfl,h1,_,qHr,⟨_,rfl⟩,⟨V',h5,h4⟩,.inl ⟨rfl,rfl⟩⟩
 ·obtain⟨rfl,rfl⟩:v=fltVE f/\u'=.panicking [{ v:=fltVE f,recovered:=true }]:=by
   obtain⟨h1,h2⟩:=hrec
   grind
  refine qCI ?_ (lateFlt n89 v9 P none n _ w hw hH.1 hH.2)
  rintro e a' w' ⟨rfl,h1,-,vs,V',-,h4,h5⟩
  exact⟨.inl rfl,h1,_,qHr,⟨_,rfl⟩,⟨V',h5,h4⟩,.inr rfl⟩
end
theorem Lay.base{V0 V:Mem}{gs ns ls:Sl}{nd:List Nd}{s:St}(L:Lay V0 V gs ns ls nd s){p:Nat}(p0:V0 p=none):∃W,V0.sub W/\W p=none/\W.sub V/\Lay W V gs ns ls nd s/\∀b o,V b=some o->b≠p->Alien V b->W b=some o:=by
 refine⟨Mem.minus V (Mine p gs ns ls nd),fun b o hb=>?_,qBR (.inl rfl),qCf,L.frame (fun _ _ _ h=>h),fun b o hb hne ha=>?_⟩
 ·rw[qBi fun hm=>by rw[L.mine0 p0 hm]at hb;cases hb];exact L.sub _ _ hb
 ·rw[qBi];exact hb
  have no:∀{e sz sl vs},(e=3∨e=92∨e=89)->Sx.Own V0 V e sz sl vs->¬Blk sl b:=fun {e sz sl vs} he ho=>ho.apart fun cur=>ha cur e he
  rintro (h|h|h|h|⟨n,hn,h⟩)
  ·exact hne h
  ·exact no (.inl rfl) L.glob h
  ·exact no (.inr (.inl rfl)) L.nodes h
  ·exact no (.inr (.inr rfl)) L.log h
  ·exact no (.inl rfl) (L.fld n hn) h
theorem qLB{V:Mem}{b:Nat}{x:Array Value}{t:Nat}(h:V b=some (.cells x t (0,0)))(hty:NT t):Alien V b:=qIk h hty
noncomputable def playI:Code:=(flat (qAp Tryz.f73)).getD 3 .skip
noncomputable def qJG:Code:=(flat (qAp Tryz.f73)).getD 5 .skip
noncomputable def playR:Code:=(flat (qAp Tryz.f73)).getD 6 .skip
theorem play_flat:flat (qAp Tryz.f73)=c73a++playI::(c73c++qJG::playR::(c73f++[.ret])):=by kernel_rfl
theorem playI_eq:playI=.cond (.tmp 20) (kid playI 0) .skip:=by kernel_rfl
theorem playK_flat:flat (kid playI 0)=c73b++[.ret]:=by kernel_rfl
theorem playD_eq:qJG=.region 5 #[(qED qJG).getD 0 dOp,(qED qJG).getD 1 dOp] false:=by kernel_rfl
theorem playR_eq:playR=.region 6 c73d false:=by kernel_rfl
theorem playR_size:(c73d).size=7:=by kernel_rfl
theorem playde:c73d=c73e:=rfl
theorem run_ldv{w:World}{b t T:Nat}{x:Value}{cs y:Go.Sx.T}{ρ:List Value}(h:w.heap[b]?=some (.cells (cs.evs ρ id).toArray t (0,0)))(hT:qFn Tryz.prog T cs 0=some y)(hx:y.ev ρ id=x):(loadVar T ⟨b,0,none⟩).run Tryz.prog w=.ok x w:=by
 grind [qBW,Tryz.prog,T,id]
def outT:Go.Sx.T:=.cons (.var (.i .i64) 0) (.cons (.var (.i .i64) 1) (.cons (.var (.i .i64) 2) (.cons (.var (.i .i64) 3) (.cons (.var (.i .i64) 4) .nil))))
theorem qDk{tmps:Array Value}{b8 b9 t8 t9:Nat}{q:Option Addr}{a0 a1 a2 a3 er:Int}{w:World}(h8:tmps.getD 8 undef=pv b8)(h9:tmps.getD 9 undef=pv b9)(h10:tmps.getD 10 undef=.int .i64 er)
  (c8:w.heap[b8]?=some (cell (.pointer q) t8)) (c9:w.heap[b9]?=some (.cells (qEt a0 a1 a2 a3).toArray t9 (0,0))) :
  (results Tryz.f73 tmps).run Tryz.prog w=.ok (.tuple #[.pointer q,.agg (qEt a0 a1 a2 a3).toArray,.int .i64 er]) w:=by
 have hr:Tryz.f73.results=#[.cell 8 124,.cell 9 54,.tmp 10]:=by kernel_rfl
 unfold results
 rw[hr]
 have e8:asAddr (tmps.getD 8 undef)=pure ⟨b8,0,none⟩:=by rw[h8];rfl
 have e9:asAddr (tmps.getD 9 undef)=pure ⟨b9,0,none⟩:=by rw[h9];rfl
 have l8:(loadVar 124 ⟨b8,0,none⟩).run Tryz.prog w=.ok (.pointer q) w:=run_ldv (cs:=.cons (.var .p 0) .nil) (y:=.var .p 0) (ρ:=[.pointer q]) c8 (by kernel_rfl) rfl
 have l9:(loadVar 54 ⟨b9,0,none⟩).run Tryz.prog w=.ok (.agg (qEt a0 a1 a2 a3).toArray) w:=run_ldv (cs:=outT) (y:=.agg outT) (ρ:=qEt a0 a1 a2 a3) c9 (by kernel_rfl) rfl
 simp_all
section
variable{V0 V:Mem}{d:Ds}{F:Nat}{gs ns:Sl}{nd:List Nd}{m:Mm}
def PlayP(V0:Mem)(d:Ds)(F:Nat)(m:Mm)(nm:ByteArray)(args:List Int)(V:Mem):Ending->Mem->Prop:=fun e V' =>
 (qCH d m nm args≠0/\V.sub V'/\e=.returned (.tuple #[.pointer none,.agg (qEt 0 0 0 0).toArray,.int .i64 (qCH d m nm args)])) ∨
 (qCH d m nm args=0/\∃p c,∃r:Rx Int,r=qCo d F (qDr d nm) args (qCd m)/\EM V0 d p F V' r.st c/\e=.returned (.tuple #[pv p,.agg (qEt (outC r) (outV r) r.st.cm (qBa r.st.lg)).toArray,.int .i64 0]))
end
theorem lookup_mem{s:Nat}{v:Value}:∀{l:List (Nat×Value)},l.lookup s=some v->(s,v)∈l
 | [],h=>by cases h
 | (t,u)::l,h=>by
  rw[List.lookup_cons]at h
  split at h
  ·rename_i e
   simp only[beq_iff_eq]at e
   subst e;cases h;exact List.mem_cons_self
  ·exact List.mem_cons_of_mem _ (lookup_mem h)
theorem qIc{N:Nat}{a:Act}{l l':List (Nat×Value)}(h:Has N a l)(hl:∀x∈l',l.lookup x.1=some x.2):Has N a l':=⟨h.1,fun s v hs=>h.2 s v (hl (s,v) (lookup_mem hs))⟩
noncomputable def qFb:Call:=match ((c73d).getD 4 dOp).op with | .call c=>c|_=>{ callee:=.value (.tmp 0),args:=#[],argTypes:=#[] }
noncomputable def playFv:Operand:=match qFb.callee with | .value f=>f|_=>.tmp 0
theorem playCall_op:((c73d).getD 4 dOp).op=.call qFb:=by kernel_rfl
theorem playCall_fv:qFb.callee=.value playFv:=by kernel_rfl
theorem qKS:qFb.args=#[.tmp 29,.tmp 30,.tmp 32]:=by kernel_rfl
theorem playFv_eval(a:Act):a.eval playFv=.func (.func 116) #[] #[]:=by kernel_rfl
theorem free{V U:Mem}(hs:V.sub U){b:Nat}(h:U b=none):V b=none:=by
 cases hc:V b with
 | none=>rfl
 | some o=>rw[hs _ _ hc]at h;cases h
section
variable{V0 V:Mem}{d:Ds}{F:Nat}{m:Mm}{nm:ByteArray}{args:List Int}{l:Sl}{b4 b5 b6 b8 b9 b11 p c:Nat}{gs ns ls:Sl}{nd:List Nd}{s:St}{a1:Int}{pr:Pr}{er:Int}
theorem segA(hd:Ds.Ok V d)(hm:Mm.Ok V m)(G:qAv d m)(ha:qAc V l 1 (args.map qAf))(hpr:pr=if qCH d m nm args=0 then (d.procs[(qDr d nm).toNat]?).getD noPr else noPr) :
  Seg Tryz.prog 37 c73a [(0,d.v),(1,m.v),(2,.agg #[.string nm,l.v]),(3,.int .i64 F)] [3,4,5,6,8,9,10,11,20] V fun vs V1=>∃b4 b5 b6 b8 b9 b11:Nat,vs=[.int .i64 F,pv b4,pv b5,pv b6,pv b8,pv b9,.int .i64 (qCH d m nm args),pv b11,.bool (!(decide (qCH d m nm args=0)))] /\
   V.sub V1/\V b8=none/\V b9=none/\b8≠b9/\V1 b4=some (.cells d.row.toArray 30 (0,0))/\V1 b5=some (.cells m.row.toArray 34 (0,0))/\V1 b6=some (.cells #[.string nm,l.v] 49 (0,0))/\V1 b8=some (cell (.pointer none) 124)/\V1 b9=some (.cells (qEt 0 0 0 0).toArray 54 (0,0))/\V1 b11=some (.cells pr.row.toArray 143 (0,0)):=by
 have hc:=c114 hd hm G ha (nm:=nm)
 rw[<- hpr]at hc
 refine s73a (a:=d.name) (b:=d.ts) (c:=d.gs) (d:=d.ps) (g:=d.ms) (i:=d.is) (j:=d.qs) (k:=d.bs) (l:=m.gs) (o:=m.ns) (p:=nm) (q:=l) (r:=F) ?_
 unfold w73a
 refine hc.call ⟨_,_,_,_,_,_,rfl,fun b4 h4 b5 h5 b6 h6 b8 h8 b9 h9 b11 h11=>?_⟩
 have s4:=fun o=>Mem.sub_new h4 o
 have s5:=fun o=>Mem.sub_new h5 o
 have s6:=fun o=>Mem.sub_new h6 o
 have s8:=fun o=>Mem.sub_new h8 o
 have s9:=fun o=>Mem.sub_new h9 o
 have s11:=fun o=>Mem.sub_new h11 o
 refine⟨_,rfl,b4,b5,b6,b8,b9,b11,rfl,(s4 _).trans ((s5 _).trans ((s6 _).trans ((s8 _).trans ((s9 _).trans (s11 _))))),free ((s4 _).trans ((s5 _).trans (s6 _))) h8,free ((s4 _).trans ((s5 _).trans ((s6 _).trans (s8 _)))) h9,fun e=>?_,?_,?_,?_,?_,?_,Mem.set_same _ _ _⟩
 ·grind [Mem.set_same]
 ·exact((s5 _).trans ((s6 _).trans ((s8 _).trans ((s9 _).trans (s11 _))))) _ _ mss
 ·exact((s6 _).trans ((s8 _).trans ((s9 _).trans (s11 _)))) _ _ mss
 ·exact((s8 _).trans ((s9 _).trans (s11 _))) _ _ mss
 ·exact((s9 _).trans (s11 _)) _ _ mss
 ·exact(s11 _) _ _ mss
theorem segB(n89:b8≠b9)(v8:V0 b8=none)(v9:V0 b9=none)(hs:V0.sub V)(e8:V b8=some (cell (.pointer none) 124))(e9:V b9=some (.cells (qEt 0 0 0 0).toArray 54 (0,0))) :
  Seg Tryz.prog 37 c73b [(8,pv b8),(9,pv b9),(10,.int .i64 er)] [8,9,10] V fun vs V1=>vs=[pv b8,pv b9,.int .i64 er]/\V0.sub V1/\V1 b8=some (cell (.pointer none) 124)/\V1 b9=some (.cells (qEt 0 0 0 0).toArray 54 (0,0)):=by
 refine s73b (a:=some ⟨b8,0,none⟩) (b:=some ⟨b9,0,none⟩) (c:=er) ?_
 unfold w73b
 refine StT.cell e8 ?_
 show StT (qAa (sa b9) 0) 0 _ _ _
 refine StT.at2 (off:=0) (by rw[Mem.set_ne n89.symm];exact e9) (by simp[qEt]) ⟨_,rfl,rfl,(hs.set v8 _).set v9 _,by rw[Mem.set_ne n89,Mem.set_same],by rw[Mem.set_same];simp[qEt]⟩
theorem segC(e4:V b4=some (.cells d.row.toArray 30 (0,0)))(e5:V b5=some (.cells m.row.toArray 34 (0,0)))(e8:V b8=some (cell (.pointer none) 124)) :
  Seg Tryz.prog 37 c73c [(3,.int .i64 F),(4,pv b4),(5,pv b5),(6,pv b6),(8,pv b8),(9,pv b9),(10,.int .i64 er),(11,pv b11)] [6,8,9,10,11] V fun vs V1 =>
   vs=[pv b6,pv b8,pv b9,.int .i64 er,pv b11]/\∃p,V p=none/\V1=(V.set p (.cells (qBT d F ((0:Nat):Int) ((0:Nat):Int) ((0:Nat):Int) m.gs m.ns qAC).toArray 128 (0,0))).set b8 (cell (pv p) 124):=by
 refine s73c (a:=F) (b:=some ⟨b4,0,none⟩) (c:=some ⟨b5,0,none⟩) (d:=some ⟨b6,0,none⟩) (g:=some ⟨b8,0,none⟩) (i:=some ⟨b9,0,none⟩) (j:=er) (k:=some ⟨b11,0,none⟩) ?_
 unfold w73c
 refine⟨_,_,_,_,_,_,_,_,qAe e4 0 8 (by simp[Ds.row]),_,_,qAe e5 0 2 (by simp[Mm.row]),fun p hp=>?_⟩
 have hne:b8≠p:=fun e=>by simp_all
 exact StT.cell (by rw[Mem.set_ne hne];exact e8) ⟨_,rfl,rfl,p,hp,rfl⟩
theorem segD(e6:V b6=some (.cells #[.string nm,l.v] 49 (0,0)))(e8:V b8=some (cell (pv p) 124))(e11:V b11=some (.cells pr.row.toArray 143 (0,0))) :
  qDd Tryz.prog 37 c73d 0 4 [(6,pv b6),(8,pv b8),(9,pv b9),(10,.int .i64 er),(11,pv b11)] [8,9,10,29,30,32] V fun vs V1 =>
   vs=[pv b8,pv b9,.int .i64 er,pv p,pr.v,l.v]/\V1=V:=by
 refine s73d (a:=some ⟨b6,0,none⟩) (b:=some ⟨b8,0,none⟩) (c:=some ⟨b9,0,none⟩) (d:=er) (g:=some ⟨b11,0,none⟩) ?_
 unfold w73d
 exact⟨_,qBJ e8,_,_,_,_,_,qAe e11 0 5 (by simp[Pr.row]),nn,l,qAe e6 1 1 (by simp),_,rfl,rfl,rfl⟩
theorem segE(n89:b8≠b9)(v9:V0 b9=none){v:Int}(P:PM V0 d p F b8 b9 gs ns ls nd V s c 0 0 0 0) :
  qDd Tryz.prog 37 c73e 5 2 [(8,pv b8),(9,pv b9),(33,.int .i64 v)] [8,9] V fun vs V1=>vs=[pv b8,pv b9]/\PM V0 d p F b8 b9 gs ns ls nd V1 s c 0 v 0 0:=by
 refine s73e (a:=some ⟨b8,0,none⟩) (b:=some ⟨b9,0,none⟩) (c:=v) ?_
 unfold w73e
 exact⟨nn,StT.at2 (off:=1) P.at9 (by simp[qEt]) ⟨_,rfl,rfl,P.set9 n89 v9 (by simp[qEt])⟩⟩
theorem segF(n89:b8≠b9)(v8:V0 b8=none)(v9:V0 b9=none)(P:PM V0 d p F b8 b9 gs ns ls nd V s c 0 a1 0 0) :
  Seg Tryz.prog 37 c73f [(8,pv b8),(9,pv b9)] [8,9,10] V fun vs V1=>vs=[pv b8,pv b9,.int .i64 0]/\PM V0 d p F b8 b9 gs ns ls nd V1 s c 0 a1 0 0:=by
 refine s73f (a:=some ⟨b8,0,none⟩) (b:=some ⟨b9,0,none⟩) ?_
 unfold w73f
 have P1:=P.set8 n89 v8 (x:=#[pv p]) rfl
 refine⟨_,qBJ P.at8,_,_,_,_,_,qAe P.at9 0 5 (by simp[qEt]),StT.cell P.at8 ⟨qAe P1.at9 0 5 (by simp[qEt]),?_⟩⟩
 show StT (qAa (sa b9) 0) 0 _ _ _
 exact StT.at2 (off:=0) P1.at9 (by simp[qEt]) ⟨_,rfl,rfl,P1.set9 n89 v9 (by simp[qEt])⟩
end
section
variable{V0 V:Mem}{d:Ds}{F:Nat}{m:Mm}{nm:ByteArray}{args:List Int}{l:Sl}
theorem c73(S:ES V0 d F)(L:Lay V0 V m.gs m.ns qAC m.nodes (qCd m))(hm:Mm.Ok V m)(G:qAv d m)(ha:qAc V0 l 1 (args.map qAf)) :
  Tri Tryz.prog 73 #[d.v,m.v,.agg #[.string nm,l.v],.int .i64 F] V (PlayP V0 d F m nm args V):=by
 unfold Go.Sx.Tri
 intro w hV
 refine(callsIn_wide (n:=0)).1 (callsIn_of_wp_defers (F:=qAA none) Tryz.func73 (c:=qAp Tryz.f73) (by kernel_rfl) trivial (qCy ?_) rfl)
 rw[play_flat]
 obtain⟨pr,hpr⟩:∃pr,pr=if qCH d m nm args=0 then (d.procs[(qDr d nm).toNat]?).getD noPr else noPr:=⟨_,rfl⟩
 refine(segA (F:=F) (S.ds.sub L.sub) hm G (ha.sub L.sub) hpr).step hV (qId (args:=[d.v,m.v,.agg #[.string nm,l.v],.int .i64 F]) (N:=37) (by simp)) ?_
 rintro a1 w1 vs V1 hd1 hH1 ⟨b4,b5,b6,b8,b9,b11,rfl,s1,f8,f9,n89,e4,e5,e6,e8,e9,e11⟩ hF1
 have v8:=free L.sub f8
 have v9:=free L.sub f9
 have h20:a1.eval (.tmp 20)=.bool (!(decide (qCH d m nm args=0))):=hH1.get rfl
 show Code.wpIn (qAA none) 0 Tryz.prog playI _ a1 w1
 rw[playI_eq]
 by_cases hc:qCH d m nm args=0
 ·refine wpIn_cond_false (by grind) (wpIn_skip ?_)
  show wpL none 0 Tryz.prog _ (c73c++qJG::playR::(c73f++[.ret])) a1 w1
  refine(segC (F:=F) (m:=m) e4 e5 e8).step hF1.le (qIc hH1 (by
   intro x hx
   simp only[List.mem_cons,List.not_mem_nil,or_false]at hx
   rcases hx with rfl|rfl|rfl|rfl|rfl|rfl|rfl|rfl <;> rfl)) ?_
  rintro a2 w2 vs V2 hd2 hH2 ⟨rfl,p,hp,hV2⟩ hF2
  have hp8:b8≠p:=fun e=>by simp_all
  have s2:V1.sub (V1.set p (.cells (qBT d F ((0:Nat):Int) ((0:Nat):Int) ((0:Nat):Int) m.gs m.ns qAC).toArray 128 (0,0))):=Mem.sub_new hp _
  have L1:=(L.grow s1).grow s2
  have L2:Lay V0 V2 m.gs m.ns qAC m.nodes (qCd m):=by
   rw[hV2]
   exact L1.put (qLB (s2 _ _ e8) (by unfold NT;decide)) v8 _
  have p0:V0 p=none:=free (L.sub.trans s1) hp
  obtain⟨W,w0,wp,wV,LW,hW⟩:=L2.base p0
  have hat:V2 p=some (.cells (qBT d F ((0:Nat):Int) ((0:Nat):Int) ((0:Nat):Int) m.gs m.ns qAC).toArray 128 (0,0)):=by rw[hV2,Mem.set_ne hp8.symm,Mem.set_same]
  have keep:∀{b:Nat} {o:Obj},V1 b=some o->b≠b8->V2 b=some o:=fun {b o} hb hne=>by rw[hV2,Mem.set_ne hne];exact s2 _ _ hb
  have e8':V2 b8=some (cell (pv p) 124):=by rw[hV2,Mem.set_same]
  have n6:b6≠b8:=fun e=>by simp_all
  have n11:b11≠b8:=fun e=>by simp_all
  have e9':=keep e9 n89.symm
  have hp9:b9≠p:=fun e=>by simp_all
  have W8:W b8=some (cell (pv p) 124):=hW _ _ e8' hp8 (qLB e8' (by unfold NT;decide))
  have W9:W b9=some (.cells (qEt 0 0 0 0).toArray 54 (0,0)):=hW _ _ e9' hp9 (qLB e9' (by unfold NT;decide))
  have MW:EM W d p F V2 (qCd m) 0:=⟨wp,m.gs,m.ns,qAC,m.nodes,hat,LW⟩
  obtain⟨i,q,hi,hq,hval⟩:=qJq hc
  have hpq:pr=q:=by simp_all
  have hG:=qLl G
  have hvs:qAi d (qCd m).mm q.params args=true:=qAo (qDY (qEY m).symm) hval
  obtain⟨r,hr⟩:∃r:Rx Int,r=qCo d F (i:Int) args (qCd m):=⟨_,rfl⟩
  have H:Tri Tryz.prog 116 #[pv p,pr.v,l.v] V2 (PX W d p F 0 r):=by
   rw[hr,hpq]
   exact runC (allC d p F (F+1)) W V2 (qCd m) 0 i q args l (S.sub w0) hq hG hvs (ha.sub w0) MW (Nat.zero_le _) (by omega) (by unfold BW;show 0+0+0<=_;omega)
  -- the deferred function is put aside
  show Code.wpIn (qAA none) 0 Tryz.prog qJG _ a2 w2
  rw[playD_eq]
  refine wpIn_region ?_
  show wpOpsIn _ _ _ _ _ [0,1] _ _
  refine Go.Sx.step_value (o:=(qED qJG).getD 0 dOp) rfl (by kernel_rfl) (run_makeFunc (f:=.func 115) (first:=#[]) (caps:=#[.tmp 9,.tmp 8]) (by kernel_rfl)) ?_
  have g8:a2.eval (.tmp 8)=pv b8:=hH2.get rfl
  have g9:a2.eval (.tmp 9)=pv b9:=hH2.get rfl
  have hd0:((qED qJG).getD 0 dOp).dst=some 28:=by kernel_rfl
  have hd1':((qED qJG).getD 1 dOp).dst=none:=by kernel_rfl
  rw[hd0,show (#[Operand.tmp 9,.tmp 8].map a2.eval)=#[pv b9,pv b8] by simp[g8,g9],show ((#[]:Array Operand).map a2.eval)=#[] by simp]
  have hH3:=qLj hH2 (t:=28) (v:=.func (.func 115) #[] #[pv b9,pv b8]) (by decide)
  refine Go.Sx.step_defer (o:=(qED qJG).getD 1 dOp) rfl (by kernel_rfl) (run_deferv (c:={ callee:=.value (.tmp 28),args:=#[],argTypes:=#[] }) (fv:=.tmp 28) (f:=.func 115) (first:=#[]) (by kernel_rfl) rfl (hH3.get rfl) (by simp)) ?_
  rw[hd1']
  show Code.wpIn (qAA none) 0 Tryz.prog playR _ _ w2
  rw[playR_eq]
  refine wpIn_region ?_
  rw[playR_size]
  show wpOpsIn _ _ _ _ _ (List.range' 0 4++[4,5,6]) _ _
  have hH3':Has 37 _ [(6,pv b6),(8,pv b8),(9,pv b9),(10,.int .i64 (qCH d m nm args)),(11,pv b11)]:=qIc hH3 (by
   intro x hx
   simp only[List.mem_cons,List.not_mem_nil,or_false]at hx
   rcases hx with rfl|rfl|rfl|rfl|rfl <;> rfl)
  refine(segD (pr:=pr) (keep e6 n6) e8' (keep e11 n11)).step hF2.le ⟨hH3'.1,hH3'.2⟩ ?_
  rintro a4 w4 vs V4 hd4 hH4 ⟨rfl,rfl⟩ hF4
  have hdf:a4.defers=[{ target:=.fn (.func 115) #[pv b9,pv b8],args:=#[]++#[] }]:=by
   rw[hd4]
   show _::a2.defers=_
   rw[hd2,hd1]
  have inv:∀w',(invoke (.fn (.func 115) #[pv b9,pv b8]) (#[]++#[])).run Tryz.prog w'=.ok (.enter 115 #[pv b9,pv b8]) w':=fun w'=>by simp[invoke]
  have q29:a4.eval (.tmp 29)=pv p:=hH4.get rfl
  have q30:a4.eval (.tmp 30)=pr.v:=hH4.get rfl
  have q32:a4.eval (.tmp 32)=l.v:=hH4.get rfl
  have t8:a4.tmps.getD 8 undef=pv b8:=hH4.get rfl
  have t9:a4.tmps.getD 9 undef=pv b9:=hH4.get rfl
  have t10:a4.tmps.getD 10 undef=.int .i64 0:=by rw[<- hc];exact hH4.get rfl
  have i4:(c73d)[4]?=some ((c73d).getD 4 dOp):=by kernel_rfl
  have d4:((c73d).getD 4 dOp).dst=some 33:=by kernel_rfl
  have hargs:qFb.args.map a4.eval=#[pv p,pr.v,l.v]:=by grind [qKS]
  have mk:∀{V':Mem} {s':St} {c':Nat},EM W d p F V' s' c'->∃gs ns ls nd,PM V0 d p F b8 b9 gs ns ls nd V' s' c' 0 0 0 0:=fun {V' s' c'} h=>by
   obtain⟨gs,ns,ls,nd,h1,h2⟩:=h.ex
   exact⟨gs,ns,ls,nd,W,w0,wp,h1,h2,W8,W9⟩
  have hrs:(r.st:St)=(qCo d F (qDr d nm) args (qCd m)).st:=by rw[hr,hi]
  refine Go.Sx.step_call i4 (by kernel_rfl) (by simpa using run_callv (c:=qFb) (fv:=playFv) (f:=116) (first:=#[]) (caps:=#[]) (args:=#[pv p,pr.v,l.v]) playCall_op playCall_fv (playFv_eval a4) hargs Tryz.call116) hF4.le H ?_ ?_ ?_
  ·intro ch V' w' hP hF5
   cases r with
   | ok v s'=>cases hP.1
   | bad k s' =>
    obtain⟨he,c',hm'⟩:=hP
    have hch:ch=[{ v:=fltVE k,recovered:=false }]:=by
     unfold fltE at he
     injection he
    subst hch
    obtain⟨gs,ns,ls,nd,P⟩:=mk hm'
    show LeavesIn (qAA none) 0 Tryz.prog _ _ _ a4.defers _ w'
    rw[hdf]
    refine⟨nofun,(fun h=>by simp[qAA,Fence.wide]at h),_,_,_,_,rfl,inv w',fun _ _=>trivial,qJr (lateC n89 v9 P hF5.le (f:=k) (.inr rfl)) ?_⟩
    rintro e u' w'' ⟨⟨v,rfl⟩,⟨V6,hF6,P6⟩,⟨h,-⟩|rfl⟩
    ·cases h
    ·refine⟨_,qDk t8 t9 t10 (hF6.le _ _ P6.at8) (hF6.le _ _ P6.at9),V6,.inr ⟨hc,p,c',.bad k s',by rw[hr,hi],P6.em,rfl⟩,(((hF1.trans hF2).trans hF4).trans hF5).trans hF6⟩
  ·intro v V' w' hP hF5
   cases r with
   | bad k s'=>cases hP.1
   | ok x s' =>
    obtain⟨he,hm'⟩:=hP
    cases he
    rw[d4]
    obtain⟨gs,ns,ls,nd,P⟩:=mk hm'
    have hH5:=qLj hH4 (t:=33) (v:=.int .i64 x) (by decide)
    show wpOpsIn _ _ _ _ _ (List.range' 5 2++[]) _ w'
    rw[playde]
    refine(segE n89 v9 (v:=x) P).step hF5.le (qIc ⟨hH5.1,hH5.2⟩ (by
     intro x hx
     simp only[List.mem_cons,List.not_mem_nil,or_false]at hx
     rcases hx with rfl|rfl|rfl <;> rfl)) ?_
    rintro a6 w6 vs V6 hd6 hH6 ⟨rfl,P6⟩ hF6
    show wpL none 0 Tryz.prog _ (c73f++[.ret]) a6 w6
    refine(segF n89 v8 v9 P6).step hF6.le hH6 ?_
    rintro a7 w7 vs V7 hd7 hH7 ⟨rfl,P7⟩ hF7
    show Code.wpIn (qAA none) 0 Tryz.prog .ret _ a7 w7
    refine wpIn_ret ?_
    show LeavesIn (qAA none) 0 Tryz.prog _ _ _ a7.defers _ w7
    have hdf7:a7.defers=_:=(hd7.trans hd6).trans hdf
    rw[hdf7]
    refine⟨nofun,(fun h=>by simp[qAA,Fence.wide]at h),_,_,_,_,rfl,inv w7,fun _ _=>trivial,qJr (lateC n89 v9 P7 hF7.le (f:=0) (.inl ⟨rfl,rfl⟩)) ?_⟩
    rintro e u' w'' ⟨⟨v,rfl⟩,⟨V8,hF8,P8⟩,⟨-,rfl⟩|rfl⟩
    ·refine⟨_,qDk (hH7.get rfl) (hH7.get rfl) (hH7.get rfl) (hF8.le _ _ P8.at8) (hF8.le _ _ P8.at9),V8,.inr ⟨hc,p,0,.ok x s',by rw[hr,hi],P8.em,rfl⟩,((((((hF1.trans hF2).trans hF4).trans hF5).trans hF6).trans hF7).trans hF8)⟩
    ·refine⟨_,qDk (hH7.get rfl) (hH7.get rfl) (hH7.get rfl) (hF8.le _ _ P8.at8) (hF8.le _ _ P8.at9),V8,.inr ⟨hc,p,0,.ok x s',by rw[hr,hi],P8.em,rfl⟩,((((((hF1.trans hF2).trans hF4).trans hF5).trans hF6).trans hF7).trans hF8)⟩
  ·intro V' hP
   cases r with
   | ok v s'=>cases hP.1
   | bad k s'=>cases hP.1
 ·refine wpIn_cond_true (by grind) (qCy ?_)
  rw[playK_flat]
  refine(segB n89 f8 f9 s1 e8 e9).step hF1.le (qIc hH1 (by
   intro x hx
   simp only[List.mem_cons,List.not_mem_nil,or_false]at hx
   rcases hx with rfl|rfl|rfl <;> rfl)) ?_
  rintro a2 w2 vs V2 hd2 hH2 ⟨rfl,s2,e8',e9'⟩ hF2
  show Code.wpIn (qAA none) 0 Tryz.prog .ret _ a2 w2
  refine wpIn_ret ?_
  show LeavesIn (qAA none) 0 Tryz.prog _ _ _ a2.defers _ w2
  rw[hd2,hd1]
  exact⟨_,qDk (hH2.get rfl) (hH2.get rfl) (hH2.get rfl) (hF2.le _ _ e8') (hF2.le _ _ e9'),V2,.inl ⟨hc,s2,rfl⟩,hF1.trans hF2⟩
end
section
variable{V:Mem}{d:Ds}{F:Nat}{m m':Mm}{nm:ByteArray}{args:List Int}{l:Sl}
theorem values_plain(h:m.plain=m'.plain){t:List Fld}{vs:List Int}:qAi d m t vs=qAi d m' t vs:=by
 rw[Bool.eq_iff_iff]
 grind [qAo,qDY]
theorem qHj(h:m.plain=m'.plain):qCH d m nm args=qCH d m' nm args:=by
 grind [qCH,values_plain]
noncomputable def qBr(d:Ds)(m:Mm)(nm:ByteArray)(args:List Int)(F:Int):Int:=if qAN d m F=0 then qCH d m nm args else qAN d m F
theorem qCO{F:Int}(h:qAN d m F=0):qAv d m:=by
 grind [qAN]
theorem ok_copy(hm:Mm.Ok V m){V':Mem}{gs ns:Sl}{nd:List Nd}(L:Lay V V' gs ns qAC nd (qCd m)):Mm.Ok V' ⟨gs,m.globals,ns,nd⟩/\(⟨gs,m.globals,ns,nd⟩:Mm).plain=m.plain:=by
 have hp:(⟨gs,m.globals,ns,nd⟩:Mm).plain=m.plain:=by
  unfold Mm.plain
  rw[L.eq];rfl
 refine⟨⟨L.glob.rows (fun _=>rfl) (by decide),hm.gIn,L.nodes.rows (fun _=>rfl) (by decide),fun n hn=>?_⟩,hp⟩
 obtain⟨i,hi⟩:=List.mem_iff_getElem?.1 hn
 obtain⟨y,hy,e1,e2⟩:=qFc hp hi
 have hk:=hm.nodesOk y (List.mem_of_getElem? hy)
 exact⟨(L.fld n hn).rows (fun _=>rfl) (by decide),by rw[<- e1];exact hk.tyIn,by rw[<- e2];exact hk.vals⟩
def StartP(V:Mem)(d:Ds)(F:Nat)(m:Mm)(nm:ByteArray)(args:List Int):Ending->Mem->Prop:=fun e V' =>
 (qBr d m nm args F≠0/\V.sub V'/\e=.returned (.tuple #[.pointer none,.agg (qEt 0 0 0 0).toArray,.int .i64 (qBr d m nm args F)])) ∨
 (qBr d m nm args F=0/\∃p c,∃r:Rx Int,r=qCo d F (qDr d nm) args (qCd m)/\EM V d p F V' r.st c/\e=.returned (.tuple #[pv p,.agg (qEt (outC r) (outV r) r.st.cm (qBa r.st.lg)).toArray,.int .i64 0]))
theorem c61[Tab V](hd:Ds.Ok V d)(hm:Mm.Ok V m)(ha:qAc V l 1 (args.map qAf))(hF:F<=4000):Tri Tryz.prog 61 #[d.v,m.v,.agg #[.string nm,l.v],.int .i64 F] V (StartP V d F m nm args):=by
 refine x61 (R:=StartP V d F m nm args) ?_
 unfold w61
 refine(c71 hd hm).call ⟨_,rfl,fun h0=>?_,fun h0=>?_⟩
 ·have G:=qCO h0
  have hs:qBr d m nm args F=qCH d m nm args:=by grind [qBr]
  obtain⟨p1,p2,p3,p4,p5⟩:=qAj G.mem
  have h12:=lens12 G.valid
  refine Tri.mono (c72 hm (by grind [qAG]) p2 fun n hn=>?_) ?_
  ·have:=(qAG.1 (p5 n hn)).1
   have hty:=of_decide_eq_true (p3 n hn)
   obtain⟨j,hj⟩:∃j:Nat,n.ty=(j:Int):=⟨n.ty.toNat,by omega⟩
   have hjl:j<d.types.length:=by omega
   have hx:=List.getElem?_eq_getElem hjl
   rw[hj,qAS hx rfl]at this
   grind
  rintro _ V1 ⟨gs,ns,nd,rfl,L⟩
  obtain⟨hm1,hp⟩:=ok_copy hm L
  have G1:qAv d ⟨gs,m.globals,ns,nd⟩:=⟨G.valid,G.chk,qDW hp.symm G.mem⟩
  have hst:qCd ⟨gs,m.globals,ns,nd⟩=qCd m:=by
   unfold qCd
   rw[show nd.map (fun n=>(n.ty,n.f))=m.nodes.map (fun n=>(n.ty,n.f)) from L.eq]
  have L1:Lay V V1 gs ns qAC nd (qCd ⟨gs,m.globals,ns,nd⟩):=by grind
  refine⟨gs,ns,rfl,Tri.mono (c73 (m:=⟨gs,m.globals,ns,nd⟩) ⟨hd,G.valid,qHU G.valid G.chk,hF⟩ L1 hm1 G1 ha) ?_⟩
  have hcp:qCH d ⟨gs,m.globals,ns,nd⟩ nm args=qCH d m nm args:=qHj hp
  rintro e V2 (⟨hc,hs2,rfl⟩|⟨hc,p,c,r,hr,M,rfl⟩)
  ·rw[hcp]at hc ⊢
   exact⟨_,_,_,_,_,_,_,rfl,.inl ⟨by omega,L.sub.trans hs2,by rw[hs];rfl⟩⟩
  ·rw[hcp]at hc
   exact⟨_,_,_,_,_,_,_,rfl,.inr ⟨by omega,p,c,r,by rw[hr,hst],M,rfl⟩⟩
 ·have hs:qBr d m nm args F=qAN d m F:=by grind [qBr]
  exact .inl ⟨by omega,Mem.sub.refl _,by rw[hs];rfl⟩
def RunP(V:Mem)(d:Ds)(F:Nat)(m:Mm)(nm:ByteArray)(args:List Int):Ending->Mem->Prop:=fun e V' =>
 (qBr d m nm args F≠0/\V.sub V'/\e=.returned (.tuple #[.agg (qEt 0 0 0 0).toArray,.agg #[qAC.v,qAC.v],.int .i64 (qBr d m nm args F)])) ∨
 (qBr d m nm args F=0/\∃r:Rx Int,∃gs ns ls nd,r=qCo d F (qDr d nm) args (qCd m)/\Lay V V' gs ns ls nd r.st/\e=.returned (.tuple #[.agg (qEt (outC r) (outV r) r.st.cm (qBa r.st.lg)).toArray,.agg #[gs.v,ns.v],.int .i64 0]))
theorem c24[Tab V](hd:Ds.Ok V d)(hm:Mm.Ok V m)(ha:qAc V l 1 (args.map qAf))(hF:F<=4000):Tri Tryz.prog 24 #[d.v,m.v,.agg #[.string nm,l.v],.int .i64 F] V (RunP V d F m nm args):=by
 refine x24 (R:=RunP V d F m nm args) ?_
 unfold w24
 refine Tri.mono (c61 hd hm ha hF) ?_
 rintro e V1 (⟨hc,hs,rfl⟩|⟨hc,p,c,r,hr,M,rfl⟩)
 ·exact⟨_,_,_,_,_,_,_,rfl,fun h=>absurd h hc,fun _=>.inl ⟨hc,hs,rfl⟩⟩
 ·obtain⟨gs,ns,ls,nd,hat,L⟩:=M.ex
  exact⟨_,_,_,_,_,_,_,rfl,fun _=>⟨nn,nn,gs,ns,qAe hat 8 2 (by simp[qBT]),qAR hat 8 0 2 (by simp[qBT]),nn,nn,.inr ⟨hc,r,gs,ns,ls,nd,hr,L,rfl⟩⟩,fun h=>absurd rfl h⟩
def TraceP(V:Mem)(d:Ds)(F:Nat)(m:Mm)(nm:ByteArray)(args:List Int):Ending->Mem->Prop:=fun e V' =>
 (qBr d m nm args F≠0/\V.sub V'/\e=.returned (.tuple #[qAC.v,.int .i64 (qBr d m nm args F)])) ∨
 (qBr d m nm args F=0/\∃r:Rx Int,∃ls,r=qCo d F (qDr d nm) args (qCd m)/\Sx.Own V V' 89 3 ls (r.st.lg.flatMap qHH)/\e=.returned (.tuple #[ls.v,.int .i64 0]))
theorem c36[Tab V](hd:Ds.Ok V d)(hm:Mm.Ok V m)(ha:qAc V l 1 (args.map qAf))(hF:F<=4000):Tri Tryz.prog 36 #[d.v,m.v,.agg #[.string nm,l.v],.int .i64 F] V (TraceP V d F m nm args):=by
 refine x36 (R:=TraceP V d F m nm args) ?_
 unfold w36
 refine Tri.mono (c61 hd hm ha hF) ?_
 rintro e V1 (⟨hc,hs,rfl⟩|⟨hc,p,c,r,hr,M,rfl⟩)
 ·exact⟨_,_,_,_,_,_,_,rfl,fun h=>absurd h hc,fun _=>.inl ⟨hc,hs,rfl⟩⟩
 ·obtain⟨gs,ns,ls,nd,hat,L⟩:=M.ex
  exact⟨_,_,_,_,_,_,_,rfl,fun _=>⟨nn,nn,ls,qAe hat 14 1 (by simp[qBT]),.inr ⟨hc,r,ls,hr,L.log,rfl⟩⟩,fun h=>absurd rfl h⟩
end
end Go.Proofs
