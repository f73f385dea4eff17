/- Part 1: no statement of the seat is proved here. -/
import Derived.Tactics
import Derived.Below
import Derived.Laws.Cells
import Derived.Laws.CopyRow
import Derived.Great.BuildSlice
import Derived.Maps.Own
import Derived.Orders
import Derived.Laws.Strings
set_option linter.unusedVariables false
set_option linter.unusedSimpArgs false
open ByteArray renaming empty->zA
open List renaming range->zB,map_cons->zG,append_assoc->zH,cons_append->zI,mem_singleton->zO
open Bool renaming and_eq_true->zC,false_eq_true->zN,not_eq_true'->zU
open Option renaming or_eq_none_iff->zD,map_some->zJ
open Go.Addr renaming add->zE
open Option.some renaming injEq->zF
open Go.Sem renaming run_bind->zK,run_pure->zM
open Go.Result renaming andThen_ok->zL
open Go.ByteArray renaming toList_eq->zP
open Go.IntKind renaming signed->zQ,bits->zR
open Prod.mk renaming injEq->zS
open Go.Op renaming intArith->zT,stringOp->zV,equal->zW,equalIn->zX
open Go.Value renaming pointer->zY,slice->zZ,map->zz
namespace Go.Sx
abbrev _root_.Go.KB:=ByteArray
open Go
abbrev Mem:=Nat->Option Obj
def Mem.le(V:Mem)(w:World):Prop:=∀b o,V b=some o->w.heap[b]?=some o
def Mem.set(V:Mem)(b:Nat)(o:Obj):Mem:=λc=>if c=b then some o else V c
theorem Mem.set_same(V:Mem)(b:Nat)(o:Obj):V.set b o b=some o:=by simp[Mem.set]
theorem Mem.set_ne{V:Mem}{b c:Nat}{o:Obj}(h:c≠b):V.set b o c=V c:=by simp[Mem.set,h]
def Mem.row(V:Mem)(a:Addr)(n:Nat):Option (List Value):=
 match V a.block with
 |some (.cells c _ _)=>if a.spot.isNone/\a.off+n<=c.size then some ((c.toList.drop a.off).take n)else none
 |_=>none
def Mem.rowp(V:Mem)(p:Option Addr)(off n:Nat):Option (List Value):=
 match p with
 |some a=>V.row (a.add off) n
 |none=>none
inductive K where
 |i (k:IntKind)|b|s|sl|p|m|f|r
 deriving DecidableEq
def Aj:Value->Int|.int _ n=>n|_=>0
def asB:Value->Bool|.bool b=>b|_=>false
def AS:Value->KB|.string s=>s|_=>zA
def AN:Value->Option Addr|.pointer a=>a|.slice a _ _=>a|_=>none
def Es:Value->Nat|.slice _ n _=>n|_=>0
def asCap:Value->Nat|.slice _ _ n=>n|_=>0
def Gc:Value->Option Nat|.map r=>r|_=>none
def FG:Value->Bool
 |.agg _|.tuple _=>false
 |_=>true
def K.cast:K->Value->Value
 |.i k,v=>.int k (Aj v)
 |.b,v=>.bool (asB v)
 |.s,v=>.string (AS v)
 |.sl,v=>.slice (AN v) (Es v) (asCap v)
 |.p,v=>.pointer (AN v)
 |.m,v=>.map (Gc v)
 |.f,v=>match v with|.func g a c=>.func g a c|_=>.nilFunc
 |.r,v=>match v with|.agg _=>.nilIface|.tuple _=>.nilIface|v=>v
def K.ok(k:K)(v:Value):Prop:=k.cast v=v
def Shaped:List K->List Value->Prop
 |[],[]=>True
 |k::ks,v::vs=>k.ok v/\Shaped ks vs
 |_,_=>False
inductive U where
 |not|len|cap|slen|poff (n:Nat)|conv (k:IntKind)|wconv (k:IntKind)|inr (k:IntKind)|pnil|slnil|mnil|slbase|neg (k:IntKind)|szero
 deriving DecidableEq
inductive B where
 |add (k:IntKind)|sub (k:IntKind)|mul (k:IntKind)|quo (k:IntKind)|rem (k:IntKind)
 |lt|le|eqi|eqb|eqs|lts|cat|sidx|padd (e sz:Nat)|and|or|imax (k:IntKind)|imin (k:IntKind)|idxok|sidxok|wadd (k:IntKind)|wsub (k:IntKind)|wmul (k:IntKind)
 |bits (o:BinOp) (k:IntKind)
 deriving DecidableEq
inductive C where
 |sel|slc|ssub|bnd|slp (sz:Nat)
 deriving DecidableEq
inductive T where
 |var (k:K) (n:Nat)
 |int (k:IntKind) (n:Int)
 |bool (b:Bool)
 |str (l:List UInt8)
 |und|nilp|nilsl|nilm|nilf|nili
 |box (i off:Nat)
 |glob (g:Nat)
 |fn (f:Nat) (caps:T)
 |u (o:U) (x:T)
 |b2 (o:B) (x y:T)
 |c3 (o:C) (x y z:T)
 |nil|cons (h t:T)
 |agg (cs:T)
 |tup (cs:T)
 deriving DecidableEq
def Aa(p:Option Addr)(n:Nat):Option Addr:=p.map (·.add n)
def U.ev:U->Value->Value
 |.not,x=>.bool (!asB x)
 |.len,x=>.int .i64 (Es x)
 |.cap,x=>.int .i64 (asCap x)
 |.slen,x=>.int .i64 (AS x).size
 |.poff n,x=>.pointer (Aa (AN x) n)
 |.conv k,x=>.int k (Aj x)
 |.wconv k,x=>.int k (k.wrap (Aj x))
 |.inr k,x=>.bool (decide (k.min<=Aj x/\Aj x<=k.max))
 |.pnil,x=>.bool (AN x).isNone
 |.slnil,x=>.bool (AN x).isNone
 |.mnil,x=>.bool (Gc x).isNone
 |.slbase,x=>.pointer (AN x)
 |.neg k,x=>.int k (0-Aj x)
 |.szero,x=>.bool (decide (AS x=zA))
def A0(s:KB)(i:Int):Int:=((s.data[i.toNat]?).map (λb=>(b.toNat:Int))).getD 0
def B.ev:B->Value->Value->Value
 |.add k,x,y=>.int k (Aj x+Aj y)
 |.sub k,x,y=>.int k (Aj x-Aj y)
 |.mul k,x,y=>.int k (Aj x*Aj y)
 |.wadd k,x,y=>.int k (k.wrap (Aj x+Aj y))
 |.wsub k,x,y=>.int k (k.wrap (Aj x-Aj y))
 |.wmul k,x,y=>.int k (k.wrap (Aj x*Aj y))
 |.quo k,x,y=>.int k (k.wrap ((Aj x).tdiv (Aj y)))
 |.rem k,x,y=>.int k ((Aj x).tmod (Aj y))
 |.lt,x,y=>.bool (decide (Aj x<Aj y))
 |.le,x,y=>.bool (decide (Aj x<=Aj y))
 |.eqi,x,y=>.bool (decide (Aj x=Aj y))
 |.eqb,x,y=>.bool (asB x==asB y)
 |.eqs,x,y=>.bool (decide (AS x=AS y))
 |.lts,x,y=>.bool (Op.bytesLess (AS x).toList (AS y).toList)
 |.cat,x,y=>.string (AS x++AS y)
 |.sidx,x,y=>.int .u8 (A0 (AS x) (Aj y))
 |.padd _ sz,x,y=>.pointer (Aa (AN x) ((Aj y).toNat*sz))
 |.and,x,y=>.bool (asB x&&asB y)
 |.or,x,y=>.bool (asB x||asB y)
 |.imax k,x,y=>.int k (max (Aj x) (Aj y))
 |.imin k,x,y=>.int k (min (Aj x) (Aj y))
 |.idxok,x,y=>.bool (decide (0<=Aj y/\Aj y<(Es x:Int)))
 |.sidxok,x,y=>.bool (decide (0<=Aj y/\Aj y<((AS x).size:Int)))
 |.bits o k,x,y=>.int k (Go.bits o k (Aj x) (Aj y))
def C.ev:C->Value->Value->Value->Value
 |.sel,c,x,y=>if asB c then x else y
 |.slc,p,l,c=>.slice (AN p) (Aj l).toNat (Aj c).toNat
 |.ssub,s,l,h=>.string ((AS s).extract (Aj l).toNat (Aj h).toNat)
 |.slp sz,x,l,m=>.pointer (if Aj m=Aj l then AN x else Aa (AN x) ((Aj l).toNat*sz))
 |.bnd,l,h,m=>.bool (decide (0<=Aj l/\Aj l<=Aj h/\Aj h<=Aj m))
mutual
def T.ev(ρ:List Value)(β:Nat->Nat):T->Value
 |.var k n=>k.cast (ρ.getD n undef)
 |.int k n=>.int k n
 |.bool b=>.bool b
 |.str l=>.string ⟨l.toArray⟩
 |.und=>undef
 |.nilp=>.pointer none
 |.nilsl=>.slice none 0 0
 |.nilm=>.map none
 |.nilf=>.nilFunc
 |.nili=>.nilIface
 |.box i off=>.pointer (some ⟨β i,off,none⟩)
 |.glob g=>.pointer (some ⟨g,0,none⟩)
 |.fn f caps=>.func (.func f) #[] (caps.evs ρ β).toArray
 |.u o x=>o.ev (x.ev ρ β)
 |.b2 o x y=>o.ev (x.ev ρ β) (y.ev ρ β)
 |.c3 o x y z=>o.ev (x.ev ρ β) (y.ev ρ β) (z.ev ρ β)
 |.nil=>undef
 |.cons _ _=>undef
 |.agg cs=>.agg (cs.evs ρ β).toArray
 |.tup cs=>.tuple (cs.evs ρ β).toArray
def T.evs(ρ:List Value)(β:Nat->Nat):T->List Value
 |.cons h t=>h.ev ρ β::t.evs ρ β
 |.nil=>[]
 |_=>[]
end
def T.kind:T->Option K
 |.var k _=>some k
 |.int k _=>some (.i k)
 |.bool _=>some .b
 |.str _=>some .s
 |.nilp=>some .p|.nilsl=>some .sl|.nilm=>some .m|.nilf=>some .f|.nili=>some .r
 |.box _ _|.glob _=>some .p
 |.fn _ _=>some .f
 |.u o _=>match o with
  |.not|.inr _|.pnil|.slnil|.mnil|.szero=>some .b
  |.len|.cap|.slen=>some (.i .i64)
  |.poff _|.slbase=>some .p
  |.conv k|.wconv k|.neg k=>some (.i k)
 |.b2 o _ _=>match o with
  |.add k|.sub k|.mul k|.quo k|.rem k|.imax k|.imin k|.wadd k|.wsub k|.wmul k|.bits _ k=>some (.i k)
  |.lt|.le|.eqi|.eqb|.eqs|.lts|.and|.or|.idxok|.sidxok=>some .b
  |.cat=>some .s
  |.sidx=>some (.i .u8)
  |.padd _ _=>some .p
 |.c3 o _ y z=>match o with
  |.sel=>match y.kind,z.kind with|some j,some k=>if j=k then some j else none|_,_=>none
  |.slc=>some .sl
  |.ssub=>some .s
  |.bnd=>some .b
  |.slp _=>some .p
 |_=>none
def T.wf(n b:Nat):T->Bool
 |.var _ m=>decide (m<n)
 |.box i _=>decide (i<b)
 |.fn _ caps=>caps.wf n b
 |.u _ x=>x.wf n b
 |.b2 _ x y=>x.wf n b&&y.wf n b
 |.c3 _ x y z=>x.wf n b&&y.wf n b&&z.wf n b
 |.cons h t=>h.wf n b&&t.wf n b
 |.agg cs=>cs.wf n b
 |.tup cs=>cs.wf n b
 |_=>true
def T.firstBox:T->Option Nat
 |.box i _=>some i
 |.fn _ caps=>caps.firstBox
 |.u _ x=>x.firstBox
 |.b2 _ x y=>x.firstBox.or y.firstBox
 |.c3 _ x y z=>x.firstBox.or (y.firstBox.or z.firstBox)
 |.cons h t=>h.firstBox.or t.firstBox
 |.agg cs=>cs.firstBox
 |.tup cs=>cs.firstBox
 |_=>none
def T.poff:T->Nat->T
 |.box i o,n=>.box i (o+n)
 |.u (.poff m) q,n=>.u (.poff (m+n)) q
 |q,n=>.u (.poff n) q
def T.subst(i k:Nat):T->T
 |.box j o=>if j=i then .u (.poff o) (.var .p k)else .box j o
 |.fn f caps=>.fn f (caps.subst i k)
 |.u o x=>.u o (x.subst i k)
 |.b2 o x y=>.b2 o (x.subst i k) (y.subst i k)
 |.c3 o x y z=>.c3 o (x.subst i k) (y.subst i k) (z.subst i k)
 |.cons h t=>.cons (h.subst i k) (t.subst i k)
 |.agg cs=>.agg (cs.subst i k)
 |.tup cs=>.tup (cs.subst i k)
 |t=>t
inductive RK where
 |one (k:K)
 |agg (ks:List K)
 deriving DecidableEq
def RK.size:RK->Nat|.one _=>1|.agg ks=>ks.length
def RK.kinds:RK->List K|.one k=>[k]|.agg ks=>ks
def RK.val:RK->List Value->Value
 |.one _,vs=>vs.headD undef
 |.agg _,vs=>.agg vs.toArray
def Gd:List RK->List Value->List Value
 |[],_=>[]
 |r::rs,vs=>r.val (vs.take r.size)::Gd rs (vs.drop r.size)
def DW(rs:List RK)(vs:List Value):Value:=
 match rs with
 |[r]=>r.val vs
 |rs=>.tuple (Gd rs vs).toArray
inductive Tr where
 |bad (why:Nat) (at_:Nat)
 |ret (v:T)
 |br (c:T) (a b:Tr)
 |need (c:T) (k:Tr)
 |ld (base idx:T) (sz n:Nat) (ks:List K) (k:Tr)
 |st (p:T) (off:Nat) (cs:T) (k:Tr)
 |pub (cs:T) (ty:Nat) (k:Tr)
 |call (f:Nat) (args:T) (rs:List RK) (k:Tr)
 |callv (fv:T) (args:T) (rs:List RK) (k:Tr)
 |loop (init:T) (ks:List K) (body:Tr)
 |cont (lvl:Nat) (vals:T)
 |gen (o:Op) (ty:Nat) (ts:List (Nat×T)) (rs:List RK) (k:Tr)
 |gens (o:Op) (ty:Nat) (ts:List (Nat×T)) (k:Tr)
 |again (p:T) (cs:T) (k:Tr)
 |both (a b:Tr)
 |pan (v:T)
end Go.Sx
namespace Go.Sx
open Go
structure Aq (V:Mem)(w:World)(V':Mem)(w':World):Prop where
 size:w.heap.size<=w'.heap.size
 le:V'.le w'
 old:∀b,b<w.heap.size->V b=none->w'.heap[b]?=w.heap[b]?
 dom:∀b,V' b≠none->V b≠none∨w.heap.size<=b
 os:w'.os=w.os
 out:w'.output=w.output
theorem Aq.refl{V:Mem}{w:World}(h:V.le w):Aq V w V w:=
 ⟨Nat.le_refl _,h,λ_ _ _=>rfl,λ_ h=>.inl h,rfl,rfl⟩
theorem Aq.trans{V V' d:Mem}{w w' J:World}(h:Aq V w V' w')(k:Aq V' w' d J):Aq V w d J:=by
  refine⟨Nat.le_trans h.size k.size,k.le,λb G Y=>?_,λb G=>?_,k.os.trans h.os,k.out.trans h.out⟩
  · have Z:V' b=none:=by
      cases W:V' b with
      |none=>rfl
      | some o => rcases h.dom b (by simp[W]) with q|q
                  · exact absurd Y q
                  · omega
    exact(k.old b (Nat.lt_of_lt_of_le G h.size) Z).trans (h.old b G Y)
  · rcases k.dom b G with q|q;· exact h.dom b q
    · exact .inr (Nat.le_trans h.size q)
def Tri(P:Program)(f:FuncId)(args:Array Value)(V:Mem)(R:Ending->Mem->Prop):Prop:=
 ∀w,V.le w->Calls P f args w λe w'=>∃V',R e V'/\Aq V w V' w'
theorem Tri.mono{P:Program}{f:FuncId}{args:Array Value}{V:Mem}{R q:Ending->Mem->Prop}(h:Tri P f args V R)
  (d:∀e V',R e V'->q e V'):Tri P f args V q:=λw hw cs=>
 let⟨e,w',fr,⟨V',J,G⟩,rest⟩:=h w hw cs
 ⟨e,w',fr,⟨V',d _ _ J,G⟩,rest⟩
def gv(l:List (Nat×Value)):Operand->Value
 |.tmp t=>(l.lookup t).getD undef
 |.const v=>v
 |.global g=>.pointer (some ⟨g,0,none⟩)
 |.func f=>.func (.func f) #[] #[]
def gval(ts:List (Nat×T))(ρ:List Value):Operand->Value:=gv (ts.map λx=>(x.1,x.2.ev ρ id))
def D(P:Program)(R:Ending->Mem->Prop):Tr->List (List Value->Mem->Prop)->List Value->Mem->Prop
 |.bad _ _,_,_,_=>False
 |.ret v,_,ρ,V=>R (.returned (v.ev ρ id)) V
 |.br c a b,L,ρ,V=>(asB (c.ev ρ id)=true->D P R a L ρ V)/\(asB (c.ev ρ id)=false->D P R b L ρ V)
 |.need c k,L,ρ,V=>asB (c.ev ρ id)=true/\D P R k L ρ V
 |.ld base idx sz n ks k,L,ρ,V=>∃vs,V.rowp (AN (base.ev ρ id)) ((Aj (idx.ev ρ id)).toNat*sz) n=some vs/\Shaped ks vs/\D P R k L (ρ++vs) V
 |.st p off cs k,L,ρ,V=>∃a c ty,AN (p.ev ρ id)=some a/\V a.block=some (.cells c ty (0,0))/\a.spot=none/\a.off+off+(cs.evs ρ id).length<=c.size/\
   D P R k L ρ (V.set a.block (.cells (c.toList.take (a.off+off)++cs.evs ρ id++c.toList.drop (a.off+off+(cs.evs ρ id).length)).toArray ty (0,0)))
 |.pub cs ty k,L,ρ,V=>∀b,V b=none->D P R k L (ρ++[.pointer (some ⟨b,0,none⟩)]) (V.set b (.cells (cs.evs ρ id).toArray ty (0,0)))
 |.call f args rs k,L,ρ,V=>Tri P f (args.evs ρ id).toArray V λe V'=>(∃vs,e=.returned (DW rs vs)/\Shaped (rs.flatMap RK.kinds) vs/\D P R k L (ρ++vs) V')∨∃d,e=.panicked d/\R e V'
 |.callv fv args rs k,L,ρ,V=>∃f first caps,fv.ev ρ id=.func (.func f) first caps/\(∀args w,(callFunc f args).run P w=.ok (.enter f args) w)/\
   Tri P f (first++(args.evs ρ id).toArray++caps) V λe V'=>(∃vs,e=.returned (DW rs vs)/\Shaped (rs.flatMap RK.kinds) vs/\D P R k L (ρ++vs) V')∨∃d,e=.panicked d/\R e V'
 |.loop init ks body,L,ρ,V=>∃(I:List Value->Mem->Prop)(G:List Value->Mem->Nat),I (init.evs ρ id) V/\
   ∀xs V',Shaped ks xs->I xs V'->D P R body (L++[λZ q=>I Z q/\G Z q<G xs V']) (ρ++xs) V'
 |.cont lvl vals,L,ρ,V=>∃J,L[lvl]?=some J/\J (vals.evs ρ id) V
 |.gen o ty ts rs k,L,ρ,V=>∀w,V.le w->∃x w' V' vs,(execOp (gval ts ρ) { dst:=none,op:=o,type:=ty,pos:= "",after:=#[],guard:=none}).run P w=.ok (.value x) w'/\
   Aq V w V' w'/\x=DW rs vs/\Shaped (rs.flatMap RK.kinds) vs/\D P R k L (ρ++vs) V'
 |.again p cs k,L,ρ,V=>V.rowp (AN (p.ev ρ id)) 0 (cs.evs ρ id).length=some (cs.evs ρ id)/\D P R k L ρ V
 |.both a b,L,ρ,V=>D P R a L ρ V/\D P R b L ρ V
 |.pan v,_,ρ,V=>∃t x,v.ev ρ id=.iface t x/\R (.panicked [{v:=.iface t x,recovered:=false}]) V
 |.gens o ty ts k,L,ρ,V=>∀w,V.le w->∃w' V',(execOp (gval ts ρ) { dst:=none,op:=o,type:=ty,pos:= "",after:=#[],guard:=none}).run P w=.ok .skip w'/\
   Aq V w V' w'/\D P R k L ρ V'
structure St where
 slots:List (Nat×T)
 boxes:List (Nat×T×Nat)
 nv:Nat
 nb:Nat
 depth:Nat
def St.put(st:St)(d:Nat)(t:T):St:={st with slots:=(d,t)::st.slots}
def St.putO(st:St)(d:Option Nat)(t:T):St:=match d with|some d=>st.put d t|none=>st
def St.get(st:St)(s:Nat):Option T:=match st.slots.lookup s with|some .nil=>none|x=>x
def St.box(st:St)(i:Nat):Option (T×Nat):=st.boxes.lookup i
def St.setBox(st:St)(i:Nat)(cs:T)(ty:Nat):St:={st with boxes:=(i,cs,ty)::st.boxes}
def St.wf(st:St):Bool:=st.slots.all (λx=>x.2.wf st.nv st.nb)&&st.boxes.all (λx=>decide (x.1<st.nb)&&x.2.1.wf st.nv st.nb)
def T.ofList:List T->T
 |[]=>.nil
 |t::ts=>.cons t (T.ofList ts)
def T.toList:T->List T
 |.cons h t=>h::t.toList
 |_=>[]
def vars(ks:List K)(n:Nat):List T:=
 match ks with
 |[]=>[]
 |k::ks=>.var k n::vars ks (n+1)
def Ee:Value->Option T
 |.int k n=>some (.int k n)
 |.bool b=>some (.bool b)
 |.string s=>some (.str s.data.toList)
 |.pointer none=>some .nilp
 |.slice none 0 0=>some .nilsl
 |.map none=>some .nilm
 |.nilFunc=>some .nilf
 |.nilIface=>some .nili
 |.func (.func f) a c=>if a.isEmpty&&c.isEmpty then some (.fn f .nil)else none
 |_=>none
def Ge:List Value->Option (List T)
 |[]=>some []
 |v::vs=>match Ee v,Ge vs with|some t,some ts=>some (t::ts)|_,_=>none
def valT:Value->Option T
 |.agg cs=>(Ge cs.toList).map λts=>.agg (T.ofList ts)
 |.tuple cs=>if cs.isEmpty then some .und else none
 |v=>Ee v
def kindV:Value->Option K
 |.int k _=>some (.i k)
 |.bool _=>some .b
 |.string _=>some .s
 |.pointer _=>some .p
 |.slice ..=>some .sl
 |.map _=>some .m
 |.nilFunc=>some .f
 |.func ..=>some .f
 |.nilIface=>some .r
 |.iface ..=>some .r
 |_=>none
def kindsV:List Value->Option (List K)
 |[]=>some []
 |v::vs=>match kindV v,kindsV vs with|some k,some ks=>some (k::ks)|_,_=>none
def Bh(st:St):Operand->Option T
 |.tmp t=>st.get t
 |.const v=>valT v
 |.global g=>some (.glob g)
 |.func f=>some (.fn f .nil)
def opTs(st:St):List Operand->Option (List T)
 |[]=>some []
 |o::os=>match Bh st o,opTs st os with|some t,some ts=>some (t::ts)|_,_=>none
def T.cellsT:T->T
 |.agg cs=>cs
 |t=>.cons t .nil
def Fl:T->Bool
 |.agg _=>true
 |_=>false
section
variable(P:Program)
def isAggB(t:TypeId):Option Bool:=(P.underlying t).map λd=>match d with|.struct _|.array _ _=>true|_=>false
def Ef(t:TypeId):Option Value:=(P.info? t).bind (·.zero)
def Cs(t:TypeId):Option Nat:=(P.info? t).map (·.size)
def Et(t:TypeId):Option (List T):=(Ef P t).bind λv=>Ge v.cells.toList
def kindsOf(t:TypeId):Option (List K):=(Ef P t).bind λv=>kindsV v.cells.toList
def rk(t:TypeId):Option RK:=
 match isAggB P t,kindsOf P t with
 |some true,some ks=>some (.agg ks)
 |some false,some [k]=>some (.one k)
 |_,_=>none
def rkList:List TypeId->Option (List RK)
 |[]=>some []
 |t::ts=>match rk P t,rkList ts with|some r,some rs=>some (r::rs)|_,_=>none
def rkOf(t:TypeId):Option (List RK):=
 match P.underlying t with
 |some (.tuple ts)=>if ts.size=1 then none else rkList P ts.toList
 |some _=>(rk P t).map ([·])
 |none=>none
end
def Eu:List RK->Nat->List T
 |[],_=>[]
 |.one k::rs,n=>.var k n::Eu rs (n+1)
 |.agg ks::rs,n=>.agg (T.ofList (vars ks n))::Eu rs (n+ks.length)
def GK(rs:List RK)(n:Nat):T:=
 match Eu rs n with
 |[t]=>t
 |ts=>.tup (T.ofList ts)
def Gf(rs:List RK):Nat:=(rs.flatMap RK.kinds).length
def nn(x:T):List T:=
 match x with
 |.box _ _=>[]
 |.glob _=>[]
 |x=>[.u .not (.u .pnil x)]
def DJ(x:T):T:=
 match x with
 |.c3 .slc p _ _=>p
 |x=>.u .slbase x
def slLen(x:T):T:=
 match x with
 |.c3 .slc _ (.int _ n) _=>if 0<=n then .int .i64 n else .u .len x
 |.nilsl=>.int .i64 0
 |x=>.u .len x
def Ev(x:T):T:=
 match x with
 |.c3 .slc _ _ (.int _ n)=>if 0<=n then .int .i64 n else .u .cap x
 |.nilsl=>.int .i64 0
 |x=>.u .cap x
def paddT(e sz:Nat)(p i:T):T:=
 match p,i with
 |.box b o,.int _ n=>if 0<=n then .box b (o+n.toNat*sz)else .b2 (.padd e sz) p i
 |p,i=>.b2 (.padd e sz) p i
def notT(x:T):T:=
 match x with
 |.bool b=>.bool (!b)
 |x=>.u .not x
def inr(k:IntKind)(x:T):List T:=[.u (.inr k) x]
def cmpI(op:BinOp)(x y:T):Option T:=
 match op with
 |.eql=>some (match x,y with|.int _ a,.int _ b=>.bool (decide (a=b))|x,y=>.b2 .eqi x y)
 |.neq=>some (match x,y with|.int _ a,.int _ b=>.bool (!decide (a=b))|x,y=>.u .not (.b2 .eqi x y))
 |.lss=>some (match x,y with|.int _ a,.int _ b=>.bool (decide (a<b))|x,y=>.b2 .lt x y)
 |.leq=>some (match x,y with|.int _ a,.int _ b=>.bool (decide (a<=b))|x,y=>.b2 .le x y)
 |.gtr=>some (match x,y with|.int _ a,.int _ b=>.bool (decide (b<a))|x,y=>.b2 .lt y x)
 |.geq=>some (match x,y with|.int _ a,.int _ b=>.bool (decide (b<=a))|x,y=>.b2 .le y x)
 |_=>none
def binI(op:BinOp)(k:IntKind)(x y:T):Option (List T×T):=
 match op with
 |.add=>some (inr k (.b2 (.add k) x y),.b2 (.add k) x y)
 |.sub=>some (inr k (.b2 (.sub k) x y),.b2 (.sub k) x y)
 |.mul=>match k with|.u64=>some ([],.b2 (.wmul .u64) x y)|.u32=>some ([],.b2 (.wmul .u32) x y)|k=>some (inr k (.b2 (.mul k) x y),.b2 (.mul k) x y)
 |.quo=>some ([.u .not (.b2 .eqi y (.int k 0))],.b2 (.quo k) x y)
 |.rem=>some ([.u .not (.b2 .eqi y (.int k 0))],.b2 (.rem k) x y)
 |.and|.or|.xor|.andNot=>some ([],.b2 (.bits op k) x y)
 |op=>(cmpI op x y).map ([],·)
def binS(op:BinOp)(x y:T):Option (List T×T):=
 match op with
 |.add=>some (inr .i64 (.b2 (.add .i64) (.u .slen x) (.u .slen y)),.b2 .cat x y)
 |.eql=>some ([],.b2 .eqs x y)
 |.neq=>some ([],.u .not (.b2 .eqs x y))
 |.lss=>some ([],.b2 .lts x y)
 |.geq=>some ([],.u .not (.b2 .lts x y))
 |.leq=>some ([],.b2 .or (.b2 .lts x y) (.b2 .eqs x y))
 |.gtr=>some ([],.u .not (.b2 .or (.b2 .lts x y) (.b2 .eqs x y)))
 |_=>none
def eqOr(op:BinOp)(t:T):Option (List T×T):=
 match op with
 |.eql=>some ([],t)
 |.neq=>some ([],notT t)
 |_=>none
def eqNil(op:BinOp)(n:T)(f:U)(x y:T):Option (List T×T):=
 if x=n then eqOr op (.u f y)else if y=n then eqOr op (.u f x)else none
def binOpT(P:Program)(op:BinOp)(q:TypeId)(x y:T):Option (List T×T):=
 match op with
 |.shl=>
  match x.kind,y with
  |some (.i k),.int _ c=>if 0<=c/\c<=k.bits then some ([],.b2 (.wmul k) x (.int k (2^c.toNat)))else none
  |_,_=>none
 |.shr=>none
 |op=>
  match x.kind,y.kind with
  |some (.i k),some (.i d)=>if k=d then binI op k x y else none
  |some .s,some .s=>binS op x y
  |some .b,some .b=>match P.underlying q with|some .bool=>eqOr op (.b2 .eqb x y)|_=>none
  |some .p,some .p=>match P.underlying q with|some (.pointer _)=>eqNil op .nilp .pnil x y|_=>none
  |some .sl,some .sl=>match P.underlying q with|some (.slice _)=>eqNil op .nilsl .slnil x y|_=>none
  |some .m,some .m=>match P.underlying q with|some (.map _ _)=>eqNil op .nilm .mnil x y|_=>none
  |_,_=>none
def CY:T->Option (List K)
 |.nil=>some []
 |.cons h t=>match h.kind,CY t with|some k,some ks=>some (k::ks)|_,_=>none
 |_=>none
def Fm(q:Nat->Option (Nat×Nat))(cells:List T):List (Nat×T)->Option (List T)
 |[]=>some cells
 |(i,t)::rest=>
  match q i with
  |none=>none
  |some (off,size)=>
   let ts:=t.cellsT.toList
   if ts.length=size/\off+size<=cells.length/\(CY t.cellsT).isSome then Fm q (cells.take off++ts++cells.drop (off+size)) rest else none
def partsT(st:St):List (Nat×Operand)->Option (List (Nat×T))
 |[]=>some []
 |(i,x)::rest=>match Bh st x,partsT st rest with|some t,some ts=>some ((i,t)::ts)|_,_=>none
def Ih(P:Program)(fs:Array Field):Nat->Option (Nat×Nat):=λi=>(fs[i]?).bind λf=>(Cs P f.type).map λs=>(f.offset,s)
def takeT(t:T)(off n:Nat):List T:=(t.toList.drop off).take n
def Dd(P:Program)(t:TypeId)(cs:T)(off:Nat):Option T:=
 match isAggB P t,Cs P t with
 |some true,some n=>let l:=takeT cs off n;if l.length=n then some (.agg (T.ofList l))else none
 |some false,some _=>cs.toList[off]?
 |_,_=>none
def eqFs(g:TypeId->T->T->Option T)(P:Program)(cs ds:T):List Field->Option T
 |[]=>some (.bool true)
 |f::fs=>
  if f.name= "_" then none else
  match Dd P f.type cs f.offset,Dd P f.type ds f.offset with
  |some x,some y=>
   match g f.type x y with
   |some a=>if fs.isEmpty then some a else(eqFs g P cs ds fs).map (.b2 .and a)
   |none=>none
  |_,_=>none
def HA(P:Program):Nat->TypeId->T->T->Option T
 |0,_,_,_=>none
 |d+1,t,x,y=>
  match P.underlying t,x.kind,y.kind with
  |some (.int _),some (.i k),some (.i q)=>if k=q then some (.b2 .eqi x y)else none
  |some .string,some .s,some .s=>some (.b2 .eqs x y)
  |some .bool,some .b,some .b=>some (.b2 .eqb x y)
  |some (.struct fs),none,none=>
   match x,y with
   |.agg cs,.agg ds=>if P.stoodInHeld t=false then eqFs (HA P d) P cs ds fs.toList else none
   |_,_=>none
  |_,_,_=>none
def eqAgg(P:Program)(op:BinOp)(q:TypeId)(x y:T):Option (List T×T):=
 match x,y with
 |.agg _,.agg _=>if P.eqGuardType P.depth q=false then(HA P 5 q x y).bind (eqOr op)else none
 |_,_=>none
def CC(P:Program)(st:St):Op->Option (List T×T)
 |.move x|.assign x=>(Bh st x).map ([],·)
 |.pick c a b=>
  match Bh st c,Bh st a,Bh st b with
  |some (.bool v),some x,some y=>some ([],if v then x else y)
  |_,_,_=>none
 |.load t a=>
  match Bh st a with
  |some (.box i o)=>(st.box i).bind λx=>(Dd P t x.1 o).map ([],·)
  |_=>none
 |.fieldAddr s x f=>
  match P.underlying s,Bh st x with
  |some (.struct fs),some p=>
   (fs[f]?).bind λd=>match Cs P d.type with
    |some (_+1)=>if p.kind=some .p then some (nn p,p.poff d.offset)else none
    |_=>none
  |_,_=>none
 |.indexAddr t x i=>
  match P.underlying t,Bh st x,Bh st i with
  |some (.slice e),some s,some j=>
   match s.kind,j.kind,Cs P e with
   |some .sl,some (.i _),some sz=>some (nn (DJ s)++[.b2 .le (.int .i64 0) j,.b2 .lt j (slLen s)],paddT e sz (DJ s) j)
   |_,_,_=>none
  |some (.array len e),some p,some (.int _ k)=>
   match Cs P e with
   |some sz=>if p.kind=some .p/\0<=k/\k<(len:Int)then some (nn p,p.poff (k.toNat*sz))else none
   |none=>none
  |_,_,_=>none
 |.index t x i=>
  match P.underlying t,Bh st x,Bh st i with
  |some .string,some s,some j=>
   match s.kind,j.kind with
   |some .s,some (.i _)=>some ([.b2 .sidxok s j],.b2 .sidx s j)
   |_,_=>none
  |_,_,_=>none
 |.binOp op J x y _=>
  match Bh st x,Bh st y with
  |some a,some b=>(binOpT P op J a b).or (eqAgg P op J a b)
  |_,_=>none
 |.unOp op _ x=>
  match op,Bh st x with
  |.not,some t=>if t.kind=some .b then some ([],notT t)else none
  |.neg,some t=>match t.kind with|some (.i k)=>some (inr k (.u (.neg k) t),.u (.neg k) t)|_=>none
  |_,_=>none
 |.convert G dst x=>
  match P.underlying G,P.underlying dst,Bh st x with
  |some (.int _),some (.int k),some t=>
   match t.kind with
   |some (.i j)=>if j=k then some (inr k t,t)else if k=.u8 then some ([],.u (.wconv .u8) t)else some (inr k t,.u (.conv k) t)
   |_=>none
  |some .string,some .string,some t=>if t.kind=some .s then some ([],t)else none
  |_,_,_=>none
 |.build t parts=>
  match P.underlying t,Et P t,partsT st parts.toList with
  |some (.struct fs),some z,some ps=>if fs.toList.all (λf=>(Cs P f.type).isSome)then(Fm (Ih P fs) z ps).map λcs=>([],.agg (T.ofList cs))else none
  |some (.array _ e),some z,some ps=>
   match Cs P e with
   |some sz=>(Fm (λi=>some (i*sz,sz)) z ps).map λcs=>([],.agg (T.ofList cs))
   |none=>none
  |_,_,_=>none
 |.field J x f=>
  match P.underlying J,Bh st x with
  |some (.struct fs),some (.agg cs)=>(fs[f]?).bind λd=>(Dd P d.type cs d.offset).map ([],·)
  |_,_=>none
 |.extract x i=>
  match Bh st x with
  |some (.tup cs)=>(cs.toList[i]?).map ([],·)
  |_=>none
 |.makeFunc fn first q=>
  match fn,opTs st q.toList with
  |.func f,some ts=>if first.isEmpty then some ([],.fn f (T.ofList ts))else none
  |_,_=>none
 |.nilCheck x=>
  match Bh st x with
  |some (.fn f cs)=>some ([],.fn f cs)
  |some p=>if p.kind=some .p then some (nn p,p)else none
  |none=>none
 |.slice t x Z Y W=>
  match P.underlying t,Bh st x,W with
  |some .string,some s,none=>
   match s.kind,(match Z with|some l=>Bh st l|none=>some (.int .i64 0)),(match Y with|some h=>Bh st h|none=>some (.u .slen s))with
   |some .s,some l,some h=>match l.kind,h.kind with
    |some (.i _),some (.i _)=>some ([.c3 .bnd l h (.u .slen s)],.c3 .ssub s l h)
    |_,_=>none
   |_,_,_=>none
  |some (.slice e),some s,none=>
   match s.kind,Cs P e,(match Z with|some l=>Bh st l|none=>some (.int .i64 0)),(match Y with|some h=>Bh st h|none=>some (slLen s))with
   |some .sl,some sz,some l,some h=>match l.kind,h.kind with
    |some (.i _),some (.i _)=>some ([.c3 .bnd l h (Ev s)],.c3 .slc (.c3 (.slp sz) (DJ s) l (Ev s)) (.b2 (.sub .i64) h l) (.b2 (.sub .i64) (Ev s) l))
    |_,_=>none
   |_,_,_,_=>none
  |_,_,_=>none
 |.call c=>
  match c.callee,opTs st c.args.toList,c.argTypes.toList with
  |.builtin .len,some [x],[t]=>
   match x.kind,P.underlying t with
   |some .sl,some (.slice _)=>some ([],slLen x)
   |some .s,some .string=>some ([],.u .slen x)
   |_,_=>none
  |.builtin .cap,some [x],[t]=>
   match x.kind,P.underlying t with
   |some .sl,some (.slice _)=>some ([],Ev x)
   |_,_=>none
  |_,_,_=>none
 |_=>none
inductive Ex where
 |normal|exit (id:Nat)|ret
 deriving DecidableEq
structure Ca where
 early:List Nat:=[]
 loops:List (Nat×List Nat):=[]
 keep:List Nat:=[]
 N:Nat
def Dm(N:Nat)(d:Option Nat):Bool:=match d with|some d=>decide (d<N)|none=>true
def GL(l:List (Nat×T)):List Nat->List (Nat×T)
 |[]=>[]
 |s::q=>match l.lookup s with|some t=>(s,t)::GL l q|none=>GL l q
def St.compact(st:St)(keep:List Nat):St:={st with slots:=GL st.slots keep}
def St.drop(st:St)(d:Nat):St:={st with slots:=st.slots.filter (λx=>x.1 !=d)}
def St.now(st:St)(d:Nat)(t:T):St:=(st.drop d).put d t
def St.pubd(st:St)(i:Nat):St:=
  { st with slots:=st.slots.map (fun x=>(x.1,x.2.subst i st.nv)),
            boxes:=(st.boxes.filter (λx=>x.1 !=i)).map (λx=>(x.1,x.2.1.subst i st.nv,x.2.2)),
            nv:=st.nv+1}
def GM:Nat->St->Nat->(St->Tr)->Tr
 |0,_,i,_=>.bad 1 i
 |n+1,st,i,k=>
  match st.box i with
  |none=>.bad 2 i
  |some (cs,ty)=>
   match cs.firstBox with
   |some j=>GM n st j λst=>GM n st i k
   |none=>if st.wf then .pub cs ty (k (st.pubd i))else .bad 3 i
def pubT:Nat->St->(St->Option T)->(St->T->Tr)->Tr
 |0,_,_,_=>.bad 4 0
 |n+1,st,get,k=>
  match get st with
  |none=>.bad 5 0
  |some t=>
   match t.firstBox with
   |none=>k st t
   |some i=>GM (st.nb+1) st i λst=>pubT n st get k
def St.more(st:St)(n:Nat):St:={st with nv:=st.nv+n}
def bind(st:St)(n:Nat)(k:St->Tr):Tr:=if st.wf then k (st.more n)else .bad 6 0
def needs:List T->Tr->Tr
 |[],k=>k
 |n::ns,k=>if n.firstBox=none/\n.kind=some .b then .need n (needs ns k)else .bad 7 0
section
variable(P:Program)(fs:List Nat)(H:Ca)
def GN(st:St)(dst:Option Nat)(cs:T)(ty:Nat)(v:Nat->T)(k:St->Tr):Tr:=
 if st.wf&&cs.wf st.nv st.nb then
  let q:St:=({st with boxes:=(st.nb,cs,ty)::st.boxes,nb:=st.nb+1}).putO dst (v st.nb)
  match dst with
  |some d=>if H.early.contains d then GM (st.nb+2) q st.nb k else k q
  |none=>k q
 else .bad 8 0
def ER(l:List Operand):List Nat:=l.filterMap λ|.tmp t=>some t|_=>none
def Ew(st:St):List Nat->Option T
 |[]=>some .nil
 |t::ts=>match st.get t,Ew st ts with|some x,some xs=>some (.cons x xs)|_,_=>none
def exCall(st:St)(o:Oper)(c:Call)(f:Operand)(k:St->Tr):Tr:=
 match rkOf P o.type with
 |none=>.bad 10 0
 |some rs=>
  match Bh st f with
  |some (.fn _ _)=>
   pubT (st.nb+2) st (λst=>match Bh st f,opTs st c.args.toList with|some (.fn g caps),some ts=>some (.fn g (T.ofList (ts++caps.toList)))|_,_=>none) λst t=>
    match t with
    |.fn g args=>if fs.contains g then bind st (Gf rs) λq=>.call g args rs (k (q.putO o.dst (GK rs st.nv)))else .bad 11 g
    |_=>.bad 12 0
  |some _=>
   pubT (st.nb+2) st (λst=>match Bh st f,opTs st c.args.toList with|some t,some ts=>some (.cons t (T.ofList ts))|_,_=>none) λst t=>
    match t with
    |.cons fv args=>bind st (Gf rs) λq=>.callv fv args rs (k (q.putO o.dst (GK rs st.nv)))
    |_=>.bad 13 0
  |none=>.bad 14 0
def isSkip:Op->Bool
 |.mapUpdate ..|.insert ..=>true
 |_=>false
def ET:Op->Bool
 |.select _ _=>true
 |_=>false
def exGen(st:St)(o:Oper)(k:St->Tr):Tr:=
 let l:=ER o.op.operands.toList
 if ET o.op then .bad 60 0 else
 if isSkip o.op then
  pubT (st.nb+2) st (λst=>Ew st l) λst t=>.gens o.op o.type (l.zip t.toList) (k (st.putO o.dst .und))
 else
 match rkOf P o.type with
 |none=>.bad 15 0
 |some rs=>pubT (st.nb+2) st (λst=>Ew st l) λst t=>
   bind st (Gf rs) λq=>.gen o.op o.type (l.zip t.toList) rs (k (q.putO o.dst (GK rs st.nv)))
def exPanic(st:St)(x:Operand):Tr:=pubT (st.nb+2) st (λst=>Bh st x) λ_ t=>.pan t
def Gg:T->T×T×Nat×Nat×Option Nat
 |.u (.poff off) (.b2 (.padd e sz) b i)=>(b,i,sz,off,some e)
 |.b2 (.padd e sz) b i=>(b,i,sz,0,some e)
 |.u (.poff off) q=>(q,.int .i64 off,1,0,none)
 |q=>(q,.int .i64 0,1,0,none)
def GO(st:St)(dst:Option Nat)(t:TypeId)(a:Operand)(k:St->Tr):Tr:=
 pubT (st.nb+2) st (λst=>Bh st a) λst p=>
  if p.kind=some .p then
  match Gg p with
  |(b,i,sz,off,some e)=>
   match kindsOf P e with
   |some ks=>if ks.length=sz then bind st sz λq=>
     match Dd P t (T.ofList (vars ks st.nv)) off with
     |some x=>.ld b i sz sz ks (k (q.putO dst x))
     |none=>.bad 16 0 else .bad 17 0
   |none=>.bad 18 0
  |(b,i,sz,_,none)=>
   match kindsOf P t with
   |some ks=>bind st ks.length λq=>
     match Dd P t (T.ofList (vars ks st.nv)) 0 with
     |some x=>.ld b i sz ks.length ks (k (q.putO dst x))
     |none=>.bad 19 0
   |none=>.bad 20 0
  else .bad 61 0
def exStore(st:St)(d:TypeId)(size:Option Nat)(a x:Operand)(k:St->Tr):Tr:=
 match Bh st a,Bh st x,size with
 |some (.box i o),some v,some n=>
  match st.box i with
  |some (cs,ty)=>
   if v.cellsT.toList.length=n/\o+n<=cs.toList.length/\(CY v.cellsT).isSome/\0<n then
    k (st.setBox i (T.ofList (cs.toList.take o++v.cellsT.toList++cs.toList.drop (o+n))) ty)
   else .bad 21 i
  |none=>.bad 22 i
 |some _,some _,some n=>
  pubT (st.nb+2) st (λst=>match Bh st a,Bh st x with|some p,some v=>some (.cons p v.cellsT)|_,_=>none) λst q=>
   match q with
   |.cons p cs=>if p.kind=some .p/\cs.toList.length=n/\(CY cs).isSome/\0<n then .st p 0 cs (k st)else .bad 23 0
   |_=>.bad 24 0
 |_,_,_=>.bad 25 0
def exOp(st:St)(o:Oper)(k:St->Tr):Tr:=
 if Dm H.N o.dst then
  match CC P st o.op with
  |some (ns,t)=>needs ns (k (st.putO o.dst t))
  |none=>
   match o.op with
   |.box e x=>match Bh st x with
    |some v=>if(CY v.cellsT).isSome then GN H st o.dst v.cellsT e (λi=>.box i 0) k else .bad 26 0
    |none=>.bad 27 0
   |.alloc e=>match Et P e with
    |some cs=>GN H st o.dst (T.ofList cs) e (λi=>.box i 0) k
    |none=>.bad 28 0
   |.buildSlice t n parts=>
    match P.underlying t with
    |some (.slice e)=>
     match Cs P e,Et P e,partsT st parts.toList with
     |some (sz+1),some z,some ps=>
      match Fm (λi=>some (i*(sz+1),sz+1)) (List.replicate n z).flatten ps with
      |some cs=>if n*(sz+1)<=4096/\z.length=sz+1 then GN H st o.dst (T.ofList cs) e (λi=>.c3 .slc (.box i 0) (.int .i64 n) (.int .i64 n)) k else .bad 29 0
      |none=>.bad 30 0
     |_,_,_=>.bad 31 0
    |_=>.bad 32 0
   |.load t a=>GO P st o.dst t a k
   |.store t a x=>match o.dst with|none=>exStore st t (Cs P t) a x k|some _=>.bad 33 0
   |.call c=>match c.callee with
    |.value f=>exCall P fs st o c f k
    |.builtin _=>exGen P st o k
    |.invoke _ _=>.bad 34 0
   |.panic x=>exPanic st x
   |_=>exGen P st o k
 else .bad 35 0
def Fo(all:Array Oper):List Oper->St->(St->Tr)->Tr
 |[],st,k=>k (st.compact H.keep)
 |o::rest,st,k=>
  match o.guard with
  |none=>exOp P fs H st o λst=>Fo all rest st k
  |some (j,q)=>
   match(all[j]?).bind (·.dst)with
   |none=>.bad 36 j
   |some d=>
    let J (st:St):=exOp P fs H st o λst=>Fo all rest st k;let G (st:St):=if Dm H.N o.dst then Fo all rest (st.putO o.dst .und) k else .bad 35 0
    match st.get d with
    |some (.bool v)=>if v=q then J st else G st
    |some .und=>G st
    |some c=>if c.kind=some .b/\c.firstBox=none/\d<H.N then .br c (if q then J (st.now d (.bool true))else G (st.now d (.bool true))) (if q then G (st.now d (.bool false))else J (st.now d (.bool false)))else .bad 37 d
    |none=>.bad 38 d
def mapLens:List Nat:=[132]
def floatOp:Op->Bool
 |.move _|.pick ..|.fieldAddr ..|.indexAddr ..|.index ..|.binOp ..|.unOp ..|.build ..|.field ..|.extract ..|.makeFunc ..|.nilCheck _|.slice ..|.load ..=>true
 |.call {callee:=.builtin .len,argTypes,..}=>!(argTypes.toList.any mapLens.contains)
 |.call {callee:=.builtin .cap,..}=>true
 |_=>false
def isGuard(all:Array Oper)(i:Nat):Bool:=all.any λo=>match o.guard with|some (j,_)=>j==i|none=>false
def CD(all:Array Oper)(i:Nat):Bool:=
 match all[i]? with
 |some o=>floatOp o.op&&!isGuard all i&&o.dst.isSome
 |none=>false
def C8(all:Array Oper)(i:Nat):Bool:=
 match all[i]? with
 |some o=>(match o.op with|.alloc _=>true|_=>false)&&o.guard.isNone&&!isGuard all i&&o.dst.isSome
 |none=>false
def B5:List Oper->List Nat->List Nat
 |[],acc=>acc
 |o::os,acc=>B5 os (acc++[o.after.toList.foldl (λs e=>if Region.binds .any e then s|||(1<<<e.on)|||acc.getD e.on 0 else s) 0])
def Ct(ms:List Nat)(i:Nat):Nat:=ms.getD i 0
def GP(all:Array Oper)(ms:List Nat):Nat->Nat->List Nat
 |0,_=>[]
 |n+1,done=>
  let q:=(zB all.size).filter λi=>!done.testBit i&&((Ct ms i) &&& done==Ct ms i)
  match q.find? (CD all)with
  |some i=>i::GP all ms n (done|||(1<<<i))
  |none=>match q.filter (λi=>!C8 all i)++q with
   |i::_=>i::GP all ms n (done|||(1<<<i))
   |[]=>[]
def GQ:List Nat->Bool
 |[]=>true
 |x::xs=>!xs.contains x&&GQ xs
def EU(all:Array Oper)(ms:List Nat):List Nat->Bool
 |[]=>true
 |i::rest=>(CD all i||rest.all λj=>(Ct ms j).testBit i||C8 all j||(!CD all j&&rest.all λq=>!(Ct ms j).testBit q)||rest.any λq=>(Ct ms j).testBit q&&!C8 all q)&&(rest.all λj=>!(Ct ms i).testBit j)&&EU all ms rest
def altsOf(all:Array Oper)(ms:List Nat)(i:Nat)(rest:List Nat):List Nat:=
 if CD all i then[]else rest.filter λj=>!(Ct ms j).testBit i&&!C8 all j&&!CD all j&&rest.all λq=>!(Ct ms j).testBit q
def doneBut(n:Nat)(l:List Nat)(j:Nat):Nat:=(zB n).foldl (λs x=>if x=j||!l.contains x then s|||(1<<<x)else s) 0
def HB(l m:List Nat):Bool:=decide (l.length=m.length)&&GQ l&&l.all m.contains
def forks(f:Nat->Tr)(t:Tr):List Nat->Tr
 |[]=>t
 |j::q=>.both (f j) (forks f t q)
def drawOk(P:Program)(all:Array Oper)(ms:List Nat)(order:List Nat):Bool:=
 (all.toList.zipIdx.all λx=>x.1.after.all λe=>!Region.binds .any e||decide (e.on<x.2)) &&
 order.length==all.size&&GQ order&&order.all (λi=>decide (i<all.size)) &&
 GQ (all.toList.filterMap (·.dst)) &&
 (all.toList.all λo=>!ET o.op) &&
 (all.toList.zipIdx.all λx=>(x.1.looksAt all).all λt=>(zB all.size).all λp=>!((CD all p||C8 all p)&&decide (((all[p]?).bind (·.dst))=some t))||((Ct ms x.2).testBit p&&decide (p≠x.2))) &&
 EU all ms order &&
 (all.toList.all λo=>match o.op with|.alloc e=>(Et P e).isSome|_=>true)
def Gh(all:Array Oper):List (Nat×Bool)->St->Tr->Tr
 |[],_,t=>t
 |(_,false)::fl,st,t=>Gh all fl st t
 |(j,true)::fl,st,t=>
  match all[j]? with
  |none=>.bad 70 j
  |some o=>
   match CC P st o.op,o.dst.bind st.get with
   |some (ns,x),some y=>if x=y then needs ns (Gh all fl st t)else .bad 71 j
   |none,some y=>
    match o.op with
    |.load ty a=>
     match Bh st a,Cs P ty,isAggB P ty with
     |some p,some n,some q=>if p.kind=some .p/\p.firstBox=none/\y.firstBox=none/\y.cellsT.toList.length=n/\0<n/\(CY y.cellsT).isSome/\Fl y=q then .again p y.cellsT (Gh all fl st t)else .bad 72 j
     |_,_,_=>.bad 73 j
    |_=>.bad 74 j
   |_,none=>.bad 75 j
def Gi(all:Array Oper)(fl:List (Nat×Bool))(dst:Option Nat):Bool:=
 fl.all λx=>match all[x.1]?,dst with
  |some y,some d=>!(y.looksAt all).contains d
  |some _,none=>true
  |none,_=>false
def guardD(all:Array Oper)(o:Oper)(st:St)(J G:St->Tr):Tr:=
 match o.guard with
 |none=>J st
 |some (j,q)=>
  match(all[j]?).bind (·.dst)with
  |none=>.bad 80 j
  |some d=>
   match st.get d with
   |some (.bool v)=>if v=q then J st else G st
   |some .und=>G st
   |some c=>if c.kind=some .b/\c.firstBox=none/\!CD all j then .br c (if q then J (st.now d (.bool true))else G (st.now d (.bool true))) (if q then G (st.now d (.bool false))else J (st.now d (.bool false)))else .bad 81 d
   |none=>.bad 82 d
def Fp(ms:List Nat)(i:Nat)(fl:List (Nat×Bool)):List (Nat×Bool):=fl.filter (λx=>!(Ct ms i).testBit x.1)
def HC(all:Array Oper)(ms:List Nat)(i:Nat)(o:Oper)(fl:List (Nat×Bool))(next:List (Nat×Bool)->St->Tr)(st:St):Tr:=
 if CD all i then
  if Dm H.N o.dst&&Gi all fl o.dst then
   match CC P st o.op with
   |some (ns,t)=>needs ns (next ((i,true)::fl) (st.putO o.dst t))
   |none=>match o.op with
    |.load t a=>GO P st o.dst t a (next ((i,true)::fl))
    |_=>.bad 77 i
  else .bad 78 i
 else if C8 all i then
  if Gi all fl o.dst then exOp P fs H st o (next fl)else .bad 83 i
 else
  if Gi all (Fp ms i fl) o.dst then
   exOp P fs H st o λst=>Gh P all (Fp ms i fl) st (next (Fp ms i fl) st)
  else .bad 84 i
def drawNo(all:Array Oper)(ms:List Nat)(i:Nat)(o:Oper)(fl:List (Nat×Bool))(next:List (Nat×Bool)->St->Tr)(st:St):Tr:=
 if Dm H.N o.dst&&Gi all fl o.dst then
  next (if CD all i then(i,false)::fl else Fp ms i fl) (st.putO o.dst .und)
 else .bad 79 i
def Dy(all:Array Oper)(ms:List Nat):Bool->Nat->List Nat->List (Nat×Bool)->St->(St->Tr)->Tr
 |_,_,[],_,st,k=>k (st.compact H.keep)
 |_,0,_::_,_,_,_=>.bad 85 0
 |c,n+1,i::rest,fl,st,k=>
  match all[i]? with
  |none=>.bad 76 i
  |some o=>
   forks (λj=>
     let l:=j::GP all ms rest.length (doneBut all.size (i::rest) j)
     if HB l (i::rest)&&EU all ms l then Dy all ms false n l fl st k else .bad 86 j)
    (guardD all o st (HC P fs H all ms i o fl λfl st=>Dy all ms true n rest fl st k) (drawNo H all ms i o fl λfl st=>Dy all ms true n rest fl st k))
    (if c then altsOf all ms i rest else[])
def HD(all:Array Oper)(st:St)(k:St->Tr):Tr:=
 let ms:=B5 all.toList [];let order:=GP all ms all.size 0
 if drawOk P all ms order&&all.toList.all (λo=>Dm H.N o.dst)then Dy P fs H all ms true (2*all.size+1) order [] st k else .bad 9 all.size
def FH:Code->List Nat
 |.region _ q _=>q.toList.filterMap (·.dst)
 |.seq a b=>FH a++FH b
 |.cond _ a b=>FH a++FH b
 |.block _ b|.loop b|.scope b=>FH b
 |_=>[]
def FI:Code->Option Nat
 |.region i _ _=>some i
 |.seq a b=>(FI a).or (FI b)
 |.cond _ a b=>(FI a).or (FI b)
 |.block _ b|.loop b|.scope b=>FI b
 |_=>none
def dedup:List Nat->List Nat
 |[]=>[]
 |x::xs=>if xs.contains x then dedup xs else x::dedup xs
def genTerm(b:Bool)(ks:List K)(n:Nat):T:=if b then .agg (T.ofList (vars ks n))else(vars ks n).headD .und
def genKinds(t:T):Option (List K):=if Fl t then CY t.cellsT else t.kind.map λk=>[k]
def Ce:List Nat->St->St×List (Nat×Bool×List K)
 |[],st=>(st,[])
 |s::q,st=>
  match(st.get s).bind λt=>(genKinds t).map λks=>(Fl t,ks)with
  |some (b,ks)=>let r:=Ce q ({st with nv:=st.nv+ks.length}.put s (genTerm b ks st.nv));(r.1,(s,b,ks)::r.2)
  |none=>match st.get s with|some _=>Ce q (st.put s .nil)|none=>Ce q st
def GR:List Nat->St->Option (St×List (Nat×Nat×List K))
 |[],st=>some (st,[])
 |s::q,st=>
  match st.get s with
  |some (.box i _)=>
   match st.box i with
   |some (cs,ty)=>
    match CY cs with
    |some ks=>(GR q ({st with nv:=st.nv+ks.length}.setBox i (T.ofList (vars ks st.nv)) ty)).map λr=>(r.1,(i,ty,ks)::r.2)
    |none=>none
   |none=>none
  |_=>none
def GS(st:St):List (Nat×Bool×List K)->Option (List T)
 |[]=>some []
 |(s,b,ks)::g=>
  match st.get s,GS st g with
  |some t,some ts=>if Fl t=b/\CY t.cellsT=some ks then some (t.cellsT.toList++ts)else none
  |_,_=>none
def GU(st:St):List (Nat×Nat×List K)->Option (List T)
 |[]=>some []
 |(i,ty,ks)::g=>
  match st.box i,GU st g with
  |some (cs,q),some ts=>if q=ty/\CY cs=some ks then some (cs.toList++ts)else none
  |_,_=>none
def HE(st:St)(bs:List (Nat×Nat×List K))(q:List (Nat×Bool×List K)):Option T:=
 match GU st bs,GS st q with
 |some l,some m=>let t:=T.ofList (l++m);if t.firstBox=none then some t else none
 |_,_=>none
def backOk(h st:St)(bs:List (Nat×Nat×List K))(q:List Nat):Bool:=
 (h.slots.all λx=>q.contains x.1||decide (st.get x.1=h.get x.1)) &&
 (h.boxes.all λx=>(bs.map (·.1)).contains x.1||decide (st.box x.1=h.box x.1))
def getSome(st:St):List Nat->List T
 |[]=>[]
 |s::q=>match st.get s with|some t=>t::getSome st q|none=>getSome st q
def exLoop(body:St->(Ex->St->Tr)->Tr)(d:List Nat)(hint:List Nat)(st:St)(k:Ex->St->Tr):Tr:=
 pubT (st.nb+2) st (λst=>some (T.ofList (getSome st d))) λst _=>
 if st.wf then
  match GR hint st with
  |none=>.bad 40 0
  |some (J,bs)=>
   let r:=Ce d J;let h:St:={r.1 with depth:=st.depth+1}
   match HE st bs r.2 with
   |none=>.bad 41 0
   |some init=>
    if backOk h st bs d then
     .loop init (bs.flatMap (·.2.2)++r.2.flatMap (·.2.2)) (body h λe q=>
      match e with
      |.normal=>
       match HE q bs r.2 with
       |some vs=>if backOk h q bs d then .cont st.depth vs else .bad 42 0
       |none=>.bad 43 0
      |e=>k e q)
    else .bad 44 0
 else .bad 45 0
def ex:Code->St->(Ex->St->Tr)->Tr
 |.skip,st,k=>k .normal st
 |.ret,st,k=>k .ret st
 |.exit id,st,k=>k (.exit id) st
 |.seq a b,st,k=>ex a st λe st=>match e with|.normal=>ex b st k|e=>k e st
 |.block id b,st,k=>ex b st λe st=>match e with|.exit j=>if j=id then k .normal st else k (.exit j) st|e=>k e st
 |.cond c a b,st,k=>
  match Bh st c with
  |some (.bool v)=>if v then ex a st k else ex b st k
  |some t=>
   if t.kind=some .b/\t.firstBox=none then
    match c with
    |.tmp d=>.br t (ex a (st.now d (.bool true)) k) (ex b (st.now d (.bool false)) k)
    |_=>.br t (ex a st k) (ex b st k)
   else .bad 46 0
  |none=>.bad 47 0
 |.loop b,st,k=>
  exLoop (λst k=>ex b st k) (dedup (FH b)) (((FI b).bind λi=>H.loops.lookup i).getD []) st k
 |.region _ q J,st,k=>if J then HD P fs H q st (k .normal)else Fo P fs H q q.toList st (k .normal)
 |.rangeFunc _ _ _ _,_,_=>.bad 48 0
 |.scope _,_,_=>.bad 49 0
 |.label _,_,_=>.bad 50 0
 |.goto _,_,_=>.bad 51 0
 |.refuse _,_,_=>.bad 52 0
def resT(st:St):List ResultVar->Option (List T)
 |[]=>some []
 |.tmp t::rs=>match st.get t,resT st rs with|some x,some xs=>some (x::xs)|_,_=>none
 |.cell a t::rs=>
  match st.get a,resT st rs with
  |some (.box i o),some xs=>(st.box i).bind λx=>(Dd P t x.1 o).map (·::xs)
  |_,_=>none
def Ii(st:St)(rs:List ResultVar):Option T:=
 match resT P st rs with
 |some [t]=>some t
 |some ts=>some (.tup (T.ofList ts))
 |none=>none
def Gj(fn:Func)(ps:List T)(nv:Nat):Tr:=
 match fn.body with
 |none=>.bad 53 0
 |some c=>
  if ps.length<=fn.ntmps/\H.N=fn.ntmps/\(T.ofList ps).wf nv 0 then
   ex P fs H c {slots:=(zB ps.length).zip ps,boxes:=[],nv:=nv,nb:=0,depth:=0} λe st=>
    match e with
    |.exit j=>.bad 54 j
    |_=>pubT (st.nb+2) st (λst=>Ii P st fn.results.toList) λ_ t=>.ret t
  else .bad 55 0
def keepOps:List Oper->List Nat->List Nat
 |[],_=>[]
 |o::os,q=>(ER o.op.operands.toList).filter (λt=>!q.contains t)++keepOps os (match o.dst with|some d=>d::q|none=>q)
def keepC:Code->List Nat
 |.region _ q _=>keepOps q.toList []
 |.seq a b=>keepC a++keepC b
 |.cond c a b=>ER [c]++keepC a++keepC b
 |.block _ b|.loop b|.scope b=>keepC b
 |.rangeFunc f _ a b=>ER [f]++keepC a++keepC b
 |_=>[]
def insN(x:Nat):List Nat->List Nat
 |[]=>[x]
 |y::q=>if x=y then y::q else if x<y then x::y::q else y::insN x q
def keepF(fn:Func):List Nat:=((match fn.body with|some c=>keepC c|none=>[])++fn.results.toList.map (λ|.tmp t=>t|.cell a _=>a)).foldr insN []
def hintF(fn:Func)(early:List Nat)(loops:List (Nat×List Nat)):Ca:={N:=fn.ntmps,early,loops,keep:=keepF fn}
def GV(fn:Func):List T:=
 let rs:=(rkList P fn.params.toList).getD []
 Eu rs 0++(zB fn.nfree).map λj=>.var .p (Gf rs+j)
end
theorem T.ev_congr{n b:Nat}{ρ ρ':List Value}{β β':Nat->Nat}(G:∀m,m<n->ρ.getD m undef=ρ'.getD m undef)(Z:∀i,i<b->β i=β' i):
  ∀t:T,t.wf n b=true->t.ev ρ β=t.ev ρ' β'/\t.evs ρ β=t.evs ρ' β':=by
 intro t;induction t with
 |var k m=>intro h;simp only[T.wf,decide_eq_true_eq]at h;exact⟨by grind[T.ev],rfl⟩
 |box i o=>intro h;simp only[T.wf,decide_eq_true_eq]at h;exact⟨by grind[T.ev],rfl⟩
 |fn f c q=>intro h;exact⟨by simp only[T.ev,(q h).2],rfl⟩
 |u o x q=>intro h;exact⟨by simp only[T.ev,(q h).1],rfl⟩
 |b2 o x y d J=>intro h;simp only[T.wf,zC]at h;exact⟨by grind[T.ev],rfl⟩
 |c3 o x y z d J Y=>intro h;simp only[T.wf,zC]at h;exact⟨by grind[T.ev],rfl⟩
 |cons x y d J=>intro h;simp only[T.wf,zC]at h;exact⟨rfl,by grind[T.evs]⟩
 |agg c q=>intro h;exact⟨by simp only[T.ev,(q h).2],rfl⟩
 |tup c q=>intro h;exact⟨by simp only[T.ev,(q h).2],rfl⟩
 |_=>intro _;exact⟨rfl,rfl⟩
theorem T.ev_free{ρ:List Value}{β β':Nat->Nat}:∀t:T,t.firstBox=none->t.ev ρ β=t.ev ρ β'/\t.evs ρ β=t.evs ρ β':=by
 intro t;induction t with
 |box i o=>grind[T.firstBox]
 |fn f c q=>intro h;exact⟨by simp only[T.ev,(q h).2],rfl⟩
 |u o x q=>intro h;exact⟨by simp only[T.ev,(q h).1],rfl⟩
 |b2 o x y d J=>
  intro h;simp only[T.firstBox,zD]at h;exact⟨by grind[T.ev],rfl⟩
 |c3 o x y z d J G=>
  intro h;simp only[T.firstBox,zD]at h;exact⟨by grind[T.ev],rfl⟩
 |cons x y d J=>
  intro h;simp only[T.firstBox,zD]at h;exact⟨rfl,by grind[T.evs]⟩
 |agg c q=>intro h;exact⟨by simp only[T.ev,(q h).2],rfl⟩
 |tup c q=>intro h;exact⟨by simp only[T.ev,(q h).2],rfl⟩
 |_=>intro _;exact⟨rfl,rfl⟩
theorem Addr.add_zero'(a:Addr):a.add 0=a:=by simp[zE]
theorem HF(b o n:Nat):(⟨b,o,none⟩:Addr).add n=⟨b,o+n,none⟩:=by
 grind[zE]
theorem K4(a:Addr)(m n:Nat):(a.add m).add n=a.add (m+n):=by
 grind[zE]
theorem HG(p:Option Addr)(m n:Nat):Aa (Aa p m) n=Aa p (m+n):=by
 cases p<;>simp[Aa,K4]
theorem T.ev_subst{ρ:List Value}{β:Nat->Nat}{i k:Nat}(h:ρ.getD k undef=.pointer (some ⟨β i,0,none⟩)):
  ∀t:T,(t.subst i k).ev ρ β=t.ev ρ β/\(t.subst i k).evs ρ β=t.evs ρ β:=by
 intro t;induction t with
 |box j o=>
  unfold T.subst;by_cases G:j=i
  ·subst G;rw[if_pos rfl];refine⟨?_,rfl⟩;grind[T.ev,U.ev,K.cast,AN,Aa,HF]
  ·simp[G]
 |fn f c q=>exact⟨by simp only[T.subst,T.ev,q.2],rfl⟩
 |u o x q=>exact⟨by simp only[T.subst,T.ev,q.1],rfl⟩
 |b2 o x y d J=>exact⟨by grind[T.subst,T.ev],rfl⟩
 |c3 o x y z d J Z=>exact⟨by grind[T.subst,T.ev],rfl⟩
 |cons x y d J=>exact⟨rfl,by grind[T.subst,T.evs]⟩
 |agg c q=>exact⟨by simp only[T.subst,T.ev,q.2],rfl⟩
 |tup c q=>exact⟨by simp only[T.subst,T.ev,q.2],rfl⟩
 |_=>exact⟨rfl,rfl⟩
theorem K.cast_cast(k:K)(v:Value):k.cast (k.cast v)=k.cast v:=by
 cases k<;>first|rfl|(cases v<;>rfl)
theorem K.cast_one(k:K)(v:Value):FG (k.cast v)=true:=by
 cases k<;>first|rfl|(simp only[K.cast];split<;>first|rfl|grind[FG])
theorem K.ok_one{k:K}{v:Value}(h:k.ok v):FG v=true:=by
 rw[<-h];exact K.cast_one k v
theorem oneCell_eq(v:Value):v.oneCell'=FG v:=by cases v<;>rfl
theorem T.kind_ok{ρ:List Value}{β:Nat->Nat}:∀(t:T)(k:K),t.kind=some k->k.ok (t.ev ρ β):=by
 intro t;induction t with
 |var j m=>intro k h;simp only[T.kind,zF]at h;subst h;exact K.cast_cast _ _
 |u o x G=>intro k h;cases o<;>simp only[T.kind,zF]at h<;>subst h<;>rfl
 |b2 o x y _ _=>intro k h;cases o<;>simp only[T.kind,zF]at h<;>subst h<;>rfl
 |c3 o x y z q d J=>
  intro k h;cases o with
  |sel=>
   grind[T.kind,T.ev,C.ev]
  |_=>simp only[T.kind,zF]at h;subst h;rfl
 |nil=>grind[T.kind]
 |cons _ _ _ _=>grind[T.kind]
 |agg _ _=>grind[T.kind]
 |tup _ _=>grind[T.kind]
 |und=>grind[T.kind]
 |_=>intro k h;simp only[T.kind,zF]at h;subst h;rfl
theorem CE(ρ:List Value)(β:Nat->Nat):∀l:List T,(T.ofList l).evs ρ β=l.map (·.ev ρ β)
 |[]=>rfl
 |t::ts=>by simp only[T.ofList,T.evs,CE ρ β ts,zG]
theorem C9(ρ:List Value)(β:Nat->Nat):∀t:T,t.evs ρ β=t.toList.map (·.ev ρ β):=by
 intro t;induction t with
 |cons h t _ q=>grind[T.evs,T.toList]
 |_=>rfl
theorem wf_ofList(n b:Nat):∀l:List T,(T.ofList l).wf n b=l.all (·.wf n b)
 |[]=>rfl
 |t::ts=>by simp only[T.ofList,T.wf,List.all_cons,wf_ofList n b ts]
theorem K6{ρ:List Value}{β:Nat->Nat}:∀(t:T)(ks:List K),CY t=some ks->Shaped ks (t.evs ρ β):=by
 intro t;induction t with
 |nil=>intro ks h;simp only[CY,zF]at h;subst h;trivial
 |cons x y _ q=>
  intro ks h;simp only[CY]at h;split at h
  ·rename_i k J G d;simp only[zF]at h;subst h;exact⟨T.kind_ok x k G,q _ d⟩
  ·simp at h
 |_=>intro ks h;simp[CY]at h
theorem Shaped.one:∀{ks:List K}{vs:List Value},Shaped ks vs->∀v∈vs,FG v=true
 |[],[],_,v,hv=>by cases hv
 |k::ks,x::vs,h,v,hv=>by
  rcases List.mem_cons.1 hv with rfl|hv;·exact K.ok_one h.1
  ·exact Shaped.one h.2 v hv
theorem Shaped.length:∀{ks:List K}{vs:List Value},Shaped ks vs->vs.length=ks.length
 |[],[],_=>rfl
 |k::ks,x::vs,h=>by simp[Shaped.length h.2]
 |[],_::_,h=>h.elim
 |_::_,[],h=>h.elim
theorem Ij:∀{ks ls:List K}{vs q:List Value},Shaped ks vs->Shaped ls q->Shaped (ks++ls) (vs++q)
 |[],_,[],_,_,h=>h
 |_::_,_,_::_,_,h,d=>⟨h.1,Ij h.2 d⟩
theorem K7:∀{ks ls:List K}{vs:List Value},Shaped (ks++ls) vs->Shaped ks (vs.take ks.length)/\Shaped ls (vs.drop ks.length)
 |[],_,_,h=>⟨trivial,h⟩
 |k::ks,ls,v::vs,h=>by
  have:=K7 (ks:=ks) h.2;exact⟨⟨h.1,this.1⟩,this.2⟩
 |_::_,_,[],h=>h.elim
theorem GW{β:Nat->Nat}:∀(ks:List K)(vs ρ σ:List Value),Shaped ks vs->(vars ks ρ.length).map (·.ev (ρ++vs++σ) β)=vs
 |[],[],_,_,_=>rfl
 |k::ks,v::vs,ρ,σ,h=>by
  have q:=GW (β:=β) ks vs (ρ++[v]) σ h.2;simp only[List.length_append,List.length_singleton,zH,zI,List.nil_append]at q;simp only[vars,zG,zH,zI,T.ev,q,List.cons.injEq,and_true];have:(ρ++v::(vs++σ)).getD ρ.length undef=v:=by simp[List.getD]
  rw[this];exact h.1
structure Rel (O V0:Mem)(w0:World)(N:Nat)(β:Nat->Nat)(st:St)(ρ:List Value)(V:Mem)(tmps:Array Value)(w:World):Prop where
 nv:ρ.length=st.nv
 size:tmps.size=N
 slots:∀s t,st.get s=some t->tmps.getD s undef=t.ev ρ β
 frm:Aq V0 w0 V w
 boxes:∀i cs ty,st.box i=some (cs,ty)->w.heap[β i]?=some (.cells (cs.evs ρ β).toArray ty (0,0))/\V (β i)=none/\w0.heap.size<=β i/\i<st.nb
 hid:∀b o,O b=some o->w.heap[b]?=some o/\V b=none/\w0.heap.size<=b/\∀i,(st.box i).isSome=true->β i≠b
 inj:∀i j,(st.box i).isSome=true->(st.box j).isSome=true->β i=β j->i=j
section
variable{P:Program}{O V0:Mem}{w0:World}{N:Nat}{β:Nat->Nat}{st:St}{ρ:List Value}{V:Mem}{a:Act}{w:World}
theorem scalT_ev{v:Value}{t:T}(h:Ee v=some t):t.ev ρ β=v:=by
 cases v with
 |string s=>simp only[Ee,zF]at h;subst h;simp[T.ev]
 |pointer p=>cases p<;>simp[Ee]at h;subst h;rfl
 |slice p n c=>
  cases p with
  |none=>
   cases n with
   |zero=>cases c with
    |zero=>simp[Ee]at h;subst h;rfl
    |succ=>simp[Ee]at h
   |succ=>simp[Ee]at h
  |some=>simp[Ee]at h
 |map r=>cases r<;>simp[Ee]at h;subst h;rfl
 |func g x c=>
  cases g<;>simp[Ee]at h;obtain⟨⟨rfl,rfl⟩,rfl⟩:=h;rfl
 |_=>simp[Ee]at h<;>(subst h;rfl)
theorem HH:∀{vs:List Value}{ts:List T},Ge vs=some ts->ts.map (·.ev ρ β)=vs
 |[],ts,h=>by grind[Ge]
 |v::vs,ts,h=>by
  simp only[Ge]at h;split at h
  ·rename_i t q d J;simp only[zF]at h;subst h;simp only[zG,scalT_ev d,HH J]
  ·simp at h
theorem valT_ev{v:Value}{t:T}(h:valT v=some t):t.ev ρ β=v:=by
 unfold valT at h;split at h
 ·rename_i cs;cases q:Ge cs.toList with
  |none=>simp[q]at h
  |some ts=>
   simp only[q,zJ,zF]at h;subst h;simp only[T.ev,CE,HH q]
 ·rename_i cs;split at h
  ·rename_i d;simp only[zF]at h;subst h;have:cs=#[]:=by simpa using d
   subst this;rfl
  ·simp at h
 ·exact scalT_ev h
theorem A3(h:Rel O V0 w0 N β st ρ V a.tmps w){o:Operand}{t:T}(q:Bh st o=some t):a.eval o=t.ev ρ β:=by
 cases o with
 |tmp s=>exact h.slots s t q
 |const v=>exact(valT_ev q).symm
 |global g=>simp only[Bh,zF]at q;subst q;rfl
 |func f=>simp only[Bh,zF]at q;subst q;rfl
theorem HI(h:Rel O V0 w0 N β st ρ V a.tmps w):∀{l:List Operand}{ts:List T},opTs st l=some ts->l.map a.eval=ts.map (·.ev ρ β)
 |[],ts,q=>by grind[opTs]
 |o::l,ts,q=>by
  simp only[opTs]at q;split at q
  ·rename_i t d J G;simp only[zF]at q;subst q;simp only[zG,A3 h J,HI h G]
  ·simp at q
theorem DX{t:T}{k:IntKind}(h:t.kind=some (.i k)):∃n,t.ev ρ β=.int k n:=⟨_,(T.kind_ok (ρ:=ρ) (β:=β) t _ h).symm⟩
theorem Fq{t:T}(h:t.kind=some .b):∃b,t.ev ρ β=.bool b:=⟨_,(T.kind_ok (ρ:=ρ) (β:=β) t _ h).symm⟩
theorem FJ{t:T}(h:t.kind=some .s):∃s,t.ev ρ β=.string s:=⟨_,(T.kind_ok (ρ:=ρ) (β:=β) t _ h).symm⟩
theorem GX{t:T}(h:t.kind=some .sl):∃p n c,t.ev ρ β=.slice p n c:=⟨_,_,_,(T.kind_ok (ρ:=ρ) (β:=β) t _ h).symm⟩
theorem Gk{t:T}(h:t.kind=some .p):∃p,t.ev ρ β=.pointer p:=⟨_,(T.kind_ok (ρ:=ρ) (β:=β) t _ h).symm⟩
theorem kind_m{t:T}(h:t.kind=some .m):∃p,t.ev ρ β=.map p:=⟨_,(T.kind_ok (ρ:=ρ) (β:=β) t _ h).symm⟩
theorem notT_ev(t:T):(notT t).ev ρ β=.bool (!asB (t.ev ρ β)):=by
 unfold notT;split<;>rfl
theorem poff_ev(t:T)(n:Nat)(h:∃p,t.ev ρ β=.pointer p):(t.poff n).ev ρ β=.pointer (Aa (AN (t.ev ρ β)) n):=by
 unfold T.poff;grind[T.ev,AN,Aa,HF,U.ev,HG]
theorem K8(t:T)(q:t.kind=some .sl):AN ((DJ t).ev ρ β)=AN (t.ev ρ β):=by
 unfold DJ;grind[T.ev,C.ev,AN,U.ev]
theorem Ik(t:T):(slLen t).ev ρ β=.int .i64 (Es (t.ev ρ β)):=by
 unfold slLen;split
 ·split;·grind[T.ev,C.ev,Es,Aj]
  ·rfl
 ·rfl
 ·rfl
theorem Jw(t:T):(Ev t).ev ρ β=.int .i64 (asCap (t.ev ρ β)):=by
 unfold Ev;split
 ·split;·grind[T.ev,C.ev,asCap,Aj]
  ·rfl
 ·rfl
 ·rfl
theorem paddT_ev(e sz:Nat)(p i:T):AN ((paddT e sz p i).ev ρ β)=Aa (AN (p.ev ρ β)) ((Aj (i.ev ρ β)).toNat*sz)/\∃q,(paddT e sz p i).ev ρ β=.pointer q:=by
 unfold paddT;grind[T.ev,AN,Aa,HF,Aj,B.ev]
theorem DY{t:TypeId}{n:Nat}(h:Cs P t=some n):(sizeOf t).run P w=.ok n w:=by
 unfold Cs at h;cases q:P.info? t with
 |none=>simp[q]at h
 |some i=>simp_all[zJ,zF,sizeOf,typeInfo]
theorem Il{t:TypeId}{v:Value}(h:Ef P t=some v):(zeroValue t).run P w=.ok v w:=by
 unfold Ef at h;cases q:P.info? t with
 |none=>simp[q]at h
 |some i=>simp_all[Option.bind_some,zeroValue,typeInfo]
theorem FK{t:TypeId}{b:Bool}(h:isAggB P t=some b):(isAgg t).run P w=.ok b w:=by
 unfold isAggB at h;cases hu:P.underlying t with
 |none=>simp[hu]at h
 |some d=>
  simp only[hu,zJ,zF]at h;subst h;cases d<;>simp[isAgg,run_underlying hu]
theorem Jx(t:T)(off n:Nat):(takeT t off n).map (·.ev ρ β)=((t.evs ρ β).drop off).take n:=by
 simp[takeT,C9,List.map_take,List.map_drop]
theorem Jy{t:TypeId}{cs x:T}{off:Nat}(h:Dd P t cs off=some x):(part t (cs.evs ρ β).toArray off).run P w=.ok (x.ev ρ β) w:=by
 unfold Dd at h;split at h
 ·rename_i n q d;simp only at h;split at h
  ·rename_i J;simp only[zF]at h;subst h;have:(takeT cs off n).map (·.ev ρ β)=((cs.evs ρ β).drop off).take n:=Jx cs off n;simp only[part,zK,FK q,zL,if_true,DY d,zM,T.ev,CE,this];simp_all
  ·simp at h
 ·rename_i n q d;have:(cs.evs ρ β).toArray[off]?=some (x.ev ρ β):=by simp[C9,h]
  simp only[part,zK,FK q,zL,zN,if_false,this,zM]
 ·simp at h
end
section
variable{P:Program}{O V0:Mem}{w0:World}{N:Nat}{β:Nat->Nat}{st:St}{ρ:List Value}{V:Mem}{a:Act}{w:World}
theorem nn_some{p:T}(G:p.kind=some .p)(d:∀x∈nn p,asB (x.ev ρ β)=true):∃q,p.ev ρ β=.pointer (some q):=by
 unfold nn at d;split at d;·exact⟨_,rfl⟩
 ·exact⟨_,rfl⟩
 ·have Z:=d _ (zO.2 rfl);obtain⟨q,J⟩:=Gk (ρ:=ρ) (β:=β) G;rw[J];cases q with
  |some q=>grind
  |none=>simp[T.ev,U.ev,J,asB,AN]at Z
theorem GY{t:TypeId}{cs x:T}{o b:Nat}{ty:TypeId}{fr:Nat×Nat}(Z:w.heap[b]?=some (.cells (cs.evs ρ β).toArray ty fr))(h:Dd P t cs o=some x):
  (loadVar t ⟨b,o,none⟩).run P w=.ok (x.ev ρ β) w:=by
 unfold Dd at h;split at h
 ·rename_i n d J;simp only at h;split at h
  ·rename_i Y;simp only[zF]at h;subst h;have e:(takeT cs o n).map (·.ev ρ β)=((cs.evs ρ β).drop o).take n:=Jx cs o n;have q:(((cs.evs ρ β).drop o).take n).length=n:=by grind
   have:=run_loadCells_list (P:=P) w ⟨b,o,none⟩ (((cs.evs ρ β).drop o).take n) (λj v W=>by
    simp_all[HF,World.cell?,Option.isSome_none,zN,if_false,List.getElem?_take,List.getElem?_drop])
   rw[q]at this;simp only[loadVar,zK,FK d,zL,if_true,DY J,this,zM,T.ev,CE,e]
  ·simp at h
 ·rename_i n d J;have e:(cs.evs ρ β).toArray[o]?=some (x.ev ρ β):=by simp[C9,h]
  have G:w.cell? ⟨b,o,none⟩=some (x.ev ρ β):=by grind[World.cell?]
  simp only[loadVar,zK,FK d,zL,zN,if_false,run_load,G]
 ·simp at h
theorem M6{q:Addr}{d:Field}{n:Nat}(h:Cs P d.type=some (n+1)):(fieldPlace q d).run P w=.ok (q.add d.offset) w:=by
 simp[fieldPlace,DY h]
theorem Im(s t:KB):(s.toList==t.toList)=decide (s=t):=by
 have key:s.toList=t.toList↔s=t:=by
  constructor
  ·intro h;rw[zP,zP]at h;cases s;cases t;simp_all
  grind
 grind
theorem FL{k:IntKind}{n:Int}(h:k.min<=n/\n<=k.max):k.wrap n=n:=by
 obtain⟨q,d⟩:=h;cases k<;>simp[IntKind.min,IntKind.max,zQ,zR]at q d<;>simp only[IntKind.wrap,zQ,zR]<;>simp<;>omega
theorem run_binI{op:BinOp}{k:IntKind}{x y t:T}{ns:List T}{m n:Int}{W:TypeId}(h:binI op k x y=some (ns,t))(d:x.ev ρ β=.int k m)(q:y.ev ρ β=.int k n)
    (I:op≠.shl) (A:op≠.shr) (G:∀z∈ns,asB (z.ev ρ β)=true):(binOp op W (.int k m) (.int k n)).run P w=.ok (t.ev ρ β) w:=by
  have Z:∀(Y:T),cmpI op x y=some Y->(binOp op W (.int k m) (.int k n)).run P w=.ok (Y.ev ρ β) w:=by
    intro Y Q;cases op<;>simp only[cmpI,zF,reduceCtorEq]at Q<;>subst Q<;>
      (simp only[binOp,ne_eq,not_true_eq_false,if_false,Op.intCmp]
       split
       · rename_i M a1 F b1;simp only[T.ev]at d q;cases d;cases q;simp[T.ev];try rfl
       · simp[T.ev,B.ev,U.ev,d,q,Aj,asB];try rfl)
  cases op with
  |add=>
    simp only[binI,inr,zF,zS]at h;obtain⟨rfl,rfl⟩:=h;have J:=G _ (zO.2 rfl);simp only[T.ev,U.ev,B.ev,d,q,Aj,asB,decide_eq_true_eq]at J;simp[binOp,zT,T.ev,B.ev,d,q,Aj,FL J]
  |sub=>
    simp only[binI,inr,zF,zS]at h;obtain⟨rfl,rfl⟩:=h;have J:=G _ (zO.2 rfl);simp only[T.ev,U.ev,B.ev,d,q,Aj,asB,decide_eq_true_eq]at J;simp[binOp,zT,T.ev,B.ev,d,q,Aj,FL J]
  |mul=>
    simp only[binI,inr]at h;split at h
    · simp only[zF,zS]at h;obtain⟨rfl,rfl⟩:=h;simp[binOp,zT,T.ev,B.ev,d,q,Aj]
    · simp only[zF,zS]at h;obtain⟨rfl,rfl⟩:=h;simp[binOp,zT,T.ev,B.ev,d,q,Aj]
    · simp only[zF,zS]at h;obtain⟨rfl,rfl⟩:=h;have J:=G _ (zO.2 rfl);simp only[T.ev,U.ev,B.ev,d,q,Aj,asB,decide_eq_true_eq]at J;simp[binOp,zT,T.ev,B.ev,d,q,Aj,FL J]
  |quo=>
    simp only[binI,zF,zS]at h;obtain⟨rfl,rfl⟩:=h;have J:=G _ (zO.2 rfl);simp only[T.ev,U.ev,B.ev,q,Aj,asB,zU,decide_eq_false_iff_not]at J;simp[binOp,Op.intDiv,T.ev,B.ev,d,q,Aj,J]
  |rem=>
    simp only[binI,zF,zS]at h;obtain⟨rfl,rfl⟩:=h;have J:=G _ (zO.2 rfl);simp only[T.ev,U.ev,B.ev,q,Aj,asB,zU,decide_eq_false_iff_not]at J;simp[binOp,Op.intDiv,T.ev,B.ev,d,q,Aj,J]
  |and=>simp only[binI,zF,zS]at h;obtain⟨rfl,rfl⟩:=h;simp[binOp,intBits_and,T.ev,B.ev,d,q,Aj]
  |or=>simp only[binI,zF,zS]at h;obtain⟨rfl,rfl⟩:=h;simp[binOp,intBits_or,T.ev,B.ev,d,q,Aj]
  |xor=>simp only[binI,zF,zS]at h;obtain⟨rfl,rfl⟩:=h;simp[binOp,intBits_xor,T.ev,B.ev,d,q,Aj]
  |andNot=>simp only[binI,zF,zS]at h;obtain⟨rfl,rfl⟩:=h;simp[binOp,intBits_andNot,T.ev,B.ev,d,q,Aj]
  |shl=>grind
  |shr=>simp_all
  |_=>
    simp only[binI,Option.map_eq_some_iff,zS]at h;obtain⟨Y,J,rfl,rfl⟩:=h;exact Z _ J
end
section
variable{P:Program}{O V0:Mem}{w0:World}{N:Nat}{β:Nat->Nat}{st:St}{ρ:List Value}{V:Mem}{a:Act}{w:World}
theorem run_binS{op:BinOp}{x y t:T}{ns:List T}{m n:KB}{J:TypeId}(h:binS op x y=some (ns,t))(q:x.ev ρ β=.string m)(d:y.ev ρ β=.string n)
  (G:∀z∈ns,asB (z.ev ρ β)=true):(binOp op J (.string m) (.string n)).run P w=.ok (t.ev ρ β) w:=by
 cases op with
 |add=>
  simp only[binS,inr,zF,zS]at h;obtain⟨rfl,rfl⟩:=h;have Z:=G _ (zO.2 rfl);simp only[T.ev,U.ev,B.ev,q,d,Aj,asB,AS,decide_eq_true_eq]at Z;have Y:¬(((m.size+n.size:Nat):Int)>IntKind.i64.max):=by omega
  simp_all[binOp,zV,if_false,zM,T.ev,B.ev,AS]
 |eql=>simp only[binS,zF,zS]at h;obtain⟨rfl,rfl⟩:=h;simp[binOp,zV,T.ev,B.ev,q,d,AS,Im]
 |neq=>simp only[binS,zF,zS]at h;obtain⟨rfl,rfl⟩:=h;simp[binOp,zV,T.ev,U.ev,B.ev,q,d,AS,asB,Im]
 |lss=>simp only[binS,zF,zS]at h;obtain⟨rfl,rfl⟩:=h;simp[binOp,zV,T.ev,B.ev,q,d,AS]
 |geq=>simp only[binS,zF,zS]at h;obtain⟨rfl,rfl⟩:=h;simp[binOp,zV,T.ev,U.ev,B.ev,q,d,AS,asB]
 |leq=>simp only[binS,zF,zS]at h;obtain⟨rfl,rfl⟩:=h;simp[binOp,zV,T.ev,B.ev,q,d,AS,asB,Im]
 |gtr=>simp only[binS,zF,zS]at h;obtain⟨rfl,rfl⟩:=h;simp[binOp,zV,T.ev,U.ev,B.ev,q,d,AS,asB,Im]
 |_=>simp[binS]at h
theorem FM{op:BinOp}{t d:T}{ns:List T}{q:TypeId}{u v:Value}{b:Bool}(h:eqOr op t=some (ns,d))(J:t.ev ρ β=.bool b)
  (G:(zW q u v).run P w=.ok b w) (hu:∀k n,u≠.int k n) (Z:∀s,u≠.string s) (Y:∀k n,u≠.float k n) (W:∀k m n,u≠.complex k m n):
  (binOp op q u v).run P w=.ok (d.ev ρ β) w:=by
 cases op<;>simp only[eqOr,zF,zS,reduceCtorEq]at h<;>obtain⟨rfl,rfl⟩:=h
 ·have:binOp .eql q u v=(do pure (.bool (<-zW q u v)):Sem Value):=by
   cases u<;>first|rfl|exact absurd rfl (hu _ _)|exact absurd rfl (Z _)|exact absurd rfl (Y _ _)|simp_all|(cases v<;>rfl)
  simp[this,G,J]
 ·have:binOp .neq q u v=(do pure (.bool (!(<-zW q u v))):Sem Value):=by
   cases u<;>first|rfl|exact absurd rfl (hu _ _)|exact absurd rfl (Z _)|exact absurd rfl (Y _ _)|simp_all|(cases v<;>rfl)
  simp[this,G,notT_ev,J,asB]
theorem EW{op:BinOp}{q:TypeId}{x y:Operand}{u v:Value}(d:u≠.nilIface)(J:∀c,u≠.agg c):(eqGuard op q x y u v).run P w=.ok () w:=by
 cases u<;>first|exact absurd rfl d|exact absurd rfl (J _)|(unfold eqGuard;cases op<;>rfl)
theorem EX(t:TypeId)(x y:Value):zW t x y=zX (9999+1) t x y:=rfl
theorem M9{t:TypeId}{m n:Bool}(h:P.underlying t=some .bool):(zW t (.bool m) (.bool n)).run P w=.ok (m==n) w:=by
 rw[EX,zX];simp[run_underlying h]
theorem run_equal_p{t e:TypeId}{n:Option Addr}(h:P.underlying t=some (.pointer e)):(zW t (.pointer none) (.pointer n)).run P w=.ok n.isNone w:=by
 rw[EX,zX];simp[run_underlying h]
theorem run_equal_p'{t e:TypeId}{n:Option Addr}(h:P.underlying t=some (.pointer e)):(zW t (.pointer n) (.pointer none)).run P w=.ok n.isNone w:=by
 rw[EX,zX];cases n<;>simp[run_underlying h]
theorem run_equal_sl{t e:TypeId}{n:Option Addr}{a b c d:Nat}(h:P.underlying t=some (.slice e)):(zW t (.slice none a b) (.slice n c d)).run P w=.ok n.isNone w:=by
 rw[EX,zX];simp[run_underlying h]
theorem Na{t e:TypeId}{n:Option Addr}{a b c d:Nat}(h:P.underlying t=some (.slice e)):(zW t (.slice n c d) (.slice none a b)).run P w=.ok n.isNone w:=by
 rw[EX,zX];cases n<;>simp[run_underlying h]
theorem run_equal_m{t e f:TypeId}{n:Option Nat}(h:P.underlying t=some (.map e f)):(zW t (.map none) (.map n)).run P w=.ok n.isNone w:=by
 rw[EX,zX];simp[run_underlying h]
theorem run_equal_m'{t e f:TypeId}{n:Option Nat}(h:P.underlying t=some (.map e f)):(zW t (.map n) (.map none)).run P w=.ok n.isNone w:=by
 rw[EX,zX];cases n<;>simp[run_underlying h]
theorem run_binOpT{op:BinOp}{G:TypeId}{x y:Operand}{p q t:T}{ns:List T}(h:binOpT P op G p q=some (ns,t))(M:∀z∈ns,asB (z.ev ρ β)=true):
  (do eqGuard op G x y (p.ev ρ β) (q.ev ρ β);binOp op G (p.ev ρ β) (q.ev ρ β):Sem Value).run P w=.ok (t.ev ρ β) w:=by
 unfold binOpT at h;split at h
 ·split at h
  ·rename_i k A c Z;split at h
   ·rename_i Q;simp only[zF,zS]at h;obtain⟨rfl,rfl⟩:=h;obtain⟨m,hm⟩:=DX (ρ:=ρ) (β:=β) Z;have e:(T.b2 (.wmul k) p (.int k (2^c.toNat))).ev ρ β=.int k (k.wrap (m*2^c.toNat)):=by simp[T.ev,B.ev,hm,Aj]
    rw[e,hm,zK,EW (by simp) (by simp),zL];have:=shift_shl k A m c Q.1 Q.2;simp[T.ev,binOp,this]
   ·simp at h
  ·simp at h
 ·simp at h
 ·rename_i F I;split at h
  ·rename_i k L Z Y;split at h
   ·rename_i e;subst e;obtain⟨m,hm⟩:=DX (ρ:=ρ) (β:=β) Z;obtain⟨n,d⟩:=DX (ρ:=ρ) (β:=β) Y;grind[zK,EW,zL,run_binI]
   ·simp at h
  ·rename_i Z Y;obtain⟨m,hm⟩:=FJ (ρ:=ρ) (β:=β) Z;obtain⟨n,d⟩:=FJ (ρ:=ρ) (β:=β) Y;grind[zK,EW,zL,run_binS]
  ·rename_i Z Y;split at h;case h_2=>simp at h
   rename_i J;obtain⟨m,hm⟩:=Fq (ρ:=ρ) (β:=β) Z;obtain⟨n,d⟩:=Fq (ρ:=ρ) (β:=β) Y;rw[hm,d,zK,EW (by simp) (by simp),zL];exact FM (b:=m==n) h (by simp[T.ev,B.ev,hm,d,asB]) (M9 J) (by simp) (by simp) (by simp) (by simp)
  ·rename_i Z Y;split at h;case h_2=>simp at h
   rename_i J;obtain⟨m,hm⟩:=Gk (ρ:=ρ) (β:=β) Z;obtain⟨n,d⟩:=Gk (ρ:=ρ) (β:=β) Y;unfold eqNil at h;split at h
   ·rename_i W;subst W;show(do eqGuard op G x y (zY none) (q.ev ρ β);binOp op G (zY none) (q.ev ρ β):Sem Value).run P w=_;rw[d,zK,EW (by simp) (by simp),zL];exact FM (b:=n.isNone) h (by simp[T.ev,U.ev,d,AN]) (run_equal_p J) (by simp) (by simp) (by simp) (by simp)
   ·split at h;case isFalse=>simp at h
    rename_i W;subst W;show(do eqGuard op G x y (p.ev ρ β) (zY none);binOp op G (p.ev ρ β) (zY none):Sem Value).run P w=_;rw[hm,zK,EW (by simp) (by simp),zL];exact FM (b:=m.isNone) h (by simp[T.ev,U.ev,hm,AN]) (run_equal_p' J) (by simp) (by simp) (by simp) (by simp)
  ·rename_i Z Y;split at h;case h_2=>simp at h
   rename_i J;obtain⟨m,R,X,hm⟩:=GX (ρ:=ρ) (β:=β) Z;obtain⟨n,D,E,d⟩:=GX (ρ:=ρ) (β:=β) Y;unfold eqNil at h;split at h
   ·rename_i W;subst W;show(do eqGuard op G x y (zZ none 0 0) (q.ev ρ β);binOp op G (zZ none 0 0) (q.ev ρ β):Sem Value).run P w=_;rw[d,zK,EW (by simp) (by simp),zL];exact FM (b:=n.isNone) h (by simp[T.ev,U.ev,d,AN]) (run_equal_sl J) (by simp) (by simp) (by simp) (by simp)
   ·split at h;case isFalse=>simp at h
    rename_i W;subst W;show(do eqGuard op G x y (p.ev ρ β) (zZ none 0 0);binOp op G (p.ev ρ β) (zZ none 0 0):Sem Value).run P w=_;rw[hm,zK,EW (by simp) (by simp),zL];exact FM (b:=m.isNone) h (by simp[T.ev,U.ev,hm,AN]) (Na J) (by simp) (by simp) (by simp) (by simp)
  ·rename_i Z Y;split at h;case h_2=>simp at h
   rename_i J;obtain⟨m,hm⟩:=kind_m (ρ:=ρ) (β:=β) Z;obtain⟨n,d⟩:=kind_m (ρ:=ρ) (β:=β) Y;unfold eqNil at h;split at h
   ·rename_i W;subst W;show(do eqGuard op G x y (zz none) (q.ev ρ β);binOp op G (zz none) (q.ev ρ β):Sem Value).run P w=_;rw[d,zK,EW (by simp) (by simp),zL];exact FM (b:=n.isNone) h (by simp[T.ev,U.ev,d,Gc]) (run_equal_m J) (by simp) (by simp) (by simp) (by simp)
   ·split at h;case isFalse=>simp at h
    rename_i W;subst W;show(do eqGuard op G x y (p.ev ρ β) (zz none);binOp op G (p.ev ρ β) (zz none):Sem Value).run P w=_;rw[hm,zK,EW (by simp) (by simp),zL];exact FM (b:=m.isNone) h (by simp[T.ev,U.ev,hm,Gc]) (run_equal_m' J) (by simp) (by simp) (by simp) (by simp)
  ·simp at h
end
end Go.Sx
