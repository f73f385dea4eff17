/- Part 1: no statement of the seat is proved here. -/
import Derived.Tactics
import Derived.Below
import Derived.Laws.Cells
import Derived.Laws.CopyRow
import Derived.Great.BuildSlice
import Derived.Maps.Own
import Derived.Orders
import Derived.Laws.Strings
import Derived.MapKept
set_option linter.unusedVariables false
set_option linter.unusedSimpArgs false
open ByteArray renaming empty->zA
open List renaming range->zB,map_cons->zH,length_append->zI,append_assoc->zJ,cons_append->zK,mem_singleton->zR,getElem?_take->zS,getElem?_drop->zT,length_cons->zo,lookup_cons->z7,mem_cons_self->yA,mem_cons_of_mem->yB,all_eq_true->yC,filter_cons->yD
open Bool renaming and_eq_true->zC,false_eq_true->zQ,not_eq_true'->zz
open Option renaming or_eq_none_iff->zE,map_some->zL,bind_some->zM,map_eq_some_iff->zy,map_none->zb,isSome_iff_exists->yF
open Go.Addr renaming add->zF
open Option.some renaming injEq->zG
open Go.Sem renaming run_bind->zN,run_pure->zP
open Go.Result renaming andThen_ok->zO
open Go.ByteArray renaming toList_eq->zU
open Go.IntKind renaming signed->zV,bits->zX
open Prod.mk renaming injEq->zY
open Go.Op renaming intArith->zZ,stringOp->zw,equal->zu,equalIn->zt
open Go.Value renaming pointer->zr,slice->zq,map->zp
open Go.Instr renaming build->zn,indexAt->zl,sliceAt->zk,slice->zi,sliceBounds->zh,sliceBound->zg,sureAddr->zd
open Int renaming eq_ofNat_of_zero_le->zj,natCast_inj->ze
open Go.Value.int renaming injEq->zf
open Array renaming toList_map->zc,getElem?_eq_some_iff->yE
open Go.Builtin renaming len_->za
namespace Go.Sx
abbrev _root_.Go.KB:=ByteArray
open Go
abbrev Mem:=Nat->Option Obj
def Mem.le(V:Mem)(w:World):Prop:=∀b o,V b=some o->w.heap[b]?=some o
def Mem.set(V:Mem)(b:Nat)(o:Obj):Mem:=λc=>if c=b then some o else V c
theorem Mem.set_same(V:Mem)(b:Nat)(o:Obj):V.set b o b=some o:=by simp[Mem.set]
theorem Mem.set_ne{V:Mem}{b c:Nat}{o:Obj}(h:c≠b):V.set b o c=V c:=by simp[Mem.set,h]
def Mem.row(V:Mem)(a:Addr)(n:Nat):Option (List Value):=
 match V a.block with
 |some (.cells c _ _)=>if a.spot.isNone/\a.off+n<=c.size then some ((c.toList.drop a.off).take n)else none
 |_=>none
def Mem.rowp(V:Mem)(p:Option Addr)(off n:Nat):Option (List Value):=
 match p with
 |some a=>V.row (a.add off) n
 |none=>none
inductive K where
 |i (k:IntKind)|b|s|sl|p|m|f|r
 deriving DecidableEq
def Aq:Value->Int|.int _ n=>n|_=>0
def asB:Value->Bool|.bool b=>b|_=>false
def Ba:Value->KB|.string s=>s|_=>zA
def AT:Value->Option Addr|.pointer a=>a|.slice a _ _=>a|_=>none
def FD:Value->Nat|.slice _ n _=>n|_=>0
def asCap:Value->Nat|.slice _ _ n=>n|_=>0
def G7:Value->Option Nat|.map r=>r|_=>none
def G8:Value->Bool
 |.agg _|.tuple _=>false
 |_=>true
def K.cast:K->Value->Value
 |.i k,v=>.int k (Aq v)
 |.b,v=>.bool (asB v)
 |.s,v=>.string (Ba v)
 |.sl,v=>.slice (AT v) (FD v) (asCap v)
 |.p,v=>.pointer (AT v)
 |.m,v=>.map (G7 v)
 |.f,v=>match v with|.func g a c=>.func g a c|_=>.nilFunc
 |.r,v=>match v with|.agg _=>.nilIface|.tuple _=>.nilIface|v=>v
def K.ok(k:K)(v:Value):Prop:=k.cast v=v
def Shaped:List K->List Value->Prop
 |[],[]=>True
 |k::ks,v::vs=>k.ok v/\Shaped ks vs
 |_,_=>False
inductive U where
 |not|len|cap|slen|poff (n:Nat)|conv (k:IntKind)|wconv (k:IntKind)|inr (k:IntKind)|pnil|slnil|mnil|slbase|neg (k:IntKind)|szero
 deriving DecidableEq
inductive B where
 |add (k:IntKind)|sub (k:IntKind)|mul (k:IntKind)|quo (k:IntKind)|rem (k:IntKind)
 |lt|le|eqi|eqb|eqs|lts|cat|sidx|padd (e sz:Nat)|and|or|imax (k:IntKind)|imin (k:IntKind)|idxok|sidxok|wadd (k:IntKind)|wsub (k:IntKind)|wmul (k:IntKind)
 |bits (o:BinOp) (k:IntKind)
 deriving DecidableEq
inductive C where
 |sel|slc|ssub|bnd|slp (sz:Nat)
 deriving DecidableEq
inductive T where
 |var (k:K) (n:Nat)
 |int (k:IntKind) (n:Int)
 |bool (b:Bool)
 |str (l:List UInt8)
 |und|nilp|nilsl|nilm|nilf|nili
 |box (i off:Nat)
 |glob (g:Nat)
 |fn (f:Nat) (caps:T)
 |u (o:U) (x:T)
 |b2 (o:B) (x y:T)
 |c3 (o:C) (x y z:T)
 |nil|cons (h t:T)
 |agg (cs:T)
 |tup (cs:T)
 deriving DecidableEq
def Aa(p:Option Addr)(n:Nat):Option Addr:=p.map (·.add n)
def U.ev:U->Value->Value
 |.not,x=>.bool (!asB x)
 |.len,x=>.int .i64 (FD x)
 |.cap,x=>.int .i64 (asCap x)
 |.slen,x=>.int .i64 (Ba x).size
 |.poff n,x=>.pointer (Aa (AT x) n)
 |.conv k,x=>.int k (Aq x)
 |.wconv k,x=>.int k (k.wrap (Aq x))
 |.inr k,x=>.bool (decide (k.min<=Aq x/\Aq x<=k.max))
 |.pnil,x=>.bool (AT x).isNone
 |.slnil,x=>.bool (AT x).isNone
 |.mnil,x=>.bool (G7 x).isNone
 |.slbase,x=>.pointer (AT x)
 |.neg k,x=>.int k (0-Aq x)
 |.szero,x=>.bool (decide (Ba x=zA))
def Bq(s:KB)(i:Int):Int:=((s.data[i.toNat]?).map (λb=>(b.toNat:Int))).getD 0
def B.ev:B->Value->Value->Value
 |.add k,x,y=>.int k (Aq x+Aq y)
 |.sub k,x,y=>.int k (Aq x-Aq y)
 |.mul k,x,y=>.int k (Aq x*Aq y)
 |.wadd k,x,y=>.int k (k.wrap (Aq x+Aq y))
 |.wsub k,x,y=>.int k (k.wrap (Aq x-Aq y))
 |.wmul k,x,y=>.int k (k.wrap (Aq x*Aq y))
 |.quo k,x,y=>.int k (k.wrap ((Aq x).tdiv (Aq y)))
 |.rem k,x,y=>.int k ((Aq x).tmod (Aq y))
 |.lt,x,y=>.bool (decide (Aq x<Aq y))
 |.le,x,y=>.bool (decide (Aq x<=Aq y))
 |.eqi,x,y=>.bool (decide (Aq x=Aq y))
 |.eqb,x,y=>.bool (asB x==asB y)
 |.eqs,x,y=>.bool (decide (Ba x=Ba y))
 |.lts,x,y=>.bool (Op.bytesLess (Ba x).toList (Ba y).toList)
 |.cat,x,y=>.string (Ba x++Ba y)
 |.sidx,x,y=>.int .u8 (Bq (Ba x) (Aq y))
 |.padd _ sz,x,y=>.pointer (Aa (AT x) ((Aq y).toNat*sz))
 |.and,x,y=>.bool (asB x&&asB y)
 |.or,x,y=>.bool (asB x||asB y)
 |.imax k,x,y=>.int k (max (Aq x) (Aq y))
 |.imin k,x,y=>.int k (min (Aq x) (Aq y))
 |.idxok,x,y=>.bool (decide (0<=Aq y/\Aq y<(FD x:Int)))
 |.sidxok,x,y=>.bool (decide (0<=Aq y/\Aq y<((Ba x).size:Int)))
 |.bits o k,x,y=>.int k (Go.bits o k (Aq x) (Aq y))
def C.ev:C->Value->Value->Value->Value
 |.sel,c,x,y=>if asB c then x else y
 |.slc,p,l,c=>.slice (AT p) (Aq l).toNat (Aq c).toNat
 |.ssub,s,l,h=>.string ((Ba s).extract (Aq l).toNat (Aq h).toNat)
 |.slp sz,x,l,m=>.pointer (if Aq m=Aq l then AT x else Aa (AT x) ((Aq l).toNat*sz))
 |.bnd,l,h,m=>.bool (decide (0<=Aq l/\Aq l<=Aq h/\Aq h<=Aq m))
mutual
def T.ev(ρ:List Value)(β:Nat->Nat):T->Value
 |.var k n=>k.cast (ρ.getD n undef)
 |.int k n=>.int k n
 |.bool b=>.bool b
 |.str l=>.string ⟨l.toArray⟩
 |.und=>undef
 |.nilp=>.pointer none
 |.nilsl=>.slice none 0 0
 |.nilm=>.map none
 |.nilf=>.nilFunc
 |.nili=>.nilIface
 |.box i off=>.pointer (some ⟨β i,off,none⟩)
 |.glob g=>.pointer (some ⟨g,0,none⟩)
 |.fn f caps=>.func (.func f) #[] (caps.evs ρ β).toArray
 |.u o x=>o.ev (x.ev ρ β)
 |.b2 o x y=>o.ev (x.ev ρ β) (y.ev ρ β)
 |.c3 o x y z=>o.ev (x.ev ρ β) (y.ev ρ β) (z.ev ρ β)
 |.nil=>undef
 |.cons _ _=>undef
 |.agg cs=>.agg (cs.evs ρ β).toArray
 |.tup cs=>.tuple (cs.evs ρ β).toArray
def T.evs(ρ:List Value)(β:Nat->Nat):T->List Value
 |.cons h t=>h.ev ρ β::t.evs ρ β
 |.nil=>[]
 |_=>[]
end
def T.kind:T->Option K
 |.var k _=>some k
 |.int k _=>some (.i k)
 |.bool _=>some .b
 |.str _=>some .s
 |.nilp=>some .p|.nilsl=>some .sl|.nilm=>some .m|.nilf=>some .f|.nili=>some .r
 |.box _ _|.glob _=>some .p
 |.fn _ _=>some .f
 |.u o _=>match o with
  |.not|.inr _|.pnil|.slnil|.mnil|.szero=>some .b
  |.len|.cap|.slen=>some (.i .i64)
  |.poff _|.slbase=>some .p
  |.conv k|.wconv k|.neg k=>some (.i k)
 |.b2 o _ _=>match o with
  |.add k|.sub k|.mul k|.quo k|.rem k|.imax k|.imin k|.wadd k|.wsub k|.wmul k|.bits _ k=>some (.i k)
  |.lt|.le|.eqi|.eqb|.eqs|.lts|.and|.or|.idxok|.sidxok=>some .b
  |.cat=>some .s
  |.sidx=>some (.i .u8)
  |.padd _ _=>some .p
 |.c3 o _ y z=>match o with
  |.sel=>match y.kind,z.kind with|some j,some k=>if j=k then some j else none|_,_=>none
  |.slc=>some .sl
  |.ssub=>some .s
  |.bnd=>some .b
  |.slp _=>some .p
 |_=>none
def T.wf(n b:Nat):T->Bool
 |.var _ m=>decide (m<n)
 |.box i _=>decide (i<b)
 |.fn _ caps=>caps.wf n b
 |.u _ x=>x.wf n b
 |.b2 _ x y=>x.wf n b&&y.wf n b
 |.c3 _ x y z=>x.wf n b&&y.wf n b&&z.wf n b
 |.cons h t=>h.wf n b&&t.wf n b
 |.agg cs=>cs.wf n b
 |.tup cs=>cs.wf n b
 |_=>true
def T.firstBox:T->Option Nat
 |.box i _=>some i
 |.fn _ caps=>caps.firstBox
 |.u _ x=>x.firstBox
 |.b2 _ x y=>x.firstBox.or y.firstBox
 |.c3 _ x y z=>x.firstBox.or (y.firstBox.or z.firstBox)
 |.cons h t=>h.firstBox.or t.firstBox
 |.agg cs=>cs.firstBox
 |.tup cs=>cs.firstBox
 |_=>none
def T.poff:T->Nat->T
 |.box i o,n=>.box i (o+n)
 |.u (.poff m) q,n=>.u (.poff (m+n)) q
 |q,n=>.u (.poff n) q
def T.subst(i k:Nat):T->T
 |.box j o=>if j=i then .u (.poff o) (.var .p k)else .box j o
 |.fn f caps=>.fn f (caps.subst i k)
 |.u o x=>.u o (x.subst i k)
 |.b2 o x y=>.b2 o (x.subst i k) (y.subst i k)
 |.c3 o x y z=>.c3 o (x.subst i k) (y.subst i k) (z.subst i k)
 |.cons h t=>.cons (h.subst i k) (t.subst i k)
 |.agg cs=>.agg (cs.subst i k)
 |.tup cs=>.tup (cs.subst i k)
 |t=>t
inductive RK where
 |one (k:K)
 |agg (ks:List K)
 deriving DecidableEq
def RK.size:RK->Nat|.one _=>1|.agg ks=>ks.length
def RK.kinds:RK->List K|.one k=>[k]|.agg ks=>ks
def RK.val:RK->List Value->Value
 |.one _,vs=>vs.headD undef
 |.agg _,vs=>.agg vs.toArray
def HJ:List RK->List Value->List Value
 |[],_=>[]
 |r::rs,vs=>r.val (vs.take r.size)::HJ rs (vs.drop r.size)
def E1(rs:List RK)(vs:List Value):Value:=
 match rs with
 |[r]=>r.val vs
 |rs=>.tuple (HJ rs vs).toArray
inductive Tr where
 |bad (why:Nat) (at_:Nat)
 |ret (v:T)
 |br (c:T) (a b:Tr)
 |need (c:T) (k:Tr)
 |ld (base idx:T) (sz n:Nat) (ks:List K) (k:Tr)
 |st (p:T) (off:Nat) (cs:T) (k:Tr)
 |pub (cs:T) (ty:Nat) (k:Tr)
 |call (f:Nat) (args:T) (rs:List RK) (k:Tr)
 |callv (fv:T) (args:T) (rs:List RK) (k:Tr)
 |loop (init:T) (ks:List K) (body:Tr)
 |cont (lvl:Nat) (vals:T)
 |gen (o:Op) (ty:Nat) (ts:List (Nat×T)) (rs:List RK) (k:Tr)
 |gens (o:Op) (ty:Nat) (ts:List (Nat×T)) (k:Tr)
 |again (p:T) (cs:T) (k:Tr)
 |both (a b:Tr)
 |pan (v:T)
end Go.Sx
namespace Go.Sx
open Go
structure As (V:Mem)(w:World)(V':Mem)(w':World):Prop where
 size:w.heap.size<=w'.heap.size
 le:V'.le w'
 old:∀b,b<w.heap.size->V b=none->w'.heap[b]?=w.heap[b]?
 dom:∀b,V' b≠none->V b≠none∨w.heap.size<=b
 os:w'.os=w.os
 out:w'.output=w.output
theorem As.refl{V:Mem}{w:World}(h:V.le w):As V w V w:=
 ⟨Nat.le_refl _,h,λ_ _ _=>rfl,λ_ h=>.inl h,rfl,rfl⟩
theorem As.trans{V V' q:Mem}{w w' d:World}(h:As V w V' w')(k:As V' w' q d):As V w q d:=by
  refine⟨Nat.le_trans h.size k.size,k.le,λb J Z=>?_,λb J=>?_,k.os.trans h.os,k.out.trans h.out⟩
  · have G:V' b=none:=by
      cases Y:V' b with
      |none=>rfl
      | some o => rcases h.dom b (by simp[Y]) with h1|h1
                  · exact absurd Z h1
                  · omega
    exact(k.old b (Nat.lt_of_lt_of_le J h.size) G).trans (h.old b J Z)
  · rcases k.dom b J with h1|h1;· exact h.dom b h1
    · exact .inr (Nat.le_trans h.size h1)
def Tri(P:Program)(f:FuncId)(args:Array Value)(V:Mem)(R:Ending->Mem->Prop):Prop:=
 ∀w,V.le w->Calls P f args w λe w'=>∃V',R e V'/\As V w V' w'
theorem Tri.mono{P:Program}{f:FuncId}{args:Array Value}{V:Mem}{R q:Ending->Mem->Prop}(h:Tri P f args V R)
  (d:∀e V',R e V'->q e V'):Tri P f args V q:=λw hw cs=>
 let⟨e,w',fr,⟨V',J,G⟩,rest⟩:=h w hw cs
 ⟨e,w',fr,⟨V',d _ _ J,G⟩,rest⟩
def gv(l:List (Nat×Value)):Operand->Value
 |.tmp t=>(l.lookup t).getD undef
 |.const v=>v
 |.global g=>.pointer (some ⟨g,0,none⟩)
 |.func f=>.func (.func f) #[] #[]
def gval(ts:List (Nat×T))(ρ:List Value):Operand->Value:=gv (ts.map λx=>(x.1,x.2.ev ρ id))
def D(P:Program)(R:Ending->Mem->Prop):Tr->List (List Value->Mem->Prop)->List Value->Mem->Prop
 |.bad _ _,_,_,_=>False
 |.ret v,_,ρ,V=>R (.returned (v.ev ρ id)) V
 |.br c a b,L,ρ,V=>(asB (c.ev ρ id)=true->D P R a L ρ V)/\(asB (c.ev ρ id)=false->D P R b L ρ V)
 |.need c k,L,ρ,V=>asB (c.ev ρ id)=true/\D P R k L ρ V
 |.ld base idx sz n ks k,L,ρ,V=>∃vs,V.rowp (AT (base.ev ρ id)) ((Aq (idx.ev ρ id)).toNat*sz) n=some vs/\Shaped ks vs/\D P R k L (ρ++vs) V
 |.st p off cs k,L,ρ,V=>∃a c ty,AT (p.ev ρ id)=some a/\V a.block=some (.cells c ty (0,0))/\a.spot=none/\a.off+off+(cs.evs ρ id).length<=c.size/\
   D P R k L ρ (V.set a.block (.cells (c.toList.take (a.off+off)++cs.evs ρ id++c.toList.drop (a.off+off+(cs.evs ρ id).length)).toArray ty (0,0)))
 |.pub cs ty k,L,ρ,V=>∀b,V b=none->D P R k L (ρ++[.pointer (some ⟨b,0,none⟩)]) (V.set b (.cells (cs.evs ρ id).toArray ty (0,0)))
 |.call f args rs k,L,ρ,V=>Tri P f (args.evs ρ id).toArray V λe V'=>(∃vs,e=.returned (E1 rs vs)/\Shaped (rs.flatMap RK.kinds) vs/\D P R k L (ρ++vs) V')∨∃d,e=.panicked d/\R e V'
 |.callv fv args rs k,L,ρ,V=>∃f first caps,fv.ev ρ id=.func (.func f) first caps/\(∀args w,(callFunc f args).run P w=.ok (.enter f args) w)/\
   Tri P f (first++(args.evs ρ id).toArray++caps) V λe V'=>(∃vs,e=.returned (E1 rs vs)/\Shaped (rs.flatMap RK.kinds) vs/\D P R k L (ρ++vs) V')∨∃d,e=.panicked d/\R e V'
 |.loop init ks body,L,ρ,V=>∃(I:List Value->Mem->Prop)(G:List Value->Mem->Nat),I (init.evs ρ id) V/\
   ∀xs V',Shaped ks xs->I xs V'->D P R body (L++[λZ q=>I Z q/\G Z q<G xs V']) (ρ++xs) V'
 |.cont lvl vals,L,ρ,V=>∃J,L[lvl]?=some J/\J (vals.evs ρ id) V
 |.gen o ty ts rs k,L,ρ,V=>∀w,V.le w->∃x w' V' vs,(execOp (gval ts ρ) { dst:=none,op:=o,type:=ty,pos:= "",after:=#[],guard:=none}).run P w=.ok (.value x) w'/\
   As V w V' w'/\x=E1 rs vs/\Shaped (rs.flatMap RK.kinds) vs/\D P R k L (ρ++vs) V'
 |.again p cs k,L,ρ,V=>V.rowp (AT (p.ev ρ id)) 0 (cs.evs ρ id).length=some (cs.evs ρ id)/\D P R k L ρ V
 |.both a b,L,ρ,V=>D P R a L ρ V/\D P R b L ρ V
 |.pan v,_,ρ,V=>∃t x,v.ev ρ id=.iface t x/\R (.panicked [{v:=.iface t x,recovered:=false}]) V
 |.gens o ty ts k,L,ρ,V=>∀w,V.le w->∃w' V',(execOp (gval ts ρ) { dst:=none,op:=o,type:=ty,pos:= "",after:=#[],guard:=none}).run P w=.ok .skip w'/\
   As V w V' w'/\D P R k L ρ V'
structure St where
 slots:List (Nat×T)
 boxes:List (Nat×T×Nat)
 nv:Nat
 nb:Nat
 depth:Nat
def St.put(st:St)(d:Nat)(t:T):St:={st with slots:=(d,t)::st.slots}
def St.putO(st:St)(d:Option Nat)(t:T):St:=match d with|some d=>st.put d t|none=>st
def St.get(st:St)(s:Nat):Option T:=match st.slots.lookup s with|some .nil=>none|x=>x
def St.box(st:St)(i:Nat):Option (T×Nat):=st.boxes.lookup i
def St.setBox(st:St)(i:Nat)(cs:T)(ty:Nat):St:={st with boxes:=(i,cs,ty)::st.boxes}
def St.wf(st:St):Bool:=st.slots.all (λx=>x.2.wf st.nv st.nb)&&st.boxes.all (λx=>decide (x.1<st.nb)&&x.2.1.wf st.nv st.nb)
def T.ofList:List T->T
 |[]=>.nil
 |t::ts=>.cons t (T.ofList ts)
def T.toList:T->List T
 |.cons h t=>h::t.toList
 |_=>[]
def vars(ks:List K)(n:Nat):List T:=
 match ks with
 |[]=>[]
 |k::ks=>.var k n::vars ks (n+1)
def Fi:Value->Option T
 |.int k n=>some (.int k n)
 |.bool b=>some (.bool b)
 |.string s=>some (.str s.data.toList)
 |.pointer none=>some .nilp
 |.slice none 0 0=>some .nilsl
 |.map none=>some .nilm
 |.nilFunc=>some .nilf
 |.nilIface=>some .nili
 |.func (.func f) a c=>if a.isEmpty&&c.isEmpty then some (.fn f .nil)else none
 |_=>none
def HK:List Value->Option (List T)
 |[]=>some []
 |v::vs=>match Fi v,HK vs with|some t,some ts=>some (t::ts)|_,_=>none
def valT:Value->Option T
 |.agg cs=>(HK cs.toList).map λts=>.agg (T.ofList ts)
 |.tuple cs=>if cs.isEmpty then some .und else none
 |v=>Fi v
def kindV:Value->Option K
 |.int k _=>some (.i k)
 |.bool _=>some .b
 |.string _=>some .s
 |.pointer _=>some .p
 |.slice ..=>some .sl
 |.map _=>some .m
 |.nilFunc=>some .f
 |.func ..=>some .f
 |.nilIface=>some .r
 |.iface ..=>some .r
 |_=>none
def kindsV:List Value->Option (List K)
 |[]=>some []
 |v::vs=>match kindV v,kindsV vs with|some k,some ks=>some (k::ks)|_,_=>none
def BF(st:St):Operand->Option T
 |.tmp t=>st.get t
 |.const v=>valT v
 |.global g=>some (.glob g)
 |.func f=>some (.fn f .nil)
def opTs(st:St):List Operand->Option (List T)
 |[]=>some []
 |o::os=>match BF st o,opTs st os with|some t,some ts=>some (t::ts)|_,_=>none
def T.cellsT:T->T
 |.agg cs=>cs
 |t=>.cons t .nil
def GA:T->Bool
 |.agg _=>true
 |_=>false
section
variable(P:Program)
def isAggB(t:TypeId):Option Bool:=(P.underlying t).map λd=>match d with|.struct _|.array _ _=>true|_=>false
def E2(t:TypeId):Option Value:=(P.info? t).bind (·.zero)
def CY(t:TypeId):Option Nat:=(P.info? t).map (·.size)
def FE(t:TypeId):Option (List T):=(E2 P t).bind λv=>HK v.cells.toList
def kindsOf(t:TypeId):Option (List K):=(E2 P t).bind λv=>kindsV v.cells.toList
def rk(t:TypeId):Option RK:=
 match isAggB P t,kindsOf P t with
 |some true,some ks=>some (.agg ks)
 |some false,some [k]=>some (.one k)
 |_,_=>none
def rkList:List TypeId->Option (List RK)
 |[]=>some []
 |t::ts=>match rk P t,rkList ts with|some r,some rs=>some (r::rs)|_,_=>none
def rkOf(t:TypeId):Option (List RK):=
 match P.underlying t with
 |some (.tuple ts)=>if ts.size=1 then none else rkList P ts.toList
 |some _=>(rk P t).map ([·])
 |none=>none
end
def FF:List RK->Nat->List T
 |[],_=>[]
 |.one k::rs,n=>.var k n::FF rs (n+1)
 |.agg ks::rs,n=>.agg (T.ofList (vars ks n))::FF rs (n+ks.length)
def Ig(rs:List RK)(n:Nat):T:=
 match FF rs n with
 |[t]=>t
 |ts=>.tup (T.ofList ts)
def HM(rs:List RK):Nat:=(rs.flatMap RK.kinds).length
def nn(x:T):List T:=
 match x with
 |.box _ _=>[]
 |.glob _=>[]
 |x=>[.u .not (.u .pnil x)]
def EP(x:T):T:=
 match x with
 |.c3 .slc p _ _=>p
 |x=>.u .slbase x
def slLen(x:T):T:=
 match x with
 |.c3 .slc _ (.int _ n) _=>if 0<=n then .int .i64 n else .u .len x
 |.nilsl=>.int .i64 0
 |x=>.u .len x
def FG(x:T):T:=
 match x with
 |.c3 .slc _ _ (.int _ n)=>if 0<=n then .int .i64 n else .u .cap x
 |.nilsl=>.int .i64 0
 |x=>.u .cap x
def paddT(e sz:Nat)(p i:T):T:=
 match p,i with
 |.box b o,.int _ n=>if 0<=n then .box b (o+n.toNat*sz)else .b2 (.padd e sz) p i
 |p,i=>.b2 (.padd e sz) p i
def notT(x:T):T:=
 match x with
 |.bool b=>.bool (!b)
 |x=>.u .not x
def inr(k:IntKind)(x:T):List T:=[.u (.inr k) x]
def cmpI(op:BinOp)(x y:T):Option T:=
 match op with
 |.eql=>some (match x,y with|.int _ a,.int _ b=>.bool (decide (a=b))|x,y=>.b2 .eqi x y)
 |.neq=>some (match x,y with|.int _ a,.int _ b=>.bool (!decide (a=b))|x,y=>.u .not (.b2 .eqi x y))
 |.lss=>some (match x,y with|.int _ a,.int _ b=>.bool (decide (a<b))|x,y=>.b2 .lt x y)
 |.leq=>some (match x,y with|.int _ a,.int _ b=>.bool (decide (a<=b))|x,y=>.b2 .le x y)
 |.gtr=>some (match x,y with|.int _ a,.int _ b=>.bool (decide (b<a))|x,y=>.b2 .lt y x)
 |.geq=>some (match x,y with|.int _ a,.int _ b=>.bool (decide (b<=a))|x,y=>.b2 .le y x)
 |_=>none
def binI(op:BinOp)(k:IntKind)(x y:T):Option (List T×T):=
 match op with
 |.add=>some (inr k (.b2 (.add k) x y),.b2 (.add k) x y)
 |.sub=>some (inr k (.b2 (.sub k) x y),.b2 (.sub k) x y)
 |.mul=>match k with|.u64=>some ([],.b2 (.wmul .u64) x y)|.u32=>some ([],.b2 (.wmul .u32) x y)|k=>some (inr k (.b2 (.mul k) x y),.b2 (.mul k) x y)
 |.quo=>some ([.u .not (.b2 .eqi y (.int k 0))],.b2 (.quo k) x y)
 |.rem=>some ([.u .not (.b2 .eqi y (.int k 0))],.b2 (.rem k) x y)
 |.and|.or|.xor|.andNot=>some ([],.b2 (.bits op k) x y)
 |op=>(cmpI op x y).map ([],·)
def binS(op:BinOp)(x y:T):Option (List T×T):=
 match op with
 |.add=>some (inr .i64 (.b2 (.add .i64) (.u .slen x) (.u .slen y)),.b2 .cat x y)
 |.eql=>some ([],.b2 .eqs x y)
 |.neq=>some ([],.u .not (.b2 .eqs x y))
 |.lss=>some ([],.b2 .lts x y)
 |.geq=>some ([],.u .not (.b2 .lts x y))
 |.leq=>some ([],.b2 .or (.b2 .lts x y) (.b2 .eqs x y))
 |.gtr=>some ([],.u .not (.b2 .or (.b2 .lts x y) (.b2 .eqs x y)))
 |_=>none
def eqOr(op:BinOp)(t:T):Option (List T×T):=
 match op with
 |.eql=>some ([],t)
 |.neq=>some ([],notT t)
 |_=>none
def eqNil(op:BinOp)(n:T)(f:U)(x y:T):Option (List T×T):=
 if x=n then eqOr op (.u f y)else if y=n then eqOr op (.u f x)else none
def binOpT(P:Program)(op:BinOp)(q:TypeId)(x y:T):Option (List T×T):=
 match op with
 |.shl|.shr=>none
 |op=>
  match x.kind,y.kind with
  |some (.i k),some (.i d)=>if k=d then binI op k x y else none
  |some .s,some .s=>binS op x y
  |some .b,some .b=>match P.underlying q with|some .bool=>eqOr op (.b2 .eqb x y)|_=>none
  |some .p,some .p=>match P.underlying q with|some (.pointer _)=>eqNil op .nilp .pnil x y|_=>none
  |some .sl,some .sl=>match P.underlying q with|some (.slice _)=>eqNil op .nilsl .slnil x y|_=>none
  |some .m,some .m=>match P.underlying q with|some (.map _ _)=>eqNil op .nilm .mnil x y|_=>none
  |_,_=>none
def DH:T->Option (List K)
 |.nil=>some []
 |.cons h t=>match h.kind,DH t with|some k,some ks=>some (k::ks)|_,_=>none
 |_=>none
def GB(q:Nat->Option (Nat×Nat))(cells:List T):List (Nat×T)->Option (List T)
 |[]=>some cells
 |(i,t)::rest=>
  match q i with
  |none=>none
  |some (off,size)=>
   let ts:=t.cellsT.toList
   if ts.length=size/\off+size<=cells.length/\(DH t.cellsT).isSome then GB q (cells.take off++ts++cells.drop (off+size)) rest else none
def partsT(st:St):List (Nat×Operand)->Option (List (Nat×T))
 |[]=>some []
 |(i,x)::rest=>match BF st x,partsT st rest with|some t,some ts=>some ((i,t)::ts)|_,_=>none
def Ke(P:Program)(fs:Array Field):Nat->Option (Nat×Nat):=λi=>(fs[i]?).bind λf=>(CY P f.type).map λs=>(f.offset,s)
def takeT(t:T)(off n:Nat):List T:=(t.toList.drop off).take n
def Eh(P:Program)(t:TypeId)(cs:T)(off:Nat):Option T:=
 match isAggB P t,CY P t with
 |some true,some n=>let l:=takeT cs off n;if l.length=n then some (.agg (T.ofList l))else none
 |some false,some _=>cs.toList[off]?
 |_,_=>none
def eqFs(g:TypeId->T->T->Option T)(P:Program)(cs ds:T):List Field->Option T
 |[]=>some (.bool true)
 |f::fs=>
  if f.name= "_" then none else
  match Eh P f.type cs f.offset,Eh P f.type ds f.offset with
  |some x,some y=>
   match g f.type x y with
   |some a=>if fs.isEmpty then some a else(eqFs g P cs ds fs).map (.b2 .and a)
   |none=>none
  |_,_=>none
def Jg(P:Program):Nat->TypeId->T->T->Option T
 |0,_,_,_=>none
 |d+1,t,x,y=>
  match P.underlying t,x.kind,y.kind with
  |some (.int _),some (.i k),some (.i q)=>if k=q then some (.b2 .eqi x y)else none
  |some .string,some .s,some .s=>some (.b2 .eqs x y)
  |some .bool,some .b,some .b=>some (.b2 .eqb x y)
  |some (.struct fs),none,none=>
   match x,y with
   |.agg cs,.agg ds=>if P.stoodInHeld t=false then eqFs (Jg P d) P cs ds fs.toList else none
   |_,_=>none
  |_,_,_=>none
def eqAgg(P:Program)(op:BinOp)(q:TypeId)(x y:T):Option (List T×T):=
 match x,y with
 |.agg _,.agg _=>if P.eqGuardType P.depth q=false then(Jg P 5 q x y).bind (eqOr op)else none
 |_,_=>none
def C6(P:Program)(st:St):Op->Option (List T×T)
 |.move x|.assign x=>(BF st x).map ([],·)
 |.pick c a b=>
  match BF st c,BF st a,BF st b with
  |some (.bool v),some x,some y=>some ([],if v then x else y)
  |_,_,_=>none
 |.load t a=>
  match BF st a with
  |some (.box i o)=>(st.box i).bind λx=>(Eh P t x.1 o).map ([],·)
  |_=>none
 |.fieldAddr s x f=>
  match P.underlying s,BF st x with
  |some (.struct fs),some p=>
   (fs[f]?).bind λd=>match CY P d.type with
    |some (_+1)=>if p.kind=some .p then some (nn p,p.poff d.offset)else none
    |_=>none
  |_,_=>none
 |.indexAddr t x i=>
  match P.underlying t,BF st x,BF st i with
  |some (.slice e),some s,some j=>
   match s.kind,j.kind,CY P e with
   |some .sl,some (.i _),some sz=>some (nn (EP s)++[.b2 .le (.int .i64 0) j,.b2 .lt j (slLen s)],paddT e sz (EP s) j)
   |_,_,_=>none
  |some (.array len e),some p,some (.int _ k)=>
   match CY P e with
   |some sz=>if p.kind=some .p/\0<=k/\k<(len:Int)then some (nn p,p.poff (k.toNat*sz))else none
   |none=>none
  |_,_,_=>none
 |.index t x i=>
  match P.underlying t,BF st x,BF st i with
  |some .string,some s,some j=>
   match s.kind,j.kind with
   |some .s,some (.i _)=>some ([.b2 .sidxok s j],.b2 .sidx s j)
   |_,_=>none
  |_,_,_=>none
 |.binOp op J x y _=>
  match BF st x,BF st y with
  |some a,some b=>(binOpT P op J a b).or (eqAgg P op J a b)
  |_,_=>none
 |.unOp op _ x=>
  match op,BF st x with
  |.not,some t=>if t.kind=some .b then some ([],notT t)else none
  |.neg,some t=>match t.kind with|some (.i k)=>some (inr k (.u (.neg k) t),.u (.neg k) t)|_=>none
  |_,_=>none
 |.convert G dst x=>
  match P.underlying G,P.underlying dst,BF st x with
  |some (.int _),some (.int k),some t=>
   match t.kind with
   |some (.i j)=>if j=k then some (inr k t,t)else some (inr k t,.u (.conv k) t)
   |_=>none
  |some .string,some .string,some t=>if t.kind=some .s then some ([],t)else none
  |_,_,_=>none
 |.build t parts=>
  match P.underlying t,FE P t,partsT st parts.toList with
  |some (.struct fs),some z,some ps=>if fs.toList.all (λf=>(CY P f.type).isSome)then(GB (Ke P fs) z ps).map λcs=>([],.agg (T.ofList cs))else none
  |some (.array _ e),some z,some ps=>
   match CY P e with
   |some sz=>(GB (λi=>some (i*sz,sz)) z ps).map λcs=>([],.agg (T.ofList cs))
   |none=>none
  |_,_,_=>none
 |.field J x f=>
  match P.underlying J,BF st x with
  |some (.struct fs),some (.agg cs)=>(fs[f]?).bind λd=>(Eh P d.type cs d.offset).map ([],·)
  |_,_=>none
 |.extract x i=>
  match BF st x with
  |some (.tup cs)=>(cs.toList[i]?).map ([],·)
  |_=>none
 |.makeFunc fn first q=>
  match fn,opTs st q.toList with
  |.func f,some ts=>if first.isEmpty then some ([],.fn f (T.ofList ts))else none
  |_,_=>none
 |.nilCheck x=>
  match BF st x with
  |some (.fn f cs)=>some ([],.fn f cs)
  |some p=>if p.kind=some .p then some (nn p,p)else none
  |none=>none
 |.slice t x Z Y W=>
  match P.underlying t,BF st x,W with
  |some .string,some s,none=>
   match s.kind,(match Z with|some l=>BF st l|none=>some (.int .i64 0)),(match Y with|some h=>BF st h|none=>some (.u .slen s))with
   |some .s,some l,some h=>match l.kind,h.kind with
    |some (.i _),some (.i _)=>some ([.c3 .bnd l h (.u .slen s)],.c3 .ssub s l h)
    |_,_=>none
   |_,_,_=>none
  |some (.slice e),some s,none=>
   match s.kind,CY P e,(match Z with|some l=>BF st l|none=>some (.int .i64 0)),(match Y with|some h=>BF st h|none=>some (slLen s))with
   |some .sl,some sz,some l,some h=>match l.kind,h.kind with
    |some (.i _),some (.i _)=>some ([.c3 .bnd l h (FG s)],.c3 .slc (.c3 (.slp sz) (EP s) l (FG s)) (.b2 (.sub .i64) h l) (.b2 (.sub .i64) (FG s) l))
    |_,_=>none
   |_,_,_,_=>none
  |_,_,_=>none
 |.call c=>
  match c.callee,opTs st c.args.toList,c.argTypes.toList with
  |.builtin .len,some [x],[t]=>
   match x.kind,P.underlying t with
   |some .sl,some (.slice _)=>some ([],slLen x)
   |some .s,some .string=>some ([],.u .slen x)
   |_,_=>none
  |.builtin .cap,some [x],[t]=>
   match x.kind,P.underlying t with
   |some .sl,some (.slice _)=>some ([],FG x)
   |_,_=>none
  |_,_,_=>none
 |_=>none
inductive Ex where
 |normal|exit (id:Nat)|ret
 deriving DecidableEq
structure CJ where
 early:List Nat:=[]
 loops:List (Nat×List Nat):=[]
 keep:List Nat:=[]
 N:Nat
def Ei(N:Nat)(d:Option Nat):Bool:=match d with|some d=>decide (d<N)|none=>true
def Ih(l:List (Nat×T)):List Nat->List (Nat×T)
 |[]=>[]
 |s::q=>match l.lookup s with|some t=>(s,t)::Ih l q|none=>Ih l q
def St.compact(st:St)(keep:List Nat):St:={st with slots:=Ih st.slots keep}
def St.drop(st:St)(d:Nat):St:={st with slots:=st.slots.filter (λx=>x.1 !=d)}
def St.now(st:St)(d:Nat)(t:T):St:=(st.drop d).put d t
def St.pubd(st:St)(i:Nat):St:=
  { st with slots:=st.slots.map (fun x=>(x.1,x.2.subst i st.nv)),
            boxes:=(st.boxes.filter (λx=>x.1 !=i)).map (λx=>(x.1,x.2.1.subst i st.nv,x.2.2)),
            nv:=st.nv+1}
def Ii:Nat->St->Nat->(St->Tr)->Tr
 |0,_,i,_=>.bad 1 i
 |n+1,st,i,k=>
  match st.box i with
  |none=>.bad 2 i
  |some (cs,ty)=>
   match cs.firstBox with
   |some j=>Ii n st j λst=>Ii n st i k
   |none=>if st.wf then .pub cs ty (k (st.pubd i))else .bad 3 i
def pubT:Nat->St->(St->Option T)->(St->T->Tr)->Tr
 |0,_,_,_=>.bad 4 0
 |n+1,st,get,k=>
  match get st with
  |none=>.bad 5 0
  |some t=>
   match t.firstBox with
   |none=>k st t
   |some i=>Ii (st.nb+1) st i λst=>pubT n st get k
def St.more(st:St)(n:Nat):St:={st with nv:=st.nv+n}
def bind(st:St)(n:Nat)(k:St->Tr):Tr:=if st.wf then k (st.more n)else .bad 6 0
def needs:List T->Tr->Tr
 |[],k=>k
 |n::ns,k=>if n.firstBox=none/\n.kind=some .b then .need n (needs ns k)else .bad 7 0
section
variable(P:Program)(fs:List Nat)(H:CJ)
def Ij(st:St)(dst:Option Nat)(cs:T)(ty:Nat)(v:Nat->T)(k:St->Tr):Tr:=
 if st.wf&&cs.wf st.nv st.nb then
  let q:St:=({st with boxes:=(st.nb,cs,ty)::st.boxes,nb:=st.nb+1}).putO dst (v st.nb)
  match dst with
  |some d=>if H.early.contains d then Ii (st.nb+2) q st.nb k else k q
  |none=>k q
 else .bad 8 0
def FZ(l:List Operand):List Nat:=l.filterMap λ|.tmp t=>some t|_=>none
def FH(st:St):List Nat->Option T
 |[]=>some .nil
 |t::ts=>match st.get t,FH st ts with|some x,some xs=>some (.cons x xs)|_,_=>none
def exCall(st:St)(o:Oper)(c:Call)(f:Operand)(k:St->Tr):Tr:=
 match rkOf P o.type with
 |none=>.bad 10 0
 |some rs=>
  match BF st f with
  |some (.fn _ _)=>
   pubT (st.nb+2) st (λst=>match BF st f,opTs st c.args.toList with|some (.fn g caps),some ts=>some (.fn g (T.ofList (ts++caps.toList)))|_,_=>none) λst t=>
    match t with
    |.fn g args=>if fs.contains g then bind st (HM rs) λq=>.call g args rs (k (q.putO o.dst (Ig rs st.nv)))else .bad 11 g
    |_=>.bad 12 0
  |some _=>
   pubT (st.nb+2) st (λst=>match BF st f,opTs st c.args.toList with|some t,some ts=>some (.cons t (T.ofList ts))|_,_=>none) λst t=>
    match t with
    |.cons fv args=>bind st (HM rs) λq=>.callv fv args rs (k (q.putO o.dst (Ig rs st.nv)))
    |_=>.bad 13 0
  |none=>.bad 14 0
def isSkip:Op->Bool
 |.mapUpdate ..|.insert ..=>true
 |_=>false
def F0:Op->Bool
 |.select _ _=>true
 |_=>false
def exGen(st:St)(o:Oper)(k:St->Tr):Tr:=
 let l:=FZ o.op.operands.toList
 if F0 o.op then .bad 60 0 else
 if isSkip o.op then
  pubT (st.nb+2) st (λst=>FH st l) λst t=>.gens o.op o.type (l.zip t.toList) (k (st.putO o.dst .und))
 else
 match rkOf P o.type with
 |none=>.bad 15 0
 |some rs=>pubT (st.nb+2) st (λst=>FH st l) λst t=>
   bind st (HM rs) λq=>.gen o.op o.type (l.zip t.toList) rs (k (q.putO o.dst (Ig rs st.nv)))
def exPanic(st:St)(x:Operand):Tr:=pubT (st.nb+2) st (λst=>BF st x) λ_ t=>.pan t
def HN:T->T×T×Nat×Nat×Option Nat
 |.u (.poff off) (.b2 (.padd e sz) b i)=>(b,i,sz,off,some e)
 |.b2 (.padd e sz) b i=>(b,i,sz,0,some e)
 |.u (.poff off) q=>(q,.int .i64 off,1,0,none)
 |q=>(q,.int .i64 0,1,0,none)
def Ik(st:St)(dst:Option Nat)(t:TypeId)(a:Operand)(k:St->Tr):Tr:=
 pubT (st.nb+2) st (λst=>BF st a) λst p=>
  if p.kind=some .p then
  match HN p with
  |(b,i,sz,off,some e)=>
   match kindsOf P e with
   |some ks=>if ks.length=sz then bind st sz λq=>
     match Eh P t (T.ofList (vars ks st.nv)) off with
     |some x=>.ld b i sz sz ks (k (q.putO dst x))
     |none=>.bad 16 0 else .bad 17 0
   |none=>.bad 18 0
  |(b,i,sz,_,none)=>
   match kindsOf P t with
   |some ks=>bind st ks.length λq=>
     match Eh P t (T.ofList (vars ks st.nv)) 0 with
     |some x=>.ld b i sz ks.length ks (k (q.putO dst x))
     |none=>.bad 19 0
   |none=>.bad 20 0
  else .bad 61 0
def exStore(st:St)(d:TypeId)(size:Option Nat)(a x:Operand)(k:St->Tr):Tr:=
 match BF st a,BF st x,size with
 |some (.box i o),some v,some n=>
  match st.box i with
  |some (cs,ty)=>
   if v.cellsT.toList.length=n/\o+n<=cs.toList.length/\(DH v.cellsT).isSome/\0<n then
    k (st.setBox i (T.ofList (cs.toList.take o++v.cellsT.toList++cs.toList.drop (o+n))) ty)
   else .bad 21 i
  |none=>.bad 22 i
 |some _,some _,some n=>
  pubT (st.nb+2) st (λst=>match BF st a,BF st x with|some p,some v=>some (.cons p v.cellsT)|_,_=>none) λst q=>
   match q with
   |.cons p cs=>if p.kind=some .p/\cs.toList.length=n/\(DH cs).isSome/\0<n then .st p 0 cs (k st)else .bad 23 0
   |_=>.bad 24 0
 |_,_,_=>.bad 25 0
def exOp(st:St)(o:Oper)(k:St->Tr):Tr:=
 if Ei H.N o.dst then
  match C6 P st o.op with
  |some (ns,t)=>needs ns (k (st.putO o.dst t))
  |none=>
   match o.op with
   |.box e x=>match BF st x with
    |some v=>if(DH v.cellsT).isSome then Ij H st o.dst v.cellsT e (λi=>.box i 0) k else .bad 26 0
    |none=>.bad 27 0
   |.alloc e=>match FE P e with
    |some cs=>Ij H st o.dst (T.ofList cs) e (λi=>.box i 0) k
    |none=>.bad 28 0
   |.buildSlice t n parts=>
    match P.underlying t with
    |some (.slice e)=>
     match CY P e,FE P e,partsT st parts.toList with
     |some (sz+1),some z,some ps=>
      match GB (λi=>some (i*(sz+1),sz+1)) (List.replicate n z).flatten ps with
      |some cs=>if n*(sz+1)<=4096/\z.length=sz+1 then Ij H st o.dst (T.ofList cs) e (λi=>.c3 .slc (.box i 0) (.int .i64 n) (.int .i64 n)) k else .bad 29 0
      |none=>.bad 30 0
     |_,_,_=>.bad 31 0
    |_=>.bad 32 0
   |.load t a=>Ik P st o.dst t a k
   |.store t a x=>match o.dst with|none=>exStore st t (CY P t) a x k|some _=>.bad 33 0
   |.call c=>match c.callee with
    |.value f=>exCall P fs st o c f k
    |.builtin _=>exGen P st o k
    |.invoke _ _=>.bad 34 0
   |.panic x=>exPanic st x
   |_=>exGen P st o k
 else .bad 35 0
def GC(all:Array Oper):List Oper->St->(St->Tr)->Tr
 |[],st,k=>k (st.compact H.keep)
 |o::rest,st,k=>
  match o.guard with
  |none=>exOp P fs H st o λst=>GC all rest st k
  |some (j,q)=>
   match(all[j]?).bind (·.dst)with
   |none=>.bad 36 j
   |some d=>
    let J (st:St):=exOp P fs H st o λst=>GC all rest st k;let G (st:St):=if Ei H.N o.dst then GC all rest (st.putO o.dst .und) k else .bad 35 0
    match st.get d with
    |some (.bool v)=>if v=q then J st else G st
    |some .und=>G st
    |some c=>if c.kind=some .b/\c.firstBox=none/\d<H.N then .br c (if q then J (st.now d (.bool true))else G (st.now d (.bool true))) (if q then G (st.now d (.bool false))else J (st.now d (.bool false)))else .bad 37 d
    |none=>.bad 38 d
def mapLens:List Nat:=[132]
def floatOp:Op->Bool
 |.move _|.pick ..|.fieldAddr ..|.indexAddr ..|.index ..|.binOp ..|.unOp ..|.build ..|.field ..|.extract ..|.makeFunc ..|.nilCheck _|.slice ..|.load ..=>true
 |.call {callee:=.builtin .len,argTypes,..}=>!(argTypes.toList.any mapLens.contains)
 |.call {callee:=.builtin .cap,..}=>true
 |_=>false
def isGuard(all:Array Oper)(i:Nat):Bool:=all.any λo=>match o.guard with|some (j,_)=>j==i|none=>false
def C7(all:Array Oper)(i:Nat):Bool:=
 match all[i]? with
 |some o=>floatOp o.op&&!isGuard all i&&o.dst.isSome
 |none=>false
def DQ(all:Array Oper)(i:Nat):Bool:=
 match all[i]? with
 |some o=>(match o.op with|.alloc _=>true|_=>false)&&o.guard.isNone&&!isGuard all i&&o.dst.isSome
 |none=>false
def CB:List Oper->List Nat->List Nat
 |[],acc=>acc
 |o::os,acc=>CB os (acc++[o.after.toList.foldl (λs e=>if Region.binds .any e then s|||(1<<<e.on)|||acc.getD e.on 0 else s) 0])
def CZ(ms:List Nat)(i:Nat):Nat:=ms.getD i 0
def Il(all:Array Oper)(ms:List Nat):Nat->Nat->List Nat
 |0,_=>[]
 |n+1,done=>
  let q:=(zB all.size).filter λi=>!done.testBit i&&((CZ ms i) &&& done==CZ ms i)
  match q.find? (C7 all)with
  |some i=>i::Il all ms n (done|||(1<<<i))
  |none=>match q.filter (λi=>!DQ all i)++q with
   |i::_=>i::Il all ms n (done|||(1<<<i))
   |[]=>[]
def Im:List Nat->Bool
 |[]=>true
 |x::xs=>!xs.contains x&&Im xs
def F5(all:Array Oper)(ms:List Nat):List Nat->Bool
 |[]=>true
 |i::rest=>(C7 all i||rest.all λj=>(CZ ms j).testBit i||DQ all j||(!C7 all j&&rest.all λq=>!(CZ ms j).testBit q)||rest.any λq=>(CZ ms j).testBit q&&!DQ all q)&&(rest.all λj=>!(CZ ms i).testBit j)&&F5 all ms rest
def altsOf(all:Array Oper)(ms:List Nat)(i:Nat)(rest:List Nat):List Nat:=
 if C7 all i then[]else rest.filter λj=>!(CZ ms j).testBit i&&!DQ all j&&!C7 all j&&rest.all λq=>!(CZ ms j).testBit q
def doneBut(n:Nat)(l:List Nat)(j:Nat):Nat:=(zB n).foldl (λs x=>if x=j||!l.contains x then s|||(1<<<x)else s) 0
def Jh(l m:List Nat):Bool:=decide (l.length=m.length)&&Im l&&l.all m.contains
def forks(f:Nat->Tr)(t:Tr):List Nat->Tr
 |[]=>t
 |j::q=>.both (f j) (forks f t q)
def drawOk(P:Program)(all:Array Oper)(ms:List Nat)(order:List Nat):Bool:=
 (all.toList.zipIdx.all λx=>x.1.after.all λe=>!Region.binds .any e||decide (e.on<x.2)) &&
 order.length==all.size&&Im order&&order.all (λi=>decide (i<all.size)) &&
 Im (all.toList.filterMap (·.dst)) &&
 (all.toList.all λo=>!F0 o.op) &&
 (all.toList.zipIdx.all λx=>(x.1.looksAt all).all λt=>(zB all.size).all λp=>!((C7 all p||DQ all p)&&decide (((all[p]?).bind (·.dst))=some t))||((CZ ms x.2).testBit p&&decide (p≠x.2))) &&
 F5 all ms order &&
 (all.toList.all λo=>match o.op with|.alloc e=>(FE P e).isSome|_=>true)
def HO(all:Array Oper):List (Nat×Bool)->St->Tr->Tr
 |[],_,t=>t
 |(_,false)::fl,st,t=>HO all fl st t
 |(j,true)::fl,st,t=>
  match all[j]? with
  |none=>.bad 70 j
  |some o=>
   match C6 P st o.op,o.dst.bind st.get with
   |some (ns,x),some y=>if x=y then needs ns (HO all fl st t)else .bad 71 j
   |none,some y=>
    match o.op with
    |.load ty a=>
     match BF st a,CY P ty,isAggB P ty with
     |some p,some n,some q=>if p.kind=some .p/\p.firstBox=none/\y.firstBox=none/\y.cellsT.toList.length=n/\0<n/\(DH y.cellsT).isSome/\GA y=q then .again p y.cellsT (HO all fl st t)else .bad 72 j
     |_,_,_=>.bad 73 j
    |_=>.bad 74 j
   |_,none=>.bad 75 j
def HP(all:Array Oper)(fl:List (Nat×Bool))(dst:Option Nat):Bool:=
 fl.all λx=>match all[x.1]?,dst with
  |some y,some d=>!(y.looksAt all).contains d
  |some _,none=>true
  |none,_=>false
def guardD(all:Array Oper)(o:Oper)(st:St)(J G:St->Tr):Tr:=
 match o.guard with
 |none=>J st
 |some (j,q)=>
  match(all[j]?).bind (·.dst)with
  |none=>.bad 80 j
  |some d=>
   match st.get d with
   |some (.bool v)=>if v=q then J st else G st
   |some .und=>G st
   |some c=>if c.kind=some .b/\c.firstBox=none/\!C7 all j then .br c (if q then J (st.now d (.bool true))else G (st.now d (.bool true))) (if q then G (st.now d (.bool false))else J (st.now d (.bool false)))else .bad 81 d
   |none=>.bad 82 d
def GD(ms:List Nat)(i:Nat)(fl:List (Nat×Bool)):List (Nat×Bool):=fl.filter (λx=>!(CZ ms i).testBit x.1)
def Ji(all:Array Oper)(ms:List Nat)(i:Nat)(o:Oper)(fl:List (Nat×Bool))(next:List (Nat×Bool)->St->Tr)(st:St):Tr:=
 if C7 all i then
  if Ei H.N o.dst&&HP all fl o.dst then
   match C6 P st o.op with
   |some (ns,t)=>needs ns (next ((i,true)::fl) (st.putO o.dst t))
   |none=>match o.op with
    |.load t a=>Ik P st o.dst t a (next ((i,true)::fl))
    |_=>.bad 77 i
  else .bad 78 i
 else if DQ all i then
  if HP all fl o.dst then exOp P fs H st o (next fl)else .bad 83 i
 else
  if HP all (GD ms i fl) o.dst then
   exOp P fs H st o λst=>HO P all (GD ms i fl) st (next (GD ms i fl) st)
  else .bad 84 i
def drawNo(all:Array Oper)(ms:List Nat)(i:Nat)(o:Oper)(fl:List (Nat×Bool))(next:List (Nat×Bool)->St->Tr)(st:St):Tr:=
 if Ei H.N o.dst&&HP all fl o.dst then
  next (if C7 all i then(i,false)::fl else GD ms i fl) (st.putO o.dst .und)
 else .bad 79 i
def Ey(all:Array Oper)(ms:List Nat):Bool->Nat->List Nat->List (Nat×Bool)->St->(St->Tr)->Tr
 |_,_,[],_,st,k=>k (st.compact H.keep)
 |_,0,_::_,_,_,_=>.bad 85 0
 |c,n+1,i::rest,fl,st,k=>
  match all[i]? with
  |none=>.bad 76 i
  |some o=>
   forks (λj=>
     let l:=j::Il all ms rest.length (doneBut all.size (i::rest) j)
     if Jh l (i::rest)&&F5 all ms l then Ey all ms false n l fl st k else .bad 86 j)
    (guardD all o st (Ji P fs H all ms i o fl λfl st=>Ey all ms true n rest fl st k) (drawNo H all ms i o fl λfl st=>Ey all ms true n rest fl st k))
    (if c then altsOf all ms i rest else[])
def Jj(all:Array Oper)(st:St)(k:St->Tr):Tr:=
 let ms:=CB all.toList [];let order:=Il all ms all.size 0
 if drawOk P all ms order&&all.toList.all (λo=>Ei H.N o.dst)then Ey P fs H all ms true (2*all.size+1) order [] st k else .bad 9 all.size
def G9:Code->List Nat
 |.region _ q _=>q.toList.filterMap (·.dst)
 |.seq a b=>G9 a++G9 b
 |.cond _ a b=>G9 a++G9 b
 |.block _ b|.loop b|.scope b=>G9 b
 |_=>[]
def Ha:Code->Option Nat
 |.region i _ _=>some i
 |.seq a b=>(Ha a).or (Ha b)
 |.cond _ a b=>(Ha a).or (Ha b)
 |.block _ b|.loop b|.scope b=>Ha b
 |_=>none
def dedup:List Nat->List Nat
 |[]=>[]
 |x::xs=>if xs.contains x then dedup xs else x::dedup xs
def genTerm(b:Bool)(ks:List K)(n:Nat):T:=if b then .agg (T.ofList (vars ks n))else(vars ks n).headD .und
def genKinds(t:T):Option (List K):=if GA t then DH t.cellsT else t.kind.map λk=>[k]
def CN:List Nat->St->St×List (Nat×Bool×List K)
 |[],st=>(st,[])
 |s::q,st=>
  match(st.get s).bind λt=>(genKinds t).map λks=>(GA t,ks)with
  |some (b,ks)=>let r:=CN q ({st with nv:=st.nv+ks.length}.put s (genTerm b ks st.nv));(r.1,(s,b,ks)::r.2)
  |none=>match st.get s with|some _=>CN q (st.put s .nil)|none=>CN q st
def Io:List Nat->St->Option (St×List (Nat×Nat×List K))
 |[],st=>some (st,[])
 |s::q,st=>
  match st.get s with
  |some (.box i _)=>
   match st.box i with
   |some (cs,ty)=>
    match DH cs with
    |some ks=>(Io q ({st with nv:=st.nv+ks.length}.setBox i (T.ofList (vars ks st.nv)) ty)).map λr=>(r.1,(i,ty,ks)::r.2)
    |none=>none
   |none=>none
  |_=>none
def Ip(st:St):List (Nat×Bool×List K)->Option (List T)
 |[]=>some []
 |(s,b,ks)::g=>
  match st.get s,Ip st g with
  |some t,some ts=>if GA t=b/\DH t.cellsT=some ks then some (t.cellsT.toList++ts)else none
  |_,_=>none
def Iq(st:St):List (Nat×Nat×List K)->Option (List T)
 |[]=>some []
 |(i,ty,ks)::g=>
  match st.box i,Iq st g with
  |some (cs,q),some ts=>if q=ty/\DH cs=some ks then some (cs.toList++ts)else none
  |_,_=>none
def Jk(st:St)(bs:List (Nat×Nat×List K))(q:List (Nat×Bool×List K)):Option T:=
 match Iq st bs,Ip st q with
 |some l,some m=>let t:=T.ofList (l++m);if t.firstBox=none then some t else none
 |_,_=>none
def backOk(h st:St)(bs:List (Nat×Nat×List K))(ws:List Nat):Bool:=
 (h.slots.all λx=>ws.contains x.1||decide (st.get x.1=h.get x.1)) &&
 (h.boxes.all λx=>(bs.map (·.1)).contains x.1||decide (st.box x.1=h.box x.1))
def getSome(st:St):List Nat->List T
 |[]=>[]
 |s::q=>match st.get s with|some t=>t::getSome st q|none=>getSome st q
def exLoop(body:St->(Ex->St->Tr)->Tr)(ws:List Nat)(hint:List Nat)(st:St)(k:Ex->St->Tr):Tr:=
 pubT (st.nb+2) st (λst=>some (T.ofList (getSome st ws))) λst _=>
 if st.wf then
  match Io hint st with
  |none=>.bad 40 0
  |some (d,bs)=>
   let r:=CN ws d;let h:St:={r.1 with depth:=st.depth+1}
   match Jk st bs r.2 with
   |none=>.bad 41 0
   |some init=>
    if backOk h st bs ws then
     .loop init (bs.flatMap (·.2.2)++r.2.flatMap (·.2.2)) (body h λe q=>
      match e with
      |.normal=>
       match Jk q bs r.2 with
       |some vs=>if backOk h q bs ws then .cont st.depth vs else .bad 42 0
       |none=>.bad 43 0
      |e=>k e q)
    else .bad 44 0
 else .bad 45 0
def ex:Code->St->(Ex->St->Tr)->Tr
 |.skip,st,k=>k .normal st
 |.ret,st,k=>k .ret st
 |.exit id,st,k=>k (.exit id) st
 |.seq a b,st,k=>ex a st λe st=>match e with|.normal=>ex b st k|e=>k e st
 |.block id b,st,k=>ex b st λe st=>match e with|.exit j=>if j=id then k .normal st else k (.exit j) st|e=>k e st
 |.cond c a b,st,k=>
  match BF st c with
  |some (.bool v)=>if v then ex a st k else ex b st k
  |some t=>
   if t.kind=some .b/\t.firstBox=none then
    match c with
    |.tmp d=>.br t (ex a (st.now d (.bool true)) k) (ex b (st.now d (.bool false)) k)
    |_=>.br t (ex a st k) (ex b st k)
   else .bad 46 0
  |none=>.bad 47 0
 |.loop b,st,k=>
  exLoop (λst k=>ex b st k) (dedup (G9 b)) (((Ha b).bind λi=>H.loops.lookup i).getD []) st k
 |.region _ q J,st,k=>if J then Jj P fs H q st (k .normal)else GC P fs H q q.toList st (k .normal)
 |.rangeFunc _ _ _ _,_,_=>.bad 48 0
 |.scope _,_,_=>.bad 49 0
 |.label _,_,_=>.bad 50 0
 |.goto _,_,_=>.bad 51 0
 |.refuse _,_,_=>.bad 52 0
def resT(st:St):List ResultVar->Option (List T)
 |[]=>some []
 |.tmp t::rs=>match st.get t,resT st rs with|some x,some xs=>some (x::xs)|_,_=>none
 |.cell a t::rs=>
  match st.get a,resT st rs with
  |some (.box i o),some xs=>(st.box i).bind λx=>(Eh P t x.1 o).map (·::xs)
  |_,_=>none
def Kf(st:St)(rs:List ResultVar):Option T:=
 match resT P st rs with
 |some [t]=>some t
 |some ts=>some (.tup (T.ofList ts))
 |none=>none
def HQ(fn:Func)(ps:List T)(nv:Nat):Tr:=
 match fn.body with
 |none=>.bad 53 0
 |some c=>
  if ps.length<=fn.ntmps/\H.N=fn.ntmps/\(T.ofList ps).wf nv 0 then
   ex P fs H c {slots:=(zB ps.length).zip ps,boxes:=[],nv:=nv,nb:=0,depth:=0} λe st=>
    match e with
    |.exit j=>.bad 54 j
    |_=>pubT (st.nb+2) st (λst=>Kf P st fn.results.toList) λ_ t=>.ret t
  else .bad 55 0
def keepOps:List Oper->List Nat->List Nat
 |[],_=>[]
 |o::os,ws=>(FZ o.op.operands.toList).filter (λt=>!ws.contains t)++keepOps os (match o.dst with|some d=>d::ws|none=>ws)
def keepC:Code->List Nat
 |.region _ q _=>keepOps q.toList []
 |.seq a b=>keepC a++keepC b
 |.cond c a b=>FZ [c]++keepC a++keepC b
 |.block _ b|.loop b|.scope b=>keepC b
 |.rangeFunc f _ a b=>FZ [f]++keepC a++keepC b
 |_=>[]
def insN(x:Nat):List Nat->List Nat
 |[]=>[x]
 |y::q=>if x=y then y::q else if x<y then x::y::q else y::insN x q
def keepF(fn:Func):List Nat:=((match fn.body with|some c=>keepC c|none=>[])++fn.results.toList.map (λ|.tmp t=>t|.cell a _=>a)).foldr insN []
def hintF(fn:Func)(early:List Nat)(loops:List (Nat×List Nat)):CJ:={N:=fn.ntmps,early,loops,keep:=keepF fn}
def Ir(fn:Func):List T:=
 let rs:=(rkList P fn.params.toList).getD []
 FF rs 0++(zB fn.nfree).map λj=>.var .p (HM rs+j)
end
theorem T.ev_congr{n b:Nat}{ρ ρ':List Value}{β β':Nat->Nat}(G:∀m,m<n->ρ.getD m undef=ρ'.getD m undef)(Z:∀i,i<b->β i=β' i):
  ∀t:T,t.wf n b=true->t.ev ρ β=t.ev ρ' β'/\t.evs ρ β=t.evs ρ' β':=by
 intro t;induction t with
 |var k m=>intro h;simp only[T.wf,decide_eq_true_eq]at h;exact⟨by grind[T.ev],rfl⟩
 |box i o=>intro h;simp only[T.wf,decide_eq_true_eq]at h;exact⟨by grind[T.ev],rfl⟩
 |fn f c q=>intro h;exact⟨by simp only[T.ev,(q h).2],rfl⟩
 |u o x q=>intro h;exact⟨by simp only[T.ev,(q h).1],rfl⟩
 |b2 o x y d J=>intro h;simp only[T.wf,zC]at h;exact⟨by grind[T.ev],rfl⟩
 |c3 o x y z d J Y=>intro h;simp only[T.wf,zC]at h;exact⟨by grind[T.ev],rfl⟩
 |cons x y d J=>intro h;simp only[T.wf,zC]at h;exact⟨rfl,by grind[T.evs]⟩
 |agg c q=>intro h;exact⟨by simp only[T.ev,(q h).2],rfl⟩
 |tup c q=>intro h;exact⟨by simp only[T.ev,(q h).2],rfl⟩
 |_=>intro _;exact⟨rfl,rfl⟩
theorem T.ev_free{ρ:List Value}{β β':Nat->Nat}:∀t:T,t.firstBox=none->t.ev ρ β=t.ev ρ β'/\t.evs ρ β=t.evs ρ β':=by
 intro t;induction t with
 |box i o=>grind[T.firstBox]
 |fn f c q=>intro h;exact⟨by simp only[T.ev,(q h).2],rfl⟩
 |u o x q=>intro h;exact⟨by simp only[T.ev,(q h).1],rfl⟩
 |b2 o x y d J=>
  intro h;simp only[T.firstBox,zE]at h;exact⟨by grind[T.ev],rfl⟩
 |c3 o x y z d J G=>
  intro h;simp only[T.firstBox,zE]at h;exact⟨by grind[T.ev],rfl⟩
 |cons x y d J=>
  intro h;simp only[T.firstBox,zE]at h;exact⟨rfl,by grind[T.evs]⟩
 |agg c q=>intro h;exact⟨by simp only[T.ev,(q h).2],rfl⟩
 |tup c q=>intro h;exact⟨by simp only[T.ev,(q h).2],rfl⟩
 |_=>intro _;exact⟨rfl,rfl⟩
theorem Addr.add_zero'(a:Addr):a.add 0=a:=by simp[zF]
theorem Jl(b o n:Nat):(⟨b,o,none⟩:Addr).add n=⟨b,o+n,none⟩:=by
 grind[zF]
theorem NK(a:Addr)(m n:Nat):(a.add m).add n=a.add (m+n):=by
 grind[zF]
theorem ptrAdd_add(p:Option Addr)(m n:Nat):Aa (Aa p m) n=Aa p (m+n):=by
 cases p<;>simp[Aa,NK]
theorem T.ev_subst{ρ:List Value}{β:Nat->Nat}{i k:Nat}(h:ρ.getD k undef=.pointer (some ⟨β i,0,none⟩)):
  ∀t:T,(t.subst i k).ev ρ β=t.ev ρ β/\(t.subst i k).evs ρ β=t.evs ρ β:=by
 intro t;induction t with
 |box j o=>
  unfold T.subst;by_cases G:j=i
  ·subst G;rw[if_pos rfl];refine⟨?_,rfl⟩;grind[T.ev,U.ev,K.cast,AT,Aa,Jl]
  ·simp[G]
 |fn f c q=>exact⟨by simp only[T.subst,T.ev,q.2],rfl⟩
 |u o x q=>exact⟨by simp only[T.subst,T.ev,q.1],rfl⟩
 |b2 o x y d J=>exact⟨by grind[T.subst,T.ev],rfl⟩
 |c3 o x y z d J Z=>exact⟨by grind[T.subst,T.ev],rfl⟩
 |cons x y d J=>exact⟨rfl,by grind[T.subst,T.evs]⟩
 |agg c q=>exact⟨by simp only[T.subst,T.ev,q.2],rfl⟩
 |tup c q=>exact⟨by simp only[T.subst,T.ev,q.2],rfl⟩
 |_=>exact⟨rfl,rfl⟩
theorem K.cast_cast(k:K)(v:Value):k.cast (k.cast v)=k.cast v:=by
 cases k<;>first|rfl|(cases v<;>rfl)
theorem K.cast_one(k:K)(v:Value):G8 (k.cast v)=true:=by
 cases k<;>first|rfl|(simp only[K.cast];split<;>first|rfl|grind[G8])
theorem K.ok_one{k:K}{v:Value}(h:k.ok v):G8 v=true:=by
 rw[<-h];exact K.cast_one k v
theorem oneCell_eq(v:Value):v.oneCell'=G8 v:=by cases v<;>rfl
theorem T.kind_ok{ρ:List Value}{β:Nat->Nat}:∀(t:T)(k:K),t.kind=some k->k.ok (t.ev ρ β):=by
 intro t;induction t with
 |var j m=>intro k h;simp only[T.kind,zG]at h;subst h;exact K.cast_cast _ _
 |u o x G=>intro k h;cases o<;>simp only[T.kind,zG]at h<;>subst h<;>rfl
 |b2 o x y _ _=>intro k h;cases o<;>simp only[T.kind,zG]at h<;>subst h<;>rfl
 |c3 o x y z q d J=>
  intro k h;cases o with
  |sel=>
   grind[T.kind,T.ev,C.ev]
  |_=>simp only[T.kind,zG]at h;subst h;rfl
 |nil=>grind[T.kind]
 |cons _ _ _ _=>grind[T.kind]
 |agg _ _=>grind[T.kind]
 |tup _ _=>grind[T.kind]
 |und=>grind[T.kind]
 |_=>intro k h;simp only[T.kind,zG]at h;subst h;rfl
theorem Da(ρ:List Value)(β:Nat->Nat):∀l:List T,(T.ofList l).evs ρ β=l.map (·.ev ρ β)
 |[]=>rfl
 |t::ts=>by simp only[T.ofList,T.evs,Da ρ β ts,zH]
theorem DR(ρ:List Value)(β:Nat->Nat):∀t:T,t.evs ρ β=t.toList.map (·.ev ρ β):=by
 intro t;induction t with
 |cons h t _ q=>grind[T.evs,T.toList]
 |_=>rfl
theorem wf_ofList(n b:Nat):∀l:List T,(T.ofList l).wf n b=l.all (·.wf n b)
 |[]=>rfl
 |t::ts=>by simp only[T.ofList,T.wf,List.all_cons,wf_ofList n b ts]
theorem NL{ρ:List Value}{β:Nat->Nat}:∀(t:T)(ks:List K),DH t=some ks->Shaped ks (t.evs ρ β):=by
 intro t;induction t with
 |nil=>intro ks h;simp only[DH,zG]at h;subst h;trivial
 |cons x y _ q=>
  intro ks h;simp only[DH]at h;split at h
  ·rename_i k J G d;simp only[zG]at h;subst h;exact⟨T.kind_ok x k G,q _ d⟩
  ·simp at h
 |_=>intro ks h;simp[DH]at h
theorem Shaped.one:∀{ks:List K}{vs:List Value},Shaped ks vs->∀v∈vs,G8 v=true
 |[],[],_,v,hv=>by cases hv
 |k::ks,x::vs,h,v,hv=>by
  rcases List.mem_cons.1 hv with rfl|hv;·exact K.ok_one h.1
  ·exact Shaped.one h.2 v hv
theorem Shaped.length:∀{ks:List K}{vs:List Value},Shaped ks vs->vs.length=ks.length
 |[],[],_=>rfl
 |k::ks,x::vs,h=>by simp[Shaped.length h.2]
 |[],_::_,h=>h.elim
 |_::_,[],h=>h.elim
theorem Kg:∀{ks ls:List K}{vs ws:List Value},Shaped ks vs->Shaped ls ws->Shaped (ks++ls) (vs++ws)
 |[],_,[],_,_,h=>h
 |_::_,_,_::_,_,h,q=>⟨h.1,Kg h.2 q⟩
theorem NM:∀{ks ls:List K}{vs:List Value},Shaped (ks++ls) vs->Shaped ks (vs.take ks.length)/\Shaped ls (vs.drop ks.length)
 |[],_,_,h=>⟨trivial,h⟩
 |k::ks,ls,v::vs,h=>by
  have:=NM (ks:=ks) h.2;exact⟨⟨h.1,this.1⟩,this.2⟩
 |_::_,_,[],h=>h.elim
theorem Is{β:Nat->Nat}:∀(ks:List K)(vs ρ σ:List Value),Shaped ks vs->(vars ks ρ.length).map (·.ev (ρ++vs++σ) β)=vs
 |[],[],_,_,_=>rfl
 |k::ks,v::vs,ρ,σ,h=>by
  have q:=Is (β:=β) ks vs (ρ++[v]) σ h.2;simp only[zI,List.length_singleton,zJ,zK,List.nil_append]at q;simp only[vars,zH,zJ,zK,T.ev,q,List.cons.injEq,and_true];have:(ρ++v::(vs++σ)).getD ρ.length undef=v:=by simp[List.getD]
  rw[this];exact h.1
structure Rel (O V0:Mem)(w0:World)(N:Nat)(β:Nat->Nat)(st:St)(ρ:List Value)(V:Mem)(tmps:Array Value)(w:World):Prop where
 nv:ρ.length=st.nv
 size:tmps.size=N
 slots:∀s t,st.get s=some t->tmps.getD s undef=t.ev ρ β
 frm:As V0 w0 V w
 boxes:∀i cs ty,st.box i=some (cs,ty)->w.heap[β i]?=some (.cells (cs.evs ρ β).toArray ty (0,0))/\V (β i)=none/\w0.heap.size<=β i/\i<st.nb
 hid:∀b o,O b=some o->w.heap[b]?=some o/\V b=none/\w0.heap.size<=b/\∀i,(st.box i).isSome=true->β i≠b
 inj:∀i j,(st.box i).isSome=true->(st.box j).isSome=true->β i=β j->i=j
section
variable{P:Program}{O V0:Mem}{w0:World}{N:Nat}{β:Nat->Nat}{st:St}{ρ:List Value}{V:Mem}{a:Act}{w:World}
theorem scalT_ev{v:Value}{t:T}(h:Fi v=some t):t.ev ρ β=v:=by
 cases v with
 |string s=>simp only[Fi,zG]at h;subst h;simp[T.ev]
 |pointer p=>cases p<;>simp[Fi]at h;subst h;rfl
 |slice p n c=>
  cases p with
  |none=>
   cases n with
   |zero=>cases c with
    |zero=>simp[Fi]at h;subst h;rfl
    |succ=>simp[Fi]at h
   |succ=>simp[Fi]at h
  |some=>simp[Fi]at h
 |map r=>cases r<;>simp[Fi]at h;subst h;rfl
 |func g x c=>
  cases g<;>simp[Fi]at h;obtain⟨⟨rfl,rfl⟩,rfl⟩:=h;rfl
 |_=>simp[Fi]at h<;>(subst h;rfl)
theorem Jm:∀{vs:List Value}{ts:List T},HK vs=some ts->ts.map (·.ev ρ β)=vs
 |[],ts,h=>by grind[HK]
 |v::vs,ts,h=>by
  simp only[HK]at h;split at h
  ·rename_i t q h1 h2;simp only[zG]at h;subst h;simp only[zH,scalT_ev h1,Jm h2]
  ·simp at h
theorem valT_ev{v:Value}{t:T}(h:valT v=some t):t.ev ρ β=v:=by
 unfold valT at h;split at h
 ·rename_i cs;cases q:HK cs.toList with
  |none=>simp[q]at h
  |some ts=>
   simp only[q,zL,zG]at h;subst h;simp only[T.ev,Da,Jm q]
 ·rename_i cs;split at h
  ·rename_i d;simp only[zG]at h;subst h;have:cs=#[]:=by simpa using d
   subst this;rfl
  ·simp at h
 ·exact scalT_ev h
theorem Bx(h:Rel O V0 w0 N β st ρ V a.tmps w){o:Operand}{t:T}(q:BF st o=some t):a.eval o=t.ev ρ β:=by
 cases o with
 |tmp s=>exact h.slots s t q
 |const v=>exact(valT_ev q).symm
 |global g=>simp only[BF,zG]at q;subst q;rfl
 |func f=>simp only[BF,zG]at q;subst q;rfl
theorem Jn(h:Rel O V0 w0 N β st ρ V a.tmps w):∀{l:List Operand}{ts:List T},opTs st l=some ts->l.map a.eval=ts.map (·.ev ρ β)
 |[],ts,q=>by grind[opTs]
 |o::l,ts,q=>by
  simp only[opTs]at q;split at q
  ·rename_i t d h1 h2;simp only[zG]at q;subst q;simp only[zH,Bx h h1,Jn h h2]
  ·simp at q
theorem Fj{t:T}{k:IntKind}(h:t.kind=some (.i k)):∃n,t.ev ρ β=.int k n:=⟨_,(T.kind_ok (ρ:=ρ) (β:=β) t _ h).symm⟩
theorem GF{t:T}(h:t.kind=some .b):∃b,t.ev ρ β=.bool b:=⟨_,(T.kind_ok (ρ:=ρ) (β:=β) t _ h).symm⟩
theorem Hb{t:T}(h:t.kind=some .s):∃s,t.ev ρ β=.string s:=⟨_,(T.kind_ok (ρ:=ρ) (β:=β) t _ h).symm⟩
theorem It{t:T}(h:t.kind=some .sl):∃p n c,t.ev ρ β=.slice p n c:=⟨_,_,_,(T.kind_ok (ρ:=ρ) (β:=β) t _ h).symm⟩
theorem HR{t:T}(h:t.kind=some .p):∃p,t.ev ρ β=.pointer p:=⟨_,(T.kind_ok (ρ:=ρ) (β:=β) t _ h).symm⟩
theorem kind_m{t:T}(h:t.kind=some .m):∃p,t.ev ρ β=.map p:=⟨_,(T.kind_ok (ρ:=ρ) (β:=β) t _ h).symm⟩
theorem notT_ev(t:T):(notT t).ev ρ β=.bool (!asB (t.ev ρ β)):=by
 unfold notT;split<;>rfl
theorem poff_ev(t:T)(n:Nat)(h:∃p,t.ev ρ β=.pointer p):(t.poff n).ev ρ β=.pointer (Aa (AT (t.ev ρ β)) n):=by
 unfold T.poff;grind[T.ev,AT,Aa,Jl,U.ev,ptrAdd_add]
theorem NN(t:T)(q:t.kind=some .sl):AT ((EP t).ev ρ β)=AT (t.ev ρ β):=by
 unfold EP;grind[T.ev,C.ev,AT,U.ev]
theorem Kh(t:T):(slLen t).ev ρ β=.int .i64 (FD (t.ev ρ β)):=by
 unfold slLen;split
 ·split;·grind[T.ev,C.ev,FD,Aq]
  ·rfl
 ·rfl
 ·rfl
theorem LN(t:T):(FG t).ev ρ β=.int .i64 (asCap (t.ev ρ β)):=by
 unfold FG;split
 ·split;·grind[T.ev,C.ev,asCap,Aq]
  ·rfl
 ·rfl
 ·rfl
theorem paddT_ev(e sz:Nat)(p i:T):AT ((paddT e sz p i).ev ρ β)=Aa (AT (p.ev ρ β)) ((Aq (i.ev ρ β)).toNat*sz)/\∃q,(paddT e sz p i).ev ρ β=.pointer q:=by
 unfold paddT;grind[T.ev,AT,Aa,Jl,Aq,B.ev]
theorem E3{t:TypeId}{n:Nat}(h:CY P t=some n):(sizeOf t).run P w=.ok n w:=by
 unfold CY at h;cases q:P.info? t with
 |none=>simp[q]at h
 |some i=>simp_all[zL,zG,sizeOf,typeInfo]
theorem Jo{t:TypeId}{v:Value}(h:E2 P t=some v):(zeroValue t).run P w=.ok v w:=by
 unfold E2 at h;cases q:P.info? t with
 |none=>simp[q]at h
 |some i=>simp_all[zM,zeroValue,typeInfo]
theorem Hc{t:TypeId}{b:Bool}(h:isAggB P t=some b):(isAgg t).run P w=.ok b w:=by
 unfold isAggB at h;cases hu:P.underlying t with
 |none=>simp[hu]at h
 |some d=>
  simp only[hu,zL,zG]at h;subst h;cases d<;>simp[isAgg,run_underlying hu]
theorem LO(t:T)(off n:Nat):(takeT t off n).map (·.ev ρ β)=((t.evs ρ β).drop off).take n:=by
 simp[takeT,DR,List.map_take,List.map_drop]
theorem LP{t:TypeId}{cs x:T}{off:Nat}(h:Eh P t cs off=some x):(part t (cs.evs ρ β).toArray off).run P w=.ok (x.ev ρ β) w:=by
 unfold Eh at h;split at h
 ·rename_i n h1 h2;simp only at h;split at h
  ·rename_i q;simp only[zG]at h;subst h;have:(takeT cs off n).map (·.ev ρ β)=((cs.evs ρ β).drop off).take n:=LO cs off n;simp only[part,zN,Hc h1,zO,if_true,E3 h2,zP,T.ev,Da,this];simp_all
  ·simp at h
 ·rename_i n h1 h2;have:(cs.evs ρ β).toArray[off]?=some (x.ev ρ β):=by simp[DR,h]
  simp only[part,zN,Hc h1,zO,zQ,if_false,this,zP]
 ·simp at h
end
section
variable{P:Program}{O V0:Mem}{w0:World}{N:Nat}{β:Nat->Nat}{st:St}{ρ:List Value}{V:Mem}{a:Act}{w:World}
theorem nn_some{p:T}(G:p.kind=some .p)(d:∀x∈nn p,asB (x.ev ρ β)=true):∃q,p.ev ρ β=.pointer (some q):=by
 unfold nn at d;split at d;·exact⟨_,rfl⟩
 ·exact⟨_,rfl⟩
 ·have h1:=d _ (zR.2 rfl);obtain⟨q,J⟩:=HR (ρ:=ρ) (β:=β) G;rw[J];cases q with
  |some q=>grind
  |none=>simp[T.ev,U.ev,J,asB,AT]at h1
theorem Jp{t:TypeId}{cs x:T}{o b:Nat}{ty:TypeId}{fr:Nat×Nat}(J:w.heap[b]?=some (.cells (cs.evs ρ β).toArray ty fr))(h:Eh P t cs o=some x):
  (loadVar t ⟨b,o,none⟩).run P w=.ok (x.ev ρ β) w:=by
 unfold Eh at h;split at h
 ·rename_i n h1 h2;simp only at h;split at h
  ·rename_i G;simp only[zG]at h;subst h;have e:(takeT cs o n).map (·.ev ρ β)=((cs.evs ρ β).drop o).take n:=LO cs o n;have q:(((cs.evs ρ β).drop o).take n).length=n:=by grind
   have:=run_loadCells_list (P:=P) w ⟨b,o,none⟩ (((cs.evs ρ β).drop o).take n) (λj v Z=>by
    simp_all[Jl,World.cell?,Option.isSome_none,zQ,if_false,zS,zT])
   rw[q]at this;simp only[loadVar,zN,Hc h1,zO,if_true,E3 h2,this,zP,T.ev,Da,e]
  ·simp at h
 ·rename_i n h1 h2;have e:(cs.evs ρ β).toArray[o]?=some (x.ev ρ β):=by simp[DR,h]
  have d:w.cell? ⟨b,o,none⟩=some (x.ev ρ β):=by grind[World.cell?]
  simp only[loadVar,zN,Hc h1,zO,zQ,if_false,run_load,d]
 ·simp at h
theorem PF{q:Addr}{d:Field}{n:Nat}(h:CY P d.type=some (n+1)):(fieldPlace q d).run P w=.ok (q.add d.offset) w:=by
 simp[fieldPlace,E3 h]
theorem Ki(s t:KB):(s.toList==t.toList)=decide (s=t):=by
 have key:s.toList=t.toList↔s=t:=by
  constructor
  ·intro h;rw[zU,zU]at h;cases s;cases t;simp_all
  grind
 grind
theorem Hd{k:IntKind}{n:Int}(h:k.min<=n/\n<=k.max):k.wrap n=n:=by
 obtain⟨h1,h2⟩:=h;cases k<;>simp[IntKind.min,IntKind.max,zV,zX]at h1 h2<;>simp only[IntKind.wrap,zV,zX]<;>simp<;>omega
theorem run_binI{op:BinOp}{k:IntKind}{x y t:T}{ns:List T}{m n:Int}{Y:TypeId}(h:binI op k x y=some (ns,t))(d:x.ev ρ β=.int k m)(q:y.ev ρ β=.int k n)
    (A:op≠.shl) (Q:op≠.shr) (J:∀z∈ns,asB (z.ev ρ β)=true):(binOp op Y (.int k m) (.int k n)).run P w=.ok (t.ev ρ β) w:=by
  have G:∀(Z:T),cmpI op x y=some Z->(binOp op Y (.int k m) (.int k n)).run P w=.ok (Z.ev ρ β) w:=by
    intro Z W;cases op<;>simp only[cmpI,zG,reduceCtorEq]at W<;>subst W<;>
      (simp only[binOp,ne_eq,not_true_eq_false,if_false,Op.intCmp]
       split
       · rename_i I a1 M b1;simp only[T.ev]at d q;cases d;cases q;simp[T.ev];try rfl
       · simp[T.ev,B.ev,U.ev,d,q,Aq,asB];try rfl)
  cases op with
  |add=>
    simp only[binI,inr,zG,zY]at h;obtain⟨rfl,rfl⟩:=h;have h1:=J _ (zR.2 rfl);simp only[T.ev,U.ev,B.ev,d,q,Aq,asB,decide_eq_true_eq]at h1;simp[binOp,zZ,T.ev,B.ev,d,q,Aq,Hd h1]
  |sub=>
    simp only[binI,inr,zG,zY]at h;obtain⟨rfl,rfl⟩:=h;have h1:=J _ (zR.2 rfl);simp only[T.ev,U.ev,B.ev,d,q,Aq,asB,decide_eq_true_eq]at h1;simp[binOp,zZ,T.ev,B.ev,d,q,Aq,Hd h1]
  |mul=>
    simp only[binI,inr]at h;split at h
    · simp only[zG,zY]at h;obtain⟨rfl,rfl⟩:=h;simp[binOp,zZ,T.ev,B.ev,d,q,Aq]
    · simp only[zG,zY]at h;obtain⟨rfl,rfl⟩:=h;simp[binOp,zZ,T.ev,B.ev,d,q,Aq]
    · simp only[zG,zY]at h;obtain⟨rfl,rfl⟩:=h;have h1:=J _ (zR.2 rfl);simp only[T.ev,U.ev,B.ev,d,q,Aq,asB,decide_eq_true_eq]at h1;simp[binOp,zZ,T.ev,B.ev,d,q,Aq,Hd h1]
  |quo=>
    simp only[binI,zG,zY]at h;obtain⟨rfl,rfl⟩:=h;have h1:=J _ (zR.2 rfl);simp only[T.ev,U.ev,B.ev,q,Aq,asB,zz,decide_eq_false_iff_not]at h1;simp[binOp,Op.intDiv,T.ev,B.ev,d,q,Aq,h1]
  |rem=>
    simp only[binI,zG,zY]at h;obtain⟨rfl,rfl⟩:=h;have h1:=J _ (zR.2 rfl);simp only[T.ev,U.ev,B.ev,q,Aq,asB,zz,decide_eq_false_iff_not]at h1;simp[binOp,Op.intDiv,T.ev,B.ev,d,q,Aq,h1]
  |and=>simp only[binI,zG,zY]at h;obtain⟨rfl,rfl⟩:=h;simp[binOp,intBits_and,T.ev,B.ev,d,q,Aq]
  |or=>simp only[binI,zG,zY]at h;obtain⟨rfl,rfl⟩:=h;simp[binOp,intBits_or,T.ev,B.ev,d,q,Aq]
  |xor=>simp only[binI,zG,zY]at h;obtain⟨rfl,rfl⟩:=h;simp[binOp,intBits_xor,T.ev,B.ev,d,q,Aq]
  |andNot=>simp only[binI,zG,zY]at h;obtain⟨rfl,rfl⟩:=h;simp[binOp,intBits_andNot,T.ev,B.ev,d,q,Aq]
  |shl=>grind
  |shr=>simp_all
  |_=>
    simp only[binI,zy,zY]at h;obtain⟨Z,h1,rfl,rfl⟩:=h;exact G _ h1
end
section
variable{P:Program}{O V0:Mem}{w0:World}{N:Nat}{β:Nat->Nat}{st:St}{ρ:List Value}{V:Mem}{a:Act}{w:World}
theorem run_binS{op:BinOp}{x y t:T}{ns:List T}{m n:KB}{J:TypeId}(h:binS op x y=some (ns,t))(q:x.ev ρ β=.string m)(d:y.ev ρ β=.string n)
  (G:∀z∈ns,asB (z.ev ρ β)=true):(binOp op J (.string m) (.string n)).run P w=.ok (t.ev ρ β) w:=by
 cases op with
 |add=>
  simp only[binS,inr,zG,zY]at h;obtain⟨rfl,rfl⟩:=h;have h1:=G _ (zR.2 rfl);simp only[T.ev,U.ev,B.ev,q,d,Aq,asB,Ba,decide_eq_true_eq]at h1;have h2:¬(((m.size+n.size:Nat):Int)>IntKind.i64.max):=by omega
  simp_all[binOp,zw,if_false,zP,T.ev,B.ev,Ba]
 |eql=>simp only[binS,zG,zY]at h;obtain⟨rfl,rfl⟩:=h;simp[binOp,zw,T.ev,B.ev,q,d,Ba,Ki]
 |neq=>simp only[binS,zG,zY]at h;obtain⟨rfl,rfl⟩:=h;simp[binOp,zw,T.ev,U.ev,B.ev,q,d,Ba,asB,Ki]
 |lss=>simp only[binS,zG,zY]at h;obtain⟨rfl,rfl⟩:=h;simp[binOp,zw,T.ev,B.ev,q,d,Ba]
 |geq=>simp only[binS,zG,zY]at h;obtain⟨rfl,rfl⟩:=h;simp[binOp,zw,T.ev,U.ev,B.ev,q,d,Ba,asB]
 |leq=>simp only[binS,zG,zY]at h;obtain⟨rfl,rfl⟩:=h;simp[binOp,zw,T.ev,B.ev,q,d,Ba,asB,Ki]
 |gtr=>simp only[binS,zG,zY]at h;obtain⟨rfl,rfl⟩:=h;simp[binOp,zw,T.ev,U.ev,B.ev,q,d,Ba,asB,Ki]
 |_=>simp[binS]at h
theorem He{op:BinOp}{t d:T}{ns:List T}{q:TypeId}{u v:Value}{b:Bool}(h:eqOr op t=some (ns,d))(J:t.ev ρ β=.bool b)
  (G:(zu q u v).run P w=.ok b w) (hu:∀k n,u≠.int k n) (Z:∀s,u≠.string s) (Y:∀k n,u≠.float k n) (W:∀k m n,u≠.complex k m n):
  (binOp op q u v).run P w=.ok (d.ev ρ β) w:=by
 cases op<;>simp only[eqOr,zG,zY,reduceCtorEq]at h<;>obtain⟨rfl,rfl⟩:=h
 ·have:binOp .eql q u v=(do pure (.bool (<-zu q u v)):Sem Value):=by
   cases u<;>first|rfl|exact absurd rfl (hu _ _)|exact absurd rfl (Z _)|exact absurd rfl (Y _ _)|simp_all|(cases v<;>rfl)
  simp[this,G,J]
 ·have:binOp .neq q u v=(do pure (.bool (!(<-zu q u v))):Sem Value):=by
   cases u<;>first|rfl|exact absurd rfl (hu _ _)|exact absurd rfl (Z _)|exact absurd rfl (Y _ _)|simp_all|(cases v<;>rfl)
  simp[this,G,notT_ev,J,asB]
theorem GG{op:BinOp}{q:TypeId}{x y:Operand}{u v:Value}(h1:u≠.nilIface)(h2:∀c,u≠.agg c):(eqGuard op q x y u v).run P w=.ok () w:=by
 cases u<;>first|exact absurd rfl h1|exact absurd rfl (h2 _)|(unfold eqGuard;cases op<;>rfl)
theorem GH(t:TypeId)(x y:Value):zu t x y=zt (9999+1) t x y:=rfl
theorem PG{t:TypeId}{m n:Bool}(h:P.underlying t=some .bool):(zu t (.bool m) (.bool n)).run P w=.ok (m==n) w:=by
 rw[GH,zt];simp[run_underlying h]
theorem run_equal_p{t e:TypeId}{n:Option Addr}(h:P.underlying t=some (.pointer e)):(zu t (.pointer none) (.pointer n)).run P w=.ok n.isNone w:=by
 rw[GH,zt];simp[run_underlying h]
theorem run_equal_p'{t e:TypeId}{n:Option Addr}(h:P.underlying t=some (.pointer e)):(zu t (.pointer n) (.pointer none)).run P w=.ok n.isNone w:=by
 rw[GH,zt];cases n<;>simp[run_underlying h]
theorem run_equal_sl{t e:TypeId}{n:Option Addr}{a b c d:Nat}(h:P.underlying t=some (.slice e)):(zu t (.slice none a b) (.slice n c d)).run P w=.ok n.isNone w:=by
 rw[GH,zt];simp[run_underlying h]
theorem PH{t e:TypeId}{n:Option Addr}{a b c d:Nat}(h:P.underlying t=some (.slice e)):(zu t (.slice n c d) (.slice none a b)).run P w=.ok n.isNone w:=by
 rw[GH,zt];cases n<;>simp[run_underlying h]
theorem run_equal_m{t e f:TypeId}{n:Option Nat}(h:P.underlying t=some (.map e f)):(zu t (.map none) (.map n)).run P w=.ok n.isNone w:=by
 rw[GH,zt];simp[run_underlying h]
theorem run_equal_m'{t e f:TypeId}{n:Option Nat}(h:P.underlying t=some (.map e f)):(zu t (.map n) (.map none)).run P w=.ok n.isNone w:=by
 rw[GH,zt];cases n<;>simp[run_underlying h]
theorem run_binOpT{op:BinOp}{G:TypeId}{x y:Operand}{p q t:T}{ns:List T}(h:binOpT P op G p q=some (ns,t))(Q:∀z∈ns,asB (z.ev ρ β)=true):
  (do eqGuard op G x y (p.ev ρ β) (q.ev ρ β);binOp op G (p.ev ρ β) (q.ev ρ β):Sem Value).run P w=.ok (t.ev ρ β) w:=by
 unfold binOpT at h;split at h;·simp at h
 ·simp at h
 ·rename_i A W;split at h
  ·rename_i k I Z Y;split at h
   ·rename_i e;subst e;obtain⟨m,hm⟩:=Fj (ρ:=ρ) (β:=β) Z;obtain⟨n,d⟩:=Fj (ρ:=ρ) (β:=β) Y;grind[zN,GG,zO,run_binI]
   ·simp at h
  ·rename_i Z Y;obtain⟨m,hm⟩:=Hb (ρ:=ρ) (β:=β) Z;obtain⟨n,d⟩:=Hb (ρ:=ρ) (β:=β) Y;grind[zN,GG,zO,run_binS]
  ·rename_i Z Y;split at h;case h_2=>simp at h
   rename_i J;obtain⟨m,hm⟩:=GF (ρ:=ρ) (β:=β) Z;obtain⟨n,d⟩:=GF (ρ:=ρ) (β:=β) Y;rw[hm,d,zN,GG (by simp) (by simp),zO];exact He (b:=m==n) h (by simp[T.ev,B.ev,hm,d,asB]) (PG J) (by simp) (by simp) (by simp) (by simp)
  ·rename_i Z Y;split at h;case h_2=>simp at h
   rename_i J;obtain⟨m,hm⟩:=HR (ρ:=ρ) (β:=β) Z;obtain⟨n,d⟩:=HR (ρ:=ρ) (β:=β) Y;unfold eqNil at h;split at h
   ·rename_i h2;subst h2;show(do eqGuard op G x y (zr none) (q.ev ρ β);binOp op G (zr none) (q.ev ρ β):Sem Value).run P w=_;rw[d,zN,GG (by simp) (by simp),zO];exact He (b:=n.isNone) h (by simp[T.ev,U.ev,d,AT]) (run_equal_p J) (by simp) (by simp) (by simp) (by simp)
   ·split at h;case isFalse=>simp at h
    rename_i h2;subst h2;show(do eqGuard op G x y (p.ev ρ β) (zr none);binOp op G (p.ev ρ β) (zr none):Sem Value).run P w=_;rw[hm,zN,GG (by simp) (by simp),zO];exact He (b:=m.isNone) h (by simp[T.ev,U.ev,hm,AT]) (run_equal_p' J) (by simp) (by simp) (by simp) (by simp)
  ·rename_i Z Y;split at h;case h_2=>simp at h
   rename_i J;obtain⟨m,M,F,hm⟩:=It (ρ:=ρ) (β:=β) Z;obtain⟨n,L,R,d⟩:=It (ρ:=ρ) (β:=β) Y;unfold eqNil at h;split at h
   ·rename_i h2;subst h2;show(do eqGuard op G x y (zq none 0 0) (q.ev ρ β);binOp op G (zq none 0 0) (q.ev ρ β):Sem Value).run P w=_;rw[d,zN,GG (by simp) (by simp),zO];exact He (b:=n.isNone) h (by simp[T.ev,U.ev,d,AT]) (run_equal_sl J) (by simp) (by simp) (by simp) (by simp)
   ·split at h;case isFalse=>simp at h
    rename_i h2;subst h2;show(do eqGuard op G x y (p.ev ρ β) (zq none 0 0);binOp op G (p.ev ρ β) (zq none 0 0):Sem Value).run P w=_;rw[hm,zN,GG (by simp) (by simp),zO];exact He (b:=m.isNone) h (by simp[T.ev,U.ev,hm,AT]) (PH J) (by simp) (by simp) (by simp) (by simp)
  ·rename_i Z Y;split at h;case h_2=>simp at h
   rename_i J;obtain⟨m,hm⟩:=kind_m (ρ:=ρ) (β:=β) Z;obtain⟨n,d⟩:=kind_m (ρ:=ρ) (β:=β) Y;unfold eqNil at h;split at h
   ·rename_i h2;subst h2;show(do eqGuard op G x y (zp none) (q.ev ρ β);binOp op G (zp none) (q.ev ρ β):Sem Value).run P w=_;rw[d,zN,GG (by simp) (by simp),zO];exact He (b:=n.isNone) h (by simp[T.ev,U.ev,d,G7]) (run_equal_m J) (by simp) (by simp) (by simp) (by simp)
   ·split at h;case isFalse=>simp at h
    rename_i h2;subst h2;show(do eqGuard op G x y (p.ev ρ β) (zp none);binOp op G (p.ev ρ β) (zp none):Sem Value).run P w=_;rw[hm,zN,GG (by simp) (by simp),zO];exact He (b:=m.isNone) h (by simp[T.ev,U.ev,hm,G7]) (run_equal_m' J) (by simp) (by simp) (by simp) (by simp)
  ·simp at h
end
section
variable{P:Program}{O V0:Mem}{w0:World}{N:Nat}{β:Nat->Nat}{st:St}{ρ:List Value}{V:Mem}{a:Act}{w:World}
theorem Kj{t:T}(h:(DH t.cellsT).isSome=true):(t.ev ρ β).cells.toList=t.cellsT.evs ρ β:=by
 have key:∀s:T,s.cellsT=.cons s .nil->(DH s.cellsT).isSome=true->(s.ev ρ β).cells.toList=s.cellsT.evs ρ β:=by
  intro s J q;rw[J]at q⊢;simp only[DH]at q;cases d:s.kind with
  |none=>simp[d]at q
  |some k=>
   have h1:=K.ok_one (T.kind_ok (ρ:=ρ) (β:=β) s k d);simp only[T.evs];generalize s.ev ρ β=v at h1⊢;cases v<;>first|rfl|simp[G8]at h1
 cases t with
 |agg cs=>rfl
 |_=>exact key _ rfl h
theorem foldl_set:∀(vs:List Value)(k off:Nat)(cs:List Value),off+k+vs.length<=cs.length->
  (vs.zipIdx k).foldl (λcs (x:Value×Nat)=>cs.setIfInBounds (off+x.2) x.1) cs.toArray=(cs.take (off+k)++vs++cs.drop (off+k+vs.length)).toArray
 |[],k,off,cs,_=>by simp
 |v::vs,k,off,cs,h=>by
  simp only[zo]at h;have q:=foldl_set vs (k+1) off (cs.set (off+k) v) (by simp;omega);simp only[List.zipIdx_cons,List.foldl_cons,List.setIfInBounds_toArray];rw[q];congr 1;apply List.ext_getElem?;intro j;simp only[List.getElem?_append,zI,List.length_take,List.length_set,zS,zT,List.getElem?_set,zo];grind
theorem Kk{q:Nat->Option (Nat×Nat)}:∀{ps:List (Nat×T)}{cells cs:List T},GB q cells ps=some cs->
  Instr.fill q (cells.map (·.ev ρ β)).toArray (ps.map λx=>(x.1,x.2.ev ρ β))=some (cs.map (·.ev ρ β)).toArray
 |[],cells,cs,h=>by simp only[GB,zG]at h;subst h;rfl
 |(i,t)::ps,cells,cs,h=>by
  simp only[GB]at h;split at h;·simp at h
  ·rename_i off size G;split at h
   ·rename_i Z;obtain⟨h1,h2,h3⟩:=Z;have W:=Kk h;have d:=Kj (ρ:=ρ) (β:=β) h3;have Y:((t.ev ρ β).cells.toList).length=size:=by grind[DR]
    have J:(t.ev ρ β).cells.size=size:=by simpa using Y
    simp only[zH,Instr.fill,G,J,ne_eq,not_true_eq_false,List.size_toArray,List.length_map,decide_false,Bool.false_or,gt_iff_lt,decide_eq_true_eq];rw[if_neg (by omega)];have Q:(t.ev ρ β).cells.zipIdx.foldl (λcs (x:Value×Nat)=>cs.setIfInBounds (off+x.2) x.1) (cells.map (·.ev ρ β)).toArray=
      ((cells.take off++t.cellsT.toList++cells.drop (off+size)).map (·.ev ρ β)).toArray:=by
     rw[<-Array.foldl_toList,Array.toList_zipIdx,foldl_set _ 0 off _ (by simp_all)];grind[DR,List.map_take,List.map_drop]
    simp_all
   ·simp at h
theorem Kl(h:Rel O V0 w0 N β st ρ V a.tmps w):∀{l:List (Nat×Operand)}{ps:List (Nat×T)},partsT st l=some ps->l.map (λx=>(x.1,a.eval x.2))=ps.map λx=>(x.1,x.2.ev ρ β)
 |[],ps,q=>by grind[partsT]
 |(i,o)::l,ps,q=>by
  simp only[partsT]at q;split at q
  ·rename_i t d h1 h2;simp only[zG]at q;subst q;simp only[zH,Bx h h1,Kl h h2]
  ·simp at q
theorem places_eq(fs:List Field)(h:fs.all (λf=>(CY P f.type).isSome)=true):∃q:List (Nat×Nat),fs.mapM (λ(f:Field)=>(P.info? f.type).map λi=>(f.offset,i.size))=some q/\
  ∀i:Nat,q[i]?=(fs[i]?).bind λ(f:Field)=>(CY P f.type).map λs=>(f.offset,s):=by
 induction fs with
 |nil=>simp_all
 |cons f fs J=>
  simp only[List.all_cons,zC]at h;obtain⟨G,h1,h2⟩:=J h.2;cases Z:P.info? f.type with
  |none=>simp[CY,Z]at h
  |some d=>
   refine⟨(f.offset,d.size)::G,by simp_all,λi=>?_⟩;grind[CY]
theorem run_buildT{t:TypeId}{fs:Array Field}{z cs:List T}{parts:Array (Nat×Operand)}{ps:List (Nat×T)}(G:Rel O V0 w0 N β st ρ V a.tmps w)(hu:P.underlying t=some (.struct fs))
  (d:FE P t=some z) (Z:partsT st parts.toList=some ps) (Y:fs.toList.all (λf=>(CY P f.type).isSome)=true) (W:GB (Ke P fs) z ps=some cs):
  (zn t (parts.map λ(i,x)=>(i,a.eval x))).run P w=.ok (.agg (cs.map (·.ev ρ β)).toArray) w:=by
 apply run_build;unfold Program.built;unfold FE E2 at d;cases J:P.info? t with
 |none=>simp[J]at d
 |some Q=>
  simp only[J,zM]at d;cases q:Q.zero with
  |none=>simp[q]at d
  |some A=>
   simp only[q,zM]at d;obtain⟨I,h1,h2⟩:=places_eq fs.toList Y;simp only[hu,q,h1];have M:(λi=>I.toArray[i]?)=Ke P fs:=by
    grind[Ke]
   have F:z.map (·.ev ρ β)=A.cells.toList:=Jm d;have L:=Kl G Z;have:=Kk (ρ:=ρ) (β:=β) W;simp_all
theorem run_buildA{t e:TypeId}{n:Nat}{sz:Nat}{z cs:List T}{parts:Array (Nat×Operand)}{ps:List (Nat×T)}(Z:Rel O V0 w0 N β st ρ V a.tmps w)(hu:P.underlying t=some (.array n e))
  (d:FE P t=some z) (Y:partsT st parts.toList=some ps) (W:CY P e=some sz) (Q:GB (λi=>some (i*sz,sz)) z ps=some cs):
  (zn t (parts.map λ(i,x)=>(i,a.eval x))).run P w=.ok (.agg (cs.map (·.ev ρ β)).toArray) w:=by
 unfold FE E2 at d;cases J:P.info? t with
 |none=>simp[J]at d
 |some A=>
  simp only[J,zM]at d;cases q:A.zero with
  |none=>simp[q]at d
  |some G=>
   simp only[q,zM]at d;have I:E2 P t=some G:=by unfold E2;rw[J];exact q
   have M:z.map (·.ev ρ β)=G.cells.toList:=Jm d;have R:=Kl Z Y;have F:=Kk (ρ:=ρ) (β:=β) Q;rw[M]at F;have L:(parts.map λ(x:Nat×Operand)=>(x.1,a.eval x.2)).toList=ps.map λx=>(x.1,x.2.ev ρ β):=by simp_all
   unfold zn;simp only[zN,Jo I,zO,run_underlying hu,E3 W,L];simp_all[zP]
theorem run_indexAtT{t e:TypeId}{s j:T}{k:IntKind}{sz:Nat}(hu:P.underlying t=some (.slice e))(Q:s.kind=some .sl)(I:j.kind=some (.i k))(M:CY P e=some sz)
  (d:∀z∈nn (EP s)++[.b2 .le (.int .i64 0) j,.b2 .lt j (slLen s)],asB (z.ev ρ β)=true):
  (zl t (s.ev ρ β) (j.ev ρ β)).run P w=.ok ((paddT e sz (EP s) j).ev ρ β) w:=by
 obtain⟨p,n,c,J⟩:=It (ρ:=ρ) (β:=β) Q;obtain⟨i,G⟩:=Fj (ρ:=ρ) (β:=β) I;have h1:=d (.b2 .le (.int .i64 0) j) (by simp);have h2:=d (.b2 .lt j (slLen s)) (by simp);simp only[T.ev,B.ev,G,Aq,asB,decide_eq_true_eq,Kh,J,FD]at h1 h2;have A:AT ((EP s).ev ρ β)=p:=by rw[NN s Q,J,AT]
 have Z:∃q,p=some q:=by
  have F:(EP s).kind=some .p∨∃a b c,s=.c3 .slc a b c:=by
   unfold EP;split;·simp_all
   ·exact .inl rfl
  have Y:AT ((EP s).ev ρ β)≠none:=by
   unfold nn at d;intro W;split at d;·simp[*,T.ev,AT]at W
   ·simp[*,T.ev,AT]at W
   ·have h3:=d _ (List.mem_append_left _ (zR.2 rfl));simp[T.ev,U.ev,asB,W]at h3
  rw[A]at Y;cases p with
  |none=>simp_all
  |some q=>grind
 obtain⟨q,rfl⟩:=Z;obtain⟨h3,L,h4⟩:=paddT_ev (ρ:=ρ) (β:=β) e sz (EP s) j;rw[A,G]at h3;simp only[Aq,Aa,zL]at h3;rw[h4]at h3⊢;simp only[AT]at h3;subst h3;rw[J,G];simp[zl,run_underlying hu,asIntOf,h1,h2,E3 M]
theorem sbyte_at{s:KB}{i:Int}(d:0<=i)(h1:i<s.size):∃b,s[i.toNat]?=some b/\Bq s i=b.toNat:=by
 have q:i.toNat<s.size:=by omega
 have h2:s.data[i.toNat]?=some (s.data[i.toNat]'(by simpa using q)):=Array.getElem?_eq_getElem _;refine⟨s.data[i.toNat]'(by simpa using q),?_,by simp[Bq,h2]⟩;rw[getElem?_pos s i.toNat q];rfl
theorem run_indexT{t:TypeId}{s j:T}{k:IntKind}(hu:P.underlying t=some .string)(d:s.kind=some .s)(J:j.kind=some (.i k))(q:asB ((T.b2 .sidxok s j).ev ρ β)=true):
  (Instr.index t (s.ev ρ β) (j.ev ρ β)).run P w=.ok ((T.b2 .sidx s j).ev ρ β) w:=by
 obtain⟨b,G⟩:=Hb (ρ:=ρ) (β:=β) d;obtain⟨i,Z⟩:=Fj (ρ:=ρ) (β:=β) J;simp only[T.ev,B.ev,G,Z,asB,Ba,Aq,decide_eq_true_eq]at q;obtain⟨c,h1,h2⟩:=sbyte_at q.1 q.2;simp_all[Instr.index,run_underlying,asIntOf,T.ev,B.ev,Ba,Aq]
theorem run_sliceS{t:TypeId}{s l h:T}{j k:IntKind}{lo hi:Option Operand}(hu:P.underlying t=some .string)(Q:s.kind=some .s)(A:l.kind=some (.i j))(I:h.kind=some (.i k))
  (el:lo.map a.eval=some (l.ev ρ β)∨lo=none/\l=.int .i64 0) (J:hi.map a.eval=some (h.ev ρ β)∨hi=none/\h=.u .slen s) (Z:asB ((T.c3 .bnd l h (.u .slen s)).ev ρ β)=true):
  (zk t (s.ev ρ β) (lo.map a.eval) (hi.map a.eval) none).run P w=.ok ((T.c3 .ssub s l h).ev ρ β) w:=by
 obtain⟨b,q⟩:=Hb (ρ:=ρ) (β:=β) Q;obtain⟨x,G⟩:=Fj (ρ:=ρ) (β:=β) A;obtain⟨y,d⟩:=Fj (ρ:=ρ) (β:=β) I;simp only[T.ev,C.ev,U.ev,q,G,d,asB,Ba,Aq,decide_eq_true_eq]at Z;obtain⟨h1,h2,h3⟩:=Z;obtain⟨x,rfl⟩:=zj h1;obtain⟨y,rfl⟩:=zj (show 0<=y by omega);have Y:x<=y:=by omega
 have W:y<=b.size:=by omega
 rcases el with el|⟨rfl,rfl⟩<;>rcases J with J|⟨rfl,rfl⟩
 ·simp[zk,run_underlying hu,zi,zh,zg,asIntOf,el,J,q,G,d,Y,W,T.ev,C.ev,Ba,Aq]
 ·simp only[T.ev,U.ev,q,Ba,zf,ze]at d;obtain⟨-,rfl⟩:=d;simp[zk,run_underlying hu,zi,zh,zg,asIntOf,el,q,G,Y,T.ev,C.ev,U.ev,Ba,Aq]
 ·simp[zk,run_underlying hu,zi,zh,zg,asIntOf,J,q,d,W,T.ev,C.ev,Ba,Aq]
 ·simp[zk,run_underlying hu,zi,zh,q,T.ev,C.ev,U.ev,Ba,Aq]
theorem run_sliceL{t e:TypeId}{s l h:T}{j k:IntKind}{sz:Nat}{lo hi:Option Operand}(hu:P.underlying t=some (.slice e))(M:CY P e=some sz)(W:s.kind=some .sl)(F:l.kind=some (.i j))(L:h.kind=some (.i k))
  (el:lo.map a.eval=some (l.ev ρ β)∨lo=none/\l=.int .i64 0) (Y:hi.map a.eval=some (h.ev ρ β)∨hi=none/\h=slLen s) (Q:asB ((T.c3 .bnd l h (FG s)).ev ρ β)=true):
  (zk t (s.ev ρ β) (lo.map a.eval) (hi.map a.eval) none).run P w=
   .ok ((T.c3 .slc (.c3 (.slp sz) (EP s) l (FG s)) (.b2 (.sub .i64) h l) (.b2 (.sub .i64) (FG s) l)).ev ρ β) w:=by
 obtain⟨p,n,c,G⟩:=It (ρ:=ρ) (β:=β) W;obtain⟨x,d⟩:=Fj (ρ:=ρ) (β:=β) F;obtain⟨y,J⟩:=Fj (ρ:=ρ) (β:=β) L;have q:=NN (ρ:=ρ) (β:=β) s W;simp only[T.ev,C.ev,LN,G,d,J,asB,Aq,asCap,decide_eq_true_eq]at Q;obtain⟨h1,h2,h3⟩:=Q;obtain⟨x,rfl⟩:=zj h1;obtain⟨y,rfl⟩:=zj (show 0<=y by omega);have A:x<=y:=by omega
 have I:y<=c:=by omega
 have hv:(T.c3 .slc (.c3 (.slp sz) (EP s) l (FG s)) (.b2 (.sub .i64) h l) (.b2 (.sub .i64) (FG s) l)).ev ρ β=
   .slice (if c=x then p else Aa p (x*sz)) (y-x) (c-x):=by
  rw[G]at q;simp only[T.ev,C.ev,B.ev,q,LN,G,d,J];grind[Aq,AT,asCap]
 have Z:((zh true n c (lo.map a.eval) (hi.map a.eval) none).run P w:Result (Nat×Nat×Nat))=.ok (x,y,c) w:=by
  rcases el with el|⟨rfl,rfl⟩<;>rcases Y with Y|⟨rfl,rfl⟩
  ·simp[zh,zg,asIntOf,el,Y,d,J,A,I]
  ·rw[Kh,G]at J;simp only[FD,zf,ze]at J;obtain⟨-,rfl⟩:=J;simp[zh,zg,asIntOf,el,d,A]
  ·simp only[T.ev,zf]at d;obtain⟨-,d⟩:=d;obtain rfl:x=0:=by omega
   simp[zh,zg,asIntOf,Y,J,I]
  ·simp only[T.ev,zf]at d;obtain⟨-,d⟩:=d;obtain rfl:x=0:=by omega
   rw[Kh,G]at J;simp only[FD,zf,ze]at J;obtain⟨-,rfl⟩:=J;rfl
 rw[hv,G];simp only[zk,zN,run_underlying hu,zO,zi,Z,E3 M,zP];rfl
end
section
variable{P:Program}{ρ:List Value}{β:Nat->Nat}{w:World}
theorem run_eqFs{g:TypeId->T->T->Option T}{n:Nat}{cs ds:T}(G:∀t x y z,g t x y=some z->∃b,z.ev ρ β=.bool b/\(zt n t (x.ev ρ β) (y.ev ρ β)).run P w=.ok b w) :
    ∀(fs:List Field)(z:T),eqFs g P cs ds fs=some z->∃b,z.ev ρ β=.bool b/\
      (do for f in fs do
            if f.name≠ "_" then
              if !(<-zt n f.type (<-part f.type (cs.evs ρ β).toArray f.offset) (<-part f.type (ds.evs ρ β).toArray f.offset))then return false
          pure true:Sem Bool).run P w=.ok b w:=by
  intro fs;induction fs with
  |nil=>
    intro z h;simp only[eqFs,zG]at h;subst h;exact⟨true,rfl,by simp⟩
  |cons f fs Z=>
    intro z h;unfold eqFs at h;split at h;· cases h
    rename_i q;split at h;case h_2=>cases h
    rename_i x y Y W;split at h;case h_2=>cases h
    rename_i a Q;obtain⟨b,M,A⟩:=G _ _ _ _ Q;simp only[List.forIn_cons,q,ne_eq,not_false_eq_true,if_true,zN,LP Y,LP W,zO,A];cases b with
    |false=>
      refine⟨false,?_,by simp⟩;split at h;· grind
      · rw[zy]at h;obtain⟨r,d,rfl⟩:=h;grind[T.ev,B.ev,asB]
    |true=>
      split at h;· simp_all
      · rw[zy]at h;obtain⟨r,d,rfl⟩:=h;obtain⟨F,I,J⟩:=Z r d;simp_all[T.ev,B.ev,asB,zN]
theorem run_eqT:∀(d n:Nat)(t:TypeId)(x y z:T),Jg P d t x y=some z->∃b,z.ev ρ β=.bool b/\(zt (n+d) t (x.ev ρ β) (y.ev ρ β)).run P w=.ok b w
 |0,_,_,_,_,_,h=>by simp[Jg]at h
 |d+1,n,t,x,y,z,h=>by
  unfold Jg at h;rw[show n+(d+1)=(n+d)+1 from rfl,zt];split at h
  ·rename_i Q k A hu G Z;split at h
   ·rename_i e;subst e;cases h;obtain⟨a,J⟩:=Fj (ρ:=ρ) (β:=β) G;obtain⟨b,q⟩:=Fj (ρ:=ρ) (β:=β) Z;exact⟨decide (a=b),by simp[T.ev,B.ev,J,q,Aq],by simp[zN,run_underlying hu,J,q];rfl⟩
   ·cases h
  ·rename_i hu G Z;cases h;obtain⟨a,J⟩:=Hb (ρ:=ρ) (β:=β) G;obtain⟨b,q⟩:=Hb (ρ:=ρ) (β:=β) Z;exact⟨decide (a=b),by simp[T.ev,B.ev,J,q,Ba],by
    have W:(a==b)=decide (a=b):=by rw[Bool.eq_iff_iff,MapKept.bytes_beq,decide_eq_true_eq]
    simp[zN,run_underlying hu,J,q,W]⟩
  ·rename_i hu G Z;cases h;obtain⟨a,J⟩:=GF (ρ:=ρ) (β:=β) G;obtain⟨b,q⟩:=GF (ρ:=ρ) (β:=β) Z;exact⟨a==b,by simp[T.ev,B.ev,J,q,asB],by simp[zN,run_underlying hu,J,q]⟩
  ·rename_i fs hu G Z;split at h;case h_2=>cases h
   rename_i cs ds;split at h;case isFalse=>cases h
   rename_i Y;obtain⟨b,q,I⟩:=run_eqFs (n:=n+d) (λt x y z h=>run_eqT d n t x y z h) fs.toList z h;refine⟨b,q,?_⟩;simp only[zN,run_underlying hu,zO,T.ev,run_program,Y,<-Array.forIn_toList];simp_all
  ·cases h
theorem run_eqAgg{op:BinOp}{d:TypeId}{x y:Operand}{p q t:T}{ns:List T}(h:eqAgg P op d p q=some (ns,t)):
  (do eqGuard op d x y (p.ev ρ β) (q.ev ρ β);binOp op d (p.ev ρ β) (q.ev ρ β):Sem Value).run P w=.ok (t.ev ρ β) w:=by
 unfold eqAgg at h;split at h;case h_2=>cases h
 rename_i cs ds;split at h;case isFalse=>cases h
 rename_i Y;rw[Option.bind_eq_some_iff]at h;obtain⟨z,G,W⟩:=h;obtain⟨b,Q,J⟩:=run_eqT (ρ:=ρ) (β:=β) (w:=w) 5 9995 d _ _ z G;have J:(zu d (T.ev ρ β (.agg cs)) (T.ev ρ β (.agg ds))).run P w=.ok b w:=J;have Z:(eqGuard op d x y (T.ev ρ β (.agg cs)) (T.ev ρ β (.agg ds))).run P w=.ok () w:=by
  simp_all[eqGuard,T.ev,zN,run_program]
 grind[zN,zO,He,T.ev]
end
section
variable{P:Program}{O V0:Mem}{w0:World}{N:Nat}{β:Nat->Nat}{st:St}{ρ:List Value}{V:Mem}{a:Act}{w:World}
theorem lohi{st:St}{lo:Option Operand}{d l:T}(q:Rel O V0 w0 N β st ρ V a.tmps w)(h:(match lo with|some l=>BF st l|none=>some d)=some l):
  lo.map a.eval=some (l.ev ρ β)∨lo=none/\l=d:=by
 cases lo with
 |some x=>grind[Bx]
 |none=>simp_all
theorem LQ(d:Rel O V0 w0 N β st ρ V a.tmps w){o:Oper}{ns:List T}{t:T}(h:C6 P st o.op=some (ns,t))(Y:∀x∈ns,asB (x.ev ρ β)=true):
  (execOp a.eval o).run P w=.ok (.value (t.ev ρ β)) w:=by
 unfold execOp;generalize o.op=op at h⊢;cases op with
 |move x=>
  simp only[C6,zy,zY]at h;obtain⟨Q,h1,rfl,rfl⟩:=h;simp only[zP,Bx d h1]
 |assign x=>
  simp only[C6,zy,zY]at h;obtain⟨Q,h1,rfl,rfl⟩:=h;simp only[zP,Bx d h1]
 |pick c x y=>
  simp only[C6]at h;split at h
  ·rename_i v p q h1 h2 h3;simp only[zG,zY]at h;obtain⟨rfl,rfl⟩:=h;simp only[Bx d h1,Bx d h2,Bx d h3,T.ev,asBool,zN,zP,zO];cases v<;>rfl
  ·simp at h
 |load ty x=>
  simp only[C6]at h;split at h
  ·rename_i i off h1;cases E:st.box i with
   |none=>simp[E]at h
   |some cs=>
    obtain⟨cs,e⟩:=cs;simp only[E,zM,zy,zY]at h;obtain⟨Q,h2,rfl,rfl⟩:=h;have hB:=(d.boxes i cs e E).1;have:=Jp (P:=P) hB h2;simp only[Bx d h1,T.ev,Instr.loadAt,zd,zN,zP,zO,this]
  ·simp at h
 |fieldAddr s x f=>
  simp only[C6]at h;split at h
  ·rename_i fs p hu h1;cases A:fs[f]? with
   |none=>simp[A]at h
   |some fd=>
    simp only[A,zM]at h;split at h
    ·rename_i m W;split at h
     ·rename_i J;simp only[zG,zY]at h;obtain⟨rfl,rfl⟩:=h;obtain⟨q,I⟩:=nn_some J Y;rw[poff_ev _ _ ⟨_,I⟩,I];simp only[Bx d h1,I,Instr.fieldAt,zN,run_underlying hu,zO,A,zd,zP,PF W,AT,Aa,zL]
     ·simp at h
    ·simp at h
  ·simp at h
 |indexAddr ty x i=>
  simp only[C6]at h;split at h
  ·rename_i e s j hu h1 h2;split at h
   ·rename_i k sz W hj M;simp only[zG,zY]at h;obtain⟨rfl,rfl⟩:=h;simp only[Bx d h1,Bx d h2,zN,run_indexAtT hu W hj M Y,zO,zP]
   ·simp at h
  ·rename_i len e p kk k hu h1 h2;split at h
   ·rename_i sz M;split at h
    ·rename_i J;obtain⟨J,hk0,hk1⟩:=J;simp only[zG,zY]at h;obtain⟨rfl,rfl⟩:=h;obtain⟨q,I⟩:=nn_some J Y;rw[poff_ev _ _ ⟨_,I⟩,I];simp only[Bx d h1,Bx d h2,I,T.ev,zl,asIntOf,zN,run_underlying hu,zO,zd,zP,E3 M,AT,Aa,zL];simp[hk0,hk1,E3 M,zN,zO,zP]
    ·simp at h
   ·simp at h
  ·simp at h
 |index ty x i=>
  simp only[C6]at h;split at h
  ·rename_i s j hu h1 h2;split at h
   ·rename_i k W hj;simp only[zG,zY]at h;obtain⟨rfl,rfl⟩:=h;simp only[Bx d h1,Bx d h2,zN,run_indexT hu W hj (Y _ (zR.2 rfl)),zO,zP]
   ·simp at h
  ·simp at h
 |binOp b xt x y yt=>
  simp only[C6]at h;split at h
  ·rename_i p q h1 h2;have:=(Option.or_eq_some_iff.1 h).elim (λh=>run_binOpT (P:=P) (x:=x) (y:=y) (w:=w) h Y) λh=>run_eqAgg (x:=x) (y:=y) h.2;simp only[Bx d h1,Bx d h2];rw[zN,this];rfl
  ·simp at h
 |unOp u xt x=>
  simp only[C6]at h;split at h
  ·rename_i Q h1;split at h
   ·rename_i J;simp only[zG,zY]at h;obtain⟨rfl,rfl⟩:=h;obtain⟨b,E⟩:=GF (ρ:=ρ) (β:=β) J;simp[Bx d h1,E,Op.unary,notT_ev,asB]
   ·simp at h
  ·rename_i Q h1;split at h
   ·rename_i k J;simp only[inr,zG,zY]at h;obtain⟨rfl,rfl⟩:=h;obtain⟨m,hm⟩:=Fj (ρ:=ρ) (β:=β) J;have h3:=Y _ (zR.2 rfl);simp only[T.ev,U.ev,hm,Aq,asB,decide_eq_true_eq]at h3;simp only[Bx d h1,hm,Op.unary,zZ,zN,zP,zO,T.ev,U.ev,Aq,Hd h3]
   ·simp at h
  ·simp at h
 |convert src dst x=>
  simp only[C6]at h;split at h
  ·rename_i k0 k Q F L h1;split at h
   ·rename_i j J;obtain⟨m,hm⟩:=Fj (ρ:=ρ) (β:=β) J;have key:k.wrap m=m->((do pure (Next.value (<-convert src dst (a.eval x))):Sem Next).run P w)=.ok (.value (.int k m)) w:=λe=>by
     simp only[Bx d h1,hm,zN,convert,run_underlying F,run_underlying L,zO,Conv.intToInt,zP,e]
    split at h
    ·rename_i e;subst e;simp only[inr,zG,zY]at h;obtain⟨rfl,rfl⟩:=h;have h3:=Y _ (zR.2 rfl);simp_all[T.ev,U.ev,Aq,asB,decide_eq_true_eq,Hd]
    ·simp only[inr,zG,zY]at h;obtain⟨rfl,rfl⟩:=h;have h3:=Y _ (zR.2 rfl);simp_all[T.ev,U.ev,Aq,asB,decide_eq_true_eq,Hd]
   ·simp at h
  ·rename_i Q F L h1;split at h
   ·rename_i J;simp only[zG,zY]at h;obtain⟨rfl,rfl⟩:=h;obtain⟨m,hm⟩:=Hb (ρ:=ρ) (β:=β) J;simp only[Bx d h1,hm,zN,convert,run_underlying F,run_underlying L,zO,zP]
   ·simp at h
  ·simp at h
 |build ty parts=>
  simp only[C6]at h;split at h
  ·rename_i fs z ps hu M hp;split at h
   ·rename_i W;simp only[zy,zY]at h;obtain⟨cs,A,rfl,rfl⟩:=h;grind[zN,run_buildT,zO,zP,T.ev,Da]
   ·simp at h
  ·rename_i n e z ps hu M hp;split at h
   ·rename_i sz W;simp only[zy,zY]at h;obtain⟨cs,A,rfl,rfl⟩:=h;grind[zN,run_buildA,zO,zP,T.ev,Da]
   ·simp at h
  ·simp at h
 |field xt x f=>
  simp only[C6]at h;split at h
  ·rename_i fs cs hu h1;cases A:fs[f]? with
   |none=>simp[A]at h
   |some fd=>
    simp only[A,zM,zy,zY]at h;obtain⟨Q,h2,rfl,rfl⟩:=h;simp only[Bx d h1,T.ev,Instr.field,zN,run_underlying hu,zO,A,asAgg,zP,LP h2]
  ·simp at h
 |extract x i=>
  simp only[C6]at h;split at h
  ·rename_i cs h1;simp only[zy,zY]at h;obtain⟨Q,h2,rfl,rfl⟩:=h;have:(cs.evs ρ β).toArray[i]?=some (Q.ev ρ β):=by simp[DR,h2]
   simp[Bx d h1,T.ev,Instr.extract,this]
  ·simp at h
 |makeFunc fn first Z=>
  simp only[C6]at h;split at h
  ·rename_i f ts h1;split at h
   ·rename_i he;simp only[zG,zY]at h;obtain⟨rfl,rfl⟩:=h;have e1:first=#[]:=by simpa using he
    subst e1;have e2:Z.map a.eval=(ts.map (·.ev ρ β)).toArray:=by
     apply Array.ext';rw[zc,Jn d h1]
    simp[Instr.makeFunc,T.ev,Da,e2]
   ·simp at h
  ·simp at h
 |nilCheck x=>
  simp only[C6]at h;split at h
  ·rename_i f cs h1;simp only[zG,zY]at h;obtain⟨rfl,rfl⟩:=h;simp only[Bx d h1,T.ev,zP]
  ·rename_i p _ h1;split at h
   ·rename_i J;simp only[zG,zY]at h;obtain⟨rfl,rfl⟩:=h;obtain⟨q,I⟩:=nn_some J Y;grind[Bx,zP]
   ·simp at h
  ·simp at h
 |slice ty x lo hi mx=>
  simp only[C6]at h;split at h
  ·rename_i s hu h1;split at h
   ·rename_i l hh W hl R;split at h
    ·rename_i j k X D;simp only[zG,zY]at h;obtain⟨rfl,rfl⟩:=h;simp only[Bx d h1,zb,zN,run_sliceS hu W X D (lohi d hl) (lohi d R) (Y _ (zR.2 rfl)),zO,zP]
    ·simp at h
   ·simp at h
  ·rename_i e s hu h1;split at h
   ·rename_i sz l hh W M hl R;split at h
    ·rename_i j k X D;simp only[zG,zY]at h;obtain⟨rfl,rfl⟩:=h;simp only[Bx d h1,zb,zN,run_sliceL hu M W X D (lohi d hl) (lohi d R) (Y _ (zR.2 rfl)),zO,zP]
    ·simp at h
   ·simp at h
  ·simp at h
 |call c=>
  simp only[C6]at h;have G:∀{x:T},opTs st c.args.toList=some [x]->c.args.map a.eval=#[x.ev ρ β]:=λ{x} h1=>by
   apply Array.ext';rw[zc,Jn d h1];rfl
  split at h
  ·rename_i x ty hc h1 h2;have ht:c.argTypes=#[ty]:=by grind
   split at h
   ·rename_i e J hu;simp only[zG,zY]at h;obtain⟨rfl,rfl⟩:=h;obtain⟨p,n,cp,S⟩:=It (ρ:=ρ) (β:=β) J;simp only[resolve,hc,G h1,ht,zN,zP,zO,invoke,builtin,S,Kh,FD];simp[za,run_underlying hu,goInt]
   ·rename_i J hu;simp only[zG,zY]at h;obtain⟨rfl,rfl⟩:=h;obtain⟨s,S⟩:=Hb (ρ:=ρ) (β:=β) J;simp only[resolve,hc,G h1,ht,zN,zP,zO,invoke,builtin,S,T.ev,U.ev,Ba];simp[za,run_underlying hu,goInt]
   ·simp at h
  ·rename_i x ty hc h1 h2;have ht:c.argTypes=#[ty]:=by grind
   split at h
   ·rename_i e J hu;simp only[zG,zY]at h;obtain⟨rfl,rfl⟩:=h;obtain⟨p,n,cp,S⟩:=It (ρ:=ρ) (β:=β) J;simp only[resolve,hc,G h1,ht,zN,zP,zO,invoke,builtin,S,LN,asCap];simp[Builtin.cap_,run_underlying hu,goInt]
   ·simp at h
  ·simp at h
 |_=>simp[C6]at h
end
theorem lookup_mem:∀{l:List (Nat×T)}{s:Nat}{t:T},l.lookup s=some t->(s,t)∈l
 |(s',q)::l,s,t,h=>by
  rw[z7]at h;split at h;·rename_i e;simp only[beq_iff_eq]at e;subst e;simp only[zG]at h;subst h;exact yA
  ·exact yB _ (lookup_mem h)
theorem LR:∀{l:List (Nat×T×Nat)}{s:Nat}{t:T×Nat},l.lookup s=some t->(s,t)∈l
 |(s',q)::l,s,t,h=>by
  rw[z7]at h;split at h;·rename_i e;simp only[beq_iff_eq]at e;subst e;simp only[zG]at h;subst h;exact yA
  ·exact yB _ (LR h)
theorem Iu{st:St}{s:Nat}{t:T}(h:st.get s=some t):st.slots.lookup s=some t:=by
 grind[St.get]
theorem get_ne{st:St}{s:Nat}{t:T}(h:st.get s=some t):t≠.nil:=by
 grind[St.get]
theorem Km(st:St)(d s:Nat)(t:T):(st.put d t).get s=if s=d then(if t=.nil then none else some t)else st.get s:=by
 grind[St.get,St.put]
theorem wf_get{st:St}(h:st.wf=true){s:Nat}{t:T}(q:st.get s=some t):t.wf st.nv st.nb=true:=by
 simp only[St.wf,zC,yC]at h;exact h.1 _ (lookup_mem (Iu q))
theorem HS{st:St}(h:st.wf=true){i:Nat}{cs:T}{ty:Nat}(q:st.box i=some (cs,ty)):i<st.nb/\cs.wf st.nv st.nb=true:=by
 simp only[St.wf,zC,yC,decide_eq_true_eq]at h;exact h.2 _ (LR q)
section
variable{P:Program}{O V0:Mem}{w0:World}{N:Nat}{β:Nat->Nat}{st:St}{ρ:List Value}{V:Mem}{a:Act}{w:World}{tmps:Array Value}
theorem Rel.put(h:Rel O V0 w0 N β st ρ V tmps w){d:Nat}(J:d<N)(t:T):Rel O V0 w0 N β (st.put d t) ρ V (tmps.setIfInBounds d (t.ev ρ β)) w:=
 {nv:=h.nv
  size:=by simpa using h.size
  slots:=λs G q=>by
   rw[Km]at q;split at q
   ·rename_i e;subst e;split at q;·simp at q
    ·simp only[zG]at q;subst q;have:s<tmps.size:=by rw[h.size];exact J
     simp_all
   ·rename_i e;rw[<-h.slots s G q];by_cases hlt:s<tmps.size;·simp[Array.getD,hlt,show ¬d=s by omega]
    simp_all
  frm:=h.frm
  boxes:=h.boxes
  hid:=h.hid
  inj:=h.inj}
theorem Rel.putO(h:Rel O V0 w0 N β st ρ V a.tmps w){d:Option Nat}(q:Ei N d=true)(t:T){v:Value}(hv:v=t.ev ρ β):
  Rel O V0 w0 N β (st.putO d t) ρ V (a.put d v).tmps w:=by
 subst hv;cases d with
 |none=>exact h
 |some d=>exact h.put (by simpa [Ei]using q) t
theorem LS{l:List (Nat×T)}:∀{keep:List Nat}{s:Nat}{t:T},(Ih l keep).lookup s=some t->l.lookup s=some t
 |[],s,t,h=>by simp[Ih]at h
 |k::ks,s,t,h=>by
  simp only[Ih]at h;split at h
  ·rename_i q d;rw[z7]at h;split at h;·simp_all
   ·exact LS h
  ·exact LS h
theorem LU{d:Nat}:∀{l:List (Nat×T)}{s:Nat}{t:T},(l.filter (λx=>x.1 !=d)).lookup s=some t->l.lookup s=some t
 |[],s,t,h=>by simp at h
 |(k,x)::l,s,t,h=>by
  rw[z7];simp only[yD]at h;by_cases e:k=d
  ·subst e;simp only[bne_self_eq_false,zQ,if_false]at h;have hm:=lookup_mem h;have q:s≠k:=by simp_all
   have:(s==k)=false:=by simpa using q
   rw[this];exact LU h
  ·have J:(k !=d)=true:=by simpa using e
   simp only[J,if_true,z7]at h;split at h;·simp_all
   ·simp_all;exact LU h
theorem Rel.fewer(h:Rel O V0 w0 N β st ρ V tmps w)(l:List (Nat×T))(q:∀s t,l.lookup s=some t->st.slots.lookup s=some t):Rel O V0 w0 N β {st with slots:=l} ρ V tmps w:=
 {h with
  slots:=λs t d=>h.slots s t (by
   grind[St.get,absurd])
  boxes:=h.boxes
  hid:=h.hid
  inj:=h.inj}
theorem Rel.compact(h:Rel O V0 w0 N β st ρ V tmps w)(keep:List Nat):Rel O V0 w0 N β (st.compact keep) ρ V tmps w:=h.fewer _ λ_ _=>LS
theorem Rel.drop(h:Rel O V0 w0 N β st ρ V tmps w)(d:Nat):Rel O V0 w0 N β (st.drop d) ρ V tmps w:=h.fewer _ λ_ _=>LU
theorem Rel.now(h:Rel O V0 w0 N β st ρ V tmps w){d:Nat}{t J:T}(G:st.get d=some t)(Z:t.ev ρ β=J.ev ρ β):Rel O V0 w0 N β (st.now d J) ρ V tmps w:=
 {h.drop d with
  slots:=λs x q=>by
   unfold St.now at q;rw[Km]at q;split at q
   ·rename_i e;subst e;split at q;·simp at q
    ·simp only[zG]at q;subst q;rw[h.slots s t G,Z]
   ·exact(h.drop d).slots s x q}
theorem NO{ρ vs:List Value}{m:Nat}(h:m<ρ.length):ρ.getD m undef=(ρ++vs).getD m undef:=by
 grind
theorem Rel.bind(h:Rel O V0 w0 N β st ρ V tmps w)(hw:st.wf=true)(vs:List Value):Rel O V0 w0 N β (st.more vs.length) (ρ++vs) V tmps w:=by
 have q:∀t:T,t.wf st.nv st.nb=true->t.ev ρ β=t.ev (ρ++vs) β/\t.evs ρ β=t.evs (ρ++vs) β:=
  T.ev_congr (λm hm=>NO (by rw[h.nv];exact hm)) (λ_ _=>rfl)
 exact
 {nv:=by simp[St.more,h.nv]
  size:=h.size
  slots:=λs t d=>(h.slots s t d).trans (q t (wf_get hw d)).1
  frm:=h.frm
  boxes:=λi cs ty J=>by
   have:=h.boxes i cs ty J;rw[<-(q cs (HS hw J).2).2];exact this
  hid:=h.hid
  inj:=h.inj}
theorem Rel.frame(h:Rel O V0 w0 N β st ρ V tmps w){V':Mem}{w':World}(d:As V w V' w'):Rel O V0 w0 N β st ρ V' tmps w':=
 {nv:=h.nv
  size:=h.size
  slots:=h.slots
  frm:=h.frm.trans d
  boxes:=λi cs ty Z=>by
   obtain⟨h1,h2,h3,h4⟩:=h.boxes i cs ty Z;have q:β i<w.heap.size:=(yE.1 h1).1;refine⟨(d.old _ q h2).trans h1,?_,h3,h4⟩;cases J:V' (β i)with
   |none=>rfl
   |some o=>
    rcases d.dom (β i) (by simp[J])with G|G;·grind
    ·omega
  hid:=λb o Y=>by
   obtain⟨h1,h2,h3,h4⟩:=h.hid b o Y;have q:b<w.heap.size:=(yE.1 h1).1;refine⟨(d.old _ q h2).trans h1,?_,h3,h4⟩;cases J:V' b with
   |none=>rfl
   |some W=>
    rcases d.dom b (by simp[J])with G|G;·grind
    ·omega
  inj:=h.inj}
theorem NP(w:World)(o:Obj):(w.alloc o).heap[w.heap.size]?=some o:=by
 show(w.heap.push o)[w.heap.size]?=some o;simp
theorem Jq(w:World)(o:Obj){b:Nat}(h:b<w.heap.size):(w.alloc o).heap[b]?=w.heap[b]?:=by
 show(w.heap.push o)[b]?=w.heap[b]?;grind
theorem le_none{V:Mem}{w:World}(h:V.le w){b:Nat}(d:w.heap.size<=b):V b=none:=by
 cases q:V b with
 |none=>rfl
 |some o=>have:=h b o q;simp_all
theorem As.alloc{V:Mem}{w:World}(h:V.le w)(o:Obj):As V w V (w.alloc o):=
 ⟨by simp_all,λb d q=>by
   have:=h b d q;grind[Jq,yE],λb q _=>Jq w o q,λ_ h=>.inl h,rfl,rfl⟩
def upd(β:Nat->Nat)(i b:Nat):Nat->Nat:=λj=>if j=i then b else β j
theorem Rel.alloc(h:Rel O V0 w0 N β st ρ V tmps w)(hw:st.wf=true){cs:T}(R:cs.wf st.nv st.nb=true)(ty:Nat):
  Rel O V0 w0 N (upd β st.nb w.heap.size) {st with boxes:=(st.nb,cs,ty)::st.boxes,nb:=st.nb+1} ρ V tmps (w.alloc (.cells (cs.evs ρ β).toArray ty (0,0))):=by
 have Z:∀t:T,t.wf st.nv st.nb=true->t.ev ρ β=t.ev ρ (upd β st.nb w.heap.size)/\t.evs ρ β=t.evs ρ (upd β st.nb w.heap.size):=
  T.ev_congr (λ_ _=>rfl) (λi J=>by grind[upd])
 have q:∀(i:Nat)(x:T×Nat),St.box {st with boxes:=(st.nb,cs,ty)::st.boxes,nb:=st.nb+1} i=some x->(i=st.nb/\x=(cs,ty))∨(i≠st.nb/\st.box i=some x):=by
  grind[St.box,inr]
 have X:∀i,i≠st.nb->(st.box i).isSome=true->upd β st.nb w.heap.size i<w.heap.size:=by
  intro i J Q;obtain⟨x,Y⟩:=yF.1 Q;have:=(h.boxes i x.1 x.2 Y).1;grind[upd]
 exact
 {nv:=h.nv
  size:=h.size
  slots:=λs t Q=>(h.slots s t Q).trans (Z t (wf_get hw Q)).1
  frm:=h.frm.trans (As.alloc h.frm.le _)
  boxes:=λi A I J=>by
   rcases q i _ J with⟨rfl,e⟩|⟨G,d⟩
   ·cases e;refine⟨?_,?_,?_,Nat.lt_succ_self _⟩;·rw[<-(Z cs R).2];simp only[upd,if_true];exact NP w _
    ·simp only[upd,if_true];exact le_none h.frm.le (Nat.le_refl _)
    ·simp only[upd,if_true];exact h.frm.size
   ·obtain⟨h1,h2,h3,h4⟩:=h.boxes i A I d;grind[upd,HS,Jq,yE,Nat.lt_succ_of_lt]
  hid:=λb o D=>by
   obtain⟨h1,h2,h3,h4⟩:=h.hid b o D;have M:b<w.heap.size:=(yE.1 h1).1;refine⟨(Jq w _ M).trans h1,h2,h3,λi J=>?_⟩;obtain⟨x,Y⟩:=yF.1 J;rcases q i x Y with⟨rfl,_⟩|⟨G,d⟩;·grind[upd]
   grind[upd]
  inj:=λi j J E L=>by
   obtain⟨x,Y⟩:=yF.1 J;obtain⟨y,S⟩:=yF.1 E;rcases q i x Y with⟨rfl,_⟩|⟨G,d⟩<;>rcases q j y S with⟨rfl,_⟩|⟨W,F⟩
   ·rfl
   ·grind[upd]
   ·grind[upd]
   ·simp only[upd,if_neg G,if_neg W]at L;exact h.inj i j (by simp[d]) (by simp[F]) L}
theorem NQ(w:World)(g:Nat)(cs:Array Value):(w.setRow g cs).heap.size=w.heap.size:=by simp[World.setRow]
theorem setRow_other(w:World)(g:Nat)(cs:Array Value){b:Nat}(h:b≠g):(w.setRow g cs).heap[b]?=w.heap[b]?:=by
 grind[World.setRow,absurd]
theorem Rel.setBox(h:Rel O V0 w0 N β st ρ V tmps w){i:Nat}{cs d:T}{ty:Nat}(hi:st.box i=some (cs,ty)) :
    Rel O V0 w0 N β (st.setBox i d ty) ρ V tmps (w.setRow (β i) (d.evs ρ β).toArray):=by
  obtain⟨h1,h2,h3,h4⟩:=h.boxes i cs ty hi;have Z:∀(j:Nat)(x:T×Nat),(st.setBox i d ty).box j=some x->(j=i/\x=(d,ty))∨(j≠i/\st.box j=some x):=by
    grind[St.box,St.setBox,inr]
  have q:∀j,((st.setBox i d ty).box j).isSome=true->(st.box j).isSome=true:=by
    intro j J;obtain⟨x,X⟩:=yF.1 J;grind
  exact
  { nv:=h.nv
    size:=h.size
    slots:=h.slots
    frm:=⟨by grind [NQ],fun b o Y=>by
              have G:b≠β i:=by grind
              rw[setRow_other w _ _ G];exact h.frm.le b o Y,λb Y F=>by
              rw[setRow_other w _ _ (by omega)];exact h.frm.old b Y F,h.frm.dom,h.frm.os,h.frm.out⟩
    boxes:=λj W I J=>by
      rcases Z j _ J with⟨rfl,e⟩|⟨G,Q⟩
      · cases e;exact⟨setRow_heap w _ _ _ ty (0,0) h1,h2,h3,h4⟩
      · obtain⟨M,g2,g3,A⟩:=h.boxes j W I Q;have L:β j≠β i:=λe=>G (h.inj j i (by simp[Q]) (by simp[hi]) e);exact⟨(setRow_other w _ _ L).trans M,g2,g3,A⟩
    hid:=λb o Y=>by
      obtain⟨M,g2,g3,A⟩:=h.hid b o Y;exact⟨(setRow_other w _ _ (Ne.symm (A i (by simp[hi])))).trans M,g2,g3,λj J=>A j (q j J)⟩
    inj:=λj k J R=>h.inj j k (q j J) (q k R)}
theorem NR(f:T->T):∀(l:List (Nat×T))(s:Nat),(l.map (λx=>(x.1,f x.2))).lookup s=(l.lookup s).map f
 |[],s=>rfl
 |(s',t)::l,s=>by
  simp only[zH,z7];split;·rfl
  ·exact NR f l s
theorem NS(f:T->T):∀(l:List (Nat×T×Nat))(s:Nat),(l.map (λx=>(x.1,f x.2.1,x.2.2))).lookup s=(l.lookup s).map λy=>(f y.1,y.2)
 |[],s=>rfl
 |(s',t)::l,s=>by
  simp only[zH,z7];split;·rfl
  ·exact NS f l s
theorem LV(i:Nat):∀(l:List (Nat×T×Nat))(s:Nat),(l.filter (λx=>x.1 !=i)).lookup s=if s=i then none else l.lookup s
 |[],s=>by simp
 |(s',t)::l,s=>by
  simp only[yD];by_cases h:s'=i
  ·subst h;simp only[bne_self_eq_false,zQ,if_false,LV s' l s,z7];grind
  ·have q:(s' !=i)=true:=by simpa using h
   simp only[q,if_true,z7,LV i l s];grind
theorem Rel.pubd(h:Rel O V0 w0 N β st ρ V tmps w)(hw:st.wf=true){i:Nat}{cs:T}{ty:Nat}(hi:st.box i=some (cs,ty)):
  Rel O V0 w0 N β (st.pubd i) (ρ++[.pointer (some ⟨β i,0,none⟩)]) (V.set (β i) (.cells (cs.evs ρ β).toArray ty (0,0))) tmps w:=by
 obtain⟨h1,h2,h3,h4⟩:=h.boxes i cs ty hi;have E:(ρ++[zr (some ⟨β i,0,none⟩)]).getD st.nv undef=zr (some ⟨β i,0,none⟩):=by
  rw[<-h.nv];simp[List.getD]
 have J:∀t:T,t.wf st.nv st.nb=true->(t.subst i st.nv).ev (ρ++[.pointer (some ⟨β i,0,none⟩)]) β=t.ev ρ β/\(t.subst i st.nv).evs (ρ++[.pointer (some ⟨β i,0,none⟩)]) β=t.evs ρ β:=by
  intro t S;have e1:=T.ev_subst E t;have e2:=T.ev_congr (ρ:=ρ) (ρ':=ρ++[.pointer (some ⟨β i,0,none⟩)]) (β:=β) (β':=β) (λm hm=>NO (by rw[h.nv];exact hm)) (λ_ _=>rfl) t S;simp_all
 have G:∀(j:Nat)(x:T×Nat),(st.pubd i).box j=some x->j≠i/\∃y,st.box j=some y/\x=(y.1.subst i st.nv,y.2):=by
  intro j x Z;simp only[St.box,St.pubd,NS,LV]at Z;split at Z;·simp at Z
  ·rename_i e;simp only[zy]at Z;obtain⟨y,Y,rfl⟩:=Z;exact⟨e,y,Y,rfl⟩
 have q:∀j,((st.pubd i).box j).isSome=true->(st.box j).isSome=true:=by
  grind[yF]
 exact
 {nv:=by simp[St.pubd,h.nv]
  size:=h.size
  slots:=λs t R=>by
   have X:=Iu R;simp only[St.pubd,NR,zy]at X;obtain⟨A,ht',rfl⟩:=X;have D:st.get s=some A:=by
    unfold St.get;have W:A≠.nil:=λe=>get_ne R (by subst e;rfl);simp_all
   rw[(J A (wf_get hw D)).1];exact h.slots s A D
  frm:=
   {size:=h.frm.size
    le:=λb o d=>by
     by_cases e:b=β i;·grind[Mem.set_same]
     ·rw[Mem.set_ne e]at d;exact h.frm.le b o d
    old:=h.frm.old
    dom:=λb d=>by
     by_cases e:b=β i;·omega
     ·rw[Mem.set_ne e]at d;exact h.frm.dom b d
    os:=h.frm.os
    out:=h.frm.out}
  boxes:=λj cs' ty' Q=>by
   obtain⟨W,y,Y,e⟩:=G j _ Q;obtain⟨M,F,L,I⟩:=h.boxes j y.1 y.2 Y;cases e;have hn:β j≠β i:=λe=>W (h.inj j i (by simp[Y]) (by simp[hi]) e);rw[(J y.1 (HS hw Y).2).2];exact⟨M,by rw[Mem.set_ne hn];exact F,L,I⟩
  hid:=λb o d=>by
   obtain⟨M,F,L,I⟩:=h.hid b o d;exact⟨M,by rw[Mem.set_ne (Ne.symm (I i (by simp[hi])))];exact F,L,λj Q=>I j (q j Q)⟩
  inj:=λj k Q hk=>h.inj j k (q j Q) (q k hk)}
end
end Go.Sx
