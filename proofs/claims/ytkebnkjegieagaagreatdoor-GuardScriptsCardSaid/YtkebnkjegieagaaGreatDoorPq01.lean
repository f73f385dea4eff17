/- Part 1: no statement of the seat is proved here. -/
import Derived.Tactics
import Derived.Below
import Derived.Laws.Cells
import Derived.Laws.CopyRow
import Derived.Great.BuildSlice
import Derived.Maps.Own
import Derived.Orders
import Derived.Laws.Strings
import Derived.MapKept
set_option linter.unusedVariables false
set_option linter.unusedSimpArgs false
open ByteArray renaming empty->zA
open List renaming replicate->zB,range->zC,map_cons->zI,mem_cons->zJ,length_append->zK,length_singleton->zL,append_assoc->zM,cons_append->zN,nil_append->zO,getD->zQ,map_take->zT,map_drop->zU,mem_singleton->zZ,getElem?_take->zx,getElem?_drop->zw,length_cons->zg,ext_getElem?->zf,size_toArray->ze,lookup_cons->yH,mem_cons_self->yI,mem_cons_of_mem->yJ,all_eq_true->yK,filter_cons->yM,prefix_append->yP,replicate_succ'->yT,flatten_append->yU
open Bool renaming and_eq_true->zD,false_eq_true->zY,not_eq_true'->zo
open Option renaming or_eq_none_iff->zE,map_some->zR,bind_some->zS,isSome_none->zy,map_eq_some_iff->zn,map_none->yF,isSome_iff_exists->yO
open Go.Addr renaming add_zero'->zF,add->zG
open Option.some renaming injEq->zH
open List.cons renaming injEq->zP
open Go.Sem renaming run_bind->zV,run_pure->zX
open Go.Result renaming andThen_ok->zW
open Go.World renaming cell?->zz
open Go.ByteArray renaming toList_eq->zu
open Go.IntKind renaming signed->zt,bits->zr
open Prod.mk renaming injEq->zq
open Go.Op renaming intArith->zp,stringOp->zm,equal->zl,equalIn->zk
open Go.Value renaming pointer->zj,slice->zi,map->zh
open Go.Instr renaming build->zd,indexAt->zc,sliceAt->zb,slice->z6,sliceBounds->z7,sliceBound->z8,sureAddr->yC,storeAt->yS,buildSlice->yW
open Int renaming eq_ofNat_of_zero_le->za,natCast_inj->yB
open Go.Value.int renaming injEq->yA
open Array renaming ext'->yD,toList_map->yE,getD->yL,getElem?_eq_some_iff->yN,toArray_toList->yV
open Go.Builtin renaming len_->yG
open Go.Deferred renaming ofValue->yQ
open Go.Oper renaming wp->yR
open Go.Region renaming wanted->yX
namespace Go.Sx
abbrev _root_.Go.KB:=ByteArray
abbrev _root_.Go.XB:=List Code
abbrev _root_.Go.XN:=List KB
abbrev _root_.Go.XU:=Option Nat
abbrev _root_.Go.XW:=Array Oper
abbrev _root_.Go.XQ:=Array Value
abbrev _root_.Go.XA:=List Nat
abbrev _root_.Go.XZ:=List Int
abbrev _root_.Go.XI:=Option Addr
abbrev _root_.Go.XV:=List Value
open Go
abbrev Mem:=Nat->Option Obj
def Mem.le(V:Mem)(w:World):Prop:=∀b o,V b=some o->w.heap[b]?=some o
def Mem.set(V:Mem)(b:Nat)(o:Obj):Mem:=λc=>if c=b then some o else V c
theorem Mem.set_same(V:Mem)(b:Nat)(o:Obj):V.set b o b=some o:=by simp[Mem.set]
theorem Mem.set_ne{V:Mem}{b c:Nat}{o:Obj}(h:c≠b):V.set b o c=V c:=by simp[Mem.set,h]
def Mem.row(V:Mem)(a:Addr)(n:Nat):Option (XV):=
 match V a.block with
 |some (.cells c _ _)=>if a.spot.isNone/\a.off+n<=c.size then some ((c.toList.drop a.off).take n)else none
 |_=>none
def Mem.rowp(V:Mem)(p:XI)(off n:Nat):Option (XV):=
 match p with
 |some a=>V.row (a.add off) n
 |none=>none
inductive K where
 |i (k:IntKind)|b|s|sl|p|m|f|r
 deriving DecidableEq
def Ar:Value->Int|.int _ n=>n|_=>0
def asB:Value->Bool|.bool b=>b|_=>false
def A0:Value->KB|.string s=>s|_=>zA
def AP:Value->XI|.pointer a=>a|.slice a _ _=>a|_=>none
def EW:Value->Nat|.slice _ n _=>n|_=>0
def asCap:Value->Nat|.slice _ _ n=>n|_=>0
def GX:Value->XU|.map r=>r|_=>none
def Gl:Value->Bool
 |.agg _|.tuple _=>false
 |_=>true
def K.cast:K->Value->Value
 |.i k,v=>.int k (Ar v)
 |.b,v=>.bool (asB v)
 |.s,v=>.string (A0 v)
 |.sl,v=>.slice (AP v) (EW v) (asCap v)
 |.p,v=>.pointer (AP v)
 |.m,v=>.map (GX v)
 |.f,v=>match v with|.func g a c=>.func g a c|_=>.nilFunc
 |.r,v=>match v with|.agg _=>.nilIface|.tuple _=>.nilIface|v=>v
def K.ok(k:K)(v:Value):Prop:=k.cast v=v
def Shaped:List K->XV->Prop
 |[],[]=>True
 |k::ks,v::vs=>k.ok v/\Shaped ks vs
 |_,_=>False
inductive U where
 |not|len|cap|slen|poff (n:Nat)|conv (k:IntKind)|wconv (k:IntKind)|inr (k:IntKind)|pnil|slnil|mnil|slbase|neg (k:IntKind)|szero
 deriving DecidableEq
inductive B where
 |add (k:IntKind)|sub (k:IntKind)|mul (k:IntKind)|quo (k:IntKind)|rem (k:IntKind)
 |lt|le|eqi|eqb|eqs|lts|cat|sidx|padd (e sz:Nat)|and|or|imax (k:IntKind)|imin (k:IntKind)|idxok|sidxok|wadd (k:IntKind)|wsub (k:IntKind)|wmul (k:IntKind)
 |bits (o:BinOp) (k:IntKind)
 deriving DecidableEq
inductive C where
 |sel|slc|ssub|bnd|slp (sz:Nat)
 deriving DecidableEq
inductive T where
 |var (k:K) (n:Nat)
 |int (k:IntKind) (n:Int)
 |bool (b:Bool)
 |str (l:List UInt8)
 |und|nilp|nilsl|nilm|nilf|nili
 |box (i off:Nat)
 |glob (g:Nat)
 |fn (f:Nat) (caps:T)
 |u (o:U) (x:T)
 |b2 (o:B) (x y:T)
 |c3 (o:C) (x y z:T)
 |nil|cons (h t:T)
 |agg (cs:T)
 |tup (cs:T)
 deriving DecidableEq
abbrev _root_.Go.XJ:=List T
def Aa(p:XI)(n:Nat):XI:=p.map (·.add n)
def U.ev:U->Value->Value
 |.not,x=>.bool (!asB x)
 |.len,x=>.int .i64 (EW x)
 |.cap,x=>.int .i64 (asCap x)
 |.slen,x=>.int .i64 (A0 x).size
 |.poff n,x=>.pointer (Aa (AP x) n)
 |.conv k,x=>.int k (Ar x)
 |.wconv k,x=>.int k (k.wrap (Ar x))
 |.inr k,x=>.bool (decide (k.min<=Ar x/\Ar x<=k.max))
 |.pnil,x=>.bool (AP x).isNone
 |.slnil,x=>.bool (AP x).isNone
 |.mnil,x=>.bool (GX x).isNone
 |.slbase,x=>.pointer (AP x)
 |.neg k,x=>.int k (0-Ar x)
 |.szero,x=>.bool (decide (A0 x=zA))
def A7(s:KB)(i:Int):Int:=((s.data[i.toNat]?).map (λb=>(b.toNat:Int))).getD 0
def B.ev:B->Value->Value->Value
 |.add k,x,y=>.int k (Ar x+Ar y)
 |.sub k,x,y=>.int k (Ar x-Ar y)
 |.mul k,x,y=>.int k (Ar x*Ar y)
 |.wadd k,x,y=>.int k (k.wrap (Ar x+Ar y))
 |.wsub k,x,y=>.int k (k.wrap (Ar x-Ar y))
 |.wmul k,x,y=>.int k (k.wrap (Ar x*Ar y))
 |.quo k,x,y=>.int k (k.wrap ((Ar x).tdiv (Ar y)))
 |.rem k,x,y=>.int k ((Ar x).tmod (Ar y))
 |.lt,x,y=>.bool (decide (Ar x<Ar y))
 |.le,x,y=>.bool (decide (Ar x<=Ar y))
 |.eqi,x,y=>.bool (decide (Ar x=Ar y))
 |.eqb,x,y=>.bool (asB x==asB y)
 |.eqs,x,y=>.bool (decide (A0 x=A0 y))
 |.lts,x,y=>.bool (Op.bytesLess (A0 x).toList (A0 y).toList)
 |.cat,x,y=>.string (A0 x++A0 y)
 |.sidx,x,y=>.int .u8 (A7 (A0 x) (Ar y))
 |.padd _ sz,x,y=>.pointer (Aa (AP x) ((Ar y).toNat*sz))
 |.and,x,y=>.bool (asB x&&asB y)
 |.or,x,y=>.bool (asB x||asB y)
 |.imax k,x,y=>.int k (max (Ar x) (Ar y))
 |.imin k,x,y=>.int k (min (Ar x) (Ar y))
 |.idxok,x,y=>.bool (decide (0<=Ar y/\Ar y<(EW x:Int)))
 |.sidxok,x,y=>.bool (decide (0<=Ar y/\Ar y<((A0 x).size:Int)))
 |.bits o k,x,y=>.int k (Go.bits o k (Ar x) (Ar y))
def C.ev:C->Value->Value->Value->Value
 |.sel,c,x,y=>if asB c then x else y
 |.slc,p,l,c=>.slice (AP p) (Ar l).toNat (Ar c).toNat
 |.ssub,s,l,h=>.string ((A0 s).extract (Ar l).toNat (Ar h).toNat)
 |.slp sz,x,l,m=>.pointer (if Ar m=Ar l then AP x else Aa (AP x) ((Ar l).toNat*sz))
 |.bnd,l,h,m=>.bool (decide (0<=Ar l/\Ar l<=Ar h/\Ar h<=Ar m))
mutual
def T.ev(ρ:XV)(β:Nat->Nat):T->Value
 |.var k n=>k.cast (ρ.getD n undef)
 |.int k n=>.int k n
 |.bool b=>.bool b
 |.str l=>.string ⟨l.toArray⟩
 |.und=>undef
 |.nilp=>.pointer none
 |.nilsl=>.slice none 0 0
 |.nilm=>.map none
 |.nilf=>.nilFunc
 |.nili=>.nilIface
 |.box i off=>.pointer (some ⟨β i,off,none⟩)
 |.glob g=>.pointer (some ⟨g,0,none⟩)
 |.fn f caps=>.func (.func f) #[] (caps.evs ρ β).toArray
 |.u o x=>o.ev (x.ev ρ β)
 |.b2 o x y=>o.ev (x.ev ρ β) (y.ev ρ β)
 |.c3 o x y z=>o.ev (x.ev ρ β) (y.ev ρ β) (z.ev ρ β)
 |.nil=>undef
 |.cons _ _=>undef
 |.agg cs=>.agg (cs.evs ρ β).toArray
 |.tup cs=>.tuple (cs.evs ρ β).toArray
def T.evs(ρ:XV)(β:Nat->Nat):T->XV
 |.cons h t=>h.ev ρ β::t.evs ρ β
 |.nil=>[]
 |_=>[]
end
def T.kind:T->Option K
 |.var k _=>some k
 |.int k _=>some (.i k)
 |.bool _=>some .b
 |.str _=>some .s
 |.nilp=>some .p|.nilsl=>some .sl|.nilm=>some .m|.nilf=>some .f|.nili=>some .r
 |.box _ _|.glob _=>some .p
 |.fn _ _=>some .f
 |.u o _=>match o with
  |.not|.inr _|.pnil|.slnil|.mnil|.szero=>some .b
  |.len|.cap|.slen=>some (.i .i64)
  |.poff _|.slbase=>some .p
  |.conv k|.wconv k|.neg k=>some (.i k)
 |.b2 o _ _=>match o with
  |.add k|.sub k|.mul k|.quo k|.rem k|.imax k|.imin k|.wadd k|.wsub k|.wmul k|.bits _ k=>some (.i k)
  |.lt|.le|.eqi|.eqb|.eqs|.lts|.and|.or|.idxok|.sidxok=>some .b
  |.cat=>some .s
  |.sidx=>some (.i .u8)
  |.padd _ _=>some .p
 |.c3 o _ y z=>match o with
  |.sel=>match y.kind,z.kind with|some j,some k=>if j=k then some j else none|_,_=>none
  |.slc=>some .sl
  |.ssub=>some .s
  |.bnd=>some .b
  |.slp _=>some .p
 |_=>none
def T.wf(n b:Nat):T->Bool
 |.var _ m=>decide (m<n)
 |.box i _=>decide (i<b)
 |.fn _ caps=>caps.wf n b
 |.u _ x=>x.wf n b
 |.b2 _ x y=>x.wf n b&&y.wf n b
 |.c3 _ x y z=>x.wf n b&&y.wf n b&&z.wf n b
 |.cons h t=>h.wf n b&&t.wf n b
 |.agg cs=>cs.wf n b
 |.tup cs=>cs.wf n b
 |_=>true
def T.firstBox:T->XU
 |.box i _=>some i
 |.fn _ caps=>caps.firstBox
 |.u _ x=>x.firstBox
 |.b2 _ x y=>x.firstBox.or y.firstBox
 |.c3 _ x y z=>x.firstBox.or (y.firstBox.or z.firstBox)
 |.cons h t=>h.firstBox.or t.firstBox
 |.agg cs=>cs.firstBox
 |.tup cs=>cs.firstBox
 |_=>none
def T.poff:T->Nat->T
 |.box i o,n=>.box i (o+n)
 |.u (.poff m) q,n=>.u (.poff (m+n)) q
 |q,n=>.u (.poff n) q
def T.subst(i k:Nat):T->T
 |.box j o=>if j=i then .u (.poff o) (.var .p k)else .box j o
 |.fn f caps=>.fn f (caps.subst i k)
 |.u o x=>.u o (x.subst i k)
 |.b2 o x y=>.b2 o (x.subst i k) (y.subst i k)
 |.c3 o x y z=>.c3 o (x.subst i k) (y.subst i k) (z.subst i k)
 |.cons h t=>.cons (h.subst i k) (t.subst i k)
 |.agg cs=>.agg (cs.subst i k)
 |.tup cs=>.tup (cs.subst i k)
 |t=>t
inductive RK where
 |one (k:K)
 |agg (ks:List K)
 deriving DecidableEq
def RK.size:RK->Nat|.one _=>1|.agg ks=>ks.length
def RK.kinds:RK->List K|.one k=>[k]|.agg ks=>ks
def RK.val:RK->XV->Value
 |.one _,vs=>vs.headD undef
 |.agg _,vs=>.agg vs.toArray
def GY:List RK->XV->XV
 |[],_=>[]
 |r::rs,vs=>r.val (vs.take r.size)::GY rs (vs.drop r.size)
def El(rs:List RK)(vs:XV):Value:=
 match rs with
 |[r]=>r.val vs
 |rs=>.tuple (GY rs vs).toArray
inductive Tr where
 |bad (why:Nat) (at_:Nat)
 |ret (v:T)
 |br (c:T) (a b:Tr)
 |need (c:T) (k:Tr)
 |ld (base idx:T) (sz n:Nat) (ks:List K) (k:Tr)
 |st (p:T) (off:Nat) (cs:T) (k:Tr)
 |pub (cs:T) (ty:Nat) (k:Tr)
 |call (f:Nat) (args:T) (rs:List RK) (k:Tr)
 |callv (fv:T) (args:T) (rs:List RK) (k:Tr)
 |loop (init:T) (ks:List K) (body:Tr)
 |cont (lvl:Nat) (vals:T)
 |gen (o:Op) (ty:Nat) (ts:List (Nat×T)) (rs:List RK) (k:Tr)
 |gens (o:Op) (ty:Nat) (ts:List (Nat×T)) (k:Tr)
 |again (p:T) (cs:T) (k:Tr)
 |both (a b:Tr)
 |pan (v:T)
end Go.Sx
namespace Go.Sx
open Go
structure Ax (V:Mem)(w:World)(V':Mem)(w':World):Prop where
 size:w.heap.size<=w'.heap.size
 le:V'.le w'
 old:∀b,b<w.heap.size->V b=none->w'.heap[b]?=w.heap[b]?
 dom:∀b,V' b≠none->V b≠none∨w.heap.size<=b
 os:w'.os=w.os
 out:w'.output=w.output
theorem Ax.refl{V:Mem}{w:World}(h:V.le w):Ax V w V w:=
 ⟨Nat.le_refl _,h,λ_ _ _=>rfl,λ_ h=>.inl h,rfl,rfl⟩
theorem Ax.trans{V V' d:Mem}{w w' J:World}(h:Ax V w V' w')(k:Ax V' w' d J):Ax V w d J:=by
  refine⟨Nat.le_trans h.size k.size,k.le,λb G Y=>?_,λb G=>?_,k.os.trans h.os,k.out.trans h.out⟩
  · have Z:V' b=none:=by
      cases W:V' b with
      |none=>rfl
      | some o => rcases h.dom b (by simp[W]) with q|q
                  · exact absurd Y q
                  · omega
    exact(k.old b (Nat.lt_of_lt_of_le G h.size) Z).trans (h.old b G Y)
  · rcases k.dom b G with q|q;· exact h.dom b q
    · exact .inr (Nat.le_trans h.size q)
def Tri(P:Program)(f:FuncId)(args:XQ)(V:Mem)(R:Ending->Mem->Prop):Prop:=
 ∀w,V.le w->Calls P f args w λe w'=>∃V',R e V'/\Ax V w V' w'
theorem Tri.mono{P:Program}{f:FuncId}{args:XQ}{V:Mem}{R q:Ending->Mem->Prop}(h:Tri P f args V R)
  (d:∀e V',R e V'->q e V'):Tri P f args V q:=λw hw cs=>
 let⟨e,w',fr,⟨V',J,G⟩,rest⟩:=h w hw cs
 ⟨e,w',fr,⟨V',d _ _ J,G⟩,rest⟩
def gv(l:List (Nat×Value)):Operand->Value
 |.tmp t=>(l.lookup t).getD undef
 |.const v=>v
 |.global g=>.pointer (some ⟨g,0,none⟩)
 |.func f=>.func (.func f) #[] #[]
def gval(ts:List (Nat×T))(ρ:XV):Operand->Value:=gv (ts.map λx=>(x.1,x.2.ev ρ id))
def D(P:Program)(R:Ending->Mem->Prop):Tr->List (XV->Mem->Prop)->XV->Mem->Prop
 |.bad _ _,_,_,_=>False
 |.ret v,_,ρ,V=>R (.returned (v.ev ρ id)) V
 |.br c a b,L,ρ,V=>(asB (c.ev ρ id)=true->D P R a L ρ V)/\(asB (c.ev ρ id)=false->D P R b L ρ V)
 |.need c k,L,ρ,V=>asB (c.ev ρ id)=true/\D P R k L ρ V
 |.ld base idx sz n ks k,L,ρ,V=>∃vs,V.rowp (AP (base.ev ρ id)) ((Ar (idx.ev ρ id)).toNat*sz) n=some vs/\Shaped ks vs/\D P R k L (ρ++vs) V
 |.st p off cs k,L,ρ,V=>∃a c ty,AP (p.ev ρ id)=some a/\V a.block=some (.cells c ty (0,0))/\a.spot=none/\a.off+off+(cs.evs ρ id).length<=c.size/\
   D P R k L ρ (V.set a.block (.cells (c.toList.take (a.off+off)++cs.evs ρ id++c.toList.drop (a.off+off+(cs.evs ρ id).length)).toArray ty (0,0)))
 |.pub cs ty k,L,ρ,V=>∀b,V b=none->D P R k L (ρ++[.pointer (some ⟨b,0,none⟩)]) (V.set b (.cells (cs.evs ρ id).toArray ty (0,0)))
 |.call f args rs k,L,ρ,V=>Tri P f (args.evs ρ id).toArray V λe V'=>(∃vs,e=.returned (El rs vs)/\Shaped (rs.flatMap RK.kinds) vs/\D P R k L (ρ++vs) V')∨∃d,e=.panicked d/\R e V'
 |.callv fv args rs k,L,ρ,V=>∃f first caps,fv.ev ρ id=.func (.func f) first caps/\(∀args w,(callFunc f args).run P w=.ok (.enter f args) w)/\
   Tri P f (first++(args.evs ρ id).toArray++caps) V λe V'=>(∃vs,e=.returned (El rs vs)/\Shaped (rs.flatMap RK.kinds) vs/\D P R k L (ρ++vs) V')∨∃d,e=.panicked d/\R e V'
 |.loop init ks body,L,ρ,V=>∃(I:XV->Mem->Prop)(G:XV->Mem->Nat),I (init.evs ρ id) V/\
   ∀xs V',Shaped ks xs->I xs V'->D P R body (L++[λZ q=>I Z q/\G Z q<G xs V']) (ρ++xs) V'
 |.cont lvl vals,L,ρ,V=>∃J,L[lvl]?=some J/\J (vals.evs ρ id) V
 |.gen o ty ts rs k,L,ρ,V=>∀w,V.le w->∃x w' V' vs,(execOp (gval ts ρ) { dst:=none,op:=o,type:=ty,pos:= "",after:=#[],guard:=none}).run P w=.ok (.value x) w'/\
   Ax V w V' w'/\x=El rs vs/\Shaped (rs.flatMap RK.kinds) vs/\D P R k L (ρ++vs) V'
 |.again p cs k,L,ρ,V=>V.rowp (AP (p.ev ρ id)) 0 (cs.evs ρ id).length=some (cs.evs ρ id)/\D P R k L ρ V
 |.both a b,L,ρ,V=>D P R a L ρ V/\D P R b L ρ V
 |.pan v,_,ρ,V=>∃t x,v.ev ρ id=.iface t x/\R (.panicked [{v:=.iface t x,recovered:=false}]) V
 |.gens o ty ts k,L,ρ,V=>∀w,V.le w->∃w' V',(execOp (gval ts ρ) { dst:=none,op:=o,type:=ty,pos:= "",after:=#[],guard:=none}).run P w=.ok .skip w'/\
   Ax V w V' w'/\D P R k L ρ V'
structure St where
 slots:List (Nat×T)
 boxes:List (Nat×T×Nat)
 nv:Nat
 nb:Nat
 depth:Nat
def St.put(st:St)(d:Nat)(t:T):St:={st with slots:=(d,t)::st.slots}
def St.putO(st:St)(d:XU)(t:T):St:=match d with|some d=>st.put d t|none=>st
def St.get(st:St)(s:Nat):Option T:=match st.slots.lookup s with|some .nil=>none|x=>x
def St.box(st:St)(i:Nat):Option (T×Nat):=st.boxes.lookup i
def St.setBox(st:St)(i:Nat)(cs:T)(ty:Nat):St:={st with boxes:=(i,cs,ty)::st.boxes}
def St.wf(st:St):Bool:=st.slots.all (λx=>x.2.wf st.nv st.nb)&&st.boxes.all (λx=>decide (x.1<st.nb)&&x.2.1.wf st.nv st.nb)
def T.ofList:XJ->T
 |[]=>.nil
 |t::ts=>.cons t (T.ofList ts)
def T.toList:T->XJ
 |.cons h t=>h::t.toList
 |_=>[]
def vars(ks:List K)(n:Nat):XJ:=
 match ks with
 |[]=>[]
 |k::ks=>.var k n::vars ks (n+1)
def EF:Value->Option T
 |.int k n=>some (.int k n)
 |.bool b=>some (.bool b)
 |.string s=>some (.str s.data.toList)
 |.pointer none=>some .nilp
 |.slice none 0 0=>some .nilsl
 |.map none=>some .nilm
 |.nilFunc=>some .nilf
 |.nilIface=>some .nili
 |.func (.func f) a c=>if a.isEmpty&&c.isEmpty then some (.fn f .nil)else none
 |_=>none
def GZ:XV->Option (XJ)
 |[]=>some []
 |v::vs=>match EF v,GZ vs with|some t,some ts=>some (t::ts)|_,_=>none
def valT:Value->Option T
 |.agg cs=>(GZ cs.toList).map λts=>.agg (T.ofList ts)
 |.tuple cs=>if cs.isEmpty then some .und else none
 |v=>EF v
def kindV:Value->Option K
 |.int k _=>some (.i k)
 |.bool _=>some .b
 |.string _=>some .s
 |.pointer _=>some .p
 |.slice ..=>some .sl
 |.map _=>some .m
 |.nilFunc=>some .f
 |.func ..=>some .f
 |.nilIface=>some .r
 |.iface ..=>some .r
 |_=>none
def kindsV:XV->Option (List K)
 |[]=>some []
 |v::vs=>match kindV v,kindsV vs with|some k,some ks=>some (k::ks)|_,_=>none
def Bq(st:St):Operand->Option T
 |.tmp t=>st.get t
 |.const v=>valT v
 |.global g=>some (.glob g)
 |.func f=>some (.fn f .nil)
def opTs(st:St):List Operand->Option (XJ)
 |[]=>some []
 |o::os=>match Bq st o,opTs st os with|some t,some ts=>some (t::ts)|_,_=>none
def T.cellsT:T->T
 |.agg cs=>cs
 |t=>.cons t .nil
def FU:T->Bool
 |.agg _=>true
 |_=>false
section
variable(P:Program)
def isAggB(t:TypeId):Option Bool:=(P.underlying t).map λd=>match d with|.struct _|.array _ _=>true|_=>false
def EG(t:TypeId):Option Value:=(P.info? t).bind (·.zero)
def CC(t:TypeId):XU:=(P.info? t).map (·.size)
def EX(t:TypeId):Option (XJ):=(EG P t).bind λv=>GZ v.cells.toList
def kindsOf(t:TypeId):Option (List K):=(EG P t).bind λv=>kindsV v.cells.toList
def rk(t:TypeId):Option RK:=
 match isAggB P t,kindsOf P t with
 |some true,some ks=>some (.agg ks)
 |some false,some [k]=>some (.one k)
 |_,_=>none
def rkList:List TypeId->Option (List RK)
 |[]=>some []
 |t::ts=>match rk P t,rkList ts with|some r,some rs=>some (r::rs)|_,_=>none
def rkOf(t:TypeId):Option (List RK):=
 match P.underlying t with
 |some (.tuple ts)=>if ts.size=1 then none else rkList P ts.toList
 |some _=>(rk P t).map ([·])
 |none=>none
end
def EY:List RK->Nat->XJ
 |[],_=>[]
 |.one k::rs,n=>.var k n::EY rs (n+1)
 |.agg ks::rs,n=>.agg (T.ofList (vars ks n))::EY rs (n+ks.length)
def Hz(rs:List RK)(n:Nat):T:=
 match EY rs n with
 |[t]=>t
 |ts=>.tup (T.ofList ts)
def G4(rs:List RK):Nat:=(rs.flatMap RK.kinds).length
def nn(x:T):XJ:=
 match x with
 |.box _ _=>[]
 |.glob _=>[]
 |x=>[.u .not (.u .pnil x)]
def D9(x:T):T:=
 match x with
 |.c3 .slc p _ _=>p
 |x=>.u .slbase x
def slLen(x:T):T:=
 match x with
 |.c3 .slc _ (.int _ n) _=>if 0<=n then .int .i64 n else .u .len x
 |.nilsl=>.int .i64 0
 |x=>.u .len x
def EZ(x:T):T:=
 match x with
 |.c3 .slc _ _ (.int _ n)=>if 0<=n then .int .i64 n else .u .cap x
 |.nilsl=>.int .i64 0
 |x=>.u .cap x
def paddT(e sz:Nat)(p i:T):T:=
 match p,i with
 |.box b o,.int _ n=>if 0<=n then .box b (o+n.toNat*sz)else .b2 (.padd e sz) p i
 |p,i=>.b2 (.padd e sz) p i
def notT(x:T):T:=
 match x with
 |.bool b=>.bool (!b)
 |x=>.u .not x
def inr(k:IntKind)(x:T):XJ:=[.u (.inr k) x]
def cmpI(op:BinOp)(x y:T):Option T:=
 match op with
 |.eql=>some (match x,y with|.int _ a,.int _ b=>.bool (decide (a=b))|x,y=>.b2 .eqi x y)
 |.neq=>some (match x,y with|.int _ a,.int _ b=>.bool (!decide (a=b))|x,y=>.u .not (.b2 .eqi x y))
 |.lss=>some (match x,y with|.int _ a,.int _ b=>.bool (decide (a<b))|x,y=>.b2 .lt x y)
 |.leq=>some (match x,y with|.int _ a,.int _ b=>.bool (decide (a<=b))|x,y=>.b2 .le x y)
 |.gtr=>some (match x,y with|.int _ a,.int _ b=>.bool (decide (b<a))|x,y=>.b2 .lt y x)
 |.geq=>some (match x,y with|.int _ a,.int _ b=>.bool (decide (b<=a))|x,y=>.b2 .le y x)
 |_=>none
def wrapM:IntKind->T->Bool
 |.u64,_|.u32,_|_,.u .len _=>true
 |_,_=>false
def binI(op:BinOp)(k:IntKind)(x y:T):Option (XJ×T):=
 match op with
 |.add=>some (inr k (.b2 (.add k) x y),.b2 (.add k) x y)
 |.sub=>some (inr k (.b2 (.sub k) x y),.b2 (.sub k) x y)
 |.mul=>if wrapM k x=true then some ([],.b2 (.wmul k) x y)else some (inr k (.b2 (.mul k) x y),.b2 (.mul k) x y)
 |.quo=>some ([.u .not (.b2 .eqi y (.int k 0))],.b2 (.quo k) x y)
 |.rem=>some ([.u .not (.b2 .eqi y (.int k 0))],.b2 (.rem k) x y)
 |.and|.or|.xor|.andNot=>some ([],.b2 (.bits op k) x y)
 |op=>(cmpI op x y).map ([],·)
def binS(op:BinOp)(x y:T):Option (XJ×T):=
 match op with
 |.add=>some (inr .i64 (.b2 (.add .i64) (.u .slen x) (.u .slen y)),.b2 .cat x y)
 |.eql=>some ([],.b2 .eqs x y)
 |.neq=>some ([],.u .not (.b2 .eqs x y))
 |.lss=>some ([],.b2 .lts x y)
 |.geq=>some ([],.u .not (.b2 .lts x y))
 |.leq=>some ([],.b2 .or (.b2 .lts x y) (.b2 .eqs x y))
 |.gtr=>some ([],.u .not (.b2 .or (.b2 .lts x y) (.b2 .eqs x y)))
 |_=>none
def eqOr(op:BinOp)(t:T):Option (XJ×T):=
 match op with
 |.eql=>some ([],t)
 |.neq=>some ([],notT t)
 |_=>none
def eqNil(op:BinOp)(n:T)(f:U)(x y:T):Option (XJ×T):=
 if x=n then eqOr op (.u f y)else if y=n then eqOr op (.u f x)else none
def binOpT(P:Program)(op:BinOp)(q:TypeId)(x y:T):Option (XJ×T):=
 match op with
 |.shl=>
  match x.kind,y with
  |some (.i k),.int _ c=>if 0<=c/\c<=k.bits then some ([],.b2 (.wmul k) x (.int k (2^c.toNat)))else none
  |_,_=>none
 |.shr=>none
 |op=>
  match x.kind,y.kind with
  |some (.i k),some (.i d)=>if k=d then binI op k x y else none
  |some .s,some .s=>binS op x y
  |some .b,some .b=>match P.underlying q with|some .bool=>eqOr op (.b2 .eqb x y)|_=>none
  |some .p,some .p=>match P.underlying q with|some (.pointer _)=>eqNil op .nilp .pnil x y|_=>none
  |some .sl,some .sl=>match P.underlying q with|some (.slice _)=>eqNil op .nilsl .slnil x y|_=>none
  |some .m,some .m=>match P.underlying q with|some (.map _ _)=>eqNil op .nilm .mnil x y|_=>none
  |_,_=>none
def Di:T->Option (List K)
 |.nil=>some []
 |.cons h t=>match h.kind,Di t with|some k,some ks=>some (k::ks)|_,_=>none
 |_=>none
def FV(q:Nat->Option (Nat×Nat))(cells:XJ):List (Nat×T)->Option (XJ)
 |[]=>some cells
 |(i,t)::rest=>
  match q i with
  |none=>none
  |some (off,size)=>
   let ts:=t.cellsT.toList
   if ts.length=size/\off+size<=cells.length/\(Di t.cellsT).isSome then FV q (cells.take off++ts++cells.drop (off+size)) rest else none
def partsT(st:St):List (Nat×Operand)->Option (List (Nat×T))
 |[]=>some []
 |(i,x)::rest=>match Bq st x,partsT st rest with|some t,some ts=>some ((i,t)::ts)|_,_=>none
def Jl(P:Program)(fs:Array Field):Nat->Option (Nat×Nat):=λi=>(fs[i]?).bind λf=>(CC P f.type).map λs=>(f.offset,s)
def takeT(t:T)(off n:Nat):XJ:=(t.toList.drop off).take n
def DA(P:Program)(t:TypeId)(cs:T)(off:Nat):Option T:=
 match isAggB P t,CC P t with
 |some true,some n=>let l:=takeT cs off n;if l.length=n then some (.agg (T.ofList l))else none
 |some false,some _=>cs.toList[off]?
 |_,_=>none
def eqFs(g:TypeId->T->T->Option T)(P:Program)(cs ds:T):List Field->Option T
 |[]=>some (.bool true)
 |f::fs=>
  if f.name= "_" then none else
  match DA P f.type cs f.offset,DA P f.type ds f.offset with
  |some x,some y=>
   match g f.type x y with
   |some a=>if fs.isEmpty then some a else(eqFs g P cs ds fs).map (.b2 .and a)
   |none=>none
  |_,_=>none
def Ip(P:Program):Nat->TypeId->T->T->Option T
 |0,_,_,_=>none
 |d+1,t,x,y=>
  match P.underlying t,x.kind,y.kind with
  |some (.int _),some (.i k),some (.i q)=>if k=q then some (.b2 .eqi x y)else none
  |some .string,some .s,some .s=>some (.b2 .eqs x y)
  |some .bool,some .b,some .b=>some (.b2 .eqb x y)
  |some (.struct fs),none,none=>
   match x,y with
   |.agg cs,.agg ds=>if P.stoodInHeld t=false then eqFs (Ip P d) P cs ds fs.toList else none
   |_,_=>none
  |_,_,_=>none
def eqAgg(P:Program)(op:BinOp)(q:TypeId)(x y:T):Option (XJ×T):=
 match x,y with
 |.agg _,.agg _=>if P.eqGuardType P.depth q=false then(Ip P 5 q x y).bind (eqOr op)else none
 |_,_=>none
def CI(P:Program)(st:St):Op->Option (XJ×T)
 |.move x|.assign x=>(Bq st x).map ([],·)
 |.pick c a b=>
  match Bq st c,Bq st a,Bq st b with
  |some (.bool v),some x,some y=>some ([],if v then x else y)
  |_,_,_=>none
 |.load t a=>
  match Bq st a with
  |some (.box i o)=>(st.box i).bind λx=>(DA P t x.1 o).map ([],·)
  |_=>none
 |.fieldAddr s x f=>
  match P.underlying s,Bq st x with
  |some (.struct fs),some p=>
   (fs[f]?).bind λd=>match CC P d.type with
    |some (_+1)=>if p.kind=some .p then some (nn p,p.poff d.offset)else none
    |_=>none
  |_,_=>none
 |.indexAddr t x i=>
  match P.underlying t,Bq st x,Bq st i with
  |some (.slice e),some s,some j=>
   match s.kind,j.kind,CC P e with
   |some .sl,some (.i _),some sz=>some (nn (D9 s)++[.b2 .le (.int .i64 0) j,.b2 .lt j (slLen s)],paddT e sz (D9 s) j)
   |_,_,_=>none
  |some (.array len e),some p,some (.int _ k)=>
   match CC P e with
   |some sz=>if p.kind=some .p/\0<=k/\k<(len:Int)then some (nn p,p.poff (k.toNat*sz))else none
   |none=>none
  |_,_,_=>none
 |.index t x i=>
  match P.underlying t,Bq st x,Bq st i with
  |some .string,some s,some j=>
   match s.kind,j.kind with
   |some .s,some (.i _)=>some ([.b2 .sidxok s j],.b2 .sidx s j)
   |_,_=>none
  |_,_,_=>none
 |.binOp op J x y _=>
  match Bq st x,Bq st y with
  |some a,some b=>(binOpT P op J a b).or (eqAgg P op J a b)
  |_,_=>none
 |.unOp op _ x=>
  match op,Bq st x with
  |.not,some t=>if t.kind=some .b then some ([],notT t)else none
  |.neg,some t=>match t.kind with|some (.i k)=>some (inr k (.u (.neg k) t),.u (.neg k) t)|_=>none
  |_,_=>none
 |.convert G dst x=>
  match P.underlying G,P.underlying dst,Bq st x with
  |some (.int _),some (.int k),some t=>
   match t.kind with
   |some (.i j)=>if j=k then some (inr k t,t)else if k=.u8 then some ([],.u (.wconv .u8) t)else some (inr k t,.u (.conv k) t)
   |_=>none
  |some .string,some .string,some t=>if t.kind=some .s then some ([],t)else none
  |_,_,_=>none
 |.build t parts=>
  match P.underlying t,EX P t,partsT st parts.toList with
  |some (.struct fs),some z,some ps=>if fs.toList.all (λf=>(CC P f.type).isSome)then(FV (Jl P fs) z ps).map λcs=>([],.agg (T.ofList cs))else none
  |some (.array _ e),some z,some ps=>
   match CC P e with
   |some sz=>(FV (λi=>some (i*sz,sz)) z ps).map λcs=>([],.agg (T.ofList cs))
   |none=>none
  |_,_,_=>none
 |.field J x f=>
  match P.underlying J,Bq st x with
  |some (.struct fs),some (.agg cs)=>(fs[f]?).bind λd=>(DA P d.type cs d.offset).map ([],·)
  |_,_=>none
 |.extract x i=>
  match Bq st x with
  |some (.tup cs)=>(cs.toList[i]?).map ([],·)
  |_=>none
 |.makeFunc fn first q=>
  match fn,opTs st q.toList with
  |.func f,some ts=>if first.isEmpty then some ([],.fn f (T.ofList ts))else none
  |_,_=>none
 |.nilCheck x=>
  match Bq st x with
  |some (.fn f cs)=>some ([],.fn f cs)
  |some p=>if p.kind=some .p then some (nn p,p)else none
  |none=>none
 |.slice t x Z Y W=>
  match P.underlying t,Bq st x,W with
  |some .string,some s,none=>
   match s.kind,(match Z with|some l=>Bq st l|none=>some (.int .i64 0)),(match Y with|some h=>Bq st h|none=>some (.u .slen s))with
   |some .s,some l,some h=>match l.kind,h.kind with
    |some (.i _),some (.i _)=>some ([.c3 .bnd l h (.u .slen s)],.c3 .ssub s l h)
    |_,_=>none
   |_,_,_=>none
  |some (.slice e),some s,none=>
   match s.kind,CC P e,(match Z with|some l=>Bq st l|none=>some (.int .i64 0)),(match Y with|some h=>Bq st h|none=>some (slLen s))with
   |some .sl,some sz,some l,some h=>match l.kind,h.kind with
    |some (.i _),some (.i _)=>some ([.c3 .bnd l h (EZ s)],.c3 .slc (.c3 (.slp sz) (D9 s) l (EZ s)) (.b2 (.sub .i64) h l) (.b2 (.sub .i64) (EZ s) l))
    |_,_=>none
   |_,_,_,_=>none
  |_,_,_=>none
 |.call c=>
  match c.callee,opTs st c.args.toList,c.argTypes.toList with
  |.builtin .len,some [x],[t]=>
   match x.kind,P.underlying t with
   |some .sl,some (.slice _)=>some ([],slLen x)
   |some .s,some .string=>some ([],.u .slen x)
   |_,_=>none
  |.builtin .cap,some [x],[t]=>
   match x.kind,P.underlying t with
   |some .sl,some (.slice _)=>some ([],EZ x)
   |_,_=>none
  |_,_,_=>none
 |_=>none
inductive Ex where
 |normal|exit (id:Nat)|ret
 deriving DecidableEq
structure Cj where
 early:XA:=[]
 loops:List (Nat×XA):=[]
 keep:XA:=[]
 N:Nat
def DI(N:Nat)(d:XU):Bool:=match d with|some d=>decide (d<N)|none=>true
def HA(l:List (Nat×T)):XA->List (Nat×T)
 |[]=>[]
 |s::q=>match l.lookup s with|some t=>(s,t)::HA l q|none=>HA l q
def St.compact(st:St)(keep:XA):St:={st with slots:=HA st.slots keep}
def St.drop(st:St)(d:Nat):St:={st with slots:=st.slots.filter (λx=>x.1 !=d)}
def St.now(st:St)(d:Nat)(t:T):St:=(st.drop d).put d t
def St.pubd(st:St)(i:Nat):St:=
  { st with slots:=st.slots.map (fun x=>(x.1,x.2.subst i st.nv)),
            boxes:=(st.boxes.filter (λx=>x.1 !=i)).map (λx=>(x.1,x.2.1.subst i st.nv,x.2.2)),
            nv:=st.nv+1}
def HC:Nat->St->Nat->(St->Tr)->Tr
 |0,_,i,_=>.bad 1 i
 |n+1,st,i,k=>
  match st.box i with
  |none=>.bad 2 i
  |some (cs,ty)=>
   match cs.firstBox with
   |some j=>HC n st j λst=>HC n st i k
   |none=>if st.wf then .pub cs ty (k (st.pubd i))else .bad 3 i
def pubT:Nat->St->(St->Option T)->(St->T->Tr)->Tr
 |0,_,_,_=>.bad 4 0
 |n+1,st,get,k=>
  match get st with
  |none=>.bad 5 0
  |some t=>
   match t.firstBox with
   |none=>k st t
   |some i=>HC (st.nb+1) st i λst=>pubT n st get k
def St.more(st:St)(n:Nat):St:={st with nv:=st.nv+n}
def bind(st:St)(n:Nat)(k:St->Tr):Tr:=if st.wf then k (st.more n)else .bad 6 0
def needs:XJ->Tr->Tr
 |[],k=>k
 |n::ns,k=>if n.firstBox=none/\n.kind=some .b then .need n (needs ns k)else .bad 7 0
section
variable(P:Program)(fs:XA)(H:Cj)
def HD(st:St)(dst:XU)(cs:T)(ty:Nat)(v:Nat->T)(k:St->Tr):Tr:=
 if st.wf&&cs.wf st.nv st.nb then
  let q:St:=({st with boxes:=(st.nb,cs,ty)::st.boxes,nb:=st.nb+1}).putO dst (v st.nb)
  match dst with
  |some d=>if H.early.contains d then HC (st.nb+2) q st.nb k else k q
  |none=>k q
 else .bad 8 0
def Fo(l:List Operand):XA:=l.filterMap λ|.tmp t=>some t|_=>none
def E0(st:St):XA->Option T
 |[]=>some .nil
 |t::ts=>match st.get t,E0 st ts with|some x,some xs=>some (.cons x xs)|_,_=>none
def exCall(st:St)(o:Oper)(c:Call)(f:Operand)(k:St->Tr):Tr:=
 match rkOf P o.type with
 |none=>.bad 10 0
 |some rs=>
  match Bq st f with
  |some (.fn _ _)=>
   pubT (st.nb+2) st (λst=>match Bq st f,opTs st c.args.toList with|some (.fn g caps),some ts=>some (.fn g (T.ofList (ts++caps.toList)))|_,_=>none) λst t=>
    match t with
    |.fn g args=>if fs.contains g then bind st (G4 rs) λq=>.call g args rs (k (q.putO o.dst (Hz rs st.nv)))else .bad 11 g
    |_=>.bad 12 0
  |some _=>
   pubT (st.nb+2) st (λst=>match Bq st f,opTs st c.args.toList with|some t,some ts=>some (.cons t (T.ofList ts))|_,_=>none) λst t=>
    match t with
    |.cons fv args=>bind st (G4 rs) λq=>.callv fv args rs (k (q.putO o.dst (Hz rs st.nv)))
    |_=>.bad 13 0
  |none=>.bad 14 0
def isSkip:Op->Bool
 |.mapUpdate ..|.insert ..=>true
 |_=>false
def Fp:Op->Bool
 |.select _ _=>true
 |_=>false
def exGen(st:St)(o:Oper)(k:St->Tr):Tr:=
 let l:=Fo o.op.operands.toList
 if Fp o.op then .bad 60 0 else
 if isSkip o.op then
  pubT (st.nb+2) st (λst=>E0 st l) λst t=>.gens o.op o.type (l.zip t.toList) (k (st.putO o.dst .und))
 else
 match rkOf P o.type with
 |none=>.bad 15 0
 |some rs=>pubT (st.nb+2) st (λst=>E0 st l) λst t=>
   bind st (G4 rs) λq=>.gen o.op o.type (l.zip t.toList) rs (k (q.putO o.dst (Hz rs st.nv)))
def exPanic(st:St)(x:Operand):Tr:=pubT (st.nb+2) st (λst=>Bq st x) λ_ t=>.pan t
def G5:T->T×T×Nat×Nat×XU
 |.u (.poff off) (.b2 (.padd e sz) b i)=>(b,i,sz,off,some e)
 |.b2 (.padd e sz) b i=>(b,i,sz,0,some e)
 |.u (.poff off) q=>(q,.int .i64 off,1,0,none)
 |q=>(q,.int .i64 0,1,0,none)
def HF(st:St)(dst:XU)(t:TypeId)(a:Operand)(k:St->Tr):Tr:=
 pubT (st.nb+2) st (λst=>Bq st a) λst p=>
  if p.kind=some .p then
  match G5 p with
  |(b,i,sz,off,some e)=>
   match kindsOf P e with
   |some ks=>if ks.length=sz then bind st sz λq=>
     match DA P t (T.ofList (vars ks st.nv)) off with
     |some x=>.ld b i sz sz ks (k (q.putO dst x))
     |none=>.bad 16 0 else .bad 17 0
   |none=>.bad 18 0
  |(b,i,sz,_,none)=>
   match kindsOf P t with
   |some ks=>bind st ks.length λq=>
     match DA P t (T.ofList (vars ks st.nv)) 0 with
     |some x=>.ld b i sz ks.length ks (k (q.putO dst x))
     |none=>.bad 19 0
   |none=>.bad 20 0
  else .bad 61 0
def exStore(st:St)(d:TypeId)(size:XU)(a x:Operand)(k:St->Tr):Tr:=
 match Bq st a,Bq st x,size with
 |some (.box i o),some v,some n=>
  match st.box i with
  |some (cs,ty)=>
   if v.cellsT.toList.length=n/\o+n<=cs.toList.length/\(Di v.cellsT).isSome/\0<n then
    k (st.setBox i (T.ofList (cs.toList.take o++v.cellsT.toList++cs.toList.drop (o+n))) ty)
   else .bad 21 i
  |none=>.bad 22 i
 |some _,some _,some n=>
  pubT (st.nb+2) st (λst=>match Bq st a,Bq st x with|some p,some v=>some (.cons p v.cellsT)|_,_=>none) λst q=>
   match q with
   |.cons p cs=>if p.kind=some .p/\cs.toList.length=n/\(Di cs).isSome/\0<n then .st p 0 cs (k st)else .bad 23 0
   |_=>.bad 24 0
 |_,_,_=>.bad 25 0
def exOp(st:St)(o:Oper)(k:St->Tr):Tr:=
 if DI H.N o.dst then
  match CI P st o.op with
  |some (ns,t)=>needs ns (k (st.putO o.dst t))
  |none=>
   match o.op with
   |.box e x=>match Bq st x with
    |some v=>if(Di v.cellsT).isSome then HD H st o.dst v.cellsT e (λi=>.box i 0) k else .bad 26 0
    |none=>.bad 27 0
   |.alloc e=>match EX P e with
    |some cs=>HD H st o.dst (T.ofList cs) e (λi=>.box i 0) k
    |none=>.bad 28 0
   |.buildSlice t n parts=>
    match P.underlying t with
    |some (.slice e)=>
     match CC P e,EX P e,partsT st parts.toList with
     |some (sz+1),some z,some ps=>
      match FV (λi=>some (i*(sz+1),sz+1)) (zB n z).flatten ps with
      |some cs=>if n*(sz+1)<=4096/\z.length=sz+1 then HD H st o.dst (T.ofList cs) e (λi=>.c3 .slc (.box i 0) (.int .i64 n) (.int .i64 n)) k else .bad 29 0
      |none=>.bad 30 0
     |_,_,_=>.bad 31 0
    |_=>.bad 32 0
   |.load t a=>HF P st o.dst t a k
   |.store t a x=>match o.dst with|none=>exStore st t (CC P t) a x k|some _=>.bad 33 0
   |.call c=>match c.callee with
    |.value f=>exCall P fs st o c f k
    |.builtin _=>exGen P st o k
    |.invoke _ _=>.bad 34 0
   |.panic x=>exPanic st x
   |_=>exGen P st o k
 else .bad 35 0
def FW(all:XW):List Oper->St->(St->Tr)->Tr
 |[],st,k=>k (st.compact H.keep)
 |o::rest,st,k=>
  match o.guard with
  |none=>exOp P fs H st o λst=>FW all rest st k
  |some (j,q)=>
   match(all[j]?).bind (·.dst)with
   |none=>.bad 36 j
   |some d=>
    let J (st:St):=exOp P fs H st o λst=>FW all rest st k;let G (st:St):=if DI H.N o.dst then FW all rest (st.putO o.dst .und) k else .bad 35 0
    match st.get d with
    |some (.bool v)=>if v=q then J st else G st
    |some .und=>G st
    |some c=>if c.kind=some .b/\c.firstBox=none/\d<H.N then .br c (if q then J (st.now d (.bool true))else G (st.now d (.bool true))) (if q then G (st.now d (.bool false))else J (st.now d (.bool false)))else .bad 37 d
    |none=>.bad 38 d
def mapLens:XA:=[132]
def floatOp:Op->Bool
 |.move _|.pick ..|.fieldAddr ..|.indexAddr ..|.index ..|.binOp ..|.unOp ..|.build ..|.field ..|.extract ..|.makeFunc ..|.nilCheck _|.slice ..|.load ..=>true
 |.call {callee:=.builtin .len,argTypes,..}=>!(argTypes.toList.any mapLens.contains)
 |.call {callee:=.builtin .cap,..}=>true
 |_=>false
def isGuard(all:XW)(i:Nat):Bool:=all.any λo=>match o.guard with|some (j,_)=>j==i|none=>false
def CJ(all:XW)(i:Nat):Bool:=
 match all[i]? with
 |some o=>floatOp o.op&&!isGuard all i&&o.dst.isSome
 |none=>false
def Du(all:XW)(i:Nat):Bool:=
 match all[i]? with
 |some o=>(match o.op with|.alloc _=>true|_=>false)&&o.guard.isNone&&!isGuard all i&&o.dst.isSome
 |none=>false
def Cb:List Oper->XA->XA
 |[],acc=>acc
 |o::os,acc=>Cb os (acc++[o.after.toList.foldl (λs e=>if Region.binds .any e then s|||(1<<<e.on)|||acc.getD e.on 0 else s) 0])
def CD(ms:XA)(i:Nat):Nat:=ms.getD i 0
def HG(all:XW)(ms:XA):Nat->Nat->XA
 |0,_=>[]
 |n+1,done=>
  let q:=(zC all.size).filter λi=>!done.testBit i&&((CD ms i) &&& done==CD ms i)
  match q.find? (CJ all)with
  |some i=>i::HG all ms n (done|||(1<<<i))
  |none=>match q.filter (λi=>!Du all i)++q with
   |i::_=>i::HG all ms n (done|||(1<<<i))
   |[]=>[]
def HH:XA->Bool
 |[]=>true
 |x::xs=>!xs.contains x&&HH xs
def Fq(all:XW)(ms:XA):XA->Bool
 |[]=>true
 |i::rest=>(CJ all i||rest.all λj=>(CD ms j).testBit i||Du all j||(!CJ all j&&rest.all λq=>!(CD ms j).testBit q)||rest.any λq=>(CD ms j).testBit q&&!Du all q)&&(rest.all λj=>!(CD ms i).testBit j)&&Fq all ms rest
def altsOf(all:XW)(ms:XA)(i:Nat)(rest:XA):XA:=
 if CJ all i then[]else rest.filter λj=>!(CD ms j).testBit i&&!Du all j&&!CJ all j&&rest.all λq=>!(CD ms j).testBit q
def doneBut(n:Nat)(l:XA)(j:Nat):Nat:=(zC n).foldl (λs x=>if x=j||!l.contains x then s|||(1<<<x)else s) 0
def Iq(l m:XA):Bool:=decide (l.length=m.length)&&HH l&&l.all m.contains
def forks(f:Nat->Tr)(t:Tr):XA->Tr
 |[]=>t
 |j::q=>.both (f j) (forks f t q)
def drawOk(P:Program)(all:XW)(ms:XA)(order:XA):Bool:=
 (all.toList.zipIdx.all λx=>x.1.after.all λe=>!Region.binds .any e||decide (e.on<x.2)) &&
 order.length==all.size&&HH order&&order.all (λi=>decide (i<all.size)) &&
 HH (all.toList.filterMap (·.dst)) &&
 (all.toList.all λo=>!Fp o.op) &&
 (all.toList.zipIdx.all λx=>(x.1.looksAt all).all λt=>(zC all.size).all λp=>!((CJ all p||Du all p)&&decide (((all[p]?).bind (·.dst))=some t))||((CD ms x.2).testBit p&&decide (p≠x.2))) &&
 Fq all ms order &&
 (all.toList.all λo=>match o.op with|.alloc e=>(EX P e).isSome|_=>true)
def G6(all:XW):List (Nat×Bool)->St->Tr->Tr
 |[],_,t=>t
 |(_,false)::fl,st,t=>G6 all fl st t
 |(j,true)::fl,st,t=>
  match all[j]? with
  |none=>.bad 70 j
  |some o=>
   match CI P st o.op,o.dst.bind st.get with
   |some (ns,x),some y=>if x=y then needs ns (G6 all fl st t)else .bad 71 j
   |none,some y=>
    match o.op with
    |.load ty a=>
     match Bq st a,CC P ty,isAggB P ty with
     |some p,some n,some q=>if p.kind=some .p/\p.firstBox=none/\y.firstBox=none/\y.cellsT.toList.length=n/\0<n/\(Di y.cellsT).isSome/\FU y=q then .again p y.cellsT (G6 all fl st t)else .bad 72 j
     |_,_,_=>.bad 73 j
    |_=>.bad 74 j
   |_,none=>.bad 75 j
def G7(all:XW)(fl:List (Nat×Bool))(dst:XU):Bool:=
 fl.all λx=>match all[x.1]?,dst with
  |some y,some d=>!(y.looksAt all).contains d
  |some _,none=>true
  |none,_=>false
def guardD(all:XW)(o:Oper)(st:St)(J G:St->Tr):Tr:=
 match o.guard with
 |none=>J st
 |some (j,q)=>
  match(all[j]?).bind (·.dst)with
  |none=>.bad 80 j
  |some d=>
   match st.get d with
   |some (.bool v)=>if v=q then J st else G st
   |some .und=>G st
   |some c=>if c.kind=some .b/\c.firstBox=none/\!CJ all j then .br c (if q then J (st.now d (.bool true))else G (st.now d (.bool true))) (if q then G (st.now d (.bool false))else J (st.now d (.bool false)))else .bad 81 d
   |none=>.bad 82 d
def FX(ms:XA)(i:Nat)(fl:List (Nat×Bool)):List (Nat×Bool):=fl.filter (λx=>!(CD ms i).testBit x.1)
def Ir(all:XW)(ms:XA)(i:Nat)(o:Oper)(fl:List (Nat×Bool))(next:List (Nat×Bool)->St->Tr)(st:St):Tr:=
 if CJ all i then
  if DI H.N o.dst&&G7 all fl o.dst then
   match CI P st o.op with
   |some (ns,t)=>needs ns (next ((i,true)::fl) (st.putO o.dst t))
   |none=>match o.op with
    |.load t a=>HF P st o.dst t a (next ((i,true)::fl))
    |_=>.bad 77 i
  else .bad 78 i
 else if Du all i then
  if G7 all fl o.dst then exOp P fs H st o (next fl)else .bad 83 i
 else
  if G7 all (FX ms i fl) o.dst then
   exOp P fs H st o λst=>G6 P all (FX ms i fl) st (next (FX ms i fl) st)
  else .bad 84 i
def drawNo(all:XW)(ms:XA)(i:Nat)(o:Oper)(fl:List (Nat×Bool))(next:List (Nat×Bool)->St->Tr)(st:St):Tr:=
 if DI H.N o.dst&&G7 all fl o.dst then
  next (if CJ all i then(i,false)::fl else FX ms i fl) (st.putO o.dst .und)
 else .bad 79 i
def DU(all:XW)(ms:XA):Bool->Nat->XA->List (Nat×Bool)->St->(St->Tr)->Tr
 |_,_,[],_,st,k=>k (st.compact H.keep)
 |_,0,_::_,_,_,_=>.bad 85 0
 |c,n+1,i::rest,fl,st,k=>
  match all[i]? with
  |none=>.bad 76 i
  |some o=>
   forks (λj=>
     let l:=j::HG all ms rest.length (doneBut all.size (i::rest) j)
     if Iq l (i::rest)&&Fq all ms l then DU all ms false n l fl st k else .bad 86 j)
    (guardD all o st (Ir P fs H all ms i o fl λfl st=>DU all ms true n rest fl st k) (drawNo H all ms i o fl λfl st=>DU all ms true n rest fl st k))
    (if c then altsOf all ms i rest else[])
def Is(all:XW)(st:St)(k:St->Tr):Tr:=
 let ms:=Cb all.toList [];let order:=HG all ms all.size 0
 if drawOk P all ms order&&all.toList.all (λo=>DI H.N o.dst)then DU P fs H all ms true (2*all.size+1) order [] st k else .bad 9 all.size
def Gn:Code->XA
 |.region _ q _=>q.toList.filterMap (·.dst)
 |.seq a b=>Gn a++Gn b
 |.cond _ a b=>Gn a++Gn b
 |.block _ b|.loop b|.scope b=>Gn b
 |_=>[]
def Gp:Code->XU
 |.region i _ _=>some i
 |.seq a b=>(Gp a).or (Gp b)
 |.cond _ a b=>(Gp a).or (Gp b)
 |.block _ b|.loop b|.scope b=>Gp b
 |_=>none
def dedup:XA->XA
 |[]=>[]
 |x::xs=>if xs.contains x then dedup xs else x::dedup xs
def genTerm(b:Bool)(ks:List K)(n:Nat):T:=if b then .agg (T.ofList (vars ks n))else(vars ks n).headD .und
def genKinds(t:T):Option (List K):=if FU t then Di t.cellsT else t.kind.map λk=>[k]
def Cn:XA->St->St×List (Nat×Bool×List K)
 |[],st=>(st,[])
 |s::q,st=>
  match(st.get s).bind λt=>(genKinds t).map λks=>(FU t,ks)with
  |some (b,ks)=>let r:=Cn q ({st with nv:=st.nv+ks.length}.put s (genTerm b ks st.nv));(r.1,(s,b,ks)::r.2)
  |none=>match st.get s with|some _=>Cn q (st.put s .nil)|none=>Cn q st
def HI:XA->St->Option (St×List (Nat×Nat×List K))
 |[],st=>some (st,[])
 |s::q,st=>
  match st.get s with
  |some (.box i _)=>
   match st.box i with
   |some (cs,ty)=>
    match Di cs with
    |some ks=>(HI q ({st with nv:=st.nv+ks.length}.setBox i (T.ofList (vars ks st.nv)) ty)).map λr=>(r.1,(i,ty,ks)::r.2)
    |none=>none
   |none=>none
  |_=>none
def HJ(st:St):List (Nat×Bool×List K)->Option (XJ)
 |[]=>some []
 |(s,b,ks)::g=>
  match st.get s,HJ st g with
  |some t,some ts=>if FU t=b/\Di t.cellsT=some ks then some (t.cellsT.toList++ts)else none
  |_,_=>none
def HK(st:St):List (Nat×Nat×List K)->Option (XJ)
 |[]=>some []
 |(i,ty,ks)::g=>
  match st.box i,HK st g with
  |some (cs,q),some ts=>if q=ty/\Di cs=some ks then some (cs.toList++ts)else none
  |_,_=>none
def It(st:St)(bs:List (Nat×Nat×List K))(q:List (Nat×Bool×List K)):Option T:=
 match HK st bs,HJ st q with
 |some l,some m=>let t:=T.ofList (l++m);if t.firstBox=none then some t else none
 |_,_=>none
def backOk(h st:St)(bs:List (Nat×Nat×List K))(q:XA):Bool:=
 (h.slots.all λx=>q.contains x.1||decide (st.get x.1=h.get x.1)) &&
 (h.boxes.all λx=>(bs.map (·.1)).contains x.1||decide (st.box x.1=h.box x.1))
def getSome(st:St):XA->XJ
 |[]=>[]
 |s::q=>match st.get s with|some t=>t::getSome st q|none=>getSome st q
def exLoop(body:St->(Ex->St->Tr)->Tr)(d:XA)(hint:XA)(st:St)(k:Ex->St->Tr):Tr:=
 pubT (st.nb+2) st (λst=>some (T.ofList (getSome st d))) λst _=>
 if st.wf then
  match HI hint st with
  |none=>.bad 40 0
  |some (J,bs)=>
   let r:=Cn d J;let h:St:={r.1 with depth:=st.depth+1}
   match It st bs r.2 with
   |none=>.bad 41 0
   |some init=>
    if backOk h st bs d then
     .loop init (bs.flatMap (·.2.2)++r.2.flatMap (·.2.2)) (body h λe q=>
      match e with
      |.normal=>
       match It q bs r.2 with
       |some vs=>if backOk h q bs d then .cont st.depth vs else .bad 42 0
       |none=>.bad 43 0
      |e=>k e q)
    else .bad 44 0
 else .bad 45 0
def ex:Code->St->(Ex->St->Tr)->Tr
 |.skip,st,k=>k .normal st
 |.ret,st,k=>k .ret st
 |.exit id,st,k=>k (.exit id) st
 |.seq a b,st,k=>ex a st λe st=>match e with|.normal=>ex b st k|e=>k e st
 |.block id b,st,k=>ex b st λe st=>match e with|.exit j=>if j=id then k .normal st else k (.exit j) st|e=>k e st
 |.cond c a b,st,k=>
  match Bq st c with
  |some (.bool v)=>if v then ex a st k else ex b st k
  |some t=>
   if t.kind=some .b/\t.firstBox=none then
    match c with
    |.tmp d=>.br t (ex a (st.now d (.bool true)) k) (ex b (st.now d (.bool false)) k)
    |_=>.br t (ex a st k) (ex b st k)
   else .bad 46 0
  |none=>.bad 47 0
 |.loop b,st,k=>
  exLoop (λst k=>ex b st k) (dedup (Gn b)) (((Gp b).bind λi=>H.loops.lookup i).getD []) st k
 |.region _ q J,st,k=>if J then Is P fs H q st (k .normal)else FW P fs H q q.toList st (k .normal)
 |.rangeFunc _ _ _ _,_,_=>.bad 48 0
 |.scope _,_,_=>.bad 49 0
 |.label _,_,_=>.bad 50 0
 |.goto _,_,_=>.bad 51 0
 |.refuse _,_,_=>.bad 52 0
def resT(st:St):List ResultVar->Option (XJ)
 |[]=>some []
 |.tmp t::rs=>match st.get t,resT st rs with|some x,some xs=>some (x::xs)|_,_=>none
 |.cell a t::rs=>
  match st.get a,resT st rs with
  |some (.box i o),some xs=>(st.box i).bind λx=>(DA P t x.1 o).map (·::xs)
  |_,_=>none
def Jm(st:St)(rs:List ResultVar):Option T:=
 match resT P st rs with
 |some [t]=>some t
 |some ts=>some (.tup (T.ofList ts))
 |none=>none
def G8(fn:Func)(ps:XJ)(nv:Nat):Tr:=
 match fn.body with
 |none=>.bad 53 0
 |some c=>
  if ps.length<=fn.ntmps/\H.N=fn.ntmps/\(T.ofList ps).wf nv 0 then
   ex P fs H c {slots:=(zC ps.length).zip ps,boxes:=[],nv:=nv,nb:=0,depth:=0} λe st=>
    match e with
    |.exit j=>.bad 54 j
    |_=>pubT (st.nb+2) st (λst=>Jm P st fn.results.toList) λ_ t=>.ret t
  else .bad 55 0
def keepOps:List Oper->XA->XA
 |[],_=>[]
 |o::os,q=>(Fo o.op.operands.toList).filter (λt=>!q.contains t)++keepOps os (match o.dst with|some d=>d::q|none=>q)
def keepC:Code->XA
 |.region _ q _=>keepOps q.toList []
 |.seq a b=>keepC a++keepC b
 |.cond c a b=>Fo [c]++keepC a++keepC b
 |.block _ b|.loop b|.scope b=>keepC b
 |.rangeFunc f _ a b=>Fo [f]++keepC a++keepC b
 |_=>[]
def insN(x:Nat):XA->XA
 |[]=>[x]
 |y::q=>if x=y then y::q else if x<y then x::y::q else y::insN x q
def keepF(fn:Func):XA:=((match fn.body with|some c=>keepC c|none=>[])++fn.results.toList.map (λ|.tmp t=>t|.cell a _=>a)).foldr insN []
def hintF(fn:Func)(early:XA)(loops:List (Nat×XA)):Cj:={N:=fn.ntmps,early,loops,keep:=keepF fn}
def HM(fn:Func):XJ:=
 let rs:=(rkList P fn.params.toList).getD []
 EY rs 0++(zC fn.nfree).map λj=>.var .p (G4 rs+j)
end
theorem T.ev_congr{n b:Nat}{ρ ρ':XV}{β β':Nat->Nat}(G:∀m,m<n->ρ.getD m undef=ρ'.getD m undef)(Z:∀i,i<b->β i=β' i):
  ∀t:T,t.wf n b=true->t.ev ρ β=t.ev ρ' β'/\t.evs ρ β=t.evs ρ' β':=by
 intro t;induction t with
 |var k m=>intro h;simp only[T.wf,decide_eq_true_eq]at h;exact⟨by grind[T.ev],rfl⟩
 |box i o=>intro h;simp only[T.wf,decide_eq_true_eq]at h;exact⟨by grind[T.ev],rfl⟩
 |fn f c q=>intro h;exact⟨by simp only[T.ev,(q h).2],rfl⟩
 |u o x q=>intro h;exact⟨by simp only[T.ev,(q h).1],rfl⟩
 |b2 o x y d J=>intro h;simp only[T.wf,zD]at h;exact⟨by grind[T.ev],rfl⟩
 |c3 o x y z d J Y=>intro h;simp only[T.wf,zD]at h;exact⟨by grind[T.ev],rfl⟩
 |cons x y d J=>intro h;simp only[T.wf,zD]at h;exact⟨rfl,by grind[T.evs]⟩
 |agg c q=>intro h;exact⟨by simp only[T.ev,(q h).2],rfl⟩
 |tup c q=>intro h;exact⟨by simp only[T.ev,(q h).2],rfl⟩
 |_=>intro _;exact⟨rfl,rfl⟩
theorem T.ev_free{ρ:XV}{β β':Nat->Nat}:∀t:T,t.firstBox=none->t.ev ρ β=t.ev ρ β'/\t.evs ρ β=t.evs ρ β':=by
 intro t;induction t with
 |box i o=>grind[T.firstBox]
 |fn f c q=>intro h;exact⟨by simp only[T.ev,(q h).2],rfl⟩
 |u o x q=>intro h;exact⟨by simp only[T.ev,(q h).1],rfl⟩
 |b2 o x y d J=>
  intro h;simp only[T.firstBox,zE]at h;exact⟨by grind[T.ev],rfl⟩
 |c3 o x y z d J G=>
  intro h;simp only[T.firstBox,zE]at h;exact⟨by grind[T.ev],rfl⟩
 |cons x y d J=>
  intro h;simp only[T.firstBox,zE]at h;exact⟨rfl,by grind[T.evs]⟩
 |agg c q=>intro h;exact⟨by simp only[T.ev,(q h).2],rfl⟩
 |tup c q=>intro h;exact⟨by simp only[T.ev,(q h).2],rfl⟩
 |_=>intro _;exact⟨rfl,rfl⟩
theorem zF(a:Addr):a.add 0=a:=by simp[zG]
theorem Iu(b o n:Nat):(⟨b,o,none⟩:Addr).add n=⟨b,o+n,none⟩:=by
 grind[zG]
theorem Mx(a:Addr)(m n:Nat):(a.add m).add n=a.add (m+n):=by
 grind[zG]
theorem Iw(p:XI)(m n:Nat):Aa (Aa p m) n=Aa p (m+n):=by
 cases p<;>simp[Aa,Mx]
theorem T.ev_subst{ρ:XV}{β:Nat->Nat}{i k:Nat}(h:ρ.getD k undef=.pointer (some ⟨β i,0,none⟩)):
  ∀t:T,(t.subst i k).ev ρ β=t.ev ρ β/\(t.subst i k).evs ρ β=t.evs ρ β:=by
 intro t;induction t with
 |box j o=>
  unfold T.subst;by_cases G:j=i
  .subst G;rw[if_pos rfl];refine⟨?_,rfl⟩;grind[T.ev,U.ev,K.cast,AP,Aa,Iu]
  .simp[G]
 |fn f c q=>exact⟨by simp only[T.subst,T.ev,q.2],rfl⟩
 |u o x q=>exact⟨by simp only[T.subst,T.ev,q.1],rfl⟩
 |b2 o x y d J=>exact⟨by grind[T.subst,T.ev],rfl⟩
 |c3 o x y z d J Z=>exact⟨by grind[T.subst,T.ev],rfl⟩
 |cons x y d J=>exact⟨rfl,by grind[T.subst,T.evs]⟩
 |agg c q=>exact⟨by simp only[T.subst,T.ev,q.2],rfl⟩
 |tup c q=>exact⟨by simp only[T.subst,T.ev,q.2],rfl⟩
 |_=>exact⟨rfl,rfl⟩
theorem K.cast_cast(k:K)(v:Value):k.cast (k.cast v)=k.cast v:=by
 cases k<;>first|rfl|(cases v<;>rfl)
theorem K.cast_one(k:K)(v:Value):Gl (k.cast v)=true:=by
 cases k<;>first|rfl|(simp only[K.cast];split<;>first|rfl|grind[Gl])
theorem K.ok_one{k:K}{v:Value}(h:k.ok v):Gl v=true:=by
 rw[<-h];exact K.cast_one k v
theorem oneCell_eq(v:Value):v.oneCell'=Gl v:=by cases v<;>rfl
theorem T.kind_ok{ρ:XV}{β:Nat->Nat}:∀(t:T)(k:K),t.kind=some k->k.ok (t.ev ρ β):=by
 intro t;induction t with
 |var j m=>intro k h;simp only[T.kind,zH]at h;subst h;exact K.cast_cast _ _
 |u o x G=>intro k h;cases o<;>simp only[T.kind,zH]at h<;>subst h<;>rfl
 |b2 o x y _ _=>intro k h;cases o<;>simp only[T.kind,zH]at h<;>subst h<;>rfl
 |c3 o x y z q d J=>
  intro k h;cases o with
  |sel=>
   grind[T.kind,T.ev,C.ev]
  |_=>simp only[T.kind,zH]at h;subst h;rfl
 |nil=>grind[T.kind]
 |cons _ _ _ _=>grind[T.kind]
 |agg _ _=>grind[T.kind]
 |tup _ _=>grind[T.kind]
 |und=>grind[T.kind]
 |_=>intro k h;simp only[T.kind,zH]at h;subst h;rfl
theorem CK(ρ:XV)(β:Nat->Nat):∀l:XJ,(T.ofList l).evs ρ β=l.map (·.ev ρ β)
 |[]=>rfl
 |t::ts=>by simp only[T.ofList,T.evs,CK ρ β ts,zI]
theorem Dv(ρ:XV)(β:Nat->Nat):∀t:T,t.evs ρ β=t.toList.map (·.ev ρ β):=by
 intro t;induction t with
 |cons h t _ q=>grind[T.evs,T.toList]
 |_=>rfl
theorem wf_ofList(n b:Nat):∀l:XJ,(T.ofList l).wf n b=l.all (·.wf n b)
 |[]=>rfl
 |t::ts=>by simp only[T.ofList,T.wf,List.all_cons,wf_ofList n b ts]
theorem My{ρ:XV}{β:Nat->Nat}:∀(t:T)(ks:List K),Di t=some ks->Shaped ks (t.evs ρ β):=by
 intro t;induction t with
 |nil=>intro ks h;simp only[Di,zH]at h;subst h;trivial
 |cons x y _ q=>
  intro ks h;simp only[Di]at h;split at h
  .rename_i k J G d;simp only[zH]at h;subst h;exact⟨T.kind_ok x k G,q _ d⟩
  .simp at h
 |_=>intro ks h;simp[Di]at h
theorem Shaped.one:∀{ks:List K}{vs:XV},Shaped ks vs->∀v∈vs,Gl v=true
 |[],[],_,v,hv=>by cases hv
 |k::ks,x::vs,h,v,hv=>by
  rcases zJ.1 hv with rfl|hv;.exact K.ok_one h.1
  .exact Shaped.one h.2 v hv
theorem Shaped.length:∀{ks:List K}{vs:XV},Shaped ks vs->vs.length=ks.length
 |[],[],_=>rfl
 |k::ks,x::vs,h=>by simp[Shaped.length h.2]
 |[],_::_,h=>h.elim
 |_::_,[],h=>h.elim
theorem Jn:∀{ks ls:List K}{vs q:XV},Shaped ks vs->Shaped ls q->Shaped (ks++ls) (vs++q)
 |[],_,[],_,_,h=>h
 |_::_,_,_::_,_,h,d=>⟨h.1,Jn h.2 d⟩
theorem Mz:∀{ks ls:List K}{vs:XV},Shaped (ks++ls) vs->Shaped ks (vs.take ks.length)/\Shaped ls (vs.drop ks.length)
 |[],_,_,h=>⟨trivial,h⟩
 |k::ks,ls,v::vs,h=>by
  have:=Mz (ks:=ks) h.2;exact⟨⟨h.1,this.1⟩,this.2⟩
 |_::_,_,[],h=>h.elim
theorem HN{β:Nat->Nat}:∀(ks:List K)(vs ρ σ:XV),Shaped ks vs->(vars ks ρ.length).map (·.ev (ρ++vs++σ) β)=vs
 |[],[],_,_,_=>rfl
 |k::ks,v::vs,ρ,σ,h=>by
  have q:=HN (β:=β) ks vs (ρ++[v]) σ h.2;simp only[zK,zL,zM,zN,zO]at q;simp only[vars,zI,zM,zN,T.ev,q,zP,and_true];have:(ρ++v::(vs++σ)).getD ρ.length undef=v:=by simp[zQ]
  rw[this];exact h.1
structure Rel (O V0:Mem)(w0:World)(N:Nat)(β:Nat->Nat)(st:St)(ρ:XV)(V:Mem)(tmps:XQ)(w:World):Prop where
 nv:ρ.length=st.nv
 size:tmps.size=N
 slots:∀s t,st.get s=some t->tmps.getD s undef=t.ev ρ β
 frm:Ax V0 w0 V w
 boxes:∀i cs ty,st.box i=some (cs,ty)->w.heap[β i]?=some (.cells (cs.evs ρ β).toArray ty (0,0))/\V (β i)=none/\w0.heap.size<=β i/\i<st.nb
 hid:∀b o,O b=some o->w.heap[b]?=some o/\V b=none/\w0.heap.size<=b/\∀i,(st.box i).isSome=true->β i≠b
 inj:∀i j,(st.box i).isSome=true->(st.box j).isSome=true->β i=β j->i=j
section
variable{P:Program}{O V0:Mem}{w0:World}{N:Nat}{β:Nat->Nat}{st:St}{ρ:XV}{V:Mem}{a:Act}{w:World}
theorem scalT_ev{v:Value}{t:T}(h:EF v=some t):t.ev ρ β=v:=by
 cases v with
 |string s=>simp only[EF,zH]at h;subst h;simp[T.ev]
 |pointer p=>cases p<;>simp[EF]at h;subst h;rfl
 |slice p n c=>
  cases p with
  |none=>
   cases n with
   |zero=>cases c with
    |zero=>simp[EF]at h;subst h;rfl
    |succ=>simp[EF]at h
   |succ=>simp[EF]at h
  |some=>simp[EF]at h
 |map r=>cases r<;>simp[EF]at h;subst h;rfl
 |func g x c=>
  cases g<;>simp[EF]at h;obtain⟨⟨rfl,rfl⟩,rfl⟩:=h;rfl
 |_=>simp[EF]at h<;>(subst h;rfl)
theorem Iy:∀{vs:XV}{ts:XJ},GZ vs=some ts->ts.map (·.ev ρ β)=vs
 |[],ts,h=>by grind[GZ]
 |v::vs,ts,h=>by
  simp only[GZ]at h;split at h
  .rename_i t q d J;simp only[zH]at h;subst h;simp only[zI,scalT_ev d,Iy J]
  .simp at h
theorem valT_ev{v:Value}{t:T}(h:valT v=some t):t.ev ρ β=v:=by
 unfold valT at h;split at h
 .rename_i cs;cases q:GZ cs.toList with
  |none=>simp[q]at h
  |some ts=>
   simp only[q,zR,zH]at h;subst h;simp only[T.ev,CK,Iy q]
 .rename_i cs;split at h
  .rename_i d;simp only[zH]at h;subst h;have:cs=#[]:=by simpa using d
   subst this;rfl
  .simp at h
 .exact scalT_ev h
theorem Bc(h:Rel O V0 w0 N β st ρ V a.tmps w){o:Operand}{t:T}(q:Bq st o=some t):a.eval o=t.ev ρ β:=by
 cases o with
 |tmp s=>exact h.slots s t q
 |const v=>exact(valT_ev q).symm
 |global g=>simp only[Bq,zH]at q;subst q;rfl
 |func f=>simp only[Bq,zH]at q;subst q;rfl
theorem Iz(h:Rel O V0 w0 N β st ρ V a.tmps w):∀{l:List Operand}{ts:XJ},opTs st l=some ts->l.map a.eval=ts.map (·.ev ρ β)
 |[],ts,q=>by grind[opTs]
 |o::l,ts,q=>by
  simp only[opTs]at q;split at q
  .rename_i t d J G;simp only[zH]at q;subst q;simp only[zI,Bc h J,Iz h G]
  .simp at q
theorem Em{t:T}{k:IntKind}(h:t.kind=some (.i k)):∃n,t.ev ρ β=.int k n:=⟨_,(T.kind_ok (ρ:=ρ) (β:=β) t _ h).symm⟩
theorem FY{t:T}(h:t.kind=some .b):∃b,t.ev ρ β=.bool b:=⟨_,(T.kind_ok (ρ:=ρ) (β:=β) t _ h).symm⟩
theorem Gq{t:T}(h:t.kind=some .s):∃s,t.ev ρ β=.string s:=⟨_,(T.kind_ok (ρ:=ρ) (β:=β) t _ h).symm⟩
theorem HO{t:T}(h:t.kind=some .sl):∃p n c,t.ev ρ β=.slice p n c:=⟨_,_,_,(T.kind_ok (ρ:=ρ) (β:=β) t _ h).symm⟩
theorem G9{t:T}(h:t.kind=some .p):∃p,t.ev ρ β=.pointer p:=⟨_,(T.kind_ok (ρ:=ρ) (β:=β) t _ h).symm⟩
theorem kind_m{t:T}(h:t.kind=some .m):∃p,t.ev ρ β=.map p:=⟨_,(T.kind_ok (ρ:=ρ) (β:=β) t _ h).symm⟩
theorem notT_ev(t:T):(notT t).ev ρ β=.bool (!asB (t.ev ρ β)):=by
 unfold notT;split<;>rfl
theorem poff_ev(t:T)(n:Nat)(h:∃p,t.ev ρ β=.pointer p):(t.poff n).ev ρ β=.pointer (Aa (AP (t.ev ρ β)) n):=by
 unfold T.poff;grind[T.ev,AP,Aa,Iu,U.ev,Iw]
theorem MB(t:T)(q:t.kind=some .sl):AP ((D9 t).ev ρ β)=AP (t.ev ρ β):=by
 unfold D9;grind[T.ev,C.ev,AP,U.ev]
theorem Jo(t:T):(slLen t).ev ρ β=.int .i64 (EW (t.ev ρ β)):=by
 unfold slLen;split
 .split;.grind[T.ev,C.ev,EW,Ar]
  .rfl
 .rfl
 .rfl
theorem KT(t:T):(EZ t).ev ρ β=.int .i64 (asCap (t.ev ρ β)):=by
 unfold EZ;split
 .split;.grind[T.ev,C.ev,asCap,Ar]
  .rfl
 .rfl
 .rfl
theorem paddT_ev(e sz:Nat)(p i:T):AP ((paddT e sz p i).ev ρ β)=Aa (AP (p.ev ρ β)) ((Ar (i.ev ρ β)).toNat*sz)/\∃q,(paddT e sz p i).ev ρ β=.pointer q:=by
 unfold paddT;grind[T.ev,AP,Aa,Iu,Ar,B.ev]
theorem En{t:TypeId}{n:Nat}(h:CC P t=some n):(sizeOf t).run P w=.ok n w:=by
 unfold CC at h;cases q:P.info? t with
 |none=>simp[q]at h
 |some i=>simp_all[zR,zH,sizeOf,typeInfo]
theorem Jp{t:TypeId}{v:Value}(h:EG P t=some v):(zeroValue t).run P w=.ok v w:=by
 unfold EG at h;cases q:P.info? t with
 |none=>simp[q]at h
 |some i=>simp_all[zS,zeroValue,typeInfo]
theorem Gs{t:TypeId}{b:Bool}(h:isAggB P t=some b):(isAgg t).run P w=.ok b w:=by
 unfold isAggB at h;cases hu:P.underlying t with
 |none=>simp[hu]at h
 |some d=>
  simp only[hu,zR,zH]at h;subst h;cases d<;>simp[isAgg,run_underlying hu]
theorem KU(t:T)(off n:Nat):(takeT t off n).map (·.ev ρ β)=((t.evs ρ β).drop off).take n:=by
 simp[takeT,Dv,zT,zU]
theorem KV{t:TypeId}{cs x:T}{off:Nat}(h:DA P t cs off=some x):(part t (cs.evs ρ β).toArray off).run P w=.ok (x.ev ρ β) w:=by
 unfold DA at h;split at h
 .rename_i n q d;simp only at h;split at h
  .rename_i J;simp only[zH]at h;subst h;have:(takeT cs off n).map (·.ev ρ β)=((cs.evs ρ β).drop off).take n:=KU cs off n;simp only[part,zV,Gs q,zW,if_true,En d,zX,T.ev,CK,this];simp_all
  .simp at h
 .rename_i n q d;have:(cs.evs ρ β).toArray[off]?=some (x.ev ρ β):=by simp[Dv,h]
  simp only[part,zV,Gs q,zW,zY,if_false,this,zX]
 .simp at h
end
section
variable{P:Program}{O V0:Mem}{w0:World}{N:Nat}{β:Nat->Nat}{st:St}{ρ:XV}{V:Mem}{a:Act}{w:World}
theorem nn_some{p:T}(G:p.kind=some .p)(d:∀x∈nn p,asB (x.ev ρ β)=true):∃q,p.ev ρ β=.pointer (some q):=by
 unfold nn at d;split at d;.exact⟨_,rfl⟩
 .exact⟨_,rfl⟩
 .have Z:=d _ (zZ.2 rfl);obtain⟨q,J⟩:=G9 (ρ:=ρ) (β:=β) G;rw[J];cases q with
  |some q=>grind
  |none=>simp[T.ev,U.ev,J,asB,AP]at Z
theorem HP{t:TypeId}{cs x:T}{o b:Nat}{ty:TypeId}{fr:Nat×Nat}(Z:w.heap[b]?=some (.cells (cs.evs ρ β).toArray ty fr))(h:DA P t cs o=some x):
  (loadVar t ⟨b,o,none⟩).run P w=.ok (x.ev ρ β) w:=by
 unfold DA at h;split at h
 .rename_i n d J;simp only at h;split at h
  .rename_i Y;simp only[zH]at h;subst h;have e:(takeT cs o n).map (·.ev ρ β)=((cs.evs ρ β).drop o).take n:=KU cs o n;have q:(((cs.evs ρ β).drop o).take n).length=n:=by grind
   have:=run_loadCells_list (P:=P) w ⟨b,o,none⟩ (((cs.evs ρ β).drop o).take n) (λj v W=>by
    simp_all[Iu,zz,zy,zY,if_false,zx,zw])
   rw[q]at this;simp only[loadVar,zV,Gs d,zW,if_true,En J,this,zX,T.ev,CK,e]
  .simp at h
 .rename_i n d J;have e:(cs.evs ρ β).toArray[o]?=some (x.ev ρ β):=by simp[Dv,h]
  have G:w.cell? ⟨b,o,none⟩=some (x.ev ρ β):=by grind[zz]
  simp only[loadVar,zV,Gs d,zW,zY,if_false,run_load,G]
 .simp at h
theorem Oy{q:Addr}{d:Field}{n:Nat}(h:CC P d.type=some (n+1)):(fieldPlace q d).run P w=.ok (q.add d.offset) w:=by
 simp[fieldPlace,En h]
theorem Jq(s t:KB):(s.toList==t.toList)=decide (s=t):=by
 have key:s.toList=t.toList↔s=t:=by
  constructor
  .intro h;rw[zu,zu]at h;cases s;cases t;simp_all
  grind
 grind
theorem EH{k:IntKind}{n:Int}(h:k.min<=n/\n<=k.max):k.wrap n=n:=by
 obtain⟨q,d⟩:=h;cases k<;>simp[IntKind.min,IntKind.max,zt,zr]at q d<;>simp only[IntKind.wrap,zt,zr]<;>simp<;>omega
theorem run_binI{op:BinOp}{k:IntKind}{x y t:T}{ns:XJ}{m n:Int}{W:TypeId}(h:binI op k x y=some (ns,t))(d:x.ev ρ β=.int k m)(q:y.ev ρ β=.int k n)
    (M:op≠.shl) (I:op≠.shr) (G:∀z∈ns,asB (z.ev ρ β)=true):(binOp op W (.int k m) (.int k n)).run P w=.ok (t.ev ρ β) w:=by
  have Z:∀(Y:T),cmpI op x y=some Y->(binOp op W (.int k m) (.int k n)).run P w=.ok (Y.ev ρ β) w:=by
    intro Y A;cases op<;>simp only[cmpI,zH,reduceCtorEq]at A<;>subst A<;>
      (simp only[binOp,ne_eq,not_true_eq_false,if_false,Op.intCmp]
       split
       · rename_i F a1 X b1;simp only[T.ev]at d q;cases d;cases q;simp[T.ev];try rfl
       · simp[T.ev,B.ev,U.ev,d,q,Ar,asB];try rfl)
  cases op with
  |add=>
    simp only[binI,inr,zH,zq]at h;obtain⟨rfl,rfl⟩:=h;have J:=G _ (zZ.2 rfl);simp only[T.ev,U.ev,B.ev,d,q,Ar,asB,decide_eq_true_eq]at J;simp[binOp,zp,T.ev,B.ev,d,q,Ar,EH J]
  |sub=>
    simp only[binI,inr,zH,zq]at h;obtain⟨rfl,rfl⟩:=h;have J:=G _ (zZ.2 rfl);simp only[T.ev,U.ev,B.ev,d,q,Ar,asB,decide_eq_true_eq]at J;simp[binOp,zp,T.ev,B.ev,d,q,Ar,EH J]
  |mul=>
    simp only[binI,inr]at h;split at h
    · simp only[zH,zq]at h;obtain⟨rfl,rfl⟩:=h;simp[binOp,zp,T.ev,B.ev,d,q,Ar]
    · simp only[zH,zq]at h;obtain⟨rfl,rfl⟩:=h;have J:=G _ (zZ.2 rfl);simp only[T.ev,U.ev,B.ev,d,q,Ar,asB,decide_eq_true_eq]at J;simp[binOp,zp,T.ev,B.ev,d,q,Ar,EH J]
  |quo=>
    simp only[binI,zH,zq]at h;obtain⟨rfl,rfl⟩:=h;have J:=G _ (zZ.2 rfl);simp only[T.ev,U.ev,B.ev,q,Ar,asB,zo,decide_eq_false_iff_not]at J;simp[binOp,Op.intDiv,T.ev,B.ev,d,q,Ar,J]
  |rem=>
    simp only[binI,zH,zq]at h;obtain⟨rfl,rfl⟩:=h;have J:=G _ (zZ.2 rfl);simp only[T.ev,U.ev,B.ev,q,Ar,asB,zo,decide_eq_false_iff_not]at J;simp[binOp,Op.intDiv,T.ev,B.ev,d,q,Ar,J]
  |and=>simp only[binI,zH,zq]at h;obtain⟨rfl,rfl⟩:=h;simp[binOp,intBits_and,T.ev,B.ev,d,q,Ar]
  |or=>simp only[binI,zH,zq]at h;obtain⟨rfl,rfl⟩:=h;simp[binOp,intBits_or,T.ev,B.ev,d,q,Ar]
  |xor=>simp only[binI,zH,zq]at h;obtain⟨rfl,rfl⟩:=h;simp[binOp,intBits_xor,T.ev,B.ev,d,q,Ar]
  |andNot=>simp only[binI,zH,zq]at h;obtain⟨rfl,rfl⟩:=h;simp[binOp,intBits_andNot,T.ev,B.ev,d,q,Ar]
  |shl=>grind
  |shr=>simp_all
  |_=>
    simp only[binI,zn,zq]at h;obtain⟨Y,J,rfl,rfl⟩:=h;exact Z _ J
end
section
variable{P:Program}{O V0:Mem}{w0:World}{N:Nat}{β:Nat->Nat}{st:St}{ρ:XV}{V:Mem}{a:Act}{w:World}
theorem run_binS{op:BinOp}{x y t:T}{ns:XJ}{m n:KB}{J:TypeId}(h:binS op x y=some (ns,t))(q:x.ev ρ β=.string m)(d:y.ev ρ β=.string n)
  (G:∀z∈ns,asB (z.ev ρ β)=true):(binOp op J (.string m) (.string n)).run P w=.ok (t.ev ρ β) w:=by
 cases op with
 |add=>
  simp only[binS,inr,zH,zq]at h;obtain⟨rfl,rfl⟩:=h;have Z:=G _ (zZ.2 rfl);simp only[T.ev,U.ev,B.ev,q,d,Ar,asB,A0,decide_eq_true_eq]at Z;have Y:¬(((m.size+n.size:Nat):Int)>IntKind.i64.max):=by omega
  simp_all[binOp,zm,if_false,zX,T.ev,B.ev,A0]
 |eql=>simp only[binS,zH,zq]at h;obtain⟨rfl,rfl⟩:=h;simp[binOp,zm,T.ev,B.ev,q,d,A0,Jq]
 |neq=>simp only[binS,zH,zq]at h;obtain⟨rfl,rfl⟩:=h;simp[binOp,zm,T.ev,U.ev,B.ev,q,d,A0,asB,Jq]
 |lss=>simp only[binS,zH,zq]at h;obtain⟨rfl,rfl⟩:=h;simp[binOp,zm,T.ev,B.ev,q,d,A0]
 |geq=>simp only[binS,zH,zq]at h;obtain⟨rfl,rfl⟩:=h;simp[binOp,zm,T.ev,U.ev,B.ev,q,d,A0,asB]
 |leq=>simp only[binS,zH,zq]at h;obtain⟨rfl,rfl⟩:=h;simp[binOp,zm,T.ev,B.ev,q,d,A0,asB,Jq]
 |gtr=>simp only[binS,zH,zq]at h;obtain⟨rfl,rfl⟩:=h;simp[binOp,zm,T.ev,U.ev,B.ev,q,d,A0,asB,Jq]
 |_=>simp[binS]at h
theorem Gt{op:BinOp}{t d:T}{ns:XJ}{q:TypeId}{u v:Value}{b:Bool}(h:eqOr op t=some (ns,d))(J:t.ev ρ β=.bool b)
  (G:(zl q u v).run P w=.ok b w) (hu:∀k n,u≠.int k n) (Z:∀s,u≠.string s) (Y:∀k n,u≠.float k n) (hc:∀k m n,u≠.complex k m n):
  (binOp op q u v).run P w=.ok (d.ev ρ β) w:=by
 cases op<;>simp only[eqOr,zH,zq,reduceCtorEq]at h<;>obtain⟨rfl,rfl⟩:=h
 .have:binOp .eql q u v=(do pure (.bool (<-zl q u v)):Sem Value):=by
   cases u<;>first|rfl|exact absurd rfl (hu _ _)|exact absurd rfl (Z _)|exact absurd rfl (Y _ _)|simp_all|(cases v<;>rfl)
  simp[this,G,J]
 .have:binOp .neq q u v=(do pure (.bool (!(<-zl q u v))):Sem Value):=by
   cases u<;>first|rfl|exact absurd rfl (hu _ _)|exact absurd rfl (Z _)|exact absurd rfl (Y _ _)|simp_all|(cases v<;>rfl)
  simp[this,G,notT_ev,J,asB]
theorem Fs{op:BinOp}{q:TypeId}{x y:Operand}{u v:Value}(d:u≠.nilIface)(J:∀c,u≠.agg c):(eqGuard op q x y u v).run P w=.ok () w:=by
 cases u<;>first|exact absurd rfl d|exact absurd rfl (J _)|(unfold eqGuard;cases op<;>rfl)
theorem Ft(t:TypeId)(x y:Value):zl t x y=zk (9999+1) t x y:=rfl
theorem Oz{t:TypeId}{m n:Bool}(h:P.underlying t=some .bool):(zl t (.bool m) (.bool n)).run P w=.ok (m==n) w:=by
 rw[Ft,zk];simp[run_underlying h]
theorem run_equal_p{t e:TypeId}{n:XI}(h:P.underlying t=some (.pointer e)):(zl t (.pointer none) (.pointer n)).run P w=.ok n.isNone w:=by
 rw[Ft,zk];simp[run_underlying h]
theorem run_equal_p'{t e:TypeId}{n:XI}(h:P.underlying t=some (.pointer e)):(zl t (.pointer n) (.pointer none)).run P w=.ok n.isNone w:=by
 rw[Ft,zk];cases n<;>simp[run_underlying h]
theorem run_equal_sl{t e:TypeId}{n:XI}{a b c d:Nat}(h:P.underlying t=some (.slice e)):(zl t (.slice none a b) (.slice n c d)).run P w=.ok n.isNone w:=by
 rw[Ft,zk];simp[run_underlying h]
theorem OA{t e:TypeId}{n:XI}{a b c d:Nat}(h:P.underlying t=some (.slice e)):(zl t (.slice n c d) (.slice none a b)).run P w=.ok n.isNone w:=by
 rw[Ft,zk];cases n<;>simp[run_underlying h]
theorem run_equal_m{t e f:TypeId}{n:XU}(h:P.underlying t=some (.map e f)):(zl t (.map none) (.map n)).run P w=.ok n.isNone w:=by
 rw[Ft,zk];simp[run_underlying h]
theorem run_equal_m'{t e f:TypeId}{n:XU}(h:P.underlying t=some (.map e f)):(zl t (.map n) (.map none)).run P w=.ok n.isNone w:=by
 rw[Ft,zk];cases n<;>simp[run_underlying h]
theorem run_binOpT{op:BinOp}{G:TypeId}{x y:Operand}{p q t:T}{ns:XJ}(h:binOpT P op G p q=some (ns,t))(F:∀z∈ns,asB (z.ev ρ β)=true):
  (do eqGuard op G x y (p.ev ρ β) (q.ev ρ β);binOp op G (p.ev ρ β) (q.ev ρ β):Sem Value).run P w=.ok (t.ev ρ β) w:=by
 unfold binOpT at h;split at h
 .split at h
  .rename_i k I c Z;split at h
   .rename_i A;simp only[zH,zq]at h;obtain⟨rfl,rfl⟩:=h;obtain⟨m,hm⟩:=Em (ρ:=ρ) (β:=β) Z;have e:(T.b2 (.wmul k) p (.int k (2^c.toNat))).ev ρ β=.int k (k.wrap (m*2^c.toNat)):=by simp[T.ev,B.ev,hm,Ar]
    rw[e,hm,zV,Fs (by simp) (by simp),zW];have:=shift_shl k I m c A.1 A.2;simp[T.ev,binOp,this]
   .simp at h
  .simp at h
 .simp at h
 .rename_i X M;split at h
  .rename_i k D Z Y;split at h
   .rename_i e;subst e;obtain⟨m,hm⟩:=Em (ρ:=ρ) (β:=β) Z;obtain⟨n,d⟩:=Em (ρ:=ρ) (β:=β) Y;grind[zV,Fs,zW,run_binI]
   .simp at h
  .rename_i Z Y;obtain⟨m,hm⟩:=Gq (ρ:=ρ) (β:=β) Z;obtain⟨n,d⟩:=Gq (ρ:=ρ) (β:=β) Y;grind[zV,Fs,zW,run_binS]
  .rename_i Z Y;split at h;case h_2=>simp at h
   rename_i J;obtain⟨m,hm⟩:=FY (ρ:=ρ) (β:=β) Z;obtain⟨n,d⟩:=FY (ρ:=ρ) (β:=β) Y;rw[hm,d,zV,Fs (by simp) (by simp),zW];exact Gt (b:=m==n) h (by simp[T.ev,B.ev,hm,d,asB]) (Oz J) (by simp) (by simp) (by simp) (by simp)
  .rename_i Z Y;split at h;case h_2=>simp at h
   rename_i J;obtain⟨m,hm⟩:=G9 (ρ:=ρ) (β:=β) Z;obtain⟨n,d⟩:=G9 (ρ:=ρ) (β:=β) Y;unfold eqNil at h;split at h
   .rename_i W;subst W;show(do eqGuard op G x y (zj none) (q.ev ρ β);binOp op G (zj none) (q.ev ρ β):Sem Value).run P w=_;rw[d,zV,Fs (by simp) (by simp),zW];exact Gt (b:=n.isNone) h (by simp[T.ev,U.ev,d,AP]) (run_equal_p J) (by simp) (by simp) (by simp) (by simp)
   .split at h;case isFalse=>simp at h
    rename_i W;subst W;show(do eqGuard op G x y (p.ev ρ β) (zj none);binOp op G (p.ev ρ β) (zj none):Sem Value).run P w=_;rw[hm,zV,Fs (by simp) (by simp),zW];exact Gt (b:=m.isNone) h (by simp[T.ev,U.ev,hm,AP]) (run_equal_p' J) (by simp) (by simp) (by simp) (by simp)
  .rename_i Z Y;split at h;case h_2=>simp at h
   rename_i J;obtain⟨m,E,S,hm⟩:=HO (ρ:=ρ) (β:=β) Z;obtain⟨n,n2,n3,d⟩:=HO (ρ:=ρ) (β:=β) Y;unfold eqNil at h;split at h
   .rename_i W;subst W;show(do eqGuard op G x y (zi none 0 0) (q.ev ρ β);binOp op G (zi none 0 0) (q.ev ρ β):Sem Value).run P w=_;rw[d,zV,Fs (by simp) (by simp),zW];exact Gt (b:=n.isNone) h (by simp[T.ev,U.ev,d,AP]) (run_equal_sl J) (by simp) (by simp) (by simp) (by simp)
   .split at h;case isFalse=>simp at h
    rename_i W;subst W;show(do eqGuard op G x y (p.ev ρ β) (zi none 0 0);binOp op G (p.ev ρ β) (zi none 0 0):Sem Value).run P w=_;rw[hm,zV,Fs (by simp) (by simp),zW];exact Gt (b:=m.isNone) h (by simp[T.ev,U.ev,hm,AP]) (OA J) (by simp) (by simp) (by simp) (by simp)
  .rename_i Z Y;split at h;case h_2=>simp at h
   rename_i J;obtain⟨m,hm⟩:=kind_m (ρ:=ρ) (β:=β) Z;obtain⟨n,d⟩:=kind_m (ρ:=ρ) (β:=β) Y;unfold eqNil at h;split at h
   .rename_i W;subst W;show(do eqGuard op G x y (zh none) (q.ev ρ β);binOp op G (zh none) (q.ev ρ β):Sem Value).run P w=_;rw[d,zV,Fs (by simp) (by simp),zW];exact Gt (b:=n.isNone) h (by simp[T.ev,U.ev,d,GX]) (run_equal_m J) (by simp) (by simp) (by simp) (by simp)
   .split at h;case isFalse=>simp at h
    rename_i W;subst W;show(do eqGuard op G x y (p.ev ρ β) (zh none);binOp op G (p.ev ρ β) (zh none):Sem Value).run P w=_;rw[hm,zV,Fs (by simp) (by simp),zW];exact Gt (b:=m.isNone) h (by simp[T.ev,U.ev,hm,GX]) (run_equal_m' J) (by simp) (by simp) (by simp) (by simp)
  .simp at h
end
section
variable{P:Program}{O V0:Mem}{w0:World}{N:Nat}{β:Nat->Nat}{st:St}{ρ:XV}{V:Mem}{a:Act}{w:World}
theorem Jr{t:T}(h:(Di t.cellsT).isSome=true):(t.ev ρ β).cells.toList=t.cellsT.evs ρ β:=by
 have key:∀s:T,s.cellsT=.cons s .nil->(Di s.cellsT).isSome=true->(s.ev ρ β).cells.toList=s.cellsT.evs ρ β:=by
  intro s G q;rw[G]at q⊢;simp only[Di]at q;cases d:s.kind with
  |none=>simp[d]at q
  |some k=>
   have J:=K.ok_one (T.kind_ok (ρ:=ρ) (β:=β) s k d);simp only[T.evs];generalize s.ev ρ β=v at J⊢;cases v<;>first|rfl|simp[Gl]at J
 cases t with
 |agg cs=>rfl
 |_=>exact key _ rfl h
theorem foldl_set:∀(vs:XV)(k off:Nat)(cs:XV),off+k+vs.length<=cs.length->
  (vs.zipIdx k).foldl (λcs (x:Value×Nat)=>cs.setIfInBounds (off+x.2) x.1) cs.toArray=(cs.take (off+k)++vs++cs.drop (off+k+vs.length)).toArray
 |[],k,off,cs,_=>by simp
 |v::vs,k,off,cs,h=>by
  simp only[zg]at h;have q:=foldl_set vs (k+1) off (cs.set (off+k) v) (by simp;omega);simp only[List.zipIdx_cons,List.foldl_cons,List.setIfInBounds_toArray];rw[q];congr 1;apply zf;intro j;simp only[List.getElem?_append,zK,List.length_take,List.length_set,zx,zw,List.getElem?_set,zg];grind
theorem Js{q:Nat->Option (Nat×Nat)}:∀{ps:List (Nat×T)}{cells cs:XJ},FV q cells ps=some cs->
  Instr.fill q (cells.map (·.ev ρ β)).toArray (ps.map λx=>(x.1,x.2.ev ρ β))=some (cs.map (·.ev ρ β)).toArray
 |[],cells,cs,h=>by simp only[FV,zH]at h;subst h;rfl
 |(i,t)::ps,cells,cs,h=>by
  simp only[FV]at h;split at h;.simp at h
  .rename_i off size G;split at h
   .rename_i Z;obtain⟨A,I,Y⟩:=Z;have M:=Js h;have d:=Jr (ρ:=ρ) (β:=β) Y;have W:((t.ev ρ β).cells.toList).length=size:=by grind[Dv]
    have J:(t.ev ρ β).cells.size=size:=by simpa using W
    simp only[zI,Instr.fill,G,J,ne_eq,not_true_eq_false,ze,List.length_map,decide_false,Bool.false_or,gt_iff_lt,decide_eq_true_eq];rw[if_neg (by omega)];have F:(t.ev ρ β).cells.zipIdx.foldl (λcs (x:Value×Nat)=>cs.setIfInBounds (off+x.2) x.1) (cells.map (·.ev ρ β)).toArray=
      ((cells.take off++t.cellsT.toList++cells.drop (off+size)).map (·.ev ρ β)).toArray:=by
     rw[<-Array.foldl_toList,Array.toList_zipIdx,foldl_set _ 0 off _ (by simp_all)];grind[Dv,zT,zU]
    simp_all
   .simp at h
theorem Jt(h:Rel O V0 w0 N β st ρ V a.tmps w):∀{l:List (Nat×Operand)}{ps:List (Nat×T)},partsT st l=some ps->l.map (λx=>(x.1,a.eval x.2))=ps.map λx=>(x.1,x.2.ev ρ β)
 |[],ps,q=>by grind[partsT]
 |(i,o)::l,ps,q=>by
  simp only[partsT]at q;split at q
  .rename_i t d J G;simp only[zH]at q;subst q;simp only[zI,Bc h J,Jt h G]
  .simp at q
theorem places_eq(fs:List Field)(h:fs.all (λf=>(CC P f.type).isSome)=true):∃q:List (Nat×Nat),fs.mapM (λ(f:Field)=>(P.info? f.type).map λi=>(f.offset,i.size))=some q/\
  ∀i:Nat,q[i]?=(fs[i]?).bind λ(f:Field)=>(CC P f.type).map λs=>(f.offset,s):=by
 induction fs with
 |nil=>simp_all
 |cons f fs J=>
  simp only[List.all_cons,zD]at h;obtain⟨G,Y,W⟩:=J h.2;cases Z:P.info? f.type with
  |none=>simp[CC,Z]at h
  |some d=>
   refine⟨(f.offset,d.size)::G,by simp_all,λi=>?_⟩;grind[CC]
theorem run_buildT{t:TypeId}{fs:Array Field}{z cs:XJ}{parts:Array (Nat×Operand)}{ps:List (Nat×T)}(G:Rel O V0 w0 N β st ρ V a.tmps w)(hu:P.underlying t=some (.struct fs))
  (d:EX P t=some z) (Z:partsT st parts.toList=some ps) (Y:fs.toList.all (λf=>(CC P f.type).isSome)=true) (W:FV (Jl P fs) z ps=some cs):
  (zd t (parts.map λ(i,x)=>(i,a.eval x))).run P w=.ok (.agg (cs.map (·.ev ρ β)).toArray) w:=by
 apply run_build;unfold Program.built;unfold EX EG at d;cases J:P.info? t with
 |none=>simp[J]at d
 |some A=>
  simp only[J,zS]at d;cases q:A.zero with
  |none=>simp[q]at d
  |some I=>
   simp only[q,zS]at d;obtain⟨M,F,X⟩:=places_eq fs.toList Y;simp only[hu,q,F];have D:(λi=>M.toArray[i]?)=Jl P fs:=by
    grind[Jl]
   have E:z.map (·.ev ρ β)=I.cells.toList:=Iy d;have S:=Jt G Z;have:=Js (ρ:=ρ) (β:=β) W;simp_all
theorem run_buildA{t e:TypeId}{n:Nat}{sz:Nat}{z cs:XJ}{parts:Array (Nat×Operand)}{ps:List (Nat×T)}(Z:Rel O V0 w0 N β st ρ V a.tmps w)(hu:P.underlying t=some (.array n e))
  (d:EX P t=some z) (Y:partsT st parts.toList=some ps) (W:CC P e=some sz) (A:FV (λi=>some (i*sz,sz)) z ps=some cs):
  (zd t (parts.map λ(i,x)=>(i,a.eval x))).run P w=.ok (.agg (cs.map (·.ev ρ β)).toArray) w:=by
 unfold EX EG at d;cases J:P.info? t with
 |none=>simp[J]at d
 |some I=>
  simp only[J,zS]at d;cases q:I.zero with
  |none=>simp[q]at d
  |some G=>
   simp only[q,zS]at d;have M:EG P t=some G:=by unfold EG;rw[J];exact q
   have F:z.map (·.ev ρ β)=G.cells.toList:=Iy d;have E:=Jt Z Y;have X:=Js (ρ:=ρ) (β:=β) A;rw[F]at X;have D:(parts.map λ(x:Nat×Operand)=>(x.1,a.eval x.2)).toList=ps.map λx=>(x.1,x.2.ev ρ β):=by simp_all
   unfold zd;simp only[zV,Jp M,zW,run_underlying hu,En W,D];simp_all[zX]
theorem run_indexAtT{t e:TypeId}{s j:T}{k:IntKind}{sz:Nat}(hu:P.underlying t=some (.slice e))(I:s.kind=some .sl)(D:j.kind=some (.i k))(E:CC P e=some sz)
  (J:∀z∈nn (D9 s)++[.b2 .le (.int .i64 0) j,.b2 .lt j (slLen s)],asB (z.ev ρ β)=true):
  (zc t (s.ev ρ β) (j.ev ρ β)).run P w=.ok ((paddT e sz (D9 s) j).ev ρ β) w:=by
 obtain⟨p,n,c,G⟩:=HO (ρ:=ρ) (β:=β) I;obtain⟨i,Z⟩:=Em (ρ:=ρ) (β:=β) D;have M:=J (.b2 .le (.int .i64 0) j) (by simp);have F:=J (.b2 .lt j (slLen s)) (by simp);simp only[T.ev,B.ev,Z,Ar,asB,decide_eq_true_eq,Jo,G,EW]at M F;have X:AP ((D9 s).ev ρ β)=p:=by rw[MB s I,G,AP]
 have Y:∃q,p=some q:=by
  have hk:(D9 s).kind=some .p∨∃a b c,s=.c3 .slc a b c:=by
   unfold D9;split;.simp_all
   .exact .inl rfl
  have W:AP ((D9 s).ev ρ β)≠none:=by
   unfold nn at J;intro A;split at J;.simp[*,T.ev,AP]at A
   .simp[*,T.ev,AP]at A
   .have d:=J _ (List.mem_append_left _ (zZ.2 rfl));simp[T.ev,U.ev,asB,A]at d
  rw[X]at W;cases p with
  |none=>simp_all
  |some q=>grind
 obtain⟨q,rfl⟩:=Y;obtain⟨d,q',S⟩:=paddT_ev (ρ:=ρ) (β:=β) e sz (D9 s) j;rw[X,Z]at d;simp only[Ar,Aa,zR]at d;rw[S]at d⊢;simp only[AP]at d;subst d;rw[G,Z];simp[zc,run_underlying hu,asIntOf,M,F,En E]
theorem sbyte_at{s:KB}{i:Int}(J:0<=i)(G:i<s.size):∃b,s[i.toNat]?=some b/\A7 s i=b.toNat:=by
 have q:i.toNat<s.size:=by omega
 have d:s.data[i.toNat]?=some (s.data[i.toNat]'(by simpa using q)):=Array.getElem?_eq_getElem _;refine⟨s.data[i.toNat]'(by simpa using q),?_,by simp[A7,d]⟩;rw[getElem?_pos s i.toNat q];rfl
theorem run_indexT{t:TypeId}{s j:T}{k:IntKind}(hu:P.underlying t=some .string)(d:s.kind=some .s)(J:j.kind=some (.i k))(q:asB ((T.b2 .sidxok s j).ev ρ β)=true):
  (Instr.index t (s.ev ρ β) (j.ev ρ β)).run P w=.ok ((T.b2 .sidx s j).ev ρ β) w:=by
 obtain⟨b,G⟩:=Gq (ρ:=ρ) (β:=β) d;obtain⟨i,Z⟩:=Em (ρ:=ρ) (β:=β) J;simp only[T.ev,B.ev,G,Z,asB,A0,Ar,decide_eq_true_eq]at q;obtain⟨c,Y,W⟩:=sbyte_at q.1 q.2;simp_all[Instr.index,run_underlying,asIntOf,T.ev,B.ev,A0,Ar]
theorem run_sliceS{t:TypeId}{s l h:T}{j k:IntKind}{lo hi:Option Operand}(hu:P.underlying t=some .string)(A:s.kind=some .s)(I:l.kind=some (.i j))(M:h.kind=some (.i k))
  (el:lo.map a.eval=some (l.ev ρ β)∨lo=none/\l=.int .i64 0) (J:hi.map a.eval=some (h.ev ρ β)∨hi=none/\h=.u .slen s) (Z:asB ((T.c3 .bnd l h (.u .slen s)).ev ρ β)=true):
  (zb t (s.ev ρ β) (lo.map a.eval) (hi.map a.eval) none).run P w=.ok ((T.c3 .ssub s l h).ev ρ β) w:=by
 obtain⟨b,q⟩:=Gq (ρ:=ρ) (β:=β) A;obtain⟨x,G⟩:=Em (ρ:=ρ) (β:=β) I;obtain⟨y,d⟩:=Em (ρ:=ρ) (β:=β) M;simp only[T.ev,C.ev,U.ev,q,G,d,asB,A0,Ar,decide_eq_true_eq]at Z;obtain⟨F,X,D⟩:=Z;obtain⟨x,rfl⟩:=za F;obtain⟨y,rfl⟩:=za (show 0<=y by omega);have Y:x<=y:=by omega
 have W:y<=b.size:=by omega
 rcases el with el|⟨rfl,rfl⟩<;>rcases J with J|⟨rfl,rfl⟩
 .simp[zb,run_underlying hu,z6,z7,z8,asIntOf,el,J,q,G,d,Y,W,T.ev,C.ev,A0,Ar]
 .simp only[T.ev,U.ev,q,A0,yA,yB]at d;obtain⟨-,rfl⟩:=d;simp[zb,run_underlying hu,z6,z7,z8,asIntOf,el,q,G,Y,T.ev,C.ev,U.ev,A0,Ar]
 .simp[zb,run_underlying hu,z6,z7,z8,asIntOf,J,q,d,W,T.ev,C.ev,A0,Ar]
 .simp[zb,run_underlying hu,z6,z7,q,T.ev,C.ev,U.ev,A0,Ar]
theorem run_sliceL{t e:TypeId}{s l h:T}{j k:IntKind}{sz:Nat}{lo hi:Option Operand}(hu:P.underlying t=some (.slice e))(F:CC P e=some sz)(W:s.kind=some .sl)(X:l.kind=some (.i j))(D:h.kind=some (.i k))
  (el:lo.map a.eval=some (l.ev ρ β)∨lo=none/\l=.int .i64 0) (Y:hi.map a.eval=some (h.ev ρ β)∨hi=none/\h=slLen s) (A:asB ((T.c3 .bnd l h (EZ s)).ev ρ β)=true):
  (zb t (s.ev ρ β) (lo.map a.eval) (hi.map a.eval) none).run P w=
   .ok ((T.c3 .slc (.c3 (.slp sz) (D9 s) l (EZ s)) (.b2 (.sub .i64) h l) (.b2 (.sub .i64) (EZ s) l)).ev ρ β) w:=by
 obtain⟨p,n,c,G⟩:=HO (ρ:=ρ) (β:=β) W;obtain⟨x,d⟩:=Em (ρ:=ρ) (β:=β) X;obtain⟨y,J⟩:=Em (ρ:=ρ) (β:=β) D;have q:=MB (ρ:=ρ) (β:=β) s W;simp only[T.ev,C.ev,KT,G,d,J,asB,Ar,asCap,decide_eq_true_eq]at A;obtain⟨E,S,h3⟩:=A;obtain⟨x,rfl⟩:=za E;obtain⟨y,rfl⟩:=za (show 0<=y by omega);have I:x<=y:=by omega
 have M:y<=c:=by omega
 have hv:(T.c3 .slc (.c3 (.slp sz) (D9 s) l (EZ s)) (.b2 (.sub .i64) h l) (.b2 (.sub .i64) (EZ s) l)).ev ρ β=
   .slice (if c=x then p else Aa p (x*sz)) (y-x) (c-x):=by
  rw[G]at q;simp only[T.ev,C.ev,B.ev,q,KT,G,d,J];grind[Ar,AP,asCap]
 have Z:((z7 true n c (lo.map a.eval) (hi.map a.eval) none).run P w:Result (Nat×Nat×Nat))=.ok (x,y,c) w:=by
  rcases el with el|⟨rfl,rfl⟩<;>rcases Y with Y|⟨rfl,rfl⟩
  .simp[z7,z8,asIntOf,el,Y,d,J,I,M]
  .rw[Jo,G]at J;simp only[EW,yA,yB]at J;obtain⟨-,rfl⟩:=J;simp[z7,z8,asIntOf,el,d,I]
  .simp only[T.ev,yA]at d;obtain⟨-,d⟩:=d;obtain rfl:x=0:=by omega
   simp[z7,z8,asIntOf,Y,J,M]
  .simp only[T.ev,yA]at d;obtain⟨-,d⟩:=d;obtain rfl:x=0:=by omega
   rw[Jo,G]at J;simp only[EW,yA,yB]at J;obtain⟨-,rfl⟩:=J;rfl
 rw[hv,G];simp only[zb,zV,run_underlying hu,zW,z6,Z,En F,zX];rfl
end
section
variable{P:Program}{ρ:XV}{β:Nat->Nat}{w:World}
theorem run_eqFs{g:TypeId->T->T->Option T}{n:Nat}{cs ds:T}(G:∀t x y z,g t x y=some z->∃b,z.ev ρ β=.bool b/\(zk n t (x.ev ρ β) (y.ev ρ β)).run P w=.ok b w) :
    ∀(fs:List Field)(z:T),eqFs g P cs ds fs=some z->∃b,z.ev ρ β=.bool b/\
      (do for f in fs do
            if f.name≠ "_" then
              if !(<-zk n f.type (<-part f.type (cs.evs ρ β).toArray f.offset) (<-part f.type (ds.evs ρ β).toArray f.offset))then return false
          pure true:Sem Bool).run P w=.ok b w:=by
  intro fs;induction fs with
  |nil=>
    intro z h;simp only[eqFs,zH]at h;subst h;exact⟨true,rfl,by simp⟩
  |cons f fs Z=>
    intro z h;unfold eqFs at h;split at h;· cases h
    rename_i q;split at h;case h_2=>cases h
    rename_i x y Y W;split at h;case h_2=>cases h
    rename_i a A;obtain⟨b,F,I⟩:=G _ _ _ _ A;simp only[List.forIn_cons,q,ne_eq,not_false_eq_true,if_true,zV,KV Y,KV W,zW,I];cases b with
    |false=>
      refine⟨false,?_,by simp⟩;split at h;· grind
      · rw[zn]at h;obtain⟨r,d,rfl⟩:=h;grind[T.ev,B.ev,asB]
    |true=>
      split at h;· simp_all
      · rw[zn]at h;obtain⟨r,d,rfl⟩:=h;obtain⟨X,M,J⟩:=Z r d;simp_all[T.ev,B.ev,asB,zV]
theorem run_eqT:∀(d n:Nat)(t:TypeId)(x y z:T),Ip P d t x y=some z->∃b,z.ev ρ β=.bool b/\(zk (n+d) t (x.ev ρ β) (y.ev ρ β)).run P w=.ok b w
 |0,_,_,_,_,_,h=>by simp[Ip]at h
 |d+1,n,t,x,y,z,h=>by
  unfold Ip at h;rw[show n+(d+1)=(n+d)+1 from rfl,zk];split at h
  .rename_i k0 k A hu G Z;split at h
   .rename_i e;subst e;cases h;obtain⟨a,J⟩:=Em (ρ:=ρ) (β:=β) G;obtain⟨b,q⟩:=Em (ρ:=ρ) (β:=β) Z;exact⟨decide (a=b),by simp[T.ev,B.ev,J,q,Ar],by simp[zV,run_underlying hu,J,q];rfl⟩
   .cases h
  .rename_i hu G Z;cases h;obtain⟨a,J⟩:=Gq (ρ:=ρ) (β:=β) G;obtain⟨b,q⟩:=Gq (ρ:=ρ) (β:=β) Z;exact⟨decide (a=b),by simp[T.ev,B.ev,J,q,A0],by
    have W:(a==b)=decide (a=b):=by rw[Bool.eq_iff_iff,MapKept.bytes_beq,decide_eq_true_eq]
    simp[zV,run_underlying hu,J,q,W]⟩
  .rename_i hu G Z;cases h;obtain⟨a,J⟩:=FY (ρ:=ρ) (β:=β) G;obtain⟨b,q⟩:=FY (ρ:=ρ) (β:=β) Z;exact⟨a==b,by simp[T.ev,B.ev,J,q,asB],by simp[zV,run_underlying hu,J,q]⟩
  .rename_i fs hu G Z;split at h;case h_2=>cases h
   rename_i cs ds;split at h;case isFalse=>cases h
   rename_i Y;obtain⟨b,q,I⟩:=run_eqFs (n:=n+d) (λt x y z h=>run_eqT d n t x y z h) fs.toList z h;refine⟨b,q,?_⟩;simp only[zV,run_underlying hu,zW,T.ev,run_program,Y,<-Array.forIn_toList];simp_all
  .cases h
theorem run_eqAgg{op:BinOp}{d:TypeId}{x y:Operand}{p q t:T}{ns:XJ}(h:eqAgg P op d p q=some (ns,t)):
  (do eqGuard op d x y (p.ev ρ β) (q.ev ρ β);binOp op d (p.ev ρ β) (q.ev ρ β):Sem Value).run P w=.ok (t.ev ρ β) w:=by
 unfold eqAgg at h;split at h;case h_2=>cases h
 rename_i cs ds;split at h;case isFalse=>cases h
 rename_i Y;rw[Option.bind_eq_some_iff]at h;obtain⟨z,G,W⟩:=h;obtain⟨b,A,J⟩:=run_eqT (ρ:=ρ) (β:=β) (w:=w) 5 9995 d _ _ z G;have J:(zl d (T.ev ρ β (.agg cs)) (T.ev ρ β (.agg ds))).run P w=.ok b w:=J;have Z:(eqGuard op d x y (T.ev ρ β (.agg cs)) (T.ev ρ β (.agg ds))).run P w=.ok () w:=by
  simp_all[eqGuard,T.ev,zV,run_program]
 grind[zV,zW,Gt,T.ev]
end
section
variable{P:Program}{O V0:Mem}{w0:World}{N:Nat}{β:Nat->Nat}{st:St}{ρ:XV}{V:Mem}{a:Act}{w:World}
theorem lohi{st:St}{lo:Option Operand}{d l:T}(q:Rel O V0 w0 N β st ρ V a.tmps w)(h:(match lo with|some l=>Bq st l|none=>some d)=some l):
  lo.map a.eval=some (l.ev ρ β)∨lo=none/\l=d:=by
 cases lo with
 |some x=>grind[Bc]
 |none=>simp_all
theorem KW(J:Rel O V0 w0 N β st ρ V a.tmps w){o:Oper}{ns:XJ}{t:T}(h:CI P st o.op=some (ns,t))(A:∀x∈ns,asB (x.ev ρ β)=true):
  (execOp a.eval o).run P w=.ok (.value (t.ev ρ β)) w:=by
 unfold execOp;generalize o.op=op at h⊢;cases op with
 |move x=>
  simp only[CI,zn,zq]at h;obtain⟨M,d,rfl,rfl⟩:=h;simp only[zX,Bc J d]
 |assign x=>
  simp only[CI,zn,zq]at h;obtain⟨M,d,rfl,rfl⟩:=h;simp only[zX,Bc J d]
 |pick c x y=>
  simp only[CI]at h;split at h
  .rename_i v p q d Z h3;simp only[zH,zq]at h;obtain⟨rfl,rfl⟩:=h;simp only[Bc J d,Bc J Z,Bc J h3,T.ev,asBool,zV,zX,zW];cases v<;>rfl
  .simp at h
 |load ty x=>
  simp only[CI]at h;split at h
  .rename_i i off d;cases hb:st.box i with
   |none=>simp[hb]at h
   |some cs=>
    obtain⟨cs,e⟩:=cs;simp only[hb,zS,zn,zq]at h;obtain⟨M,Z,rfl,rfl⟩:=h;have hB:=(J.boxes i cs e hb).1;have:=HP (P:=P) hB Z;simp only[Bc J d,T.ev,Instr.loadAt,yC,zV,zX,zW,this]
  .simp at h
 |fieldAddr s x f=>
  simp only[CI]at h;split at h
  .rename_i fs p hu d;cases F:fs[f]? with
   |none=>simp[F]at h
   |some fd=>
    simp only[F,zS]at h;split at h
    .rename_i m I;split at h
     .rename_i G;simp only[zH,zq]at h;obtain⟨rfl,rfl⟩:=h;obtain⟨q,E⟩:=nn_some G A;rw[poff_ev _ _ ⟨_,E⟩,E];simp only[Bc J d,E,Instr.fieldAt,zV,run_underlying hu,zW,F,yC,zX,Oy I,AP,Aa,zR]
     .simp at h
    .simp at h
  .simp at h
 |indexAddr ty x i=>
  simp only[CI]at h;split at h
  .rename_i e s j hu d Z;split at h
   .rename_i k sz I hj S;simp only[zH,zq]at h;obtain⟨rfl,rfl⟩:=h;simp only[Bc J d,Bc J Z,zV,run_indexAtT hu I hj S A,zW,zX]
   .simp at h
  .rename_i len e p kk k hu d Z;split at h
   .rename_i sz S;split at h
    .rename_i G;obtain⟨G,hk0,hk1⟩:=G;simp only[zH,zq]at h;obtain⟨rfl,rfl⟩:=h;obtain⟨q,E⟩:=nn_some G A;rw[poff_ev _ _ ⟨_,E⟩,E];simp only[Bc J d,Bc J Z,E,T.ev,zc,asIntOf,zV,run_underlying hu,zW,yC,zX,En S,AP,Aa,zR];simp[hk0,hk1,En S,zV,zW,zX]
    .simp at h
   .simp at h
  .simp at h
 |index ty x i=>
  simp only[CI]at h;split at h
  .rename_i s j hu d Z;split at h
   .rename_i k I hj;simp only[zH,zq]at h;obtain⟨rfl,rfl⟩:=h;simp only[Bc J d,Bc J Z,zV,run_indexT hu I hj (A _ (zZ.2 rfl)),zW,zX]
   .simp at h
  .simp at h
 |binOp b xt x y yt=>
  simp only[CI]at h;split at h
  .rename_i p q d Z;have:=(Option.or_eq_some_iff.1 h).elim (λh=>run_binOpT (P:=P) (x:=x) (y:=y) (w:=w) h A) λh=>run_eqAgg (x:=x) (y:=y) h.2;simp only[Bc J d,Bc J Z];rw[zV,this];rfl
  .simp at h
 |unOp u xt x=>
  simp only[CI]at h;split at h
  .rename_i M d;split at h
   .rename_i G;simp only[zH,zq]at h;obtain⟨rfl,rfl⟩:=h;obtain⟨b,hb⟩:=FY (ρ:=ρ) (β:=β) G;simp[Bc J d,hb,Op.unary,notT_ev,asB]
   .simp at h
  .rename_i M d;split at h
   .rename_i k G;simp only[inr,zH,zq]at h;obtain⟨rfl,rfl⟩:=h;obtain⟨m,hm⟩:=Em (ρ:=ρ) (β:=β) G;have h3:=A _ (zZ.2 rfl);simp only[T.ev,U.ev,hm,Ar,asB,decide_eq_true_eq]at h3;simp only[Bc J d,hm,Op.unary,zp,zV,zX,zW,T.ev,U.ev,Ar,EH h3]
   .simp at h
  .simp at h
 |convert src dst x=>
  simp only[CI]at h;split at h
  .rename_i k0 k M X D d;split at h
   .rename_i j G;obtain⟨m,hm⟩:=Em (ρ:=ρ) (β:=β) G;have key:k.wrap m=m->((do pure (Next.value (<-convert src dst (a.eval x))):Sem Next).run P w)=.ok (.value (.int k m)) w:=λe=>by
     simp only[Bc J d,hm,zV,convert,run_underlying X,run_underlying D,zW,Conv.intToInt,zX,e]
    split at h
    .rename_i e;subst e;simp only[inr,zH,zq]at h;obtain⟨rfl,rfl⟩:=h;have h3:=A _ (zZ.2 rfl);simp_all[T.ev,U.ev,Ar,asB,decide_eq_true_eq,EH]
    split at h
    .rename_i e;subst e;simp only[zH,zq]at h;obtain⟨rfl,rfl⟩:=h;simp only[Bc J d,hm,zV,convert,run_underlying X,run_underlying D,zW,Conv.intToInt,zX,T.ev,U.ev,Ar]
    .simp only[inr,zH,zq]at h;obtain⟨rfl,rfl⟩:=h;have h3:=A _ (zZ.2 rfl);simp_all[T.ev,U.ev,Ar,asB,decide_eq_true_eq,EH]
   .simp at h
  .rename_i M X D d;split at h
   .rename_i G;simp only[zH,zq]at h;obtain⟨rfl,rfl⟩:=h;obtain⟨m,hm⟩:=Gq (ρ:=ρ) (β:=β) G;simp only[Bc J d,hm,zV,convert,run_underlying X,run_underlying D,zW,zX]
   .simp at h
  .simp at h
 |build ty parts=>
  simp only[CI]at h;split at h
  .rename_i fs z ps hu S hp;split at h
   .rename_i I;simp only[zn,zq]at h;obtain⟨cs,F,rfl,rfl⟩:=h;grind[zV,run_buildT,zW,zX,T.ev,CK]
   .simp at h
  .rename_i n e z ps hu S hp;split at h
   .rename_i sz I;simp only[zn,zq]at h;obtain⟨cs,F,rfl,rfl⟩:=h;grind[zV,run_buildA,zW,zX,T.ev,CK]
   .simp at h
  .simp at h
 |field xt x f=>
  simp only[CI]at h;split at h
  .rename_i fs cs hu d;cases F:fs[f]? with
   |none=>simp[F]at h
   |some fd=>
    simp only[F,zS,zn,zq]at h;obtain⟨M,Z,rfl,rfl⟩:=h;simp only[Bc J d,T.ev,Instr.field,zV,run_underlying hu,zW,F,asAgg,zX,KV Z]
  .simp at h
 |extract x i=>
  simp only[CI]at h;split at h
  .rename_i cs d;simp only[zn,zq]at h;obtain⟨M,Z,rfl,rfl⟩:=h;have:(cs.evs ρ β).toArray[i]?=some (M.ev ρ β):=by simp[Dv,Z]
   simp[Bc J d,T.ev,Instr.extract,this]
  .simp at h
 |makeFunc fn first W=>
  simp only[CI]at h;split at h
  .rename_i f ts d;split at h
   .rename_i he;simp only[zH,zq]at h;obtain⟨rfl,rfl⟩:=h;have e1:first=#[]:=by simpa using he
    subst e1;have e2:W.map a.eval=(ts.map (·.ev ρ β)).toArray:=by
     apply yD;rw[yE,Iz J d]
    simp[Instr.makeFunc,T.ev,CK,e2]
   .simp at h
  .simp at h
 |nilCheck x=>
  simp only[CI]at h;split at h
  .rename_i f cs d;simp only[zH,zq]at h;obtain⟨rfl,rfl⟩:=h;simp only[Bc J d,T.ev,zX]
  .rename_i p _ d;split at h
   .rename_i G;simp only[zH,zq]at h;obtain⟨rfl,rfl⟩:=h;obtain⟨q,E⟩:=nn_some G A;grind[Bc,zX]
   .simp at h
  .simp at h
 |slice ty x lo hi mx=>
  simp only[CI]at h;split at h
  .rename_i s hu d;split at h
   .rename_i l hh I hl hhi;split at h
    .rename_i j k hlk hhk;simp only[zH,zq]at h;obtain⟨rfl,rfl⟩:=h;simp only[Bc J d,yF,zV,run_sliceS hu I hlk hhk (lohi J hl) (lohi J hhi) (A _ (zZ.2 rfl)),zW,zX]
    .simp at h
   .simp at h
  .rename_i e s hu d;split at h
   .rename_i sz l hh I S hl hhi;split at h
    .rename_i j k hlk hhk;simp only[zH,zq]at h;obtain⟨rfl,rfl⟩:=h;simp only[Bc J d,yF,zV,run_sliceL hu S I hlk hhk (lohi J hl) (lohi J hhi) (A _ (zZ.2 rfl)),zW,zX]
    .simp at h
   .simp at h
  .simp at h
 |call c=>
  simp only[CI]at h;have Y:∀{x:T},opTs st c.args.toList=some [x]->c.args.map a.eval=#[x.ev ρ β]:=λ{x} d=>by
   apply yD;rw[yE,Iz J d];rfl
  split at h
  .rename_i x ty hc d Z;have ht:c.argTypes=#[ty]:=by grind
   split at h
   .rename_i e G hu;simp only[zH,zq]at h;obtain⟨rfl,rfl⟩:=h;obtain⟨p,n,cp,hx⟩:=HO (ρ:=ρ) (β:=β) G;simp only[resolve,hc,Y d,ht,zV,zX,zW,invoke,builtin,hx,Jo,EW];simp[yG,run_underlying hu,goInt]
   .rename_i G hu;simp only[zH,zq]at h;obtain⟨rfl,rfl⟩:=h;obtain⟨s,hx⟩:=Gq (ρ:=ρ) (β:=β) G;simp only[resolve,hc,Y d,ht,zV,zX,zW,invoke,builtin,hx,T.ev,U.ev,A0];simp[yG,run_underlying hu,goInt]
   .simp at h
  .rename_i x ty hc d Z;have ht:c.argTypes=#[ty]:=by grind
   split at h
   .rename_i e G hu;simp only[zH,zq]at h;obtain⟨rfl,rfl⟩:=h;obtain⟨p,n,cp,hx⟩:=HO (ρ:=ρ) (β:=β) G;simp only[resolve,hc,Y d,ht,zV,zX,zW,invoke,builtin,hx,KT,asCap];simp[Builtin.cap_,run_underlying hu,goInt]
   .simp at h
  .simp at h
 |_=>simp[CI]at h
end
theorem lookup_mem:∀{l:List (Nat×T)}{s:Nat}{t:T},l.lookup s=some t->(s,t)∈l
 |(s',q)::l,s,t,h=>by
  rw[yH]at h;split at h;.rename_i e;simp only[beq_iff_eq]at e;subst e;simp only[zH]at h;subst h;exact yI
  .exact yJ _ (lookup_mem h)
theorem KY:∀{l:List (Nat×T×Nat)}{s:Nat}{t:T×Nat},l.lookup s=some t->(s,t)∈l
 |(s',q)::l,s,t,h=>by
  rw[yH]at h;split at h;.rename_i e;simp only[beq_iff_eq]at e;subst e;simp only[zH]at h;subst h;exact yI
  .exact yJ _ (KY h)
theorem HQ{st:St}{s:Nat}{t:T}(h:st.get s=some t):st.slots.lookup s=some t:=by
 grind[St.get]
theorem get_ne{st:St}{s:Nat}{t:T}(h:st.get s=some t):t≠.nil:=by
 grind[St.get]
theorem Ju(st:St)(d s:Nat)(t:T):(st.put d t).get s=if s=d then(if t=.nil then none else some t)else st.get s:=by
 grind[St.get,St.put]
theorem wf_get{st:St}(h:st.wf=true){s:Nat}{t:T}(q:st.get s=some t):t.wf st.nv st.nb=true:=by
 simp only[St.wf,zD,yK]at h;exact h.1 _ (lookup_mem (HQ q))
theorem Ha{st:St}(h:st.wf=true){i:Nat}{cs:T}{ty:Nat}(q:st.box i=some (cs,ty)):i<st.nb/\cs.wf st.nv st.nb=true:=by
 simp only[St.wf,zD,yK,decide_eq_true_eq]at h;exact h.2 _ (KY q)
section
variable{P:Program}{O V0:Mem}{w0:World}{N:Nat}{β:Nat->Nat}{st:St}{ρ:XV}{V:Mem}{a:Act}{w:World}{tmps:XQ}
theorem Rel.put(h:Rel O V0 w0 N β st ρ V tmps w){d:Nat}(J:d<N)(t:T):Rel O V0 w0 N β (st.put d t) ρ V (tmps.setIfInBounds d (t.ev ρ β)) w:=
 {nv:=h.nv
  size:=by simpa using h.size
  slots:=λs G q=>by
   rw[Ju]at q;split at q
   .rename_i e;subst e;split at q;.simp at q
    .simp only[zH]at q;subst q;have:s<tmps.size:=by rw[h.size];exact J
     simp_all
   .rename_i e;rw[<-h.slots s G q];by_cases hlt:s<tmps.size;.simp[yL,hlt,show ¬d=s by omega]
    simp_all
  frm:=h.frm
  boxes:=h.boxes
  hid:=h.hid
  inj:=h.inj}
theorem Rel.putO(h:Rel O V0 w0 N β st ρ V a.tmps w){d:XU}(q:DI N d=true)(t:T){v:Value}(hv:v=t.ev ρ β):
  Rel O V0 w0 N β (st.putO d t) ρ V (a.put d v).tmps w:=by
 subst hv;cases d with
 |none=>exact h
 |some d=>exact h.put (by simpa [DI]using q) t
theorem K0{l:List (Nat×T)}:∀{keep:XA}{s:Nat}{t:T},(HA l keep).lookup s=some t->l.lookup s=some t
 |[],s,t,h=>by simp[HA]at h
 |k::ks,s,t,h=>by
  simp only[HA]at h;split at h
  .rename_i q d;rw[yH]at h;split at h;.simp_all
   .exact K0 h
  .exact K0 h
theorem K4{d:Nat}:∀{l:List (Nat×T)}{s:Nat}{t:T},(l.filter (λx=>x.1 !=d)).lookup s=some t->l.lookup s=some t
 |[],s,t,h=>by simp at h
 |(k,x)::l,s,t,h=>by
  rw[yH];simp only[yM]at h;by_cases e:k=d
  .subst e;simp only[bne_self_eq_false,zY,if_false]at h;have hm:=lookup_mem h;have q:s≠k:=by simp_all
   have:(s==k)=false:=by simpa using q
   rw[this];exact K4 h
  .have J:(k !=d)=true:=by simpa using e
   simp only[J,if_true,yH]at h;split at h;.simp_all
   .simp_all;exact K4 h
theorem Rel.fewer(h:Rel O V0 w0 N β st ρ V tmps w)(l:List (Nat×T))(q:∀s t,l.lookup s=some t->st.slots.lookup s=some t):Rel O V0 w0 N β {st with slots:=l} ρ V tmps w:=
 {h with
  slots:=λs t d=>h.slots s t (by
   grind[St.get,absurd])
  boxes:=h.boxes
  hid:=h.hid
  inj:=h.inj}
theorem Rel.compact(h:Rel O V0 w0 N β st ρ V tmps w)(keep:XA):Rel O V0 w0 N β (st.compact keep) ρ V tmps w:=h.fewer _ λ_ _=>K0
theorem Rel.drop(h:Rel O V0 w0 N β st ρ V tmps w)(d:Nat):Rel O V0 w0 N β (st.drop d) ρ V tmps w:=h.fewer _ λ_ _=>K4
theorem Rel.now(h:Rel O V0 w0 N β st ρ V tmps w){d:Nat}{t J:T}(G:st.get d=some t)(Z:t.ev ρ β=J.ev ρ β):Rel O V0 w0 N β (st.now d J) ρ V tmps w:=
 {h.drop d with
  slots:=λs x q=>by
   unfold St.now at q;rw[Ju]at q;split at q
   .rename_i e;subst e;split at q;.simp at q
    .simp only[zH]at q;subst q;rw[h.slots s t G,Z]
   .exact(h.drop d).slots s x q}
theorem MC{ρ vs:XV}{m:Nat}(h:m<ρ.length):ρ.getD m undef=(ρ++vs).getD m undef:=by
 grind
theorem Rel.bind(h:Rel O V0 w0 N β st ρ V tmps w)(hw:st.wf=true)(vs:XV):Rel O V0 w0 N β (st.more vs.length) (ρ++vs) V tmps w:=by
 have q:∀t:T,t.wf st.nv st.nb=true->t.ev ρ β=t.ev (ρ++vs) β/\t.evs ρ β=t.evs (ρ++vs) β:=
  T.ev_congr (λm hm=>MC (by rw[h.nv];exact hm)) (λ_ _=>rfl)
 exact
 {nv:=by simp[St.more,h.nv]
  size:=h.size
  slots:=λs t d=>(h.slots s t d).trans (q t (wf_get hw d)).1
  frm:=h.frm
  boxes:=λi cs ty J=>by
   have:=h.boxes i cs ty J;rw[<-(q cs (Ha hw J).2).2];exact this
  hid:=h.hid
  inj:=h.inj}
theorem Rel.frame(h:Rel O V0 w0 N β st ρ V tmps w){V':Mem}{w':World}(d:Ax V w V' w'):Rel O V0 w0 N β st ρ V' tmps w':=
 {nv:=h.nv
  size:=h.size
  slots:=h.slots
  frm:=h.frm.trans d
  boxes:=λi cs ty W=>by
   obtain⟨J,h2,h3,G⟩:=h.boxes i cs ty W;have q:β i<w.heap.size:=(yN.1 J).1;refine⟨(d.old _ q h2).trans J,?_,h3,G⟩;cases Z:V' (β i)with
   |none=>rfl
   |some o=>
    rcases d.dom (β i) (by simp[Z])with Y|Y;.grind
    .omega
  hid:=λb o A=>by
   obtain⟨J,h2,h3,G⟩:=h.hid b o A;have q:b<w.heap.size:=(yN.1 J).1;refine⟨(d.old _ q h2).trans J,?_,h3,G⟩;cases Z:V' b with
   |none=>rfl
   |some I=>
    rcases d.dom b (by simp[Z])with Y|Y;.grind
    .omega
  inj:=h.inj}
theorem MD(w:World)(o:Obj):(w.alloc o).heap[w.heap.size]?=some o:=by
 show(w.heap.push o)[w.heap.size]?=some o;simp
theorem IA(w:World)(o:Obj){b:Nat}(h:b<w.heap.size):(w.alloc o).heap[b]?=w.heap[b]?:=by
 show(w.heap.push o)[b]?=w.heap[b]?;grind
theorem le_none{V:Mem}{w:World}(h:V.le w){b:Nat}(d:w.heap.size<=b):V b=none:=by
 cases q:V b with
 |none=>rfl
 |some o=>have:=h b o q;simp_all
theorem Ax.alloc{V:Mem}{w:World}(h:V.le w)(o:Obj):Ax V w V (w.alloc o):=
 ⟨by simp_all,λb d q=>by
   have:=h b d q;grind[IA,yN],λb q _=>IA w o q,λ_ h=>.inl h,rfl,rfl⟩
def upd(β:Nat->Nat)(i b:Nat):Nat->Nat:=λj=>if j=i then b else β j
theorem Rel.alloc(h:Rel O V0 w0 N β st ρ V tmps w)(hw:st.wf=true){cs:T}(hc:cs.wf st.nv st.nb=true)(ty:Nat):
  Rel O V0 w0 N (upd β st.nb w.heap.size) {st with boxes:=(st.nb,cs,ty)::st.boxes,nb:=st.nb+1} ρ V tmps (w.alloc (.cells (cs.evs ρ β).toArray ty (0,0))):=by
 have Z:∀t:T,t.wf st.nv st.nb=true->t.ev ρ β=t.ev ρ (upd β st.nb w.heap.size)/\t.evs ρ β=t.evs ρ (upd β st.nb w.heap.size):=
  T.ev_congr (λ_ _=>rfl) (λi J=>by grind[upd])
 have q:∀(i:Nat)(x:T×Nat),St.box {st with boxes:=(st.nb,cs,ty)::st.boxes,nb:=st.nb+1} i=some x->(i=st.nb/\x=(cs,ty))∨(i≠st.nb/\st.box i=some x):=by
  grind[St.box,inr]
 have S:∀i,i≠st.nb->(st.box i).isSome=true->upd β st.nb w.heap.size i<w.heap.size:=by
  intro i J A;obtain⟨x,Y⟩:=yO.1 A;have:=(h.boxes i x.1 x.2 Y).1;grind[upd]
 exact
 {nv:=h.nv
  size:=h.size
  slots:=λs t A=>(h.slots s t A).trans (Z t (wf_get hw A)).1
  frm:=h.frm.trans (Ax.alloc h.frm.le _)
  boxes:=λi I M J=>by
   rcases q i _ J with⟨rfl,e⟩|⟨G,d⟩
   .cases e;refine⟨?_,?_,?_,Nat.lt_succ_self _⟩;.rw[<-(Z cs hc).2];simp only[upd,if_true];exact MD w _
    .simp only[upd,if_true];exact le_none h.frm.le (Nat.le_refl _)
    .simp only[upd,if_true];exact h.frm.size
   .obtain⟨F,h2,h3,h4⟩:=h.boxes i I M d;grind[upd,Ha,IA,yN,Nat.lt_succ_of_lt]
  hid:=λb o hb=>by
   obtain⟨F,h2,h3,h4⟩:=h.hid b o hb;have X:b<w.heap.size:=(yN.1 F).1;refine⟨(IA w _ X).trans F,h2,h3,λi J=>?_⟩;obtain⟨x,Y⟩:=yO.1 J;rcases q i x Y with⟨rfl,_⟩|⟨G,d⟩;.grind[upd]
   grind[upd]
  inj:=λi j J hj E=>by
   obtain⟨x,Y⟩:=yO.1 J;obtain⟨y,hy⟩:=yO.1 hj;rcases q i x Y with⟨rfl,_⟩|⟨G,d⟩<;>rcases q j y hy with⟨rfl,_⟩|⟨W,D⟩
   .rfl
   .grind[upd]
   .grind[upd]
   .simp only[upd,if_neg G,if_neg W]at E;exact h.inj i j (by simp[d]) (by simp[D]) E}
theorem ME(w:World)(g:Nat)(cs:XQ):(w.setRow g cs).heap.size=w.heap.size:=by simp[World.setRow]
theorem setRow_other(w:World)(g:Nat)(cs:XQ){b:Nat}(h:b≠g):(w.setRow g cs).heap[b]?=w.heap[b]?:=by
 grind[World.setRow,absurd]
theorem Rel.setBox(h:Rel O V0 w0 N β st ρ V tmps w){i:Nat}{cs d:T}{ty:Nat}(hi:st.box i=some (cs,ty)) :
    Rel O V0 w0 N β (st.setBox i d ty) ρ V tmps (w.setRow (β i) (d.evs ρ β).toArray):=by
  obtain⟨X,h2,h3,D⟩:=h.boxes i cs ty hi;have Z:∀(j:Nat)(x:T×Nat),(st.setBox i d ty).box j=some x->(j=i/\x=(d,ty))∨(j≠i/\st.box j=some x):=by
    grind[St.box,St.setBox,inr]
  have q:∀j,((st.setBox i d ty).box j).isSome=true->(st.box j).isSome=true:=by
    intro j J;obtain⟨x,hx⟩:=yO.1 J;grind
  exact
  { nv:=h.nv
    size:=h.size
    slots:=h.slots
    frm:=⟨by grind [ME],fun b o Y=>by
              have G:b≠β i:=by grind
              rw[setRow_other w _ _ G];exact h.frm.le b o Y,λb Y E=>by
              rw[setRow_other w _ _ (by omega)];exact h.frm.old b Y E,h.frm.dom,h.frm.os,h.frm.out⟩
    boxes:=λj W M J=>by
      rcases Z j _ J with⟨rfl,e⟩|⟨G,A⟩
      · cases e;exact⟨setRow_heap w _ _ _ ty (0,0) X,h2,h3,D⟩
      · obtain⟨F,g2,g3,I⟩:=h.boxes j W M A;have S:β j≠β i:=λe=>G (h.inj j i (by simp[A]) (by simp[hi]) e);exact⟨(setRow_other w _ _ S).trans F,g2,g3,I⟩
    hid:=λb o Y=>by
      obtain⟨F,g2,g3,I⟩:=h.hid b o Y;exact⟨(setRow_other w _ _ (Ne.symm (I i (by simp[hi])))).trans F,g2,g3,λj J=>I j (q j J)⟩
    inj:=λj k J hk=>h.inj j k (q j J) (q k hk)}
theorem MF(f:T->T):∀(l:List (Nat×T))(s:Nat),(l.map (λx=>(x.1,f x.2))).lookup s=(l.lookup s).map f
 |[],s=>rfl
 |(s',t)::l,s=>by
  simp only[zI,yH];split;.rfl
  .exact MF f l s
theorem MG(f:T->T):∀(l:List (Nat×T×Nat))(s:Nat),(l.map (λx=>(x.1,f x.2.1,x.2.2))).lookup s=(l.lookup s).map λy=>(f y.1,y.2)
 |[],s=>rfl
 |(s',t)::l,s=>by
  simp only[zI,yH];split;.rfl
  .exact MG f l s
theorem K6(i:Nat):∀(l:List (Nat×T×Nat))(s:Nat),(l.filter (λx=>x.1 !=i)).lookup s=if s=i then none else l.lookup s
 |[],s=>by simp
 |(s',t)::l,s=>by
  simp only[yM];by_cases h:s'=i
  .subst h;simp only[bne_self_eq_false,zY,if_false,K6 s' l s,yH];grind
  .have q:(s' !=i)=true:=by simpa using h
   simp only[q,if_true,yH,K6 i l s];grind
theorem Rel.pubd(h:Rel O V0 w0 N β st ρ V tmps w)(hw:st.wf=true){i:Nat}{cs:T}{ty:Nat}(hi:st.box i=some (cs,ty)):
  Rel O V0 w0 N β (st.pubd i) (ρ++[.pointer (some ⟨β i,0,none⟩)]) (V.set (β i) (.cells (cs.evs ρ β).toArray ty (0,0))) tmps w:=by
 obtain⟨h1,h2,h3,h4⟩:=h.boxes i cs ty hi;have hp:(ρ++[zj (some ⟨β i,0,none⟩)]).getD st.nv undef=zj (some ⟨β i,0,none⟩):=by
  rw[<-h.nv];simp[zQ]
 have J:∀t:T,t.wf st.nv st.nb=true->(t.subst i st.nv).ev (ρ++[.pointer (some ⟨β i,0,none⟩)]) β=t.ev ρ β/\(t.subst i st.nv).evs (ρ++[.pointer (some ⟨β i,0,none⟩)]) β=t.evs ρ β:=by
  intro t ht;have e1:=T.ev_subst hp t;have e2:=T.ev_congr (ρ:=ρ) (ρ':=ρ++[.pointer (some ⟨β i,0,none⟩)]) (β:=β) (β':=β) (λm hm=>MC (by rw[h.nv];exact hm)) (λ_ _=>rfl) t ht;simp_all
 have G:∀(j:Nat)(x:T×Nat),(st.pubd i).box j=some x->j≠i/\∃y,st.box j=some y/\x=(y.1.subst i st.nv,y.2):=by
  intro j x Z;simp only[St.box,St.pubd,MG,K6]at Z;split at Z;.simp at Z
  .rename_i e;simp only[zn]at Z;obtain⟨y,Y,rfl⟩:=Z;exact⟨e,y,Y,rfl⟩
 have q:∀j,((st.pubd i).box j).isSome=true->(st.box j).isSome=true:=by
  grind[yO]
 exact
 {nv:=by simp[St.pubd,h.nv]
  size:=h.size
  slots:=λs t E=>by
   have S:=HQ E;simp only[St.pubd,MF,zn]at S;obtain⟨I,ht',rfl⟩:=S;have hg:st.get s=some I:=by
    unfold St.get;have W:I≠.nil:=λe=>get_ne E (by subst e;rfl);simp_all
   rw[(J I (wf_get hw hg)).1];exact h.slots s I hg
  frm:=
   {size:=h.frm.size
    le:=λb o d=>by
     by_cases e:b=β i;.grind[Mem.set_same]
     .rw[Mem.set_ne e]at d;exact h.frm.le b o d
    old:=h.frm.old
    dom:=λb d=>by
     by_cases e:b=β i;.omega
     .rw[Mem.set_ne e]at d;exact h.frm.dom b d
    os:=h.frm.os
    out:=h.frm.out}
  boxes:=λj cs' ty' A=>by
   obtain⟨W,y,Y,e⟩:=G j _ A;obtain⟨F,X,D,M⟩:=h.boxes j y.1 y.2 Y;cases e;have hn:β j≠β i:=λe=>W (h.inj j i (by simp[Y]) (by simp[hi]) e);rw[(J y.1 (Ha hw Y).2).2];exact⟨F,by rw[Mem.set_ne hn];exact X,D,M⟩
  hid:=λb o d=>by
   obtain⟨F,X,D,M⟩:=h.hid b o d;exact⟨F,by rw[Mem.set_ne (Ne.symm (M i (by simp[hi])))];exact X,D,λj A=>M j (q j A)⟩
  inj:=λj k A hk=>h.inj j k (q j A) (q k hk)}
end
section
variable{P:Program}{R:Ending->Mem->Prop}{O V0:Mem}{w0:World}{N:Nat}{L:List (XV->Mem->Prop)}{ρ0:XV}
structure Cs (ρ0:XV)(L:List (XV->Mem->Prop))(ρ:XV)(st:St):Prop where
 pre:ρ0<+:ρ
 depth:L.length=st.depth
theorem Cs.putO{ρ0:XV}{L:List (XV->Mem->Prop)}{ρ:XV}{st:St}(h:Cs ρ0 L ρ st)(d:XU)(t:T):Cs ρ0 L ρ (st.putO d t):=by
 cases d<;>exact⟨h.1,h.2⟩
theorem Cs.more{ρ0:XV}{L:List (XV->Mem->Prop)}{ρ:XV}{st:St}(h:Cs ρ0 L ρ st)(n:Nat)(vs:XV):Cs ρ0 L (ρ++vs) (st.more n):=⟨h.1.trans (yP _ _),h.2⟩
theorem Cs.pubd{ρ0:XV}{L:List (XV->Mem->Prop)}{ρ:XV}{st:St}(h:Cs ρ0 L ρ st)(i:Nat)(vs:XV):Cs ρ0 L (ρ++vs) (st.pubd i):=⟨h.1.trans (yP _ _),h.2⟩
theorem Cs.compact{ρ0:XV}{L:List (XV->Mem->Prop)}{ρ:XV}{st:St}(h:Cs ρ0 L ρ st)(keep:XA):Cs ρ0 L ρ (st.compact keep):=⟨h.1,h.2⟩
theorem Cs.now{ρ0:XV}{L:List (XV->Mem->Prop)}{ρ:XV}{st:St}(h:Cs ρ0 L ρ st)(d:Nat)(t:T):Cs ρ0 L ρ (st.now d t):=⟨h.1,h.2⟩
theorem Cs.setBox{ρ0:XV}{L:List (XV->Mem->Prop)}{ρ:XV}{st:St}(h:Cs ρ0 L ρ st)(i:Nat)(t:T)(ty:Nat):Cs ρ0 L ρ (st.setBox i t ty):=⟨h.1,h.2⟩
def A2(P:Program)(R:Ending->Mem->Prop)(O V0:Mem)(w0:World)(N:Nat)(L:List (XV->Mem->Prop))(ρ0:XV)(tmps:XQ)(w:World)(st:St)(t:Tr):Prop:=
 ∃β ρ V,Cs ρ0 L ρ st/\Rel O V0 w0 N β st ρ V tmps w/\D P R t L ρ V
theorem K7{ns:XJ}{k:Tr}{ρ:XV}{V:Mem}(h:D P R (needs ns k) L ρ V)(β:Nat->Nat):(∀x∈ns,asB (x.ev ρ β)=true)/\D P R k L ρ V:=by
 induction ns with
 |nil=>exact⟨λx q=>by(cases q),h⟩
 |cons n ns d=>
  simp only[needs]at h;split at h
  .rename_i Y;obtain⟨W,J⟩:=h;obtain⟨G,Z⟩:=d J;refine⟨λx q=>?_,Z⟩;rcases zJ.1 q with rfl|q;.grind[T.ev_free,id]
   .exact G x q
  .exact h.elim
theorem IB:∀(n:Nat)(st:St)(i:Nat)(k:St->Tr){tmps:XQ}{w:World},A2 P R O V0 w0 N L ρ0 tmps w st (HC n st i k)->∃d,A2 P R O V0 w0 N L ρ0 tmps w d (k d)
 |0,st,i,k,tmps,w,⟨β,ρ,V,G,J,q⟩=>q.elim
 |n+1,st,i,k,tmps,w,⟨β,ρ,V,G,J,q⟩=>by
  simp only[HC]at q;split at q;.exact q.elim
  .rename_i cs ty Z;split at q
   .rename_i j _;obtain⟨d,Y⟩:=IB n st j _ ⟨β,ρ,V,G,J,q⟩;exact IB n d i k Y
   .rename_i W;split at q
    .rename_i hw;have:=q (β i) (J.boxes i cs ty Z).2.1;rw[(T.ev_free (β:=id) (β':=β) (ρ:=ρ) cs W).2]at this;exact⟨_,β,_,_,G.pubd _ _,J.pubd hw Z,this⟩
    .exact q.elim
theorem Ea:∀(n:Nat)(st:St)(get:St->Option T)(k:St->T->Tr){tmps:XQ}{w:World},A2 P R O V0 w0 N L ρ0 tmps w st (pubT n st get k)->
  ∃q t,get q=some t/\t.firstBox=none/\A2 P R O V0 w0 N L ρ0 tmps w q (k q t)
 |0,st,get,k,tmps,w,⟨β,ρ,V,J,G,d⟩=>d.elim
 |n+1,st,get,k,tmps,w,⟨β,ρ,V,J,G,d⟩=>by
  simp only[pubT]at d;split at d;.exact d.elim
  .rename_i t Z;split at d
   .rename_i Y;exact⟨st,t,Z,Y,β,ρ,V,J,G,d⟩
   .rename_i i _;obtain⟨q,W⟩:=IB _ st i _ ⟨β,ρ,V,J,G,d⟩;exact Ea n q get k W
theorem rk_vals{β:Nat->Nat}:∀(rs:List RK)(vs ρ σ:XV),Shaped (rs.flatMap RK.kinds) vs->(EY rs ρ.length).map (·.ev (ρ++vs++σ) β)=GY rs vs
 |[],[],_,_,_=>rfl
 |[],_::_,_,_,h=>h.elim
 |.one k::rs,v::vs,ρ,σ,h=>by
  have d:=rk_vals (β:=β) rs vs (ρ++[v]) σ h.2;simp only[zK,zL,zM,zN,zO]at d;simp only[EY,zI,zM,zN,T.ev,d,GY,RK.val,RK.size,List.take_succ_cons,List.take_zero,List.headD_cons,List.drop_succ_cons,List.drop_zero,zP,and_true];have:(ρ++v::(vs++σ)).getD ρ.length undef=v:=by simp[zQ]
  rw[this];exact h.1
 |.one k::rs,[],_,_,h=>h.elim
 |.agg ks::rs,vs,ρ,σ,h=>by
  have J:=Mz (ks:=ks) (ls:=rs.flatMap RK.kinds) (vs:=vs) h;have q:(vs.take ks.length).length=ks.length:=J.1.length;have d:=rk_vals (β:=β) rs (vs.drop ks.length) (ρ++vs.take ks.length) σ J.2;have e:ρ++vs.take ks.length++vs.drop ks.length=ρ++vs:=by simp
  rw[e,zK,q]at d;have hv:=HN (β:=β) ks (vs.take ks.length) ρ (vs.drop ks.length++σ) J.1;have G:ρ++vs.take ks.length++(vs.drop ks.length++σ)=ρ++vs++σ:=by grind
  grind[EY,GY,RK.val,RK.size,T.ev,CK]
theorem rk_val{β:Nat->Nat}(rs:List RK)(vs ρ:XV)(h:Shaped (rs.flatMap RK.kinds) vs):(Hz rs ρ.length).ev (ρ++vs) β=El rs vs:=by
 have:=rk_vals (β:=β) rs vs ρ [] h;rw[List.append_nil]at this;unfold Hz El
 match rs,this,h with
 |[],_,_=>rfl
 |[r],this,h=>
  cases r with
  |one k=>
   simp only[EY,zI,List.map_nil,GY,RK.val,RK.size,zP,and_true]at this;simp only[EY];rw[this];cases vs<;>simp[RK.val]
  |agg ks=>
   have J:vs.length=ks.length:=by have:=h.length;simpa [RK.kinds]using this
   grind[EY,GY,RK.val,RK.size]
 |r::q::rs,this,_=>
  have G:∃t d ts,EY (r::q::rs) ρ.length=t::d::ts:=by cases r<;>cases q<;>exact⟨_,_,_,rfl⟩
  grind[T.ev,CK]
theorem HR{V:Mem}{w:World}(d:V.le w){b:Addr}{n:Nat}{vs:XV}(h:V.row b n=some vs):vs.length=n/\∀j v,vs[j]?=some v->w.cell? (b.add j)=some v:=by
 unfold Mem.row at h;split at h
 .rename_i c e fr J;split at h
  .rename_i G;simp only[zH]at h;subst h;refine⟨by simp;omega,λj v Y=>?_⟩;have Z:b.spot=none:=by simpa using G.1
   have q:(b.add j)=⟨b.block,b.off+j,none⟩:=by
    cases b with
    |mk W off A=>grind[Iu]
   rw[q];simp only[zz,d _ _ J,zy,zY,if_false];grind
  .simp at h
 .simp at h
theorem MH{w:World}{ρ:XV}{β:Nat->Nat}{t:TypeId}{cs x:T}{off:Nat}{b:Addr}(hc:∀j v,(cs.evs ρ β)[j]?=some v->w.cell? (b.add j)=some v)(h:DA P t cs off=some x):
  (loadVar t (b.add off)).run P w=.ok (x.ev ρ β) w:=by
 unfold DA at h;split at h
 .rename_i n d J;simp only at h;split at h
  .rename_i G;simp only[zH]at h;subst h;have e:(takeT cs off n).map (·.ev ρ β)=((cs.evs ρ β).drop off).take n:=KU cs off n;have q:(((cs.evs ρ β).drop off).take n).length=n:=by grind
   have:=run_loadCells_list (P:=P) w (b.add off) (((cs.evs ρ β).drop off).take n) (λj v Z=>by
    grind[Mx])
   rw[q]at this;simp only[loadVar,zV,Gs d,zW,if_true,En J,this,zX,T.ev,CK,e]
  .simp at h
 .rename_i n d J;have e:(cs.evs ρ β)[off]?=some (x.ev ρ β):=by simp[Dv,h]
  simp_all[loadVar,zV,Gs,zW,zY,if_false,run_load]
 .simp at h
end
def DV(P:Program)(fs:XA):Prop:=∀f∈fs,∀args w,(callFunc f args).run P w=.ok (.enter f args) w
section
variable{P:Program}{R:Ending->Mem->Prop}{O V0:Mem}{w0:World}{N:Nat}{L:List (XV->Mem->Prop)}{ρ0:XV}{fs:XA}{H:Cj}
theorem Gu{f:FuncId}{args:XQ}{w:World}{R q:Ending->World->Prop}(h:Calls P f args w R)(d:∀e w',R e w'->q e w'):Calls P f args w q:=λcs=>
 let⟨e,w',fr,J,rest⟩:=h cs
 ⟨e,w',fr,d _ _ J,rest⟩
theorem Jv{st:St}:∀{l:XA}{t:T},E0 st l=some t->∀s∈l,(l.zip t.toList).lookup s=st.get s
 |[],t,_,s,q=>by cases q
 |x::xs,t,h,s,q=>by
  simp only[E0]at h;split at h
  .rename_i G t2 d J;simp only[zH]at h;subst h;simp only[T.toList,List.zip_cons_cons,yH];by_cases e:s=x;.subst e;simp[d]
   .have:(s==x)=false:=by simpa using e
    rw[this];exact Jv J s (by rcases zJ.1 q with h|h;exact absurd h e;exact h)
  .simp at h
theorem Jw{st:St}:∀{l:XA}{t:T},E0 st l=some t->∀s∈l,∃x,st.get s=some x/\x∈t.toList
 |[],t,_,s,q=>by cases q
 |x::xs,t,h,s,q=>by
  simp only[E0]at h;split at h
  .rename_i G t2 Z d;simp only[zH]at h;subst h;rcases zJ.1 q with rfl|q;.grind[T.toList]
   .obtain⟨y,J,hm⟩:=Jw d s q;exact⟨y,J,by simp[T.toList,hm]⟩
  .simp at h
theorem Jx:∀{t:T}{x:T},t.firstBox=none->x∈t.toList->x.firstBox=none
 |.cons h t,x,d,q=>by
  simp only[T.firstBox,zE]at d;simp only[T.toList,zJ]at q;rcases q with rfl|q;.exact d.1
  .exact Jx d.2 q
 |.var _ _,x,_,q=>by simp[T.toList]at q
 |.int _ _,x,_,q=>by simp[T.toList]at q
 |.bool _,x,_,q=>by simp[T.toList]at q
 |.str _,x,_,q=>by simp[T.toList]at q
 |.und,x,_,q=>by simp[T.toList]at q
 |.nilp,x,_,q=>by simp[T.toList]at q
 |.nilsl,x,_,q=>by simp[T.toList]at q
 |.nilm,x,_,q=>by simp[T.toList]at q
 |.nilf,x,_,q=>by simp[T.toList]at q
 |.nili,x,_,q=>by simp[T.toList]at q
 |.box _ _,x,_,q=>by simp[T.toList]at q
 |.glob _,x,_,q=>by simp[T.toList]at q
 |.fn _ _,x,_,q=>by simp[T.toList]at q
 |.u _ _,x,_,q=>by simp[T.toList]at q
 |.b2 _ _ _,x,_,q=>by simp[T.toList]at q
 |.c3 _ _ _ _,x,_,q=>by simp[T.toList]at q
 |.nil,x,_,q=>by simp[T.toList]at q
 |.agg _,x,_,q=>by simp[T.toList]at q
 |.tup _,x,_,q=>by simp[T.toList]at q
theorem lookup_ev{ρ:XV}:∀{l:List (Nat×T)}{s:Nat},(l.map λx=>(x.1,x.2.ev ρ id)).lookup s=(l.lookup s).map (·.ev ρ id)
 |[],_=>rfl
 |(n,t)::l,s=>by
  simp only[zI,yH];split;.rfl
  .exact lookup_ev
theorem gval_eval{st:St}{β:Nat->Nat}{ρ:XV}{V:Mem}{a:Act}{w:World}(G:Rel O V0 w0 N β st ρ V a.tmps w){l:List Operand}{t:T}(q:E0 st (Fo l)=some t)(Z:t.firstBox=none):
  ∀x∈l,a.eval x=gval ((Fo l).zip t.toList) ρ x:=by
 intro x Y;cases x with
 |tmp s=>
  have d:s∈Fo l:=List.mem_filterMap.2 ⟨_,Y,rfl⟩;obtain⟨y,J,hm⟩:=Jw q s d;have W:=Jv q s d;simp only[gval,gv,lookup_ev,W,J,zR,Option.getD_some];rw[(T.ev_free (β:=id) (β':=β) (ρ:=ρ) y (Jx Z hm)).1];exact G.slots s y J
 |const v=>rfl
 |global g=>rfl
 |func f=>rfl
theorem MI{st:St}{β:Nat->Nat}{ρ:XV}{V:Mem}{a:Act}{w:World}(q:Rel O V0 w0 N β st ρ V a.tmps w){o:Oper}(Y:Fp o.op=false){t:T}(d:E0 st (Fo o.op.operands.toList)=some t)(J:t.firstBox=none):
  execOp a.eval o=execOp (gval ((Fo o.op.operands.toList).zip t.toList) ρ) { dst:=none,op:=o.op,type:=o.type,pos:= "",after:=#[],guard:=none}:=by
 have G:=execOp_congr (ρ:=a.eval) (ρ':=gval ((Fo o.op.operands.toList).zip t.toList) ρ) o (λcs b e=>by grind[Fp])
  (λx Z=>gval_eval q d J x (by simpa using Z))
 rw[G];rfl
variable{a:Act}{w:World}{st:St}{o:Oper}{k:St->Tr}{next:Act->World->Prop}{Q:Exit->Act->World->Prop}
def Fu(R:Ending->Mem->Prop)(V0:Mem)(w0:World)(ds:List Deferred)(Q:Exit->Act->World->Prop):Prop:=∀chain q w',q.defers=ds->(∃V',R (.panicked chain) V'/\Ax V0 w0 V' w')->Q (.panic chain) q w'
theorem exCall_sound(Y:DV P fs)(hQ:Fu R V0 w0 a.defers Q){c:Call}{f:Operand}(hop:o.op=.call c)(hcf:c.callee=.value f)(hd:DI N o.dst=true)
  (h:A2 P R O V0 w0 N L ρ0 a.tmps w st (exCall P fs st o c f k))
  (hk:∀W a' w',(∃v,a'=a.put o.dst v)->A2 P R O V0 w0 N L ρ0 a'.tmps w' W (k W)->next a' w'):o.wp P a w next Q:=by
 obtain⟨β,ρ,V,hp,M,F⟩:=h;unfold exCall at F;split at F;.exact F.elim
 .rename_i rs hrs;have after:∀(st:St)(β:Nat->Nat)(ρ:XV)(V:Mem),Cs ρ0 L ρ st->Rel O V0 w0 N β st ρ V a.tmps w->st.wf=true->∀(g:FuncId)(args:XQ),
    Tri P g args V (λe V'=>(∃vs,e=.returned (El rs vs)/\Shaped (rs.flatMap RK.kinds) vs/\D P R (k ((st.more (G4 rs)).putO o.dst (Hz rs st.nv))) L (ρ++vs) V')∨∃ch,e=.panicked ch/\R e V')->
    Calls P g args w fun
     |.returned v,X=>next (a.put o.dst v) X
     |.panicked chain,X=>Q (.panic chain) a X
     |.outgrown,_=>LetsOut Q:=by
   intro st β ρ V hp M hw g args ht;refine Gu (ht w M.frm.le) ?_;rintro e w' ⟨V',⟨vs,rfl,hsh,q⟩|⟨ch,rfl,hR⟩,hF⟩;rotate_left;.exact hQ ch a w' rfl ⟨V',hR,(M.frame hF).frm⟩
   refine hk _ _ _ ⟨_,rfl⟩ ⟨β,ρ++vs,V',(hp.more _ _).putO _ _,?_,q⟩;have hl:vs.length=G4 rs:=hsh.length;have h1:=(M.frame hF).bind hw vs;rw[hl]at h1;exact h1.putO hd _ (by rw[<-M.nv];grind[rk_val])
  split at F
  .rename_i g0 caps0 hf0;obtain⟨W,t,A,G,d,J,V',hp',Z,q⟩:=Ea _ _ _ _ ⟨β,ρ,V,hp,M,F⟩;split at A
   .rename_i g caps ts E S;simp only[zH]at A;subst A;simp only at q;split at q
    .rename_i I;unfold bind at q;split at q
     .rename_i hw;simp only[D]at q;have e1:a.eval f=.func (.func g) #[] (caps.evs J d).toArray:=Bc Z E;have e2:c.args.map a.eval=(ts.map (·.ev J d)).toArray:=by apply yD;rw[yE,Iz Z S]
      have hev:=(T.ev_free (β:=id) (β':=d) (ρ:=J) (T.ofList (ts++caps.toList)) (by grind[T.firstBox])).2;have hargs:(T.evs J id (T.ofList (ts++caps.toList))).toArray=(ts.map (·.ev J d)).toArray++(caps.evs J d).toArray:=by
       grind[CK,Dv]
      have hrun:(execOp a.eval o).run P w=.ok (.enter g ((ts.map (·.ev J d)).toArray++(caps.evs J d).toArray)) w:=by
       unfold execOp;simp only[hop,resolve,hcf,e1,e2,yQ,zV,zX,zW,invoke];rw[Y g (List.contains_iff_mem.1 I)];simp
      grind[yR,Oper.upon]
     .exact q.elim
    .exact q.elim
   .simp at A
  .rename_i t0 hf0 _;obtain⟨W,t,A,G,d,J,V',hp',Z,q⟩:=Ea _ _ _ _ ⟨β,ρ,V,hp,M,F⟩;split at A
   .rename_i t1 ts E S;simp only[zH]at A;subst A;simp only at q;unfold bind at q;split at q
    .rename_i hw;simp only[D]at q;obtain⟨g,first,caps,hfv,I,q⟩:=q;simp only[T.firstBox,zE]at G;rw[(T.ev_free (β:=id) (β':=d) (ρ:=J) t1 G.1).1]at hfv;have e1:a.eval f=.func (.func g) first caps:=(Bc Z E).trans hfv
     have e2:c.args.map a.eval=(ts.map (·.ev J d)).toArray:=by apply yD;rw[yE,Iz Z S]
     have hev:=(T.ev_free (β:=id) (β':=d) (ρ:=J) (T.ofList ts) G.2).2;have hrun:(execOp a.eval o).run P w=.ok (.enter g (first++(ts.map (·.ev J d)).toArray++caps)) w:=by
      grind[execOp,resolve,yQ,invoke]
     grind[yR,Oper.upon,CK]
    .exact q.elim
   .simp at A
  .exact F.elim
end
section
variable{P:Program}{R:Ending->Mem->Prop}{O V0:Mem}{w0:World}{N:Nat}{L:List (XV->Mem->Prop)}{ρ0:XV}{fs:XA}{H:Cj}
variable{a:Act}{w:World}{st:St}{o:Oper}{k:St->Tr}{next:Act->World->Prop}{Q:Exit->Act->World->Prop}
theorem Jy{v:Value}{w':World}(h:(execOp a.eval o).run P w=.ok (.value v) w')(q:next (a.put o.dst v) w'):o.wp P a w next Q:=by
 unfold yR;rw[h];exact q
theorem K8{w':World}(h:(execOp a.eval o).run P w=.ok .skip w')(q:next (a.put o.dst undef) w'):o.wp P a w next Q:=by
 unfold yR;rw[h];exact q
theorem EI(a:Act)(d:XU)(v:Value):(a.put d v).defers=a.defers:=by cases d<;>rfl
theorem MJ(hd:DI N o.dst=true)
  (h:A2 P R O V0 w0 N L ρ0 a.tmps w st (exGen P st o k))
  (hk:∀Z E w',(∃v,E=a.put o.dst v)->A2 P R O V0 w0 N L ρ0 E.tmps w' Z (k Z)->next E w'):o.wp P a w next Q:=by
 obtain⟨β,ρ,V,hp,hr,Y⟩:=h;unfold exGen at Y;simp only at Y;split at Y;.exact Y.elim
 .rename_i F;have G:Fp o.op=false:=by simpa using F
  split at Y
  .obtain⟨Z,t,S,J,W,A,V',I,q,d⟩:=Ea _ _ _ _ ⟨β,ρ,V,hp,hr,Y⟩;simp only[D]at d;obtain⟨w',M,X,h2,h3⟩:=d w q.frm.le;rw[<-MI q G S J]at X;refine K8 X (hk _ _ _ ⟨_,rfl⟩ ⟨W,A,M,I.putO _ _,?_,h3⟩);exact(q.frame h2).putO hd .und rfl
  .split at Y;.exact Y.elim
   .rename_i rs hrs;obtain⟨Z,t,S,J,W,A,V',I,q,d⟩:=Ea _ _ _ _ ⟨β,ρ,V,hp,hr,Y⟩;unfold bind at d;split at d
    .rename_i hw;simp only[D]at d;obtain⟨x,w',M,vs,X,h2,rfl,h3,h4⟩:=d w q.frm.le;rw[<-MI q G S J]at X;refine Jy X (hk _ _ _ ⟨_,rfl⟩ ⟨W,A++vs,M,(I.more _ _).putO _ _,?_,h4⟩);have hl:vs.length=G4 rs:=h3.length;have h5:=(q.frame h2).bind hw vs;rw[hl]at h5;exact h5.putO hd _ (by rw[<-q.nv];grind[rk_val])
    .exact d.elim
theorem Jz{p b i:T}{sz off:Nat}{e:XU}{ρ:XV}{β:Nat->Nat}(h:G5 p=(b,i,sz,off,e))(q:p.kind=some .p):
  match e with
  |some _=>AP (p.ev ρ β)=Aa (Aa (AP (b.ev ρ β)) ((Ar (i.ev ρ β)).toNat*sz)) off
  |none=>AP (p.ev ρ β)=Aa (AP (b.ev ρ β)) ((Ar (i.ev ρ β)).toNat*sz):=by
 unfold G5 at h;split at h;.grind[T.ev,U.ev,B.ev,AP]
 .cases h;simp only[T.ev,B.ev,AP,Iw,Nat.add_zero]
 .grind[T.ev,U.ev,AP,Ar]
 .cases h;simp_all[T.ev,Ar,Int.toNat_zero,Nat.zero_mul,AP,Aa,zF]
theorem exLoad_sound{t:TypeId}{x:Operand}(hop:o.op=.load t x)(hd:DI N o.dst=true)
  (h:A2 P R O V0 w0 N L ρ0 a.tmps w st (HF P st o.dst t x k))
  (hk:∀Z a' w',(∃v,a'=a.put o.dst v)->A2 P R O V0 w0 N L ρ0 a'.tmps w' Z (k Z)->next a' w'):o.wp P a w next Q:=by
 obtain⟨β,ρ,V,hp,hr,hD⟩:=h;unfold HF at hD;obtain⟨Z,p,hg,hfree,J,G,V',hp',Y,d⟩:=Ea _ _ _ _ ⟨β,ρ,V,hp,hr,hD⟩;have hx:a.eval x=p.ev G J:=Bc Y hg;have X:∀{b i sz off e},G5 p=(b,i,sz,off,e)->b.firstBox=none/\i.firstBox=none:=by
  intro b i sz off e M;unfold G5 at M;grind[T.firstBox]
 have go:∀(q:Addr)(ks:List K)(vs:XV)(off:Nat)(z:T),AP (p.ev G J)=some (q.add off)->p.kind=some .p->Shaped ks vs->Z.wf=true->
   (∀j v,vs[j]?=some v->w.cell? (q.add j)=some v)->DA P t (T.ofList (vars ks Z.nv)) off=some z->D P R (k ((Z.more ks.length).putO o.dst z)) L (G++vs) V'->o.wp P a w next Q:=by
  intro q ks vs off z A W E hw hc hz hD2;have hl:vs.length=ks.length:=E.length;have S:=Y.bind hw vs;rw[hl]at S;have hev:(T.ofList (vars ks Z.nv)).evs (G++vs) J=vs:=by
   rw[CK,<-Y.nv];have:=HN (β:=J) ks vs G [] E;simp_all
  have hrun:=MH (P:=P) (w:=w) (ρ:=G++vs) (β:=J) (b:=q) (by grind) hz;obtain⟨p',hpe⟩:=G9 (ρ:=G) (β:=J) W;rw[hpe]at A;simp only[AP]at A;subst A;refine Jy (v:=z.ev (G++vs) J) ?_ (hk _ _ _ ⟨_,rfl⟩ ⟨J,G++vs,V',(hp'.more _ _).putO _ _,S.putO hd z rfl,hD2⟩);grind[execOp,Instr.loadAt,yC,zV,zX,zW]
 split at d;case isFalse=>exact d.elim
 rename_i W;split at d
 .rename_i b i sz off e M;obtain⟨hb,hi⟩:=X M;split at d
  .rename_i ks hks;split at d
   .rename_i hlen;unfold bind at d;split at d
    .rename_i hw;split at d
     .rename_i z hz;simp only[D]at d;obtain⟨vs,I,h2,h3⟩:=d;have F:=Jz (ρ:=G) (β:=J) M W;simp only at F;rw[(T.ev_free (β:=id) (β':=J) (ρ:=G) b hb).1,(T.ev_free (β:=id) (β':=J) (ρ:=G) i hi).1]at I;cases A:AP (b.ev G J)with
      |none=>simp[A,Mem.rowp]at I
      |some q=>
       simp only[A,Mem.rowp]at I;obtain⟨_,h4⟩:=HR Y.frm.le I;grind[Aa]
     .exact d.elim
    .exact d.elim
   .exact d.elim
  .exact d.elim
 .rename_i b i sz off M;obtain⟨hb,hi⟩:=X M;split at d
  .rename_i ks hks;unfold bind at d;split at d
   .rename_i hw;split at d
    .rename_i z hz;simp only[D]at d;obtain⟨vs,I,h2,h3⟩:=d;have F:=Jz (ρ:=G) (β:=J) M W;simp only at F;rw[(T.ev_free (β:=id) (β':=J) (ρ:=G) b hb).1,(T.ev_free (β:=id) (β':=J) (ρ:=G) i hi).1]at I;cases A:AP (b.ev G J)with
     |none=>simp[A,Mem.rowp]at I
     |some q=>
      simp only[A,Mem.rowp]at I;obtain⟨_,h4⟩:=HR Y.frm.le I;rw[A]at F;simp only[Aa,zR]at F;exact go _ ks vs 0 z (by rw[F,zF]) W h2 hw h4 hz h3
    .exact d.elim
   .exact d.elim
  .exact d.elim
end
section
variable{P:Program}{R:Ending->Mem->Prop}{O V0:Mem}{w0:World}{N:Nat}{L:List (XV->Mem->Prop)}{ρ0:XV}{fs:XA}{H:Cj}
variable{a:Act}{w:World}{st:St}{o:Oper}{k:St->Tr}{next:Act->World->Prop}{Q:Exit->Act->World->Prop}
theorem MK{t:TypeId}{n g off:Nat}{v:Value}{vs:XV}{q:XQ}{ty:TypeId}(G:CC P t=some n)(hv:v.cells.toList=vs)(Z:vs.length=n)
  (d:w.heap[g]?=some (.cells q ty (0,0))) (Y:off+n<=q.size) (W:∀x∈vs,Gl x=true):
  (storeVar t ⟨g,off,none⟩ v).run P w=.ok () (w.setRow g (q.toList.take off++vs++q.toList.drop (off+n)).toArray):=by
 have J:v.cells.size=n:=by grind
 have:=run_storeCells_at (P:=P) g off ty vs 0 q w d (by omega) (λx A=>by grind[oneCell_eq]);simp_all[storeVar,zV,En,zW,ne_eq,not_true_eq_false,if_false]
theorem kinds_one{t:T}{ρ:XV}{β:Nat->Nat}(h:(Di t).isSome=true):∀x∈t.evs ρ β,Gl x=true:=by
 obtain⟨ks,q⟩:=yO.1 h;exact(My (ρ:=ρ) (β:=β) t ks q).one
theorem OB{t:TypeId}{x y:Operand}(hop:o.op=.store t x y)(E:o.dst=none)
  (h:A2 P R O V0 w0 N L ρ0 a.tmps w st (exStore st t (CC P t) x y k))
  (hk:∀X a' w',(∃v,a'=a.put o.dst v)->A2 P R O V0 w0 N L ρ0 a'.tmps w' X (k X)->next a' w'):o.wp P a w next Q:=by
 obtain⟨β,ρ,V,hp,S,M⟩:=h;have F:∀v,(a.put o.dst v)=a:=by rw[E];intro v;rfl
 unfold exStore at M;split at M
 .rename_i i off v n hx hy hs;split at M
  .rename_i cs ty hb;split at M
   .rename_i hc;obtain⟨h1,h2,h3,h4⟩:=hc;have hB:=(S.boxes i cs ty hb).1;have e1:a.eval x=.pointer (some ⟨β i,off,none⟩):=Bc S hx;have e2:a.eval y=v.ev ρ β:=Bc S hy;have J:=Jr (ρ:=ρ) (β:=β) h3;have Y:(v.cellsT.evs ρ β).length=n:=by grind[Dv]
    have W:=MK (P:=P) hs J Y hB (by rw[ze,Dv];simpa using h2) (kinds_one h3);have e3:((cs.evs ρ β).toArray.toList.take off++v.cellsT.evs ρ β++(cs.evs ρ β).toArray.toList.drop (off+n))=(T.ofList (cs.toList.take off++v.cellsT.toList++cs.toList.drop (off+n))).evs ρ β:=by
     rw[CK];simp[Dv,zT,zU]
    rw[e3]at W;refine K8 (w':=w.setRow (β i) ((T.ofList (cs.toList.take off++v.cellsT.toList++cs.toList.drop (off+n))).evs ρ β).toArray) ?_ (hk _ _ _ ⟨_,rfl⟩ ⟨β,ρ,V,hp.setBox _ _ _,?_,M⟩);.grind[execOp,yS,yC,zV,zX,zW]
    .rw[F];exact S.setBox hb
   .exact M.elim
  .exact M.elim
 .rename_i n _ _ _ hs;obtain⟨X,q,hg,Z,d,G,V',hp',A,I⟩:=Ea _ _ _ _ ⟨β,ρ,V,hp,S,M⟩;split at hg
  .rename_i p v hx hy;simp only[zH]at hg;subst hg;simp only at I;split at I
   .rename_i hc;obtain⟨h1,h2,h3,h4⟩:=hc;simp only[T.firstBox,zE]at Z;simp only[D]at I;obtain⟨b,c,ty,g1,g2,g3,g4,g5⟩:=I;rw[(T.ev_free (β:=id) (β':=d) (ρ:=G) p Z.1).1]at g1;rw[(T.ev_free (β:=id) (β':=d) (ρ:=G) _ Z.2).2]at g4 g5;obtain⟨p',hpe⟩:=G9 (ρ:=G) (β:=d) h1;rw[hpe]at g1;simp only[AP]at g1;subst g1;have e1:a.eval x=.pointer (some b):=(Bc A hx).trans hpe;have e2:a.eval y=v.ev G d:=Bc A hy;have J:=Jr (ρ:=G) (β:=d) h3;have Y:(v.cellsT.evs G d).length=n:=by grind[Dv]
    have hb:b=⟨b.block,b.off,none⟩:=by cases b;simp_all
    have hB:=A.frm.le _ _ g2;simp only[Nat.add_zero,Y]at g4 g5;have W:=MK (P:=P) (off:=b.off) hs J Y hB g4 (kinds_one h3);rw[<-hb]at W;refine K8 (w':=w.setRow b.block (c.toList.take b.off++v.cellsT.evs G d++c.toList.drop (b.off+n)).toArray) ?_ (hk _ _ _ ⟨_,rfl⟩ ⟨d,G,_,hp',?_,g5⟩);.grind[execOp,yS,yC,zV,zX,zW]
    .rw[F];refine A.frame ⟨by rw[ME];omega,λi obj hi=>?_,λi hi hV=>?_,λi hi=>?_,rfl,rfl⟩
     .by_cases e:i=b.block;.grind[Mem.set_same,setRow_heap]
      .rw[Mem.set_ne e]at hi;rw[setRow_other w _ _ e];exact A.frm.le i obj hi
     .grind[setRow_other]
     grind[Mem.set_ne]
   .exact I.elim
  .simp at hg
 .exact M.elim
theorem K9{cs:T}{ty:Nat}{v:Nat->T}{x:Nat->Value}(E:DI N o.dst=true)
  {β:Nat->Nat} {ρ:XV} {V:Mem} (F:Cs ρ0 L ρ st) (S:Rel O V0 w0 N β st ρ V a.tmps w) (J:D P R (HD H st o.dst cs ty v k) L ρ V)
  (W:(execOp a.eval o).run P w=.ok (.value (x w.heap.size)) (w.alloc (.cells (cs.evs ρ β).toArray ty (0,0))))
  (hv:∀A:Nat->Nat,(v st.nb).ev ρ A=x (A st.nb))
  (X:∀G I w',(∃v,I=a.put o.dst v)->A2 P R O V0 w0 N L ρ0 I.tmps w' G (k G)->next I w'):o.wp P a w next Q:=by
 unfold HD at J;split at J
 .rename_i hw;simp only[zD]at hw;have M:=S.alloc hw.1 hw.2 ty;have hx:x w.heap.size=(v st.nb).ev ρ (upd β st.nb w.heap.size):=by rw[hv];simp[upd]
  have Z:Cs ρ0 L ρ (({st with boxes:=(st.nb,cs,ty)::st.boxes,nb:=st.nb+1}:St).putO o.dst (v st.nb)):=
   Cs.putO (st:={st with boxes:=(st.nb,cs,ty)::st.boxes,nb:=st.nb+1}) ⟨F.1,F.2⟩ _ _
  have Y:=M.putO E (v st.nb) hx;refine Jy W ?_;simp only at J;split at J
  .rename_i d q;split at J
   .obtain⟨G,h'⟩:=IB _ _ _ _ ⟨_,_,_,Z,Y,by simpa [q]using J⟩;grind
   .exact X _ _ _ ⟨_,rfl⟩ ⟨_,_,_,Z,Y,by omega⟩
  .rename_i q;exact X _ _ _ ⟨_,rfl⟩ ⟨_,_,_,Z,Y,by omega⟩
 .exact J.elim
theorem JA{t:TypeId}{cs:XJ}{ρ:XV}{β:Nat->Nat}(h:EX P t=some cs):∃z,EG P t=some z/\z.cells.toList=cs.map (·.ev ρ β):=by
 unfold EX at h;cases q:EG P t with
 |none=>simp[q]at h
 |some z=>simp only[q,zS]at h;exact⟨z,rfl,(Iy h).symm⟩
theorem mod_cells(q:XV)(m:Nat)(h:q.length=m+1):∀n,(Array.range (n*(m+1))).map (λi=>(q.toArray[i % q.toArray.size]!))=(zB n q).flatten.toArray:=by
 intro n;apply yD;simp only[yE,Array.toList_range,ze,h];apply zf;intro i;rw[List.getElem?_map];induction n generalizing i with
 |zero=>simp
 |succ n d=>
  by_cases Z:i<n*(m+1)
  .have Y:=d i;have e:(zB (n+1) q).flatten=(zB n q).flatten++q:=by
    rw[show n+1=n+1 from rfl,yT,yU];simp
   grind
  .have e:(zB (n+1) q).flatten=(zB n q).flatten++q:=by
    rw[show n+1=n+1 from rfl,yT,yU];simp
   have J:((zB n q).flatten).length=n*(m+1):=by simp[h]
   rw[e,List.getElem?_append_right (by omega),J];by_cases W:i<(n+1)*(m+1)
   .have G:i-n*(m+1)<m+1:=by grind
    have A:i % (m+1)=i-n*(m+1):=by
     have:i=(i-n*(m+1))+n*(m+1):=by omega
     rw[this,Nat.add_mul_mod_self_right,Nat.mod_eq_of_lt G];omega
    simp_all
   grind
end
section
variable{P:Program}{R:Ending->Mem->Prop}{O V0:Mem}{w0:World}{N:Nat}{L:List (XV->Mem->Prop)}{ρ0:XV}{fs:XA}{H:Cj}
theorem OC{a:Act}{w:World}{st:St}{o:Oper}{x:Operand}{next:Act->World->Prop}{Q:Exit->Act->World->Prop}(W:Fu R V0 w0 a.defers Q)(J:o.op=.panic x)
  (h:A2 P R O V0 w0 N L ρ0 a.tmps w st (exPanic st x)):o.wp P a w next Q:=by
 obtain⟨A,t,I,q,β,ρ,V,X,G,Z⟩:=Ea _ _ _ _ h;simp only[D]at Z;obtain⟨ty,v,Y,M⟩:=Z;rw[(T.ev_free (β:=id) (β':=β) (ρ:=ρ) t q).1]at Y;have F:a.eval x=.iface ty v:=(Bc G I).trans Y;have d:(execOp a.eval o).run P w=.halt (.panic (.iface ty v)) w:=by
  unfold execOp;simp only[J,F];rfl
 unfold yR;rw[d];exact W _ a w rfl ⟨V,M,G.frm⟩
theorem ML(Y:DV P fs){a:Act}{w:World}{st:St}{o:Oper}{k:St->Tr}{next:Act->World->Prop}{Q:Exit->Act->World->Prop}(hQ:Fu R V0 w0 a.defers Q)
  (h:A2 P R O V0 w0 H.N L ρ0 a.tmps w st (exOp P fs H st o k))
  (W:∀M a' w',(∃v,a'=a.put o.dst v)->A2 P R O V0 w0 H.N L ρ0 a'.tmps w' M (k M)->next a' w'):o.wp P a w next Q:=by
 obtain⟨β,ρ,V,Z,G,q⟩:=h;unfold exOp at q;split at q;case isFalse=>exact q.elim
 rename_i I;split at q
 .rename_i ns t hpu;obtain⟨F,h2⟩:=K7 q β;exact Jy (KW G hpu F) (W _ _ _ ⟨_,rfl⟩ ⟨β,ρ,V,Z.putO _ _,G.putO I t rfl,h2⟩)
 .split at q
  .rename_i e x d;split at q
   .rename_i v hx;split at q
    .rename_i hks;have A:=Jr (ρ:=ρ) (β:=β) hks;refine K9 (x:=λb=>.pointer (some ⟨b,0,none⟩)) I Z G q ?_ (λ_=>rfl) W;unfold execOp;simp only[d,Instr.box,newVar,newRow,zV,run_newObj,zX,zW,Bc G hx,<-A,yV];rfl
    .exact q.elim
   .exact q.elim
  .rename_i e d;split at q
   .rename_i cs hz;obtain⟨z,F,h2⟩:=JA (ρ:=ρ) (β:=β) hz;refine K9 (x:=λb=>.pointer (some ⟨b,0,none⟩)) I Z G q ?_ (λ_=>rfl) W;unfold execOp;simp only[d,Instr.alloc,Jp F,newVar,newRow,zV,run_newObj,zX,zW,CK,<-h2,yV];rfl
   .exact q.elim
  .rename_i t n parts d;split at q
   .rename_i e hu;split at q
    .rename_i sz z ps hs hz hpt;split at q
     .rename_i cs hf;split at q
      .rename_i hc;obtain⟨zv,F,h2⟩:=JA (ρ:=ρ) (β:=β) hz;have h3:=Js (ρ:=ρ) (β:=β) hf;refine K9 (x:=λb=>.slice (some ⟨b,0,none⟩) n n) I Z G q ?_ (λβ'=>by rfl) W;have X:(parts.map λ(i,x)=>(i,a.eval x)).toList=ps.map (λx=>(x.1,x.2.ev ρ β)):=by rw[<-Jt G hpt,yE]
       unfold execOp;have J:¬n*(sz+1)>2^24:=by omega
       have hzl:zv.cells=(z.map (·.ev ρ β)).toArray:=by grind
       have D:(zB n z).flatten.map (·.ev ρ β)=(zB n (z.map (·.ev ρ β))).flatten:=by simp_all
       rw[D]at h3;have E:=mod_cells (z.map (·.ev ρ β)) sz (by simpa using hc.2) n;by_cases h0:n*(sz+1)=0
       .obtain rfl:n=0:=by grind
        simp only[List.replicate_zero,List.flatten_nil]at h3;have e0:Array.range (0*(sz+1))=#[]:=by simp
        simp only[d,yW,run_underlying hu,En hs,zV,zW,X,if_neg J,if_pos h0,zX,e0,Array.map_empty,h3];simp[CK,newRow]
       .simp only[d,yW,run_underlying hu,En hs,zV,zW,X,if_neg J,if_neg h0,Jp F,zX,hzl,E,h3];simp[CK,newRow]
      .exact q.elim
     .exact q.elim
    .exact q.elim
   .exact q.elim
  .rename_i t x d;exact exLoad_sound d I ⟨β,ρ,V,Z,G,q⟩ W
  .rename_i t x y d;split at q
   .rename_i S;exact OB d S ⟨β,ρ,V,Z,G,q⟩ W
   .exact q.elim
  .rename_i c d;split at q
   .rename_i f hcf;exact exCall_sound Y hQ d hcf I ⟨β,ρ,V,Z,G,q⟩ W
   .exact MJ I ⟨β,ρ,V,Z,G,q⟩ W
   .exact q.elim
  .rename_i x d;exact OC hQ d ⟨β,ρ,V,Z,G,q⟩
  .exact MJ I ⟨β,ρ,V,Z,G,q⟩ W
theorem Rel.getD_size{O V0:Mem}{w0:World}{N:Nat}{β:Nat->Nat}{st:St}{ρ:XV}{V:Mem}{tmps:XQ}{w:World}(q:Rel O V0 w0 N β st ρ V tmps w){d:Nat}{t:T}(J:st.get d=some t):
  tmps.getD d undef=t.ev ρ β:=q.slots d t J
theorem La{all:XW}{tmps:XQ}{j d:Nat}(q:(all[j]?).bind (·.dst)=some d):yielded all tmps j=match tmps.getD d undef with|.bool b=>some b|_=>none:=by
 unfold yielded;rw[q];by_cases h:d<tmps.size
 .simp only[zS,yL,h,dif_pos,getElem?_pos];show _=match tmps[d]with|.bool b=>some b|_=>none
  grind
 .simp only[zS,yL,h,dif_neg,not_false_eq_true];rw[getElem?_neg tmps d h];rfl
theorem IC(J:DV P fs){all:XW}{k:St->Tr}{Q:Exit->Act->World->Prop}:∀(l:List Oper)(st:St)(a:Act)(w:World),
  Fu R V0 w0 a.defers Q->A2 P R O V0 w0 H.N L ρ0 a.tmps w st (FW P fs H all l st k)->
  (∀I E w',E.defers=a.defers->A2 P R O V0 w0 H.N L ρ0 E.tmps w' I (k I)->Q .normal E w')->wpList P all Q l a w
 |[],st,a,w,_,⟨β,ρ,V,Y,W,G⟩,hk=>hk _ a w rfl ⟨β,ρ,V,Y.compact _,W.compact _,G⟩
 |o::rest,st,a,w,hQ,h,hk=>by
  have M:∀st,yX o (yielded all a.tmps)=true->A2 P R O V0 w0 H.N L ρ0 a.tmps w st (exOp P fs H st o λst=>FW P fs H all rest st k)->wpList P all Q (o::rest) a w:=by
   intro st hw hg;unfold wpList;rw[if_pos hw];refine .inl (ML J hQ hg λI E w' hd0 hg'=>?_);have hd':E.defers=a.defers:=by obtain⟨v,rfl⟩:=hd0;exact EI _ _ _
   exact IC J rest I E w' (by rw[hd'];exact hQ) hg' λA F X h1 h2=>hk A F X (h1.trans hd') h2
  have no:∀st,yX o (yielded all a.tmps)=false->A2 P R O V0 w0 H.N L ρ0 a.tmps w st (if DI H.N o.dst then FW P fs H all rest (st.putO o.dst .und) k else .bad 35 0)->wpList P all Q (o::rest) a w:=by
   intro st hw hg;unfold wpList;rw[if_neg (by rw[hw];simp)];obtain⟨β,ρ,V,Y,W,G⟩:=hg;split at G
   .rename_i hd;refine IC J rest _ _ w (by rw[EI];exact hQ) ⟨β,ρ,V,Y.putO _ _,W.putO hd .und rfl,G⟩ λA F X h1 h2=>hk A F X (h1.trans (EI _ _ _)) h2
   .exact G.elim
  simp only[FW]at h;split at h;.grind[yX]
  .rename_i j want hg;split at h;.obtain⟨β,ρ,V,Y,W,G⟩:=h;exact G.elim
   .rename_i d hj;have S:=La (tmps:=a.tmps) hj;have hwant:yX o (yielded all a.tmps)=(yielded all a.tmps j==some want):=by simp[yX,hg]
    obtain⟨β,ρ,V,Y,W,G⟩:=h;split at G
    .rename_i v hv;rw[W.getD_size hv]at S;simp only[T.ev]at S;split at G;.rename_i e;subst e;exact M st (by simp_all) ⟨β,ρ,V,Y,W,G⟩
     .rename_i e;exact no st (by simp_all) ⟨β,ρ,V,Y,W,G⟩
    .rename_i hv;rw[W.getD_size hv]at S;have:yielded all a.tmps j=none:=by rw[S];rfl
     exact no st (by grind) ⟨β,ρ,V,Y,W,G⟩
    .rename_i c _ _ hv;split at G
     .rename_i hc;obtain⟨hc1,hc2,hc3⟩:=hc;obtain⟨b,hb⟩:=FY (ρ:=ρ) (β:=β) hc1;rw[W.getD_size hv,hb]at S;simp only at S;simp only[D]at G;have hfr:=(T.ev_free (β:=id) (β':=β) (ρ:=ρ) c hc2).1;have q:Rel O V0 w0 H.N β (st.now d (.bool b)) ρ V a.tmps w:=W.now hv (by rw[hb];rfl);cases b with
      |true=>
       have Z:=G.1 (by rw[hfr,hb];rfl);split at Z;.rename_i e;exact M _ (by simp_all) ⟨β,ρ,V,Y.now _ _,q,Z⟩
       .rename_i e;exact no _ (by simp_all) ⟨β,ρ,V,Y.now _ _,q,Z⟩
      |false=>
       have Z:=G.2 (by rw[hfr,hb];rfl);split at Z;.rename_i e;exact no _ (by simp_all) ⟨β,ρ,V,Y.now _ _,q,Z⟩
       .rename_i e;exact M _ (by simp_all) ⟨β,ρ,V,Y.now _ _,q,Z⟩
     .exact G.elim
    .exact G.elim
end
end Go.Sx
