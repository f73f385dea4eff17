/- Part 5 of a proof of a law of this seat: no statement of the seat is proved here. -/
import Derived.Test.YtginfholjbbgeaaGreatDoorPart04
import Derived.Laws.AppendOwn
import Derived.MapKept
import Derived.Test.YtginfholjbbgeaaGreatDoorProg
import Derived.KernelRfl
set_option linter.unusedVariables false
set_option linter.unusedSimpArgs false
namespace Go.Sx
open Go
theorem Pur.call{P:Program}{f:FuncId}{args:List Value}{V:Mem}{v:Value}(h:Pur P f args V v){q:Ending->Mem->Prop}(hq:q (.returned v) V):Tri P f args.toArray V q :=
 Tri.mono h fun _ _ ⟨h1,h2⟩=>by rw[h1,h2];exact hq
theorem Pur.callv{P:Program}{f:FuncId}{first args caps:List Value}{V:Mem}{v:Value}(h:Pur P f (first++args++caps) V v){q:Ending->Mem->Prop}(hq:q (.returned v) V):Tri P f (first.toArray++args.toArray++caps.toArray) V q:=by
 have e:first.toArray++args.toArray++caps.toArray=(first++args++caps).toArray:=by simp
 rw[e];exact h.call hq
theorem Pur.mk{P:Program}{f:FuncId}{args:List Value}{V:Mem}{v:Value}(h:Tri P f args.toArray V fun e V'=>e=.returned v/\V.sub V'):Pur P f args V v:=h.forget
def LI(len:Nat)(St:Nat->List Value->Mem->Prop)(n:Nat)(xs:List Value)(V:Mem):Prop:=∃i,n=len-i/\i<=len/\St i xs V
theorem LI.next{len:Nat}{St:Nat->List Value->Mem->Prop}{J:List Value->Mem->Prop}{i:Nat}(hJ:∀m ys V'',m<len-i->LI len St m ys V''->J ys V'')(hi:i<len){ys:List Value}{V:Mem}(h:St (i+1) ys V):J ys V :=
 hJ (len-(i+1)) ys V (by omega) ⟨i+1,rfl,hi,h⟩
theorem LI.start{len:Nat}{St:Nat->List Value->Mem->Prop}{xs:List Value}{V:Mem}(h:St 0 xs V):LI len St len xs V:=⟨0,rfl,Nat.zero_le _,h⟩
section
variable{V:Mem}
theorem qHw{B:Int->Mem->(List Value->Mem->Prop)->Prop}(len:Nat)(St:Nat->Mem->Prop)(h0:St 0 V)
  (step:∀(i:Nat) V1 J,i<=len->St i V1->(i<len->∀V2,St (i+1) V2->J [.int .i64 ((i:Int)+1)] V2)->B (i:Int) V1 J) :
  ∃(I:Nat->List Value->Mem->Prop) (n0:Nat),I n0 [.int .i64 0] V/\∀n V1,∀v:Int,I n [.int .i64 v] V1->∀J:List Value->Mem->Prop,(∀m ys V'',m<n->I m ys V''->J ys V'')->B v V1 J:=by
 refine⟨LI len fun i xs V=>xs=[.int .i64 i]/\St i V,len,LI.start ⟨rfl,h0⟩,?_⟩
 rintro n V1 v ⟨i,rfl,hi,⟨⟩,hs⟩ J hJ
 exact step i V1 J hi hs fun hlt V2 h2=>LI.next hJ hlt ⟨rfl,h2⟩
theorem qBe{β:Type}{mk:β->Value}{B:β->Int->Mem->(List Value->Mem->Prop)->Prop}{b0:β}(len:Nat)(St:Nat->Mem->Prop)(h0:St 0 V)
  (step:∀(i:Nat) (b:β) V1 J,i<=len->St i V1->(i<len->∀b' V2,St (i+1) V2->J [mk b',.int .i64 ((i:Int)+1)] V2)->B b (i:Int) V1 J) :
  ∃(I:Nat->List Value->Mem->Prop) (n0:Nat),I n0 [mk b0,.int .i64 0] V/\∀n V1,∀b:β,∀v:Int,I n [mk b,.int .i64 v] V1->∀J:List Value->Mem->Prop,(∀m ys V'',m<n->I m ys V''->J ys V'')->B b v V1 J:=by
 refine⟨LI len fun i xs V=>∃b,xs=[mk b,.int .i64 i]/\St i V,len,LI.start ⟨b0,rfl,h0⟩,?_⟩
 rintro n V1 b v ⟨i,rfl,hi,b',hx,hs⟩ J hJ
 simp only[List.cons.injEq,Value.int.injEq,true_and,and_true]at hx
 obtain⟨-,rfl⟩:=hx
 exact step i b V1 J hi hs fun hlt b' V2 h2=>LI.next hJ hlt ⟨b',rfl,h2⟩
theorem loop3{β γ:Type}{mk:β->Value}{mc:γ->Value}{B:β->γ->Int->Mem->(List Value->Mem->Prop)->Prop}{b0:β}{c0:γ}(len:Nat)(St:Nat->Mem->Prop)(h0:St 0 V)
  (step:∀(i:Nat) (b:β) (c:γ) V1 J,i<=len->St i V1->(i<len->∀b' c' V2,St (i+1) V2->J [mk b',mc c',.int .i64 ((i:Int)+1)] V2)->B b c (i:Int) V1 J) :
  ∃(I:Nat->List Value->Mem->Prop) (n0:Nat),I n0 [mk b0,mc c0,.int .i64 0] V/\∀n V1,∀b:β,∀c:γ,∀v:Int,I n [mk b,mc c,.int .i64 v] V1->∀J:List Value->Mem->Prop,(∀m ys V'',m<n->I m ys V''->J ys V'')->B b c v V1 J:=by
 refine⟨LI len fun i xs V=>∃b c,xs=[mk b,mc c,.int .i64 i]/\St i V,len,LI.start ⟨b0,c0,rfl,h0⟩,?_⟩
 rintro n V1 b c v ⟨i,rfl,hi,b',c',hx,hs⟩ J hJ
 simp only[List.cons.injEq,Value.int.injEq,true_and,and_true]at hx
 obtain⟨-,-,rfl⟩:=hx
 exact step i b c V1 J hi hs fun hlt b' c' V2 h2=>LI.next hJ hlt ⟨b',c',rfl,h2⟩
theorem qGv{β:Type}{mk:β->Value}{B:β->Int->Mem->(List Value->Mem->Prop)->Prop}{b0:β}(inj:∀x y,mk x=mk y->x=y)(len:Nat)(St:Nat->β->Mem->Prop)(h0:St 0 b0 V)
  (step:∀(i:Nat) (b:β) V1 J,i<=len->St i b V1->(i<len->∀b' V2,St (i+1) b' V2->J [mk b',.int .i64 ((i:Int)+1)] V2)->B b (i:Int) V1 J) :
  ∃(I:Nat->List Value->Mem->Prop) (n0:Nat),I n0 [mk b0,.int .i64 0] V/\∀n V1,∀b:β,∀v:Int,I n [mk b,.int .i64 v] V1->∀J:List Value->Mem->Prop,(∀m ys V'',m<n->I m ys V''->J ys V'')->B b v V1 J:=by
 refine⟨LI len fun i xs V=>∃b,xs=[mk b,.int .i64 i]/\St i b V,len,LI.start ⟨b0,rfl,h0⟩,?_⟩
 rintro n V1 b v ⟨i,rfl,hi,b',hx,hs⟩ J hJ
 simp only[List.cons.injEq,Value.int.injEq,true_and,and_true]at hx
 obtain⟨hb,rfl⟩:=hx
 cases inj _ _ hb
 exact step i b V1 J hi hs fun hlt b' V2 h2=>LI.next hJ hlt ⟨b',rfl,h2⟩
theorem qCY:∀x y:Sl,Value.slice x.p x.n x.c=Value.slice y.p y.n y.c->x=y:=by
 rintro ⟨_,_,_⟩ ⟨_,_,_⟩ h;cases h;rfl
theorem qIc:∀x y:Int,Value.int .i64 x=Value.int .i64 y->x=y:=by rintro _ _ ⟨⟩;rfl
end
section
variable{α:Type}{V:Mem}{s:Sl}{sz:Nat}{row:α->List Value}{xs:List α}
theorem qAc.n_eq(h:qAc V s sz (xs.map row)):s.n=xs.length:=by simpa using h.len
theorem qAc.get(h:qAc V s sz (xs.map row)){i:Nat}(hi:(i:Int)<(s.n:Int)) :
  ∃x,x∈xs/\xs[i]?=some x/\xs.drop i=x::xs.drop (i+1)/\i<xs.length/\¬(s.p=none)/\(0:Int)<=(i:Int)/\V.rowp s.p (i*sz) sz=some (row x):=by
 have hn:=h.n_eq
 have hlt:i<xs.length:=by omega
 have hg:(xs.map row)[i]?=some (row xs[i]):=by simp[hlt]
 refine⟨xs[i],List.getElem_mem _,List.getElem?_eq_getElem hlt,by simp,hlt,fun e=>?_,by omega,h.rowp hg⟩
 have:=h.base (i:=i) (by simpa using hlt)
 rw[e]at this
 cases this
theorem qAc.at_get(h:qAc V s sz (xs.map row)){i:Nat}{x:α}(hx:xs[i]?=some x):V.rowp s.p (i*sz) sz=some (row x):=h.rowp (by simp[hx])
theorem qAc.done(h:qAc V s sz (xs.map row)){i:Nat}(hi:¬((i:Int)<(s.n:Int))):xs.drop i=[]/\xs.length<=i:=by
 have hn:=h.n_eq
 have:xs.length<=i:=by omega
 exact⟨by simpa using this,this⟩
theorem qAc.succ(h:qAc V s sz (xs.map row)){i:Nat}(hi:(i:Int)<(s.n:Int)):K.inR .i64 ((i:Int)+1):=by
 have:=h.cap;have:=h.fit
 exact⟨by omega,by omega⟩
theorem qAc.nil{V:Mem}{sz:Nat}:qAc V ⟨none,0,0⟩ sz []:=⟨rfl,Nat.le_refl _,by simp,by simp,by simp⟩
end
theorem Mem.sub_new{V:Mem}{b:Nat}(hb:V b=none)(o:Obj):V.sub (V.set b o):=(Mem.sub.refl V).set hb o
theorem Mem.set_set(V:Mem)(b:Nat)(x y:Obj):(V.set b x).set b y=V.set b y:=by funext c;by_cases h:c=b <;> simp[Mem.set,h]
theorem Mem.set_comm(V:Mem){b c:Nat}(h:b≠c)(x y:Obj):(V.set b x).set c y=(V.set c y).set b x:=by
 funext d;unfold Mem.set;by_cases h1:d=b <;> by_cases h2:d=c <;> simp_all
theorem Mem.set_eq{V:Mem}{b:Nat}{o:Obj}(h:V b=some o):V.set b o=V:=by
 funext c;by_cases e:c=b <;> simp[Mem.set,e,h]
abbrev cell(v:Value)(t:Nat):Obj:=.cells #[v] t (0,0)
theorem StT.cell{V:Mem}{b:Nat}{v v':Value}{t:Nat}{q:Mem->Prop}(h:V b=some (cell v' t))(hq:q (V.set b (Sx.cell v t))):StT (some ⟨b,0,none⟩) 0 [v] V q :=
 ⟨⟨b,0,none⟩,#[v'],t,rfl,h,rfl,by simp,by simpa using hq⟩
theorem StT.at_{V:Mem}{b:Nat}{c:Array Value}{t off:Nat}{vs:List Value}{q:Mem->Prop}(h:V b=some (.cells c t (0,0)))(hl:off+vs.length<=c.size)
  (hq:q (V.set b (.cells (c.toList.take off++vs++c.toList.drop (off+vs.length)).toArray t (0,0)))):StT (some ⟨b,0,none⟩) off vs V q :=
 ⟨⟨b,0,none⟩,c,t,rfl,h,rfl,by simpa using hl,by simpa using hq⟩
theorem qAd{V:Mem}{b:Nat}{c:Array Value}{t:Nat}{fr:Nat×Nat}(h:V b=some (.cells c t fr))(off n:Nat)(hl:off+n<=c.size):V.rowp (some ⟨b,0,none⟩) off n=some ((c.toList.drop off).take n):=by
 have e:(⟨b,0,none⟩:Addr).add off=⟨b,off,none⟩:=by unfold Addr.add;split <;> simp_all
 simp only[Mem.rowp,Mem.row,e,h]
 rw[if_pos ⟨rfl,hl⟩]
theorem qBp{V:Mem}{b:Nat}{v:Value}{t:Nat}(h:V b=some (cell v t)):V.rowp (some ⟨b,0,none⟩) 0 1=some [v]:=row_cell1 h
/-! Maps with strings as keys. -/
def qHz(es:List MapEntry)(k:ByteArray):Option Value:=(es.find? fun e=>decide (asS e.key=k)).map (·.val)
structure qAZ (V:Mem) (b:Nat) (m:ByteArray->Option Value):Prop where
 at_:∃es clock,V b=some (.map es clock)/\(∀e∈es.toList,∃s,e.key=.string s)/\∀k,qHz es.toList k=m k
theorem qAZ.sub{V V':Mem}{b:Nat}{m:ByteArray->Option Value}(h:qAZ V b m)(hs:V.sub V'):qAZ V' b m:=by
 obtain⟨es,c,h1,h2,h3⟩:=h.at_
 exact⟨es,c,hs _ _ h1,h2,h3⟩
theorem qAZ.set{V:Mem}{b c:Nat}{o:Obj}{m:ByteArray->Option Value}(h:qAZ V b m)(hn:b≠c):qAZ (V.set c o) b m:=by
 obtain⟨es,c,h1,h2,h3⟩:=h.at_
 exact⟨es,c,by rw[Mem.set_ne hn];exact h1,h2,h3⟩
theorem qAZ.made(V:Mem)(b:Nat):qAZ (V.set b (.map #[] 0)) b fun _=>none :=
 ⟨#[],0,Mem.set_same _ _ _,by simp,by simp[qHz]⟩
theorem qAZ.congr{V:Mem}{b:Nat}{m m':ByteArray->Option Value}(h:qAZ V b m)(e:∀k,m k=m' k):qAZ V b m':=by
 obtain⟨es,c,h1,h2,h3⟩:=h.at_
 exact⟨es,c,h1,h2,fun k=>(h3 k).trans (e k)⟩
theorem qHI(k:ByteArray):∀(es:List MapEntry) (i:Nat),(∀e∈es,∃s,e.key=.string s) ->
  Instr.findNow .string (.string k) es i=some ((es.findIdx? fun e=>decide (asS e.key=k)).bind fun j=>(es[j]?).map fun e=>(i+j,e.val))
 | [],_,_=>rfl
 | e::es,i,h=>by
  obtain⟨s,hs⟩:=h e (by simp)
  have ih:=qHI k es (i+1) fun x hx=>h x (by simp[hx])
  unfold Instr.findNow
  simp only[hs,Instr.sameNow,List.findIdx?_cons]
  generalize hf:(fun e:MapEntry=>decide (asS e.key=k))=f at ih ⊢
  have hfe:f e=decide (s=k):=by rw[<- hf];simp[hs,asS]
  rw[show (decide (asS (Value.string s)=k))=decide (s=k) from rfl]
  by_cases hk:k=s
  ·subst hk
   have hb:(k==k)=true:=(MapKept.bytes_beq _ _).2 rfl
   simp[hb]
  ·have hk':¬s=k:=fun e=>hk e.symm
   have hb:(k==s)=false:=by
    cases h':(k==s) with
    | false=>rfl
    | true=>exact absurd ((MapKept.bytes_beq _ _).1 h') hk
   simp only[hb,hk',decide_false,Bool.false_eq_true,if_false,ih]
   cases h':List.findIdx? f es with
   | none=>simp
   | some j=>simp[Nat.add_assoc,Nat.add_comm 1 j]
theorem qHy(k:ByteArray):∀es:List MapEntry,qHz es k=(es.findIdx? fun e=>decide (asS e.key=k)).bind fun j=>(es[j]?).map (·.val)
 | []=>rfl
 | e::es=>by
  have ih:=qHy k es
  unfold qHz at ih ⊢
  simp only[List.find?_cons,List.findIdx?_cons]
  by_cases hk:asS e.key=k
  ·simp[hk]
  ·simp only[hk,decide_false,Bool.false_eq_true,if_false,ih]
   cases h':List.findIdx? (fun e=>decide (asS e.key=k)) es <;> simp
theorem qEM{P:Program}{kt:TypeId}(hk:P.underlying kt=some .string)(k:ByteArray)(es:List MapEntry)(h:∀e∈es,∃s,e.key=.string s)(w:World) :
  (Instr.findKey kt (.string k) es).run P w=.ok ((es.findIdx? fun e=>decide (asS e.key=k)).bind fun j=>(es[j]?).map fun e=>(j,e.val)) w:=by
 unfold Instr.findKey
 simp only[Sem.run_bind,run_underlying hk,Result.andThen_ok,qHI k es 0 h,Nat.zero_add]
 rfl
theorem qCp{P:Program}{kt:TypeId}(hk:P.underlying kt=some .string)(b:Bool)(k:ByteArray)(w:World):(Instr.checkKey b 10000 kt (.string k)).run P w=.ok () w:=by
 unfold Instr.checkKey
 simp only[Sem.run_bind,run_underlying hk,Result.andThen_ok]
 rfl
section
variable{P:Program}{t kt et:TypeId}
theorem qCd.str{V:Mem}{b:Nat}{m:ByteArray->Option Value}(ht:P.underlying t=some (.map kt et))(hk:P.underlying kt=some .string){z:Value}(hz:∀w,(zeroValue et).run P w=.ok z w)
  (hm:qAZ V b m) {k:ByteArray} {q:Value->Prop} (hq:q (.tuple #[(m k).getD z,.bool (m k).isSome])):qCd P t (.map (some b)) (.string k) true V q:=by
 intro w hw
 obtain⟨es,c,h1,h2,h3⟩:=hm.at_
 refine⟨_,?_,hq⟩
 unfold Instr.lookup
 simp only[Sem.run_bind,run_underlying ht,Result.andThen_ok,MapKept.run_getObj_map (hw _ _ h1),Sem.run_pure,qCp hk,qEM hk k _ h2]
 rw[<- h3 k,qHy]
 cases h':List.findIdx? (fun e=>decide (asS e.key=k)) es.toList with
 | none=>simp[Sem.run_bind,hz,Result.andThen_ok]
 | some j =>
  have hj:j<es.toList.length:=by
   have:=List.findIdx?_eq_some_iff_getElem.1 h'
   exact this.1
  simp[Sem.run_pure,List.getElem?_eq_getElem hj,Array.getElem?_eq_getElem (show j<es.size by simpa using hj)]
theorem qCd.str1{V:Mem}{b:Nat}{m:ByteArray->Option Value}(ht:P.underlying t=some (.map kt et))(hk:P.underlying kt=some .string){z:Value}(hz:∀w,(zeroValue et).run P w=.ok z w)
  (hm:qAZ V b m) {k:ByteArray} {q:Value->Prop} (hq:q ((m k).getD z)):qCd P t (.map (some b)) (.string k) false V q:=by
 intro w hw
 obtain⟨es,c,h1,h2,h3⟩:=hm.at_
 refine⟨_,?_,hq⟩
 unfold Instr.lookup
 simp only[Sem.run_bind,run_underlying ht,Result.andThen_ok,MapKept.run_getObj_map (hw _ _ h1),Sem.run_pure,qCp hk,qEM hk k _ h2]
 rw[<- h3 k,qHy]
 cases h':List.findIdx? (fun e=>decide (asS e.key=k)) es.toList with
 | none=>simp[Sem.run_bind,hz,Result.andThen_ok]
 | some j =>
  have hj:j<es.toList.length:=by
   have:=List.findIdx?_eq_some_iff_getElem.1 h'
   exact this.1
  simp[Sem.run_pure,List.getElem?_eq_getElem hj,Array.getElem?_eq_getElem (show j<es.size by simpa using hj)]
end
theorem Frm.put{V:Mem}{w:World}(hw:V.le w){b:Nat}{o o':Obj}(hb:V b=some o):Frm V w (V.set b o') { w with heap:=w.heap.setIfInBounds b o' }:=by
 have hlt:b<w.heap.size:=(Array.getElem?_eq_some_iff.1 (hw b o hb)).1
 refine⟨by simp,fun c x hc=>?_,fun c hc hn=>?_,fun c hc=>?_,rfl,rfl⟩
 ·unfold Mem.set at hc
  split at hc
  ·rename_i e;subst e;cases hc;simp[hlt]
  ·rename_i e
   rw[Array.getElem?_setIfInBounds_ne (fun h=>e h.symm)]
   exact hw c x hc
 ·have:b≠c:=fun e=>by subst e;rw[hb]at hn;cases hn
  exact Array.getElem?_setIfInBounds_ne this
 ·unfold Mem.set at hc
  split at hc
  ·rename_i e;subst e;exact .inl (by rw[hb];simp)
  ·exact .inl hc
theorem qEy(k:ByteArray):asS (.string k)=k:=rfl
theorem lookE_push(es:List MapEntry)(k:ByteArray)(val:Value)(c:Nat)(h:es.findIdx? (fun e=>decide (asS e.key=k))=none)(x:ByteArray):qHz (es++[{ key:=.string k,val:=val,born:=c }]) x=if x=k then some val else qHz es x:=by
 unfold qHz
 rw[List.find?_append]
 by_cases e:x=k
 ·subst e
  have:es.find? (fun e=>decide (asS e.key=x))=none:=by
   rw[List.find?_eq_none]
   intro y hy
   have:=(List.findIdx?_eq_none_iff.1 h) y hy
   simpa using this
  simp[this,qEy]
 ·have e':¬k=x:=fun h=>e h.symm
  simp[e,qEy,e']
theorem qGw(k:ByteArray)(val:Value):∀(es:List MapEntry) (i:Nat) (h:es.findIdx? (fun e=>decide (asS e.key=k))=some i) (x:ByteArray),qHz (es.modify i fun e=>{ e with key:=.string k,val:=val }) x=if x=k then some val else qHz es x
 | [],_,h,_=>by simp at h
 | e::es,i,h,x=>by
  rw[List.findIdx?_cons]at h
  by_cases hk:asS e.key=k
  ·simp only[hk,decide_true,if_true,Option.some.injEq]at h
   subst h
   unfold qHz
   by_cases hx:x=k
   ·subst hx;simp[qEy]
   ·have hx':¬k=x:=fun h=>hx h.symm
    simp[qEy,hx,hx',hk]
  ·simp only[hk,decide_false,Bool.false_eq_true,if_false,Option.map_eq_some_iff]at h
   obtain⟨j,hj,rfl⟩:=h
   have ih:=qGw k val es j hj x
   unfold qHz at ih ⊢
   simp only[List.modify_succ_cons,List.find?_cons]
   by_cases hx:asS e.key=x
   ·have:¬x=k:=fun h=>hk (hx.trans h)
    simp[hx,this]
   ·simp only[hx,decide_false]
    exact ih
theorem UpdK.str{P:Program}{t kt et:TypeId}{V:Mem}{b:Nat}{m:ByteArray->Option Value}(ht:P.underlying t=some (.map kt et))(hk:P.underlying kt=some .string)
  (hm:qAZ V b m) {k:ByteArray} {val:Value} {q:Mem->Prop} (hq:∀o,qAZ (V.set b o) b (fun x=>if x=k then some val else m x)->q (V.set b o)):UpdK P t (.map (some b)) (.string k) val V q:=by
 intro w hw
 obtain⟨es,c,h1,h2,h3⟩:=hm.at_
 have hrun:(Instr.mapUpdate t (.map (some b)) (.string k) val).run P w =
   (match es.toList.findIdx? (fun e=>decide (asS e.key=k)) with
   | some i=>(setObj b (.map (es.modify i fun e=>{ e with key:=.string k,val:=val }) c)).run P w
   | none=>(setObj b (.map (es.push { key:=.string k,val:=val,born:=c }) (c+1))).run P w):=by
  unfold Instr.mapUpdate
  simp only[Sem.run_bind,run_underlying ht,Result.andThen_ok,MapKept.run_getObj_map (hw _ _ h1),qCp hk,qEM hk k _ h2]
  cases h':List.findIdx? (fun e=>decide (asS e.key=k)) es.toList with
  | none=>rfl
  | some j =>
   have hj:=(List.findIdx?_eq_some_iff_getElem.1 h')
   obtain⟨hj1,hj2,_⟩:=hj
   obtain⟨s,hs⟩:=h2 es.toList[j] (List.getElem_mem _)
   have hks:s=k:=of_decide_eq_true (by rw[hs]at hj2;exact hj2)
   subst hks
   have hj3:j<es.size:=by simpa using hj1
   have hkey:(es[j]?).map (·.key)=some (.string s):=by
    rw[Array.getElem?_eq_getElem hj3]
    simp only[Array.getElem_toList]at hs
    simp[hs]
   have hb:(s==s)=true:=(MapKept.bytes_beq _ _).2 rfl
   have hstay:(Instr.keyThatStays (.string s) (.string s)).run P w=.ok (.string s) w:=by
    unfold Instr.keyThatStays Instr.sameBits
    rw[hb];rfl
   simp only[List.getElem?_eq_getElem hj1,Option.bind_some,Option.map_some,Sem.run_bind,hkey,Option.getD_some,hstay,Result.andThen_ok]
 cases h':List.findIdx? (fun e=>decide (asS e.key=k)) es.toList with
 | none =>
  rw[h']at hrun
  refine⟨_,V.set b (.map (es.push { key:=.string k,val:=val,born:=c }) (c+1)),hrun.trans (MapKept.run_setObj_map _ (hw _ _ h1)),Frm.put hw h1,hq _ ⟨_,_,Mem.set_same _ _ _,?_,fun x=>?_⟩⟩
  ·intro e he
   simp only[Array.toList_push,List.mem_append,List.mem_singleton]at he
   rcases he with he|rfl
   ·exact h2 e he
   ·exact⟨_,rfl⟩
  ·rw[Array.toList_push,lookE_push _ _ _ _ h',h3]
 | some j =>
  rw[h']at hrun
  refine⟨_,V.set b (.map (es.modify j fun e=>{ e with key:=.string k,val:=val }) c),hrun.trans (MapKept.run_setObj_map _ (hw _ _ h1)),Frm.put hw h1,hq _ ⟨_,_,Mem.set_same _ _ _,?_,fun x=>?_⟩⟩
  ·intro e he
   rw[Array.toList_modify]at he
   obtain⟨i,hi,rfl⟩:=List.mem_iff_getElem.1 he
   rw[List.getElem_modify]
   split
   ·exact⟨_,rfl⟩
   ·exact h2 _ (List.getElem_mem _)
  ·rw[Array.toList_modify,qGw _ _ _ _ h',h3]
/-! Appends. -/
structure Own (V0 V:Mem) (e:TypeId) (sz:Nat) (s:Sl) (vs:List Value):Prop where
 sub:V0.sub V
 len:vs.length=s.n*sz
 at_:(s.n=0/\s.c=0/\vs=[])∨∃g cur,s.p=some ⟨g,0,none⟩/\V0 g=none/\V g=some (.cells cur e (0,0))/\s.n<=s.c/\s.c<=maxLen/\cur.size=s.c*sz/\cur.toList.take (s.n*sz)=vs
theorem Own.nil{V0 V:Mem}(h:V0.sub V)(e:TypeId)(sz:Nat):Own V0 V e sz ⟨none,0,0⟩ []:=⟨h,by simp,.inl ⟨rfl,rfl,rfl⟩⟩
theorem Own.empty{V0 V:Mem}(h:V0.sub V)(e:TypeId)(sz:Nat)(p:Option Addr):Own V0 V e sz ⟨p,0,0⟩ []:=⟨h,by simp,.inl ⟨rfl,rfl,rfl⟩⟩
theorem Own.new{V0 V:Mem}{e:TypeId}{sz:Nat}{s:Sl}{vs:List Value}(h:Own V0 V e sz s vs){b:Nat}(hb:V b=none)(o:Obj):Own V0 (V.set b o) e sz s vs:=by
 refine⟨Mem.sub.new h.sub hb o,h.len,?_⟩
 rcases h.at_ with h1|⟨g,cur,h1,h2,h3,h4⟩
 ·exact .inl h1
 ·refine .inr ⟨g,cur,h1,h2,?_,h4⟩
  rw[Mem.set_ne (fun e=>by subst e;rw[hb]at h3;cases h3)]
  exact h3
theorem qET{α:Type}{sz:Nat}{row:α->List Value}(hr:∀x,(row x).length=sz):∀xs:List α,(xs.flatMap row).length=xs.length*sz
 | []=>by simp
 | x::xs=>by rw[List.flatMap_cons,List.length_append,hr,qET hr xs,List.length_cons,Nat.add_mul];omega
theorem qES{α:Type}{sz:Nat}{row:α->List Value}(hr:∀x,(row x).length=sz):∀(xs:List α) (i:Nat) (x:α),xs[i]?=some x->((xs.flatMap row).drop (i*sz)).take sz=row x
 | [],_,_,h=>by simp at h
 | y::xs,0,x,h=>by
  simp only[List.getElem?_cons_zero,Option.some.injEq]at h
  subst h
  rw[Nat.zero_mul,List.drop_zero,List.flatMap_cons,<- hr y,List.take_left']
  rfl
 | y::xs,i+1,x,h=>by
  rw[List.getElem?_cons_succ]at h
  rw[List.flatMap_cons,show (i+1)*sz=(row y).length+i*sz by rw[hr,Nat.add_mul];omega,List.drop_append,Nat.add_sub_cancel_left,List.drop_eq_nil_of_le (by omega),List.nil_append]
  exact qES hr xs i x h
theorem Own.n_eq{α:Type}{V0 V:Mem}{e:TypeId}{sz:Nat}{s:Sl}{row:α->List Value}{xs:List α}(h:Own V0 V e sz s (xs.flatMap row))(hr:∀x,(row x).length=sz)(hsz:0<sz):s.n=xs.length:=by
 have:=h.len
 rw[qET hr]at this
 exact(Nat.eq_of_mul_eq_mul_right hsz this).symm
theorem Own.rows{α:Type}{V0 V:Mem}{e:TypeId}{sz:Nat}{s:Sl}{row:α->List Value}{xs:List α}(h:Own V0 V e sz s (xs.flatMap row))(hr:∀x,(row x).length=sz)(hsz:0<sz):qAc V s sz (xs.map row):=by
 have hl:=h.n_eq hr hsz
 rcases h.at_ with⟨h1,h2,h3⟩|⟨g,cur,hp,hg,hV,hnc,hcm,hcs,htake⟩
 ·have:xs=[]:=List.eq_nil_of_length_eq_zero (by omega)
  subst this
  exact⟨h1,by omega,by omega,by simp,by simp⟩
 ·refine⟨by simpa using hl,hnc,hcm,?_,fun i r hi=>⟨_,hp,?_⟩⟩
  ·intro r hr'
   obtain⟨x,_,rfl⟩:=List.mem_map.1 hr'
   exact hr x
  ·rw[List.getElem?_map,Option.map_eq_some_iff]at hi
   obtain⟨x,hx,rfl⟩:=hi
   have hlt:i<xs.length:=(List.getElem?_eq_some_iff.1 hx).1
   have hle:(i+1)*sz<=s.n*sz:=Nat.mul_le_mul_right _ (by omega)
   have hle2:s.n*sz<=s.c*sz:=Nat.mul_le_mul_right _ hnc
   have e1:(⟨g,0,none⟩:Addr).add (i*sz)=⟨g,i*sz,none⟩:=by unfold Addr.add;split <;> simp_all
   rw[Nat.add_mul,Nat.one_mul]at hle
   unfold Mem.row
   simp only[e1,hV]
   rw[if_pos ⟨rfl,by omega⟩]
   have e2:=qES hr xs i x hx
   rw[<- htake,List.drop_take,List.take_take]at e2
   rw[Nat.min_eq_left (by omega)]at e2
   rw[e2]
theorem qAc.cells{α:Type}{V:Mem}{b:Nat}{c:Array Value}{t:Nat}{fr:Nat×Nat}{sz:Nat}{row:α->List Value}{xs:List α}(h:V b=some (.cells c t fr))(hc:c.toList=xs.flatMap row)(hr:∀x,(row x).length=sz){n:Nat}(hn:n=xs.length)(hf:xs.length<=9223372036854775807) :
  qAc V ⟨some ⟨b,0,none⟩,n,n⟩ sz (xs.map row):=by
 subst hn
 refine⟨by simp,Nat.le_refl _,hf,?_,fun i r hi=>⟨_,rfl,?_⟩⟩
 ·intro r hr'
  obtain⟨x,_,rfl⟩:=List.mem_map.1 hr'
  exact hr x
 ·rw[List.getElem?_map,Option.map_eq_some_iff]at hi
  obtain⟨x,hx,rfl⟩:=hi
  have hlt:i<xs.length:=(List.getElem?_eq_some_iff.1 hx).1
  have e1:(⟨b,0,none⟩:Addr).add (i*sz)=⟨b,i*sz,none⟩:=by unfold Addr.add;split <;> simp_all
  have hl:c.size=xs.length*sz:=by rw[<- Array.length_toList,hc,qET hr]
  have hle:(i+1)*sz<=xs.length*sz:=Nat.mul_le_mul_right _ (by omega)
  rw[Nat.add_mul,Nat.one_mul]at hle
  unfold Mem.row
  simp only[e1,h]
  rw[if_pos ⟨rfl,by omega⟩,hc,qES hr xs i x hx]
theorem row_le{V:Mem}{w:World}(hV:V.le w){a:Addr}{n:Nat}{vs:List Value}(h:V.row a n=some vs):vs.length=n/\∀j v,vs[j]?=some v->w.cell? (a.add j)=some v:=qEm hV h
theorem Frm.new{V:Mem}{w:World}(hw:V.le w)(o:Obj):V w.heap.size=none/\Frm V w (V.set w.heap.size o) (w.drew.alloc o):=by
 have hn:V w.heap.size=none:=by
  cases h:V w.heap.size with
  | none=>rfl
  | some x =>
   have:=(Array.getElem?_eq_some_iff.1 (hw _ _ h)).1
   exact absurd this (Nat.lt_irrefl _)
 refine⟨hn,⟨by simp,fun b x hb=>?_,fun b hb _=>heap_alloc_old w.drew o b hb,fun b hb=>?_,rfl,rfl⟩⟩
 ·unfold Mem.set at hb
  split at hb
  ·rename_i e;subst e;cases hb;exact heap_alloc_new w.drew o
  ·have hlt:=(Array.getElem?_eq_some_iff.1 (hw _ _ hb)).1
   exact(heap_alloc_old w.drew o b hlt).trans (hw _ _ hb)
 ·unfold Mem.set at hb
  split at hb
  ·rename_i e;subst e;exact .inr (Nat.le_refl _)
  ·exact .inl hb
theorem Frm.row{V:Mem}{w:World}(hw:V.le w){g:Nat}{cur new:Array Value}{e:TypeId}(hg:V g=some (.cells cur e (0,0))):Frm V w (V.set g (.cells new e (0,0))) (w.setRow g new):=by
 have h0:=hw _ _ hg
 refine⟨by simp,fun b x hb=>?_,fun b hb hn=>?_,fun b hb=>?_,rfl,rfl⟩
 ·unfold Mem.set at hb
  split at hb
  ·rename_i e';subst e';cases hb;exact _root_.Go.setRow_heap w b cur new e _ h0
  ·rename_i e';exact(_root_.Go.setRow_other w g b _ e').trans (hw _ _ hb)
 ·refine _root_.Go.setRow_other w g b _ ?_
  intro e';subst e';rw[hg]at hn;cases hn
 ·unfold Mem.set at hb
  split at hb
  ·rename_i e';subst e';exact .inl (by rw[hg];simp)
  ·exact .inl hb
theorem GenK.append{P:Program}{V0 V:Mem}{t e ty:TypeId}{i:TypeInfo}{z:Value}{sz:Nat}(ht:P.underlying t=some (.slice e))(hi:P.info? e=some i)(hz:i.zero=some z)(hsize:i.size=sz)(hzs:z.cells.size=sz)(hsz:0<sz)(hby:i.bytes<=65536)
  {x y:Operand} {vals:Operand->Value} {s:Sl} {a:Addr} {m c:Nat} {vs news:List Value} (hx:vals x=.slice s.p s.n s.c) (hy:vals y=.slice (some a) m c) (own:Own V0 V e sz s vs) (hnew:V.row a (m*sz)=some news)
  (h1:∀u∈news,u.oneCell'=true) (hfit:s.n+m<=2147483648) {q:Value->Mem->Prop}
  (hq:∀s' V',Own V0 V' e sz s' (vs++news)->s'.n=s.n+m->q (.slice s'.p s'.n s'.c) V') :
  GenK P (.call { callee:=.builtin .append,args:=#[x,y],argTypes:=#[t,t] }) ty vals V q:=by
 intro w hw
 subst hsize
 obtain⟨hl,hc⟩:=row_le hw hnew
 have hbytes:(s.n+m)*i.bytes<=140737488355328:=Nat.le_trans (Nat.mul_le_mul hfit hby) (by decide)
 have fin:∀(s':Sl) (V':Mem) (w':World),(Builtin.append_ #[t,t] ty #[.slice s.p s.n s.c,.slice (some a) m c]).run P w=.ok (.slice s'.p s'.n s'.c) w'->Frm V w V' w'->Own V0 V' e i.size s' (vs++news)->s'.n=s.n+m ->
   ∃v w' V',(execOp vals { dst:=none,op:=.call { callee:=.builtin .append,args:=#[x,y],argTypes:=#[t,t] },type:=ty,pos := "",after:=#[],guard:=none }).run P w=.ok (.value v) w'/\Frm V w V' w'/\q v V':=by
  intro s' V' w' hr hf ho hn
  refine⟨_,w',V',?_,hf,hq s' V' ho hn⟩
  unfold execOp
  simp only[resolve,invoke,builtin,Sem.run_bind,Sem.run_pure,Result.andThen_ok,List.map_toArray,List.map_cons,List.map_nil,hx,hy,hr]
 have hlen:(vs++news).length=(s.n+m)*i.size:=by rw[List.length_append,own.len,hl,Nat.add_mul]
 have hgrow:∀old,old<s.n+m->(Builtin.append_ #[t,t] ty #[.slice s.p s.n s.c,.slice (some a) m c]).run P w =
   .ok (.slice (some ⟨w.heap.size,0,none⟩) (s.n+m) (grownCap w (s.n+m) old e)) (w.drew.alloc (.cells (vs.toArray++news.toArray++Builtin.zeroCells z.cells (grownCap w (s.n+m) old e-(s.n+m))) e)) ->
   ∃v w' V',(execOp vals { dst:=none,op:=.call { callee:=.builtin .append,args:=#[x,y],argTypes:=#[t,t] },type:=ty,pos := "",after:=#[],guard:=none }).run P w=.ok (.value v) w'/\Frm V w V' w'/\q v V':=by
  intro old ho hr
  obtain⟨hn,hf⟩:=Frm.new hw (.cells (vs.toArray++news.toArray++Builtin.zeroCells z.cells (grownCap w (s.n+m) old e-(s.n+m))) e)
  have hge:=grownCap_ge w (s.n+m) old e
  refine fin ⟨_,_,_⟩ _ _ hr hf ⟨Mem.sub.new own.sub hn _,hlen,.inr ⟨w.heap.size,_,rfl,?_,Mem.set_same _ _ _,hge,grownCap_le_maxLen w _ old e (by simp only[maxLen];omega),?_,?_⟩⟩ rfl
  ·cases h0:V0 w.heap.size with
   | none=>rfl
   | some x=>rw[own.sub _ _ h0]at hn;cases hn
  ·simp only[Array.size_append,List.size_toArray,size_zeroCells,hzs,own.len,hl,<- Nat.add_mul]
   congr 1
   show _=grownCap w (s.n+m) old e
   omega
  ·simp only[Array.toList_append,List.append_assoc]
   rw[<- List.append_assoc,<- hlen]
   exact List.take_left
 rcases own.at_ with⟨hs,hs',hv⟩|⟨g,cur,hp,hg,hV,hnc,hcm,hcs,htake⟩
 ·subst hv
  by_cases hm:m=0
  ·subst hm
   have hn:news=[]:=List.eq_nil_of_length_eq_zero (by simpa using hl)
   subst hn
   refine fin s V w ?_ (Frm.refl hw) own rfl
   rw[hs,hs']
   cases s.p with
   | none=>simp[Builtin.append_,run_underlying ht,sizeOf,typeInfo,hi,Builtin.lenOf,Builtin.firstCells,loadCells,loadCellsFrom]
   | some a'=>simp[Builtin.append_,run_underlying ht,sizeOf,typeInfo,hi,Builtin.lenOf,Builtin.firstCells,loadCells,loadCellsFrom,storeCells]
  ·refine hgrow 0 (by omega) ?_
   rw[hs,hs']
   cases s.p with
   | none =>
    have hr:=run_append_nil (P:=P) w t ty e i z ht hi hz a m c news hl hc (by omega) (by omega) (by have hb:=hbytes;rw[hs,Nat.zero_add]at hb;omega)
    simpa using hr
   | some a' =>
    have hb:=hbytes
    rw[hs]at hb
    have hr:=run_append_grow (P:=P) w t ty e i z ht hi hz a' 0 0 [] (by simp) (by simp) a m c news hl hc (by omega) (by omega) (growslice_fits (by omega) hb)
    simpa using hr
 ·by_cases hroom:s.n+m<=s.c
  ·have hcur:w.heap[g]?=some (.cells cur e (0,0)):=hw _ _ hV
   have hle:(s.n+m)*i.size<=s.c*i.size:=Nat.mul_le_mul_right _ hroom
   have hmul:(s.n+m)*i.size=s.n*i.size+m*i.size:=Nat.add_mul _ _ _
   have hr:=run_append_room (P:=P) w t ty e i ht hi g s.n s.c cur hcur a m c news hl hc h1 hroom (by omega)
   refine fin ⟨some ⟨g,0,none⟩,s.n+m,s.c⟩ _ _ (by rw[hp];exact hr) (Frm.row hw hV) ⟨own.sub.set hg _,hlen,.inr ⟨g,_,rfl,hg,Mem.set_same _ _ _,hroom,hcm,?_,?_⟩⟩ rfl
   ·simp only[List.size_toArray,List.length_append,List.length_take,List.length_drop,Array.length_toList]
    omega
   ·rw[htake,<- hlen]
    exact List.take_left
  ·have hown:w.ownsRow 0 e i.size (.slice s.p s.n s.c) s.n vs:=⟨own.len,.inr ⟨g,s.c,cur,by rw[hp],Nat.zero_le _,hw _ _ hV,hnc,hcm,hcs,htake⟩⟩
   have holds:∀j u,vs[j]?=some u->w.cell? ((⟨g,0,none⟩:Addr).add j)=some u:=hown.cells (g:=g) (by rw[hp];rfl)
   refine hgrow s.c (by omega) ?_
   rw[hp]
   exact run_append_grow (P:=P) w t ty e i z ht hi hz ⟨g,0,none⟩ s.n s.c vs own.len holds a m c news hl hc (by omega) (by omega) (growslice_fits (by omega) hbytes)
theorem GenK.append_none{P:Program}{V:Mem}{t e ty:TypeId}{i:TypeInfo}(ht:P.underlying t=some (.slice e))(hi:P.info? e=some i)
  {x y:Operand} {vals:Operand->Value} {s:Sl} {p:Option Addr} {c:Nat} (hx:vals x=.slice s.p s.n s.c) (hy:vals y=.slice p 0 c) (hnc:s.n<=s.c) {q:Value->Mem->Prop} (hq:q (.slice s.p s.n s.c) V) :
  GenK P (.call { callee:=.builtin .append,args:=#[x,y],argTypes:=#[t,t] }) ty vals V q:=by
 intro w hw
 refine⟨_,w,V,?_,Frm.refl hw,hq⟩
 unfold execOp
 simp only[resolve,invoke,builtin,Sem.run_bind,Sem.run_pure,Result.andThen_ok,List.map_toArray,List.map_cons,List.map_nil,hx,hy]
 cases hp:s.p with
 | none=>cases p with
  | none=>simp[Builtin.append_,run_underlying ht,sizeOf,typeInfo,hi,Builtin.lenOf,Builtin.firstCells,hnc]
  | some b=>simp[Builtin.append_,run_underlying ht,sizeOf,typeInfo,hi,Builtin.lenOf,Builtin.firstCells,hnc,loadCells,loadCellsFrom]
 | some a=>cases p with
  | none=>simp[Builtin.append_,run_underlying ht,sizeOf,typeInfo,hi,Builtin.lenOf,Builtin.firstCells,hnc,storeCells]
  | some b=>simp[Builtin.append_,run_underlying ht,sizeOf,typeInfo,hi,Builtin.lenOf,Builtin.firstCells,hnc,storeCells,loadCells,loadCellsFrom]
theorem qGj(a:Addr)(m n:Nat):(a.add m).add n=a.add (m+n):=by
 unfold Addr.add
 by_cases h1:m=0 <;> by_cases h2:n=0 <;> simp[h1,h2,Nat.add_assoc]
theorem row_append{V:Mem}{a:Addr}{m n:Nat}{l1 l2:List Value}(h1:V.row a m=some l1)(h2:V.row (a.add m) n=some l2)(hm:0<m):V.row a (m+n)=some (l1++l2):=by
 have e:a.add m=⟨a.block,a.off+m,none⟩:=by unfold Addr.add;rw[if_neg (by omega)]
 rw[e]at h2
 unfold Mem.row at h1 h2 ⊢
 simp only at h2
 split at h1
 ·rename_i c x y hb
  simp only[hb]at h2
  split at h1
  ·rename_i hc
   split at h2
   ·rename_i hc2
    simp only[Option.some.injEq]at h1 h2
    rw[if_pos ⟨hc.1,by omega⟩,<- h1,<- h2,Option.some.injEq,List.take_add,List.drop_drop]
   ·cases h2
  ·cases h1
 ·cases h1
theorem qAc.flat{α:Type}{V:Mem}{sz:Nat}(hsz:0<sz){row:α->List Value}:∀(xs:List α) (a:Addr),xs≠[]->(∀i x,xs[i]?=some x->V.row (a.add (i*sz)) sz=some (row x))->V.row a (xs.length*sz)=some (xs.flatMap row)
 | [],_,h,_=>absurd rfl h
 | x::xs,a,_,h=>by
  have h0:=h 0 x rfl
  rw[Nat.zero_mul,show a.add 0=a by unfold Addr.add;simp]at h0
  by_cases hx:xs=[]
  ·subst hx;simpa using h0
  ·have ih:=qAc.flat hsz xs (a.add sz) hx fun i y hy=>by
    rw[qGj,show sz+i*sz=(i+1)*sz by rw[Nat.add_mul];omega]
    exact h (i+1) y (by simpa using hy)
   rw[List.length_cons,Nat.add_mul,Nat.one_mul,Nat.add_comm,List.flatMap_cons]
   exact row_append h0 ih hsz
theorem GenK.appendS{α:Type}{P:Program}{V0 V:Mem}{t e ty:TypeId}{i:TypeInfo}{z:Value}{sz:Nat}(ht:P.underlying t=some (.slice e))(hi:P.info? e=some i)(hz:i.zero=some z)(hsize:i.size=sz)(hzs:z.cells.size=sz)(hsz:0<sz)(hby:i.bytes<=65536)
  {x y:Operand} {vals:Operand->Value} {s u:Sl} {row:α->List Value} {xs ys:List α} (hx:vals x=.slice s.p s.n s.c) (hy:vals y=.slice u.p u.n u.c) (own:Own V0 V e sz s (xs.flatMap row)) (hr:∀x,(row x).length=sz) (hnew:qAc V u sz (ys.map row))
  (h1:∀x,∀u∈row x,u.oneCell'=true) (hfit:xs.length+ys.length<=2147483648) {q:Value->Mem->Prop}
  (hq:∀s' V',Own V0 V' e sz s' ((xs++ys).flatMap row)->q (.slice s'.p s'.n s'.c) V') :
  GenK P (.call { callee:=.builtin .append,args:=#[x,y],argTypes:=#[t,t] }) ty vals V q:=by
 have hn:=hnew.n_eq
 have hsn:=own.n_eq hr hsz
 by_cases hys:ys=[]
 ·subst hys
  rw[hn]at hy
  refine GenK.append_none ht hi hx hy ?_ (hq s V (by simpa using own))
  rcases own.at_ with⟨h1,h2,h3⟩|⟨g,cur,hp,hg,hV,hnc,_⟩
  ·omega
  ·exact hnc
 ·obtain⟨y0,hy0⟩:=List.exists_mem_of_ne_nil _ hys
  cases hp:u.p with
  | none =>
   obtain⟨j,hj,rfl⟩:=List.mem_iff_getElem.1 hy0
   have:=hnew.base (i:=j) (by simpa using hj)
   rw[hp]at this;cases this
  | some a =>
   rw[hp]at hy
   have hflat:=qAc.flat (V:=V) hsz ys a hys fun i x hx'=>by
    have:=hnew.at_get hx'
    rw[hp]at this
    exact this
   rw[<- hn]at hflat
   refine GenK.append ht hi hz hsize hzs hsz hby hx hy own hflat ?_ (by omega) fun s' V' ho hn'=>hq s' V' (by rw[List.flatMap_append];exact ho)
   intro v hv
   obtain⟨x,_,hx'⟩:=List.mem_flatMap.1 hv
   exact h1 x v hx'
theorem Tri.less{P:Program}{f:FuncId}{args:Array Value}{V:Mem}{R:Ending->Mem->Prop}(h:Tri P f args V fun e V'=>∃W,R e W/\W.sub V'):Tri P f args V R:=by
 intro w hw cs
 obtain⟨e,w',fr,⟨V',⟨W,hR,hs⟩,hF⟩,rest⟩:=h w hw cs
 exact⟨e,w',fr,⟨W,hR,hF.less hs⟩,rest⟩
section
variable{V:Mem}
theorem loop4s{β γ δ:Type}{mk:β->Value}{mc:γ->Value}{md:δ->Value}{B:β->γ->δ->Int->Mem->(List Value->Mem->Prop)->Prop}(b0:β)(c0:γ)(d0:δ)(inj:∀x y,md x=md y->x=y)(len:Nat)(St:Nat->δ->Mem->Prop)(h0:St 0 d0 V)
  (step:∀(i:Nat) (b:β) (c:γ) (d:δ) V1 J,i<=len->St i d V1->(i<len->∀b' c' d' V2,St (i+1) d' V2->J [mk b',mc c',md d',.int .i64 ((i:Int)+1)] V2)->B b c d (i:Int) V1 J) :
  ∃(I:Nat->List Value->Mem->Prop) (n0:Nat),I n0 [mk b0,mc c0,md d0,.int .i64 0] V/\∀n V1,∀b:β,∀c:γ,∀d:δ,∀v:Int,I n [mk b,mc c,md d,.int .i64 v] V1->∀J:List Value->Mem->Prop,(∀m ys V'',m<n->I m ys V''->J ys V'')->B b c d v V1 J:=by
 refine⟨LI len fun i xs V=>∃b c d,xs=[mk b,mc c,md d,.int .i64 i]/\St i d V,len,LI.start ⟨b0,c0,d0,rfl,h0⟩,?_⟩
 rintro n V1 b c d v ⟨i,rfl,hi,b',c',d',hx,hs⟩ J hJ
 simp only[List.cons.injEq,Value.int.injEq,true_and,and_true]at hx
 obtain⟨-,-,hd,rfl⟩:=hx
 cases inj _ _ hd
 exact step i b c d V1 J hi hs fun hlt b' c' d' V2 h2=>LI.next hJ hlt ⟨b',c',d',rfl,h2⟩
theorem qHv{β γ:Type}{mk:β->Value}{mc:γ->Value}{B:β->γ->Int->Mem->(List Value->Mem->Prop)->Prop}(b0:β)(c0:γ)(inj:∀x y,mc x=mc y->x=y)(len:Nat)(St:Nat->γ->Mem->Prop)(h0:St 0 c0 V)
  (step:∀(i:Nat) (b:β) (c:γ) V1 J,i<=len->St i c V1->(i<len->∀b' c' V2,St (i+1) c' V2->J [mk b',mc c',.int .i64 ((i:Int)+1)] V2)->B b c (i:Int) V1 J) :
  ∃(I:Nat->List Value->Mem->Prop) (n0:Nat),I n0 [mk b0,mc c0,.int .i64 0] V/\∀n V1,∀b:β,∀c:γ,∀v:Int,I n [mk b,mc c,.int .i64 v] V1->∀J:List Value->Mem->Prop,(∀m ys V'',m<n->I m ys V''->J ys V'')->B b c v V1 J:=by
 refine⟨LI len fun i xs V=>∃b c,xs=[mk b,mc c,.int .i64 i]/\St i c V,len,LI.start ⟨b0,c0,rfl,h0⟩,?_⟩
 rintro n V1 b c v ⟨i,rfl,hi,b',c',hx,hs⟩ J hJ
 simp only[List.cons.injEq,Value.int.injEq,true_and,and_true]at hx
 obtain⟨-,hb,rfl⟩:=hx
 cases inj _ _ hb
 exact step i b c V1 J hi hs fun hlt b' c' V2 h2=>LI.next hJ hlt ⟨b',c',rfl,h2⟩
end
def Fld.v(f:Fld):Value:=.agg f.row.toArray
def Ty.v(f:Ty):Value:=.agg f.row.toArray
def S.op:S->Int | .mk o _ _ _ _ _ _ _=>o
def S.s:S->ByteArray | .mk _ s _ _ _ _ _ _=>s
def S.el:S->Sl | .mk _ _ l _ _ _ _ _=>l
def S.es:S->List E | .mk _ _ _ l _ _ _ _=>l
def S.ll:S->Sl | .mk _ _ _ _ l _ _ _=>l
def S.ls:S->List S | .mk _ _ _ _ _ l _ _=>l
def S.xl:S->Sl | .mk _ _ _ _ _ _ l _=>l
def S.xs:S->List S | .mk _ _ _ _ _ _ _ l=>l
def S.v(f:S):Value:=.agg f.row.toArray
structure Pr where
 name:ByteArray
 ps:Sl
 params:List Fld
 result:ByteArray
 ls:Sl
 locals:List Fld
 bs:Sl
 body:List S
def Pr.row(p:Pr):List Value:=[vS p.name,p.ps.v,vS p.result,p.ls.v,p.bs.v]
def Pr.v(f:Pr):Value:=.agg f.row.toArray
structure Pr.Ok (V:Mem) (p:Pr):Prop where
 params:qAc V p.ps 2 (p.params.map Fld.row)
 locals:qAc V p.ls 2 (p.locals.map Fld.row)
 body:qAc V p.bs 5 (p.body.map S.row)
 stmts:∀s∈p.body,S.Ok V s
structure Ms where
 name:ByteArray
 ty:ByteArray
 nil:Int
 x:E
def Ms.row(p:Ms):List Value:=[vS p.name,vS p.ty,vI p.nil,vI p.x.op,vI p.x.n,vS p.x.s,p.x.l.v]
def Ms.v(f:Ms):Value:=.agg f.row.toArray
structure Ms.Ok (V:Mem) (p:Ms):Prop where
 x:E.Ok V p.x
 nil:IntKind.i64.min<=p.nil/\p.nil<=IntKind.i64.max
structure Iv where
 name:ByteArray
 ty:ByteArray
 x:E
def Iv.row(p:Iv):List Value:=[vS p.name,vS p.ty,vI p.x.op,vI p.x.n,vS p.x.s,p.x.l.v]
def Iv.v(f:Iv):Value:=.agg f.row.toArray
structure Po where
 ty:ByteArray
 x:E
def Po.row(p:Po):List Value:=[vS p.ty,vI p.x.op,vI p.x.n,vS p.x.s,p.x.l.v]
structure Bd where
 proc:ByteArray
 x:E
def Bd.row(p:Bd):List Value:=[vS p.proc,vI p.x.op,vI p.x.n,vS p.x.s,p.x.l.v]
def Bd.v(f:Bd):Value:=.agg f.row.toArray
structure Ds where
 name:ByteArray
 ts:Sl
 types:List Ty
 gs:Sl
 globals:List Fld
 ps:Sl
 procs:List Pr
 ms:Sl
 measures:List Ms
 is:Sl
 invs:List Iv
 qs:Sl
 pots:List Po
 bs:Sl
 bounds:List Bd
def Ds.row(d:Ds):List Value:=[vS d.name,d.ts.v,d.gs.v,d.ps.v,d.ms.v,d.is.v,d.qs.v,d.bs.v]
def Ds.v(d:Ds):Value:=.agg d.row.toArray
structure Ds.Ok (V:Mem) (d:Ds):Prop where
 types:qAc V d.ts 2 (d.types.map Ty.row)
 typesOk:∀t∈d.types,Ty.Ok V t
 globals:qAc V d.gs 2 (d.globals.map Fld.row)
 procs:qAc V d.ps 5 (d.procs.map Pr.row)
 procsOk:∀p∈d.procs,Pr.Ok V p
 measures:qAc V d.ms 7 (d.measures.map Ms.row)
 measuresOk:∀p∈d.measures,Ms.Ok V p
 invs:qAc V d.is 6 (d.invs.map Iv.row)
 invsOk:∀p∈d.invs,E.Ok V p.x
 pots:qAc V d.qs 5 (d.pots.map Po.row)
 potsOk:∀p∈d.pots,E.Ok V p.x
 bounds:qAc V d.bs 5 (d.bounds.map Bd.row)
 boundsOk:∀p∈d.bounds,E.Ok V p.x
theorem Ty.Ok.sub{V V':Mem}{t:Ty}(h:Ty.Ok V t)(hs:V.sub V'):Ty.Ok V' t:=⟨h.fields.sub hs⟩
theorem Pr.Ok.sub{V V':Mem}{t:Pr}(h:Pr.Ok V t)(hs:V.sub V'):Pr.Ok V' t:=⟨h.params.sub hs,h.locals.sub hs,h.body.sub hs,fun s m=>S.Ok.sub hs (h.stmts s m)⟩
theorem Ms.Ok.sub{V V':Mem}{t:Ms}(h:Ms.Ok V t)(hs:V.sub V'):Ms.Ok V' t:=⟨h.x.sub hs,h.nil⟩
theorem Ds.Ok.sub{V V':Mem}{d:Ds}(h:Ds.Ok V d)(hs:V.sub V'):Ds.Ok V' d :=
 ⟨h.types.sub hs,fun t m=>(h.typesOk t m).sub hs,h.globals.sub hs,h.procs.sub hs,fun t m=>(h.procsOk t m).sub hs,h.measures.sub hs,fun t m=>(h.measuresOk t m).sub hs,h.invs.sub hs,fun t m=>(h.invsOk t m).sub hs,h.pots.sub hs,fun t m=>(h.potsOk t m).sub hs,h.bounds.sub hs,fun t m=>(h.boundsOk t m).sub hs⟩
theorem E.Ok.rows{V:Mem}{e:E}(h:E.Ok V e):qAc V e.l 4 (e.k.map E.row):=by cases h;assumption
theorem E.Ok.kids{V:Mem}{e:E}(h:E.Ok V e):∀x∈e.k,E.Ok V x:=by cases h;assumption
theorem E.Ok.opR{V:Mem}{e:E}(h:E.Ok V e):-9223372036854775808<=e.op/\e.op<=9223372036854775807:=by cases h;assumption
theorem E.Ok.nR{V:Mem}{e:E}(h:E.Ok V e):-9223372036854775808<=e.n/\e.n<=9223372036854775807:=by cases h;assumption
theorem S.Ok.eRows{V:Mem}{e:S}(h:S.Ok V e):qAc V e.el 4 (e.es.map E.row):=by cases h;assumption
theorem S.Ok.eOk{V:Mem}{e:S}(h:S.Ok V e):∀x∈e.es,E.Ok V x:=by cases h;assumption
theorem S.Ok.lRows{V:Mem}{e:S}(h:S.Ok V e):qAc V e.ll 5 (e.ls.map S.row):=by cases h;assumption
theorem S.Ok.lOk{V:Mem}{e:S}(h:S.Ok V e):∀x∈e.ls,S.Ok V x:=by cases h;assumption
theorem S.Ok.xRows{V:Mem}{e:S}(h:S.Ok V e):qAc V e.xl 5 (e.xs.map S.row):=by cases h;assumption
theorem S.Ok.xOk{V:Mem}{e:S}(h:S.Ok V e):∀x∈e.xs,S.Ok V x:=by cases h;assumption
theorem S.row_eq(s:S):s.row=[vI s.op,vS s.s,s.el.v,s.ll.v,s.xl.v]:=by cases s;rfl
theorem E.ind{p:E->Prop}(h:∀e:E,(∀x∈e.k,p x)->p e):∀e,p e:=fun e =>
 E.rec (motive_1:=p) (motive_2:=fun l=>∀x∈l,p x) (fun _ _ _ _ _ ih=>h _ ih) (fun _ hx=>absurd hx List.not_mem_nil) (fun _ _ ha hl=>List.forall_mem_cons.2 ⟨ha,hl⟩) e
theorem S.ind{p:S->Prop}(h:∀e:S,(∀x∈e.ls,p x)->(∀x∈e.xs,p x)->p e):∀e,p e:=fun e =>
 S.rec (motive_1:=p) (motive_2:=fun l=>∀x∈l,p x) (fun _ _ _ _ _ _ _ _ i1 i2=>h _ i1 i2) (fun _ hx=>absurd hx List.not_mem_nil) (fun _ _ ha hl=>List.forall_mem_cons.2 ⟨ha,hl⟩) e
end Go.Sx
namespace Go.Proofs
open Go Go.Sx
abbrev uB(b:Bool):Value:=.bool b
abbrev uL(s:Sl):Value:=.slice s.p s.n s.c
abbrev uP(p:Option Addr):Value:=.pointer p
abbrev uM(m:Option Nat):Value:=.map m
abbrev uA(l:Array Value):Value:=.agg l
abbrev uI(n:Int):Value:=.int .i64 n
abbrev uS(s:ByteArray):Value:=.string s
abbrev rV(v:Value):Ending:=.returned v
abbrev rT(l:Array Value):Ending:=.returned (.tuple l)
abbrev RP:=Ending->Mem->Prop
abbrev TT:=Tri Tryz.prog
abbrev Br(c a b:Prop):Prop:=(c->a)/\(¬c->b)
abbrev IR(x:Int):Prop:=K.inR .i64 x
def flatV(args:List Value):List Value:=args.flatMap fun | .agg cs=>cs.toList|v=>[v]
def qAq(l:List UInt8):ByteArray:=⟨l.toArray⟩
def fs:List Nat:=[3,4,5,6,7,8,9,10,11,12,13,14,15,16,17,18,19,20,21,22,23,24,25,26,27,28,29,30,31,32,33,34,35,36,37,38,39,40,41,42,43,44,45,46,47,48,49,50,51,52,53,54,55,56,57,58,59,60,61,62,63,64,65,66,67,68,69,70,71,72,73,74,75,76,77,78,79,80,81,82,83,84,85,86,87,88,89,90,91,92,93,94,95,96,97,98,99,100,101,102,103,104,105,106,107,108,109,110,111,112,113,114,115,116,117,118,119,120,121,122,123,124,125,126,127,128,129,130,131,132,133,134,135,136,137,138,139,140,141,142,143,144,145,146,147,148,149,150,151,152,153,154,155,156,157,158,159,160,161,162,163,164,165,166,167,168,169,170,171,172,173,174,175,176,177,178,179,180,181,182,183,184,185,186,187,188,189,190,191,192,193,194,195,196,197,198,199,200,201,202,203,204,205,206,207,208,209,210,211,212,213,214,215,216,217,218,219,220,221,222,223,224,225,226,227,228,229,230,231,232,233,234,235,236,237,238,239,240,241,242,243,244,245,246,247,248,249,250,251,252,253,254,255,256,257,258,259,260,261,262,263,264,265,266,267,268,269,270,271,272,273,274,275,276,277,278,279,280,304]
def pans:List Nat:=[69,98,100,138,188,187,192,226,230]
theorem qJo:Tryz.prog.follows .mixedOrders=true:=rfl
def qHW(f:Nat):Prop:=∀args w,(callFunc f args).run Tryz.prog w=.ok (.enter f args) w
theorem qAb{f:Nat}{l:List Nat}(h:qHW f)(k:∀g∈l,qHW g):∀g∈f::l,qHW g:=fun g hg=>by
 rcases List.mem_cons.1 hg with rfl|hg
 ·exact h
 ·exact k g hg
set_option maxRecDepth 100000 in
theorem qGW:qBJ Tryz.prog fs :=
 (qAb Tryz.call3 (qAb Tryz.call4 (qAb Tryz.call5 (qAb Tryz.call6 (qAb Tryz.call7 (qAb Tryz.call8 (qAb Tryz.call9 (qAb Tryz.call10 (qAb Tryz.call11 (qAb Tryz.call12 (qAb Tryz.call13 (qAb Tryz.call14 (qAb Tryz.call15 (qAb Tryz.call16 (qAb Tryz.call17 (qAb Tryz.call18 (qAb Tryz.call19 (qAb Tryz.call20 (qAb Tryz.call21 (qAb Tryz.call22 (qAb Tryz.call23 (qAb Tryz.call24 (qAb Tryz.call25 (qAb Tryz.call26 (qAb Tryz.call27 (qAb Tryz.call28 (qAb Tryz.call29 (qAb Tryz.call30 (qAb Tryz.call31 (qAb Tryz.call32 (qAb Tryz.call33 (qAb Tryz.call34 (qAb Tryz.call35 (qAb Tryz.call36 (qAb Tryz.call37 (qAb Tryz.call38 (qAb Tryz.call39 (qAb Tryz.call40 (qAb Tryz.call41 (qAb Tryz.call42 (qAb Tryz.call43 (qAb Tryz.call44 (qAb Tryz.call45 (qAb Tryz.call46 (qAb Tryz.call47 (qAb Tryz.call48 (qAb Tryz.call49 (qAb Tryz.call50 (qAb Tryz.call51 (qAb Tryz.call52 (qAb Tryz.call53 (qAb Tryz.call54 (qAb Tryz.call55 (qAb Tryz.call56 (qAb Tryz.call57 (qAb Tryz.call58 (qAb Tryz.call59 (qAb Tryz.call60 (qAb Tryz.call61 (qAb Tryz.call62 (qAb Tryz.call63 (qAb Tryz.call64 (qAb Tryz.call65 (qAb Tryz.call66 (qAb Tryz.call67 (qAb Tryz.call68 (qAb Tryz.call69 (qAb Tryz.call70 (qAb Tryz.call71 (qAb Tryz.call72 (qAb Tryz.call73 (qAb Tryz.call74 (qAb Tryz.call75 (qAb Tryz.call76 (qAb Tryz.call77 (qAb Tryz.call78 (qAb Tryz.call79 (qAb Tryz.call80 (qAb Tryz.call81 (qAb Tryz.call82 (qAb Tryz.call83 (qAb Tryz.call84 (qAb Tryz.call85 (qAb Tryz.call86 (qAb Tryz.call87 (qAb Tryz.call88 (qAb Tryz.call89 (qAb Tryz.call90 (qAb Tryz.call91 (qAb Tryz.call92 (qAb Tryz.call93 (qAb Tryz.call94 (qAb Tryz.call95 (qAb Tryz.call96 (qAb Tryz.call97 (qAb Tryz.call98 (qAb Tryz.call99 (qAb Tryz.call100 (qAb Tryz.call101 (qAb Tryz.call102 (qAb Tryz.call103 (qAb Tryz.call104 (qAb Tryz.call105 (qAb Tryz.call106 (qAb Tryz.call107 (qAb Tryz.call108 (qAb Tryz.call109 (qAb Tryz.call110 (qAb Tryz.call111 (qAb Tryz.call112 (qAb Tryz.call113 (qAb Tryz.call114 (qAb Tryz.call115 (qAb Tryz.call116 (qAb Tryz.call117 (qAb Tryz.call118 (qAb Tryz.call119 (qAb Tryz.call120 (qAb Tryz.call121 (qAb Tryz.call122 (qAb Tryz.call123 (qAb Tryz.call124 (qAb Tryz.call125 (qAb Tryz.call126 (qAb Tryz.call127 (qAb Tryz.call128 (qAb Tryz.call129 (qAb Tryz.call130 (qAb Tryz.call131 (qAb Tryz.call132 (qAb Tryz.call133 (qAb Tryz.call134 (qAb Tryz.call135 (qAb Tryz.call136 (qAb Tryz.call137 (qAb Tryz.call138 (qAb Tryz.call139 (qAb Tryz.call140 (qAb Tryz.call141 (qAb Tryz.call142 (qAb Tryz.call143 (qAb Tryz.call144 (qAb Tryz.call145 (qAb Tryz.call146 (qAb Tryz.call147 (qAb Tryz.call148 (qAb Tryz.call149 (qAb Tryz.call150 (qAb Tryz.call151 (qAb Tryz.call152 (qAb Tryz.call153 (qAb Tryz.call154 (qAb Tryz.call155 (qAb Tryz.call156 (qAb Tryz.call157 (qAb Tryz.call158 (qAb Tryz.call159 (qAb Tryz.call160 (qAb Tryz.call161 (qAb Tryz.call162 (qAb Tryz.call163 (qAb Tryz.call164 (qAb Tryz.call165 (qAb Tryz.call166 (qAb Tryz.call167 (qAb Tryz.call168 (qAb Tryz.call169 (qAb Tryz.call170 (qAb Tryz.call171 (qAb Tryz.call172 (qAb Tryz.call173 (qAb Tryz.call174 (qAb Tryz.call175 (qAb Tryz.call176 (qAb Tryz.call177 (qAb Tryz.call178 (qAb Tryz.call179 (qAb Tryz.call180 (qAb Tryz.call181 (qAb Tryz.call182 (qAb Tryz.call183 (qAb Tryz.call184 (qAb Tryz.call185 (qAb Tryz.call186 (qAb Tryz.call187 (qAb Tryz.call188 (qAb Tryz.call189 (qAb Tryz.call190 (qAb Tryz.call191 (qAb Tryz.call192 (qAb Tryz.call193 (qAb Tryz.call194 (qAb Tryz.call195 (qAb Tryz.call196 (qAb Tryz.call197 (qAb Tryz.call198 (qAb Tryz.call199 (qAb Tryz.call200 (qAb Tryz.call201 (qAb Tryz.call202 (qAb Tryz.call203 (qAb Tryz.call204 (qAb Tryz.call205 (qAb Tryz.call206 (qAb Tryz.call207 (qAb Tryz.call208 (qAb Tryz.call209 (qAb Tryz.call210 (qAb Tryz.call211 (qAb Tryz.call212 (qAb Tryz.call213 (qAb Tryz.call214 (qAb Tryz.call215 (qAb Tryz.call216 (qAb Tryz.call217 (qAb Tryz.call218 (qAb Tryz.call219 (qAb Tryz.call220 (qAb Tryz.call221 (qAb Tryz.call222 (qAb Tryz.call223 (qAb Tryz.call224 (qAb Tryz.call225 (qAb Tryz.call226 (qAb Tryz.call227 (qAb Tryz.call228 (qAb Tryz.call229 (qAb Tryz.call230 (qAb Tryz.call231 (qAb Tryz.call232 (qAb Tryz.call233 (qAb Tryz.call234 (qAb Tryz.call235 (qAb Tryz.call236 (qAb Tryz.call237 (qAb Tryz.call238 (qAb Tryz.call239 (qAb Tryz.call240 (qAb Tryz.call241 (qAb Tryz.call242 (qAb Tryz.call243 (qAb Tryz.call244 (qAb Tryz.call245 (qAb Tryz.call246 (qAb Tryz.call247 (qAb Tryz.call248 (qAb Tryz.call249 (qAb Tryz.call250 (qAb Tryz.call251 (qAb Tryz.call252 (qAb Tryz.call253 (qAb Tryz.call254 (qAb Tryz.call255 (qAb Tryz.call256 (qAb Tryz.call257 (qAb Tryz.call258 (qAb Tryz.call259 (qAb Tryz.call260 (qAb Tryz.call261 (qAb Tryz.call262 (qAb Tryz.call263 (qAb Tryz.call264 (qAb Tryz.call265 (qAb Tryz.call266 (qAb Tryz.call267 (qAb Tryz.call268 (qAb Tryz.call269 (qAb Tryz.call270 (qAb Tryz.call271 (qAb Tryz.call272 (qAb Tryz.call273 (qAb Tryz.call274 (qAb Tryz.call275 (qAb Tryz.call276 (qAb Tryz.call277 (qAb Tryz.call278 (qAb Tryz.call279 (qAb Tryz.call280 (qAb Tryz.call304 (fun _ h=>absurd h List.not_mem_nil))))))))))))))))))))))))))))))))))))))))))))))))))))))))))))))))))))))))))))))))))))))))))))))))))))))))))))))))))))))))))))))))))))))))))))))))))))))))))))))))))))))))))))))))))))))))))))))))))))))))))))))))))))))))))))))))))))))))))))))))))))))))))))))))))))))))))))))))))))))))
theorem qIn{f:FuncId}{fn:Func}(hf:Tryz.prog.funcs[f]?=some fn)(early:List Nat)(loops:List (Nat×List Nat))(pv:Bool){args:List Value}(hargs:args=(psF Tryz.prog fn).map (·.ev (flatV args) id)){V:Mem}{R:Ending->Mem->Prop}{q:Prop}
  (hq:q=DT Tryz.prog ⟨pans,pv⟩ R (qHM Tryz.prog fs (hintF fn early loops) fn (psF Tryz.prog fn) (flatV args).length) [] (flatV args) V) (h:q):Tri Tryz.prog f args.toArray V R :=
 tri_dt qGW qJo hf rfl (flatV args) rfl hargs hq h
theorem qBf{f:FuncId}{fn:Func}(hf:Tryz.prog.funcs[f]?=some fn)(early:List Nat)(loops:List (Nat×List Nat))(pv:Bool){args:List Value}(ρ:List Value)(hargs:args=(psF Tryz.prog fn).map (·.ev ρ id)){V:Mem}{R:Ending->Mem->Prop}{q:Prop}
  (hq:q=DT Tryz.prog ⟨pans,pv⟩ R (qHM Tryz.prog fs (hintF fn early loops) fn (psF Tryz.prog fn) ρ.length) [] ρ V) (h:q):Tri Tryz.prog f args.toArray V R :=
 tri_dt qGW qJo hf rfl ρ rfl hargs hq h
def hK(n:Nat):qGl:={ N:=0,early:=[],loops:=[],keep:=List.range n }
abbrev Ix(s:Sl)(i:Int)(q:Prop):Prop:=¬s.p=none/\0<=i/\i<(s.n:Int)/\q
abbrev TI(f:FuncId)(a:Array Value)(V:Mem)(F:Int->Mem->Prop):Prop:=TT f a V fun e V1=>∃v,e=rV (uI v)/\F v V1
abbrev TB(f:FuncId)(a:Array Value)(V:Mem)(F:Bool->Mem->Prop):Prop:=TT f a V fun e V1=>∃v,e=rV (uB v)/\F v V1
abbrev TS(f:FuncId)(a:Array Value)(V:Mem)(F:ByteArray->Mem->Prop):Prop:=TT f a V fun e V1=>∃v,e=rV (uS v)/\F v V1
abbrev TL(f:FuncId)(a:Array Value)(V:Mem)(F:Sl->Mem->Prop):Prop:=TT f a V fun e V1=>∃v,e=rV (uL v)/\F v V1
abbrev TP(f:FuncId)(a:Array Value)(V:Mem)(F:Option Addr->Mem->Prop):Prop:=TT f a V fun e V1=>∃v,e=rV (uP v)/\F v V1
abbrev LMP:=List Value->Mem->Prop
abbrev Nx(I:Nat->LMP)(n:Nat)(J:LMP):Prop:=∀m ys V'',m<n->I m ys V''->J ys V''
abbrev Lp(a:List Value)(V:Mem)(F:(Nat->LMP)->Nat->Mem->Prop):Prop:=∃(I:Nat->LMP) (n0:Nat),I n0 a V/\∀n V1,F I n V1
abbrev uD(a:ByteArray)(b c d e f g h:Sl):Value:=uA #[uS a,uL b,uL c,uL d,uL e,uL f,uL g,uL h]
theorem trx{f:FuncId}{fn:Func}{V:Mem}{R:RP}{args:List Value}(hf:Tryz.prog.funcs[f]?=some fn){q:Prop}(h:q)(hargs:args=(psF Tryz.prog fn).map (·.ev (flatV args) id):=by kernel_rfl)
 (hq:q=DT Tryz.prog ⟨pans,false⟩ R (qHM Tryz.prog fs (hintF fn [] []) fn (psF Tryz.prog fn) (flatV args).length) [] (flatV args) V:=by kernel_rfl):Tri Tryz.prog f args.toArray V R:=qIn hf [] [] false hargs hq h
abbrev pv(b:Nat):Value:=.pointer (some ⟨b,0,none⟩)
abbrev sa(b:Nat):Option Addr:=some ⟨b,0,none⟩
abbrev OV(R:List Value->Mem->Prop):Ending->Mem->Prop:=fun e V'=>∃vs:List Value,e=.returned (.tuple vs.toArray)/\R vs V'
abbrev CO(f:Nat):Prop:=∀args w,(callFunc f args).run Tryz.prog w=.ok (.enter f args) w
abbrev MR:=Mem->RP->Prop
theorem mss{V:Mem}{b:Nat}{o:Obj}:(V.set b o) b=some o:=Mem.set_same _ _ _
end Go.Proofs
