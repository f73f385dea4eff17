/- Part 11 of a proof of a law of this seat: no statement of the seat is proved here. -/
import Derived.Test.YtmeagdecjpknkaaGreatDoorPp04
import Derived.Test.YtmeagdecjpknkaaGreatDoorPp10
set_option linter.unusedVariables false
set_option linter.unusedSimpArgs false
namespace Go.Sx
open Go
open Classical
structure KeyOf (P:Program) (kt:TypeId) {α:Type} (enc:α->Value):Prop where
 inj:∀a b,enc a=enc b->a=b
 find:∀(a:α) (es:List MapEntry) (w:World),(∀e∈es,∃b,e.key=enc b)->(Instr.findKey kt (enc a) es).run P w=.ok ((es.findIdx? fun e=>decide (e.key=enc a)).bind fun j=>(es[j]?).map fun e=>(j,e.val)) w
 check:∀(b:Bool) (a:α) (w:World),(Instr.checkKey b 10000 kt (enc a)).run P w=.ok () w
 stays:∀(a:α) (w:World),(Instr.keyThatStays (enc a) (enc a)).run P w=.ok (enc a) w
noncomputable def qEa(es:List MapEntry)(k:Value):Option Value:=(es.find? fun e=>decide (e.key=k)).map (·.val)
structure qFK {α:Type} (enc:α->Value) (V:Mem) (b:Nat) (m:α->Option Value):Prop where
 at_:∃es clock,V b=some (.map es clock)/\(∀e∈es.toList,∃a,e.key=enc a)/\es.toList.Pairwise (fun e f=>e.key≠f.key)/\∀a,qEa es.toList (enc a)=m a
section
variable{α:Type}{enc:α->Value}{P:Program}{t kt et:TypeId}{V V':Mem}{b c:Nat}{m m':α->Option Value}
theorem qFK.sub(h:qFK enc V b m)(hs:V.sub V'):qFK enc V' b m:=by
 obtain⟨es,c,h1,h2⟩:=h.at_
 exact⟨es,c,hs _ _ h1,h2⟩
theorem qFK.set{o:Obj}(h:qFK enc V b m)(hn:b≠c):qFK enc (V.set c o) b m:=by
 obtain⟨es,c,h1,h2⟩:=h.at_
 exact⟨es,c,by rw[Mem.set_ne hn];exact h1,h2⟩
theorem qFK.made(V:Mem)(b:Nat):qFK enc (V.set b (.map #[] 0)) b fun _=>none :=
 ⟨#[],0,Mem.set_same _ _ _,by simp,by simp,by simp[qEa]⟩
theorem qFK.congr(h:qFK enc V b m)(e:∀k,m k=m' k):qFK enc V b m':=by
 obtain⟨es,c,h1,h2,h3,h4⟩:=h.at_
 exact⟨es,c,h1,h2,h3,fun k=>(h4 k).trans (e k)⟩
theorem qGg(k:Value):∀es:List MapEntry,qEa es k=(es.findIdx? fun e=>decide (e.key=k)).bind fun j=>(es[j]?).map (·.val)
 | []=>rfl
 | e::es=>by
  have ih:=qGg k es
  unfold qEa at ih ⊢
  simp only[List.find?_cons,List.findIdx?_cons]
  by_cases hk:e.key=k
  ·simp[hk]
  ·simp only[hk,decide_false,Bool.false_eq_true,if_false,ih]
   cases h':List.findIdx? (fun e=>decide (e.key=k)) es <;> simp
theorem qBv.key2(K:KeyOf P kt enc)(ht:P.underlying t=some (.map kt et)){z:Value}(hz:∀w,(zeroValue et).run P w=.ok z w)(hm:qFK enc V b m){k:α}{q:Value->Prop}(hq:q (.tuple #[(m k).getD z,.bool (m k).isSome])):qBv P t (.map (some b)) (enc k) true V q:=by
 intro w hw
 obtain⟨es,c,h1,h2,-,h3⟩:=hm.at_
 refine⟨_,?_,hq⟩
 unfold Instr.lookup
 simp only[Sem.run_bind,run_underlying ht,Result.andThen_ok,MapKept.run_getObj_map (hw _ _ h1),Sem.run_pure,K.check,K.find k _ w h2]
 rw[<- h3 k,qGg]
 cases h':List.findIdx? (fun e=>decide (e.key=enc k)) es.toList with
 | none=>simp_all
 | some j =>
  grind [List.findIdx?_eq_some_iff_getElem,Sem.run_pure,List.getElem?_eq_getElem,Array.getElem?_eq_getElem]
theorem qBv.key1(K:KeyOf P kt enc)(ht:P.underlying t=some (.map kt et)){z:Value}(hz:∀w,(zeroValue et).run P w=.ok z w)(hm:qFK enc V b m){k:α}{q:Value->Prop}(hq:q ((m k).getD z)):qBv P t (.map (some b)) (enc k) false V q:=by
 intro w hw
 obtain⟨es,c,h1,h2,-,h3⟩:=hm.at_
 refine⟨_,?_,hq⟩
 unfold Instr.lookup
 simp only[Sem.run_bind,run_underlying ht,Result.andThen_ok,MapKept.run_getObj_map (hw _ _ h1),Sem.run_pure,K.check,K.find k _ w h2]
 rw[<- h3 k,qGg]
 cases h':List.findIdx? (fun e=>decide (e.key=enc k)) es.toList with
 | none=>simp_all
 | some j =>
  grind [List.findIdx?_eq_some_iff_getElem,Sem.run_pure,List.getElem?_eq_getElem,Array.getElem?_eq_getElem]
theorem lookV_push{es:List MapEntry}{k val:Value}{c:Nat}(h:es.findIdx? (fun e=>decide (e.key=k))=none)(x:Value):qEa (es++[{ key:=k,val:=val,born:=c }]) x=if x=k then some val else qEa es x:=by
 grind [qEa]
theorem qHl(k val:Value):∀(es:List MapEntry) (i:Nat) (h:es.findIdx? (fun e=>decide (e.key=k))=some i) (x:Value),qEa (es.modify i fun e=>{ e with key:=k,val:=val }) x=if x=k then some val else qEa es x
 | [],_,h,_=>by simp at h
 | e::es,i,h,x=>by
  rw[List.findIdx?_cons]at h
  by_cases hk:e.key=k
  ·grind [qEa]
  ·simp only[hk,decide_false,Bool.false_eq_true,if_false,Option.map_eq_some_iff]at h
   obtain⟨j,hj,rfl⟩:=h
   have ih:=qHl k val es j hj x
   grind [qEa]
theorem qIs(k val:Value):∀(es:List MapEntry) (i:Nat),es.findIdx? (fun e=>decide (e.key=k))=some i->(es.modify i fun e=>{ e with key:=k,val:=val }).map (·.key)=es.map (·.key)
 | [],_,h=>by simp at h
 | e::es,i,h=>by
  rw[List.findIdx?_cons]at h
  by_cases hk:e.key=k
  ·grind
  ·simp only[hk,decide_false,Bool.false_eq_true,if_false,Option.map_eq_some_iff]at h
   obtain⟨j,hj,rfl⟩:=h
   simp[qIs k val es j hj]
theorem pair_keys{es:List MapEntry}:es.Pairwise (fun e f=>e.key≠f.key)↔(es.map (·.key)).Pairwise (·≠·):=by grind
theorem qDu.key(K:KeyOf P kt enc)(ht:P.underlying t=some (.map kt et))(hm:qFK enc V b m){k:α}{val:Value}{q:Mem->Prop}(hq:∀o,qFK enc (V.set b o) b (fun x=>if x=k then some val else m x)->q (V.set b o)):qDu P t (.map (some b)) (enc k) val V q:=by
 intro w hw
 obtain⟨es,c,h1,h2,hd,h3⟩:=hm.at_
 have hrun:(Instr.mapUpdate t (.map (some b)) (enc k) val).run P w =
   (match es.toList.findIdx? (fun e=>decide (e.key=enc k)) with
   | some i=>(setObj b (.map (es.modify i fun e=>{ e with key:=enc k,val:=val }) c)).run P w
   | none=>(setObj b (.map (es.push { key:=enc k,val:=val,born:=c }) (c+1))).run P w):=by
  unfold Instr.mapUpdate
  simp only[Sem.run_bind,run_underlying ht,Result.andThen_ok,MapKept.run_getObj_map (hw _ _ h1),K.check,K.find k _ w h2]
  cases h':List.findIdx? (fun e=>decide (e.key=enc k)) es.toList with
  | none=>rfl
  | some j =>
   obtain⟨hj1,hj2,_⟩:=List.findIdx?_eq_some_iff_getElem.1 h'
   have hj3:j<es.size:=by simpa using hj1
   have hkey:(es[j]?).map (·.key)=some (enc k):=by
    simp_all
   simp only[List.getElem?_eq_getElem hj1,Option.bind_some,Option.map_some,Sem.run_bind,hkey,Option.getD_some,K.stays,Result.andThen_ok]
 have hif:∀a,(if enc a=enc k then some val else qEa es.toList (enc a))=if a=k then some val else m a:=fun a=>by
  by_cases e:a=k
  ·simp_all
  ·rw[if_neg e,if_neg (fun h=>e (K.inj _ _ h)),h3]
 cases h':List.findIdx? (fun e=>decide (e.key=enc k)) es.toList with
 | none =>
  rw[h']at hrun
  refine⟨_,V.set b (.map (es.push { key:=enc k,val:=val,born:=c }) (c+1)),hrun.trans (MapKept.run_setObj_map _ (hw _ _ h1)),Frm.put hw h1,hq _ ⟨_,_,Mem.set_same _ _ _,?_,?_,fun x=>?_⟩⟩
  ·grind
  ·grind
  ·rw[Array.toList_push,lookV_push h',hif]
 | some j =>
  rw[h']at hrun
  refine⟨_,V.set b (.map (es.modify j fun e=>{ e with key:=enc k,val:=val }) c),hrun.trans (MapKept.run_setObj_map _ (hw _ _ h1)),Frm.put hw h1,hq _ ⟨_,_,Mem.set_same _ _ _,?_,?_,fun x=>?_⟩⟩
  ·intro e he
   rw[Array.toList_modify]at he
   obtain⟨i,hi,rfl⟩:=List.mem_iff_getElem.1 he
   rw[List.getElem_modify]
   split
   ·grind
   simp_all
  ·simp_all [Array.toList_modify,pair_keys,qIs]
  simp_all [Array.toList_modify,qHl]
theorem qIx:∀(es:List MapEntry) (k:Value) (i:Nat),es.Pairwise (fun e f=>e.key≠f.key)->es.findIdx? (fun e=>decide (e.key=k))=some i->∀x,qEa (es.eraseIdx i) x=if x=k then none else qEa es x
 | [],_,_,_,h,_=>by simp at h
 | e::es,k,i,hd,h,x=>by
  obtain⟨hd1,hd2⟩:=List.pairwise_cons.1 hd
  rw[List.findIdx?_cons]at h
  by_cases hk:e.key=k
  ·grind [qEa]
  ·simp only[hk,decide_false,Bool.false_eq_true,if_false,Option.map_eq_some_iff]at h
   obtain⟨j,hj,rfl⟩:=h
   have ih:=qIx es k j hd2 hj x
   grind [qEa]
theorem GenK.delete(K:KeyOf P kt enc)(ht:P.underlying t=some (.map kt et))(hm:qFK enc V b m){k:α}{x y:Operand}{t2 ty:TypeId}{vals:Operand->Value}(hx:vals x=.map (some b))(hy:vals y=enc k){q:Value->Mem->Prop}
  (hq:∀o,qFK enc (V.set b o) b (fun x=>if x=k then none else m x)->q (.tuple #[]) (V.set b o)):GenK P (.call { callee:=.builtin .delete,args:=#[x,y],argTypes:=#[t,t2] }) ty vals V q:=by
 intro w hw
 obtain⟨es,c,h1,h2,hd,h3⟩:=hm.at_
 have hrun:(execOp vals { dst:=none,op:=.call { callee:=.builtin .delete,args:=#[x,y],argTypes:=#[t,t2] },type:=ty,pos := "",after:=#[],guard:=none }).run P w =
   (Sem.run P (match es.toList.findIdx? (fun(e:MapEntry)=>decide (e.key=enc k)) with
   | some i=>setObj b (.map (es.eraseIdxIfInBounds i) c)
   | none=>setObj b (.map es c)) w).andThen fun _ w'=>.ok (.value (.tuple #[])) w':=by
  unfold execOp
  simp only[resolve,invoke,builtin,Sem.run_bind,Sem.run_pure,Result.andThen_ok,List.map_toArray,List.map_cons,List.map_nil,hx,hy,Builtin.delete_]
  simp only[List.getElem?_toArray,List.getElem?_cons_zero,List.getElem?_cons_succ,Sem.run_bind,run_underlying ht,Result.andThen_ok,MapKept.run_getObj_map (hw _ _ h1),K.check,K.find k _ w h2]
  cases h':List.findIdx? (fun e=>decide (e.key=enc k)) es.toList with
  | none=>simp[Sem.run_bind,Sem.run_pure,MapKept.run_setObj_map _ (hw _ _ h1),Result.andThen_ok]
  | some j =>
   have hj1:=(List.findIdx?_eq_some_iff_getElem.1 h').1
   have hj2:es[j]?=some es[j]:=Array.getElem?_eq_getElem (show j<es.size by simpa using hj1)
   simp[Sem.run_bind,Sem.run_pure,MapKept.run_setObj_map _ (hw _ _ h1),Result.andThen_ok,hj2]
 cases h':List.findIdx? (fun e=>decide (e.key=enc k)) es.toList with
 | none =>
  rw[h']at hrun
  simp only[MapKept.run_setObj_map _ (hw _ _ h1),Result.andThen_ok]at hrun
  refine⟨_,_,V.set b (.map es c),hrun,Frm.put hw h1,hq _ ⟨_,_,Mem.set_same _ _ _,h2,hd,fun a=>?_⟩⟩
  by_cases e:a=k
  ·subst e
   rw[if_pos rfl,qGg,h'];rfl
  simp_all
 | some j =>
  rw[h']at hrun
  simp only[MapKept.run_setObj_map _ (hw _ _ h1),Result.andThen_ok]at hrun
  refine⟨_,_,V.set b (.map (es.eraseIdxIfInBounds j) c),hrun,Frm.put hw h1,hq _ ⟨_,_,Mem.set_same _ _ _,?_,?_,fun a=>?_⟩⟩
  ·intro e he
   rw[Array.toList_eraseIdxIfInBounds]at he
   exact h2 e (List.mem_of_mem_eraseIdx he)
  ·grind [Array.toList_eraseIdxIfInBounds,List.eraseIdx_sublist]
  ·rw[Array.toList_eraseIdxIfInBounds,qIx _ _ _ hd h',h3]
   by_cases e:a=k
   ·simp_all
   ·rw[if_neg e,if_neg (fun h=>e (K.inj _ _ h))]
end
end Go.Sx
namespace Go.Proofs
open Go Go.Sx
attribute [local irreducible] Go.Sx.Tri
def qAe(n:Int):List Value:=[.int .i64 n]
def inI(n:Int):Prop:=-9223372036854775808<=n/\n<=9223372036854775807
structure Nd where
 ty:Int
 sl:Sl
 f:List Int
def Nd.row(n:Nd):List Value:=[.int .i64 n.ty,n.sl.v]
def Nd.v(n:Nd):Value:=.agg n.row.toArray
structure Nd.Ok (V:Mem) (n:Nd):Prop where
 rows:qAc V n.sl 1 (n.f.map qAe)
 tyIn:inI n.ty
 vals:∀x∈n.f,inI x
structure Mm where
 gs:Sl
 globals:List Int
 ns:Sl
 nodes:List Nd
def Mm.row(m:Mm):List Value:=[m.gs.v,m.ns.v]
def Mm.v(m:Mm):Value:=.agg m.row.toArray
structure Mm.Ok (V:Mem) (m:Mm):Prop where
 globals:qAc V m.gs 1 (m.globals.map qAe)
 gIn:∀x∈m.globals,inI x
 nodes:qAc V m.ns 2 (m.nodes.map Nd.row)
 nodesOk:∀n∈m.nodes,Nd.Ok V n
theorem Nd.Ok.sub{V V':Mem}{n:Nd}(h:Nd.Ok V n)(hs:V.sub V'):Nd.Ok V' n:=⟨h.rows.sub hs,h.tyIn,h.vals⟩
theorem Mm.Ok.sub{V V':Mem}{m:Mm}(h:Mm.Ok V m)(hs:V.sub V'):Mm.Ok V' m:=⟨h.globals.sub hs,h.gIn,h.nodes.sub hs,fun n hn=>(h.nodesOk n hn).sub hs⟩
def allI{α:Type}(p:Nat->α->Bool)(xs:List α):Bool:=xs.zipIdx.all fun x=>p x.2 x.1
def AllI{α:Type}(p:Nat->α->Bool)(xs:List α)(i:Nat):Prop:=∀j x,j<i->xs[j]?=some x->p j x=true
theorem AllI.zero{α:Type}{p:Nat->α->Bool}{xs:List α}:AllI p xs 0:=fun _ _ h=>absurd h (Nat.not_lt_zero _)
theorem AllI.succ{α:Type}{p:Nat->α->Bool}{xs:List α}{i:Nat}{x:α}(h:AllI p xs i)(hx:xs[i]?=some x)(hp:p i x=true):AllI p xs (i+1):=fun j y hj hy=>by
 rcases Nat.lt_succ_iff_lt_or_eq.1 hj with h'|rfl
 ·exact h j y h' hy
 simp_all
theorem qDk{α:Type}{p:Nat->α->Bool}{xs:List α}:allI p xs=true↔∀j x,xs[j]?=some x->p j x=true:=by
 unfold allI
 rw[List.all_eq_true]
 constructor
 ·simp_all [List.mem_zipIdx_iff_getElem?]
 grind
theorem AllI.all{α:Type}{p:Nat->α->Bool}{xs:List α}{i:Nat}(h:AllI p xs i)(hi:xs.length<=i):allI p xs=true :=
 qDk.2 fun j x hx=>h j x (by grind) hx
theorem qGZ{α:Type}{p:Nat->α->Bool}{xs:List α}{j:Nat}{x:α}(hx:xs[j]?=some x)(hp:¬p j x=true):allI p xs=false:=by
 grind [allI,absurd,qDk]
def qDp(d:Ds)(s:ByteArray):Int:=qJL (fun t=>decide (t.name=s)) d.types
def qBy(d:Ds)(l:List Fld):Bool:=l.all fun f=>qBl d f.ty
def hasT(d:Ds):Bool:=qAE d&&qBy d d.globals&&allI (fun i t=>decide (qDp d t.name=(i:Int))&&qBy d t.fields) d.types
def qAo(d:Ds)(t:Int):List Fld:=((d.types[t.toNat]?).map (·.fields)).getD []
def tyAt(l:List Fld)(i:Nat):ByteArray:=((l[i]?).map (·.ty)).getD sE
def qAt(d:Ds)(m:Mm)(typ:ByteArray)(v:Int):Bool :=
 if typ=qAW then decide (-1099511627776<=v/\v<=1099511627776) else if typ=qAu then decide (v=0∨v=1)
 else decide (v=0∨(1<=v/\v<=(m.nodes.length:Int)/\(m.nodes[(v-1).toNat]?).map (·.ty)=some (qDp d typ)))
def qAg(d:Ds)(m:Mm)(l:List Fld)(vs:List Int):Bool:=decide (l.length=vs.length)&&allI (fun i v=>qAt d m (tyAt l i) v) vs
def qDg(d:Ds)(n:Nd):Bool:=decide (0<=n.ty/\n.ty<(d.types.length:Int))
def qAs(d:Ds)(m:Mm):Bool:=hasT d&&decide (m.nodes.length<=4096)&&m.nodes.all (qDg d)&&qAg d m d.globals m.globals&&m.nodes.all fun n=>qAg d m (qAo d n.ty) n.f
theorem row_take{V:Mem}{a:Addr}{n k:Nat}{vs:List Value}(h:V.row a n=some vs)(hk:k<=n):V.row a k=some (vs.take k):=by
 grind [Mem.row]
theorem qJw{V:Mem}{p:Option Addr}{off n k:Nat}{vs:List Value}(h:V.rowp p off n=some vs)(hk:k<=n):V.rowp (qAa (qAa p off) 0) 0 k=some (vs.take k):=by
 cases p with
 | none=>cases h
 | some a =>
  have h0:((a.add off).add 0).add 0=a.add off:=by rfl
  show V.row (((a.add off).add 0).add 0) k=_
  rw[h0]
  exact row_take h hk
section
variable{V:Mem}{d:Ds}{m:Mm}
theorem qGR(d:Ds)(s:ByteArray):(qDp d s<0/\qBr d s=false)∨(0<=qDp d s/\qBr d s=true):=by
 grind [qDp,qBr,qBd,Ty]
theorem c84(h:Ds.Ok V d){l:Sl}{xs:List Fld}(hr:qAc V l 2 (xs.map Fld.row)):PP 84 [d.v,l.v] V (.bool (qBy d xs)):=by
 refine x84 ?_
 unfold w84
 refine qAI (mk:=.bool) (b0:=false) xs.length (fun i V1=>V=V1/\qBg (fun f=>qBl d f.ty) xs i) ⟨rfl,qBg.zero _ _⟩ ?_
 rintro i b V1 J hi ⟨rfl,ha⟩ hJ
 refine⟨fun hlt=>?_,fun hge=>?_⟩
 ·obtain⟨x,hm,hx,hdr,hl,hp,hz,hrow⟩:=hr.get hlt
  have hq:=qAf (n:=i*2) hp
  have go:qBl d x.ty=true->IR ((i:Int)+1)/\J [.bool b,.int .i64 ((i:Int)+1)] V:=fun hk=>⟨hr.succ hlt,hJ hl _ _ ⟨rfl,ha.succ hx hk⟩⟩
  refine⟨hp,hz,hlt,hq,_,_,hrow,fun h1=>go (by grind [qBl,qAW]),fun h1=>⟨hp,hz,hlt,hq,_,_,hrow,fun h2=>go (by grind [qBl,qAu]),fun h2=>⟨hp,hz,hlt,hq,_,_,hrow,(c85 h).call ⟨_,rfl,fun h3=>?_,fun h3=>go ?_⟩⟩⟩⟩
  ·rcases qGR d x.ty with⟨-,k⟩|⟨k,-⟩
   ·have:qBl d x.ty=false:=by grind [qBl,qAW,qAu]
    unfold qBy
    grind
   grind [absurd,qDp]
  ·rcases qGR d x.ty with⟨k,-⟩|⟨-,k⟩
   ·grind [absurd,qDp]
   grind [qBl]
 ·unfold qBy
  rw[ha.all (hr.done hge).2];simp_all
theorem c46(h:Ds.Ok V d):PP 46 [d.v] V (.bool (hasT d)):=by
 refine x46 ?_
 unfold w46 hasT
 refine(c31 h).call ⟨_,rfl,fun hv=>(c84 h h.globals).call ⟨_,rfl,fun ht=>?_,fun ht=>?_⟩,fun hv=>?_⟩
 ·rw[hv,ht,Bool.true_and,Bool.true_and]
  refine qAI (mk:=.bool) (b0:=false) d.types.length (fun i V1=>V=V1/\AllI (fun i t=>decide (qDp d t.name=(i:Int))&&qBy d t.fields) d.types i) ⟨rfl,AllI.zero⟩ ?_
  rintro i b V1 J hi ⟨rfl,ha⟩ hJ
  refine⟨fun hlt=>?_,fun hge=>?_⟩
  ·obtain⟨x,hm,hx,hdr,hl,hp,hz,hrow⟩:=h.types.get hlt
   have hq:=qAf (n:=i*2) hp
   refine⟨hp,hz,hlt,hq,_,_,hrow,(c85 h).call ⟨_,rfl,fun h1=>⟨hp,hz,hlt,hq,_,_,hrow,(c84 h (h.typesOk x hm).fields).call ⟨_,rfl,fun h2=>⟨h.types.succ hlt,hJ hl _ _ ⟨rfl,ha.succ hx ?_⟩⟩,fun h2=>?_⟩⟩,fun h1=>?_⟩⟩
   ·grind [qDp]
   ·rw[qGZ hx (by simp_all)];simp_all
   ·rw[qGZ hx (by rw[Bool.and_eq_true,decide_eq_true_eq];exact fun k=>h1 k.1)];simp_all
  ·rw[ha.all (h.types.done hge).2];simp_all
 ·simp_all
 simp_all
theorem c47(h:Ds.Ok V d)(hm:Mm.Ok V m){s:ByteArray}{v:Int}:PP 47 [d.v,m.v,.string s,.int .i64 v] V (.bool (qAt d m s v)):=by
 refine x47 ?_
 unfold w47 qAt
 have hn:=hm.nodes.n_eq
 have fin:∀{a b:Bool},a=b->(Ending.returned (.bool a)=Ending.returned (.bool b)/\V=V):=fun e=>⟨by rw[e],rfl⟩
 refine⟨fun h1=>?_,fun h1=>⟨fun h2=>?_,fun h2=>?_⟩⟩
 ·grind [qAW]
 ·grind [qAW,qAu,inr]
 ·rw[if_neg (show ¬s=qAW from h1),if_neg (show ¬s=qAu from h2)]
  refine⟨fun h3=>fin (decide_eq_true (.inl h3)).symm,fun h3=>⟨fun h4=>⟨fun h5=>?_,fun h5=>fin ?_⟩,fun h4=>fin ?_⟩⟩
  ·obtain⟨i,rfl⟩:∃i:Nat,v=(i:Int)+1:=⟨(v-1).toNat,by omega⟩
   have e:((i:Int)+1-1)=(i:Int):=by omega
   have hv2:(i:Int)+1<=9223372036854775807:=by have:=(hm.nodes.succ (i:=i) (by omega)).2;omega
   rw[e]
   obtain⟨x,hxm,hx,hdr,hl,hp,hz,hrow⟩:=hm.nodes.get (i:=i) (by omega)
   have hq:=qAf (n:=i*2) hp
   refine⟨⟨by omega,by omega⟩,hp,by omega,by omega,hq,_,_,hrow,(c85 h).call ⟨_,rfl,?_,hq,hp,by omega,by omega,⟨by omega,by omega⟩,fin ?_⟩⟩
   ·exact qJw (k:=1) hrow (by decide)
   ·refine decide_eq_decide.2 ⟨fun k=>.inr ⟨h4,by omega,?_⟩,fun k=>?_⟩
    ·show Option.map (·.ty) (m.nodes[((i:Int)).toNat]?)=_
     rw[Int.toNat_natCast,hx];exact congrArg some k
    ·rcases k with k|⟨-,-,k⟩
     ·omega
     ·rw[show ((i:Int)).toNat=i from rfl,hx]at k
      exact Option.some.inj k
  ·grind
  grind
theorem qAO{t:Int}{x:Ty}{k:Nat}(hx:d.types[k]?=some x)(ht:t=(k:Int)):qAo d t=x.fields:=by
 grind [qAo]
theorem c15(h:Ds.Ok V d)(hm:Mm.Ok V m):PP 15 [d.v,m.v] V (.bool (qAs d m)):=by
 refine x15 ?_
 unfold w15
 have hn:=hm.nodes.n_eq
 have hg:=hm.globals.n_eq
 have hdg:=h.globals.n_eq
 have hdt:=h.types.n_eq
 have no:∀{V1:Mem},V=V1->¬qAs d m=true->(Ending.returned (.bool false)=Ending.returned (.bool (qAs d m))/\V1=V):=fun e k=>⟨by simp_all,e.symm⟩
 have parts:qAs d m=true↔hasT d=true/\m.nodes.length<=4096/\(∀n∈m.nodes,qDg d n=true)/\qAg d m d.globals m.globals=true/\∀n∈m.nodes,qAg d m (qAo d n.ty) n.f=true:=by
  grind [qAs]
 refine(c46 h).call ⟨_,rfl,fun ht=>⟨fun hl=>⟨fun hbig=>no rfl fun k=>?_,fun hbig=>?_⟩,fun hl=>no rfl fun k=>?_⟩,fun ht=>no rfl fun k=>ht (parts.1 k).1⟩
 ·grind
 ·let PA:Nd->Bool:=fun n=>qDg d n&&decide ((qAo d n.ty).length=n.f.length)
  refine qAI (mk:=.bool) (b0:=false) m.nodes.length (fun i V1=>V=V1/\qBg PA m.nodes i) ⟨rfl,qBg.zero _ _⟩ ?_
  rintro i b V1 J hi ⟨rfl,ha⟩ hJ
  refine⟨fun hlt=>?_,fun hge=>?_⟩
  ·obtain⟨x,hxm,hx,hdr,hll,hp,hz,hrow⟩:=hm.nodes.get hlt
   have hq:=qAf (n:=i*2) hp
   have hnx:=(hm.nodesOk x hxm).rows.n_eq
   refine⟨hp,hz,hlt,hq,_,_,hrow,fun h1=>no rfl fun k=>?_,fun h1=>⟨fun h2=>no rfl fun k=>?_,fun h2=>?_⟩⟩
   ·have:=(parts.1 k).2.2.1 x hxm
    exact absurd (of_decide_eq_true this).1 (by omega)
   ·have:=(parts.1 k).2.2.1 x hxm
    exact absurd (of_decide_eq_true this).2 (by omega)
   ·obtain⟨t,ht'⟩:∃t:Nat,x.ty=(t:Int):=⟨x.ty.toNat,by omega⟩
    obtain⟨y,hym,hy,-,-,hyp,hyz,hyrow⟩:=h.types.get (i:=t) (by omega)
    have hfn:=(h.typesOk y hym).fields.n_eq
    have hfo:=qAO hy ht'
    have h1':(0:Int)<=x.ty:=by omega
    rw[ht']at h1 h2 ⊢
    refine⟨hp,hz,hlt,hq,_,_,hrow,hyp,by omega,by omega,qAf hyp,_,_,hyrow,fun h3=>⟨hm.nodes.succ hlt,hJ hll _ _ ⟨rfl,ha.succ hx ?_⟩⟩,fun h3=>no rfl fun k=>?_⟩
    ·grind [qDg,qAo]
    grind [qAg]
  have hA:=ha.all (hm.nodes.done hge).2
  rw[List.all_eq_true]at hA
  clear hJ ha hge hi
  refine qAI (mk:=.bool) (b0:=b) m.globals.length (fun i V1=>V=V1/\AllI (fun i v=>qAt d m (tyAt d.globals i) v) m.globals i) ⟨rfl,AllI.zero⟩ ?_
  rintro i b1 V1 J hi ⟨rfl,ha⟩ hJ
  refine⟨fun hlt=>?_,fun hge=>?_⟩
  ·obtain⟨x,hxm,hx,hdr,hll,hp,hz,hrow⟩:=hm.globals.get hlt
   obtain⟨f,hfm,hf,-,-,hfp,hfz,hfrow⟩:=h.globals.get (i:=i) (by omega)
   have hty:tyAt d.globals i=f.ty:=by grind [tyAt]
   refine⟨hfp,hfz,by omega,qAf hfp,_,_,hfrow,hp,hz,hlt,_,hrow,(c47 h hm).call ⟨_,rfl,fun h1=>⟨hm.globals.succ hlt,hJ hll _ _ ⟨rfl,ha.succ hx (by grind)⟩⟩,fun h1=>no rfl fun k=>?_⟩⟩
   have:=(parts.1 k).2.2.2.1
   unfold qAg at this
   rw[Bool.and_eq_true]at this
   grind [qDk]
  have hG:=ha.all (hm.globals.done hge).2
  clear hJ ha hge hi
  refine qAI (mk:=.bool) (b0:=b1) m.nodes.length (fun i V1=>V=V1/\qBg (fun n=>qAg d m (qAo d n.ty) n.f) m.nodes i) ⟨rfl,qBg.zero _ _⟩ ?_
  rintro i b2 V1 J hi ⟨rfl,ha⟩ hJ
  refine⟨fun hlt=>?_,fun hge=>?_⟩
  ·obtain⟨x,hxm,hx,hdr,hll,hp,hz,hrow⟩:=hm.nodes.get hlt
   have hq:=qAf (n:=i*2) hp
   have hxo:=hm.nodesOk x hxm
   have hPx:=hA x hxm
   rw[Bool.and_eq_true,decide_eq_true_eq]at hPx
   obtain⟨hP1,hP2⟩:=hPx
   have hP1:=of_decide_eq_true hP1
   obtain⟨t,ht'⟩:∃t:Nat,x.ty=(t:Int):=⟨x.ty.toNat,by omega⟩
   obtain⟨y,hym,hy,-,-,hyp,hyz,hyrow⟩:=h.types.get (i:=t) (by omega)
   have hyo:=(h.typesOk y hym).fields
   have hfo:=qAO hy ht'
   refine⟨hp,hz,hlt,hq,_,_,hrow,hyp,by rw[ht'];omega,by rw[ht'];omega,qAf hyp,_,_,by rw[ht'];exact hyrow,?_⟩
   rw[hfo]at hP2
   have hxn:=hxo.rows.n_eq
   have hyn:=hyo.n_eq
   refine qAI (mk:=.bool) (b0:=b2) y.fields.length (fun j V1=>V=V1/\AllI (fun i v=>qAt d m (tyAt y.fields i) v) x.f j) ⟨rfl,AllI.zero⟩ ?_
   rintro j b3 V1 J1 hj ⟨rfl,ha1⟩ hJ1
   refine⟨fun hlt1=>?_,fun hge1=>⟨hm.nodes.succ hlt,hJ hll _ _ ⟨rfl,ha.succ hx ?_⟩⟩⟩
   ·obtain⟨f,hfm,hf,-,hfl,hfp,hfz,hfrow⟩:=hyo.get hlt1
    obtain⟨z,hzm,hzx,-,-,hzp,hzz,hzrow⟩:=hxo.rows.get (i:=j) (by omega)
    have hty:tyAt y.fields j=f.ty:=by grind [tyAt]
    refine⟨hfp,hfz,hlt1,qAf hfp,_,_,hfrow,hp,hz,hlt,hq,_,_,hrow,hzp,hzz,by omega,_,hzrow,(c47 h hm).call ⟨_,rfl,fun h1=>⟨hyo.succ hlt1,hJ1 hfl _ _ ⟨rfl,ha1.succ hzx (by grind)⟩⟩,fun h1=>no rfl fun k=>?_⟩⟩
    have:=(parts.1 k).2.2.2.2 x hxm
    unfold qAg at this
    rw[Bool.and_eq_true,hfo]at this
    grind [qDk]
   ·have:=(hyo.done hge1).2
    unfold qAg
    rw[hfo,ha1.all (by omega),decide_eq_true hP2];rfl
  ·have hN:=ha.all (hm.nodes.done hge).2
   rw[List.all_eq_true]at hN
   have:qAs d m=true:=parts.2 ⟨ht,by omega,fun n hn'=>(Bool.and_eq_true _ _ ▸ hA n hn').1,by grind [qAg],hN⟩
   simp_all
 grind [qAg]
end
end Go.Proofs
namespace Go.Proofs
open Go Go.Sx
inductive Rs where
 | ok (v:Int)
 | bad (e:Int)
deriving DecidableEq
def Rs.bind:Rs->(Int->Rs)->Rs
 | .ok v,f=>f v
 | .bad e,_=>.bad e
def big(n:Int):Rs:=if -1099511627776<=n/\n<=1099511627776 then .ok n else .bad 5
def trI(b:Bool):Int:=if b then 1 else 0
def qFe(op a b:Int):Rs :=
 if op=9 then big (a+b) else if op=10 then big (a-b) else if op=11 then big (a*b)
 else if op=22 then .ok (if a<b then b else a) else if op=23 then .ok (if b<a then b else a)
 else if op=14 then .ok (trI (decide (a=b))) else if op=15 then .ok (trI (!decide (a=b))) else if op=16 then .ok (trI (decide (a<b))) else if op=17 then .ok (trI (decide (a<=b)))
 else if b=0 then .bad 18 else if op=12 then .ok (a.tdiv b) else .ok (a.tmod b)
def qGv(l:List Fld)(s:ByteArray):Int:=qJL (fun f=>decide (f.name=s)) l
def mIdx(d:Ds)(s:ByteArray):Int:=qJL (fun x=>decide (x.name=s)) d.measures
def varV(d:Ds)(m:Mm)(x:Int)(s:ByteArray):Int:=if s=sThisF then x else (m.globals[(qGv d.globals s).toNat]?).getD 0
def fldV(d:Ds)(m:Mm)(a:Int)(s:ByteArray):Rs :=
 if a=0 then .bad 17 else match m.nodes[(a-1).toNat]? with
  | none=>.bad 0
  | some n=>.ok ((n.f[(qGv (qAo d n.ty) s).toNat]?).getD 0)
def logV(a:Int):Int:=(Nat.log2 a.toNat:Int)
def kidR(rs:List Rs)(i:Nat):Rs:=rs.getD i (.bad 0)
section
variable(d:Ds)(m:Mm)
def comb(F:Int->Int->Rs)(x op n:Int)(s:ByteArray)(rs:List Rs):Rs :=
 if op=1∨op=2 then .ok n else if op=3 then .ok 0 else if op=4 then .ok (varV d m x s)
 else if op=5 then (kidR rs 0).bind fun a=>fldV d m a s
 else if op=7 then (kidR rs 0).bind fun a=>F (mIdx d s) a
 else if op=8 then (kidR rs 0).bind fun a=>big (-a)
 else if op=18 then (kidR rs 0).bind fun a=>.ok (1-a)
 else if op=24 then (kidR rs 0).bind fun a=>.ok (logV a)
 else if op=19 then (kidR rs 0).bind fun a=>if a=0 then .ok 0 else kidR rs 1
 else if op=20 then (kidR rs 0).bind fun a=>if a=0 then kidR rs 1 else .ok 1
 else if op=21 then (kidR rs 0).bind fun a=>if a=0 then kidR rs 2 else kidR rs 1
 else (kidR rs 0).bind fun a=>(kidR rs 1).bind fun b=>qFe op a b
mutual
def evE(F:Int->Int->Rs)(x:Int):E->Rs
 | .mk op n s _ k=>comb d m F x op n s (evEs F x k)
def evEs(F:Int->Int->Rs)(x:Int):List E->List Rs
 | []=>[]
 | e::es=>evE F x e::evEs F x es
end
end
end Go.Proofs
namespace Go.Proofs
open Go Go.Sx
structure qAx (d:Ds) (m:Mm):Prop where
 valid:qAE d=true
 chk:qIU d=none
 mem:qAs d m=true
def VE(e:E):Prop:=∃k,okE k e=true
theorem VE.of_valid{e:E}(h:qAF e=true):VE e:=⟨1,(of_decide_eq_true h).1⟩
theorem okE_eq(k:Int)(e:E):okE k e=(decide (k<=60)&&qDm e.op e.n e.s e.k.length&&okEs (k+1) e.k):=by cases e;unfold okE;rfl
theorem okEs_all{k:Int}:∀{l:List E},okEs k l=true->∀x∈l,okE k x=true
 | [],_,x,hx=>by cases hx
 | e::l,h,x,hx=>by
  unfold okEs at h
  rw[Bool.and_eq_true]at h
  rcases List.mem_cons.1 hx with rfl|hx
  ·exact h.1
  ·exact okEs_all h.2 x hx
theorem VE.node{e:E}(h:VE e):qDm e.op e.n e.s e.k.length=true:=by
 obtain⟨k,h⟩:=h
 simp_all [okE_eq,Bool.and_eq_true]
theorem VE.kids{e:E}(h:VE e):∀x∈e.k,VE x:=by
 obtain⟨k,h⟩:=h
 rw[okE_eq,Bool.and_eq_true]at h
 exact fun x hx=>⟨_,okEs_all h.2 x hx⟩
theorem qER(d:Ds)(sc:Sc):∀(k:List E) (acc:List ByteArray),(partsT d sc acc k).2=0->(∀x∈k,(qAq d sc x).2=0)/\(partsT d sc acc k).1=acc++k.map fun x=>(qAq d sc x).1
 | [],acc,_=>by rw[qEQ];simp
 | x::xs,acc,h=>by
  rw[qCO]at h ⊢
  split at h
  ·omega
  ·rename_i h'
   rw[if_neg h']
   obtain⟨h1,h2⟩:=qER d sc xs _ h
   simp_all
theorem qHY{d:Ds}{sc:Sc}{e:E}{t:ByteArray}(h:qAq d sc e=(t,0)):(∀x∈e.k,(qAq d sc x).2=0)/\qGO d sc e.op e.s (e.k.map fun x=>(qAq d sc x).1)=(t,0):=by
 grind [qKS,Prod.mk.injEq,absurd,partsT,qER]
theorem arityB{op n:Int}{s:ByteArray}{l:Int}(h:qDm op n s l=true):qAL op≠-2/\(0<=qAL op->l=qAL op)/\nmB op s=true/\numB op n=true:=by
 grind [qDm]
theorem list1{α:Type}{k:List α}(h:(k.length:Int)=1):∃a,k=[a]:=by
 match k,h with
 | [a],_=>grind
 | [],h=>simp at h
 | _::_::_,h=>simp at h;omega
theorem list2{α:Type}{k:List α}(h:(k.length:Int)=2):∃a b,k=[a,b]:=by
 match k,h with
 | [a,b],_=>simp_all
 | [],h=>simp at h
 | [_],h=>simp at h
 | _::_::_::_,h=>simp at h;omega
theorem list3{α:Type}{k:List α}(h:(k.length:Int)=3):∃a b c,k=[a,b,c]:=by
 match k,h with
 | [a,b,c],_=>simp_all
 | [],h=>simp at h
 | [_],h=>simp at h
 | [_,_],h=>simp at h
 | _::_::_::_::_,h=>simp at h;omega
theorem name_kw{s:ByteArray}(h:qAQ s=true):isKw s=false:=by
 grind [qAQ]
theorem qDY{s t:ByteArray}(h:qAQ s=true)(ht:isKw t=true):s≠t:=fun e=>by grind [name_kw]
theorem kwNil:isKw sNil=true:=by kernel_rfl
theorem kwInt:isKw qAW=true:=by kernel_rfl
theorem kwBool:isKw qAu=true:=by kernel_rfl
section
variable{d:Ds}{m:Mm}
theorem validD_types(h:qAE d=true):(∀t∈d.types,qAQ t.name=true)/\(∀f∈d.globals,qAQ f.name=true)/\(∀x∈d.measures,msB x=true)/\(∀x∈d.invs,ivB x=true):=by
 grind [qAE,qJh,tyB,qCR,fldB]
theorem qEw(h:qAE d=true){s:ByteArray}(hs:qBr d s=true):qAQ s=true:=by
 obtain⟨t,ht,e⟩:=List.any_eq_true.1 hs
 rw[<- of_decide_eq_true e]
 exact(validD_types h).1 t ht
def qBO(d:Ds)(m:Mm)(t:ByteArray)(v:Int):Prop:=if t=sNil then v=0 else qAt d m t v=true
theorem qIf:sNil≠qAW/\sNil≠qAu/\qAW≠sNil/\qAu≠sNil/\qAW≠qAu/\qAu≠qAW:=by
 refine⟨of_decide_eq_false ?_,of_decide_eq_false ?_,of_decide_eq_false ?_,of_decide_eq_false ?_,of_decide_eq_false ?_,of_decide_eq_false ?_⟩ <;> kernel_rfl
theorem qBB{v:Int}:qBO d m qAW v↔-1099511627776<=v/\v<=1099511627776:=by
 unfold qBO qAt
 rw[if_neg qIf.2.2.1,if_pos rfl,decide_eq_true_eq]
theorem qBb{v:Int}:qBO d m qAu v↔v=0∨v=1:=by
 unfold qBO qAt
 rw[if_neg qIf.2.2.2.1,if_neg qIf.2.2.2.2.2,if_pos rfl,decide_eq_true_eq]
theorem qBs(h:qAE d=true){t:ByteArray}(ht:qBl d t=true){v:Int}:qBO d m t v↔qAt d m t v=true:=by
 unfold qBO
 rw[if_neg]
 intro e
 subst e
 unfold qBl at ht
 rw[decide_eq_false qIf.1,decide_eq_false qIf.2.1]at ht
 exact qDY (qEw h (by simpa using ht)) kwNil rfl
theorem qJy{t:ByteArray}(h:qAQ t=true):qAt d m t 0=true:=by
 unfold qAt
 rw[if_neg (qDY h kwInt),if_neg (qDY h kwBool)]
 exact decide_eq_true (.inl rfl)
theorem qCi(h:qAE d=true){a b:ByteArray}(hf:qEl d a b=true){v:Int}(hv:qBO d m a v):qBO d m b v:=by
 unfold qEl at hf
 simp only[Bool.or_eq_true,Bool.and_eq_true,decide_eq_true_eq]at hf
 rcases hf with rfl|⟨rfl,hb⟩
 ·exact hv
 ·have hn:=qEw h hb
  unfold qBO at hv ⊢
  rw[if_pos rfl]at hv
  rw[if_neg (qDY hn kwNil),hv]
  exact qJy hn
theorem qDC:∀(l:List Fld) (s:ByteArray),qCu l s=((l.find? fun f=>decide (f.name=s)).map (·.ty)).getD sE
 | [],_=>rfl
 | f::l,s=>by
  unfold qCu
  rw[List.find?_cons]
  by_cases h:f.name=s
  ·simp_all
  ·rw[if_neg h,decide_eq_false h,qDC l s]
theorem qEz(l:List Fld)(s:ByteArray):(qCu l s=sE/\qGv l s=-1)∨∃(i:Nat) (f:Fld),qGv l s=i/\l[i]?=some f/\qCu l s=f.ty/\f.name=s:=by
 rw[qDC]
 unfold qGv
 rcases qBd (fun f:Fld=>decide (f.name=s)) l with⟨h1,h2,-⟩|⟨i,x,h1,h2,h3,-,h5,-⟩
 ·grind
 grind
theorem qBE(h:hasT d=true):qBy d d.globals=true/\(∀(i:Nat) (x:Ty),d.types[i]?=some x->qDp d x.name=(i:Int))/\∀x∈d.types,qBy d x.fields=true:=by
 unfold hasT at h
 rw[Bool.and_eq_true,Bool.and_eq_true,qDk]at h
 obtain⟨⟨-,h1⟩,h2⟩:=h
 refine⟨h1,fun i x hx=>?_,fun x hx=>?_⟩
 ·grind
 ·obtain⟨i,hi,rfl⟩:=List.mem_iff_getElem.1 hx
  have:=h2 i _ (List.getElem?_eq_getElem hi)
  simp_all
theorem qAh(h:qAs d m=true):hasT d=true/\m.nodes.length<=4096/\(∀n∈m.nodes,qDg d n=true)/\qAg d m d.globals m.globals=true/\∀n∈m.nodes,qAg d m (qAo d n.ty) n.f=true:=by
 grind [qAs]
theorem qFN{l:List Fld}{vs:List Int}(h:qAg d m l vs=true){i:Nat}{f:Fld}(hi:l[i]?=some f):∃v,vs[i]?=some v/\qAt d m f.ty v=true:=by
 unfold qAg at h
 rw[Bool.and_eq_true,decide_eq_true_eq,qDk]at h
 have hl:=(List.getElem?_eq_some_iff.1 hi).1
 have hv:vs[i]?=some (vs[i]'(by omega)):=List.getElem?_eq_getElem _
 grind [tyAt]
theorem right_node{t:ByteArray}(hn:qAQ t=true){a:Int}(h:qAt d m t a=true)(h0:a≠0):1<=a/\a<=(m.nodes.length:Int)/\∃n,m.nodes[(a-1).toNat]?=some n/\n∈m.nodes/\n.ty=qDp d t:=by
 unfold qAt at h
 rw[if_neg (qDY hn kwInt),if_neg (qDY hn kwBool),decide_eq_true_eq]at h
 rcases h with h|⟨h1,h2,h3⟩
 ·omega
 ·refine⟨h1,h2,?_⟩
  cases hx:m.nodes[(a-1).toNat]? with
  | none=>simp_all
  | some n=>rw[hx]at h3;exact⟨n,rfl,List.mem_of_getElem? hx,by simpa using h3⟩
theorem tyOf_idx{s:ByteArray}{t:Ty}(h:qJq d s=some t):∃i:Nat,qDp d s=(i:Int)/\d.types[i]?=some t/\t.name=s/\qBr d s=true:=by
 unfold qJq at h
 unfold qDp qBr
 rcases qBd (fun t:Ty=>decide (t.name=s)) d.types with⟨-,h2,-⟩|⟨i,x,h1,h2,h3,-,h5,-,h7,-⟩
 ·simp_all
 grind
theorem fld_ok(G:qAx d m){t s ty:ByteArray}(ht:qCf d t s=(ty,0)){a:Int}(ha:qBO d m t a)(h0:a≠0) :
  ∃(n:Nd) (i j:Nat) (tt:Ty) (f:Fld) (v:Int),m.nodes[(a-1).toNat]?=some n/\n∈m.nodes/\1<=a/\a<=(m.nodes.length:Int)/\n.ty=(j:Int)/\d.types[j]?=some tt/\tt∈d.types/\qGv tt.fields s=i/\tt.fields[i]?=some f/\n.f[i]?=some v/\qBO d m ty v/\fldV d m a s=.ok v/\f.ty=ty:=by
 unfold qCf at ht
 cases hty:qJq d t with
 | none=>simp_all
 | some tt =>
  rw[hty]at ht
  simp only at ht
  split at ht
  ·simp at ht
  ·rename_i hl
   simp only[Prod.mk.injEq,and_true]at ht
   obtain⟨j,hj,hj2,rfl,hnode⟩:=tyOf_idx hty
   have hname:=qEw G.valid hnode
   have ha':qAt d m tt.name a=true:=by
    grind [qBO]
   obtain⟨b1,b2,n,b3,b4,b5⟩:=right_node hname ha' h0
   rcases qEz tt.fields s with⟨c1,-⟩|⟨i,f,c1,c2,c3,c4⟩
   ·grind
   ·have hfo:qAo d n.ty=tt.fields:=qAO hj2 (b5.trans hj)
    obtain⟨p1,-,-,-,p5⟩:=qAh G.mem
    have hv:=p5 n b4
    rw[hfo]at hv
    obtain⟨v,hv1,hv2⟩:=qFN hv c2
    have hmem:=List.mem_of_getElem? hj2
    have hkn:qBl d f.ty=true:=List.all_eq_true.1 ((qBE p1).2.2 tt hmem) f (List.mem_of_getElem? c2)
    refine⟨n,i,j,tt,f,v,b3,b4,b1,b2,b5.trans hj,hj2,hmem,c1,c2,hv1,?_,?_,c3.symm.trans ht⟩
    ·rw[<- ht,c3];exact(qBs G.valid hkn).2 hv2
    simp_all [fldV,if_neg,Int.toNat_natCast]
theorem qEY{α β:Type}{f:Nat->α->Option β}:∀{l:List α} {i:Nat},qAl f i l=none->∀j x,l[j]?=some x->f (i+j) x=none
 | [],_,_,j,x,hx=>by simp at hx
 | y::l,i,h,j,x,hx=>by
  unfold qAl at h
  cases hy:f i y with
  | some b=>simp_all
  | none =>
   rw[hy]at h
   cases j with
   | zero=>simp_all
   | succ j=>rw[show i+(j+1)=i+1+j by omega];exact qEY h j x (by simpa using hx)
theorem qKw{α:Type}{a b:Option α}(h:a.or b=none):a=none/\b=none:=by
 simp_all
end
end Go.Proofs
namespace Go.Proofs
open Go Go.Sx
section
variable{d:Ds}{m:Mm}
theorem big_ok{n v:Int}(h:big n=.ok v):v=n/\-1099511627776<=v/\v<=1099511627776:=by
 unfold big at h
 grind
theorem trI_b(b:Bool):trI b=0∨trI b=1:=by cases b <;> simp[trI]
theorem qBJ{ok:Bool}{t t':ByteArray}(h:qGa ok t=(t',0)):ok=true/\t=t':=by
 grind [qGa]
theorem tdiv_in{a b:Int}(ha:-1099511627776<=a/\a<=1099511627776):-1099511627776<=a.tdiv b/\a.tdiv b<=1099511627776:=by
 have:=Int.natAbs_tdiv_le_natAbs a b
 omega
theorem tmod_in{a b:Int}(ha:-1099511627776<=a/\a<=1099511627776):-1099511627776<=a.tmod b/\a.tmod b<=1099511627776:=by
 have h1:=Int.natAbs_tmod a b
 have:=Nat.mod_le a.natAbs b.natAbs
 omega
theorem log_in{a:Int}(ha:a<=1099511627776):0<=logV a/\logV a<=1099511627776:=by
 grind [logV,Nat.log2,Nat.log2_le_self]
inductive Kind (d:Ds) (sc:Sc) (e:E):ByteArray->Prop where
 | int (h:e.op=1) (hn:0<=e.n/\e.n<=1099511627776):Kind d sc e qAW
 | bool (h:e.op=2) (hn:e.n=0∨e.n=1):Kind d sc e qAu
 | nil (h:e.op=3) (hn:e.n=0):Kind d sc e sNil
 | var {t} (h:e.op=4) (hl:qCu sc.vars e.s=t) (hne:t≠sE):Kind d sc e t
 | fld {t u} {a:E} (h:e.op=5) (hk:e.k=[a]) (ha:qAq d sc a=(u,0)) (ht:qCf d u e.s=(t,0)):Kind d sc e t
 | call {u} {a:E} {ms:Ms} {i:Nat} (h:e.op=7) (hk:e.k=[a]) (ha:qAq d sc a=(u,0)) (hi:mIdx d e.s=i) (hms:d.measures[i]?=some ms) (hf:qEl d u ms.ty=true):Kind d sc e qAW
 | neg {a:E} (h:e.op=8) (hk:e.k=[a]) (ha:qAq d sc a=(qAW,0)):Kind d sc e qAW
 | not {a:E} (h:e.op=18) (hk:e.k=[a]) (ha:qAq d sc a=(qAu,0)):Kind d sc e qAu
 | log {a:E} (h:e.op=24) (hk:e.k=[a]) (ha:qAq d sc a=(qAW,0)):Kind d sc e qAW
 | and {a b:E} (h:e.op=19) (hk:e.k=[a,b]) (ha:qAq d sc a=(qAu,0)) (hb:qAq d sc b=(qAu,0)):Kind d sc e qAu
 | or {a b:E} (h:e.op=20) (hk:e.k=[a,b]) (ha:qAq d sc a=(qAu,0)) (hb:qAq d sc b=(qAu,0)):Kind d sc e qAu
 | cond {a b c:E} {t u w} (h:e.op=21) (hk:e.k=[a,b,c]) (ha:qAq d sc a=(qAu,0)) (hb:qAq d sc b=(u,0)) (hc:qAq d sc c=(w,0)) (hu:u=t∨qEl d u t=true) (hw:w=t∨qEl d w t=true):Kind d sc e t
 | eq {a b:E} {u w} (h:e.op=14∨e.op=15) (hk:e.k=[a,b]) (ha:qAq d sc a=(u,0)) (hb:qAq d sc b=(w,0)):Kind d sc e qAu
 | cmp {a b:E} (h:e.op=16∨e.op=17) (hk:e.k=[a,b]) (ha:qAq d sc a=(qAW,0)) (hb:qAq d sc b=(qAW,0)):Kind d sc e qAu
 | ari {a b:E} (h:e.op=9∨e.op=10∨e.op=11∨e.op=12∨e.op=13∨e.op=22∨e.op=23) (hk:e.k=[a,b]) (ha:qAq d sc a=(qAW,0)) (hb:qAq d sc b=(qAW,0)):Kind d sc e qAW
theorem allT1{t u:ByteArray}(h:allT [t] u=true):t=u:=by simpa [allT]using h
theorem allT2{t t' u:ByteArray}(h:allT [t,t'] u=true):t=u/\t'=u:=by simpa [allT]using h
theorem qBt{p:ByteArray×Int}{t:ByteArray}(h1:p.1=t)(h2:p.2=0):p=(t,0):=Prod.ext h1 h2
theorem kind{sc:Sc}(hsc:sc.body=false){e:E}{t:ByteArray}(hv:VE e)(ht:qAq d sc e=(t,0)):Kind d sc e t:=by
 obtain⟨hk,hn⟩:=qHY ht
 obtain⟨a1,a2,a3,a4⟩:=arityB hv.node
 unfold qGO at hn
 unfold numB at a4
 have one:qAL e.op=1->∃a,e.k=[a]:=fun h=>list1 ((a2 (by omega)).trans h)
 have two:qAL e.op=2->∃a b,e.k=[a,b]:=fun h=>list2 ((a2 (by omega)).trans h)
 have three:qAL e.op=3->∃a b c,e.k=[a,b,c]:=fun h=>list3 ((a2 (by omega)).trans h)
 by_cases h1:e.op=1
 ·rw[if_pos h1]at hn a4
  cases hn;exact .int h1 (of_decide_eq_true a4)
 rw[if_neg h1]at hn a4
 by_cases h2:e.op=2
 ·rw[if_pos h2]at hn a4
  cases hn;exact .bool h2 (of_decide_eq_true a4)
 rw[if_neg h2]at hn a4
 have a4:e.n=0:=of_decide_eq_true a4
 by_cases h3:e.op=3
 ·rw[if_pos h3]at hn
  cases hn;exact .nil h3 a4
 rw[if_neg h3]at hn
 by_cases h4:e.op=4
 ·rw[if_pos h4]at hn
  split at hn
  ·simp at hn
  ·rename_i hne
   simp only[Prod.mk.injEq,and_true]at hn
   exact .var h4 hn (hn ▸ hne)
 rw[if_neg h4]at hn
 by_cases h5:e.op=5
 ·obtain⟨a,ha⟩:=one (by rw[h5];rfl)
  rw[if_pos h5,ha]at hn
  rw[ha]at hk
  exact .fld h5 ha (qBt rfl (hk a (by simp))) hn
 rw[if_neg h5]at hn
 by_cases h6:e.op=6
 ·simp_all
 rw[if_neg h6]at hn
 by_cases h7:e.op=7
 ·rw[if_pos h7]at hn
  unfold callE at hn
  rw[if_neg (by rw[hsc];decide)]at hn
  unfold qKC meOf at hn
  unfold mIdx at *
  rcases qBd (fun x:Ms=>decide (x.name=e.s)) d.measures with⟨-,q2,-⟩|⟨i,ms,q1,q2,q3,-⟩
  ·simp_all
  ·rw[q3]at hn
   simp only at hn
   split at hn
   ·simp at hn
   ·rename_i hl
    obtain⟨a,ha⟩:∃a,e.k=[a]:=list1 (by grind)
    rw[ha]at hn hk
    obtain⟨b1,rfl⟩:=qBJ hn
    exact .call h7 ha (qBt rfl (hk a (by simp))) q1 q2 (by simpa using b1)
 rw[if_neg h7]at hn
 by_cases h14:e.op=14∨e.op=15
 ·obtain⟨a,b,hab⟩:=two (by rcases h14 with h|h <;> (rw[h];rfl))
  rw[if_pos h14]at hn
  rw[hab]at hk
  obtain⟨-,rfl⟩:=qBJ hn
  exact .eq h14 hab (qBt rfl (hk a (by simp))) (qBt rfl (hk b (by simp)))
 rw[if_neg h14]at hn
 by_cases h16:e.op=16∨e.op=17
 ·obtain⟨a,b,hab⟩:=two (by rcases h16 with h|h <;> (rw[h];rfl))
  rw[if_pos h16,hab]at hn
  rw[hab]at hk
  obtain⟨g,rfl⟩:=qBJ hn
  obtain⟨g1,g2⟩:=allT2 g
  exact .cmp h16 hab (qBt g1 (hk a (by simp))) (qBt g2 (hk b (by simp)))
 rw[if_neg h16]at hn
 by_cases h18:e.op=18∨e.op=19∨e.op=20
 ·rw[if_pos h18]at hn
  rcases h18 with h|h
  ·obtain⟨a,ha⟩:=one (by rw[h];rfl)
   rw[ha]at hn hk
   obtain⟨g,rfl⟩:=qBJ hn
   exact .not h ha (qBt (allT1 g) (hk a (by simp)))
  ·obtain⟨a,b,hab⟩:=two (by rcases h with h|h <;> (rw[h];rfl))
   rw[hab]at hn hk
   obtain⟨g,rfl⟩:=qBJ hn
   obtain⟨g1,g2⟩:=allT2 g
   rcases h with h|h
   ·exact .and h hab (qBt g1 (hk a (by simp))) (qBt g2 (hk b (by simp)))
   ·exact .or h hab (qBt g1 (hk a (by simp))) (qBt g2 (hk b (by simp)))
 rw[if_neg h18]at hn
 by_cases h21:e.op=21
 ·obtain⟨a,b,c,habc⟩:=three (by rw[h21];rfl)
  rw[if_pos h21,habc]at hn
  rw[habc]at hk
  obtain⟨g,g2⟩:=qBJ hn
  simp only[List.map_cons,List.map_nil,List.getD_cons_zero,List.getD_cons_succ,Bool.and_eq_true,decide_eq_true_eq,Bool.or_eq_true]at g g2
  refine .cond h21 habc (qBt g.1 (hk a (by simp))) (qBt rfl (hk b (by simp))) (qBt rfl (hk c (by simp))) ?_ ?_
  ·grind [inr,qEl]
  grind [qEl,absurd,inr]
 rw[if_neg h21]at hn
 obtain⟨g,rfl⟩:=qBJ hn
 have hop:e.op=8∨e.op=24∨(e.op=9∨e.op=10∨e.op=11∨e.op=12∨e.op=13∨e.op=22∨e.op=23):=by
  grind [qAL]
 rcases hop with h|h|h
 ·obtain⟨a,ha⟩:=one (by rw[h];rfl)
  rw[ha]at g hk
  exact .neg h ha (qBt (allT1 g) (hk a (by simp)))
 ·obtain⟨a,ha⟩:=one (by rw[h];rfl)
  rw[ha]at g hk
  exact .log h ha (qBt (allT1 g) (hk a (by simp)))
 ·obtain⟨a,b,hab⟩:=two (by rcases h with h|h|h|h|h|h|h <;> (rw[h];rfl))
  rw[hab]at g hk
  obtain⟨g1,g2⟩:=allT2 g
  exact .ari h hab (qBt g1 (hk a (by simp))) (qBt g2 (hk b (by simp)))
theorem two_ok{op a b v:Int}(h:op=9∨op=10∨op=11∨op=12∨op=13∨op=22∨op=23)(ha:-1099511627776<=a/\a<=1099511627776)(hb:-1099511627776<=b/\b<=1099511627776)(hv:qFe op a b=.ok v):-1099511627776<=v/\v<=1099511627776:=by
 unfold qFe at hv
 split at hv
 ·exact(big_ok hv).2
 split at hv
 ·exact(big_ok hv).2
 split at hv
 ·exact(big_ok hv).2
 split at hv
 ·grind
 split at hv
 ·grind
 repeat' (split at hv;(first|omega|cases hv))
 ·exact tdiv_in ha
 ·cases hv;exact tmod_in ha
theorem twoB_ok{op a b v:Int}(h:op=14∨op=15∨op=16∨op=17)(hv:qFe op a b=.ok v):v=0∨v=1:=by
 rcases h with rfl|rfl|rfl|rfl
 ·have:trI (decide (a=b))=v:=by injection hv
  grind [trI_b]
 ·have:trI (!decide (a=b))=v:=by injection hv
  grind [trI_b]
 ·have:trI (decide (a<b))=v:=by injection hv
  grind [trI_b]
 ·have:trI (decide (a<=b))=v:=by injection hv
  grind [trI_b]
end
end Go.Proofs
namespace Go.Proofs
open Go Go.Sx
structure St where
 g:List Int
 ns:List (Int×List Int)
 tk:Nat
 cm:Nat
 lg:List (Int×Int×Int)
inductive Rx (α:Type) where
 | ok (v:α) (s:St)
 | bad (c:Int) (s:St)
def Rx.bind{α β:Type}:Rx α->(α->St->Rx β)->Rx β
 | .ok v s,f=>f v s
 | .bad c s,_=>.bad c s
def qAP:Sl:=⟨none,0,0⟩
def St.mm(s:St):Mm:=⟨qAP,s.g,qAP,s.ns.map fun n=>⟨n.1,qAP,n.2⟩⟩
def St.note(s:St)(a:Int×Int×Int):St:={ s with lg:=s.lg++[a] }
def noE:E:=.mk 0 0 sE qAP []
def qCP(d:Ds)(s:ByteArray):Int:=qJL (fun t=>decide (t.name=s)) d.procs
def liftR:Rs->St->Rx Int
 | .ok v,s=>.ok v s
 | .bad c,s=>.bad c s
def seqX:List (St->Rx Int)->List Int->St->Rx (List Int)
 | [],acc,st=>.ok acc st
 | f::fs,acc,st=>(f st).bind fun v st=>seqX fs (acc++[v]) st
def qFI(ks:List (St->Rx Int))(i:Nat):St->Rx Int:=ks.getD i fun st=>.bad 0 st
def _root_.Go.Sx.Pr.vars(p:Pr):List Fld:=p.params++p.locals
def cntX(b:Bool)(op:Int)(st:St):St:=if op=16∨op=17∨((op=14∨op=15)/\b=true) then { st with cm:=st.cm+1 } else st
abbrev Cf:=Int->List Int->St->Rx Int
abbrev Rt:=List Int×Option Int
abbrev Sf:=Nat->Pr->List S->List Int->St->Rx Rt
def qKa(F:Nat)(st:St):Rx Unit:=if F<=st.tk then .bad 20 st else .ok () { st with tk:=st.tk+1 }
section
variable(d:Ds)
def varX(p:Pr)(vals:List Int)(s:ByteArray)(st:St):Rx Int :=
 if 0<=qGv p.vars s then .ok ((vals[(qGv p.vars s).toNat]?).getD 0) st else .ok ((st.g[(qGv d.globals s).toNat]?).getD 0) (st.note (1,0,qGv d.globals s))
def fldX(a:Int)(s:ByteArray)(st:St):Rx Int :=
 if a=0 then .bad 17 st else match st.ns[(a-1).toNat]? with
  | none=>.bad 0 st
  | some n=>.ok ((n.2[(qGv (qAo d n.1) s).toNat]?).getD 0) (st.note (1,a,qGv (qAo d n.1) s))
def newX(s:ByteArray)(st:St):Rx Int :=
 if 4096<=st.ns.length then .bad 21 st else .ok ((st.ns.length:Int)+1) { st with ns:=st.ns++[(qDp d s,List.replicate (qAo d (qDp d s)).length 0)],lg:=st.lg++[(3,(st.ns.length:Int)+1,qDp d s)] }
def intB(sc:Sc):List E->Bool
 | []=>false
 | a::_=>decide ((qAq d sc a).1=qAW)
def qDq(C:Cf)(p:Pr)(vals:List Int)(b:Bool)(op n:Int)(s:ByteArray)(ks:List (St->Rx Int))(st:St):Rx Int :=
 if op=1∨op=2 then .ok n st else if op=3 then .ok 0 st else if op=4 then varX d p vals s st
 else if op=5 then (qFI ks 0 st).bind fun a st=>fldX d a s st
 else if op=6 then newX d s st
 else if op=7 then (seqX ks [] st).bind fun l st=>C (qCP d s) l st
 else if op=8 then (qFI ks 0 st).bind fun a st=>liftR (big (-a)) st
 else if op=18 then (qFI ks 0 st).bind fun a st=>.ok (1-a) st
 else if op=24 then (qFI ks 0 st).bind fun a st=>.ok (logV a) st
 else if op=19 then (qFI ks 0 st).bind fun a st=>if a=0 then .ok 0 st else qFI ks 1 st
 else if op=20 then (qFI ks 0 st).bind fun a st=>if a=0 then qFI ks 1 st else .ok 1 st
 else if op=21 then (qFI ks 0 st).bind fun a st=>if a=0 then qFI ks 2 st else qFI ks 1 st
 else (qFI ks 0 st).bind fun v st=>(qFI ks 1 st).bind fun w st=>liftR (qFe op v w) (cntX b op st)
mutual
def evX(C:Cf)(p:Pr)(vals:List Int):E->St->Rx Int
 | .mk op n s _ k=>qDq d C p vals (intB d (qAj d p) k) op n s (evXs C p vals k)
def evXs(C:Cf)(p:Pr)(vals:List Int):List E->List (St->Rx Int)
 | []=>[]
 | e::es=>evX C p vals e::evXs C p vals es
end
def qEh(Sn:Sf)(c:Nat)(i:Int)(args:List Int)(st:St):Rx Int :=
 if 200<=c then .bad 19 st else match d.procs[i.toNat]? with
  | none=>.bad 0 st
  | some p=>(Sn (c+1) p p.body (args++List.replicate p.locals.length 0) st).bind fun r st=>.ok (r.2.getD 0) st
def setX(p:Pr)(s:ByteArray)(v:Int)(vals:List Int)(st:St):Rx Rt :=
 if 0<=qGv p.vars s then .ok (vals.set (qGv p.vars s).toNat v,none) st else .ok (vals,none) { st with g:=st.g.set (qGv d.globals s).toNat v,lg:=st.lg++[(2,0,qGv d.globals s)] }
def putX(a v:Int)(s:ByteArray)(st:St):Rx Unit :=
 if a=0 then .bad 17 st else match st.ns[(a-1).toNat]? with
  | none=>.bad 0 st
  | some n=>.ok () { st with ns:=st.ns.set (a-1).toNat (n.1,n.2.set (qGv (qAo d n.1) s).toNat v),lg:=st.lg++[(2,a,qGv (qAo d n.1) s)] }
section
variable(F:Nat)(Sn:Sf)(c:Nat)(p:Pr)
def evS(vals:List Int)(e:E)(st:St):Rx Int:=evX d (qEh d Sn c) p vals e st
def whX(cond:E)(body:List S):Nat->List Int->St->Rx Rt
 | 0,_,st=>.bad 20 st
 | n+1,vals,st=>(evS d Sn c p vals cond st).bind fun a st=>if a=0 then .ok (vals,none) st else (Sn c p body vals st).bind fun r st=>match r.2 with
  | some _=>.ok r st
  | none=>(qKa F st).bind fun _ st=>whX cond body n r.1 st
def bodyX(n:Nat)(s:S)(vals:List Int)(st:St):Rx Rt :=
 if s.op=1 then (evS d Sn c p vals (s.es.getD 0 noE) st).bind fun v st=>setX d p s.s v vals st
 else if s.op=2 then (evS d Sn c p vals (s.es.getD 0 noE) st).bind fun a st=>(evS d Sn c p vals (s.es.getD 1 noE) st).bind fun v st=>(putX d a v s.s st).bind fun _ st=>.ok (vals,none) st
 else if s.op=3 then (evS d Sn c p vals (s.es.getD 0 noE) st).bind fun a st=>if a=0 then Sn c p s.xs vals st else Sn c p s.ls vals st
 else if s.op=4 then whX d F Sn c p (s.es.getD 0 noE) s.ls n vals st
 else if s.op=5 then match s.es with
  | []=>.ok (vals,some 0) st
  | e::_=>(evS d Sn c p vals e st).bind fun v st=>.ok (vals,some v) st
 else if s.op=6 then (evS d Sn c p vals (s.es.getD 0 noE) st).bind fun _ st=>.ok (vals,none) st
 else .ok (vals,none) st
def stX(n:Nat)(s:S)(vals:List Int)(st:St):Rx Rt:=(qKa F st).bind fun _ st=>bodyX d F Sn c p n s vals st
end
def qGP(f:S->List Int->St->Rx Rt):List S->List Int->St->Rx Rt
 | [],vals,st=>.ok (vals,none) st
 | s::l,vals,st=>(f s vals st).bind fun r st=>match r.2 with
  | some _=>.ok r st
  | none=>qGP f l r.1 st
def qFQ(F:Nat):Nat->Sf
 | 0=>fun _ _ _ _ st=>.bad 20 st
 | n+1=>fun c p l vals st=>qGP (stX d F (qFQ F n) c p (n+1)) l vals st
def qBQ(F:Nat)(i:Int)(args:List Int)(st:St):Rx Int:=qEh d (qFQ d F (F+1)) 0 i args st
end
variable{d:Ds}
theorem evXs_map(C:Cf)(p:Pr)(vals:List Int):∀k:List E,evXs d C p vals k=k.map (evX d C p vals)
 | []=>by unfold evXs;rfl
 | e::es=>by unfold evXs;rw[evXs_map C p vals es];rfl
theorem evX_eq(C:Cf)(p:Pr)(vals:List Int)(e:E)(st:St):evX d C p vals e st=qDq d C p vals (intB d (qAj d p) e.k) e.op e.n e.s (e.k.map (evX d C p vals)) st:=by
 cases e;unfold evX;rw[evXs_map];rfl
theorem kidX_at{f:E->St->Rx Int}{k:List E}{i:Nat}{e:E}(h:k[i]?=some e):qFI (k.map f) i=f e:=by
 grind [qFI]
section
variable{C:Cf}{p:Pr}{vals:List Int}{b:Bool}{op n:Int}{s:ByteArray}{ks:List (St->Rx Int)}{st:St}
theorem cX1(h:op=1∨op=2):qDq d C p vals b op n s ks st=.ok n st:=by rcases h with rfl|rfl <;> rfl
theorem cX3(h:op=3):qDq d C p vals b op n s ks st=.ok 0 st:=by subst h;rfl
theorem cX4(h:op=4):qDq d C p vals b op n s ks st=varX d p vals s st:=by subst h;rfl
theorem cX5(h:op=5):qDq d C p vals b op n s ks st=(qFI ks 0 st).bind fun a st=>fldX d a s st:=by subst h;rfl
theorem cX6(h:op=6):qDq d C p vals b op n s ks st=newX d s st:=by subst h;rfl
theorem cX7(h:op=7):qDq d C p vals b op n s ks st=(seqX ks [] st).bind fun l st=>C (qCP d s) l st:=by subst h;rfl
theorem cX8(h:op=8):qDq d C p vals b op n s ks st=(qFI ks 0 st).bind fun a st=>liftR (big (-a)) st:=by subst h;rfl
theorem cX18(h:op=18):qDq d C p vals b op n s ks st=(qFI ks 0 st).bind fun a st=>.ok (1-a) st:=by subst h;rfl
theorem cX24(h:op=24):qDq d C p vals b op n s ks st=(qFI ks 0 st).bind fun a st=>.ok (logV a) st:=by subst h;rfl
theorem cX19(h:op=19):qDq d C p vals b op n s ks st=(qFI ks 0 st).bind fun a st=>if a=0 then .ok 0 st else qFI ks 1 st:=by subst h;rfl
theorem cX20(h:op=20):qDq d C p vals b op n s ks st=(qFI ks 0 st).bind fun a st=>if a=0 then qFI ks 1 st else .ok 1 st:=by subst h;rfl
theorem cX21(h:op=21):qDq d C p vals b op n s ks st=(qFI ks 0 st).bind fun a st=>if a=0 then qFI ks 2 st else qFI ks 1 st:=by subst h;rfl
theorem cXTwo(h:9<=op/\op<=23/\op≠18/\op≠19/\op≠20/\op≠21):qDq d C p vals b op n s ks st=(qFI ks 0 st).bind fun v st=>(qFI ks 1 st).bind fun w st=>liftR (qFe op v w) (cntX b op st):=by
 grind [qDq]
end
end Go.Proofs
namespace Go.Proofs
open Go Go.Sx
section
variable{d:Ds}{sc:Sc}{e:E}{p:Pr}
structure CallK (d:Ds) (sc:Sc) (e:E) (pr:Pr) (i:Nat):Prop where
 idx:qCP d e.s=i
 at_:d.procs[i]?=some pr
 len:e.k.length=pr.params.length
 fit:∀(j:Nat) a f,e.k[j]?=some a->pr.params[j]?=some f->∃u,qAq d sc a=(u,0)/\qEl d u f.ty=true
theorem fitAll_at:∀{l:List ByteArray} {fs:List Fld},qCz d l fs=true->∀(j:Nat) a f,l[j]?=some a->fs[j]?=some f->qEl d a f.ty=true
 | [],_,_,j,a,f,h,_=>by simp at h
 | _::_,[],_,j,a,f,_,h=>by simp at h
 | b::l,g::fs,h,j,a,f,h1,h2=>by
  unfold qCz at h
  rw[Bool.and_eq_true]at h
  cases j with
  | zero=>simp_all
  | succ j=>exact fitAll_at h.2 j a f (by simpa using h1) (by simpa using h2)
theorem callT_ok{s t:ByteArray}{l:List ByteArray}(h:qGY d s l=(t,0)):∃(pr:Pr) (i:Nat),qCP d s=i/\d.procs[i]?=some pr/\l.length=pr.params.length/\qCz d l pr.params=true/\t=pr.result:=by
 unfold qGY qIm at h
 unfold qCP
 rcases qBd (fun x:Pr=>decide (x.name=s)) d.procs with⟨-,q2,-⟩|⟨i,pr,q1,q2,q3,-⟩
 ·simp_all
 grind
theorem callK_of(hk:∀x∈e.k,(qAq d sc x).2=0){t:ByteArray}(h:qGY d e.s (e.k.map fun x=>(qAq d sc x).1)=(t,0)):∃pr i,CallK d sc e pr i/\t=pr.result:=by
 obtain⟨pr,i,h1,h2,h3,h4,h5⟩:=callT_ok h
 refine⟨pr,i,⟨h1,h2,by simpa using h3,fun j a f ha hf=>⟨(qAq d sc a).1,qBt rfl (hk a (List.mem_of_getElem? ha)),fitAll_at h4 j _ f (by simp[ha]) hf⟩⟩,h5⟩
inductive qEK (d:Ds) (sc:Sc) (e:E):ByteArray->Prop where
 | int (h:e.op=1) (hn:0<=e.n/\e.n<=1099511627776):qEK d sc e qAW
 | bool (h:e.op=2) (hn:e.n=0∨e.n=1):qEK d sc e qAu
 | nil (h:e.op=3) (hn:e.n=0):qEK d sc e sNil
 | var {t} (h:e.op=4) (hl:qCu sc.vars e.s=t) (hne:t≠sE):qEK d sc e t
 | fld {t u} {a:E} (h:e.op=5) (hk:e.k=[a]) (ha:qAq d sc a=(u,0)) (ht:qCf d u e.s=(t,0)):qEK d sc e t
 | new (h:e.op=6) (hn:qBr d e.s=true):qEK d sc e e.s
 | call {pr:Pr} {i:Nat} (h:e.op=7) (hc:CallK d sc e pr i) (hr:pr.result≠sE):qEK d sc e pr.result
 | neg {a:E} (h:e.op=8) (hk:e.k=[a]) (ha:qAq d sc a=(qAW,0)):qEK d sc e qAW
 | not {a:E} (h:e.op=18) (hk:e.k=[a]) (ha:qAq d sc a=(qAu,0)):qEK d sc e qAu
 | log {a:E} (h:e.op=24) (hk:e.k=[a]) (ha:qAq d sc a=(qAW,0)):qEK d sc e qAW
 | and {a b:E} (h:e.op=19) (hk:e.k=[a,b]) (ha:qAq d sc a=(qAu,0)) (hb:qAq d sc b=(qAu,0)):qEK d sc e qAu
 | or {a b:E} (h:e.op=20) (hk:e.k=[a,b]) (ha:qAq d sc a=(qAu,0)) (hb:qAq d sc b=(qAu,0)):qEK d sc e qAu
 | cond {a b c:E} {t u w} (h:e.op=21) (hk:e.k=[a,b,c]) (ha:qAq d sc a=(qAu,0)) (hb:qAq d sc b=(u,0)) (hc:qAq d sc c=(w,0)) (hu:u=t∨qEl d u t=true) (hw:w=t∨qEl d w t=true) (ht:t=if u=sNil then w else u):qEK d sc e t
 | eq {a b:E} {u w} (h:e.op=14∨e.op=15) (hk:e.k=[a,b]) (ha:qAq d sc a=(u,0)) (hb:qAq d sc b=(w,0)) (hf:qEl d u w=true∨qEl d w u=true):qEK d sc e qAu
 | cmp {a b:E} (h:e.op=16∨e.op=17) (hk:e.k=[a,b]) (ha:qAq d sc a=(qAW,0)) (hb:qAq d sc b=(qAW,0)):qEK d sc e qAu
 | ari {a b:E} (h:e.op=9∨e.op=10∨e.op=11∨e.op=12∨e.op=13∨e.op=22∨e.op=23) (hk:e.k=[a,b]) (ha:qAq d sc a=(qAW,0)) (hb:qAq d sc b=(qAW,0)):qEK d sc e qAW
theorem kindX(hsc:sc.body=true){t:ByteArray}(hv:VE e)(ht:qAq d sc e=(t,0)):qEK d sc e t:=by
 obtain⟨hk,hn⟩:=qHY ht
 obtain⟨a1,a2,a3,a4⟩:=arityB hv.node
 unfold qGO at hn
 unfold numB at a4
 have one:qAL e.op=1->∃a,e.k=[a]:=fun h=>list1 ((a2 (by omega)).trans h)
 have two:qAL e.op=2->∃a b,e.k=[a,b]:=fun h=>list2 ((a2 (by omega)).trans h)
 have three:qAL e.op=3->∃a b c,e.k=[a,b,c]:=fun h=>list3 ((a2 (by omega)).trans h)
 by_cases h1:e.op=1
 ·rw[if_pos h1]at hn a4
  cases hn;exact .int h1 (of_decide_eq_true a4)
 rw[if_neg h1]at hn a4
 by_cases h2:e.op=2
 ·rw[if_pos h2]at hn a4
  cases hn;exact .bool h2 (of_decide_eq_true a4)
 rw[if_neg h2]at hn a4
 have a4:e.n=0:=of_decide_eq_true a4
 by_cases h3:e.op=3
 ·rw[if_pos h3]at hn
  cases hn;exact .nil h3 a4
 rw[if_neg h3]at hn
 by_cases h4:e.op=4
 ·rw[if_pos h4]at hn
  split at hn
  ·simp at hn
  ·rename_i hne
   simp only[Prod.mk.injEq,and_true]at hn
   exact .var h4 hn (hn ▸ hne)
 rw[if_neg h4]at hn
 by_cases h5:e.op=5
 ·obtain⟨a,ha⟩:=one (by rw[h5];rfl)
  rw[if_pos h5,ha]at hn
  rw[ha]at hk
  exact .fld h5 ha (qBt rfl (hk a (by simp))) hn
 rw[if_neg h5]at hn
 by_cases h6:e.op=6
 ·rw[if_pos h6,if_neg (by rw[hsc];decide)]at hn
  split at hn
  ·simp at hn
  ·rename_i hno
   simp only[Prod.mk.injEq,and_true]at hn
   subst hn
   exact .new h6 (by simpa using hno)
 rw[if_neg h6]at hn
 by_cases h7:e.op=7
 ·rw[if_pos h7]at hn
  unfold callE at hn
  rw[if_pos hsc]at hn
  split at hn
  ·simp at hn
  ·rename_i hne
   obtain⟨pr,i,hc,rfl⟩:=callK_of hk hn
   exact .call h7 hc fun h=>hne ⟨by rw[hn],by rw[hn];exact h⟩
 rw[if_neg h7]at hn
 by_cases h14:e.op=14∨e.op=15
 ·obtain⟨a,b,hab⟩:=two (by rcases h14 with h|h <;> (rw[h];rfl))
  rw[if_pos h14,hab]at hn
  rw[hab]at hk
  obtain⟨g,rfl⟩:=qBJ hn
  exact .eq h14 hab (qBt rfl (hk a (by simp))) (qBt rfl (hk b (by simp))) (by simpa using g)
 rw[if_neg h14]at hn
 by_cases h16:e.op=16∨e.op=17
 ·obtain⟨a,b,hab⟩:=two (by rcases h16 with h|h <;> (rw[h];rfl))
  rw[if_pos h16,hab]at hn
  rw[hab]at hk
  obtain⟨g,rfl⟩:=qBJ hn
  obtain⟨g1,g2⟩:=allT2 g
  exact .cmp h16 hab (qBt g1 (hk a (by simp))) (qBt g2 (hk b (by simp)))
 rw[if_neg h16]at hn
 by_cases h18:e.op=18∨e.op=19∨e.op=20
 ·rw[if_pos h18]at hn
  rcases h18 with h|h
  ·obtain⟨a,ha⟩:=one (by rw[h];rfl)
   rw[ha]at hn hk
   obtain⟨g,rfl⟩:=qBJ hn
   exact .not h ha (qBt (allT1 g) (hk a (by simp)))
  ·obtain⟨a,b,hab⟩:=two (by rcases h with h|h <;> (rw[h];rfl))
   rw[hab]at hn hk
   obtain⟨g,rfl⟩:=qBJ hn
   obtain⟨g1,g2⟩:=allT2 g
   rcases h with h|h
   ·exact .and h hab (qBt g1 (hk a (by simp))) (qBt g2 (hk b (by simp)))
   ·exact .or h hab (qBt g1 (hk a (by simp))) (qBt g2 (hk b (by simp)))
 rw[if_neg h18]at hn
 by_cases h21:e.op=21
 ·obtain⟨a,b,c,habc⟩:=three (by rw[h21];rfl)
  rw[if_pos h21,habc]at hn
  rw[habc]at hk
  obtain⟨g,g2⟩:=qBJ hn
  simp only[List.map_cons,List.map_nil,List.getD_cons_zero,List.getD_cons_succ,Bool.and_eq_true,decide_eq_true_eq,Bool.or_eq_true]at g g2
  refine .cond h21 habc (qBt g.1 (hk a (by simp))) (qBt rfl (hk b (by simp))) (qBt rfl (hk c (by simp))) ?_ ?_ g2.symm
  ·grind [inr,qEl]
  grind [qEl,absurd,inr]
 rw[if_neg h21]at hn
 obtain⟨g,rfl⟩:=qBJ hn
 have hop:e.op=8∨e.op=24∨(e.op=9∨e.op=10∨e.op=11∨e.op=12∨e.op=13∨e.op=22∨e.op=23):=by
  grind [qAL]
 rcases hop with h|h|h
 ·obtain⟨a,ha⟩:=one (by rw[h];rfl)
  rw[ha]at g hk
  exact .neg h ha (qBt (allT1 g) (hk a (by simp)))
 ·obtain⟨a,ha⟩:=one (by rw[h];rfl)
  rw[ha]at g hk
  exact .log h ha (qBt (allT1 g) (hk a (by simp)))
 ·obtain⟨a,b,hab⟩:=two (by rcases h with h|h|h|h|h|h|h <;> (rw[h];rfl))
  rw[hab]at g hk
  obtain⟨g1,g2⟩:=allT2 g
  exact .ari h hab (qBt g1 (hk a (by simp))) (qBt g2 (hk b (by simp)))
def TyS(d:Ds)(p:Pr)(s:S):Prop:=(∃n,(stT d (qAj d p) p.result n s).2=0)/\∃k,okS k s=true
theorem qHD{res:ByteArray}:∀{l:List S} {n:Int},(qBW d sc res n l).2=0->∀s∈l,∃n',(stT d sc res n' s).2=0
 | [],_,_,s,hs=>by cases hs
 | x::l,n,h,s,hs=>by
  rw[qHZ]at h
  split at h
  ·omega
  ·rename_i h'
   rcases List.mem_cons.1 hs with rfl|hs
   ·grind
   ·exact qHD h s hs
theorem qHI{k:Int}:∀{l:List S},qGN k l=true->∀s∈l,okS k s=true
 | [],_,s,hs=>by cases hs
 | x::l,h,s,hs=>by
  unfold qGN at h
  rw[Bool.and_eq_true]at h
  rcases List.mem_cons.1 hs with rfl|hs
  ·exact h.1
  ·exact qHI h.2 s hs
theorem okS_eq(k:Int)(s:S):okS k s=(decide (k<=60)&&qBK s.op s.s s.es s.ls.length s.xs.length&&qGN (k+1) s.ls&&qGN (k+1) s.xs):=by cases s;unfold okS;rfl
theorem TyS.parts{s:S}(h:TyS d p s):qGD d (qAj d p) p.result s.op s.s s.es=0/\qFT s.op s.s s.es s.ls.length s.xs.length=true/\(∀e∈s.es,qAF e=true)/\(∀x∈s.ls,TyS d p x)/\∀x∈s.xs,TyS d p x:=by
 obtain⟨⟨n,h1⟩,k,h2⟩:=h
 rw[okS_eq]at h2
 simp only[Bool.and_eq_true]at h2
 obtain⟨⟨⟨-,h3⟩,h4⟩,h5⟩:=h2
 unfold qBK at h3
 rw[Bool.and_eq_true,List.all_eq_true]at h3
 rw[stT_eq]at h1
 split at h1
 ·omega
 ·rename_i h'
  split at h1
  ·omega
  ·rename_i h6
   exact⟨by simpa using h',h3.1,h3.2,fun x hx=>⟨qHD (by simpa using h6) x hx,_,qHI h4 x hx⟩,fun x hx=>⟨qHD h1 x hx,_,qHI h5 x hx⟩⟩
inductive KindS (d:Ds) (p:Pr) (s:S):Prop where
 | set {e:E} {u t:ByteArray} (h:s.op=1) (he:s.es=[e]) (hv:qAF e=true) (ht:qAq d (qAj d p) e=(u,0)) (hl:qCu (qAj d p).vars s.s=t) (hne:t≠sE) (hf:qEl d u t=true)
 | put {a e:E} {u w t:ByteArray} (h:s.op=2) (he:s.es=[a,e]) (hv:qAF a=true) (hw:qAF e=true) (ha:qAq d (qAj d p) a=(u,0)) (ht:qAq d (qAj d p) e=(w,0)) (hl:qCf d u s.s=(t,0)) (hf:qEl d w t=true)
 | cond {e:E} (h:s.op=3) (he:s.es=[e]) (hv:qAF e=true) (ht:qAq d (qAj d p) e=(qAu,0))
 | loop {e:E} (h:s.op=4) (he:s.es=[e]) (hv:qAF e=true) (ht:qAq d (qAj d p) e=(qAu,0))
 | ret0 (h:s.op=5) (he:s.es=[]) (hr:p.result=sE)
 | ret1 {e:E} {u:ByteArray} (h:s.op=5) (he:s.es=[e]) (hv:qAF e=true) (ht:qAq d (qAj d p) e=(u,0)) (hr:p.result≠sE) (hf:qEl d u p.result=true)
 | call {e:E} {pr:Pr} {i:Nat} (h:s.op=6) (he:s.es=[e]) (hv:qAF e=true) (ho:e.op=7) (hc:CallK d (qAj d p) e pr i)
theorem kindS{s:S}(h:TyS d p s):KindS d p s:=by
 obtain⟨h1,h2,h3,-⟩:=h.parts
 unfold qGD at h1
 unfold qFT at h2
 by_cases o6:s.op=6
 ·rw[if_pos o6]at h1
  rw[if_neg (by omega),if_neg (by omega),if_neg (by omega),if_neg (by omega),if_neg (by omega),if_pos o6]at h2
  obtain⟨-,h4,h5,-⟩:=of_decide_eq_true h2
  obtain⟨e,he⟩:=list1 h4
  rw[he]at h1 h5
  simp only at h1
  split at h1
  ·omega
  ·rename_i h'
   obtain⟨q1,q2⟩:=qER d (qAj d p) e.k [] (by simpa using h')
   rw[q2,List.nil_append]at h1
   obtain⟨pr,i,hc,-⟩:=callK_of (t:=(qGY d e.s (e.k.map fun x=>(qAq d (qAj d p) x).1)).1) q1 (Prod.ext rfl h1)
   exact .call o6 he (h3 e (by rw[he];simp)) h5 hc
 rw[if_neg o6]at h1
 split at h1
 ·omega
 rename_i h'
 obtain⟨q1,q2⟩:=qER d (qAj d p) s.es [] (by simpa using h')
 rw[q2,List.nil_append]at h1
 have ty:∀{e:E},e∈s.es->qAq d (qAj d p) e=((qAq d (qAj d p) e).1,0):=fun he=>qBt rfl (q1 _ he)
 by_cases o1:s.op=1
 ·rw[if_pos o1]at h1
  rw[if_pos o1,Bool.and_eq_true]at h2
  obtain⟨e,he⟩:=list1 (of_decide_eq_true h2.2).1
  have hm:e∈s.es:=by rw[he];simp
  split at h1
  ·cases h1
  rename_i hne
  split at h1
  ·rename_i hf
   rw[he]at hf
   exact .set o1 he (h3 e hm) (ty hm) rfl hne hf
  ·cases h1
 rw[if_neg o1]at h1 h2
 by_cases o2:s.op=2
 ·rw[if_pos o2]at h1
  rw[if_pos o2,Bool.and_eq_true]at h2
  obtain⟨a,e,he⟩:=list2 (of_decide_eq_true h2.2).1
  have hm:a∈s.es:=by rw[he];simp
  have hm2:e∈s.es:=by rw[he];simp
  split at h1
  ·omega
  rename_i h4
  split at h1
  ·rename_i hf
   rw[he]at hf h4
   simp only[List.map_cons,List.getD_cons_zero,List.getD_cons_succ]at hf h4
   exact .put o2 he (h3 a hm) (h3 e hm2) (ty hm) (ty hm2) (Prod.ext rfl (by simpa using h4)) hf
  ·cases h1
 rw[if_neg o2]at h1 h2
 by_cases o3:s.op=3
 ·rw[if_pos (.inl o3)]at h1
  rw[if_pos o3]at h2
  obtain⟨e,he⟩:=list1 (of_decide_eq_true h2).2
  have hm:e∈s.es:=by rw[he];simp
  split at h1
  ·rename_i hf
   rw[he]at hf
   exact .cond o3 he (h3 e hm) (qBt hf (q1 e hm))
  ·cases h1
 rw[if_neg o3]at h2
 by_cases o4:s.op=4
 ·rw[if_pos (.inr o4)]at h1
  rw[if_pos o4]at h2
  obtain⟨e,he⟩:=list1 (of_decide_eq_true h2).2.1
  have hm:e∈s.es:=by rw[he];simp
  split at h1
  ·rename_i hf
   rw[he]at hf
   exact .loop o4 he (h3 e hm) (qBt hf (q1 e hm))
  ·cases h1
 rw[if_neg (by omega)]at h1
 rw[if_neg o4]at h2
 by_cases o5:s.op=5
 ·rw[if_pos o5]at h1 h2
  obtain⟨-,hl,-⟩:=of_decide_eq_true h2
  cases he:s.es with
  | nil =>
   rw[he]at h1
   simp only[List.map_nil,List.length_nil,if_true]at h1
   split at h1
   ·rename_i hr;exact .ret0 o5 he hr
   ·cases h1
  | cons e r =>
   have hr:r=[]:=by
    grind
   subst hr
   have hm:e∈s.es:=by rw[he];simp
   rw[he]at h1
   simp only[List.map_cons,List.map_nil,List.length_cons,List.length_nil,List.getD_cons_zero]at h1
   rw[if_neg (by omega)]at h1
   split at h1
   ·rename_i hf;exact .ret1 o5 he (h3 e hm) (ty hm) hf.1 hf.2
   ·cases h1
 simp_all
structure qCY (d:Ds) (p:Pr):Prop where
 body:∀s∈p.body,TyS d p s
 vars:∀f∈p.vars,qBl d f.ty=true
 res:p.result=sE∨qBl d p.result=true
 lens:p.params.length<=6/\p.locals.length<=12
theorem oneT_known{l:List Fld}{i:Nat}{f:Fld}(h:qGu d l i f=0):qBl d f.ty=true:=by
 grind [qGu]
theorem declT_known{l:List Fld}(h:qDI d l=0):∀f∈l,qBl d f.ty=true:=by
 intro f hf
 obtain⟨i,hi⟩:=List.mem_iff_getElem?.1 hf
 unfold qDI at h
 cases hq:qAl (fun i f=>if qGu d l i f≠0 then some (qGu d l i f) else none) 0 l with
 | none =>
  grind [qEY,oneT_known]
 | some b =>
  exfalso
  rw[hq]at h
  simp only[Option.getD_some]at h
  subst h
  have key:∀(l':List Fld) (i:Nat),qAl (fun i f=>if qGu d l i f≠0 then some (qGu d l i f) else none) i l'≠some 0:=by
   intro l'
   induction l' with
   | nil=>intro i h;cases h
   | cons x l' ih =>
    grind [qAl,qGu]
  exact key l 0 hq
theorem qHG(hv:qAE d=true)(hc:qIU d=none):∀p∈d.procs,qCY d p:=by
 intro p hp
 obtain⟨i,hi⟩:=List.mem_iff_getElem?.1 hp
 unfold qIU at hc
 obtain⟨-,h⟩:=qKw hc
 obtain⟨hh,h⟩:=qKw h
 obtain⟨-,h⟩:=qKw h
 obtain⟨hb,-⟩:=qKw h
 unfold qFj at hh
 unfold qCw at hb
 have a1:=qEY hh i p hi
 have a2:=qEY hb i p hi
 unfold qAE at hv
 simp only[Bool.and_eq_true,List.all_eq_true]at hv
 have hpb:=hv.1.2 p hp
 unfold prB at hpb
 simp only[Bool.and_eq_true]at hpb
 obtain⟨⟨⟨⟨-,f1⟩,f2⟩,-⟩,hs⟩:=hpb
 unfold qCR at f1 f2
 rw[Bool.and_eq_true,decide_eq_true_eq]at f1 f2
 have l1:=f1.1
 have l2:=f2.1
 refine⟨fun s hsm=>⟨?_,1,qHI (of_decide_eq_true hs).1 s hsm⟩,?_,?_,by omega,by omega⟩
 ·grind [qHD]
 ·split at a1
  ·cases a1
  split at a1
  ·cases a1
  rename_i h'
  have h':qDI d (p.params++p.locals)=0:=by simpa using h'
  exact declT_known h'
 grind
end
end Go.Proofs
