/- Part 11 of a proof of a law of this seat: no statement of the seat is proved here. -/
import Derived.Test.YtmeagdecjpknkaaGreatDoorPp04
import Derived.Test.YtmeagdecjpknkaaGreatDoorPp10
set_option linter.unusedVariables false
set_option linter.unusedSimpArgs false
namespace Go.Sx
open Go
open Classical
structure KeyOf (P:Program) (kt:TypeId) {α:Type} (enc:α->Value):Prop where
 inj:∀a b,enc a=enc b->a=b
 find:∀(a:α) (es:List MapEntry) (w:World),(∀e∈es,∃b,e.key=enc b)->(Instr.findKey kt (enc a) es).run P w=.ok ((es.findIdx? fun e=>decide (e.key=enc a)).bind fun j=>(es[j]?).map fun e=>(j,e.val)) w
 check:∀(b:Bool) (a:α) (w:World),(Instr.checkKey b 10000 kt (enc a)).run P w=.ok () w
 stays:∀(a:α) (w:World),(Instr.keyThatStays (enc a) (enc a)).run P w=.ok (enc a) w
noncomputable def qDW(es:List MapEntry)(k:Value):Option Value:=(es.find? fun e=>decide (e.key=k)).map (·.val)
structure qFE {α:Type} (enc:α->Value) (V:Mem) (b:Nat) (m:α->Option Value):Prop where
 at_:∃es clock,V b=some (.map es clock)/\(∀e∈es.toList,∃a,e.key=enc a)/\es.toList.Pairwise (fun e f=>e.key≠f.key)/\∀a,qDW es.toList (enc a)=m a
section
variable{α:Type}{enc:α->Value}{P:Program}{t kt et:TypeId}{V V':Mem}{b c:Nat}{m m':α->Option Value}
theorem qFE.sub(h:qFE enc V b m)(hs:V.sub V'):qFE enc V' b m:=by
 obtain⟨es,c,h1,h2⟩:=h.at_
 exact⟨es,c,hs _ _ h1,h2⟩
theorem qFE.set{o:Obj}(h:qFE enc V b m)(hn:b≠c):qFE enc (V.set c o) b m:=by
 obtain⟨es,c,h1,h2⟩:=h.at_
 exact⟨es,c,by rw[Mem.set_ne hn];exact h1,h2⟩
theorem qFE.made(V:Mem)(b:Nat):qFE enc (V.set b (.map #[] 0)) b fun _=>none :=
 ⟨#[],0,Mem.set_same _ _ _,by simp,by simp,by simp[qDW]⟩
theorem qFE.congr(h:qFE enc V b m)(e:∀k,m k=m' k):qFE enc V b m':=by
 obtain⟨es,c,h1,h2,h3,h4⟩:=h.at_
 exact⟨es,c,h1,h2,h3,fun k=>(h4 k).trans (e k)⟩
theorem qFZ(k:Value):∀es:List MapEntry,qDW es k=(es.findIdx? fun e=>decide (e.key=k)).bind fun j=>(es[j]?).map (·.val)
 | []=>rfl
 | e::es=>by
  have ih:=qFZ k es
  unfold qDW at ih ⊢
  simp only[List.find?_cons,List.findIdx?_cons]
  by_cases hk:e.key=k
  ·simp[hk]
  ·simp only[hk,decide_false,Bool.false_eq_true,if_false,ih]
   cases h':List.findIdx? (fun e=>decide (e.key=k)) es <;> simp
theorem qBs.key2(K:KeyOf P kt enc)(ht:P.underlying t=some (.map kt et)){z:Value}(hz:∀w,(zeroValue et).run P w=.ok z w)(hm:qFE enc V b m){k:α}{q:Value->Prop}(hq:q (.tuple #[(m k).getD z,.bool (m k).isSome])):qBs P t (.map (some b)) (enc k) true V q:=by
 intro w hw
 obtain⟨es,c,h1,h2,-,h3⟩:=hm.at_
 refine⟨_,?_,hq⟩
 unfold Instr.lookup
 simp only[Sem.run_bind,run_underlying ht,Result.andThen_ok,MapKept.run_getObj_map (hw _ _ h1),Sem.run_pure,K.check,K.find k _ w h2]
 rw[<- h3 k,qFZ]
 cases h':List.findIdx? (fun e=>decide (e.key=enc k)) es.toList with
 | none=>simp_all
 | some j =>
  grind [List.findIdx?_eq_some_iff_getElem,Sem.run_pure,List.getElem?_eq_getElem,Array.getElem?_eq_getElem]
theorem qBs.key1(K:KeyOf P kt enc)(ht:P.underlying t=some (.map kt et)){z:Value}(hz:∀w,(zeroValue et).run P w=.ok z w)(hm:qFE enc V b m){k:α}{q:Value->Prop}(hq:q ((m k).getD z)):qBs P t (.map (some b)) (enc k) false V q:=by
 intro w hw
 obtain⟨es,c,h1,h2,-,h3⟩:=hm.at_
 refine⟨_,?_,hq⟩
 unfold Instr.lookup
 simp only[Sem.run_bind,run_underlying ht,Result.andThen_ok,MapKept.run_getObj_map (hw _ _ h1),Sem.run_pure,K.check,K.find k _ w h2]
 rw[<- h3 k,qFZ]
 cases h':List.findIdx? (fun e=>decide (e.key=enc k)) es.toList with
 | none=>simp_all
 | some j =>
  grind [List.findIdx?_eq_some_iff_getElem,Sem.run_pure,List.getElem?_eq_getElem,Array.getElem?_eq_getElem]
theorem lookV_push{es:List MapEntry}{k val:Value}{c:Nat}(h:es.findIdx? (fun e=>decide (e.key=k))=none)(x:Value):qDW (es++[{ key:=k,val:=val,born:=c }]) x=if x=k then some val else qDW es x:=by
 grind [qDW]
theorem qHc(k val:Value):∀(es:List MapEntry) (i:Nat) (h:es.findIdx? (fun e=>decide (e.key=k))=some i) (x:Value),qDW (es.modify i fun e=>{ e with key:=k,val:=val }) x=if x=k then some val else qDW es x
 | [],_,h,_=>by simp at h
 | e::es,i,h,x=>by
  rw[List.findIdx?_cons]at h
  by_cases hk:e.key=k
  ·grind [qDW]
  ·simp only[hk,decide_false,Bool.false_eq_true,if_false,Option.map_eq_some_iff]at h
   obtain⟨j,hj,rfl⟩:=h
   have ih:=qHc k val es j hj x
   grind [qDW]
theorem qIm(k val:Value):∀(es:List MapEntry) (i:Nat),es.findIdx? (fun e=>decide (e.key=k))=some i->(es.modify i fun e=>{ e with key:=k,val:=val }).map (·.key)=es.map (·.key)
 | [],_,h=>by simp at h
 | e::es,i,h=>by
  rw[List.findIdx?_cons]at h
  by_cases hk:e.key=k
  ·grind
  ·simp only[hk,decide_false,Bool.false_eq_true,if_false,Option.map_eq_some_iff]at h
   obtain⟨j,hj,rfl⟩:=h
   simp[qIm k val es j hj]
theorem pair_keys{es:List MapEntry}:es.Pairwise (fun e f=>e.key≠f.key)↔(es.map (·.key)).Pairwise (·≠·):=by grind
theorem qDw.key(K:KeyOf P kt enc)(ht:P.underlying t=some (.map kt et))(hm:qFE enc V b m){k:α}{val:Value}{q:Mem->Prop}(hq:∀o,qFE enc (V.set b o) b (fun x=>if x=k then some val else m x)->q (V.set b o)):qDw P t (.map (some b)) (enc k) val V q:=by
 intro w hw
 obtain⟨es,c,h1,h2,hd,h3⟩:=hm.at_
 have hrun:(Instr.mapUpdate t (.map (some b)) (enc k) val).run P w =
   (match es.toList.findIdx? (fun e=>decide (e.key=enc k)) with
   | some i=>(setObj b (.map (es.modify i fun e=>{ e with key:=enc k,val:=val }) c)).run P w
   | none=>(setObj b (.map (es.push { key:=enc k,val:=val,born:=c }) (c+1))).run P w):=by
  unfold Instr.mapUpdate
  simp only[Sem.run_bind,run_underlying ht,Result.andThen_ok,MapKept.run_getObj_map (hw _ _ h1),K.check,K.find k _ w h2]
  cases h':List.findIdx? (fun e=>decide (e.key=enc k)) es.toList with
  | none=>rfl
  | some j =>
   obtain⟨hj1,hj2,_⟩:=List.findIdx?_eq_some_iff_getElem.1 h'
   have hj3:j<es.size:=by simpa using hj1
   have hkey:(es[j]?).map (·.key)=some (enc k):=by
    simp_all
   simp only[List.getElem?_eq_getElem hj1,Option.bind_some,Option.map_some,Sem.run_bind,hkey,Option.getD_some,K.stays,Result.andThen_ok]
 have hif:∀a,(if enc a=enc k then some val else qDW es.toList (enc a))=if a=k then some val else m a:=fun a=>by
  by_cases e:a=k
  ·simp_all
  ·rw[if_neg e,if_neg (fun h=>e (K.inj _ _ h)),h3]
 cases h':List.findIdx? (fun e=>decide (e.key=enc k)) es.toList with
 | none =>
  rw[h']at hrun
  refine⟨_,V.set b (.map (es.push { key:=enc k,val:=val,born:=c }) (c+1)),hrun.trans (MapKept.run_setObj_map _ (hw _ _ h1)),Frm.put hw h1,hq _ ⟨_,_,Mem.set_same _ _ _,?_,?_,fun x=>?_⟩⟩
  ·grind
  ·grind
  ·rw[Array.toList_push,lookV_push h',hif]
 | some j =>
  rw[h']at hrun
  refine⟨_,V.set b (.map (es.modify j fun e=>{ e with key:=enc k,val:=val }) c),hrun.trans (MapKept.run_setObj_map _ (hw _ _ h1)),Frm.put hw h1,hq _ ⟨_,_,Mem.set_same _ _ _,?_,?_,fun x=>?_⟩⟩
  ·intro e he
   rw[Array.toList_modify]at he
   obtain⟨i,hi,rfl⟩:=List.mem_iff_getElem.1 he
   rw[List.getElem_modify]
   split
   ·grind
   simp_all
  ·simp_all [Array.toList_modify,pair_keys,qIm]
  simp_all [Array.toList_modify,qHc]
theorem qIr:∀(es:List MapEntry) (k:Value) (i:Nat),es.Pairwise (fun e f=>e.key≠f.key)->es.findIdx? (fun e=>decide (e.key=k))=some i->∀x,qDW (es.eraseIdx i) x=if x=k then none else qDW es x
 | [],_,_,_,h,_=>by simp at h
 | e::es,k,i,hd,h,x=>by
  obtain⟨hd1,hd2⟩:=List.pairwise_cons.1 hd
  rw[List.findIdx?_cons]at h
  by_cases hk:e.key=k
  ·grind [qDW]
  ·simp only[hk,decide_false,Bool.false_eq_true,if_false,Option.map_eq_some_iff]at h
   obtain⟨j,hj,rfl⟩:=h
   have ih:=qIr es k j hd2 hj x
   grind [qDW]
theorem GenK.delete(K:KeyOf P kt enc)(ht:P.underlying t=some (.map kt et))(hm:qFE enc V b m){k:α}{x y:Operand}{t2 ty:TypeId}{vals:Operand->Value}(hx:vals x=.map (some b))(hy:vals y=enc k){q:Value->Mem->Prop}
  (hq:∀o,qFE enc (V.set b o) b (fun x=>if x=k then none else m x)->q (.tuple #[]) (V.set b o)):GenK P (.call { callee:=.builtin .delete,args:=#[x,y],argTypes:=#[t,t2] }) ty vals V q:=by
 intro w hw
 obtain⟨es,c,h1,h2,hd,h3⟩:=hm.at_
 have hrun:(execOp vals { dst:=none,op:=.call { callee:=.builtin .delete,args:=#[x,y],argTypes:=#[t,t2] },type:=ty,pos := "",after:=#[],guard:=none }).run P w =
   (Sem.run P (match es.toList.findIdx? (fun(e:MapEntry)=>decide (e.key=enc k)) with
   | some i=>setObj b (.map (es.eraseIdxIfInBounds i) c)
   | none=>setObj b (.map es c)) w).andThen fun _ w'=>.ok (.value (.tuple #[])) w':=by
  unfold execOp
  simp only[resolve,invoke,builtin,Sem.run_bind,Sem.run_pure,Result.andThen_ok,List.map_toArray,List.map_cons,List.map_nil,hx,hy,Builtin.delete_]
  simp only[List.getElem?_toArray,List.getElem?_cons_zero,List.getElem?_cons_succ,Sem.run_bind,run_underlying ht,Result.andThen_ok,MapKept.run_getObj_map (hw _ _ h1),K.check,K.find k _ w h2]
  cases h':List.findIdx? (fun e=>decide (e.key=enc k)) es.toList with
  | none=>simp[Sem.run_bind,Sem.run_pure,MapKept.run_setObj_map _ (hw _ _ h1),Result.andThen_ok]
  | some j =>
   have hj1:=(List.findIdx?_eq_some_iff_getElem.1 h').1
   have hj2:es[j]?=some es[j]:=Array.getElem?_eq_getElem (show j<es.size by simpa using hj1)
   simp[Sem.run_bind,Sem.run_pure,MapKept.run_setObj_map _ (hw _ _ h1),Result.andThen_ok,hj2]
 cases h':List.findIdx? (fun e=>decide (e.key=enc k)) es.toList with
 | none =>
  rw[h']at hrun
  simp only[MapKept.run_setObj_map _ (hw _ _ h1),Result.andThen_ok]at hrun
  refine⟨_,_,V.set b (.map es c),hrun,Frm.put hw h1,hq _ ⟨_,_,Mem.set_same _ _ _,h2,hd,fun a=>?_⟩⟩
  by_cases e:a=k
  ·subst e
   rw[if_pos rfl,qFZ,h'];rfl
  simp_all
 | some j =>
  rw[h']at hrun
  simp only[MapKept.run_setObj_map _ (hw _ _ h1),Result.andThen_ok]at hrun
  refine⟨_,_,V.set b (.map (es.eraseIdxIfInBounds j) c),hrun,Frm.put hw h1,hq _ ⟨_,_,Mem.set_same _ _ _,?_,?_,fun a=>?_⟩⟩
  ·intro e he
   rw[Array.toList_eraseIdxIfInBounds]at he
   exact h2 e (List.mem_of_mem_eraseIdx he)
  ·grind [Array.toList_eraseIdxIfInBounds,List.eraseIdx_sublist]
  ·rw[Array.toList_eraseIdxIfInBounds,qIr _ _ _ hd h',h3]
   by_cases e:a=k
   ·simp_all
   ·rw[if_neg e,if_neg (fun h=>e (K.inj _ _ h))]
end
end Go.Sx
namespace Go.Proofs
open Go Go.Sx
attribute [local irreducible] Go.Sx.Tri
def qAd(n:Int):List Value:=[.int .i64 n]
def inI(n:Int):Prop:=-9223372036854775808<=n/\n<=9223372036854775807
structure Nd where
 ty:Int
 sl:Sl
 f:List Int
def Nd.row(n:Nd):List Value:=[.int .i64 n.ty,n.sl.v]
def Nd.v(n:Nd):Value:=.agg n.row.toArray
structure Nd.Ok (V:Mem) (n:Nd):Prop where
 rows:qAc V n.sl 1 (n.f.map qAd)
 tyIn:inI n.ty
 vals:∀x∈n.f,inI x
structure Mm where
 gs:Sl
 globals:List Int
 ns:Sl
 nodes:List Nd
def Mm.row(m:Mm):List Value:=[m.gs.v,m.ns.v]
def Mm.v(m:Mm):Value:=.agg m.row.toArray
structure Mm.Ok (V:Mem) (m:Mm):Prop where
 globals:qAc V m.gs 1 (m.globals.map qAd)
 gIn:∀x∈m.globals,inI x
 nodes:qAc V m.ns 2 (m.nodes.map Nd.row)
 nodesOk:∀n∈m.nodes,Nd.Ok V n
theorem Nd.Ok.sub{V V':Mem}{n:Nd}(h:Nd.Ok V n)(hs:V.sub V'):Nd.Ok V' n:=⟨h.rows.sub hs,h.tyIn,h.vals⟩
theorem Mm.Ok.sub{V V':Mem}{m:Mm}(h:Mm.Ok V m)(hs:V.sub V'):Mm.Ok V' m:=⟨h.globals.sub hs,h.gIn,h.nodes.sub hs,fun n hn=>(h.nodesOk n hn).sub hs⟩
def allI{α:Type}(p:Nat->α->Bool)(xs:List α):Bool:=xs.zipIdx.all fun x=>p x.2 x.1
def AllI{α:Type}(p:Nat->α->Bool)(xs:List α)(i:Nat):Prop:=∀j x,j<i->xs[j]?=some x->p j x=true
theorem AllI.zero{α:Type}{p:Nat->α->Bool}{xs:List α}:AllI p xs 0:=fun _ _ h=>absurd h (Nat.not_lt_zero _)
theorem AllI.succ{α:Type}{p:Nat->α->Bool}{xs:List α}{i:Nat}{x:α}(h:AllI p xs i)(hx:xs[i]?=some x)(hp:p i x=true):AllI p xs (i+1):=fun j y hj hy=>by
 rcases Nat.lt_succ_iff_lt_or_eq.1 hj with h'|rfl
 ·exact h j y h' hy
 simp_all
theorem qDl{α:Type}{p:Nat->α->Bool}{xs:List α}:allI p xs=true↔∀j x,xs[j]?=some x->p j x=true:=by
 unfold allI
 rw[List.all_eq_true]
 constructor
 ·simp_all [List.mem_zipIdx_iff_getElem?]
 grind
theorem AllI.all{α:Type}{p:Nat->α->Bool}{xs:List α}{i:Nat}(h:AllI p xs i)(hi:xs.length<=i):allI p xs=true :=
 qDl.2 fun j x hx=>h j x (by grind) hx
theorem qGP{α:Type}{p:Nat->α->Bool}{xs:List α}{j:Nat}{x:α}(hx:xs[j]?=some x)(hp:¬p j x=true):allI p xs=false:=by
 grind [allI,absurd,qDl]
def qDq(d:Ds)(s:ByteArray):Int:=qJK (fun t=>decide (t.name=s)) d.types
def qBx(d:Ds)(l:List Fld):Bool:=l.all fun f=>qBi d f.ty
def qKE(d:Ds):Bool:=qAz d&&qBx d d.globals&&allI (fun i t=>decide (qDq d t.name=(i:Int))&&qBx d t.fields) d.types
def qAq(d:Ds)(t:Int):List Fld:=((d.types[t.toNat]?).map (·.fields)).getD []
def tyAt(l:List Fld)(i:Nat):ByteArray:=((l[i]?).map (·.ty)).getD sE
def qAt(d:Ds)(m:Mm)(typ:ByteArray)(v:Int):Bool :=
 if typ=qAW then decide (-1099511627776<=v/\v<=1099511627776) else if typ=qAu then decide (v=0∨v=1)
 else decide (v=0∨(1<=v/\v<=(m.nodes.length:Int)/\(m.nodes[(v-1).toNat]?).map (·.ty)=some (qDq d typ)))
def qAg(d:Ds)(m:Mm)(l:List Fld)(vs:List Int):Bool:=decide (l.length=vs.length)&&allI (fun i v=>qAt d m (tyAt l i) v) vs
def qDh(d:Ds)(n:Nd):Bool:=decide (0<=n.ty/\n.ty<(d.types.length:Int))
def qAs(d:Ds)(m:Mm):Bool:=qKE d&&decide (m.nodes.length<=4096)&&m.nodes.all (qDh d)&&qAg d m d.globals m.globals&&m.nodes.all fun n=>qAg d m (qAq d n.ty) n.f
theorem row_take{V:Mem}{a:Addr}{n k:Nat}{vs:List Value}(h:V.row a n=some vs)(hk:k<=n):V.row a k=some (vs.take k):=by
 grind [Mem.row]
theorem qJt{V:Mem}{p:Option Addr}{off n k:Nat}{vs:List Value}(h:V.rowp p off n=some vs)(hk:k<=n):V.rowp (qAa (qAa p off) 0) 0 k=some (vs.take k):=by
 cases p with
 | none=>cases h
 | some a =>
  have h0:((a.add off).add 0).add 0=a.add off:=by rfl
  show V.row (((a.add off).add 0).add 0) k=_
  rw[h0]
  exact row_take h hk
section
variable{V:Mem}{d:Ds}{m:Mm}
theorem qGJ(d:Ds)(s:ByteArray):(qDq d s<0/\qBn d s=false)∨(0<=qDq d s/\qBn d s=true):=by
 grind [qDq,qBn,qBv,Ty]
theorem c84(h:Ds.Ok V d){l:Sl}{xs:List Fld}(hr:qAc V l 2 (xs.map Fld.row)):PP 84 [d.v,l.v] V (.bool (qBx d xs)):=by
 refine x84 ?_
 unfold w84
 refine qAJ (mk:=.bool) (b0:=false) xs.length (fun i V1=>V=V1/\qBd (fun f=>qBi d f.ty) xs i) ⟨rfl,qBd.zero _ _⟩ ?_
 rintro i b V1 J hi ⟨rfl,ha⟩ hJ
 refine⟨fun hlt=>?_,fun hge=>?_⟩
 ·obtain⟨x,hm,hx,hdr,hl,hp,hz,hrow⟩:=hr.get hlt
  have hq:=qAf (n:=i*2) hp
  have go:qBi d x.ty=true->IR ((i:Int)+1)/\J [.bool b,.int .i64 ((i:Int)+1)] V:=fun hk=>⟨hr.succ hlt,hJ hl _ _ ⟨rfl,ha.succ hx hk⟩⟩
  refine⟨hp,hz,hlt,hq,_,_,hrow,fun h1=>go (by grind [qBi,qAW]),fun h1=>⟨hp,hz,hlt,hq,_,_,hrow,fun h2=>go (by grind [qBi,qAu]),fun h2=>⟨hp,hz,hlt,hq,_,_,hrow,(c85 h).call ⟨_,rfl,fun h3=>?_,fun h3=>go ?_⟩⟩⟩⟩
  ·rcases qGJ d x.ty with⟨-,k⟩|⟨k,-⟩
   ·have:qBi d x.ty=false:=by grind [qBi,qAW,qAu]
    unfold qBx
    grind
   grind [absurd,qDq]
  ·rcases qGJ d x.ty with⟨k,-⟩|⟨-,k⟩
   ·grind [absurd,qDq]
   grind [qBi]
 ·unfold qBx
  rw[ha.all (hr.done hge).2];simp_all
theorem c46(h:Ds.Ok V d):PP 46 [d.v] V (.bool (qKE d)):=by
 refine x46 ?_
 unfold w46 qKE
 refine(c31 h).call ⟨_,rfl,fun hv=>(c84 h h.globals).call ⟨_,rfl,fun ht=>?_,fun ht=>?_⟩,fun hv=>?_⟩
 ·rw[hv,ht,Bool.true_and,Bool.true_and]
  refine qAJ (mk:=.bool) (b0:=false) d.types.length (fun i V1=>V=V1/\AllI (fun i t=>decide (qDq d t.name=(i:Int))&&qBx d t.fields) d.types i) ⟨rfl,AllI.zero⟩ ?_
  rintro i b V1 J hi ⟨rfl,ha⟩ hJ
  refine⟨fun hlt=>?_,fun hge=>?_⟩
  ·obtain⟨x,hm,hx,hdr,hl,hp,hz,hrow⟩:=h.types.get hlt
   have hq:=qAf (n:=i*2) hp
   refine⟨hp,hz,hlt,hq,_,_,hrow,(c85 h).call ⟨_,rfl,fun h1=>⟨hp,hz,hlt,hq,_,_,hrow,(c84 h (h.typesOk x hm).fields).call ⟨_,rfl,fun h2=>⟨h.types.succ hlt,hJ hl _ _ ⟨rfl,ha.succ hx ?_⟩⟩,fun h2=>?_⟩⟩,fun h1=>?_⟩⟩
   ·grind [qDq]
   ·rw[qGP hx (by simp_all)];simp_all
   ·rw[qGP hx (by rw[Bool.and_eq_true,decide_eq_true_eq];exact fun k=>h1 k.1)];simp_all
  ·rw[ha.all (h.types.done hge).2];simp_all
 ·simp_all
 simp_all
theorem c47(h:Ds.Ok V d)(hm:Mm.Ok V m){s:ByteArray}{v:Int}:PP 47 [d.v,m.v,.string s,.int .i64 v] V (.bool (qAt d m s v)):=by
 refine x47 ?_
 unfold w47 qAt
 have hn:=hm.nodes.n_eq
 have fin:∀{a b:Bool},a=b->(Ending.returned (.bool a)=Ending.returned (.bool b)/\V=V):=fun e=>⟨by rw[e],rfl⟩
 refine⟨fun h1=>?_,fun h1=>⟨fun h2=>?_,fun h2=>?_⟩⟩
 ·grind [qAW]
 ·grind [qAW,qAu,inr]
 ·rw[if_neg (show ¬s=qAW from h1),if_neg (show ¬s=qAu from h2)]
  refine⟨fun h3=>fin (decide_eq_true (.inl h3)).symm,fun h3=>⟨fun h4=>⟨fun h5=>?_,fun h5=>fin ?_⟩,fun h4=>fin ?_⟩⟩
  ·obtain⟨i,rfl⟩:∃i:Nat,v=(i:Int)+1:=⟨(v-1).toNat,by omega⟩
   have e:((i:Int)+1-1)=(i:Int):=by omega
   have hv2:(i:Int)+1<=9223372036854775807:=by have:=(hm.nodes.succ (i:=i) (by omega)).2;omega
   rw[e]
   obtain⟨x,hxm,hx,hdr,hl,hp,hz,hrow⟩:=hm.nodes.get (i:=i) (by omega)
   have hq:=qAf (n:=i*2) hp
   refine⟨⟨by omega,by omega⟩,hp,by omega,by omega,hq,_,_,hrow,(c85 h).call ⟨_,rfl,?_,hq,hp,by omega,by omega,⟨by omega,by omega⟩,fin ?_⟩⟩
   ·exact qJt (k:=1) hrow (by decide)
   ·refine decide_eq_decide.2 ⟨fun k=>.inr ⟨h4,by omega,?_⟩,fun k=>?_⟩
    ·show Option.map (·.ty) (m.nodes[((i:Int)).toNat]?)=_
     rw[Int.toNat_natCast,hx];exact congrArg some k
    ·rcases k with k|⟨-,-,k⟩
     ·omega
     ·rw[show ((i:Int)).toNat=i from rfl,hx]at k
      exact Option.some.inj k
  ·grind
  grind
theorem qAS{t:Int}{x:Ty}{k:Nat}(hx:d.types[k]?=some x)(ht:t=(k:Int)):qAq d t=x.fields:=by
 grind [qAq]
theorem c15(h:Ds.Ok V d)(hm:Mm.Ok V m):PP 15 [d.v,m.v] V (.bool (qAs d m)):=by
 refine x15 ?_
 unfold w15
 have hn:=hm.nodes.n_eq
 have hg:=hm.globals.n_eq
 have hdg:=h.globals.n_eq
 have hdt:=h.types.n_eq
 have no:∀{V1:Mem},V=V1->¬qAs d m=true->(Ending.returned (.bool false)=Ending.returned (.bool (qAs d m))/\V1=V):=fun e k=>⟨by simp_all,e.symm⟩
 have parts:qAs d m=true↔qKE d=true/\m.nodes.length<=4096/\(∀n∈m.nodes,qDh d n=true)/\qAg d m d.globals m.globals=true/\∀n∈m.nodes,qAg d m (qAq d n.ty) n.f=true:=by
  grind [qAs]
 refine(c46 h).call ⟨_,rfl,fun ht=>⟨fun hl=>⟨fun hbig=>no rfl fun k=>?_,fun hbig=>?_⟩,fun hl=>no rfl fun k=>?_⟩,fun ht=>no rfl fun k=>ht (parts.1 k).1⟩
 ·grind
 ·let PA:Nd->Bool:=fun n=>qDh d n&&decide ((qAq d n.ty).length=n.f.length)
  refine qAJ (mk:=.bool) (b0:=false) m.nodes.length (fun i V1=>V=V1/\qBd PA m.nodes i) ⟨rfl,qBd.zero _ _⟩ ?_
  rintro i b V1 J hi ⟨rfl,ha⟩ hJ
  refine⟨fun hlt=>?_,fun hge=>?_⟩
  ·obtain⟨x,hxm,hx,hdr,hll,hp,hz,hrow⟩:=hm.nodes.get hlt
   have hq:=qAf (n:=i*2) hp
   have hnx:=(hm.nodesOk x hxm).rows.n_eq
   refine⟨hp,hz,hlt,hq,_,_,hrow,fun h1=>no rfl fun k=>?_,fun h1=>⟨fun h2=>no rfl fun k=>?_,fun h2=>?_⟩⟩
   ·have:=(parts.1 k).2.2.1 x hxm
    exact absurd (of_decide_eq_true this).1 (by omega)
   ·have:=(parts.1 k).2.2.1 x hxm
    exact absurd (of_decide_eq_true this).2 (by omega)
   ·obtain⟨t,ht'⟩:∃t:Nat,x.ty=(t:Int):=⟨x.ty.toNat,by omega⟩
    obtain⟨y,hym,hy,-,-,hyp,hyz,hyrow⟩:=h.types.get (i:=t) (by omega)
    have hfn:=(h.typesOk y hym).fields.n_eq
    have hfo:=qAS hy ht'
    have h1':(0:Int)<=x.ty:=by omega
    rw[ht']at h1 h2 ⊢
    refine⟨hp,hz,hlt,hq,_,_,hrow,hyp,by omega,by omega,qAf hyp,_,_,hyrow,fun h3=>⟨hm.nodes.succ hlt,hJ hll _ _ ⟨rfl,ha.succ hx ?_⟩⟩,fun h3=>no rfl fun k=>?_⟩
    ·grind [qDh,qAq]
    grind [qAg]
  have hA:=ha.all (hm.nodes.done hge).2
  rw[List.all_eq_true]at hA
  clear hJ ha hge hi
  refine qAJ (mk:=.bool) (b0:=b) m.globals.length (fun i V1=>V=V1/\AllI (fun i v=>qAt d m (tyAt d.globals i) v) m.globals i) ⟨rfl,AllI.zero⟩ ?_
  rintro i b1 V1 J hi ⟨rfl,ha⟩ hJ
  refine⟨fun hlt=>?_,fun hge=>?_⟩
  ·obtain⟨x,hxm,hx,hdr,hll,hp,hz,hrow⟩:=hm.globals.get hlt
   obtain⟨f,hfm,hf,-,-,hfp,hfz,hfrow⟩:=h.globals.get (i:=i) (by omega)
   have hty:tyAt d.globals i=f.ty:=by grind [tyAt]
   refine⟨hfp,hfz,by omega,qAf hfp,_,_,hfrow,hp,hz,hlt,_,hrow,(c47 h hm).call ⟨_,rfl,fun h1=>⟨hm.globals.succ hlt,hJ hll _ _ ⟨rfl,ha.succ hx (by grind)⟩⟩,fun h1=>no rfl fun k=>?_⟩⟩
   have:=(parts.1 k).2.2.2.1
   unfold qAg at this
   rw[Bool.and_eq_true]at this
   grind [qDl]
  have hG:=ha.all (hm.globals.done hge).2
  clear hJ ha hge hi
  refine qAJ (mk:=.bool) (b0:=b1) m.nodes.length (fun i V1=>V=V1/\qBd (fun n=>qAg d m (qAq d n.ty) n.f) m.nodes i) ⟨rfl,qBd.zero _ _⟩ ?_
  rintro i b2 V1 J hi ⟨rfl,ha⟩ hJ
  refine⟨fun hlt=>?_,fun hge=>?_⟩
  ·obtain⟨x,hxm,hx,hdr,hll,hp,hz,hrow⟩:=hm.nodes.get hlt
   have hq:=qAf (n:=i*2) hp
   have hxo:=hm.nodesOk x hxm
   have hPx:=hA x hxm
   rw[Bool.and_eq_true,decide_eq_true_eq]at hPx
   obtain⟨hP1,hP2⟩:=hPx
   have hP1:=of_decide_eq_true hP1
   obtain⟨t,ht'⟩:∃t:Nat,x.ty=(t:Int):=⟨x.ty.toNat,by omega⟩
   obtain⟨y,hym,hy,-,-,hyp,hyz,hyrow⟩:=h.types.get (i:=t) (by omega)
   have hyo:=(h.typesOk y hym).fields
   have hfo:=qAS hy ht'
   refine⟨hp,hz,hlt,hq,_,_,hrow,hyp,by rw[ht'];omega,by rw[ht'];omega,qAf hyp,_,_,by rw[ht'];exact hyrow,?_⟩
   rw[hfo]at hP2
   have hxn:=hxo.rows.n_eq
   have hyn:=hyo.n_eq
   refine qAJ (mk:=.bool) (b0:=b2) y.fields.length (fun j V1=>V=V1/\AllI (fun i v=>qAt d m (tyAt y.fields i) v) x.f j) ⟨rfl,AllI.zero⟩ ?_
   rintro j b3 V1 J1 hj ⟨rfl,ha1⟩ hJ1
   refine⟨fun hlt1=>?_,fun hge1=>⟨hm.nodes.succ hlt,hJ hll _ _ ⟨rfl,ha.succ hx ?_⟩⟩⟩
   ·obtain⟨f,hfm,hf,-,hfl,hfp,hfz,hfrow⟩:=hyo.get hlt1
    obtain⟨z,hzm,hzx,-,-,hzp,hzz,hzrow⟩:=hxo.rows.get (i:=j) (by omega)
    have hty:tyAt y.fields j=f.ty:=by grind [tyAt]
    refine⟨hfp,hfz,hlt1,qAf hfp,_,_,hfrow,hp,hz,hlt,hq,_,_,hrow,hzp,hzz,by omega,_,hzrow,(c47 h hm).call ⟨_,rfl,fun h1=>⟨hyo.succ hlt1,hJ1 hfl _ _ ⟨rfl,ha1.succ hzx (by grind)⟩⟩,fun h1=>no rfl fun k=>?_⟩⟩
    have:=(parts.1 k).2.2.2.2 x hxm
    unfold qAg at this
    rw[Bool.and_eq_true,hfo]at this
    grind [qDl]
   ·have:=(hyo.done hge1).2
    unfold qAg
    rw[hfo,ha1.all (by omega),decide_eq_true hP2];rfl
  ·have hN:=ha.all (hm.nodes.done hge).2
   rw[List.all_eq_true]at hN
   have:qAs d m=true:=parts.2 ⟨ht,by omega,fun n hn'=>(Bool.and_eq_true _ _ ▸ hA n hn').1,by grind [qAg],hN⟩
   simp_all
 grind [qAg]
end
end Go.Proofs
namespace Go.Proofs
open Go Go.Sx
inductive Rs where
 | ok (v:Int)
 | bad (e:Int)
deriving DecidableEq
def Rs.bind:Rs->(Int->Rs)->Rs
 | .ok v,f=>f v
 | .bad e,_=>.bad e
def big(n:Int):Rs:=if -1099511627776<=n/\n<=1099511627776 then .ok n else .bad 5
def trI(b:Bool):Int:=if b then 1 else 0
def qFb(op a b:Int):Rs :=
 if op=9 then big (a+b) else if op=10 then big (a-b) else if op=11 then big (a*b)
 else if op=22 then .ok (if a<b then b else a) else if op=23 then .ok (if b<a then b else a)
 else if op=14 then .ok (trI (decide (a=b))) else if op=15 then .ok (trI (!decide (a=b))) else if op=16 then .ok (trI (decide (a<b))) else if op=17 then .ok (trI (decide (a<=b)))
 else if b=0 then .bad 18 else if op=12 then .ok (a.tdiv b) else .ok (a.tmod b)
def qGo(l:List Fld)(s:ByteArray):Int:=qJK (fun f=>decide (f.name=s)) l
def mIdx(d:Ds)(s:ByteArray):Int:=qJK (fun x=>decide (x.name=s)) d.measures
def varV(d:Ds)(m:Mm)(x:Int)(s:ByteArray):Int:=if s=sThisF then x else (m.globals[(qGo d.globals s).toNat]?).getD 0
def fldV(d:Ds)(m:Mm)(a:Int)(s:ByteArray):Rs :=
 if a=0 then .bad 17 else match m.nodes[(a-1).toNat]? with
  | none=>.bad 0
  | some n=>.ok ((n.f[(qGo (qAq d n.ty) s).toNat]?).getD 0)
def logV(a:Int):Int:=(Nat.log2 a.toNat:Int)
def kidR(rs:List Rs)(i:Nat):Rs:=rs.getD i (.bad 0)
section
variable(d:Ds)(m:Mm)
def comb(F:Int->Int->Rs)(x op n:Int)(s:ByteArray)(rs:List Rs):Rs :=
 if op=1∨op=2 then .ok n else if op=3 then .ok 0 else if op=4 then .ok (varV d m x s)
 else if op=5 then (kidR rs 0).bind fun a=>fldV d m a s
 else if op=7 then (kidR rs 0).bind fun a=>F (mIdx d s) a
 else if op=8 then (kidR rs 0).bind fun a=>big (-a)
 else if op=18 then (kidR rs 0).bind fun a=>.ok (1-a)
 else if op=24 then (kidR rs 0).bind fun a=>.ok (logV a)
 else if op=19 then (kidR rs 0).bind fun a=>if a=0 then .ok 0 else kidR rs 1
 else if op=20 then (kidR rs 0).bind fun a=>if a=0 then kidR rs 1 else .ok 1
 else if op=21 then (kidR rs 0).bind fun a=>if a=0 then kidR rs 2 else kidR rs 1
 else (kidR rs 0).bind fun a=>(kidR rs 1).bind fun b=>qFb op a b
mutual
def evE(F:Int->Int->Rs)(x:Int):E->Rs
 | .mk op n s _ k=>comb d m F x op n s (evEs F x k)
def evEs(F:Int->Int->Rs)(x:Int):List E->List Rs
 | []=>[]
 | e::es=>evE F x e::evEs F x es
end
end
end Go.Proofs
namespace Go.Proofs
open Go Go.Sx
structure qAB (d:Ds) (m:Mm):Prop where
 valid:qAz d=true
 chk:qIO d=none
 mem:qAs d m=true
def VE(e:E):Prop:=∃k,okE k e=true
theorem VE.of_valid{e:E}(h:qAG e=true):VE e:=⟨1,(of_decide_eq_true h).1⟩
theorem okE_eq(k:Int)(e:E):okE k e=(decide (k<=60)&&qDn e.op e.n e.s e.k.length&&okEs (k+1) e.k):=by cases e;unfold okE;rfl
theorem okEs_all{k:Int}:∀{l:List E},okEs k l=true->∀x∈l,okE k x=true
 | [],_,x,hx=>by cases hx
 | e::l,h,x,hx=>by
  unfold okEs at h
  rw[Bool.and_eq_true]at h
  rcases List.mem_cons.1 hx with rfl|hx
  ·exact h.1
  ·exact okEs_all h.2 x hx
theorem VE.node{e:E}(h:VE e):qDn e.op e.n e.s e.k.length=true:=by
 obtain⟨k,h⟩:=h
 simp_all [okE_eq,Bool.and_eq_true]
theorem VE.kids{e:E}(h:VE e):∀x∈e.k,VE x:=by
 obtain⟨k,h⟩:=h
 rw[okE_eq,Bool.and_eq_true]at h
 exact fun x hx=>⟨_,okEs_all h.2 x hx⟩
theorem qEP(d:Ds)(sc:Sc):∀(k:List E) (acc:List ByteArray),(partsT d sc acc k).2=0->(∀x∈k,(qAr d sc x).2=0)/\(partsT d sc acc k).1=acc++k.map fun x=>(qAr d sc x).1
 | [],acc,_=>by rw[qEO];simp
 | x::xs,acc,h=>by
  rw[qCS]at h ⊢
  split at h
  ·omega
  ·rename_i h'
   rw[if_neg h']
   obtain⟨h1,h2⟩:=qEP d sc xs _ h
   simp_all
theorem qHT{d:Ds}{sc:Sc}{e:E}{t:ByteArray}(h:qAr d sc e=(t,0)):(∀x∈e.k,(qAr d sc x).2=0)/\qGG d sc e.op e.s (e.k.map fun x=>(qAr d sc x).1)=(t,0):=by
 grind [qKM,Prod.mk.injEq,absurd,partsT,qEP]
theorem arityB{op n:Int}{s:ByteArray}{l:Int}(h:qDn op n s l=true):qAK op≠-2/\(0<=qAK op->l=qAK op)/\nmB op s=true/\numB op n=true:=by
 grind [qDn]
theorem list1{α:Type}{k:List α}(h:(k.length:Int)=1):∃a,k=[a]:=by
 match k,h with
 | [a],_=>grind
 | [],h=>simp at h
 | _::_::_,h=>simp at h;omega
theorem list2{α:Type}{k:List α}(h:(k.length:Int)=2):∃a b,k=[a,b]:=by
 match k,h with
 | [a,b],_=>simp_all
 | [],h=>simp at h
 | [_],h=>simp at h
 | _::_::_::_,h=>simp at h;omega
theorem list3{α:Type}{k:List α}(h:(k.length:Int)=3):∃a b c,k=[a,b,c]:=by
 match k,h with
 | [a,b,c],_=>simp_all
 | [],h=>simp at h
 | [_],h=>simp at h
 | [_,_],h=>simp at h
 | _::_::_::_::_,h=>simp at h;omega
theorem name_kw{s:ByteArray}(h:qAN s=true):isKw s=false:=by
 grind [qAN]
theorem qDU{s t:ByteArray}(h:qAN s=true)(ht:isKw t=true):s≠t:=fun e=>by grind [name_kw]
theorem kwNil:isKw sNil=true:=by kernel_rfl
theorem kwInt:isKw qAW=true:=by kernel_rfl
theorem kwBool:isKw qAu=true:=by kernel_rfl
section
variable{d:Ds}{m:Mm}
theorem validD_types(h:qAz d=true):(∀t∈d.types,qAN t.name=true)/\(∀f∈d.globals,qAN f.name=true)/\(∀x∈d.measures,msB x=true)/\(∀x∈d.invs,ivB x=true):=by
 grind [qAz,qJc,tyB,qCU,fldB]
theorem qEt(h:qAz d=true){s:ByteArray}(hs:qBn d s=true):qAN s=true:=by
 obtain⟨t,ht,e⟩:=List.any_eq_true.1 hs
 rw[<- of_decide_eq_true e]
 exact(validD_types h).1 t ht
def qBP(d:Ds)(m:Mm)(t:ByteArray)(v:Int):Prop:=if t=sNil then v=0 else qAt d m t v=true
theorem qIb:sNil≠qAW/\sNil≠qAu/\qAW≠sNil/\qAu≠sNil/\qAW≠qAu/\qAu≠qAW:=by
 refine⟨of_decide_eq_false ?_,of_decide_eq_false ?_,of_decide_eq_false ?_,of_decide_eq_false ?_,of_decide_eq_false ?_,of_decide_eq_false ?_⟩ <;> kernel_rfl
theorem qBB{v:Int}:qBP d m qAW v↔-1099511627776<=v/\v<=1099511627776:=by
 unfold qBP qAt
 rw[if_neg qIb.2.2.1,if_pos rfl,decide_eq_true_eq]
theorem qAZ{v:Int}:qBP d m qAu v↔v=0∨v=1:=by
 unfold qBP qAt
 rw[if_neg qIb.2.2.2.1,if_neg qIb.2.2.2.2.2,if_pos rfl,decide_eq_true_eq]
theorem qBo(h:qAz d=true){t:ByteArray}(ht:qBi d t=true){v:Int}:qBP d m t v↔qAt d m t v=true:=by
 unfold qBP
 rw[if_neg]
 intro e
 subst e
 unfold qBi at ht
 rw[decide_eq_false qIb.1,decide_eq_false qIb.2.1]at ht
 exact qDU (qEt h (by simpa using ht)) kwNil rfl
theorem qJv{t:ByteArray}(h:qAN t=true):qAt d m t 0=true:=by
 unfold qAt
 rw[if_neg (qDU h kwInt),if_neg (qDU h kwBool)]
 exact decide_eq_true (.inl rfl)
theorem qCn(h:qAz d=true){a b:ByteArray}(hf:qEj d a b=true){v:Int}(hv:qBP d m a v):qBP d m b v:=by
 unfold qEj at hf
 simp only[Bool.or_eq_true,Bool.and_eq_true,decide_eq_true_eq]at hf
 rcases hf with rfl|⟨rfl,hb⟩
 ·exact hv
 ·have hn:=qEt h hb
  unfold qBP at hv ⊢
  rw[if_pos rfl]at hv
  rw[if_neg (qDU hn kwNil),hv]
  exact qJv hn
theorem qDD:∀(l:List Fld) (s:ByteArray),qCC l s=((l.find? fun f=>decide (f.name=s)).map (·.ty)).getD sE
 | [],_=>rfl
 | f::l,s=>by
  unfold qCC
  rw[List.find?_cons]
  by_cases h:f.name=s
  ·simp_all
  ·rw[if_neg h,decide_eq_false h,qDD l s]
theorem qEw(l:List Fld)(s:ByteArray):(qCC l s=sE/\qGo l s=-1)∨∃(i:Nat) (f:Fld),qGo l s=i/\l[i]?=some f/\qCC l s=f.ty/\f.name=s:=by
 rw[qDD]
 unfold qGo
 rcases qBv (fun f:Fld=>decide (f.name=s)) l with⟨h1,h2,-⟩|⟨i,x,h1,h2,h3,-,h5,-⟩
 ·grind
 grind
theorem qBE(h:qKE d=true):qBx d d.globals=true/\(∀(i:Nat) (x:Ty),d.types[i]?=some x->qDq d x.name=(i:Int))/\∀x∈d.types,qBx d x.fields=true:=by
 unfold qKE at h
 rw[Bool.and_eq_true,Bool.and_eq_true,qDl]at h
 obtain⟨⟨-,h1⟩,h2⟩:=h
 refine⟨h1,fun i x hx=>?_,fun x hx=>?_⟩
 ·grind
 ·obtain⟨i,hi,rfl⟩:=List.mem_iff_getElem.1 hx
  have:=h2 i _ (List.getElem?_eq_getElem hi)
  simp_all
theorem qAh(h:qAs d m=true):qKE d=true/\m.nodes.length<=4096/\(∀n∈m.nodes,qDh d n=true)/\qAg d m d.globals m.globals=true/\∀n∈m.nodes,qAg d m (qAq d n.ty) n.f=true:=by
 grind [qAs]
theorem qFH{l:List Fld}{vs:List Int}(h:qAg d m l vs=true){i:Nat}{f:Fld}(hi:l[i]?=some f):∃v,vs[i]?=some v/\qAt d m f.ty v=true:=by
 unfold qAg at h
 rw[Bool.and_eq_true,decide_eq_true_eq,qDl]at h
 have hl:=(List.getElem?_eq_some_iff.1 hi).1
 have hv:vs[i]?=some (vs[i]'(by omega)):=List.getElem?_eq_getElem _
 grind [tyAt]
theorem right_node{t:ByteArray}(hn:qAN t=true){a:Int}(h:qAt d m t a=true)(h0:a≠0):1<=a/\a<=(m.nodes.length:Int)/\∃n,m.nodes[(a-1).toNat]?=some n/\n∈m.nodes/\n.ty=qDq d t:=by
 unfold qAt at h
 rw[if_neg (qDU hn kwInt),if_neg (qDU hn kwBool),decide_eq_true_eq]at h
 rcases h with h|⟨h1,h2,h3⟩
 ·omega
 ·refine⟨h1,h2,?_⟩
  cases hx:m.nodes[(a-1).toNat]? with
  | none=>simp_all
  | some n=>rw[hx]at h3;exact⟨n,rfl,List.mem_of_getElem? hx,by simpa using h3⟩
theorem tyOf_idx{s:ByteArray}{t:Ty}(h:qJn d s=some t):∃i:Nat,qDq d s=(i:Int)/\d.types[i]?=some t/\t.name=s/\qBn d s=true:=by
 unfold qJn at h
 unfold qDq qBn
 rcases qBv (fun t:Ty=>decide (t.name=s)) d.types with⟨-,h2,-⟩|⟨i,x,h1,h2,h3,-,h5,-,h7,-⟩
 ·simp_all
 grind
theorem fld_ok(G:qAB d m){t s ty:ByteArray}(ht:qCk d t s=(ty,0)){a:Int}(ha:qBP d m t a)(h0:a≠0) :
  ∃(n:Nd) (i j:Nat) (tt:Ty) (f:Fld) (v:Int),m.nodes[(a-1).toNat]?=some n/\n∈m.nodes/\1<=a/\a<=(m.nodes.length:Int)/\n.ty=(j:Int)/\d.types[j]?=some tt/\tt∈d.types/\qGo tt.fields s=i/\tt.fields[i]?=some f/\n.f[i]?=some v/\qBP d m ty v/\fldV d m a s=.ok v/\f.ty=ty:=by
 unfold qCk at ht
 cases hty:qJn d t with
 | none=>simp_all
 | some tt =>
  rw[hty]at ht
  simp only at ht
  split at ht
  ·simp at ht
  ·rename_i hl
   simp only[Prod.mk.injEq,and_true]at ht
   obtain⟨j,hj,hj2,rfl,hnode⟩:=tyOf_idx hty
   have hname:=qEt G.valid hnode
   have ha':qAt d m tt.name a=true:=by
    grind [qBP]
   obtain⟨b1,b2,n,b3,b4,b5⟩:=right_node hname ha' h0
   rcases qEw tt.fields s with⟨c1,-⟩|⟨i,f,c1,c2,c3,c4⟩
   ·grind
   ·have hfo:qAq d n.ty=tt.fields:=qAS hj2 (b5.trans hj)
    obtain⟨p1,-,-,-,p5⟩:=qAh G.mem
    have hv:=p5 n b4
    rw[hfo]at hv
    obtain⟨v,hv1,hv2⟩:=qFH hv c2
    have hmem:=List.mem_of_getElem? hj2
    have hkn:qBi d f.ty=true:=List.all_eq_true.1 ((qBE p1).2.2 tt hmem) f (List.mem_of_getElem? c2)
    refine⟨n,i,j,tt,f,v,b3,b4,b1,b2,b5.trans hj,hj2,hmem,c1,c2,hv1,?_,?_,c3.symm.trans ht⟩
    ·rw[<- ht,c3];exact(qBo G.valid hkn).2 hv2
    simp_all [fldV,if_neg,Int.toNat_natCast]
theorem qEU{α β:Type}{f:Nat->α->Option β}:∀{l:List α} {i:Nat},qAl f i l=none->∀j x,l[j]?=some x->f (i+j) x=none
 | [],_,_,j,x,hx=>by simp at hx
 | y::l,i,h,j,x,hx=>by
  unfold qAl at h
  cases hy:f i y with
  | some b=>simp_all
  | none =>
   rw[hy]at h
   cases j with
   | zero=>simp_all
   | succ j=>rw[show i+(j+1)=i+1+j by omega];exact qEU h j x (by simpa using hx)
theorem qKq{α:Type}{a b:Option α}(h:a.or b=none):a=none/\b=none:=by
 simp_all
end
end Go.Proofs
namespace Go.Proofs
open Go Go.Sx
section
variable{d:Ds}{m:Mm}
theorem big_ok{n v:Int}(h:big n=.ok v):v=n/\-1099511627776<=v/\v<=1099511627776:=by
 unfold big at h
 grind
theorem trI_b(b:Bool):trI b=0∨trI b=1:=by cases b <;> simp[trI]
theorem qBK{ok:Bool}{t t':ByteArray}(h:qFU ok t=(t',0)):ok=true/\t=t':=by
 grind [qFU]
theorem tdiv_in{a b:Int}(ha:-1099511627776<=a/\a<=1099511627776):-1099511627776<=a.tdiv b/\a.tdiv b<=1099511627776:=by
 have:=Int.natAbs_tdiv_le_natAbs a b
 omega
theorem tmod_in{a b:Int}(ha:-1099511627776<=a/\a<=1099511627776):-1099511627776<=a.tmod b/\a.tmod b<=1099511627776:=by
 have h1:=Int.natAbs_tmod a b
 have:=Nat.mod_le a.natAbs b.natAbs
 omega
theorem log_in{a:Int}(ha:a<=1099511627776):0<=logV a/\logV a<=1099511627776:=by
 grind [logV,Nat.log2,Nat.log2_le_self]
inductive Kind (d:Ds) (sc:Sc) (e:E):ByteArray->Prop where
 | int (h:e.op=1) (hn:0<=e.n/\e.n<=1099511627776):Kind d sc e qAW
 | bool (h:e.op=2) (hn:e.n=0∨e.n=1):Kind d sc e qAu
 | nil (h:e.op=3) (hn:e.n=0):Kind d sc e sNil
 | var {t} (h:e.op=4) (hl:qCC sc.vars e.s=t) (hne:t≠sE):Kind d sc e t
 | fld {t u} {a:E} (h:e.op=5) (hk:e.k=[a]) (ha:qAr d sc a=(u,0)) (ht:qCk d u e.s=(t,0)):Kind d sc e t
 | call {u} {a:E} {ms:Ms} {i:Nat} (h:e.op=7) (hk:e.k=[a]) (ha:qAr d sc a=(u,0)) (hi:mIdx d e.s=i) (hms:d.measures[i]?=some ms) (hf:qEj d u ms.ty=true):Kind d sc e qAW
 | neg {a:E} (h:e.op=8) (hk:e.k=[a]) (ha:qAr d sc a=(qAW,0)):Kind d sc e qAW
 | not {a:E} (h:e.op=18) (hk:e.k=[a]) (ha:qAr d sc a=(qAu,0)):Kind d sc e qAu
 | log {a:E} (h:e.op=24) (hk:e.k=[a]) (ha:qAr d sc a=(qAW,0)):Kind d sc e qAW
 | and {a b:E} (h:e.op=19) (hk:e.k=[a,b]) (ha:qAr d sc a=(qAu,0)) (hb:qAr d sc b=(qAu,0)):Kind d sc e qAu
 | or {a b:E} (h:e.op=20) (hk:e.k=[a,b]) (ha:qAr d sc a=(qAu,0)) (hb:qAr d sc b=(qAu,0)):Kind d sc e qAu
 | cond {a b c:E} {t u w} (h:e.op=21) (hk:e.k=[a,b,c]) (ha:qAr d sc a=(qAu,0)) (hb:qAr d sc b=(u,0)) (hc:qAr d sc c=(w,0)) (hu:u=t∨qEj d u t=true) (hw:w=t∨qEj d w t=true):Kind d sc e t
 | eq {a b:E} {u w} (h:e.op=14∨e.op=15) (hk:e.k=[a,b]) (ha:qAr d sc a=(u,0)) (hb:qAr d sc b=(w,0)):Kind d sc e qAu
 | cmp {a b:E} (h:e.op=16∨e.op=17) (hk:e.k=[a,b]) (ha:qAr d sc a=(qAW,0)) (hb:qAr d sc b=(qAW,0)):Kind d sc e qAu
 | ari {a b:E} (h:e.op=9∨e.op=10∨e.op=11∨e.op=12∨e.op=13∨e.op=22∨e.op=23) (hk:e.k=[a,b]) (ha:qAr d sc a=(qAW,0)) (hb:qAr d sc b=(qAW,0)):Kind d sc e qAW
theorem allT1{t u:ByteArray}(h:allT [t] u=true):t=u:=by simpa [allT]using h
theorem allT2{t t' u:ByteArray}(h:allT [t,t'] u=true):t=u/\t'=u:=by simpa [allT]using h
theorem qBp{p:ByteArray×Int}{t:ByteArray}(h1:p.1=t)(h2:p.2=0):p=(t,0):=Prod.ext h1 h2
theorem kind{sc:Sc}(hsc:sc.body=false){e:E}{t:ByteArray}(hv:VE e)(ht:qAr d sc e=(t,0)):Kind d sc e t:=by
 obtain⟨hk,hn⟩:=qHT ht
 obtain⟨a1,a2,a3,a4⟩:=arityB hv.node
 unfold qGG at hn
 unfold numB at a4
 have one:qAK e.op=1->∃a,e.k=[a]:=fun h=>list1 ((a2 (by omega)).trans h)
 have two:qAK e.op=2->∃a b,e.k=[a,b]:=fun h=>list2 ((a2 (by omega)).trans h)
 have three:qAK e.op=3->∃a b c,e.k=[a,b,c]:=fun h=>list3 ((a2 (by omega)).trans h)
 by_cases h1:e.op=1
 ·rw[if_pos h1]at hn a4
  cases hn;exact .int h1 (of_decide_eq_true a4)
 rw[if_neg h1]at hn a4
 by_cases h2:e.op=2
 ·rw[if_pos h2]at hn a4
  cases hn;exact .bool h2 (of_decide_eq_true a4)
 rw[if_neg h2]at hn a4
 have a4:e.n=0:=of_decide_eq_true a4
 by_cases h3:e.op=3
 ·rw[if_pos h3]at hn
  cases hn;exact .nil h3 a4
 rw[if_neg h3]at hn
 by_cases h4:e.op=4
 ·rw[if_pos h4]at hn
  split at hn
  ·simp at hn
  ·rename_i hne
   simp only[Prod.mk.injEq,and_true]at hn
   exact .var h4 hn (hn ▸ hne)
 rw[if_neg h4]at hn
 by_cases h5:e.op=5
 ·obtain⟨a,ha⟩:=one (by rw[h5];rfl)
  rw[if_pos h5,ha]at hn
  rw[ha]at hk
  exact .fld h5 ha (qBp rfl (hk a (by simp))) hn
 rw[if_neg h5]at hn
 by_cases h6:e.op=6
 ·simp_all
 rw[if_neg h6]at hn
 by_cases h7:e.op=7
 ·rw[if_pos h7]at hn
  unfold callE at hn
  rw[if_neg (by rw[hsc];decide)]at hn
  unfold qKv meOf at hn
  unfold mIdx at *
  rcases qBv (fun x:Ms=>decide (x.name=e.s)) d.measures with⟨-,q2,-⟩|⟨i,ms,q1,q2,q3,-⟩
  ·simp_all
  ·rw[q3]at hn
   simp only at hn
   split at hn
   ·simp at hn
   ·rename_i hl
    obtain⟨a,ha⟩:∃a,e.k=[a]:=list1 (by grind)
    rw[ha]at hn hk
    obtain⟨b1,rfl⟩:=qBK hn
    exact .call h7 ha (qBp rfl (hk a (by simp))) q1 q2 (by simpa using b1)
 rw[if_neg h7]at hn
 by_cases h14:e.op=14∨e.op=15
 ·obtain⟨a,b,hab⟩:=two (by rcases h14 with h|h <;> (rw[h];rfl))
  rw[if_pos h14]at hn
  rw[hab]at hk
  obtain⟨-,rfl⟩:=qBK hn
  exact .eq h14 hab (qBp rfl (hk a (by simp))) (qBp rfl (hk b (by simp)))
 rw[if_neg h14]at hn
 by_cases h16:e.op=16∨e.op=17
 ·obtain⟨a,b,hab⟩:=two (by rcases h16 with h|h <;> (rw[h];rfl))
  rw[if_pos h16,hab]at hn
  rw[hab]at hk
  obtain⟨g,rfl⟩:=qBK hn
  obtain⟨g1,g2⟩:=allT2 g
  exact .cmp h16 hab (qBp g1 (hk a (by simp))) (qBp g2 (hk b (by simp)))
 rw[if_neg h16]at hn
 by_cases h18:e.op=18∨e.op=19∨e.op=20
 ·rw[if_pos h18]at hn
  rcases h18 with h|h
  ·obtain⟨a,ha⟩:=one (by rw[h];rfl)
   rw[ha]at hn hk
   obtain⟨g,rfl⟩:=qBK hn
   exact .not h ha (qBp (allT1 g) (hk a (by simp)))
  ·obtain⟨a,b,hab⟩:=two (by rcases h with h|h <;> (rw[h];rfl))
   rw[hab]at hn hk
   obtain⟨g,rfl⟩:=qBK hn
   obtain⟨g1,g2⟩:=allT2 g
   rcases h with h|h
   ·exact .and h hab (qBp g1 (hk a (by simp))) (qBp g2 (hk b (by simp)))
   ·exact .or h hab (qBp g1 (hk a (by simp))) (qBp g2 (hk b (by simp)))
 rw[if_neg h18]at hn
 by_cases h21:e.op=21
 ·obtain⟨a,b,c,habc⟩:=three (by rw[h21];rfl)
  rw[if_pos h21,habc]at hn
  rw[habc]at hk
  obtain⟨g,g2⟩:=qBK hn
  simp only[List.map_cons,List.map_nil,List.getD_cons_zero,List.getD_cons_succ,Bool.and_eq_true,decide_eq_true_eq,Bool.or_eq_true]at g g2
  refine .cond h21 habc (qBp g.1 (hk a (by simp))) (qBp rfl (hk b (by simp))) (qBp rfl (hk c (by simp))) ?_ ?_
  ·grind [inr,qEj]
  grind [qEj,absurd,inr]
 rw[if_neg h21]at hn
 obtain⟨g,rfl⟩:=qBK hn
 have hop:e.op=8∨e.op=24∨(e.op=9∨e.op=10∨e.op=11∨e.op=12∨e.op=13∨e.op=22∨e.op=23):=by
  grind [qAK]
 rcases hop with h|h|h
 ·obtain⟨a,ha⟩:=one (by rw[h];rfl)
  rw[ha]at g hk
  exact .neg h ha (qBp (allT1 g) (hk a (by simp)))
 ·obtain⟨a,ha⟩:=one (by rw[h];rfl)
  rw[ha]at g hk
  exact .log h ha (qBp (allT1 g) (hk a (by simp)))
 ·obtain⟨a,b,hab⟩:=two (by rcases h with h|h|h|h|h|h|h <;> (rw[h];rfl))
  rw[hab]at g hk
  obtain⟨g1,g2⟩:=allT2 g
  exact .ari h hab (qBp g1 (hk a (by simp))) (qBp g2 (hk b (by simp)))
theorem two_ok{op a b v:Int}(h:op=9∨op=10∨op=11∨op=12∨op=13∨op=22∨op=23)(ha:-1099511627776<=a/\a<=1099511627776)(hb:-1099511627776<=b/\b<=1099511627776)(hv:qFb op a b=.ok v):-1099511627776<=v/\v<=1099511627776:=by
 unfold qFb at hv
 split at hv
 ·exact(big_ok hv).2
 split at hv
 ·exact(big_ok hv).2
 split at hv
 ·exact(big_ok hv).2
 split at hv
 ·grind
 split at hv
 ·grind
 repeat' (split at hv;(first|omega|cases hv))
 ·exact tdiv_in ha
 ·cases hv;exact tmod_in ha
theorem twoB_ok{op a b v:Int}(h:op=14∨op=15∨op=16∨op=17)(hv:qFb op a b=.ok v):v=0∨v=1:=by
 rcases h with rfl|rfl|rfl|rfl
 ·have:trI (decide (a=b))=v:=by injection hv
  grind [trI_b]
 ·have:trI (!decide (a=b))=v:=by injection hv
  grind [trI_b]
 ·have:trI (decide (a<b))=v:=by injection hv
  grind [trI_b]
 ·have:trI (decide (a<=b))=v:=by injection hv
  grind [trI_b]
end
end Go.Proofs
namespace Go.Proofs
open Go Go.Sx
structure St where
 g:List Int
 ns:List (Int×List Int)
 tk:Nat
 cm:Nat
 lg:List (Int×Int×Int)
inductive Rx (α:Type) where
 | ok (v:α) (s:St)
 | bad (c:Int) (s:St)
def Rx.bind{α β:Type}:Rx α->(α->St->Rx β)->Rx β
 | .ok v s,f=>f v s
 | .bad c s,_=>.bad c s
def qAT:Sl:=⟨none,0,0⟩
def St.mm(s:St):Mm:=⟨qAT,s.g,qAT,s.ns.map fun n=>⟨n.1,qAT,n.2⟩⟩
def St.note(s:St)(a:Int×Int×Int):St:={ s with lg:=s.lg++[a] }
def noE:E:=.mk 0 0 sE qAT []
def qDx(d:Ds)(s:ByteArray):Int:=qJK (fun t=>decide (t.name=s)) d.procs
def liftR:Rs->St->Rx Int
 | .ok v,s=>.ok v s
 | .bad c,s=>.bad c s
def seqX:List (St->Rx Int)->List Int->St->Rx (List Int)
 | [],acc,st=>.ok acc st
 | f::fs,acc,st=>(f st).bind fun v st=>seqX fs (acc++[v]) st
def qFD(ks:List (St->Rx Int))(i:Nat):St->Rx Int:=ks.getD i fun st=>.bad 0 st
def _root_.Go.Sx.Pr.vars(p:Pr):List Fld:=p.params++p.locals
def cntX(b:Bool)(op:Int)(st:St):St:=if op=16∨op=17∨((op=14∨op=15)/\b=true) then { st with cm:=st.cm+1 } else st
abbrev Cf:=Int->List Int->St->Rx Int
abbrev Rt:=List Int×Option Int
abbrev Sf:=Nat->Pr->List S->List Int->St->Rx Rt
def qJW(F:Nat)(st:St):Rx Unit:=if F<=st.tk then .bad 20 st else .ok () { st with tk:=st.tk+1 }
section
variable(d:Ds)
def varX(p:Pr)(vals:List Int)(s:ByteArray)(st:St):Rx Int :=
 if 0<=qGo p.vars s then .ok ((vals[(qGo p.vars s).toNat]?).getD 0) st else .ok ((st.g[(qGo d.globals s).toNat]?).getD 0) (st.note (1,0,qGo d.globals s))
def fldX(a:Int)(s:ByteArray)(st:St):Rx Int :=
 if a=0 then .bad 17 st else match st.ns[(a-1).toNat]? with
  | none=>.bad 0 st
  | some n=>.ok ((n.2[(qGo (qAq d n.1) s).toNat]?).getD 0) (st.note (1,a,qGo (qAq d n.1) s))
def newX(s:ByteArray)(st:St):Rx Int :=
 if 4096<=st.ns.length then .bad 21 st else .ok ((st.ns.length:Int)+1) { st with ns:=st.ns++[(qDq d s,List.replicate (qAq d (qDq d s)).length 0)],lg:=st.lg++[(3,(st.ns.length:Int)+1,qDq d s)] }
def intB(sc:Sc):List E->Bool
 | []=>false
 | a::_=>decide ((qAr d sc a).1=qAW)
def qDr(C:Cf)(p:Pr)(vals:List Int)(b:Bool)(op n:Int)(s:ByteArray)(ks:List (St->Rx Int))(st:St):Rx Int :=
 if op=1∨op=2 then .ok n st else if op=3 then .ok 0 st else if op=4 then varX d p vals s st
 else if op=5 then (qFD ks 0 st).bind fun a st=>fldX d a s st
 else if op=6 then newX d s st
 else if op=7 then (seqX ks [] st).bind fun l st=>C (qDx d s) l st
 else if op=8 then (qFD ks 0 st).bind fun a st=>liftR (big (-a)) st
 else if op=18 then (qFD ks 0 st).bind fun a st=>.ok (1-a) st
 else if op=24 then (qFD ks 0 st).bind fun a st=>.ok (logV a) st
 else if op=19 then (qFD ks 0 st).bind fun a st=>if a=0 then .ok 0 st else qFD ks 1 st
 else if op=20 then (qFD ks 0 st).bind fun a st=>if a=0 then qFD ks 1 st else .ok 1 st
 else if op=21 then (qFD ks 0 st).bind fun a st=>if a=0 then qFD ks 2 st else qFD ks 1 st
 else (qFD ks 0 st).bind fun v st=>(qFD ks 1 st).bind fun w st=>liftR (qFb op v w) (cntX b op st)
mutual
def evX(C:Cf)(p:Pr)(vals:List Int):E->St->Rx Int
 | .mk op n s _ k=>qDr d C p vals (intB d (qAj d p) k) op n s (evXs C p vals k)
def evXs(C:Cf)(p:Pr)(vals:List Int):List E->List (St->Rx Int)
 | []=>[]
 | e::es=>evX C p vals e::evXs C p vals es
end
def qEg(Sn:Sf)(c:Nat)(i:Int)(args:List Int)(st:St):Rx Int :=
 if 200<=c then .bad 19 st else match d.procs[i.toNat]? with
  | none=>.bad 0 st
  | some p=>(Sn (c+1) p p.body (args++List.replicate p.locals.length 0) st).bind fun r st=>.ok (r.2.getD 0) st
def setX(p:Pr)(s:ByteArray)(v:Int)(vals:List Int)(st:St):Rx Rt :=
 if 0<=qGo p.vars s then .ok (vals.set (qGo p.vars s).toNat v,none) st else .ok (vals,none) { st with g:=st.g.set (qGo d.globals s).toNat v,lg:=st.lg++[(2,0,qGo d.globals s)] }
def putX(a v:Int)(s:ByteArray)(st:St):Rx Unit :=
 if a=0 then .bad 17 st else match st.ns[(a-1).toNat]? with
  | none=>.bad 0 st
  | some n=>.ok () { st with ns:=st.ns.set (a-1).toNat (n.1,n.2.set (qGo (qAq d n.1) s).toNat v),lg:=st.lg++[(2,a,qGo (qAq d n.1) s)] }
section
variable(F:Nat)(Sn:Sf)(c:Nat)(p:Pr)
def evS(vals:List Int)(e:E)(st:St):Rx Int:=evX d (qEg d Sn c) p vals e st
def whX(cond:E)(body:List S):Nat->List Int->St->Rx Rt
 | 0,_,st=>.bad 20 st
 | n+1,vals,st=>(evS d Sn c p vals cond st).bind fun a st=>if a=0 then .ok (vals,none) st else (Sn c p body vals st).bind fun r st=>match r.2 with
  | some _=>.ok r st
  | none=>(qJW F st).bind fun _ st=>whX cond body n r.1 st
def bodyX(n:Nat)(s:S)(vals:List Int)(st:St):Rx Rt :=
 if s.op=1 then (evS d Sn c p vals (s.es.getD 0 noE) st).bind fun v st=>setX d p s.s v vals st
 else if s.op=2 then (evS d Sn c p vals (s.es.getD 0 noE) st).bind fun a st=>(evS d Sn c p vals (s.es.getD 1 noE) st).bind fun v st=>(putX d a v s.s st).bind fun _ st=>.ok (vals,none) st
 else if s.op=3 then (evS d Sn c p vals (s.es.getD 0 noE) st).bind fun a st=>if a=0 then Sn c p s.xs vals st else Sn c p s.ls vals st
 else if s.op=4 then whX d F Sn c p (s.es.getD 0 noE) s.ls n vals st
 else if s.op=5 then match s.es with
  | []=>.ok (vals,some 0) st
  | e::_=>(evS d Sn c p vals e st).bind fun v st=>.ok (vals,some v) st
 else if s.op=6 then (evS d Sn c p vals (s.es.getD 0 noE) st).bind fun _ st=>.ok (vals,none) st
 else .ok (vals,none) st
def stX(n:Nat)(s:S)(vals:List Int)(st:St):Rx Rt:=(qJW F st).bind fun _ st=>bodyX d F Sn c p n s vals st
end
def qGH(f:S->List Int->St->Rx Rt):List S->List Int->St->Rx Rt
 | [],vals,st=>.ok (vals,none) st
 | s::l,vals,st=>(f s vals st).bind fun r st=>match r.2 with
  | some _=>.ok r st
  | none=>qGH f l r.1 st
def qFL(F:Nat):Nat->Sf
 | 0=>fun _ _ _ _ st=>.bad 20 st
 | n+1=>fun c p l vals st=>qGH (stX d F (qFL F n) c p (n+1)) l vals st
def qCo(F:Nat)(i:Int)(args:List Int)(st:St):Rx Int:=qEg d (qFL d F (F+1)) 0 i args st
end
variable{d:Ds}
theorem evXs_map(C:Cf)(p:Pr)(vals:List Int):∀k:List E,evXs d C p vals k=k.map (evX d C p vals)
 | []=>by unfold evXs;rfl
 | e::es=>by unfold evXs;rw[evXs_map C p vals es];rfl
theorem evX_eq(C:Cf)(p:Pr)(vals:List Int)(e:E)(st:St):evX d C p vals e st=qDr d C p vals (intB d (qAj d p) e.k) e.op e.n e.s (e.k.map (evX d C p vals)) st:=by
 cases e;unfold evX;rw[evXs_map];rfl
theorem kidX_at{f:E->St->Rx Int}{k:List E}{i:Nat}{e:E}(h:k[i]?=some e):qFD (k.map f) i=f e:=by
 grind [qFD]
section
variable{C:Cf}{p:Pr}{vals:List Int}{b:Bool}{op n:Int}{s:ByteArray}{ks:List (St->Rx Int)}{st:St}
theorem cX1(h:op=1∨op=2):qDr d C p vals b op n s ks st=.ok n st:=by rcases h with rfl|rfl <;> rfl
theorem cX3(h:op=3):qDr d C p vals b op n s ks st=.ok 0 st:=by subst h;rfl
theorem cX4(h:op=4):qDr d C p vals b op n s ks st=varX d p vals s st:=by subst h;rfl
theorem cX5(h:op=5):qDr d C p vals b op n s ks st=(qFD ks 0 st).bind fun a st=>fldX d a s st:=by subst h;rfl
theorem cX6(h:op=6):qDr d C p vals b op n s ks st=newX d s st:=by subst h;rfl
theorem cX7(h:op=7):qDr d C p vals b op n s ks st=(seqX ks [] st).bind fun l st=>C (qDx d s) l st:=by subst h;rfl
theorem cX8(h:op=8):qDr d C p vals b op n s ks st=(qFD ks 0 st).bind fun a st=>liftR (big (-a)) st:=by subst h;rfl
theorem cX18(h:op=18):qDr d C p vals b op n s ks st=(qFD ks 0 st).bind fun a st=>.ok (1-a) st:=by subst h;rfl
theorem cX24(h:op=24):qDr d C p vals b op n s ks st=(qFD ks 0 st).bind fun a st=>.ok (logV a) st:=by subst h;rfl
theorem cX19(h:op=19):qDr d C p vals b op n s ks st=(qFD ks 0 st).bind fun a st=>if a=0 then .ok 0 st else qFD ks 1 st:=by subst h;rfl
theorem cX20(h:op=20):qDr d C p vals b op n s ks st=(qFD ks 0 st).bind fun a st=>if a=0 then qFD ks 1 st else .ok 1 st:=by subst h;rfl
theorem cX21(h:op=21):qDr d C p vals b op n s ks st=(qFD ks 0 st).bind fun a st=>if a=0 then qFD ks 2 st else qFD ks 1 st:=by subst h;rfl
theorem cXTwo(h:9<=op/\op<=23/\op≠18/\op≠19/\op≠20/\op≠21):qDr d C p vals b op n s ks st=(qFD ks 0 st).bind fun v st=>(qFD ks 1 st).bind fun w st=>liftR (qFb op v w) (cntX b op st):=by
 grind [qDr]
end
end Go.Proofs
namespace Go.Proofs
open Go Go.Sx
section
variable{d:Ds}{sc:Sc}{e:E}{p:Pr}
structure CallK (d:Ds) (sc:Sc) (e:E) (pr:Pr) (i:Nat):Prop where
 idx:qDx d e.s=i
 at_:d.procs[i]?=some pr
 len:e.k.length=pr.params.length
 fit:∀(j:Nat) a f,e.k[j]?=some a->pr.params[j]?=some f->∃u,qAr d sc a=(u,0)/\qEj d u f.ty=true
theorem fitAll_at:∀{l:List ByteArray} {fs:List Fld},qCE d l fs=true->∀(j:Nat) a f,l[j]?=some a->fs[j]?=some f->qEj d a f.ty=true
 | [],_,_,j,a,f,h,_=>by simp at h
 | _::_,[],_,j,a,f,_,h=>by simp at h
 | b::l,g::fs,h,j,a,f,h1,h2=>by
  unfold qCE at h
  rw[Bool.and_eq_true]at h
  cases j with
  | zero=>simp_all
  | succ j=>exact fitAll_at h.2 j a f (by simpa using h1) (by simpa using h2)
theorem callT_ok{s t:ByteArray}{l:List ByteArray}(h:qGO d s l=(t,0)):∃(pr:Pr) (i:Nat),qDx d s=i/\d.procs[i]?=some pr/\l.length=pr.params.length/\qCE d l pr.params=true/\t=pr.result:=by
 unfold qGO qIh at h
 unfold qDx
 rcases qBv (fun x:Pr=>decide (x.name=s)) d.procs with⟨-,q2,-⟩|⟨i,pr,q1,q2,q3,-⟩
 ·simp_all
 grind
theorem callK_of(hk:∀x∈e.k,(qAr d sc x).2=0){t:ByteArray}(h:qGO d e.s (e.k.map fun x=>(qAr d sc x).1)=(t,0)):∃pr i,CallK d sc e pr i/\t=pr.result:=by
 obtain⟨pr,i,h1,h2,h3,h4,h5⟩:=callT_ok h
 refine⟨pr,i,⟨h1,h2,by simpa using h3,fun j a f ha hf=>⟨(qAr d sc a).1,qBp rfl (hk a (List.mem_of_getElem? ha)),fitAll_at h4 j _ f (by simp[ha]) hf⟩⟩,h5⟩
inductive qEH (d:Ds) (sc:Sc) (e:E):ByteArray->Prop where
 | int (h:e.op=1) (hn:0<=e.n/\e.n<=1099511627776):qEH d sc e qAW
 | bool (h:e.op=2) (hn:e.n=0∨e.n=1):qEH d sc e qAu
 | nil (h:e.op=3) (hn:e.n=0):qEH d sc e sNil
 | var {t} (h:e.op=4) (hl:qCC sc.vars e.s=t) (hne:t≠sE):qEH d sc e t
 | fld {t u} {a:E} (h:e.op=5) (hk:e.k=[a]) (ha:qAr d sc a=(u,0)) (ht:qCk d u e.s=(t,0)):qEH d sc e t
 | new (h:e.op=6) (hn:qBn d e.s=true):qEH d sc e e.s
 | call {pr:Pr} {i:Nat} (h:e.op=7) (hc:CallK d sc e pr i) (hr:pr.result≠sE):qEH d sc e pr.result
 | neg {a:E} (h:e.op=8) (hk:e.k=[a]) (ha:qAr d sc a=(qAW,0)):qEH d sc e qAW
 | not {a:E} (h:e.op=18) (hk:e.k=[a]) (ha:qAr d sc a=(qAu,0)):qEH d sc e qAu
 | log {a:E} (h:e.op=24) (hk:e.k=[a]) (ha:qAr d sc a=(qAW,0)):qEH d sc e qAW
 | and {a b:E} (h:e.op=19) (hk:e.k=[a,b]) (ha:qAr d sc a=(qAu,0)) (hb:qAr d sc b=(qAu,0)):qEH d sc e qAu
 | or {a b:E} (h:e.op=20) (hk:e.k=[a,b]) (ha:qAr d sc a=(qAu,0)) (hb:qAr d sc b=(qAu,0)):qEH d sc e qAu
 | cond {a b c:E} {t u w} (h:e.op=21) (hk:e.k=[a,b,c]) (ha:qAr d sc a=(qAu,0)) (hb:qAr d sc b=(u,0)) (hc:qAr d sc c=(w,0)) (hu:u=t∨qEj d u t=true) (hw:w=t∨qEj d w t=true) (ht:t=if u=sNil then w else u):qEH d sc e t
 | eq {a b:E} {u w} (h:e.op=14∨e.op=15) (hk:e.k=[a,b]) (ha:qAr d sc a=(u,0)) (hb:qAr d sc b=(w,0)) (hf:qEj d u w=true∨qEj d w u=true):qEH d sc e qAu
 | cmp {a b:E} (h:e.op=16∨e.op=17) (hk:e.k=[a,b]) (ha:qAr d sc a=(qAW,0)) (hb:qAr d sc b=(qAW,0)):qEH d sc e qAu
 | ari {a b:E} (h:e.op=9∨e.op=10∨e.op=11∨e.op=12∨e.op=13∨e.op=22∨e.op=23) (hk:e.k=[a,b]) (ha:qAr d sc a=(qAW,0)) (hb:qAr d sc b=(qAW,0)):qEH d sc e qAW
theorem kindX(hsc:sc.body=true){t:ByteArray}(hv:VE e)(ht:qAr d sc e=(t,0)):qEH d sc e t:=by
 obtain⟨hk,hn⟩:=qHT ht
 obtain⟨a1,a2,a3,a4⟩:=arityB hv.node
 unfold qGG at hn
 unfold numB at a4
 have one:qAK e.op=1->∃a,e.k=[a]:=fun h=>list1 ((a2 (by omega)).trans h)
 have two:qAK e.op=2->∃a b,e.k=[a,b]:=fun h=>list2 ((a2 (by omega)).trans h)
 have three:qAK e.op=3->∃a b c,e.k=[a,b,c]:=fun h=>list3 ((a2 (by omega)).trans h)
 by_cases h1:e.op=1
 ·rw[if_pos h1]at hn a4
  cases hn;exact .int h1 (of_decide_eq_true a4)
 rw[if_neg h1]at hn a4
 by_cases h2:e.op=2
 ·rw[if_pos h2]at hn a4
  cases hn;exact .bool h2 (of_decide_eq_true a4)
 rw[if_neg h2]at hn a4
 have a4:e.n=0:=of_decide_eq_true a4
 by_cases h3:e.op=3
 ·rw[if_pos h3]at hn
  cases hn;exact .nil h3 a4
 rw[if_neg h3]at hn
 by_cases h4:e.op=4
 ·rw[if_pos h4]at hn
  split at hn
  ·simp at hn
  ·rename_i hne
   simp only[Prod.mk.injEq,and_true]at hn
   exact .var h4 hn (hn ▸ hne)
 rw[if_neg h4]at hn
 by_cases h5:e.op=5
 ·obtain⟨a,ha⟩:=one (by rw[h5];rfl)
  rw[if_pos h5,ha]at hn
  rw[ha]at hk
  exact .fld h5 ha (qBp rfl (hk a (by simp))) hn
 rw[if_neg h5]at hn
 by_cases h6:e.op=6
 ·rw[if_pos h6,if_neg (by rw[hsc];decide)]at hn
  split at hn
  ·simp at hn
  ·rename_i hno
   simp only[Prod.mk.injEq,and_true]at hn
   subst hn
   exact .new h6 (by simpa using hno)
 rw[if_neg h6]at hn
 by_cases h7:e.op=7
 ·rw[if_pos h7]at hn
  unfold callE at hn
  rw[if_pos hsc]at hn
  split at hn
  ·simp at hn
  ·rename_i hne
   obtain⟨pr,i,hc,rfl⟩:=callK_of hk hn
   exact .call h7 hc fun h=>hne ⟨by rw[hn],by rw[hn];exact h⟩
 rw[if_neg h7]at hn
 by_cases h14:e.op=14∨e.op=15
 ·obtain⟨a,b,hab⟩:=two (by rcases h14 with h|h <;> (rw[h];rfl))
  rw[if_pos h14,hab]at hn
  rw[hab]at hk
  obtain⟨g,rfl⟩:=qBK hn
  exact .eq h14 hab (qBp rfl (hk a (by simp))) (qBp rfl (hk b (by simp))) (by simpa using g)
 rw[if_neg h14]at hn
 by_cases h16:e.op=16∨e.op=17
 ·obtain⟨a,b,hab⟩:=two (by rcases h16 with h|h <;> (rw[h];rfl))
  rw[if_pos h16,hab]at hn
  rw[hab]at hk
  obtain⟨g,rfl⟩:=qBK hn
  obtain⟨g1,g2⟩:=allT2 g
  exact .cmp h16 hab (qBp g1 (hk a (by simp))) (qBp g2 (hk b (by simp)))
 rw[if_neg h16]at hn
 by_cases h18:e.op=18∨e.op=19∨e.op=20
 ·rw[if_pos h18]at hn
  rcases h18 with h|h
  ·obtain⟨a,ha⟩:=one (by rw[h];rfl)
   rw[ha]at hn hk
   obtain⟨g,rfl⟩:=qBK hn
   exact .not h ha (qBp (allT1 g) (hk a (by simp)))
  ·obtain⟨a,b,hab⟩:=two (by rcases h with h|h <;> (rw[h];rfl))
   rw[hab]at hn hk
   obtain⟨g,rfl⟩:=qBK hn
   obtain⟨g1,g2⟩:=allT2 g
   rcases h with h|h
   ·exact .and h hab (qBp g1 (hk a (by simp))) (qBp g2 (hk b (by simp)))
   ·exact .or h hab (qBp g1 (hk a (by simp))) (qBp g2 (hk b (by simp)))
 rw[if_neg h18]at hn
 by_cases h21:e.op=21
 ·obtain⟨a,b,c,habc⟩:=three (by rw[h21];rfl)
  rw[if_pos h21,habc]at hn
  rw[habc]at hk
  obtain⟨g,g2⟩:=qBK hn
  simp only[List.map_cons,List.map_nil,List.getD_cons_zero,List.getD_cons_succ,Bool.and_eq_true,decide_eq_true_eq,Bool.or_eq_true]at g g2
  refine .cond h21 habc (qBp g.1 (hk a (by simp))) (qBp rfl (hk b (by simp))) (qBp rfl (hk c (by simp))) ?_ ?_ g2.symm
  ·grind [inr,qEj]
  grind [qEj,absurd,inr]
 rw[if_neg h21]at hn
 obtain⟨g,rfl⟩:=qBK hn
 have hop:e.op=8∨e.op=24∨(e.op=9∨e.op=10∨e.op=11∨e.op=12∨e.op=13∨e.op=22∨e.op=23):=by
  grind [qAK]
 rcases hop with h|h|h
 ·obtain⟨a,ha⟩:=one (by rw[h];rfl)
  rw[ha]at g hk
  exact .neg h ha (qBp (allT1 g) (hk a (by simp)))
 ·obtain⟨a,ha⟩:=one (by rw[h];rfl)
  rw[ha]at g hk
  exact .log h ha (qBp (allT1 g) (hk a (by simp)))
 ·obtain⟨a,b,hab⟩:=two (by rcases h with h|h|h|h|h|h|h <;> (rw[h];rfl))
  rw[hab]at g hk
  obtain⟨g1,g2⟩:=allT2 g
  exact .ari h hab (qBp g1 (hk a (by simp))) (qBp g2 (hk b (by simp)))
def TyS(d:Ds)(p:Pr)(s:S):Prop:=(∃n,(stT d (qAj d p) p.result n s).2=0)/\∃k,okS k s=true
theorem qHv{res:ByteArray}:∀{l:List S} {n:Int},(qBY d sc res n l).2=0->∀s∈l,∃n',(stT d sc res n' s).2=0
 | [],_,_,s,hs=>by cases hs
 | x::l,n,h,s,hs=>by
  rw[qHV]at h
  split at h
  ·omega
  ·rename_i h'
   rcases List.mem_cons.1 hs with rfl|hs
   ·grind
   ·exact qHv h s hs
theorem qHE{k:Int}:∀{l:List S},qGF k l=true->∀s∈l,okS k s=true
 | [],_,s,hs=>by cases hs
 | x::l,h,s,hs=>by
  unfold qGF at h
  rw[Bool.and_eq_true]at h
  rcases List.mem_cons.1 hs with rfl|hs
  ·exact h.1
  ·exact qHE h.2 s hs
theorem okS_eq(k:Int)(s:S):okS k s=(decide (k<=60)&&qBL s.op s.s s.es s.ls.length s.xs.length&&qGF (k+1) s.ls&&qGF (k+1) s.xs):=by cases s;unfold okS;rfl
theorem TyS.parts{s:S}(h:TyS d p s):qGv d (qAj d p) p.result s.op s.s s.es=0/\qFO s.op s.s s.es s.ls.length s.xs.length=true/\(∀e∈s.es,qAG e=true)/\(∀x∈s.ls,TyS d p x)/\∀x∈s.xs,TyS d p x:=by
 obtain⟨⟨n,h1⟩,k,h2⟩:=h
 rw[okS_eq]at h2
 simp only[Bool.and_eq_true]at h2
 obtain⟨⟨⟨-,h3⟩,h4⟩,h5⟩:=h2
 unfold qBL at h3
 rw[Bool.and_eq_true,List.all_eq_true]at h3
 rw[stT_eq]at h1
 split at h1
 ·omega
 ·rename_i h'
  split at h1
  ·omega
  ·rename_i h6
   exact⟨by simpa using h',h3.1,h3.2,fun x hx=>⟨qHv (by simpa using h6) x hx,_,qHE h4 x hx⟩,fun x hx=>⟨qHv h1 x hx,_,qHE h5 x hx⟩⟩
inductive KindS (d:Ds) (p:Pr) (s:S):Prop where
 | set {e:E} {u t:ByteArray} (h:s.op=1) (he:s.es=[e]) (hv:qAG e=true) (ht:qAr d (qAj d p) e=(u,0)) (hl:qCC (qAj d p).vars s.s=t) (hne:t≠sE) (hf:qEj d u t=true)
 | put {a e:E} {u w t:ByteArray} (h:s.op=2) (he:s.es=[a,e]) (hv:qAG a=true) (hw:qAG e=true) (ha:qAr d (qAj d p) a=(u,0)) (ht:qAr d (qAj d p) e=(w,0)) (hl:qCk d u s.s=(t,0)) (hf:qEj d w t=true)
 | cond {e:E} (h:s.op=3) (he:s.es=[e]) (hv:qAG e=true) (ht:qAr d (qAj d p) e=(qAu,0))
 | loop {e:E} (h:s.op=4) (he:s.es=[e]) (hv:qAG e=true) (ht:qAr d (qAj d p) e=(qAu,0))
 | ret0 (h:s.op=5) (he:s.es=[]) (hr:p.result=sE)
 | ret1 {e:E} {u:ByteArray} (h:s.op=5) (he:s.es=[e]) (hv:qAG e=true) (ht:qAr d (qAj d p) e=(u,0)) (hr:p.result≠sE) (hf:qEj d u p.result=true)
 | call {e:E} {pr:Pr} {i:Nat} (h:s.op=6) (he:s.es=[e]) (hv:qAG e=true) (ho:e.op=7) (hc:CallK d (qAj d p) e pr i)
theorem kindS{s:S}(h:TyS d p s):KindS d p s:=by
 obtain⟨h1,h2,h3,-⟩:=h.parts
 unfold qGv at h1
 unfold qFO at h2
 by_cases o6:s.op=6
 ·rw[if_pos o6]at h1
  rw[if_neg (by omega),if_neg (by omega),if_neg (by omega),if_neg (by omega),if_neg (by omega),if_pos o6]at h2
  obtain⟨-,h4,h5,-⟩:=of_decide_eq_true h2
  obtain⟨e,he⟩:=list1 h4
  rw[he]at h1 h5
  simp only at h1
  split at h1
  ·omega
  ·rename_i h'
   obtain⟨q1,q2⟩:=qEP d (qAj d p) e.k [] (by simpa using h')
   rw[q2,List.nil_append]at h1
   obtain⟨pr,i,hc,-⟩:=callK_of (t:=(qGO d e.s (e.k.map fun x=>(qAr d (qAj d p) x).1)).1) q1 (Prod.ext rfl h1)
   exact .call o6 he (h3 e (by rw[he];simp)) h5 hc
 rw[if_neg o6]at h1
 split at h1
 ·omega
 rename_i h'
 obtain⟨q1,q2⟩:=qEP d (qAj d p) s.es [] (by simpa using h')
 rw[q2,List.nil_append]at h1
 have ty:∀{e:E},e∈s.es->qAr d (qAj d p) e=((qAr d (qAj d p) e).1,0):=fun he=>qBp rfl (q1 _ he)
 by_cases o1:s.op=1
 ·rw[if_pos o1]at h1
  rw[if_pos o1,Bool.and_eq_true]at h2
  obtain⟨e,he⟩:=list1 (of_decide_eq_true h2.2).1
  have hm:e∈s.es:=by rw[he];simp
  split at h1
  ·cases h1
  rename_i hne
  split at h1
  ·rename_i hf
   rw[he]at hf
   exact .set o1 he (h3 e hm) (ty hm) rfl hne hf
  ·cases h1
 rw[if_neg o1]at h1 h2
 by_cases o2:s.op=2
 ·rw[if_pos o2]at h1
  rw[if_pos o2,Bool.and_eq_true]at h2
  obtain⟨a,e,he⟩:=list2 (of_decide_eq_true h2.2).1
  have hm:a∈s.es:=by rw[he];simp
  have hm2:e∈s.es:=by rw[he];simp
  split at h1
  ·omega
  rename_i h4
  split at h1
  ·rename_i hf
   rw[he]at hf h4
   simp only[List.map_cons,List.getD_cons_zero,List.getD_cons_succ]at hf h4
   exact .put o2 he (h3 a hm) (h3 e hm2) (ty hm) (ty hm2) (Prod.ext rfl (by simpa using h4)) hf
  ·cases h1
 rw[if_neg o2]at h1 h2
 by_cases o3:s.op=3
 ·rw[if_pos (.inl o3)]at h1
  rw[if_pos o3]at h2
  obtain⟨e,he⟩:=list1 (of_decide_eq_true h2).2
  have hm:e∈s.es:=by rw[he];simp
  split at h1
  ·rename_i hf
   rw[he]at hf
   exact .cond o3 he (h3 e hm) (qBp hf (q1 e hm))
  ·cases h1
 rw[if_neg o3]at h2
 by_cases o4:s.op=4
 ·rw[if_pos (.inr o4)]at h1
  rw[if_pos o4]at h2
  obtain⟨e,he⟩:=list1 (of_decide_eq_true h2).2.1
  have hm:e∈s.es:=by rw[he];simp
  split at h1
  ·rename_i hf
   rw[he]at hf
   exact .loop o4 he (h3 e hm) (qBp hf (q1 e hm))
  ·cases h1
 rw[if_neg (by omega)]at h1
 rw[if_neg o4]at h2
 by_cases o5:s.op=5
 ·rw[if_pos o5]at h1 h2
  obtain⟨-,hl,-⟩:=of_decide_eq_true h2
  cases he:s.es with
  | nil =>
   rw[he]at h1
   simp only[List.map_nil,List.length_nil,if_true]at h1
   split at h1
   ·rename_i hr;exact .ret0 o5 he hr
   ·cases h1
  | cons e r =>
   have hr:r=[]:=by
    grind
   subst hr
   have hm:e∈s.es:=by rw[he];simp
   rw[he]at h1
   simp only[List.map_cons,List.map_nil,List.length_cons,List.length_nil,List.getD_cons_zero]at h1
   rw[if_neg (by omega)]at h1
   split at h1
   ·rename_i hf;exact .ret1 o5 he (h3 e hm) (ty hm) hf.1 hf.2
   ·cases h1
 simp_all
structure qDa (d:Ds) (p:Pr):Prop where
 body:∀s∈p.body,TyS d p s
 vars:∀f∈p.vars,qBi d f.ty=true
 res:p.result=sE∨qBi d p.result=true
 lens:p.params.length<=6/\p.locals.length<=12
theorem oneT_known{l:List Fld}{i:Nat}{f:Fld}(h:qGn d l i f=0):qBi d f.ty=true:=by
 grind [qGn]
theorem declT_known{l:List Fld}(h:qDI d l=0):∀f∈l,qBi d f.ty=true:=by
 intro f hf
 obtain⟨i,hi⟩:=List.mem_iff_getElem?.1 hf
 unfold qDI at h
 cases hq:qAl (fun i f=>if qGn d l i f≠0 then some (qGn d l i f) else none) 0 l with
 | none =>
  grind [qEU,oneT_known]
 | some b =>
  exfalso
  rw[hq]at h
  simp only[Option.getD_some]at h
  subst h
  have key:∀(l':List Fld) (i:Nat),qAl (fun i f=>if qGn d l i f≠0 then some (qGn d l i f) else none) i l'≠some 0:=by
   intro l'
   induction l' with
   | nil=>intro i h;cases h
   | cons x l' ih =>
    grind [qAl,qGn]
  exact key l 0 hq
theorem qHz(hv:qAz d=true)(hc:qIO d=none):∀p∈d.procs,qDa d p:=by
 intro p hp
 obtain⟨i,hi⟩:=List.mem_iff_getElem?.1 hp
 unfold qIO at hc
 obtain⟨-,h⟩:=qKq hc
 obtain⟨hh,h⟩:=qKq h
 obtain⟨-,h⟩:=qKq h
 obtain⟨hb,-⟩:=qKq h
 unfold qFe at hh
 unfold qCD at hb
 have a1:=qEU hh i p hi
 have a2:=qEU hb i p hi
 unfold qAz at hv
 simp only[Bool.and_eq_true,List.all_eq_true]at hv
 have hpb:=hv.1.2 p hp
 unfold prB at hpb
 simp only[Bool.and_eq_true]at hpb
 obtain⟨⟨⟨⟨-,f1⟩,f2⟩,-⟩,hs⟩:=hpb
 unfold qCU at f1 f2
 rw[Bool.and_eq_true,decide_eq_true_eq]at f1 f2
 have l1:=f1.1
 have l2:=f2.1
 refine⟨fun s hsm=>⟨?_,1,qHE (of_decide_eq_true hs).1 s hsm⟩,?_,?_,by omega,by omega⟩
 ·grind [qHv]
 ·split at a1
  ·cases a1
  split at a1
  ·cases a1
  rename_i h'
  have h':qDI d (p.params++p.locals)=0:=by simpa using h'
  exact declT_known h'
 grind
end
end Go.Proofs
