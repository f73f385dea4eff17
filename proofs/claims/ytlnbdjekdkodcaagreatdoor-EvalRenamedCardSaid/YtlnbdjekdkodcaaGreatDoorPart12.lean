/- Part 12 of a proof of a law of this seat: no statement of the seat is proved here. -/
import Derived.Test.YtlnbdjekdkodcaaGreatDoorPart05
import Derived.Test.YtlnbdjekdkodcaaGreatDoorPart11
set_option linter.unusedVariables false
set_option linter.unusedSimpArgs false
namespace Go.Sx
open Go
open Classical
structure KeyOf (P:Program) (kt:TypeId) {α:Type} (enc:α->Value):Prop where
 inj:∀a b,enc a=enc b->a=b
 find:∀(a:α) (es:List MapEntry) (w:World),(∀e∈es,∃b,e.key=enc b)->(Instr.findKey kt (enc a) es).run P w=.ok ((es.findIdx? fun e=>decide (e.key=enc a)).bind fun j=>(es[j]?).map fun e=>(j,e.val)) w
 check:∀(b:Bool) (a:α) (w:World),(Instr.checkKey b 10000 kt (enc a)).run P w=.ok () w
 stays:∀(a:α) (w:World),(Instr.keyThatStays (enc a) (enc a)).run P w=.ok (enc a) w
noncomputable def qHn(es:List MapEntry)(k:Value):Option Value:=(es.find? fun e=>decide (e.key=k)).map (·.val)
structure MapV {α:Type} (enc:α->Value) (V:Mem) (b:Nat) (m:α->Option Value):Prop where
 at_:∃es clock,V b=some (.map es clock)/\(∀e∈es.toList,∃a,e.key=enc a)/\es.toList.Pairwise (fun e f=>e.key≠f.key)/\∀a,qHn es.toList (enc a)=m a
section
variable{α:Type}{enc:α->Value}{P:Program}{t kt et:TypeId}{V V':Mem}{b c:Nat}{m m':α->Option Value}
theorem MapV.sub(h:MapV enc V b m)(hs:V.sub V'):MapV enc V' b m:=by
 obtain⟨es,c,h1,h2⟩:=h.at_
 exact⟨es,c,hs _ _ h1,h2⟩
theorem MapV.set{o:Obj}(h:MapV enc V b m)(hn:b≠c):MapV enc (V.set c o) b m:=by
 obtain⟨es,c,h1,h2⟩:=h.at_
 exact⟨es,c,by rw[Mem.set_ne hn];exact h1,h2⟩
theorem MapV.made(V:Mem)(b:Nat):MapV enc (V.set b (.map #[] 0)) b fun _=>none :=
 ⟨#[],0,Mem.set_same _ _ _,by simp,by simp,by simp[qHn]⟩
theorem MapV.congr(h:MapV enc V b m)(e:∀k,m k=m' k):MapV enc V b m':=by
 obtain⟨es,c,h1,h2,h3,h4⟩:=h.at_
 exact⟨es,c,h1,h2,h3,fun k=>(h4 k).trans (e k)⟩
theorem lookV_idx(k:Value):∀es:List MapEntry,qHn es k=(es.findIdx? fun e=>decide (e.key=k)).bind fun j=>(es[j]?).map (·.val)
 | []=>rfl
 | e::es=>by
  have ih:=lookV_idx k es
  unfold qHn at ih ⊢
  simp only[List.find?_cons,List.findIdx?_cons]
  by_cases hk:e.key=k
  ·simp[hk]
  ·simp only[hk,decide_false,Bool.false_eq_true,if_false,ih]
   cases h':List.findIdx? (fun e=>decide (e.key=k)) es <;> simp
theorem qBR.key1(K:KeyOf P kt enc)(ht:P.underlying t=some (.map kt et)){z:Value}(hz:∀w,(zeroValue et).run P w=.ok z w)(hm:MapV enc V b m){k:α}{q:Value->Prop}(hq:q ((m k).getD z)):qBR P t (.map (some b)) (enc k) false V q:=by
 intro w hw
 obtain⟨es,c,h1,h2,-,h3⟩:=hm.at_
 refine⟨_,?_,hq⟩
 unfold Instr.lookup
 simp only[Sem.run_bind,run_underlying ht,Result.andThen_ok,MapKept.run_getObj_map (hw _ _ h1),Sem.run_pure,K.check,K.find k _ w h2]
 rw[<- h3 k,lookV_idx]
 cases h':List.findIdx? (fun e=>decide (e.key=enc k)) es.toList with
 | none=>simp[Sem.run_bind,hz,Result.andThen_ok]
 | some j =>
  have hj:j<es.toList.length:=(List.findIdx?_eq_some_iff_getElem.1 h').1
  simp[Sem.run_pure,List.getElem?_eq_getElem hj,Array.getElem?_eq_getElem (show j<es.size by simpa using hj)]
theorem find_none{es:List MapEntry}{k:Value}(h:es.findIdx? (fun e=>decide (e.key=k))=none):∀e∈es,e.key≠k:=fun e he=>by
 have:=(List.findIdx?_eq_none_iff.1 h) e he
 simpa using this
theorem lookV_push{es:List MapEntry}{k val:Value}{c:Nat}(h:es.findIdx? (fun e=>decide (e.key=k))=none)(x:Value):qHn (es++[{ key:=k,val:=val,born:=c }]) x=if x=k then some val else qHn es x:=by
 unfold qHn
 rw[List.find?_append]
 by_cases e:x=k
 ·subst e
  have:es.find? (fun e=>decide (e.key=x))=none:=by
   rw[List.find?_eq_none]
   intro y hy
   simpa using find_none h y hy
  simp[this]
 ·have e':¬k=x:=fun h=>e h.symm
  simp[e,e']
theorem qGX(k val:Value):∀(es:List MapEntry) (i:Nat) (h:es.findIdx? (fun e=>decide (e.key=k))=some i) (x:Value),qHn (es.modify i fun e=>{ e with key:=k,val:=val }) x=if x=k then some val else qHn es x
 | [],_,h,_=>by simp at h
 | e::es,i,h,x=>by
  rw[List.findIdx?_cons]at h
  by_cases hk:e.key=k
  ·simp only[hk,decide_true,if_true,Option.some.injEq]at h
   subst h
   unfold qHn
   by_cases hx:x=k
   ·subst hx;simp
   ·have hx':¬k=x:=fun h=>hx h.symm
    simp[hx,hx',hk]
  ·simp only[hk,decide_false,Bool.false_eq_true,if_false,Option.map_eq_some_iff]at h
   obtain⟨j,hj,rfl⟩:=h
   have ih:=qGX k val es j hj x
   unfold qHn at ih ⊢
   simp only[List.modify_succ_cons,List.find?_cons]
   by_cases hx:e.key=x
   ·have:¬x=k:=fun h=>hk (hx.trans h)
    simp[hx,this]
   ·simp only[hx,decide_false]
    exact ih
theorem qIr(k val:Value):∀(es:List MapEntry) (i:Nat),es.findIdx? (fun e=>decide (e.key=k))=some i->(es.modify i fun e=>{ e with key:=k,val:=val }).map (·.key)=es.map (·.key)
 | [],_,h=>by simp at h
 | e::es,i,h=>by
  rw[List.findIdx?_cons]at h
  by_cases hk:e.key=k
  ·simp only[hk,decide_true,if_true,Option.some.injEq]at h
   subst h
   simp[hk]
  ·simp only[hk,decide_false,Bool.false_eq_true,if_false,Option.map_eq_some_iff]at h
   obtain⟨j,hj,rfl⟩:=h
   simp[qIr k val es j hj]
theorem pair_keys{es:List MapEntry}:es.Pairwise (fun e f=>e.key≠f.key)↔(es.map (·.key)).Pairwise (·≠·):=by rw[List.pairwise_map]
theorem qIZ.key(K:KeyOf P kt enc)(ht:P.underlying t=some (.map kt et))(hm:MapV enc V b m){k:α}{val:Value}{q:Mem->Prop}(hq:∀o,MapV enc (V.set b o) b (fun x=>if x=k then some val else m x)->q (V.set b o)):qIZ P t (.map (some b)) (enc k) val V q:=by
 intro w hw
 obtain⟨es,c,h1,h2,hd,h3⟩:=hm.at_
 have hrun:(Instr.mapUpdate t (.map (some b)) (enc k) val).run P w =
   (match es.toList.findIdx? (fun e=>decide (e.key=enc k)) with
   | some i=>(setObj b (.map (es.modify i fun e=>{ e with key:=enc k,val:=val }) c)).run P w
   | none=>(setObj b (.map (es.push { key:=enc k,val:=val,born:=c }) (c+1))).run P w):=by
  unfold Instr.mapUpdate
  simp only[Sem.run_bind,run_underlying ht,Result.andThen_ok,MapKept.run_getObj_map (hw _ _ h1),K.check,K.find k _ w h2]
  cases h':List.findIdx? (fun e=>decide (e.key=enc k)) es.toList with
  | none=>rfl
  | some j =>
   obtain⟨hj1,hj2,_⟩:=List.findIdx?_eq_some_iff_getElem.1 h'
   have hj3:j<es.size:=by simpa using hj1
   have hkey:(es[j]?).map (·.key)=some (enc k):=by
    rw[Array.getElem?_eq_getElem hj3]
    simp only[Array.getElem_toList]at hj2
    simpa using hj2
   simp only[List.getElem?_eq_getElem hj1,Option.bind_some,Option.map_some,Sem.run_bind,hkey,Option.getD_some,K.stays,Result.andThen_ok]
 have hif:∀a,(if enc a=enc k then some val else qHn es.toList (enc a))=if a=k then some val else m a:=fun a=>by
  by_cases e:a=k
  ·rw[if_pos e,if_pos (by rw[e])]
  ·rw[if_neg e,if_neg (fun h=>e (K.inj _ _ h)),h3]
 cases h':List.findIdx? (fun e=>decide (e.key=enc k)) es.toList with
 | none =>
  rw[h']at hrun
  refine⟨_,V.set b (.map (es.push { key:=enc k,val:=val,born:=c }) (c+1)),hrun.trans (MapKept.run_setObj_map _ (hw _ _ h1)),Frm.put hw h1,hq _ ⟨_,_,Mem.set_same _ _ _,?_,?_,fun x=>?_⟩⟩
  ·intro e he
   simp only[Array.toList_push,List.mem_append,List.mem_singleton]at he
   rcases he with he|rfl
   ·exact h2 e he
   ·exact⟨_,rfl⟩
  ·rw[Array.toList_push]
   exact List.pairwise_append.2 ⟨hd,by simp,fun e he f hf=>by rw[List.mem_singleton.1 hf];exact find_none h' e he⟩
  ·rw[Array.toList_push,lookV_push h',hif]
 | some j =>
  rw[h']at hrun
  refine⟨_,V.set b (.map (es.modify j fun e=>{ e with key:=enc k,val:=val }) c),hrun.trans (MapKept.run_setObj_map _ (hw _ _ h1)),Frm.put hw h1,hq _ ⟨_,_,Mem.set_same _ _ _,?_,?_,fun x=>?_⟩⟩
  ·intro e he
   rw[Array.toList_modify]at he
   obtain⟨i,hi,rfl⟩:=List.mem_iff_getElem.1 he
   rw[List.getElem_modify]
   split
   ·exact⟨_,rfl⟩
   ·exact h2 _ (List.getElem_mem _)
  ·rw[Array.toList_modify,pair_keys,qIr _ _ _ _ h',<- pair_keys];exact hd
  ·rw[Array.toList_modify,qGX _ _ _ _ h',hif]
end
end Go.Sx
namespace Go.Proofs
open Go Go.Sx
attribute [local irreducible] Go.Sx.Tri
def qAn(n:Int):List Value:=[.int .i64 n]
def inI(n:Int):Prop:=-9223372036854775808<=n/\n<=9223372036854775807
structure Nd where
 ty:Int
 sl:Sl
 f:List Int
def Nd.row(n:Nd):List Value:=[.int .i64 n.ty,n.sl.v]
def Nd.v(n:Nd):Value:=.agg n.row.toArray
structure Nd.Ok (V:Mem) (n:Nd):Prop where
 rows:qAd V n.sl 1 (n.f.map qAn)
 tyIn:inI n.ty
 vals:∀x∈n.f,inI x
structure Mm where
 gs:Sl
 globals:List Int
 ns:Sl
 nodes:List Nd
def Mm.row(m:Mm):List Value:=[m.gs.v,m.ns.v]
def Mm.v(m:Mm):Value:=.agg m.row.toArray
structure Mm.Ok (V:Mem) (m:Mm):Prop where
 globals:qAd V m.gs 1 (m.globals.map qAn)
 gIn:∀x∈m.globals,inI x
 nodes:qAd V m.ns 2 (m.nodes.map Nd.row)
 nodesOk:∀n∈m.nodes,Nd.Ok V n
theorem Nd.Ok.sub{V V':Mem}{n:Nd}(h:Nd.Ok V n)(hs:V.sub V'):Nd.Ok V' n:=⟨h.rows.sub hs,h.tyIn,h.vals⟩
theorem Mm.Ok.sub{V V':Mem}{m:Mm}(h:Mm.Ok V m)(hs:V.sub V'):Mm.Ok V' m:=⟨h.globals.sub hs,h.gIn,h.nodes.sub hs,fun n hn=>(h.nodesOk n hn).sub hs⟩
def allI{α:Type}(p:Nat->α->Bool)(xs:List α):Bool:=xs.zipIdx.all fun x=>p x.2 x.1
def AllI{α:Type}(p:Nat->α->Bool)(xs:List α)(i:Nat):Prop:=∀j x,j<i->xs[j]?=some x->p j x=true
theorem AllI.zero{α:Type}{p:Nat->α->Bool}{xs:List α}:AllI p xs 0:=fun _ _ h=>absurd h (Nat.not_lt_zero _)
theorem AllI.succ{α:Type}{p:Nat->α->Bool}{xs:List α}{i:Nat}{x:α}(h:AllI p xs i)(hx:xs[i]?=some x)(hp:p i x=true):AllI p xs (i+1):=fun j y hj hy=>by
 rcases Nat.lt_succ_iff_lt_or_eq.1 hj with h'|rfl
 ·exact h j y h' hy
 ·rw[hx]at hy;cases hy;exact hp
theorem qCR{α:Type}{p:Nat->α->Bool}{xs:List α}:allI p xs=true↔∀j x,xs[j]?=some x->p j x=true:=by
 unfold allI
 rw[List.all_eq_true]
 constructor
 ·intro h j x hx
  exact h (x,j) (by rw[List.mem_zipIdx_iff_getElem?];exact hx)
 ·rintro h ⟨x,j⟩ hx
  rw[List.mem_zipIdx_iff_getElem?]at hx
  exact h j x hx
theorem AllI.all{α:Type}{p:Nat->α->Bool}{xs:List α}{i:Nat}(h:AllI p xs i)(hi:xs.length<=i):allI p xs=true :=
 qCR.2 fun j x hx=>h j x (by have:=(List.getElem?_eq_some_iff.1 hx).1;omega) hx
theorem qGH{α:Type}{p:Nat->α->Bool}{xs:List α}{j:Nat}{x:α}(hx:xs[j]?=some x)(hp:¬p j x=true):allI p xs=false:=by
 cases h:allI p xs with
 | false=>rfl
 | true=>exact absurd (qCR.1 h j x hx) hp
def qDB(d:Ds)(s:ByteArray):Int:=qHo (fun t=>decide (t.name=s)) d.types
def qCK(d:Ds)(l:List Fld):Bool:=l.all fun f=>qBh d f.ty
def hasT(d:Ds):Bool:=qAT d&&qCK d d.globals&&allI (fun i t=>decide (qDB d t.name=(i:Int))&&qCK d t.fields) d.types
def qAx(d:Ds)(t:Int):List Fld:=((d.types[t.toNat]?).map (·.fields)).getD []
def tyAt(l:List Fld)(i:Nat):ByteArray:=((l[i]?).map (·.ty)).getD sE
def qAv(d:Ds)(m:Mm)(typ:ByteArray)(v:Int):Bool :=
 if typ=qAP then decide (-1099511627776<=v/\v<=1099511627776) else if typ=qAu then decide (v=0∨v=1)
 else decide (v=0∨(1<=v/\v<=(m.nodes.length:Int)/\(m.nodes[(v-1).toNat]?).map (·.ty)=some (qDB d typ)))
def qAg(d:Ds)(m:Mm)(l:List Fld)(vs:List Int):Bool:=decide (l.length=vs.length)&&allI (fun i v=>qAv d m (tyAt l i) v) vs
def qDb(d:Ds)(n:Nd):Bool:=decide (0<=n.ty/\n.ty<(d.types.length:Int))
def qAN(d:Ds)(m:Mm):Bool:=hasT d&&decide (m.nodes.length<=4096)&&m.nodes.all (qDb d)&&qAg d m d.globals m.globals&&m.nodes.all fun n=>qAg d m (qAx d n.ty) n.f
theorem row_take{V:Mem}{a:Addr}{n k:Nat}{vs:List Value}(h:V.row a n=some vs)(hk:k<=n):V.row a k=some (vs.take k):=by
 unfold Mem.row at h ⊢
 split at h
 ·rename_i c x y hb
  split at h
  ·rename_i hc
   simp only[Option.some.injEq]at h
   rw[if_pos ⟨hc.1,by omega⟩,<- h,List.take_take,Nat.min_eq_left hk]
  ·cases h
 ·cases h
theorem qEI{V:Mem}{p:Option Addr}{off n k:Nat}{vs:List Value}(h:V.rowp p off n=some vs)(hk:k<=n):V.rowp (qAa (qAa p off) 0) 0 k=some (vs.take k):=by
 cases p with
 | none=>cases h
 | some a =>
  have h0:((a.add off).add 0).add 0=a.add off:=by rw[qIU,qIU];rfl
  show V.row (((a.add off).add 0).add 0) k=_
  rw[h0]
  exact row_take h hk
section
variable{V:Mem}{d:Ds}{m:Mm}
theorem qGz(d:Ds)(s:ByteArray):(qDB d s<0/\qAX d s=false)∨(0<=qDB d s/\qAX d s=true):=by
 unfold qDB qAX
 rcases qAB (fun t:Ty=>decide (t.name=s)) d.types with⟨h1,-,h2⟩|⟨i,x,h1,-,-,-,-,-,h2,-⟩
 ·left;rw[h1];exact⟨by decide,h2⟩
 ·right;rw[h1];exact⟨by omega,h2⟩
theorem c125(h:Ds.Ok V d){l:Sl}{xs:List Fld}(hr:qAd V l 2 (xs.map Fld.row)):PP 125 [d.v,l.v] V (.bool (qCK d xs)):=by
 refine x125 ?_
 unfold w125
 refine qAC (mk:=.bool) (b0:=false) xs.length (fun i V1=>V=V1/\qAY (fun f=>qBh d f.ty) xs i) ⟨rfl,qAY.zero _ _⟩ ?_
 rintro i b V1 J hi ⟨rfl,ha⟩ hJ
 refine⟨fun hlt=>?_,fun hge=>?_⟩
 ·obtain⟨x,hm,hx,hdr,hl,hp,hz,hrow⟩:=hr.get hlt
  have hq:=qAe (n:=i*2) hp
  have go:qBh d x.ty=true->IR ((i:Int)+1)/\J [.bool b,.int .i64 ((i:Int)+1)] V:=fun hk=>⟨hr.succ hlt,hJ hl _ _ ⟨rfl,ha.succ hx hk⟩⟩
  refine⟨hp,hz,hlt,hq,_,_,hrow,fun h1=>go (by unfold qBh;rw[decide_eq_true (show x.ty=qAP from h1)];rfl),fun h1=>⟨hp,hz,hlt,hq,_,_,hrow,fun h2=>go (by unfold qBh;rw[decide_eq_true (show x.ty=qAu from h2)];simp),fun h2=>⟨hp,hz,hlt,hq,_,_,hrow,(c92 h).call ⟨_,rfl,fun h3=>?_,fun h3=>go ?_⟩⟩⟩⟩
  ·rcases qGz d x.ty with⟨-,k⟩|⟨k,-⟩
   ·have:qBh d x.ty=false:=by unfold qBh;rw[decide_eq_false (show ¬x.ty=qAP from h1),decide_eq_false (show ¬x.ty=qAu from h2),k];rfl
    unfold qCK
    rw[qBD hm (by rw[this];decide)];exact⟨rfl,rfl⟩
   ·exact absurd h3 (by show ¬qDB d x.ty<0;omega)
  ·rcases qGz d x.ty with⟨k,-⟩|⟨-,k⟩
   ·exact absurd (show qDB d x.ty<0 from k) h3
   ·unfold qBh;rw[k];simp
 ·unfold qCK
  rw[ha.all (hr.done hge).2];exact⟨rfl,rfl⟩
theorem c91(h:Ds.Ok V d):PP 91 [d.v] V (.bool (hasT d)):=by
 refine x91 ?_
 unfold w91 hasT
 refine(c60 h).call ⟨_,rfl,fun hv=>(c125 h h.globals).call ⟨_,rfl,fun ht=>?_,fun ht=>?_⟩,fun hv=>?_⟩
 ·rw[hv,ht,Bool.true_and,Bool.true_and]
  refine qAC (mk:=.bool) (b0:=false) d.types.length (fun i V1=>V=V1/\AllI (fun i t=>decide (qDB d t.name=(i:Int))&&qCK d t.fields) d.types i) ⟨rfl,AllI.zero⟩ ?_
  rintro i b V1 J hi ⟨rfl,ha⟩ hJ
  refine⟨fun hlt=>?_,fun hge=>?_⟩
  ·obtain⟨x,hm,hx,hdr,hl,hp,hz,hrow⟩:=h.types.get hlt
   have hq:=qAe (n:=i*2) hp
   refine⟨hp,hz,hlt,hq,_,_,hrow,(c92 h).call ⟨_,rfl,fun h1=>⟨hp,hz,hlt,hq,_,_,hrow,(c125 h (h.typesOk x hm).fields).call ⟨_,rfl,fun h2=>⟨h.types.succ hlt,hJ hl _ _ ⟨rfl,ha.succ hx ?_⟩⟩,fun h2=>?_⟩⟩,fun h1=>?_⟩⟩
   ·rw[h2,decide_eq_true (show qDB d x.name=(i:Int) from h1)];rfl
   ·rw[qGH hx (by rw[Bool.and_eq_true];exact fun k=>h2 k.2)];exact⟨rfl,rfl⟩
   ·rw[qGH hx (by rw[Bool.and_eq_true,decide_eq_true_eq];exact fun k=>h1 k.1)];exact⟨rfl,rfl⟩
  ·rw[ha.all (h.types.done hge).2];exact⟨rfl,rfl⟩
 ·rw[show qCK d d.globals=false by simpa using ht];simp
 ·rw[show qAT d=false by simpa using hv];simp
theorem c63(h:Ds.Ok V d)(hm:Mm.Ok V m){s:ByteArray}{v:Int}:PP 63 [d.v,m.v,.string s,.int .i64 v] V (.bool (qAv d m s v)):=by
 refine x63 ?_
 unfold w63 qAv
 have hn:=hm.nodes.n_eq
 have fin:∀{a b:Bool},a=b->(Ending.returned (.bool a)=Ending.returned (.bool b)/\V=V):=fun e=>⟨by rw[e],rfl⟩
 refine⟨fun h1=>?_,fun h1=>⟨fun h2=>?_,fun h2=>?_⟩⟩
 ·rw[if_pos (show s=qAP from h1)]
  refine⟨fun h3=>fin ?_,fun h3=>fin ?_⟩
  ·exact decide_eq_decide.2 ⟨fun k=>⟨h3,k⟩,fun k=>k.2⟩
  ·exact(decide_eq_false fun k=>h3 k.1).symm
 ·rw[if_neg (show ¬s=qAP from h1),if_pos (show s=qAu from h2)]
  refine⟨fun h3=>fin ?_,fun h3=>fin ?_⟩
  ·exact(decide_eq_true (.inl h3)).symm
  ·exact decide_eq_decide.2 ⟨fun k=>.inr k,fun k=>k.resolve_left h3⟩
 ·rw[if_neg (show ¬s=qAP from h1),if_neg (show ¬s=qAu from h2)]
  refine⟨fun h3=>fin (decide_eq_true (.inl h3)).symm,fun h3=>⟨fun h4=>⟨fun h5=>?_,fun h5=>fin ?_⟩,fun h4=>fin ?_⟩⟩
  ·obtain⟨i,rfl⟩:∃i:Nat,v=(i:Int)+1:=⟨(v-1).toNat,by omega⟩
   have e:((i:Int)+1-1)=(i:Int):=by omega
   have hv2:(i:Int)+1<=9223372036854775807:=by have:=(hm.nodes.succ (i:=i) (by omega)).2;omega
   rw[e]
   obtain⟨x,hxm,hx,hdr,hl,hp,hz,hrow⟩:=hm.nodes.get (i:=i) (by omega)
   have hq:=qAe (n:=i*2) hp
   refine⟨⟨by omega,by omega⟩,hp,by omega,by omega,hq,_,_,hrow,(c92 h).call ⟨_,rfl,?_,hq,hp,by omega,by omega,⟨by omega,by omega⟩,fin ?_⟩⟩
   ·exact qEI (k:=1) hrow (by decide)
   ·refine decide_eq_decide.2 ⟨fun k=>.inr ⟨h4,by omega,?_⟩,fun k=>?_⟩
    ·show Option.map (·.ty) (m.nodes[((i:Int)).toNat]?)=_
     rw[Int.toNat_natCast,hx];exact congrArg some k
    ·rcases k with k|⟨-,-,k⟩
     ·exact absurd k h3
     ·rw[show ((i:Int)).toNat=i from rfl,hx]at k
      exact Option.some.inj k
  ·exact(decide_eq_false fun k=>k.elim h3 fun k=>h5 (by omega)).symm
  ·exact(decide_eq_false fun k=>k.elim h3 fun k=>h4 k.1).symm
theorem qAW{t:Int}{x:Ty}{k:Nat}(hx:d.types[k]?=some x)(ht:t=(k:Int)):qAx d t=x.fields:=by
 subst ht
 unfold qAx
 rw[Int.toNat_natCast,hx];rfl
theorem c62(h:Ds.Ok V d)(hm:Mm.Ok V m):PP 62 [d.v,m.v] V (.bool (qAN d m)):=by
 refine x62 ?_
 unfold w62
 have hn:=hm.nodes.n_eq
 have hg:=hm.globals.n_eq
 have hdg:=h.globals.n_eq
 have hdt:=h.types.n_eq
 have no:∀{V1:Mem},V=V1->¬qAN d m=true->(Ending.returned (.bool false)=Ending.returned (.bool (qAN d m))/\V1=V):=fun e k=>⟨by rw[show qAN d m=false by simpa using k],e.symm⟩
 have parts:qAN d m=true↔hasT d=true/\m.nodes.length<=4096/\(∀n∈m.nodes,qDb d n=true)/\qAg d m d.globals m.globals=true/\∀n∈m.nodes,qAg d m (qAx d n.ty) n.f=true:=by
  unfold qAN
  simp only[Bool.and_eq_true,decide_eq_true_eq,List.all_eq_true,and_assoc]
 refine(c91 h).call ⟨_,rfl,fun ht=>⟨fun hl=>⟨fun hbig=>no rfl fun k=>?_,fun hbig=>?_⟩,fun hl=>no rfl fun k=>?_⟩,fun ht=>no rfl fun k=>ht (parts.1 k).1⟩
 ·have:=(parts.1 k).2.1;omega
 ·let PA:Nd->Bool:=fun n=>qDb d n&&decide ((qAx d n.ty).length=n.f.length)
  refine qAC (mk:=.bool) (b0:=false) m.nodes.length (fun i V1=>V=V1/\qAY PA m.nodes i) ⟨rfl,qAY.zero _ _⟩ ?_
  rintro i b V1 J hi ⟨rfl,ha⟩ hJ
  refine⟨fun hlt=>?_,fun hge=>?_⟩
  ·obtain⟨x,hxm,hx,hdr,hll,hp,hz,hrow⟩:=hm.nodes.get hlt
   have hq:=qAe (n:=i*2) hp
   have hnx:=(hm.nodesOk x hxm).rows.n_eq
   refine⟨hp,hz,hlt,hq,_,_,hrow,fun h1=>no rfl fun k=>?_,fun h1=>⟨fun h2=>no rfl fun k=>?_,fun h2=>?_⟩⟩
   ·have:=(parts.1 k).2.2.1 x hxm
    exact absurd (of_decide_eq_true this).1 (by omega)
   ·have:=(parts.1 k).2.2.1 x hxm
    exact absurd (of_decide_eq_true this).2 (by omega)
   ·obtain⟨t,ht'⟩:∃t:Nat,x.ty=(t:Int):=⟨x.ty.toNat,by omega⟩
    obtain⟨y,hym,hy,-,-,hyp,hyz,hyrow⟩:=h.types.get (i:=t) (by omega)
    have hfn:=(h.typesOk y hym).fields.n_eq
    have hfo:=qAW hy ht'
    have h1':(0:Int)<=x.ty:=by omega
    rw[ht']at h1 h2 ⊢
    refine⟨hp,hz,hlt,hq,_,_,hrow,hyp,by omega,by omega,qAe hyp,_,_,hyrow,fun h3=>⟨hm.nodes.succ hlt,hJ hll _ _ ⟨rfl,ha.succ hx ?_⟩⟩,fun h3=>no rfl fun k=>?_⟩
    ·show (qDb d x&&decide ((qAx d x.ty).length=x.f.length))=true
     rw[Bool.and_eq_true]
     exact⟨decide_eq_true ⟨h1',by rw[ht'];omega⟩,decide_eq_true (by rw[hfo];omega)⟩
    ·have:=(parts.1 k).2.2.2.2 x hxm
     unfold qAg at this
     rw[Bool.and_eq_true,decide_eq_true_eq,hfo]at this
     exact h3 (by omega)
  have hA:=ha.all (hm.nodes.done hge).2
  rw[List.all_eq_true]at hA
  clear hJ ha hge hi
  refine qAC (mk:=.bool) (b0:=b) m.globals.length (fun i V1=>V=V1/\AllI (fun i v=>qAv d m (tyAt d.globals i) v) m.globals i) ⟨rfl,AllI.zero⟩ ?_
  rintro i b1 V1 J hi ⟨rfl,ha⟩ hJ
  refine⟨fun hlt=>?_,fun hge=>?_⟩
  ·obtain⟨x,hxm,hx,hdr,hll,hp,hz,hrow⟩:=hm.globals.get hlt
   obtain⟨f,hfm,hf,-,-,hfp,hfz,hfrow⟩:=h.globals.get (i:=i) (by omega)
   have hty:tyAt d.globals i=f.ty:=by unfold tyAt;rw[hf];rfl
   refine⟨hfp,hfz,by omega,qAe hfp,_,_,hfrow,hp,hz,hlt,_,hrow,(c63 h hm).call ⟨_,rfl,fun h1=>⟨hm.globals.succ hlt,hJ hll _ _ ⟨rfl,ha.succ hx (by rw[hty];exact h1)⟩⟩,fun h1=>no rfl fun k=>?_⟩⟩
   have:=(parts.1 k).2.2.2.1
   unfold qAg at this
   rw[Bool.and_eq_true]at this
   have:=qCR.1 this.2 i x hx
   rw[hty]at this
   exact h1 this
  have hG:=ha.all (hm.globals.done hge).2
  clear hJ ha hge hi
  refine qAC (mk:=.bool) (b0:=b1) m.nodes.length (fun i V1=>V=V1/\qAY (fun n=>qAg d m (qAx d n.ty) n.f) m.nodes i) ⟨rfl,qAY.zero _ _⟩ ?_
  rintro i b2 V1 J hi ⟨rfl,ha⟩ hJ
  refine⟨fun hlt=>?_,fun hge=>?_⟩
  ·obtain⟨x,hxm,hx,hdr,hll,hp,hz,hrow⟩:=hm.nodes.get hlt
   have hq:=qAe (n:=i*2) hp
   have hxo:=hm.nodesOk x hxm
   have hPx:=hA x hxm
   rw[Bool.and_eq_true,decide_eq_true_eq]at hPx
   obtain⟨hP1,hP2⟩:=hPx
   have hP1:=of_decide_eq_true hP1
   obtain⟨t,ht'⟩:∃t:Nat,x.ty=(t:Int):=⟨x.ty.toNat,by omega⟩
   obtain⟨y,hym,hy,-,-,hyp,hyz,hyrow⟩:=h.types.get (i:=t) (by omega)
   have hyo:=(h.typesOk y hym).fields
   have hfo:=qAW hy ht'
   refine⟨hp,hz,hlt,hq,_,_,hrow,hyp,by rw[ht'];omega,by rw[ht'];omega,qAe hyp,_,_,by rw[ht'];exact hyrow,?_⟩
   rw[hfo]at hP2
   have hxn:=hxo.rows.n_eq
   have hyn:=hyo.n_eq
   refine qAC (mk:=.bool) (b0:=b2) y.fields.length (fun j V1=>V=V1/\AllI (fun i v=>qAv d m (tyAt y.fields i) v) x.f j) ⟨rfl,AllI.zero⟩ ?_
   rintro j b3 V1 J1 hj ⟨rfl,ha1⟩ hJ1
   refine⟨fun hlt1=>?_,fun hge1=>⟨hm.nodes.succ hlt,hJ hll _ _ ⟨rfl,ha.succ hx ?_⟩⟩⟩
   ·obtain⟨f,hfm,hf,-,hfl,hfp,hfz,hfrow⟩:=hyo.get hlt1
    obtain⟨z,hzm,hzx,-,-,hzp,hzz,hzrow⟩:=hxo.rows.get (i:=j) (by omega)
    have hty:tyAt y.fields j=f.ty:=by unfold tyAt;rw[hf];rfl
    refine⟨hfp,hfz,hlt1,qAe hfp,_,_,hfrow,hp,hz,hlt,hq,_,_,hrow,hzp,hzz,by omega,_,hzrow,(c63 h hm).call ⟨_,rfl,fun h1=>⟨hyo.succ hlt1,hJ1 hfl _ _ ⟨rfl,ha1.succ hzx (by rw[hty];exact h1)⟩⟩,fun h1=>no rfl fun k=>?_⟩⟩
    have:=(parts.1 k).2.2.2.2 x hxm
    unfold qAg at this
    rw[Bool.and_eq_true,hfo]at this
    have:=qCR.1 this.2 j z hzx
    rw[hty]at this
    exact h1 this
   ·have:=(hyo.done hge1).2
    unfold qAg
    rw[hfo,ha1.all (by omega),decide_eq_true hP2];rfl
  ·have hN:=ha.all (hm.nodes.done hge).2
   rw[List.all_eq_true]at hN
   have:qAN d m=true:=parts.2 ⟨ht,by omega,fun n hn'=>(Bool.and_eq_true _ _ ▸ hA n hn').1,by unfold qAg;rw[hG,decide_eq_true (by omega)];rfl,hN⟩
   rw[this];exact⟨rfl,rfl⟩
 ·have:=(parts.1 k).2.2.2.1
  unfold qAg at this
  rw[Bool.and_eq_true,decide_eq_true_eq]at this
  exact hl (by omega)
end
end Go.Proofs
namespace Go.Proofs
open Go Go.Sx
inductive Rs where
 | ok (v:Int)
 | bad (e:Int)
deriving DecidableEq
def Rs.bind:Rs->(Int->Rs)->Rs
 | .ok v,f=>f v
 | .bad e,_=>.bad e
def big(n:Int):Rs:=if -1099511627776<=n/\n<=1099511627776 then .ok n else .bad 5
def trI(b:Bool):Int:=if b then 1 else 0
def qCA(op a b:Int):Rs :=
 if op=9 then big (a+b) else if op=10 then big (a-b) else if op=11 then big (a*b)
 else if op=22 then .ok (if a<b then b else a) else if op=23 then .ok (if b<a then b else a)
 else if op=14 then .ok (trI (decide (a=b))) else if op=15 then .ok (trI (!decide (a=b))) else if op=16 then .ok (trI (decide (a<b))) else if op=17 then .ok (trI (decide (a<=b)))
 else if b=0 then .bad 18 else if op=12 then .ok (a.tdiv b) else .ok (a.tmod b)
def qFi(l:List Fld)(s:ByteArray):Int:=qHo (fun f=>decide (f.name=s)) l
def mIdx(d:Ds)(s:ByteArray):Int:=qHo (fun x=>decide (x.name=s)) d.measures
def varV(d:Ds)(m:Mm)(x:Int)(s:ByteArray):Int:=if s=qIf then x else (m.globals[(qFi d.globals s).toNat]?).getD 0
def fldV(d:Ds)(m:Mm)(a:Int)(s:ByteArray):Rs :=
 if a=0 then .bad 17 else match m.nodes[(a-1).toNat]? with
  | none=>.bad 0
  | some n=>.ok ((n.f[(qFi (qAx d n.ty) s).toNat]?).getD 0)
def qIX(a:Int):Int:=(Nat.log2 a.toNat:Int)
def kidR(rs:List Rs)(i:Nat):Rs:=rs.getD i (.bad 0)
section
variable(d:Ds)(m:Mm)
def comb(F:Int->Int->Rs)(x op n:Int)(s:ByteArray)(rs:List Rs):Rs :=
 if op=1∨op=2 then .ok n else if op=3 then .ok 0 else if op=4 then .ok (varV d m x s)
 else if op=5 then (kidR rs 0).bind fun a=>fldV d m a s
 else if op=7 then (kidR rs 0).bind fun a=>F (mIdx d s) a
 else if op=8 then (kidR rs 0).bind fun a=>big (-a)
 else if op=18 then (kidR rs 0).bind fun a=>.ok (1-a)
 else if op=24 then (kidR rs 0).bind fun a=>.ok (qIX a)
 else if op=19 then (kidR rs 0).bind fun a=>if a=0 then .ok 0 else kidR rs 1
 else if op=20 then (kidR rs 0).bind fun a=>if a=0 then kidR rs 1 else .ok 1
 else if op=21 then (kidR rs 0).bind fun a=>if a=0 then kidR rs 2 else kidR rs 1
 else (kidR rs 0).bind fun a=>(kidR rs 1).bind fun b=>qCA op a b
mutual
def evE(F:Int->Int->Rs)(x:Int):E->Rs
 | .mk op n s _ k=>comb d m F x op n s (evEs F x k)
def evEs(F:Int->Int->Rs)(x:Int):List E->List Rs
 | []=>[]
 | e::es=>evE F x e::evEs F x es
end
end
variable{d:Ds}{m:Mm}
section
variable{F:Int->Int->Rs}{x op n:Int}{s:ByteArray}{rs:List Rs}
end
end Go.Proofs
namespace Go.Proofs
open Go Go.Sx
structure qAr (d:Ds) (m:Mm):Prop where
 valid:qAT d=true
 chk:qJR d=none
 mem:qAN d m=true
def VE(e:E):Prop:=∃k,okE k e=true
theorem VE.of_valid{e:E}(h:qAO e=true):VE e:=⟨1,(of_decide_eq_true h).1⟩
theorem okE_eq(k:Int)(e:E):okE k e=(decide (k<=60)&&qDr e.op e.n e.s e.k.length&&okEs (k+1) e.k):=by cases e;unfold okE;rfl
theorem okEs_all{k:Int}:∀{l:List E},okEs k l=true->∀x∈l,okE k x=true
 | [],_,x,hx=>by cases hx
 | e::l,h,x,hx=>by
  unfold okEs at h
  rw[Bool.and_eq_true]at h
  rcases List.mem_cons.1 hx with rfl|hx
  ·exact h.1
  ·exact okEs_all h.2 x hx
theorem VE.node{e:E}(h:VE e):qDr e.op e.n e.s e.k.length=true:=by
 obtain⟨k,h⟩:=h
 rw[okE_eq,Bool.and_eq_true,Bool.and_eq_true]at h
 exact h.1.2
theorem VE.kids{e:E}(h:VE e):∀x∈e.k,VE x:=by
 obtain⟨k,h⟩:=h
 rw[okE_eq,Bool.and_eq_true]at h
 exact fun x hx=>⟨_,okEs_all h.2 x hx⟩
theorem qEO(d:Ds)(sc:Sc):∀(k:List E) (acc:List ByteArray),(partsT d sc acc k).2=0->(∀x∈k,(qAo d sc x).2=0)/\(partsT d sc acc k).1=acc++k.map fun x=>(qAo d sc x).1
 | [],acc,_=>by rw[qCr];simp
 | x::xs,acc,h=>by
  rw[qBX]at h ⊢
  split at h
  ·rename_i h';exact absurd h h'
  ·rename_i h'
   rw[if_neg h']
   obtain⟨h1,h2⟩:=qEO d sc xs _ h
   refine⟨List.forall_mem_cons.2 ⟨by simpa using h',h1⟩,?_⟩
   rw[h2];simp
theorem qFo{d:Ds}{sc:Sc}{e:E}{t:ByteArray}(h:qAo d sc e=(t,0)):(∀x∈e.k,(qAo d sc x).2=0)/\qHm d sc e.op e.s (e.k.map fun x=>(qAo d sc x).1)=(t,0):=by
 rw[qHK]at h
 split at h
 ·rename_i h'
  simp only[Prod.mk.injEq]at h
  exact absurd h.2 h'
 ·rename_i h'
  have h':(partsT d sc [] e.k).2=0:=by simpa using h'
  obtain⟨h1,h2⟩:=qEO d sc e.k [] h'
  rw[h2,List.nil_append]at h
  exact⟨h1,h⟩
theorem arityB{op n:Int}{s:ByteArray}{l:Int}(h:qDr op n s l=true):qAR op≠-2/\(0<=qAR op->l=qAR op)/\nmB op s=true/\numB op n=true:=by
 unfold qDr at h
 rw[Bool.and_eq_true,Bool.and_eq_true,decide_eq_true_eq]at h
 exact⟨h.1.1.1,h.1.1.2.1,h.1.2,h.2⟩
theorem list1{α:Type}{k:List α}(h:(k.length:Int)=1):∃a,k=[a]:=by
 match k,h with
 | [a],_=>exact⟨a,rfl⟩
 | [],h=>simp at h
 | _::_::_,h=>simp at h;omega
theorem list2{α:Type}{k:List α}(h:(k.length:Int)=2):∃a b,k=[a,b]:=by
 match k,h with
 | [a,b],_=>exact⟨a,b,rfl⟩
 | [],h=>simp at h
 | [_],h=>simp at h
 | _::_::_::_,h=>simp at h;omega
theorem list3{α:Type}{k:List α}(h:(k.length:Int)=3):∃a b c,k=[a,b,c]:=by
 match k,h with
 | [a,b,c],_=>exact⟨a,b,c,rfl⟩
 | [],h=>simp at h
 | [_],h=>simp at h
 | [_,_],h=>simp at h
 | _::_::_::_::_,h=>simp at h;omega
theorem name_kw{s:ByteArray}(h:qAS s=true):isKw s=false:=by
 unfold qAS at h
 rw[Bool.and_eq_true]at h
 simpa using h.2
theorem qCI{s t:ByteArray}(h:qAS s=true)(ht:isKw t=true):s≠t:=fun e=>by rw[e]at h;rw[name_kw h]at ht;cases ht
theorem kwNil:isKw qJu=true:=by kernel_rfl
theorem kwInt:isKw qAP=true:=by kernel_rfl
theorem kwBool:isKw qAu=true:=by kernel_rfl
section
variable{d:Ds}{m:Mm}
theorem validD_types(h:qAT d=true):(∀t∈d.types,qAS t.name=true)/\(∀f∈d.globals,qAS f.name=true)/\(∀x∈d.measures,msB x=true)/\(∀x∈d.invs,ivB x=true):=by
 unfold qAT at h
 simp only[Bool.and_eq_true]at h
 obtain⟨⟨⟨⟨⟨h1,h2⟩,-⟩,hT⟩,-⟩,hF⟩:=h
 unfold qJf at hF
 simp only[Bool.and_eq_true,List.all_eq_true]at hF hT
 refine⟨fun t ht=>?_,fun f hf=>?_,hF.1.1.1,hF.1.1.2⟩
 ·have:=hT t ht
  unfold tyB at this
  rw[Bool.and_eq_true]at this
  exact this.1
 ·have hg:=h1.2
  unfold qDN at hg
  simp only[Bool.and_eq_true,List.all_eq_true]at hg
  have:=hg.2 f hf
  unfold fldB at this
  rw[Bool.and_eq_true]at this
  exact this.1
theorem qDH(h:qAT d=true){s:ByteArray}(hs:qAX d s=true):qAS s=true:=by
 obtain⟨t,ht,e⟩:=List.any_eq_true.1 hs
 rw[<- of_decide_eq_true e]
 exact(validD_types h).1 t ht
def qBq(d:Ds)(m:Mm)(t:ByteArray)(v:Int):Prop:=if t=qJu then v=0 else qAv d m t v=true
theorem qGo:qJu≠qAP/\qJu≠qAu/\qAP≠qJu/\qAu≠qJu/\qAP≠qAu/\qAu≠qAP:=by
 refine⟨of_decide_eq_false ?_,of_decide_eq_false ?_,of_decide_eq_false ?_,of_decide_eq_false ?_,of_decide_eq_false ?_,of_decide_eq_false ?_⟩ <;> kernel_rfl
theorem qBc{v:Int}:qBq d m qAP v↔-1099511627776<=v/\v<=1099511627776:=by
 unfold qBq qAv
 rw[if_neg qGo.2.2.1,if_pos rfl,decide_eq_true_eq]
theorem qAU{v:Int}:qBq d m qAu v↔v=0∨v=1:=by
 unfold qBq qAv
 rw[if_neg qGo.2.2.2.1,if_neg qGo.2.2.2.2.2,if_pos rfl,decide_eq_true_eq]
theorem qBk(h:qAT d=true){t:ByteArray}(ht:qBh d t=true){v:Int}:qBq d m t v↔qAv d m t v=true:=by
 unfold qBq
 rw[if_neg]
 intro e
 subst e
 unfold qBh at ht
 rw[decide_eq_false qGo.1,decide_eq_false qGo.2.1]at ht
 exact qCI (qDH h (by simpa using ht)) kwNil rfl
theorem qJw{t:ByteArray}(h:qAS t=true):qAv d m t 0=true:=by
 unfold qAv
 rw[if_neg (qCI h kwInt),if_neg (qCI h kwBool)]
 exact decide_eq_true (.inl rfl)
theorem qCa(h:qAT d=true){a b:ByteArray}(hf:fits d a b=true){v:Int}(hv:qBq d m a v):qBq d m b v:=by
 unfold fits at hf
 simp only[Bool.or_eq_true,Bool.and_eq_true,decide_eq_true_eq]at hf
 rcases hf with rfl|⟨rfl,hb⟩
 ·exact hv
 ·have hn:=qDH h hb
  unfold qBq at hv ⊢
  rw[if_pos rfl]at hv
  rw[if_neg (qCI hn kwNil),hv]
  exact qJw hn
theorem qDJ:∀(l:List Fld) (s:ByteArray),qBF l s=((l.find? fun f=>decide (f.name=s)).map (·.ty)).getD sE
 | [],_=>rfl
 | f::l,s=>by
  unfold qBF
  rw[List.find?_cons]
  by_cases h:f.name=s
  ·rw[if_pos h,decide_eq_true h];rfl
  ·rw[if_neg h,decide_eq_false h,qDJ l s]
theorem qEv(l:List Fld)(s:ByteArray):(qBF l s=sE/\qFi l s=-1)∨∃(i:Nat) (f:Fld),qFi l s=i/\l[i]?=some f/\qBF l s=f.ty/\f.name=s:=by
 rw[qDJ]
 unfold qFi
 rcases qAB (fun f:Fld=>decide (f.name=s)) l with⟨h1,h2,-⟩|⟨i,x,h1,h2,h3,-,h5,-⟩
 ·exact .inl ⟨by rw[h2];rfl,h1⟩
 ·exact .inr ⟨i,x,h1,h2,by rw[h3];rfl,of_decide_eq_true h5⟩
theorem qBz(h:hasT d=true):qCK d d.globals=true/\(∀(i:Nat) (x:Ty),d.types[i]?=some x->qDB d x.name=(i:Int))/\∀x∈d.types,qCK d x.fields=true:=by
 unfold hasT at h
 rw[Bool.and_eq_true,Bool.and_eq_true,qCR]at h
 obtain⟨⟨-,h1⟩,h2⟩:=h
 refine⟨h1,fun i x hx=>?_,fun x hx=>?_⟩
 ·have:=h2 i x hx
  rw[Bool.and_eq_true,decide_eq_true_eq]at this
  exact this.1
 ·obtain⟨i,hi,rfl⟩:=List.mem_iff_getElem.1 hx
  have:=h2 i _ (List.getElem?_eq_getElem hi)
  rw[Bool.and_eq_true]at this
  exact this.2
theorem qAp(h:qAN d m=true):hasT d=true/\m.nodes.length<=4096/\(∀n∈m.nodes,qDb d n=true)/\qAg d m d.globals m.globals=true/\∀n∈m.nodes,qAg d m (qAx d n.ty) n.f=true:=by
 unfold qAN at h
 simp only[Bool.and_eq_true,List.all_eq_true,decide_eq_true_eq]at h
 exact⟨h.1.1.1.1,h.1.1.1.2,h.1.1.2,h.1.2,h.2⟩
theorem qFH{l:List Fld}{vs:List Int}(h:qAg d m l vs=true){i:Nat}{f:Fld}(hi:l[i]?=some f):∃v,vs[i]?=some v/\qAv d m f.ty v=true:=by
 unfold qAg at h
 rw[Bool.and_eq_true,decide_eq_true_eq,qCR]at h
 have hl:=(List.getElem?_eq_some_iff.1 hi).1
 have hv:vs[i]?=some (vs[i]'(by omega)):=List.getElem?_eq_getElem _
 refine⟨_,hv,?_⟩
 have:=h.2 i _ hv
 unfold tyAt at this
 rw[hi]at this
 exact this
theorem right_node{t:ByteArray}(hn:qAS t=true){a:Int}(h:qAv d m t a=true)(h0:a≠0):1<=a/\a<=(m.nodes.length:Int)/\∃n,m.nodes[(a-1).toNat]?=some n/\n∈m.nodes/\n.ty=qDB d t:=by
 unfold qAv at h
 rw[if_neg (qCI hn kwInt),if_neg (qCI hn kwBool),decide_eq_true_eq]at h
 rcases h with h|⟨h1,h2,h3⟩
 ·exact absurd h h0
 ·refine⟨h1,h2,?_⟩
  cases hx:m.nodes[(a-1).toNat]? with
  | none=>rw[hx]at h3;cases h3
  | some n=>rw[hx]at h3;exact⟨n,rfl,List.mem_of_getElem? hx,by simpa using h3⟩
theorem qHs{s:ByteArray}{t:Ty}(h:qJq d s=some t):∃i:Nat,qDB d s=(i:Int)/\d.types[i]?=some t/\t.name=s/\qAX d s=true:=by
 unfold qJq at h
 unfold qDB qAX
 rcases qAB (fun t:Ty=>decide (t.name=s)) d.types with⟨-,h2,-⟩|⟨i,x,h1,h2,h3,-,h5,-,h7,-⟩
 ·rw[h2]at h;cases h
 ·rw[h3]at h;cases h;exact⟨i,h1,h2,of_decide_eq_true h5,h7⟩
theorem fld_ok(G:qAr d m){t s ty:ByteArray}(ht:qBT d t s=(ty,0)){a:Int}(ha:qBq d m t a)(h0:a≠0) :
  ∃(n:Nd) (i j:Nat) (tt:Ty) (f:Fld) (v:Int),m.nodes[(a-1).toNat]?=some n/\n∈m.nodes/\1<=a/\a<=(m.nodes.length:Int)/\n.ty=(j:Int)/\d.types[j]?=some tt/\tt∈d.types/\qFi tt.fields s=i/\tt.fields[i]?=some f/\n.f[i]?=some v/\qBq d m ty v/\fldV d m a s=.ok v/\f.ty=ty:=by
 unfold qBT at ht
 cases hty:qJq d t with
 | none=>rw[hty]at ht;simp at ht
 | some tt =>
  rw[hty]at ht
  simp only at ht
  split at ht
  ·simp at ht
  ·rename_i hl
   simp only[Prod.mk.injEq,and_true]at ht
   obtain⟨j,hj,hj2,rfl,hnode⟩:=qHs hty
   have hname:=qDH G.valid hnode
   have ha':qAv d m tt.name a=true:=by
    unfold qBq at ha;rw[if_neg (qCI hname kwNil)]at ha;exact ha
   obtain⟨b1,b2,n,b3,b4,b5⟩:=right_node hname ha' h0
   rcases qEv tt.fields s with⟨c1,-⟩|⟨i,f,c1,c2,c3,c4⟩
   ·exact absurd c1 hl
   ·have hfo:qAx d n.ty=tt.fields:=qAW hj2 (b5.trans hj)
    obtain⟨p1,-,-,-,p5⟩:=qAp G.mem
    have hv:=p5 n b4
    rw[hfo]at hv
    obtain⟨v,hv1,hv2⟩:=qFH hv c2
    have hmem:=List.mem_of_getElem? hj2
    have hkn:qBh d f.ty=true:=List.all_eq_true.1 ((qBz p1).2.2 tt hmem) f (List.mem_of_getElem? c2)
    refine⟨n,i,j,tt,f,v,b3,b4,b1,b2,b5.trans hj,hj2,hmem,c1,c2,hv1,?_,?_,c3.symm.trans ht⟩
    ·rw[<- ht,c3];exact(qBk G.valid hkn).2 hv2
    ·unfold fldV
     rw[if_neg h0,b3]
     simp only
     rw[hfo,c1,Int.toNat_natCast,hv1];rfl
theorem qEU{α β:Type}{f:Nat->α->Option β}:∀{l:List α} {i:Nat},qAk f i l=none->∀j x,l[j]?=some x->f (i+j) x=none
 | [],_,_,j,x,hx=>by simp at hx
 | y::l,i,h,j,x,hx=>by
  unfold qAk at h
  cases hy:f i y with
  | some b=>rw[hy]at h;cases h
  | none =>
   rw[hy]at h
   cases j with
   | zero=>simp at hx;subst hx;exact hy
   | succ j=>rw[show i+(j+1)=i+1+j by omega];exact qEU h j x (by simpa using hx)
theorem or_none{α:Type}{a b:Option α}(h:a.or b=none):a=none/\b=none:=by
 cases a with
 | none=>exact⟨rfl,by simpa using h⟩
 | some x=>simp at h
end
end Go.Proofs
namespace Go.Proofs
open Go Go.Sx
section
variable{d:Ds}{m:Mm}
theorem big_ok{n v:Int}(h:big n=.ok v):v=n/\-1099511627776<=v/\v<=1099511627776:=by
 unfold big at h
 split at h
 ·cases h;rename_i h1;exact⟨rfl,h1⟩
 ·cases h
theorem trI_b(b:Bool):trI b=0∨trI b=1:=by cases b <;> simp[trI]
theorem qBL{ok:Bool}{t t':ByteArray}(h:qDs ok t=(t',0)):ok=true/\t=t':=by
 unfold qDs at h
 split at h
 ·rename_i h1;simp only[Prod.mk.injEq,and_true]at h;exact⟨h1,h⟩
 ·simp at h
theorem tdiv_in{a b:Int}(ha:-1099511627776<=a/\a<=1099511627776):-1099511627776<=a.tdiv b/\a.tdiv b<=1099511627776:=by
 have:=Int.natAbs_tdiv_le_natAbs a b
 omega
theorem tmod_in{a b:Int}(ha:-1099511627776<=a/\a<=1099511627776):-1099511627776<=a.tmod b/\a.tmod b<=1099511627776:=by
 have h1:=Int.natAbs_tmod a b
 have:=Nat.mod_le a.natAbs b.natAbs
 omega
theorem log_in{a:Int}(ha:a<=1099511627776):0<=qIX a/\qIX a<=1099511627776:=by
 unfold qIX
 have:Nat.log2 a.toNat<=a.toNat:=Nat.log2_le_self _
 omega
inductive Kind (d:Ds) (sc:Sc) (e:E):ByteArray->Prop where
 | int (h:e.op=1) (hn:0<=e.n/\e.n<=1099511627776):Kind d sc e qAP
 | bool (h:e.op=2) (hn:e.n=0∨e.n=1):Kind d sc e qAu
 | nil (h:e.op=3) (hn:e.n=0):Kind d sc e qJu
 | var {t} (h:e.op=4) (hl:qBF sc.vars e.s=t) (hne:t≠sE):Kind d sc e t
 | fld {t u} {a:E} (h:e.op=5) (hk:e.k=[a]) (ha:qAo d sc a=(u,0)) (ht:qBT d u e.s=(t,0)):Kind d sc e t
 | call {u} {a:E} {ms:Ms} {i:Nat} (h:e.op=7) (hk:e.k=[a]) (ha:qAo d sc a=(u,0)) (hi:mIdx d e.s=i) (hms:d.measures[i]?=some ms) (hf:fits d u ms.ty=true):Kind d sc e qAP
 | neg {a:E} (h:e.op=8) (hk:e.k=[a]) (ha:qAo d sc a=(qAP,0)):Kind d sc e qAP
 | not {a:E} (h:e.op=18) (hk:e.k=[a]) (ha:qAo d sc a=(qAu,0)):Kind d sc e qAu
 | log {a:E} (h:e.op=24) (hk:e.k=[a]) (ha:qAo d sc a=(qAP,0)):Kind d sc e qAP
 | and {a b:E} (h:e.op=19) (hk:e.k=[a,b]) (ha:qAo d sc a=(qAu,0)) (hb:qAo d sc b=(qAu,0)):Kind d sc e qAu
 | or {a b:E} (h:e.op=20) (hk:e.k=[a,b]) (ha:qAo d sc a=(qAu,0)) (hb:qAo d sc b=(qAu,0)):Kind d sc e qAu
 | cond {a b c:E} {t u w} (h:e.op=21) (hk:e.k=[a,b,c]) (ha:qAo d sc a=(qAu,0)) (hb:qAo d sc b=(u,0)) (hc:qAo d sc c=(w,0)) (hu:u=t∨fits d u t=true) (hw:w=t∨fits d w t=true):Kind d sc e t
 | eq {a b:E} {u w} (h:e.op=14∨e.op=15) (hk:e.k=[a,b]) (ha:qAo d sc a=(u,0)) (hb:qAo d sc b=(w,0)):Kind d sc e qAu
 | cmp {a b:E} (h:e.op=16∨e.op=17) (hk:e.k=[a,b]) (ha:qAo d sc a=(qAP,0)) (hb:qAo d sc b=(qAP,0)):Kind d sc e qAu
 | ari {a b:E} (h:e.op=9∨e.op=10∨e.op=11∨e.op=12∨e.op=13∨e.op=22∨e.op=23) (hk:e.k=[a,b]) (ha:qAo d sc a=(qAP,0)) (hb:qAo d sc b=(qAP,0)):Kind d sc e qAP
theorem allT1{t u:ByteArray}(h:allT [t] u=true):t=u:=by simpa [allT]using h
theorem allT2{t t' u:ByteArray}(h:allT [t,t'] u=true):t=u/\t'=u:=by simpa [allT]using h
theorem qBx{p:ByteArray×Int}{t:ByteArray}(h1:p.1=t)(h2:p.2=0):p=(t,0):=Prod.ext h1 h2
theorem kind{sc:Sc}(hsc:sc.body=false){e:E}{t:ByteArray}(hv:VE e)(ht:qAo d sc e=(t,0)):Kind d sc e t:=by
 obtain⟨hk,hn⟩:=qFo ht
 obtain⟨a1,a2,a3,a4⟩:=arityB hv.node
 unfold qHm at hn
 unfold numB at a4
 have one:qAR e.op=1->∃a,e.k=[a]:=fun h=>list1 ((a2 (by omega)).trans h)
 have two:qAR e.op=2->∃a b,e.k=[a,b]:=fun h=>list2 ((a2 (by omega)).trans h)
 have three:qAR e.op=3->∃a b c,e.k=[a,b,c]:=fun h=>list3 ((a2 (by omega)).trans h)
 by_cases h1:e.op=1
 ·rw[if_pos h1]at hn a4
  cases hn;exact .int h1 (of_decide_eq_true a4)
 rw[if_neg h1]at hn a4
 by_cases h2:e.op=2
 ·rw[if_pos h2]at hn a4
  cases hn;exact .bool h2 (of_decide_eq_true a4)
 rw[if_neg h2]at hn a4
 have a4:e.n=0:=of_decide_eq_true a4
 by_cases h3:e.op=3
 ·rw[if_pos h3]at hn
  cases hn;exact .nil h3 a4
 rw[if_neg h3]at hn
 by_cases h4:e.op=4
 ·rw[if_pos h4]at hn
  split at hn
  ·simp at hn
  ·rename_i hne
   simp only[Prod.mk.injEq,and_true]at hn
   exact .var h4 hn (hn ▸ hne)
 rw[if_neg h4]at hn
 by_cases h5:e.op=5
 ·obtain⟨a,ha⟩:=one (by rw[h5];rfl)
  rw[if_pos h5,ha]at hn
  rw[ha]at hk
  exact .fld h5 ha (qBx rfl (hk a (by simp))) hn
 rw[if_neg h5]at hn
 by_cases h6:e.op=6
 ·rw[if_pos h6,if_pos hsc]at hn
  simp at hn
 rw[if_neg h6]at hn
 by_cases h7:e.op=7
 ·rw[if_pos h7]at hn
  unfold qIQ at hn
  rw[if_neg (by rw[hsc];decide)]at hn
  unfold qJe meOf at hn
  unfold mIdx at *
  rcases qAB (fun x:Ms=>decide (x.name=e.s)) d.measures with⟨-,q2,-⟩|⟨i,ms,q1,q2,q3,-⟩
  ·rw[q2]at hn;simp at hn
  ·rw[q3]at hn
   simp only at hn
   split at hn
   ·simp at hn
   ·rename_i hl
    obtain⟨a,ha⟩:∃a,e.k=[a]:=list1 (by simp at hl;omega)
    rw[ha]at hn hk
    obtain⟨b1,rfl⟩:=qBL hn
    exact .call h7 ha (qBx rfl (hk a (by simp))) q1 q2 (by simpa using b1)
 rw[if_neg h7]at hn
 by_cases h14:e.op=14∨e.op=15
 ·obtain⟨a,b,hab⟩:=two (by rcases h14 with h|h <;> (rw[h];rfl))
  rw[if_pos h14]at hn
  rw[hab]at hk
  obtain⟨-,rfl⟩:=qBL hn
  exact .eq h14 hab (qBx rfl (hk a (by simp))) (qBx rfl (hk b (by simp)))
 rw[if_neg h14]at hn
 by_cases h16:e.op=16∨e.op=17
 ·obtain⟨a,b,hab⟩:=two (by rcases h16 with h|h <;> (rw[h];rfl))
  rw[if_pos h16,hab]at hn
  rw[hab]at hk
  obtain⟨g,rfl⟩:=qBL hn
  obtain⟨g1,g2⟩:=allT2 g
  exact .cmp h16 hab (qBx g1 (hk a (by simp))) (qBx g2 (hk b (by simp)))
 rw[if_neg h16]at hn
 by_cases h18:e.op=18∨e.op=19∨e.op=20
 ·rw[if_pos h18]at hn
  rcases h18 with h|h
  ·obtain⟨a,ha⟩:=one (by rw[h];rfl)
   rw[ha]at hn hk
   obtain⟨g,rfl⟩:=qBL hn
   exact .not h ha (qBx (allT1 g) (hk a (by simp)))
  ·obtain⟨a,b,hab⟩:=two (by rcases h with h|h <;> (rw[h];rfl))
   rw[hab]at hn hk
   obtain⟨g,rfl⟩:=qBL hn
   obtain⟨g1,g2⟩:=allT2 g
   rcases h with h|h
   ·exact .and h hab (qBx g1 (hk a (by simp))) (qBx g2 (hk b (by simp)))
   ·exact .or h hab (qBx g1 (hk a (by simp))) (qBx g2 (hk b (by simp)))
 rw[if_neg h18]at hn
 by_cases h21:e.op=21
 ·obtain⟨a,b,c,habc⟩:=three (by rw[h21];rfl)
  rw[if_pos h21,habc]at hn
  rw[habc]at hk
  obtain⟨g,g2⟩:=qBL hn
  simp only[List.map_cons,List.map_nil,List.getD_cons_zero,List.getD_cons_succ,Bool.and_eq_true,decide_eq_true_eq,Bool.or_eq_true]at g g2
  refine .cond h21 habc (qBx g.1 (hk a (by simp))) (qBx rfl (hk b (by simp))) (qBx rfl (hk c (by simp))) ?_ ?_
  ·split at g2
   ·rename_i g3
    subst g2
    rcases g.2 with g|g
    ·exact .inr g
    ·unfold fits at g ⊢
     simp only[Bool.or_eq_true,decide_eq_true_eq,Bool.and_eq_true]at g ⊢
     rcases g with g|g
     ·exact .inl g.symm
     ·exact .inl (g3.trans g.1.symm)
   ·exact .inl g2
  ·split at g2
   ·exact .inl g2
   ·rename_i g3
    subst g2
    rcases g.2 with g|g
    ·unfold fits at g ⊢
     simp only[Bool.or_eq_true,decide_eq_true_eq,Bool.and_eq_true]at g ⊢
     rcases g with g|g
     ·exact .inl g.symm
     ·exact absurd g.1 g3
    ·exact .inr g
 rw[if_neg h21]at hn
 obtain⟨g,rfl⟩:=qBL hn
 have hop:e.op=8∨e.op=24∨(e.op=9∨e.op=10∨e.op=11∨e.op=12∨e.op=13∨e.op=22∨e.op=23):=by
  unfold qAR at a1
  grind
 rcases hop with h|h|h
 ·obtain⟨a,ha⟩:=one (by rw[h];rfl)
  rw[ha]at g hk
  exact .neg h ha (qBx (allT1 g) (hk a (by simp)))
 ·obtain⟨a,ha⟩:=one (by rw[h];rfl)
  rw[ha]at g hk
  exact .log h ha (qBx (allT1 g) (hk a (by simp)))
 ·obtain⟨a,b,hab⟩:=two (by rcases h with h|h|h|h|h|h|h <;> (rw[h];rfl))
  rw[hab]at g hk
  obtain⟨g1,g2⟩:=allT2 g
  exact .ari h hab (qBx g1 (hk a (by simp))) (qBx g2 (hk b (by simp)))
theorem two_ok{op a b v:Int}(h:op=9∨op=10∨op=11∨op=12∨op=13∨op=22∨op=23)(ha:-1099511627776<=a/\a<=1099511627776)(hb:-1099511627776<=b/\b<=1099511627776)(hv:qCA op a b=.ok v):-1099511627776<=v/\v<=1099511627776:=by
 unfold qCA at hv
 split at hv
 ·exact(big_ok hv).2
 split at hv
 ·exact(big_ok hv).2
 split at hv
 ·exact(big_ok hv).2
 split at hv
 ·cases hv;split <;> assumption
 split at hv
 ·cases hv;split <;> assumption
 repeat' (split at hv;(first|omega|cases hv))
 ·exact tdiv_in ha
 ·cases hv;exact tmod_in ha
theorem twoB_ok{op a b v:Int}(h:op=14∨op=15∨op=16∨op=17)(hv:qCA op a b=.ok v):v=0∨v=1:=by
 rcases h with rfl|rfl|rfl|rfl
 ·have:trI (decide (a=b))=v:=by injection hv
  rw[<- this];exact trI_b _
 ·have:trI (!decide (a=b))=v:=by injection hv
  rw[<- this];exact trI_b _
 ·have:trI (decide (a<b))=v:=by injection hv
  rw[<- this];exact trI_b _
 ·have:trI (decide (a<=b))=v:=by injection hv
  rw[<- this];exact trI_b _
end
end Go.Proofs
namespace Go.Proofs
open Go Go.Sx
structure St where
 g:List Int
 ns:List (Int×List Int)
 tk:Nat
 cm:Nat
 lg:List (Int×Int×Int)
inductive Rx (α:Type) where
 | ok (v:α) (s:St)
 | bad (c:Int) (s:St)
def Rx.bind{α β:Type}:Rx α->(α->St->Rx β)->Rx β
 | .ok v s,f=>f v s
 | .bad c s,_=>.bad c s
def qAK:Sl:=⟨none,0,0⟩
def St.mm(s:St):Mm:=⟨qAK,s.g,qAK,s.ns.map fun n=>⟨n.1,qAK,n.2⟩⟩
def St.note(s:St)(a:Int×Int×Int):St:={ s with lg:=s.lg++[a] }
def noE:E:=.mk 0 0 sE qAK []
def qEs(d:Ds)(s:ByteArray):Int:=qHo (fun t=>decide (t.name=s)) d.procs
def qDh:Rs->St->Rx Int
 | .ok v,s=>.ok v s
 | .bad c,s=>.bad c s
def qGQ:List (St->Rx Int)->List Int->St->Rx (List Int)
 | [],acc,st=>.ok acc st
 | f::fs,acc,st=>(f st).bind fun v st=>qGQ fs (acc++[v]) st
def qDT(ks:List (St->Rx Int))(i:Nat):St->Rx Int:=ks.getD i fun st=>.bad 0 st
def _root_.Go.Sx.Pr.vars(p:Pr):List Fld:=p.params++p.locals
def qHM(b:Bool)(op:Int)(st:St):St:=if op=16∨op=17∨((op=14∨op=15)/\b=true) then { st with cm:=st.cm+1 } else st
abbrev Cf:=Int->List Int->St->Rx Int
abbrev Rt:=List Int×Option Int
abbrev Sf:=Nat->Pr->List S->List Int->St->Rx Rt
def qDD(F:Nat)(st:St):Rx Unit:=if F<=st.tk then .bad 20 st else .ok () { st with tk:=st.tk+1 }
section
variable(d:Ds)
def varX(p:Pr)(vals:List Int)(s:ByteArray)(st:St):Rx Int :=
 if 0<=qFi p.vars s then .ok ((vals[(qFi p.vars s).toNat]?).getD 0) st else .ok ((st.g[(qFi d.globals s).toNat]?).getD 0) (st.note (1,0,qFi d.globals s))
def fldX(a:Int)(s:ByteArray)(st:St):Rx Int :=
 if a=0 then .bad 17 st else match st.ns[(a-1).toNat]? with
  | none=>.bad 0 st
  | some n=>.ok ((n.2[(qFi (qAx d n.1) s).toNat]?).getD 0) (st.note (1,a,qFi (qAx d n.1) s))
def newX(s:ByteArray)(st:St):Rx Int :=
 if 4096<=st.ns.length then .bad 21 st else .ok ((st.ns.length:Int)+1) { st with ns:=st.ns++[(qDB d s,List.replicate (qAx d (qDB d s)).length 0)],lg:=st.lg++[(3,(st.ns.length:Int)+1,qDB d s)] }
def intB(sc:Sc):List E->Bool
 | []=>false
 | a::_=>decide ((qAo d sc a).1=qAP)
def qDy(C:Cf)(p:Pr)(vals:List Int)(b:Bool)(op n:Int)(s:ByteArray)(ks:List (St->Rx Int))(st:St):Rx Int :=
 if op=1∨op=2 then .ok n st else if op=3 then .ok 0 st else if op=4 then varX d p vals s st
 else if op=5 then (qDT ks 0 st).bind fun a st=>fldX d a s st
 else if op=6 then newX d s st
 else if op=7 then (qGQ ks [] st).bind fun l st=>C (qEs d s) l st
 else if op=8 then (qDT ks 0 st).bind fun a st=>qDh (big (-a)) st
 else if op=18 then (qDT ks 0 st).bind fun a st=>.ok (1-a) st
 else if op=24 then (qDT ks 0 st).bind fun a st=>.ok (qIX a) st
 else if op=19 then (qDT ks 0 st).bind fun a st=>if a=0 then .ok 0 st else qDT ks 1 st
 else if op=20 then (qDT ks 0 st).bind fun a st=>if a=0 then qDT ks 1 st else .ok 1 st
 else if op=21 then (qDT ks 0 st).bind fun a st=>if a=0 then qDT ks 2 st else qDT ks 1 st
 else (qDT ks 0 st).bind fun v st=>(qDT ks 1 st).bind fun w st=>qDh (qCA op v w) (qHM b op st)
mutual
def evX(C:Cf)(p:Pr)(vals:List Int):E->St->Rx Int
 | .mk op n s _ k=>qDy d C p vals (intB d (qAf d p) k) op n s (evXs C p vals k)
def evXs(C:Cf)(p:Pr)(vals:List Int):List E->List (St->Rx Int)
 | []=>[]
 | e::es=>evX C p vals e::evXs C p vals es
end
def qBY(Sn:Sf)(c:Nat)(i:Int)(args:List Int)(st:St):Rx Int :=
 if 200<=c then .bad 19 st else match d.procs[i.toNat]? with
  | none=>.bad 0 st
  | some p=>(Sn (c+1) p p.body (args++List.replicate p.locals.length 0) st).bind fun r st=>.ok (r.2.getD 0) st
def setX(p:Pr)(s:ByteArray)(v:Int)(vals:List Int)(st:St):Rx Rt :=
 if 0<=qFi p.vars s then .ok (vals.set (qFi p.vars s).toNat v,none) st else .ok (vals,none) { st with g:=st.g.set (qFi d.globals s).toNat v,lg:=st.lg++[(2,0,qFi d.globals s)] }
def putX(a v:Int)(s:ByteArray)(st:St):Rx Unit :=
 if a=0 then .bad 17 st else match st.ns[(a-1).toNat]? with
  | none=>.bad 0 st
  | some n=>.ok () { st with ns:=st.ns.set (a-1).toNat (n.1,n.2.set (qFi (qAx d n.1) s).toNat v),lg:=st.lg++[(2,a,qFi (qAx d n.1) s)] }
section
variable(F:Nat)(Sn:Sf)(c:Nat)(p:Pr)
def evS(vals:List Int)(e:E)(st:St):Rx Int:=evX d (qBY d Sn c) p vals e st
def whX(cond:E)(body:List S):Nat->List Int->St->Rx Rt
 | 0,_,st=>.bad 20 st
 | n+1,vals,st=>(evS d Sn c p vals cond st).bind fun a st=>if a=0 then .ok (vals,none) st else (Sn c p body vals st).bind fun r st=>match r.2 with
  | some _=>.ok r st
  | none=>(qDD F st).bind fun _ st=>whX cond body n r.1 st
def qFC(n:Nat)(s:S)(vals:List Int)(st:St):Rx Rt :=
 if s.op=1 then (evS d Sn c p vals (s.es.getD 0 noE) st).bind fun v st=>setX d p s.s v vals st
 else if s.op=2 then (evS d Sn c p vals (s.es.getD 0 noE) st).bind fun a st=>(evS d Sn c p vals (s.es.getD 1 noE) st).bind fun v st=>(putX d a v s.s st).bind fun _ st=>.ok (vals,none) st
 else if s.op=3 then (evS d Sn c p vals (s.es.getD 0 noE) st).bind fun a st=>if a=0 then Sn c p s.xs vals st else Sn c p s.ls vals st
 else if s.op=4 then whX d F Sn c p (s.es.getD 0 noE) s.ls n vals st
 else if s.op=5 then match s.es with
  | []=>.ok (vals,some 0) st
  | e::_=>(evS d Sn c p vals e st).bind fun v st=>.ok (vals,some v) st
 else if s.op=6 then (evS d Sn c p vals (s.es.getD 0 noE) st).bind fun _ st=>.ok (vals,none) st
 else .ok (vals,none) st
def stX(n:Nat)(s:S)(vals:List Int)(st:St):Rx Rt:=(qDD F st).bind fun _ st=>qFC d F Sn c p n s vals st
end
def qDK(f:S->List Int->St->Rx Rt):List S->List Int->St->Rx Rt
 | [],vals,st=>.ok (vals,none) st
 | s::l,vals,st=>(f s vals st).bind fun r st=>match r.2 with
  | some _=>.ok r st
  | none=>qDK f l r.1 st
def qCe(F:Nat):Nat->Sf
 | 0=>fun _ _ _ _ st=>.bad 20 st
 | n+1=>fun c p l vals st=>qDK (stX d F (qCe F n) c p (n+1)) l vals st
def qFa(F:Nat)(i:Int)(args:List Int)(st:St):Rx Int:=qBY d (qCe d F (F+1)) 0 i args st
end
variable{d:Ds}
theorem evXs_map(C:Cf)(p:Pr)(vals:List Int):∀k:List E,evXs d C p vals k=k.map (evX d C p vals)
 | []=>by unfold evXs;rfl
 | e::es=>by unfold evXs;rw[evXs_map C p vals es];rfl
theorem qFk(C:Cf)(p:Pr)(vals:List Int)(e:E)(st:St):evX d C p vals e st=qDy d C p vals (intB d (qAf d p) e.k) e.op e.n e.s (e.k.map (evX d C p vals)) st:=by
 cases e;unfold evX;rw[evXs_map];rfl
theorem qIA{f:E->St->Rx Int}{k:List E}{i:Nat}{e:E}(h:k[i]?=some e):qDT (k.map f) i=f e:=by
 unfold qDT
 rw[List.getD_eq_getElem?_getD,List.getElem?_map,h];rfl
section
variable{C:Cf}{p:Pr}{vals:List Int}{b:Bool}{op n:Int}{s:ByteArray}{ks:List (St->Rx Int)}{st:St}
theorem cX1(h:op=1∨op=2):qDy d C p vals b op n s ks st=.ok n st:=by rcases h with rfl|rfl <;> rfl
theorem cX3(h:op=3):qDy d C p vals b op n s ks st=.ok 0 st:=by subst h;rfl
theorem cX4(h:op=4):qDy d C p vals b op n s ks st=varX d p vals s st:=by subst h;rfl
theorem cX5(h:op=5):qDy d C p vals b op n s ks st=(qDT ks 0 st).bind fun a st=>fldX d a s st:=by subst h;rfl
theorem cX6(h:op=6):qDy d C p vals b op n s ks st=newX d s st:=by subst h;rfl
theorem cX7(h:op=7):qDy d C p vals b op n s ks st=(qGQ ks [] st).bind fun l st=>C (qEs d s) l st:=by subst h;rfl
theorem cX8(h:op=8):qDy d C p vals b op n s ks st=(qDT ks 0 st).bind fun a st=>qDh (big (-a)) st:=by subst h;rfl
theorem cX18(h:op=18):qDy d C p vals b op n s ks st=(qDT ks 0 st).bind fun a st=>.ok (1-a) st:=by subst h;rfl
theorem cX24(h:op=24):qDy d C p vals b op n s ks st=(qDT ks 0 st).bind fun a st=>.ok (qIX a) st:=by subst h;rfl
theorem cX19(h:op=19):qDy d C p vals b op n s ks st=(qDT ks 0 st).bind fun a st=>if a=0 then .ok 0 st else qDT ks 1 st:=by subst h;rfl
theorem cX20(h:op=20):qDy d C p vals b op n s ks st=(qDT ks 0 st).bind fun a st=>if a=0 then qDT ks 1 st else .ok 1 st:=by subst h;rfl
theorem cX21(h:op=21):qDy d C p vals b op n s ks st=(qDT ks 0 st).bind fun a st=>if a=0 then qDT ks 2 st else qDT ks 1 st:=by subst h;rfl
theorem qFg(h:9<=op/\op<=23/\op≠18/\op≠19/\op≠20/\op≠21):qDy d C p vals b op n s ks st=(qDT ks 0 st).bind fun v st=>(qDT ks 1 st).bind fun w st=>qDh (qCA op v w) (qHM b op st):=by
 unfold qDy
 rw[if_neg (by omega),if_neg (by omega),if_neg (by omega),if_neg (by omega),if_neg (by omega),if_neg (by omega),if_neg (by omega),if_neg (by omega),if_neg (by omega),if_neg (by omega),if_neg (by omega),if_neg (by omega)]
end
end Go.Proofs
namespace Go.Proofs
open Go Go.Sx
section
variable{d:Ds}{sc:Sc}{e:E}{p:Pr}
structure CallK (d:Ds) (sc:Sc) (e:E) (pr:Pr) (i:Nat):Prop where
 idx:qEs d e.s=i
 at_:d.procs[i]?=some pr
 len:e.k.length=pr.params.length
 fit:∀(j:Nat) a f,e.k[j]?=some a->pr.params[j]?=some f->∃u,qAo d sc a=(u,0)/\fits d u f.ty=true
theorem fitAll_at:∀{l:List ByteArray} {fs:List Fld},qDO d l fs=true->∀(j:Nat) a f,l[j]?=some a->fs[j]?=some f->fits d a f.ty=true
 | [],_,_,j,a,f,h,_=>by simp at h
 | _::_,[],_,j,a,f,_,h=>by simp at h
 | b::l,g::fs,h,j,a,f,h1,h2=>by
  unfold qDO at h
  rw[Bool.and_eq_true]at h
  cases j with
  | zero=>simp at h1 h2;subst h1;subst h2;exact h.1
  | succ j=>exact fitAll_at h.2 j a f (by simpa using h1) (by simpa using h2)
theorem callT_ok{s t:ByteArray}{l:List ByteArray}(h:qGG d s l=(t,0)):∃(pr:Pr) (i:Nat),qEs d s=i/\d.procs[i]?=some pr/\l.length=pr.params.length/\qDO d l pr.params=true/\t=pr.result:=by
 unfold qGG qFE at h
 unfold qEs
 rcases qAB (fun x:Pr=>decide (x.name=s)) d.procs with⟨-,q2,-⟩|⟨i,pr,q1,q2,q3,-⟩
 ·rw[q2]at h;simp at h
 ·rw[q3]at h
  simp only at h
  split at h
  ·simp at h
  ·rename_i hl
   split at h
   ·rename_i hf
    simp only[Prod.mk.injEq,and_true]at h
    exact⟨pr,i,q1,q2,by simpa using hl,hf,h.symm⟩
   ·simp at h
theorem callK_of(hk:∀x∈e.k,(qAo d sc x).2=0){t:ByteArray}(h:qGG d e.s (e.k.map fun x=>(qAo d sc x).1)=(t,0)):∃pr i,CallK d sc e pr i/\t=pr.result:=by
 obtain⟨pr,i,h1,h2,h3,h4,h5⟩:=callT_ok h
 refine⟨pr,i,⟨h1,h2,by simpa using h3,fun j a f ha hf=>⟨(qAo d sc a).1,qBx rfl (hk a (List.mem_of_getElem? ha)),fitAll_at h4 j _ f (by simp[ha]) hf⟩⟩,h5⟩
inductive qEm (d:Ds) (sc:Sc) (e:E):ByteArray->Prop where
 | int (h:e.op=1) (hn:0<=e.n/\e.n<=1099511627776):qEm d sc e qAP
 | bool (h:e.op=2) (hn:e.n=0∨e.n=1):qEm d sc e qAu
 | nil (h:e.op=3) (hn:e.n=0):qEm d sc e qJu
 | var {t} (h:e.op=4) (hl:qBF sc.vars e.s=t) (hne:t≠sE):qEm d sc e t
 | fld {t u} {a:E} (h:e.op=5) (hk:e.k=[a]) (ha:qAo d sc a=(u,0)) (ht:qBT d u e.s=(t,0)):qEm d sc e t
 | new (h:e.op=6) (hn:qAX d e.s=true):qEm d sc e e.s
 | call {pr:Pr} {i:Nat} (h:e.op=7) (hc:CallK d sc e pr i) (hr:pr.result≠sE):qEm d sc e pr.result
 | neg {a:E} (h:e.op=8) (hk:e.k=[a]) (ha:qAo d sc a=(qAP,0)):qEm d sc e qAP
 | not {a:E} (h:e.op=18) (hk:e.k=[a]) (ha:qAo d sc a=(qAu,0)):qEm d sc e qAu
 | log {a:E} (h:e.op=24) (hk:e.k=[a]) (ha:qAo d sc a=(qAP,0)):qEm d sc e qAP
 | and {a b:E} (h:e.op=19) (hk:e.k=[a,b]) (ha:qAo d sc a=(qAu,0)) (hb:qAo d sc b=(qAu,0)):qEm d sc e qAu
 | or {a b:E} (h:e.op=20) (hk:e.k=[a,b]) (ha:qAo d sc a=(qAu,0)) (hb:qAo d sc b=(qAu,0)):qEm d sc e qAu
 | cond {a b c:E} {t u w} (h:e.op=21) (hk:e.k=[a,b,c]) (ha:qAo d sc a=(qAu,0)) (hb:qAo d sc b=(u,0)) (hc:qAo d sc c=(w,0)) (hu:u=t∨fits d u t=true) (hw:w=t∨fits d w t=true) (ht:t=if u=qJu then w else u):qEm d sc e t
 | eq {a b:E} {u w} (h:e.op=14∨e.op=15) (hk:e.k=[a,b]) (ha:qAo d sc a=(u,0)) (hb:qAo d sc b=(w,0)) (hf:fits d u w=true∨fits d w u=true):qEm d sc e qAu
 | cmp {a b:E} (h:e.op=16∨e.op=17) (hk:e.k=[a,b]) (ha:qAo d sc a=(qAP,0)) (hb:qAo d sc b=(qAP,0)):qEm d sc e qAu
 | ari {a b:E} (h:e.op=9∨e.op=10∨e.op=11∨e.op=12∨e.op=13∨e.op=22∨e.op=23) (hk:e.k=[a,b]) (ha:qAo d sc a=(qAP,0)) (hb:qAo d sc b=(qAP,0)):qEm d sc e qAP
theorem kindX(hsc:sc.body=true){t:ByteArray}(hv:VE e)(ht:qAo d sc e=(t,0)):qEm d sc e t:=by
 obtain⟨hk,hn⟩:=qFo ht
 obtain⟨a1,a2,a3,a4⟩:=arityB hv.node
 unfold qHm at hn
 unfold numB at a4
 have one:qAR e.op=1->∃a,e.k=[a]:=fun h=>list1 ((a2 (by omega)).trans h)
 have two:qAR e.op=2->∃a b,e.k=[a,b]:=fun h=>list2 ((a2 (by omega)).trans h)
 have three:qAR e.op=3->∃a b c,e.k=[a,b,c]:=fun h=>list3 ((a2 (by omega)).trans h)
 by_cases h1:e.op=1
 ·rw[if_pos h1]at hn a4
  cases hn;exact .int h1 (of_decide_eq_true a4)
 rw[if_neg h1]at hn a4
 by_cases h2:e.op=2
 ·rw[if_pos h2]at hn a4
  cases hn;exact .bool h2 (of_decide_eq_true a4)
 rw[if_neg h2]at hn a4
 have a4:e.n=0:=of_decide_eq_true a4
 by_cases h3:e.op=3
 ·rw[if_pos h3]at hn
  cases hn;exact .nil h3 a4
 rw[if_neg h3]at hn
 by_cases h4:e.op=4
 ·rw[if_pos h4]at hn
  split at hn
  ·simp at hn
  ·rename_i hne
   simp only[Prod.mk.injEq,and_true]at hn
   exact .var h4 hn (hn ▸ hne)
 rw[if_neg h4]at hn
 by_cases h5:e.op=5
 ·obtain⟨a,ha⟩:=one (by rw[h5];rfl)
  rw[if_pos h5,ha]at hn
  rw[ha]at hk
  exact .fld h5 ha (qBx rfl (hk a (by simp))) hn
 rw[if_neg h5]at hn
 by_cases h6:e.op=6
 ·rw[if_pos h6,if_neg (by rw[hsc];decide)]at hn
  split at hn
  ·simp at hn
  ·rename_i hno
   simp only[Prod.mk.injEq,and_true]at hn
   subst hn
   exact .new h6 (by simpa using hno)
 rw[if_neg h6]at hn
 by_cases h7:e.op=7
 ·rw[if_pos h7]at hn
  unfold qIQ at hn
  rw[if_pos hsc]at hn
  split at hn
  ·simp at hn
  ·rename_i hne
   obtain⟨pr,i,hc,rfl⟩:=callK_of hk hn
   exact .call h7 hc fun h=>hne ⟨by rw[hn],by rw[hn];exact h⟩
 rw[if_neg h7]at hn
 by_cases h14:e.op=14∨e.op=15
 ·obtain⟨a,b,hab⟩:=two (by rcases h14 with h|h <;> (rw[h];rfl))
  rw[if_pos h14,hab]at hn
  rw[hab]at hk
  obtain⟨g,rfl⟩:=qBL hn
  exact .eq h14 hab (qBx rfl (hk a (by simp))) (qBx rfl (hk b (by simp))) (by simpa using g)
 rw[if_neg h14]at hn
 by_cases h16:e.op=16∨e.op=17
 ·obtain⟨a,b,hab⟩:=two (by rcases h16 with h|h <;> (rw[h];rfl))
  rw[if_pos h16,hab]at hn
  rw[hab]at hk
  obtain⟨g,rfl⟩:=qBL hn
  obtain⟨g1,g2⟩:=allT2 g
  exact .cmp h16 hab (qBx g1 (hk a (by simp))) (qBx g2 (hk b (by simp)))
 rw[if_neg h16]at hn
 by_cases h18:e.op=18∨e.op=19∨e.op=20
 ·rw[if_pos h18]at hn
  rcases h18 with h|h
  ·obtain⟨a,ha⟩:=one (by rw[h];rfl)
   rw[ha]at hn hk
   obtain⟨g,rfl⟩:=qBL hn
   exact .not h ha (qBx (allT1 g) (hk a (by simp)))
  ·obtain⟨a,b,hab⟩:=two (by rcases h with h|h <;> (rw[h];rfl))
   rw[hab]at hn hk
   obtain⟨g,rfl⟩:=qBL hn
   obtain⟨g1,g2⟩:=allT2 g
   rcases h with h|h
   ·exact .and h hab (qBx g1 (hk a (by simp))) (qBx g2 (hk b (by simp)))
   ·exact .or h hab (qBx g1 (hk a (by simp))) (qBx g2 (hk b (by simp)))
 rw[if_neg h18]at hn
 by_cases h21:e.op=21
 ·obtain⟨a,b,c,habc⟩:=three (by rw[h21];rfl)
  rw[if_pos h21,habc]at hn
  rw[habc]at hk
  obtain⟨g,g2⟩:=qBL hn
  simp only[List.map_cons,List.map_nil,List.getD_cons_zero,List.getD_cons_succ,Bool.and_eq_true,decide_eq_true_eq,Bool.or_eq_true]at g g2
  refine .cond h21 habc (qBx g.1 (hk a (by simp))) (qBx rfl (hk b (by simp))) (qBx rfl (hk c (by simp))) ?_ ?_ g2.symm
  ·split at g2
   ·rename_i g3
    subst g2
    rcases g.2 with g|g
    ·exact .inr g
    ·unfold fits at g ⊢
     simp only[Bool.or_eq_true,decide_eq_true_eq,Bool.and_eq_true]at g ⊢
     rcases g with g|g
     ·exact .inl g.symm
     ·exact .inl (g3.trans g.1.symm)
   ·exact .inl g2
  ·split at g2
   ·exact .inl g2
   ·rename_i g3
    subst g2
    rcases g.2 with g|g
    ·unfold fits at g ⊢
     simp only[Bool.or_eq_true,decide_eq_true_eq,Bool.and_eq_true]at g ⊢
     rcases g with g|g
     ·exact .inl g.symm
     ·exact absurd g.1 g3
    ·exact .inr g
 rw[if_neg h21]at hn
 obtain⟨g,rfl⟩:=qBL hn
 have hop:e.op=8∨e.op=24∨(e.op=9∨e.op=10∨e.op=11∨e.op=12∨e.op=13∨e.op=22∨e.op=23):=by
  unfold qAR at a1
  grind
 rcases hop with h|h|h
 ·obtain⟨a,ha⟩:=one (by rw[h];rfl)
  rw[ha]at g hk
  exact .neg h ha (qBx (allT1 g) (hk a (by simp)))
 ·obtain⟨a,ha⟩:=one (by rw[h];rfl)
  rw[ha]at g hk
  exact .log h ha (qBx (allT1 g) (hk a (by simp)))
 ·obtain⟨a,b,hab⟩:=two (by rcases h with h|h|h|h|h|h|h <;> (rw[h];rfl))
  rw[hab]at g hk
  obtain⟨g1,g2⟩:=allT2 g
  exact .ari h hab (qBx g1 (hk a (by simp))) (qBx g2 (hk b (by simp)))
def TyS(d:Ds)(p:Pr)(s:S):Prop:=(∃n,(stT d (qAf d p) p.result n s).2=0)/\∃k,okS k s=true
theorem qHw{res:ByteArray}:∀{l:List S} {n:Int},(qBS d sc res n l).2=0->∀s∈l,∃n',(stT d sc res n' s).2=0
 | [],_,_,s,hs=>by cases hs
 | x::l,n,h,s,hs=>by
  rw[qFL]at h
  split at h
  ·rename_i h';exact absurd h h'
  ·rename_i h'
   rcases List.mem_cons.1 hs with rfl|hs
   ·exact⟨n,by simpa using h'⟩
   ·exact qHw h s hs
theorem qHA{k:Int}:∀{l:List S},qHB k l=true->∀s∈l,okS k s=true
 | [],_,s,hs=>by cases hs
 | x::l,h,s,hs=>by
  unfold qHB at h
  rw[Bool.and_eq_true]at h
  rcases List.mem_cons.1 hs with rfl|hs
  ·exact h.1
  ·exact qHA h.2 s hs
theorem okS_eq(k:Int)(s:S):okS k s=(decide (k<=60)&&qCb s.op s.s s.es s.ls.length s.xs.length&&qHB (k+1) s.ls&&qHB (k+1) s.xs):=by cases s;unfold okS;rfl
theorem TyS.parts{s:S}(h:TyS d p s):qEZ d (qAf d p) p.result s.op s.s s.es=0/\qGP s.op s.s s.es s.ls.length s.xs.length=true/\(∀e∈s.es,qAO e=true)/\(∀x∈s.ls,TyS d p x)/\∀x∈s.xs,TyS d p x:=by
 obtain⟨⟨n,h1⟩,k,h2⟩:=h
 rw[okS_eq]at h2
 simp only[Bool.and_eq_true]at h2
 obtain⟨⟨⟨-,h3⟩,h4⟩,h5⟩:=h2
 unfold qCb at h3
 rw[Bool.and_eq_true,List.all_eq_true]at h3
 rw[stT_eq]at h1
 split at h1
 ·rename_i h';exact absurd h1 h'
 ·rename_i h'
  split at h1
  ·rename_i h6;exact absurd h1 h6
  ·rename_i h6
   exact⟨by simpa using h',h3.1,h3.2,fun x hx=>⟨qHw (by simpa using h6) x hx,_,qHA h4 x hx⟩,fun x hx=>⟨qHw h1 x hx,_,qHA h5 x hx⟩⟩
inductive KindS (d:Ds) (p:Pr) (s:S):Prop where
 | set {e:E} {u t:ByteArray} (h:s.op=1) (he:s.es=[e]) (hv:qAO e=true) (ht:qAo d (qAf d p) e=(u,0)) (hl:qBF (qAf d p).vars s.s=t) (hne:t≠sE) (hf:fits d u t=true)
 | put {a e:E} {u w t:ByteArray} (h:s.op=2) (he:s.es=[a,e]) (hv:qAO a=true) (hw:qAO e=true) (ha:qAo d (qAf d p) a=(u,0)) (ht:qAo d (qAf d p) e=(w,0)) (hl:qBT d u s.s=(t,0)) (hf:fits d w t=true)
 | cond {e:E} (h:s.op=3) (he:s.es=[e]) (hv:qAO e=true) (ht:qAo d (qAf d p) e=(qAu,0))
 | loop {e:E} (h:s.op=4) (he:s.es=[e]) (hv:qAO e=true) (ht:qAo d (qAf d p) e=(qAu,0))
 | ret0 (h:s.op=5) (he:s.es=[]) (hr:p.result=sE)
 | ret1 {e:E} {u:ByteArray} (h:s.op=5) (he:s.es=[e]) (hv:qAO e=true) (ht:qAo d (qAf d p) e=(u,0)) (hr:p.result≠sE) (hf:fits d u p.result=true)
 | call {e:E} {pr:Pr} {i:Nat} (h:s.op=6) (he:s.es=[e]) (hv:qAO e=true) (ho:e.op=7) (hc:CallK d (qAf d p) e pr i)
theorem kindS{s:S}(h:TyS d p s):KindS d p s:=by
 obtain⟨h1,h2,h3,-⟩:=h.parts
 unfold qEZ at h1
 unfold qGP at h2
 by_cases o6:s.op=6
 ·rw[if_pos o6]at h1
  rw[if_neg (by omega),if_neg (by omega),if_neg (by omega),if_neg (by omega),if_neg (by omega),if_pos o6]at h2
  obtain⟨-,h4,h5,-⟩:=of_decide_eq_true h2
  obtain⟨e,he⟩:=list1 h4
  rw[he]at h1 h5
  simp only at h1
  split at h1
  ·rename_i h';exact absurd h1 h'
  ·rename_i h'
   obtain⟨q1,q2⟩:=qEO d (qAf d p) e.k [] (by simpa using h')
   rw[q2,List.nil_append]at h1
   obtain⟨pr,i,hc,-⟩:=callK_of (t:=(qGG d e.s (e.k.map fun x=>(qAo d (qAf d p) x).1)).1) q1 (Prod.ext rfl h1)
   exact .call o6 he (h3 e (by rw[he];simp)) h5 hc
 rw[if_neg o6]at h1
 split at h1
 ·rename_i h';exact absurd h1 h'
 rename_i h'
 obtain⟨q1,q2⟩:=qEO d (qAf d p) s.es [] (by simpa using h')
 rw[q2,List.nil_append]at h1
 have ty:∀{e:E},e∈s.es->qAo d (qAf d p) e=((qAo d (qAf d p) e).1,0):=fun he=>qBx rfl (q1 _ he)
 by_cases o1:s.op=1
 ·rw[if_pos o1]at h1
  rw[if_pos o1,Bool.and_eq_true]at h2
  obtain⟨e,he⟩:=list1 (of_decide_eq_true h2.2).1
  have hm:e∈s.es:=by rw[he];simp
  split at h1
  ·cases h1
  rename_i hne
  split at h1
  ·rename_i hf
   rw[he]at hf
   exact .set o1 he (h3 e hm) (ty hm) rfl hne hf
  ·cases h1
 rw[if_neg o1]at h1 h2
 by_cases o2:s.op=2
 ·rw[if_pos o2]at h1
  rw[if_pos o2,Bool.and_eq_true]at h2
  obtain⟨a,e,he⟩:=list2 (of_decide_eq_true h2.2).1
  have hm:a∈s.es:=by rw[he];simp
  have hm2:e∈s.es:=by rw[he];simp
  split at h1
  ·rename_i h4;exact absurd h1 h4
  rename_i h4
  split at h1
  ·rename_i hf
   rw[he]at hf h4
   simp only[List.map_cons,List.getD_cons_zero,List.getD_cons_succ]at hf h4
   exact .put o2 he (h3 a hm) (h3 e hm2) (ty hm) (ty hm2) (Prod.ext rfl (by simpa using h4)) hf
  ·cases h1
 rw[if_neg o2]at h1 h2
 by_cases o3:s.op=3
 ·rw[if_pos (.inl o3)]at h1
  rw[if_pos o3]at h2
  obtain⟨e,he⟩:=list1 (of_decide_eq_true h2).2
  have hm:e∈s.es:=by rw[he];simp
  split at h1
  ·rename_i hf
   rw[he]at hf
   exact .cond o3 he (h3 e hm) (qBx hf (q1 e hm))
  ·cases h1
 rw[if_neg o3]at h2
 by_cases o4:s.op=4
 ·rw[if_pos (.inr o4)]at h1
  rw[if_pos o4]at h2
  obtain⟨e,he⟩:=list1 (of_decide_eq_true h2).2.1
  have hm:e∈s.es:=by rw[he];simp
  split at h1
  ·rename_i hf
   rw[he]at hf
   exact .loop o4 he (h3 e hm) (qBx hf (q1 e hm))
  ·cases h1
 rw[if_neg (by omega)]at h1
 rw[if_neg o4]at h2
 by_cases o5:s.op=5
 ·rw[if_pos o5]at h1 h2
  obtain⟨-,hl,-⟩:=of_decide_eq_true h2
  cases he:s.es with
  | nil =>
   rw[he]at h1
   simp only[List.map_nil,List.length_nil,if_true]at h1
   split at h1
   ·rename_i hr;exact .ret0 o5 he hr
   ·cases h1
  | cons e r =>
   have hr:r=[]:=by
    rw[he]at hl
    cases r with
    | nil=>rfl
    | cons _ _=>simp at hl;omega
   subst hr
   have hm:e∈s.es:=by rw[he];simp
   rw[he]at h1
   simp only[List.map_cons,List.map_nil,List.length_cons,List.length_nil,List.getD_cons_zero]at h1
   rw[if_neg (by omega)]at h1
   split at h1
   ·rename_i hf;exact .ret1 o5 he (h3 e hm) (ty hm) hf.1 hf.2
   ·cases h1
 ·rw[if_neg o5,if_neg o6]at h2
  cases h2
structure qBu (d:Ds) (p:Pr):Prop where
 body:∀s∈p.body,TyS d p s
 vars:∀f∈p.vars,qBh d f.ty=true
 res:p.result=sE∨qBh d p.result=true
 lens:p.params.length<=6/\p.locals.length<=12
theorem oneT_known{l:List Fld}{i:Nat}{f:Fld}(h:qEP d l i f=0):qBh d f.ty=true:=by
 unfold qEP at h
 split at h
 ·cases h
 ·split at h
  ·assumption
  ·cases h
theorem declT_known{l:List Fld}(h:qCJ d l=0):∀f∈l,qBh d f.ty=true:=by
 intro f hf
 obtain⟨i,hi⟩:=List.mem_iff_getElem?.1 hf
 unfold qCJ at h
 cases hq:qAk (fun i f=>if qEP d l i f≠0 then some (qEP d l i f) else none) 0 l with
 | none =>
  have:=qEU hq i f hi
  split at this
  ·cases this
  ·rename_i h';exact oneT_known (i:=0+i) (by simpa using h')
 | some b =>
  exfalso
  rw[hq]at h
  simp only[Option.getD_some]at h
  subst h
  have key:∀(l':List Fld) (i:Nat),qAk (fun i f=>if qEP d l i f≠0 then some (qEP d l i f) else none) i l'≠some 0:=by
   intro l'
   induction l' with
   | nil=>intro i h;cases h
   | cons x l' ih =>
    intro i h
    unfold qAk at h
    by_cases hx:qEP d l i x=0
    ·simp only[hx,ne_eq,not_true_eq_false,if_false]at h;exact ih _ h
    ·simp only[ne_eq,hx,not_false_eq_true,if_true,Option.some.injEq]at h
  exact key l 0 hq
theorem qEM(hv:qAT d=true)(hc:qJR d=none):∀p∈d.procs,qBu d p:=by
 intro p hp
 obtain⟨i,hi⟩:=List.mem_iff_getElem?.1 hp
 unfold qJR at hc
 obtain⟨-,h⟩:=or_none hc
 obtain⟨hh,h⟩:=or_none h
 obtain⟨-,h⟩:=or_none h
 obtain⟨hb,-⟩:=or_none h
 unfold qFY at hh
 unfold qDA at hb
 have a1:=qEU hh i p hi
 have a2:=qEU hb i p hi
 unfold qAT at hv
 simp only[Bool.and_eq_true,List.all_eq_true]at hv
 have hpb:=hv.1.2 p hp
 unfold prB at hpb
 simp only[Bool.and_eq_true]at hpb
 obtain⟨⟨⟨⟨-,f1⟩,f2⟩,-⟩,hs⟩:=hpb
 unfold qDN at f1 f2
 rw[Bool.and_eq_true,decide_eq_true_eq]at f1 f2
 have l1:=f1.1
 have l2:=f2.1
 refine⟨fun s hsm=>⟨?_,1,qHA (of_decide_eq_true hs).1 s hsm⟩,?_,?_,by omega,by omega⟩
 ·split at a2
  ·cases a2
  ·rename_i h';exact qHw (by simpa using h') s hsm
 ·split at a1
  ·cases a1
  split at a1
  ·cases a1
  rename_i h'
  have h':qCJ d (p.params++p.locals)=0:=by simpa using h'
  exact declT_known h'
 ·split at a1
  ·cases a1
  split at a1
  ·cases a1
  split at a1
  ·cases a1
  rename_i h'
  by_cases hr:p.result=sE
  ·exact .inl hr
  ·right
   cases hk:qBh d p.result with
   | true=>rfl
   | false=>exact absurd ⟨hr,hk⟩ h'
end
end Go.Proofs
