/- Part 10 of a proof of a law of this seat: no statement of the seat is proved here. -/
import Derived.Test.YtginfholjbbgeaaGreatDoorPart09
set_option linter.unusedVariables false
set_option linter.unusedSimpArgs false
namespace Go.Proofs
open Go Go.Sx
attribute [local irreducible] Go.Sx.Tri
structure qBw (V:Mem) (c:Option Addr) (d:Ds):Prop where
 at_:∃cb mt mp t,c=some ⟨cb,0,none⟩/\V cb=some (.cells (d.row++[Value.map (some mt),Value.map (some mp)]).toArray t (0,0))/\qAZ V mt (fun k=>(qIm d k).map Ty.v)/\qAZ V mp (fun k=>(qHp d k).map Pr.v)
 ok:Ds.Ok V d
theorem qBw.sub{V V':Mem}{c:Option Addr}{d:Ds}(h:qBw V c d)(hs:V.sub V'):qBw V' c d:=by
 obtain⟨cb,mt,mp,t,h1,h2,h3,h4⟩:=h.at_
 exact⟨⟨cb,mt,mp,t,h1,hs _ _ h2,h3.sub hs,h4.sub hs⟩,h.ok.sub hs⟩
theorem qBw.nn{V:Mem}{c:Option Addr}{d:Ds}(h:qBw V c d):¬(c=none):=by
 obtain⟨cb,mt,mp,t,h1,h2,h3,h4⟩:=h.at_
 rw[h1];simp
theorem qBw.cell{V:Mem}{c:Option Addr}{d:Ds}(h:qBw V c d){i:Nat}{v:Value}(hv:(d.row)[i]?=some v):V.rowp c (i*1) 1=some [v]:=by
 obtain⟨cb,mt,mp,t,h1,h2,h3,h4⟩:=h.at_
 rw[h1,Nat.mul_one]
 have hi:=(List.getElem?_eq_some_iff.1 hv).1
 have h8:d.row.length=8:=rfl
 rw[qAd h2 i 1 (by simp;omega)]
 have:(d.row++[Value.map (some mt),Value.map (some mp)])[i]?=some v:=by rw[List.getElem?_append_left hi];exact hv
 have hl:i<(d.row++[Value.map (some mt),Value.map (some mp)]).length:=by rw[List.length_append];omega
 show some (((d.row++[Value.map (some mt),Value.map (some mp)]).drop i).take 1)=_
 rw[List.drop_eq_getElem_cons hl,(List.getElem?_eq_some_iff.1 this).2]
 rfl
theorem qBw.types{V:Mem}{c:Option Addr}{d:Ds}(h:qBw V c d):∃mt,V.rowp c 8 1=some [.map (some mt)]/\qAZ V mt (fun k=>(qIm d k).map Ty.v):=by
 obtain⟨cb,mt,mp,t,h1,h2,h3,h4⟩:=h.at_
 exact⟨mt,by rw[h1,qAd h2 8 1 (by simp[Ds.row])];rfl,h3⟩
theorem qBw.procs{V:Mem}{c:Option Addr}{d:Ds}(h:qBw V c d):∃mt,V.rowp c 9 1=some [.map (some mt)]/\qAZ V mt (fun k=>(qHp d k).map Pr.v):=by
 obtain⟨cb,mt,mp,t,h1,h2,h3,h4⟩:=h.at_
 exact⟨mp,by rw[h1,qAd h2 9 1 (by simp[Ds.row])];rfl,h4⟩
def qBB(l:List Fld)(k:ByteArray):Option ByteArray:=(l.find? fun f=>decide (f.name=k)).map (·.ty)
theorem qIl(l:List Fld)(k:ByteArray):qCr l k=(qBB l k).getD sE:=by
 induction l with
 | nil=>rfl
 | cons f l ih =>
  unfold qBB qCr
  rw[List.find?_cons]
  by_cases h:f.name=k
  ·rw[if_pos h,decide_eq_true h];rfl
  ·rw[if_neg h,decide_eq_false h];exact ih
def NE(l:List Fld):Prop:=∀f∈l,f.ty≠sE
theorem NE.some{l:List Fld}(h:NE l){k t:ByteArray}(hv:qBB l k=some t):t≠sE:=by
 unfold qBB at hv
 obtain⟨f,hf,rfl⟩:=Option.map_eq_some_iff.1 hv
 exact h f (List.mem_of_find?_eq_some hf)
structure qGK (V:Mem) (m:Option Nat) (sc:Sc):Prop where
 at_:∃mb,m=some mb/\qAZ V mb (fun k=>(qBB sc.vars k).map Value.string)
 ne:NE sc.vars
theorem qGK.sub{V V':Mem}{m:Option Nat}{sc:Sc}(h:qGK V m sc)(hs:V.sub V'):qGK V' m sc:=by
 obtain⟨mb,h1,h2⟩:=h.at_
 exact⟨⟨mb,h1,h2.sub hs⟩,h.ne⟩
def sV(c:Option Addr)(m:Option Nat)(sc:Sc):Value:=.agg #[.pointer c,.map m,.bool sc.body]
structure VNe (d:Ds):Prop where
 types:∀t∈d.types,NE t.fields
 globals:NE d.globals
 params:∀p∈d.procs,NE p.params/\NE p.locals
theorem typB_ne{s:ByteArray}(h:typB s=true):s≠sE:=by
 intro e
 subst e
 have:typB sE=false:=by
  unfold typB qAQ
  have h1:¬(sE=qBb):=by decide
  have h2:¬(sE=qAu):=by decide
  rw[decide_eq_false h1,decide_eq_false h2,decide_eq_false (fun h=>h.1 rfl)]
  rfl
 rw[this]at h;cases h
theorem qJC{l:List Fld}{n:Int}(h:qDL l n=true):NE l:=fun f hf=>by
 unfold qDL at h
 rw[Bool.and_eq_true]at h
 have:=List.all_eq_true.1 h.2 f hf
 unfold fldB at this
 rw[Bool.and_eq_true]at this
 exact typB_ne this.2
theorem vne{d:Ds}(h:qAH d=true):VNe d:=by
 unfold qAH at h
 simp only[Bool.and_eq_true,decide_eq_true_eq,List.all_eq_true]at h
 obtain⟨⟨⟨⟨⟨⟨⟨-,-⟩,hg⟩,-⟩,-⟩,ht⟩,hp⟩,-⟩:=h
 refine⟨fun t htt=>?_,qJC hg,fun p hpp=>?_⟩
 ·have:=ht t htt
  unfold tyB at this
  rw[Bool.and_eq_true]at this
  exact qJC this.2
 ·have:=hp p hpp
  unfold prB at this
  simp only[Bool.and_eq_true]at this
  exact⟨qJC this.1.1.1.2,qJC this.1.1.2⟩
theorem zero132(w:World):(zeroValue 132).run Tryz.prog w=.ok (.agg #[.string ByteArray.empty,.slice none 0 0]) w:=by kernel_rfl
theorem zero121(w:World):(zeroValue 121).run Tryz.prog w=.ok (.agg #[.string ByteArray.empty,.slice none 0 0,.string ByteArray.empty,.slice none 0 0,.slice none 0 0]) w:=by kernel_rfl
theorem zero9(w:World):(zeroValue 9).run Tryz.prog w=.ok (.string ByteArray.empty) w:=by kernel_rfl
theorem tyOf_node(d:Ds)(s:ByteArray):(qIm d s).isSome=qBg d s:=by
 unfold qIm qBg
 rcases qBq (fun t:Ty=>decide (t.name=s)) d.types with⟨h1,h2,h3⟩|⟨i,x,h1,h2,h3,h4,h5,h6,h7,_⟩
 ·rw[h2,h3];rfl
 ·rw[h3,h7];rfl
theorem tyOf_mem{d:Ds}{s:ByteArray}{t:Ty}(h:qIm d s=some t):t∈d.types:=List.mem_of_find?_eq_some h
theorem qJh{d:Ds}{s:ByteArray}{t:Pr}(h:qHp d s=some t):t∈d.procs:=List.mem_of_find?_eq_some h
section
variable{V:Mem}{d:Ds}{c:Option Addr}{m:Option Nat}{sc:Sc}
theorem c177(h:qBw V c d){s:ByteArray}:PP 177 [.pointer c,.string s] V (.bool (qBg d s)):=by
 refine x177 ?_
 unfold w177
 obtain⟨mt,h1,h2⟩:=h.types
 refine⟨h.nn,h.nn,_,h1,qCd.str Tryz.underlying209 Tryz.underlying9 zero132 h2 ?_⟩
 rw[<- tyOf_node]
 cases ht:qIm d s with
 | none=>exact⟨_,⟨none,0,0⟩,_,rfl,rfl,rfl⟩
 | some t=>exact⟨_,t.fs,_,rfl,rfl,rfl⟩
theorem c172(h:qBw V c d){s:ByteArray}:PP 172 [.pointer c,.string s] V (.bool (qBn d s)):=by
 refine x172 ?_
 unfold w172
 refine⟨fun h1=>?_,fun h1=>⟨fun h2=>?_,fun h2=>(c177 h).call ⟨_,rfl,?_⟩⟩⟩ <;> simp[qBn,qBb,qAu, *]
theorem c258(h:qBw V c d){s t:ByteArray}:PP 258 [.pointer c,.string s,.string t] V (.bool (qDJ d s t)):=by
 refine x258 ?_
 unfold w258 qDJ sNil
 refine⟨fun h1=>?_,fun h1=>⟨fun h2=>(c177 h).call ⟨_,rfl,?_⟩,fun h2=>?_⟩⟩
 ·rw[decide_eq_true h1];exact⟨rfl,rfl⟩
 ·rw[decide_eq_false h1,decide_eq_true h2];exact⟨rfl,rfl⟩
 ·rw[decide_eq_false h1,decide_eq_false h2];exact⟨rfl,rfl⟩
theorem c259(h:qBw V c d)(hv:VNe d){s t:ByteArray}:PP 259 [.pointer c,.string s,.string t] V (.tuple #[.string (qBV d s t).1,.int .i64 (qBV d s t).2]):=by
 refine x259 ?_
 unfold w259
 obtain⟨mt,h1,h2⟩:=h.types
 refine⟨h.nn,h.nn,_,h1,qCd.str Tryz.underlying209 Tryz.underlying9 zero132 h2 ?_⟩
 unfold qBV
 cases ht:qIm d s with
 | none=>exact⟨_,⟨none,0,0⟩,_,rfl,fun h=>absurd h (by simp),fun _=>⟨rfl,rfl⟩⟩
 | some ty =>
  refine⟨_,ty.fs,_,rfl,fun _=>?_,fun h=>absurd rfl h⟩
  have hr:=(h.ok.typesOk ty (tyOf_mem ht)).fields
  have hne:=hv.types ty (tyOf_mem ht)
  simp only
  refine loop3 ty.fields.length (fun i V1=>V=V1/\qCr ty.fields t=qCr (ty.fields.drop i) t) ⟨rfl,rfl⟩ ?_
  rintro i b c V1 J hi ⟨rfl,ha⟩ hJ
  refine⟨fun hlt=>?_,fun hge=>?_⟩
  ·obtain⟨x,hm,hx,hdr,hl,hp,hz,hrow⟩:=hr.get hlt
   rw[hdr,qCr]at ha
   refine⟨hp,hz,hlt,_,_,hrow,fun he=>?_,fun he=>⟨hr.succ hlt,hJ hl _ _ _ ⟨rfl,?_⟩⟩⟩
   ·rw[if_pos he]at ha
    rw[ha,if_neg (hne x hm)];exact⟨rfl,rfl⟩
   ·rw[ha,if_neg he]
  ·rw[(hr.done hge).1,qCr]at ha
   rw[ha,if_pos rfl];exact⟨rfl,rfl⟩
theorem c277{b:Nat}{s:ByteArray}{t:Nat}(hb:V b=some (cell (.string s) t)){x:Ms}:PP 277 [x.v,pv b] V (.bool (decide (x.name=s))):=by
 refine x277 ?_
 unfold w277
 exact⟨_,qBp hb,rfl,rfl⟩
def IdC{α:Type}(f:FuncId)(row:α->List Value)(v:α->Value)(sz:Nat):Prop:=∀{V:Mem} {l:Sl} {xs:List α} {g:Nat} {first caps:List Value} (h:qAc V l sz (xs.map row)) (hg:qHW g) (p:α->Bool) (hp:∀x∈xs,PP g (first++[v x]++caps) V (.bool (p x))),PP f [l.v,.func (.func g) first.toArray caps.toArray] V (.int .i64 (idxI p xs))
theorem idC{α:Type}{f:FuncId}{row:α->List Value}{v:α->Value}{sz:Nat}(H:IdxP f row v sz):IdC f row v sz:=by
 intro V l xs g first caps h hg p hp
 refine Tri.mono (H hg (fun i V1=>V=V1/\qDu (fun y=>!p y) xs i) (fun i V1=>V=V1/\∃x,xs[i]?=some x/\p x=true/\qDu (fun y=>!p y) xs i) (fun i V1 hs=>hs.1 ▸ h) ⟨rfl,qDu.zero _ _⟩ ?_) ?_
 ·rintro i x V1 hx ⟨rfl,hs⟩
  have hm:x∈xs:=List.mem_of_getElem? hx
  exact(hp x hm).callv ⟨_,rfl,fun hb=>⟨rfl,x,hx,hb,hs⟩,fun hb=>⟨rfl,notAll_succ hs hx hb⟩⟩
 ·rintro e V' (⟨i,rfl,rfl,x,hx,hb,hs⟩|⟨rfl,rfl,hs⟩)
  ·rw[idxI_found hs hx hb];exact⟨rfl,rfl⟩
  ·rw[idxI_none hs (Nat.le_refl _)];exact⟨rfl,rfl⟩
theorem idxMs:IdC 254 Ms.row Ms.v 7:=idC g254
theorem c272(h:qBw V c d){s:ByteArray}{l:Sl}{xs:List ByteArray}(hl:qAc V l 1 (xs.map qBD)):PP 272 [sV c m sc,.string s,l.v] V (.tuple #[.string (qJp d s xs).1,.int .i64 (qJp d s xs).2]):=by
 refine Pur.mk (x272 ?_)
 unfold w272
 refine⟨h.nn,h.nn,qAe h.nn,d.ms,h.cell (i:=4) rfl,fun b hb=>?_⟩
 have hs:=Mem.sub_new hb (cell (.string s) 9)
 have h1:=h.sub hs
 have hl1:=hl.sub hs
 refine(idxMs (l:=d.ms) (first:=[]) (caps:=[pv b]) h1.ok.measures Tryz.call277 (fun t=>decide (t.name=s)) (fun x _=>c277 mss)).call ⟨_,rfl,?_⟩
 unfold qJp meOf
 have key:∀{X:ByteArray×Int} (a:ByteArray) (n:Int),X=(a,n)->(Ending.returned (.tuple #[.string a,.int .i64 n])=Ending.returned (.tuple #[.string X.1,.int .i64 X.2])/\V.sub (V.set b (cell (.string s) 9))):=fun a n h=>by rw[h];exact⟨rfl,hs⟩
 rcases qBq (fun t:Ms=>decide (t.name=s)) d.measures with⟨h1,h2,h3⟩|⟨i,x,i1,i2,i3,i4,i5,i6,i7,_⟩
 ·rw[h1,h2];exact⟨fun _=>key _ _ rfl,fun h=>absurd h (by decide)⟩
 ·rw[i1,i3]
  have hn:=h1.ok.measures.n_eq
  have hlt:(i:Int)<(d.ms.n:Int):=by omega
  obtain⟨y,hm,hx,hdr,hll,hp,hz,hrow⟩:=h1.ok.measures.get hlt
  rw[i2]at hx
  cases hx
  have e1:=hl1.n_eq
  refine⟨fun h=>absurd h (by omega),fun _=>⟨fun he=>?_,fun he=>key _ _ (if_pos (by omega))⟩⟩
  obtain⟨a1,a2,a3⟩:=qIo hl1 (i:=0) (by omega)
  have e2:¬(xs.length≠1):=by omega
  refine⟨a1,by omega,by omega,_,a3,h.nn,h.nn,qAe h.nn,d.ms,h1.cell (i:=4) rfl,hp,hz,hlt,qAe hp,_,_,_,_,_,_,_,hrow,(c258 h1).call ⟨_,rfl,fun hf=>key _ _ ?_,fun hf=>key _ _ ?_⟩⟩
  ·simp only[e2,if_false];unfold qFr;rw[if_pos hf];rfl
  ·simp only[e2,if_false];unfold qFr;rw[if_neg hf];rfl
theorem c275{b:Nat}{s:ByteArray}{t:Nat}(hb:V b=some (cell (.string s) t)){x:ByteArray}:PP 275 [strV x,pv b] V (.bool (!decide (x=s))):=by
 refine x275 ?_
 unfold w275
 exact⟨_,qBp hb,rfl,rfl⟩
theorem c273{b t:Nat}{l:Sl}{xs:List ByteArray}(hb:V b=some (cell (.slice l.p l.n l.c) t))(hl:qAc V l 1 (xs.map qBD)){s r:ByteArray} :
  PP 273 [.string s,.string r,pv b] V (.tuple #[.string (qFr (allT xs s) r).1,.int .i64 (qFr (allT xs s) r).2]):=by
 refine Pur.mk (x273 ?_)
 unfold w273
 refine⟨l,qBp hb,fun b1 hb1=>?_⟩
 have hs:=Mem.sub_new hb1 (cell (.string s) 9)
 refine(c274 (l:=l) (first:=[]) (caps:=[pv b1]) (hl.sub hs) Tryz.call275 (fun x=>!decide (x=s)) (fun x _=>c275 mss)).call ⟨_,rfl,fun h=>?_,fun h=>?_⟩
 ·rw[List.any_eq_not_all_not]at h
  have:allT xs s=false:=by unfold allT;simpa using h
  rw[this];exact⟨rfl,hs⟩
 ·rw[List.any_eq_not_all_not]at h
  have:allT xs s=true:=by unfold allT;simpa using h
  rw[this];exact⟨rfl,hs⟩
end
theorem fits_first{d:Ds}{a b:ByteArray}(h:qDJ d a b=true):(if a=sNil then b else a)=b:=by
 unfold qDJ at h
 split
 ·rfl
 ·rename_i hn
  rw[decide_eq_false hn,Bool.false_and,Bool.or_false]at h
  exact of_decide_eq_true h
theorem fits_second{d:Ds}{a b:ByteArray}(h:¬qDJ d a b=true)(h2:qDJ d b a=true):(if a=sNil then b else a)=a:=by
 split
 ·rename_i hn
  unfold qDJ at h h2
  by_cases e:b=a
  ·exact e
  ·rw[decide_eq_false e,Bool.false_or,Bool.and_eq_true]at h2
   exact absurd (by rw[hn,of_decide_eq_true h2.1];simp) h
 ·rfl
def qEV(d:Ds)(sc:Sc)(s:ByteArray)(l:List ByteArray):ByteArray×Int:=if sc.body=true then qGi d s l else qJp d s l
theorem measT_ne{d:Ds}{s:ByteArray}{l:List ByteArray}(h:(qJp d s l).2=0):(qJp d s l).1≠sE:=by
 unfold qJp at h ⊢
 split at h
 ·exact absurd h (by decide)
 ·split at h
  ·exact absurd h (by decide)
  ·rename_i h'
   simp only[if_neg h']
   unfold qFr at h ⊢
   split at h
   ·rename_i h2;rw[if_pos h2];simp only;decide
   ·exact absurd h (by decide)
theorem callE_raw(d:Ds)(sc:Sc)(s:ByteArray)(l:List ByteArray):callE d sc s l=if (qEV d sc s l).2=0/\(qEV d sc s l).1=sE then (sE,11) else qEV d sc s l:=by
 unfold callE qEV
 by_cases hb:sc.body=true
 ·simp only[if_pos hb]
 ·simp only[if_neg hb]
  split
  ·rename_i h;exact absurd h.2 (measT_ne h.1)
  ·rfl
section
variable{V:Mem}{d:Ds}{c:Option Addr}{m:Option Nat}{sc:Sc}
def ImpE(V:Mem)(d:Ds)(c:Option Addr)(m:Option Nat)(sc:Sc)(e:E):Prop:=∀V1,V.sub V1->PP 224 [sV c m sc,e.v] V1 (.tuple #[.string (qAl d sc e).1,.int .i64 (qAl d sc e).2])
def rawT(d:Ds)(sc:Sc)(e:E):ByteArray×Int:=if (partsT d sc [] e.k).2≠0 then (sE,(partsT d sc [] e.k).2) else qEV d sc e.s (partsT d sc [] e.k).1
theorem impCall(h:qBw V c d)(e:E)(he:E.Ok V e)(hlen:(e.k.length:Int)<=6)(hk:∀x∈e.k,ImpE V d c m sc x) :
  PP 257 [sV c m sc,e.v] V (.tuple #[.string (rawT d sc e).1,.int .i64 (rawT d sc e).2]):=by
 have hr:=he.rows
 refine Pur.mk (x257 ?_)
 unfold w257 rawT
 refine loop4s (mk:=.string) (mc:=.int .i64) (md:=fun s:Sl=>.slice s.p s.n s.c) (qAq []) 0 ⟨none,0,0⟩ qCY e.k.length (fun i s V1=>∃acc,Own V V1 9 1 s (acc.flatMap qBD)/\partsT d sc [] e.k=partsT d sc acc (e.k.drop i)/\acc.length=i) ⟨[],Own.nil (Mem.sub.refl _) _ _,rfl,rfl⟩ ?_
 rintro i b b' s V1 J hi ⟨acc,hown,hp,hlen'⟩ hJ
 have hr1:=hr.sub hown.sub
 refine⟨fun hlt=>?_,fun hge=>?_⟩
 ·obtain⟨x,hm,hx,hdr,hl,hpp,hz,hrow⟩:=hr1.get hlt
  rw[hdr,qCJ]at hp
  refine⟨hpp,hz,hlt,_,_,_,_,hrow,(hk x hm V1 hown.sub).call ⟨_,_,rfl,fun h0=>?_,fun h0=>?_⟩⟩
  ·intro b1 hb1
   rw[if_neg (fun h=>h h0)]at hp
   refine app232 (s:=s) (u:=⟨some ⟨b1,0,none⟩,1,1⟩) (xs:=acc) (ys:=[(qAl d sc x).1]) rfl rfl (hown.new hb1 _) (one_row mss) (by simp;omega) fun s' V' ho=>⟨s',rfl,hr1.succ hlt,hJ hl _ _ _ _ ⟨_,ho,hp,by simp[hlen']⟩⟩
  ·rw[if_pos h0]at hp
   rw[hp]
   simp only[ne_eq,h0,not_false_eq_true,if_true]
   exact⟨by trivial,hown.sub⟩
 ·rw[(hr1.done hge).1,qDl]at hp
  rw[hp]
  simp only[ne_eq,not_true_eq_false,if_false]
  have hrows:=ownS hown
  have h1:=h.sub hown.sub
  have key:∀{X:ByteArray×Int} (a:ByteArray) (n:Int),X=(a,n)->(Ending.returned (.tuple #[.string a,.int .i64 n])=Ending.returned (.tuple #[.string X.1,.int .i64 X.2])/\V.sub V1):=fun a n h=>by rw[h];exact⟨rfl,hown.sub⟩
  unfold qEV
  refine⟨fun hb=>?_,fun hb=>?_⟩
  ·rw[if_pos hb]
   obtain⟨mt,q1,q2⟩:=h1.procs
   refine⟨h.nn,h.nn,_,q1,qCd.str Tryz.underlying210 Tryz.underlying9 zero121 q2 ?_⟩
   unfold qGi
   cases hpr:qHp d e.s with
   | none=>exact⟨_,⟨none,0,0⟩,_,⟨none,0,0⟩,⟨none,0,0⟩,_,rfl,fun h=>absurd h (by simp),fun _=>key _ _ rfl⟩
   | some p =>
    have hox:=h1.ok.procsOk p (qJh hpr)
    have e1:=hrows.n_eq
    have e2:=hox.params.n_eq
    refine⟨_,p.ps,_,p.ls,p.bs,_,rfl,fun _=>⟨fun he=>?_,fun he=>key _ _ (if_pos (by omega))⟩,fun h=>absurd rfl h⟩
    have hle:acc.length=p.params.length:=by omega
    simp only[hle,ne_eq,not_true_eq_false,if_false]
    refine loop3 acc.length (fun i V2=>V1=V2/\qCt d acc p.params=qCt d (acc.drop i) (p.params.drop i)) ⟨rfl,rfl⟩ ?_
    rintro j b c' V2 J hi ⟨rfl,ha⟩ hJ
    refine⟨fun hlt=>?_,fun hge=>?_⟩
    ·obtain⟨y,hm',hx',hdr',hl',hp',hz',hrow'⟩:=hrows.get hlt
     obtain⟨f,hmf,hxf,hdf,hlf,hpf,hzf,hrowf⟩:=hox.params.get (i:=j) (by omega)
     rw[hdr',hdf,qCt]at ha
     refine⟨hp',hz',hlt,_,hrow',hpf,hzf,by omega,qAe hpf,_,_,hrowf,(c258 h1).call ⟨_,rfl,fun hb=>⟨hrows.succ hlt,hJ hl' _ _ _ ⟨rfl,?_⟩⟩,fun hb=>key _ _ ?_⟩⟩
     ·rw[ha,hb,Bool.true_and]
     ·rw[eq_false_of_ne_true hb,Bool.false_and]at ha;rw[ha];rfl
    ·rw[(hrows.done hge).1,fitAll_nil]at ha
     exact key _ _ (by rw[ha];rfl)
  ·rw[if_neg hb]
   exact(c272 h1 hrows).call ⟨_,_,rfl,key _ _ rfl⟩
theorem impNode(h:qBw V c d)(hv:VNe d)(hs:qGK V m sc){e:E}{l:Sl}{xs:List ByteArray}(hl:qAc V l 1 (xs.map qBD))(hlen:xs.length=e.k.length)(hok:qDY e.op e.n e.s e.k.length=true)(h7:e.op≠7) :
  PP 260 [sV c m sc,e.v,l.v] V (.tuple #[.string (qGc d sc e.op e.s xs).1,.int .i64 (qGc d sc e.op e.s xs).2]):=by
 have har:=arity hok
 refine Pur.mk (x260 ?_)
 unfold w260
 generalize hX:qGc d sc e.op e.s xs=X
 have key:∀{V1:Mem} (a:ByteArray) (n:Int),V.sub V1->X=(a,n)->(Ending.returned (.tuple #[.string a,.int .i64 n])=Ending.returned (.tuple #[.string X.1,.int .i64 X.2])/\V.sub V1):=fun a n h1 h=>by rw[h];exact⟨rfl,h1⟩
 have rf:=Mem.sub.refl V
 have cFits:=fun a b=>c258 h (s:=a) (t:=b)
 have at0:=fun h:0<xs.length=>qIo hl h
 have at1:=fun h:1<xs.length=>qIo hl h
 have at2:=fun h:2<xs.length=>qIo hl h
 have call:∀(s r:ByteArray),X=qFr (allT xs s) r->qAC [(.slice l.p l.n l.c)] 232 V fun v8 V1 =>
   Tri Tryz.prog 273 #[(.string s),(.string r),(.pointer (qAa v8 0))] V1 fun z V2=>∃v9:ByteArray,∃v10:Int,z=.returned (.tuple #[(.string v9),(.int .i64 v10)])/\(Ending.returned (.tuple #[(.string v9),(.int .i64 v10)])=Ending.returned (.tuple #[.string X.1,.int .i64 X.2])/\V.sub V2):=fun s r hx b hb=>by
  have h1:=Mem.sub_new hb (cell (.slice l.p l.n l.c) 232)
  exact(c273 (l:=l) mss (hl.sub h1)).call ⟨_,_,rfl,key _ _ h1 (by rw[hx])⟩
 unfold qGc at hX
 refine⟨fun o1=>key _ _ rf ?_,fun o1=>⟨fun o2=>key _ _ rf ?_,fun o2=>⟨fun o3=>key _ _ rf ?_,fun o3=>⟨fun o4=>?_,fun o4=>⟨fun o5=>?_,fun o5=>⟨fun o6=>?_,fun o6=>⟨fun o14=>?_,fun o14=>⟨fun o15=>?_,fun o15=>⟨fun o16=>call _ _ ?_,fun o16=>⟨fun o17=>call _ _ ?_,fun o17=>⟨fun o18=>call _ _ ?_,fun o18=>⟨fun o19=>call _ _ ?_,fun o19=>⟨fun o20=>call _ _ ?_,fun o20=>⟨fun o21=>?_,fun o21=>call _ _ ?_⟩⟩⟩⟩⟩⟩⟩⟩⟩⟩⟩⟩⟩⟩
 ·rw[<- hX,if_pos o1];rfl
 ·rw[<- hX,if_neg o1,if_pos o2];rfl
 ·rw[<- hX,if_neg o1,if_neg o2,if_pos o3];rfl
 ·rw[if_neg o1,if_neg o2,if_neg o3,if_pos o4,qIl]at hX
  obtain⟨mb,rfl,hmap⟩:=hs.at_
  refine qCd.str Tryz.underlying262 Tryz.underlying9 zero9 hmap ?_
  cases hvv:qBB sc.vars e.s with
  | none =>
   rw[hvv,Option.getD_none]at hX
   exact⟨_,_,rfl,fun h=>absurd h (by simp),fun _=>key _ _ rf (by rw[<- hX,if_pos rfl];rfl)⟩
  | some t =>
   rw[hvv,Option.getD_some]at hX
   exact⟨t,_,rfl,fun _=>key _ _ rf (by rw[<- hX,if_neg (hs.ne.some hvv)]),fun h=>absurd rfl h⟩
 ·rw[if_neg o1,if_neg o2,if_neg o3,if_neg o4,if_pos o5]at hX
  obtain⟨a1,a2,a3⟩:=at0 (by have:=har.1 o5;omega)
  exact⟨a1,by omega,a2,_,a3,(c259 h hv).call ⟨_,_,rfl,key _ _ rf (by rw[<- hX])⟩⟩
 ·rw[if_neg o1,if_neg o2,if_neg o3,if_neg o4,if_neg o5,if_pos o6]at hX
  refine⟨fun hb=>(c177 h).call ⟨_,rfl,fun hn=>key _ _ rf ?_,fun hn=>key _ _ rf ?_⟩,fun hb=>key _ _ rf ?_⟩
  ·rw[<- hX,if_neg (by rw[hb];simp),if_neg (by rw[hn];simp)]
  ·rw[<- hX,if_neg (by rw[hb];simp),if_pos (eq_false_of_ne_true hn)];rfl
  ·rw[<- hX,if_pos (eq_false_of_ne_true hb)];rfl
 iterate 2
  ·rw[if_neg o1,if_neg o2,if_neg o3,if_neg o4,if_neg o5,if_neg o6,if_neg h7,if_pos (by omega)]at hX
   obtain⟨a1,a2,a3⟩:=at0 (by have:=har.2.1 (by omega);omega)
   obtain⟨b1,b2,b3⟩:=at1 (by have:=har.2.1 (by omega);omega)
   refine⟨a1,by omega,a2,_,a3,b1,by omega,b2,_,b3,(cFits _ _).call ⟨_,rfl,fun h=>key _ _ rf ?_,fun h=>⟨b1,by omega,b2,_,b3,a1,by omega,a2,_,a3,(cFits _ _).call ⟨_,rfl,fun h2=>key _ _ rf ?_,fun h2=>key _ _ rf ?_⟩⟩⟩⟩
   ·rw[<- hX,h];rfl
   ·rw[<- hX,h2,Bool.or_true];rfl
   ·rw[<- hX,eq_false_of_ne_true h,eq_false_of_ne_true h2];rfl
 iterate 2
  ·rw[if_neg o1,if_neg o2,if_neg o3,if_neg o4,if_neg o5,if_neg o6,if_neg h7,if_neg (by omega),if_pos (by omega)]at hX
   exact hX.symm
 iterate 3
  ·rw[if_neg o1,if_neg o2,if_neg o3,if_neg o4,if_neg o5,if_neg o6,if_neg h7,if_neg (by omega),if_neg (by omega),if_pos (by omega)]at hX
   exact hX.symm
 ·rw[if_neg o1,if_neg o2,if_neg o3,if_neg o4,if_neg o5,if_neg o6,if_neg h7,if_neg (by omega),if_neg (by omega),if_neg (by omega),if_pos o21]at hX
  obtain⟨a1,a2,a3⟩:=at0 (by have:=har.2.2.1 o21;omega)
  obtain⟨b1,b2,b3⟩:=at1 (by have:=har.2.2.1 o21;omega)
  obtain⟨c1,c2,c3⟩:=at2 (by have:=har.2.2.1 o21;omega)
  refine⟨a1,by omega,a2,_,a3,fun h0=>⟨b1,by omega,b2,_,b3,c1,by omega,c2,_,c3,(cFits _ _).call ⟨_,rfl,fun h=>⟨c1,by omega,c2,_,c3,key _ _ rf ?_⟩,fun h=>⟨c1,by omega,c2,_,c3,b1,by omega,b2,_,b3,(cFits _ _).call ⟨_,rfl,fun h2=>⟨b1,by omega,b2,_,b3,key _ _ rf ?_⟩,fun h2=>key _ _ rf ?_⟩⟩⟩⟩,fun h0=>key _ _ rf ?_⟩
  ·rw[<- hX,decide_eq_true (show xs.getD 0 sE=qAu from h0),h,fits_first h];rfl
  ·rw[<- hX,decide_eq_true (show xs.getD 0 sE=qAu from h0),h2,Bool.or_true,fits_second h h2];rfl
  ·rw[<- hX,decide_eq_true (show xs.getD 0 sE=qAu from h0),eq_false_of_ne_true h,eq_false_of_ne_true h2];rfl
  ·rw[<- hX,decide_eq_false (show ¬xs.getD 0 sE=qAu from h0)];rfl
 ·rw[if_neg o1,if_neg o2,if_neg o3,if_neg o4,if_neg o5,if_neg o6,if_neg h7,if_neg (by omega),if_neg (by omega),if_neg (by omega),if_neg o21]at hX
  exact hX.symm
theorem impExpr(h:qBw V c d)(hv:VNe d)(hs:qGK V m sc):∀(e:E),E.Ok V e->∀dd,okE dd e=true->ImpE V d c m sc e:=by
 intro e
 induction e using E.ind with
 | h e ih =>
 intro he dd hok V1 hV
 have har:=arity (qJm hok)
 have hk:∀x∈e.k,ImpE V1 d c m sc x:=fun x hx V2 h2=>ih x hx (he.kids x hx) (dd+1) (okE_kids hok x hx) V2 (hV.trans h2)
 have h1:=h.sub hV
 refine Pur.mk (x224 ?_)
 unfold w224
 have hlen:=qIz d sc e.k []
 refine⟨fun o7=>(impCall h1 e (he.sub hV) har.2.2.2 hk).call ⟨_,_,rfl,?_⟩,fun o7=>?_⟩
 ·have hex:qAl d sc e=if (rawT d sc e).2=0/\(rawT d sc e).1=sE then (sE,11) else rawT d sc e:=by
   rw[qJF]
   unfold rawT
   by_cases h0:(partsT d sc [] e.k).2≠0
   ·rw[if_pos h0,if_pos h0,if_neg (fun h=>h0 h.1)]
   ·rw[if_neg h0,if_neg h0]
    unfold qGc
    rw[if_neg (by omega),if_neg (by omega),if_neg (by omega),if_neg (by omega),if_neg (by omega),if_neg (by omega),if_pos o7,callE_raw]
  rw[hex]
  refine⟨fun h0=>⟨fun h2=>?_,fun h2=>?_⟩,fun h0=>?_⟩
  ·rw[if_pos ⟨h0,h2⟩];exact⟨rfl,Mem.sub.refl _⟩
  ·rw[if_neg (fun h=>h2 h.2)];exact⟨rfl,Mem.sub.refl _⟩
  ·rw[if_neg (fun h=>h0 h.1)];exact⟨rfl,Mem.sub.refl _⟩
 ·rw[qJF]
  have hr:=(he.sub hV).rows
  refine loop4s (mk:=.string) (mc:=.int .i64) (md:=fun s:Sl=>.slice s.p s.n s.c) (qAq []) 0 ⟨none,0,0⟩ qCY e.k.length (fun i s V2=>∃acc,Own V1 V2 9 1 s (acc.flatMap qBD)/\partsT d sc [] e.k=partsT d sc acc (e.k.drop i)/\acc.length=i) ⟨[],Own.nil (Mem.sub.refl _) _ _,rfl,rfl⟩ ?_
  rintro i b b' s V2 J hi ⟨acc,hown,hp,hlen'⟩ hJ
  have hr1:=hr.sub hown.sub
  refine⟨fun hlt=>?_,fun hge=>?_⟩
  ·obtain⟨x,hm,hx,hdr,hl,hpp,hz,hrow⟩:=hr1.get hlt
   rw[hdr,qCJ]at hp
   refine⟨hpp,hz,hlt,_,_,_,_,hrow,(hk x hm V2 hown.sub).call ⟨_,_,rfl,fun h0=>?_,fun h0=>?_⟩⟩
   ·intro b1 hb1
    rw[if_neg (fun h=>h h0)]at hp
    refine app232 (s:=s) (u:=⟨some ⟨b1,0,none⟩,1,1⟩) (xs:=acc) (ys:=[(qAl d sc x).1]) rfl rfl (hown.new hb1 _) (one_row mss) (by simp;omega) fun s' V' ho=>⟨s',rfl,hr1.succ hlt,hJ hl _ _ _ _ ⟨_,ho,hp,by simp[hlen']⟩⟩
   ·rw[if_pos h0]at hp
    rw[hp]
    simp only[ne_eq,h0,not_false_eq_true,if_true]
    exact⟨by trivial,hown.sub⟩
  ·have hge':=(hr1.done hge).2
   rw[(hr1.done hge).1,qDl]at hp
   rw[hp]
   simp only[ne_eq,not_true_eq_false,if_false]
   refine(impNode (h1.sub hown.sub) hv ((hs.sub hV).sub hown.sub) (ownS hown) (by omega) (qJm hok) o7).call ⟨_,_,rfl,rfl,hown.sub⟩
end
theorem qGs{c k:Nat}{p:Option Addr}:(if (c:Int)=(0:Int) then p else qAa p ((0:Int).toNat*k))=p:=by
 have:qAa p ((0:Int).toNat*k)=p:=by
  rw[show (0:Int).toNat*k=0 by simp]
  cases p with
  | none=>rfl
  | some a=>show some (a.add 0)=_;unfold Addr.add;rw[if_pos rfl]
 split
 ·rfl
 ·exact this
theorem sub0{n:Nat}:((n:Int)-(0:Int)).toNat=n:=by omega
theorem qAc.pre{α:Type}{V:Mem}{l:Sl}{sz:Nat}{row:α->List Value}{xs:List α}(h:qAc V l sz (xs.map row)){i:Nat}(hi:i<=xs.length):qAc V ⟨l.p,i,l.c⟩ sz ((xs.take i).map row):=by
 have hn:=h.n_eq
 have hc:=h.cap
 refine⟨by simp[hi],by show i<=l.c;omega,h.fit,fun r hr=>h.size r ?_,fun j r hj=>h.at_ j r ?_⟩
 ·rw[List.map_take]at hr;exact List.mem_of_mem_take hr
 ·rw[List.map_take,List.getElem?_take]at hj
  split at hj
  ·exact hj
  ·cases hj
theorem qBP{V:Mem}{p:Option Addr}{off n:Nat}{vs:List Value}(h:V.rowp p off n=some vs):V.rowp (qAa p off) 0 n=some vs:=by
 cases p with
 | none=>cases h
 | some a =>
  have:(a.add off).add 0=a.add off:=by rw[qGj];rfl
  show V.row ((a.add off).add 0) n=_
  rw[this];exact h
theorem c168{V:Mem}{x:Ty}:PP 168 [x.v] V (.string x.name):=by
 refine x168 ?_
 exact⟨rfl,rfl⟩
theorem c213{V:Mem}{b1 b2 b3 t1 t2 t3 i:Nat}{l:Sl}{xs:List Ty}{x y:Ty}(h1:V b1=some (cell (.func (.func 168) #[] #[]) t1))(h2:V b2=some (cell (.slice l.p l.n l.c) t2))(h3:V b3=some (cell (.int .i64 i) t3))
  (hr:qAc V l 2 (xs.map Ty.row)) (hy:xs[i]?=some y):PP 213 [x.v,pv b1,pv b2,pv b3] V (.bool (decide (x.name=y.name))):=by
 refine x213 ?_
 unfold w213
 have hn:=hr.n_eq
 have hil:=(List.getElem?_eq_some_iff.1 hy).1
 have hlt:(i:Int)<(l.n:Int):=by omega
 obtain⟨y',hm,hx,hdr,hl,hp,hz,hrow⟩:=hr.get hlt
 rw[hy]at hx
 cases hx
 exact⟨.func (.func 168) #[] #[],rfl,qBp h1,.func (.func 168) #[] #[],rfl,qBp h1,l,qBp h2,_,qBp h3,hp,hz,hlt,_,_,hrow,_,_,_,rfl,Tryz.call168,(c168 (x:=x)).callv (first:=[]) (caps:=[]) ⟨_,rfl,qBP hrow,hp,hz,hlt,qBp h3,qBp h2,qBp h1,_,_,_,rfl,Tryz.call168,(c168 (x:=y)).callv (first:=[]) (caps:=[]) ⟨_,rfl,rfl,rfl⟩⟩⟩
theorem c167{V:Mem}{l:Sl}{xs:List Ty}{i:Nat}{y:Ty}(hr:qAc V l 2 (xs.map Ty.row))(hy:xs[i]?=some y):PP 167 [l.v,.int .i64 i,.func (.func 168) #[] #[]] V (.bool ((xs.take i).any fun g=>decide (g.name=y.name))):=by
 refine Pur.mk (x167 (a:=l) (c:=.func (.func 168) #[] #[]) ?_)
 unfold w167
 have hn:=hr.n_eq
 have hc:=hr.cap
 have hil:=(List.getElem?_eq_some_iff.1 hy).1
 refine⟨⟨by omega,by omega,by omega⟩,fun b1 hb1 b2 hb2 b3 hb3=>?_⟩
 have s:=(Mem.sub_new hb1 _).trans ((Mem.sub_new hb2 _).trans (Mem.sub_new hb3 (cell (.int .i64 i) 3)))
 simp only[qGs,sub0]
 refine(c79 (l:=⟨l.p,i,l.c⟩) (first:=[]) (caps:=[pv b1,pv b2,pv b3]) (qAc.pre (hr.sub s) (by omega)) Tryz.call213 (fun g=>decide (g.name=y.name)) (fun x _=>c213 ((Mem.sub_new hb3 _) _ _ ((Mem.sub_new hb2 _) _ _ mss)) ((Mem.sub_new hb3 _) _ _ mss) mss (hr.sub s) hy)).call ⟨_,rfl,rfl,s⟩
theorem c171{V:Mem}{x:Fld}:PP 171 [x.v] V (.string x.name):=by
 refine x171 ?_
 exact⟨rfl,rfl⟩
theorem c215{V:Mem}{b1 b2 b3 t1 t2 t3 i:Nat}{l:Sl}{xs:List Fld}{x y:Fld}(h1:V b1=some (cell (.func (.func 171) #[] #[]) t1))(h2:V b2=some (cell (.slice l.p l.n l.c) t2))(h3:V b3=some (cell (.int .i64 i) t3))
  (hr:qAc V l 2 (xs.map Fld.row)) (hy:xs[i]?=some y):PP 215 [x.v,pv b1,pv b2,pv b3] V (.bool (decide (x.name=y.name))):=by
 refine x215 ?_
 unfold w215
 have hn:=hr.n_eq
 have hil:=(List.getElem?_eq_some_iff.1 hy).1
 have hlt:(i:Int)<(l.n:Int):=by omega
 obtain⟨y',hm,hx,hdr,hl,hp,hz,hrow⟩:=hr.get hlt
 rw[hy]at hx
 cases hx
 exact⟨.func (.func 171) #[] #[],rfl,qBp h1,.func (.func 171) #[] #[],rfl,qBp h1,l,qBp h2,_,qBp h3,hp,hz,hlt,_,_,hrow,_,_,_,rfl,Tryz.call171,(c171 (x:=x)).callv (first:=[]) (caps:=[]) ⟨_,rfl,qBP hrow,hp,hz,hlt,qBp h3,qBp h2,qBp h1,_,_,_,rfl,Tryz.call171,(c171 (x:=y)).callv (first:=[]) (caps:=[]) ⟨_,rfl,rfl,rfl⟩⟩⟩
theorem c170{V:Mem}{l:Sl}{xs:List Fld}{i:Nat}{y:Fld}(hr:qAc V l 2 (xs.map Fld.row))(hy:xs[i]?=some y):PP 170 [l.v,.int .i64 i,.func (.func 171) #[] #[]] V (.bool ((xs.take i).any fun g=>decide (g.name=y.name))):=by
 refine Pur.mk (x170 (a:=l) (c:=.func (.func 171) #[] #[]) ?_)
 unfold w170
 have hn:=hr.n_eq
 have hc:=hr.cap
 have hil:=(List.getElem?_eq_some_iff.1 hy).1
 refine⟨⟨by omega,by omega,by omega⟩,fun b1 hb1 b2 hb2 b3 hb3=>?_⟩
 have s:=(Mem.sub_new hb1 _).trans ((Mem.sub_new hb2 _).trans (Mem.sub_new hb3 (cell (.int .i64 i) 3)))
 simp only[qGs,sub0]
 refine(c75 (l:=⟨l.p,i,l.c⟩) (first:=[]) (caps:=[pv b1,pv b2,pv b3]) (qAc.pre (hr.sub s) (by omega)) Tryz.call215 (fun g=>decide (g.name=y.name)) (fun x _=>c215 ((Mem.sub_new hb3 _) _ _ ((Mem.sub_new hb2 _) _ _ mss)) ((Mem.sub_new hb3 _) _ _ mss) mss (hr.sub s) hy)).call ⟨_,rfl,rfl,s⟩
theorem c174{V:Mem}{x:Pr}:PP 174 [x.v] V (.string x.name):=by
 refine x174 ?_
 exact⟨rfl,rfl⟩
theorem c216{V:Mem}{b1 b2 b3 t1 t2 t3 i:Nat}{l:Sl}{xs:List Pr}{x y:Pr}(h1:V b1=some (cell (.func (.func 174) #[] #[]) t1))(h2:V b2=some (cell (.slice l.p l.n l.c) t2))(h3:V b3=some (cell (.int .i64 i) t3))
  (hr:qAc V l 5 (xs.map Pr.row)) (hy:xs[i]?=some y):PP 216 [x.v,pv b1,pv b2,pv b3] V (.bool (decide (x.name=y.name))):=by
 refine x216 ?_
 unfold w216
 have hn:=hr.n_eq
 have hil:=(List.getElem?_eq_some_iff.1 hy).1
 have hlt:(i:Int)<(l.n:Int):=by omega
 obtain⟨y',hm,hx,hdr,hl,hp,hz,hrow⟩:=hr.get hlt
 rw[hy]at hx
 cases hx
 exact⟨.func (.func 174) #[] #[],rfl,qBp h1,.func (.func 174) #[] #[],rfl,qBp h1,l,qBp h2,_,qBp h3,hp,hz,hlt,_,_,_,_,_,hrow,_,_,_,rfl,Tryz.call174,(c174 (x:=x)).callv (first:=[]) (caps:=[]) ⟨_,rfl,qBP hrow,hp,hz,hlt,qBp h3,qBp h2,qBp h1,_,_,_,rfl,Tryz.call174,(c174 (x:=y)).callv (first:=[]) (caps:=[]) ⟨_,rfl,rfl,rfl⟩⟩⟩
theorem c173{V:Mem}{l:Sl}{xs:List Pr}{i:Nat}{y:Pr}(hr:qAc V l 5 (xs.map Pr.row))(hy:xs[i]?=some y):PP 173 [l.v,.int .i64 i,.func (.func 174) #[] #[]] V (.bool ((xs.take i).any fun g=>decide (g.name=y.name))):=by
 refine Pur.mk (x173 (a:=l) (c:=.func (.func 174) #[] #[]) ?_)
 unfold w173
 have hn:=hr.n_eq
 have hc:=hr.cap
 have hil:=(List.getElem?_eq_some_iff.1 hy).1
 refine⟨⟨by omega,by omega,by omega⟩,fun b1 hb1 b2 hb2 b3 hb3=>?_⟩
 have s:=(Mem.sub_new hb1 _).trans ((Mem.sub_new hb2 _).trans (Mem.sub_new hb3 (cell (.int .i64 i) 3)))
 simp only[qGs,sub0]
 refine(c105 (l:=⟨l.p,i,l.c⟩) (first:=[]) (caps:=[pv b1,pv b2,pv b3]) (qAc.pre (hr.sub s) (by omega)) Tryz.call216 (fun g=>decide (g.name=y.name)) (fun x _=>c216 ((Mem.sub_new hb3 _) _ _ ((Mem.sub_new hb2 _) _ _ mss)) ((Mem.sub_new hb3 _) _ _ mss) mss (hr.sub s) hy)).call ⟨_,rfl,rfl,s⟩
theorem c176{V:Mem}{x:Ms}:PP 176 [x.v] V (.string x.name):=by
 refine x176 ?_
 exact⟨rfl,rfl⟩
theorem c218{V:Mem}{b1 b2 b3 t1 t2 t3 i:Nat}{l:Sl}{xs:List Ms}{x y:Ms}(h1:V b1=some (cell (.func (.func 176) #[] #[]) t1))(h2:V b2=some (cell (.slice l.p l.n l.c) t2))(h3:V b3=some (cell (.int .i64 i) t3))
  (hr:qAc V l 7 (xs.map Ms.row)) (hy:xs[i]?=some y):PP 218 [x.v,pv b1,pv b2,pv b3] V (.bool (decide (x.name=y.name))):=by
 refine x218 ?_
 unfold w218
 have hn:=hr.n_eq
 have hil:=(List.getElem?_eq_some_iff.1 hy).1
 have hlt:(i:Int)<(l.n:Int):=by omega
 obtain⟨y',hm,hx,hdr,hl,hp,hz,hrow⟩:=hr.get hlt
 rw[hy]at hx
 cases hx
 exact⟨.func (.func 176) #[] #[],rfl,qBp h1,.func (.func 176) #[] #[],rfl,qBp h1,l,qBp h2,_,qBp h3,hp,hz,hlt,_,_,_,_,_,_,_,hrow,_,_,_,rfl,Tryz.call176,(c176 (x:=x)).callv (first:=[]) (caps:=[]) ⟨_,rfl,qBP hrow,hp,hz,hlt,qBp h3,qBp h2,qBp h1,_,_,_,rfl,Tryz.call176,(c176 (x:=y)).callv (first:=[]) (caps:=[]) ⟨_,rfl,rfl,rfl⟩⟩⟩
theorem c175{V:Mem}{l:Sl}{xs:List Ms}{i:Nat}{y:Ms}(hr:qAc V l 7 (xs.map Ms.row))(hy:xs[i]?=some y):PP 175 [l.v,.int .i64 i,.func (.func 176) #[] #[]] V (.bool ((xs.take i).any fun g=>decide (g.name=y.name))):=by
 refine Pur.mk (x175 (a:=l) (c:=.func (.func 176) #[] #[]) ?_)
 unfold w175
 have hn:=hr.n_eq
 have hc:=hr.cap
 have hil:=(List.getElem?_eq_some_iff.1 hy).1
 refine⟨⟨by omega,by omega,by omega⟩,fun b1 hb1 b2 hb2 b3 hb3=>?_⟩
 have s:=(Mem.sub_new hb1 _).trans ((Mem.sub_new hb2 _).trans (Mem.sub_new hb3 (cell (.int .i64 i) 3)))
 simp only[qGs,sub0]
 refine(c217 (l:=⟨l.p,i,l.c⟩) (first:=[]) (caps:=[pv b1,pv b2,pv b3]) (qAc.pre (hr.sub s) (by omega)) Tryz.call218 (fun g=>decide (g.name=y.name)) (fun x _=>c218 ((Mem.sub_new hb3 _) _ _ ((Mem.sub_new hb2 _) _ _ mss)) ((Mem.sub_new hb3 _) _ _ mss) mss (hr.sub s) hy)).call ⟨_,rfl,rfl,s⟩
theorem c179{V:Mem}{x:Iv}:PP 179 [x.v] V (.string x.name):=by
 refine x179 ?_
 exact⟨rfl,rfl⟩
theorem c220{V:Mem}{b1 b2 b3 t1 t2 t3 i:Nat}{l:Sl}{xs:List Iv}{x y:Iv}(h1:V b1=some (cell (.func (.func 179) #[] #[]) t1))(h2:V b2=some (cell (.slice l.p l.n l.c) t2))(h3:V b3=some (cell (.int .i64 i) t3))
  (hr:qAc V l 6 (xs.map Iv.row)) (hy:xs[i]?=some y):PP 220 [x.v,pv b1,pv b2,pv b3] V (.bool (decide (x.name=y.name))):=by
 refine x220 ?_
 unfold w220
 have hn:=hr.n_eq
 have hil:=(List.getElem?_eq_some_iff.1 hy).1
 have hlt:(i:Int)<(l.n:Int):=by omega
 obtain⟨y',hm,hx,hdr,hl,hp,hz,hrow⟩:=hr.get hlt
 rw[hy]at hx
 cases hx
 exact⟨.func (.func 179) #[] #[],rfl,qBp h1,.func (.func 179) #[] #[],rfl,qBp h1,l,qBp h2,_,qBp h3,hp,hz,hlt,_,_,_,_,_,_,hrow,_,_,_,rfl,Tryz.call179,(c179 (x:=x)).callv (first:=[]) (caps:=[]) ⟨_,rfl,qBP hrow,hp,hz,hlt,qBp h3,qBp h2,qBp h1,_,_,_,rfl,Tryz.call179,(c179 (x:=y)).callv (first:=[]) (caps:=[]) ⟨_,rfl,rfl,rfl⟩⟩⟩
theorem c178{V:Mem}{l:Sl}{xs:List Iv}{i:Nat}{y:Iv}(hr:qAc V l 6 (xs.map Iv.row))(hy:xs[i]?=some y):PP 178 [l.v,.int .i64 i,.func (.func 179) #[] #[]] V (.bool ((xs.take i).any fun g=>decide (g.name=y.name))):=by
 refine Pur.mk (x178 (a:=l) (c:=.func (.func 179) #[] #[]) ?_)
 unfold w178
 have hn:=hr.n_eq
 have hc:=hr.cap
 have hil:=(List.getElem?_eq_some_iff.1 hy).1
 refine⟨⟨by omega,by omega,by omega⟩,fun b1 hb1 b2 hb2 b3 hb3=>?_⟩
 have s:=(Mem.sub_new hb1 _).trans ((Mem.sub_new hb2 _).trans (Mem.sub_new hb3 (cell (.int .i64 i) 3)))
 simp only[qGs,sub0]
 refine(c219 (l:=⟨l.p,i,l.c⟩) (first:=[]) (caps:=[pv b1,pv b2,pv b3]) (qAc.pre (hr.sub s) (by omega)) Tryz.call220 (fun g=>decide (g.name=y.name)) (fun x _=>c220 ((Mem.sub_new hb3 _) _ _ ((Mem.sub_new hb2 _) _ _ mss)) ((Mem.sub_new hb3 _) _ _ mss) mss (hr.sub s) hy)).call ⟨_,rfl,rfl,s⟩
theorem c181{V:Mem}{x:Bd}:PP 181 [x.v] V (.string x.proc):=by
 refine x181 ?_
 exact⟨rfl,rfl⟩
theorem c221{V:Mem}{b1 b2 b3 t1 t2 t3 i:Nat}{l:Sl}{xs:List Bd}{x y:Bd}(h1:V b1=some (cell (.func (.func 181) #[] #[]) t1))(h2:V b2=some (cell (.slice l.p l.n l.c) t2))(h3:V b3=some (cell (.int .i64 i) t3))
  (hr:qAc V l 5 (xs.map Bd.row)) (hy:xs[i]?=some y):PP 221 [x.v,pv b1,pv b2,pv b3] V (.bool (decide (x.proc=y.proc))):=by
 refine x221 ?_
 unfold w221
 have hn:=hr.n_eq
 have hil:=(List.getElem?_eq_some_iff.1 hy).1
 have hlt:(i:Int)<(l.n:Int):=by omega
 obtain⟨y',hm,hx,hdr,hl,hp,hz,hrow⟩:=hr.get hlt
 rw[hy]at hx
 cases hx
 exact⟨.func (.func 181) #[] #[],rfl,qBp h1,.func (.func 181) #[] #[],rfl,qBp h1,l,qBp h2,_,qBp h3,hp,hz,hlt,_,_,_,_,_,hrow,_,_,_,rfl,Tryz.call181,(c181 (x:=x)).callv (first:=[]) (caps:=[]) ⟨_,rfl,qBP hrow,hp,hz,hlt,qBp h3,qBp h2,qBp h1,_,_,_,rfl,Tryz.call181,(c181 (x:=y)).callv (first:=[]) (caps:=[]) ⟨_,rfl,rfl,rfl⟩⟩⟩
theorem c180{V:Mem}{l:Sl}{xs:List Bd}{i:Nat}{y:Bd}(hr:qAc V l 5 (xs.map Bd.row))(hy:xs[i]?=some y):PP 180 [l.v,.int .i64 i,.func (.func 181) #[] #[]] V (.bool ((xs.take i).any fun g=>decide (g.proc=y.proc))):=by
 refine Pur.mk (x180 (a:=l) (c:=.func (.func 181) #[] #[]) ?_)
 unfold w180
 have hn:=hr.n_eq
 have hc:=hr.cap
 have hil:=(List.getElem?_eq_some_iff.1 hy).1
 refine⟨⟨by omega,by omega,by omega⟩,fun b1 hb1 b2 hb2 b3 hb3=>?_⟩
 have s:=(Mem.sub_new hb1 _).trans ((Mem.sub_new hb2 _).trans (Mem.sub_new hb3 (cell (.int .i64 i) 3)))
 simp only[qGs,sub0]
 refine(c145 (l:=⟨l.p,i,l.c⟩) (first:=[]) (caps:=[pv b1,pv b2,pv b3]) (qAc.pre (hr.sub s) (by omega)) Tryz.call221 (fun g=>decide (g.proc=y.proc)) (fun x _=>c221 ((Mem.sub_new hb3 _) _ _ ((Mem.sub_new hb2 _) _ _ mss)) ((Mem.sub_new hb3 _) _ _ mss) mss (hr.sub s) hy)).call ⟨_,rfl,rfl,s⟩
end Go.Proofs
namespace Go.Proofs
open Go Go.Sx
theorem wrap_id{n:Nat}(h:n<=2147483648):IntKind.wrap .i64 (n:Int)=n:=qHE ⟨by show (-9223372036854775808:Int)<=n;omega,by show (n:Int)<=9223372036854775807;omega⟩
theorem qGF{P:Program}(w:World)(t u ty e:TypeId)(i:TypeInfo)(z:Value)(ht:P.underlying t=some (.slice e))(hu:P.underlying u=some (.int .i64))(hi:P.info? e=some i)(hz:i.zero=some z)
  (n:Nat) (h0:0<n) (hn:n<=2147483648) (hb:i.bytes<=65536) (hs:0<i.size) :
  (Builtin.append_ #[t,u] ty #[.slice none 0 0,.int .i64 n]).run P w =
   .ok (.slice (some ⟨w.heap.size,0,none⟩) n (grownCap w n 0 e)) (w.drew.alloc (.cells (Builtin.zeroCells z.cells n++Builtin.zeroCells z.cells (grownCap w n 0 e-n)) e)):=by
 have hn':n≠0:=by omega
 have h63':¬(9223372036854775807<(n:Int)):=by omega
 have hbm:n*i.bytes<=281474976710656:=Nat.le_trans (Nat.mul_le_mul hn hb) (by decide)
 have h48':¬(281474976710656<Builtin.nextslicecap n 0*i.bytes):=by rw[nextslicecap_zero h0];omega
 have h48i:¬(281474976710656<(n:Int)*(i.bytes:Int)):=by omega
 have hlt:¬((n:Int)<0):=by omega
 have hsz:i.size≠0:=by omega
 simp[Builtin.append_,run_underlying ht,run_underlying hu,sizeOf,typeInfo,zeroValue,hi,hz,hn',h63',h48',h48i,hlt,hsz,wrap_id hn,asInt,asIntOf,Question.forced,run_firstCells_none,newRow,grownCap]
 exact fun h=>absurd h (Nat.ne_of_gt (Nat.mul_pos h0 hs))
theorem GenK.appendZ{P:Program}{V0 V:Mem}{t u e ty:TypeId}{i:TypeInfo}{z:Value}{sz:Nat}(ht:P.underlying t=some (.slice e))(hu:P.underlying u=some (.int .i64))(hi:P.info? e=some i)(hz:i.zero=some z)(hsize:i.size=sz)(hzs:z.cells.size=sz)(hsz:0<sz)(hby:i.bytes<=65536)
  {x y:Operand} {vals:Operand->Value} {n:Nat} (hx:vals x=.slice none 0 0) (hy:vals y=.int .i64 n) (h0:0<n) (hn:n<=2147483648) (hV:V0.sub V) {q:Value->Mem->Prop}
  (hq:∀b c V',Own V0 V' e sz ⟨some ⟨b,0,none⟩,0,c⟩ []->n<=c->c<=9223372036854775807->q (.slice (sa b) n c) V') :
  GenK P (.call { callee:=.builtin .append,args:=#[x,y],argTypes:=#[t,u] }) ty vals V q:=by
 intro w hw
 subst hsize
 have hr:=qGF (P:=P) w t u ty e i z ht hu hi hz n h0 hn hby hsz
 obtain⟨hnone,hf⟩:=Frm.new hw (.cells (Builtin.zeroCells z.cells n++Builtin.zeroCells z.cells (grownCap w n 0 e-n)) e)
 have hge:=grownCap_ge w n 0 e
 have hle:=grownCap_le_maxLen w n 0 e (by simp only[maxLen];omega)
 refine⟨_,_,_,?_,hf,hq w.heap.size (grownCap w n 0 e) _ ⟨Mem.sub.new hV hnone _,by simp,.inr ⟨w.heap.size,_,rfl,?_,Mem.set_same _ _ _,Nat.zero_le _,hle,?_,by simp⟩⟩ hge (by simp only[maxLen]at hle;omega)⟩
 ·unfold execOp
  simp only[resolve,invoke,builtin,Sem.run_bind,Sem.run_pure,Result.andThen_ok,List.map_toArray,List.map_cons,List.map_nil,hx,hy,hr]
 ·cases h:V0 w.heap.size with
  | none=>rfl
  | some x=>rw[hV _ _ h]at hnone;cases hnone
 ·simp only[Array.size_append,size_zeroCells,hzs,<- Nat.add_mul]
  congr 1
  show _=grownCap w n 0 e
  omega
section
variable{V:Mem}
theorem growF{V0:Mem}(hV:V0.sub V){n:Nat}(hn:n<=1000000):Tri Tryz.prog 137 #[.slice none 0 0,.int .i64 n] V fun r V'=>∃s:Sl,r=.returned (.slice s.p s.n s.c)/\Own V0 V' 113 2 s []:=by
 refine x137 (a:=⟨none,0,0⟩) ?_
 unfold w137
 refine⟨fun h=>absurd h (by omega),fun _=>⟨⟨by simp,by simp⟩,⟨by simp <;> omega,by simp <;> omega⟩,fun h=>⟨⟨by simp,by simp,by simp⟩,?_⟩,fun h=>⟨⟨none,0,0⟩,rfl,Own.nil hV _ _⟩⟩⟩
 have hi:Tryz.prog.info? 113=some (ti 113):=by kernel_rfl
 have hz:(ti 113).zero=some ((ti 113).zero.getD undef):=by kernel_rfl
 have h1:(ti 113).size=2:=by kernel_rfl
 have h2:((ti 113).zero.getD undef).cells.size=2:=by kernel_rfl
 have h3:(ti 113).bytes<=65536:=by rw[show (ti 113).bytes=32 by kernel_rfl];omega
 refine GenK.appendZ (n:=n) Tryz.underlying23 Tryz.underlying3 hi hz h1 h2 (by decide) h3 rfl ?_ (by simp at h;omega) (by omega) hV fun b c V' ho hc hc2=>⟨⟨some ⟨b,0,none⟩,n,c⟩,rfl,⟨by simp,by simp,by simp⟩,?_⟩
 ·show Value.int .i64 ((n:Int)-(((0:Nat):Int)-((0:Nat):Int)))=_
  congr 1 <;> omega
 ·simp only[qGs]
  exact⟨⟨some ⟨b,0,none⟩,0,c⟩,by simp,ho⟩
theorem concatF{l:Sl}{ls:List (Sl×List Fld)}(h:qAc V l 1 (ls.map fun x=>[x.1.v]))(hls:∀x∈ls,qAc V x.1 2 (x.2.map Fld.row))(hlen:ls.length<=100)(hle:∀x∈ls,x.2.length<=1000) :
  Tri Tryz.prog 99 #[.slice l.p l.n l.c] V fun r V'=>∃s:Sl,r=.returned (.slice s.p s.n s.c)/\V.sub V'/\qAc V' s 2 ((ls.flatMap (·.2)).map Fld.row):=by
 refine x99 ?_
 unfold w99
 have hn:=h.n_eq
 refine qGv (mk:=.int .i64) qIc ls.length (fun i n V1=>V=V1/\0<=n/\n<=1000*i) ⟨rfl,by omega,by omega⟩ ?_
 rintro i n V1 J hi ⟨rfl,h0,hb⟩ hJ
 refine⟨fun hlt=>?_,fun hge=>?_⟩
 ·obtain⟨x,hm,hx,hdr,hl,hp,hz,hrow⟩:=h.get hlt
  have e1:=(hls x hm).n_eq
  have e2:=hle x hm
  exact⟨hp,hz,hlt,x.1,hrow,⟨by omega,by omega⟩,fun hneg=>absurd hneg (by omega),fun _=>⟨h.succ hlt,hJ hl _ _ ⟨rfl,by omega,by omega⟩⟩⟩
 ·obtain⟨k,rfl⟩:=Int.eq_ofNat_of_zero_le h0
  refine Tri.mono (growF (Mem.sub.refl V) (n:=k) (by omega)) ?_
  rintro _ V1 ⟨s,rfl,ho⟩
  refine⟨s,rfl,?_⟩
  refine qGv (mk:=fun s:Sl=>.slice s.p s.n s.c) (b0:=s) qCY ls.length (fun i s V2=>Own V V2 113 2 s (((ls.take i).flatMap (·.2)).flatMap Fld.row)/\((ls.take i).flatMap (·.2)).length<=1000*i) ⟨ho,by simp⟩ ?_
  rintro i s V2 J hi ⟨ho,hb⟩ hJ
  have h2:=h.sub ho.sub
  refine⟨fun hlt=>?_,fun hge=>?_⟩
  ·obtain⟨x,hm,hx,hdr,hl,hp,hz,hrow⟩:=h2.get hlt
   have e2:=hle x hm
   refine⟨hp,hz,hlt,x.1,hrow,?_⟩
   refine app23 (s:=s) (u:=x.1) (xs:=(ls.take i).flatMap (·.2)) (ys:=x.2) rfl rfl ho ((hls x hm).sub ho.sub) (by omega) fun s' V' ho'=>⟨s',rfl,h2.succ hlt,hJ hl _ _ ?_⟩
   have ht:(ls.take (i+1)).flatMap (·.2)=(ls.take i).flatMap (·.2)++x.2:=by
    rw[List.take_add_one,hx,List.flatMap_append]
    simp
   rw[ht]
   exact⟨ho',by rw[List.length_append];omega⟩
  ·have:=(h2.done hge).2
   rw[List.take_of_length_le this]at ho
   exact⟨s,rfl,ho.sub,ownF ho⟩
end
end Go.Proofs
namespace Go.Proofs
open Go Go.Sx
attribute [local irreducible] Go.Sx.Tri
section
variable{V:Mem}{d:Ds}{c:Option Addr}{m:Option Nat}{sc:Sc}
theorem c223(h:qBw V c d)(hv:VNe d)(hs:qGK V m sc)(hbody:sc.body=true){x:S}(hx:S.Ok V x)(hsh:qBO x.op x.s x.es x.ls.length x.xs.length=true){res:ByteArray} :
  PP 223 [sV c m sc,x.v,.string res] V (.int .i64 (qFh d sc res x.op x.s x.es)):=by
 obtain⟨a6,a134,a2,a5,alen,aok⟩:=shape_arity hsh
 rw[S.v_eq]
 refine Pur.mk (x223 ?_)
 unfold w223
 have hf:=first_row hx
 refine⟨fun o6=>?_,fun o6=>?_⟩
 ·obtain⟨e0,he0,-⟩:=a6 o6
  rcases hf with⟨h',-⟩|⟨e0',r,he,hn,hp0,hp2,hrow⟩
  ·rw[he0]at h';cases h'
  ·rw[he0]at he
   cases he
   have hok:=aok e0 (by rw[he0];simp)
   have hoe:=hx.eOk e0 (by rw[he0];simp)
   have hk:∀y∈e0.k,ImpE V d c m sc y:=fun y hy=>impExpr h hv hs y (hoe.kids y hy) 2 (okE_kids hok y hy)
   refine⟨hp0,by omega,by omega,_,_,_,_,hrow,(impCall h e0 hoe (arity (qJm hok)).2.2.2 hk).call ⟨_,_,rfl,?_⟩⟩
   unfold qFh rawT qEV
   rw[if_pos o6,he0]
   simp only[if_pos hbody]
   split
   ·exact⟨rfl,Mem.sub.refl _⟩
   ·exact⟨rfl,Mem.sub.refl _⟩
 ·unfold qFh
  rw[if_neg o6]
  have hr:=hx.eRows
  refine qHv (mk:=.int .i64) (mc:=fun s:Sl=>.slice s.p s.n s.c) 0 ⟨none,0,0⟩ qCY x.es.length (fun i s V2=>∃acc,Own V V2 9 1 s (acc.flatMap qBD)/\partsT d sc [] x.es=partsT d sc acc (x.es.drop i)/\acc.length=i) ⟨[],Own.nil (Mem.sub.refl _) _ _,rfl,rfl⟩ ?_
  rintro i b s V2 J hi ⟨acc,hown,hpt,hlen'⟩ hJ
  have hr1:=hr.sub hown.sub
  refine⟨fun hlt=>?_,fun hge=>?_⟩
  ·obtain⟨y,hm,hxy,hdr,hl,hpp,hz,hrow⟩:=hr1.get hlt
   rw[hdr,qCJ]at hpt
   refine⟨hpp,hz,hlt,_,_,_,_,hrow,(impExpr h hv hs y (hx.eOk y hm) 1 (aok y hm) V2 hown.sub).call ⟨_,_,rfl,fun h0=>?_,fun h0=>?_⟩⟩
   ·intro b1 hb1
    rw[if_neg (fun h=>h h0)]at hpt
    refine app232 (s:=s) (u:=⟨some ⟨b1,0,none⟩,1,1⟩) (xs:=acc) (ys:=[(qAl d sc y).1]) rfl rfl (hown.new hb1 _) (one_row mss) (by first|omega | (simp;omega)) fun s' V' ho=>⟨s',rfl,hr1.succ hlt,hJ hl _ _ _ ⟨_,ho,hpt,by simp[hlen']⟩⟩
   ·rw[if_pos h0]at hpt
    rw[hpt]
    simp only[h0,ne_eq,not_false_eq_true,if_true]
    exact⟨by trivial,hown.sub⟩
  ·have hge':=(hr1.done hge).2
   rw[(hr1.done hge).1,qDl]at hpt
   rw[hpt]
   simp only[ne_eq,not_true_eq_false,if_false]
   have hrows:=ownS hown
   have hal:acc.length=x.es.length:=by omega
   have hsub:=hown.sub
   have h2:=h.sub hown.sub
   have sln:=hrows.n_eq
   have at0:=fun h:0<acc.length=>qIo hrows h
   have at1:=fun h:1<acc.length=>qIo hrows h
   have key:∀X n:Int,X=n->(Ending.returned (.int .i64 n)=Ending.returned (.int .i64 X)/\V.sub V2):=fun X n h=>by rw[h];exact⟨rfl,hsub⟩
   refine⟨fun o1=>?_,fun o1=>⟨fun o2=>?_,fun o2=>⟨fun o3=>?_,fun o3=>⟨fun o4=>?_,fun o4=>⟨fun o5=>?_,fun o5=>key _ _ ?_⟩⟩⟩⟩⟩
   ·obtain⟨b1,b2,b3⟩:=at0 (by have:=a134 (by omega);omega)
    obtain⟨mb,rfl,hmap⟩:=(hs.sub hown.sub).at_
    rw[if_pos o1,qIl]
    refine qCd.str Tryz.underlying262 Tryz.underlying9 zero9 hmap ?_
    cases hvv:qBB sc.vars x.s with
    | none =>
     rw[Option.getD_none]
     exact⟨_,_,rfl,fun h=>absurd h (by simp),fun _=>key _ _ (if_pos rfl)⟩
    | some t =>
     rw[Option.getD_some]
     refine⟨t,_,rfl,fun _=>⟨b1,by omega,b2,_,b3,(c258 h2).call ⟨_,rfl,fun hb=>key _ _ ?_,fun hb=>key _ _ ?_⟩⟩,fun h=>absurd rfl h⟩
     ·rw[if_neg (hs.ne.some hvv),if_pos hb]
     ·rw[if_neg (hs.ne.some hvv),if_neg hb]
   ·obtain⟨b1,b2,b3⟩:=at0 (by have:=a2 o2;omega)
    obtain⟨c1,c2,c3⟩:=at1 (by have:=a2 o2;omega)
    rw[if_neg o1,if_pos o2]
    refine⟨b1,by omega,b2,_,b3,(c259 h2 hv).call ⟨_,_,rfl,fun hb=>⟨c1,by omega,c2,_,c3,(c258 h2).call ⟨_,rfl,fun hc=>key _ _ ?_,fun hc=>key _ _ ?_⟩⟩,fun hb=>key _ _ ?_⟩⟩
    ·rw[if_neg (fun h=>h hb),if_pos hc]
    ·rw[if_neg (fun h=>h hb),if_neg hc]
    ·rw[if_pos hb]
   ·obtain⟨b1,b2,b3⟩:=at0 (by have:=a134 (by omega);omega)
    rw[if_neg o1,if_neg o2,if_pos (Or.inl o3)]
    exact⟨b1,by omega,b2,_,b3,fun h=>key _ _ (by rw[if_pos (show _=qAu from h)]),fun h=>key _ _ (by rw[if_neg (show ¬_=qAu from h)])⟩
   ·obtain⟨b1,b2,b3⟩:=at0 (by have:=a134 (by omega);omega)
    rw[if_neg o1,if_neg o2,if_pos (Or.inr o4)]
    exact⟨b1,by omega,b2,_,b3,fun h=>key _ _ (by rw[if_pos (show _=qAu from h)]),fun h=>key _ _ (by rw[if_neg (show ¬_=qAu from h)])⟩
   ·have h5:=a5 o5
    rw[if_neg o1,if_neg o2,if_neg (by omega),if_pos o5]
    refine⟨fun hn=>?_,fun hn=>?_⟩
    ·have h0:acc.length=0:=by omega
     rw[if_pos h0]
     exact⟨fun he=>key _ _ (by rw[if_pos (show res=sE from he)]),fun he=>key _ _ (by rw[if_neg (show ¬res=sE from he)])⟩
    ·have h0:¬acc.length=0:=by omega
     obtain⟨b1,b2,b3⟩:=at0 (by omega)
     rw[if_neg h0]
     refine⟨fun he=>key _ _ (by rw[if_neg (fun h=>h.1 (show res=sE from he))]),fun he=>⟨b1,by omega,b2,_,b3,(c258 h2).call ⟨_,rfl,fun hb=>key _ _ ?_,fun hb=>key _ _ ?_⟩⟩⟩
     ·rw[if_pos ⟨show ¬res=sE from he,hb⟩]
     ·rw[if_neg (fun h=>hb h.2)]
   ·rw[if_neg o1,if_neg o2,if_neg (by omega),if_neg o5]
def qIy(r:Int×Int):Int:=if r.2=0 then 0 else r.1
def Cnt(V:Mem)(b t:Nat)(a:Int)(V1:Mem):Prop:=(V.set b (cell (.int .i64 a) t)).sub V1
theorem Cnt.st{b t:Nat}{a k:Int}{V1:Mem}(h:Cnt V b t a V1):Cnt V b t k (V1.set b (cell (.int .i64 k) t)):=fun q o hq=>by
 by_cases e:q=b
 ·subst e;rw[Mem.set_same]at hq ⊢;exact hq
 ·rw[Mem.set_ne e]at hq ⊢
  exact h q o (by rw[Mem.set_ne e];exact hq)
theorem Cnt.call{b t:Nat}{a k:Int}{V1 V2:Mem}(h:Cnt V b t a V1)(h2:Cnt V1 b t k V2):Cnt V b t k V2:=(Cnt.st h).trans h2
theorem Cnt.cell{b t:Nat}{a:Int}{V1:Mem}(h:Cnt V b t a V1):V1 b=some (Sx.cell (.int .i64 a) t):=h _ _ mss
theorem Cnt.base{V0:Mem}{b t:Nat}{a:Int}{V1:Mem}(h:Cnt V b t a V1)(h0:V0.sub V)(hb:V0 b=none):V0.sub V1:=(h0.set hb _).trans h
theorem Cnt.other{b t q:Nat}{a:Int}{V1:Mem}{o:Obj}(h:Cnt V b t a V1)(hq:V q=some o)(hn:q≠b):V1 q=some o:=h _ _ (by rw[Mem.set_ne hn];exact hq)
def ImpS(V0:Mem)(d:Ds)(c:Option Addr)(m:Option Nat)(sc:Sc)(res:ByteArray)(b t:Nat)(l:List S):Prop:=∀(V:Mem) (sl:Sl) (n dd:Int),V0.sub V->V b=some (cell (.int .i64 n) t)->qAc V0 sl 5 (l.map S.row)->(∀x∈l,S.Ok V0 x)->qFN dd l=true->0<=n->n+qDO l<=1000 ->
 Tri Tryz.prog 183 #[sV c m sc,.slice sl.p sl.n sl.c,.string res,pv b] V fun r V'=>r=.returned (.tuple #[.int .i64 (qIy (qBN d sc res n l)),.int .i64 (qBN d sc res n l).2])/\∃n',Cnt V b t n' V'/\((qBN d sc res n l).2=0->n'=(qBN d sc res n l).1)
theorem impStep{V0:Mem}{b t:Nat}{res:ByteArray}(hb:V0 b=none)(h:qBw V0 c d)(hv:VNe d)(hs:qGK V0 m sc)(hbody:sc.body=true){l:List S}(hk:∀x∈l,ImpS V0 d c m sc res b t x.ls/\ImpS V0 d c m sc res b t x.xs):ImpS V0 d c m sc res b t l:=by
 intro V sl n dd hV hcell hr hok hokS hn0 hn1
 refine x183 ?_
 unfold w183
 refine loop3 l.length (fun i V1=>∃a,Cnt V b t a V1/\0<=a/\a+qDO (l.drop i)<=1000/\qBN d sc res n l=qBN d sc res a (l.drop i)) ⟨n,by unfold Cnt;rw[Mem.set_eq hcell];exact Mem.sub.refl _,hn0,hn1,rfl⟩ ?_
 rintro i b' c' V1 J hi ⟨a,hV1,ha0,ha1,he⟩ hJ
 have hV01:=hV1.base hV hb
 have hcell1:=hV1.cell
 have bad:∀{V2:Mem} (p e k:Int),Cnt V b t k V2->e≠0->qBN d sc res n l=(p,e)->(Ending.returned (.tuple #[.int .i64 p,.int .i64 e])=Ending.returned (.tuple #[.int .i64 (qIy (qBN d sc res n l)),.int .i64 (qBN d sc res n l).2])/\∃n',Cnt V b t n' V2/\((qBN d sc res n l).2=0->n'=(qBN d sc res n l).1)):=fun {V2} p e k h1 h2 h3=>by
  rw[h3]
  unfold qIy
  rw[if_neg h2]
  exact⟨rfl,k,h1,fun h=>absurd h h2⟩
 refine⟨fun hlt=>?_,fun hge=>?_⟩
 ·obtain⟨x,hm,hx,hdr,hl,hpp,hz,hrow⟩:=(hr.sub hV01).get hlt
  have hrow:=S.row_get hrow
  have hox:=hok x hm
  obtain⟨hsh,hk1,hk2⟩:=okS_shape (okSs_mem hokS x hm)
  rw[hdr,szSs_cons,szS_eq]at ha1
  rw[hdr,qHe,stT_eq]at he
  have hC:=Cnt.st (k:=a+1) hV1
  have hW2:=hC.base hV hb
  have cs:=c223 (h.sub hW2) hv (hs.sub hW2) hbody (hox.sub hW2) hsh (res:=res)
  rw[S.v_eq]at cs
  refine⟨hpp,hz,hlt,_,_,_,_,_,hrow,by simp,_,qBp hcell1,by simp,_,qBp hcell1,⟨by omega,by omega⟩,by simp,StT.cell hcell1 (cs.call ⟨_,rfl,fun h0=>?_,fun h0=>?_⟩)⟩
  ·have e1:¬(qFh d sc res x.op x.s x.es≠0):=fun h=>h h0
   rw[if_neg e1]at he
   intro b1 hb1
   have hbb:b1≠b:=fun e=>by subst e;rw[Mem.set_same]at hb1;cases hb1
   have hC2:Cnt V b t (a+1) _:=Mem.sub.new hC hb1 (.cells #[.slice x.ll.p x.ll.n x.ll.c,.slice x.xl.p x.xl.n x.xl.c] 117 (0,0))
   have hn1':=stsT_n d sc res (a+1) x.ls
   refine loop3 2 (fun j V2=>∃k,Cnt V b t k V2/\V2 b1=some (.cells #[.slice x.ll.p x.ll.n x.ll.c,.slice x.xl.p x.xl.n x.xl.c] 117 (0,0))/\((j=0/\k=a+1)∨(j=1/\(qBN d sc res (a+1) x.ls).2=0/\k=(qBN d sc res (a+1) x.ls).1)∨(j=2/\(qBN d sc res (a+1) x.ls).2=0/\(qBN d sc res (qBN d sc res (a+1) x.ls).1 x.xs).2=0/\k=(qBN d sc res (qBN d sc res (a+1) x.ls).1 x.xs).1))) ⟨a+1,hC2,Mem.set_same _ _ _,.inl ⟨rfl,rfl⟩⟩ ?_
   rintro j b'' c'' V2 J1 hj ⟨k,hk2',hb1V,hst⟩ hJ1
   have hV02:=hk2'.base hV hb
   refine⟨fun hj2=>?_,fun hj2=>?_⟩
   ·rcases hst with⟨rfl,rfl⟩|⟨rfl,hz1,rfl⟩|⟨rfl,-⟩
    ·refine⟨by simp[qAa],by omega,by omega,x.ll,qAd hb1V 0 1 (by simp),Tri.mono ((hk x hm).1 V2 x.ll (a+1) (dd+1) hV02 hk2'.cell hox.lRows hox.lOk hk1 (by omega) (by omega)) ?_⟩
     rintro _ V3 ⟨rfl,n',hn',hn2⟩
     refine⟨_,_,rfl,fun h3=>?_,fun h3=>?_⟩
     ·have:=hn2 h3
      subst this
      exact⟨⟨by omega,by omega⟩,hJ1 (by omega) _ _ _ ⟨_,hk2'.call hn',hn'.other hb1V hbb,.inr (.inl ⟨rfl,h3,rfl⟩)⟩⟩
     ·have e2:(qBN d sc res (a+1) x.ls).2≠0:=h3
      rw[if_pos e2,if_pos e2]at he
      refine bad _ _ _ (hk2'.call hn') e2 ?_
      rw[he];unfold qIy;rw[if_neg e2]
    ·have e2:¬(qBN d sc res (a+1) x.ls).2≠0:=fun h=>h hz1
     rw[if_neg e2]at he
     have hn1':=hn1' hz1
     refine⟨by simp[qAa],by omega,by omega,x.xl,qAd hb1V 1 1 (by simp),Tri.mono ((hk x hm).2 V2 x.xl _ (dd+1) hV02 hk2'.cell hox.xRows hox.xOk hk2 (by omega) (by omega)) ?_⟩
     rintro _ V3 ⟨rfl,n',hn',hn2⟩
     refine⟨_,_,rfl,fun h3=>?_,fun h3=>?_⟩
     ·have:=hn2 h3
      subst this
      exact⟨⟨by omega,by omega⟩,hJ1 (by omega) _ _ _ ⟨_,hk2'.call hn',hn'.other hb1V hbb,.inr (.inr ⟨rfl,hz1,h3,rfl⟩)⟩⟩
     ·have e3:(qBN d sc res (qBN d sc res (a+1) x.ls).1 x.xs).2≠0:=h3
      rw[if_pos e3]at he
      refine bad _ _ _ (hk2'.call hn') e3 ?_
      rw[he];unfold qIy;rw[if_neg e3]
    ·omega
   ·rcases hst with⟨rfl,-⟩|⟨rfl,-⟩|⟨rfl,hz1,hz2,rfl⟩
    ·omega
    ·omega
    ·have e2:¬(qBN d sc res (a+1) x.ls).2≠0:=fun h=>h hz1
     have e3:¬(qBN d sc res (qBN d sc res (a+1) x.ls).1 x.xs).2≠0:=fun h=>h hz2
     rw[if_neg e2,if_neg e3]at he
     have hn1':=hn1' hz1
     have hn2':=stsT_n d sc res _ x.xs hz2
     exact⟨(hr.sub hV01).succ hlt,hJ hl _ _ _ ⟨_,hk2',by omega,by omega,he⟩⟩
  ·have e1:qFh d sc res x.op x.s x.es≠0:=h0
   rw[if_pos e1,if_pos e1]at he
   exact bad _ _ _ hC e1 he
 ·rw[((hr.sub hV01).done hge).1,stsT_nil]at he
  rw[he]
  exact⟨rfl,a,hV1,fun _=>rfl⟩
theorem impStmts{V0:Mem}{b t:Nat}{res:ByteArray}(hb:V0 b=none)(h:qBw V0 c d)(hv:VNe d)(hs:qGK V0 m sc)(hbody:sc.body=true)(l:List S):ImpS V0 d c m sc res b t l:=by
 have hS:∀s:S,ImpS V0 d c m sc res b t s.ls/\ImpS V0 d c m sc res b t s.xs:=by
  intro s
  induction s using S.ind with
  | h s i1 i2=>exact⟨impStep hb h hv hs hbody i1,impStep hb h hv hs hbody i2⟩
 exact impStep hb h hv hs hbody fun x _=>hS x
theorem c214{b t:Nat}{f x:Fld}(hb:V b=some (.cells #[.string f.name,.string f.ty] t (0,0))):PP 214 [x.v,pv b] V (.bool (decide (x.name=f.name))):=by
 refine x214 ?_
 unfold w214
 exact⟨by simp,_,qAd hb 0 1 (by simp),rfl,rfl⟩
theorem c169(h:qBw V c d){l:Sl}{xs:List Fld}(hl:qAc V l 2 (xs.map Fld.row)):PP 169 [.pointer c,l.v] V (.int .i64 (qDf d xs)):=by
 refine Pur.mk (x169 ?_)
 unfold w169 qDf
 generalize hf:(fun i f=>if qFM d xs i f≠0 then some (qFM d xs i f) else none)=fn
 refine qBe xs.length (fun k V1=>V.sub V1/\qAi fn 0 xs=qAi fn k (xs.drop k)) ⟨Mem.sub.refl _,rfl⟩ ?_
 rintro k b V1 J hi ⟨hV,ha⟩ hJ
 have hl1:=hl.sub hV
 refine⟨fun hk=>?_,fun hk=>?_⟩
 ·obtain⟨g,hmg,hxg,hdg,hlg,hpg,hzg,hrowg⟩:=hl1.get hk
  rw[hdg]at ha
  have hc:=hl1.cap
  refine⟨hpg,hzg,hk,_,_,hrowg,⟨by omega,by omega,by omega⟩,fun b1 hb1=>?_⟩
  have s1:=Mem.sub_new hb1 (.cells #[.string g.name,.string g.ty] 113 (0,0))
  have hV2:=hV.trans s1
  simp only[qGs,sub0]
  have key:∀X n:Int,X=n->(Ending.returned (.int .i64 n)=Ending.returned (.int .i64 X)/\V.sub (V1.set b1 (.cells #[.string g.name,.string g.ty] 113 (0,0)))):=fun X n h=>by rw[h];exact⟨rfl,hV2⟩
  refine(c75 (l:=⟨l.p,k,l.c⟩) (first:=[]) (caps:=[pv b1]) (qAc.pre (hl.sub hV2) (by omega)) Tryz.call214 (fun x=>decide (x.name=g.name)) (fun x _=>c214 (f:=g) mss)).call ⟨_,rfl,fun h1=>?_,fun h1=>⟨by simp[qAa],_,qAd mss 1 1 (by simp),(c172 (h.sub hV2)).call ⟨_,rfl,fun h2=>?_,fun h2=>?_⟩⟩⟩
  ·have e:qFM d xs k g=10:=by unfold qFM;rw[if_pos h1]
   rw[ha,qAk (b:=10) (by rw[<- hf];exact(if_pos (by rw[e];decide)).trans (by rw[e]))]
   exact key _ _ rfl
  ·have e:qFM d xs k g=0:=by unfold qFM;rw[if_neg h1,if_pos h2]
   exact⟨hl1.succ hk,hJ hlg _ _ ⟨hV2,by rw[ha,qAr (by rw[<- hf];exact if_neg fun h=>h e)]⟩⟩
  ·have e:qFM d xs k g=9:=by unfold qFM;rw[if_neg h1,if_neg h2]
   rw[ha,qAk (b:=9) (by rw[<- hf];exact(if_pos (by rw[e];decide)).trans (by rw[e]))]
   exact key _ _ rfl
 ·rw[(hl1.done hk).1,qAi]at ha
  rw[ha];exact⟨rfl,hV⟩
def FltAt(V:Mem)(p:Option Addr)(o:Option Flt):Prop:=match o with
 | none=>p=none
 | some r=>∃b t,p=some ⟨b,0,none⟩/\V b=some (.cells #[.string r.1,.int .i64 r.2.1,.int .i64 r.2.2] t (0,0))
def FltC(f:FuncId)(args:List Value)(V:Mem)(o:Option Flt):Prop:=Tri Tryz.prog f args.toArray V fun r V'=>∃p,r=.returned (.pointer p)/\V.sub V'/\FltAt V' p o
theorem c185(h:qBw V c d)(hv:VNe d)(hs:qGK V m sc){e:E}(he:E.Ok V e)(hok:okE 1 e=true){s t:ByteArray} :
  FltC 185 [sV c m sc,.string s,e.v,.string t] V (if qBW d sc e t≠0 then some (s,-1,qBW d sc e t) else none):=by
 refine x185 ?_
 unfold w185 qBW
 refine(impExpr h hv hs e he 1 hok V (Mem.sub.refl _)).call ⟨_,_,rfl,fun h0=>⟨fun h1=>?_,fun h1=>fun b hb=>?_⟩,fun h0=>fun b hb=>?_⟩
 ·simp only[h0,h1,ne_eq,not_true_eq_false,if_false,if_true];exact⟨_,rfl,Mem.sub.refl _,rfl⟩
 ·simp only[h0,h1,ne_eq,not_true_eq_false,if_false];exact⟨_,rfl,Mem.sub_new hb _,b,_,rfl,Mem.set_same _ _ _⟩
 ·simp only[h0,ne_eq,not_false_eq_true,if_true];exact⟨_,rfl,Mem.sub_new hb _,b,_,rfl,Mem.set_same _ _ _⟩
end
def qGC:Prop:=∀(V:Mem) (c:Option Addr) (d:Ds) (body:Bool) (l:Sl) (ls:List (Sl×List Fld)),qBw V c d->qAc V l 1 (ls.map fun x=>[x.1.v])->(∀x∈ls,qAc V x.1 2 (x.2.map Fld.row)) ->
 Tri Tryz.prog 222 #[.pointer c,.bool body,.slice l.p l.n l.c] V fun r V'=>∃mb,r=.returned (.agg #[.pointer c,.map (some mb),.bool body])/\V.sub V'/\V mb=none/\qAZ V' mb (fun k=>(qBB (ls.flatMap (·.2)++d.globals) k).map Value.string)
def NewC:Prop:=∀(V:Mem) (d:Ds),Ds.Ok V d->Tri Tryz.prog 94 #[d.v] V fun r V'=>∃c,r=.returned (.pointer c)/\V.sub V'/\qBw V' c d
section
variable{V:Mem}{d:Ds}{c:Option Addr}
theorem qFs{a b:List Fld}(h:NE a)(k:NE b):NE (a++b):=fun f hf=>by
 rcases List.mem_append.1 hf with h'|h'
 ·exact h f h'
 ·exact k f h'
theorem impInProc(hS:qGC)(h:qBw V c d)(hv:VNe d){p:Pr}(hm:p∈d.procs)(hp:Pr.Ok V p):Tri Tryz.prog 182 #[.pointer c,p.v] V fun r V'=>∃m,r=.returned (sV c m (qAh d p))/\V.sub V'/\qGK V' m (qAh d p):=by
 refine x182 ?_
 unfold w182
 intro b hb
 have hs:=Mem.sub_new hb (.cells #[.slice p.ps.p p.ps.n p.ps.c,.slice p.ls.p p.ls.n p.ls.c] 23 (0,0))
 refine Tri.mono (hS _ c d true ⟨some ⟨b,0,none⟩,2,2⟩ [(p.ps,p.params),(p.ls,p.locals)] (h.sub hs) (qAc.cells (xs:=[(p.ps,p.params),(p.ls,p.locals)]) (row:=fun x=>[x.1.v]) mss rfl (fun _=>rfl) rfl (by simp)) ?_) ?_
 ·intro x hx
  simp only[List.mem_cons,List.not_mem_nil,or_false]at hx
  rcases hx with rfl|rfl
  ·exact hp.params.sub hs
  ·exact hp.locals.sub hs
 ·rintro _ V' ⟨mb,rfl,h1,h2,h3⟩
  refine⟨_,_,_,rfl,some mb,rfl,hs.trans h1,⟨mb,rfl,h3.congr fun k=>?_⟩,qFs (qFs (hv.params p hm).1 (hv.params p hm).2) hv.globals⟩
  simp[qAh]
theorem impInBound(hS:qGC)(h:qBw V c d)(hv:VNe d){p:Pr}(hm:p∈d.procs)(hp:Pr.Ok V p):Tri Tryz.prog 186 #[.pointer c,p.v] V fun r V'=>∃m,r=.returned (sV c m (qCz d p))/\V.sub V'/\qGK V' m (qCz d p):=by
 refine x186 ?_
 unfold w186
 intro b hb
 have hs:=Mem.sub_new hb (.cells #[.slice p.ps.p p.ps.n p.ps.c] 23 (0,0))
 refine Tri.mono (hS _ c d false ⟨some ⟨b,0,none⟩,1,1⟩ [(p.ps,p.params)] (h.sub hs) (qAc.cells (xs:=[(p.ps,p.params)]) (row:=fun x=>[x.1.v]) mss rfl (fun _=>rfl) rfl (by simp)) ?_) ?_
 ·intro x hx
  simp only[List.mem_cons,List.not_mem_nil,or_false]at hx
  rcases hx with rfl
  exact hp.params.sub hs
 ·rintro _ V' ⟨mb,rfl,h1,h2,h3⟩
  refine⟨_,_,_,rfl,some mb,rfl,hs.trans h1,⟨mb,rfl,h3.congr fun k=>?_⟩,qFs (hv.params p hm).1 hv.globals⟩
  simp[qCz]
theorem qEc(hS:qGC)(h:qBw V c d)(hv:VNe d){t:ByteArray}:Tri Tryz.prog 184 #[.pointer c,.string t] V fun r V'=>∃m,r=.returned (sV c m (qAM d t))/\V.sub V'/\qGK V' m (qAM d t):=by
 refine x184 ?_
 unfold w184
 refine Tri.mono (hS V c d false ⟨none,0,0⟩ [] h qAc.nil (by simp)) ?_
 rintro _ V' ⟨mb,rfl,h1,h2,h3⟩
 refine⟨_,_,_,rfl,fun he=>?_,fun he=>?_⟩
 ·refine⟨some mb,rfl,h1,⟨mb,rfl,h3.congr fun k=>?_⟩,?_⟩
  ·unfold qAM sE;rw[if_pos he];rfl
  ·unfold qAM sE;rw[if_pos he];exact hv.globals
 ·refine UpdK.str Tryz.underlying262 Tryz.underlying9 h3 fun o ho=>?_
  refine⟨some mb,rfl,h1.set h2 _,⟨mb,rfl,ho.congr fun k=>?_⟩,?_⟩
  ·unfold qAM sE
   rw[if_neg he]
   unfold qBB
   simp only[List.flatMap_nil,List.nil_append,List.cons_append,List.find?_cons]
   rw[show (⟨#[116,104,105,115]⟩:ByteArray)=sThisF from rfl]
   by_cases hk:k=sThisF
   ·subst hk
    rw[if_pos rfl,decide_eq_true rfl];rfl
   ·rw[if_neg (fun e=>hk e),decide_eq_false (fun e:sThisF=k=>hk e.symm)]
  ·unfold qAM sE
   rw[if_neg he]
   refine qFs (fun f hf=>?_) hv.globals
   simp only[List.mem_cons,List.not_mem_nil,or_false]at hf
   subst hf
   exact he
theorem qCI{V1:Mem}{X:Option Flt}{s:ByteArray}{n e:Int}(hX:X=some (s,n,e))(h:V.sub V1):qAC [(.string s),(.int .i64 n),(.int .i64 e)] 182 V1 fun v8 V2=>(∃p,Ending.returned (.pointer (qAa v8 0))=.returned (.pointer p)/\V.sub V2/\FltAt V2 p X):=fun b hb=>by
 subst hX
 exact⟨some ⟨b,0,none⟩,rfl,h.trans (Mem.sub_new hb _),b,_,rfl,Mem.set_same _ _ _⟩
theorem oneT_cases(d:Ds)(l:List Fld)(i:Nat)(f:Fld):((l.take i).any (fun g=>decide (g.name=f.name))=true/\qFM d l i f=10)∨(¬(l.take i).any (fun g=>decide (g.name=f.name))=true/\qBn d f.ty=true/\qFM d l i f=0)∨(¬(l.take i).any (fun g=>decide (g.name=f.name))=true/\¬qBn d f.ty=true/\qFM d l i f=9):=by
 unfold qFM
 by_cases h:(l.take i).any (fun g=>decide (g.name=f.name))=true
 ·exact .inl ⟨h,if_pos h⟩
 ·by_cases k:qBn d f.ty=true
  ·exact .inr (.inl ⟨h,k,by rw[if_neg h,if_pos k]⟩)
  ·exact .inr (.inr ⟨h,k,by rw[if_neg h,if_neg k]⟩)
theorem impTypes(h:qBw V c d):FltC 130 [.pointer c] V (qGn d):=by
 refine x130 ?_
 unfold w130 qGn
 refine⟨h.nn,h.nn,qAe h.nn,d.ts,h.cell (i:=1) rfl,?_⟩
 unfold types1
 generalize hf1:(fun i (t:Ty)=>if (d.types.take i).any (fun g=>decide (g.name=t.name))=true then some ((t.name,-1,10):Flt) else none)=F1
 refine qBe d.types.length (fun k V1=>V=V1/\qAi F1 0 d.types=qAi F1 k (d.types.drop k)) ⟨rfl,rfl⟩ ?_
 rintro k b V1 J hi ⟨rfl,ha⟩ hJ
 have rf:=Mem.sub.refl V
 refine⟨fun hk=>?_,fun hk=>?_⟩
 ·obtain⟨g,hm,hx,hdr,hl,hp,hz,hrow⟩:=h.ok.types.get hk
  rw[hdr]at ha
  refine⟨hp,hz,hk,_,_,hrow,h.nn,h.nn,qAe h.nn,d.ts,h.cell (i:=1) rfl,(c167 h.ok.types hx).call ⟨_,rfl,fun h1=>qCI ?_ rf,fun h1=>⟨h.ok.types.succ hk,hJ hl _ _ ⟨rfl,?_⟩⟩⟩⟩
  ·rw[ha,qAk (b:=(g.name,-1,10)) (by rw[<- hf1];exact if_pos h1)];rfl
  ·rw[ha,qAr (by rw[<- hf1];exact if_neg h1)]
 rw[(h.ok.types.done hk).1,qAi]at ha
 rw[ha,Option.none_or]
 refine⟨h.nn,h.nn,qAe h.nn,d.ts,h.cell (i:=1) rfl,?_⟩
 unfold types2
 generalize hf2:(fun(_:Nat) (t:Ty)=>if qDf d t.fields≠0 then some ((t.name,-1,qDf d t.fields):Flt) else none)=F2
 refine qBe d.types.length (fun k V1=>V=V1/\qAi F2 0 d.types=qAi F2 k (d.types.drop k)) ⟨rfl,rfl⟩ ?_
 rintro k b V1 J hi ⟨rfl,ha⟩ hJ
 refine⟨fun hk=>?_,fun hk=>?_⟩
 ·obtain⟨g,hm,hx,hdr,hl,hp,hz,hrow⟩:=h.ok.types.get hk
  rw[hdr]at ha
  refine⟨hp,hz,hk,_,_,hrow,(c169 h (h.ok.typesOk g hm).fields).call ⟨_,rfl,fun h1=>⟨h.ok.types.succ hk,hJ hl _ _ ⟨rfl,?_⟩⟩,fun h1=>qCI ?_ rf⟩⟩
  ·rw[ha,qAr (by rw[<- hf2];exact if_neg fun e=>e h1)]
  ·rw[ha,qAk (b:=(g.name,-1,qDf d g.fields)) (by rw[<- hf2];exact if_pos h1)];rfl
 rw[(h.ok.types.done hk).1,qAi]at ha
 rw[ha,Option.none_or]
 refine⟨h.nn,h.nn,qAe h.nn,d.gs,h.cell (i:=2) rfl,?_⟩
 unfold types3
 generalize hf3:(fun i (f:Fld)=>if qFM d d.globals i f≠0 then some ((f.name,-1,qFM d d.globals i f):Flt) else none)=F3
 refine qBe d.globals.length (fun k V1=>V=V1/\qAi F3 0 d.globals=qAi F3 k (d.globals.drop k)) ⟨rfl,rfl⟩ ?_
 rintro k b V1 J hi ⟨rfl,ha⟩ hJ
 refine⟨fun hk=>?_,fun hk=>?_⟩
 ·obtain⟨g,hm,hx,hdr,hl,hp,hz,hrow⟩:=h.ok.globals.get hk
  rw[hdr]at ha
  have ho:=oneT_cases d d.globals k g
  refine⟨hp,hz,hk,_,_,hrow,h.nn,h.nn,qAe h.nn,d.gs,h.cell (i:=2) rfl,(c170 h.ok.globals hx).call ⟨_,rfl,fun h1=>qCI ?_ rf,fun h1=>(c172 h).call ⟨_,rfl,fun h2=>⟨h.ok.globals.succ hk,hJ hl _ _ ⟨rfl,?_⟩⟩,fun h2=>qCI ?_ rf⟩⟩⟩
  ·rcases ho with⟨_,e⟩|⟨h',_⟩|⟨h',_⟩
   ·rw[ha,qAk (b:=(g.name,-1,10)) (by rw[<- hf3];exact(if_pos (by rw[e];decide)).trans (by rw[e]))]
   ·exact absurd h1 h'
   ·exact absurd h1 h'
  ·rcases ho with⟨h',_⟩|⟨_,_,e⟩|⟨_,h',_⟩
   ·exact absurd h' h1
   ·rw[ha,qAr (by rw[<- hf3];exact if_neg fun h=>h e)]
   ·exact absurd h2 h'
  ·rcases ho with⟨h',_⟩|⟨_,h',_⟩|⟨_,_,e⟩
   ·exact absurd h' h1
   ·exact absurd h' h2
   ·rw[ha,qAk (b:=(g.name,-1,9)) (by rw[<- hf3];exact(if_pos (by rw[e];decide)).trans (by rw[e]))]
 rw[(h.ok.globals.done hk).1,qAi]at ha
 rw[ha]
 exact⟨none,rfl,rf,rfl⟩
theorem impHeads(h:qBw V c d)(hsm:Small d):FltC 131 [.pointer c] V (qEF d):=by
 refine x131 ?_
 unfold w131 qEF
 refine⟨h.nn,h.nn,qAe h.nn,d.ps,h.cell (i:=3) rfl,?_⟩
 generalize hf1:(fun i (p:Pr)=>if (d.procs.take i).any (fun g=>decide (g.name=p.name))=true then some ((p.name,-1,10):Flt) else if qDf d (p.params++p.locals)≠0 then some (p.name,-1,qDf d (p.params++p.locals)) else if p.result≠sE/\qBn d p.result=false then some (p.name,-1,9) else none)=F1
 refine qBe d.procs.length (fun k V1=>V.sub V1/\qAi F1 0 d.procs=qAi F1 k (d.procs.drop k)) ⟨Mem.sub.refl _,rfl⟩ ?_
 rintro k b V1 J hi ⟨hV,ha⟩ hJ
 have h1:=h.sub hV
 refine⟨fun hk=>?_,fun hk=>?_⟩
 ·obtain⟨g,hm,hx,hdr,hl,hp,hz,hrow⟩:=h1.ok.procs.get hk
  rw[hdr]at ha
  have hg:=h1.ok.procsOk g hm
  have hs:=hsm.2 g hm
  refine⟨hp,hz,hk,_,_,_,_,_,hrow,h.nn,h.nn,qAe h.nn,d.ps,h1.cell (i:=3) rfl,(c173 h1.ok.procs hx).call ⟨_,rfl,fun n1=>qCI ?_ hV,fun n1=>?_⟩⟩
  ·rw[ha,qAk (b:=(g.name,-1,10)) (by rw[<- hf1];exact if_pos n1)]
  intro b1 hb1
  have s1:=Mem.sub_new hb1 (.cells #[.slice g.ps.p g.ps.n g.ps.c,.slice g.ls.p g.ls.n g.ls.c] 23 (0,0))
  refine Tri.mono (concatF (l:=⟨some ⟨b1,0,none⟩,2,2⟩) (ls:=[(g.ps,g.params),(g.ls,g.locals)]) (qAc.cells (xs:=[(g.ps,g.params),(g.ls,g.locals)]) (row:=fun x=>[x.1.v]) mss rfl (fun _=>rfl) rfl (by simp)) ?_ (by simp) ?_) ?_
  ·intro x hx
   simp only[List.mem_cons,List.not_mem_nil,or_false]at hx
   rcases hx with rfl|rfl
   ·exact hg.params.sub s1
   ·exact hg.locals.sub s1
  ·intro x hx
   simp only[List.mem_cons,List.not_mem_nil,or_false]at hx
   rcases hx with rfl|rfl
   ·exact hs.1
   ·exact hs.2
  rintro _ V2 ⟨s',rfl,h12,hrows⟩
  have hV2:=hV.trans (s1.trans h12)
  have hfl:([(g.ps,g.params),(g.ls,g.locals)]:List (Sl×List Fld)).flatMap (·.2)=g.params++g.locals:=by simp
  rw[hfl]at hrows
  refine⟨s',rfl,(c169 (h.sub hV2) hrows).call ⟨_,rfl,fun h2=>?_,fun h2=>qCI ?_ hV2⟩⟩
  ·have n2:¬(qDf d (g.params++g.locals)≠0):=fun e=>e h2
   refine⟨fun h3=>⟨h1.ok.procs.succ hk,hJ hl _ _ ⟨hV2,?_⟩⟩,fun h3=>(c172 (h.sub hV2)).call ⟨_,rfl,fun h4=>⟨h1.ok.procs.succ hk,hJ hl _ _ ⟨hV2,?_⟩⟩,fun h4=>qCI ?_ hV2⟩⟩
   ·rw[ha,qAr (by rw[<- hf1];exact(if_neg n1).trans ((if_neg n2).trans (if_neg fun e=>e.1 h3)))]
   ·rw[ha,qAr (by rw[<- hf1];exact(if_neg n1).trans ((if_neg n2).trans (if_neg fun e=>by rw[h4]at e;exact absurd e.2 (by simp))))]
   ·rw[ha,qAk (b:=(g.name,-1,9)) (by rw[<- hf1];exact(if_neg n1).trans ((if_neg n2).trans (if_pos ⟨h3,eq_false_of_ne_true h4⟩)))]
  ·rw[ha,qAk (b:=(g.name,-1,qDf d (g.params++g.locals))) (by rw[<- hf1];exact(if_neg n1).trans (if_pos h2))]
 rw[(h1.ok.procs.done hk).1,qAi]at ha
 rw[ha]
 exact⟨none,rfl,hV,rfl⟩
end
end Go.Proofs
