/- Part 10 of a proof of a law of this seat: no statement of the seat is proved here. -/
import Derived.Test.YtlnbdjekdkodcaaGreatDoorPart09
set_option linter.unusedVariables false
set_option linter.unusedSimpArgs false
namespace Go.Proofs
open Go Go.Sx
attribute [local irreducible] Go.Sx.Tri
noncomputable def ti(t:Nat):TypeInfo:=(Tryz.prog.info? t).getD default
section
variable{α:Type}
def AppP(t e sz:Nat)(row:α->List Value):Prop:=∀{V0 V:Mem} {ty:Nat} {x y:Operand} {vals:Operand->Value} {s u:Sl} {xs ys:List α} (hx:vals x=.slice s.p s.n s.c) (hy:vals y=.slice u.p u.n u.c) (own:Sx.Own V0 V e sz s (xs.flatMap row)) (hnew:qAd V u sz (ys.map row))
 (hfit:xs.length+ys.length<=2147483648) {q:Value->Mem->Prop} (hq:∀s' V',Sx.Own V0 V' e sz s' ((xs++ys).flatMap row)->q (.slice s'.p s'.n s'.c) V'),
 GenK Tryz.prog (.call { callee:=.builtin .append,args:=#[x,y],argTypes:=#[t,t] }) ty vals V q
theorem appG{t e sz:Nat}{row:α->List Value}(ht:Tryz.prog.underlying t=some (.slice e))(hi:Tryz.prog.info? e=some (ti e))(hz:(ti e).zero=some ((ti e).zero.getD undef))(h1:(ti e).size=sz)(h2:((ti e).zero.getD undef).cells.size=sz)(h3:decide ((ti e).bytes<=65536)=true)
  (h0:0<sz) (hr:∀x,(row x).length=sz) (hu:∀x,∀u∈row x,u.oneCell'=true):AppP t e sz row:=by
 intro V0 V ty x y vals s u xs ys hx hy own hnew hfit q hq
 exact GenK.appendS ht hi hz h1 h2 h0 (of_decide_eq_true h3) hx hy own hr hnew hu hfit hq
end
theorem app217:AppP 217 9 1 qBf:=appG Tryz.underlying217 (by kernel_rfl) (by kernel_rfl) (by kernel_rfl) (by kernel_rfl) (by kernel_rfl) (by decide) (by intro _;rfl) fun x u hu=>by simp[qBf,vS]at hu;rw[hu];rfl
theorem qGe:AppP 23 81 2 Fld.row:=appG Tryz.underlying23 (by kernel_rfl) (by kernel_rfl) (by kernel_rfl) (by kernel_rfl) (by kernel_rfl) (by decide) (by intro _;rfl) fun x u hu=>by simp[Fld.row,vS]at hu;rcases hu with rfl|rfl <;> rfl
def qHo{α:Type}(p:α->Bool)(xs:List α):Int:=match xs.findIdx? p with|some i=>(i:Int) | none=>-1
theorem qDM{α:Type}{p:α->Bool}{xs:List α}{i:Nat}{x:α}(h:qAY (fun y=>!p y) xs i)(hx:xs[i]?=some x)(hp:p x=true):qHo p xs=i:=by
 have hl:=(List.getElem?_eq_some_iff.1 hx).1
 have hg:=(List.getElem?_eq_some_iff.1 hx).2
 have:xs.findIdx? p=some i:=List.findIdx?_eq_some_iff_getElem.2 ⟨hl,by rw[hg];exact hp,fun j hj=>by
  have:=h j _ hj (List.getElem?_eq_getElem (Nat.lt_trans hj hl))
  simpa using this⟩
 unfold qHo;rw[this]
theorem qEz{α:Type}{p:α->Bool}{xs:List α}{i:Nat}(h:qAY (fun y=>!p y) xs i)(hi:xs.length<=i):qHo p xs=-1:=by
 have:xs.findIdx? p=none:=List.findIdx?_eq_none_iff.2 fun x hx=>by
  obtain⟨j,hj,rfl⟩:=List.mem_iff_getElem.1 hx
  have:=h j _ (by omega) (List.getElem?_eq_getElem hj)
  simpa using this
 unfold qHo;rw[this]
theorem qAB{α:Type}(p:α->Bool)(xs:List α):(qHo p xs=-1/\xs.find? p=none/\xs.any p=false)∨∃(i:Nat) (x:α),qHo p xs=i/\xs[i]?=some x/\xs.find? p=some x/\i<xs.length/\p x=true/\x∈xs/\xs.any p=true/\(xs.take i).any p=false:=by
 cases h:xs.findIdx? p with
 | none =>
  have h':=List.findIdx?_eq_none_iff.1 h
  refine .inl ⟨by unfold qHo;rw[h],List.find?_eq_none.2 fun x hx=>by rw[h' x hx];simp,List.any_eq_false.2 fun x hx=>by rw[h' x hx];simp⟩
 | some i =>
  obtain⟨hl,hp,hn⟩:=List.findIdx?_eq_some_iff_getElem.1 h
  refine .inr ⟨i,xs[i],by unfold qHo;rw[h],List.getElem?_eq_getElem hl,?_,hl,hp,List.getElem_mem _,List.any_eq_true.2 ⟨_,List.getElem_mem _,hp⟩,?_⟩
  ·rw[List.find?_eq_some_iff_getElem]
   exact⟨hp,i,hl,rfl,fun j hj=>by simpa using hn j hj⟩
  ·rw[List.any_eq_false]
   intro x hx
   obtain⟨j,hj,rfl⟩:=List.mem_iff_getElem.1 hx
   rw[List.length_take]at hj
   rw[List.getElem_take]
   exact hn j (by omega)
theorem qDa{α:Type}{p:α->Bool}{xs:List α}{i:Nat}{x:α}(h:qAY (fun y=>!p y) xs i)(hx:xs[i]?=some x)(hp:p x=false):qAY (fun y=>!p y) xs (i+1):=h.succ hx (by simp[hp])
theorem c92{V:Mem}{d:Ds}(h:Ds.Ok V d){s:ByteArray}:PP 92 [d.v,.string s] V (.int .i64 (qHo (fun t=>decide (t.name=s)) d.types)):=by
 refine x92 ?_
 unfold w92
 refine qAC d.types.length (fun i V1=>V=V1/\qAY (fun t=>!decide (t.name=s)) d.types i) ⟨rfl,qAY.zero _ _⟩ ?_
 rintro i b V1 J hi ⟨rfl,ha⟩ hJ
 refine⟨fun hlt=>?_,fun hge=>?_⟩
 ·obtain⟨x,hm,hx,hdr,hl,hp,hz,hrow⟩:=h.types.get hlt
  refine⟨hp,hz,hlt,qAe hp,_,_,hrow,fun he=>?_,fun he=>⟨h.types.succ hlt,hJ hl _ _ ⟨rfl,qDa (p:=fun t=>decide (t.name=s)) ha hx (decide_eq_false he)⟩⟩⟩
  rw[qDM (p:=fun t=>decide (t.name=s)) ha hx (decide_eq_true he)];exact⟨rfl,rfl⟩
 ·rw[qEz (p:=fun t=>decide (t.name=s)) ha (h.types.done hge).2];exact⟨rfl,rfl⟩
theorem c23{V:Mem}{d:Ds}(h:Ds.Ok V d){s:ByteArray}:PP 23 [d.v,.string s] V (.int .i64 (qHo (fun t=>decide (t.name=s)) d.procs)):=by
 refine x23 ?_
 unfold w23
 refine qAC d.procs.length (fun i V1=>V=V1/\qAY (fun t=>!decide (t.name=s)) d.procs i) ⟨rfl,qAY.zero _ _⟩ ?_
 rintro i b V1 J hi ⟨rfl,ha⟩ hJ
 refine⟨fun hlt=>?_,fun hge=>?_⟩
 ·obtain⟨x,hm,hx,hdr,hl,hp,hz,hrow⟩:=h.procs.get hlt
  refine⟨hp,hz,hlt,qAe hp,_,_,_,_,_,hrow,fun he=>?_,fun he=>⟨h.procs.succ hlt,hJ hl _ _ ⟨rfl,qDa (p:=fun t=>decide (t.name=s)) ha hx (decide_eq_false he)⟩⟩⟩
  rw[qDM (p:=fun t=>decide (t.name=s)) ha hx (decide_eq_true he)];exact⟨rfl,rfl⟩
 ·rw[qEz (p:=fun t=>decide (t.name=s)) ha (h.procs.done hge).2];exact⟨rfl,rfl⟩
theorem c155{V:Mem}{d:Ds}(h:Ds.Ok V d){s:ByteArray}:PP 155 [d.v,.string s] V (.int .i64 (qHo (fun t=>decide (t.name=s)) d.measures)):=by
 refine x155 ?_
 unfold w155
 refine qAC d.measures.length (fun i V1=>V=V1/\qAY (fun t=>!decide (t.name=s)) d.measures i) ⟨rfl,qAY.zero _ _⟩ ?_
 rintro i b V1 J hi ⟨rfl,ha⟩ hJ
 refine⟨fun hlt=>?_,fun hge=>?_⟩
 ·obtain⟨x,hm,hx,hdr,hl,hp,hz,hrow⟩:=h.measures.get hlt
  refine⟨hp,hz,hlt,qAe hp,_,_,_,_,_,_,_,hrow,fun he=>?_,fun he=>⟨h.measures.succ hlt,hJ hl _ _ ⟨rfl,qDa (p:=fun t=>decide (t.name=s)) ha hx (decide_eq_false he)⟩⟩⟩
  rw[qDM (p:=fun t=>decide (t.name=s)) ha hx (decide_eq_true he)];exact⟨rfl,rfl⟩
 ·rw[qEz (p:=fun t=>decide (t.name=s)) ha (h.measures.done hge).2];exact⟨rfl,rfl⟩
section
variable{V:Mem}{d:Ds}
theorem c156(h:Ds.Ok V d){s:ByteArray}:PP 156 [d.v,.string s] V (.bool (qAX d s)):=by
 refine x156 ?_
 unfold w156
 refine(c92 h).call ⟨_,rfl,?_⟩
 rcases qAB (fun t:Ty=>decide (t.name=s)) d.types with⟨h1,h2,h3⟩|⟨i,x,h1,h2,h3,h4,h5,h6,h7,_⟩
 ·rw[h1,qAX,h3];exact⟨rfl,rfl⟩
 ·rw[h1,qAX,h7,decide_eq_true (by omega)];exact⟨rfl,rfl⟩
theorem c154(h:Ds.Ok V d){s:ByteArray}:PP 154 [d.v,.string s] V (.bool (qBh d s)):=by
 refine x154 ?_
 unfold w154
 refine⟨fun h1=>?_,fun h1=>⟨fun h2=>?_,fun h2=>(c156 h).call ⟨_,rfl,?_⟩⟩⟩ <;> simp[qBh,qAP,qAu, *]
theorem c206(h:Ds.Ok V d){s t:ByteArray}:PP 206 [d.v,.string s,.string t] V (.bool (fits d s t)):=by
 refine x206 ?_
 unfold w206
 unfold fits qJu
 refine⟨fun h1=>?_,fun h1=>⟨fun h2=>(c156 h).call ⟨_,rfl,?_⟩,fun h2=>?_⟩⟩
 ·rw[decide_eq_true h1];exact⟨rfl,rfl⟩
 ·rw[decide_eq_false h1,decide_eq_true h2];exact⟨rfl,rfl⟩
 ·rw[decide_eq_false h1,decide_eq_false h2];exact⟨rfl,rfl⟩
theorem qJL(fs:List Fld):qDO d [] fs=true:=by simp[qDO]
theorem c205{l:Sl}{xs:List Fld}(h:qAd V l 2 (xs.map Fld.row)){s:ByteArray}:PP 205 [l.v,.string s] V (.string (qBF xs s)):=by
 refine x205 ?_
 unfold w205
 refine qAC xs.length (fun i V1=>V=V1/\qBF xs s=qBF (xs.drop i) s) ⟨rfl,rfl⟩ ?_
 rintro i b V1 J hi ⟨rfl,ha⟩ hJ
 refine⟨fun hlt=>?_,fun hge=>?_⟩
 ·obtain⟨x,hm,hx,hdr,hl,hp,hz,hrow⟩:=h.get hlt
  rw[hdr,qBF]at ha
  refine⟨hp,hz,hlt,qAe hp,_,_,hrow,fun he=>⟨hp,hz,hlt,qAe hp,_,_,hrow,?_⟩,fun he=>⟨h.succ hlt,hJ hl _ _ ⟨rfl,?_⟩⟩⟩
  ·rw[ha,if_pos he];exact⟨rfl,rfl⟩
  ·rw[ha,if_neg he]
 ·rw[ha,(h.done hge).1];exact⟨rfl,rfl⟩
theorem c207(h:Ds.Ok V d){s t:ByteArray}:PP 207 [d.v,.string s,.string t] V (.tuple #[.string (qBT d s t).1,.int .i64 (qBT d s t).2]):=by
 refine x207 ?_
 unfold w207
 refine(c92 h).call ⟨_,rfl,?_⟩
 unfold qBT qJq
 rcases qAB (fun t:Ty=>decide (t.name=s)) d.types with⟨h1,h2,h3⟩|⟨i,x,h1,h2,h3,h4,h5,h6,h7,_⟩
 ·rw[h1,h2];exact⟨fun _=>⟨rfl,rfl⟩,fun h=>absurd h (by decide)⟩
 ·rw[h1,h3]
  have hn:=h.types.n_eq
  have hlt:(i:Int)<(d.ts.n:Int):=by omega
  obtain⟨y,hm,hx,hdr,hl,hp,hz,hrow⟩:=h.types.get hlt
  rw[h2]at hx
  cases hx
  refine⟨fun h=>absurd h (by omega),fun _=>⟨hp,hz,hlt,qAe hp,_,_,hrow,(c205 (h.typesOk x h6).fields).call ⟨_,rfl,fun he=>?_,fun he=>?_⟩⟩⟩
  ·simp only[sE,he,if_true];exact⟨by first|rfl|trivial,by first|rfl|trivial⟩
  ·simp only[sE,he,if_false];exact⟨by first|rfl|trivial,by first|rfl|trivial⟩
theorem c243{b:Bool}{s:ByteArray}:PP 243 [.bool b,.string s] V (.tuple #[.string (qDs b s).1,.int .i64 (qDs b s).2]):=by
 refine x243 ?_
 unfold w243
 refine⟨fun h=>?_,fun h=>?_⟩
 ·unfold qDs;rw[if_pos h];exact⟨rfl,rfl⟩
 ·unfold qDs;rw[if_neg h];exact⟨rfl,rfl⟩
theorem c244{l:Sl}{xs:List ByteArray}(h:qAd V l 1 (xs.map qBf)){s:ByteArray}:PP 244 [l.v,.string s] V (.bool (allT xs s)):=by
 refine x244 ?_
 unfold w244
 refine qAC xs.length (fun i V1=>V=V1/\qAY (fun x=>decide (x=s)) xs i) ⟨rfl,qAY.zero _ _⟩ ?_
 rintro i b V1 J hi ⟨rfl,ha⟩ hJ
 refine⟨fun hlt=>?_,fun hge=>?_⟩
 ·obtain⟨x,hm,hx,hdr,hl,hp,hz,hrow⟩:=h.get hlt
  refine⟨hp,hz,hlt,_,hrow,fun he=>⟨h.succ hlt,hJ hl _ _ ⟨rfl,ha.succ hx (decide_eq_true he)⟩⟩,fun he=>?_⟩
  unfold allT;rw[qBD (p:=fun x=>decide (x=s)) hm (by simpa using he)];exact⟨rfl,rfl⟩
 ·unfold allT;rw[ha.all (h.done hge).2];exact⟨rfl,rfl⟩
theorem c203(h:Ds.Ok V d){s:ByteArray}{l:Sl}{xs:List ByteArray}(hl:qAd V l 1 (xs.map qBf)):PP 203 [d.v,.string s,l.v] V (.tuple #[.string (qGG d s xs).1,.int .i64 (qGG d s xs).2]):=by
 refine x203 ?_
 unfold w203
 refine(c23 h).call ⟨_,rfl,?_⟩
 unfold qGG qFE
 rcases qAB (fun t:Pr=>decide (t.name=s)) d.procs with⟨h1,h2,h3⟩|⟨i,x,h1,h2,h3,h4,h5,h6,h7,_⟩
 ·rw[h1,h2];exact⟨fun _=>⟨rfl,rfl⟩,fun h=>absurd h (by decide)⟩
 ·rw[h1,h3]
  have hn:=h.procs.n_eq
  have hlt:(i:Int)<(d.ps.n:Int):=by omega
  obtain⟨y,hm,hx,hdr,hll,hp,hz,hrow⟩:=h.procs.get hlt
  rw[h2]at hx
  cases hx
  have hox:=h.procsOk x h6
  have e1:=hl.n_eq
  have e2:=hox.params.n_eq
  refine⟨fun h=>absurd h (by omega),fun _=>⟨hp,hz,hlt,_,_,_,_,_,hrow,fun he=>?_,fun he=>?_⟩⟩
  ·have hle:xs.length=x.params.length:=by omega
   simp only[hle,ne_eq,not_true_eq_false,if_false]
   refine qDY xs.length (fun i V1=>V=V1/\qDO d xs x.params=qDO d (xs.drop i) (x.params.drop i)) ⟨rfl,rfl⟩ ?_
   rintro j b c V1 J hi ⟨rfl,ha⟩ hJ
   refine⟨fun hlt=>?_,fun hge=>?_⟩
   ·obtain⟨y,hm',hx',hdr',hl',hp',hz',hrow'⟩:=hl.get hlt
    obtain⟨f,hmf,hxf,hdf,hlf,hpf,hzf,hrowf⟩:=hox.params.get (i:=j) (by omega)
    rw[hdr',hdf,qDO]at ha
    refine⟨hp',hz',hlt,_,hrow',hpf,hzf,by omega,qAe hpf,_,_,hrowf,(c206 h).call ⟨_,rfl,fun hb=>⟨hl.succ hlt,hJ hl' _ _ _ ⟨rfl,?_⟩⟩,fun hb=>?_⟩⟩
    ·rw[ha,hb,Bool.true_and]
    ·rw[eq_false_of_ne_true hb,Bool.false_and]at ha;rw[ha];exact⟨rfl,rfl⟩
   ·rw[(hl.done hge).1,qJL]at ha
    rw[ha];exact⟨rfl,rfl⟩
  ·have hle:¬xs.length=x.params.length:=by omega
   simp only[ne_eq,hle,not_false_eq_true,if_true];exact⟨by first|rfl|trivial,by first|rfl|trivial⟩
theorem qEi{l:Sl}{xs:List ByteArray}(hl:qAd V l 1 (xs.map qBf)){i:Nat}(hi:i<xs.length):¬(l.p=none)/\(i:Int)<(l.n:Int)/\V.rowp l.p i 1=some [.string (xs.getD i sE)]:=by
 have hn:=hl.n_eq
 have hlt:(i:Int)<(l.n:Int):=by omega
 obtain⟨y,hm',hx',hdr',hl',hp',hz',hrow'⟩:=hl.get hlt
 rw[List.getD_eq_getElem?_getD,hx']
 rw[Nat.mul_one]at hrow'
 exact⟨hp',hlt,hrow'⟩
theorem c242(h:Ds.Ok V d){sl:Sl}{sc:Sc}{s:ByteArray}{l:Sl}{xs:List ByteArray}(hl:qAd V l 1 (xs.map qBf)) :
  PP 242 [d.v,.agg #[sl.v,.bool sc.body],.string s,l.v] V (.tuple #[.string (qIQ d sc s xs).1,.int .i64 (qIQ d sc s xs).2]):=by
 refine x242 ?_
 unfold w242
 refine⟨fun hb=>(c203 h hl).call ⟨_,_,rfl,fun h0=>⟨fun h1=>?_,fun h1=>?_⟩,fun h0=>?_⟩,fun hb=>?_⟩
 ·unfold qIQ sE;rw[if_pos hb,if_pos ⟨h0,h1⟩];exact⟨rfl,rfl⟩
 ·unfold qIQ sE;rw[if_pos hb,if_neg (fun h=>h1 h.2)];exact⟨rfl,rfl⟩
 ·unfold qIQ;rw[if_pos hb,if_neg (fun h=>h0 h.1)];exact⟨rfl,rfl⟩
 ·unfold qIQ;rw[if_neg hb]
  refine(c155 h).call ⟨_,rfl,?_⟩
  unfold qJe meOf
  rcases qAB (fun t:Ms=>decide (t.name=s)) d.measures with⟨h1,h2,h3⟩|⟨i,x,h1,h2,h3,h4,h5,h6,h7,_⟩
  ·rw[h1,h2];exact⟨fun _=>⟨rfl,rfl⟩,fun h=>absurd h (by decide)⟩
  ·rw[h1,h3]
   have hn:=h.measures.n_eq
   have hlt:(i:Int)<(d.ms.n:Int):=by omega
   obtain⟨y,hm,hx,hdr,hll,hp,hz,hrow⟩:=h.measures.get hlt
   rw[h2]at hx
   cases hx
   have e1:=hl.n_eq
   refine⟨fun h=>absurd h (by omega),fun _=>⟨fun he=>?_,fun he=>?_⟩⟩
   ·have hle:xs.length=1:=by omega
    obtain⟨a1,a2,a3⟩:=qEi hl (i:=0) (by omega)
    simp only[hle,ne_eq,not_true_eq_false,if_false]
    exact⟨a1,by omega,by omega,_,a3,hp,hz,hlt,qAe hp,_,_,_,_,_,_,_,hrow,(c206 h).call ⟨_,rfl,c243.call ⟨_,_,rfl,rfl,rfl⟩⟩⟩
   ·have hle:¬xs.length=1:=by omega
    simp only[ne_eq,hle,not_false_eq_true,if_true];exact⟨by first|rfl|trivial,by first|rfl|trivial⟩
end
theorem arity{op n:Int}{s:ByteArray}{len:Int}(h:qDr op n s len=true):(op=5->len=1)/\(op=14∨op=15->len=2)/\(op=21->len=3)/\len<=6:=by
 unfold qDr qAR at h
 rw[Bool.and_eq_true,Bool.and_eq_true,decide_eq_true_eq]at h
 obtain⟨⟨h,-⟩,-⟩:=h
 grind
theorem qFQ{d:Int}{e:E}(h:okE d e=true):qDr e.op e.n e.s e.k.length=true:=by
 cases e
 unfold okE at h
 rw[Bool.and_eq_true,Bool.and_eq_true]at h
 exact h.1.2
theorem okEs_mem{d:Int}:∀{l:List E},okEs d l=true->∀x∈l,okE d x=true
 | [],_,x,hx=>absurd hx List.not_mem_nil
 | y::l,h,x,hx=>by
  unfold okEs at h
  rw[Bool.and_eq_true]at h
  rcases List.mem_cons.1 hx with rfl|hx
  ·exact h.1
  ·exact okEs_mem h.2 x hx
theorem qHC{d:Int}{e:E}(h:okE d e=true):∀x∈e.k,okE (d+1) x=true:=by
 cases e
 unfold okE at h
 rw[Bool.and_eq_true]at h
 exact okEs_mem h.2
theorem ownS{V0 V:Mem}{s:Sl}{l:List ByteArray}(h:Own V0 V 9 1 s (l.flatMap qBf)):qAd V s 1 (l.map qBf):=h.rows (fun _=>rfl) (by decide)
theorem qIq{V:Mem}{b:Nat}{s:ByteArray}{t:Nat}(h:V b=some (.cells #[.string s] t (0,0))):qAd V ⟨some ⟨b,0,none⟩,1,1⟩ 1 ([s].map qBf) :=
 qAd.cells (xs:=[s]) (row:=qBf) h rfl (fun _=>rfl) rfl (by simp)
def scV(sl:Sl)(sc:Sc):Value:=.agg #[sl.v,.bool sc.body]
section
variable{V:Mem}{d:Ds}{sc:Sc}{sl:Sl}
def RefE(V:Mem)(d:Ds)(sl:Sl)(sc:Sc)(e:E):Prop:=∀V1,V.sub V1->PP 204 [d.v,scV sl sc,e.v] V1 (.tuple #[.string (qAo d sc e).1,.int .i64 (qAo d sc e).2])
theorem refParts(e:E)(he:E.Ok V e)(hlen:(e.k.length:Int)<=6)(hk:∀x∈e.k,RefE V d sl sc x) :
  Tri Tryz.prog 202 #[d.v,scV sl sc,e.v] V fun r V'=>∃s':Sl,r=.returned (.tuple #[.slice s'.p s'.n s'.c,.int .i64 (partsT d sc [] e.k).2])/\V.sub V'/\qAd V' s' 1 ((partsT d sc [] e.k).1.map qBf):=by
 have hr:=he.rows
 refine x202 ?_
 unfold w202
 refine loop4s (mk:=fun s:Sl=>.slice s.p s.n s.c) (mc:=.int .i64) (md:=fun s:Sl=>.slice s.p s.n s.c) ⟨none,0,0⟩ 0 ⟨none,0,0⟩ qCo e.k.length (fun i s V1=>∃acc,Own V V1 9 1 s (acc.flatMap qBf)/\partsT d sc [] e.k=partsT d sc acc (e.k.drop i)/\acc.length=i) ⟨[],Own.nil (Mem.sub.refl _) _ _,rfl,rfl⟩ ?_
 rintro i b c s V1 J hi ⟨acc,hown,hp,hlen'⟩ hJ
 have hr1:=hr.sub hown.sub
 refine⟨fun hlt=>?_,fun hge=>?_⟩
 ·obtain⟨x,hm,hx,hdr,hl,hpp,hz,hrow⟩:=hr1.get hlt
  rw[hdr,qBX]at hp
  refine⟨hpp,hz,hlt,_,_,_,_,hrow,(hk x hm V1 hown.sub).call ⟨_,_,rfl,fun h0=>?_,fun h0=>?_⟩⟩
  ·intro b1 hb1
   rw[if_neg (fun h=>h h0)]at hp
   refine app217 (s:=s) (u:=⟨some ⟨b1,0,none⟩,1,1⟩) (xs:=acc) (ys:=[(qAo d sc x).1]) rfl rfl (hown.new hb1 _) (qIq mss) (by simp;omega) fun s' V' ho=>⟨s',rfl,hr1.succ hlt,hJ hl _ _ _ _ ⟨_,ho,hp,by simp[hlen']⟩⟩
  ·rw[if_pos h0]at hp
   exact⟨⟨none,0,0⟩,by rw[hp],hown.sub,by rw[hp];exact qAd.nil⟩
 ·rw[(hr1.done hge).1,qCr]at hp
  exact⟨s,by rw[hp],hown.sub,by rw[hp];exact ownS hown⟩
set_option maxRecDepth 4000 in
theorem qKi(hd:Ds.Ok V d)(hsl:qAd V sl 2 (sc.vars.map Fld.row)):∀(e:E),E.Ok V e->∀dd,okE dd e=true->RefE V d sl sc e:=by
 intro e
 induction e using E.ind with
 | h e ih =>
 intro he dd hok V1 hV
 have har:=arity (qFQ hok)
 have hk:∀x∈e.k,RefE V1 d sl sc x:=fun x hx V2 h2=>ih x hx (he.kids x hx) (dd+1) (qHC hok x hx) V2 (hV.trans h2)
 refine Pur.mk (x204 ?_)
 unfold w204
 refine Tri.mono (refParts e (he.sub hV) har.2.2.2 hk) ?_
 rintro _ V2 ⟨s',rfl,h12,hrows⟩
 rw[qHK]
 have hlen:=qGw d sc e.k []
 generalize hPT:partsT d sc [] e.k=pt at hrows hlen
 obtain⟨l,f⟩:=pt
 refine⟨s',f,rfl,fun h0=>?_,fun h0=>?_⟩
 ·subst h0
  have hlen:l.length=e.k.length:=by simpa using hlen rfl
  simp only[ne_eq,not_true_eq_false,if_false]
  have hd2:=hd.sub (hV.trans h12)
  have hsl2:=hsl.sub (hV.trans h12)
  generalize hX:qHm d sc e.op e.s l=X
  have key:∀a b,X=(a,b)->(Ending.returned (.tuple #[.string a,.int .i64 b])=Ending.returned (.tuple #[.string X.1,.int .i64 X.2])/\V1.sub V2):=fun a b h=>by rw[h];exact⟨rfl,h12⟩
  have cAll:=fun t=>c244 hrows (s:=t)
  have cFits:=fun a b=>c206 hd2 (s:=a) (t:=b)
  have at0:=fun h:0<l.length=>qEi hrows h
  have at1:=fun h:1<l.length=>qEi hrows h
  have at2:=fun h:2<l.length=>qEi hrows h
  unfold qHm at hX
  refine⟨fun o1=>key _ _ ?_,fun o1=>⟨fun o2=>key _ _ ?_,fun o2=>⟨fun o3=>key _ _ ?_,fun o3=>⟨fun o4=>?_,fun o4=>⟨fun o5=>?_,fun o5=>⟨fun o6=>?_,fun o6=>⟨fun o7=>?_,fun o7=>⟨fun o14=>?_,fun o14=>⟨fun o15=>?_,fun o15=>⟨fun o16=>?_,fun o16=>⟨fun o17=>?_,fun o17=>⟨fun o18=>?_,fun o18=>⟨fun o19=>?_,fun o19=>⟨fun o20=>?_,fun o20=>⟨fun o21=>?_,fun o21=>?_⟩⟩⟩⟩⟩⟩⟩⟩⟩⟩⟩⟩⟩⟩⟩
  ·rw[<- hX,if_pos o1];rfl
  ·rw[<- hX,if_neg o1,if_pos o2];rfl
  ·rw[<- hX,if_neg o1,if_neg o2,if_pos o3];rfl
  ·rw[if_neg o1,if_neg o2,if_neg o3,if_pos o4]at hX
   refine(c205 hsl2).call ⟨_,rfl,fun h=>key _ _ ?_,fun h=>key _ _ ?_⟩
   ·rw[<- hX,if_pos (show qBF sc.vars e.s=sE from h)];rfl
   ·rw[<- hX,if_neg (show ¬qBF sc.vars e.s=sE from h)]
  ·rw[if_neg o1,if_neg o2,if_neg o3,if_neg o4,if_pos o5]at hX
   obtain⟨a1,a2,a3⟩:=at0 (by have:=har.1 o5;omega)
   exact⟨a1,by omega,a2,_,a3,(c207 hd2).call ⟨_,_,rfl,key _ _ (by rw[<- hX])⟩⟩
  ·rw[if_neg o1,if_neg o2,if_neg o3,if_neg o4,if_neg o5,if_pos o6]at hX
   refine⟨fun hb=>(c156 hd2).call ⟨_,rfl,fun hn=>key _ _ ?_,fun hn=>key _ _ ?_⟩,fun hb=>key _ _ ?_⟩
   ·rw[<- hX,if_neg (by rw[hb];simp),if_neg (by rw[hn];simp)]
   ·rw[<- hX,if_neg (by rw[hb];simp),if_pos (eq_false_of_ne_true hn)];rfl
   ·rw[<- hX,if_pos (eq_false_of_ne_true hb)];rfl
  ·rw[if_neg o1,if_neg o2,if_neg o3,if_neg o4,if_neg o5,if_neg o6,if_pos o7]at hX
   exact(c242 hd2 (sl:=sl) hrows).call ⟨_,_,rfl,key _ _ (by rw[<- hX])⟩
  iterate 2
   ·rw[if_neg o1,if_neg o2,if_neg o3,if_neg o4,if_neg o5,if_neg o6,if_neg o7,if_pos (by omega)]at hX
    obtain⟨a1,a2,a3⟩:=at0 (by have:=har.2.1 (by omega);omega)
    obtain⟨b1,b2,b3⟩:=at1 (by have:=har.2.1 (by omega);omega)
    refine⟨a1,by omega,a2,_,a3,b1,by omega,b2,_,b3,(cFits _ _).call ⟨_,rfl,fun h=>c243.call ⟨_,_,rfl,key _ _ ?_⟩,fun h=>⟨b1,by omega,b2,_,b3,a1,by omega,a2,_,a3,(cFits _ _).call ⟨_,rfl,c243.call ⟨_,_,rfl,key _ _ ?_⟩⟩⟩⟩⟩
    ·rw[<- hX,h];rfl
    ·rw[<- hX,eq_false_of_ne_true h];rfl
  iterate 2
   ·rw[if_neg o1,if_neg o2,if_neg o3,if_neg o4,if_neg o5,if_neg o6,if_neg o7,if_neg (by omega),if_pos (by omega)]at hX
    exact(cAll _).call ⟨_,rfl,c243.call ⟨_,_,rfl,key _ _ (by rw[<- hX];rfl)⟩⟩
  iterate 3
   ·rw[if_neg o1,if_neg o2,if_neg o3,if_neg o4,if_neg o5,if_neg o6,if_neg o7,if_neg (by omega),if_neg (by omega),if_pos (by omega)]at hX
    exact(cAll _).call ⟨_,rfl,c243.call ⟨_,_,rfl,key _ _ (by rw[<- hX];rfl)⟩⟩
  ·rw[if_neg o1,if_neg o2,if_neg o3,if_neg o4,if_neg o5,if_neg o6,if_neg o7,if_neg (by omega),if_neg (by omega),if_neg (by omega),if_pos o21]at hX
   obtain⟨a1,a2,a3⟩:=at0 (by have:=har.2.2.1 o21;omega)
   obtain⟨b1,b2,b3⟩:=at1 (by have:=har.2.2.1 o21;omega)
   obtain⟨c1,c2,c3⟩:=at2 (by have:=har.2.2.1 o21;omega)
   have fin:∀t,(if l.getD 1 sE=qJu then l.getD 2 sE else l.getD 1 sE)=t ->
     (l.getD 0 sE=qAu->fits d (l.getD 1 sE) (l.getD 2 sE)=true->X=qDs true t)/\(l.getD 0 sE=qAu->¬fits d (l.getD 1 sE) (l.getD 2 sE)=true->X=qDs (fits d (l.getD 2 sE) (l.getD 1 sE)) t)/\(¬l.getD 0 sE=qAu->X=qDs false t):=fun t ht=>by
    rw[ht]at hX
    refine⟨fun x y=>?_,fun x y=>?_,fun x=>?_⟩
    ·rw[<- hX,decide_eq_true x,y];rfl
    ·rw[<- hX,decide_eq_true x,eq_false_of_ne_true y];rfl
    ·rw[<- hX,decide_eq_false x];rfl
   refine⟨b1,by omega,b2,_,b3,fun hn=>?_,fun hn=>?_⟩
   ·have hf:=fin _ (if_pos hn)
    refine⟨c1,by omega,c2,_,c3,a1,by omega,a2,_,a3,fun h0=>⟨b1,by omega,b2,_,b3,c1,by omega,c2,_,c3,(cFits _ _).call ⟨_,rfl,fun h=>c243.call ⟨_,_,rfl,key _ _ ?_⟩,fun h=>⟨c1,by omega,c2,_,c3,b1,by omega,b2,_,b3,(cFits _ _).call ⟨_,rfl,c243.call ⟨_,_,rfl,key _ _ ?_⟩⟩⟩⟩⟩,fun h0=>c243.call ⟨_,_,rfl,key _ _ ?_⟩⟩
    ·exact hf.1 h0 h
    ·exact hf.2.1 h0 h
    ·exact hf.2.2 h0
   ·have hf:=fin _ (if_neg hn)
    refine⟨a1,by omega,a2,_,a3,fun h0=>⟨b1,by omega,b2,_,b3,c1,by omega,c2,_,c3,(cFits _ _).call ⟨_,rfl,fun h=>c243.call ⟨_,_,rfl,key _ _ ?_⟩,fun h=>⟨c1,by omega,c2,_,c3,b1,by omega,b2,_,b3,(cFits _ _).call ⟨_,rfl,c243.call ⟨_,_,rfl,key _ _ ?_⟩⟩⟩⟩⟩,fun h0=>c243.call ⟨_,_,rfl,key _ _ ?_⟩⟩
    ·exact hf.1 h0 h
    ·exact hf.2.1 h0 h
    ·exact hf.2.2 h0
  ·rw[if_neg o1,if_neg o2,if_neg o3,if_neg o4,if_neg o5,if_neg o6,if_neg o7,if_neg (by omega),if_neg (by omega),if_neg (by omega),if_neg o21]at hX
   exact(cAll _).call ⟨_,rfl,c243.call ⟨_,_,rfl,key _ _ (by rw[<- hX];rfl)⟩⟩
 ·simp only[ne_eq,h0,not_false_eq_true,if_true]
  exact⟨rfl,h12⟩
end
theorem ownF{V0 V:Mem}{s:Sl}{l:List Fld}(h:Own V0 V 81 2 s (l.flatMap Fld.row)):qAd V s 2 (l.map Fld.row):=h.rows (fun _=>rfl) (by decide)
theorem one_fld{V:Mem}{b:Nat}{f:Fld}{t:Nat}(h:V b=some (.cells #[.string f.name,.string f.ty] t (0,0))):qAd V ⟨some ⟨b,0,none⟩,1,1⟩ 2 ([f].map Fld.row) :=
 qAd.cells (xs:=[f]) (row:=Fld.row) h rfl (fun _=>rfl) rfl (by simp)
section
variable{V:Mem}{d:Ds}
def Small(d:Ds):Prop:=d.globals.length<=1000/\∀p∈d.procs,p.params.length<=1000/\p.locals.length<=1000
theorem refInProc(hd:Ds.Ok V d){p:Pr}(hp:Pr.Ok V p)(h1:d.globals.length<=1000)(h2:p.params.length<=1000/\p.locals.length<=1000) :
  Tri Tryz.prog 201 #[d.v,p.v] V fun r V'=>∃s':Sl,r=.returned (scV s' (qAf d p))/\V.sub V'/\qAd V' s' 2 ((qAf d p).vars.map Fld.row):=by
 refine x201 ?_
 unfold w201
 intro b hb
 have hs:=Mem.sub_new hb (.cells #[] 81 (0,0))
 refine qGe (s:=⟨some ⟨b,0,none⟩,0,0⟩) (u:=p.ps) (xs:=[]) (ys:=p.params) rfl rfl (Own.empty hs _ _ _) (hp.params.sub hs) (by first|omega | (simp;omega)) fun s1 V1 o1=>⟨s1,rfl,?_⟩
 refine qGe (s:=s1) (u:=p.ls) (xs:=p.params) (ys:=p.locals) rfl rfl o1 (hp.locals.sub o1.sub) (by first|omega | (simp;omega)) fun s2 V2 o2=>⟨s2,rfl,?_⟩
 refine qGe (s:=s2) (u:=d.gs) (xs:=p.params++p.locals) (ys:=d.globals) rfl rfl o2 (hd.globals.sub o2.sub) (by first|omega | (simp;omega)) fun s3 V3 o3=>⟨s3,rfl,?_⟩
 exact⟨s3,rfl,o3.sub,ownF o3⟩
theorem refInBound(hd:Ds.Ok V d){p:Pr}(hp:Pr.Ok V p)(h1:d.globals.length<=1000)(h2:p.params.length<=1000/\p.locals.length<=1000) :
  Tri Tryz.prog 160 #[d.v,p.v] V fun r V'=>∃s':Sl,r=.returned (scV s' (qBy d p))/\V.sub V'/\qAd V' s' 2 ((qBy d p).vars.map Fld.row):=by
 refine x160 ?_
 unfold w160
 intro b hb
 have hs:=Mem.sub_new hb (.cells #[] 81 (0,0))
 refine qGe (s:=⟨some ⟨b,0,none⟩,0,0⟩) (u:=p.ps) (xs:=[]) (ys:=p.params) rfl rfl (Own.empty hs _ _ _) (hp.params.sub hs) (by first|omega | (simp;omega)) fun s1 V1 o1=>⟨s1,rfl,?_⟩
 refine qGe (s:=s1) (u:=d.gs) (xs:=p.params) (ys:=d.globals) rfl rfl o1 (hd.globals.sub o1.sub) (by first|omega | (simp;omega)) fun s3 V3 o3=>⟨s3,rfl,?_⟩
 exact⟨s3,rfl,o3.sub,ownF o3⟩
theorem qEr(hd:Ds.Ok V d){t:ByteArray}(h1:d.globals.length<=1000) :
  Tri Tryz.prog 159 #[d.v,.string t] V fun r V'=>∃s':Sl,r=.returned (scV s' (qAz d t))/\V.sub V'/\qAd V' s' 2 ((qAz d t).vars.map Fld.row):=by
 refine x159 ?_
 unfold w159
 refine⟨fun he=>?_,fun he=>?_⟩
 ·refine qGe (s:=⟨none,0,0⟩) (u:=d.gs) (xs:=[]) (ys:=d.globals) rfl rfl (Own.nil (Mem.sub.refl V) _ _) hd.globals (by first|omega | (simp;omega)) fun s1 V1 o1=>⟨s1,rfl,?_⟩
  refine⟨s1,rfl,o1.sub,?_⟩
  unfold qAz sE
  rw[if_pos he]
  exact ownF o1
 ·intro b hb
  have hs:=Mem.sub_new hb (.cells #[.string (qAm [116,104,105,115]),.string t] 81 (0,0))
  refine qGe (s:=⟨none,0,0⟩) (u:=⟨some ⟨b,0,none⟩,1,1⟩) (xs:=[]) (ys:=[⟨qIf,t⟩]) rfl rfl (Own.nil hs _ _) (one_fld mss) (by simp) fun s1 V1 o1=>⟨s1,rfl,?_⟩
  refine qGe (s:=s1) (u:=d.gs) (xs:=[⟨qIf,t⟩]) (ys:=d.globals) rfl rfl o1 (hd.globals.sub o1.sub) (by first|omega | (simp;omega)) fun s2 V2 o2=>⟨s2,rfl,?_⟩
  refine⟨s2,rfl,o2.sub,?_⟩
  unfold qAz sE
  rw[if_neg he]
  exact ownF o2
theorem qIa{op:Int}{s:ByteArray}{es:List E}{nl nx:Int}(h:qCb op s es nl nx=true):(op=6->∃e0,es=[e0]/\e0.op=7)/\(op=1∨op=3∨op=4->es.length=1)/\(op=2->es.length=2)/\(op=5->es.length<=1)/\es.length<=2/\(∀x∈es,okE 1 x=true):=by
 unfold qCb at h
 rw[Bool.and_eq_true]at h
 obtain⟨h,hv⟩:=h
 have hall:∀x∈es,okE 1 x=true:=fun x hx=>by
  have:=List.all_eq_true.1 hv x hx
  unfold qAO at this
  exact(of_decide_eq_true this).1
 unfold qGP at h
 have h6:op=6->∃e0,es=[e0]/\e0.op=7:=fun h6=>by
  subst h6
  simp only[show ¬((6:Int)=1) by decide,show ¬((6:Int)=2) by decide,show ¬((6:Int)=3) by decide,show ¬((6:Int)=4) by decide,show ¬((6:Int)=5) by decide,if_false,if_true,decide_eq_true_eq]at h
  match es,h with
  | [e0],h=>exact⟨e0,rfl,h.2.2.1⟩
  | [],h=>simp at h
  | _::_::_,h=>simp at h;omega
 refine⟨h6,?_,?_,?_,?_,hall⟩ <;> grind
theorem c157(hd:Ds.Ok V d){p:Pr}(hp:Pr.Ok V p)(h1:d.globals.length<=1000)(h2:p.params.length<=1000/\p.locals.length<=1000){x:S}(hx:S.Ok V x)(hs:qCb x.op x.s x.es x.ls.length x.xs.length=true) :
  PP 157 [d.v,p.v,x.v] V (.int .i64 (qEZ d (qAf d p) p.result x.op x.s x.es)):=by
 obtain⟨a6,a134,a2,a5,alen,aok⟩:=qIa hs
 rw[S.v_eq]
 refine Pur.mk (x157 ?_)
 unfold w157
 refine Tri.mono (refInProc hd hp h1 h2) ?_
 rintro _ V1 ⟨sv,rfl,hV1,hsc⟩
 generalize hscE:qAf d p=sc at hsc
 have hbody:sc.body=true:=by rw[<- hscE];rfl
 have hd1:=hd.sub hV1
 have hf:=qFZ (hx.sub hV1)
 refine⟨sv,sc.body,rfl,fun o6=>?_,fun o6=>?_⟩
 ·obtain⟨e0,he0,-⟩:=a6 o6
  rcases hf with⟨h,-⟩|⟨e0',r,he,hn,hp0,hp2,hrow⟩
  ·rw[he0]at h;cases h
  ·rw[he0]at he
   cases he
   have hok:=aok e0 (by rw[he0];simp)
   have hoe:=(hx.sub hV1).eOk e0 (by rw[he0];simp)
   have hk:∀y∈e0.k,RefE V1 d sv sc y:=fun y hy=>qKi hd1 hsc y (hoe.kids y hy) 2 (qHC hok y hy)
   refine⟨hp0,by omega,by omega,_,_,_,_,hrow,Tri.mono (refParts e0 hoe (arity (qFQ hok)).2.2.2 hk) ?_⟩
   rintro _ V2 ⟨s',rfl,h12,hrows⟩
   unfold qEZ
   rw[if_pos o6,he0]
   simp only
   generalize hPT:partsT d sc [] e0.k=pt at hrows
   obtain⟨l,f⟩:=pt
   have hrow2:=h12.rowp hrow
   refine⟨s',f,rfl,fun h0=>⟨hp0,by omega,by omega,hp2,_,_,_,_,hrow2,(c203 (hd1.sub h12) hrows).call ⟨_,_,rfl,?_,hV1.trans h12⟩⟩,fun h0=>?_⟩
   ·simp only[h0,ne_eq,not_true_eq_false,if_false]
   ·simp only[h0,ne_eq,not_false_eq_true,if_true];exact⟨by trivial,hV1.trans h12⟩
 ·unfold qEZ
  rw[if_neg o6]
  have hr:=(hx.sub hV1).eRows
  refine qGW (mk:=.int .i64) (mc:=fun s:Sl=>.slice s.p s.n s.c) 0 ⟨none,0,0⟩ qCo x.es.length (fun i s V2=>∃acc,Own V1 V2 9 1 s (acc.flatMap qBf)/\partsT d sc [] x.es=partsT d sc acc (x.es.drop i)/\acc.length=i) ⟨[],Own.nil (Mem.sub.refl _) _ _,rfl,rfl⟩ ?_
  rintro i b s V2 J hi ⟨acc,hown,hpt,hlen'⟩ hJ
  have hr1:=hr.sub hown.sub
  refine⟨fun hlt=>?_,fun hge=>?_⟩
  ·obtain⟨y,hm,hxy,hdr,hl,hpp,hz,hrow⟩:=hr1.get hlt
   rw[hdr,qBX]at hpt
   refine⟨hpp,hz,hlt,_,_,_,_,hrow,(qKi hd1 hsc y ((hx.sub hV1).eOk y hm) 1 (aok y hm) V2 hown.sub).call ⟨_,_,rfl,fun h0=>?_,fun h0=>?_⟩⟩
   ·intro b1 hb1
    rw[if_neg (fun h=>h h0)]at hpt
    refine app217 (s:=s) (u:=⟨some ⟨b1,0,none⟩,1,1⟩) (xs:=acc) (ys:=[(qAo d sc y).1]) rfl rfl (hown.new hb1 _) (qIq mss) (by first|omega | (simp;omega)) fun s' V' ho=>⟨s',rfl,hr1.succ hlt,hJ hl _ _ _ ⟨_,ho,hpt,by simp[hlen']⟩⟩
   ·rw[if_pos h0]at hpt
    rw[hpt]
    simp only[h0,ne_eq,not_false_eq_true,if_true]
    exact⟨by trivial,hV1.trans hown.sub⟩
  ·have hge':=(hr1.done hge).2
   rw[(hr1.done hge).1,qCr]at hpt
   rw[hpt]
   simp only[ne_eq,not_true_eq_false,if_false]
   have hrows:=ownS hown
   have hal:acc.length=x.es.length:=by omega
   have hsub:=hV1.trans hown.sub
   have hd2:=hd1.sub hown.sub
   have hsc2:=hsc.sub hown.sub
   have sln:=hrows.n_eq
   have at0:=fun h:0<acc.length=>qEi hrows h
   have at1:=fun h:1<acc.length=>qEi hrows h
   have key:∀X n:Int,X=n->(Ending.returned (.int .i64 n)=Ending.returned (.int .i64 X)/\V.sub V2):=fun X n h=>by rw[h];exact⟨rfl,hsub⟩
   refine⟨fun o1=>(c205 hsc2).call ⟨_,rfl,fun hl=>key _ _ ?_,fun hl=>?_⟩,fun o1=>⟨fun o2=>?_,fun o2=>⟨fun o3=>?_,fun o3=>⟨fun o4=>?_,fun o4=>⟨fun o5=>?_,fun o5=>key _ _ ?_⟩⟩⟩⟩⟩
   ·rw[if_pos o1,if_pos (show qBF sc.vars x.s=sE from hl)]
   ·obtain⟨b1,b2,b3⟩:=at0 (by have:=a134 (by omega);omega)
    refine⟨b1,by omega,b2,_,b3,(c206 hd2).call ⟨_,rfl,fun hb=>key _ _ ?_,fun hb=>key _ _ ?_⟩⟩
    ·rw[if_pos o1,if_neg (show ¬qBF sc.vars x.s=sE from hl),if_pos hb]
    ·rw[if_pos o1,if_neg (show ¬qBF sc.vars x.s=sE from hl),if_neg hb]
   ·obtain⟨b1,b2,b3⟩:=at0 (by have:=a2 o2;omega)
    obtain⟨c1,c2,c3⟩:=at1 (by have:=a2 o2;omega)
    rw[if_neg o1,if_pos o2]
    refine⟨b1,by omega,b2,_,b3,(c207 hd2).call ⟨_,_,rfl,fun hb=>⟨c1,by omega,c2,_,c3,(c206 hd2).call ⟨_,rfl,fun hc=>key _ _ ?_,fun hc=>key _ _ ?_⟩⟩,fun hb=>key _ _ ?_⟩⟩
    ·rw[if_neg (fun h=>h hb),if_pos hc]
    ·rw[if_neg (fun h=>h hb),if_neg hc]
    ·rw[if_pos hb]
   ·obtain⟨b1,b2,b3⟩:=at0 (by have:=a134 (by omega);omega)
    rw[if_neg o1,if_neg o2,if_pos (Or.inl o3)]
    exact⟨b1,by omega,b2,_,b3,fun h=>key _ _ (by rw[if_pos (show _=qAu from h)]),fun h=>key _ _ (by rw[if_neg (show ¬_=qAu from h)])⟩
   ·obtain⟨b1,b2,b3⟩:=at0 (by have:=a134 (by omega);omega)
    rw[if_neg o1,if_neg o2,if_pos (Or.inr o4)]
    exact⟨b1,by omega,b2,_,b3,fun h=>key _ _ (by rw[if_pos (show _=qAu from h)]),fun h=>key _ _ (by rw[if_neg (show ¬_=qAu from h)])⟩
   ·have h5:=a5 o5
    rw[if_neg o1,if_neg o2,if_neg (by omega),if_pos o5]
    have rest:¬(acc.length=0)->((s.n:Int)=1)/\¬(s.p=none)/\(0:Int)<(s.n:Int)/\V2.rowp s.p 0 1=some [.string (acc.getD 0 sE)]:=fun h=>by
     obtain⟨b1,b2,b3⟩:=at0 (by omega)
     exact⟨by omega,b1,b2,b3⟩
    refine⟨fun hn=>?_,fun hn=>?_⟩
    ·have h0:acc.length=0:=by omega
     rw[if_pos h0]
     refine⟨fun he=>key _ _ (by rw[if_pos (show p.result=sE from he)]),fun he=>⟨fun h=>absurd h (by omega),fun h=>key _ _ (by rw[if_neg (show ¬p.result=sE from he)])⟩⟩
    ·have h0:¬acc.length=0:=by omega
     obtain⟨r1,r2,r3,r4⟩:=rest h0
     rw[if_neg h0]
     refine⟨fun _=>⟨fun he=>key _ _ (by rw[if_neg (fun h=>h.1 (show p.result=sE from he))]),fun he=>⟨r2,by omega,r3,_,r4,(c206 hd2).call ⟨_,rfl,fun hb=>key _ _ ?_,fun hb=>key _ _ ?_⟩⟩⟩,fun h=>absurd r1 h⟩
     ·rw[if_pos ⟨show ¬p.result=sE from he,hb⟩]
     ·rw[if_neg (fun h=>hb h.2)]
   ·rw[if_neg o1,if_neg o2,if_neg (by omega),if_neg o5]
end
theorem okS_shape{d:Int}{x:S}(h:okS d x=true):qCb x.op x.s x.es x.ls.length x.xs.length=true/\qHB (d+1) x.ls=true/\qHB (d+1) x.xs=true:=by
 cases x
 unfold okS at h
 rw[Bool.and_eq_true,Bool.and_eq_true,Bool.and_eq_true]at h
 exact⟨h.1.1.2,h.1.2,h.2⟩
theorem qKm{d:Int}:∀{l:List S},qHB d l=true->∀x∈l,okS d x=true
 | [],_,x,hx=>absurd hx List.not_mem_nil
 | y::l,h,x,hx=>by
  unfold qHB at h
  rw[Bool.and_eq_true]at h
  rcases List.mem_cons.1 hx with rfl|hx
  ·exact h.1
  ·exact qKm h.2 x hx
theorem szS_eq(x:S):szS x=1+qHi x.ls+qHi x.xs:=by cases x;unfold szS;rfl
theorem qHV(x:S)(l:List S):qHi (x::l)=szS x+qHi l:=by rw[qHi]
mutual
theorem stT_n(d:Ds)(sc:Sc)(result:ByteArray)(n:Int):∀x:S,(stT d sc result n x).2=0->(stT d sc result n x).1=n+szS x
 | .mk op s _ es _ ls _ xs=>by
  have h1:=qHX d sc result (n+1) ls
  have h2:=qHX d sc result (qBS d sc result (n+1) ls).1 xs
  unfold stT szS
  intro h
  split at h
  ·rename_i h';exact absurd h h'
  ·rename_i h'
   rw[if_neg h']
   split at h
   ·rename_i h3;exact absurd h h3
   ·rename_i h3
    rw[if_neg h3,h2 h,h1 (by simpa using h3)]
    omega
theorem qHX(d:Ds)(sc:Sc)(result:ByteArray)(n:Int):∀l:List S,(qBS d sc result n l).2=0->(qBS d sc result n l).1=n+qHi l
 | []=>by simp[qBS,qHi]
 | x::xs=>by
  have h1:=stT_n d sc result n x
  have h2:=qHX d sc result (stT d sc result n x).1 xs
  rw[qFL,qHV]
  intro h
  split at h
  ·rename_i h';exact absurd h h'
  ·rename_i h'
   rw[if_neg h',h2 h,h1 (by simpa using h')]
   omega
end
theorem qAi{α β:Type}{f:Nat->α->Option β}{i:Nat}{x:α}{xs:List α}{b:β}(h:f i x=some b):qAk f i (x::xs)=some b:=by unfold qAk;rw[h]
theorem qAl{α β:Type}{f:Nat->α->Option β}{i:Nat}{x:α}{xs:List α}(h:f i x=none):qAk f i (x::xs)=qAk f (i+1) xs:=by rw[qAk,h]
section
variable{V:Mem}{d:Ds}
def RefS(V:Mem)(d:Ds)(p:Pr)(l:List S):Prop:=∀(sl:Sl) (n dd:Int),qAd V sl 5 (l.map S.row)->(∀x∈l,S.Ok V x)->qHB dd l=true->0<=n->n+qHi l<=1000 ->
 PP 123 [d.v,p.v,sl.v,.int .i64 n] V (.tuple #[.int .i64 (qBS d (qAf d p) p.result n l).1,.int .i64 (qBS d (qAf d p) p.result n l).2])
theorem refStep(hd:Ds.Ok V d){p:Pr}(hp:Pr.Ok V p)(h1:d.globals.length<=1000)(h2:p.params.length<=1000/\p.locals.length<=1000){l:List S}(hk:∀x∈l,RefS V d p x.ls/\RefS V d p x.xs):RefS V d p l:=by
 intro sl n dd hr hok hokS hn0 hn1
 refine x123 ?_
 unfold w123
 generalize hsc:qAf d p=sc
 refine loop4s (mk:=.int .i64) (mc:=.int .i64) (md:=.int .i64) 0 0 n qFw l.length (fun i at_ V1=>V=V1/\0<=at_/\at_+qHi (l.drop i)<=1000/\qBS d sc p.result n l=qBS d sc p.result at_ (l.drop i)) ⟨rfl,hn0,hn1,rfl⟩ ?_
 rintro i b c a V1 J hi ⟨rfl,ha0,ha1,he⟩ hJ
 refine⟨fun hlt=>?_,fun hge=>?_⟩
 ·obtain⟨x,hm,hx,hdr,hl,hpp,hz,hrow⟩:=hr.get hlt
  have hrow:=S.row_get hrow
  have hox:=hok x hm
  obtain⟨hsh,hk1,hk2⟩:=okS_shape (qKm hokS x hm)
  rw[hdr,qHV,szS_eq]at ha1
  rw[hdr,qFL,stT_eq]at he
  have cs:=c157 hd hp h1 h2 hox hsh
  rw[hsc,S.v_eq]at cs
  refine⟨hpp,hz,hlt,_,_,_,_,_,hrow,cs.call ⟨_,rfl,fun h0=>?_,fun h0=>?_⟩⟩
  ·have e1:¬(qEZ d sc p.result x.op x.s x.es≠0):=fun h=>h h0
   rw[if_neg e1]at he
   have r1:=(hk x hm).1 x.ll (a+1) (dd+1) hox.lRows hox.lOk hk1 (by omega) (by omega)
   rw[hsc]at r1
   refine⟨hpp,hz,hlt,qAe hpp,_,_,_,_,_,hrow,⟨by omega,by omega⟩,r1.call ⟨_,_,rfl,fun h3=>?_,fun h3=>?_⟩⟩
   ·have e2:¬((qBS d sc p.result (a+1) x.ls).2≠0):=fun h=>h h3
    rw[if_neg e2]at he
    have hn:=qHX d sc p.result (a+1) x.ls h3
    have r2:=(hk x hm).2 x.xl (qBS d sc p.result (a+1) x.ls).1 (dd+1) hox.xRows hox.xOk hk2 (by omega) (by omega)
    rw[hsc]at r2
    refine⟨hpp,hz,hlt,qAe hpp,_,_,_,_,_,hrow,r2.call ⟨_,_,rfl,fun h4=>?_,fun h4=>?_⟩⟩
    ·rw[if_neg (fun h=>h h4)]at he
     have hn2:=qHX d sc p.result _ x.xs h4
     exact⟨hr.succ hlt,hJ hl _ _ _ _ ⟨rfl,by omega,by omega,he⟩⟩
    ·rw[if_pos h4]at he
     rw[he];exact⟨rfl,rfl⟩
   ·have e2:(qBS d sc p.result (a+1) x.ls).2≠0:=h3
    rw[if_pos e2,if_pos e2]at he
    rw[he];exact⟨rfl,rfl⟩
  ·have e1:qEZ d sc p.result x.op x.s x.es≠0:=h0
   rw[if_pos e1,if_pos e1]at he
   rw[he];exact⟨rfl,rfl⟩
 ·rw[(hr.done hge).1,stsT_nil]at he
  rw[he];exact⟨rfl,rfl⟩
theorem refStmts(hd:Ds.Ok V d){p:Pr}(hp:Pr.Ok V p)(h1:d.globals.length<=1000)(h2:p.params.length<=1000/\p.locals.length<=1000)(l:List S):RefS V d p l:=by
 have hS:∀s:S,RefS V d p s.ls/\RefS V d p s.xs:=by
  intro s
  induction s using S.ind with
  | h s i1 i2=>exact⟨refStep hd hp h1 h2 i1,refStep hd hp h1 h2 i2⟩
 exact refStep hd hp h1 h2 fun x _=>hS x
theorem c153(hd:Ds.Ok V d){l:Sl}{xs:List Fld}(hl:qAd V l 2 (xs.map Fld.row)){i:Nat}{f:Fld}(hf:xs[i]?=some f):PP 153 [d.v,l.v,.int .i64 i] V (.int .i64 (qEP d xs i f)):=by
 refine x153 ?_
 unfold w153
 have hn:=hl.n_eq
 have hil:=(List.getElem?_eq_some_iff.1 hf).1
 have hlt:(i:Int)<(l.n:Int):=by omega
 obtain⟨f',hm,hx,hdr,-,hpp,hz,hrow⟩:=hl.get hlt
 rw[hf]at hx
 cases hx
 refine qAC i (fun k V1=>V=V1/\∀j g,j<k->xs[j]?=some g->¬(g.name=f.name)) ⟨rfl,fun _ _ h=>absurd h (Nat.not_lt_zero _)⟩ ?_
 rintro k b V1 J hi ⟨rfl,ha⟩ hJ
 refine⟨fun hk=>?_,fun hk=>?_⟩
 ·obtain⟨g,hmg,hxg,hdg,hlg,hpg,hzg,hrowg⟩:=hl.get (i:=k) (by omega)
  refine⟨hpg,hzg,by omega,qAe hpg,_,_,hrowg,hpp,hz,hlt,qAe hpp,_,_,hrow,fun he=>?_,fun he=>⟨hl.succ (by omega),hJ (by omega) _ _ ⟨rfl,fun j y hj hy=>?_⟩⟩⟩
  ·have:(xs.take i).any (fun g=>decide (g.name=f.name))=true:=List.any_eq_true.2 ⟨g,by
    rw[List.mem_take_iff_getElem]
    exact⟨k,by omega,(List.getElem?_eq_some_iff.1 hxg).2⟩,decide_eq_true he⟩
   unfold qEP
   rw[if_pos this];exact⟨rfl,rfl⟩
  ·rcases Nat.lt_succ_iff_lt_or_eq.1 hj with h'|rfl
   ·exact ha j y h' hy
   ·rw[hxg]at hy;cases hy;exact he
 ·have:¬(xs.take i).any (fun g=>decide (g.name=f.name))=true:=fun h=>by
   obtain⟨g,hg,he⟩:=List.any_eq_true.1 h
   rw[List.mem_take_iff_getElem]at hg
   obtain⟨j,hj,e⟩:=hg
   exact ha j g (by omega) (by rw[List.getElem?_eq_getElem (by omega),e]) (of_decide_eq_true he)
  unfold qEP
  rw[if_neg this]
  refine⟨hpp,hz,hlt,qAe hpp,_,_,hrow,(c154 hd).call ⟨_,rfl,fun h=>?_,fun h=>?_⟩⟩
  ·rw[if_pos h];exact⟨rfl,rfl⟩
  ·rw[if_neg h];exact⟨rfl,rfl⟩
theorem c152(hd:Ds.Ok V d){l:Sl}{xs:List Fld}(hl:qAd V l 2 (xs.map Fld.row)):PP 152 [d.v,l.v] V (.int .i64 (qCJ d xs)):=by
 refine x152 ?_
 unfold w152 qCJ
 generalize hf:(fun i f=>if qEP d xs i f≠0 then some (qEP d xs i f) else none)=fn
 refine qAC xs.length (fun k V1=>V=V1/\qAk fn 0 xs=qAk fn k (xs.drop k)) ⟨rfl,rfl⟩ ?_
 rintro k b V1 J hi ⟨rfl,ha⟩ hJ
 refine⟨fun hk=>?_,fun hk=>?_⟩
 ·obtain⟨g,hmg,hxg,hdg,hlg,hpg,hzg,hrowg⟩:=hl.get hk
  rw[hdg]at ha
  refine(c153 hd hl hxg).call ⟨_,rfl,fun h=>?_,fun h=>?_⟩
  ·rw[qAl (by rw[<- hf];simp[h])]at ha
   exact⟨hl.succ hk,hJ hlg _ _ ⟨rfl,ha⟩⟩
  ·rw[qAi (b:=qEP d xs k g) (by rw[<- hf];simp only[ne_eq,h,not_false_eq_true,if_true])]at ha
   rw[ha];exact⟨rfl,rfl⟩
 ·rw[(hl.done hk).1,qAk]at ha
  rw[ha];exact⟨rfl,rfl⟩
theorem c158(hd:Ds.Ok V d){sl:Sl}{sc:Sc}(hsl:qAd V sl 2 (sc.vars.map Fld.row)){e:E}(he:E.Ok V e)(hok:okE 1 e=true){t:ByteArray}:PP 158 [d.v,scV sl sc,e.v,.string t] V (.int .i64 (qBp d sc e t)):=by
 refine x158 ?_
 unfold w158 qBp
 refine(qKi hd hsl e he 1 hok V (Mem.sub.refl _)).call ⟨_,_,rfl,fun h=>⟨fun h1=>?_,fun h1=>?_⟩,fun h=>?_⟩
 ·rw[if_neg (fun x=>x h),if_pos h1];exact⟨rfl,rfl⟩
 ·rw[if_neg (fun x=>x h),if_neg h1];exact⟨rfl,rfl⟩
 ·rw[if_pos h];exact⟨rfl,rfl⟩
def qAE(s:ByteArray):Bool:=decide (s=qAP)||decide (s=qAu)
end
theorem idx_lt{α:Type}{p:α->Bool}{xs:List α}{i:Nat}{x:α}(hx:xs[i]?=some x)(hp:p x=true):(qHo p xs<(i:Int)↔(xs.take i).any p=true)/\0<=qHo p xs:=by
 rcases qAB p xs with⟨h1,h2,h3⟩|⟨j,y,h1,h2,h3,h4,h5,h6,h7,h8⟩
 ·exact absurd hp (List.any_eq_false.1 h3 x (List.mem_of_getElem? hx))
 ·rw[h1]
  refine⟨⟨fun h=>?_,fun h=>?_⟩,by omega⟩
  ·exact List.any_eq_true.2 ⟨y,by
    rw[List.mem_take_iff_getElem]
    exact⟨j,by omega,(List.getElem?_eq_some_iff.1 h2).2⟩,h5⟩
  ·obtain⟨g,hg,he⟩:=List.any_eq_true.1 h
   rw[List.mem_take_iff_getElem]at hg
   obtain⟨k,hk,e⟩:=hg
   rcases Nat.lt_or_ge j i with hh|hh
   ·omega
   ·exfalso
    have:g∈xs.take j:=by
     rw[List.mem_take_iff_getElem]
     exact⟨k,by omega,e⟩
    exact List.any_eq_false.1 h8 g this he
section
variable{V:Mem}{d:Ds}
def f2(o:Option Flt):Value:=.tuple #[.string (fltR o).1,.int .i64 (fltR o).2.2]
theorem c120(hd:Ds.Ok V d):PP 120 [d.v] V (f2 (qHT d)):=by
 refine x120 ?_
 unfold w120 qHT
 have key:∀{X:Option Flt} (s:ByteArray) (n:Int),X=some (s,-1,n)->(Ending.returned (.tuple #[.string s,.int .i64 n])=Ending.returned (f2 X)/\V=V):=fun s n h=>by rw[h];exact⟨rfl,rfl⟩
 unfold types1
 generalize hf1:(fun i (t:Ty)=>if (d.types.take i).any (fun g=>decide (g.name=t.name))=true then some ((t.name,-1,10):Flt) else none)=F1
 refine qDY d.types.length (fun k V1=>V=V1/\qAk F1 0 d.types=qAk F1 k (d.types.drop k)) ⟨rfl,rfl⟩ ?_
 rintro k b c V1 J hi ⟨rfl,ha⟩ hJ
 refine⟨fun hk=>?_,fun hk=>?_⟩
 ·obtain⟨g,hm,hx,hdr,hl,hp,hz,hrow⟩:=hd.types.get hk
  have hlt:=(idx_lt (p:=fun t:Ty=>decide (t.name=g.name)) hx (by simp)).1
  rw[hdr]at ha
  refine⟨hp,hz,hk,qAe hp,_,_,hrow,(c92 hd).call ⟨_,rfl,fun h=>⟨hp,hz,hk,qAe hp,_,_,hrow,key _ _ ?_⟩,fun h=>⟨hd.types.succ hk,hJ hl _ _ _ ⟨rfl,?_⟩⟩⟩⟩
  ·rw[ha,qAi (b:=(g.name,-1,10)) (by rw[<- hf1];exact if_pos (hlt.1 h))];rfl
  ·rw[ha,qAl (by rw[<- hf1];exact if_neg fun e=>h (hlt.2 e))]
 rw[(hd.types.done hk).1,qAk]at ha
 rw[ha,Option.none_or]
 unfold types2
 generalize hf2:(fun(_:Nat) (t:Ty)=>if qCJ d t.fields≠0 then some ((t.name,-1,qCJ d t.fields):Flt) else none)=F2
 refine qDY d.types.length (fun k V1=>V=V1/\qAk F2 0 d.types=qAk F2 k (d.types.drop k)) ⟨rfl,rfl⟩ ?_
 rintro k b c V1 J hi ⟨rfl,ha⟩ hJ
 refine⟨fun hk=>?_,fun hk=>?_⟩
 ·obtain⟨g,hm,hx,hdr,hl,hp,hz,hrow⟩:=hd.types.get hk
  rw[hdr]at ha
  refine⟨hp,hz,hk,qAe hp,_,_,hrow,(c152 hd (hd.typesOk g hm).fields).call ⟨_,rfl,fun h=>⟨hd.types.succ hk,hJ hl _ _ _ ⟨rfl,?_⟩⟩,fun h=>⟨hp,hz,hk,qAe hp,_,_,hrow,key _ _ ?_⟩⟩⟩
  ·rw[ha,qAl (by rw[<- hf2];exact if_neg fun e=>e h)]
  ·rw[ha,qAi (b:=(g.name,-1,qCJ d g.fields)) (by rw[<- hf2];exact if_pos h)];rfl
 rw[(hd.types.done hk).1,qAk]at ha
 rw[ha,Option.none_or]
 unfold types3
 generalize hf3:(fun i (f:Fld)=>if qEP d d.globals i f≠0 then some ((f.name,-1,qEP d d.globals i f):Flt) else none)=F3
 refine qDY d.globals.length (fun k V1=>V=V1/\qAk F3 0 d.globals=qAk F3 k (d.globals.drop k)) ⟨rfl,rfl⟩ ?_
 rintro k b c V1 J hi ⟨rfl,ha⟩ hJ
 refine⟨fun hk=>?_,fun hk=>?_⟩
 ·obtain⟨g,hm,hx,hdr,hl,hp,hz,hrow⟩:=hd.globals.get hk
  rw[hdr]at ha
  refine(c153 hd hd.globals hx).call ⟨_,rfl,fun h=>⟨hd.globals.succ hk,hJ hl _ _ _ ⟨rfl,?_⟩⟩,fun h=>⟨hp,hz,hk,qAe hp,_,_,hrow,key _ _ ?_⟩⟩
  ·rw[ha,qAl (by rw[<- hf3];exact if_neg fun e=>e h)]
  ·rw[ha,qAi (b:=(g.name,-1,qEP d d.globals k g)) (by rw[<- hf3];exact if_pos h)]
 rw[(hd.globals.done hk).1,qAk]at ha
 rw[ha]
 exact⟨rfl,rfl⟩
theorem c121(hd:Ds.Ok V d)(hsm:Small d):PP 121 [d.v] V (f2 (qFY d)):=by
 refine Pur.mk (x121 ?_)
 unfold w121 qFY
 generalize hf1:(fun i (p:Pr)=>if (d.procs.take i).any (fun g=>decide (g.name=p.name))=true then some ((p.name,-1,10):Flt) else if qCJ d (p.params++p.locals)≠0 then some (p.name,-1,qCJ d (p.params++p.locals)) else if p.result≠sE/\qBh d p.result=false then some (p.name,-1,9) else none)=F1
 refine qDY d.procs.length (fun k V1=>V.sub V1/\qAk F1 0 d.procs=qAk F1 k (d.procs.drop k)) ⟨Mem.sub.refl _,rfl⟩ ?_
 rintro k b c V1 J hi ⟨hV,ha⟩ hJ
 have hd1:=hd.sub hV
 have key:∀{X:Option Flt} (V2:Mem) (s:ByteArray) (n:Int),V.sub V2->X=some (s,-1,n)->(Ending.returned (.tuple #[.string s,.int .i64 n])=Ending.returned (f2 X)/\V.sub V2):=fun V2 s n h2 h=>by rw[h];exact⟨rfl,h2⟩
 refine⟨fun hk=>?_,fun hk=>?_⟩
 ·obtain⟨g,hm,hx,hdr,hl,hp,hz,hrow⟩:=hd1.procs.get hk
  have hlt:=(idx_lt (p:=fun t:Pr=>decide (t.name=g.name)) hx (by simp)).1
  have hg:=hd1.procsOk g hm
  have hs:=hsm.2 g hm
  rw[hdr]at ha
  refine⟨hp,hz,hk,_,_,_,_,_,hrow,(c23 hd1).call ⟨_,rfl,fun h=>key _ _ _ hV ?_,fun h=>?_⟩⟩
  ·rw[ha,qAi (b:=(g.name,-1,10)) (by rw[<- hf1];exact if_pos (hlt.1 h))]
  intro b1 hb1
  have hs1:=Mem.sub_new hb1 (.cells #[] 81 (0,0))
  refine qGe (s:=⟨some ⟨b1,0,none⟩,0,0⟩) (u:=g.ps) (xs:=[]) (ys:=g.params) rfl rfl (Own.empty hs1 _ _ _) (hg.params.sub hs1) (by simp;omega) fun s1 W1 o1=>⟨s1,rfl,?_⟩
  refine qGe (s:=s1) (u:=g.ls) (xs:=g.params) (ys:=g.locals) rfl rfl o1 (hg.locals.sub o1.sub) (by omega) fun s2 W2 o2=>⟨s2,rfl,?_⟩
  have hd2:=hd1.sub o2.sub
  have hV2:=hV.trans o2.sub
  have n1:¬(d.procs.take k).any (fun t=>decide (t.name=g.name))=true:=fun e=>h (hlt.2 e)
  refine(c152 hd2 (ownF o2)).call ⟨_,rfl,fun h2=>?_,fun h2=>key _ _ _ hV2 ?_⟩
  ·have n2:¬(qCJ d (g.params++g.locals)≠0):=fun e=>e h2
   refine⟨fun h3=>⟨hd1.procs.succ hk,hJ hl _ _ _ ⟨hV2,?_⟩⟩,fun h3=>(c154 hd2).call ⟨_,rfl,fun h4=>⟨hd1.procs.succ hk,hJ hl _ _ _ ⟨hV2,?_⟩⟩,fun h4=>key _ _ _ hV2 ?_⟩⟩
   ·rw[ha,qAl (by rw[<- hf1];exact(if_neg n1).trans ((if_neg n2).trans (if_neg fun e=>e.1 h3)))]
   ·rw[ha,qAl (by rw[<- hf1];exact(if_neg n1).trans ((if_neg n2).trans (if_neg fun e=>by rw[h4]at e;exact absurd e.2 (by simp))))]
   ·rw[ha,qAi (b:=(g.name,-1,9)) (by rw[<- hf1];exact(if_neg n1).trans ((if_neg n2).trans (if_pos ⟨h3,eq_false_of_ne_true h4⟩)))]
  ·rw[ha,qAi (b:=(g.name,-1,qCJ d (g.params++g.locals))) (by rw[<- hf1];exact(if_neg n1).trans (if_pos h2))]
 ·rw[(hd1.procs.done hk).1,qAk]at ha
  rw[ha]
  exact⟨rfl,hV⟩
end
theorem qGf{α:Type}{p:α->Bool}{xs:List α}{i k:Nat}{g:α}(hx:xs[k]?=some g)(hk:k<i)(hp:p g=true):(xs.take i).any p=true :=
 List.any_eq_true.2 ⟨g,by rw[List.mem_take_iff_getElem];have hl:=(List.getElem?_eq_some_iff.1 hx).1;exact⟨k,by omega,(List.getElem?_eq_some_iff.1 hx).2⟩,hp⟩
theorem qGg{α:Type}{p:α->Bool}{xs:List α}{i:Nat}(h:∀j g,j<i->xs[j]?=some g->¬p g=true):¬(xs.take i).any p=true:=fun hh=>by
 obtain⟨g,hg,he⟩:=List.any_eq_true.1 hh
 rw[List.mem_take_iff_getElem]at hg
 obtain⟨j,hj,e⟩:=hg
 exact h j g (by omega) (by rw[List.getElem?_eq_getElem (by omega),e]) he
section
variable{V:Mem}{d:Ds}
theorem c122(hd:Ds.Ok V d):PP 122 [d.v] V (f2 (qFe d)):=by
 refine x122 ?_
 unfold w122 qFe
 have key:∀{X:Option Flt} (s:ByteArray) (n:Int),X=some (s,-1,n)->(Ending.returned (.tuple #[.string s,.int .i64 n])=Ending.returned (f2 X)/\V=V):=fun s n h=>by rw[h];exact⟨rfl,rfl⟩
 unfold form1
 generalize hf1:(fun i (m:Ms)=>if (d.measures.take i).any (fun g=>decide (g.name=m.name))=true then some ((m.name,-1,10):Flt) else if qAX d m.ty=false then some (m.name,-1,9) else none)=F1
 refine qDY d.measures.length (fun k V1=>V=V1/\qAk F1 0 d.measures=qAk F1 k (d.measures.drop k)) ⟨rfl,rfl⟩ ?_
 rintro k b c V1 J hi ⟨rfl,ha⟩ hJ
 refine⟨fun hk=>?_,fun hk=>?_⟩
 ·obtain⟨g,hm,hx,hdr,hl,hp,hz,hrow⟩:=hd.measures.get hk
  have hlt:=(idx_lt (p:=fun t:Ms=>decide (t.name=g.name)) hx (by simp)).1
  rw[hdr]at ha
  have hq:=qAe (n:=k*7) hp
  refine⟨hp,hz,hk,hq,_,_,_,_,_,_,_,hrow,(c155 hd).call ⟨_,rfl,fun h=>⟨hp,hz,hk,hq,_,_,_,_,_,_,_,hrow,key _ _ ?_⟩,fun h=>⟨hp,hz,hk,hq,_,_,_,_,_,_,_,hrow,(c156 hd).call ⟨_,rfl,fun h2=>⟨hd.measures.succ hk,hJ hl _ _ _ ⟨rfl,?_⟩⟩,fun h2=>⟨hp,hz,hk,hq,_,_,_,_,_,_,_,hrow,key _ _ ?_⟩⟩⟩⟩⟩
  ·rw[ha,qAi (b:=(g.name,-1,10)) (by rw[<- hf1];exact if_pos (hlt.1 h))];rfl
  ·rw[ha,qAl (by rw[<- hf1];exact(if_neg fun e=>h (hlt.2 e)).trans (if_neg (by rw[h2];simp)))]
  ·rw[ha,qAi (b:=(g.name,-1,9)) (by rw[<- hf1];exact(if_neg fun e=>h (hlt.2 e)).trans (if_pos (eq_false_of_ne_true h2)))];rfl
 rw[(hd.measures.done hk).1,qAk]at ha
 rw[ha,Option.none_or]
 unfold form2
 generalize hf2:(fun i (m:Iv)=>if (d.invs.take i).any (fun g=>decide (g.name=m.name))=true then some ((m.name,-1,10):Flt) else if m.ty≠sE/\qAX d m.ty=false then some (m.name,-1,9) else none)=F2
 refine qDY d.invs.length (fun k V1=>V=V1/\qAk F2 0 d.invs=qAk F2 k (d.invs.drop k)) ⟨rfl,rfl⟩ ?_
 rintro k b c V1 J hi ⟨rfl,ha⟩ hJ
 refine⟨fun hk=>?_,fun hk=>?_⟩
 ·obtain⟨g,hm,hx,hdr,hl,hp,hz,hrow⟩:=hd.invs.get hk
  rw[hdr]at ha
  have hq:=qAe (n:=k*6) hp
  refine qDY k (fun j V1=>V=V1/\∀j' g',j'<j->d.invs[j']?=some g'->¬decide (g'.name=g.name)=true) ⟨rfl,fun _ _ h=>absurd h (Nat.not_lt_zero _)⟩ ?_
  rintro j b c V1 J1 hi ⟨rfl,hb⟩ hJ1
  refine⟨fun hj=>?_,fun hj=>?_⟩
  ·obtain⟨g',hm',hx',hdr',hl',hp',hz',hrow'⟩:=hd.invs.get (i:=j) (by omega)
   refine⟨hp',hz',by omega,qAe hp',_,_,_,_,_,_,hrow',hp,hz,hk,hq,_,_,_,_,_,_,hrow,fun he=>⟨hp,hz,hk,hq,_,_,_,_,_,_,hrow,key _ _ ?_⟩,fun he=>⟨hd.invs.succ (by omega),hJ1 (by omega) _ _ _ ⟨rfl,fun j' y hj' hy=>?_⟩⟩⟩
   ·rw[ha,qAi (b:=(g.name,-1,10)) (by rw[<- hf2];exact if_pos (qGf hx' (by omega) (decide_eq_true he)))];rfl
   ·rcases Nat.lt_succ_iff_lt_or_eq.1 hj' with h'|rfl
    ·exact hb j' y h' hy
    ·rw[hx']at hy;cases hy;exact fun e=>he (of_decide_eq_true e)
  ·have n1:=qGg (i:=k) (fun j' g' h'=>hb j' g' (by omega))
   refine⟨hp,hz,hk,hq,_,_,_,_,_,_,hrow,fun h3=>⟨hd.invs.succ hk,hJ hl _ _ _ ⟨rfl,?_⟩⟩,fun h3=>⟨hp,hz,hk,hq,_,_,_,_,_,_,hrow,(c156 hd).call ⟨_,rfl,fun h2=>⟨hd.invs.succ hk,hJ hl _ _ _ ⟨rfl,?_⟩⟩,fun h2=>⟨hp,hz,hk,hq,_,_,_,_,_,_,hrow,key _ _ ?_⟩⟩⟩⟩
   ·rw[ha,qAl (by rw[<- hf2];exact(if_neg n1).trans (if_neg fun e=>e.1 h3))]
   ·rw[ha,qAl (by rw[<- hf2];exact(if_neg n1).trans (if_neg fun e=>by rw[h2]at e;exact absurd e.2 (by simp)))]
   ·rw[ha,qAi (b:=(g.name,-1,9)) (by rw[<- hf2];exact(if_neg n1).trans (if_pos ⟨h3,eq_false_of_ne_true h2⟩))];rfl
 rw[(hd.invs.done hk).1,qAk]at ha
 rw[ha,Option.none_or]
 unfold form3
 generalize hf3:(fun(_:Nat) (m:Po)=>if m.ty≠sE/\qAX d m.ty=false then some ((sPot,-1,9):Flt) else none)=F3
 refine qDY d.pots.length (fun k V1=>V=V1/\qAk F3 0 d.pots=qAk F3 k (d.pots.drop k)) ⟨rfl,rfl⟩ ?_
 rintro k b c V1 J hi ⟨rfl,ha⟩ hJ
 refine⟨fun hk=>?_,fun hk=>?_⟩
 ·obtain⟨g,hm,hx,hdr,hl,hp,hz,hrow⟩:=hd.pots.get hk
  rw[hdr]at ha
  have hq:=qAe (n:=k*5) hp
  refine⟨hp,hz,hk,hq,_,_,_,_,_,hrow,fun h3=>⟨hd.pots.succ hk,hJ hl _ _ _ ⟨rfl,?_⟩⟩,fun h3=>⟨hp,hz,hk,hq,_,_,_,_,_,hrow,(c156 hd).call ⟨_,rfl,fun h2=>⟨hd.pots.succ hk,hJ hl _ _ _ ⟨rfl,?_⟩⟩,fun h2=>key _ _ ?_⟩⟩⟩
  ·rw[ha,qAl (by rw[<- hf3];exact if_neg fun e=>e.1 h3)]
  ·rw[ha,qAl (by rw[<- hf3];exact if_neg fun e=>by rw[h2]at e;exact absurd e.2 (by simp))]
  ·rw[ha,qAi (b:=(sPot,-1,9)) (by rw[<- hf3];exact if_pos ⟨h3,eq_false_of_ne_true h2⟩)];rfl
 rw[(hd.pots.done hk).1,qAk]at ha
 rw[ha,Option.none_or]
 unfold form4
 generalize hf4:(fun i (b:Bd)=>if (qFE d b.proc).isNone=true then some ((b.proc,-1,9):Flt) else if (d.bounds.take i).any (fun g=>decide (g.proc=b.proc))=true then some (b.proc,-1,10) else none)=F4
 refine qDY d.bounds.length (fun k V1=>V=V1/\qAk F4 0 d.bounds=qAk F4 k (d.bounds.drop k)) ⟨rfl,rfl⟩ ?_
 rintro k b c V1 J hi ⟨rfl,ha⟩ hJ
 refine⟨fun hk=>?_,fun hk=>?_⟩
 ·obtain⟨g,hm,hx,hdr,hl,hp,hz,hrow⟩:=hd.bounds.get hk
  rw[hdr]at ha
  have hq:=qAe (n:=k*5) hp
  refine⟨hp,hz,hk,hq,_,_,_,_,_,hrow,(c23 hd).call ⟨_,rfl,?_⟩⟩
  rcases qAB (fun t:Pr=>decide (t.name=g.proc)) d.procs with⟨i1,i2,i3⟩|⟨i,x,i1,i2,i3,i4,i5,i6,i7,_⟩
  ·rw[i1]
   refine⟨fun _=>⟨hp,hz,hk,hq,_,_,_,_,_,hrow,key _ _ ?_⟩,fun h=>absurd h (by decide)⟩
   rw[ha,qAi (b:=(g.proc,-1,9)) (by rw[<- hf4];exact if_pos (by unfold qFE;rw[i2];rfl))]
  ·rw[i1]
   have n0:¬(qFE d g.proc).isNone=true:=by unfold qFE;rw[i3];simp
   refine⟨fun h=>absurd h (by omega),fun _=>?_⟩
   refine qDY k (fun j V1=>V=V1/\∀j' g',j'<j->d.bounds[j']?=some g'->¬decide (g'.proc=g.proc)=true) ⟨rfl,fun _ _ h=>absurd h (Nat.not_lt_zero _)⟩ ?_
   rintro j b c V1 J1 hi ⟨rfl,hb⟩ hJ1
   refine⟨fun hj=>?_,fun hj=>?_⟩
   ·obtain⟨g',hm',hx',hdr',hl',hp',hz',hrow'⟩:=hd.bounds.get (i:=j) (by omega)
    refine⟨hp',hz',by omega,qAe hp',_,_,_,_,_,hrow',hp,hz,hk,hq,_,_,_,_,_,hrow,fun he=>⟨hp,hz,hk,hq,_,_,_,_,_,hrow,key _ _ ?_⟩,fun he=>⟨hd.bounds.succ (by omega),hJ1 (by omega) _ _ _ ⟨rfl,fun j' y hj' hy=>?_⟩⟩⟩
    ·rw[ha,qAi (b:=(g.proc,-1,10)) (by rw[<- hf4];exact(if_neg n0).trans (if_pos (qGf hx' (by omega) (decide_eq_true he))))]
    ·rcases Nat.lt_succ_iff_lt_or_eq.1 hj' with h'|rfl
     ·exact hb j' y h' hy
     ·rw[hx']at hy;cases hy;exact fun e=>he (of_decide_eq_true e)
   ·have n1:=qGg (i:=k) (fun j' g' h'=>hb j' g' (by omega))
    exact⟨hd.bounds.succ hk,hJ hl _ _ _ ⟨rfl,by rw[ha,qAl (by rw[<- hf4];exact(if_neg n0).trans (if_neg n1))]⟩⟩
 rw[(hd.bounds.done hk).1,qAk]at ha
 rw[ha]
 exact⟨rfl,rfl⟩
end
structure qJV (d:Ds):Prop where
 small:Small d
 ms:∀m∈d.measures,okE 1 m.x=true
 is:∀m∈d.invs,okE 1 m.x=true
 qs:∀m∈d.pots,okE 1 m.x=true
 bs:∀m∈d.bounds,okE 1 m.x=true
 ps:∀p∈d.procs,qHB 1 p.body=true/\qHi p.body<=200
theorem qFJ{e:E}(h:qAO e=true):okE 1 e=true:=by
 unfold qAO at h;exact(of_decide_eq_true h).1
theorem vparts{d:Ds}(h:qAT d=true):qJV d:=by
 unfold qAT qJf at h
 simp only[Bool.and_eq_true,decide_eq_true_eq,List.all_eq_true]at h
 obtain⟨⟨⟨⟨⟨⟨⟨-,-⟩,hg⟩,-⟩,-⟩,-⟩,hp⟩,⟨⟨hm,hi⟩,hq⟩,hb⟩:=h
 have fl:∀{l:List Fld} {n:Int},qDN l n=true->n<=100->l.length<=1000:=fun h h'=>by
  unfold qDN at h
  rw[Bool.and_eq_true,decide_eq_true_eq]at h
  omega
 refine⟨⟨fl hg (by omega),fun p hpp=>?_⟩,fun m hmm=>?_,fun m hmm=>?_,fun m hmm=>?_,fun m hmm=>?_,fun p hpp=>?_⟩
 ·have:=hp p hpp
  unfold prB at this
  simp only[Bool.and_eq_true]at this
  exact⟨fl this.1.1.1.2 (by omega),fl this.1.1.2 (by omega)⟩
 ·have:=hm m hmm
  unfold msB at this
  simp only[Bool.and_eq_true]at this
  exact qFJ this.2
 ·have:=hi m hmm
  unfold ivB at this
  simp only[Bool.and_eq_true]at this
  exact qFJ this.2
 ·have:=hq m hmm
  unfold poB at this
  simp only[Bool.and_eq_true]at this
  exact qFJ this.2
 ·have:=hb m hmm
  unfold bdB at this
  simp only[Bool.and_eq_true]at this
  exact qFJ this.2
 ·have:=hp p hpp
  unfold prB at this
  simp only[Bool.and_eq_true]at this
  have:=this.2
  unfold qFn at this
  exact of_decide_eq_true this
theorem qCU{α β:Type}{f:Nat->α->Option β}{b:β}:∀{i:Nat} {xs:List α},qAk f i xs=some b->∃j x,x∈xs/\f j x=some b
 | _,[],h=>by cases h
 | i,x::xs,h=>by
  cases hx:f i x with
  | some c=>rw[qAi hx]at h;cases h;exact⟨i,x,by simp,hx⟩
  | none =>
   rw[qAl hx]at h
   obtain⟨j,y,hy,e⟩:=qCU h
   exact⟨j,y,by simp[hy],e⟩
def Bad(r:Flt):Prop:=r.2.2≠0/\r.2.1=-1
theorem qGT{P:Flt->Prop}{a b:Option Flt}(ha:∀r,a=some r->P r)(hb:∀r,b=some r->P r):∀r,a.or b=some r->P r:=fun r h=>by
 cases a with
 | none=>exact hb r (by simpa using h)
 | some x=>exact ha r (by simpa using h)
theorem qHS(d:Ds):∀r,qHT d=some r->Bad r:=by
 refine qGT (fun r h=>?_) (qGT (fun r h=>?_) (fun r h=>?_)) <;> obtain⟨j,x,hx,e⟩:=qCU h
 ·split at e
  ·cases e;exact⟨by simp,rfl⟩
  ·cases e
 ·split at e
  ·rename_i h';cases e;exact⟨h',rfl⟩
  ·cases e
 ·split at e
  ·rename_i h';cases e;exact⟨h',rfl⟩
  ·cases e
theorem qIB(d:Ds):∀r,qFY d=some r->Bad r:=fun r h=>by
 obtain⟨j,x,hx,e⟩:=qCU h
 split at e
 ·cases e;exact⟨by simp,rfl⟩
 ·split at e
  ·rename_i h';cases e;exact⟨h',rfl⟩
  ·split at e
   ·cases e;exact⟨by simp,rfl⟩
   ·cases e
theorem qKz(d:Ds):∀r,qFe d=some r->Bad r:=by
 refine qGT (fun r h=>?_) (qGT (fun r h=>?_) (qGT (fun r h=>?_) (fun r h=>?_))) <;> obtain⟨j,x,hx,e⟩:=qCU h
 ·split at e
  ·cases e;exact⟨by simp,rfl⟩
  ·split at e
   ·cases e;exact⟨by simp,rfl⟩
   ·cases e
 ·split at e
  ·cases e;exact⟨by simp,rfl⟩
  ·split at e
   ·cases e;exact⟨by simp,rfl⟩
   ·cases e
 ·split at e
  ·cases e;exact⟨by simp,rfl⟩
  ·cases e
 ·split at e
  ·cases e;exact⟨by simp,rfl⟩
  ·split at e
   ·cases e;exact⟨by simp,rfl⟩
   ·cases e
theorem qKD(d:Ds):∀r,qII d=some r->Bad r:=by
 refine qGT (fun r h=>?_) (qGT (fun r h=>?_) (qGT (fun r h=>?_) (fun r h=>?_))) <;> obtain⟨j,x,hx,e⟩:=qCU h <;> split at e
 all_goals first | (cases e;done) | (rename_i h';cases e;exact⟨h',rfl⟩)
theorem qIR{d:Ds}(hform:qFe d=none):∀g∈d.bounds,∃p,qFE d g.proc=some p:=by
 have h4:form4 d=none:=by
  unfold qFe at hform
  cases h:form4 d with
  | none=>rfl
  | some r=>rw[h]at hform;simp at hform
 have aux:∀(l:List Bd) (i:Nat),qAk (fun i b=>if (qFE d b.proc).isNone=true then some ((b.proc,-1,9):Flt) else if (d.bounds.take i).any (fun g=>decide (g.proc=b.proc))=true then some (b.proc,-1,10) else none) i l=none->∀g∈l,∃p,qFE d g.proc=some p:=by
  intro l
  induction l with
  | nil=>intro i _ g hg;exact absurd hg List.not_mem_nil
  | cons y l ih =>
   intro i h g hg
   cases hy:qFE d y.proc with
   | none=>rw[qAi (b:=(y.proc,-1,9)) (if_pos (by rw[hy];rfl))]at h;cases h
   | some p =>
    rcases List.mem_cons.1 hg with rfl|hg
    ·exact⟨p,hy⟩
    ·by_cases ht:(d.bounds.take i).any (fun g=>decide (g.proc=y.proc))=true
     ·rw[qAi (b:=(y.proc,-1,10)) ((if_neg (by rw[hy];simp)).trans (if_pos ht))]at h;cases h
     ·rw[qAl ((if_neg (by rw[hy];simp)).trans (if_neg ht))]at h
      exact ih _ h g hg
 exact aux d.bounds 0 h4
theorem qEq{V:Mem}{p:Option Addr}{off n j m:Nat}{vs:List Value}(h:V.rowp p off n=some vs)(hj:0<j)(hl:j+m<=n):V.rowp (qAa (qAa p off) j) 0 m=some ((vs.drop j).take m):=by
 cases p with
 | none=>cases h
 | some a =>
  have e:((a.add off).add j).add 0=⟨a.block,a.off+off+j,none⟩:=by
   unfold Addr.add
   by_cases h1:off=0 <;> simp[h1,show ¬j=0 by omega]
  have e0:(a.add off).off=a.off+off/\(a.add off).block=a.block:=by
   unfold Addr.add
   by_cases h1:off=0 <;> simp[h1]
  show V.row (((a.add off).add j).add 0) m=_
  have h:V.row (a.add off) n=some vs:=h
  rw[e]
  unfold Mem.row at h ⊢
  rw[e0.2]at h
  split at h
  ·rename_i c x y hb
   simp only[hb]
   split at h
   ·rename_i hc
    rw[e0.1]at hc h
    cases h
    rw[if_pos ⟨rfl,by omega⟩,List.drop_take,List.take_take,List.drop_drop,Nat.min_eq_left (by omega)]
   ·cases h
  ·cases h
section
variable{V:Mem}{d:Ds}
theorem c124(hd:Ds.Ok V d)(hv:qJV d)(hform:qFe d=none):PP 124 [d.v] V (f2 (qII d)):=by
 refine Pur.mk (x124 ?_)
 unfold w124 qII
 have hg:=hv.small.1
 have key:∀{X:Option Flt} (V2:Mem) (s:ByteArray) (n:Int),V.sub V2->X=some (s,-1,n)->(Ending.returned (.tuple #[.string s,.int .i64 n])=Ending.returned (f2 X)/\V.sub V2):=fun V2 s n h2 h=>by rw[h];exact⟨rfl,h2⟩
 unfold exp1
 generalize hf1:(fun(_:Nat) (m:Ms)=>if qBp d (qAz d m.ty) m.x qAP≠0 then some ((m.name,-1,qBp d (qAz d m.ty) m.x qAP):Flt) else none)=F1
 refine qDY d.measures.length (fun k V1=>V.sub V1/\qAk F1 0 d.measures=qAk F1 k (d.measures.drop k)) ⟨Mem.sub.refl _,rfl⟩ ?_
 rintro k b c V1 J hi ⟨hV,ha⟩ hJ
 have hd1:=hd.sub hV
 refine⟨fun hk=>?_,fun hk=>?_⟩
 ·obtain⟨g,hm,hx,hdr,hl,hp,hz,hrow⟩:=hd1.measures.get hk
  rw[hdr]at ha
  have hq:=qAe (n:=k*7) hp
  refine⟨hp,hz,hk,hq,_,_,_,_,_,_,_,hrow,hp,hz,hk,hq,_,_,_,_,_,_,_,hrow,Tri.mono (qEr hd1 hg) ?_⟩
  rintro _ V2 ⟨s',rfl,h12,hsc⟩
  have hrow2:=h12.rowp hrow
  refine⟨s',false,rfl,qEq (j:=3) (m:=4) hrow2 (by decide) (by decide),hq,hp,hz,hk,(c158 (sc:=qAz d g.ty) (e:=g.x) (hd1.sub h12) hsc ((hd1.sub h12).measuresOk g hm).x (hv.ms g hm)).call ⟨_,rfl,fun h=>⟨hd1.measures.succ hk,hJ hl _ _ _ ⟨hV.trans h12,?_⟩⟩,fun h=>⟨hp,hz,hk,hq,_,_,_,_,_,_,_,hrow2,key _ _ _ (hV.trans h12) ?_⟩⟩⟩
  ·rw[ha,qAl (by rw[<- hf1];exact if_neg fun e=>e h)]
  ·rw[ha,qAi (b:=(g.name,-1,qBp d (qAz d g.ty) g.x qAP)) (by rw[<- hf1];exact if_pos h)];rfl
 rw[(hd1.measures.done hk).1,qAk]at ha
 rw[ha,Option.none_or]
 unfold exp2
 generalize hf2:(fun(_:Nat) (m:Iv)=>if qBp d (qAz d m.ty) m.x qAu≠0 then some ((m.name,-1,qBp d (qAz d m.ty) m.x qAu):Flt) else none)=F2
 refine qDY d.invs.length (fun k V1=>V.sub V1/\qAk F2 0 d.invs=qAk F2 k (d.invs.drop k)) ⟨hV,rfl⟩ ?_
 rintro k b c V1 J hi ⟨hV,ha⟩ hJ
 have hd1:=hd.sub hV
 refine⟨fun hk=>?_,fun hk=>?_⟩
 ·obtain⟨g,hm,hx,hdr,hl,hp,hz,hrow⟩:=hd1.invs.get hk
  rw[hdr]at ha
  have hq:=qAe (n:=k*6) hp
  refine⟨hp,hz,hk,hq,_,_,_,_,_,_,hrow,hp,hz,hk,hq,_,_,_,_,_,_,hrow,Tri.mono (qEr hd1 hg) ?_⟩
  rintro _ V2 ⟨s',rfl,h12,hsc⟩
  have hrow2:=h12.rowp hrow
  refine⟨s',false,rfl,qEq (j:=2) (m:=4) hrow2 (by decide) (by decide),hq,hp,hz,hk,(c158 (sc:=qAz d g.ty) (e:=g.x) (hd1.sub h12) hsc ((hd1.sub h12).invsOk g hm) (hv.is g hm)).call ⟨_,rfl,fun h=>⟨hd1.invs.succ hk,hJ hl _ _ _ ⟨hV.trans h12,?_⟩⟩,fun h=>⟨hp,hz,hk,hq,_,_,_,_,_,_,hrow2,key _ _ _ (hV.trans h12) ?_⟩⟩⟩
  ·rw[ha,qAl (by rw[<- hf2];exact if_neg fun e=>e h)]
  ·rw[ha,qAi (b:=(g.name,-1,qBp d (qAz d g.ty) g.x qAu)) (by rw[<- hf2];exact if_pos h)];rfl
 rw[(hd1.invs.done hk).1,qAk]at ha
 rw[ha,Option.none_or]
 unfold exp3
 generalize hf3:(fun(_:Nat) (m:Po)=>if qBp d (qAz d m.ty) m.x qAP≠0 then some ((sPot,-1,qBp d (qAz d m.ty) m.x qAP):Flt) else none)=F3
 refine qDY d.pots.length (fun k V1=>V.sub V1/\qAk F3 0 d.pots=qAk F3 k (d.pots.drop k)) ⟨hV,rfl⟩ ?_
 rintro k b c V1 J hi ⟨hV,ha⟩ hJ
 have hd1:=hd.sub hV
 refine⟨fun hk=>?_,fun hk=>?_⟩
 ·obtain⟨g,hm,hx,hdr,hl,hp,hz,hrow⟩:=hd1.pots.get hk
  rw[hdr]at ha
  have hq:=qAe (n:=k*5) hp
  refine⟨hp,hz,hk,hq,_,_,_,_,_,hrow,hp,hz,hk,hq,_,_,_,_,_,hrow,Tri.mono (qEr hd1 hg) ?_⟩
  rintro _ V2 ⟨s',rfl,h12,hsc⟩
  have hrow2:=h12.rowp hrow
  refine⟨s',false,rfl,qEq (j:=1) (m:=4) hrow2 (by decide) (by decide),hq,hp,hz,hk,(c158 (sc:=qAz d g.ty) (e:=g.x) (hd1.sub h12) hsc ((hd1.sub h12).potsOk g hm) (hv.qs g hm)).call ⟨_,rfl,fun h=>⟨hd1.pots.succ hk,hJ hl _ _ _ ⟨hV.trans h12,?_⟩⟩,fun h=>key _ _ _ (hV.trans h12) ?_⟩⟩
  ·rw[ha,qAl (by rw[<- hf3];exact if_neg fun e=>e h)]
  ·rw[ha,qAi (b:=(sPot,-1,qBp d (qAz d g.ty) g.x qAP)) (by rw[<- hf3];exact if_pos h)];rfl
 rw[(hd1.pots.done hk).1,qAk]at ha
 rw[ha,Option.none_or]
 have hpr:=qIR hform
 unfold exp4
 generalize hf4:(fun(_:Nat) (m:Bd)=>if qBp d (qBy d ((qFE d m.proc).getD prD)) m.x qAP≠0 then some ((m.proc,-1,qBp d (qBy d ((qFE d m.proc).getD prD)) m.x qAP):Flt) else none)=F4
 refine qDY d.bounds.length (fun k V1=>V.sub V1/\qAk F4 0 d.bounds=qAk F4 k (d.bounds.drop k)) ⟨hV,rfl⟩ ?_
 rintro k b c V1 J hi ⟨hV,ha⟩ hJ
 have hd1:=hd.sub hV
 refine⟨fun hk=>?_,fun hk=>?_⟩
 ·obtain⟨g,hm,hx,hdr,hl,hp,hz,hrow⟩:=hd1.bounds.get hk
  rw[hdr]at ha
  have hq:=qAe (n:=k*5) hp
  obtain⟨p,hpp⟩:=hpr g hm
  rcases qAB (fun t:Pr=>decide (t.name=g.proc)) d.procs with⟨i1,i2,i3⟩|⟨i,x,i1,i2,i3,i4,i5,i6,i7,_⟩
  ·unfold qFE at hpp;rw[i2]at hpp;cases hpp
  have hxp:qFE d g.proc=some x:=i3
  refine⟨hp,hz,hk,hq,_,_,_,_,_,hrow,(c23 hd1).call ⟨_,rfl,?_⟩⟩
  rw[i1]
  have hpn:=hd1.procs.n_eq
  have hilt:(i:Int)<(d.ps.n:Int):=by omega
  obtain⟨y,hmy,hxy,hdy,hly,hpy,hzy,hrowy⟩:=hd1.procs.get hilt
  rw[i2]at hxy
  cases hxy
  refine⟨hpy,hzy,hilt,_,_,_,_,_,hrowy,hp,hz,hk,hq,_,_,_,_,_,hrow,Tri.mono (refInBound hd1 (hd1.procsOk x i6) hg (hv.small.2 x i6)) ?_⟩
  rintro _ V2 ⟨s',rfl,h12,hsc⟩
  have hrow2:=h12.rowp hrow
  have hget:(qFE d g.proc).getD prD=x:=by rw[hxp];rfl
  refine⟨s',false,rfl,qEq (j:=1) (m:=4) hrow2 (by decide) (by decide),hq,hp,hz,hk,(c158 (sc:=qBy d x) (e:=g.x) (hd1.sub h12) hsc ((hd1.sub h12).boundsOk g hm) (hv.bs g hm)).call ⟨_,rfl,fun h=>⟨hd1.bounds.succ hk,hJ hl _ _ _ ⟨hV.trans h12,?_⟩⟩,fun h=>⟨hp,hz,hk,hq,_,_,_,_,_,hrow2,key _ _ _ (hV.trans h12) ?_⟩⟩⟩
  ·rw[ha,qAl (by rw[<- hf4];exact if_neg fun e=>e (by rw[hget];exact h))]
  ·rw[ha,qAi (b:=(g.proc,-1,qBp d (qBy d x) g.x qAP)) (by rw[<- hf4];exact(if_pos (by rw[hget];exact h)).trans (by rw[hget]))];try rfl
 rw[(hd1.bounds.done hk).1,qAk]at ha
 rw[ha]
 exact⟨rfl,hV⟩
def f3(o:Option Flt):Value:=.tuple #[.string (fltR o).1,.int .i64 (fltR o).2.1,.int .i64 (fltR o).2.2]
theorem c90(hd:Ds.Ok V d)(hv:qJV d):PP 90 [d.v] V (f3 (qJR d)):=by
 refine x90 ?_
 unfold w90 qJR
 have bad:∀{a b:Option Flt},(∀r,a=some r->Bad r)->¬((fltR a).2.2=0)->(Ending.returned (.tuple #[.string (fltR a).1,.int .i64 (-1),.int .i64 (fltR a).2.2])=Ending.returned (f3 (a.or b))/\V=V):=fun {a b} hb h=>by
  cases a with
  | none=>exact absurd rfl h
  | some r =>
   have:=hb r rfl
   unfold f3 fltR
   simp only[Option.some_or,Option.getD_some]
   rw[this.2];exact⟨by first|rfl|trivial,by first|rfl|trivial⟩
 have good:∀{a:Option Flt},(∀r,a=some r->Bad r)->(fltR a).2.2=0->a=none:=fun {a} hb h=>by
  cases a with
  | none=>rfl
  | some r=>exact absurd h (hb r rfl).1
 refine(c120 hd).call ⟨_,_,rfl,fun h=>?_,fun h=>bad (qHS d) h⟩
 rw[good (qHS d) h,Option.none_or]
 refine(c121 hd hv.small).call ⟨_,_,rfl,fun h=>?_,fun h=>bad (qIB d) h⟩
 rw[good (qIB d) h,Option.none_or]
 refine(c122 hd).call ⟨_,_,rfl,fun h=>?_,fun h=>bad (qKz d) h⟩
 have hform:=good (qKz d) h
 rw[hform,Option.none_or]
 unfold qDA
 generalize hf1:(fun(_:Nat) (p:Pr)=>if (qBS d (qAf d p) p.result 0 p.body).2≠0 then some ((p.name,(qBS d (qAf d p) p.result 0 p.body).1,(qBS d (qAf d p) p.result 0 p.body).2):Flt) else none)=F1
 refine loop4s (mk:=.string) (mc:=.int .i64) (md:=.int .i64) (qAm []) 0 0 qFw d.procs.length (fun k _ V1=>V=V1/\qAk F1 0 d.procs=qAk F1 k (d.procs.drop k)) ⟨rfl,rfl⟩ ?_
 rintro k b c c' V1 J hi ⟨rfl,ha⟩ hJ
 refine⟨fun hk=>?_,fun hk=>?_⟩
 ·obtain⟨g,hm,hx,hdr,hl,hp,hz,hrow⟩:=hd.procs.get hk
  rw[hdr]at ha
  have hq:=qAe (n:=k*5) hp
  have hgo:=hd.procsOk g hm
  obtain⟨hs1,hs2⟩:=hv.ps g hm
  refine⟨hp,hz,hk,_,_,_,_,_,hrow,hp,hz,hk,hq,_,_,_,_,_,hrow,(refStmts hd hgo hv.small.1 (hv.small.2 g hm) g.body g.bs 0 1 hgo.body hgo.stmts hs1 (by omega) (by omega)).call ⟨_,_,rfl,fun h=>⟨hd.procs.succ hk,hJ hl _ _ _ _ ⟨rfl,?_⟩⟩,fun h=>⟨hp,hz,hk,hq,_,_,_,_,_,hrow,?_⟩⟩⟩
  ·rw[ha,qAl (by rw[<- hf1];exact if_neg fun e=>e h)]
  ·rw[ha,qAi (b:=(g.name,(qBS d (qAf d g) g.result 0 g.body).1,(qBS d (qAf d g) g.result 0 g.body).2)) (by rw[<- hf1];exact if_pos h)]
   exact⟨rfl,rfl⟩
 rw[(hd.procs.done hk).1,qAk]at ha
 rw[ha,Option.none_or]
 refine(c124 hd hv hform).call ⟨_,_,rfl,fun h=>?_,fun h=>?_⟩
 ·rw[good (qKD d) h];exact⟨rfl,rfl⟩
 ·have:=bad (b:=none) (qKD d) h
  rw[Option.or_none]at this
  exact this
def wellT(d:Ds):Bool:=qAT d&&decide ((fltR (qJR d)).2.2=0)
theorem c61(hd:Ds.Ok V d):PP 61 [d.v] V (.bool (wellT d)):=by
 refine x61 ?_
 unfold w61 wellT
 refine(c60 hd).call ⟨_,rfl,fun h=>(c90 hd (vparts h)).call ⟨_,_,_,rfl,?_⟩,fun h=>?_⟩
 ·rw[h];exact⟨rfl,rfl⟩
 ·rw[eq_false_of_ne_true h];exact⟨rfl,rfl⟩
end
structure qBJ (V:Mem) (c:Option Addr) (d:Ds):Prop where
 at_:∃cb mt mp t,c=some ⟨cb,0,none⟩/\V cb=some (.cells (d.row++[Value.map (some mt),Value.map (some mp)]).toArray t (0,0))/\qBo V mt (fun k=>(qJq d k).map Ty.v)/\qBo V mp (fun k=>(qFE d k).map Pr.v)
 ok:Ds.Ok V d
theorem qBJ.sub{V V':Mem}{c:Option Addr}{d:Ds}(h:qBJ V c d)(hs:V.sub V'):qBJ V' c d:=by
 obtain⟨cb,mt,mp,t,h1,h2,h3,h4⟩:=h.at_
 exact⟨⟨cb,mt,mp,t,h1,hs _ _ h2,h3.sub hs,h4.sub hs⟩,h.ok.sub hs⟩
theorem qBJ.nn{V:Mem}{c:Option Addr}{d:Ds}(h:qBJ V c d):¬(c=none):=by
 obtain⟨cb,mt,mp,t,h1,h2,h3,h4⟩:=h.at_
 rw[h1];simp
theorem qBJ.cell{V:Mem}{c:Option Addr}{d:Ds}(h:qBJ V c d){i:Nat}{v:Value}(hv:(d.row)[i]?=some v):V.rowp c (i*1) 1=some [v]:=by
 obtain⟨cb,mt,mp,t,h1,h2,h3,h4⟩:=h.at_
 rw[h1,Nat.mul_one]
 have hi:=(List.getElem?_eq_some_iff.1 hv).1
 have h8:d.row.length=8:=rfl
 rw[qAc h2 i 1 (by simp;omega)]
 have:(d.row++[Value.map (some mt),Value.map (some mp)])[i]?=some v:=by rw[List.getElem?_append_left hi];exact hv
 have hl:i<(d.row++[Value.map (some mt),Value.map (some mp)]).length:=by rw[List.length_append];omega
 show some (((d.row++[Value.map (some mt),Value.map (some mp)]).drop i).take 1)=_
 rw[List.drop_eq_getElem_cons hl,(List.getElem?_eq_some_iff.1 this).2]
 rfl
theorem qBJ.types{V:Mem}{c:Option Addr}{d:Ds}(h:qBJ V c d):∃mt,V.rowp c 8 1=some [.map (some mt)]/\qBo V mt (fun k=>(qJq d k).map Ty.v):=by
 obtain⟨cb,mt,mp,t,h1,h2,h3,h4⟩:=h.at_
 exact⟨mt,by rw[h1,qAc h2 8 1 (by simp[Ds.row])];rfl,h3⟩
theorem qBJ.procs{V:Mem}{c:Option Addr}{d:Ds}(h:qBJ V c d):∃mt,V.rowp c 9 1=some [.map (some mt)]/\qBo V mt (fun k=>(qFE d k).map Pr.v):=by
 obtain⟨cb,mt,mp,t,h1,h2,h3,h4⟩:=h.at_
 exact⟨mp,by rw[h1,qAc h2 9 1 (by simp[Ds.row])];rfl,h4⟩
def qBP(l:List Fld)(k:ByteArray):Option ByteArray:=(l.find? fun f=>decide (f.name=k)).map (·.ty)
theorem qJo(l:List Fld)(k:ByteArray):qBF l k=(qBP l k).getD sE:=by
 induction l with
 | nil=>rfl
 | cons f l ih =>
  unfold qBP qBF
  rw[List.find?_cons]
  by_cases h:f.name=k
  ·rw[if_pos h,decide_eq_true h];rfl
  ·rw[if_neg h,decide_eq_false h];exact ih
def NE(l:List Fld):Prop:=∀f∈l,f.ty≠sE
theorem NE.some{l:List Fld}(h:NE l){k t:ByteArray}(hv:qBP l k=some t):t≠sE:=by
 unfold qBP at hv
 obtain⟨f,hf,rfl⟩:=Option.map_eq_some_iff.1 hv
 exact h f (List.mem_of_find?_eq_some hf)
structure qHp (V:Mem) (m:Option Nat) (sc:Sc):Prop where
 at_:∃mb,m=some mb/\qBo V mb (fun k=>(qBP sc.vars k).map Value.string)
 ne:NE sc.vars
theorem qHp.sub{V V':Mem}{m:Option Nat}{sc:Sc}(h:qHp V m sc)(hs:V.sub V'):qHp V' m sc:=by
 obtain⟨mb,h1,h2⟩:=h.at_
 exact⟨⟨mb,h1,h2.sub hs⟩,h.ne⟩
def sV(c:Option Addr)(m:Option Nat)(sc:Sc):Value:=.agg #[.pointer c,.map m,.bool sc.body]
structure VNe (d:Ds):Prop where
 types:∀t∈d.types,NE t.fields
 globals:NE d.globals
 params:∀p∈d.procs,NE p.params/\NE p.locals
theorem typB_ne{s:ByteArray}(h:typB s=true):s≠sE:=by
 intro e
 subst e
 have:typB sE=false:=by
  unfold typB qAS
  have h1:¬(sE=qAP):=by decide
  have h2:¬(sE=qAu):=by decide
  rw[decide_eq_false h1,decide_eq_false h2,decide_eq_false (fun h=>h.1 rfl)]
  rfl
 rw[this]at h;cases h
theorem qKA{l:List Fld}{n:Int}(h:qDN l n=true):NE l:=fun f hf=>by
 unfold qDN at h
 rw[Bool.and_eq_true]at h
 have:=List.all_eq_true.1 h.2 f hf
 unfold fldB at this
 rw[Bool.and_eq_true]at this
 exact typB_ne this.2
theorem vne{d:Ds}(h:qAT d=true):VNe d:=by
 unfold qAT at h
 simp only[Bool.and_eq_true,decide_eq_true_eq,List.all_eq_true]at h
 obtain⟨⟨⟨⟨⟨⟨⟨-,-⟩,hg⟩,-⟩,-⟩,ht⟩,hp⟩,-⟩:=h
 refine⟨fun t htt=>?_,qKA hg,fun p hpp=>?_⟩
 ·have:=ht t htt
  unfold tyB at this
  rw[Bool.and_eq_true]at this
  exact qKA this.2
 ·have:=hp p hpp
  unfold prB at this
  simp only[Bool.and_eq_true]at this
  exact⟨qKA this.1.1.1.2,qKA this.1.1.2⟩
theorem zero119(w:World):(zeroValue 119).run Tryz.prog w=.ok (.agg #[.string ByteArray.empty,.slice none 0 0]) w:=by kernel_rfl
theorem zero79(w:World):(zeroValue 79).run Tryz.prog w=.ok (.agg #[.string ByteArray.empty,.slice none 0 0,.string ByteArray.empty,.slice none 0 0,.slice none 0 0]) w:=by kernel_rfl
theorem zero9(w:World):(zeroValue 9).run Tryz.prog w=.ok (.string ByteArray.empty) w:=by kernel_rfl
theorem tyOf_node(d:Ds)(s:ByteArray):(qJq d s).isSome=qAX d s:=by
 unfold qJq qAX
 rcases qAB (fun t:Ty=>decide (t.name=s)) d.types with⟨h1,h2,h3⟩|⟨i,x,h1,h2,h3,h4,h5,h6,h7,_⟩
 ·rw[h2,h3];rfl
 ·rw[h3,h7];rfl
theorem tyOf_mem{d:Ds}{s:ByteArray}{t:Ty}(h:qJq d s=some t):t∈d.types:=List.mem_of_find?_eq_some h
theorem qKj{d:Ds}{s:ByteArray}{t:Pr}(h:qFE d s=some t):t∈d.procs:=List.mem_of_find?_eq_some h
section
variable{V:Mem}{d:Ds}{c:Option Addr}{m:Option Nat}{sc:Sc}
theorem c176(h:qBJ V c d){s:ByteArray}:PP 176 [.pointer c,.string s] V (.bool (qAX d s)):=by
 refine x176 ?_
 unfold w176
 obtain⟨mt,h1,h2⟩:=h.types
 refine⟨h.nn,h.nn,_,h1,qBR.str Tryz.underlying202 Tryz.underlying9 zero119 h2 ?_⟩
 rw[<- tyOf_node]
 cases ht:qJq d s with
 | none=>exact⟨_,⟨none,0,0⟩,_,rfl,rfl,rfl⟩
 | some t=>exact⟨_,t.fs,_,rfl,rfl,rfl⟩
theorem c171(h:qBJ V c d){s:ByteArray}:PP 171 [.pointer c,.string s] V (.bool (qBh d s)):=by
 refine x171 ?_
 unfold w171
 refine⟨fun h1=>?_,fun h1=>⟨fun h2=>?_,fun h2=>(c176 h).call ⟨_,rfl,?_⟩⟩⟩ <;> simp[qBh,qAP,qAu, *]
theorem c252(h:qBJ V c d){s t:ByteArray}:PP 252 [.pointer c,.string s,.string t] V (.bool (fits d s t)):=by
 refine x252 ?_
 unfold w252 fits qJu
 refine⟨fun h1=>?_,fun h1=>⟨fun h2=>(c176 h).call ⟨_,rfl,?_⟩,fun h2=>?_⟩⟩
 ·rw[decide_eq_true h1];exact⟨rfl,rfl⟩
 ·rw[decide_eq_false h1,decide_eq_true h2];exact⟨rfl,rfl⟩
 ·rw[decide_eq_false h1,decide_eq_false h2];exact⟨rfl,rfl⟩
theorem c253(h:qBJ V c d)(hv:VNe d){s t:ByteArray}:PP 253 [.pointer c,.string s,.string t] V (.tuple #[.string (qBT d s t).1,.int .i64 (qBT d s t).2]):=by
 refine x253 ?_
 unfold w253
 obtain⟨mt,h1,h2⟩:=h.types
 refine⟨h.nn,h.nn,_,h1,qBR.str Tryz.underlying202 Tryz.underlying9 zero119 h2 ?_⟩
 unfold qBT
 cases ht:qJq d s with
 | none=>exact⟨_,⟨none,0,0⟩,_,rfl,fun h=>absurd h (by simp),fun _=>⟨rfl,rfl⟩⟩
 | some ty =>
  refine⟨_,ty.fs,_,rfl,fun _=>?_,fun h=>absurd rfl h⟩
  have hr:=(h.ok.typesOk ty (tyOf_mem ht)).fields
  have hne:=hv.types ty (tyOf_mem ht)
  simp only
  refine qDY ty.fields.length (fun i V1=>V=V1/\qBF ty.fields t=qBF (ty.fields.drop i) t) ⟨rfl,rfl⟩ ?_
  rintro i b c V1 J hi ⟨rfl,ha⟩ hJ
  refine⟨fun hlt=>?_,fun hge=>?_⟩
  ·obtain⟨x,hm,hx,hdr,hl,hp,hz,hrow⟩:=hr.get hlt
   rw[hdr,qBF]at ha
   refine⟨hp,hz,hlt,_,_,hrow,fun he=>?_,fun he=>⟨hr.succ hlt,hJ hl _ _ _ ⟨rfl,?_⟩⟩⟩
   ·rw[if_pos he]at ha
    rw[ha,if_neg (hne x hm)];exact⟨rfl,rfl⟩
   ·rw[ha,if_neg he]
  ·rw[(hr.done hge).1,qBF]at ha
   rw[ha,if_pos rfl];exact⟨rfl,rfl⟩
theorem c267{b:Nat}{s:ByteArray}{t:Nat}(hb:V b=some (cell (.string s) t)){x:Ms}:PP 267 [x.v,pv b] V (.bool (decide (x.name=s))):=by
 refine x267 ?_
 unfold w267
 exact⟨_,qBG hb,rfl,rfl⟩
def IdC{α:Type}(f:FuncId)(row:α->List Value)(v:α->Value)(sz:Nat):Prop:=∀{V:Mem} {l:Sl} {xs:List α} {g:Nat} {first caps:List Value} (h:qAd V l sz (xs.map row)) (hg:qIW g) (p:α->Bool) (hp:∀x∈xs,PP g (first++[v x]++caps) V (.bool (p x))),PP f [l.v,.func (.func g) first.toArray caps.toArray] V (.int .i64 (qHo p xs))
theorem idC{α:Type}{f:FuncId}{row:α->List Value}{v:α->Value}{sz:Nat}(H:IdxP f row v sz):IdC f row v sz:=by
 intro V l xs g first caps h hg p hp
 refine Tri.mono (H hg (fun i V1=>V=V1/\qAY (fun y=>!p y) xs i) (fun i V1=>V=V1/\∃x,xs[i]?=some x/\p x=true/\qAY (fun y=>!p y) xs i) (fun i V1 hs=>hs.1 ▸ h) ⟨rfl,qAY.zero _ _⟩ ?_) ?_
 ·rintro i x V1 hx ⟨rfl,hs⟩
  have hm:x∈xs:=List.mem_of_getElem? hx
  exact(hp x hm).callv ⟨_,rfl,fun hb=>⟨rfl,x,hx,hb,hs⟩,fun hb=>⟨rfl,qDa hs hx hb⟩⟩
 ·rintro e V' (⟨i,rfl,rfl,x,hx,hb,hs⟩|⟨rfl,rfl,hs⟩)
  ·rw[qDM hs hx hb];exact⟨rfl,rfl⟩
  ·rw[qEz hs (Nat.le_refl _)];exact⟨rfl,rfl⟩
theorem idxMs:IdC 248 Ms.row Ms.v 7:=idC g248
theorem c261(h:qBJ V c d){s:ByteArray}{l:Sl}{xs:List ByteArray}(hl:qAd V l 1 (xs.map qBf)):PP 261 [sV c m sc,.string s,l.v] V (.tuple #[.string (qJe d s xs).1,.int .i64 (qJe d s xs).2]):=by
 refine Pur.mk (x261 ?_)
 unfold w261
 refine⟨h.nn,h.nn,qAe h.nn,d.ms,h.cell (i:=4) rfl,fun b hb=>?_⟩
 have hs:=Mem.sub_new hb (cell (.string s) 9)
 have h1:=h.sub hs
 have hl1:=hl.sub hs
 refine(idxMs (l:=d.ms) (first:=[]) (caps:=[pv b]) h1.ok.measures Tryz.call267 (fun t=>decide (t.name=s)) (fun x _=>c267 mss)).call ⟨_,rfl,?_⟩
 unfold qJe meOf
 have key:∀{X:ByteArray×Int} (a:ByteArray) (n:Int),X=(a,n)->(Ending.returned (.tuple #[.string a,.int .i64 n])=Ending.returned (.tuple #[.string X.1,.int .i64 X.2])/\V.sub (V.set b (cell (.string s) 9))):=fun a n h=>by rw[h];exact⟨rfl,hs⟩
 rcases qAB (fun t:Ms=>decide (t.name=s)) d.measures with⟨h1,h2,h3⟩|⟨i,x,i1,i2,i3,i4,i5,i6,i7,_⟩
 ·rw[h1,h2];exact⟨fun _=>key _ _ rfl,fun h=>absurd h (by decide)⟩
 ·rw[i1,i3]
  have hn:=h1.ok.measures.n_eq
  have hlt:(i:Int)<(d.ms.n:Int):=by omega
  obtain⟨y,hm,hx,hdr,hll,hp,hz,hrow⟩:=h1.ok.measures.get hlt
  rw[i2]at hx
  cases hx
  have e1:=hl1.n_eq
  refine⟨fun h=>absurd h (by omega),fun _=>⟨fun he=>?_,fun he=>key _ _ (if_pos (by omega))⟩⟩
  obtain⟨a1,a2,a3⟩:=qEi hl1 (i:=0) (by omega)
  have e2:¬(xs.length≠1):=by omega
  refine⟨a1,by omega,by omega,_,a3,h.nn,h.nn,qAe h.nn,d.ms,h1.cell (i:=4) rfl,hp,hz,hlt,qAe hp,_,_,_,_,_,_,_,hrow,(c252 h1).call ⟨_,rfl,fun hf=>key _ _ ?_,fun hf=>key _ _ ?_⟩⟩
  ·simp only[e2,if_false];unfold qDs;rw[if_pos hf];rfl
  ·simp only[e2,if_false];unfold qDs;rw[if_neg hf];rfl
theorem c264{b:Nat}{s:ByteArray}{t:Nat}(hb:V b=some (cell (.string s) t)){x:ByteArray}:PP 264 [strV x,pv b] V (.bool (!decide (x=s))):=by
 refine x264 ?_
 unfold w264
 exact⟨_,qBG hb,rfl,rfl⟩
theorem c262{b t:Nat}{l:Sl}{xs:List ByteArray}(hb:V b=some (cell (.slice l.p l.n l.c) t))(hl:qAd V l 1 (xs.map qBf)){s r:ByteArray} :
  PP 262 [.string s,.string r,pv b] V (.tuple #[.string (qDs (allT xs s) r).1,.int .i64 (qDs (allT xs s) r).2]):=by
 refine Pur.mk (x262 ?_)
 unfold w262
 refine⟨l,qBG hb,fun b1 hb1=>?_⟩
 have hs:=Mem.sub_new hb1 (cell (.string s) 9)
 refine(c263 (l:=l) (first:=[]) (caps:=[pv b1]) (hl.sub hs) Tryz.call264 (fun x=>!decide (x=s)) (fun x _=>c264 mss)).call ⟨_,rfl,fun h=>?_,fun h=>?_⟩
 ·rw[List.any_eq_not_all_not]at h
  have:allT xs s=false:=by unfold allT;simpa using h
  rw[this];exact⟨rfl,hs⟩
 ·rw[List.any_eq_not_all_not]at h
  have:allT xs s=true:=by unfold allT;simpa using h
  rw[this];exact⟨rfl,hs⟩
end
end Go.Proofs
