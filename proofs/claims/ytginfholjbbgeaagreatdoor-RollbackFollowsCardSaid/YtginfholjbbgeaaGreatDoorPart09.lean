/- Part 9 of a proof of a law of this seat: no statement of the seat is proved here. -/
import Derived.Test.YtginfholjbbgeaaGreatDoorPart08
set_option linter.unusedVariables false
set_option linter.unusedSimpArgs false
namespace Go.Proofs
open Go Go.Sx
attribute [local irreducible] Go.Sx.Tri
def qAX{α:Type}(p:α->Bool)(xs:List α)(i:Nat):Prop:=∀j x,j<i->xs[j]?=some x->p x=true
theorem qAX.zero{α:Type}(p:α->Bool)(xs:List α):qAX p xs 0:=fun _ _ h=>absurd h (Nat.not_lt_zero _)
theorem qAX.succ{α:Type}{p:α->Bool}{xs:List α}{i:Nat}{x:α}(h:qAX p xs i)(hx:xs[i]?=some x)(hp:p x=true):qAX p xs (i+1):=fun j y hj hy=>by
 rcases Nat.lt_succ_iff_lt_or_eq.1 hj with h'|rfl
 ·exact h j y h' hy
 simp_all
theorem qAX.all{α:Type}{p:α->Bool}{xs:List α}{i:Nat}(h:qAX p xs i)(hi:xs.length<=i):xs.all p=true :=
 List.all_eq_true.2 fun x hx=>by
  obtain⟨j,hj,rfl⟩:=List.mem_iff_getElem.1 hx
  exact h j _ (by omega) (List.getElem?_eq_getElem hj)
theorem all_false{α:Type}{p:α->Bool}{xs:List α}{x:α}(h:x∈xs)(hp:¬p x=true):xs.all p=false:=by
 grind
def qAN:ByteArray:=qAl [105,110,116]
def qAu:ByteArray:=qAl [98,111,111,108]
def typB(s:ByteArray):Bool:=decide (s=qAN)||decide (s=qAu)||qAQ s
def openB(s:ByteArray):Bool:=decide (s=qAl [])||qAQ s
def fldB(f:Fld):Bool:=qAQ f.name&&typB f.ty
def qDb(l:List Fld)(most:Int):Bool:=decide ((l.length:Int)<=most)&&l.all fldB
def tyB(t:Ty):Bool:=qAQ t.name&&qDb t.fields 12
def prB(p:Pr):Bool:=qAQ p.name&&qDb p.params 6&&qDb p.locals 12&&(decide (p.result=qAl [])||typB p.result)&&qDL p.body
def msB(m:Ms):Bool:=qAQ m.name&&qAQ m.ty&&decide (-1099511627776<=m.nil/\m.nil<=1099511627776)&&qAI m.x
def ivB(m:Iv):Bool:=qAQ m.name&&openB m.ty&&qAI m.x
def poB(m:Po):Bool:=openB m.ty&&qAI m.x
def bdB(m:Bd):Bool:=qAQ m.proc&&qAI m.x
def qIV(d:Ds):Bool:=d.measures.all msB&&d.invs.all ivB&&d.pots.all poB&&d.bounds.all bdB
def lensB(d:Ds):Bool:=decide ((d.measures.length:Int)<=12/\(d.invs.length:Int)<=12/\(d.pots.length:Int)<=12/\(d.bounds.length:Int)<=12)
def qAK(d:Ds):Bool:=qAQ d.name&&decide ((d.types.length:Int)<=12)&&qDb d.globals 8&&decide ((d.procs.length:Int)<=40)&&lensB d&&d.types.all tyB&&d.procs.all prB&&qIV d
theorem c115{V:Mem}{s:ByteArray}:PP 115 [.string s] V (.bool (typB s)):=by
 refine x115 ?_
 unfold w115
 refine⟨fun h=>?_,fun h=>⟨fun h1=>?_,fun h1=>c85.call ⟨_,rfl,?_⟩⟩⟩ <;> simp[typB,qAN,qAu, *]
theorem c142{V:Mem}[Tab V]{s:ByteArray}:PP 142 [.string s] V (.bool (typB s)):=by
 refine x142 ?_
 unfold w142
 refine⟨fun h=>?_,fun h=>⟨fun h1=>?_,fun h1=>c101.call ⟨_,rfl,?_⟩⟩⟩ <;> simp[typB,qAN,qAu, *]
theorem c118{V:Mem}{s:ByteArray}:PP 118 [.string s] V (.bool (openB s)):=by
 refine x118 ?_
 unfold w118
 refine⟨fun h=>?_,fun h=>c85.call ⟨_,rfl,?_⟩⟩ <;> simp[openB, *]
theorem c144{V:Mem}[Tab V]{s:ByteArray}:PP 144 [.string s] V (.bool (openB s)):=by
 refine x144 ?_
 unfold w144
 refine⟨fun h=>?_,fun h=>c101.call ⟨_,rfl,?_⟩⟩ <;> simp[openB, *]
theorem c86{V:Mem}{l:Sl}{xs:List Fld}{n:Int}(hr:qAd V l 2 (xs.map Fld.row)):PP 86 [l.v,.int .i64 n] V (.bool (qDb xs n)):=by
 refine x86 ?_
 unfold w86
 have hn:=hr.n_eq
 refine⟨fun h=>?_,fun h=>?_⟩
 ·grind [qDb]
 ·have hle:(xs.length:Int)<=n:=by omega
  refine qAJ xs.length (fun i V1=>V1=V/\qAX fldB xs i) ⟨rfl,qAX.zero _ _⟩ ?_
  rintro i b V1 J hi ⟨rfl,ha⟩ hJ
  refine⟨fun hlt=>?_,fun hge=>?_⟩
  ·obtain⟨x,hm,hx,hdr,hl,hp,hz,hrow⟩:=hr.get hlt
   have no:fldB x=false->(Ending.returned (.bool false)=Ending.returned (.bool (qDb xs n))/\V1=V1):=fun h=>by
    unfold qDb;grind
   refine⟨hp,hz,hlt,qAe hp,_,_,hrow,c85.call ⟨_,rfl,fun h1=>⟨hp,hz,hlt,qAe hp,_,_,hrow,c115.call ⟨_,rfl,fun h2=>⟨hr.succ hlt,hJ hl _ _ ⟨rfl,ha.succ hx (by simp[fldB, *])⟩⟩,fun h2=>no (by simp[fldB, *])⟩⟩,fun h1=>no (by simp[fldB, *])⟩⟩
  ·have:=ha.all (hr.done hge).2
   simp[qDb,this,hle]
theorem c141{V:Mem}[Tab V]{f:Fld}:PP 141 [f.v] V (.bool (!fldB f)):=by
 refine x141 ?_
 unfold w141
 refine c101.call ⟨_,rfl,fun h=>c142.call ⟨_,rfl,?_⟩,fun h=>?_⟩ <;> simp[fldB, *]
theorem c102{V:Mem}[Tab V]{l:Sl}{xs:List Fld}{n:Int}(hr:qAd V l 2 (xs.map Fld.row)):PP 102 [l.v,.int .i64 n] V (.bool (qDb xs n)):=by
 refine x102 ?_
 unfold w102
 have hn:=hr.n_eq
 refine⟨fun h=>(c75 (first:=[]) (caps:=[]) hr Tryz.call141 (fun f=>!fldB f) fun f _=>c141).call ⟨_,rfl,?_⟩,fun h=>?_⟩
 ·grind [qDb]
 grind [qDb]
theorem c87{V:Mem}{p:Pr}(h:Pr.Ok V p):PP 87 [p.v] V (.bool (prB p)):=by
 refine x87 ?_
 unfold w87
 have cs:=c116 (d:=1) h.body h.stmts (by omega) (by omega)
 refine c85.call ⟨_,rfl,fun h1=>(c86 h.params).call ⟨_,rfl,fun h2=>(c86 h.locals).call ⟨_,rfl,fun h3=>⟨fun h4=>cs.call ⟨_,rfl,?_⟩,fun h4=>c115.call ⟨_,rfl,fun h5=>cs.call ⟨_,rfl,?_⟩,fun h5=>?_⟩⟩,fun h3=>?_⟩,fun h2=>?_⟩,fun h1=>?_⟩
 all_goals simp[prB,<- validSs_cnt, *]
theorem c107{V:Mem}[Tab V]{p:Pr}(h:Pr.Ok V p):PP 107 [p.v] V (.bool (prB p)):=by
  refine Pur.mk (x107 ?_)
  unfold w107
  have cs:(qDL p.body=prB p)->qAA [(.int .i64 200)] 230 V fun v9 V5 =>
       Tri Tryz.prog 147 #[(.slice p.bs.p p.bs.n p.bs.c),(.int .i64 1),(.pointer (qAa v9 0))] V5 fun e V6=>∃v10:Bool,e=.returned (.bool v10)/\(Ending.returned (.bool v10)=Ending.returned (.bool (prB p))/\V.sub V6):=fun e b hb=>by
    refine Tri.mono (c147 hb p.body p.bs 1 200 _ h.body h.stmts (Mem.sub_new hb _) mss (by omega) (by omega) (by omega) (by omega)) ?_
    rintro _ _ ⟨rfl,rfl⟩
    rw[validSs_v,Mem.set_set,e]
    exact⟨_,rfl,rfl,Mem.sub_new hb _⟩
  refine c101.call ⟨_,rfl,fun h1=>(c102 h.params).call ⟨_,rfl,fun h2=>(c102 h.locals).call ⟨_,rfl,fun h3=>⟨fun h4=>cs ?_,fun h4=>c142.call ⟨_,rfl,fun h5=>cs ?_,fun h5=>⟨?_,Mem.sub.refl _⟩⟩⟩,fun h3=>⟨?_,Mem.sub.refl _⟩⟩,fun h2=>⟨?_,Mem.sub.refl _⟩⟩,fun h1=>⟨?_,Mem.sub.refl _⟩⟩
  all_goals simp[prB, *]
theorem c146{V:Mem}[Tab V]{b:Bd}(h:E.Ok V b.x):PP 146 [b.v] V (.bool (!bdB b)):=by
 refine x146 ?_
 unfold w146
 refine c101.call ⟨_,rfl,fun h1=>(c143 h).call ⟨_,rfl,?_⟩,fun h1=>?_⟩ <;> simp[bdB, *]
theorem c104{V:Mem}[Tab V]{t:Ty}(h:Ty.Ok V t):PP 104 [t.v] V (.bool (!tyB t)):=by
 refine x104 ?_
 unfold w104
 refine c101.call ⟨_,rfl,fun h1=>(c102 h.fields).call ⟨_,rfl,?_⟩,fun h1=>?_⟩ <;> simp[tyB, *]
theorem c106{V:Mem}[Tab V]{t:Pr}(h:Pr.Ok V t):PP 106 [t.v] V (.bool (!prB t)):=by
 refine x106 ?_
 unfold w106
 exact(c107 h).call ⟨_,rfl,rfl,rfl⟩
theorem GenK.max4{P:Program}{V:Mem}{a b c d:Operand}{ty:Nat}{ts:Array TypeId}{vals:Operand->Value}{n1 n2 n3 n4:Int}(h1:vals a=.int .i64 n1)(h2:vals b=.int .i64 n2)(h3:vals c=.int .i64 n3)(h4:vals d=.int .i64 n4){q:Value->Mem->Prop}
  (hq:∀m:Int,n1<=m->n2<=m->n3<=m->n4<=m->(m=n1∨m=n2∨m=n3∨m=n4)->q (.int .i64 m) V):GenK P (.call { callee:=.builtin .max,args:=#[a,b,c,d],argTypes:=ts }) ty vals V q:=by
 intro w hw
 refine⟨_,w,V,?_,Frm.refl hw,hq (max (max (max n1 n2) n3) n4) (by omega) (by omega) (by omega) (by omega) (by omega)⟩
 unfold execOp
 have e:∀x y:Int,(if y > x then y else x)=max x y:=fun x y=>by split <;> omega
 simp only[resolve,invoke,builtin,Sem.run_bind,Sem.run_pure,Result.andThen_ok,List.map_toArray,List.map_cons,List.map_nil,h1,h2,h3,h4]
 simp[Builtin.max_,Builtin.max2,e]
theorem c88{V:Mem}{d:Ds}(h:Ds.Ok V d):PP 88 [d.v] V (.bool (qIV d)):=by
 refine x88 ?_
 unfold w88
 generalize hX:qIV d=X
 have key:∀b:Bool,X=b->(Ending.returned (.bool b)=Ending.returned (.bool X)/\V=V):=fun n h=>by simp_all
 unfold qIV at hX
 refine qAJ d.measures.length (fun i V1=>V=V1/\qAX msB d.measures i) ⟨rfl,qAX.zero _ _⟩ ?_
 rintro i b V1 J hi ⟨rfl,ha⟩ hJ
 refine⟨fun hlt=>?_,fun hge=>?_⟩
 ·obtain⟨x,hm,hx,hdr,hl,hp,hz,hrow⟩:=h.measures.get hlt
  have no:msB x=false->X=false:=fun h=>by grind
  refine⟨hp,hz,hlt,_,_,_,_,_,_,_,hrow,c85.call ⟨_,rfl,fun h1=>c85.call ⟨_,rfl,fun h2=>⟨fun h3=>key _ (no ?_),fun h3=>⟨fun h4=>key _ (no ?_),fun h4=>(c117 (h.measuresOk x hm).x).call ⟨_,rfl,fun h5=>⟨h.measures.succ hlt,hJ hl _ _ ⟨rfl,ha.succ hx ?_⟩⟩,fun h5=>key _ (no ?_)⟩⟩⟩,fun h2=>key _ (no ?_)⟩,fun h1=>key _ (no ?_)⟩⟩
  ·have:¬(-1099511627776<=x.nil/\x.nil<=1099511627776):=by omega
   simp[msB, *]
  ·have:¬(-1099511627776<=x.nil/\x.nil<=1099511627776):=by omega
   simp[msB, *]
  ·have:(-1099511627776<=x.nil/\x.nil<=1099511627776):=by omega
   simp[msB, *]
  all_goals simp[msB, *]
 have a1:=ha.all (h.measures.done hge).2
 refine qAJ d.invs.length (fun i V1=>V=V1/\qAX ivB d.invs i) ⟨rfl,qAX.zero _ _⟩ ?_
 rintro i b V1 J hi ⟨rfl,ha⟩ hJ
 refine⟨fun hlt=>?_,fun hge=>?_⟩
 ·obtain⟨x,hm,hx,hdr,hl,hp,hz,hrow⟩:=h.invs.get hlt
  have no:ivB x=false->X=false:=fun h=>by rw[<- hX,all_false hm (by rw[h];simp)];simp
  refine⟨hp,hz,hlt,qAe hp,_,_,_,_,_,_,hrow,c85.call ⟨_,rfl,fun h1=>⟨hp,hz,hlt,qAe hp,_,_,_,_,_,_,hrow,c118.call ⟨_,rfl,fun h2=>⟨hp,hz,hlt,qAe hp,_,_,_,_,_,_,hrow,(c117 (h.invsOk x hm)).call ⟨_,rfl,fun h5=>⟨h.invs.succ hlt,hJ hl _ _ ⟨rfl,ha.succ hx ?_⟩⟩,fun h5=>key _ (no ?_)⟩⟩,fun h2=>key _ (no ?_)⟩⟩,fun h1=>key _ (no ?_)⟩⟩
  all_goals simp[ivB, *]
 have a2:=ha.all (h.invs.done hge).2
 refine qAJ d.pots.length (fun i V1=>V=V1/\qAX poB d.pots i) ⟨rfl,qAX.zero _ _⟩ ?_
 rintro i b V1 J hi ⟨rfl,ha⟩ hJ
 refine⟨fun hlt=>?_,fun hge=>?_⟩
 ·obtain⟨x,hm,hx,hdr,hl,hp,hz,hrow⟩:=h.pots.get hlt
  have no:poB x=false->X=false:=fun h=>by grind
  refine⟨hp,hz,hlt,qAe hp,_,_,_,_,_,hrow,c118.call ⟨_,rfl,fun h2=>⟨hp,hz,hlt,qAe hp,_,_,_,_,_,hrow,(c117 (h.potsOk x hm)).call ⟨_,rfl,fun h5=>⟨h.pots.succ hlt,hJ hl _ _ ⟨rfl,ha.succ hx ?_⟩⟩,fun h5=>key _ (no ?_)⟩⟩,fun h2=>key _ (no ?_)⟩⟩
  all_goals simp[poB, *]
 have a3:=ha.all (h.pots.done hge).2
 refine qAJ d.bounds.length (fun i V1=>V=V1/\qAX bdB d.bounds i) ⟨rfl,qAX.zero _ _⟩ ?_
 rintro i b V1 J hi ⟨rfl,ha⟩ hJ
 refine⟨fun hlt=>?_,fun hge=>?_⟩
 ·obtain⟨x,hm,hx,hdr,hl,hp,hz,hrow⟩:=h.bounds.get hlt
  have no:bdB x=false->X=false:=fun h=>by grind
  refine⟨hp,hz,hlt,qAe hp,_,_,_,_,_,hrow,c85.call ⟨_,rfl,fun h2=>⟨hp,hz,hlt,qAe hp,_,_,_,_,_,hrow,(c117 (h.boundsOk x hm)).call ⟨_,rfl,fun h5=>⟨h.bounds.succ hlt,hJ hl _ _ ⟨rfl,ha.succ hx ?_⟩⟩,fun h5=>key _ (no ?_)⟩⟩,fun h2=>key _ (no ?_)⟩⟩
  all_goals simp[bdB, *]
 have a4:=ha.all (h.bounds.done hge).2
 simp_all
theorem c103{V:Mem}[Tab V]{d:Ds}(h:Ds.Ok V d):PP 103 [d.v] V (.bool (lensB d&&qIV d)):=by
 refine x103 ?_
 unfold w103
 have n1:=h.measures.n_eq
 have n2:=h.invs.n_eq
 have n3:=h.pots.n_eq
 have n4:=h.bounds.n_eq
 generalize hX:(lensB d&&qIV d)=X
 have key:∀b:Bool,X=b->(Ending.returned (.bool b)=Ending.returned (.bool X)/\V=V):=fun n h=>by simp_all
 unfold qIV lensB at hX
 refine GenK.max4 (n1:=d.ms.n) (n2:=d.is.n) (n3:=d.qs.n) (n4:=d.bs.n) rfl rfl rfl rfl fun mx l1 l2 l3 l4 le=>⟨_,rfl,fun hb=>key _ ?_,fun hb=>?_⟩
 ·rw[<- hX,decide_eq_false (by omega)];rfl
 rw[decide_eq_true (by omega),Bool.true_and]at hX
 refine qAJ d.measures.length (fun i V1=>V=V1/\qAX msB d.measures i) ⟨rfl,qAX.zero _ _⟩ ?_
 rintro i b V1 J hi ⟨rfl,ha⟩ hJ
 refine⟨fun hlt=>?_,fun hge=>?_⟩
 ·obtain⟨x,hm,hx,hdr,hl,hp,hz,hrow⟩:=h.measures.get hlt
  have no:msB x=false->X=false:=fun h=>by grind
  refine⟨hp,hz,hlt,_,_,_,_,_,_,_,hrow,c101.call ⟨_,rfl,fun h1=>c101.call ⟨_,rfl,fun h2=>⟨fun h3=>key _ (no ?_),fun h3=>⟨fun h4=>key _ (no ?_),fun h4=>(c143 (h.measuresOk x hm).x).call ⟨_,rfl,fun h5=>⟨h.measures.succ hlt,hJ hl _ _ ⟨rfl,ha.succ hx ?_⟩⟩,fun h5=>key _ (no ?_)⟩⟩⟩,fun h2=>key _ (no ?_)⟩,fun h1=>key _ (no ?_)⟩⟩
  ·have:¬(-1099511627776<=x.nil/\x.nil<=1099511627776):=by omega
   simp[msB, *]
  ·have:¬(-1099511627776<=x.nil/\x.nil<=1099511627776):=by omega
   simp[msB, *]
  ·have:(-1099511627776<=x.nil/\x.nil<=1099511627776):=by omega
   simp[msB, *]
  all_goals simp[msB, *]
 have a1:=ha.all (h.measures.done hge).2
 refine qAJ d.invs.length (fun i V1=>V=V1/\qAX ivB d.invs i) ⟨rfl,qAX.zero _ _⟩ ?_
 rintro i b V1 J hi ⟨rfl,ha⟩ hJ
 refine⟨fun hlt=>?_,fun hge=>?_⟩
 ·obtain⟨x,hm,hx,hdr,hl,hp,hz,hrow⟩:=h.invs.get hlt
  have no:ivB x=false->X=false:=fun h=>by rw[<- hX,all_false hm (by rw[h];simp)];simp
  refine⟨hp,hz,hlt,_,_,_,_,_,_,hrow,c101.call ⟨_,rfl,fun h1=>c144.call ⟨_,rfl,fun h2=>(c143 (h.invsOk x hm)).call ⟨_,rfl,fun h5=>⟨h.invs.succ hlt,hJ hl _ _ ⟨rfl,ha.succ hx ?_⟩⟩,fun h5=>key _ (no ?_)⟩,fun h2=>key _ (no ?_)⟩,fun h1=>key _ (no ?_)⟩⟩
  all_goals simp[ivB, *]
 have a2:=ha.all (h.invs.done hge).2
 refine qAJ d.pots.length (fun i V1=>V=V1/\qAX poB d.pots i) ⟨rfl,qAX.zero _ _⟩ ?_
 rintro i b V1 J hi ⟨rfl,ha⟩ hJ
 refine⟨fun hlt=>?_,fun hge=>?_⟩
 ·obtain⟨x,hm,hx,hdr,hl,hp,hz,hrow⟩:=h.pots.get hlt
  have no:poB x=false->X=false:=fun h=>by grind
  refine⟨hp,hz,hlt,_,_,_,_,_,hrow,c144.call ⟨_,rfl,fun h2=>(c143 (h.potsOk x hm)).call ⟨_,rfl,fun h5=>⟨h.pots.succ hlt,hJ hl _ _ ⟨rfl,ha.succ hx ?_⟩⟩,fun h5=>key _ (no ?_)⟩,fun h2=>key _ (no ?_)⟩⟩
  all_goals simp[poB, *]
 have a3:=ha.all (h.pots.done hge).2
 refine(c145 (first:=[]) (caps:=[]) h.bounds Tryz.call146 (fun f=>!bdB f) fun f hm=>c146 (h.boundsOk f hm)).call ⟨_,rfl,key _ ?_⟩
 simp_all [List.any_eq_not_all_not]
theorem c59{V:Mem}{d:Ds}(h:Ds.Ok V d):PP 59 [d.v] V (.bool (qAK d)):=by
 refine x59 ?_
 unfold w59
 have n1:=h.measures.n_eq
 have n2:=h.invs.n_eq
 have n3:=h.pots.n_eq
 have n4:=h.bounds.n_eq
 have n5:=h.types.n_eq
 have n6:=h.procs.n_eq
 generalize hX:qAK d=X
 have key:∀b:Bool,X=b->(Ending.returned (.bool b)=Ending.returned (.bool X)/\V=V):=fun n h=>by simp_all
 unfold qAK at hX
 have nol:lensB d=false->X=false:=fun h=>by simp_all
 refine c85.call ⟨_,rfl,fun h1=>⟨fun h2=>key _ ?_,fun h2=>(c86 h.globals).call ⟨_,rfl,fun h3=>⟨fun h4=>key _ ?_,fun h4=>⟨fun h5=>key _ (nol ?_),fun h5=>⟨fun h6=>key _ (nol ?_),fun h6=>⟨fun h7=>key _ (nol ?_),fun h7=>⟨fun h8=>key _ (nol ?_),fun h8=>?_⟩⟩⟩⟩⟩,fun h3=>key _ ?_⟩⟩,fun h1=>key _ ?_⟩
 ·grind
 ·grind
 ·exact decide_eq_false (by omega)
 ·exact decide_eq_false (by omega)
 ·exact decide_eq_false (by omega)
 ·exact decide_eq_false (by omega)
 ·have hl:lensB d=true:=decide_eq_true (by omega)
  rw[h1,decide_eq_true (p:=(d.types.length:Int)<=12) (by omega),h3,decide_eq_true (p:=(d.procs.length:Int)<=40) (by omega),hl]at hX
  simp only[Bool.true_and]at hX
  refine qAJ d.types.length (fun i V1=>V=V1/\qAX tyB d.types i) ⟨rfl,qAX.zero _ _⟩ ?_
  rintro i b V1 J hi ⟨rfl,ha⟩ hJ
  refine⟨fun hlt=>?_,fun hge=>?_⟩
  ·obtain⟨x,hm,hx,hdr,hl,hp,hz,hrow⟩:=h.types.get hlt
   have no:tyB x=false->X=false:=fun h=>by grind
   refine⟨hp,hz,hlt,qAe hp,_,_,hrow,c85.call ⟨_,rfl,fun h1=>⟨hp,hz,hlt,qAe hp,_,_,hrow,(c86 (h.typesOk x hm).fields).call ⟨_,rfl,fun h5=>⟨h.types.succ hlt,hJ hl _ _ ⟨rfl,ha.succ hx ?_⟩⟩,fun h5=>key _ (no ?_)⟩⟩,fun h1=>key _ (no ?_)⟩⟩
   all_goals simp[tyB, *]
  have a1:=ha.all (h.types.done hge).2
  refine qAJ d.procs.length (fun i V1=>V=V1/\qAX prB d.procs i) ⟨rfl,qAX.zero _ _⟩ ?_
  rintro i b V1 J hi ⟨rfl,ha⟩ hJ
  refine⟨fun hlt=>?_,fun hge=>?_⟩
  ·obtain⟨x,hm,hx,hdr,hl,hp,hz,hrow⟩:=h.procs.get hlt
   have no:prB x=false->X=false:=fun h=>by grind
   exact⟨hp,hz,hlt,_,_,_,_,_,hrow,(c87 (h.procsOk x hm)).call ⟨_,rfl,fun h5=>⟨h.procs.succ hlt,hJ hl _ _ ⟨rfl,ha.succ hx h5⟩⟩,fun h5=>key _ (no (eq_false_of_ne_true h5))⟩⟩
  have a2:=ha.all (h.procs.done hge).2
  refine(c88 h).call ⟨_,rfl,key _ ?_⟩
  simp_all
 ·simp_all
 simp_all
theorem c73{V:Mem}[Tab V]{d:Ds}(h:Ds.Ok V d):PP 73 [d.v] V (.bool (qAK d)):=by
 refine x73 ?_
 unfold w73
 have n5:=h.types.n_eq
 have n6:=h.procs.n_eq
 generalize hX:qAK d=X
 have key:∀b:Bool,X=b->(Ending.returned (.bool b)=Ending.returned (.bool X)/\V=V):=fun n h=>by simp_all
 unfold qAK at hX
 refine c101.call ⟨_,rfl,fun h1=>⟨fun h2=>key _ ?_,fun h2=>(c102 h.globals).call ⟨_,rfl,fun h3=>⟨fun h4=>key _ ?_,fun h4=>(c103 h).call ⟨_,rfl,fun h5=>(c79 (first:=[]) (caps:=[]) h.types Tryz.call104 (fun f=>!tyB f) fun f hm=>c104 (h.typesOk f hm)).call ⟨_,rfl,fun h6=>key _ ?_,fun h6 =>
   (c105 (first:=[]) (caps:=[]) h.procs Tryz.call106 (fun f=>!prB f) fun f hm=>c106 (h.procsOk f hm)).call ⟨_,rfl,key _ ?_⟩⟩,fun h5=>key _ ?_⟩⟩,fun h3=>key _ ?_⟩⟩,fun h1=>key _ ?_⟩
 ·grind
 ·grind
 ·grind [List.any_eq_not_all_not,tyB]
 ·grind
 ·grind
 ·simp_all
 simp_all
end Go.Proofs
namespace Go.Proofs
open Go Go.Sx
def qJP:ByteArray:=qAl [110,105,108]
def sE:ByteArray:=qAl []
def qAW(d:Ds)(s:ByteArray):Bool:=d.types.any fun t=>decide (t.name=s)
def qBf(d:Ds)(s:ByteArray):Bool:=decide (s=qAN)||decide (s=qAu)||qAW d s
def qDu(d:Ds)(a b:ByteArray):Bool:=decide (a=b)||(decide (a=qJP)&&qAW d b)
def qBI:List Fld->ByteArray->ByteArray
 | [],_=>sE
 | f::l,s=>if f.name=s then f.ty else qBI l s
def qIN(d:Ds)(s:ByteArray):Option Ty:=d.types.find? fun t=>decide (t.name=s)
def qEW(d:Ds)(s:ByteArray):Option Pr:=d.procs.find? fun t=>decide (t.name=s)
def meOf(d:Ds)(s:ByteArray):Option Ms:=d.measures.find? fun t=>decide (t.name=s)
def qBS(d:Ds)(t name:ByteArray):ByteArray×Int :=
 match qIN d t with
 | none=>(sE,11)
 | some ty=>if qBI ty.fields name=sE then (sE,9) else (qBI ty.fields name,0)
def qCf(d:Ds):List ByteArray->List Fld->Bool
 | a::l,f::fs=>qDu d a f.ty&&qCf d l fs
 | _,_=>true
def qFa(d:Ds)(name:ByteArray)(l:List ByteArray):ByteArray×Int :=
 match qEW d name with
 | none=>(sE,9)
 | some p=>if l.length≠p.params.length then (sE,3) else if qCf d l p.params=true then (p.result,0) else (sE,11)
def qDp(ok:Bool)(t:ByteArray):ByteArray×Int:=if ok=true then (t,0) else (sE,11)
structure Sc where
 vars:List Fld
 body:Bool
def qIT(d:Ds)(name:ByteArray)(l:List ByteArray):ByteArray×Int :=
 match meOf d name with
 | none=>(sE,9)
 | some m=>if l.length≠1 then (sE,3) else qDp (qDu d (l.getD 0 sE) m.ty) qAN
def qHq(d:Ds)(sc:Sc)(name:ByteArray)(l:List ByteArray):ByteArray×Int :=
 if sc.body=true then (if (qFa d name l).2=0/\(qFa d name l).1=sE then (sE,11) else qFa d name l) else qIT d name l
def allT(l:List ByteArray)(t:ByteArray):Bool:=l.all fun x=>decide (x=t)
def qFp(d:Ds)(sc:Sc)(op:Int)(s:ByteArray)(l:List ByteArray):ByteArray×Int :=
 if op=1 then (qAN,0) else if op=2 then (qAu,0) else if op=3 then (qJP,0)
 else if op=4 then (if qBI sc.vars s=sE then (sE,9) else (qBI sc.vars s,0))
 else if op=5 then qBS d (l.getD 0 sE) s
 else if op=6 then (if sc.body=false then (sE,13) else if qAW d s=false then (sE,9) else (s,0))
 else if op=7 then qHq d sc s l
 else if op=14∨op=15 then qDp (qDu d (l.getD 0 sE) (l.getD 1 sE)||qDu d (l.getD 1 sE) (l.getD 0 sE)) qAu
 else if op=16∨op=17 then qDp (allT l qAN) qAu
 else if op=18∨op=19∨op=20 then qDp (allT l qAu) qAu
 else if op=21 then qDp (decide (l.getD 0 sE=qAu)&&(qDu d (l.getD 1 sE) (l.getD 2 sE)||qDu d (l.getD 2 sE) (l.getD 1 sE))) (if l.getD 1 sE=qJP then l.getD 2 sE else l.getD 1 sE)
 else qDp (allT l qAN) qAN
mutual
def qAn(d:Ds)(sc:Sc):E->ByteArray×Int
 | .mk op _ s _ k=>if (partsT d sc [] k).2≠0 then (sE,(partsT d sc [] k).2) else qFp d sc op s (partsT d sc [] k).1
def partsT(d:Ds)(sc:Sc)(acc:List ByteArray):List E->List ByteArray×Int
 | []=>(acc,0)
 | x::xs=>if (qAn d sc x).2≠0 then ([],(qAn d sc x).2) else partsT d sc (acc++[(qAn d sc x).1]) xs
end
theorem qHH(d:Ds)(sc:Sc)(e:E):qAn d sc e=if (partsT d sc [] e.k).2≠0 then (sE,(partsT d sc [] e.k).2) else qFp d sc e.op e.s (partsT d sc [] e.k).1:=by
 cases e;rfl
theorem qBV(d:Ds)(sc:Sc)(acc:List ByteArray)(x:E)(xs:List E):partsT d sc acc (x::xs)=if (qAn d sc x).2≠0 then ([],(qAn d sc x).2) else partsT d sc (acc++[(qAn d sc x).1]) xs:=by rw[partsT]
theorem qCJ(d:Ds)(sc:Sc)(acc:List ByteArray):partsT d sc acc []=(acc,0):=by rw[partsT]
theorem qGA(d:Ds)(sc:Sc):∀(k:List E) (acc:List ByteArray),(partsT d sc acc k).2=0->(partsT d sc acc k).1.length=acc.length+k.length
 | [],acc,_=>by rfl
 | x::xs,acc,h=>by
  rw[qBV]at h ⊢
  split at h
  ·omega
  ·rename_i h'
   rw[if_neg h',qGA d sc xs _ h,List.length_append,List.length_cons,List.length_cons,List.length_nil]
   omega
def qAf(d:Ds)(p:Pr):Sc:=⟨p.params++p.locals++d.globals,true⟩
def sThisF:ByteArray:=qAl [116,104,105,115]
def qAw(d:Ds)(t:ByteArray):Sc:=⟨(if t=sE then [] else [⟨sThisF,t⟩])++d.globals,false⟩
def qBw(d:Ds)(p:Pr):Sc:=⟨p.params++d.globals,false⟩
def qEn(d:Ds)(sc:Sc)(result:ByteArray)(op:Int)(s:ByteArray)(es:List E):Int :=
 if op=6 then
  match es with
  | []=>0
  | e::_=>if (partsT d sc [] e.k).2≠0 then (partsT d sc [] e.k).2 else (qFa d e.s (partsT d sc [] e.k).1).2
 else if (partsT d sc [] es).2≠0 then (partsT d sc [] es).2
 else if op=1 then (if qBI sc.vars s=sE then 9 else if qDu d ((partsT d sc [] es).1.getD 0 sE) (qBI sc.vars s)=true then 0 else 11)
 else if op=2 then (if (qBS d ((partsT d sc [] es).1.getD 0 sE) s).2≠0 then (qBS d ((partsT d sc [] es).1.getD 0 sE) s).2 else if qDu d ((partsT d sc [] es).1.getD 1 sE) (qBS d ((partsT d sc [] es).1.getD 0 sE) s).1=true then 0 else 11)
 else if op=3∨op=4 then (if (partsT d sc [] es).1.getD 0 sE=qAu then 0 else 11)
 else if op=5 then (if (partsT d sc [] es).1.length=0 then (if result=sE then 0 else 11) else if result≠sE/\qDu d ((partsT d sc [] es).1.getD 0 sE) result=true then 0 else 11)
 else 0
mutual
def stT(d:Ds)(sc:Sc)(result:ByteArray)(n:Int):S->Int×Int
 | .mk op s _ es _ ls _ xs =>
  if qEn d sc result op s es≠0 then (n,qEn d sc result op s es)
  else if (qBF d sc result (n+1) ls).2≠0 then qBF d sc result (n+1) ls
  else qBF d sc result (qBF d sc result (n+1) ls).1 xs
def qBF(d:Ds)(sc:Sc)(result:ByteArray)(n:Int):List S->Int×Int
 | []=>(n,0)
 | x::xs=>if (stT d sc result n x).2≠0 then stT d sc result n x else qBF d sc result (stT d sc result n x).1 xs
end
theorem stT_eq(d:Ds)(sc:Sc)(result:ByteArray)(n:Int)(x:S):stT d sc result n x=if qEn d sc result x.op x.s x.es≠0 then (n,qEn d sc result x.op x.s x.es) else if (qBF d sc result (n+1) x.ls).2≠0 then qBF d sc result (n+1) x.ls else qBF d sc result (qBF d sc result (n+1) x.ls).1 x.xs:=by
 cases x;unfold stT;rfl
theorem qFH(d:Ds)(sc:Sc)(result:ByteArray)(n:Int)(x:S)(xs:List S):qBF d sc result n (x::xs)=if (stT d sc result n x).2≠0 then stT d sc result n x else qBF d sc result (stT d sc result n x).1 xs:=by rw[qBF]
theorem stsT_nil(d:Ds)(sc:Sc)(result:ByteArray)(n:Int):qBF d sc result n []=(n,0):=by rw[qBF]
def qEh(d:Ds)(l:List Fld)(i:Nat)(f:Fld):Int:=if (l.take i).any (fun g=>decide (g.name=f.name))=true then 10 else if qBf d f.ty=true then 0 else 9
def qAh{α β:Type}(f:Nat->α->Option β):Nat->List α->Option β
 | _,[]=>none
 | i,x::xs=>match f i x with|some b=>some b|none=>qAh f (i+1) xs
def qCi(d:Ds)(l:List Fld):Int:=(qAh (fun i f=>if qEh d l i f≠0 then some (qEh d l i f) else none) 0 l).getD 0
abbrev Flt:=ByteArray×Int×Int
def types1(d:Ds):Option Flt:=qAh (fun i t=>if (d.types.take i).any (fun g=>decide (g.name=t.name))=true then some (t.name,-1,10) else none) 0 d.types
def types2(d:Ds):Option Flt:=qAh (fun _ t=>if qCi d t.fields≠0 then some (t.name,-1,qCi d t.fields) else none) 0 d.types
def types3(d:Ds):Option Flt:=qAh (fun i f=>if qEh d d.globals i f≠0 then some (f.name,-1,qEh d d.globals i f) else none) 0 d.globals
def qFb(d:Ds):Option Flt:=(types1 d).or ((types2 d).or (types3 d))
def qEe(d:Ds):Option Flt:=qAh (fun i p=>if (d.procs.take i).any (fun g=>decide (g.name=p.name))=true then some (p.name,-1,10) else if qCi d (p.params++p.locals)≠0 then some (p.name,-1,qCi d (p.params++p.locals)) else if p.result≠sE/\qBf d p.result=false then some (p.name,-1,9) else none) 0 d.procs
def form1(d:Ds):Option Flt:=qAh (fun i m=>if (d.measures.take i).any (fun g=>decide (g.name=m.name))=true then some (m.name,-1,10) else if qAW d m.ty=false then some (m.name,-1,9) else none) 0 d.measures
def form2(d:Ds):Option Flt:=qAh (fun i m=>if (d.invs.take i).any (fun g=>decide (g.name=m.name))=true then some (m.name,-1,10) else if m.ty≠sE/\qAW d m.ty=false then some (m.name,-1,9) else none) 0 d.invs
def sPot:ByteArray:=qAl [112,111,116,101,110,116,105,97,108]
def form3(d:Ds):Option Flt:=qAh (fun _ m=>if m.ty≠sE/\qAW d m.ty=false then some (sPot,-1,9) else none) 0 d.pots
def form4(d:Ds):Option Flt:=qAh (fun i b=>if (qEW d b.proc).isNone=true then some (b.proc,-1,9) else if (d.bounds.take i).any (fun g=>decide (g.proc=b.proc))=true then some (b.proc,-1,10) else none) 0 d.bounds
def qEj(d:Ds):Option Flt:=(form1 d).or ((form2 d).or ((form3 d).or (form4 d)))
def qCq(d:Ds):Option Flt:=qAh (fun _ p=>if (qBF d (qAf d p) p.result 0 p.body).2≠0 then some (p.name,(qBF d (qAf d p) p.result 0 p.body).1,(qBF d (qAf d p) p.result 0 p.body).2) else none) 0 d.procs
def qBq(d:Ds)(sc:Sc)(e:E)(t:ByteArray):Int:=if (qAn d sc e).2≠0 then (qAn d sc e).2 else if (qAn d sc e).1=t then 0 else 11
def exp1(d:Ds):Option Flt:=qAh (fun _ m=>if qBq d (qAw d m.ty) m.x qAN≠0 then some (m.name,-1,qBq d (qAw d m.ty) m.x qAN) else none) 0 d.measures
def exp2(d:Ds):Option Flt:=qAh (fun _ m=>if qBq d (qAw d m.ty) m.x qAu≠0 then some (m.name,-1,qBq d (qAw d m.ty) m.x qAu) else none) 0 d.invs
def exp3(d:Ds):Option Flt:=qAh (fun _ m=>if qBq d (qAw d m.ty) m.x qAN≠0 then some (sPot,-1,qBq d (qAw d m.ty) m.x qAN) else none) 0 d.pots
def prD:Pr:=⟨sE,⟨none,0,0⟩,[],sE,⟨none,0,0⟩,[],⟨none,0,0⟩,[]⟩
def exp4(d:Ds):Option Flt:=qAh (fun _ m=>if qBq d (qBw d ((qEW d m.proc).getD prD)) m.x qAN≠0 then some (m.proc,-1,qBq d (qBw d ((qEW d m.proc).getD prD)) m.x qAN) else none) 0 d.bounds
def qGF(d:Ds):Option Flt:=(exp1 d).or ((exp2 d).or ((exp3 d).or (exp4 d)))
def qHg(d:Ds):Option Flt:=(qFb d).or ((qEe d).or ((qEj d).or ((qCq d).or (qGF d))))
def fltR(o:Option Flt):Flt:=o.getD (sE,0,0)
end Go.Proofs
namespace Go.Proofs
open Go Go.Sx
attribute [local irreducible] Go.Sx.Tri
noncomputable def ti(t:Nat):TypeInfo:=(Tryz.prog.info? t).getD default
section
variable{α:Type}
def AppP(t e sz:Nat)(row:α->List Value):Prop:=∀{V0 V:Mem} {ty:Nat} {x y:Operand} {vals:Operand->Value} {s u:Sl} {xs ys:List α} (hx:vals x=.slice s.p s.n s.c) (hy:vals y=.slice u.p u.n u.c) (own:Sx.Own V0 V e sz s (xs.flatMap row)) (hnew:qAd V u sz (ys.map row))
 (hfit:xs.length+ys.length<=2147483648) {q:Value->Mem->Prop} (hq:∀s' V',Sx.Own V0 V' e sz s' ((xs++ys).flatMap row)->q (.slice s'.p s'.n s'.c) V'),
 GenK Tryz.prog (.call { callee:=.builtin .append,args:=#[x,y],argTypes:=#[t,t] }) ty vals V q
theorem appG{t e sz:Nat}{row:α->List Value}(ht:Tryz.prog.underlying t=some (.slice e))(hi:Tryz.prog.info? e=some (ti e))(hz:(ti e).zero=some ((ti e).zero.getD undef))(h1:(ti e).size=sz)(h2:((ti e).zero.getD undef).cells.size=sz)(h3:decide ((ti e).bytes<=65536)=true)
  (h0:0<sz) (hr:∀x,(row x).length=sz) (hu:∀x,∀u∈row x,u.oneCell'=true):AppP t e sz row:=by
 intro V0 V ty x y vals s u xs ys hx hy own hnew hfit q hq
 exact GenK.appendS ht hi hz h1 h2 h0 (of_decide_eq_true h3) hx hy own hr hnew hu hfit hq
end
theorem app232:AppP 232 9 1 qBe:=appG Tryz.underlying232 (by kernel_rfl) (by kernel_rfl) (by kernel_rfl) (by kernel_rfl) (by kernel_rfl) (by decide) (by intro _;rfl) fun x u hu=>by simp[qBe,vS]at hu;rw[hu];rfl
theorem qFz:AppP 23 113 2 Fld.row:=appG Tryz.underlying23 (by kernel_rfl) (by kernel_rfl) (by kernel_rfl) (by kernel_rfl) (by kernel_rfl) (by decide) (by intro _;rfl) fun x u hu=>by simp[Fld.row,vS]at hu;rcases hu with rfl|rfl <;> rfl
def qHC{α:Type}(p:α->Bool)(xs:List α):Int:=match xs.findIdx? p with|some i=>(i:Int) | none=>-1
theorem qDD{α:Type}{p:α->Bool}{xs:List α}{i:Nat}{x:α}(h:qAX (fun y=>!p y) xs i)(hx:xs[i]?=some x)(hp:p x=true):qHC p xs=i:=by
 have hl:=(List.getElem?_eq_some_iff.1 hx).1
 have hg:=(List.getElem?_eq_some_iff.1 hx).2
 have:xs.findIdx? p=some i:=List.findIdx?_eq_some_iff_getElem.2 ⟨hl,by grind,fun j hj=>by
  have:=h j _ hj (List.getElem?_eq_getElem (Nat.lt_trans hj hl))
  simpa using this⟩
 unfold qHC;rw[this]
theorem qEz{α:Type}{p:α->Bool}{xs:List α}{i:Nat}(h:qAX (fun y=>!p y) xs i)(hi:xs.length<=i):qHC p xs=-1:=by
 have:xs.findIdx? p=none:=List.findIdx?_eq_none_iff.2 fun x hx=>by
  obtain⟨j,hj,rfl⟩:=List.mem_iff_getElem.1 hx
  have:=h j _ (by omega) (List.getElem?_eq_getElem hj)
  simpa using this
 unfold qHC;rw[this]
theorem qAP{α:Type}(p:α->Bool)(xs:List α):(qHC p xs=-1/\xs.find? p=none/\xs.any p=false)∨∃(i:Nat) (x:α),qHC p xs=i/\xs[i]?=some x/\xs.find? p=some x/\i<xs.length/\p x=true/\x∈xs/\xs.any p=true/\(xs.take i).any p=false:=by
 cases h:xs.findIdx? p with
 | none =>
  grind [qHC]
 | some i =>
  obtain⟨hl,hp,hn⟩:=List.findIdx?_eq_some_iff_getElem.1 h
  refine .inr ⟨i,xs[i],by unfold qHC;rw[h],List.getElem?_eq_getElem hl,?_,hl,hp,List.getElem_mem _,List.any_eq_true.2 ⟨_,List.getElem_mem _,hp⟩,?_⟩
  ·rw[List.find?_eq_some_iff_getElem]
   grind
  ·rw[List.any_eq_false]
   intro x hx
   obtain⟨j,hj,rfl⟩:=List.mem_iff_getElem.1 hx
   grind
theorem qCT{α:Type}{p:α->Bool}{xs:List α}{i:Nat}{x:α}(h:qAX (fun y=>!p y) xs i)(hx:xs[i]?=some x)(hp:p x=false):qAX (fun y=>!p y) xs (i+1):=h.succ hx (by simp[hp])
theorem c125{V:Mem}{d:Ds}(h:Ds.Ok V d){s:ByteArray}:PP 125 [d.v,.string s] V (.int .i64 (qHC (fun t=>decide (t.name=s)) d.types)):=by
 refine x125 ?_
 unfold w125
 refine qAJ d.types.length (fun i V1=>V=V1/\qAX (fun t=>!decide (t.name=s)) d.types i) ⟨rfl,qAX.zero _ _⟩ ?_
 rintro i b V1 J hi ⟨rfl,ha⟩ hJ
 refine⟨fun hlt=>?_,fun hge=>?_⟩
 ·obtain⟨x,hm,hx,hdr,hl,hp,hz,hrow⟩:=h.types.get hlt
  refine⟨hp,hz,hlt,qAe hp,_,_,hrow,fun he=>?_,fun he=>⟨h.types.succ hlt,hJ hl _ _ ⟨rfl,qCT (p:=fun t=>decide (t.name=s)) ha hx (decide_eq_false he)⟩⟩⟩
  rw[qDD (p:=fun t=>decide (t.name=s)) ha hx (decide_eq_true he)];simp_all
 ·rw[qEz (p:=fun t=>decide (t.name=s)) ha (h.types.done hge).2];exact⟨rfl,rfl⟩
theorem c92{V:Mem}{d:Ds}(h:Ds.Ok V d){s:ByteArray}:PP 92 [d.v,.string s] V (.int .i64 (qHC (fun t=>decide (t.name=s)) d.procs)):=by
 refine x92 ?_
 unfold w92
 refine qAJ d.procs.length (fun i V1=>V=V1/\qAX (fun t=>!decide (t.name=s)) d.procs i) ⟨rfl,qAX.zero _ _⟩ ?_
 rintro i b V1 J hi ⟨rfl,ha⟩ hJ
 refine⟨fun hlt=>?_,fun hge=>?_⟩
 ·obtain⟨x,hm,hx,hdr,hl,hp,hz,hrow⟩:=h.procs.get hlt
  refine⟨hp,hz,hlt,qAe hp,_,_,_,_,_,hrow,fun he=>?_,fun he=>⟨h.procs.succ hlt,hJ hl _ _ ⟨rfl,qCT (p:=fun t=>decide (t.name=s)) ha hx (decide_eq_false he)⟩⟩⟩
  rw[qDD (p:=fun t=>decide (t.name=s)) ha hx (decide_eq_true he)];simp_all
 ·rw[qEz (p:=fun t=>decide (t.name=s)) ha (h.procs.done hge).2];exact⟨rfl,rfl⟩
theorem c156{V:Mem}{d:Ds}(h:Ds.Ok V d){s:ByteArray}:PP 156 [d.v,.string s] V (.int .i64 (qHC (fun t=>decide (t.name=s)) d.measures)):=by
 refine x156 ?_
 unfold w156
 refine qAJ d.measures.length (fun i V1=>V=V1/\qAX (fun t=>!decide (t.name=s)) d.measures i) ⟨rfl,qAX.zero _ _⟩ ?_
 rintro i b V1 J hi ⟨rfl,ha⟩ hJ
 refine⟨fun hlt=>?_,fun hge=>?_⟩
 ·obtain⟨x,hm,hx,hdr,hl,hp,hz,hrow⟩:=h.measures.get hlt
  refine⟨hp,hz,hlt,qAe hp,_,_,_,_,_,_,_,hrow,fun he=>?_,fun he=>⟨h.measures.succ hlt,hJ hl _ _ ⟨rfl,qCT (p:=fun t=>decide (t.name=s)) ha hx (decide_eq_false he)⟩⟩⟩
  rw[qDD (p:=fun t=>decide (t.name=s)) ha hx (decide_eq_true he)];simp_all
 ·rw[qEz (p:=fun t=>decide (t.name=s)) ha (h.measures.done hge).2];exact⟨rfl,rfl⟩
section
variable{V:Mem}{d:Ds}
theorem c157(h:Ds.Ok V d){s:ByteArray}:PP 157 [d.v,.string s] V (.bool (qAW d s)):=by
 refine x157 ?_
 unfold w157
 refine(c125 h).call ⟨_,rfl,?_⟩
 rcases qAP (fun t:Ty=>decide (t.name=s)) d.types with⟨h1,h2,h3⟩|⟨i,x,h1,h2,h3,h4,h5,h6,h7,_⟩
 ·rw[h1,qAW,h3];exact⟨rfl,rfl⟩
 ·rw[h1,qAW,h7,decide_eq_true (by omega)];exact⟨rfl,rfl⟩
theorem c155(h:Ds.Ok V d){s:ByteArray}:PP 155 [d.v,.string s] V (.bool (qBf d s)):=by
 refine x155 ?_
 unfold w155
 refine⟨fun h1=>?_,fun h1=>⟨fun h2=>?_,fun h2=>(c157 h).call ⟨_,rfl,?_⟩⟩⟩ <;> simp[qBf,qAN,qAu, *]
theorem c208(h:Ds.Ok V d){s t:ByteArray}:PP 208 [d.v,.string s,.string t] V (.bool (qDu d s t)):=by
 refine x208 ?_
 unfold w208
 unfold qDu qJP
 refine⟨fun h1=>?_,fun h1=>⟨fun h2=>(c157 h).call ⟨_,rfl,?_⟩,fun h2=>?_⟩⟩
 ·simp_all
 ·simp_all
 simp_all
theorem qJw(fs:List Fld):qCf d [] fs=true:=by simp[qCf]
theorem c207{l:Sl}{xs:List Fld}(h:qAd V l 2 (xs.map Fld.row)){s:ByteArray}:PP 207 [l.v,.string s] V (.string (qBI xs s)):=by
 refine x207 ?_
 unfold w207
 refine qAJ xs.length (fun i V1=>V=V1/\qBI xs s=qBI (xs.drop i) s) ⟨rfl,rfl⟩ ?_
 rintro i b V1 J hi ⟨rfl,ha⟩ hJ
 refine⟨fun hlt=>?_,fun hge=>?_⟩
 ·obtain⟨x,hm,hx,hdr,hl,hp,hz,hrow⟩:=h.get hlt
  rw[hdr,qBI]at ha
  refine⟨hp,hz,hlt,qAe hp,_,_,hrow,fun he=>⟨hp,hz,hlt,qAe hp,_,_,hrow,?_⟩,fun he=>⟨h.succ hlt,hJ hl _ _ ⟨rfl,?_⟩⟩⟩
  ·simp_all
  simp_all
 ·rw[ha,(h.done hge).1];exact⟨rfl,rfl⟩
theorem c209(h:Ds.Ok V d){s t:ByteArray}:PP 209 [d.v,.string s,.string t] V (.tuple #[.string (qBS d s t).1,.int .i64 (qBS d s t).2]):=by
 refine x209 ?_
 unfold w209
 refine(c125 h).call ⟨_,rfl,?_⟩
 unfold qBS qIN
 rcases qAP (fun t:Ty=>decide (t.name=s)) d.types with⟨h1,h2,h3⟩|⟨i,x,h1,h2,h3,h4,h5,h6,h7,_⟩
 ·rw[h1,h2];exact⟨fun _=>⟨rfl,rfl⟩,fun h=>absurd h (by decide)⟩
 ·rw[h1,h3]
  have hn:=h.types.n_eq
  have hlt:(i:Int)<(d.ts.n:Int):=by omega
  obtain⟨y,hm,hx,hdr,hl,hp,hz,hrow⟩:=h.types.get hlt
  rw[h2]at hx
  cases hx
  refine⟨fun h=>absurd h (by omega),fun _=>⟨hp,hz,hlt,qAe hp,_,_,hrow,(c207 (h.typesOk x h6).fields).call ⟨_,rfl,fun he=>?_,fun he=>?_⟩⟩⟩
  ·grind [sE]
  grind [sE]
theorem c242{b:Bool}{s:ByteArray}:PP 242 [.bool b,.string s] V (.tuple #[.string (qDp b s).1,.int .i64 (qDp b s).2]):=by
 refine x242 ?_
 unfold w242
 refine⟨fun h=>?_,fun h=>?_⟩
 ·unfold qDp;rw[if_pos h];exact⟨rfl,rfl⟩
 ·unfold qDp;rw[if_neg h];exact⟨rfl,rfl⟩
theorem c243{l:Sl}{xs:List ByteArray}(h:qAd V l 1 (xs.map qBe)){s:ByteArray}:PP 243 [l.v,.string s] V (.bool (allT xs s)):=by
 refine x243 ?_
 unfold w243
 refine qAJ xs.length (fun i V1=>V=V1/\qAX (fun x=>decide (x=s)) xs i) ⟨rfl,qAX.zero _ _⟩ ?_
 rintro i b V1 J hi ⟨rfl,ha⟩ hJ
 refine⟨fun hlt=>?_,fun hge=>?_⟩
 ·obtain⟨x,hm,hx,hdr,hl,hp,hz,hrow⟩:=h.get hlt
  refine⟨hp,hz,hlt,_,hrow,fun he=>⟨h.succ hlt,hJ hl _ _ ⟨rfl,ha.succ hx (decide_eq_true he)⟩⟩,fun he=>?_⟩
  unfold allT;grind
 ·unfold allT;rw[ha.all (h.done hge).2];simp_all
theorem c205(h:Ds.Ok V d){s:ByteArray}{l:Sl}{xs:List ByteArray}(hl:qAd V l 1 (xs.map qBe)):PP 205 [d.v,.string s,l.v] V (.tuple #[.string (qFa d s xs).1,.int .i64 (qFa d s xs).2]):=by
 refine x205 ?_
 unfold w205
 refine(c92 h).call ⟨_,rfl,?_⟩
 unfold qFa qEW
 rcases qAP (fun t:Pr=>decide (t.name=s)) d.procs with⟨h1,h2,h3⟩|⟨i,x,h1,h2,h3,h4,h5,h6,h7,_⟩
 ·rw[h1,h2];exact⟨fun _=>⟨rfl,rfl⟩,fun h=>absurd h (by decide)⟩
 ·rw[h1,h3]
  have hn:=h.procs.n_eq
  have hlt:(i:Int)<(d.ps.n:Int):=by omega
  obtain⟨y,hm,hx,hdr,hll,hp,hz,hrow⟩:=h.procs.get hlt
  rw[h2]at hx
  cases hx
  have hox:=h.procsOk x h6
  have e1:=hl.n_eq
  have e2:=hox.params.n_eq
  refine⟨fun h=>absurd h (by omega),fun _=>⟨hp,hz,hlt,_,_,_,_,_,hrow,fun he=>?_,fun he=>?_⟩⟩
  ·have hle:xs.length=x.params.length:=by omega
   simp only[hle,ne_eq,not_true_eq_false,if_false]
   refine qDQ xs.length (fun i V1=>V=V1/\qCf d xs x.params=qCf d (xs.drop i) (x.params.drop i)) ⟨rfl,rfl⟩ ?_
   rintro j b c V1 J hi ⟨rfl,ha⟩ hJ
   refine⟨fun hlt=>?_,fun hge=>?_⟩
   ·obtain⟨y,hm',hx',hdr',hl',hp',hz',hrow'⟩:=hl.get hlt
    obtain⟨f,hmf,hxf,hdf,hlf,hpf,hzf,hrowf⟩:=hox.params.get (i:=j) (by omega)
    rw[hdr',hdf,qCf]at ha
    refine⟨hp',hz',hlt,_,hrow',hpf,hzf,by omega,qAe hpf,_,_,hrowf,(c208 h).call ⟨_,rfl,fun hb=>⟨hl.succ hlt,hJ hl' _ _ _ ⟨rfl,?_⟩⟩,fun hb=>?_⟩⟩
    ·simp_all
    ·rw[eq_false_of_ne_true hb,Bool.false_and]at ha;rw[ha];exact⟨rfl,rfl⟩
   ·rw[(hl.done hge).1,qJw]at ha
    simp_all
  ·have hle:¬xs.length=x.params.length:=by omega
   simp only[ne_eq,hle,not_false_eq_true,if_true];exact⟨by rfl,by simp_all⟩
theorem qEa{l:Sl}{xs:List ByteArray}(hl:qAd V l 1 (xs.map qBe)){i:Nat}(hi:i<xs.length):¬(l.p=none)/\(i:Int)<(l.n:Int)/\V.rowp l.p i 1=some [.string (xs.getD i sE)]:=by
 have hn:=hl.n_eq
 have hlt:(i:Int)<(l.n:Int):=by omega
 obtain⟨y,hm',hx',hdr',hl',hp',hz',hrow'⟩:=hl.get hlt
 rw[List.getD_eq_getElem?_getD,hx']
 rw[Nat.mul_one]at hrow'
 exact⟨hp',hlt,hrow'⟩
theorem c241(h:Ds.Ok V d){sl:Sl}{sc:Sc}{s:ByteArray}{l:Sl}{xs:List ByteArray}(hl:qAd V l 1 (xs.map qBe)) :
  PP 241 [d.v,.agg #[sl.v,.bool sc.body],.string s,l.v] V (.tuple #[.string (qHq d sc s xs).1,.int .i64 (qHq d sc s xs).2]):=by
 refine x241 ?_
 unfold w241
 refine⟨fun hb=>(c205 h hl).call ⟨_,_,rfl,fun h0=>⟨fun h1=>?_,fun h1=>?_⟩,fun h0=>?_⟩,fun hb=>?_⟩
 ·unfold qHq sE;rw[if_pos hb,if_pos ⟨h0,h1⟩];exact⟨rfl,rfl⟩
 ·unfold qHq sE;rw[if_pos hb,if_neg (fun h=>h1 h.2)];exact⟨rfl,rfl⟩
 ·unfold qHq;rw[if_pos hb,if_neg (fun h=>h0 h.1)];exact⟨rfl,rfl⟩
 ·unfold qHq;rw[if_neg hb]
  refine(c156 h).call ⟨_,rfl,?_⟩
  unfold qIT meOf
  rcases qAP (fun t:Ms=>decide (t.name=s)) d.measures with⟨h1,h2,h3⟩|⟨i,x,h1,h2,h3,h4,h5,h6,h7,_⟩
  ·rw[h1,h2];exact⟨fun _=>⟨rfl,rfl⟩,fun h=>absurd h (by decide)⟩
  ·rw[h1,h3]
   have hn:=h.measures.n_eq
   have hlt:(i:Int)<(d.ms.n:Int):=by omega
   obtain⟨y,hm,hx,hdr,hll,hp,hz,hrow⟩:=h.measures.get hlt
   rw[h2]at hx
   cases hx
   have e1:=hl.n_eq
   refine⟨fun h=>absurd h (by omega),fun _=>⟨fun he=>?_,fun he=>?_⟩⟩
   ·have hle:xs.length=1:=by omega
    obtain⟨a1,a2,a3⟩:=qEa hl (i:=0) (by omega)
    simp only[hle,ne_eq,not_true_eq_false,if_false]
    exact⟨a1,by omega,by omega,_,a3,hp,hz,hlt,qAe hp,_,_,_,_,_,_,_,hrow,(c208 h).call ⟨_,rfl,c242.call ⟨_,_,rfl,rfl,rfl⟩⟩⟩
   ·have hle:¬xs.length=1:=by omega
    simp only[ne_eq,hle,not_false_eq_true,if_true];exact⟨by rfl,by simp_all⟩
end
theorem arity{op n:Int}{s:ByteArray}{len:Int}(h:qDa op n s len=true):(op=5->len=1)/\(op=14∨op=15->len=2)/\(op=21->len=3)/\len<=6:=by
 grind [qDa,qAM]
theorem qFR{d:Int}{e:E}(h:okE d e=true):qDa e.op e.n e.s e.k.length=true:=by
 cases e
 unfold okE at h
 rw[Bool.and_eq_true,Bool.and_eq_true]at h
 exact h.1.2
theorem okEs_mem{d:Int}:∀{l:List E},okEs d l=true->∀x∈l,okE d x=true
 | [],_,x,hx=>absurd hx List.not_mem_nil
 | y::l,h,x,hx=>by
  unfold okEs at h
  rw[Bool.and_eq_true]at h
  rcases List.mem_cons.1 hx with rfl|hx
  ·exact h.1
  ·exact okEs_mem h.2 x hx
theorem qHB{d:Int}{e:E}(h:okE d e=true):∀x∈e.k,okE (d+1) x=true:=by
 cases e
 unfold okE at h
 rw[Bool.and_eq_true]at h
 exact okEs_mem h.2
theorem ownS{V0 V:Mem}{s:Sl}{l:List ByteArray}(h:Own V0 V 9 1 s (l.flatMap qBe)):qAd V s 1 (l.map qBe):=h.rows (fun _=>rfl) (by decide)
theorem qIh{V:Mem}{b:Nat}{s:ByteArray}{t:Nat}(h:V b=some (.cells #[.string s] t (0,0))):qAd V ⟨some ⟨b,0,none⟩,1,1⟩ 1 ([s].map qBe) :=
 qAd.cells (xs:=[s]) (row:=qBe) h rfl (fun _=>rfl) rfl (by simp)
def scV(sl:Sl)(sc:Sc):Value:=.agg #[sl.v,.bool sc.body]
section
variable{V:Mem}{d:Ds}{sc:Sc}{sl:Sl}
def RefE(V:Mem)(d:Ds)(sl:Sl)(sc:Sc)(e:E):Prop:=∀V1,V.sub V1->PP 206 [d.v,scV sl sc,e.v] V1 (.tuple #[.string (qAn d sc e).1,.int .i64 (qAn d sc e).2])
theorem refParts(e:E)(he:E.Ok V e)(hlen:(e.k.length:Int)<=6)(hk:∀x∈e.k,RefE V d sl sc x) :
  Tri Tryz.prog 204 #[d.v,scV sl sc,e.v] V fun r V'=>∃s':Sl,r=.returned (.tuple #[.slice s'.p s'.n s'.c,.int .i64 (partsT d sc [] e.k).2])/\V.sub V'/\qAd V' s' 1 ((partsT d sc [] e.k).1.map qBe):=by
 have hr:=he.rows
 refine x204 ?_
 unfold w204
 refine loop4s (mk:=fun s:Sl=>.slice s.p s.n s.c) (mc:=.int .i64) (md:=fun s:Sl=>.slice s.p s.n s.c) ⟨none,0,0⟩ 0 ⟨none,0,0⟩ qBD e.k.length (fun i s V1=>∃acc,Own V V1 9 1 s (acc.flatMap qBe)/\partsT d sc [] e.k=partsT d sc acc (e.k.drop i)/\acc.length=i) ⟨[],Own.nil (Mem.sub.refl _) _ _,rfl,rfl⟩ ?_
 rintro i b c s V1 J hi ⟨acc,hown,hp,hlen'⟩ hJ
 have hr1:=hr.sub hown.sub
 refine⟨fun hlt=>?_,fun hge=>?_⟩
 ·obtain⟨x,hm,hx,hdr,hl,hpp,hz,hrow⟩:=hr1.get hlt
  rw[hdr,qBV]at hp
  refine⟨hpp,hz,hlt,_,_,_,_,hrow,(hk x hm V1 hown.sub).call ⟨_,_,rfl,fun h0=>?_,fun h0=>?_⟩⟩
  ·intro b1 hb1
   rw[if_neg (fun h=>h h0)]at hp
   refine app232 (s:=s) (u:=⟨some ⟨b1,0,none⟩,1,1⟩) (xs:=acc) (ys:=[(qAn d sc x).1]) rfl rfl (hown.new hb1 _) (qIh mss) (by simp;omega) fun s' V' ho=>⟨s',rfl,hr1.succ hlt,hJ hl _ _ _ _ ⟨_,ho,hp,by simp[hlen']⟩⟩
  ·rw[if_pos h0]at hp
   exact⟨⟨none,0,0⟩,by rw[hp],hown.sub,by rw[hp];exact qAd.nil⟩
 ·rw[(hr1.done hge).1,qCJ]at hp
  exact⟨s,by rw[hp],hown.sub,by grind [ownS]⟩
set_option maxRecDepth 4000 in
theorem qJU(hd:Ds.Ok V d)(hsl:qAd V sl 2 (sc.vars.map Fld.row)):∀(e:E),E.Ok V e->∀dd,okE dd e=true->RefE V d sl sc e:=by
 intro e
 induction e using E.ind with
 | h e ih =>
 intro he dd hok V1 hV
 have har:=arity (qFR hok)
 have hk:∀x∈e.k,RefE V1 d sl sc x:=fun x hx V2 h2=>ih x hx (he.kids x hx) (dd+1) (qHB hok x hx) V2 (hV.trans h2)
 refine Pur.mk (x206 ?_)
 unfold w206
 refine Tri.mono (refParts e (he.sub hV) har.2.2.2 hk) ?_
 rintro _ V2 ⟨s',rfl,h12,hrows⟩
 rw[qHH]
 have hlen:=qGA d sc e.k []
 generalize hPT:partsT d sc [] e.k=pt at hrows hlen
 obtain⟨l,f⟩:=pt
 refine⟨s',f,rfl,fun h0=>?_,fun h0=>?_⟩
 ·subst h0
  have hlen:l.length=e.k.length:=by simp_all
  simp only[ne_eq,not_true_eq_false,if_false]
  have hd2:=hd.sub (hV.trans h12)
  have hsl2:=hsl.sub (hV.trans h12)
  generalize hX:qFp d sc e.op e.s l=X
  have key:∀a b,X=(a,b)->(Ending.returned (.tuple #[.string a,.int .i64 b])=Ending.returned (.tuple #[.string X.1,.int .i64 X.2])/\V1.sub V2):=fun a b h=>by simp_all
  have cAll:=fun t=>c243 hrows (s:=t)
  have cFits:=fun a b=>c208 hd2 (s:=a) (t:=b)
  have at0:=fun h:0<l.length=>qEa hrows h
  have at1:=fun h:1<l.length=>qEa hrows h
  have at2:=fun h:2<l.length=>qEa hrows h
  unfold qFp at hX
  refine⟨fun o1=>key _ _ ?_,fun o1=>⟨fun o2=>key _ _ ?_,fun o2=>⟨fun o3=>key _ _ ?_,fun o3=>⟨fun o4=>?_,fun o4=>⟨fun o5=>?_,fun o5=>⟨fun o6=>?_,fun o6=>⟨fun o7=>?_,fun o7=>⟨fun o14=>?_,fun o14=>⟨fun o15=>?_,fun o15=>⟨fun o16=>?_,fun o16=>⟨fun o17=>?_,fun o17=>⟨fun o18=>?_,fun o18=>⟨fun o19=>?_,fun o19=>⟨fun o20=>?_,fun o20=>⟨fun o21=>?_,fun o21=>?_⟩⟩⟩⟩⟩⟩⟩⟩⟩⟩⟩⟩⟩⟩⟩
  ·rw[<- hX,if_pos o1];rfl
  ·rw[<- hX,if_neg o1,if_pos o2];rfl
  ·rw[<- hX,if_neg o1,if_neg o2,if_pos o3];rfl
  ·rw[if_neg o1,if_neg o2,if_neg o3,if_pos o4]at hX
   refine(c207 hsl2).call ⟨_,rfl,fun h=>key _ _ ?_,fun h=>key _ _ ?_⟩
   ·grind [qBI,sE]
   grind [qBI,sE]
  ·rw[if_neg o1,if_neg o2,if_neg o3,if_neg o4,if_pos o5]at hX
   obtain⟨a1,a2,a3⟩:=at0 (by omega)
   exact⟨a1,by omega,a2,_,a3,(c209 hd2).call ⟨_,_,rfl,key _ _ (by rw[<- hX])⟩⟩
  ·rw[if_neg o1,if_neg o2,if_neg o3,if_neg o4,if_neg o5,if_pos o6]at hX
   refine⟨fun hb=>(c157 hd2).call ⟨_,rfl,fun hn=>key _ _ ?_,fun hn=>key _ _ ?_⟩,fun hb=>key _ _ ?_⟩
   ·simp_all
   ·rw[<- hX,if_neg (by rw[hb];simp),if_pos (eq_false_of_ne_true hn)];rfl
   ·rw[<- hX,if_pos (eq_false_of_ne_true hb)];rfl
  ·rw[if_neg o1,if_neg o2,if_neg o3,if_neg o4,if_neg o5,if_neg o6,if_pos o7]at hX
   exact(c241 hd2 (sl:=sl) hrows).call ⟨_,_,rfl,key _ _ (by rw[<- hX])⟩
  iterate 2
   ·rw[if_neg o1,if_neg o2,if_neg o3,if_neg o4,if_neg o5,if_neg o6,if_neg o7,if_pos (by omega)]at hX
    obtain⟨a1,a2,a3⟩:=at0 (by have:=har.2.1 (by omega);omega)
    obtain⟨b1,b2,b3⟩:=at1 (by have:=har.2.1 (by omega);omega)
    refine⟨a1,by omega,a2,_,a3,b1,by omega,b2,_,b3,(cFits _ _).call ⟨_,rfl,fun h=>c242.call ⟨_,_,rfl,key _ _ ?_⟩,fun h=>⟨b1,by omega,b2,_,b3,a1,by omega,a2,_,a3,(cFits _ _).call ⟨_,rfl,c242.call ⟨_,_,rfl,key _ _ ?_⟩⟩⟩⟩⟩
    ·rw[<- hX,h];rfl
    ·rw[<- hX,eq_false_of_ne_true h];rfl
  iterate 2
   ·rw[if_neg o1,if_neg o2,if_neg o3,if_neg o4,if_neg o5,if_neg o6,if_neg o7,if_neg (by omega),if_pos (by omega)]at hX
    exact(cAll _).call ⟨_,rfl,c242.call ⟨_,_,rfl,key _ _ (by rw[<- hX];rfl)⟩⟩
  iterate 3
   ·rw[if_neg o1,if_neg o2,if_neg o3,if_neg o4,if_neg o5,if_neg o6,if_neg o7,if_neg (by omega),if_neg (by omega),if_pos (by omega)]at hX
    exact(cAll _).call ⟨_,rfl,c242.call ⟨_,_,rfl,key _ _ (by rw[<- hX];rfl)⟩⟩
  ·rw[if_neg o1,if_neg o2,if_neg o3,if_neg o4,if_neg o5,if_neg o6,if_neg o7,if_neg (by omega),if_neg (by omega),if_neg (by omega),if_pos o21]at hX
   obtain⟨a1,a2,a3⟩:=at0 (by omega)
   obtain⟨b1,b2,b3⟩:=at1 (by omega)
   obtain⟨c1,c2,c3⟩:=at2 (by omega)
   have fin:∀t,(if l.getD 1 sE=qJP then l.getD 2 sE else l.getD 1 sE)=t ->
     (l.getD 0 sE=qAu->qDu d (l.getD 1 sE) (l.getD 2 sE)=true->X=qDp true t)/\(l.getD 0 sE=qAu->¬qDu d (l.getD 1 sE) (l.getD 2 sE)=true->X=qDp (qDu d (l.getD 2 sE) (l.getD 1 sE)) t)/\(¬l.getD 0 sE=qAu->X=qDp false t):=fun t ht=>by
    grind
   refine⟨b1,by omega,b2,_,b3,fun hn=>?_,fun hn=>?_⟩
   ·have hf:=fin _ (if_pos hn)
    refine⟨c1,by omega,c2,_,c3,a1,by omega,a2,_,a3,fun h0=>⟨b1,by omega,b2,_,b3,c1,by omega,c2,_,c3,(cFits _ _).call ⟨_,rfl,fun h=>c242.call ⟨_,_,rfl,key _ _ ?_⟩,fun h=>⟨c1,by omega,c2,_,c3,b1,by omega,b2,_,b3,(cFits _ _).call ⟨_,rfl,c242.call ⟨_,_,rfl,key _ _ ?_⟩⟩⟩⟩⟩,fun h0=>c242.call ⟨_,_,rfl,key _ _ ?_⟩⟩
    ·exact hf.1 h0 h
    ·exact hf.2.1 h0 h
    ·exact hf.2.2 h0
   ·have hf:=fin _ (if_neg hn)
    refine⟨a1,by omega,a2,_,a3,fun h0=>⟨b1,by omega,b2,_,b3,c1,by omega,c2,_,c3,(cFits _ _).call ⟨_,rfl,fun h=>c242.call ⟨_,_,rfl,key _ _ ?_⟩,fun h=>⟨c1,by omega,c2,_,c3,b1,by omega,b2,_,b3,(cFits _ _).call ⟨_,rfl,c242.call ⟨_,_,rfl,key _ _ ?_⟩⟩⟩⟩⟩,fun h0=>c242.call ⟨_,_,rfl,key _ _ ?_⟩⟩
    ·exact hf.1 h0 h
    ·exact hf.2.1 h0 h
    ·exact hf.2.2 h0
  ·rw[if_neg o1,if_neg o2,if_neg o3,if_neg o4,if_neg o5,if_neg o6,if_neg o7,if_neg (by omega),if_neg (by omega),if_neg (by omega),if_neg o21]at hX
   exact(cAll _).call ⟨_,rfl,c242.call ⟨_,_,rfl,key _ _ (by rw[<- hX];rfl)⟩⟩
 ·simp only[ne_eq,h0,not_false_eq_true,if_true]
  exact⟨rfl,h12⟩
end
theorem ownF{V0 V:Mem}{s:Sl}{l:List Fld}(h:Own V0 V 113 2 s (l.flatMap Fld.row)):qAd V s 2 (l.map Fld.row):=h.rows (fun _=>rfl) (by decide)
theorem one_fld{V:Mem}{b:Nat}{f:Fld}{t:Nat}(h:V b=some (.cells #[.string f.name,.string f.ty] t (0,0))):qAd V ⟨some ⟨b,0,none⟩,1,1⟩ 2 ([f].map Fld.row) :=
 qAd.cells (xs:=[f]) (row:=Fld.row) h rfl (fun _=>rfl) rfl (by simp)
section
variable{V:Mem}{d:Ds}
def Small(d:Ds):Prop:=d.globals.length<=1000/\∀p∈d.procs,p.params.length<=1000/\p.locals.length<=1000
theorem refInProc(hd:Ds.Ok V d){p:Pr}(hp:Pr.Ok V p)(h1:d.globals.length<=1000)(h2:p.params.length<=1000/\p.locals.length<=1000) :
  Tri Tryz.prog 203 #[d.v,p.v] V fun r V'=>∃s':Sl,r=.returned (scV s' (qAf d p))/\V.sub V'/\qAd V' s' 2 ((qAf d p).vars.map Fld.row):=by
 refine x203 ?_
 unfold w203
 intro b hb
 have hs:=Mem.sub_new hb (.cells #[] 113 (0,0))
 refine qFz (s:=⟨some ⟨b,0,none⟩,0,0⟩) (u:=p.ps) (xs:=[]) (ys:=p.params) rfl rfl (Own.empty hs _ _ _) (hp.params.sub hs) (by grind) fun s1 V1 o1=>⟨s1,rfl,?_⟩
 refine qFz (s:=s1) (u:=p.ls) (xs:=p.params) (ys:=p.locals) rfl rfl o1 (hp.locals.sub o1.sub) (by omega) fun s2 V2 o2=>⟨s2,rfl,?_⟩
 refine qFz (s:=s2) (u:=d.gs) (xs:=p.params++p.locals) (ys:=d.globals) rfl rfl o2 (hd.globals.sub o2.sub) (by grind) fun s3 V3 o3=>⟨s3,rfl,?_⟩
 exact⟨s3,rfl,o3.sub,ownF o3⟩
theorem refInBound(hd:Ds.Ok V d){p:Pr}(hp:Pr.Ok V p)(h1:d.globals.length<=1000)(h2:p.params.length<=1000/\p.locals.length<=1000) :
  Tri Tryz.prog 161 #[d.v,p.v] V fun r V'=>∃s':Sl,r=.returned (scV s' (qBw d p))/\V.sub V'/\qAd V' s' 2 ((qBw d p).vars.map Fld.row):=by
 refine x161 ?_
 unfold w161
 intro b hb
 have hs:=Mem.sub_new hb (.cells #[] 113 (0,0))
 refine qFz (s:=⟨some ⟨b,0,none⟩,0,0⟩) (u:=p.ps) (xs:=[]) (ys:=p.params) rfl rfl (Own.empty hs _ _ _) (hp.params.sub hs) (by grind) fun s1 V1 o1=>⟨s1,rfl,?_⟩
 refine qFz (s:=s1) (u:=d.gs) (xs:=p.params) (ys:=d.globals) rfl rfl o1 (hd.globals.sub o1.sub) (by omega) fun s3 V3 o3=>⟨s3,rfl,?_⟩
 exact⟨s3,rfl,o3.sub,ownF o3⟩
theorem qEr(hd:Ds.Ok V d){t:ByteArray}(h1:d.globals.length<=1000) :
  Tri Tryz.prog 160 #[d.v,.string t] V fun r V'=>∃s':Sl,r=.returned (scV s' (qAw d t))/\V.sub V'/\qAd V' s' 2 ((qAw d t).vars.map Fld.row):=by
 refine x160 ?_
 unfold w160
 refine⟨fun he=>?_,fun he=>?_⟩
 ·refine qFz (s:=⟨none,0,0⟩) (u:=d.gs) (xs:=[]) (ys:=d.globals) rfl rfl (Own.nil (Mem.sub.refl V) _ _) hd.globals (by grind) fun s1 V1 o1=>⟨s1,rfl,?_⟩
  refine⟨s1,rfl,o1.sub,?_⟩
  unfold qAw sE
  rw[if_pos he]
  exact ownF o1
 ·intro b hb
  have hs:=Mem.sub_new hb (.cells #[.string (qAl [116,104,105,115]),.string t] 113 (0,0))
  refine qFz (s:=⟨none,0,0⟩) (u:=⟨some ⟨b,0,none⟩,1,1⟩) (xs:=[]) (ys:=[⟨sThisF,t⟩]) rfl rfl (Own.nil hs _ _) (one_fld mss) (by simp) fun s1 V1 o1=>⟨s1,rfl,?_⟩
  refine qFz (s:=s1) (u:=d.gs) (xs:=[⟨sThisF,t⟩]) (ys:=d.globals) rfl rfl o1 (hd.globals.sub o1.sub) (by grind) fun s2 V2 o2=>⟨s2,rfl,?_⟩
  refine⟨s2,rfl,o2.sub,?_⟩
  unfold qAw sE
  rw[if_neg he]
  exact ownF o2
theorem qHT{op:Int}{s:ByteArray}{es:List E}{nl nx:Int}(h:qBB op s es nl nx=true):(op=6->∃e0,es=[e0]/\e0.op=7)/\(op=1∨op=3∨op=4->es.length=1)/\(op=2->es.length=2)/\(op=5->es.length<=1)/\es.length<=2/\(∀x∈es,okE 1 x=true):=by
 unfold qBB at h
 rw[Bool.and_eq_true]at h
 obtain⟨h,hv⟩:=h
 have hall:∀x∈es,okE 1 x=true:=fun x hx=>by
  grind [qAI]
 unfold qFd at h
 have h6:op=6->∃e0,es=[e0]/\e0.op=7:=fun h6=>by
  subst h6
  simp only[show ¬((6:Int)=1) by decide,show ¬((6:Int)=2) by decide,show ¬((6:Int)=3) by decide,show ¬((6:Int)=4) by decide,show ¬((6:Int)=5) by decide,if_false,if_true,decide_eq_true_eq]at h
  match es,h with
  | [e0],h=>exact⟨e0,rfl,h.2.2.1⟩
  | [],h=>simp at h
  | _::_::_,h=>simp at h;omega
 grind
theorem c158(hd:Ds.Ok V d){p:Pr}(hp:Pr.Ok V p)(h1:d.globals.length<=1000)(h2:p.params.length<=1000/\p.locals.length<=1000){x:S}(hx:S.Ok V x)(hs:qBB x.op x.s x.es x.ls.length x.xs.length=true) :
  PP 158 [d.v,p.v,x.v] V (.int .i64 (qEn d (qAf d p) p.result x.op x.s x.es)):=by
 obtain⟨a6,a134,a2,a5,alen,aok⟩:=qHT hs
 rw[S.v_eq]
 refine Pur.mk (x158 ?_)
 unfold w158
 refine Tri.mono (refInProc hd hp h1 h2) ?_
 rintro _ V1 ⟨sv,rfl,hV1,hsc⟩
 generalize hscE:qAf d p=sc at hsc
 have hbody:sc.body=true:=by rw[<- hscE];rfl
 have hd1:=hd.sub hV1
 have hf:=qGb (hx.sub hV1)
 refine⟨sv,sc.body,rfl,fun o6=>?_,fun o6=>?_⟩
 ·obtain⟨e0,he0,-⟩:=a6 o6
  rcases hf with⟨h,-⟩|⟨e0',r,he,hn,hp0,hp2,hrow⟩
  ·simp_all
  ·rw[he0]at he
   cases he
   have hok:=aok e0 (by rw[he0];simp)
   have hoe:=(hx.sub hV1).eOk e0 (by rw[he0];simp)
   have hk:∀y∈e0.k,RefE V1 d sv sc y:=fun y hy=>qJU hd1 hsc y (hoe.kids y hy) 2 (qHB hok y hy)
   refine⟨hp0,by omega,by omega,_,_,_,_,hrow,Tri.mono (refParts e0 hoe (arity (qFR hok)).2.2.2 hk) ?_⟩
   rintro _ V2 ⟨s',rfl,h12,hrows⟩
   unfold qEn
   rw[if_pos o6,he0]
   simp only
   generalize hPT:partsT d sc [] e0.k=pt at hrows
   obtain⟨l,f⟩:=pt
   have hrow2:=h12.rowp hrow
   refine⟨s',f,rfl,fun h0=>⟨hp0,by omega,by omega,hp2,_,_,_,_,hrow2,(c205 (hd1.sub h12) hrows).call ⟨_,_,rfl,?_,hV1.trans h12⟩⟩,fun h0=>?_⟩
   ·simp_all
   ·simp only[h0,ne_eq,not_false_eq_true,if_true];exact⟨by trivial,hV1.trans h12⟩
 ·unfold qEn
  rw[if_neg o6]
  have hr:=(hx.sub hV1).eRows
  refine qGY (mk:=.int .i64) (mc:=fun s:Sl=>.slice s.p s.n s.c) 0 ⟨none,0,0⟩ qBD x.es.length (fun i s V2=>∃acc,Own V1 V2 9 1 s (acc.flatMap qBe)/\partsT d sc [] x.es=partsT d sc acc (x.es.drop i)/\acc.length=i) ⟨[],Own.nil (Mem.sub.refl _) _ _,rfl,rfl⟩ ?_
  rintro i b s V2 J hi ⟨acc,hown,hpt,hlen'⟩ hJ
  have hr1:=hr.sub hown.sub
  refine⟨fun hlt=>?_,fun hge=>?_⟩
  ·obtain⟨y,hm,hxy,hdr,hl,hpp,hz,hrow⟩:=hr1.get hlt
   rw[hdr,qBV]at hpt
   refine⟨hpp,hz,hlt,_,_,_,_,hrow,(qJU hd1 hsc y ((hx.sub hV1).eOk y hm) 1 (aok y hm) V2 hown.sub).call ⟨_,_,rfl,fun h0=>?_,fun h0=>?_⟩⟩
   ·intro b1 hb1
    rw[if_neg (fun h=>h h0)]at hpt
    refine app232 (s:=s) (u:=⟨some ⟨b1,0,none⟩,1,1⟩) (xs:=acc) (ys:=[(qAn d sc y).1]) rfl rfl (hown.new hb1 _) (qIh mss) (by grind) fun s' V' ho=>⟨s',rfl,hr1.succ hlt,hJ hl _ _ _ ⟨_,ho,hpt,by simp[hlen']⟩⟩
   ·rw[if_pos h0]at hpt
    rw[hpt]
    simp only[h0,ne_eq,not_false_eq_true,if_true]
    exact⟨by trivial,hV1.trans hown.sub⟩
  ·have hge':=(hr1.done hge).2
   rw[(hr1.done hge).1,qCJ]at hpt
   rw[hpt]
   simp only[ne_eq,not_true_eq_false,if_false]
   have hrows:=ownS hown
   have hal:acc.length=x.es.length:=by omega
   have hsub:=hV1.trans hown.sub
   have hd2:=hd1.sub hown.sub
   have hsc2:=hsc.sub hown.sub
   have sln:=hrows.n_eq
   have at0:=fun h:0<acc.length=>qEa hrows h
   have at1:=fun h:1<acc.length=>qEa hrows h
   have key:∀X n:Int,X=n->(Ending.returned (.int .i64 n)=Ending.returned (.int .i64 X)/\V.sub V2):=fun X n h=>by simp_all
   refine⟨fun o1=>(c207 hsc2).call ⟨_,rfl,fun hl=>key _ _ ?_,fun hl=>?_⟩,fun o1=>⟨fun o2=>?_,fun o2=>⟨fun o3=>?_,fun o3=>⟨fun o4=>?_,fun o4=>⟨fun o5=>?_,fun o5=>key _ _ ?_⟩⟩⟩⟩⟩
   ·grind [qBI,sE]
   ·obtain⟨b1,b2,b3⟩:=at0 (by omega)
    refine⟨b1,by omega,b2,_,b3,(c208 hd2).call ⟨_,rfl,fun hb=>key _ _ ?_,fun hb=>key _ _ ?_⟩⟩
    ·grind [qBI,sE]
    grind [qBI,sE]
   ·obtain⟨b1,b2,b3⟩:=at0 (by omega)
    obtain⟨c1,c2,c3⟩:=at1 (by omega)
    rw[if_neg o1,if_pos o2]
    refine⟨b1,by omega,b2,_,b3,(c209 hd2).call ⟨_,_,rfl,fun hb=>⟨c1,by omega,c2,_,c3,(c208 hd2).call ⟨_,rfl,fun hc=>key _ _ ?_,fun hc=>key _ _ ?_⟩⟩,fun hb=>key _ _ ?_⟩⟩
    ·simp_all
    ·simp_all
    omega
   ·grind [qAu]
   ·grind [qAu]
   ·have h5:=a5 o5
    rw[if_neg o1,if_neg o2,if_neg (by omega),if_pos o5]
    have rest:¬(acc.length=0)->((s.n:Int)=1)/\¬(s.p=none)/\(0:Int)<(s.n:Int)/\V2.rowp s.p 0 1=some [.string (acc.getD 0 sE)]:=fun h=>by
     grind
    refine⟨fun hn=>?_,fun hn=>?_⟩
    ·grind [sE,absurd]
    ·have h0:¬acc.length=0:=by omega
     obtain⟨r1,r2,r3,r4⟩:=rest h0
     rw[if_neg h0]
     refine⟨fun _=>⟨fun he=>key _ _ (by grind [sE]),fun he=>⟨r2,by omega,r3,_,r4,(c208 hd2).call ⟨_,rfl,fun hb=>key _ _ ?_,fun hb=>key _ _ ?_⟩⟩⟩,fun h=>absurd r1 h⟩
     ·grind [sE]
     simp_all
   omega
end
theorem okS_shape{d:Int}{x:S}(h:okS d x=true):qBB x.op x.s x.es x.ls.length x.xs.length=true/\qFQ (d+1) x.ls=true/\qFQ (d+1) x.xs=true:=by
 cases x
 unfold okS at h
 rw[Bool.and_eq_true,Bool.and_eq_true,Bool.and_eq_true]at h
 exact⟨h.1.1.2,h.1.2,h.2⟩
theorem qKd{d:Int}:∀{l:List S},qFQ d l=true->∀x∈l,okS d x=true
 | [],_,x,hx=>absurd hx List.not_mem_nil
 | y::l,h,x,hx=>by
  unfold qFQ at h
  rw[Bool.and_eq_true]at h
  rcases List.mem_cons.1 hx with rfl|hx
  ·exact h.1
  ·exact qKd h.2 x hx
theorem szS_eq(x:S):szS x=1+qEg x.ls+qEg x.xs:=by cases x;unfold szS;rfl
theorem qHP(x:S)(l:List S):qEg (x::l)=szS x+qEg l:=by rw[qEg]
mutual
theorem stT_n(d:Ds)(sc:Sc)(result:ByteArray)(n:Int):∀x:S,(stT d sc result n x).2=0->(stT d sc result n x).1=n+szS x
 | .mk op s _ es _ ls _ xs=>by
  have h1:=qHQ d sc result (n+1) ls
  have h2:=qHQ d sc result (qBF d sc result (n+1) ls).1 xs
  grind [stT,szS,absurd]
theorem qHQ(d:Ds)(sc:Sc)(result:ByteArray)(n:Int):∀l:List S,(qBF d sc result n l).2=0->(qBF d sc result n l).1=n+qEg l
 | []=>by simp[qBF,qEg]
 | x::xs=>by
  have h1:=stT_n d sc result n x
  have h2:=qHQ d sc result (stT d sc result n x).1 xs
  rw[qFH,qHP]
  grind
end
theorem qAg{α β:Type}{f:Nat->α->Option β}{i:Nat}{x:α}{xs:List α}{b:β}(h:f i x=some b):qAh f i (x::xs)=some b:=by unfold qAh;rw[h]
theorem qAk{α β:Type}{f:Nat->α->Option β}{i:Nat}{x:α}{xs:List α}(h:f i x=none):qAh f i (x::xs)=qAh f (i+1) xs:=by rw[qAh,h]
section
variable{V:Mem}{d:Ds}
def RefS(V:Mem)(d:Ds)(p:Pr)(l:List S):Prop:=∀(sl:Sl) (n dd:Int),qAd V sl 5 (l.map S.row)->(∀x∈l,S.Ok V x)->qFQ dd l=true->0<=n->n+qEg l<=1000 ->
 PP 122 [d.v,p.v,sl.v,.int .i64 n] V (.tuple #[.int .i64 (qBF d (qAf d p) p.result n l).1,.int .i64 (qBF d (qAf d p) p.result n l).2])
theorem refStep(hd:Ds.Ok V d){p:Pr}(hp:Pr.Ok V p)(h1:d.globals.length<=1000)(h2:p.params.length<=1000/\p.locals.length<=1000){l:List S}(hk:∀x∈l,RefS V d p x.ls/\RefS V d p x.xs):RefS V d p l:=by
 intro sl n dd hr hok hokS hn0 hn1
 refine x122 ?_
 unfold w122
 generalize hsc:qAf d p=sc
 refine loop4s (mk:=.int .i64) (mc:=.int .i64) (md:=.int .i64) 0 0 n qDt l.length (fun i at_ V1=>V=V1/\0<=at_/\at_+qEg (l.drop i)<=1000/\qBF d sc p.result n l=qBF d sc p.result at_ (l.drop i)) ⟨rfl,hn0,hn1,rfl⟩ ?_
 rintro i b c a V1 J hi ⟨rfl,ha0,ha1,he⟩ hJ
 refine⟨fun hlt=>?_,fun hge=>?_⟩
 ·obtain⟨x,hm,hx,hdr,hl,hpp,hz,hrow⟩:=hr.get hlt
  have hrow:=S.row_get hrow
  have hox:=hok x hm
  obtain⟨hsh,hk1,hk2⟩:=okS_shape (qKd hokS x hm)
  rw[hdr,qHP,szS_eq]at ha1
  rw[hdr,qFH,stT_eq]at he
  have cs:=c158 hd hp h1 h2 hox hsh
  rw[hsc,S.v_eq]at cs
  refine⟨hpp,hz,hlt,_,_,_,_,_,hrow,cs.call ⟨_,rfl,fun h0=>?_,fun h0=>?_⟩⟩
  ·have e1:¬(qEn d sc p.result x.op x.s x.es≠0):=fun h=>h h0
   rw[if_neg e1]at he
   have r1:=(hk x hm).1 x.ll (a+1) (dd+1) hox.lRows hox.lOk hk1 (by omega) (by omega)
   rw[hsc]at r1
   refine⟨hpp,hz,hlt,qAe hpp,_,_,_,_,_,hrow,⟨by omega,by omega⟩,r1.call ⟨_,_,rfl,fun h3=>?_,fun h3=>?_⟩⟩
   ·have e2:¬((qBF d sc p.result (a+1) x.ls).2≠0):=fun h=>h h3
    rw[if_neg e2]at he
    have hn:=qHQ d sc p.result (a+1) x.ls h3
    have r2:=(hk x hm).2 x.xl (qBF d sc p.result (a+1) x.ls).1 (dd+1) hox.xRows hox.xOk hk2 (by omega) (by omega)
    rw[hsc]at r2
    refine⟨hpp,hz,hlt,qAe hpp,_,_,_,_,_,hrow,r2.call ⟨_,_,rfl,fun h4=>?_,fun h4=>?_⟩⟩
    ·rw[if_neg (fun h=>h h4)]at he
     have hn2:=qHQ d sc p.result _ x.xs h4
     exact⟨hr.succ hlt,hJ hl _ _ _ _ ⟨rfl,by omega,by omega,he⟩⟩
    simp_all
   simp_all
  simp_all
 ·rw[(hr.done hge).1,stsT_nil]at he
  simp_all
theorem refStmts(hd:Ds.Ok V d){p:Pr}(hp:Pr.Ok V p)(h1:d.globals.length<=1000)(h2:p.params.length<=1000/\p.locals.length<=1000)(l:List S):RefS V d p l:=by
 have hS:∀s:S,RefS V d p s.ls/\RefS V d p s.xs:=by
  intro s
  induction s using S.ind with
  | h s i1 i2=>grind [refStep]
 grind [refStep]
theorem c154(hd:Ds.Ok V d){l:Sl}{xs:List Fld}(hl:qAd V l 2 (xs.map Fld.row)){i:Nat}{f:Fld}(hf:xs[i]?=some f):PP 154 [d.v,l.v,.int .i64 i] V (.int .i64 (qEh d xs i f)):=by
 refine x154 ?_
 unfold w154
 have hn:=hl.n_eq
 have hil:=(List.getElem?_eq_some_iff.1 hf).1
 have hlt:(i:Int)<(l.n:Int):=by omega
 obtain⟨f',hm,hx,hdr,-,hpp,hz,hrow⟩:=hl.get hlt
 rw[hf]at hx
 cases hx
 refine qAJ i (fun k V1=>V=V1/\∀j g,j<k->xs[j]?=some g->¬(g.name=f.name)) ⟨rfl,fun _ _ h=>absurd h (Nat.not_lt_zero _)⟩ ?_
 rintro k b V1 J hi ⟨rfl,ha⟩ hJ
 refine⟨fun hk=>?_,fun hk=>?_⟩
 ·obtain⟨g,hmg,hxg,hdg,hlg,hpg,hzg,hrowg⟩:=hl.get (i:=k) (by omega)
  refine⟨hpg,hzg,by omega,qAe hpg,_,_,hrowg,hpp,hz,hlt,qAe hpp,_,_,hrow,fun he=>?_,fun he=>⟨hl.succ (by omega),hJ (by omega) _ _ ⟨rfl,fun j y hj hy=>?_⟩⟩⟩
  ·have:(xs.take i).any (fun g=>decide (g.name=f.name))=true:=List.any_eq_true.2 ⟨g,by
    grind [List.mem_take_iff_getElem,List.getElem?_eq_some_iff],decide_eq_true he⟩
   unfold qEh
   rw[if_pos this];exact⟨rfl,rfl⟩
  grind
 ·have:¬(xs.take i).any (fun g=>decide (g.name=f.name))=true:=fun h=>by
   obtain⟨g,hg,he⟩:=List.any_eq_true.1 h
   rw[List.mem_take_iff_getElem]at hg
   grind
  unfold qEh
  rw[if_neg this]
  refine⟨hpp,hz,hlt,qAe hpp,_,_,hrow,(c155 hd).call ⟨_,rfl,fun h=>?_,fun h=>?_⟩⟩
  ·simp_all
  simp_all
theorem c153(hd:Ds.Ok V d){l:Sl}{xs:List Fld}(hl:qAd V l 2 (xs.map Fld.row)):PP 153 [d.v,l.v] V (.int .i64 (qCi d xs)):=by
 refine x153 ?_
 unfold w153 qCi
 generalize hf:(fun i f=>if qEh d xs i f≠0 then some (qEh d xs i f) else none)=fn
 refine qAJ xs.length (fun k V1=>V=V1/\qAh fn 0 xs=qAh fn k (xs.drop k)) ⟨rfl,rfl⟩ ?_
 rintro k b V1 J hi ⟨rfl,ha⟩ hJ
 refine⟨fun hk=>?_,fun hk=>?_⟩
 ·obtain⟨g,hmg,hxg,hdg,hlg,hpg,hzg,hrowg⟩:=hl.get hk
  rw[hdg]at ha
  refine(c154 hd hl hxg).call ⟨_,rfl,fun h=>?_,fun h=>?_⟩
  ·rw[qAk (by grind)]at ha
   exact⟨hl.succ hk,hJ hlg _ _ ⟨rfl,ha⟩⟩
  ·rw[qAg (b:=qEh d xs k g) (by grind)]at ha
   simp_all
 ·rw[(hl.done hk).1,qAh]at ha
  simp_all
theorem c159(hd:Ds.Ok V d){sl:Sl}{sc:Sc}(hsl:qAd V sl 2 (sc.vars.map Fld.row)){e:E}(he:E.Ok V e)(hok:okE 1 e=true){t:ByteArray}:PP 159 [d.v,scV sl sc,e.v,.string t] V (.int .i64 (qBq d sc e t)):=by
 refine x159 ?_
 unfold w159 qBq
 refine(qJU hd hsl e he 1 hok V (Mem.sub.refl _)).call ⟨_,_,rfl,fun h=>⟨fun h1=>?_,fun h1=>?_⟩,fun h=>?_⟩
 ·simp_all
 ·simp_all
 simp_all
end
theorem idx_lt{α:Type}{p:α->Bool}{xs:List α}{i:Nat}{x:α}(hx:xs[i]?=some x)(hp:p x=true):(qHC p xs<(i:Int)↔(xs.take i).any p=true)/\0<=qHC p xs:=by
 rcases qAP p xs with⟨h1,h2,h3⟩|⟨j,y,h1,h2,h3,h4,h5,h6,h7,h8⟩
 ·grind
 grind [List.any_eq_true,List.mem_take_iff_getElem,List.getElem?_eq_some_iff,Nat.lt_or_ge,List.any_eq_false]
section
variable{V:Mem}{d:Ds}
def f2(o:Option Flt):Value:=.tuple #[.string (fltR o).1,.int .i64 (fltR o).2.2]
theorem c119(hd:Ds.Ok V d):PP 119 [d.v] V (f2 (qFb d)):=by
 refine x119 ?_
 unfold w119 qFb
 have key:∀{X:Option Flt} (s:ByteArray) (n:Int),X=some (s,-1,n)->(Ending.returned (.tuple #[.string s,.int .i64 n])=Ending.returned (f2 X)/\V=V):=fun s n h=>by rw[h];exact⟨rfl,rfl⟩
 unfold types1
 generalize hf1:(fun i (t:Ty)=>if (d.types.take i).any (fun g=>decide (g.name=t.name))=true then some ((t.name,-1,10):Flt) else none)=F1
 refine qDQ d.types.length (fun k V1=>V=V1/\qAh F1 0 d.types=qAh F1 k (d.types.drop k)) ⟨rfl,rfl⟩ ?_
 rintro k b c V1 J hi ⟨rfl,ha⟩ hJ
 refine⟨fun hk=>?_,fun hk=>?_⟩
 ·obtain⟨g,hm,hx,hdr,hl,hp,hz,hrow⟩:=hd.types.get hk
  have hlt:=(idx_lt (p:=fun t:Ty=>decide (t.name=g.name)) hx (by simp)).1
  rw[hdr]at ha
  refine⟨hp,hz,hk,qAe hp,_,_,hrow,(c125 hd).call ⟨_,rfl,fun h=>⟨hp,hz,hk,qAe hp,_,_,hrow,key _ _ ?_⟩,fun h=>⟨hd.types.succ hk,hJ hl _ _ _ ⟨rfl,?_⟩⟩⟩⟩
  ·rw[ha,qAg (b:=(g.name,-1,10)) (by grind)];rfl
  ·rw[ha,qAk (by grind)]
 rw[(hd.types.done hk).1,qAh]at ha
 rw[ha,Option.none_or]
 unfold types2
 generalize hf2:(fun(_:Nat) (t:Ty)=>if qCi d t.fields≠0 then some ((t.name,-1,qCi d t.fields):Flt) else none)=F2
 refine qDQ d.types.length (fun k V1=>V=V1/\qAh F2 0 d.types=qAh F2 k (d.types.drop k)) ⟨rfl,rfl⟩ ?_
 rintro k b c V1 J hi ⟨rfl,ha⟩ hJ
 refine⟨fun hk=>?_,fun hk=>?_⟩
 ·obtain⟨g,hm,hx,hdr,hl,hp,hz,hrow⟩:=hd.types.get hk
  rw[hdr]at ha
  refine⟨hp,hz,hk,qAe hp,_,_,hrow,(c153 hd (hd.typesOk g hm).fields).call ⟨_,rfl,fun h=>⟨hd.types.succ hk,hJ hl _ _ _ ⟨rfl,?_⟩⟩,fun h=>⟨hp,hz,hk,qAe hp,_,_,hrow,key _ _ ?_⟩⟩⟩
  ·rw[ha,qAk (by grind)]
  ·rw[ha,qAg (b:=(g.name,-1,qCi d g.fields)) (by grind)];rfl
 rw[(hd.types.done hk).1,qAh]at ha
 rw[ha,Option.none_or]
 unfold types3
 generalize hf3:(fun i (f:Fld)=>if qEh d d.globals i f≠0 then some ((f.name,-1,qEh d d.globals i f):Flt) else none)=F3
 refine qDQ d.globals.length (fun k V1=>V=V1/\qAh F3 0 d.globals=qAh F3 k (d.globals.drop k)) ⟨rfl,rfl⟩ ?_
 rintro k b c V1 J hi ⟨rfl,ha⟩ hJ
 refine⟨fun hk=>?_,fun hk=>?_⟩
 ·obtain⟨g,hm,hx,hdr,hl,hp,hz,hrow⟩:=hd.globals.get hk
  rw[hdr]at ha
  refine(c154 hd hd.globals hx).call ⟨_,rfl,fun h=>⟨hd.globals.succ hk,hJ hl _ _ _ ⟨rfl,?_⟩⟩,fun h=>⟨hp,hz,hk,qAe hp,_,_,hrow,key _ _ ?_⟩⟩
  ·rw[ha,qAk (by grind)]
  ·rw[ha,qAg (b:=(g.name,-1,qEh d d.globals k g)) (by grind)]
 rw[(hd.globals.done hk).1,qAh]at ha
 rw[ha]
 exact⟨rfl,rfl⟩
theorem c120(hd:Ds.Ok V d)(hsm:Small d):PP 120 [d.v] V (f2 (qEe d)):=by
 refine Pur.mk (x120 ?_)
 unfold w120 qEe
 generalize hf1:(fun i (p:Pr)=>if (d.procs.take i).any (fun g=>decide (g.name=p.name))=true then some ((p.name,-1,10):Flt) else if qCi d (p.params++p.locals)≠0 then some (p.name,-1,qCi d (p.params++p.locals)) else if p.result≠sE/\qBf d p.result=false then some (p.name,-1,9) else none)=F1
 refine qDQ d.procs.length (fun k V1=>V.sub V1/\qAh F1 0 d.procs=qAh F1 k (d.procs.drop k)) ⟨Mem.sub.refl _,rfl⟩ ?_
 rintro k b c V1 J hi ⟨hV,ha⟩ hJ
 have hd1:=hd.sub hV
 have key:∀{X:Option Flt} (V2:Mem) (s:ByteArray) (n:Int),V.sub V2->X=some (s,-1,n)->(Ending.returned (.tuple #[.string s,.int .i64 n])=Ending.returned (f2 X)/\V.sub V2):=fun V2 s n h2 h=>by rw[h];exact⟨rfl,h2⟩
 refine⟨fun hk=>?_,fun hk=>?_⟩
 ·obtain⟨g,hm,hx,hdr,hl,hp,hz,hrow⟩:=hd1.procs.get hk
  have hlt:=(idx_lt (p:=fun t:Pr=>decide (t.name=g.name)) hx (by simp)).1
  have hg:=hd1.procsOk g hm
  have hs:=hsm.2 g hm
  rw[hdr]at ha
  refine⟨hp,hz,hk,_,_,_,_,_,hrow,(c92 hd1).call ⟨_,rfl,fun h=>key _ _ _ hV ?_,fun h=>?_⟩⟩
  ·rw[ha,qAg (b:=(g.name,-1,10)) (by grind)]
  intro b1 hb1
  have hs1:=Mem.sub_new hb1 (.cells #[] 113 (0,0))
  refine qFz (s:=⟨some ⟨b1,0,none⟩,0,0⟩) (u:=g.ps) (xs:=[]) (ys:=g.params) rfl rfl (Own.empty hs1 _ _ _) (hg.params.sub hs1) (by simp;omega) fun s1 W1 o1=>⟨s1,rfl,?_⟩
  refine qFz (s:=s1) (u:=g.ls) (xs:=g.params) (ys:=g.locals) rfl rfl o1 (hg.locals.sub o1.sub) (by omega) fun s2 W2 o2=>⟨s2,rfl,?_⟩
  have hd2:=hd1.sub o2.sub
  have hV2:=hV.trans o2.sub
  have n1:¬(d.procs.take k).any (fun t=>decide (t.name=g.name))=true:=fun e=>h (hlt.2 e)
  refine(c153 hd2 (ownF o2)).call ⟨_,rfl,fun h2=>?_,fun h2=>key _ _ _ hV2 ?_⟩
  ·have n2:¬(qCi d (g.params++g.locals)≠0):=fun e=>e h2
   refine⟨fun h3=>⟨hd1.procs.succ hk,hJ hl _ _ _ ⟨hV2,?_⟩⟩,fun h3=>(c155 hd2).call ⟨_,rfl,fun h4=>⟨hd1.procs.succ hk,hJ hl _ _ _ ⟨hV2,?_⟩⟩,fun h4=>key _ _ _ hV2 ?_⟩⟩
   ·rw[ha,qAk (by rw[<- hf1];exact(if_neg n1).trans ((if_neg n2).trans (if_neg fun e=>e.1 h3)))]
   ·rw[ha,qAk (by grind)]
   ·rw[ha,qAg (b:=(g.name,-1,9)) (by rw[<- hf1];exact(if_neg n1).trans ((if_neg n2).trans (if_pos ⟨h3,eq_false_of_ne_true h4⟩)))]
  ·rw[ha,qAg (b:=(g.name,-1,qCi d (g.params++g.locals))) (by grind)]
 ·rw[(hd1.procs.done hk).1,qAh]at ha
  rw[ha]
  exact⟨rfl,hV⟩
end
theorem qGi{α:Type}{p:α->Bool}{xs:List α}{i k:Nat}{g:α}(hx:xs[k]?=some g)(hk:k<i)(hp:p g=true):(xs.take i).any p=true :=
 List.any_eq_true.2 ⟨g,by grind [List.mem_take_iff_getElem,List.getElem?_eq_some_iff],hp⟩
theorem qGj{α:Type}{p:α->Bool}{xs:List α}{i:Nat}(h:∀j g,j<i->xs[j]?=some g->¬p g=true):¬(xs.take i).any p=true:=fun hh=>by
 obtain⟨g,hg,he⟩:=List.any_eq_true.1 hh
 rw[List.mem_take_iff_getElem]at hg
 obtain⟨j,hj,e⟩:=hg
 exact h j g (by omega) (by grind) he
section
variable{V:Mem}{d:Ds}
theorem c121(hd:Ds.Ok V d):PP 121 [d.v] V (f2 (qEj d)):=by
 refine x121 ?_
 unfold w121 qEj
 have key:∀{X:Option Flt} (s:ByteArray) (n:Int),X=some (s,-1,n)->(Ending.returned (.tuple #[.string s,.int .i64 n])=Ending.returned (f2 X)/\V=V):=fun s n h=>by rw[h];exact⟨rfl,rfl⟩
 unfold form1
 generalize hf1:(fun i (m:Ms)=>if (d.measures.take i).any (fun g=>decide (g.name=m.name))=true then some ((m.name,-1,10):Flt) else if qAW d m.ty=false then some (m.name,-1,9) else none)=F1
 refine qDQ d.measures.length (fun k V1=>V=V1/\qAh F1 0 d.measures=qAh F1 k (d.measures.drop k)) ⟨rfl,rfl⟩ ?_
 rintro k b c V1 J hi ⟨rfl,ha⟩ hJ
 refine⟨fun hk=>?_,fun hk=>?_⟩
 ·obtain⟨g,hm,hx,hdr,hl,hp,hz,hrow⟩:=hd.measures.get hk
  have hlt:=(idx_lt (p:=fun t:Ms=>decide (t.name=g.name)) hx (by simp)).1
  rw[hdr]at ha
  have hq:=qAe (n:=k*7) hp
  refine⟨hp,hz,hk,hq,_,_,_,_,_,_,_,hrow,(c156 hd).call ⟨_,rfl,fun h=>⟨hp,hz,hk,hq,_,_,_,_,_,_,_,hrow,key _ _ ?_⟩,fun h=>⟨hp,hz,hk,hq,_,_,_,_,_,_,_,hrow,(c157 hd).call ⟨_,rfl,fun h2=>⟨hd.measures.succ hk,hJ hl _ _ _ ⟨rfl,?_⟩⟩,fun h2=>⟨hp,hz,hk,hq,_,_,_,_,_,_,_,hrow,key _ _ ?_⟩⟩⟩⟩⟩
  ·rw[ha,qAg (b:=(g.name,-1,10)) (by grind)];rfl
  ·rw[ha,qAk (by grind)]
  ·rw[ha,qAg (b:=(g.name,-1,9)) (by grind)];rfl
 rw[(hd.measures.done hk).1,qAh]at ha
 rw[ha,Option.none_or]
 unfold form2
 generalize hf2:(fun i (m:Iv)=>if (d.invs.take i).any (fun g=>decide (g.name=m.name))=true then some ((m.name,-1,10):Flt) else if m.ty≠sE/\qAW d m.ty=false then some (m.name,-1,9) else none)=F2
 refine qDQ d.invs.length (fun k V1=>V=V1/\qAh F2 0 d.invs=qAh F2 k (d.invs.drop k)) ⟨rfl,rfl⟩ ?_
 rintro k b c V1 J hi ⟨rfl,ha⟩ hJ
 refine⟨fun hk=>?_,fun hk=>?_⟩
 ·obtain⟨g,hm,hx,hdr,hl,hp,hz,hrow⟩:=hd.invs.get hk
  rw[hdr]at ha
  have hq:=qAe (n:=k*6) hp
  refine qDQ k (fun j V1=>V=V1/\∀j' g',j'<j->d.invs[j']?=some g'->¬decide (g'.name=g.name)=true) ⟨rfl,fun _ _ h=>absurd h (Nat.not_lt_zero _)⟩ ?_
  rintro j b c V1 J1 hi ⟨rfl,hb⟩ hJ1
  refine⟨fun hj=>?_,fun hj=>?_⟩
  ·obtain⟨g',hm',hx',hdr',hl',hp',hz',hrow'⟩:=hd.invs.get (i:=j) (by omega)
   refine⟨hp',hz',by omega,qAe hp',_,_,_,_,_,_,hrow',hp,hz,hk,hq,_,_,_,_,_,_,hrow,fun he=>⟨hp,hz,hk,hq,_,_,_,_,_,_,hrow,key _ _ ?_⟩,fun he=>⟨hd.invs.succ (by omega),hJ1 (by omega) _ _ _ ⟨rfl,fun j' y hj' hy=>?_⟩⟩⟩
   ·rw[ha,qAg (b:=(g.name,-1,10)) (by rw[<- hf2];exact if_pos (qGi hx' (by omega) (decide_eq_true he)))];rfl
   grind
  ·have n1:=qGj (i:=k) (fun j' g' h'=>hb j' g' (by omega))
   refine⟨hp,hz,hk,hq,_,_,_,_,_,_,hrow,fun h3=>⟨hd.invs.succ hk,hJ hl _ _ _ ⟨rfl,?_⟩⟩,fun h3=>⟨hp,hz,hk,hq,_,_,_,_,_,_,hrow,(c157 hd).call ⟨_,rfl,fun h2=>⟨hd.invs.succ hk,hJ hl _ _ _ ⟨rfl,?_⟩⟩,fun h2=>⟨hp,hz,hk,hq,_,_,_,_,_,_,hrow,key _ _ ?_⟩⟩⟩⟩
   ·rw[ha,qAk (by rw[<- hf2];exact(if_neg n1).trans (if_neg fun e=>e.1 h3))]
   ·rw[ha,qAk (by grind)]
   ·rw[ha,qAg (b:=(g.name,-1,9)) (by rw[<- hf2];exact(if_neg n1).trans (if_pos ⟨h3,eq_false_of_ne_true h2⟩))];rfl
 rw[(hd.invs.done hk).1,qAh]at ha
 rw[ha,Option.none_or]
 unfold form3
 generalize hf3:(fun(_:Nat) (m:Po)=>if m.ty≠sE/\qAW d m.ty=false then some ((sPot,-1,9):Flt) else none)=F3
 refine qDQ d.pots.length (fun k V1=>V=V1/\qAh F3 0 d.pots=qAh F3 k (d.pots.drop k)) ⟨rfl,rfl⟩ ?_
 rintro k b c V1 J hi ⟨rfl,ha⟩ hJ
 refine⟨fun hk=>?_,fun hk=>?_⟩
 ·obtain⟨g,hm,hx,hdr,hl,hp,hz,hrow⟩:=hd.pots.get hk
  rw[hdr]at ha
  have hq:=qAe (n:=k*5) hp
  refine⟨hp,hz,hk,hq,_,_,_,_,_,hrow,fun h3=>⟨hd.pots.succ hk,hJ hl _ _ _ ⟨rfl,?_⟩⟩,fun h3=>⟨hp,hz,hk,hq,_,_,_,_,_,hrow,(c157 hd).call ⟨_,rfl,fun h2=>⟨hd.pots.succ hk,hJ hl _ _ _ ⟨rfl,?_⟩⟩,fun h2=>key _ _ ?_⟩⟩⟩
  ·rw[ha,qAk (by rw[<- hf3];exact if_neg fun e=>e.1 h3)]
  ·rw[ha,qAk (by grind)]
  ·rw[ha,qAg (b:=(sPot,-1,9)) (by rw[<- hf3];exact if_pos ⟨h3,eq_false_of_ne_true h2⟩)];rfl
 rw[(hd.pots.done hk).1,qAh]at ha
 rw[ha,Option.none_or]
 unfold form4
 generalize hf4:(fun i (b:Bd)=>if (qEW d b.proc).isNone=true then some ((b.proc,-1,9):Flt) else if (d.bounds.take i).any (fun g=>decide (g.proc=b.proc))=true then some (b.proc,-1,10) else none)=F4
 refine qDQ d.bounds.length (fun k V1=>V=V1/\qAh F4 0 d.bounds=qAh F4 k (d.bounds.drop k)) ⟨rfl,rfl⟩ ?_
 rintro k b c V1 J hi ⟨rfl,ha⟩ hJ
 refine⟨fun hk=>?_,fun hk=>?_⟩
 ·obtain⟨g,hm,hx,hdr,hl,hp,hz,hrow⟩:=hd.bounds.get hk
  rw[hdr]at ha
  have hq:=qAe (n:=k*5) hp
  refine⟨hp,hz,hk,hq,_,_,_,_,_,hrow,(c92 hd).call ⟨_,rfl,?_⟩⟩
  rcases qAP (fun t:Pr=>decide (t.name=g.proc)) d.procs with⟨i1,i2,i3⟩|⟨i,x,i1,i2,i3,i4,i5,i6,i7,_⟩
  ·rw[i1]
   refine⟨fun _=>⟨hp,hz,hk,hq,_,_,_,_,_,hrow,key _ _ ?_⟩,fun h=>absurd h (by decide)⟩
   rw[ha,qAg (b:=(g.proc,-1,9)) (by grind [qEW])]
  ·rw[i1]
   have n0:¬(qEW d g.proc).isNone=true:=by grind [qEW]
   refine⟨fun h=>absurd h (by omega),fun _=>?_⟩
   refine qDQ k (fun j V1=>V=V1/\∀j' g',j'<j->d.bounds[j']?=some g'->¬decide (g'.proc=g.proc)=true) ⟨rfl,fun _ _ h=>absurd h (Nat.not_lt_zero _)⟩ ?_
   rintro j b c V1 J1 hi ⟨rfl,hb⟩ hJ1
   refine⟨fun hj=>?_,fun hj=>?_⟩
   ·obtain⟨g',hm',hx',hdr',hl',hp',hz',hrow'⟩:=hd.bounds.get (i:=j) (by omega)
    refine⟨hp',hz',by omega,qAe hp',_,_,_,_,_,hrow',hp,hz,hk,hq,_,_,_,_,_,hrow,fun he=>⟨hp,hz,hk,hq,_,_,_,_,_,hrow,key _ _ ?_⟩,fun he=>⟨hd.bounds.succ (by omega),hJ1 (by omega) _ _ _ ⟨rfl,fun j' y hj' hy=>?_⟩⟩⟩
    ·rw[ha,qAg (b:=(g.proc,-1,10)) (by rw[<- hf4];exact(if_neg n0).trans (if_pos (qGi hx' (by omega) (decide_eq_true he))))]
    grind
   ·have n1:=qGj (i:=k) (fun j' g' h'=>hb j' g' (by omega))
    exact⟨hd.bounds.succ hk,hJ hl _ _ _ ⟨rfl,by rw[ha,qAk (by grind)]⟩⟩
 rw[(hd.bounds.done hk).1,qAh]at ha
 rw[ha]
 exact⟨rfl,rfl⟩
end
end Go.Proofs
