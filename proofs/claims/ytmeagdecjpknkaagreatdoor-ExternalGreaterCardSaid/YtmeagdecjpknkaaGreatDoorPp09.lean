/- Part 9 of a proof of a law of this seat: no statement of the seat is proved here. -/
import Derived.Test.YtmeagdecjpknkaaGreatDoorPp08
set_option linter.unusedVariables false
set_option linter.unusedSimpArgs false
namespace Go.Proofs
open Go Go.Sx
attribute [local irreducible] Go.Sx.Tri
theorem S.v_eq(s:S):s.v=.agg #[.int .i64 s.op,.string s.s,.slice s.el.p s.el.n s.el.c,.slice s.ll.p s.ll.n s.ll.c,.slice s.xl.p s.xl.n s.xl.c]:=by unfold S.v;rw[S.row_eq];rfl
theorem S.row_get{V:Mem}{p:Option Addr}{i:Nat}{x:S}(h:V.rowp p i 5=some x.row):V.rowp p i 5=some [.int .i64 x.op,.string x.s,.slice x.el.p x.el.n x.el.c,.slice x.ll.p x.ll.n x.ll.c,.slice x.xl.p x.xl.n x.xl.c]:=by
 rw[h,S.row_eq];rfl
theorem qAh{p:Option Addr}{n:Nat}(h:¬(p=none)):¬(qAa p n=none):=by
 cases p with
 | none=>grind
 | some a=>intro e;cases e
set_option maxRecDepth 4000 in
theorem c251{V:Mem}[Tab V]{s:S}(h:S.Ok V s):PP 251 [s.v] V (.bool (qGO s.op s.s s.es s.ls.length s.xs.length)):=by
 have hf:=first_row h
 have hnl:=h.lRows.n_eq
 have hnx:=h.xRows.n_eq
 have hne:=h.eRows.n_eq
 rw[S.v_eq]
 refine x251 ?_
 unfold w251
 rw[<- hnl,<- hnx]
 generalize hX:qGO s.op s.s s.es s.ll.n s.xl.n=X
 have key:∀b:Bool,X=b->Ending.returned (.bool b)=Ending.returned (.bool X):=fun n h=>by rw[h]
 unfold qGO at hX
 rw[<- hne]at hX
 have hn0:(0:Int)<=(s.el.n:Int):=by omega
 have hn1:(0:Int)<=(s.ll.n:Int):=by omega
 have hn2:(0:Int)<=(s.xl.n:Int):=by omega
 generalize hne':(s.el.n:Int)=ne at hX hn0
 generalize (s.ll.n:Int)=nl at hX hn1
 generalize (s.xl.n:Int)=nx at hX hn2
 rcases hf with⟨he,hn⟩|⟨e0,r,he,hn,hp,hp2,hrow⟩
 ·have:ne=0:=by omega
  subst this
  clear hnl hnx hne hn
  repeat' (first|refine c165.call ⟨_,rfl,?_⟩|apply And.intro|intro _)
  all_goals first|rfl | (refine key _ ?_;clear key h he;grind) | (exfalso;clear key h he;grind)
 ·have hfo:fop s.es=e0.op:=by rw[he];rfl
  rw[hfo]at hX
  have hn':0<ne:=by omega
  clear hnl hnx hne hn
  repeat' (first|refine c165.call ⟨_,rfl,?_⟩|refine⟨_,_,_,_,hrow,?_⟩|exact hp|exact hp2|exact hn'|apply And.intro|intro _)
  all_goals first|rfl | (refine key _ ?_;clear key h he hrow hp hp2;grind) | (exfalso;clear key h he hrow hp hp2;grind) | omega
theorem c253{V:Mem}[Tab V]{e:E}(h:E.Ok V e):PP 253 [e.v] V (.bool (!qAM e)):=by
 refine x253 ?_
 unfold w253
 exact(c204 h).call ⟨_,rfl,rfl,rfl⟩
theorem vSl_bound{left d:Int}{l:List S}(h0:0<=left)(h:(vSl left d l).1=true):0<=(vSl left d l).2/\(vSl left d l).2<=left:=by
 unfold vSl gd at h ⊢
 split at h
 ·cases h
 ·rename_i hn
  rw[if_neg hn]
  grind [vSs_ok]
theorem vSl_eq{left d:Int}{l:List S}(h:¬(60<d/\l≠[])):vSl left d l=vSs left d l:=by grind [vSl,gd]
section
variable{V0:Mem}{b t:Nat}
def StP(V0:Mem)(b t:Nat)(l:List S):Prop:=∀(sl:Sl) (d left:Int) (V:Mem),qAc V0 sl 5 (l.map S.row)->(∀x∈l,S.Ok V0 x)->V0.sub V->V b=some (cell (.int .i64 left) t)->0<=left->left<=200->0<=d->d<=61 ->
 Tri Tryz.prog 208 #[sl.v,.int .i64 d,pv b] V fun r V'=>r=.returned (.bool (vSl left d l).1)/\V'=V.set b (cell (.int .i64 (vSl left d l).2) t)
theorem stP_step[hT:Tab V0](hb:V0 b=none){l:List S}(hk:∀x∈l,StP V0 b t x.ls/\StP V0 b t x.xs):StP V0 b t l:=by
 intro sl d left V hr hok hV hcell hl0 hl1 hd0 hd
 have hn:=hr.n_eq
 refine x208 ?_
 unfold w208
 have hM:∀lf,V0.sub (V.set b (cell (.int .i64 lf) t)):=fun lf=>hV.set hb _
 refine⟨fun h0=>⟨fun h60=>?_,fun h60=>?_⟩,fun h0=>?_⟩
 ·have:vSl left d l=(false,left):=by
   grind [vSl,gd]
  rw[this]
  exact⟨rfl,(Mem.set_eq hcell).symm⟩
 all_goals
  have hnd:¬(60<d/\l≠[]):=by
   first
   | exact fun h=>h60 h.1
   | simp_all
  rw[vSl_eq hnd]
  refine qBp l.length (fun i V1=>∃lf,V1=V.set b (cell (.int .i64 lf) t)/\0<=lf/\lf<=200/\vSs left d l=vSs lf d (l.drop i)) ⟨left,(Mem.set_eq hcell).symm,hl0,hl1,rfl⟩ ?_
  rintro i c _ J hi ⟨lf,rfl,hf0,hf1,he⟩ hJ
  refine⟨fun hlt=>?_,fun hge=>?_⟩
  ·obtain⟨x,hm,hx,hdr,hl,hp,hz,hrow⟩:=(hr.sub (hM lf)).get hlt
   have hrow:=S.row_get hrow
   have hox:=hok x hm
   rw[hdr,vSs_cons]at he
   have hv:=vS_eq lf d x
   have cs:=fun V (h0:V0.sub V) (h:S.Ok V x)=>(haveI:Tab V:=Tab.sub hT h0;c251 h)
   rw[S.v_eq]at cs
   have no:∀n,vS lf d x=(false,n)->(Ending.returned (.bool false)=Ending.returned (.bool (vSs left d l).1)/\V.set b (cell (.int .i64 n) t)=V.set b (cell (.int .i64 (vSs left d l).2) t)):=fun n h=>by
    rw[h]at he
    rw[he];exact⟨rfl,rfl⟩
   refine⟨hp,hz,hlt,_,_,_,_,_,hrow,Tri.mono (c250 mss (by omega) (by omega)) ?_⟩
   rintro _ _ ⟨rfl,rfl⟩
   rw[Mem.set_set]
   refine⟨_,rfl,fun h8=>(cs _ (hM _) (hox.sub (hM _))).call ⟨_,rfl,fun hs=>?_,fun hs=>?_⟩,fun h8=>?_⟩
   ·have h8:0<=lf-1:=of_decide_eq_true h8
    refine(c252 (first:=[]) (caps:=[]) (l:=x.el) (hox.eRows.sub (hM _)) Tryz.call253 (fun e=>!qAM e) (fun e hm=>haveI:Tab (V.set b (cell (.int .i64 (lf-1)) t)):=Tab.sub hT (hM (lf-1));c253 ((hox.eOk e hm).sub (hM _)))).call ⟨_,rfl,fun ha=>?_,fun ha=>?_⟩
    ·have hal:x.es.all qAM=false:=by
      rw[List.any_eq_not_all_not]at ha
      simpa using ha
     rw[if_neg (fun h=>by have:=h.2;unfold qCb at this;rw[hal,Bool.and_false]at this;cases this)]at hv
     exact no _ hv
    ·have hal:x.es.all qAM=true:=by
      rw[List.any_eq_not_all_not]at ha
      simpa using ha
     have hsr:qCb x.op x.s x.es x.ls.length x.xs.length=true:=by unfold qCb;rw[hs,hal];rfl
     rw[if_pos ⟨h8,hsr⟩]at hv
     refine⟨⟨by omega,by omega⟩,Tri.mono ((hk x hm).1 x.ll (d+1) (lf-1) _ hox.lRows hox.lOk (hM _) mss h8 (by omega) (by omega) (by omega)) ?_⟩
     rintro _ _ ⟨rfl,rfl⟩
     rw[Mem.set_set]
     refine⟨_,rfl,fun h1=>⟨⟨by omega,by omega⟩,?_⟩,fun h1=>?_⟩
     ·rw[if_pos h1]at hv
      have b1:=vSl_bound h8 h1
      refine Tri.mono ((hk x hm).2 x.xl (d+1) _ _ hox.xRows hox.xOk (hM _) mss b1.1 (by omega) (by omega) (by omega)) ?_
      rintro _ _ ⟨rfl,rfl⟩
      rw[Mem.set_set]
      refine⟨_,rfl,fun h2=>?_,fun h2=>?_⟩
      ·have b2:=vSl_bound b1.1 h2
       rw[hv,if_pos h2]at he
       exact⟨(hr.sub (hM lf)).succ hlt,hJ hl _ _ ⟨_,rfl,b2.1,by omega,he⟩⟩
      ·rw[<- hv]at h2 ⊢
       exact no _ (Prod.ext (eq_false_of_ne_true h2) rfl)
     ·rw[if_neg h1]at hv
      exact no _ hv
   ·rw[if_neg (fun h=>by have:=h.2;unfold qCb at this;rw[eq_false_of_ne_true hs,Bool.false_and]at this;cases this)]at hv
    exact no _ hv
   ·rw[if_neg (fun h=>h8 (decide_eq_true h.1))]at hv
    exact no _ hv
  ·rw[((hr.sub (hM lf)).done hge).1,vSs_nil]at he
   rw[he];exact⟨rfl,rfl⟩
theorem stP_S[hT:Tab V0](hb:V0 b=none):∀s:S,StP V0 b t s.ls/\StP V0 b t s.xs:=by
 intro s
 induction s using S.ind with
 | h s i1 i2=>grind [stP_step]
theorem c208[hT:Tab V0](hb:V0 b=none)(l:List S):StP V0 b t l:=stP_step hb fun x _=>stP_S hb x
end
def qCV{α:Type}(p:α->Bool)(xs:List α)(i:Nat):Prop:=∀j x,j<i->xs[j]?=some x->p x=true
theorem qCV.zero{α:Type}(p:α->Bool)(xs:List α):qCV p xs 0:=fun _ _ h=>absurd h (Nat.not_lt_zero _)
theorem qCV.succ{α:Type}{p:α->Bool}{xs:List α}{i:Nat}{x:α}(h:qCV p xs i)(hx:xs[i]?=some x)(hp:p x=true):qCV p xs (i+1):=fun j y hj hy=>by
 rcases Nat.lt_succ_iff_lt_or_eq.1 hj with h'|rfl
 ·exact h j y h' hy
 simp_all
theorem qCV.all{α:Type}{p:α->Bool}{xs:List α}{i:Nat}(h:qCV p xs i)(hi:xs.length<=i):xs.all p=true :=
 List.all_eq_true.2 fun x hx=>by
  obtain⟨j,hj,rfl⟩:=List.mem_iff_getElem.1 hx
  exact h j _ (by omega) (List.getElem?_eq_getElem hj)
theorem all_false{α:Type}{p:α->Bool}{xs:List α}{x:α}(h:x∈xs)(hp:¬p x=true):xs.all p=false:=by
 grind
def qBd:ByteArray:=qAr [105,110,116]
def qAw:ByteArray:=qAr [98,111,111,108]
def typB(s:ByteArray):Bool:=decide (s=qBd)||decide (s=qAw)||qAV s
def openB(s:ByteArray):Bool:=decide (s=qAr [])||qAV s
def fldB(f:Fld):Bool:=qAV f.name&&typB f.ty
def qEv(l:List Fld)(most:Int):Bool:=decide ((l.length:Int)<=most)&&l.all fldB
def tyB(t:Ty):Bool:=qAV t.name&&qEv t.fields 12
def prB(p:Pr):Bool:=qAV p.name&&qEv p.params 6&&qEv p.locals 12&&(decide (p.result=qAr [])||typB p.result)&&qGj p.body
def msB(m:Ms):Bool:=qAV m.name&&qAV m.ty&&decide (-1099511627776<=m.nil/\m.nil<=1099511627776)&&qAM m.x
def ivB(m:Iv):Bool:=qAV m.name&&openB m.ty&&qAM m.x
def poB(m:Po):Bool:=openB m.ty&&qAM m.x
def bdB(m:Bd):Bool:=qAV m.proc&&qAM m.x
def formB(d:Ds):Bool:=d.measures.all msB&&d.invs.all ivB&&d.pots.all poB&&d.bounds.all bdB
def lensB(d:Ds):Bool:=decide ((d.measures.length:Int)<=12/\(d.invs.length:Int)<=12/\(d.pots.length:Int)<=12/\(d.bounds.length:Int)<=12)
def qAF(d:Ds):Bool:=qAV d.name&&decide ((d.types.length:Int)<=12)&&qEv d.globals 8&&decide ((d.procs.length:Int)<=40)&&lensB d&&d.types.all tyB&&d.procs.all prB&&formB d
theorem c203{V:Mem}[Tab V]{s:ByteArray}:PP 203 [.string s] V (.bool (typB s)):=by
 refine x203 ?_
 unfold w203
 refine⟨fun h=>?_,fun h=>⟨fun h1=>?_,fun h1=>c165.call ⟨_,rfl,?_⟩⟩⟩ <;> simp[typB,qBd,qAw, *]
theorem c205{V:Mem}[Tab V]{s:ByteArray}:PP 205 [.string s] V (.bool (openB s)):=by
 refine x205 ?_
 unfold w205
 refine⟨fun h=>?_,fun h=>c165.call ⟨_,rfl,?_⟩⟩ <;> simp[openB, *]
theorem c202{V:Mem}[Tab V]{f:Fld}:PP 202 [f.v] V (.bool (!fldB f)):=by
 refine x202 ?_
 unfold w202
 refine c165.call ⟨_,rfl,fun h=>c203.call ⟨_,rfl,?_⟩,fun h=>?_⟩ <;> simp[fldB, *]
theorem c166{V:Mem}[Tab V]{l:Sl}{xs:List Fld}{n:Int}(hr:qAc V l 2 (xs.map Fld.row)):PP 166 [l.v,.int .i64 n] V (.bool (qEv xs n)):=by
 refine x166 ?_
 unfold w166
 have hn:=hr.n_eq
 refine⟨fun h=>(c122 (first:=[]) (caps:=[]) hr Tryz.call202 (fun f=>!fldB f) fun f _=>c202).call ⟨_,rfl,?_⟩,fun h=>?_⟩
 ·grind [qEv]
 grind [qEv]
theorem c171{V:Mem}[Tab V]{p:Pr}(h:Pr.Ok V p):PP 171 [p.v] V (.bool (prB p)):=by
  refine Pur.mk (x171 ?_)
  unfold w171
  have cs:(qGj p.body=prB p)->qAp [(.int .i64 200)] 290 V fun v9 V5 =>
       Tri Tryz.prog 208 #[(.slice p.bs.p p.bs.n p.bs.c),(.int .i64 1),(.pointer (qAa v9 0))] V5 fun e V6=>∃v10:Bool,e=.returned (.bool v10)/\(Ending.returned (.bool v10)=Ending.returned (.bool (prB p))/\V.sub V6):=fun e b hb=>by
    refine Tri.mono (c208 hb p.body p.bs 1 200 _ h.body h.stmts (Mem.sub_new hb _) mss (by omega) (by omega) (by omega) (by omega)) ?_
    rintro _ _ ⟨rfl,rfl⟩
    rw[validSs_v,Mem.set_set,e]
    exact⟨_,rfl,rfl,Mem.sub_new hb _⟩
  refine c165.call ⟨_,rfl,fun h1=>(c166 h.params).call ⟨_,rfl,fun h2=>(c166 h.locals).call ⟨_,rfl,fun h3=>⟨fun h4=>cs ?_,fun h4=>c203.call ⟨_,rfl,fun h5=>cs ?_,fun h5=>⟨?_,Mem.sub.refl _⟩⟩⟩,fun h3=>⟨?_,Mem.sub.refl _⟩⟩,fun h2=>⟨?_,Mem.sub.refl _⟩⟩,fun h1=>⟨?_,Mem.sub.refl _⟩⟩
  all_goals simp[prB, *]
theorem c207{V:Mem}[Tab V]{b:Bd}(h:E.Ok V b.x):PP 207 [b.v] V (.bool (!bdB b)):=by
 refine x207 ?_
 unfold w207
 refine c165.call ⟨_,rfl,fun h1=>(c204 h).call ⟨_,rfl,?_⟩,fun h1=>?_⟩ <;> simp[bdB, *]
theorem c168{V:Mem}[Tab V]{t:Ty}(h:Ty.Ok V t):PP 168 [t.v] V (.bool (!tyB t)):=by
 refine x168 ?_
 unfold w168
 refine c165.call ⟨_,rfl,fun h1=>(c166 h.fields).call ⟨_,rfl,?_⟩,fun h1=>?_⟩ <;> simp[tyB, *]
theorem c170{V:Mem}[Tab V]{t:Pr}(h:Pr.Ok V t):PP 170 [t.v] V (.bool (!prB t)):=by
 refine x170 ?_
 unfold w170
 exact(c171 h).call ⟨_,rfl,rfl,rfl⟩
theorem GenK.max4{P:Program}{V:Mem}{a b c d:Operand}{ty:Nat}{ts:Array TypeId}{vals:Operand->Value}{n1 n2 n3 n4:Int}(h1:vals a=.int .i64 n1)(h2:vals b=.int .i64 n2)(h3:vals c=.int .i64 n3)(h4:vals d=.int .i64 n4){q:Value->Mem->Prop}
  (hq:∀m:Int,n1<=m->n2<=m->n3<=m->n4<=m->(m=n1∨m=n2∨m=n3∨m=n4)->q (.int .i64 m) V):GenK P (.call { callee:=.builtin .max,args:=#[a,b,c,d],argTypes:=ts }) ty vals V q:=by
 intro w hw
 refine⟨_,w,V,?_,Frm.refl hw,hq (max (max (max n1 n2) n3) n4) (by omega) (by omega) (by omega) (by omega) (by omega)⟩
 unfold execOp
 have e:∀x y:Int,(if y > x then y else x)=max x y:=fun x y=>by split <;> omega
 simp only[resolve,invoke,builtin,Sem.run_bind,Sem.run_pure,Result.andThen_ok,List.map_toArray,List.map_cons,List.map_nil,h1,h2,h3,h4]
 simp[Builtin.max_,Builtin.max2,e]
theorem c167{V:Mem}[Tab V]{d:Ds}(h:Ds.Ok V d):PP 167 [d.v] V (.bool (lensB d&&formB d)):=by
 refine x167 ?_
 unfold w167
 have n1:=h.measures.n_eq
 have n2:=h.invs.n_eq
 have n3:=h.pots.n_eq
 have n4:=h.bounds.n_eq
 generalize hX:(lensB d&&formB d)=X
 have key:∀b:Bool,X=b->(Ending.returned (.bool b)=Ending.returned (.bool X)/\V=V):=fun n h=>by simp_all
 unfold formB lensB at hX
 refine GenK.max4 (n1:=d.ms.n) (n2:=d.is.n) (n3:=d.qs.n) (n4:=d.bs.n) rfl rfl rfl rfl fun mx l1 l2 l3 l4 le=>⟨_,rfl,fun hb=>key _ ?_,fun hb=>?_⟩
 ·rw[<- hX,decide_eq_false (by omega)];rfl
 rw[decide_eq_true (by omega),Bool.true_and]at hX
 refine qBp d.measures.length (fun i V1=>V=V1/\qCV msB d.measures i) ⟨rfl,qCV.zero _ _⟩ ?_
 rintro i b V1 J hi ⟨rfl,ha⟩ hJ
 refine⟨fun hlt=>?_,fun hge=>?_⟩
 ·obtain⟨x,hm,hx,hdr,hl,hp,hz,hrow⟩:=h.measures.get hlt
  have no:msB x=false->X=false:=fun h=>by grind
  refine⟨hp,hz,hlt,_,_,_,_,_,_,_,hrow,c165.call ⟨_,rfl,fun h1=>c165.call ⟨_,rfl,fun h2=>⟨fun h3=>key _ (no ?_),fun h3=>⟨fun h4=>key _ (no ?_),fun h4=>(c204 (h.measuresOk x hm).x).call ⟨_,rfl,fun h5=>⟨h.measures.succ hlt,hJ hl _ _ ⟨rfl,ha.succ hx ?_⟩⟩,fun h5=>key _ (no ?_)⟩⟩⟩,fun h2=>key _ (no ?_)⟩,fun h1=>key _ (no ?_)⟩⟩
  ·have:¬(-1099511627776<=x.nil/\x.nil<=1099511627776):=by omega
   simp[msB, *]
  ·have:¬(-1099511627776<=x.nil/\x.nil<=1099511627776):=by omega
   simp[msB, *]
  ·have:(-1099511627776<=x.nil/\x.nil<=1099511627776):=by omega
   simp[msB, *]
  all_goals simp[msB, *]
 have a1:=ha.all (h.measures.done hge).2
 refine qBp d.invs.length (fun i V1=>V=V1/\qCV ivB d.invs i) ⟨rfl,qCV.zero _ _⟩ ?_
 rintro i b V1 J hi ⟨rfl,ha⟩ hJ
 refine⟨fun hlt=>?_,fun hge=>?_⟩
 ·obtain⟨x,hm,hx,hdr,hl,hp,hz,hrow⟩:=h.invs.get hlt
  have no:ivB x=false->X=false:=fun h=>by rw[<- hX,all_false hm (by rw[h];simp)];simp
  refine⟨hp,hz,hlt,_,_,_,_,_,_,hrow,c165.call ⟨_,rfl,fun h1=>c205.call ⟨_,rfl,fun h2=>(c204 (h.invsOk x hm)).call ⟨_,rfl,fun h5=>⟨h.invs.succ hlt,hJ hl _ _ ⟨rfl,ha.succ hx ?_⟩⟩,fun h5=>key _ (no ?_)⟩,fun h2=>key _ (no ?_)⟩,fun h1=>key _ (no ?_)⟩⟩
  all_goals simp[ivB, *]
 have a2:=ha.all (h.invs.done hge).2
 refine qBp d.pots.length (fun i V1=>V=V1/\qCV poB d.pots i) ⟨rfl,qCV.zero _ _⟩ ?_
 rintro i b V1 J hi ⟨rfl,ha⟩ hJ
 refine⟨fun hlt=>?_,fun hge=>?_⟩
 ·obtain⟨x,hm,hx,hdr,hl,hp,hz,hrow⟩:=h.pots.get hlt
  have no:poB x=false->X=false:=fun h=>by grind
  refine⟨hp,hz,hlt,_,_,_,_,_,hrow,c205.call ⟨_,rfl,fun h2=>(c204 (h.potsOk x hm)).call ⟨_,rfl,fun h5=>⟨h.pots.succ hlt,hJ hl _ _ ⟨rfl,ha.succ hx ?_⟩⟩,fun h5=>key _ (no ?_)⟩,fun h2=>key _ (no ?_)⟩⟩
  all_goals simp[poB, *]
 have a3:=ha.all (h.pots.done hge).2
 refine(c206 (first:=[]) (caps:=[]) h.bounds Tryz.call207 (fun f=>!bdB f) fun f hm=>c207 (h.boundsOk f hm)).call ⟨_,rfl,key _ ?_⟩
 simp_all [List.any_eq_not_all_not]
theorem c120{V:Mem}[Tab V]{d:Ds}(h:Ds.Ok V d):PP 120 [d.v] V (.bool (qAF d)):=by
 refine x120 ?_
 unfold w120
 have n5:=h.types.n_eq
 have n6:=h.procs.n_eq
 generalize hX:qAF d=X
 have key:∀b:Bool,X=b->(Ending.returned (.bool b)=Ending.returned (.bool X)/\V=V):=fun n h=>by simp_all
 unfold qAF at hX
 refine c165.call ⟨_,rfl,fun h1=>⟨fun h2=>key _ ?_,fun h2=>(c166 h.globals).call ⟨_,rfl,fun h3=>⟨fun h4=>key _ ?_,fun h4=>(c167 h).call ⟨_,rfl,fun h5=>(c126 (first:=[]) (caps:=[]) h.types Tryz.call168 (fun f=>!tyB f) fun f hm=>c168 (h.typesOk f hm)).call ⟨_,rfl,fun h6=>key _ ?_,fun h6 =>
   (c169 (first:=[]) (caps:=[]) h.procs Tryz.call170 (fun f=>!prB f) fun f hm=>c170 (h.procsOk f hm)).call ⟨_,rfl,key _ ?_⟩⟩,fun h5=>key _ ?_⟩⟩,fun h3=>key _ ?_⟩⟩,fun h1=>key _ ?_⟩
 ·grind
 ·grind
 ·grind [List.any_eq_not_all_not,tyB]
 ·grind
 ·grind
 ·simp_all
 simp_all
end Go.Proofs
namespace Go.Proofs
open Go Go.Sx
def sNil:ByteArray:=qAr [110,105,108]
def sE:ByteArray:=qAr []
def qBm(d:Ds)(s:ByteArray):Bool:=d.types.any fun t=>decide (t.name=s)
def qBx(d:Ds)(s:ByteArray):Bool:=decide (s=qBd)||decide (s=qAw)||qBm d s
def qEb(d:Ds)(a b:ByteArray):Bool:=decide (a=b)||(decide (a=sNil)&&qBm d b)
def qCt:List Fld->ByteArray->ByteArray
 | [],_=>sE
 | f::l,s=>if f.name=s then f.ty else qCt l s
def qJh(d:Ds)(s:ByteArray):Option Ty:=d.types.find? fun t=>decide (t.name=s)
def qHZ(d:Ds)(s:ByteArray):Option Pr:=d.procs.find? fun t=>decide (t.name=s)
def meOf(d:Ds)(s:ByteArray):Option Ms:=d.measures.find? fun t=>decide (t.name=s)
def qCc(d:Ds)(t name:ByteArray):ByteArray×Int :=
 match qJh d t with
 | none=>(sE,11)
 | some ty=>if qCt ty.fields name=sE then (sE,9) else (qCt ty.fields name,0)
def qCw(d:Ds):List ByteArray->List Fld->Bool
 | a::l,f::fs=>qEb d a f.ty&&qCw d l fs
 | _,_=>true
def qGG(d:Ds)(name:ByteArray)(l:List ByteArray):ByteArray×Int :=
 match qHZ d name with
 | none=>(sE,9)
 | some p=>if l.length≠p.params.length then (sE,3) else if qCw d l p.params=true then (p.result,0) else (sE,11)
def qFK(ok:Bool)(t:ByteArray):ByteArray×Int:=if ok=true then (t,0) else (sE,11)
structure Sc where
 vars:List Fld
 body:Bool
def qKo(d:Ds)(name:ByteArray)(l:List ByteArray):ByteArray×Int :=
 match meOf d name with
 | none=>(sE,9)
 | some m=>if l.length≠1 then (sE,3) else qFK (qEb d (l.getD 0 sE) m.ty) qBd
def callE(d:Ds)(sc:Sc)(name:ByteArray)(l:List ByteArray):ByteArray×Int :=
 if sc.body=true then (if (qGG d name l).2=0/\(qGG d name l).1=sE then (sE,11) else qGG d name l) else qKo d name l
def allT(l:List ByteArray)(t:ByteArray):Bool:=l.all fun x=>decide (x=t)
def qGx(d:Ds)(sc:Sc)(op:Int)(s:ByteArray)(l:List ByteArray):ByteArray×Int :=
 if op=1 then (qBd,0) else if op=2 then (qAw,0) else if op=3 then (sNil,0)
 else if op=4 then (if qCt sc.vars s=sE then (sE,9) else (qCt sc.vars s,0))
 else if op=5 then qCc d (l.getD 0 sE) s
 else if op=6 then (if sc.body=false then (sE,13) else if qBm d s=false then (sE,9) else (s,0))
 else if op=7 then callE d sc s l
 else if op=14∨op=15 then qFK (qEb d (l.getD 0 sE) (l.getD 1 sE)||qEb d (l.getD 1 sE) (l.getD 0 sE)) qAw
 else if op=16∨op=17 then qFK (allT l qBd) qAw
 else if op=18∨op=19∨op=20 then qFK (allT l qAw) qAw
 else if op=21 then qFK (decide (l.getD 0 sE=qAw)&&(qEb d (l.getD 1 sE) (l.getD 2 sE)||qEb d (l.getD 2 sE) (l.getD 1 sE))) (if l.getD 1 sE=sNil then l.getD 2 sE else l.getD 1 sE)
 else qFK (allT l qBd) qBd
mutual
def qAo(d:Ds)(sc:Sc):E->ByteArray×Int
 | .mk op _ s _ k=>if (partsT d sc [] k).2≠0 then (sE,(partsT d sc [] k).2) else qGx d sc op s (partsT d sc [] k).1
def partsT(d:Ds)(sc:Sc)(acc:List ByteArray):List E->List ByteArray×Int
 | []=>(acc,0)
 | x::xs=>if (qAo d sc x).2≠0 then ([],(qAo d sc x).2) else partsT d sc (acc++[(qAo d sc x).1]) xs
end
theorem qKE(d:Ds)(sc:Sc)(e:E):qAo d sc e=if (partsT d sc [] e.k).2≠0 then (sE,(partsT d sc [] e.k).2) else qGx d sc e.op e.s (partsT d sc [] e.k).1:=by
 cases e;rfl
theorem qCK(d:Ds)(sc:Sc)(acc:List ByteArray)(x:E)(xs:List E):partsT d sc acc (x::xs)=if (qAo d sc x).2≠0 then ([],(qAo d sc x).2) else partsT d sc (acc++[(qAo d sc x).1]) xs:=by rw[partsT]
theorem qEH(d:Ds)(sc:Sc)(acc:List ByteArray):partsT d sc acc []=(acc,0):=by rw[partsT]
theorem qJt(d:Ds)(sc:Sc):∀(k:List E) (acc:List ByteArray),(partsT d sc acc k).2=0->(partsT d sc acc k).1.length=acc.length+k.length
 | [],acc,_=>by rfl
 | x::xs,acc,h=>by
  rw[qCK]at h ⊢
  split at h
  ·omega
  ·rename_i h'
   rw[if_neg h',qJt d sc xs _ h,List.length_append,List.length_cons,List.length_cons,List.length_nil]
   omega
def qAj(d:Ds)(p:Pr):Sc:=⟨p.params++p.locals++d.globals,true⟩
def sThisF:ByteArray:=qAr [116,104,105,115]
def qAQ(d:Ds)(t:ByteArray):Sc:=⟨(if t=sE then [] else [⟨sThisF,t⟩])++d.globals,false⟩
def qCC(d:Ds)(p:Pr):Sc:=⟨p.params++d.globals,false⟩
def qGm(d:Ds)(sc:Sc)(result:ByteArray)(op:Int)(s:ByteArray)(es:List E):Int :=
 if op=6 then
  match es with
  | []=>0
  | e::_=>if (partsT d sc [] e.k).2≠0 then (partsT d sc [] e.k).2 else (qGG d e.s (partsT d sc [] e.k).1).2
 else if (partsT d sc [] es).2≠0 then (partsT d sc [] es).2
 else if op=1 then (if qCt sc.vars s=sE then 9 else if qEb d ((partsT d sc [] es).1.getD 0 sE) (qCt sc.vars s)=true then 0 else 11)
 else if op=2 then (if (qCc d ((partsT d sc [] es).1.getD 0 sE) s).2≠0 then (qCc d ((partsT d sc [] es).1.getD 0 sE) s).2 else if qEb d ((partsT d sc [] es).1.getD 1 sE) (qCc d ((partsT d sc [] es).1.getD 0 sE) s).1=true then 0 else 11)
 else if op=3∨op=4 then (if (partsT d sc [] es).1.getD 0 sE=qAw then 0 else 11)
 else if op=5 then (if (partsT d sc [] es).1.length=0 then (if result=sE then 0 else 11) else if result≠sE/\qEb d ((partsT d sc [] es).1.getD 0 sE) result=true then 0 else 11)
 else 0
mutual
def stT(d:Ds)(sc:Sc)(result:ByteArray)(n:Int):S->Int×Int
 | .mk op s _ es _ ls _ xs =>
  if qGm d sc result op s es≠0 then (n,qGm d sc result op s es)
  else if (qBQ d sc result (n+1) ls).2≠0 then qBQ d sc result (n+1) ls
  else qBQ d sc result (qBQ d sc result (n+1) ls).1 xs
def qBQ(d:Ds)(sc:Sc)(result:ByteArray)(n:Int):List S->Int×Int
 | []=>(n,0)
 | x::xs=>if (stT d sc result n x).2≠0 then stT d sc result n x else qBQ d sc result (stT d sc result n x).1 xs
end
theorem stT_eq(d:Ds)(sc:Sc)(result:ByteArray)(n:Int)(x:S):stT d sc result n x=if qGm d sc result x.op x.s x.es≠0 then (n,qGm d sc result x.op x.s x.es) else if (qBQ d sc result (n+1) x.ls).2≠0 then qBQ d sc result (n+1) x.ls else qBQ d sc result (qBQ d sc result (n+1) x.ls).1 x.xs:=by
 cases x;unfold stT;rfl
theorem qHM(d:Ds)(sc:Sc)(result:ByteArray)(n:Int)(x:S)(xs:List S):qBQ d sc result n (x::xs)=if (stT d sc result n x).2≠0 then stT d sc result n x else qBQ d sc result (stT d sc result n x).1 xs:=by rw[qBQ]
theorem stsT_nil(d:Ds)(sc:Sc)(result:ByteArray)(n:Int):qBQ d sc result n []=(n,0):=by rw[qBQ]
def qGd(d:Ds)(l:List Fld)(i:Nat)(f:Fld):Int:=if (l.take i).any (fun g=>decide (g.name=f.name))=true then 10 else if qBx d f.ty=true then 0 else 9
def qAl{α β:Type}(f:Nat->α->Option β):Nat->List α->Option β
 | _,[]=>none
 | i,x::xs=>match f i x with|some b=>some b|none=>qAl f (i+1) xs
def qDA(d:Ds)(l:List Fld):Int:=(qAl (fun i f=>if qGd d l i f≠0 then some (qGd d l i f) else none) 0 l).getD 0
abbrev Flt:=ByteArray×Int×Int
def types1(d:Ds):Option Flt:=qAl (fun i t=>if (d.types.take i).any (fun g=>decide (g.name=t.name))=true then some (t.name,-1,10) else none) 0 d.types
def types2(d:Ds):Option Flt:=qAl (fun _ t=>if qDA d t.fields≠0 then some (t.name,-1,qDA d t.fields) else none) 0 d.types
def types3(d:Ds):Option Flt:=qAl (fun i f=>if qGd d d.globals i f≠0 then some (f.name,-1,qGd d d.globals i f) else none) 0 d.globals
def qGK(d:Ds):Option Flt:=(types1 d).or ((types2 d).or (types3 d))
def qEY(d:Ds):Option Flt:=qAl (fun i p=>if (d.procs.take i).any (fun g=>decide (g.name=p.name))=true then some (p.name,-1,10) else if qDA d (p.params++p.locals)≠0 then some (p.name,-1,qDA d (p.params++p.locals)) else if p.result≠sE/\qBx d p.result=false then some (p.name,-1,9) else none) 0 d.procs
def form1(d:Ds):Option Flt:=qAl (fun i m=>if (d.measures.take i).any (fun g=>decide (g.name=m.name))=true then some (m.name,-1,10) else if qBm d m.ty=false then some (m.name,-1,9) else none) 0 d.measures
def form2(d:Ds):Option Flt:=qAl (fun i m=>if (d.invs.take i).any (fun g=>decide (g.name=m.name))=true then some (m.name,-1,10) else if m.ty≠sE/\qBm d m.ty=false then some (m.name,-1,9) else none) 0 d.invs
def sPot:ByteArray:=qAr [112,111,116,101,110,116,105,97,108]
def form3(d:Ds):Option Flt:=qAl (fun _ m=>if m.ty≠sE/\qBm d m.ty=false then some (sPot,-1,9) else none) 0 d.pots
def form4(d:Ds):Option Flt:=qAl (fun i b=>if (qHZ d b.proc).isNone=true then some (b.proc,-1,9) else if (d.bounds.take i).any (fun g=>decide (g.proc=b.proc))=true then some (b.proc,-1,10) else none) 0 d.bounds
def qFl(d:Ds):Option Flt:=(form1 d).or ((form2 d).or ((form3 d).or (form4 d)))
def qCu(d:Ds):Option Flt:=qAl (fun _ p=>if (qBQ d (qAj d p) p.result 0 p.body).2≠0 then some (p.name,(qBQ d (qAj d p) p.result 0 p.body).1,(qBQ d (qAj d p) p.result 0 p.body).2) else none) 0 d.procs
def qCd(d:Ds)(sc:Sc)(e:E)(t:ByteArray):Int:=if (qAo d sc e).2≠0 then (qAo d sc e).2 else if (qAo d sc e).1=t then 0 else 11
def exp1(d:Ds):Option Flt:=qAl (fun _ m=>if qCd d (qAQ d m.ty) m.x qBd≠0 then some (m.name,-1,qCd d (qAQ d m.ty) m.x qBd) else none) 0 d.measures
def exp2(d:Ds):Option Flt:=qAl (fun _ m=>if qCd d (qAQ d m.ty) m.x qAw≠0 then some (m.name,-1,qCd d (qAQ d m.ty) m.x qAw) else none) 0 d.invs
def exp3(d:Ds):Option Flt:=qAl (fun _ m=>if qCd d (qAQ d m.ty) m.x qBd≠0 then some (sPot,-1,qCd d (qAQ d m.ty) m.x qBd) else none) 0 d.pots
def prD:Pr:=⟨sE,⟨none,0,0⟩,[],sE,⟨none,0,0⟩,[],⟨none,0,0⟩,[]⟩
def exp4(d:Ds):Option Flt:=qAl (fun _ m=>if qCd d (qCC d ((qHZ d m.proc).getD prD)) m.x qBd≠0 then some (m.proc,-1,qCd d (qCC d ((qHZ d m.proc).getD prD)) m.x qBd) else none) 0 d.bounds
def qIA(d:Ds):Option Flt:=(exp1 d).or ((exp2 d).or ((exp3 d).or (exp4 d)))
def qIH(d:Ds):Option Flt:=(qGK d).or ((qEY d).or ((qFl d).or ((qCu d).or (qIA d))))
def fltR(o:Option Flt):Flt:=o.getD (sE,0,0)
end Go.Proofs
namespace Go.Proofs
open Go Go.Sx
attribute [local irreducible] Go.Sx.Tri
noncomputable def ti(t:Nat):TypeInfo:=(Tryz.prog.info? t).getD default
section
variable{α:Type}
def AppP(t e sz:Nat)(row:α->List Value):Prop:=∀{V0 V:Mem} {ty:Nat} {x y:Operand} {vals:Operand->Value} {s u:Sl} {xs ys:List α} (hx:vals x=.slice s.p s.n s.c) (hy:vals y=.slice u.p u.n u.c) (own:Sx.Own V0 V e sz s (xs.flatMap row)) (hnew:qAc V u sz (ys.map row))
 (hfit:xs.length+ys.length<=2147483648) {q:Value->Mem->Prop} (hq:∀s' V',Sx.Own V0 V' e sz s' ((xs++ys).flatMap row)->q (.slice s'.p s'.n s'.c) V'),
 GenK Tryz.prog (.call { callee:=.builtin .append,args:=#[x,y],argTypes:=#[t,t] }) ty vals V q
theorem appG{t e sz:Nat}{row:α->List Value}(ht:Tryz.prog.underlying t=some (.slice e))(hi:Tryz.prog.info? e=some (ti e))(hz:(ti e).zero=some ((ti e).zero.getD undef))(h1:(ti e).size=sz)(h2:((ti e).zero.getD undef).cells.size=sz)(h3:decide ((ti e).bytes<=65536)=true)
  (h0:0<sz) (hr:∀x,(row x).length=sz) (hu:∀x,∀u∈row x,u.oneCell'=true):AppP t e sz row:=by
 intro V0 V ty x y vals s u xs ys hx hy own hnew hfit q hq
 exact GenK.appendS ht hi hz h1 h2 h0 (of_decide_eq_true h3) hx hy own hr hnew hu hfit hq
end
theorem app220:AppP 220 9 1 qBF:=appG Tryz.underlying220 (by kernel_rfl) (by kernel_rfl) (by kernel_rfl) (by kernel_rfl) (by kernel_rfl) (by decide) (by intro _;rfl) fun x u hu=>by simp[qBF,vS]at hu;rw[hu];rfl
theorem app23:AppP 23 101 2 Fld.row:=appG Tryz.underlying23 (by kernel_rfl) (by kernel_rfl) (by kernel_rfl) (by kernel_rfl) (by kernel_rfl) (by decide) (by intro _;rfl) fun x u hu=>by simp[Fld.row,vS]at hu;rcases hu with rfl|rfl <;> rfl
def qIQ{α:Type}(p:α->Bool)(xs:List α):Int:=match xs.findIdx? p with|some i=>(i:Int) | none=>-1
theorem qJB{α:Type}{p:α->Bool}{xs:List α}{i:Nat}{x:α}(h:qCV (fun y=>!p y) xs i)(hx:xs[i]?=some x)(hp:p x=true):qIQ p xs=i:=by
 have hl:=(List.getElem?_eq_some_iff.1 hx).1
 have hg:=(List.getElem?_eq_some_iff.1 hx).2
 have:xs.findIdx? p=some i:=List.findIdx?_eq_some_iff_getElem.2 ⟨hl,by grind,fun j hj=>by
  have:=h j _ hj (List.getElem?_eq_getElem (Nat.lt_trans hj hl))
  simpa using this⟩
 unfold qIQ;rw[this]
theorem idxI_none{α:Type}{p:α->Bool}{xs:List α}{i:Nat}(h:qCV (fun y=>!p y) xs i)(hi:xs.length<=i):qIQ p xs=-1:=by
 have:xs.findIdx? p=none:=List.findIdx?_eq_none_iff.2 fun x hx=>by
  obtain⟨j,hj,rfl⟩:=List.mem_iff_getElem.1 hx
  have:=h j _ (by omega) (List.getElem?_eq_getElem hj)
  simpa using this
 unfold qIQ;rw[this]
theorem qBh{α:Type}(p:α->Bool)(xs:List α):(qIQ p xs=-1/\xs.find? p=none/\xs.any p=false)∨∃(i:Nat) (x:α),qIQ p xs=i/\xs[i]?=some x/\xs.find? p=some x/\i<xs.length/\p x=true/\x∈xs/\xs.any p=true/\(xs.take i).any p=false:=by
 cases h:xs.findIdx? p with
 | none =>
  grind [qIQ]
 | some i =>
  obtain⟨hl,hp,hn⟩:=List.findIdx?_eq_some_iff_getElem.1 h
  refine .inr ⟨i,xs[i],by unfold qIQ;rw[h],List.getElem?_eq_getElem hl,?_,hl,hp,List.getElem_mem _,List.any_eq_true.2 ⟨_,List.getElem_mem _,hp⟩,?_⟩
  ·rw[List.find?_eq_some_iff_getElem]
   grind
  ·rw[List.any_eq_false]
   intro x hx
   obtain⟨j,hj,rfl⟩:=List.mem_iff_getElem.1 hx
   grind
theorem qId{α:Type}{p:α->Bool}{xs:List α}{i:Nat}{x:α}(h:qCV (fun y=>!p y) xs i)(hx:xs[i]?=some x)(hp:p x=false):qCV (fun y=>!p y) xs (i+1):=h.succ hx (by simp[hp])
section
variable{V:Mem}{d:Ds}
theorem fitAll_nil(fs:List Fld):qCw d [] fs=true:=by simp[qCw]
theorem qJk{l:Sl}{xs:List ByteArray}(hl:qAc V l 1 (xs.map qBF)){i:Nat}(hi:i<xs.length):¬(l.p=none)/\(i:Int)<(l.n:Int)/\V.rowp l.p i 1=some [.string (xs.getD i sE)]:=by
 have hn:=hl.n_eq
 have hlt:(i:Int)<(l.n:Int):=by omega
 obtain⟨y,hm',hx',hdr',hl',hp',hz',hrow'⟩:=hl.get hlt
 rw[List.getD_eq_getElem?_getD,hx']
 rw[Nat.mul_one]at hrow'
 exact⟨hp',hlt,hrow'⟩
end
theorem arity{op n:Int}{s:ByteArray}{len:Int}(h:qER op n s len=true):(op=5->len=1)/\(op=14∨op=15->len=2)/\(op=21->len=3)/\len<=6:=by
 grind [qER,qAP]
theorem qKl{d:Int}{e:E}(h:okE d e=true):qER e.op e.n e.s e.k.length=true:=by
 cases e
 unfold okE at h
 rw[Bool.and_eq_true,Bool.and_eq_true]at h
 exact h.1.2
theorem okEs_mem{d:Int}:∀{l:List E},okEs d l=true->∀x∈l,okE d x=true
 | [],_,x,hx=>absurd hx List.not_mem_nil
 | y::l,h,x,hx=>by
  unfold okEs at h
  rw[Bool.and_eq_true]at h
  rcases List.mem_cons.1 hx with rfl|hx
  ·exact h.1
  ·exact okEs_mem h.2 x hx
theorem okE_kids{d:Int}{e:E}(h:okE d e=true):∀x∈e.k,okE (d+1) x=true:=by
 cases e
 unfold okE at h
 rw[Bool.and_eq_true]at h
 exact okEs_mem h.2
theorem ownS{V0 V:Mem}{s:Sl}{l:List ByteArray}(h:Own V0 V 9 1 s (l.flatMap qBF)):qAc V s 1 (l.map qBF):=h.rows (fun _=>rfl) (by decide)
theorem one_row{V:Mem}{b:Nat}{s:ByteArray}{t:Nat}(h:V b=some (.cells #[.string s] t (0,0))):qAc V ⟨some ⟨b,0,none⟩,1,1⟩ 1 ([s].map qBF) :=
 qAc.cells (xs:=[s]) (row:=qBF) h rfl (fun _=>rfl) rfl (by simp)
theorem ownF{V0 V:Mem}{s:Sl}{l:List Fld}(h:Own V0 V 101 2 s (l.flatMap Fld.row)):qAc V s 2 (l.map Fld.row):=h.rows (fun _=>rfl) (by decide)
section
variable{V:Mem}{d:Ds}
def Small(d:Ds):Prop:=d.globals.length<=1000/\∀p∈d.procs,p.params.length<=1000/\p.locals.length<=1000
theorem shape_arity{op:Int}{s:ByteArray}{es:List E}{nl nx:Int}(h:qCb op s es nl nx=true):(op=6->∃e0,es=[e0]/\e0.op=7)/\(op=1∨op=3∨op=4->es.length=1)/\(op=2->es.length=2)/\(op=5->es.length<=1)/\es.length<=2/\(∀x∈es,okE 1 x=true):=by
 unfold qCb at h
 rw[Bool.and_eq_true]at h
 obtain⟨h,hv⟩:=h
 have hall:∀x∈es,okE 1 x=true:=fun x hx=>by
  grind [qAM]
 unfold qGO at h
 have h6:op=6->∃e0,es=[e0]/\e0.op=7:=fun h6=>by
  subst h6
  simp only[show ¬((6:Int)=1) by decide,show ¬((6:Int)=2) by decide,show ¬((6:Int)=3) by decide,show ¬((6:Int)=4) by decide,show ¬((6:Int)=5) by decide,if_false,if_true,decide_eq_true_eq]at h
  match es,h with
  | [e0],h=>exact⟨e0,rfl,h.2.2.1⟩
  | [],h=>simp at h
  | _::_::_,h=>simp at h;omega
 grind
end
theorem okS_shape{d:Int}{x:S}(h:okS d x=true):qCb x.op x.s x.es x.ls.length x.xs.length=true/\qGw (d+1) x.ls=true/\qGw (d+1) x.xs=true:=by
 cases x
 unfold okS at h
 rw[Bool.and_eq_true,Bool.and_eq_true,Bool.and_eq_true]at h
 exact⟨h.1.1.2,h.1.2,h.2⟩
theorem okSs_mem{d:Int}:∀{l:List S},qGw d l=true->∀x∈l,okS d x=true
 | [],_,x,hx=>absurd hx List.not_mem_nil
 | y::l,h,x,hx=>by
  unfold qGw at h
  rw[Bool.and_eq_true]at h
  rcases List.mem_cons.1 hx with rfl|hx
  ·exact h.1
  ·exact okSs_mem h.2 x hx
theorem szS_eq(x:S):szS x=1+qGk x.ls+qGk x.xs:=by cases x;unfold szS;rfl
theorem szSs_cons(x:S)(l:List S):qGk (x::l)=szS x+qGk l:=by rw[qGk]
mutual
theorem stT_n(d:Ds)(sc:Sc)(result:ByteArray)(n:Int):∀x:S,(stT d sc result n x).2=0->(stT d sc result n x).1=n+szS x
 | .mk op s _ es _ ls _ xs=>by
  have h1:=stsT_n d sc result (n+1) ls
  have h2:=stsT_n d sc result (qBQ d sc result (n+1) ls).1 xs
  grind [stT,szS,absurd]
theorem stsT_n(d:Ds)(sc:Sc)(result:ByteArray)(n:Int):∀l:List S,(qBQ d sc result n l).2=0->(qBQ d sc result n l).1=n+qGk l
 | []=>by simp[qBQ,qGk]
 | x::xs=>by
  have h1:=stT_n d sc result n x
  have h2:=stsT_n d sc result (stT d sc result n x).1 xs
  rw[qHM,szSs_cons]
  grind
end
theorem qAn{α β:Type}{f:Nat->α->Option β}{i:Nat}{x:α}{xs:List α}{b:β}(h:f i x=some b):qAl f i (x::xs)=some b:=by unfold qAl;rw[h]
theorem qAt{α β:Type}{f:Nat->α->Option β}{i:Nat}{x:α}{xs:List α}(h:f i x=none):qAl f i (x::xs)=qAl f (i+1) xs:=by rw[qAl,h]
section
variable{V:Mem}{d:Ds}
def qDY(s:ByteArray):Bool:=decide (s=qBd)||decide (s=qAw)
end
structure VParts (d:Ds):Prop where
 small:Small d
 ms:∀m∈d.measures,okE 1 m.x=true
 is:∀m∈d.invs,okE 1 m.x=true
 qs:∀m∈d.pots,okE 1 m.x=true
 bs:∀m∈d.bounds,okE 1 m.x=true
 ps:∀p∈d.procs,qGw 1 p.body=true/\qGk p.body<=200
theorem qFA{e:E}(h:qAM e=true):okE 1 e=true:=by
 grind [qAM]
theorem vparts{d:Ds}(h:qAF d=true):VParts d:=by
 unfold qAF formB at h
 simp only[Bool.and_eq_true,decide_eq_true_eq,List.all_eq_true]at h
 obtain⟨⟨⟨⟨⟨⟨⟨-,-⟩,hg⟩,-⟩,-⟩,-⟩,hp⟩,⟨⟨hm,hi⟩,hq⟩,hb⟩:=h
 have fl:∀{l:List Fld} {n:Int},qEv l n=true->n<=100->l.length<=1000:=fun h h'=>by
  grind [qEv]
 refine⟨⟨fl hg (by omega),fun p hpp=>?_⟩,fun m hmm=>?_,fun m hmm=>?_,fun m hmm=>?_,fun m hmm=>?_,fun p hpp=>?_⟩
 ·grind [prB]
 ·simp_all [msB,Bool.and_eq_true,qFA]
 ·simp_all [ivB,Bool.and_eq_true,qFA]
 ·simp_all [poB,Bool.and_eq_true,qFA]
 ·simp_all [bdB,Bool.and_eq_true,qFA]
 grind [prB,qGj]
theorem qCG{α β:Type}{f:Nat->α->Option β}{b:β}:∀{i:Nat} {xs:List α},qAl f i xs=some b->∃j x,x∈xs/\f j x=some b
 | _,[],h=>by cases h
 | i,x::xs,h=>by
  cases hx:f i x with
  | some c=>grind [qAn]
  | none =>
   rw[qAt hx]at h
   obtain⟨j,y,hy,e⟩:=qCG h
   grind
def Bad(r:Flt):Prop:=r.2.2≠0/\r.2.1=-1
theorem qGR{P:Flt->Prop}{a b:Option Flt}(ha:∀r,a=some r->P r)(hb:∀r,b=some r->P r):∀r,a.or b=some r->P r:=fun r h=>by
 cases a with
 | none=>simp_all
 | some x=>simp_all
theorem types_bad(d:Ds):∀r,qGK d=some r->Bad r:=by
 refine qGR (fun r h=>?_) (qGR (fun r h=>?_) (fun r h=>?_)) <;> obtain⟨j,x,hx,e⟩:=qCG h
 ·split at e
  ·cases e;exact⟨by simp,rfl⟩
  ·cases e
 ·split at e
  ·rename_i h';cases e;exact⟨h',rfl⟩
  ·cases e
 ·split at e
  ·rename_i h';cases e;exact⟨h',rfl⟩
  ·cases e
theorem heads_bad(d:Ds):∀r,qEY d=some r->Bad r:=fun r h=>by
 obtain⟨j,x,hx,e⟩:=qCG h
 split at e
 ·cases e;exact⟨by simp,rfl⟩
 ·split at e
  ·rename_i h';cases e;exact⟨h',rfl⟩
  ·split at e
   ·cases e;exact⟨by simp,rfl⟩
   ·cases e
theorem form_bad(d:Ds):∀r,qFl d=some r->Bad r:=by
 refine qGR (fun r h=>?_) (qGR (fun r h=>?_) (qGR (fun r h=>?_) (fun r h=>?_))) <;> obtain⟨j,x,hx,e⟩:=qCG h
 ·split at e
  ·cases e;exact⟨by simp,rfl⟩
  ·split at e
   ·cases e;exact⟨by simp,rfl⟩
   ·cases e
 ·split at e
  ·cases e;exact⟨by simp,rfl⟩
  ·split at e
   ·cases e;exact⟨by simp,rfl⟩
   ·cases e
 ·split at e
  ·cases e;exact⟨by simp,rfl⟩
  ·cases e
 ·split at e
  ·cases e;exact⟨by simp,rfl⟩
  ·split at e
   ·cases e;exact⟨by simp,rfl⟩
   ·cases e
theorem exps_bad(d:Ds):∀r,qIA d=some r->Bad r:=by
 refine qGR (fun r h=>?_) (qGR (fun r h=>?_) (qGR (fun r h=>?_) (fun r h=>?_))) <;> obtain⟨j,x,hx,e⟩:=qCG h <;> split at e
 all_goals first | (cases e;done) | (rename_i h';cases e;exact⟨h',rfl⟩)
theorem bounds_proc{d:Ds}(hform:qFl d=none):∀g∈d.bounds,∃p,qHZ d g.proc=some p:=by
 have h4:form4 d=none:=by
  grind [qFl,form4]
 have aux:∀(l:List Bd) (i:Nat),qAl (fun i b=>if (qHZ d b.proc).isNone=true then some ((b.proc,-1,9):Flt) else if (d.bounds.take i).any (fun g=>decide (g.proc=b.proc))=true then some (b.proc,-1,10) else none) i l=none->∀g∈l,∃p,qHZ d g.proc=some p:=by
  intro l
  induction l with
  | nil=>simp_all
  | cons y l ih =>
   intro i h g hg
   cases hy:qHZ d y.proc with
   | none=>simp_all [qAn,if_pos]
   | some p =>
    rcases List.mem_cons.1 hg with rfl|hg
    ·grind
    ·by_cases ht:(d.bounds.take i).any (fun g=>decide (g.proc=y.proc))=true
     ·simp_all [qAn,if_neg,if_pos]
     ·rw[qAt ((if_neg (by rw[hy];simp)).trans (if_neg ht))]at h
      grind
 exact aux d.bounds 0 h4
section
variable{V:Mem}{d:Ds}
def f3(o:Option Flt):Value:=.tuple #[.string (fltR o).1,.int .i64 (fltR o).2.1,.int .i64 (fltR o).2.2]
end
structure qBB (V:Mem) (c:Option Addr) (d:Ds):Prop where
 at_:∃cb mt mp t,c=some ⟨cb,0,none⟩/\V cb=some (.cells (d.row++[Value.map (some mt),Value.map (some mp)]).toArray t (0,0))/\qBb V mt (fun k=>(qJh d k).map Ty.v)/\qBb V mp (fun k=>(qHZ d k).map Pr.v)
 ok:Ds.Ok V d
theorem qBB.sub{V V':Mem}{c:Option Addr}{d:Ds}(h:qBB V c d)(hs:V.sub V'):qBB V' c d:=by
 obtain⟨cb,mt,mp,t,h1,h2,h3,h4⟩:=h.at_
 exact⟨⟨cb,mt,mp,t,h1,hs _ _ h2,h3.sub hs,h4.sub hs⟩,h.ok.sub hs⟩
theorem qBB.nn{V:Mem}{c:Option Addr}{d:Ds}(h:qBB V c d):¬(c=none):=by
 obtain⟨cb,mt,mp,t,h1,h2,h3,h4⟩:=h.at_
 rw[h1];simp
theorem qBB.cell{V:Mem}{c:Option Addr}{d:Ds}(h:qBB V c d){i:Nat}{v:Value}(hv:(d.row)[i]?=some v):V.rowp c (i*1) 1=some [v]:=by
 obtain⟨cb,mt,mp,t,h1,h2,h3,h4⟩:=h.at_
 rw[h1,Nat.mul_one]
 have hi:=(List.getElem?_eq_some_iff.1 hv).1
 have h8:d.row.length=8:=rfl
 rw[qAd h2 i 1 (by simp;omega)]
 have:(d.row++[Value.map (some mt),Value.map (some mp)])[i]?=some v:=by grind
 have hl:i<(d.row++[Value.map (some mt),Value.map (some mp)]).length:=by rw[List.length_append];omega
 show some (((d.row++[Value.map (some mt),Value.map (some mp)]).drop i).take 1)=_
 rw[List.drop_eq_getElem_cons hl,(List.getElem?_eq_some_iff.1 this).2]
 rfl
theorem qBB.types{V:Mem}{c:Option Addr}{d:Ds}(h:qBB V c d):∃mt,V.rowp c 8 1=some [.map (some mt)]/\qBb V mt (fun k=>(qJh d k).map Ty.v):=by
 obtain⟨cb,mt,mp,t,h1,h2,h3,h4⟩:=h.at_
 exact⟨mt,by rw[h1,qAd h2 8 1 (by simp[Ds.row])];rfl,h3⟩
theorem qBB.procs{V:Mem}{c:Option Addr}{d:Ds}(h:qBB V c d):∃mt,V.rowp c 9 1=some [.map (some mt)]/\qBb V mt (fun k=>(qHZ d k).map Pr.v):=by
 obtain⟨cb,mt,mp,t,h1,h2,h3,h4⟩:=h.at_
 exact⟨mp,by rw[h1,qAd h2 9 1 (by simp[Ds.row])];rfl,h4⟩
def qBH(l:List Fld)(k:ByteArray):Option ByteArray:=(l.find? fun f=>decide (f.name=k)).map (·.ty)
theorem qJg(l:List Fld)(k:ByteArray):qCt l k=(qBH l k).getD sE:=by
 induction l with
 | nil=>rfl
 | cons f l ih =>
  grind [qBH,qCt]
def NE(l:List Fld):Prop:=∀f∈l,f.ty≠sE
theorem NE.some{l:List Fld}(h:NE l){k t:ByteArray}(hv:qBH l k=some t):t≠sE:=by
 unfold qBH at hv
 obtain⟨f,hf,rfl⟩:=Option.map_eq_some_iff.1 hv
 exact h f (List.mem_of_find?_eq_some hf)
structure qHk (V:Mem) (m:Option Nat) (sc:Sc):Prop where
 at_:∃mb,m=some mb/\qBb V mb (fun k=>(qBH sc.vars k).map Value.string)
 ne:NE sc.vars
theorem qHk.sub{V V':Mem}{m:Option Nat}{sc:Sc}(h:qHk V m sc)(hs:V.sub V'):qHk V' m sc:=by
 obtain⟨mb,h1,h2⟩:=h.at_
 exact⟨⟨mb,h1,h2.sub hs⟩,h.ne⟩
def sV(c:Option Addr)(m:Option Nat)(sc:Sc):Value:=.agg #[.pointer c,.map m,.bool sc.body]
structure VNe (d:Ds):Prop where
 types:∀t∈d.types,NE t.fields
 globals:NE d.globals
 params:∀p∈d.procs,NE p.params/\NE p.locals
theorem typB_ne{s:ByteArray}(h:typB s=true):s≠sE:=by
 intro e
 subst e
 have:typB sE=false:=by
  rfl
 simp_all
theorem flds_ne{l:List Fld}{n:Int}(h:qEv l n=true):NE l:=fun f hf=>by
 simp_all [qEv,Bool.and_eq_true,List.all_eq_true,fldB,typB_ne]
theorem vne{d:Ds}(h:qAF d=true):VNe d:=by
 unfold qAF at h
 simp only[Bool.and_eq_true,decide_eq_true_eq,List.all_eq_true]at h
 obtain⟨⟨⟨⟨⟨⟨⟨-,-⟩,hg⟩,-⟩,-⟩,ht⟩,hp⟩,-⟩:=h
 refine⟨fun t htt=>?_,flds_ne hg,fun p hpp=>?_⟩
 ·have:=ht t htt
  unfold tyB at this
  rw[Bool.and_eq_true]at this
  exact flds_ne this.2
 ·have:=hp p hpp
  unfold prB at this
  simp only[Bool.and_eq_true]at this
  grind [flds_ne]
theorem zero98(w:World):(zeroValue 98).run Tryz.prog w=.ok (.agg #[.string ByteArray.empty,.slice none 0 0]) w:=by kernel_rfl
theorem zero143(w:World):(zeroValue 143).run Tryz.prog w=.ok (.agg #[.string ByteArray.empty,.slice none 0 0,.string ByteArray.empty,.slice none 0 0,.slice none 0 0]) w:=by kernel_rfl
theorem zero9(w:World):(zeroValue 9).run Tryz.prog w=.ok (.string ByteArray.empty) w:=by kernel_rfl
theorem tyOf_node(d:Ds)(s:ByteArray):(qJh d s).isSome=qBm d s:=by
 grind [qJh,qBm]
theorem tyOf_mem{d:Ds}{s:ByteArray}{t:Ty}(h:qJh d s=some t):t∈d.types:=List.mem_of_find?_eq_some h
theorem qKe{d:Ds}{s:ByteArray}{t:Pr}(h:qHZ d s=some t):t∈d.procs:=List.mem_of_find?_eq_some h
section
variable{V:Mem}{d:Ds}{c:Option Addr}{m:Option Nat}{sc:Sc}
theorem c230(h:qBB V c d){s:ByteArray}:PP 230 [.pointer c,.string s] V (.bool (qBm d s)):=by
 refine x230 ?_
 unfold w230
 obtain⟨mt,h1,h2⟩:=h.types
 refine⟨h.nn,h.nn,_,h1,qBi.str Tryz.underlying269 Tryz.underlying9 zero98 h2 ?_⟩
 rw[<- tyOf_node]
 cases ht:qJh d s with
 | none=>exact⟨_,⟨none,0,0⟩,_,rfl,rfl,rfl⟩
 | some t=>exact⟨_,t.fs,_,rfl,rfl,rfl⟩
theorem c225(h:qBB V c d){s:ByteArray}:PP 225 [.pointer c,.string s] V (.bool (qBx d s)):=by
 refine x225 ?_
 unfold w225
 refine⟨fun h1=>?_,fun h1=>⟨fun h2=>?_,fun h2=>(c230 h).call ⟨_,rfl,?_⟩⟩⟩ <;> simp[qBx,qBd,qAw, *]
theorem c298(h:qBB V c d){s t:ByteArray}:PP 298 [.pointer c,.string s,.string t] V (.bool (qEb d s t)):=by
 refine x298 ?_
 unfold w298 qEb sNil
 refine⟨fun h1=>?_,fun h1=>⟨fun h2=>(c230 h).call ⟨_,rfl,?_⟩,fun h2=>?_⟩⟩
 ·simp_all
 ·simp_all
 simp_all
theorem c299(h:qBB V c d)(hv:VNe d){s t:ByteArray}:PP 299 [.pointer c,.string s,.string t] V (.tuple #[.string (qCc d s t).1,.int .i64 (qCc d s t).2]):=by
 refine x299 ?_
 unfold w299
 obtain⟨mt,h1,h2⟩:=h.types
 refine⟨h.nn,h.nn,_,h1,qBi.str Tryz.underlying269 Tryz.underlying9 zero98 h2 ?_⟩
 unfold qCc
 cases ht:qJh d s with
 | none=>exact⟨_,⟨none,0,0⟩,_,rfl,fun h=>absurd h (by simp),fun _=>⟨rfl,rfl⟩⟩
 | some ty =>
  refine⟨_,ty.fs,_,rfl,fun _=>?_,fun h=>absurd rfl h⟩
  have hr:=(h.ok.typesOk ty (tyOf_mem ht)).fields
  have hne:=hv.types ty (tyOf_mem ht)
  simp only
  refine loop3 ty.fields.length (fun i V1=>V=V1/\qCt ty.fields t=qCt (ty.fields.drop i) t) ⟨rfl,rfl⟩ ?_
  rintro i b c V1 J hi ⟨rfl,ha⟩ hJ
  refine⟨fun hlt=>?_,fun hge=>?_⟩
  ·obtain⟨x,hm,hx,hdr,hl,hp,hz,hrow⟩:=hr.get hlt
   rw[hdr,qCt]at ha
   refine⟨hp,hz,hlt,_,_,hrow,fun he=>?_,fun he=>⟨hr.succ hlt,hJ hl _ _ _ ⟨rfl,?_⟩⟩⟩
   ·rw[if_pos he]at ha
    rw[ha,if_neg (hne x hm)];simp_all
   simp_all
  ·rw[(hr.done hge).1,qCt]at ha
   rw[ha,if_pos rfl];exact⟨rfl,rfl⟩
theorem c317{b:Nat}{s:ByteArray}{t:Nat}(hb:V b=some (cell (.string s) t)){x:Ms}:PP 317 [x.v,pv b] V (.bool (decide (x.name=s))):=by
 refine x317 ?_
 unfold w317
 exact⟨_,qBw hb,rfl,rfl⟩
def IdC{α:Type}(f:FuncId)(row:α->List Value)(v:α->Value)(sz:Nat):Prop:=∀{V:Mem} {l:Sl} {xs:List α} {g:Nat} {first caps:List Value} (h:qAc V l sz (xs.map row)) (hg:qIO g) (p:α->Bool) (hp:∀x∈xs,PP g (first++[v x]++caps) V (.bool (p x))),PP f [l.v,.func (.func g) first.toArray caps.toArray] V (.int .i64 (qIQ p xs))
theorem idC{α:Type}{f:FuncId}{row:α->List Value}{v:α->Value}{sz:Nat}(H:IdxP f row v sz):IdC f row v sz:=by
 intro V l xs g first caps h hg p hp
 refine Tri.mono (H hg (fun i V1=>V=V1/\qCV (fun y=>!p y) xs i) (fun i V1=>V=V1/\∃x,xs[i]?=some x/\p x=true/\qCV (fun y=>!p y) xs i) (fun i V1 hs=>hs.1 ▸ h) ⟨rfl,qCV.zero _ _⟩ ?_) ?_
 ·rintro i x V1 hx ⟨rfl,hs⟩
  have hm:x∈xs:=List.mem_of_getElem? hx
  exact(hp x hm).callv ⟨_,rfl,fun hb=>⟨rfl,x,hx,hb,hs⟩,fun hb=>⟨rfl,qId hs hx hb⟩⟩
 ·rintro e V' (⟨i,rfl,rfl,x,hx,hb,hs⟩|⟨rfl,rfl,hs⟩)
  ·rw[qJB hs hx hb];simp_all
  ·rw[idxI_none hs (Nat.le_refl _)];simp_all
theorem idxMs:IdC 294 Ms.row Ms.v 7:=idC g294
theorem c312(h:qBB V c d){s:ByteArray}{l:Sl}{xs:List ByteArray}(hl:qAc V l 1 (xs.map qBF)):PP 312 [sV c m sc,.string s,l.v] V (.tuple #[.string (qKo d s xs).1,.int .i64 (qKo d s xs).2]):=by
 refine Pur.mk (x312 ?_)
 unfold w312
 refine⟨h.nn,h.nn,qAh h.nn,d.ms,h.cell (i:=4) rfl,fun b hb=>?_⟩
 have hs:=Mem.sub_new hb (cell (.string s) 9)
 have h1:=h.sub hs
 have hl1:=hl.sub hs
 refine(idxMs (l:=d.ms) (first:=[]) (caps:=[pv b]) h1.ok.measures Tryz.call317 (fun t=>decide (t.name=s)) (fun x _=>c317 mss)).call ⟨_,rfl,?_⟩
 unfold qKo meOf
 have key:∀{X:ByteArray×Int} (a:ByteArray) (n:Int),X=(a,n)->(Ending.returned (.tuple #[.string a,.int .i64 n])=Ending.returned (.tuple #[.string X.1,.int .i64 X.2])/\V.sub (V.set b (cell (.string s) 9))):=fun a n h=>by simp_all
 rcases qBh (fun t:Ms=>decide (t.name=s)) d.measures with⟨h1,h2,h3⟩|⟨i,x,i1,i2,i3,i4,i5,i6,i7,_⟩
 ·rw[h1,h2];exact⟨fun _=>key _ _ rfl,fun h=>absurd h (by decide)⟩
 ·rw[i1,i3]
  have hn:=h1.ok.measures.n_eq
  have hlt:(i:Int)<(d.ms.n:Int):=by omega
  obtain⟨y,hm,hx,hdr,hll,hp,hz,hrow⟩:=h1.ok.measures.get hlt
  rw[i2]at hx
  cases hx
  have e1:=hl1.n_eq
  refine⟨fun h=>absurd h (by omega),fun _=>⟨fun he=>?_,fun he=>key _ _ (if_pos (by omega))⟩⟩
  obtain⟨a1,a2,a3⟩:=qJk hl1 (i:=0) (by omega)
  have e2:¬(xs.length≠1):=by omega
  refine⟨a1,by omega,by omega,_,a3,h.nn,h.nn,qAh h.nn,d.ms,h1.cell (i:=4) rfl,hp,hz,hlt,qAh hp,_,_,_,_,_,_,_,hrow,(c298 h1).call ⟨_,rfl,fun hf=>key _ _ ?_,fun hf=>key _ _ ?_⟩⟩
  ·simp only[e2,if_false];unfold qFK;rw[if_pos hf];rfl
  ·simp only[e2,if_false];unfold qFK;rw[if_neg hf];rfl
theorem c315{b:Nat}{s:ByteArray}{t:Nat}(hb:V b=some (cell (.string s) t)){x:ByteArray}:PP 315 [strV x,pv b] V (.bool (!decide (x=s))):=by
 refine x315 ?_
 unfold w315
 exact⟨_,qBw hb,rfl,rfl⟩
theorem c313{b t:Nat}{l:Sl}{xs:List ByteArray}(hb:V b=some (cell (.slice l.p l.n l.c) t))(hl:qAc V l 1 (xs.map qBF)){s r:ByteArray} :
  PP 313 [.string s,.string r,pv b] V (.tuple #[.string (qFK (allT xs s) r).1,.int .i64 (qFK (allT xs s) r).2]):=by
 refine Pur.mk (x313 ?_)
 unfold w313
 refine⟨l,qBw hb,fun b1 hb1=>?_⟩
 have hs:=Mem.sub_new hb1 (cell (.string s) 9)
 refine(c314 (l:=l) (first:=[]) (caps:=[pv b1]) (hl.sub hs) Tryz.call315 (fun x=>!decide (x=s)) (fun x _=>c315 mss)).call ⟨_,rfl,fun h=>?_,fun h=>?_⟩
 ·rw[List.any_eq_not_all_not]at h
  have:allT xs s=false:=by grind [allT]
  rw[this];exact⟨rfl,hs⟩
 ·rw[List.any_eq_not_all_not]at h
  have:allT xs s=true:=by grind [allT]
  rw[this];exact⟨rfl,hs⟩
end
theorem fits_first{d:Ds}{a b:ByteArray}(h:qEb d a b=true):(if a=sNil then b else a)=b:=by
 grind [qEb]
theorem fits_second{d:Ds}{a b:ByteArray}(h:¬qEb d a b=true)(h2:qEb d b a=true):(if a=sNil then b else a)=a:=by
 grind [qEb,absurd]
def qFr(d:Ds)(sc:Sc)(s:ByteArray)(l:List ByteArray):ByteArray×Int:=if sc.body=true then qGG d s l else qKo d s l
theorem measT_ne{d:Ds}{s:ByteArray}{l:List ByteArray}(h:(qKo d s l).2=0):(qKo d s l).1≠sE:=by
 unfold qKo at h ⊢
 split at h
 ·omega
 ·split at h
  ·omega
  ·rename_i h'
   simp only[if_neg h']
   unfold qFK at h ⊢
   split at h
   ·rename_i h2;rw[if_pos h2];simp only;decide
   omega
theorem callE_raw(d:Ds)(sc:Sc)(s:ByteArray)(l:List ByteArray):callE d sc s l=if (qFr d sc s l).2=0/\(qFr d sc s l).1=sE then (sE,11) else qFr d sc s l:=by
 unfold callE qFr
 by_cases hb:sc.body=true
 ·simp_all
 simp_all [if_neg,absurd,measT_ne]
section
variable{V:Mem}{d:Ds}{c:Option Addr}{m:Option Nat}{sc:Sc}
def ImpE(V:Mem)(d:Ds)(c:Option Addr)(m:Option Nat)(sc:Sc)(e:E):Prop:=∀V1,V.sub V1->PP 269 [sV c m sc,e.v] V1 (.tuple #[.string (qAo d sc e).1,.int .i64 (qAo d sc e).2])
def rawT(d:Ds)(sc:Sc)(e:E):ByteArray×Int:=if (partsT d sc [] e.k).2≠0 then (sE,(partsT d sc [] e.k).2) else qFr d sc e.s (partsT d sc [] e.k).1
theorem impCall(h:qBB V c d)(e:E)(he:E.Ok V e)(hlen:(e.k.length:Int)<=6)(hk:∀x∈e.k,ImpE V d c m sc x) :
  PP 297 [sV c m sc,e.v] V (.tuple #[.string (rawT d sc e).1,.int .i64 (rawT d sc e).2]):=by
 have hr:=he.rows
 refine Pur.mk (x297 ?_)
 unfold w297 rawT
 refine loop4s (mk:=.string) (mc:=.int .i64) (md:=fun s:Sl=>.slice s.p s.n s.c) (qAr []) 0 ⟨none,0,0⟩ qBE e.k.length (fun i s V1=>∃acc,Own V V1 9 1 s (acc.flatMap qBF)/\partsT d sc [] e.k=partsT d sc acc (e.k.drop i)/\acc.length=i) ⟨[],Own.nil (Mem.sub.refl _) _ _,rfl,rfl⟩ ?_
 rintro i b b' s V1 J hi ⟨acc,hown,hp,hlen'⟩ hJ
 have hr1:=hr.sub hown.sub
 refine⟨fun hlt=>?_,fun hge=>?_⟩
 ·obtain⟨x,hm,hx,hdr,hl,hpp,hz,hrow⟩:=hr1.get hlt
  rw[hdr,qCK]at hp
  refine⟨hpp,hz,hlt,_,_,_,_,hrow,(hk x hm V1 hown.sub).call ⟨_,_,rfl,fun h0=>?_,fun h0=>?_⟩⟩
  ·intro b1 hb1
   rw[if_neg (fun h=>h h0)]at hp
   refine app220 (s:=s) (u:=⟨some ⟨b1,0,none⟩,1,1⟩) (xs:=acc) (ys:=[(qAo d sc x).1]) rfl rfl (hown.new hb1 _) (one_row mss) (by simp;omega) fun s' V' ho=>⟨s',rfl,hr1.succ hlt,hJ hl _ _ _ _ ⟨_,ho,hp,by simp[hlen']⟩⟩
  ·rw[if_pos h0]at hp
   rw[hp]
   simp only[ne_eq,h0,not_false_eq_true,if_true]
   exact⟨by trivial,hown.sub⟩
 ·rw[(hr1.done hge).1,qEH]at hp
  rw[hp]
  simp only[ne_eq,not_true_eq_false,if_false]
  have hrows:=ownS hown
  have h1:=h.sub hown.sub
  have key:∀{X:ByteArray×Int} (a:ByteArray) (n:Int),X=(a,n)->(Ending.returned (.tuple #[.string a,.int .i64 n])=Ending.returned (.tuple #[.string X.1,.int .i64 X.2])/\V.sub V1):=fun a n h=>by rw[h];exact⟨rfl,hown.sub⟩
  unfold qFr
  refine⟨fun hb=>?_,fun hb=>?_⟩
  ·rw[if_pos hb]
   obtain⟨mt,q1,q2⟩:=h1.procs
   refine⟨h.nn,h.nn,_,q1,qBi.str Tryz.underlying270 Tryz.underlying9 zero143 q2 ?_⟩
   unfold qGG
   cases hpr:qHZ d e.s with
   | none=>exact⟨_,⟨none,0,0⟩,_,⟨none,0,0⟩,⟨none,0,0⟩,_,rfl,fun h=>absurd h (by simp),fun _=>key _ _ rfl⟩
   | some p =>
    have hox:=h1.ok.procsOk p (qKe hpr)
    have e1:=hrows.n_eq
    have e2:=hox.params.n_eq
    refine⟨_,p.ps,_,p.ls,p.bs,_,rfl,fun _=>⟨fun he=>?_,fun he=>key _ _ (if_pos (by omega))⟩,fun h=>absurd rfl h⟩
    have hle:acc.length=p.params.length:=by omega
    simp only[hle,ne_eq,not_true_eq_false,if_false]
    refine loop3 acc.length (fun i V2=>V1=V2/\qCw d acc p.params=qCw d (acc.drop i) (p.params.drop i)) ⟨rfl,rfl⟩ ?_
    rintro j b c' V2 J hi ⟨rfl,ha⟩ hJ
    refine⟨fun hlt=>?_,fun hge=>?_⟩
    ·obtain⟨y,hm',hx',hdr',hl',hp',hz',hrow'⟩:=hrows.get hlt
     obtain⟨f,hmf,hxf,hdf,hlf,hpf,hzf,hrowf⟩:=hox.params.get (i:=j) (by omega)
     rw[hdr',hdf,qCw]at ha
     refine⟨hp',hz',hlt,_,hrow',hpf,hzf,by omega,qAh hpf,_,_,hrowf,(c298 h1).call ⟨_,rfl,fun hb=>⟨hrows.succ hlt,hJ hl' _ _ _ ⟨rfl,?_⟩⟩,fun hb=>key _ _ ?_⟩⟩
     ·simp_all
     ·rw[eq_false_of_ne_true hb,Bool.false_and]at ha;rw[ha];rfl
    ·rw[(hrows.done hge).1,fitAll_nil]at ha
     simp_all
  ·rw[if_neg hb]
   exact(c312 h1 hrows).call ⟨_,_,rfl,key _ _ rfl⟩
theorem impNode(h:qBB V c d)(hv:VNe d)(hs:qHk V m sc){e:E}{l:Sl}{xs:List ByteArray}(hl:qAc V l 1 (xs.map qBF))(hlen:xs.length=e.k.length)(hok:qER e.op e.n e.s e.k.length=true)(h7:e.op≠7) :
  PP 300 [sV c m sc,e.v,l.v] V (.tuple #[.string (qGx d sc e.op e.s xs).1,.int .i64 (qGx d sc e.op e.s xs).2]):=by
 have har:=arity hok
 refine Pur.mk (x300 ?_)
 unfold w300
 generalize hX:qGx d sc e.op e.s xs=X
 have key:∀{V1:Mem} (a:ByteArray) (n:Int),V.sub V1->X=(a,n)->(Ending.returned (.tuple #[.string a,.int .i64 n])=Ending.returned (.tuple #[.string X.1,.int .i64 X.2])/\V.sub V1):=fun a n h1 h=>by simp_all
 have rf:=Mem.sub.refl V
 have cFits:=fun a b=>c298 h (s:=a) (t:=b)
 have at0:=fun h:0<xs.length=>qJk hl h
 have at1:=fun h:1<xs.length=>qJk hl h
 have at2:=fun h:2<xs.length=>qJk hl h
 have call:∀(s r:ByteArray),X=qFK (allT xs s) r->qAp [(.slice l.p l.n l.c)] 220 V fun v8 V1 =>
   Tri Tryz.prog 313 #[(.string s),(.string r),(.pointer (qAa v8 0))] V1 fun z V2=>∃v9:ByteArray,∃v10:Int,z=.returned (.tuple #[(.string v9),(.int .i64 v10)])/\(Ending.returned (.tuple #[(.string v9),(.int .i64 v10)])=Ending.returned (.tuple #[.string X.1,.int .i64 X.2])/\V.sub V2):=fun s r hx b hb=>by
  have h1:=Mem.sub_new hb (cell (.slice l.p l.n l.c) 220)
  exact(c313 (l:=l) mss (hl.sub h1)).call ⟨_,_,rfl,key _ _ h1 (by rw[hx])⟩
 unfold qGx at hX
 refine⟨fun o1=>key _ _ rf ?_,fun o1=>⟨fun o2=>key _ _ rf ?_,fun o2=>⟨fun o3=>key _ _ rf ?_,fun o3=>⟨fun o4=>?_,fun o4=>⟨fun o5=>?_,fun o5=>⟨fun o6=>?_,fun o6=>⟨fun o14=>?_,fun o14=>⟨fun o15=>?_,fun o15=>⟨fun o16=>call _ _ ?_,fun o16=>⟨fun o17=>call _ _ ?_,fun o17=>⟨fun o18=>call _ _ ?_,fun o18=>⟨fun o19=>call _ _ ?_,fun o19=>⟨fun o20=>call _ _ ?_,fun o20=>⟨fun o21=>?_,fun o21=>call _ _ ?_⟩⟩⟩⟩⟩⟩⟩⟩⟩⟩⟩⟩⟩⟩
 ·rw[<- hX,if_pos o1];rfl
 ·rw[<- hX,if_neg o1,if_pos o2];rfl
 ·rw[<- hX,if_neg o1,if_neg o2,if_pos o3];rfl
 ·rw[if_neg o1,if_neg o2,if_neg o3,if_pos o4,qJg]at hX
  obtain⟨mb,rfl,hmap⟩:=hs.at_
  refine qBi.str Tryz.underlying312 Tryz.underlying9 zero9 hmap ?_
  cases hvv:qBH sc.vars e.s with
  | none =>
   rw[hvv,Option.getD_none]at hX
   exact⟨_,_,rfl,fun h=>absurd h (by simp),fun _=>key _ _ rf (by rw[<- hX,if_pos rfl];rfl)⟩
  | some t =>
   rw[hvv,Option.getD_some]at hX
   exact⟨t,_,rfl,fun _=>key _ _ rf (by rw[<- hX,if_neg (hs.ne.some hvv)]),fun h=>absurd rfl h⟩
 ·rw[if_neg o1,if_neg o2,if_neg o3,if_neg o4,if_pos o5]at hX
  obtain⟨a1,a2,a3⟩:=at0 (by omega)
  exact⟨a1,by omega,a2,_,a3,(c299 h hv).call ⟨_,_,rfl,key _ _ rf (by rw[<- hX])⟩⟩
 ·rw[if_neg o1,if_neg o2,if_neg o3,if_neg o4,if_neg o5,if_pos o6]at hX
  refine⟨fun hb=>(c230 h).call ⟨_,rfl,fun hn=>key _ _ rf ?_,fun hn=>key _ _ rf ?_⟩,fun hb=>key _ _ rf ?_⟩
  ·simp_all
  ·rw[<- hX,if_neg (by rw[hb];simp),if_pos (eq_false_of_ne_true hn)];rfl
  ·rw[<- hX,if_pos (eq_false_of_ne_true hb)];rfl
 iterate 2
  ·rw[if_neg o1,if_neg o2,if_neg o3,if_neg o4,if_neg o5,if_neg o6,if_neg h7,if_pos (by omega)]at hX
   obtain⟨a1,a2,a3⟩:=at0 (by have:=har.2.1 (by omega);omega)
   obtain⟨b1,b2,b3⟩:=at1 (by have:=har.2.1 (by omega);omega)
   refine⟨a1,by omega,a2,_,a3,b1,by omega,b2,_,b3,(cFits _ _).call ⟨_,rfl,fun h=>key _ _ rf ?_,fun h=>⟨b1,by omega,b2,_,b3,a1,by omega,a2,_,a3,(cFits _ _).call ⟨_,rfl,fun h2=>key _ _ rf ?_,fun h2=>key _ _ rf ?_⟩⟩⟩⟩
   ·rw[<- hX,h];rfl
   ·rw[<- hX,h2,Bool.or_true];rfl
   ·rw[<- hX,eq_false_of_ne_true h,eq_false_of_ne_true h2];rfl
 iterate 2
  ·rw[if_neg o1,if_neg o2,if_neg o3,if_neg o4,if_neg o5,if_neg o6,if_neg h7,if_neg (by omega),if_pos (by omega)]at hX
   exact hX.symm
 iterate 3
  ·rw[if_neg o1,if_neg o2,if_neg o3,if_neg o4,if_neg o5,if_neg o6,if_neg h7,if_neg (by omega),if_neg (by omega),if_pos (by omega)]at hX
   exact hX.symm
 ·rw[if_neg o1,if_neg o2,if_neg o3,if_neg o4,if_neg o5,if_neg o6,if_neg h7,if_neg (by omega),if_neg (by omega),if_neg (by omega),if_pos o21]at hX
  obtain⟨a1,a2,a3⟩:=at0 (by omega)
  obtain⟨b1,b2,b3⟩:=at1 (by omega)
  obtain⟨c1,c2,c3⟩:=at2 (by omega)
  refine⟨a1,by omega,a2,_,a3,fun h0=>⟨b1,by omega,b2,_,b3,c1,by omega,c2,_,c3,(cFits _ _).call ⟨_,rfl,fun h=>⟨c1,by omega,c2,_,c3,key _ _ rf ?_⟩,fun h=>⟨c1,by omega,c2,_,c3,b1,by omega,b2,_,b3,(cFits _ _).call ⟨_,rfl,fun h2=>⟨b1,by omega,b2,_,b3,key _ _ rf ?_⟩,fun h2=>key _ _ rf ?_⟩⟩⟩⟩,fun h0=>key _ _ rf ?_⟩
  ·rw[<- hX,decide_eq_true (show xs.getD 0 sE=qAw from h0),h,fits_first h];rfl
  ·rw[<- hX,decide_eq_true (show xs.getD 0 sE=qAw from h0),h2,Bool.or_true,fits_second h h2];rfl
  ·rw[<- hX,decide_eq_true (show xs.getD 0 sE=qAw from h0),eq_false_of_ne_true h,eq_false_of_ne_true h2];rfl
  ·rw[<- hX,decide_eq_false (show ¬xs.getD 0 sE=qAw from h0)];rfl
 ·rw[if_neg o1,if_neg o2,if_neg o3,if_neg o4,if_neg o5,if_neg o6,if_neg h7,if_neg (by omega),if_neg (by omega),if_neg (by omega),if_neg o21]at hX
  exact hX.symm
theorem impExpr(h:qBB V c d)(hv:VNe d)(hs:qHk V m sc):∀(e:E),E.Ok V e->∀dd,okE dd e=true->ImpE V d c m sc e:=by
 intro e
 induction e using E.ind with
 | h e ih =>
 intro he dd hok V1 hV
 have har:=arity (qKl hok)
 have hk:∀x∈e.k,ImpE V1 d c m sc x:=fun x hx V2 h2=>ih x hx (he.kids x hx) (dd+1) (okE_kids hok x hx) V2 (hV.trans h2)
 have h1:=h.sub hV
 refine Pur.mk (x269 ?_)
 unfold w269
 have hlen:=qJt d sc e.k []
 refine⟨fun o7=>(impCall h1 e (he.sub hV) har.2.2.2 hk).call ⟨_,_,rfl,?_⟩,fun o7=>?_⟩
 ·have hex:qAo d sc e=if (rawT d sc e).2=0/\(rawT d sc e).1=sE then (sE,11) else rawT d sc e:=by
   rw[qKE]
   unfold rawT
   by_cases h0:(partsT d sc [] e.k).2≠0
   ·simp_all
   simp_all [if_neg,qGx,if_pos,callE_raw]
  rw[hex]
  refine⟨fun h0=>⟨fun h2=>?_,fun h2=>?_⟩,fun h0=>?_⟩
  ·rw[if_pos ⟨h0,h2⟩];exact⟨rfl,Mem.sub.refl _⟩
  ·rw[if_neg (fun h=>h2 h.2)];exact⟨rfl,Mem.sub.refl _⟩
  ·rw[if_neg (fun h=>h0 h.1)];exact⟨rfl,Mem.sub.refl _⟩
 ·rw[qKE]
  have hr:=(he.sub hV).rows
  refine loop4s (mk:=.string) (mc:=.int .i64) (md:=fun s:Sl=>.slice s.p s.n s.c) (qAr []) 0 ⟨none,0,0⟩ qBE e.k.length (fun i s V2=>∃acc,Own V1 V2 9 1 s (acc.flatMap qBF)/\partsT d sc [] e.k=partsT d sc acc (e.k.drop i)/\acc.length=i) ⟨[],Own.nil (Mem.sub.refl _) _ _,rfl,rfl⟩ ?_
  rintro i b b' s V2 J hi ⟨acc,hown,hp,hlen'⟩ hJ
  have hr1:=hr.sub hown.sub
  refine⟨fun hlt=>?_,fun hge=>?_⟩
  ·obtain⟨x,hm,hx,hdr,hl,hpp,hz,hrow⟩:=hr1.get hlt
   rw[hdr,qCK]at hp
   refine⟨hpp,hz,hlt,_,_,_,_,hrow,(hk x hm V2 hown.sub).call ⟨_,_,rfl,fun h0=>?_,fun h0=>?_⟩⟩
   ·intro b1 hb1
    rw[if_neg (fun h=>h h0)]at hp
    refine app220 (s:=s) (u:=⟨some ⟨b1,0,none⟩,1,1⟩) (xs:=acc) (ys:=[(qAo d sc x).1]) rfl rfl (hown.new hb1 _) (one_row mss) (by simp;omega) fun s' V' ho=>⟨s',rfl,hr1.succ hlt,hJ hl _ _ _ _ ⟨_,ho,hp,by simp[hlen']⟩⟩
   ·rw[if_pos h0]at hp
    rw[hp]
    simp only[ne_eq,h0,not_false_eq_true,if_true]
    exact⟨by trivial,hown.sub⟩
  ·have hge':=(hr1.done hge).2
   rw[(hr1.done hge).1,qEH]at hp
   rw[hp]
   simp only[ne_eq,not_true_eq_false,if_false]
   refine(impNode (h1.sub hown.sub) hv ((hs.sub hV).sub hown.sub) (ownS hown) (by omega) (qKl hok) o7).call ⟨_,_,rfl,rfl,hown.sub⟩
end
theorem qGQ{c k:Nat}{p:Option Addr}:(if (c:Int)=(0:Int) then p else qAa p ((0:Int).toNat*k))=p:=by
 have:qAa p ((0:Int).toNat*k)=p:=by
  rw[show (0:Int).toNat*k=0 by simp]
  cases p with
  | none=>rfl
  | some a=>show some (a.add 0)=_;unfold Addr.add;rw[if_pos rfl]
 split
 ·rfl
 ·exact this
theorem sub0{n:Nat}:((n:Int)-(0:Int)).toNat=n:=by omega
theorem qAc.pre{α:Type}{V:Mem}{l:Sl}{sz:Nat}{row:α->List Value}{xs:List α}(h:qAc V l sz (xs.map row)){i:Nat}(hi:i<=xs.length):qAc V ⟨l.p,i,l.c⟩ sz ((xs.take i).map row):=by
 have hn:=h.n_eq
 have hc:=h.cap
 refine⟨by simp[hi],by grind,h.fit,fun r hr=>h.size r ?_,fun j r hj=>h.at_ j r ?_⟩
 ·grind
 grind
theorem qBS{V:Mem}{p:Option Addr}{off n:Nat}{vs:List Value}(h:V.rowp p off n=some vs):V.rowp (qAa p off) 0 n=some vs:=by
 cases p with
 | none=>cases h
 | some a =>
  have:(a.add off).add 0=a.add off:=by rfl
  show V.row ((a.add off).add 0) n=_
  rw[this];exact h
theorem c221{V:Mem}{x:Ty}:PP 221 [x.v] V (.string x.name):=by
 refine x221 ?_
 exact⟨rfl,rfl⟩
theorem c258{V:Mem}{b1 b2 b3 t1 t2 t3 i:Nat}{l:Sl}{xs:List Ty}{x y:Ty}(h1:V b1=some (cell (.func (.func 221) #[] #[]) t1))(h2:V b2=some (cell (.slice l.p l.n l.c) t2))(h3:V b3=some (cell (.int .i64 i) t3))
  (hr:qAc V l 2 (xs.map Ty.row)) (hy:xs[i]?=some y):PP 258 [x.v,pv b1,pv b2,pv b3] V (.bool (decide (x.name=y.name))):=by
 refine x258 ?_
 unfold w258
 have hn:=hr.n_eq
 have hil:=(List.getElem?_eq_some_iff.1 hy).1
 have hlt:(i:Int)<(l.n:Int):=by omega
 obtain⟨y',hm,hx,hdr,hl,hp,hz,hrow⟩:=hr.get hlt
 rw[hy]at hx
 cases hx
 exact⟨.func (.func 221) #[] #[],rfl,qBw h1,.func (.func 221) #[] #[],rfl,qBw h1,l,qBw h2,_,qBw h3,hp,hz,hlt,_,_,hrow,_,_,_,rfl,Tryz.call221,(c221 (x:=x)).callv (first:=[]) (caps:=[]) ⟨_,rfl,qBS hrow,hp,hz,hlt,qBw h3,qBw h2,qBw h1,_,_,_,rfl,Tryz.call221,(c221 (x:=y)).callv (first:=[]) (caps:=[]) ⟨_,rfl,rfl,rfl⟩⟩⟩
theorem c220{V:Mem}{l:Sl}{xs:List Ty}{i:Nat}{y:Ty}(hr:qAc V l 2 (xs.map Ty.row))(hy:xs[i]?=some y):PP 220 [l.v,.int .i64 i,.func (.func 221) #[] #[]] V (.bool ((xs.take i).any fun g=>decide (g.name=y.name))):=by
 refine Pur.mk (x220 (a:=l) (c:=.func (.func 221) #[] #[]) ?_)
 unfold w220
 have hn:=hr.n_eq
 have hc:=hr.cap
 have hil:=(List.getElem?_eq_some_iff.1 hy).1
 refine⟨⟨by omega,by omega,by omega⟩,fun b1 hb1 b2 hb2 b3 hb3=>?_⟩
 have s:=(Mem.sub_new hb1 _).trans ((Mem.sub_new hb2 _).trans (Mem.sub_new hb3 (cell (.int .i64 i) 3)))
 simp only[qGQ,sub0]
 refine(c126 (l:=⟨l.p,i,l.c⟩) (first:=[]) (caps:=[pv b1,pv b2,pv b3]) (qAc.pre (hr.sub s) (by omega)) Tryz.call258 (fun g=>decide (g.name=y.name)) (fun x _=>c258 ((Mem.sub_new hb3 _) _ _ ((Mem.sub_new hb2 _) _ _ mss)) ((Mem.sub_new hb3 _) _ _ mss) mss (hr.sub s) hy)).call ⟨_,rfl,rfl,s⟩
theorem c224{V:Mem}{x:Fld}:PP 224 [x.v] V (.string x.name):=by
 refine x224 ?_
 exact⟨rfl,rfl⟩
theorem c260{V:Mem}{b1 b2 b3 t1 t2 t3 i:Nat}{l:Sl}{xs:List Fld}{x y:Fld}(h1:V b1=some (cell (.func (.func 224) #[] #[]) t1))(h2:V b2=some (cell (.slice l.p l.n l.c) t2))(h3:V b3=some (cell (.int .i64 i) t3))
  (hr:qAc V l 2 (xs.map Fld.row)) (hy:xs[i]?=some y):PP 260 [x.v,pv b1,pv b2,pv b3] V (.bool (decide (x.name=y.name))):=by
 refine x260 ?_
 unfold w260
 have hn:=hr.n_eq
 have hil:=(List.getElem?_eq_some_iff.1 hy).1
 have hlt:(i:Int)<(l.n:Int):=by omega
 obtain⟨y',hm,hx,hdr,hl,hp,hz,hrow⟩:=hr.get hlt
 rw[hy]at hx
 cases hx
 exact⟨.func (.func 224) #[] #[],rfl,qBw h1,.func (.func 224) #[] #[],rfl,qBw h1,l,qBw h2,_,qBw h3,hp,hz,hlt,_,_,hrow,_,_,_,rfl,Tryz.call224,(c224 (x:=x)).callv (first:=[]) (caps:=[]) ⟨_,rfl,qBS hrow,hp,hz,hlt,qBw h3,qBw h2,qBw h1,_,_,_,rfl,Tryz.call224,(c224 (x:=y)).callv (first:=[]) (caps:=[]) ⟨_,rfl,rfl,rfl⟩⟩⟩
theorem c223{V:Mem}{l:Sl}{xs:List Fld}{i:Nat}{y:Fld}(hr:qAc V l 2 (xs.map Fld.row))(hy:xs[i]?=some y):PP 223 [l.v,.int .i64 i,.func (.func 224) #[] #[]] V (.bool ((xs.take i).any fun g=>decide (g.name=y.name))):=by
 refine Pur.mk (x223 (a:=l) (c:=.func (.func 224) #[] #[]) ?_)
 unfold w223
 have hn:=hr.n_eq
 have hc:=hr.cap
 have hil:=(List.getElem?_eq_some_iff.1 hy).1
 refine⟨⟨by omega,by omega,by omega⟩,fun b1 hb1 b2 hb2 b3 hb3=>?_⟩
 have s:=(Mem.sub_new hb1 _).trans ((Mem.sub_new hb2 _).trans (Mem.sub_new hb3 (cell (.int .i64 i) 3)))
 simp only[qGQ,sub0]
 refine(c122 (l:=⟨l.p,i,l.c⟩) (first:=[]) (caps:=[pv b1,pv b2,pv b3]) (qAc.pre (hr.sub s) (by omega)) Tryz.call260 (fun g=>decide (g.name=y.name)) (fun x _=>c260 ((Mem.sub_new hb3 _) _ _ ((Mem.sub_new hb2 _) _ _ mss)) ((Mem.sub_new hb3 _) _ _ mss) mss (hr.sub s) hy)).call ⟨_,rfl,rfl,s⟩
theorem c227{V:Mem}{x:Pr}:PP 227 [x.v] V (.string x.name):=by
 refine x227 ?_
 exact⟨rfl,rfl⟩
theorem c261{V:Mem}{b1 b2 b3 t1 t2 t3 i:Nat}{l:Sl}{xs:List Pr}{x y:Pr}(h1:V b1=some (cell (.func (.func 227) #[] #[]) t1))(h2:V b2=some (cell (.slice l.p l.n l.c) t2))(h3:V b3=some (cell (.int .i64 i) t3))
  (hr:qAc V l 5 (xs.map Pr.row)) (hy:xs[i]?=some y):PP 261 [x.v,pv b1,pv b2,pv b3] V (.bool (decide (x.name=y.name))):=by
 refine x261 ?_
 unfold w261
 have hn:=hr.n_eq
 have hil:=(List.getElem?_eq_some_iff.1 hy).1
 have hlt:(i:Int)<(l.n:Int):=by omega
 obtain⟨y',hm,hx,hdr,hl,hp,hz,hrow⟩:=hr.get hlt
 rw[hy]at hx
 cases hx
 exact⟨.func (.func 227) #[] #[],rfl,qBw h1,.func (.func 227) #[] #[],rfl,qBw h1,l,qBw h2,_,qBw h3,hp,hz,hlt,_,_,_,_,_,hrow,_,_,_,rfl,Tryz.call227,(c227 (x:=x)).callv (first:=[]) (caps:=[]) ⟨_,rfl,qBS hrow,hp,hz,hlt,qBw h3,qBw h2,qBw h1,_,_,_,rfl,Tryz.call227,(c227 (x:=y)).callv (first:=[]) (caps:=[]) ⟨_,rfl,rfl,rfl⟩⟩⟩
theorem c226{V:Mem}{l:Sl}{xs:List Pr}{i:Nat}{y:Pr}(hr:qAc V l 5 (xs.map Pr.row))(hy:xs[i]?=some y):PP 226 [l.v,.int .i64 i,.func (.func 227) #[] #[]] V (.bool ((xs.take i).any fun g=>decide (g.name=y.name))):=by
 refine Pur.mk (x226 (a:=l) (c:=.func (.func 227) #[] #[]) ?_)
 unfold w226
 have hn:=hr.n_eq
 have hc:=hr.cap
 have hil:=(List.getElem?_eq_some_iff.1 hy).1
 refine⟨⟨by omega,by omega,by omega⟩,fun b1 hb1 b2 hb2 b3 hb3=>?_⟩
 have s:=(Mem.sub_new hb1 _).trans ((Mem.sub_new hb2 _).trans (Mem.sub_new hb3 (cell (.int .i64 i) 3)))
 simp only[qGQ,sub0]
 refine(c169 (l:=⟨l.p,i,l.c⟩) (first:=[]) (caps:=[pv b1,pv b2,pv b3]) (qAc.pre (hr.sub s) (by omega)) Tryz.call261 (fun g=>decide (g.name=y.name)) (fun x _=>c261 ((Mem.sub_new hb3 _) _ _ ((Mem.sub_new hb2 _) _ _ mss)) ((Mem.sub_new hb3 _) _ _ mss) mss (hr.sub s) hy)).call ⟨_,rfl,rfl,s⟩
theorem c229{V:Mem}{x:Ms}:PP 229 [x.v] V (.string x.name):=by
 refine x229 ?_
 exact⟨rfl,rfl⟩
theorem c263{V:Mem}{b1 b2 b3 t1 t2 t3 i:Nat}{l:Sl}{xs:List Ms}{x y:Ms}(h1:V b1=some (cell (.func (.func 229) #[] #[]) t1))(h2:V b2=some (cell (.slice l.p l.n l.c) t2))(h3:V b3=some (cell (.int .i64 i) t3))
  (hr:qAc V l 7 (xs.map Ms.row)) (hy:xs[i]?=some y):PP 263 [x.v,pv b1,pv b2,pv b3] V (.bool (decide (x.name=y.name))):=by
 refine x263 ?_
 unfold w263
 have hn:=hr.n_eq
 have hil:=(List.getElem?_eq_some_iff.1 hy).1
 have hlt:(i:Int)<(l.n:Int):=by omega
 obtain⟨y',hm,hx,hdr,hl,hp,hz,hrow⟩:=hr.get hlt
 rw[hy]at hx
 cases hx
 exact⟨.func (.func 229) #[] #[],rfl,qBw h1,.func (.func 229) #[] #[],rfl,qBw h1,l,qBw h2,_,qBw h3,hp,hz,hlt,_,_,_,_,_,_,_,hrow,_,_,_,rfl,Tryz.call229,(c229 (x:=x)).callv (first:=[]) (caps:=[]) ⟨_,rfl,qBS hrow,hp,hz,hlt,qBw h3,qBw h2,qBw h1,_,_,_,rfl,Tryz.call229,(c229 (x:=y)).callv (first:=[]) (caps:=[]) ⟨_,rfl,rfl,rfl⟩⟩⟩
theorem c228{V:Mem}{l:Sl}{xs:List Ms}{i:Nat}{y:Ms}(hr:qAc V l 7 (xs.map Ms.row))(hy:xs[i]?=some y):PP 228 [l.v,.int .i64 i,.func (.func 229) #[] #[]] V (.bool ((xs.take i).any fun g=>decide (g.name=y.name))):=by
 refine Pur.mk (x228 (a:=l) (c:=.func (.func 229) #[] #[]) ?_)
 unfold w228
 have hn:=hr.n_eq
 have hc:=hr.cap
 have hil:=(List.getElem?_eq_some_iff.1 hy).1
 refine⟨⟨by omega,by omega,by omega⟩,fun b1 hb1 b2 hb2 b3 hb3=>?_⟩
 have s:=(Mem.sub_new hb1 _).trans ((Mem.sub_new hb2 _).trans (Mem.sub_new hb3 (cell (.int .i64 i) 3)))
 simp only[qGQ,sub0]
 refine(c262 (l:=⟨l.p,i,l.c⟩) (first:=[]) (caps:=[pv b1,pv b2,pv b3]) (qAc.pre (hr.sub s) (by omega)) Tryz.call263 (fun g=>decide (g.name=y.name)) (fun x _=>c263 ((Mem.sub_new hb3 _) _ _ ((Mem.sub_new hb2 _) _ _ mss)) ((Mem.sub_new hb3 _) _ _ mss) mss (hr.sub s) hy)).call ⟨_,rfl,rfl,s⟩
theorem c232{V:Mem}{x:Iv}:PP 232 [x.v] V (.string x.name):=by
 refine x232 ?_
 exact⟨rfl,rfl⟩
theorem c265{V:Mem}{b1 b2 b3 t1 t2 t3 i:Nat}{l:Sl}{xs:List Iv}{x y:Iv}(h1:V b1=some (cell (.func (.func 232) #[] #[]) t1))(h2:V b2=some (cell (.slice l.p l.n l.c) t2))(h3:V b3=some (cell (.int .i64 i) t3))
  (hr:qAc V l 6 (xs.map Iv.row)) (hy:xs[i]?=some y):PP 265 [x.v,pv b1,pv b2,pv b3] V (.bool (decide (x.name=y.name))):=by
 refine x265 ?_
 unfold w265
 have hn:=hr.n_eq
 have hil:=(List.getElem?_eq_some_iff.1 hy).1
 have hlt:(i:Int)<(l.n:Int):=by omega
 obtain⟨y',hm,hx,hdr,hl,hp,hz,hrow⟩:=hr.get hlt
 rw[hy]at hx
 cases hx
 exact⟨.func (.func 232) #[] #[],rfl,qBw h1,.func (.func 232) #[] #[],rfl,qBw h1,l,qBw h2,_,qBw h3,hp,hz,hlt,_,_,_,_,_,_,hrow,_,_,_,rfl,Tryz.call232,(c232 (x:=x)).callv (first:=[]) (caps:=[]) ⟨_,rfl,qBS hrow,hp,hz,hlt,qBw h3,qBw h2,qBw h1,_,_,_,rfl,Tryz.call232,(c232 (x:=y)).callv (first:=[]) (caps:=[]) ⟨_,rfl,rfl,rfl⟩⟩⟩
theorem c231{V:Mem}{l:Sl}{xs:List Iv}{i:Nat}{y:Iv}(hr:qAc V l 6 (xs.map Iv.row))(hy:xs[i]?=some y):PP 231 [l.v,.int .i64 i,.func (.func 232) #[] #[]] V (.bool ((xs.take i).any fun g=>decide (g.name=y.name))):=by
 refine Pur.mk (x231 (a:=l) (c:=.func (.func 232) #[] #[]) ?_)
 unfold w231
 have hn:=hr.n_eq
 have hc:=hr.cap
 have hil:=(List.getElem?_eq_some_iff.1 hy).1
 refine⟨⟨by omega,by omega,by omega⟩,fun b1 hb1 b2 hb2 b3 hb3=>?_⟩
 have s:=(Mem.sub_new hb1 _).trans ((Mem.sub_new hb2 _).trans (Mem.sub_new hb3 (cell (.int .i64 i) 3)))
 simp only[qGQ,sub0]
 refine(c264 (l:=⟨l.p,i,l.c⟩) (first:=[]) (caps:=[pv b1,pv b2,pv b3]) (qAc.pre (hr.sub s) (by omega)) Tryz.call265 (fun g=>decide (g.name=y.name)) (fun x _=>c265 ((Mem.sub_new hb3 _) _ _ ((Mem.sub_new hb2 _) _ _ mss)) ((Mem.sub_new hb3 _) _ _ mss) mss (hr.sub s) hy)).call ⟨_,rfl,rfl,s⟩
theorem c234{V:Mem}{x:Bd}:PP 234 [x.v] V (.string x.proc):=by
 refine x234 ?_
 exact⟨rfl,rfl⟩
theorem c266{V:Mem}{b1 b2 b3 t1 t2 t3 i:Nat}{l:Sl}{xs:List Bd}{x y:Bd}(h1:V b1=some (cell (.func (.func 234) #[] #[]) t1))(h2:V b2=some (cell (.slice l.p l.n l.c) t2))(h3:V b3=some (cell (.int .i64 i) t3))
  (hr:qAc V l 5 (xs.map Bd.row)) (hy:xs[i]?=some y):PP 266 [x.v,pv b1,pv b2,pv b3] V (.bool (decide (x.proc=y.proc))):=by
 refine x266 ?_
 unfold w266
 have hn:=hr.n_eq
 have hil:=(List.getElem?_eq_some_iff.1 hy).1
 have hlt:(i:Int)<(l.n:Int):=by omega
 obtain⟨y',hm,hx,hdr,hl,hp,hz,hrow⟩:=hr.get hlt
 rw[hy]at hx
 cases hx
 exact⟨.func (.func 234) #[] #[],rfl,qBw h1,.func (.func 234) #[] #[],rfl,qBw h1,l,qBw h2,_,qBw h3,hp,hz,hlt,_,_,_,_,_,hrow,_,_,_,rfl,Tryz.call234,(c234 (x:=x)).callv (first:=[]) (caps:=[]) ⟨_,rfl,qBS hrow,hp,hz,hlt,qBw h3,qBw h2,qBw h1,_,_,_,rfl,Tryz.call234,(c234 (x:=y)).callv (first:=[]) (caps:=[]) ⟨_,rfl,rfl,rfl⟩⟩⟩
theorem c233{V:Mem}{l:Sl}{xs:List Bd}{i:Nat}{y:Bd}(hr:qAc V l 5 (xs.map Bd.row))(hy:xs[i]?=some y):PP 233 [l.v,.int .i64 i,.func (.func 234) #[] #[]] V (.bool ((xs.take i).any fun g=>decide (g.proc=y.proc))):=by
 refine Pur.mk (x233 (a:=l) (c:=.func (.func 234) #[] #[]) ?_)
 unfold w233
 have hn:=hr.n_eq
 have hc:=hr.cap
 have hil:=(List.getElem?_eq_some_iff.1 hy).1
 refine⟨⟨by omega,by omega,by omega⟩,fun b1 hb1 b2 hb2 b3 hb3=>?_⟩
 have s:=(Mem.sub_new hb1 _).trans ((Mem.sub_new hb2 _).trans (Mem.sub_new hb3 (cell (.int .i64 i) 3)))
 simp only[qGQ,sub0]
 refine(c206 (l:=⟨l.p,i,l.c⟩) (first:=[]) (caps:=[pv b1,pv b2,pv b3]) (qAc.pre (hr.sub s) (by omega)) Tryz.call266 (fun g=>decide (g.proc=y.proc)) (fun x _=>c266 ((Mem.sub_new hb3 _) _ _ ((Mem.sub_new hb2 _) _ _ mss)) ((Mem.sub_new hb3 _) _ _ mss) mss (hr.sub s) hy)).call ⟨_,rfl,rfl,s⟩
end Go.Proofs
namespace Go.Proofs
open Go Go.Sx
theorem wrap_id{n:Nat}(h:n<=2147483648):IntKind.wrap .i64 (n:Int)=n:=qGY ⟨by show (-9223372036854775808:Int)<=n;omega,by show (n:Int)<=9223372036854775807;omega⟩
theorem qHg{P:Program}(w:World)(t u ty e:TypeId)(i:TypeInfo)(z:Value)(ht:P.underlying t=some (.slice e))(hu:P.underlying u=some (.int .i64))(hi:P.info? e=some i)(hz:i.zero=some z)
  (n:Nat) (h0:0<n) (hn:n<=2147483648) (hb:i.bytes<=65536) (hs:0<i.size) :
  (Builtin.append_ #[t,u] ty #[.slice none 0 0,.int .i64 n]).run P w =
   .ok (.slice (some ⟨w.heap.size,0,none⟩) n (grownCap w n 0 e)) (w.drew.alloc (.cells (Builtin.zeroCells z.cells n++Builtin.zeroCells z.cells (grownCap w n 0 e-n)) e)):=by
 have hn':n≠0:=by omega
 have h63':¬(9223372036854775807<(n:Int)):=by omega
 have hbm:n*i.bytes<=281474976710656:=Nat.le_trans (Nat.mul_le_mul hn hb) (by decide)
 have h48':¬(281474976710656<Builtin.nextslicecap n 0*i.bytes):=by rw[nextslicecap_zero h0];omega
 have h48i:¬(281474976710656<(n:Int)*(i.bytes:Int)):=by omega
 have hlt:¬((n:Int)<0):=by omega
 have hsz:i.size≠0:=by omega
 simp[Builtin.append_,run_underlying ht,run_underlying hu,sizeOf,typeInfo,zeroValue,hi,hz,hn',h63',h48',h48i,hlt,hsz,wrap_id hn,asInt,asIntOf,Question.forced,run_firstCells_none,newRow,grownCap]
 simp_all [absurd,Nat.ne_of_gt,Nat.mul_pos]
theorem GenK.appendZ{P:Program}{V0 V:Mem}{t u e ty:TypeId}{i:TypeInfo}{z:Value}{sz:Nat}(ht:P.underlying t=some (.slice e))(hu:P.underlying u=some (.int .i64))(hi:P.info? e=some i)(hz:i.zero=some z)(hsize:i.size=sz)(hzs:z.cells.size=sz)(hsz:0<sz)(hby:i.bytes<=65536)
  {x y:Operand} {vals:Operand->Value} {n:Nat} (hx:vals x=.slice none 0 0) (hy:vals y=.int .i64 n) (h0:0<n) (hn:n<=2147483648) (hV:V0.sub V) {q:Value->Mem->Prop}
  (hq:∀b c V',Own V0 V' e sz ⟨some ⟨b,0,none⟩,0,c⟩ []->n<=c->c<=9223372036854775807->q (.slice (sa b) n c) V') :
  GenK P (.call { callee:=.builtin .append,args:=#[x,y],argTypes:=#[t,u] }) ty vals V q:=by
 intro w hw
 subst hsize
 have hr:=qHg (P:=P) w t u ty e i z ht hu hi hz n h0 hn hby hsz
 obtain⟨hnone,hf⟩:=Frm.new hw (.cells (Builtin.zeroCells z.cells n++Builtin.zeroCells z.cells (grownCap w n 0 e-n)) e)
 have hge:=grownCap_ge w n 0 e
 have hle:=grownCap_le_maxLen w n 0 e (by simp only[maxLen];omega)
 refine⟨_,_,_,?_,hf,hq w.heap.size (grownCap w n 0 e) _ ⟨Mem.sub.new hV hnone _,by simp,.inr ⟨w.heap.size,_,rfl,?_,Mem.set_same _ _ _,Nat.zero_le _,hle,?_,by simp⟩⟩ hge (by grind [maxLen])⟩
 ·unfold execOp
  simp only[resolve,invoke,builtin,Sem.run_bind,Sem.run_pure,Result.andThen_ok,List.map_toArray,List.map_cons,List.map_nil,hx,hy,hr]
 ·cases h:V0 w.heap.size with
  | none=>rfl
  | some x=>rw[hV _ _ h]at hnone;cases hnone
 ·simp only[Array.size_append,size_zeroCells,hzs,<- Nat.add_mul]
  simp_all
section
variable{V:Mem}
theorem growF{V0:Mem}(hV:V0.sub V){n:Nat}(hn:n<=1000000):Tri Tryz.prog 198 #[.slice none 0 0,.int .i64 n] V fun r V'=>∃s:Sl,r=.returned (.slice s.p s.n s.c)/\Own V0 V' 101 2 s []:=by
 refine x198 (a:=⟨none,0,0⟩) ?_
 unfold w198
 refine⟨fun h=>absurd h (by omega),fun _=>⟨⟨by simp,by simp⟩,⟨by simp <;> omega,by simp <;> omega⟩,fun h=>⟨⟨by simp,by simp,by simp⟩,?_⟩,fun h=>⟨⟨none,0,0⟩,rfl,Own.nil hV _ _⟩⟩⟩
 have hi:Tryz.prog.info? 101=some (ti 101):=by kernel_rfl
 have hz:(ti 101).zero=some ((ti 101).zero.getD undef):=by kernel_rfl
 have h1:(ti 101).size=2:=by kernel_rfl
 have h2:((ti 101).zero.getD undef).cells.size=2:=by kernel_rfl
 have h3:(ti 101).bytes<=65536:=by rw[show (ti 101).bytes=32 by kernel_rfl];omega
 refine GenK.appendZ (n:=n) Tryz.underlying23 Tryz.underlying3 hi hz h1 h2 (by decide) h3 rfl ?_ (by simp at h;omega) (by omega) hV fun b c V' ho hc hc2=>⟨⟨some ⟨b,0,none⟩,n,c⟩,rfl,⟨by simp,by simp,by simp⟩,?_⟩
 ·rfl
 ·simp only[qGQ]
  grind
theorem concatF{l:Sl}{ls:List (Sl×List Fld)}(h:qAc V l 1 (ls.map fun x=>[x.1.v]))(hls:∀x∈ls,qAc V x.1 2 (x.2.map Fld.row))(hlen:ls.length<=100)(hle:∀x∈ls,x.2.length<=1000) :
  Tri Tryz.prog 163 #[.slice l.p l.n l.c] V fun r V'=>∃s:Sl,r=.returned (.slice s.p s.n s.c)/\V.sub V'/\qAc V' s 2 ((ls.flatMap (·.2)).map Fld.row):=by
 refine x163 ?_
 unfold w163
 have hn:=h.n_eq
 refine qEX (mk:=.int .i64) qFS ls.length (fun i n V1=>V=V1/\0<=n/\n<=1000*i) ⟨rfl,by omega,by omega⟩ ?_
 rintro i n V1 J hi ⟨rfl,h0,hb⟩ hJ
 refine⟨fun hlt=>?_,fun hge=>?_⟩
 ·obtain⟨x,hm,hx,hdr,hl,hp,hz,hrow⟩:=h.get hlt
  have e1:=(hls x hm).n_eq
  have e2:=hle x hm
  exact⟨hp,hz,hlt,x.1,hrow,⟨by omega,by omega⟩,fun hneg=>absurd hneg (by omega),fun _=>⟨h.succ hlt,hJ hl _ _ ⟨rfl,by omega,by omega⟩⟩⟩
 ·obtain⟨k,rfl⟩:=Int.eq_ofNat_of_zero_le h0
  refine Tri.mono (growF (Mem.sub.refl V) (n:=k) (by omega)) ?_
  rintro _ V1 ⟨s,rfl,ho⟩
  refine⟨s,rfl,?_⟩
  refine qEX (mk:=fun s:Sl=>.slice s.p s.n s.c) (b0:=s) qBE ls.length (fun i s V2=>Own V V2 101 2 s (((ls.take i).flatMap (·.2)).flatMap Fld.row)/\((ls.take i).flatMap (·.2)).length<=1000*i) ⟨ho,by simp⟩ ?_
  rintro i s V2 J hi ⟨ho,hb⟩ hJ
  have h2:=h.sub ho.sub
  refine⟨fun hlt=>?_,fun hge=>?_⟩
  ·obtain⟨x,hm,hx,hdr,hl,hp,hz,hrow⟩:=h2.get hlt
   have e2:=hle x hm
   refine⟨hp,hz,hlt,x.1,hrow,?_⟩
   refine app23 (s:=s) (u:=x.1) (xs:=(ls.take i).flatMap (·.2)) (ys:=x.2) rfl rfl ho ((hls x hm).sub ho.sub) (by omega) fun s' V' ho'=>⟨s',rfl,h2.succ hlt,hJ hl _ _ ?_⟩
   grind
  ·have:=(h2.done hge).2
   rw[List.take_of_length_le this]at ho
   exact⟨s,rfl,ho.sub,ownF ho⟩
end
end Go.Proofs
