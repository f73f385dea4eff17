/- Part 10 of a proof of a law of this seat: no statement of the seat is proved here. -/
import Derived.Test.YtmeagdecjpknkaaGreatDoorPp09
import Derived.Test.YtmeagdecjpknkaaGreatDoorPp04
set_option linter.unusedVariables false
set_option linter.unusedSimpArgs false
namespace Go.Proofs
open Go Go.Sx
attribute [local irreducible] Go.Sx.Tri
section
variable{V:Mem}{d:Ds}{c:Option Addr}{m:Option Nat}{sc:Sc}
theorem c268(h:qBB V c d)(hv:VNe d)(hs:qHk V m sc)(hbody:sc.body=true){x:S}(hx:S.Ok V x)(hsh:qCb x.op x.s x.es x.ls.length x.xs.length=true){res:ByteArray} :
  PP 268 [sV c m sc,x.v,.string res] V (.int .i64 (qGm d sc res x.op x.s x.es)):=by
 obtain⟨a6,a134,a2,a5,alen,aok⟩:=shape_arity hsh
 rw[S.v_eq]
 refine Pur.mk (x268 ?_)
 unfold w268
 have hf:=first_row hx
 refine⟨fun o6=>?_,fun o6=>?_⟩
 ·obtain⟨e0,he0,-⟩:=a6 o6
  rcases hf with⟨h',-⟩|⟨e0',r,he,hn,hp0,hp2,hrow⟩
  ·simp_all
  ·rw[he0]at he
   cases he
   have hok:=aok e0 (by rw[he0];simp)
   have hoe:=hx.eOk e0 (by rw[he0];simp)
   have hk:∀y∈e0.k,ImpE V d c m sc y:=fun y hy=>impExpr h hv hs y (hoe.kids y hy) 2 (okE_kids hok y hy)
   refine⟨hp0,by omega,by omega,_,_,_,_,hrow,(impCall h e0 hoe (arity (qKl hok)).2.2.2 hk).call ⟨_,_,rfl,?_⟩⟩
   unfold qGm rawT qFr
   rw[if_pos o6,he0]
   simp only[if_pos hbody]
   split
   ·exact⟨rfl,Mem.sub.refl _⟩
   ·exact⟨rfl,Mem.sub.refl _⟩
 ·unfold qGm
  rw[if_neg o6]
  have hr:=hx.eRows
  refine qIj (mk:=.int .i64) (mc:=fun s:Sl=>.slice s.p s.n s.c) 0 ⟨none,0,0⟩ qBE x.es.length (fun i s V2=>∃acc,Own V V2 9 1 s (acc.flatMap qBF)/\partsT d sc [] x.es=partsT d sc acc (x.es.drop i)/\acc.length=i) ⟨[],Own.nil (Mem.sub.refl _) _ _,rfl,rfl⟩ ?_
  rintro i b s V2 J hi ⟨acc,hown,hpt,hlen'⟩ hJ
  have hr1:=hr.sub hown.sub
  refine⟨fun hlt=>?_,fun hge=>?_⟩
  ·obtain⟨y,hm,hxy,hdr,hl,hpp,hz,hrow⟩:=hr1.get hlt
   rw[hdr,qCK]at hpt
   refine⟨hpp,hz,hlt,_,_,_,_,hrow,(impExpr h hv hs y (hx.eOk y hm) 1 (aok y hm) V2 hown.sub).call ⟨_,_,rfl,fun h0=>?_,fun h0=>?_⟩⟩
   ·intro b1 hb1
    rw[if_neg (fun h=>h h0)]at hpt
    refine app220 (s:=s) (u:=⟨some ⟨b1,0,none⟩,1,1⟩) (xs:=acc) (ys:=[(qAo d sc y).1]) rfl rfl (hown.new hb1 _) (one_row mss) (by grind) fun s' V' ho=>⟨s',rfl,hr1.succ hlt,hJ hl _ _ _ ⟨_,ho,hpt,by simp[hlen']⟩⟩
   ·rw[if_pos h0]at hpt
    rw[hpt]
    simp only[h0,ne_eq,not_false_eq_true,if_true]
    exact⟨by trivial,hown.sub⟩
  ·have hge':=(hr1.done hge).2
   rw[(hr1.done hge).1,qEH]at hpt
   rw[hpt]
   simp only[ne_eq,not_true_eq_false,if_false]
   have hrows:=ownS hown
   have hal:acc.length=x.es.length:=by omega
   have hsub:=hown.sub
   have h2:=h.sub hown.sub
   have sln:=hrows.n_eq
   have at0:=fun h:0<acc.length=>qJk hrows h
   have at1:=fun h:1<acc.length=>qJk hrows h
   have key:∀X n:Int,X=n->(Ending.returned (.int .i64 n)=Ending.returned (.int .i64 X)/\V.sub V2):=fun X n h=>by simp_all
   refine⟨fun o1=>?_,fun o1=>⟨fun o2=>?_,fun o2=>⟨fun o3=>?_,fun o3=>⟨fun o4=>?_,fun o4=>⟨fun o5=>?_,fun o5=>key _ _ ?_⟩⟩⟩⟩⟩
   ·obtain⟨b1,b2,b3⟩:=at0 (by omega)
    obtain⟨mb,rfl,hmap⟩:=(hs.sub hown.sub).at_
    rw[if_pos o1,qJg]
    refine qBi.str Tryz.underlying312 Tryz.underlying9 zero9 hmap ?_
    cases hvv:qBH sc.vars x.s with
    | none =>
     rw[Option.getD_none]
     exact⟨_,_,rfl,fun h=>absurd h (by simp),fun _=>key _ _ (if_pos rfl)⟩
    | some t =>
     rw[Option.getD_some]
     refine⟨t,_,rfl,fun _=>⟨b1,by omega,b2,_,b3,(c298 h2).call ⟨_,rfl,fun hb=>key _ _ ?_,fun hb=>key _ _ ?_⟩⟩,fun h=>absurd rfl h⟩
     ·rw[if_neg (hs.ne.some hvv),if_pos hb]
     ·rw[if_neg (hs.ne.some hvv),if_neg hb]
   ·obtain⟨b1,b2,b3⟩:=at0 (by omega)
    obtain⟨c1,c2,c3⟩:=at1 (by omega)
    rw[if_neg o1,if_pos o2]
    refine⟨b1,by omega,b2,_,b3,(c299 h2 hv).call ⟨_,_,rfl,fun hb=>⟨c1,by omega,c2,_,c3,(c298 h2).call ⟨_,rfl,fun hc=>key _ _ ?_,fun hc=>key _ _ ?_⟩⟩,fun hb=>key _ _ ?_⟩⟩
    ·simp_all
    ·simp_all
    omega
   ·grind [qAw]
   ·grind [qAw]
   ·have h5:=a5 o5
    rw[if_neg o1,if_neg o2,if_neg (by omega),if_pos o5]
    refine⟨fun hn=>?_,fun hn=>?_⟩
    ·grind [sE]
    ·have h0:¬acc.length=0:=by omega
     obtain⟨b1,b2,b3⟩:=at0 (by omega)
     rw[if_neg h0]
     refine⟨fun he=>key _ _ (by grind [sE]),fun he=>⟨b1,by omega,b2,_,b3,(c298 h2).call ⟨_,rfl,fun hb=>key _ _ ?_,fun hb=>key _ _ ?_⟩⟩⟩
     ·grind [sE]
     simp_all
   omega
def placeT(r:Int×Int):Int:=if r.2=0 then 0 else r.1
def Cnt(V:Mem)(b t:Nat)(a:Int)(V1:Mem):Prop:=(V.set b (cell (.int .i64 a) t)).sub V1
theorem Cnt.st{b t:Nat}{a k:Int}{V1:Mem}(h:Cnt V b t a V1):Cnt V b t k (V1.set b (cell (.int .i64 k) t)):=fun q o hq=>by
 by_cases e:q=b
 ·grind [Mem.set_same]
 ·rw[Mem.set_ne e]at hq ⊢
  exact h q o (by rw[Mem.set_ne e];exact hq)
theorem Cnt.call{b t:Nat}{a k:Int}{V1 V2:Mem}(h:Cnt V b t a V1)(h2:Cnt V1 b t k V2):Cnt V b t k V2:=(Cnt.st h).trans h2
theorem Cnt.cell{b t:Nat}{a:Int}{V1:Mem}(h:Cnt V b t a V1):V1 b=some (Sx.cell (.int .i64 a) t):=h _ _ mss
theorem Cnt.base{V0:Mem}{b t:Nat}{a:Int}{V1:Mem}(h:Cnt V b t a V1)(h0:V0.sub V)(hb:V0 b=none):V0.sub V1:=(h0.set hb _).trans h
theorem Cnt.other{b t q:Nat}{a:Int}{V1:Mem}{o:Obj}(h:Cnt V b t a V1)(hq:V q=some o)(hn:q≠b):V1 q=some o:=h _ _ (by rw[Mem.set_ne hn];exact hq)
def ImpS(V0:Mem)(d:Ds)(c:Option Addr)(m:Option Nat)(sc:Sc)(res:ByteArray)(b t:Nat)(l:List S):Prop:=∀(V:Mem) (sl:Sl) (n dd:Int),V0.sub V->V b=some (cell (.int .i64 n) t)->qAc V0 sl 5 (l.map S.row)->(∀x∈l,S.Ok V0 x)->qGw dd l=true->0<=n->n+qGk l<=1000 ->
 Tri Tryz.prog 236 #[sV c m sc,.slice sl.p sl.n sl.c,.string res,pv b] V fun r V'=>r=.returned (.tuple #[.int .i64 (placeT (qBQ d sc res n l)),.int .i64 (qBQ d sc res n l).2])/\∃n',Cnt V b t n' V'/\((qBQ d sc res n l).2=0->n'=(qBQ d sc res n l).1)
theorem impStep{V0:Mem}{b t:Nat}{res:ByteArray}(hb:V0 b=none)(h:qBB V0 c d)(hv:VNe d)(hs:qHk V0 m sc)(hbody:sc.body=true){l:List S}(hk:∀x∈l,ImpS V0 d c m sc res b t x.ls/\ImpS V0 d c m sc res b t x.xs):ImpS V0 d c m sc res b t l:=by
 intro V sl n dd hV hcell hr hok hokS hn0 hn1
 refine x236 ?_
 unfold w236
 refine loop3 l.length (fun i V1=>∃a,Cnt V b t a V1/\0<=a/\a+qGk (l.drop i)<=1000/\qBQ d sc res n l=qBQ d sc res a (l.drop i)) ⟨n,by grind [Cnt,Mem.set_eq,Mem.sub.refl],hn0,hn1,rfl⟩ ?_
 rintro i b' c' V1 J hi ⟨a,hV1,ha0,ha1,he⟩ hJ
 have hV01:=hV1.base hV hb
 have hcell1:=hV1.cell
 have bad:∀{V2:Mem} (p e k:Int),Cnt V b t k V2->e≠0->qBQ d sc res n l=(p,e)->(Ending.returned (.tuple #[.int .i64 p,.int .i64 e])=Ending.returned (.tuple #[.int .i64 (placeT (qBQ d sc res n l)),.int .i64 (qBQ d sc res n l).2])/\∃n',Cnt V b t n' V2/\((qBQ d sc res n l).2=0->n'=(qBQ d sc res n l).1)):=fun {V2} p e k h1 h2 h3=>by
  rw[h3]
  unfold placeT
  grind
 refine⟨fun hlt=>?_,fun hge=>?_⟩
 ·obtain⟨x,hm,hx,hdr,hl,hpp,hz,hrow⟩:=(hr.sub hV01).get hlt
  have hrow:=S.row_get hrow
  have hox:=hok x hm
  obtain⟨hsh,hk1,hk2⟩:=okS_shape (okSs_mem hokS x hm)
  rw[hdr,szSs_cons,szS_eq]at ha1
  rw[hdr,qHM,stT_eq]at he
  have hC:=Cnt.st (k:=a+1) hV1
  have hW2:=hC.base hV hb
  have cs:=c268 (h.sub hW2) hv (hs.sub hW2) hbody (hox.sub hW2) hsh (res:=res)
  rw[S.v_eq]at cs
  refine⟨hpp,hz,hlt,_,_,_,_,_,hrow,by simp,_,qBw hcell1,by simp,_,qBw hcell1,⟨by omega,by omega⟩,by simp,StT.cell hcell1 (cs.call ⟨_,rfl,fun h0=>?_,fun h0=>?_⟩)⟩
  ·have e1:¬(qGm d sc res x.op x.s x.es≠0):=fun h=>h h0
   rw[if_neg e1]at he
   intro b1 hb1
   have hbb:b1≠b:=fun e=>by grind [Mem.set_same]
   have hC2:Cnt V b t (a+1) _:=Mem.sub.new hC hb1 (.cells #[.slice x.ll.p x.ll.n x.ll.c,.slice x.xl.p x.xl.n x.xl.c] 141 (0,0))
   have hn1':=stsT_n d sc res (a+1) x.ls
   refine loop3 2 (fun j V2=>∃k,Cnt V b t k V2/\V2 b1=some (.cells #[.slice x.ll.p x.ll.n x.ll.c,.slice x.xl.p x.xl.n x.xl.c] 141 (0,0))/\((j=0/\k=a+1)∨(j=1/\(qBQ d sc res (a+1) x.ls).2=0/\k=(qBQ d sc res (a+1) x.ls).1)∨(j=2/\(qBQ d sc res (a+1) x.ls).2=0/\(qBQ d sc res (qBQ d sc res (a+1) x.ls).1 x.xs).2=0/\k=(qBQ d sc res (qBQ d sc res (a+1) x.ls).1 x.xs).1))) ⟨a+1,hC2,Mem.set_same _ _ _,.inl ⟨rfl,rfl⟩⟩ ?_
   rintro j b'' c'' V2 J1 hj ⟨k,hk2',hb1V,hst⟩ hJ1
   have hV02:=hk2'.base hV hb
   refine⟨fun hj2=>?_,fun hj2=>?_⟩
   ·rcases hst with⟨rfl,rfl⟩|⟨rfl,hz1,rfl⟩|⟨rfl,-⟩
    ·refine⟨by simp[qAa],by omega,by omega,x.ll,qAd hb1V 0 1 (by simp),Tri.mono ((hk x hm).1 V2 x.ll (a+1) (dd+1) hV02 hk2'.cell hox.lRows hox.lOk hk1 (by omega) (by omega)) ?_⟩
     rintro _ V3 ⟨rfl,n',hn',hn2⟩
     refine⟨_,_,rfl,fun h3=>?_,fun h3=>?_⟩
     ·have:=hn2 h3
      subst this
      exact⟨⟨by omega,by omega⟩,hJ1 (by omega) _ _ _ ⟨_,hk2'.call hn',hn'.other hb1V hbb,.inr (.inl ⟨rfl,h3,rfl⟩)⟩⟩
     ·have e2:(qBQ d sc res (a+1) x.ls).2≠0:=h3
      rw[if_pos e2,if_pos e2]at he
      refine bad _ _ _ (hk2'.call hn') e2 ?_
      grind
    ·have e2:¬(qBQ d sc res (a+1) x.ls).2≠0:=fun h=>h hz1
     rw[if_neg e2]at he
     have hn1':=hn1' hz1
     refine⟨by simp[qAa],by omega,by omega,x.xl,qAd hb1V 1 1 (by simp),Tri.mono ((hk x hm).2 V2 x.xl _ (dd+1) hV02 hk2'.cell hox.xRows hox.xOk hk2 (by omega) (by omega)) ?_⟩
     rintro _ V3 ⟨rfl,n',hn',hn2⟩
     refine⟨_,_,rfl,fun h3=>?_,fun h3=>?_⟩
     ·have:=hn2 h3
      subst this
      exact⟨⟨by omega,by omega⟩,hJ1 (by omega) _ _ _ ⟨_,hk2'.call hn',hn'.other hb1V hbb,.inr (.inr ⟨rfl,hz1,h3,rfl⟩)⟩⟩
     ·have e3:(qBQ d sc res (qBQ d sc res (a+1) x.ls).1 x.xs).2≠0:=h3
      rw[if_pos e3]at he
      refine bad _ _ _ (hk2'.call hn') e3 ?_
      grind
    ·omega
   ·rcases hst with⟨rfl,-⟩|⟨rfl,-⟩|⟨rfl,hz1,hz2,rfl⟩
    ·omega
    ·omega
    ·have e2:¬(qBQ d sc res (a+1) x.ls).2≠0:=fun h=>h hz1
     have e3:¬(qBQ d sc res (qBQ d sc res (a+1) x.ls).1 x.xs).2≠0:=fun h=>h hz2
     rw[if_neg e2,if_neg e3]at he
     have hn1':=hn1' hz1
     have hn2':=stsT_n d sc res _ x.xs hz2
     exact⟨(hr.sub hV01).succ hlt,hJ hl _ _ _ ⟨_,hk2',by omega,by omega,he⟩⟩
  grind
 ·rw[((hr.sub hV01).done hge).1,stsT_nil]at he
  rw[he]
  exact⟨rfl,a,hV1,fun _=>rfl⟩
theorem impStmts{V0:Mem}{b t:Nat}{res:ByteArray}(hb:V0 b=none)(h:qBB V0 c d)(hv:VNe d)(hs:qHk V0 m sc)(hbody:sc.body=true)(l:List S):ImpS V0 d c m sc res b t l:=by
 have hS:∀s:S,ImpS V0 d c m sc res b t s.ls/\ImpS V0 d c m sc res b t s.xs:=by
  intro s
  induction s using S.ind with
  | h s i1 i2=>grind [impStep]
 grind [impStep]
theorem c259{b t:Nat}{f x:Fld}(hb:V b=some (.cells #[.string f.name,.string f.ty] t (0,0))):PP 259 [x.v,pv b] V (.bool (decide (x.name=f.name))):=by
 refine x259 ?_
 unfold w259
 exact⟨by simp,_,qAd hb 0 1 (by simp),rfl,rfl⟩
theorem c222(h:qBB V c d){l:Sl}{xs:List Fld}(hl:qAc V l 2 (xs.map Fld.row)):PP 222 [.pointer c,l.v] V (.int .i64 (qDA d xs)):=by
 refine Pur.mk (x222 ?_)
 unfold w222 qDA
 generalize hf:(fun i f=>if qGd d xs i f≠0 then some (qGd d xs i f) else none)=fn
 refine qBp xs.length (fun k V1=>V.sub V1/\qAl fn 0 xs=qAl fn k (xs.drop k)) ⟨Mem.sub.refl _,rfl⟩ ?_
 rintro k b V1 J hi ⟨hV,ha⟩ hJ
 have hl1:=hl.sub hV
 refine⟨fun hk=>?_,fun hk=>?_⟩
 ·obtain⟨g,hmg,hxg,hdg,hlg,hpg,hzg,hrowg⟩:=hl1.get hk
  rw[hdg]at ha
  have hc:=hl1.cap
  refine⟨hpg,hzg,hk,_,_,hrowg,⟨by omega,by omega,by omega⟩,fun b1 hb1=>?_⟩
  have s1:=Mem.sub_new hb1 (.cells #[.string g.name,.string g.ty] 101 (0,0))
  have hV2:=hV.trans s1
  simp only[qGQ,sub0]
  have key:∀X n:Int,X=n->(Ending.returned (.int .i64 n)=Ending.returned (.int .i64 X)/\V.sub (V1.set b1 (.cells #[.string g.name,.string g.ty] 101 (0,0)))):=fun X n h=>by simp_all
  refine(c122 (l:=⟨l.p,k,l.c⟩) (first:=[]) (caps:=[pv b1]) (qAc.pre (hl.sub hV2) (by omega)) Tryz.call259 (fun x=>decide (x.name=g.name)) (fun x _=>c259 (f:=g) mss)).call ⟨_,rfl,fun h1=>?_,fun h1=>⟨by simp[qAa],_,qAd mss 1 1 (by simp),(c225 (h.sub hV2)).call ⟨_,rfl,fun h2=>?_,fun h2=>?_⟩⟩⟩
  ·have e:qGd d xs k g=10:=by grind [qGd]
   rw[ha,qAn (b:=10) (by grind)]
   grind
  ·have e:qGd d xs k g=0:=by grind [qGd]
   exact⟨hl1.succ hk,hJ hlg _ _ ⟨hV2,by rw[ha,qAt (by grind)]⟩⟩
  ·have e:qGd d xs k g=9:=by grind [qGd]
   rw[ha,qAn (b:=9) (by grind)]
   grind
 ·rw[(hl1.done hk).1,qAl]at ha
  simp_all
def FltAt(V:Mem)(p:Option Addr)(o:Option Flt):Prop:=match o with
 | none=>p=none
 | some r=>∃b t,p=some ⟨b,0,none⟩/\V b=some (.cells #[.string r.1,.int .i64 r.2.1,.int .i64 r.2.2] t (0,0))
def FltC(f:FuncId)(args:List Value)(V:Mem)(o:Option Flt):Prop:=Tri Tryz.prog f args.toArray V fun r V'=>∃p,r=.returned (.pointer p)/\V.sub V'/\FltAt V' p o
theorem c238(h:qBB V c d)(hv:VNe d)(hs:qHk V m sc){e:E}(he:E.Ok V e)(hok:okE 1 e=true){s t:ByteArray} :
  FltC 238 [sV c m sc,.string s,e.v,.string t] V (if qCd d sc e t≠0 then some (s,-1,qCd d sc e t) else none):=by
 refine x238 ?_
 unfold w238 qCd
 refine(impExpr h hv hs e he 1 hok V (Mem.sub.refl _)).call ⟨_,_,rfl,fun h0=>⟨fun h1=>?_,fun h1=>fun b hb=>?_⟩,fun h0=>fun b hb=>?_⟩
 ·simp only[h0,h1,ne_eq,not_true_eq_false,if_false,if_true];exact⟨_,rfl,Mem.sub.refl _,rfl⟩
 ·simp only[h0,h1,ne_eq,not_true_eq_false,if_false];exact⟨_,rfl,Mem.sub_new hb _,b,_,rfl,Mem.set_same _ _ _⟩
 ·simp only[h0,ne_eq,not_false_eq_true,if_true];exact⟨_,rfl,Mem.sub_new hb _,b,_,rfl,Mem.set_same _ _ _⟩
end
def qHd:Prop:=∀(V:Mem) (c:Option Addr) (d:Ds) (body:Bool) (l:Sl) (ls:List (Sl×List Fld)),qBB V c d->qAc V l 1 (ls.map fun x=>[x.1.v])->(∀x∈ls,qAc V x.1 2 (x.2.map Fld.row)) ->
 Tri Tryz.prog 267 #[.pointer c,.bool body,.slice l.p l.n l.c] V fun r V'=>∃mb,r=.returned (.agg #[.pointer c,.map (some mb),.bool body])/\V.sub V'/\V mb=none/\qBb V' mb (fun k=>(qBH (ls.flatMap (·.2)++d.globals) k).map Value.string)
def NewC:Prop:=∀(V:Mem) (d:Ds),Ds.Ok V d->Tri Tryz.prog 158 #[d.v] V fun r V'=>∃c,r=.returned (.pointer c)/\V.sub V'/\qBB V' c d
section
variable{V:Mem}{d:Ds}{c:Option Addr}
theorem qFL{a b:List Fld}(h:NE a)(k:NE b):NE (a++b):=fun f hf=>by
 rcases List.mem_append.1 hf with h'|h'
 ·exact h f h'
 ·exact k f h'
theorem impInProc(hS:qHd)(h:qBB V c d)(hv:VNe d){p:Pr}(hm:p∈d.procs)(hp:Pr.Ok V p):Tri Tryz.prog 235 #[.pointer c,p.v] V fun r V'=>∃m,r=.returned (sV c m (qAj d p))/\V.sub V'/\qHk V' m (qAj d p):=by
 refine x235 ?_
 unfold w235
 intro b hb
 have hs:=Mem.sub_new hb (.cells #[.slice p.ps.p p.ps.n p.ps.c,.slice p.ls.p p.ls.n p.ls.c] 23 (0,0))
 refine Tri.mono (hS _ c d true ⟨some ⟨b,0,none⟩,2,2⟩ [(p.ps,p.params),(p.ls,p.locals)] (h.sub hs) (qAc.cells (xs:=[(p.ps,p.params),(p.ls,p.locals)]) (row:=fun x=>[x.1.v]) mss rfl (fun _=>rfl) rfl (by simp)) ?_) ?_
 ·intro x hx
  simp only[List.mem_cons,List.not_mem_nil,or_false]at hx
  rcases hx with rfl|rfl
  ·exact hp.params.sub hs
  ·exact hp.locals.sub hs
 ·rintro _ V' ⟨mb,rfl,h1,h2,h3⟩
  refine⟨_,_,_,rfl,some mb,rfl,hs.trans h1,⟨mb,rfl,h3.congr fun k=>?_⟩,qFL (qFL (hv.params p hm).1 (hv.params p hm).2) hv.globals⟩
  simp[qAj]
theorem impInBound(hS:qHd)(h:qBB V c d)(hv:VNe d){p:Pr}(hm:p∈d.procs)(hp:Pr.Ok V p):Tri Tryz.prog 239 #[.pointer c,p.v] V fun r V'=>∃m,r=.returned (sV c m (qCC d p))/\V.sub V'/\qHk V' m (qCC d p):=by
 refine x239 ?_
 unfold w239
 intro b hb
 have hs:=Mem.sub_new hb (.cells #[.slice p.ps.p p.ps.n p.ps.c] 23 (0,0))
 refine Tri.mono (hS _ c d false ⟨some ⟨b,0,none⟩,1,1⟩ [(p.ps,p.params)] (h.sub hs) (qAc.cells (xs:=[(p.ps,p.params)]) (row:=fun x=>[x.1.v]) mss rfl (fun _=>rfl) rfl (by simp)) ?_) ?_
 ·intro x hx
  simp only[List.mem_cons,List.not_mem_nil,or_false]at hx
  rcases hx with rfl
  exact hp.params.sub hs
 ·rintro _ V' ⟨mb,rfl,h1,h2,h3⟩
  refine⟨_,_,_,rfl,some mb,rfl,hs.trans h1,⟨mb,rfl,h3.congr fun k=>?_⟩,qFL (hv.params p hm).1 hv.globals⟩
  simp[qCC]
theorem qEt(hS:qHd)(h:qBB V c d)(hv:VNe d){t:ByteArray}:Tri Tryz.prog 237 #[.pointer c,.string t] V fun r V'=>∃m,r=.returned (sV c m (qAQ d t))/\V.sub V'/\qHk V' m (qAQ d t):=by
 refine x237 ?_
 unfold w237
 refine Tri.mono (hS V c d false ⟨none,0,0⟩ [] h qAc.nil (by simp)) ?_
 rintro _ V' ⟨mb,rfl,h1,h2,h3⟩
 refine⟨_,_,_,rfl,fun he=>?_,fun he=>?_⟩
 ·refine⟨some mb,rfl,h1,⟨mb,rfl,h3.congr fun k=>?_⟩,?_⟩
  ·grind [qAQ,sE]
  ·unfold qAQ sE;rw[if_pos he];exact hv.globals
 ·refine qCv.str Tryz.underlying312 Tryz.underlying9 h3 fun o ho=>?_
  refine⟨some mb,rfl,h1.set h2 _,⟨mb,rfl,ho.congr fun k=>?_⟩,?_⟩
  ·unfold qAQ sE
   rw[if_neg he]
   unfold qBH
   simp only[List.flatMap_nil,List.nil_append,List.cons_append,List.find?_cons]
   rw[show (⟨#[116,104,105,115]⟩:ByteArray)=sThisF from rfl]
   grind
  ·unfold qAQ sE
   rw[if_neg he]
   refine qFL (fun f hf=>?_) hv.globals
   simp only[List.mem_cons,List.not_mem_nil,or_false]at hf
   subst hf
   exact he
theorem qCJ{V1:Mem}{X:Option Flt}{s:ByteArray}{n e:Int}(hX:X=some (s,n,e))(h:V.sub V1):qAp [(.string s),(.int .i64 n),(.int .i64 e)] 238 V1 fun v8 V2=>(∃p,Ending.returned (.pointer (qAa v8 0))=.returned (.pointer p)/\V.sub V2/\FltAt V2 p X):=fun b hb=>by
 subst hX
 exact⟨some ⟨b,0,none⟩,rfl,h.trans (Mem.sub_new hb _),b,_,rfl,Mem.set_same _ _ _⟩
theorem oneT_cases(d:Ds)(l:List Fld)(i:Nat)(f:Fld):((l.take i).any (fun g=>decide (g.name=f.name))=true/\qGd d l i f=10)∨(¬(l.take i).any (fun g=>decide (g.name=f.name))=true/\qBx d f.ty=true/\qGd d l i f=0)∨(¬(l.take i).any (fun g=>decide (g.name=f.name))=true/\¬qBx d f.ty=true/\qGd d l i f=9):=by
 grind [qGd,qBx,inr]
theorem impTypes(h:qBB V c d):FltC 191 [.pointer c] V (qGK d):=by
 refine x191 ?_
 unfold w191 qGK
 refine⟨h.nn,h.nn,qAh h.nn,d.ts,h.cell (i:=1) rfl,?_⟩
 unfold types1
 generalize hf1:(fun i (t:Ty)=>if (d.types.take i).any (fun g=>decide (g.name=t.name))=true then some ((t.name,-1,10):Flt) else none)=F1
 refine qBp d.types.length (fun k V1=>V=V1/\qAl F1 0 d.types=qAl F1 k (d.types.drop k)) ⟨rfl,rfl⟩ ?_
 rintro k b V1 J hi ⟨rfl,ha⟩ hJ
 have rf:=Mem.sub.refl V
 refine⟨fun hk=>?_,fun hk=>?_⟩
 ·obtain⟨g,hm,hx,hdr,hl,hp,hz,hrow⟩:=h.ok.types.get hk
  rw[hdr]at ha
  refine⟨hp,hz,hk,_,_,hrow,h.nn,h.nn,qAh h.nn,d.ts,h.cell (i:=1) rfl,(c220 h.ok.types hx).call ⟨_,rfl,fun h1=>qCJ ?_ rf,fun h1=>⟨h.ok.types.succ hk,hJ hl _ _ ⟨rfl,?_⟩⟩⟩⟩
  ·rw[ha,qAn (b:=(g.name,-1,10)) (by grind)];rfl
  ·rw[ha,qAt (by grind)]
 rw[(h.ok.types.done hk).1,qAl]at ha
 rw[ha,Option.none_or]
 refine⟨h.nn,h.nn,qAh h.nn,d.ts,h.cell (i:=1) rfl,?_⟩
 unfold types2
 generalize hf2:(fun(_:Nat) (t:Ty)=>if qDA d t.fields≠0 then some ((t.name,-1,qDA d t.fields):Flt) else none)=F2
 refine qBp d.types.length (fun k V1=>V=V1/\qAl F2 0 d.types=qAl F2 k (d.types.drop k)) ⟨rfl,rfl⟩ ?_
 rintro k b V1 J hi ⟨rfl,ha⟩ hJ
 refine⟨fun hk=>?_,fun hk=>?_⟩
 ·obtain⟨g,hm,hx,hdr,hl,hp,hz,hrow⟩:=h.ok.types.get hk
  rw[hdr]at ha
  refine⟨hp,hz,hk,_,_,hrow,(c222 h (h.ok.typesOk g hm).fields).call ⟨_,rfl,fun h1=>⟨h.ok.types.succ hk,hJ hl _ _ ⟨rfl,?_⟩⟩,fun h1=>qCJ ?_ rf⟩⟩
  ·rw[ha,qAt (by grind)]
  ·rw[ha,qAn (b:=(g.name,-1,qDA d g.fields)) (by grind)];rfl
 rw[(h.ok.types.done hk).1,qAl]at ha
 rw[ha,Option.none_or]
 refine⟨h.nn,h.nn,qAh h.nn,d.gs,h.cell (i:=2) rfl,?_⟩
 unfold types3
 generalize hf3:(fun i (f:Fld)=>if qGd d d.globals i f≠0 then some ((f.name,-1,qGd d d.globals i f):Flt) else none)=F3
 refine qBp d.globals.length (fun k V1=>V=V1/\qAl F3 0 d.globals=qAl F3 k (d.globals.drop k)) ⟨rfl,rfl⟩ ?_
 rintro k b V1 J hi ⟨rfl,ha⟩ hJ
 refine⟨fun hk=>?_,fun hk=>?_⟩
 ·obtain⟨g,hm,hx,hdr,hl,hp,hz,hrow⟩:=h.ok.globals.get hk
  rw[hdr]at ha
  have ho:=oneT_cases d d.globals k g
  refine⟨hp,hz,hk,_,_,hrow,h.nn,h.nn,qAh h.nn,d.gs,h.cell (i:=2) rfl,(c223 h.ok.globals hx).call ⟨_,rfl,fun h1=>qCJ ?_ rf,fun h1=>(c225 h).call ⟨_,rfl,fun h2=>⟨h.ok.globals.succ hk,hJ hl _ _ ⟨rfl,?_⟩⟩,fun h2=>qCJ ?_ rf⟩⟩⟩
  ·rcases ho with⟨_,e⟩|⟨h',_⟩|⟨h',_⟩
   ·rw[ha,qAn (b:=(g.name,-1,10)) (by grind)]
   ·grind
   simp_all
  ·rcases ho with⟨h',_⟩|⟨_,_,e⟩|⟨_,h',_⟩
   ·grind
   ·rw[ha,qAt (by grind)]
   simp_all
  ·rcases ho with⟨h',_⟩|⟨_,h',_⟩|⟨_,_,e⟩
   ·grind
   ·grind
   ·rw[ha,qAn (b:=(g.name,-1,9)) (by grind)]
 rw[(h.ok.globals.done hk).1,qAl]at ha
 rw[ha]
 exact⟨none,rfl,rf,rfl⟩
theorem impHeads(h:qBB V c d)(hsm:Small d):FltC 192 [.pointer c] V (qEY d):=by
 refine x192 ?_
 unfold w192 qEY
 refine⟨h.nn,h.nn,qAh h.nn,d.ps,h.cell (i:=3) rfl,?_⟩
 generalize hf1:(fun i (p:Pr)=>if (d.procs.take i).any (fun g=>decide (g.name=p.name))=true then some ((p.name,-1,10):Flt) else if qDA d (p.params++p.locals)≠0 then some (p.name,-1,qDA d (p.params++p.locals)) else if p.result≠sE/\qBx d p.result=false then some (p.name,-1,9) else none)=F1
 refine qBp d.procs.length (fun k V1=>V.sub V1/\qAl F1 0 d.procs=qAl F1 k (d.procs.drop k)) ⟨Mem.sub.refl _,rfl⟩ ?_
 rintro k b V1 J hi ⟨hV,ha⟩ hJ
 have h1:=h.sub hV
 refine⟨fun hk=>?_,fun hk=>?_⟩
 ·obtain⟨g,hm,hx,hdr,hl,hp,hz,hrow⟩:=h1.ok.procs.get hk
  rw[hdr]at ha
  have hg:=h1.ok.procsOk g hm
  have hs:=hsm.2 g hm
  refine⟨hp,hz,hk,_,_,_,_,_,hrow,h.nn,h.nn,qAh h.nn,d.ps,h1.cell (i:=3) rfl,(c226 h1.ok.procs hx).call ⟨_,rfl,fun n1=>qCJ ?_ hV,fun n1=>?_⟩⟩
  ·rw[ha,qAn (b:=(g.name,-1,10)) (by grind)]
  intro b1 hb1
  have s1:=Mem.sub_new hb1 (.cells #[.slice g.ps.p g.ps.n g.ps.c,.slice g.ls.p g.ls.n g.ls.c] 23 (0,0))
  refine Tri.mono (concatF (l:=⟨some ⟨b1,0,none⟩,2,2⟩) (ls:=[(g.ps,g.params),(g.ls,g.locals)]) (qAc.cells (xs:=[(g.ps,g.params),(g.ls,g.locals)]) (row:=fun x=>[x.1.v]) mss rfl (fun _=>rfl) rfl (by simp)) ?_ (by simp) ?_) ?_
  ·intro x hx
   simp only[List.mem_cons,List.not_mem_nil,or_false]at hx
   rcases hx with rfl|rfl
   ·exact hg.params.sub s1
   ·exact hg.locals.sub s1
  ·simp_all
  rintro _ V2 ⟨s',rfl,h12,hrows⟩
  have hV2:=hV.trans (s1.trans h12)
  have hfl:([(g.ps,g.params),(g.ls,g.locals)]:List (Sl×List Fld)).flatMap (·.2)=g.params++g.locals:=by simp
  rw[hfl]at hrows
  refine⟨s',rfl,(c222 (h.sub hV2) hrows).call ⟨_,rfl,fun h2=>?_,fun h2=>qCJ ?_ hV2⟩⟩
  ·have n2:¬(qDA d (g.params++g.locals)≠0):=fun e=>e h2
   refine⟨fun h3=>⟨h1.ok.procs.succ hk,hJ hl _ _ ⟨hV2,?_⟩⟩,fun h3=>(c225 (h.sub hV2)).call ⟨_,rfl,fun h4=>⟨h1.ok.procs.succ hk,hJ hl _ _ ⟨hV2,?_⟩⟩,fun h4=>qCJ ?_ hV2⟩⟩
   ·rw[ha,qAt (by rw[<- hf1];exact(if_neg n1).trans ((if_neg n2).trans (if_neg fun e=>e.1 h3)))]
   ·rw[ha,qAt (by grind)]
   ·rw[ha,qAn (b:=(g.name,-1,9)) (by rw[<- hf1];exact(if_neg n1).trans ((if_neg n2).trans (if_pos ⟨h3,eq_false_of_ne_true h4⟩)))]
  ·rw[ha,qAn (b:=(g.name,-1,qDA d (g.params++g.locals))) (by grind)]
 rw[(h1.ok.procs.done hk).1,qAl]at ha
 rw[ha]
 exact⟨none,rfl,hV,rfl⟩
end
section
variable{V:Mem}{d:Ds}{c:Option Addr}
theorem impForm(h:qBB V c d):FltC 193 [.pointer c] V (qFl d):=by
 refine x193 ?_
 unfold w193 qFl
 have rf:=Mem.sub.refl V
 refine⟨h.nn,h.nn,qAh h.nn,d.ms,h.cell (i:=4) rfl,?_⟩
 unfold form1
 generalize hf1:(fun i (m:Ms)=>if (d.measures.take i).any (fun g=>decide (g.name=m.name))=true then some ((m.name,-1,10):Flt) else if qBm d m.ty=false then some (m.name,-1,9) else none)=F1
 refine qBp d.measures.length (fun k V1=>V=V1/\qAl F1 0 d.measures=qAl F1 k (d.measures.drop k)) ⟨rfl,rfl⟩ ?_
 rintro k b V1 J hi ⟨rfl,ha⟩ hJ
 refine⟨fun hk=>?_,fun hk=>?_⟩
 ·obtain⟨g,hm,hx,hdr,hl,hp,hz,hrow⟩:=h.ok.measures.get hk
  rw[hdr]at ha
  refine⟨hp,hz,hk,_,_,_,_,_,_,_,hrow,h.nn,h.nn,qAh h.nn,d.ms,h.cell (i:=4) rfl,(c228 h.ok.measures hx).call ⟨_,rfl,fun h1=>qCJ ?_ rf,fun h1=>(c230 h).call ⟨_,rfl,fun h2=>⟨h.ok.measures.succ hk,hJ hl _ _ ⟨rfl,?_⟩⟩,fun h2=>qCJ ?_ rf⟩⟩⟩
  ·rw[ha,qAn (b:=(g.name,-1,10)) (by grind)];rfl
  ·rw[ha,qAt (by grind)]
  ·rw[ha,qAn (b:=(g.name,-1,9)) (by grind)];rfl
 rw[(h.ok.measures.done hk).1,qAl]at ha
 rw[ha,Option.none_or]
 refine⟨h.nn,h.nn,qAh h.nn,d.is,h.cell (i:=5) rfl,?_⟩
 unfold form2
 generalize hf2:(fun i (m:Iv)=>if (d.invs.take i).any (fun g=>decide (g.name=m.name))=true then some ((m.name,-1,10):Flt) else if m.ty≠sE/\qBm d m.ty=false then some (m.name,-1,9) else none)=F2
 refine qBp d.invs.length (fun k V1=>V=V1/\qAl F2 0 d.invs=qAl F2 k (d.invs.drop k)) ⟨rfl,rfl⟩ ?_
 rintro k b V1 J hi ⟨rfl,ha⟩ hJ
 refine⟨fun hk=>?_,fun hk=>?_⟩
 ·obtain⟨g,hm,hx,hdr,hl,hp,hz,hrow⟩:=h.ok.invs.get hk
  rw[hdr]at ha
  refine⟨hp,hz,hk,_,_,_,_,_,_,hrow,h.nn,h.nn,qAh h.nn,d.is,h.cell (i:=5) rfl,(c231 h.ok.invs hx).call ⟨_,rfl,fun h1=>qCJ ?_ rf,fun h1=>⟨fun h3=>⟨h.ok.invs.succ hk,hJ hl _ _ ⟨rfl,?_⟩⟩,fun h3=>(c230 h).call ⟨_,rfl,fun h2=>⟨h.ok.invs.succ hk,hJ hl _ _ ⟨rfl,?_⟩⟩,fun h2=>qCJ ?_ rf⟩⟩⟩⟩
  ·rw[ha,qAn (b:=(g.name,-1,10)) (by grind)];rfl
  ·rw[ha,qAt (by rw[<- hf2];exact(if_neg h1).trans (if_neg fun e=>e.1 h3))]
  ·rw[ha,qAt (by grind)]
  ·rw[ha,qAn (b:=(g.name,-1,9)) (by rw[<- hf2];exact(if_neg h1).trans (if_pos ⟨h3,eq_false_of_ne_true h2⟩))];rfl
 rw[(h.ok.invs.done hk).1,qAl]at ha
 rw[ha,Option.none_or]
 refine⟨h.nn,h.nn,qAh h.nn,d.qs,h.cell (i:=6) rfl,?_⟩
 unfold form3
 generalize hf3:(fun(_:Nat) (m:Po)=>if m.ty≠sE/\qBm d m.ty=false then some ((sPot,-1,9):Flt) else none)=F3
 refine qBp d.pots.length (fun k V1=>V=V1/\qAl F3 0 d.pots=qAl F3 k (d.pots.drop k)) ⟨rfl,rfl⟩ ?_
 rintro k b V1 J hi ⟨rfl,ha⟩ hJ
 refine⟨fun hk=>?_,fun hk=>?_⟩
 ·obtain⟨g,hm,hx,hdr,hl,hp,hz,hrow⟩:=h.ok.pots.get hk
  rw[hdr]at ha
  refine⟨hp,hz,hk,_,_,_,_,_,hrow,fun h3=>⟨h.ok.pots.succ hk,hJ hl _ _ ⟨rfl,?_⟩⟩,fun h3=>(c230 h).call ⟨_,rfl,fun h2=>⟨h.ok.pots.succ hk,hJ hl _ _ ⟨rfl,?_⟩⟩,fun h2=>qCJ ?_ rf⟩⟩
  ·rw[ha,qAt (by rw[<- hf3];exact if_neg fun e=>e.1 h3)]
  ·rw[ha,qAt (by grind)]
  ·rw[ha,qAn (b:=(sPot,-1,9)) (by rw[<- hf3];exact if_pos ⟨h3,eq_false_of_ne_true h2⟩)];rfl
 rw[(h.ok.pots.done hk).1,qAl]at ha
 rw[ha,Option.none_or]
 refine⟨h.nn,h.nn,qAh h.nn,d.bs,h.cell (i:=7) rfl,?_⟩
 unfold form4
 generalize hf4:(fun i (b:Bd)=>if (qHZ d b.proc).isNone=true then some ((b.proc,-1,9):Flt) else if (d.bounds.take i).any (fun g=>decide (g.proc=b.proc))=true then some (b.proc,-1,10) else none)=F4
 refine qBp d.bounds.length (fun k V1=>V=V1/\qAl F4 0 d.bounds=qAl F4 k (d.bounds.drop k)) ⟨rfl,rfl⟩ ?_
 rintro k b V1 J hi ⟨rfl,ha⟩ hJ
 refine⟨fun hk=>?_,fun hk=>?_⟩
 ·obtain⟨g,hm,hx,hdr,hl,hp,hz,hrow⟩:=h.ok.bounds.get hk
  rw[hdr]at ha
  obtain⟨mt,q1,q2⟩:=h.procs
  refine⟨hp,hz,hk,_,_,_,_,_,hrow,h.nn,h.nn,_,q1,qBi.str Tryz.underlying270 Tryz.underlying9 zero143 q2 ?_⟩
  cases hpr:qHZ d g.proc with
  | none =>
   refine⟨_,⟨none,0,0⟩,_,⟨none,0,0⟩,⟨none,0,0⟩,_,rfl,fun h=>absurd h (by simp),fun _=>qCJ ?_ rf⟩
   rw[ha,qAn (b:=(g.proc,-1,9)) (by grind)]
  | some p =>
   have n0:¬(qHZ d g.proc).isNone=true:=by rw[hpr];simp
   refine⟨_,p.ps,_,p.ls,p.bs,_,rfl,fun _=>⟨h.nn,h.nn,qAh h.nn,d.bs,h.cell (i:=7) rfl,(c233 h.ok.bounds hx).call ⟨_,rfl,fun h1=>qCJ ?_ rf,fun h1=>⟨h.ok.bounds.succ hk,hJ hl _ _ ⟨rfl,?_⟩⟩⟩⟩,fun h=>absurd rfl h⟩
   ·rw[ha,qAn (b:=(g.proc,-1,10)) (by grind)]
   ·rw[ha,qAt (by grind)]
 rw[(h.ok.bounds.done hk).1,qAl]at ha
 rw[ha]
 exact⟨none,rfl,rf,rfl⟩
theorem impBodies(hS:qHd)(h:qBB V c d)(hv:VNe d)(hp:VParts d):FltC 194 [.pointer c] V (qCu d):=by
 refine x194 ?_
 unfold w194 qCu
 refine⟨h.nn,h.nn,qAh h.nn,d.ps,h.cell (i:=3) rfl,?_⟩
 generalize hf1:(fun(_:Nat) (p:Pr)=>if (qBQ d (qAj d p) p.result 0 p.body).2≠0 then some ((p.name,(qBQ d (qAj d p) p.result 0 p.body).1,(qBQ d (qAj d p) p.result 0 p.body).2):Flt) else none)=F1
 refine qBp d.procs.length (fun k V1=>V.sub V1/\qAl F1 0 d.procs=qAl F1 k (d.procs.drop k)) ⟨Mem.sub.refl _,rfl⟩ ?_
 rintro k b V1 J hi ⟨hV,ha⟩ hJ
 have h1:=h.sub hV
 refine⟨fun hk=>?_,fun hk=>?_⟩
 ·obtain⟨g,hm,hx,hdr,hl,hpp,hz,hrow⟩:=h1.ok.procs.get hk
  rw[hdr]at ha
  have hg:=h1.ok.procsOk g hm
  refine⟨hpp,hz,hk,_,_,_,_,_,hrow,Tri.mono (impInProc hS h1 hv hm hg) ?_⟩
  rintro _ V2 ⟨m,rfl,h12,hsc⟩
  refine⟨_,_,_,rfl,fun b1 hb1=>?_⟩
  obtain⟨hs1,hs2⟩:=hp.ps g hm
  have s1:=Mem.sub_new hb1 (cell (.int .i64 0) 3)
  refine Tri.mono (impStmts hb1 (h1.sub h12) hv hsc rfl g.body _ g.bs 0 1 s1 mss (hg.sub h12).body (hg.sub h12).stmts hs1 (by omega) (by omega)) ?_
  rintro _ V3 ⟨rfl,n',hn',-⟩
  have hV3:=hV.trans (h12.trans (hn'.base s1 hb1))
  refine⟨_,_,rfl,fun h2=>⟨h1.ok.procs.succ hk,hJ hl _ _ ⟨hV3,?_⟩⟩,fun h2=>qCJ ?_ hV3⟩
  ·rw[ha,qAt (by grind)]
  ·have:placeT (qBQ d (qAj d g) g.result 0 g.body)=(qBQ d (qAj d g) g.result 0 g.body).1:=if_neg h2
   rw[this,ha,qAn (b:=(g.name,(qBQ d (qAj d g) g.result 0 g.body).1,(qBQ d (qAj d g) g.result 0 g.body).2)) (by grind)]
 rw[(h1.ok.procs.done hk).1,qAl]at ha
 rw[ha]
 exact⟨none,rfl,hV,rfl⟩
theorem qBW{V1:Mem}{X:Option Flt}(h:FltAt V1 none X):X=none:=by
 cases X with
 | none=>rfl
 | some r=>obtain⟨b,t,h1,_⟩:=h;cases h1
theorem qEL{V1:Mem}{X:Option Flt}{p:Option Addr}(h:FltAt V1 p X)(hp:¬p=none):∃r,X=some r:=by
 cases X with
 | none=>exact absurd h hp
 | some r=>grind
theorem impExps(hS:qHd)(h:qBB V c d)(hv:VNe d)(hp:VParts d)(hform:qFl d=none):FltC 195 [.pointer c] V (qIA d):=by
 refine x195 ?_
 unfold w195 qIA
 refine⟨h.nn,h.nn,qAh h.nn,d.ms,h.cell (i:=4) rfl,?_⟩
 unfold exp1
 generalize hf1:(fun(_:Nat) (m:Ms)=>if qCd d (qAQ d m.ty) m.x qBd≠0 then some ((m.name,-1,qCd d (qAQ d m.ty) m.x qBd):Flt) else none)=F1
 refine qBp d.measures.length (fun k V1=>V.sub V1/\qAl F1 0 d.measures=qAl F1 k (d.measures.drop k)) ⟨Mem.sub.refl _,rfl⟩ ?_
 rintro k b V1 J hi ⟨hV,ha⟩ hJ
 have h1:=h.sub hV
 refine⟨fun hk=>?_,fun hk=>?_⟩
 ·obtain⟨g,hm,hx,hdr,hl,hpp,hz,hrow⟩:=h1.ok.measures.get hk
  rw[hdr]at ha
  refine⟨hpp,hz,hk,_,_,_,_,_,_,_,hrow,Tri.mono (qEt hS h1 hv) ?_⟩
  rintro _ V2 ⟨m,rfl,h12,hsc⟩
  refine⟨_,_,_,rfl,Tri.mono (c238 (e:=g.x) (h1.sub h12) hv hsc ((h1.sub h12).ok.measuresOk g hm).x (hp.ms g hm)) ?_⟩
  rintro _ V3 ⟨p,rfl,h23,hfl⟩
  have hV3:=hV.trans (h12.trans h23)
  have hfe:(if qCd d (qAQ d g.ty) g.x qBd≠0 then some ((g.name,-1,qCd d (qAQ d g.ty) g.x qBd):Flt) else none)=F1 k g:=by rw[<- hf1]
  rw[show qAr [105,110,116]=qBd from rfl]at hfl
  rw[hfe]at hfl
  refine⟨_,rfl,fun hn=>?_,fun hn=>?_⟩
  ·subst hn
   exact⟨h1.ok.measures.succ hk,hJ hl _ _ ⟨hV3,by rw[ha,qAt (qBW hfl)]⟩⟩
  ·obtain⟨r,hr⟩:=qEL hfl hn
   rw[ha,qAn hr]
   rw[hr]at hfl
   exact⟨p,rfl,hV3,hfl⟩
 rw[(h1.ok.measures.done hk).1,qAl]at ha
 rw[ha,Option.none_or]
 refine⟨h.nn,h.nn,qAh h.nn,d.is,h1.cell (i:=5) rfl,?_⟩
 unfold exp2
 generalize hf2:(fun(_:Nat) (m:Iv)=>if qCd d (qAQ d m.ty) m.x qAw≠0 then some ((m.name,-1,qCd d (qAQ d m.ty) m.x qAw):Flt) else none)=F2
 refine qBp d.invs.length (fun k V1=>V.sub V1/\qAl F2 0 d.invs=qAl F2 k (d.invs.drop k)) ⟨hV,rfl⟩ ?_
 rintro k b V1 J hi ⟨hV,ha⟩ hJ
 have h1:=h.sub hV
 refine⟨fun hk=>?_,fun hk=>?_⟩
 ·obtain⟨g,hm,hx,hdr,hl,hpp,hz,hrow⟩:=h1.ok.invs.get hk
  rw[hdr]at ha
  refine⟨hpp,hz,hk,_,_,_,_,_,_,hrow,Tri.mono (qEt hS h1 hv) ?_⟩
  rintro _ V2 ⟨m,rfl,h12,hsc⟩
  refine⟨_,_,_,rfl,Tri.mono (c238 (e:=g.x) (h1.sub h12) hv hsc ((h1.sub h12).ok.invsOk g hm) (hp.is g hm)) ?_⟩
  rintro _ V3 ⟨p,rfl,h23,hfl⟩
  have hV3:=hV.trans (h12.trans h23)
  have hfe:(if qCd d (qAQ d g.ty) g.x qAw≠0 then some ((g.name,-1,qCd d (qAQ d g.ty) g.x qAw):Flt) else none)=F2 k g:=by rw[<- hf2]
  rw[show qAr [98,111,111,108]=qAw from rfl]at hfl
  rw[hfe]at hfl
  refine⟨_,rfl,fun hn=>?_,fun hn=>?_⟩
  ·subst hn
   exact⟨h1.ok.invs.succ hk,hJ hl _ _ ⟨hV3,by rw[ha,qAt (qBW hfl)]⟩⟩
  ·obtain⟨r,hr⟩:=qEL hfl hn
   rw[ha,qAn hr]
   rw[hr]at hfl
   exact⟨p,rfl,hV3,hfl⟩
 rw[(h1.ok.invs.done hk).1,qAl]at ha
 rw[ha,Option.none_or]
 refine⟨h.nn,h.nn,qAh h.nn,d.qs,h1.cell (i:=6) rfl,?_⟩
 unfold exp3
 generalize hf3:(fun(_:Nat) (m:Po)=>if qCd d (qAQ d m.ty) m.x qBd≠0 then some ((sPot,-1,qCd d (qAQ d m.ty) m.x qBd):Flt) else none)=F3
 refine qBp d.pots.length (fun k V1=>V.sub V1/\qAl F3 0 d.pots=qAl F3 k (d.pots.drop k)) ⟨hV,rfl⟩ ?_
 rintro k b V1 J hi ⟨hV,ha⟩ hJ
 have h1:=h.sub hV
 refine⟨fun hk=>?_,fun hk=>?_⟩
 ·obtain⟨g,hm,hx,hdr,hl,hpp,hz,hrow⟩:=h1.ok.pots.get hk
  rw[hdr]at ha
  refine⟨hpp,hz,hk,_,_,_,_,_,hrow,Tri.mono (qEt hS h1 hv) ?_⟩
  rintro _ V2 ⟨m,rfl,h12,hsc⟩
  refine⟨_,_,_,rfl,Tri.mono (c238 (e:=g.x) (h1.sub h12) hv hsc ((h1.sub h12).ok.potsOk g hm) (hp.qs g hm)) ?_⟩
  rintro _ V3 ⟨p,rfl,h23,hfl⟩
  have hV3:=hV.trans (h12.trans h23)
  have hfe:(if qCd d (qAQ d g.ty) g.x qBd≠0 then some ((sPot,-1,qCd d (qAQ d g.ty) g.x qBd):Flt) else none)=F3 k g:=by rw[<- hf3]
  rw[show qAr [105,110,116]=qBd from rfl,show qAr [112,111,116,101,110,116,105,97,108]=sPot from rfl]at hfl
  rw[hfe]at hfl
  refine⟨_,rfl,fun hn=>?_,fun hn=>?_⟩
  ·subst hn
   exact⟨h1.ok.pots.succ hk,hJ hl _ _ ⟨hV3,by rw[ha,qAt (qBW hfl)]⟩⟩
  ·obtain⟨r,hr⟩:=qEL hfl hn
   rw[ha,qAn hr]
   rw[hr]at hfl
   exact⟨p,rfl,hV3,hfl⟩
 rw[(h1.ok.pots.done hk).1,qAl]at ha
 rw[ha,Option.none_or]
 refine⟨h.nn,h.nn,qAh h.nn,d.bs,h1.cell (i:=7) rfl,?_⟩
 have hpr:=bounds_proc hform
 unfold exp4
 generalize hf4:(fun(_:Nat) (m:Bd)=>if qCd d (qCC d ((qHZ d m.proc).getD prD)) m.x qBd≠0 then some ((m.proc,-1,qCd d (qCC d ((qHZ d m.proc).getD prD)) m.x qBd):Flt) else none)=F4
 refine qBp d.bounds.length (fun k V1=>V.sub V1/\qAl F4 0 d.bounds=qAl F4 k (d.bounds.drop k)) ⟨hV,rfl⟩ ?_
 rintro k b V1 J hi ⟨hV,ha⟩ hJ
 have h1:=h.sub hV
 refine⟨fun hk=>?_,fun hk=>?_⟩
 ·obtain⟨g,hm,hx,hdr,hl,hpp,hz,hrow⟩:=h1.ok.bounds.get hk
  rw[hdr]at ha
  obtain⟨q,hq⟩:=hpr g hm
  obtain⟨mt,q1,q2⟩:=h1.procs
  refine⟨hpp,hz,hk,_,_,_,_,_,hrow,h.nn,h.nn,_,q1,qBi.str1 Tryz.underlying270 Tryz.underlying9 zero143 q2 ?_⟩
  rw[hq]
  refine⟨_,q.ps,_,q.ls,q.bs,rfl,Tri.mono (impInBound hS h1 hv (qKe hq) (h1.ok.procsOk q (qKe hq))) ?_⟩
  rintro _ V2 ⟨m,rfl,h12,hsc⟩
  refine⟨_,_,_,rfl,Tri.mono (c238 (e:=g.x) (h1.sub h12) hv hsc ((h1.sub h12).ok.boundsOk g hm) (hp.bs g hm)) ?_⟩
  rintro _ V3 ⟨p,rfl,h23,hfl⟩
  have hV3:=hV.trans (h12.trans h23)
  have hfe:(if qCd d (qCC d q) g.x qBd≠0 then some ((g.proc,-1,qCd d (qCC d q) g.x qBd):Flt) else none)=F4 k g:=by grind
  rw[show qAr [105,110,116]=qBd from rfl]at hfl
  rw[hfe]at hfl
  refine⟨_,rfl,fun hn=>?_,fun hn=>?_⟩
  ·subst hn
   exact⟨h1.ok.bounds.succ hk,hJ hl _ _ ⟨hV3,by rw[ha,qAt (qBW hfl)]⟩⟩
  ·obtain⟨r,hr⟩:=qEL hfl hn
   rw[ha,qAn hr]
   rw[hr]at hfl
   exact⟨p,rfl,hV3,hfl⟩
 rw[(h1.ok.bounds.done hk).1,qAl]at ha
 rw[ha]
 exact⟨none,rfl,hV,rfl⟩
end
theorem GenK.makeF1{P:Program}{V:Mem}{f:FuncId}{x:Operand}{ty:Nat}{vals:Operand->Value}{v:Value}(hx:vals x=v){q:Value->Mem->Prop}(hq:q (.func (.func f) #[v] #[]) V):GenK P (.makeFunc (.func f) #[x] #[]) ty vals V q:=by
 intro w hw
 refine⟨_,w,V,?_,Frm.refl hw,hq⟩
 unfold execOp Instr.makeFunc
 simp_all
section
variable{V:Mem}{d:Ds}{c:Option Addr}
theorem impFirst(hS:qHd)(h:qBB V c d)(hv:VNe d)(hp:VParts d):FltC 159 [.pointer c] V (qIH d):=by
 refine x159 ?_
 unfold w159
 have F1:=fun V1 (hs:V.sub V1)=>impTypes (h.sub hs)
 have F2:=fun V1 (hs:V.sub V1)=>impHeads (h.sub hs) hp.small
 have F3:=fun V1 (hs:V.sub V1)=>impForm (h.sub hs)
 have F4:=fun V1 (hs:V.sub V1)=>impBodies hS (h.sub hs) hv hp
 have F5:=fun V1 (hs:V.sub V1) (hf:qFl d=none)=>impExps hS (h.sub hs) hv hp hf
 refine GenK.makeF1 (v:=.pointer c) rfl ⟨.func (.func 191) #[.pointer c] #[],rfl,rfl,GenK.makeF1 (v:=.pointer c) rfl ⟨.func (.func 192) #[.pointer c] #[],rfl,rfl,GenK.makeF1 (v:=.pointer c) rfl ⟨.func (.func 193) #[.pointer c] #[],rfl,rfl,GenK.makeF1 (v:=.pointer c) rfl ⟨.func (.func 194) #[.pointer c] #[],rfl,rfl,GenK.makeF1 (v:=.pointer c) rfl ⟨.func (.func 195) #[.pointer c] #[],rfl,rfl,fun b hb=>?_⟩⟩⟩⟩⟩
 have hs1:=Mem.sub_new hb (.cells #[.func (.func 191) #[.pointer c] #[],.func (.func 192) #[.pointer c] #[],.func (.func 193) #[.pointer c] #[],.func (.func 194) #[.pointer c] #[],.func (.func 195) #[.pointer c] #[]] 236 (0,0))
 refine qBp 5 (fun i V1=>V.sub V1/\V1 b=some (.cells #[.func (.func 191) #[.pointer c] #[],.func (.func 192) #[.pointer c] #[],.func (.func 193) #[.pointer c] #[],.func (.func 194) #[.pointer c] #[],.func (.func 195) #[.pointer c] #[]] 236 (0,0)) /\
  ((i=0/\qIH d=(qGK d).or ((qEY d).or ((qFl d).or ((qCu d).or (qIA d)))))∨(i=1/\qIH d=(qEY d).or ((qFl d).or ((qCu d).or (qIA d))))∨(i=2/\qIH d=(qFl d).or ((qCu d).or (qIA d)))∨(i=3/\qFl d=none/\qIH d=(qCu d).or (qIA d))∨(i=4/\qFl d=none/\qIH d=qIA d)∨(i=5/\qIH d=none))) ⟨hs1,Mem.set_same _ _ _,.inl ⟨rfl,rfl⟩⟩ ?_
 rintro i b' V1 J hi ⟨hV,hrow,hst⟩ hJ
 have fin:∀{V2:Mem} {X Y:Option Flt} {p:Option Addr},V.sub V2->FltAt V2 p X->¬(p=none)->qIH d=X.or Y->(∃p',Ending.returned (.pointer p)=.returned (.pointer p')/\V.sub V2/\FltAt V2 p' (qIH d)):=fun {V2 X Y p} hs hf hn he=>by
  obtain⟨r,rfl⟩:=qEL hf hn
  simp_all
 refine⟨fun hlt=>?_,fun hge=>?_⟩
 ·rcases hst with⟨rfl,he⟩|⟨rfl,he⟩|⟨rfl,he⟩|⟨rfl,hf,he⟩|⟨rfl,hf,he⟩|⟨rfl,he⟩
  ·refine⟨by simp[qAa],by omega,by omega,.func (.func 191) #[.pointer c] #[],rfl,qAd hrow 0 1 (by simp),_,_,_,rfl,Tryz.call191,Tri.mono (F1 V1 hV) ?_⟩
   rintro _ V2 ⟨p,rfl,h12,hfl⟩
   refine⟨_,rfl,fun hn=>⟨⟨by omega,by omega⟩,hJ (by omega) _ _ ⟨hV.trans h12,h12 _ _ hrow,?_⟩⟩,fun hn=>fin (hV.trans h12) hfl hn he⟩
   subst hn
   exact .inr (.inl ⟨rfl,by rw[he,qBW hfl,Option.none_or]⟩)
  ·refine⟨by simp[qAa],by omega,by omega,.func (.func 192) #[.pointer c] #[],rfl,qAd hrow 1 1 (by simp),_,_,_,rfl,Tryz.call192,Tri.mono (F2 V1 hV) ?_⟩
   rintro _ V2 ⟨p,rfl,h12,hfl⟩
   refine⟨_,rfl,fun hn=>⟨⟨by omega,by omega⟩,hJ (by omega) _ _ ⟨hV.trans h12,h12 _ _ hrow,?_⟩⟩,fun hn=>fin (hV.trans h12) hfl hn he⟩
   subst hn
   exact .inr (.inr (.inl ⟨rfl,by rw[he,qBW hfl,Option.none_or]⟩))
  ·refine⟨by simp[qAa],by omega,by omega,.func (.func 193) #[.pointer c] #[],rfl,qAd hrow 2 1 (by simp),_,_,_,rfl,Tryz.call193,Tri.mono (F3 V1 hV) ?_⟩
   rintro _ V2 ⟨p,rfl,h12,hfl⟩
   refine⟨_,rfl,fun hn=>⟨⟨by omega,by omega⟩,hJ (by omega) _ _ ⟨hV.trans h12,h12 _ _ hrow,?_⟩⟩,fun hn=>fin (hV.trans h12) hfl hn he⟩
   subst hn
   exact .inr (.inr (.inr (.inl ⟨rfl,qBW hfl,by rw[he,qBW hfl,Option.none_or]⟩)))
  ·refine⟨by simp[qAa],by omega,by omega,.func (.func 194) #[.pointer c] #[],rfl,qAd hrow 3 1 (by simp),_,_,_,rfl,Tryz.call194,Tri.mono (F4 V1 hV) ?_⟩
   rintro _ V2 ⟨p,rfl,h12,hfl⟩
   refine⟨_,rfl,fun hn=>⟨⟨by omega,by omega⟩,hJ (by omega) _ _ ⟨hV.trans h12,h12 _ _ hrow,?_⟩⟩,fun hn=>fin (hV.trans h12) hfl hn he⟩
   subst hn
   exact .inr (.inr (.inr (.inr (.inl ⟨rfl,hf,by rw[he,qBW hfl,Option.none_or]⟩))))
  ·refine⟨by simp[qAa],by omega,by omega,.func (.func 195) #[.pointer c] #[],rfl,qAd hrow 4 1 (by simp),_,_,_,rfl,Tryz.call195,Tri.mono (F5 V1 hV hf) ?_⟩
   rintro _ V2 ⟨p,rfl,h12,hfl⟩
   refine⟨_,rfl,fun hn=>⟨⟨by omega,by omega⟩,hJ (by omega) _ _ ⟨hV.trans h12,h12 _ _ hrow,?_⟩⟩,fun hn=>fin (Y:=none) (hV.trans h12) hfl hn (by simp_all)⟩
   subst hn
   exact .inr (.inr (.inr (.inr (.inr ⟨rfl,by rw[he,qBW hfl]⟩))))
  ·omega
 ·rcases hst with⟨rfl,he⟩|⟨rfl,he⟩|⟨rfl,he⟩|⟨rfl,hf,he⟩|⟨rfl,hf,he⟩|⟨rfl,he⟩
  ·omega
  ·omega
  ·omega
  ·omega
  ·omega
  ·rw[he];exact⟨none,rfl,hV,rfl⟩
theorem c113[Tab V](hS:qHd)(hN:NewC)(hd:Ds.Ok V d):PP 113 [d.v] V (if qAF d=true then f3 (qIH d) else .tuple #[.string sE,.int .i64 0,.int .i64 1]):=by
 refine Pur.mk (x113 ?_)
 unfold w113
 refine(c120 hd).call ⟨_,rfl,fun hval=>?_,fun hval=>?_⟩
 ·rw[if_pos hval]
  refine Tri.mono (hN V d hd) ?_
  rintro _ V1 ⟨c,rfl,h1,hc⟩
  refine⟨c,rfl,Tri.mono (impFirst hS hc (vne hval) (vparts hval)) ?_⟩
  rintro _ V2 ⟨p,rfl,h2,hfl⟩
  refine⟨p,rfl,fun hn=>?_,fun hn=>?_⟩
  ·subst hn
   rw[qBW hfl]
   exact⟨rfl,h1.trans h2⟩
  ·obtain⟨r,hr⟩:=qEL hfl hn
   rw[hr]at hfl ⊢
   obtain⟨b,t,rfl,hb⟩:=hfl
   exact⟨hn,hn,_,qAd hb 0 1 (by simp),hn,hn,_,qAd hb 1 1 (by simp),hn,hn,_,qAd hb 2 1 (by simp),qBS (p:=some ⟨b,0,none⟩) (qAd hb 2 1 (by simp)),hn,hn,qBS (p:=some ⟨b,0,none⟩) (qAd hb 1 1 (by simp)),hn,hn,qBS (p:=some ⟨b,0,none⟩) (qAd hb 2 1 (by simp)),hn,hn,rfl,h1.trans h2⟩
 ·rw[if_neg hval];exact⟨rfl,Mem.sub.refl _⟩
end
end Go.Proofs
namespace Go.Sx
open Go
open Classical
structure KeyOf (P:Program) (kt:TypeId) {α:Type} (enc:α->Value):Prop where
 inj:∀a b,enc a=enc b->a=b
 find:∀(a:α) (es:List MapEntry) (w:World),(∀e∈es,∃b,e.key=enc b)->(Instr.findKey kt (enc a) es).run P w=.ok ((es.findIdx? fun e=>decide (e.key=enc a)).bind fun j=>(es[j]?).map fun e=>(j,e.val)) w
 check:∀(b:Bool) (a:α) (w:World),(Instr.checkKey b 10000 kt (enc a)).run P w=.ok () w
 stays:∀(a:α) (w:World),(Instr.keyThatStays (enc a) (enc a)).run P w=.ok (enc a) w
noncomputable def qEc(es:List MapEntry)(k:Value):Option Value:=(es.find? fun e=>decide (e.key=k)).map (·.val)
structure qEd {α:Type} (enc:α->Value) (V:Mem) (b:Nat) (m:α->Option Value):Prop where
 at_:∃es clock,V b=some (.map es clock)/\(∀e∈es.toList,∃a,e.key=enc a)/\es.toList.Pairwise (fun e f=>e.key≠f.key)/\∀a,qEc es.toList (enc a)=m a
section
variable{α:Type}{enc:α->Value}{P:Program}{t kt et:TypeId}{V V':Mem}{b c:Nat}{m m':α->Option Value}
theorem qEd.sub(h:qEd enc V b m)(hs:V.sub V'):qEd enc V' b m:=by
 obtain⟨es,c,h1,h2⟩:=h.at_
 exact⟨es,c,hs _ _ h1,h2⟩
theorem qEd.set{o:Obj}(h:qEd enc V b m)(hn:b≠c):qEd enc (V.set c o) b m:=by
 obtain⟨es,c,h1,h2⟩:=h.at_
 exact⟨es,c,by rw[Mem.set_ne hn];exact h1,h2⟩
theorem qEd.made(V:Mem)(b:Nat):qEd enc (V.set b (.map #[] 0)) b fun _=>none :=
 ⟨#[],0,Mem.set_same _ _ _,by simp,by simp,by simp[qEc]⟩
theorem qEd.congr(h:qEd enc V b m)(e:∀k,m k=m' k):qEd enc V b m':=by
 obtain⟨es,c,h1,h2,h3,h4⟩:=h.at_
 exact⟨es,c,h1,h2,h3,fun k=>(h4 k).trans (e k)⟩
theorem qFP(k:Value):∀es:List MapEntry,qEc es k=(es.findIdx? fun e=>decide (e.key=k)).bind fun j=>(es[j]?).map (·.val)
 | []=>rfl
 | e::es=>by
  have ih:=qFP k es
  unfold qEc at ih ⊢
  simp only[List.find?_cons,List.findIdx?_cons]
  by_cases hk:e.key=k
  ·simp[hk]
  ·simp only[hk,decide_false,Bool.false_eq_true,if_false,ih]
   cases h':List.findIdx? (fun e=>decide (e.key=k)) es <;> simp
theorem qBi.key2(K:KeyOf P kt enc)(ht:P.underlying t=some (.map kt et)){z:Value}(hz:∀w,(zeroValue et).run P w=.ok z w)(hm:qEd enc V b m){k:α}{q:Value->Prop}(hq:q (.tuple #[(m k).getD z,.bool (m k).isSome])):qBi P t (.map (some b)) (enc k) true V q:=by
 intro w hw
 obtain⟨es,c,h1,h2,-,h3⟩:=hm.at_
 refine⟨_,?_,hq⟩
 unfold Instr.lookup
 simp only[Sem.run_bind,run_underlying ht,Result.andThen_ok,MapKept.run_getObj_map (hw _ _ h1),Sem.run_pure,K.check,K.find k _ w h2]
 rw[<- h3 k,qFP]
 cases h':List.findIdx? (fun e=>decide (e.key=enc k)) es.toList with
 | none=>simp_all
 | some j =>
  grind [List.findIdx?_eq_some_iff_getElem,Sem.run_pure,List.getElem?_eq_getElem,Array.getElem?_eq_getElem]
theorem qBi.key1(K:KeyOf P kt enc)(ht:P.underlying t=some (.map kt et)){z:Value}(hz:∀w,(zeroValue et).run P w=.ok z w)(hm:qEd enc V b m){k:α}{q:Value->Prop}(hq:q ((m k).getD z)):qBi P t (.map (some b)) (enc k) false V q:=by
 intro w hw
 obtain⟨es,c,h1,h2,-,h3⟩:=hm.at_
 refine⟨_,?_,hq⟩
 unfold Instr.lookup
 simp only[Sem.run_bind,run_underlying ht,Result.andThen_ok,MapKept.run_getObj_map (hw _ _ h1),Sem.run_pure,K.check,K.find k _ w h2]
 rw[<- h3 k,qFP]
 cases h':List.findIdx? (fun e=>decide (e.key=enc k)) es.toList with
 | none=>simp_all
 | some j =>
  grind [List.findIdx?_eq_some_iff_getElem,Sem.run_pure,List.getElem?_eq_getElem,Array.getElem?_eq_getElem]
theorem lookV_push{es:List MapEntry}{k val:Value}{c:Nat}(h:es.findIdx? (fun e=>decide (e.key=k))=none)(x:Value):qEc (es++[{ key:=k,val:=val,born:=c }]) x=if x=k then some val else qEc es x:=by
 grind [qEc]
theorem qGT(k val:Value):∀(es:List MapEntry) (i:Nat) (h:es.findIdx? (fun e=>decide (e.key=k))=some i) (x:Value),qEc (es.modify i fun e=>{ e with key:=k,val:=val }) x=if x=k then some val else qEc es x
 | [],_,h,_=>by simp at h
 | e::es,i,h,x=>by
  rw[List.findIdx?_cons]at h
  by_cases hk:e.key=k
  ·grind [qEc]
  ·simp only[hk,decide_false,Bool.false_eq_true,if_false,Option.map_eq_some_iff]at h
   obtain⟨j,hj,rfl⟩:=h
   have ih:=qGT k val es j hj x
   grind [qEc]
theorem qIg(k val:Value):∀(es:List MapEntry) (i:Nat),es.findIdx? (fun e=>decide (e.key=k))=some i->(es.modify i fun e=>{ e with key:=k,val:=val }).map (·.key)=es.map (·.key)
 | [],_,h=>by simp at h
 | e::es,i,h=>by
  rw[List.findIdx?_cons]at h
  by_cases hk:e.key=k
  ·grind
  ·simp only[hk,decide_false,Bool.false_eq_true,if_false,Option.map_eq_some_iff]at h
   obtain⟨j,hj,rfl⟩:=h
   simp[qIg k val es j hj]
theorem pair_keys{es:List MapEntry}:es.Pairwise (fun e f=>e.key≠f.key)↔(es.map (·.key)).Pairwise (·≠·):=by grind
theorem qCv.key(K:KeyOf P kt enc)(ht:P.underlying t=some (.map kt et))(hm:qEd enc V b m){k:α}{val:Value}{q:Mem->Prop}(hq:∀o,qEd enc (V.set b o) b (fun x=>if x=k then some val else m x)->q (V.set b o)):qCv P t (.map (some b)) (enc k) val V q:=by
 intro w hw
 obtain⟨es,c,h1,h2,hd,h3⟩:=hm.at_
 have hrun:(Instr.mapUpdate t (.map (some b)) (enc k) val).run P w =
   (match es.toList.findIdx? (fun e=>decide (e.key=enc k)) with
   | some i=>(setObj b (.map (es.modify i fun e=>{ e with key:=enc k,val:=val }) c)).run P w
   | none=>(setObj b (.map (es.push { key:=enc k,val:=val,born:=c }) (c+1))).run P w):=by
  unfold Instr.mapUpdate
  simp only[Sem.run_bind,run_underlying ht,Result.andThen_ok,MapKept.run_getObj_map (hw _ _ h1),K.check,K.find k _ w h2]
  cases h':List.findIdx? (fun e=>decide (e.key=enc k)) es.toList with
  | none=>rfl
  | some j =>
   obtain⟨hj1,hj2,_⟩:=List.findIdx?_eq_some_iff_getElem.1 h'
   have hj3:j<es.size:=by simpa using hj1
   have hkey:(es[j]?).map (·.key)=some (enc k):=by
    simp_all
   simp only[List.getElem?_eq_getElem hj1,Option.bind_some,Option.map_some,Sem.run_bind,hkey,Option.getD_some,K.stays,Result.andThen_ok]
 have hif:∀a,(if enc a=enc k then some val else qEc es.toList (enc a))=if a=k then some val else m a:=fun a=>by
  by_cases e:a=k
  ·simp_all
  ·rw[if_neg e,if_neg (fun h=>e (K.inj _ _ h)),h3]
 cases h':List.findIdx? (fun e=>decide (e.key=enc k)) es.toList with
 | none =>
  rw[h']at hrun
  refine⟨_,V.set b (.map (es.push { key:=enc k,val:=val,born:=c }) (c+1)),hrun.trans (MapKept.run_setObj_map _ (hw _ _ h1)),Frm.put hw h1,hq _ ⟨_,_,Mem.set_same _ _ _,?_,?_,fun x=>?_⟩⟩
  ·grind
  ·grind
  ·rw[Array.toList_push,lookV_push h',hif]
 | some j =>
  rw[h']at hrun
  refine⟨_,V.set b (.map (es.modify j fun e=>{ e with key:=enc k,val:=val }) c),hrun.trans (MapKept.run_setObj_map _ (hw _ _ h1)),Frm.put hw h1,hq _ ⟨_,_,Mem.set_same _ _ _,?_,?_,fun x=>?_⟩⟩
  ·intro e he
   rw[Array.toList_modify]at he
   obtain⟨i,hi,rfl⟩:=List.mem_iff_getElem.1 he
   rw[List.getElem_modify]
   split
   ·grind
   simp_all
  ·simp_all [Array.toList_modify,pair_keys,qIg]
  simp_all [Array.toList_modify,qGT]
theorem qIl:∀(es:List MapEntry) (k:Value) (i:Nat),es.Pairwise (fun e f=>e.key≠f.key)->es.findIdx? (fun e=>decide (e.key=k))=some i->∀x,qEc (es.eraseIdx i) x=if x=k then none else qEc es x
 | [],_,_,_,h,_=>by simp at h
 | e::es,k,i,hd,h,x=>by
  obtain⟨hd1,hd2⟩:=List.pairwise_cons.1 hd
  rw[List.findIdx?_cons]at h
  by_cases hk:e.key=k
  ·grind [qEc]
  ·simp only[hk,decide_false,Bool.false_eq_true,if_false,Option.map_eq_some_iff]at h
   obtain⟨j,hj,rfl⟩:=h
   have ih:=qIl es k j hd2 hj x
   grind [qEc]
theorem GenK.delete(K:KeyOf P kt enc)(ht:P.underlying t=some (.map kt et))(hm:qEd enc V b m){k:α}{x y:Operand}{t2 ty:TypeId}{vals:Operand->Value}(hx:vals x=.map (some b))(hy:vals y=enc k){q:Value->Mem->Prop}
  (hq:∀o,qEd enc (V.set b o) b (fun x=>if x=k then none else m x)->q (.tuple #[]) (V.set b o)):GenK P (.call { callee:=.builtin .delete,args:=#[x,y],argTypes:=#[t,t2] }) ty vals V q:=by
 intro w hw
 obtain⟨es,c,h1,h2,hd,h3⟩:=hm.at_
 have hrun:(execOp vals { dst:=none,op:=.call { callee:=.builtin .delete,args:=#[x,y],argTypes:=#[t,t2] },type:=ty,pos := "",after:=#[],guard:=none }).run P w =
   (Sem.run P (match es.toList.findIdx? (fun(e:MapEntry)=>decide (e.key=enc k)) with
   | some i=>setObj b (.map (es.eraseIdxIfInBounds i) c)
   | none=>setObj b (.map es c)) w).andThen fun _ w'=>.ok (.value (.tuple #[])) w':=by
  unfold execOp
  simp only[resolve,invoke,builtin,Sem.run_bind,Sem.run_pure,Result.andThen_ok,List.map_toArray,List.map_cons,List.map_nil,hx,hy,Builtin.delete_]
  simp only[List.getElem?_toArray,List.getElem?_cons_zero,List.getElem?_cons_succ,Sem.run_bind,run_underlying ht,Result.andThen_ok,MapKept.run_getObj_map (hw _ _ h1),K.check,K.find k _ w h2]
  cases h':List.findIdx? (fun e=>decide (e.key=enc k)) es.toList with
  | none=>simp[Sem.run_bind,Sem.run_pure,MapKept.run_setObj_map _ (hw _ _ h1),Result.andThen_ok]
  | some j =>
   have hj1:=(List.findIdx?_eq_some_iff_getElem.1 h').1
   have hj2:es[j]?=some es[j]:=Array.getElem?_eq_getElem (show j<es.size by simpa using hj1)
   simp[Sem.run_bind,Sem.run_pure,MapKept.run_setObj_map _ (hw _ _ h1),Result.andThen_ok,hj2]
 cases h':List.findIdx? (fun e=>decide (e.key=enc k)) es.toList with
 | none =>
  rw[h']at hrun
  simp only[MapKept.run_setObj_map _ (hw _ _ h1),Result.andThen_ok]at hrun
  refine⟨_,_,V.set b (.map es c),hrun,Frm.put hw h1,hq _ ⟨_,_,Mem.set_same _ _ _,h2,hd,fun a=>?_⟩⟩
  by_cases e:a=k
  ·subst e
   rw[if_pos rfl,qFP,h'];rfl
  simp_all
 | some j =>
  rw[h']at hrun
  simp only[MapKept.run_setObj_map _ (hw _ _ h1),Result.andThen_ok]at hrun
  refine⟨_,_,V.set b (.map (es.eraseIdxIfInBounds j) c),hrun,Frm.put hw h1,hq _ ⟨_,_,Mem.set_same _ _ _,?_,?_,fun a=>?_⟩⟩
  ·intro e he
   rw[Array.toList_eraseIdxIfInBounds]at he
   exact h2 e (List.mem_of_mem_eraseIdx he)
  ·grind [Array.toList_eraseIdxIfInBounds,List.eraseIdx_sublist]
  ·rw[Array.toList_eraseIdxIfInBounds,qIl _ _ _ hd h',h3]
   by_cases e:a=k
   ·simp_all
   ·rw[if_neg e,if_neg (fun h=>e (K.inj _ _ h))]
end
end Go.Sx
namespace Go.Proofs
open Go Go.Sx
attribute [local irreducible] Go.Sx.Tri
def qAe(n:Int):List Value:=[.int .i64 n]
def inI(n:Int):Prop:=-9223372036854775808<=n/\n<=9223372036854775807
structure Nd where
 ty:Int
 sl:Sl
 f:List Int
def Nd.row(n:Nd):List Value:=[.int .i64 n.ty,n.sl.v]
def Nd.v(n:Nd):Value:=.agg n.row.toArray
structure Nd.Ok (V:Mem) (n:Nd):Prop where
 rows:qAc V n.sl 1 (n.f.map qAe)
 tyIn:inI n.ty
 vals:∀x∈n.f,inI x
structure Mm where
 gs:Sl
 globals:List Int
 ns:Sl
 nodes:List Nd
def Mm.row(m:Mm):List Value:=[m.gs.v,m.ns.v]
def Mm.v(m:Mm):Value:=.agg m.row.toArray
structure Mm.Ok (V:Mem) (m:Mm):Prop where
 globals:qAc V m.gs 1 (m.globals.map qAe)
 gIn:∀x∈m.globals,inI x
 nodes:qAc V m.ns 2 (m.nodes.map Nd.row)
 nodesOk:∀n∈m.nodes,Nd.Ok V n
theorem Nd.Ok.sub{V V':Mem}{n:Nd}(h:Nd.Ok V n)(hs:V.sub V'):Nd.Ok V' n:=⟨h.rows.sub hs,h.tyIn,h.vals⟩
theorem Mm.Ok.sub{V V':Mem}{m:Mm}(h:Mm.Ok V m)(hs:V.sub V'):Mm.Ok V' m:=⟨h.globals.sub hs,h.gIn,h.nodes.sub hs,fun n hn=>(h.nodesOk n hn).sub hs⟩
def allI{α:Type}(p:Nat->α->Bool)(xs:List α):Bool:=xs.zipIdx.all fun x=>p x.2 x.1
def AllI{α:Type}(p:Nat->α->Bool)(xs:List α)(i:Nat):Prop:=∀j x,j<i->xs[j]?=some x->p j x=true
theorem AllI.zero{α:Type}{p:Nat->α->Bool}{xs:List α}:AllI p xs 0:=fun _ _ h=>absurd h (Nat.not_lt_zero _)
theorem AllI.succ{α:Type}{p:Nat->α->Bool}{xs:List α}{i:Nat}{x:α}(h:AllI p xs i)(hx:xs[i]?=some x)(hp:p i x=true):AllI p xs (i+1):=fun j y hj hy=>by
 rcases Nat.lt_succ_iff_lt_or_eq.1 hj with h'|rfl
 ·exact h j y h' hy
 simp_all
theorem qEP{α:Type}{p:Nat->α->Bool}{xs:List α}:allI p xs=true↔∀j x,xs[j]?=some x->p j x=true:=by
 unfold allI
 rw[List.all_eq_true]
 constructor
 ·simp_all [List.mem_zipIdx_iff_getElem?]
 grind
theorem AllI.all{α:Type}{p:Nat->α->Bool}{xs:List α}{i:Nat}(h:AllI p xs i)(hi:xs.length<=i):allI p xs=true :=
 qEP.2 fun j x hx=>h j x (by grind) hx
theorem allI_false{α:Type}{p:Nat->α->Bool}{xs:List α}{j:Nat}{x:α}(hx:xs[j]?=some x)(hp:¬p j x=true):allI p xs=false:=by
 grind [allI,absurd,qEP]
def qDQ(d:Ds)(s:ByteArray):Int:=qIQ (fun t=>decide (t.name=s)) d.types
def qBO(d:Ds)(l:List Fld):Bool:=l.all fun f=>qBx d f.ty
def hasT(d:Ds):Bool:=qAF d&&qBO d d.globals&&allI (fun i t=>decide (qDQ d t.name=(i:Int))&&qBO d t.fields) d.types
def qAq(d:Ds)(t:Int):List Fld:=((d.types[t.toNat]?).map (·.fields)).getD []
def tyAt(l:List Fld)(i:Nat):ByteArray:=((l[i]?).map (·.ty)).getD sE
def qAu(d:Ds)(m:Mm)(typ:ByteArray)(v:Int):Bool :=
 if typ=qBd then decide (-1099511627776<=v/\v<=1099511627776) else if typ=qAw then decide (v=0∨v=1)
 else decide (v=0∨(1<=v/\v<=(m.nodes.length:Int)/\(m.nodes[(v-1).toNat]?).map (·.ty)=some (qDQ d typ)))
def qAg(d:Ds)(m:Mm)(l:List Fld)(vs:List Int):Bool:=decide (l.length=vs.length)&&allI (fun i v=>qAu d m (tyAt l i) v) vs
def qEp(d:Ds)(n:Nd):Bool:=decide (0<=n.ty/\n.ty<(d.types.length:Int))
def qAx(d:Ds)(m:Mm):Bool:=hasT d&&decide (m.nodes.length<=4096)&&m.nodes.all (qEp d)&&qAg d m d.globals m.globals&&m.nodes.all fun n=>qAg d m (qAq d n.ty) n.f
theorem row_take{V:Mem}{a:Addr}{n k:Nat}{vs:List Value}(h:V.row a n=some vs)(hk:k<=n):V.row a k=some (vs.take k):=by
 grind [Mem.row]
theorem rowp_first{V:Mem}{p:Option Addr}{off n k:Nat}{vs:List Value}(h:V.rowp p off n=some vs)(hk:k<=n):V.rowp (qAa (qAa p off) 0) 0 k=some (vs.take k):=by
 cases p with
 | none=>cases h
 | some a =>
  have h0:((a.add off).add 0).add 0=a.add off:=by rfl
  show V.row (((a.add off).add 0).add 0) k=_
  rw[h0]
  exact row_take h hk
section
variable{V:Mem}{d:Ds}{m:Mm}
theorem isNode_idx(d:Ds)(s:ByteArray):(qDQ d s<0/\qBm d s=false)∨(0<=qDQ d s/\qBm d s=true):=by
 grind [qDQ,qBm,qBh,Ty]
theorem qBr{t:Int}{x:Ty}{k:Nat}(hx:d.types[k]?=some x)(ht:t=(k:Int)):qAq d t=x.fields:=by
 grind [qAq]
end
end Go.Proofs
namespace Go.Proofs
open Go Go.Sx
inductive Rs where
 | ok (v:Int)
 | bad (e:Int)
deriving DecidableEq
def Rs.bind:Rs->(Int->Rs)->Rs
 | .ok v,f=>f v
 | .bad e,_=>.bad e
def big(n:Int):Rs:=if -1099511627776<=n/\n<=1099511627776 then .ok n else .bad 5
def trI(b:Bool):Int:=if b then 1 else 0
def qEV(op a b:Int):Rs :=
 if op=9 then big (a+b) else if op=10 then big (a-b) else if op=11 then big (a*b)
 else if op=22 then .ok (if a<b then b else a) else if op=23 then .ok (if b<a then b else a)
 else if op=14 then .ok (trI (decide (a=b))) else if op=15 then .ok (trI (!decide (a=b))) else if op=16 then .ok (trI (decide (a<b))) else if op=17 then .ok (trI (decide (a<=b)))
 else if b=0 then .bad 18 else if op=12 then .ok (a.tdiv b) else .ok (a.tmod b)
def qGe(l:List Fld)(s:ByteArray):Int:=qIQ (fun f=>decide (f.name=s)) l
def mIdx(d:Ds)(s:ByteArray):Int:=qIQ (fun x=>decide (x.name=s)) d.measures
def varV(d:Ds)(m:Mm)(x:Int)(s:ByteArray):Int:=if s=sThisF then x else (m.globals[(qGe d.globals s).toNat]?).getD 0
def fldV(d:Ds)(m:Mm)(a:Int)(s:ByteArray):Rs :=
 if a=0 then .bad 17 else match m.nodes[(a-1).toNat]? with
  | none=>.bad 0
  | some n=>.ok ((n.f[(qGe (qAq d n.ty) s).toNat]?).getD 0)
def logV(a:Int):Int:=(Nat.log2 a.toNat:Int)
def kidR(rs:List Rs)(i:Nat):Rs:=rs.getD i (.bad 0)
section
variable(d:Ds)(m:Mm)
def comb(F:Int->Int->Rs)(x op n:Int)(s:ByteArray)(rs:List Rs):Rs :=
 if op=1∨op=2 then .ok n else if op=3 then .ok 0 else if op=4 then .ok (varV d m x s)
 else if op=5 then (kidR rs 0).bind fun a=>fldV d m a s
 else if op=7 then (kidR rs 0).bind fun a=>F (mIdx d s) a
 else if op=8 then (kidR rs 0).bind fun a=>big (-a)
 else if op=18 then (kidR rs 0).bind fun a=>.ok (1-a)
 else if op=24 then (kidR rs 0).bind fun a=>.ok (logV a)
 else if op=19 then (kidR rs 0).bind fun a=>if a=0 then .ok 0 else kidR rs 1
 else if op=20 then (kidR rs 0).bind fun a=>if a=0 then kidR rs 1 else .ok 1
 else if op=21 then (kidR rs 0).bind fun a=>if a=0 then kidR rs 2 else kidR rs 1
 else (kidR rs 0).bind fun a=>(kidR rs 1).bind fun b=>qEV op a b
mutual
def evE(F:Int->Int->Rs)(x:Int):E->Rs
 | .mk op n s _ k=>comb d m F x op n s (evEs F x k)
def evEs(F:Int->Int->Rs)(x:Int):List E->List Rs
 | []=>[]
 | e::es=>evE F x e::evEs F x es
end
end
end Go.Proofs
namespace Go.Proofs
open Go Go.Sx
structure qAz (d:Ds) (m:Mm):Prop where
 valid:qAF d=true
 chk:qIH d=none
 mem:qAx d m=true
def VE(e:E):Prop:=∃k,okE k e=true
theorem VE.of_valid{e:E}(h:qAM e=true):VE e:=⟨1,(of_decide_eq_true h).1⟩
theorem okE_eq(k:Int)(e:E):okE k e=(decide (k<=60)&&qER e.op e.n e.s e.k.length&&okEs (k+1) e.k):=by cases e;unfold okE;rfl
theorem okEs_all{k:Int}:∀{l:List E},okEs k l=true->∀x∈l,okE k x=true
 | [],_,x,hx=>by cases hx
 | e::l,h,x,hx=>by
  unfold okEs at h
  rw[Bool.and_eq_true]at h
  rcases List.mem_cons.1 hx with rfl|hx
  ·exact h.1
  ·exact okEs_all h.2 x hx
theorem VE.node{e:E}(h:VE e):qER e.op e.n e.s e.k.length=true:=by
 obtain⟨k,h⟩:=h
 simp_all [okE_eq,Bool.and_eq_true]
theorem VE.kids{e:E}(h:VE e):∀x∈e.k,VE x:=by
 obtain⟨k,h⟩:=h
 rw[okE_eq,Bool.and_eq_true]at h
 exact fun x hx=>⟨_,okEs_all h.2 x hx⟩
theorem qEI(d:Ds)(sc:Sc):∀(k:List E) (acc:List ByteArray),(partsT d sc acc k).2=0->(∀x∈k,(qAo d sc x).2=0)/\(partsT d sc acc k).1=acc++k.map fun x=>(qAo d sc x).1
 | [],acc,_=>by rw[qEH];simp
 | x::xs,acc,h=>by
  rw[qCK]at h ⊢
  split at h
  ·omega
  ·rename_i h'
   rw[if_neg h']
   obtain⟨h1,h2⟩:=qEI d sc xs _ h
   simp_all
theorem qHK{d:Ds}{sc:Sc}{e:E}{t:ByteArray}(h:qAo d sc e=(t,0)):(∀x∈e.k,(qAo d sc x).2=0)/\qGx d sc e.op e.s (e.k.map fun x=>(qAo d sc x).1)=(t,0):=by
 grind [qKE,Prod.mk.injEq,absurd,partsT,qEI]
theorem arityB{op n:Int}{s:ByteArray}{l:Int}(h:qER op n s l=true):qAP op≠-2/\(0<=qAP op->l=qAP op)/\nmB op s=true/\numB op n=true:=by
 grind [qER]
theorem list1{α:Type}{k:List α}(h:(k.length:Int)=1):∃a,k=[a]:=by
 match k,h with
 | [a],_=>grind
 | [],h=>simp at h
 | _::_::_,h=>simp at h;omega
theorem list2{α:Type}{k:List α}(h:(k.length:Int)=2):∃a b,k=[a,b]:=by
 match k,h with
 | [a,b],_=>simp_all
 | [],h=>simp at h
 | [_],h=>simp at h
 | _::_::_::_,h=>simp at h;omega
theorem list3{α:Type}{k:List α}(h:(k.length:Int)=3):∃a b c,k=[a,b,c]:=by
 match k,h with
 | [a,b,c],_=>simp_all
 | [],h=>simp at h
 | [_],h=>simp at h
 | [_,_],h=>simp at h
 | _::_::_::_::_,h=>simp at h;omega
theorem name_kw{s:ByteArray}(h:qAV s=true):isKw s=false:=by
 grind [qAV]
theorem qDM{s t:ByteArray}(h:qAV s=true)(ht:isKw t=true):s≠t:=fun e=>by grind [name_kw]
theorem kwNil:isKw sNil=true:=by kernel_rfl
theorem kwInt:isKw qBd=true:=by kernel_rfl
theorem kwBool:isKw qAw=true:=by kernel_rfl
section
variable{d:Ds}{m:Mm}
theorem validD_types(h:qAF d=true):(∀t∈d.types,qAV t.name=true)/\(∀f∈d.globals,qAV f.name=true)/\(∀x∈d.measures,msB x=true)/\(∀x∈d.invs,ivB x=true):=by
 grind [qAF,formB,tyB,qEv,fldB]
theorem qEo(h:qAF d=true){s:ByteArray}(hs:qBm d s=true):qAV s=true:=by
 obtain⟨t,ht,e⟩:=List.any_eq_true.1 hs
 rw[<- of_decide_eq_true e]
 exact(validD_types h).1 t ht
def qBI(d:Ds)(m:Mm)(t:ByteArray)(v:Int):Prop:=if t=sNil then v=0 else qAu d m t v=true
theorem qHS:sNil≠qBd/\sNil≠qAw/\qBd≠sNil/\qAw≠sNil/\qBd≠qAw/\qAw≠qBd:=by
 refine⟨of_decide_eq_false ?_,of_decide_eq_false ?_,of_decide_eq_false ?_,of_decide_eq_false ?_,of_decide_eq_false ?_,of_decide_eq_false ?_⟩ <;> kernel_rfl
theorem qBv{v:Int}:qBI d m qBd v↔-1099511627776<=v/\v<=1099511627776:=by
 unfold qBI qAu
 rw[if_neg qHS.2.2.1,if_pos rfl,decide_eq_true_eq]
theorem qAT{v:Int}:qBI d m qAw v↔v=0∨v=1:=by
 unfold qBI qAu
 rw[if_neg qHS.2.2.2.1,if_neg qHS.2.2.2.2.2,if_pos rfl,decide_eq_true_eq]
theorem qBn(h:qAF d=true){t:ByteArray}(ht:qBx d t=true){v:Int}:qBI d m t v↔qAu d m t v=true:=by
 unfold qBI
 rw[if_neg]
 intro e
 subst e
 unfold qBx at ht
 rw[decide_eq_false qHS.1,decide_eq_false qHS.2.1]at ht
 exact qDM (qEo h (by simpa using ht)) kwNil rfl
theorem qJp{t:ByteArray}(h:qAV t=true):qAu d m t 0=true:=by
 unfold qAu
 rw[if_neg (qDM h kwInt),if_neg (qDM h kwBool)]
 exact decide_eq_true (.inl rfl)
theorem qCf(h:qAF d=true){a b:ByteArray}(hf:qEb d a b=true){v:Int}(hv:qBI d m a v):qBI d m b v:=by
 unfold qEb at hf
 simp only[Bool.or_eq_true,Bool.and_eq_true,decide_eq_true_eq]at hf
 rcases hf with rfl|⟨rfl,hb⟩
 ·exact hv
 ·have hn:=qEo h hb
  unfold qBI at hv ⊢
  rw[if_pos rfl]at hv
  rw[if_neg (qDM hn kwNil),hv]
  exact qJp hn
theorem qDv:∀(l:List Fld) (s:ByteArray),qCt l s=((l.find? fun f=>decide (f.name=s)).map (·.ty)).getD sE
 | [],_=>rfl
 | f::l,s=>by
  unfold qCt
  rw[List.find?_cons]
  by_cases h:f.name=s
  ·simp_all
  ·rw[if_neg h,decide_eq_false h,qDv l s]
theorem qEr(l:List Fld)(s:ByteArray):(qCt l s=sE/\qGe l s=-1)∨∃(i:Nat) (f:Fld),qGe l s=i/\l[i]?=some f/\qCt l s=f.ty/\f.name=s:=by
 rw[qDv]
 unfold qGe
 rcases qBh (fun f:Fld=>decide (f.name=s)) l with⟨h1,h2,-⟩|⟨i,x,h1,h2,h3,-,h5,-⟩
 ·grind
 grind
theorem qBy(h:hasT d=true):qBO d d.globals=true/\(∀(i:Nat) (x:Ty),d.types[i]?=some x->qDQ d x.name=(i:Int))/\∀x∈d.types,qBO d x.fields=true:=by
 unfold hasT at h
 rw[Bool.and_eq_true,Bool.and_eq_true,qEP]at h
 obtain⟨⟨-,h1⟩,h2⟩:=h
 refine⟨h1,fun i x hx=>?_,fun x hx=>?_⟩
 ·grind
 ·obtain⟨i,hi,rfl⟩:=List.mem_iff_getElem.1 hx
  have:=h2 i _ (List.getElem?_eq_getElem hi)
  simp_all
theorem qAi(h:qAx d m=true):hasT d=true/\m.nodes.length<=4096/\(∀n∈m.nodes,qEp d n=true)/\qAg d m d.globals m.globals=true/\∀n∈m.nodes,qAg d m (qAq d n.ty) n.f=true:=by
 grind [qAx]
theorem qFy{l:List Fld}{vs:List Int}(h:qAg d m l vs=true){i:Nat}{f:Fld}(hi:l[i]?=some f):∃v,vs[i]?=some v/\qAu d m f.ty v=true:=by
 unfold qAg at h
 rw[Bool.and_eq_true,decide_eq_true_eq,qEP]at h
 have hl:=(List.getElem?_eq_some_iff.1 hi).1
 have hv:vs[i]?=some (vs[i]'(by omega)):=List.getElem?_eq_getElem _
 grind [tyAt]
theorem right_node{t:ByteArray}(hn:qAV t=true){a:Int}(h:qAu d m t a=true)(h0:a≠0):1<=a/\a<=(m.nodes.length:Int)/\∃n,m.nodes[(a-1).toNat]?=some n/\n∈m.nodes/\n.ty=qDQ d t:=by
 unfold qAu at h
 rw[if_neg (qDM hn kwInt),if_neg (qDM hn kwBool),decide_eq_true_eq]at h
 rcases h with h|⟨h1,h2,h3⟩
 ·omega
 ·refine⟨h1,h2,?_⟩
  cases hx:m.nodes[(a-1).toNat]? with
  | none=>simp_all
  | some n=>rw[hx]at h3;exact⟨n,rfl,List.mem_of_getElem? hx,by simpa using h3⟩
theorem tyOf_idx{s:ByteArray}{t:Ty}(h:qJh d s=some t):∃i:Nat,qDQ d s=(i:Int)/\d.types[i]?=some t/\t.name=s/\qBm d s=true:=by
 unfold qJh at h
 unfold qDQ qBm
 rcases qBh (fun t:Ty=>decide (t.name=s)) d.types with⟨-,h2,-⟩|⟨i,x,h1,h2,h3,-,h5,-,h7,-⟩
 ·simp_all
 grind
theorem fld_ok(G:qAz d m){t s ty:ByteArray}(ht:qCc d t s=(ty,0)){a:Int}(ha:qBI d m t a)(h0:a≠0) :
  ∃(n:Nd) (i j:Nat) (tt:Ty) (f:Fld) (v:Int),m.nodes[(a-1).toNat]?=some n/\n∈m.nodes/\1<=a/\a<=(m.nodes.length:Int)/\n.ty=(j:Int)/\d.types[j]?=some tt/\tt∈d.types/\qGe tt.fields s=i/\tt.fields[i]?=some f/\n.f[i]?=some v/\qBI d m ty v/\fldV d m a s=.ok v/\f.ty=ty:=by
 unfold qCc at ht
 cases hty:qJh d t with
 | none=>simp_all
 | some tt =>
  rw[hty]at ht
  simp only at ht
  split at ht
  ·simp at ht
  ·rename_i hl
   simp only[Prod.mk.injEq,and_true]at ht
   obtain⟨j,hj,hj2,rfl,hnode⟩:=tyOf_idx hty
   have hname:=qEo G.valid hnode
   have ha':qAu d m tt.name a=true:=by
    grind [qBI]
   obtain⟨b1,b2,n,b3,b4,b5⟩:=right_node hname ha' h0
   rcases qEr tt.fields s with⟨c1,-⟩|⟨i,f,c1,c2,c3,c4⟩
   ·grind
   ·have hfo:qAq d n.ty=tt.fields:=qBr hj2 (b5.trans hj)
    obtain⟨p1,-,-,-,p5⟩:=qAi G.mem
    have hv:=p5 n b4
    rw[hfo]at hv
    obtain⟨v,hv1,hv2⟩:=qFy hv c2
    have hmem:=List.mem_of_getElem? hj2
    have hkn:qBx d f.ty=true:=List.all_eq_true.1 ((qBy p1).2.2 tt hmem) f (List.mem_of_getElem? c2)
    refine⟨n,i,j,tt,f,v,b3,b4,b1,b2,b5.trans hj,hj2,hmem,c1,c2,hv1,?_,?_,c3.symm.trans ht⟩
    ·rw[<- ht,c3];exact(qBn G.valid hkn).2 hv2
    simp_all [fldV,if_neg,Int.toNat_natCast]
theorem qEM{α β:Type}{f:Nat->α->Option β}:∀{l:List α} {i:Nat},qAl f i l=none->∀j x,l[j]?=some x->f (i+j) x=none
 | [],_,_,j,x,hx=>by simp at hx
 | y::l,i,h,j,x,hx=>by
  unfold qAl at h
  cases hy:f i y with
  | some b=>simp_all
  | none =>
   rw[hy]at h
   cases j with
   | zero=>simp_all
   | succ j=>rw[show i+(j+1)=i+1+j by omega];exact qEM h j x (by simpa using hx)
theorem qKj{α:Type}{a b:Option α}(h:a.or b=none):a=none/\b=none:=by
 simp_all
end
end Go.Proofs
namespace Go.Proofs
open Go Go.Sx
section
variable{d:Ds}{m:Mm}
theorem big_ok{n v:Int}(h:big n=.ok v):v=n/\-1099511627776<=v/\v<=1099511627776:=by
 unfold big at h
 grind
theorem trI_b(b:Bool):trI b=0∨trI b=1:=by cases b <;> simp[trI]
theorem qBD{ok:Bool}{t t':ByteArray}(h:qFK ok t=(t',0)):ok=true/\t=t':=by
 grind [qFK]
theorem tdiv_in{a b:Int}(ha:-1099511627776<=a/\a<=1099511627776):-1099511627776<=a.tdiv b/\a.tdiv b<=1099511627776:=by
 have:=Int.natAbs_tdiv_le_natAbs a b
 omega
theorem tmod_in{a b:Int}(ha:-1099511627776<=a/\a<=1099511627776):-1099511627776<=a.tmod b/\a.tmod b<=1099511627776:=by
 have h1:=Int.natAbs_tmod a b
 have:=Nat.mod_le a.natAbs b.natAbs
 omega
theorem log_in{a:Int}(ha:a<=1099511627776):0<=logV a/\logV a<=1099511627776:=by
 grind [logV,Nat.log2,Nat.log2_le_self]
inductive Kind (d:Ds) (sc:Sc) (e:E):ByteArray->Prop where
 | int (h:e.op=1) (hn:0<=e.n/\e.n<=1099511627776):Kind d sc e qBd
 | bool (h:e.op=2) (hn:e.n=0∨e.n=1):Kind d sc e qAw
 | nil (h:e.op=3) (hn:e.n=0):Kind d sc e sNil
 | var {t} (h:e.op=4) (hl:qCt sc.vars e.s=t) (hne:t≠sE):Kind d sc e t
 | fld {t u} {a:E} (h:e.op=5) (hk:e.k=[a]) (ha:qAo d sc a=(u,0)) (ht:qCc d u e.s=(t,0)):Kind d sc e t
 | call {u} {a:E} {ms:Ms} {i:Nat} (h:e.op=7) (hk:e.k=[a]) (ha:qAo d sc a=(u,0)) (hi:mIdx d e.s=i) (hms:d.measures[i]?=some ms) (hf:qEb d u ms.ty=true):Kind d sc e qBd
 | neg {a:E} (h:e.op=8) (hk:e.k=[a]) (ha:qAo d sc a=(qBd,0)):Kind d sc e qBd
 | not {a:E} (h:e.op=18) (hk:e.k=[a]) (ha:qAo d sc a=(qAw,0)):Kind d sc e qAw
 | log {a:E} (h:e.op=24) (hk:e.k=[a]) (ha:qAo d sc a=(qBd,0)):Kind d sc e qBd
 | and {a b:E} (h:e.op=19) (hk:e.k=[a,b]) (ha:qAo d sc a=(qAw,0)) (hb:qAo d sc b=(qAw,0)):Kind d sc e qAw
 | or {a b:E} (h:e.op=20) (hk:e.k=[a,b]) (ha:qAo d sc a=(qAw,0)) (hb:qAo d sc b=(qAw,0)):Kind d sc e qAw
 | cond {a b c:E} {t u w} (h:e.op=21) (hk:e.k=[a,b,c]) (ha:qAo d sc a=(qAw,0)) (hb:qAo d sc b=(u,0)) (hc:qAo d sc c=(w,0)) (hu:u=t∨qEb d u t=true) (hw:w=t∨qEb d w t=true):Kind d sc e t
 | eq {a b:E} {u w} (h:e.op=14∨e.op=15) (hk:e.k=[a,b]) (ha:qAo d sc a=(u,0)) (hb:qAo d sc b=(w,0)):Kind d sc e qAw
 | cmp {a b:E} (h:e.op=16∨e.op=17) (hk:e.k=[a,b]) (ha:qAo d sc a=(qBd,0)) (hb:qAo d sc b=(qBd,0)):Kind d sc e qAw
 | ari {a b:E} (h:e.op=9∨e.op=10∨e.op=11∨e.op=12∨e.op=13∨e.op=22∨e.op=23) (hk:e.k=[a,b]) (ha:qAo d sc a=(qBd,0)) (hb:qAo d sc b=(qBd,0)):Kind d sc e qBd
theorem allT1{t u:ByteArray}(h:allT [t] u=true):t=u:=by simpa [allT]using h
theorem allT2{t t' u:ByteArray}(h:allT [t,t'] u=true):t=u/\t'=u:=by simpa [allT]using h
theorem qBo{p:ByteArray×Int}{t:ByteArray}(h1:p.1=t)(h2:p.2=0):p=(t,0):=Prod.ext h1 h2
theorem kind{sc:Sc}(hsc:sc.body=false){e:E}{t:ByteArray}(hv:VE e)(ht:qAo d sc e=(t,0)):Kind d sc e t:=by
 obtain⟨hk,hn⟩:=qHK ht
 obtain⟨a1,a2,a3,a4⟩:=arityB hv.node
 unfold qGx at hn
 unfold numB at a4
 have one:qAP e.op=1->∃a,e.k=[a]:=fun h=>list1 ((a2 (by omega)).trans h)
 have two:qAP e.op=2->∃a b,e.k=[a,b]:=fun h=>list2 ((a2 (by omega)).trans h)
 have three:qAP e.op=3->∃a b c,e.k=[a,b,c]:=fun h=>list3 ((a2 (by omega)).trans h)
 by_cases h1:e.op=1
 ·rw[if_pos h1]at hn a4
  cases hn;exact .int h1 (of_decide_eq_true a4)
 rw[if_neg h1]at hn a4
 by_cases h2:e.op=2
 ·rw[if_pos h2]at hn a4
  cases hn;exact .bool h2 (of_decide_eq_true a4)
 rw[if_neg h2]at hn a4
 have a4:e.n=0:=of_decide_eq_true a4
 by_cases h3:e.op=3
 ·rw[if_pos h3]at hn
  cases hn;exact .nil h3 a4
 rw[if_neg h3]at hn
 by_cases h4:e.op=4
 ·rw[if_pos h4]at hn
  split at hn
  ·simp at hn
  ·rename_i hne
   simp only[Prod.mk.injEq,and_true]at hn
   exact .var h4 hn (hn ▸ hne)
 rw[if_neg h4]at hn
 by_cases h5:e.op=5
 ·obtain⟨a,ha⟩:=one (by rw[h5];rfl)
  rw[if_pos h5,ha]at hn
  rw[ha]at hk
  exact .fld h5 ha (qBo rfl (hk a (by simp))) hn
 rw[if_neg h5]at hn
 by_cases h6:e.op=6
 ·simp_all
 rw[if_neg h6]at hn
 by_cases h7:e.op=7
 ·rw[if_pos h7]at hn
  unfold callE at hn
  rw[if_neg (by rw[hsc];decide)]at hn
  unfold qKo meOf at hn
  unfold mIdx at *
  rcases qBh (fun x:Ms=>decide (x.name=e.s)) d.measures with⟨-,q2,-⟩|⟨i,ms,q1,q2,q3,-⟩
  ·simp_all
  ·rw[q3]at hn
   simp only at hn
   split at hn
   ·simp at hn
   ·rename_i hl
    obtain⟨a,ha⟩:∃a,e.k=[a]:=list1 (by grind)
    rw[ha]at hn hk
    obtain⟨b1,rfl⟩:=qBD hn
    exact .call h7 ha (qBo rfl (hk a (by simp))) q1 q2 (by simpa using b1)
 rw[if_neg h7]at hn
 by_cases h14:e.op=14∨e.op=15
 ·obtain⟨a,b,hab⟩:=two (by rcases h14 with h|h <;> (rw[h];rfl))
  rw[if_pos h14]at hn
  rw[hab]at hk
  obtain⟨-,rfl⟩:=qBD hn
  exact .eq h14 hab (qBo rfl (hk a (by simp))) (qBo rfl (hk b (by simp)))
 rw[if_neg h14]at hn
 by_cases h16:e.op=16∨e.op=17
 ·obtain⟨a,b,hab⟩:=two (by rcases h16 with h|h <;> (rw[h];rfl))
  rw[if_pos h16,hab]at hn
  rw[hab]at hk
  obtain⟨g,rfl⟩:=qBD hn
  obtain⟨g1,g2⟩:=allT2 g
  exact .cmp h16 hab (qBo g1 (hk a (by simp))) (qBo g2 (hk b (by simp)))
 rw[if_neg h16]at hn
 by_cases h18:e.op=18∨e.op=19∨e.op=20
 ·rw[if_pos h18]at hn
  rcases h18 with h|h
  ·obtain⟨a,ha⟩:=one (by rw[h];rfl)
   rw[ha]at hn hk
   obtain⟨g,rfl⟩:=qBD hn
   exact .not h ha (qBo (allT1 g) (hk a (by simp)))
  ·obtain⟨a,b,hab⟩:=two (by rcases h with h|h <;> (rw[h];rfl))
   rw[hab]at hn hk
   obtain⟨g,rfl⟩:=qBD hn
   obtain⟨g1,g2⟩:=allT2 g
   rcases h with h|h
   ·exact .and h hab (qBo g1 (hk a (by simp))) (qBo g2 (hk b (by simp)))
   ·exact .or h hab (qBo g1 (hk a (by simp))) (qBo g2 (hk b (by simp)))
 rw[if_neg h18]at hn
 by_cases h21:e.op=21
 ·obtain⟨a,b,c,habc⟩:=three (by rw[h21];rfl)
  rw[if_pos h21,habc]at hn
  rw[habc]at hk
  obtain⟨g,g2⟩:=qBD hn
  simp only[List.map_cons,List.map_nil,List.getD_cons_zero,List.getD_cons_succ,Bool.and_eq_true,decide_eq_true_eq,Bool.or_eq_true]at g g2
  refine .cond h21 habc (qBo g.1 (hk a (by simp))) (qBo rfl (hk b (by simp))) (qBo rfl (hk c (by simp))) ?_ ?_
  ·grind [inr,qEb]
  grind [qEb,absurd,inr]
 rw[if_neg h21]at hn
 obtain⟨g,rfl⟩:=qBD hn
 have hop:e.op=8∨e.op=24∨(e.op=9∨e.op=10∨e.op=11∨e.op=12∨e.op=13∨e.op=22∨e.op=23):=by
  grind [qAP]
 rcases hop with h|h|h
 ·obtain⟨a,ha⟩:=one (by rw[h];rfl)
  rw[ha]at g hk
  exact .neg h ha (qBo (allT1 g) (hk a (by simp)))
 ·obtain⟨a,ha⟩:=one (by rw[h];rfl)
  rw[ha]at g hk
  exact .log h ha (qBo (allT1 g) (hk a (by simp)))
 ·obtain⟨a,b,hab⟩:=two (by rcases h with h|h|h|h|h|h|h <;> (rw[h];rfl))
  rw[hab]at g hk
  obtain⟨g1,g2⟩:=allT2 g
  exact .ari h hab (qBo g1 (hk a (by simp))) (qBo g2 (hk b (by simp)))
theorem two_ok{op a b v:Int}(h:op=9∨op=10∨op=11∨op=12∨op=13∨op=22∨op=23)(ha:-1099511627776<=a/\a<=1099511627776)(hb:-1099511627776<=b/\b<=1099511627776)(hv:qEV op a b=.ok v):-1099511627776<=v/\v<=1099511627776:=by
 unfold qEV at hv
 split at hv
 ·exact(big_ok hv).2
 split at hv
 ·exact(big_ok hv).2
 split at hv
 ·exact(big_ok hv).2
 split at hv
 ·grind
 split at hv
 ·grind
 repeat' (split at hv;(first|omega|cases hv))
 ·exact tdiv_in ha
 ·cases hv;exact tmod_in ha
theorem twoB_ok{op a b v:Int}(h:op=14∨op=15∨op=16∨op=17)(hv:qEV op a b=.ok v):v=0∨v=1:=by
 rcases h with rfl|rfl|rfl|rfl
 ·have:trI (decide (a=b))=v:=by injection hv
  grind [trI_b]
 ·have:trI (!decide (a=b))=v:=by injection hv
  grind [trI_b]
 ·have:trI (decide (a<b))=v:=by injection hv
  grind [trI_b]
 ·have:trI (decide (a<=b))=v:=by injection hv
  grind [trI_b]
end
end Go.Proofs
