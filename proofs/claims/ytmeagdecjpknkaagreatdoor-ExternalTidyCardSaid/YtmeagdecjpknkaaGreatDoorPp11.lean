/- Part 11 of a proof of a law of this seat: no statement of the seat is proved here. -/
import Derived.Test.YtmeagdecjpknkaaGreatDoorPp10
import Derived.Test.YtmeagdecjpknkaaGreatDoorPp04
set_option linter.unusedVariables false
set_option linter.unusedSimpArgs false
namespace Go.Proofs
open Go Go.Sx
theorem wrap_id{n:Nat}(h:n<=2147483648):IntKind.wrap .i64 (n:Int)=n:=qHB ⟨by show (-9223372036854775808:Int)<=n;omega,by show (n:Int)<=9223372036854775807;omega⟩
theorem qHL{P:Program}(w:World)(t u ty e:TypeId)(i:TypeInfo)(z:Value)(ht:P.underlying t=some (.slice e))(hu:P.underlying u=some (.int .i64))(hi:P.info? e=some i)(hz:i.zero=some z)
  (n:Nat) (h0:0<n) (hn:n<=2147483648) (hb:i.bytes<=65536) (hs:0<i.size) :
  (Builtin.append_ #[t,u] ty #[.slice none 0 0,.int .i64 n]).run P w =
   .ok (.slice (some ⟨w.heap.size,0,none⟩) n (grownCap w n 0 e)) (w.drew.alloc (.cells (Builtin.zeroCells z.cells n++Builtin.zeroCells z.cells (grownCap w n 0 e-n)) e)):=by
 have hn':n≠0:=by omega
 have h63':¬(9223372036854775807<(n:Int)):=by omega
 have hbm:n*i.bytes<=281474976710656:=Nat.le_trans (Nat.mul_le_mul hn hb) (by decide)
 have h48':¬(281474976710656<Builtin.nextslicecap n 0*i.bytes):=by rw[nextslicecap_zero h0];omega
 have h48i:¬(281474976710656<(n:Int)*(i.bytes:Int)):=by omega
 have hlt:¬((n:Int)<0):=by omega
 have hsz:i.size≠0:=by omega
 simp[Builtin.append_,run_underlying ht,run_underlying hu,sizeOf,typeInfo,zeroValue,hi,hz,hn',h63',h48',h48i,hlt,hsz,wrap_id hn,asInt,asIntOf,Question.forced,run_firstCells_none,newRow,grownCap]
 simp_all [absurd,Nat.ne_of_gt,Nat.mul_pos]
theorem GenK.appendZ{P:Program}{V0 V:Mem}{t u e ty:TypeId}{i:TypeInfo}{z:Value}{sz:Nat}(ht:P.underlying t=some (.slice e))(hu:P.underlying u=some (.int .i64))(hi:P.info? e=some i)(hz:i.zero=some z)(hsize:i.size=sz)(hzs:z.cells.size=sz)(hsz:0<sz)(hby:i.bytes<=65536)
  {x y:Operand} {vals:Operand->Value} {n:Nat} (hx:vals x=.slice none 0 0) (hy:vals y=.int .i64 n) (h0:0<n) (hn:n<=2147483648) (hV:V0.sub V) {q:Value->Mem->Prop}
  (hq:∀b c V',Own V0 V' e sz ⟨some ⟨b,0,none⟩,0,c⟩ []->n<=c->c<=9223372036854775807->q (.slice (sa b) n c) V') :
  GenK P (.call { callee:=.builtin .append,args:=#[x,y],argTypes:=#[t,u] }) ty vals V q:=by
 intro w hw
 subst hsize
 have hr:=qHL (P:=P) w t u ty e i z ht hu hi hz n h0 hn hby hsz
 obtain⟨hnone,hf⟩:=Frm.new hw (.cells (Builtin.zeroCells z.cells n++Builtin.zeroCells z.cells (grownCap w n 0 e-n)) e)
 have hge:=grownCap_ge w n 0 e
 have hle:=grownCap_le_maxLen w n 0 e (by simp only[maxLen];omega)
 refine⟨_,_,_,?_,hf,hq w.heap.size (grownCap w n 0 e) _ ⟨Mem.sub.new hV hnone _,by simp,.inr ⟨w.heap.size,_,rfl,?_,Mem.set_same _ _ _,Nat.zero_le _,hle,?_,by simp⟩⟩ hge (by grind [maxLen])⟩
 ·unfold execOp
  simp only[resolve,invoke,builtin,Sem.run_bind,Sem.run_pure,Result.andThen_ok,List.map_toArray,List.map_cons,List.map_nil,hx,hy,hr]
 ·cases h:V0 w.heap.size with
  | none=>rfl
  | some x=>rw[hV _ _ h]at hnone;cases hnone
 ·simp only[Array.size_append,size_zeroCells,hzs,<- Nat.add_mul]
  simp_all
section
variable{V:Mem}
theorem growF{V0:Mem}(hV:V0.sub V){n:Nat}(hn:n<=1000000):Tri Tryz.prog 198 #[.slice none 0 0,.int .i64 n] V fun r V'=>∃s:Sl,r=.returned (.slice s.p s.n s.c)/\Own V0 V' 101 2 s []:=by
 refine x198 (a:=⟨none,0,0⟩) ?_
 unfold w198
 refine⟨fun h=>absurd h (by omega),fun _=>⟨⟨by simp,by simp⟩,⟨by simp <;> omega,by simp <;> omega⟩,fun h=>⟨⟨by simp,by simp,by simp⟩,?_⟩,fun h=>⟨⟨none,0,0⟩,rfl,Own.nil hV _ _⟩⟩⟩
 have hi:Tryz.prog.info? 101=some (ti 101):=by kernel_rfl
 have hz:(ti 101).zero=some ((ti 101).zero.getD undef):=by kernel_rfl
 have h1:(ti 101).size=2:=by kernel_rfl
 have h2:((ti 101).zero.getD undef).cells.size=2:=by kernel_rfl
 have h3:(ti 101).bytes<=65536:=by rw[show (ti 101).bytes=32 by kernel_rfl];omega
 refine GenK.appendZ (n:=n) Tryz.underlying23 Tryz.underlying3 hi hz h1 h2 (by decide) h3 rfl ?_ (by simp at h;omega) (by omega) hV fun b c V' ho hc hc2=>⟨⟨some ⟨b,0,none⟩,n,c⟩,rfl,⟨by simp,by simp,by simp⟩,?_⟩
 ·rfl
 ·simp only[qHs]
  grind
theorem concatF{l:Sl}{ls:List (Sl×List Fld)}(h:qAc V l 1 (ls.map fun x=>[x.1.v]))(hls:∀x∈ls,qAc V x.1 2 (x.2.map Fld.row))(hlen:ls.length<=100)(hle:∀x∈ls,x.2.length<=1000) :
  Tri Tryz.prog 163 #[.slice l.p l.n l.c] V fun r V'=>∃s:Sl,r=.returned (.slice s.p s.n s.c)/\V.sub V'/\qAc V' s 2 ((ls.flatMap (·.2)).map Fld.row):=by
 refine x163 ?_
 unfold w163
 have hn:=h.n_eq
 refine qFt (mk:=.int .i64) qEf ls.length (fun i n V1=>V=V1/\0<=n/\n<=1000*i) ⟨rfl,by omega,by omega⟩ ?_
 rintro i n V1 J hi ⟨rfl,h0,hb⟩ hJ
 refine⟨fun hlt=>?_,fun hge=>?_⟩
 ·obtain⟨x,hm,hx,hdr,hl,hp,hz,hrow⟩:=h.get hlt
  have e1:=(hls x hm).n_eq
  have e2:=hle x hm
  exact⟨hp,hz,hlt,x.1,hrow,⟨by omega,by omega⟩,fun hneg=>absurd hneg (by omega),fun _=>⟨h.succ hlt,hJ hl _ _ ⟨rfl,by omega,by omega⟩⟩⟩
 ·obtain⟨k,rfl⟩:=Int.eq_ofNat_of_zero_le h0
  refine Tri.mono (growF (Mem.sub.refl V) (n:=k) (by omega)) ?_
  rintro _ V1 ⟨s,rfl,ho⟩
  refine⟨s,rfl,?_⟩
  refine qFt (mk:=fun s:Sl=>.slice s.p s.n s.c) (b0:=s) qBc ls.length (fun i s V2=>Own V V2 101 2 s (((ls.take i).flatMap (·.2)).flatMap Fld.row)/\((ls.take i).flatMap (·.2)).length<=1000*i) ⟨ho,by simp⟩ ?_
  rintro i s V2 J hi ⟨ho,hb⟩ hJ
  have h2:=h.sub ho.sub
  refine⟨fun hlt=>?_,fun hge=>?_⟩
  ·obtain⟨x,hm,hx,hdr,hl,hp,hz,hrow⟩:=h2.get hlt
   have e2:=hle x hm
   refine⟨hp,hz,hlt,x.1,hrow,?_⟩
   refine qHO (s:=s) (u:=x.1) (xs:=(ls.take i).flatMap (·.2)) (ys:=x.2) rfl rfl ho ((hls x hm).sub ho.sub) (by omega) fun s' V' ho'=>⟨s',rfl,h2.succ hlt,hJ hl _ _ ?_⟩
   grind
  ·have:=(h2.done hge).2
   rw[List.take_of_length_le this]at ho
   exact⟨s,rfl,ho.sub,ownF ho⟩
end
end Go.Proofs
namespace Go.Proofs
open Go Go.Sx
attribute [local irreducible] Go.Sx.Tri
section
variable{V:Mem}{d:Ds}{c:Option Addr}{m:Option Nat}{sc:Sc}
theorem c268(h:qBO V c d)(hv:VNe d)(hs:qHP V m sc)(hbody:sc.body=true){x:S}(hx:S.Ok V x)(hsh:qBI x.op x.s x.es x.ls.length x.xs.length=true){res:ByteArray} :
  PP 268 [sV c m sc,x.v,.string res] V (.int .i64 (qEw d sc res x.op x.s x.es)):=by
 obtain⟨a6,a134,a2,a5,alen,aok⟩:=qIw hsh
 rw[S.v_eq]
 refine Pur.mk (x268 ?_)
 unfold w268
 have hf:=qGy hx
 refine⟨fun o6=>?_,fun o6=>?_⟩
 ·obtain⟨e0,he0,-⟩:=a6 o6
  rcases hf with⟨h',-⟩|⟨e0',r,he,hn,hp0,hp2,hrow⟩
  ·simp_all
  ·rw[he0]at he
   cases he
   have hok:=aok e0 (by rw[he0];simp)
   have hoe:=hx.eOk e0 (by rw[he0];simp)
   have hk:∀y∈e0.k,ImpE V d c m sc y:=fun y hy=>impExpr h hv hs y (hoe.kids y hy) 2 (qHY hok y hy)
   refine⟨hp0,by omega,by omega,_,_,_,_,hrow,(impCall h e0 hoe (arity (qGm hok)).2.2.2 hk).call ⟨_,_,rfl,?_⟩⟩
   unfold qEw rawT qFN
   rw[if_pos o6,he0]
   simp only[if_pos hbody]
   split
   ·exact⟨rfl,Mem.sub.refl _⟩
   ·exact⟨rfl,Mem.sub.refl _⟩
 ·unfold qEw
  rw[if_neg o6]
  have hr:=hx.eRows
  refine qHv (mk:=.int .i64) (mc:=fun s:Sl=>.slice s.p s.n s.c) 0 ⟨none,0,0⟩ qBc x.es.length (fun i s V2=>∃acc,Own V V2 9 1 s (acc.flatMap qBe)/\partsT d sc [] x.es=partsT d sc acc (x.es.drop i)/\acc.length=i) ⟨[],Own.nil (Mem.sub.refl _) _ _,rfl,rfl⟩ ?_
  rintro i b s V2 J hi ⟨acc,hown,hpt,hlen'⟩ hJ
  have hr1:=hr.sub hown.sub
  refine⟨fun hlt=>?_,fun hge=>?_⟩
  ·obtain⟨y,hm,hxy,hdr,hl,hpp,hz,hrow⟩:=hr1.get hlt
   rw[hdr,qCa]at hpt
   refine⟨hpp,hz,hlt,_,_,_,_,hrow,(impExpr h hv hs y (hx.eOk y hm) 1 (aok y hm) V2 hown.sub).call ⟨_,_,rfl,fun h0=>?_,fun h0=>?_⟩⟩
   ·intro b1 hb1
    rw[if_neg (fun h=>h h0)]at hpt
    refine app220 (s:=s) (u:=⟨some ⟨b1,0,none⟩,1,1⟩) (xs:=acc) (ys:=[(qAr d sc y).1]) rfl rfl (hown.new hb1 _) (qIL mss) (by grind) fun s' V' ho=>⟨s',rfl,hr1.succ hlt,hJ hl _ _ _ ⟨_,ho,hpt,by simp[hlen']⟩⟩
   ·rw[if_pos h0]at hpt
    rw[hpt]
    simp only[h0,ne_eq,not_false_eq_true,if_true]
    exact⟨by trivial,hown.sub⟩
  ·have hge':=(hr1.done hge).2
   rw[(hr1.done hge).1,qCN]at hpt
   rw[hpt]
   simp only[ne_eq,not_true_eq_false,if_false]
   have hrows:=ownS hown
   have hal:acc.length=x.es.length:=by omega
   have hsub:=hown.sub
   have h2:=h.sub hown.sub
   have sln:=hrows.n_eq
   have at0:=fun h:0<acc.length=>qEm hrows h
   have at1:=fun h:1<acc.length=>qEm hrows h
   have key:∀X n:Int,X=n->(Ending.returned (.int .i64 n)=Ending.returned (.int .i64 X)/\V.sub V2):=fun X n h=>by simp_all
   refine⟨fun o1=>?_,fun o1=>⟨fun o2=>?_,fun o2=>⟨fun o3=>?_,fun o3=>⟨fun o4=>?_,fun o4=>⟨fun o5=>?_,fun o5=>key _ _ ?_⟩⟩⟩⟩⟩
   ·obtain⟨b1,b2,b3⟩:=at0 (by omega)
    obtain⟨mb,rfl,hmap⟩:=(hs.sub hown.sub).at_
    rw[if_pos o1,qJQ]
    refine qBz.str Tryz.underlying312 Tryz.underlying9 zero9 hmap ?_
    cases hvv:qBU sc.vars x.s with
    | none =>
     rw[Option.getD_none]
     exact⟨_,_,rfl,fun h=>absurd h (by simp),fun _=>key _ _ (if_pos rfl)⟩
    | some t =>
     rw[Option.getD_some]
     refine⟨t,_,rfl,fun _=>⟨b1,by omega,b2,_,b3,(c298 h2).call ⟨_,rfl,fun hb=>key _ _ ?_,fun hb=>key _ _ ?_⟩⟩,fun h=>absurd rfl h⟩
     ·rw[if_neg (hs.ne.some hvv),if_pos hb]
     ·rw[if_neg (hs.ne.some hvv),if_neg hb]
   ·obtain⟨b1,b2,b3⟩:=at0 (by omega)
    obtain⟨c1,c2,c3⟩:=at1 (by omega)
    rw[if_neg o1,if_pos o2]
    refine⟨b1,by omega,b2,_,b3,(c299 h2 hv).call ⟨_,_,rfl,fun hb=>⟨c1,by omega,c2,_,c3,(c298 h2).call ⟨_,rfl,fun hc=>key _ _ ?_,fun hc=>key _ _ ?_⟩⟩,fun hb=>key _ _ ?_⟩⟩
    ·simp_all
    ·simp_all
    omega
   ·grind [qAt]
   ·grind [qAt]
   ·have h5:=a5 o5
    rw[if_neg o1,if_neg o2,if_neg (by omega),if_pos o5]
    refine⟨fun hn=>?_,fun hn=>?_⟩
    ·grind [sE]
    ·have h0:¬acc.length=0:=by omega
     obtain⟨b1,b2,b3⟩:=at0 (by omega)
     rw[if_neg h0]
     refine⟨fun he=>key _ _ (by grind [sE]),fun he=>⟨b1,by omega,b2,_,b3,(c298 h2).call ⟨_,rfl,fun hb=>key _ _ ?_,fun hb=>key _ _ ?_⟩⟩⟩
     ·grind [sE]
     simp_all
   omega
def placeT(r:Int×Int):Int:=if r.2=0 then 0 else r.1
def Cnt(V:Mem)(b t:Nat)(a:Int)(V1:Mem):Prop:=(V.set b (cell (.int .i64 a) t)).sub V1
theorem Cnt.st{b t:Nat}{a k:Int}{V1:Mem}(h:Cnt V b t a V1):Cnt V b t k (V1.set b (cell (.int .i64 k) t)):=fun q o hq=>by
 by_cases e:q=b
 ·grind [Mem.set_same]
 ·rw[Mem.set_ne e]at hq ⊢
  exact h q o (by rw[Mem.set_ne e];exact hq)
theorem Cnt.call{b t:Nat}{a k:Int}{V1 V2:Mem}(h:Cnt V b t a V1)(h2:Cnt V1 b t k V2):Cnt V b t k V2:=(Cnt.st h).trans h2
theorem Cnt.cell{b t:Nat}{a:Int}{V1:Mem}(h:Cnt V b t a V1):V1 b=some (Sx.cell (.int .i64 a) t):=h _ _ mss
theorem Cnt.base{V0:Mem}{b t:Nat}{a:Int}{V1:Mem}(h:Cnt V b t a V1)(h0:V0.sub V)(hb:V0 b=none):V0.sub V1:=(h0.set hb _).trans h
theorem Cnt.other{b t q:Nat}{a:Int}{V1:Mem}{o:Obj}(h:Cnt V b t a V1)(hq:V q=some o)(hn:q≠b):V1 q=some o:=h _ _ (by rw[Mem.set_ne hn];exact hq)
def ImpS(V0:Mem)(d:Ds)(c:Option Addr)(m:Option Nat)(sc:Sc)(res:ByteArray)(b t:Nat)(l:List S):Prop:=∀(V:Mem) (sl:Sl) (n dd:Int),V0.sub V->V b=some (cell (.int .i64 n) t)->qAc V0 sl 5 (l.map S.row)->(∀x∈l,S.Ok V0 x)->qGJ dd l=true->0<=n->n+qFZ l<=1000 ->
 Tri Tryz.prog 236 #[sV c m sc,.slice sl.p sl.n sl.c,.string res,pv b] V fun r V'=>r=.returned (.tuple #[.int .i64 (placeT (qBH d sc res n l)),.int .i64 (qBH d sc res n l).2])/\∃n',Cnt V b t n' V'/\((qBH d sc res n l).2=0->n'=(qBH d sc res n l).1)
theorem impStep{V0:Mem}{b t:Nat}{res:ByteArray}(hb:V0 b=none)(h:qBO V0 c d)(hv:VNe d)(hs:qHP V0 m sc)(hbody:sc.body=true){l:List S}(hk:∀x∈l,ImpS V0 d c m sc res b t x.ls/\ImpS V0 d c m sc res b t x.xs):ImpS V0 d c m sc res b t l:=by
 intro V sl n dd hV hcell hr hok hokS hn0 hn1
 refine x236 ?_
 unfold w236
 refine qEb l.length (fun i V1=>∃a,Cnt V b t a V1/\0<=a/\a+qFZ (l.drop i)<=1000/\qBH d sc res n l=qBH d sc res a (l.drop i)) ⟨n,by grind [Cnt,Mem.set_eq,Mem.sub.refl],hn0,hn1,rfl⟩ ?_
 rintro i b' c' V1 J hi ⟨a,hV1,ha0,ha1,he⟩ hJ
 have hV01:=hV1.base hV hb
 have hcell1:=hV1.cell
 have bad:∀{V2:Mem} (p e k:Int),Cnt V b t k V2->e≠0->qBH d sc res n l=(p,e)->(Ending.returned (.tuple #[.int .i64 p,.int .i64 e])=Ending.returned (.tuple #[.int .i64 (placeT (qBH d sc res n l)),.int .i64 (qBH d sc res n l).2])/\∃n',Cnt V b t n' V2/\((qBH d sc res n l).2=0->n'=(qBH d sc res n l).1)):=fun {V2} p e k h1 h2 h3=>by
  rw[h3]
  unfold placeT
  grind
 refine⟨fun hlt=>?_,fun hge=>?_⟩
 ·obtain⟨x,hm,hx,hdr,hl,hpp,hz,hrow⟩:=(hr.sub hV01).get hlt
  have hrow:=S.row_get hrow
  have hox:=hok x hm
  obtain⟨hsh,hk1,hk2⟩:=okS_shape (qKY hokS x hm)
  rw[hdr,qIr,szS_eq]at ha1
  rw[hdr,qGb,stT_eq]at he
  have hC:=Cnt.st (k:=a+1) hV1
  have hW2:=hC.base hV hb
  have cs:=c268 (h.sub hW2) hv (hs.sub hW2) hbody (hox.sub hW2) hsh (res:=res)
  rw[S.v_eq]at cs
  refine⟨hpp,hz,hlt,_,_,_,_,_,hrow,by simp,_,qBJ hcell1,by simp,_,qBJ hcell1,⟨by omega,by omega⟩,by simp,StT.cell hcell1 (cs.call ⟨_,rfl,fun h0=>?_,fun h0=>?_⟩)⟩
  ·have e1:¬(qEw d sc res x.op x.s x.es≠0):=fun h=>h h0
   rw[if_neg e1]at he
   intro b1 hb1
   have hbb:b1≠b:=fun e=>by grind [Mem.set_same]
   have hC2:Cnt V b t (a+1) _:=Mem.sub.new hC hb1 (.cells #[.slice x.ll.p x.ll.n x.ll.c,.slice x.xl.p x.xl.n x.xl.c] 141 (0,0))
   have hn1':=qIt d sc res (a+1) x.ls
   refine qEb 2 (fun j V2=>∃k,Cnt V b t k V2/\V2 b1=some (.cells #[.slice x.ll.p x.ll.n x.ll.c,.slice x.xl.p x.xl.n x.xl.c] 141 (0,0))/\((j=0/\k=a+1)∨(j=1/\(qBH d sc res (a+1) x.ls).2=0/\k=(qBH d sc res (a+1) x.ls).1)∨(j=2/\(qBH d sc res (a+1) x.ls).2=0/\(qBH d sc res (qBH d sc res (a+1) x.ls).1 x.xs).2=0/\k=(qBH d sc res (qBH d sc res (a+1) x.ls).1 x.xs).1))) ⟨a+1,hC2,Mem.set_same _ _ _,.inl ⟨rfl,rfl⟩⟩ ?_
   rintro j b'' c'' V2 J1 hj ⟨k,hk2',hb1V,hst⟩ hJ1
   have hV02:=hk2'.base hV hb
   refine⟨fun hj2=>?_,fun hj2=>?_⟩
   ·rcases hst with⟨rfl,rfl⟩|⟨rfl,hz1,rfl⟩|⟨rfl,-⟩
    ·refine⟨by simp[qAa],by omega,by omega,x.ll,qAe hb1V 0 1 (by simp),Tri.mono ((hk x hm).1 V2 x.ll (a+1) (dd+1) hV02 hk2'.cell hox.lRows hox.lOk hk1 (by omega) (by omega)) ?_⟩
     rintro _ V3 ⟨rfl,n',hn',hn2⟩
     refine⟨_,_,rfl,fun h3=>?_,fun h3=>?_⟩
     ·have:=hn2 h3
      subst this
      exact⟨⟨by omega,by omega⟩,hJ1 (by omega) _ _ _ ⟨_,hk2'.call hn',hn'.other hb1V hbb,.inr (.inl ⟨rfl,h3,rfl⟩)⟩⟩
     ·have e2:(qBH d sc res (a+1) x.ls).2≠0:=h3
      rw[if_pos e2,if_pos e2]at he
      refine bad _ _ _ (hk2'.call hn') e2 ?_
      grind
    ·have e2:¬(qBH d sc res (a+1) x.ls).2≠0:=fun h=>h hz1
     rw[if_neg e2]at he
     have hn1':=hn1' hz1
     refine⟨by simp[qAa],by omega,by omega,x.xl,qAe hb1V 1 1 (by simp),Tri.mono ((hk x hm).2 V2 x.xl _ (dd+1) hV02 hk2'.cell hox.xRows hox.xOk hk2 (by omega) (by omega)) ?_⟩
     rintro _ V3 ⟨rfl,n',hn',hn2⟩
     refine⟨_,_,rfl,fun h3=>?_,fun h3=>?_⟩
     ·have:=hn2 h3
      subst this
      exact⟨⟨by omega,by omega⟩,hJ1 (by omega) _ _ _ ⟨_,hk2'.call hn',hn'.other hb1V hbb,.inr (.inr ⟨rfl,hz1,h3,rfl⟩)⟩⟩
     ·have e3:(qBH d sc res (qBH d sc res (a+1) x.ls).1 x.xs).2≠0:=h3
      rw[if_pos e3]at he
      refine bad _ _ _ (hk2'.call hn') e3 ?_
      grind
    ·omega
   ·rcases hst with⟨rfl,-⟩|⟨rfl,-⟩|⟨rfl,hz1,hz2,rfl⟩
    ·omega
    ·omega
    ·have e2:¬(qBH d sc res (a+1) x.ls).2≠0:=fun h=>h hz1
     have e3:¬(qBH d sc res (qBH d sc res (a+1) x.ls).1 x.xs).2≠0:=fun h=>h hz2
     rw[if_neg e2,if_neg e3]at he
     have hn1':=hn1' hz1
     have hn2':=qIt d sc res _ x.xs hz2
     exact⟨(hr.sub hV01).succ hlt,hJ hl _ _ _ ⟨_,hk2',by omega,by omega,he⟩⟩
  grind
 ·rw[((hr.sub hV01).done hge).1,stsT_nil]at he
  rw[he]
  exact⟨rfl,a,hV1,fun _=>rfl⟩
theorem impStmts{V0:Mem}{b t:Nat}{res:ByteArray}(hb:V0 b=none)(h:qBO V0 c d)(hv:VNe d)(hs:qHP V0 m sc)(hbody:sc.body=true)(l:List S):ImpS V0 d c m sc res b t l:=by
 have hS:∀s:S,ImpS V0 d c m sc res b t s.ls/\ImpS V0 d c m sc res b t s.xs:=by
  intro s
  induction s using S.ind with
  | h s i1 i2=>grind [impStep]
 grind [impStep]
theorem c259{b t:Nat}{f x:Fld}(hb:V b=some (.cells #[.string f.name,.string f.ty] t (0,0))):PP 259 [x.v,pv b] V (.bool (decide (x.name=f.name))):=by
 refine x259 ?_
 unfold w259
 exact⟨by simp,_,qAe hb 0 1 (by simp),rfl,rfl⟩
theorem c222(h:qBO V c d){l:Sl}{xs:List Fld}(hl:qAc V l 2 (xs.map Fld.row)):PP 222 [.pointer c,l.v] V (.int .i64 (qCm d xs)):=by
 refine Pur.mk (x222 ?_)
 unfold w222 qCm
 generalize hf:(fun i f=>if qEq d xs i f≠0 then some (qEq d xs i f) else none)=fn
 refine qAD xs.length (fun k V1=>V.sub V1/\qAh fn 0 xs=qAh fn k (xs.drop k)) ⟨Mem.sub.refl _,rfl⟩ ?_
 rintro k b V1 J hi ⟨hV,ha⟩ hJ
 have hl1:=hl.sub hV
 refine⟨fun hk=>?_,fun hk=>?_⟩
 ·obtain⟨g,hmg,hxg,hdg,hlg,hpg,hzg,hrowg⟩:=hl1.get hk
  rw[hdg]at ha
  have hc:=hl1.cap
  refine⟨hpg,hzg,hk,_,_,hrowg,⟨by omega,by omega,by omega⟩,fun b1 hb1=>?_⟩
  have s1:=Mem.sub_new hb1 (.cells #[.string g.name,.string g.ty] 101 (0,0))
  have hV2:=hV.trans s1
  simp only[qHs,sub0]
  have key:∀X n:Int,X=n->(Ending.returned (.int .i64 n)=Ending.returned (.int .i64 X)/\V.sub (V1.set b1 (.cells #[.string g.name,.string g.ty] 101 (0,0)))):=fun X n h=>by simp_all
  refine(c122 (l:=⟨l.p,k,l.c⟩) (first:=[]) (caps:=[pv b1]) (qAc.pre (hl.sub hV2) (by omega)) Tryz.call259 (fun x=>decide (x.name=g.name)) (fun x _=>c259 (f:=g) mss)).call ⟨_,rfl,fun h1=>?_,fun h1=>⟨by simp[qAa],_,qAe mss 1 1 (by simp),(c225 (h.sub hV2)).call ⟨_,rfl,fun h2=>?_,fun h2=>?_⟩⟩⟩
  ·have e:qEq d xs k g=10:=by grind [qEq]
   rw[ha,qAg (b:=10) (by grind)]
   grind
  ·have e:qEq d xs k g=0:=by grind [qEq]
   exact⟨hl1.succ hk,hJ hlg _ _ ⟨hV2,by rw[ha,qAl (by grind)]⟩⟩
  ·have e:qEq d xs k g=9:=by grind [qEq]
   rw[ha,qAg (b:=9) (by grind)]
   grind
 ·rw[(hl1.done hk).1,qAh]at ha
  simp_all
def FltAt(V:Mem)(p:Option Addr)(o:Option Flt):Prop:=match o with
 | none=>p=none
 | some r=>∃b t,p=some ⟨b,0,none⟩/\V b=some (.cells #[.string r.1,.int .i64 r.2.1,.int .i64 r.2.2] t (0,0))
def FltC(f:FuncId)(args:List Value)(V:Mem)(o:Option Flt):Prop:=Tri Tryz.prog f args.toArray V fun r V'=>∃p,r=.returned (.pointer p)/\V.sub V'/\FltAt V' p o
theorem c238(h:qBO V c d)(hv:VNe d)(hs:qHP V m sc){e:E}(he:E.Ok V e)(hok:okE 1 e=true){s t:ByteArray} :
  FltC 238 [sV c m sc,.string s,e.v,.string t] V (if qBp d sc e t≠0 then some (s,-1,qBp d sc e t) else none):=by
 refine x238 ?_
 unfold w238 qBp
 refine(impExpr h hv hs e he 1 hok V (Mem.sub.refl _)).call ⟨_,_,rfl,fun h0=>⟨fun h1=>?_,fun h1=>fun b hb=>?_⟩,fun h0=>fun b hb=>?_⟩
 ·simp only[h0,h1,ne_eq,not_true_eq_false,if_false,if_true];exact⟨_,rfl,Mem.sub.refl _,rfl⟩
 ·simp only[h0,h1,ne_eq,not_true_eq_false,if_false];exact⟨_,rfl,Mem.sub_new hb _,b,_,rfl,Mem.set_same _ _ _⟩
 ·simp only[h0,ne_eq,not_false_eq_true,if_true];exact⟨_,rfl,Mem.sub_new hb _,b,_,rfl,Mem.set_same _ _ _⟩
end
def qHI:Prop:=∀(V:Mem) (c:Option Addr) (d:Ds) (body:Bool) (l:Sl) (ls:List (Sl×List Fld)),qBO V c d->qAc V l 1 (ls.map fun x=>[x.1.v])->(∀x∈ls,qAc V x.1 2 (x.2.map Fld.row)) ->
 Tri Tryz.prog 267 #[.pointer c,.bool body,.slice l.p l.n l.c] V fun r V'=>∃mb,r=.returned (.agg #[.pointer c,.map (some mb),.bool body])/\V.sub V'/\V mb=none/\qBo V' mb (fun k=>(qBU (ls.flatMap (·.2)++d.globals) k).map Value.string)
def NewC:Prop:=∀(V:Mem) (d:Ds),Ds.Ok V d->Tri Tryz.prog 158 #[d.v] V fun r V'=>∃c,r=.returned (.pointer c)/\V.sub V'/\qBO V' c d
section
variable{V:Mem}{d:Ds}{c:Option Addr}
theorem qGo{a b:List Fld}(h:NE a)(k:NE b):NE (a++b):=fun f hf=>by
 rcases List.mem_append.1 hf with h'|h'
 ·exact h f h'
 ·exact k f h'
theorem impInProc(hS:qHI)(h:qBO V c d)(hv:VNe d){p:Pr}(hm:p∈d.procs)(hp:Pr.Ok V p):Tri Tryz.prog 235 #[.pointer c,p.v] V fun r V'=>∃m,r=.returned (sV c m (qAn d p))/\V.sub V'/\qHP V' m (qAn d p):=by
 refine x235 ?_
 unfold w235
 intro b hb
 have hs:=Mem.sub_new hb (.cells #[.slice p.ps.p p.ps.n p.ps.c,.slice p.ls.p p.ls.n p.ls.c] 23 (0,0))
 refine Tri.mono (hS _ c d true ⟨some ⟨b,0,none⟩,2,2⟩ [(p.ps,p.params),(p.ls,p.locals)] (h.sub hs) (qAc.cells (xs:=[(p.ps,p.params),(p.ls,p.locals)]) (row:=fun x=>[x.1.v]) mss rfl (fun _=>rfl) rfl (by simp)) ?_) ?_
 ·intro x hx
  simp only[List.mem_cons,List.not_mem_nil,or_false]at hx
  rcases hx with rfl|rfl
  ·exact hp.params.sub hs
  ·exact hp.locals.sub hs
 ·rintro _ V' ⟨mb,rfl,h1,h2,h3⟩
  refine⟨_,_,_,rfl,some mb,rfl,hs.trans h1,⟨mb,rfl,h3.congr fun k=>?_⟩,qGo (qGo (hv.params p hm).1 (hv.params p hm).2) hv.globals⟩
  simp[qAn]
theorem impInBound(hS:qHI)(h:qBO V c d)(hv:VNe d){p:Pr}(hm:p∈d.procs)(hp:Pr.Ok V p):Tri Tryz.prog 239 #[.pointer c,p.v] V fun r V'=>∃m,r=.returned (sV c m (qBw d p))/\V.sub V'/\qHP V' m (qBw d p):=by
 refine x239 ?_
 unfold w239
 intro b hb
 have hs:=Mem.sub_new hb (.cells #[.slice p.ps.p p.ps.n p.ps.c] 23 (0,0))
 refine Tri.mono (hS _ c d false ⟨some ⟨b,0,none⟩,1,1⟩ [(p.ps,p.params)] (h.sub hs) (qAc.cells (xs:=[(p.ps,p.params)]) (row:=fun x=>[x.1.v]) mss rfl (fun _=>rfl) rfl (by simp)) ?_) ?_
 ·intro x hx
  simp only[List.mem_cons,List.not_mem_nil,or_false]at hx
  rcases hx with rfl
  exact hp.params.sub hs
 ·rintro _ V' ⟨mb,rfl,h1,h2,h3⟩
  refine⟨_,_,_,rfl,some mb,rfl,hs.trans h1,⟨mb,rfl,h3.congr fun k=>?_⟩,qGo (hv.params p hm).1 hv.globals⟩
  simp[qBw]
theorem qEL(hS:qHI)(h:qBO V c d)(hv:VNe d){t:ByteArray}:Tri Tryz.prog 237 #[.pointer c,.string t] V fun r V'=>∃m,r=.returned (sV c m (qAx d t))/\V.sub V'/\qHP V' m (qAx d t):=by
 refine x237 ?_
 unfold w237
 refine Tri.mono (hS V c d false ⟨none,0,0⟩ [] h qAc.nil (by simp)) ?_
 rintro _ V' ⟨mb,rfl,h1,h2,h3⟩
 refine⟨_,_,_,rfl,fun he=>?_,fun he=>?_⟩
 ·refine⟨some mb,rfl,h1,⟨mb,rfl,h3.congr fun k=>?_⟩,?_⟩
  ·grind [qAx,sE]
  ·unfold qAx sE;rw[if_pos he];exact hv.globals
 ·refine qDD.str Tryz.underlying312 Tryz.underlying9 h3 fun o ho=>?_
  refine⟨some mb,rfl,h1.set h2 _,⟨mb,rfl,ho.congr fun k=>?_⟩,?_⟩
  ·unfold qAx sE
   rw[if_neg he]
   unfold qBU
   simp only[List.flatMap_nil,List.nil_append,List.cons_append,List.find?_cons]
   rw[show (⟨#[116,104,105,115]⟩:ByteArray)=sThisF from rfl]
   grind
  ·unfold qAx sE
   rw[if_neg he]
   refine qGo (fun f hf=>?_) hv.globals
   simp only[List.mem_cons,List.not_mem_nil,or_false]at hf
   subst hf
   exact he
theorem qCU{V1:Mem}{X:Option Flt}{s:ByteArray}{n e:Int}(hX:X=some (s,n,e))(h:V.sub V1):qAs [(.string s),(.int .i64 n),(.int .i64 e)] 238 V1 fun v8 V2=>(∃p,Ending.returned (.pointer (qAa v8 0))=.returned (.pointer p)/\V.sub V2/\FltAt V2 p X):=fun b hb=>by
 subst hX
 exact⟨some ⟨b,0,none⟩,rfl,h.trans (Mem.sub_new hb _),b,_,rfl,Mem.set_same _ _ _⟩
theorem oneT_cases(d:Ds)(l:List Fld)(i:Nat)(f:Fld):((l.take i).any (fun g=>decide (g.name=f.name))=true/\qEq d l i f=10)∨(¬(l.take i).any (fun g=>decide (g.name=f.name))=true/\qBf d f.ty=true/\qEq d l i f=0)∨(¬(l.take i).any (fun g=>decide (g.name=f.name))=true/\¬qBf d f.ty=true/\qEq d l i f=9):=by
 grind [qEq,qBf,inr]
theorem impTypes(h:qBO V c d):FltC 191 [.pointer c] V (qFq d):=by
 refine x191 ?_
 unfold w191 qFq
 refine⟨h.nn,h.nn,qAd h.nn,d.ts,h.cell (i:=1) rfl,?_⟩
 unfold types1
 generalize hf1:(fun i (t:Ty)=>if (d.types.take i).any (fun g=>decide (g.name=t.name))=true then some ((t.name,-1,10):Flt) else none)=F1
 refine qAD d.types.length (fun k V1=>V=V1/\qAh F1 0 d.types=qAh F1 k (d.types.drop k)) ⟨rfl,rfl⟩ ?_
 rintro k b V1 J hi ⟨rfl,ha⟩ hJ
 have rf:=Mem.sub.refl V
 refine⟨fun hk=>?_,fun hk=>?_⟩
 ·obtain⟨g,hm,hx,hdr,hl,hp,hz,hrow⟩:=h.ok.types.get hk
  rw[hdr]at ha
  refine⟨hp,hz,hk,_,_,hrow,h.nn,h.nn,qAd h.nn,d.ts,h.cell (i:=1) rfl,(c220 h.ok.types hx).call ⟨_,rfl,fun h1=>qCU ?_ rf,fun h1=>⟨h.ok.types.succ hk,hJ hl _ _ ⟨rfl,?_⟩⟩⟩⟩
  ·rw[ha,qAg (b:=(g.name,-1,10)) (by grind)];rfl
  ·rw[ha,qAl (by grind)]
 rw[(h.ok.types.done hk).1,qAh]at ha
 rw[ha,Option.none_or]
 refine⟨h.nn,h.nn,qAd h.nn,d.ts,h.cell (i:=1) rfl,?_⟩
 unfold types2
 generalize hf2:(fun(_:Nat) (t:Ty)=>if qCm d t.fields≠0 then some ((t.name,-1,qCm d t.fields):Flt) else none)=F2
 refine qAD d.types.length (fun k V1=>V=V1/\qAh F2 0 d.types=qAh F2 k (d.types.drop k)) ⟨rfl,rfl⟩ ?_
 rintro k b V1 J hi ⟨rfl,ha⟩ hJ
 refine⟨fun hk=>?_,fun hk=>?_⟩
 ·obtain⟨g,hm,hx,hdr,hl,hp,hz,hrow⟩:=h.ok.types.get hk
  rw[hdr]at ha
  refine⟨hp,hz,hk,_,_,hrow,(c222 h (h.ok.typesOk g hm).fields).call ⟨_,rfl,fun h1=>⟨h.ok.types.succ hk,hJ hl _ _ ⟨rfl,?_⟩⟩,fun h1=>qCU ?_ rf⟩⟩
  ·rw[ha,qAl (by grind)]
  ·rw[ha,qAg (b:=(g.name,-1,qCm d g.fields)) (by grind)];rfl
 rw[(h.ok.types.done hk).1,qAh]at ha
 rw[ha,Option.none_or]
 refine⟨h.nn,h.nn,qAd h.nn,d.gs,h.cell (i:=2) rfl,?_⟩
 unfold types3
 generalize hf3:(fun i (f:Fld)=>if qEq d d.globals i f≠0 then some ((f.name,-1,qEq d d.globals i f):Flt) else none)=F3
 refine qAD d.globals.length (fun k V1=>V=V1/\qAh F3 0 d.globals=qAh F3 k (d.globals.drop k)) ⟨rfl,rfl⟩ ?_
 rintro k b V1 J hi ⟨rfl,ha⟩ hJ
 refine⟨fun hk=>?_,fun hk=>?_⟩
 ·obtain⟨g,hm,hx,hdr,hl,hp,hz,hrow⟩:=h.ok.globals.get hk
  rw[hdr]at ha
  have ho:=oneT_cases d d.globals k g
  refine⟨hp,hz,hk,_,_,hrow,h.nn,h.nn,qAd h.nn,d.gs,h.cell (i:=2) rfl,(c223 h.ok.globals hx).call ⟨_,rfl,fun h1=>qCU ?_ rf,fun h1=>(c225 h).call ⟨_,rfl,fun h2=>⟨h.ok.globals.succ hk,hJ hl _ _ ⟨rfl,?_⟩⟩,fun h2=>qCU ?_ rf⟩⟩⟩
  ·rcases ho with⟨_,e⟩|⟨h',_⟩|⟨h',_⟩
   ·rw[ha,qAg (b:=(g.name,-1,10)) (by grind)]
   ·grind
   simp_all
  ·rcases ho with⟨h',_⟩|⟨_,_,e⟩|⟨_,h',_⟩
   ·grind
   ·rw[ha,qAl (by grind)]
   simp_all
  ·rcases ho with⟨h',_⟩|⟨_,h',_⟩|⟨_,_,e⟩
   ·grind
   ·grind
   ·rw[ha,qAg (b:=(g.name,-1,9)) (by grind)]
 rw[(h.ok.globals.done hk).1,qAh]at ha
 rw[ha]
 exact⟨none,rfl,rf,rfl⟩
theorem impHeads(h:qBO V c d)(hsm:Small d):FltC 192 [.pointer c] V (qEp d):=by
 refine x192 ?_
 unfold w192 qEp
 refine⟨h.nn,h.nn,qAd h.nn,d.ps,h.cell (i:=3) rfl,?_⟩
 generalize hf1:(fun i (p:Pr)=>if (d.procs.take i).any (fun g=>decide (g.name=p.name))=true then some ((p.name,-1,10):Flt) else if qCm d (p.params++p.locals)≠0 then some (p.name,-1,qCm d (p.params++p.locals)) else if p.result≠sE/\qBf d p.result=false then some (p.name,-1,9) else none)=F1
 refine qAD d.procs.length (fun k V1=>V.sub V1/\qAh F1 0 d.procs=qAh F1 k (d.procs.drop k)) ⟨Mem.sub.refl _,rfl⟩ ?_
 rintro k b V1 J hi ⟨hV,ha⟩ hJ
 have h1:=h.sub hV
 refine⟨fun hk=>?_,fun hk=>?_⟩
 ·obtain⟨g,hm,hx,hdr,hl,hp,hz,hrow⟩:=h1.ok.procs.get hk
  rw[hdr]at ha
  have hg:=h1.ok.procsOk g hm
  have hs:=hsm.2 g hm
  refine⟨hp,hz,hk,_,_,_,_,_,hrow,h.nn,h.nn,qAd h.nn,d.ps,h1.cell (i:=3) rfl,(c226 h1.ok.procs hx).call ⟨_,rfl,fun n1=>qCU ?_ hV,fun n1=>?_⟩⟩
  ·rw[ha,qAg (b:=(g.name,-1,10)) (by grind)]
  intro b1 hb1
  have s1:=Mem.sub_new hb1 (.cells #[.slice g.ps.p g.ps.n g.ps.c,.slice g.ls.p g.ls.n g.ls.c] 23 (0,0))
  refine Tri.mono (concatF (l:=⟨some ⟨b1,0,none⟩,2,2⟩) (ls:=[(g.ps,g.params),(g.ls,g.locals)]) (qAc.cells (xs:=[(g.ps,g.params),(g.ls,g.locals)]) (row:=fun x=>[x.1.v]) mss rfl (fun _=>rfl) rfl (by simp)) ?_ (by simp) ?_) ?_
  ·intro x hx
   simp only[List.mem_cons,List.not_mem_nil,or_false]at hx
   rcases hx with rfl|rfl
   ·exact hg.params.sub s1
   ·exact hg.locals.sub s1
  ·simp_all
  rintro _ V2 ⟨s',rfl,h12,hrows⟩
  have hV2:=hV.trans (s1.trans h12)
  have hfl:([(g.ps,g.params),(g.ls,g.locals)]:List (Sl×List Fld)).flatMap (·.2)=g.params++g.locals:=by simp
  rw[hfl]at hrows
  refine⟨s',rfl,(c222 (h.sub hV2) hrows).call ⟨_,rfl,fun h2=>?_,fun h2=>qCU ?_ hV2⟩⟩
  ·have n2:¬(qCm d (g.params++g.locals)≠0):=fun e=>e h2
   refine⟨fun h3=>⟨h1.ok.procs.succ hk,hJ hl _ _ ⟨hV2,?_⟩⟩,fun h3=>(c225 (h.sub hV2)).call ⟨_,rfl,fun h4=>⟨h1.ok.procs.succ hk,hJ hl _ _ ⟨hV2,?_⟩⟩,fun h4=>qCU ?_ hV2⟩⟩
   ·rw[ha,qAl (by rw[<- hf1];exact(if_neg n1).trans ((if_neg n2).trans (if_neg fun e=>e.1 h3)))]
   ·rw[ha,qAl (by grind)]
   ·rw[ha,qAg (b:=(g.name,-1,9)) (by rw[<- hf1];exact(if_neg n1).trans ((if_neg n2).trans (if_pos ⟨h3,eq_false_of_ne_true h4⟩)))]
  ·rw[ha,qAg (b:=(g.name,-1,qCm d (g.params++g.locals))) (by grind)]
 rw[(h1.ok.procs.done hk).1,qAh]at ha
 rw[ha]
 exact⟨none,rfl,hV,rfl⟩
end
section
variable{V:Mem}{d:Ds}{c:Option Addr}
theorem impForm(h:qBO V c d):FltC 193 [.pointer c] V (qEs d):=by
 refine x193 ?_
 unfold w193 qEs
 have rf:=Mem.sub.refl V
 refine⟨h.nn,h.nn,qAd h.nn,d.ms,h.cell (i:=4) rfl,?_⟩
 unfold form1
 generalize hf1:(fun i (m:Ms)=>if (d.measures.take i).any (fun g=>decide (g.name=m.name))=true then some ((m.name,-1,10):Flt) else if qAZ d m.ty=false then some (m.name,-1,9) else none)=F1
 refine qAD d.measures.length (fun k V1=>V=V1/\qAh F1 0 d.measures=qAh F1 k (d.measures.drop k)) ⟨rfl,rfl⟩ ?_
 rintro k b V1 J hi ⟨rfl,ha⟩ hJ
 refine⟨fun hk=>?_,fun hk=>?_⟩
 ·obtain⟨g,hm,hx,hdr,hl,hp,hz,hrow⟩:=h.ok.measures.get hk
  rw[hdr]at ha
  refine⟨hp,hz,hk,_,_,_,_,_,_,_,hrow,h.nn,h.nn,qAd h.nn,d.ms,h.cell (i:=4) rfl,(c228 h.ok.measures hx).call ⟨_,rfl,fun h1=>qCU ?_ rf,fun h1=>(c230 h).call ⟨_,rfl,fun h2=>⟨h.ok.measures.succ hk,hJ hl _ _ ⟨rfl,?_⟩⟩,fun h2=>qCU ?_ rf⟩⟩⟩
  ·rw[ha,qAg (b:=(g.name,-1,10)) (by grind)];rfl
  ·rw[ha,qAl (by grind)]
  ·rw[ha,qAg (b:=(g.name,-1,9)) (by grind)];rfl
 rw[(h.ok.measures.done hk).1,qAh]at ha
 rw[ha,Option.none_or]
 refine⟨h.nn,h.nn,qAd h.nn,d.is,h.cell (i:=5) rfl,?_⟩
 unfold form2
 generalize hf2:(fun i (m:Iv)=>if (d.invs.take i).any (fun g=>decide (g.name=m.name))=true then some ((m.name,-1,10):Flt) else if m.ty≠sE/\qAZ d m.ty=false then some (m.name,-1,9) else none)=F2
 refine qAD d.invs.length (fun k V1=>V=V1/\qAh F2 0 d.invs=qAh F2 k (d.invs.drop k)) ⟨rfl,rfl⟩ ?_
 rintro k b V1 J hi ⟨rfl,ha⟩ hJ
 refine⟨fun hk=>?_,fun hk=>?_⟩
 ·obtain⟨g,hm,hx,hdr,hl,hp,hz,hrow⟩:=h.ok.invs.get hk
  rw[hdr]at ha
  refine⟨hp,hz,hk,_,_,_,_,_,_,hrow,h.nn,h.nn,qAd h.nn,d.is,h.cell (i:=5) rfl,(c231 h.ok.invs hx).call ⟨_,rfl,fun h1=>qCU ?_ rf,fun h1=>⟨fun h3=>⟨h.ok.invs.succ hk,hJ hl _ _ ⟨rfl,?_⟩⟩,fun h3=>(c230 h).call ⟨_,rfl,fun h2=>⟨h.ok.invs.succ hk,hJ hl _ _ ⟨rfl,?_⟩⟩,fun h2=>qCU ?_ rf⟩⟩⟩⟩
  ·rw[ha,qAg (b:=(g.name,-1,10)) (by grind)];rfl
  ·rw[ha,qAl (by rw[<- hf2];exact(if_neg h1).trans (if_neg fun e=>e.1 h3))]
  ·rw[ha,qAl (by grind)]
  ·rw[ha,qAg (b:=(g.name,-1,9)) (by rw[<- hf2];exact(if_neg h1).trans (if_pos ⟨h3,eq_false_of_ne_true h2⟩))];rfl
 rw[(h.ok.invs.done hk).1,qAh]at ha
 rw[ha,Option.none_or]
 refine⟨h.nn,h.nn,qAd h.nn,d.qs,h.cell (i:=6) rfl,?_⟩
 unfold form3
 generalize hf3:(fun(_:Nat) (m:Po)=>if m.ty≠sE/\qAZ d m.ty=false then some ((sPot,-1,9):Flt) else none)=F3
 refine qAD d.pots.length (fun k V1=>V=V1/\qAh F3 0 d.pots=qAh F3 k (d.pots.drop k)) ⟨rfl,rfl⟩ ?_
 rintro k b V1 J hi ⟨rfl,ha⟩ hJ
 refine⟨fun hk=>?_,fun hk=>?_⟩
 ·obtain⟨g,hm,hx,hdr,hl,hp,hz,hrow⟩:=h.ok.pots.get hk
  rw[hdr]at ha
  refine⟨hp,hz,hk,_,_,_,_,_,hrow,fun h3=>⟨h.ok.pots.succ hk,hJ hl _ _ ⟨rfl,?_⟩⟩,fun h3=>(c230 h).call ⟨_,rfl,fun h2=>⟨h.ok.pots.succ hk,hJ hl _ _ ⟨rfl,?_⟩⟩,fun h2=>qCU ?_ rf⟩⟩
  ·rw[ha,qAl (by rw[<- hf3];exact if_neg fun e=>e.1 h3)]
  ·rw[ha,qAl (by grind)]
  ·rw[ha,qAg (b:=(sPot,-1,9)) (by rw[<- hf3];exact if_pos ⟨h3,eq_false_of_ne_true h2⟩)];rfl
 rw[(h.ok.pots.done hk).1,qAh]at ha
 rw[ha,Option.none_or]
 refine⟨h.nn,h.nn,qAd h.nn,d.bs,h.cell (i:=7) rfl,?_⟩
 unfold form4
 generalize hf4:(fun i (b:Bd)=>if (qFm d b.proc).isNone=true then some ((b.proc,-1,9):Flt) else if (d.bounds.take i).any (fun g=>decide (g.proc=b.proc))=true then some (b.proc,-1,10) else none)=F4
 refine qAD d.bounds.length (fun k V1=>V=V1/\qAh F4 0 d.bounds=qAh F4 k (d.bounds.drop k)) ⟨rfl,rfl⟩ ?_
 rintro k b V1 J hi ⟨rfl,ha⟩ hJ
 refine⟨fun hk=>?_,fun hk=>?_⟩
 ·obtain⟨g,hm,hx,hdr,hl,hp,hz,hrow⟩:=h.ok.bounds.get hk
  rw[hdr]at ha
  obtain⟨mt,q1,q2⟩:=h.procs
  refine⟨hp,hz,hk,_,_,_,_,_,hrow,h.nn,h.nn,_,q1,qBz.str Tryz.underlying270 Tryz.underlying9 zero143 q2 ?_⟩
  cases hpr:qFm d g.proc with
  | none =>
   refine⟨_,⟨none,0,0⟩,_,⟨none,0,0⟩,⟨none,0,0⟩,_,rfl,fun h=>absurd h (by simp),fun _=>qCU ?_ rf⟩
   rw[ha,qAg (b:=(g.proc,-1,9)) (by grind)]
  | some p =>
   have n0:¬(qFm d g.proc).isNone=true:=by rw[hpr];simp
   refine⟨_,p.ps,_,p.ls,p.bs,_,rfl,fun _=>⟨h.nn,h.nn,qAd h.nn,d.bs,h.cell (i:=7) rfl,(c233 h.ok.bounds hx).call ⟨_,rfl,fun h1=>qCU ?_ rf,fun h1=>⟨h.ok.bounds.succ hk,hJ hl _ _ ⟨rfl,?_⟩⟩⟩⟩,fun h=>absurd rfl h⟩
   ·rw[ha,qAg (b:=(g.proc,-1,10)) (by grind)]
   ·rw[ha,qAl (by grind)]
 rw[(h.ok.bounds.done hk).1,qAh]at ha
 rw[ha]
 exact⟨none,rfl,rf,rfl⟩
theorem impBodies(hS:qHI)(h:qBO V c d)(hv:VNe d)(hp:qKt d):FltC 194 [.pointer c] V (qCt d):=by
 refine x194 ?_
 unfold w194 qCt
 refine⟨h.nn,h.nn,qAd h.nn,d.ps,h.cell (i:=3) rfl,?_⟩
 generalize hf1:(fun(_:Nat) (p:Pr)=>if (qBH d (qAn d p) p.result 0 p.body).2≠0 then some ((p.name,(qBH d (qAn d p) p.result 0 p.body).1,(qBH d (qAn d p) p.result 0 p.body).2):Flt) else none)=F1
 refine qAD d.procs.length (fun k V1=>V.sub V1/\qAh F1 0 d.procs=qAh F1 k (d.procs.drop k)) ⟨Mem.sub.refl _,rfl⟩ ?_
 rintro k b V1 J hi ⟨hV,ha⟩ hJ
 have h1:=h.sub hV
 refine⟨fun hk=>?_,fun hk=>?_⟩
 ·obtain⟨g,hm,hx,hdr,hl,hpp,hz,hrow⟩:=h1.ok.procs.get hk
  rw[hdr]at ha
  have hg:=h1.ok.procsOk g hm
  refine⟨hpp,hz,hk,_,_,_,_,_,hrow,Tri.mono (impInProc hS h1 hv hm hg) ?_⟩
  rintro _ V2 ⟨m,rfl,h12,hsc⟩
  refine⟨_,_,_,rfl,fun b1 hb1=>?_⟩
  obtain⟨hs1,hs2⟩:=hp.ps g hm
  have s1:=Mem.sub_new hb1 (cell (.int .i64 0) 3)
  refine Tri.mono (impStmts hb1 (h1.sub h12) hv hsc rfl g.body _ g.bs 0 1 s1 mss (hg.sub h12).body (hg.sub h12).stmts hs1 (by omega) (by omega)) ?_
  rintro _ V3 ⟨rfl,n',hn',-⟩
  have hV3:=hV.trans (h12.trans (hn'.base s1 hb1))
  refine⟨_,_,rfl,fun h2=>⟨h1.ok.procs.succ hk,hJ hl _ _ ⟨hV3,?_⟩⟩,fun h2=>qCU ?_ hV3⟩
  ·rw[ha,qAl (by grind)]
  ·have:placeT (qBH d (qAn d g) g.result 0 g.body)=(qBH d (qAn d g) g.result 0 g.body).1:=if_neg h2
   rw[this,ha,qAg (b:=(g.name,(qBH d (qAn d g) g.result 0 g.body).1,(qBH d (qAn d g) g.result 0 g.body).2)) (by grind)]
 rw[(h1.ok.procs.done hk).1,qAh]at ha
 rw[ha]
 exact⟨none,rfl,hV,rfl⟩
theorem qCj{V1:Mem}{X:Option Flt}(h:FltAt V1 none X):X=none:=by
 cases X with
 | none=>rfl
 | some r=>obtain⟨b,t,h1,_⟩:=h;cases h1
theorem qFg{V1:Mem}{X:Option Flt}{p:Option Addr}(h:FltAt V1 p X)(hp:¬p=none):∃r,X=some r:=by
 cases X with
 | none=>exact absurd h hp
 | some r=>grind
theorem impExps(hS:qHI)(h:qBO V c d)(hv:VNe d)(hp:qKt d)(hform:qEs d=none):FltC 195 [.pointer c] V (qHd d):=by
 refine x195 ?_
 unfold w195 qHd
 refine⟨h.nn,h.nn,qAd h.nn,d.ms,h.cell (i:=4) rfl,?_⟩
 unfold exp1
 generalize hf1:(fun(_:Nat) (m:Ms)=>if qBp d (qAx d m.ty) m.x qAV≠0 then some ((m.name,-1,qBp d (qAx d m.ty) m.x qAV):Flt) else none)=F1
 refine qAD d.measures.length (fun k V1=>V.sub V1/\qAh F1 0 d.measures=qAh F1 k (d.measures.drop k)) ⟨Mem.sub.refl _,rfl⟩ ?_
 rintro k b V1 J hi ⟨hV,ha⟩ hJ
 have h1:=h.sub hV
 refine⟨fun hk=>?_,fun hk=>?_⟩
 ·obtain⟨g,hm,hx,hdr,hl,hpp,hz,hrow⟩:=h1.ok.measures.get hk
  rw[hdr]at ha
  refine⟨hpp,hz,hk,_,_,_,_,_,_,_,hrow,Tri.mono (qEL hS h1 hv) ?_⟩
  rintro _ V2 ⟨m,rfl,h12,hsc⟩
  refine⟨_,_,_,rfl,Tri.mono (c238 (e:=g.x) (h1.sub h12) hv hsc ((h1.sub h12).ok.measuresOk g hm).x (hp.ms g hm)) ?_⟩
  rintro _ V3 ⟨p,rfl,h23,hfl⟩
  have hV3:=hV.trans (h12.trans h23)
  have hfe:(if qBp d (qAx d g.ty) g.x qAV≠0 then some ((g.name,-1,qBp d (qAx d g.ty) g.x qAV):Flt) else none)=F1 k g:=by rw[<- hf1]
  rw[show qAm [105,110,116]=qAV from rfl]at hfl
  rw[hfe]at hfl
  refine⟨_,rfl,fun hn=>?_,fun hn=>?_⟩
  ·subst hn
   exact⟨h1.ok.measures.succ hk,hJ hl _ _ ⟨hV3,by rw[ha,qAl (qCj hfl)]⟩⟩
  ·obtain⟨r,hr⟩:=qFg hfl hn
   rw[ha,qAg hr]
   rw[hr]at hfl
   exact⟨p,rfl,hV3,hfl⟩
 rw[(h1.ok.measures.done hk).1,qAh]at ha
 rw[ha,Option.none_or]
 refine⟨h.nn,h.nn,qAd h.nn,d.is,h1.cell (i:=5) rfl,?_⟩
 unfold exp2
 generalize hf2:(fun(_:Nat) (m:Iv)=>if qBp d (qAx d m.ty) m.x qAt≠0 then some ((m.name,-1,qBp d (qAx d m.ty) m.x qAt):Flt) else none)=F2
 refine qAD d.invs.length (fun k V1=>V.sub V1/\qAh F2 0 d.invs=qAh F2 k (d.invs.drop k)) ⟨hV,rfl⟩ ?_
 rintro k b V1 J hi ⟨hV,ha⟩ hJ
 have h1:=h.sub hV
 refine⟨fun hk=>?_,fun hk=>?_⟩
 ·obtain⟨g,hm,hx,hdr,hl,hpp,hz,hrow⟩:=h1.ok.invs.get hk
  rw[hdr]at ha
  refine⟨hpp,hz,hk,_,_,_,_,_,_,hrow,Tri.mono (qEL hS h1 hv) ?_⟩
  rintro _ V2 ⟨m,rfl,h12,hsc⟩
  refine⟨_,_,_,rfl,Tri.mono (c238 (e:=g.x) (h1.sub h12) hv hsc ((h1.sub h12).ok.invsOk g hm) (hp.is g hm)) ?_⟩
  rintro _ V3 ⟨p,rfl,h23,hfl⟩
  have hV3:=hV.trans (h12.trans h23)
  have hfe:(if qBp d (qAx d g.ty) g.x qAt≠0 then some ((g.name,-1,qBp d (qAx d g.ty) g.x qAt):Flt) else none)=F2 k g:=by rw[<- hf2]
  rw[show qAm [98,111,111,108]=qAt from rfl]at hfl
  rw[hfe]at hfl
  refine⟨_,rfl,fun hn=>?_,fun hn=>?_⟩
  ·subst hn
   exact⟨h1.ok.invs.succ hk,hJ hl _ _ ⟨hV3,by rw[ha,qAl (qCj hfl)]⟩⟩
  ·obtain⟨r,hr⟩:=qFg hfl hn
   rw[ha,qAg hr]
   rw[hr]at hfl
   exact⟨p,rfl,hV3,hfl⟩
 rw[(h1.ok.invs.done hk).1,qAh]at ha
 rw[ha,Option.none_or]
 refine⟨h.nn,h.nn,qAd h.nn,d.qs,h1.cell (i:=6) rfl,?_⟩
 unfold exp3
 generalize hf3:(fun(_:Nat) (m:Po)=>if qBp d (qAx d m.ty) m.x qAV≠0 then some ((sPot,-1,qBp d (qAx d m.ty) m.x qAV):Flt) else none)=F3
 refine qAD d.pots.length (fun k V1=>V.sub V1/\qAh F3 0 d.pots=qAh F3 k (d.pots.drop k)) ⟨hV,rfl⟩ ?_
 rintro k b V1 J hi ⟨hV,ha⟩ hJ
 have h1:=h.sub hV
 refine⟨fun hk=>?_,fun hk=>?_⟩
 ·obtain⟨g,hm,hx,hdr,hl,hpp,hz,hrow⟩:=h1.ok.pots.get hk
  rw[hdr]at ha
  refine⟨hpp,hz,hk,_,_,_,_,_,hrow,Tri.mono (qEL hS h1 hv) ?_⟩
  rintro _ V2 ⟨m,rfl,h12,hsc⟩
  refine⟨_,_,_,rfl,Tri.mono (c238 (e:=g.x) (h1.sub h12) hv hsc ((h1.sub h12).ok.potsOk g hm) (hp.qs g hm)) ?_⟩
  rintro _ V3 ⟨p,rfl,h23,hfl⟩
  have hV3:=hV.trans (h12.trans h23)
  have hfe:(if qBp d (qAx d g.ty) g.x qAV≠0 then some ((sPot,-1,qBp d (qAx d g.ty) g.x qAV):Flt) else none)=F3 k g:=by rw[<- hf3]
  rw[show qAm [105,110,116]=qAV from rfl,show qAm [112,111,116,101,110,116,105,97,108]=sPot from rfl]at hfl
  rw[hfe]at hfl
  refine⟨_,rfl,fun hn=>?_,fun hn=>?_⟩
  ·subst hn
   exact⟨h1.ok.pots.succ hk,hJ hl _ _ ⟨hV3,by rw[ha,qAl (qCj hfl)]⟩⟩
  ·obtain⟨r,hr⟩:=qFg hfl hn
   rw[ha,qAg hr]
   rw[hr]at hfl
   exact⟨p,rfl,hV3,hfl⟩
 rw[(h1.ok.pots.done hk).1,qAh]at ha
 rw[ha,Option.none_or]
 refine⟨h.nn,h.nn,qAd h.nn,d.bs,h1.cell (i:=7) rfl,?_⟩
 have hpr:=qJt hform
 unfold exp4
 generalize hf4:(fun(_:Nat) (m:Bd)=>if qBp d (qBw d ((qFm d m.proc).getD prD)) m.x qAV≠0 then some ((m.proc,-1,qBp d (qBw d ((qFm d m.proc).getD prD)) m.x qAV):Flt) else none)=F4
 refine qAD d.bounds.length (fun k V1=>V.sub V1/\qAh F4 0 d.bounds=qAh F4 k (d.bounds.drop k)) ⟨hV,rfl⟩ ?_
 rintro k b V1 J hi ⟨hV,ha⟩ hJ
 have h1:=h.sub hV
 refine⟨fun hk=>?_,fun hk=>?_⟩
 ·obtain⟨g,hm,hx,hdr,hl,hpp,hz,hrow⟩:=h1.ok.bounds.get hk
  rw[hdr]at ha
  obtain⟨q,hq⟩:=hpr g hm
  obtain⟨mt,q1,q2⟩:=h1.procs
  refine⟨hpp,hz,hk,_,_,_,_,_,hrow,h.nn,h.nn,_,q1,qBz.str1 Tryz.underlying270 Tryz.underlying9 zero143 q2 ?_⟩
  rw[hq]
  refine⟨_,q.ps,_,q.ls,q.bs,rfl,Tri.mono (impInBound hS h1 hv (qKQ hq) (h1.ok.procsOk q (qKQ hq))) ?_⟩
  rintro _ V2 ⟨m,rfl,h12,hsc⟩
  refine⟨_,_,_,rfl,Tri.mono (c238 (e:=g.x) (h1.sub h12) hv hsc ((h1.sub h12).ok.boundsOk g hm) (hp.bs g hm)) ?_⟩
  rintro _ V3 ⟨p,rfl,h23,hfl⟩
  have hV3:=hV.trans (h12.trans h23)
  have hfe:(if qBp d (qBw d q) g.x qAV≠0 then some ((g.proc,-1,qBp d (qBw d q) g.x qAV):Flt) else none)=F4 k g:=by grind
  rw[show qAm [105,110,116]=qAV from rfl]at hfl
  rw[hfe]at hfl
  refine⟨_,rfl,fun hn=>?_,fun hn=>?_⟩
  ·subst hn
   exact⟨h1.ok.bounds.succ hk,hJ hl _ _ ⟨hV3,by rw[ha,qAl (qCj hfl)]⟩⟩
  ·obtain⟨r,hr⟩:=qFg hfl hn
   rw[ha,qAg hr]
   rw[hr]at hfl
   exact⟨p,rfl,hV3,hfl⟩
 rw[(h1.ok.bounds.done hk).1,qAh]at ha
 rw[ha]
 exact⟨none,rfl,hV,rfl⟩
end
theorem GenK.makeF1{P:Program}{V:Mem}{f:FuncId}{x:Operand}{ty:Nat}{vals:Operand->Value}{v:Value}(hx:vals x=v){q:Value->Mem->Prop}(hq:q (.func (.func f) #[v] #[]) V):GenK P (.makeFunc (.func f) #[x] #[]) ty vals V q:=by
 intro w hw
 refine⟨_,w,V,?_,Frm.refl hw,hq⟩
 unfold execOp Instr.makeFunc
 simp_all
section
variable{V:Mem}{d:Ds}{c:Option Addr}
theorem impFirst(hS:qHI)(h:qBO V c d)(hv:VNe d)(hp:qKt d):FltC 159 [.pointer c] V (qHD d):=by
 refine x159 ?_
 unfold w159
 have F1:=fun V1 (hs:V.sub V1)=>impTypes (h.sub hs)
 have F2:=fun V1 (hs:V.sub V1)=>impHeads (h.sub hs) hp.small
 have F3:=fun V1 (hs:V.sub V1)=>impForm (h.sub hs)
 have F4:=fun V1 (hs:V.sub V1)=>impBodies hS (h.sub hs) hv hp
 have F5:=fun V1 (hs:V.sub V1) (hf:qEs d=none)=>impExps hS (h.sub hs) hv hp hf
 refine GenK.makeF1 (v:=.pointer c) rfl ⟨.func (.func 191) #[.pointer c] #[],rfl,rfl,GenK.makeF1 (v:=.pointer c) rfl ⟨.func (.func 192) #[.pointer c] #[],rfl,rfl,GenK.makeF1 (v:=.pointer c) rfl ⟨.func (.func 193) #[.pointer c] #[],rfl,rfl,GenK.makeF1 (v:=.pointer c) rfl ⟨.func (.func 194) #[.pointer c] #[],rfl,rfl,GenK.makeF1 (v:=.pointer c) rfl ⟨.func (.func 195) #[.pointer c] #[],rfl,rfl,fun b hb=>?_⟩⟩⟩⟩⟩
 have hs1:=Mem.sub_new hb (.cells #[.func (.func 191) #[.pointer c] #[],.func (.func 192) #[.pointer c] #[],.func (.func 193) #[.pointer c] #[],.func (.func 194) #[.pointer c] #[],.func (.func 195) #[.pointer c] #[]] 236 (0,0))
 refine qAD 5 (fun i V1=>V.sub V1/\V1 b=some (.cells #[.func (.func 191) #[.pointer c] #[],.func (.func 192) #[.pointer c] #[],.func (.func 193) #[.pointer c] #[],.func (.func 194) #[.pointer c] #[],.func (.func 195) #[.pointer c] #[]] 236 (0,0)) /\
  ((i=0/\qHD d=(qFq d).or ((qEp d).or ((qEs d).or ((qCt d).or (qHd d)))))∨(i=1/\qHD d=(qEp d).or ((qEs d).or ((qCt d).or (qHd d))))∨(i=2/\qHD d=(qEs d).or ((qCt d).or (qHd d)))∨(i=3/\qEs d=none/\qHD d=(qCt d).or (qHd d))∨(i=4/\qEs d=none/\qHD d=qHd d)∨(i=5/\qHD d=none))) ⟨hs1,Mem.set_same _ _ _,.inl ⟨rfl,rfl⟩⟩ ?_
 rintro i b' V1 J hi ⟨hV,hrow,hst⟩ hJ
 have fin:∀{V2:Mem} {X Y:Option Flt} {p:Option Addr},V.sub V2->FltAt V2 p X->¬(p=none)->qHD d=X.or Y->(∃p',Ending.returned (.pointer p)=.returned (.pointer p')/\V.sub V2/\FltAt V2 p' (qHD d)):=fun {V2 X Y p} hs hf hn he=>by
  obtain⟨r,rfl⟩:=qFg hf hn
  simp_all
 refine⟨fun hlt=>?_,fun hge=>?_⟩
 ·rcases hst with⟨rfl,he⟩|⟨rfl,he⟩|⟨rfl,he⟩|⟨rfl,hf,he⟩|⟨rfl,hf,he⟩|⟨rfl,he⟩
  ·refine⟨by simp[qAa],by omega,by omega,.func (.func 191) #[.pointer c] #[],rfl,qAe hrow 0 1 (by simp),_,_,_,rfl,Tryz.call191,Tri.mono (F1 V1 hV) ?_⟩
   rintro _ V2 ⟨p,rfl,h12,hfl⟩
   refine⟨_,rfl,fun hn=>⟨⟨by omega,by omega⟩,hJ (by omega) _ _ ⟨hV.trans h12,h12 _ _ hrow,?_⟩⟩,fun hn=>fin (hV.trans h12) hfl hn he⟩
   subst hn
   exact .inr (.inl ⟨rfl,by rw[he,qCj hfl,Option.none_or]⟩)
  ·refine⟨by simp[qAa],by omega,by omega,.func (.func 192) #[.pointer c] #[],rfl,qAe hrow 1 1 (by simp),_,_,_,rfl,Tryz.call192,Tri.mono (F2 V1 hV) ?_⟩
   rintro _ V2 ⟨p,rfl,h12,hfl⟩
   refine⟨_,rfl,fun hn=>⟨⟨by omega,by omega⟩,hJ (by omega) _ _ ⟨hV.trans h12,h12 _ _ hrow,?_⟩⟩,fun hn=>fin (hV.trans h12) hfl hn he⟩
   subst hn
   exact .inr (.inr (.inl ⟨rfl,by rw[he,qCj hfl,Option.none_or]⟩))
  ·refine⟨by simp[qAa],by omega,by omega,.func (.func 193) #[.pointer c] #[],rfl,qAe hrow 2 1 (by simp),_,_,_,rfl,Tryz.call193,Tri.mono (F3 V1 hV) ?_⟩
   rintro _ V2 ⟨p,rfl,h12,hfl⟩
   refine⟨_,rfl,fun hn=>⟨⟨by omega,by omega⟩,hJ (by omega) _ _ ⟨hV.trans h12,h12 _ _ hrow,?_⟩⟩,fun hn=>fin (hV.trans h12) hfl hn he⟩
   subst hn
   exact .inr (.inr (.inr (.inl ⟨rfl,qCj hfl,by rw[he,qCj hfl,Option.none_or]⟩)))
  ·refine⟨by simp[qAa],by omega,by omega,.func (.func 194) #[.pointer c] #[],rfl,qAe hrow 3 1 (by simp),_,_,_,rfl,Tryz.call194,Tri.mono (F4 V1 hV) ?_⟩
   rintro _ V2 ⟨p,rfl,h12,hfl⟩
   refine⟨_,rfl,fun hn=>⟨⟨by omega,by omega⟩,hJ (by omega) _ _ ⟨hV.trans h12,h12 _ _ hrow,?_⟩⟩,fun hn=>fin (hV.trans h12) hfl hn he⟩
   subst hn
   exact .inr (.inr (.inr (.inr (.inl ⟨rfl,hf,by rw[he,qCj hfl,Option.none_or]⟩))))
  ·refine⟨by simp[qAa],by omega,by omega,.func (.func 195) #[.pointer c] #[],rfl,qAe hrow 4 1 (by simp),_,_,_,rfl,Tryz.call195,Tri.mono (F5 V1 hV hf) ?_⟩
   rintro _ V2 ⟨p,rfl,h12,hfl⟩
   refine⟨_,rfl,fun hn=>⟨⟨by omega,by omega⟩,hJ (by omega) _ _ ⟨hV.trans h12,h12 _ _ hrow,?_⟩⟩,fun hn=>fin (Y:=none) (hV.trans h12) hfl hn (by simp_all)⟩
   subst hn
   exact .inr (.inr (.inr (.inr (.inr ⟨rfl,by rw[he,qCj hfl]⟩))))
  ·omega
 ·rcases hst with⟨rfl,he⟩|⟨rfl,he⟩|⟨rfl,he⟩|⟨rfl,hf,he⟩|⟨rfl,hf,he⟩|⟨rfl,he⟩
  ·omega
  ·omega
  ·omega
  ·omega
  ·omega
  ·rw[he];exact⟨none,rfl,hV,rfl⟩
theorem c113[Tab V](hS:qHI)(hN:NewC)(hd:Ds.Ok V d):PP 113 [d.v] V (if qAB d=true then f3 (qHD d) else .tuple #[.string sE,.int .i64 0,.int .i64 1]):=by
 refine Pur.mk (x113 ?_)
 unfold w113
 refine(c120 hd).call ⟨_,rfl,fun hval=>?_,fun hval=>?_⟩
 ·rw[if_pos hval]
  refine Tri.mono (hN V d hd) ?_
  rintro _ V1 ⟨c,rfl,h1,hc⟩
  refine⟨c,rfl,Tri.mono (impFirst hS hc (vne hval) (vparts hval)) ?_⟩
  rintro _ V2 ⟨p,rfl,h2,hfl⟩
  refine⟨p,rfl,fun hn=>?_,fun hn=>?_⟩
  ·subst hn
   rw[qCj hfl]
   exact⟨rfl,h1.trans h2⟩
  ·obtain⟨r,hr⟩:=qFg hfl hn
   rw[hr]at hfl ⊢
   obtain⟨b,t,rfl,hb⟩:=hfl
   exact⟨hn,hn,_,qAe hb 0 1 (by simp),hn,hn,_,qAe hb 1 1 (by simp),hn,hn,_,qAe hb 2 1 (by simp),qCe (p:=some ⟨b,0,none⟩) (qAe hb 2 1 (by simp)),hn,hn,qCe (p:=some ⟨b,0,none⟩) (qAe hb 1 1 (by simp)),hn,hn,qCe (p:=some ⟨b,0,none⟩) (qAe hb 2 1 (by simp)),hn,hn,rfl,h1.trans h2⟩
 ·rw[if_neg hval];exact⟨rfl,Mem.sub.refl _⟩
end
end Go.Proofs
namespace Go.Sx
open Go
open Classical
structure KeyOf (P:Program) (kt:TypeId) {α:Type} (enc:α->Value):Prop where
 inj:∀a b,enc a=enc b->a=b
 find:∀(a:α) (es:List MapEntry) (w:World),(∀e∈es,∃b,e.key=enc b)->(Instr.findKey kt (enc a) es).run P w=.ok ((es.findIdx? fun e=>decide (e.key=enc a)).bind fun j=>(es[j]?).map fun e=>(j,e.val)) w
 check:∀(b:Bool) (a:α) (w:World),(Instr.checkKey b 10000 kt (enc a)).run P w=.ok () w
 stays:∀(a:α) (w:World),(Instr.keyThatStays (enc a) (enc a)).run P w=.ok (enc a) w
noncomputable def qEr(es:List MapEntry)(k:Value):Option Value:=(es.find? fun e=>decide (e.key=k)).map (·.val)
structure qFS {α:Type} (enc:α->Value) (V:Mem) (b:Nat) (m:α->Option Value):Prop where
 at_:∃es clock,V b=some (.map es clock)/\(∀e∈es.toList,∃a,e.key=enc a)/\es.toList.Pairwise (fun e f=>e.key≠f.key)/\∀a,qEr es.toList (enc a)=m a
section
variable{α:Type}{enc:α->Value}{P:Program}{t kt et:TypeId}{V V':Mem}{b c:Nat}{m m':α->Option Value}
theorem qFS.sub(h:qFS enc V b m)(hs:V.sub V'):qFS enc V' b m:=by
 obtain⟨es,c,h1,h2⟩:=h.at_
 exact⟨es,c,hs _ _ h1,h2⟩
theorem qFS.set{o:Obj}(h:qFS enc V b m)(hn:b≠c):qFS enc (V.set c o) b m:=by
 obtain⟨es,c,h1,h2⟩:=h.at_
 exact⟨es,c,by rw[Mem.set_ne hn];exact h1,h2⟩
theorem qFS.made(V:Mem)(b:Nat):qFS enc (V.set b (.map #[] 0)) b fun _=>none :=
 ⟨#[],0,Mem.set_same _ _ _,by simp,by simp,by simp[qEr]⟩
theorem qFS.congr(h:qFS enc V b m)(e:∀k,m k=m' k):qFS enc V b m':=by
 obtain⟨es,c,h1,h2,h3,h4⟩:=h.at_
 exact⟨es,c,h1,h2,h3,fun k=>(h4 k).trans (e k)⟩
theorem qGr(k:Value):∀es:List MapEntry,qEr es k=(es.findIdx? fun e=>decide (e.key=k)).bind fun j=>(es[j]?).map (·.val)
 | []=>rfl
 | e::es=>by
  have ih:=qGr k es
  unfold qEr at ih ⊢
  simp only[List.find?_cons,List.findIdx?_cons]
  by_cases hk:e.key=k
  ·simp[hk]
  ·simp only[hk,decide_false,Bool.false_eq_true,if_false,ih]
   cases h':List.findIdx? (fun e=>decide (e.key=k)) es <;> simp
theorem qBz.key2(K:KeyOf P kt enc)(ht:P.underlying t=some (.map kt et)){z:Value}(hz:∀w,(zeroValue et).run P w=.ok z w)(hm:qFS enc V b m){k:α}{q:Value->Prop}(hq:q (.tuple #[(m k).getD z,.bool (m k).isSome])):qBz P t (.map (some b)) (enc k) true V q:=by
 intro w hw
 obtain⟨es,c,h1,h2,-,h3⟩:=hm.at_
 refine⟨_,?_,hq⟩
 unfold Instr.lookup
 simp only[Sem.run_bind,run_underlying ht,Result.andThen_ok,MapKept.run_getObj_map (hw _ _ h1),Sem.run_pure,K.check,K.find k _ w h2]
 rw[<- h3 k,qGr]
 cases h':List.findIdx? (fun e=>decide (e.key=enc k)) es.toList with
 | none=>simp_all
 | some j =>
  grind [List.findIdx?_eq_some_iff_getElem,Sem.run_pure,List.getElem?_eq_getElem,Array.getElem?_eq_getElem]
theorem qBz.key1(K:KeyOf P kt enc)(ht:P.underlying t=some (.map kt et)){z:Value}(hz:∀w,(zeroValue et).run P w=.ok z w)(hm:qFS enc V b m){k:α}{q:Value->Prop}(hq:q ((m k).getD z)):qBz P t (.map (some b)) (enc k) false V q:=by
 intro w hw
 obtain⟨es,c,h1,h2,-,h3⟩:=hm.at_
 refine⟨_,?_,hq⟩
 unfold Instr.lookup
 simp only[Sem.run_bind,run_underlying ht,Result.andThen_ok,MapKept.run_getObj_map (hw _ _ h1),Sem.run_pure,K.check,K.find k _ w h2]
 rw[<- h3 k,qGr]
 cases h':List.findIdx? (fun e=>decide (e.key=enc k)) es.toList with
 | none=>simp_all
 | some j =>
  grind [List.findIdx?_eq_some_iff_getElem,Sem.run_pure,List.getElem?_eq_getElem,Array.getElem?_eq_getElem]
theorem lookV_push{es:List MapEntry}{k val:Value}{c:Nat}(h:es.findIdx? (fun e=>decide (e.key=k))=none)(x:Value):qEr (es++[{ key:=k,val:=val,born:=c }]) x=if x=k then some val else qEr es x:=by
 grind [qEr]
theorem qHw(k val:Value):∀(es:List MapEntry) (i:Nat) (h:es.findIdx? (fun e=>decide (e.key=k))=some i) (x:Value),qEr (es.modify i fun e=>{ e with key:=k,val:=val }) x=if x=k then some val else qEr es x
 | [],_,h,_=>by simp at h
 | e::es,i,h,x=>by
  rw[List.findIdx?_cons]at h
  by_cases hk:e.key=k
  ·grind [qEr]
  ·simp only[hk,decide_false,Bool.false_eq_true,if_false,Option.map_eq_some_iff]at h
   obtain⟨j,hj,rfl⟩:=h
   have ih:=qHw k val es j hj x
   grind [qEr]
theorem qIO(k val:Value):∀(es:List MapEntry) (i:Nat),es.findIdx? (fun e=>decide (e.key=k))=some i->(es.modify i fun e=>{ e with key:=k,val:=val }).map (·.key)=es.map (·.key)
 | [],_,h=>by simp at h
 | e::es,i,h=>by
  rw[List.findIdx?_cons]at h
  by_cases hk:e.key=k
  ·grind
  ·simp only[hk,decide_false,Bool.false_eq_true,if_false,Option.map_eq_some_iff]at h
   obtain⟨j,hj,rfl⟩:=h
   simp[qIO k val es j hj]
theorem pair_keys{es:List MapEntry}:es.Pairwise (fun e f=>e.key≠f.key)↔(es.map (·.key)).Pairwise (·≠·):=by grind
theorem qDD.key(K:KeyOf P kt enc)(ht:P.underlying t=some (.map kt et))(hm:qFS enc V b m){k:α}{val:Value}{q:Mem->Prop}(hq:∀o,qFS enc (V.set b o) b (fun x=>if x=k then some val else m x)->q (V.set b o)):qDD P t (.map (some b)) (enc k) val V q:=by
 intro w hw
 obtain⟨es,c,h1,h2,hd,h3⟩:=hm.at_
 have hrun:(Instr.mapUpdate t (.map (some b)) (enc k) val).run P w =
   (match es.toList.findIdx? (fun e=>decide (e.key=enc k)) with
   | some i=>(setObj b (.map (es.modify i fun e=>{ e with key:=enc k,val:=val }) c)).run P w
   | none=>(setObj b (.map (es.push { key:=enc k,val:=val,born:=c }) (c+1))).run P w):=by
  unfold Instr.mapUpdate
  simp only[Sem.run_bind,run_underlying ht,Result.andThen_ok,MapKept.run_getObj_map (hw _ _ h1),K.check,K.find k _ w h2]
  cases h':List.findIdx? (fun e=>decide (e.key=enc k)) es.toList with
  | none=>rfl
  | some j =>
   obtain⟨hj1,hj2,_⟩:=List.findIdx?_eq_some_iff_getElem.1 h'
   have hj3:j<es.size:=by simpa using hj1
   have hkey:(es[j]?).map (·.key)=some (enc k):=by
    simp_all
   simp only[List.getElem?_eq_getElem hj1,Option.bind_some,Option.map_some,Sem.run_bind,hkey,Option.getD_some,K.stays,Result.andThen_ok]
 have hif:∀a,(if enc a=enc k then some val else qEr es.toList (enc a))=if a=k then some val else m a:=fun a=>by
  by_cases e:a=k
  ·simp_all
  ·rw[if_neg e,if_neg (fun h=>e (K.inj _ _ h)),h3]
 cases h':List.findIdx? (fun e=>decide (e.key=enc k)) es.toList with
 | none =>
  rw[h']at hrun
  refine⟨_,V.set b (.map (es.push { key:=enc k,val:=val,born:=c }) (c+1)),hrun.trans (MapKept.run_setObj_map _ (hw _ _ h1)),Frm.put hw h1,hq _ ⟨_,_,Mem.set_same _ _ _,?_,?_,fun x=>?_⟩⟩
  ·grind
  ·grind
  ·rw[Array.toList_push,lookV_push h',hif]
 | some j =>
  rw[h']at hrun
  refine⟨_,V.set b (.map (es.modify j fun e=>{ e with key:=enc k,val:=val }) c),hrun.trans (MapKept.run_setObj_map _ (hw _ _ h1)),Frm.put hw h1,hq _ ⟨_,_,Mem.set_same _ _ _,?_,?_,fun x=>?_⟩⟩
  ·intro e he
   rw[Array.toList_modify]at he
   obtain⟨i,hi,rfl⟩:=List.mem_iff_getElem.1 he
   rw[List.getElem_modify]
   split
   ·grind
   simp_all
  ·simp_all [Array.toList_modify,pair_keys,qIO]
  simp_all [Array.toList_modify,qHw]
theorem qIU:∀(es:List MapEntry) (k:Value) (i:Nat),es.Pairwise (fun e f=>e.key≠f.key)->es.findIdx? (fun e=>decide (e.key=k))=some i->∀x,qEr (es.eraseIdx i) x=if x=k then none else qEr es x
 | [],_,_,_,h,_=>by simp at h
 | e::es,k,i,hd,h,x=>by
  obtain⟨hd1,hd2⟩:=List.pairwise_cons.1 hd
  rw[List.findIdx?_cons]at h
  by_cases hk:e.key=k
  ·grind [qEr]
  ·simp only[hk,decide_false,Bool.false_eq_true,if_false,Option.map_eq_some_iff]at h
   obtain⟨j,hj,rfl⟩:=h
   have ih:=qIU es k j hd2 hj x
   grind [qEr]
theorem GenK.delete(K:KeyOf P kt enc)(ht:P.underlying t=some (.map kt et))(hm:qFS enc V b m){k:α}{x y:Operand}{t2 ty:TypeId}{vals:Operand->Value}(hx:vals x=.map (some b))(hy:vals y=enc k){q:Value->Mem->Prop}
  (hq:∀o,qFS enc (V.set b o) b (fun x=>if x=k then none else m x)->q (.tuple #[]) (V.set b o)):GenK P (.call { callee:=.builtin .delete,args:=#[x,y],argTypes:=#[t,t2] }) ty vals V q:=by
 intro w hw
 obtain⟨es,c,h1,h2,hd,h3⟩:=hm.at_
 have hrun:(execOp vals { dst:=none,op:=.call { callee:=.builtin .delete,args:=#[x,y],argTypes:=#[t,t2] },type:=ty,pos := "",after:=#[],guard:=none }).run P w =
   (Sem.run P (match es.toList.findIdx? (fun(e:MapEntry)=>decide (e.key=enc k)) with
   | some i=>setObj b (.map (es.eraseIdxIfInBounds i) c)
   | none=>setObj b (.map es c)) w).andThen fun _ w'=>.ok (.value (.tuple #[])) w':=by
  unfold execOp
  simp only[resolve,invoke,builtin,Sem.run_bind,Sem.run_pure,Result.andThen_ok,List.map_toArray,List.map_cons,List.map_nil,hx,hy,Builtin.delete_]
  simp only[List.getElem?_toArray,List.getElem?_cons_zero,List.getElem?_cons_succ,Sem.run_bind,run_underlying ht,Result.andThen_ok,MapKept.run_getObj_map (hw _ _ h1),K.check,K.find k _ w h2]
  cases h':List.findIdx? (fun e=>decide (e.key=enc k)) es.toList with
  | none=>simp[Sem.run_bind,Sem.run_pure,MapKept.run_setObj_map _ (hw _ _ h1),Result.andThen_ok]
  | some j =>
   have hj1:=(List.findIdx?_eq_some_iff_getElem.1 h').1
   have hj2:es[j]?=some es[j]:=Array.getElem?_eq_getElem (show j<es.size by simpa using hj1)
   simp[Sem.run_bind,Sem.run_pure,MapKept.run_setObj_map _ (hw _ _ h1),Result.andThen_ok,hj2]
 cases h':List.findIdx? (fun e=>decide (e.key=enc k)) es.toList with
 | none =>
  rw[h']at hrun
  simp only[MapKept.run_setObj_map _ (hw _ _ h1),Result.andThen_ok]at hrun
  refine⟨_,_,V.set b (.map es c),hrun,Frm.put hw h1,hq _ ⟨_,_,Mem.set_same _ _ _,h2,hd,fun a=>?_⟩⟩
  by_cases e:a=k
  ·subst e
   rw[if_pos rfl,qGr,h'];rfl
  simp_all
 | some j =>
  rw[h']at hrun
  simp only[MapKept.run_setObj_map _ (hw _ _ h1),Result.andThen_ok]at hrun
  refine⟨_,_,V.set b (.map (es.eraseIdxIfInBounds j) c),hrun,Frm.put hw h1,hq _ ⟨_,_,Mem.set_same _ _ _,?_,?_,fun a=>?_⟩⟩
  ·intro e he
   rw[Array.toList_eraseIdxIfInBounds]at he
   exact h2 e (List.mem_of_mem_eraseIdx he)
  ·grind [Array.toList_eraseIdxIfInBounds,List.eraseIdx_sublist]
  ·rw[Array.toList_eraseIdxIfInBounds,qIU _ _ _ hd h',h3]
   by_cases e:a=k
   ·simp_all
   ·rw[if_neg e,if_neg (fun h=>e (K.inj _ _ h))]
end
end Go.Sx
namespace Go.Proofs
open Go Go.Sx
attribute [local irreducible] Go.Sx.Tri
def qAf(n:Int):List Value:=[.int .i64 n]
def inI(n:Int):Prop:=-9223372036854775808<=n/\n<=9223372036854775807
structure Nd where
 ty:Int
 sl:Sl
 f:List Int
def Nd.row(n:Nd):List Value:=[.int .i64 n.ty,n.sl.v]
def Nd.v(n:Nd):Value:=.agg n.row.toArray
structure Nd.Ok (V:Mem) (n:Nd):Prop where
 rows:qAc V n.sl 1 (n.f.map qAf)
 tyIn:inI n.ty
 vals:∀x∈n.f,inI x
structure Mm where
 gs:Sl
 globals:List Int
 ns:Sl
 nodes:List Nd
def Mm.row(m:Mm):List Value:=[m.gs.v,m.ns.v]
def Mm.v(m:Mm):Value:=.agg m.row.toArray
structure Mm.Ok (V:Mem) (m:Mm):Prop where
 globals:qAc V m.gs 1 (m.globals.map qAf)
 gIn:∀x∈m.globals,inI x
 nodes:qAc V m.ns 2 (m.nodes.map Nd.row)
 nodesOk:∀n∈m.nodes,Nd.Ok V n
theorem Nd.Ok.sub{V V':Mem}{n:Nd}(h:Nd.Ok V n)(hs:V.sub V'):Nd.Ok V' n:=⟨h.rows.sub hs,h.tyIn,h.vals⟩
theorem Mm.Ok.sub{V V':Mem}{m:Mm}(h:Mm.Ok V m)(hs:V.sub V'):Mm.Ok V' m:=⟨h.globals.sub hs,h.gIn,h.nodes.sub hs,fun n hn=>(h.nodesOk n hn).sub hs⟩
def allI{α:Type}(p:Nat->α->Bool)(xs:List α):Bool:=xs.zipIdx.all fun x=>p x.2 x.1
def AllI{α:Type}(p:Nat->α->Bool)(xs:List α)(i:Nat):Prop:=∀j x,j<i->xs[j]?=some x->p j x=true
theorem AllI.zero{α:Type}{p:Nat->α->Bool}{xs:List α}:AllI p xs 0:=fun _ _ h=>absurd h (Nat.not_lt_zero _)
theorem AllI.succ{α:Type}{p:Nat->α->Bool}{xs:List α}{i:Nat}{x:α}(h:AllI p xs i)(hx:xs[i]?=some x)(hp:p i x=true):AllI p xs (i+1):=fun j y hj hy=>by
 rcases Nat.lt_succ_iff_lt_or_eq.1 hj with h'|rfl
 ·exact h j y h' hy
 simp_all
theorem qDq{α:Type}{p:Nat->α->Bool}{xs:List α}:allI p xs=true↔∀j x,xs[j]?=some x->p j x=true:=by
 unfold allI
 rw[List.all_eq_true]
 constructor
 ·simp_all [List.mem_zipIdx_iff_getElem?]
 grind
theorem AllI.all{α:Type}{p:Nat->α->Bool}{xs:List α}{i:Nat}(h:AllI p xs i)(hi:xs.length<=i):allI p xs=true :=
 qDq.2 fun j x hx=>h j x (by grind) hx
theorem qHk{α:Type}{p:Nat->α->Bool}{xs:List α}{j:Nat}{x:α}(hx:xs[j]?=some x)(hp:¬p j x=true):allI p xs=false:=by
 grind [allI,absurd,qDq]
def qDx(d:Ds)(s:ByteArray):Int:=qIa (fun t=>decide (t.name=s)) d.types
def qBE(d:Ds)(l:List Fld):Bool:=l.all fun f=>qBf d f.ty
def qJz(d:Ds):Bool:=qAB d&&qBE d d.globals&&allI (fun i t=>decide (qDx d t.name=(i:Int))&&qBE d t.fields) d.types
def qAq(d:Ds)(t:Int):List Fld:=((d.types[t.toNat]?).map (·.fields)).getD []
def tyAt(l:List Fld)(i:Nat):ByteArray:=((l[i]?).map (·.ty)).getD sE
def qAw(d:Ds)(m:Mm)(typ:ByteArray)(v:Int):Bool :=
 if typ=qAV then decide (-1099511627776<=v/\v<=1099511627776) else if typ=qAt then decide (v=0∨v=1)
 else decide (v=0∨(1<=v/\v<=(m.nodes.length:Int)/\(m.nodes[(v-1).toNat]?).map (·.ty)=some (qDx d typ)))
def qAi(d:Ds)(m:Mm)(l:List Fld)(vs:List Int):Bool:=decide (l.length=vs.length)&&allI (fun i v=>qAw d m (tyAt l i) v) vs
def qDn(d:Ds)(n:Nd):Bool:=decide (0<=n.ty/\n.ty<(d.types.length:Int))
def qAu(d:Ds)(m:Mm):Bool:=qJz d&&decide (m.nodes.length<=4096)&&m.nodes.all (qDn d)&&qAi d m d.globals m.globals&&m.nodes.all fun n=>qAi d m (qAq d n.ty) n.f
theorem row_take{V:Mem}{a:Addr}{n k:Nat}{vs:List Value}(h:V.row a n=some vs)(hk:k<=n):V.row a k=some (vs.take k):=by
 grind [Mem.row]
theorem qJV{V:Mem}{p:Option Addr}{off n k:Nat}{vs:List Value}(h:V.rowp p off n=some vs)(hk:k<=n):V.rowp (qAa (qAa p off) 0) 0 k=some (vs.take k):=by
 cases p with
 | none=>cases h
 | some a =>
  have h0:((a.add off).add 0).add 0=a.add off:=by rfl
  show V.row (((a.add off).add 0).add 0) k=_
  rw[h0]
  exact row_take h hk
section
variable{V:Mem}{d:Ds}{m:Mm}
theorem qHc(d:Ds)(s:ByteArray):(qDx d s<0/\qAZ d s=false)∨(0<=qDx d s/\qAZ d s=true):=by
 grind [qDx,qAZ,qAI,Ty]
theorem c84(h:Ds.Ok V d){l:Sl}{xs:List Fld}(hr:qAc V l 2 (xs.map Fld.row)):PP 84 [d.v,l.v] V (.bool (qBE d xs)):=by
 refine x84 ?_
 unfold w84
 refine qAD (mk:=.bool) (b0:=false) xs.length (fun i V1=>V=V1/\qAX (fun f=>qBf d f.ty) xs i) ⟨rfl,qAX.zero _ _⟩ ?_
 rintro i b V1 J hi ⟨rfl,ha⟩ hJ
 refine⟨fun hlt=>?_,fun hge=>?_⟩
 ·obtain⟨x,hm,hx,hdr,hl,hp,hz,hrow⟩:=hr.get hlt
  have hq:=qAd (n:=i*2) hp
  have go:qBf d x.ty=true->IR ((i:Int)+1)/\J [.bool b,.int .i64 ((i:Int)+1)] V:=fun hk=>⟨hr.succ hlt,hJ hl _ _ ⟨rfl,ha.succ hx hk⟩⟩
  refine⟨hp,hz,hlt,hq,_,_,hrow,fun h1=>go (by grind [qBf,qAV]),fun h1=>⟨hp,hz,hlt,hq,_,_,hrow,fun h2=>go (by grind [qBf,qAt]),fun h2=>⟨hp,hz,hlt,hq,_,_,hrow,(c85 h).call ⟨_,rfl,fun h3=>?_,fun h3=>go ?_⟩⟩⟩⟩
  ·rcases qHc d x.ty with⟨-,k⟩|⟨k,-⟩
   ·have:qBf d x.ty=false:=by grind [qBf,qAV,qAt]
    unfold qBE
    grind
   grind [absurd,qDx]
  ·rcases qHc d x.ty with⟨k,-⟩|⟨-,k⟩
   ·grind [absurd,qDx]
   grind [qBf]
 ·unfold qBE
  rw[ha.all (hr.done hge).2];simp_all
theorem c46(h:Ds.Ok V d):PP 46 [d.v] V (.bool (qJz d)):=by
 refine x46 ?_
 unfold w46 qJz
 refine(c31 h).call ⟨_,rfl,fun hv=>(c84 h h.globals).call ⟨_,rfl,fun ht=>?_,fun ht=>?_⟩,fun hv=>?_⟩
 ·rw[hv,ht,Bool.true_and,Bool.true_and]
  refine qAD (mk:=.bool) (b0:=false) d.types.length (fun i V1=>V=V1/\AllI (fun i t=>decide (qDx d t.name=(i:Int))&&qBE d t.fields) d.types i) ⟨rfl,AllI.zero⟩ ?_
  rintro i b V1 J hi ⟨rfl,ha⟩ hJ
  refine⟨fun hlt=>?_,fun hge=>?_⟩
  ·obtain⟨x,hm,hx,hdr,hl,hp,hz,hrow⟩:=h.types.get hlt
   have hq:=qAd (n:=i*2) hp
   refine⟨hp,hz,hlt,hq,_,_,hrow,(c85 h).call ⟨_,rfl,fun h1=>⟨hp,hz,hlt,hq,_,_,hrow,(c84 h (h.typesOk x hm).fields).call ⟨_,rfl,fun h2=>⟨h.types.succ hlt,hJ hl _ _ ⟨rfl,ha.succ hx ?_⟩⟩,fun h2=>?_⟩⟩,fun h1=>?_⟩⟩
   ·grind [qDx]
   ·rw[qHk hx (by simp_all)];simp_all
   ·rw[qHk hx (by rw[Bool.and_eq_true,decide_eq_true_eq];exact fun k=>h1 k.1)];simp_all
  ·rw[ha.all (h.types.done hge).2];simp_all
 ·simp_all
 simp_all
theorem c47(h:Ds.Ok V d)(hm:Mm.Ok V m){s:ByteArray}{v:Int}:PP 47 [d.v,m.v,.string s,.int .i64 v] V (.bool (qAw d m s v)):=by
 refine x47 ?_
 unfold w47 qAw
 have hn:=hm.nodes.n_eq
 have fin:∀{a b:Bool},a=b->(Ending.returned (.bool a)=Ending.returned (.bool b)/\V=V):=fun e=>⟨by rw[e],rfl⟩
 refine⟨fun h1=>?_,fun h1=>⟨fun h2=>?_,fun h2=>?_⟩⟩
 ·grind [qAV]
 ·grind [qAV,qAt,inr]
 ·rw[if_neg (show ¬s=qAV from h1),if_neg (show ¬s=qAt from h2)]
  refine⟨fun h3=>fin (decide_eq_true (.inl h3)).symm,fun h3=>⟨fun h4=>⟨fun h5=>?_,fun h5=>fin ?_⟩,fun h4=>fin ?_⟩⟩
  ·obtain⟨i,rfl⟩:∃i:Nat,v=(i:Int)+1:=⟨(v-1).toNat,by omega⟩
   have e:((i:Int)+1-1)=(i:Int):=by omega
   have hv2:(i:Int)+1<=9223372036854775807:=by have:=(hm.nodes.succ (i:=i) (by omega)).2;omega
   rw[e]
   obtain⟨x,hxm,hx,hdr,hl,hp,hz,hrow⟩:=hm.nodes.get (i:=i) (by omega)
   have hq:=qAd (n:=i*2) hp
   refine⟨⟨by omega,by omega⟩,hp,by omega,by omega,hq,_,_,hrow,(c85 h).call ⟨_,rfl,?_,hq,hp,by omega,by omega,⟨by omega,by omega⟩,fin ?_⟩⟩
   ·exact qJV (k:=1) hrow (by decide)
   ·refine decide_eq_decide.2 ⟨fun k=>.inr ⟨h4,by omega,?_⟩,fun k=>?_⟩
    ·show Option.map (·.ty) (m.nodes[((i:Int)).toNat]?)=_
     rw[Int.toNat_natCast,hx];exact congrArg some k
    ·rcases k with k|⟨-,-,k⟩
     ·omega
     ·rw[show ((i:Int)).toNat=i from rfl,hx]at k
      exact Option.some.inj k
  ·grind
  grind
theorem qAS{t:Int}{x:Ty}{k:Nat}(hx:d.types[k]?=some x)(ht:t=(k:Int)):qAq d t=x.fields:=by
 grind [qAq]
theorem c15(h:Ds.Ok V d)(hm:Mm.Ok V m):PP 15 [d.v,m.v] V (.bool (qAu d m)):=by
 refine x15 ?_
 unfold w15
 have hn:=hm.nodes.n_eq
 have hg:=hm.globals.n_eq
 have hdg:=h.globals.n_eq
 have hdt:=h.types.n_eq
 have no:∀{V1:Mem},V=V1->¬qAu d m=true->(Ending.returned (.bool false)=Ending.returned (.bool (qAu d m))/\V1=V):=fun e k=>⟨by simp_all,e.symm⟩
 have parts:qAu d m=true↔qJz d=true/\m.nodes.length<=4096/\(∀n∈m.nodes,qDn d n=true)/\qAi d m d.globals m.globals=true/\∀n∈m.nodes,qAi d m (qAq d n.ty) n.f=true:=by
  grind [qAu]
 refine(c46 h).call ⟨_,rfl,fun ht=>⟨fun hl=>⟨fun hbig=>no rfl fun k=>?_,fun hbig=>?_⟩,fun hl=>no rfl fun k=>?_⟩,fun ht=>no rfl fun k=>ht (parts.1 k).1⟩
 ·grind
 ·let PA:Nd->Bool:=fun n=>qDn d n&&decide ((qAq d n.ty).length=n.f.length)
  refine qAD (mk:=.bool) (b0:=false) m.nodes.length (fun i V1=>V=V1/\qAX PA m.nodes i) ⟨rfl,qAX.zero _ _⟩ ?_
  rintro i b V1 J hi ⟨rfl,ha⟩ hJ
  refine⟨fun hlt=>?_,fun hge=>?_⟩
  ·obtain⟨x,hxm,hx,hdr,hll,hp,hz,hrow⟩:=hm.nodes.get hlt
   have hq:=qAd (n:=i*2) hp
   have hnx:=(hm.nodesOk x hxm).rows.n_eq
   refine⟨hp,hz,hlt,hq,_,_,hrow,fun h1=>no rfl fun k=>?_,fun h1=>⟨fun h2=>no rfl fun k=>?_,fun h2=>?_⟩⟩
   ·have:=(parts.1 k).2.2.1 x hxm
    exact absurd (of_decide_eq_true this).1 (by omega)
   ·have:=(parts.1 k).2.2.1 x hxm
    exact absurd (of_decide_eq_true this).2 (by omega)
   ·obtain⟨t,ht'⟩:∃t:Nat,x.ty=(t:Int):=⟨x.ty.toNat,by omega⟩
    obtain⟨y,hym,hy,-,-,hyp,hyz,hyrow⟩:=h.types.get (i:=t) (by omega)
    have hfn:=(h.typesOk y hym).fields.n_eq
    have hfo:=qAS hy ht'
    have h1':(0:Int)<=x.ty:=by omega
    rw[ht']at h1 h2 ⊢
    refine⟨hp,hz,hlt,hq,_,_,hrow,hyp,by omega,by omega,qAd hyp,_,_,hyrow,fun h3=>⟨hm.nodes.succ hlt,hJ hll _ _ ⟨rfl,ha.succ hx ?_⟩⟩,fun h3=>no rfl fun k=>?_⟩
    ·grind [qDn,qAq]
    grind [qAi]
  have hA:=ha.all (hm.nodes.done hge).2
  rw[List.all_eq_true]at hA
  clear hJ ha hge hi
  refine qAD (mk:=.bool) (b0:=b) m.globals.length (fun i V1=>V=V1/\AllI (fun i v=>qAw d m (tyAt d.globals i) v) m.globals i) ⟨rfl,AllI.zero⟩ ?_
  rintro i b1 V1 J hi ⟨rfl,ha⟩ hJ
  refine⟨fun hlt=>?_,fun hge=>?_⟩
  ·obtain⟨x,hxm,hx,hdr,hll,hp,hz,hrow⟩:=hm.globals.get hlt
   obtain⟨f,hfm,hf,-,-,hfp,hfz,hfrow⟩:=h.globals.get (i:=i) (by omega)
   have hty:tyAt d.globals i=f.ty:=by grind [tyAt]
   refine⟨hfp,hfz,by omega,qAd hfp,_,_,hfrow,hp,hz,hlt,_,hrow,(c47 h hm).call ⟨_,rfl,fun h1=>⟨hm.globals.succ hlt,hJ hll _ _ ⟨rfl,ha.succ hx (by grind)⟩⟩,fun h1=>no rfl fun k=>?_⟩⟩
   have:=(parts.1 k).2.2.2.1
   unfold qAi at this
   rw[Bool.and_eq_true]at this
   grind [qDq]
  have hG:=ha.all (hm.globals.done hge).2
  clear hJ ha hge hi
  refine qAD (mk:=.bool) (b0:=b1) m.nodes.length (fun i V1=>V=V1/\qAX (fun n=>qAi d m (qAq d n.ty) n.f) m.nodes i) ⟨rfl,qAX.zero _ _⟩ ?_
  rintro i b2 V1 J hi ⟨rfl,ha⟩ hJ
  refine⟨fun hlt=>?_,fun hge=>?_⟩
  ·obtain⟨x,hxm,hx,hdr,hll,hp,hz,hrow⟩:=hm.nodes.get hlt
   have hq:=qAd (n:=i*2) hp
   have hxo:=hm.nodesOk x hxm
   have hPx:=hA x hxm
   rw[Bool.and_eq_true,decide_eq_true_eq]at hPx
   obtain⟨hP1,hP2⟩:=hPx
   have hP1:=of_decide_eq_true hP1
   obtain⟨t,ht'⟩:∃t:Nat,x.ty=(t:Int):=⟨x.ty.toNat,by omega⟩
   obtain⟨y,hym,hy,-,-,hyp,hyz,hyrow⟩:=h.types.get (i:=t) (by omega)
   have hyo:=(h.typesOk y hym).fields
   have hfo:=qAS hy ht'
   refine⟨hp,hz,hlt,hq,_,_,hrow,hyp,by rw[ht'];omega,by rw[ht'];omega,qAd hyp,_,_,by rw[ht'];exact hyrow,?_⟩
   rw[hfo]at hP2
   have hxn:=hxo.rows.n_eq
   have hyn:=hyo.n_eq
   refine qAD (mk:=.bool) (b0:=b2) y.fields.length (fun j V1=>V=V1/\AllI (fun i v=>qAw d m (tyAt y.fields i) v) x.f j) ⟨rfl,AllI.zero⟩ ?_
   rintro j b3 V1 J1 hj ⟨rfl,ha1⟩ hJ1
   refine⟨fun hlt1=>?_,fun hge1=>⟨hm.nodes.succ hlt,hJ hll _ _ ⟨rfl,ha.succ hx ?_⟩⟩⟩
   ·obtain⟨f,hfm,hf,-,hfl,hfp,hfz,hfrow⟩:=hyo.get hlt1
    obtain⟨z,hzm,hzx,-,-,hzp,hzz,hzrow⟩:=hxo.rows.get (i:=j) (by omega)
    have hty:tyAt y.fields j=f.ty:=by grind [tyAt]
    refine⟨hfp,hfz,hlt1,qAd hfp,_,_,hfrow,hp,hz,hlt,hq,_,_,hrow,hzp,hzz,by omega,_,hzrow,(c47 h hm).call ⟨_,rfl,fun h1=>⟨hyo.succ hlt1,hJ1 hfl _ _ ⟨rfl,ha1.succ hzx (by grind)⟩⟩,fun h1=>no rfl fun k=>?_⟩⟩
    have:=(parts.1 k).2.2.2.2 x hxm
    unfold qAi at this
    rw[Bool.and_eq_true,hfo]at this
    grind [qDq]
   ·have:=(hyo.done hge1).2
    unfold qAi
    rw[hfo,ha1.all (by omega),decide_eq_true hP2];rfl
  ·have hN:=ha.all (hm.nodes.done hge).2
   rw[List.all_eq_true]at hN
   have:qAu d m=true:=parts.2 ⟨ht,by omega,fun n hn'=>(Bool.and_eq_true _ _ ▸ hA n hn').1,by grind [qAi],hN⟩
   simp_all
 grind [qAi]
end
end Go.Proofs
namespace Go.Proofs
open Go Go.Sx
inductive Rs where
 | ok (v:Int)
 | bad (e:Int)
deriving DecidableEq
def Rs.bind:Rs->(Int->Rs)->Rs
 | .ok v,f=>f v
 | .bad e,_=>.bad e
def big(n:Int):Rs:=if -1099511627776<=n/\n<=1099511627776 then .ok n else .bad 5
def trI(b:Bool):Int:=if b then 1 else 0
def qFr(op a b:Int):Rs :=
 if op=9 then big (a+b) else if op=10 then big (a-b) else if op=11 then big (a*b)
 else if op=22 then .ok (if a<b then b else a) else if op=23 then .ok (if b<a then b else a)
 else if op=14 then .ok (trI (decide (a=b))) else if op=15 then .ok (trI (!decide (a=b))) else if op=16 then .ok (trI (decide (a<b))) else if op=17 then .ok (trI (decide (a<=b)))
 else if b=0 then .bad 18 else if op=12 then .ok (a.tdiv b) else .ok (a.tmod b)
def qGK(l:List Fld)(s:ByteArray):Int:=qIa (fun f=>decide (f.name=s)) l
def mIdx(d:Ds)(s:ByteArray):Int:=qIa (fun x=>decide (x.name=s)) d.measures
def varV(d:Ds)(m:Mm)(x:Int)(s:ByteArray):Int:=if s=sThisF then x else (m.globals[(qGK d.globals s).toNat]?).getD 0
def fldV(d:Ds)(m:Mm)(a:Int)(s:ByteArray):Rs :=
 if a=0 then .bad 17 else match m.nodes[(a-1).toNat]? with
  | none=>.bad 0
  | some n=>.ok ((n.f[(qGK (qAq d n.ty) s).toNat]?).getD 0)
def logV(a:Int):Int:=(Nat.log2 a.toNat:Int)
def kidR(rs:List Rs)(i:Nat):Rs:=rs.getD i (.bad 0)
section
variable(d:Ds)(m:Mm)
def comb(F:Int->Int->Rs)(x op n:Int)(s:ByteArray)(rs:List Rs):Rs :=
 if op=1∨op=2 then .ok n else if op=3 then .ok 0 else if op=4 then .ok (varV d m x s)
 else if op=5 then (kidR rs 0).bind fun a=>fldV d m a s
 else if op=7 then (kidR rs 0).bind fun a=>F (mIdx d s) a
 else if op=8 then (kidR rs 0).bind fun a=>big (-a)
 else if op=18 then (kidR rs 0).bind fun a=>.ok (1-a)
 else if op=24 then (kidR rs 0).bind fun a=>.ok (logV a)
 else if op=19 then (kidR rs 0).bind fun a=>if a=0 then .ok 0 else kidR rs 1
 else if op=20 then (kidR rs 0).bind fun a=>if a=0 then kidR rs 1 else .ok 1
 else if op=21 then (kidR rs 0).bind fun a=>if a=0 then kidR rs 2 else kidR rs 1
 else (kidR rs 0).bind fun a=>(kidR rs 1).bind fun b=>qFr op a b
mutual
def evE(F:Int->Int->Rs)(x:Int):E->Rs
 | .mk op n s _ k=>comb d m F x op n s (evEs F x k)
def evEs(F:Int->Int->Rs)(x:Int):List E->List Rs
 | []=>[]
 | e::es=>evE F x e::evEs F x es
end
end
end Go.Proofs
