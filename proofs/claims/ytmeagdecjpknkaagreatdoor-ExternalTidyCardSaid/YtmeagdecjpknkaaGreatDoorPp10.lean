/- Part 10 of a proof of a law of this seat: no statement of the seat is proved here. -/
import Derived.Test.YtmeagdecjpknkaaGreatDoorPp09
set_option linter.unusedVariables false
set_option linter.unusedSimpArgs false
namespace Go.Proofs
open Go Go.Sx
attribute [local irreducible] Go.Sx.Tri
theorem ownF{V0 V:Mem}{s:Sl}{l:List Fld}(h:Own V0 V 101 2 s (l.flatMap Fld.row)):qAc V s 2 (l.map Fld.row):=h.rows (fun _=>rfl) (by decide)
theorem one_fld{V:Mem}{b:Nat}{f:Fld}{t:Nat}(h:V b=some (.cells #[.string f.name,.string f.ty] t (0,0))):qAc V ⟨some ⟨b,0,none⟩,1,1⟩ 2 ([f].map Fld.row) :=
 qAc.cells (xs:=[f]) (row:=Fld.row) h rfl (fun _=>rfl) rfl (by simp)
section
variable{V:Mem}{d:Ds}
def Small(d:Ds):Prop:=d.globals.length<=1000/\∀p∈d.procs,p.params.length<=1000/\p.locals.length<=1000
theorem refInProc(hd:Ds.Ok V d){p:Pr}(hp:Pr.Ok V p)(h1:d.globals.length<=1000)(h2:p.params.length<=1000/\p.locals.length<=1000) :
  Tri Tryz.prog 182 #[d.v,p.v] V fun r V'=>∃s':Sl,r=.returned (scV s' (qAn d p))/\V.sub V'/\qAc V' s' 2 ((qAn d p).vars.map Fld.row):=by
 refine x182 ?_
 unfold w182
 intro b hb
 have hs:=Mem.sub_new hb (.cells #[] 101 (0,0))
 refine qHO (s:=⟨some ⟨b,0,none⟩,0,0⟩) (u:=p.ps) (xs:=[]) (ys:=p.params) rfl rfl (Own.empty hs _ _ _) (hp.params.sub hs) (by grind) fun s1 V1 o1=>⟨s1,rfl,?_⟩
 refine qHO (s:=s1) (u:=p.ls) (xs:=p.params) (ys:=p.locals) rfl rfl o1 (hp.locals.sub o1.sub) (by omega) fun s2 V2 o2=>⟨s2,rfl,?_⟩
 refine qHO (s:=s2) (u:=d.gs) (xs:=p.params++p.locals) (ys:=d.globals) rfl rfl o2 (hd.globals.sub o2.sub) (by grind) fun s3 V3 o3=>⟨s3,rfl,?_⟩
 exact⟨s3,rfl,o3.sub,ownF o3⟩
theorem refInBound(hd:Ds.Ok V d){p:Pr}(hp:Pr.Ok V p)(h1:d.globals.length<=1000)(h2:p.params.length<=1000/\p.locals.length<=1000) :
  Tri Tryz.prog 157 #[d.v,p.v] V fun r V'=>∃s':Sl,r=.returned (scV s' (qBw d p))/\V.sub V'/\qAc V' s' 2 ((qBw d p).vars.map Fld.row):=by
 refine x157 ?_
 unfold w157
 intro b hb
 have hs:=Mem.sub_new hb (.cells #[] 101 (0,0))
 refine qHO (s:=⟨some ⟨b,0,none⟩,0,0⟩) (u:=p.ps) (xs:=[]) (ys:=p.params) rfl rfl (Own.empty hs _ _ _) (hp.params.sub hs) (by grind) fun s1 V1 o1=>⟨s1,rfl,?_⟩
 refine qHO (s:=s1) (u:=d.gs) (xs:=p.params) (ys:=d.globals) rfl rfl o1 (hd.globals.sub o1.sub) (by omega) fun s3 V3 o3=>⟨s3,rfl,?_⟩
 exact⟨s3,rfl,o3.sub,ownF o3⟩
theorem qEz(hd:Ds.Ok V d){t:ByteArray}(h1:d.globals.length<=1000) :
  Tri Tryz.prog 156 #[d.v,.string t] V fun r V'=>∃s':Sl,r=.returned (scV s' (qAx d t))/\V.sub V'/\qAc V' s' 2 ((qAx d t).vars.map Fld.row):=by
 refine x156 ?_
 unfold w156
 refine⟨fun he=>?_,fun he=>?_⟩
 ·refine qHO (s:=⟨none,0,0⟩) (u:=d.gs) (xs:=[]) (ys:=d.globals) rfl rfl (Own.nil (Mem.sub.refl V) _ _) hd.globals (by grind) fun s1 V1 o1=>⟨s1,rfl,?_⟩
  refine⟨s1,rfl,o1.sub,?_⟩
  unfold qAx sE
  rw[if_pos he]
  exact ownF o1
 ·intro b hb
  have hs:=Mem.sub_new hb (.cells #[.string (qAm [116,104,105,115]),.string t] 101 (0,0))
  refine qHO (s:=⟨none,0,0⟩) (u:=⟨some ⟨b,0,none⟩,1,1⟩) (xs:=[]) (ys:=[⟨sThisF,t⟩]) rfl rfl (Own.nil hs _ _) (one_fld mss) (by simp) fun s1 V1 o1=>⟨s1,rfl,?_⟩
  refine qHO (s:=s1) (u:=d.gs) (xs:=[⟨sThisF,t⟩]) (ys:=d.globals) rfl rfl o1 (hd.globals.sub o1.sub) (by grind) fun s2 V2 o2=>⟨s2,rfl,?_⟩
  refine⟨s2,rfl,o2.sub,?_⟩
  unfold qAx sE
  rw[if_neg he]
  exact ownF o2
theorem qIw{op:Int}{s:ByteArray}{es:List E}{nl nx:Int}(h:qBI op s es nl nx=true):(op=6->∃e0,es=[e0]/\e0.op=7)/\(op=1∨op=3∨op=4->es.length=1)/\(op=2->es.length=2)/\(op=5->es.length<=1)/\es.length<=2/\(∀x∈es,okE 1 x=true):=by
 unfold qBI at h
 rw[Bool.and_eq_true]at h
 obtain⟨h,hv⟩:=h
 have hall:∀x∈es,okE 1 x=true:=fun x hx=>by
  grind [qAJ]
 unfold qGe at h
 have h6:op=6->∃e0,es=[e0]/\e0.op=7:=fun h6=>by
  subst h6
  simp only[show ¬((6:Int)=1) by decide,show ¬((6:Int)=2) by decide,show ¬((6:Int)=3) by decide,show ¬((6:Int)=4) by decide,show ¬((6:Int)=5) by decide,if_false,if_true,decide_eq_true_eq]at h
  match es,h with
  | [e0],h=>exact⟨e0,rfl,h.2.2.1⟩
  | [],h=>simp at h
  | _::_::_,h=>simp at h;omega
 grind
theorem c154(hd:Ds.Ok V d){p:Pr}(hp:Pr.Ok V p)(h1:d.globals.length<=1000)(h2:p.params.length<=1000/\p.locals.length<=1000){x:S}(hx:S.Ok V x)(hs:qBI x.op x.s x.es x.ls.length x.xs.length=true) :
  PP 154 [d.v,p.v,x.v] V (.int .i64 (qEw d (qAn d p) p.result x.op x.s x.es)):=by
 obtain⟨a6,a134,a2,a5,alen,aok⟩:=qIw hs
 rw[S.v_eq]
 refine Pur.mk (x154 ?_)
 unfold w154
 refine Tri.mono (refInProc hd hp h1 h2) ?_
 rintro _ V1 ⟨sv,rfl,hV1,hsc⟩
 generalize hscE:qAn d p=sc at hsc
 have hbody:sc.body=true:=by rw[<- hscE];rfl
 have hd1:=hd.sub hV1
 have hf:=qGy (hx.sub hV1)
 refine⟨sv,sc.body,rfl,fun o6=>?_,fun o6=>?_⟩
 ·obtain⟨e0,he0,-⟩:=a6 o6
  rcases hf with⟨h,-⟩|⟨e0',r,he,hn,hp0,hp2,hrow⟩
  ·simp_all
  ·rw[he0]at he
   cases he
   have hok:=aok e0 (by rw[he0];simp)
   have hoe:=(hx.sub hV1).eOk e0 (by rw[he0];simp)
   have hk:∀y∈e0.k,RefE V1 d sv sc y:=fun y hy=>refExpr hd1 hsc y (hoe.kids y hy) 2 (qHY hok y hy)
   refine⟨hp0,by omega,by omega,_,_,_,_,hrow,Tri.mono (refParts e0 hoe (arity (qGm hok)).2.2.2 hk) ?_⟩
   rintro _ V2 ⟨s',rfl,h12,hrows⟩
   unfold qEw
   rw[if_pos o6,he0]
   simp only
   generalize hPT:partsT d sc [] e0.k=pt at hrows
   obtain⟨l,f⟩:=pt
   have hrow2:=h12.rowp hrow
   refine⟨s',f,rfl,fun h0=>⟨hp0,by omega,by omega,hp2,_,_,_,_,hrow2,(c184 (hd1.sub h12) hrows).call ⟨_,_,rfl,?_,hV1.trans h12⟩⟩,fun h0=>?_⟩
   ·simp_all
   ·simp only[h0,ne_eq,not_false_eq_true,if_true];exact⟨by trivial,hV1.trans h12⟩
 ·unfold qEw
  rw[if_neg o6]
  have hr:=(hx.sub hV1).eRows
  refine qHv (mk:=.int .i64) (mc:=fun s:Sl=>.slice s.p s.n s.c) 0 ⟨none,0,0⟩ qBc x.es.length (fun i s V2=>∃acc,Own V1 V2 9 1 s (acc.flatMap qBe)/\partsT d sc [] x.es=partsT d sc acc (x.es.drop i)/\acc.length=i) ⟨[],Own.nil (Mem.sub.refl _) _ _,rfl,rfl⟩ ?_
  rintro i b s V2 J hi ⟨acc,hown,hpt,hlen'⟩ hJ
  have hr1:=hr.sub hown.sub
  refine⟨fun hlt=>?_,fun hge=>?_⟩
  ·obtain⟨y,hm,hxy,hdr,hl,hpp,hz,hrow⟩:=hr1.get hlt
   rw[hdr,qCa]at hpt
   refine⟨hpp,hz,hlt,_,_,_,_,hrow,(refExpr hd1 hsc y ((hx.sub hV1).eOk y hm) 1 (aok y hm) V2 hown.sub).call ⟨_,_,rfl,fun h0=>?_,fun h0=>?_⟩⟩
   ·intro b1 hb1
    rw[if_neg (fun h=>h h0)]at hpt
    refine app220 (s:=s) (u:=⟨some ⟨b1,0,none⟩,1,1⟩) (xs:=acc) (ys:=[(qAr d sc y).1]) rfl rfl (hown.new hb1 _) (qIL mss) (by grind) fun s' V' ho=>⟨s',rfl,hr1.succ hlt,hJ hl _ _ _ ⟨_,ho,hpt,by simp[hlen']⟩⟩
   ·rw[if_pos h0]at hpt
    rw[hpt]
    simp only[h0,ne_eq,not_false_eq_true,if_true]
    exact⟨by trivial,hV1.trans hown.sub⟩
  ·have hge':=(hr1.done hge).2
   rw[(hr1.done hge).1,qCN]at hpt
   rw[hpt]
   simp only[ne_eq,not_true_eq_false,if_false]
   have hrows:=ownS hown
   have hal:acc.length=x.es.length:=by omega
   have hsub:=hV1.trans hown.sub
   have hd2:=hd1.sub hown.sub
   have hsc2:=hsc.sub hown.sub
   have sln:=hrows.n_eq
   have at0:=fun h:0<acc.length=>qEm hrows h
   have at1:=fun h:1<acc.length=>qEm hrows h
   have key:∀X n:Int,X=n->(Ending.returned (.int .i64 n)=Ending.returned (.int .i64 X)/\V.sub V2):=fun X n h=>by simp_all
   refine⟨fun o1=>(c186 hsc2).call ⟨_,rfl,fun hl=>key _ _ ?_,fun hl=>?_⟩,fun o1=>⟨fun o2=>?_,fun o2=>⟨fun o3=>?_,fun o3=>⟨fun o4=>?_,fun o4=>⟨fun o5=>?_,fun o5=>key _ _ ?_⟩⟩⟩⟩⟩
   ·grind [qBS,sE]
   ·obtain⟨b1,b2,b3⟩:=at0 (by omega)
    refine⟨b1,by omega,b2,_,b3,(c187 hd2).call ⟨_,rfl,fun hb=>key _ _ ?_,fun hb=>key _ _ ?_⟩⟩
    ·grind [qBS,sE]
    grind [qBS,sE]
   ·obtain⟨b1,b2,b3⟩:=at0 (by omega)
    obtain⟨c1,c2,c3⟩:=at1 (by omega)
    rw[if_neg o1,if_pos o2]
    refine⟨b1,by omega,b2,_,b3,(c188 hd2).call ⟨_,_,rfl,fun hb=>⟨c1,by omega,c2,_,c3,(c187 hd2).call ⟨_,rfl,fun hc=>key _ _ ?_,fun hc=>key _ _ ?_⟩⟩,fun hb=>key _ _ ?_⟩⟩
    ·simp_all
    ·simp_all
    omega
   ·grind [qAt]
   ·grind [qAt]
   ·have h5:=a5 o5
    rw[if_neg o1,if_neg o2,if_neg (by omega),if_pos o5]
    have rest:¬(acc.length=0)->((s.n:Int)=1)/\¬(s.p=none)/\(0:Int)<(s.n:Int)/\V2.rowp s.p 0 1=some [.string (acc.getD 0 sE)]:=fun h=>by
     grind
    refine⟨fun hn=>?_,fun hn=>?_⟩
    ·grind [sE,absurd]
    ·have h0:¬acc.length=0:=by omega
     obtain⟨r1,r2,r3,r4⟩:=rest h0
     rw[if_neg h0]
     refine⟨fun _=>⟨fun he=>key _ _ (by grind [sE]),fun he=>⟨r2,by omega,r3,_,r4,(c187 hd2).call ⟨_,rfl,fun hb=>key _ _ ?_,fun hb=>key _ _ ?_⟩⟩⟩,fun h=>absurd r1 h⟩
     ·grind [sE]
     simp_all
   omega
end
theorem okS_shape{d:Int}{x:S}(h:okS d x=true):qBI x.op x.s x.es x.ls.length x.xs.length=true/\qGJ (d+1) x.ls=true/\qGJ (d+1) x.xs=true:=by
 cases x
 unfold okS at h
 rw[Bool.and_eq_true,Bool.and_eq_true,Bool.and_eq_true]at h
 exact⟨h.1.1.2,h.1.2,h.2⟩
theorem qKY{d:Int}:∀{l:List S},qGJ d l=true->∀x∈l,okS d x=true
 | [],_,x,hx=>absurd hx List.not_mem_nil
 | y::l,h,x,hx=>by
  unfold qGJ at h
  rw[Bool.and_eq_true]at h
  rcases List.mem_cons.1 hx with rfl|hx
  ·exact h.1
  ·exact qKY h.2 x hx
theorem szS_eq(x:S):szS x=1+qFZ x.ls+qFZ x.xs:=by cases x;unfold szS;rfl
theorem qIr(x:S)(l:List S):qFZ (x::l)=szS x+qFZ l:=by rw[qFZ]
mutual
theorem stT_n(d:Ds)(sc:Sc)(result:ByteArray)(n:Int):∀x:S,(stT d sc result n x).2=0->(stT d sc result n x).1=n+szS x
 | .mk op s _ es _ ls _ xs=>by
  have h1:=qIt d sc result (n+1) ls
  have h2:=qIt d sc result (qBH d sc result (n+1) ls).1 xs
  grind [stT,szS,absurd]
theorem qIt(d:Ds)(sc:Sc)(result:ByteArray)(n:Int):∀l:List S,(qBH d sc result n l).2=0->(qBH d sc result n l).1=n+qFZ l
 | []=>by simp[qBH,qFZ]
 | x::xs=>by
  have h1:=stT_n d sc result n x
  have h2:=qIt d sc result (stT d sc result n x).1 xs
  rw[qGb,qIr]
  grind
end
theorem qAg{α β:Type}{f:Nat->α->Option β}{i:Nat}{x:α}{xs:List α}{b:β}(h:f i x=some b):qAh f i (x::xs)=some b:=by unfold qAh;rw[h]
theorem qAl{α β:Type}{f:Nat->α->Option β}{i:Nat}{x:α}{xs:List α}(h:f i x=none):qAh f i (x::xs)=qAh f (i+1) xs:=by rw[qAh,h]
section
variable{V:Mem}{d:Ds}
def RefS(V:Mem)(d:Ds)(p:Pr)(l:List S):Prop:=∀(sl:Sl) (n dd:Int),qAc V sl 5 (l.map S.row)->(∀x∈l,S.Ok V x)->qGJ dd l=true->0<=n->n+qFZ l<=1000 ->
 PP 111 [d.v,p.v,sl.v,.int .i64 n] V (.tuple #[.int .i64 (qBH d (qAn d p) p.result n l).1,.int .i64 (qBH d (qAn d p) p.result n l).2])
theorem refStep(hd:Ds.Ok V d){p:Pr}(hp:Pr.Ok V p)(h1:d.globals.length<=1000)(h2:p.params.length<=1000/\p.locals.length<=1000){l:List S}(hk:∀x∈l,RefS V d p x.ls/\RefS V d p x.xs):RefS V d p l:=by
 intro sl n dd hr hok hokS hn0 hn1
 refine x111 ?_
 unfold w111
 generalize hsc:qAn d p=sc
 refine loop4s (mk:=.int .i64) (mc:=.int .i64) (md:=.int .i64) 0 0 n qEf l.length (fun i at_ V1=>V=V1/\0<=at_/\at_+qFZ (l.drop i)<=1000/\qBH d sc p.result n l=qBH d sc p.result at_ (l.drop i)) ⟨rfl,hn0,hn1,rfl⟩ ?_
 rintro i b c a V1 J hi ⟨rfl,ha0,ha1,he⟩ hJ
 refine⟨fun hlt=>?_,fun hge=>?_⟩
 ·obtain⟨x,hm,hx,hdr,hl,hpp,hz,hrow⟩:=hr.get hlt
  have hrow:=S.row_get hrow
  have hox:=hok x hm
  obtain⟨hsh,hk1,hk2⟩:=okS_shape (qKY hokS x hm)
  rw[hdr,qIr,szS_eq]at ha1
  rw[hdr,qGb,stT_eq]at he
  have cs:=c154 hd hp h1 h2 hox hsh
  rw[hsc,S.v_eq]at cs
  refine⟨hpp,hz,hlt,_,_,_,_,_,hrow,cs.call ⟨_,rfl,fun h0=>?_,fun h0=>?_⟩⟩
  ·have e1:¬(qEw d sc p.result x.op x.s x.es≠0):=fun h=>h h0
   rw[if_neg e1]at he
   have r1:=(hk x hm).1 x.ll (a+1) (dd+1) hox.lRows hox.lOk hk1 (by omega) (by omega)
   rw[hsc]at r1
   refine⟨hpp,hz,hlt,qAd hpp,_,_,_,_,_,hrow,⟨by omega,by omega⟩,r1.call ⟨_,_,rfl,fun h3=>?_,fun h3=>?_⟩⟩
   ·have e2:¬((qBH d sc p.result (a+1) x.ls).2≠0):=fun h=>h h3
    rw[if_neg e2]at he
    have hn:=qIt d sc p.result (a+1) x.ls h3
    have r2:=(hk x hm).2 x.xl (qBH d sc p.result (a+1) x.ls).1 (dd+1) hox.xRows hox.xOk hk2 (by omega) (by omega)
    rw[hsc]at r2
    refine⟨hpp,hz,hlt,qAd hpp,_,_,_,_,_,hrow,r2.call ⟨_,_,rfl,fun h4=>?_,fun h4=>?_⟩⟩
    ·rw[if_neg (fun h=>h h4)]at he
     have hn2:=qIt d sc p.result _ x.xs h4
     exact⟨hr.succ hlt,hJ hl _ _ _ _ ⟨rfl,by omega,by omega,he⟩⟩
    simp_all
   simp_all
  simp_all
 ·rw[(hr.done hge).1,stsT_nil]at he
  simp_all
theorem refStmts(hd:Ds.Ok V d){p:Pr}(hp:Pr.Ok V p)(h1:d.globals.length<=1000)(h2:p.params.length<=1000/\p.locals.length<=1000)(l:List S):RefS V d p l:=by
 have hS:∀s:S,RefS V d p s.ls/\RefS V d p s.xs:=by
  intro s
  induction s using S.ind with
  | h s i1 i2=>grind [refStep]
 grind [refStep]
theorem c150(hd:Ds.Ok V d){l:Sl}{xs:List Fld}(hl:qAc V l 2 (xs.map Fld.row)){i:Nat}{f:Fld}(hf:xs[i]?=some f):PP 150 [d.v,l.v,.int .i64 i] V (.int .i64 (qEq d xs i f)):=by
 refine x150 ?_
 unfold w150
 have hn:=hl.n_eq
 have hil:=(List.getElem?_eq_some_iff.1 hf).1
 have hlt:(i:Int)<(l.n:Int):=by omega
 obtain⟨f',hm,hx,hdr,-,hpp,hz,hrow⟩:=hl.get hlt
 rw[hf]at hx
 cases hx
 refine qAD i (fun k V1=>V=V1/\∀j g,j<k->xs[j]?=some g->¬(g.name=f.name)) ⟨rfl,fun _ _ h=>absurd h (Nat.not_lt_zero _)⟩ ?_
 rintro k b V1 J hi ⟨rfl,ha⟩ hJ
 refine⟨fun hk=>?_,fun hk=>?_⟩
 ·obtain⟨g,hmg,hxg,hdg,hlg,hpg,hzg,hrowg⟩:=hl.get (i:=k) (by omega)
  refine⟨hpg,hzg,by omega,qAd hpg,_,_,hrowg,hpp,hz,hlt,qAd hpp,_,_,hrow,fun he=>?_,fun he=>⟨hl.succ (by omega),hJ (by omega) _ _ ⟨rfl,fun j y hj hy=>?_⟩⟩⟩
  ·have:(xs.take i).any (fun g=>decide (g.name=f.name))=true:=List.any_eq_true.2 ⟨g,by
    grind [List.mem_take_iff_getElem,List.getElem?_eq_some_iff],decide_eq_true he⟩
   unfold qEq
   rw[if_pos this];exact⟨rfl,rfl⟩
  grind
 ·have:¬(xs.take i).any (fun g=>decide (g.name=f.name))=true:=fun h=>by
   obtain⟨g,hg,he⟩:=List.any_eq_true.1 h
   rw[List.mem_take_iff_getElem]at hg
   grind
  unfold qEq
  rw[if_neg this]
  refine⟨hpp,hz,hlt,qAd hpp,_,_,hrow,(c151 hd).call ⟨_,rfl,fun h=>?_,fun h=>?_⟩⟩
  ·simp_all
  simp_all
theorem c149(hd:Ds.Ok V d){l:Sl}{xs:List Fld}(hl:qAc V l 2 (xs.map Fld.row)):PP 149 [d.v,l.v] V (.int .i64 (qCm d xs)):=by
 refine x149 ?_
 unfold w149 qCm
 generalize hf:(fun i f=>if qEq d xs i f≠0 then some (qEq d xs i f) else none)=fn
 refine qAD xs.length (fun k V1=>V=V1/\qAh fn 0 xs=qAh fn k (xs.drop k)) ⟨rfl,rfl⟩ ?_
 rintro k b V1 J hi ⟨rfl,ha⟩ hJ
 refine⟨fun hk=>?_,fun hk=>?_⟩
 ·obtain⟨g,hmg,hxg,hdg,hlg,hpg,hzg,hrowg⟩:=hl.get hk
  rw[hdg]at ha
  refine(c150 hd hl hxg).call ⟨_,rfl,fun h=>?_,fun h=>?_⟩
  ·rw[qAl (by grind)]at ha
   exact⟨hl.succ hk,hJ hlg _ _ ⟨rfl,ha⟩⟩
  ·rw[qAg (b:=qEq d xs k g) (by grind)]at ha
   simp_all
 ·rw[(hl.done hk).1,qAh]at ha
  simp_all
theorem c155(hd:Ds.Ok V d){sl:Sl}{sc:Sc}(hsl:qAc V sl 2 (sc.vars.map Fld.row)){e:E}(he:E.Ok V e)(hok:okE 1 e=true){t:ByteArray}:PP 155 [d.v,scV sl sc,e.v,.string t] V (.int .i64 (qBp d sc e t)):=by
 refine x155 ?_
 unfold w155 qBp
 refine(refExpr hd hsl e he 1 hok V (Mem.sub.refl _)).call ⟨_,_,rfl,fun h=>⟨fun h1=>?_,fun h1=>?_⟩,fun h=>?_⟩
 ·simp_all
 ·simp_all
 simp_all
def qBB(s:ByteArray):Bool:=decide (s=qAV)||decide (s=qAt)
end
theorem idx_lt{α:Type}{p:α->Bool}{xs:List α}{i:Nat}{x:α}(hx:xs[i]?=some x)(hp:p x=true):(qIa p xs<(i:Int)↔(xs.take i).any p=true)/\0<=qIa p xs:=by
 rcases qAI p xs with⟨h1,h2,h3⟩|⟨j,y,h1,h2,h3,h4,h5,h6,h7,h8⟩
 ·grind
 grind [List.any_eq_true,List.mem_take_iff_getElem,List.getElem?_eq_some_iff,Nat.lt_or_ge,List.any_eq_false]
section
variable{V:Mem}{d:Ds}
def f2(o:Option Flt):Value:=.tuple #[.string (fltR o).1,.int .i64 (fltR o).2.2]
theorem c108(hd:Ds.Ok V d):PP 108 [d.v] V (f2 (qFq d)):=by
 refine x108 ?_
 unfold w108 qFq
 have key:∀{X:Option Flt} (s:ByteArray) (n:Int),X=some (s,-1,n)->(Ending.returned (.tuple #[.string s,.int .i64 n])=Ending.returned (f2 X)/\V=V):=fun s n h=>by rw[h];exact⟨rfl,rfl⟩
 unfold types1
 generalize hf1:(fun i (t:Ty)=>if (d.types.take i).any (fun g=>decide (g.name=t.name))=true then some ((t.name,-1,10):Flt) else none)=F1
 refine qEb d.types.length (fun k V1=>V=V1/\qAh F1 0 d.types=qAh F1 k (d.types.drop k)) ⟨rfl,rfl⟩ ?_
 rintro k b c V1 J hi ⟨rfl,ha⟩ hJ
 refine⟨fun hk=>?_,fun hk=>?_⟩
 ·obtain⟨g,hm,hx,hdr,hl,hp,hz,hrow⟩:=hd.types.get hk
  have hlt:=(idx_lt (p:=fun t:Ty=>decide (t.name=g.name)) hx (by simp)).1
  rw[hdr]at ha
  refine⟨hp,hz,hk,qAd hp,_,_,hrow,(c85 hd).call ⟨_,rfl,fun h=>⟨hp,hz,hk,qAd hp,_,_,hrow,key _ _ ?_⟩,fun h=>⟨hd.types.succ hk,hJ hl _ _ _ ⟨rfl,?_⟩⟩⟩⟩
  ·rw[ha,qAg (b:=(g.name,-1,10)) (by grind)];rfl
  ·rw[ha,qAl (by grind)]
 rw[(hd.types.done hk).1,qAh]at ha
 rw[ha,Option.none_or]
 unfold types2
 generalize hf2:(fun(_:Nat) (t:Ty)=>if qCm d t.fields≠0 then some ((t.name,-1,qCm d t.fields):Flt) else none)=F2
 refine qEb d.types.length (fun k V1=>V=V1/\qAh F2 0 d.types=qAh F2 k (d.types.drop k)) ⟨rfl,rfl⟩ ?_
 rintro k b c V1 J hi ⟨rfl,ha⟩ hJ
 refine⟨fun hk=>?_,fun hk=>?_⟩
 ·obtain⟨g,hm,hx,hdr,hl,hp,hz,hrow⟩:=hd.types.get hk
  rw[hdr]at ha
  refine⟨hp,hz,hk,qAd hp,_,_,hrow,(c149 hd (hd.typesOk g hm).fields).call ⟨_,rfl,fun h=>⟨hd.types.succ hk,hJ hl _ _ _ ⟨rfl,?_⟩⟩,fun h=>⟨hp,hz,hk,qAd hp,_,_,hrow,key _ _ ?_⟩⟩⟩
  ·rw[ha,qAl (by grind)]
  ·rw[ha,qAg (b:=(g.name,-1,qCm d g.fields)) (by grind)];rfl
 rw[(hd.types.done hk).1,qAh]at ha
 rw[ha,Option.none_or]
 unfold types3
 generalize hf3:(fun i (f:Fld)=>if qEq d d.globals i f≠0 then some ((f.name,-1,qEq d d.globals i f):Flt) else none)=F3
 refine qEb d.globals.length (fun k V1=>V=V1/\qAh F3 0 d.globals=qAh F3 k (d.globals.drop k)) ⟨rfl,rfl⟩ ?_
 rintro k b c V1 J hi ⟨rfl,ha⟩ hJ
 refine⟨fun hk=>?_,fun hk=>?_⟩
 ·obtain⟨g,hm,hx,hdr,hl,hp,hz,hrow⟩:=hd.globals.get hk
  rw[hdr]at ha
  refine(c150 hd hd.globals hx).call ⟨_,rfl,fun h=>⟨hd.globals.succ hk,hJ hl _ _ _ ⟨rfl,?_⟩⟩,fun h=>⟨hp,hz,hk,qAd hp,_,_,hrow,key _ _ ?_⟩⟩
  ·rw[ha,qAl (by grind)]
  ·rw[ha,qAg (b:=(g.name,-1,qEq d d.globals k g)) (by grind)]
 rw[(hd.globals.done hk).1,qAh]at ha
 rw[ha]
 exact⟨rfl,rfl⟩
theorem c109(hd:Ds.Ok V d)(hsm:Small d):PP 109 [d.v] V (f2 (qEp d)):=by
 refine Pur.mk (x109 ?_)
 unfold w109 qEp
 generalize hf1:(fun i (p:Pr)=>if (d.procs.take i).any (fun g=>decide (g.name=p.name))=true then some ((p.name,-1,10):Flt) else if qCm d (p.params++p.locals)≠0 then some (p.name,-1,qCm d (p.params++p.locals)) else if p.result≠sE/\qBf d p.result=false then some (p.name,-1,9) else none)=F1
 refine qEb d.procs.length (fun k V1=>V.sub V1/\qAh F1 0 d.procs=qAh F1 k (d.procs.drop k)) ⟨Mem.sub.refl _,rfl⟩ ?_
 rintro k b c V1 J hi ⟨hV,ha⟩ hJ
 have hd1:=hd.sub hV
 have key:∀{X:Option Flt} (V2:Mem) (s:ByteArray) (n:Int),V.sub V2->X=some (s,-1,n)->(Ending.returned (.tuple #[.string s,.int .i64 n])=Ending.returned (f2 X)/\V.sub V2):=fun V2 s n h2 h=>by rw[h];exact⟨rfl,h2⟩
 refine⟨fun hk=>?_,fun hk=>?_⟩
 ·obtain⟨g,hm,hx,hdr,hl,hp,hz,hrow⟩:=hd1.procs.get hk
  have hlt:=(idx_lt (p:=fun t:Pr=>decide (t.name=g.name)) hx (by simp)).1
  have hg:=hd1.procsOk g hm
  have hs:=hsm.2 g hm
  rw[hdr]at ha
  refine⟨hp,hz,hk,_,_,_,_,_,hrow,(c136 hd1).call ⟨_,rfl,fun h=>key _ _ _ hV ?_,fun h=>?_⟩⟩
  ·rw[ha,qAg (b:=(g.name,-1,10)) (by grind)]
  intro b1 hb1
  have hs1:=Mem.sub_new hb1 (.cells #[] 101 (0,0))
  refine qHO (s:=⟨some ⟨b1,0,none⟩,0,0⟩) (u:=g.ps) (xs:=[]) (ys:=g.params) rfl rfl (Own.empty hs1 _ _ _) (hg.params.sub hs1) (by simp;omega) fun s1 W1 o1=>⟨s1,rfl,?_⟩
  refine qHO (s:=s1) (u:=g.ls) (xs:=g.params) (ys:=g.locals) rfl rfl o1 (hg.locals.sub o1.sub) (by omega) fun s2 W2 o2=>⟨s2,rfl,?_⟩
  have hd2:=hd1.sub o2.sub
  have hV2:=hV.trans o2.sub
  have n1:¬(d.procs.take k).any (fun t=>decide (t.name=g.name))=true:=fun e=>h (hlt.2 e)
  refine(c149 hd2 (ownF o2)).call ⟨_,rfl,fun h2=>?_,fun h2=>key _ _ _ hV2 ?_⟩
  ·have n2:¬(qCm d (g.params++g.locals)≠0):=fun e=>e h2
   refine⟨fun h3=>⟨hd1.procs.succ hk,hJ hl _ _ _ ⟨hV2,?_⟩⟩,fun h3=>(c151 hd2).call ⟨_,rfl,fun h4=>⟨hd1.procs.succ hk,hJ hl _ _ _ ⟨hV2,?_⟩⟩,fun h4=>key _ _ _ hV2 ?_⟩⟩
   ·rw[ha,qAl (by rw[<- hf1];exact(if_neg n1).trans ((if_neg n2).trans (if_neg fun e=>e.1 h3)))]
   ·rw[ha,qAl (by grind)]
   ·rw[ha,qAg (b:=(g.name,-1,9)) (by rw[<- hf1];exact(if_neg n1).trans ((if_neg n2).trans (if_pos ⟨h3,eq_false_of_ne_true h4⟩)))]
  ·rw[ha,qAg (b:=(g.name,-1,qCm d (g.params++g.locals))) (by grind)]
 ·rw[(hd1.procs.done hk).1,qAh]at ha
  rw[ha]
  exact⟨rfl,hV⟩
end
theorem qGD{α:Type}{p:α->Bool}{xs:List α}{i k:Nat}{g:α}(hx:xs[k]?=some g)(hk:k<i)(hp:p g=true):(xs.take i).any p=true :=
 List.any_eq_true.2 ⟨g,by grind [List.mem_take_iff_getElem,List.getElem?_eq_some_iff],hp⟩
theorem qGE{α:Type}{p:α->Bool}{xs:List α}{i:Nat}(h:∀j g,j<i->xs[j]?=some g->¬p g=true):¬(xs.take i).any p=true:=fun hh=>by
 obtain⟨g,hg,he⟩:=List.any_eq_true.1 hh
 rw[List.mem_take_iff_getElem]at hg
 obtain⟨j,hj,e⟩:=hg
 exact h j g (by omega) (by grind) he
section
variable{V:Mem}{d:Ds}
theorem c110(hd:Ds.Ok V d):PP 110 [d.v] V (f2 (qEs d)):=by
 refine x110 ?_
 unfold w110 qEs
 have key:∀{X:Option Flt} (s:ByteArray) (n:Int),X=some (s,-1,n)->(Ending.returned (.tuple #[.string s,.int .i64 n])=Ending.returned (f2 X)/\V=V):=fun s n h=>by rw[h];exact⟨rfl,rfl⟩
 unfold form1
 generalize hf1:(fun i (m:Ms)=>if (d.measures.take i).any (fun g=>decide (g.name=m.name))=true then some ((m.name,-1,10):Flt) else if qAZ d m.ty=false then some (m.name,-1,9) else none)=F1
 refine qEb d.measures.length (fun k V1=>V=V1/\qAh F1 0 d.measures=qAh F1 k (d.measures.drop k)) ⟨rfl,rfl⟩ ?_
 rintro k b c V1 J hi ⟨rfl,ha⟩ hJ
 refine⟨fun hk=>?_,fun hk=>?_⟩
 ·obtain⟨g,hm,hx,hdr,hl,hp,hz,hrow⟩:=hd.measures.get hk
  have hlt:=(idx_lt (p:=fun t:Ms=>decide (t.name=g.name)) hx (by simp)).1
  rw[hdr]at ha
  have hq:=qAd (n:=k*7) hp
  refine⟨hp,hz,hk,hq,_,_,_,_,_,_,_,hrow,(c152 hd).call ⟨_,rfl,fun h=>⟨hp,hz,hk,hq,_,_,_,_,_,_,_,hrow,key _ _ ?_⟩,fun h=>⟨hp,hz,hk,hq,_,_,_,_,_,_,_,hrow,(c153 hd).call ⟨_,rfl,fun h2=>⟨hd.measures.succ hk,hJ hl _ _ _ ⟨rfl,?_⟩⟩,fun h2=>⟨hp,hz,hk,hq,_,_,_,_,_,_,_,hrow,key _ _ ?_⟩⟩⟩⟩⟩
  ·rw[ha,qAg (b:=(g.name,-1,10)) (by grind)];rfl
  ·rw[ha,qAl (by grind)]
  ·rw[ha,qAg (b:=(g.name,-1,9)) (by grind)];rfl
 rw[(hd.measures.done hk).1,qAh]at ha
 rw[ha,Option.none_or]
 unfold form2
 generalize hf2:(fun i (m:Iv)=>if (d.invs.take i).any (fun g=>decide (g.name=m.name))=true then some ((m.name,-1,10):Flt) else if m.ty≠sE/\qAZ d m.ty=false then some (m.name,-1,9) else none)=F2
 refine qEb d.invs.length (fun k V1=>V=V1/\qAh F2 0 d.invs=qAh F2 k (d.invs.drop k)) ⟨rfl,rfl⟩ ?_
 rintro k b c V1 J hi ⟨rfl,ha⟩ hJ
 refine⟨fun hk=>?_,fun hk=>?_⟩
 ·obtain⟨g,hm,hx,hdr,hl,hp,hz,hrow⟩:=hd.invs.get hk
  rw[hdr]at ha
  have hq:=qAd (n:=k*6) hp
  refine qEb k (fun j V1=>V=V1/\∀j' g',j'<j->d.invs[j']?=some g'->¬decide (g'.name=g.name)=true) ⟨rfl,fun _ _ h=>absurd h (Nat.not_lt_zero _)⟩ ?_
  rintro j b c V1 J1 hi ⟨rfl,hb⟩ hJ1
  refine⟨fun hj=>?_,fun hj=>?_⟩
  ·obtain⟨g',hm',hx',hdr',hl',hp',hz',hrow'⟩:=hd.invs.get (i:=j) (by omega)
   refine⟨hp',hz',by omega,qAd hp',_,_,_,_,_,_,hrow',hp,hz,hk,hq,_,_,_,_,_,_,hrow,fun he=>⟨hp,hz,hk,hq,_,_,_,_,_,_,hrow,key _ _ ?_⟩,fun he=>⟨hd.invs.succ (by omega),hJ1 (by omega) _ _ _ ⟨rfl,fun j' y hj' hy=>?_⟩⟩⟩
   ·rw[ha,qAg (b:=(g.name,-1,10)) (by rw[<- hf2];exact if_pos (qGD hx' (by omega) (decide_eq_true he)))];rfl
   grind
  ·have n1:=qGE (i:=k) (fun j' g' h'=>hb j' g' (by omega))
   refine⟨hp,hz,hk,hq,_,_,_,_,_,_,hrow,fun h3=>⟨hd.invs.succ hk,hJ hl _ _ _ ⟨rfl,?_⟩⟩,fun h3=>⟨hp,hz,hk,hq,_,_,_,_,_,_,hrow,(c153 hd).call ⟨_,rfl,fun h2=>⟨hd.invs.succ hk,hJ hl _ _ _ ⟨rfl,?_⟩⟩,fun h2=>⟨hp,hz,hk,hq,_,_,_,_,_,_,hrow,key _ _ ?_⟩⟩⟩⟩
   ·rw[ha,qAl (by rw[<- hf2];exact(if_neg n1).trans (if_neg fun e=>e.1 h3))]
   ·rw[ha,qAl (by grind)]
   ·rw[ha,qAg (b:=(g.name,-1,9)) (by rw[<- hf2];exact(if_neg n1).trans (if_pos ⟨h3,eq_false_of_ne_true h2⟩))];rfl
 rw[(hd.invs.done hk).1,qAh]at ha
 rw[ha,Option.none_or]
 unfold form3
 generalize hf3:(fun(_:Nat) (m:Po)=>if m.ty≠sE/\qAZ d m.ty=false then some ((sPot,-1,9):Flt) else none)=F3
 refine qEb d.pots.length (fun k V1=>V=V1/\qAh F3 0 d.pots=qAh F3 k (d.pots.drop k)) ⟨rfl,rfl⟩ ?_
 rintro k b c V1 J hi ⟨rfl,ha⟩ hJ
 refine⟨fun hk=>?_,fun hk=>?_⟩
 ·obtain⟨g,hm,hx,hdr,hl,hp,hz,hrow⟩:=hd.pots.get hk
  rw[hdr]at ha
  have hq:=qAd (n:=k*5) hp
  refine⟨hp,hz,hk,hq,_,_,_,_,_,hrow,fun h3=>⟨hd.pots.succ hk,hJ hl _ _ _ ⟨rfl,?_⟩⟩,fun h3=>⟨hp,hz,hk,hq,_,_,_,_,_,hrow,(c153 hd).call ⟨_,rfl,fun h2=>⟨hd.pots.succ hk,hJ hl _ _ _ ⟨rfl,?_⟩⟩,fun h2=>key _ _ ?_⟩⟩⟩
  ·rw[ha,qAl (by rw[<- hf3];exact if_neg fun e=>e.1 h3)]
  ·rw[ha,qAl (by grind)]
  ·rw[ha,qAg (b:=(sPot,-1,9)) (by rw[<- hf3];exact if_pos ⟨h3,eq_false_of_ne_true h2⟩)];rfl
 rw[(hd.pots.done hk).1,qAh]at ha
 rw[ha,Option.none_or]
 unfold form4
 generalize hf4:(fun i (b:Bd)=>if (qFm d b.proc).isNone=true then some ((b.proc,-1,9):Flt) else if (d.bounds.take i).any (fun g=>decide (g.proc=b.proc))=true then some (b.proc,-1,10) else none)=F4
 refine qEb d.bounds.length (fun k V1=>V=V1/\qAh F4 0 d.bounds=qAh F4 k (d.bounds.drop k)) ⟨rfl,rfl⟩ ?_
 rintro k b c V1 J hi ⟨rfl,ha⟩ hJ
 refine⟨fun hk=>?_,fun hk=>?_⟩
 ·obtain⟨g,hm,hx,hdr,hl,hp,hz,hrow⟩:=hd.bounds.get hk
  rw[hdr]at ha
  have hq:=qAd (n:=k*5) hp
  refine⟨hp,hz,hk,hq,_,_,_,_,_,hrow,(c136 hd).call ⟨_,rfl,?_⟩⟩
  rcases qAI (fun t:Pr=>decide (t.name=g.proc)) d.procs with⟨i1,i2,i3⟩|⟨i,x,i1,i2,i3,i4,i5,i6,i7,_⟩
  ·rw[i1]
   refine⟨fun _=>⟨hp,hz,hk,hq,_,_,_,_,_,hrow,key _ _ ?_⟩,fun h=>absurd h (by decide)⟩
   rw[ha,qAg (b:=(g.proc,-1,9)) (by grind [qFm])]
  ·rw[i1]
   have n0:¬(qFm d g.proc).isNone=true:=by grind [qFm]
   refine⟨fun h=>absurd h (by omega),fun _=>?_⟩
   refine qEb k (fun j V1=>V=V1/\∀j' g',j'<j->d.bounds[j']?=some g'->¬decide (g'.proc=g.proc)=true) ⟨rfl,fun _ _ h=>absurd h (Nat.not_lt_zero _)⟩ ?_
   rintro j b c V1 J1 hi ⟨rfl,hb⟩ hJ1
   refine⟨fun hj=>?_,fun hj=>?_⟩
   ·obtain⟨g',hm',hx',hdr',hl',hp',hz',hrow'⟩:=hd.bounds.get (i:=j) (by omega)
    refine⟨hp',hz',by omega,qAd hp',_,_,_,_,_,hrow',hp,hz,hk,hq,_,_,_,_,_,hrow,fun he=>⟨hp,hz,hk,hq,_,_,_,_,_,hrow,key _ _ ?_⟩,fun he=>⟨hd.bounds.succ (by omega),hJ1 (by omega) _ _ _ ⟨rfl,fun j' y hj' hy=>?_⟩⟩⟩
    ·rw[ha,qAg (b:=(g.proc,-1,10)) (by rw[<- hf4];exact(if_neg n0).trans (if_pos (qGD hx' (by omega) (decide_eq_true he))))]
    grind
   ·have n1:=qGE (i:=k) (fun j' g' h'=>hb j' g' (by omega))
    exact⟨hd.bounds.succ hk,hJ hl _ _ _ ⟨rfl,by rw[ha,qAl (by grind)]⟩⟩
 rw[(hd.bounds.done hk).1,qAh]at ha
 rw[ha]
 exact⟨rfl,rfl⟩
end
structure qKt (d:Ds):Prop where
 small:Small d
 ms:∀m∈d.measures,okE 1 m.x=true
 is:∀m∈d.invs,okE 1 m.x=true
 qs:∀m∈d.pots,okE 1 m.x=true
 bs:∀m∈d.bounds,okE 1 m.x=true
 ps:∀p∈d.procs,qGJ 1 p.body=true/\qFZ p.body<=200
theorem qFX{e:E}(h:qAJ e=true):okE 1 e=true:=by
 grind [qAJ]
theorem vparts{d:Ds}(h:qAB d=true):qKt d:=by
 unfold qAB qJI at h
 simp only[Bool.and_eq_true,decide_eq_true_eq,List.all_eq_true]at h
 obtain⟨⟨⟨⟨⟨⟨⟨-,-⟩,hg⟩,-⟩,-⟩,-⟩,hp⟩,⟨⟨hm,hi⟩,hq⟩,hb⟩:=h
 have fl:∀{l:List Fld} {n:Int},qDg l n=true->n<=100->l.length<=1000:=fun h h'=>by
  grind [qDg]
 refine⟨⟨fl hg (by omega),fun p hpp=>?_⟩,fun m hmm=>?_,fun m hmm=>?_,fun m hmm=>?_,fun m hmm=>?_,fun p hpp=>?_⟩
 ·grind [prB]
 ·simp_all [msB,Bool.and_eq_true,qFX]
 ·simp_all [ivB,Bool.and_eq_true,qFX]
 ·simp_all [poB,Bool.and_eq_true,qFX]
 ·simp_all [bdB,Bool.and_eq_true,qFX]
 grind [prB,qEu]
theorem qCQ{α β:Type}{f:Nat->α->Option β}{b:β}:∀{i:Nat} {xs:List α},qAh f i xs=some b->∃j x,x∈xs/\f j x=some b
 | _,[],h=>by cases h
 | i,x::xs,h=>by
  cases hx:f i x with
  | some c=>grind [qAg]
  | none =>
   rw[qAl hx]at h
   obtain⟨j,y,hy,e⟩:=qCQ h
   grind
def Bad(r:Flt):Prop:=r.2.2≠0/\r.2.1=-1
theorem qHt{P:Flt->Prop}{a b:Option Flt}(ha:∀r,a=some r->P r)(hb:∀r,b=some r->P r):∀r,a.or b=some r->P r:=fun r h=>by
 cases a with
 | none=>simp_all
 | some x=>simp_all
theorem qIp(d:Ds):∀r,qFq d=some r->Bad r:=by
 refine qHt (fun r h=>?_) (qHt (fun r h=>?_) (fun r h=>?_)) <;> obtain⟨j,x,hx,e⟩:=qCQ h
 ·split at e
  ·cases e;exact⟨by simp,rfl⟩
  ·cases e
 ·split at e
  ·rename_i h';cases e;exact⟨h',rfl⟩
  ·cases e
 ·split at e
  ·rename_i h';cases e;exact⟨h',rfl⟩
  ·cases e
theorem qJb(d:Ds):∀r,qEp d=some r->Bad r:=fun r h=>by
 obtain⟨j,x,hx,e⟩:=qCQ h
 split at e
 ·cases e;exact⟨by simp,rfl⟩
 ·split at e
  ·rename_i h';cases e;exact⟨h',rfl⟩
  ·split at e
   ·cases e;exact⟨by simp,rfl⟩
   ·cases e
theorem qLp(d:Ds):∀r,qEs d=some r->Bad r:=by
 refine qHt (fun r h=>?_) (qHt (fun r h=>?_) (qHt (fun r h=>?_) (fun r h=>?_))) <;> obtain⟨j,x,hx,e⟩:=qCQ h
 ·split at e
  ·cases e;exact⟨by simp,rfl⟩
  ·split at e
   ·cases e;exact⟨by simp,rfl⟩
   ·cases e
 ·split at e
  ·cases e;exact⟨by simp,rfl⟩
  ·split at e
   ·cases e;exact⟨by simp,rfl⟩
   ·cases e
 ·split at e
  ·cases e;exact⟨by simp,rfl⟩
  ·cases e
 ·split at e
  ·cases e;exact⟨by simp,rfl⟩
  ·split at e
   ·cases e;exact⟨by simp,rfl⟩
   ·cases e
theorem qLt(d:Ds):∀r,qHd d=some r->Bad r:=by
 refine qHt (fun r h=>?_) (qHt (fun r h=>?_) (qHt (fun r h=>?_) (fun r h=>?_))) <;> obtain⟨j,x,hx,e⟩:=qCQ h <;> split at e
 all_goals first | (cases e;done) | (rename_i h';cases e;exact⟨h',rfl⟩)
theorem qJt{d:Ds}(hform:qEs d=none):∀g∈d.bounds,∃p,qFm d g.proc=some p:=by
 have h4:form4 d=none:=by
  grind [qEs,form4]
 have aux:∀(l:List Bd) (i:Nat),qAh (fun i b=>if (qFm d b.proc).isNone=true then some ((b.proc,-1,9):Flt) else if (d.bounds.take i).any (fun g=>decide (g.proc=b.proc))=true then some (b.proc,-1,10) else none) i l=none->∀g∈l,∃p,qFm d g.proc=some p:=by
  intro l
  induction l with
  | nil=>simp_all
  | cons y l ih =>
   intro i h g hg
   cases hy:qFm d y.proc with
   | none=>simp_all [qAg,if_pos]
   | some p =>
    rcases List.mem_cons.1 hg with rfl|hg
    ·grind
    ·by_cases ht:(d.bounds.take i).any (fun g=>decide (g.proc=y.proc))=true
     ·simp_all [qAg,if_neg,if_pos]
     ·rw[qAl ((if_neg (by rw[hy];simp)).trans (if_neg ht))]at h
      grind
 exact aux d.bounds 0 h4
theorem qGh{V:Mem}{p:Option Addr}{off n j m:Nat}{vs:List Value}(h:V.rowp p off n=some vs)(hj:0<j)(hl:j+m<=n):V.rowp (qAa (qAa p off) j) 0 m=some ((vs.drop j).take m):=by
 cases p with
 | none=>cases h
 | some a =>
  have e:((a.add off).add j).add 0=⟨a.block,a.off+off+j,none⟩:=by
   grind [Addr.add]
  have e0:(a.add off).off=a.off+off/\(a.add off).block=a.block:=by
   grind [Addr.add]
  show V.row (((a.add off).add j).add 0) m=_
  have h:V.row (a.add off) n=some vs:=h
  rw[e]
  unfold Mem.row at h ⊢
  rw[e0.2]at h
  split at h
  ·rename_i c x y hb
   simp only[hb]
   split at h
   ·rename_i hc
    rw[e0.1]at hc h
    cases h
    rw[if_pos ⟨rfl,by omega⟩,List.drop_take,List.take_take,List.drop_drop,Nat.min_eq_left (by omega)]
   ·cases h
  ·cases h
section
variable{V:Mem}{d:Ds}
theorem c112(hd:Ds.Ok V d)(hv:qKt d)(hform:qEs d=none):PP 112 [d.v] V (f2 (qHd d)):=by
 refine Pur.mk (x112 ?_)
 unfold w112 qHd
 have hg:=hv.small.1
 have key:∀{X:Option Flt} (V2:Mem) (s:ByteArray) (n:Int),V.sub V2->X=some (s,-1,n)->(Ending.returned (.tuple #[.string s,.int .i64 n])=Ending.returned (f2 X)/\V.sub V2):=fun V2 s n h2 h=>by rw[h];exact⟨rfl,h2⟩
 unfold exp1
 generalize hf1:(fun(_:Nat) (m:Ms)=>if qBp d (qAx d m.ty) m.x qAV≠0 then some ((m.name,-1,qBp d (qAx d m.ty) m.x qAV):Flt) else none)=F1
 refine qEb d.measures.length (fun k V1=>V.sub V1/\qAh F1 0 d.measures=qAh F1 k (d.measures.drop k)) ⟨Mem.sub.refl _,rfl⟩ ?_
 rintro k b c V1 J hi ⟨hV,ha⟩ hJ
 have hd1:=hd.sub hV
 refine⟨fun hk=>?_,fun hk=>?_⟩
 ·obtain⟨g,hm,hx,hdr,hl,hp,hz,hrow⟩:=hd1.measures.get hk
  rw[hdr]at ha
  have hq:=qAd (n:=k*7) hp
  refine⟨hp,hz,hk,hq,_,_,_,_,_,_,_,hrow,hp,hz,hk,hq,_,_,_,_,_,_,_,hrow,Tri.mono (qEz hd1 hg) ?_⟩
  rintro _ V2 ⟨s',rfl,h12,hsc⟩
  have hrow2:=h12.rowp hrow
  refine⟨s',false,rfl,qGh (j:=3) (m:=4) hrow2 (by decide) (by decide),hq,hp,hz,hk,(c155 (sc:=qAx d g.ty) (e:=g.x) (hd1.sub h12) hsc ((hd1.sub h12).measuresOk g hm).x (hv.ms g hm)).call ⟨_,rfl,fun h=>⟨hd1.measures.succ hk,hJ hl _ _ _ ⟨hV.trans h12,?_⟩⟩,fun h=>⟨hp,hz,hk,hq,_,_,_,_,_,_,_,hrow2,key _ _ _ (hV.trans h12) ?_⟩⟩⟩
  ·rw[ha,qAl (by rw[<- hf1];exact if_neg fun e=>e h)]
  ·rw[ha,qAg (b:=(g.name,-1,qBp d (qAx d g.ty) g.x qAV)) (by rw[<- hf1];exact if_pos h)];rfl
 rw[(hd1.measures.done hk).1,qAh]at ha
 rw[ha,Option.none_or]
 unfold exp2
 generalize hf2:(fun(_:Nat) (m:Iv)=>if qBp d (qAx d m.ty) m.x qAt≠0 then some ((m.name,-1,qBp d (qAx d m.ty) m.x qAt):Flt) else none)=F2
 refine qEb d.invs.length (fun k V1=>V.sub V1/\qAh F2 0 d.invs=qAh F2 k (d.invs.drop k)) ⟨hV,rfl⟩ ?_
 rintro k b c V1 J hi ⟨hV,ha⟩ hJ
 have hd1:=hd.sub hV
 refine⟨fun hk=>?_,fun hk=>?_⟩
 ·obtain⟨g,hm,hx,hdr,hl,hp,hz,hrow⟩:=hd1.invs.get hk
  rw[hdr]at ha
  have hq:=qAd (n:=k*6) hp
  refine⟨hp,hz,hk,hq,_,_,_,_,_,_,hrow,hp,hz,hk,hq,_,_,_,_,_,_,hrow,Tri.mono (qEz hd1 hg) ?_⟩
  rintro _ V2 ⟨s',rfl,h12,hsc⟩
  have hrow2:=h12.rowp hrow
  refine⟨s',false,rfl,qGh (j:=2) (m:=4) hrow2 (by decide) (by decide),hq,hp,hz,hk,(c155 (sc:=qAx d g.ty) (e:=g.x) (hd1.sub h12) hsc ((hd1.sub h12).invsOk g hm) (hv.is g hm)).call ⟨_,rfl,fun h=>⟨hd1.invs.succ hk,hJ hl _ _ _ ⟨hV.trans h12,?_⟩⟩,fun h=>⟨hp,hz,hk,hq,_,_,_,_,_,_,hrow2,key _ _ _ (hV.trans h12) ?_⟩⟩⟩
  ·rw[ha,qAl (by rw[<- hf2];exact if_neg fun e=>e h)]
  ·rw[ha,qAg (b:=(g.name,-1,qBp d (qAx d g.ty) g.x qAt)) (by rw[<- hf2];exact if_pos h)];rfl
 rw[(hd1.invs.done hk).1,qAh]at ha
 rw[ha,Option.none_or]
 unfold exp3
 generalize hf3:(fun(_:Nat) (m:Po)=>if qBp d (qAx d m.ty) m.x qAV≠0 then some ((sPot,-1,qBp d (qAx d m.ty) m.x qAV):Flt) else none)=F3
 refine qEb d.pots.length (fun k V1=>V.sub V1/\qAh F3 0 d.pots=qAh F3 k (d.pots.drop k)) ⟨hV,rfl⟩ ?_
 rintro k b c V1 J hi ⟨hV,ha⟩ hJ
 have hd1:=hd.sub hV
 refine⟨fun hk=>?_,fun hk=>?_⟩
 ·obtain⟨g,hm,hx,hdr,hl,hp,hz,hrow⟩:=hd1.pots.get hk
  rw[hdr]at ha
  have hq:=qAd (n:=k*5) hp
  refine⟨hp,hz,hk,hq,_,_,_,_,_,hrow,hp,hz,hk,hq,_,_,_,_,_,hrow,Tri.mono (qEz hd1 hg) ?_⟩
  rintro _ V2 ⟨s',rfl,h12,hsc⟩
  have hrow2:=h12.rowp hrow
  refine⟨s',false,rfl,qGh (j:=1) (m:=4) hrow2 (by decide) (by decide),hq,hp,hz,hk,(c155 (sc:=qAx d g.ty) (e:=g.x) (hd1.sub h12) hsc ((hd1.sub h12).potsOk g hm) (hv.qs g hm)).call ⟨_,rfl,fun h=>⟨hd1.pots.succ hk,hJ hl _ _ _ ⟨hV.trans h12,?_⟩⟩,fun h=>key _ _ _ (hV.trans h12) ?_⟩⟩
  ·rw[ha,qAl (by rw[<- hf3];exact if_neg fun e=>e h)]
  ·rw[ha,qAg (b:=(sPot,-1,qBp d (qAx d g.ty) g.x qAV)) (by rw[<- hf3];exact if_pos h)];rfl
 rw[(hd1.pots.done hk).1,qAh]at ha
 rw[ha,Option.none_or]
 have hpr:=qJt hform
 unfold exp4
 generalize hf4:(fun(_:Nat) (m:Bd)=>if qBp d (qBw d ((qFm d m.proc).getD prD)) m.x qAV≠0 then some ((m.proc,-1,qBp d (qBw d ((qFm d m.proc).getD prD)) m.x qAV):Flt) else none)=F4
 refine qEb d.bounds.length (fun k V1=>V.sub V1/\qAh F4 0 d.bounds=qAh F4 k (d.bounds.drop k)) ⟨hV,rfl⟩ ?_
 rintro k b c V1 J hi ⟨hV,ha⟩ hJ
 have hd1:=hd.sub hV
 refine⟨fun hk=>?_,fun hk=>?_⟩
 ·obtain⟨g,hm,hx,hdr,hl,hp,hz,hrow⟩:=hd1.bounds.get hk
  rw[hdr]at ha
  have hq:=qAd (n:=k*5) hp
  obtain⟨p,hpp⟩:=hpr g hm
  rcases qAI (fun t:Pr=>decide (t.name=g.proc)) d.procs with⟨i1,i2,i3⟩|⟨i,x,i1,i2,i3,i4,i5,i6,i7,_⟩
  ·grind [qFm]
  have hxp:qFm d g.proc=some x:=i3
  refine⟨hp,hz,hk,hq,_,_,_,_,_,hrow,(c136 hd1).call ⟨_,rfl,?_⟩⟩
  rw[i1]
  have hpn:=hd1.procs.n_eq
  have hilt:(i:Int)<(d.ps.n:Int):=by omega
  obtain⟨y,hmy,hxy,hdy,hly,hpy,hzy,hrowy⟩:=hd1.procs.get hilt
  rw[i2]at hxy
  cases hxy
  refine⟨hpy,hzy,hilt,_,_,_,_,_,hrowy,hp,hz,hk,hq,_,_,_,_,_,hrow,Tri.mono (refInBound hd1 (hd1.procsOk x i6) hg (hv.small.2 x i6)) ?_⟩
  rintro _ V2 ⟨s',rfl,h12,hsc⟩
  have hrow2:=h12.rowp hrow
  have hget:(qFm d g.proc).getD prD=x:=by rw[hxp];rfl
  refine⟨s',false,rfl,qGh (j:=1) (m:=4) hrow2 (by decide) (by decide),hq,hp,hz,hk,(c155 (sc:=qBw d x) (e:=g.x) (hd1.sub h12) hsc ((hd1.sub h12).boundsOk g hm) (hv.bs g hm)).call ⟨_,rfl,fun h=>⟨hd1.bounds.succ hk,hJ hl _ _ _ ⟨hV.trans h12,?_⟩⟩,fun h=>⟨hp,hz,hk,hq,_,_,_,_,_,hrow2,key _ _ _ (hV.trans h12) ?_⟩⟩⟩
  ·rw[ha,qAl (by rw[<- hf4];exact if_neg fun e=>e (by rw[hget];exact h))]
  ·rw[ha,qAg (b:=(g.proc,-1,qBp d (qBw d x) g.x qAV)) (by rw[<- hf4];exact(if_pos (by rw[hget];exact h)).trans (by rw[hget]))];try rfl
 rw[(hd1.bounds.done hk).1,qAh]at ha
 rw[ha]
 exact⟨rfl,hV⟩
def f3(o:Option Flt):Value:=.tuple #[.string (fltR o).1,.int .i64 (fltR o).2.1,.int .i64 (fltR o).2.2]
theorem c70(hd:Ds.Ok V d)(hv:qKt d):PP 70 [d.v] V (f3 (qHD d)):=by
 refine x70 ?_
 unfold w70 qHD
 have bad:∀{a b:Option Flt},(∀r,a=some r->Bad r)->¬((fltR a).2.2=0)->(Ending.returned (.tuple #[.string (fltR a).1,.int .i64 (-1),.int .i64 (fltR a).2.2])=Ending.returned (f3 (a.or b))/\V=V):=fun {a b} hb h=>by
  cases a with
  | none=>exact absurd rfl h
  | some r =>
   have:=hb r rfl
   unfold f3 fltR
   simp only[Option.some_or,Option.getD_some]
   rw[this.2];simp_all
 have good:∀{a:Option Flt},(∀r,a=some r->Bad r)->(fltR a).2.2=0->a=none:=fun {a} hb h=>by
  cases a with
  | none=>rfl
  | some r=>exact absurd h (hb r rfl).1
 refine(c108 hd).call ⟨_,_,rfl,fun h=>?_,fun h=>bad (qIp d) h⟩
 rw[good (qIp d) h,Option.none_or]
 refine(c109 hd hv.small).call ⟨_,_,rfl,fun h=>?_,fun h=>bad (qJb d) h⟩
 rw[good (qJb d) h,Option.none_or]
 refine(c110 hd).call ⟨_,_,rfl,fun h=>?_,fun h=>bad (qLp d) h⟩
 have hform:=good (qLp d) h
 rw[hform,Option.none_or]
 unfold qCt
 generalize hf1:(fun(_:Nat) (p:Pr)=>if (qBH d (qAn d p) p.result 0 p.body).2≠0 then some ((p.name,(qBH d (qAn d p) p.result 0 p.body).1,(qBH d (qAn d p) p.result 0 p.body).2):Flt) else none)=F1
 refine loop4s (mk:=.string) (mc:=.int .i64) (md:=.int .i64) (qAm []) 0 0 qEf d.procs.length (fun k _ V1=>V=V1/\qAh F1 0 d.procs=qAh F1 k (d.procs.drop k)) ⟨rfl,rfl⟩ ?_
 rintro k b c c' V1 J hi ⟨rfl,ha⟩ hJ
 refine⟨fun hk=>?_,fun hk=>?_⟩
 ·obtain⟨g,hm,hx,hdr,hl,hp,hz,hrow⟩:=hd.procs.get hk
  rw[hdr]at ha
  have hq:=qAd (n:=k*5) hp
  have hgo:=hd.procsOk g hm
  obtain⟨hs1,hs2⟩:=hv.ps g hm
  refine⟨hp,hz,hk,_,_,_,_,_,hrow,hp,hz,hk,hq,_,_,_,_,_,hrow,(refStmts hd hgo hv.small.1 (hv.small.2 g hm) g.body g.bs 0 1 hgo.body hgo.stmts hs1 (by omega) (by omega)).call ⟨_,_,rfl,fun h=>⟨hd.procs.succ hk,hJ hl _ _ _ _ ⟨rfl,?_⟩⟩,fun h=>⟨hp,hz,hk,hq,_,_,_,_,_,hrow,?_⟩⟩⟩
  ·rw[ha,qAl (by grind)]
  ·rw[ha,qAg (b:=(g.name,(qBH d (qAn d g) g.result 0 g.body).1,(qBH d (qAn d g) g.result 0 g.body).2)) (by grind)]
   exact⟨rfl,rfl⟩
 rw[(hd.procs.done hk).1,qAh]at ha
 rw[ha,Option.none_or]
 refine(c112 hd hv hform).call ⟨_,_,rfl,fun h=>?_,fun h=>?_⟩
 ·rw[good (qLt d) h];exact⟨rfl,rfl⟩
 ·have:=bad (b:=none) (qLt d) h
  grind
def wellT(d:Ds):Bool:=qAB d&&decide ((fltR (qHD d)).2.2=0)
theorem c32(hd:Ds.Ok V d):PP 32 [d.v] V (.bool (wellT d)):=by
 refine x32 ?_
 unfold w32 wellT
 refine(c31 hd).call ⟨_,rfl,fun h=>(c70 hd (vparts h)).call ⟨_,_,_,rfl,?_⟩,fun h=>?_⟩
 ·simp_all
 simp_all
end
structure qBO (V:Mem) (c:Option Addr) (d:Ds):Prop where
 at_:∃cb mt mp t,c=some ⟨cb,0,none⟩/\V cb=some (.cells (d.row++[Value.map (some mt),Value.map (some mp)]).toArray t (0,0))/\qBo V mt (fun k=>(qJC d k).map Ty.v)/\qBo V mp (fun k=>(qFm d k).map Pr.v)
 ok:Ds.Ok V d
theorem qBO.sub{V V':Mem}{c:Option Addr}{d:Ds}(h:qBO V c d)(hs:V.sub V'):qBO V' c d:=by
 obtain⟨cb,mt,mp,t,h1,h2,h3,h4⟩:=h.at_
 exact⟨⟨cb,mt,mp,t,h1,hs _ _ h2,h3.sub hs,h4.sub hs⟩,h.ok.sub hs⟩
theorem qBO.nn{V:Mem}{c:Option Addr}{d:Ds}(h:qBO V c d):¬(c=none):=by
 obtain⟨cb,mt,mp,t,h1,h2,h3,h4⟩:=h.at_
 rw[h1];simp
theorem qBO.cell{V:Mem}{c:Option Addr}{d:Ds}(h:qBO V c d){i:Nat}{v:Value}(hv:(d.row)[i]?=some v):V.rowp c (i*1) 1=some [v]:=by
 obtain⟨cb,mt,mp,t,h1,h2,h3,h4⟩:=h.at_
 rw[h1,Nat.mul_one]
 have hi:=(List.getElem?_eq_some_iff.1 hv).1
 have h8:d.row.length=8:=rfl
 rw[qAe h2 i 1 (by simp;omega)]
 have:(d.row++[Value.map (some mt),Value.map (some mp)])[i]?=some v:=by grind
 have hl:i<(d.row++[Value.map (some mt),Value.map (some mp)]).length:=by rw[List.length_append];omega
 show some (((d.row++[Value.map (some mt),Value.map (some mp)]).drop i).take 1)=_
 rw[List.drop_eq_getElem_cons hl,(List.getElem?_eq_some_iff.1 this).2]
 rfl
theorem qBO.types{V:Mem}{c:Option Addr}{d:Ds}(h:qBO V c d):∃mt,V.rowp c 8 1=some [.map (some mt)]/\qBo V mt (fun k=>(qJC d k).map Ty.v):=by
 obtain⟨cb,mt,mp,t,h1,h2,h3,h4⟩:=h.at_
 exact⟨mt,by rw[h1,qAe h2 8 1 (by simp[Ds.row])];rfl,h3⟩
theorem qBO.procs{V:Mem}{c:Option Addr}{d:Ds}(h:qBO V c d):∃mt,V.rowp c 9 1=some [.map (some mt)]/\qBo V mt (fun k=>(qFm d k).map Pr.v):=by
 obtain⟨cb,mt,mp,t,h1,h2,h3,h4⟩:=h.at_
 exact⟨mp,by rw[h1,qAe h2 9 1 (by simp[Ds.row])];rfl,h4⟩
def qBU(l:List Fld)(k:ByteArray):Option ByteArray:=(l.find? fun f=>decide (f.name=k)).map (·.ty)
theorem qJQ(l:List Fld)(k:ByteArray):qBS l k=(qBU l k).getD sE:=by
 induction l with
 | nil=>rfl
 | cons f l ih =>
  grind [qBU,qBS]
def NE(l:List Fld):Prop:=∀f∈l,f.ty≠sE
theorem NE.some{l:List Fld}(h:NE l){k t:ByteArray}(hv:qBU l k=some t):t≠sE:=by
 unfold qBU at hv
 obtain⟨f,hf,rfl⟩:=Option.map_eq_some_iff.1 hv
 exact h f (List.mem_of_find?_eq_some hf)
structure qHP (V:Mem) (m:Option Nat) (sc:Sc):Prop where
 at_:∃mb,m=some mb/\qBo V mb (fun k=>(qBU sc.vars k).map Value.string)
 ne:NE sc.vars
theorem qHP.sub{V V':Mem}{m:Option Nat}{sc:Sc}(h:qHP V m sc)(hs:V.sub V'):qHP V' m sc:=by
 obtain⟨mb,h1,h2⟩:=h.at_
 exact⟨⟨mb,h1,h2.sub hs⟩,h.ne⟩
def sV(c:Option Addr)(m:Option Nat)(sc:Sc):Value:=.agg #[.pointer c,.map m,.bool sc.body]
structure VNe (d:Ds):Prop where
 types:∀t∈d.types,NE t.fields
 globals:NE d.globals
 params:∀p∈d.procs,NE p.params/\NE p.locals
theorem typB_ne{s:ByteArray}(h:typB s=true):s≠sE:=by
 intro e
 subst e
 have:typB sE=false:=by
  rfl
 simp_all
theorem flds_ne{l:List Fld}{n:Int}(h:qDg l n=true):NE l:=fun f hf=>by
 simp_all [qDg,Bool.and_eq_true,List.all_eq_true,fldB,typB_ne]
theorem vne{d:Ds}(h:qAB d=true):VNe d:=by
 unfold qAB at h
 simp only[Bool.and_eq_true,decide_eq_true_eq,List.all_eq_true]at h
 obtain⟨⟨⟨⟨⟨⟨⟨-,-⟩,hg⟩,-⟩,-⟩,ht⟩,hp⟩,-⟩:=h
 refine⟨fun t htt=>?_,flds_ne hg,fun p hpp=>?_⟩
 ·have:=ht t htt
  unfold tyB at this
  rw[Bool.and_eq_true]at this
  exact flds_ne this.2
 ·have:=hp p hpp
  unfold prB at this
  simp only[Bool.and_eq_true]at this
  grind [flds_ne]
theorem zero98(w:World):(zeroValue 98).run Tryz.prog w=.ok (.agg #[.string ByteArray.empty,.slice none 0 0]) w:=by kernel_rfl
theorem zero143(w:World):(zeroValue 143).run Tryz.prog w=.ok (.agg #[.string ByteArray.empty,.slice none 0 0,.string ByteArray.empty,.slice none 0 0,.slice none 0 0]) w:=by kernel_rfl
theorem zero9(w:World):(zeroValue 9).run Tryz.prog w=.ok (.string ByteArray.empty) w:=by kernel_rfl
theorem tyOf_node(d:Ds)(s:ByteArray):(qJC d s).isSome=qAZ d s:=by
 grind [qJC,qAZ]
theorem tyOf_mem{d:Ds}{s:ByteArray}{t:Ty}(h:qJC d s=some t):t∈d.types:=List.mem_of_find?_eq_some h
theorem qKQ{d:Ds}{s:ByteArray}{t:Pr}(h:qFm d s=some t):t∈d.procs:=List.mem_of_find?_eq_some h
section
variable{V:Mem}{d:Ds}{c:Option Addr}{m:Option Nat}{sc:Sc}
theorem c230(h:qBO V c d){s:ByteArray}:PP 230 [.pointer c,.string s] V (.bool (qAZ d s)):=by
 refine x230 ?_
 unfold w230
 obtain⟨mt,h1,h2⟩:=h.types
 refine⟨h.nn,h.nn,_,h1,qBz.str Tryz.underlying269 Tryz.underlying9 zero98 h2 ?_⟩
 rw[<- tyOf_node]
 cases ht:qJC d s with
 | none=>exact⟨_,⟨none,0,0⟩,_,rfl,rfl,rfl⟩
 | some t=>exact⟨_,t.fs,_,rfl,rfl,rfl⟩
theorem c225(h:qBO V c d){s:ByteArray}:PP 225 [.pointer c,.string s] V (.bool (qBf d s)):=by
 refine x225 ?_
 unfold w225
 refine⟨fun h1=>?_,fun h1=>⟨fun h2=>?_,fun h2=>(c230 h).call ⟨_,rfl,?_⟩⟩⟩ <;> simp[qBf,qAV,qAt, *]
theorem c298(h:qBO V c d){s t:ByteArray}:PP 298 [.pointer c,.string s,.string t] V (.bool (qDy d s t)):=by
 refine x298 ?_
 unfold w298 qDy qKJ
 refine⟨fun h1=>?_,fun h1=>⟨fun h2=>(c230 h).call ⟨_,rfl,?_⟩,fun h2=>?_⟩⟩
 ·simp_all
 ·simp_all
 simp_all
theorem c299(h:qBO V c d)(hv:VNe d){s t:ByteArray}:PP 299 [.pointer c,.string s,.string t] V (.tuple #[.string (qBX d s t).1,.int .i64 (qBX d s t).2]):=by
 refine x299 ?_
 unfold w299
 obtain⟨mt,h1,h2⟩:=h.types
 refine⟨h.nn,h.nn,_,h1,qBz.str Tryz.underlying269 Tryz.underlying9 zero98 h2 ?_⟩
 unfold qBX
 cases ht:qJC d s with
 | none=>exact⟨_,⟨none,0,0⟩,_,rfl,fun h=>absurd h (by simp),fun _=>⟨rfl,rfl⟩⟩
 | some ty =>
  refine⟨_,ty.fs,_,rfl,fun _=>?_,fun h=>absurd rfl h⟩
  have hr:=(h.ok.typesOk ty (tyOf_mem ht)).fields
  have hne:=hv.types ty (tyOf_mem ht)
  simp only
  refine qEb ty.fields.length (fun i V1=>V=V1/\qBS ty.fields t=qBS (ty.fields.drop i) t) ⟨rfl,rfl⟩ ?_
  rintro i b c V1 J hi ⟨rfl,ha⟩ hJ
  refine⟨fun hlt=>?_,fun hge=>?_⟩
  ·obtain⟨x,hm,hx,hdr,hl,hp,hz,hrow⟩:=hr.get hlt
   rw[hdr,qBS]at ha
   refine⟨hp,hz,hlt,_,_,hrow,fun he=>?_,fun he=>⟨hr.succ hlt,hJ hl _ _ _ ⟨rfl,?_⟩⟩⟩
   ·rw[if_pos he]at ha
    rw[ha,if_neg (hne x hm)];simp_all
   simp_all
  ·rw[(hr.done hge).1,qBS]at ha
   rw[ha,if_pos rfl];exact⟨rfl,rfl⟩
theorem c317{b:Nat}{s:ByteArray}{t:Nat}(hb:V b=some (cell (.string s) t)){x:Ms}:PP 317 [x.v,pv b] V (.bool (decide (x.name=s))):=by
 refine x317 ?_
 unfold w317
 exact⟨_,qBJ hb,rfl,rfl⟩
def IdC{α:Type}(f:FuncId)(row:α->List Value)(v:α->Value)(sz:Nat):Prop:=∀{V:Mem} {l:Sl} {xs:List α} {g:Nat} {first caps:List Value} (h:qAc V l sz (xs.map row)) (hg:qJy g) (p:α->Bool) (hp:∀x∈xs,PP g (first++[v x]++caps) V (.bool (p x))),PP f [l.v,.func (.func g) first.toArray caps.toArray] V (.int .i64 (qIa p xs))
theorem idC{α:Type}{f:FuncId}{row:α->List Value}{v:α->Value}{sz:Nat}(H:IdxP f row v sz):IdC f row v sz:=by
 intro V l xs g first caps h hg p hp
 refine Tri.mono (H hg (fun i V1=>V=V1/\qAX (fun y=>!p y) xs i) (fun i V1=>V=V1/\∃x,xs[i]?=some x/\p x=true/\qAX (fun y=>!p y) xs i) (fun i V1 hs=>hs.1 ▸ h) ⟨rfl,qAX.zero _ _⟩ ?_) ?_
 ·rintro i x V1 hx ⟨rfl,hs⟩
  have hm:x∈xs:=List.mem_of_getElem? hx
  exact(hp x hm).callv ⟨_,rfl,fun hb=>⟨rfl,x,hx,hb,hs⟩,fun hb=>⟨rfl,qCW hs hx hb⟩⟩
 ·rintro e V' (⟨i,rfl,rfl,x,hx,hb,hs⟩|⟨rfl,rfl,hs⟩)
  ·rw[qDM hs hx hb];simp_all
  ·rw[qEM hs (Nat.le_refl _)];simp_all
theorem idxMs:IdC 294 Ms.row Ms.v 7:=idC g294
theorem c312(h:qBO V c d){s:ByteArray}{l:Sl}{xs:List ByteArray}(hl:qAc V l 1 (xs.map qBe)):PP 312 [sV c m sc,.string s,l.v] V (.tuple #[.string (qJH d s xs).1,.int .i64 (qJH d s xs).2]):=by
 refine Pur.mk (x312 ?_)
 unfold w312
 refine⟨h.nn,h.nn,qAd h.nn,d.ms,h.cell (i:=4) rfl,fun b hb=>?_⟩
 have hs:=Mem.sub_new hb (cell (.string s) 9)
 have h1:=h.sub hs
 have hl1:=hl.sub hs
 refine(idxMs (l:=d.ms) (first:=[]) (caps:=[pv b]) h1.ok.measures Tryz.call317 (fun t=>decide (t.name=s)) (fun x _=>c317 mss)).call ⟨_,rfl,?_⟩
 unfold qJH meOf
 have key:∀{X:ByteArray×Int} (a:ByteArray) (n:Int),X=(a,n)->(Ending.returned (.tuple #[.string a,.int .i64 n])=Ending.returned (.tuple #[.string X.1,.int .i64 X.2])/\V.sub (V.set b (cell (.string s) 9))):=fun a n h=>by simp_all
 rcases qAI (fun t:Ms=>decide (t.name=s)) d.measures with⟨h1,h2,h3⟩|⟨i,x,i1,i2,i3,i4,i5,i6,i7,_⟩
 ·rw[h1,h2];exact⟨fun _=>key _ _ rfl,fun h=>absurd h (by decide)⟩
 ·rw[i1,i3]
  have hn:=h1.ok.measures.n_eq
  have hlt:(i:Int)<(d.ms.n:Int):=by omega
  obtain⟨y,hm,hx,hdr,hll,hp,hz,hrow⟩:=h1.ok.measures.get hlt
  rw[i2]at hx
  cases hx
  have e1:=hl1.n_eq
  refine⟨fun h=>absurd h (by omega),fun _=>⟨fun he=>?_,fun he=>key _ _ (if_pos (by omega))⟩⟩
  obtain⟨a1,a2,a3⟩:=qEm hl1 (i:=0) (by omega)
  have e2:¬(xs.length≠1):=by omega
  refine⟨a1,by omega,by omega,_,a3,h.nn,h.nn,qAd h.nn,d.ms,h1.cell (i:=4) rfl,hp,hz,hlt,qAd hp,_,_,_,_,_,_,_,hrow,(c298 h1).call ⟨_,rfl,fun hf=>key _ _ ?_,fun hf=>key _ _ ?_⟩⟩
  ·simp only[e2,if_false];unfold qDu;rw[if_pos hf];rfl
  ·simp only[e2,if_false];unfold qDu;rw[if_neg hf];rfl
theorem c315{b:Nat}{s:ByteArray}{t:Nat}(hb:V b=some (cell (.string s) t)){x:ByteArray}:PP 315 [strV x,pv b] V (.bool (!decide (x=s))):=by
 refine x315 ?_
 unfold w315
 exact⟨_,qBJ hb,rfl,rfl⟩
theorem c313{b t:Nat}{l:Sl}{xs:List ByteArray}(hb:V b=some (cell (.slice l.p l.n l.c) t))(hl:qAc V l 1 (xs.map qBe)){s r:ByteArray} :
  PP 313 [.string s,.string r,pv b] V (.tuple #[.string (qDu (allT xs s) r).1,.int .i64 (qDu (allT xs s) r).2]):=by
 refine Pur.mk (x313 ?_)
 unfold w313
 refine⟨l,qBJ hb,fun b1 hb1=>?_⟩
 have hs:=Mem.sub_new hb1 (cell (.string s) 9)
 refine(c314 (l:=l) (first:=[]) (caps:=[pv b1]) (hl.sub hs) Tryz.call315 (fun x=>!decide (x=s)) (fun x _=>c315 mss)).call ⟨_,rfl,fun h=>?_,fun h=>?_⟩
 ·rw[List.any_eq_not_all_not]at h
  have:allT xs s=false:=by grind [allT]
  rw[this];exact⟨rfl,hs⟩
 ·rw[List.any_eq_not_all_not]at h
  have:allT xs s=true:=by grind [allT]
  rw[this];exact⟨rfl,hs⟩
end
theorem fits_first{d:Ds}{a b:ByteArray}(h:qDy d a b=true):(if a=qKJ then b else a)=b:=by
 grind [qDy]
theorem fits_second{d:Ds}{a b:ByteArray}(h:¬qDy d a b=true)(h2:qDy d b a=true):(if a=qKJ then b else a)=a:=by
 grind [qDy,absurd]
def qFN(d:Ds)(sc:Sc)(s:ByteArray)(l:List ByteArray):ByteArray×Int:=if sc.body=true then qFp d s l else qJH d s l
theorem measT_ne{d:Ds}{s:ByteArray}{l:List ByteArray}(h:(qJH d s l).2=0):(qJH d s l).1≠sE:=by
 unfold qJH at h ⊢
 split at h
 ·omega
 ·split at h
  ·omega
  ·rename_i h'
   simp only[if_neg h']
   unfold qDu at h ⊢
   split at h
   ·rename_i h2;rw[if_pos h2];simp only;decide
   omega
theorem callE_raw(d:Ds)(sc:Sc)(s:ByteArray)(l:List ByteArray):qHN d sc s l=if (qFN d sc s l).2=0/\(qFN d sc s l).1=sE then (sE,11) else qFN d sc s l:=by
 unfold qHN qFN
 by_cases hb:sc.body=true
 ·simp_all
 simp_all [if_neg,absurd,measT_ne]
section
variable{V:Mem}{d:Ds}{c:Option Addr}{m:Option Nat}{sc:Sc}
def ImpE(V:Mem)(d:Ds)(c:Option Addr)(m:Option Nat)(sc:Sc)(e:E):Prop:=∀V1,V.sub V1->PP 269 [sV c m sc,e.v] V1 (.tuple #[.string (qAr d sc e).1,.int .i64 (qAr d sc e).2])
def rawT(d:Ds)(sc:Sc)(e:E):ByteArray×Int:=if (partsT d sc [] e.k).2≠0 then (sE,(partsT d sc [] e.k).2) else qFN d sc e.s (partsT d sc [] e.k).1
theorem impCall(h:qBO V c d)(e:E)(he:E.Ok V e)(hlen:(e.k.length:Int)<=6)(hk:∀x∈e.k,ImpE V d c m sc x) :
  PP 297 [sV c m sc,e.v] V (.tuple #[.string (rawT d sc e).1,.int .i64 (rawT d sc e).2]):=by
 have hr:=he.rows
 refine Pur.mk (x297 ?_)
 unfold w297 rawT
 refine loop4s (mk:=.string) (mc:=.int .i64) (md:=fun s:Sl=>.slice s.p s.n s.c) (qAm []) 0 ⟨none,0,0⟩ qBc e.k.length (fun i s V1=>∃acc,Own V V1 9 1 s (acc.flatMap qBe)/\partsT d sc [] e.k=partsT d sc acc (e.k.drop i)/\acc.length=i) ⟨[],Own.nil (Mem.sub.refl _) _ _,rfl,rfl⟩ ?_
 rintro i b b' s V1 J hi ⟨acc,hown,hp,hlen'⟩ hJ
 have hr1:=hr.sub hown.sub
 refine⟨fun hlt=>?_,fun hge=>?_⟩
 ·obtain⟨x,hm,hx,hdr,hl,hpp,hz,hrow⟩:=hr1.get hlt
  rw[hdr,qCa]at hp
  refine⟨hpp,hz,hlt,_,_,_,_,hrow,(hk x hm V1 hown.sub).call ⟨_,_,rfl,fun h0=>?_,fun h0=>?_⟩⟩
  ·intro b1 hb1
   rw[if_neg (fun h=>h h0)]at hp
   refine app220 (s:=s) (u:=⟨some ⟨b1,0,none⟩,1,1⟩) (xs:=acc) (ys:=[(qAr d sc x).1]) rfl rfl (hown.new hb1 _) (qIL mss) (by simp;omega) fun s' V' ho=>⟨s',rfl,hr1.succ hlt,hJ hl _ _ _ _ ⟨_,ho,hp,by simp[hlen']⟩⟩
  ·rw[if_pos h0]at hp
   rw[hp]
   simp only[ne_eq,h0,not_false_eq_true,if_true]
   exact⟨by trivial,hown.sub⟩
 ·rw[(hr1.done hge).1,qCN]at hp
  rw[hp]
  simp only[ne_eq,not_true_eq_false,if_false]
  have hrows:=ownS hown
  have h1:=h.sub hown.sub
  have key:∀{X:ByteArray×Int} (a:ByteArray) (n:Int),X=(a,n)->(Ending.returned (.tuple #[.string a,.int .i64 n])=Ending.returned (.tuple #[.string X.1,.int .i64 X.2])/\V.sub V1):=fun a n h=>by rw[h];exact⟨rfl,hown.sub⟩
  unfold qFN
  refine⟨fun hb=>?_,fun hb=>?_⟩
  ·rw[if_pos hb]
   obtain⟨mt,q1,q2⟩:=h1.procs
   refine⟨h.nn,h.nn,_,q1,qBz.str Tryz.underlying270 Tryz.underlying9 zero143 q2 ?_⟩
   unfold qFp
   cases hpr:qFm d e.s with
   | none=>exact⟨_,⟨none,0,0⟩,_,⟨none,0,0⟩,⟨none,0,0⟩,_,rfl,fun h=>absurd h (by simp),fun _=>key _ _ rfl⟩
   | some p =>
    have hox:=h1.ok.procsOk p (qKQ hpr)
    have e1:=hrows.n_eq
    have e2:=hox.params.n_eq
    refine⟨_,p.ps,_,p.ls,p.bs,_,rfl,fun _=>⟨fun he=>?_,fun he=>key _ _ (if_pos (by omega))⟩,fun h=>absurd rfl h⟩
    have hle:acc.length=p.params.length:=by omega
    simp only[hle,ne_eq,not_true_eq_false,if_false]
    refine qEb acc.length (fun i V2=>V1=V2/\qCk d acc p.params=qCk d (acc.drop i) (p.params.drop i)) ⟨rfl,rfl⟩ ?_
    rintro j b c' V2 J hi ⟨rfl,ha⟩ hJ
    refine⟨fun hlt=>?_,fun hge=>?_⟩
    ·obtain⟨y,hm',hx',hdr',hl',hp',hz',hrow'⟩:=hrows.get hlt
     obtain⟨f,hmf,hxf,hdf,hlf,hpf,hzf,hrowf⟩:=hox.params.get (i:=j) (by omega)
     rw[hdr',hdf,qCk]at ha
     refine⟨hp',hz',hlt,_,hrow',hpf,hzf,by omega,qAd hpf,_,_,hrowf,(c298 h1).call ⟨_,rfl,fun hb=>⟨hrows.succ hlt,hJ hl' _ _ _ ⟨rfl,?_⟩⟩,fun hb=>key _ _ ?_⟩⟩
     ·simp_all
     ·rw[eq_false_of_ne_true hb,Bool.false_and]at ha;rw[ha];rfl
    ·rw[(hrows.done hge).1,qKl]at ha
     simp_all
  ·rw[if_neg hb]
   exact(c312 h1 hrows).call ⟨_,_,rfl,key _ _ rfl⟩
theorem impNode(h:qBO V c d)(hv:VNe d)(hs:qHP V m sc){e:E}{l:Sl}{xs:List ByteArray}(hl:qAc V l 1 (xs.map qBe))(hlen:xs.length=e.k.length)(hok:qDt e.op e.n e.s e.k.length=true)(h7:e.op≠7) :
  PP 300 [sV c m sc,e.v,l.v] V (.tuple #[.string (qFD d sc e.op e.s xs).1,.int .i64 (qFD d sc e.op e.s xs).2]):=by
 have har:=arity hok
 refine Pur.mk (x300 ?_)
 unfold w300
 generalize hX:qFD d sc e.op e.s xs=X
 have key:∀{V1:Mem} (a:ByteArray) (n:Int),V.sub V1->X=(a,n)->(Ending.returned (.tuple #[.string a,.int .i64 n])=Ending.returned (.tuple #[.string X.1,.int .i64 X.2])/\V.sub V1):=fun a n h1 h=>by simp_all
 have rf:=Mem.sub.refl V
 have cFits:=fun a b=>c298 h (s:=a) (t:=b)
 have at0:=fun h:0<xs.length=>qEm hl h
 have at1:=fun h:1<xs.length=>qEm hl h
 have at2:=fun h:2<xs.length=>qEm hl h
 have call:∀(s r:ByteArray),X=qDu (allT xs s) r->qAs [(.slice l.p l.n l.c)] 220 V fun v8 V1 =>
   Tri Tryz.prog 313 #[(.string s),(.string r),(.pointer (qAa v8 0))] V1 fun z V2=>∃v9:ByteArray,∃v10:Int,z=.returned (.tuple #[(.string v9),(.int .i64 v10)])/\(Ending.returned (.tuple #[(.string v9),(.int .i64 v10)])=Ending.returned (.tuple #[.string X.1,.int .i64 X.2])/\V.sub V2):=fun s r hx b hb=>by
  have h1:=Mem.sub_new hb (cell (.slice l.p l.n l.c) 220)
  exact(c313 (l:=l) mss (hl.sub h1)).call ⟨_,_,rfl,key _ _ h1 (by rw[hx])⟩
 unfold qFD at hX
 refine⟨fun o1=>key _ _ rf ?_,fun o1=>⟨fun o2=>key _ _ rf ?_,fun o2=>⟨fun o3=>key _ _ rf ?_,fun o3=>⟨fun o4=>?_,fun o4=>⟨fun o5=>?_,fun o5=>⟨fun o6=>?_,fun o6=>⟨fun o14=>?_,fun o14=>⟨fun o15=>?_,fun o15=>⟨fun o16=>call _ _ ?_,fun o16=>⟨fun o17=>call _ _ ?_,fun o17=>⟨fun o18=>call _ _ ?_,fun o18=>⟨fun o19=>call _ _ ?_,fun o19=>⟨fun o20=>call _ _ ?_,fun o20=>⟨fun o21=>?_,fun o21=>call _ _ ?_⟩⟩⟩⟩⟩⟩⟩⟩⟩⟩⟩⟩⟩⟩
 ·rw[<- hX,if_pos o1];rfl
 ·rw[<- hX,if_neg o1,if_pos o2];rfl
 ·rw[<- hX,if_neg o1,if_neg o2,if_pos o3];rfl
 ·rw[if_neg o1,if_neg o2,if_neg o3,if_pos o4,qJQ]at hX
  obtain⟨mb,rfl,hmap⟩:=hs.at_
  refine qBz.str Tryz.underlying312 Tryz.underlying9 zero9 hmap ?_
  cases hvv:qBU sc.vars e.s with
  | none =>
   rw[hvv,Option.getD_none]at hX
   exact⟨_,_,rfl,fun h=>absurd h (by simp),fun _=>key _ _ rf (by rw[<- hX,if_pos rfl];rfl)⟩
  | some t =>
   rw[hvv,Option.getD_some]at hX
   exact⟨t,_,rfl,fun _=>key _ _ rf (by rw[<- hX,if_neg (hs.ne.some hvv)]),fun h=>absurd rfl h⟩
 ·rw[if_neg o1,if_neg o2,if_neg o3,if_neg o4,if_pos o5]at hX
  obtain⟨a1,a2,a3⟩:=at0 (by omega)
  exact⟨a1,by omega,a2,_,a3,(c299 h hv).call ⟨_,_,rfl,key _ _ rf (by rw[<- hX])⟩⟩
 ·rw[if_neg o1,if_neg o2,if_neg o3,if_neg o4,if_neg o5,if_pos o6]at hX
  refine⟨fun hb=>(c230 h).call ⟨_,rfl,fun hn=>key _ _ rf ?_,fun hn=>key _ _ rf ?_⟩,fun hb=>key _ _ rf ?_⟩
  ·simp_all
  ·rw[<- hX,if_neg (by rw[hb];simp),if_pos (eq_false_of_ne_true hn)];rfl
  ·rw[<- hX,if_pos (eq_false_of_ne_true hb)];rfl
 iterate 2
  ·rw[if_neg o1,if_neg o2,if_neg o3,if_neg o4,if_neg o5,if_neg o6,if_neg h7,if_pos (by omega)]at hX
   obtain⟨a1,a2,a3⟩:=at0 (by have:=har.2.1 (by omega);omega)
   obtain⟨b1,b2,b3⟩:=at1 (by have:=har.2.1 (by omega);omega)
   refine⟨a1,by omega,a2,_,a3,b1,by omega,b2,_,b3,(cFits _ _).call ⟨_,rfl,fun h=>key _ _ rf ?_,fun h=>⟨b1,by omega,b2,_,b3,a1,by omega,a2,_,a3,(cFits _ _).call ⟨_,rfl,fun h2=>key _ _ rf ?_,fun h2=>key _ _ rf ?_⟩⟩⟩⟩
   ·rw[<- hX,h];rfl
   ·rw[<- hX,h2,Bool.or_true];rfl
   ·rw[<- hX,eq_false_of_ne_true h,eq_false_of_ne_true h2];rfl
 iterate 2
  ·rw[if_neg o1,if_neg o2,if_neg o3,if_neg o4,if_neg o5,if_neg o6,if_neg h7,if_neg (by omega),if_pos (by omega)]at hX
   exact hX.symm
 iterate 3
  ·rw[if_neg o1,if_neg o2,if_neg o3,if_neg o4,if_neg o5,if_neg o6,if_neg h7,if_neg (by omega),if_neg (by omega),if_pos (by omega)]at hX
   exact hX.symm
 ·rw[if_neg o1,if_neg o2,if_neg o3,if_neg o4,if_neg o5,if_neg o6,if_neg h7,if_neg (by omega),if_neg (by omega),if_neg (by omega),if_pos o21]at hX
  obtain⟨a1,a2,a3⟩:=at0 (by omega)
  obtain⟨b1,b2,b3⟩:=at1 (by omega)
  obtain⟨c1,c2,c3⟩:=at2 (by omega)
  refine⟨a1,by omega,a2,_,a3,fun h0=>⟨b1,by omega,b2,_,b3,c1,by omega,c2,_,c3,(cFits _ _).call ⟨_,rfl,fun h=>⟨c1,by omega,c2,_,c3,key _ _ rf ?_⟩,fun h=>⟨c1,by omega,c2,_,c3,b1,by omega,b2,_,b3,(cFits _ _).call ⟨_,rfl,fun h2=>⟨b1,by omega,b2,_,b3,key _ _ rf ?_⟩,fun h2=>key _ _ rf ?_⟩⟩⟩⟩,fun h0=>key _ _ rf ?_⟩
  ·rw[<- hX,decide_eq_true (show xs.getD 0 sE=qAt from h0),h,fits_first h];rfl
  ·rw[<- hX,decide_eq_true (show xs.getD 0 sE=qAt from h0),h2,Bool.or_true,fits_second h h2];rfl
  ·rw[<- hX,decide_eq_true (show xs.getD 0 sE=qAt from h0),eq_false_of_ne_true h,eq_false_of_ne_true h2];rfl
  ·rw[<- hX,decide_eq_false (show ¬xs.getD 0 sE=qAt from h0)];rfl
 ·rw[if_neg o1,if_neg o2,if_neg o3,if_neg o4,if_neg o5,if_neg o6,if_neg h7,if_neg (by omega),if_neg (by omega),if_neg (by omega),if_neg o21]at hX
  exact hX.symm
theorem impExpr(h:qBO V c d)(hv:VNe d)(hs:qHP V m sc):∀(e:E),E.Ok V e->∀dd,okE dd e=true->ImpE V d c m sc e:=by
 intro e
 induction e using E.ind with
 | h e ih =>
 intro he dd hok V1 hV
 have har:=arity (qGm hok)
 have hk:∀x∈e.k,ImpE V1 d c m sc x:=fun x hx V2 h2=>ih x hx (he.kids x hx) (dd+1) (qHY hok x hx) V2 (hV.trans h2)
 have h1:=h.sub hV
 refine Pur.mk (x269 ?_)
 unfold w269
 have hlen:=qGY d sc e.k []
 refine⟨fun o7=>(impCall h1 e (he.sub hV) har.2.2.2 hk).call ⟨_,_,rfl,?_⟩,fun o7=>?_⟩
 ·have hex:qAr d sc e=if (rawT d sc e).2=0/\(rawT d sc e).1=sE then (sE,11) else rawT d sc e:=by
   rw[qIg]
   unfold rawT
   by_cases h0:(partsT d sc [] e.k).2≠0
   ·simp_all
   simp_all [if_neg,qFD,if_pos,callE_raw]
  rw[hex]
  refine⟨fun h0=>⟨fun h2=>?_,fun h2=>?_⟩,fun h0=>?_⟩
  ·rw[if_pos ⟨h0,h2⟩];exact⟨rfl,Mem.sub.refl _⟩
  ·rw[if_neg (fun h=>h2 h.2)];exact⟨rfl,Mem.sub.refl _⟩
  ·rw[if_neg (fun h=>h0 h.1)];exact⟨rfl,Mem.sub.refl _⟩
 ·rw[qIg]
  have hr:=(he.sub hV).rows
  refine loop4s (mk:=.string) (mc:=.int .i64) (md:=fun s:Sl=>.slice s.p s.n s.c) (qAm []) 0 ⟨none,0,0⟩ qBc e.k.length (fun i s V2=>∃acc,Own V1 V2 9 1 s (acc.flatMap qBe)/\partsT d sc [] e.k=partsT d sc acc (e.k.drop i)/\acc.length=i) ⟨[],Own.nil (Mem.sub.refl _) _ _,rfl,rfl⟩ ?_
  rintro i b b' s V2 J hi ⟨acc,hown,hp,hlen'⟩ hJ
  have hr1:=hr.sub hown.sub
  refine⟨fun hlt=>?_,fun hge=>?_⟩
  ·obtain⟨x,hm,hx,hdr,hl,hpp,hz,hrow⟩:=hr1.get hlt
   rw[hdr,qCa]at hp
   refine⟨hpp,hz,hlt,_,_,_,_,hrow,(hk x hm V2 hown.sub).call ⟨_,_,rfl,fun h0=>?_,fun h0=>?_⟩⟩
   ·intro b1 hb1
    rw[if_neg (fun h=>h h0)]at hp
    refine app220 (s:=s) (u:=⟨some ⟨b1,0,none⟩,1,1⟩) (xs:=acc) (ys:=[(qAr d sc x).1]) rfl rfl (hown.new hb1 _) (qIL mss) (by simp;omega) fun s' V' ho=>⟨s',rfl,hr1.succ hlt,hJ hl _ _ _ _ ⟨_,ho,hp,by simp[hlen']⟩⟩
   ·rw[if_pos h0]at hp
    rw[hp]
    simp only[ne_eq,h0,not_false_eq_true,if_true]
    exact⟨by trivial,hown.sub⟩
  ·have hge':=(hr1.done hge).2
   rw[(hr1.done hge).1,qCN]at hp
   rw[hp]
   simp only[ne_eq,not_true_eq_false,if_false]
   refine(impNode (h1.sub hown.sub) hv ((hs.sub hV).sub hown.sub) (ownS hown) (by omega) (qGm hok) o7).call ⟨_,_,rfl,rfl,hown.sub⟩
end
theorem qHs{c k:Nat}{p:Option Addr}:(if (c:Int)=(0:Int) then p else qAa p ((0:Int).toNat*k))=p:=by
 have:qAa p ((0:Int).toNat*k)=p:=by
  rw[show (0:Int).toNat*k=0 by simp]
  cases p with
  | none=>rfl
  | some a=>show some (a.add 0)=_;unfold Addr.add;rw[if_pos rfl]
 split
 ·rfl
 ·exact this
theorem sub0{n:Nat}:((n:Int)-(0:Int)).toNat=n:=by omega
theorem qAc.pre{α:Type}{V:Mem}{l:Sl}{sz:Nat}{row:α->List Value}{xs:List α}(h:qAc V l sz (xs.map row)){i:Nat}(hi:i<=xs.length):qAc V ⟨l.p,i,l.c⟩ sz ((xs.take i).map row):=by
 have hn:=h.n_eq
 have hc:=h.cap
 refine⟨by simp[hi],by grind,h.fit,fun r hr=>h.size r ?_,fun j r hj=>h.at_ j r ?_⟩
 ·grind
 grind
theorem qCe{V:Mem}{p:Option Addr}{off n:Nat}{vs:List Value}(h:V.rowp p off n=some vs):V.rowp (qAa p off) 0 n=some vs:=by
 cases p with
 | none=>cases h
 | some a =>
  have:(a.add off).add 0=a.add off:=by rfl
  show V.row ((a.add off).add 0) n=_
  rw[this];exact h
theorem c221{V:Mem}{x:Ty}:PP 221 [x.v] V (.string x.name):=by
 refine x221 ?_
 exact⟨rfl,rfl⟩
theorem c258{V:Mem}{b1 b2 b3 t1 t2 t3 i:Nat}{l:Sl}{xs:List Ty}{x y:Ty}(h1:V b1=some (cell (.func (.func 221) #[] #[]) t1))(h2:V b2=some (cell (.slice l.p l.n l.c) t2))(h3:V b3=some (cell (.int .i64 i) t3))
  (hr:qAc V l 2 (xs.map Ty.row)) (hy:xs[i]?=some y):PP 258 [x.v,pv b1,pv b2,pv b3] V (.bool (decide (x.name=y.name))):=by
 refine x258 ?_
 unfold w258
 have hn:=hr.n_eq
 have hil:=(List.getElem?_eq_some_iff.1 hy).1
 have hlt:(i:Int)<(l.n:Int):=by omega
 obtain⟨y',hm,hx,hdr,hl,hp,hz,hrow⟩:=hr.get hlt
 rw[hy]at hx
 cases hx
 exact⟨.func (.func 221) #[] #[],rfl,qBJ h1,.func (.func 221) #[] #[],rfl,qBJ h1,l,qBJ h2,_,qBJ h3,hp,hz,hlt,_,_,hrow,_,_,_,rfl,Tryz.call221,(c221 (x:=x)).callv (first:=[]) (caps:=[]) ⟨_,rfl,qCe hrow,hp,hz,hlt,qBJ h3,qBJ h2,qBJ h1,_,_,_,rfl,Tryz.call221,(c221 (x:=y)).callv (first:=[]) (caps:=[]) ⟨_,rfl,rfl,rfl⟩⟩⟩
theorem c220{V:Mem}{l:Sl}{xs:List Ty}{i:Nat}{y:Ty}(hr:qAc V l 2 (xs.map Ty.row))(hy:xs[i]?=some y):PP 220 [l.v,.int .i64 i,.func (.func 221) #[] #[]] V (.bool ((xs.take i).any fun g=>decide (g.name=y.name))):=by
 refine Pur.mk (x220 (a:=l) (c:=.func (.func 221) #[] #[]) ?_)
 unfold w220
 have hn:=hr.n_eq
 have hc:=hr.cap
 have hil:=(List.getElem?_eq_some_iff.1 hy).1
 refine⟨⟨by omega,by omega,by omega⟩,fun b1 hb1 b2 hb2 b3 hb3=>?_⟩
 have s:=(Mem.sub_new hb1 _).trans ((Mem.sub_new hb2 _).trans (Mem.sub_new hb3 (cell (.int .i64 i) 3)))
 simp only[qHs,sub0]
 refine(c126 (l:=⟨l.p,i,l.c⟩) (first:=[]) (caps:=[pv b1,pv b2,pv b3]) (qAc.pre (hr.sub s) (by omega)) Tryz.call258 (fun g=>decide (g.name=y.name)) (fun x _=>c258 ((Mem.sub_new hb3 _) _ _ ((Mem.sub_new hb2 _) _ _ mss)) ((Mem.sub_new hb3 _) _ _ mss) mss (hr.sub s) hy)).call ⟨_,rfl,rfl,s⟩
theorem c224{V:Mem}{x:Fld}:PP 224 [x.v] V (.string x.name):=by
 refine x224 ?_
 exact⟨rfl,rfl⟩
theorem c260{V:Mem}{b1 b2 b3 t1 t2 t3 i:Nat}{l:Sl}{xs:List Fld}{x y:Fld}(h1:V b1=some (cell (.func (.func 224) #[] #[]) t1))(h2:V b2=some (cell (.slice l.p l.n l.c) t2))(h3:V b3=some (cell (.int .i64 i) t3))
  (hr:qAc V l 2 (xs.map Fld.row)) (hy:xs[i]?=some y):PP 260 [x.v,pv b1,pv b2,pv b3] V (.bool (decide (x.name=y.name))):=by
 refine x260 ?_
 unfold w260
 have hn:=hr.n_eq
 have hil:=(List.getElem?_eq_some_iff.1 hy).1
 have hlt:(i:Int)<(l.n:Int):=by omega
 obtain⟨y',hm,hx,hdr,hl,hp,hz,hrow⟩:=hr.get hlt
 rw[hy]at hx
 cases hx
 exact⟨.func (.func 224) #[] #[],rfl,qBJ h1,.func (.func 224) #[] #[],rfl,qBJ h1,l,qBJ h2,_,qBJ h3,hp,hz,hlt,_,_,hrow,_,_,_,rfl,Tryz.call224,(c224 (x:=x)).callv (first:=[]) (caps:=[]) ⟨_,rfl,qCe hrow,hp,hz,hlt,qBJ h3,qBJ h2,qBJ h1,_,_,_,rfl,Tryz.call224,(c224 (x:=y)).callv (first:=[]) (caps:=[]) ⟨_,rfl,rfl,rfl⟩⟩⟩
theorem c223{V:Mem}{l:Sl}{xs:List Fld}{i:Nat}{y:Fld}(hr:qAc V l 2 (xs.map Fld.row))(hy:xs[i]?=some y):PP 223 [l.v,.int .i64 i,.func (.func 224) #[] #[]] V (.bool ((xs.take i).any fun g=>decide (g.name=y.name))):=by
 refine Pur.mk (x223 (a:=l) (c:=.func (.func 224) #[] #[]) ?_)
 unfold w223
 have hn:=hr.n_eq
 have hc:=hr.cap
 have hil:=(List.getElem?_eq_some_iff.1 hy).1
 refine⟨⟨by omega,by omega,by omega⟩,fun b1 hb1 b2 hb2 b3 hb3=>?_⟩
 have s:=(Mem.sub_new hb1 _).trans ((Mem.sub_new hb2 _).trans (Mem.sub_new hb3 (cell (.int .i64 i) 3)))
 simp only[qHs,sub0]
 refine(c122 (l:=⟨l.p,i,l.c⟩) (first:=[]) (caps:=[pv b1,pv b2,pv b3]) (qAc.pre (hr.sub s) (by omega)) Tryz.call260 (fun g=>decide (g.name=y.name)) (fun x _=>c260 ((Mem.sub_new hb3 _) _ _ ((Mem.sub_new hb2 _) _ _ mss)) ((Mem.sub_new hb3 _) _ _ mss) mss (hr.sub s) hy)).call ⟨_,rfl,rfl,s⟩
theorem c227{V:Mem}{x:Pr}:PP 227 [x.v] V (.string x.name):=by
 refine x227 ?_
 exact⟨rfl,rfl⟩
theorem c261{V:Mem}{b1 b2 b3 t1 t2 t3 i:Nat}{l:Sl}{xs:List Pr}{x y:Pr}(h1:V b1=some (cell (.func (.func 227) #[] #[]) t1))(h2:V b2=some (cell (.slice l.p l.n l.c) t2))(h3:V b3=some (cell (.int .i64 i) t3))
  (hr:qAc V l 5 (xs.map Pr.row)) (hy:xs[i]?=some y):PP 261 [x.v,pv b1,pv b2,pv b3] V (.bool (decide (x.name=y.name))):=by
 refine x261 ?_
 unfold w261
 have hn:=hr.n_eq
 have hil:=(List.getElem?_eq_some_iff.1 hy).1
 have hlt:(i:Int)<(l.n:Int):=by omega
 obtain⟨y',hm,hx,hdr,hl,hp,hz,hrow⟩:=hr.get hlt
 rw[hy]at hx
 cases hx
 exact⟨.func (.func 227) #[] #[],rfl,qBJ h1,.func (.func 227) #[] #[],rfl,qBJ h1,l,qBJ h2,_,qBJ h3,hp,hz,hlt,_,_,_,_,_,hrow,_,_,_,rfl,Tryz.call227,(c227 (x:=x)).callv (first:=[]) (caps:=[]) ⟨_,rfl,qCe hrow,hp,hz,hlt,qBJ h3,qBJ h2,qBJ h1,_,_,_,rfl,Tryz.call227,(c227 (x:=y)).callv (first:=[]) (caps:=[]) ⟨_,rfl,rfl,rfl⟩⟩⟩
theorem c226{V:Mem}{l:Sl}{xs:List Pr}{i:Nat}{y:Pr}(hr:qAc V l 5 (xs.map Pr.row))(hy:xs[i]?=some y):PP 226 [l.v,.int .i64 i,.func (.func 227) #[] #[]] V (.bool ((xs.take i).any fun g=>decide (g.name=y.name))):=by
 refine Pur.mk (x226 (a:=l) (c:=.func (.func 227) #[] #[]) ?_)
 unfold w226
 have hn:=hr.n_eq
 have hc:=hr.cap
 have hil:=(List.getElem?_eq_some_iff.1 hy).1
 refine⟨⟨by omega,by omega,by omega⟩,fun b1 hb1 b2 hb2 b3 hb3=>?_⟩
 have s:=(Mem.sub_new hb1 _).trans ((Mem.sub_new hb2 _).trans (Mem.sub_new hb3 (cell (.int .i64 i) 3)))
 simp only[qHs,sub0]
 refine(c169 (l:=⟨l.p,i,l.c⟩) (first:=[]) (caps:=[pv b1,pv b2,pv b3]) (qAc.pre (hr.sub s) (by omega)) Tryz.call261 (fun g=>decide (g.name=y.name)) (fun x _=>c261 ((Mem.sub_new hb3 _) _ _ ((Mem.sub_new hb2 _) _ _ mss)) ((Mem.sub_new hb3 _) _ _ mss) mss (hr.sub s) hy)).call ⟨_,rfl,rfl,s⟩
theorem c229{V:Mem}{x:Ms}:PP 229 [x.v] V (.string x.name):=by
 refine x229 ?_
 exact⟨rfl,rfl⟩
theorem c263{V:Mem}{b1 b2 b3 t1 t2 t3 i:Nat}{l:Sl}{xs:List Ms}{x y:Ms}(h1:V b1=some (cell (.func (.func 229) #[] #[]) t1))(h2:V b2=some (cell (.slice l.p l.n l.c) t2))(h3:V b3=some (cell (.int .i64 i) t3))
  (hr:qAc V l 7 (xs.map Ms.row)) (hy:xs[i]?=some y):PP 263 [x.v,pv b1,pv b2,pv b3] V (.bool (decide (x.name=y.name))):=by
 refine x263 ?_
 unfold w263
 have hn:=hr.n_eq
 have hil:=(List.getElem?_eq_some_iff.1 hy).1
 have hlt:(i:Int)<(l.n:Int):=by omega
 obtain⟨y',hm,hx,hdr,hl,hp,hz,hrow⟩:=hr.get hlt
 rw[hy]at hx
 cases hx
 exact⟨.func (.func 229) #[] #[],rfl,qBJ h1,.func (.func 229) #[] #[],rfl,qBJ h1,l,qBJ h2,_,qBJ h3,hp,hz,hlt,_,_,_,_,_,_,_,hrow,_,_,_,rfl,Tryz.call229,(c229 (x:=x)).callv (first:=[]) (caps:=[]) ⟨_,rfl,qCe hrow,hp,hz,hlt,qBJ h3,qBJ h2,qBJ h1,_,_,_,rfl,Tryz.call229,(c229 (x:=y)).callv (first:=[]) (caps:=[]) ⟨_,rfl,rfl,rfl⟩⟩⟩
theorem c228{V:Mem}{l:Sl}{xs:List Ms}{i:Nat}{y:Ms}(hr:qAc V l 7 (xs.map Ms.row))(hy:xs[i]?=some y):PP 228 [l.v,.int .i64 i,.func (.func 229) #[] #[]] V (.bool ((xs.take i).any fun g=>decide (g.name=y.name))):=by
 refine Pur.mk (x228 (a:=l) (c:=.func (.func 229) #[] #[]) ?_)
 unfold w228
 have hn:=hr.n_eq
 have hc:=hr.cap
 have hil:=(List.getElem?_eq_some_iff.1 hy).1
 refine⟨⟨by omega,by omega,by omega⟩,fun b1 hb1 b2 hb2 b3 hb3=>?_⟩
 have s:=(Mem.sub_new hb1 _).trans ((Mem.sub_new hb2 _).trans (Mem.sub_new hb3 (cell (.int .i64 i) 3)))
 simp only[qHs,sub0]
 refine(c262 (l:=⟨l.p,i,l.c⟩) (first:=[]) (caps:=[pv b1,pv b2,pv b3]) (qAc.pre (hr.sub s) (by omega)) Tryz.call263 (fun g=>decide (g.name=y.name)) (fun x _=>c263 ((Mem.sub_new hb3 _) _ _ ((Mem.sub_new hb2 _) _ _ mss)) ((Mem.sub_new hb3 _) _ _ mss) mss (hr.sub s) hy)).call ⟨_,rfl,rfl,s⟩
theorem c232{V:Mem}{x:Iv}:PP 232 [x.v] V (.string x.name):=by
 refine x232 ?_
 exact⟨rfl,rfl⟩
theorem c265{V:Mem}{b1 b2 b3 t1 t2 t3 i:Nat}{l:Sl}{xs:List Iv}{x y:Iv}(h1:V b1=some (cell (.func (.func 232) #[] #[]) t1))(h2:V b2=some (cell (.slice l.p l.n l.c) t2))(h3:V b3=some (cell (.int .i64 i) t3))
  (hr:qAc V l 6 (xs.map Iv.row)) (hy:xs[i]?=some y):PP 265 [x.v,pv b1,pv b2,pv b3] V (.bool (decide (x.name=y.name))):=by
 refine x265 ?_
 unfold w265
 have hn:=hr.n_eq
 have hil:=(List.getElem?_eq_some_iff.1 hy).1
 have hlt:(i:Int)<(l.n:Int):=by omega
 obtain⟨y',hm,hx,hdr,hl,hp,hz,hrow⟩:=hr.get hlt
 rw[hy]at hx
 cases hx
 exact⟨.func (.func 232) #[] #[],rfl,qBJ h1,.func (.func 232) #[] #[],rfl,qBJ h1,l,qBJ h2,_,qBJ h3,hp,hz,hlt,_,_,_,_,_,_,hrow,_,_,_,rfl,Tryz.call232,(c232 (x:=x)).callv (first:=[]) (caps:=[]) ⟨_,rfl,qCe hrow,hp,hz,hlt,qBJ h3,qBJ h2,qBJ h1,_,_,_,rfl,Tryz.call232,(c232 (x:=y)).callv (first:=[]) (caps:=[]) ⟨_,rfl,rfl,rfl⟩⟩⟩
theorem c231{V:Mem}{l:Sl}{xs:List Iv}{i:Nat}{y:Iv}(hr:qAc V l 6 (xs.map Iv.row))(hy:xs[i]?=some y):PP 231 [l.v,.int .i64 i,.func (.func 232) #[] #[]] V (.bool ((xs.take i).any fun g=>decide (g.name=y.name))):=by
 refine Pur.mk (x231 (a:=l) (c:=.func (.func 232) #[] #[]) ?_)
 unfold w231
 have hn:=hr.n_eq
 have hc:=hr.cap
 have hil:=(List.getElem?_eq_some_iff.1 hy).1
 refine⟨⟨by omega,by omega,by omega⟩,fun b1 hb1 b2 hb2 b3 hb3=>?_⟩
 have s:=(Mem.sub_new hb1 _).trans ((Mem.sub_new hb2 _).trans (Mem.sub_new hb3 (cell (.int .i64 i) 3)))
 simp only[qHs,sub0]
 refine(c264 (l:=⟨l.p,i,l.c⟩) (first:=[]) (caps:=[pv b1,pv b2,pv b3]) (qAc.pre (hr.sub s) (by omega)) Tryz.call265 (fun g=>decide (g.name=y.name)) (fun x _=>c265 ((Mem.sub_new hb3 _) _ _ ((Mem.sub_new hb2 _) _ _ mss)) ((Mem.sub_new hb3 _) _ _ mss) mss (hr.sub s) hy)).call ⟨_,rfl,rfl,s⟩
theorem c234{V:Mem}{x:Bd}:PP 234 [x.v] V (.string x.proc):=by
 refine x234 ?_
 exact⟨rfl,rfl⟩
theorem c266{V:Mem}{b1 b2 b3 t1 t2 t3 i:Nat}{l:Sl}{xs:List Bd}{x y:Bd}(h1:V b1=some (cell (.func (.func 234) #[] #[]) t1))(h2:V b2=some (cell (.slice l.p l.n l.c) t2))(h3:V b3=some (cell (.int .i64 i) t3))
  (hr:qAc V l 5 (xs.map Bd.row)) (hy:xs[i]?=some y):PP 266 [x.v,pv b1,pv b2,pv b3] V (.bool (decide (x.proc=y.proc))):=by
 refine x266 ?_
 unfold w266
 have hn:=hr.n_eq
 have hil:=(List.getElem?_eq_some_iff.1 hy).1
 have hlt:(i:Int)<(l.n:Int):=by omega
 obtain⟨y',hm,hx,hdr,hl,hp,hz,hrow⟩:=hr.get hlt
 rw[hy]at hx
 cases hx
 exact⟨.func (.func 234) #[] #[],rfl,qBJ h1,.func (.func 234) #[] #[],rfl,qBJ h1,l,qBJ h2,_,qBJ h3,hp,hz,hlt,_,_,_,_,_,hrow,_,_,_,rfl,Tryz.call234,(c234 (x:=x)).callv (first:=[]) (caps:=[]) ⟨_,rfl,qCe hrow,hp,hz,hlt,qBJ h3,qBJ h2,qBJ h1,_,_,_,rfl,Tryz.call234,(c234 (x:=y)).callv (first:=[]) (caps:=[]) ⟨_,rfl,rfl,rfl⟩⟩⟩
theorem c233{V:Mem}{l:Sl}{xs:List Bd}{i:Nat}{y:Bd}(hr:qAc V l 5 (xs.map Bd.row))(hy:xs[i]?=some y):PP 233 [l.v,.int .i64 i,.func (.func 234) #[] #[]] V (.bool ((xs.take i).any fun g=>decide (g.proc=y.proc))):=by
 refine Pur.mk (x233 (a:=l) (c:=.func (.func 234) #[] #[]) ?_)
 unfold w233
 have hn:=hr.n_eq
 have hc:=hr.cap
 have hil:=(List.getElem?_eq_some_iff.1 hy).1
 refine⟨⟨by omega,by omega,by omega⟩,fun b1 hb1 b2 hb2 b3 hb3=>?_⟩
 have s:=(Mem.sub_new hb1 _).trans ((Mem.sub_new hb2 _).trans (Mem.sub_new hb3 (cell (.int .i64 i) 3)))
 simp only[qHs,sub0]
 refine(c206 (l:=⟨l.p,i,l.c⟩) (first:=[]) (caps:=[pv b1,pv b2,pv b3]) (qAc.pre (hr.sub s) (by omega)) Tryz.call266 (fun g=>decide (g.proc=y.proc)) (fun x _=>c266 ((Mem.sub_new hb3 _) _ _ ((Mem.sub_new hb2 _) _ _ mss)) ((Mem.sub_new hb3 _) _ _ mss) mss (hr.sub s) hy)).call ⟨_,rfl,rfl,s⟩
end Go.Proofs
