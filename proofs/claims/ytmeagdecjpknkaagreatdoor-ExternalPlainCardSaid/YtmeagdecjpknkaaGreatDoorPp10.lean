/- Part 10 of a proof of a law of this seat: no statement of the seat is proved here. -/
import Derived.Test.YtmeagdecjpknkaaGreatDoorPp09
set_option linter.unusedVariables false
set_option linter.unusedSimpArgs false
namespace Go.Proofs
open Go Go.Sx
attribute [local irreducible] Go.Sx.Tri
theorem fits_first{d:Ds}{a b:ByteArray}(h:qEl d a b=true):(if a=sNil then b else a)=b:=by
 grind [qEl]
theorem fits_second{d:Ds}{a b:ByteArray}(h:¬qEl d a b=true)(h2:qEl d b a=true):(if a=sNil then b else a)=a:=by
 grind [qEl,absurd]
def qFE(d:Ds)(sc:Sc)(s:ByteArray)(l:List ByteArray):ByteArray×Int:=if sc.body=true then qGY d s l else qKC d s l
theorem measT_ne{d:Ds}{s:ByteArray}{l:List ByteArray}(h:(qKC d s l).2=0):(qKC d s l).1≠sE:=by
 unfold qKC at h ⊢
 split at h
 ·omega
 ·split at h
  ·omega
  ·rename_i h'
   simp only[if_neg h']
   unfold qGa at h ⊢
   split at h
   ·rename_i h2;rw[if_pos h2];simp only;decide
   omega
theorem callE_raw(d:Ds)(sc:Sc)(s:ByteArray)(l:List ByteArray):callE d sc s l=if (qFE d sc s l).2=0/\(qFE d sc s l).1=sE then (sE,11) else qFE d sc s l:=by
 unfold callE qFE
 by_cases hb:sc.body=true
 ·simp_all
 simp_all [if_neg,absurd,measT_ne]
section
variable{V:Mem}{d:Ds}{c:Option Addr}{m:Option Nat}{sc:Sc}
def ImpE(V:Mem)(d:Ds)(c:Option Addr)(m:Option Nat)(sc:Sc)(e:E):Prop:=∀V1,V.sub V1->PP 269 [sV c m sc,e.v] V1 (.tuple #[.string (qAq d sc e).1,.int .i64 (qAq d sc e).2])
def rawT(d:Ds)(sc:Sc)(e:E):ByteArray×Int:=if (partsT d sc [] e.k).2≠0 then (sE,(partsT d sc [] e.k).2) else qFE d sc e.s (partsT d sc [] e.k).1
theorem impCall(h:qBH V c d)(e:E)(he:E.Ok V e)(hlen:(e.k.length:Int)<=6)(hk:∀x∈e.k,ImpE V d c m sc x) :
  PP 297 [sV c m sc,e.v] V (.tuple #[.string (rawT d sc e).1,.int .i64 (rawT d sc e).2]):=by
 have hr:=he.rows
 refine Pur.mk (x297 ?_)
 unfold w297 rawT
 refine loop4s (mk:=.string) (mc:=.int .i64) (md:=fun s:Sl=>.slice s.p s.n s.c) (qAm []) 0 ⟨none,0,0⟩ qBA e.k.length (fun i s V1=>∃acc,Own V V1 9 1 s (acc.flatMap qBL)/\partsT d sc [] e.k=partsT d sc acc (e.k.drop i)/\acc.length=i) ⟨[],Own.nil (Mem.sub.refl _) _ _,rfl,rfl⟩ ?_
 rintro i b b' s V1 J hi ⟨acc,hown,hp,hlen'⟩ hJ
 have hr1:=hr.sub hown.sub
 refine⟨fun hlt=>?_,fun hge=>?_⟩
 ·obtain⟨x,hm,hx,hdr,hl,hpp,hz,hrow⟩:=hr1.get hlt
  rw[hdr,qCO]at hp
  refine⟨hpp,hz,hlt,_,_,_,_,hrow,(hk x hm V1 hown.sub).call ⟨_,_,rfl,fun h0=>?_,fun h0=>?_⟩⟩
  ·intro b1 hb1
   rw[if_neg (fun h=>h h0)]at hp
   refine app220 (s:=s) (u:=⟨some ⟨b1,0,none⟩,1,1⟩) (xs:=acc) (ys:=[(qAq d sc x).1]) rfl rfl (hown.new hb1 _) (one_row mss) (by simp;omega) fun s' V' ho=>⟨s',rfl,hr1.succ hlt,hJ hl _ _ _ _ ⟨_,ho,hp,by simp[hlen']⟩⟩
  ·rw[if_pos h0]at hp
   rw[hp]
   simp only[ne_eq,h0,not_false_eq_true,if_true]
   exact⟨by trivial,hown.sub⟩
 ·rw[(hr1.done hge).1,qEQ]at hp
  rw[hp]
  simp only[ne_eq,not_true_eq_false,if_false]
  have hrows:=ownS hown
  have h1:=h.sub hown.sub
  have key:∀{X:ByteArray×Int} (a:ByteArray) (n:Int),X=(a,n)->(Ending.returned (.tuple #[.string a,.int .i64 n])=Ending.returned (.tuple #[.string X.1,.int .i64 X.2])/\V.sub V1):=fun a n h=>by rw[h];exact⟨rfl,hown.sub⟩
  unfold qFE
  refine⟨fun hb=>?_,fun hb=>?_⟩
  ·rw[if_pos hb]
   obtain⟨mt,q1,q2⟩:=h1.procs
   refine⟨h.nn,h.nn,_,q1,qBv.str Tryz.underlying270 Tryz.underlying9 zero143 q2 ?_⟩
   unfold qGY
   cases hpr:qIm d e.s with
   | none=>exact⟨_,⟨none,0,0⟩,_,⟨none,0,0⟩,⟨none,0,0⟩,_,rfl,fun h=>absurd h (by simp),fun _=>key _ _ rfl⟩
   | some p =>
    have hox:=h1.ok.procsOk p (qKq hpr)
    have e1:=hrows.n_eq
    have e2:=hox.params.n_eq
    refine⟨_,p.ps,_,p.ls,p.bs,_,rfl,fun _=>⟨fun he=>?_,fun he=>key _ _ (if_pos (by omega))⟩,fun h=>absurd rfl h⟩
    have hle:acc.length=p.params.length:=by omega
    simp only[hle,ne_eq,not_true_eq_false,if_false]
    refine loop3 acc.length (fun i V2=>V1=V2/\qCz d acc p.params=qCz d (acc.drop i) (p.params.drop i)) ⟨rfl,rfl⟩ ?_
    rintro j b c' V2 J hi ⟨rfl,ha⟩ hJ
    refine⟨fun hlt=>?_,fun hge=>?_⟩
    ·obtain⟨y,hm',hx',hdr',hl',hp',hz',hrow'⟩:=hrows.get hlt
     obtain⟨f,hmf,hxf,hdf,hlf,hpf,hzf,hrowf⟩:=hox.params.get (i:=j) (by omega)
     rw[hdr',hdf,qCz]at ha
     refine⟨hp',hz',hlt,_,hrow',hpf,hzf,by omega,qAf hpf,_,_,hrowf,(c298 h1).call ⟨_,rfl,fun hb=>⟨hrows.succ hlt,hJ hl' _ _ _ ⟨rfl,?_⟩⟩,fun hb=>key _ _ ?_⟩⟩
     ·simp_all
     ·rw[eq_false_of_ne_true hb,Bool.false_and]at ha;rw[ha];rfl
    ·rw[(hrows.done hge).1,fitAll_nil]at ha
     simp_all
  ·rw[if_neg hb]
   exact(c312 h1 hrows).call ⟨_,_,rfl,key _ _ rfl⟩
theorem impNode(h:qBH V c d)(hv:VNe d)(hs:qHB V m sc){e:E}{l:Sl}{xs:List ByteArray}(hl:qAc V l 1 (xs.map qBL))(hlen:xs.length=e.k.length)(hok:qDm e.op e.n e.s e.k.length=true)(h7:e.op≠7) :
  PP 300 [sV c m sc,e.v,l.v] V (.tuple #[.string (qGO d sc e.op e.s xs).1,.int .i64 (qGO d sc e.op e.s xs).2]):=by
 have har:=arity hok
 refine Pur.mk (x300 ?_)
 unfold w300
 generalize hX:qGO d sc e.op e.s xs=X
 have key:∀{V1:Mem} (a:ByteArray) (n:Int),V.sub V1->X=(a,n)->(Ending.returned (.tuple #[.string a,.int .i64 n])=Ending.returned (.tuple #[.string X.1,.int .i64 X.2])/\V.sub V1):=fun a n h1 h=>by simp_all
 have rf:=Mem.sub.refl V
 have cFits:=fun a b=>c298 h (s:=a) (t:=b)
 have at0:=fun h:0<xs.length=>qJs hl h
 have at1:=fun h:1<xs.length=>qJs hl h
 have at2:=fun h:2<xs.length=>qJs hl h
 have call:∀(s r:ByteArray),X=qGa (allT xs s) r->qAr [(.slice l.p l.n l.c)] 220 V fun v8 V1 =>
   Tri Tryz.prog 313 #[(.string s),(.string r),(.pointer (qAa v8 0))] V1 fun z V2=>∃v9:ByteArray,∃v10:Int,z=.returned (.tuple #[(.string v9),(.int .i64 v10)])/\(Ending.returned (.tuple #[(.string v9),(.int .i64 v10)])=Ending.returned (.tuple #[.string X.1,.int .i64 X.2])/\V.sub V2):=fun s r hx b hb=>by
  have h1:=Mem.sub_new hb (cell (.slice l.p l.n l.c) 220)
  exact(c313 (l:=l) mss (hl.sub h1)).call ⟨_,_,rfl,key _ _ h1 (by rw[hx])⟩
 unfold qGO at hX
 refine⟨fun o1=>key _ _ rf ?_,fun o1=>⟨fun o2=>key _ _ rf ?_,fun o2=>⟨fun o3=>key _ _ rf ?_,fun o3=>⟨fun o4=>?_,fun o4=>⟨fun o5=>?_,fun o5=>⟨fun o6=>?_,fun o6=>⟨fun o14=>?_,fun o14=>⟨fun o15=>?_,fun o15=>⟨fun o16=>call _ _ ?_,fun o16=>⟨fun o17=>call _ _ ?_,fun o17=>⟨fun o18=>call _ _ ?_,fun o18=>⟨fun o19=>call _ _ ?_,fun o19=>⟨fun o20=>call _ _ ?_,fun o20=>⟨fun o21=>?_,fun o21=>call _ _ ?_⟩⟩⟩⟩⟩⟩⟩⟩⟩⟩⟩⟩⟩⟩
 ·rw[<- hX,if_pos o1];rfl
 ·rw[<- hX,if_neg o1,if_pos o2];rfl
 ·rw[<- hX,if_neg o1,if_neg o2,if_pos o3];rfl
 ·rw[if_neg o1,if_neg o2,if_neg o3,if_pos o4,qJp]at hX
  obtain⟨mb,rfl,hmap⟩:=hs.at_
  refine qBv.str Tryz.underlying312 Tryz.underlying9 zero9 hmap ?_
  cases hvv:qBN sc.vars e.s with
  | none =>
   rw[hvv,Option.getD_none]at hX
   exact⟨_,_,rfl,fun h=>absurd h (by simp),fun _=>key _ _ rf (by rw[<- hX,if_pos rfl];rfl)⟩
  | some t =>
   rw[hvv,Option.getD_some]at hX
   exact⟨t,_,rfl,fun _=>key _ _ rf (by rw[<- hX,if_neg (hs.ne.some hvv)]),fun h=>absurd rfl h⟩
 ·rw[if_neg o1,if_neg o2,if_neg o3,if_neg o4,if_pos o5]at hX
  obtain⟨a1,a2,a3⟩:=at0 (by omega)
  exact⟨a1,by omega,a2,_,a3,(c299 h hv).call ⟨_,_,rfl,key _ _ rf (by rw[<- hX])⟩⟩
 ·rw[if_neg o1,if_neg o2,if_neg o3,if_neg o4,if_neg o5,if_pos o6]at hX
  refine⟨fun hb=>(c230 h).call ⟨_,rfl,fun hn=>key _ _ rf ?_,fun hn=>key _ _ rf ?_⟩,fun hb=>key _ _ rf ?_⟩
  ·simp_all
  ·rw[<- hX,if_neg (by rw[hb];simp),if_pos (eq_false_of_ne_true hn)];rfl
  ·rw[<- hX,if_pos (eq_false_of_ne_true hb)];rfl
 iterate 2
  ·rw[if_neg o1,if_neg o2,if_neg o3,if_neg o4,if_neg o5,if_neg o6,if_neg h7,if_pos (by omega)]at hX
   obtain⟨a1,a2,a3⟩:=at0 (by have:=har.2.1 (by omega);omega)
   obtain⟨b1,b2,b3⟩:=at1 (by have:=har.2.1 (by omega);omega)
   refine⟨a1,by omega,a2,_,a3,b1,by omega,b2,_,b3,(cFits _ _).call ⟨_,rfl,fun h=>key _ _ rf ?_,fun h=>⟨b1,by omega,b2,_,b3,a1,by omega,a2,_,a3,(cFits _ _).call ⟨_,rfl,fun h2=>key _ _ rf ?_,fun h2=>key _ _ rf ?_⟩⟩⟩⟩
   ·rw[<- hX,h];rfl
   ·rw[<- hX,h2,Bool.or_true];rfl
   ·rw[<- hX,eq_false_of_ne_true h,eq_false_of_ne_true h2];rfl
 iterate 2
  ·rw[if_neg o1,if_neg o2,if_neg o3,if_neg o4,if_neg o5,if_neg o6,if_neg h7,if_neg (by omega),if_pos (by omega)]at hX
   exact hX.symm
 iterate 3
  ·rw[if_neg o1,if_neg o2,if_neg o3,if_neg o4,if_neg o5,if_neg o6,if_neg h7,if_neg (by omega),if_neg (by omega),if_pos (by omega)]at hX
   exact hX.symm
 ·rw[if_neg o1,if_neg o2,if_neg o3,if_neg o4,if_neg o5,if_neg o6,if_neg h7,if_neg (by omega),if_neg (by omega),if_neg (by omega),if_pos o21]at hX
  obtain⟨a1,a2,a3⟩:=at0 (by omega)
  obtain⟨b1,b2,b3⟩:=at1 (by omega)
  obtain⟨c1,c2,c3⟩:=at2 (by omega)
  refine⟨a1,by omega,a2,_,a3,fun h0=>⟨b1,by omega,b2,_,b3,c1,by omega,c2,_,c3,(cFits _ _).call ⟨_,rfl,fun h=>⟨c1,by omega,c2,_,c3,key _ _ rf ?_⟩,fun h=>⟨c1,by omega,c2,_,c3,b1,by omega,b2,_,b3,(cFits _ _).call ⟨_,rfl,fun h2=>⟨b1,by omega,b2,_,b3,key _ _ rf ?_⟩,fun h2=>key _ _ rf ?_⟩⟩⟩⟩,fun h0=>key _ _ rf ?_⟩
  ·rw[<- hX,decide_eq_true (show xs.getD 0 sE=qAu from h0),h,fits_first h];rfl
  ·rw[<- hX,decide_eq_true (show xs.getD 0 sE=qAu from h0),h2,Bool.or_true,fits_second h h2];rfl
  ·rw[<- hX,decide_eq_true (show xs.getD 0 sE=qAu from h0),eq_false_of_ne_true h,eq_false_of_ne_true h2];rfl
  ·rw[<- hX,decide_eq_false (show ¬xs.getD 0 sE=qAu from h0)];rfl
 ·rw[if_neg o1,if_neg o2,if_neg o3,if_neg o4,if_neg o5,if_neg o6,if_neg h7,if_neg (by omega),if_neg (by omega),if_neg (by omega),if_neg o21]at hX
  exact hX.symm
theorem impExpr(h:qBH V c d)(hv:VNe d)(hs:qHB V m sc):∀(e:E),E.Ok V e->∀dd,okE dd e=true->ImpE V d c m sc e:=by
 intro e
 induction e using E.ind with
 | h e ih =>
 intro he dd hok V1 hV
 have har:=arity (qKz hok)
 have hk:∀x∈e.k,ImpE V1 d c m sc x:=fun x hx V2 h2=>ih x hx (he.kids x hx) (dd+1) (okE_kids hok x hx) V2 (hV.trans h2)
 have h1:=h.sub hV
 refine Pur.mk (x269 ?_)
 unfold w269
 have hlen:=qJD d sc e.k []
 refine⟨fun o7=>(impCall h1 e (he.sub hV) har.2.2.2 hk).call ⟨_,_,rfl,?_⟩,fun o7=>?_⟩
 ·have hex:qAq d sc e=if (rawT d sc e).2=0/\(rawT d sc e).1=sE then (sE,11) else rawT d sc e:=by
   rw[qKS]
   unfold rawT
   by_cases h0:(partsT d sc [] e.k).2≠0
   ·simp_all
   simp_all [if_neg,qGO,if_pos,callE_raw]
  rw[hex]
  refine⟨fun h0=>⟨fun h2=>?_,fun h2=>?_⟩,fun h0=>?_⟩
  ·rw[if_pos ⟨h0,h2⟩];exact⟨rfl,Mem.sub.refl _⟩
  ·rw[if_neg (fun h=>h2 h.2)];exact⟨rfl,Mem.sub.refl _⟩
  ·rw[if_neg (fun h=>h0 h.1)];exact⟨rfl,Mem.sub.refl _⟩
 ·rw[qKS]
  have hr:=(he.sub hV).rows
  refine loop4s (mk:=.string) (mc:=.int .i64) (md:=fun s:Sl=>.slice s.p s.n s.c) (qAm []) 0 ⟨none,0,0⟩ qBA e.k.length (fun i s V2=>∃acc,Own V1 V2 9 1 s (acc.flatMap qBL)/\partsT d sc [] e.k=partsT d sc acc (e.k.drop i)/\acc.length=i) ⟨[],Own.nil (Mem.sub.refl _) _ _,rfl,rfl⟩ ?_
  rintro i b b' s V2 J hi ⟨acc,hown,hp,hlen'⟩ hJ
  have hr1:=hr.sub hown.sub
  refine⟨fun hlt=>?_,fun hge=>?_⟩
  ·obtain⟨x,hm,hx,hdr,hl,hpp,hz,hrow⟩:=hr1.get hlt
   rw[hdr,qCO]at hp
   refine⟨hpp,hz,hlt,_,_,_,_,hrow,(hk x hm V2 hown.sub).call ⟨_,_,rfl,fun h0=>?_,fun h0=>?_⟩⟩
   ·intro b1 hb1
    rw[if_neg (fun h=>h h0)]at hp
    refine app220 (s:=s) (u:=⟨some ⟨b1,0,none⟩,1,1⟩) (xs:=acc) (ys:=[(qAq d sc x).1]) rfl rfl (hown.new hb1 _) (one_row mss) (by simp;omega) fun s' V' ho=>⟨s',rfl,hr1.succ hlt,hJ hl _ _ _ _ ⟨_,ho,hp,by simp[hlen']⟩⟩
   ·rw[if_pos h0]at hp
    rw[hp]
    simp only[ne_eq,h0,not_false_eq_true,if_true]
    exact⟨by trivial,hown.sub⟩
  ·have hge':=(hr1.done hge).2
   rw[(hr1.done hge).1,qEQ]at hp
   rw[hp]
   simp only[ne_eq,not_true_eq_false,if_false]
   refine(impNode (h1.sub hown.sub) hv ((hs.sub hV).sub hown.sub) (ownS hown) (by omega) (qKz hok) o7).call ⟨_,_,rfl,rfl,hown.sub⟩
end
theorem qFX{c k:Nat}{p:Option Addr}:(if (c:Int)=(0:Int) then p else qAa p ((0:Int).toNat*k))=p:=by
 have:qAa p ((0:Int).toNat*k)=p:=by
  rw[show (0:Int).toNat*k=0 by simp]
  cases p with
  | none=>rfl
  | some a=>show some (a.add 0)=_;unfold Addr.add;rw[if_pos rfl]
 split
 ·rfl
 ·exact this
theorem sub0{n:Nat}:((n:Int)-(0:Int)).toNat=n:=by omega
theorem qAc.pre{α:Type}{V:Mem}{l:Sl}{sz:Nat}{row:α->List Value}{xs:List α}(h:qAc V l sz (xs.map row)){i:Nat}(hi:i<=xs.length):qAc V ⟨l.p,i,l.c⟩ sz ((xs.take i).map row):=by
 have hn:=h.n_eq
 have hc:=h.cap
 refine⟨by simp[hi],by grind,h.fit,fun r hr=>h.size r ?_,fun j r hj=>h.at_ j r ?_⟩
 ·grind
 grind
theorem qBX{V:Mem}{p:Option Addr}{off n:Nat}{vs:List Value}(h:V.rowp p off n=some vs):V.rowp (qAa p off) 0 n=some vs:=by
 cases p with
 | none=>cases h
 | some a =>
  have:(a.add off).add 0=a.add off:=by rfl
  show V.row ((a.add off).add 0) n=_
  rw[this];exact h
theorem c221{V:Mem}{x:Ty}:PP 221 [x.v] V (.string x.name):=by
 refine x221 ?_
 exact⟨rfl,rfl⟩
theorem c258{V:Mem}{b1 b2 b3 t1 t2 t3 i:Nat}{l:Sl}{xs:List Ty}{x y:Ty}(h1:V b1=some (cell (.func (.func 221) #[] #[]) t1))(h2:V b2=some (cell (.slice l.p l.n l.c) t2))(h3:V b3=some (cell (.int .i64 i) t3))
  (hr:qAc V l 2 (xs.map Ty.row)) (hy:xs[i]?=some y):PP 258 [x.v,pv b1,pv b2,pv b3] V (.bool (decide (x.name=y.name))):=by
 refine x258 ?_
 unfold w258
 have hn:=hr.n_eq
 have hil:=(List.getElem?_eq_some_iff.1 hy).1
 have hlt:(i:Int)<(l.n:Int):=by omega
 obtain⟨y',hm,hx,hdr,hl,hp,hz,hrow⟩:=hr.get hlt
 rw[hy]at hx
 cases hx
 exact⟨.func (.func 221) #[] #[],rfl,qBD h1,.func (.func 221) #[] #[],rfl,qBD h1,l,qBD h2,_,qBD h3,hp,hz,hlt,_,_,hrow,_,_,_,rfl,Tryz.call221,(c221 (x:=x)).callv (first:=[]) (caps:=[]) ⟨_,rfl,qBX hrow,hp,hz,hlt,qBD h3,qBD h2,qBD h1,_,_,_,rfl,Tryz.call221,(c221 (x:=y)).callv (first:=[]) (caps:=[]) ⟨_,rfl,rfl,rfl⟩⟩⟩
theorem c220{V:Mem}{l:Sl}{xs:List Ty}{i:Nat}{y:Ty}(hr:qAc V l 2 (xs.map Ty.row))(hy:xs[i]?=some y):PP 220 [l.v,.int .i64 i,.func (.func 221) #[] #[]] V (.bool ((xs.take i).any fun g=>decide (g.name=y.name))):=by
 refine Pur.mk (x220 (a:=l) (c:=.func (.func 221) #[] #[]) ?_)
 unfold w220
 have hn:=hr.n_eq
 have hc:=hr.cap
 have hil:=(List.getElem?_eq_some_iff.1 hy).1
 refine⟨⟨by omega,by omega,by omega⟩,fun b1 hb1 b2 hb2 b3 hb3=>?_⟩
 have s:=(Mem.sub_new hb1 _).trans ((Mem.sub_new hb2 _).trans (Mem.sub_new hb3 (cell (.int .i64 i) 3)))
 simp only[qFX,sub0]
 refine(c126 (l:=⟨l.p,i,l.c⟩) (first:=[]) (caps:=[pv b1,pv b2,pv b3]) (qAc.pre (hr.sub s) (by omega)) Tryz.call258 (fun g=>decide (g.name=y.name)) (fun x _=>c258 ((Mem.sub_new hb3 _) _ _ ((Mem.sub_new hb2 _) _ _ mss)) ((Mem.sub_new hb3 _) _ _ mss) mss (hr.sub s) hy)).call ⟨_,rfl,rfl,s⟩
theorem c224{V:Mem}{x:Fld}:PP 224 [x.v] V (.string x.name):=by
 refine x224 ?_
 exact⟨rfl,rfl⟩
theorem c260{V:Mem}{b1 b2 b3 t1 t2 t3 i:Nat}{l:Sl}{xs:List Fld}{x y:Fld}(h1:V b1=some (cell (.func (.func 224) #[] #[]) t1))(h2:V b2=some (cell (.slice l.p l.n l.c) t2))(h3:V b3=some (cell (.int .i64 i) t3))
  (hr:qAc V l 2 (xs.map Fld.row)) (hy:xs[i]?=some y):PP 260 [x.v,pv b1,pv b2,pv b3] V (.bool (decide (x.name=y.name))):=by
 refine x260 ?_
 unfold w260
 have hn:=hr.n_eq
 have hil:=(List.getElem?_eq_some_iff.1 hy).1
 have hlt:(i:Int)<(l.n:Int):=by omega
 obtain⟨y',hm,hx,hdr,hl,hp,hz,hrow⟩:=hr.get hlt
 rw[hy]at hx
 cases hx
 exact⟨.func (.func 224) #[] #[],rfl,qBD h1,.func (.func 224) #[] #[],rfl,qBD h1,l,qBD h2,_,qBD h3,hp,hz,hlt,_,_,hrow,_,_,_,rfl,Tryz.call224,(c224 (x:=x)).callv (first:=[]) (caps:=[]) ⟨_,rfl,qBX hrow,hp,hz,hlt,qBD h3,qBD h2,qBD h1,_,_,_,rfl,Tryz.call224,(c224 (x:=y)).callv (first:=[]) (caps:=[]) ⟨_,rfl,rfl,rfl⟩⟩⟩
theorem c223{V:Mem}{l:Sl}{xs:List Fld}{i:Nat}{y:Fld}(hr:qAc V l 2 (xs.map Fld.row))(hy:xs[i]?=some y):PP 223 [l.v,.int .i64 i,.func (.func 224) #[] #[]] V (.bool ((xs.take i).any fun g=>decide (g.name=y.name))):=by
 refine Pur.mk (x223 (a:=l) (c:=.func (.func 224) #[] #[]) ?_)
 unfold w223
 have hn:=hr.n_eq
 have hc:=hr.cap
 have hil:=(List.getElem?_eq_some_iff.1 hy).1
 refine⟨⟨by omega,by omega,by omega⟩,fun b1 hb1 b2 hb2 b3 hb3=>?_⟩
 have s:=(Mem.sub_new hb1 _).trans ((Mem.sub_new hb2 _).trans (Mem.sub_new hb3 (cell (.int .i64 i) 3)))
 simp only[qFX,sub0]
 refine(c122 (l:=⟨l.p,i,l.c⟩) (first:=[]) (caps:=[pv b1,pv b2,pv b3]) (qAc.pre (hr.sub s) (by omega)) Tryz.call260 (fun g=>decide (g.name=y.name)) (fun x _=>c260 ((Mem.sub_new hb3 _) _ _ ((Mem.sub_new hb2 _) _ _ mss)) ((Mem.sub_new hb3 _) _ _ mss) mss (hr.sub s) hy)).call ⟨_,rfl,rfl,s⟩
theorem c227{V:Mem}{x:Pr}:PP 227 [x.v] V (.string x.name):=by
 refine x227 ?_
 exact⟨rfl,rfl⟩
theorem c261{V:Mem}{b1 b2 b3 t1 t2 t3 i:Nat}{l:Sl}{xs:List Pr}{x y:Pr}(h1:V b1=some (cell (.func (.func 227) #[] #[]) t1))(h2:V b2=some (cell (.slice l.p l.n l.c) t2))(h3:V b3=some (cell (.int .i64 i) t3))
  (hr:qAc V l 5 (xs.map Pr.row)) (hy:xs[i]?=some y):PP 261 [x.v,pv b1,pv b2,pv b3] V (.bool (decide (x.name=y.name))):=by
 refine x261 ?_
 unfold w261
 have hn:=hr.n_eq
 have hil:=(List.getElem?_eq_some_iff.1 hy).1
 have hlt:(i:Int)<(l.n:Int):=by omega
 obtain⟨y',hm,hx,hdr,hl,hp,hz,hrow⟩:=hr.get hlt
 rw[hy]at hx
 cases hx
 exact⟨.func (.func 227) #[] #[],rfl,qBD h1,.func (.func 227) #[] #[],rfl,qBD h1,l,qBD h2,_,qBD h3,hp,hz,hlt,_,_,_,_,_,hrow,_,_,_,rfl,Tryz.call227,(c227 (x:=x)).callv (first:=[]) (caps:=[]) ⟨_,rfl,qBX hrow,hp,hz,hlt,qBD h3,qBD h2,qBD h1,_,_,_,rfl,Tryz.call227,(c227 (x:=y)).callv (first:=[]) (caps:=[]) ⟨_,rfl,rfl,rfl⟩⟩⟩
theorem c226{V:Mem}{l:Sl}{xs:List Pr}{i:Nat}{y:Pr}(hr:qAc V l 5 (xs.map Pr.row))(hy:xs[i]?=some y):PP 226 [l.v,.int .i64 i,.func (.func 227) #[] #[]] V (.bool ((xs.take i).any fun g=>decide (g.name=y.name))):=by
 refine Pur.mk (x226 (a:=l) (c:=.func (.func 227) #[] #[]) ?_)
 unfold w226
 have hn:=hr.n_eq
 have hc:=hr.cap
 have hil:=(List.getElem?_eq_some_iff.1 hy).1
 refine⟨⟨by omega,by omega,by omega⟩,fun b1 hb1 b2 hb2 b3 hb3=>?_⟩
 have s:=(Mem.sub_new hb1 _).trans ((Mem.sub_new hb2 _).trans (Mem.sub_new hb3 (cell (.int .i64 i) 3)))
 simp only[qFX,sub0]
 refine(c169 (l:=⟨l.p,i,l.c⟩) (first:=[]) (caps:=[pv b1,pv b2,pv b3]) (qAc.pre (hr.sub s) (by omega)) Tryz.call261 (fun g=>decide (g.name=y.name)) (fun x _=>c261 ((Mem.sub_new hb3 _) _ _ ((Mem.sub_new hb2 _) _ _ mss)) ((Mem.sub_new hb3 _) _ _ mss) mss (hr.sub s) hy)).call ⟨_,rfl,rfl,s⟩
theorem c229{V:Mem}{x:Ms}:PP 229 [x.v] V (.string x.name):=by
 refine x229 ?_
 exact⟨rfl,rfl⟩
theorem c263{V:Mem}{b1 b2 b3 t1 t2 t3 i:Nat}{l:Sl}{xs:List Ms}{x y:Ms}(h1:V b1=some (cell (.func (.func 229) #[] #[]) t1))(h2:V b2=some (cell (.slice l.p l.n l.c) t2))(h3:V b3=some (cell (.int .i64 i) t3))
  (hr:qAc V l 7 (xs.map Ms.row)) (hy:xs[i]?=some y):PP 263 [x.v,pv b1,pv b2,pv b3] V (.bool (decide (x.name=y.name))):=by
 refine x263 ?_
 unfold w263
 have hn:=hr.n_eq
 have hil:=(List.getElem?_eq_some_iff.1 hy).1
 have hlt:(i:Int)<(l.n:Int):=by omega
 obtain⟨y',hm,hx,hdr,hl,hp,hz,hrow⟩:=hr.get hlt
 rw[hy]at hx
 cases hx
 exact⟨.func (.func 229) #[] #[],rfl,qBD h1,.func (.func 229) #[] #[],rfl,qBD h1,l,qBD h2,_,qBD h3,hp,hz,hlt,_,_,_,_,_,_,_,hrow,_,_,_,rfl,Tryz.call229,(c229 (x:=x)).callv (first:=[]) (caps:=[]) ⟨_,rfl,qBX hrow,hp,hz,hlt,qBD h3,qBD h2,qBD h1,_,_,_,rfl,Tryz.call229,(c229 (x:=y)).callv (first:=[]) (caps:=[]) ⟨_,rfl,rfl,rfl⟩⟩⟩
theorem c228{V:Mem}{l:Sl}{xs:List Ms}{i:Nat}{y:Ms}(hr:qAc V l 7 (xs.map Ms.row))(hy:xs[i]?=some y):PP 228 [l.v,.int .i64 i,.func (.func 229) #[] #[]] V (.bool ((xs.take i).any fun g=>decide (g.name=y.name))):=by
 refine Pur.mk (x228 (a:=l) (c:=.func (.func 229) #[] #[]) ?_)
 unfold w228
 have hn:=hr.n_eq
 have hc:=hr.cap
 have hil:=(List.getElem?_eq_some_iff.1 hy).1
 refine⟨⟨by omega,by omega,by omega⟩,fun b1 hb1 b2 hb2 b3 hb3=>?_⟩
 have s:=(Mem.sub_new hb1 _).trans ((Mem.sub_new hb2 _).trans (Mem.sub_new hb3 (cell (.int .i64 i) 3)))
 simp only[qFX,sub0]
 refine(c262 (l:=⟨l.p,i,l.c⟩) (first:=[]) (caps:=[pv b1,pv b2,pv b3]) (qAc.pre (hr.sub s) (by omega)) Tryz.call263 (fun g=>decide (g.name=y.name)) (fun x _=>c263 ((Mem.sub_new hb3 _) _ _ ((Mem.sub_new hb2 _) _ _ mss)) ((Mem.sub_new hb3 _) _ _ mss) mss (hr.sub s) hy)).call ⟨_,rfl,rfl,s⟩
theorem c232{V:Mem}{x:Iv}:PP 232 [x.v] V (.string x.name):=by
 refine x232 ?_
 exact⟨rfl,rfl⟩
theorem c265{V:Mem}{b1 b2 b3 t1 t2 t3 i:Nat}{l:Sl}{xs:List Iv}{x y:Iv}(h1:V b1=some (cell (.func (.func 232) #[] #[]) t1))(h2:V b2=some (cell (.slice l.p l.n l.c) t2))(h3:V b3=some (cell (.int .i64 i) t3))
  (hr:qAc V l 6 (xs.map Iv.row)) (hy:xs[i]?=some y):PP 265 [x.v,pv b1,pv b2,pv b3] V (.bool (decide (x.name=y.name))):=by
 refine x265 ?_
 unfold w265
 have hn:=hr.n_eq
 have hil:=(List.getElem?_eq_some_iff.1 hy).1
 have hlt:(i:Int)<(l.n:Int):=by omega
 obtain⟨y',hm,hx,hdr,hl,hp,hz,hrow⟩:=hr.get hlt
 rw[hy]at hx
 cases hx
 exact⟨.func (.func 232) #[] #[],rfl,qBD h1,.func (.func 232) #[] #[],rfl,qBD h1,l,qBD h2,_,qBD h3,hp,hz,hlt,_,_,_,_,_,_,hrow,_,_,_,rfl,Tryz.call232,(c232 (x:=x)).callv (first:=[]) (caps:=[]) ⟨_,rfl,qBX hrow,hp,hz,hlt,qBD h3,qBD h2,qBD h1,_,_,_,rfl,Tryz.call232,(c232 (x:=y)).callv (first:=[]) (caps:=[]) ⟨_,rfl,rfl,rfl⟩⟩⟩
theorem c231{V:Mem}{l:Sl}{xs:List Iv}{i:Nat}{y:Iv}(hr:qAc V l 6 (xs.map Iv.row))(hy:xs[i]?=some y):PP 231 [l.v,.int .i64 i,.func (.func 232) #[] #[]] V (.bool ((xs.take i).any fun g=>decide (g.name=y.name))):=by
 refine Pur.mk (x231 (a:=l) (c:=.func (.func 232) #[] #[]) ?_)
 unfold w231
 have hn:=hr.n_eq
 have hc:=hr.cap
 have hil:=(List.getElem?_eq_some_iff.1 hy).1
 refine⟨⟨by omega,by omega,by omega⟩,fun b1 hb1 b2 hb2 b3 hb3=>?_⟩
 have s:=(Mem.sub_new hb1 _).trans ((Mem.sub_new hb2 _).trans (Mem.sub_new hb3 (cell (.int .i64 i) 3)))
 simp only[qFX,sub0]
 refine(c264 (l:=⟨l.p,i,l.c⟩) (first:=[]) (caps:=[pv b1,pv b2,pv b3]) (qAc.pre (hr.sub s) (by omega)) Tryz.call265 (fun g=>decide (g.name=y.name)) (fun x _=>c265 ((Mem.sub_new hb3 _) _ _ ((Mem.sub_new hb2 _) _ _ mss)) ((Mem.sub_new hb3 _) _ _ mss) mss (hr.sub s) hy)).call ⟨_,rfl,rfl,s⟩
theorem c234{V:Mem}{x:Bd}:PP 234 [x.v] V (.string x.proc):=by
 refine x234 ?_
 exact⟨rfl,rfl⟩
theorem c266{V:Mem}{b1 b2 b3 t1 t2 t3 i:Nat}{l:Sl}{xs:List Bd}{x y:Bd}(h1:V b1=some (cell (.func (.func 234) #[] #[]) t1))(h2:V b2=some (cell (.slice l.p l.n l.c) t2))(h3:V b3=some (cell (.int .i64 i) t3))
  (hr:qAc V l 5 (xs.map Bd.row)) (hy:xs[i]?=some y):PP 266 [x.v,pv b1,pv b2,pv b3] V (.bool (decide (x.proc=y.proc))):=by
 refine x266 ?_
 unfold w266
 have hn:=hr.n_eq
 have hil:=(List.getElem?_eq_some_iff.1 hy).1
 have hlt:(i:Int)<(l.n:Int):=by omega
 obtain⟨y',hm,hx,hdr,hl,hp,hz,hrow⟩:=hr.get hlt
 rw[hy]at hx
 cases hx
 exact⟨.func (.func 234) #[] #[],rfl,qBD h1,.func (.func 234) #[] #[],rfl,qBD h1,l,qBD h2,_,qBD h3,hp,hz,hlt,_,_,_,_,_,hrow,_,_,_,rfl,Tryz.call234,(c234 (x:=x)).callv (first:=[]) (caps:=[]) ⟨_,rfl,qBX hrow,hp,hz,hlt,qBD h3,qBD h2,qBD h1,_,_,_,rfl,Tryz.call234,(c234 (x:=y)).callv (first:=[]) (caps:=[]) ⟨_,rfl,rfl,rfl⟩⟩⟩
theorem c233{V:Mem}{l:Sl}{xs:List Bd}{i:Nat}{y:Bd}(hr:qAc V l 5 (xs.map Bd.row))(hy:xs[i]?=some y):PP 233 [l.v,.int .i64 i,.func (.func 234) #[] #[]] V (.bool ((xs.take i).any fun g=>decide (g.proc=y.proc))):=by
 refine Pur.mk (x233 (a:=l) (c:=.func (.func 234) #[] #[]) ?_)
 unfold w233
 have hn:=hr.n_eq
 have hc:=hr.cap
 have hil:=(List.getElem?_eq_some_iff.1 hy).1
 refine⟨⟨by omega,by omega,by omega⟩,fun b1 hb1 b2 hb2 b3 hb3=>?_⟩
 have s:=(Mem.sub_new hb1 _).trans ((Mem.sub_new hb2 _).trans (Mem.sub_new hb3 (cell (.int .i64 i) 3)))
 simp only[qFX,sub0]
 refine(c206 (l:=⟨l.p,i,l.c⟩) (first:=[]) (caps:=[pv b1,pv b2,pv b3]) (qAc.pre (hr.sub s) (by omega)) Tryz.call266 (fun g=>decide (g.proc=y.proc)) (fun x _=>c266 ((Mem.sub_new hb3 _) _ _ ((Mem.sub_new hb2 _) _ _ mss)) ((Mem.sub_new hb3 _) _ _ mss) mss (hr.sub s) hy)).call ⟨_,rfl,rfl,s⟩
end Go.Proofs
namespace Go.Proofs
open Go Go.Sx
theorem wrap_id{n:Nat}(h:n<=2147483648):IntKind.wrap .i64 (n:Int)=n:=qHq ⟨by show (-9223372036854775808:Int)<=n;omega,by show (n:Int)<=9223372036854775807;omega⟩
theorem qHz{P:Program}(w:World)(t u ty e:TypeId)(i:TypeInfo)(z:Value)(ht:P.underlying t=some (.slice e))(hu:P.underlying u=some (.int .i64))(hi:P.info? e=some i)(hz:i.zero=some z)
  (n:Nat) (h0:0<n) (hn:n<=2147483648) (hb:i.bytes<=65536) (hs:0<i.size) :
  (Builtin.append_ #[t,u] ty #[.slice none 0 0,.int .i64 n]).run P w =
   .ok (.slice (some ⟨w.heap.size,0,none⟩) n (grownCap w n 0 e)) (w.drew.alloc (.cells (Builtin.zeroCells z.cells n++Builtin.zeroCells z.cells (grownCap w n 0 e-n)) e)):=by
 have hn':n≠0:=by omega
 have h63':¬(9223372036854775807<(n:Int)):=by omega
 have hbm:n*i.bytes<=281474976710656:=Nat.le_trans (Nat.mul_le_mul hn hb) (by decide)
 have h48':¬(281474976710656<Builtin.nextslicecap n 0*i.bytes):=by rw[nextslicecap_zero h0];omega
 have h48i:¬(281474976710656<(n:Int)*(i.bytes:Int)):=by omega
 have hlt:¬((n:Int)<0):=by omega
 have hsz:i.size≠0:=by omega
 simp[Builtin.append_,run_underlying ht,run_underlying hu,sizeOf,typeInfo,zeroValue,hi,hz,hn',h63',h48',h48i,hlt,hsz,wrap_id hn,asInt,asIntOf,Question.forced,run_firstCells_none,newRow,grownCap]
 simp_all [absurd,Nat.ne_of_gt,Nat.mul_pos]
theorem GenK.appendZ{P:Program}{V0 V:Mem}{t u e ty:TypeId}{i:TypeInfo}{z:Value}{sz:Nat}(ht:P.underlying t=some (.slice e))(hu:P.underlying u=some (.int .i64))(hi:P.info? e=some i)(hz:i.zero=some z)(hsize:i.size=sz)(hzs:z.cells.size=sz)(hsz:0<sz)(hby:i.bytes<=65536)
  {x y:Operand} {vals:Operand->Value} {n:Nat} (hx:vals x=.slice none 0 0) (hy:vals y=.int .i64 n) (h0:0<n) (hn:n<=2147483648) (hV:V0.sub V) {q:Value->Mem->Prop}
  (hq:∀b c V',Own V0 V' e sz ⟨some ⟨b,0,none⟩,0,c⟩ []->n<=c->c<=9223372036854775807->q (.slice (sa b) n c) V') :
  GenK P (.call { callee:=.builtin .append,args:=#[x,y],argTypes:=#[t,u] }) ty vals V q:=by
 intro w hw
 subst hsize
 have hr:=qHz (P:=P) w t u ty e i z ht hu hi hz n h0 hn hby hsz
 obtain⟨hnone,hf⟩:=Frm.new hw (.cells (Builtin.zeroCells z.cells n++Builtin.zeroCells z.cells (grownCap w n 0 e-n)) e)
 have hge:=grownCap_ge w n 0 e
 have hle:=grownCap_le_maxLen w n 0 e (by simp only[maxLen];omega)
 refine⟨_,_,_,?_,hf,hq w.heap.size (grownCap w n 0 e) _ ⟨Mem.sub.new hV hnone _,by simp,.inr ⟨w.heap.size,_,rfl,?_,Mem.set_same _ _ _,Nat.zero_le _,hle,?_,by simp⟩⟩ hge (by grind [maxLen])⟩
 ·unfold execOp
  simp only[resolve,invoke,builtin,Sem.run_bind,Sem.run_pure,Result.andThen_ok,List.map_toArray,List.map_cons,List.map_nil,hx,hy,hr]
 ·cases h:V0 w.heap.size with
  | none=>rfl
  | some x=>rw[hV _ _ h]at hnone;cases hnone
 ·simp only[Array.size_append,size_zeroCells,hzs,<- Nat.add_mul]
  simp_all
section
variable{V:Mem}
theorem growF{V0:Mem}(hV:V0.sub V){n:Nat}(hn:n<=1000000):Tri Tryz.prog 198 #[.slice none 0 0,.int .i64 n] V fun r V'=>∃s:Sl,r=.returned (.slice s.p s.n s.c)/\Own V0 V' 101 2 s []:=by
 refine x198 (a:=⟨none,0,0⟩) ?_
 unfold w198
 refine⟨fun h=>absurd h (by omega),fun _=>⟨⟨by simp,by simp⟩,⟨by simp <;> omega,by simp <;> omega⟩,fun h=>⟨⟨by simp,by simp,by simp⟩,?_⟩,fun h=>⟨⟨none,0,0⟩,rfl,Own.nil hV _ _⟩⟩⟩
 have hi:Tryz.prog.info? 101=some (ti 101):=by kernel_rfl
 have hz:(ti 101).zero=some ((ti 101).zero.getD undef):=by kernel_rfl
 have h1:(ti 101).size=2:=by kernel_rfl
 have h2:((ti 101).zero.getD undef).cells.size=2:=by kernel_rfl
 have h3:(ti 101).bytes<=65536:=by rw[show (ti 101).bytes=32 by kernel_rfl];omega
 refine GenK.appendZ (n:=n) Tryz.underlying23 Tryz.underlying3 hi hz h1 h2 (by decide) h3 rfl ?_ (by simp at h;omega) (by omega) hV fun b c V' ho hc hc2=>⟨⟨some ⟨b,0,none⟩,n,c⟩,rfl,⟨by simp,by simp,by simp⟩,?_⟩
 ·rfl
 ·simp only[qFX]
  grind
theorem concatF{l:Sl}{ls:List (Sl×List Fld)}(h:qAc V l 1 (ls.map fun x=>[x.1.v]))(hls:∀x∈ls,qAc V x.1 2 (x.2.map Fld.row))(hlen:ls.length<=100)(hle:∀x∈ls,x.2.length<=1000) :
  Tri Tryz.prog 163 #[.slice l.p l.n l.c] V fun r V'=>∃s:Sl,r=.returned (.slice s.p s.n s.c)/\V.sub V'/\qAc V' s 2 ((ls.flatMap (·.2)).map Fld.row):=by
 refine x163 ?_
 unfold w163
 have hn:=h.n_eq
 refine qFi (mk:=.int .i64) qGk ls.length (fun i n V1=>V=V1/\0<=n/\n<=1000*i) ⟨rfl,by omega,by omega⟩ ?_
 rintro i n V1 J hi ⟨rfl,h0,hb⟩ hJ
 refine⟨fun hlt=>?_,fun hge=>?_⟩
 ·obtain⟨x,hm,hx,hdr,hl,hp,hz,hrow⟩:=h.get hlt
  have e1:=(hls x hm).n_eq
  have e2:=hle x hm
  exact⟨hp,hz,hlt,x.1,hrow,⟨by omega,by omega⟩,fun hneg=>absurd hneg (by omega),fun _=>⟨h.succ hlt,hJ hl _ _ ⟨rfl,by omega,by omega⟩⟩⟩
 ·obtain⟨k,rfl⟩:=Int.eq_ofNat_of_zero_le h0
  refine Tri.mono (growF (Mem.sub.refl V) (n:=k) (by omega)) ?_
  rintro _ V1 ⟨s,rfl,ho⟩
  refine⟨s,rfl,?_⟩
  refine qFi (mk:=fun s:Sl=>.slice s.p s.n s.c) (b0:=s) qBA ls.length (fun i s V2=>Own V V2 101 2 s (((ls.take i).flatMap (·.2)).flatMap Fld.row)/\((ls.take i).flatMap (·.2)).length<=1000*i) ⟨ho,by simp⟩ ?_
  rintro i s V2 J hi ⟨ho,hb⟩ hJ
  have h2:=h.sub ho.sub
  refine⟨fun hlt=>?_,fun hge=>?_⟩
  ·obtain⟨x,hm,hx,hdr,hl,hp,hz,hrow⟩:=h2.get hlt
   have e2:=hle x hm
   refine⟨hp,hz,hlt,x.1,hrow,?_⟩
   refine app23 (s:=s) (u:=x.1) (xs:=(ls.take i).flatMap (·.2)) (ys:=x.2) rfl rfl ho ((hls x hm).sub ho.sub) (by omega) fun s' V' ho'=>⟨s',rfl,h2.succ hlt,hJ hl _ _ ?_⟩
   grind
  ·have:=(h2.done hge).2
   rw[List.take_of_length_le this]at ho
   exact⟨s,rfl,ho.sub,ownF ho⟩
end
end Go.Proofs
namespace Go.Proofs
open Go Go.Sx
attribute [local irreducible] Go.Sx.Tri
section
variable{V:Mem}{d:Ds}{c:Option Addr}{m:Option Nat}{sc:Sc}
theorem c268(h:qBH V c d)(hv:VNe d)(hs:qHB V m sc)(hbody:sc.body=true){x:S}(hx:S.Ok V x)(hsh:qBK x.op x.s x.es x.ls.length x.xs.length=true){res:ByteArray} :
  PP 268 [sV c m sc,x.v,.string res] V (.int .i64 (qGD d sc res x.op x.s x.es)):=by
 obtain⟨a6,a134,a2,a5,alen,aok⟩:=shape_arity hsh
 rw[S.v_eq]
 refine Pur.mk (x268 ?_)
 unfold w268
 have hf:=qIJ hx
 refine⟨fun o6=>?_,fun o6=>?_⟩
 ·obtain⟨e0,he0,-⟩:=a6 o6
  rcases hf with⟨h',-⟩|⟨e0',r,he,hn,hp0,hp2,hrow⟩
  ·simp_all
  ·rw[he0]at he
   cases he
   have hok:=aok e0 (by rw[he0];simp)
   have hoe:=hx.eOk e0 (by rw[he0];simp)
   have hk:∀y∈e0.k,ImpE V d c m sc y:=fun y hy=>impExpr h hv hs y (hoe.kids y hy) 2 (okE_kids hok y hy)
   refine⟨hp0,by omega,by omega,_,_,_,_,hrow,(impCall h e0 hoe (arity (qKz hok)).2.2.2 hk).call ⟨_,_,rfl,?_⟩⟩
   unfold qGD rawT qFE
   rw[if_pos o6,he0]
   simp only[if_pos hbody]
   split
   ·exact⟨rfl,Mem.sub.refl _⟩
   ·exact⟨rfl,Mem.sub.refl _⟩
 ·unfold qGD
  rw[if_neg o6]
  have hr:=hx.eRows
  refine qIv (mk:=.int .i64) (mc:=fun s:Sl=>.slice s.p s.n s.c) 0 ⟨none,0,0⟩ qBA x.es.length (fun i s V2=>∃acc,Own V V2 9 1 s (acc.flatMap qBL)/\partsT d sc [] x.es=partsT d sc acc (x.es.drop i)/\acc.length=i) ⟨[],Own.nil (Mem.sub.refl _) _ _,rfl,rfl⟩ ?_
  rintro i b s V2 J hi ⟨acc,hown,hpt,hlen'⟩ hJ
  have hr1:=hr.sub hown.sub
  refine⟨fun hlt=>?_,fun hge=>?_⟩
  ·obtain⟨y,hm,hxy,hdr,hl,hpp,hz,hrow⟩:=hr1.get hlt
   rw[hdr,qCO]at hpt
   refine⟨hpp,hz,hlt,_,_,_,_,hrow,(impExpr h hv hs y (hx.eOk y hm) 1 (aok y hm) V2 hown.sub).call ⟨_,_,rfl,fun h0=>?_,fun h0=>?_⟩⟩
   ·intro b1 hb1
    rw[if_neg (fun h=>h h0)]at hpt
    refine app220 (s:=s) (u:=⟨some ⟨b1,0,none⟩,1,1⟩) (xs:=acc) (ys:=[(qAq d sc y).1]) rfl rfl (hown.new hb1 _) (one_row mss) (by grind) fun s' V' ho=>⟨s',rfl,hr1.succ hlt,hJ hl _ _ _ ⟨_,ho,hpt,by simp[hlen']⟩⟩
   ·rw[if_pos h0]at hpt
    rw[hpt]
    simp only[h0,ne_eq,not_false_eq_true,if_true]
    exact⟨by trivial,hown.sub⟩
  ·have hge':=(hr1.done hge).2
   rw[(hr1.done hge).1,qEQ]at hpt
   rw[hpt]
   simp only[ne_eq,not_true_eq_false,if_false]
   have hrows:=ownS hown
   have hal:acc.length=x.es.length:=by omega
   have hsub:=hown.sub
   have h2:=h.sub hown.sub
   have sln:=hrows.n_eq
   have at0:=fun h:0<acc.length=>qJs hrows h
   have at1:=fun h:1<acc.length=>qJs hrows h
   have key:∀X n:Int,X=n->(Ending.returned (.int .i64 n)=Ending.returned (.int .i64 X)/\V.sub V2):=fun X n h=>by simp_all
   refine⟨fun o1=>?_,fun o1=>⟨fun o2=>?_,fun o2=>⟨fun o3=>?_,fun o3=>⟨fun o4=>?_,fun o4=>⟨fun o5=>?_,fun o5=>key _ _ ?_⟩⟩⟩⟩⟩
   ·obtain⟨b1,b2,b3⟩:=at0 (by omega)
    obtain⟨mb,rfl,hmap⟩:=(hs.sub hown.sub).at_
    rw[if_pos o1,qJp]
    refine qBv.str Tryz.underlying312 Tryz.underlying9 zero9 hmap ?_
    cases hvv:qBN sc.vars x.s with
    | none =>
     rw[Option.getD_none]
     exact⟨_,_,rfl,fun h=>absurd h (by simp),fun _=>key _ _ (if_pos rfl)⟩
    | some t =>
     rw[Option.getD_some]
     refine⟨t,_,rfl,fun _=>⟨b1,by omega,b2,_,b3,(c298 h2).call ⟨_,rfl,fun hb=>key _ _ ?_,fun hb=>key _ _ ?_⟩⟩,fun h=>absurd rfl h⟩
     ·rw[if_neg (hs.ne.some hvv),if_pos hb]
     ·rw[if_neg (hs.ne.some hvv),if_neg hb]
   ·obtain⟨b1,b2,b3⟩:=at0 (by omega)
    obtain⟨c1,c2,c3⟩:=at1 (by omega)
    rw[if_neg o1,if_pos o2]
    refine⟨b1,by omega,b2,_,b3,(c299 h2 hv).call ⟨_,_,rfl,fun hb=>⟨c1,by omega,c2,_,c3,(c298 h2).call ⟨_,rfl,fun hc=>key _ _ ?_,fun hc=>key _ _ ?_⟩⟩,fun hb=>key _ _ ?_⟩⟩
    ·simp_all
    ·simp_all
    omega
   ·grind [qAu]
   ·grind [qAu]
   ·have h5:=a5 o5
    rw[if_neg o1,if_neg o2,if_neg (by omega),if_pos o5]
    refine⟨fun hn=>?_,fun hn=>?_⟩
    ·grind [sE]
    ·have h0:¬acc.length=0:=by omega
     obtain⟨b1,b2,b3⟩:=at0 (by omega)
     rw[if_neg h0]
     refine⟨fun he=>key _ _ (by grind [sE]),fun he=>⟨b1,by omega,b2,_,b3,(c298 h2).call ⟨_,rfl,fun hb=>key _ _ ?_,fun hb=>key _ _ ?_⟩⟩⟩
     ·grind [sE]
     simp_all
   omega
def placeT(r:Int×Int):Int:=if r.2=0 then 0 else r.1
def Cnt(V:Mem)(b t:Nat)(a:Int)(V1:Mem):Prop:=(V.set b (cell (.int .i64 a) t)).sub V1
theorem Cnt.st{b t:Nat}{a k:Int}{V1:Mem}(h:Cnt V b t a V1):Cnt V b t k (V1.set b (cell (.int .i64 k) t)):=fun q o hq=>by
 by_cases e:q=b
 ·grind [Mem.set_same]
 ·rw[Mem.set_ne e]at hq ⊢
  exact h q o (by rw[Mem.set_ne e];exact hq)
theorem Cnt.call{b t:Nat}{a k:Int}{V1 V2:Mem}(h:Cnt V b t a V1)(h2:Cnt V1 b t k V2):Cnt V b t k V2:=(Cnt.st h).trans h2
theorem Cnt.cell{b t:Nat}{a:Int}{V1:Mem}(h:Cnt V b t a V1):V1 b=some (Sx.cell (.int .i64 a) t):=h _ _ mss
theorem Cnt.base{V0:Mem}{b t:Nat}{a:Int}{V1:Mem}(h:Cnt V b t a V1)(h0:V0.sub V)(hb:V0 b=none):V0.sub V1:=(h0.set hb _).trans h
theorem Cnt.other{b t q:Nat}{a:Int}{V1:Mem}{o:Obj}(h:Cnt V b t a V1)(hq:V q=some o)(hn:q≠b):V1 q=some o:=h _ _ (by rw[Mem.set_ne hn];exact hq)
def ImpS(V0:Mem)(d:Ds)(c:Option Addr)(m:Option Nat)(sc:Sc)(res:ByteArray)(b t:Nat)(l:List S):Prop:=∀(V:Mem) (sl:Sl) (n dd:Int),V0.sub V->V b=some (cell (.int .i64 n) t)->qAc V0 sl 5 (l.map S.row)->(∀x∈l,S.Ok V0 x)->qGN dd l=true->0<=n->n+qGB l<=1000 ->
 Tri Tryz.prog 236 #[sV c m sc,.slice sl.p sl.n sl.c,.string res,pv b] V fun r V'=>r=.returned (.tuple #[.int .i64 (placeT (qBW d sc res n l)),.int .i64 (qBW d sc res n l).2])/\∃n',Cnt V b t n' V'/\((qBW d sc res n l).2=0->n'=(qBW d sc res n l).1)
theorem impStep{V0:Mem}{b t:Nat}{res:ByteArray}(hb:V0 b=none)(h:qBH V0 c d)(hv:VNe d)(hs:qHB V0 m sc)(hbody:sc.body=true){l:List S}(hk:∀x∈l,ImpS V0 d c m sc res b t x.ls/\ImpS V0 d c m sc res b t x.xs):ImpS V0 d c m sc res b t l:=by
 intro V sl n dd hV hcell hr hok hokS hn0 hn1
 refine x236 ?_
 unfold w236
 refine loop3 l.length (fun i V1=>∃a,Cnt V b t a V1/\0<=a/\a+qGB (l.drop i)<=1000/\qBW d sc res n l=qBW d sc res a (l.drop i)) ⟨n,by grind [Cnt,Mem.set_eq,Mem.sub.refl],hn0,hn1,rfl⟩ ?_
 rintro i b' c' V1 J hi ⟨a,hV1,ha0,ha1,he⟩ hJ
 have hV01:=hV1.base hV hb
 have hcell1:=hV1.cell
 have bad:∀{V2:Mem} (p e k:Int),Cnt V b t k V2->e≠0->qBW d sc res n l=(p,e)->(Ending.returned (.tuple #[.int .i64 p,.int .i64 e])=Ending.returned (.tuple #[.int .i64 (placeT (qBW d sc res n l)),.int .i64 (qBW d sc res n l).2])/\∃n',Cnt V b t n' V2/\((qBW d sc res n l).2=0->n'=(qBW d sc res n l).1)):=fun {V2} p e k h1 h2 h3=>by
  rw[h3]
  unfold placeT
  grind
 refine⟨fun hlt=>?_,fun hge=>?_⟩
 ·obtain⟨x,hm,hx,hdr,hl,hpp,hz,hrow⟩:=(hr.sub hV01).get hlt
  have hrow:=S.row_get hrow
  have hox:=hok x hm
  obtain⟨hsh,hk1,hk2⟩:=okS_shape (okSs_mem hokS x hm)
  rw[hdr,szSs_cons,szS_eq]at ha1
  rw[hdr,qHZ,stT_eq]at he
  have hC:=Cnt.st (k:=a+1) hV1
  have hW2:=hC.base hV hb
  have cs:=c268 (h.sub hW2) hv (hs.sub hW2) hbody (hox.sub hW2) hsh (res:=res)
  rw[S.v_eq]at cs
  refine⟨hpp,hz,hlt,_,_,_,_,_,hrow,by simp,_,qBD hcell1,by simp,_,qBD hcell1,⟨by omega,by omega⟩,by simp,StT.cell hcell1 (cs.call ⟨_,rfl,fun h0=>?_,fun h0=>?_⟩)⟩
  ·have e1:¬(qGD d sc res x.op x.s x.es≠0):=fun h=>h h0
   rw[if_neg e1]at he
   intro b1 hb1
   have hbb:b1≠b:=fun e=>by grind [Mem.set_same]
   have hC2:Cnt V b t (a+1) _:=Mem.sub.new hC hb1 (.cells #[.slice x.ll.p x.ll.n x.ll.c,.slice x.xl.p x.xl.n x.xl.c] 141 (0,0))
   have hn1':=stsT_n d sc res (a+1) x.ls
   refine loop3 2 (fun j V2=>∃k,Cnt V b t k V2/\V2 b1=some (.cells #[.slice x.ll.p x.ll.n x.ll.c,.slice x.xl.p x.xl.n x.xl.c] 141 (0,0))/\((j=0/\k=a+1)∨(j=1/\(qBW d sc res (a+1) x.ls).2=0/\k=(qBW d sc res (a+1) x.ls).1)∨(j=2/\(qBW d sc res (a+1) x.ls).2=0/\(qBW d sc res (qBW d sc res (a+1) x.ls).1 x.xs).2=0/\k=(qBW d sc res (qBW d sc res (a+1) x.ls).1 x.xs).1))) ⟨a+1,hC2,Mem.set_same _ _ _,.inl ⟨rfl,rfl⟩⟩ ?_
   rintro j b'' c'' V2 J1 hj ⟨k,hk2',hb1V,hst⟩ hJ1
   have hV02:=hk2'.base hV hb
   refine⟨fun hj2=>?_,fun hj2=>?_⟩
   ·rcases hst with⟨rfl,rfl⟩|⟨rfl,hz1,rfl⟩|⟨rfl,-⟩
    ·refine⟨by simp[qAa],by omega,by omega,x.ll,qAd hb1V 0 1 (by simp),Tri.mono ((hk x hm).1 V2 x.ll (a+1) (dd+1) hV02 hk2'.cell hox.lRows hox.lOk hk1 (by omega) (by omega)) ?_⟩
     rintro _ V3 ⟨rfl,n',hn',hn2⟩
     refine⟨_,_,rfl,fun h3=>?_,fun h3=>?_⟩
     ·have:=hn2 h3
      subst this
      exact⟨⟨by omega,by omega⟩,hJ1 (by omega) _ _ _ ⟨_,hk2'.call hn',hn'.other hb1V hbb,.inr (.inl ⟨rfl,h3,rfl⟩)⟩⟩
     ·have e2:(qBW d sc res (a+1) x.ls).2≠0:=h3
      rw[if_pos e2,if_pos e2]at he
      refine bad _ _ _ (hk2'.call hn') e2 ?_
      grind
    ·have e2:¬(qBW d sc res (a+1) x.ls).2≠0:=fun h=>h hz1
     rw[if_neg e2]at he
     have hn1':=hn1' hz1
     refine⟨by simp[qAa],by omega,by omega,x.xl,qAd hb1V 1 1 (by simp),Tri.mono ((hk x hm).2 V2 x.xl _ (dd+1) hV02 hk2'.cell hox.xRows hox.xOk hk2 (by omega) (by omega)) ?_⟩
     rintro _ V3 ⟨rfl,n',hn',hn2⟩
     refine⟨_,_,rfl,fun h3=>?_,fun h3=>?_⟩
     ·have:=hn2 h3
      subst this
      exact⟨⟨by omega,by omega⟩,hJ1 (by omega) _ _ _ ⟨_,hk2'.call hn',hn'.other hb1V hbb,.inr (.inr ⟨rfl,hz1,h3,rfl⟩)⟩⟩
     ·have e3:(qBW d sc res (qBW d sc res (a+1) x.ls).1 x.xs).2≠0:=h3
      rw[if_pos e3]at he
      refine bad _ _ _ (hk2'.call hn') e3 ?_
      grind
    ·omega
   ·rcases hst with⟨rfl,-⟩|⟨rfl,-⟩|⟨rfl,hz1,hz2,rfl⟩
    ·omega
    ·omega
    ·have e2:¬(qBW d sc res (a+1) x.ls).2≠0:=fun h=>h hz1
     have e3:¬(qBW d sc res (qBW d sc res (a+1) x.ls).1 x.xs).2≠0:=fun h=>h hz2
     rw[if_neg e2,if_neg e3]at he
     have hn1':=hn1' hz1
     have hn2':=stsT_n d sc res _ x.xs hz2
     exact⟨(hr.sub hV01).succ hlt,hJ hl _ _ _ ⟨_,hk2',by omega,by omega,he⟩⟩
  grind
 ·rw[((hr.sub hV01).done hge).1,stsT_nil]at he
  rw[he]
  exact⟨rfl,a,hV1,fun _=>rfl⟩
theorem impStmts{V0:Mem}{b t:Nat}{res:ByteArray}(hb:V0 b=none)(h:qBH V0 c d)(hv:VNe d)(hs:qHB V0 m sc)(hbody:sc.body=true)(l:List S):ImpS V0 d c m sc res b t l:=by
 have hS:∀s:S,ImpS V0 d c m sc res b t s.ls/\ImpS V0 d c m sc res b t s.xs:=by
  intro s
  induction s using S.ind with
  | h s i1 i2=>grind [impStep]
 grind [impStep]
theorem c259{b t:Nat}{f x:Fld}(hb:V b=some (.cells #[.string f.name,.string f.ty] t (0,0))):PP 259 [x.v,pv b] V (.bool (decide (x.name=f.name))):=by
 refine x259 ?_
 unfold w259
 exact⟨by simp,_,qAd hb 0 1 (by simp),rfl,rfl⟩
theorem c222(h:qBH V c d){l:Sl}{xs:List Fld}(hl:qAc V l 2 (xs.map Fld.row)):PP 222 [.pointer c,l.v] V (.int .i64 (qDI d xs)):=by
 refine Pur.mk (x222 ?_)
 unfold w222 qDI
 generalize hf:(fun i f=>if qGu d xs i f≠0 then some (qGu d xs i f) else none)=fn
 refine qAI xs.length (fun k V1=>V.sub V1/\qAl fn 0 xs=qAl fn k (xs.drop k)) ⟨Mem.sub.refl _,rfl⟩ ?_
 rintro k b V1 J hi ⟨hV,ha⟩ hJ
 have hl1:=hl.sub hV
 refine⟨fun hk=>?_,fun hk=>?_⟩
 ·obtain⟨g,hmg,hxg,hdg,hlg,hpg,hzg,hrowg⟩:=hl1.get hk
  rw[hdg]at ha
  have hc:=hl1.cap
  refine⟨hpg,hzg,hk,_,_,hrowg,⟨by omega,by omega,by omega⟩,fun b1 hb1=>?_⟩
  have s1:=Mem.sub_new hb1 (.cells #[.string g.name,.string g.ty] 101 (0,0))
  have hV2:=hV.trans s1
  simp only[qFX,sub0]
  have key:∀X n:Int,X=n->(Ending.returned (.int .i64 n)=Ending.returned (.int .i64 X)/\V.sub (V1.set b1 (.cells #[.string g.name,.string g.ty] 101 (0,0)))):=fun X n h=>by simp_all
  refine(c122 (l:=⟨l.p,k,l.c⟩) (first:=[]) (caps:=[pv b1]) (qAc.pre (hl.sub hV2) (by omega)) Tryz.call259 (fun x=>decide (x.name=g.name)) (fun x _=>c259 (f:=g) mss)).call ⟨_,rfl,fun h1=>?_,fun h1=>⟨by simp[qAa],_,qAd mss 1 1 (by simp),(c225 (h.sub hV2)).call ⟨_,rfl,fun h2=>?_,fun h2=>?_⟩⟩⟩
  ·have e:qGu d xs k g=10:=by grind [qGu]
   rw[ha,qAp (b:=10) (by grind)]
   grind
  ·have e:qGu d xs k g=0:=by grind [qGu]
   exact⟨hl1.succ hk,hJ hlg _ _ ⟨hV2,by rw[ha,qAw (by grind)]⟩⟩
  ·have e:qGu d xs k g=9:=by grind [qGu]
   rw[ha,qAp (b:=9) (by grind)]
   grind
 ·rw[(hl1.done hk).1,qAl]at ha
  simp_all
def FltAt(V:Mem)(p:Option Addr)(o:Option Flt):Prop:=match o with
 | none=>p=none
 | some r=>∃b t,p=some ⟨b,0,none⟩/\V b=some (.cells #[.string r.1,.int .i64 r.2.1,.int .i64 r.2.2] t (0,0))
def FltC(f:FuncId)(args:List Value)(V:Mem)(o:Option Flt):Prop:=Tri Tryz.prog f args.toArray V fun r V'=>∃p,r=.returned (.pointer p)/\V.sub V'/\FltAt V' p o
theorem c238(h:qBH V c d)(hv:VNe d)(hs:qHB V m sc){e:E}(he:E.Ok V e)(hok:okE 1 e=true){s t:ByteArray} :
  FltC 238 [sV c m sc,.string s,e.v,.string t] V (if qCg d sc e t≠0 then some (s,-1,qCg d sc e t) else none):=by
 refine x238 ?_
 unfold w238 qCg
 refine(impExpr h hv hs e he 1 hok V (Mem.sub.refl _)).call ⟨_,_,rfl,fun h0=>⟨fun h1=>?_,fun h1=>fun b hb=>?_⟩,fun h0=>fun b hb=>?_⟩
 ·simp only[h0,h1,ne_eq,not_true_eq_false,if_false,if_true];exact⟨_,rfl,Mem.sub.refl _,rfl⟩
 ·simp only[h0,h1,ne_eq,not_true_eq_false,if_false];exact⟨_,rfl,Mem.sub_new hb _,b,_,rfl,Mem.set_same _ _ _⟩
 ·simp only[h0,ne_eq,not_false_eq_true,if_true];exact⟨_,rfl,Mem.sub_new hb _,b,_,rfl,Mem.set_same _ _ _⟩
end
def qHw:Prop:=∀(V:Mem) (c:Option Addr) (d:Ds) (body:Bool) (l:Sl) (ls:List (Sl×List Fld)),qBH V c d->qAc V l 1 (ls.map fun x=>[x.1.v])->(∀x∈ls,qAc V x.1 2 (x.2.map Fld.row)) ->
 Tri Tryz.prog 267 #[.pointer c,.bool body,.slice l.p l.n l.c] V fun r V'=>∃mb,r=.returned (.agg #[.pointer c,.map (some mb),.bool body])/\V.sub V'/\V mb=none/\qBk V' mb (fun k=>(qBN (ls.flatMap (·.2)++d.globals) k).map Value.string)
def NewC:Prop:=∀(V:Mem) (d:Ds),Ds.Ok V d->Tri Tryz.prog 158 #[d.v] V fun r V'=>∃c,r=.returned (.pointer c)/\V.sub V'/\qBH V' c d
section
variable{V:Mem}{d:Ds}{c:Option Addr}
theorem qGb{a b:List Fld}(h:NE a)(k:NE b):NE (a++b):=fun f hf=>by
 rcases List.mem_append.1 hf with h'|h'
 ·exact h f h'
 ·exact k f h'
theorem impInProc(hS:qHw)(h:qBH V c d)(hv:VNe d){p:Pr}(hm:p∈d.procs)(hp:Pr.Ok V p):Tri Tryz.prog 235 #[.pointer c,p.v] V fun r V'=>∃m,r=.returned (sV c m (qAj d p))/\V.sub V'/\qHB V' m (qAj d p):=by
 refine x235 ?_
 unfold w235
 intro b hb
 have hs:=Mem.sub_new hb (.cells #[.slice p.ps.p p.ps.n p.ps.c,.slice p.ls.p p.ls.n p.ls.c] 23 (0,0))
 refine Tri.mono (hS _ c d true ⟨some ⟨b,0,none⟩,2,2⟩ [(p.ps,p.params),(p.ls,p.locals)] (h.sub hs) (qAc.cells (xs:=[(p.ps,p.params),(p.ls,p.locals)]) (row:=fun x=>[x.1.v]) mss rfl (fun _=>rfl) rfl (by simp)) ?_) ?_
 ·intro x hx
  simp only[List.mem_cons,List.not_mem_nil,or_false]at hx
  rcases hx with rfl|rfl
  ·exact hp.params.sub hs
  ·exact hp.locals.sub hs
 ·rintro _ V' ⟨mb,rfl,h1,h2,h3⟩
  refine⟨_,_,_,rfl,some mb,rfl,hs.trans h1,⟨mb,rfl,h3.congr fun k=>?_⟩,qGb (qGb (hv.params p hm).1 (hv.params p hm).2) hv.globals⟩
  simp[qAj]
theorem impInBound(hS:qHw)(h:qBH V c d)(hv:VNe d){p:Pr}(hm:p∈d.procs)(hp:Pr.Ok V p):Tri Tryz.prog 239 #[.pointer c,p.v] V fun r V'=>∃m,r=.returned (sV c m (qCG d p))/\V.sub V'/\qHB V' m (qCG d p):=by
 refine x239 ?_
 unfold w239
 intro b hb
 have hs:=Mem.sub_new hb (.cells #[.slice p.ps.p p.ps.n p.ps.c] 23 (0,0))
 refine Tri.mono (hS _ c d false ⟨some ⟨b,0,none⟩,1,1⟩ [(p.ps,p.params)] (h.sub hs) (qAc.cells (xs:=[(p.ps,p.params)]) (row:=fun x=>[x.1.v]) mss rfl (fun _=>rfl) rfl (by simp)) ?_) ?_
 ·intro x hx
  simp only[List.mem_cons,List.not_mem_nil,or_false]at hx
  rcases hx with rfl
  exact hp.params.sub hs
 ·rintro _ V' ⟨mb,rfl,h1,h2,h3⟩
  refine⟨_,_,_,rfl,some mb,rfl,hs.trans h1,⟨mb,rfl,h3.congr fun k=>?_⟩,qGb (hv.params p hm).1 hv.globals⟩
  simp[qCG]
theorem qEC(hS:qHw)(h:qBH V c d)(hv:VNe d){t:ByteArray}:Tri Tryz.prog 237 #[.pointer c,.string t] V fun r V'=>∃m,r=.returned (sV c m (qAU d t))/\V.sub V'/\qHB V' m (qAU d t):=by
 refine x237 ?_
 unfold w237
 refine Tri.mono (hS V c d false ⟨none,0,0⟩ [] h qAc.nil (by simp)) ?_
 rintro _ V' ⟨mb,rfl,h1,h2,h3⟩
 refine⟨_,_,_,rfl,fun he=>?_,fun he=>?_⟩
 ·refine⟨some mb,rfl,h1,⟨mb,rfl,h3.congr fun k=>?_⟩,?_⟩
  ·grind [qAU,sE]
  ·unfold qAU sE;rw[if_pos he];exact hv.globals
 ·refine qDu.str Tryz.underlying312 Tryz.underlying9 h3 fun o ho=>?_
  refine⟨some mb,rfl,h1.set h2 _,⟨mb,rfl,ho.congr fun k=>?_⟩,?_⟩
  ·unfold qAU sE
   rw[if_neg he]
   unfold qBN
   simp only[List.flatMap_nil,List.nil_append,List.cons_append,List.find?_cons]
   rw[show (⟨#[116,104,105,115]⟩:ByteArray)=sThisF from rfl]
   grind
  ·unfold qAU sE
   rw[if_neg he]
   refine qGb (fun f hf=>?_) hv.globals
   simp only[List.mem_cons,List.not_mem_nil,or_false]at hf
   subst hf
   exact he
theorem qCN{V1:Mem}{X:Option Flt}{s:ByteArray}{n e:Int}(hX:X=some (s,n,e))(h:V.sub V1):qAr [(.string s),(.int .i64 n),(.int .i64 e)] 238 V1 fun v8 V2=>(∃p,Ending.returned (.pointer (qAa v8 0))=.returned (.pointer p)/\V.sub V2/\FltAt V2 p X):=fun b hb=>by
 subst hX
 exact⟨some ⟨b,0,none⟩,rfl,h.trans (Mem.sub_new hb _),b,_,rfl,Mem.set_same _ _ _⟩
theorem oneT_cases(d:Ds)(l:List Fld)(i:Nat)(f:Fld):((l.take i).any (fun g=>decide (g.name=f.name))=true/\qGu d l i f=10)∨(¬(l.take i).any (fun g=>decide (g.name=f.name))=true/\qBl d f.ty=true/\qGu d l i f=0)∨(¬(l.take i).any (fun g=>decide (g.name=f.name))=true/\¬qBl d f.ty=true/\qGu d l i f=9):=by
 grind [qGu,qBl,inr]
theorem impTypes(h:qBH V c d):FltC 191 [.pointer c] V (qHd d):=by
 refine x191 ?_
 unfold w191 qHd
 refine⟨h.nn,h.nn,qAf h.nn,d.ts,h.cell (i:=1) rfl,?_⟩
 unfold types1
 generalize hf1:(fun i (t:Ty)=>if (d.types.take i).any (fun g=>decide (g.name=t.name))=true then some ((t.name,-1,10):Flt) else none)=F1
 refine qAI d.types.length (fun k V1=>V=V1/\qAl F1 0 d.types=qAl F1 k (d.types.drop k)) ⟨rfl,rfl⟩ ?_
 rintro k b V1 J hi ⟨rfl,ha⟩ hJ
 have rf:=Mem.sub.refl V
 refine⟨fun hk=>?_,fun hk=>?_⟩
 ·obtain⟨g,hm,hx,hdr,hl,hp,hz,hrow⟩:=h.ok.types.get hk
  rw[hdr]at ha
  refine⟨hp,hz,hk,_,_,hrow,h.nn,h.nn,qAf h.nn,d.ts,h.cell (i:=1) rfl,(c220 h.ok.types hx).call ⟨_,rfl,fun h1=>qCN ?_ rf,fun h1=>⟨h.ok.types.succ hk,hJ hl _ _ ⟨rfl,?_⟩⟩⟩⟩
  ·rw[ha,qAp (b:=(g.name,-1,10)) (by grind)];rfl
  ·rw[ha,qAw (by grind)]
 rw[(h.ok.types.done hk).1,qAl]at ha
 rw[ha,Option.none_or]
 refine⟨h.nn,h.nn,qAf h.nn,d.ts,h.cell (i:=1) rfl,?_⟩
 unfold types2
 generalize hf2:(fun(_:Nat) (t:Ty)=>if qDI d t.fields≠0 then some ((t.name,-1,qDI d t.fields):Flt) else none)=F2
 refine qAI d.types.length (fun k V1=>V=V1/\qAl F2 0 d.types=qAl F2 k (d.types.drop k)) ⟨rfl,rfl⟩ ?_
 rintro k b V1 J hi ⟨rfl,ha⟩ hJ
 refine⟨fun hk=>?_,fun hk=>?_⟩
 ·obtain⟨g,hm,hx,hdr,hl,hp,hz,hrow⟩:=h.ok.types.get hk
  rw[hdr]at ha
  refine⟨hp,hz,hk,_,_,hrow,(c222 h (h.ok.typesOk g hm).fields).call ⟨_,rfl,fun h1=>⟨h.ok.types.succ hk,hJ hl _ _ ⟨rfl,?_⟩⟩,fun h1=>qCN ?_ rf⟩⟩
  ·rw[ha,qAw (by grind)]
  ·rw[ha,qAp (b:=(g.name,-1,qDI d g.fields)) (by grind)];rfl
 rw[(h.ok.types.done hk).1,qAl]at ha
 rw[ha,Option.none_or]
 refine⟨h.nn,h.nn,qAf h.nn,d.gs,h.cell (i:=2) rfl,?_⟩
 unfold types3
 generalize hf3:(fun i (f:Fld)=>if qGu d d.globals i f≠0 then some ((f.name,-1,qGu d d.globals i f):Flt) else none)=F3
 refine qAI d.globals.length (fun k V1=>V=V1/\qAl F3 0 d.globals=qAl F3 k (d.globals.drop k)) ⟨rfl,rfl⟩ ?_
 rintro k b V1 J hi ⟨rfl,ha⟩ hJ
 refine⟨fun hk=>?_,fun hk=>?_⟩
 ·obtain⟨g,hm,hx,hdr,hl,hp,hz,hrow⟩:=h.ok.globals.get hk
  rw[hdr]at ha
  have ho:=oneT_cases d d.globals k g
  refine⟨hp,hz,hk,_,_,hrow,h.nn,h.nn,qAf h.nn,d.gs,h.cell (i:=2) rfl,(c223 h.ok.globals hx).call ⟨_,rfl,fun h1=>qCN ?_ rf,fun h1=>(c225 h).call ⟨_,rfl,fun h2=>⟨h.ok.globals.succ hk,hJ hl _ _ ⟨rfl,?_⟩⟩,fun h2=>qCN ?_ rf⟩⟩⟩
  ·rcases ho with⟨_,e⟩|⟨h',_⟩|⟨h',_⟩
   ·rw[ha,qAp (b:=(g.name,-1,10)) (by grind)]
   ·grind
   simp_all
  ·rcases ho with⟨h',_⟩|⟨_,_,e⟩|⟨_,h',_⟩
   ·grind
   ·rw[ha,qAw (by grind)]
   simp_all
  ·rcases ho with⟨h',_⟩|⟨_,h',_⟩|⟨_,_,e⟩
   ·grind
   ·grind
   ·rw[ha,qAp (b:=(g.name,-1,9)) (by grind)]
 rw[(h.ok.globals.done hk).1,qAl]at ha
 rw[ha]
 exact⟨none,rfl,rf,rfl⟩
theorem impHeads(h:qBH V c d)(hsm:Small d):FltC 192 [.pointer c] V (qFj d):=by
 refine x192 ?_
 unfold w192 qFj
 refine⟨h.nn,h.nn,qAf h.nn,d.ps,h.cell (i:=3) rfl,?_⟩
 generalize hf1:(fun i (p:Pr)=>if (d.procs.take i).any (fun g=>decide (g.name=p.name))=true then some ((p.name,-1,10):Flt) else if qDI d (p.params++p.locals)≠0 then some (p.name,-1,qDI d (p.params++p.locals)) else if p.result≠sE/\qBl d p.result=false then some (p.name,-1,9) else none)=F1
 refine qAI d.procs.length (fun k V1=>V.sub V1/\qAl F1 0 d.procs=qAl F1 k (d.procs.drop k)) ⟨Mem.sub.refl _,rfl⟩ ?_
 rintro k b V1 J hi ⟨hV,ha⟩ hJ
 have h1:=h.sub hV
 refine⟨fun hk=>?_,fun hk=>?_⟩
 ·obtain⟨g,hm,hx,hdr,hl,hp,hz,hrow⟩:=h1.ok.procs.get hk
  rw[hdr]at ha
  have hg:=h1.ok.procsOk g hm
  have hs:=hsm.2 g hm
  refine⟨hp,hz,hk,_,_,_,_,_,hrow,h.nn,h.nn,qAf h.nn,d.ps,h1.cell (i:=3) rfl,(c226 h1.ok.procs hx).call ⟨_,rfl,fun n1=>qCN ?_ hV,fun n1=>?_⟩⟩
  ·rw[ha,qAp (b:=(g.name,-1,10)) (by grind)]
  intro b1 hb1
  have s1:=Mem.sub_new hb1 (.cells #[.slice g.ps.p g.ps.n g.ps.c,.slice g.ls.p g.ls.n g.ls.c] 23 (0,0))
  refine Tri.mono (concatF (l:=⟨some ⟨b1,0,none⟩,2,2⟩) (ls:=[(g.ps,g.params),(g.ls,g.locals)]) (qAc.cells (xs:=[(g.ps,g.params),(g.ls,g.locals)]) (row:=fun x=>[x.1.v]) mss rfl (fun _=>rfl) rfl (by simp)) ?_ (by simp) ?_) ?_
  ·intro x hx
   simp only[List.mem_cons,List.not_mem_nil,or_false]at hx
   rcases hx with rfl|rfl
   ·exact hg.params.sub s1
   ·exact hg.locals.sub s1
  ·simp_all
  rintro _ V2 ⟨s',rfl,h12,hrows⟩
  have hV2:=hV.trans (s1.trans h12)
  have hfl:([(g.ps,g.params),(g.ls,g.locals)]:List (Sl×List Fld)).flatMap (·.2)=g.params++g.locals:=by simp
  rw[hfl]at hrows
  refine⟨s',rfl,(c222 (h.sub hV2) hrows).call ⟨_,rfl,fun h2=>?_,fun h2=>qCN ?_ hV2⟩⟩
  ·have n2:¬(qDI d (g.params++g.locals)≠0):=fun e=>e h2
   refine⟨fun h3=>⟨h1.ok.procs.succ hk,hJ hl _ _ ⟨hV2,?_⟩⟩,fun h3=>(c225 (h.sub hV2)).call ⟨_,rfl,fun h4=>⟨h1.ok.procs.succ hk,hJ hl _ _ ⟨hV2,?_⟩⟩,fun h4=>qCN ?_ hV2⟩⟩
   ·rw[ha,qAw (by rw[<- hf1];exact(if_neg n1).trans ((if_neg n2).trans (if_neg fun e=>e.1 h3)))]
   ·rw[ha,qAw (by grind)]
   ·rw[ha,qAp (b:=(g.name,-1,9)) (by rw[<- hf1];exact(if_neg n1).trans ((if_neg n2).trans (if_pos ⟨h3,eq_false_of_ne_true h4⟩)))]
  ·rw[ha,qAp (b:=(g.name,-1,qDI d (g.params++g.locals))) (by grind)]
 rw[(h1.ok.procs.done hk).1,qAl]at ha
 rw[ha]
 exact⟨none,rfl,hV,rfl⟩
end
section
variable{V:Mem}{d:Ds}{c:Option Addr}
theorem impForm(h:qBH V c d):FltC 193 [.pointer c] V (qFy d):=by
 refine x193 ?_
 unfold w193 qFy
 have rf:=Mem.sub.refl V
 refine⟨h.nn,h.nn,qAf h.nn,d.ms,h.cell (i:=4) rfl,?_⟩
 unfold form1
 generalize hf1:(fun i (m:Ms)=>if (d.measures.take i).any (fun g=>decide (g.name=m.name))=true then some ((m.name,-1,10):Flt) else if qBr d m.ty=false then some (m.name,-1,9) else none)=F1
 refine qAI d.measures.length (fun k V1=>V=V1/\qAl F1 0 d.measures=qAl F1 k (d.measures.drop k)) ⟨rfl,rfl⟩ ?_
 rintro k b V1 J hi ⟨rfl,ha⟩ hJ
 refine⟨fun hk=>?_,fun hk=>?_⟩
 ·obtain⟨g,hm,hx,hdr,hl,hp,hz,hrow⟩:=h.ok.measures.get hk
  rw[hdr]at ha
  refine⟨hp,hz,hk,_,_,_,_,_,_,_,hrow,h.nn,h.nn,qAf h.nn,d.ms,h.cell (i:=4) rfl,(c228 h.ok.measures hx).call ⟨_,rfl,fun h1=>qCN ?_ rf,fun h1=>(c230 h).call ⟨_,rfl,fun h2=>⟨h.ok.measures.succ hk,hJ hl _ _ ⟨rfl,?_⟩⟩,fun h2=>qCN ?_ rf⟩⟩⟩
  ·rw[ha,qAp (b:=(g.name,-1,10)) (by grind)];rfl
  ·rw[ha,qAw (by grind)]
  ·rw[ha,qAp (b:=(g.name,-1,9)) (by grind)];rfl
 rw[(h.ok.measures.done hk).1,qAl]at ha
 rw[ha,Option.none_or]
 refine⟨h.nn,h.nn,qAf h.nn,d.is,h.cell (i:=5) rfl,?_⟩
 unfold form2
 generalize hf2:(fun i (m:Iv)=>if (d.invs.take i).any (fun g=>decide (g.name=m.name))=true then some ((m.name,-1,10):Flt) else if m.ty≠sE/\qBr d m.ty=false then some (m.name,-1,9) else none)=F2
 refine qAI d.invs.length (fun k V1=>V=V1/\qAl F2 0 d.invs=qAl F2 k (d.invs.drop k)) ⟨rfl,rfl⟩ ?_
 rintro k b V1 J hi ⟨rfl,ha⟩ hJ
 refine⟨fun hk=>?_,fun hk=>?_⟩
 ·obtain⟨g,hm,hx,hdr,hl,hp,hz,hrow⟩:=h.ok.invs.get hk
  rw[hdr]at ha
  refine⟨hp,hz,hk,_,_,_,_,_,_,hrow,h.nn,h.nn,qAf h.nn,d.is,h.cell (i:=5) rfl,(c231 h.ok.invs hx).call ⟨_,rfl,fun h1=>qCN ?_ rf,fun h1=>⟨fun h3=>⟨h.ok.invs.succ hk,hJ hl _ _ ⟨rfl,?_⟩⟩,fun h3=>(c230 h).call ⟨_,rfl,fun h2=>⟨h.ok.invs.succ hk,hJ hl _ _ ⟨rfl,?_⟩⟩,fun h2=>qCN ?_ rf⟩⟩⟩⟩
  ·rw[ha,qAp (b:=(g.name,-1,10)) (by grind)];rfl
  ·rw[ha,qAw (by rw[<- hf2];exact(if_neg h1).trans (if_neg fun e=>e.1 h3))]
  ·rw[ha,qAw (by grind)]
  ·rw[ha,qAp (b:=(g.name,-1,9)) (by rw[<- hf2];exact(if_neg h1).trans (if_pos ⟨h3,eq_false_of_ne_true h2⟩))];rfl
 rw[(h.ok.invs.done hk).1,qAl]at ha
 rw[ha,Option.none_or]
 refine⟨h.nn,h.nn,qAf h.nn,d.qs,h.cell (i:=6) rfl,?_⟩
 unfold form3
 generalize hf3:(fun(_:Nat) (m:Po)=>if m.ty≠sE/\qBr d m.ty=false then some ((sPot,-1,9):Flt) else none)=F3
 refine qAI d.pots.length (fun k V1=>V=V1/\qAl F3 0 d.pots=qAl F3 k (d.pots.drop k)) ⟨rfl,rfl⟩ ?_
 rintro k b V1 J hi ⟨rfl,ha⟩ hJ
 refine⟨fun hk=>?_,fun hk=>?_⟩
 ·obtain⟨g,hm,hx,hdr,hl,hp,hz,hrow⟩:=h.ok.pots.get hk
  rw[hdr]at ha
  refine⟨hp,hz,hk,_,_,_,_,_,hrow,fun h3=>⟨h.ok.pots.succ hk,hJ hl _ _ ⟨rfl,?_⟩⟩,fun h3=>(c230 h).call ⟨_,rfl,fun h2=>⟨h.ok.pots.succ hk,hJ hl _ _ ⟨rfl,?_⟩⟩,fun h2=>qCN ?_ rf⟩⟩
  ·rw[ha,qAw (by rw[<- hf3];exact if_neg fun e=>e.1 h3)]
  ·rw[ha,qAw (by grind)]
  ·rw[ha,qAp (b:=(sPot,-1,9)) (by rw[<- hf3];exact if_pos ⟨h3,eq_false_of_ne_true h2⟩)];rfl
 rw[(h.ok.pots.done hk).1,qAl]at ha
 rw[ha,Option.none_or]
 refine⟨h.nn,h.nn,qAf h.nn,d.bs,h.cell (i:=7) rfl,?_⟩
 unfold form4
 generalize hf4:(fun i (b:Bd)=>if (qIm d b.proc).isNone=true then some ((b.proc,-1,9):Flt) else if (d.bounds.take i).any (fun g=>decide (g.proc=b.proc))=true then some (b.proc,-1,10) else none)=F4
 refine qAI d.bounds.length (fun k V1=>V=V1/\qAl F4 0 d.bounds=qAl F4 k (d.bounds.drop k)) ⟨rfl,rfl⟩ ?_
 rintro k b V1 J hi ⟨rfl,ha⟩ hJ
 refine⟨fun hk=>?_,fun hk=>?_⟩
 ·obtain⟨g,hm,hx,hdr,hl,hp,hz,hrow⟩:=h.ok.bounds.get hk
  rw[hdr]at ha
  obtain⟨mt,q1,q2⟩:=h.procs
  refine⟨hp,hz,hk,_,_,_,_,_,hrow,h.nn,h.nn,_,q1,qBv.str Tryz.underlying270 Tryz.underlying9 zero143 q2 ?_⟩
  cases hpr:qIm d g.proc with
  | none =>
   refine⟨_,⟨none,0,0⟩,_,⟨none,0,0⟩,⟨none,0,0⟩,_,rfl,fun h=>absurd h (by simp),fun _=>qCN ?_ rf⟩
   rw[ha,qAp (b:=(g.proc,-1,9)) (by grind)]
  | some p =>
   have n0:¬(qIm d g.proc).isNone=true:=by rw[hpr];simp
   refine⟨_,p.ps,_,p.ls,p.bs,_,rfl,fun _=>⟨h.nn,h.nn,qAf h.nn,d.bs,h.cell (i:=7) rfl,(c233 h.ok.bounds hx).call ⟨_,rfl,fun h1=>qCN ?_ rf,fun h1=>⟨h.ok.bounds.succ hk,hJ hl _ _ ⟨rfl,?_⟩⟩⟩⟩,fun h=>absurd rfl h⟩
   ·rw[ha,qAp (b:=(g.proc,-1,10)) (by grind)]
   ·rw[ha,qAw (by grind)]
 rw[(h.ok.bounds.done hk).1,qAl]at ha
 rw[ha]
 exact⟨none,rfl,rf,rfl⟩
theorem impBodies(hS:qHw)(h:qBH V c d)(hv:VNe d)(hp:VParts d):FltC 194 [.pointer c] V (qCw d):=by
 refine x194 ?_
 unfold w194 qCw
 refine⟨h.nn,h.nn,qAf h.nn,d.ps,h.cell (i:=3) rfl,?_⟩
 generalize hf1:(fun(_:Nat) (p:Pr)=>if (qBW d (qAj d p) p.result 0 p.body).2≠0 then some ((p.name,(qBW d (qAj d p) p.result 0 p.body).1,(qBW d (qAj d p) p.result 0 p.body).2):Flt) else none)=F1
 refine qAI d.procs.length (fun k V1=>V.sub V1/\qAl F1 0 d.procs=qAl F1 k (d.procs.drop k)) ⟨Mem.sub.refl _,rfl⟩ ?_
 rintro k b V1 J hi ⟨hV,ha⟩ hJ
 have h1:=h.sub hV
 refine⟨fun hk=>?_,fun hk=>?_⟩
 ·obtain⟨g,hm,hx,hdr,hl,hpp,hz,hrow⟩:=h1.ok.procs.get hk
  rw[hdr]at ha
  have hg:=h1.ok.procsOk g hm
  refine⟨hpp,hz,hk,_,_,_,_,_,hrow,Tri.mono (impInProc hS h1 hv hm hg) ?_⟩
  rintro _ V2 ⟨m,rfl,h12,hsc⟩
  refine⟨_,_,_,rfl,fun b1 hb1=>?_⟩
  obtain⟨hs1,hs2⟩:=hp.ps g hm
  have s1:=Mem.sub_new hb1 (cell (.int .i64 0) 3)
  refine Tri.mono (impStmts hb1 (h1.sub h12) hv hsc rfl g.body _ g.bs 0 1 s1 mss (hg.sub h12).body (hg.sub h12).stmts hs1 (by omega) (by omega)) ?_
  rintro _ V3 ⟨rfl,n',hn',-⟩
  have hV3:=hV.trans (h12.trans (hn'.base s1 hb1))
  refine⟨_,_,rfl,fun h2=>⟨h1.ok.procs.succ hk,hJ hl _ _ ⟨hV3,?_⟩⟩,fun h2=>qCN ?_ hV3⟩
  ·rw[ha,qAw (by grind)]
  ·have:placeT (qBW d (qAj d g) g.result 0 g.body)=(qBW d (qAj d g) g.result 0 g.body).1:=if_neg h2
   rw[this,ha,qAp (b:=(g.name,(qBW d (qAj d g) g.result 0 g.body).1,(qBW d (qAj d g) g.result 0 g.body).2)) (by grind)]
 rw[(h1.ok.procs.done hk).1,qAl]at ha
 rw[ha]
 exact⟨none,rfl,hV,rfl⟩
theorem qCb{V1:Mem}{X:Option Flt}(h:FltAt V1 none X):X=none:=by
 cases X with
 | none=>rfl
 | some r=>obtain⟨b,t,h1,_⟩:=h;cases h1
theorem qEV{V1:Mem}{X:Option Flt}{p:Option Addr}(h:FltAt V1 p X)(hp:¬p=none):∃r,X=some r:=by
 cases X with
 | none=>exact absurd h hp
 | some r=>grind
theorem impExps(hS:qHw)(h:qBH V c d)(hv:VNe d)(hp:VParts d)(hform:qFy d=none):FltC 195 [.pointer c] V (qIN d):=by
 refine x195 ?_
 unfold w195 qIN
 refine⟨h.nn,h.nn,qAf h.nn,d.ms,h.cell (i:=4) rfl,?_⟩
 unfold exp1
 generalize hf1:(fun(_:Nat) (m:Ms)=>if qCg d (qAU d m.ty) m.x qAW≠0 then some ((m.name,-1,qCg d (qAU d m.ty) m.x qAW):Flt) else none)=F1
 refine qAI d.measures.length (fun k V1=>V.sub V1/\qAl F1 0 d.measures=qAl F1 k (d.measures.drop k)) ⟨Mem.sub.refl _,rfl⟩ ?_
 rintro k b V1 J hi ⟨hV,ha⟩ hJ
 have h1:=h.sub hV
 refine⟨fun hk=>?_,fun hk=>?_⟩
 ·obtain⟨g,hm,hx,hdr,hl,hpp,hz,hrow⟩:=h1.ok.measures.get hk
  rw[hdr]at ha
  refine⟨hpp,hz,hk,_,_,_,_,_,_,_,hrow,Tri.mono (qEC hS h1 hv) ?_⟩
  rintro _ V2 ⟨m,rfl,h12,hsc⟩
  refine⟨_,_,_,rfl,Tri.mono (c238 (e:=g.x) (h1.sub h12) hv hsc ((h1.sub h12).ok.measuresOk g hm).x (hp.ms g hm)) ?_⟩
  rintro _ V3 ⟨p,rfl,h23,hfl⟩
  have hV3:=hV.trans (h12.trans h23)
  have hfe:(if qCg d (qAU d g.ty) g.x qAW≠0 then some ((g.name,-1,qCg d (qAU d g.ty) g.x qAW):Flt) else none)=F1 k g:=by rw[<- hf1]
  rw[show qAm [105,110,116]=qAW from rfl]at hfl
  rw[hfe]at hfl
  refine⟨_,rfl,fun hn=>?_,fun hn=>?_⟩
  ·subst hn
   exact⟨h1.ok.measures.succ hk,hJ hl _ _ ⟨hV3,by rw[ha,qAw (qCb hfl)]⟩⟩
  ·obtain⟨r,hr⟩:=qEV hfl hn
   rw[ha,qAp hr]
   rw[hr]at hfl
   exact⟨p,rfl,hV3,hfl⟩
 rw[(h1.ok.measures.done hk).1,qAl]at ha
 rw[ha,Option.none_or]
 refine⟨h.nn,h.nn,qAf h.nn,d.is,h1.cell (i:=5) rfl,?_⟩
 unfold exp2
 generalize hf2:(fun(_:Nat) (m:Iv)=>if qCg d (qAU d m.ty) m.x qAu≠0 then some ((m.name,-1,qCg d (qAU d m.ty) m.x qAu):Flt) else none)=F2
 refine qAI d.invs.length (fun k V1=>V.sub V1/\qAl F2 0 d.invs=qAl F2 k (d.invs.drop k)) ⟨hV,rfl⟩ ?_
 rintro k b V1 J hi ⟨hV,ha⟩ hJ
 have h1:=h.sub hV
 refine⟨fun hk=>?_,fun hk=>?_⟩
 ·obtain⟨g,hm,hx,hdr,hl,hpp,hz,hrow⟩:=h1.ok.invs.get hk
  rw[hdr]at ha
  refine⟨hpp,hz,hk,_,_,_,_,_,_,hrow,Tri.mono (qEC hS h1 hv) ?_⟩
  rintro _ V2 ⟨m,rfl,h12,hsc⟩
  refine⟨_,_,_,rfl,Tri.mono (c238 (e:=g.x) (h1.sub h12) hv hsc ((h1.sub h12).ok.invsOk g hm) (hp.is g hm)) ?_⟩
  rintro _ V3 ⟨p,rfl,h23,hfl⟩
  have hV3:=hV.trans (h12.trans h23)
  have hfe:(if qCg d (qAU d g.ty) g.x qAu≠0 then some ((g.name,-1,qCg d (qAU d g.ty) g.x qAu):Flt) else none)=F2 k g:=by rw[<- hf2]
  rw[show qAm [98,111,111,108]=qAu from rfl]at hfl
  rw[hfe]at hfl
  refine⟨_,rfl,fun hn=>?_,fun hn=>?_⟩
  ·subst hn
   exact⟨h1.ok.invs.succ hk,hJ hl _ _ ⟨hV3,by rw[ha,qAw (qCb hfl)]⟩⟩
  ·obtain⟨r,hr⟩:=qEV hfl hn
   rw[ha,qAp hr]
   rw[hr]at hfl
   exact⟨p,rfl,hV3,hfl⟩
 rw[(h1.ok.invs.done hk).1,qAl]at ha
 rw[ha,Option.none_or]
 refine⟨h.nn,h.nn,qAf h.nn,d.qs,h1.cell (i:=6) rfl,?_⟩
 unfold exp3
 generalize hf3:(fun(_:Nat) (m:Po)=>if qCg d (qAU d m.ty) m.x qAW≠0 then some ((sPot,-1,qCg d (qAU d m.ty) m.x qAW):Flt) else none)=F3
 refine qAI d.pots.length (fun k V1=>V.sub V1/\qAl F3 0 d.pots=qAl F3 k (d.pots.drop k)) ⟨hV,rfl⟩ ?_
 rintro k b V1 J hi ⟨hV,ha⟩ hJ
 have h1:=h.sub hV
 refine⟨fun hk=>?_,fun hk=>?_⟩
 ·obtain⟨g,hm,hx,hdr,hl,hpp,hz,hrow⟩:=h1.ok.pots.get hk
  rw[hdr]at ha
  refine⟨hpp,hz,hk,_,_,_,_,_,hrow,Tri.mono (qEC hS h1 hv) ?_⟩
  rintro _ V2 ⟨m,rfl,h12,hsc⟩
  refine⟨_,_,_,rfl,Tri.mono (c238 (e:=g.x) (h1.sub h12) hv hsc ((h1.sub h12).ok.potsOk g hm) (hp.qs g hm)) ?_⟩
  rintro _ V3 ⟨p,rfl,h23,hfl⟩
  have hV3:=hV.trans (h12.trans h23)
  have hfe:(if qCg d (qAU d g.ty) g.x qAW≠0 then some ((sPot,-1,qCg d (qAU d g.ty) g.x qAW):Flt) else none)=F3 k g:=by rw[<- hf3]
  rw[show qAm [105,110,116]=qAW from rfl,show qAm [112,111,116,101,110,116,105,97,108]=sPot from rfl]at hfl
  rw[hfe]at hfl
  refine⟨_,rfl,fun hn=>?_,fun hn=>?_⟩
  ·subst hn
   exact⟨h1.ok.pots.succ hk,hJ hl _ _ ⟨hV3,by rw[ha,qAw (qCb hfl)]⟩⟩
  ·obtain⟨r,hr⟩:=qEV hfl hn
   rw[ha,qAp hr]
   rw[hr]at hfl
   exact⟨p,rfl,hV3,hfl⟩
 rw[(h1.ok.pots.done hk).1,qAl]at ha
 rw[ha,Option.none_or]
 refine⟨h.nn,h.nn,qAf h.nn,d.bs,h1.cell (i:=7) rfl,?_⟩
 have hpr:=bounds_proc hform
 unfold exp4
 generalize hf4:(fun(_:Nat) (m:Bd)=>if qCg d (qCG d ((qIm d m.proc).getD prD)) m.x qAW≠0 then some ((m.proc,-1,qCg d (qCG d ((qIm d m.proc).getD prD)) m.x qAW):Flt) else none)=F4
 refine qAI d.bounds.length (fun k V1=>V.sub V1/\qAl F4 0 d.bounds=qAl F4 k (d.bounds.drop k)) ⟨hV,rfl⟩ ?_
 rintro k b V1 J hi ⟨hV,ha⟩ hJ
 have h1:=h.sub hV
 refine⟨fun hk=>?_,fun hk=>?_⟩
 ·obtain⟨g,hm,hx,hdr,hl,hpp,hz,hrow⟩:=h1.ok.bounds.get hk
  rw[hdr]at ha
  obtain⟨q,hq⟩:=hpr g hm
  obtain⟨mt,q1,q2⟩:=h1.procs
  refine⟨hpp,hz,hk,_,_,_,_,_,hrow,h.nn,h.nn,_,q1,qBv.str1 Tryz.underlying270 Tryz.underlying9 zero143 q2 ?_⟩
  rw[hq]
  refine⟨_,q.ps,_,q.ls,q.bs,rfl,Tri.mono (impInBound hS h1 hv (qKq hq) (h1.ok.procsOk q (qKq hq))) ?_⟩
  rintro _ V2 ⟨m,rfl,h12,hsc⟩
  refine⟨_,_,_,rfl,Tri.mono (c238 (e:=g.x) (h1.sub h12) hv hsc ((h1.sub h12).ok.boundsOk g hm) (hp.bs g hm)) ?_⟩
  rintro _ V3 ⟨p,rfl,h23,hfl⟩
  have hV3:=hV.trans (h12.trans h23)
  have hfe:(if qCg d (qCG d q) g.x qAW≠0 then some ((g.proc,-1,qCg d (qCG d q) g.x qAW):Flt) else none)=F4 k g:=by grind
  rw[show qAm [105,110,116]=qAW from rfl]at hfl
  rw[hfe]at hfl
  refine⟨_,rfl,fun hn=>?_,fun hn=>?_⟩
  ·subst hn
   exact⟨h1.ok.bounds.succ hk,hJ hl _ _ ⟨hV3,by rw[ha,qAw (qCb hfl)]⟩⟩
  ·obtain⟨r,hr⟩:=qEV hfl hn
   rw[ha,qAp hr]
   rw[hr]at hfl
   exact⟨p,rfl,hV3,hfl⟩
 rw[(h1.ok.bounds.done hk).1,qAl]at ha
 rw[ha]
 exact⟨none,rfl,hV,rfl⟩
end
theorem GenK.makeF1{P:Program}{V:Mem}{f:FuncId}{x:Operand}{ty:Nat}{vals:Operand->Value}{v:Value}(hx:vals x=v){q:Value->Mem->Prop}(hq:q (.func (.func f) #[v] #[]) V):GenK P (.makeFunc (.func f) #[x] #[]) ty vals V q:=by
 intro w hw
 refine⟨_,w,V,?_,Frm.refl hw,hq⟩
 unfold execOp Instr.makeFunc
 simp_all
section
variable{V:Mem}{d:Ds}{c:Option Addr}
theorem impFirst(hS:qHw)(h:qBH V c d)(hv:VNe d)(hp:VParts d):FltC 159 [.pointer c] V (qIU d):=by
 refine x159 ?_
 unfold w159
 have F1:=fun V1 (hs:V.sub V1)=>impTypes (h.sub hs)
 have F2:=fun V1 (hs:V.sub V1)=>impHeads (h.sub hs) hp.small
 have F3:=fun V1 (hs:V.sub V1)=>impForm (h.sub hs)
 have F4:=fun V1 (hs:V.sub V1)=>impBodies hS (h.sub hs) hv hp
 have F5:=fun V1 (hs:V.sub V1) (hf:qFy d=none)=>impExps hS (h.sub hs) hv hp hf
 refine GenK.makeF1 (v:=.pointer c) rfl ⟨.func (.func 191) #[.pointer c] #[],rfl,rfl,GenK.makeF1 (v:=.pointer c) rfl ⟨.func (.func 192) #[.pointer c] #[],rfl,rfl,GenK.makeF1 (v:=.pointer c) rfl ⟨.func (.func 193) #[.pointer c] #[],rfl,rfl,GenK.makeF1 (v:=.pointer c) rfl ⟨.func (.func 194) #[.pointer c] #[],rfl,rfl,GenK.makeF1 (v:=.pointer c) rfl ⟨.func (.func 195) #[.pointer c] #[],rfl,rfl,fun b hb=>?_⟩⟩⟩⟩⟩
 have hs1:=Mem.sub_new hb (.cells #[.func (.func 191) #[.pointer c] #[],.func (.func 192) #[.pointer c] #[],.func (.func 193) #[.pointer c] #[],.func (.func 194) #[.pointer c] #[],.func (.func 195) #[.pointer c] #[]] 236 (0,0))
 refine qAI 5 (fun i V1=>V.sub V1/\V1 b=some (.cells #[.func (.func 191) #[.pointer c] #[],.func (.func 192) #[.pointer c] #[],.func (.func 193) #[.pointer c] #[],.func (.func 194) #[.pointer c] #[],.func (.func 195) #[.pointer c] #[]] 236 (0,0)) /\
  ((i=0/\qIU d=(qHd d).or ((qFj d).or ((qFy d).or ((qCw d).or (qIN d)))))∨(i=1/\qIU d=(qFj d).or ((qFy d).or ((qCw d).or (qIN d))))∨(i=2/\qIU d=(qFy d).or ((qCw d).or (qIN d)))∨(i=3/\qFy d=none/\qIU d=(qCw d).or (qIN d))∨(i=4/\qFy d=none/\qIU d=qIN d)∨(i=5/\qIU d=none))) ⟨hs1,Mem.set_same _ _ _,.inl ⟨rfl,rfl⟩⟩ ?_
 rintro i b' V1 J hi ⟨hV,hrow,hst⟩ hJ
 have fin:∀{V2:Mem} {X Y:Option Flt} {p:Option Addr},V.sub V2->FltAt V2 p X->¬(p=none)->qIU d=X.or Y->(∃p',Ending.returned (.pointer p)=.returned (.pointer p')/\V.sub V2/\FltAt V2 p' (qIU d)):=fun {V2 X Y p} hs hf hn he=>by
  obtain⟨r,rfl⟩:=qEV hf hn
  simp_all
 refine⟨fun hlt=>?_,fun hge=>?_⟩
 ·rcases hst with⟨rfl,he⟩|⟨rfl,he⟩|⟨rfl,he⟩|⟨rfl,hf,he⟩|⟨rfl,hf,he⟩|⟨rfl,he⟩
  ·refine⟨by simp[qAa],by omega,by omega,.func (.func 191) #[.pointer c] #[],rfl,qAd hrow 0 1 (by simp),_,_,_,rfl,Tryz.call191,Tri.mono (F1 V1 hV) ?_⟩
   rintro _ V2 ⟨p,rfl,h12,hfl⟩
   refine⟨_,rfl,fun hn=>⟨⟨by omega,by omega⟩,hJ (by omega) _ _ ⟨hV.trans h12,h12 _ _ hrow,?_⟩⟩,fun hn=>fin (hV.trans h12) hfl hn he⟩
   subst hn
   exact .inr (.inl ⟨rfl,by rw[he,qCb hfl,Option.none_or]⟩)
  ·refine⟨by simp[qAa],by omega,by omega,.func (.func 192) #[.pointer c] #[],rfl,qAd hrow 1 1 (by simp),_,_,_,rfl,Tryz.call192,Tri.mono (F2 V1 hV) ?_⟩
   rintro _ V2 ⟨p,rfl,h12,hfl⟩
   refine⟨_,rfl,fun hn=>⟨⟨by omega,by omega⟩,hJ (by omega) _ _ ⟨hV.trans h12,h12 _ _ hrow,?_⟩⟩,fun hn=>fin (hV.trans h12) hfl hn he⟩
   subst hn
   exact .inr (.inr (.inl ⟨rfl,by rw[he,qCb hfl,Option.none_or]⟩))
  ·refine⟨by simp[qAa],by omega,by omega,.func (.func 193) #[.pointer c] #[],rfl,qAd hrow 2 1 (by simp),_,_,_,rfl,Tryz.call193,Tri.mono (F3 V1 hV) ?_⟩
   rintro _ V2 ⟨p,rfl,h12,hfl⟩
   refine⟨_,rfl,fun hn=>⟨⟨by omega,by omega⟩,hJ (by omega) _ _ ⟨hV.trans h12,h12 _ _ hrow,?_⟩⟩,fun hn=>fin (hV.trans h12) hfl hn he⟩
   subst hn
   exact .inr (.inr (.inr (.inl ⟨rfl,qCb hfl,by rw[he,qCb hfl,Option.none_or]⟩)))
  ·refine⟨by simp[qAa],by omega,by omega,.func (.func 194) #[.pointer c] #[],rfl,qAd hrow 3 1 (by simp),_,_,_,rfl,Tryz.call194,Tri.mono (F4 V1 hV) ?_⟩
   rintro _ V2 ⟨p,rfl,h12,hfl⟩
   refine⟨_,rfl,fun hn=>⟨⟨by omega,by omega⟩,hJ (by omega) _ _ ⟨hV.trans h12,h12 _ _ hrow,?_⟩⟩,fun hn=>fin (hV.trans h12) hfl hn he⟩
   subst hn
   exact .inr (.inr (.inr (.inr (.inl ⟨rfl,hf,by rw[he,qCb hfl,Option.none_or]⟩))))
  ·refine⟨by simp[qAa],by omega,by omega,.func (.func 195) #[.pointer c] #[],rfl,qAd hrow 4 1 (by simp),_,_,_,rfl,Tryz.call195,Tri.mono (F5 V1 hV hf) ?_⟩
   rintro _ V2 ⟨p,rfl,h12,hfl⟩
   refine⟨_,rfl,fun hn=>⟨⟨by omega,by omega⟩,hJ (by omega) _ _ ⟨hV.trans h12,h12 _ _ hrow,?_⟩⟩,fun hn=>fin (Y:=none) (hV.trans h12) hfl hn (by simp_all)⟩
   subst hn
   exact .inr (.inr (.inr (.inr (.inr ⟨rfl,by rw[he,qCb hfl]⟩))))
  ·omega
 ·rcases hst with⟨rfl,he⟩|⟨rfl,he⟩|⟨rfl,he⟩|⟨rfl,hf,he⟩|⟨rfl,hf,he⟩|⟨rfl,he⟩
  ·omega
  ·omega
  ·omega
  ·omega
  ·omega
  ·rw[he];exact⟨none,rfl,hV,rfl⟩
theorem c113[Tab V](hS:qHw)(hN:NewC)(hd:Ds.Ok V d):PP 113 [d.v] V (if qAE d=true then f3 (qIU d) else .tuple #[.string sE,.int .i64 0,.int .i64 1]):=by
 refine Pur.mk (x113 ?_)
 unfold w113
 refine(c120 hd).call ⟨_,rfl,fun hval=>?_,fun hval=>?_⟩
 ·rw[if_pos hval]
  refine Tri.mono (hN V d hd) ?_
  rintro _ V1 ⟨c,rfl,h1,hc⟩
  refine⟨c,rfl,Tri.mono (impFirst hS hc (vne hval) (vparts hval)) ?_⟩
  rintro _ V2 ⟨p,rfl,h2,hfl⟩
  refine⟨p,rfl,fun hn=>?_,fun hn=>?_⟩
  ·subst hn
   rw[qCb hfl]
   exact⟨rfl,h1.trans h2⟩
  ·obtain⟨r,hr⟩:=qEV hfl hn
   rw[hr]at hfl ⊢
   obtain⟨b,t,rfl,hb⟩:=hfl
   exact⟨hn,hn,_,qAd hb 0 1 (by simp),hn,hn,_,qAd hb 1 1 (by simp),hn,hn,_,qAd hb 2 1 (by simp),qBX (p:=some ⟨b,0,none⟩) (qAd hb 2 1 (by simp)),hn,hn,qBX (p:=some ⟨b,0,none⟩) (qAd hb 1 1 (by simp)),hn,hn,qBX (p:=some ⟨b,0,none⟩) (qAd hb 2 1 (by simp)),hn,hn,rfl,h1.trans h2⟩
 ·rw[if_neg hval];exact⟨rfl,Mem.sub.refl _⟩
end
end Go.Proofs
