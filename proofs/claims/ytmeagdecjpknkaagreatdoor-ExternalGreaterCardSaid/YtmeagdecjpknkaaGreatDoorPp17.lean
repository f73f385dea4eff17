/- Part 17 of a proof of a law of this seat: no statement of the seat is proved here. -/
import Derived.Test.YtmeagdecjpknkaaGreatDoorPp15
import Derived.Test.YtmeagdecjpknkaaGreatDoorPp16
import Derived.Test.YtmeagdecjpknkaaGreatDoorPp04
import Derived.Test.YtmeagdecjpknkaaGreatDoorPp09
import Derived.Test.YtmeagdecjpknkaaGreatDoorPp14
set_option linter.unusedVariables false
set_option linter.unusedSimpArgs false
namespace Go.Proofs
open Go Go.Sx
attribute [local irreducible] Go.Sx.Tri
set_option linter.unusedVariables false
def chL:ByteArray:=qAr [76]
def qDC:ByteArray:=qAr [110,101,120,116]
def qCq:ByteArray:=qAr [104,101,97,100]
def chX:ByteArray:=qAr [120]
def qHa:ByteArray:=qAr [119,97,108,107]
def chChain:ByteArray:=qAr [99,104,97,105,110]
def nmX(s:ByteArray):E:=.mk 4 0 s qAL []
def nxX:E:=.mk 5 0 qDC qAL [nmX chX]
def nlX:E:=.mk 3 0 sE qAL []
def neX:E:=.mk 15 0 sE qAL [nmX chX,nlX]
def st1:S:=.mk 1 chX qAL [nmX qCq] qAL [] qAL []
def st2:S:=.mk 1 chX qAL [nxX] qAL [] qAL []
def st3:S:=.mk 4 sE qAL [neX] qAL [st2] qAL []
def chPr:Pr:=⟨qHa,qAL,[],sE,qAL,[⟨chX,chL⟩],qAL,[st1,st3]⟩
def chTy:Ty:=⟨chL,qAL,[⟨qDC,chL⟩]⟩
def qBY:Ds:=⟨chChain,qAL,[chTy],qAL,[⟨qCq,chL⟩],qAL,[chPr],qAL,[],qAL,[],qAL,[],qAL,[]⟩
def chF:Value:=.func (.func 75) #[] #[]
def cE(x:E)(v:Value)(A:Mem):Prop:=∃e,v=e.v/\eEr e=x/\E.Ok A e
def cL(xs:List E)(v:Value)(A:Mem):Prop:=∃(s:Sl) (es:List E),v=s.v/\es.map eEr=xs/\qAc A s 4 (es.map E.row)/\∀e∈es,E.Ok A e
def cS(x:S)(v:Value)(A:Mem):Prop:=∃e:S,v=e.v/\sEr e=x/\S.Ok A e
def cB(xs:List S)(v:Value)(A:Mem):Prop:=∃(s:Sl) (es:List S),v=s.v/\es.map sEr=xs/\qAc A s 5 (es.map S.row)/\∀e∈es,S.Ok A e
def cF(f:Fld)(v:Value)(A:Mem):Prop:=∃s:Sl,v=s.v/\qAc A s 2 ([f].map Fld.row)
def cT(v:Value)(A:Mem):Prop:=∃t:Ty,v=.agg t.row.toArray/\tEr t=chTy/\Ty.Ok A t
def cTs(v:Value)(A:Mem):Prop:=∃(s:Sl) (t:Ty),v=s.v/\tEr t=chTy/\qAc A s 2 ([t].map Ty.row)/\Ty.Ok A t
def cP(v:Value)(A:Mem):Prop:=∃p:Pr,v=p.v/\pEr p=chPr/\Pr.Ok A p
def cPs(v:Value)(A:Mem):Prop:=∃(s:Sl) (p:Pr),v=s.v/\pEr p=chPr/\qAc A s 5 ([p].map Pr.row)/\Pr.Ok A p
def cD(v:Value)(A:Mem):Prop:=∃d:Ds,v=d.v/\qIM qBY d/\Ds.Ok A d
section
variable{A B:Mem}{v:Value}(hs:A.sub B)
include hs
theorem cE.mono{x:E}(h:cE x v A):cE x v B:=by obtain⟨e,a,b,c⟩:=h;exact⟨e,a,b,c.sub hs⟩
theorem cL.mono{x:List E}(h:cL x v A):cL x v B:=by obtain⟨s,es,a,b,c,d⟩:=h;exact⟨s,es,a,b,c.sub hs,fun e he=>(d e he).sub hs⟩
theorem cS.mono{x:S}(h:cS x v A):cS x v B:=by obtain⟨e,a,b,c⟩:=h;exact⟨e,a,b,c.sub hs⟩
theorem cB.mono{x:List S}(h:cB x v A):cB x v B:=by obtain⟨s,es,a,b,c,d⟩:=h;exact⟨s,es,a,b,c.sub hs,fun e he=>(d e he).sub hs⟩
theorem cF.mono{f:Fld}(h:cF f v A):cF f v B:=by obtain⟨s,a,b⟩:=h;exact⟨s,a,b.sub hs⟩
theorem cT.mono(h:cT v A):cT v B:=by obtain⟨t,a,b,c⟩:=h;exact⟨t,a,b,c.sub hs⟩
theorem cTs.mono(h:cTs v A):cTs v B:=by obtain⟨s,t,a,b,c,d⟩:=h;exact⟨s,t,a,b,c.sub hs,d.sub hs⟩
theorem pr_sub{p:Pr}(h:Pr.Ok A p):Pr.Ok B p:=⟨h.params.sub hs,h.locals.sub hs,h.body.sub hs,fun s hp=>(h.stmts s hp).sub hs⟩
theorem cP.mono(h:cP v A):cP v B:=by obtain⟨p,a,b,c⟩:=h;exact⟨p,a,b,pr_sub hs c⟩
theorem cPs.mono(h:cPs v A):cPs v B:=by obtain⟨s,p,a,b,c,d⟩:=h;exact⟨s,p,a,b,c.sub hs,pr_sub hs d⟩
theorem cD.mono(h:cD v A):cD v B:=by obtain⟨d,a,b,c⟩:=h;exact⟨d,a,b,c.sub hs⟩
end
def qAf:Nat->List Nat
 | 1=>[0]
 | 2=>[1]
 | 3=>[2]
 | 5=>[4]
 | 7=>[6]
 | 9=>[8]
 | 10=>[9]
 | 11=>[10]
 | 13=>[12]
 | 15=>[13,14]
 | 16=>[15]
 | 17=>[16]
 | 19=>[18]
 | 20=>[19]
 | 21=>[20]
 | 22=>[17,21]
 | 23=>[11,22]
 | 24=>[7,23]
 | 25=>[24]
 | 26=>[3,5,25]
 | 27=>[26]
 | _=>[]
def chQ(A:Mem):Nat->Value->Prop
 | 0,v=>v=.agg #[uS qDC,uS chL]
 | 1,v=>cF ⟨qDC,chL⟩ v A
 | 2,v=>cT v A
 | 3,v=>cTs v A
 | 4,v=>v=.agg #[uS qCq,uS chL]
 | 5,v=>cF ⟨qCq,chL⟩ v A
 | 6,v=>v=.agg #[uS chX,uS chL]
 | 7,v=>cF ⟨chX,chL⟩ v A
 | 8,v=>v=chF
 | 9,v=>cE (nmX qCq) v A
 | 10,v=>cL [nmX qCq] v A
 | 11,v=>cS st1 v A
 | 12,v=>v=chF
 | 13,v=>cE (nmX chX) v A
 | 14,v=>cE nlX v A
 | 15,v=>cL [nmX chX,nlX] v A
 | 16,v=>cE neX v A
 | 17,v=>cL [neX] v A
 | 18,v=>cE nxX v A
 | 19,v=>cL [nxX] v A
 | 20,v=>cS st2 v A
 | 21,v=>cB [st2] v A
 | 22,v=>cS st3 v A
 | 23,v=>cB [st1,st3] v A
 | 24,v=>cP v A
 | 25,v=>cPs v A
 | 26,v=>cD v A
 | _,_=>True
theorem chQ_mono{A B:Mem}(hs:A.sub B):∀(i:Nat) (v:Value),chQ A i v->chQ B i v
 | 0,_,h=>h
 | 1,_,h=>cF.mono hs h
 | 2,_,h=>cT.mono hs h
 | 3,_,h=>cTs.mono hs h
 | 4,_,h=>h
 | 5,_,h=>cF.mono hs h
 | 6,_,h=>h
 | 7,_,h=>cF.mono hs h
 | 8,_,h=>h
 | 9,_,h=>cE.mono hs h
 | 10,_,h=>cL.mono hs h
 | 11,_,h=>cS.mono hs h
 | 12,_,h=>h
 | 13,_,h=>cE.mono hs h
 | 14,_,h=>cE.mono hs h
 | 15,_,h=>cL.mono hs h
 | 16,_,h=>cE.mono hs h
 | 17,_,h=>cL.mono hs h
 | 18,_,h=>cE.mono hs h
 | 19,_,h=>cL.mono hs h
 | 20,_,h=>cS.mono hs h
 | 21,_,h=>cB.mono hs h
 | 22,_,h=>cS.mono hs h
 | 23,_,h=>cB.mono hs h
 | 24,_,h=>cP.mono hs h
 | 25,_,h=>cPs.mono hs h
 | 26,_,h=>cD.mono hs h
 | _+27,_,_=>trivial
def chN(b0:Nat)(V:Mem):Mem:=fun c=>if c=b0 then none else V c
theorem chN_ne{b0 c:Nat}{A:Mem}(h:c≠b0):chN b0 A c=A c:=if_neg h
theorem chN_no{b0 c:Nat}{A:Mem}(h:c=b0):chN b0 A c=none:=if_pos h
theorem chN_sub{b0:Nat}{A B:Mem}(h:A.sub B):(chN b0 A).sub (chN b0 B):=fun c o hc=>by
 by_cases e:c=b0
 ·rw[chN_no e]at hc;cases hc
 ·rw[chN_ne e]at hc ⊢;exact h _ _ hc
theorem chN_le{b0:Nat}{A:Mem}:(chN b0 A).sub A:=fun c o hc=>by
 by_cases e:c=b0
 ·rw[chN_no e]at hc;cases hc
 ·rw[chN_ne e]at hc;exact hc
def chBase(b0 b6:Nat):List (Nat×Value):=[(0,pv b0),(1,chF),(2,pv b6)]
structure ChB (V:Mem) (b0 b6:Nat):Prop where
 z:∃o,V b0=some o
 next:∃e,eEr e=nxX/\V b6=some (.cells e.row.toArray 151 (0,0))/\E.Ok (chN b0 V) e
def ChG(i:Nat)(b0 b6:Nat)(V1:Mem)(val:Nat->Value):Prop:=∃ins,(∀s v,ins.lookup s=some v->(chBase b0 b6).lookup s=some v∨∃j∈qAf i,s=7+j/\v=val j)/\qCS Tryz.prog 34 qBK i 1 ins [7+i] V1 fun vs V2=>∃v,vs=[v]/\V1.sub V2/\chQ (chN b0 V2) i v
theorem qDr{val:Nat->Value}:∀{l:List Nat} {s:Nat} {v:Value},(l.map fun j=>(7+j,val j)).lookup s=some v->∃j∈l,s=7+j/\v=val j
 | [],_,_,h=>by cases h
 | j::l,s,v,h=>by
  rw[List.map_cons,List.lookup_cons]at h
  split at h
  ·rename_i e;simp only[beq_iff_eq]at e;cases h;exact⟨j,List.mem_cons_self,e,rfl⟩
  ·obtain⟨k,hk,h1⟩:=qDr h;exact⟨k,List.mem_cons_of_mem _ hk,h1⟩
theorem chIn1{k s:Nat}{x v:Value}(h:[(k,x)].lookup s=some v):s=k/\v=x:=by
 rw[List.lookup_cons]at h
 split at h
 ·rename_i e;simp only[beq_iff_eq]at e;cases h;exact⟨e,rfl⟩
 ·cases h
theorem chIn0{s:Nat}{v:Value}{Q:Prop}(h:([]:List (Nat×Value)).lookup s=some v):Q:=by cases h
section
variable{V V1:Mem}{b0 b6:Nat}{val:Nat->Value}
theorem qEx(hB:ChB V b0 b6)(hs:V.sub V1){b:Nat}(hb:V1 b=none)(o:Obj):chN b0 (V1.set b o) b=some o:=by
 have h:b≠b0:=fun e=>by
  obtain⟨o,ho⟩:=hB.z
  rw[e,hs _ _ ho]at hb;cases hb
 rw[chN_ne h];exact Mem.set_same _ _ _
theorem qDq{b:Nat}(hb:V1 b=none)(o:Obj):(chN b0 V1).sub (chN b0 (V1.set b o)):=chN_sub (Mem.sub_new hb o)
theorem c75{s:ByteArray}:PP 75 [.string s] V (nmX s).v:=by
 refine x75 ?_
 unfold w75
 exact⟨rfl,rfl⟩
theorem chNil{A:Mem}{n:Nat}:qAc A ⟨none,0,0⟩ n []:=qAc.nil
theorem chNm{A:Mem}{op:Int}{s:ByteArray}(h:IntKind.i64.min<=op/\op<=IntKind.i64.max):E.Ok A (.mk op 0 s ⟨none,0,0⟩ []):=.mk chNil (fun _ h=>by simp at h) h (by decide)
theorem ch0(hB:ChB V b0 b6)(hs:V.sub V1)(hv:∀j∈qAf 0,chQ (chN b0 V1) j (val j)):ChG 0 b0 b6 V1 val:=by
 have _:=hB.z;have _:=hs;have _:=hv
 exact⟨[],fun _ _ h=>chIn0 h,s37o0 ⟨_,rfl,.agg #[uS qDC,uS chL],rfl,Mem.sub.refl _,rfl⟩⟩
theorem ch1(hB:ChB V b0 b6)(hs:V.sub V1)(hv:∀j∈qAf 1,chQ (chN b0 V1) j (val j)):ChG 1 b0 b6 V1 val:=by
 have h0:(val 0)=.agg #[uS qDC,uS chL]:=hv 0 (by simp[qAf])
 have eq:[(7,.agg #[uS qDC,uS chL])]=(qAf 1).map fun j=>(7+j,val j):=by simp[qAf,h0]
 refine⟨_,fun s v h=>.inr (qDr (by rw[<- eq];exact h)),s37o1 (a:=qDC) (b:=chL) ?_⟩
 unfold w37o1
 intro b hb
 exact⟨_,rfl,_,rfl,Mem.sub_new hb _,⟨some ⟨b,0,none⟩,1,1⟩,rfl,qAc.cells (xs:=[⟨qDC,chL⟩]) (row:=Fld.row) (qEx hB hs hb _) rfl (fun _=>rfl) rfl (by simp)⟩
theorem ch2(hB:ChB V b0 b6)(hs:V.sub V1)(hv:∀j∈qAf 2,chQ (chN b0 V1) j (val j)):ChG 2 b0 b6 V1 val:=by
 have h1:cF ⟨qDC,chL⟩ (val 1) (chN b0 V1):=hv 1 (by simp[qAf])
 obtain⟨l,s1,s2⟩:=h1
 have eq:[(8,l.v)]=(qAf 2).map fun j=>(7+j,val j):=by simp[qAf,s1]
 refine⟨_,fun s v h=>.inr (qDr (by rw[<- eq];exact h)),s37o2 (a:=l) ⟨_,rfl,_,rfl,Mem.sub.refl _,⟨chL,l,[⟨qDC,chL⟩]⟩,rfl,rfl,⟨s2⟩⟩⟩
theorem ch3(hB:ChB V b0 b6)(hs:V.sub V1)(hv:∀j∈qAf 3,chQ (chN b0 V1) j (val j)):ChG 3 b0 b6 V1 val:=by
 have h2:cT (val 2) (chN b0 V1):=hv 2 (by simp[qAf])
 obtain⟨x,s1,s2,s3⟩:=h2
 have eq:[(9,.agg x.row.toArray)]=(qAf 3).map fun j=>(7+j,val j):=by simp[qAf,s1]
 refine⟨_,fun s v h=>.inr (qDr (by rw[<- eq];exact h)),s37o3 (a:=x.name) (b:=x.fs) ?_⟩
 unfold w37o3
 intro b hb
 exact⟨_,rfl,_,rfl,Mem.sub_new hb _,⟨some ⟨b,0,none⟩,1,1⟩,x,rfl,s2,qAc.cells (xs:=[x]) (row:=Ty.row) (qEx hB hs hb _) rfl (fun _=>rfl) rfl (by simp),s3.sub (qDq hb _)⟩
theorem ch4(hB:ChB V b0 b6)(hs:V.sub V1)(hv:∀j∈qAf 4,chQ (chN b0 V1) j (val j)):ChG 4 b0 b6 V1 val:=by
 have _:=hB.z;have _:=hs;have _:=hv
 exact⟨[],fun _ _ h=>chIn0 h,s37o4 ⟨_,rfl,.agg #[uS qCq,uS chL],rfl,Mem.sub.refl _,rfl⟩⟩
theorem ch5(hB:ChB V b0 b6)(hs:V.sub V1)(hv:∀j∈qAf 5,chQ (chN b0 V1) j (val j)):ChG 5 b0 b6 V1 val:=by
 have h4:(val 4)=.agg #[uS qCq,uS chL]:=hv 4 (by simp[qAf])
 have eq:[(11,.agg #[uS qCq,uS chL])]=(qAf 5).map fun j=>(7+j,val j):=by simp[qAf,h4]
 refine⟨_,fun s v h=>.inr (qDr (by rw[<- eq];exact h)),s37o5 (a:=qCq) (b:=chL) ?_⟩
 unfold w37o5
 intro b hb
 exact⟨_,rfl,_,rfl,Mem.sub_new hb _,⟨some ⟨b,0,none⟩,1,1⟩,rfl,qAc.cells (xs:=[⟨qCq,chL⟩]) (row:=Fld.row) (qEx hB hs hb _) rfl (fun _=>rfl) rfl (by simp)⟩
theorem ch6(hB:ChB V b0 b6)(hs:V.sub V1)(hv:∀j∈qAf 6,chQ (chN b0 V1) j (val j)):ChG 6 b0 b6 V1 val:=by
 have _:=hB.z;have _:=hs;have _:=hv
 exact⟨[],fun _ _ h=>chIn0 h,s37o6 ⟨_,rfl,.agg #[uS chX,uS chL],rfl,Mem.sub.refl _,rfl⟩⟩
theorem ch7(hB:ChB V b0 b6)(hs:V.sub V1)(hv:∀j∈qAf 7,chQ (chN b0 V1) j (val j)):ChG 7 b0 b6 V1 val:=by
 have h6:(val 6)=.agg #[uS chX,uS chL]:=hv 6 (by simp[qAf])
 have eq:[(13,.agg #[uS chX,uS chL])]=(qAf 7).map fun j=>(7+j,val j):=by simp[qAf,h6]
 refine⟨_,fun s v h=>.inr (qDr (by rw[<- eq];exact h)),s37o7 (a:=chX) (b:=chL) ?_⟩
 unfold w37o7
 intro b hb
 exact⟨_,rfl,_,rfl,Mem.sub_new hb _,⟨some ⟨b,0,none⟩,1,1⟩,rfl,qAc.cells (xs:=[⟨chX,chL⟩]) (row:=Fld.row) (qEx hB hs hb _) rfl (fun _=>rfl) rfl (by simp)⟩
theorem ch8(hB:ChB V b0 b6)(hs:V.sub V1)(hv:∀j∈qAf 8,chQ (chN b0 V1) j (val j)):ChG 8 b0 b6 V1 val:=by
 have _:=hB.z;have _:=hs;have _:=hv
 exact⟨[(1,chF)],fun s v h=>.inl (by obtain⟨rfl,rfl⟩:=chIn1 h;rfl),s37o8 (a:=chF) ⟨_,rfl,chF,rfl,Mem.sub.refl _,rfl⟩⟩
theorem ch9(hB:ChB V b0 b6)(hs:V.sub V1)(hv:∀j∈qAf 9,chQ (chN b0 V1) j (val j)):ChG 9 b0 b6 V1 val:=by
 have h8:(val 8)=chF:=hv 8 (by simp[qAf])
 have eq:[(15,chF)]=(qAf 9).map fun j=>(7+j,val j):=by simp[qAf,h8]
 refine⟨_,fun s v h=>.inr (qDr (by rw[<- eq];exact h)),s37o9 (a:=chF) ?_⟩
 unfold w37o9
 refine⟨75,#[],#[],rfl,Tryz.call75,(c75 (s:=qCq)).callv (first:=[]) (caps:=[]) ⟨_,_,_,_,rfl,_,rfl,_,rfl,Mem.sub.refl _,.mk 4 0 qCq ⟨none,0,0⟩ [],rfl,rfl,chNm (by decide)⟩⟩
theorem ch10(hB:ChB V b0 b6)(hs:V.sub V1)(hv:∀j∈qAf 10,chQ (chN b0 V1) j (val j)):ChG 10 b0 b6 V1 val:=by
 have h9:cE (nmX qCq) (val 9) (chN b0 V1):=hv 9 (by simp[qAf])
 obtain⟨e,e1,e2,e3⟩:=h9
 have eq:[(16,e.v)]=(qAf 10).map fun j=>(7+j,val j):=by simp[qAf,e1]
 refine⟨_,fun s v h=>.inr (qDr (by rw[<- eq];exact h)),s37o10 (a:=e.op) (b:=e.n) (c:=e.s) (d:=e.l) ?_⟩
 unfold w37o10
 intro b hb
 exact⟨_,rfl,_,rfl,Mem.sub_new hb _,⟨some ⟨b,0,none⟩,1,1⟩,[e],rfl,by rw[List.map_singleton,e2],qAc.cells (xs:=[e]) (row:=E.row) (qEx hB hs hb _) rfl (fun _=>rfl) rfl (by simp),fun x hx=>by rw[List.mem_singleton.1 hx];exact e3.sub (qDq hb _)⟩
theorem ch11(hB:ChB V b0 b6)(hs:V.sub V1)(hv:∀j∈qAf 11,chQ (chN b0 V1) j (val j)):ChG 11 b0 b6 V1 val:=by
 have h10:cL [nmX qCq] (val 10) (chN b0 V1):=hv 10 (by simp[qAf])
 obtain⟨l,es,s1,s2,s3,s4⟩:=h10
 have eq:[(17,l.v)]=(qAf 11).map fun j=>(7+j,val j):=by simp[qAf,s1]
 refine⟨_,fun s v h=>.inr (qDr (by rw[<- eq];exact h)),s37o11 (a:=l) ⟨_,rfl,_,rfl,Mem.sub.refl _,.mk 1 chX l es ⟨none,0,0⟩ [] ⟨none,0,0⟩ [],rfl,by unfold sEr;rw[qDg,s2];rfl,.mk s3 s4 chNil (fun _ h=>by simp at h) chNil (fun _ h=>by simp at h) (by decide)⟩⟩
theorem ch12(hB:ChB V b0 b6)(hs:V.sub V1)(hv:∀j∈qAf 12,chQ (chN b0 V1) j (val j)):ChG 12 b0 b6 V1 val:=by
 have _:=hB.z;have _:=hs;have _:=hv
 exact⟨[(1,chF)],fun s v h=>.inl (by obtain⟨rfl,rfl⟩:=chIn1 h;rfl),s37o12 (a:=chF) ⟨_,rfl,chF,rfl,Mem.sub.refl _,rfl⟩⟩
theorem ch13(hB:ChB V b0 b6)(hs:V.sub V1)(hv:∀j∈qAf 13,chQ (chN b0 V1) j (val j)):ChG 13 b0 b6 V1 val:=by
 have h12:(val 12)=chF:=hv 12 (by simp[qAf])
 have eq:[(19,chF)]=(qAf 13).map fun j=>(7+j,val j):=by simp[qAf,h12]
 refine⟨_,fun s v h=>.inr (qDr (by rw[<- eq];exact h)),s37o13 (a:=chF) ?_⟩
 unfold w37o13
 refine⟨75,#[],#[],rfl,Tryz.call75,(c75 (s:=chX)).callv (first:=[]) (caps:=[]) ⟨_,_,_,_,rfl,_,rfl,_,rfl,Mem.sub.refl _,.mk 4 0 chX ⟨none,0,0⟩ [],rfl,rfl,chNm (by decide)⟩⟩
theorem ch14(hB:ChB V b0 b6)(hs:V.sub V1)(hv:∀j∈qAf 14,chQ (chN b0 V1) j (val j)):ChG 14 b0 b6 V1 val:=by
 have _:=hB.z;have _:=hs;have _:=hv
 exact⟨[],fun _ _ h=>chIn0 h,s37o14 ⟨_,rfl,_,rfl,Mem.sub.refl _,.mk 3 0 sE ⟨none,0,0⟩ [],rfl,rfl,chNm (by decide)⟩⟩
theorem ch15(hB:ChB V b0 b6)(hs:V.sub V1)(hv:∀j∈qAf 15,chQ (chN b0 V1) j (val j)):ChG 15 b0 b6 V1 val:=by
 have h13:cE (nmX chX) (val 13) (chN b0 V1):=hv 13 (by simp[qAf])
 have h14:cE nlX (val 14) (chN b0 V1):=hv 14 (by simp[qAf])
 obtain⟨e,e1,e2,e3⟩:=h13
 obtain⟨f,f1,f2,f3⟩:=h14
 have eq:[(20,e.v),(21,f.v)]=(qAf 15).map fun j=>(7+j,val j):=by simp[qAf,e1,f1]
 refine⟨_,fun s v h=>.inr (qDr (by rw[<- eq];exact h)),s37o15 (a:=e.op) (b:=e.n) (c:=e.s) (d:=e.l) (g:=f.op) (i:=f.n) (j:=f.s) (k:=f.l) ?_⟩
 unfold w37o15
 intro b hb
 exact⟨_,rfl,_,rfl,Mem.sub_new hb _,⟨some ⟨b,0,none⟩,2,2⟩,[e,f],rfl,by simp[e2,f2],qAc.cells (xs:=[e,f]) (row:=E.row) (qEx hB hs hb _) rfl (fun _=>rfl) rfl (by simp),fun x hx=>by
  rcases List.mem_cons.1 hx with rfl|hx
  ·exact e3.sub (qDq hb _)
  ·rw[List.mem_singleton.1 hx];exact f3.sub (qDq hb _)⟩
theorem ch16(hB:ChB V b0 b6)(hs:V.sub V1)(hv:∀j∈qAf 16,chQ (chN b0 V1) j (val j)):ChG 16 b0 b6 V1 val:=by
 have h15:cL [nmX chX,nlX] (val 15) (chN b0 V1):=hv 15 (by simp[qAf])
 obtain⟨l,es,s1,s2,s3,s4⟩:=h15
 have eq:[(22,l.v)]=(qAf 16).map fun j=>(7+j,val j):=by simp[qAf,s1]
 refine⟨_,fun s v h=>.inr (qDr (by rw[<- eq];exact h)),s37o16 (a:=l) ⟨_,rfl,_,rfl,Mem.sub.refl _,.mk 15 0 sE l es,rfl,by unfold eEr;rw[qDg,s2];rfl,.mk s3 s4 (by decide) (by decide)⟩⟩
theorem ch17(hB:ChB V b0 b6)(hs:V.sub V1)(hv:∀j∈qAf 17,chQ (chN b0 V1) j (val j)):ChG 17 b0 b6 V1 val:=by
 have h16:cE neX (val 16) (chN b0 V1):=hv 16 (by simp[qAf])
 obtain⟨e,e1,e2,e3⟩:=h16
 have eq:[(23,e.v)]=(qAf 17).map fun j=>(7+j,val j):=by simp[qAf,e1]
 refine⟨_,fun s v h=>.inr (qDr (by rw[<- eq];exact h)),s37o17 (a:=e.op) (b:=e.n) (c:=e.s) (d:=e.l) ?_⟩
 unfold w37o17
 intro b hb
 exact⟨_,rfl,_,rfl,Mem.sub_new hb _,⟨some ⟨b,0,none⟩,1,1⟩,[e],rfl,by rw[List.map_singleton,e2],qAc.cells (xs:=[e]) (row:=E.row) (qEx hB hs hb _) rfl (fun _=>rfl) rfl (by simp),fun x hx=>by rw[List.mem_singleton.1 hx];exact e3.sub (qDq hb _)⟩
theorem ch18(hB:ChB V b0 b6)(hs:V.sub V1)(hv:∀j∈qAf 18,chQ (chN b0 V1) j (val j)):ChG 18 b0 b6 V1 val:=by
 have _:=hB.z;have _:=hs;have _:=hv
 obtain⟨e,he,hb,hok⟩:=hB.next
 exact⟨[(2,pv b6)],fun s v h=>.inl (by obtain⟨rfl,rfl⟩:=chIn1 h;rfl),s37o18 (a:=some ⟨b6,0,none⟩) ⟨_,_,_,_,qAd (hs _ _ hb) 0 4 (by simp[E.row]),_,rfl,e.v,rfl,Mem.sub.refl _,e,rfl,he,hok.sub (chN_sub hs)⟩⟩
theorem ch19(hB:ChB V b0 b6)(hs:V.sub V1)(hv:∀j∈qAf 19,chQ (chN b0 V1) j (val j)):ChG 19 b0 b6 V1 val:=by
 have h18:cE nxX (val 18) (chN b0 V1):=hv 18 (by simp[qAf])
 obtain⟨e,e1,e2,e3⟩:=h18
 have eq:[(25,e.v)]=(qAf 19).map fun j=>(7+j,val j):=by simp[qAf,e1]
 refine⟨_,fun s v h=>.inr (qDr (by rw[<- eq];exact h)),s37o19 (a:=e.op) (b:=e.n) (c:=e.s) (d:=e.l) ?_⟩
 unfold w37o19
 intro b hb
 exact⟨_,rfl,_,rfl,Mem.sub_new hb _,⟨some ⟨b,0,none⟩,1,1⟩,[e],rfl,by rw[List.map_singleton,e2],qAc.cells (xs:=[e]) (row:=E.row) (qEx hB hs hb _) rfl (fun _=>rfl) rfl (by simp),fun x hx=>by rw[List.mem_singleton.1 hx];exact e3.sub (qDq hb _)⟩
theorem ch20(hB:ChB V b0 b6)(hs:V.sub V1)(hv:∀j∈qAf 20,chQ (chN b0 V1) j (val j)):ChG 20 b0 b6 V1 val:=by
 have h19:cL [nxX] (val 19) (chN b0 V1):=hv 19 (by simp[qAf])
 obtain⟨l,es,s1,s2,s3,s4⟩:=h19
 have eq:[(26,l.v)]=(qAf 20).map fun j=>(7+j,val j):=by simp[qAf,s1]
 refine⟨_,fun s v h=>.inr (qDr (by rw[<- eq];exact h)),s37o20 (a:=l) ⟨_,rfl,_,rfl,Mem.sub.refl _,.mk 1 chX l es ⟨none,0,0⟩ [] ⟨none,0,0⟩ [],rfl,by unfold sEr;rw[qDg,s2];rfl,.mk s3 s4 chNil (fun _ h=>by simp at h) chNil (fun _ h=>by simp at h) (by decide)⟩⟩
theorem ch21(hB:ChB V b0 b6)(hs:V.sub V1)(hv:∀j∈qAf 21,chQ (chN b0 V1) j (val j)):ChG 21 b0 b6 V1 val:=by
 have h20:cS st2 (val 20) (chN b0 V1):=hv 20 (by simp[qAf])
 obtain⟨⟨op,s,el,es,ll,ls,xl,xs⟩,e1,e2,e3⟩:=h20
 have eq:[(27,(S.mk op s el es ll ls xl xs).v)]=(qAf 21).map fun j=>(7+j,val j):=by simp[qAf,e1]
 refine⟨_,fun s v h=>.inr (qDr (by rw[<- eq];exact h)),s37o21 (a:=op) (b:=s) (c:=el) (d:=ll) (g:=xl) ?_⟩
 unfold w37o21
 intro b hb
 exact⟨_,rfl,_,rfl,Mem.sub_new hb _,⟨some ⟨b,0,none⟩,1,1⟩,[S.mk op s el es ll ls xl xs],rfl,by rw[List.map_singleton,e2],qAc.cells (xs:=[S.mk op s el es ll ls xl xs]) (row:=S.row) (qEx hB hs hb _) rfl (fun x=>by cases x;rfl) rfl (by simp),fun x hx=>by rw[List.mem_singleton.1 hx];exact e3.sub (qDq hb _)⟩
theorem ch22(hB:ChB V b0 b6)(hs:V.sub V1)(hv:∀j∈qAf 22,chQ (chN b0 V1) j (val j)):ChG 22 b0 b6 V1 val:=by
 have h17:cL [neX] (val 17) (chN b0 V1):=hv 17 (by simp[qAf])
 have h21:cB [st2] (val 21) (chN b0 V1):=hv 21 (by simp[qAf])
 obtain⟨l,es,s1,s2,s3,s4⟩:=h17
 obtain⟨k,ss,k1,k2,k3,k4⟩:=h21
 have eq:[(24,l.v),(28,k.v)]=(qAf 22).map fun j=>(7+j,val j):=by simp[qAf,s1,k1]
 refine⟨_,fun s v h=>.inr (qDr (by rw[<- eq];exact h)),s37o22 (a:=l) (b:=k) ⟨_,rfl,_,rfl,Mem.sub.refl _,.mk 4 sE l es k ss ⟨none,0,0⟩ [],rfl,by unfold sEr;rw[qDg,s2,qHo,k2];rfl,.mk s3 s4 k3 k4 chNil (fun _ h=>by simp at h) (by decide)⟩⟩
theorem ch23(hB:ChB V b0 b6)(hs:V.sub V1)(hv:∀j∈qAf 23,chQ (chN b0 V1) j (val j)):ChG 23 b0 b6 V1 val:=by
 have h11:cS st1 (val 11) (chN b0 V1):=hv 11 (by simp[qAf])
 have h22:cS st3 (val 22) (chN b0 V1):=hv 22 (by simp[qAf])
 obtain⟨⟨op,s,el,es,ll,ls,xl,xs⟩,e1,e2,e3⟩:=h11
 obtain⟨⟨op2,s2,el2,es2,ll2,ls2,xl2,xs2⟩,f1,f2,f3⟩:=h22
 have eq:[(18,(S.mk op s el es ll ls xl xs).v),(29,(S.mk op2 s2 el2 es2 ll2 ls2 xl2 xs2).v)]=(qAf 23).map fun j=>(7+j,val j):=by simp[qAf,e1,f1]
 refine⟨_,fun s v h=>.inr (qDr (by rw[<- eq];exact h)),s37o23 (a:=op) (b:=s) (c:=el) (d:=ll) (g:=xl) (i:=op2) (j:=s2) (k:=el2) (l:=ll2) (o:=xl2) ?_⟩
 unfold w37o23
 intro b hb
 exact⟨_,rfl,_,rfl,Mem.sub_new hb _,⟨some ⟨b,0,none⟩,2,2⟩,[S.mk op s el es ll ls xl xs,S.mk op2 s2 el2 es2 ll2 ls2 xl2 xs2],rfl,by rw[List.map_cons,List.map_singleton,e2,f2],qAc.cells (xs:=[S.mk op s el es ll ls xl xs,S.mk op2 s2 el2 es2 ll2 ls2 xl2 xs2]) (row:=S.row) (qEx hB hs hb _) rfl (fun x=>by cases x;rfl) rfl (by simp),fun x hx=>by
  rcases List.mem_cons.1 hx with rfl|hx
  ·exact e3.sub (qDq hb _)
  ·rw[List.mem_singleton.1 hx];exact f3.sub (qDq hb _)⟩
theorem ch24(hB:ChB V b0 b6)(hs:V.sub V1)(hv:∀j∈qAf 24,chQ (chN b0 V1) j (val j)):ChG 24 b0 b6 V1 val:=by
 have h7:cF ⟨chX,chL⟩ (val 7) (chN b0 V1):=hv 7 (by simp[qAf])
 have h23:cB [st1,st3] (val 23) (chN b0 V1):=hv 23 (by simp[qAf])
 obtain⟨l,s1,s2⟩:=h7
 obtain⟨k,ss,k1,k2,k3,k4⟩:=h23
 have eq:[(14,l.v),(30,k.v)]=(qAf 24).map fun j=>(7+j,val j):=by simp[qAf,s1,k1]
 refine⟨_,fun s v h=>.inr (qDr (by rw[<- eq];exact h)),s37o24 (a:=l) (b:=k) ⟨_,rfl,_,rfl,Mem.sub.refl _,⟨qHa,⟨none,0,0⟩,[],sE,l,[⟨chX,chL⟩],k,ss⟩,rfl,by unfold pEr;rw[qHo,k2];rfl,⟨chNil,s2,k3,k4⟩⟩⟩
theorem ch25(hB:ChB V b0 b6)(hs:V.sub V1)(hv:∀j∈qAf 25,chQ (chN b0 V1) j (val j)):ChG 25 b0 b6 V1 val:=by
 have h24:cP (val 24) (chN b0 V1):=hv 24 (by simp[qAf])
 obtain⟨p,e1,e2,e3⟩:=h24
 have eq:[(31,p.v)]=(qAf 25).map fun j=>(7+j,val j):=by simp[qAf,e1]
 refine⟨_,fun s v h=>.inr (qDr (by rw[<- eq];exact h)),s37o25 (a:=p.name) (b:=p.ps) (c:=p.result) (d:=p.ls) (g:=p.bs) ?_⟩
 unfold w37o25
 intro b hb
 exact⟨_,rfl,_,rfl,Mem.sub_new hb _,⟨some ⟨b,0,none⟩,1,1⟩,p,rfl,e2,qAc.cells (xs:=[p]) (row:=Pr.row) (qEx hB hs hb _) rfl (fun _=>rfl) rfl (by simp),pr_sub (qDq hb _) e3⟩
theorem ch26(hB:ChB V b0 b6)(hs:V.sub V1)(hv:∀j∈qAf 26,chQ (chN b0 V1) j (val j)):ChG 26 b0 b6 V1 val:=by
 have h3:cTs (val 3) (chN b0 V1):=hv 3 (by simp[qAf])
 have h5:cF ⟨qCq,chL⟩ (val 5) (chN b0 V1):=hv 5 (by simp[qAf])
 have h25:cPs (val 25) (chN b0 V1):=hv 25 (by simp[qAf])
 obtain⟨ts,x,t1,t2,t3,t4⟩:=h3
 obtain⟨gs,g1,g2⟩:=h5
 obtain⟨ps,p,p1,p2,p3,p4⟩:=h25
 have eq:[(10,ts.v),(12,gs.v),(32,ps.v)]=(qAf 26).map fun j=>(7+j,val j):=by simp[qAf,t1,g1,p1]
 refine⟨_,fun s v h=>.inr (qDr (by rw[<- eq];exact h)),s37o26 (a:=ts) (b:=gs) (c:=ps) ⟨_,rfl,_,rfl,Mem.sub.refl _,⟨chChain,ts,[x],gs,[⟨qCq,chL⟩],ps,[p],⟨none,0,0⟩,[],⟨none,0,0⟩,[],⟨none,0,0⟩,[],⟨none,0,0⟩,[]⟩,rfl,⟨?_,rfl,rfl,rfl,rfl⟩,?_⟩⟩
 ·unfold dEr
  rw[List.map_singleton,List.map_singleton,t2,p2];rfl
 ·exact
  {types:=t3
   typesOk:=fun t ht=>by rw[List.mem_singleton.1 ht];exact t4
   globals:=g2
   procs:=p3
   procsOk:=fun t ht=>by rw[List.mem_singleton.1 ht];exact p4
   measures:=qAc.nil
   measuresOk:=fun _ h=>by simp at h
   invs:=qAc.nil
   invsOk:=fun _ h=>by simp at h
   pots:=qAc.nil
   potsOk:=fun _ h=>by simp at h
   bounds:=qAc.nil
   boundsOk:=fun _ h=>by simp at h }
noncomputable def chR3:Code:=(flat (qAm Tryz.f37)).getD 3 .skip
theorem chain_flat:flat (qAm Tryz.f37)=c37a++[chR3,.ret]:=by kernel_rfl
theorem chR3_eq:chR3=.region 3 qBK true:=by kernel_rfl
theorem chR3_ok:anyOk qBK 27 7 qAf=true:=by kernel_rfl
theorem chR3_size:(qBK).size=28:=by kernel_rfl
theorem qKa{tmps:Array Value}{b:Nat}{d:Ds}{w:World}(h0:tmps.getD 0 undef=pv b)(h:w.heap[b]?=some (.cells d.row.toArray 30 (0,0))):(results Tryz.f37 tmps).run Tryz.prog w=.ok d.v w:=by
 have hr:Tryz.f37.results=#[.cell 0 30]:=by kernel_rfl
 unfold results
 rw[hr]
 have e:asAddr (tmps.getD 0 undef)=pure ⟨b,0,none⟩:=by rw[h0];rfl
 have hl:=qBJ (P:=Tryz.prog) (t:=30) (cs:=.cons (.var .s 0) (.cons (.var .sl 1) (.cons (.var .sl 2) (.cons (.var .sl 3) (.cons (.var .sl 4) (.cons (.var .sl 5) (.cons (.var .sl 6) (.cons (.var .sl 7) .nil)))))))) (x:=.agg (.cons (.var .s 0) (.cons (.var .sl 1) (.cons (.var .sl 2) (.cons (.var .sl 3) (.cons (.var .sl 4) (.cons (.var .sl 5) (.cons (.var .sl 6) (.cons (.var .sl 7) .nil))))))))) (ρ:=d.row) (β:=id) (o:=0) (b:=b) (w:=w) h (by kernel_rfl)
 simp only[List.mapM_toArray,List.mapM_cons,List.mapM_nil,Sem.run_bind,Sem.run_map,Sem.run_pure,Result.andThen_ok,e,show (loadVar 30 ⟨b,0,none⟩).run Tryz.prog w=.ok d.v w from hl]
 rfl
theorem chStep(hB:ChB V b0 b6)(hs:V.sub V1):∀i,i<27->(∀j∈qAf i,chQ (chN b0 V1) j (val j))->ChG i b0 b6 V1 val
 | 0,_,hv=>ch0 hB hs hv
 | 1,_,hv=>ch1 hB hs hv
 | 2,_,hv=>ch2 hB hs hv
 | 3,_,hv=>ch3 hB hs hv
 | 4,_,hv=>ch4 hB hs hv
 | 5,_,hv=>ch5 hB hs hv
 | 6,_,hv=>ch6 hB hs hv
 | 7,_,hv=>ch7 hB hs hv
 | 8,_,hv=>ch8 hB hs hv
 | 9,_,hv=>ch9 hB hs hv
 | 10,_,hv=>ch10 hB hs hv
 | 11,_,hv=>ch11 hB hs hv
 | 12,_,hv=>ch12 hB hs hv
 | 13,_,hv=>ch13 hB hs hv
 | 14,_,hv=>ch14 hB hs hv
 | 15,_,hv=>ch15 hB hs hv
 | 16,_,hv=>ch16 hB hs hv
 | 17,_,hv=>ch17 hB hs hv
 | 18,_,hv=>ch18 hB hs hv
 | 19,_,hv=>ch19 hB hs hv
 | 20,_,hv=>ch20 hB hs hv
 | 21,_,hv=>ch21 hB hs hv
 | 22,_,hv=>ch22 hB hs hv
 | 23,_,hv=>ch23 hB hs hv
 | 24,_,hv=>ch24 hB hs hv
 | 25,_,hv=>ch25 hB hs hv
 | 26,_,hv=>ch26 hB hs hv
 | _+27,h,_=>by omega
theorem c37{V:Mem}:Tri Tryz.prog 37 #[] V fun e V'=>V.sub V'/\∃d:Ds,e=.returned d.v/\qIM qBY d/\Ds.Ok V' d:=by
 unfold Go.Sx.Tri
 intro w hV
 refine(callsIn_wide (n:=0)).1 (callsIn_of_wp (F:=qAy none) Tryz.func37 (c:=qAm Tryz.f37) (by kernel_rfl) trivial (qCm ?_) rfl)
 rw[chain_flat]
 have hA:Seg Tryz.prog 34 c37a [] [0,1,2] V fun vs V1=>∃b0 b6,vs=[pv b0,chF,pv b6]/\ChB V1 b0 b6/\V.sub V1/\V b0=none/\∃c,c.size=8/\V1 b0=some (.cells c 30 (0,0)):=by
  refine s37a ?_
  unfold w37a
  refine(c75 (s:=chX)).call ⟨_,_,_,_,rfl,fun b0 hb0 b4 hb4 b6 hb6=>⟨_,rfl,b0,b6,rfl,?_⟩⟩
  have n4:b4≠b0:=fun e=>by rw[e,Mem.set_same]at hb4;cases hb4
  have s0:=Mem.sub_new hb0 (.cells #[uS (qAr []),.slice none 0 0,.slice none 0 0,.slice none 0 0,.slice none 0 0,.slice none 0 0,.slice none 0 0,.slice none 0 0] 30 (0,0))
  have s4:=Mem.sub_new hb4 (.cells (nmX chX).row.toArray 151 (0,0))
  have s6:=Mem.sub_new hb6 (.cells (E.mk 5 0 qDC ⟨some ⟨b4,0,none⟩,1,1⟩ [nmX chX]).row.toArray 151 (0,0))
  have hthis:∀{A:Mem},E.Ok A (nmX chX):=fun {A}=>chNm (by decide)
  refine⟨⟨⟨_,(s4.trans s6) _ _ mss⟩,⟨E.mk 5 0 qDC ⟨some ⟨b4,0,none⟩,1,1⟩ [nmX chX],rfl,Mem.set_same _ _ _,?_⟩⟩,s0.trans (s4.trans s6),hb0,_,rfl,(s4.trans s6) _ _ mss⟩
  refine .mk (qAc.cells (xs:=[nmX chX]) (row:=E.row) (fr:=(0,0)) (t:=151) ?_ rfl (fun _=>rfl) rfl (by simp)) (fun x hx=>by rw[List.mem_singleton.1 hx];exact hthis) (by decide) (by decide)
  rw[chN_ne n4];exact s6 _ _ mss
 refine hA.step hV ⟨by simp,fun s v h=>by cases h⟩ ?_
 rintro a1 w1 vs V1 hd1 hH1 ⟨b0,b6,rfl,hB,hs1,hb0,c,hc,hV1⟩ hF1
 show Code.wpIn (qAy none) 0 Tryz.prog chR3 _ a1 w1
 rw[chR3_eq]
 refine wpIn_region_any (by kernel_rfl) ?_
 rw[chR3_size]
 refine anyR_sound (M:=27) (k0:=7) (N:=34) (deps:=qAf) (Pr:=fun i v A=>chQ (chN b0 A) i v) (Φ:=fun V'=>V.sub V'/\∃d:Ds,qIM qBY d/\Ds.Ok V' d/\V' b0=some (.cells d.row.toArray 30 (0,0))) (V:=V1) (base:=chBase b0 b6) (a0:=a1) (w0:=w1) chR3_ok (fun i v A B h=>chQ_mono (chN_sub h) i v) (fun s v h=>?_) (by decide)
  (fun i hi A hA' val hv=>chStep hB hA' i hi hv) (fun A hA' val hv=>?_) (fun a' w' V' hd' hH' hΦ hF'=>?_) 28 _ _ _ (by simp) ?_ (.inl ⟨V1,Mem.sub.refl _,⟨Nat.le_refl _,hF1.le,fun _ _ _=>rfl,fun _ h=>.inl h,rfl,rfl⟩,rfl,hH1,by simp,fun i hi h=>?_,fun i hi h=>?_⟩)
 ·simp only[chBase,List.lookup_cons]at h
  repeat' split at h
  all_goals first
   | (rename_i e;simp only[beq_iff_eq]at e;omega)
   | cases h
 ·obtain⟨d,d1,d2,d3⟩:cD (val 26) (chN b0 A):=hv 26 (by simp[qAf])
  refine⟨[(0,pv b0),(33,d.v)],fun s v h=>?_,s37o27 (a:=some ⟨b0,0,none⟩) (b:=d.name) (c:=d.ts) (d:=d.gs) (g:=d.ps) (i:=d.ms) (j:=d.is) (k:=d.qs) (l:=d.bs) ?_⟩
  ·rw[List.lookup_cons]at h
   split at h
   ·rename_i e;simp only[beq_iff_eq]at e;subst e;cases h;exact .inl rfl
   ·obtain⟨rfl,rfl⟩:=chIn1 h
    exact .inr ⟨26,by simp[qAf],rfl,d1.symm⟩
  ·unfold w37o27
   have hAb:=hA' _ _ hV1
   refine StT.at_ hAb (by simp[hc]) ⟨_,rfl,(hs1.trans hA').set hb0 _,d,d2,d3.sub fun x o hx=>?_,?_⟩
   ·by_cases e:x=b0
    ·rw[chN_no e]at hx;cases hx
    ·rw[Mem.set_ne e];exact chN_le _ _ hx
   ·rw[Mem.set_same]
    have:c.toList.drop (0+8)=[]:=List.drop_eq_nil_of_le (by simp[hc])
    show some (Obj.cells (c.toList.take 0++d.row++c.toList.drop (0+8)).toArray _ _)=_
    rw[this];simp
 ·obtain⟨h1,d,h2,h3,h4⟩:=hΦ
  show Code.wpIn (qAy none) 0 Tryz.prog .ret _ a' w'
  refine wpIn_ret ?_
  exact⟨hd'.trans hd1,d.v,qKa (hH'.get rfl) (hF'.le _ _ h4),V',⟨h1,d,rfl,h2,h3⟩,hF1.trans hF'⟩
 ·have h2:=List.length_filter_le (fun i=>!(Array.replicate 28 false).getD i true) (List.range (27+1))
  rw[List.length_range]at h2
  exact h2
 ·have hf:(Array.replicate 28 false).getD i false=false:=by simp[Array.getD]
  rw[hf]at h;cases h
 ·have hf:(Array.replicate 28 false).getD i false=false:=by simp[Array.getD]
  rw[hf]at h;cases h
end
end Go.Proofs
namespace Go.Proofs
def mtf(T:List Int)(b:Int):List Int:=b::T.erase b
def stk(T l:List Int):List Int:=l.foldl mtf T
def qIW(k:Nat):List Int->List Int->Nat
 | _,[]=>0
 | T,b::l=>(if b∈T.take k then 0 else 1)+qIW k (mtf T b) l
theorem stk_snoc(T l:List Int)(b:Int):stk T (l++[b])=mtf (stk T l) b:=by grind [stk]
theorem mis_snoc(k:Nat):∀(l T:List Int) (b:Int),qIW k T (l++[b])=qIW k T l+if b∈(stk T l).take k then 0 else 1
 | [],T,b=>by
  simp only[List.nil_append,qIW,Nat.add_zero,Nat.zero_add];rfl
 | c::l,T,b=>by
  rw[List.cons_append,qIW,qIW,mis_snoc k l (mtf T c) b,Nat.add_assoc];rfl
theorem mis_mono{k k':Nat}(h:k<=k'):∀l T:List Int,qIW k' T l<=qIW k T l
 | [],_=>Nat.le_refl _
 | b::l,T=>by
  rw[qIW,qIW]
  have:=mis_mono h l (mtf T b)
  by_cases hb:b∈T.take k
  ·rw[if_pos hb,if_pos (List.take_subset_take_left T h hb)];omega
  grind
theorem qIf{T:List Int}{b:Int}(h:b∈T):(mtf T b).length=T.length:=by
 grind [mtf]
theorem mtf_len_not{T:List Int}{b:Int}(h:b ∉ T):(mtf T b).length=T.length+1:=by
 grind [mtf]
theorem stk_len:∀l T:List Int,T.length<=(stk T l).length
 | [],_=>Nat.le_refl _
 | b::l,T=>by
  have h:=stk_len l (mtf T b)
  grind [stk,mtf]
theorem mis_all{k:Nat}:∀l T:List Int,(stk T l).length<=k->qIW k T l+T.length=(stk T l).length
 | [],_,_=>Nat.zero_add _
 | b::l,T,h=>by
  have h:(stk (mtf T b) l).length<=k:=h
  have ih:=mis_all l (mtf T b) h
  have hl:=stk_len l (mtf T b)
  show _=(stk (mtf T b) l).length
  rw[qIW]
  by_cases hb:b∈T
  ·rw[qIf hb]at ih hl
   rw[if_pos (by grind [List.take_of_length_le])];omega
  ·rw[mtf_len_not hb]at ih
   grind
theorem mem_mtf{T:List Int}{b x:Int}:x∈mtf T b↔x=b∨x∈T:=by
 grind [mtf]
theorem nodup_mtf{T:List Int}{b:Int}(h:T.Nodup):(mtf T b).Nodup:=by
 grind [mtf]
theorem nodup_stk:∀(l T:List Int),T.Nodup->(stk T l).Nodup
 | [],_,h=>h
 | b::l,T,h=>nodup_stk l (mtf T b) (nodup_mtf h)
theorem qCh:∀(T:List Int) (k:Nat) {b:Int},b∈T.take (k+1)->(T.erase b).take k=(T.take (k+1)).erase b
 | [],k,b,h=>by simp at h
 | c::T,k,b,h=>by
  rw[List.take_succ_cons]at h ⊢
  by_cases e:c=b
  ·subst e;simp
  ·rw[List.erase_cons_tail (by simpa using e),List.erase_cons_tail (by simpa using e)]
   cases k with
   | zero=>simp_all
   | succ k =>
    rw[List.take_succ_cons,qCh T k]
    grind
theorem qDk:∀(T:List Int) (k:Nat) {b:Int},b ∉ T.take k->(T.erase b).take k=T.take k
 | [],k,b,h=>by simp
 | c::T,0,b,h=>by simp
 | c::T,k+1,b,h=>by
  rw[List.take_succ_cons,List.mem_cons,not_or]at h
  rw[List.erase_cons_tail (by grind),List.take_succ_cons,List.take_succ_cons,qDk T k h.2]
theorem qIX{T:List Int}{k:Nat}{b x:Int}(hx:x∈T.take k)(hn:x≠b):x∈(T.erase b).take k:=by
 by_cases hb:b∈T.take k
 ·cases k with
  | zero=>simp at hx
  | succ k =>
   have:x∈(T.take (k+1)).erase b:=(List.mem_erase_of_ne hn).2 hx
   rw[<- qCh T k hb]at this
   grind
 ·rw[qDk T k hb];exact hx
theorem take_mtf_hit{T:List Int}{k:Nat}{b:Int}(hb:b∈T.take k):(mtf T b).take k=b::(T.take k).erase b:=by
 cases k with
 | zero=>simp at hb
 | succ k=>unfold mtf;rw[List.take_succ_cons,qCh T k hb]
theorem qJP{T:List Int}{k:Nat}(hk:0<k){b:Int}(hb:b ∉ T.take k):(mtf T b).take k=b::(T.take k).take (k-1):=by
 obtain⟨k,rfl⟩:∃j,k=j+1:=⟨k-1,by omega⟩
 unfold mtf
 rw[List.take_succ_cons,Nat.add_sub_cancel,List.take_take,Nat.min_eq_left (Nat.le_succ k),qDk T k fun h=>hb (List.take_subset_take_left _ (Nat.le_succ k) h)]
inductive Opt (h:Nat):List Int->List Int->Nat->Prop
 | nil:Opt h [] [] 0
 | hit {l C n b}:Opt h l C n->b∈C->Opt h (l++[b]) C n
 | miss {l C C' n b}:Opt h l C n->b∈C'->(∀x∈C',x=b∨x∈C)->C'.length<=h->Opt h (l++[b]) C' (n+1)
theorem Opt.len{h:Nat}{l C:List Int}{n:Nat}(o:Opt h l C n):C.length<=h:=by
 induction o with
 | nil=>grind
 | hit _ _ ih=>exact ih
 | miss _ _ _ hl=>exact hl
theorem nodup_le:∀(S U:List Int),S.Nodup->(∀x∈S,x∈U)->S.length<=U.length
 | [],_,_,_=>Nat.zero_le _
 | s::S,U,hn,h=>by
  rw[List.nodup_cons]at hn
  have hs:=h s (by simp)
  have ih:=nodup_le S (U.erase s) hn.2 fun x hx=>(List.mem_erase_of_ne fun e=>hn.1 (by simp_all)).2 (h x (by simp[hx]))
  grind
structure Phase (k h:Nat) (T C:List Int) (L n:Nat) (p:Option Int) (S U:List Int) (L0 n0 m o a:Nat):Prop where
 L:L=L0+m
 n:n=n0+o
 nd:S.Nodup
 np:∀x∈S,p≠some x
 sU:∀x∈S,x∈U
 cU:∀x∈C,p=some x∨x∈U
 uL:U.length<=a+o
 mS:m<=S.length
 top:∀x,x∈S∨p=some x->x∈T.take (S.length+1)
 base:(k-h+1)*L0+k*a<=k*n0
 mlt:m<k
theorem Phase.bound{k h:Nat}{T C:List Int}{L n:Nat}{p:Option Int}{S U:List Int}{L0 n0 m o a:Nat}(P:Phase k h T C L n p S U L0 n0 m o a)(hh:1<=h)(hk:h<=k):(k-h+1)*L<=k*n:=by
 have h1:=nodup_le S U P.nd P.sU
 have h2:m<=a+o:=Nat.le_trans P.mS (Nat.le_trans h1 P.uL)
 have h3:(k-h+1)*m<=k*m:=Nat.mul_le_mul_right _ (by omega)
 have h4:k*m<=k*(a+o):=Nat.mul_le_mul_left _ h2
 have h5:=P.base
 rw[P.L,P.n,Nat.mul_add,Nat.mul_add]
 grind
theorem comp{k h:Nat}(hh:1<=h)(hk:h<=k){l C:List Int}{n:Nat}(o:Opt h l C n):∃p S U L0 n0 m o a,Phase k h (stk [] l) C (qIW k [] l) n p S U L0 n0 m o a:=by
 -- one reference
 have step:∀{l C C':List Int} {n d:Nat} {b:Int} {p:Option Int} {S U:List Int} {L0 n0 m o a:Nat},Phase k h (stk [] l) C (qIW k [] l) n p S U L0 n0 m o a->b∈C'->(∀x∈C',x=b∨x∈C)->C'.length<=h->(d=1∨d=0/\b∈C) ->
   ∃p S U L0 n0 m o a,Phase k h (stk [] (l++[b])) C' (qIW k [] (l++[b])) (n+d) p S U L0 n0 m o a:=by
  intro l C C' n d b p S U L0 n0 m o a P hb hC hl hd
  rw[stk_snoc,mis_snoc]
  obtain⟨e,he⟩:∃e,e=if b∈(stk [] l).take k then 0 else 1:=⟨_,rfl⟩
  rw[<- he]
  have he1:e<=1:=by grind
  -- what is closed
  have fin:∀{S' U':List Int},S'.Nodup->(∀x∈S',p≠some x)->(∀x∈S',x∈U')->(∀x∈C',p=some x∨x∈U')->U'.length<=a+(o+d)->m+e<=S'.length->(∀x,x∈S'∨p=some x->x∈(mtf (stk [] l) b).take (S'.length+1)) ->
    ∃p S U L0 n0 m o a,Phase k h (mtf (stk [] l) b) C' (qIW k [] l+e) (n+d) p S U L0 n0 m o a:=by
   intro S' U' h1 h2 h3 h4 h5 h6 h7
   by_cases hm:m+e<k
   ·exact⟨p,S',U',L0,n0,m+e,o+d,a,by rw[P.L];omega,by rw[P.n];omega,h1,h2,h3,h4,h5,h6,h7,P.base,hm⟩
   ·have hmk:=P.mlt
    have hme:m+e=k:=by omega
    have g1:=nodup_le S' U' h1 h3
    refine⟨some b,[],C'.filter (fun x=>decide (x≠b)),L0+k,n0+(o+d),0,0,h-1,by rw[P.L];omega,by rw[P.n];omega,List.nodup_nil,(fun x hx=>by cases hx),(fun x hx=>by cases hx),fun x hx=>?_,?_,Nat.zero_le _,fun x hx=>?_,?_,by omega⟩
    ·grind
    ·have:(C'.filter (fun x=>decide (x≠b))).length<C'.length:=List.length_filter_lt_length_iff_exists.2 ⟨b,hb,by simp⟩
     omega
    ·grind [mtf]
    ·have g2:k*k<=k*(a+(o+d)):=Nat.mul_le_mul_left _ (by omega)
     have g3:=P.base
     have g4:(k-h+1)*k+k*(h-1)=k*k:=by
      rw[Nat.mul_comm,<- Nat.mul_add];congr 1;omega
     grind
  obtain⟨U',hU1,hU2,hU3,hU4⟩:∃U':List Int,(∀x∈U,x∈U')/\(∀x∈C',p=some x∨x∈U')/\U'.length<=a+(o+d)/\(p≠some b->b∈U'):=by
   rcases hd with rfl|⟨rfl,hbC⟩
   ·refine⟨b::U,fun x hx=>by simp[hx],fun x hx=>?_,by rw[List.length_cons];have:=P.uL;omega,fun _=>by simp⟩
    rcases hC x hx with rfl|hx
    ·simp_all
    ·exact(P.cU x hx).imp id fun h=>by simp[h]
   ·refine⟨U,fun x hx=>hx,fun x hx=>?_,P.uL,fun hp=>(P.cU b hbC).resolve_left hp⟩
    rcases hC x hx with rfl|hx
    ·exact P.cU x hbC
    ·exact P.cU x hx
  by_cases hin:b∈S∨p=some b
  ·have hbT:=P.top b hin
   refine fin (S':=S) (U':=U') P.nd P.np (fun x hx=>hU1 x (P.sU x hx)) hU2 hU3 ?_ fun x hx=>?_
   ·by_cases hk':S.length+1<=k
    ·rw[he,if_pos (List.take_subset_take_left _ hk' hbT)];exact P.mS
    ·have:=P.mlt;omega
   ·unfold mtf
    rw[List.take_succ_cons,qCh _ _ hbT]
    by_cases e:x=b
    ·rw[e];simp
    ·exact List.mem_cons_of_mem _ ((List.mem_erase_of_ne e).2 (P.top x hx))
  ·rw[not_or]at hin
   refine fin (S':=b::S) (U':=U') (List.nodup_cons.2 ⟨hin.1,P.nd⟩) (fun x hx=>?_) (fun x hx=>?_) hU2 hU3 (by rw[List.length_cons];have:=P.mS;omega) fun x hx=>?_
   ·rcases List.mem_cons.1 hx with rfl|hx
    ·exact hin.2
    ·exact P.np x hx
   ·rcases List.mem_cons.1 hx with rfl|hx
    ·exact hU4 hin.2
    ·exact hU1 x (P.sU x hx)
   ·unfold mtf
    rw[List.length_cons,List.take_succ_cons]
    by_cases e:x=b
    ·rw[e];simp
    ·refine List.mem_cons_of_mem _ (qIX (P.top x ?_) e)
     simp_all
 induction o with
 | nil=>exact⟨none,[],[],0,0,0,0,0,rfl,rfl,List.nodup_nil,by simp,by simp,by simp,Nat.le_refl _,Nat.le_refl _,by simp,by simp,by omega⟩
 | hit o hb ih =>
  obtain⟨p,S,U,L0,n0,m,q,a,P⟩:=ih
  exact step (d:=0) P hb (fun x hx=>.inr hx) o.len (.inr ⟨rfl,hb⟩)
 | miss o hb hC hl ih =>
  obtain⟨p,S,U,L0,n0,m,q,a,P⟩:=ih
  exact step (d:=1) P hb hC hl (.inl rfl)
theorem comp_le{k h:Nat}(hh:1<=h)(hk:h<=k){l C:List Int}{n:Nat}(o:Opt h l C n):(k-h+1)*qIW k [] l<=k*n:=by
 obtain⟨p,S,U,L0,n0,m,q,a,P⟩:=comp hh hk o
 exact P.bound hh hk
end Go.Proofs
namespace Go.Proofs
def chain(nx pv:List Int):Nat->List Nat->Prop
 | a,[]=>nx[a]?=some 0/\pv[0]?=some (a:Int)
 | a,b::L=>nx[a]?=some (b:Int)/\pv[b]?=some (a:Int)/\chain nx pv b L
theorem qHC{nx pv:List Int}{x:Nat}{v:Int}:∀{a:Nat} {L:List Nat},x ∉ a::L->chain nx pv a L->chain (nx.set x v) pv a L
 | a,[],h,⟨h1,h2⟩=>⟨by rw[List.getElem?_set_ne (by grind)];exact h1,h2⟩
 | a,b::L,h,⟨h1,h2,h3⟩=>⟨by rw[List.getElem?_set_ne (by grind)];exact h1,h2,qHC (by grind) h3⟩
theorem qHB{nx pv:List Int}{x:Nat}{v:Int}:∀{a:Nat} {L:List Nat},x ∉ L->x≠0->chain nx pv a L->chain nx (pv.set x v) a L
 | a,[],h,h0,⟨h1,h2⟩=>⟨h1,by rw[List.getElem?_set_ne h0];exact h2⟩
 | a,b::L,h,h0,⟨h1,h2,h3⟩=>⟨h1,by rw[List.getElem?_set_ne (by grind)];exact h2,qHB (by grind) h0 h3⟩
theorem chain_app{nx pv:List Int}:∀{a:Nat} {L:List Nat} {u v:List Int},chain nx pv a L->chain (nx++u) (pv++v) a L
 | a,[],u,v,⟨h1,h2⟩=>⟨by grind,by grind⟩
 | a,b::L,u,v,⟨h1,h2,h3⟩=>⟨by grind,by grind,chain_app h3⟩
theorem qKK{nx pv:List Int}{i:Nat}:∀{a:Nat} {A B:List Nat},chain nx pv a (A++i::B)->∃p n:Nat,pv[i]?=some (p:Int)/\nx[i]?=some (n:Int)/\p=(a::A).getLast (by simp)/\n=(B++[0]).head (by simp)
 | a,[],[],⟨h1,h2,h3,h4⟩=>⟨a,0,h2,h3,rfl,rfl⟩
 | a,[],b::B,⟨h1,h2,h3,h4,h5⟩=>⟨a,b,h2,h3,rfl,rfl⟩
 | a,c::A,B,⟨h1,h2,h3⟩=>by
  obtain⟨p,n,k1,k2,k3,k4⟩:=qKK h3
  exact⟨p,n,k1,k2,by rw[List.getLast_cons (by simp)];exact k3,k4⟩
theorem chain_cut{nx pv:List Int}{i p n:Nat}:∀{a:Nat} {A B:List Nat},chain nx pv a (A++i::B)->(a::(A++i::B)).Nodup->0 ∉ A++i::B->pv[i]?=some (p:Int)->nx[i]?=some (n:Int)->chain (nx.set p n) (pv.set n p) a (A++B)
 | a,[],[],⟨h1,h2,h3,h4⟩,hn,h0,hp,hnx=>by
  rw[hp]at h2;rw[hnx]at h3
  obtain rfl:p=a:=by injection h2 with h2;omega
  obtain rfl:n=0:=by injection h3 with h3;omega
  refine⟨?_,?_⟩
  ·rw[List.getElem?_set_self (List.getElem?_eq_some_iff.1 h1).1];rfl
  ·rw[List.getElem?_set_self (List.getElem?_eq_some_iff.1 h4).1]
 | a,[],b::B,⟨h1,h2,h3,h4,h5⟩,hn,h0,hp,hnx=>by
  rw[hp]at h2;rw[hnx]at h3
  obtain rfl:p=a:=by injection h2 with h2;omega
  obtain rfl:n=b:=by injection h3 with h3;omega
  refine⟨?_,?_,?_⟩
  ·rw[List.getElem?_set_self (List.getElem?_eq_some_iff.1 h1).1]
  ·rw[List.getElem?_set_self (List.getElem?_eq_some_iff.1 h4).1]
  ·exact qHC (by grind) (qHB (by grind) (by grind) h5)
 | a,c::A,B,h,hn,h0,hp,hnx=>by
  obtain⟨p',n',k1,k2,k3,k4⟩:=qKK h.2.2
  have ih:=chain_cut h.2.2 (by grind) (by grind) hp hnx
  rw[hp]at k1;rw[hnx]at k2
  obtain rfl:p=p':=by injection k1 with k1;omega
  obtain rfl:n=n':=by injection k2 with k2;omega
  have hpm:p∈c::A:=by rw[k3];exact List.getLast_mem _
  have hnm:n∈B++[0]:=by rw[k4];exact List.head_mem _
  refine⟨?_,?_,ih⟩
  ·rw[List.getElem?_set_ne (by grind)];exact h.1
  ·rw[List.getElem?_set_ne (by grind)];exact h.2.1
theorem qFq{nx pv:List Int}{i n:Nat}{L:List Nat}(h:chain nx pv 0 L)(hi:i ∉ 0::L)(hn:(0::L).Nodup)(h0:nx[0]?=some (n:Int))(hi1:i<nx.length)(hi2:i<pv.length) :
  chain ((nx.set i n).set 0 i) ((pv.set i 0).set n i) 0 (i::L):=by
 cases L with
 | nil =>
  obtain⟨h1,h2⟩:=h
  rw[h0]at h1
  obtain rfl:n=0:=by injection h1 with h1;omega
  have h0l:=(List.getElem?_eq_some_iff.1 h0).1
  have h2l:=(List.getElem?_eq_some_iff.1 h2).1
  refine⟨?_,?_,?_,?_⟩ <;> grind
 | cons b L =>
  obtain⟨h1,h2,h3⟩:=h
  rw[h0]at h1
  obtain rfl:n=b:=by injection h1 with h1;omega
  have h0l:=(List.getElem?_eq_some_iff.1 h0).1
  have h2l:=(List.getElem?_eq_some_iff.1 h2).1
  refine⟨by grind,by grind,by grind,by grind,?_⟩
  exact qHC (by grind) (qHC (by grind) (qHB (by grind) (by grind) (qHB (by grind) (by grind) h3)))
theorem qJG{nx pv:List Int}:∀{a:Nat} {L:List Nat},chain nx pv a L->pv[0]?=some (((a::L).getLast (by simp):Nat):Int)
 | a,[],⟨_,h2⟩=>h2
 | a,b::L,⟨_,_,h3⟩=>by rw[List.getLast_cons (by simp)];exact qJG h3
end Go.Proofs
namespace Go.Proofs
structure CaI (k:Nat) (c B N P:List Int) (L:List Nat) (f:Int->Option Int):Prop where
 bl:B.length=L.length+1
 nl:N.length=B.length
 pl:P.length=B.length
 ring:chain N P 0 L
 nd:L.Nodup
 rng:∀s∈L,1<=s/\s<B.length
 cl:c.length=L.length
 at_:∀(i:Nat) (s:Nat) (b:Int),L[i]?=some s->c[i]?=some b->B[s]?=some b/\f b=some (s:Int)
 cn:c.Nodup
 no:∀b,b ∉ c->f b=none
 cap:c.length<=k
section
variable{k:Nat}{c B N P:List Int}{L:List Nat}{f:Int->Option Int}{b:Int}
theorem CaI.new(hk:1<=k):CaI k [] [-1] [0] [0] [] fun _=>none:=⟨rfl,rfl,rfl,⟨rfl,rfl⟩,List.nodup_nil,by simp,rfl,by simp,List.nodup_nil,fun _ _=>rfl,by simp⟩
theorem CaI.hit(h:CaI k c B N P L f)(hb:b∈c):∃(i s:Nat),c[i]?=some b/\L[i]?=some s/\f b=some (s:Int):=by
 obtain⟨i,hi⟩:=List.mem_iff_getElem?.1 hb
 have hl:=(List.getElem?_eq_some_iff.1 hi).1
 have hs:=List.getElem?_eq_getElem (l:=L) (i:=i) (by rw[<- h.cl];exact hl)
 exact⟨i,_,hi,hs,(h.at_ i _ b hs hi).2⟩
theorem CaI.dec(h:CaI k c B N P L f):(f b).isSome=decide (b∈c):=by
 by_cases hb:b∈c
 ·obtain⟨i,s,-,-,e⟩:=h.hit hb
  simp_all
 ·rw[h.no b hb,decide_eq_false hb];rfl
theorem qFC{α:Type}{l:List α}{i:Nat}{x:α}(h:l[i]?=some x):l=l.take i++x::l.drop (i+1):=by
 obtain⟨hl,rfl⟩:=List.getElem?_eq_some_iff.1 h
 simp_all
theorem CaI.zero(h:CaI k c B N P L f):0 ∉ L/\(0::L).Nodup:=by
 have h0:0 ∉ L:=fun h'=>by have:=h.rng 0 h';omega
 exact⟨h0,List.nodup_cons.2 ⟨h0,h.nd⟩⟩
theorem CaI.head(h:CaI k c B N P L f):∃n:Nat,N[0]?=some (n:Int)/\n<B.length:=by
 have hr:=h.ring
 cases hL:L with
 | nil=>rw[hL]at hr;exact⟨0,hr.1,by rw[h.bl];omega⟩
 | cons s L' =>
  rw[hL]at hr
  exact⟨s,hr.1,(h.rng s (by rw[hL];simp)).2⟩
theorem CaI.around(h:CaI k c B N P L f){i s:Nat}(hs:L[i]?=some s):∃p n:Nat,P[s]?=some (p:Int)/\N[s]?=some (n:Int)/\p<B.length/\n<B.length/\chain (N.set p n) (P.set n p) 0 (L.take i++L.drop (i+1)):=by
 have e:=qFC hs
 have hr:=h.ring
 obtain⟨h0,h1⟩:=h.zero
 rw[e]at hr h0 h1
 obtain⟨p,n,k1,k2,k3,k4⟩:=qKK hr
 have hpm:p∈0::L.take i:=by grind
 have hnm:n∈L.drop (i+1)++[0]:=by grind
 have lt:∀x,x∈L∨x=0->x<B.length:=fun x hx=>by
  rcases hx with hx|rfl
  ·exact(h.rng x hx).2
  ·rw[h.bl];omega
 refine⟨p,n,k1,k2,lt p ?_,lt n ?_,chain_cut hr h1 h0 k1 k2⟩
 ·grind
 grind
theorem erase_at{c:List Int}(hn:c.Nodup){i:Nat}(hi:c[i]?=some b):c.erase b=c.take i++c.drop (i+1):=by
 have e:=qFC hi
 grind
theorem get_cut{α:Type}{l:List α}{i j:Nat}(hi:i<l.length):(l.take i++l.drop (i+1))[j]?=if j<i then l[j]? else l[j+1]?:=by
 grind
theorem CaI.touch(h:CaI k c B N P L f){i s p n q:Nat}(hc:c[i]?=some b)(hs:L[i]?=some s)(hr:chain (N.set p n) (P.set n p) 0 (L.take i++L.drop (i+1)))(h0:(N.set p n)[0]?=some (q:Int)) :
  CaI k (b::c.erase b) B (((N.set p n).set s q).set 0 s) (((P.set n p).set s 0).set q s) (s::(L.take i++L.drop (i+1))) f:=by
 have hil:=(List.getElem?_eq_some_iff.1 hs).1
 have hsm:=List.mem_of_getElem? hs
 have hsr:=h.rng s hsm
 have e:=qFC hs
 obtain⟨z0,z1⟩:=h.zero
 have hnd:=h.nd
 rw[e]at hnd z0 z1
 have hcl:=h.cl
 have ec:=erase_at h.cn hc
 have hsub:∀x∈L.take i++L.drop (i+1),x∈L:=fun x hx=>by
  grind
 have nd2:(s::(L.take i++L.drop (i+1))).Nodup:=by grind
 have len2:(L.take i++L.drop (i+1)).length+1=L.length:=by grind
 refine⟨by rw[List.length_cons,len2];exact h.bl,by simp[h.nl],by simp[h.pl],qFq hr (by grind) (by grind) h0 (by simp[h.nl];omega) (by simp[h.pl];omega),nd2,fun x hx=>?_,?_,fun j t y hj hy=>?_,?_,fun y hy=>h.no y fun hy'=>hy ?_,?_⟩
 ·rcases List.mem_cons.1 hx with rfl|hx
  ·exact hsr
  ·exact h.rng x (hsub x hx)
 ·grind
 ·cases j with
  | zero=>cases hj;cases hy;exact h.at_ i s b hs hc
  | succ j =>
   rw[List.getElem?_cons_succ,get_cut hil]at hj
   rw[List.getElem?_cons_succ,ec,get_cut (by omega)]at hy
   split at hj
   ·rename_i hji;rw[if_pos hji]at hy;exact h.at_ j t y hj hy
   ·rename_i hji;rw[if_neg hji]at hy;exact h.at_ _ t y hj hy
 ·exact nodup_mtf h.cn
 ·grind
 ·have:=qIf (List.mem_of_getElem? hc)
  unfold mtf at this
  rw[this];exact h.cap
theorem CaI.room(h:CaI k c B N P L f)(hb:b ∉ c)(hk:c.length<k){q:Nat}(h0:(N++[0])[0]?=some (q:Int)) :
  CaI k (b::c) (B++[b]) (((N++[0]).set B.length q).set 0 (B.length:Nat)) (((P++[0]).set B.length 0).set q (B.length:Nat)) (B.length::L) (fun x=>if x=b then some (B.length:Int) else f x):=by
 obtain⟨z0,z1⟩:=h.zero
 have hbl:=h.bl
 have hx:B.length ∉ 0::L:=fun hm=>by
  rcases List.mem_cons.1 hm with e|e
  ·omega
  ·have:=h.rng _ e;omega
 refine⟨by simp[hbl],by simp[h.nl],by simp[h.pl],qFq (chain_app h.ring) hx z1 h0 (by simp[h.nl]) (by simp[h.pl]),List.nodup_cons.2 ⟨fun h=>hx (by simp[h]),h.nd⟩,fun x hx=>?_,by simp[h.cl],fun j t y hj hy=>?_,List.nodup_cons.2 ⟨hb,h.cn⟩,fun y hy=>?_,by grind⟩
 ·rw[List.length_append,List.length_singleton]
  rcases List.mem_cons.1 hx with rfl|hx
  ·omega
  ·have:=h.rng x hx;omega
 ·cases j with
  | zero =>
   simp_all
  | succ j =>
   rw[List.getElem?_cons_succ]at hj hy
   obtain⟨k1,k2⟩:=h.at_ j t y hj hy
   grind
 ·have hy:¬(y=b∨y∈c):=by simpa using hy
  rw[not_or]at hy
  show (if y=b then _ else f y)=none
  rw[if_neg hy.1];exact h.no y hy.2
theorem CaI.full(h:CaI k c B N P L f)(hb:b ∉ c)(hk:1<=k)(hf:c.length=k):∃(s p n:Nat) (o:Int),P[0]?=some (s:Int)/\1<=s/\s<B.length/\B[s]?=some o/\P[s]?=some (p:Int)/\N[s]?=some (n:Int)/\p<B.length/\n<B.length/\∀q:Nat,(N.set p n)[0]?=some (q:Int) ->
  CaI k (b::c.take (k-1)) (B.set s b) (((N.set p n).set s q).set 0 s) (((P.set n p).set s 0).set q s) (s::L.take (k-1)) (fun x=>if x=b then some (s:Int) else if x=o then none else f x):=by
 have hcl:=h.cl
 have hi:k-1<L.length:=by omega
 have hs:=List.getElem?_eq_getElem hi
 obtain⟨s,hsd⟩:∃s,s=L[k-1]:=⟨_,rfl⟩
 rw[<- hsd]at hs
 have hc:=List.getElem?_eq_getElem (l:=c) (i:=k-1) (by omega)
 obtain⟨o,hod⟩:∃o,o=c[k-1]'(by omega):=⟨_,rfl⟩
 rw[<- hod]at hc
 obtain⟨p,n,k1,k2,k3,k4,k5⟩:=h.around hs
 rw[List.drop_of_length_le (by omega),List.append_nil]at k5
 have hsm:=List.mem_of_getElem? hs
 have hsr:=h.rng s hsm
 obtain⟨b1,b2⟩:=h.at_ _ s o hs hc
 obtain⟨z0,z1⟩:=h.zero
 have e:=qFC hs
 rw[List.drop_of_length_le (by omega)]at e
 have ec:=qFC hc
 rw[List.drop_of_length_le (by omega)]at ec
 have hl0:=qJG h.ring
 have hlast:(0::L).getLast (by simp)=s:=by
  grind
 rw[hlast]at hl0
 have hnd:=h.nd
 rw[e]at hnd
 have cnd:=h.cn
 rw[ec]at cnd
 have hst:s ∉ L.take (k-1):=fun hm=>by
  grind
 have hot:o ∉ c.take (k-1):=fun hm=>by
  grind
 have hbt:b ∉ c.take (k-1):=fun hm=>hb (List.mem_of_mem_take hm)
 have hob:o≠b:=fun e=>hb (by grind)
 refine⟨s,p,n,o,hl0,hsr.1,hsr.2,b1,k1,k2,k3,k4,fun q hq=>⟨?_,by simp[h.nl],by simp[h.pl],?_,List.nodup_cons.2 ⟨hst,(List.nodup_append.1 hnd).1⟩,fun x hx=>?_,?_,fun j t y hj hy=>?_,List.nodup_cons.2 ⟨hbt,(List.nodup_append.1 cnd).1⟩,fun y hy=>?_,?_⟩⟩
 ·rw[List.length_set,List.length_cons,List.length_take];have:=h.bl;omega
 ·grind [qFq,List.nodup_cons,List.mem_of_mem_take,List.nodup_append]
 ·rw[List.length_set]
  rcases List.mem_cons.1 hx with rfl|hx
  ·exact hsr
  ·exact h.rng x (List.mem_of_mem_take hx)
 ·grind
 ·cases j with
  | zero =>
   grind
  | succ j =>
   rw[List.getElem?_cons_succ]at hj hy
   have ht:=List.mem_of_getElem? hj
   have hyc:=List.mem_of_getElem? hy
   rw[List.getElem?_take]at hj hy
   split at hj
   ·rename_i hjk
    rw[if_pos hjk]at hy
    obtain⟨r1,r2⟩:=h.at_ j t y hj hy
    refine⟨?_,?_⟩
    ·grind
    ·rw[if_neg fun e=>hbt (by grind),if_neg fun e=>hot (by grind)];exact r2
   ·cases hj
 ·have hy:¬(y=b∨y∈c.take (k-1)):=by simpa using hy
  rw[not_or]at hy
  show (if y=b then _ else if y=o then none else f y)=none
  rw[if_neg hy.1]
  split
  ·rfl
  ·rename_i ho
   refine h.no y fun hm=>?_
   grind
 grind
end
end Go.Proofs
namespace Go.Proofs
open Go Go.Sx
attribute [local irreducible] Go.Sx.Tri
structure Sl3 where
 b:Sl
 n:Sl
 p:Sl
def crow(k n:Int)(mb:Nat)(F:Sl3):List Value:=[.int .i64 k,.int .i64 n,.map (some mb),F.b.v,F.n.v,F.p.v]
theorem qDe(l:List Int)(i:Nat)(x:Int):(l.flatMap qAe).set i (.int .i64 x)=(l.set i x).flatMap qAe:=by rw[qAW,qAW,List.map_set]
theorem qDf(l:List Int):(l.flatMap qAe).length=l.length:=by rw[qAW,List.length_map]
structure CaL (V0 V:Mem) (p:Nat) (k n:Int) (mb:Nat) (F S:Sl3) (B N P:List Int) (f:Int->Option Int):Prop where
 at_:V p=some (.cells (crow k n mb F).toArray 134 (0,0))
 mp:qEd (Value.int .i64) V mb fun b=>(f b).map (Value.int .i64)
 p0:V0 p=none
 m0:V0 mb=none
 bo:Sx.Own V0 V 3 1 S.b (B.flatMap qAe)
 no:Sx.Own V0 V 3 1 S.n (N.flatMap qAe)
 po:Sx.Own V0 V 3 1 S.p (P.flatMap qAe)
 bn:∀c,Blk S.b c->¬Blk S.n c
 bp:∀c,Blk S.b c->¬Blk S.p c
 np:∀c,Blk S.n c->¬Blk S.p c
section
variable{V0 V V':Mem}{p mb:Nat}{k n:Int}{F S:Sl3}{B N P:List Int}{f:Int->Option Int}
theorem CaL.pm(h:CaL V0 V p k n mb F S B N P f):p≠mb:=fun e=>by
 obtain⟨es,c,h1,-⟩:=h.mp.at_
 rw[<- e,h.at_]at h1;cases h1
theorem CaL.nB(h:CaL V0 V p k n mb F S B N P f):(¬Blk S.b p/\¬Blk S.n p/\¬Blk S.p p)/\(¬Blk S.b mb/\¬Blk S.n mb/\¬Blk S.p mb):=by
 have go:∀{s:Sl} {vs:List Value},Sx.Own V0 V 3 1 s vs->¬Blk s p/\¬Blk s mb:=fun {s vs} o=>by
  refine⟨fun hb=>?_,fun hb=>?_⟩
  ·obtain⟨cur,hc⟩:=Own.some o hb
   rw[h.at_]at hc
   simp_all
  ·obtain⟨cur,hc⟩:=Own.some o hb
   obtain⟨es,c,h1,-⟩:=h.mp.at_
   simp_all
 exact⟨⟨(go h.bo).1,(go h.no).1,(go h.po).1⟩,(go h.bo).2,(go h.no).2,(go h.po).2⟩
theorem CaL.sub(h:CaL V0 V p k n mb F S B N P f):V0.sub V:=h.bo.sub
theorem CaL.cell(h:CaL V0 V p k n mb F S B N P f)(i m:Nat)(hi:i+m<=6):V.rowp (sa p) i m=some (((crow k n mb F).drop i).take m):=qAd h.at_ i m hi
theorem qDN{W W':Mem}{b:Nat}{g:Int->Option Value}(h:qEd (Value.int .i64) W b g)(hk:W' b=W b):qEd (Value.int .i64) W' b g:=by
 obtain⟨es,c,h1,h2⟩:=h.at_
 exact⟨es,c,by grind,h2⟩
theorem CaL.setN(h:CaL V0 V p k n mb F S B N P f){i:Nat}(hi:i<N.length){x:Int}{q:Mem->Prop}(hq:∀V',CaL V0 V' p k n mb F S B (N.set i x) P f->q V'):StT (qAa S.n.p (i*1)) 0 [.int .i64 x] V q:=by
 rw[Nat.mul_one]
 obtain⟨⟨b1,b2,b3⟩,m1,m2,m3⟩:=h.nB
 refine Own.store h.no (by rw[qDf];exact hi) fun V' ho hk=>hq V' ?_
 rw[qDe]at ho
 exact⟨by rw[hk p b2];exact h.at_,qDN h.mp (hk mb m2),h.p0,h.m0,Own.moveB h.bo ho.sub fun g cur hg hc=>by rw[hk g (h.bn g hg)];exact hc,ho,Own.moveB h.po ho.sub fun g cur hg hc=>by rw[hk g fun hb=>h.np g hb hg];exact hc,h.bn,h.bp,h.np⟩
theorem CaL.setP(h:CaL V0 V p k n mb F S B N P f){i:Nat}(hi:i<P.length){x:Int}{q:Mem->Prop}(hq:∀V',CaL V0 V' p k n mb F S B N (P.set i x) f->q V'):StT (qAa S.p.p (i*1)) 0 [.int .i64 x] V q:=by
 rw[Nat.mul_one]
 obtain⟨⟨b1,b2,b3⟩,m1,m2,m3⟩:=h.nB
 refine Own.store h.po (by rw[qDf];exact hi) fun V' ho hk=>hq V' ?_
 rw[qDe]at ho
 exact⟨by rw[hk p b3];exact h.at_,qDN h.mp (hk mb m3),h.p0,h.m0,Own.moveB h.bo ho.sub fun g cur hg hc=>by rw[hk g (h.bp g hg)];exact hc,Own.moveB h.no ho.sub fun g cur hg hc=>by rw[hk g (h.np g hg)];exact hc,ho,h.bn,h.bp,h.np⟩
theorem CaL.setB(h:CaL V0 V p k n mb F S B N P f){i:Nat}(hi:i<B.length){x:Int}{q:Mem->Prop}(hq:∀V',CaL V0 V' p k n mb F S (B.set i x) N P f->q V'):StT (qAa S.b.p (i*1)) 0 [.int .i64 x] V q:=by
 rw[Nat.mul_one]
 obtain⟨⟨b1,b2,b3⟩,m1,m2,m3⟩:=h.nB
 refine Own.store h.bo (by rw[qDf];exact hi) fun V' ho hk=>hq V' ?_
 rw[qDe]at ho
 exact⟨by rw[hk p b1];exact h.at_,qDN h.mp (hk mb m1),h.p0,h.m0,ho,Own.moveB h.no ho.sub fun g cur hg hc=>by rw[hk g fun hb=>h.bn g hb hg];exact hc,Own.moveB h.po ho.sub fun g cur hg hc=>by rw[hk g fun hb=>h.bp g hb hg];exact hc,h.bn,h.bp,h.np⟩
theorem CaL.put(h:CaL V0 V p k n mb F S B N P f)(n':Int):CaL V0 (V.set p (.cells (crow k n' mb F).toArray 134 (0,0))) p k n' mb F S B N P f:=by
 obtain⟨⟨b1,b2,b3⟩,-⟩:=h.nB
 exact⟨Mem.set_same _ _ _,qDN h.mp (Mem.set_ne h.pm.symm),h.p0,h.m0,h.bo.put b1 h.p0 _,h.no.put b2 h.p0 _,h.po.put b3 h.p0 _,h.bn,h.bp,h.np⟩
theorem CaL.map(h:CaL V0 V p k n mb F S B N P f){o:Obj}{g:Int->Option Int}(hm:qEd (Value.int .i64) (V.set mb o) mb fun b=>(g b).map (Value.int .i64)):CaL V0 (V.set mb o) p k n mb F S B N P g:=by
 obtain⟨-,m1,m2,m3⟩:=h.nB
 exact⟨by rw[Mem.set_ne h.pm];exact h.at_,hm,h.p0,h.m0,h.bo.put m1 h.m0 _,h.no.put m2 h.m0 _,h.po.put m3 h.m0 _,h.bn,h.bp,h.np⟩
theorem qDK{W V V1:Mem}{s s':Sl}{xs:List Value}(o:Sx.Own W V 3 1 s xs){ys:List Value}(h:Sx.Own (V.but s) V1 3 1 s' ys):Sx.Own W V1 3 1 s' ys/\(∀c,¬Blk s c->V c≠none->V1 c=V c)/\∀c,Blk s' c->Blk s c∨V c=none:=by
 refine⟨h.narrow o.sub_but,fun c hc hv=>?_,fun c hc=>?_⟩
 ·cases e:V c with
  | none=>grind
  | some x=>exact h.sub _ _ (Mem.but_at e hc)
 ·have h0:=Own.none0 h hc
  by_cases hb:Blk s c
  ·exact .inl hb
  ·right
   cases hv:V c with
   | none=>rfl
   | some o=>grind [Mem.but_at]
theorem CaL.pushB(h:CaL V0 V p k n mb F S B N P f){V1:Mem}{s':Sl}{x:Int}(o:Sx.Own (V.but S.b) V1 3 1 s' ((B++[x]).flatMap qAe)):CaL V0 V1 p k n mb F ⟨s',S.n,S.p⟩ (B++[x]) N P f:=by
 obtain⟨⟨b1,b2,b3⟩,m1,m2,m3⟩:=h.nB
 obtain⟨o1,hk,hn⟩:=qDK h.bo o
 have some:∀{s:Sl} {vs:List Value},Sx.Own V0 V 3 1 s vs->∀c,Blk s c->V c≠none:=fun {s vs} o c hc=>by grind [Own.some]
 have mv:∀{s:Sl} {vs:List Value},Sx.Own V0 V 3 1 s vs->(∀c,Blk S.b c->¬Blk s c)->Sx.Own V0 V1 3 1 s vs:=fun {s vs} o hd=>Own.moveB o o1.sub fun g cur hg hc=>by grind
 have far:∀{s:Sl} {vs:List Value},Sx.Own V0 V 3 1 s vs->(∀c,Blk S.b c->¬Blk s c)->∀c,Blk s' c->¬Blk s c:=fun {s vs} o hd c hc hs=>(hn c hc).elim (fun hb=>hd c hb hs) (some o c hs)
 have em:V mb≠none:=by obtain⟨es,c,h1,-⟩:=h.mp.at_;rw[h1];simp
 exact⟨by rw[hk p b1 (by rw[h.at_];simp)];exact h.at_,qDN h.mp (hk mb m1 em),h.p0,h.m0,o1,mv h.no h.bn,mv h.po h.bp,far h.no h.bn,far h.po h.bp,h.np⟩
theorem CaL.pushN(h:CaL V0 V p k n mb F S B N P f){V1:Mem}{s':Sl}{x:Int}(o:Sx.Own (V.but S.n) V1 3 1 s' ((N++[x]).flatMap qAe)):CaL V0 V1 p k n mb F ⟨S.b,s',S.p⟩ B (N++[x]) P f:=by
 obtain⟨⟨b1,b2,b3⟩,m1,m2,m3⟩:=h.nB
 obtain⟨o1,hk,hn⟩:=qDK h.no o
 have some:∀{s:Sl} {vs:List Value},Sx.Own V0 V 3 1 s vs->∀c,Blk s c->V c≠none:=fun {s vs} o c hc=>by grind [Own.some]
 have mv:∀{s:Sl} {vs:List Value},Sx.Own V0 V 3 1 s vs->(∀c,Blk S.n c->¬Blk s c)->Sx.Own V0 V1 3 1 s vs:=fun {s vs} o hd=>Own.moveB o o1.sub fun g cur hg hc=>by grind
 have far:∀{s:Sl} {vs:List Value},Sx.Own V0 V 3 1 s vs->(∀c,Blk S.n c->¬Blk s c)->∀c,Blk s' c->¬Blk s c:=fun {s vs} o hd c hc hs=>(hn c hc).elim (fun hb=>hd c hb hs) (some o c hs)
 have em:V mb≠none:=by obtain⟨es,c,h1,-⟩:=h.mp.at_;rw[h1];simp
 have nb:∀c,Blk S.n c->¬Blk S.b c:=fun c h1 h2=>h.bn c h2 h1
 exact⟨by rw[hk p b2 (by rw[h.at_];simp)];exact h.at_,qDN h.mp (hk mb m2 em),h.p0,h.m0,mv h.bo nb,o1,mv h.po h.np,fun c h1 h2=>far h.bo nb c h2 h1,h.bp,far h.po h.np⟩
theorem CaL.pushP(h:CaL V0 V p k n mb F S B N P f){V1:Mem}{s':Sl}{x:Int}(o:Sx.Own (V.but S.p) V1 3 1 s' ((P++[x]).flatMap qAe)):CaL V0 V1 p k n mb F ⟨S.b,S.n,s'⟩ B N (P++[x]) f:=by
 obtain⟨⟨b1,b2,b3⟩,m1,m2,m3⟩:=h.nB
 obtain⟨o1,hk,hn⟩:=qDK h.po o
 have some:∀{s:Sl} {vs:List Value},Sx.Own V0 V 3 1 s vs->∀c,Blk s c->V c≠none:=fun {s vs} o c hc=>by grind [Own.some]
 have mv:∀{s:Sl} {vs:List Value},Sx.Own V0 V 3 1 s vs->(∀c,Blk S.p c->¬Blk s c)->Sx.Own V0 V1 3 1 s vs:=fun {s vs} o hd=>Own.moveB o o1.sub fun g cur hg hc=>by grind
 have far:∀{s:Sl} {vs:List Value},Sx.Own V0 V 3 1 s vs->(∀c,Blk S.p c->¬Blk s c)->∀c,Blk s' c->¬Blk s c:=fun {s vs} o hd c hc hs=>(hn c hc).elim (fun hb=>hd c hb hs) (some o c hs)
 have em:V mb≠none:=by obtain⟨es,c,h1,-⟩:=h.mp.at_;rw[h1];simp
 have pb:∀c,Blk S.p c->¬Blk S.b c:=fun c h1 h2=>h.bp c h2 h1
 have pn:∀c,Blk S.p c->¬Blk S.n c:=fun c h1 h2=>h.np c h2 h1
 exact⟨by rw[hk p b3 (by rw[h.at_];simp)];exact h.at_,qDN h.mp (hk mb m3 em),h.p0,h.m0,mv h.bo pb,mv h.no pn,o1,h.bn,fun c h1 h2=>far h.bo pb c h2 h1,fun c h1 h2=>far h.no pn c h2 h1⟩
theorem CaL.fields(h:CaL V0 V p k n mb F S B N P f)(G:Sl3):CaL V0 (V.set p (.cells (crow k n mb G).toArray 134 (0,0))) p k n mb G S B N P f:=by
 obtain⟨⟨b1,b2,b3⟩,-⟩:=h.nB
 exact⟨Mem.set_same _ _ _,qDN h.mp (Mem.set_ne h.pm.symm),h.p0,h.m0,h.bo.put b1 h.p0 _,h.no.put b2 h.p0 _,h.po.put b3 h.p0 _,h.bn,h.bp,h.np⟩
def CaAt(p:Nat)(k:Nat)(c:List Int)(n:Nat)(V0 V:Mem):Prop:=∃mb S B N P L f,CaL V0 V p k n mb S S B N P f/\CaI k c B N P L f
end
end Go.Proofs
namespace Go.Proofs
def tch(k:Nat)(c:List Int)(b:Int):List Int:=if b∈c then b::c.erase b else b::c.take (k-1)
def tchL(k:Nat)(c l:List Int):List Int:=l.foldl (tch k) c
def qIP(k:Nat):List Int->List Int->Nat
 | _,[]=>0
 | c,b::l=>(if b∈c then 0 else 1)+qIP k (tch k c b) l
theorem tch_take{k:Nat}(hk:0<k)(T:List Int)(b:Int):tch k (T.take k) b=(mtf T b).take k:=by
 unfold tch
 by_cases h:b∈T.take k
 ·rw[if_pos h,take_mtf_hit h]
 ·rw[if_neg h,qJP hk h]
theorem misL_take{k:Nat}(hk:0<k):∀l T:List Int,qIP k (T.take k) l=qIW k T l
 | [],_=>rfl
 | b::l,T=>by rw[qIP,qIW,tch_take hk,misL_take hk l]
theorem qHv{k:Nat}(hk:0<k)(l:List Int):qIP k [] l=qIW k [] l:=by
 have:=misL_take hk l []
 simp_all
theorem misL_snoc(k:Nat):∀(l c:List Int) (b:Int),qIP k c (l++[b])=qIP k c l+if b∈tchL k c l then 0 else 1
 | [],c,b=>by
  simp only[List.nil_append,qIP,Nat.add_zero,Nat.zero_add];rfl
 | x::l,c,b=>by
  rw[List.cons_append,qIP,qIP,misL_snoc k l (tch k c x) b,Nat.add_assoc];rfl
theorem tchL_snoc(k:Nat)(c l:List Int)(b:Int):tchL k c (l++[b])=tch k (tchL k c l) b:=by grind [tchL]
theorem qKn(k:Nat):∀l c:List Int,qIP k c l<=l.length
 | [],_=>Nat.le_refl _
 | b::l,c=>by
  rw[qIP,List.length_cons]
  have:=qKn k l (tch k c b)
  split <;> omega
end Go.Proofs
namespace Go.Proofs
open Go Go.Sx
attribute [local irreducible] Go.Sx.Tri
section
variable{V0 V:Mem}{p mb:Nat}{k n:Int}{S:Sl3}{B N P:List Int}{f:Int->Option Int}
theorem qBV{s:Sl}{xs:List Int}(h:qAc V s 1 (xs.map qAe)){i:Nat}{x:Int}(hx:xs[i]?=some x):¬s.p=none/\(0:Int)<=(i:Int)/\(i:Int)<(s.n:Int)/\V.rowp s.p (i*1) 1=some [.int .i64 x]:=by
 have hn:=h.n_eq
 have hl:=(List.getElem?_eq_some_iff.1 hx).1
 obtain⟨y,-,hy,-,-,h1,h2,h3⟩:=h.get (i:=i) (by omega)
 rw[hx]at hy;cases hy
 exact⟨h1,h2,by omega,h3⟩
theorem c99(h:CaL V0 V p k n mb S S B N P f){s a b:Nat}(hP:P[s]?=some (a:Int))(hN:N[s]?=some (b:Int))(ha:a<N.length)(hb:b<P.length) :
  Tri Tryz.prog 99 #[pv p,.int .i64 s] V fun e V'=>e=.returned (.tuple #[])/\CaL V0 V' p k n mb S S B (N.set a b) (P.set b a) f:=by
 refine x99 ?_
 unfold w99
 obtain⟨n1,n2,n3,n4⟩:=qBV (h.no.rows (fun _=>rfl) (by decide)) hN
 obtain⟨p1,p2,p3,p4⟩:=qBV (h.po.rows (fun _=>rfl) (by decide)) hP
 have hnn:=(h.no.rows (row:=qAe) (xs:=N) (fun _=>rfl) (by decide)).n_eq
 have hpn:=(h.po.rows (row:=qAe) (xs:=P) (fun _=>rfl) (by decide)).n_eq
 refine⟨nn,nn,_,h.cell 4 1 (by decide),nn,nn,_,h.cell 5 1 (by decide),p1,p2,p3,_,p4,nn,nn,_,h.cell 5 1 (by decide),nn,nn,_,h.cell 4 1 (by decide),n1,n2,n3,_,n4,nn,nn,_,h.cell 4 1 (by decide),n1,n2,n3,_,n4,nn,nn,_,h.cell 5 1 (by decide),p1,p2,p3,_,p4,n1,by omega,by omega,h.setN ha fun V1 h1=>⟨p1,by omega,by omega,h1.setP hb fun V2 h2=>⟨rfl,h2⟩⟩⟩
theorem c100(h:CaL V0 V p k n mb S S B N P f){s q:Nat}(h0:N[0]?=some (q:Int))(hN:s<N.length)(hP:s<P.length)(hq:q<P.length)(hs:s≠0) :
  Tri Tryz.prog 100 #[pv p,.int .i64 s] V fun e V'=>e=.returned (.tuple #[])/\CaL V0 V' p k n mb S S B ((N.set s q).set 0 s) ((P.set s 0).set q s) f:=by
 refine x100 ?_
 unfold w100
 obtain⟨n1,n2,n3,n4⟩:=qBV (h.no.rows (fun _=>rfl) (by decide)) h0
 have hnn:=(h.no.rows (row:=qAe) (xs:=N) (fun _=>rfl) (by decide)).n_eq
 have hpn:=(h.po.rows (row:=qAe) (xs:=P) (fun _=>rfl) (by decide)).n_eq
 obtain⟨p1,-⟩:=qBV (h.po.rows (fun _=>rfl) (by decide)) (List.getElem?_eq_getElem hP)
 refine⟨nn,nn,_,h.cell 4 1 (by decide),nn,nn,_,h.cell 5 1 (by decide),nn,nn,_,h.cell 4 1 (by decide),n1,n2,n3,_,n4,n1,by omega,by omega,h.setN hN fun V1 h1=>⟨p1,by omega,by omega,h1.setP hP fun V2 h2=>?_⟩⟩
 obtain⟨m1,m2,m3,m4⟩:=qBV (h2.no.rows (fun _=>rfl) (by decide)) (i:=0) (x:=q) (by simp_all)
 refine⟨nn,nn,_,h2.cell 5 1 (by decide),nn,nn,_,h2.cell 4 1 (by decide),m1,m2,m3,_,m4,nn,nn,_,h2.cell 4 1 (by decide),p1,by omega,by omega,h2.setP (by simp_all) fun V3 h3=>⟨n1,by omega,by omega,h3.setN (i:=0) (by simp_all) fun V4 h4=>⟨rfl,h4⟩⟩⟩
end
section
variable{V0 V:Mem}{p k n:Nat}{c:List Int}
theorem c90(h:CaAt p k c n V0 V):PP 90 [pv p] V (.int .i64 n):=by
 obtain⟨mb,S,B,N,P,L,f,h,-⟩:=h
 refine x90 ?_
 unfold w90
 exact⟨fun h=>absurd h nn,fun _=>⟨nn,nn,_,h.cell 1 1 (by decide),rfl,rfl⟩⟩
theorem c53{m:Int}:Tri Tryz.prog 53 #[.int .i64 m] V fun e V'=>(¬(1<=m/\m<=1000)/\e=.returned (.tuple #[.pointer none,.int .i64 2])/\V'=V)∨((1<=m/\m<=1000)/\∃p,e=.returned (.tuple #[pv p,.int .i64 0])/\CaAt p m.toNat [] 0 V V'):=by
 refine x53 ?_
 unfold w53
 refine⟨fun h=>.inl ⟨fun hh=>by omega,rfl,rfl⟩,fun h=>⟨fun h2=>.inl ⟨fun hh=>by omega,rfl,rfl⟩,fun h2=>?_⟩⟩
 have hm:1<=m/\m<=1000:=by
  omega
 refine GenK.makeMap fun mb hmb=>⟨some mb,rfl,fun b1 h1 b2 h22 b3 h3 p hp=>.inr ⟨hm,p,rfl,?_⟩⟩
 obtain⟨k,rfl⟩:∃k:Nat,m=(k:Int):=⟨m.toNat,by omega⟩
 have s1:=Mem.sub_new hmb (.map #[] 0)
 have s2:=Mem.sub_new h1 (.cells #[.int .i64 (-1)] 3 (0,0))
 have s3:=Mem.sub_new h22 (.cells #[.int .i64 0] 3 (0,0))
 have s4:=Mem.sub_new h3 (.cells #[.int .i64 0] 3 (0,0))
 have none0:∀{A U:Mem} {b:Nat},A.sub U->U b=none->A b=none:=fun {A U b} hs hb=>by
  cases e:A b with
  | none=>rfl
  | some o=>rw[hs _ _ e]at hb;cases hb
 have one:∀{W U:Mem} {b:Nat} {x:Int},W b=none->W.sub U->U b=some (.cells #[.int .i64 x] 3 (0,0))->Sx.Own W U 3 1 ⟨some ⟨b,0,none⟩,1,1⟩ ([x].flatMap qAe):=fun {W U b x} h0 hs hb=>⟨hs,rfl,.inr ⟨b,_,rfl,h0,hb,Nat.le_refl _,(show 1<=maxLen by decide),rfl,rfl⟩⟩
 have sa:V.sub _:=s1.trans (s2.trans (s3.trans s4))
 have s5:=Mem.sub_new hp (.cells (crow k 0 mb ⟨⟨some ⟨b1,0,none⟩,1,1⟩,⟨some ⟨b2,0,none⟩,1,1⟩,⟨some ⟨b3,0,none⟩,1,1⟩⟩).toArray 134 (0,0))
 have blk:∀{b c:Nat},Blk ⟨some ⟨b,0,none⟩,1,1⟩ c->c=b:=fun {b c} h=>by
  have:=h.2
  grind
 have d12:b1≠b2:=fun e=>by grind [Mem.set_same]
 have d13:b1≠b3:=fun e=>by rw[<- e]at h3;rw[s3 _ _ mss]at h3;cases h3
 have d23:b2≠b3:=fun e=>by grind [Mem.set_same]
 refine⟨mb,⟨⟨some ⟨b1,0,none⟩,1,1⟩,⟨some ⟨b2,0,none⟩,1,1⟩,⟨some ⟨b3,0,none⟩,1,1⟩⟩,[-1],[0],[0],[],fun _=>none,⟨Mem.set_same _ _ _,((qEd.made V mb).sub (s2.trans (s3.trans (s4.trans s5)))).congr fun _=>rfl,none0 sa hp,hmb,one (none0 s1 h1) (sa.trans s5) ?_,one (none0 (s1.trans s2) h22) (sa.trans s5) ?_,one (none0 (s1.trans (s2.trans s3)) h3) (sa.trans s5) ?_,fun c k1 k2=>d12 ((blk k1).symm.trans (blk k2)),fun c k1 k2=>d13 ((blk k1).symm.trans (blk k2)),fun c k1 k2=>d23 ((blk k1).symm.trans (blk k2))⟩,?_⟩
 ·exact(s3.trans (s4.trans s5)) _ _ mss
 ·exact(s4.trans s5) _ _ mss
 ·exact s5 _ _ mss
 grind [Int.toNat_natCast,CaI.new]
end
section
variable{V V0:Mem}{d:Ds}{m:Mm}{F:Nat}{nm:ByteArray}{args:List Int}{l:Sl}
theorem good_lens(G:qAz d m):m.globals.length<=2147483648/\m.nodes.length<=4096/\∀n∈m.nodes,n.f.length<=2147483648:=by
 obtain⟨p1,p2,p3,p4,p5⟩:=qAi G.mem
 have h12:=lens12 G.valid
 refine⟨by grind [qAC],p2,fun n hn=>?_⟩
 have:=(qAC.1 (p5 n hn)).1
 have hty:=of_decide_eq_true (p3 n hn)
 obtain⟨j,hj⟩:∃j:Nat,n.ty=(j:Int):=⟨n.ty.toNat,by omega⟩
 have hjl:j<d.types.length:=by omega
 have hx:=List.getElem?_eq_getElem hjl
 rw[hj,qBr hx rfl]at this
 grind
end
section
variable{V V0:Mem}{d:Ds}{m:Mm}{nm:ByteArray}{args:List Int}{l:Sl}
theorem given_fuel{F:Int}(h:qBs d m F=0):0<=F/\F<=1048576:=by
 grind [qBs]
end
def rsS(s:St):St:=⟨s.g,s.ns,0,0,[]⟩
abbrev O4:=Int×Int×Nat×Nat
def oRow(o:O4):List Value:=qEe o.1 o.2.1 o.2.2.1 o.2.2.2
def outO(r:Rx Int):O4:=(outC r,outV r,r.st.cm,qBe r.st.lg)
structure Cl2 where
 name:ByteArray
 sl:Sl
 args:List Int
def Cl2.row(c:Cl2):List Value:=[.string c.name,c.sl.v]
structure Cls.Ok (V:Mem) (l:Sl) (cs:List Cl2):Prop where
 rows:qAc V l 2 (cs.map Cl2.row)
 args:∀c∈cs,qAc V c.sl 1 (c.args.map qAe)
theorem Cls.Ok.sub{V V':Mem}{l:Sl}{cs:List Cl2}(h:Cls.Ok V l cs)(hs:V.sub V'):Cls.Ok V' l cs:=⟨h.rows.sub hs,fun c hc=>(h.args c hc).sub hs⟩
section
variable(d:Ds)(F:Nat)
def qJT(c:Cl2)(s:St):Rx Int:=qBM d F (qCU d c.name) c.args s
def scE:St->List Cl2->Int
 | _,[]=>0
 | s,c::cs=>if qDh d s.mm c.name c.args=0 then scE (rsS (qJT d F c s).st) cs else qDh d s.mm c.name c.args
def scO:St->List Cl2->List O4
 | _,[]=>[]
 | s,c::cs=>outO (qJT d F c s)::scO (rsS (qJT d F c s).st) cs
def scS:St->List Cl2->St
 | s,[]=>s
 | s,c::cs=>scS (rsS (qJT d F c s).st) cs
end
noncomputable def scrE(d:Ds)(F:Int)(m:Mm)(cs:List Cl2):Int:=if qBs d m F=0 then (if 2000<cs.length then 4 else scE d F.toNat (qBR m) cs) else qBs d m F
theorem loop6{V:Mem}{B:Sl->Sl->Sl->Int->Sl->Int->Mem->(List Value->Mem->Prop)->Prop}{a0 b0 x0:Sl}{y0:Int}{c0:Sl}(len:Nat)(St:Nat->Sl->Sl->Sl->Mem->Prop)(h0:St 0 a0 b0 c0 V)
  (step:∀(i:Nat) (a b x:Sl) (y:Int) (c:Sl) V1 J,i<=len->St i a b c V1->(i<len->∀(a' b' x':Sl) (y':Int) (c':Sl) V2,St (i+1) a' b' c' V2->J [.slice a'.p a'.n a'.c,.slice b'.p b'.n b'.c,.slice x'.p x'.n x'.c,.int .i64 y',.slice c'.p c'.n c'.c,.int .i64 ((i:Int)+1)] V2)->B a b x y c (i:Int) V1 J) :
  ∃(I:Nat->List Value->Mem->Prop) (n0:Nat),I n0 [.slice a0.p a0.n a0.c,.slice b0.p b0.n b0.c,.slice x0.p x0.n x0.c,.int .i64 y0,.slice c0.p c0.n c0.c,.int .i64 0] V/\∀n V1,∀(a b x:Sl) (y:Int) (c:Sl) (v:Int),I n [.slice a.p a.n a.c,.slice b.p b.n b.c,.slice x.p x.n x.c,.int .i64 y,.slice c.p c.n c.c,.int .i64 v] V1->∀J:List Value->Mem->Prop,(∀m ys V'',m<n->I m ys V''->J ys V'')->B a b x y c v V1 J:=by
 refine⟨LI len fun i xs V=>∃(a b x:Sl) (y:Int) (c:Sl),xs=[.slice a.p a.n a.c,.slice b.p b.n b.c,.slice x.p x.n x.c,.int .i64 y,.slice c.p c.n c.c,.int .i64 i]/\St i a b c V,len,LI.start ⟨a0,b0,x0,y0,c0,rfl,h0⟩,?_⟩
 rintro n V1 a b x y c v ⟨i,rfl,hi,a',b',x',y',c',hx,hs⟩ J hJ
 simp only[List.cons.injEq,Value.int.injEq,true_and,and_true]at hx
 obtain⟨h1,h2,h3,rfl,h5,rfl⟩:=hx
 cases qBE _ _ h1
 cases qBE _ _ h2
 cases qBE _ _ h5
 exact step i _ _ _ _ _ V1 J hi hs fun hlt a' b' x' y' c' V2 h2=>LI.next hJ hlt ⟨a',b',x',y',c',rfl,h2⟩
theorem app73:AppP 73 54 5 oRow:=appG Tryz.underlying73 (by kernel_rfl) (by kernel_rfl) (by kernel_rfl) (by kernel_rfl) (by kernel_rfl) (by decide) (by intro _;rfl) fun x u hu=>by simp only[oRow,qEe,List.mem_cons,List.not_mem_nil,or_false]at hu;rcases hu with rfl|rfl|rfl|rfl|rfl <;> rfl
theorem one_out{V:Mem}{b t:Nat}(o:O4)(h:V b=some (.cells (oRow o).toArray t (0,0))):qAc V ⟨some ⟨b,0,none⟩,1,1⟩ 5 ([o].map oRow) :=
 qAc.cells (xs:=[o]) (row:=oRow) h rfl (fun _=>rfl) rfl (by simp)
section
variable{V V0:Mem}{d:Ds}{F:Nat}{m:Mm}{l:Sl}{cs:List Cl2}
theorem mm_len'{s:St}{a b:Sl}{nd:List Nd}(h:nd.map (fun n=>(n.ty,n.f))=s.ns):(⟨a,s.g,b,nd⟩:Mm).plain=s.mm.plain:=by
 grind [St.plain,Mm.plain]
theorem lay_rs{W V:Mem}{gs ns ls:Sl}{nd:List Nd}{s:St}(L:Lay W V gs ns ls nd s):Lay W V gs ns qAL nd (rsS s):=⟨L.glob,L.nodes,Own.nil L.sub _ _,L.fld,L.eq,L.gf,L.ff⟩
theorem st_eta{s:St}(h:s=rsS s){a b:Sl}{nd:List Nd}(he:nd.map (fun n=>(n.ty,n.f))=s.ns):qBR ⟨a,s.g,b,nd⟩=s:=by
 grind [qBR,rsS]
def ScrP(V:Mem)(d:Ds)(F:Int)(m:Mm)(cs:List Cl2):Ending->Mem->Prop:=fun e V'=>V.sub V' /\
 ((scrE d F m cs≠0/\e=.returned (.tuple #[qAL.v,.agg #[qAL.v,qAL.v],.int .i64 (scrE d F m cs)])) ∨
 (scrE d F m cs=0/\∃(o a b:Sl) (nd:List Nd),qAc V' o 5 ((scO d F.toNat (qBR m) cs).map oRow)/\Mm.Ok V' ⟨a,(scS d F.toNat (qBR m) cs).g,b,nd⟩/\nd.map (fun n=>(n.ty,n.f))=(scS d F.toNat (qBR m) cs).ns/\qAz d (scS d F.toNat (qBR m) cs).mm/\e=.returned (.tuple #[o.v,.agg #[a.v,b.v],.int .i64 0])))
structure At (d:Ds) (F:Nat) (s0:St) (cs:List Cl2) (j:Nat) (outs:List O4) (s:St):Prop where
 err:scE d F s0 cs=scE d F s (cs.drop j)
 out:scO d F s0 cs=outs++scO d F s (cs.drop j)
 st:scS d F s0 cs=scS d F s (cs.drop j)
 len:outs.length=j
 rs:s=rsS s
 good:qAz d s.mm
theorem At.start{s:St}(h:s=rsS s)(G:qAz d s.mm):At d F s cs 0 [] s:=⟨by rfl,by rfl,by rfl,rfl,h,G⟩
theorem At.next{s0 s:St}{j:Nat}{outs:List O4}{c:Cl2}(h:At d F s0 cs j outs s)(hc:cs.drop j=c::cs.drop (j+1))(h0:qDh d s.mm c.name c.args=0)(hg:qAz d (qJT d F c s).st.mm):At d F s0 cs (j+1) (outs++[outO (qJT d F c s)]) (rsS (qJT d F c s).st):=by
 have e1:=h.err
 have e2:=h.out
 have e3:=h.st
 rw[hc]at e1 e2 e3
 refine⟨?_,?_,e3,by rw[List.length_append,h.len];rfl,rfl,⟨hg.valid,hg.chk,hg.mem⟩⟩
 ·grind [scE]
 ·rw[e2,scO];simp
theorem At.stop{s0 s:St}{j:Nat}{outs:List O4}{c:Cl2}(h:At d F s0 cs j outs s)(hc:cs.drop j=c::cs.drop (j+1))(h0:qDh d s.mm c.name c.args≠0):scE d F s0 cs=qDh d s.mm c.name c.args:=by
 rw[h.err,hc,scE,if_neg h0]
theorem c33[Tab V](hd:Ds.Ok V d)(hm:Mm.Ok V m)(hcs:Cls.Ok V l cs){F:Int}(hF:F<=3000∨1048576<F):Tri Tryz.prog 33 #[d.v,m.v,l.v,.int .i64 F] V (ScrP V d F m cs):=by
 refine x33 (R:=ScrP V d F m cs) ?_
 unfold w33
 have hln:=hcs.rows.n_eq
 have bad:∀{k:Int} {V':Mem},scrE d F m cs=k->k≠0->V.sub V'->ScrP V d F m cs (.returned (.tuple #[qAL.v,.agg #[qAL.v,qAL.v],.int .i64 k])) V':=fun h hk hs=>⟨hs,.inl ⟨by rw[h];exact hk,by rw[h]⟩⟩
 refine(c71 hd hm).call ⟨_,rfl,fun h0=>⟨fun hl=>?_,fun hl=>?_⟩,fun h0=>?_⟩
 ·exact bad (by grind [scrE]) (by decide) (Mem.sub.refl _)
 rotate_left
 ·exact bad (by grind [scrE]) h0 (Mem.sub.refl _)
 have hl:¬(2000:Int)<(l.n:Int):=hl
 have G:=qGA h0
 have hf:=given_fuel h0
 obtain⟨n,rfl⟩:∃n:Nat,F=(n:Int):=⟨F.toNat,by omega⟩
 have hsc:scrE d (n:Int) m cs=scE d n (qBR m) cs:=by grind [scrE]
 obtain⟨l1,l2,l3⟩:=good_lens G
 refine Tri.mono (c72 hm l1 l2 l3) ?_
 rintro _ V1 ⟨gs,ns,nd,rfl,L⟩
 refine⟨gs,ns,rfl,loop6 (x0:=qAL) (y0:=0) (c0:=qAL) cs.length (fun j a b o V2=>∃W outs s nd,V.sub W/\Sx.Own V W 54 5 o (outs.flatMap oRow)/\Lay W V2 a b qAL nd s/\At d n (qBR m) cs j outs s) ⟨V,[],qBR m,nd,Mem.sub.refl _,Own.nil (Mem.sub.refl _) _ _,L,.start rfl (qKx G)⟩ ?_⟩
 rintro j a b x y o V2 J hj ⟨W,outs,s,nd,hW,ho,L,A⟩ hJ
 have hc2:=hcs.sub (hW.trans L.sub)
 refine⟨fun hlt=>?_,fun hge=>?_⟩
 ·obtain⟨c,hcm,hc,hdr,hjl,hp,hz,hrow⟩:=hc2.rows.get hlt
  have hst:=st_eta (a:=a) (b:=b) A.rs L.eq
  have Gm:qAz d ⟨a,s.g,b,nd⟩:=⟨A.good.valid,A.good.chk,qFe (mm_len' L.eq).symm A.good.mem⟩
  have hmk:=(mm_of_lay (hd.sub hW) L A.good).1
  have hcl:qDh d ⟨a,s.g,b,nd⟩ c.name c.args=qDh d s.mm c.name c.args:=qJF (mm_len' L.eq)
  refine⟨hp,hz,hlt,_,_,hrow,Tri.mono (c73 (F:=n) (m:=⟨a,s.g,b,nd⟩) ⟨hd.sub hW,G.valid,qHp G.valid G.chk,by omega⟩ (by grind) hmk Gm ((hcs.args c hcm).sub hW)) ?_⟩
  rintro e V3 (⟨hk,s3,rfl⟩|⟨hk,p,cc,r,hr,M,rfl⟩)
  ·rw[hcl]at hk ⊢
   exact⟨_,_,_,_,_,_,_,rfl,fun h=>absurd h hk,fun _=>bad (hsc.trans (A.stop hdr hk)) hk (hW.trans (L.sub.trans s3))⟩
  ·rw[hcl]at hk
   rw[hst]at hr
   have hr:r=qJT d n c s:=hr
   refine⟨_,_,_,_,_,_,_,rfl,fun _ tb htb=>?_,fun h=>absurd rfl h⟩
   have ho3:Sx.Own V V3 54 5 o (outs.flatMap oRow):=Own.moveB ho (hW.trans M.sub) fun g cur _ hg=>M.sub _ _ hg
   refine app73 (s:=o) (u:=⟨some ⟨tb,0,none⟩,1,1⟩) (xs:=outs) (ys:=[outO r]) rfl rfl (ho3.but.new htb (.cells (oRow (outO r)).toArray 54 (0,0))) (one_out (outO r) mss) (by have:=A.len;simp;omega) fun o4 V4 ho4=>⟨o4,rfl,?_⟩
   obtain⟨W',hW',M4,ho5⟩:=M.beside hW ho ho4
   obtain⟨gs4,ns4,ls4,nd4,hat,L4⟩:=M4.ex
   have hgd:qAz d (qJT d n c s).st.mm:=by
    have:=play_good (F:=n) Gm (by rw[hcl];exact hk)
    simp_all
   have A':=A.next hdr hk hgd
   rw[<- hr]at A'
   exact⟨nn,nn,gs4,ns4,qAd hat 8 2 (by simp[qBG]),hc2.rows.succ hlt,hJ hjl _ _ _ _ _ _ ⟨W',_,_,nd4,hW',ho5,lay_rs L4,A'⟩⟩
 ·have hdn:=(hc2.rows.done hge).2
  have e1:=A.err
  have e2:=A.out
  have e3:=A.st
  rw[List.drop_eq_nil_of_le hdn]at e1 e2 e3
  have e1:scE d n (qBR m) cs=0:=e1
  have e2:scO d n (qBR m) cs=outs:=by rw[e2];simp[scO]
  have e3:scS d n (qBR m) cs=s:=e3
  refine⟨hW.trans L.sub,.inr ⟨hsc.trans e1,o,a,b,nd,?_,?_,?_,?_,rfl⟩⟩
  ·show qAc V2 o 5 ((scO d n (qBR m) cs).map oRow)
   rw[e2];exact(ho.rows (fun _=>rfl) (by decide)).sub L.sub
  ·show Mm.Ok V2 ⟨a,(scS d n (qBR m) cs).g,b,nd⟩
   rw[e3];exact(mm_of_lay (hd.sub hW) L A.good).1
  ·show _=(scS d n (qBR m) cs).ns
   rw[e3];exact L.eq
  ·show qAz d (scS d n (qBR m) cs).mm
   rw[e3];exact A.good
end
end Go.Proofs
namespace Go.Proofs
open Go Go.Sx
end Go.Proofs
namespace Go.Proofs
open Go Go.Sx
end Go.Proofs
