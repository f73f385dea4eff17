/- Part 12: no statement of the seat is proved here. -/
import Derived.Test.YtejinebghgaigaaGreatDoorPr11
import Derived.Test.YtejinebghgaigaaGreatDoorPr04
set_option linter.unusedVariables false
set_option linter.unusedSimpArgs false
open List renaming replicate->yI,mem_of_getElem?->xJ,map_cons->zG,map_nil->xu,getD_cons_zero->xr,getD_cons_succ->xq,mem_cons->yC,all_eq_true->za,nil_append->xp,length_nil->xo,mem_iff_getElem?->xn,getElem?_map->y4,length_map->xm,length_set->xk,length_append->zw,getElem?_append_left->xj,length_singleton->xi,getElem?_eq_some_iff->yw,mem_append->xh,mem_singleton->zO,mem_cons_self->zc,mem_cons_of_mem->zb,map_set->xg,mem_or_eq_of_mem_set->xf,not_mem_nil->xC,getElem?_set->xb
open Bool renaming and_eq_true->zC,or_eq_true->yP
open Prod.mk renaming injEq->zS
open Nat renaming le_refl->yU
open Int renaming toNat_natCast->xv
open Go.Instr renaming findNow->yn,sameBits->xd
open Go.Value renaming int->xe
open Go.Result renaming andThen_ok->zL
namespace Go.Proofs
open Go Go.Sx
structure St where
 g:List Int
 ns:List (Int×List Int)
 tk:Nat
 cm:Nat
 lg:List (Int×Int×Int)
inductive Rx (α:Type) where
 |ok (v:α) (s:St)
 |bad (c:Int) (s:St)
def Rx.bind{α β:Type}:Rx α->(α->St->Rx β)->Rx β
 |.ok v s,f=>f v s
 |.bad c s,_=>.bad c s
def Aj:Sl:=⟨none,0,0⟩
def St.mm(s:St):Mm:=⟨Aj,s.g,Aj,s.ns.map λn=>⟨n.1,Aj,n.2⟩⟩
def St.note(s:St)(a:Int×Int×Int):St:={s with lg:=s.lg++[a]}
def GQ:E:=.mk 0 0 sE Aj []
def AD(d:Ds)(s:KB):Int:=Ck (λt=>decide (t.name=s)) d.procs
def DG:Rs->St->Rx Int
 |.ok v,s=>.ok v s
 |.bad c,s=>.bad c s
def Dd:List (St->Rx Int)->List Int->St->Rx (List Int)
 |[],acc,st=>.ok acc st
 |f::fs,acc,st=>(f st).bind λv st=>Dd fs (acc++[v]) st
def BL(ks:List (St->Rx Int))(i:Nat):St->Rx Int:=ks.getD i λst=>.bad 0 st
def _root_.Go.Sx.Pr.vars(p:Pr):List Fld:=p.params++p.locals
def DC(b:Bool)(op:Int)(st:St):St:=if op=16∨op=17∨((op=14∨op=15)/\b=true)then{st with cm:=st.cm+1}else st
abbrev Cf:=Int->List Int->St->Rx Int
abbrev Rt:=List Int×Option Int
abbrev Sf:=Nat->Pr->List S->List Int->St->Rx Rt
def EV(F:Nat)(st:St):Rx Unit:=if F<=st.tk then .bad 20 st else .ok () {st with tk:=st.tk+1}
section
variable(d:Ds)
def varX(p:Pr)(vals:List Int)(s:KB)(st:St):Rx Int:=
 if 0<=Cs p.vars s then .ok ((vals[(Cs p.vars s).toNat]?).getD 0) st else .ok ((st.g[(Cs d.globals s).toNat]?).getD 0) (st.note (1,0,Cs d.globals s))
def fldX(a:Int)(s:KB)(st:St):Rx Int:=
 if a=0 then .bad 17 st else match st.ns[(a-1).toNat]? with
  |none=>.bad 0 st
  |some n=>.ok ((n.2[(Cs (Bm d n.1) s).toNat]?).getD 0) (st.note (1,a,Cs (Bm d n.1) s))
def newX(s:KB)(st:St):Rx Int:=
 if 4096<=st.ns.length then .bad 21 st else .ok ((st.ns.length:Int)+1) {st with ns:=st.ns++[(Bx d s,yI (Bm d (Bx d s)).length 0)],lg:=st.lg++[(3,(st.ns.length:Int)+1,Bx d s)]}
def intB(sc:Sc):List E->Bool
 |[]=>false
 |a::_=>decide ((As d sc a).1=Ai)
def C5(C:Cf)(p:Pr)(vals:List Int)(b:Bool)(op n:Int)(s:KB)(ks:List (St->Rx Int))(st:St):Rx Int:=
 if op=1∨op=2 then .ok n st else if op=3 then .ok 0 st else if op=4 then varX d p vals s st
 else if op=5 then(BL ks 0 st).bind λa st=>fldX d a s st
 else if op=6 then newX d s st
 else if op=7 then(Dd ks [] st).bind λl st=>C (AD d s) l st
 else if op=8 then(BL ks 0 st).bind λa st=>DG (CK (-a)) st
 else if op=18 then(BL ks 0 st).bind λa st=>.ok (1-a) st
 else if op=24 then(BL ks 0 st).bind λa st=>.ok (DB a) st
 else if op=19 then(BL ks 0 st).bind λa st=>if a=0 then .ok 0 st else BL ks 1 st
 else if op=20 then(BL ks 0 st).bind λa st=>if a=0 then BL ks 1 st else .ok 1 st
 else if op=21 then(BL ks 0 st).bind λa st=>if a=0 then BL ks 2 st else BL ks 1 st
 else(BL ks 0 st).bind λv st=>(BL ks 1 st).bind λw st=>DG (Bg op v w) (DC b op st)
mutual
def C0(C:Cf)(p:Pr)(vals:List Int):E->St->Rx Int
 |.mk op n s _ k=>C5 d C p vals (intB d (Av d p) k) op n s (evXs C p vals k)
def evXs(C:Cf)(p:Pr)(vals:List Int):List E->List (St->Rx Int)
 |[]=>[]
 |e::es=>C0 C p vals e::evXs C p vals es
end
def CA(Sn:Sf)(c:Nat)(i:Int)(args:List Int)(st:St):Rx Int:=
 if 200<=c then .bad 19 st else match d.procs[i.toNat]? with
  |none=>.bad 0 st
  |some p=>(Sn (c+1) p p.body (args++yI p.locals.length 0) st).bind λr st=>.ok (r.2.getD 0) st
def setX(p:Pr)(s:KB)(v:Int)(vals:List Int)(st:St):Rx Rt:=
 if 0<=Cs p.vars s then .ok (vals.set (Cs p.vars s).toNat v,none) st else .ok (vals,none) {st with g:=st.g.set (Cs d.globals s).toNat v,lg:=st.lg++[(2,0,Cs d.globals s)]}
def putX(a v:Int)(s:KB)(st:St):Rx Unit:=
 if a=0 then .bad 17 st else match st.ns[(a-1).toNat]? with
  |none=>.bad 0 st
  |some n=>.ok () {st with ns:=st.ns.set (a-1).toNat (n.1,n.2.set (Cs (Bm d n.1) s).toNat v),lg:=st.lg++[(2,a,Cs (Bm d n.1) s)]}
section
variable(F:Nat)(Sn:Sf)(c:Nat)(p:Pr)
def CT(vals:List Int)(e:E)(st:St):Rx Int:=C0 d (CA d Sn c) p vals e st
def DY(cond:E)(body:List S):Nat->List Int->St->Rx Rt
 |0,_,st=>.bad 20 st
 |n+1,vals,st=>(CT d Sn c p vals cond st).bind λa st=>if a=0 then .ok (vals,none) st else(Sn c p body vals st).bind λr st=>match r.2 with
  |some _=>.ok r st
  |none=>(EV F st).bind λ_ st=>DY cond body n r.1 st
def EJ(n:Nat)(s:S)(vals:List Int)(st:St):Rx Rt:=
 if s.op=1 then(CT d Sn c p vals (s.es.getD 0 GQ) st).bind λv st=>setX d p s.s v vals st
 else if s.op=2 then(CT d Sn c p vals (s.es.getD 0 GQ) st).bind λa st=>(CT d Sn c p vals (s.es.getD 1 GQ) st).bind λv st=>(putX d a v s.s st).bind λ_ st=>.ok (vals,none) st
 else if s.op=3 then(CT d Sn c p vals (s.es.getD 0 GQ) st).bind λa st=>if a=0 then Sn c p s.xs vals st else Sn c p s.ls vals st
 else if s.op=4 then DY d F Sn c p (s.es.getD 0 GQ) s.ls n vals st
 else if s.op=5 then match s.es with
  |[]=>.ok (vals,some 0) st
  |e::_=>(CT d Sn c p vals e st).bind λv st=>.ok (vals,some v) st
 else if s.op=6 then(CT d Sn c p vals (s.es.getD 0 GQ) st).bind λ_ st=>.ok (vals,none) st
 else .ok (vals,none) st
def DH(n:Nat)(s:S)(vals:List Int)(st:St):Rx Rt:=(EV F st).bind λ_ st=>EJ d F Sn c p n s vals st
end
def DR(f:S->List Int->St->Rx Rt):List S->List Int->St->Rx Rt
 |[],vals,st=>.ok (vals,none) st
 |s::l,vals,st=>(f s vals st).bind λr st=>match r.2 with
  |some _=>.ok r st
  |none=>DR f l r.1 st
def A9(F:Nat):Nat->Sf
 |0=>λ_ _ _ _ st=>.bad 20 st
 |n+1=>λc p l vals st=>DR (DH d F (A9 F n) c p (n+1)) l vals st
def BP(F:Nat)(i:Int)(args:List Int)(st:St):Rx Int:=CA d (A9 d F (F+1)) 0 i args st
end
variable{d:Ds}
theorem evXs_map(C:Cf)(p:Pr)(vals:List Int):∀k:List E,evXs d C p vals k=k.map (C0 d C p vals)
 |[]=>by unfold evXs;rfl
 |e::es=>by unfold evXs;rw[evXs_map C p vals es];rfl
theorem IX(C:Cf)(p:Pr)(vals:List Int)(e:E)(st:St):C0 d C p vals e st=C5 d C p vals (intB d (Av d p) e.k) e.op e.n e.s (e.k.map (C0 d C p vals)) st:=by
 cases e;unfold C0;rw[evXs_map];rfl
theorem KR{f:E->St->Rx Int}{k:List E}{i:Nat}{e:E}(h:k[i]?=some e):BL (k.map f) i=f e:=by
 grind[BL]
section
variable{C:Cf}{p:Pr}{vals:List Int}{b:Bool}{op n:Int}{s:KB}{ks:List (St->Rx Int)}{st:St}
theorem IZ(h:op=1∨op=2):C5 d C p vals b op n s ks st=.ok n st:=by rcases h with rfl|rfl<;>rfl
theorem MD(h:op=3):C5 d C p vals b op n s ks st=.ok 0 st:=by subst h;rfl
theorem ME(h:op=4):C5 d C p vals b op n s ks st=varX d p vals s st:=by subst h;rfl
theorem KS(h:op=5):C5 d C p vals b op n s ks st=(BL ks 0 st).bind λa st=>fldX d a s st:=by subst h;rfl
theorem MF(h:op=6):C5 d C p vals b op n s ks st=newX d s st:=by subst h;rfl
theorem I0(h:op=7):C5 d C p vals b op n s ks st=(Dd ks [] st).bind λl st=>C (AD d s) l st:=by subst h;rfl
theorem KT(h:op=8):C5 d C p vals b op n s ks st=(BL ks 0 st).bind λa st=>DG (CK (-a)) st:=by subst h;rfl
theorem cX18(h:op=18):C5 d C p vals b op n s ks st=(BL ks 0 st).bind λa st=>.ok (1-a) st:=by subst h;rfl
theorem cX24(h:op=24):C5 d C p vals b op n s ks st=(BL ks 0 st).bind λa st=>.ok (DB a) st:=by subst h;rfl
theorem cX19(h:op=19):C5 d C p vals b op n s ks st=(BL ks 0 st).bind λa st=>if a=0 then .ok 0 st else BL ks 1 st:=by subst h;rfl
theorem cX20(h:op=20):C5 d C p vals b op n s ks st=(BL ks 0 st).bind λa st=>if a=0 then BL ks 1 st else .ok 1 st:=by subst h;rfl
theorem cX21(h:op=21):C5 d C p vals b op n s ks st=(BL ks 0 st).bind λa st=>if a=0 then BL ks 2 st else BL ks 1 st:=by subst h;rfl
theorem F8(h:9<=op/\op<=23/\op≠18/\op≠19/\op≠20/\op≠21):C5 d C p vals b op n s ks st=(BL ks 0 st).bind λv st=>(BL ks 1 st).bind λw st=>DG (Bg op v w) (DC b op st):=by
 grind[C5]
end
end Go.Proofs
namespace Go.Proofs
open Go Go.Sx
section
variable{d:Ds}{sc:Sc}{e:E}{p:Pr}
structure CallK (d:Ds)(sc:Sc)(e:E)(pr:Pr)(i:Nat):Prop where
 idx:AD d e.s=i
 at_:d.procs[i]?=some pr
 len:e.k.length=pr.params.length
 fit:∀(j:Nat) a f,e.k[j]?=some a->pr.params[j]?=some f->∃u,As d sc a=(u,0)/\BA d u f.ty=true
theorem fitAll_at:∀{l:List KB}{fs:List Fld},DQ d l fs=true->∀(j:Nat) a f,l[j]?=some a->fs[j]?=some f->BA d a f.ty=true
 |[],_,_,j,a,f,h,_=>by simp at h
 |_::_,[],_,j,a,f,_,h=>by simp at h
 |b::l,g::fs,h,j,a,f,h1,h2=>by
  unfold DQ at h;rw[zC]at h;cases j with
  |zero=>simp_all
  |succ j=>exact fitAll_at h.2 j a f (by simpa using h1) (by simpa using h2)
theorem callT_ok{s t:KB}{l:List KB}(h:Er d s l=(t,0)):∃(pr:Pr)(i:Nat),AD d s=i/\d.procs[i]?=some pr/\l.length=pr.params.length/\DQ d l pr.params=true/\t=pr.result:=by
 unfold Er Cj at h;unfold AD;rcases CP (λx:Pr=>decide (x.name=s)) d.procs with⟨-,z,-⟩|⟨i,pr,q1,z,q3,-⟩;·simp_all
 grind
theorem callK_of(hk:∀x∈e.k,(As d sc x).2=0){t:KB}(h:Er d e.s (e.k.map λx=>(As d sc x).1)=(t,0)):∃pr i,CallK d sc e pr i/\t=pr.result:=by
 obtain⟨pr,i,h1,h2,h3,h4,z⟩:=callT_ok h;refine⟨pr,i,⟨h1,h2,by simpa using h3,λj a f ha hf=>⟨(As d sc a).1,BO rfl (hk a (xJ ha)),fitAll_at h4 j _ f (by simp[ha]) hf⟩⟩,z⟩
inductive DZ (d:Ds)(sc:Sc)(e:E):KB->Prop where
 |int (h:e.op=1) (hn:0<=e.n/\e.n<=1099511627776):DZ d sc e Ai
 |bool (h:e.op=2) (hn:e.n=0∨e.n=1):DZ d sc e Au
 |nil (h:e.op=3) (hn:e.n=0):DZ d sc e DP
 |var {t} (h:e.op=4) (hl:B0 sc.vars e.s=t) (hne:t≠sE):DZ d sc e t
 |fld {t u} {a:E} (h:e.op=5) (hk:e.k=[a]) (ha:As d sc a=(u,0)) (ht:Dz d u e.s=(t,0)):DZ d sc e t
 |new (h:e.op=6) (hn:Ci d e.s=true):DZ d sc e e.s
 |call {pr:Pr} {i:Nat} (h:e.op=7) (hc:CallK d sc e pr i) (hr:pr.result≠sE):DZ d sc e pr.result
 |neg {a:E} (h:e.op=8) (hk:e.k=[a]) (ha:As d sc a=(Ai,0)):DZ d sc e Ai
 |not {a:E} (h:e.op=18) (hk:e.k=[a]) (ha:As d sc a=(Au,0)):DZ d sc e Au
 |log {a:E} (h:e.op=24) (hk:e.k=[a]) (ha:As d sc a=(Ai,0)):DZ d sc e Ai
 |and {a b:E} (h:e.op=19) (hk:e.k=[a,b]) (ha:As d sc a=(Au,0)) (hb:As d sc b=(Au,0)):DZ d sc e Au
 |or {a b:E} (h:e.op=20) (hk:e.k=[a,b]) (ha:As d sc a=(Au,0)) (hb:As d sc b=(Au,0)):DZ d sc e Au
 |cond {a b c:E} {t u w} (h:e.op=21) (hk:e.k=[a,b,c]) (ha:As d sc a=(Au,0)) (hb:As d sc b=(u,0)) (hc:As d sc c=(w,0)) (hu:u=t∨BA d u t=true) (hw:w=t∨BA d w t=true) (ht:t=if u=DP then w else u):DZ d sc e t
 |eq {a b:E} {u w} (h:e.op=14∨e.op=15) (hk:e.k=[a,b]) (ha:As d sc a=(u,0)) (hb:As d sc b=(w,0)) (hf:BA d u w=true∨BA d w u=true):DZ d sc e Au
 |cmp {a b:E} (h:e.op=16∨e.op=17) (hk:e.k=[a,b]) (ha:As d sc a=(Ai,0)) (hb:As d sc b=(Ai,0)):DZ d sc e Au
 |ari {a b:E} (h:e.op=9∨e.op=10∨e.op=11∨e.op=12∨e.op=13∨e.op=22∨e.op=23) (hk:e.k=[a,b]) (ha:As d sc a=(Ai,0)) (hb:As d sc b=(Ai,0)):DZ d sc e Ai
theorem kindX(M:sc.body=true){t:KB}(hv:VE e)(ht:As d sc e=(t,0)):DZ d sc e t:=by
 obtain⟨hk,hn⟩:=MC ht;obtain⟨a1,a2,a3,H⟩:=arityB hv.node;unfold EF at hn;unfold numB at H;have one:BS e.op=1->∃a,e.k=[a]:=λh=>list1 ((a2 (by omega)).trans h);have J:BS e.op=2->∃a b,e.k=[a,b]:=λh=>list2 ((a2 (by omega)).trans h);have O:BS e.op=3->∃a b c,e.k=[a,b,c]:=λh=>list3 ((a2 (by omega)).trans h);by_cases h1:e.op=1
 ·rw[if_pos h1]at hn H;cases hn;exact .int h1 (of_decide_eq_true H)
 rw[if_neg h1]at hn H;by_cases h2:e.op=2
 ·rw[if_pos h2]at hn H;cases hn;exact .bool h2 (of_decide_eq_true H)
 rw[if_neg h2]at hn H;have H:e.n=0:=of_decide_eq_true H;by_cases h3:e.op=3
 ·rw[if_pos h3]at hn;cases hn;exact .nil h3 H
 rw[if_neg h3]at hn;by_cases h4:e.op=4
 ·rw[if_pos h4]at hn;split at hn;·simp at hn
  ·rename_i hne;simp only[zS,and_true]at hn;exact .var h4 hn (hn▸hne)
 rw[if_neg h4]at hn;by_cases L:e.op=5
 ·obtain⟨a,ha⟩:=one (by rw[L];rfl);rw[if_pos L,ha]at hn;rw[ha]at hk;exact .fld L ha (BO rfl (hk a (by simp))) hn
 rw[if_neg L]at hn;by_cases R:e.op=6
 ·rw[if_pos R,if_neg (by rw[M];decide)]at hn;split at hn;·simp at hn
  ·rename_i X;simp only[zS,and_true]at hn;subst hn;exact .new R (by simpa using X)
 rw[if_neg R]at hn;by_cases B:e.op=7
 ·rw[if_pos B]at hn;unfold Fh at hn;rw[if_pos M]at hn;split at hn;·simp at hn
  ·rename_i hne;obtain⟨pr,i,hc,rfl⟩:=callK_of hk hn;exact .call B hc λh=>hne ⟨by rw[hn],by rw[hn];exact h⟩
 rw[if_neg B]at hn;by_cases N:e.op=14∨e.op=15
 ·obtain⟨a,b,z⟩:=J (by rcases N with h|h<;>(rw[h];rfl));rw[if_pos N,z]at hn;rw[z]at hk;obtain⟨g,rfl⟩:=E7 hn;exact .eq N z (BO rfl (hk a (by simp))) (BO rfl (hk b (by simp))) (by simpa using g)
 rw[if_neg N]at hn;by_cases Z:e.op=16∨e.op=17
 ·obtain⟨a,b,z⟩:=J (by rcases Z with h|h<;>(rw[h];rfl));rw[if_pos Z,z]at hn;rw[z]at hk;obtain⟨g,rfl⟩:=E7 hn;obtain⟨I,Y⟩:=allT2 g;exact .cmp Z z (BO I (hk a (by simp))) (BO Y (hk b (by simp)))
 rw[if_neg Z]at hn;by_cases A:e.op=18∨e.op=19∨e.op=20
 ·rw[if_pos A]at hn;rcases A with h|h
  ·obtain⟨a,ha⟩:=one (by rw[h];rfl);rw[ha]at hn hk;obtain⟨g,rfl⟩:=E7 hn;exact .not h ha (BO (allT1 g) (hk a (by simp)))
  ·obtain⟨a,b,z⟩:=J (by rcases h with h|h<;>(rw[h];rfl));rw[z]at hn hk;obtain⟨g,rfl⟩:=E7 hn;obtain⟨I,Y⟩:=allT2 g;rcases h with h|h;·exact .and h z (BO I (hk a (by simp))) (BO Y (hk b (by simp)))
   ·exact .or h z (BO I (hk a (by simp))) (BO Y (hk b (by simp)))
 rw[if_neg A]at hn;by_cases W:e.op=21
 ·obtain⟨a,b,c,o⟩:=O (by rw[W];rfl);rw[if_pos W,o]at hn;rw[o]at hk;obtain⟨g,Y⟩:=E7 hn;simp only[zG,xu,xr,xq,zC,decide_eq_true_eq,yP]at g Y;refine .cond W o (BO g.1 (hk a (by simp))) (BO rfl (hk b (by simp))) (BO rfl (hk c (by simp))) ?_ ?_ Y.symm;·grind[inr,BA]
  grind[BA,absurd,inr]
 rw[if_neg W]at hn;obtain⟨g,rfl⟩:=E7 hn;have D:e.op=8∨e.op=24∨(e.op=9∨e.op=10∨e.op=11∨e.op=12∨e.op=13∨e.op=22∨e.op=23):=by
  grind[BS]
 rcases D with h|h|h
 ·obtain⟨a,ha⟩:=one (by rw[h];rfl);rw[ha]at g hk;exact .neg h ha (BO (allT1 g) (hk a (by simp)))
 ·obtain⟨a,ha⟩:=one (by rw[h];rfl);rw[ha]at g hk;exact .log h ha (BO (allT1 g) (hk a (by simp)))
 ·obtain⟨a,b,z⟩:=J (by rcases h with h|h|h|h|h|h|h<;>(rw[h];rfl));rw[z]at g hk;obtain⟨I,Y⟩:=allT2 g;exact .ari h z (BO I (hk a (by simp))) (BO Y (hk b (by simp)))
def Eu(d:Ds)(p:Pr)(s:S):Prop:=(∃n,(Ee d (Av d p) p.result n s).2=0)/\∃k,Eo k s=true
theorem KU{res:KB}:∀{l:List S}{n:Int},(AL d sc res n l).2=0->∀s∈l,∃n',(Ee d sc res n' s).2=0
 |[],_,_,s,z=>by cases z
 |x::l,n,h,s,z=>by
  rw[KF]at h;split at h;·omega
  ·rename_i o;rcases yC.1 z with rfl|z;·grind
   ·exact KU h s z
theorem KV{k:Int}:∀{l:List S},CI k l=true->∀s∈l,Eo k s=true
 |[],_,s,z=>by cases z
 |x::l,h,s,z=>by
  unfold CI at h;rw[zC]at h;rcases yC.1 z with rfl|z;·exact h.1
  ·exact KV h.2 s z
theorem okS_eq(k:Int)(s:S):Eo k s=(decide (k<=60)&&Dc s.op s.s s.es s.ls.length s.xs.length&&CI (k+1) s.ls&&CI (k+1) s.xs):=by cases s;unfold Eo;rfl
theorem Eu.parts{s:S}(h:Eu d p s):Ed d (Av d p) p.result s.op s.s s.es=0/\GL s.op s.s s.es s.ls.length s.xs.length=true/\(∀e∈s.es,Bz e=true)/\(∀x∈s.ls,Eu d p x)/\∀x∈s.xs,Eu d p x:=by
 obtain⟨⟨n,h1⟩,k,h2⟩:=h;rw[okS_eq]at h2;simp only[zC]at h2;obtain⟨⟨⟨-,h3⟩,h4⟩,o⟩:=h2;unfold Dc at h3;rw[zC,za]at h3;rw[stT_eq]at h1;split at h1;·omega
 ·rename_i H;split at h1;·omega
  ·rename_i J;exact⟨by simpa using H,h3.1,h3.2,λx z=>⟨KU (by simpa using J) x z,_,KV h4 x z⟩,λx z=>⟨KU h1 x z,_,KV o x z⟩⟩
inductive KindS (d:Ds)(p:Pr)(s:S):Prop where
 |set {e:E} {u t:KB} (h:s.op=1) (he:s.es=[e]) (hv:Bz e=true) (ht:As d (Av d p) e=(u,0)) (hl:B0 (Av d p).vars s.s=t) (hne:t≠sE) (hf:BA d u t=true)
 |put {a e:E} {u w t:KB} (h:s.op=2) (he:s.es=[a,e]) (hv:Bz a=true) (hw:Bz e=true) (ha:As d (Av d p) a=(u,0)) (ht:As d (Av d p) e=(w,0)) (hl:Dz d u s.s=(t,0)) (hf:BA d w t=true)
 |cond {e:E} (h:s.op=3) (he:s.es=[e]) (hv:Bz e=true) (ht:As d (Av d p) e=(Au,0))
 |loop {e:E} (h:s.op=4) (he:s.es=[e]) (hv:Bz e=true) (ht:As d (Av d p) e=(Au,0))
 |ret0 (h:s.op=5) (he:s.es=[]) (hr:p.result=sE)
 |ret1 {e:E} {u:KB} (h:s.op=5) (he:s.es=[e]) (hv:Bz e=true) (ht:As d (Av d p) e=(u,0)) (hr:p.result≠sE) (hf:BA d u p.result=true)
 |call {e:E} {pr:Pr} {i:Nat} (h:s.op=6) (he:s.es=[e]) (hv:Bz e=true) (ho:e.op=7) (hc:CallK d (Av d p) e pr i)
theorem kindS{s:S}(h:Eu d p s):KindS d p s:=by
 obtain⟨h1,h2,h3,-⟩:=h.parts;unfold Ed at h1;unfold GL at h2;by_cases H:s.op=6
 ·rw[if_pos H]at h1;rw[if_neg (by omega),if_neg (by omega),if_neg (by omega),if_neg (by omega),if_neg (by omega),if_pos H]at h2;obtain⟨-,h4,I,-⟩:=of_decide_eq_true h2;obtain⟨e,he⟩:=list1 h4;rw[he]at h1 I;simp only at h1;split at h1;·omega
  ·rename_i W;obtain⟨z,O⟩:=KM d (Av d p) e.k [] (by simpa using W);rw[O,xp]at h1;obtain⟨pr,i,hc,-⟩:=callK_of (t:=(Er d e.s (e.k.map λx=>(As d (Av d p) x).1)).1) z (Prod.ext rfl h1);exact .call H he (h3 e (by rw[he];simp)) I hc
 rw[if_neg H]at h1;split at h1;·omega
 rename_i W;obtain⟨z,O⟩:=KM d (Av d p) s.es [] (by simpa using W);rw[O,xp]at h1;have ty:∀{e:E},e∈s.es->As d (Av d p) e=((As d (Av d p) e).1,0):=λhe=>BO rfl (z _ he);by_cases J:s.op=1
 ·rw[if_pos J]at h1;rw[if_pos J,zC]at h2;obtain⟨e,he⟩:=list1 (of_decide_eq_true h2.2).1;have hm:e∈s.es:=by rw[he];simp
  split at h1;·cases h1
  rename_i hne;split at h1
  ·rename_i hf;rw[he]at hf;exact .set J he (h3 e hm) (ty hm) rfl hne hf
  ·cases h1
 rw[if_neg J]at h1 h2;by_cases N:s.op=2
 ·rw[if_pos N]at h1;rw[if_pos N,zC]at h2;obtain⟨a,e,he⟩:=list2 (of_decide_eq_true h2.2).1;have hm:a∈s.es:=by rw[he];simp
  have o:e∈s.es:=by rw[he];simp
  split at h1;·omega
  rename_i h4;split at h1
  ·rename_i hf;rw[he]at hf h4;simp only[zG,xr,xq]at hf h4;exact .put N he (h3 a hm) (h3 e o) (ty hm) (ty o) (Prod.ext rfl (by simpa using h4)) hf
  ·cases h1
 rw[if_neg N]at h1 h2;by_cases Z:s.op=3
 ·rw[if_pos (.inl Z)]at h1;rw[if_pos Z]at h2;obtain⟨e,he⟩:=list1 (of_decide_eq_true h2).2;have hm:e∈s.es:=by rw[he];simp
  split at h1
  ·rename_i hf;rw[he]at hf;exact .cond Z he (h3 e hm) (BO hf (z e hm))
  ·cases h1
 rw[if_neg Z]at h2;by_cases Y:s.op=4
 ·rw[if_pos (.inr Y)]at h1;rw[if_pos Y]at h2;obtain⟨e,he⟩:=list1 (of_decide_eq_true h2).2.1;have hm:e∈s.es:=by rw[he];simp
  split at h1
  ·rename_i hf;rw[he]at hf;exact .loop Y he (h3 e hm) (BO hf (z e hm))
  ·cases h1
 rw[if_neg (by omega)]at h1;rw[if_neg Y]at h2;by_cases A:s.op=5
 ·rw[if_pos A]at h1 h2;obtain⟨-,hl,-⟩:=of_decide_eq_true h2;cases he:s.es with
  |nil=>
   rw[he]at h1;simp only[xu,xo,if_true]at h1;split at h1;·rename_i hr;exact .ret0 A he hr
   ·cases h1
  |cons e r=>
   have hr:r=[]:=by
    grind
   subst hr;have hm:e∈s.es:=by rw[he];simp
   rw[he]at h1;simp only[zG,xu,List.length_cons,xo,xr]at h1;rw[if_neg (by omega)]at h1;split at h1;·rename_i hf;exact .ret1 A he (h3 e hm) (ty hm) hf.1 hf.2
   ·cases h1
 simp_all
structure D0 (d:Ds)(p:Pr):Prop where
 body:∀s∈p.body,Eu d p s
 vars:∀f∈p.vars,Bq d f.ty=true
 res:p.result=sE∨Bq d p.result=true
 lens:p.params.length<=6/\p.locals.length<=12
theorem oneT_known{l:List Fld}{i:Nat}{f:Fld}(h:BT d l i f=0):Bq d f.ty=true:=by
 grind[BT]
theorem declT_known{l:List Fld}(h:CD d l=0):∀f∈l,Bq d f.ty=true:=by
 intro f hf;obtain⟨i,hi⟩:=xn.1 hf;unfold CD at h;cases o:Ar (λi f=>if BT d l i f≠0 then some (BT d l i f)else none) 0 l with
 |none=>
  grind[KO,oneT_known]
 |some b=>
  exfalso;rw[o]at h;simp only[Option.getD_some]at h;subst h;have key:∀(z:List Fld)(i:Nat),Ar (λi f=>if BT d l i f≠0 then some (BT d l i f)else none) i z≠some 0:=by
   intro z;induction z with
   |nil=>intro i h;cases h
   |cons x z H=>
    grind[Ar,BT]
  exact key l 0 o
theorem I1(hv:BC d=true)(hc:CS d=none):∀p∈d.procs,D0 d p:=by
 intro p hp;obtain⟨i,hi⟩:=xn.1 hp;unfold CS at hc;obtain⟨-,h⟩:=KP hc;obtain⟨N,h⟩:=KP h;obtain⟨-,h⟩:=KP h;obtain⟨hb,-⟩:=KP h;unfold Fi at N;unfold E4 at hb;have a1:=KO N i p hi;have a2:=KO hb i p hi;unfold BC at hv;simp only[zC,za]at hv;have z:=hv.1.2 p hp;unfold DO at z;simp only[zC]at z;obtain⟨⟨⟨⟨-,o⟩,f2⟩,-⟩,Z⟩:=z;unfold Dl at o f2;rw[zC,decide_eq_true_eq]at o f2;have Y:=o.1;have W:=f2.1;refine⟨λs H=>⟨?_,1,KV (of_decide_eq_true Z).1 s H⟩,?_,?_,by omega,by omega⟩;·grind[KU]
 ·split at a1;·cases a1
  split at a1;·cases a1
  rename_i J;have J:CD d (p.params++p.locals)=0:=by simpa using J
  exact declT_known J
 grind
end
end Go.Proofs
namespace Go.Proofs
open Go Go.Sx
section
variable{d:Ds}{F:Nat}
def Rx.st{α:Type}:Rx α->St|.ok _ s=>s|.bad _ s=>s
inductive LgOk:Nat->List (Int×Int×Int)->Nat->Prop where
 |nil (n:Nat):LgOk n [] n
 |acc {n m:Nat} {k a f:Int} {l:List (Int×Int×Int)} (hk:k=1∨k=2) (h0:0<=a) (h1:a<=(n:Int)) (h2:0<=f) (h:LgOk n l m):LgOk n ((k,a,f)::l) m
 |alloc {n m:Nat} {f:Int} {l:List (Int×Int×Int)} (h2:0<=f) (h:LgOk (n+1) l m):LgOk n ((3,(n:Int)+1,f)::l) m
theorem LgOk.app{n m k:Nat}{l z:List (Int×Int×Int)}(h:LgOk n l m)(o:LgOk m z k):LgOk n (l++z) k:=by
 induction h with
 |nil=>exact o
 |acc a b c d _ H=>grind[acc]
 |alloc a _ H=>exact .alloc a (H o)
abbrev Gm:=List Int×List (Int×List Int)
inductive Ev:Gm->List (Int×Int×Int)->Gm->Prop where
 |nil (x:Gm):Ev x [] x
 |rd {x y:Gm} {l:List (Int×Int×Int)} {n f:Int} (h:Ev x l y):Ev x ((1,n,f)::l) y
 |wg {g:List Int} {ns:List (Int×List Int)} {y:Gm} {l:List (Int×Int×Int)} {i:Nat} {v:Int} (hi:i<g.length) (h:Ev (g.set i v,ns) l y):Ev (g,ns) ((2,0,(i:Int))::l) y
 |wf {g:List Int} {ns:List (Int×List Int)} {y:Gm} {l:List (Int×Int×Int)} {k i:Nat} {ty v:Int} {f:List Int} (hk:ns[k]?=some (ty,f)) (hi:i<f.length) (h:Ev (g,ns.set k (ty,f.set i v)) l y):Ev (g,ns) ((2,(k:Int)+1,(i:Int))::l) y
 |al {g:List Int} {ns:List (Int×List Int)} {y:Gm} {l:List (Int×Int×Int)} {ty:Int} {n:Nat} (h:Ev (g,ns++[(ty,yI n 0)]) l y):Ev (g,ns) ((3,(ns.length:Int)+1,ty)::l) y
theorem Ev.app{x y z:Gm}{l H:List (Int×Int×Int)}(h:Ev x l y)(k:Ev y H z):Ev x (l++H) z:=by
 induction h with
 |nil=>exact k
 |rd _ o=>exact .rd (o k)
 |wg hi _ o=>exact .wg hi (o k)
 |wf hk hi _ o=>grind[wf]
 |al _ o=>exact .al (o k)
structure Gr (F n:Nat)(s s':St):Prop where
 ty:∀(i:Nat) x,s.ns[i]?=some x->∃y,s'.ns[i]?=some y/\y.1=x.1
 tk:s.tk<=s'.tk
 fu:s.tk<=F->s'.tk<=F
 lg:∃l,s'.lg=s.lg++l/\LgOk s.ns.length l s'.ns.length/\((∀a∈l,a.1=1)->s'.g=s.g/\s'.ns=s.ns)
 w:s'.lg.length+s'.cm+4000*s.tk<=s.lg.length+s.cm+n+4000*s'.tk
 tr:∃l,s'.lg=s.lg++l/\Ev (s.g,s.ns) l (s'.g,s'.ns)
theorem Gr.refl(s:St):Gr F 0 s s:=⟨λ_ x h=>⟨x,h,rfl⟩,yU _,λh=>h,⟨[],by simp,.nil _,λ_=>⟨rfl,rfl⟩⟩,by omega,⟨[],by simp,.nil _⟩⟩
theorem Gr.trans{n m:Nat}{a b c:St}(h:Gr F n a b)(k:Gr F m b c):Gr F (n+m) a c:=⟨λi x Z=>by
 obtain⟨y,h1,h2⟩:=h.ty i x Z;obtain⟨z,h3,h4⟩:=k.ty i y h1;simp_all,Nat.le_trans h.tk k.tk,λe=>k.fu (h.fu e),by
 obtain⟨l,Y,H,O⟩:=h.lg;obtain⟨J,N,o,W⟩:=k.lg;refine⟨l++J,by simp_all,H.app o,λha=>?_⟩;simp_all,by have:=h.w;have:=k.w;omega,by
 obtain⟨l,Y,H⟩:=h.tr;obtain⟨J,N,o⟩:=k.tr;exact⟨l++J,by simp_all,H.app o⟩⟩
theorem Gr.le{n m:Nat}{a b:St}(h:Gr F n a b)(hn:n<=m):Gr F m a b:=⟨h.ty,h.tk,h.fu,h.lg,by have:=h.w;omega,h.tr⟩
theorem Gr.len{n:Nat}{a b:St}(h:Gr F n a b):a.ns.length<=b.ns.length:=by
 cases hk:a.ns.length with
 |zero=>omega
 |succ k=>
  obtain⟨y,z,-⟩:=h.ty k _ (List.getElem?_eq_getElem (by omega));grind
theorem F9{s:St}{i:Nat}:s.mm.nodes[i]?=(s.ns[i]?).map λn=>⟨n.1,Aj,n.2⟩:=y4 ..
theorem I2{s:St}:s.mm.nodes.length=s.ns.length:=xm ..
theorem KW{m m':Mm}(hl:m.nodes.length<=m'.nodes.length)(hn:∀(i:Nat) x,m.nodes[i]?=some x->∃y,m'.nodes[i]?=some y/\y.ty=x.ty){t:KB}{v:Int}(h:AJ d m t v=true):AJ d m' t v=true:=by
 unfold AJ at h⊢;split;·simp_all
 rename_i h1;rw[if_neg h1]at h;split;·simp_all
 rename_i h2;rw[if_neg h2,decide_eq_true_eq]at h;refine decide_eq_true ?_;rcases h with h|⟨p1,p2,p3⟩;·exact .inl h
 ·refine .inr ⟨p1,by omega,?_⟩;cases z:m.nodes[(v-1).toNat]? with
  |none=>simp_all
  |some x=>
   rw[z]at p3;obtain⟨y,o,H⟩:=hn _ _ z;simp_all
theorem Gr.right{n:Nat}{a b:St}(h:Gr F n a b){t:KB}{v:Int}(hr:AJ d a.mm t v=true):AJ d b.mm t v=true:=by
 refine KW (m:=a.mm) (by rw[I2,I2];exact h.len) (λi x o=>?_) hr;rw[F9]at o;cases H:a.ns[i]? with
 |none=>simp_all
 |some y=>
  rw[H]at o;cases o;obtain⟨z,J,N⟩:=h.ty i y H;simp_all[Aj,F9]
theorem Gr.val{n:Nat}{a b:St}(h:Gr F n a b){t:KB}{v:Int}(hr:Cb d a.mm t v):Cb d b.mm t v:=by
 unfold Cb at hr⊢;split;·simp_all
 ·rename_i h1;rw[if_neg h1]at hr;exact h.right hr
theorem Cm{m:Mm}{l:List Fld}{vs:List Int}:Aw d m l vs=true↔l.length=vs.length/\∀(j:Nat) f v,l[j]?=some f->vs[j]?=some v->AJ d m f.ty v=true:=by
 unfold Aw;rw[zC,decide_eq_true_eq,GO];grind[tyAt]
theorem BQ{m m':Mm}(hr:∀{t v},AJ d m t v=true->AJ d m' t v=true){l:List Fld}{vs:List Int}(h:Aw d m l vs=true):Aw d m' l vs=true:=by
 grind[Cm]
theorem MG{m:Mm}{l:List Fld}{vs:List Int}(h:Aw d m l vs=true){i:Nat}{f:Fld}(hf:l[i]?=some f){v:Int}(hv:AJ d m f.ty v=true):Aw d m l (vs.set i v)=true:=by
 grind[Cm,xk]
theorem MH(hv:BC d=true){m:Mm}{t:KB}(h:Bq d t=true):AJ d m t 0=true:=by
 unfold Bq at h;simp only[yP,decide_eq_true_eq]at h;rcases h with(rfl|rfl)|h;·rfl
 ·rfl
 ·exact Oq (JK hv h)
theorem KY(hv:BC d=true){m:Mm}{l:List Fld}(h:∀f∈l,Bq d f.ty=true):Aw d m l (yI l.length 0)=true:=by
 grind[Cm,MH,xJ]
theorem JO{m:Mm}{l o:List Fld}{vs z:List Int}(h:Aw d m l vs=true)(H:Aw d m o z=true):Aw d m (l++o) (vs++z)=true:=by
 grind[Cm,zw,xj,List.getElem?_append_right]
theorem I3{m:Mm}(h1:Dn d=true)(h2:m.nodes.length<=4096)(h3:∀n∈m.nodes,Es d n=true)(h4:Aw d m d.globals m.globals=true)(z:∀n∈m.nodes,Aw d m (Bm d n.ty) n.f=true):Bs d m=true:=by
 grind[Bs]
structure AZ {α:Type}(d:Ds)(F n:Nat)(s:St)(r:Rx α)(Q:α->St->Prop):Prop where
 good:Am d r.st.mm
 gr:Gr F n s r.st
 q:∀v s',r=.ok v s'->Q v s'
section
variable{α β:Type}{n m:Nat}{s:St}{r:Rx α}{Q:α->St->Prop}
theorem AZ.ok{v:α}(G:Am d s.mm)(h:Q v s):AZ d F 0 s (.ok v s) Q:=⟨G,Gr.refl s,λ_ _ e=>by cases e;exact h⟩
theorem AZ.bad{c:Int}(G:Am d s.mm):AZ d F 0 s (.bad c s:Rx α) Q:=⟨G,Gr.refl s,λ_ _ e=>by cases e⟩
theorem AZ.le(h:AZ d F n s r Q)(hn:n<=m):AZ d F m s r Q:=⟨h.good,h.gr.le hn,h.q⟩
theorem AZ.mono{z:α->St->Prop}(h:AZ d F n s r Q)(k:∀v s',r=.ok v s'->Q v s'->z v s'):AZ d F n s r z:=⟨h.good,h.gr,λv s' e=>k v s' e (h.q v s' e)⟩
theorem AZ.bind{f:α->St->Rx β}{z:β->St->Prop}(h:AZ d F n s r Q)(k:∀v s',r=.ok v s'->Q v s'->Am d s'.mm->Gr F n s s'->AZ d F m s' (f v s') z):AZ d F (n+m) s (r.bind f) z:=by
 cases r with
 |ok v s'=>
  have H:=k v s' rfl (h.q v s' rfl) h.good h.gr;exact⟨H.good,h.gr.trans H.gr,H.q⟩
 |bad c s'=>exact⟨h.good,h.gr.le (by omega),λ_ _ e=>by cases e⟩
end
section
variable{s:St}(G:Am d s.mm)
include G
omit G in
theorem K0{n:Nat}{r:Rs}{s':St}(z:Am d s'.mm)(g:Gr F n s s'){Q:Int->St->Prop}(h:∀v,r=.ok v->Q v s'):AZ d F n s (DG r s') Q:=by
 cases r with
 |ok v=>exact⟨z,g,λ_ _ e=>by cases e;exact h v rfl⟩
 |bad c=>exact⟨z,g,λ_ _ e=>by cases e⟩
theorem H8{p:Pr}{vals:List Int}(hv:Aw d s.mm p.vars vals=true)(P:∀f∈p.vars,Bq d f.ty=true){nm t:KB}(hl:B0 (Av d p).vars nm=t)(hne:t≠sE):
  (∃(i:Nat)(f:Fld)(v:Int),Cs p.vars nm=i/\p.vars[i]?=some f/\vals[i]?=some v/\f.ty=t/\Cb d s.mm t v/\varX d p vals nm s=.ok v s)∨
  ∃(i:Nat)(f:Fld)(v:Int),Cs p.vars nm=-1/\Cs d.globals nm=i/\d.globals[i]?=some f/\s.g[i]?=some v/\f.ty=t/\Cb d s.mm t v/\varX d p vals nm s=.ok v (s.note (1,0,i)):=by
 obtain⟨p1,-,-,N,-⟩:=BD G.mem;have hl:B0 (p.vars++d.globals) nm=t:=hl;have app:∀(a b:List Fld),B0 (a++b) nm=if 0<=Cs a nm then B0 a nm else B0 b nm:=λa b=>by
  rw[JM,JM,JM,List.find?_append];unfold Cs;rcases CP (λf:Fld=>decide (f.name=nm)) a with⟨h1,h2,-⟩|⟨i,x,h1,-,h3,-⟩;·grind
  simp_all
 rw[app]at hl;by_cases h0:0<=Cs p.vars nm
 ·left;rw[if_pos h0]at hl;rcases JN p.vars nm with⟨H,-⟩|⟨i,f,H,c2,c3,-⟩;·simp_all
  ·obtain⟨v,z,o⟩:=KN hv c2;have e:f.ty=t:=c3.symm.trans hl;refine⟨i,f,v,H,c2,z,e,?_,?_⟩;·rw[<-e];exact(FZ G.valid (P f (xJ c2))).2 o
   grind[varX]
 ·right;rw[if_neg h0]at hl;rcases JN d.globals nm with⟨H,-⟩|⟨i,f,H,c2,c3,-⟩;·simp_all
  ·obtain⟨v,z,o⟩:=KN N c2;have e:f.ty=t:=c3.symm.trans hl;have J:Bq d f.ty=true:=za.1 (F7 p1).1 f (xJ c2);refine⟨i,f,v,?_,H,c2,z,e,?_,?_⟩
   ·rcases JN p.vars nm with⟨-,c⟩|⟨j,_,c,-⟩;·exact c
    omega
   ·rw[<-e];exact(FZ G.valid J).2 o
   ·unfold varX;rw[if_neg h0,H,xv];have z:s.g[i]?=some v:=z;rw[z];rfl
theorem I4{t nm ty:KB}(ht:Dz d t nm=(ty,0)){a:Int}(ha:Cb d s.mm t a)(h0:a≠0):
  ∃(q i j:Nat)(z:Ty)(f:Fld)(fs:List Int)(v:Int),a=(q:Int)+1/\s.ns[q]?=some ((j:Int),fs)/\d.types[j]?=some z/\z∈d.types/\Bm d j=z.fields/\Cs z.fields nm=i/\z.fields[i]?=some f/\fs[i]?=some v/\Cb d s.mm ty v/\f.ty=ty/\Bq d ty=true:=by
 obtain⟨n,i,j,z,f,v,b1,-,b3,W,Y,b6,b7,b8,b9,H,J,-,o⟩:=fld_ok G ht ha h0;obtain⟨q,rfl⟩:∃q:Nat,a=(q:Int)+1:=⟨(a-1).toNat,by omega⟩;rw[show((q:Int)+1-1).toNat=q by omega,F9]at b1;cases Z:s.ns[q]? with
 |none=>simp_all
 |some x=>
  rw[Z]at b1;cases b1;obtain⟨p1,-⟩:=BD G.mem;have N:Bq d f.ty=true:=za.1 ((F7 p1).2.2 z b7) f (xJ b9);exact⟨q,i,j,z,f,x.2,v,rfl,by rw[Z,<-Y],b6,b7,Ef b6 rfl,b8,b9,H,J,o,o▸N⟩
omit G in
theorem gr_note{a f:Int}(h0:0<=a)(h1:a<=(s.ns.length:Int))(h2:0<=f):Gr F 1 s (s.note (1,a,f)):=⟨λ_ x h=>⟨x,h,rfl⟩,yU _,λh=>h,⟨[(1,a,f)],rfl,.acc (.inl rfl) h0 h1 h2 (.nil _),λ_=>⟨rfl,rfl⟩⟩,by show(s.lg++[_]).length+_+_<=_;rw[zw,xi];show s.lg.length+1+s.cm+4000*s.tk<=s.lg.length+s.cm+1+4000*s.tk;omega,⟨[(1,a,f)],rfl,.rd (.nil _)⟩⟩
omit G in
theorem gr_cnt{b:Bool}{op:Int}:Gr F 1 s (DC b op s):=by
 unfold DC;split;·exact⟨λ_ x h=>⟨x,h,rfl⟩,yU _,λh=>h,⟨[],by simp,.nil _,λ_=>⟨rfl,rfl⟩⟩,by grind,⟨[],by simp,.nil _⟩⟩
 ·exact(Gr.refl s).le (by omega)
theorem MI{b:Bool}{op:Int}:Am d (DC b op s).mm:=by
 unfold DC;split;·exact⟨G.valid,G.chk,G.mem⟩
 ·exact G
theorem new_snd{nm:KB}(hn:Ci d nm=true):AZ d F 1 s (newX d nm s) λv s'=>Cb d s'.mm nm v:=by
 unfold newX;split;·exact(AZ.bad G).le (by omega)
 rename_i A;obtain⟨p1,X,p3,I,M⟩:=BD G.mem;have z:=JK G.valid hn;obtain⟨J,Z,N⟩:=List.any_eq_true.1 hn;have N:J.name=nm:=of_decide_eq_true N;obtain⟨j,O⟩:=xn.1 Z;have Y:Bx d nm=(j:Int):=N▸(F7 p1).2.1 j J O;have L:=(yw.1 O).1;rw[Y];have W:Bm d (j:Int)=J.fields:=Ef O rfl;rw[W];obtain⟨s',H⟩:∃s':St,s'={s with ns:=s.ns++[((j:Int),yI J.fields.length 0)],lg:=s.lg++[(3,(s.ns.length:Int)+1,(j:Int))]}:=⟨_,rfl⟩;rw[<-H];have g:Gr F 1 s s':=by
  rw[H];refine⟨λi x B=>⟨x,?_,rfl⟩,yU _,λh=>h,⟨[_],rfl,.alloc (by omega) ?_,λh=>(by simp_all)⟩,?_,⟨[_],rfl,.al (.nil _)⟩⟩;·grind
  ·grind[LgOk,zw,xi]
  grind
 have o:s'.mm.nodes=s.mm.nodes++[⟨(j:Int),Aj,yI J.fields.length 0⟩]:=by rw[H];simp[St.mm]
 have R:Am d s'.mm:=by
  refine⟨G.valid,G.chk,I3 p1 ?_ (λn hm=>?_) ?_ λn hm=>?_⟩;·grind[zw,xi,I2]
  ·rw[o]at hm;rcases xh.1 hm with hm|hm;·exact p3 n hm
   ·rw[zO.1 hm];exact decide_eq_true ⟨by simp_all,by simp_all⟩
  ·have:s'.mm.globals=s.mm.globals:=by rw[H];rfl
   rw[this];exact BQ (λh=>g.right h) I
  ·rw[o]at hm;rcases xh.1 hm with hm|hm;·exact BQ (λh=>g.right h) (M n hm)
   ·rw[zO.1 hm];show Aw d s'.mm (Bm d (j:Int)) (yI J.fields.length 0)=true;rw[W];exact KY G.valid λf hf=>za.1 ((F7 p1).2.2 J Z) f hf
 refine⟨R,g,λv D e=>?_⟩;cases e;unfold Cb AJ;rw[if_neg (GP z kwNil),if_neg (GP z kwInt),if_neg (GP z kwBool),decide_eq_true_eq];grind[inr,zw,xi,I2,Int,List.getElem?_concat_length]
end
def CSnd(d:Ds)(F:Nat)(C:Cf):Prop:=∀(i:Nat) pr args s,d.procs[i]?=some pr->Am d s.mm->Aw d s.mm pr.params args=true->AZ d F 0 s (C i args s) λv s'=>pr.result≠sE->Cb d s'.mm pr.result v
theorem szEs_sum:∀l:List E,szEs l=(l.map AB).sum
 |[]=>by unfold szEs;rfl
 |e::l=>by unfold szEs;rw[szEs_sum l];rfl
theorem szE_eq(e:E):AB e=1+(e.k.map AB).sum:=by cases e;unfold AB;rw[szEs_sum];rfl
theorem seq_snd{sc:Sc}{f:E->St->Rx Int}:∀(k:List E)(fs:List Fld)(acc:List Int)(gs:List Fld)(s:St),Am d s.mm->Aw d s.mm gs acc=true->k.length=fs.length->(∀f∈fs,Bq d f.ty=true)->
  (∀(j:Nat) a g,k[j]?=some a->fs[j]?=some g->∃u,As d sc a=(u,0)/\BA d u g.ty=true)->
  (∀a∈k,∀(u:KB)(z:St)(n:Nat),As d sc a=(u,0)->Am d z.mm->Gr F n s z->AZ d F (AB a) z (f a z) λv s'=>Cb d s'.mm u v)->
  AZ d F (k.map AB).sum s (Dd (k.map f) acc s) λl s'=>Aw d s'.mm (gs++fs) l=true
 |[],fs,acc,gs,s,G,ha,hl,_,_,_=>by
  obtain rfl:fs=[]:=List.eq_nil_of_length_eq_zero (by grind);rw[List.append_nil];exact AZ.ok G ha
 |a::k,fs,acc,gs,s,G,ha,hl,o,ht,H=>by
  cases fs with
  |nil=>simp at hl
  |cons g fs=>
   obtain⟨u,hu,J⟩:=ht 0 a g rfl rfl;have h1:=H a zc u s 0 hu G (Gr.refl s);rw[zG,zG,List.sum_cons];show AZ d F _ s ((f a s).bind λv st=>Dd (k.map f) (acc++[v]) st) _;refine h1.bind λv z _ hv Y Z=>?_;have W:=(FZ G.valid (o g zc)).1 (Ht G.valid J hv);have N:Aw d z.mm (gs++[g]) (acc++[v])=true:=JO (BQ (λh=>Z.right h) ha) (Cm.2 ⟨rfl,λj f w hf hw=>by
    grind⟩)
   have:=seq_snd k fs (acc++[v]) (gs++[g]) z Y N (by simpa using hl) (λf hf=>o f (zb _ hf)) (λj a g ha O=>ht (j+1) a g (by simpa using ha) (by simpa using O)) (λb hb u A n hu I M=>H b (zb _ hb) u A _ hu I (Z.trans M));simp_all
theorem K1(hp:∀p∈d.procs,D0 d p){i:Nat}{pr:Pr}(h:d.procs[i]?=some pr):∀f∈pr.params,Bq d f.ty=true:=λf hf=>(hp pr (xJ h)).vars f (List.mem_append_left _ hf)
theorem I5(hp:∀p∈d.procs,D0 d p){C:Cf}(X:CSnd d F C){p:Pr}(hpo:D0 d p){vals:List Int}:
  ∀(e:E)(t:KB)(s:St),VE e->As d (Av d p) e=(t,0)->Am d s.mm->Aw d s.mm p.vars vals=true->AZ d F (AB e) s (C0 d C p vals e s) λv s'=>Cb d s'.mm t v:=by
 intro e;induction e using E.ind with
 |h e B=>
 intro t s hv ht G Z;rw[IX,szE_eq];have I:∀{a:E}{u:KB}{N:St}{n:Nat},a∈e.k->As d (Av d p) a=(u,0)->Am d N.mm->Gr F n s N->AZ d F (AB a) N (C0 d C p vals a N) λv s'=>Cb d s'.mm u v:=λhm ha o J=>B _ hm _ _ (hv.kids _ hm) ha o (BQ (λh=>J.right h) Z);have K:∀{i:Nat}{a:E},e.k[i]?=some a->BL (e.k.map (C0 d C p vals)) i=C0 d C p vals a:=λh=>KR h;have b0:∀{v:Int},v=0∨v=1->Cb d s.mm Au v:=λh=>E6.2 h;cases kindX (sc:=Av d p) rfl hv ht with
 |int h hn=>rw[IZ (.inl h)];exact(AZ.ok G (EI.2 (by omega))).le (by omega)
 |bool h hn=>rw[IZ (.inr h)];exact(AZ.ok G (E6.2 (by omega))).le (by omega)
 |nil h hn=>rw[MD h];exact(AZ.ok G (by rfl)).le (by omega)
 |var h hl hne=>
  rw[ME h];rcases H8 G Z hpo.vars hl hne with⟨i,f,v,-,-,-,-,W,O⟩|⟨i,f,v,-,-,-,-,-,W,O⟩;·rw[O];exact(AZ.ok G W).le (by omega)
  ·rw[O];exact⟨⟨G.valid,G.chk,G.mem⟩,(gr_note (by omega) (by omega) (by omega)).le (by omega),λ_ _ e=>by cases e;exact W⟩
 |@fld _ u a h hk ha hf=>
  rw[KS h,K (i:=0) (by rw[hk];rfl),hk];refine((I (by rw[hk];simp) ha G (Gr.refl s)).bind (m:=1) λv N _ H o J=>?_).le (by simp<;>omega);unfold fldX;by_cases h0:v=0;·rw[if_pos h0];exact(AZ.bad o).le (by omega)
  ·rw[if_neg h0];obtain⟨q,i,j,U,f,fs,w,rfl,h2,h3,-,W,O,h7,D,T,-⟩:=I4 o hf H h0;rw[show((q:Int)+1-1).toNat=q by omega,h2];simp only;rw[W,O,xv,D];exact⟨⟨o.valid,o.chk,o.mem⟩,gr_note (by omega) (by grind) (by omega),λ_ _ e=>by cases e;exact T⟩
 |new h hn=>rw[MF h];exact(new_snd G hn).le (by omega)
 |@call pr i h hc hr=>
  rw[I0 h,hc.idx];refine((seq_snd e.k pr.params [] [] s G (Cm.2 ⟨rfl,λj f v h=>by simp at h⟩) hc.len (K1 hp hc.at_) hc.fit (λa hm u N n hu o J=>I hm hu o J)).bind (m:=0) λl N _ hl o J=>?_).le (by omega);exact(X i pr l N hc.at_ o hl).mono λv s' _ h=>h hr
 |@neg a h hk ha=>
  rw[KT h,K (i:=0) (by rw[hk];rfl),hk];refine((I (by rw[hk];simp) ha G (Gr.refl s)).bind (m:=0) λv N _ H o J=>K0 o (Gr.refl N) λw hw=>EI.2 (big_ok hw).2).le (by simp<;>omega)
 |@not a h hk ha=>
  rw[cX18 h,K (i:=0) (by rw[hk];rfl),hk];refine((I (by rw[hk];simp) ha G (Gr.refl s)).bind (m:=0) λv N _ H o J=>AZ.ok o ?_).le (by simp<;>omega);grind[E6]
 |@log a h hk ha=>
  rw[cX24 h,K (i:=0) (by rw[hk];rfl),hk];refine((I (by rw[hk];simp) ha G (Gr.refl s)).bind (m:=0) λv N _ H o J=>AZ.ok o ?_).le (by simp<;>omega);have:=log_in (a:=v) (EI.1 H).2;exact EI.2 (by omega)
 |@and a b h hk ha hb=>
  rw[cX19 h,K (i:=0) (by rw[hk];rfl),K (i:=1) (by rw[hk];rfl)];refine((I (by rw[hk];simp) ha G (Gr.refl s)).bind (m:=AB b) λv N _ H o J=>?_).le (by simp_all);split;·exact(AZ.ok o (E6.2 (.inl rfl))).le (by omega)
  grind
 |@or a b h hk ha hb=>
  rw[cX20 h,K (i:=0) (by rw[hk];rfl),K (i:=1) (by rw[hk];rfl)];refine((I (by rw[hk];simp) ha G (Gr.refl s)).bind (m:=AB b) λv N _ H o J=>?_).le (by simp_all);split;·grind
  ·exact(AZ.ok o (E6.2 (.inr rfl))).le (by omega)
 |@cond a b c _ u w h hk ha hb hc hu hw _=>
  rw[cX21 h,K (i:=0) (by rw[hk];rfl),K (i:=1) (by rw[hk];rfl),K (i:=2) (by rw[hk];rfl)];refine((I (by rw[hk];simp) ha G (Gr.refl s)).bind (m:=AB b+AB c) λv N _ H o J=>?_).le (by simp_all);split
  ·exact((I (by rw[hk];simp) hc o J).mono λv s' _ h=>by
    rcases hw with rfl|hw;·exact h
    ·exact Ht G.valid hw h).le (by omega)
  ·exact((I (by rw[hk];simp) hb o J).mono λv s' _ h=>by
    rcases hu with rfl|hu;·exact h
    ·exact Ht G.valid hu h).le (by omega)
 |@eq a b u w h hk ha hb _=>
  rw[F8 (by omega),K (i:=0) (by rw[hk];rfl),K (i:=1) (by rw[hk];rfl)];refine((I (by rw[hk];simp) ha G (Gr.refl s)).bind (m:=AB b+1) λv N _ H o J=>(I (by rw[hk];simp) hb o J).bind (m:=1) λz L _ Y A R=>K0 (MI A) gr_cnt λx M=>E6.2 (twoB_ok (by omega) M)).le (by grind)
 |@cmp a b h hk ha hb=>
  rw[F8 (by omega),K (i:=0) (by rw[hk];rfl),K (i:=1) (by rw[hk];rfl)];refine((I (by rw[hk];simp) ha G (Gr.refl s)).bind (m:=AB b+1) λv N _ H o J=>(I (by rw[hk];simp) hb o J).bind (m:=1) λz L _ Y A R=>K0 (MI A) gr_cnt λx M=>E6.2 (twoB_ok (by omega) M)).le (by grind)
 |@ari a b h hk ha hb=>
  rw[F8 (by omega),K (i:=0) (by rw[hk];rfl),K (i:=1) (by rw[hk];rfl)];refine((I (by rw[hk];simp) ha G (Gr.refl s)).bind (m:=AB b+1) λv N _ H o J=>(I (by rw[hk];simp) hb o J).bind (m:=1) λz L _ Y A R=>K0 (MI A) gr_cnt λx M=>EI.2 (two_ok h (EI.1 H) (EI.1 Y) M)).le (by grind)
end
end Go.Proofs
namespace Go.Proofs
open Go Go.Sx
section
variable{d:Ds}{F:Nat}
theorem GR{e:E}(h:Bz e=true):VE e/\AB e<=1000:=⟨VE.of_valid h,(of_decide_eq_true h).2⟩
def RtOk(d:Ds)(p:Pr)(r:Rt)(s:St):Prop:=Aw d s.mm p.vars r.1=true/\∀v,r.2=some v->p.result≠sE->Cb d s.mm p.result v
def SSnd(d:Ds)(F:Nat)(Sn:Sf):Prop:=∀c p l vals s,D0 d p->(∀x∈l,Eu d p x)->Am d s.mm->Aw d s.mm p.vars vals=true->AZ d F 0 s (Sn c p l vals s) λr s'=>RtOk d p r s'
theorem H9(hp:∀p∈d.procs,D0 d p){Sn:Sf}(hS:SSnd d F Sn)(c:Nat):CSnd d F (CA d Sn c):=by
 intro i pr args s z G ha;unfold CA;split;·exact AZ.bad G
 rw[xv,z];simp only;have hpo:=hp pr (xJ z);refine(hS (c+1) pr pr.body _ s hpo hpo.body G (JO ha (KY G.valid λf hf=>hpo.vars f (List.mem_append_right _ hf)))).bind (m:=0) λr H _ hr o J=>AZ.ok o λhne=>?_;cases h:r.2 with
 |some v=>exact hr.2 v h hne
 |none=>
  have hk:=hpo.res.resolve_left hne;exact(FZ G.valid hk).2 (MH G.valid hk)
theorem Gr.tick{n:Nat}{s s':St}(h:Gr F n {s with tk:=s.tk+1} s')(hn:n<=4000)(z:s.tk<F):Gr F 0 s s':=
 ⟨h.ty,Nat.le_trans (Nat.le_succ _) h.tk,λ_=>h.fu z,h.lg,by have h:=h.w;grind,h.tr⟩
theorem AZ.tick{α:Type}{n:Nat}{s:St}{f:Unit->St->Rx α}{Q:α->St->Prop}(G:Am d s.mm)(h:Am d ({s with tk:=s.tk+1}:St).mm->AZ d F n {s with tk:=s.tk+1} (f () {s with tk:=s.tk+1}) Q)(hn:n<=4000):AZ d F 0 s ((EV F s).bind f) Q:=by
 unfold EV;split;·exact AZ.bad G
 ·rename_i z;have H:=h ⟨G.valid,G.chk,G.mem⟩;exact⟨H.good,H.gr.tick hn (by omega),H.q⟩
section
variable{Sn:Sf}{c:Nat}{p:Pr}(hp:∀p∈d.procs,D0 d p)(hS:SSnd d F Sn)(hpo:D0 d p)
include hp hS hpo
theorem GS{vals:List Int}{e:E}{t:KB}{s:St}(hv:Bz e=true)(ht:As d (Av d p) e=(t,0))(G:Am d s.mm)(z:Aw d s.mm p.vars vals=true):AZ d F 1000 s (CT d Sn c p vals e s) λv s'=>Cb d s'.mm t v:=
 (I5 hp (H9 hp hS c) hpo e t s (GR hv).1 ht G z).le (GR hv).2
theorem wh_snd{cond:E}{body:List S}(hv:Bz cond=true)(ht:As d (Av d p) cond=(Au,0))(hb:∀x∈body,Eu d p x):∀(n:Nat)(vals:List Int)(s:St),Am d s.mm->Aw d s.mm p.vars vals=true->AZ d F 1000 s (DY d F Sn c p cond body n vals s) λr s'=>RtOk d p r s'
 |0,vals,s,G,_=>by unfold DY;exact(AZ.bad G).le (by omega)
 |n+1,vals,s,G,z=>by
  rw[DY];refine((GS hp hS hpo hv ht G z).bind (m:=0) λv N _ _ o Z=>?_).le (by omega);have H:=BQ (λh=>Z.right h) z;split;·exact AZ.ok o ⟨H,λ_ h=>by cases h⟩
  ·refine((hS c p body vals N hpo hb o H).bind (m:=0) λr W _ hr J O=>?_).le (by omega);split;·exact AZ.ok J hr
   ·exact AZ.tick (n:=1000) J (λY=>wh_snd hv ht hb n r.1 _ Y hr.1) (by omega)
theorem body_snd{n:Nat}{x:S}(M:Eu d p x){vals:List Int}{s:St}(G:Am d s.mm)(z:Aw d s.mm p.vars vals=true):AZ d F 2001 s (EJ d F Sn c p n x vals s) λr s'=>RtOk d p r s':=by
 unfold EJ;obtain⟨p1,p2,p3,p4,p5⟩:=BD G.mem;cases kindS M with
 |@set e u t h he hv ht hl hne hf=>
  rw[if_pos h,he,xr];refine((GS hp hS hpo hv ht G z).bind (m:=1) λv o _ J H N=>?_).le (by omega);have Y:=BQ (λh=>N.right h) z;have W:=Ht G.valid hf J;unfold setX;rcases H8 H Y hpo.vars hl hne with⟨i,f,w,q1,L,q3,q4,-⟩|⟨i,f,w,q0,q1,L,q3,q4,-⟩
  ·rw[if_pos (by omega),q1,xv];have hr:AJ d o.mm f.ty v=true:=(FZ G.valid (hpo.vars f (xJ L))).1 (q4▸W);exact(AZ.ok H ⟨MG Y L hr,λ_ h=>by cases h⟩).le (by omega)
  ·rw[if_neg (by omega),q1,xv];obtain⟨T,o2,U,o4,o5⟩:=BD H.mem;have hr:AJ d o.mm f.ty v=true:=(FZ G.valid (za.1 (F7 T).1 f (xJ L))).1 (q4▸W);have A:Am d ({o with g:=o.g.set i v,lg:=o.lg++[(2,0,(i:Int))]}:St).mm:=⟨G.valid,G.chk,I3 T o2 U (MG (m:=o.mm) (vs:=o.g) o4 L hr) o5⟩;exact⟨A,⟨λ_ x h=>⟨x,h,rfl⟩,yU _,λh=>h,⟨[_],rfl,.acc (.inr rfl) (by omega) (by omega) (by omega) (.nil _),λh=>(by simp_all)⟩,by show(o.lg++[_]).length+_+_<=_;rw[zw,xi];show o.lg.length+1+o.cm+4000*o.tk<=o.lg.length+o.cm+1+4000*o.tk;omega,⟨[_],rfl,.wg (yw.1 q3).1 (.nil _)⟩⟩,λ_ _ e=>by cases e;exact⟨Y,λ_ h=>by cases h⟩⟩
 |@put a e u w t h he hv hw ha ht hl hf=>
  rw[if_neg (by omega),if_pos h,he,xr,xq,xr];refine((GS hp hS hpo hv ha G z).bind (m:=1001) λx1 o _ J H N=>?_).le (by omega);have Y:=BQ (λh=>N.right h) z;refine((GS hp hS hpo hw ht H Y).bind (m:=1) λx2 Z _ W A g2=>?_).le (by omega);have v2:=BQ (λh=>g2.right h) Y;have ha2:=g2.val J;unfold putX;by_cases h0:x1=0;·rw[if_pos h0];exact(AZ.bad A).le (by omega)
  rw[if_neg h0];obtain⟨q,i,j,tt,f,fs,y,rfl,X,e3,e4,e5,e6,e7,e8,e9,B,e11⟩:=I4 A hl ha2 h0;rw[show((q:Int)+1-1).toNat=q by omega,X];simp only;rw[e5,e6,xv];obtain⟨T,o2,U,o4,o5⟩:=BD A.mem;have hr:AJ d Z.mm f.ty x2=true:=(FZ G.valid (B▸e11)).1 (B▸Ht G.valid hf W);have hql:=(yw.1 X).1;obtain⟨I,O⟩:∃I:St,I={Z with ns:=Z.ns.set q ((j:Int),fs.set i x2),lg:=Z.lg++[(2,(q:Int)+1,(i:Int))]}:=⟨_,rfl⟩;have D:Gr F 1 Z I:=by
   rw[O];refine⟨λk x hk=>?_,yU _,λh=>h,⟨[_],rfl,.acc (.inr rfl) (by omega) (by omega) (by omega) ?_,λh=>(by simp_all)⟩,?_,⟨[_],rfl,.wf X (yw.1 e8).1 (.nil _)⟩⟩;·grind
   ·grind[LgOk,xk]
   grind
  have K:I.mm.nodes=Z.mm.nodes.set q ⟨(j:Int),Aj,fs.set i x2⟩:=by rw[O];simp[St.mm,xg]
  have G3:Am d I.mm:=by
   refine⟨G.valid,G.chk,I3 T ?_ (λn hm=>?_) ?_ λn hm=>?_⟩;·simp_all
   ·rw[K]at hm;rcases xf hm with hm|rfl;·exact U n hm
    ·exact U (⟨(j:Int),Aj,fs⟩) (xJ (i:=q) (by rw[F9,X];rfl))
   ·have:I.mm.globals=Z.mm.globals:=by rw[O];rfl
    rw[this];exact BQ (λh=>D.right h) o4
   ·rw[K]at hm;rcases xf hm with hm|rfl;·exact BQ (λh=>D.right h) (o5 n hm)
    ·have:=o5 (⟨(j:Int),Aj,fs⟩) (xJ (i:=q) (by rw[F9,X];rfl));have this:Aw d Z.mm (Bm d (j:Int)) fs=true:=this;show Aw d I.mm (Bm d (j:Int)) (fs.set i x2)=true;rw[e5]at this⊢;exact BQ (λh=>D.right h) (MG this e7 hr)
  rw[<-O];exact⟨G3,D,λ_ _ e=>by cases e;exact⟨BQ (λh=>D.right h) v2,λ_ h=>by cases h⟩⟩
 |@cond e h he hv ht=>
  rw[if_neg (by omega),if_neg (by omega),if_pos h,he,xr];refine((GS hp hS hpo hv ht G z).bind (m:=0) λv o _ J H N=>?_).le (by omega);have Y:=BQ (λh=>N.right h) z;obtain⟨-,-,-,hl,M⟩:=M.parts;split;·exact hS c p _ vals o hpo M H Y
  ·exact hS c p _ vals o hpo hl H Y
 |@loop e h he hv ht=>
  rw[if_neg (by omega),if_neg (by omega),if_neg (by omega),if_pos h,he,xr];exact(wh_snd hp hS hpo hv ht M.parts.2.2.2.1 n vals s G z).le (by omega)
 |ret0 h he hr=>
  rw[if_neg (by omega),if_neg (by omega),if_neg (by omega),if_neg (by omega),if_pos h,he];exact(AZ.ok G ⟨z,λ_ _ k=>absurd hr k⟩).le (by omega)
 |@ret1 e u h he hv ht hr hf=>
  rw[if_neg (by omega),if_neg (by omega),if_neg (by omega),if_neg (by omega),if_pos h,he];refine((GS hp hS hpo hv ht G z).bind (m:=0) λv o _ J H N=>?_).le (by omega);exact AZ.ok H ⟨BQ (λh=>N.right h) z,λw h _=>by cases h;exact Ht G.valid hf J⟩
 |@call e pr i h he hv ho hc=>
  rw[if_neg (by omega),if_neg (by omega),if_neg (by omega),if_neg (by omega),if_neg (by omega),if_pos h,he,xr];unfold CT;rw[IX,I0 ho,hc.idx];have hV:=(GR hv).1;have hsz:=(GR hv).2;rw[szE_eq]at hsz;refine(((seq_snd e.k pr.params [] [] s G (Cm.2 ⟨rfl,λj f v h=>by simp at h⟩) hc.len (K1 hp hc.at_) hc.fit (λa hm u o n hu H N=>I5 hp (H9 hp hS c) hpo a u o (hV.kids a hm) hu H (BQ (λh=>N.right h) z))).bind (m:=0) λl o _ hl H N=>?_).bind (m:=0) (Q:=λ_ s'=>Aw d s'.mm p.vars vals=true) λ_ Z _ hq A g2=>AZ.ok A ⟨hq,λ_ h=>by cases h⟩).le (by omega);have R:=H9 hp hS c i pr l o hc.at_ H hl;refine⟨R.good,R.gr,λv Z e=>?_⟩;have:=BQ (λh=>R.gr.right h) (BQ (λh=>N.right h) z);rw[e]at this;exact this
theorem st_snd{n:Nat}{x:S}(o:Eu d p x){vals:List Int}{s:St}(G:Am d s.mm)(z:Aw d s.mm p.vars vals=true):AZ d F 0 s (DH d F Sn c p n x vals s) λr s'=>RtOk d p r s':=by
 unfold DH;exact AZ.tick (n:=2001) G (λH=>body_snd hp hS hpo o H z) (by omega)
end
theorem list_snd{p:Pr}{f:S->List Int->St->Rx Rt}:∀(l:List S)(vals:List Int)(s:St),(∀x∈l,∀vals s,Am d s.mm->Aw d s.mm p.vars vals=true->AZ d F 0 s (f x vals s) λr s'=>RtOk d p r s')->Am d s.mm->Aw d s.mm p.vars vals=true->AZ d F 0 s (DR f l vals s) λr s'=>RtOk d p r s'
 |[],vals,s,_,G,hv=>by unfold DR;exact AZ.ok G ⟨hv,λ_ h=>by cases h⟩
 |x::l,vals,s,H,G,hv=>by
  rw[DR];refine(H x zc vals s G hv).bind (m:=0) λr o _ hr z N=>?_;split;·exact AZ.ok z hr
  ·exact list_snd l r.1 o (λy J=>H y (zb _ J)) z hr.1
theorem Ga(hp:∀p∈d.procs,D0 d p):∀n,SSnd d F (A9 d F n)
 |0=>λ_ _ _ _ _ _ _ G _=>AZ.bad G
 |n+1=>λc p l vals s hpo hl G hv=>list_snd l vals s (λ_ z _ _ G hv=>st_snd hp (Ga hp n) hpo (hl _ z) G hv) G hv
theorem K2(hp:∀p∈d.procs,D0 d p){i:Nat}{pr:Pr}{args:List Int}{s:St}(h:d.procs[i]?=some pr)(G:Am d s.mm)(ha:Aw d s.mm pr.params args=true):AZ d F 0 s (BP d F i args s) λv s'=>pr.result≠sE->Cb d s'.mm pr.result v:=
 H9 hp (Ga hp (F+1)) 0 i pr args s h G ha
end
end Go.Proofs
namespace Go.Sx
open Go
open Classical
section
variable{P:Program}{V0 V1 V:Mem}{e:TypeId}{sz:Nat}{s:Sl}{vs:List Value}
def Bh(s:Sl)(c:Nat):Prop:=s.c≠0/\s.p=some ⟨c,0,none⟩
noncomputable def Mem.but(V:Mem)(s:Sl):Mem:=λc=>if Bh s c then none else V c
theorem Mem.but_sub(V:Mem)(s:Sl):(V.but s).sub V:=λc o h=>by
 grind[Mem.but]
theorem Mem.but_at{c:Nat}{o:Obj}(h:V c=some o)(hn:¬Bh s c):V.but s c=some o:=by
 grind[Mem.but]
theorem Own.cases0(h:Own V0 V e sz s vs):(s.n=0/\s.c=0/\vs=[])∨(s.c≠0/\∃g z,s.p=some ⟨g,0,none⟩/\V0 g=none/\V g=some (.cells z e (0,0))/\s.n<=s.c/\s.c<=maxLen/\z.size=s.c*sz/\z.toList.take (s.n*sz)=vs):=by
 rcases h.at_ with h1|⟨g,z,h1,h2,h3,h4,o⟩;·exact .inl h1
 ·by_cases hc:s.c=0;·simp_all
  simp_all
theorem Own.but(h:Own V0 V e sz s vs):Own (V.but s) V e sz s vs:=by
 refine⟨Mem.but_sub V s,h.len,?_⟩;rcases h.cases0 with h1|⟨hc,g,cur,h1,h2,h3⟩;·exact .inl h1
 ·refine .inr ⟨g,cur,h1,?_,h3⟩;unfold Mem.but;rw[if_pos ⟨hc,h1⟩]
theorem Own.apart(h:Own V0 V e sz s vs){c:Nat}(hc:∀z,V c≠some (.cells z e (0,0))):¬Bh s c:=by
 rintro⟨h0,hp⟩;rcases h.cases0 with⟨-,h1,-⟩|⟨-,g,z,h1,h2,h3,-⟩;·exact h0 h1
 simp_all
theorem Own.apart0(h:Own V0 V e sz s vs){c:Nat}{o:Obj}(hc:V0 c=some o):¬Bh s c:=by
 rintro⟨h0,hp⟩;rcases h.cases0 with⟨-,h1,-⟩|⟨-,g,cur,h1,h2,-⟩;·exact h0 h1
 simp_all
theorem Own.apartN(h:Own V0 V e sz s vs){c:Nat}(hc:V c=none):¬Bh s c:=h.apart λz=>by rw[hc];nofun
theorem Own.sub_but(h:Own V0 V e sz s vs):V0.sub (V.but s):=λ_ _ hc=>Mem.but_at (h.sub _ _ hc) (h.apart0 hc)
theorem Own.narrow(h:Own V1 V e sz s vs)(z:V0.sub V1):Own V0 V e sz s vs:=⟨z.trans h.sub,h.len,by
 rcases h.at_ with h1|⟨g,cur,h1,h2,h3⟩;·exact .inl h1
 ·refine .inr ⟨g,cur,h1,?_,h3⟩;cases H:V0 g with
  |none=>rfl
  |some o=>rw[z _ _ H]at h2;cases h2⟩
theorem Own.put(h:Own V0 V e sz s vs){c:Nat}(hn:¬Bh s c)(h0:V0 c=none)(o:Obj):Own V0 (V.set c o) e sz s vs:=⟨h.sub.set h0 o,h.len,by
 rcases h.cases0 with h1|⟨hc,g,cur,h1,h2,h3,h4⟩;·exact .inl h1
 ·refine .inr ⟨g,cur,h1,h2,?_,h4⟩;rw[Mem.set_ne λe=>hn ⟨hc,by simp_all⟩];exact h3⟩
theorem Ot(k:Int):∀(es:List MapEntry)(i:Nat),(∀e∈es,∃n,e.key=.int .i64 n)->
  yn (.int .i64) (.int .i64 k) es i=some ((es.findIdx? λe=>decide (e.key=.int .i64 k)).bind λj=>(es[j]?).map λe=>(i+j,e.val))
 |[],_,_=>rfl
 |e::es,i,h=>by
  obtain⟨s,o⟩:=h e (by simp);have H:=Ot k es (i+1) λx J=>h x (by simp[J]);unfold yn;simp only[o,Instr.sameNow,List.findIdx?_cons];by_cases hk:k=s;·grind
  ·have z:¬s=k:=λe=>hk e.symm;simp only[H];have hb:(k==s)=false:=by simpa using hk
   cases N:List.findIdx? (λe=>decide (e.key=xe .i64 k)) es with
   |none=>simp[z,hb]
   |some j=>grind
theorem I6{kt:TypeId}(hk:P.underlying kt=some (.int .i64)):KeyOf P kt (xe .i64) where
 inj:=λa b h=>by cases h;rfl
 find:=λa es w h=>by
  simp_all[Instr.findKey,Sem.run_bind,run_underlying,zL,Ot,Nat.zero_add]
 check:=λb a w=>by
  unfold Instr.checkKey;simp_all[Sem.run_bind,run_underlying,zL]
 stays:=λa w=>by
  have h:xd 10000 (.int .i64 a) (.int .i64 a)=true:=by
   rw[show(10000:Nat)=9999+1 from rfl];simp[xd]
  unfold Instr.keyThatStays;rw[if_pos h];rfl
end
end Go.Sx
namespace Go.Proofs
open Go Go.Sx
attribute [local irreducible] Go.Sx.Tri
theorem Ao.at2{V:Mem}{b:Nat}{c:Array Value}{t off:Nat}{vs:List Value}{q:Mem->Prop}(h:V b=some (.cells c t (0,0)))(hl:off+vs.length<=c.size)
  (z:q (V.set b (.cells (c.toList.take off++vs++c.toList.drop (off+vs.length)).toArray t (0,0)))):Ao (Aa (sa b) off) 0 vs V q:=by
 have e:Aa (sa b) off=some ⟨b,off,none⟩:=by
  grind[Aa,Addr.add]
 rw[e];exact⟨⟨b,off,none⟩,c,t,rfl,h,rfl,by simpa using hl,by simpa using z⟩
theorem K3{α:Type}:∀(l:List α)(i:Nat)(v:α),i<l.length->l.take i++[v]++l.drop (i+1)=l.set i v
 |[],i,v,h=>by simp at h
 |a::l,0,v,_=>by simp
 |a::l,i+1,v,h=>by
  have:=K3 l i v (by simpa using h);simp_all
section
variable{V0 V V':Mem}{e:TypeId}{sz:Nat}{s:Sl}{vs:List Value}
theorem Own.store(h:Sx.Own V0 V e sz s vs){i:Nat}(hi:i<vs.length){v:Value}{q:Mem->Prop}(H:∀V',Sx.Own V0 V' e sz s (vs.set i v)->(∀c,¬Bh s c->V' c=V c)->q V'):Ao (Aa s.p i) 0 [v] V q:=by
 rcases h.cases0 with⟨h1,h2,h3⟩|⟨hc,g,cur,h1,h2,h3,h4,J,Z,Y⟩;·rw[h3]at hi;simp at hi
 have z:=h.len;have N:s.n*sz<=s.c*sz:=Nat.mul_le_mul_right _ h4;rw[h1];refine Ao.at2 (off:=i) h3 (by simp;omega) (H _ ⟨h.sub.set h2 _,by simpa using z,.inr ⟨g,_,h1,h2,Mem.set_same _ _ _,h4,J,?_,?_⟩⟩ λc o=>?_);·grind
 ·grind[K3,List.take_set]
 ·rw[Mem.set_ne];rintro rfl;exact o ⟨hc,h1⟩
theorem Own.moveB(h:Sx.Own V0 V e sz s vs)(o:V0.sub V')(hk:∀g z,Bh s g->V g=some (.cells z e (0,0))->V' g=some (.cells z e (0,0))):Sx.Own V0 V' e sz s vs:=⟨o,h.len,by
 rcases h.cases0 with h1|⟨hc,g,z,h1,h2,h3,h4⟩;·exact .inl h1
 ·exact .inr ⟨g,z,h1,h2,hk g z ⟨hc,h1⟩ h3,h4⟩⟩
theorem Own.some(h:Sx.Own V0 V e sz s vs){c:Nat}(hc:Bh s c):∃z,V c=some (.cells z e (0,0)):=by
 rcases h.cases0 with⟨-,h2,-⟩|⟨-,g,z,h1,h2,h3,-⟩;·exact absurd h2 hc.1
 ·have:=h1.symm.trans hc.2;simp_all
theorem Own.none0(h:Sx.Own V0 V e sz s vs){c:Nat}(hc:Bh s c):V0 c=none:=by
 rcases h.cases0 with⟨-,h2,-⟩|⟨-,g,cur,h1,h2,h3,-⟩;·exact absurd h2 hc.1
 ·have:=h1.symm.trans hc.2;simp_all
theorem set_sub2{A B:Mem}(h:A.sub B)(b:Nat)(o:Obj):(A.set b o).sub (B.set b o):=λc x hc=>by
 by_cases e:c=b;·grind[Mem.set_same]
 ·rw[Mem.set_ne e]at hc⊢;exact h _ _ hc
theorem Own.poke(h:Sx.Own V0 V e sz s vs){b:Nat}(hb:V0 b≠none)(o:Obj):Sx.Own (V0.set b o) (V.set b o) e sz s vs:=⟨set_sub2 h.sub b o,h.len,by
 rcases h.cases0 with h1|⟨hc,g,cur,h1,h2,h3,h4⟩;·exact .inl h1
 ·have hne:g≠b:=λe=>hb (e▸h2);simp_all[inr,Mem.set_ne]⟩
end
def I7(a:Int×Int×Int):List Value:=[.int .i64 a.1,.int .i64 a.2.1,.int .i64 a.2.2]
theorem app138:AppP 138 211 3 I7:=appG Tryz.underlying138 (by kernel_rfl) (by kernel_rfl) (by kernel_rfl) (by kernel_rfl) (by kernel_rfl) (by decide) (by intro _;rfl) λx u hu=>by simp only[I7,yC,xC,or_false]at hu;rcases hu with rfl|rfl|rfl<;>rfl
theorem app47:AppP 47 55 2 Nd.row:=appG Tryz.underlying47 (by kernel_rfl) (by kernel_rfl) (by kernel_rfl) (by kernel_rfl) (by kernel_rfl) (by decide) (by intro _;rfl) λx u hu=>by simp only[Nd.row,Sl.v,yC,xC,or_false]at hu;rcases hu with rfl|rfl<;>rfl
theorem FG:AppP 43 3 1 Al:=appG Tryz.underlying43 (by kernel_rfl) (by kernel_rfl) (by kernel_rfl) (by kernel_rfl) (by kernel_rfl) (by decide) (by intro _;rfl) λx u hu=>by simp only[Al,yC,xC,or_false]at hu;subst hu;rfl
theorem CB(l:List Int):l.flatMap Al=l.map (xe .i64):=by
 induction l with
 |nil=>rfl
 |cons a l z=>rw[List.flatMap_cons,z];rfl
structure AP (V0 V:Mem)(gs ns ls:Sl)(nd:List Nd)(st:St):Prop where
 glob:Sx.Own V0 V 3 1 gs (st.g.flatMap Al)
 nodes:Sx.Own V0 V 55 2 ns (nd.flatMap Nd.row)
 log:Sx.Own V0 V 211 3 ls (st.lg.flatMap I7)
 fld:∀n∈nd,Sx.Own V0 V 3 1 n.sl (n.f.flatMap Al)
 eq:nd.map (λn=>(n.ty,n.f))=st.ns
 gf:∀n∈nd,∀c,Bh n.sl c->¬Bh gs c
 ff:∀(i j:Nat) n n' c,nd[i]?=some n->nd[j]?=some n'->Bh n.sl c->Bh n'.sl c->i=j
section
variable{V0 V V':Mem}{gs ns ls:Sl}{nd:List Nd}{st:St}
def Alien(V:Mem)(c:Nat):Prop:=∀z t,t=3∨t=55∨t=211->V c≠some (.cells z t (0,0))
theorem AP.sub(L:AP V0 V gs ns ls nd st):V0.sub V:=L.glob.sub
theorem AP.move(L:AP V0 V gs ns ls nd st)(J:V0.sub V')(hk:∀c o,V c=some o->V0 c=none->¬Alien V c->V' c=some o):AP V0 V' gs ns ls nd st:=by
 have z:∀{e sz s vs},(e=3∨e=55∨e=211)->Sx.Own V0 V e sz s vs->Sx.Own V0 V' e sz s vs:=λ{e sz s vs} he h=>Own.moveB h J λg N hb H=>hk _ _ H (Own.none0 h hb) λha=>ha _ _ he H;exact⟨z (.inl rfl) L.glob,z (.inr (.inl rfl)) L.nodes,z (.inr (.inr rfl)) L.log,λn hn=>z (.inl rfl) (L.fld n hn),L.eq,L.gf,L.ff⟩
theorem AP.grow(L:AP V0 V gs ns ls nd st)(h:V.sub V'):AP V0 V' gs ns ls nd st:=L.move (L.sub.trans h) λc o hc _ _=>h _ _ hc
theorem AP.put(L:AP V0 V gs ns ls nd st){c:Nat}(ha:Alien V c)(h0:V0 c=none)(o:Obj):AP V0 (V.set c o) gs ns ls nd st:=L.move (L.sub.set h0 o) λx H J _ z=>by
 grind[Mem.set_ne]
theorem AP.narrow{W:Mem}(L:AP W V gs ns ls nd st)(h:V0.sub W):AP V0 V gs ns ls nd st:=⟨L.glob.narrow h,L.nodes.narrow h,L.log.narrow h,λn hn=>(L.fld n hn).narrow h,L.eq,L.gf,L.ff⟩
theorem AP.poke(L:AP V0 V gs ns ls nd st){b:Nat}(hb:V0 b≠none)(o:Obj):AP (V0.set b o) (V.set b o) gs ns ls nd st:=⟨Own.poke L.glob hb o,Own.poke L.nodes hb o,Own.poke L.log hb o,λn hn=>Own.poke (L.fld n hn) hb o,L.eq,L.gf,L.ff⟩
def Mine(p:Nat)(gs ns ls:Sl)(nd:List Nd)(c:Nat):Prop:=c=p∨Bh gs c∨Bh ns c∨Bh ls c∨∃n∈nd,Bh n.sl c
open Classical in
noncomputable def Mem.minus(V:Mem)(M:Nat->Prop):Mem:=λc=>if M c then none else V c
theorem GW{M:Nat->Prop}:(Mem.minus V M).sub V:=λc o h=>by
 grind[Mem.minus]
theorem C6{M:Nat->Prop}{c:Nat}(h:¬M c):Mem.minus V M c=V c:=by grind[Mem.minus]
theorem EK{M:Nat->Prop}{c:Nat}(h:M c):Mem.minus V M c=none:=by grind[Mem.minus]
theorem AP.frame(L:AP V0 V gs ns ls nd st){p:Nat}(hk:∀c o,Mine p gs ns ls nd c->V c=some o->V' c=some o):AP (Mem.minus V' (Mine p gs ns ls nd)) V' gs ns ls nd st:=by
 have z:∀{e sz s vs},(∀c,Bh s c->Mine p gs ns ls nd c)->Sx.Own V0 V e sz s vs->Sx.Own (Mem.minus V' (Mine p gs ns ls nd)) V' e sz s vs:=λ{e sz s vs} hm h=>⟨GW,h.len,by
  rcases h.cases0 with h1|⟨hc,g,cur,h1,h2,h3,h4⟩;·exact .inl h1
  ·exact .inr ⟨g,cur,h1,EK (hm g ⟨hc,h1⟩),hk _ _ (hm g ⟨hc,h1⟩) h3,h4⟩⟩
 exact⟨z (λ_ h=>.inr (.inl h)) L.glob,z (λ_ h=>.inr (.inr (.inl h))) L.nodes,z (λ_ h=>.inr (.inr (.inr (.inl h)))) L.log,λn hn=>z (λ_ h=>.inr (.inr (.inr (.inr ⟨n,hn,h⟩)))) (L.fld n hn),L.eq,L.gf,L.ff⟩
theorem AP.mineV(L:AP V0 V gs ns ls nd st){p c:Nat}(hp:V p≠none)(h:Mine p gs ns ls nd c):V c≠none:=by
 have z:∀{e sz s vs},Sx.Own V0 V e sz s vs->Bh s c->V c≠none:=λ{e sz s vs} h hb=>by
  grind[Own.some]
 rcases h with rfl|h|h|h|⟨n,hn,h⟩;·exact hp
 ·exact z L.glob h
 ·exact z L.nodes h
 ·exact z L.log h
 ·exact z (L.fld n hn) h
theorem AP.mine0(L:AP V0 V gs ns ls nd st){p c:Nat}(hp:V0 p=none)(h:Mine p gs ns ls nd c):V0 c=none:=by
 rcases h with rfl|h|h|h|⟨n,hn,h⟩;·exact hp
 ·exact Own.none0 L.glob h
 ·exact Own.none0 L.nodes h
 ·exact Own.none0 L.log h
 ·exact Own.none0 (L.fld n hn) h
theorem AP.len(L:AP V0 V gs ns ls nd st):nd.length=st.ns.length:=by rw[<-L.eq,xm]
theorem AP.at_(L:AP V0 V gs ns ls nd st){i:Nat}{x:Int×List Int}(h:st.ns[i]?=some x):∃sl,nd[i]?=some ⟨x.1,sl,x.2⟩:=by
 rw[<-L.eq,y4]at h;cases hn:nd[i]? with
 |none=>simp_all
 |some n=>rw[hn]at h;cases h;grind
theorem AP.setG(L:AP V0 V gs ns ls nd st){i:Nat}(hi:i<st.g.length){v:Int}{q:Mem->Prop}(H:∀V',AP V0 V' gs ns ls nd {st with g:=st.g.set i v}->(∀c,¬Bh gs c->V' c=V c)->q V'):Ao (Aa gs.p (i*1)) 0 [.int .i64 v] V q:=by
 rw[Nat.mul_one];refine Own.store L.glob (by rw[CB,xm];exact hi) λV' ho hk=>H V' ⟨?_,?_,?_,λn hn=>?_,L.eq,L.gf,L.ff⟩ hk;·grind[Al,CB,xg]
 ·exact Own.moveB L.nodes ho.sub λg z hb o=>by rw[hk g (L.glob.apart λc=>by simp_all)];exact o
 ·exact Own.moveB L.log ho.sub λg z hb o=>by rw[hk g (L.glob.apart λc=>by simp_all)];exact o
 ·exact Own.moveB (L.fld n hn) ho.sub λg z hb o=>by rw[hk g (L.gf n hn g hb)];exact o
theorem AP.setF(L:AP V0 V gs ns ls nd st){k i:Nat}{n:Nd}(hn:nd[k]?=some n)(hi:i<n.f.length){v:Int}{q:Mem->Prop}
  (W:∀V',AP V0 V' gs ns ls (nd.set k {n with f:=n.f.set i v}) {st with ns:=st.ns.set k (n.ty,n.f.set i v)}->(∀c,¬Bh n.sl c->V' c=V c)->q V'):Ao (Aa n.sl.p (i*1)) 0 [.int .i64 v] V q:=by
 rw[Nat.mul_one];have hm:=xJ hn;have O:=(yw.1 hn).1;refine Own.store (L.fld n hm) (by rw[CB,xm];exact hi) λV' ho hk=>W V' ⟨?_,?_,?_,λn' H=>?_,?_,λn' H c hc=>?_,λA I a b c ha hb Z Y=>?_⟩ hk;·exact Own.moveB L.glob ho.sub λg J hb N=>by rw[hk g λh=>L.gf n hm g h hb];exact N
 ·have:(nd.set k {n with f:=n.f.set i v}).flatMap Nd.row=nd.flatMap Nd.row:=by
   have:(nd.set k {n with f:=n.f.set i v}).map Nd.row=nd.map Nd.row:=by
    rw[xg];refine List.ext_getElem? λm=>?_;rw[xb];split
    ·rename_i e;subst e;rw[y4,hn,if_pos (by simp_all)];rfl
    ·rfl
   grind
  rw[this];exact Own.moveB L.nodes ho.sub λg J hb N=>by rw[hk g ((L.fld n hm).apart λc=>by simp_all)];exact N
 ·exact Own.moveB L.log ho.sub λg J hb N=>by rw[hk g ((L.fld n hm).apart λc=>by simp_all)];exact N
 ·obtain⟨m,o⟩:=xn.1 H;rw[xb]at o;split at o;·grind[Al,CB,xg]
  ·rename_i hne;exact Own.moveB (L.fld n' (xJ o)) ho.sub λg J hb N=>by rw[hk g λh=>hne (L.ff k m n n' g hn o h hb)];exact N
 ·rw[<-L.eq,xg]
 ·rcases xf H with h|rfl;·exact L.gf n' h c hc
  ·exact L.gf n hm c hc
 ·have get:∀{m:Nat}{x:Nd},(nd.set k {n with f:=n.f.set i v})[m]?=some x->∃y,nd[m]?=some y/\y.sl=x.sl:=λ{m x} D=>by
   grind
  obtain⟨y,M,R⟩:=get ha;obtain⟨z,X,B⟩:=get hb;exact L.ff A I y z c M X (R▸Z) (B▸Y)
theorem AP.note(L:AP V0 V gs ns ls nd st){a:Int×Int×Int}{ty N:Nat}{x y:Operand}{vals:Operand->Value}{q:Value->Mem->Prop}(Z:V N=none)(W:vals x=.slice ls.p ls.n ls.c)(O:vals y=.slice (sa N) 1 1)(z:st.lg.length+1<=2147483648)
  (A:∀s' V',AP V0 V' gs ns s' nd (st.note a)->(∀c o,V c=some o->¬Bh ls c->V' c=some o)->q (.slice s'.p s'.n s'.c) V'):
  GenK Tryz.prog (.call {callee:=.builtin .append,args:=#[x,y],argTypes:=#[138,138]}) ty vals (V.set N (.cells (I7 a).toArray 211 (0,0))) q:=by
 refine app138 (s:=ls) (u:=⟨some ⟨N,0,none⟩,1,1⟩) (xs:=st.lg) (ys:=[a]) W O (L.log.but.new Z _) (Ad.cells (xs:=[a]) (row:=I7) Az (by simp) (λ_=>rfl) rfl (by simp)) (by simpa using z) λs' V' ho=>?_;have hk:∀c o,V c=some o->¬Bh ls c->V' c=some o:=λc o hc hb=>ho.sub _ _ (Mem.but_at hc hb);have Y:V0.sub V':=L.log.sub_but.trans ho.sub;refine A s' V' ⟨?_,?_,ho.narrow L.log.sub_but,λn hn=>?_,L.eq,L.gf,L.ff⟩ hk;·exact Own.moveB L.glob Y λg H hb J=>hk _ _ J (L.log.apart λc=>by simp_all)
 ·exact Own.moveB L.nodes Y λg H hb J=>hk _ _ J (L.log.apart λc=>by simp_all)
 ·exact Own.moveB (L.fld n hn) Y λg H hb J=>hk _ _ J (L.log.apart λc=>by simp_all)
theorem AP.new(L:AP V0 V gs ns ls nd st){n:Nd}{V1:Mem}(z:Sx.Own V V1 3 1 n.sl (n.f.flatMap Al))
  {ty W:Nat} {x y:Operand} {vals:Operand->Value} {q:Value->Mem->Prop} (A:V1 W=none) (R:vals x=.slice ns.p ns.n ns.c) (X:vals y=.slice (sa W) 1 1) (Z:nd.length+1<=2147483648)
  (B:∀s' V',AP V0 V' gs s' ls (nd++[n]) {st with ns:=st.ns++[(n.ty,n.f)]}->(∀c o,V1 c=some o->¬Bh ns c->V' c=some o)->q (.slice s'.p s'.n s'.c) V'):
  GenK Tryz.prog (.call {callee:=.builtin .append,args:=#[x,y],argTypes:=#[47,47]}) ty vals (V1.set W (.cells n.row.toArray 55 (0,0))) q:=by
 have D:V.sub V1:=z.sub;have J:=L.grow D;refine app47 (s:=ns) (u:=⟨some ⟨W,0,none⟩,1,1⟩) (xs:=nd) (ys:=[n]) R X (J.nodes.but.new A _) (Ad.cells (xs:=[n]) (row:=Nd.row) Az (by simp) (λ_=>rfl) rfl (by simp)) (by simpa using Z) λs' V' ho=>?_;have hk:∀c o,V1 c=some o->¬Bh ns c->V' c=some o:=λc o hc hb=>ho.sub _ _ (Mem.but_at hc hb);have O:V0.sub V':=J.nodes.sub_but.trans ho.sub;have K:∀c,Bh n.sl c->V c=none:=λc hc=>Own.none0 z hc;refine B s' V' ⟨?_,ho.narrow J.nodes.sub_but,?_,λm hm=>?_,by rw[List.map_append,L.eq];rfl,λm hm c hc=>?_,λi j a b c ha hb I M=>?_⟩ hk;·exact Own.moveB J.glob O λg H hb N=>hk _ _ N (J.nodes.apart λc=>by simp_all)
 ·exact Own.moveB J.log O λg H hb N=>hk _ _ N (J.nodes.apart λc=>by simp_all)
 ·rcases xh.1 hm with hm|hm;·exact Own.moveB (J.fld m hm) O λg H hb N=>hk _ _ N (J.nodes.apart λc=>by simp_all)
  ·rw[zO.1 hm];exact Own.moveB (z.narrow L.sub) O λg H hb N=>hk _ _ N (J.nodes.apart λc=>by simp_all)
 ·rcases xh.1 hm with hm|hm;·exact L.gf m hm c hc
  ·rw[zO.1 hm]at hc;intro N;obtain⟨H,Y⟩:=Own.some L.glob N;simp_all
 ·have old:∀{m:Nd},m∈nd->Bh m.sl c->¬Bh n.sl c:=λhm hc T=>by
   obtain⟨H,Y⟩:=Own.some (L.fld _ hm) hc;simp_all
  by_cases h1:i<nd.length<;>by_cases h2:j<nd.length
  ·rw[xj h1]at ha;rw[xj h2]at hb;exact L.ff i j a b c ha hb I M
  ·grind
  ·grind
  grind
end
end Go.Proofs
