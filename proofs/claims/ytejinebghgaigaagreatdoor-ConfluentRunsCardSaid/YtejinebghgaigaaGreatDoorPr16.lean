/- Part 16: no statement of the seat is proved here. -/
import Derived.Test.YtejinebghgaigaaGreatDoorPr15
import Derived.Test.YtejinebghgaigaaGreatDoorPr04
import Derived.Test.YtejinebghgaigaaGreatDoorPr13
import Derived.ProofKit
set_option linter.unusedVariables false
set_option linter.unusedSimpArgs false
open Array renaming replicate->wE,getD_eq_getD_getElem?->wT
open List renaming getElem?_toArray->wk,getElem?_cons_zero->wj,lookup_cons->zd,take_add_one->wc,mem_cons->yC,not_mem_nil->xC,mem_iff_getElem?->xn,getElem?_eq_getElem->yv,take_of_length_le->wW,getElem?_eq_some_iff->yw,drop_succ_cons->vC,drop_zero->vD,take_succ_cons->vF,take_zero->vG
open Option.some renaming injEq->zF
open Go.Proofs.Tryz renaming f95->wi,prog->xE,f144->wh,underlying20->we,underlying102->vA,underlying74->vB
open Go.Sem renaming run_bind->zK
open Go.Code renaming wpIn->wG
open Prod.mk renaming inj->wu
open Option renaming bind_eq_some_iff->wb
open Go.DataW renaming trod->wa
open Go.IntKind renaming i64->yu
open Nat renaming lt_succ_self->w8,strongRecOn->yR
open Go.TypeDesc renaming struct->w9
open Go.Value renaming string->yp
open List.cons renaming injEq->yD
namespace Go.Sx
open Go
section
variable{P:Program}{n:Nat}
theorem OD{F:Fence}{c:Code}{Q t:Exit->Act->List Frame->World->Prop}{a:Act}{cs:List Frame}{w:World}(h:c.wpSIn F n P Q a cs w)(u:∀e a cs w,Q e a cs w->t e a cs w):c.wpSIn F n P t a cs w:=
 λb k z y x g=>let⟨e,j,f,w',v,q,r⟩:=h b k z y x g;⟨e,j,f,w',v,u _ _ _ _ q,r⟩
theorem wpSIn_head{x:Code}:∀{c:Code}{rest:List Code}{Q:Exit->Act->List Frame->World->Prop}{a:Act}{cs:List Frame}{w:World},flat c=x::rest->x.wpSIn (AM none) n P (Exit.thenS (λa cs w=>C7 none n P (λe z w'=>Q e z cs w') rest a w) Q) a cs w->c.wpSIn (AM none) n P Q a cs w:=by
 intro c;induction c with
 |seq p q f j=>
  intro rest Q a cs w g h;rw[flat]at g;cases t:flat p with
  |nil=>
   exfalso;have:∀c:Code,flat c≠[]:=λc=>by
    induction c with
    |seq a b u r=>rw[flat];simp[u]
    |_=>simp[flat]
   exact this p t
  |cons y v=>
   rw[t,List.cons_append]at g;obtain⟨rfl,rfl⟩:y=x/\v++flat q=rest:=by
    simp_all
   refine wpSIn_seq (f t (OD h ?_));intro e a cs w k;cases e with
   |normal=>
    refine G6 ?_ (ML k);intro e a w k;cases e with
    |normal=>exact wpSIn_of_wpIn rfl (Hv k)
    |_=>exact k
   |_=>exact k
 |_=>
  intro rest Q a cs w g h;rw[flat]at g
  ·injection g with h1 h2
   subst h1;subst h2;refine OD h ?_;intro e a cs w k;cases e with
   |normal=>exact k
   |_=>exact k
  all_goals (intro x y;nofun)
variable{ops:Array Oper}{i:Nat}{o:Oper}{rest:List Nat}{Q:Exit->Act->World->Prop}{a:Act}{w:World}
theorem QX{f:FuncId}{fn:Func}{x c:Code}{rest:List Code}{id:Nat}{t y:Oper}{args:Array Value}{u:FrameMode}{R:Ending->FrameMode->World->Prop}{at0:Array TypeId}{t3 t6:Nat}(O:P.funcs[f]?=some fn)(A:fn.body=some c)(q:flat c=x::rest)(I:x=.region id #[t,y] false)
  (M:t.op=.call {callee:=.builtin .recover,args:=#[],argTypes:=at0}) (Z:t.dst=some t6) (L:t.guard=none) (h1:y.op=.assign (.tmp t6)) (X:y.dst=some t3) (B:y.guard=none) (D:t6<fn.ntmps) (E:args.size<=fn.ntmps)
  (H:∀(v:Value)(z:FrameMode),Rec u v z->
   C7 none n P (λe j w'=>(e=.normal∨e=.ret)/\j.defers=[]/\∃v,(results fn j.tmps).run P w'=.ok v w'/\R (.returned v) z w') rest ((({tmps:=args++wE (fn.ntmps-args.size) undef,defers:=[]}:Act).put (some t6) v).put (some t3) v) w):
  CallsDIn (AM none) n P f args u w R:=by
 refine callsDIn_of_wpSIn O A trivial λk cs hu=>?_;refine wpSIn_head q ?_;subst I;refine wpSIn_region ?_;have b:∀a:Act,(execOp a.eval t).run P w=.ok .recover w:=λa=>by
  unfold execOp;simp[M,resolve,invoke,builtin]
 have J:∀a:Act,(execOp a.eval y).run P w=.ok (.value (a.eval (.tmp t6))) w:=λa=>by
  unfold execOp;simp[h1]
 have Y:∀(v:Value)(z:FrameMode)(g:List Frame),Rec u v z->g={k with mode:=z}::cs->
   wpOpsSIn (AM none) n P #[t,y] (Exit.thenS (λa g w=>C7 none n P (λe j w'=>bodyPostS P fn k cs R e j g w') rest a w) (bodyPostS P fn k cs R)) [1] (({tmps:=args++wE (fn.ntmps-args.size) undef,defers:=[]}:Act).put t.dst v) g w:=λv z g hv r=>by
  rw[wpOpsSIn.eq_2];simp only[wk,List.getElem?_cons_succ,wj];refine⟨λ_ _=>trivial,?_⟩;have hw:=Ii (ops:=#[t,y]) (a:=(({tmps:=args++wE (fn.ntmps-args.size) undef,defers:=[]}:Act).put t.dst v)) B;rw[if_pos hw,J];simp only;rw[wpOpsSIn.eq_1];show C7 none n P (λe j w'=>bodyPostS P fn k cs R e j g w') rest _ w;have e:(({tmps:=args++wE (fn.ntmps-args.size) undef,defers:=[]}:Act).put t.dst v).eval (.tmp t6)=v:=by
   rw[Z];exact GK (a:={tmps:=args++wE (fn.ntmps-args.size) undef,defers:=[]}) (v:=v) (by simp;omega)
  rw[e,Z,X];refine G6 ?_ (H v z hv);rintro e j w' ⟨C,h1,G,h2,h3⟩;rcases C with rfl|rfl;·exact⟨h1,z,r,G,h2,h3⟩
  ·exact⟨h1,z,r,G,h2,h3⟩
 show wpOpsSIn _ _ _ _ _ [0,1] _ _ _;rw[wpOpsSIn.eq_2];simp only[wk,wj];refine⟨λ_ _=>trivial,?_⟩;have hw:=Ii (ops:=#[t,y]) (a:=({tmps:=args++wE (fn.ntmps-args.size) undef,defers:=[]}:Act)) L;simp only at hw;rw[if_pos hw,b];simp only;unfold recoverD;split
 ·rename_i v g h;simp only at h;split at h
  ·rename_i G N hm;simp only[zF,Prod.mk.injEq]at h;obtain⟨rfl,rfl⟩:=h;rw[hu]at hm;exact Y _ _ _ (by unfold Rec;rw[hm];exact⟨rfl,rfl⟩) rfl
  ·cases h
 ·rename_i h;simp only at h;split at h;·cases h
  ·rename_i hm;refine Y _ u _ ?_ (by cases k;simp only at hu;subst hu;rfl);rw[hu]at hm;unfold Rec;split;·exact absurd rfl (hm _ _)
   ·exact⟨rfl,rfl⟩
end
end Go.Sx
namespace Go.Proofs
open Go Go.Sx
set_option maxRecDepth 100000
section
variable{V:Mem}{R:RP}
noncomputable def c95a:List Code:=((Bi (AN wi) []).drop 0).take 3
def w95a(a:KB)(b c d g i j k l o:Sl)(p:KB)(q:Sl)(r:Int):MR:=λV R=>TT 143 #[uD a b c d g i j k,uA #[uL l,uL o],uA #[uS p,uL q]] V λe V1=>∃s u y z A B,e=rT #[uA #[uS s,uL u,uS y,uL z,uL A],uI B]/\Ag [uS a,uL b,uL c,uL d,uL g,uL i,uL j,uL k] 35 V1 λC V2=>Ag [uL l,uL o] 49 V2 λD h=>Ag [uS p,uL q] 45 h λF f=>Ag [uP none] 135 f λG t=>Ag [uI 0,uI 0,uI 0,uI 0,uI 0] 40 t λH x=>Ag [uS s,uL u,uS y,uL z,uL A] 76 x λL v=>R (rT #[uI r,uP (Aa C 0),uP (Aa D 0),uP (Aa F 0),uP (Aa G 0),uP (Aa H 0),uI B,uP (Aa L 0),uB (!(decide (B=0)))]) v
theorem s95a{a:KB}{b c d g i j k l o:Sl}{p:KB}{q:Sl}{r:Int}{V:Mem}{R:KZ}(h:w95a a b c d g i j k l o p q r V (OV R)):Bb xE 37 c95a [(0,uD a b c d g i j k),(1,uA #[uL l,uL o]),(2,uA #[uS p,uL q]),(3,uI r)] [3,4,5,6,8,9,10,11,20] V R:=
 CU (H:=hK 37) [(0,(.agg (.cons (.var .s 0) (.cons (.var .sl 1) (.cons (.var .sl 2) (.cons (.var .sl 3) (.cons (.var .sl 4) (.cons (.var .sl 5) (.cons (.var .sl 6) (.cons (.var .sl 7) .nil)))))))))),(1,(.agg (.cons (.var .sl 8) (.cons (.var .sl 9) .nil)))),(2,(.agg (.cons (.var .s 10) (.cons (.var .sl 11) .nil)))),(3,(.var (.i .i64) 12))] [uS a,uL b,uL c,uL d,uL g,uL i,uL j,uL k,uL l,uL o,uS p,uL q,uI r] rfl (by kernel_rfl) h
noncomputable def c95b:List Code:=((Bi (AN wi) [3,0]).drop 0).take 1
def w95b(a b:Option Addr)(c:Int):MR:=λV R=>Ao a 0 [uP none] V λV1=>Ao b 0 [uI 0,uI 0,uI 0,uI 0,uI 0] V1 λV2=>R (rT #[uP a,uP b,uI c]) V2
theorem s95b{a b:Option Addr}{c:Int}{V:Mem}{R:KZ}(h:w95b a b c V (OV R)):Bb xE 37 c95b [(8,uP a),(9,uP b),(10,uI c)] [8,9,10] V R:=
 CU (H:=hK 37) [(8,(.var .p 0)),(9,(.var .p 1)),(10,(.var (.i .i64) 2))] [uP a,uP b,uI c] rfl (by kernel_rfl) h
noncomputable def c95c:List Code:=((Bi (AN wi) []).drop 4).take 1
def w95c(a:Int)(b c d g i:Option Addr)(j:Int)(k:Option Addr):MR:=λV R=>∃l o p q r s u y,V.rowp b ((0:Int).toNat*1) 8=some [uS l,uL o,uL p,uL q,uL r,uL s,uL u,uL y]/\∃z A,V.rowp c ((0:Int).toNat*1) 2=some [uL z,uL A]/\Ag [uS l,uL o,uL p,uL q,uL r,uL s,uL u,uL y,uL z,uL A,uI a,uI 0,uI 0,uI 0,z0] 140 V λB V1=>Ao g 0 [uP (Aa B 0)] V1 λV2=>R (rT #[uP d,uP g,uP i,uI j,uP k]) V2
theorem s95c{a:Int}{b c d g i:Option Addr}{j:Int}{k:Option Addr}{V:Mem}{R:KZ}(h:w95c a b c d g i j k V (OV R)):Bb xE 37 c95c [(3,uI a),(4,uP b),(5,uP c),(6,uP d),(8,uP g),(9,uP i),(10,uI j),(11,uP k)] [6,8,9,10,11] V R:=
 CU (H:=hK 37) [(3,(.var (.i .i64) 0)),(4,(.var .p 1)),(5,(.var .p 2)),(6,(.var .p 3)),(8,(.var .p 4)),(9,(.var .p 5)),(10,(.var (.i .i64) 6)),(11,(.var .p 7))] [uI a,uP b,uP c,uP d,uP g,uP i,uI j,uP k] rfl (by kernel_rfl) h
noncomputable def c95d:Array Oper:=Eg ((Bi (AN wi) []).getD 6 .skip)
def w95d(a b c:Option Addr)(d:Int)(g:Option Addr):MR:=λV R=>∃i,V.rowp b ((0:Int).toNat*1) 1=some [uP i]/\∃j k l o p,V.rowp g ((0:Int).toNat*1) 5=some [uS j,uL k,uS l,uL o,uL p]/\¬a=none/\∃q,V.rowp a 1 1=some [uL q]/\R (rT #[uP b,uP c,uI d,uP i,uA #[uS j,uL k,uS l,uL o,uL p],uL q]) V
theorem s95d{a b c:Option Addr}{d:Int}{g:Option Addr}{V:Mem}{R:KZ}(h:w95d a b c d g V (OV R)):Ay xE 37 c95d 0 4 [(6,uP a),(8,uP b),(9,uP c),(10,uI d),(11,uP g)] [8,9,10,29,30,32] V R:=
 AE (H:=hK 37) [(6,(.var .p 0)),(8,(.var .p 1)),(9,(.var .p 2)),(10,(.var (.i .i64) 3)),(11,(.var .p 4))] [uP a,uP b,uP c,uI d,uP g] rfl (by kernel_rfl) h
noncomputable def c95e:Array Oper:=Eg ((Bi (AN wi) []).getD 6 .skip)
def w95e(a b:Option Addr)(c:Int):MR:=λV R=>¬b=none/\Ao (Aa b 1) 0 [uI c] V λV1=>R (rT #[uP a,uP b]) V1
theorem s95e{a b:Option Addr}{c:Int}{V:Mem}{R:KZ}(h:w95e a b c V (OV R)):Ay xE 37 c95e 5 2 [(8,uP a),(9,uP b),(33,uI c)] [8,9] V R:=
 AE (H:=hK 37) [(8,(.var .p 0)),(9,(.var .p 1)),(33,(.var (.i .i64) 2))] [uP a,uP b,uI c] rfl (by kernel_rfl) h
noncomputable def c95f:List Code:=((Bi (AN wi) []).drop 7).take 1
def w95f(a b:Option Addr):MR:=λV R=>∃c,V.rowp a ((0:Int).toNat*1) 1=some [uP c]/\∃d g i j k,V.rowp b ((0:Int).toNat*1) 5=some [uI d,uI g,uI i,uI j,uI k]/\Ao a 0 [uP c] V λV1=>V1.rowp b 0 5=some [uI d,uI g,uI i,uI j,uI k]/\Ao b 0 [uI d,uI g,uI i,uI j,uI k] V1 λV2=>R (rT #[uP a,uP b,uI 0]) V2
theorem s95f{a b:Option Addr}{V:Mem}{R:KZ}(h:w95f a b V (OV R)):Bb xE 37 c95f [(8,uP a),(9,uP b)] [8,9,10] V R:=
 CU (H:=hK 37) [(8,(.var .p 0)),(9,(.var .p 1))] [uP a,uP b] rfl (by kernel_rfl) h
noncomputable def c144a:List Code:=((Bi (AN wh) []).drop 1).take 5
abbrev w144a_0(o:Sl)(p:Int)(h:Mem)(a:Option Addr)(k:LMP):Prop:=Ix o p (∃q r s,h.rowp o.p (p.toNat*3) 3=some [uI q,uI r,uI s]/\Br (0<r) (¬a=none/\¬(Aa a 2)=none/\∃u,h.rowp a 3 1=some [uI u]/\IR (u+1)/\¬a=none/\¬(Aa a 2)=none/\Ao (Aa a 3) 0 [uI (u+1)] h λg=>IR (p+1)/\k [uI (p+1)] g) (IR (p+1)/\k [uI (p+1)] h))
def w144a(a b:Option Addr)(c:Value):MR:=λV R=>GenK xE (.binOp .neq 20 (.tmp 8) (.const .nilIface) 20) 4 (gv [(8,K.cast .r c)]) V λx V1=>∃d,x=uB d/\Br (d=true) (GenK xE (.typeAssert (.tmp 11) 20 253 true) 254 (gv [(11,K.cast .r c)]) V1 λx V2=>∃g i,x=.tuple #[uA #[uI g],uB i]/\Br (i=true) (¬a=none/\Ao (Aa a 0) 0 [uI g] V2 λh=>∃j,h.rowp b ((0:Int).toNat*1) 1=some [uP j]/\N2 j (∃k,h.rowp j 13 1=some [uI k]/\¬a=none/\¬(Aa a 2)=none/\Ao (Aa a 2) 0 [uI k] h λu=>∃l,u.rowp b ((0:Int).toNat*1) 1=some [uP l]/\N2 l (∃o,u.rowp l 14 1=some [uL o]/\Lp [uI 0] u λI n z=>∀p,I n [uI p] z->∀f:LMP,Nx I n f->Br (p<(o.n:Int)) (w144a_0 o p z a f) (R (rT #[]) z)))) (∃t x,K.cast .r c=.iface t x/\R (.panicked [{v:=.iface t x,recovered:=false}]) V2)) (∃g,V1.rowp b ((0:Int).toNat*1) 1=some [uP g]/\N2 g (∃i,V1.rowp g 13 1=some [uI i]/\¬a=none/\¬(Aa a 2)=none/\Ao (Aa a 2) 0 [uI i] V1 λV2=>∃j,V2.rowp b ((0:Int).toNat*1) 1=some [uP j]/\N2 j (∃k,V2.rowp j 14 1=some [uL k]/\Lp [uI 0] V2 λI n h=>∀l,I n [uI l] h->∀f:LMP,Nx I n f->Br (l<(k.n:Int)) (w144a_0 k l h a f) (R (rT #[]) h))))
theorem s144a{a b:Option Addr}{c:Value}{V:Mem}{R:KZ}(h:w144a a b c V (OV R)):Bb xE 46 c144a [(0,uP a),(1,uP b),(2,K.cast .r c)] [] V R:=
 CU (H:=hK 46) [(0,(.var .p 0)),(1,(.var .p 1)),(2,(.var .r 2))] [uP a,uP b,c] rfl (by kernel_rfl) h
end
end Go.Proofs
namespace Go.Proofs
open Go Go.Sx
attribute [local irreducible] Go.Sx.Tri
theorem GenK.neqNil{V:Mem}{x:Operand}{t:TypeId}{v:Value}{ty:Nat}{vals:Operand->Value}(k:vals x=.iface t v)(g:vals (.const .nilIface)=.nilIface){q:Value->Mem->Prop}(h:q (.bool true) V):GenK xE (.binOp .neq 20 x (.const .nilIface) 20) ty vals V q:=by
 intro w hw;refine⟨_,w,V,?_,Ax.refl hw,h⟩;have f:(Op.equal 20 (.iface t v) .nilIface).run xE w=.ok false w:=by
  rw[GI,Op.equalIn];simp[zK,run_underlying we]
 simp_all[execOp,binOp,eqGuard,zK]
theorem GenK.eqNilNil{V:Mem}{x:Operand}{ty:Nat}{vals:Operand->Value}(k:vals x=.nilIface)(g:vals (.const .nilIface)=.nilIface){q:Value->Mem->Prop}(h:q (.bool false) V):GenK xE (.binOp .neq 20 x (.const .nilIface) 20) ty vals V q:=by
 intro w hw;refine⟨_,w,V,?_,Ax.refl hw,h⟩;have f:(Op.equal 20 .nilIface .nilIface).run xE w=.ok true w:=by
  rw[GI,Op.equalIn];simp[zK,run_underlying we]
 simp_all[execOp,binOp,eqGuard,zK]
theorem GenK.assertOk{P:Program}{V:Mem}{x:Operand}{t u:TypeId}{ts:Array Field}{v:Value}{ty:Nat}{vals:Operand->Value}(h:P.underlying t=some (.struct ts))(k:vals x=.iface t v){q:Value->Mem->Prop}(g:q (.tuple #[v,.bool true]) V):GenK P (.typeAssert x u t true) ty vals V q:=by
 intro w hw;refine⟨_,w,V,?_,Ax.refl hw,g⟩;unfold execOp;simp[k,Instr.typeAssert,zK,run_underlying h]
noncomputable def Fo:Oper:={ dst:=none,op:=.move (.tmp 0),type:=0,pos:= "",after:=#[],guard:=none}
theorem run_makeFunc{P:Program}{a:Act}{o:Oper}{f:Fn}{first caps:Array Operand}{w:World}(h:o.op=.makeFunc f first caps):(execOp a.eval o).run P w=.ok (.value (.func f (first.map a.eval) (caps.map a.eval))) w:=by
 unfold execOp;simp[h,Instr.makeFunc]
theorem run_deferv{P:Program}{a:Act}{o:Oper}{c:Call}{fv:Operand}{f:Fn}{first caps:Array Value}{w:World}(k:o.op=.defer c)(g:c.callee=.value fv)(t:a.eval fv=.func f first caps)(h:c.args.map a.eval=#[]):
  (execOp a.eval o).run P w=.ok (.defer {target:=.fn f caps,args:=first++#[]}) w:=by
 simp_all[execOp,resolve,Deferred.ofValue]
theorem Lc{N:Nat}{a:Act}{l:List (Nat×Value)}(h:Has N a l){t:Nat}{v:Value}(g:t<N):Has N (a.put (some t) v) ((t,v)::l):=by
 refine⟨by simp[Act.put,h.1],λs u k=>?_⟩;rw[zd]at k;by_cases e:s=t
 ·subst e;simp only[beq_self_eq_true]at k;cases k;simp[Act.put,wT,h.1,g]
 ·have f:(s==t)=false:=by simpa using e
  rw[f]at k;have:=h.2 s u k;simp_all[Act.put,wT,Array.getElem?_setIfInBounds_ne,Ne.symm]
theorem OE{F:Fence}{n:Nat}{P:Program}{f:FuncId}{args:Array Value}{u:FrameMode}{w:World}{R t:Ending->FrameMode->World->Prop}(h:CallsDIn F n P f args u w R)(k:∀e g w',R e g w'->t e g w'):CallsDIn F n P f args u w t:=
 ⟨h.1,λc cs h1 h2=>let⟨e,g,w',fr,a,b⟩:=h.2 c cs h1 h2;⟨e,g,w',fr,k _ _ _ a,b⟩⟩
def Bo(a0 a1 a2 a3:Int):List Value:=[.int .i64 a0,.int .i64 a1,.int .i64 a2,.int .i64 a3,.int .i64 0]
structure PM (V0:Mem)(d:Ds)(p F b8 b9:Nat)(gs ns ls:Sl)(nd:List Nd)(V:Mem)(s:St)(c:Nat)(a0 a1 a2 a3:Int):Prop where
 ex:∃W,V0.sub W/\W p=none/\V p=some (.cells (AY d F s.tk c s.cm gs ns ls).toArray 140 (0,0))/\AP W V gs ns ls nd s/\W b8=some (cell (pv p) 135)/\W b9=some (.cells (Bo a0 a1 a2 a3).toArray 40 (0,0))
section
variable{V0 V:Mem}{d:Ds}{p F b8 b9 c:Nat}{gs ns ls:Sl}{nd:List Nd}{s:St}{a0 a1 a2 a3 a0' a1' a2' a3':Int}
theorem PM.set9(h:PM V0 d p F b8 b9 gs ns ls nd V s c a0 a1 a2 a3)(k:b8≠b9)(g:V0 b9=none){x:Array Value}(f:x=(Bo a0' a1' a2' a3').toArray):PM V0 d p F b8 b9 gs ns ls nd (V.set b9 (.cells x 40 (0,0))) s c a0' a1' a2' a3':=by
 obtain⟨W,h1,h2,h3,L,t,u⟩:=h.ex;have np:p≠b9:=λe=>by simp_all
 exact⟨W.set b9 (.cells x 40 (0,0)),h1.set g _,by rw[Mem.set_ne np];exact h2,by rw[Mem.set_ne np];exact h3,L.poke (by rw[u];simp) _,by rw[Mem.set_ne k];exact t,by rw[Mem.set_same,f]⟩
theorem PM.set8(h:PM V0 d p F b8 b9 gs ns ls nd V s c a0 a1 a2 a3)(k:b8≠b9)(g:V0 b8=none){x:Array Value}(f:x=#[pv p]):PM V0 d p F b8 b9 gs ns ls nd (V.set b8 (.cells x 135 (0,0))) s c a0 a1 a2 a3:=by
 obtain⟨W,h1,h2,h3,L,t,u⟩:=h.ex;have np:p≠b8:=λe=>by simp_all
 exact⟨W.set b8 (.cells x 135 (0,0)),h1.set g _,by rw[Mem.set_ne np];exact h2,by rw[Mem.set_ne np];exact h3,L.poke (by rw[t];simp) _,by rw[Mem.set_same,f],by grind[Mem.set_ne]⟩
theorem PM.at8(h:PM V0 d p F b8 b9 gs ns ls nd V s c a0 a1 a2 a3):V b8=some (cell (pv p) 135):=by
 obtain⟨W,h1,h2,h3,L,k,g⟩:=h.ex;exact L.sub _ _ k
theorem PM.at9(h:PM V0 d p F b8 b9 gs ns ls nd V s c a0 a1 a2 a3):V b9=some (.cells (Bo a0 a1 a2 a3).toArray 40 (0,0)):=by
 obtain⟨W,h1,h2,h3,L,g,k⟩:=h.ex;exact L.sub _ _ k
theorem PM.em(h:PM V0 d p F b8 b9 gs ns ls nd V s c a0 a1 a2 a3):EM V0 d p F V s c:=by
 obtain⟨W,h1,h2,h3,L,k,g⟩:=h.ex;exact MA.narrow (W:=W) ⟨h2,gs,ns,ls,nd,h3,L⟩ h1
theorem PM.atp(h:PM V0 d p F b8 b9 gs ns ls nd V s c a0 a1 a2 a3):V p=some (.cells (AY d F s.tk c s.cm gs ns ls).toArray 140 (0,0)):=by
 obtain⟨W,h1,h2,h3,L,k,g⟩:=h.ex;exact h3
theorem PM.log(h:PM V0 d p F b8 b9 gs ns ls nd V s c a0 a1 a2 a3):Ad V ls 3 (s.lg.map I7):=by
 obtain⟨W,h1,h2,h3,L,k,g⟩:=h.ex;exact L.log.rows (λ_=>rfl) (by decide)
theorem nodesN_succ{l:List (Int×Int×Int)}{i:Nat}{x:Int×Int×Int}(h:l[i]?=some x):Be (l.take (i+1))=Be (l.take i)+if 0<x.2.1 then 1 else 0:=by
 unfold Be;rw[wc,h,List.filter_append,List.length_append];grind
theorem nodesN_le(l:List (Int×Int×Int))(i:Nat):Be (l.take i)<=i:=by
 grind[Be]
theorem lateTail(u:b8≠b9)(e:V0 b9=none)(P:PM V0 d p F b8 b9 gs ns ls nd V s c a0 a1 0 0){R:Ending->Mem->Prop}(U:∀V',PM V0 d p F b8 b9 gs ns ls nd V' s c a0 a1 s.cm (Be s.lg)->R (rT #[]) V') :
    (∃v,V.rowp (sa b8) ((0:Int).toNat*1) 1=some [uP v]/\
 ¬v=none/\¬v=none/\∃A,V.rowp v ((13:Int).toNat*1) 1=some [uI A]/\
 ¬(some (⟨b9,0,none⟩:Addr))=none/\¬(Aa (sa b9) 2)=none/\Ao (Aa (sa b9) 2) 0 [uI A] V λV2=>
 ∃G,V2.rowp (sa b8) ((0:Int).toNat*1) 1=some [uP G]/\
 ¬G=none/\¬G=none/\∃z,V2.rowp G ((14:Int).toNat*1) 1=some [uL z]/\
 ∃(I:Nat->KZ)(B:Nat),I B [uI 0] V2/\∀n h,∀k,I n [uI k] h->∀N:KZ,(∀m ys y,m<n->I m ys y->N ys y)->
 Br (k<(z.n:Int))
 (¬z.p=none/\0<=k/\k<(z.n:Int)/\∃e j Z,h.rowp z.p (k.toNat*3) 3=some [uI e,uI j,uI Z]/\
 Br (0<j)
 (¬(some (⟨b9,0,none⟩:Addr))=none/\¬(Aa (sa b9) 2)=none/\∃f,h.rowp (sa b9) ((3:Int).toNat*1) 1=some [uI f]/\
 IR (f+1)/\¬(some (⟨b9,0,none⟩:Addr))=none/\¬(Aa (sa b9) 2)=none/\Ao (Aa (sa b9) 3) 0 [uI (f+1)] h λC=>
 IR (k+1)/\N [uI (k+1)] C)
 (IR (k+1)/\N [uI (k+1)] h))
 (R (rT #[]) h)):=by
  refine⟨_,AG P.at8,nn,nn,_,An P.atp 13 1 (by simp[AY]),nn,AX,Ao.at2 (off:=2) P.at9 (by simp[Bo]) ?_⟩;have Y:=P.set9 (a0':=a0) (a1':=a1) (a2':=s.cm) (a3':=0) u e (x:=(((Bo a0 a1 0 0).toArray.toList.take 2++[Value.int .i64 (s.cm:Int)]++(Bo a0 a1 0 0).toArray.toList.drop (2+[Value.int .i64 (s.cm:Int)].length)).toArray)) (by simp[Bo]);refine⟨_,AG Y.at8,nn,nn,ls,An Y.atp 14 1 (by simp[AY]),Fz s.lg.length (λi h=>PM V0 d p F b8 b9 gs ns ls nd h s c a0 a1 s.cm (Be (s.lg.take i))) Y ?_⟩;intro i h J hi r M;refine⟨λg=>?_,λO=>?_⟩
  · have t:=r.log;obtain⟨x,-,D,-,q,E,K,b⟩:=t.get g;have hc:=t.cap;have hf:=t.fit;have S:=t.n_eq;have T:=nodesN_le s.lg i;have L:=nodesN_succ D;refine⟨E,K,g,_,_,_,b,λX=>⟨nn,AX,_,An r.at9 3 1 (by simp[Bo]),⟨by omega,by omega⟩,nn,AX,Ao.at2 (off:=3) r.at9 (by simp[Bo]) ⟨t.succ g,M q _ ?_⟩⟩,λX=>⟨t.succ g,M q _ ?_⟩⟩
    · rw[if_pos X]at L;exact r.set9 u e (by rw[L];simp[Bo])
    simp_all
  · have hd:=(r.log.done O).2;grind
def fltVE(e:Int):Value:=.iface 253 (.agg #[.int .i64 e])
theorem lateNil(g:b8≠b9)(f:V0 b9=none)(P:PM V0 d p F b8 b9 gs ns ls nd V s c 0 a1 0 0):Bb xE 46 c144a [(0,pv b9),(1,pv b8),(2,.nilIface)] [] V λ_ V'=>PM V0 d p F b8 b9 gs ns ls nd V' s c 0 a1 s.cm (Be s.lg):=by
 refine s144a (c:=.nilIface) ?_;unfold w144a;exact GenK.eqNilNil rfl rfl ⟨false,rfl,(λk=>by cases k),λ_=>lateTail (R:=λe V'=>∃vs:List Value,e=.returned (.tuple vs.toArray)/\PM V0 d p F b8 b9 gs ns ls nd V' s c 0 a1 s.cm (Be s.lg)) g f P λV' h=>⟨[],rfl,h⟩⟩
theorem lateFlt(g:b8≠b9)(f:V0 b9=none){e:Int}(P:PM V0 d p F b8 b9 gs ns ls nd V s c 0 a1 0 0):Bb xE 46 c144a [(0,pv b9),(1,pv b8),(2,fltVE e)] [] V λ_ V'=>PM V0 d p F b8 b9 gs ns ls nd V' s c e a1 s.cm (Be s.lg):=by
 refine s144a (c:=fltVE e) ?_;unfold w144a;refine GenK.neqNil rfl rfl ⟨true,rfl,λ_=>?_,λk=>absurd rfl k⟩;refine GenK.assertOk Tryz.underlying253 rfl ⟨e,true,rfl,λ_=>⟨nn,Ao.at2 (off:=0) P.at9 (by simp[Bo]) ?_⟩,λk=>absurd rfl k⟩;exact lateTail (R:=λx V'=>∃vs:List Value,x=.returned (.tuple vs.toArray)/\PM V0 d p F b8 b9 gs ns ls nd V' s c e a1 s.cm (Be s.lg)) g f (P.set9 (a0':=e) (a1':=a1) (a2':=0) (a3':=0) g f (by simp[Bo])) λV' h=>⟨[],rfl,h⟩
noncomputable def lateX:Code:=(flat (AN wh)).getD 0 .skip
theorem lateBody:(wh).body=some (AN wh):=by kernel_rfl
theorem lateX_eq:lateX=.region 0 #[(Eg lateX).getD 0 Fo,(Eg lateX).getD 1 Fo] false:=by kernel_rfl
theorem late_flat:flat (AN wh)=lateX::c144a:=by kernel_rfl
theorem OF{tmps:Array Value}{w:World}:(results wh tmps).run xE w=.ok (.tuple #[]) w:=by
 simp_all[results]
theorem lateC(k:b8≠b9)(r:V0 b9=none)(P:PM V0 d p F b8 b9 gs ns ls nd V s c 0 a1 0 0){w:World}(hw:V.le w){u:FrameMode}{n:Nat}{f:Int}(hu:(u=.returning/\f=0)∨u=.panicking [{v:=fltVE f,recovered:=false}]):
  CallsDIn (AM none) n xE 144 #[pv b9,pv b8] u w λe g w'=>(∃v,e=.returned v)/\(∃V2,Ax V w V2 w'/\PM V0 d p F b8 b9 gs ns ls nd V2 s c f a1 s.cm (Be s.lg))/\
   ((u=.returning/\g=.returning)∨(g=.panicking [{v:=fltVE f,recovered:=true}])):=by
 refine QX (fn:=wh) (at0:=#[]) (t3:=2) (t6:=7) Tryz.func144 lateBody late_flat lateX_eq (by kernel_rfl) (by kernel_rfl) (by kernel_rfl) (by kernel_rfl) (by kernel_rfl) (by kernel_rfl) (by simp_all) (by simp_all) ?_;intro v g h;have q:=Lc (Lc (K5 (args:=[pv b9,pv b8]) (N:=46) (by simp)) (t:=7) (v:=v) (by decide)) (t:=2) (v:=v) (by decide);have z:Has 46 _ [(0,pv b9),(1,pv b8),(2,v)]:=⟨q.1,λs x y=>by
  simp only[zd]at y
  repeat' split at y
  all_goals first
   |(rename_i e;simp only[beq_iff_eq]at e;subst e;cases y;exact q.get rfl)
   |cases y⟩
 rcases hu with⟨rfl,rfl⟩|rfl
 ·obtain⟨rfl,rfl⟩:v=.nilIface/\g=.returning:=h;refine G6 ?_ (lateNil k r P none n _ w hw z.1 z.2);rintro e b w' ⟨rfl,h1,-,vs,V',-,h4,j⟩;exact⟨.inl rfl,h1,_,OF,⟨_,rfl⟩,⟨V',j,h4⟩,.inl ⟨rfl,rfl⟩⟩
 ·obtain⟨rfl,rfl⟩:v=fltVE f/\g=.panicking [{v:=fltVE f,recovered:=true}]:=by
   obtain⟨h1,h2⟩:=h;grind
  refine G6 ?_ (lateFlt k r P none n _ w hw z.1 z.2);rintro e b w' ⟨rfl,h1,-,vs,V',-,h4,j⟩;exact⟨.inl rfl,h1,_,OF,⟨_,rfl⟩,⟨V',j,h4⟩,.inr rfl⟩
end
theorem AP.base{V0 V:Mem}{gs ns ls:Sl}{nd:List Nd}{s:St}(L:AP V0 V gs ns ls nd s){p:Nat}(p0:V0 p=none):∃W,V0.sub W/\W p=none/\W.sub V/\AP W V gs ns ls nd s/\∀b o,V b=some o->b≠p->Alien V b->W b=some o:=by
 refine⟨Mem.minus V (Mine p gs ns ls nd),λb o k=>?_,EK (.inl rfl),GW,L.frame (λ_ _ _ h=>h),λb o k f u=>?_⟩;·rw[C6 λhm=>by rw[L.mine0 p0 hm]at k;cases k];exact L.sub _ _ k
 ·rw[C6];exact k;have g:∀{e sz sl vs},(e=3∨e=55∨e=211)->Sx.Own V0 V e sz sl vs->¬Bh sl b:=λ{e sz sl vs} z y=>y.apart λt=>u t e z;rintro(h|h|h|h|⟨n,x,h⟩);·exact f h
  ·exact g (.inl rfl) L.glob h
  ·exact g (.inr (.inl rfl)) L.nodes h
  ·exact g (.inr (.inr rfl)) L.log h
  ·exact g (.inl rfl) (L.fld n x) h
theorem Nb{V:Mem}{b:Nat}{x:Array Value}{t:Nat}(h:V b=some (.cells x t (0,0)))(k:NT t):Alien V b:=JP h k
noncomputable def playI:Code:=(flat (AN wi)).getD 3 .skip
noncomputable def Gg:Code:=(flat (AN wi)).getD 5 .skip
noncomputable def playR:Code:=(flat (AN wi)).getD 6 .skip
theorem play_flat:flat (AN wi)=c95a++playI::(c95c++Gg::playR::(c95f++[.ret])):=by kernel_rfl
theorem playI_eq:playI=.cond (.tmp 20) (kid playI 0) .skip:=by kernel_rfl
theorem playK_flat:flat (kid playI 0)=c95b++[.ret]:=by kernel_rfl
theorem playD_eq:Gg=.region 5 #[(Eg Gg).getD 0 Fo,(Eg Gg).getD 1 Fo] false:=by kernel_rfl
theorem playR_eq:playR=.region 6 c95d false:=by kernel_rfl
theorem playR_size:(c95d).size=7:=by kernel_rfl
theorem playde:c95d=c95e:=rfl
theorem run_ldv{w:World}{b t T:Nat}{x:Value}{cs y:Go.Sx.T}{ρ:List Value}(h:w.heap[b]?=some (.cells (cs.evs ρ id).toArray t (0,0)))(k:El xE T cs 0=some y)(g:y.ev ρ id=x):(loadVar T ⟨b,0,none⟩).run xE w=.ok x w:=by
 grind[Jv,xE,T,id]
def outT:Go.Sx.T:=.cons (.var (.i .i64) 0) (.cons (.var (.i .i64) 1) (.cons (.var (.i .i64) 2) (.cons (.var (.i .i64) 3) (.cons (.var (.i .i64) 4) .nil))))
theorem Ld{tmps:Array Value}{b8 b9 h k:Nat}{q:Option Addr}{a0 a1 a2 a3 er:Int}{w:World}(g:tmps.getD 8 undef=pv b8)(f:tmps.getD 9 undef=pv b9)(t:tmps.getD 10 undef=.int .i64 er)
  (u:w.heap[b8]?=some (cell (.pointer q) h)) (c9:w.heap[b9]?=some (.cells (Bo a0 a1 a2 a3).toArray k (0,0))):
  (results wi tmps).run xE w=.ok (.tuple #[.pointer q,.agg (Bo a0 a1 a2 a3).toArray,.int .i64 er]) w:=by
 have z:wi.results=#[.cell 8 135,.cell 9 40,.tmp 10]:=by kernel_rfl
 unfold results;rw[z];have x:asAddr (tmps.getD 8 undef)=pure ⟨b8,0,none⟩:=by rw[g];rfl
 have j:asAddr (tmps.getD 9 undef)=pure ⟨b9,0,none⟩:=by rw[f];rfl
 have r:(loadVar 135 ⟨b8,0,none⟩).run xE w=.ok (.pointer q) w:=run_ldv (cs:=.cons (.var .p 0) .nil) (y:=.var .p 0) (ρ:=[.pointer q]) u (by kernel_rfl) rfl;have b:(loadVar 40 ⟨b9,0,none⟩).run xE w=.ok (.agg (Bo a0 a1 a2 a3).toArray) w:=run_ldv (cs:=outT) (y:=.agg outT) (ρ:=Bo a0 a1 a2 a3) c9 (by kernel_rfl) rfl;simp_all
section
variable{V0 V:Mem}{d:Ds}{F:Nat}{gs ns:Sl}{nd:List Nd}{m:Mm}
def PlayP(V0:Mem)(d:Ds)(F:Nat)(m:Mm)(nm:KB)(args:List Int)(V:Mem):Ending->Mem->Prop:=λe V'=>
 (AQ d m nm args≠0/\V.sub V'/\e=.returned (.tuple #[.pointer none,.agg (Bo 0 0 0 0).toArray,.int .i64 (AQ d m nm args)]))∨
 (AQ d m nm args=0/\∃p c,∃r:Rx Int,r=BP d F (AD d nm) args (AR m)/\EM V0 d p F V' r.st c/\e=.returned (.tuple #[pv p,.agg (Bo (DI r) (outV r) r.st.cm (Be r.st.lg)).toArray,.int .i64 0]))
end
theorem lookup_mem{s:Nat}{v:Value}:∀{l:List (Nat×Value)},l.lookup s=some v->(s,v)∈l
 |[],h=>by cases h
 |(t,u)::l,h=>by
  rw[zd]at h;split at h
  ·rename_i e;simp only[beq_iff_eq]at e;subst e;cases h;exact List.mem_cons_self
  ·exact List.mem_cons_of_mem _ (lookup_mem h)
theorem Le{N:Nat}{a:Act}{l k:List (Nat×Value)}(h:Has N a l)(g:∀x∈k,l.lookup x.1=some x.2):Has N a k:=⟨h.1,λs v f=>h.2 s v (g (s,v) (lookup_mem f))⟩
noncomputable def Jf:Call:=match((c95d).getD 4 Fo).op with|.call c=>c|_=>{callee:=.value (.tmp 0),args:=#[],argTypes:=#[]}
noncomputable def playFv:Operand:=match Jf.callee with|.value f=>f|_=>.tmp 0
theorem playCall_op:((c95d).getD 4 Fo).op=.call Jf:=by kernel_rfl
theorem playCall_fv:Jf.callee=.value playFv:=by kernel_rfl
theorem QY:Jf.args=#[.tmp 29,.tmp 30,.tmp 32]:=by kernel_rfl
theorem playFv_eval(a:Act):a.eval playFv=.func (.func 145) #[] #[]:=by kernel_rfl
theorem free{V U:Mem}(k:V.sub U){b:Nat}(h:U b=none):V b=none:=by
 cases g:V b with
 |none=>rfl
 |some o=>rw[k _ _ g]at h;cases h
section
variable{V0 V:Mem}{d:Ds}{F:Nat}{m:Mm}{nm:KB}{args:List Int}{l:Sl}{b4 b5 b6 b8 b9 b11 p c:Nat}{gs ns ls:Sl}{nd:List Nd}{s:St}{a1:Int}{pr:Pr}{er:Int}
theorem segA(O:Ds.Ok V d)(hm:Mm.Ok V m)(G:Am d m)(A:Ad V l 1 (args.map Al))(y:pr=if AQ d m nm args=0 then(d.procs[(AD d nm).toNat]?).getD noPr else noPr):
  Bb xE 37 c95a [(0,d.v),(1,m.v),(2,.agg #[.string nm,l.v]),(3,.int .i64 F)] [3,4,5,6,8,9,10,11,20] V λvs V1=>∃b4 b5 b6 b8 b9 b11:Nat,vs=[.int .i64 F,pv b4,pv b5,pv b6,pv b8,pv b9,.int .i64 (AQ d m nm args),pv b11,.bool (!(decide (AQ d m nm args=0)))]/\
   V.sub V1/\V b8=none/\V b9=none/\b8≠b9/\V1 b4=some (.cells d.row.toArray 35 (0,0))/\V1 b5=some (.cells m.row.toArray 49 (0,0))/\V1 b6=some (.cells #[.string nm,l.v] 45 (0,0))/\V1 b8=some (cell (.pointer none) 135)/\V1 b9=some (.cells (Bo 0 0 0 0).toArray 40 (0,0))/\V1 b11=some (.cells pr.row.toArray 76 (0,0)):=by
 have N:=c143 O hm G A (nm:=nm);rw[<-y]at N;refine s95a (a:=d.name) (b:=d.ts) (c:=d.gs) (d:=d.ps) (g:=d.ms) (i:=d.is) (j:=d.qs) (k:=d.bs) (l:=m.gs) (o:=m.ns) (p:=nm) (q:=l) (r:=F) ?_;unfold w95a;refine N.call ⟨_,_,_,_,_,_,rfl,λb4 h4 b5 I b6 M b8 Z b9 Y b11 x=>?_⟩;have J:=λo=>Mem.sub_new h4 o;have z:=λo=>Mem.sub_new I o;have f:=λo=>Mem.sub_new M o;have t:=λo=>Mem.sub_new Z o;have u:=λo=>Mem.sub_new Y o;have h:=λo=>Mem.sub_new x o;refine⟨_,rfl,b4,b5,b6,b8,b9,b11,rfl,(J _).trans ((z _).trans ((f _).trans ((t _).trans ((u _).trans (h _))))),free ((J _).trans ((z _).trans (f _))) Z,free ((J _).trans ((z _).trans ((f _).trans (t _)))) Y,λe=>?_,?_,?_,?_,?_,?_,Mem.set_same _ _ _⟩;·grind[Mem.set_same]
 ·exact((z _).trans ((f _).trans ((t _).trans ((u _).trans (h _))))) _ _ Az
 ·exact((f _).trans ((t _).trans ((u _).trans (h _)))) _ _ Az
 ·exact((t _).trans ((u _).trans (h _))) _ _ Az
 ·exact((u _).trans (h _)) _ _ Az
 ·exact(h _) _ _ Az
theorem segB(h:b8≠b9)(k:V0 b8=none)(g:V0 b9=none)(f:V0.sub V)(t:V b8=some (cell (.pointer none) 135))(u:V b9=some (.cells (Bo 0 0 0 0).toArray 40 (0,0))):
  Bb xE 37 c95b [(8,pv b8),(9,pv b9),(10,.int .i64 er)] [8,9,10] V λvs V1=>vs=[pv b8,pv b9,.int .i64 er]/\V0.sub V1/\V1 b8=some (cell (.pointer none) 135)/\V1 b9=some (.cells (Bo 0 0 0 0).toArray 40 (0,0)):=by
 refine s95b (a:=some ⟨b8,0,none⟩) (b:=some ⟨b9,0,none⟩) (c:=er) ?_;unfold w95b;refine Ao.cell t ?_;show Ao (Aa (sa b9) 0) 0 _ _ _;refine Ao.at2 (off:=0) (by rw[Mem.set_ne h.symm];exact u) (by simp[Bo]) ⟨_,rfl,rfl,(f.set k _).set g _,by rw[Mem.set_ne h,Mem.set_same],by rw[Mem.set_same];simp[Bo]⟩
theorem segC(f:V b4=some (.cells d.row.toArray 35 (0,0)))(t:V b5=some (.cells m.row.toArray 49 (0,0)))(u:V b8=some (cell (.pointer none) 135)):
  Bb xE 37 c95c [(3,.int .i64 F),(4,pv b4),(5,pv b5),(6,pv b6),(8,pv b8),(9,pv b9),(10,.int .i64 er),(11,pv b11)] [6,8,9,10,11] V λvs V1=>
   vs=[pv b6,pv b8,pv b9,.int .i64 er,pv b11]/\∃p,V p=none/\V1=(V.set p (.cells (AY d F ((0:Nat):Int) ((0:Nat):Int) ((0:Nat):Int) m.gs m.ns Aj).toArray 140 (0,0))).set b8 (cell (pv p) 135):=by
 refine s95c (a:=F) (b:=some ⟨b4,0,none⟩) (c:=some ⟨b5,0,none⟩) (d:=some ⟨b6,0,none⟩) (g:=some ⟨b8,0,none⟩) (i:=some ⟨b9,0,none⟩) (j:=er) (k:=some ⟨b11,0,none⟩) ?_;unfold w95c;refine⟨_,_,_,_,_,_,_,_,An f 0 8 (by simp[Ds.row]),_,_,An t 0 2 (by simp[Mm.row]),λp z=>?_⟩;have h:b8≠p:=λe=>by simp_all
 exact Ao.cell (by rw[Mem.set_ne h];exact u) ⟨_,rfl,rfl,p,z,rfl⟩
theorem segD(k:V b6=some (.cells #[.string nm,l.v] 45 (0,0)))(f:V b8=some (cell (pv p) 135))(h:V b11=some (.cells pr.row.toArray 76 (0,0))):
  Ay xE 37 c95d 0 4 [(6,pv b6),(8,pv b8),(9,pv b9),(10,.int .i64 er),(11,pv b11)] [8,9,10,29,30,32] V λvs V1=>
   vs=[pv b8,pv b9,.int .i64 er,pv p,pr.v,l.v]/\V1=V:=by
 refine s95d (a:=some ⟨b6,0,none⟩) (b:=some ⟨b8,0,none⟩) (c:=some ⟨b9,0,none⟩) (d:=er) (g:=some ⟨b11,0,none⟩) ?_;unfold w95d;exact⟨_,AG f,_,_,_,_,_,An h 0 5 (by simp[Pr.row]),nn,l,An k 1 1 (by simp),_,rfl,rfl,rfl⟩
theorem segE(h:b8≠b9)(k:V0 b9=none){v:Int}(P:PM V0 d p F b8 b9 gs ns ls nd V s c 0 0 0 0):
  Ay xE 37 c95e 5 2 [(8,pv b8),(9,pv b9),(33,.int .i64 v)] [8,9] V λvs V1=>vs=[pv b8,pv b9]/\PM V0 d p F b8 b9 gs ns ls nd V1 s c 0 v 0 0:=by
 refine s95e (a:=some ⟨b8,0,none⟩) (b:=some ⟨b9,0,none⟩) (c:=v) ?_;unfold w95e;exact⟨nn,Ao.at2 (off:=1) P.at9 (by simp[Bo]) ⟨_,rfl,rfl,P.set9 h k (by simp[Bo])⟩⟩
theorem segF(h:b8≠b9)(g:V0 b8=none)(f:V0 b9=none)(P:PM V0 d p F b8 b9 gs ns ls nd V s c 0 a1 0 0):
  Bb xE 37 c95f [(8,pv b8),(9,pv b9)] [8,9,10] V λvs V1=>vs=[pv b8,pv b9,.int .i64 0]/\PM V0 d p F b8 b9 gs ns ls nd V1 s c 0 a1 0 0:=by
 refine s95f (a:=some ⟨b8,0,none⟩) (b:=some ⟨b9,0,none⟩) ?_;unfold w95f;have k:=P.set8 h g (x:=#[pv p]) rfl;refine⟨_,AG P.at8,_,_,_,_,_,An P.at9 0 5 (by simp[Bo]),Ao.cell P.at8 ⟨An k.at9 0 5 (by simp[Bo]),?_⟩⟩;show Ao (Aa (sa b9) 0) 0 _ _ _;exact Ao.at2 (off:=0) k.at9 (by simp[Bo]) ⟨_,rfl,rfl,k.set9 h f (by simp[Bo])⟩
end
section
variable{V0 V:Mem}{d:Ds}{F:Nat}{m:Mm}{nm:KB}{args:List Int}{l:Sl}
theorem QZ(S:ES V0 d F)(L:AP V0 V m.gs m.ns Aj m.nodes (AR m))(hm:Mm.Ok V m)(G:Am d m)(ha:Ad V0 l 1 (args.map Al)):
  Tri xE 95 #[d.v,m.v,.agg #[.string nm,l.v],.int .i64 F] V (PlayP V0 d F m nm args V):=by
 unfold Go.Sx.Tri;intro w hV;refine(callsIn_wide (n:=0)).1 (callsIn_of_wp_defers (F:=AM none) Tryz.func95 (c:=AN wi) (by kernel_rfl) trivial (Hv ?_) rfl);rw[play_flat];obtain⟨pr,hpr⟩:∃pr,pr=if AQ d m nm args=0 then(d.procs[(AD d nm).toNat]?).getD noPr else noPr:=⟨_,rfl⟩
 refine(segA (F:=F) (S.ds.sub L.sub) hm G (ha.sub L.sub) hpr).step hV (K5 (args:=[d.v,m.v,.agg #[.string nm,l.v],.int .i64 F]) (N:=37) (by simp)) ?_;rintro a1 w1 vs V1 hd1 K ⟨b4,b5,b6,b8,b9,b11,rfl,s1,f8,f9,j,e4,e5,e6,e8,e9,e11⟩ J;have v8:=free L.sub f8;have v9:=free L.sub f9;have h20:a1.eval (.tmp 20)=.bool (!(decide (AQ d m nm args=0))):=K.get rfl;show wG (AM none) 0 xE playI _ a1 w1;rw[playI_eq];by_cases hc:AQ d m nm args=0
 ·refine wpIn_cond_false (by grind) (wpIn_skip ?_);show C7 none 0 xE _ (c95c++Gg::playR::(c95f++[.ret])) a1 w1;refine(segC (F:=F) (m:=m) e4 e5 e8).step J.le (Le K (by
   intro x A;simp only[yC,xC,or_false]at A;rcases A with rfl|rfl|rfl|rfl|rfl|rfl|rfl|rfl<;>rfl)) ?_
  rintro a2 w2 vs V2 T u ⟨rfl,p,hp,X⟩ g;have hp8:b8≠p:=λe=>by simp_all
  have s2:V1.sub (V1.set p (.cells (AY d F ((0:Nat):Int) ((0:Nat):Int) ((0:Nat):Int) m.gs m.ns Aj).toArray 140 (0,0))):=Mem.sub_new hp _;have L1:=(L.grow s1).grow s2;have L2:AP V0 V2 m.gs m.ns Aj m.nodes (AR m):=by
   rw[X];exact L1.put (Nb (s2 _ _ e8) (by unfold NT;decide)) v8 _
  have p0:V0 p=none:=free (L.sub.trans s1) hp;obtain⟨W,w0,wp,wV,LW,hW⟩:=L2.base p0;have hat:V2 p=some (.cells (AY d F ((0:Nat):Int) ((0:Nat):Int) ((0:Nat):Int) m.gs m.ns Aj).toArray 140 (0,0)):=by rw[X,Mem.set_ne hp8.symm,Mem.set_same]
  have keep:∀{b:Nat}{o:Obj},V1 b=some o->b≠b8->V2 b=some o:=λ{b o} hb hne=>by rw[X,Mem.set_ne hne];exact s2 _ _ hb
  have I:V2 b8=some (cell (pv p) 135):=by rw[X,Mem.set_same]
  have n6:b6≠b8:=λe=>by simp_all
  have n11:b11≠b8:=λe=>by simp_all
  have B:=keep e9 j.symm;have hp9:b9≠p:=λe=>by simp_all
  have W8:W b8=some (cell (pv p) 135):=hW _ _ I hp8 (Nb I (by unfold NT;decide));have W9:W b9=some (.cells (Bo 0 0 0 0).toArray 40 (0,0)):=hW _ _ B hp9 (Nb B (by unfold NT;decide));have MW:EM W d p F V2 (AR m) 0:=⟨wp,m.gs,m.ns,Aj,m.nodes,hat,LW⟩;obtain⟨i,q,hi,hq,hval⟩:=Je hc;have hpq:pr=q:=by simp_all
  have hG:=Hz G;have hvs:Aw d (AR m).mm q.params args=true:=BQ (Ie (Ge m).symm) hval;obtain⟨r,hr⟩:∃r:Rx Int,r=BP d F (i:Int) args (AR m):=⟨_,rfl⟩;have H:Tri xE 145 #[pv p,pr.v,l.v] V2 (PX W d p F 0 r):=by
   rw[hr,hpq];exact runC (allC d p F (F+1)) W V2 (AR m) 0 i q args l (S.sub w0) hq hG hvs (ha.sub w0) MW (Nat.zero_le _) (by omega) (by unfold BW;show 0+0+0<=_;omega)
  show wG (AM none) 0 xE Gg _ a2 w2;rw[playD_eq];refine wpIn_region ?_;show wpOpsIn _ _ _ _ _ [0,1] _ _;refine Go.Sx.step_value (o:=(Eg Gg).getD 0 Fo) rfl (by kernel_rfl) (run_makeFunc (f:=.func 144) (first:=#[]) (caps:=#[.tmp 9,.tmp 8]) (by kernel_rfl)) ?_;have g8:a2.eval (.tmp 8)=pv b8:=u.get rfl;have g9:a2.eval (.tmp 9)=pv b9:=u.get rfl;have hd0:((Eg Gg).getD 0 Fo).dst=some 28:=by kernel_rfl
  have hd1':((Eg Gg).getD 1 Fo).dst=none:=by kernel_rfl
  rw[hd0,show(#[Operand.tmp 9,.tmp 8].map a2.eval)=#[pv b9,pv b8]by simp[g8,g9],show((#[]:Array Operand).map a2.eval)=#[]by simp];have hH3:=Lc u (t:=28) (v:=.func (.func 144) #[] #[pv b9,pv b8]) (by decide);refine Go.Sx.step_defer (o:=(Eg Gg).getD 1 Fo) rfl (by kernel_rfl) (run_deferv (c:={callee:=.value (.tmp 28),args:=#[],argTypes:=#[]}) (fv:=.tmp 28) (f:=.func 144) (first:=#[]) (by kernel_rfl) rfl (hH3.get rfl) (by simp)) ?_;rw[hd1'];show wG (AM none) 0 xE playR _ _ w2;rw[playR_eq];refine wpIn_region ?_;rw[playR_size];show wpOpsIn _ _ _ _ _ (List.range' 0 4++[4,5,6]) _ _;have D:Has 37 _ [(6,pv b6),(8,pv b8),(9,pv b9),(10,.int .i64 (AQ d m nm args)),(11,pv b11)]:=Le hH3 (by
   intro x A;simp only[yC,xC,or_false]at A;rcases A with rfl|rfl|rfl|rfl|rfl<;>rfl)
  refine(segD (pr:=pr) (keep e6 n6) I (keep e11 n11)).step g.le ⟨D.1,D.2⟩ ?_;rintro M w4 vs V4 hd4 z ⟨rfl,rfl⟩ C;have hdf:M.defers=[{target:=.fn (.func 144) #[pv b9,pv b8],args:=#[]++#[]}]:=by
   rw[hd4];show _::a2.defers=_;rw[T,hd1]
  have inv:∀w',(invoke (.fn (.func 144) #[pv b9,pv b8]) (#[]++#[])).run xE w'=.ok (.enter 144 #[pv b9,pv b8]) w':=λw'=>by simp[invoke]
  have q29:M.eval (.tmp 29)=pv p:=z.get rfl;have q30:M.eval (.tmp 30)=pr.v:=z.get rfl;have q32:M.eval (.tmp 32)=l.v:=z.get rfl;have t8:M.tmps.getD 8 undef=pv b8:=z.get rfl;have t9:M.tmps.getD 9 undef=pv b9:=z.get rfl;have t10:M.tmps.getD 10 undef=.int .i64 0:=by rw[<-hc];exact z.get rfl
  have i4:(c95d)[4]?=some ((c95d).getD 4 Fo):=by kernel_rfl
  have d4:((c95d).getD 4 Fo).dst=some 33:=by kernel_rfl
  have U:Jf.args.map M.eval=#[pv p,pr.v,l.v]:=by grind[QY]
  have mk:∀{V':Mem}{s':St}{c':Nat},EM W d p F V' s' c'->∃gs ns ls nd,PM V0 d p F b8 b9 gs ns ls nd V' s' c' 0 0 0 0:=λ{V' s' c'} h=>by
   obtain⟨gs,ns,ls,nd,h1,h2⟩:=h.ex;exact⟨gs,ns,ls,nd,W,w0,wp,h1,h2,W8,W9⟩
  have hrs:(r.st:St)=(BP d F (AD d nm) args (AR m)).st:=by rw[hr,hi]
  refine Go.Sx.step_call i4 (by kernel_rfl) (by simpa using run_callv (c:=Jf) (fv:=playFv) (f:=145) (first:=#[]) (caps:=#[]) (args:=#[pv p,pr.v,l.v]) playCall_op playCall_fv (playFv_eval M) U Tryz.call145) C.le H ?_ ?_ ?_
  ·intro ch V' w' E Z;cases r with
   |ok v s'=>cases E.1
   |bad k s'=>
    obtain⟨he,c',hm'⟩:=E;have hch:ch=[{v:=fltVE k,recovered:=false}]:=by
     unfold fltE at he;injection he
    subst hch;obtain⟨gs,ns,ls,nd,P⟩:=mk hm';show LeavesIn (AM none) 0 xE _ _ _ M.defers _ w';rw[hdf];refine⟨nofun,(λh=>by simp[AM,Fence.wide]at h),_,_,_,_,rfl,inv w',λ_ _=>trivial,OE (lateC j v9 P Z.le (f:=k) (.inr rfl)) ?_⟩;rintro e u' w'' ⟨⟨v,rfl⟩,⟨V6,y,P6⟩,⟨h,-⟩|rfl⟩;·cases h
    ·refine⟨_,Ld t8 t9 t10 (y.le _ _ P6.at8) (y.le _ _ P6.at9),V6,.inr ⟨hc,p,c',.bad k s',by rw[hr,hi],P6.em,rfl⟩,(((J.trans g).trans C).trans Z).trans y⟩
  ·intro v V' w' E Z;cases r with
   |bad k s'=>cases E.1
   |ok x s'=>
    obtain⟨he,hm'⟩:=E;cases he;rw[d4];obtain⟨gs,ns,ls,nd,P⟩:=mk hm';have hH5:=Lc z (t:=33) (v:=.int .i64 x) (by decide);show wpOpsIn _ _ _ _ _ (List.range' 5 2++[]) _ w';rw[playde];refine(segE j v9 (v:=x) P).step Z.le (Le ⟨hH5.1,hH5.2⟩ (by
     intro x A;simp only[yC,xC,or_false]at A;rcases A with rfl|rfl|rfl<;>rfl)) ?_
    rintro a6 w6 vs V6 hd6 hH6 ⟨rfl,P6⟩ y;show C7 none 0 xE _ (c95f++[.ret]) a6 w6;refine(segF j v8 v9 P6).step y.le hH6 ?_;rintro a7 w7 vs V7 hd7 Y ⟨rfl,P7⟩ hF7;show wG (AM none) 0 xE .ret _ a7 w7;refine wpIn_ret ?_;show LeavesIn (AM none) 0 xE _ _ _ a7.defers _ w7;have hdf7:a7.defers=_:=(hd7.trans hd6).trans hdf;rw[hdf7];refine⟨nofun,(λh=>by simp[AM,Fence.wide]at h),_,_,_,_,rfl,inv w7,λ_ _=>trivial,OE (lateC j v9 P7 hF7.le (f:=0) (.inl ⟨rfl,rfl⟩)) ?_⟩;rintro e u' w'' ⟨⟨v,rfl⟩,⟨V8,O,P8⟩,⟨-,rfl⟩|rfl⟩;·refine⟨_,Ld (Y.get rfl) (Y.get rfl) (Y.get rfl) (O.le _ _ P8.at8) (O.le _ _ P8.at9),V8,.inr ⟨hc,p,0,.ok x s',by rw[hr,hi],P8.em,rfl⟩,((((((J.trans g).trans C).trans Z).trans y).trans hF7).trans O)⟩
    ·refine⟨_,Ld (Y.get rfl) (Y.get rfl) (Y.get rfl) (O.le _ _ P8.at8) (O.le _ _ P8.at9),V8,.inr ⟨hc,p,0,.ok x s',by rw[hr,hi],P8.em,rfl⟩,((((((J.trans g).trans C).trans Z).trans y).trans hF7).trans O)⟩
  ·intro V' E;cases r with
   |ok v s'=>cases E.1
   |bad k s'=>cases E.1
 ·refine wpIn_cond_true (by grind) (Hv ?_);rw[playK_flat];refine(segB j f8 f9 s1 e8 e9).step J.le (Le K (by
   intro x A;simp only[yC,xC,or_false]at A;rcases A with rfl|rfl|rfl<;>rfl)) ?_
  rintro a2 w2 vs V2 T u ⟨rfl,s2,I,B⟩ g;show wG (AM none) 0 xE .ret _ a2 w2;refine wpIn_ret ?_;show LeavesIn (AM none) 0 xE _ _ _ a2.defers _ w2;rw[T,hd1];exact⟨_,Ld (u.get rfl) (u.get rfl) (u.get rfl) (g.le _ _ I) (g.le _ _ B),V2,.inl ⟨hc,s2,rfl⟩,J.trans g⟩
end
section
variable{V:Mem}{d:Ds}{F:Nat}{m m':Mm}{nm:KB}{args:List Int}{l:Sl}
theorem values_plain(h:m.plain=m'.plain){t:List Fld}{vs:List Int}:Aw d m t vs=Aw d m' t vs:=by
 rw[Bool.eq_iff_iff];grind[BQ,Ie]
theorem Ij(h:m.plain=m'.plain):AQ d m nm args=AQ d m' nm args:=by
 grind[AQ,values_plain]
noncomputable def EX(d:Ds)(m:Mm)(nm:KB)(args:List Int)(F:Int):Int:=if C8 d m F=0 then AQ d m nm args else C8 d m F
theorem OG{F:Int}(h:C8 d m F=0):Am d m:=by
 grind[C8]
theorem Lf(hm:Mm.Ok V m){V':Mem}{gs ns:Sl}{nd:List Nd}(L:AP V V' gs ns Aj nd (AR m)):Mm.Ok V' ⟨gs,m.globals,ns,nd⟩/\(⟨gs,m.globals,ns,nd⟩:Mm).plain=m.plain:=by
 have h:(⟨gs,m.globals,ns,nd⟩:Mm).plain=m.plain:=by
  unfold Mm.plain;rw[L.eq];rfl
 refine⟨⟨L.glob.rows (λ_=>rfl) (by decide),hm.gIn,L.nodes.rows (λ_=>rfl) (by decide),λn k=>?_⟩,h⟩;obtain⟨i,hi⟩:=xn.1 k;obtain⟨y,f,t,u⟩:=Jd h hi;have g:=hm.nodesOk y (List.mem_of_getElem? f);exact⟨(L.fld n k).rows (λ_=>rfl) (by decide),by rw[<-t];exact g.tyIn,by rw[<-u];exact g.vals⟩
def StartP(V:Mem)(d:Ds)(F:Nat)(m:Mm)(nm:KB)(args:List Int):Ending->Mem->Prop:=λe V'=>
 (EX d m nm args F≠0/\V.sub V'/\e=.returned (.tuple #[.pointer none,.agg (Bo 0 0 0 0).toArray,.int .i64 (EX d m nm args F)]))∨
 (EX d m nm args F=0/\∃p c,∃r:Rx Int,r=BP d F (AD d nm) args (AR m)/\EM V d p F V' r.st c/\e=.returned (.tuple #[pv p,.agg (Bo (DI r) (outV r) r.st.cm (Be r.st.lg)).toArray,.int .i64 0]))
theorem Q0[Tab V](x:Ds.Ok V d)(hm:Mm.Ok V m)(N:Ad V l 1 (args.map Al))(Z:F<=4000):Tri xE 64 #[d.v,m.v,.agg #[.string nm,l.v],.int .i64 F] V (StartP V d F m nm args):=by
 refine P5 (R:=StartP V d F m nm args) ?_;refine(QV x hm).call ⟨_,rfl,λq=>?_,λq=>?_⟩
 ·have G:=OG q;have k:EX d m nm args F=AQ d m nm args:=by grind[EX]
  obtain⟨p1,Y,p3,K,O⟩:=BD G.mem;have A:=Ja G.valid;refine Tri.mono (QW hm (by grind[Cm]) Y λn b=>?_) ?_
  ·have:=(Cm.1 (O n b)).1;have I:=of_decide_eq_true (p3 n b);obtain⟨j,X⟩:∃j:Nat,n.ty=(j:Int):=⟨n.ty.toNat,by omega⟩;have g:j<d.types.length:=by omega
   have B:=yv g;rw[X,Ef B rfl]at this;grind
  rintro _ V1 ⟨gs,ns,nd,rfl,L⟩;obtain⟨t,J⟩:=Lf hm L;have C:Am d ⟨gs,m.globals,ns,nd⟩:=⟨G.valid,G.chk,M9 J.symm G.mem⟩;have u:AR ⟨gs,m.globals,ns,nd⟩=AR m:=by
   unfold AR;rw[show nd.map (λn=>(n.ty,n.f))=m.nodes.map (λn=>(n.ty,n.f))from L.eq]
  have D:AP V V1 gs ns Aj nd (AR ⟨gs,m.globals,ns,nd⟩):=by grind
  refine⟨gs,ns,rfl,Tri.mono (QZ (m:=⟨gs,m.globals,ns,nd⟩) ⟨x,G.valid,I1 G.valid G.chk,Z⟩ D t C N) ?_⟩;have h:AQ d ⟨gs,m.globals,ns,nd⟩ nm args=AQ d m nm args:=Ij J;rintro e V2 (⟨z,y,rfl⟩|⟨z,p,c,r,E,M,rfl⟩)
  ·rw[h]at z⊢;exact⟨_,_,_,_,_,_,_,rfl,.inl ⟨by omega,L.sub.trans y,by rw[k];rfl⟩⟩
  ·rw[h]at z;exact⟨_,_,_,_,_,_,_,rfl,.inr ⟨by omega,p,c,r,by rw[E,u],M,rfl⟩⟩
 ·have k:EX d m nm args F=C8 d m F:=by grind[EX]
  exact .inl ⟨by omega,Mem.sub.refl _,by rw[k];rfl⟩
def RunP(V:Mem)(d:Ds)(F:Nat)(m:Mm)(nm:KB)(args:List Int):Ending->Mem->Prop:=λe V'=>
 (EX d m nm args F≠0/\V.sub V'/\e=.returned (.tuple #[.agg (Bo 0 0 0 0).toArray,.agg #[Aj.v,Aj.v],.int .i64 (EX d m nm args F)]))∨
 (EX d m nm args F=0/\∃r:Rx Int,∃gs ns ls nd,r=BP d F (AD d nm) args (AR m)/\AP V V' gs ns ls nd r.st/\e=.returned (.tuple #[.agg (Bo (DI r) (outV r) r.st.cm (Be r.st.lg)).toArray,.agg #[gs.v,ns.v],.int .i64 0]))
theorem OH[Tab V](f:Ds.Ok V d)(hm:Mm.Ok V m)(t:Ad V l 1 (args.map Al))(u:F<=4000):Tri xE 31 #[d.v,m.v,.agg #[.string nm,l.v],.int .i64 F] V (RunP V d F m nm args):=by
 refine Px (R:=RunP V d F m nm args) ?_;refine Tri.mono (Q0 f hm t u) ?_;rintro e V1 (⟨g,z,rfl⟩|⟨g,p,c,r,y,M,rfl⟩);·exact⟨_,_,_,_,_,_,_,rfl,λh=>absurd h g,λ_=>.inl ⟨g,z,rfl⟩⟩
 ·obtain⟨gs,ns,ls,nd,k,L⟩:=M.ex;exact⟨_,_,_,_,_,_,_,rfl,λ_=>⟨nn,nn,gs,ns,An k 8 2 (by simp[AY]),EW k 8 0 2 (by simp[AY]),nn,nn,.inr ⟨g,r,gs,ns,ls,nd,y,L,rfl⟩⟩,λh=>absurd rfl h⟩
end
theorem HA{p q B X:Prop}(g:(¬p∨¬q)->X)(f:p->q->B):Br p (Br q B X) X:=⟨λh=>⟨λk=>f h k,λk=>g (.inr k)⟩,λh=>g (.inl h)⟩
theorem take_eq{α:Type}{xs ys:List α}{i:Nat}{x y:α}(h:xs.take i=ys.take i)(k:xs[i]?=some x)(g:ys[i]?=some y)(e:x=y):xs.take (i+1)=ys.take (i+1):=by
 grind[wc]
section
variable{V:Mem}{d:Ds}{m:Mm}
def RI(V:Mem):Ending->Mem->Prop:=λe V'=>V=V'/\∃r:Int,e=.returned (.int .i64 r)/\-1<=r/\r<=2000
def RY(V:Mem):Ending->Mem->Prop:=λe V'=>V=V'/\∃b:Bool,e=.returned (.bool b)
theorem RI.mk{r:Int}(h:-1<=r/\r<=2000):RI V (.returned (.int .i64 r)) V:=⟨rfl,r,rfl,h⟩
theorem RY.mk{b:Bool}:RY V (.returned (.bool b)) V:=⟨rfl,b,rfl⟩
theorem leftC:∀(k:Nat),k<=65->∀(e:E)(n:Int),E.Ok V e->-1<=n->n<=2000->Tri xE 134 #[e.v,.int .i64 k,.int .i64 n] V (RI V):=by
 intro k;induction k with
 |zero=>
  intro _ e n z h1 h2;refine Tri.mono (x134 (R:=RI V) ?_) λ_ _ h=>h;exact⟨λ_=>.mk ⟨by omega,by omega⟩,λ_=>⟨λ_=>.mk ⟨by omega,by omega⟩,λh=>absurd rfl h⟩⟩
 |succ k q=>
  intro Z e n z h1 h2;refine Tri.mono (x134 (R:=RI V) ?_) λ_ _ h=>h;refine⟨λ_=>.mk ⟨by omega,by omega⟩,λh3=>⟨λ_=>.mk ⟨by omega,by omega⟩,λ_=>⟨λ_=>.mk ⟨by omega,by omega⟩,λ_=>⟨⟨by omega,by omega⟩,?_⟩⟩⟩⟩;have h3:¬n<=0:=h3;refine FA (mk:=.int .i64) (b0:=n-1) CY e.k.length (λi a V1=>V=V1/\-1<=a/\a<=2000) ⟨rfl,by omega,by omega⟩ ?_;rintro i a V1 J hi ⟨rfl,f,t⟩ b;refine HA (λ_=>.mk ⟨f,t⟩) (λg Y=>?_);obtain⟨x,y,O,-,j,G,N,u⟩:=z.rows.get g;refine⟨G,N,g,_,_,_,_,u,⟨by omega,by omega⟩,?_⟩;rw[show((k+1:Nat):Int)-1=(k:Int)by omega];refine Tri.mono (q (by omega) x a (z.kids x y) f t) ?_;rintro _ _ ⟨rfl,r,rfl,h4⟩;exact⟨_,rfl,z.rows.succ g,b j _ _ ⟨rfl,h4⟩⟩
theorem leftAllC:∀(k:Nat),k<=65->∀(s:Sl)(xs:List S)(n:Int),Ad V s 5 (xs.map S.row)->(∀x∈xs,S.Ok V x)->-1<=n->n<=2000->Tri xE 133 #[s.v,.int .i64 k,.int .i64 n] V (RI V):=by
 intro k;induction k with
 |zero=>
  intro _ s xs n O ho h1 h2;refine Tri.mono (x133 (R:=RI V) ?_) λ_ _ h=>h;exact⟨λ_=>.mk ⟨by omega,by omega⟩,λh=>absurd rfl h⟩
 |succ k ih=>
  intro hk s xs n O ho h1 h2;refine Tri.mono (x133 (R:=RI V) ?_) λ_ _ h=>h;refine⟨λ_=>.mk ⟨by omega,by omega⟩,λ_=>?_⟩;refine Hl (mk:=.int .i64) (mc:=.int .i64) 0 n CY xs.length (λi a V1=>V=V1/\-1<=a/\a<=2000) ⟨rfl,h1,h2⟩ ?_;rintro i b a V1 J hi ⟨rfl,A,I⟩ hJ;refine HA (λ_=>.mk ⟨A,I⟩) (λf hn=>?_);have hn:0<=a:=hn;obtain⟨x,M,hx,-,N,G,Z,g⟩:=O.get f;have L:=ho x M;cases x with
  |mk op sn el es ll ls xl X=>
  cases L with
  |mk he B hl C D E hop=>
  have Y:=Ak (n:=i*5) G;have t:=O.succ f;refine⟨⟨by omega,by omega⟩,G,Z,f,Y,_,_,_,_,_,g,λ_=>.mk ⟨by omega,by omega⟩,λ_=>?_⟩;refine FA (mk:=.int .i64) (b0:=a-1) CY es.length (λj c V2=>V=V2/\-1<=c/\c<=2000) ⟨rfl,by omega,by omega⟩ ?_;rintro j c V2 J1 hj ⟨rfl,z,q⟩ K;have ek:((k+1:Nat):Int)-1=(k:Int):=by omega
  refine⟨G,Z,f,Y,_,_,_,_,_,g,HA (λ_=>⟨λT=>⟨G,Z,f,Y,_,_,_,_,_,g,⟨by omega,by omega⟩,?_⟩,λT=>⟨λh=>absurd h T,λ_=>⟨t,hJ N _ _ _ ⟨rfl,z,q⟩⟩⟩⟩) (λu T=>?_)⟩
  ·rw[ek];refine Tri.mono (ih (by omega) ll ls c hl C z q) ?_;rintro _ _ ⟨rfl,r,rfl,h3⟩;refine⟨_,rfl,λhr0=>⟨G,Z,f,Y,_,_,_,_,_,g,⟨by omega,by omega⟩,Tri.mono (ih (by omega) xl X r D E h3.1 h3.2) ?_⟩,λ_=>⟨t,hJ N _ _ _ ⟨rfl,h3⟩⟩⟩;rintro _ _ ⟨rfl,r2,rfl,h4⟩;simp_all
  ·obtain⟨y,U,hy,-,hjl,hpy,hzy,e⟩:=he.get u;refine⟨G,Z,f,Y,_,_,_,_,_,g,hpy,hzy,u,_,_,_,_,e,Tri.mono (leftC 65 (by omega) y c (B y U) z q) ?_⟩;rintro _ _ ⟨rfl,r,rfl,h3⟩;exact⟨_,rfl,he.succ u,K hjl _ _ ⟨rfl,h3⟩⟩
theorem wideC{l:Sl}{xs:List Fld}(u:Ad V l 2 (xs.map Fld.row)):Tri xE 132 #[l.v] V (RY V):=by
 refine Tri.mono (x132 (R:=RY V) ?_) λ_ _ h=>h;refine⟨λ_=>.mk,λ_=>AU (mk:=.bool) (b0:=false) xs.length (λi V1=>V=V1) rfl ?_⟩;rintro i b V1 J hi rfl j;refine⟨λk=>?_,λ_=>.mk⟩;obtain⟨x,r,q,-,f,t,z,g⟩:=u.get k;have y:=Ak (n:=i*2) t;exact⟨t,z,k,y,_,_,g,λ_=>.mk,λ_=>⟨t,z,k,y,_,_,g,λ_=>.mk,λ_=>⟨u.succ k,j f _ _ rfl⟩⟩⟩
theorem overC(j:Ds.Ok V d){n:Int}(h1:-1<=n)(h2:n<=2000):Tri xE 85 #[d.v,.int .i64 n] V (RY V):=by
 refine Tri.mono (Qk (R:=RY V) ?_) λ_ _ h=>h;refine⟨λ_=>.mk,λ_=>⟨λ_=>.mk,λ_=>⟨λ_=>.mk,λ_=>⟨λ_=>.mk,λ_=>⟨λ_=>.mk,λ_=>⟨λ_=>.mk,λ_=>⟨λ_=>.mk,λ_=>Tri.mono (wideC j.globals) ?_⟩⟩⟩⟩⟩⟩⟩;rintro _ _ ⟨rfl,b,rfl⟩;refine⟨_,rfl,λ_=>.mk,λ_=>AU (mk:=.bool) (b0:=false) d.types.length (λi V1=>V=V1) rfl ?_⟩;rintro i b V1 J hi rfl G;refine⟨λk=>?_,λ_=>?_⟩
 ·obtain⟨x,u,N,-,z,y,q,g⟩:=j.types.get k;have e:=Ak (n:=i*2) y;refine⟨y,q,k,e,_,_,g,λ_=>.mk,λ_=>⟨y,q,k,e,_,_,g,Tri.mono (wideC (j.typesOk x u).fields) ?_⟩⟩;rintro _ _ ⟨rfl,b,rfl⟩;exact⟨_,rfl,λ_=>.mk,λ_=>⟨j.types.succ k,G z _ _ rfl⟩⟩
 refine Hl (mk:=.bool) (mc:=.int .i64) b n CY d.procs.length (λi a V1=>V=V1/\-1<=a/\a<=2000) ⟨rfl,h1,h2⟩ ?_;rintro i b a V1 J hi ⟨rfl,f,t⟩ G;refine HA (λ_=>?_) (λk Z=>?_);rotate_left
 ·obtain⟨x,u,N,-,z,y,q,g⟩:=j.procs.get k;have Y:=j.procsOk x u;refine⟨y,q,k,_,_,_,_,_,g,λ_=>.mk,λ_=>⟨λ_=>.mk,λ_=>Tri.mono (wideC Y.params) ?_⟩⟩;rintro _ _ ⟨rfl,b1,rfl⟩;refine⟨_,rfl,λ_=>.mk,λ_=>Tri.mono (wideC Y.locals) ?_⟩;rintro _ _ ⟨rfl,b2,rfl⟩;refine⟨_,rfl,λ_=>.mk,λ_=>Tri.mono (leftAllC 65 (by omega) x.bs x.body a Y.body Y.stmts f t) ?_⟩;rintro _ _ ⟨rfl,r,rfl,h3⟩;exact⟨_,rfl,j.procs.succ k,G z _ _ _ ⟨rfl,h3⟩⟩
 refine Hl (mk:=.bool) (mc:=.int .i64) b a CY d.measures.length (λi a V1=>V=V1/\-1<=a/\a<=2000) ⟨rfl,f,t⟩ ?_;clear G;rintro i b a V1 J hi ⟨rfl,f,t⟩ G;refine HA (λ_=>?_) (λk Z=>?_);rotate_left
 ·obtain⟨x,u,N,-,z,y,q,g⟩:=j.measures.get k;have e:=Ak (n:=i*7) y;refine⟨y,q,k,e,_,_,_,_,_,_,_,g,λ_=>.mk,λ_=>⟨y,q,k,e,_,_,_,_,_,_,_,g,λ_=>.mk,λ_=>⟨y,q,k,e,_,_,_,_,_,_,_,g,Tri.mono (leftC 65 (by omega) x.x a (j.measuresOk x u).x f t) ?_⟩⟩⟩;rintro _ _ ⟨rfl,r,rfl,h3⟩;exact⟨_,rfl,j.measures.succ k,G z _ _ _ ⟨rfl,h3⟩⟩
 refine Hl (mk:=.bool) (mc:=.int .i64) b a CY d.invs.length (λi a V1=>V=V1/\-1<=a/\a<=2000) ⟨rfl,f,t⟩ ?_;clear G;rintro i b a V1 J hi ⟨rfl,f,t⟩ G;refine HA (λ_=>?_) (λk Z=>?_);rotate_left
 ·obtain⟨x,u,N,-,z,y,q,g⟩:=j.invs.get k;have e:=Ak (n:=i*6) y;refine⟨y,q,k,e,_,_,_,_,_,_,g,λ_=>.mk,λ_=>⟨y,q,k,e,_,_,_,_,_,_,g,λ_=>.mk,λ_=>⟨y,q,k,e,_,_,_,_,_,_,g,Tri.mono (leftC 65 (by omega) x.x a (j.invsOk x u) f t) ?_⟩⟩⟩;rintro _ _ ⟨rfl,r,rfl,h3⟩;exact⟨_,rfl,j.invs.succ k,G z _ _ _ ⟨rfl,h3⟩⟩
 refine Hl (mk:=.bool) (mc:=.int .i64) b a CY d.pots.length (λi a V1=>V=V1/\-1<=a/\a<=2000) ⟨rfl,f,t⟩ ?_;clear G;rintro i b a V1 J hi ⟨rfl,f,t⟩ G;refine HA (λ_=>?_) (λk Z=>?_);rotate_left
 ·obtain⟨x,u,N,-,z,y,q,g⟩:=j.pots.get k;have e:=Ak (n:=i*5) y;refine⟨y,q,k,e,_,_,_,_,_,g,λ_=>.mk,λ_=>⟨y,q,k,e,_,_,_,_,_,g,Tri.mono (leftC 65 (by omega) x.x a (j.potsOk x u) f t) ?_⟩⟩;rintro _ _ ⟨rfl,r,rfl,h3⟩;exact⟨_,rfl,j.pots.succ k,G z _ _ _ ⟨rfl,h3⟩⟩
 refine Hl (mk:=.bool) (mc:=.int .i64) b a CY d.bounds.length (λi a V1=>V=V1/\-1<=a/\a<=2000) ⟨rfl,f,t⟩ ?_;clear G;rintro i b a V1 J hi ⟨rfl,f,t⟩ G;refine HA (λ_=>.mk) (λk Z=>?_);obtain⟨x,u,N,-,z,y,q,g⟩:=j.bounds.get k;have e:=Ak (n:=i*5) y;refine⟨y,q,k,e,_,_,_,_,_,g,λ_=>.mk,λ_=>⟨y,q,k,e,_,_,_,_,_,g,Tri.mono (leftC 65 (by omega) x.x a (j.boundsOk x u) f t) ?_⟩⟩;rintro _ _ ⟨rfl,r,rfl,h3⟩;exact⟨_,rfl,j.bounds.succ k,G z _ _ _ ⟨rfl,h3⟩⟩
theorem greatC(k:Ds.Ok V d):Tri xE 52 #[d.v] V (RY V):=by
 refine Tri.mono (PN (R:=RY V) ?_) λ_ _ h=>h;refine Tri.mono (overC k (n:=2000) (by omega) (by omega)) ?_;rintro _ _ ⟨rfl,b,rfl⟩;exact⟨_,rfl,.mk⟩
theorem OI{s t:Sl}{xs ys:List Int}(h:Ad V s 1 (xs.map Al))(k:Ad V t 1 (ys.map Al)):PP 58 [.slice s.p s.n s.c,.slice t.p t.n t.c] V (.bool (decide (xs=ys))):=by
 refine PW ?_;have G:=h.n_eq;have N:=k.n_eq;refine⟨λq=>?_,λq=>?_⟩
 ·refine AU (mk:=.bool) (b0:=false) xs.length (λi V1=>V=V1/\xs.take i=ys.take i) ⟨rfl,rfl⟩ ?_;rintro i b V1 J hi ⟨rfl,Z⟩ Y;refine⟨λg=>?_,λO=>?_⟩
  ·obtain⟨x,A,I,-,z,M,L,u⟩:=h.get g;obtain⟨y,X,B,-,C,j,r,f⟩:=k.get (i:=i) (by omega);refine⟨M,L,g,_,u,j,r,by omega,_,f,λv=>⟨h.succ g,Y z _ _ ⟨rfl,take_eq Z I B v⟩⟩,λv=>?_⟩;rw[decide_eq_false λe=>?_];·simp_all
   simp_all
  grind
 ·rw[decide_eq_false λe=>q (by rw[G,N,e])];simp_all
theorem plain_ext{a b:Mm}(h:a.globals=b.globals)(k:(a.nodes.map λn=>(n.ty,n.f))=b.nodes.map λn=>(n.ty,n.f)):a.plain=b.plain:=by grind[Mm.plain]
instance:DecidableEq (List Int×List (Int×List Int)):=inferInstance
theorem Q1{a b:Mm}(z:Mm.Ok V a)(N:Mm.Ok V b):PP 25 [a.v,b.v] V (.bool (decide (a.plain=b.plain))):=by
 refine Ps ?_;have K:=z.nodes.n_eq;have S:=N.nodes.n_eq;have Z:a.plain≠b.plain->(Ending.returned (.bool false)=.returned (.bool (decide (a.plain=b.plain)))/\V=V):=λh=>⟨by simp_all,rfl⟩;refine(OI z.globals N.globals).call ⟨_,rfl,λj=>?_,λj=>Z λe=>j (decide_eq_true (wu e).1)⟩;have j:=of_decide_eq_true j;refine⟨λC=>?_,λC=>Z λe=>C (by rw[K,S,Ic e])⟩;refine AU (mk:=.bool) (b0:=false) a.nodes.length (λi V1=>V=V1/\(a.nodes.map λn=>(n.ty,n.f)).take i=(b.nodes.map λn=>(n.ty,n.f)).take i) ⟨rfl,rfl⟩ ?_;rintro i b0 V1 J hi ⟨rfl,O⟩ T;refine⟨λg=>?_,λA=>?_⟩
 ·obtain⟨x,I,hx,-,M,Y,D,u⟩:=z.nodes.get g;obtain⟨y,L,hy,-,U,t,r,k⟩:=N.nodes.get (i:=i) (by omega);have E:(i:Int)<(b.ns.n:Int):=by omega
  have q:(a.nodes.map λn=>(n.ty,n.f))[i]?=some (x.ty,x.f):=by simp_all
  have G:(b.nodes.map λn=>(n.ty,n.f))[i]?=some (y.ty,y.f):=by simp_all
  have bad:(x.ty,x.f)≠(y.ty,y.f)->a.plain≠b.plain:=λh e=>h (by rw[show(a.nodes.map λn=>(n.ty,n.f))=b.nodes.map λn=>(n.ty,n.f)from(wu e).2,G]at q;simp_all);refine⟨Y,D,g,Ak Y,_,_,u,t,r,E,Ak t,_,_,k,λX=>⟨Y,D,g,Ak Y,_,_,u,t,r,E,Ak t,_,_,k,(OI (z.nodesOk x I).rows (N.nodesOk y L).rows).call ⟨_,rfl,λB=>⟨z.nodes.succ g,T M _ _ ⟨rfl,take_eq O q G (Prod.ext X (of_decide_eq_true B))⟩⟩,λB=>Z (bad λe=>B (decide_eq_true (wu e).2))⟩⟩,λX=>Z (bad λe=>X (wu e).1)⟩
 ·have hd:=(z.nodes.done A).2;rw[wW (by simp_all),wW (by simp_all)]at O;exact⟨by rw[decide_eq_true (plain_ext j O)],rfl⟩
end
theorem start_ok{d:Ds}{m:Mm}{nm:KB}{args:List Int}{F:Int}(G:Am d m)(h:0<=F/\F<=1048576):EX d m nm args F=AQ d m nm args:=by
 grind[C8,EX]
section
variable{V V0:Mem}{d:Ds}{F:Nat}{m:Mm}{nm:KB}{args:List Int}{l:Sl}
theorem JS(u:Ds.Ok V d){V':Mem}{gs ns ls:Sl}{nd:List Nd}{s:St}(L:AP V V' gs ns ls nd s)(x:Am d s.mm):Mm.Ok V' ⟨gs,s.g,ns,nd⟩/\(⟨gs,s.g,ns,nd⟩:Mm).plain=(s.g,s.ns):=by
 have r:(⟨gs,s.g,ns,nd⟩:Mm).plain=(s.g,s.ns):=by
  unfold Mm.plain;rw[<-L.eq]
 obtain⟨p1,Z,p3,q,b⟩:=BD x.mem;have z:∀{t:List Fld}{vs:List Int},Aw d s.mm t vs=true->∀v∈vs,DX v:=λ{t vs} h v hv=>by
  obtain⟨j,y⟩:=xn.1 hv;obtain⟨e,J⟩:=Cm.1 h;have G:=(yw.1 y).1;have:=J j _ v (yv (by omega)) y;grind[AJ,DX]
 refine⟨⟨L.glob.rows (λ_=>rfl) (by decide),z q,L.nodes.rows (λ_=>rfl) (by decide),λn N=>?_⟩,r⟩;have k:(⟨n.ty,Aj,n.f⟩:Nd)∈s.mm.nodes:=by
  unfold St.mm;rw[<-L.eq];grind
 refine⟨(L.fld n N).rows (λ_=>rfl) (by decide),?_,z (b ⟨n.ty,Aj,n.f⟩ k)⟩;have:=of_decide_eq_true (p3 ⟨n.ty,Aj,n.f⟩ k);have e:d.types.length<=9223372036854775807:=by
  have:=u.types.n_eq;have:=u.types.cap;have:=u.types.fit;omega
 grind[DX]
theorem Nc(G:Am d m)(k:AQ d m nm args=0):Am d (BP d F (AD d nm) args (AR m)).st.mm:=by
 obtain⟨i,q,hi,g,h⟩:=Je k;rw[hi];exact(K2 (F:=F) (I1 G.valid G.chk) g (Hz G) (BQ (Ie (Ge m).symm) h)).good
end
end Go.Proofs
namespace Go.Proofs
open Go Go.Sx
def BM(w:World):Mem:=λb=>w.heap[b]?
theorem heapM_le(w:World):(BM w).le w:=λ_ _ h=>h
theorem Lg{α β:Type}{f:α->Option β}:∀{l:List α}{r:List β},l.mapM f=some r->r.length=l.length/\∀(i:Nat)(a:α),l[i]?=some a->∃b,r[i]?=some b/\f a=some b
 |[],r,h=>by simp_all
 |x::l,r,h=>by
  simp only[List.mapM_cons,Option.bind_eq_bind,wb,Option.pure_def,zF]at h;obtain⟨b,g,t,k,rfl⟩:=h;obtain⟨h1,h2⟩:=Lg k;grind
theorem cells_row{w:World}{a:Addr}{n:Nat}{cs:List Value}(h:w.cells? 0 a n=some cs)(x:0<n):(BM w).row a n=some cs:=by
 unfold World.cells? at h;rw[if_pos (Nat.zero_le _)]at h;obtain⟨h1,h2⟩:=Lg h;have g:∀i,i<n->∃v,cs[i]?=some v/\w.cell? (a.add i)=some v:=λi hi=>h2 i i (by simp[hi]);obtain⟨Z,-,k⟩:=g 0 x;have j:a.add 0=a:=by rfl
 rw[j]at k;unfold World.cell? at k;split at k
 ·rename_i c t fr r;split at k;·cases k
  ·rename_i q;have f:a.spot.isNone=true:=by simp_all
   have y:a.spot=none:=by simp_all
   have z:∀i,i<n->∃v,cs[i]?=some v/\c[a.off+i]?=some v:=λi hi=>by
    obtain⟨v,hv,J⟩:=g i hi;refine⟨v,hv,?_⟩;have e:a.add i=⟨a.block,a.off+i,none⟩:=by
     unfold Addr.add;by_cases G:i=0
     ·subst G;rw[if_pos rfl];cases a with
      |mk b o s=>simp_all
     grind
    grind[World.cell?]
   have u:a.off+n<=c.size:=by
    obtain⟨v,_,J⟩:=z (n-1) (by omega);grind
   have N:cs.length=n:=by rw[h1];simp
   unfold Mem.row BM;simp only[r];rw[if_pos ⟨f,u⟩];congr 1;apply List.ext_getElem?;grind
 ·cases k
section
variable{H:Type}{enc:TypeId×Value->H}{w:World}
noncomputable abbrev TR(enc:TypeId×Value->H)(w:World)(n:Nat)(t:TypeId)(cs:List Value):=wa enc xE w 0 (λ_=>true) true n t cs
theorem rd_str{n:Nat}{t:TypeId}{cs:List Value}{x:DataW H×List MemPlace}(k:xE.underlying t=some .string)(h:TR enc w n t cs=some x):∃s,cs=[.string s]:=by
 cases n with
 |zero=>cases h
 |succ n=>
  unfold TR wa at h;grind
theorem rd_int{n:Nat}{t:TypeId}{cs:List Value}{x:DataW H×List MemPlace}(k:xE.underlying t=some (.int .i64))(h:TR enc w n t cs=some x):∃v:Int,cs=[.int .i64 v]/\yu.min<=v/\v<=yu.max:=by
 cases n with
 |zero=>cases h
 |succ n=>
  unfold TR wa at h;grind[Lit.wf]
theorem rd_slice{α:Type}{row:α->List Value}{ok:α->Prop}{sz n:Nat}{t e:TypeId}{cs:List Value}{x:DataW H×List MemPlace}(q:xE.underlying t=some (.slice e))(Y:xE.cellsOf e=sz)(v:0<sz)(j:∀a,(row a).length=sz)
  (J:∀m,m<n->∀cs x,TR enc w m e cs=some x->∃a,row a=cs/\ok a) (h:TR enc w n t cs=some x):∃(s:Sl)(xs:List α),cs=[.slice s.p s.n s.c]/\Ad (BM w) s sz (xs.map row)/\∀a∈xs,ok a:=by
 cases n with
 |zero=>cases h
 |succ n=>
  have key:∀(a:Addr)(len cap:Nat),TR enc w (n+1) t [.slice (some a) len cap]=some x->∃(xs:List α),Ad (BM w) ⟨some a,len,cap⟩ sz (xs.map row)/\∀a∈xs,ok a:=by
   intro a len cap h;unfold TR wa at h;rw[q]at h;simp only at h;split at h;case isFalse=>cases h
   rename_i k;simp only[wb]at h;obtain⟨f,hm,-⟩:=h;obtain⟨h1,h2⟩:=Lg hm;have u:∀i:Fin len,∃y:α,(BM w).row (a.add (i*sz)) sz=some (row y)/\ok y:=by
    intro i;obtain⟨b,-,r⟩:=h2 i i (by simp);simp only[wb]at r;obtain⟨G,N,z⟩:=r;obtain⟨y,O,Z⟩:=J n (w8 n) G _ z;grind[cells_row]
   refine⟨List.ofFn λi=>Classical.choose (u i),⟨by simp,k.2.1,by grind[maxLen],?_,?_⟩,?_⟩;·simp_all
   ·grind
   grind
  have g:cs=[.slice none 0 0]∨∃a len cap,cs=[.slice (some a) len cap]:=by
   unfold TR wa at h;grind
  rcases g with rfl|⟨a,len,cap,rfl⟩;·exact⟨⟨none,0,0⟩,[],rfl,Ad.nil,by simp⟩
  grind
theorem Fp{n:Nat}{t:TypeId}{fs:Array Field}{cs:List Value}{x:DataW H×List MemPlace}(z:xE.underlying t=some (.struct fs))(h:TR enc w n t cs=some x):
  cs.length=xE.cellsOf t/\∃m,m<n/\∀(i:Nat)(f:Field),fs.toList[i]?=some f->∃y,TR enc w m f.type ((cs.drop f.offset).take (xE.cellsOf f.type))=some y:=by
 cases n with
 |zero=>cases h
 |succ n=>
  have key:cs.length=xE.cellsOf t->(∃xs,(fs.toList.mapM λf=>wa enc xE w 0 (λ_=>true) true n f.type ((cs.drop f.offset).take (xE.cellsOf f.type)))=some xs)->
    cs.length=xE.cellsOf t/\∃m,m<n+1/\∀(i:Nat)(f:Field),fs.toList[i]?=some f->∃y,TR enc w m f.type ((cs.drop f.offset).take (xE.cellsOf f.type))=some y:=by
   rintro g ⟨xs,u⟩;refine⟨g,n,w8 n,λi f j=>?_⟩;obtain⟨-,h2⟩:=Lg u;grind
  unfold TR wa at h;rw[z]at h;split at h;all_goals first|(rename_i e;cases e;done)|(rename_i e _;cases e;done)|(rename_i e _ _;cases e;done)|(exact absurd rfl ((by assumption:∀k:Array Field,some (w9 fs)=some (w9 k)->False) fs))|skip
  rename_i e;cases e;split at h
  ·rename_i g;simp only[Option.map_eq_some_iff]at h;obtain⟨xs,u,-⟩:=h;simp_all
  simp_all
end
end Go.Proofs
namespace Go.Proofs
open Go Go.Sx
section
variable{H:Type}{enc:TypeId×Value->H}{w:World}
theorem at1{cs:List Value}{v:Value}{off m:Nat}{t:TypeId}(h:∃y,TR enc w m t ((cs.drop off).take (xE.cellsOf t))=some y)(k:xE.cellsOf t=1)(hv:cs[off]?=some v):∃y,TR enc w m t [v]=some y:=by
 grind[yw,List.drop_eq_getElem_cons]
theorem EL:xE.cellsOf 9=1:=by kernel_rfl
theorem Ik:xE.cellsOf 3=1:=by kernel_rfl
theorem cl22:xE.cellsOf 27=1:=by kernel_rfl
theorem cl23:xE.cellsOf 28=1:=by kernel_rfl
theorem cl24:xE.cellsOf 29=1:=by kernel_rfl
theorem cl25:xE.cellsOf 30=1:=by kernel_rfl
theorem cl26:xE.cellsOf 31=1:=by kernel_rfl
theorem cl27:xE.cellsOf 32=1:=by kernel_rfl
theorem cl28:xE.cellsOf 33=1:=by kernel_rfl
theorem cl38:xE.cellsOf 102=1:=by kernel_rfl
theorem cl52:xE.cellsOf 74=1:=by kernel_rfl
theorem cl40:xE.cellsOf 104=4:=by kernel_rfl
theorem cl67:xE.cellsOf 112=2:=by kernel_rfl
theorem cl94:xE.cellsOf 114=2:=by kernel_rfl
theorem cl54:xE.cellsOf 76=5:=by kernel_rfl
theorem cl75:xE.cellsOf 108=5:=by kernel_rfl
theorem cl97:xE.cellsOf 237=7:=by kernel_rfl
theorem cl58:xE.cellsOf 240=6:=by kernel_rfl
theorem cl61:xE.cellsOf 242=5:=by kernel_rfl
theorem cl64:xE.cellsOf 244=5:=by kernel_rfl
theorem cl30:xE.cellsOf 35=8:=by kernel_rfl
theorem gS{m:Nat}{v:Value}(h:∃y,TR enc w m 9 [v]=some y):∃s,v=.string s:=by
 obtain⟨y,k⟩:=h;obtain⟨s,e⟩:=rd_str Tryz.underlying9 k;exact⟨s,by simpa using e⟩
theorem gI{m:Nat}{v:Value}(h:∃y,TR enc w m 3 [v]=some y):∃n:Int,v=.int .i64 n/\yu.min<=n/\n<=yu.max:=by
 obtain⟨y,k⟩:=h;obtain⟨s,e,h1⟩:=rd_int Tryz.underlying3 k;exact⟨s,by simpa using e,h1⟩
theorem EY{α:Type}{row:α->List Value}{ok:α->Prop}{sz m:Nat}{t e:TypeId}{v:Value}(f:xE.underlying t=some (.slice e))(u:xE.cellsOf e=sz)(g:0<sz)(k:∀a,(row a).length=sz)
  (z:∀m',m'<m->∀cs x,TR enc w m' e cs=some x->∃a,row a=cs/\ok a) (h:∃y,TR enc w m t [v]=some y):∃(s:Sl)(xs:List α),v=.slice s.p s.n s.c/\Ad (BM w) s sz (xs.map row)/\∀a∈xs,ok a:=by
 obtain⟨y,j⟩:=h;obtain⟨s,xs,e,h1,h2⟩:=rd_slice f u g k z j;grind
theorem len2{cs:List Value}(h:cs.length=2):∃a b,cs=[a,b]:=by
 match cs,h with
 |[a,b],_=>simp_all
theorem len4{cs:List Value}(h:cs.length=4):∃a b c d,cs=[a,b,c,d]:=by
 match cs,h with
 |[a,b,c,d],_=>simp_all
theorem len5{cs:List Value}(h:cs.length=5):∃a b c d e,cs=[a,b,c,d,e]:=by
 match cs,h with
 |[a,b,c,d,e],_=>simp_all
theorem len6{cs:List Value}(h:cs.length=6):∃a b c d e f,cs=[a,b,c,d,e,f]:=by
 match cs,h with
 |[a,b,c,d,e,f],_=>simp_all
theorem len7{cs:List Value}(h:cs.length=7):∃a b c d e f g,cs=[a,b,c,d,e,f,g]:=by
 match cs,h with
 |[a,b,c,d,e,f,g],_=>simp_all
theorem len8{cs:List Value}(h:cs.length=8):∃a b c d e f g i,cs=[a,b,c,d,e,f,g,i]:=by
 match cs,h with
 |[a,b,c,d,e,f,g,i],_=>simp_all
theorem rdFld{n:Nat}{cs:List Value}{x:DataW H×List MemPlace}(h:TR enc w n 112 cs=some x):∃f:Fld,Fld.row f=cs/\True:=by
 obtain⟨g,m,-,k⟩:=Fp Tryz.underlying112 h;obtain⟨a,b,rfl⟩:=len2 (g.trans cl67);obtain⟨t,rfl⟩:=gS (at1 (k 0 _ rfl) EL rfl);obtain⟨u,rfl⟩:=gS (at1 (k 1 _ rfl) EL rfl);exact⟨⟨t,u⟩,rfl,trivial⟩
theorem JT:∀(n:Nat)(cs:List Value)(x:DataW H×List MemPlace),TR enc w n 104 cs=some x->∃e:E,E.row e=cs/\E.Ok (BM w) e:=by
 intro n;induction n using yR with
 |_ n f=>
 intro cs x h;obtain⟨t,m,hm,g⟩:=Fp Tryz.underlying104 h;obtain⟨a,b,c,d,rfl⟩:=len4 (t.trans cl40);obtain⟨op,rfl,u⟩:=gI (at1 (g 0 _ rfl) Ik rfl);obtain⟨nn,rfl,z⟩:=gI (at1 (g 1 _ rfl) Ik rfl);obtain⟨s,rfl⟩:=gS (at1 (g 2 _ rfl) EL rfl);obtain⟨l,k,rfl,y,j⟩:=EY (row:=E.row) (ok:=E.Ok (BM w)) vA cl40 (by decide) (λ_=>rfl) (λm' r=>f m' (by omega)) (at1 (g 3 _ rfl) cl38 rfl);exact⟨.mk op nn s l k,rfl,.mk y j u z⟩
theorem S.row_len:∀s:S,(S.row s).length=5:=λs=>by cases s;rfl
theorem Q2:∀(n:Nat)(cs:List Value)(x:DataW H×List MemPlace),TR enc w n 108 cs=some x->∃e:S,S.row e=cs/\S.Ok (BM w) e:=by
 intro n;induction n using yR with
 |_ n r=>
 intro cs x h;obtain⟨q,m,hm,k⟩:=Fp Tryz.underlying108 h;obtain⟨a,b,c,d,e,rfl⟩:=len5 (q.trans cl75);obtain⟨op,rfl,v⟩:=gI (at1 (k 0 _ rfl) Ik rfl);obtain⟨s,rfl⟩:=gS (at1 (k 1 _ rfl) EL rfl);obtain⟨el,es,rfl,g,f⟩:=EY (row:=E.row) (ok:=E.Ok (BM w)) vA cl40 (by decide) (λ_=>rfl) (λm' _=>JT m') (at1 (k 2 _ rfl) cl38 rfl);obtain⟨ll,ls,rfl,t,u⟩:=EY (row:=S.row) (ok:=S.Ok (BM w)) vB cl75 (by decide) S.row_len (λm' z=>r m' (by omega)) (at1 (k 3 _ rfl) cl52 rfl);obtain⟨xl,xs,rfl,y,j⟩:=EY (row:=S.row) (ok:=S.Ok (BM w)) vB cl75 (by decide) S.row_len (λm' z=>r m' (by omega)) (at1 (k 4 _ rfl) cl52 rfl);exact⟨.mk op s el es ll ls xl xs,rfl,.mk g f t u y j v⟩
theorem gF{m:Nat}{v:Value}(h:∃y,TR enc w m 28 [v]=some y):∃(s:Sl)(xs:List Fld),v=.slice s.p s.n s.c/\Ad (BM w) s 2 (xs.map Fld.row):=by
 obtain⟨s,xs,h1,h2,-⟩:=EY (row:=Fld.row) (ok:=λ_=>True) Tryz.underlying28 cl67 (by decide) (λ_=>rfl) (λ_ _ _ _=>rdFld) h;grind
theorem rdTy{n:Nat}{cs:List Value}{x:DataW H×List MemPlace}(h:TR enc w n 114 cs=some x):∃f:Ty,Ty.row f=cs/\Ty.Ok (BM w) f:=by
 obtain⟨t,m,-,g⟩:=Fp Tryz.underlying114 h;obtain⟨a,b,rfl⟩:=len2 (t.trans cl94);obtain⟨u,rfl⟩:=gS (at1 (g 0 _ rfl) EL rfl);obtain⟨l,k,rfl,z⟩:=gF (at1 (g 1 _ rfl) cl23 rfl);exact⟨⟨u,l,k⟩,rfl,⟨z⟩⟩
theorem rdPr{n:Nat}{cs:List Value}{x:DataW H×List MemPlace}(h:TR enc w n 76 cs=some x):∃f:Pr,Pr.row f=cs/\Pr.Ok (BM w) f:=by
 obtain⟨y,m,-,k⟩:=Fp Tryz.underlying76 h;obtain⟨a,b,c,d,e,rfl⟩:=len5 (y.trans cl54);obtain⟨j,rfl⟩:=gS (at1 (k 0 _ rfl) EL rfl);obtain⟨r,q,rfl,g⟩:=gF (at1 (k 1 _ rfl) cl23 rfl);obtain⟨v,rfl⟩:=gS (at1 (k 2 _ rfl) EL rfl);obtain⟨J,G,rfl,t⟩:=gF (at1 (k 3 _ rfl) cl23 rfl);obtain⟨N,Z,rfl,u,z⟩:=EY (row:=S.row) (ok:=S.Ok (BM w)) vB cl75 (by decide) S.row_len (λm' _=>Q2 m') (at1 (k 4 _ rfl) cl52 rfl);exact⟨⟨j,r,q,v,J,G,N,Z⟩,rfl,⟨g,t,u,z⟩⟩
theorem rdMs{n:Nat}{cs:List Value}{x:DataW H×List MemPlace}(h:TR enc w n 237 cs=some x):∃f:Ms,Ms.row f=cs/\Ms.Ok (BM w) f:=by
 obtain⟨q,m,-,k⟩:=Fp Tryz.underlying237 h;obtain⟨a,b,c,d,e,f,g,rfl⟩:=len7 (q.trans cl97);obtain⟨z,rfl⟩:=gS (at1 (k 0 _ rfl) EL rfl);obtain⟨j,rfl⟩:=gS (at1 (k 1 _ rfl) EL rfl);obtain⟨nn,rfl,v⟩:=gI (at1 (k 2 _ rfl) Ik rfl);obtain⟨y,t⟩:=k 3 _ rfl;change TR enc w m 104 (([yp z,.string j,.int .i64 nn,d,e,f,g].drop 3).take (xE.cellsOf 104))=some y at t;rw[cl40]at t;obtain⟨x,r,u⟩:=JT m _ _ t;simp only[vC,vD,vF,vG,E.row,yD,and_true]at r;obtain⟨rfl,rfl,rfl,rfl⟩:=r;exact⟨⟨z,j,nn,x⟩,rfl,⟨u,v⟩⟩
theorem rdIv{n:Nat}{cs:List Value}{x:DataW H×List MemPlace}(h:TR enc w n 240 cs=some x):∃f:Iv,Iv.row f=cs/\E.Ok (BM w) f.x:=by
 obtain⟨q,m,-,k⟩:=Fp Tryz.underlying240 h;obtain⟨a,b,d,e,f,g,rfl⟩:=len6 (q.trans cl58);obtain⟨z,rfl⟩:=gS (at1 (k 0 _ rfl) EL rfl);obtain⟨j,rfl⟩:=gS (at1 (k 1 _ rfl) EL rfl);obtain⟨y,t⟩:=k 2 _ rfl;change TR enc w m 104 (([yp z,.string j,d,e,f,g].drop 2).take (xE.cellsOf 104))=some y at t;rw[cl40]at t;obtain⟨x,r,u⟩:=JT m _ _ t;simp only[vC,vD,vF,vG,E.row,yD,and_true]at r;obtain⟨rfl,rfl,rfl,rfl⟩:=r;exact⟨⟨z,j,x⟩,rfl,u⟩
theorem rdPo{n:Nat}{cs:List Value}{x:DataW H×List MemPlace}(h:TR enc w n 242 cs=some x):∃f:Po,Po.row f=cs/\E.Ok (BM w) f.x:=by
 obtain⟨r,m,-,u⟩:=Fp Tryz.underlying242 h;obtain⟨a,d,e,f,g,rfl⟩:=len5 (r.trans cl61);obtain⟨z,rfl⟩:=gS (at1 (u 0 _ rfl) EL rfl);obtain⟨y,k⟩:=u 1 _ rfl;change TR enc w m 104 (([yp z,d,e,f,g].drop 1).take (xE.cellsOf 104))=some y at k;rw[cl40]at k;obtain⟨x,j,t⟩:=JT m _ _ k;simp only[vC,vD,vF,vG,E.row,yD,and_true]at j;obtain⟨rfl,rfl,rfl,rfl⟩:=j;exact⟨⟨z,x⟩,rfl,t⟩
theorem rdBd{n:Nat}{cs:List Value}{x:DataW H×List MemPlace}(h:TR enc w n 244 cs=some x):∃f:Bd,Bd.row f=cs/\E.Ok (BM w) f.x:=by
 obtain⟨r,m,-,u⟩:=Fp Tryz.underlying244 h;obtain⟨a,d,e,f,g,rfl⟩:=len5 (r.trans cl64);obtain⟨z,rfl⟩:=gS (at1 (u 0 _ rfl) EL rfl);obtain⟨y,k⟩:=u 1 _ rfl;change TR enc w m 104 (([yp z,d,e,f,g].drop 1).take (xE.cellsOf 104))=some y at k;rw[cl40]at k;obtain⟨x,j,t⟩:=JT m _ _ k;simp only[vC,vD,vF,vG,E.row,yD,and_true]at j;obtain⟨rfl,rfl,rfl,rfl⟩:=j;exact⟨⟨z,x⟩,rfl,t⟩
theorem rdDs{n:Nat}{cs:List Value}{x:DataW H×List MemPlace}(h:TR enc w n 35 cs=some x):∃d:Ds,d.row=cs/\Ds.Ok (BM w) d:=by
 obtain⟨t,m,-,k⟩:=Fp Tryz.underlying35 h;obtain⟨a,b,c,d,e,f,g,i,rfl⟩:=len8 (t.trans cl30);obtain⟨u,rfl⟩:=gS (at1 (k 0 _ rfl) EL rfl);obtain⟨z,y,rfl,h1,j⟩:=EY (row:=Ty.row) (ok:=Ty.Ok (BM w)) Tryz.underlying27 cl94 (by decide) (λ_=>rfl) (λ_ _ _ _=>rdTy) (at1 (k 1 _ rfl) cl22 rfl);obtain⟨r,q,rfl,h2⟩:=gF (at1 (k 2 _ rfl) cl23 rfl);obtain⟨v,J,rfl,h3,G⟩:=EY (row:=Pr.row) (ok:=Pr.Ok (BM w)) Tryz.underlying29 cl54 (by decide) (λ_=>rfl) (λ_ _ _ _=>rdPr) (at1 (k 3 _ rfl) cl24 rfl);obtain⟨N,Z,rfl,h4,Y⟩:=EY (row:=Ms.row) (ok:=Ms.Ok (BM w)) Tryz.underlying30 cl97 (by decide) (λ_=>rfl) (λ_ _ _ _=>rdMs) (at1 (k 4 _ rfl) cl25 rfl);obtain⟨O,A,rfl,I,M⟩:=EY (row:=Iv.row) (ok:=λf=>E.Ok (BM w) f.x) Tryz.underlying31 cl58 (by decide) (λ_=>rfl) (λ_ _ _ _=>rdIv) (at1 (k 5 _ rfl) cl26 rfl);obtain⟨L,X,rfl,B,C⟩:=EY (row:=Po.row) (ok:=λf=>E.Ok (BM w) f.x) Tryz.underlying32 cl61 (by decide) (λ_=>rfl) (λ_ _ _ _=>rdPo) (at1 (k 6 _ rfl) cl27 rfl);obtain⟨D,K,rfl,S,T⟩:=EY (row:=Bd.row) (ok:=λf=>E.Ok (BM w) f.x) Tryz.underlying33 cl64 (by decide) (λ_=>rfl) (λ_ _ _ _=>rdBd) (at1 (k 7 _ rfl) cl28 rfl);exact⟨⟨u,z,y,r,q,v,J,N,Z,O,A,L,X,D,K⟩,rfl,⟨h1,j,h2,h3,G,h4,Y,I,M,B,C,S,T⟩⟩
end
end Go.Proofs
