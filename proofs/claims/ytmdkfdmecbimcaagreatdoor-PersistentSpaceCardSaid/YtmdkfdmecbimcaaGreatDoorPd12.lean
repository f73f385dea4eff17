/- Part 12: no statement of the seat is proved here. -/
import Derived.Test.YtmdkfdmecbimcaaGreatDoorPd11
import Derived.ProofKit
import Derived.Test.YtmdkfdmecbimcaaGreatDoorRows
import Derived.Lib.LaidIn
import Derived.Lib.LaidTab
import Derived.Handed
set_option linter.unusedVariables false
set_option linter.unusedSimpArgs false
open Go.Proofs.Tryz renaming prog->xS,underlying20->vW,f191->vX,f138->vV,underlying3->vN,underlying129->vw,underlying133->vu
open Go.Sem renaming run_bind->zN
open List renaming lookup_cons->z7,take_add_one->vM,length_append->zI,mem_cons->yH,not_mem_nil->xQ,mem_iff_getElem?->wG,mem_of_getElem?->x8,getElem?_eq_getElem->yi,getElem?_eq_some_iff->yj,drop_succ_cons->vt,drop_zero->vq,take_succ_cons->vp,take_zero->vo,replicate->yT,length_singleton->yI
open Array renaming getD_eq_getD_getElem?->w8
open Go.Value renaming int->wP,string->ye
open Go.Code renaming wpIn->wx
open Option renaming bind_eq_some_iff->vY
open Option.some renaming injEq->zG,inj->vk
open Go.DataW renaming trod->vZ,Trod->vn,TrodAll->vh
open Go.IntKind renaming i64->yh,wrap->xT,signed->zV,bits->zX
open Nat renaming lt_succ_self->vz,strongRecOn->yv
open Go.TypeDesc renaming struct->vy
open List.cons renaming injEq->yJ
open Go.Lib renaming TabIs->xX,asciiSpaceTab->xY
open Go.World renaming settled->vm
open Go.Input renaming okWide_of_okWideB->vj
open Int renaming tdiv_eq_ediv_of_nonneg->vg
namespace Go.Proofs
open Go Go.Sx
attribute [local irreducible] Go.Sx.Tri
theorem GenK.neqNil{V:Mem}{x:Operand}{t:TypeId}{v:Value}{ty:Nat}{vals:Operand->Value}(g:vals x=.iface t v)(f:vals (.const .nilIface)=.nilIface){q:Value->Mem->Prop}(h:q (.bool true) V):GenK xS (.binOp .neq 20 x (.const .nilIface) 20) ty vals V q:=by
 intro w hw;refine⟨_,w,V,?_,As.refl hw,h⟩;have u:(Op.equal 20 (.iface t v) .nilIface).run xS w=.ok false w:=by
  rw[GH,Op.equalIn];simp[zN,run_underlying vW]
 simp_all[execOp,binOp,eqGuard,zN]
theorem GenK.eqNilNil{V:Mem}{x:Operand}{ty:Nat}{vals:Operand->Value}(g:vals x=.nilIface)(f:vals (.const .nilIface)=.nilIface){q:Value->Mem->Prop}(h:q (.bool false) V):GenK xS (.binOp .neq 20 x (.const .nilIface) 20) ty vals V q:=by
 intro w hw;refine⟨_,w,V,?_,As.refl hw,h⟩;have t:(Op.equal 20 .nilIface .nilIface).run xS w=.ok true w:=by
  rw[GH,Op.equalIn];simp[zN,run_underlying vW]
 simp_all[execOp,binOp,eqGuard,zN]
theorem GenK.assertOk{P:Program}{V:Mem}{x:Operand}{t u:TypeId}{ts:Array Field}{v:Value}{ty:Nat}{vals:Operand->Value}(h:P.underlying t=some (.struct ts))(g:vals x=.iface t v){q:Value->Mem->Prop}(f:q (.tuple #[v,.bool true]) V):GenK P (.typeAssert x u t true) ty vals V q:=by
 intro w hw;refine⟨_,w,V,?_,As.refl hw,f⟩;unfold execOp;simp[g,Instr.typeAssert,zN,run_underlying h]
noncomputable def Fu:Oper:={ dst:=none,op:=.move (.tmp 0),type:=0,pos:= "",after:=#[],guard:=none}
theorem run_makeFunc{P:Program}{a:Act}{o:Oper}{f:Fn}{first caps:Array Operand}{w:World}(h:o.op=.makeFunc f first caps):(execOp a.eval o).run P w=.ok (.value (.func f (first.map a.eval) (caps.map a.eval))) w:=by
 unfold execOp;simp[h,Instr.makeFunc]
theorem run_deferv{P:Program}{a:Act}{o:Oper}{c:Call}{fv:Operand}{f:Fn}{first caps:Array Value}{w:World}(g:o.op=.defer c)(t:c.callee=.value fv)(u:a.eval fv=.func f first caps)(h:c.args.map a.eval=#[]):
  (execOp a.eval o).run P w=.ok (.defer {target:=.fn f caps,args:=first++#[]}) w:=by
 simp_all[execOp,resolve,Deferred.ofValue]
theorem Lc{N:Nat}{a:Act}{l:List (Nat×Value)}(h:Has N a l){t:Nat}{v:Value}(f:t<N):Has N (a.put (some t) v) ((t,v)::l):=by
 refine⟨by simp[Act.put,h.1],λs u g=>?_⟩;rw[z7]at g;by_cases e:s=t
 ·subst e;simp only[beq_self_eq_true]at g;cases g;simp[Act.put,w8,h.1,f]
 ·have z:(s==t)=false:=by simpa using e
  rw[z]at g;have:=h.2 s u g;simp_all[Act.put,w8,Array.getElem?_setIfInBounds_ne,Ne.symm]
theorem OX{F:Fence}{n:Nat}{P:Program}{f:FuncId}{args:Array Value}{u:FrameMode}{w:World}{R t:Ending->FrameMode->World->Prop}(h:CallsDIn F n P f args u w R)(k:∀e g w',R e g w'->t e g w'):CallsDIn F n P f args u w t:=
 ⟨h.1,λc z h1 h2=>let⟨e,g,w',fr,a,b⟩:=h.2 c z h1 h2;⟨e,g,w',fr,k _ _ _ a,b⟩⟩
def BD(a0 a1 a2 a3:Int):List Value:=[.int .i64 a0,.int .i64 a1,.int .i64 a2,.int .i64 a3,.int .i64 0]
structure PM (V0:Mem)(d:Ds)(p F b8 b9:Nat)(gs ns ls:Sl)(nd:List Nd)(V:Mem)(s:St)(c:Nat)(a0 a1 a2 a3:Int):Prop where
 ex:∃W,V0.sub W/\W p=none/\V p=some (.cells (AN d F s.tk c s.cm gs ns ls).toArray 218 (0,0))/\AJ W V gs ns ls nd s/\W b8=some (cell (pv p) 214)/\W b9=some (.cells (BD a0 a1 a2 a3).toArray 62 (0,0))
section
variable{V0 V:Mem}{d:Ds}{p F b8 b9 c:Nat}{gs ns ls:Sl}{nd:List Nd}{s:St}{a0 a1 a2 a3 a0' a1' a2' a3':Int}
theorem PM.set9(h:PM V0 d p F b8 b9 gs ns ls nd V s c a0 a1 a2 a3)(g:b8≠b9)(f:V0 b9=none){x:Array Value}(t:x=(BD a0' a1' a2' a3').toArray):PM V0 d p F b8 b9 gs ns ls nd (V.set b9 (.cells x 62 (0,0))) s c a0' a1' a2' a3':=by
 obtain⟨W,h1,h2,h3,L,u,z⟩:=h.ex;have np:p≠b9:=λe=>by simp_all
 exact⟨W.set b9 (.cells x 62 (0,0)),h1.set f _,by rw[Mem.set_ne np];exact h2,by rw[Mem.set_ne np];exact h3,L.poke (by rw[z];simp) _,by rw[Mem.set_ne g];exact u,by rw[Mem.set_same,t]⟩
theorem PM.set8(h:PM V0 d p F b8 b9 gs ns ls nd V s c a0 a1 a2 a3)(g:b8≠b9)(f:V0 b8=none){x:Array Value}(t:x=#[pv p]):PM V0 d p F b8 b9 gs ns ls nd (V.set b8 (.cells x 214 (0,0))) s c a0 a1 a2 a3:=by
 obtain⟨W,h1,h2,h3,L,u,z⟩:=h.ex;have np:p≠b8:=λe=>by simp_all
 exact⟨W.set b8 (.cells x 214 (0,0)),h1.set f _,by rw[Mem.set_ne np];exact h2,by rw[Mem.set_ne np];exact h3,L.poke (by rw[u];simp) _,by rw[Mem.set_same,t],by grind[Mem.set_ne]⟩
theorem PM.at8(h:PM V0 d p F b8 b9 gs ns ls nd V s c a0 a1 a2 a3):V b8=some (cell (pv p) 214):=by
 obtain⟨W,h1,h2,h3,L,g,f⟩:=h.ex;exact L.sub _ _ g
theorem PM.at9(h:PM V0 d p F b8 b9 gs ns ls nd V s c a0 a1 a2 a3):V b9=some (.cells (BD a0 a1 a2 a3).toArray 62 (0,0)):=by
 obtain⟨W,h1,h2,h3,L,f,g⟩:=h.ex;exact L.sub _ _ g
theorem PM.em(h:PM V0 d p F b8 b9 gs ns ls nd V s c a0 a1 a2 a3):EM V0 d p F V s c:=by
 obtain⟨W,h1,h2,h3,L,g,f⟩:=h.ex;exact MA.narrow (W:=W) ⟨h2,gs,ns,ls,nd,h3,L⟩ h1
theorem PM.atp(h:PM V0 d p F b8 b9 gs ns ls nd V s c a0 a1 a2 a3):V p=some (.cells (AN d F s.tk c s.cm gs ns ls).toArray 218 (0,0)):=by
 obtain⟨W,h1,h2,h3,L,g,f⟩:=h.ex;exact h3
theorem PM.log(h:PM V0 d p F b8 b9 gs ns ls nd V s c a0 a1 a2 a3):Ab V ls 3 (s.lg.map FO):=by
 obtain⟨W,h1,h2,h3,L,g,f⟩:=h.ex;exact L.log.rows (λ_=>rfl) (by decide)
theorem nodesN_succ{l:List (Int×Int×Int)}{i:Nat}{x:Int×Int×Int}(h:l[i]?=some x):Bc (l.take (i+1))=Bc (l.take i)+if 0<x.2.1 then 1 else 0:=by
 unfold Bc;rw[vM,h,List.filter_append,zI];grind
theorem nodesN_le(l:List (Int×Int×Int))(i:Nat):Bc (l.take i)<=i:=by
 grind[Bc]
theorem lateTail(z:b8≠b9)(Z:V0 b9=none)(P:PM V0 d p F b8 b9 gs ns ls nd V s c a0 a1 0 0){R:Ending->Mem->Prop}(hR:∀V',PM V0 d p F b8 b9 gs ns ls nd V' s c a0 a1 s.cm (Bc s.lg)->R (rT #[]) V') :
    (∃Y,V.rowp (sa b8) ((0:Int).toNat*1) 1=some [uP Y]/\
 ¬Y=none/\¬Y=none/\∃B,V.rowp Y ((13:Int).toNat*1) 1=some [uI B]/\
 ¬(some (⟨b9,0,none⟩:Addr))=none/\¬(Aa (sa b9) 2)=none/\Ak (Aa (sa b9) 2) 0 [uI B] V λV2=>
 ∃Q,V2.rowp (sa b8) ((0:Int).toNat*1) 1=some [uP Q]/\
 ¬Q=none/\¬Q=none/\∃j,V2.rowp Q ((14:Int).toNat*1) 1=some [uL j]/\
 ∃(I:Nat->KZ)(K:Nat),I K [uI 0] V2/\∀n h,∀g,I n [uI g] h->∀O:KZ,(∀m ys r,m<n->I m ys r->O ys r)->
 Br (g<(j.n:Int))
 (¬j.p=none/\0<=g/\g<(j.n:Int)/\∃Z o A,h.rowp j.p (g.toNat*3) 3=some [uI Z,uI o,uI A]/\
 Br (0<o)
 (¬(some (⟨b9,0,none⟩:Addr))=none/\¬(Aa (sa b9) 2)=none/\∃t,h.rowp (sa b9) ((3:Int).toNat*1) 1=some [uI t]/\
 IR (t+1)/\¬(some (⟨b9,0,none⟩:Addr))=none/\¬(Aa (sa b9) 2)=none/\Ak (Aa (sa b9) 3) 0 [uI (t+1)] h λT=>
 IR (g+1)/\O [uI (g+1)] T)
 (IR (g+1)/\O [uI (g+1)] h))
 (R (rT #[]) h)):=by
  refine⟨_,An P.at8,nn,nn,_,Aj P.atp 13 1 (by simp[AN]),nn,AM,Ak.at2 (off:=2) P.at9 (by simp[BD]) ?_⟩;have L:=P.set9 (a0':=a0) (a1':=a1) (a2':=s.cm) (a3':=0) z Z (x:=(((BD a0 a1 0 0).toArray.toList.take 2++[wP .i64 (s.cm:Int)]++(BD a0 a1 0 0).toArray.toList.drop (2+[wP .i64 (s.cm:Int)].length)).toArray)) (by simp[BD]);refine⟨_,An L.at8,nn,nn,ls,Aj L.atp 14 1 (by simp[AN]),E4 s.lg.length (λi h=>PM V0 d p F b8 b9 gs ns ls nd h s c a0 a1 s.cm (Bc (s.lg.take i))) L ?_⟩;intro i h J hi e C;refine⟨λf=>?_,λX=>?_⟩
  · have u:=e.log;obtain⟨x,-,U,-,v,hp,hz,N⟩:=u.get f;have hc:=u.cap;have hf:=u.fit;have hnn:=u.n_eq;have hle:=nodesN_le s.lg i;have D:=nodesN_succ U;refine⟨hp,hz,f,_,_,_,N,λE=>⟨nn,AM,_,Aj e.at9 3 1 (by simp[BD]),⟨by omega,by omega⟩,nn,AM,Ak.at2 (off:=3) e.at9 (by simp[BD]) ⟨u.succ f,C v _ ?_⟩⟩,λE=>⟨u.succ f,C v _ ?_⟩⟩
    · rw[if_pos E]at D;exact e.set9 z Z (by rw[D];simp[BD])
    simp_all
  · have hd:=(e.log.done X).2;grind
def fltVE(e:Int):Value:=.iface 294 (.agg #[.int .i64 e])
theorem lateNil(g:b8≠b9)(f:V0 b9=none)(P:PM V0 d p F b8 b9 gs ns ls nd V s c 0 a1 0 0):AI xS 46 c191a [(0,pv b9),(1,pv b8),(2,.nilIface)] [] V λ_ V'=>PM V0 d p F b8 b9 gs ns ls nd V' s c 0 a1 s.cm (Bc s.lg):=by
 refine s191a (c:=.nilIface) ?_;unfold w191a;exact GenK.eqNilNil rfl rfl ⟨false,rfl,(λk=>by cases k),λ_=>lateTail (R:=λe V'=>∃vs:List Value,e=.returned (.tuple vs.toArray)/\PM V0 d p F b8 b9 gs ns ls nd V' s c 0 a1 s.cm (Bc s.lg)) g f P λV' h=>⟨[],rfl,h⟩⟩
theorem lateFlt(g:b8≠b9)(f:V0 b9=none){e:Int}(P:PM V0 d p F b8 b9 gs ns ls nd V s c 0 a1 0 0):AI xS 46 c191a [(0,pv b9),(1,pv b8),(2,fltVE e)] [] V λ_ V'=>PM V0 d p F b8 b9 gs ns ls nd V' s c e a1 s.cm (Bc s.lg):=by
 refine s191a (c:=fltVE e) ?_;unfold w191a;refine GenK.neqNil rfl rfl ⟨true,rfl,λ_=>?_,λk=>absurd rfl k⟩;refine GenK.assertOk Tryz.underlying294 rfl ⟨e,true,rfl,λ_=>⟨nn,Ak.at2 (off:=0) P.at9 (by simp[BD]) ?_⟩,λk=>absurd rfl k⟩;exact lateTail (R:=λx V'=>∃vs:List Value,x=.returned (.tuple vs.toArray)/\PM V0 d p F b8 b9 gs ns ls nd V' s c e a1 s.cm (Bc s.lg)) g f (P.set9 (a0':=e) (a1':=a1) (a2':=0) (a3':=0) g f (by simp[BD])) λV' h=>⟨[],rfl,h⟩
noncomputable def lateX:Code:=(flat (Az vX)).getD 0 .skip
theorem lateBody:(vX).body=some (Az vX):=by kernel_rfl
theorem lateX_eq:lateX=.region 0 #[(DF lateX).getD 0 Fu,(DF lateX).getD 1 Fu] false:=by kernel_rfl
theorem late_flat:flat (Az vX)=lateX::c191a:=by kernel_rfl
theorem OY{tmps:Array Value}{w:World}:(results vX tmps).run xS w=.ok (.tuple #[]) w:=by
 simp_all[results]
theorem lateC(g:b8≠b9)(o:V0 b9=none)(P:PM V0 d p F b8 b9 gs ns ls nd V s c 0 a1 0 0){w:World}(hw:V.le w){u:FrameMode}{n:Nat}{f:Int}(hu:(u=.returning/\f=0)∨u=.panicking [{v:=fltVE f,recovered:=false}]):
  CallsDIn (Ay none) n xS 191 #[pv b9,pv b8] u w λe z w'=>(∃v,e=.returned v)/\(∃V2,As V w V2 w'/\PM V0 d p F b8 b9 gs ns ls nd V2 s c f a1 s.cm (Bc s.lg))/\
   ((u=.returning/\z=.returning)∨(z=.panicking [{v:=fltVE f,recovered:=true}])):=by
 refine Rk (fn:=vX) (at0:=#[]) (t3:=2) (t6:=7) Tryz.func191 lateBody late_flat lateX_eq (by kernel_rfl) (by kernel_rfl) (by kernel_rfl) (by kernel_rfl) (by kernel_rfl) (by kernel_rfl) (by simp_all) (by simp_all) ?_;intro v z h;have J:=Lc (Lc (JI (args:=[pv b9,pv b8]) (N:=46) (by simp)) (t:=7) (v:=v) (by decide)) (t:=2) (v:=v) (by decide);have j:Has 46 _ [(0,pv b9),(1,pv b8),(2,v)]:=⟨J.1,λs x i=>by
  simp only[z7]at i
  repeat' split at i
  all_goals first
   |(rename_i e;simp only[beq_iff_eq]at e;subst e;cases i;exact J.get rfl)
   |cases i⟩
 rcases hu with⟨rfl,rfl⟩|rfl
 ·obtain⟨rfl,rfl⟩:v=.nilIface/\z=.returning:=h;refine GX ?_ (lateNil g o P none n _ w hw j.1 j.2);rintro e Z w' ⟨rfl,h1,-,vs,V',-,h4,r⟩;exact⟨.inl rfl,h1,_,OY,⟨_,rfl⟩,⟨V',r,h4⟩,.inl ⟨rfl,rfl⟩⟩
 ·obtain⟨rfl,rfl⟩:v=fltVE f/\z=.panicking [{v:=fltVE f,recovered:=true}]:=by
   obtain⟨h1,h2⟩:=h;grind
  refine GX ?_ (lateFlt g o P none n _ w hw j.1 j.2);rintro e Z w' ⟨rfl,h1,-,vs,V',-,h4,r⟩;exact⟨.inl rfl,h1,_,OY,⟨_,rfl⟩,⟨V',r,h4⟩,.inr rfl⟩
end
theorem AJ.base{V0 V:Mem}{gs ns ls:Sl}{nd:List Nd}{s:St}(L:AJ V0 V gs ns ls nd s){p:Nat}(p0:V0 p=none):∃W,V0.sub W/\W p=none/\W.sub V/\AJ W V gs ns ls nd s/\∀b o,V b=some o->b≠p->Alien V b->W b=some o:=by
 refine⟨Mem.minus V (Mine p gs ns ls nd),λb o g=>?_,DV (.inl rfl),Ft,L.frame (λ_ _ _ h=>h),λb o g t u=>?_⟩;·rw[Cy λhm=>by rw[L.mine0 p0 hm]at g;cases g];exact L.sub _ _ g
 ·rw[Cy];exact g;have f:∀{e sz sl vs},(e=3∨e=85∨e=150)->Sx.Own V0 V e sz sl vs->¬AP sl b:=λ{e sz sl vs} z j=>j.apart λcur=>u cur e z;rintro(h|h|h|h|⟨n,i,h⟩);·exact t h
  ·exact f (.inl rfl) L.glob h
  ·exact f (.inr (.inl rfl)) L.nodes h
  ·exact f (.inr (.inr rfl)) L.log h
  ·exact f (.inl rfl) (L.fld n i) h
theorem Nb{V:Mem}{b:Nat}{x:Array Value}{t:Nat}(h:V b=some (.cells x t (0,0)))(g:NT t):Alien V b:=JH h g
noncomputable def playI:Code:=(flat (Az vV)).getD 3 .skip
noncomputable def Gp:Code:=(flat (Az vV)).getD 5 .skip
noncomputable def playR:Code:=(flat (Az vV)).getD 6 .skip
theorem play_flat:flat (Az vV)=c138a++playI::(c138c++Gp::playR::(c138f++[.ret])):=by kernel_rfl
theorem playI_eq:playI=.cond (.tmp 20) (kid playI 0) .skip:=by kernel_rfl
theorem playK_flat:flat (kid playI 0)=c138b++[.ret]:=by kernel_rfl
theorem playD_eq:Gp=.region 5 #[(DF Gp).getD 0 Fu,(DF Gp).getD 1 Fu] false:=by kernel_rfl
theorem playR_eq:playR=.region 6 Gn false:=by kernel_rfl
theorem playR_size:(Gn).size=7:=by kernel_rfl
theorem playde:Gn=c138e:=rfl
theorem run_ldv{w:World}{b t T:Nat}{x:Value}{cs y:Go.Sx.T}{ρ:List Value}(h:w.heap[b]?=some (.cells (cs.evs ρ id).toArray t (0,0)))(g:Eh xS T cs 0=some y)(f:y.ev ρ id=x):(loadVar T ⟨b,0,none⟩).run xS w=.ok x w:=by
 grind[Jp,xS,T,id]
def outT:Go.Sx.T:=.cons (.var (.i .i64) 0) (.cons (.var (.i .i64) 1) (.cons (.var (.i .i64) 2) (.cons (.var (.i .i64) 3) (.cons (.var (.i .i64) 4) .nil))))
theorem Ld{tmps:Array Value}{b8 b9 h g:Nat}{q:Option Addr}{a0 a1 a2 a3 er:Int}{w:World}(f:tmps.getD 8 undef=pv b8)(t:tmps.getD 9 undef=pv b9)(u:tmps.getD 10 undef=.int .i64 er)
  (z:w.heap[b8]?=some (cell (.pointer q) h)) (c9:w.heap[b9]?=some (.cells (BD a0 a1 a2 a3).toArray g (0,0))):
  (results vV tmps).run xS w=.ok (.tuple #[.pointer q,.agg (BD a0 a1 a2 a3).toArray,.int .i64 er]) w:=by
 have j:vV.results=#[.cell 8 214,.cell 9 62,.tmp 10]:=by kernel_rfl
 unfold results;rw[j];have i:asAddr (tmps.getD 8 undef)=pure ⟨b8,0,none⟩:=by rw[f];rfl
 have r:asAddr (tmps.getD 9 undef)=pure ⟨b9,0,none⟩:=by rw[t];rfl
 have o:(loadVar 214 ⟨b8,0,none⟩).run xS w=.ok (.pointer q) w:=run_ldv (cs:=.cons (.var .p 0) .nil) (y:=.var .p 0) (ρ:=[.pointer q]) z (by kernel_rfl) rfl;have e:(loadVar 62 ⟨b9,0,none⟩).run xS w=.ok (.agg (BD a0 a1 a2 a3).toArray) w:=run_ldv (cs:=outT) (y:=.agg outT) (ρ:=BD a0 a1 a2 a3) c9 (by kernel_rfl) rfl;simp_all
section
variable{V0 V:Mem}{d:Ds}{F:Nat}{gs ns:Sl}{nd:List Nd}{m:Mm}
def PlayP(V0:Mem)(d:Ds)(F:Nat)(m:Mm)(nm:KB)(args:List Int)(V:Mem):Ending->Mem->Prop:=λe V'=>
 (Be d m nm args≠0/\V.sub V'/\e=.returned (.tuple #[.pointer none,.agg (BD 0 0 0 0).toArray,.int .i64 (Be d m nm args)]))∨
 (Be d m nm args=0/\∃p c,∃r:Rx Int,r=Dw d F (AV d nm) args (Bf m)/\EM V0 d p F V' r.st c/\e=.returned (.tuple #[pv p,.agg (BD (CV r) (outV r) r.st.cm (Bc r.st.lg)).toArray,.int .i64 0]))
end
theorem lookup_mem{s:Nat}{v:Value}:∀{l:List (Nat×Value)},l.lookup s=some v->(s,v)∈l
 |[],h=>by cases h
 |(t,u)::l,h=>by
  rw[z7]at h;split at h
  ·rename_i e;simp only[beq_iff_eq]at e;subst e;cases h;exact List.mem_cons_self
  ·exact List.mem_cons_of_mem _ (lookup_mem h)
theorem Le{N:Nat}{a:Act}{l g:List (Nat×Value)}(h:Has N a l)(f:∀x∈g,l.lookup x.1=some x.2):Has N a g:=⟨h.1,λs v t=>h.2 s v (f (s,v) (lookup_mem t))⟩
noncomputable def IW:Call:=match((Gn).getD 4 Fu).op with|.call c=>c|_=>{callee:=.value (.tmp 0),args:=#[],argTypes:=#[]}
noncomputable def playFv:Operand:=match IW.callee with|.value f=>f|_=>.tmp 0
theorem playCall_op:((Gn).getD 4 Fu).op=.call IW:=by kernel_rfl
theorem playCall_fv:IW.callee=.value playFv:=by kernel_rfl
theorem Rl:IW.args=#[.tmp 29,.tmp 30,.tmp 32]:=by kernel_rfl
theorem playFv_eval(a:Act):a.eval playFv=.func (.func 192) #[] #[]:=by kernel_rfl
theorem Cz{V U:Mem}(g:V.sub U){b:Nat}(h:U b=none):V b=none:=by
 cases f:V b with
 |none=>rfl
 |some o=>rw[g _ _ f]at h;cases h
section
variable{V0 V:Mem}{d:Ds}{F:Nat}{m:Mm}{nm:KB}{args:List Int}{l:Sl}{b4 b5 b6 b8 b9 b11 p c:Nat}{gs ns ls:Sl}{nd:List Nd}{s:St}{a1:Int}{pr:Pr}{er:Int}
theorem segA(O:Ds.Ok V d)(hm:Mm.Ok V m)(G:Ar d m)(A:Ab V l 1 (args.map Ah))(J:pr=if Be d m nm args=0 then(d.procs[(AV d nm).toNat]?).getD noPr else noPr):
  AI xS 37 c138a [(0,d.v),(1,m.v),(2,.agg #[.string nm,l.v]),(3,.int .i64 F)] [3,4,5,6,8,9,10,11,20] V λvs V1=>∃b4 b5 b6 b8 b9 b11:Nat,vs=[.int .i64 F,pv b4,pv b5,pv b6,pv b8,pv b9,.int .i64 (Be d m nm args),pv b11,.bool (!(decide (Be d m nm args=0)))]/\
   V.sub V1/\V b8=none/\V b9=none/\b8≠b9/\V1 b4=some (.cells d.row.toArray 30 (0,0))/\V1 b5=some (.cells m.row.toArray 45 (0,0))/\V1 b6=some (.cells #[.string nm,l.v] 57 (0,0))/\V1 b8=some (cell (.pointer none) 214)/\V1 b9=some (.cells (BD 0 0 0 0).toArray 62 (0,0))/\V1 b11=some (.cells pr.row.toArray 142 (0,0)):=by
 have Y:=c190 O hm G A (nm:=nm);rw[<-J]at Y;refine s138a (a:=d.name) (b:=d.ts) (c:=d.gs) (d:=d.ps) (g:=d.ms) (i:=d.is) (j:=d.qs) (k:=d.bs) (l:=m.gs) (o:=m.ns) (p:=nm) (q:=l) (r:=F) ?_;unfold w138a;refine Y.call ⟨_,_,_,_,_,_,rfl,λb4 h4 b5 I b6 L b8 Q b9 P b11 N=>?_⟩;have Z:=λo=>Mem.sub_new h4 o;have z:=λo=>Mem.sub_new I o;have f:=λo=>Mem.sub_new L o;have t:=λo=>Mem.sub_new Q o;have u:=λo=>Mem.sub_new P o;have h:=λo=>Mem.sub_new N o;refine⟨_,rfl,b4,b5,b6,b8,b9,b11,rfl,(Z _).trans ((z _).trans ((f _).trans ((t _).trans ((u _).trans (h _))))),Cz ((Z _).trans ((z _).trans (f _))) Q,Cz ((Z _).trans ((z _).trans ((f _).trans (t _)))) P,λe=>?_,?_,?_,?_,?_,?_,Mem.set_same _ _ _⟩;·grind[Mem.set_same]
 ·exact((z _).trans ((f _).trans ((t _).trans ((u _).trans (h _))))) _ _ Au
 ·exact((f _).trans ((t _).trans ((u _).trans (h _)))) _ _ Au
 ·exact((t _).trans ((u _).trans (h _))) _ _ Au
 ·exact((u _).trans (h _)) _ _ Au
 ·exact(h _) _ _ Au
theorem segB(h:b8≠b9)(g:V0 b8=none)(f:V0 b9=none)(t:V0.sub V)(u:V b8=some (cell (.pointer none) 214))(z:V b9=some (.cells (BD 0 0 0 0).toArray 62 (0,0))):
  AI xS 37 c138b [(8,pv b8),(9,pv b9),(10,.int .i64 er)] [8,9,10] V λvs V1=>vs=[pv b8,pv b9,.int .i64 er]/\V0.sub V1/\V1 b8=some (cell (.pointer none) 214)/\V1 b9=some (.cells (BD 0 0 0 0).toArray 62 (0,0)):=by
 refine s138b (a:=some ⟨b8,0,none⟩) (b:=some ⟨b9,0,none⟩) (c:=er) ?_;unfold w138b;refine Ak.cell u ?_;show Ak (Aa (sa b9) 0) 0 _ _ _;refine Ak.at2 (off:=0) (by rw[Mem.set_ne h.symm];exact z) (by simp[BD]) ⟨_,rfl,rfl,(t.set g _).set f _,by rw[Mem.set_ne h,Mem.set_same],by rw[Mem.set_same];simp[BD]⟩
theorem segC(f:V b4=some (.cells d.row.toArray 30 (0,0)))(t:V b5=some (.cells m.row.toArray 45 (0,0)))(u:V b8=some (cell (.pointer none) 214)):
  AI xS 37 c138c [(3,.int .i64 F),(4,pv b4),(5,pv b5),(6,pv b6),(8,pv b8),(9,pv b9),(10,.int .i64 er),(11,pv b11)] [6,8,9,10,11] V λvs V1=>
   vs=[pv b6,pv b8,pv b9,.int .i64 er,pv b11]/\∃p,V p=none/\V1=(V.set p (.cells (AN d F ((0:Nat):Int) ((0:Nat):Int) ((0:Nat):Int) m.gs m.ns Af).toArray 218 (0,0))).set b8 (cell (pv p) 214):=by
 refine s138c (a:=F) (b:=some ⟨b4,0,none⟩) (c:=some ⟨b5,0,none⟩) (d:=some ⟨b6,0,none⟩) (g:=some ⟨b8,0,none⟩) (i:=some ⟨b9,0,none⟩) (j:=er) (k:=some ⟨b11,0,none⟩) ?_;unfold w138c;refine⟨_,_,_,_,_,_,_,_,Aj f 0 8 (by simp[Ds.row]),_,_,Aj t 0 2 (by simp[Mm.row]),λp z=>?_⟩;have h:b8≠p:=λe=>by simp_all
 exact Ak.cell (by rw[Mem.set_ne h];exact u) ⟨_,rfl,rfl,p,z,rfl⟩
theorem segD(f:V b6=some (.cells #[.string nm,l.v] 57 (0,0)))(t:V b8=some (cell (pv p) 214))(h:V b11=some (.cells pr.row.toArray 142 (0,0))):
  AS xS 37 Gn 0 4 [(6,pv b6),(8,pv b8),(9,pv b9),(10,.int .i64 er),(11,pv b11)] [8,9,10,29,30,32] V λvs V1=>
   vs=[pv b8,pv b9,.int .i64 er,pv p,pr.v,l.v]/\V1=V:=by
 refine s138d (a:=some ⟨b6,0,none⟩) (b:=some ⟨b8,0,none⟩) (c:=some ⟨b9,0,none⟩) (d:=er) (g:=some ⟨b11,0,none⟩) ?_;unfold w138d;exact⟨_,An t,_,_,_,_,_,Aj h 0 5 (by simp[Pr.row]),nn,l,Aj f 1 1 (by simp),_,rfl,rfl,rfl⟩
theorem segE(h:b8≠b9)(g:V0 b9=none){v:Int}(P:PM V0 d p F b8 b9 gs ns ls nd V s c 0 0 0 0):
  AS xS 37 c138e 5 2 [(8,pv b8),(9,pv b9),(33,.int .i64 v)] [8,9] V λvs V1=>vs=[pv b8,pv b9]/\PM V0 d p F b8 b9 gs ns ls nd V1 s c 0 v 0 0:=by
 refine s138e (a:=some ⟨b8,0,none⟩) (b:=some ⟨b9,0,none⟩) (c:=v) ?_;unfold w138e;exact⟨nn,Ak.at2 (off:=1) P.at9 (by simp[BD]) ⟨_,rfl,rfl,P.set9 h g (by simp[BD])⟩⟩
theorem segF(h:b8≠b9)(f:V0 b8=none)(t:V0 b9=none)(P:PM V0 d p F b8 b9 gs ns ls nd V s c 0 a1 0 0):
  AI xS 37 c138f [(8,pv b8),(9,pv b9)] [8,9,10] V λvs V1=>vs=[pv b8,pv b9,.int .i64 0]/\PM V0 d p F b8 b9 gs ns ls nd V1 s c 0 a1 0 0:=by
 refine s138f (a:=some ⟨b8,0,none⟩) (b:=some ⟨b9,0,none⟩) ?_;unfold w138f;have g:=P.set8 h f (x:=#[pv p]) rfl;refine⟨_,An P.at8,_,_,_,_,_,Aj P.at9 0 5 (by simp[BD]),Ak.cell P.at8 ⟨Aj g.at9 0 5 (by simp[BD]),?_⟩⟩;show Ak (Aa (sa b9) 0) 0 _ _ _;exact Ak.at2 (off:=0) g.at9 (by simp[BD]) ⟨_,rfl,rfl,g.set9 h t (by simp[BD])⟩
end
section
variable{V0 V:Mem}{d:Ds}{F:Nat}{m:Mm}{nm:KB}{args:List Int}{l:Sl}
theorem c138(S:ES V0 d F)(L:AJ V0 V m.gs m.ns Af m.nodes (Bf m))(hm:Mm.Ok V m)(G:Ar d m)(ha:Ab V0 l 1 (args.map Ah)):
  Tri xS 138 #[d.v,m.v,.agg #[.string nm,l.v],.int .i64 F] V (PlayP V0 d F m nm args V):=by
 unfold Go.Sx.Tri;intro w hV;refine(callsIn_wide (n:=0)).1 (callsIn_of_wp_defers (F:=Ay none) Tryz.func138 (c:=Az vV) (by kernel_rfl) trivial (FQ ?_) rfl);rw[play_flat];obtain⟨pr,hpr⟩:∃pr,pr=if Be d m nm args=0 then(d.procs[(AV d nm).toNat]?).getD noPr else noPr:=⟨_,rfl⟩
 refine(segA (F:=F) (S.ds.sub L.sub) hm G (ha.sub L.sub) hpr).step hV (JI (args:=[d.v,m.v,.agg #[.string nm,l.v],.int .i64 F]) (N:=37) (by simp)) ?_;rintro a1 w1 vs V1 hd1 K ⟨b4,b5,b6,b8,b9,b11,rfl,s1,f8,f9,J,e4,e5,e6,e8,e9,e11⟩ Z;have v8:=Cz L.sub f8;have v9:=Cz L.sub f9;have h20:a1.eval (.tmp 20)=.bool (!(decide (Be d m nm args=0))):=K.get rfl;show wx (Ay none) 0 xS playI _ a1 w1;rw[playI_eq];by_cases hc:Be d m nm args=0
 ·refine wpIn_cond_false (by grind) (wpIn_skip ?_);show CQ none 0 xS _ (c138c++Gp::playR::(c138f++[.ret])) a1 w1;refine(segC (F:=F) (m:=m) e4 e5 e8).step Z.le (Le K (by
   intro x A;simp only[yH,xQ,or_false]at A;rcases A with rfl|rfl|rfl|rfl|rfl|rfl|rfl|rfl<;>rfl)) ?_
  rintro a2 w2 vs V2 T u ⟨rfl,p,hp,X⟩ g;have hp8:b8≠p:=λe=>by simp_all
  have s2:V1.sub (V1.set p (.cells (AN d F ((0:Nat):Int) ((0:Nat):Int) ((0:Nat):Int) m.gs m.ns Af).toArray 218 (0,0))):=Mem.sub_new hp _;have L1:=(L.grow s1).grow s2;have L2:AJ V0 V2 m.gs m.ns Af m.nodes (Bf m):=by
   rw[X];exact L1.put (Nb (s2 _ _ e8) (by unfold NT;decide)) v8 _
  have p0:V0 p=none:=Cz (L.sub.trans s1) hp;obtain⟨W,w0,wp,wV,LW,hW⟩:=L2.base p0;have hat:V2 p=some (.cells (AN d F ((0:Nat):Int) ((0:Nat):Int) ((0:Nat):Int) m.gs m.ns Af).toArray 218 (0,0)):=by rw[X,Mem.set_ne hp8.symm,Mem.set_same]
  have keep:∀{b:Nat}{o:Obj},V1 b=some o->b≠b8->V2 b=some o:=λ{b o} hb hne=>by rw[X,Mem.set_ne hne];exact s2 _ _ hb
  have I:V2 b8=some (cell (pv p) 214):=by rw[X,Mem.set_same]
  have n6:b6≠b8:=λe=>by simp_all
  have n11:b11≠b8:=λe=>by simp_all
  have B:=keep e9 J.symm;have hp9:b9≠p:=λe=>by simp_all
  have W8:W b8=some (cell (pv p) 214):=hW _ _ I hp8 (Nb I (by unfold NT;decide));have W9:W b9=some (.cells (BD 0 0 0 0).toArray 62 (0,0)):=hW _ _ B hp9 (Nb B (by unfold NT;decide));have MW:EM W d p F V2 (Bf m) 0:=⟨wp,m.gs,m.ns,Af,m.nodes,hat,LW⟩;obtain⟨i,q,hi,hq,hval⟩:=Lb hc;have hpq:pr=q:=by simp_all
  have hG:=La G;have hvs:Ax d (Bf m).mm q.params args=true:=Cb (JL (Hw m).symm) hval;obtain⟨r,hr⟩:∃r:Rx Int,r=Dw d F (i:Int) args (Bf m):=⟨_,rfl⟩;have H:Tri xS 192 #[pv p,pr.v,l.v] V2 (PX W d p F 0 r):=by
   rw[hr,hpq];exact runC (allC d p F (F+1)) W V2 (Bf m) 0 i q args l (S.sub w0) hq hG hvs (ha.sub w0) MW (Nat.zero_le _) (by omega) (by unfold BW;show 0+0+0<=_;omega)
  show wx (Ay none) 0 xS Gp _ a2 w2;rw[playD_eq];refine wpIn_region ?_;show wpOpsIn _ _ _ _ _ [0,1] _ _;refine Go.Sx.step_value (o:=(DF Gp).getD 0 Fu) rfl (by kernel_rfl) (run_makeFunc (f:=.func 191) (first:=#[]) (caps:=#[.tmp 9,.tmp 8]) (by kernel_rfl)) ?_;have g8:a2.eval (.tmp 8)=pv b8:=u.get rfl;have g9:a2.eval (.tmp 9)=pv b9:=u.get rfl;have hd0:((DF Gp).getD 0 Fu).dst=some 28:=by kernel_rfl
  have hd1':((DF Gp).getD 1 Fu).dst=none:=by kernel_rfl
  rw[hd0,show(#[Operand.tmp 9,.tmp 8].map a2.eval)=#[pv b9,pv b8]by simp[g8,g9],show((#[]:Array Operand).map a2.eval)=#[]by simp];have hH3:=Lc u (t:=28) (v:=.func (.func 191) #[] #[pv b9,pv b8]) (by decide);refine Go.Sx.step_defer (o:=(DF Gp).getD 1 Fu) rfl (by kernel_rfl) (run_deferv (c:={callee:=.value (.tmp 28),args:=#[],argTypes:=#[]}) (fv:=.tmp 28) (f:=.func 191) (first:=#[]) (by kernel_rfl) rfl (hH3.get rfl) (by simp)) ?_;rw[hd1'];show wx (Ay none) 0 xS playR _ _ w2;rw[playR_eq];refine wpIn_region ?_;rw[playR_size];show wpOpsIn _ _ _ _ _ (List.range' 0 4++[4,5,6]) _ _;have D:Has 37 _ [(6,pv b6),(8,pv b8),(9,pv b9),(10,.int .i64 (Be d m nm args)),(11,pv b11)]:=Le hH3 (by
   intro x A;simp only[yH,xQ,or_false]at A;rcases A with rfl|rfl|rfl|rfl|rfl<;>rfl)
  refine(segD (pr:=pr) (keep e6 n6) I (keep e11 n11)).step g.le ⟨D.1,D.2⟩ ?_;rintro R w4 vs V4 hd4 z ⟨rfl,rfl⟩ C;have hdf:R.defers=[{target:=.fn (.func 191) #[pv b9,pv b8],args:=#[]++#[]}]:=by
   rw[hd4];show _::a2.defers=_;rw[T,hd1]
  have inv:∀w',(invoke (.fn (.func 191) #[pv b9,pv b8]) (#[]++#[])).run xS w'=.ok (.enter 191 #[pv b9,pv b8]) w':=λw'=>by simp[invoke]
  have q29:R.eval (.tmp 29)=pv p:=z.get rfl;have q30:R.eval (.tmp 30)=pr.v:=z.get rfl;have q32:R.eval (.tmp 32)=l.v:=z.get rfl;have t8:R.tmps.getD 8 undef=pv b8:=z.get rfl;have t9:R.tmps.getD 9 undef=pv b9:=z.get rfl;have t10:R.tmps.getD 10 undef=.int .i64 0:=by rw[<-hc];exact z.get rfl
  have i4:(Gn)[4]?=some ((Gn).getD 4 Fu):=by kernel_rfl
  have d4:((Gn).getD 4 Fu).dst=some 33:=by kernel_rfl
  have U:IW.args.map R.eval=#[pv p,pr.v,l.v]:=by grind[Rl]
  have mk:∀{V':Mem}{s':St}{c':Nat},EM W d p F V' s' c'->∃gs ns ls nd,PM V0 d p F b8 b9 gs ns ls nd V' s' c' 0 0 0 0:=λ{V' s' c'} h=>by
   obtain⟨gs,ns,ls,nd,h1,h2⟩:=h.ex;exact⟨gs,ns,ls,nd,W,w0,wp,h1,h2,W8,W9⟩
  have hrs:(r.st:St)=(Dw d F (AV d nm) args (Bf m)).st:=by rw[hr,hi]
  refine Go.Sx.step_call i4 (by kernel_rfl) (by simpa using run_callv (c:=IW) (fv:=playFv) (f:=192) (first:=#[]) (caps:=#[]) (args:=#[pv p,pr.v,l.v]) playCall_op playCall_fv (playFv_eval R) U Tryz.call192) C.le H ?_ ?_ ?_
  ·intro ch V' w' E Y;cases r with
   |ok v s'=>cases E.1
   |bad k s'=>
    obtain⟨he,c',hm'⟩:=E;have hch:ch=[{v:=fltVE k,recovered:=false}]:=by
     unfold fltE at he;injection he
    subst hch;obtain⟨gs,ns,ls,nd,P⟩:=mk hm';show LeavesIn (Ay none) 0 xS _ _ _ R.defers _ w';rw[hdf];refine⟨nofun,(λh=>by simp[Ay,Fence.wide]at h),_,_,_,_,rfl,inv w',λ_ _=>trivial,OX (lateC J v9 P Y.le (f:=k) (.inr rfl)) ?_⟩;rintro e u' w'' ⟨⟨v,rfl⟩,⟨V6,j,P6⟩,⟨h,-⟩|rfl⟩;·cases h
    ·refine⟨_,Ld t8 t9 t10 (j.le _ _ P6.at8) (j.le _ _ P6.at9),V6,.inr ⟨hc,p,c',.bad k s',by rw[hr,hi],P6.em,rfl⟩,(((Z.trans g).trans C).trans Y).trans j⟩
  ·intro v V' w' E Y;cases r with
   |bad k s'=>cases E.1
   |ok x s'=>
    obtain⟨he,hm'⟩:=E;cases he;rw[d4];obtain⟨gs,ns,ls,nd,P⟩:=mk hm';have hH5:=Lc z (t:=33) (v:=.int .i64 x) (by decide);show wpOpsIn _ _ _ _ _ (List.range' 5 2++[]) _ w';rw[playde];refine(segE J v9 (v:=x) P).step Y.le (Le ⟨hH5.1,hH5.2⟩ (by
     intro x A;simp only[yH,xQ,or_false]at A;rcases A with rfl|rfl|rfl<;>rfl)) ?_
    rintro a6 w6 vs V6 hd6 hH6 ⟨rfl,P6⟩ j;show CQ none 0 xS _ (c138f++[.ret]) a6 w6;refine(segF J v8 v9 P6).step j.le hH6 ?_;rintro a7 w7 vs V7 hd7 Q ⟨rfl,P7⟩ hF7;show wx (Ay none) 0 xS .ret _ a7 w7;refine wpIn_ret ?_;show LeavesIn (Ay none) 0 xS _ _ _ a7.defers _ w7;have hdf7:a7.defers=_:=(hd7.trans hd6).trans hdf;rw[hdf7];refine⟨nofun,(λh=>by simp[Ay,Fence.wide]at h),_,_,_,_,rfl,inv w7,λ_ _=>trivial,OX (lateC J v9 P7 hF7.le (f:=0) (.inl ⟨rfl,rfl⟩)) ?_⟩;rintro e u' w'' ⟨⟨v,rfl⟩,⟨V8,O,P8⟩,⟨-,rfl⟩|rfl⟩;·refine⟨_,Ld (Q.get rfl) (Q.get rfl) (Q.get rfl) (O.le _ _ P8.at8) (O.le _ _ P8.at9),V8,.inr ⟨hc,p,0,.ok x s',by rw[hr,hi],P8.em,rfl⟩,((((((Z.trans g).trans C).trans Y).trans j).trans hF7).trans O)⟩
    ·refine⟨_,Ld (Q.get rfl) (Q.get rfl) (Q.get rfl) (O.le _ _ P8.at8) (O.le _ _ P8.at9),V8,.inr ⟨hc,p,0,.ok x s',by rw[hr,hi],P8.em,rfl⟩,((((((Z.trans g).trans C).trans Y).trans j).trans hF7).trans O)⟩
  ·intro V' E;cases r with
   |ok v s'=>cases E.1
   |bad k s'=>cases E.1
 ·refine wpIn_cond_true (by grind) (FQ ?_);rw[playK_flat];refine(segB J f8 f9 s1 e8 e9).step Z.le (Le K (by
   intro x A;simp only[yH,xQ,or_false]at A;rcases A with rfl|rfl|rfl<;>rfl)) ?_
  rintro a2 w2 vs V2 T u ⟨rfl,s2,I,B⟩ g;show wx (Ay none) 0 xS .ret _ a2 w2;refine wpIn_ret ?_;show LeavesIn (Ay none) 0 xS _ _ _ a2.defers _ w2;rw[T,hd1];exact⟨_,Ld (u.get rfl) (u.get rfl) (u.get rfl) (g.le _ _ I) (g.le _ _ B),V2,.inl ⟨hc,s2,rfl⟩,Z.trans g⟩
end
section
variable{V:Mem}{d:Ds}{F:Nat}{m m':Mm}{nm:KB}{args:List Int}{l:Sl}
theorem values_plain(h:m.plain=m'.plain){t:List Fld}{vs:List Int}:Ax d m t vs=Ax d m' t vs:=by
 rw[Bool.eq_iff_iff];grind[Cb,JL]
theorem IX(h:m.plain=m'.plain):Be d m nm args=Be d m' nm args:=by
 grind[Be,values_plain]
noncomputable def Ed(d:Ds)(m:Mm)(nm:KB)(args:List Int)(F:Int):Int:=if C2 d m F=0 then Be d m nm args else C2 d m F
theorem OZ{F:Int}(h:C2 d m F=0):Ar d m:=by
 grind[C2]
theorem ok_copy(hm:Mm.Ok V m){V':Mem}{gs ns:Sl}{nd:List Nd}(L:AJ V V' gs ns Af nd (Bf m)):Mm.Ok V' ⟨gs,m.globals,ns,nd⟩/\(⟨gs,m.globals,ns,nd⟩:Mm).plain=m.plain:=by
 have h:(⟨gs,m.globals,ns,nd⟩:Mm).plain=m.plain:=by
  unfold Mm.plain;rw[L.eq];rfl
 refine⟨⟨L.glob.rows (λ_=>rfl) (by decide),hm.gIn,L.nodes.rows (λ_=>rfl) (by decide),λn g=>?_⟩,h⟩;obtain⟨i,t⟩:=wG.1 g;obtain⟨y,u,z,j⟩:=IV h t;have f:=hm.nodesOk y (x8 u);exact⟨(L.fld n g).rows (λ_=>rfl) (by decide),by rw[<-z];exact f.tyIn,by rw[<-j];exact f.vals⟩
def StartP(V:Mem)(d:Ds)(F:Nat)(m:Mm)(nm:KB)(args:List Int):Ending->Mem->Prop:=λe V'=>
 (Ed d m nm args F≠0/\V.sub V'/\e=.returned (.tuple #[.pointer none,.agg (BD 0 0 0 0).toArray,.int .i64 (Ed d m nm args F)]))∨
 (Ed d m nm args F=0/\∃p c,∃r:Rx Int,r=Dw d F (AV d nm) args (Bf m)/\EM V d p F V' r.st c/\e=.returned (.tuple #[pv p,.agg (BD (CV r) (outV r) r.st.cm (Bc r.st.lg)).toArray,.int .i64 0]))
theorem c101[Tab V](J:Ds.Ok V d)(hm:Mm.Ok V m)(Q:Ab V l 1 (args.map Ah))(P:F<=4000):Tri xS 101 #[d.v,m.v,.agg #[.string nm,l.v],.int .i64 F] V (StartP V d F m nm args):=by
 refine x101 (R:=StartP V d F m nm args) ?_;refine(c137 J hm).call ⟨_,rfl,λN=>?_,λN=>?_⟩
 ·have G:=OZ N;have g:Ed d m nm args F=Be d m nm args:=by grind[Ed]
  obtain⟨p1,O,p3,T,A⟩:=BO G.mem;have I:=lens12 G.valid;refine Tri.mono (c139 hm (by grind[Ci]) O λn Z=>?_) ?_
  ·have:=(Ci.1 (A n Z)).1;have X:=of_decide_eq_true (p3 n Z);obtain⟨j,B⟩:∃j:Nat,n.ty=(j:Int):=⟨n.ty.toNat,by omega⟩;have t:j<d.types.length:=by omega
   have C:=yi t;rw[B,EW C rfl]at this;grind
  rintro _ V1 ⟨gs,ns,nd,rfl,L⟩;obtain⟨u,Y⟩:=ok_copy hm L;have D:Ar d ⟨gs,m.globals,ns,nd⟩:=⟨G.valid,G.chk,M9 Y.symm G.mem⟩;have z:Bf ⟨gs,m.globals,ns,nd⟩=Bf m:=by
   unfold Bf;rw[show nd.map (λn=>(n.ty,n.f))=m.nodes.map (λn=>(n.ty,n.f))from L.eq]
  have E:AJ V V1 gs ns Af nd (Bf ⟨gs,m.globals,ns,nd⟩):=by grind
  refine⟨gs,ns,rfl,Tri.mono (c138 (m:=⟨gs,m.globals,ns,nd⟩) ⟨J,G.valid,KT G.valid G.chk,P⟩ E u D Q) ?_⟩;have h:Be d ⟨gs,m.globals,ns,nd⟩ nm args=Be d m nm args:=IX Y;rintro e V2 (⟨i,o,rfl⟩|⟨i,p,c,r,K,M,rfl⟩)
  ·rw[h]at i⊢;exact⟨_,_,_,_,_,_,_,rfl,.inl ⟨by omega,L.sub.trans o,by rw[g];rfl⟩⟩
  ·rw[h]at i;exact⟨_,_,_,_,_,_,_,rfl,.inr ⟨by omega,p,c,r,by rw[K,z],M,rfl⟩⟩
 ·have g:Ed d m nm args F=C2 d m F:=by grind[Ed]
  exact .inl ⟨by omega,Mem.sub.refl _,by rw[g];rfl⟩
def RunP(V:Mem)(d:Ds)(F:Nat)(m:Mm)(nm:KB)(args:List Int):Ending->Mem->Prop:=λe V'=>
 (Ed d m nm args F≠0/\V.sub V'/\e=.returned (.tuple #[.agg (BD 0 0 0 0).toArray,.agg #[Af.v,Af.v],.int .i64 (Ed d m nm args F)]))∨
 (Ed d m nm args F=0/\∃r:Rx Int,∃gs ns ls nd,r=Dw d F (AV d nm) args (Bf m)/\AJ V V' gs ns ls nd r.st/\e=.returned (.tuple #[.agg (BD (CV r) (outV r) r.st.cm (Bc r.st.lg)).toArray,.agg #[gs.v,ns.v],.int .i64 0]))
theorem Rm[Tab V](t:Ds.Ok V d)(hm:Mm.Ok V m)(u:Ab V l 1 (args.map Ah))(z:F<=4000):Tri xS 69 #[d.v,m.v,.agg #[.string nm,l.v],.int .i64 F] V (RunP V d F m nm args):=by
 refine Qx (R:=RunP V d F m nm args) ?_;refine Tri.mono (c101 t hm u z) ?_;rintro e V1 (⟨f,j,rfl⟩|⟨f,p,c,r,i,M,rfl⟩);·exact⟨_,_,_,_,_,_,_,rfl,λh=>absurd h f,λ_=>.inl ⟨f,j,rfl⟩⟩
 ·obtain⟨gs,ns,ls,nd,g,L⟩:=M.ex;exact⟨_,_,_,_,_,_,_,rfl,λ_=>⟨nn,nn,gs,ns,Aj g 8 2 (by simp[AN]),Ev g 8 0 2 (by simp[AN]),nn,nn,.inr ⟨f,r,gs,ns,ls,nd,i,L,rfl⟩⟩,λh=>absurd rfl h⟩
def TraceP(V:Mem)(d:Ds)(F:Nat)(m:Mm)(nm:KB)(args:List Int):Ending->Mem->Prop:=λe V'=>
 (Ed d m nm args F≠0/\V.sub V'/\e=.returned (.tuple #[Af.v,.int .i64 (Ed d m nm args F)]))∨
 (Ed d m nm args F=0/\∃r:Rx Int,∃ls,r=Dw d F (AV d nm) args (Bf m)/\Sx.Own V V' 150 3 ls (r.st.lg.flatMap FO)/\e=.returned (.tuple #[ls.v,.int .i64 0]))
theorem Rn[Tab V](t:Ds.Ok V d)(hm:Mm.Ok V m)(u:Ab V l 1 (args.map Ah))(z:F<=4000):Tri xS 70 #[d.v,m.v,.agg #[.string nm,l.v],.int .i64 F] V (TraceP V d F m nm args):=by
 refine Qy (R:=TraceP V d F m nm args) ?_;refine Tri.mono (c101 t hm u z) ?_;rintro e V1 (⟨g,j,rfl⟩|⟨g,p,c,r,i,M,rfl⟩);·exact⟨_,_,_,_,_,_,_,rfl,λh=>absurd h g,λ_=>.inl ⟨g,j,rfl⟩⟩
 ·obtain⟨gs,ns,ls,nd,f,L⟩:=M.ex;exact⟨_,_,_,_,_,_,_,rfl,λ_=>⟨nn,nn,ls,Aj f 14 1 (by simp[AN]),.inr ⟨g,r,ls,i,L.log,rfl⟩⟩,λh=>absurd rfl h⟩
end
theorem Hy{p q B X:Prop}(f:(¬p∨¬q)->X)(t:p->q->B):Br p (Br q B X) X:=⟨λh=>⟨λg=>t h g,λg=>f (.inr g)⟩,λh=>f (.inl h)⟩
theorem take_eq{α:Type}{xs ys:List α}{i:Nat}{x y:α}(h:xs.take i=ys.take i)(g:xs[i]?=some x)(f:ys[i]?=some y)(e:x=y):xs.take (i+1)=ys.take (i+1):=by
 grind[vM]
section
variable{V:Mem}{d:Ds}{m:Mm}
def RI(V:Mem):Ending->Mem->Prop:=λe V'=>V=V'/\∃r:Int,e=.returned (.int .i64 r)/\-1<=r/\r<=2000
def RY(V:Mem):Ending->Mem->Prop:=λe V'=>V=V'/\∃b:Bool,e=.returned (.bool b)
theorem RI.mk{r:Int}(h:-1<=r/\r<=2000):RI V (.returned (.int .i64 r)) V:=⟨rfl,r,rfl,h⟩
theorem RY.mk{b:Bool}:RY V (.returned (.bool b)) V:=⟨rfl,b,rfl⟩
theorem leftC:∀(k:Nat),k<=65->∀(e:E)(n:Int),E.Ok V e->-1<=n->n<=2000->Tri xS 85 #[e.v,.int .i64 k,.int .i64 n] V (RI V):=by
 intro k;induction k with
 |zero=>
  intro _ e n z h1 h2;refine Tri.mono (Oq (R:=RI V) ?_) λ_ _ h=>h;exact⟨λ_=>.mk ⟨by omega,by omega⟩,λ_=>⟨λ_=>.mk ⟨by omega,by omega⟩,λh=>absurd rfl h⟩⟩
 |succ k N=>
  intro P e n z h1 h2;refine Tri.mono (Oq (R:=RI V) ?_) λ_ _ h=>h;refine⟨λ_=>.mk ⟨by omega,by omega⟩,λh3=>⟨λ_=>.mk ⟨by omega,by omega⟩,λ_=>⟨λ_=>.mk ⟨by omega,by omega⟩,λ_=>⟨⟨by omega,by omega⟩,?_⟩⟩⟩⟩;have h3:¬n<=0:=h3;refine Ej (mk:=.int .i64) (b0:=n-1) BX e.k.length (λi a V1=>V=V1/\-1<=a/\a<=2000) ⟨rfl,by omega,by omega⟩ ?_;rintro i a V1 J O ⟨rfl,f,t⟩ Z;refine Hy (λ_=>.mk ⟨f,t⟩) (λg A=>?_);obtain⟨x,j,I,-,o,Y,Q,u⟩:=z.rows.get g;refine⟨Y,Q,g,_,_,_,_,u,⟨by omega,by omega⟩,?_⟩;rw[show((k+1:Nat):Int)-1=(k:Int)by omega];refine Tri.mono (N (by omega) x a (z.kids x j) f t) ?_;rintro _ _ ⟨rfl,r,rfl,h4⟩;exact⟨_,rfl,z.rows.succ g,Z o _ _ ⟨rfl,h4⟩⟩
theorem leftAllC:∀(k:Nat),k<=65->∀(s:Sl)(xs:List S)(n:Int),Ab V s 5 (xs.map S.row)->(∀x∈xs,S.Ok V x)->-1<=n->n<=2000->Tri xS 84 #[s.v,.int .i64 k,.int .i64 n] V (RI V):=by
 intro k;induction k with
 |zero=>
  intro _ s xs n P ho h1 h2;refine Tri.mono (Oo (R:=RI V) ?_) λ_ _ h=>h;exact⟨λ_=>.mk ⟨by omega,by omega⟩,λh=>absurd rfl h⟩
 |succ k ih=>
  intro hk s xs n P ho h1 h2;refine Tri.mono (Oo (R:=RI V) ?_) λ_ _ h=>h;refine⟨λ_=>.mk ⟨by omega,by omega⟩,λ_=>?_⟩;refine Hg (mk:=.int .i64) (mc:=.int .i64) 0 n BX xs.length (λi a V1=>V=V1/\-1<=a/\a<=2000) ⟨rfl,h1,h2⟩ ?_;rintro i b a V1 J hi ⟨rfl,O,A⟩ hJ;refine Hy (λ_=>.mk ⟨O,A⟩) (λf hn=>?_);have hn:0<=a:=hn;obtain⟨x,I,hx,-,Z,N,Y,g⟩:=P.get f;have L:=ho x I;cases x with
  |mk op sn el es ll ls xl X=>
  cases L with
  |mk he B hl C D E hop=>
  have Q:=Al (n:=i*5) N;have t:=P.succ f;refine⟨⟨by omega,by omega⟩,N,Y,f,Q,_,_,_,_,_,g,λ_=>.mk ⟨by omega,by omega⟩,λ_=>?_⟩;refine Ej (mk:=.int .i64) (b0:=a-1) BX es.length (λj c V2=>V=V2/\-1<=c/\c<=2000) ⟨rfl,by omega,by omega⟩ ?_;rintro j c V2 J1 hj ⟨rfl,z,o⟩ K;have ek:((k+1:Nat):Int)-1=(k:Int):=by omega
  refine⟨N,Y,f,Q,_,_,_,_,_,g,Hy (λ_=>⟨λT=>⟨N,Y,f,Q,_,_,_,_,_,g,⟨by omega,by omega⟩,?_⟩,λT=>⟨λh=>absurd h T,λ_=>⟨t,hJ Z _ _ _ ⟨rfl,z,o⟩⟩⟩⟩) (λu T=>?_)⟩
  ·rw[ek];refine Tri.mono (ih (by omega) ll ls c hl C z o) ?_;rintro _ _ ⟨rfl,r,rfl,h3⟩;refine⟨_,rfl,λhr0=>⟨N,Y,f,Q,_,_,_,_,_,g,⟨by omega,by omega⟩,Tri.mono (ih (by omega) xl X r D E h3.1 h3.2) ?_⟩,λ_=>⟨t,hJ Z _ _ _ ⟨rfl,h3⟩⟩⟩;rintro _ _ ⟨rfl,r2,rfl,h4⟩;simp_all
  ·obtain⟨y,U,hy,-,hjl,hpy,hzy,e⟩:=he.get u;refine⟨N,Y,f,Q,_,_,_,_,_,g,hpy,hzy,u,_,_,_,_,e,Tri.mono (leftC 65 (by omega) y c (B y U) z o) ?_⟩;rintro _ _ ⟨rfl,r,rfl,h3⟩;exact⟨_,rfl,he.succ u,K hjl _ _ ⟨rfl,h3⟩⟩
theorem wideC{l:Sl}{xs:List Fld}(z:Ab V l 2 (xs.map Fld.row)):Tri xS 83 #[l.v] V (RY V):=by
 refine Tri.mono (QJ (R:=RY V) ?_) λ_ _ h=>h;refine⟨λ_=>.mk,λ_=>AE (mk:=.bool) (b0:=false) xs.length (λi V1=>V=V1) rfl ?_⟩;rintro i b V1 J N rfl o;refine⟨λg=>?_,λ_=>.mk⟩;obtain⟨x,e,Z,-,t,u,j,f⟩:=z.get g;have r:=Al (n:=i*2) u;exact⟨u,j,g,r,_,_,f,λ_=>.mk,λ_=>⟨u,j,g,r,_,_,f,λ_=>.mk,λ_=>⟨z.succ g,o t _ _ rfl⟩⟩⟩
theorem overC(e:Ds.Ok V d){n:Int}(h1:-1<=n)(h2:n<=2000):Tri xS 56 #[d.v,.int .i64 n] V (RY V):=by
 refine Tri.mono (Qm (R:=RY V) ?_) λ_ _ h=>h;refine⟨λ_=>.mk,λ_=>⟨λ_=>.mk,λ_=>⟨λ_=>.mk,λ_=>⟨λ_=>.mk,λ_=>⟨λ_=>.mk,λ_=>⟨λ_=>.mk,λ_=>⟨λ_=>.mk,λ_=>Tri.mono (wideC e.globals) ?_⟩⟩⟩⟩⟩⟩⟩;rintro _ _ ⟨rfl,b,rfl⟩;refine⟨_,rfl,λ_=>.mk,λ_=>AE (mk:=.bool) (b0:=false) d.types.length (λi V1=>V=V1) rfl ?_⟩;rintro i b V1 J Q rfl Y;refine⟨λg=>?_,λ_=>?_⟩
 ·obtain⟨x,z,P,-,j,o,N,f⟩:=e.types.get g;have Z:=Al (n:=i*2) o;refine⟨o,N,g,Z,_,_,f,λ_=>.mk,λ_=>⟨o,N,g,Z,_,_,f,Tri.mono (wideC (e.typesOk x z).fields) ?_⟩⟩;rintro _ _ ⟨rfl,b,rfl⟩;exact⟨_,rfl,λ_=>.mk,λ_=>⟨e.types.succ g,Y j _ _ rfl⟩⟩
 refine Hg (mk:=.bool) (mc:=.int .i64) b n BX d.procs.length (λi a V1=>V=V1/\-1<=a/\a<=2000) ⟨rfl,h1,h2⟩ ?_;rintro i b a V1 J Q ⟨rfl,t,u⟩ Y;refine Hy (λ_=>?_) (λg O=>?_);rotate_left
 ·obtain⟨x,z,P,-,j,o,N,f⟩:=e.procs.get g;have A:=e.procsOk x z;refine⟨o,N,g,_,_,_,_,_,f,λ_=>.mk,λ_=>⟨λ_=>.mk,λ_=>Tri.mono (wideC A.params) ?_⟩⟩;rintro _ _ ⟨rfl,b1,rfl⟩;refine⟨_,rfl,λ_=>.mk,λ_=>Tri.mono (wideC A.locals) ?_⟩;rintro _ _ ⟨rfl,b2,rfl⟩;refine⟨_,rfl,λ_=>.mk,λ_=>Tri.mono (leftAllC 65 (by omega) x.bs x.body a A.body A.stmts t u) ?_⟩;rintro _ _ ⟨rfl,r,rfl,h3⟩;exact⟨_,rfl,e.procs.succ g,Y j _ _ _ ⟨rfl,h3⟩⟩
 refine Hg (mk:=.bool) (mc:=.int .i64) b a BX d.measures.length (λi a V1=>V=V1/\-1<=a/\a<=2000) ⟨rfl,t,u⟩ ?_;clear Y;rintro i b a V1 J Q ⟨rfl,t,u⟩ Y;refine Hy (λ_=>?_) (λg O=>?_);rotate_left
 ·obtain⟨x,z,P,-,j,o,N,f⟩:=e.measures.get g;have Z:=Al (n:=i*7) o;refine⟨o,N,g,Z,_,_,_,_,_,_,_,f,λ_=>.mk,λ_=>⟨o,N,g,Z,_,_,_,_,_,_,_,f,λ_=>.mk,λ_=>⟨o,N,g,Z,_,_,_,_,_,_,_,f,Tri.mono (leftC 65 (by omega) x.x a (e.measuresOk x z).x t u) ?_⟩⟩⟩;rintro _ _ ⟨rfl,r,rfl,h3⟩;exact⟨_,rfl,e.measures.succ g,Y j _ _ _ ⟨rfl,h3⟩⟩
 refine Hg (mk:=.bool) (mc:=.int .i64) b a BX d.invs.length (λi a V1=>V=V1/\-1<=a/\a<=2000) ⟨rfl,t,u⟩ ?_;clear Y;rintro i b a V1 J Q ⟨rfl,t,u⟩ Y;refine Hy (λ_=>?_) (λg O=>?_);rotate_left
 ·obtain⟨x,z,P,-,j,o,N,f⟩:=e.invs.get g;have Z:=Al (n:=i*6) o;refine⟨o,N,g,Z,_,_,_,_,_,_,f,λ_=>.mk,λ_=>⟨o,N,g,Z,_,_,_,_,_,_,f,λ_=>.mk,λ_=>⟨o,N,g,Z,_,_,_,_,_,_,f,Tri.mono (leftC 65 (by omega) x.x a (e.invsOk x z) t u) ?_⟩⟩⟩;rintro _ _ ⟨rfl,r,rfl,h3⟩;exact⟨_,rfl,e.invs.succ g,Y j _ _ _ ⟨rfl,h3⟩⟩
 refine Hg (mk:=.bool) (mc:=.int .i64) b a BX d.pots.length (λi a V1=>V=V1/\-1<=a/\a<=2000) ⟨rfl,t,u⟩ ?_;clear Y;rintro i b a V1 J Q ⟨rfl,t,u⟩ Y;refine Hy (λ_=>?_) (λg O=>?_);rotate_left
 ·obtain⟨x,z,P,-,j,o,N,f⟩:=e.pots.get g;have Z:=Al (n:=i*5) o;refine⟨o,N,g,Z,_,_,_,_,_,f,λ_=>.mk,λ_=>⟨o,N,g,Z,_,_,_,_,_,f,Tri.mono (leftC 65 (by omega) x.x a (e.potsOk x z) t u) ?_⟩⟩;rintro _ _ ⟨rfl,r,rfl,h3⟩;exact⟨_,rfl,e.pots.succ g,Y j _ _ _ ⟨rfl,h3⟩⟩
 refine Hg (mk:=.bool) (mc:=.int .i64) b a BX d.bounds.length (λi a V1=>V=V1/\-1<=a/\a<=2000) ⟨rfl,t,u⟩ ?_;clear Y;rintro i b a V1 J Q ⟨rfl,t,u⟩ Y;refine Hy (λ_=>.mk) (λg O=>?_);obtain⟨x,z,P,-,j,o,N,f⟩:=e.bounds.get g;have Z:=Al (n:=i*5) o;refine⟨o,N,g,Z,_,_,_,_,_,f,λ_=>.mk,λ_=>⟨o,N,g,Z,_,_,_,_,_,f,Tri.mono (leftC 65 (by omega) x.x a (e.boundsOk x z) t u) ?_⟩⟩;rintro _ _ ⟨rfl,r,rfl,h3⟩;exact⟨_,rfl,e.bounds.succ g,Y j _ _ _ ⟨rfl,h3⟩⟩
theorem greatC(g:Ds.Ok V d):Tri xS 31 #[d.v] V (RY V):=by
 refine Tri.mono (P0 (R:=RY V) ?_) λ_ _ h=>h;refine Tri.mono (overC g (n:=2000) (by omega) (by omega)) ?_;rintro _ _ ⟨rfl,b,rfl⟩;exact⟨_,rfl,.mk⟩
instance:DecidableEq (List Int×List (Int×List Int)):=inferInstance
end
theorem start_ok{d:Ds}{m:Mm}{nm:KB}{args:List Int}{F:Int}(G:Ar d m)(h:0<=F/\F<=1048576):Ed d m nm args F=Be d m nm args:=by
 grind[C2,Ed]
section
variable{V V0:Mem}{d:Ds}{F:Nat}{m:Mm}{nm:KB}{args:List Int}{l:Sl}
theorem Nc(z:Ds.Ok V d){V':Mem}{gs ns ls:Sl}{nd:List Nd}{s:St}(L:AJ V V' gs ns ls nd s)(o:Ar d s.mm):Mm.Ok V' ⟨gs,s.g,ns,nd⟩/\(⟨gs,s.g,ns,nd⟩:Mm).plain=(s.g,s.ns):=by
 have e:(⟨gs,s.g,ns,nd⟩:Mm).plain=(s.g,s.ns):=by
  unfold Mm.plain;rw[<-L.eq]
 obtain⟨p1,O,p3,J,N⟩:=BO o.mem;have i:∀{t:List Fld}{vs:List Int},Ax d s.mm t vs=true->∀v∈vs,Ep v:=λ{t vs} h v hv=>by
  obtain⟨j,r⟩:=wG.1 hv;obtain⟨Z,Y⟩:=Ci.1 h;have Q:=(yj.1 r).1;have:=Y j _ v (yi (by omega)) r;grind[AQ,Ep]
 refine⟨⟨L.glob.rows (λ_=>rfl) (by decide),i J,L.nodes.rows (λ_=>rfl) (by decide),λn P=>?_⟩,e⟩;have u:(⟨n.ty,Af,n.f⟩:Nd)∈s.mm.nodes:=by
  unfold St.mm;rw[<-L.eq];grind
 refine⟨(L.fld n P).rows (λ_=>rfl) (by decide),?_,i (N ⟨n.ty,Af,n.f⟩ u)⟩;have:=of_decide_eq_true (p3 ⟨n.ty,Af,n.f⟩ u);have Z:d.types.length<=9223372036854775807:=by
  have:=z.types.n_eq;have:=z.types.cap;have:=z.types.fit;omega
 grind[Ep]
theorem play_good(G:Ar d m)(g:Be d m nm args=0):Ar d (Dw d F (AV d nm) args (Bf m)).st.mm:=by
 obtain⟨i,q,f,t,h⟩:=Lb g;rw[f];exact(play_snd (F:=F) (KT G.valid G.chk) t (La G) (Cb (JL (Hw m).symm) h)).good
end
end Go.Proofs
namespace Go.Proofs
open Go Go.Sx
def BE(w:World):Mem:=λb=>w.heap[b]?
theorem heapM_le(w:World):(BE w).le w:=λ_ _ h=>h
theorem Lf{α β:Type}{f:α->Option β}:∀{l:List α}{r:List β},l.mapM f=some r->r.length=l.length/\∀(i:Nat)(a:α),l[i]?=some a->∃b,r[i]?=some b/\f a=some b
 |[],r,h=>by simp_all
 |x::l,r,h=>by
  simp only[List.mapM_cons,Option.bind_eq_bind,vY,Option.pure_def,zG]at h;obtain⟨b,t,u,g,rfl⟩:=h;obtain⟨h1,h2⟩:=Lf g;grind
theorem cells_row{w:World}{a:Addr}{n:Nat}{cs:List Value}(h:w.cells? 0 a n=some cs)(N:0<n):(BE w).row a n=some cs:=by
 unfold World.cells? at h;rw[if_pos (Nat.zero_le _)]at h;obtain⟨h1,h2⟩:=Lf h;have f:∀i,i<n->∃v,cs[i]?=some v/\w.cell? (a.add i)=some v:=λi j=>h2 i i (by simp[j]);obtain⟨v0,-,g⟩:=f 0 N;have Z:a.add 0=a:=by rfl
 rw[Z]at g;unfold World.cell? at g;split at g
 ·rename_i c t fr Y;split at g;·cases g
  ·rename_i Q;have u:a.spot.isNone=true:=by simp_all
   have J:a.spot=none:=by simp_all
   have r:∀i,i<n->∃v,cs[i]?=some v/\c[a.off+i]?=some v:=λi j=>by
    obtain⟨v,hv,P⟩:=f i j;refine⟨v,hv,?_⟩;have e:a.add i=⟨a.block,a.off+i,none⟩:=by
     unfold Addr.add;by_cases O:i=0
     ·subst O;rw[if_pos rfl];cases a with
      |mk b o s=>simp_all
     grind
    grind[World.cell?]
   have z:a.off+n<=c.size:=by
    obtain⟨v,_,P⟩:=r (n-1) (by omega);grind
   have A:cs.length=n:=by rw[h1];simp
   unfold Mem.row BE;simp only[Y];rw[if_pos ⟨u,z⟩];congr 1;apply List.ext_getElem?;grind
 ·cases g
section
variable{H:Type}{enc:TypeId×Value->H}{w:World}
noncomputable abbrev TR(enc:TypeId×Value->H)(w:World)(n:Nat)(t:TypeId)(cs:List Value):=vZ enc xS w 0 (λ_=>true) true n t cs
theorem rd_str{n:Nat}{t:TypeId}{cs:List Value}{x:DataW H×List MemPlace}(g:xS.underlying t=some .string)(h:TR enc w n t cs=some x):∃s,cs=[.string s]:=by
 cases n with
 |zero=>cases h
 |succ n=>
  unfold TR vZ at h;grind
theorem rd_int{n:Nat}{t:TypeId}{cs:List Value}{x:DataW H×List MemPlace}(g:xS.underlying t=some (.int .i64))(h:TR enc w n t cs=some x):∃v:Int,cs=[.int .i64 v]/\yh.min<=v/\v<=yh.max:=by
 cases n with
 |zero=>cases h
 |succ n=>
  unfold TR vZ at h;grind[Lit.wf]
theorem rd_slice{α:Type}{row:α->List Value}{ok:α->Prop}{sz n:Nat}{t e:TypeId}{cs:List Value}{x:DataW H×List MemPlace}(v:xS.underlying t=some (.slice e))(P:xS.cellsOf e=sz)(J:0<sz)(r:∀a,(row a).length=sz)
  (N:∀m,m<n->∀cs x,TR enc w m e cs=some x->∃a,row a=cs/\ok a) (h:TR enc w n t cs=some x):∃(s:Sl)(xs:List α),cs=[.slice s.p s.n s.c]/\Ab (BE w) s sz (xs.map row)/\∀a∈xs,ok a:=by
 cases n with
 |zero=>cases h
 |succ n=>
  have key:∀(a:Addr)(len cap:Nat),TR enc w (n+1) t [.slice (some a) len cap]=some x->∃(xs:List α),Ab (BE w) ⟨some a,len,cap⟩ sz (xs.map row)/\∀a∈xs,ok a:=by
   intro a len cap h;unfold TR vZ at h;rw[v]at h;simp only at h;split at h;case isFalse=>cases h
   rename_i g;simp only[vY]at h;obtain⟨u,hm,-⟩:=h;obtain⟨h1,h2⟩:=Lf hm;have z:∀i:Fin len,∃y:α,(BE w).row (a.add (i*sz)) sz=some (row y)/\ok y:=by
    intro i;obtain⟨b,-,o⟩:=h2 i i (by simp);simp only[vY]at o;obtain⟨Z,Y,j⟩:=o;obtain⟨y,O,Q⟩:=N n (vz n) Z _ j;grind[cells_row]
   refine⟨List.ofFn λi=>Classical.choose (z i),⟨by simp,g.2.1,by grind[maxLen],?_,?_⟩,?_⟩;·simp_all
   ·grind
   grind
  have f:cs=[.slice none 0 0]∨∃a len cap,cs=[.slice (some a) len cap]:=by
   unfold TR vZ at h;grind
  rcases f with rfl|⟨a,len,cap,rfl⟩;·exact⟨⟨none,0,0⟩,[],rfl,Ab.nil,by simp⟩
  grind
theorem Fw{n:Nat}{t:TypeId}{fs:Array Field}{cs:List Value}{x:DataW H×List MemPlace}(j:xS.underlying t=some (.struct fs))(h:TR enc w n t cs=some x):
  cs.length=xS.cellsOf t/\∃m,m<n/\∀(i:Nat)(f:Field),fs.toList[i]?=some f->∃y,TR enc w m f.type ((cs.drop f.offset).take (xS.cellsOf f.type))=some y:=by
 cases n with
 |zero=>cases h
 |succ n=>
  have key:cs.length=xS.cellsOf t->(∃xs,(fs.toList.mapM λf=>vZ enc xS w 0 (λ_=>true) true n f.type ((cs.drop f.offset).take (xS.cellsOf f.type)))=some xs)->
    cs.length=xS.cellsOf t/\∃m,m<n+1/\∀(i:Nat)(f:Field),fs.toList[i]?=some f->∃y,TR enc w m f.type ((cs.drop f.offset).take (xS.cellsOf f.type))=some y:=by
   rintro u ⟨xs,z⟩;refine⟨u,n,vz n,λi f r=>?_⟩;obtain⟨-,h2⟩:=Lf z;grind
  unfold TR vZ at h;rw[j]at h;split at h;all_goals first|(rename_i e;cases e;done)|(rename_i e _;cases e;done)|(rename_i e _ _;cases e;done)|(exact absurd rfl ((by assumption:∀g:Array Field,some (vy fs)=some (vy g)->False) fs))|skip
  rename_i e;cases e;split at h
  ·rename_i u;simp only[Option.map_eq_some_iff]at h;obtain⟨xs,z,-⟩:=h;simp_all
  simp_all
end
end Go.Proofs
namespace Go.Proofs
open Go Go.Sx
section
variable{H:Type}{enc:TypeId×Value->H}{w:World}
theorem at1{cs:List Value}{v:Value}{off m:Nat}{t:TypeId}(h:∃y,TR enc w m t ((cs.drop off).take (xS.cellsOf t))=some y)(g:xS.cellsOf t=1)(hv:cs[off]?=some v):∃y,TR enc w m t [v]=some y:=by
 grind[yj,List.drop_eq_getElem_cons]
theorem EJ:xS.cellsOf 9=1:=by kernel_rfl
theorem IZ:xS.cellsOf 3=1:=by kernel_rfl
theorem cl22:xS.cellsOf 22=1:=by kernel_rfl
theorem cl23:xS.cellsOf 23=1:=by kernel_rfl
theorem cl24:xS.cellsOf 24=1:=by kernel_rfl
theorem cl25:xS.cellsOf 25=1:=by kernel_rfl
theorem cl26:xS.cellsOf 26=1:=by kernel_rfl
theorem cl27:xS.cellsOf 27=1:=by kernel_rfl
theorem cl28:xS.cellsOf 28=1:=by kernel_rfl
theorem cl38:xS.cellsOf 129=1:=by kernel_rfl
theorem cl52:xS.cellsOf 133=1:=by kernel_rfl
theorem cl40:xS.cellsOf 131=4:=by kernel_rfl
theorem cl67:xS.cellsOf 138=2:=by kernel_rfl
theorem cl94:xS.cellsOf 140=2:=by kernel_rfl
theorem cl54:xS.cellsOf 142=5:=by kernel_rfl
theorem cl75:xS.cellsOf 135=5:=by kernel_rfl
theorem cl97:xS.cellsOf 194=7:=by kernel_rfl
theorem cl58:xS.cellsOf 197=6:=by kernel_rfl
theorem cl61:xS.cellsOf 199=5:=by kernel_rfl
theorem cl64:xS.cellsOf 201=5:=by kernel_rfl
theorem cl30:xS.cellsOf 30=8:=by kernel_rfl
theorem gS{m:Nat}{v:Value}(h:∃y,TR enc w m 9 [v]=some y):∃s,v=.string s:=by
 obtain⟨y,g⟩:=h;obtain⟨s,e⟩:=rd_str Tryz.underlying9 g;exact⟨s,by simpa using e⟩
theorem gI{m:Nat}{v:Value}(h:∃y,TR enc w m 3 [v]=some y):∃n:Int,v=.int .i64 n/\yh.min<=n/\n<=yh.max:=by
 obtain⟨y,g⟩:=h;obtain⟨s,e,h1⟩:=rd_int vN g;exact⟨s,by simpa using e,h1⟩
theorem EX{α:Type}{row:α->List Value}{ok:α->Prop}{sz m:Nat}{t e:TypeId}{v:Value}(z:xS.underlying t=some (.slice e))(j:xS.cellsOf e=sz)(f:0<sz)(g:∀a,(row a).length=sz)
  (i:∀m',m'<m->∀u x,TR enc w m' e u=some x->∃a,row a=u/\ok a) (h:∃y,TR enc w m t [v]=some y):∃(s:Sl)(xs:List α),v=.slice s.p s.n s.c/\Ab (BE w) s sz (xs.map row)/\∀a∈xs,ok a:=by
 obtain⟨y,r⟩:=h;obtain⟨s,xs,e,h1,h2⟩:=rd_slice z j f g i r;grind
theorem len2{cs:List Value}(h:cs.length=2):∃a b,cs=[a,b]:=by
 match cs,h with
 |[a,b],_=>simp_all
theorem len4{cs:List Value}(h:cs.length=4):∃a b c d,cs=[a,b,c,d]:=by
 match cs,h with
 |[a,b,c,d],_=>simp_all
theorem len5{cs:List Value}(h:cs.length=5):∃a b c d e,cs=[a,b,c,d,e]:=by
 match cs,h with
 |[a,b,c,d,e],_=>simp_all
theorem len6{cs:List Value}(h:cs.length=6):∃a b c d e f,cs=[a,b,c,d,e,f]:=by
 match cs,h with
 |[a,b,c,d,e,f],_=>simp_all
theorem len7{cs:List Value}(h:cs.length=7):∃a b c d e f g,cs=[a,b,c,d,e,f,g]:=by
 match cs,h with
 |[a,b,c,d,e,f,g],_=>simp_all
theorem len8{cs:List Value}(h:cs.length=8):∃a b c d e f g i,cs=[a,b,c,d,e,f,g,i]:=by
 match cs,h with
 |[a,b,c,d,e,f,g,i],_=>simp_all
theorem rdFld{n:Nat}{cs:List Value}{x:DataW H×List MemPlace}(h:TR enc w n 138 cs=some x):∃f:Fld,Fld.row f=cs/\True:=by
 obtain⟨t,m,-,g⟩:=Fw Tryz.underlying138 h;obtain⟨a,b,rfl⟩:=len2 (t.trans cl67);obtain⟨s1,rfl⟩:=gS (at1 (g 0 _ rfl) EJ rfl);obtain⟨s2,rfl⟩:=gS (at1 (g 1 _ rfl) EJ rfl);exact⟨⟨s1,s2⟩,rfl,trivial⟩
theorem JN:∀(n:Nat)(cs:List Value)(x:DataW H×List MemPlace),TR enc w n 131 cs=some x->∃e:E,E.row e=cs/\E.Ok (BE w) e:=by
 intro n;induction n using yv with
 |_ n f=>
 intro cs x h;obtain⟨t,m,hm,g⟩:=Fw Tryz.underlying131 h;obtain⟨a,b,c,d,rfl⟩:=len4 (t.trans cl40);obtain⟨op,rfl,u⟩:=gI (at1 (g 0 _ rfl) IZ rfl);obtain⟨nn,rfl,z⟩:=gI (at1 (g 1 _ rfl) IZ rfl);obtain⟨s,rfl⟩:=gS (at1 (g 2 _ rfl) EJ rfl);obtain⟨l,k,rfl,j,i⟩:=EX (row:=E.row) (ok:=E.Ok (BE w)) vw cl40 (by decide) (λ_=>rfl) (λm' r=>f m' (by omega)) (at1 (g 3 _ rfl) cl38 rfl);exact⟨.mk op nn s l k,rfl,.mk j i u z⟩
theorem S.row_len:∀s:S,(S.row s).length=5:=λs=>by cases s;rfl
theorem Ro:∀(n:Nat)(cs:List Value)(x:DataW H×List MemPlace),TR enc w n 135 cs=some x->∃e:S,S.row e=cs/\S.Ok (BE w) e:=by
 intro n;induction n using yv with
 |_ n o=>
 intro cs x h;obtain⟨v,m,hm,g⟩:=Fw Tryz.underlying135 h;obtain⟨a,b,c,d,e,rfl⟩:=len5 (v.trans cl75);obtain⟨op,rfl,J⟩:=gI (at1 (g 0 _ rfl) IZ rfl);obtain⟨s,rfl⟩:=gS (at1 (g 1 _ rfl) EJ rfl);obtain⟨el,es,rfl,f,t⟩:=EX (row:=E.row) (ok:=E.Ok (BE w)) vw cl40 (by decide) (λ_=>rfl) (λm' _=>JN m') (at1 (g 2 _ rfl) cl38 rfl);obtain⟨ll,ls,rfl,u,z⟩:=EX (row:=S.row) (ok:=S.Ok (BE w)) vu cl75 (by decide) S.row_len (λm' j=>o m' (by omega)) (at1 (g 3 _ rfl) cl52 rfl);obtain⟨xl,xs,rfl,i,r⟩:=EX (row:=S.row) (ok:=S.Ok (BE w)) vu cl75 (by decide) S.row_len (λm' j=>o m' (by omega)) (at1 (g 4 _ rfl) cl52 rfl);exact⟨.mk op s el es ll ls xl xs,rfl,.mk f t u z i r J⟩
theorem gF{m:Nat}{v:Value}(h:∃y,TR enc w m 23 [v]=some y):∃(s:Sl)(xs:List Fld),v=.slice s.p s.n s.c/\Ab (BE w) s 2 (xs.map Fld.row):=by
 obtain⟨s,xs,h1,h2,-⟩:=EX (row:=Fld.row) (ok:=λ_=>True) Tryz.underlying23 cl67 (by decide) (λ_=>rfl) (λ_ _ _ _=>rdFld) h;grind
theorem rdTy{n:Nat}{cs:List Value}{x:DataW H×List MemPlace}(h:TR enc w n 140 cs=some x):∃f:Ty,Ty.row f=cs/\Ty.Ok (BE w) f:=by
 obtain⟨t,m,-,g⟩:=Fw Tryz.underlying140 h;obtain⟨a,b,rfl⟩:=len2 (t.trans cl94);obtain⟨s1,rfl⟩:=gS (at1 (g 0 _ rfl) EJ rfl);obtain⟨l,k,rfl,u⟩:=gF (at1 (g 1 _ rfl) cl23 rfl);exact⟨⟨s1,l,k⟩,rfl,⟨u⟩⟩
theorem rdPr{n:Nat}{cs:List Value}{x:DataW H×List MemPlace}(h:TR enc w n 142 cs=some x):∃f:Pr,Pr.row f=cs/\Pr.Ok (BE w) f:=by
 obtain⟨i,m,-,g⟩:=Fw Tryz.underlying142 h;obtain⟨a,b,c,d,e,rfl⟩:=len5 (i.trans cl54);obtain⟨s1,rfl⟩:=gS (at1 (g 0 _ rfl) EJ rfl);obtain⟨r,o,rfl,t⟩:=gF (at1 (g 1 _ rfl) cl23 rfl);obtain⟨s2,rfl⟩:=gS (at1 (g 2 _ rfl) EJ rfl);obtain⟨v,J,rfl,u⟩:=gF (at1 (g 3 _ rfl) cl23 rfl);obtain⟨N,Z,rfl,z,j⟩:=EX (row:=S.row) (ok:=S.Ok (BE w)) vu cl75 (by decide) S.row_len (λm' _=>Ro m') (at1 (g 4 _ rfl) cl52 rfl);exact⟨⟨s1,r,o,s2,v,J,N,Z⟩,rfl,⟨t,u,z,j⟩⟩
theorem rdMs{n:Nat}{cs:List Value}{x:DataW H×List MemPlace}(h:TR enc w n 194 cs=some x):∃f:Ms,Ms.row f=cs/\Ms.Ok (BE w) f:=by
 obtain⟨i,m,-,t⟩:=Fw Tryz.underlying194 h;obtain⟨a,b,c,d,e,f,g,rfl⟩:=len7 (i.trans cl97);obtain⟨s1,rfl⟩:=gS (at1 (t 0 _ rfl) EJ rfl);obtain⟨s2,rfl⟩:=gS (at1 (t 1 _ rfl) EJ rfl);obtain⟨nn,rfl,r⟩:=gI (at1 (t 2 _ rfl) IZ rfl);obtain⟨y,u⟩:=t 3 _ rfl;change TR enc w m 131 (([ye s1,.string s2,.int .i64 nn,d,e,f,g].drop 3).take (xS.cellsOf 131))=some y at u;rw[cl40]at u;obtain⟨x,j,z⟩:=JN m _ _ u;simp only[vt,vq,vp,vo,E.row,yJ,and_true]at j;obtain⟨rfl,rfl,rfl,rfl⟩:=j;exact⟨⟨s1,s2,nn,x⟩,rfl,⟨z,r⟩⟩
theorem rdIv{n:Nat}{cs:List Value}{x:DataW H×List MemPlace}(h:TR enc w n 197 cs=some x):∃f:Iv,Iv.row f=cs/\E.Ok (BE w) f.x:=by
 obtain⟨i,m,-,t⟩:=Fw Tryz.underlying197 h;obtain⟨a,b,d,e,f,g,rfl⟩:=len6 (i.trans cl58);obtain⟨s1,rfl⟩:=gS (at1 (t 0 _ rfl) EJ rfl);obtain⟨s2,rfl⟩:=gS (at1 (t 1 _ rfl) EJ rfl);obtain⟨y,u⟩:=t 2 _ rfl;change TR enc w m 131 (([ye s1,.string s2,d,e,f,g].drop 2).take (xS.cellsOf 131))=some y at u;rw[cl40]at u;obtain⟨x,j,z⟩:=JN m _ _ u;simp only[vt,vq,vp,vo,E.row,yJ,and_true]at j;obtain⟨rfl,rfl,rfl,rfl⟩:=j;exact⟨⟨s1,s2,x⟩,rfl,z⟩
theorem rdPo{n:Nat}{cs:List Value}{x:DataW H×List MemPlace}(h:TR enc w n 199 cs=some x):∃f:Po,Po.row f=cs/\E.Ok (BE w) f.x:=by
 obtain⟨i,m,-,z⟩:=Fw Tryz.underlying199 h;obtain⟨a,d,e,f,g,rfl⟩:=len5 (i.trans cl61);obtain⟨s1,rfl⟩:=gS (at1 (z 0 _ rfl) EJ rfl);obtain⟨y,t⟩:=z 1 _ rfl;change TR enc w m 131 (([ye s1,d,e,f,g].drop 1).take (xS.cellsOf 131))=some y at t;rw[cl40]at t;obtain⟨x,j,u⟩:=JN m _ _ t;simp only[vt,vq,vp,vo,E.row,yJ,and_true]at j;obtain⟨rfl,rfl,rfl,rfl⟩:=j;exact⟨⟨s1,x⟩,rfl,u⟩
theorem rdBd{n:Nat}{cs:List Value}{x:DataW H×List MemPlace}(h:TR enc w n 201 cs=some x):∃f:Bd,Bd.row f=cs/\E.Ok (BE w) f.x:=by
 obtain⟨i,m,-,z⟩:=Fw Tryz.underlying201 h;obtain⟨a,d,e,f,g,rfl⟩:=len5 (i.trans cl64);obtain⟨s1,rfl⟩:=gS (at1 (z 0 _ rfl) EJ rfl);obtain⟨y,t⟩:=z 1 _ rfl;change TR enc w m 131 (([ye s1,d,e,f,g].drop 1).take (xS.cellsOf 131))=some y at t;rw[cl40]at t;obtain⟨x,j,u⟩:=JN m _ _ t;simp only[vt,vq,vp,vo,E.row,yJ,and_true]at j;obtain⟨rfl,rfl,rfl,rfl⟩:=j;exact⟨⟨s1,x⟩,rfl,u⟩
theorem rdDs{n:Nat}{cs:List Value}{x:DataW H×List MemPlace}(h:TR enc w n 30 cs=some x):∃d:Ds,d.row=cs/\Ds.Ok (BE w) d:=by
 obtain⟨u,m,-,t⟩:=Fw Tryz.underlying30 h;obtain⟨a,b,c,d,e,f,g,i,rfl⟩:=len8 (u.trans cl30);obtain⟨s1,rfl⟩:=gS (at1 (t 0 _ rfl) EJ rfl);obtain⟨z,j,rfl,h1,r⟩:=EX (row:=Ty.row) (ok:=Ty.Ok (BE w)) Tryz.underlying22 cl94 (by decide) (λ_=>rfl) (λ_ _ _ _=>rdTy) (at1 (t 1 _ rfl) cl22 rfl);obtain⟨o,v,rfl,h2⟩:=gF (at1 (t 2 _ rfl) cl23 rfl);obtain⟨J,N,rfl,h3,Z⟩:=EX (row:=Pr.row) (ok:=Pr.Ok (BE w)) Tryz.underlying24 cl54 (by decide) (λ_=>rfl) (λ_ _ _ _=>rdPr) (at1 (t 3 _ rfl) cl24 rfl);obtain⟨Y,Q,rfl,h4,P⟩:=EX (row:=Ms.row) (ok:=Ms.Ok (BE w)) Tryz.underlying25 cl97 (by decide) (λ_=>rfl) (λ_ _ _ _=>rdMs) (at1 (t 4 _ rfl) cl25 rfl);obtain⟨O,A,rfl,I,L⟩:=EX (row:=Iv.row) (ok:=λf=>E.Ok (BE w) f.x) Tryz.underlying26 cl58 (by decide) (λ_=>rfl) (λ_ _ _ _=>rdIv) (at1 (t 5 _ rfl) cl26 rfl);obtain⟨R,X,rfl,B,C⟩:=EX (row:=Po.row) (ok:=λf=>E.Ok (BE w) f.x) Tryz.underlying27 cl61 (by decide) (λ_=>rfl) (λ_ _ _ _=>rdPo) (at1 (t 6 _ rfl) cl27 rfl);obtain⟨D,K,rfl,T,U⟩:=EX (row:=Bd.row) (ok:=λf=>E.Ok (BE w) f.x) Tryz.underlying28 cl64 (by decide) (λ_=>rfl) (λ_ _ _ _=>rdBd) (at1 (t 7 _ rfl) cl28 rfl);exact⟨⟨s1,z,j,o,v,J,N,Y,Q,O,A,R,X,D,K⟩,rfl,⟨h1,r,h2,h3,Z,h4,P,I,L,B,C,T,U⟩⟩
end
end Go.Proofs
namespace Go.Proofs.YtmdkfdmecbimcaaGreatDoor
open Go Go.Sx Go.Proofs Go.ChangeShapes Go.WideShapes Go.ChangeAt Go.RowKit
theorem JO{P:Program}{f:FuncId}{args:List Value}{W:World}{v:Value}(h:Bn P f args (BE W) v):Calls P f args.toArray W λe g=>e=.returned v/\g.os=W.os/\g.output=W.output/\W.heap.size<=g.heap.size/\∀b,b<W.heap.size->g.heap[b]?=W.heap[b]?:=by
 have h2:Tri P f args.toArray (BE W) λe V'=>e=.returned v/\V'=BE W:=h;unfold Tri at h2;refine F6 (h2 W (heapM_le W)) ?_;rintro e g ⟨V',⟨rfl,rfl⟩,t⟩;refine⟨rfl,t.os,t.out,t.size,λb u=>?_⟩;have:BE W b=some W.heap[b]:=Array.getElem?_eq_getElem u;rw[t.le b _ this];exact this.symm
theorem Tryz.own:ownKnob xS.godebug=none:=by kernel_rfl
theorem Tryz.laidOut:laidOutB xS=true:=by kernel_rfl
theorem tab_of{W:World}(h:xX xS W "strings.asciiSpace" .u8 xY):Tab (BE W):=by
 have g:xS.globalNamed "strings.asciiSpace" =some 0:=by kernel_rfl
 unfold xX World.var? at h;rw[g,Option.bind_some]at h;split at h
 ·rename_i u t fr f;simp only[zG]at h;exact⟨t,fr,by rw[<-h];exact f⟩
 ·cases h
theorem JP{H:Type}{enc:TypeId×Value->H}{W:World}{v:Value}{u:DataW H}{p:List MemPlace}(h:vn enc xS W 0 (λ_=>true) true 30 v u p):∃d:Ds,v=d.v/\Ds.Ok (BE W) d:=by
 obtain⟨fuel,h⟩:=h;obtain⟨d,f,g⟩:=rdDs h;refine⟨d,?_,g⟩;have z:v.cells.toList.length=8:=by rw[<-f];rfl
 cases v with
 |agg t=>
  have:t.toList=d.row:=f.symm;show Value.agg t=.agg d.row.toArray;rw[<-this]
 |_=>simp[Value.cells]at z
noncomputable def I0(os:Os):World:=
 let w0:=World.holding xS os ⟨#[.cells #[.int .u16 9,.int .u16 13,.int .u16 1,.int .u16 32,.int .u16 133,.int .u16 101,.int .u16 160,.int .u16 5760,.int .u16 5600,.int .u16 8192,.int .u16 8202,.int .u16 1,.int .u16 8232,.int .u16 8233,.int .u16 1,.int .u16 8239,.int .u16 8287,.int .u16 48,.int .u16 12288,.int .u16 12288,.int .u16 1] 396,
  .cells #[.slice (some ⟨(vm xS os).heap.size,0,none⟩) 7 7,.slice none 0 0,.int .i64 2] 393],#[],[]⟩
 {w0 with heap:=(w0.heap.modify 0 fun
   |.cells _ t frozen=>.cells (xY.map λz=>wP .u8 z).toArray t frozen
   |o=>o).modify 1 fun
   |.cells _ t frozen=>.cells #[.pointer (some ⟨(vm xS os).heap.size+1,0,none⟩)] t frozen
   |o=>o}
theorem JQ(os:Os)(args:Array Value):laidMet xS [("unicode.White_Space",Rows.laid_unicode_White_Space),("strings.asciiSpace",Rows.laid_strings_asciiSpace)] ((I0 os).forCall (λ_ _=>0) ⟨#[],args,[]⟩).memory:=
 (LaidIn.of_run [0,1,(vm xS os).heap.size,(vm xS os).heap.size+1] 12 (by kernel_rfl) (by kernel_rfl) (by kernel_rfl) (by kernel_rfl)).met
end Go.Proofs.YtmdkfdmecbimcaaGreatDoor
namespace Go.Proofs.YtmdkfdmecbimcaaGreatDoor
open Go Go.Sx Go.Proofs Go.ChangeShapes Go.WideShapes Go.ChangeAt Go.RowKit
abbrev DW:List (String×DataW Unit):=[("unicode.White_Space",Rows.laid_unicode_White_Space),("strings.asciiSpace",Rows.laid_strings_asciiSpace)]
theorem Gq{w:World}:laidMetH xS DW w↔laidMet xS DW w:=by
 rfl
theorem JR{W:World}(h:laidMet xS DW W):Tab (BE W):=by
 obtain⟨ps,h1,h2,h3⟩:=h;obtain⟨g,t,I,fuel,p,q,L,R,Z,X,f,Q⟩:=h1;obtain⟨P,O,A,r,B,C,o,v,u,z,i,Y⟩:=f;refine tab_of ?_;unfold xX;rw[u];have J:P=0:=vk (o.symm.trans (show xS.globalNamed "strings.asciiSpace" =some 0 by kernel_rfl));subst J;have N:O=370:=vk (v.symm.trans (show(xS.globals[0]?).map (·.type)=some 370 by kernel_rfl));subst N;have j:(Rows.laid_strings_asciiSpace:DataW Unit)=Lib.tabData .u8 xY:=by kernel_rfl
 rw[j]at z;rw[<-Lib.cells_of_tab (n:=256) (e:=5) Tryz.underlying370 Tryz.underlying5 (by kernel_rfl) (by kernel_rfl) z]
theorem kept{W h:World}(h1:h.os=W.os)(h2:h.output=W.output)(f:∀b,b<W.heap.size->h.heap[b]?=W.heap[b]?)(g:MemPlace->Prop):W.keptBut h g:=by
 refine⟨h1,h2,λi t=>?_⟩;grind
theorem again_arg{H:Type}{enc:TypeId×Value->H}{t:TypeId}(i:xS.readableRec t=true)(f:t<xS.types.size){W z:World}{v:Value}{d:DataW H}{ps:List MemPlace}(h:vn enc xS W 0 (λ_=>true) true t v d ps)
  (g:∀b,b<W.heap.size->z.heap[b]?=W.heap[b]?) (u:∀x∈ps,x.block<W.heap.size):vn enc xS z 0 (λb=>decide (b<W.heap.size)) true t v d ps:=
 WideElems.Trod_stays Tryz.laidOut i f h (λx j=>by
  have:=u x j;cases x with
  |cell b o=>exact World.cell?_of_block (w:=W) (g b this)
  |map b=>exact g b this) (λx j=>by simp_all)
theorem JS{C:Checked}{os:Os}{f:FuncId}{fn:Func}{s:ChangeSpec}{g:List PathCond}{apart:Bool}{X:World->Array Value->Prop}{H:Type}{enc:TypeId×Value->H}(w0:World)(args:Array Value)(fuel:Nat)(z:w0.os=os)
  (hv:(w0.forCall (λ_ _=>0) ⟨#[],args,[]⟩).variablesRefB C.prog=true)
  (r:((w0.forCall (λ_ _=>0) ⟨#[],args,[]⟩).heap.toList.drop C.prog.globals.size).take ((begin C.prog (λ_ _=>0) default).world.heap.size-C.prog.globals.size)=
   (begin C.prog (λ_ _=>0) default).world.heap.toList.drop C.prog.globals.size)
  (t:Input.okWideB C.prog (w0.forCall (λ_ _=>0) ⟨#[],args,[]⟩) f ⟨#[],args,[]⟩=true)
  (u:s.preB enc C.prog fn g apart (w0.forCall (λ_ _=>0) ⟨#[],args,[]⟩).memory args fuel=true)
  (j:s.sizedB enc C.prog fn apart (w0.forCall (λ_ _=>0) ⟨#[],args,[]⟩).memory args fuel=true)
  (o:X (w0.forCall (λ_ _=>0) ⟨#[],args,[]⟩).memory args):
  ∃(w:World)(h:Tape)(i:Input),w.os=os/\(w.forCall h i).Shaped C.prog/\i.vars=[]/\Input.okWide C.prog (w.forCall h i) .any w.heap.size f i/\
   ((s.pre enc C.prog fn g apart (w.forCall h i).memory i.args/\X (w.forCall h i).memory i.args)/\sizedMet enc C.prog fn (OpenSpec.ofChange s) apart (w.forCall h i).memory i.args)/\({}:Assume).holds C.prog (lone (Frame.enter C.prog f i.args .normal) [] (w.forCall h i)):=
 ⟨w0,λ_ _=>0,⟨#[],args,[]⟩,z,World.shaped_of_RefB hv r,(vj (base:=0) t).1,(vj t).2,⟨⟨ChangeSpec.pre_of_preB u,o⟩,sizedMet_of_sizedB j⟩,by
  grind[Assume.holds]⟩
theorem I3{H:Type}{enc:TypeId×Value->H}{W i:World}(g:∀b,b<W.heap.size->i.heap[b]?=W.heap[b]?):∀{ts:List TypeId}{vs:List Value}{ds:List (DataW H)}{ps:List MemPlace},(∀t∈ts,xS.readableRec t=true/\t<xS.types.size)->
  vh enc xS W 0 (λ_=>true) true ts vs ds ps->(∀x∈ps,x.block<W.heap.size)->vh enc xS i 0 (λb=>decide (b<W.heap.size)) true ts vs ds ps
 |[],_,_,_,_,h,_=>by
  obtain⟨rfl,rfl,rfl⟩:=trodAll_nil h;rfl
 |t::ts,_,_,_,z,h,f=>by
  obtain⟨v,vs,d,ds,p,q,rfl,rfl,rfl,h1,h2⟩:=trodAll_cons h;exact⟨p,q,again_arg (z t (by simp)).1 (z t (by simp)).2 h1 g (λx j=>f x (List.mem_append_left _ j)),I3 g (λu hu=>z u (by simp[hu])) h2 (λx j=>f x (List.mem_append_right _ j)),rfl⟩
end Go.Proofs.YtmdkfdmecbimcaaGreatDoor
namespace Go.Proofs.YtmdkfdmecbimcaaGreatDoor
open Go Go.Sx Go.Proofs Go.ChangeShapes Go.WideShapes Go.ChangeAt Go.RowKit
section
variable{H:Type}{enc:TypeId×Value->H}{w:World}
theorem cl31:xS.cellsOf 35=1:=by kernel_rfl
theorem gInts{m:Nat}{v:Value}(h:∃y,TR enc w m 35 [v]=some y):∃(s:Sl)(xs:List Int),v=.slice s.p s.n s.c/\Ab (BE w) s 1 (xs.map Ah)/\∀x∈xs,Ep x:=
 EX (row:=Ah) (ok:=Ep) Tryz.underlying35 IZ (by decide) (λ_=>rfl) (λm' _ t x g=>by
  obtain⟨n,rfl,f⟩:=rd_int vN g;exact⟨n,rfl,f⟩) h
theorem clCl:xS.cellsOf 57=2:=by kernel_rfl
theorem rdCl{n:Nat}{cs:List Value}{x:DataW H×List MemPlace}(h:TR enc w n 57 cs=some x):∃(nm:KB)(l:Sl)(xs:List Int),[ye nm,l.v]=cs/\Ab (BE w) l 1 (xs.map Ah):=by
 obtain⟨f,m,-,g⟩:=Fw Tryz.underlying57 h;obtain⟨a,b,rfl⟩:=len2 (f.trans clCl);obtain⟨t,rfl⟩:=gS (at1 (g 0 _ rfl) EJ rfl);obtain⟨l,k,rfl,u,-⟩:=gInts (at1 (g 1 _ rfl) cl31 rfl);exact⟨t,l,k,rfl,u⟩
end
end Go.Proofs.YtmdkfdmecbimcaaGreatDoor
namespace Go.Proofs
open Go Go.Sx
attribute [local irreducible] Go.Sx.Tri
def AD(d:Ds)(F tk c k cm nn:Int)(gs ns ls:Sl):List Value:=[Go.Sx.vS d.name,d.ts.v,d.gs.v,d.ps.v,d.ms.v,d.is.v,d.qs.v,d.bs.v,gs.v,ns.v,.int .i64 F,.int .i64 tk,.int .i64 c,.int .i64 k,.int .i64 cm,.int .i64 nn,.int .i64 0,ls.v]
abbrev XM(V0:Mem)(d:Ds)(p F:Nat)(V:Mem)(s:St)(c k:Int):Prop:=MA 148 V0 p (AD d F s.tk c k s.cm (Bc s.lg)) V s
theorem Fa:NT 148:=by unfold NT;decide
def XR(V0:Mem)(d:Ds)(p F:Nat)(c:Int)(r:Rx Int):Ending->Mem->Prop:=λe V'=>match r with
 |.ok v s=>e=.returned (.int .i64 v)/\XM V0 d p F V' s c 0
 |.bad k s=>e=.returned (.int .i64 0)/\k≠0/\XM V0 d p F V' s c k
section
variable{V0 V V1:Mem}{d:Ds}{p F:Nat}{c k:Int}{s:St}
theorem XR.call{f:FuncId}{args:Array Value}{r:Rx Int}{K:Int->Mem->Prop}(H:Tri xS f args V (XR V0 d p F c r))(g:∀v s V',r=.ok v s->XM V0 d p F V' s c 0->K v V')(t:∀k s V',r=.bad k s->k≠0->XM V0 d p F V' s c k->K 0 V'):
  Tri xS f args V λe V'=>∃v,e=.returned (.int .i64 v)/\K v V':=
 Tri.mono H λe V' h=>by
  cases r with
  |ok v s=>exact⟨v,h.1,g v s V' rfl h.2⟩
  |bad k s=>exact⟨0,h.1,t k s V' rfl h.2.1 h.2.2⟩
theorem XR.ok{G:Rx Int}{v:Int}(h:G=.ok v s)(M:XM V0 d p F V s c 0):XR V0 d p F c G (.returned (.int .i64 v)) V:=by rw[h];exact⟨rfl,M⟩
theorem XR.bad{G:Rx Int}{k:Int}(h:G=.bad k s)(g:k≠0)(M:XM V0 d p F V s c k):XR V0 d p F c G (.returned (.int .i64 0)) V:=by rw[h];exact⟨rfl,g,M⟩
theorem XR.last{f:FuncId}{args:Array Value}{G r:Rx Int}(h:G=r)(H:Tri xS f args V (XR V0 d p F c r)):Tri xS f args V λe V'=>∃v,e=.returned (.int .i64 v)/\XR V0 d p F c G (.returned (.int .i64 v)) V':=by
 subst h;exact XR.call H (λv s V' e M=>XR.ok e M) λk s V' e g M=>XR.bad e g M
theorem c104(M:XM V0 d p F V s c 0){k:Int}:Tri xS 104 #[pv p,.int .i64 k] V λe V'=>e=.returned (.int .i64 0)/\XM V0 d p F V' s c k:=by
 obtain⟨gs,ns,ls,nd,g,L⟩:=M.ex;refine x104 ?_;exact⟨nn,nn,_,Aj g 13 1 (by simp[AD]),λ_=>⟨nn,nn,Ak.at2 (off:=13) g (by simp[AD]) ⟨rfl,MA.set (row':=AD d F s.tk c k s.cm (Bc s.lg)) Fa M.p0 g L rfl rfl rfl rfl⟩⟩,λh=>absurd rfl h⟩
theorem failX(M:XM V0 d p F V s c 0){k:Int}(g:k≠0){G:Rx Int}(f:G=.bad k s):Tri xS 104 #[pv p,.int .i64 k] V λe V'=>∃v,e=.returned (.int .i64 v)/\XR V0 d p F c G (.returned (.int .i64 v)) V':=
 Tri.mono (c104 M) λ_ _ ⟨h,t⟩=>⟨0,h,XR.bad f g t⟩
theorem c276{b:Bool}:PP 276 [.bool b] V (.int .i64 (Er b)):=by
 refine x276 ?_;refine⟨λh=>?_,λh=>?_⟩;·rw[show b=true from h];exact⟨rfl,rfl⟩
 ·rw[show b=false by simpa using h];exact⟨rfl,rfl⟩
theorem c245{l:List Fld}{fl:Sl}(t:Ab V fl 2 (l.map Fld.row)){nm:KB}:PP 245 [fl.v,.string nm] V (.int .i64 (Cp l nm)):=by
 refine x245 ?_;refine AE (mk:=.int .i64) (b0:=0) l.length (λi V1=>V=V1/\A0 (λy:Fld=>!decide (y.name=nm)) l i) ⟨rfl,A0.zero _ _⟩ ?_;rintro i b V1 J Y ⟨rfl,u⟩ e;refine⟨λg=>?_,λz=>?_⟩
 ·obtain⟨x,N,r,-,j,o,Z,f⟩:=t.get g;refine⟨o,Z,g,Al o,_,_,f,λh=>?_,λh=>⟨t.succ g,e j _ _ ⟨rfl,Hn (p:=λy:Fld=>decide (y.name=nm)) u r (decide_eq_false h)⟩⟩⟩;unfold Cp;rw[Hl (p:=λy:Fld=>decide (y.name=nm)) u r (decide_eq_true h)];simp_all
 ·unfold Cp;rw[Hm (p:=λy:Fld=>decide (y.name=nm)) u (t.done z).2];simp_all
theorem c242{a:Int}(i:a<=1099511627776):PP 242 [.int .i64 a] V (.int .i64 (DE a)):=by
 refine x242 ?_;have small:∀v:Int,v<=1->DE v=0:=λv hv=>by
  unfold DE;have:v.toNat=0∨v.toNat=1:=by omega
  rcases this with h|h<;>rw[h]<;>decide
 have step:∀v:Int,1<v->DE v=DE (v.tdiv 2)+1:=λv hv=>by
  unfold DE;have e:(v.tdiv 2).toNat=v.toNat/2:=by grind
  rw[e,Nat.log2_def,if_pos (by omega)];simp
 have t:DE a<=64:=by
  unfold DE;by_cases g:a.toNat=0;·rw[g];decide
  ·have:=(Nat.log2_lt g).2 (show a.toNat<2^64 by omega);omega
 have pos:∀v:Int,0<=DE v:=λv=>by unfold DE;omega
 refine⟨λn xs V1=>∃v c:Int,xs=[.int .i64 v,.int .i64 c]/\n=v.toNat/\V=V1/\v<=a/\0<=c/\c+DE v=DE a,a.toNat,⟨a,0,rfl,rfl,rfl,Int.le_refl _,Int.le_refl _,by omega⟩,?_⟩;rintro n V1 v c ⟨r,o,f,rfl,rfl,u,N,Z⟩ J z;simp only[yJ,Value.int.injEq,true_and,and_true]at f;obtain⟨rfl,rfl⟩:=f;refine⟨λhv=>?_,λhv=>?_⟩
 ·have hv:1<v:=hv;have hw:xT .i64 (v.tdiv 2)=v.tdiv 2:=by
   rw[vg (by omega)];exact Hd ⟨by simp[IntKind.min,zV,zX];omega,by simp[IntKind.max,zV,zX];omega⟩
  have Y:=step v hv;have Q:=pos (v.tdiv 2);have j:v.tdiv 2<v/\0<=v.tdiv 2:=by rw[vg (by omega)];omega
  refine⟨by decide,⟨by omega,by omega⟩,?_⟩;rw[hw];exact z (v.tdiv 2).toNat _ _ (by omega) ⟨v.tdiv 2,c+1,rfl,rfl,rfl,by omega,by omega,by omega⟩
 simp_all
theorem c141(f:F<=4000)(M:XM V0 d p F V s c 0):Tri xS 141 #[pv p] V λe V'=>(s.tk<F/\e=.returned (.bool true)/\XM V0 d p F V' {s with tk:=s.tk+1} c 0)∨(F<=s.tk/\e=.returned (.bool false)/\XM V0 d p F V' s c 20):=by
 obtain⟨gs,ns,ls,nd,g,L⟩:=M.ex;refine x141 ?_;refine⟨nn,nn,_,Aj g 13 1 (by simp[AD]),λ_=>⟨nn,nn,_,Aj g 11 1 (by simp[AD]),nn,nn,_,Aj g 10 1 (by simp[AD]),λh=>?_,λh=>?_⟩,λh=>absurd rfl h⟩
 ·refine Tri.mono (c104 M) ?_;simp_all
 ·refine⟨nn,nn,_,Aj g 11 1 (by simp[AD]),⟨by omega,by omega⟩,nn,nn,Ak.at2 (off:=11) g (by simp[AD]) (.inl ⟨by omega,rfl,?_⟩)⟩;exact MA.set (row':=AD d F ((s.tk+1:Nat):Int) c 0 s.cm (Bc s.lg)) Fa M.p0 g L rfl rfl rfl rfl
theorem nodesN_one(l:List (Int×Int×Int))(a:Int×Int×Int):Bc (l++[a])=Bc l+if 0<a.2.1 then 1 else 0:=by
 grind[Bc]
theorem nodesN_bound(l:List (Int×Int×Int)):Bc l<=l.length:=by grind[Bc]
theorem c240(M:XM V0 d p F V s c 0){k a f:Int}(j:s.lg.length+1<=2147483648):Tri xS 240 #[pv p,.int .i64 k,.int .i64 a,.int .i64 f] V λe V'=>e=.returned (.tuple #[])/\XM V0 d p F V' (s.note (k,a,f)) c 0:=by
 obtain⟨gs,ns,ls,nd,t,L⟩:=M.ex;refine x240 ?_;have Z:=nodesN_bound s.lg;have u:Bc (s.note (k,a,f)).lg=Bc s.lg+if 0<a then 1 else 0:=nodesN_one s.lg (k,a,f)
 refine⟨nn,nn,ls,Aj t 17 1 (by simp[AD]),λX o=>L.note (a:=(k,a,f)) o rfl rfl j λs' V' Y Q=>⟨s',rfl,nn,nn,?_⟩⟩;have g:=Q _ _ t (Hs t Fa L.log (.inr (.inr rfl)));refine Ak.at2 (off:=17) g (by simp[AD]) ?_;have J:MA 148 V0 p (AD d F s.tk c 0 s.cm (Bc s.lg)) (V'.set p (.cells (AD d F s.tk c 0 s.cm (Bc s.lg) gs ns s').toArray 148 (0,0))) (s.note (k,a,f)):=MA.set (row':=AD d F s.tk c 0 s.cm (Bc s.lg)) Fa M.p0 g Y rfl rfl rfl rfl;show Br (0<a) _ _;obtain⟨r,i⟩:∃r,r=V'.set p (.cells (AD d F s.tk c 0 s.cm (Bc s.lg) gs ns s').toArray 148 (0,0)):=⟨_,rfl⟩;have N:V'.set p (.cells ((AD d F s.tk c 0 s.cm (Bc s.lg) gs ns ls).toArray.toList.take 17++[s'.v]++(AD d F s.tk c 0 s.cm (Bc s.lg) gs ns ls).toArray.toList.drop (17+[s'.v].length)).toArray 148 (0,0))=r:=by rw[i];rfl
 rw[<-i]at J;obtain⟨P,O,A,I,h,R⟩:=J.ex;refine⟨λz=>?_,λz=>?_⟩
 ·have z:0<a:=z;rw[if_pos z]at u
  erw [N]
  refine⟨nn,nn,AM,_,Aj h 15 1 (by simp[AD]),⟨by omega,by omega⟩,nn,nn,AM,Ak.at2 (off:=15) h (by simp[AD]) ⟨rfl,?_⟩⟩;exact MA.set (row':=AD d F s.tk c 0 s.cm (Bc (s.note (k,a,f)).lg)) Fa M.p0 h R (by rw[u];rfl) rfl rfl rfl
 ·have z:¬0<a:=z;rw[if_neg z,Nat.add_zero]at u;refine⟨rfl,?_⟩
  erw [N]
  show MA _ V0 p (AD d F s.tk c 0 s.cm (Bc (s.note (k,a,f)).lg)) r _;grind
theorem c241(M:XM V0 d p F V s c 0){n:Int}:Tri xS 241 #[pv p,.int .i64 n] V (XR V0 d p F c (DM (CK n) s)):=by
 obtain⟨G,g⟩:∃G,G=DM (CK n) s:=⟨_,rfl⟩;rw[<-g];refine Tri.mono (x241 (R:=XR V0 d p F c G) ?_) λ_ _ h=>h;have bad:¬(-1099511627776<=n/\n<=1099511627776)->G=.bad 5 s:=λh=>by rw[g];unfold CK;rw[if_neg h];rfl
 refine⟨λh=>failX M (by decide) (bad (by omega)),λh1=>⟨λh=>failX M (by decide) (bad (by omega)),λh2=>?_⟩⟩;have h1:¬n< -1099511627776:=h1;have h2:¬1099511627776<n:=h2;exact XR.ok (by rw[g];unfold CK;rw[if_pos (by omega)];rfl) M
theorem c277(M:XM V0 d p F V s c 0){a b:Int}(u:-1099511627776<=a/\a<=1099511627776)(z:-1099511627776<=b/\b<=1099511627776):Tri xS 277 #[pv p,.int .i64 a,.int .i64 b] V (XR V0 d p F c (DM (CK (a*b)) s)):=by
 obtain⟨G,t⟩:∃G,G=DM (CK (a*b)) s:=⟨_,rfl⟩;rw[<-t];refine Tri.mono (x277 (R:=XR V0 d p F c G) ?_) λ_ _ h=>h;have fit:(-1099511627776<=a*b/\a*b<=1099511627776)->XR V0 d p F c G (.returned (.int .i64 (a*b))) V:=λk=>XR.ok (by rw[t];unfold CK;rw[if_pos k];rfl) M;have key:∀x y:Int,x=(if a<0 then -a else a)->y=(if b<0 then -b else b)->Br (0<x) (¬x=0/\Br ((xT .i64 ((1099511627776:Int).tdiv x))<y)
   (Tri xS 104 #[pv p,.int .i64 5] V λe V1=>∃j,e=.returned (.int .i64 j)/\XR V0 d p F c G (.returned (.int .i64 j)) V1)
   (IR (a*b)/\XR V0 d p F c G (.returned (.int .i64 (a*b))) V)) (IR (a*b)/\XR V0 d p F c G (.returned (.int .i64 (a*b))) V):=λx y i r=>by
  refine⟨λf=>?_,λf=>?_⟩
  ·have f:0<x:=f;have g:a≠0:=λe=>by omega
   have o:xT .i64 ((1099511627776:Int).tdiv x)=(1099511627776:Int).tdiv x:=K7 ⟨by omega,by omega⟩;refine⟨by omega,?_⟩;rw[o];have hm:=mul_big u z g;rw[<-i,<-r]at hm;refine⟨λk=>failX M (by decide) (by rw[t];unfold CK;rw[if_neg (hm.1 k)];rfl),λk=>?_⟩;simp_all[Classical.not_not,mul_in,inr]
  ·have f:¬0<x:=f;have g:a=0:=by omega
   exact⟨mul_in u z (.inl g),fit (by simp_all)⟩
 refine⟨λh1=>⟨⟨by omega,by omega⟩,λh2=>⟨⟨by omega,by omega⟩,?_⟩,λh2=>?_⟩,λh1=>⟨λh2=>⟨⟨by omega,by omega⟩,?_⟩,λh2=>?_⟩⟩;·grind
 ·grind
 ·grind
 grind
theorem c244(M:XM V0 d p F V s c 0){op v w:Int}(N:op=9∨op=10∨op=11∨op=12∨op=13∨op=22∨op=23)(hv:-1099511627776<=v/\v<=1099511627776)(hw:-1099511627776<=w/\w<=1099511627776):Tri xS 244 #[pv p,.int .i64 op,.int .i64 v,.int .i64 w] V (XR V0 d p F c (DM (Bh op v w) s)):=by
 obtain⟨G,g⟩:∃G,G=DM (Bh op v w) s:=⟨_,rfl⟩;rw[<-g];refine Tri.mono (x244 (R:=XR V0 d p F c G) ?_) λ_ _ h=>h;have good:∀{n:Int},Bh op v w=.ok n->XR V0 d p F c G (.returned (.int .i64 n)) V:=λe=>XR.ok (by rw[g,e];rfl) M;have j:∀{n:Int},Bh op v w=CK n->Tri xS 241 #[pv p,.int .i64 n] V λe V'=>∃v,e=.returned (.int .i64 v)/\XR V0 d p F c G (.returned (.int .i64 v)) V':=λe=>XR.last (by rw[g,e]) (c241 M);have i:∀{n:Int},-2199023255552<=n/\n<=2199023255552->IR n:=λh=>⟨by omega,by omega⟩;have wr:=K7 (b:=w) hv;have Z:=tdiv_in (b:=w) hv;refine⟨λh=>⟨i (by omega),j (by grind[Bh])⟩,λo=>⟨λh=>⟨i (by omega),j (by grind[Bh])⟩,λf=>⟨λh=>XR.last (by grind[Bh]) (c277 M hv hw),λt=>⟨λh=>⟨λk=>good ?_,λk=>good ?_⟩,λu=>⟨λh=>⟨λk=>good ?_,λk=>good ?_⟩,λz=>⟨λh=>failX M (by decide) ?_,λr=>⟨λh=>⟨r,?_⟩,λJ=>⟨r,good ?_⟩⟩⟩⟩⟩⟩⟩⟩;·grind[Bh]
 ·grind[Bh]
 ·grind[Bh]
 ·grind[Bh]
 ·rw[g];unfold Bh;rw[if_neg o,if_neg f,if_neg t,if_neg u,if_neg z,if_neg (by omega),if_neg (by omega),if_neg (by omega),if_neg (by omega),if_pos h];rfl
 ·grind[Bh,CK]
 grind[Bh]
end
def Dj(pr:Pr)(a b:Sl)(r:Option Int):List Value:=[Go.Sx.vS pr.name,pr.ps.v,Go.Sx.vS pr.result,pr.ls.v,pr.bs.v,a.v,b.v,.bool r.isSome,.int .i64 (r.getD 0)]
structure Gv (V0:Mem)(q:Nat)(pr:Pr)(vals:List Int):Prop where
 ex:∃a b:Sl,V0 q=some (.cells (Dj pr a b none).toArray 223 (0,0))/\Ab V0 a 2 (pr.vars.map Fld.row)/\Ab V0 b 1 (vals.map Ah)
structure Yx (V0:Mem)(d:Ds)(p F c q:Nat)(pr:Pr)(vals:List Int)(n m:Nat)(V:Mem)(s:St):Prop where
 S:ES V0 d F
 fr:Gv V0 q pr vals
 pm:pr∈d.procs
 G:Ar d s.mm
 hv:Ax d s.mm pr.vars vals=true
 M:XM V0 d p F V s c 0
 tk:s.tk<=F
 n:F<n+s.tk
 w:BW m s
section
variable{V0 V V1:Mem}{d:Ds}{p F c q:Nat}{s:St}{pr:Pr}{vals:List Int}
theorem Yx.po{n m:Nat}(X:Yx V0 d p F c q pr vals n m V s):Eb d pr:=X.S.procs pr X.pm
theorem Yx.fit{n m:Nat}(X:Yx V0 d p F c q pr vals n (m+1) V s):s.lg.length+1<=2147483648:=by
 have h1:=X.w;have h2:=X.tk;have h3:=X.S.fuel;grind[BW]
theorem Yx.next{n m k:Nat}{V':Mem}{s':St}(X:Yx V0 d p F c q pr vals n (m+k) V s)(g:Gr F m s s')(G:Ar d s'.mm)(M:XM V0 d p F V' s' c 0):Yx V0 d p F c q pr vals n k V' s':=
 ⟨X.S,X.fr,X.pm,G,Cb (λh=>g.right h) X.hv,M,g.fu X.tk,by have:=g.tk;have:=X.n;omega,X.w.next g⟩
theorem Yx.le{n m k:Nat}(X:Yx V0 d p F c q pr vals n m V s)(h:k<=m):Yx V0 d p F c q pr vals n k V s:=⟨X.S,X.fr,X.pm,X.G,X.hv,X.M,X.tk,X.n,X.w.le h⟩
theorem Gv.sub{V':Mem}(h:Gv V0 q pr vals)(g:V0.sub V'):Gv V' q pr vals:=by
 obtain⟨a,b,h1,h2,h3⟩:=h.ex;exact⟨a,b,g _ _ h1,h2.sub g,h3.sub g⟩
theorem nodeX{u z:Int}(M:XM V0 d p F V s z u){k i:Nat}{ty v:Int}{fs:List Int}(r:s.ns[k]?=some (ty,fs))(hv:fs[i]?=some v):∃gs ns ls nd sl,V p=some (.cells (AD d F s.tk z u s.cm (Bc s.lg) gs ns ls).toArray 148 (0,0))/\AJ V0 V gs ns ls nd s/\nd[k]?=some ⟨ty,sl,fs⟩/\IR (k:Int)/\
  ¬ns.p=none/\(0:Int)<=(k:Int)/\(k:Int)<(ns.n:Int)/\V.rowp ns.p (k*2) 2=some [.int .i64 ty,.slice sl.p sl.n sl.c]/\¬sl.p=none/\(0:Int)<=(i:Int)/\(i:Int)<(sl.n:Int)/\V.rowp sl.p (i*1) 1=some [.int .i64 v]:=by
 obtain⟨gs,ns,ls,nd,t,L⟩:=M.ex;have g:=L.nodes.rows (λ_=>rfl) (by decide);have o:=g.n_eq;obtain⟨sl,h⟩:=L.at_ r;have e:=(yj.1 h).1;obtain⟨y,-,j,-,-,J,N,f⟩:=g.get (i:=k) (by omega);rw[h]at j;cases j;have Z:IR ((k:Int)):=⟨by omega,by have:=(g.succ (i:=k) (by omega)).2;omega⟩;obtain⟨Y,Q,P,O⟩:=FS ((L.fld _ (x8 h)).rows (λ_=>rfl) (by decide)) hv;exact⟨gs,ns,ls,nd,sl,t,L,h,Z,J,N,by omega,f,Y,Q,P,O⟩
theorem nameX{n m:Nat}(X:Yx V0 d p F c q pr vals n (m+1) V s){nm t:KB}(O:Ca (Av d pr).vars nm=t)(z:t≠sE):
  Tri xS 236 #[pv p,pv q,.string nm] V (XR V0 d p F c (varX d pr vals nm s)):=by
 obtain⟨gs,ns,ls,nd,j,L⟩:=X.M.ex;obtain⟨A,I,r,h,f⟩:=X.fr.ex;have Q:=L.sub _ _ r;have R:=X.S.ds.sub L.sub;refine x236 ?_;refine⟨nn,nn,A,Aj Q 5 1 (by simp[Dj]),(c245 (h.sub L.sub)).call ⟨_,rfl,?_⟩⟩;rcases H5 X.G X.hv X.po.vars O z with⟨i,g,v,h1,h2,h3,h4,-,o⟩|⟨i,g,v,B,h1,h2,h3,h4,-,o⟩
 ·rw[h1];obtain⟨e,J,N,Z⟩:=FS (f.sub L.sub) h3;exact AK (by omega) ⟨nn,nn,I,Aj Q 6 1 (by simp[Dj]),e,J,N,_,Z,XR.ok o X.M⟩
 ·rw[B];refine Ai (by decide) ⟨nn,nn,AM,d.gs,Aj j 2 1 (by simp[AD]),(c245 R.globals).call ⟨_,rfl,?_⟩⟩;rw[h1];refine Tri.mono (c240 X.M X.fit) ?_;rintro _ T ⟨rfl,P⟩;obtain⟨Y,C,D,E,u,K⟩:=P.ex;obtain⟨e,J,N,Z⟩:=FS (K.glob.rows (λ_=>rfl) (by decide)) (i:=i) (v:=v) h3;exact⟨rfl,nn,nn,AM,Y,Aj u 8 1 (by simp[AD]),e,J,N,_,Z,XR.ok o P⟩
theorem c239(S:ES V0 d F){Z Y:Int}(M:XM V0 d p F V s Y Z){k j:Nat}{fs:List Int}{o:Ty}(Q:s.ns[k]?=some ((j:Int),fs))(e:d.types[j]?=some o){nm:KB}:PP 239 [pv p,.int .i64 ((k:Int)+1),.string nm] V (.int .i64 (Cp o.fields nm)):=by
 obtain⟨gs,ns,ls,nd,f,L⟩:=M.ex;refine x239 ?_;have v:=S.ds.sub L.sub;have h:=L.nodes.rows (λ_=>rfl) (by decide);have P:=h.n_eq;obtain⟨sl,t⟩:=L.at_ Q;have O:=(yj.1 t).1;obtain⟨y,-,u,-,-,N,A,z⟩:=h.get (i:=k) (by omega);rw[t]at u;cases u;have I:IR ((k:Int)):=⟨by omega,by have:=(h.succ (i:=k) (by omega)).2;omega⟩;have X:=v.types.n_eq;have R:=(yj.1 e).1;obtain⟨y,-,u,-,-,r,J,g⟩:=v.types.get (i:=j) (by omega);rw[e]at u;cases u;refine⟨nn,nn,AM,d.ts,Aj f 1 1 (by simp[AD]),nn,nn,AM,ns,Aj f 9 1 (by simp[AD]),?_⟩;rw[show((k:Int)+1-1)=(k:Int)by omega];exact⟨I,N,A,by omega,Al N,_,_,z,r,J,(show(j:Int)<d.ts.n by omega),Al r,_,_,g,(c245 (v.typesOk o (x8 e)).fields).call ⟨_,rfl,rfl,rfl⟩⟩
theorem allocX{n m:Nat}(X:Yx V0 d p F c q pr vals n (m+1) V s){nm:KB}(hn:Cg d nm=true):
  Tri xS 237 #[pv p,.string nm] V (XR V0 d p F c (newX d nm s)):=by
 obtain⟨gs,ns,ls,nd,u,L⟩:=X.M.ex;have O:=X.S.ds.sub L.sub;obtain⟨G,hG⟩:∃G,G=newX d nm s:=⟨_,rfl⟩;rw[<-hG];refine Tri.mono (x237 (R:=XR V0 d p F c G) ?_) λ_ _ h=>h;have hnn:=(L.nodes.rows (λ_=>rfl) (by decide)).n_eq;have hlen:=L.len;refine⟨nn,nn,AM,ns,Aj u 9 1 (by simp[AD]),λI=>failX X.M (by decide) ?_,λI=>?_⟩;·grind[newX]
 have I:¬4096<=(ns.n:Int):=I;obtain⟨f,v,J⟩:=List.any_eq_true.1 hn;have J:f.name=nm:=of_decide_eq_true J;obtain⟨j,A⟩:=wG.1 v;have o:Bw d nm=(j:Int):=J▸(GS (BO X.G.mem).1).2.1 j f A;have B:AL d (j:Int)=f.fields:=EW A rfl;refine⟨nn,nn,d.name,d.ts,d.gs,d.ps,d.ms,d.is,d.qs,d.bs,Aj u 0 8 (by simp[AD]),(HX O).call ⟨_,rfl,?_⟩⟩;rw[show BH (λt:Ty=>decide (t.name=nm)) d.types=(j:Int)from o];have htn:=O.types.n_eq;have hjl:=(yj.1 A).1;obtain⟨y,-,hy,-,-,hp,hz,Z⟩:=O.types.get (i:=j) (by omega);rw[A]at hy;cases hy;have C:=(O.typesOk f v).fields.n_eq;have hfl:=(lens12 X.S.valid).2 f v;refine⟨nn,nn,AM,ns,Aj u 9 1 (by simp[AD]),nn,nn,AM,d.ts,Aj u 1 1 (by simp[AD]),hp,hz,by omega,Al hp,_,_,Z,mk35 (n:=f.fs.n) rfl rfl (by omega) λg hg=>⟨⟨some ⟨g,0,none⟩,f.fs.n,f.fs.n⟩,rfl,?_⟩⟩;obtain⟨V2,D⟩:∃V2,V2=V.set g (.cells (madeCells (wP .i64 0).cells (f.fs.n*1)) 3 (0,0)):=⟨_,rfl⟩;have z:=JK hg (n:=f.fs.n) (by omega);rw[<-D]at z⊢;have r:=z.sub _ _ u;refine⟨Ev r 9 0 1 (by simp[AD]),AM,nn,nn,Ev r 9 0 1 (by simp[AD]),AM,nn,nn,λtb E=>?_⟩;refine L.new (n:=⟨(j:Int),⟨some ⟨g,0,none⟩,f.fs.n,f.fs.n⟩,yT f.fs.n 0⟩) z E rfl rfl (by omega) λY V3 L3 K=>⟨Y,rfl,nn,nn,AM,?_⟩;have e:=K _ _ r (Hs u Fa L.nodes (.inr (.inl rfl)));refine Ak.at2 (off:=9) e (by simp[AD]) ?_;have M4:XM V0 d p F (V3.set p (.cells (AD d F s.tk c 0 s.cm (Bc s.lg) gs Y ls).toArray 148 (0,0))) {s with ns:=s.ns++[((j:Int),yT f.fs.n 0)]} c 0:=
  ⟨X.M.p0,gs,Y,ls,nd++[_],Mem.set_same _ _ _,L3.put (JH e Fa) X.M.p0 _⟩
 have T:=(L3.nodes.rows (λ_=>rfl) (by decide)).n_eq;rw[zI,yI]at T;show ¬(some (⟨p,0,none⟩:Addr):Option Addr)=none/\_;refine⟨nn,nn,AM,Y,Aj Au 9 1 (by simp[AD]),?_⟩;rw[show((Y.n:Nat):Int)=(s.ns.length:Int)+1 by omega];refine Tri.mono (c240 M4 X.fit) ?_;rintro _ V7 ⟨rfl,M7⟩;obtain⟨gs7,Q,ls7,U,P,L7⟩:=M7.ex;have hn7:=(L7.nodes.rows (λ_=>rfl) (by decide)).n_eq;have N:=L7.len;have N:U.length=(s.ns++[((j:Int),yT f.fs.n 0)]).length:=N;rw[zI,yI]at N;refine⟨rfl,nn,nn,AM,Q,Aj P 9 1 (by simp[AD]),?_⟩;rw[show((Q.n:Nat):Int)=(s.ns.length:Int)+1 by omega];refine XR.ok ?_ M7;rw[hG];unfold newX;rw[if_neg (by omega),o,B,<-C];rfl
theorem integersX{n m:Nat}(X:Yx V0 d p F c q pr vals n m V s){e:E}{t:KB}(hv:VE e)(N:E.Ok V0 e)(J:Aw d (Av d pr) e=(t,0)):
  Tri xS 275 #[pv p,pv q,e.v] V λr V'=>r=.returned (.bool (decide (t=Am)))/\V.sub V':=by
 obtain⟨gs,ns,ls,nd,f,L⟩:=X.M.ex;obtain⟨P,O,u,-,-⟩:=X.fr.ex;have Z:=L.sub _ _ u;have z:=X.S.ds.sub L.sub;have j:=z.procsOk pr X.pm;obtain⟨Y,i⟩:=hv;have A:=X.po.lens;have I:=(lens12 X.S.valid).1;refine x275 ?_;refine⟨nn,nn,_,_,_,_,_,_,_,_,Aj f 0 8 (by simp[AD]),nn,nn,_,_,_,_,_,_,_,_,Aj f 0 8 (by simp[AD]),nn,nn,_,_,_,_,_,Aj Z 0 5 (by simp[Dj]),?_⟩;refine Tri.mono (refInProc z j (by omega) (by omega)) ?_;rintro _ V1 ⟨s',rfl,g,o⟩;refine⟨_,_,rfl,Ev (g _ _ f) 0 0 8 (by simp[AD]),nn,nn,?_⟩;have Q:=KH (sc:=Av d pr) (z.sub g) o e (N.sub (L.sub.trans g)) Y i V1 (Mem.sub.refl _);refine Q.call ⟨_,_,rfl,λh=>⟨?_,g⟩,λh=>absurd (show(Aw d (Av d pr) e).2=0 by rw[J]) h⟩;rw[J];rfl
theorem compareX{n m:Nat}(X:Yx V0 d p F c q pr vals n (m+1) V s){e a:E}{u:KB}{v w:Int}(hv:VE e)(P:E.Ok V0 e)(O:e.k[0]?=some a)(B:Aw d (Av d pr) a=(u,0))(C:e.op=14∨e.op=15∨(e.op=16/\u=Am)∨(e.op=17/\u=Am)):
  Tri xS 243 #[pv p,pv q,e.v,.int .i64 v,.int .i64 w] V (XR V0 d p F c (DM (Bh e.op v w) (DN (decide (u=Am)) e.op s))):=by
 obtain⟨gs,ns,ls,nd,D,L⟩:=X.M.ex;obtain⟨G,A⟩:∃G,G=DM (Bh e.op v w) (DN (decide (u=Am)) e.op s):=⟨_,rfl⟩;rw[<-A];obtain⟨K,k2,T,U⟩:=Dx (P.sub L.sub) O;have j:=x8 O;have hcm:s.cm+1<=16000000:=by have h1:=X.w;have h2:=X.tk;have h3:=X.S.fuel;grind[BW]
 refine Tri.mono (x243 (R:=XR V0 d p F c G) ?_) λ_ _ h=>h;refine⟨K,by decide,T,_,_,_,_,U,Tri.mono (integersX X (hv.kids a j) (P.kids a j) B) ?_⟩;rintro _ V1 ⟨rfl,N⟩;have I:=X.M.grow N;obtain⟨gs1,ns1,ls1,nd1,f,L1⟩:=I.ex;have Z:∀{s':St}{V2:Mem},XM V0 d p F V2 s' c 0->s'=DN (decide (u=Am)) e.op s->
   Br (e.op=14) (TT 276 #[uB (decide (v=w))] V2 λt z=>∃g,t=rV (uI g)/\XR V0 d p F c G (rV (uI g)) z)
   (Br (e.op=15) (TT 276 #[uB (!(decide (v=w)))] V2 λt z=>∃g,t=rV (uI g)/\XR V0 d p F c G (rV (uI g)) z)
   (Br (e.op=16) (TT 276 #[uB (decide (v<w))] V2 λt z=>∃g,t=rV (uI g)/\XR V0 d p F c G (rV (uI g)) z)
   (TT 276 #[uB (decide (v<=w))] V2 λt z=>∃g,t=rV (uI g)/\XR V0 d p F c G (rV (uI g)) z))):=λ{s' V2} M2 Y=>by
  have J:∀{x:Bool},Bh e.op v w=.ok (Er x)->Tri xS 276 #[.bool x] V2 λt z=>∃g,t=.returned (.int .i64 g)/\XR V0 d p F c G (.returned (.int .i64 g)) z:=λhx=>c276.call ⟨_,rfl,XR.ok (s:=s') (by rw[A,hx,Y];rfl) M2⟩;refine⟨λh=>J ?_,λi=>⟨λh=>J ?_,λr=>⟨λh=>J ?_,λo=>J ?_⟩⟩⟩;·rw[show e.op=14 from h];rfl
  ·rw[show e.op=15 from h];rfl
  ·rw[show e.op=16 from h];rfl
  ·have i:¬e.op=14:=i;have r:¬e.op=15:=r;have o:¬e.op=16:=o;rw[show e.op=17 by omega];rfl
 refine⟨_,rfl,λQ=>?_,λQ=>?_⟩
 ·have Q:u=Am:=of_decide_eq_true Q;refine⟨nn,nn,AM,_,Aj f 14 1 (by simp[AD]),⟨by omega,by omega⟩,nn,nn,AM,Ak.at2 (off:=14) f (by simp[AD]) ?_⟩;refine Z (s':={s with cm:=s.cm+1}) (MA.set (row':=AD d F s.tk c 0 ((s.cm+1:Nat):Int) (Bc s.lg)) Fa I.p0 f L1 rfl rfl rfl rfl) ?_;grind[DN,inr]
 grind[Am,DN]
end
section
variable{x y:St->Rx Int}{s s1 s2:St}{acc:List Int}{k:Int}
theorem sq1_ok(h:Dv [x] [] s=.ok acc s1):∃v,x s=.ok v s1/\acc=[v]:=by
 have h:(x s).bind (λv st=>.ok [v] st)=.ok acc s1:=h;cases e:x s with
 |ok v t=>rw[e]at h;cases h;simp_all
 |bad c t=>rw[e]at h;cases h
theorem sq1_bad(h:Dv [x] [] s=.bad k s1):x s=.bad k s1:=by
 have h:(x s).bind (λv st=>.ok [v] st)=.bad k s1:=h;cases e:x s with
 |ok v t=>rw[e]at h;cases h
 |bad c t=>rw[e]at h;cases h;rfl
theorem sq2_ok(h:Dv [x,y] [] s=.ok acc s2):∃v w s1,x s=.ok v s1/\y s1=.ok w s2/\acc=[v,w]:=by
 have h:(x s).bind (λv st=>(y st).bind λw st=>.ok [v,w] st)=.ok acc s2:=h;cases e:x s with
 |ok v t=>
  rw[e]at h;have h:(y t).bind (λw st=>.ok [v,w] st)=.ok acc s2:=h;cases g:y t with
  |ok w u=>rw[g]at h;cases h;grind
  |bad c u=>rw[g]at h;cases h
 |bad c t=>rw[e]at h;cases h
theorem sq2_bad(h:Dv [x,y] [] s=.bad k s2){g:Int->Int->St->Rx Int}:((x s).bind λv st=>(y st).bind λw st=>g v w st)=.bad k s2:=by
 have h:(x s).bind (λv st=>(y st).bind λw st=>.ok [v,w] st)=.bad k s2:=h;cases e:x s with
 |ok v t=>
  rw[e]at h;have h:(y t).bind (λw st=>.ok [v,w] st)=.bad k s2:=h;cases f:y t with
  |ok w u=>rw[f]at h;cases h
  |bad c u=>
   rw[f]at h;cases h;show((y t).bind λw st=>g v w st)=_;rw[f];rfl
 |bad c t=>rw[e]at h;cases h;rfl
end
section
variable{V0 W V V1:Mem}{d:Ds}{p F c q:Nat}{s:St}{pr:Pr}{vals:List Int}
theorem XR.narrow{c:Int}{r:Rx Int}{e:Ending}(g:V0.sub W)(h:XR W d p F c r e V):XR V0 d p F c r e V:=by
 cases r with
 |ok v s=>exact⟨h.1,h.2.narrow g⟩
 |bad k s=>exact⟨h.1,h.2.1,h.2.2.narrow g⟩
theorem XR.any{c:Int}{f:FuncId}{args:Array Value}{r:Rx Int}{K:Int->Mem->Prop}(H:Tri xS f args V (XR V0 d p F c r))(h:∀v g s V',XM V0 d p F V' s c g->(g=0/\r=.ok v s∨g≠0/\v=0/\r=.bad g s)->K v V'):
  Tri xS f args V λe V'=>∃v,e=.returned (.int .i64 v)/\K v V':=
 XR.call H (λv s V' e M=>h v 0 s V' M (.inl ⟨rfl,e⟩)) λk s V' e t M=>h 0 k s V' M (.inr ⟨t,rfl,e⟩)
theorem lastW{c:Int}{f:FuncId}{args:Array Value}{G r:Rx Int}(g:V0.sub W)(t:G=r)(H:Tri xS f args V (XR W d p F c r)):Tri xS f args V λe V'=>∃v,e=.returned (.int .i64 v)/\XR V0 d p F c G (.returned (.int .i64 v)) V':=
 Tri.mono (XR.last t H) λ_ _ ⟨v,u,h⟩=>⟨v,u,h.narrow g⟩
theorem XM.fault{c:Int}{g:Int}(M:XM V0 d p F V s c g):V.rowp (sa p) ((13:Int).toNat*1) 1=some [.int .i64 g]:=by
 obtain⟨gs,ns,ls,nd,h,L⟩:=M.ex;exact Aj h 13 1 (by simp[AD])
variable(d p F)in
def XCallC(n:Nat):Prop:=∀(V0 V:Mem)(s:St)(c i:Nat)(pr:Pr)(args:List Int)(l:Sl),ES V0 d F->d.procs[i]?=some pr->Ar d s.mm->Ax d s.mm pr.params args=true->Ab V0 l 1 (args.map Ah)->XM V0 d p F V s c 0->s.tk<=F->F<n+s.tk->BW 0 s->
 Tri xS 75 #[pv p,.int .i64 (i:Int),l.v] V (XR V0 d p F c (CF d (AW d F n) c i args s))
variable(d p F)in
def XExprC(n:Nat):Prop:=∀(e:E)(t:KB)(V0 V:Mem)(s:St)(c q:Nat)(pr:Pr)(vals:List Int),Yx V0 d p F c q pr vals n (AB e) V s->VE e->E.Ok V0 e->Aw d (Av d pr) e=(t,0)->
 Tri xS 193 #[pv p,pv q,e.v] V (XR V0 d p F c (Dd d (CF d (AW d F n) c) pr vals e s))
theorem lazyX{n:Nat}{e:E}(X:Yx V0 d p F c q pr vals n (AB e) V s)(D:E.Ok V0 e){f:E->St->Rx Int}{G:Rx Int}(j:e.op=19∨e.op=20∨e.op=21){C:Cf}{b:Bool}(u:G=Dc d C pr vals b e.op e.n e.s (e.k.map f) s)
  {a a1:E} (z:e.k[0]?=some a) (h1:e.k[1]?=some a1) (h2:e.op=21->∃a2,e.k[2]?=some a2)
  (kid:∀{i:Nat}{y:E}{V1:Mem}{s1:St},e.k[i]?=some y->(i=0/\V1=V/\s1=s∨i≠0/\∃v,f a s=.ok v s1/\XM V0 d p F V1 s1 c 0)->Tri xS 193 #[pv p,pv q,.agg #[.int .i64 y.op,.int .i64 y.n,.string y.s,.slice y.l.p y.l.n y.l.c]] V1 (XR V0 d p F c (f y s1))):
  Tri xS 238 #[pv p,pv q,e.v] V (XR V0 d p F c G):=by
 obtain⟨gs,ns,ls,nd,hat,L⟩:=X.M.ex;obtain⟨k1,k2,k3,k4⟩:=Dx (D.sub L.sub) z;have K:∀{i:Nat}{a:E},e.k[i]?=some a->BP (e.k.map f) i=f a:=λh=>KN h;refine Tri.mono (x238 (R:=XR V0 d p F c G) ?_) λ_ _ h=>h;have I:∀{v:Int}{s1:St},f a s=.ok v s1->G=if e.op=19 then(if v=0 then .ok 0 s1 else f a1 s1)else if e.op=20 then(if v=0 then f a1 s1 else .ok 1 s1)else if v=0 then BP (e.k.map f) 2 s1 else f a1 s1:=λ{v s1} hv=>by
  rcases j with h|h|h;·rw[u,cX19 h,K z,hv,if_pos h];show(if v=0 then _ else BP (e.k.map f) 1 s1)=_;rw[K h1]
  ·rw[u,cX20 h,K z,hv,if_neg (by omega),if_pos h];show(if v=0 then BP (e.k.map f) 1 s1 else _)=_;rw[K h1]
  ·rw[u,cX21 h,K z,hv,if_neg (by omega),if_neg (by omega)];show(if v=0 then BP (e.k.map f) 2 s1 else BP (e.k.map f) 1 s1)=_;rw[K h1]
 have hGb:∀{k:Int}{s1:St},f a s=.bad k s1->G=.bad k s1:=λ{k s1} hv=>by
  rcases j with h|h|h;·rw[u,cX19 h,K z,hv];rfl
  ·rw[u,cX20 h,K z,hv];rfl
  ·rw[u,cX21 h,K z,hv];rfl
 refine⟨k1,by decide,k3,_,_,_,_,k4,XR.any (kid z (.inl ⟨rfl,rfl,rfl⟩)) λv T s1 V1 o U=>⟨nn,nn,_,o.fault,λJ=>?_,λJ=>?_⟩⟩;rotate_left
 ·have J:¬T=0:=J;rcases U with⟨h,-⟩|⟨-,rfl,hb⟩;·omega
  grind[XR.bad]
 have J:T=0:=J;rcases U with⟨-,hv⟩|⟨h,-⟩;rotate_left;·omega
 subst J;have r:=I hv;have N:=D.sub o.sub;obtain⟨l1,l2,l3,l4⟩:=Dx N h1;have g:∀{G':Rx Int},G'=f a1 s1->(¬e.l.p=none/\(0:Int)<=(1:Int)/\1<(e.l.n:Int)/\∃Z Y Q P,V1.rowp e.l.p ((1:Int).toNat*4) 4=some [uI Z,uI Y,uS Q,uL P]/\
   TT 193 #[uP (sa p),uP (sa q),uA #[uI Z,uI Y,uS Q,uL P]] V1 λe' V2=>∃O,e'=rV (uI O)/\XR V0 d p F c G' (rV (uI O)) V2):=λB=>
  ⟨l1,by decide,l3,_,_,_,_,l4,XR.last B (kid h1 (.inr ⟨by decide,v,hv,o⟩))⟩
 rcases j with h|h|h
 ·rw[if_pos h]at r;refine Ai (by omega) (AK h ⟨λt=>?_,λt=>Ai (by omega) (g ?_)⟩);·rw[if_pos (show v=0 from t)]at r;exact XR.ok r o
  simp_all
 ·rw[if_neg (by omega),if_pos h]at r;refine Ai (by omega) (Ai (by omega) (AK h ⟨λt=>g ?_,λt=>?_⟩));·simp_all
  ·rw[if_neg (show ¬v=0 from t)]at r;exact XR.ok r o
 ·rw[if_neg (by omega),if_neg (by omega)]at r;obtain⟨a2,A⟩:=h2 h;obtain⟨m1,m2,m3,m4⟩:=Dx N A;refine AK h ⟨λt=>⟨m1,by decide,m3,_,_,_,_,m4,XR.last ?_ (kid A (.inr ⟨by decide,v,hv,o⟩))⟩,λt=>Ai (by omega) (Ai (by omega) (g ?_))⟩;·simp_all
  simp_all
end
end Go.Proofs
