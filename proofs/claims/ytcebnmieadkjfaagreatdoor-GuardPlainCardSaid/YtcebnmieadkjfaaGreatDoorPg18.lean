/- Part 18: no statement of the seat is proved here. -/
import Derived.Test.YtcebnmieadkjfaaGreatDoorPg17
import Derived.ProofKit
import Derived.Test.YtcebnmieadkjfaaGreatDoorRows
import Derived.Lib.LaidIn
import Derived.Lib.LaidTab
import Derived.Handed
set_option linter.unusedVariables false
set_option linter.unusedSimpArgs false
open Go.Proofs.Tryz renaming f69->vm,prog->xG,f122->vl,underlying3->wo,underlying95->ve,underlying72->vd
open List renaming take_add_one->vJ,lookup_cons->zc,mem_cons_self->zb,mem_cons_of_mem->za,mem_cons->yD,not_mem_nil->xD,mem_iff_getElem?->vV,mem_of_getElem?->xM,getElem?_eq_getElem->yu,take_of_length_le->wR,getElem?_eq_some_iff->yv,drop_succ_cons->vc,drop_zero->vb,take_succ_cons->uC,take_zero->uE,any_eq_true->xZ,getElem?_take->uQ,getElem?_map->y5,length_map->vX
open Go.Value renaming int->vF,string->yo,agg->uG,cells->uH
open Go.Code renaming wpIn->wA
open Nat renaming zero_le->vk,lt_succ_self->vg,strongRecOn->yS
open Prod.mk renaming inj->vn
open Option renaming bind_eq_some_iff->vj
open Option.some renaming injEq->zF,inj->uK
open Go.DataW renaming trod->vh,Trod->uF,TrodAll->uO
open Go.IntKind renaming i64->yr
open Go.TypeDesc renaming struct->vf
open List.cons renaming injEq->yE
open Go.Lib renaming TabIs->xP,asciiSpaceTab->xQ
open Go.World renaming settled->uJ
open Go.Input renaming okWide_of_okWideB->uN
namespace Go.Proofs
open Go Go.Sx
set_option maxRecDepth 100000
section
variable{V:Mem}{R:RP}
noncomputable def c69a:List Code:=((AP (Az vm) []).drop 0).take 3
def w69a(a:KB)(b c d g i j k l o:Sl)(p:KB)(q:Sl)(r:Int):MR:=λV R=>TT 121 #[uD a b c d g i j k,uA #[uL l,uL o],uA #[uS p,uL q]] V λe V1=>∃s u y z A B,e=rT #[uA #[uS s,uL u,uS y,uL z,uL A],uI B]/\Af [uS a,uL b,uL c,uL d,uL g,uL i,uL j,uL k] 30 V1 λC V2=>Af [uL l,uL o] 34 V2 λD h=>Af [uS p,uL q] 36 h λF f=>Af [uP none] 84 f λG t=>Af [uI 0,uI 0,uI 0,uI 0,uI 0] 47 t λH x=>Af [uS s,uL u,uS y,uL z,uL A] 74 x λL n=>R (rT #[uI r,uP (Aa C 0),uP (Aa D 0),uP (Aa F 0),uP (Aa G 0),uP (Aa H 0),uI B,uP (Aa L 0),uB (!(decide (B=0)))]) n
theorem s69a{a:KB}{b c d g i j k l o:Sl}{p:KB}{q:Sl}{r:Int}{V:Mem}{R:KZ}(h:w69a a b c d g i j k l o p q r V (OV R)):AO xG 37 c69a [(0,uD a b c d g i j k),(1,uA #[uL l,uL o]),(2,uA #[uS p,uL q]),(3,uI r)] [3,4,5,6,8,9,10,11,20] V R:=
 B7 (H:=hK 37) [(0,(.agg (.cons (.var .s 0) (.cons (.var .sl 1) (.cons (.var .sl 2) (.cons (.var .sl 3) (.cons (.var .sl 4) (.cons (.var .sl 5) (.cons (.var .sl 6) (.cons (.var .sl 7) .nil)))))))))),(1,(.agg (.cons (.var .sl 8) (.cons (.var .sl 9) .nil)))),(2,(.agg (.cons (.var .s 10) (.cons (.var .sl 11) .nil)))),(3,(.var (.i .i64) 12))] [uS a,uL b,uL c,uL d,uL g,uL i,uL j,uL k,uL l,uL o,uS p,uL q,uI r] rfl (by kernel_rfl) h
noncomputable def c69b:List Code:=((AP (Az vm) [3,0]).drop 0).take 1
def w69b(a b:Option Addr)(c:Int):MR:=λV R=>As a 0 [uP none] V λV1=>As b 0 [uI 0,uI 0,uI 0,uI 0,uI 0] V1 λV2=>R (rT #[uP a,uP b,uI c]) V2
theorem s69b{a b:Option Addr}{c:Int}{V:Mem}{R:KZ}(h:w69b a b c V (OV R)):AO xG 37 c69b [(8,uP a),(9,uP b),(10,uI c)] [8,9,10] V R:=
 B7 (H:=hK 37) [(8,(.var .p 0)),(9,(.var .p 1)),(10,(.var (.i .i64) 2))] [uP a,uP b,uI c] rfl (by kernel_rfl) h
noncomputable def c69c:List Code:=((AP (Az vm) []).drop 4).take 1
def w69c(a:Int)(b c d g i:Option Addr)(j:Int)(k:Option Addr):MR:=λV R=>∃l o p q r s u y,V.rowp b ((0:Int).toNat*1) 8=some [uS l,uL o,uL p,uL q,uL r,uL s,uL u,uL y]/\∃z A,V.rowp c ((0:Int).toNat*1) 2=some [uL z,uL A]/\Af [uS l,uL o,uL p,uL q,uL r,uL s,uL u,uL y,uL z,uL A,uI a,uI 0,uI 0,uI 0,z0] 89 V λB V1=>As g 0 [uP (Aa B 0)] V1 λV2=>R (rT #[uP d,uP g,uP i,uI j,uP k]) V2
theorem s69c{a:Int}{b c d g i:Option Addr}{j:Int}{k:Option Addr}{V:Mem}{R:KZ}(h:w69c a b c d g i j k V (OV R)):AO xG 37 c69c [(3,uI a),(4,uP b),(5,uP c),(6,uP d),(8,uP g),(9,uP i),(10,uI j),(11,uP k)] [6,8,9,10,11] V R:=
 B7 (H:=hK 37) [(3,(.var (.i .i64) 0)),(4,(.var .p 1)),(5,(.var .p 2)),(6,(.var .p 3)),(8,(.var .p 4)),(9,(.var .p 5)),(10,(.var (.i .i64) 6)),(11,(.var .p 7))] [uI a,uP b,uP c,uP d,uP g,uP i,uI j,uP k] rfl (by kernel_rfl) h
noncomputable def c69d:Array Oper:=Cj ((AP (Az vm) []).getD 6 .skip)
def w69d(a b c:Option Addr)(d:Int)(g:Option Addr):MR:=λV R=>∃i,V.rowp b ((0:Int).toNat*1) 1=some [uP i]/\∃j k l o p,V.rowp g ((0:Int).toNat*1) 5=some [uS j,uL k,uS l,uL o,uL p]/\¬a=none/\∃q,V.rowp a 1 1=some [uL q]/\R (rT #[uP b,uP c,uI d,uP i,uA #[uS j,uL k,uS l,uL o,uL p],uL q]) V
theorem s69d{a b c:Option Addr}{d:Int}{g:Option Addr}{V:Mem}{R:KZ}(h:w69d a b c d g V (OV R)):Aw xG 37 c69d 0 4 [(6,uP a),(8,uP b),(9,uP c),(10,uI d),(11,uP g)] [8,9,10,29,30,32] V R:=
 AC (H:=hK 37) [(6,(.var .p 0)),(8,(.var .p 1)),(9,(.var .p 2)),(10,(.var (.i .i64) 3)),(11,(.var .p 4))] [uP a,uP b,uP c,uI d,uP g] rfl (by kernel_rfl) h
noncomputable def c69e:Array Oper:=Cj ((AP (Az vm) []).getD 6 .skip)
def w69e(a b:Option Addr)(c:Int):MR:=λV R=>¬b=none/\As (Aa b 1) 0 [uI c] V λV1=>R (rT #[uP a,uP b]) V1
theorem s69e{a b:Option Addr}{c:Int}{V:Mem}{R:KZ}(h:w69e a b c V (OV R)):Aw xG 37 c69e 5 2 [(8,uP a),(9,uP b),(33,uI c)] [8,9] V R:=
 AC (H:=hK 37) [(8,(.var .p 0)),(9,(.var .p 1)),(33,(.var (.i .i64) 2))] [uP a,uP b,uI c] rfl (by kernel_rfl) h
noncomputable def c69f:List Code:=((AP (Az vm) []).drop 7).take 1
def w69f(a b:Option Addr):MR:=λV R=>∃c,V.rowp a ((0:Int).toNat*1) 1=some [uP c]/\∃d g i j k,V.rowp b ((0:Int).toNat*1) 5=some [uI d,uI g,uI i,uI j,uI k]/\As a 0 [uP c] V λV1=>V1.rowp b 0 5=some [uI d,uI g,uI i,uI j,uI k]/\As b 0 [uI d,uI g,uI i,uI j,uI k] V1 λV2=>R (rT #[uP a,uP b,uI 0]) V2
theorem s69f{a b:Option Addr}{V:Mem}{R:KZ}(h:w69f a b V (OV R)):AO xG 37 c69f [(8,uP a),(9,uP b)] [8,9,10] V R:=
 B7 (H:=hK 37) [(8,(.var .p 0)),(9,(.var .p 1))] [uP a,uP b] rfl (by kernel_rfl) h
noncomputable def c122a:List Code:=((AP (Az vl) []).drop 1).take 5
abbrev w122a_0(o:Sl)(p:Int)(h:Mem)(a:Option Addr)(k:LMP):Prop:=Ix o p (∃q r s,h.rowp o.p (p.toNat*3) 3=some [uI q,uI r,uI s]/\Br (0<r) (¬a=none/\¬(Aa a 2)=none/\∃u,h.rowp a 3 1=some [uI u]/\IR (u+1)/\¬a=none/\¬(Aa a 2)=none/\As (Aa a 3) 0 [uI (u+1)] h λg=>IR (p+1)/\k [uI (p+1)] g) (IR (p+1)/\k [uI (p+1)] h))
def w122a(a b:Option Addr)(c:Value):MR:=λV R=>GenK xG (.binOp .neq 20 (.tmp 8) (.const .nilIface) 20) 4 (gv [(8,K.cast .r c)]) V λx V1=>∃d,x=uB d/\Br (d=true) (GenK xG (.typeAssert (.tmp 11) 20 198 true) 199 (gv [(11,K.cast .r c)]) V1 λx V2=>∃g i,x=.tuple #[uA #[uI g],uB i]/\Br (i=true) (¬a=none/\As (Aa a 0) 0 [uI g] V2 λh=>∃j,h.rowp b ((0:Int).toNat*1) 1=some [uP j]/\N2 j (∃k,h.rowp j 13 1=some [uI k]/\¬a=none/\¬(Aa a 2)=none/\As (Aa a 2) 0 [uI k] h λu=>∃l,u.rowp b ((0:Int).toNat*1) 1=some [uP l]/\N2 l (∃o,u.rowp l 14 1=some [uL o]/\Lp [uI 0] u λI n z=>∀p,I n [uI p] z->∀f:LMP,Nx I n f->Br (p<(o.n:Int)) (w122a_0 o p z a f) (R (rT #[]) z)))) (∃t x,K.cast .r c=.iface t x/\R (.panicked [{v:=.iface t x,recovered:=false}]) V2)) (∃g,V1.rowp b ((0:Int).toNat*1) 1=some [uP g]/\N2 g (∃i,V1.rowp g 13 1=some [uI i]/\¬a=none/\¬(Aa a 2)=none/\As (Aa a 2) 0 [uI i] V1 λV2=>∃j,V2.rowp b ((0:Int).toNat*1) 1=some [uP j]/\N2 j (∃k,V2.rowp j 14 1=some [uL k]/\Lp [uI 0] V2 λI n h=>∀l,I n [uI l] h->∀f:LMP,Nx I n f->Br (l<(k.n:Int)) (w122a_0 k l h a f) (R (rT #[]) h))))
theorem s122a{a b:Option Addr}{c:Value}{V:Mem}{R:KZ}(h:w122a a b c V (OV R)):AO xG 46 c122a [(0,uP a),(1,uP b),(2,K.cast .r c)] [] V R:=
 B7 (H:=hK 46) [(0,(.var .p 0)),(1,(.var .p 1)),(2,(.var .r 2))] [uP a,uP b,c] rfl (by kernel_rfl) h
end
end Go.Proofs
namespace Go.Proofs
open Go Go.Sx
attribute [local irreducible] Go.Sx.Tri
def Ba(a0 a1 a2 a3:Int):List Value:=[.int .i64 a0,.int .i64 a1,.int .i64 a2,.int .i64 a3,.int .i64 0]
structure PM (V0:Mem)(d:Ds)(p F b8 b9:Nat)(gs ns ls:Sl)(nd:List Nd)(V:Mem)(s:St)(c:Nat)(a0 a1 a2 a3:Int):Prop where
 ex:∃W,V0.sub W/\W p=none/\V p=some (.cells (AH d F s.tk c s.cm gs ns ls).toArray 89 (0,0))/\AL W V gs ns ls nd s/\W b8=some (cell (pv p) 84)/\W b9=some (.cells (Ba a0 a1 a2 a3).toArray 47 (0,0))
section
variable{V0 V:Mem}{d:Ds}{p F b8 b9 c:Nat}{gs ns ls:Sl}{nd:List Nd}{s:St}{a0 a1 a2 a3 a0' a1' a2' a3':Int}
theorem PM.set9(h:PM V0 d p F b8 b9 gs ns ls nd V s c a0 a1 a2 a3)(k:b8≠b9)(g:V0 b9=none){x:Array Value}(f:x=(Ba a0' a1' a2' a3').toArray):PM V0 d p F b8 b9 gs ns ls nd (V.set b9 (.cells x 47 (0,0))) s c a0' a1' a2' a3':=by
 obtain⟨W,t,u,z,L,h8,y⟩:=h.ex;have np:p≠b9:=λe=>by simp_all
 exact⟨W.set b9 (.cells x 47 (0,0)),t.set g _,by rw[Mem.set_ne np];exact u,by rw[Mem.set_ne np];exact z,L.poke (by rw[y];simp) _,by rw[Mem.set_ne k];exact h8,by rw[Mem.set_same,f]⟩
theorem PM.set8(h:PM V0 d p F b8 b9 gs ns ls nd V s c a0 a1 a2 a3)(k:b8≠b9)(g:V0 b8=none){x:Array Value}(f:x=#[pv p]):PM V0 d p F b8 b9 gs ns ls nd (V.set b8 (.cells x 84 (0,0))) s c a0 a1 a2 a3:=by
 obtain⟨W,t,u,z,L,h8,y⟩:=h.ex;have np:p≠b8:=λe=>by simp_all
 exact⟨W.set b8 (.cells x 84 (0,0)),t.set g _,by rw[Mem.set_ne np];exact u,by rw[Mem.set_ne np];exact z,L.poke (by rw[h8];simp) _,by rw[Mem.set_same,f],by grind[Mem.set_ne]⟩
theorem PM.at8(h:PM V0 d p F b8 b9 gs ns ls nd V s c a0 a1 a2 a3):V b8=some (cell (pv p) 84):=by
 obtain⟨W,k,g,f,L,h8,t⟩:=h.ex;exact L.sub _ _ h8
theorem PM.at9(h:PM V0 d p F b8 b9 gs ns ls nd V s c a0 a1 a2 a3):V b9=some (.cells (Ba a0 a1 a2 a3).toArray 47 (0,0)):=by
 obtain⟨W,g,f,t,L,h8,k⟩:=h.ex;exact L.sub _ _ k
theorem PM.em(h:PM V0 d p F b8 b9 gs ns ls nd V s c a0 a1 a2 a3):EM V0 d p F V s c:=by
 obtain⟨W,k,g,f,L,h8,t⟩:=h.ex;exact MA.narrow (W:=W) ⟨g,gs,ns,ls,nd,f,L⟩ k
theorem PM.atp(h:PM V0 d p F b8 b9 gs ns ls nd V s c a0 a1 a2 a3):V p=some (.cells (AH d F s.tk c s.cm gs ns ls).toArray 89 (0,0)):=by
 obtain⟨W,g,f,k,L,h8,t⟩:=h.ex;exact k
theorem PM.log(h:PM V0 d p F b8 b9 gs ns ls nd V s c a0 a1 a2 a3):Ad V ls 3 (s.lg.map Hp):=by
 obtain⟨W,k,g,f,L,h8,t⟩:=h.ex;exact L.log.rows (λ_=>rfl) (by decide)
theorem nodesN_succ{l:List (Int×Int×Int)}{i:Nat}{x:Int×Int×Int}(h:l[i]?=some x):Cm (l.take (i+1))=Cm (l.take i)+if 0<x.2.1 then 1 else 0:=by
 unfold Cm;rw[vJ,h,List.filter_append,List.length_append];grind
theorem nodesN_le(l:List (Int×Int×Int))(i:Nat):Cm (l.take i)<=i:=by
 grind[Cm]
theorem lateTail(u:b8≠b9)(b:V0 b9=none)(P:PM V0 d p F b8 b9 gs ns ls nd V s c a0 a1 0 0){R:Ending->Mem->Prop}(K:∀V',PM V0 d p F b8 b9 gs ns ls nd V' s c a0 a1 s.cm (Cm s.lg)->R (rT #[]) V') :
    (∃a,V.rowp (sa b8) ((0:Int).toNat*1) 1=some [uP a]/\
 ¬a=none/\¬a=none/\∃Y,V.rowp a ((13:Int).toNat*1) 1=some [uI Y]/\
 ¬(some (⟨b9,0,none⟩:Addr))=none/\¬(Aa (sa b9) 2)=none/\As (Aa (sa b9) 2) 0 [uI Y] V λV2=>
 ∃e,V2.rowp (sa b8) ((0:Int).toNat*1) 1=some [uP e]/\
 ¬e=none/\¬e=none/\∃z,V2.rowp e ((14:Int).toNat*1) 1=some [uL z]/\
 ∃(I:Nat->KZ)(M:Nat),I M [uI 0] V2/\∀n h,∀k,I n [uI k] h->∀v:KZ,(∀m ys y,m<n->I m ys y->v ys y)->
 Br (k<(z.n:Int))
 (¬z.p=none/\0<=k/\k<(z.n:Int)/\∃b j G,h.rowp z.p (k.toNat*3) 3=some [uI b,uI j,uI G]/\
 Br (0<j)
 (¬(some (⟨b9,0,none⟩:Addr))=none/\¬(Aa (sa b9) 2)=none/\∃f,h.rowp (sa b9) ((3:Int).toNat*1) 1=some [uI f]/\
 IR (f+1)/\¬(some (⟨b9,0,none⟩:Addr))=none/\¬(Aa (sa b9) 2)=none/\As (Aa (sa b9) 3) 0 [uI (f+1)] h λL=>
 IR (k+1)/\v [uI (k+1)] L)
 (IR (k+1)/\v [uI (k+1)] h))
 (R (rT #[]) h)):=by
  refine⟨_,Ax P.at8,nn,nn,_,An P.atp 13 1 (by simp[AH]),nn,Bc,As.at2 (off:=2) P.at9 (by simp[Ba]) ?_⟩;have N:=P.set9 (a0':=a0) (a1':=a1) (a2':=s.cm) (a3':=0) u b (x:=(((Ba a0 a1 0 0).toArray.toList.take 2++[vF .i64 (s.cm:Int)]++(Ba a0 a1 0 0).toArray.toList.drop (2+[vF .i64 (s.cm:Int)].length)).toArray)) (by simp[Ba]);refine⟨_,Ax N.at8,nn,nn,ls,An N.atp 14 1 (by simp[AH]),E3 s.lg.length (λi h=>PM V0 d p F b8 b9 gs ns ls nd h s c a0 a1 s.cm (Cm (s.lg.take i))) N ?_⟩;intro i h J S r Q;refine⟨λg=>?_,λZ=>?_⟩
  · have t:=r.log;obtain⟨x,-,X,-,q,B,C,o⟩:=t.get g;have T:=t.cap;have U:=t.fit;have D:=t.n_eq;have E:=nodesN_le s.lg i;have O:=nodesN_succ X;refine⟨B,C,g,_,_,_,o,λA=>⟨nn,Bc,_,An r.at9 3 1 (by simp[Ba]),⟨by omega,by omega⟩,nn,Bc,As.at2 (off:=3) r.at9 (by simp[Ba]) ⟨t.succ g,Q q _ ?_⟩⟩,λA=>⟨t.succ g,Q q _ ?_⟩⟩
    · rw[if_pos A]at O;exact r.set9 u b (by rw[O];simp[Ba])
    simp_all
  · have hd:=(r.log.done Z).2;grind
def fltVE(e:Int):Value:=.iface 198 (.agg #[.int .i64 e])
theorem lateNil(g:b8≠b9)(f:V0 b9=none)(P:PM V0 d p F b8 b9 gs ns ls nd V s c 0 a1 0 0):AO xG 46 c122a [(0,pv b9),(1,pv b8),(2,.nilIface)] [] V λ_ V'=>PM V0 d p F b8 b9 gs ns ls nd V' s c 0 a1 s.cm (Cm s.lg):=by
 refine s122a (c:=.nilIface) ?_;unfold w122a;exact GenK.eqNilNil rfl rfl ⟨false,rfl,(λk=>by cases k),λ_=>lateTail (R:=λe V'=>∃vs:List Value,e=.returned (.tuple vs.toArray)/\PM V0 d p F b8 b9 gs ns ls nd V' s c 0 a1 s.cm (Cm s.lg)) g f P λV' h=>⟨[],rfl,h⟩⟩
theorem lateFlt(g:b8≠b9)(f:V0 b9=none){e:Int}(P:PM V0 d p F b8 b9 gs ns ls nd V s c 0 a1 0 0):AO xG 46 c122a [(0,pv b9),(1,pv b8),(2,fltVE e)] [] V λ_ V'=>PM V0 d p F b8 b9 gs ns ls nd V' s c e a1 s.cm (Cm s.lg):=by
 refine s122a (c:=fltVE e) ?_;unfold w122a;refine GenK.neqNil rfl rfl ⟨true,rfl,λ_=>?_,λk=>absurd rfl k⟩;refine GenK.assertOk Tryz.underlying198 rfl ⟨e,true,rfl,λ_=>⟨nn,As.at2 (off:=0) P.at9 (by simp[Ba]) ?_⟩,λk=>absurd rfl k⟩;exact lateTail (R:=λx V'=>∃vs:List Value,x=.returned (.tuple vs.toArray)/\PM V0 d p F b8 b9 gs ns ls nd V' s c e a1 s.cm (Cm s.lg)) g f (P.set9 (a0':=e) (a1':=a1) (a2':=0) (a3':=0) g f (by simp[Ba])) λV' h=>⟨[],rfl,h⟩
noncomputable def lateX:Code:=(flat (Az vl)).getD 0 .skip
theorem lateBody:(vl).body=some (Az vl):=by kernel_rfl
theorem lateX_eq:lateX=.region 0 #[(Cj lateX).getD 0 Cz,(Cj lateX).getD 1 Cz] false:=by kernel_rfl
theorem late_flat:flat (Az vl)=lateX::c122a:=by kernel_rfl
theorem MF{tmps:Array Value}{w:World}:(results vl tmps).run xG w=.ok (.tuple #[]) w:=by
 simp_all[results]
theorem lateCc(k:b8≠b9)(q:V0 b9=none)(P:PM V0 d p F b8 b9 gs ns ls nd V s c 0 a1 0 0){w:World}(hw:V.le w){u:FrameMode}{n:Nat}{f:Int}(hu:(u=.returning/\f=0)∨u=.panicking [{v:=fltVE f,recovered:=false}]):
  CallsDIn (Au none) n xG 122 #[pv b9,pv b8] u w λe g w'=>(∃v,e=.returned v)/\(∃V2,Aq V w V2 w'/\PM V0 d p F b8 b9 gs ns ls nd V2 s c f a1 s.cm (Cm s.lg))/\
   ((u=.returning/\g=.returning)∨(g=.panicking [{v:=fltVE f,recovered:=true}])):=by
 refine Pp (fn:=vl) (at0:=#[]) (t3:=2) (t6:=7) Tryz.func122 lateBody late_flat lateX_eq (by kernel_rfl) (by kernel_rfl) (by kernel_rfl) (by kernel_rfl) (by kernel_rfl) (by kernel_rfl) (by simp_all) (by simp_all) ?_;intro v g h;have o:=Fz (Fz (Hk (args:=[pv b9,pv b8]) (N:=46) (by simp)) (t:=7) (v:=v) (by decide)) (t:=2) (v:=v) (by decide);have z:Has 46 _ [(0,pv b9),(1,pv b8),(2,v)]:=⟨o.1,λs x y=>by
  simp only[zc]at y
  repeat' split at y
  all_goals first
   |(rename_i e;simp only[beq_iff_eq]at e;subst e;cases y;exact o.get rfl)
   |cases y⟩
 rcases hu with⟨rfl,rfl⟩|rfl
 ·obtain⟨rfl,rfl⟩:v=.nilIface/\g=.returning:=h;refine EI ?_ (lateNil k q P none n _ w hw z.1 z.2);rintro e b w' ⟨rfl,j,-,vs,V',-,i,r⟩;exact⟨.inl rfl,j,_,MF,⟨_,rfl⟩,⟨V',r,i⟩,.inl ⟨rfl,rfl⟩⟩
 ·obtain⟨rfl,rfl⟩:v=fltVE f/\g=.panicking [{v:=fltVE f,recovered:=true}]:=by
   obtain⟨j,a⟩:=h;grind
  refine EI ?_ (lateFlt k q P none n _ w hw z.1 z.2);rintro e b w' ⟨rfl,j,-,vs,V',-,i,r⟩;exact⟨.inl rfl,j,_,MF,⟨_,rfl⟩,⟨V',r,i⟩,.inr rfl⟩
end
theorem AL.base{V0 V:Mem}{gs ns ls:Sl}{nd:List Nd}{s:St}(L:AL V0 V gs ns ls nd s){p:Nat}(p0:V0 p=none):∃W,V0.sub W/\W p=none/\W.sub V/\AL W V gs ns ls nd s/\∀b o,V b=some o->b≠p->Alien V b->W b=some o:=by
 refine⟨Mem.minus V (Mine p gs ns ls nd),λb o k=>?_,KH (.inl rfl),KG,L.frame (λ_ _ _ h=>h),λb o k f u=>?_⟩;·rw[Hq λhm=>by rw[L.mine0 p0 hm]at k;cases k];exact L.sub _ _ k
 ·rw[Hq];exact k;have g:∀{e sz sl vs},(e=3∨e=130∨e=201)->Sx.Own V0 V e sz sl vs->¬Bl sl b:=λ{e sz sl vs} z y=>y.apart λt=>u t e z;rintro(h|h|h|h|⟨n,x,h⟩);·exact f h
  ·exact g (.inl rfl) L.glob h
  ·exact g (.inr (.inl rfl)) L.nodes h
  ·exact g (.inr (.inr rfl)) L.log h
  ·exact g (.inl rfl) (L.fld n x) h
theorem KK{V:Mem}{b:Nat}{x:Array Value}{t:Nat}(h:V b=some (.cells x t (0,0)))(k:NT t):Alien V b:=Jk h k
noncomputable def playI:Code:=(flat (Az vm)).getD 3 .skip
noncomputable def Fe:Code:=(flat (Az vm)).getD 5 .skip
noncomputable def playR:Code:=(flat (Az vm)).getD 6 .skip
theorem play_flat:flat (Az vm)=c69a++playI::(c69c++Fe::playR::(c69f++[.ret])):=by kernel_rfl
theorem playI_eq:playI=.cond (.tmp 20) (kid playI 0) .skip:=by kernel_rfl
theorem playK_flat:flat (kid playI 0)=c69b++[.ret]:=by kernel_rfl
theorem playD_eq:Fe=.region 5 #[(Cj Fe).getD 0 Cz,(Cj Fe).getD 1 Cz] false:=by kernel_rfl
theorem playR_eq:playR=.region 6 c69d false:=by kernel_rfl
theorem playR_size:(c69d).size=7:=by kernel_rfl
theorem playde:c69d=c69e:=rfl
theorem run_ldv{w:World}{b t T:Nat}{x:Value}{cs y:Go.Sx.T}{ρ:List Value}(h:w.heap[b]?=some (.cells (cs.evs ρ id).toArray t (0,0)))(k:Dd xG T cs 0=some y)(g:y.ev ρ id=x):(loadVar T ⟨b,0,none⟩).run xG w=.ok x w:=by
 grind[GY,xG,T,id]
def outT:Go.Sx.T:=.cons (.var (.i .i64) 0) (.cons (.var (.i .i64) 1) (.cons (.var (.i .i64) 2) (.cons (.var (.i .i64) 3) (.cons (.var (.i .i64) 4) .nil))))
theorem Jl{tmps:Array Value}{b8 b9 h k:Nat}{q:Option Addr}{a0 a1 a2 a3 er:Int}{w:World}(h8:tmps.getD 8 undef=pv b8)(g:tmps.getD 9 undef=pv b9)(f:tmps.getD 10 undef=.int .i64 er)
  (c8:w.heap[b8]?=some (cell (.pointer q) h)) (c9:w.heap[b9]?=some (.cells (Ba a0 a1 a2 a3).toArray k (0,0))):
  (results vm tmps).run xG w=.ok (.tuple #[.pointer q,.agg (Ba a0 a1 a2 a3).toArray,.int .i64 er]) w:=by
 have t:vm.results=#[.cell 8 84,.cell 9 47,.tmp 10]:=by kernel_rfl
 unfold results;rw[t];have u:asAddr (tmps.getD 8 undef)=pure ⟨b8,0,none⟩:=by rw[h8];rfl
 have z:asAddr (tmps.getD 9 undef)=pure ⟨b9,0,none⟩:=by rw[g];rfl
 have x:(loadVar 84 ⟨b8,0,none⟩).run xG w=.ok (.pointer q) w:=run_ldv (cs:=.cons (.var .p 0) .nil) (y:=.var .p 0) (ρ:=[.pointer q]) c8 (by kernel_rfl) rfl;have j:(loadVar 47 ⟨b9,0,none⟩).run xG w=.ok (.agg (Ba a0 a1 a2 a3).toArray) w:=run_ldv (cs:=outT) (y:=.agg outT) (ρ:=Ba a0 a1 a2 a3) c9 (by kernel_rfl) rfl;simp_all
section
variable{V0 V:Mem}{d:Ds}{F:Nat}{gs ns:Sl}{nd:List Nd}{m:Mm}
def PlayP(V0:Mem)(d:Ds)(F:Nat)(m:Mm)(nm:KB)(args:List Int)(V:Mem):Ending->Mem->Prop:=λe V'=>
 (By d m nm args≠0/\V.sub V'/\e=.returned (.tuple #[.pointer none,.agg (Ba 0 0 0 0).toArray,.int .i64 (By d m nm args)]))∨
 (By d m nm args=0/\∃p c,∃r:Rx Int,r=C7 d F (BR d nm) args (Bm m)/\EM V0 d p F V' r.st c/\e=.returned (.tuple #[pv p,.agg (Ba (outC r) (outV r) r.st.cm (Cm r.st.lg)).toArray,.int .i64 0]))
end
theorem lookup_mem{s:Nat}{v:Value}:∀{l:List (Nat×Value)},l.lookup s=some v->(s,v)∈l
 |[],h=>by cases h
 |(t,u)::l,h=>by
  rw[zc]at h;split at h
  ·rename_i e;simp only[beq_iff_eq]at e;subst e;cases h;exact zb
  ·exact za _ (lookup_mem h)
theorem Jm{N:Nat}{a:Act}{l k:List (Nat×Value)}(h:Has N a l)(g:∀x∈k,l.lookup x.1=some x.2):Has N a k:=⟨h.1,λs v f=>h.2 s v (g (s,v) (lookup_mem f))⟩
noncomputable def Ht:Call:=match((c69d).getD 4 Cz).op with|.call c=>c|_=>{callee:=.value (.tmp 0),args:=#[],argTypes:=#[]}
noncomputable def playFv:Operand:=match Ht.callee with|.value f=>f|_=>.tmp 0
theorem playCall_op:((c69d).getD 4 Cz).op=.call Ht:=by kernel_rfl
theorem playCall_fv:Ht.callee=.value playFv:=by kernel_rfl
theorem Pq:Ht.args=#[.tmp 29,.tmp 30,.tmp 32]:=by kernel_rfl
theorem playFv_eval(a:Act):a.eval playFv=.func (.func 123) #[] #[]:=by kernel_rfl
theorem free{V U:Mem}(k:V.sub U){b:Nat}(h:U b=none):V b=none:=by
 cases g:V b with
 |none=>rfl
 |some o=>rw[k _ _ g]at h;cases h
section
variable{V0 V:Mem}{d:Ds}{F:Nat}{m:Mm}{nm:KB}{args:List Int}{l:Sl}{b4 b5 b6 b8 b9 b11 p c:Nat}{gs ns ls:Sl}{nd:List Nd}{s:St}{a1:Int}{pr:Pr}{er:Int}
theorem segA(Z:Ds.Ok V d)(hm:Mm.Ok V m)(G:Am d m)(Y:Ad V l 1 (args.map AE))(y:pr=if By d m nm args=0 then(d.procs[(BR d nm).toNat]?).getD noPr else noPr):
  AO xG 37 c69a [(0,d.v),(1,m.v),(2,.agg #[.string nm,l.v]),(3,.int .i64 F)] [3,4,5,6,8,9,10,11,20] V λvs V1=>∃b4 b5 b6 b8 b9 b11:Nat,vs=[.int .i64 F,pv b4,pv b5,pv b6,pv b8,pv b9,.int .i64 (By d m nm args),pv b11,.bool (!(decide (By d m nm args=0)))]/\
   V.sub V1/\V b8=none/\V b9=none/\b8≠b9/\V1 b4=some (.cells d.row.toArray 30 (0,0))/\V1 b5=some (.cells m.row.toArray 34 (0,0))/\V1 b6=some (.cells #[.string nm,l.v] 36 (0,0))/\V1 b8=some (cell (.pointer none) 84)/\V1 b9=some (.cells (Ba 0 0 0 0).toArray 47 (0,0))/\V1 b11=some (.cells pr.row.toArray 74 (0,0)):=by
 have J:=c121 Z hm G Y (nm:=nm);rw[<-y]at J;refine s69a (a:=d.name) (b:=d.ts) (c:=d.gs) (d:=d.ps) (g:=d.ms) (i:=d.is) (j:=d.qs) (k:=d.bs) (l:=m.gs) (o:=m.ns) (p:=nm) (q:=l) (r:=F) ?_;unfold w69a;refine J.call ⟨_,_,_,_,_,_,rfl,λb4 Q b5 P b6 h6 b8 h8 b9 N b11 x=>?_⟩;have n:=λo=>Mem.sub_new Q o;have z:=λo=>Mem.sub_new P o;have f:=λo=>Mem.sub_new h6 o;have t:=λo=>Mem.sub_new h8 o;have u:=λo=>Mem.sub_new N o;have h:=λo=>Mem.sub_new x o;refine⟨_,rfl,b4,b5,b6,b8,b9,b11,rfl,(n _).trans ((z _).trans ((f _).trans ((t _).trans ((u _).trans (h _))))),free ((n _).trans ((z _).trans (f _))) h8,free ((n _).trans ((z _).trans ((f _).trans (t _)))) N,λe=>?_,?_,?_,?_,?_,?_,Mem.set_same _ _ _⟩;·grind[Mem.set_same]
 ·exact((z _).trans ((f _).trans ((t _).trans ((u _).trans (h _))))) _ _ Ao
 ·exact((f _).trans ((t _).trans ((u _).trans (h _)))) _ _ Ao
 ·exact((t _).trans ((u _).trans (h _))) _ _ Ao
 ·exact((u _).trans (h _)) _ _ Ao
 ·exact(h _) _ _ Ao
theorem segB(h:b8≠b9)(k:V0 b8=none)(g:V0 b9=none)(f:V0.sub V)(t:V b8=some (cell (.pointer none) 84))(u:V b9=some (.cells (Ba 0 0 0 0).toArray 47 (0,0))):
  AO xG 37 c69b [(8,pv b8),(9,pv b9),(10,.int .i64 er)] [8,9,10] V λvs V1=>vs=[pv b8,pv b9,.int .i64 er]/\V0.sub V1/\V1 b8=some (cell (.pointer none) 84)/\V1 b9=some (.cells (Ba 0 0 0 0).toArray 47 (0,0)):=by
 refine s69b (a:=some ⟨b8,0,none⟩) (b:=some ⟨b9,0,none⟩) (c:=er) ?_;unfold w69b;refine As.cell t ?_;show As (Aa (sa b9) 0) 0 _ _ _;refine As.at2 (off:=0) (by rw[Mem.set_ne h.symm];exact u) (by simp[Ba]) ⟨_,rfl,rfl,(f.set k _).set g _,by rw[Mem.set_ne h,Mem.set_same],by rw[Mem.set_same];simp[Ba]⟩
theorem segC(f:V b4=some (.cells d.row.toArray 30 (0,0)))(t:V b5=some (.cells m.row.toArray 34 (0,0)))(u:V b8=some (cell (.pointer none) 84)):
  AO xG 37 c69c [(3,.int .i64 F),(4,pv b4),(5,pv b5),(6,pv b6),(8,pv b8),(9,pv b9),(10,.int .i64 er),(11,pv b11)] [6,8,9,10,11] V λvs V1=>
   vs=[pv b6,pv b8,pv b9,.int .i64 er,pv b11]/\∃p,V p=none/\V1=(V.set p (.cells (AH d F ((0:Nat):Int) ((0:Nat):Int) ((0:Nat):Int) m.gs m.ns Ag).toArray 89 (0,0))).set b8 (cell (pv p) 84):=by
 refine s69c (a:=F) (b:=some ⟨b4,0,none⟩) (c:=some ⟨b5,0,none⟩) (d:=some ⟨b6,0,none⟩) (g:=some ⟨b8,0,none⟩) (i:=some ⟨b9,0,none⟩) (j:=er) (k:=some ⟨b11,0,none⟩) ?_;unfold w69c;refine⟨_,_,_,_,_,_,_,_,An f 0 8 (by simp[Ds.row]),_,_,An t 0 2 (by simp[Mm.row]),λp z=>?_⟩;have h:b8≠p:=λe=>by simp_all
 exact As.cell (by rw[Mem.set_ne h];exact u) ⟨_,rfl,rfl,p,z,rfl⟩
theorem segD(k:V b6=some (.cells #[.string nm,l.v] 36 (0,0)))(f:V b8=some (cell (pv p) 84))(h:V b11=some (.cells pr.row.toArray 74 (0,0))):
  Aw xG 37 c69d 0 4 [(6,pv b6),(8,pv b8),(9,pv b9),(10,.int .i64 er),(11,pv b11)] [8,9,10,29,30,32] V λvs V1=>
   vs=[pv b8,pv b9,.int .i64 er,pv p,pr.v,l.v]/\V1=V:=by
 refine s69d (a:=some ⟨b6,0,none⟩) (b:=some ⟨b8,0,none⟩) (c:=some ⟨b9,0,none⟩) (d:=er) (g:=some ⟨b11,0,none⟩) ?_;unfold w69d;exact⟨_,Ax f,_,_,_,_,_,An h 0 5 (by simp[Pr.row]),nn,l,An k 1 1 (by simp),_,rfl,rfl,rfl⟩
theorem segE(h:b8≠b9)(k:V0 b9=none){v:Int}(P:PM V0 d p F b8 b9 gs ns ls nd V s c 0 0 0 0):
  Aw xG 37 c69e 5 2 [(8,pv b8),(9,pv b9),(33,.int .i64 v)] [8,9] V λvs V1=>vs=[pv b8,pv b9]/\PM V0 d p F b8 b9 gs ns ls nd V1 s c 0 v 0 0:=by
 refine s69e (a:=some ⟨b8,0,none⟩) (b:=some ⟨b9,0,none⟩) (c:=v) ?_;unfold w69e;exact⟨nn,As.at2 (off:=1) P.at9 (by simp[Ba]) ⟨_,rfl,rfl,P.set9 h k (by simp[Ba])⟩⟩
theorem segF(h:b8≠b9)(g:V0 b8=none)(f:V0 b9=none)(P:PM V0 d p F b8 b9 gs ns ls nd V s c 0 a1 0 0):
  AO xG 37 c69f [(8,pv b8),(9,pv b9)] [8,9,10] V λvs V1=>vs=[pv b8,pv b9,.int .i64 0]/\PM V0 d p F b8 b9 gs ns ls nd V1 s c 0 a1 0 0:=by
 refine s69f (a:=some ⟨b8,0,none⟩) (b:=some ⟨b9,0,none⟩) ?_;unfold w69f;have k:=P.set8 h g (x:=#[pv p]) rfl;refine⟨_,Ax P.at8,_,_,_,_,_,An P.at9 0 5 (by simp[Ba]),As.cell P.at8 ⟨An k.at9 0 5 (by simp[Ba]),?_⟩⟩;show As (Aa (sa b9) 0) 0 _ _ _;exact As.at2 (off:=0) k.at9 (by simp[Ba]) ⟨_,rfl,rfl,k.set9 h f (by simp[Ba])⟩
end
section
variable{V0 V:Mem}{d:Ds}{F:Nat}{m:Mm}{nm:KB}{args:List Int}{l:Sl}
theorem MG(S:ES V0 d F)(L:AL V0 V m.gs m.ns Ag m.nodes (Bm m))(hm:Mm.Ok V m)(G:Am d m)(ha:Ad V0 l 1 (args.map AE)):
  Tri xG 69 #[d.v,m.v,.agg #[.string nm,l.v],.int .i64 F] V (PlayP V0 d F m nm args V):=by
 unfold Go.Sx.Tri;intro w hV;refine(callsIn_wide (n:=0)).1 (callsIn_of_wp_defers (F:=Au none) Tryz.func69 (c:=Az vm) (by kernel_rfl) trivial (E9 ?_) rfl);rw[play_flat];obtain⟨pr,hpr⟩:∃pr,pr=if By d m nm args=0 then(d.procs[(BR d nm).toNat]?).getD noPr else noPr:=⟨_,rfl⟩
 refine(segA (F:=F) (S.ds.sub L.sub) hm G (ha.sub L.sub) hpr).step hV (Hk (args:=[d.v,m.v,.agg #[.string nm,l.v],.int .i64 F]) (N:=37) (by simp)) ?_;rintro a1 w1 vs V1 hd1 D ⟨b4,b5,b6,b8,b9,b11,rfl,s1,f8,f9,j,e4,e5,e6,e8,e9,e11⟩ a;have v8:=free L.sub f8;have v9:=free L.sub f9;have h20:a1.eval (.tmp 20)=.bool (!(decide (By d m nm args=0))):=D.get rfl;show wA (Au none) 0 xG playI _ a1 w1;rw[playI_eq];by_cases hc:By d m nm args=0
 ·refine wpIn_cond_false (by grind) (wpIn_skip ?_);show Cq none 0 xG _ (c69c++Fe::playR::(c69f++[.ret])) a1 w1;refine(segC (F:=F) (m:=m) e4 e5 e8).step a.le (Jm D (by
   intro x Q;simp only[yD,xD,or_false]at Q;rcases Q with rfl|rfl|rfl|rfl|rfl|rfl|rfl|rfl<;>rfl)) ?_
  rintro a2 w2 vs V2 E u ⟨rfl,p,hp,I⟩ g;have hp8:b8≠p:=λe=>by simp_all
  have s2:V1.sub (V1.set p (.cells (AH d F ((0:Nat):Int) ((0:Nat):Int) ((0:Nat):Int) m.gs m.ns Ag).toArray 89 (0,0))):=Mem.sub_new hp _;have L1:=(L.grow s1).grow s2;have L2:AL V0 V2 m.gs m.ns Ag m.nodes (Bm m):=by
   rw[I];exact L1.put (KK (s2 _ _ e8) (by unfold NT;decide)) v8 _
  have p0:V0 p=none:=free (L.sub.trans s1) hp;obtain⟨W,w0,wp,wV,LW,hW⟩:=L2.base p0;have hat:V2 p=some (.cells (AH d F ((0:Nat):Int) ((0:Nat):Int) ((0:Nat):Int) m.gs m.ns Ag).toArray 89 (0,0)):=by rw[I,Mem.set_ne hp8.symm,Mem.set_same]
  have keep:∀{b:Nat}{o:Obj},V1 b=some o->b≠b8->V2 b=some o:=λ{b o} hb hne=>by rw[I,Mem.set_ne hne];exact s2 _ _ hb
  have O:V2 b8=some (cell (pv p) 84):=by rw[I,Mem.set_same]
  have n6:b6≠b8:=λe=>by simp_all
  have n11:b11≠b8:=λe=>by simp_all
  have M:=keep e9 j.symm;have hp9:b9≠p:=λe=>by simp_all
  have W8:W b8=some (cell (pv p) 84):=hW _ _ O hp8 (KK O (by unfold NT;decide));have W9:W b9=some (.cells (Ba 0 0 0 0).toArray 47 (0,0)):=hW _ _ M hp9 (KK M (by unfold NT;decide));have MW:EM W d p F V2 (Bm m) 0:=⟨wp,m.gs,m.ns,Ag,m.nodes,hat,LW⟩;obtain⟨i,q,hi,hq,hval⟩:=cllE_zero hc;have hpq:pr=q:=by simp_all
  have hG:=good_st G;have hvs:AB d (Bm m).mm q.params args=true:=Ck (KJ (KI m).symm) hval;obtain⟨r,hr⟩:∃r:Rx Int,r=C7 d F (i:Int) args (Bm m):=⟨_,rfl⟩;have H:Tri xG 123 #[pv p,pr.v,l.v] V2 (PX W d p F 0 r):=by
   rw[hr,hpq];exact runC (allC d p F (F+1)) W V2 (Bm m) 0 i q args l (S.sub w0) hq hG hvs (ha.sub w0) MW (vk _) (by omega) (by unfold BW;show 0+0+0<=_;omega)
  show wA (Au none) 0 xG Fe _ a2 w2;rw[playD_eq];refine wpIn_region ?_;show wpOpsIn _ _ _ _ _ [0,1] _ _;refine Go.Sx.step_value (o:=(Cj Fe).getD 0 Cz) rfl (by kernel_rfl) (Mg (f:=.func 122) (first:=#[]) (caps:=#[.tmp 9,.tmp 8]) (by kernel_rfl)) ?_;have g8:a2.eval (.tmp 8)=pv b8:=u.get rfl;have g9:a2.eval (.tmp 9)=pv b9:=u.get rfl;have hd0:((Cj Fe).getD 0 Cz).dst=some 28:=by kernel_rfl
  have hd1':((Cj Fe).getD 1 Cz).dst=none:=by kernel_rfl
  rw[hd0,show(#[Operand.tmp 9,.tmp 8].map a2.eval)=#[pv b9,pv b8]by simp[g8,g9],show((#[]:Array Operand).map a2.eval)=#[]by simp];have hH3:=Fz u (t:=28) (v:=.func (.func 122) #[] #[pv b9,pv b8]) (by decide);refine Go.Sx.step_defer (o:=(Cj Fe).getD 1 Cz) rfl (by kernel_rfl) (Mh (c:={callee:=.value (.tmp 28),args:=#[],argTypes:=#[]}) (fv:=.tmp 28) (f:=.func 122) (first:=#[]) (by kernel_rfl) rfl (hH3.get rfl) (by simp)) ?_;rw[hd1'];show wA (Au none) 0 xG playR _ _ w2;rw[playR_eq];refine wpIn_region ?_;rw[playR_size];show wpOpsIn _ _ _ _ _ (List.range' 0 4++[4,5,6]) _ _;have B:Has 37 _ [(6,pv b6),(8,pv b8),(9,pv b9),(10,.int .i64 (By d m nm args)),(11,pv b11)]:=Jm hH3 (by
   intro x Q;simp only[yD,xD,or_false]at Q;rcases Q with rfl|rfl|rfl|rfl|rfl<;>rfl)
  refine(segD (pr:=pr) (keep e6 n6) O (keep e11 n11)).step g.le ⟨B.1,B.2⟩ ?_;rintro A w4 vs V4 hd4 z ⟨rfl,rfl⟩ X;have hdf:A.defers=[{target:=.fn (.func 122) #[pv b9,pv b8],args:=#[]++#[]}]:=by
   rw[hd4];show _::a2.defers=_;rw[E,hd1]
  have inv:∀w',(invoke (.fn (.func 122) #[pv b9,pv b8]) (#[]++#[])).run xG w'=.ok (.enter 122 #[pv b9,pv b8]) w':=λw'=>by simp[invoke]
  have q29:A.eval (.tmp 29)=pv p:=z.get rfl;have q30:A.eval (.tmp 30)=pr.v:=z.get rfl;have q32:A.eval (.tmp 32)=l.v:=z.get rfl;have t8:A.tmps.getD 8 undef=pv b8:=z.get rfl;have t9:A.tmps.getD 9 undef=pv b9:=z.get rfl;have t10:A.tmps.getD 10 undef=.int .i64 0:=by rw[<-hc];exact z.get rfl
  have i4:(c69d)[4]?=some ((c69d).getD 4 Cz):=by kernel_rfl
  have d4:((c69d).getD 4 Cz).dst=some 33:=by kernel_rfl
  have K:Ht.args.map A.eval=#[pv p,pr.v,l.v]:=by grind[Pq]
  have mk:∀{V':Mem}{s':St}{c':Nat},EM W d p F V' s' c'->∃gs ns ls nd,PM V0 d p F b8 b9 gs ns ls nd V' s' c' 0 0 0 0:=λ{V' s' c'} h=>by
   obtain⟨gs,ns,ls,nd,h1,h2⟩:=h.ex;exact⟨gs,ns,ls,nd,W,w0,wp,h1,h2,W8,W9⟩
  have hrs:(r.st:St)=(C7 d F (BR d nm) args (Bm m)).st:=by rw[hr,hi]
  refine Go.Sx.step_call i4 (by kernel_rfl) (by simpa using run_callv (c:=Ht) (fv:=playFv) (f:=123) (first:=#[]) (caps:=#[]) (args:=#[pv p,pr.v,l.v]) playCall_op playCall_fv (playFv_eval A) K Tryz.call123) X.le H ?_ ?_ ?_
  ·intro ch V' w' C J;cases r with
   |ok v s'=>cases C.1
   |bad k s'=>
    obtain⟨he,c',T⟩:=C;have hch:ch=[{v:=fltVE k,recovered:=false}]:=by
     unfold fltE at he;injection he
    subst hch;obtain⟨gs,ns,ls,nd,P⟩:=mk T;show LeavesIn (Au none) 0 xG _ _ _ A.defers _ w';rw[hdf];refine⟨nofun,(λh=>by simp[Au,Fence.wide]at h),_,_,_,_,rfl,inv w',λ_ _=>trivial,I9 (lateCc j v9 P J.le (f:=k) (.inr rfl)) ?_⟩;rintro e u' w'' ⟨⟨v,rfl⟩,⟨V6,y,P6⟩,⟨h,-⟩|rfl⟩;·cases h
    ·refine⟨_,Jl t8 t9 t10 (y.le _ _ P6.at8) (y.le _ _ P6.at9),V6,.inr ⟨hc,p,c',.bad k s',by rw[hr,hi],P6.em,rfl⟩,(((a.trans g).trans X).trans J).trans y⟩
  ·intro v V' w' C J;cases r with
   |bad k s'=>cases C.1
   |ok x s'=>
    obtain⟨he,T⟩:=C;cases he;rw[d4];obtain⟨gs,ns,ls,nd,P⟩:=mk T;have hH5:=Fz z (t:=33) (v:=.int .i64 x) (by decide);show wpOpsIn _ _ _ _ _ (List.range' 5 2++[]) _ w';rw[playde];refine(segE j v9 (v:=x) P).step J.le (Jm ⟨hH5.1,hH5.2⟩ (by
     intro x Q;simp only[yD,xD,or_false]at Q;rcases Q with rfl|rfl|rfl<;>rfl)) ?_
    rintro a6 w6 vs V6 hd6 hH6 ⟨rfl,P6⟩ y;show Cq none 0 xG _ (c69f++[.ret]) a6 w6;refine(segF j v8 v9 P6).step y.le hH6 ?_;rintro a7 w7 vs V7 hd7 Z ⟨rfl,P7⟩ U;show wA (Au none) 0 xG .ret _ a7 w7;refine wpIn_ret ?_;show LeavesIn (Au none) 0 xG _ _ _ a7.defers _ w7;have hdf7:a7.defers=_:=(hd7.trans hd6).trans hdf;rw[hdf7];refine⟨nofun,(λh=>by simp[Au,Fence.wide]at h),_,_,_,_,rfl,inv w7,λ_ _=>trivial,I9 (lateCc j v9 P7 U.le (f:=0) (.inl ⟨rfl,rfl⟩)) ?_⟩;rintro e u' w'' ⟨⟨v,rfl⟩,⟨V8,Y,P8⟩,⟨-,rfl⟩|rfl⟩;·refine⟨_,Jl (Z.get rfl) (Z.get rfl) (Z.get rfl) (Y.le _ _ P8.at8) (Y.le _ _ P8.at9),V8,.inr ⟨hc,p,0,.ok x s',by rw[hr,hi],P8.em,rfl⟩,((((((a.trans g).trans X).trans J).trans y).trans U).trans Y)⟩
    ·refine⟨_,Jl (Z.get rfl) (Z.get rfl) (Z.get rfl) (Y.le _ _ P8.at8) (Y.le _ _ P8.at9),V8,.inr ⟨hc,p,0,.ok x s',by rw[hr,hi],P8.em,rfl⟩,((((((a.trans g).trans X).trans J).trans y).trans U).trans Y)⟩
  ·intro V' C;cases r with
   |ok v s'=>cases C.1
   |bad k s'=>cases C.1
 ·refine wpIn_cond_true (by grind) (E9 ?_);rw[playK_flat];refine(segB j f8 f9 s1 e8 e9).step a.le (Jm D (by
   intro x Q;simp only[yD,xD,or_false]at Q;rcases Q with rfl|rfl|rfl<;>rfl)) ?_
  rintro a2 w2 vs V2 E u ⟨rfl,s2,O,M⟩ g;show wA (Au none) 0 xG .ret _ a2 w2;refine wpIn_ret ?_;show LeavesIn (Au none) 0 xG _ _ _ a2.defers _ w2;rw[E,hd1];exact⟨_,Jl (u.get rfl) (u.get rfl) (u.get rfl) (g.le _ _ O) (g.le _ _ M),V2,.inl ⟨hc,s2,rfl⟩,a.trans g⟩
end
section
variable{V:Mem}{d:Ds}{F:Nat}{m m':Mm}{nm:KB}{args:List Int}{l:Sl}
theorem values_plain(h:m.plain=m'.plain){t:List Fld}{vs:List Int}:AB d m t vs=AB d m' t vs:=by
 rw[Bool.eq_iff_iff];grind[Ck,KJ]
theorem MH(h:m.plain=m'.plain):By d m nm args=By d m' nm args:=by
 grind[By,values_plain]
noncomputable def CA(d:Ds)(m:Mm)(nm:KB)(args:List Int)(F:Int):Int:=if Cb d m F=0 then By d m nm args else Cb d m F
theorem Jn{F:Int}(h:Cb d m F=0):Am d m:=by
 grind[Cb]
theorem ok_copy(hm:Mm.Ok V m){V':Mem}{gs ns:Sl}{nd:List Nd}(L:AL V V' gs ns Ag nd (Bm m)):Mm.Ok V' ⟨gs,m.globals,ns,nd⟩/\(⟨gs,m.globals,ns,nd⟩:Mm).plain=m.plain:=by
 have h:(⟨gs,m.globals,ns,nd⟩:Mm).plain=m.plain:=by
  unfold Mm.plain;rw[L.eq];rfl
 refine⟨⟨L.glob.rows (λ_=>rfl) (by decide),hm.gIn,L.nodes.rows (λ_=>rfl) (by decide),λn k=>?_⟩,h⟩;obtain⟨i,f⟩:=vV.1 k;obtain⟨y,t,u,z⟩:=Hr h f;have g:=hm.nodesOk y (xM t);exact⟨(L.fld n k).rows (λ_=>rfl) (by decide),by rw[<-u];exact g.tyIn,by rw[<-z];exact g.vals⟩
def StartP(V:Mem)(d:Ds)(F:Nat)(m:Mm)(nm:KB)(args:List Int):Ending->Mem->Prop:=λe V'=>
 (CA d m nm args F≠0/\V.sub V'/\e=.returned (.tuple #[.pointer none,.agg (Ba 0 0 0 0).toArray,.int .i64 (CA d m nm args F)]))∨
 (CA d m nm args F=0/\∃p c,∃r:Rx Int,r=C7 d F (BR d nm) args (Bm m)/\EM V d p F V' r.st c/\e=.returned (.tuple #[pv p,.agg (Ba (outC r) (outV r) r.st.cm (Cm r.st.lg)).toArray,.int .i64 0]))
theorem Ps[Tab V](x:Ds.Ok V d)(hm:Mm.Ok V m)(b:Ad V l 1 (args.map AE))(a:F<=4000):Tri xG 31 #[d.v,m.v,.agg #[.string nm,l.v],.int .i64 F] V (StartP V d F m nm args):=by
 refine NC (R:=StartP V d F m nm args) ?_;refine(MC x hm).call ⟨_,rfl,λi=>?_,λi=>?_⟩
 ·have G:=Jn i;have k:CA d m nm args F=By d m nm args:=by grind[CA]
  obtain⟨p1,J,p3,X,N⟩:=BX G.mem;have Z:=lens12 G.valid;refine Tri.mono (MD hm (by grind[Dk]) J λn q=>?_) ?_
  ·have:=(Dk.1 (N n q)).1;have Y:=of_decide_eq_true (p3 n q);obtain⟨j,Q⟩:∃j:Nat,n.ty=(j:Int):=⟨n.ty.toNat,by omega⟩;have g:j<d.types.length:=by omega
   have P:=yu g;rw[Q,En P rfl]at this;grind
  rintro _ V1 ⟨gs,ns,nd,rfl,L⟩;obtain⟨t,o⟩:=ok_copy hm L;have O:Am d ⟨gs,m.globals,ns,nd⟩:=⟨G.valid,G.chk,F9 o.symm G.mem⟩;have u:Bm ⟨gs,m.globals,ns,nd⟩=Bm m:=by
   unfold Bm;rw[show nd.map (λn=>(n.ty,n.f))=m.nodes.map (λn=>(n.ty,n.f))from L.eq]
  have A:AL V V1 gs ns Ag nd (Bm ⟨gs,m.globals,ns,nd⟩):=by grind
  refine⟨gs,ns,rfl,Tri.mono (MG (m:=⟨gs,m.globals,ns,nd⟩) ⟨x,G.valid,Kz G.valid G.chk,a⟩ A t O b) ?_⟩;have h:By d ⟨gs,m.globals,ns,nd⟩ nm args=By d m nm args:=MH o;rintro e V2 (⟨z,y,rfl⟩|⟨z,p,c,r,I,M,rfl⟩)
  ·rw[h]at z⊢;exact⟨_,_,_,_,_,_,_,rfl,.inl ⟨by omega,L.sub.trans y,by rw[k];rfl⟩⟩
  ·rw[h]at z;exact⟨_,_,_,_,_,_,_,rfl,.inr ⟨by omega,p,c,r,by rw[I,u],M,rfl⟩⟩
 ·have k:CA d m nm args F=Cb d m F:=by grind[CA]
  exact .inl ⟨by omega,Mem.sub.refl _,by rw[k];rfl⟩
def RunP(V:Mem)(d:Ds)(F:Nat)(m:Mm)(nm:KB)(args:List Int):Ending->Mem->Prop:=λe V'=>
 (CA d m nm args F≠0/\V.sub V'/\e=.returned (.tuple #[.agg (Ba 0 0 0 0).toArray,.agg #[Ag.v,Ag.v],.int .i64 (CA d m nm args F)]))∨
 (CA d m nm args F=0/\∃r:Rx Int,∃gs ns ls nd,r=C7 d F (BR d nm) args (Bm m)/\AL V V' gs ns ls nd r.st/\e=.returned (.tuple #[.agg (Ba (outC r) (outV r) r.st.cm (Cm r.st.lg)).toArray,.agg #[gs.v,ns.v],.int .i64 0]))
theorem KL[Tab V](f:Ds.Ok V d)(hm:Mm.Ok V m)(t:Ad V l 1 (args.map AE))(u:F<=4000):Tri xG 10 #[d.v,m.v,.agg #[.string nm,l.v],.int .i64 F] V (RunP V d F m nm args):=by
 refine Nm (R:=RunP V d F m nm args) ?_;refine Tri.mono (Ps f hm t u) ?_;rintro e V1 (⟨g,z,rfl⟩|⟨g,p,c,r,y,M,rfl⟩);·exact⟨_,_,_,_,_,_,_,rfl,λh=>absurd h g,λ_=>.inl ⟨g,z,rfl⟩⟩
 ·obtain⟨gs,ns,ls,nd,k,L⟩:=M.ex;exact⟨_,_,_,_,_,_,_,rfl,λ_=>⟨nn,nn,gs,ns,An k 8 2 (by simp[AH]),DR k 8 0 2 (by simp[AH]),nn,nn,.inr ⟨g,r,gs,ns,ls,nd,y,L,rfl⟩⟩,λh=>absurd rfl h⟩
end
theorem take_eq{α:Type}{xs ys:List α}{i:Nat}{x y:α}(h:xs.take i=ys.take i)(k:xs[i]?=some x)(g:ys[i]?=some y)(e:x=y):xs.take (i+1)=ys.take (i+1):=by
 grind[vJ]
section
variable{V:Mem}{d:Ds}{m:Mm}
theorem c124{s t:Sl}{xs ys:List Int}(h:Ad V s 1 (xs.map AE))(k:Ad V t 1 (ys.map AE)):PP 124 [.slice s.p s.n s.c,.slice t.p t.n t.c] V (.bool (decide (xs=ys))):=by
 refine x124 ?_;have a:=h.n_eq;have v:=k.n_eq;refine⟨λq=>?_,λq=>?_⟩
 ·refine AK (mk:=.bool) (b0:=false) xs.length (λi V1=>V=V1/\xs.take i=ys.take i) ⟨rfl,rfl⟩ ?_;rintro i b V1 J L ⟨rfl,G⟩ N;refine⟨λg=>?_,λZ=>?_⟩
  ·obtain⟨x,Y,Q,-,z,P,O,u⟩:=h.get g;obtain⟨y,A,I,-,M,j,r,f⟩:=k.get (i:=i) (by omega);refine⟨P,O,g,_,u,j,r,by omega,_,f,λo=>⟨h.succ g,N z _ _ ⟨rfl,take_eq G Q I o⟩⟩,λo=>?_⟩;rw[decide_eq_false λe=>?_];·simp_all
   simp_all
  grind
 ·rw[decide_eq_false λe=>q (by rw[a,v,e])];simp_all
theorem plain_ext{a b:Mm}(h:a.globals=b.globals)(k:(a.nodes.map λn=>(n.ty,n.f))=b.nodes.map λn=>(n.ty,n.f)):a.plain=b.plain:=by grind[Mm.plain]
instance:DecidableEq (List Int×List (Int×List Int)):=inferInstance
theorem Pt{a b:Mm}(z:Mm.Ok V a)(G:Mm.Ok V b):PP 72 [a.v,b.v] V (.bool (decide (a.plain=b.plain))):=by
 refine Of ?_;have C:=z.nodes.n_eq;have D:=G.nodes.n_eq;have N:a.plain≠b.plain->(Ending.returned (.bool false)=.returned (.bool (decide (a.plain=b.plain)))/\V=V):=λh=>⟨by simp_all,rfl⟩;refine(c124 z.globals G.globals).call ⟨_,rfl,λj=>?_,λj=>N λe=>j (decide_eq_true (vn e).1)⟩;have j:=of_decide_eq_true j;refine⟨λL=>?_,λL=>N λe=>L (by rw[C,D,Hs e])⟩;refine AK (mk:=.bool) (b0:=false) a.nodes.length (λi V1=>V=V1/\(a.nodes.map λn=>(n.ty,n.f)).take i=(b.nodes.map λn=>(n.ty,n.f)).take i) ⟨rfl,rfl⟩ ?_;rintro i b0 V1 J S ⟨rfl,Y⟩ E;refine⟨λg=>?_,λQ=>?_⟩
 ·obtain⟨x,P,T,-,O,Z,X,u⟩:=z.nodes.get g;obtain⟨y,A,U,-,K,t,r,k⟩:=G.nodes.get (i:=i) (by omega);have B:(i:Int)<(b.ns.n:Int):=by omega
  have q:(a.nodes.map λn=>(n.ty,n.f))[i]?=some (x.ty,x.f):=by simp_all
  have o:(b.nodes.map λn=>(n.ty,n.f))[i]?=some (y.ty,y.f):=by simp_all
  have bad:(x.ty,x.f)≠(y.ty,y.f)->a.plain≠b.plain:=λh e=>h (by rw[show(a.nodes.map λn=>(n.ty,n.f))=b.nodes.map λn=>(n.ty,n.f)from(vn e).2,o]at q;simp_all);refine⟨Z,X,g,Ah Z,_,_,u,t,r,B,Ah t,_,_,k,λI=>⟨Z,X,g,Ah Z,_,_,u,t,r,B,Ah t,_,_,k,(c124 (z.nodesOk x P).rows (G.nodesOk y A).rows).call ⟨_,rfl,λM=>⟨z.nodes.succ g,E O _ _ ⟨rfl,take_eq Y q o (Prod.ext I (of_decide_eq_true M))⟩⟩,λM=>N (bad λe=>M (decide_eq_true (vn e).2))⟩⟩,λI=>N (bad λe=>I (vn e).1)⟩
 ·have hd:=(z.nodes.done Q).2;rw[wR (by simp_all),wR (by simp_all)]at Y;exact⟨by rw[decide_eq_true (plain_ext j Y)],rfl⟩
end
section
variable{V V0:Mem}{d:Ds}{F:Nat}{m:Mm}{nm:KB}{args:List Int}{l:Sl}
theorem MI{F:Int}(h:CA d m nm args F=0):Am d m/\By d m nm args=0:=by
 grind[CA,Jn,absurd]
end
section
variable{V V0:Mem}{d:Ds}{F:Nat}{m:Mm}{nm:KB}{args:List Int}{l:Sl}
theorem Ff(u:Ds.Ok V d){V':Mem}{gs ns ls:Sl}{nd:List Nd}{s:St}(L:AL V V' gs ns ls nd s)(x:Am d s.mm):Mm.Ok V' ⟨gs,s.g,ns,nd⟩/\(⟨gs,s.g,ns,nd⟩:Mm).plain=(s.g,s.ns):=by
 have i:(⟨gs,s.g,ns,nd⟩:Mm).plain=(s.g,s.ns):=by
  unfold Mm.plain;rw[<-L.eq]
 obtain⟨p1,J,p3,r,q⟩:=BX x.mem;have z:∀{t:List Fld}{vs:List Int},AB d s.mm t vs=true->∀v∈vs,D7 v:=λ{t vs} h v hv=>by
  obtain⟨j,y⟩:=vV.1 hv;obtain⟨o,b⟩:=Dk.1 h;have a:=(yv.1 y).1;have:=b j _ v (yu (by omega)) y;grind[AR,D7]
 refine⟨⟨L.glob.rows (λ_=>rfl) (by decide),z r,L.nodes.rows (λ_=>rfl) (by decide),λn e=>?_⟩,i⟩;have k:(⟨n.ty,Ag,n.f⟩:Nd)∈s.mm.nodes:=by
  unfold St.mm;rw[<-L.eq];grind
 refine⟨(L.fld n e).rows (λ_=>rfl) (by decide),?_,z (q ⟨n.ty,Ag,n.f⟩ k)⟩;have:=of_decide_eq_true (p3 ⟨n.ty,Ag,n.f⟩ k);have o:d.types.length<=9223372036854775807:=by
  have:=u.types.n_eq;have:=u.types.cap;have:=u.types.fit;omega
 grind[D7]
theorem H8(G:Am d m)(k:By d m nm args=0):Am d (C7 d F (BR d nm) args (Bm m)).st.mm:=by
 obtain⟨i,q,g,f,h⟩:=cllE_zero k;rw[g];exact(play_snd (F:=F) (Kz G.valid G.chk) f (good_st G) (Ck (KJ (KI m).symm) h)).good
end
end Go.Proofs
namespace Go.Proofs
open Go Go.Sx
def Bb(w:World):Mem:=λb=>w.heap[b]?
theorem heapM_le(w:World):(Bb w).le w:=λ_ _ h=>h
theorem Jo{α β:Type}{f:α->Option β}:∀{l:List α}{r:List β},l.mapM f=some r->r.length=l.length/\∀(i:Nat)(a:α),l[i]?=some a->∃b,r[i]?=some b/\f a=some b
 |[],r,h=>by simp_all
 |x::l,r,h=>by
  simp only[List.mapM_cons,Option.bind_eq_bind,vj,Option.pure_def,zF]at h;obtain⟨b,g,t,k,rfl⟩:=h;obtain⟨u,z⟩:=Jo k;grind
theorem cells_row{w:World}{a:Addr}{n:Nat}{cs:List Value}(h:w.cells? 0 a n=some cs)(j:0<n):(Bb w).row a n=some cs:=by
 unfold World.cells? at h;rw[if_pos (vk _)]at h;obtain⟨r,q⟩:=Jo h;have g:∀i,i<n->∃v,cs[i]?=some v/\w.cell? (a.add i)=some v:=λi z=>q i i (by simp[z]);obtain⟨P,-,k⟩:=g 0 j;have J:a.add 0=a:=by rfl
 rw[J]at k;unfold World.cell? at k;split at k
 ·rename_i c t fr G;split at k;·cases k
  ·rename_i N;have f:a.spot.isNone=true:=by simp_all
   have x:a.spot=none:=by simp_all
   have y:∀i,i<n->∃v,cs[i]?=some v/\c[a.off+i]?=some v:=λi z=>by
    obtain⟨v,hv,Z⟩:=g i z;refine⟨v,hv,?_⟩;have e:a.add i=⟨a.block,a.off+i,none⟩:=by
     unfold Addr.add;by_cases Y:i=0
     ·subst Y;rw[if_pos rfl];cases a with
      |mk b o s=>simp_all
     grind
    grind[World.cell?]
   have u:a.off+n<=c.size:=by
    obtain⟨v,_,Z⟩:=y (n-1) (by omega);grind
   have Q:cs.length=n:=by rw[r];simp
   unfold Mem.row Bb;simp only[G];rw[if_pos ⟨f,u⟩];congr 1;apply List.ext_getElem?;grind
 ·cases k
section
variable{H:Type}{enc:TypeId×Value->H}{w:World}
noncomputable abbrev TR(enc:TypeId×Value->H)(w:World)(n:Nat)(t:TypeId)(cs:List Value):=vh enc xG w 0 (λ_=>true) true n t cs
theorem rd_str{n:Nat}{t:TypeId}{cs:List Value}{x:DataW H×List MemPlace}(k:xG.underlying t=some .string)(h:TR enc w n t cs=some x):∃s,cs=[.string s]:=by
 cases n with
 |zero=>cases h
 |succ n=>
  unfold TR vh at h;grind
theorem rd_int{n:Nat}{t:TypeId}{cs:List Value}{x:DataW H×List MemPlace}(k:xG.underlying t=some (.int .i64))(h:TR enc w n t cs=some x):∃v:Int,cs=[.int .i64 v]/\yr.min<=v/\v<=yr.max:=by
 cases n with
 |zero=>cases h
 |succ n=>
  unfold TR vh at h;grind[Lit.wf]
theorem rd_slice{α:Type}{row:α->List Value}{ok:α->Prop}{sz n:Nat}{t e:TypeId}{cs:List Value}{x:DataW H×List MemPlace}(q:xG.underlying t=some (.slice e))(Y:xG.cellsOf e=sz)(o:0<sz)(j:∀a,(row a).length=sz)
  (v:∀m,m<n->∀cs x,TR enc w m e cs=some x->∃a,row a=cs/\ok a) (h:TR enc w n t cs=some x):∃(s:Sl)(xs:List α),cs=[.slice s.p s.n s.c]/\Ad (Bb w) s sz (xs.map row)/\∀a∈xs,ok a:=by
 cases n with
 |zero=>cases h
 |succ n=>
  have key:∀(a:Addr)(len cap:Nat),TR enc w (n+1) t [.slice (some a) len cap]=some x->∃(xs:List α),Ad (Bb w) ⟨some a,len,cap⟩ sz (xs.map row)/\∀a∈xs,ok a:=by
   intro a len cap h;unfold TR vh at h;rw[q]at h;simp only at h;split at h;case isFalse=>cases h
   rename_i k;simp only[vj]at h;obtain⟨f,hm,-⟩:=h;obtain⟨Q,J⟩:=Jo hm;have u:∀i:Fin len,∃y:α,(Bb w).row (a.add (i*sz)) sz=some (row y)/\ok y:=by
    intro i;obtain⟨b,-,r⟩:=J i i (by simp);simp only[vj]at r;obtain⟨G,N,z⟩:=r;obtain⟨y,P,Z⟩:=v n (vg n) G _ z;grind[cells_row]
   refine⟨List.ofFn λi=>Classical.choose (u i),⟨by simp,k.2.1,by grind[maxLen],?_,?_⟩,?_⟩;·simp_all
   ·grind
   grind
  have g:cs=[.slice none 0 0]∨∃a len cap,cs=[.slice (some a) len cap]:=by
   unfold TR vh at h;grind
  rcases g with rfl|⟨a,len,cap,rfl⟩;·exact⟨⟨none,0,0⟩,[],rfl,Ad.nil,by simp⟩
  grind
theorem Eb{n:Nat}{t:TypeId}{fs:Array Field}{cs:List Value}{x:DataW H×List MemPlace}(z:xG.underlying t=some (.struct fs))(h:TR enc w n t cs=some x):
  cs.length=xG.cellsOf t/\∃m,m<n/\∀(i:Nat)(f:Field),fs.toList[i]?=some f->∃y,TR enc w m f.type ((cs.drop f.offset).take (xG.cellsOf f.type))=some y:=by
 cases n with
 |zero=>cases h
 |succ n=>
  have key:cs.length=xG.cellsOf t->(∃xs,(fs.toList.mapM λf=>vh enc xG w 0 (λ_=>true) true n f.type ((cs.drop f.offset).take (xG.cellsOf f.type)))=some xs)->
    cs.length=xG.cellsOf t/\∃m,m<n+1/\∀(i:Nat)(f:Field),fs.toList[i]?=some f->∃y,TR enc w m f.type ((cs.drop f.offset).take (xG.cellsOf f.type))=some y:=by
   rintro g ⟨xs,u⟩;refine⟨g,n,vg n,λi f j=>?_⟩;obtain⟨-,r⟩:=Jo u;grind
  unfold TR vh at h;rw[z]at h;split at h;all_goals first|(rename_i e;cases e;done)|(rename_i e _;cases e;done)|(rename_i e _ _;cases e;done)|(exact absurd rfl ((by assumption:∀k:Array Field,some (vf fs)=some (vf k)->False) fs))|skip
  rename_i e;cases e;split at h
  ·rename_i g;simp only[Option.map_eq_some_iff]at h;obtain⟨xs,u,-⟩:=h;simp_all
  simp_all
end
end Go.Proofs
namespace Go.Proofs
open Go Go.Sx
section
variable{H:Type}{enc:TypeId×Value->H}{w:World}
theorem at1{cs:List Value}{v:Value}{off m:Nat}{t:TypeId}(h:∃y,TR enc w m t ((cs.drop off).take (xG.cellsOf t))=some y)(k:xG.cellsOf t=1)(hv:cs[off]?=some v):∃y,TR enc w m t [v]=some y:=by
 grind[yv,List.drop_eq_getElem_cons]
theorem Dv:xG.cellsOf 9=1:=by kernel_rfl
theorem Hu:xG.cellsOf 3=1:=by kernel_rfl
theorem cl22:xG.cellsOf 22=1:=by kernel_rfl
theorem cl23:xG.cellsOf 23=1:=by kernel_rfl
theorem cl24:xG.cellsOf 24=1:=by kernel_rfl
theorem cl25:xG.cellsOf 25=1:=by kernel_rfl
theorem cl26:xG.cellsOf 26=1:=by kernel_rfl
theorem cl27:xG.cellsOf 27=1:=by kernel_rfl
theorem cl28:xG.cellsOf 28=1:=by kernel_rfl
theorem cl38:xG.cellsOf 95=1:=by kernel_rfl
theorem cl52:xG.cellsOf 72=1:=by kernel_rfl
theorem cl40:xG.cellsOf 97=4:=by kernel_rfl
theorem cl67:xG.cellsOf 110=2:=by kernel_rfl
theorem cl94:xG.cellsOf 112=2:=by kernel_rfl
theorem cl54:xG.cellsOf 74=5:=by kernel_rfl
theorem cl75:xG.cellsOf 114=5:=by kernel_rfl
theorem cl97:xG.cellsOf 116=7:=by kernel_rfl
theorem cl58:xG.cellsOf 99=6:=by kernel_rfl
theorem cl61:xG.cellsOf 180=5:=by kernel_rfl
theorem cl64:xG.cellsOf 183=5:=by kernel_rfl
theorem cl30:xG.cellsOf 30=8:=by kernel_rfl
theorem gS{m:Nat}{v:Value}(h:∃y,TR enc w m 9 [v]=some y):∃s,v=.string s:=by
 obtain⟨y,k⟩:=h;obtain⟨s,e⟩:=rd_str Tryz.underlying9 k;exact⟨s,by simpa using e⟩
theorem gI{m:Nat}{v:Value}(h:∃y,TR enc w m 3 [v]=some y):∃n:Int,v=.int .i64 n/\yr.min<=n/\n<=yr.max:=by
 obtain⟨y,k⟩:=h;obtain⟨s,e,g⟩:=rd_int wo k;exact⟨s,by simpa using e,g⟩
theorem DH{α:Type}{row:α->List Value}{ok:α->Prop}{sz m:Nat}{t e:TypeId}{v:Value}(f:xG.underlying t=some (.slice e))(u:xG.cellsOf e=sz)(g:0<sz)(k:∀a,(row a).length=sz)
  (z:∀m',m'<m->∀cs x,TR enc w m' e cs=some x->∃a,row a=cs/\ok a) (h:∃y,TR enc w m t [v]=some y):∃(s:Sl)(xs:List α),v=.slice s.p s.n s.c/\Ad (Bb w) s sz (xs.map row)/\∀a∈xs,ok a:=by
 obtain⟨y,j⟩:=h;obtain⟨s,xs,e,i,r⟩:=rd_slice f u g k z j;grind
theorem len2{cs:List Value}(h:cs.length=2):∃a b,cs=[a,b]:=by
 match cs,h with
 |[a,b],_=>simp_all
theorem len4{cs:List Value}(h:cs.length=4):∃a b c d,cs=[a,b,c,d]:=by
 match cs,h with
 |[a,b,c,d],_=>simp_all
theorem len5{cs:List Value}(h:cs.length=5):∃a b c d e,cs=[a,b,c,d,e]:=by
 match cs,h with
 |[a,b,c,d,e],_=>simp_all
theorem len6{cs:List Value}(h:cs.length=6):∃a b c d e f,cs=[a,b,c,d,e,f]:=by
 match cs,h with
 |[a,b,c,d,e,f],_=>simp_all
theorem len7{cs:List Value}(h:cs.length=7):∃a b c d e f g,cs=[a,b,c,d,e,f,g]:=by
 match cs,h with
 |[a,b,c,d,e,f,g],_=>simp_all
theorem len8{cs:List Value}(h:cs.length=8):∃a b c d e f g i,cs=[a,b,c,d,e,f,g,i]:=by
 match cs,h with
 |[a,b,c,d,e,f,g,i],_=>simp_all
theorem rdFld{n:Nat}{cs:List Value}{x:DataW H×List MemPlace}(h:TR enc w n 110 cs=some x):∃f:Fld,Fld.row f=cs/\True:=by
 obtain⟨g,m,-,k⟩:=Eb Tryz.underlying110 h;obtain⟨a,b,rfl⟩:=len2 (g.trans cl67);obtain⟨t,rfl⟩:=gS (at1 (k 0 _ rfl) Dv rfl);obtain⟨u,rfl⟩:=gS (at1 (k 1 _ rfl) Dv rfl);exact⟨⟨t,u⟩,rfl,trivial⟩
theorem H9:∀(n:Nat)(cs:List Value)(x:DataW H×List MemPlace),TR enc w n 97 cs=some x->∃e:E,E.row e=cs/\E.Ok (Bb w) e:=by
 intro n;induction n using yS with
 |_ n f=>
 intro cs x h;obtain⟨t,m,hm,g⟩:=Eb Tryz.underlying97 h;obtain⟨a,b,c,d,rfl⟩:=len4 (t.trans cl40);obtain⟨op,rfl,u⟩:=gI (at1 (g 0 _ rfl) Hu rfl);obtain⟨nn,rfl,z⟩:=gI (at1 (g 1 _ rfl) Hu rfl);obtain⟨s,rfl⟩:=gS (at1 (g 2 _ rfl) Dv rfl);obtain⟨l,k,rfl,y,j⟩:=DH (row:=E.row) (ok:=E.Ok (Bb w)) ve cl40 (by decide) (λ_=>rfl) (λm' i=>f m' (by omega)) (at1 (g 3 _ rfl) cl38 rfl);exact⟨.mk op nn s l k,rfl,.mk y j u z⟩
theorem S.row_len:∀s:S,(S.row s).length=5:=λs=>by cases s;rfl
theorem Pu:∀(n:Nat)(cs:List Value)(x:DataW H×List MemPlace),TR enc w n 114 cs=some x->∃e:S,S.row e=cs/\S.Ok (Bb w) e:=by
 intro n;induction n using yS with
 |_ n i=>
 intro cs x h;obtain⟨r,m,hm,k⟩:=Eb Tryz.underlying114 h;obtain⟨a,b,c,d,e,rfl⟩:=len5 (r.trans cl75);obtain⟨op,rfl,q⟩:=gI (at1 (k 0 _ rfl) Hu rfl);obtain⟨s,rfl⟩:=gS (at1 (k 1 _ rfl) Dv rfl);obtain⟨el,es,rfl,g,f⟩:=DH (row:=E.row) (ok:=E.Ok (Bb w)) ve cl40 (by decide) (λ_=>rfl) (λm' _=>H9 m') (at1 (k 2 _ rfl) cl38 rfl);obtain⟨ll,ls,rfl,t,u⟩:=DH (row:=S.row) (ok:=S.Ok (Bb w)) vd cl75 (by decide) S.row_len (λm' z=>i m' (by omega)) (at1 (k 3 _ rfl) cl52 rfl);obtain⟨xl,xs,rfl,y,j⟩:=DH (row:=S.row) (ok:=S.Ok (Bb w)) vd cl75 (by decide) S.row_len (λm' z=>i m' (by omega)) (at1 (k 4 _ rfl) cl52 rfl);exact⟨.mk op s el es ll ls xl xs,rfl,.mk g f t u y j q⟩
theorem gF{m:Nat}{v:Value}(h:∃y,TR enc w m 23 [v]=some y):∃(s:Sl)(xs:List Fld),v=.slice s.p s.n s.c/\Ad (Bb w) s 2 (xs.map Fld.row):=by
 obtain⟨s,xs,k,g,-⟩:=DH (row:=Fld.row) (ok:=λ_=>True) Tryz.underlying23 cl67 (by decide) (λ_=>rfl) (λ_ _ _ _=>rdFld) h;grind
theorem rdTy{n:Nat}{cs:List Value}{x:DataW H×List MemPlace}(h:TR enc w n 112 cs=some x):∃f:Ty,Ty.row f=cs/\Ty.Ok (Bb w) f:=by
 obtain⟨t,m,-,g⟩:=Eb Tryz.underlying112 h;obtain⟨a,b,rfl⟩:=len2 (t.trans cl94);obtain⟨u,rfl⟩:=gS (at1 (g 0 _ rfl) Dv rfl);obtain⟨l,k,rfl,z⟩:=gF (at1 (g 1 _ rfl) cl23 rfl);exact⟨⟨u,l,k⟩,rfl,⟨z⟩⟩
theorem rdPr{n:Nat}{cs:List Value}{x:DataW H×List MemPlace}(h:TR enc w n 74 cs=some x):∃f:Pr,Pr.row f=cs/\Pr.Ok (Bb w) f:=by
 obtain⟨y,m,-,k⟩:=Eb Tryz.underlying74 h;obtain⟨a,b,c,d,e,rfl⟩:=len5 (y.trans cl54);obtain⟨j,rfl⟩:=gS (at1 (k 0 _ rfl) Dv rfl);obtain⟨i,r,rfl,g⟩:=gF (at1 (k 1 _ rfl) cl23 rfl);obtain⟨q,rfl⟩:=gS (at1 (k 2 _ rfl) Dv rfl);obtain⟨o,v,rfl,t⟩:=gF (at1 (k 3 _ rfl) cl23 rfl);obtain⟨J,G,rfl,u,z⟩:=DH (row:=S.row) (ok:=S.Ok (Bb w)) vd cl75 (by decide) S.row_len (λm' _=>Pu m') (at1 (k 4 _ rfl) cl52 rfl);exact⟨⟨j,i,r,q,o,v,J,G⟩,rfl,⟨g,t,u,z⟩⟩
theorem rdMs{n:Nat}{cs:List Value}{x:DataW H×List MemPlace}(h:TR enc w n 116 cs=some x):∃f:Ms,Ms.row f=cs/\Ms.Ok (Bb w) f:=by
 obtain⟨r,m,-,k⟩:=Eb Tryz.underlying116 h;obtain⟨a,b,c,d,e,f,g,rfl⟩:=len7 (r.trans cl97);obtain⟨z,rfl⟩:=gS (at1 (k 0 _ rfl) Dv rfl);obtain⟨j,rfl⟩:=gS (at1 (k 1 _ rfl) Dv rfl);obtain⟨nn,rfl,q⟩:=gI (at1 (k 2 _ rfl) Hu rfl);obtain⟨y,t⟩:=k 3 _ rfl;change TR enc w m 97 (([yo z,.string j,.int .i64 nn,d,e,f,g].drop 3).take (xG.cellsOf 97))=some y at t;rw[cl40]at t;obtain⟨x,i,u⟩:=H9 m _ _ t;simp only[vc,vb,uC,uE,E.row,yE,and_true]at i;obtain⟨rfl,rfl,rfl,rfl⟩:=i;exact⟨⟨z,j,nn,x⟩,rfl,⟨u,q⟩⟩
theorem rdIv{n:Nat}{cs:List Value}{x:DataW H×List MemPlace}(h:TR enc w n 99 cs=some x):∃f:Iv,Iv.row f=cs/\E.Ok (Bb w) f.x:=by
 obtain⟨r,m,-,k⟩:=Eb Tryz.underlying99 h;obtain⟨a,b,d,e,f,g,rfl⟩:=len6 (r.trans cl58);obtain⟨z,rfl⟩:=gS (at1 (k 0 _ rfl) Dv rfl);obtain⟨j,rfl⟩:=gS (at1 (k 1 _ rfl) Dv rfl);obtain⟨y,t⟩:=k 2 _ rfl;change TR enc w m 97 (([yo z,.string j,d,e,f,g].drop 2).take (xG.cellsOf 97))=some y at t;rw[cl40]at t;obtain⟨x,i,u⟩:=H9 m _ _ t;simp only[vc,vb,uC,uE,E.row,yE,and_true]at i;obtain⟨rfl,rfl,rfl,rfl⟩:=i;exact⟨⟨z,j,x⟩,rfl,u⟩
theorem rdPo{n:Nat}{cs:List Value}{x:DataW H×List MemPlace}(h:TR enc w n 180 cs=some x):∃f:Po,Po.row f=cs/\E.Ok (Bb w) f.x:=by
 obtain⟨i,m,-,u⟩:=Eb Tryz.underlying180 h;obtain⟨a,d,e,f,g,rfl⟩:=len5 (i.trans cl61);obtain⟨z,rfl⟩:=gS (at1 (u 0 _ rfl) Dv rfl);obtain⟨y,k⟩:=u 1 _ rfl;change TR enc w m 97 (([yo z,d,e,f,g].drop 1).take (xG.cellsOf 97))=some y at k;rw[cl40]at k;obtain⟨x,j,t⟩:=H9 m _ _ k;simp only[vc,vb,uC,uE,E.row,yE,and_true]at j;obtain⟨rfl,rfl,rfl,rfl⟩:=j;exact⟨⟨z,x⟩,rfl,t⟩
theorem rdBd{n:Nat}{cs:List Value}{x:DataW H×List MemPlace}(h:TR enc w n 183 cs=some x):∃f:Bd,Bd.row f=cs/\E.Ok (Bb w) f.x:=by
 obtain⟨i,m,-,u⟩:=Eb Tryz.underlying183 h;obtain⟨a,d,e,f,g,rfl⟩:=len5 (i.trans cl64);obtain⟨z,rfl⟩:=gS (at1 (u 0 _ rfl) Dv rfl);obtain⟨y,k⟩:=u 1 _ rfl;change TR enc w m 97 (([yo z,d,e,f,g].drop 1).take (xG.cellsOf 97))=some y at k;rw[cl40]at k;obtain⟨x,j,t⟩:=H9 m _ _ k;simp only[vc,vb,uC,uE,E.row,yE,and_true]at j;obtain⟨rfl,rfl,rfl,rfl⟩:=j;exact⟨⟨z,x⟩,rfl,t⟩
theorem rdDs{n:Nat}{cs:List Value}{x:DataW H×List MemPlace}(h:TR enc w n 30 cs=some x):∃d:Ds,d.row=cs/\Ds.Ok (Bb w) d:=by
 obtain⟨t,m,-,k⟩:=Eb Tryz.underlying30 h;obtain⟨a,b,c,d,e,f,g,i,rfl⟩:=len8 (t.trans cl30);obtain⟨u,rfl⟩:=gS (at1 (k 0 _ rfl) Dv rfl);obtain⟨z,y,rfl,j,r⟩:=DH (row:=Ty.row) (ok:=Ty.Ok (Bb w)) Tryz.underlying22 cl94 (by decide) (λ_=>rfl) (λ_ _ _ _=>rdTy) (at1 (k 1 _ rfl) cl22 rfl);obtain⟨q,o,rfl,v⟩:=gF (at1 (k 2 _ rfl) cl23 rfl);obtain⟨J,G,rfl,N,Z⟩:=DH (row:=Pr.row) (ok:=Pr.Ok (Bb w)) Tryz.underlying24 cl54 (by decide) (λ_=>rfl) (λ_ _ _ _=>rdPr) (at1 (k 3 _ rfl) cl24 rfl);obtain⟨Y,Q,rfl,P,O⟩:=DH (row:=Ms.row) (ok:=Ms.Ok (Bb w)) Tryz.underlying25 cl97 (by decide) (λ_=>rfl) (λ_ _ _ _=>rdMs) (at1 (k 4 _ rfl) cl25 rfl);obtain⟨A,I,rfl,M,L⟩:=DH (row:=Iv.row) (ok:=λf=>E.Ok (Bb w) f.x) Tryz.underlying26 cl58 (by decide) (λ_=>rfl) (λ_ _ _ _=>rdIv) (at1 (k 5 _ rfl) cl26 rfl);obtain⟨X,B,rfl,h6,C⟩:=DH (row:=Po.row) (ok:=λf=>E.Ok (Bb w) f.x) Tryz.underlying27 cl61 (by decide) (λ_=>rfl) (λ_ _ _ _=>rdPo) (at1 (k 6 _ rfl) cl27 rfl);obtain⟨D,K,rfl,h7,S⟩:=DH (row:=Bd.row) (ok:=λf=>E.Ok (Bb w) f.x) Tryz.underlying28 cl64 (by decide) (λ_=>rfl) (λ_ _ _ _=>rdBd) (at1 (k 7 _ rfl) cl28 rfl);exact⟨⟨u,z,y,q,o,J,G,Y,Q,A,I,X,B,D,K⟩,rfl,⟨j,r,v,N,Z,P,O,M,L,h6,C,h7,S⟩⟩
end
end Go.Proofs
namespace Go.Proofs.YtcebnmieadkjfaaGreatDoor
open Go Go.Sx Go.Proofs Go.ChangeShapes Go.WideShapes Go.ChangeAt Go.RowKit
theorem same_old{P:Program}{f:FuncId}{args:List Value}{W:World}{v:Value}(h:A1 P f args (Bb W) v):Calls P f args.toArray W λe k=>e=.returned v/\k.os=W.os/\k.output=W.output/\W.heap.size<=k.heap.size/\∀b,b<W.heap.size->k.heap[b]?=W.heap[b]?:=by
 have t:Tri P f args.toArray (Bb W) λe V'=>e=.returned v/\V'=Bb W:=h;unfold Tri at t;refine Gn (t W (heapM_le W)) ?_;rintro e k ⟨V',⟨rfl,rfl⟩,g⟩;refine⟨rfl,g.os,g.out,g.size,λb u=>?_⟩;have:Bb W b=some W.heap[b]:=Array.getElem?_eq_getElem u;rw[g.le b _ this];exact this.symm
theorem Tryz.own:ownKnob xG.godebug=none:=by kernel_rfl
theorem Tryz.laidOut:laidOutB xG=true:=by kernel_rfl
theorem tab_of{W:World}(h:xP xG W "strings.asciiSpace" .u8 xQ):Tab (Bb W):=by
 have k:xG.globalNamed "strings.asciiSpace" =some 0:=by kernel_rfl
 unfold xP World.var? at h;rw[k,Option.bind_some]at h;split at h
 ·rename_i cs t fr g;simp only[zF]at h;exact⟨t,fr,by rw[<-h];exact g⟩
 ·cases h
theorem desc_of{H:Type}{enc:TypeId×Value->H}{W:World}{v:Value}{f:DataW H}{p:List MemPlace}(h:uF enc xG W 0 (λ_=>true) true 30 v f p):∃d:Ds,v=d.v/\Ds.Ok (Bb W) d:=by
 obtain⟨fuel,h⟩:=h;obtain⟨d,g,k⟩:=rdDs h;refine⟨d,?_,k⟩;have t:v.cells.toList.length=8:=by rw[<-g];rfl
 cases v with
 |agg cs=>
  have:cs.toList=d.row:=g.symm;show uG cs=.agg d.row.toArray;rw[<-this]
 |_=>simp[uH]at t
noncomputable def laidWorld(os:Os):World:=
 let w0:=World.holding xG os ⟨#[.cells #[.int .u16 9,.int .u16 13,.int .u16 1,.int .u16 32,.int .u16 133,.int .u16 101,.int .u16 160,.int .u16 5760,.int .u16 5600,.int .u16 8192,.int .u16 8202,.int .u16 1,.int .u16 8232,.int .u16 8233,.int .u16 1,.int .u16 8239,.int .u16 8287,.int .u16 48,.int .u16 12288,.int .u16 12288,.int .u16 1] 370,
  .cells #[.slice (some ⟨(uJ xG os).heap.size,0,none⟩) 7 7,.slice none 0 0,.int .i64 2] 367],#[],[]⟩
 {w0 with heap:=(w0.heap.modify 0 fun
   |.cells _ t frozen=>.cells (xQ.map λz=>vF .u8 z).toArray t frozen
   |o=>o).modify 1 fun
   |.cells _ t frozen=>.cells #[.pointer (some ⟨(uJ xG os).heap.size+1,0,none⟩)] t frozen
   |o=>o}
theorem Pv(os:Os)(args:Array Value):laidMet xG [("unicode.White_Space",Rows.laid_unicode_White_Space),("strings.asciiSpace",Rows.laid_strings_asciiSpace)] ((laidWorld os).forCall (λ_ _=>0) ⟨#[],args,[]⟩).memory:=
 (LaidIn.of_run [0,1,(uJ xG os).heap.size,(uJ xG os).heap.size+1] 12 (by kernel_rfl) (by kernel_rfl) (by kernel_rfl) (by kernel_rfl)).met
end Go.Proofs.YtcebnmieadkjfaaGreatDoor
namespace Go.Proofs.YtcebnmieadkjfaaGreatDoor
open Go Go.Sx Go.Proofs Go.ChangeShapes Go.WideShapes Go.ChangeAt Go.RowKit
abbrev laid0:List (String×DataW Unit):=[("unicode.White_Space",Rows.laid_unicode_White_Space),("strings.asciiSpace",Rows.laid_strings_asciiSpace)]
theorem MJ{w:World}:laidMetH xG laid0 w↔laidMet xG laid0 w:=by
 rfl
theorem tab_laid{W:World}(h:laidMet xG laid0 W):Tab (Bb W):=by
 obtain⟨ps,v,Y,Q⟩:=h;obtain⟨g,t,cs,fuel,p,q,P,O,b,A,k,J⟩:=v;obtain⟨G,N,Z,x,I,M,j,i,f,u,y,a⟩:=k;refine tab_of ?_;unfold xP;rw[f];have r:G=0:=uK (j.symm.trans (show xG.globalNamed "strings.asciiSpace" =some 0 by kernel_rfl));subst r;have o:N=333:=uK (i.symm.trans (show(xG.globals[0]?).map (·.type)=some 333 by kernel_rfl));subst o;have z:(Rows.laid_strings_asciiSpace:DataW Unit)=Lib.tabData .u8 xQ:=by kernel_rfl
 rw[z]at u;rw[<-Lib.cells_of_tab (n:=256) (e:=5) Tryz.underlying333 Tryz.underlying5 (by kernel_rfl) (by kernel_rfl) u]
theorem kept{W h:World}(g:h.os=W.os)(f:h.output=W.output)(hold:∀b,b<W.heap.size->h.heap[b]?=W.heap[b]?)(k:MemPlace->Prop):W.keptBut h k:=by
 refine⟨g,f,λi t=>?_⟩;grind
theorem again_arg{H:Type}{enc:TypeId×Value->H}{t:TypeId}(z:xG.readableRec t=true)(k:t<xG.types.size){W f:World}{v:Value}{d:DataW H}{ps:List MemPlace}(h:uF enc xG W 0 (λ_=>true) true t v d ps)
  (hold:∀b,b<W.heap.size->f.heap[b]?=W.heap[b]?) (g:∀x∈ps,x.block<W.heap.size):uF enc xG f 0 (λb=>decide (b<W.heap.size)) true t v d ps:=
 WideElems.Trod_stays Tryz.laidOut z k h (λx u=>by
  have:=g x u;cases x with
  |cell b o=>exact World.cell?_of_block (w:=W) (hold b this)
  |map b=>exact hold b this) (λx u=>by simp_all)
theorem Pw{C:Checked}{os:Os}{f:FuncId}{fn:Func}{s:ChangeSpec}{k:List PathCond}{apart:Bool}{X:World->Array Value->Prop}{H:Type}{enc:TypeId×Value->H}(w0:World)(args:Array Value)(fuel:Nat)(u:w0.os=os)
  (hv:(w0.forCall (λ_ _=>0) ⟨#[],args,[]⟩).variablesRefB C.prog=true)
  (y:((w0.forCall (λ_ _=>0) ⟨#[],args,[]⟩).heap.toList.drop C.prog.globals.size).take ((begin C.prog (λ_ _=>0) default).world.heap.size-C.prog.globals.size)=
   (begin C.prog (λ_ _=>0) default).world.heap.toList.drop C.prog.globals.size)
  (g:Input.okWideB C.prog (w0.forCall (λ_ _=>0) ⟨#[],args,[]⟩) f ⟨#[],args,[]⟩=true)
  (t:s.preB enc C.prog fn k apart (w0.forCall (λ_ _=>0) ⟨#[],args,[]⟩).memory args fuel=true)
  (z:s.sizedB enc C.prog fn apart (w0.forCall (λ_ _=>0) ⟨#[],args,[]⟩).memory args fuel=true)
  (x:X (w0.forCall (λ_ _=>0) ⟨#[],args,[]⟩).memory args):
  ∃(w:World)(h:Tape)(i:Input),w.os=os/\(w.forCall h i).Shaped C.prog/\i.vars=[]/\Input.okWide C.prog (w.forCall h i) .any w.heap.size f i/\
   ((s.pre enc C.prog fn k apart (w.forCall h i).memory i.args/\X (w.forCall h i).memory i.args)/\sizedMet enc C.prog fn (OpenSpec.ofChange s) apart (w.forCall h i).memory i.args)/\({}:Assume).holds C.prog (lone (Frame.enter C.prog f i.args .normal) [] (w.forCall h i)):=
 ⟨w0,λ_ _=>0,⟨#[],args,[]⟩,u,World.shaped_of_RefB hv y,(uN (base:=0) g).1,(uN g).2,⟨⟨ChangeSpec.pre_of_preB t,x⟩,sizedMet_of_sizedB z⟩,by
  grind[Assume.holds]⟩
theorem again_all{H:Type}{enc:TypeId×Value->H}{W z:World}(hold:∀b,b<W.heap.size->z.heap[b]?=W.heap[b]?):∀{ts:List TypeId}{vs:List Value}{ds:List (DataW H)}{ps:List MemPlace},(∀t∈ts,xG.readableRec t=true/\t<xG.types.size)->
  uO enc xG W 0 (λ_=>true) true ts vs ds ps->(∀x∈ps,x.block<W.heap.size)->uO enc xG z 0 (λb=>decide (b<W.heap.size)) true ts vs ds ps
 |[],_,_,_,_,h,_=>by
  obtain⟨rfl,rfl,rfl⟩:=trodAll_nil h;rfl
 |t::ts,_,_,_,g,h,k=>by
  obtain⟨v,vs,d,ds,p,q,rfl,rfl,rfl,y,j⟩:=trodAll_cons h;exact⟨p,q,again_arg (g t (by simp)).1 (g t (by simp)).2 y hold (λx f=>k x (List.mem_append_left _ f)),again_all hold (λu hu=>g u (by simp[hu])) j (λx f=>k x (List.mem_append_right _ f)),rfl⟩
theorem trodAll_five{H:Type}{enc:TypeId×Value->H}{w:World}{a b c d e:TypeId}{args:Array Value}{ds:List (DataW H)}{ps:List MemPlace}(h:uO enc xG w 0 (λ_=>true) true [a,b,c,d,e] args.toList ds ps):
  ∃g f t u z y x j i n p0 p1 r p3 o,args=#[g,f,t,u,z]/\ds=[y,x,j,i,n]/\ps=p0++(p1++(r++(p3++o)))/\uF enc xG w 0 (λ_=>true) true a g y p0/\uF enc xG w 0 (λ_=>true) true b f x p1/\uF enc xG w 0 (λ_=>true) true c t j r/\
   uF enc xG w 0 (λ_=>true) true d u i p3/\uF enc xG w 0 (λ_=>true) true e z n o:=by
 obtain⟨g,vs,y,J,p,q,v,rfl,rfl,G,k⟩:=trodAll_cons h;obtain⟨f,N,x,Z,p1,C,rfl,rfl,rfl,Y,k⟩:=trodAll_cons k;obtain⟨t,Q,j,P,r,D,rfl,rfl,rfl,O,k⟩:=trodAll_cons k;obtain⟨u,A,i,I,p3,E,rfl,rfl,rfl,M,k⟩:=trodAll_cons k;obtain⟨z,L,n,X,o,K,rfl,rfl,rfl,B,k⟩:=trodAll_cons k;obtain⟨rfl,rfl,rfl⟩:=trodAll_nil k;exact⟨g,f,t,u,z,y,x,j,i,n,p,p1,r,p3,o,by grind,rfl,by simp,G,Y,O,M,B⟩
end Go.Proofs.YtcebnmieadkjfaaGreatDoor
namespace Go.Proofs.YtcebnmieadkjfaaGreatDoor
open Go Go.Sx Go.Proofs Go.ChangeShapes Go.WideShapes Go.ChangeAt Go.RowKit
section
variable{H:Type}{enc:TypeId×Value->H}{w:World}
theorem cl31:xG.cellsOf 31=1:=by kernel_rfl
theorem clNd:xG.cellsOf 130=2:=by kernel_rfl
theorem clNds:xG.cellsOf 32=1:=by kernel_rfl
theorem clMm:xG.cellsOf 34=2:=by kernel_rfl
theorem gInts{m:Nat}{v:Value}(h:∃y,TR enc w m 31 [v]=some y):∃(s:Sl)(xs:List Int),v=.slice s.p s.n s.c/\Ad (Bb w) s 1 (xs.map AE)/\∀x∈xs,D7 x:=
 DH (row:=AE) (ok:=D7) Tryz.underlying31 Hu (by decide) (λ_=>rfl) (λm' _ cs x k=>by
  obtain⟨n,rfl,g⟩:=rd_int wo k;exact⟨n,rfl,g⟩) h
theorem rdNd{n:Nat}{cs:List Value}{x:DataW H×List MemPlace}(h:TR enc w n 130 cs=some x):∃f:Nd,Nd.row f=cs/\Nd.Ok (Bb w) f:=by
 obtain⟨u,m,-,g⟩:=Eb Tryz.underlying130 h;obtain⟨a,b,rfl⟩:=len2 (u.trans clNd);obtain⟨t,rfl,z⟩:=gI (at1 (g 0 _ rfl) Hu rfl);obtain⟨l,k,rfl,y,j⟩:=gInts (at1 (g 1 _ rfl) cl31 rfl);exact⟨⟨t,l,k⟩,rfl,⟨y,z,j⟩⟩
theorem rdMm{n:Nat}{cs:List Value}{x:DataW H×List MemPlace}(h:TR enc w n 34 cs=some x):∃m:Mm,m.row=cs/\Mm.Ok (Bb w) m:=by
 obtain⟨g,m,-,k⟩:=Eb Tryz.underlying34 h;obtain⟨a,b,rfl⟩:=len2 (g.trans clMm);obtain⟨f,t,rfl,u,z⟩:=gInts (at1 (k 0 _ rfl) cl31 rfl);obtain⟨y,j,rfl,i,r⟩:=DH (row:=Nd.row) (ok:=Nd.Ok (Bb w)) Tryz.underlying32 clNd (by decide) (λ_=>rfl) (λ_ _ _ _=>rdNd) (at1 (k 1 _ rfl) clNds rfl);exact⟨⟨f,t,y,j⟩,rfl,⟨u,z,i,r⟩⟩
theorem clCl:xG.cellsOf 36=2:=by kernel_rfl
theorem rdCl{n:Nat}{cs:List Value}{x:DataW H×List MemPlace}(h:TR enc w n 36 cs=some x):∃(nm:KB)(l:Sl)(xs:List Int),[yo nm,l.v]=cs/\Ad (Bb w) l 1 (xs.map AE):=by
 obtain⟨f,m,-,g⟩:=Eb Tryz.underlying36 h;obtain⟨a,b,rfl⟩:=len2 (f.trans clCl);obtain⟨t,rfl⟩:=gS (at1 (g 0 _ rfl) Dv rfl);obtain⟨l,k,rfl,u,-⟩:=gInts (at1 (g 1 _ rfl) cl31 rfl);exact⟨t,l,k,rfl,u⟩
end
theorem mem_of{H:Type}{enc:TypeId×Value->H}{W:World}{v:Value}{g:DataW H}{p:List MemPlace}(h:uF enc xG W 0 (λ_=>true) true 34 v g p):∃m:Mm,v=m.v/\Mm.Ok (Bb W) m:=by
 obtain⟨fuel,h⟩:=h;obtain⟨m,hm,k⟩:=rdMm h;refine⟨m,?_,k⟩;have f:v.cells.toList.length=2:=by rw[<-hm];rfl
 cases v with
 |agg cs=>
  have:cs.toList=m.row:=hm.symm;show uG cs=.agg m.row.toArray;rw[<-this]
 |_=>simp[uH]at f
theorem call_of{H:Type}{enc:TypeId×Value->H}{W:World}{v:Value}{g:DataW H}{p:List MemPlace}(h:uF enc xG W 0 (λ_=>true) true 36 v g p):∃(nm:KB)(l:Sl)(xs:List Int),v=.agg #[.string nm,l.v]/\Ad (Bb W) l 1 (xs.map AE):=by
 obtain⟨fuel,h⟩:=h;obtain⟨nm,l,xs,hm,k⟩:=rdCl h;refine⟨nm,l,xs,?_,k⟩;have f:v.cells.toList.length=2:=by rw[<-hm];rfl
 cases v with
 |agg cs=>
  have:cs.toList=[yo nm,l.v]:=hm.symm;show uG cs=.agg ([yo nm,l.v]:List Value).toArray;rw[<-this]
 |_=>simp[uH]at f
end Go.Proofs.YtcebnmieadkjfaaGreatDoor
namespace Go.Proofs
open Go Go.Sx
section
variable(d:Ds)(s:Sl)(l:List Iv)(m:Mm)
def Bz:Ds:={d with is:=s,invs:=l}
theorem evE_with(F:Int->Int->Rs)(x:Int)(e:E):AD (Bz d s l) m F x e=AD d m F x e:=by
 induction e using E.ind with
 |h e k=>rw[evE_eq,evE_eq,List.map_congr_left k];rfl
theorem evM_with:∀n k x,Ay (Bz d s l) m n k x=Ay d m n k x
 |0,k,x=>by unfold Ay;rfl
 |n+1,k,x=>by
  have h:Ay (Bz d s l) m n=Ay d m n:=funext λk=>funext λx=>evM_with n k x;unfold Ay;rw[h,show(Bz d s l).measures=d.measures from rfl,show nilM (Bz d s l) k=nilM d k from rfl];simp only[evE_with]
theorem bodiesT_with:D5 (Bz d s l)=D5 d:=by kernel_rfl
theorem exp1_with:exp1 (Bz d s l)=exp1 d:=by kernel_rfl
theorem exp3_with:exp3 (Bz d s l)=exp3 d:=by kernel_rfl
theorem exp4_with:exp4 (Bz d s l)=exp4 d:=by kernel_rfl
theorem wantT_with(sc:Sc)(e:E)(t:KB):A2 (Bz d s l) sc e t=A2 d sc e t:=by kernel_rfl
end
theorem GF{α β:Type}{f:Nat->α->Option β}:∀{l:List α}{i:Nat},Ak f i l=none↔∀j x,l[j]?=some x->f (i+j) x=none
 |[],i=>by simp[Ak]
 |x::xs,i=>by
  constructor
  ·intro h j y k;unfold Ak at h;cases g:f i x with
   |some b=>rw[g]at h;cases h
   |none=>
    rw[g]at h;cases j with
    |zero=>cases k;exact g
    |succ j=>have:=GF.1 h j y k;rwa [show i+(j+1)=i+1+j by omega]
  ·intro h;unfold Ak;rw[show f i x=none from h 0 x rfl];exact GF.2 λj y k=>by have:=h (j+1) y k;rwa [show i+1+j=i+(j+1)by omega]
theorem orN_iff{α:Type}{a b:Option α}:a.or b=none↔a=none/\b=none:=by cases a<;>simp
theorem nodup_sub{α:Type}[DecidableEq α]:∀{l k:List α},l.Nodup->(∀x∈l,x∈k)->l.length<=k.length
 |[],k,_,_=>vk _
 |x::l,k,h,g=>by
  have f:=g x zb;rw[List.nodup_cons]at h;have:=nodup_sub (l:=l) (k:=k.erase x) h.2 λy t=>(List.mem_erase_of_ne λe=>h.1 (by rw[<-e];exact t)).2 (g y (za _ t));rw[List.length_erase_of_mem f]at this;have u:=List.length_pos_of_mem f;rw[List.length_cons];omega
section
variable{d:Ds}{s:Sl}{l:List Iv}{m:Mm}
theorem names_inj(h:BJ d=none){i j:Nat}{v w:Iv}(hi:d.invs[i]?=some v)(k:d.invs[j]?=some w)(g:v.name=w.name):i=j:=by
 unfold BJ C3 at h;simp only[orN_iff]at h;have f:=GF.1 h.2.2.1.2.1;have key:∀{i j:Nat}{v w:Iv},d.invs[i]?=some v->d.invs[j]?=some w->v.name=w.name->i<j->False:=λ{i j v w} hi k g t=>by
  have:=f j w k;rw[Nat.zero_add,if_pos (xZ.2 ⟨v,xM (i:=i) (by rw[uQ,if_pos t];exact hi),decide_eq_true g⟩)]at this;cases this
 rcases Nat.lt_trichotomy i j with h|h|h;·exact(key hi k g h).elim
 ·exact h
 ·exact(key k hi g.symm h).elim
theorem chk_with(h:BJ d=none)(hm:∀v∈l,v∈d.invs)(a:(l.map (·.name)).Nodup):BJ (Bz d s l)=none:=by
 unfold BJ C3 D6 at h⊢;simp only[orN_iff]at h⊢;obtain⟨e,J,⟨G,f2,f3,N⟩,Z,z,y,Y,Q⟩:=h;refine⟨e,J,⟨G,?_,f3,N⟩,?_,?_,?_,?_,?_⟩
 ·refine GF.2 λj v hv=>?_;have f:l[j]?=some v:=hv;obtain⟨i,r⟩:=vV.1 (hm v (xM f));have t:=GF.1 f2 i v r;have q:¬(l.take j).any (λg=>decide (g.name=v.name))=true:=λx=>by
   obtain⟨w,hw,o⟩:=xZ.1 x;obtain⟨k,n⟩:=vV.1 hw;rw[uQ]at n;by_cases u:k<j
   ·rw[if_pos u]at n;have z:(l.map (·.name))[k]?=some w.name:=by rw[y5,n];rfl
    have y:(l.map (·.name))[j]?=some v.name:=by rw[y5,f];rfl
    have o:=of_decide_eq_true o;obtain⟨P,z⟩:=yv.1 z;obtain⟨O,y⟩:=yv.1 y;have:=(List.nodup_iff_pairwise_ne.1 a);have:=List.pairwise_iff_getElem.1 this k j P O u;exact this (by rw[z,y];exact o)
   ·rw[if_neg u]at n;cases n
  rw[Nat.zero_add]at t⊢;rw[show(Bz d s l).invs=l from rfl,if_neg q];by_cases b:(d.invs.take i).any (λg=>decide (g.name=v.name))=true;·rw[if_pos b]at t;cases t
  ·rw[if_neg b]at t;exact t
 ·rw[bodiesT_with];exact Z
 ·rw[exp1_with];exact z
 ·refine GF.2 λj v hv=>?_;have f:l[j]?=some v:=hv;obtain⟨i,r⟩:=vV.1 (hm v (xM f));have t:=GF.1 y i v r;rw[wantT_with];exact t
 ·rw[exp3_with];exact Y
 ·rw[exp4_with];exact Q
theorem valid_with(h:A7 d=true)(hm:∀v∈l,v∈d.invs)(g:(l.map (·.name)).Nodup):A7 (Bz d s l)=true:=by
 have j:l.length<=d.invs.length:=by
  have:=nodup_sub g (k:=d.invs.map (·.name)) λx f=>by
   obtain⟨v,hv,rfl⟩:=List.mem_map.1 f;exact List.mem_map.2 ⟨v,hm v hv,rfl⟩
  rwa [vX,vX]at this
 unfold A7 lensB E5 at h⊢;simp only[Bool.and_eq_true,decide_eq_true_eq,List.all_eq_true]at h⊢;obtain⟨⟨⟨⟨⟨⟨⟨a1,a2⟩,a3⟩,t⟩,b1,b2,b3,b4⟩,u⟩,z⟩,⟨⟨y,c2⟩,c3⟩,c4⟩:=h;exact⟨⟨⟨⟨⟨⟨⟨a1,a2⟩,a3⟩,t⟩,b1,by show((l.length:Nat):Int)<=12;omega,b3,b4⟩,u⟩,z⟩,⟨⟨y,λv hv=>c2 v (hm v hv)⟩,c3⟩,c4⟩
theorem good_with(G:Am d m)(hm:∀v∈l,v∈d.invs)(k:(l.map (·.name)).Nodup):Am (Bz d s l) m:=
  have hv:=valid_with (s:=s) G.valid hm k
 ⟨hv,chk_with G.chk hm k,by
  have h:=G.mem;unfold BQ hasT at h⊢;rw[hv,Bool.true_and];rw[G.valid,Bool.true_and]at h;exact h⟩
end
end Go.Proofs
