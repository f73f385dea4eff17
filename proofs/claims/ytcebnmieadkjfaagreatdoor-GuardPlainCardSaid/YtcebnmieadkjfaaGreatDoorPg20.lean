/- Part 20: no statement of the seat is proved here. -/
import Derived.Test.YtcebnmieadkjfaaGreatDoorPg19
import Derived.Shelf.Strconv.Clone
set_option linter.unusedVariables false
set_option linter.unusedSimpArgs false
open List renaming filter_cons->z8,mem_singleton->zO,length_map->vX,mem_cons->yD,not_mem_nil->xD,length->uy,length_take->vK,map_append->yP,take_add_one->vJ,take_of_length_le->wR,nil_append->vT,length_append->zw,flatMap_cons->yb,getElem?_eq_some_iff->yv,length_set->vY,length_cons->zy,mem_of_getElem?->xM
open List.cons renaming injEq->yE
open Prod.mk renaming injEq->zS
open Go.Proofs.Tryz renaming prog->xG
open Bool renaming and_eq_true->zC
open Nat renaming zero_le->vk,mul_le_mul_right->y6,min_eq_left->ux
open Array renaming length_toList->vu
namespace Go.Proofs
open Go Go.Sx
def AU:KB:=Ab [76]
def BO:KB:=Ab [107]
def Ec:KB:=Ab [110,101,120,116]
def Dc:KB:=Ab [104,101,97,100]
def BS:KB:=Ab [112,117,115,104]
def B3:KB:=Ab [120]
def EP:KB:=Ab [108,101,110,103,116,104]
def Bq:KB:=Ab [115,111,114,116,101,100]
def exList:KB:=Ab [108,105,115,116]
def Jr(es:List E):Prop:=es=[]
def GG(P:E->Prop)(es:List E):Prop:=∃a,P a/\es=[a]
def Ep(P Q:E->Prop)(es:List E):Prop:=∃a b,P a/\Q b/\es=[a,b]
def nE(op n:Int)(s:KB)(Q:List E->Prop)(e:E):Prop:=∃l es,Q es/\e=.mk op n s l es
def nS(op:Int)(s:KB)(Q:List E->Prop)(x:S):Prop:=∃l es,Q es/\x=.mk op s l es Ag [] Ag []
def xN(s:KB):E->Prop:=nE 4 0 s Jr
def xF(P:E->Prop)(s:KB):E->Prop:=nE 5 0 s (GG P)
def xThis:E->Prop:=xN CI
def Fk:E->Prop:=xF xThis Ec
def xOne:E->Prop:=nE 1 1 sE Jr
def xNil:E->Prop:=nE 3 0 sE Jr
def xCall:E->Prop:=nE 7 0 EP (GG Fk)
def xPlus:E->Prop:=nE 9 0 sE (Ep xOne xCall)
def KS:E->Prop:=nE 14 0 sE (Ep Fk xNil)
def xLess:E->Prop:=nE 17 0 sE (Ep (xF xThis BO) (xF Fk BO))
def xSort:E->Prop:=nE 20 0 sE (Ep KS xLess)
def xNew:E->Prop:=nE 6 0 AU Jr
def MP:S->Prop:=nS 1 B3 (GG xNew)
def MQ:S->Prop:=nS 2 BO (Ep (xN B3) (xN BO))
def MS:S->Prop:=nS 2 Ec (Ep (xN B3) (xN Dc))
def MT:S->Prop:=nS 1 Dc (GG (xN B3))
def xBody(l:List S):Prop:=∃a b c d,MP a/\MQ b/\MS c/\MT d/\l=[a,b,c,d]
def xTF:List Fld:=[⟨BO,Ai⟩,⟨Ec,AU⟩]
def KT(p:Pr):Prop:=∃ps ls bs l,xBody l/\p=⟨BS,ps,[⟨BO,Ai⟩],sE,ls,[⟨B3,AU⟩],bs,l⟩
def IsEx(d:Ds):Prop:=∃ts fs gs ps p ms m is v,KT p/\xPlus m/\xSort v/\d=⟨exList,ts,[⟨AU,fs,xTF⟩],gs,[⟨Dc,AU⟩],ps,[p],ms,[⟨EP,AU,0,m⟩],is,[⟨Bq,AU,v⟩],Ag,[],Ag,[]⟩
def AA(σ:Nat->Sl):Ds:=
  have this:E:=.mk 4 0 CI (σ 0) [];have h:Nat->E:=λi=>.mk 5 0 Ec (σ i) [.mk 4 0 CI (σ (i+1)) []]
  ⟨exList,σ 1,[⟨AU,σ 2,xTF⟩],σ 3,[⟨Dc,AU⟩],σ 4,[⟨BS,σ 5,[⟨BO,Ai⟩],sE,σ 6,[⟨B3,AU⟩],σ 7,
    [.mk 1 B3 (σ 8) [.mk 6 0 AU (σ 9) []] Ag [] Ag [],.mk 2 BO (σ 10) [.mk 4 0 B3 (σ 11) [],.mk 4 0 BO (σ 12) []] Ag [] Ag [],
     .mk 2 Ec (σ 13) [.mk 4 0 B3 (σ 14) [],.mk 4 0 Dc (σ 15) []] Ag [] Ag [],.mk 1 Dc (σ 16) [.mk 4 0 B3 (σ 17) []] Ag [] Ag []]⟩],
    σ 18,[⟨EP,AU,0,.mk 9 0 sE (σ 19) [.mk 1 1 sE (σ 20) [],.mk 7 0 EP (σ 21) [h 22]]⟩],
    σ 24,[⟨Bq,AU,.mk 20 0 sE (σ 25) [.mk 14 0 sE (σ 26) [h 27,.mk 3 0 sE (σ 29) []],.mk 17 0 sE (σ 30) [.mk 5 0 BO (σ 31) [this],.mk 5 0 BO (σ 32) [h 33]]]⟩],Ag,[],Ag,[]⟩
theorem ex_form{d:Ds}(h:IsEx d):∃σ,d=AA σ:=by
 obtain⟨ts,fs,gs,ps,p,ms,m,is,v,⟨F,L,R,l,⟨K,S,T,x3,⟨X,_,⟨_,⟨B,_,rfl,rfl⟩,rfl⟩,rfl⟩,⟨k,_,⟨_,_,⟨u,_,rfl,rfl⟩,⟨w,_,rfl,rfl⟩,rfl⟩,rfl⟩,⟨z,_,⟨_,_,⟨y,_,rfl,rfl⟩,⟨j,_,rfl,rfl⟩,rfl⟩,rfl⟩,⟨n,_,⟨_,⟨r,_,rfl,rfl⟩,rfl⟩,rfl⟩,rfl⟩,rfl⟩,C,D,rfl⟩:=h;obtain⟨q,_,⟨_,_,⟨o,_,rfl,rfl⟩,⟨c,_,⟨_,⟨H,_,⟨_,⟨J,_,rfl,rfl⟩,rfl⟩,rfl⟩,rfl⟩,rfl⟩,rfl⟩,rfl⟩:=C;obtain⟨G,_,⟨_,_,⟨N,_,⟨_,_,⟨Z,_,⟨_,⟨Y,_,rfl,rfl⟩,rfl⟩,rfl⟩,⟨Q,_,rfl,rfl⟩,rfl⟩,rfl⟩,⟨P,_,⟨_,_,⟨O,_,⟨_,⟨a0,_,rfl,rfl⟩,rfl⟩,rfl⟩,⟨A,_,⟨_,⟨I,_,⟨_,⟨M,_,rfl,rfl⟩,rfl⟩,rfl⟩,rfl⟩,rfl⟩,rfl⟩,rfl⟩,rfl⟩,rfl⟩:=D;exact⟨λi=>[a0,ts,fs,gs,ps,F,L,R,X,B,k,u,w,z,y,j,n,r,ms,q,o,c,H,J,is,G,N,Z,Y,Q,P,O,A,I,M].getD i Ag,rfl⟩
def Gb(i:Nat):St:=if i=0 then⟨[0],[],0,0,[]⟩else if i=1 then⟨[1],[(0,[3,0])],0,0,[]⟩else⟨[2],[(0,[3,0]),(0,[5,1])],0,0,[]⟩
def Ia(i:Nat):List Int:=if i=0 then[3]else[5]
section
variable{σ:Nat->Sl}
theorem Hw:A7 (AA σ)=true:=by kernel_rfl
theorem ex_chk:BJ (AA σ)=none:=by kernel_rfl
theorem KU:CB (AA σ) [Bq]=0:=by kernel_rfl
theorem ex_r0:(λr:Rx Int=>(outC r,r.st.g,r.st.ns)) (C7 (AA σ) 50 (BR (AA σ) BS) (Ia 0) (Gb 0))=(0,(Gb 1).g,(Gb 1).ns):=by kernel_rfl
theorem ex_r1:(λr:Rx Int=>(outC r,r.st.g,r.st.ns)) (C7 (AA σ) 50 (BR (AA σ) BS) (Ia 1) (Gb 1))=(0,(Gb 2).g,(Gb 2).ns):=by kernel_rfl
def Dx(σ:Nat->Sl):Iv:=(AA σ).invs.getD 0 ⟨sE,sE,FA⟩
theorem ex_pick:B1 (AA σ) [Bq]=[Dx σ]:=by kernel_rfl
theorem ex_all{m:Mm}:allP (Bz (AA σ) Ag (B1 (AA σ) [Bq])) m=BZ (AA σ) m (Dx σ) (B0 (AA σ) m (Dx σ)):=by
 rw[Hv,ex_pick];show _++[]=_;rw[List.append_nil]
def exM1(a b s:Sl):Mm:=⟨a,[1],b,[⟨0,s,[3,0]⟩]⟩
def exM2(a b s t:Sl):Mm:=⟨a,[2],b,[⟨0,s,[3,0]⟩,⟨0,t,[5,1]⟩]⟩
section
variable{a b s t:Sl}
theorem ex_mem1:BQ (AA σ) (exM1 a b s)=true:=by kernel_rfl
theorem ex_cl1:By (AA σ) (exM1 a b s) BS (Ia 1)=0:=by kernel_rfl
theorem ex_n1:B0 (AA σ) (exM1 a b s) (Dx σ)=[1]:=by kernel_rfl
theorem ex_n2:B0 (AA σ) (exM2 a b s t) (Dx σ)=[2,1]:=by kernel_rfl
theorem ex_b1:CW (AA σ) (exM1 a b s) (Dx σ) 1=false:=by
 unfold CW;rw[Kt (rs:=.ok 1) ⟨5,by kernel_rfl⟩];simp
theorem ex_b2:CW (AA σ) (exM2 a b s t) (Dx σ) 2=true:=by
 unfold CW;rw[Kt (rs:=.ok 0) ⟨5,by kernel_rfl⟩,show typV (AA σ) (exM2 a b s t) 2=(Dx σ).ty by kernel_rfl];simp
theorem ex_v1:Fi (AA σ) (exM1 a b s) [Bq]=none:=by
 unfold Fi;rw[ex_all,ex_n1];unfold BZ;rw[z8,ex_b1];rfl
theorem ex_v2:Fi (AA σ) (exM2 a b s t) [Bq]=some (Bq,2):=by
 unfold Fi;rw[ex_all,ex_n2];unfold BZ;rw[z8,ex_b2];rfl
end
end
end Go.Proofs
namespace Go.Proofs
open Go Go.Sx
attribute [local irreducible] Go.Sx.Tri
theorem nd_one{nd:List Nd}{t:Int}{f:List Int}(h:nd.map (λn=>(n.ty,n.f))=[(t,f)]):∃s,nd=[⟨t,s,f⟩]:=by
 match nd,h with
 |[⟨k,s,u⟩],h=>simp only[List.map_cons,List.map_nil,yE,zS,and_true]at h;exact⟨s,by rw[h.1,h.2]⟩
theorem nd_two{nd:List Nd}{t u:Int}{f g:List Int}(h:nd.map (λn=>(n.ty,n.f))=[(t,f),(u,g)]):∃s s',nd=[⟨t,s,f⟩,⟨u,s',g⟩]:=by
 match nd,h with
 |[⟨k,s,w⟩,⟨z,s',y⟩],h=>simp only[List.map_cons,List.map_nil,yE,zS,and_true]at h;exact⟨s,s',by rw[h.1.1,h.1.2,h.2.1,h.2.2]⟩
theorem Own.growE{V0 V V':Mem}{e:TypeId}{sz:Nat}{s:Sl}{vs:List Value}(h:Sx.Own V0 V e sz s vs)(k:V.sub V'):Sx.Own V0 V' e sz s vs:=Own.moveB h (h.sub.trans k) λ_ _ _ u=>k _ _ u
section
variable{V:Mem}{σ:Nat->Sl}{g l ns l0 l1 l2:Sl}
theorem exScript[Tab V](U:Ds.Ok V (AA σ))(hg:Ad V g 1 (([0]:List Int).map AE))(hc:Cls.Ok V l [⟨BS,l0,[3]⟩,⟨BS,l1,[5]⟩,⟨BS,l2,[1]⟩])(hn:Ad V ns 1 ([Bq].map BD)):
  Tri xG 18 #[(AA σ).v,.agg #[g.v,Ag.v],l.v,ns.v,.int .i64 50] V λe V'=>V.sub V'/\∃(o a b:Sl)(O o1:O4),e=.returned (.tuple #[o.v,.agg #[a.v,b.v],.agg #[.string Bq,.int .i64 2],.int .i64 0])/\Ad V' o 5 ([O,o1].map oRow)/\O.1=0/\o1.1=22/\b.n=2:=by
 have hm:Mm.Ok V ⟨g,[0],Ag,[]⟩:=⟨hg,(λx A=>by rw[zO.1 A];exact⟨by decide,by decide⟩),Ad.nil,λ_ h=>by cases h⟩;have G0:Am (AA σ) ⟨g,[0],Ag,[]⟩:=⟨Hw,ex_chk,by kernel_rfl⟩;have I:∀{m:Mm},Am (AA σ) m->Cb (AA σ) m 50=0:=λ{m} G=>by grind[Cb]
 refine OJ ?_;have k:l.n=3:=hc.rows.n_eq;refine Tri.mono (MK (l:=Ag) (cs:=[]) (F:=50) U hm ⟨Ad.nil,λ_ h=>by cases h⟩ (.inl (by decide))) ?_;rintro _ V1 ⟨s1,⟨M,rfl⟩|⟨-,o,a,b,nd,-,R,X,-,rfl⟩⟩;·exact absurd (by unfold scrE;rw[I G0];rfl) M
 have X:nd=[]:=List.map_eq_nil_iff.1 X;subst X;have R:Mm.Ok V1 ⟨a,[0],b,[]⟩:=R;refine⟨_,_,_,_,rfl,λ_=>⟨λh=>absurd h (by rw[k];decide),λ_=>⟨λ_=>Tri.mono (ML (nms:=[Bq]) (U.sub s1) (hn.sub s1) (by decide)) ?_,λh=>absurd rfl h⟩⟩,λh=>absurd rfl h⟩;rintro _ V2 ⟨s2,⟨M,rfl⟩|⟨-,q,hq,rfl⟩⟩;·exact absurd KU M
 have y:=s1.trans s2;refine⟨_,_,_,_,_,_,_,_,_,rfl,λ_=>⟨λmm xs V3=>(mm=1/\xs=[uL a,uL b,uL Ag,uL Ag,uI 0,uI 0]/\V3=V2)∨(mm=0/\∃(a' b' o nd1:Sl)(O:O4)(W:Mem),xs=[uL a',uL b',uL o,uL Ag,uI 0,uI 1]/\V2.sub W/\Sx.Own W V3 47 5 o ([O].flatMap oRow)/\O.1=0/\Mm.Ok V3 (exM1 a' b' nd1)),1,.inl ⟨rfl,rfl,rfl⟩,?_⟩,λh=>absurd rfl h⟩;rintro mm V3 j H v28 v29 v30 v31 (⟨rfl,A,rfl⟩|⟨rfl,a',b',o,s0,O,W,A,hW,ho,h0,hm1⟩) J hJ
 ·-- the first call
  simp only[yE,and_true]at A;obtain⟨q1,q2,q3,q4,q5,q6⟩:=A;cases AT _ _ q1;cases AT _ _ q2;cases AT _ _ q3;cases AT _ _ q4;cases BG _ _ q5;cases BG _ _ q6;have N:=hc.sub y;haveI:Tab V3:=Tab.sub (V:=V) inferInstance y;refine⟨λ_=>?_,λh=>absurd (by rw[k];decide) h⟩;obtain⟨c,B,C,-,-,hp,hz,Z⟩:=N.rows.get (i:=0) (by rw[k];decide);cases C;refine⟨hp,hz,by rw[k];decide,_,_,Z,Tri.mono (KO (F:=50) (nms:=[Bq]) (m:=⟨a,[0],b,[]⟩) (args:=[3]) (U.sub y) (R.sub s2) (N.args _ B) (by decide) KU hq) ?_⟩;have D:CA (AA σ) ⟨a,[0],b,[]⟩ BS [3] 50=0:=by
   unfold CA;rw[I ⟨Hw,ex_chk,by kernel_rfl⟩];kernel_rfl
  rintro e V4 (⟨M,-⟩|⟨-,r,gs,w,ls,nd,hr,L,rfl⟩);·exact absurd D M
  have K:=ex_r0 (σ:=σ);have S:r=C7 (AA σ) 50 (BR (AA σ) BS) (Ia 0) (Gb 0):=hr;rw[<-S]at K;simp only[zS]at K;obtain⟨f1,f2,f3⟩:=K;have hL:=L.eq;rw[f3]at hL;obtain⟨sn,rfl⟩:=nd_one hL;have e0:B2 (AA σ) [Bq] r ⟨gs,r.st.g,w,[⟨0,sn,[3,0]⟩]⟩=none:=by
   unfold B2;rw[if_pos f1,f2];exact ex_v1 (a:=gs) (b:=w) (s:=sn)
  rw[e0];have z:=H8 (F:=50) (d:=AA σ) (m:=⟨a,[0],b,[]⟩) (nm:=BS) (args:=[3]) ⟨Hw,ex_chk,by kernel_rfl⟩ (by kernel_rfl);have z:Am (AA σ) r.st.mm:=by rw[hr];exact z
  have Y:=(Ff (U.sub y) L z).1;rw[f2]at Y;refine⟨_,_,_,_,_,_,_,_,_,_,rfl,λ_ tb T=>?_,λh=>absurd rfl h⟩;have s5:=Mem.sub_new T (.cells (oRow (outO r)).toArray 47 (0,0));refine app65 (s:=Ag) (u:=⟨some ⟨tb,0,none⟩,1,1⟩) (xs:=[]) (ys:=[outO r]) rfl rfl (Own.nil (Mem.sub.refl _) _ _) (one_out (outO r) Ao) (by simp) λo4 V5 Q=>⟨o4,rfl,λh=>absurd (f1.symm.trans h) (by decide),λ_=>⟨⟨by decide,by decide⟩,hJ _ _ _ (by decide) (.inr ⟨rfl,gs,w,o4,sn,outO r,_,rfl,L.sub.trans s5,Q,f1,Y.sub (s5.trans Q.sub)⟩)⟩⟩
 ·-- the second call
  simp only[yE,and_true]at A;obtain⟨q1,q2,q3,q4,q5,q6⟩:=A;cases AT _ _ q1;cases AT _ _ q2;cases AT _ _ q3;cases AT _ _ q4;cases BG _ _ q5;cases BG _ _ q6;have P:=y.trans (hW.trans ho.sub);have N:=hc.sub P;haveI:Tab V3:=Tab.sub (V:=V) inferInstance P;refine⟨λ_=>?_,λh=>absurd (by rw[k];decide) h⟩;obtain⟨c,B,C,-,-,hp,hz,Z⟩:=N.rows.get (i:=1) (by rw[k];decide);cases C;have G1:Am (AA σ) (exM1 j H s0):=⟨Hw,ex_chk,ex_mem1⟩;refine⟨hp,hz,by rw[k];decide,_,_,Z,Tri.mono (KO (F:=50) (nms:=[Bq]) (m:=exM1 j H s0) (args:=[5]) (U.sub P) hm1 (N.args _ B) (by decide) KU (hq.sub (hW.trans ho.sub))) ?_⟩;have D:CA (AA σ) (exM1 j H s0) BS [5] 50=0:=by
   unfold CA;rw[I G1,if_pos rfl];exact ex_cl1 (a:=j) (b:=H) (s:=s0)
  rintro e V4 (⟨M,-⟩|⟨-,r,gs,w,ls,nd,hr,L,rfl⟩);·exact absurd D M
  have K:=ex_r1 (σ:=σ);have S:r=C7 (AA σ) 50 (BR (AA σ) BS) (Ia 1) (Gb 1):=hr;rw[<-S]at K;simp only[zS]at K;obtain⟨f1,f2,f3⟩:=K;have hL:=L.eq;rw[f3]at hL;obtain⟨sn,sn',rfl⟩:=nd_two hL;have e0:B2 (AA σ) [Bq] r ⟨gs,r.st.g,w,[⟨0,sn,[3,0]⟩,⟨0,sn',[5,1]⟩]⟩=some (Bq,2):=by
   unfold B2;rw[if_pos f1,f2];exact ex_v2 (a:=gs) (b:=w) (s:=sn) (t:=sn')
  rw[e0];have z:=H8 (F:=50) (d:=AA σ) (nm:=BS) (args:=[5]) G1 (ex_cl1 (a:=j) (b:=H) (s:=s0));have z:Am (AA σ) r.st.mm:=by rw[hr];exact z
  have Y:=(Ff (U.sub P) L z).1;have hnn:=Y.nodes.n_eq;refine⟨_,_,_,_,_,_,_,_,_,_,rfl,λ_ tb T=>?_,λh=>absurd rfl h⟩;have Q:=Own.growE ho L.sub;refine app65 (s:=v28) (u:=⟨some ⟨tb,0,none⟩,1,1⟩) (xs:=[O]) (ys:=[(22,0,r.st.cm,Cm r.st.lg)]) rfl rfl (Q.new T _) (one_out (22,0,r.st.cm,Cm r.st.lg) Ao) (by simp) λo5 V5 ho5=>⟨o5,rfl,λ_=>?_,λh=>absurd rfl h⟩;exact⟨y.trans (hW.trans ho5.sub),o5,gs,w,O,(22,0,r.st.cm,Cm r.st.lg),rfl,ho5.rows (λ_=>rfl) (by decide),h0,rfl,hnn⟩
end
end Go.Proofs
namespace Go.Proofs
open Go Go.Sx
mutual
def Ed:E->E|.mk o n s _ k=>.mk o n s Ag (eErs k)
def eErs:List E->List E|[]=>[]|x::xs=>Ed x::eErs xs
end
theorem Js:∀l:List E,eErs l=l.map Ed
 |[]=>by unfold eErs;rfl
 |x::xs=>by unfold eErs;rw[Js xs];rfl
theorem eErs_len(l:List E):(eErs l).length=l.length:=by rw[Js,vX]
mutual
theorem okE_er:∀(k:Int)(e:E),Bv k (Ed e)=Bv k e
 |k,.mk o n s _ l=>by unfold Ed Bv;rw[eErs_len,okEs_er]
theorem okEs_er:∀(k:Int)(l:List E),okEs k (eErs l)=okEs k l
 |_,[]=>by unfold eErs;rfl
 |k,x::xs=>by unfold eErs okEs;rw[okE_er,okEs_er]
end
mutual
theorem szE_er:∀e:E,AG (Ed e)=AG e
 |.mk o n s _ l=>by unfold Ed AG;rw[szEs_er]
theorem szEs_er:∀l:List E,Cu (eErs l)=Cu l
 |[]=>by unfold eErs;rfl
 |x::xs=>by unfold eErs Cu;rw[szE_er,szEs_er]
end
theorem validE_er(e:E):Bf (Ed e)=Bf e:=by unfold Bf;rw[okE_er,szE_er]
end Go.Proofs
namespace Go.Proofs
open Go Go.Sx
attribute [local irreducible] Go.Sx.Tri
def sMeas:KB:=Ab [109,101,97,115,117,114,101,95]
def GH:KB:=Ab [118,105,115,105,116,95]
def GI:KB:=Ab [99,104,101,99,107,95]
def FF:KB:=Ab [110]
def EV(V:Mem):Ending->Mem->Prop:=λr V'=>V.sub V'/\∃e:E,r=.returned e.v
def SV(V:Mem):Ending->Mem->Prop:=λr V'=>V.sub V'/\∃e:S,r=.returned e.v
def KP(V:Mem)(p:Nat)(d:Ds):Prop:=V p=some (.cells (d.row++[Value.string FF]).toArray 119 (0,0))
def carS(op:Int)(s:KB):KB:=if op=4/\s=CI then FF else if op=7 then sMeas++s else s
mutual
def carE:E->E|.mk op n s _ k=>.mk op n (carS op s) Ag (carEs k)
def carEs:List E->List E|[]=>[]|x::xs=>carE x::carEs xs
end
theorem carEs_map:∀l:List E,carEs l=l.map carE
 |[]=>by unfold carEs;rfl
 |x::xs=>by unfold carEs;rw[carEs_map xs];rfl
theorem carE_eq(e:E):carE e=.mk e.op e.n (carS e.op e.s) Ag (e.k.map carE):=by
 cases e;unfold carE;rw[carEs_map];rfl
theorem okE_sz{k:Int}{e:E}(h:Bv k e=true):(e.op=7->e.s.size<=40)/\e.k.length<=6/\∀x∈e.k,Bv (k+1) x=true:=by
 cases e with
 |mk op n s l es=>
  unfold Bv at h;rw[zC,zC]at h;refine⟨λh7=>?_,?_,Kb h.2⟩;rotate_left
  ·have u:=h.1.2;unfold CF at u;rw[zC,zC]at u;have u:=of_decide_eq_true u.1.1;unfold Bs at u;show es.length<=6;grind
  have h7:op=7:=h7;have u:=h.1.2;unfold CF D0 at u;rw[zC,zC,if_neg (by omega),if_pos (by omega)]at u;have u:=u.1.2;unfold A6 at u;rw[zC]at u;exact(of_decide_eq_true u.1).2.1
def nw(V V':Mem):Mem:=λc=>match V c with|none=>V' c|some _=>none
theorem nw_at{V V':Mem}{c:Nat}(h:V c=none):nw V V' c=V' c:=by unfold nw;rw[h]
theorem nw_inv{V V':Mem}{c:Nat}{o:Obj}(h:nw V V' c=some o):V c=none/\V' c=some o:=by
 unfold nw at h;cases k:V c with
 |none=>rw[k]at h;exact⟨rfl,h⟩
 |some x=>rw[k]at h;cases h
theorem nw_le{V V':Mem}:(nw V V').sub V':=λ_ _ h=>(nw_inv h).2
theorem sub_none{V W:Mem}(h:V.sub W){c:Nat}(k:W c=none):V c=none:=by
 cases u:V c with
 |none=>rfl
 |some x=>rw[h _ _ u]at k;cases k
theorem nw_up{V A B C:Mem}(h:V.sub A)(k:∀c o,A c=none->B c=some o->C c=some o):(nw A B).sub (nw V C):=λc o u=>by
 obtain⟨a,b⟩:=nw_inv u;rw[nw_at (sub_none h a)];exact k c o a b
theorem nw_mono{V A B:Mem}(h:A.sub B):(nw V A).sub (nw V B):=nw_up (Mem.sub.refl V) λ_ _ _ k=>h _ _ k
theorem own_nw{W V V1:Mem}{e:TypeId}{sz:Nat}{s:Sl}{vs:List Value}(h:Sx.Own W V1 e sz s vs)(k:V.sub W):Sx.Own (λ_=>none) (nw V V1) e sz s vs:=⟨(λ_ _ h=>by cases h),h.len,by
 rcases h.at_ with u|⟨g,cur,a,b,c,dd⟩;·exact .inl u
 ·exact .inr ⟨g,cur,a,rfl,by rw[nw_at (sub_none k b)];exact c,dd⟩⟩
theorem ap95:AppP 95 97 4 E.row:=appG Tryz.underlying95 (by kernel_rfl) (by kernel_rfl) (by kernel_rfl) (by kernel_rfl) (by kernel_rfl) (by decide) (by intro _;rfl) λx u hu=>by simp only[E.row,Go.Sx.vS,Go.Sx.vI,Sl.v,yD,xD,or_false]at hu;rcases hu with rfl|rfl|rfl|rfl<;>rfl
theorem ap72:AppP 72 114 5 S.row:=appG Tryz.underlying72 (by kernel_rfl) (by kernel_rfl) (by kernel_rfl) (by kernel_rfl) (by kernel_rfl) (by decide) (λx=>by cases x;rfl) λx u hu=>by cases x;simp only[S.row,Go.Sx.vS,Go.Sx.vI,Sl.v,yD,xD,or_false]at hu;rcases hu with rfl|rfl|rfl|rfl|rfl<;>rfl
theorem ap24:AppP 24 74 5 Pr.row:=appG Tryz.underlying24 (by kernel_rfl) (by kernel_rfl) (by kernel_rfl) (by kernel_rfl) (by kernel_rfl) (by decide) (by intro _;rfl) λx u hu=>by simp only[Pr.row,Go.Sx.vS,Go.Sx.vI,Sl.v,yD,xD,or_false]at hu;rcases hu with rfl|rfl|rfl|rfl|rfl<;>rfl
theorem ap22:AppP 22 112 2 Ty.row:=appG Tryz.underlying22 (by kernel_rfl) (by kernel_rfl) (by kernel_rfl) (by kernel_rfl) (by kernel_rfl) (by decide) (by intro _;rfl) λx u hu=>by simp only[Ty.row,Go.Sx.vS,Go.Sx.vI,Sl.v,yD,xD,or_false]at hu;rcases hu with rfl|rfl<;>rfl
theorem ap23:AppP 23 110 2 Fld.row:=appG Tryz.underlying23 (by kernel_rfl) (by kernel_rfl) (by kernel_rfl) (by kernel_rfl) (by kernel_rfl) (by decide) (by intro _;rfl) λx u hu=>by simp only[Fld.row,Go.Sx.vS,Go.Sx.vI,Sl.v,yD,xD,or_false]at hu;rcases hu with rfl|rfl<;>rfl
theorem ap25:AppP 25 116 7 Ms.row:=appG Tryz.underlying25 (by kernel_rfl) (by kernel_rfl) (by kernel_rfl) (by kernel_rfl) (by kernel_rfl) (by decide) (by intro _;rfl) λx u hu=>by simp only[Ms.row,Go.Sx.vS,Go.Sx.vI,Sl.v,yD,xD,or_false]at hu;rcases hu with rfl|rfl|rfl|rfl|rfl|rfl|rfl<;>rfl
theorem ap27:AppP 27 180 5 Po.row:=appG Tryz.underlying27 (by kernel_rfl) (by kernel_rfl) (by kernel_rfl) (by kernel_rfl) (by kernel_rfl) (by decide) (by intro _;rfl) λx u hu=>by simp only[Po.row,Go.Sx.vS,Go.Sx.vI,Sl.v,yD,xD,or_false]at hu;rcases hu with rfl|rfl|rfl|rfl|rfl<;>rfl
theorem ap28:AppP 28 183 5 Bd.row:=appG Tryz.underlying28 (by kernel_rfl) (by kernel_rfl) (by kernel_rfl) (by kernel_rfl) (by kernel_rfl) (by decide) (by intro _;rfl) λx u hu=>by simp only[Bd.row,Go.Sx.vS,Go.Sx.vI,Sl.v,yD,xD,or_false]at hu;rcases hu with rfl|rfl|rfl|rfl|rfl<;>rfl
section
variable{V:Mem}{e f:E}{s:KB}{p:Nat}{d:Ds}
theorem KP.sub{V':Mem}(h:KP V p d)(k:V.sub V'):KP V' p d:=k _ _ h
theorem KP.param(h:KP V p d):V.rowp (sa p) 8 1=some [uS FF]:=An h 8 1 (by simp[Ds.row])
theorem KP.cell(h:KP V p d)(i:Nat)(hi:i<8):V.rowp (sa p) i 1=some ((d.row.drop i).take 1):=by
 have:=An h i 1 (by simp[Ds.row];omega);rw[this,List.drop_append_of_le_length (by simp[Ds.row];omega),List.take_append_of_le_length (by simp[Ds.row];omega)]
theorem KV:PP 88 [.string s] V (E.mk 4 0 s Ag []).v:=by
 refine Ow ?_;exact⟨rfl,rfl⟩
theorem Ib{b:Bool}:Tri xG 89 #[.bool b] V (EV V):=by
 refine Ox ?_;exact⟨λ_=>⟨Mem.sub.refl _,.mk 2 1 sE Ag [],rfl⟩,λ_=>⟨Mem.sub.refl _,.mk 2 0 sE Ag [],rfl⟩⟩
theorem Jt:Tri xG 84 #[e.v] V (SV V):=by
 refine Ot ?_;exact λb h=>⟨Mem.sub_new h _,.mk 5 sE ⟨some ⟨b,0,none⟩,1,1⟩ [] Ag [] Ag [],rfl⟩
theorem KW:Tri xG 55 #[e.v] V λr V'=>V.sub V'/\∃l,r=.returned (E.mk 18 0 sE l [e]).v/\Ad V' l 4 ([e].map E.row):=by
 refine N1 ?_;exact λb h=>⟨Mem.sub_new h _,⟨some ⟨b,0,none⟩,1,1⟩,rfl,Ad.cells (xs:=[e]) (row:=E.row) Ao rfl (λ_=>rfl) rfl (by simp)⟩
theorem PJ{n:Int}(k:-1099511627776<=n/\n<=1099511627776):Tri xG 83 #[.int .i64 n] V (EV V):=by
 refine Oq ?_;exact⟨λ_=>⟨⟨by omega,by omega⟩,λb h=>⟨Mem.sub_new h _,.mk 8 0 sE ⟨some ⟨b,0,none⟩,1,1⟩ [],rfl⟩⟩,λ_=>⟨Mem.sub.refl _,.mk 1 n sE Ag [],rfl⟩⟩
theorem Ju:Tri xG 81 #[e.v,f.v] V (SV V):=by
 refine On ?_;refine⟨Tri.mono Jt ?_,Tri.mono Jt ?_⟩;all_goals
  rintro _ V1 ⟨h,⟨o,s,l,es,k,ls,x,xs⟩,rfl⟩;refine⟨_,_,_,_,_,rfl,?_⟩
  repeat' apply And.intro
  all_goals exact λb u c w=>⟨h.trans ((Mem.sub_new u _).trans (Mem.sub_new w _)),.mk 3 sE ⟨some ⟨b,0,none⟩,1,1⟩ [] ⟨some ⟨c,0,none⟩,1,1⟩ [] Ag [],rfl⟩
theorem MU(h:KP V p d):Tri xG 82 #[pv p] V (EV V):=by
 refine Oo ?_;exact⟨nn,nn,_,h.param,KV.call ⟨_,_,_,_,rfl,λb k=>⟨Mem.sub_new k _,.mk 14 0 sE ⟨some ⟨b,0,none⟩,2,2⟩ [],rfl⟩⟩⟩
theorem MV{q:Option Addr}:Tri xG 86 #[.pointer q,.string s] V λr V'=>V'=V/\∃b:Bool,r=.returned (.bool b):=by
 refine Ou ?_;exact⟨λ_=>⟨rfl,_,rfl⟩,λ_=>⟨rfl,_,rfl⟩⟩
theorem MX(j:s.size<=40):Tri xG 87 #[.string s,e.v] V (SV V):=by
 refine Ov ?_;refine⟨⟨by have:(Ab [118,105,115,105,116,95]).size=6:=rfl;omega,by have:(Ab [118,105,115,105,116,95]).size=6:=rfl;omega⟩,λb h=>Tri.mono (KW (e:=.mk 7 0 (GH++s) ⟨some ⟨b,0,none⟩,1,1⟩ [])) ?_⟩;rintro _ V1 ⟨u,l,rfl,-⟩;refine⟨_,_,_,_,rfl,Tri.mono Ib ?_⟩;rintro _ V2 ⟨w,⟨o,n,s,z,k⟩,rfl⟩;refine⟨_,_,_,_,rfl,Tri.mono (Ju (e:=.mk 18 0 sE l []) (f:=.mk o n s z [])) ?_⟩;rintro _ i ⟨y,⟨o,s,l,es,k,ls,x,xs⟩,rfl⟩;exact⟨_,_,_,_,_,rfl,(Mem.sub_new h _).trans (u.trans (w.trans y)),.mk o s l es k ls x xs,rfl⟩
theorem KY:∀(e:E)(V:Mem),KP V p d->E.Ok V e->∀k,Bv k e=true->Tri xG 56 #[pv p,e.v] V λr V'=>V.sub V'/\∃G:E,r=.returned G.v/\Ed G=carE e/\E.Ok (nw V V') G:=by
 intro e;induction e using E.ind with
 |h e ih=>
 intro V hk D k K;obtain⟨R,hR⟩:∃R:Ending->Mem->Prop,R=λr V'=>V.sub V'/\∃G:E,r=.returned G.v/\Ed G=carE e/\E.Ok (nw V V') G:=⟨_,rfl⟩;rw[<-hR];obtain⟨S,hlen,T⟩:=okE_sz K;have U:=D.opR;have hnr:=D.nR;have hr:=D.rows;refine OO ?_;refine⟨λmm xs V1=>∃(i:Nat)(o:Sl)(W:Mem)(es:List E),mm=e.k.length-i/\i<=e.k.length/\xs=[uI e.op,uI e.n,uS e.s,uL o,uI i]/\V.sub W/\Sx.Own W V1 97 4 o (es.flatMap E.row)/\es.map Ed=(e.k.take i).map carE/\∀x∈es,E.Ok (nw V W) x,e.k.length,⟨0,Ag,V,[],rfl,vk _,rfl,Mem.sub.refl _,Own.nil (Mem.sub.refl _) _ _,rfl,λ_ h=>by cases h⟩,?_⟩;rintro mm V1 v5 v6 v7 Q v9 ⟨i,o,W,es,rfl,hi,P,hW,own,j,H⟩ J hJ;simp only[yE,and_true]at P;obtain⟨q1,q2,q3,q4,q5⟩:=P;cases BG _ _ q1;cases BG _ _ q2;cases inj_s _ _ q3;cases AT _ _ q4;cases BG _ _ q5;have w:=hW.trans own.sub;have N:=hr.sub w;have hel:es.length=i:=by have:=congrArg uy j;rw[vX,vX,vK]at this;omega
 refine⟨λZ=>?_,λhge=>?_⟩
 ·obtain⟨x,Y,P,-,hxl,hp,hz,A⟩:=N.get Z;refine⟨hp,hz,Z,_,_,_,_,A,Tri.mono (ih x Y V1 (hk.sub w) ((D.kids x Y).sub w) _ (T x Y)) ?_⟩;rintro _ V2 ⟨s2,⟨I,M,s',F,L⟩,rfl,he',X⟩;refine⟨_,_,_,_,rfl,λtb htb=>?_⟩;have z:=Own.growE own s2;refine ap95 (s:=Q) (u:=⟨some ⟨tb,0,none⟩,1,1⟩) (xs:=es) (ys:=[.mk I M s' F L]) rfl rfl (z.but.new htb (.cells (E.row (.mk I M s' F L)).toArray 97 (0,0))) (Ad.cells (xs:=[E.mk I M s' F L]) (row:=E.row) Ao rfl (λ_=>rfl) rfl (by simp)) (by simp;omega) λo3 V3 B=>⟨o3,rfl,N.succ Z,hJ _ _ _ (show e.k.length-(i+1)<e.k.length-i by omega) ⟨i+1,o3,V2.but Q,es++[.mk I M s' F L],rfl,by omega,rfl,hW.trans z.sub_but,B,?_,λy C=>?_⟩⟩
  ·rw[yP,j,vJ,P,yP];show _++[Ed (E.mk I M s' F L)]=_;rw[he'];rfl
  ·rcases List.mem_append.1 C with C|C;·exact(H y C).sub (nw_mono z.sub_but)
   ·rw[zO.1 C];exact X.sub (nw_up w λc o h1 h2=>Mem.but_at h2 (own.apartN h1))
 ·have hdn:=(N.done hge).2;rw[wR hdn]at j;have q:∀s',s'=carS e.op e.s->R (.returned (.agg #[.int .i64 e.op,.int .i64 e.n,.string s',.slice Q.p Q.n Q.c])) V1:=λs' hs'=>by
   rw[hR];refine⟨w,.mk e.op e.n s' Q es,rfl,?_,.mk ((own_nw own hW).rows (λ_=>rfl) (by decide)) (λx P=>(H x P).sub (nw_mono own.sub)) U hnr⟩;rw[carE_eq,hs',<-j];unfold Ed;rw[Js]
  have m8:sMeas.size=8:=rfl;refine⟨λO=>⟨λht=>⟨nn,nn,_,(hk.sub w).param,q _ ?_⟩,λht=>⟨λh7=>?_,λh7=>q _ ?_⟩⟩,λO=>⟨λh7=>?_,λh7=>q _ ?_⟩⟩;·unfold carS;rw[if_pos ⟨O,ht⟩]
  ·have O:e.op=4:=O;have h7:e.op=7:=h7;omega
  ·unfold carS;rw[if_neg λh=>ht h.2,if_neg h7]
  ·have hz:=S h7;refine⟨⟨by show(-9223372036854775808:Int)<=(sMeas.size:Int)+e.s.size;omega,by show(sMeas.size:Int)+e.s.size<=9223372036854775807;omega⟩,q _ ?_⟩;unfold carS;rw[if_neg λh=>O h.1,if_pos h7];rfl
  ·unfold carS;rw[if_neg λh=>O h.1,if_neg h7]
end
def PV(V:Mem)(nm:KB):Ending->Mem->Prop:=λr V'=>V.sub V'/\∃q:Pr,r=.returned q.v/\q.name=nm
section
variable{V W V1:Mem}{p:Nat}{d:Ds}
theorem moreS{o:Sl}{es:List S}(own:Sx.Own W V1 114 5 o (es.flatMap S.row))(J:es.length<=1000000){w:Int}{x2:KB}{x3 x4 x5:Sl}{j:Nat}(i:V1 j=none){ty:Nat}{y z:Operand}{vals:Operand->Value}(r:vals y=.slice o.p o.n o.c)(v:vals z=.slice (sa j) 1 1){q:Value->Mem->Prop}
  (H:∀k V',Sx.Own W V' 114 5 k ((es++[S.mk w x2 x3 [] x4 [] x5 []]).flatMap S.row)->q (.slice k.p k.n k.c) V'):GenK xG (.call {callee:=.builtin .append,args:=#[y,z],argTypes:=#[72,72]}) ty vals (V1.set j (.cells #[uI w,uS x2,uL x3,uL x4,uL x5] 114 (0,0))) q:=
 ap72 (s:=o) (u:=⟨some ⟨j,0,none⟩,1,1⟩) (xs:=es) (ys:=[.mk w x2 x3 [] x4 [] x5 []]) r v (own.new i _) (Ad.cells (xs:=[S.mk w x2 x3 [] x4 [] x5 []]) (row:=S.row) Ao rfl (λx=>by cases x;rfl) rfl (by simp)) (by simp;omega) λk V' h=>H k V' h
theorem PK{t:Ty}{v:Iv}(N:KP V p d)(hn:t.name.size<=40)(hf:Ad V t.fs 2 (t.fields.map Fld.row))(hl:t.fields.length<=1000)(Z:∀f∈t.fields,f.ty.size<=40)(hx:E.Ok V v.x){k:Int}(Y:Bv k v.x=true):
  Tri xG 85 #[pv p,.agg #[.string t.name,t.fs.v],v.v] V (PV V (GH++t.name)):=by
 obtain⟨R,C⟩:∃R,R=PV V (GH++t.name):=⟨_,rfl⟩;rw[<-C];refine OS ?_;have D:IR (((Ab [118,105,115,105,116,95]).size:Int)+(t.name.size:Int)):=⟨by have:(Ab [118,105,115,105,116,95]).size=6:=rfl;omega,by have:(Ab [118,105,115,105,116,95]).size=6:=rfl;omega⟩;refine⟨D,nn,nn,_,N.param,λb hb=>⟨D,?_⟩⟩;have Q:=Mem.sub_new hb (.cells #[uS FF,uS t.name] 110 (0,0));refine Tri.mono (MU (N.sub Q)) ?_;rintro _ V2 ⟨K,⟨o,n,s,l',k'⟩,rfl⟩;refine⟨_,_,_,_,rfl,Tri.mono Ib ?_⟩;rintro _ V3 ⟨T,⟨o3,n3,x3,l3,k3⟩,rfl⟩;refine⟨_,_,_,_,rfl,Tri.mono (Ju (e:=.mk o n s l' k') (f:=.mk o3 n3 x3 l3 k3)) ?_⟩;rintro _ U ⟨s4,⟨o4,n4,l4,es4,k4,ls4,x4,xs4⟩,rfl⟩;refine⟨_,_,_,_,_,rfl,λtb P=>?_⟩;have y:V.sub U:=Q.trans (K.trans (T.trans s4));clear Q K T s4;obtain⟨W,j⟩:∃W,W=U:=⟨_,rfl⟩;rw[<-j]at y;refine moreS (W:=W) (o:=Ag) (es:=[]) (Own.nil (by rw[j];exact Mem.sub.refl _) _ _) (by simp) P rfl rfl λo5 V5 own=>⟨o5,rfl,?_⟩;refine⟨λ_=>Tri.mono (KY v.x V5 (N.sub (y.trans own.sub)) (hx.sub (y.trans own.sub)) k Y) ?_,λ_=>?_⟩;rintro _ V6 ⟨s6,⟨o6,n6,x6,l6,k6⟩,rfl,-,-⟩;refine⟨_,_,_,_,rfl,Tri.mono (KW (e:=.mk o6 n6 x6 l6 k6)) ?_⟩;rintro _ V7 ⟨s7,l7,rfl,-⟩;refine⟨_,_,_,_,rfl,Tri.mono Ib ?_⟩;rintro _ V8 ⟨s8,⟨o8,n8,x8,l8,k8⟩,rfl⟩;refine⟨_,_,_,_,rfl,Tri.mono (Ju (e:=.mk 18 0 sE l7 []) (f:=.mk o8 n8 x8 l8 k8)) ?_⟩;rintro _ V9 ⟨s9,⟨o9,n9,l9,es9,k9,ls9,x9,xs9⟩,rfl⟩;refine⟨_,_,_,_,_,rfl,λtb2 r=>?_⟩;refine moreS (Own.growE own (s6.trans (s7.trans (s8.trans s9)))) (by simp) r rfl rfl λO V10 own=>⟨O,rfl,?_⟩;all_goals
  obtain⟨es,A,own⟩:∃es:List S,es.length<=2/\Sx.Own W _ 114 5 _ (es.flatMap S.row):=⟨_,by simp,own⟩;refine⟨λmm xs V'=>∃(i:Nat)(o:Sl)(es:List S),mm=t.fields.length-i/\i<=t.fields.length/\xs=[uS (GH++t.name),uL ⟨some ⟨b,0,none⟩,1,1⟩,uS (Ab [98,111,111,108]),uL Ag,uL o,uI i]/\Sx.Own W V' 114 5 o (es.flatMap S.row)/\es.length<=i+2,t.fields.length,⟨0,_,es,rfl,vk _,rfl,own,by omega⟩,?_⟩;rintro mm V11 a1 a2 a3 a4 a5 a6 ⟨i,o,es,rfl,hi',q,own,A⟩ J hJ;simp only[yE,and_true]at q;obtain⟨q1,q2,q3,q4,q5,q6⟩:=q;cases inj_s _ _ q1;cases AT _ _ q2;cases inj_s _ _ q3;cases AT _ _ q4;cases AT _ _ q5;cases BG _ _ q6;have hV:=y.trans own.sub;have w:=hf.sub hV;refine⟨λu=>?_,λhge=>?_⟩
  ·obtain⟨f,I,hff,-,hfi,hp,hz,H⟩:=w.get u;refine⟨hp,hz,u,_,_,H,Tri.mono MV ?_⟩;rintro _ _ ⟨rfl,bb,rfl⟩;refine⟨_,rfl,λ_=>⟨nn,nn,_,(N.sub hV).param,KV.call ⟨_,_,_,_,rfl,λc hc=>Tri.mono (MX (e:=.mk 5 0 f.name ⟨some ⟨c,0,none⟩,1,1⟩ []) (Z f I)) ?_⟩⟩,λ_=>⟨w.succ u,hJ _ _ _ (show t.fields.length-(i+1)<t.fields.length-i by omega) ⟨i+1,_,es,rfl,by omega,rfl,own,by omega⟩⟩⟩;rintro _ M ⟨z,⟨ox,nx,lx,ex,kx,lsx,xx,xsx⟩,rfl⟩;refine⟨_,_,_,_,_,rfl,λF h=>?_⟩;refine moreS (Own.growE own ((Mem.sub_new hc _).trans z)) (by omega) h rfl rfl λL X own=>⟨L,rfl,w.succ u,hJ _ _ _ (show t.fields.length-(i+1)<t.fields.length-i by omega) ⟨i+1,_,_,rfl,by omega,rfl,own,by simp;omega⟩⟩
  ·refine Tri.mono Ib ?_;rintro _ M ⟨z,⟨ox,nx,lx,ex,kx⟩,rfl⟩;refine⟨_,_,_,_,rfl,Tri.mono (Jt (e:=.mk ox nx lx ex kx)) ?_⟩;rintro _ X ⟨B,⟨oy,ny,ly,ey,ky,lsy,xy,xsy⟩,rfl⟩;refine⟨_,_,_,_,_,rfl,λF h=>?_⟩;refine moreS (Own.growE own (z.trans B)) (by omega) h rfl rfl λG V15 own=>⟨G,rfl,?_⟩;rw[C];exact⟨y.trans own.sub,⟨_,_,[],_,_,[],G,[]⟩,rfl,rfl⟩
end
def ProcsP(V:Mem)(d:Ds)(v:Iv):Ending->Mem->Prop:=λr V'=>V.sub V'/\∃(s:Sl)(l:List Pr),r=.returned s.v/\Ad V' s 5 (l.map Pr.row)/\l.map (·.name)=d.measures.map (λm=>sMeas++m.name)++d.types.map (λt=>GH++t.name)++[GI++v.name]
structure Mild (d:Ds):Prop where
 ms:∀m∈d.measures,m.name.size<=40/\(-1099511627776<=m.nil/\m.nil<=1099511627776)/\Bv 1 m.x=true
 ts:∀t∈d.types,t.name.size<=40/\t.fields.length<=1000/\∀f∈t.fields,f.ty.size<=40
 gs:∀g∈d.globals,g.ty.size<=40
 lm:d.measures.length<=1000
 lt:d.types.length<=1000
 lg:d.globals.length<=1000
section
variable{V W V1:Mem}{p:Nat}{d:Ds}
theorem KP.param8(h:KP V p d):V.rowp (Aa (sa p) 8) 0 1=some [uS FF]:=DR h 8 0 1 (by simp[Ds.row])
theorem whenV{a b h k:Int}{s s':KB}{l u:Sl}:Tri xG 81 #[uA #[uI a,uI b,uS s,uL l],uA #[uI h,uI k,uS s',uL u]] V (SV V):=Ju (e:=.mk a b s l []) (f:=.mk h k s' u [])
theorem giveV{a b:Int}{s:KB}{l:Sl}:Tri xG 84 #[uA #[uI a,uI b,uS s,uL l]] V (SV V):=Jt (e:=.mk a b s l [])
theorem moreP{o:Sl}{ps:List Pr}(own:Sx.Own W V1 74 5 o (ps.flatMap Pr.row))(J:ps.length<=1000000){w x3:KB}{x2 x4 x5:Sl}{j:Nat}(i:V1 j=none){ty:Nat}{y z:Operand}{vals:Operand->Value}(r:vals y=.slice o.p o.n o.c)(v:vals z=.slice (sa j) 1 1){q:Value->Mem->Prop}
  (H:∀k V',Sx.Own W V' 74 5 k ((ps++[(⟨w,x2,[],x3,x4,[],x5,[]⟩:Pr)]).flatMap Pr.row)->q (.slice k.p k.n k.c) V'):GenK xG (.call {callee:=.builtin .append,args:=#[y,z],argTypes:=#[24,24]}) ty vals (V1.set j (.cells #[uS w,uL x2,uS x3,uL x4,uL x5] 74 (0,0))) q:=
 ap24 (s:=o) (u:=⟨some ⟨j,0,none⟩,1,1⟩) (xs:=ps) (ys:=[⟨w,x2,[],x3,x4,[],x5,[]⟩]) r v (own.new i _) (Ad.cells (xs:=[(⟨w,x2,[],x3,x4,[],x5,[]⟩:Pr)]) (row:=Pr.row) Ao rfl (λ_=>rfl) rfl (by simp)) (by simp;omega) λk V' h=>H k V' h
theorem name_more{ps:List Pr}{α:Type}{l:List α}{i:Nat}{x:α}{nm:α->KB}{A:List KB}(h:ps.map (·.name)=A++(l.take i).map nm)(k:l[i]?=some x){q:Pr}(u:q.name=nm x):(ps++[q]).map (·.name)=A++(l.take (i+1)).map nm:=by
 rw[yP,h,vJ,k,yP,List.append_assoc,List.map_singleton,u];rfl
theorem PL{v:Iv}(hk:KP V p d)(hd:Ds.Ok V d)(hm:Mild d)(hvt:v.ty≠sE)(hvn:v.name.size<=40)(hx:E.Ok V v.x){k:Int}(hok:Bv k v.x=true):
  Tri xG 48 #[pv p,v.v] V (ProcsP V d v):=by
 obtain⟨R,hR⟩:∃R,R=ProcsP V d v:=⟨_,rfl⟩;rw[<-hR];refine ON ?_;have lm:=hm.lm;have lt:=hm.lt;have lg:=hm.lg;refine⟨nn,nn,nn,d.ms,hk.cell 4 (by decide),DB (mk:=λs:Sl=>.slice s.p s.n s.c) (b0:=Ag) AT d.measures.length (λi o V1=>∃ps:List Pr,Sx.Own V V1 74 5 o (ps.flatMap Pr.row)/\ps.map (·.name)=[]++(d.measures.take i).map λm=>sMeas++m.name) ⟨[],Own.nil (Mem.sub.refl _) _ _,rfl⟩ ?_⟩;rintro i o V1 J hi ⟨ps,own,w⟩ T;have Z:=congrArg uy w;rw[vX,vT,vX,vK]at Z;have q:=hk.sub own.sub;have H:=hd.sub own.sub;refine⟨λu=>?_,λY=>?_⟩
 ·obtain⟨m,M,hmx,-,hml,A,I,z⟩:=H.measures.get u;obtain⟨hm1,hm2,hm3⟩:=hm.ms m M;have U:IR (((Ab [109,101,97,115,117,114,101,95]).size:Int)+(m.name.size:Int)):=⟨by have:(Ab [109,101,97,115,117,114,101,95]).size=8:=rfl;omega,by have:(Ab [109,101,97,115,117,114,101,95]).size=8:=rfl;omega⟩;have hi1:=H.measures.succ u;have hmo:=(H.measuresOk m M).x;refine⟨A,I,u,_,_,_,_,_,_,_,z,U,nn,nn,_,q.param,?_⟩;have s:=Mem.sub.refl V1;clear A I z
  repeat' first
   |exact U
   |exact nn
   |exact(q.sub s).param8
   |apply And.intro
   |(refine Tri.mono (MU (q.sub s)) ?_;rintro _ _ ⟨s',⟨_,_,_,_,_⟩,rfl⟩;replace s:=s.trans s';refine⟨_,_,_,_,rfl,?_⟩)
   |(refine Tri.mono (PJ hm2) ?_;rintro _ _ ⟨s',⟨_,_,_,_,_⟩,rfl⟩;replace s:=s.trans s';refine⟨_,_,_,_,rfl,?_⟩)
   |(refine Tri.mono whenV ?_;rintro _ _ ⟨s',⟨_,_,_,_,_,_,_,_⟩,rfl⟩;replace s:=s.trans s';refine⟨_,_,_,_,_,rfl,?_⟩)
   |(refine Tri.mono giveV ?_;rintro _ _ ⟨s',⟨_,_,_,_,_,_,_,_⟩,rfl⟩;replace s:=s.trans s';refine⟨_,_,_,_,_,rfl,?_⟩)
   |(refine Tri.mono (KY m.x _ (q.sub s) (hmo.sub s) _ hm3) ?_;rintro _ _ ⟨s',⟨_,_,_,_,_⟩,rfl,-,-⟩;replace s:=s.trans s';refine⟨_,_,_,_,rfl,?_⟩)
  all_goals
   intro b1 hb1 b2 hb2 tb y;exact moreP (x2:=⟨some ⟨b1,0,none⟩,1,1⟩) (x4:=Ag) (x5:=⟨some ⟨b2,0,none⟩,2,2⟩) (Own.growE own (s.trans ((Mem.sub_new hb1 _).trans (Mem.sub_new hb2 _)))) (by omega) y rfl rfl λo' V' G=>⟨o',rfl,hi1,T (by omega) _ _ ⟨_,G,name_more w hmx rfl⟩⟩
 ·have P:=(H.measures.done Y).2;rw[wR P,vT]at w;have U:IR (((Ab [99,104,101,99,107,95]).size:Int)+(v.name.size:Int)):=⟨by have:(Ab [99,104,101,99,107,95]).size=6:=rfl;omega,by have:(Ab [99,104,101,99,107,95]).size=6:=rfl;omega⟩;refine⟨U,λh=>absurd h hvt,λ_=>⟨nn,nn,nn,d.ts,q.cell 1 (by decide),DB (mk:=λs:Sl=>.slice s.p s.n s.c) (b0:=o) AT d.types.length (λi o V1=>∃ps:List Pr,Sx.Own V V1 74 5 o (ps.flatMap Pr.row)/\ps.map (·.name)=d.measures.map (λm=>sMeas++m.name)++(d.types.take i).map λt=>GH++t.name) ⟨ps,own,by rw[w];simp⟩ ?_⟩⟩;clear q H own w Z T;rintro j o2 V2 J hj ⟨ps2,own,w⟩ T;have Z:=congrArg uy w;rw[vX,zw,vX,vX,vK]at Z;have F:=hk.sub own.sub;have N:=hd.sub own.sub;refine⟨λu=>?_,λY=>?_⟩
  ·obtain⟨t,L,htx,-,htl,A,I,z⟩:=N.types.get u;obtain⟨t1,t2,t3⟩:=hm.ts t L;refine⟨A,I,u,_,_,z,Tri.mono (PK (t:=t) F t1 (N.typesOk t L).fields t2 t3 (hx.sub own.sub) hok) ?_⟩;rintro _ V3 ⟨s3,⟨q1,q2,q3,q4,q5,q6,q7,q8⟩,rfl,hq⟩;exact⟨_,_,_,_,_,rfl,λtb y=>moreP (Own.growE own s3) (by omega) y rfl rfl λo' V' G=>⟨o',rfl,N.types.succ u,T (by omega) _ _ ⟨_,G,name_more w htx hq⟩⟩⟩
  ·have P:=(N.types.done Y).2;rw[wR P]at w;refine⟨nn,nn,nn,d.gs,F.cell 2 (by decide),⟨λmm xs V'=>∃(i:Nat)(o:Sl)(es:List S),mm=d.globals.length-i/\i<=d.globals.length/\xs=[uS (GI++v.name),uL Ag,uS (Ab [98,111,111,108]),uL Ag,uL o,uI i]/\Sx.Own V2 V' 114 5 o (es.flatMap S.row)/\es.length<=i,d.globals.length,⟨0,Ag,[],rfl,vk _,rfl,Own.nil (Mem.sub.refl _) _ _,vk _⟩,?_⟩⟩;rintro mm V3 a1 a2 a3 a4 a5 a6 ⟨n,ob,es,rfl,hn,X,r,hes⟩ J2 B;simp only[yE,and_true]at X;obtain⟨q1,q2,q3,q4,q5,q6⟩:=X;cases inj_s _ _ q1;cases AT _ _ q2;cases inj_s _ _ q3;cases AT _ _ q4;cases AT _ _ q5;cases BG _ _ q6;have O:=N.sub r.sub;refine⟨λu=>?_,λY=>?_⟩
   ·obtain⟨g,hgm,hgx,-,hgl,A,I,z⟩:=O.globals.get u;refine⟨A,I,u,_,_,z,Tri.mono MV ?_⟩;rintro _ _ ⟨rfl,bb,rfl⟩;refine⟨_,rfl,λ_=>KV.call ⟨_,_,_,_,rfl,Tri.mono (MX (e:=.mk 4 0 g.name Ag []) (hm.gs g hgm)) ?_⟩,λ_=>⟨O.globals.succ u,B _ _ _ (show d.globals.length-(n+1)<d.globals.length-n by omega) ⟨n+1,_,es,rfl,by omega,rfl,r,by omega⟩⟩⟩;rintro _ V4 ⟨s4,⟨ox,nx,lx,ex,kx,lsx,xx,xsx⟩,rfl⟩;exact⟨_,_,_,_,_,rfl,λtb y=>moreS (Own.growE r s4) (by omega) y rfl rfl λo5 V5 C=>⟨o5,rfl,O.globals.succ u,B _ _ _ (show d.globals.length-(n+1)<d.globals.length-n by omega) ⟨n+1,_,_,rfl,by omega,rfl,C,by simp;omega⟩⟩⟩
   ·refine Tri.mono Ib ?_;rintro _ V4 ⟨s4,⟨ox,nx,lx,ex,kx⟩,rfl⟩;refine⟨_,_,_,_,rfl,Tri.mono giveV ?_⟩;rintro _ V5 ⟨s5,⟨oy,ny,ly,ey,ky,lsy,xy,xsy⟩,rfl⟩;refine⟨_,_,_,_,_,rfl,λtb y=>?_⟩;refine moreS (Own.growE r (s4.trans s5)) (by omega) y rfl rfl λo6 V6 D=>⟨o6,rfl,λtb2 K=>?_⟩;refine moreP (Own.growE own (D.sub)) (by omega) K rfl rfl λo7 V7 Q=>⟨o7,rfl,?_⟩;rw[hR];exact⟨Q.sub,o7,_,rfl,Q.rows (λ_=>rfl) (by decide),by rw[yP,w];rfl⟩
end
theorem flat_row{α:Type}{row:α->List Value}{sz:Nat}(u:∀x,(row x).length=sz){x':α}{j:Nat}{vs:List Value}(w:j+vs.length<=sz):∀{xs:List α}{i:Nat}{x:α},xs[i]?=some x->row x'=(row x).take j++vs++(row x).drop (j+vs.length)->(xs.set i x').flatMap row=(xs.flatMap row).take (i*sz+j)++vs++(xs.flatMap row).drop (i*sz+j+vs.length)
 |[],_,_,h,_=>by simp at h
 |y::z,0,x,h,e=>by
  grind
 |y::z,i+1,x,h,e=>by
  rw[List.getElem?_cons_succ]at h;have n:=u y;have r:(i+1)*sz=sz+i*sz:=by grind
  have q:∀(L:List Value)(k:Nat),(row y++L).take (sz+k)=row y++L.take k:=λL k=>by
   grind
  have o:∀(L:List Value)(k:Nat),(row y++L).drop (sz+k)=L.drop k:=λL k=>by
   rw[List.drop_append,List.drop_of_length_le (by omega),n,Nat.add_sub_cancel_left,vT]
  rw[List.set_cons_succ,yb,yb,flat_row u w h e,r,show sz+i*sz+j=sz+(i*sz+j)by omega,show sz+(i*sz+j)+vs.length=sz+(i*sz+j+vs.length)by omega,q,o];simp_all
theorem flat_len'{α:Type}{row:α->List Value}{sz:Nat}(h:∀x,(row x).length=sz)(xs:List α):(xs.flatMap row).length=xs.length*sz:=by
 induction xs with
 |nil=>simp
 |cons x xs k=>grind
section
variable{α:Type}{row:α->List Value}{sz:Nat}{V0 V V':Mem}{e:TypeId}{s:Sl}{xs:List α}
theorem own_row(z:∀x,(row x).length=sz)(o:Sx.Own V0 V e sz s (xs.flatMap row)){i j k:Nat}{x x':α}{vs:List Value}(v:xs[i]?=some x)(N:j+vs.length<=sz)(hv:vs≠[])(h:row x'=(row x).take j++vs++(row x).drop (j+vs.length))(Z:k=i*sz+j){q:Mem->Prop}
  (Y:∀V',Sx.Own V0 V' e sz s ((xs.set i x').flatMap row)->(∀c,¬Bl s c->V' c=V c)->q V'):As (Aa s.p k) 0 vs V q:=by
 subst Z;have Q:0<vs.length:=by grind
 have P:s.n=xs.length:=o.n_eq z (by omega);have M:i<xs.length:=(yv.1 v).1;rcases o.cases0 with⟨w,y,H⟩|⟨O,g,cur,w,y,H,J,A,h6,h7⟩;·omega
 have G:=o.len;have h8:(i+1)*sz<=s.n*sz:=y6 _ (by omega);have F:s.n*sz<=s.c*sz:=y6 _ J;rw[Nat.add_mul,Nat.one_mul]at h8;rw[w];have I:=flat_row z N v h;have u:=flat_len' z (xs.set i x');rw[vY]at u;have key:(cur.toList.take (i*sz+j)++vs++cur.toList.drop (i*sz+j+vs.length)).take (s.n*sz)=(xs.set i x').flatMap row:=by
  rw[I,<-h7,List.take_take,ux (by omega),List.drop_take,List.take_append,wR (by rw[zw,vK,vu];omega)];congr 2;rw[zw,vK,vu];omega
 refine As.at2 (off:=i*sz+j) H (by omega) (Y _ ⟨o.sub.set y _,by rw[u,P],.inr ⟨g,_,w,y,Mem.set_same _ _ _,J,A,?_,by simpa using key⟩⟩ λc r=>?_);·rw[List.size_toArray,zw,zw,vK,List.length_drop,vu,ux (by omega)];omega
 ·rw[Mem.set_ne];rintro rfl;exact r ⟨O,w⟩
end
theorem Jv{V:Mem}{l:Sl}{xs:List Fld}(h:Ad V l 2 (xs.map Fld.row))(z:xs.length<=2147483648):Tri xG 95 #[l.v] V λe V'=>∃s:Sl,e=.returned (.slice s.p s.n s.c)/\Sx.Own V V' 110 2 s (xs.flatMap Fld.row):=by
 refine OD ?_;refine⟨λy=>⟨⟨none,0,0⟩,rfl,?_⟩,λy j k=>?_⟩
 ·have:xs=[]:=by
   cases xs with
   |nil=>rfl
   |cons a l2=>
    have:=h.base (i:=0) (by simp);simp_all
  grind[Own.nil,Mem.sub.refl]
 ·have w:=Mem.sub_new k (.cells #[] 110 (0,0));exact ap23 (s:=⟨some ⟨j,0,none⟩,0,0⟩) (u:=l) (xs:=[]) (ys:=xs) rfl rfl (Own.empty (V0:=V) w _ _ _) (h.sub w) (by simpa using z) λs' V' r=>⟨s',rfl,s',rfl,by simpa using r⟩
theorem PN{V:Mem}{l:Sl}{xs:List Ty}(h:Ad V l 2 (xs.map Ty.row))(z:xs.length<=2147483648):Tri xG 94 #[l.v] V λe V'=>∃s:Sl,e=.returned (.slice s.p s.n s.c)/\Sx.Own V V' 112 2 s (xs.flatMap Ty.row):=by
 refine OC ?_;refine⟨λy=>⟨⟨none,0,0⟩,rfl,?_⟩,λy j k=>?_⟩
 ·have:xs=[]:=by
   cases xs with
   |nil=>rfl
   |cons a l2=>
    have:=h.base (i:=0) (by simp);simp_all
  grind[Own.nil,Mem.sub.refl]
 ·have w:=Mem.sub_new k (.cells #[] 112 (0,0));exact ap22 (s:=⟨some ⟨j,0,none⟩,0,0⟩) (u:=l) (xs:=[]) (ys:=xs) rfl rfl (Own.empty (V0:=V) w _ _ _) (h.sub w) (by simpa using z) λs' V' r=>⟨s',rfl,s',rfl,by simpa using r⟩
theorem PO{V:Mem}{l:Sl}{xs:List Ms}(h:Ad V l 7 (xs.map Ms.row))(z:xs.length<=2147483648):Tri xG 98 #[l.v] V λe V'=>∃s:Sl,e=.returned (.slice s.p s.n s.c)/\Sx.Own V V' 116 7 s (xs.flatMap Ms.row):=by
 refine OG ?_;refine⟨λy=>⟨⟨none,0,0⟩,rfl,?_⟩,λy j k=>?_⟩
 ·have:xs=[]:=by
   cases xs with
   |nil=>rfl
   |cons a l2=>
    have:=h.base (i:=0) (by simp);simp_all
  grind[Own.nil,Mem.sub.refl]
 ·have w:=Mem.sub_new k (.cells #[] 116 (0,0));exact ap25 (s:=⟨some ⟨j,0,none⟩,0,0⟩) (u:=l) (xs:=[]) (ys:=xs) rfl rfl (Own.empty (V0:=V) w _ _ _) (h.sub w) (by simpa using z) λs' V' r=>⟨s',rfl,s',rfl,by simpa using r⟩
theorem PQ{V:Mem}{l:Sl}{xs:List Iv}(h:Ad V l 6 (xs.map Iv.row))(z:xs.length<=2147483648):Tri xG 99 #[l.v] V λe V'=>∃s:Sl,e=.returned (.slice s.p s.n s.c)/\Sx.Own V V' 99 6 s (xs.flatMap Iv.row):=by
 refine OH ?_;refine⟨λy=>⟨⟨none,0,0⟩,rfl,?_⟩,λy j k=>?_⟩
 ·have:xs=[]:=by
   cases xs with
   |nil=>rfl
   |cons a l2=>
    have:=h.base (i:=0) (by simp);simp_all
  grind[Own.nil,Mem.sub.refl]
 ·have w:=Mem.sub_new k (.cells #[] 99 (0,0));exact app26 (s:=⟨some ⟨j,0,none⟩,0,0⟩) (u:=l) (xs:=[]) (ys:=xs) rfl rfl (Own.empty (V0:=V) w _ _ _) (h.sub w) (by simpa using z) λs' V' r=>⟨s',rfl,s',rfl,by simpa using r⟩
theorem c100{V:Mem}{l:Sl}{xs:List Po}(h:Ad V l 5 (xs.map Po.row))(z:xs.length<=2147483648):Tri xG 100 #[l.v] V λe V'=>∃s:Sl,e=.returned (.slice s.p s.n s.c)/\Sx.Own V V' 180 5 s (xs.flatMap Po.row):=by
 refine x100 ?_;refine⟨λy=>⟨⟨none,0,0⟩,rfl,?_⟩,λy j k=>?_⟩
 ·have:xs=[]:=by
   cases xs with
   |nil=>rfl
   |cons a l2=>
    have:=h.base (i:=0) (by simp);simp_all
  grind[Own.nil,Mem.sub.refl]
 ·have w:=Mem.sub_new k (.cells #[] 180 (0,0));exact ap27 (s:=⟨some ⟨j,0,none⟩,0,0⟩) (u:=l) (xs:=[]) (ys:=xs) rfl rfl (Own.empty (V0:=V) w _ _ _) (h.sub w) (by simpa using z) λs' V' r=>⟨s',rfl,s',rfl,by simpa using r⟩
theorem c101{V:Mem}{l:Sl}{xs:List Bd}(h:Ad V l 5 (xs.map Bd.row))(z:xs.length<=2147483648):Tri xG 101 #[l.v] V λe V'=>∃s:Sl,e=.returned (.slice s.p s.n s.c)/\Sx.Own V V' 183 5 s (xs.flatMap Bd.row):=by
 refine x101 ?_;refine⟨λy=>⟨⟨none,0,0⟩,rfl,?_⟩,λy j k=>?_⟩
 ·have:xs=[]:=by
   cases xs with
   |nil=>rfl
   |cons a l2=>
    have:=h.base (i:=0) (by simp);simp_all
  grind[Own.nil,Mem.sub.refl]
 ·have w:=Mem.sub_new k (.cells #[] 183 (0,0));exact ap28 (s:=⟨some ⟨j,0,none⟩,0,0⟩) (u:=l) (xs:=[]) (ys:=xs) rfl rfl (Own.empty (V0:=V) w _ _ _) (h.sub w) (by simpa using z) λs' V' r=>⟨s',rfl,s',rfl,by simpa using r⟩
def LV(V:Mem):Ending->Mem->Prop:=λr V'=>V.sub V'/\∃l:Sl,r=.returned l.v
theorem szEs_in:∀{l:List E}{x:E},x∈l->AG x<=Cu l
 |y::k,x,h=>by
  unfold Cu;rcases yD.1 h with rfl|h;·omega
  ·have:=szEs_in h;omega
theorem szEs_ge:∀l:List E,l.length<=Cu l
 |[]=>vk _
 |x::xs=>by
  have:=szEs_ge xs;cases x with
  |mk=>unfold Cu AG;simp only[zy];omega
theorem szE_k(e:E):AG e=1+Cu e.k:=by cases e;unfold AG;rfl
mutual
def GJ:S->Nat|.mk _ _ _ es _ ls _ xs=>1+Cu es+szTs ls+szTs xs
def szTs:List S->Nat|[]=>0|x::xs=>GJ x+szTs xs
end
theorem szTs_in:∀{l:List S}{x:S},x∈l->GJ x<=szTs l
 |y::k,x,h=>by
  unfold szTs;rcases yD.1 h with rfl|h;·omega
  ·have:=szTs_in h;omega
theorem szTs_ge:∀l:List S,l.length<=szTs l
 |[]=>vk _
 |x::xs=>by
  have:=szTs_ge xs;cases x with
  |mk=>unfold szTs GJ;simp only[zy];omega
theorem szT_k(s:S):GJ s=1+Cu s.es+szTs s.ls+szTs s.xs:=by cases s;unfold GJ;rfl
section
variable{W V1:Mem}
theorem moreE{o:Sl}{es:List E}(own:Sx.Own W V1 97 4 o (es.flatMap E.row))(J:es.length<=1000000){w x2:Int}{x3:KB}{x4:Sl}{j:Nat}(i:V1 j=none){ty:Nat}{y z:Operand}{vals:Operand->Value}(r:vals y=.slice o.p o.n o.c)(v:vals z=.slice (sa j) 1 1){q:Value->Mem->Prop}
  (H:∀k V',Sx.Own W V' 97 4 k ((es++[E.mk w x2 x3 x4 []]).flatMap E.row)->q (.slice k.p k.n k.c) V'):GenK xG (.call {callee:=.builtin .append,args:=#[y,z],argTypes:=#[95,95]}) ty vals (V1.set j (.cells #[uI w,uI x2,uS x3,uL x4] 97 (0,0))) q:=
 ap95 (s:=o) (u:=⟨some ⟨j,0,none⟩,1,1⟩) (xs:=es) (ys:=[.mk w x2 x3 x4 []]) r v (own.new i _) (Ad.cells (xs:=[E.mk w x2 x3 x4 []]) (row:=E.row) Ao rfl (λ_=>rfl) rfl (by simp)) (by simp;omega) λk V' h=>H k V' h
end
theorem exprsL{l:List E}(H:∀x∈l,∀V,E.Ok V x->AG x<=1000->Tri xG 259 #[x.l.v] V (LV V)){V:Mem}{s:Sl}(G:Ad V s 4 (l.map E.row))(N:∀x∈l,E.Ok V x)(I:Cu l<=1000):Tri xG 259 #[s.v] V (LV V):=by
 refine x259 ?_;have q:=szEs_ge l;refine DB (mk:=λs:Sl=>.slice s.p s.n s.c) (b0:=Ag) AT l.length (λi o V1=>∃es:List E,es.length=i/\Sx.Own V V1 97 4 o (es.flatMap E.row)) ⟨[],rfl,Own.nil (Mem.sub.refl _) _ _⟩ ?_;rintro i o V1 J M ⟨es,y,own⟩ Z;have u:=G.sub own.sub;refine⟨λh=>?_,λY=>⟨own.sub,o,rfl⟩⟩;obtain⟨x,k,F,-,j,Q,P,w⟩:=u.get h;refine⟨Q,P,h,_,_,_,_,w,Tri.mono (H x k V1 ((N x k).sub own.sub) (by have:=szEs_in k;omega)) ?_⟩;rintro _ V2 ⟨O,l2,rfl⟩;exact⟨_,rfl,λL r=>moreE (Own.growE own O) (by omega) r rfl rfl λA V' z=>⟨A,rfl,u.succ h,Z j _ _ ⟨_,by simp[y],z⟩⟩⟩
theorem c259:∀(e:E)(V:Mem),E.Ok V e->AG e<=1000->Tri xG 259 #[e.l.v] V (LV V):=by
 intro e;induction e using E.ind with
 |h e u=>exact λV k w=>exprsL (λx z V=>u x z V) k.rows k.kids (by rw[szE_k]at w;omega)
def MY(x:S):Prop:=∀V,S.Ok V x->GJ x<=1000->Tri xG 208 #[x.ll.v] V (LV V)/\Tri xG 208 #[x.xl.v] V (LV V)
theorem stmtsL{l:List S}(Z:∀x∈l,MY x){V:Mem}{s:Sl}(P:Ad V s 5 (l.map S.row))(O:∀x∈l,S.Ok V x)(C:szTs l<=1000):Tri xG 208 #[s.v] V (LV V):=by
 refine x208 ?_;have Y:=szTs_ge l;refine DB (mk:=λs:Sl=>.slice s.p s.n s.c) (b0:=Ag) AT l.length (λi o V1=>∃es:List S,es.length=i/\Sx.Own V V1 114 5 o (es.flatMap S.row)) ⟨[],rfl,Own.nil (Mem.sub.refl _) _ _⟩ ?_;rintro i o V1 J D ⟨es,q,own⟩ A;have z:=P.sub own.sub;refine⟨λw=>?_,λI=>⟨own.sub,o,rfl⟩⟩;obtain⟨x,h,K,-,H,M,F,u⟩:=z.get w;rw[S.row_eq]at u;have j:GJ x<=1000:=by have:=szTs_in h;omega
 have L:=szT_k x;have k:=(O x h).sub own.sub;refine⟨M,F,w,_,_,_,_,_,u,Tri.mono (exprsL (l:=x.es) (λy _ V=>c259 y V) k.eRows k.eOk (by omega)) ?_⟩;rintro _ V2 ⟨G,l2,rfl⟩;refine⟨_,rfl,Tri.mono (Z x h V2 (k.sub G) j).1 ?_⟩;rintro _ R ⟨Q,T,rfl⟩;refine⟨_,rfl,Tri.mono (Z x h R (k.sub (G.trans Q)) j).2 ?_⟩;rintro _ U ⟨X,l4,rfl⟩;exact⟨_,rfl,λtb N=>moreS (Own.growE own (G.trans (Q.trans X))) (by omega) N rfl rfl λB V' r=>⟨B,rfl,z.succ w,A H _ _ ⟨_,by simp[q],r⟩⟩⟩
theorem PR:∀x:S,MY x:=by
 intro x;induction x using S.ind with
 |h x u w=>
  intro V k z;have:=szT_k x;exact⟨stmtsL u k.lRows k.lOk (by omega),stmtsL w k.xRows k.xOk (by omega)⟩
theorem c102:∀(e:E)(V:Mem),E.Ok V e->AG e<=1000->Tri xG 102 #[e.v] V (EV V):=by
 intro e;induction e using E.ind with
 |h e Z=>
 intro V H K;have Y:=H.rows;have G:=szEs_ge e.k;have Q:=szE_k e;refine x102 ?_;refine⟨λmm xs V1=>∃(i:Nat)(o:Sl)(es:List E),mm=e.k.length-i/\i<=e.k.length/\xs=[uI e.op,uI e.n,uS e.s,uL o,uI i]/\Sx.Own V V1 97 4 o (es.flatMap E.row)/\es.length=i,e.k.length,⟨0,Ag,[],rfl,vk _,rfl,Own.nil (Mem.sub.refl _) _ _,rfl⟩,?_⟩;rintro mm V1 S T U P v9 ⟨i,o,es,rfl,hi,r,own,q⟩ J O;simp only[yE,and_true]at r;obtain⟨A,I,M,F,L⟩:=r;cases BG _ _ A;cases BG _ _ I;cases inj_s _ _ M;cases AT _ _ F;cases BG _ _ L;have z:=Y.sub own.sub;refine⟨λu=>?_,λR=>⟨own.sub,.mk e.op e.n e.s P [],rfl⟩⟩;obtain⟨x,w,r,-,X,B,C,y⟩:=z.get u;refine⟨B,C,u,_,_,_,_,y,Tri.mono (Z x w V1 ((H.kids x w).sub own.sub) (by have:=szEs_in w;omega)) ?_⟩;rintro _ V2 ⟨D,⟨N,n',s',l',k'⟩,rfl⟩;exact⟨_,_,_,_,rfl,λtb c=>moreE (Own.growE own D) (by omega) c rfl rfl λN V' j=>⟨N,rfl,z.succ u,O _ _ _ (show e.k.length-(i+1)<e.k.length-i by omega) ⟨i+1,_,_,rfl,by omega,rfl,j,by simp[q]⟩⟩⟩
section
variable{V:Mem}{d:Ds}
theorem c149{p:Pr}(h:Pr.Ok V p)(i:p.params.length<=1000)(n:p.locals.length<=1000)(w:szTs p.body<=1000):Tri xG 149 #[p.v] V (PV V p.name):=by
 refine x149 ?_;refine Tri.mono (Jv h.params (by omega)) ?_;rintro _ V1 ⟨a,rfl,u⟩;refine⟨_,rfl,Tri.mono (Jv (h.locals.sub u.sub) (by omega)) ?_⟩;rintro _ V2 ⟨b,rfl,z⟩;have k:=u.sub.trans z.sub;refine⟨_,rfl,Tri.mono (stmtsL (λx _=>PR x) (h.body.sub k) (λx y=>(h.stmts x y).sub k) w) ?_⟩;rintro _ r ⟨j,l,rfl⟩;exact⟨_,rfl,k.trans j,⟨p.name,a,[],p.result,b,[],l,[]⟩,rfl,rfl⟩
structure Mild2 (d:Ds):Prop where
 ps:∀p∈d.procs,p.params.length<=1000/\p.locals.length<=1000/\szTs p.body<=1000
 ms:∀m∈d.measures,AG m.x<=1000
 vs:∀m∈d.invs,AG m.x<=1000
 lp:d.procs.length<=1000
 lv:d.invs.length<=1000
 qs:d.pots=[]
 bs:d.bounds=[]
theorem PT[Tab V](u:Ds.Ok V d)(hv:A7 d=true)(hm:Mild2 d){nm:KB}(Y:∃q∈d.procs,q.name=nm):Tri xG 96 #[d.v,.string nm] V λr V'=>V.sub V'/\∃q:Pr,r=.returned (.tuple #[q.v,.int .i64 0]):=by
 refine OE ?_;refine(c127 u).call ⟨_,rfl,λ_=>?_,λh=>absurd hv h⟩;refine AK (mk:=.int .i64) (b0:=0) d.procs.length (λi V1=>V1=V/\∀j q,j<i->d.procs[j]?=some q->q.name≠nm) ⟨rfl,λj q h=>by omega⟩ ?_;rintro i b _ J U ⟨rfl,Z⟩ Q;refine⟨λk=>?_,λo=>?_⟩
 ·obtain⟨x,w,P,-,c,O,A,z⟩:=u.procs.get k;obtain⟨I,M,F⟩:=hm.ps x w;refine⟨O,A,k,_,_,_,_,_,z,λ_=>Tri.mono (c149 (u.procsOk x w) I M F) ?_,λH=>⟨u.procs.succ k,Q c _ _ ⟨rfl,λj q G y=>?_⟩⟩⟩
  ·rintro _ V2 ⟨L,⟨R,X,B,C,D,K,S,T⟩,rfl,-⟩;exact⟨_,_,_,_,_,rfl,L,⟨R,X,B,C,D,K,S,T⟩,rfl⟩
  ·rcases Nat.lt_succ_iff_lt_or_eq.1 G with h|rfl;·exact Z j q h y
   ·rw[P]at y;cases y;exact H
 ·obtain⟨q,y,N⟩:=Y;obtain⟨j,n⟩:=List.mem_iff_getElem?.1 y;have:=(yv.1 n).1;exact absurd N (Z j q (by have:=(u.procs.done o).2;omega) n)
end
def Tryz.ren316:Go.Shelf.Ren:=⟨λ|316=>150|n=>n,λ|9=>9|3=>3|5=>5|4=>4|0=>0|37=>286|127=>287|n=>n,λn=>n⟩
theorem Tryz.lays316:Go.Proofs.LaysM.n316 xG Tryz.ren316:={
 mixed:=by kernel_rfl
 f316:=Tryz.func150.trans (congrArg some (by kernel_rfl))
 t0:=Tryz.underlying0
 a0:=Tryz.isAgg0
 z0:=Tryz.sizeOf0
 v0:=Tryz.zeroValue0
 i0:=by kernel_rfl
 t3:=Tryz.underlying3
 a3:=Tryz.isAgg3
 z3:=Tryz.sizeOf3
 v3:=Tryz.zeroValue3
 i3:=by kernel_rfl
 t4:=Tryz.underlying4
 a4:=Tryz.isAgg4
 z4:=Tryz.sizeOf4
 v4:=Tryz.zeroValue4
 i4:=by kernel_rfl
 t9:=Tryz.underlying9
 a9:=Tryz.isAgg9
 z9:=Tryz.sizeOf9
 v9:=Tryz.zeroValue9
 i9:=by kernel_rfl
 t37:=Tryz.underlying286
 a37:=Tryz.isAgg286
 z37:=Tryz.sizeOf286
 v37:=Tryz.zeroValue286
 i37:=by kernel_rfl
 t127:=Tryz.underlying287
 a127:=Tryz.isAgg287
 z127:=Tryz.sizeOf287
 v127:=Tryz.zeroValue287
 i127:=by kernel_rfl
 t5:=Tryz.underlying5
 a5:=Tryz.isAgg5
 z5:=Tryz.sizeOf5
 v5:=Tryz.zeroValue5
 i5:=by kernel_rfl
}
theorem frm_below{V:Mem}{w w':World}(hw:V.le w)(h:Go.RowKit.Below w.heap.size w w'):Aq V w V w':=by
 refine⟨h.size,λb o k=>?_,λb k _=>h.block b k,λb k=>.inl k,h.os,h.output⟩;have u:=(Array.getElem?_eq_some_iff.1 (hw b o k)).1;exact(h.block b u).trans (hw b o k)
theorem PU{V:Mem}{s:KB}(k:s.size<=1000):Tri xG 97 #[.string s] V λr V'=>r=.returned (.string s)/\V'=V:=by
 refine OF ?_;refine Tri.mono (R:=λr V'=>r=.returned (.string s)/\V'=V) ?_ ?_
 ·unfold Tri;intro w hw;refine Gn (Any.stringslite_Clone Tryz.lays316 s w (by omega)) ?_;rintro e w' ⟨rfl,h⟩;exact⟨V,⟨rfl,rfl⟩,frm_below hw h⟩
 ·rintro _ _ ⟨rfl,rfl⟩;exact⟨_,rfl,rfl,rfl⟩
section
variable{V:Mem}{d:Ds}
theorem ms_part{x:Ms}{o n:Int}{s:KB}{l:Sl}:Ms.row ⟨x.name,x.ty,x.nil,.mk o n s l []⟩=(Ms.row x).take 3++[uI o,uI n,uS s,uL l]++(Ms.row x).drop (3+4):=rfl
theorem iv_part{x:Iv}{o n:Int}{s:KB}{l:Sl}:Iv.row ⟨x.name,x.ty,.mk o n s l []⟩=(Iv.row x).take 2++[uI o,uI n,uS s,uL l]++(Iv.row x).drop (2+4):=rfl
theorem set_tail{α:Type}{l k:List α}{i:Nat}{x:α}(u:l.length=k.length)(h:∀j,i<=j->l[j]?=k[j]?):(l.set i x).length=k.length/\∀j,i+1<=j->(l.set i x)[j]?=k[j]?:=
 ⟨by rw[vY,u],λj w=>by rw[List.getElem?_set_ne (by omega)];exact h j (by omega)⟩
theorem PW[Tab V](hd:Ds.Ok V d)(hv:A7 d=true)(hm:Mild d)(A:Mild2 d)(hnm:∀p∈d.procs,p.name.size<=40):Tri xG 57 #[d.v] V λr V'=>V.sub V'/\∃(o:Ds)(ps:List Pr),r=.returned (.tuple #[o.v,.int .i64 0])/\(∃W,V.sub W/\Sx.Own W V' 74 5 o.ps (ps.flatMap Pr.row))/\ps.length=d.procs.length:=by
 obtain⟨R,hR⟩:∃R:Ending->Mem->Prop,R=λr V'=>V.sub V'/\∃(o:Ds)(ps:List Pr),r=.returned (.tuple #[o.v,.int .i64 0])/\(∃W,V.sub W/\Sx.Own W V' 74 5 o.ps (ps.flatMap Pr.row))/\ps.length=d.procs.length:=⟨_,rfl⟩;rw[<-hR];refine OP ?_;have lt:=hm.lt;have lg:=hm.lg;have lm:=hm.lm;have lp:=A.lp;have lv:=A.lv;refine Tri.mono (PN hd.types (by omega)) ?_;rintro _ V1 ⟨t8,rfl,o8⟩;refine⟨t8,rfl,E3 d.types.length (λi V2=>∃ts:List Ty,ts.length=d.types.length/\Sx.Own V V2 112 2 t8 (ts.flatMap Ty.row)) ⟨_,rfl,o8⟩ ?_⟩;rintro i V2 J hi ⟨ts,hts,o2⟩ Z;have I:=hd.sub o2.sub;refine⟨λu=>?_,λM=>?_⟩
 ·obtain⟨t,htm,htx,-,htl,N,F,w⟩:=I.types.get u;refine⟨N,F,u,_,_,w,Tri.mono (Jv (I.typesOk t htm).fields (by have:=(hm.ts t htm).2.1;omega)) ?_⟩;rintro _ V3 ⟨f,rfl,o3⟩;have o4:=Own.growE o2 o3.sub;obtain⟨y,-,hy,-,-,hp8,hz8,-⟩:=(o4.rows (row:=Ty.row) (λ_=>rfl) (by decide)).get (i:=i) (by rw[o4.n_eq (λ_=>rfl) (by decide)];omega);refine⟨f,rfl,hp8,hz8,by rw[o4.n_eq (row:=Ty.row) (λ_=>rfl) (by decide)];omega,Ah hp8,?_⟩;rw[HG];exact own_row (row:=Ty.row) (λ_=>rfl) o4 (i:=i) (j:=1) (x:=y) (x':=⟨y.name,f,[]⟩) hy (by simp) (by simp) rfl rfl λV' L _=>⟨I.types.succ u,Z htl _ ⟨_,by rw[vY,hts],L⟩⟩
 have s2:=o2.sub;refine Tri.mono (Jv I.globals (by omega)) ?_;rintro _ U ⟨gg,rfl,o3⟩;have sU:=s2.trans o3.sub;clear o3 o2 Z;refine⟨gg,rfl,⟨λmm xs T=>∃(i:Nat)(o:Sl)(ps:List Pr),mm=d.procs.length-i/\i<=d.procs.length/\xs=[uS d.name,uL t8,uL gg,uL o,uL d.ms,uL d.is,uL d.qs,uL d.bs,uI 0,uI i]/\Sx.Own U T 74 5 o (ps.flatMap Pr.row)/\ps.length=i,d.procs.length,⟨0,Ag,[],rfl,vk _,rfl,Own.nil (Mem.sub.refl _) _ _,rfl⟩,?_⟩⟩;rintro mm T a1 a2 a3 a4 a5 a6 a7 a8 a9 a10 ⟨i,o,ps,rfl,hi,H,own,hps⟩ J Z;simp only[yE,and_true]at H;obtain⟨q1,q2,q3,q4,q5,q6,q7,q8,q9,q10⟩:=H;cases inj_s _ _ q1;cases AT _ _ q2;cases AT _ _ q3;cases AT _ _ q4;cases AT _ _ q5;cases AT _ _ q6;cases AT _ _ q7;cases AT _ _ q8;cases BG _ _ q9;cases BG _ _ q10;have s4:=sU.trans own.sub;have z:=hd.sub s4;haveI:Tab T:=Tab.sub (V:=V) inferInstance s4;refine⟨λu=>?_,λM=>?_⟩
 ·obtain⟨q,hqm,hqx,-,hql,N,F,w⟩:=z.procs.get u;refine⟨N,F,u,_,_,_,_,_,w,Tri.mono (PU (by have:=hnm q hqm;omega)) ?_⟩;rintro _ _ ⟨rfl,rfl⟩;refine⟨_,rfl,Tri.mono (PT z hv A ⟨q,hqm,rfl⟩) ?_⟩;rintro _ V6 ⟨s6,⟨q1,q2,q3,q4,q5,q6,q7,q8⟩,rfl⟩;exact⟨_,_,_,_,_,_,rfl,λ_ tb htb=>moreP (Own.growE own s6) (by omega) htb rfl rfl λL V' own'=>⟨L,rfl,z.procs.succ u,Z _ _ _ (show d.procs.length-(i+1)<d.procs.length-i by omega) ⟨i+1,_,_,rfl,by omega,rfl,own',by simp[hps]⟩⟩,λh=>absurd rfl h⟩
 have hdn:=(z.procs.done M).2;have hpl:ps.length=d.procs.length:=by omega
 have ownP:=own;clear own Z;refine Tri.mono (PO z.measures (by omega)) ?_;rintro _ V5 ⟨m5,rfl,o5⟩;refine⟨m5,rfl,Tri.mono (PQ (z.invs.sub o5.sub) (by omega)) ?_⟩;rintro _ V6 ⟨v6,rfl,o6⟩;have B:=o5.sub.trans o6.sub;refine⟨v6,rfl,Tri.mono (c100 (z.pots.sub B) (by rw[A.qs];simp)) ?_⟩;rintro _ V7 ⟨p7,rfl,o7⟩;refine⟨p7,rfl,Tri.mono (c101 (z.bounds.sub (B.trans o7.sub)) (by rw[A.bs];simp)) ?_⟩;rintro _ V8 ⟨b8,rfl,o8⟩;have n7:p7.n=0:=by rw[o7.n_eq (row:=Po.row) (λ_=>rfl) (by decide),A.qs];rfl
 have n8:b8.n=0:=by rw[o8.n_eq (row:=Bd.row) (λ_=>rfl) (by decide),A.bs];rfl
 have C:=o7.sub.trans o8.sub;have dj:∀c,Bl v6 c->¬Bl m5 c:=λc h6 h5=>by
  obtain⟨cur,hc⟩:=Own.some o5 h5;have:=Own.none0 o6 h6;rw[hc]at this;cases this
 refine⟨b8,rfl,E3 d.measures.length (λi V9=>∃ms:List Ms,(ms.length=d.measures.length/\∀j,i<=j->ms[j]?=d.measures[j]?)/\Sx.Own T V9 116 7 m5 (ms.flatMap Ms.row)/\Sx.Own T V9 99 6 v6 (d.invs.flatMap Iv.row)) ⟨_,⟨rfl,λ_ _=>rfl⟩,Own.growE o5 (o6.sub.trans C),Own.growE (o6.narrow o5.sub) C⟩ ?_⟩;clear o5 o6 o7 o8 B C;rintro i V9 J hi ⟨ms,⟨D,Q⟩,O,o9v⟩ Z;have K:=O.rows (row:=Ms.row) (λ_=>rfl) (by decide);have n9:=K.n_eq;refine⟨λu=>?_,λM=>?_⟩
 ·obtain⟨x,G,H,-,hxl,N,F,w⟩:=K.get u;have S:d.measures[i]?=some x:=by rw[<-Q i (Nat.le_refl _)];exact H
  have G:=xM S;refine⟨N,F,u,Ah N,_,_,_,_,_,_,_,w,Tri.mono (c102 x.x V9 ((z.measuresOk x G).x.sub O.sub) (A.ms x G)) ?_⟩;rintro _ P ⟨s10,⟨o,n,s,l,k⟩,rfl⟩;refine⟨_,_,_,_,rfl,N,F,u,Ah N,?_⟩;rw[HG];refine own_row (row:=Ms.row) (λ_=>rfl) (Own.growE O s10) (i:=i) (j:=3) (x:=x) (x':=⟨x.name,x.ty,x.nil,.mk o n s l []⟩) H (by simp) (by simp) ms_part rfl λV' L hk'=>⟨K.succ u,Z (by omega) _ ⟨_,set_tail D Q,L,?_⟩⟩;exact Own.moveB (Own.growE o9v s10) L.sub λg cur hg hc=>(hk' g (dj g hg)).trans hc
 clear Z K n9 O;refine E3 d.invs.length (λi P=>∃ms:List Iv,(ms.length=d.invs.length/\∀j,i<=j->ms[j]?=d.invs[j]?)/\Sx.Own T P 99 6 v6 (ms.flatMap Iv.row)) ⟨_,⟨rfl,λ_ _=>rfl⟩,o9v⟩ ?_;rintro i P J hi ⟨ms,⟨D,Q⟩,O⟩ Z;have K:=O.rows (row:=Iv.row) (λ_=>rfl) (by decide);refine⟨λu=>?_,λM=>?_⟩
 ·obtain⟨x,G,H,-,hxl,N,F,w⟩:=K.get u;have S:d.invs[i]?=some x:=by rw[<-Q i (Nat.le_refl _)];exact H
  have G:=xM S;refine⟨N,F,u,Ah N,_,_,_,_,_,_,w,Tri.mono (c102 x.x P ((z.invsOk x G).sub O.sub) (A.vs x G)) ?_⟩;rintro _ V11 ⟨s11,⟨o,n,s,l,k⟩,rfl⟩;refine⟨_,_,_,_,rfl,N,F,u,Ah N,?_⟩;rw[HG];exact own_row (row:=Iv.row) (λ_=>rfl) (Own.growE O s11) (i:=i) (j:=2) (x:=x) (x':=⟨x.name,x.ty,.mk o n s l []⟩) H (by simp) (by simp) iv_part rfl λV' L _=>⟨K.succ u,Z (by omega) _ ⟨_,set_tail D Q,L⟩⟩
 refine E3 0 (λ_ V11=>V11=P) rfl ?_;rintro i X J hi rfl Z;refine⟨λu=>absurd u (by rw[n7];omega),λ_=>E3 0 (λ_ V12=>V12=X) rfl ?_⟩;rintro i2 Y J hi2 rfl Z;refine⟨λu=>absurd u (by rw[n8];omega),λ_=>?_⟩;rw[hR];exact⟨s4.trans O.sub,⟨d.name,t8,[],gg,[],a4,[],m5,[],v6,[],p7,[],b8,[]⟩,ps,rfl,⟨U,sU,Own.growE ownP O.sub⟩,hpl⟩
end
end Go.Proofs
