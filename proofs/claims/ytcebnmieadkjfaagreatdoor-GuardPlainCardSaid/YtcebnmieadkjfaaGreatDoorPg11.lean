/- Part 11: no statement of the seat is proved here. -/
import Derived.Test.YtcebnmieadkjfaaGreatDoorPg10
import Derived.OrdersIn
import Derived.OwnWalkIn
set_option linter.unusedVariables false
set_option linter.unusedSimpArgs false
open Option renaming none_or->xv,map_eq_some_iff->zi
open Go.Proofs.Tryz renaming underlying258->xk,underlying9->xo
open Go.Ending renaming returned->xJ
open List renaming find?_cons->xj,findIdx?_cons->yl,findIdx?->yj,findIdx?_eq_some_iff_getElem->yf,getElem?_eq_getElem->yu,mem_iff_getElem->yc,all_eq_true->z6,getD_eq_getElem?_getD->xg,getElem?_map->y5,mem_of_getElem?->xM
open Bool renaming false_eq_true->zN,and_eq_true->zC,or_eq_true->yQ
open Go.Sem renaming run_bind->zK,run_pure->zM
open Go.Result renaming andThen_ok->zL
open Go.MapKept renaming run_getObj_map->yg,run_setObj_map->ye
open Array renaming getElem?_eq_getElem->yT,toList_modify->yd,toList_eraseIdxIfInBounds->xi,mem_of_getElem?->xe
open Go.Instr renaming mapUpdate->yp
open Int renaming toNat_natCast->xh
open Prod.mk renaming injEq->zS
open Go.Fence renaming wide->xf
namespace Go.Proofs
open Go Go.Sx
attribute [local irreducible] Go.Sx.Tri
section
variable{V:Mem}{d:Ds}{c:Option Addr}
theorem impForm(h:BB V c d):FltC 183 [.pointer c] V (C3 d):=by
 refine x183 ?_;unfold C3;have q:=Mem.sub.refl V;refine⟨h.nn,h.nn,Ah h.nn,d.ms,h.cell (i:=4) rfl,?_⟩;unfold form1;generalize A:(λi (m:Ms)=>if(d.measures.take i).any (λg=>decide (g.name=m.name))=true then some ((m.name,-1,10):Flt)else if BE d m.ty=false then some (m.name,-1,9)else none)=F1;refine AK d.measures.length (λk V1=>V=V1/\Ak F1 0 d.measures=Ak F1 k (d.measures.drop k)) ⟨rfl,rfl⟩ ?_;rintro k b V1 J hi ⟨rfl,ha⟩ l;refine⟨λhk=>?_,λhk=>?_⟩
 ·obtain⟨g,hm,Y,y,hl,o,H,z⟩:=h.ok.measures.get hk;rw[y]at ha;refine⟨o,H,hk,_,_,_,_,_,_,_,z,h.nn,h.nn,Ah h.nn,d.ms,h.cell (i:=4) rfl,(c238 h.ok.measures Y).call ⟨_,rfl,λG=>DE ?_ q,λG=>(c240 h).call ⟨_,rfl,λN=>⟨h.ok.measures.succ hk,l hl _ _ ⟨rfl,?_⟩⟩,λN=>DE ?_ q⟩⟩⟩;·rw[ha,A8 (b:=(g.name,-1,10)) (by grind)];rfl
  ·rw[ha,BA (by grind)]
  ·rw[ha,A8 (b:=(g.name,-1,9)) (by grind)];rfl
 rw[(h.ok.measures.done hk).1,Ak]at ha;rw[ha,xv];refine⟨h.nn,h.nn,Ah h.nn,d.is,h.cell (i:=5) rfl,?_⟩;unfold form2;generalize W:(λi (m:Iv)=>if(d.invs.take i).any (λg=>decide (g.name=m.name))=true then some ((m.name,-1,10):Flt)else if m.ty≠sE/\BE d m.ty=false then some (m.name,-1,9)else none)=F2;refine AK d.invs.length (λk V1=>V=V1/\Ak F2 0 d.invs=Ak F2 k (d.invs.drop k)) ⟨rfl,rfl⟩ ?_;rintro k b V1 J hi ⟨rfl,ha⟩ l;refine⟨λhk=>?_,λhk=>?_⟩
 ·obtain⟨g,hm,Y,y,hl,o,H,z⟩:=h.ok.invs.get hk;rw[y]at ha;refine⟨o,H,hk,_,_,_,_,_,_,z,h.nn,h.nn,Ah h.nn,d.is,h.cell (i:=5) rfl,(c241 h.ok.invs Y).call ⟨_,rfl,λG=>DE ?_ q,λG=>⟨λZ=>⟨h.ok.invs.succ hk,l hl _ _ ⟨rfl,?_⟩⟩,λZ=>(c240 h).call ⟨_,rfl,λN=>⟨h.ok.invs.succ hk,l hl _ _ ⟨rfl,?_⟩⟩,λN=>DE ?_ q⟩⟩⟩⟩;·rw[ha,A8 (b:=(g.name,-1,10)) (by grind)];rfl
  ·rw[ha,BA (by rw[<-W];exact(if_neg G).trans (if_neg λe=>e.1 Z))]
  ·rw[ha,BA (by grind)]
  ·rw[ha,A8 (b:=(g.name,-1,9)) (by rw[<-W];exact(if_neg G).trans (if_pos ⟨Z,eq_false_of_ne_true N⟩))];rfl
 rw[(h.ok.invs.done hk).1,Ak]at ha;rw[ha,xv];refine⟨h.nn,h.nn,Ah h.nn,d.qs,h.cell (i:=6) rfl,?_⟩;unfold form3;generalize Q:(λ(_:Nat) (m:Po)=>if m.ty≠sE/\BE d m.ty=false then some ((sPot,-1,9):Flt)else none)=F3;refine AK d.pots.length (λk V1=>V=V1/\Ak F3 0 d.pots=Ak F3 k (d.pots.drop k)) ⟨rfl,rfl⟩ ?_;rintro k b V1 J hi ⟨rfl,ha⟩ l;refine⟨λhk=>?_,λhk=>?_⟩
 ·obtain⟨g,hm,Y,y,hl,o,H,z⟩:=h.ok.pots.get hk;rw[y]at ha;refine⟨o,H,hk,_,_,_,_,_,z,λZ=>⟨h.ok.pots.succ hk,l hl _ _ ⟨rfl,?_⟩⟩,λZ=>(c240 h).call ⟨_,rfl,λN=>⟨h.ok.pots.succ hk,l hl _ _ ⟨rfl,?_⟩⟩,λN=>DE ?_ q⟩⟩;·rw[ha,BA (by rw[<-Q];exact if_neg λe=>e.1 Z)]
  ·rw[ha,BA (by grind)]
  ·rw[ha,A8 (b:=(sPot,-1,9)) (by rw[<-Q];exact if_pos ⟨Z,eq_false_of_ne_true N⟩)];rfl
 rw[(h.ok.pots.done hk).1,Ak]at ha;rw[ha,xv];refine⟨h.nn,h.nn,Ah h.nn,d.bs,h.cell (i:=7) rfl,?_⟩;unfold form4;generalize I:(λi (b:Bd)=>if(BU d b.proc).isNone=true then some ((b.proc,-1,9):Flt)else if(d.bounds.take i).any (λg=>decide (g.proc=b.proc))=true then some (b.proc,-1,10)else none)=F4;refine AK d.bounds.length (λk V1=>V=V1/\Ak F4 0 d.bounds=Ak F4 k (d.bounds.drop k)) ⟨rfl,rfl⟩ ?_;rintro k b V1 J hi ⟨rfl,ha⟩ l;refine⟨λhk=>?_,λhk=>?_⟩
 ·obtain⟨g,hm,Y,y,hl,o,H,z⟩:=h.ok.bounds.get hk;rw[y]at ha;obtain⟨mt,M,L⟩:=h.procs;refine⟨o,H,hk,_,_,_,_,_,z,h.nn,h.nn,_,M,Bu.str xk xo zero74 L ?_⟩;cases O:BU d g.proc with
  |none=>
   refine⟨_,⟨none,0,0⟩,_,⟨none,0,0⟩,⟨none,0,0⟩,_,rfl,λh=>absurd h (by simp),λ_=>DE ?_ q⟩;rw[ha,A8 (b:=(g.proc,-1,9)) (by grind)]
  |some p=>
   have R:¬(BU d g.proc).isNone=true:=by rw[O];simp
   refine⟨_,p.ps,_,p.ls,p.bs,_,rfl,λ_=>⟨h.nn,h.nn,Ah h.nn,d.bs,h.cell (i:=7) rfl,(c243 h.ok.bounds Y).call ⟨_,rfl,λG=>DE ?_ q,λG=>⟨h.ok.bounds.succ hk,l hl _ _ ⟨rfl,?_⟩⟩⟩⟩,λh=>absurd rfl h⟩;·rw[ha,A8 (b:=(g.proc,-1,10)) (by grind)]
   ·rw[ha,BA (by grind)]
 rw[(h.ok.bounds.done hk).1,Ak]at ha;rw[ha];exact⟨none,rfl,q,rfl⟩
theorem impBodies(I:FV)(h:BB V c d)(hv:DO d)(M:Hf d):FltC 184 [.pointer c] V (D5 d):=by
 refine x184 ?_;unfold D5;refine⟨h.nn,h.nn,Ah h.nn,d.ps,h.cell (i:=3) rfl,?_⟩;generalize L:(λ(_:Nat) (p:Pr)=>if(AJ d (AI d p) p.result 0 p.body).2≠0 then some ((p.name,(AJ d (AI d p) p.result 0 p.body).1,(AJ d (AI d p) p.result 0 p.body).2):Flt)else none)=F1;refine AK d.procs.length (λk V1=>V.sub V1/\Ak F1 0 d.procs=Ak F1 k (d.procs.drop k)) ⟨Mem.sub.refl _,rfl⟩ ?_;rintro k b V1 J hi ⟨H,ha⟩ R;have l:=h.sub H;refine⟨λhk=>?_,λhk=>?_⟩
 ·obtain⟨g,hm,C,G,hl,N,X,q⟩:=l.ok.procs.get hk;rw[G]at ha;have Z:=l.ok.procsOk g hm;refine⟨N,X,hk,_,_,_,_,_,q,Tri.mono (impInProc I l hv hm Z) ?_⟩;rintro _ V2 ⟨m,rfl,z,Y⟩;refine⟨_,_,_,rfl,λb1 y=>?_⟩;obtain⟨W,B⟩:=M.ps g hm;have O:=Mem.sub_new y (cell (.int .i64 0) 3);refine Tri.mono (impStmts y (l.sub z) hv Y rfl g.body _ g.bs 0 1 O Ao (Z.sub z).body (Z.sub z).stmts W (by omega) (by omega)) ?_;rintro _ D ⟨rfl,K,Q,-⟩;have o:=H.trans (z.trans (Q.base O y));refine⟨_,_,rfl,λA=>⟨l.ok.procs.succ hk,R hl _ _ ⟨o,?_⟩⟩,λA=>DE ?_ o⟩;·rw[ha,BA (by grind)]
  ·have:placeT (AJ d (AI d g) g.result 0 g.body)=(AJ d (AI d g) g.result 0 g.body).1:=if_neg A;rw[this,ha,A8 (b:=(g.name,(AJ d (AI d g) g.result 0 g.body).1,(AJ d (AI d g) g.result 0 g.body).2)) (by grind)]
 rw[(l.ok.procs.done hk).1,Ak]at ha;rw[ha];exact⟨none,rfl,H,rfl⟩
theorem EE{V1:Mem}{X:Option Flt}(h:FltAt V1 none X):X=none:=by
 cases X with
 |none=>rfl
 |some r=>obtain⟨b,t,g,_⟩:=h;cases g
theorem Hi{V1:Mem}{X:Option Flt}{p:Option Addr}(h:FltAt V1 p X)(g:¬p=none):∃r,X=some r:=by
 cases X with
 |none=>exact absurd h g
 |some r=>grind
theorem impExps(L:FV)(h:BB V c d)(hv:DO d)(R:Hf d)(A:C3 d=none):FltC 185 [.pointer c] V (D6 d):=by
 refine x185 ?_;unfold D6;refine⟨h.nn,h.nn,Ah h.nn,d.ms,h.cell (i:=4) rfl,?_⟩;unfold exp1;generalize X:(λ(_:Nat) (m:Ms)=>if A2 d (AQ d m.ty) m.x Ai≠0 then some ((m.name,-1,A2 d (AQ d m.ty) m.x Ai):Flt)else none)=F1;refine AK d.measures.length (λk V1=>V.sub V1/\Ak F1 0 d.measures=Ak F1 k (d.measures.drop k)) ⟨Mem.sub.refl _,rfl⟩ ?_;rintro k b V1 J hi ⟨G,ha⟩ I;have y:=h.sub G;refine⟨λhk=>?_,λhk=>?_⟩
 ·obtain⟨g,hm,B,N,hl,Z,M,o⟩:=y.ok.measures.get hk;rw[N]at ha;refine⟨Z,M,hk,_,_,_,_,_,_,_,o,Tri.mono (J7 L y hv) ?_⟩;rintro _ V2 ⟨m,rfl,l,Y⟩;refine⟨_,_,_,rfl,Tri.mono (c248 (e:=g.x) (y.sub l) hv Y ((y.sub l).ok.measuresOk g hm).x (R.ms g hm)) ?_⟩;rintro _ C ⟨p,rfl,W,z⟩;have H:=G.trans (l.trans W);have Q:(if A2 d (AQ d g.ty) g.x Ai≠0 then some ((g.name,-1,A2 d (AQ d g.ty) g.x Ai):Flt)else none)=F1 k g:=by rw[<-X]
  rw[show Ab [105,110,116]=Ai from rfl]at z;rw[Q]at z;refine⟨_,rfl,λhn=>?_,λhn=>?_⟩
  ·subst hn;exact⟨y.ok.measures.succ hk,I hl _ _ ⟨H,by rw[ha,BA (EE z)]⟩⟩
  ·obtain⟨r,O⟩:=Hi z hn;rw[ha,A8 O];rw[O]at z;exact⟨p,rfl,H,z⟩
 rw[(y.ok.measures.done hk).1,Ak]at ha;rw[ha,xv];refine⟨h.nn,h.nn,Ah h.nn,d.is,y.cell (i:=5) rfl,?_⟩;unfold exp2;generalize D:(λ(_:Nat) (m:Iv)=>if A2 d (AQ d m.ty) m.x Ar≠0 then some ((m.name,-1,A2 d (AQ d m.ty) m.x Ar):Flt)else none)=F2;refine AK d.invs.length (λk V1=>V.sub V1/\Ak F2 0 d.invs=Ak F2 k (d.invs.drop k)) ⟨G,rfl⟩ ?_;rintro k b V1 J hi ⟨G,ha⟩ I;have y:=h.sub G;refine⟨λhk=>?_,λhk=>?_⟩
 ·obtain⟨g,hm,B,N,hl,Z,M,o⟩:=y.ok.invs.get hk;rw[N]at ha;refine⟨Z,M,hk,_,_,_,_,_,_,o,Tri.mono (J7 L y hv) ?_⟩;rintro _ V2 ⟨m,rfl,l,Y⟩;refine⟨_,_,_,rfl,Tri.mono (c248 (e:=g.x) (y.sub l) hv Y ((y.sub l).ok.invsOk g hm) (R.is g hm)) ?_⟩;rintro _ C ⟨p,rfl,W,z⟩;have H:=G.trans (l.trans W);have Q:(if A2 d (AQ d g.ty) g.x Ar≠0 then some ((g.name,-1,A2 d (AQ d g.ty) g.x Ar):Flt)else none)=F2 k g:=by rw[<-D]
  rw[show Ab [98,111,111,108]=Ar from rfl]at z;rw[Q]at z;refine⟨_,rfl,λhn=>?_,λhn=>?_⟩
  ·subst hn;exact⟨y.ok.invs.succ hk,I hl _ _ ⟨H,by rw[ha,BA (EE z)]⟩⟩
  ·obtain⟨r,O⟩:=Hi z hn;rw[ha,A8 O];rw[O]at z;exact⟨p,rfl,H,z⟩
 rw[(y.ok.invs.done hk).1,Ak]at ha;rw[ha,xv];refine⟨h.nn,h.nn,Ah h.nn,d.qs,y.cell (i:=6) rfl,?_⟩;unfold exp3;generalize K:(λ(_:Nat) (m:Po)=>if A2 d (AQ d m.ty) m.x Ai≠0 then some ((sPot,-1,A2 d (AQ d m.ty) m.x Ai):Flt)else none)=F3;refine AK d.pots.length (λk V1=>V.sub V1/\Ak F3 0 d.pots=Ak F3 k (d.pots.drop k)) ⟨G,rfl⟩ ?_;rintro k b V1 J hi ⟨G,ha⟩ I;have y:=h.sub G;refine⟨λhk=>?_,λhk=>?_⟩
 ·obtain⟨g,hm,B,N,hl,Z,M,o⟩:=y.ok.pots.get hk;rw[N]at ha;refine⟨Z,M,hk,_,_,_,_,_,o,Tri.mono (J7 L y hv) ?_⟩;rintro _ V2 ⟨m,rfl,l,Y⟩;refine⟨_,_,_,rfl,Tri.mono (c248 (e:=g.x) (y.sub l) hv Y ((y.sub l).ok.potsOk g hm) (R.qs g hm)) ?_⟩;rintro _ C ⟨p,rfl,W,z⟩;have H:=G.trans (l.trans W);have Q:(if A2 d (AQ d g.ty) g.x Ai≠0 then some ((sPot,-1,A2 d (AQ d g.ty) g.x Ai):Flt)else none)=F3 k g:=by rw[<-K]
  rw[show Ab [105,110,116]=Ai from rfl,show Ab [112,111,116,101,110,116,105,97,108]=sPot from rfl]at z;rw[Q]at z;refine⟨_,rfl,λhn=>?_,λhn=>?_⟩
  ·subst hn;exact⟨y.ok.pots.succ hk,I hl _ _ ⟨H,by rw[ha,BA (EE z)]⟩⟩
  ·obtain⟨r,O⟩:=Hi z hn;rw[ha,A8 O];rw[O]at z;exact⟨p,rfl,H,z⟩
 rw[(y.ok.pots.done hk).1,Ak]at ha;rw[ha,xv];refine⟨h.nn,h.nn,Ah h.nn,d.bs,y.cell (i:=7) rfl,?_⟩;have S:=LL A;unfold exp4;generalize U:(λ(_:Nat) (m:Bd)=>if A2 d (DD d ((BU d m.proc).getD Gu)) m.x Ai≠0 then some ((m.proc,-1,A2 d (DD d ((BU d m.proc).getD Gu)) m.x Ai):Flt)else none)=F4;refine AK d.bounds.length (λk V1=>V.sub V1/\Ak F4 0 d.bounds=Ak F4 k (d.bounds.drop k)) ⟨G,rfl⟩ ?_;rintro k b V1 J hi ⟨G,ha⟩ I;have y:=h.sub G;refine⟨λhk=>?_,λhk=>?_⟩
 ·obtain⟨g,hm,B,N,hl,Z,M,o⟩:=y.ok.bounds.get hk;rw[N]at ha;obtain⟨q,T⟩:=S g hm;obtain⟨mt,q1,q2⟩:=y.procs;refine⟨Z,M,hk,_,_,_,_,_,o,h.nn,h.nn,_,q1,Bu.str1 xk xo zero74 q2 ?_⟩;rw[T];refine⟨_,q.ps,_,q.ls,q.bs,rfl,Tri.mono (impInBound L y hv (J6 T) (y.ok.procsOk q (J6 T))) ?_⟩;rintro _ V2 ⟨m,rfl,l,Y⟩;refine⟨_,_,_,rfl,Tri.mono (c248 (e:=g.x) (y.sub l) hv Y ((y.sub l).ok.boundsOk g hm) (R.bs g hm)) ?_⟩;rintro _ C ⟨p,rfl,W,z⟩;have H:=G.trans (l.trans W);have Q:(if A2 d (DD d q) g.x Ai≠0 then some ((g.proc,-1,A2 d (DD d q) g.x Ai):Flt)else none)=F4 k g:=by grind
  rw[show Ab [105,110,116]=Ai from rfl]at z;rw[Q]at z;refine⟨_,rfl,λhn=>?_,λhn=>?_⟩
  ·subst hn;exact⟨y.ok.bounds.succ hk,I hl _ _ ⟨H,by rw[ha,BA (EE z)]⟩⟩
  ·obtain⟨r,O⟩:=Hi z hn;rw[ha,A8 O];rw[O]at z;exact⟨p,rfl,H,z⟩
 rw[(y.ok.bounds.done hk).1,Ak]at ha;rw[ha];exact⟨none,rfl,G,rfl⟩
end
theorem GenK.makeF1{P:Program}{V:Mem}{f:FuncId}{x:Operand}{ty:Nat}{vals:Operand->Value}{v:Value}(z:vals x=v){q:Value->Mem->Prop}(g:q (.func (.func f) #[v] #[]) V):GenK P (.makeFunc (.func f) #[x] #[]) ty vals V q:=by
 intro w hw;refine⟨_,w,V,?_,Aq.refl hw,g⟩;unfold execOp Instr.makeFunc;simp_all
section
variable{V:Mem}{d:Ds}{c:Option Addr}
theorem impFirst(Q:FV)(h:BB V c d)(hv:DO d)(Z:Hf d):FltC 129 [.pointer c] V (BJ d):=by
 refine x129 ?_;have A:=λV1 (H:V.sub V1)=>impTypes (h.sub H);have I:=λV1 (H:V.sub V1)=>impHeads (h.sub H) Z.small;have M:=λV1 (H:V.sub V1)=>impForm (h.sub H);have L:=λV1 (H:V.sub V1)=>impBodies Q (h.sub H) hv Z;have R:=λV1 (H:V.sub V1) (hf:C3 d=none)=>impExps Q (h.sub H) hv Z hf;refine GenK.makeF1 (v:=.pointer c) rfl ⟨.func (.func 181) #[.pointer c] #[],rfl,rfl,GenK.makeF1 (v:=.pointer c) rfl ⟨.func (.func 182) #[.pointer c] #[],rfl,rfl,GenK.makeF1 (v:=.pointer c) rfl ⟨.func (.func 183) #[.pointer c] #[],rfl,rfl,GenK.makeF1 (v:=.pointer c) rfl ⟨.func (.func 184) #[.pointer c] #[],rfl,rfl,GenK.makeF1 (v:=.pointer c) rfl ⟨.func (.func 185) #[.pointer c] #[],rfl,rfl,λb hb=>?_⟩⟩⟩⟩⟩;have W:=Mem.sub_new hb (.cells #[.func (.func 181) #[.pointer c] #[],.func (.func 182) #[.pointer c] #[],.func (.func 183) #[.pointer c] #[],.func (.func 184) #[.pointer c] #[],.func (.func 185) #[.pointer c] #[]] 211 (0,0));refine AK 5 (λi V1=>V.sub V1/\V1 b=some (.cells #[.func (.func 181) #[.pointer c] #[],.func (.func 182) #[.pointer c] #[],.func (.func 183) #[.pointer c] #[],.func (.func 184) #[.pointer c] #[],.func (.func 185) #[.pointer c] #[]] 211 (0,0))/\
  ((i=0/\BJ d=(Gt d).or ((Ft d).or ((C3 d).or ((D5 d).or (D6 d)))))∨(i=1/\BJ d=(Ft d).or ((C3 d).or ((D5 d).or (D6 d))))∨(i=2/\BJ d=(C3 d).or ((D5 d).or (D6 d)))∨(i=3/\C3 d=none/\BJ d=(D5 d).or (D6 d))∨(i=4/\C3 d=none/\BJ d=D6 d)∨(i=5/\BJ d=none))) ⟨W,Mem.set_same _ _ _,.inl ⟨rfl,rfl⟩⟩ ?_
 rintro i D V1 J hi ⟨q,z,G⟩ N;have o:∀{V2:Mem}{X Y:Option Flt}{p:Option Addr},V.sub V2->FltAt V2 p X->¬(p=none)->BJ d=X.or Y->(∃O,xJ (.pointer p)=.returned (.pointer O)/\V.sub V2/\FltAt V2 O (BJ d)):=λ{V2 X Y p} H hf hn l=>by
  obtain⟨r,rfl⟩:=Hi hf hn;simp_all
 refine⟨λB=>?_,λC=>?_⟩
 ·rcases G with⟨rfl,l⟩|⟨rfl,l⟩|⟨rfl,l⟩|⟨rfl,hf,l⟩|⟨rfl,hf,l⟩|⟨rfl,l⟩
  ·refine⟨by simp[Aa],by omega,by omega,.func (.func 181) #[.pointer c] #[],rfl,An z 0 1 (by simp),_,_,_,rfl,Tryz.call181,Tri.mono (A V1 q) ?_⟩;rintro _ V2 ⟨p,rfl,g,y⟩;refine⟨_,rfl,λhn=>⟨⟨by omega,by omega⟩,N (by omega) _ _ ⟨q.trans g,g _ _ z,?_⟩⟩,λhn=>o (q.trans g) y hn l⟩;subst hn;exact .inr (.inl ⟨rfl,by rw[l,EE y,xv]⟩)
  ·refine⟨by simp[Aa],by omega,by omega,.func (.func 182) #[.pointer c] #[],rfl,An z 1 1 (by simp),_,_,_,rfl,Tryz.call182,Tri.mono (I V1 q) ?_⟩;rintro _ V2 ⟨p,rfl,g,y⟩;refine⟨_,rfl,λhn=>⟨⟨by omega,by omega⟩,N (by omega) _ _ ⟨q.trans g,g _ _ z,?_⟩⟩,λhn=>o (q.trans g) y hn l⟩;subst hn;exact .inr (.inr (.inl ⟨rfl,by rw[l,EE y,xv]⟩))
  ·refine⟨by simp[Aa],by omega,by omega,.func (.func 183) #[.pointer c] #[],rfl,An z 2 1 (by simp),_,_,_,rfl,Tryz.call183,Tri.mono (M V1 q) ?_⟩;rintro _ V2 ⟨p,rfl,g,y⟩;refine⟨_,rfl,λhn=>⟨⟨by omega,by omega⟩,N (by omega) _ _ ⟨q.trans g,g _ _ z,?_⟩⟩,λhn=>o (q.trans g) y hn l⟩;subst hn;exact .inr (.inr (.inr (.inl ⟨rfl,EE y,by rw[l,EE y,xv]⟩)))
  ·refine⟨by simp[Aa],by omega,by omega,.func (.func 184) #[.pointer c] #[],rfl,An z 3 1 (by simp),_,_,_,rfl,Tryz.call184,Tri.mono (L V1 q) ?_⟩;rintro _ V2 ⟨p,rfl,g,y⟩;refine⟨_,rfl,λhn=>⟨⟨by omega,by omega⟩,N (by omega) _ _ ⟨q.trans g,g _ _ z,?_⟩⟩,λhn=>o (q.trans g) y hn l⟩;subst hn;exact .inr (.inr (.inr (.inr (.inl ⟨rfl,hf,by rw[l,EE y,xv]⟩))))
  ·refine⟨by simp[Aa],by omega,by omega,.func (.func 185) #[.pointer c] #[],rfl,An z 4 1 (by simp),_,_,_,rfl,Tryz.call185,Tri.mono (R V1 q hf) ?_⟩;rintro _ V2 ⟨p,rfl,g,y⟩;refine⟨_,rfl,λhn=>⟨⟨by omega,by omega⟩,N (by omega) _ _ ⟨q.trans g,g _ _ z,?_⟩⟩,λhn=>o (Y:=none) (q.trans g) y hn (by simp_all)⟩;subst hn;exact .inr (.inr (.inr (.inr (.inr ⟨rfl,by rw[l,EE y]⟩))))
  ·omega
 ·rcases G with⟨rfl,l⟩|⟨rfl,l⟩|⟨rfl,l⟩|⟨rfl,hf,l⟩|⟨rfl,hf,l⟩|⟨rfl,l⟩;·omega
  ·omega
  ·omega
  ·omega
  ·omega
  ·rw[l];exact⟨none,rfl,q,rfl⟩
theorem J8[Tab V](o:FV)(H:NewC)(y:Ds.Ok V d):PP 74 [d.v] V (if A7 d=true then f3 (BJ d)else .tuple #[.string sE,.int .i64 0,.int .i64 1]):=by
 refine A1.mk (Og ?_);refine(c127 y).call ⟨_,rfl,λg=>?_,λg=>?_⟩
 ·rw[if_pos g];refine Tri.mono (H V d y) ?_;rintro _ V1 ⟨c,rfl,l,hc⟩;refine⟨c,rfl,Tri.mono (impFirst o hc (O5 g) (vparts g)) ?_⟩;rintro _ V2 ⟨p,rfl,q,z⟩;refine⟨p,rfl,λhn=>?_,λhn=>?_⟩
  ·subst hn;rw[EE z];exact⟨rfl,l.trans q⟩
  ·obtain⟨r,J⟩:=Hi z hn;rw[J]at z⊢;obtain⟨b,t,rfl,hb⟩:=z;exact⟨hn,hn,_,An hb 0 1 (by simp),hn,hn,_,An hb 1 1 (by simp),hn,hn,_,An hb 2 1 (by simp),Fw (p:=some ⟨b,0,none⟩) (An hb 2 1 (by simp)),hn,hn,Fw (p:=some ⟨b,0,none⟩) (An hb 1 1 (by simp)),hn,hn,Fw (p:=some ⟨b,0,none⟩) (An hb 2 1 (by simp)),hn,hn,rfl,l.trans q⟩
 ·rw[if_neg g];exact⟨rfl,Mem.sub.refl _⟩
end
end Go.Proofs
namespace Go.Sx
open Go
open Classical
structure KeyOf (P:Program)(kt:TypeId){α:Type}(enc:α->Value):Prop where
 inj:∀a b,enc a=enc b->a=b
 find:∀(a:α)(es:List MapEntry)(w:World),(∀e∈es,∃b,e.key=enc b)->(Instr.findKey kt (enc a) es).run P w=.ok ((es.findIdx? λe=>decide (e.key=enc a)).bind λj=>(es[j]?).map λe=>(j,e.val)) w
 check:∀(b:Bool)(a:α)(w:World),(Instr.checkKey b 10000 kt (enc a)).run P w=.ok () w
 stays:∀(a:α)(w:World),(Instr.keyThatStays (enc a) (enc a)).run P w=.ok (enc a) w
noncomputable def Di(es:List MapEntry)(k:Value):Option Value:=(es.find? λe=>decide (e.key=k)).map (·.val)
structure BP {α:Type}(enc:α->Value)(V:Mem)(b:Nat)(m:α->Option Value):Prop where
 at_:∃es clock,V b=some (.map es clock)/\(∀e∈es.toList,∃a,e.key=enc a)/\es.toList.Pairwise (λe f=>e.key≠f.key)/\∀a,Di es.toList (enc a)=m a
section
variable{α:Type}{enc:α->Value}{P:Program}{t kt et:TypeId}{V V':Mem}{b c:Nat}{m m':α->Option Value}
theorem BP.sub(h:BP enc V b m)(g:V.sub V'):BP enc V' b m:=by
 obtain⟨es,c,z,y⟩:=h.at_;exact⟨es,c,g _ _ z,y⟩
theorem BP.set{o:Obj}(h:BP enc V b m)(hn:b≠c):BP enc (V.set c o) b m:=by
 obtain⟨es,c,g,z⟩:=h.at_;exact⟨es,c,by rw[Mem.set_ne hn];exact g,z⟩
theorem BP.made(V:Mem)(b:Nat):BP enc (V.set b (.map #[] 0)) b λ_=>none:=
 ⟨#[],0,Mem.set_same _ _ _,by simp,by simp,by simp[Di]⟩
theorem BP.congr(h:BP enc V b m)(e:∀k,m k=m' k):BP enc V b m':=by
 obtain⟨es,c,g,z,y,l⟩:=h.at_;exact⟨es,c,g,z,y,λk=>(l k).trans (e k)⟩
theorem IX(k:Value):∀es:List MapEntry,Di es k=(es.findIdx? λe=>decide (e.key=k)).bind λj=>(es[j]?).map (·.val)
 |[]=>rfl
 |e::es=>by
  have g:=IX k es;unfold Di at g⊢;simp only[xj,yl];by_cases hk:e.key=k;·simp[hk]
  ·simp only[hk,decide_false,zN,if_false,g];cases z:yj (λe=>decide (e.key=k)) es<;>simp
theorem Bu.key2(K:KeyOf P kt enc)(ht:P.underlying t=some (.map kt et)){z:Value}(p:∀w,(zeroValue et).run P w=.ok z w)(hm:BP enc V b m){k:α}{q:Value->Prop}(g:q (.tuple #[(m k).getD z,.bool (m k).isSome])):Bu P t (.map (some b)) (enc k) true V q:=by
 intro w hw;obtain⟨es,c,y,l,-,o⟩:=hm.at_;refine⟨_,?_,g⟩;unfold Instr.lookup;simp only[zK,run_underlying ht,zL,yg (hw _ _ y),zM,K.check,K.find k _ w l];rw[<-o k,IX];cases H:yj (λe=>decide (e.key=enc k)) es.toList with
 |none=>simp_all
 |some j=>
  grind[yf,zM,yu,yT]
theorem Bu.key1(K:KeyOf P kt enc)(ht:P.underlying t=some (.map kt et)){z:Value}(p:∀w,(zeroValue et).run P w=.ok z w)(hm:BP enc V b m){k:α}{q:Value->Prop}(g:q ((m k).getD z)):Bu P t (.map (some b)) (enc k) false V q:=by
 intro w hw;obtain⟨es,c,y,l,-,o⟩:=hm.at_;refine⟨_,?_,g⟩;unfold Instr.lookup;simp only[zK,run_underlying ht,zL,yg (hw _ _ y),zM,K.check,K.find k _ w l];rw[<-o k,IX];cases H:yj (λe=>decide (e.key=enc k)) es.toList with
 |none=>simp_all
 |some j=>
  grind[yf,zM,yu,yT]
theorem lookV_push{es:List MapEntry}{k val:Value}{c:Nat}(h:es.findIdx? (λe=>decide (e.key=k))=none)(x:Value):Di (es++[{key:=k,val:=val,born:=c}]) x=if x=k then some val else Di es x:=by
 grind[Di]
theorem LN(k val:Value):∀(es:List MapEntry)(i:Nat) (h:es.findIdx? (λe=>decide (e.key=k))=some i) (x:Value),Di (es.modify i λe=>{e with key:=k,val:=val}) x=if x=k then some val else Di es x
 |[],_,h,_=>by simp at h
 |e::es,i,h,x=>by
  rw[yl]at h;by_cases hk:e.key=k;·grind[Di]
  ·simp only[hk,decide_false,zN,if_false,zi]at h;obtain⟨j,g,rfl⟩:=h;have z:=LN k val es j g x;grind[Di]
theorem LO(k val:Value):∀(es:List MapEntry)(i:Nat),es.findIdx? (λe=>decide (e.key=k))=some i->(es.modify i λe=>{e with key:=k,val:=val}).map (·.key)=es.map (·.key)
 |[],_,h=>by simp at h
 |e::es,i,h=>by
  rw[yl]at h;by_cases hk:e.key=k;·grind
  ·simp only[hk,decide_false,zN,if_false,zi]at h;obtain⟨j,g,rfl⟩:=h;simp[LO k val es j g]
theorem pair_keys{es:List MapEntry}:es.Pairwise (λe f=>e.key≠f.key)↔(es.map (·.key)).Pairwise (·≠·):=by grind
theorem Cg.key(K:KeyOf P kt enc)(ht:P.underlying t=some (.map kt et))(hm:BP enc V b m){k:α}{val:Value}{q:Mem->Prop}(J:∀o,BP enc (V.set b o) b (λx=>if x=k then some val else m x)->q (V.set b o)):Cg P t (.map (some b)) (enc k) val V q:=by
 intro w hw;obtain⟨es,c,z,N,Q,Z⟩:=hm.at_;have g:(yp t (.map (some b)) (enc k) val).run P w=
   (match es.toList.findIdx? (λe=>decide (e.key=enc k))with
   |some i=>(setObj b (.map (es.modify i λe=>{e with key:=enc k,val:=val}) c)).run P w
   |none=>(setObj b (.map (es.push {key:=enc k,val:=val,born:=c}) (c+1))).run P w):=by
  unfold yp;simp only[zK,run_underlying ht,zL,yg (hw _ _ z),K.check,K.find k _ w N];cases y:yj (λe=>decide (e.key=enc k)) es.toList with
  |none=>rfl
  |some j=>
   obtain⟨l,Y,_⟩:=yf.1 y;have W:j<es.size:=by simpa using l
   have p:(es[j]?).map (·.key)=some (enc k):=by
    simp_all
   simp only[yu l,Option.bind_some,Option.map_some,zK,p,Option.getD_some,K.stays,zL]
 have H:∀a,(if enc a=enc k then some val else Di es.toList (enc a))=if a=k then some val else m a:=λa=>by
  by_cases e:a=k;·simp_all
  ·rw[if_neg e,if_neg (λh=>e (K.inj _ _ h)),Z]
 cases y:yj (λe=>decide (e.key=enc k)) es.toList with
 |none=>
  rw[y]at g;refine⟨_,V.set b (.map (es.push {key:=enc k,val:=val,born:=c}) (c+1)),g.trans (ye _ (hw _ _ z)),Aq.put hw z,J _ ⟨_,_,Mem.set_same _ _ _,?_,?_,λx=>?_⟩⟩;·grind
  ·grind
  ·rw[Array.toList_push,lookV_push y,H]
 |some j=>
  rw[y]at g;refine⟨_,V.set b (.map (es.modify j λe=>{e with key:=enc k,val:=val}) c),g.trans (ye _ (hw _ _ z)),Aq.put hw z,J _ ⟨_,_,Mem.set_same _ _ _,?_,?_,λx=>?_⟩⟩
  ·intro e G;rw[yd]at G;obtain⟨i,hi,rfl⟩:=yc.1 G;rw[List.getElem_modify];split;·grind
   simp_all
  ·simp_all[yd,pair_keys,LO]
  simp_all[yd,LN]
theorem LP:∀(es:List MapEntry)(k:Value)(i:Nat),es.Pairwise (λe f=>e.key≠f.key)->es.findIdx? (λe=>decide (e.key=k))=some i->∀x,Di (es.eraseIdx i) x=if x=k then none else Di es x
 |[],_,_,_,h,_=>by simp at h
 |e::es,k,i,z,h,x=>by
  obtain⟨y,g⟩:=List.pairwise_cons.1 z;rw[yl]at h;by_cases hk:e.key=k;·grind[Di]
  ·simp only[hk,decide_false,zN,if_false,zi]at h;obtain⟨j,l,rfl⟩:=h;have q:=LP es k j g l x;grind[Di]
theorem GenK.delete(K:KeyOf P kt enc)(ht:P.underlying t=some (.map kt et))(hm:BP enc V b m){k:α}{x y:Operand}{G ty:TypeId}{vals:Operand->Value}(W:vals x=.map (some b))(Q:vals y=enc k){q:Value->Mem->Prop}
  (N:∀o,BP enc (V.set b o) b (λx=>if x=k then none else m x)->q (.tuple #[]) (V.set b o)):GenK P (.call {callee:=.builtin .delete,args:=#[x,y],argTypes:=#[t,G]}) ty vals V q:=by
 intro w hw;obtain⟨es,c,z,p,Z,O⟩:=hm.at_;have g:(execOp vals {dst:=none,op:=.call {callee:=.builtin .delete,args:=#[x,y],argTypes:=#[t,G]},type:=ty,pos:= "",after:=#[],guard:=none}).run P w=
   (Sem.run P (match es.toList.findIdx? (λ(e:MapEntry)=>decide (e.key=enc k))with
   |some i=>setObj b (.map (es.eraseIdxIfInBounds i) c)
   |none=>setObj b (.map es c)) w).andThen λ_ w'=>.ok (.value (.tuple #[])) w':=by
  unfold execOp;simp only[resolve,invoke,builtin,zK,zM,zL,List.map_toArray,List.map_cons,List.map_nil,W,Q,Builtin.delete_];simp only[List.getElem?_toArray,List.getElem?_cons_zero,List.getElem?_cons_succ,zK,run_underlying ht,zL,yg (hw _ _ z),K.check,K.find k _ w p];cases l:yj (λe=>decide (e.key=enc k)) es.toList with
  |none=>simp[zK,zM,ye _ (hw _ _ z),zL]
  |some j=>
   have H:=(yf.1 l).1;have J:es[j]?=some es[j]:=yT (show j<es.size by simpa using H);simp[zK,zM,ye _ (hw _ _ z),zL,J]
 cases l:yj (λe=>decide (e.key=enc k)) es.toList with
 |none=>
  rw[l]at g;simp only[ye _ (hw _ _ z),zL]at g;refine⟨_,_,V.set b (.map es c),g,Aq.put hw z,N _ ⟨_,_,Mem.set_same _ _ _,p,Z,λa=>?_⟩⟩;by_cases e:a=k
  ·subst e;rw[if_pos rfl,IX,l];rfl
  simp_all
 |some j=>
  rw[l]at g;simp only[ye _ (hw _ _ z),zL]at g;refine⟨_,_,V.set b (.map (es.eraseIdxIfInBounds j) c),g,Aq.put hw z,N _ ⟨_,_,Mem.set_same _ _ _,?_,?_,λa=>?_⟩⟩
  ·intro e Y;rw[xi]at Y;exact p e (List.mem_of_mem_eraseIdx Y)
  ·grind[xi,List.eraseIdx_sublist]
  ·rw[xi,LP _ _ _ Z l,O];by_cases e:a=k;·simp_all
   ·rw[if_neg e,if_neg (λh=>e (K.inj _ _ h))]
end
end Go.Sx
namespace Go.Proofs
open Go Go.Sx
attribute [local irreducible] Go.Sx.Tri
def AE(n:Int):List Value:=[.int .i64 n]
def D7(n:Int):Prop:=-9223372036854775808<=n/\n<=9223372036854775807
structure Nd where
 ty:Int
 sl:Sl
 f:List Int
def Nd.row(n:Nd):List Value:=[.int .i64 n.ty,n.sl.v]
def Nd.v(n:Nd):Value:=.agg n.row.toArray
structure Nd.Ok (V:Mem)(n:Nd):Prop where
 rows:Ad V n.sl 1 (n.f.map AE)
 tyIn:D7 n.ty
 vals:∀x∈n.f,D7 x
structure Mm where
 gs:Sl
 globals:List Int
 ns:Sl
 nodes:List Nd
def Mm.row(m:Mm):List Value:=[m.gs.v,m.ns.v]
def Mm.v(m:Mm):Value:=.agg m.row.toArray
structure Mm.Ok (V:Mem)(m:Mm):Prop where
 globals:Ad V m.gs 1 (m.globals.map AE)
 gIn:∀x∈m.globals,D7 x
 nodes:Ad V m.ns 2 (m.nodes.map Nd.row)
 nodesOk:∀n∈m.nodes,Nd.Ok V n
theorem Nd.Ok.sub{V V':Mem}{n:Nd}(h:Nd.Ok V n)(g:V.sub V'):Nd.Ok V' n:=⟨h.rows.sub g,h.tyIn,h.vals⟩
theorem Mm.Ok.sub{V V':Mem}{m:Mm}(h:Mm.Ok V m)(g:V.sub V'):Mm.Ok V' m:=⟨h.globals.sub g,h.gIn,h.nodes.sub g,λn hn=>(h.nodesOk n hn).sub g⟩
def allI{α:Type}(p:Nat->α->Bool)(xs:List α):Bool:=xs.zipIdx.all λx=>p x.2 x.1
def AllI{α:Type}(p:Nat->α->Bool)(xs:List α)(i:Nat):Prop:=∀j x,j<i->xs[j]?=some x->p j x=true
theorem AllI.zero{α:Type}{p:Nat->α->Bool}{xs:List α}:AllI p xs 0:=λ_ _ h=>absurd h (Nat.not_lt_zero _)
theorem AllI.succ{α:Type}{p:Nat->α->Bool}{xs:List α}{i:Nat}{x:α}(h:AllI p xs i)(q:xs[i]?=some x)(o:p i x=true):AllI p xs (i+1):=λj y g z=>by
 rcases Nat.lt_succ_iff_lt_or_eq.1 g with l|rfl;·exact h j y l z
 simp_all
theorem FW{α:Type}{p:Nat->α->Bool}{xs:List α}:allI p xs=true↔∀j x,xs[j]?=some x->p j x=true:=by
 unfold allI;rw[z6];constructor;·simp_all[List.mem_zipIdx_iff_getElem?]
 grind
theorem AllI.all{α:Type}{p:Nat->α->Bool}{xs:List α}{i:Nat}(h:AllI p xs i)(hi:xs.length<=i):allI p xs=true:=
 FW.2 λj x g=>h j x (by grind) g
theorem J9{α:Type}{p:Nat->α->Bool}{xs:List α}{j:Nat}{x:α}(g:xs[j]?=some x)(z:¬p j x=true):allI p xs=false:=by
 grind[allI,absurd,FW]
def Bt(d:Ds)(s:KB):Int:=Ci (λt=>decide (t.name=s)) d.types
def DF(d:Ds)(l:List Fld):Bool:=l.all λf=>known d f.ty
def hasT(d:Ds):Bool:=A7 d&&DF d d.globals&&allI (λi t=>decide (Bt d t.name=(i:Int))&&DF d t.fields) d.types
def BV(d:Ds)(t:Int):List Fld:=((d.types[t.toNat]?).map (·.fields)).getD []
def tyAt(l:List Fld)(i:Nat):KB:=((l[i]?).map (·.ty)).getD sE
def AR(d:Ds)(m:Mm)(g:KB)(v:Int):Bool:=
 if g=Ai then decide (-1099511627776<=v/\v<=1099511627776)else if g=Ar then decide (v=0∨v=1)
 else decide (v=0∨(1<=v/\v<=(m.nodes.length:Int)/\(m.nodes[(v-1).toNat]?).map (·.ty)=some (Bt d g)))
def AB(d:Ds)(m:Mm)(l:List Fld)(vs:List Int):Bool:=decide (l.length=vs.length)&&allI (λi v=>AR d m (tyAt l i) v) vs
def DP(d:Ds)(n:Nd):Bool:=decide (0<=n.ty/\n.ty<(d.types.length:Int))
def BQ(d:Ds)(m:Mm):Bool:=hasT d&&decide (m.nodes.length<=4096)&&m.nodes.all (DP d)&&AB d m d.globals m.globals&&m.nodes.all λn=>AB d m (BV d n.ty) n.f
theorem row_take{V:Mem}{a:Addr}{n k:Nat}{vs:List Value}(h:V.row a n=some vs)(hk:k<=n):V.row a k=some (vs.take k):=by
 grind[Mem.row]
theorem LQ{V:Mem}{p:Option Addr}{off n k:Nat}{vs:List Value}(h:V.rowp p off n=some vs)(hk:k<=n):V.rowp (Aa (Aa p off) 0) 0 k=some (vs.take k):=by
 cases p with
 |none=>cases h
 |some a=>
  have g:((a.add off).add 0).add 0=a.add off:=by rfl
  show V.row (((a.add off).add 0).add 0) k=_;rw[g];exact row_take h hk
section
variable{V:Mem}{d:Ds}{m:Mm}
theorem Ka(d:Ds)(s:KB):(Bt d s<0/\BE d s=false)∨(0<=Bt d s/\BE d s=true):=by
 grind[Bt,BE,Cw,Ty]
theorem c118(h:Ds.Ok V d){l:Sl}{xs:List Fld}(q:Ad V l 2 (xs.map Fld.row)):PP 118 [d.v,l.v] V (.bool (DF d xs)):=by
 refine x118 ?_;refine AK (mk:=.bool) (b0:=false) xs.length (λi V1=>V=V1/\AW (λf=>known d f.ty) xs i) ⟨rfl,AW.zero _ _⟩ ?_;rintro i b V1 J hi ⟨rfl,ha⟩ N;refine⟨λg=>?_,λo=>?_⟩
 ·obtain⟨x,hm,Z,Y,hl,y,p,z⟩:=q.get g;have H:=Ah (n:=i*2) y;have G:known d x.ty=true->IR ((i:Int)+1)/\J [.bool b,.int .i64 ((i:Int)+1)] V:=λhk=>⟨q.succ g,N hl _ _ ⟨rfl,ha.succ Z hk⟩⟩;refine⟨y,p,g,H,_,_,z,λW=>G (by grind[known,Ai]),λW=>⟨y,p,g,H,_,_,z,λQ=>G (by grind[known,Ar]),λQ=>⟨y,p,g,H,_,_,z,(c119 h).call ⟨_,rfl,λO=>?_,λO=>G ?_⟩⟩⟩⟩
  ·rcases Ka d x.ty with⟨-,k⟩|⟨k,-⟩
   ·have:known d x.ty=false:=by grind[known,Ai,Ar]
    unfold DF;grind
   grind[absurd,Bt]
  ·rcases Ka d x.ty with⟨k,-⟩|⟨-,k⟩;·grind[absurd,Bt]
   grind[known]
 ·unfold DF;rw[ha.all (q.done o).2];simp_all
theorem O7(h:Ds.Ok V d):PP 65 [d.v] V (.bool (hasT d)):=by
 refine Oa ?_;unfold hasT;refine(JV h).call ⟨_,rfl,λhv=>(c118 h h.globals).call ⟨_,rfl,λht=>?_,λht=>?_⟩,λhv=>?_⟩
 ·rw[hv,ht,Bool.true_and,Bool.true_and];refine AK (mk:=.bool) (b0:=false) d.types.length (λi V1=>V=V1/\AllI (λi t=>decide (Bt d t.name=(i:Int))&&DF d t.fields) d.types i) ⟨rfl,AllI.zero⟩ ?_;rintro i b V1 J hi ⟨rfl,ha⟩ G;refine⟨λg=>?_,λy=>?_⟩
  ·obtain⟨x,hm,l,N,hl,q,o,z⟩:=h.types.get g;have p:=Ah (n:=i*2) q;refine⟨q,o,g,p,_,_,z,(c119 h).call ⟨_,rfl,λH=>⟨q,o,g,p,_,_,z,(c118 h (h.typesOk x hm).fields).call ⟨_,rfl,λZ=>⟨h.types.succ g,G hl _ _ ⟨rfl,ha.succ l ?_⟩⟩,λZ=>?_⟩⟩,λH=>?_⟩⟩;·grind[Bt]
   ·rw[J9 l (by simp_all)];simp_all
   ·rw[J9 l (by rw[zC,decide_eq_true_eq];exact λk=>H k.1)];simp_all
  ·rw[ha.all (h.types.done y).2];simp_all
 ·simp_all
 simp_all
theorem LR(h:Ds.Ok V d)(hm:Mm.Ok V m){s:KB}{v:Int}:PP 66 [d.v,m.v,.string s,.int .i64 v] V (.bool (AR d m s v)):=by
 refine Ob ?_;unfold AR;have hn:=hm.nodes.n_eq;have g:∀{a b:Bool},a=b->(xJ (.bool a)=xJ (.bool b)/\V=V):=λe=>⟨by rw[e],rfl⟩;refine⟨λl=>?_,λl=>⟨λq=>?_,λq=>?_⟩⟩;·grind[Ai]
 ·grind[Ai,Ar,inr]
 ·rw[if_neg (show ¬s=Ai from l),if_neg (show ¬s=Ar from q)];refine⟨λo=>g (decide_eq_true (.inl o)).symm,λo=>⟨λp=>⟨λG=>?_,λG=>g ?_⟩,λp=>g ?_⟩⟩
  ·obtain⟨i,rfl⟩:∃i:Nat,v=(i:Int)+1:=⟨(v-1).toNat,by omega⟩;have e:((i:Int)+1-1)=(i:Int):=by omega
   have N:(i:Int)+1<=9223372036854775807:=by have:=(hm.nodes.succ (i:=i) (by omega)).2;omega
   rw[e];obtain⟨x,Z,H,Y,hl,y,W,z⟩:=hm.nodes.get (i:=i) (by omega);have J:=Ah (n:=i*2) y;refine⟨⟨by omega,by omega⟩,y,by omega,by omega,J,_,_,z,(c119 h).call ⟨_,rfl,?_,J,y,by omega,by omega,⟨by omega,by omega⟩,g ?_⟩⟩;·exact LQ (k:=1) z (by decide)
   ·refine decide_eq_decide.2 ⟨λk=>.inr ⟨p,by omega,?_⟩,λk=>?_⟩
    ·show Option.map (·.ty) (m.nodes[((i:Int)).toNat]?)=_;rw[xh,H];exact congrArg some k
    ·rcases k with k|⟨-,-,k⟩;·omega
     ·rw[show((i:Int)).toNat=i from rfl,H]at k;exact Option.some.inj k
  ·grind
  grind
theorem En{t:Int}{x:Ty}{k:Nat}(g:d.types[k]?=some x)(ht:t=(k:Int)):BV d t=x.fields:=by
 grind[BV]
theorem LS(h:Ds.Ok V d)(hm:Mm.Ok V m):PP 27 [d.v,m.v] V (.bool (BQ d m)):=by
 refine NA ?_;have hn:=hm.nodes.n_eq;have hg:=hm.globals.n_eq;have hdg:=h.globals.n_eq;have hdt:=h.types.n_eq;have I:∀{V1:Mem},V=V1->¬BQ d m=true->(xJ (.bool false)=xJ (.bool (BQ d m))/\V1=V):=λe k=>⟨by simp_all,e.symm⟩;have parts:BQ d m=true↔hasT d=true/\m.nodes.length<=4096/\(∀n∈m.nodes,DP d n=true)/\AB d m d.globals m.globals=true/\∀n∈m.nodes,AB d m (BV d n.ty) n.f=true:=by
  grind[BQ]
 refine(O7 h).call ⟨_,rfl,λht=>⟨λhl=>⟨λD=>I rfl λk=>?_,λD=>?_⟩,λhl=>I rfl λk=>?_⟩,λht=>I rfl λk=>ht (parts.1 k).1⟩;·grind
 ·let PA:Nd->Bool:=λn=>DP d n&&decide ((BV d n.ty).length=n.f.length);refine AK (mk:=.bool) (b0:=false) m.nodes.length (λi V1=>V=V1/\AW PA m.nodes i) ⟨rfl,AW.zero _ _⟩ ?_;rintro i b V1 J hi ⟨rfl,ha⟩ M;refine⟨λg=>?_,λo=>?_⟩
  ·obtain⟨x,q,K,S,N,Q,L,l⟩:=hm.nodes.get g;have T:=Ah (n:=i*2) Q;have hnx:=(hm.nodesOk x q).rows.n_eq;refine⟨Q,L,g,T,_,_,l,λC=>I rfl λk=>?_,λC=>⟨λh2=>I rfl λk=>?_,λh2=>?_⟩⟩
   ·have:=(parts.1 k).2.2.1 x q;exact absurd (of_decide_eq_true this).1 (by omega)
   ·have:=(parts.1 k).2.2.1 x q;exact absurd (of_decide_eq_true this).2 (by omega)
   ·obtain⟨t,p⟩:∃t:Nat,x.ty=(t:Int):=⟨x.ty.toNat,by omega⟩;obtain⟨y,R,hy,-,-,Z,hyz,H⟩:=h.types.get (i:=t) (by omega);have hfn:=(h.typesOk y R).fields.n_eq;have O:=En hy p;have h1':(0:Int)<=x.ty:=by omega
    rw[p]at C h2⊢;refine⟨Q,L,g,T,_,_,l,Z,by omega,by omega,Ah Z,_,_,H,λh3=>⟨hm.nodes.succ g,M N _ _ ⟨rfl,ha.succ K ?_⟩⟩,λh3=>I rfl λk=>?_⟩;·grind[DP,BV]
    grind[AB]
  have hA:=ha.all (hm.nodes.done o).2;rw[z6]at hA;clear M ha o hi;refine AK (mk:=.bool) (b0:=b) m.globals.length (λi V1=>V=V1/\AllI (λi v=>AR d m (tyAt d.globals i) v) m.globals i) ⟨rfl,AllI.zero⟩ ?_;rintro i b1 V1 J hi ⟨rfl,ha⟩ M;refine⟨λg=>?_,λo=>?_⟩
  ·obtain⟨x,q,K,S,N,Q,L,l⟩:=hm.globals.get g;obtain⟨f,hfm,hf,-,-,Y,X,G⟩:=h.globals.get (i:=i) (by omega);have hty:tyAt d.globals i=f.ty:=by grind[tyAt]
   refine⟨Y,X,by omega,Ah Y,_,_,G,Q,L,g,_,l,(LR h hm).call ⟨_,rfl,λC=>⟨hm.globals.succ g,M N _ _ ⟨rfl,ha.succ K (by grind)⟩⟩,λC=>I rfl λk=>?_⟩⟩;have:=(parts.1 k).2.2.2.1;unfold AB at this;rw[zC]at this;grind[FW]
  have hG:=ha.all (hm.globals.done o).2;clear M ha o hi;refine AK (mk:=.bool) (b0:=b1) m.nodes.length (λi V1=>V=V1/\AW (λn=>AB d m (BV d n.ty) n.f) m.nodes i) ⟨rfl,AW.zero _ _⟩ ?_;rintro i b2 V1 J hi ⟨rfl,ha⟩ M;refine⟨λg=>?_,λo=>?_⟩
  ·obtain⟨x,q,K,S,N,Q,L,l⟩:=hm.nodes.get g;have T:=Ah (n:=i*2) Q;have U:=hm.nodesOk x q;have hPx:=hA x q;rw[zC,decide_eq_true_eq]at hPx;obtain⟨hP1,hP2⟩:=hPx;have hP1:=of_decide_eq_true hP1;obtain⟨t,p⟩:∃t:Nat,x.ty=(t:Int):=⟨x.ty.toNat,by omega⟩;obtain⟨y,R,hy,-,-,Z,hyz,H⟩:=h.types.get (i:=t) (by omega);have A:=(h.typesOk y R).fields;have O:=En hy p;refine⟨Q,L,g,T,_,_,l,Z,by rw[p];omega,by rw[p];omega,Ah Z,_,_,by rw[p];exact H,?_⟩;rw[O]at hP2;have hxn:=U.rows.n_eq;have hyn:=A.n_eq;refine AK (mk:=.bool) (b0:=b2) y.fields.length (λj V1=>V=V1/\AllI (λi v=>AR d m (tyAt y.fields i) v) x.f j) ⟨rfl,AllI.zero⟩ ?_;rintro j b3 V1 J1 hj ⟨rfl,ha1⟩ hJ1;refine⟨λW=>?_,λhge1=>⟨hm.nodes.succ g,M N _ _ ⟨rfl,ha.succ K ?_⟩⟩⟩
   ·obtain⟨f,hfm,hf,-,hfl,Y,X,G⟩:=A.get W;obtain⟨z,hzm,hzx,-,-,hzp,hzz,B⟩:=U.rows.get (i:=j) (by omega);have hty:tyAt y.fields j=f.ty:=by grind[tyAt]
    refine⟨Y,X,W,Ah Y,_,_,G,Q,L,g,T,_,_,l,hzp,hzz,by omega,_,B,(LR h hm).call ⟨_,rfl,λC=>⟨A.succ W,hJ1 hfl _ _ ⟨rfl,ha1.succ hzx (by grind)⟩⟩,λC=>I rfl λk=>?_⟩⟩;have:=(parts.1 k).2.2.2.2 x q;unfold AB at this;rw[zC,O]at this;grind[FW]
   ·have:=(A.done hge1).2;unfold AB;rw[O,ha1.all (by omega),decide_eq_true hP2];rfl
  ·have hN:=ha.all (hm.nodes.done o).2;rw[z6]at hN;have:BQ d m=true:=parts.2 ⟨ht,by omega,λn hn'=>(zC _ _▸hA n hn').1,by grind[AB],hN⟩;simp_all
 grind[AB]
end
end Go.Proofs
namespace Go.Proofs
open Go Go.Sx
inductive Rs where
 |ok (v:Int)
 |bad (e:Int)
deriving DecidableEq
def Rs.bind:Rs->(Int->Rs)->Rs
 |.ok v,f=>f v
 |.bad e,_=>.bad e
def BH(n:Int):Rs:=if -1099511627776<=n/\n<=1099511627776 then .ok n else .bad 5
def Dq(b:Bool):Int:=if b then 1 else 0
def A4(op a b:Int):Rs:=
 if op=9 then BH (a+b)else if op=10 then BH (a-b)else if op=11 then BH (a*b)
 else if op=22 then .ok (if a<b then b else a)else if op=23 then .ok (if b<a then b else a)
 else if op=14 then .ok (Dq (decide (a=b)))else if op=15 then .ok (Dq (!decide (a=b)))else if op=16 then .ok (Dq (decide (a<b)))else if op=17 then .ok (Dq (decide (a<=b)))
 else if b=0 then .bad 18 else if op=12 then .ok (a.tdiv b)else .ok (a.tmod b)
def BL(l:List Fld)(s:KB):Int:=Ci (λf=>decide (f.name=s)) l
def mIdx(d:Ds)(s:KB):Int:=Ci (λx=>decide (x.name=s)) d.measures
def Cy(d:Ds)(s:KB):Int:=Ci (λx=>decide (x.name=s)) d.invs
def varV(d:Ds)(m:Mm)(x:Int)(s:KB):Int:=if s=CI then x else(m.globals[(BL d.globals s).toNat]?).getD 0
def fldV(d:Ds)(m:Mm)(a:Int)(s:KB):Rs:=
 if a=0 then .bad 17 else match m.nodes[(a-1).toNat]? with
  |none=>.bad 0
  |some n=>.ok ((n.f[(BL (BV d n.ty) s).toNat]?).getD 0)
def logV(a:Int):Int:=(Nat.log2 a.toNat:Int)
def Bo(rs:List Rs)(i:Nat):Rs:=rs.getD i (.bad 0)
section
variable(d:Ds)(m:Mm)
def C4(F:Int->Int->Rs)(x op n:Int)(s:KB)(rs:List Rs):Rs:=
 if op=1∨op=2 then .ok n else if op=3 then .ok 0 else if op=4 then .ok (varV d m x s)
 else if op=5 then(Bo rs 0).bind λa=>fldV d m a s
 else if op=7 then(Bo rs 0).bind λa=>F (mIdx d s) a
 else if op=8 then(Bo rs 0).bind λa=>BH (-a)
 else if op=18 then(Bo rs 0).bind λa=>.ok (1-a)
 else if op=24 then(Bo rs 0).bind λa=>.ok (logV a)
 else if op=19 then(Bo rs 0).bind λa=>if a=0 then .ok 0 else Bo rs 1
 else if op=20 then(Bo rs 0).bind λa=>if a=0 then Bo rs 1 else .ok 1
 else if op=21 then(Bo rs 0).bind λa=>if a=0 then Bo rs 2 else Bo rs 1
 else(Bo rs 0).bind λa=>(Bo rs 1).bind λb=>A4 op a b
mutual
def AD(F:Int->Int->Rs)(x:Int):E->Rs
 |.mk op n s _ k=>C4 d m F x op n s (evEs F x k)
def evEs(F:Int->Int->Rs)(x:Int):List E->List Rs
 |[]=>[]
 |e::es=>AD F x e::evEs F x es
end
def nilM(k:Int):Int:=((d.measures[k.toNat]?).map (·.nil)).getD 0
def Ay:Nat->Int->Int->Rs
 |0,k,x=>if x=0 then .ok (nilM d k)else .bad 16
 |n+1,k,x=>if x=0 then .ok (nilM d k)else match d.measures[k.toNat]? with|some ms=>AD d m (Ay n) x ms.x|none=>.bad 0
end
variable{d:Ds}{m:Mm}
theorem evEs_map(F:Int->Int->Rs)(x:Int):∀k:List E,evEs d m F x k=k.map (AD d m F x)
 |[]=>by unfold evEs;rfl
 |e::es=>by unfold evEs;rw[evEs_map F x es];rfl
theorem evE_eq(F:Int->Int->Rs)(x:Int)(e:E):AD d m F x e=C4 d m F x e.op e.n e.s (e.k.map (AD d m F x)):=by
 cases e;unfold AD;rw[evEs_map];rfl
def Rs.le(a b:Rs):Prop:=a=.bad 16∨a=b
theorem Rs.le.trans{a b c:Rs}(h:Rs.le a b)(k:Rs.le b c):Rs.le a c:=by
 rcases h with h|rfl;·exact .inl h
 ·exact k
theorem Rs.le.bind{a b:Rs}{f g:Int->Rs}(h:Rs.le a b)(k:∀v,Rs.le (f v) (g v)):Rs.le (a.bind f) (b.bind g):=by
 rcases h with rfl|rfl;·exact .inl rfl
 ·cases a with
  |ok v=>exact k v
  |bad e=>exact .inr rfl
theorem kid_le{k:List E}{f g:E->Rs}(h:∀e∈k,Rs.le (f e) (g e))(i:Nat):Rs.le (Bo (k.map f) i) (Bo (k.map g) i):=by
 unfold Bo;rw[xg,xg,y5,y5];cases hk:k[i]? with
 |none=>exact .inr rfl
 |some e=>grind
theorem comb_le{F G:Int->Int->Rs}(q:∀k x,Rs.le (F k x) (G k x)){x op n:Int}{s:KB}{rs qs:List Rs}(h:∀i,Rs.le (Bo rs i) (Bo qs i)):Rs.le (C4 d m F x op n s rs) (C4 d m G x op n s qs):=by
 have g:∀{c:Prop} [Decidable c] {a b y l:Rs},Rs.le a y->Rs.le b l->Rs.le (if c then a else b) (if c then y else l):=λ{c} _ {a b y l} o p=>by grind
 have z:∀{a:Rs},Rs.le a a:=.inr rfl;unfold C4;exact g z (g z (g z (g (Rs.le.bind (h 0) λ_=>z) (g (Rs.le.bind (h 0) λ_=>q _ _) (g (Rs.le.bind (h 0) λ_=>z) (g (Rs.le.bind (h 0) λ_=>z) (g (Rs.le.bind (h 0) λ_=>z)
  (g (Rs.le.bind (h 0) λ_=>g z (h 1)) (g (Rs.le.bind (h 0) λ_=>g (h 1) z) (g (Rs.le.bind (h 0) λ_=>g (h 2) (h 1)) (Rs.le.bind (h 0) λ_=>Rs.le.bind (h 1) λ_=>z)))))))))))
theorem evE_le{F G:Int->Int->Rs}(g:∀k x,Rs.le (F k x) (G k x))(x:Int)(e:E):Rs.le (AD d m F x e) (AD d m G x e):=by
 induction e using E.ind with
 |h e z=>
 grind[evE_eq,comb_le,kid_le]
theorem evM_le:∀(n:Nat)(k x:Int),Rs.le (Ay d m n k x) (Ay d m (n+1) k x)
 |0,k,x=>by
  unfold Ay;by_cases h:x=0;·rw[if_pos h,if_pos h];exact .inr rfl
  ·rw[if_neg h];exact .inl rfl
 |n+1,k,x=>by
  rw[Ay,Ay];by_cases h:x=0;·rw[if_pos h,if_pos h];exact .inr rfl
  ·rw[if_neg h,if_neg h];cases d.measures[k.toNat]? with
   |none=>exact .inr rfl
   |some ms=>exact evE_le (evM_le n) x ms.x
theorem evM_mono{n g:Nat}(h:n<=g)(k x:Int):Rs.le (Ay d m n k x) (Ay d m g k x):=by
 induction h with
 |refl=>exact .inr rfl
 |step _ z=>exact z.trans (evM_le _ k x)
def Mono(g:Nat->Rs):Prop:=∀n z,n<=z->Rs.le (g n) (g z)
theorem CR(x:Int)(e:E):Mono λn=>AD d m (Ay d m n) x e:=λ_ _ h=>evE_le (evM_mono h) x e
theorem mono_evM(k x:Int):Mono λn=>Ay d m n k x:=λ_ _ h=>evM_mono h k x
theorem LU(r:Rs):Mono λ_=>r:=λ_ _ _=>.inr rfl
def Out(d:Ds)(m:Mm)(B:Int->Int->Prop)(g:Nat->Rs):Rs->Prop
 |.ok v=>∃n,g n=.ok v
 |.bad e=>(e≠16/\∃n,g n=.bad e)∨(e=16/\((∀n,g n=.bad 16)∨∃k x,B k x/\∀n,Ay d m n k x=.bad 16->g n=.bad 16))
theorem Out.const(B:Int->Int->Prop){r:Rs}:Out d m B (λ_=>r) r:=by
 cases r with
 |ok v=>exact⟨0,rfl⟩
 |bad e=>
  by_cases h:e=16;·subst h;exact .inr ⟨rfl,.inl λ_=>rfl⟩
  ·exact .inl ⟨h,0,rfl⟩
theorem Out.congr{B:Int->Int->Prop}{g z:Nat->Rs}{r:Rs}(h:Out d m B g r)(e:∀n,g n=z n):Out d m B z r:=by
 have:g=z:=funext e;simp_all
theorem Out.bindBad{B:Int->Int->Prop}{g:Nat->Rs}{h:Nat->Int->Rs}{e:Int}(k:Out d m B g (.bad e)):Out d m B (λn=>(g n).bind (h n)) (.bad e):=by
 rcases k with⟨z,n,y⟩|⟨rfl,k⟩;·exact .inl ⟨z,n,by show(g n).bind (h n)=_;rw[y];rfl⟩
 ·refine .inr ⟨rfl,?_⟩;rcases k with k|⟨a,b,z,y⟩;·exact .inl λn=>by show(g n).bind (h n)=_;rw[k n];rfl
  ·exact .inr ⟨a,b,z,λn hn=>by show(g n).bind (h n)=_;rw[y n hn];rfl⟩
theorem Out.bindOk{B:Int->Int->Prop}{g:Nat->Rs}{h:Nat->Int->Rs}{v:Int}{r:Rs}(o:Mono g)(G:Mono λn=>h n v)(k:Out d m B g (.ok v))(p:Out d m B (λn=>h n v) r):Out d m B (λn=>(g n).bind (h n)) r:=by
 obtain⟨z,H⟩:=k;have N:∀n,h n v=.bad 16->(g n).bind (h n)=.bad 16:=λn hn=>by
  rcases o n (max n z) (by omega)with y|y;·rw[y];rfl
  ·rcases o z (max n z) (by omega)with l|l;·simp_all
   ·rw[y,<-l,H];exact hn
 have up:∀n q,h n v=q->q≠.bad 16->∃n,(g n).bind (h n)=q:=λn q hn Z=>by
  refine⟨max n z,?_⟩;rcases o z (max n z) (by omega)with l|l;·simp_all
  ·rw[<-l,H];rcases G n (max n z) (by omega)with J|J;·simp_all
   ·exact J.symm.trans hn
 cases r with
 |ok w=>obtain⟨n,hn⟩:=p;exact up n _ hn nofun
 |bad e=>
  rcases p with⟨y,n,l⟩|⟨rfl,y⟩;·exact .inl ⟨y,up n _ l (λc=>y (by cases c;rfl))⟩
  ·refine .inr ⟨rfl,?_⟩;grind
theorem Out.measure{B:Int->Int->Prop}{k x:Int}{ms:Ms}(q:x≠0)(hk:d.measures[k.toNat]?=some ms){r:Rs}(h:Out d m (λa b=>B a b∨(a=k/\b=x)) (λn=>AD d m (Ay d m n) x ms.x) r):Out d m B (λn=>Ay d m n k x) r:=by
 have z:∀n,Ay d m (n+1) k x=AD d m (Ay d m n) x ms.x:=λn=>by grind[Ay]
 have zero:Ay d m 0 k x=.bad 16:=by rw[Ay,if_neg q]
 cases r with
 |ok v=>obtain⟨n,h⟩:=h;exact⟨n+1,(z n).trans h⟩
 |bad e=>
  rcases h with⟨y,n,l⟩|⟨rfl,h⟩;·exact .inl ⟨y,n+1,(z n).trans l⟩
  ·refine .inr ⟨rfl,?_⟩;rcases h with h|⟨a,b,y,l⟩;·exact .inl λn=>by cases n with|zero=>exact zero|succ n=>simp_all
   ·rcases y with y|⟨rfl,rfl⟩
    ·refine .inr ⟨a,b,y,λn hn=>?_⟩;cases n with
     |zero=>exact zero
     |succ n=>
      refine(z n).trans (l n ?_);rcases evM_le (d:=d) (m:=m) n a b with g|g;·exact g
      grind
    ·refine .inl λn=>?_;induction n with
     |zero=>exact zero
     |succ n o=>simp_all
theorem Out.unique{g:Nat->Rs}(o:Mono g){r p:Rs}(h:Out d m (λ_ _=>False) g r)(G:Out d m (λ_ _=>False) g p):r=p:=by
 have key:∀{r:Rs},Out d m (λ_ _=>False) g r->(r≠.bad 16/\∃n,g n=r)∨(r=.bad 16/\∀n,g n=.bad 16):=λ{r} h=>by
  cases r with
  |ok v=>exact .inl ⟨nofun,h⟩
  |bad e=>
   rcases h with⟨z,H⟩|⟨rfl,h⟩;·simp_all
   simp_all
 rcases key h with⟨z,n,H⟩|⟨z,H⟩<;>rcases key G with⟨J,l,N⟩|⟨J,N⟩
 ·have y:=o n (max n l) (by omega);have q:=o l (max n l) (by omega);rcases y with y|y;·simp_all
  ·rcases q with q|q;·simp_all
   simp_all
 ·simp_all
 ·simp_all
 ·rw[z,J]
section
variable{F:Int->Int->Rs}{x op n:Int}{s:KB}{rs:List Rs}
theorem comb1(h:op=1∨op=2):C4 d m F x op n s rs=.ok n:=by rcases h with rfl|rfl<;>rfl
theorem comb3(h:op=3):C4 d m F x op n s rs=.ok 0:=by subst h;rfl
theorem comb4(h:op=4):C4 d m F x op n s rs=.ok (varV d m x s):=by subst h;rfl
theorem comb5(h:op=5):C4 d m F x op n s rs=(Bo rs 0).bind λa=>fldV d m a s:=by subst h;rfl
theorem comb7(h:op=7):C4 d m F x op n s rs=(Bo rs 0).bind λa=>F (mIdx d s) a:=by subst h;rfl
theorem comb8(h:op=8):C4 d m F x op n s rs=(Bo rs 0).bind λa=>BH (-a):=by subst h;rfl
theorem comb18(h:op=18):C4 d m F x op n s rs=(Bo rs 0).bind λa=>.ok (1-a):=by subst h;rfl
theorem comb24(h:op=24):C4 d m F x op n s rs=(Bo rs 0).bind λa=>.ok (logV a):=by subst h;rfl
theorem comb19(h:op=19):C4 d m F x op n s rs=(Bo rs 0).bind λa=>if a=0 then .ok 0 else Bo rs 1:=by subst h;rfl
theorem comb20(h:op=20):C4 d m F x op n s rs=(Bo rs 0).bind λa=>if a=0 then Bo rs 1 else .ok 1:=by subst h;rfl
theorem comb21(h:op=21):C4 d m F x op n s rs=(Bo rs 0).bind λa=>if a=0 then Bo rs 2 else Bo rs 1:=by subst h;rfl
theorem IZ(h:9<=op/\op<=23/\op≠18/\op≠19/\op≠20/\op≠21):C4 d m F x op n s rs=(Bo rs 0).bind λa=>(Bo rs 1).bind λb=>A4 op a b:=by
 grind[C4]
end
end Go.Proofs
namespace Go.Proofs
open Go Go.Sx
structure Am (d:Ds)(m:Mm):Prop where
 valid:A7 d=true
 chk:BJ d=none
 mem:BQ d m=true
def VE(e:E):Prop:=∃k,Bv k e=true
theorem VE.of_valid{e:E}(h:Bf e=true):VE e:=⟨1,(of_decide_eq_true h).1⟩
theorem okE_eq(k:Int)(e:E):Bv k e=(decide (k<=60)&&CF e.op e.n e.s e.k.length&&okEs (k+1) e.k):=by cases e;unfold Bv;rfl
theorem Kb{k:Int}:∀{l:List E},okEs k l=true->∀x∈l,Bv k x=true
 |[],_,x,g=>by cases g
 |e::l,h,x,g=>by
  unfold okEs at h;rw[zC]at h;rcases List.mem_cons.1 g with rfl|g;·exact h.1
  ·exact Kb h.2 x g
theorem VE.node{e:E}(h:VE e):CF e.op e.n e.s e.k.length=true:=by
 obtain⟨k,h⟩:=h;simp_all[okE_eq,zC]
theorem VE.kids{e:E}(h:VE e):∀x∈e.k,VE x:=by
 obtain⟨k,h⟩:=h;rw[okE_eq,zC]at h;exact λx g=>⟨_,Kb h.2 x g⟩
theorem I0(d:Ds)(sc:Sc):∀(k:List E)(acc:List KB),(partsT d sc acc k).2=0->(∀x∈k,(Al d sc x).2=0)/\(partsT d sc acc k).1=acc++k.map λx=>(Al d sc x).1
 |[],acc,_=>by rw[Ha];simp
 |x::xs,acc,h=>by
  rw[Gs]at h⊢;split at h;·omega
  ·rename_i g;rw[if_neg g];obtain⟨z,y⟩:=I0 d sc xs _ h;simp_all
theorem LX{d:Ds}{sc:Sc}{e:E}{t:KB}(h:Al d sc e=(t,0)):(∀x∈e.k,(Al d sc x).2=0)/\Ej d sc e.op e.s (e.k.map λx=>(Al d sc x).1)=(t,0):=by
 grind[IM,zS,absurd,partsT,I0]
theorem arityB{op n:Int}{s:KB}{l:Int}(h:CF op n s l=true):Bs op≠-2/\(0<=Bs op->l=Bs op)/\D0 op s=true/\numB op n=true:=by
 grind[CF]
theorem list1{α:Type}{k:List α}(h:(k.length:Int)=1):∃a,k=[a]:=by
 match k,h with
 |[a],_=>grind
 |[],h=>simp at h
 |_::_::_,h=>simp at h;omega
theorem list2{α:Type}{k:List α}(h:(k.length:Int)=2):∃a b,k=[a,b]:=by
 match k,h with
 |[a,b],_=>simp_all
 |[],h=>simp at h
 |[_],h=>simp at h
 |_::_::_::_,h=>simp at h;omega
theorem list3{α:Type}{k:List α}(h:(k.length:Int)=3):∃a b c,k=[a,b,c]:=by
 match k,h with
 |[a,b,c],_=>simp_all
 |[],h=>simp at h
 |[_],h=>simp at h
 |[_,_],h=>simp at h
 |_::_::_::_::_,h=>simp at h;omega
theorem name_kw{s:KB}(h:A6 s=true):isKw s=false:=by
 grind[A6]
theorem DQ{s t:KB}(h:A6 s=true)(ht:isKw t=true):s≠t:=λe=>by grind[name_kw]
theorem kwNil:isKw C1=true:=by kernel_rfl
theorem kwInt:isKw Ai=true:=by kernel_rfl
theorem kwBool:isKw Ar=true:=by kernel_rfl
theorem kwThis:isKw CI=true:=by kernel_rfl
theorem name_E{s:KB}(h:A6 s=true):s≠sE:=λe=>by
 rw[e]at h;have:A6 sE=false:=by rfl
 simp_all
section
variable{d:Ds}{m:Mm}
theorem Hj(h:A7 d=true):(∀t∈d.types,A6 t.name=true)/\(∀f∈d.globals,A6 f.name=true)/\(∀x∈d.measures,Dh x=true)/\(∀x∈d.invs,EC x=true):=by
 grind[A7,E5,Ei,CT,fldB]
theorem FX(h:A7 d=true){s:KB}(g:BE d s=true):A6 s=true:=by
 obtain⟨t,ht,e⟩:=List.any_eq_true.1 g;rw[<-of_decide_eq_true e];exact(Hj h).1 t ht
def AX(d:Ds)(m:Mm)(t:KB)(v:Int):Prop:=if t=C1 then v=0 else AR d m t v=true
theorem HY:C1≠Ai/\C1≠Ar/\Ai≠C1/\Ar≠C1/\Ai≠Ar/\Ar≠Ai:=by
 refine⟨of_decide_eq_false ?_,of_decide_eq_false ?_,of_decide_eq_false ?_,of_decide_eq_false ?_,of_decide_eq_false ?_,of_decide_eq_false ?_⟩<;>kernel_rfl
theorem C5{v:Int}:AX d m Ai v↔-1099511627776<=v/\v<=1099511627776:=by
 unfold AX AR;rw[if_neg HY.2.2.1,if_pos rfl,decide_eq_true_eq]
theorem Da{v:Int}:AX d m Ar v↔v=0∨v=1:=by
 unfold AX AR;rw[if_neg HY.2.2.2.1,if_neg HY.2.2.2.2.2,if_pos rfl,decide_eq_true_eq]
theorem E7(h:A7 d=true){t:KB}(ht:known d t=true){v:Int}:AX d m t v↔AR d m t v=true:=by
 unfold AX;rw[if_neg];intro e;subst e;unfold known at ht;rw[decide_eq_false HY.1,decide_eq_false HY.2.1]at ht;exact DQ (FX h (by simpa using ht)) kwNil rfl
theorem LY{t:KB}(h:A6 t=true):AR d m t 0=true:=by
 unfold AR;rw[if_neg (DQ h kwInt),if_neg (DQ h kwBool)];exact decide_eq_true (.inl rfl)
theorem EF(h:A7 d=true){a b:KB}(hf:Bi d a b=true){v:Int}(hv:AX d m a v):AX d m b v:=by
 unfold Bi at hf;simp only[yQ,zC,decide_eq_true_eq]at hf;rcases hf with rfl|⟨rfl,hb⟩;·exact hv
 ·have hn:=FX h hb;unfold AX at hv⊢;rw[if_pos rfl]at hv;rw[if_neg (DQ hn kwNil),hv];exact LY hn
def This(d:Ds)(m:Mm)(T:KB)(x:Int):Prop:=(T=sE/\x=0)∨(BE d T=true/\x≠0/\AR d m T x=true)
theorem HZ:∀(l:List Fld)(s:KB),Bn l s=((l.find? λf=>decide (f.name=s)).map (·.ty)).getD sE
 |[],_=>rfl
 |f::l,s=>by
  unfold Bn;rw[xj];by_cases h:f.name=s;·simp_all
  ·rw[if_neg h,decide_eq_false h,HZ l s]
theorem Gy(l:List Fld)(s:KB):(Bn l s=sE/\BL l s=-1)∨∃(i:Nat)(f:Fld),BL l s=i/\l[i]?=some f/\Bn l s=f.ty/\f.name=s:=by
 rw[HZ];unfold BL;rcases Cw (λf:Fld=>decide (f.name=s)) l with⟨g,z,-⟩|⟨i,x,g,z,y,-,q,-⟩;·grind
 grind
theorem E8(h:hasT d=true):DF d d.globals=true/\(∀(i:Nat)(x:Ty),d.types[i]?=some x->Bt d x.name=(i:Int))/\∀x∈d.types,DF d x.fields=true:=by
 unfold hasT at h;rw[zC,zC,FW]at h;obtain⟨⟨-,z⟩,y⟩:=h;refine⟨z,λi x g=>?_,λx g=>?_⟩;·grind
 ·obtain⟨i,hi,rfl⟩:=yc.1 g;have:=y i _ (yu hi);simp_all
theorem BX(h:BQ d m=true):hasT d=true/\m.nodes.length<=4096/\(∀n∈m.nodes,DP d n=true)/\AB d m d.globals m.globals=true/\∀n∈m.nodes,AB d m (BV d n.ty) n.f=true:=by
 grind[BQ]
theorem H0{l:List Fld}{vs:List Int}(h:AB d m l vs=true){i:Nat}{f:Fld}(hi:l[i]?=some f):∃v,vs[i]?=some v/\AR d m f.ty v=true:=by
 unfold AB at h;rw[zC,decide_eq_true_eq,FW]at h;have hl:=(List.getElem?_eq_some_iff.1 hi).1;have hv:vs[i]?=some (vs[i]'(by omega)):=yu _;grind[tyAt]
theorem LZ{t:KB}(hn:A6 t=true){a:Int}(h:AR d m t a=true)(q:a≠0):1<=a/\a<=(m.nodes.length:Int)/\∃n,m.nodes[(a-1).toNat]?=some n/\n∈m.nodes/\n.ty=Bt d t:=by
 unfold AR at h;rw[if_neg (DQ hn kwInt),if_neg (DQ hn kwBool),decide_eq_true_eq]at h;rcases h with h|⟨y,l,g⟩;·omega
 ·refine⟨y,l,?_⟩;cases z:m.nodes[(a-1).toNat]? with
  |none=>simp_all
  |some n=>rw[z]at g;exact⟨n,rfl,xM z,by simpa using g⟩
theorem tyOf_idx{s:KB}{t:Ty}(h:tyOf d s=some t):∃i:Nat,Bt d s=(i:Int)/\d.types[i]?=some t/\t.name=s/\BE d s=true:=by
 unfold tyOf at h;unfold Bt BE;rcases Cw (λt:Ty=>decide (t.name=s)) d.types with⟨-,g,-⟩|⟨i,x,z,g,y,-,l,-,h7,-⟩;·simp_all
 grind
theorem fld_ok(G:Am d m){t s ty:KB}(ht:C2 d t s=(ty,0)){a:Int}(ha:AX d m t a)(Q:a≠0):
  ∃(n:Nd)(i j:Nat)(g:Ty)(f:Fld)(v:Int),m.nodes[(a-1).toNat]?=some n/\n∈m.nodes/\1<=a/\a<=(m.nodes.length:Int)/\n.ty=(j:Int)/\d.types[j]?=some g/\g∈d.types/\BL g.fields s=i/\g.fields[i]?=some f/\n.f[i]?=some v/\AX d m ty v/\fldV d m a s=.ok v/\f.ty=ty:=by
 unfold C2 at ht;cases o:tyOf d t with
 |none=>simp_all
 |some g=>
  rw[o]at ht;simp only at ht;split at ht;·simp at ht
  ·rename_i hl;simp only[zS,and_true]at ht;obtain⟨j,Y,y,rfl,l⟩:=tyOf_idx o;have q:=FX G.valid l;have p:AR d m g.name a=true:=by
    grind[AX]
   obtain⟨b1,b2,n,b3,b4,b5⟩:=LZ q p Q;rcases Gy g.fields s with⟨W,-⟩|⟨i,f,W,c2,c3,c4⟩;·grind
   ·have H:BV d n.ty=g.fields:=En y (b5.trans Y);obtain⟨p1,-,-,-,O⟩:=BX G.mem;have hv:=O n b4;rw[H]at hv;obtain⟨v,J,N⟩:=H0 hv c2;have z:=xM y;have Z:known d f.ty=true:=z6.1 ((E8 p1).2.2 g z) f (xM c2);refine⟨n,i,j,g,f,v,b3,b4,b1,b2,b5.trans Y,y,z,W,c2,J,?_,?_,c3.symm.trans ht⟩;·rw[<-ht,c3];exact(E7 G.valid Z).2 N
    simp_all[fldV,if_neg,xh]
theorem var_ok(G:Am d m){T s t:KB}{x:Int}(H:This d m T x)(ht:Bn (AQ d T).vars s=t)(hne:t≠sE):
  (s=CI/\AX d m t x/\T=t)∨(s≠CI/\∃(i:Nat)(f:Fld)(v:Int),BL d.globals s=i/\d.globals[i]?=some f/\m.globals[i]?=some v/\AX d m t v/\varV d m x s=v/\f.ty=t):=by
 obtain⟨p1,-,-,J,-⟩:=BX G.mem;unfold AQ at ht;by_cases y:s=CI
 ·left;refine⟨y,?_⟩;rcases H with⟨rfl,rfl⟩|⟨N,Z,Y⟩
  ·rw[if_pos rfl,List.nil_append,y]at ht;rcases Gy d.globals CI with⟨l,-⟩|⟨i,f,-,c2,-,c4⟩;·simp_all
   ·have:=(Hj G.valid).2.1 f (xM c2);rw[c4]at this;exact absurd rfl (DQ this kwThis)
  ·have g:=FX G.valid N;rw[if_neg (name_E g),y]at ht;simp_all[List.singleton_append,Bn,if_true,AX,if_neg,DQ,kwNil]
 ·right;refine⟨y,?_⟩;have z:Bn d.globals s=t:=by
   grind[Bn]
  rcases Gy d.globals s with⟨l,-⟩|⟨i,f,l,c2,c3,-⟩;·simp_all
  ·obtain⟨v,q,o⟩:=H0 J c2;have p:known d f.ty=true:=z6.1 (E8 p1).1 f (xM c2);refine⟨i,f,v,l,c2,q,?_,?_,c3.symm.trans z⟩;·rw[<-z,c3];exact(E7 G.valid p).2 o
   grind[varV]
theorem FY{α β:Type}{f:Nat->α->Option β}:∀{l:List α}{i:Nat},Ak f i l=none->∀j x,l[j]?=some x->f (i+j) x=none
 |[],_,_,j,x,g=>by simp at g
 |y::l,i,h,j,x,g=>by
  unfold Ak at h;cases z:f i y with
  |some b=>simp_all
  |none=>
   rw[z]at h;cases j with
   |zero=>simp_all
   |succ j=>rw[show i+(j+1)=i+1+j by omega];exact FY h j x (by simpa using g)
theorem Eo{α:Type}{a b:Option α}(h:a.or b=none):a=none/\b=none:=by
 simp_all
theorem Kc(h:BJ d=none):(∀x∈d.measures,BE d x.ty=true/\Al d (AQ d x.ty) x.x=(Ai,0))/\(∀x∈d.invs,(x.ty=sE∨BE d x.ty=true)/\Al d (AQ d x.ty) x.x=(Ar,0)):=by
 unfold BJ at h;obtain⟨-,h⟩:=Eo h;obtain⟨-,h⟩:=Eo h;obtain⟨hf,h⟩:=Eo h;obtain⟨-,h⟩:=Eo h;unfold C3 at hf;obtain⟨y,hf⟩:=Eo hf;obtain⟨f2,-⟩:=Eo hf;unfold D6 at h;obtain⟨l,h⟩:=Eo h;obtain⟨q,-⟩:=Eo h;have z:∀{sc:Sc}{e:E}{t:KB},A2 d sc e t=0->Al d sc e=(t,0):=λ{sc e t} h=>by
  grind[A2,absurd]
 refine⟨λx g=>?_,λx g=>?_⟩
 ·obtain⟨i,hi,rfl⟩:=yc.1 g;have a1:=FY y i _ (yu hi);have a2:=FY l i _ (yu hi);grind
 ·obtain⟨i,hi,rfl⟩:=yc.1 g;have a1:=FY f2 i _ (yu hi);have a2:=FY q i _ (yu hi);grind
end
end Go.Proofs
namespace Go.Proofs
open Go Go.Sx
section
variable{d:Ds}{m:Mm}
theorem I1{f:E->Rs}{k:List E}{i:Nat}{e:E}(h:k[i]?=some e):Bo (k.map f) i=f e:=by
 grind[Bo]
theorem EG{r:Rs}{f:Int->Rs}{v:Int}(h:r.bind f=.ok v):∃a,r=.ok a/\f a=.ok v:=by
 cases r with
 |ok a=>exact⟨a,rfl,h⟩
 |bad e=>cases h
theorem big_ok{n v:Int}(h:BH n=.ok v):v=n/\-1099511627776<=v/\v<=1099511627776:=by
 unfold BH at h;grind
theorem trI_b(b:Bool):Dq b=0∨Dq b=1:=by cases b<;>simp[Dq]
theorem D8{ok:Bool}{t g:KB}(h:CP ok t=(g,0)):ok=true/\t=g:=by
 grind[CP]
theorem tdiv_in{a b:Int}(ha:-1099511627776<=a/\a<=1099511627776):-1099511627776<=a.tdiv b/\a.tdiv b<=1099511627776:=by
 have:=Int.natAbs_tdiv_le_natAbs a b;omega
theorem tmod_in{a b:Int}(ha:-1099511627776<=a/\a<=1099511627776):-1099511627776<=a.tmod b/\a.tmod b<=1099511627776:=by
 have g:=Int.natAbs_tmod a b;have:=Nat.mod_le a.natAbs b.natAbs;omega
theorem log_in{a:Int}(ha:a<=1099511627776):0<=logV a/\logV a<=1099511627776:=by
 grind[logV,Nat.log2,Nat.log2_le_self]
inductive Kind (d:Ds)(sc:Sc)(e:E):KB->Prop where
 |int (h:e.op=1) (hn:0<=e.n/\e.n<=1099511627776):Kind d sc e Ai
 |bool (h:e.op=2) (hn:e.n=0∨e.n=1):Kind d sc e Ar
 |nil (h:e.op=3) (hn:e.n=0):Kind d sc e C1
 |var {t} (h:e.op=4) (hl:Bn sc.vars e.s=t) (hne:t≠sE):Kind d sc e t
 |fld {t u} {a:E} (h:e.op=5) (hk:e.k=[a]) (ha:Al d sc a=(u,0)) (ht:C2 d u e.s=(t,0)):Kind d sc e t
 |call {u} {a:E} {ms:Ms} {i:Nat} (h:e.op=7) (hk:e.k=[a]) (ha:Al d sc a=(u,0)) (hi:mIdx d e.s=i) (hms:d.measures[i]?=some ms) (hf:Bi d u ms.ty=true):Kind d sc e Ai
 |neg {a:E} (h:e.op=8) (hk:e.k=[a]) (ha:Al d sc a=(Ai,0)):Kind d sc e Ai
 |not {a:E} (h:e.op=18) (hk:e.k=[a]) (ha:Al d sc a=(Ar,0)):Kind d sc e Ar
 |log {a:E} (h:e.op=24) (hk:e.k=[a]) (ha:Al d sc a=(Ai,0)):Kind d sc e Ai
 |and {a b:E} (h:e.op=19) (hk:e.k=[a,b]) (ha:Al d sc a=(Ar,0)) (hb:Al d sc b=(Ar,0)):Kind d sc e Ar
 |or {a b:E} (h:e.op=20) (hk:e.k=[a,b]) (ha:Al d sc a=(Ar,0)) (hb:Al d sc b=(Ar,0)):Kind d sc e Ar
 |cond {a b c:E} {t u w} (h:e.op=21) (hk:e.k=[a,b,c]) (ha:Al d sc a=(Ar,0)) (hb:Al d sc b=(u,0)) (hc:Al d sc c=(w,0)) (hu:u=t∨Bi d u t=true) (hw:w=t∨Bi d w t=true):Kind d sc e t
 |eq {a b:E} {u w} (h:e.op=14∨e.op=15) (hk:e.k=[a,b]) (ha:Al d sc a=(u,0)) (hb:Al d sc b=(w,0)):Kind d sc e Ar
 |cmp {a b:E} (h:e.op=16∨e.op=17) (hk:e.k=[a,b]) (ha:Al d sc a=(Ai,0)) (hb:Al d sc b=(Ai,0)):Kind d sc e Ar
 |ari {a b:E} (h:e.op=9∨e.op=10∨e.op=11∨e.op=12∨e.op=13∨e.op=22∨e.op=23) (hk:e.k=[a,b]) (ha:Al d sc a=(Ai,0)) (hb:Al d sc b=(Ai,0)):Kind d sc e Ai
theorem allT1{t u:KB}(h:allT [t] u=true):t=u:=by simpa [allT]using h
theorem allT2{t g u:KB}(h:allT [t,g] u=true):t=u/\g=u:=by simpa [allT]using h
theorem Bp{p:KB×Int}{t:KB}(g:p.1=t)(z:p.2=0):p=(t,0):=Prod.ext g z
theorem kind{sc:Sc}(W:sc.body=false){e:E}{t:KB}(hv:VE e)(ht:Al d sc e=(t,0)):Kind d sc e t:=by
 obtain⟨hk,hn⟩:=LX ht;obtain⟨a1,a2,a3,l⟩:=arityB hv.node;unfold Ej at hn;unfold numB at l;have one:Bs e.op=1->∃a,e.k=[a]:=λh=>list1 ((a2 (by omega)).trans h);have q:Bs e.op=2->∃a b,e.k=[a,b]:=λh=>list2 ((a2 (by omega)).trans h);have G:Bs e.op=3->∃a b c,e.k=[a,b,c]:=λh=>list3 ((a2 (by omega)).trans h);by_cases Q:e.op=1
 ·rw[if_pos Q]at hn l;cases hn;exact .int Q (of_decide_eq_true l)
 rw[if_neg Q]at hn l;by_cases O:e.op=2
 ·rw[if_pos O]at hn l;cases hn;exact .bool O (of_decide_eq_true l)
 rw[if_neg O]at hn l;have l:e.n=0:=of_decide_eq_true l;by_cases A:e.op=3
 ·rw[if_pos A]at hn;cases hn;exact .nil A l
 rw[if_neg A]at hn;by_cases I:e.op=4
 ·rw[if_pos I]at hn;split at hn;·simp at hn
  ·rename_i hne;simp only[zS,and_true]at hn;exact .var I hn (hn▸hne)
 rw[if_neg I]at hn;by_cases Y:e.op=5
 ·obtain⟨a,ha⟩:=one (by rw[Y];rfl);rw[if_pos Y,ha]at hn;rw[ha]at hk;exact .fld Y ha (Bp rfl (hk a (by simp))) hn
 rw[if_neg Y]at hn;by_cases h6:e.op=6;·simp_all
 rw[if_neg h6]at hn;by_cases h7:e.op=7
 ·rw[if_pos h7]at hn;unfold ED at hn;rw[if_neg (by rw[W];decide)]at hn;unfold E6 meOf at hn;unfold mIdx at*
  rcases Cw (λx:Ms=>decide (x.name=e.s)) d.measures with⟨-,L,-⟩|⟨i,ms,q1,L,q3,-⟩;·simp_all
  ·rw[q3]at hn;simp only at hn;split at hn;·simp at hn
   ·rename_i hl;obtain⟨a,ha⟩:∃a,e.k=[a]:=list1 (by grind);rw[ha]at hn hk;obtain⟨b1,rfl⟩:=D8 hn;exact .call h7 ha (Bp rfl (hk a (by simp))) q1 L (by simpa using b1)
 rw[if_neg h7]at hn;by_cases o:e.op=14∨e.op=15
 ·obtain⟨a,b,z⟩:=q (by rcases o with h|h<;>(rw[h];rfl));rw[if_pos o]at hn;rw[z]at hk;obtain⟨-,rfl⟩:=D8 hn;exact .eq o z (Bp rfl (hk a (by simp))) (Bp rfl (hk b (by simp)))
 rw[if_neg o]at hn;by_cases p:e.op=16∨e.op=17
 ·obtain⟨a,b,z⟩:=q (by rcases p with h|h<;>(rw[h];rfl));rw[if_pos p,z]at hn;rw[z]at hk;obtain⟨g,rfl⟩:=D8 hn;obtain⟨Z,J⟩:=allT2 g;exact .cmp p z (Bp Z (hk a (by simp))) (Bp J (hk b (by simp)))
 rw[if_neg p]at hn;by_cases N:e.op=18∨e.op=19∨e.op=20
 ·rw[if_pos N]at hn;rcases N with h|h
  ·obtain⟨a,ha⟩:=one (by rw[h];rfl);rw[ha]at hn hk;obtain⟨g,rfl⟩:=D8 hn;exact .not h ha (Bp (allT1 g) (hk a (by simp)))
  ·obtain⟨a,b,z⟩:=q (by rcases h with h|h<;>(rw[h];rfl));rw[z]at hn hk;obtain⟨g,rfl⟩:=D8 hn;obtain⟨Z,J⟩:=allT2 g;rcases h with h|h;·exact .and h z (Bp Z (hk a (by simp))) (Bp J (hk b (by simp)))
   ·exact .or h z (Bp Z (hk a (by simp))) (Bp J (hk b (by simp)))
 rw[if_neg N]at hn;by_cases H:e.op=21
 ·obtain⟨a,b,c,y⟩:=G (by rw[H];rfl);rw[if_pos H,y]at hn;rw[y]at hk;obtain⟨g,J⟩:=D8 hn;simp only[List.map_cons,List.map_nil,List.getD_cons_zero,List.getD_cons_succ,zC,decide_eq_true_eq,yQ]at g J;refine .cond H y (Bp g.1 (hk a (by simp))) (Bp rfl (hk b (by simp))) (Bp rfl (hk c (by simp))) ?_ ?_;·grind[inr,Bi]
  grind[Bi,absurd,inr]
 rw[if_neg H]at hn;obtain⟨g,rfl⟩:=D8 hn;have M:e.op=8∨e.op=24∨(e.op=9∨e.op=10∨e.op=11∨e.op=12∨e.op=13∨e.op=22∨e.op=23):=by
  grind[Bs]
 rcases M with h|h|h
 ·obtain⟨a,ha⟩:=one (by rw[h];rfl);rw[ha]at g hk;exact .neg h ha (Bp (allT1 g) (hk a (by simp)))
 ·obtain⟨a,ha⟩:=one (by rw[h];rfl);rw[ha]at g hk;exact .log h ha (Bp (allT1 g) (hk a (by simp)))
 ·obtain⟨a,b,z⟩:=q (by rcases h with h|h|h|h|h|h|h<;>(rw[h];rfl));rw[z]at g hk;obtain⟨Z,J⟩:=allT2 g;exact .ari h z (Bp Z (hk a (by simp))) (Bp J (hk b (by simp)))
theorem two_ok{op a b v:Int}(h:op=9∨op=10∨op=11∨op=12∨op=13∨op=22∨op=23)(ha:-1099511627776<=a/\a<=1099511627776)(hb:-1099511627776<=b/\b<=1099511627776)(hv:A4 op a b=.ok v):-1099511627776<=v/\v<=1099511627776:=by
 unfold A4 at hv;split at hv;·exact(big_ok hv).2
 split at hv;·exact(big_ok hv).2
 split at hv;·exact(big_ok hv).2
 split at hv;·grind
 split at hv;·grind
 repeat' (split at hv;(first|omega|cases hv))
 ·exact tdiv_in ha
 ·cases hv;exact tmod_in ha
theorem I2{op a b v:Int}(h:op=14∨op=15∨op=16∨op=17)(hv:A4 op a b=.ok v):v=0∨v=1:=by
 rcases h with rfl|rfl|rfl|rfl
 ·have:Dq (decide (a=b))=v:=by injection hv
  grind[trI_b]
 ·have:Dq (!decide (a=b))=v:=by injection hv
  grind[trI_b]
 ·have:Dq (decide (a<b))=v:=by injection hv
  grind[trI_b]
 ·have:Dq (decide (a<=b))=v:=by injection hv
  grind[trI_b]
theorem L0(G:Am d m){F:Int->Int->Rs}(J:∀(i:Nat) ms x v,d.measures[i]?=some ms->AX d m ms.ty x->F i x=.ok v->AX d m Ai v){T:KB}{x:Int}(N:This d m T x):
  ∀(e:E)(t:KB)(v:Int),VE e->Al d (AQ d T) e=(t,0)->AD d m F x e=.ok v->AX d m t v:=by
 intro e;induction e using E.ind with
 |h e Z=>
 intro t v hv ht g;rw[evE_eq]at g;have k0:∀{a:E}{l:List E},e.k=a::l->Bo (e.k.map (AD d m F x)) 0=AD d m F x a:=λh=>I1 (by rw[h];rfl);have H:∀{a b:E}{l:List E},e.k=a::b::l->Bo (e.k.map (AD d m F x)) 1=AD d m F x b:=λh=>I1 (by rw[h];rfl);have Y:∀{a b c:E}{l:List E},e.k=a::b::c::l->Bo (e.k.map (AD d m F x)) 2=AD d m F x c:=λh=>I1 (by rw[h];rfl);have y:∀{a:E}{l:List E},e.k=a::l->a∈e.k:=λh=>by rw[h];simp
 have o:∀{a b:E}{l:List E},e.k=a::b::l->b∈e.k:=λh=>by rw[h];simp
 have p:∀{a b c:E}{l:List E},e.k=a::b::c::l->c∈e.k:=λh=>by rw[h];simp
 have I:∀{a:E}{u:KB}{w:Int},a∈e.k->Al d (AQ d T) a=(u,0)->AD d m F x a=.ok w->AX d m u w:=λhm ha hw=>Z _ hm _ _ (hv.kids _ hm) ha hw;cases kind (d:=d) (sc:=AQ d T) rfl hv ht with
 |int h hn=>
  grind[comb1,C5]
 |bool h hn=>
  grind[comb1,inr,Da]
 |nil h hn=>
  rw[comb3 h]at g;injection g with g
  unfold AX;rw[if_pos rfl];exact g.symm
 |var h hl hne=>
  rw[comb4 h]at g;injection g with g
  rcases var_ok G N hl hne with⟨q,z,-⟩|⟨q,i,f,v',z,Q,O,A,h6,-⟩;·grind[varV]
  simp_all
 |fld h hk ha hf=>
  rw[comb5 h,k0 hk]at g;obtain⟨a,q,z⟩:=EG g;have W:=I (y hk) ha q;by_cases M:a=0;·grind[fldV]
  grind[fld_ok]
 |call h hk ha hi hms hf=>
  rw[comb7 h,k0 hk,hi]at g;obtain⟨a,q,z⟩:=EG g;exact J _ _ _ _ hms (EF G.valid hf (I (y hk) ha q)) z
 |neg h hk ha=>
  grind[comb8,EG,C5,big_ok]
 |not h hk ha=>
  grind[comb18,EG,Da]
 |log h hk ha=>
  rw[comb24 h,k0 hk]at g;obtain⟨a,q,z⟩:=EG g;cases z;have:=C5.1 (I (y hk) ha q);have:=log_in (a:=a) this.2;rw[C5];omega
 |and h hk ha hb=>
  rw[comb19 h,k0 hk,H hk]at g;obtain⟨a,q,z⟩:=EG g;grind
 |or h hk ha hb=>
  rw[comb20 h,k0 hk,H hk]at g;obtain⟨a,q,z⟩:=EG g;split at z;·grind
  ·cases z;rw[Da];exact .inr rfl
 |cond h hk ha hb hc hu hw=>
  rw[comb21 h,k0 hk,H hk,Y hk]at g;obtain⟨a,q,z⟩:=EG g;split at z
  ·have:=I (p hk) hc z;rcases hw with rfl|hw;·exact this
   ·exact EF G.valid hw this
  ·have:=I (o hk) hb z;rcases hu with rfl|hu;·exact this
   ·exact EF G.valid hu this
 |eq h hk ha hb=>
  grind[IZ,EG,Da,I2]
 |cmp h hk ha hb=>
  grind[IZ,EG,Da,I2]
 |ari h hk ha hb=>
  rw[IZ (by omega),k0 hk,H hk]at g;grind[EG,C5,two_ok]
theorem Kd{x:Ms}(h:Dh x=true):A6 x.ty=true/\(-1099511627776<=x.nil/\x.nil<=1099511627776)/\VE x.x:=by
 simp_all[Dh,zC,decide_eq_true_eq,VE.of_valid]
theorem sound_M(G:Am d m):∀(n:Nat)(i:Nat) ms x v,d.measures[i]?=some ms->AX d m ms.ty x->Ay d m n i x=.ok v->AX d m Ai v:=by
 intro n;have z:∀(i:Nat) ms,d.measures[i]?=some ms->AX d m Ai (nilM d i):=λi ms h=>by
  rw[C5];unfold nilM;rw[xh,h];exact(Kd ((Hj G.valid).2.2.1 ms (xM h))).2.1
 induction n with
 |zero=>
  grind[Ay]
 |succ n y=>
  intro i ms x v hms p hv;rw[Ay]at hv;split at hv;·grind
  ·rename_i l;rw[xh,hms]at hv;simp only at hv;have g:=xM hms;obtain⟨q,c2⟩:=(Kc G.chk).1 ms g;have o:This d m ms.ty x:=.inr ⟨q,l,by
    grind[AX]⟩
   exact L0 G y o ms.x Ai v (Kd ((Hj G.valid).2.2.1 ms g)).2.2 c2 hv
theorem sound(G:Am d m){T:KB}{x:Int}(g:This d m T x){e:E}{t:KB}{v:Int}(hv:VE e)(ht:Al d (AQ d T) e=(t,0)){n:Nat}(z:AD d m (Ay d m n) x e=.ok v):AX d m t v:=
 L0 G (sound_M G n) g e t v hv ht z
end
end Go.Proofs
namespace Go.Sx
open Go
def Au(r:Option Nat):Fence:={xf with round:=r}
section
variable{P:Program}{r:Option Nat}{n:Nat}
theorem Ke{f:FuncId}{args:Array Value}{w:World}{R:Ending->World->Prop}:CallsIn (Au r) n P f args w R↔Calls P f args w R:=callsIn_wide (n:=n)
theorem rowsIn_wideR{row:String}{args:Array Value}{w:World}{R:Value->World->Prop}(h:Rows P row args w R):RowsIn (Au r) n P row args w R:=λc cs _=>
 let⟨v,w',q,s⟩:=h c cs
 ⟨v,w',q,stepsIn_wide.2 s⟩
theorem L8{o:Oper}{a:Act}{w:World}{next:Act->World->Prop}{Q:Exit->Act->World->Prop}(g:∀c,o.op≠.defer c)(h:o.wp P a w next Q):o.wpIn (Au r) n P a w next Q:=by
 refine⟨λ_ _=>trivial,?_⟩;rw[Oper.semAt_eq _ _ _ g];unfold Oper.wp at h;revert h;generalize(execOp a.eval o).run P w=res;intro h;cases res with
 |ok x w'=>
  cases x with
  |enter f args=>exact⟨λh=>by simp[Au,xf]at h,Ke.2 h⟩
  |row row args=>exact⟨λh=>by simp[Au,xf]at h,rowsIn_wideR h⟩
  |value v=>exact h
  |skip=>exact h
  |defer d=>exact h
  |_=>exact h.elim
 |halt x w'=>cases x<;>first|exact h|exact h.elim
def I3:Op->Bool
 |.defer _=>false
 |_=>true
theorem Kf{o:Op}(h:I3 o=true):∀c,o≠.defer c:=λc e=>by subst e;cases h
def EH:Code->Bool
 |.region _ g _=>g.all λo=>I3 o.op
 |.seq x y=>EH x&&EH y
 |.block _ b=>EH b
 |.cond _ x y=>EH x&&EH y
 |.loop b=>EH b
 |_=>true
theorem L9{ops:Array Oper}{Q:Exit->Act->World->Prop}(y:¬LetsOut Q)(J:∀o∈ops,∀c,o.op≠.defer c)(l:List Oper):∀k,(∀j,j<l.length->l[j]?=ops[k+j]?)->∀a w,wpList P ops Q l a w->
  wpOpsIn (Au r) n P ops Q (List.range' k l.length) a w:=by
 induction l with
 |nil=>grind[wpOpsIn,wpList]
 |cons o l q=>
  intro k h a w hw;have p:ops[k]?=some o:=by simpa using(h 0 (by simp)).symm
  have g:=q (k+1) (λj H=>by have:=h (j+1) (by simpa using H);grind);simp only[List.length_cons,List.range'_succ,wpOpsIn,p];simp only[wpList]at hw;split
  ·rename_i z;rw[if_pos z]at hw;grind[L8,xe,Oper.wp_mono]
  ·rename_i z;rw[if_neg z]at hw;exact⟨λ_ _=>trivial,g _ _ hw⟩
theorem O8{ops:Array Oper}{Q:Exit->Act->World->Prop}(z:¬LetsOut Q)(H:∀o∈ops,∀c,o.op≠.defer c){md:Region.Mode}:∀fuel listed a w,wpAny P md ops Q fuel listed a w->
  wpAnyIn (Au r) n P md ops Q fuel listed a w:=by
 intro fuel;induction fuel with
 |zero=>exact λ_ _ _ h=>h
 |succ fuel y=>
  rintro listed a w ⟨l,q⟩;refine⟨l,λi hi=>?_⟩;have:=q i hi;unfold wpOp at this;unfold wpOpIn;split;·simp_all
  ·rename_i o p;simp only[p]at this;split
   ·rename_i g;rw[if_pos g]at this;grind[L8,xe,Oper.wp_mono]
   ·rename_i g;rw[if_neg g]at this;exact⟨λ_ _=>trivial,y _ _ _ this⟩
end
end Go.Sx
