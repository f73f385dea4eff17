/- Part 19: no statement of the seat is proved here. -/
import Derived.Test.YtmeagdecjpknkaaGreatDoorPs18
import Derived.Test.YtmeagdecjpknkaaGreatDoorPs16
import Derived.Test.YtmeagdecjpknkaaGreatDoorPs14
import Derived.Test.YtmeagdecjpknkaaGreatDoorPs17
import Derived.Test.YtmeagdecjpknkaaGreatDoorPs04
set_option linter.unusedVariables false
set_option linter.unusedSimpArgs false
open List renaming length_map->x7,getElem?_map->y3,getD_eq_getElem?_getD->vY,range->zB,mem_filter->yz,mem_range->yY,mem_cons_of_mem->zb,mem_cons_self->zc,filter_cons->z7,mem_cons->yD,lookup_cons->zd,map_singleton->vw,mem_singleton->zO,getElem?_set_ne->vu,getLast_cons->vt,getElem?_set_self->vq,getElem?_eq_some_iff->yv
open Bool renaming and_eq_true->zC
open Go.Oper renaming uponIn->w9
open Go.CallsIn renaming mono->vZ
open Go.RoundIn renaming mono->vz
open Go.Region renaming binds->yR,ready->yZ
open Option renaming map_some->zJ,getD_some->xz
open Array renaming mem_toList_iff->vy,all_eq_true'->wJ,getD->z6,getD_eq_getD_getElem?->wY,getElem?_setIfInBounds_ne->wZ,replicate->wI
open Nat renaming le_refl->yV
open Go.Proofs.Tryz renaming f37->vx,prog->xE
open Go.IntKind renaming i64->yr
namespace Go.Proofs
open Go Go.Sx
mutual
def eEr:E->E|.mk o n s _ k=>.mk o n s qAx (qGp k)
def qGp:List E->List E|[]=>[]|x::xs=>eEr x::qGp xs
end
mutual
def sEr:S->S|.mk o s _ es _ ls _ xs=>.mk o s qAx (qGp es) qAx (qHn ls) qAx (qHn xs)
def qHn:List S->List S|[]=>[]|x::xs=>sEr x::qHn xs
end
def tEr(t:Ty):Ty:=⟨t.name,qAx,t.fields⟩
def pEr(p:Pr):Pr:=⟨p.name,qAx,p.params,p.result,qAx,p.locals,qAx,qHn p.body⟩
def dEr(d:Ds):Ds:=⟨d.name,qAx,d.types.map tEr,qAx,d.globals,qAx,d.procs.map pEr,qAx,[],qAx,[],qAx,[],qAx,[]⟩
theorem qDM:∀l:List E,qGp l=l.map eEr
 |[]=>by unfold qGp;rfl
 |x::xs=>by unfold qGp;rw[qDM xs];rfl
theorem qIB:∀l:List S,qHn l=l.map sEr
 |[]=>by unfold qHn;rfl
 |x::xs=>by unfold qHn;rw[qIB xs];rfl
theorem eErs_len(l:List E):(qGp l).length=l.length:=by rw[qDM,x7]
theorem sErs_len(l:List S):(qHn l).length=l.length:=by rw[qIB,x7]
mutual
theorem okE_er:∀(k:Int)(e:E),okE k (eEr e)=okE k e
 |k,.mk o n s _ l=>by unfold eEr okE;rw[eErs_len,okEs_er]
theorem okEs_er:∀(k:Int)(l:List E),okEs k (qGp l)=okEs k l
 |_,[]=>by unfold qGp;rfl
 |k,x::xs=>by unfold qGp okEs;rw[okE_er,okEs_er]
end
mutual
theorem szE_er:∀e:E,szE (eEr e)=szE e
 |.mk o n s _ l=>by unfold eEr szE;rw[szEs_er]
theorem szEs_er:∀l:List E,szEs (qGp l)=szEs l
 |[]=>by unfold qGp;rfl
 |x::xs=>by unfold qGp szEs;rw[szE_er,szEs_er]
end
theorem validE_er(e:E):qAQ (eEr e)=qAQ e:=by unfold qAQ;rw[okE_er,szE_er]
theorem fop_er:∀l:List E,fop (qGp l)=fop l
 |[]=>by unfold qGp;rfl
 |.mk o n s _ l::xs=>by rfl
theorem shapeR_er(op:Int)(s:KB)(es:List E)(nl k:Int):qBQ op s (qGp es) nl k=qBQ op s es nl k:=by
 unfold qBQ qGG;have:(qGp es).all qAQ=es.all qAQ:=by
  rw[qDM,List.all_map];simp_all[congrArg,funext,validE_er]
 rw[eErs_len,fop_er,this]
mutual
theorem okS_er:∀(k:Int)(e:S),okS k (sEr e)=okS k e
 |k,.mk o s _ es _ ls _ xs=>by unfold sEr okS;rw[sErs_len,sErs_len,shapeR_er,qLH,qLH]
theorem qLH:∀(k:Int)(l:List S),qHo k (qHn l)=qHo k l
 |_,[]=>by unfold qHn;rfl
 |k,x::xs=>by unfold qHn qHo;rw[okS_er,qLH]
end
mutual
theorem szS_er:∀e:S,szS (sEr e)=szS e
 |.mk o s _ es _ ls _ xs=>by unfold sEr szS;rw[qLn,qLn]
theorem qLn:∀l:List S,qGC (qHn l)=qGC l
 |[]=>by unfold qHn;rfl
 |x::xs=>by unfold qHn qGC;rw[szS_er,qLn]
end
theorem qHj{α β:Type}{f:α->β}{p:β->Bool}{q:α->Bool}(l:List α)(h:∀x,p (f x)=q x):(l.map f).all p=l.all q:=by
 grind
theorem qMj{α β:Type}{f:α->β}{p:β->Bool}{q:α->Bool}(l:List α)(h:∀x,p (f x)=q x):(l.map f).any p=l.any q:=by
 grind
theorem idx_map{α β:Type}{f:α->β}{p:β->Bool}{q:α->Bool}(l:List α)(h:∀x,p (f x)=q x):qHG p (l.map f)=qHG q l:=by
 unfold qHG;have e:p∘f=q:=funext h;simp_all
theorem find_map'{α β:Type}{f:α->β}{p:β->Bool}{q:α->Bool}(l:List α)(h:∀x,p (f x)=q x):(l.map f).find? p=(l.find? q).map f:=by
 rw[List.find?_map];have e:p∘f=q:=funext h;rw[e]
theorem qFq{α β k:Type}{f:α->β}{p:Nat->β->Option k}{q:Nat->α->Option k}:∀(l:List α)(i:Nat),(∀j x,p j (f x)=q j x)->qAk p i (l.map f)=qAk q i l
 |[],_,_=>rfl
 |x::l,i,h=>by
  unfold List.map qAk;rw[h,qFq l (i+1) h]
theorem tyB_er(t:Ty):tyB (tEr t)=tyB t:=rfl
theorem prB_er(p:Pr):prB (pEr p)=prB p:=by
 unfold prB qEX;show(qAX p.name&&qDC p.params 6&&qDC p.locals 12&&(decide (p.result=qAo [])||typB p.result)&&decide (qHo 1 (qHn p.body)=true/\qGC (qHn p.body)<=200))=_;rw[qLH,qLn]
section
variable(d:Ds)
theorem valid_er(h:qAG d=true):qAG (dEr d)=true:=by
 unfold qAG at h⊢;simp only[zC,decide_eq_true_eq]at h⊢;refine⟨⟨⟨⟨⟨⟨⟨h.1.1.1.1.1.1.1,?_⟩,h.1.1.1.1.1.2⟩,?_⟩,rfl⟩,?_⟩,?_⟩,rfl⟩
 ·have:=h.1.1.1.1.1.1.2;show((d.types.map tEr).length:Int)<=12;simp_all
 ·have:=h.1.1.1.1.2;show((d.procs.map pEr).length:Int)<=40;simp_all
 ·show(d.types.map tEr).all tyB=true;grind[qHj,tyB_er]
 ·show(d.procs.map pEr).all prB=true;rw[qHj _ prB_er];exact h.1.2
theorem valid_re(h:qAG (dEr d)=true)(h1:d.measures=[])(h2:d.invs=[])(h3:d.pots=[])(h4:d.bounds=[]):qAG d=true:=by
 unfold qAG at h⊢;simp only[zC,decide_eq_true_eq]at h⊢;refine⟨⟨⟨⟨⟨⟨⟨h.1.1.1.1.1.1.1,?_⟩,h.1.1.1.1.1.2⟩,?_⟩,?_⟩,?_⟩,?_⟩,?_⟩;·grind[dEr,tEr]
 ·grind[dEr,pEr]
 ·grind[lensB]
 ·have:=h.1.1.2;rw[show(dEr d).types=d.types.map tEr from rfl,qHj _ tyB_er]at this;exact this
 ·have:=h.1.2;rw[show(dEr d).procs=d.procs.map pEr from rfl,qHj _ prB_er]at this;exact this
 grind[qKs]
theorem qJB(s:KB):qBd (dEr d) s=qBd d s:=qMj (f:=tEr) _ λ_=>rfl
theorem qLN(s:KB):qBl (dEr d) s=qBl d s:=by unfold qBl;rw[qJB]
theorem fits_er(a b:KB):qDW (dEr d) a b=qDW d a b:=by unfold qDW;rw[qJB]
theorem tyOf_er(s:KB):qKj (dEr d) s=(qKj d s).map tEr:=find_map' (f:=tEr) _ λ_=>rfl
theorem prOf_er(s:KB):qFP (dEr d) s=(qFP d s).map pEr:=find_map' (f:=pEr) _ λ_=>rfl
theorem fieldT_er(t n:KB):qCi (dEr d) t n=qCi d t n:=by
 unfold qCi;rw[tyOf_er];cases qKj d t<;>rfl
theorem fitAll_er:∀(l:List KB)(fs:List Fld),qCB (dEr d) l fs=qCB d l fs
 |a::l,f::fs=>by unfold qCB;rw[fits_er,fitAll_er]
 |[],_=>by simp[qCB]
 |_::_,[]=>by simp[qCB]
theorem callT_er(n:KB)(l:List KB):qFS (dEr d) n l=qFS d n l:=by
 unfold qFS;rw[prOf_er];cases qFP d n with
 |none=>rfl
 |some p=>
  show(if l.length≠p.params.length then _ else if qCB (dEr d) l p.params=true then _ else _)=_;rw[fitAll_er];rfl
theorem nodeT_er{sc:Sc}(k:sc.body=true)(op:Int)(s:KB)(l:List KB):qGh (dEr d) sc op s l=qGh d sc op s l:=by
 unfold qGh qIt;rw[if_pos k,if_pos k];simp only[fieldT_er,qJB,callT_er,fits_er]
mutual
theorem exprT_er{sc:Sc}(g:sc.body=true):∀e:E,qAq (dEr d) sc (eEr e)=qAq d sc e
 |.mk o n s _ k=>by unfold eEr qAq;rw[qGM g,nodeT_er d g]
theorem qGM{sc:Sc}(k:sc.body=true):∀(acc:List KB)(l:List E),partsT (dEr d) sc acc (qGp l)=partsT d sc acc l
 |_,[]=>by rfl
 |acc,x::xs=>by unfold qGp partsT;rw[exprT_er k,qGM k]
end
theorem stmtT_er{sc:Sc}(g:sc.body=true)(r:KB)(op:Int)(s:KB)(es:List E):qEZ (dEr d) sc r op s (qGp es)=qEZ d sc r op s es:=by
 unfold qEZ;rw[qGM d g];simp only[fits_er,fieldT_er];congr 1
 match es with
 |[]=>unfold qGp;rfl
 |.mk o n s _ k::es=>
  grind[qGp,eEr,E.k,E.s,qGM,callT_er]
mutual
theorem stT_er{sc:Sc}(k:sc.body=true)(r:KB):∀(n:Int)(e:S),stT (dEr d) sc r n (sEr e)=stT d sc r n e
 |n,.mk o s _ es _ ls _ xs=>by
  unfold sEr stT;rw[stmtT_er d k,qLo k r (n+1) ls,qLo k r _ xs]
theorem qLo{sc:Sc}(k:sc.body=true)(r:KB):∀(n:Int)(l:List S),qBO (dEr d) sc r n (qHn l)=qBO d sc r n l
 |_,[]=>by rfl
 |n,x::xs=>by unfold qHn qBO;rw[stT_er k,qLo k]
end
theorem oneT_er(l:List Fld)(i:Nat)(f:Fld):qES (dEr d) l i f=qES d l i f:=by unfold qES;rw[qLN]
theorem declT_er(l:List Fld):qCD (dEr d) l=qCD d l:=by
 grind[qCD,oneT_er]
theorem types_er:qFT (dEr d)=qFT d:=by
 unfold qFT;congr 1
 ·unfold types1;refine qFq (f:=tEr) d.types 0 λj x=>?_;rw[show(dEr d).types=d.types.map tEr from rfl,<-List.map_take,qMj (f:=tEr) (q:=λg=>decide (g.name=x.name)) _ λ_=>rfl];rfl
 congr 1;·grind[types2,qFq,tEr,qCD,dEr,Int,declT_er]
 ·unfold types3;simp only[oneT_er];rfl
theorem heads_er:qEQ (dEr d)=qEQ d:=by
 unfold qEQ;refine qFq (f:=pEr) d.procs 0 λj x=>?_;rw[show(dEr d).procs=d.procs.map pEr from rfl,<-List.map_take,qMj (f:=pEr) (q:=λg=>decide (g.name=x.name)) _ λ_=>rfl,declT_er,qLN];rfl
theorem bodies_er:qCJ (dEr d)=qCJ d:=by
 unfold qCJ;refine qFq (f:=pEr) d.procs 0 λj x=>?_;show(if(qBO (dEr d) (qAg d x) x.result 0 (qHn x.body)).2≠0 then some (x.name,(qBO (dEr d) (qAg d x) x.result 0 (qHn x.body)).1,(qBO (dEr d) (qAg d x) x.result 0 (qHn x.body)).2)else none)=_;rw[qLo d rfl]
theorem qDJ{α:Type}{a b:Option α}:a.or b=none↔a=none/\b=none:=by cases a<;>simp
theorem chk_er(h:qIj d=none):qIj (dEr d)=none:=by
 unfold qIj at h⊢;rw[qDJ,qDJ,qDJ,qDJ]at h;rw[types_er,heads_er,bodies_er,h.1,h.2.1,h.2.2.2.1];rfl
theorem chk_re(h:qIj (dEr d)=none)(h1:d.measures=[])(h2:d.invs=[])(h3:d.pots=[])(h4:d.bounds=[]):qIj d=none:=by
 unfold qIj at h⊢;rw[qDJ,qDJ,qDJ,qDJ,types_er,heads_er,bodies_er]at h;rw[h.1,h.2.1,h.2.2.2.1];have k:qEV d=none:=by unfold qEV form1 form2 form3 form4;rw[h1,h2,h3,h4];rfl
 have g:qHH d=none:=by unfold qHH exp1 exp2 exp3 exp4;rw[h1,h2,h3,h4];rfl
 rw[k,g];rfl
theorem idxT_er(s:KB):qDL (dEr d) s=qDL d s:=idx_map (f:=tEr) _ λ_=>rfl
theorem qEl(t:Int):qAt (dEr d) t=qAt d t:=by
 unfold qAt;rw[show(dEr d).types=d.types.map tEr from rfl,y3,Option.map_map];rfl
theorem right_er(m:Mm)(t:KB)(v:Int):qAA (dEr d) m t v=qAA d m t v:=by unfold qAA;rw[idxT_er]
theorem values_er(m:Mm)(l:List Fld)(vs:List Int):qAi (dEr d) m l vs=qAi d m l vs:=by unfold qAi;simp only[right_er]
theorem typed_er(l:List Fld):qBK (dEr d) l=qBK d l:=by unfold qBK;simp only[qLN]
theorem has_er:(qBK (dEr d) (dEr d).globals&&allI (λi t=>decide (qDL (dEr d) t.name=(i:Int))&&qBK (dEr d) t.fields) (dEr d).types)=(qBK d d.globals&&allI (λi t=>decide (qDL d t.name=(i:Int))&&qBK d t.fields) d.types):=by
 simp only[idxT_er,typed_er];congr 1;unfold allI;rw[show(dEr d).types=d.types.map tEr from rfl,List.zipIdx_map];exact qHj _ λ_=>rfl
theorem mem_er{d':Ds}(k:dEr d=dEr d')(hv:qAG d'=true){m:Mm}(h:qAy d m=true):qAy d' m=true:=by
 have key:∀x:Ds,qAy x m=(qAG x&&(qBK (dEr x) (dEr x).globals&&allI (λi t=>decide (qDL (dEr x) t.name=(i:Int))&&qBK (dEr x) t.fields) (dEr x).types)&&(decide (m.nodes.length<=4096)&&m.nodes.all (λn=>decide (0<=n.ty/\n.ty<((dEr x).types.length:Int)))&&qAi (dEr x) m (dEr x).globals m.globals&&m.nodes.all λn=>qAi (dEr x) m (qAt (dEr x) n.ty) n.f)):=λx=>by
  rw[has_er];simp only[values_er,qEl];rw[show(dEr x).types=x.types.map tEr from rfl,x7];unfold qAy qJD;simp only[Bool.and_assoc];rfl
 simp_all
end
structure qKa (d d':Ds):Prop where
 er:dEr d=dEr d'
 h1:d'.measures=[]
 h2:d'.invs=[]
 h3:d'.pots=[]
 h4:d'.bounds=[]
theorem qAw.same{d d':Ds}{m:Mm}(G:qAw d m)(h:qKa d d'):qAw d' m:=by
 have hv:=valid_re d' (h.er▸valid_er d G.valid) h.h1 h.h2 h.h3 h.h4;exact⟨hv,chk_re d' (h.er▸chk_er d G.chk) h.h1 h.h2 h.h3 h.h4,mem_er d h.er hv G.mem⟩
section
variable(d:Ds)
theorem qLE(s:KB):qDa (dEr d) s=qDa d s:=idx_map (f:=pEr) _ λ_=>rfl
theorem cllE_er(m:Mm)(nm:KB)(l:List Int):qCr (dEr d) m nm l=qCr d m nm l:=by
 unfold qCr;rw[qLE,show(dEr d).procs=d.procs.map pEr from rfl,y3];cases d.procs[(qDa d nm).toNat]? with
 |none=>rfl
 |some p=>
  show(if qDa d nm<0 then _ else if l.length=p.params.length then(if qAi (dEr d) m p.params l=true then _ else _)else _)=_;rw[values_er]
theorem fldX_er(a:Int)(s:KB)(st:St):fldX (dEr d) a s st=fldX d a s st:=by unfold fldX;simp only[qEl]
theorem newX_er(s:KB)(st:St):newX (dEr d) s st=newX d s st:=by unfold newX;simp only[qEl,idxT_er]
theorem putX_er(a v:Int)(s:KB)(st:St):putX (dEr d) a v s st=putX d a v s st:=by unfold putX;simp only[qEl]
theorem intB_er{sc:Sc}(k:sc.body=true):∀l:List E,intB (dEr d) sc (qGp l)=intB d sc l
 |[]=>by unfold qGp;rfl
 |x::xs=>by
  unfold qGp;show decide ((qAq (dEr d) sc (eEr x)).1=qAT)=decide ((qAq d sc x).1=qAT);rw[exprT_er d k]
theorem combX_er(C:Cf)(p:Pr)(vals:List Int)(b:Bool)(op n:Int)(s:KB)(ks:List (St->Rx Int))(st:St):qDz (dEr d) C (pEr p) vals b op n s ks st=qDz d C p vals b op n s ks st:=by
 unfold qDz;simp only[fldX_er,newX_er,qLE];rfl
mutual
theorem evX_er(C:Cf)(p:Pr)(vals:List Int):∀e:E,evX (dEr d) C (pEr p) vals (eEr e)=evX d C p vals e
 |.mk o n s _ k=>by
  unfold eEr evX;funext st;rw[combX_er,evXs_er C p vals k];show qDz d C p vals (intB (dEr d) (qAg d p) (qGp k)) o n s _ st=_;rw[intB_er d rfl]
theorem evXs_er(C:Cf)(p:Pr)(vals:List Int):∀l:List E,evXs (dEr d) C (pEr p) vals (qGp l)=evXs d C p vals l
 |[]=>by rfl
 |x::xs=>by unfold qGp evXs;rw[evX_er C p vals x,evXs_er C p vals xs]
end
theorem evX_er'(C:Cf)(p:Pr)(vals:List Int)(e:E)(st:St):evX (dEr d) C (pEr p) vals (eEr e) st=evX d C p vals e st:=congrFun (evX_er d C p vals e) st
theorem getD_er(l:List E)(i:Nat):(qGp l).getD i noE=eEr (l.getD i noE):=by
 rw[qDM,vY,vY,y3];grind[noE,eEr,qGp]
section
variable{Sn Sn':Sf}(hS:∀c p l vals st,Sn' c (pEr p) (qHn l) vals st=Sn c p l vals st)
include hS
theorem callX_er(c:Nat):qCG (dEr d) Sn' c=qCG d Sn c:=by
 funext i l st;unfold qCG;rw[show(dEr d).procs=d.procs.map pEr from rfl,y3];cases d.procs[i.toNat]? with
 |none=>rfl
 |some p=>
  show(if 200<=c then _ else(Sn' (c+1) (pEr p) (qHn p.body) _ st).bind _)=_;rw[hS];rfl
theorem evS_er(c:Nat)(p:Pr)(vals:List Int)(e:E)(st:St):evS (dEr d) Sn' c (pEr p) vals (eEr e) st=evS d Sn c p vals e st:=by
 unfold evS;rw[callX_er d hS,evX_er']
theorem whX_er(F c:Nat)(p:Pr)(e:E)(b:List S):∀(n:Nat)(vals:List Int)(st:St),whX (dEr d) F Sn' c (pEr p) (eEr e) (qHn b) n vals st=whX d F Sn c p e b n vals st
 |0,_,_=>rfl
 |n+1,vals,st=>by
  unfold whX;simp only[evS_er d hS,hS,whX_er F c p e b n]
theorem bodyX_er(F c:Nat)(p:Pr)(n:Nat)(s:S)(vals:List Int)(st:St):qHM (dEr d) F Sn' c (pEr p) n (sEr s) vals st=qHM d F Sn c p n s vals st:=by
 match s with
 |.mk o s _ es _ ls _ xs=>
  unfold sEr qHM;simp only[S.op,S.s,S.es,S.ls,S.xs,getD_er,evS_er d hS,hS,whX_er d hS,putX_er];cases es<;>simp only[qGp,evS_er d hS]<;>rfl
end
theorem stX_er{Sn Sn':Sf}(hS:∀c p l vals st,Sn' c (pEr p) (qHn l) vals st=Sn c p l vals st)(F c:Nat)(p:Pr)(n:Nat)(s:S)(vals:List Int)(st:St):stX (dEr d) F Sn' c (pEr p) n (sEr s) vals st=stX d F Sn c p n s vals st:=by
 grind[stX,bodyX_er]
theorem listX_er{f k:S->List Int->St->Rx Rt}(h:∀s vals st,k (sEr s) vals st=f s vals st):∀(l:List S)(vals:List Int)(st:St),qFm k (qHn l) vals st=qFm f l vals st
 |[],_,_=>by rfl
 |s::l,vals,st=>by
  unfold qHn qFm;rw[h];simp only[listX_er h l]
theorem stsX_er(F:Nat):∀(n c:Nat)(p:Pr)(l:List S)(vals:List Int)(st:St),qCs (dEr d) F n c (pEr p) (qHn l) vals st=qCs d F n c p l vals st
 |0,_,_,_,_,_=>rfl
 |n+1,c,p,l,vals,st=>listX_er (λs vals st=>stX_er d (stsX_er F n) F c p (n+1) s vals st) l vals st
theorem playX_er(F:Nat)(i:Int)(l:List Int)(st:St):qCf (dEr d) F i l st=qCf d F i l st:=by
 simp_all[qCf,callX_er,stsX_er]
end
section
variable{d d':Ds}(h:qKa d d')
include h
theorem qKa.play(F:Nat)(i:Int)(l:List Int)(st:St):qCf d' F i l st=qCf d F i l st:=by rw[<-playX_er d,h.er,playX_er]
theorem qKa.cll(m:Mm)(nm:KB)(l:List Int):qCr d' m nm l=qCr d m nm l:=by rw[<-cllE_er d,h.er,cllE_er]
theorem qKa.idx(s:KB):qDa d' s=qDa d s:=by rw[<-qLE d,h.er,qLE]
theorem qKa.fields(t:Int):qAt d' t=qAt d t:=by rw[<-qEl d,h.er,qEl]
end
end Go.Proofs
namespace Go.Sx
open Go
section
variable{P:Program}{n:Nat}{ops:Array Oper}{Q:Exit->Act->World->Prop}
theorem qKy{F:Fence}{i:Nat}{o:Oper}{a:Act}{w:World}{K:Act->World->Prop}(u:ops[i]?=some o)(y:o.guard=none)(h:wpOpIn F n P ops Q i K a w):wpOpIn F n P ops Q i (λt w'=>(∃v,t.tmps=(a.put o.dst v).tmps)/\K t w') a w:=by
 unfold wpOpIn at*
 simp only[u]at*
 have hw:=qCk (ops:=ops) (a:=a) y;rw[if_pos hw]at h⊢;unfold Oper.wpIn at*
 refine⟨h.1,?_⟩;have h:=h.2;generalize(o.semAt F.round a.eval).run P w=r at*
 have k:∀(ds:List Deferred)(v:Value),(({a with defers:=ds}:Act).put o.dst v).tmps=(a.put o.dst v).tmps:=λds v=>by
  cases o.dst<;>rfl
 cases r with
 |ok x w'=>
  cases x<;>simp only[w9]at h⊢<;>
   first
    |exact⟨⟨_,rfl⟩,h⟩
    |exact⟨⟨_,k _ _⟩,h⟩
    |exact⟨h.1,vZ h.2 (λe f g=>by cases e<;>first|exact⟨⟨_,rfl⟩,g⟩|exact g)⟩
    |exact⟨h.1,RowsIn.mono h.2 (λ_ _ g=>⟨⟨_,rfl⟩,g⟩)⟩
    |exact⟨h.1,vz h.2 (λe f g=>by cases e<;>first|exact⟨⟨_,rfl⟩,g⟩|exact g)⟩
    |exact h
 |halt x w'=>cases x<;>simp only[w9]at h⊢<;>exact h
theorem qHQ{F:Fence}{i:Nat}{o:Oper}{a:Act}{w:World}{K u:Act->World->Prop}{g:Exit->Act->World->Prop}(j:ops[i]?=some o)(m:o.guard=none)(h:wpOpIn F n P ops g i K a w)(f:∀q a w,¬g (.panic q) a w)(y:¬LetsOut g)(hK:∀a w,K a w->u a w):
  wpOpIn F n P ops Q i u a w:=by
 unfold wpOpIn at*
 simp only[j]at*
 have hw:=qCk (ops:=ops) (a:=a) m;rw[if_pos hw]at h⊢;unfold Oper.wpIn at*
 refine⟨h.1,?_⟩;have h:=h.2;generalize(o.semAt F.round a.eval).run P w=r at*
 cases r with
 |ok x w'=>
  cases x<;>simp only[w9]at h⊢<;>
   first
    |exact hK _ _ h
    |exact⟨h.1,vZ h.2 (λe t k=>by cases e<;>first|exact hK _ _ k|exact(f _ _ _ k).elim|exact(y k).elim)⟩
    |exact⟨h.1,RowsIn.mono h.2 (λ_ _ k=>hK _ _ k)⟩
    |exact⟨h.1,vz h.2 (λe t k=>by cases e<;>first|exact hK _ _ k|exact(f _ _ _ k).elim|exact(y k).elim)⟩
    |exact h
 |halt x w'=>
  cases x<;>simp only[w9]at h⊢;all_goals first|exact(f _ _ _ h).elim|exact h
def aft(ops:Array Oper)(i:Nat):List Nat:=((ops[i]?).map λo=>(o.after.toList.filter (yR .any)).map (·.on)).getD []
def anyOk(ops:Array Oper)(M k0:Nat)(deps:Nat->List Nat):Bool:=
 decide (ops.size=M+1)&&decide ((ops[M]?).map (·.dst)=some none)&&(zB M).all (λi=>decide ((ops[i]?).map (·.dst)=some (some (k0+i))))&&(zB (M+1)).all (λi=>((ops[i]?).map λo=>o.guard.isNone).getD false&&(aft ops i).all (λj=>decide (j<i))&&(deps i).all λj=>decide (j∈aft ops i)) &&
  (zB M).all λj=>(zB (M+1)).any λi=>decide (j<i)&&decide (j∈aft ops i)
theorem qKJ{ops:Array Oper}{listed:Array Bool}{i:Nat}(h:i∈yZ .any ops listed):i<ops.size/\listed.getD i true=false/\∀j∈aft ops i,listed.getD j false=true:=by
 unfold yZ at h;rw[yz,yY,zC]at h;refine⟨h.1,by simpa using h.2.1,λj k=>?_⟩;unfold aft at k;have h2:=h.2.2;cases g:ops[i]? with
 |none=>rw[g]at k;simp at k
 |some o=>
  rw[g]at k h2;simp only[zJ,xz,List.mem_map,yz,vy,wJ]at k h2;obtain⟨e,⟨f,t⟩,rfl⟩:=k;have:=h2 e f;rw[t]at this;simpa using this
theorem ready_in{ops:Array Oper}{listed:Array Bool}{i:Nat}(hi:i<ops.size)(h1:listed.getD i true=false)(h2:∀j∈aft ops i,listed.getD j false=true):i∈yZ .any ops listed:=by
 unfold yZ;rw[yz,yY,zC];refine⟨hi,by simp[h1],?_⟩;have k:ops[i]?=some ops[i]:=Array.getElem?_eq_getElem hi;unfold aft at h2;rw[k]at h2⊢;simp only[zJ,xz,List.mem_map,yz,vy,wJ]at h2⊢;intro e g;cases f:yR .any e with
 |false=>rfl
 |true=>simpa using h2 e.on ⟨e,⟨g,f⟩,rfl⟩
theorem qGZ{l:Array Bool}{i:Nat}(hi:i<l.size)(a b:Bool):l.getD i a=l.getD i b:=by simp[z6,hi]
def unl(listed:Array Bool)(M:Nat):Nat:=((zB M).filter λi=>!listed.getD i true).length
theorem filt_le{α:Type}{p q:α->Bool}:∀{l:List α},(∀a∈l,q a=true->p a=true)->(l.filter q).length<=(l.filter p).length
 |[],_=>yV _
 |a::l,h=>by
  have k:=filt_le (l:=l) λx g=>h x (zb _ g);have f:=h a zc;rw[z7,z7];cases t:q a with
  |true=>rw[f t];simpa using k
  |false=>
   cases u:p a with
   |true=>simp;omega
   |false=>simpa using k
theorem filt_lt{α:Type}{p q:α->Bool}:∀{l:List α},(∀a∈l,q a=true->p a=true)->∀a∈l,p a=true->q a=false->(l.filter q).length<(l.filter p).length
 |[],_,a,k,_,_=>by cases k
 |b::l,h,a,k,f,t=>by
  have u:∀x∈l,q x=true->p x=true:=λx y=>h x (zb _ y);rw[z7,z7];rcases yD.1 k with rfl|hm
  ·rw[f,t];have:=filt_le u;simp;omega
  ·have w:=filt_lt u a hm f t;have j:=h b zc;cases g:q b with
   |true=>rw[j g];simpa using w
   |false=>
    cases i:p b with
    |true=>simp;omega
    |false=>simpa using w
theorem unl_set{listed:Array Bool}{M i:Nat}(hi:i<M)(hs:listed.size=M)(h:listed.getD i true=false):unl (listed.setIfInBounds i true) M<unl listed M:=by
 have h1:(listed.setIfInBounds i true).getD i true=true:=by simp[z6,hs,hi]
 refine filt_lt (λj _ k=>?_) i (yY.2 hi) (by rw[h];rfl) (by rw[h1];rfl);by_cases g:j=i;·subst g;rw[h1]at k;cases k
 ·have:(listed.setIfInBounds i true).getD j true=listed.getD j true:=by
   simp[wY,wZ (Ne.symm g)]
  rw[this]at k;exact k
theorem unl_zero{listed:Array Bool}{M:Nat}(hs:listed.size=M)(h:unl listed M=0):∀i,i<M->listed.getD i false=true:=λi k=>by
 unfold unl at h;have:=List.eq_nil_of_length_eq_zero h;rw[List.filter_eq_nil_iff]at this;have:=this i (yY.2 k);rw[qGZ (by omega) false true];simpa using this
section
variable{M k0 N:Nat}{deps:Nat->List Nat}{Pr:Nat->Value->Mem->Prop}{Φ:Mem->Prop}{V:Mem}{base:List (Nat×Value)}{a0:Act}{w0:World}
theorem anyR_sound(chk:anyOk ops M k0 deps=true)(mono:∀i v V1 V2,V1.sub V2->Pr i v V1->Pr i v V2)(K:∀s v,base.lookup s=some v->s<k0)
  (hN:k0+M<=N)
  (S:∀i,i<M->∀V1,V.sub V1->∀val:Nat->Value,(∀j∈deps i,Pr j (val j) V1)->∃t,(∀s v,t.lookup s=some v->base.lookup s=some v∨∃j∈deps i,s=k0+j/\v=val j)/\qDB P N ops i 1 t [k0+i] V1 λvs V2=>∃v,vs=[v]/\V1.sub V2/\Pr i v V2)
  (T:∀V1,V.sub V1->∀val:Nat->Value,(∀j∈deps M,Pr j (val j) V1)->∃t,(∀s v,t.lookup s=some v->base.lookup s=some v∨∃j∈deps M,s=k0+j/\v=val j)/\qDB P N ops M 1 t [] V1 λ_ V2=>Φ V2)
  (hQ:∀O w' V',O.defers=a0.defers->Has N O base->Φ V'->Frm V w0 V' w'->Q .normal O w'):
  ∀(fuel:Nat)(listed:Array Bool)(a:Act)(w:World),listed.size=M+1->unl listed (M+1)<=fuel->
   ((∃V1,V.sub V1/\Frm V w0 V1 w/\a.defers=a0.defers/\Has N a base/\listed.getD M false=false/\(∀i,i<M->listed.getD i false=true->Pr i (a.tmps.getD (k0+i) undef) V1)/\∀i,i<M->listed.getD i false=true->∀j∈aft ops i,listed.getD j false=true)∨((∀i,i<M+1->listed.getD i false=true)/\Q .normal a w))->
   wpAnyIn (qAK none) n P .any ops Q fuel listed a w:=by
 unfold anyOk at chk;simp only[zC,decide_eq_true_eq,List.all_eq_true,yY,List.any_eq_true]at chk;obtain⟨⟨⟨⟨c1,c0⟩,c2⟩,c3⟩,c4⟩:=chk;have op:∀i,i<M+1->∃o,ops[i]?=some o/\o.guard=none:=λi hi=>by
  have:=(c3 i hi).1.1;cases I:ops[i]? with
  |none=>rw[I]at this;cases this
  |some o=>
   rw[I]at this;refine⟨o,rfl,?_⟩;cases hg:o.guard with
   |none=>rfl
   |some g=>simp[hg]at this
 have m:∀listed:Array Bool,listed.size=M+1->yZ .any ops listed=[]->∀i,i<M+1->listed.getD i false=true:=λlisted hs hr i=>by
  induction i using Nat.strongRecOn with
  |ind i ih=>
   intro hi;cases h:listed.getD i false with
   |true=>rfl
   |false=>
    have:i∈yZ .any ops listed:=ready_in (by omega) (by rw[qGZ (by omega) true false];exact h) λj H=>by
     have y:=(c3 i hi).1.2 j H;exact ih j y (by omega)
    rw[hr]at this;cases this
 intro fuel;induction fuel with
 |zero=>
  intro listed a w hs hu hI;have x:=unl_zero hs (by omega);rw[wpAnyIn];rcases hI with⟨V1,-,-,-,-,U,-⟩|⟨-,hq⟩;·rw[x M (by omega)]at U;cases U
  ·refine⟨?_,hq⟩;cases hr:yZ .any ops listed with
   |nil=>rfl
   |cons i l=>
    obtain⟨h1,h2,-⟩:=qKJ (hr▸zc:i∈yZ .any ops listed);rw[qGZ (by omega) true false,x i (by omega)]at h2;cases h2
 |succ fuel ih=>
  intro listed a w hs hu hI;rw[wpAnyIn];refine⟨λhr=>?_,λi hi=>?_⟩
  ·rcases hI with⟨V1,-,-,-,-,U,-⟩|⟨-,hq⟩;·rw[m listed hs hr M (by omega)]at U;cases U
   ·exact hq
  ·obtain⟨h1,h2,h3⟩:=qKJ hi;have r:i<M+1:=by omega
   rcases hI with⟨V1,J,hF,hdf,hH,U,hP,hC⟩|⟨x,-⟩;rotate_left;·rw[qGZ (by omega) true false,x i r]at h2;cases h2
   obtain⟨o,I,hg⟩:=op i r;have hs':(listed.setIfInBounds i true).size=M+1:=by simp[hs]
   have hu':unl (listed.setIfInBounds i true) (M+1)<=fuel:=by have:=unl_set r hs h2;omega
   have q:(listed.setIfInBounds i true).getD i false=true:=by simp[z6,hs,r]
   have f:∀j,j≠i->(listed.setIfInBounds i true).getD j false=listed.getD j false:=λj H=>by
    simp[wY,wZ (Ne.symm H)]
   have hdeps:∀j∈deps i,j<i/\listed.getD j false=true:=λj H=>⟨(c3 i r).1.2 j ((c3 i r).2 j H),h3 j ((c3 i r).2 j H)⟩;have X:∀j∈deps i,Pr j (a.tmps.getD (k0+j) undef) V1:=λj H=>by
    have:=hdeps j H;exact hP j (by omega) this.2
   have hin:∀(t:List (Nat×Value)),(∀s v,t.lookup s=some v->base.lookup s=some v∨∃j∈deps i,s=k0+j/\v=a.tmps.getD (k0+j) undef)->∀s v,t.lookup s=some v->a.tmps.getD s undef=v:=λt h s v hl=>by
    rcases h s v hl with h|⟨j,-,rfl,rfl⟩;·exact hH.2 s v h
    ·rfl
   by_cases F:i<M
   ·obtain⟨t,G,Z⟩:=S i F V1 J (λj=>a.tmps.getD (k0+j) undef) X;have hw:=Z none n a w hF.le hH.1 (hin t G);rw[show List.range' i 1=[i]from rfl,wpOpsIn_cons]at hw;have Y:o.dst=some (k0+i):=by have:=c2 i F;rw[I]at this;simpa using this
    have hfin:wpOpIn (qAK none) n P ops Q i (wpAnyIn (qAK none) n P .any ops Q fuel (listed.setIfInBounds i true)) a w:=by
     refine qHQ I hg (qKy I hg hw) (λ_ _ _ h=>by cases h.1) (λh=>by obtain⟨_,_,h,_⟩:=h;cases h) ?_;rintro O w' ⟨⟨v,hv⟩,-,hd',hs2,vs,V2,hlook,⟨u,rfl,W,hPu⟩,hF2⟩;rw[Y]at hv;have C:∀s,s≠k0+i->O.tmps.getD s undef=a.tmps.getD s undef:=λs hne=>by
      rw[hv];simp[Act.put,wY,wZ (Ne.symm hne)]
     refine ih _ O w' hs' hu' (.inl ⟨V2,J.trans W,hF.trans hF2,hd'.trans hdf,⟨hs2,λs v L=>?_⟩,?_,λj H hl=>?_,λj H hl k hk=>?_⟩);·rw[C s (by have:=K s v L;omega)];exact hH.2 s v L
     ·rw[f M (by omega)];exact U
     ·by_cases y:j=i
      ·subst y;have:=hlook (k0+j) u (by simp);rw[this];exact hPu
      ·rw[C (k0+j) (by omega)];rw[f j y]at hl;exact mono _ _ _ _ W (hP j H hl)
     ·by_cases y:j=i
      ·subst y;by_cases hkj:k=j;·rw[hkj];exact q
       ·rw[f k hkj];exact h3 k hk
      ·rw[f j y]at hl;by_cases hki:k=i;·rw[hki];exact q
       ·rw[f k hki];exact hC j H hl k hk
    exact hfin
   ·have F:i=M:=by omega
    subst F;have x:∀k,k<=i->∀j,i-k<=j->j<i->listed.getD j false=true:=λk=>by
     induction k with
     |zero=>intro _ j h4 h5;omega
     |succ k ihk=>
      intro hk j h4 h5;obtain⟨b,hb1,hb2,hb3⟩:=c4 j h5;by_cases hbi:b=i;·subst hbi;exact h3 j hb3
      ·exact hC b (by omega) (ihk (by omega) b (by omega) (by omega)) j hb3
    obtain⟨t,G,Z⟩:=T V1 J (λj=>a.tmps.getD (k0+j) undef) X;have hw:=Z none n a w hF.le hH.1 (hin t G);rw[show List.range' i 1=[i]from rfl,wpOpsIn_cons]at hw;have Y:o.dst=none:=by rw[I]at c0;simpa using c0
    refine qHQ I hg (qKy I hg hw) (λ_ _ _ h=>by cases h.1) (λh=>by obtain⟨_,_,h,_⟩:=h;cases h) ?_;rintro O w' ⟨⟨u,D⟩,-,hd',hs2,vs,V2,-,hΦ,hF2⟩;rw[Y]at D;have hu3:O.tmps=a.tmps:=D;refine ih _ O w' hs' hu' (.inr ⟨λj H=>?_,hQ O w' V2 (hd'.trans hdf) ⟨by rw[hu3];exact hH.1,λs v L=>by rw[hu3];exact hH.2 s v L⟩ hΦ (hF.trans hF2)⟩);by_cases y:j=i;·rw[y];exact q
    ·rw[f j y];exact x i (yV _) j (by omega) (by omega)
end
end
end Go.Sx
namespace Go.Proofs
open Go Go.Sx
set_option maxRecDepth 100000
section
variable{V:Mem}{R:RP}
noncomputable def c37a:List Code:=((qCK (qAs vx) []).drop 0).take 3
def w37a:MR:=λV R=>TT 75 #[uS (qAo [120])] V λe V1=>∃a b c d,e=rV (uA #[uI a,uI b,uS c,uL d])/\qAr [uS (qAo []),z0,z0,z0,z0,z0,z0,z0] 30 V1 λg V2=>qAr [uI a,uI b,uS c,uL d] 151 V2 λi k=>qAr [uI 5,uI 0,uS (qAo [110,101,120,116]),.slice (qAa i 0) 1 1] 151 k λj f=>R (rT #[uP (qAa g 0),.func (.func 75) #[] #[],uP (qAa j 0)]) f
theorem s37a{V:Mem}{R:KZ}(h:w37a V (OV R)):Seg xE 34 c37a [] [0,1,2] V R:=
 qBx (H:=hK 34) [] [] rfl (by kernel_rfl) h
noncomputable def qCj:Array Oper:=qFf ((qCK (qAs vx) []).getD 3 .skip)
def w37o0:MR:=λV R=>R (rT #[uA #[uS (qAo [110,101,120,116]),uS (qAo [76])]]) V
theorem s37o0{V:Mem}{R:KZ}(h:w37o0 V (OV R)):qDB xE 34 qCj 0 1 [] [7] V R:=
 qAI (H:=hK 34) [] [] rfl (by kernel_rfl) h
def w37o1(a b:KB):MR:=λV R=>qAr [uS a,uS b] 101 V λc V1=>R (rT #[.slice (qAa c 0) 1 1]) V1
theorem s37o1{a b:KB}{V:Mem}{R:KZ}(h:w37o1 a b V (OV R)):qDB xE 34 qCj 1 1 [(7,uA #[uS a,uS b])] [8] V R:=
 qAI (H:=hK 34) [(7,(.agg (.cons (.var .s 0) (.cons (.var .s 1) .nil))))] [uS a,uS b] rfl (by kernel_rfl) h
def w37o2(a:Sl):MR:=λV R=>R (rT #[uA #[uS (qAo [76]),uL a]]) V
theorem s37o2{a:Sl}{V:Mem}{R:KZ}(h:w37o2 a V (OV R)):qDB xE 34 qCj 2 1 [(8,uL a)] [9] V R:=
 qAI (H:=hK 34) [(8,(.var .sl 0))] [uL a] rfl (by kernel_rfl) h
def w37o3(a:KB)(b:Sl):MR:=λV R=>qAr [uS a,uL b] 98 V λc V1=>R (rT #[.slice (qAa c 0) 1 1]) V1
theorem s37o3{a:KB}{b:Sl}{V:Mem}{R:KZ}(h:w37o3 a b V (OV R)):qDB xE 34 qCj 3 1 [(9,uA #[uS a,uL b])] [10] V R:=
 qAI (H:=hK 34) [(9,(.agg (.cons (.var .s 0) (.cons (.var .sl 1) .nil))))] [uS a,uL b] rfl (by kernel_rfl) h
def w37o4:MR:=λV R=>R (rT #[uA #[uS (qAo [104,101,97,100]),uS (qAo [76])]]) V
theorem s37o4{V:Mem}{R:KZ}(h:w37o4 V (OV R)):qDB xE 34 qCj 4 1 [] [11] V R:=
 qAI (H:=hK 34) [] [] rfl (by kernel_rfl) h
def w37o5(a b:KB):MR:=λV R=>qAr [uS a,uS b] 101 V λc V1=>R (rT #[.slice (qAa c 0) 1 1]) V1
theorem s37o5{a b:KB}{V:Mem}{R:KZ}(h:w37o5 a b V (OV R)):qDB xE 34 qCj 5 1 [(11,uA #[uS a,uS b])] [12] V R:=
 qAI (H:=hK 34) [(11,(.agg (.cons (.var .s 0) (.cons (.var .s 1) .nil))))] [uS a,uS b] rfl (by kernel_rfl) h
def w37o6:MR:=λV R=>R (rT #[uA #[uS (qAo [120]),uS (qAo [76])]]) V
theorem s37o6{V:Mem}{R:KZ}(h:w37o6 V (OV R)):qDB xE 34 qCj 6 1 [] [13] V R:=
 qAI (H:=hK 34) [] [] rfl (by kernel_rfl) h
def w37o7(a b:KB):MR:=λV R=>qAr [uS a,uS b] 101 V λc V1=>R (rT #[.slice (qAa c 0) 1 1]) V1
theorem s37o7{a b:KB}{V:Mem}{R:KZ}(h:w37o7 a b V (OV R)):qDB xE 34 qCj 7 1 [(13,uA #[uS a,uS b])] [14] V R:=
 qAI (H:=hK 34) [(13,(.agg (.cons (.var .s 0) (.cons (.var .s 1) .nil))))] [uS a,uS b] rfl (by kernel_rfl) h
def w37o8(a:Value):MR:=λV R=>R (rT #[K.cast .f a]) V
theorem s37o8{a:Value}{V:Mem}{R:KZ}(h:w37o8 a V (OV R)):qDB xE 34 qCj 8 1 [(1,K.cast .f a)] [15] V R:=
 qAI (H:=hK 34) [(1,(.var .f 0))] [a] rfl (by kernel_rfl) h
def w37o9(a:Value):MR:=λV R=>∃f first k,K.cast .f a=.func (.func f) first k/\CO f/\TT f (first++#[uS (qAo [104,101,97,100])]++k) V λe V1=>∃b c d g,e=rV (uA #[uI b,uI c,uS d,uL g])/\R (rT #[uA #[uI b,uI c,uS d,uL g]]) V1
theorem s37o9{a:Value}{V:Mem}{R:KZ}(h:w37o9 a V (OV R)):qDB xE 34 qCj 9 1 [(15,K.cast .f a)] [16] V R:=
 qAI (H:=hK 34) [(15,(.var .f 0))] [a] rfl (by kernel_rfl) h
def w37o10(a b:Int)(c:KB)(d:Sl):MR:=λV R=>qAr [uI a,uI b,uS c,uL d] 151 V λg V1=>R (rT #[.slice (qAa g 0) 1 1]) V1
theorem s37o10{a b:Int}{c:KB}{d:Sl}{V:Mem}{R:KZ}(h:w37o10 a b c d V (OV R)):qDB xE 34 qCj 10 1 [(16,uA #[uI a,uI b,uS c,uL d])] [17] V R:=
 qAI (H:=hK 34) [(16,(.agg (.cons (.var (.i .i64) 0) (.cons (.var (.i .i64) 1) (.cons (.var .s 2) (.cons (.var .sl 3) .nil))))))] [uI a,uI b,uS c,uL d] rfl (by kernel_rfl) h
def w37o11(a:Sl):MR:=λV R=>R (rT #[uA #[uI 1,uS (qAo [120]),uL a,z0,z0]]) V
theorem s37o11{a:Sl}{V:Mem}{R:KZ}(h:w37o11 a V (OV R)):qDB xE 34 qCj 11 1 [(17,uL a)] [18] V R:=
 qAI (H:=hK 34) [(17,(.var .sl 0))] [uL a] rfl (by kernel_rfl) h
def w37o12(a:Value):MR:=λV R=>R (rT #[K.cast .f a]) V
theorem s37o12{a:Value}{V:Mem}{R:KZ}(h:w37o12 a V (OV R)):qDB xE 34 qCj 12 1 [(1,K.cast .f a)] [19] V R:=
 qAI (H:=hK 34) [(1,(.var .f 0))] [a] rfl (by kernel_rfl) h
def w37o13(a:Value):MR:=λV R=>∃f first k,K.cast .f a=.func (.func f) first k/\CO f/\TT f (first++#[uS (qAo [120])]++k) V λe V1=>∃b c d g,e=rV (uA #[uI b,uI c,uS d,uL g])/\R (rT #[uA #[uI b,uI c,uS d,uL g]]) V1
theorem s37o13{a:Value}{V:Mem}{R:KZ}(h:w37o13 a V (OV R)):qDB xE 34 qCj 13 1 [(19,K.cast .f a)] [20] V R:=
 qAI (H:=hK 34) [(19,(.var .f 0))] [a] rfl (by kernel_rfl) h
def w37o14:MR:=λV R=>R (rT #[uA #[uI 3,uI 0,uS (qAo []),z0]]) V
theorem s37o14{V:Mem}{R:KZ}(h:w37o14 V (OV R)):qDB xE 34 qCj 14 1 [] [21] V R:=
 qAI (H:=hK 34) [] [] rfl (by kernel_rfl) h
def w37o15(a b:Int)(c:KB)(d:Sl)(g i:Int)(j:KB)(k:Sl):MR:=λV R=>qAr [uI a,uI b,uS c,uL d,uI g,uI i,uS j,uL k] 151 V λl V1=>R (rT #[.slice (qAa l 0) 2 2]) V1
theorem s37o15{a b:Int}{c:KB}{d:Sl}{g i:Int}{j:KB}{k:Sl}{V:Mem}{R:KZ}(h:w37o15 a b c d g i j k V (OV R)):qDB xE 34 qCj 15 1 [(20,uA #[uI a,uI b,uS c,uL d]),(21,uA #[uI g,uI i,uS j,uL k])] [22] V R:=
 qAI (H:=hK 34) [(20,(.agg (.cons (.var (.i .i64) 0) (.cons (.var (.i .i64) 1) (.cons (.var .s 2) (.cons (.var .sl 3) .nil)))))),(21,(.agg (.cons (.var (.i .i64) 4) (.cons (.var (.i .i64) 5) (.cons (.var .s 6) (.cons (.var .sl 7) .nil))))))] [uI a,uI b,uS c,uL d,uI g,uI i,uS j,uL k] rfl (by kernel_rfl) h
def w37o16(a:Sl):MR:=λV R=>R (rT #[uA #[uI 15,uI 0,uS (qAo []),uL a]]) V
theorem s37o16{a:Sl}{V:Mem}{R:KZ}(h:w37o16 a V (OV R)):qDB xE 34 qCj 16 1 [(22,uL a)] [23] V R:=
 qAI (H:=hK 34) [(22,(.var .sl 0))] [uL a] rfl (by kernel_rfl) h
def w37o17(a b:Int)(c:KB)(d:Sl):MR:=λV R=>qAr [uI a,uI b,uS c,uL d] 151 V λg V1=>R (rT #[.slice (qAa g 0) 1 1]) V1
theorem s37o17{a b:Int}{c:KB}{d:Sl}{V:Mem}{R:KZ}(h:w37o17 a b c d V (OV R)):qDB xE 34 qCj 17 1 [(23,uA #[uI a,uI b,uS c,uL d])] [24] V R:=
 qAI (H:=hK 34) [(23,(.agg (.cons (.var (.i .i64) 0) (.cons (.var (.i .i64) 1) (.cons (.var .s 2) (.cons (.var .sl 3) .nil))))))] [uI a,uI b,uS c,uL d] rfl (by kernel_rfl) h
def w37o18(a:Option Addr):MR:=λV R=>∃b c d g,V.rowp a ((0:Int).toNat*1) 4=some [uI b,uI c,uS d,uL g]/\R (rT #[uA #[uI b,uI c,uS d,uL g]]) V
theorem s37o18{a:Option Addr}{V:Mem}{R:KZ}(h:w37o18 a V (OV R)):qDB xE 34 qCj 18 1 [(2,uP a)] [25] V R:=
 qAI (H:=hK 34) [(2,(.var .p 0))] [uP a] rfl (by kernel_rfl) h
def w37o19(a b:Int)(c:KB)(d:Sl):MR:=λV R=>qAr [uI a,uI b,uS c,uL d] 151 V λg V1=>R (rT #[.slice (qAa g 0) 1 1]) V1
theorem s37o19{a b:Int}{c:KB}{d:Sl}{V:Mem}{R:KZ}(h:w37o19 a b c d V (OV R)):qDB xE 34 qCj 19 1 [(25,uA #[uI a,uI b,uS c,uL d])] [26] V R:=
 qAI (H:=hK 34) [(25,(.agg (.cons (.var (.i .i64) 0) (.cons (.var (.i .i64) 1) (.cons (.var .s 2) (.cons (.var .sl 3) .nil))))))] [uI a,uI b,uS c,uL d] rfl (by kernel_rfl) h
def w37o20(a:Sl):MR:=λV R=>R (rT #[uA #[uI 1,uS (qAo [120]),uL a,z0,z0]]) V
theorem s37o20{a:Sl}{V:Mem}{R:KZ}(h:w37o20 a V (OV R)):qDB xE 34 qCj 20 1 [(26,uL a)] [27] V R:=
 qAI (H:=hK 34) [(26,(.var .sl 0))] [uL a] rfl (by kernel_rfl) h
def w37o21(a:Int)(b:KB)(c d g:Sl):MR:=λV R=>qAr [uI a,uS b,uL c,uL d,uL g] 154 V λi V1=>R (rT #[.slice (qAa i 0) 1 1]) V1
theorem s37o21{a:Int}{b:KB}{c d g:Sl}{V:Mem}{R:KZ}(h:w37o21 a b c d g V (OV R)):qDB xE 34 qCj 21 1 [(27,uA #[uI a,uS b,uL c,uL d,uL g])] [28] V R:=
 qAI (H:=hK 34) [(27,(.agg (.cons (.var (.i .i64) 0) (.cons (.var .s 1) (.cons (.var .sl 2) (.cons (.var .sl 3) (.cons (.var .sl 4) .nil)))))))] [uI a,uS b,uL c,uL d,uL g] rfl (by kernel_rfl) h
def w37o22(a b:Sl):MR:=λV R=>R (rT #[uA #[uI 4,uS (qAo []),uL a,uL b,z0]]) V
theorem s37o22{a b:Sl}{V:Mem}{R:KZ}(h:w37o22 a b V (OV R)):qDB xE 34 qCj 22 1 [(24,uL a),(28,uL b)] [29] V R:=
 qAI (H:=hK 34) [(24,(.var .sl 0)),(28,(.var .sl 1))] [uL a,uL b] rfl (by kernel_rfl) h
def w37o23(a:Int)(b:KB)(c d g:Sl)(i:Int)(j:KB)(k l o:Sl):MR:=λV R=>qAr [uI a,uS b,uL c,uL d,uL g,uI i,uS j,uL k,uL l,uL o] 154 V λp V1=>R (rT #[.slice (qAa p 0) 2 2]) V1
theorem s37o23{a:Int}{b:KB}{c d g:Sl}{i:Int}{j:KB}{k l o:Sl}{V:Mem}{R:KZ}(h:w37o23 a b c d g i j k l o V (OV R)):qDB xE 34 qCj 23 1 [(18,uA #[uI a,uS b,uL c,uL d,uL g]),(29,uA #[uI i,uS j,uL k,uL l,uL o])] [30] V R:=
 qAI (H:=hK 34) [(18,(.agg (.cons (.var (.i .i64) 0) (.cons (.var .s 1) (.cons (.var .sl 2) (.cons (.var .sl 3) (.cons (.var .sl 4) .nil))))))),(29,(.agg (.cons (.var (.i .i64) 5) (.cons (.var .s 6) (.cons (.var .sl 7) (.cons (.var .sl 8) (.cons (.var .sl 9) .nil)))))))] [uI a,uS b,uL c,uL d,uL g,uI i,uS j,uL k,uL l,uL o] rfl (by kernel_rfl) h
def w37o24(a b:Sl):MR:=λV R=>R (rT #[uA #[uS (qAo [119,97,108,107]),z0,uS (qAo []),uL a,uL b]]) V
theorem s37o24{a b:Sl}{V:Mem}{R:KZ}(h:w37o24 a b V (OV R)):qDB xE 34 qCj 24 1 [(14,uL a),(30,uL b)] [31] V R:=
 qAI (H:=hK 34) [(14,(.var .sl 0)),(30,(.var .sl 1))] [uL a,uL b] rfl (by kernel_rfl) h
def w37o25(a:KB)(b:Sl)(c:KB)(d g:Sl):MR:=λV R=>qAr [uS a,uL b,uS c,uL d,uL g] 143 V λi V1=>R (rT #[.slice (qAa i 0) 1 1]) V1
theorem s37o25{a:KB}{b:Sl}{c:KB}{d g:Sl}{V:Mem}{R:KZ}(h:w37o25 a b c d g V (OV R)):qDB xE 34 qCj 25 1 [(31,uA #[uS a,uL b,uS c,uL d,uL g])] [32] V R:=
 qAI (H:=hK 34) [(31,(.agg (.cons (.var .s 0) (.cons (.var .sl 1) (.cons (.var .s 2) (.cons (.var .sl 3) (.cons (.var .sl 4) .nil)))))))] [uS a,uL b,uS c,uL d,uL g] rfl (by kernel_rfl) h
def w37o26(a b c:Sl):MR:=λV R=>R (rT #[uA #[uS (qAo [99,104,97,105,110]),uL a,uL b,uL c,z0,z0,z0,z0]]) V
theorem s37o26{a b c:Sl}{V:Mem}{R:KZ}(h:w37o26 a b c V (OV R)):qDB xE 34 qCj 26 1 [(10,uL a),(12,uL b),(32,uL c)] [33] V R:=
 qAI (H:=hK 34) [(10,(.var .sl 0)),(12,(.var .sl 1)),(32,(.var .sl 2))] [uL a,uL b,uL c] rfl (by kernel_rfl) h
def w37o27(a:Option Addr)(b:KB)(c d g i j k l:Sl):MR:=λV R=>StT a 0 [uS b,uL c,uL d,uL g,uL i,uL j,uL k,uL l] V λV1=>R (rT #[]) V1
theorem s37o27{a:Option Addr}{b:KB}{c d g i j k l:Sl}{V:Mem}{R:KZ}(h:w37o27 a b c d g i j k l V (OV R)):qDB xE 34 qCj 27 1 [(0,uP a),(33,uD b c d g i j k l)] [] V R:=
 qAI (H:=hK 34) [(0,(.var .p 0)),(33,(.agg (.cons (.var .s 1) (.cons (.var .sl 2) (.cons (.var .sl 3) (.cons (.var .sl 4) (.cons (.var .sl 5) (.cons (.var .sl 6) (.cons (.var .sl 7) (.cons (.var .sl 8) .nil))))))))))] [uP a,uS b,uL c,uL d,uL g,uL i,uL j,uL k,uL l] rfl (by kernel_rfl) h
end
end Go.Proofs
namespace Go.Proofs
open Go Go.Sx
attribute [local irreducible] Go.Sx.Tri
def chL:KB:=qAo [76]
def qEo:KB:=qAo [110,101,120,116]
def qCT:KB:=qAo [104,101,97,100]
def chX:KB:=qAo [120]
def qIk:KB:=qAo [119,97,108,107]
def chChain:KB:=qAo [99,104,97,105,110]
def nmX(s:KB):E:=.mk 4 0 s qAx []
def nxX:E:=.mk 5 0 qEo qAx [nmX chX]
def nlX:E:=.mk 3 0 sE qAx []
def neX:E:=.mk 15 0 sE qAx [nmX chX,nlX]
def st1:S:=.mk 1 chX qAx [nmX qCT] qAx [] qAx []
def st2:S:=.mk 1 chX qAx [nxX] qAx [] qAx []
def st3:S:=.mk 4 sE qAx [neX] qAx [st2] qAx []
def chPr:Pr:=⟨qIk,qAx,[],sE,qAx,[⟨chX,chL⟩],qAx,[st1,st3]⟩
def chTy:Ty:=⟨chL,qAx,[⟨qEo,chL⟩]⟩
def qCE:Ds:=⟨chChain,qAx,[chTy],qAx,[⟨qCT,chL⟩],qAx,[chPr],qAx,[],qAx,[],qAx,[],qAx,[]⟩
def chF:Value:=.func (.func 75) #[] #[]
def cE(x:E)(v:Value)(A:Mem):Prop:=∃e,v=e.v/\eEr e=x/\E.Ok A e
def cL(xs:List E)(v:Value)(A:Mem):Prop:=∃(s:Sl)(es:List E),v=s.v/\es.map eEr=xs/\qAc A s 4 (es.map E.row)/\∀e∈es,E.Ok A e
def cS(x:S)(v:Value)(A:Mem):Prop:=∃e:S,v=e.v/\sEr e=x/\S.Ok A e
def cB(xs:List S)(v:Value)(A:Mem):Prop:=∃(s:Sl)(es:List S),v=s.v/\es.map sEr=xs/\qAc A s 5 (es.map S.row)/\∀e∈es,S.Ok A e
def cF(f:Fld)(v:Value)(A:Mem):Prop:=∃s:Sl,v=s.v/\qAc A s 2 ([f].map Fld.row)
def cT(v:Value)(A:Mem):Prop:=∃t:Ty,v=.agg t.row.toArray/\tEr t=chTy/\Ty.Ok A t
def cTs(v:Value)(A:Mem):Prop:=∃(s:Sl)(t:Ty),v=s.v/\tEr t=chTy/\qAc A s 2 ([t].map Ty.row)/\Ty.Ok A t
def cP(v:Value)(A:Mem):Prop:=∃p:Pr,v=p.v/\pEr p=chPr/\Pr.Ok A p
def cPs(v:Value)(A:Mem):Prop:=∃(s:Sl)(p:Pr),v=s.v/\pEr p=chPr/\qAc A s 5 ([p].map Pr.row)/\Pr.Ok A p
def cD(v:Value)(A:Mem):Prop:=∃d:Ds,v=d.v/\qKa qCE d/\Ds.Ok A d
section
variable{A B:Mem}{v:Value}(hs:A.sub B)
include hs
theorem cE.mono{x:E}(h:cE x v A):cE x v B:=by obtain⟨e,a,b,c⟩:=h;exact⟨e,a,b,c.sub hs⟩
theorem cL.mono{x:List E}(h:cL x v A):cL x v B:=by obtain⟨s,es,a,b,c,d⟩:=h;exact⟨s,es,a,b,c.sub hs,λe k=>(d e k).sub hs⟩
theorem cS.mono{x:S}(h:cS x v A):cS x v B:=by obtain⟨e,a,b,c⟩:=h;exact⟨e,a,b,c.sub hs⟩
theorem cB.mono{x:List S}(h:cB x v A):cB x v B:=by obtain⟨s,es,a,b,c,d⟩:=h;exact⟨s,es,a,b,c.sub hs,λe k=>(d e k).sub hs⟩
theorem cF.mono{f:Fld}(h:cF f v A):cF f v B:=by obtain⟨s,a,b⟩:=h;exact⟨s,a,b.sub hs⟩
theorem cT.mono(h:cT v A):cT v B:=by obtain⟨t,a,b,c⟩:=h;exact⟨t,a,b,c.sub hs⟩
theorem cTs.mono(h:cTs v A):cTs v B:=by obtain⟨s,t,a,b,c,d⟩:=h;exact⟨s,t,a,b,c.sub hs,d.sub hs⟩
theorem pr_sub{p:Pr}(h:Pr.Ok A p):Pr.Ok B p:=⟨h.params.sub hs,h.locals.sub hs,h.body.sub hs,λs k=>(h.stmts s k).sub hs⟩
theorem cP.mono(h:cP v A):cP v B:=by obtain⟨p,a,b,c⟩:=h;exact⟨p,a,b,pr_sub hs c⟩
theorem cPs.mono(h:cPs v A):cPs v B:=by obtain⟨s,p,a,b,c,d⟩:=h;exact⟨s,p,a,b,c.sub hs,pr_sub hs d⟩
theorem cD.mono(h:cD v A):cD v B:=by obtain⟨d,a,b,c⟩:=h;exact⟨d,a,b,c.sub hs⟩
end
def qAm:Nat->List Nat
 |1=>[0]
 |2=>[1]
 |3=>[2]
 |5=>[4]
 |7=>[6]
 |9=>[8]
 |10=>[9]
 |11=>[10]
 |13=>[12]
 |15=>[13,14]
 |16=>[15]
 |17=>[16]
 |19=>[18]
 |20=>[19]
 |21=>[20]
 |22=>[17,21]
 |23=>[11,22]
 |24=>[7,23]
 |25=>[24]
 |26=>[3,5,25]
 |27=>[26]
 |_=>[]
def chQ(A:Mem):Nat->Value->Prop
 |0,v=>v=.agg #[uS qEo,uS chL]
 |1,v=>cF ⟨qEo,chL⟩ v A
 |2,v=>cT v A
 |3,v=>cTs v A
 |4,v=>v=.agg #[uS qCT,uS chL]
 |5,v=>cF ⟨qCT,chL⟩ v A
 |6,v=>v=.agg #[uS chX,uS chL]
 |7,v=>cF ⟨chX,chL⟩ v A
 |8,v=>v=chF
 |9,v=>cE (nmX qCT) v A
 |10,v=>cL [nmX qCT] v A
 |11,v=>cS st1 v A
 |12,v=>v=chF
 |13,v=>cE (nmX chX) v A
 |14,v=>cE nlX v A
 |15,v=>cL [nmX chX,nlX] v A
 |16,v=>cE neX v A
 |17,v=>cL [neX] v A
 |18,v=>cE nxX v A
 |19,v=>cL [nxX] v A
 |20,v=>cS st2 v A
 |21,v=>cB [st2] v A
 |22,v=>cS st3 v A
 |23,v=>cB [st1,st3] v A
 |24,v=>cP v A
 |25,v=>cPs v A
 |26,v=>cD v A
 |_,_=>True
theorem chQ_mono{A B:Mem}(hs:A.sub B):∀(i:Nat)(v:Value),chQ A i v->chQ B i v
 |0,_,h=>h
 |1,_,h=>cF.mono hs h
 |2,_,h=>cT.mono hs h
 |3,_,h=>cTs.mono hs h
 |4,_,h=>h
 |5,_,h=>cF.mono hs h
 |6,_,h=>h
 |7,_,h=>cF.mono hs h
 |8,_,h=>h
 |9,_,h=>cE.mono hs h
 |10,_,h=>cL.mono hs h
 |11,_,h=>cS.mono hs h
 |12,_,h=>h
 |13,_,h=>cE.mono hs h
 |14,_,h=>cE.mono hs h
 |15,_,h=>cL.mono hs h
 |16,_,h=>cE.mono hs h
 |17,_,h=>cL.mono hs h
 |18,_,h=>cE.mono hs h
 |19,_,h=>cL.mono hs h
 |20,_,h=>cS.mono hs h
 |21,_,h=>cB.mono hs h
 |22,_,h=>cS.mono hs h
 |23,_,h=>cB.mono hs h
 |24,_,h=>cP.mono hs h
 |25,_,h=>cPs.mono hs h
 |26,_,h=>cD.mono hs h
 |_+27,_,_=>trivial
def chN(b0:Nat)(V:Mem):Mem:=λc=>if c=b0 then none else V c
theorem chN_ne{b0 c:Nat}{A:Mem}(h:c≠b0):chN b0 A c=A c:=if_neg h
theorem chN_no{b0 c:Nat}{A:Mem}(h:c=b0):chN b0 A c=none:=if_pos h
theorem chN_sub{b0:Nat}{A B:Mem}(h:A.sub B):(chN b0 A).sub (chN b0 B):=λc o k=>by
 by_cases e:c=b0;·rw[chN_no e]at k;cases k
 ·rw[chN_ne e]at k⊢;exact h _ _ k
theorem chN_le{b0:Nat}{A:Mem}:(chN b0 A).sub A:=λc o k=>by
 by_cases e:c=b0;·rw[chN_no e]at k;cases k
 ·rw[chN_ne e]at k;exact k
def chBase(b0 b6:Nat):List (Nat×Value):=[(0,pv b0),(1,chF),(2,pv b6)]
structure ChB (V:Mem)(b0 b6:Nat):Prop where
 z:∃o,V b0=some o
 next:∃e,eEr e=nxX/\V b6=some (.cells e.row.toArray 151 (0,0))/\E.Ok (chN b0 V) e
def ChG(i:Nat)(b0 b6:Nat)(V1:Mem)(val:Nat->Value):Prop:=∃k,(∀s v,k.lookup s=some v->(chBase b0 b6).lookup s=some v∨∃j∈qAm i,s=7+j/\v=val j)/\qDB xE 34 qCj i 1 k [7+i] V1 λvs V2=>∃v,vs=[v]/\V1.sub V2/\chQ (chN b0 V2) i v
theorem qDZ{val:Nat->Value}:∀{l:List Nat}{s:Nat}{v:Value},(l.map λj=>(7+j,val j)).lookup s=some v->∃j∈l,s=7+j/\v=val j
 |[],_,_,h=>by cases h
 |j::l,s,v,h=>by
  rw[List.map_cons,zd]at h;split at h;·rename_i e;simp only[beq_iff_eq]at e;cases h;exact⟨j,zc,e,rfl⟩
  ·obtain⟨k,g,h1⟩:=qDZ h;exact⟨k,zb _ g,h1⟩
theorem chIn1{k s:Nat}{x v:Value}(h:[(k,x)].lookup s=some v):s=k/\v=x:=by
 rw[zd]at h;split at h;·rename_i e;simp only[beq_iff_eq]at e;cases h;exact⟨e,rfl⟩
 ·cases h
theorem chIn0{s:Nat}{v:Value}{Q:Prop}(h:([]:List (Nat×Value)).lookup s=some v):Q:=by cases h
section
variable{V V1:Mem}{b0 b6:Nat}{val:Nat->Value}
theorem qFs(g:ChB V b0 b6)(hs:V.sub V1){b:Nat}(k:V1 b=none)(o:Obj):chN b0 (V1.set b o) b=some o:=by
 have h:b≠b0:=λe=>by
  obtain⟨o,f⟩:=g.z;rw[e,hs _ _ f]at k;cases k
 rw[chN_ne h];exact Mem.set_same _ _ _
theorem qDY{b:Nat}(k:V1 b=none)(o:Obj):(chN b0 V1).sub (chN b0 (V1.set b o)):=chN_sub (Zn k o)
theorem c75{s:KB}:PP 75 [.string s] V (nmX s).v:=by
 refine x75 ?_;exact⟨rfl,rfl⟩
theorem chNil{A:Mem}{n:Nat}:qAc A ⟨none,0,0⟩ n []:=qAc.nil
theorem chNm{A:Mem}{op:Int}{s:KB}(h:yr.min<=op/\op<=yr.max):E.Ok A (.mk op 0 s ⟨none,0,0⟩ []):=.mk chNil (λ_ h=>by simp at h) h (by decide)
theorem ch0(k:ChB V b0 b6)(hs:V.sub V1)(hv:∀j∈qAm 0,chQ (chN b0 V1) j (val j)):ChG 0 b0 b6 V1 val:=by
 have _:=k.z;have _:=hs;have _:=hv;exact⟨[],λ_ _ h=>chIn0 h,s37o0 ⟨_,rfl,.agg #[uS qEo,uS chL],rfl,Mem.sub.refl _,rfl⟩⟩
theorem ch1(g:ChB V b0 b6)(hs:V.sub V1)(hv:∀j∈qAm 1,chQ (chN b0 V1) j (val j)):ChG 1 b0 b6 V1 val:=by
 have h0:(val 0)=.agg #[uS qEo,uS chL]:=hv 0 (by simp[qAm]);have eq:[(7,.agg #[uS qEo,uS chL])]=(qAm 1).map λj=>(7+j,val j):=by simp[qAm,h0]
 refine⟨_,λs v h=>.inr (qDZ (by rw[<-eq];exact h)),s37o1 (a:=qEo) (b:=chL) ?_⟩;unfold w37o1;intro b k;exact⟨_,rfl,_,rfl,Zn k _,⟨some ⟨b,0,none⟩,1,1⟩,rfl,qAc.cells (xs:=[⟨qEo,chL⟩]) (row:=Fld.row) (qFs g hs k _) rfl (λ_=>rfl) rfl (by simp)⟩
theorem ch2(f:ChB V b0 b6)(hs:V.sub V1)(hv:∀j∈qAm 2,chQ (chN b0 V1) j (val j)):ChG 2 b0 b6 V1 val:=by
 have h1:cF ⟨qEo,chL⟩ (val 1) (chN b0 V1):=hv 1 (by simp[qAm]);obtain⟨l,k,g⟩:=h1;have eq:[(8,l.v)]=(qAm 2).map λj=>(7+j,val j):=by simp[qAm,k]
 refine⟨_,λs v h=>.inr (qDZ (by rw[<-eq];exact h)),s37o2 (a:=l) ⟨_,rfl,_,rfl,Mem.sub.refl _,⟨chL,l,[⟨qEo,chL⟩]⟩,rfl,rfl,⟨g⟩⟩⟩
theorem ch3(g:ChB V b0 b6)(hs:V.sub V1)(hv:∀j∈qAm 3,chQ (chN b0 V1) j (val j)):ChG 3 b0 b6 V1 val:=by
 have h2:cT (val 2) (chN b0 V1):=hv 2 (by simp[qAm]);obtain⟨x,f,t,u⟩:=h2;have eq:[(9,.agg x.row.toArray)]=(qAm 3).map λj=>(7+j,val j):=by simp[qAm,f]
 refine⟨_,λs v h=>.inr (qDZ (by rw[<-eq];exact h)),s37o3 (a:=x.name) (b:=x.fs) ?_⟩;unfold w37o3;intro b k;exact⟨_,rfl,_,rfl,Zn k _,⟨some ⟨b,0,none⟩,1,1⟩,x,rfl,t,qAc.cells (xs:=[x]) (row:=Ty.row) (qFs g hs k _) rfl (λ_=>rfl) rfl (by simp),u.sub (qDY k _)⟩
theorem ch4(k:ChB V b0 b6)(hs:V.sub V1)(hv:∀j∈qAm 4,chQ (chN b0 V1) j (val j)):ChG 4 b0 b6 V1 val:=by
 have _:=k.z;have _:=hs;have _:=hv;exact⟨[],λ_ _ h=>chIn0 h,s37o4 ⟨_,rfl,.agg #[uS qCT,uS chL],rfl,Mem.sub.refl _,rfl⟩⟩
theorem ch5(g:ChB V b0 b6)(hs:V.sub V1)(hv:∀j∈qAm 5,chQ (chN b0 V1) j (val j)):ChG 5 b0 b6 V1 val:=by
 have h4:(val 4)=.agg #[uS qCT,uS chL]:=hv 4 (by simp[qAm]);have eq:[(11,.agg #[uS qCT,uS chL])]=(qAm 5).map λj=>(7+j,val j):=by simp[qAm,h4]
 refine⟨_,λs v h=>.inr (qDZ (by rw[<-eq];exact h)),s37o5 (a:=qCT) (b:=chL) ?_⟩;unfold w37o5;intro b k;exact⟨_,rfl,_,rfl,Zn k _,⟨some ⟨b,0,none⟩,1,1⟩,rfl,qAc.cells (xs:=[⟨qCT,chL⟩]) (row:=Fld.row) (qFs g hs k _) rfl (λ_=>rfl) rfl (by simp)⟩
theorem ch6(k:ChB V b0 b6)(hs:V.sub V1)(hv:∀j∈qAm 6,chQ (chN b0 V1) j (val j)):ChG 6 b0 b6 V1 val:=by
 have _:=k.z;have _:=hs;have _:=hv;exact⟨[],λ_ _ h=>chIn0 h,s37o6 ⟨_,rfl,.agg #[uS chX,uS chL],rfl,Mem.sub.refl _,rfl⟩⟩
theorem ch7(g:ChB V b0 b6)(hs:V.sub V1)(hv:∀j∈qAm 7,chQ (chN b0 V1) j (val j)):ChG 7 b0 b6 V1 val:=by
 have f:(val 6)=.agg #[uS chX,uS chL]:=hv 6 (by simp[qAm]);have eq:[(13,.agg #[uS chX,uS chL])]=(qAm 7).map λj=>(7+j,val j):=by simp[qAm,f]
 refine⟨_,λs v h=>.inr (qDZ (by rw[<-eq];exact h)),s37o7 (a:=chX) (b:=chL) ?_⟩;unfold w37o7;intro b k;exact⟨_,rfl,_,rfl,Zn k _,⟨some ⟨b,0,none⟩,1,1⟩,rfl,qAc.cells (xs:=[⟨chX,chL⟩]) (row:=Fld.row) (qFs g hs k _) rfl (λ_=>rfl) rfl (by simp)⟩
theorem ch8(k:ChB V b0 b6)(hs:V.sub V1)(hv:∀j∈qAm 8,chQ (chN b0 V1) j (val j)):ChG 8 b0 b6 V1 val:=by
 have _:=k.z;have _:=hs;have _:=hv;exact⟨[(1,chF)],λs v h=>.inl (by obtain⟨rfl,rfl⟩:=chIn1 h;rfl),s37o8 (a:=chF) ⟨_,rfl,chF,rfl,Mem.sub.refl _,rfl⟩⟩
theorem ch9(g:ChB V b0 b6)(hs:V.sub V1)(hv:∀j∈qAm 9,chQ (chN b0 V1) j (val j)):ChG 9 b0 b6 V1 val:=by
 have k:(val 8)=chF:=hv 8 (by simp[qAm]);have eq:[(15,chF)]=(qAm 9).map λj=>(7+j,val j):=by simp[qAm,k]
 refine⟨_,λs v h=>.inr (qDZ (by rw[<-eq];exact h)),s37o9 (a:=chF) ?_⟩;unfold w37o9;refine⟨75,#[],#[],rfl,Tryz.call75,(c75 (s:=qCT)).callv (first:=[]) (caps:=[]) ⟨_,_,_,_,rfl,_,rfl,_,rfl,Mem.sub.refl _,.mk 4 0 qCT ⟨none,0,0⟩ [],rfl,rfl,chNm (by decide)⟩⟩
theorem ch10(g:ChB V b0 b6)(hs:V.sub V1)(hv:∀j∈qAm 10,chQ (chN b0 V1) j (val j)):ChG 10 b0 b6 V1 val:=by
 have f:cE (nmX qCT) (val 9) (chN b0 V1):=hv 9 (by simp[qAm]);obtain⟨e,t,u,w⟩:=f;have eq:[(16,e.v)]=(qAm 10).map λj=>(7+j,val j):=by simp[qAm,t]
 refine⟨_,λs v h=>.inr (qDZ (by rw[<-eq];exact h)),s37o10 (a:=e.op) (b:=e.n) (c:=e.s) (d:=e.l) ?_⟩;unfold w37o10;intro b k;exact⟨_,rfl,_,rfl,Zn k _,⟨some ⟨b,0,none⟩,1,1⟩,[e],rfl,by rw[vw,u],qAc.cells (xs:=[e]) (row:=E.row) (qFs g hs k _) rfl (λ_=>rfl) rfl (by simp),λx y=>by rw[zO.1 y];exact w.sub (qDY k _)⟩
theorem ch11(w:ChB V b0 b6)(hs:V.sub V1)(hv:∀j∈qAm 11,chQ (chN b0 V1) j (val j)):ChG 11 b0 b6 V1 val:=by
 have k:cL [nmX qCT] (val 10) (chN b0 V1):=hv 10 (by simp[qAm]);obtain⟨l,es,g,f,t,u⟩:=k;have eq:[(17,l.v)]=(qAm 11).map λj=>(7+j,val j):=by simp[qAm,g]
 refine⟨_,λs v h=>.inr (qDZ (by rw[<-eq];exact h)),s37o11 (a:=l) ⟨_,rfl,_,rfl,Mem.sub.refl _,.mk 1 chX l es ⟨none,0,0⟩ [] ⟨none,0,0⟩ [],rfl,by unfold sEr;rw[qDM,f];rfl,.mk t u chNil (λ_ h=>by simp at h) chNil (λ_ h=>by simp at h) (by decide)⟩⟩
theorem ch12(k:ChB V b0 b6)(hs:V.sub V1)(hv:∀j∈qAm 12,chQ (chN b0 V1) j (val j)):ChG 12 b0 b6 V1 val:=by
 have _:=k.z;have _:=hs;have _:=hv;exact⟨[(1,chF)],λs v h=>.inl (by obtain⟨rfl,rfl⟩:=chIn1 h;rfl),s37o12 (a:=chF) ⟨_,rfl,chF,rfl,Mem.sub.refl _,rfl⟩⟩
theorem ch13(g:ChB V b0 b6)(hs:V.sub V1)(hv:∀j∈qAm 13,chQ (chN b0 V1) j (val j)):ChG 13 b0 b6 V1 val:=by
 have k:(val 12)=chF:=hv 12 (by simp[qAm]);have eq:[(19,chF)]=(qAm 13).map λj=>(7+j,val j):=by simp[qAm,k]
 refine⟨_,λs v h=>.inr (qDZ (by rw[<-eq];exact h)),s37o13 (a:=chF) ?_⟩;unfold w37o13;refine⟨75,#[],#[],rfl,Tryz.call75,(c75 (s:=chX)).callv (first:=[]) (caps:=[]) ⟨_,_,_,_,rfl,_,rfl,_,rfl,Mem.sub.refl _,.mk 4 0 chX ⟨none,0,0⟩ [],rfl,rfl,chNm (by decide)⟩⟩
theorem ch14(k:ChB V b0 b6)(hs:V.sub V1)(hv:∀j∈qAm 14,chQ (chN b0 V1) j (val j)):ChG 14 b0 b6 V1 val:=by
 have _:=k.z;have _:=hs;have _:=hv;exact⟨[],λ_ _ h=>chIn0 h,s37o14 ⟨_,rfl,_,rfl,Mem.sub.refl _,.mk 3 0 sE ⟨none,0,0⟩ [],rfl,rfl,chNm (by decide)⟩⟩
theorem ch15(m:ChB V b0 b6)(hs:V.sub V1)(hv:∀j∈qAm 15,chQ (chN b0 V1) j (val j)):ChG 15 b0 b6 V1 val:=by
 have u:cE (nmX chX) (val 13) (chN b0 V1):=hv 13 (by simp[qAm]);have w:cE nlX (val 14) (chN b0 V1):=hv 14 (by simp[qAm]);obtain⟨e,r,q,H⟩:=u;obtain⟨f,J,f2,f3⟩:=w;have eq:[(20,e.v),(21,f.v)]=(qAm 15).map λj=>(7+j,val j):=by simp[qAm,r,J]
 refine⟨_,λs v h=>.inr (qDZ (by rw[<-eq];exact h)),s37o15 (a:=e.op) (b:=e.n) (c:=e.s) (d:=e.l) (g:=f.op) (i:=f.n) (j:=f.s) (k:=f.l) ?_⟩;unfold w37o15;intro b t;exact⟨_,rfl,_,rfl,Zn t _,⟨some ⟨b,0,none⟩,2,2⟩,[e,f],rfl,by simp[q,f2],qAc.cells (xs:=[e,f]) (row:=E.row) (qFs m hs t _) rfl (λ_=>rfl) rfl (by simp),λx y=>by
  rcases yD.1 y with rfl|y;·exact H.sub (qDY t _)
  ·rw[zO.1 y];exact f3.sub (qDY t _)⟩
theorem ch16(w:ChB V b0 b6)(hs:V.sub V1)(hv:∀j∈qAm 16,chQ (chN b0 V1) j (val j)):ChG 16 b0 b6 V1 val:=by
 have k:cL [nmX chX,nlX] (val 15) (chN b0 V1):=hv 15 (by simp[qAm]);obtain⟨l,es,g,f,t,u⟩:=k;have eq:[(22,l.v)]=(qAm 16).map λj=>(7+j,val j):=by simp[qAm,g]
 refine⟨_,λs v h=>.inr (qDZ (by rw[<-eq];exact h)),s37o16 (a:=l) ⟨_,rfl,_,rfl,Mem.sub.refl _,.mk 15 0 sE l es,rfl,by unfold eEr;rw[qDM,f];rfl,.mk t u (by decide) (by decide)⟩⟩
theorem ch17(f:ChB V b0 b6)(hs:V.sub V1)(hv:∀j∈qAm 17,chQ (chN b0 V1) j (val j)):ChG 17 b0 b6 V1 val:=by
 have k:cE neX (val 16) (chN b0 V1):=hv 16 (by simp[qAm]);obtain⟨e,t,u,w⟩:=k;have eq:[(23,e.v)]=(qAm 17).map λj=>(7+j,val j):=by simp[qAm,t]
 refine⟨_,λs v h=>.inr (qDZ (by rw[<-eq];exact h)),s37o17 (a:=e.op) (b:=e.n) (c:=e.s) (d:=e.l) ?_⟩;unfold w37o17;intro b g;exact⟨_,rfl,_,rfl,Zn g _,⟨some ⟨b,0,none⟩,1,1⟩,[e],rfl,by rw[vw,u],qAc.cells (xs:=[e]) (row:=E.row) (qFs f hs g _) rfl (λ_=>rfl) rfl (by simp),λx y=>by rw[zO.1 y];exact w.sub (qDY g _)⟩
theorem ch18(g:ChB V b0 b6)(hs:V.sub V1)(hv:∀j∈qAm 18,chQ (chN b0 V1) j (val j)):ChG 18 b0 b6 V1 val:=by
 have _:=g.z;have _:=hs;have _:=hv;obtain⟨e,f,t,k⟩:=g.next;exact⟨[(2,pv b6)],λs v h=>.inl (by obtain⟨rfl,rfl⟩:=chIn1 h;rfl),s37o18 (a:=some ⟨b6,0,none⟩) ⟨_,_,_,_,qAd (hs _ _ t) 0 4 (by simp[E.row]),_,rfl,e.v,rfl,Mem.sub.refl _,e,rfl,f,k.sub (chN_sub hs)⟩⟩
theorem ch19(f:ChB V b0 b6)(hs:V.sub V1)(hv:∀j∈qAm 19,chQ (chN b0 V1) j (val j)):ChG 19 b0 b6 V1 val:=by
 have k:cE nxX (val 18) (chN b0 V1):=hv 18 (by simp[qAm]);obtain⟨e,t,u,w⟩:=k;have eq:[(25,e.v)]=(qAm 19).map λj=>(7+j,val j):=by simp[qAm,t]
 refine⟨_,λs v h=>.inr (qDZ (by rw[<-eq];exact h)),s37o19 (a:=e.op) (b:=e.n) (c:=e.s) (d:=e.l) ?_⟩;unfold w37o19;intro b g;exact⟨_,rfl,_,rfl,Zn g _,⟨some ⟨b,0,none⟩,1,1⟩,[e],rfl,by rw[vw,u],qAc.cells (xs:=[e]) (row:=E.row) (qFs f hs g _) rfl (λ_=>rfl) rfl (by simp),λx y=>by rw[zO.1 y];exact w.sub (qDY g _)⟩
theorem ch20(w:ChB V b0 b6)(hs:V.sub V1)(hv:∀j∈qAm 20,chQ (chN b0 V1) j (val j)):ChG 20 b0 b6 V1 val:=by
 have k:cL [nxX] (val 19) (chN b0 V1):=hv 19 (by simp[qAm]);obtain⟨l,es,g,f,t,u⟩:=k;have eq:[(26,l.v)]=(qAm 20).map λj=>(7+j,val j):=by simp[qAm,g]
 refine⟨_,λs v h=>.inr (qDZ (by rw[<-eq];exact h)),s37o20 (a:=l) ⟨_,rfl,_,rfl,Mem.sub.refl _,.mk 1 chX l es ⟨none,0,0⟩ [] ⟨none,0,0⟩ [],rfl,by unfold sEr;rw[qDM,f];rfl,.mk t u chNil (λ_ h=>by simp at h) chNil (λ_ h=>by simp at h) (by decide)⟩⟩
theorem ch21(t:ChB V b0 b6)(hs:V.sub V1)(hv:∀j∈qAm 21,chQ (chN b0 V1) j (val j)):ChG 21 b0 b6 V1 val:=by
 have k:cS st2 (val 20) (chN b0 V1):=hv 20 (by simp[qAm]);obtain⟨⟨op,s,el,es,ll,ls,xl,xs⟩,u,w,y⟩:=k;have eq:[(27,(S.mk op s el es ll ls xl xs).v)]=(qAm 21).map λj=>(7+j,val j):=by simp[qAm,u]
 refine⟨_,λs v h=>.inr (qDZ (by rw[<-eq];exact h)),s37o21 (a:=op) (b:=s) (c:=el) (d:=ll) (g:=xl) ?_⟩;unfold w37o21;intro b f;exact⟨_,rfl,_,rfl,Zn f _,⟨some ⟨b,0,none⟩,1,1⟩,[S.mk op s el es ll ls xl xs],rfl,by rw[vw,w],qAc.cells (xs:=[S.mk op s el es ll ls xl xs]) (row:=S.row) (qFs t hs f _) rfl (λx=>by cases x;rfl) rfl (by simp),λx i=>by rw[zO.1 i];exact y.sub (qDY f _)⟩
theorem ch22(H:ChB V b0 b6)(hs:V.sub V1)(hv:∀j∈qAm 22,chQ (chN b0 V1) j (val j)):ChG 22 b0 b6 V1 val:=by
 have g:cL [neX] (val 17) (chN b0 V1):=hv 17 (by simp[qAm]);have f:cB [st2] (val 21) (chN b0 V1):=hv 21 (by simp[qAm]);obtain⟨l,es,t,u,w,y⟩:=g;obtain⟨k,x,i,m,r,q⟩:=f;have eq:[(24,l.v),(28,k.v)]=(qAm 22).map λj=>(7+j,val j):=by simp[qAm,t,i]
 refine⟨_,λs v h=>.inr (qDZ (by rw[<-eq];exact h)),s37o22 (a:=l) (b:=k) ⟨_,rfl,_,rfl,Mem.sub.refl _,.mk 4 sE l es k x ⟨none,0,0⟩ [],rfl,by unfold sEr;rw[qDM,u,qIB,m];rfl,.mk w y r q chNil (λ_ h=>by simp at h) (by decide)⟩⟩
theorem ch23(Y:ChB V b0 b6)(hs:V.sub V1)(hv:∀j∈qAm 23,chQ (chN b0 V1) j (val j)):ChG 23 b0 b6 V1 val:=by
 have J:cS st1 (val 11) (chN b0 V1):=hv 11 (by simp[qAm]);have G:cS st3 (val 22) (chN b0 V1):=hv 22 (by simp[qAm]);obtain⟨⟨op,s,el,es,ll,ls,xl,xs⟩,W,O,I⟩:=J;obtain⟨⟨f,q,t,y,u,m,w,r⟩,F,f2,f3⟩:=G;have eq:[(18,(S.mk op s el es ll ls xl xs).v),(29,(S.mk f q t y u m w r).v)]=(qAm 23).map λj=>(7+j,val j):=by simp[qAm,W,F]
 refine⟨_,λs v h=>.inr (qDZ (by rw[<-eq];exact h)),s37o23 (a:=op) (b:=s) (c:=el) (d:=ll) (g:=xl) (i:=f) (j:=q) (k:=t) (l:=u) (o:=w) ?_⟩;unfold w37o23;intro b H;exact⟨_,rfl,_,rfl,Zn H _,⟨some ⟨b,0,none⟩,2,2⟩,[S.mk op s el es ll ls xl xs,S.mk f q t y u m w r],rfl,by rw[List.map_cons,vw,O,f2],qAc.cells (xs:=[S.mk op s el es ll ls xl xs,S.mk f q t y u m w r]) (row:=S.row) (qFs Y hs H _) rfl (λx=>by cases x;rfl) rfl (by simp),λx Z=>by
  rcases yD.1 Z with rfl|Z;·exact I.sub (qDY H _)
  ·rw[zO.1 Z];exact f3.sub (qDY H _)⟩
theorem ch24(r:ChB V b0 b6)(hs:V.sub V1)(hv:∀j∈qAm 24,chQ (chN b0 V1) j (val j)):ChG 24 b0 b6 V1 val:=by
 have f:cF ⟨chX,chL⟩ (val 7) (chN b0 V1):=hv 7 (by simp[qAm]);have g:cB [st1,st3] (val 23) (chN b0 V1):=hv 23 (by simp[qAm]);obtain⟨l,t,u⟩:=f;obtain⟨k,w,y,x,i,m⟩:=g;have eq:[(14,l.v),(30,k.v)]=(qAm 24).map λj=>(7+j,val j):=by simp[qAm,t,y]
 refine⟨_,λs v h=>.inr (qDZ (by rw[<-eq];exact h)),s37o24 (a:=l) (b:=k) ⟨_,rfl,_,rfl,Mem.sub.refl _,⟨qIk,⟨none,0,0⟩,[],sE,l,[⟨chX,chL⟩],k,w⟩,rfl,by unfold pEr;rw[qIB,x];rfl,⟨chNil,u,i,m⟩⟩⟩
theorem ch25(t:ChB V b0 b6)(hs:V.sub V1)(hv:∀j∈qAm 25,chQ (chN b0 V1) j (val j)):ChG 25 b0 b6 V1 val:=by
 have k:cP (val 24) (chN b0 V1):=hv 24 (by simp[qAm]);obtain⟨p,u,w,y⟩:=k;have eq:[(31,p.v)]=(qAm 25).map λj=>(7+j,val j):=by simp[qAm,u]
 refine⟨_,λs v h=>.inr (qDZ (by rw[<-eq];exact h)),s37o25 (a:=p.name) (b:=p.ps) (c:=p.result) (d:=p.ls) (g:=p.bs) ?_⟩;unfold w37o25;intro b f;exact⟨_,rfl,_,rfl,Zn f _,⟨some ⟨b,0,none⟩,1,1⟩,p,rfl,w,qAc.cells (xs:=[p]) (row:=Pr.row) (qFs t hs f _) rfl (λ_=>rfl) rfl (by simp),pr_sub (qDY f _) y⟩
theorem ch26(J:ChB V b0 b6)(hs:V.sub V1)(hv:∀j∈qAm 26,chQ (chN b0 V1) j (val j)):ChG 26 b0 b6 V1 val:=by
 have h3:cTs (val 3) (chN b0 V1):=hv 3 (by simp[qAm]);have f:cF ⟨qCT,chL⟩ (val 5) (chN b0 V1):=hv 5 (by simp[qAm]);have k:cPs (val 25) (chN b0 V1):=hv 25 (by simp[qAm]);obtain⟨ts,x,u,w,y,i⟩:=h3;obtain⟨gs,m,r⟩:=f;obtain⟨ps,p,p1,q,p3,H⟩:=k;have eq:[(10,ts.v),(12,gs.v),(32,ps.v)]=(qAm 26).map λj=>(7+j,val j):=by simp[qAm,u,m,p1]
 refine⟨_,λs v h=>.inr (qDZ (by rw[<-eq];exact h)),s37o26 (a:=ts) (b:=gs) (c:=ps) ⟨_,rfl,_,rfl,Mem.sub.refl _,⟨chChain,ts,[x],gs,[⟨qCT,chL⟩],ps,[p],⟨none,0,0⟩,[],⟨none,0,0⟩,[],⟨none,0,0⟩,[],⟨none,0,0⟩,[]⟩,rfl,⟨?_,rfl,rfl,rfl,rfl⟩,?_⟩⟩
 ·unfold dEr;rw[vw,vw,w,q];rfl
 ·exact
  {types:=y
   typesOk:=λt g=>by rw[zO.1 g];exact i
   globals:=r
   procs:=p3
   procsOk:=λt g=>by rw[zO.1 g];exact H
   measures:=qAc.nil
   measuresOk:=λ_ h=>by simp at h
   invs:=qAc.nil
   invsOk:=λ_ h=>by simp at h
   pots:=qAc.nil
   potsOk:=λ_ h=>by simp at h
   bounds:=qAc.nil
   boundsOk:=λ_ h=>by simp at h}
noncomputable def chR3:Code:=(flat (qAs vx)).getD 3 .skip
theorem chain_flat:flat (qAs vx)=c37a++[chR3,.ret]:=by kernel_rfl
theorem chR3_eq:chR3=.region 3 qCj true:=by kernel_rfl
theorem chR3_ok:anyOk qCj 27 7 qAm=true:=by kernel_rfl
theorem chR3_size:(qCj).size=28:=by kernel_rfl
theorem qLx{tmps:Array Value}{b:Nat}{d:Ds}{w:World}(h0:tmps.getD 0 undef=pv b)(h:w.heap[b]?=some (.cells d.row.toArray 30 (0,0))):(results vx tmps).run xE w=.ok d.v w:=by
 have k:vx.results=#[.cell 0 30]:=by kernel_rfl
 unfold results;rw[k];have e:asAddr (tmps.getD 0 undef)=pure ⟨b,0,none⟩:=by rw[h0];rfl
 have g:=qCe (P:=xE) (t:=30) (cs:=.cons (.var .s 0) (.cons (.var .sl 1) (.cons (.var .sl 2) (.cons (.var .sl 3) (.cons (.var .sl 4) (.cons (.var .sl 5) (.cons (.var .sl 6) (.cons (.var .sl 7) .nil)))))))) (x:=.agg (.cons (.var .s 0) (.cons (.var .sl 1) (.cons (.var .sl 2) (.cons (.var .sl 3) (.cons (.var .sl 4) (.cons (.var .sl 5) (.cons (.var .sl 6) (.cons (.var .sl 7) .nil))))))))) (ρ:=d.row) (β:=id) (o:=0) (b:=b) (w:=w) h (by kernel_rfl);simp only[List.mapM_toArray,List.mapM_cons,List.mapM_nil,Sem.run_bind,Sem.run_map,Sem.run_pure,Result.andThen_ok,e,show(loadVar 30 ⟨b,0,none⟩).run xE w=.ok d.v w from g];rfl
theorem chStep(k:ChB V b0 b6)(hs:V.sub V1):∀i,i<27->(∀j∈qAm i,chQ (chN b0 V1) j (val j))->ChG i b0 b6 V1 val
 |0,_,hv=>ch0 k hs hv
 |1,_,hv=>ch1 k hs hv
 |2,_,hv=>ch2 k hs hv
 |3,_,hv=>ch3 k hs hv
 |4,_,hv=>ch4 k hs hv
 |5,_,hv=>ch5 k hs hv
 |6,_,hv=>ch6 k hs hv
 |7,_,hv=>ch7 k hs hv
 |8,_,hv=>ch8 k hs hv
 |9,_,hv=>ch9 k hs hv
 |10,_,hv=>ch10 k hs hv
 |11,_,hv=>ch11 k hs hv
 |12,_,hv=>ch12 k hs hv
 |13,_,hv=>ch13 k hs hv
 |14,_,hv=>ch14 k hs hv
 |15,_,hv=>ch15 k hs hv
 |16,_,hv=>ch16 k hs hv
 |17,_,hv=>ch17 k hs hv
 |18,_,hv=>ch18 k hs hv
 |19,_,hv=>ch19 k hs hv
 |20,_,hv=>ch20 k hs hv
 |21,_,hv=>ch21 k hs hv
 |22,_,hv=>ch22 k hs hv
 |23,_,hv=>ch23 k hs hv
 |24,_,hv=>ch24 k hs hv
 |25,_,hv=>ch25 k hs hv
 |26,_,hv=>ch26 k hs hv
 |_+27,h,_=>by omega
theorem c37{V:Mem}:Tri xE 37 #[] V λe V'=>V.sub V'/\∃d:Ds,e=.returned d.v/\qKa qCE d/\Ds.Ok V' d:=by
 unfold Go.Sx.Tri;intro w hV;refine(callsIn_wide (n:=0)).1 (callsIn_of_wp (F:=qAK none) Tryz.func37 (c:=qAs vx) (by kernel_rfl) trivial (qCO ?_) rfl);rw[chain_flat];have hA:Seg xE 34 c37a [] [0,1,2] V λvs V1=>∃b0 b6,vs=[pv b0,chF,pv b6]/\ChB V1 b0 b6/\V.sub V1/\V b0=none/\∃c,c.size=8/\V1 b0=some (.cells c 30 (0,0)):=by
  refine s37a ?_;unfold w37a;refine(c75 (s:=chX)).call ⟨_,_,_,_,rfl,λb0 f G y b6 Z=>⟨_,rfl,b0,b6,rfl,?_⟩⟩;have n4:G≠b0:=λe=>by rw[e,Mem.set_same]at y;cases y
  have s0:=Zn f (.cells #[uS (qAo []),.slice none 0 0,.slice none 0 0,.slice none 0 0,.slice none 0 0,.slice none 0 0,.slice none 0 0,.slice none 0 0] 30 (0,0));have Y:=Zn y (.cells (nmX chX).row.toArray 151 (0,0));have J:=Zn Z (.cells (E.mk 5 0 qEo ⟨some ⟨G,0,none⟩,1,1⟩ [nmX chX]).row.toArray 151 (0,0));have m:∀{A:Mem},E.Ok A (nmX chX):=λ{A}=>chNm (by decide);refine⟨⟨⟨_,(Y.trans J) _ _ mss⟩,⟨E.mk 5 0 qEo ⟨some ⟨G,0,none⟩,1,1⟩ [nmX chX],rfl,Mem.set_same _ _ _,?_⟩⟩,s0.trans (Y.trans J),f,_,rfl,(Y.trans J) _ _ mss⟩;refine .mk (qAc.cells (xs:=[nmX chX]) (row:=E.row) (fr:=(0,0)) (t:=151) ?_ rfl (λ_=>rfl) rfl (by simp)) (λx r=>by rw[zO.1 r];exact m) (by decide) (by decide);rw[chN_ne n4];exact J _ _ mss
 refine hA.step hV ⟨by simp,λs v h=>by cases h⟩ ?_;rintro a1 U vs V1 W O ⟨b0,b6,rfl,hB,I,f,c,hc,L⟩ q;show Code.wpIn (qAK none) 0 xE chR3 _ a1 U;rw[chR3_eq];refine wpIn_region_any (by kernel_rfl) ?_;rw[chR3_size];refine anyR_sound (M:=27) (k0:=7) (N:=34) (deps:=qAm) (Pr:=λi v A=>chQ (chN b0 A) i v) (Φ:=λV'=>V.sub V'/\∃d:Ds,qKa qCE d/\Ds.Ok V' d/\V' b0=some (.cells d.row.toArray 30 (0,0))) (V:=V1) (base:=chBase b0 b6) (a0:=a1) (w0:=U) chR3_ok (λi v A B h=>chQ_mono (chN_sub h) i v) (λs v h=>?_) (by decide)
  (λi X A u val hv=>chStep hB u i X hv) (λA u val hv=>?_) (λa' w' V' C D K H=>?_) 28 _ _ _ (by simp) ?_ (.inl ⟨V1,Mem.sub.refl _,⟨yV _,q.le,λ_ _ _=>rfl,λ_ h=>.inl h,rfl,rfl⟩,rfl,O,by simp,λi X h=>?_,λi X h=>?_⟩)
 ·simp only[chBase,zd]at h
  repeat' split at h
  all_goals first
   |(rename_i e;simp only[beq_iff_eq]at e;omega)
   |cases h
 ·obtain⟨d,d1,d2,d3⟩:cD (val 26) (chN b0 A):=hv 26 (by simp[qAm]);refine⟨[(0,pv b0),(33,d.v)],λs v h=>?_,s37o27 (a:=some ⟨b0,0,none⟩) (b:=d.name) (c:=d.ts) (d:=d.gs) (g:=d.ps) (i:=d.ms) (j:=d.is) (k:=d.qs) (l:=d.bs) ?_⟩
  ·rw[zd]at h;split at h;·rename_i e;simp only[beq_iff_eq]at e;subst e;cases h;exact .inl rfl
   ·obtain⟨rfl,rfl⟩:=chIn1 h;exact .inr ⟨26,by simp[qAm],rfl,d1.symm⟩
  ·unfold w37o27;have S:=u _ _ L;refine StT.at_ S (by simp[hc]) ⟨_,rfl,(I.trans u).set f _,d,d2,d3.sub λx o r=>?_,?_⟩
   ·by_cases e:x=b0;·rw[chN_no e]at r;cases r
    ·rw[Zm e];exact chN_le _ _ r
   ·rw[Mem.set_same];have:c.toList.drop (0+8)=[]:=List.drop_eq_nil_of_le (by simp[hc]);show some (Obj.cells (c.toList.take 0++d.row++c.toList.drop (0+8)).toArray _ _)=_;rw[this];simp
 ·obtain⟨h1,d,h2,h3,h4⟩:=K;show Code.wpIn (qAK none) 0 xE .ret _ a' w';refine wpIn_ret ?_;exact⟨C.trans W,d.v,qLx (D.get rfl) (H.le _ _ h4),V',⟨h1,d,rfl,h2,h3⟩,q.trans H⟩
 ·have h2:=List.length_filter_le (λi=>!(wI 28 false).getD i true) (zB (27+1));rw[List.length_range]at h2;exact h2
 ·have T:(wI 28 false).getD i false=false:=by simp[z6]
  rw[T]at h;cases h
 ·have T:(wI 28 false).getD i false=false:=by simp[z6]
  rw[T]at h;cases h
end
end Go.Proofs
namespace Go.Proofs
def mtf(T:List Int)(b:Int):List Int:=b::T.erase b
theorem mtf_len_mem{T:List Int}{b:Int}(h:b∈T):(mtf T b).length=T.length:=by
 grind[mtf]
theorem nodup_mtf{T:List Int}{b:Int}(h:T.Nodup):(mtf T b).Nodup:=by
 grind[mtf]
theorem nodup_le:∀(S U:List Int),S.Nodup->(∀x∈S,x∈U)->S.length<=U.length
 |[],_,_,_=>Nat.zero_le _
 |s::S,U,k,h=>by
  rw[List.nodup_cons]at k;have hs:=h s (by simp);have f:=nodup_le S (U.erase s) k.2 λx g=>(List.mem_erase_of_ne λe=>k.1 (by simp_all)).2 (h x (by simp[g]));grind
end Go.Proofs
namespace Go.Proofs
def chain(k pv:List Int):Nat->List Nat->Prop
 |a,[]=>k[a]?=some 0/\pv[0]?=some (a:Int)
 |a,b::L=>k[a]?=some (b:Int)/\pv[b]?=some (a:Int)/\chain k pv b L
theorem qIO{k pv:List Int}{x:Nat}{v:Int}:∀{a:Nat}{L:List Nat},x∉a::L->chain k pv a L->chain (k.set x v) pv a L
 |a,[],h,⟨h1,h2⟩=>⟨by rw[vu (by grind)];exact h1,h2⟩
 |a,b::L,h,⟨h1,h2,h3⟩=>⟨by rw[vu (by grind)];exact h1,h2,qIO (by grind) h3⟩
theorem qIN{k pv:List Int}{x:Nat}{v:Int}:∀{a:Nat}{L:List Nat},x∉L->x≠0->chain k pv a L->chain k (pv.set x v) a L
 |a,[],h,h0,⟨h1,h2⟩=>⟨h1,by rw[vu h0];exact h2⟩
 |a,b::L,h,h0,⟨h1,h2,h3⟩=>⟨h1,by rw[vu (by grind)];exact h2,qIN (by grind) h0 h3⟩
theorem chain_app{k pv:List Int}:∀{a:Nat}{L:List Nat}{u v:List Int},chain k pv a L->chain (k++u) (pv++v) a L
 |a,[],u,v,⟨h1,h2⟩=>⟨by grind,by grind⟩
 |a,b::L,u,v,⟨h1,h2,h3⟩=>⟨by grind,by grind,chain_app h3⟩
theorem qMe{k pv:List Int}{i:Nat}:∀{a:Nat}{A B:List Nat},chain k pv a (A++i::B)->∃p n:Nat,pv[i]?=some (p:Int)/\k[i]?=some (n:Int)/\p=(a::A).getLast (by simp)/\n=(B++[0]).head (by simp)
 |a,[],[],⟨h1,h2,h3,h4⟩=>⟨a,0,h2,h3,rfl,rfl⟩
 |a,[],b::B,⟨h1,h2,h3,h4,w⟩=>⟨a,b,h2,h3,rfl,rfl⟩
 |a,c::A,B,⟨h1,h2,h3⟩=>by
  obtain⟨p,n,g,f,t,u⟩:=qMe h3;exact⟨p,n,g,f,by rw[vt (by simp)];exact t,u⟩
theorem chain_cut{f pv:List Int}{i p n:Nat}:∀{a:Nat}{A B:List Nat},chain f pv a (A++i::B)->(a::(A++i::B)).Nodup->0∉A++i::B->pv[i]?=some (p:Int)->f[i]?=some (n:Int)->chain (f.set p n) (pv.set n p) a (A++B)
 |a,[],[],⟨h1,h2,h3,h4⟩,w,h0,g,k=>by
  rw[g]at h2;rw[k]at h3;obtain rfl:p=a:=by injection h2 with h2;omega
  obtain rfl:n=0:=by injection h3 with h3;omega
  refine⟨?_,?_⟩;·rw[vq (yv.1 h1).1];rfl
  ·rw[vq (yv.1 h4).1]
 |a,[],b::B,⟨h1,h2,h3,h4,y⟩,w,h0,g,k=>by
  rw[g]at h2;rw[k]at h3;obtain rfl:p=a:=by injection h2 with h2;omega
  obtain rfl:n=b:=by injection h3 with h3;omega
  refine⟨?_,?_,?_⟩;·rw[vq (yv.1 h1).1]
  ·rw[vq (yv.1 h4).1]
  ·exact qIO (by grind) (qIN (by grind) (by grind) y)
 |a,c::A,B,h,w,h0,g,k=>by
  obtain⟨x,j,t,u,m,r⟩:=qMe h.2.2;have q:=chain_cut h.2.2 (by grind) (by grind) g k;rw[g]at t;rw[k]at u;obtain rfl:p=x:=by injection t with t;omega
  obtain rfl:n=j:=by injection u with u;omega
  have s:p∈c::A:=by rw[m];exact List.getLast_mem _
  have H:n∈B++[0]:=by rw[r];exact List.head_mem _
  refine⟨?_,?_,q⟩;·rw[vu (by grind)];exact h.1
  ·rw[vu (by grind)];exact h.2.1
theorem qGr{k pv:List Int}{i n:Nat}{L:List Nat}(h:chain k pv 0 L)(hi:i∉0::L)(w:(0::L).Nodup)(h0:k[0]?=some (n:Int))(t:i<k.length)(u:i<pv.length):
  chain ((k.set i n).set 0 i) ((pv.set i 0).set n i) 0 (i::L):=by
 cases L with
 |nil=>
  obtain⟨h1,h2⟩:=h;rw[h0]at h1;obtain rfl:n=0:=by injection h1 with h1;omega
  have g:=(yv.1 h0).1;have f:=(yv.1 h2).1;refine⟨?_,?_,?_,?_⟩<;>grind
 |cons b L=>
  obtain⟨h1,h2,h3⟩:=h;rw[h0]at h1;obtain rfl:n=b:=by injection h1 with h1;omega
  have g:=(yv.1 h0).1;have f:=(yv.1 h2).1;refine⟨by grind,by grind,by grind,by grind,?_⟩;exact qIO (by grind) (qIO (by grind) (qIN (by grind) (by grind) (qIN (by grind) (by grind) h3)))
theorem qLc{k pv:List Int}:∀{a:Nat}{L:List Nat},chain k pv a L->pv[0]?=some (((a::L).getLast (by simp):Nat):Int)
 |a,[],⟨_,h2⟩=>h2
 |a,b::L,⟨_,_,h3⟩=>by rw[vt (by simp)];exact qLc h3
end Go.Proofs
