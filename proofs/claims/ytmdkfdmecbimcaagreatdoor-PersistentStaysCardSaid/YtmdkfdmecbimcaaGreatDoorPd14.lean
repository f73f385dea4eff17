/- Part 14: no statement of the seat is proved here. -/
import Derived.Test.YtmdkfdmecbimcaaGreatDoorPd13
set_option linter.unusedVariables false
set_option linter.unusedSimpArgs false
open List renaming length_map->wI,getElem?_map->xI,getD_eq_getElem?_getD->uN,replicate->yT,getElem?_eq_some_iff->yj,mem_replicate->uO,ext_getElem?->wR,take_of_length_le->xc,mem_iff_getElem?->wG,getElem?_eq_getElem->yi,take_add_one->vM,mem_append_left->uC,mem_map->uE,mem_filter->ym,getElem?_append_left->wK,length_set->wJ,getElem?_set_ne->uU,getElem?_eq_none->uV,length_append->zI,length_singleton->yI,map_append->yy,any_eq_false->xo,getElem?_inj->uW,mem_of_getElem?->x8,mem_append->wL,range->zB,nodup_range->uY,getElem?_concat_length->uZ,map_singleton->uz,nodup_append->uy,mem_range->yo,mem_singleton->zR
open Bool renaming and_eq_true->zC
open Go.Proofs.Tryz renaming prog->xS,underlying3->vN,underlying92->uX
open Go.Value renaming int->wP,bool->uQ
open Nat renaming mul_one->uR,le_refl->yq,not_lt_zero->xq,le_trans->wH
open Option renaming map_some->zL,toList_some->uT
open Int renaming toNat_natCast->xa,toNat_of_nonneg->uK
open List.cons renaming injEq->yJ
open Option.some renaming injEq->zG,inj->vk
open List.Pairwise renaming map->ux
namespace Go.Proofs
open Go Go.Sx
mutual
def Dz:E->E|.mk o n s _ k=>.mk o n s Af (Cq k)
def Cq:List E->List E|[]=>[]|x::xs=>Dz x::Cq xs
end
mutual
def DP:S->S|.mk o s _ es _ ls _ xs=>.mk o s Af (Cq es) Af (CH ls) Af (CH xs)
def CH:List S->List S|[]=>[]|x::xs=>DP x::CH xs
end
def tEr(t:Ty):Ty:=⟨t.name,Af,t.fields⟩
def pEr(p:Pr):Pr:=⟨p.name,Af,p.params,p.result,Af,p.locals,Af,CH p.body⟩
def AA(d:Ds):Ds:=⟨d.name,Af,d.types.map tEr,Af,d.globals,Af,d.procs.map pEr,Af,[],Af,[],Af,[],Af,[]⟩
theorem Gt:∀l:List E,Cq l=l.map Dz
 |[]=>by unfold Cq;rfl
 |x::xs=>by unfold Cq;rw[Gt xs];rfl
theorem Lm:∀l:List S,CH l=l.map DP
 |[]=>by unfold CH;rfl
 |x::xs=>by unfold CH;rw[Lm xs];rfl
theorem eErs_len(l:List E):(Cq l).length=l.length:=by rw[Gt,wI]
theorem sErs_len(l:List S):(CH l).length=l.length:=by rw[Lm,wI]
mutual
theorem okE_er:∀(k:Int)(e:E),Cs k (Dz e)=Cs k e
 |k,.mk o n s _ l=>by unfold Dz Cs;rw[eErs_len,okEs_er]
theorem okEs_er:∀(k:Int)(l:List E),okEs k (Cq l)=okEs k l
 |_,[]=>by unfold Cq;rfl
 |k,x::xs=>by unfold Cq okEs;rw[okE_er,okEs_er]
end
mutual
theorem szE_er:∀e:E,AB (Dz e)=AB e
 |.mk o n s _ l=>by unfold Dz AB;rw[szEs_er]
theorem szEs_er:∀l:List E,szEs (Cq l)=szEs l
 |[]=>by unfold Cq;rfl
 |x::xs=>by unfold Cq szEs;rw[szE_er,szEs_er]
end
theorem validE_er(e:E):Bz (Dz e)=Bz e:=by unfold Bz;rw[okE_er,szE_er]
theorem fop_er:∀l:List E,Jy (Cq l)=Jy l
 |[]=>by unfold Cq;rfl
 |.mk o n s _ l::xs=>by rfl
theorem shapeR_er(op:Int)(s:KB)(es:List E)(nl H:Int):Db op s (Cq es) nl H=Db op s es nl H:=by
 unfold Db GM;have:(Cq es).all Bz=es.all Bz:=by
  rw[Gt,List.all_map];simp_all[congrArg,funext,validE_er]
 rw[eErs_len,fop_er,this]
mutual
theorem okS_er:∀(k:Int)(e:S),El k (DP e)=El k e
 |k,.mk o s _ es _ ls _ xs=>by unfold DP El;rw[sErs_len,sErs_len,shapeR_er,Ln,Ln]
theorem Ln:∀(k:Int)(l:List S),CD k (CH l)=CD k l
 |_,[]=>by unfold CH;rfl
 |k,x::xs=>by unfold CH CD;rw[okS_er,Ln]
end
mutual
theorem szS_er:∀e:S,EB (DP e)=EB e
 |.mk o s _ es _ ls _ xs=>by unfold DP EB;rw[Lo,Lo]
theorem Lo:∀l:List S,Cv (CH l)=Cv l
 |[]=>by unfold CH;rfl
 |x::xs=>by unfold CH Cv;rw[szS_er,Lo]
end
theorem JX{α β:Type}{f:α->β}{p:β->Bool}{q:α->Bool}(l:List α)(h:∀x,p (f x)=q x):(l.map f).all p=l.all q:=by
 grind
theorem Ni{α β:Type}{f:α->β}{p:β->Bool}{q:α->Bool}(l:List α)(h:∀x,p (f x)=q x):(l.map f).any p=l.any q:=by
 grind
theorem idx_map{α β:Type}{f:α->β}{p:β->Bool}{q:α->Bool}(l:List α)(h:∀x,p (f x)=q x):BH p (l.map f)=BH q l:=by
 unfold BH;have e:p∘f=q:=funext h;simp_all
theorem find_map'{α β:Type}{f:α->β}{p:β->Bool}{q:α->Bool}(l:List α)(h:∀x,p (f x)=q x):(l.map f).find? p=(l.find? q).map f:=by
 rw[List.find?_map];have e:p∘f=q:=funext h;rw[e]
theorem JY{α β H:Type}{f:α->β}{p:Nat->β->Option H}{q:Nat->α->Option H}:∀(l:List α)(i:Nat),(∀j x,p j (f x)=q j x)->Ao p i (l.map f)=Ao q i l
 |[],_,_=>rfl
 |x::l,i,h=>by
  unfold List.map Ao;rw[h,JY l (i+1) h]
theorem tyB_er(t:Ty):EC (tEr t)=EC t:=rfl
theorem prB_er(p:Pr):DK (pEr p)=DK p:=by
 unfold DK Hi;show(BR p.name&&Df p.params 6&&Df p.locals 12&&(decide (p.result=Ad [])||typB p.result)&&decide (CD 1 (CH p.body)=true/\Cv (CH p.body)<=200))=_;rw[Ln,Lo]
section
variable(d:Ds)
theorem valid_er(h:Bv d=true):Bv (AA d)=true:=by
 unfold Bv at h⊢;simp only[zC,decide_eq_true_eq]at h⊢;refine⟨⟨⟨⟨⟨⟨⟨h.1.1.1.1.1.1.1,?_⟩,h.1.1.1.1.1.2⟩,?_⟩,rfl⟩,?_⟩,?_⟩,rfl⟩
 ·have:=h.1.1.1.1.1.1.2;show((d.types.map tEr).length:Int)<=12;simp_all
 ·have:=h.1.1.1.1.2;show((d.procs.map pEr).length:Int)<=40;simp_all
 ·show(d.types.map tEr).all EC=true;grind[JX,tyB_er]
 ·show(d.procs.map pEr).all DK=true;rw[JX _ prB_er];exact h.1.2
theorem valid_re(h:Bv (AA d)=true)(h1:d.measures=[])(h2:d.invs=[])(h3:d.pots=[])(h4:d.bounds=[]):Bv d=true:=by
 unfold Bv at h⊢;simp only[zC,decide_eq_true_eq]at h⊢;refine⟨⟨⟨⟨⟨⟨⟨h.1.1.1.1.1.1.1,?_⟩,h.1.1.1.1.1.2⟩,?_⟩,?_⟩,?_⟩,?_⟩,?_⟩;·grind[AA,tEr]
 ·grind[AA,pEr]
 ·grind[lensB]
 ·have:=h.1.1.2;rw[show(AA d).types=d.types.map tEr from rfl,JX _ tyB_er]at this;exact this
 ·have:=h.1.2;rw[show(AA d).procs=d.procs.map pEr from rfl,JX _ prB_er]at this;exact this
 grind[Gd]
theorem Nj(s:KB):Cg (AA d) s=Cg d s:=Ni (f:=tEr) _ λ_=>rfl
theorem Nk(s:KB):Bt (AA d) s=Bt d s:=by unfold Bt;rw[Nj]
theorem fits_er(a b:KB):BL (AA d) a b=BL d a b:=by unfold BL;rw[Nj]
theorem tyOf_er(s:KB):Dq (AA d) s=(Dq d s).map tEr:=find_map' (f:=tEr) _ λ_=>rfl
theorem prOf_er(s:KB):Ch (AA d) s=(Ch d s).map pEr:=find_map' (f:=pEr) _ λ_=>rfl
theorem fieldT_er(t n:KB):DD (AA d) t n=DD d t n:=by
 unfold DD;rw[tyOf_er];cases Dq d t<;>rfl
theorem fitAll_er:∀(l:List KB)(fs:List Fld),DL (AA d) l fs=DL d l fs
 |a::l,f::fs=>by unfold DL;rw[fits_er,fitAll_er]
 |[],_=>by simp[DL]
 |_::_,[]=>by simp[DL]
theorem callT_er(n:KB)(l:List KB):En (AA d) n l=En d n l:=by
 unfold En;rw[prOf_er];cases Ch d n with
 |none=>rfl
 |some p=>
  show(if l.length≠p.params.length then _ else if DL (AA d) l p.params=true then _ else _)=_;rw[fitAll_er];rfl
theorem nodeT_er{sc:Sc}(H:sc.body=true)(op:Int)(s:KB)(l:List KB):ET (AA d) sc op s l=ET d sc op s l:=by
 unfold ET FN;rw[if_pos H,if_pos H];simp only[fieldT_er,Nj,callT_er,fits_er]
mutual
theorem exprT_er{sc:Sc}(H:sc.body=true):∀e:E,Aw (AA d) sc (Dz e)=Aw d sc e
 |.mk o n s _ k=>by unfold Dz Aw;rw[Lq H,nodeT_er d H]
theorem Lq{sc:Sc}(H:sc.body=true):∀(acc:List KB)(l:List E),partsT (AA d) sc acc (Cq l)=partsT d sc acc l
 |_,[]=>by rfl
 |acc,x::xs=>by unfold Cq partsT;rw[exprT_er H,Lq H]
end
theorem stmtT_er{sc:Sc}(H:sc.body=true)(r:KB)(op:Int)(s:KB)(es:List E):D9 (AA d) sc r op s (Cq es)=D9 d sc r op s es:=by
 unfold D9;rw[Lq d H];simp only[fits_er,fieldT_er];congr 1
 match es with
 |[]=>unfold Cq;rfl
 |.mk o n s _ k::es=>
  grind[Cq,Dz,E.k,E.s,Lq,callT_er]
mutual
theorem stT_er{sc:Sc}(H:sc.body=true)(r:KB):∀(n:Int)(e:S),stT (AA d) sc r n (DP e)=stT d sc r n e
 |n,.mk o s _ es _ ls _ xs=>by
  unfold DP stT;rw[stmtT_er d H,Lr H r (n+1) ls,Lr H r _ xs]
theorem Lr{sc:Sc}(H:sc.body=true)(r:KB):∀(n:Int)(l:List S),AF (AA d) sc r n (CH l)=AF d sc r n l
 |_,[]=>by rfl
 |n,x::xs=>by unfold CH AF;rw[stT_er H,Lr H]
end
theorem oneT_er(l:List Fld)(i:Nat)(f:Fld):BN (AA d) l i f=BN d l i f:=by unfold BN;rw[Nk]
theorem declT_er(l:List Fld):Cw (AA d) l=Cw d l:=by
 grind[Cw,oneT_er]
theorem types_er:Ge (AA d)=Ge d:=by
 unfold Ge;congr 1
 ·unfold types1;refine JY (f:=tEr) d.types 0 λj x=>?_;rw[show(AA d).types=d.types.map tEr from rfl,<-List.map_take,Ni (f:=tEr) (q:=λg=>decide (g.name=x.name)) _ λ_=>rfl];rfl
 congr 1;·grind[types2,JY,tEr,Cw,AA,Int,declT_er]
 ·unfold types3;simp only[oneT_er];rfl
theorem heads_er:E5 (AA d)=E5 d:=by
 unfold E5;refine JY (f:=pEr) d.procs 0 λj x=>?_;rw[show(AA d).procs=d.procs.map pEr from rfl,<-List.map_take,Ni (f:=pEr) (q:=λg=>decide (g.name=x.name)) _ λ_=>rfl,declT_er,Nk];rfl
theorem bodies_er:E6 (AA d)=E6 d:=by
 unfold E6;refine JY (f:=pEr) d.procs 0 λj x=>?_;show(if(AF (AA d) (Av d x) x.result 0 (CH x.body)).2≠0 then some (x.name,(AF (AA d) (Av d x) x.result 0 (CH x.body)).1,(AF (AA d) (Av d x) x.result 0 (CH x.body)).2)else none)=_;rw[Lr d rfl]
theorem HD{α:Type}{a b:Option α}:a.or b=none↔a=none/\b=none:=by cases a<;>simp
theorem chk_er(h:Ct d=none):Ct (AA d)=none:=by
 unfold Ct at h⊢;rw[HD,HD,HD,HD]at h;rw[types_er,heads_er,bodies_er,h.1,h.2.1,h.2.2.2.1];rfl
theorem chk_re(h:Ct (AA d)=none)(h1:d.measures=[])(h2:d.invs=[])(h3:d.pots=[])(h4:d.bounds=[]):Ct d=none:=by
 unfold Ct at h⊢;rw[HD,HD,HD,HD,types_er,heads_er,bodies_er]at h;rw[h.1,h.2.1,h.2.2.2.1];have H:DS d=none:=by unfold DS form1 form2 form3 form4;rw[h1,h2,h3,h4];rfl
 have e2:E7 d=none:=by unfold E7 exp1 exp2 exp3 exp4;rw[h1,h2,h3,h4];rfl
 rw[H,e2];rfl
theorem idxT_er(s:KB):Bw (AA d) s=Bw d s:=idx_map (f:=tEr) _ λ_=>rfl
theorem I8(t:Int):AL (AA d) t=AL d t:=by
 unfold AL;rw[show(AA d).types=d.types.map tEr from rfl,xI,Option.map_map];rfl
theorem right_er(m:Mm)(t:KB)(v:Int):AQ (AA d) m t v=AQ d m t v:=by unfold AQ;rw[idxT_er]
theorem values_er(m:Mm)(l:List Fld)(vs:List Int):Ax (AA d) m l vs=Ax d m l vs:=by unfold Ax;simp only[right_er]
theorem typed_er(l:List Fld):C1 (AA d) l=C1 d l:=by unfold C1;simp only[Nk]
theorem has_er:(C1 (AA d) (AA d).globals&&allI (λi t=>decide (Bw (AA d) t.name=(i:Int))&&C1 (AA d) t.fields) (AA d).types)=(C1 d d.globals&&allI (λi t=>decide (Bw d t.name=(i:Int))&&C1 d t.fields) d.types):=by
 simp only[idxT_er,typed_er];congr 1;unfold allI;rw[show(AA d).types=d.types.map tEr from rfl,List.zipIdx_map];exact JX _ λ_=>rfl
theorem mem_er{d':Ds}(H:AA d=AA d')(hv:Bv d'=true){m:Mm}(h:BY d m=true):BY d' m=true:=by
 have key:∀x:Ds,BY x m=(Bv x&&(C1 (AA x) (AA x).globals&&allI (λi t=>decide (Bw (AA x) t.name=(i:Int))&&C1 (AA x) t.fields) (AA x).types)&&(decide (m.nodes.length<=4096)&&m.nodes.all (λn=>decide (0<=n.ty/\n.ty<((AA x).types.length:Int)))&&Ax (AA x) m (AA x).globals m.globals&&m.nodes.all λn=>Ax (AA x) m (AL (AA x) n.ty) n.f)):=λx=>by
  rw[has_er];simp only[values_er,I8];rw[show(AA x).types=x.types.map tEr from rfl,wI];unfold BY Dh;simp only[Bool.and_assoc];rfl
 simp_all
end
structure EK (d d':Ds):Prop where
 er:AA d=AA d'
 h1:d'.measures=[]
 h2:d'.invs=[]
 h3:d'.pots=[]
 h4:d'.bounds=[]
theorem Ar.same{d d':Ds}{m:Mm}(G:Ar d m)(h:EK d d'):Ar d' m:=by
 have hv:=valid_re d' (h.er▸valid_er d G.valid) h.h1 h.h2 h.h3 h.h4;exact⟨hv,chk_re d' (h.er▸chk_er d G.chk) h.h1 h.h2 h.h3 h.h4,mem_er d h.er hv G.mem⟩
section
variable(d:Ds)
theorem Ls(s:KB):AV (AA d) s=AV d s:=idx_map (f:=pEr) _ λ_=>rfl
theorem cllE_er(m:Mm)(nm:KB)(l:List Int):Be (AA d) m nm l=Be d m nm l:=by
 unfold Be;rw[Ls,show(AA d).procs=d.procs.map pEr from rfl,xI];cases d.procs[(AV d nm).toNat]? with
 |none=>rfl
 |some p=>
  show(if AV d nm<0 then _ else if l.length=p.params.length then(if Ax (AA d) m p.params l=true then _ else _)else _)=_;rw[values_er]
theorem fldX_er(a:Int)(s:KB)(st:St):fldX (AA d) a s st=fldX d a s st:=by unfold fldX;simp only[I8]
theorem newX_er(s:KB)(st:St):newX (AA d) s st=newX d s st:=by unfold newX;simp only[I8,idxT_er]
theorem putX_er(a v:Int)(s:KB)(st:St):putX (AA d) a v s st=putX d a v s st:=by unfold putX;simp only[I8]
theorem intB_er{sc:Sc}(H:sc.body=true):∀l:List E,intB (AA d) sc (Cq l)=intB d sc l
 |[]=>by unfold Cq;rfl
 |x::xs=>by
  unfold Cq;show decide ((Aw (AA d) sc (Dz x)).1=Am)=decide ((Aw d sc x).1=Am);rw[exprT_er d H]
theorem combX_er(C:Cf)(p:Pr)(vals:List Int)(b:Bool)(op n:Int)(s:KB)(ks:List (St->Rx Int))(st:St):Dc (AA d) C (pEr p) vals b op n s ks st=Dc d C p vals b op n s ks st:=by
 unfold Dc;simp only[fldX_er,newX_er,Ls];rfl
mutual
theorem evX_er(C:Cf)(p:Pr)(vals:List Int):∀e:E,Dd (AA d) C (pEr p) vals (Dz e)=Dd d C p vals e
 |.mk o n s _ k=>by
  unfold Dz Dd;funext st;rw[combX_er,evXs_er C p vals k];show Dc d C p vals (intB (AA d) (Av d p) (Cq k)) o n s _ st=_;rw[intB_er d rfl]
theorem evXs_er(C:Cf)(p:Pr)(vals:List Int):∀l:List E,evXs (AA d) C (pEr p) vals (Cq l)=evXs d C p vals l
 |[]=>by rfl
 |x::xs=>by unfold Cq evXs;rw[evX_er C p vals x,evXs_er C p vals xs]
end
theorem evX_er'(C:Cf)(p:Pr)(vals:List Int)(e:E)(st:St):Dd (AA d) C (pEr p) vals (Dz e) st=Dd d C p vals e st:=congrFun (evX_er d C p vals e) st
theorem getD_er(l:List E)(i:Nat):(Cq l).getD i GU=Dz (l.getD i GU):=by
 rw[Gt,uN,uN,xI];grind[GU,Dz,Cq]
section
variable{Sn Sn':Sf}(hS:∀c p l vals st,Sn' c (pEr p) (CH l) vals st=Sn c p l vals st)
include hS
theorem callX_er(c:Nat):CF (AA d) Sn' c=CF d Sn c:=by
 funext i l st;unfold CF;rw[show(AA d).procs=d.procs.map pEr from rfl,xI];cases d.procs[i.toNat]? with
 |none=>rfl
 |some p=>
  show(if 200<=c then _ else(Sn' (c+1) (pEr p) (CH p.body) _ st).bind _)=_;rw[hS];rfl
theorem evS_er(c:Nat)(p:Pr)(vals:List Int)(e:E)(st:St):CU (AA d) Sn' c (pEr p) vals (Dz e) st=CU d Sn c p vals e st:=by
 unfold CU;rw[callX_er d hS,evX_er']
theorem whX_er(F c:Nat)(p:Pr)(e:E)(b:List S):∀(n:Nat)(vals:List Int)(st:St),Es (AA d) F Sn' c (pEr p) (Dz e) (CH b) n vals st=Es d F Sn c p e b n vals st
 |0,_,_=>rfl
 |n+1,vals,st=>by
  unfold Es;simp only[evS_er d hS,hS,whX_er F c p e b n]
theorem bodyX_er(F c:Nat)(p:Pr)(n:Nat)(s:S)(vals:List Int)(st:St):E9 (AA d) F Sn' c (pEr p) n (DP s) vals st=E9 d F Sn c p n s vals st:=by
 match s with
 |.mk o s _ es _ ls _ xs=>
  unfold DP E9;simp only[S.op,S.s,S.es,S.ls,S.xs,getD_er,evS_er d hS,hS,whX_er d hS,putX_er];cases es<;>simp only[Cq,evS_er d hS]<;>rfl
end
theorem stX_er{Sn Sn':Sf}(hS:∀c p l vals st,Sn' c (pEr p) (CH l) vals st=Sn c p l vals st)(F c:Nat)(p:Pr)(n:Nat)(s:S)(vals:List Int)(st:St):DO (AA d) F Sn' c (pEr p) n (DP s) vals st=DO d F Sn c p n s vals st:=by
 grind[DO,bodyX_er]
theorem listX_er{f f':S->List Int->St->Rx Rt}(h:∀s vals st,f' (DP s) vals st=f s vals st):∀(l:List S)(vals:List Int)(st:St),Ea f' (CH l) vals st=Ea f l vals st
 |[],_,_=>by rfl
 |s::l,vals,st=>by
  unfold CH Ea;rw[h];simp only[listX_er h l]
theorem stsX_er(F:Nat):∀(n c:Nat)(p:Pr)(l:List S)(vals:List Int)(st:St),AW (AA d) F n c (pEr p) (CH l) vals st=AW d F n c p l vals st
 |0,_,_,_,_,_=>rfl
 |n+1,c,p,l,vals,st=>listX_er (λs vals st=>stX_er d (stsX_er F n) F c p (n+1) s vals st) l vals st
theorem playX_er(F:Nat)(i:Int)(l:List Int)(st:St):Dw (AA d) F i l st=Dw d F i l st:=by
 simp_all[Dw,callX_er,stsX_er]
end
section
variable{d d':Ds}(h:EK d d')
include h
theorem EK.play(F:Nat)(i:Int)(l:List Int)(st:St):Dw d' F i l st=Dw d F i l st:=by rw[<-playX_er d,h.er,playX_er]
theorem EK.cll(m:Mm)(nm:KB)(l:List Int):Be d' m nm l=Be d m nm l:=by rw[<-cllE_er d,h.er,cllE_er]
theorem EK.idx(s:KB):AV d' s=AV d s:=by rw[<-Ls d,h.er,Ls]
theorem EK.fields(t:Int):AL d' t=AL d t:=by rw[<-I8 d,h.er,I8]
end
end Go.Proofs
namespace Go.Proofs
open Go Go.Sx
attribute [local irreducible] Go.Sx.Tri
def BM(d:Ds)(s:Sl):Mm:=⟨s,yT d.globals.length 0,Af,[]⟩
theorem new_valid{d:Ds}{s:Sl}(h:Dh d=true):BY d (BM d s)=true:=by
 grind[Ax,BM,Ci,yj,AQ,BY]
theorem Ar.plain{d:Ds}{x y:Mm}(G:Ar d x)(h:x.plain=y.plain):Ar d y:=⟨G.valid,G.chk,M9 h G.mem⟩
section
variable{V:Mem}{d:Ds}
theorem given_plain{m m':Mm}(h:m.plain=m'.plain){F:Int}:C2 d m F=C2 d m' F:=by
 have:Ar d m↔Ar d m':=⟨λG=>G.plain h,λG=>G.plain h.symm⟩;grind[C2]
theorem Ry[Tab V](H:Ds.Ok V d):Tri xS 51 #[d.v] V λe V'=>V.sub V'/\((Dh d=false/\e=.returned (.tuple #[.agg #[Af.v,Af.v],.int .i64 1]))∨(Dh d=true/\∃s:Sl,e=.returned (.tuple #[.agg #[s.v,Af.v],.int .i64 0])/\Mm.Ok V' (BM d s))):=by
 refine Qj ?_;have G:=H.globals.n_eq;have P:=H.globals.cap;have A:=H.globals.fit;refine Tri.mono (OU H) ?_;rintro _ V1 ⟨I,rfl,Z,⟨J,b,rfl,-⟩|⟨J,rfl⟩⟩
 ·have N:=(JW (O3 J)).1;refine⟨_,rfl,λh=>absurd h (by intro h;cases h),λ_=>mk35 (n:=d.gs.n) rfl rfl (by omega) λg N=>⟨⟨some ⟨g,0,none⟩,d.gs.n,d.gs.n⟩,rfl,Z.trans (Mem.sub_new N _),.inr ⟨J,_,rfl,?_⟩⟩⟩;have o:=JK N (n:=d.gs.n) (by omega);rw[G]at o⊢;exact⟨o.rows (λ_=>rfl) (by decide),λx Y=>by rw[(uO.1 Y).2];unfold Ep;decide,Ab.nil,λn G=>by cases G⟩
 ·exact⟨_,rfl,λ_=>⟨Z,.inl ⟨by simpa using J,rfl⟩⟩,λh=>absurd rfl h⟩
theorem O8(G:Ds.Ok V d)(N:d.globals.length<=8):Tri xS 60 #[d.v] V λe V'=>V.sub V'/\∃s:Sl,e=.returned (.agg #[s.v,Af.v])/\Mm.Ok V' (BM d s):=by
 refine Qq ?_;have H:=G.globals.n_eq;refine mk35 (n:=d.gs.n) rfl rfl (by omega) λg J=>⟨⟨some ⟨g,0,none⟩,d.gs.n,d.gs.n⟩,rfl,Mem.sub_new J _,_,rfl,?_⟩;have o:=JK J (n:=d.gs.n) (by omega);rw[H]at o⊢;exact⟨o.rows (λ_=>rfl) (by decide),λx Z=>by rw[(uO.1 Z).2];unfold Ep;decide,Ab.nil,λn H=>by cases H⟩
end
theorem oneG{α:Type}{t e sz:Nat}{row:α->List Value}(A:AppP t e sz row){V0 V:Mem}{b:Nat}{s:Sl}{xs:List α}{x:α}(o:Sx.Own V0 V e sz s (xs.flatMap row))(H:V b=none)(J:xs.length+1<=2147483648){ty:Nat}{y z:Operand}{vals:Operand->Value}(G:vals y=.slice s.p s.n s.c)(N:vals z=.slice (sa b) 1 1)(Z:∀x,(row x).length=sz){Q:Value->Mem->Prop}(Y:∀s' V',Sx.Own V0 V' e sz s' ((xs++[x]).flatMap row)->Q (.slice s'.p s'.n s'.c) V'):
  GenK xS (.call {callee:=.builtin .append,args:=#[y,z],argTypes:=#[t,t]}) ty vals (V.set b (.cells (row x).toArray e (0,0))) Q:=
 A (s:=s) (u:=⟨some ⟨b,0,none⟩,1,1⟩) (xs:=xs) (ys:=[x]) G N (o.new H _) (Ab.cells (xs:=[x]) (row:=row) Au (by simp) Z (by simp) (by simp)) (by simpa using J) Y
theorem pushG{W V V1:Mem}{e sz:Nat}{s s':Sl}{xs ys:List Value}(o:Sx.Own W V e sz s xs)(h:Sx.Own (V.but s) V1 e sz s' ys):Sx.Own W V1 e sz s' ys/\(∀c,¬AP s c->V c≠none->V1 c=V c)/\∀c,AP s' c->AP s c∨V c=none:=by
 refine⟨h.narrow o.sub_but,λc H hv=>?_,λc H=>?_⟩
 ·cases e:V c with
  |none=>grind
  |some x=>exact h.sub _ _ (Mem.but_at e H)
 ·have G:=Own.none0 h H;by_cases J:AP s c;·exact .inl J
  ·right;cases hv:V c with
   |none=>rfl
   |some o=>grind[Mem.but_at]
theorem g143:IdxP 143 Ah (wP .i64) 1:=by
 intro V l xs g first N X St B H C E
 refine x143 (a:=l) (b:=.func (.func g) first.toArray N.toArray) ?_;refine AE xs.length St C ?_;intro i b V1 J hi I K;have h:=H i V1 I;refine⟨λG=>?_,λY=>?_⟩
 ·obtain⟨x,hm,S,hd,T,P,U,Z⟩:=h.get G;refine⟨P,U,G,_,Z,g,_,_,rfl,X,Tri.mono (E i x V1 S I) ?_⟩;rintro e V2 ⟨b,rfl,h1,h2⟩;exact⟨b,rfl,λA=>.inl ⟨i,rfl,h1 A⟩,λA=>⟨h.succ G,K T _ _ (h2 (by simpa using A))⟩⟩
 ·have e:i=xs.length:=by have:=(h.done Y).2;omega
  simp_all
theorem g106:ConP 106 Ah (wP .i64) 1:=conG g143 x106
theorem c106:ConC 106 Ah (wP .i64) 1:=conC g106
def G4(b:Bool):List Value:=[.bool b]
theorem I9(l:List Bool):l.flatMap G4=l.map uQ:=by
 induction l with
 |nil=>rfl
 |cons a l H=>rw[List.flatMap_cons,H];rfl
theorem flat_setB(l:List Bool)(i:Nat)(x:Bool):(l.flatMap G4).set i (.bool x)=(l.set i x).flatMap G4:=by rw[I9,I9,List.map_set]
theorem flat_lenB(l:List Bool):(l.flatMap G4).length=l.length:=by rw[I9,wI]
theorem bool_at{V:Mem}{s:Sl}{xs:List Bool}(h:Ab V s 1 (xs.map G4)){i:Nat}{x:Bool}(H:xs[i]?=some x):¬s.p=none/\(0:Int)<=(i:Int)/\(i:Int)<(s.n:Int)/\V.rowp s.p (i*1) 1=some [.bool x]:=by
 have G:=h.n_eq;have N:=(yj.1 H).1;obtain⟨y,-,J,-,-,h1,h2,h3⟩:=h.get (i:=i) (by omega);rw[H]at J;cases J;exact⟨h1,h2,by omega,h3⟩
section
variable{V:Mem}
theorem madeB(n:Nat):(madeCells (uQ false).cells n).toList=(yT n false).map uQ:=by
 have H:(uQ false).cells=#[uQ false]:=by rfl
 rw[H,List.map_replicate];unfold madeCells;refine wR λj=>?_;grind
theorem own_madeB{g n:Nat}(H:V g=none)(J:n<=2147483648):Sx.Own V (V.set g (.cells (madeCells (uQ false).cells (n*1)) 4 (0,0))) 4 1 ⟨some ⟨g,0,none⟩,n,n⟩ ((yT n false).flatMap G4):=by
 have e:(madeCells (uQ false).cells (n*1)).toList=(yT n false).flatMap G4:=by rw[uR,madeB,I9]
 refine⟨Mem.sub_new H _,by rw[I9];simp,.inr ⟨g,_,rfl,H,Mem.set_same _ _ _,yq _,by simp only[maxLen];omega,by rw[size_madeCells],?_⟩⟩;grind[xc,I9]
theorem mk290{ty:Nat}{x y:Operand}{vals:Operand->Value}{n:Nat}(H:vals x=.int .i64 n)(J:vals y=.int .i64 n)(G:n<=2147483648){q:Value->Mem->Prop}(N:∀g,V g=none->q (.slice (sa g) n n) (V.set g (.cells (madeCells (uQ false).cells (n*1)) 4 (0,0)))):GenK xS (.makeSlice 290 x y) ty vals V q:=
 GenK.make (z:=.bool false) (i:=ti 4) Tryz.underlying290 (by kernel_rfl) (by kernel_rfl) (by kernel_rfl) (of_decide_eq_true (by kernel_rfl)) H J G N
theorem O9{s:Sl}{l:List Int}(h:Ab V s 1 (l.map Ah)){x:Int}:PP 49 [s.v,.int .i64 x] V (.int .i64 (BH (λy=>decide (x=y)) l)):=by
 refine Qh ?_;refine AE (mk:=.int .i64) (b0:=0) l.length (λj V1=>V=V1/\A0 (λy:Int=>!decide (x=y)) l j) ⟨rfl,A0.zero _ _⟩ ?_;rintro j b V1 J E ⟨rfl,Y⟩ A;refine⟨λH=>?_,λN=>?_⟩
 ·obtain⟨y,I,X,-,Z,B,C,G⟩:=h.get H;refine⟨B,C,H,_,G,λP=>?_,λP=>⟨h.succ H,A Z _ _ ⟨rfl,Hn Y X (decide_eq_false P)⟩⟩⟩;grind[Hl,decide_eq_true]
 ·rw[Hm Y (h.done N).2];simp_all
end
end Go.Proofs
namespace Go.Proofs
open Go Go.Sx
def AY(x:List Int×List (Int×List Int)):Mm:=⟨Af,x.1,Af,x.2.map λn=>⟨n.1,Af,n.2⟩⟩
theorem Ja(x:List Int×List (Int×List Int)):(AY x).plain=x:=by
 unfold Mm.plain AY;simp[Function.comp_def]
def fromM(m:Mm):Mm:=⟨Af,match m.globals with|[]=>[]|g::l=>g::yT l.length 0,m.ns,m.nodes⟩
def shiftL(l:List Fld)(vs:List Int)(n:Nat):List Int:=(l.zip vs).map λx=>if AG x.1.ty=true∨x.2=0 then x.2 else x.2+n
def partP(d:Ds)(y:Mm):List Int×List (Int×List Int):=C3 d (fromM y)
def uniP(d:Ds)(x y:Mm):List Int×List (Int×List Int):=(x.globals,(x.nodes.map λn=>(n.ty,n.f))++(partP d y).2.map λn=>(n.1,shiftL (AL d n.1) n.2 x.nodes.length))
def uniR(d:Ds)(x y:Mm):Int:=if(partP d y).1.headD 0=0 then 0 else x.nodes.length+(partP d y).1.headD 0
section
variable{d:Ds}{m x y:Mm}
theorem Nl:IsCan d m (AY (C3 d m)) (AX d m).order:=by
 refine⟨rfl,?_,λi n z H J=>⟨Af,?_⟩⟩;·simp[AY,C3]
 simp_all[AY,C3,xI,zL]
end
end Go.Proofs
namespace Go.Proofs
open Go Go.Sx
def entB(p:Pr):Bool:=p.params.all (λf=>AG f.ty)&&(decide (p.result=sE)||AG p.result)
def mldB(d:Ds)(p:Pr):Bool:=match p.params,d.globals with
 |[f],g::_=>decide (f.ty=g.ty)&&!AG f.ty&&(decide (p.result=sE)||AG p.result)
 |_,_=>false
structure PV where
 m:List Int×List (Int×List Int)
 par:List Int
 paths:Int
def JZ:PV:=⟨([],[]),[],0⟩
def memS(vs:List PV)(v:Int):Mm:=AY (vs.getD v.toNat JZ).m
def DA(d:Ds)(nm:KB):Pr:=(d.procs[(AV d nm).toNat]?).getD noPr
def EL(vs:List PV)(v:Int):Prop:=0<=v/\v<(vs.length:Int)
instance (vs:List PV) (v:Int):Decidable (EL vs v):=by unfold EL;infer_instance
def CR(d:Ds)(F:Int)(vs:List PV)(v:Int)(nm:KB)(args:List Int):Int:=
 if F<0∨1048576<F then 2 else if EL vs v then(if AV d nm<0 then 9 else if entB (DA d nm)=true then Be d (memS vs v) nm args else 30)else 24
def Pa(d:Ds)(F:Int)(vs:List PV)(a b:Int)(nm:KB):Int:=
 if F<0∨1048576<F then 2 else if EL vs a/\EL vs b then(if AV d nm<0 then 9 else if mldB d (DA d nm)=true then(if 4096<(uniP d (memS vs a) (memS vs b)).2.length then 4 else 0)else 30)else 24
structure Sp where
 meld:Bool
 a:Int
 b:Int
 nm:KB
 sl:Sl
 args:List Int
def Nm(d:Ds)(F:Int)(vs:List PV)(x:Sp):Int:=if x.meld=true then Pa d F vs x.a x.b x.nm else CR d F vs x.a x.nm x.args
theorem isV_mem{vs:List PV}{v:Int}(h:EL vs v):∃x,vs[v.toNat]?=some x/\x∈vs/\vs.getD v.toNat JZ=x:=by
 have H:v.toNat<vs.length:=by have:=h.1;have:=h.2;omega
 simp_all
section
variable{d:Ds}{vs:List PV}{v a b:Int}{x:Sp}{F:Nat}{nm:KB}{args:List Int}
theorem vPr_at(h:¬AV d nm<0):∃i:Nat,AV d nm=(i:Int)/\d.procs[i]?=some (DA d nm):=by
 grind[Cu,Pr,absurd,AV,Int,DA,xa]
theorem vc_zero(h:CR d F vs v nm args=0):EL vs v/\¬AV d nm<0/\entB (DA d nm)=true/\Be d (memS vs v) nm args=0:=by
 grind[CR]
end
end Go.Proofs
namespace Go.Proofs
open Go Go.Sx
attribute [local irreducible] Go.Sx.Tri
section
variable{V:Mem}{d:Ds}
theorem c102{t:KB}:PP 102 [.string t] V (.bool (AG t)):=by
 refine x102 ?_;have H:Ad [105,110,116]=Am:=rfl;have e2:Ad [98,111,111,108]=AC:=rfl;rw[H,e2];unfold AG;refine⟨λh=>?_,λh=>?_⟩;·simp_all
 simp_all
theorem Rz{p:Pr}(h:Pr.Ok V p):PP 72 [p.v] V (.bool (entB p)):=by
 refine QA ?_;have Z:=h.params;refine AE (mk:=.bool) (b0:=false) p.params.length (λi V1=>V1=V/\∀j f,j<i->p.params[j]?=some f->AG f.ty=true) ⟨rfl,λj f A=>absurd A (xq _)⟩ ?_;rintro i b V1 J S ⟨rfl,I⟩ X;refine⟨λH=>?_,λY=>?_⟩
 ·obtain⟨f,B,C,-,P,G,E,N⟩:=Z.get H;refine⟨G,E,H,Al G,_,_,N,c102.call ⟨_,rfl,λc=>⟨Z.succ H,X P _ _ ⟨rfl,λj g A T=>?_⟩⟩,λc=>?_⟩⟩;·grind
  ·have:entB p=false:=by
    grind[entB]
   simp_all
 ·have U:=(Z.done Y).2;have K:p.params.all (λf=>AG f.ty)=true:=List.all_eq_true.2 λf C=>by
   grind[wG,Nat.lt_of_lt_of_le,yj]
  unfold entB;rw[K,Bool.true_and];refine⟨λh=>?_,λh=>c102.call ⟨_,rfl,?_⟩⟩
  ·have h:p.result=sE:=h;rw[decide_eq_true h];exact⟨rfl,rfl⟩
  ·have h:¬p.result=sE:=h;rw[decide_eq_false h];exact⟨rfl,rfl⟩
theorem Pb(H:Ds.Ok V d):PP 34 [d.v] V (.bool (decide (C2 d (BM d Af) 0=0))):=by
 refine Bn.mk (P9 ?_);refine(OJ H).call ⟨_,rfl,λJ=>?_,λJ=>?_⟩
 ·refine Tri.mono (O8 H (JW (O3 J)).1) ?_;rintro _ V2 ⟨N,Z,rfl,G⟩;refine⟨_,_,rfl,(Rq (H.sub N) G).call ⟨_,rfl,?_⟩⟩;rw[given_plain (m:=BM d Z) (m':=BM d Af) rfl];grind
 ·rw[decide_eq_false λh=>J (BO (OZ h).mem).1];exact⟨rfl,Mem.sub.refl _⟩
end
def QL(e sz:Nat)(Q:Mem->Mem->Prop)(o:Sl)(vs:List Value):Mem->Mem->Prop:=λW V=>∃W1,Sx.Own W W1 e sz o vs/\Q W1 V
def BV(Q:Mem->Mem->Prop):Prop:=Framed Q/\∀W V,Q W V->W.sub V
section
variable{Q:Mem->Mem->Prop}{D V V' W:Mem}{o:Sl}{e sz:Nat}{vs:List Value}
theorem QL.over(h:BV Q):BV (QL e sz Q o vs):=by
 obtain⟨Y,hS⟩:=h;refine⟨λW V ⟨W1,J,N⟩=>?_,λW V ⟨W1,J,N⟩=>J.sub.trans (hS _ _ N)⟩;obtain⟨M,I,Z⟩:=Y W1 V N;have h1:=hS _ _ N;have X:∀b,AP o b->∃x,W1 b=some x/\V b=some x/\¬M b:=λb H=>by
  obtain⟨x,G⟩:=Own.some J H;exact⟨_,G,h1 _ _ G,λhm=>by simp_all⟩
 refine⟨λb=>M b∨AP o b,λb H=>?_,λb H=>?_,λV' P=>?_⟩
 ·rcases H with H|H
  ·cases e:W b with
   |none=>rfl
   |some x=>
    have:=J.sub _ _ e;simp_all
  ·exact Own.none0 J H
 ·rcases H with H|H;·exact Z.1 b H
  grind
 ·refine⟨Mem.minus V' M,FT J (λc x B=>?_) (λg x A C G=>⟨DV (.inr A),?_⟩),Z.2 V' λb x H G=>P b x (.inl H) G⟩;·grind[DV,AP,inr,Cy]
  grind[Cy,inr]
theorem Bi.mk(h:BV Q)(S:Q W V)(H:D.sub W):Bi D V Q:=Bi.new h.1 S (h.2 _ _ S) H
theorem QL.pub{α:Type}{row:α->List Value}{xs:List α}(G:BV Q)(N:∀x,(row x).length=sz)(Z:0<sz)(h:Bi D V (QL e sz Q o (xs.flatMap row))):∃H,D.sub H/\Ab H o sz (xs.map row)/\Bi H V Q:=by
 obtain⟨W,Y,A,W1,J,P⟩:=h.use;exact⟨W1,Y.trans J.sub,J.rows N Z,Bi.mk G P (Mem.sub.refl _)⟩
theorem pushW{α:Type}{t:Nat}{row:α->List Value}{xs:List α}{x:α}(A:AppP t e sz row)(S:∀x,(row x).length=sz)(Y:BV Q)(h:QL e sz Q o (xs.flatMap row) W V){b:Nat}(P:V b=none)(T:xs.length+1<=2147483648){ty:Nat}{y z:Operand}{vals:Operand->Value}(I:vals y=.slice o.p o.n o.c)(U:vals z=.slice (sa b) 1 1){c:Array Value}(H:c=(row x).toArray){K:Value->Mem->Prop}(hK:∀J V',QL e sz Q J ((xs++[x]).flatMap row) W V'->K (.slice J.p J.n J.c) V'):
  GenK xS (.call {callee:=.builtin .append,args:=#[y,z],argTypes:=#[t,t]}) ty vals (V.set b (.cells c e (0,0))) K:=by
 subst H;obtain⟨W1,X,B⟩:=h;have h1:=Y.2 _ _ B;have G:=Own.growS X h1;refine oneG A G.but P T I U S λJ V' N=>hK J V' ?_;obtain⟨C,g2,g3⟩:=pushG G N;obtain⟨M,hM,E⟩:=Y.1 W1 V B;have hB:∀c,M c->V c≠none/\¬AP o c:=λc H=>⟨E.1 c H,λP=>by
  grind[Own.some]⟩
 have Z:W.sub (Mem.minus V' M):=λc x H=>by
  have:¬M c:=λhm=>by
   have:=X.sub _ _ H;simp_all
  rw[Cy this];exact C.sub _ _ H
 exact⟨Mem.minus V' M,FT C Z (λg x hg h0 I=>⟨h0,by
  grind[Cy]⟩),E.2 V' λc x hm H=>by simp_all⟩
theorem pushL{α:Type}{t:Nat}{row:α->List Value}{xs:List α}{x:α}(A:AppP t e sz row)(G:∀x,(row x).length=sz)(J:BV Q)(h:Bi D V (QL e sz Q o (xs.flatMap row))){b:Nat}(N:V b=none)(Z:xs.length+1<=2147483648){ty:Nat}{y z:Operand}{vals:Operand->Value}(Y:vals y=.slice o.p o.n o.c)(P:vals z=.slice (sa b) 1 1){c:Array Value}(I:c=(row x).toArray){K:Value->Mem->Prop}(hK:∀H V',Bi D V' (QL e sz Q H ((xs++[x]).flatMap row))->K (.slice H.p H.n H.c) V'):
  GenK xS (.call {callee:=.builtin .append,args:=#[y,z],argTypes:=#[t,t]}) ty vals (V.set b (.cells c e (0,0))) K:=by
 obtain⟨W,X,-,q⟩:=h.use;exact pushW A G J q N Z Y P I λH V' B=>hK H V' (Bi.mk (QL.over J) B X)
end
section
variable{Q Q':Mem->Mem->Prop}{D V V' W:Mem}{o o2:Sl}{e sz e2 sz2:Nat}{vs vs2:List Value}
theorem QL.map(h:QL e sz Q o vs W V)(J:∀W1,W.sub W1->Q W1 V->Q' W1 V'):QL e sz Q' o vs W V':=by
 obtain⟨W1,H,h⟩:=h;exact⟨W1,H,J W1 H.sub h⟩
theorem QL.swap(h:QL e sz (QL e2 sz2 Q o2 vs2) o vs W V):QL e2 sz2 (QL e sz Q o vs) o2 vs2 W V:=by
 obtain⟨W1,J,G,H,P⟩:=h;refine⟨Mem.minus G (AP o),FT H (λc x A=>?_) (λg x N Z Y=>⟨Cz J.sub Z,?_⟩),G,FT J Ft (λg x N Z Y=>⟨DV N,H.sub _ _ Y⟩),P⟩
 ·rw[Cy λI=>by grind[Own.none0]];exact H.sub _ _ (J.sub _ _ A)
 grind[Cy,Own.some]
theorem QL.own(H:BV Q)(h:QL e sz Q o vs W V):Sx.Own W V e sz o vs:=by
 obtain⟨W1,J,G⟩:=h;exact Own.growS J (H.2 _ _ G)
theorem QL.rows{α:Type}{row:α->List Value}{xs:List α}(H:BV Q)(J:∀x,(row x).length=sz)(G:0<sz)(h:QL e sz Q o (xs.flatMap row) W V):Ab V o sz (xs.map row):=(h.own H).rows J G
theorem QL.store(Z:BV Q)(h:QL e sz Q o vs W V){i:Nat}(hi:i<vs.length){v:Value}{q:Mem->Prop}(P:∀V',QL e sz Q o (vs.set i v) W V'->(∀c,¬AP o c->V' c=V c)->q V'):Ak (Aa o.p i) 0 [v] V q:=by
 obtain⟨W1,Y,H⟩:=h;have h1:=Z.2 _ _ H;obtain⟨M,B,A⟩:=Z.1 W1 V H;refine Own.store (Own.growS Y h1) hi λV' J I=>P V' ?_ I;have C:∀c,M c->¬AP o c:=λc G E=>by
  grind[Own.some]
 have N:W.sub (Mem.minus V' M):=λc x G=>by
  have:¬M c:=λhm=>by
   have:=Y.sub _ _ G;simp_all
  rw[Cy this];exact J.sub _ _ G
 exact⟨Mem.minus V' M,FT J N (λg x K X S=>⟨X,by grind[Cy]⟩),A.2 V' λc x hm G=>by simp_all⟩
theorem QL.below(J:BV Q)(h:QL e sz Q o vs W V):∃W1,W.sub W1/\W1.sub V/\Q W1 V:=by
 obtain⟨W1,G,H⟩:=h;exact⟨W1,G.sub,J.2 _ _ H,H⟩
theorem QL.put(G:BV Q)(h:Q W V){V1:Mem}(H:Sx.Own V V1 e sz o vs):QL e sz Q o vs W V1:=by
 obtain⟨M,A,N⟩:=G.1 W V h;have h1:=G.2 _ _ h;have Y:∀g,AP o g->¬M g:=λg Z hm=>N.1 g hm (Own.none0 H Z);refine⟨Mem.minus V1 M,FT H (λc x J=>?_) (λg x Z P I=>⟨Cz h1 P,by grind[Cy]⟩),N.2 V1 λc x hm J=>H.sub _ _ J⟩;rw[Cy λhm=>by simp_all];exact H.sub _ _ (h1 _ _ J)
end
def QF{α:Type}(e sz:Nat)(sl:α->Sl)(vs:α->List Value):List α->(Mem->Mem->Prop)->Mem->Mem->Prop
 |[],Q=>Q
 |a::l,Q=>QL e sz (QF e sz sl vs l Q) (sl a) (vs a)
section
variable{α:Type}{e sz:Nat}{sl:α->Sl}{vs:α->List Value}{Q Q':Mem->Mem->Prop}{W V V':Mem}
theorem QF.over(h:BV Q):∀l:List α,BV (QF e sz sl vs l Q)
 |[]=>h
 |_::l=>QL.over (QF.over h l)
theorem QF.map:∀(l:List α){W:Mem},QF e sz sl vs l Q W V->(∀W1,W.sub W1->Q W1 V->Q' W1 V')->QF e sz sl vs l Q' W V'
 |[],W,h,H=>H W (Mem.sub.refl _) h
 |_::l,_,h,H=>QL.map h λW1 s h1=>QF.map l h1 λJ G h2=>H J (s.trans G) h2
theorem QF.pick:∀(l:List α){i:Nat}{a:α}{W:Mem},l[i]?=some a->QF e sz sl vs l Q W V->QL e sz (QF e sz sl vs (l.eraseIdx i) Q) (sl a) (vs a) W V
 |[],_,_,_,h,_=>by cases h
 |b::l,0,a,W,h,H=>by
  cases h;exact H
 |b::l,i+1,a,W,h,H=>by
  obtain⟨W1,J,h1⟩:=H;exact QL.swap ⟨W1,J,QF.pick l (by simpa using h) h1⟩
theorem QF.back:∀(l:List α){i:Nat}{a:α}{W:Mem},i<l.length->QL e sz (QF e sz sl vs (l.eraseIdx i) Q) (sl a) (vs a) W V->QF e sz sl vs (l.set i a) Q W V
 |[],_,_,_,h,_=>by cases h
 |b::l,0,a,W,_,H=>H
 |b::l,i+1,a,W,h,H=>by
  obtain⟨W1,J,h1⟩:=QL.swap H;exact⟨W1,J,QF.back l (by simpa using h) h1⟩
theorem QF.snoc:∀(l:List α){a:α}{W:Mem},QL e sz (QF e sz sl vs l Q) (sl a) (vs a) W V->QF e sz sl vs (l++[a]) Q W V
 |[],_,_,h=>h
 |b::l,a,W,h=>by
  obtain⟨W1,H,h1⟩:=QL.swap h;exact⟨W1,H,QF.snoc l h1⟩
theorem QF.own(H:BV Q){l:List α}{i:Nat}{a:α}(h:l[i]?=some a)(J:QF e sz sl vs l Q W V):Sx.Own W V e sz (sl a) (vs a):=
 (QF.pick l h J).own (QF.over H _)
theorem QF.below(H:BV Q):∀(l:List α){W:Mem},QF e sz sl vs l Q W V->∃W1,W.sub W1/\W1.sub V/\Q W1 V
 |[],W,h=>⟨W,Mem.sub.refl _,H.2 _ _ h,h⟩
 |_::l,_,h=>by
  obtain⟨W1,J,h1⟩:=h;obtain⟨G,N,Z,q⟩:=QF.below H l h1;exact⟨G,J.sub.trans N,Z,q⟩
end
section
variable{V W:Mem}{p:Nat}{d:Ds}{L:Sl}{k F:Int}
theorem one_at{b:Nat}(x:Int):Ab (V.set b (.cells #[.int .i64 x] 3 (0,0))) ⟨some ⟨b,0,none⟩,1,1⟩ 1 ([x].map Ah):=IU Au
end
abbrev Tv:=Int×Int×Int
def Fb(x:Tv):List Value:=[.int .i64 x.1,.int .i64 x.2.1,.int .i64 x.2.2]
structure C4 (tr:List Tv):Prop where
 z:∃d j l,tr=(-1,d,j)::l
 par:∀(i:Nat) x,tr[i]?=some x->x.1<(i:Int)/\(0<i->0<=x.1)/\-1<=x.1
 dep:∀(i:Nat) x,tr[i]?=some x->0<=x.2.1/\x.2.1<=(i:Int)
 jmp:∀(i:Nat) x,tr[i]?=some x->0<=x.2.2/\x.2.2<=(i:Int)
def parV(tr:List Tv)(n:Int):Int:=(tr.getD n.toNat (-1,0,0)).1
def nrst(tr:List Tv)(mk:Int->Bool):Nat->Int->Option Int
 |0,_=>none
 |f+1,n=>if n<0 then none else if mk n=true then some n else nrst tr mk f (parV tr n)
structure TrAt (V:Mem)(q:Nat)(l:Sl)(tr:List Tv):Prop where
 at_:V q=some (.cells #[l.v] 173 (0,0))
 rows:Ab V l 3 (tr.map Fb)
section
variable{V V':Mem}{q:Nat}{l:Sl}{tr:List Tv}
theorem TrAt.sub(h:TrAt V q l tr)(s:V.sub V'):TrAt V' q l tr:=⟨s _ _ h.at_,h.rows.sub s⟩
theorem TrAt.cell(h:TrAt V q l tr):V.rowp (sa q) ((0:Int).toNat*1) 1=some [l.v]:=Aj h.at_ 0 1 (by simp)
theorem No(h:TrAt V q l tr):PP 46 [pv q] V (.int .i64 tr.length):=by
 refine Qe ?_;have H:=h.rows.n_eq;exact⟨λh=>absurd h nn,λ_=>⟨nn,nn,l,h.cell,by simp_all⟩⟩
theorem c107{b t:Nat}(H:V b=some (cell (pv q) t))(h:TrAt V q l tr){x:Int}:PP 107 [.int .i64 x,pv b] V (.bool (decide (x<0)||decide ((tr.length:Int)<=x))):=by
 refine x107 ?_;have J:=h.rows.n_eq;refine⟨λh=>?_,λh1=>⟨_,An H,nn,nn,l,h.cell,?_⟩⟩;·simp_all
 grind
def tckE(n:Nat)(ws:List Int):Int:=if ws.any (λx=>decide (x<0)||decide ((n:Int)<=x))=true then 24 else 0
theorem tck_ok{n:Nat}{ws:List Int}(h:∀x∈ws,0<=x/\x<(n:Int)):tckE n ws=0:=by
 grind[tckE]
theorem Pc(h:TrAt V q l tr){s:Sl}{ws:List Int}(J:Ab V s 1 (ws.map Ah)):PP 76 [pv q,s.v] V (.int .i64 (tckE tr.length ws)):=by
 refine Bn.mk (QD ?_);refine⟨λh=>absurd h nn,λ_ b G=>?_⟩;have H:=Mem.sub_new G (cell (pv q) 106);refine(c106 (l:=s) (first:=[]) (caps:=[pv b]) (J.sub H) Tryz.call107 (λx=>decide (x<0)||decide ((tr.length:Int)<=x)) (λx _=>c107 Au (h.sub H))).call ⟨_,rfl,λh=>⟨?_,H⟩,λh=>⟨?_,H⟩⟩;·grind[tckE]
 grind[tckE]
theorem Np(H:C4 tr){mk:Int->Bool}:∀(f g:Nat)(n:Int),n<(f:Int)->n<(g:Int)->n<(tr.length:Int)->nrst tr mk f n=nrst tr mk g n
 |0,0,_,_,_,_=>rfl
 |0,g+1,n,h,_,_=>by grind[nrst]
 |f+1,0,n,_,h,_=>by grind[nrst]
 |f+1,g+1,n,h1,h2,h3=>by
  rw[nrst,nrst];split;·rfl
  split;·rfl
  rename_i N _;have J:=yi (l:=tr) (i:=n.toNat) (by omega);have G:=(H.par _ _ J).1;have e:parV tr n=(tr[n.toNat]'(by omega)).1:=by grind[parV]
  rw[<-e]at G;exact Np H f g _ (by omega) (by omega) (by omega)
def Ef(tr:List Tv)(mk:Int->Bool)(n:Int):Option Int:=nrst tr mk tr.length n
theorem Lt(H:C4 tr){mk:Int->Bool}{n:Int}(J:0<=n)(h:n<(tr.length:Int)):Ef tr mk n=if mk n=true then some n else Ef tr mk (parV tr n):=by
 have e:Ef tr mk n=nrst tr mk (tr.length+1) n:=Np H _ _ _ h (by omega) h;rw[e,nrst,if_neg (by omega)];rfl
theorem par_rng(H:C4 tr){n:Int}(G:0<=n)(h:n<(tr.length:Int)):∃x,tr[n.toNat]?=some x/\parV tr n=x.1/\-1<=x.1/\x.1<n:=by
 have J:=yi (l:=tr) (i:=n.toNat) (by omega);obtain⟨h1,-,h3⟩:=H.par _ _ J;grind[parV]
theorem near_neg{mk:Int->Bool}{n:Int}(h:n<0):Ef tr mk n=none:=by
 unfold Ef;cases tr.length with
 |zero=>rfl
 |succ f=>rw[nrst,if_pos h]
theorem c135(h:TrAt V q l tr)(T:C4 tr){s:Sl}{ms:List Int}(E:Ab V s 1 (ms.map Ah))(hm:∀x∈ms,0<=x/\x<(tr.length:Int))(hl:ms.length<=1000)(hln:tr.length<=1000){n:Int}(h0:0<=n)(hn:n<(tr.length:Int)):
  PP 135 [pv q,s.v,.int .i64 n] V (match Ef tr (λx=>decide (x∈ms)) n with|some a=>.tuple #[.int .i64 a,.int .i64 0]|none=>.tuple #[.int .i64 0,.int .i64 12]):=by
 obtain⟨R,U⟩:∃R:Ending->Mem->Prop,R=λe V'=>e=.returned (match Ef tr (λx=>decide (x∈ms)) n with|some a=>.tuple #[.int .i64 a,.int .i64 0]|none=>.tuple #[.int .i64 0,.int .i64 12])/\V.sub V':=⟨_,rfl⟩;refine Bn.mk ?_;rw[<-U];refine x135 ?_;have hsn:=E.n_eq;have htn:=h.rows.n_eq;refine⟨λh=>absurd h nn,λ_=>⟨λhc=>absurd (show(1000:Int)<(s.n:Int)from hc) (by omega),λ_=>Tri.mono (c108 E (by omega)) ?_⟩⟩;rintro _ V1 ⟨t,rfl,o1⟩;refine⟨t,rfl,λb hb=>?_⟩;refine oneG Eu (x:=n) o1 hb (by omega) rfl rfl (λ_=>rfl) λt2 V3 o3=>⟨t2,rfl,?_⟩;have s3:=o3.sub;have hr3:=o3.rows (row:=Ah) (λ_=>rfl) (by decide);refine(Pc (h.sub s3) hr3).call ⟨_,rfl,λ_=>⟨nn,nn,l,(h.sub s3).cell,?_⟩,λhc=>absurd (tck_ok λx hx=>?_) hc⟩;rotate_left;·grind
 refine mk290 (n:=l.n) rfl rfl (by omega) λg hg=>⟨⟨some ⟨g,0,none⟩,l.n,l.n⟩,rfl,?_⟩;have o5:=own_madeB (V:=V3) hg (show l.n<=2147483648 by omega);refine E4 ms.length (λi V'=>∃bs:List Bool,Sx.Own V3 V' 4 1 ⟨some ⟨g,0,none⟩,l.n,l.n⟩ (bs.flatMap G4)/\bs.length=tr.length/\∀(j:Nat),j<tr.length->bs[j]?=some (decide ((j:Int)∈ms.take i))) ⟨_,o5,by simp_all,λj hj=>?_⟩ ?_;·simp_all
 rintro i V6 J hi ⟨bs,o6,hbl,I⟩ hJ;have K:=s3.trans o6.sub;refine⟨λN=>?_,λX=>?_⟩
 ·obtain⟨x,hxm,hx,-,hil,S,hz,G⟩:=(E.sub K).get N;have hxr:=hm x hxm;obtain⟨j,rfl⟩:∃j:Nat,x=(j:Int):=⟨x.toNat,by omega⟩;refine⟨S,hz,N,(j:Int),G,nn,by omega,by simp_all,?_⟩;rw[xa,uR];refine Own.store o6 (by rw[flat_lenB];omega) λV7 o7 _=>⟨E.succ N,hJ hil _ ⟨bs.set j true,by grind[flat_setB],by simp_all,λk hk=>?_⟩⟩;rw[List.getElem?_set,vM,hx,uT];grind
 have X:¬(i:Int)<(s.n:Int):=X;rw[xc (by omega)]at I;refine⟨λk ys V'=>∃c:Int,k=(c+1).toNat/\ys=[.int .i64 0,.int .i64 0,.int .i64 c]/\-1<=c/\c<(tr.length:Int)/\V'=V6/\Ef tr (λx=>decide (x∈ms)) n=Ef tr (λx=>decide (x∈ms)) c,(n+1).toNat,⟨n,rfl,rfl,by omega,hn,rfl,rfl⟩,?_⟩;rintro k V7 x y z ⟨c,rfl,B,hc1,Z,rfl,A⟩ J2 hJ2;simp only[yJ,and_true]at B;obtain⟨q1,q2,q3⟩:=B;cases BX _ _ q1;cases BX _ _ q2;cases BX _ _ q3;have hB:=o6.rows (row:=G4) (λ_=>rfl) (by decide);refine⟨λH=>?_,λH=>?_⟩
 ·have H:0<=z:=H;obtain⟨j,rfl⟩:∃j:Nat,z=(j:Int):=⟨z.toNat,by omega⟩;obtain⟨b1,b2,b3,b4⟩:=bool_at hB (I j (by omega));obtain⟨y,C,hy2,hy3,hy4⟩:=par_rng T H Z;refine⟨b1,b2,b3,_,b4,λY=>?_,λP=>?_⟩
  ·have Y:decide ((j:Int)∈ms)=true:=Y;rw[Lt T H Z,if_pos Y]at A;rw[U,A];exact⟨rfl,K⟩
  ·have P:¬decide ((j:Int)∈ms)=true:=P;rw[Lt T H Z,if_neg P]at A;have h6:=h.sub K;obtain⟨w,-,hw,-,-,S,hz,G⟩:=h6.rows.get (i:=j) (by omega);rw[xa,hw]at C;cases C;exact⟨nn,nn,l,h6.cell,S,hz,by omega,Al S,y.1,y.2.1,y.2.2,G,hJ2 (y.1+1).toNat _ _ (by omega) ⟨y.1,rfl,rfl,hy3,by omega,rfl,by rw[A,hy2]⟩⟩
 ·have H:¬0<=z:=H;rw[near_neg (n:=z) (by omega)]at A;rw[U,A];exact⟨rfl,K⟩
end
theorem flat_setN(l:List Int)(i:Nat)(x:Int):(l.flatMap Ah).set i (.int .i64 x)=(l.set i x).flatMap Ah:=by rw[CP,CP,List.map_set]
section
variable{V W:Mem}
theorem c109{f:Fld}:PP 109 [f.v] V (.bool (!AG f.ty)):=by
 refine x109 ?_;have H:Ad [105,110,116]=Am:=rfl;have e2:Ad [98,111,111,108]=AC:=rfl;rw[H,e2];unfold AG;refine⟨λh=>?_,λh=>?_⟩;·simp_all
 simp_all
theorem mappedC{σ:Type}{Qs:σ->Mem->Mem->Prop}(Z:∀s,BV (Qs s)){l v:Sl}{fs:List Fld}{vs:List Int}{g:Nat}{caps:List Value}{s0:σ}
  (C:Ab W l 2 (fs.map Fld.row)) (hv:Ab W v 1 (vs.map Ah)) (hlen:fs.length=vs.length) (E:vs.length<=2147483648) (hg:GL g)
  (St:Nat->σ->List Int->Prop) (h0:St 0 s0 vs) (Y:Qs s0 W V)
  (K:∀i f x s o,fs[i]?=some f->vs[i]?=some x->St i s o->(AG f.ty=true∨x=0)->St (i+1) s o)
  (step:∀i f x s o W1 V1,W.sub W1->Qs s W1 V1->fs[i]?=some f->vs[i]?=some x->AG f.ty=false->x≠0->St i s o->Tri xS g (#[]++#[.int .i64 x]++caps.toArray) V1 λe V2=>∃y s',e=.returned (.int .i64 y)/\Qs s' W1 V2/\St (i+1) s' (o.set i y)):
  Tri xS 78 #[l.v,v.v,.func (.func g) #[] caps.toArray] V λe V'=>∃(out:Sl)(s:σ)(o:List Int),e=.returned (.slice out.p out.n out.c)/\QL 3 1 (Qs s) out (o.flatMap Ah) W V'/\St fs.length s o/\o.length=vs.length:=by
 refine QG (a:=l) (b:=v) (c:=.func (.func g) #[] caps.toArray) ?_;have hln:=C.n_eq;have hvn:=hv.n_eq;refine Tri.mono (c108 (hv.sub ((Z s0).2 _ _ Y)) E) ?_;rintro _ V1 ⟨out,rfl,o1⟩;refine⟨out,rfl,?_⟩;refine E4 fs.length (λi V'=>∃s o,QL 3 1 (Qs s) out (o.flatMap Ah) W V'/\St i s o/\o.length=vs.length) ⟨s0,vs,QL.put (Z s0) Y o1,h0,rfl⟩ ?_;rintro i V2 J hi ⟨s,o,hq,S,hol⟩ hJ;have sW:=(QL.over (Z s)).2 _ _ hq;refine⟨λN=>?_,λhge=>?_⟩
 ·obtain⟨f,-,hf,-,T,hp,hz,P⟩:=(C.sub sW).get N;obtain⟨x,-,hx,-,-,U,hzv,G⟩:=(hv.sub sW).get (i:=i) (by omega);have hsu:=C.succ N;have H:¬v.p=none/\(0:Int)<=(i:Int)/\(i:Int)<(v.n:Int):=⟨U,hzv,by omega⟩;refine⟨hp,hz,N,_,_,P,c109.call ⟨_,rfl,λB=>⟨H.1,H.2.1,H.2.2,x,G,λA=>?_,λA=>?_⟩,λB=>?_⟩⟩;·grind
  ·refine⟨H.1,H.2.1,H.2.2,x,G,g,#[],caps.toArray,rfl,hg,?_⟩;obtain⟨W1,ho,hqs⟩:=hq;have B:(!AG f.ty)=true:=B;refine Tri.mono (step i f x s o W1 V2 ho.sub hqs hf hx (by simpa using B) A S) ?_;rintro _ V3 ⟨y,s',rfl,hq2,I⟩;have hn:=ho.len;rw[CP,wI]at hn;have X:QL 3 1 (Qs s') out (o.flatMap Ah) W V3:=⟨W1,ho,hq2⟩;have hro:=QL.rows (row:=Ah) (Z s') (λ_=>rfl) (by decide) X;obtain⟨z,-,-,-,-,hpo,hzo,-⟩:=hro.get (i:=i) (by omega);refine⟨y,rfl,hpo,hzo,by omega,?_⟩;rw[xa,uR];refine X.store (Z s') (i:=i) (by rw[CP,wI];omega) λV4 hq4 _=>⟨hsu,hJ T _ ⟨s',o.set i y,?_,I,by simp_all⟩⟩;grind[flat_setN]
  grind
 grind
end
end Go.Proofs
namespace Go.Proofs
open Go Go.Sx
theorem pos_appL{O:List Int}{x:Int}(H:x∈O):∀t:List Int,CA (O++t) x=CA O x
 |[]=>by simp_all
 |n::t=>by
  rw[show O++n::t=(O++[n])++t by simp];rw[pos_appL (uC _ H) t,pos_app H]
theorem rho_app{O t:List Int}{x:Int}(H:x∈O):BQ (O++t) x=BQ O x:=by
 unfold BQ;rw[pos_appL H]
theorem renL_app{O t:List Int}{l:List Fld}{vs:List Int}(h:∀y∈CG l vs,y∈O):BJ (O++t) l vs=BJ O l vs:=by
 unfold BJ;refine List.map_congr_left λx J=>?_;by_cases H:AG x.1.ty=true;·simp_all
 ·rw[if_neg H,if_neg H];by_cases G:x.2=0;·rw[G,Gs,Gs]
  ·refine rho_app (h _ ?_);unfold CG;refine uE.2 ⟨x,ym.2 ⟨J,?_⟩,rfl⟩;grind[Dy]
section
variable{d:Ds}{M:Mm}
structure Vx (d:Ds)(M:Mm)(a:Sr)(nd:List Nd)(b:Sr)(ne:List Nd):Prop where
 len:ne.length=b.order.length
 pre:∃t,b.order=a.order++t
 old:∀k,k<nd.length->ne[k]?=nd[k]?
 new:∀(k:Nat) n,nd.length<=k->b.order[k]?=some n->∃x z,ne[k]?=some z/\M.nodes[(n-1).toNat]?=some x/\z.ty=x.ty/\z.f=BJ b.order (AL d x.ty) x.f/\∀y∈CG (AL d x.ty) x.f,y∈b.order
theorem Vx.refl{a:Sr}{nd:List Nd}(h:nd.length=a.order.length):Vx d M a nd a nd:=⟨h,⟨[],by simp⟩,λ_ _=>rfl,λk n H J=>by
 simp_all⟩
theorem Vx.trans{a b c:Sr}{nd ne N:List Nd}(h:Vx d M a nd b ne)(k:Vx d M b ne c N)(B:nd.length<=ne.length):Vx d M a nd c N:=by
 obtain⟨t,C⟩:=h.pre;obtain⟨u,hu⟩:=k.pre;refine⟨k.len,⟨t++u,by simp_all⟩,λi H=>(k.old i (by omega)).trans (h.old i H),λi n H J=>?_⟩;by_cases Z:i<ne.length
 ·have G:b.order[i]?=some n:=by
   rw[hu,wK (by rw[<-h.len];exact Z)]at J;exact J
  obtain⟨x,z,P,e2,A,I,Y⟩:=h.new i n H G;refine⟨x,z,by rw[k.old i Z];exact P,e2,A,by rw[I,hu,renL_app Y],λy X=>?_⟩;rw[hu];exact uC _ (Y y X)
 ·exact k.new i n (by omega) J
theorem Vx.le{a b:Sr}{nd ne:List Nd}(h:Vx d M a nd b ne)(H:nd.length=a.order.length):nd.length<=ne.length:=by
 obtain⟨t,J⟩:=h.pre;rw[h.len,J,H];simp
structure Vf (d:Ds)(M:Mm)(f:Nat)(a1:Sr)(nd1:List Nd)(fs:List Fld)(vs ws:List Int)(i:Nat)(s:Sr×List Nd)(o:List Int):Prop where
 ord:s.1=(tgtI fs vs i).foldl (A4 d M f) a1
 vx:Vx d M a1 nd1 s.1 s.2
 len:o.length=vs.length
 at_:∀(j:Nat) fl x w,fs[j]?=some fl->vs[j]?=some x->ws[j]?=some w->o[j]?=some (if j<i/\AG fl.ty=false/\x≠0 then BQ s.1.order x else w)/\(j<i->AG fl.ty=false->x≠0->x∈s.1.order)
variable{f:Nat}{a1:Sr}{nd1:List Nd}{fs:List Fld}{vs ws:List Int}{i:Nat}{s:Sr×List Nd}{o:List Int}
theorem Vf.start(h:nd1.length=a1.order.length)(hw:ws.length=vs.length):Vf d M f a1 nd1 fs vs ws 0 (a1,nd1) ws:=⟨by rfl,.refl h,hw,λj fl x w _ _ hw=>⟨by simp_all,λh=>by omega⟩⟩
theorem Vf.skip(h:Vf d M f a1 nd1 fs vs ws i s o){fl:Fld}{x:Int}(Z:fs[i]?=some fl)(Y:vs[i]?=some x)(I:AG fl.ty=true∨x=0):Vf d M f a1 nd1 fs vs ws (i+1) s o:=by
 have P:Dy (fl,x)=false:=by
  grind[Dy]
 refine⟨by rw[Lg Z Y,P];simpa using h.ord,h.vx,h.len,λj H A w' J G N=>?_⟩;obtain⟨h1,h2⟩:=h.at_ j H A w' J G N;grind
theorem Vf.next(h:Vf d M f a1 nd1 fs vs ws i s o)(N:nd1.length=a1.order.length){fl:Fld}{x:Int}(X:fs[i]?=some fl)(A:vs[i]?=some x)(S:AG fl.ty=false)(T:x≠0){s':Sr×List Nd}(B:s'.1=A4 d M f s.1 x)(hv:Vx d M s.1 s.2 s'.1 s'.2)(hm:x∈s'.1.order):Vf d M f a1 nd1 fs vs ws (i+1) s' (o.set i (BQ s'.1.order x)):=by
 have C:Dy (fl,x)=true:=by grind[Dy]
 obtain⟨t,E⟩:=hv.pre;have K:=(yj.1 A).1;refine⟨by rw[Lg X A,if_pos C,List.foldl_append,<-h.ord,B];rfl,h.vx.trans hv (h.vx.le N),by rw[wJ];exact h.len,λj H I w' Z Y P=>?_⟩;obtain⟨h1,h2⟩:=h.at_ j H I w' Z Y P;by_cases e:j=i;·grind
 ·rw[uU (λh=>e h.symm),h1];by_cases J:j<i/\AG H.ty=false/\I≠0
  ·have G:=h2 J.1 J.2.1 J.2.2;rw[if_pos J,if_pos ⟨by omega,J.2⟩,E,rho_app G];simp_all
  grind
theorem Vf.done(h:Vf d M f a1 nd1 fs vs ws fs.length s o)(A:fs.length=vs.length)(G:ws.length=vs.length)(H:∀(j:Nat) fl x w,fs[j]?=some fl->vs[j]?=some x->ws[j]?=some w->AG fl.ty=true∨x=0->w=x):o=BJ s.1.order fs vs/\(∀y∈CG fs vs,y∈s.1.order)/\s.1=(CG fs vs).foldl (A4 d M f) a1:=by
 refine⟨wR λj=>?_,λy N=>?_,by rw[h.ord,tgtI_all (yq _)]⟩
 ·by_cases Z:j<fs.length
  ·have J:=yi Z;have hv:=yi (l:=vs) (i:=j) (by omega);have hw:=yi (l:=ws) (i:=j) (by omega);obtain⟨h1,-⟩:=h.at_ j _ _ _ J hv hw;have I:=H j _ _ _ J hv hw;rw[h1,I7 J hv];by_cases Y:AG (fs[j]'Z).ty=true;·simp_all
   ·rw[if_neg Y];by_cases X:vs[j]'(by omega)=0;·simp_all[if_neg,inr,Gs]
    grind
  ·rw[uV (by rw[h.len];omega),uV];grind[BJ]
 ·obtain⟨j,fl,h1,h2,h3,h4⟩:=GZ.1 N;have P:=(yj.1 h2).1;exact(h.at_ j fl y _ h1 h2 (yi (l:=ws) (i:=j) (by omega))).2 (yj.1 h1).1 h3 h4
theorem Vx.enter{a:Sr}{nd:List Nd}{n:Int}{x:Nd}{sl:Sl}{s:Sr×List Nd}(N:nd.length=a.order.length)(Z:M.nodes[(n-1).toNat]?=some x)
  (hv:Vx d M ⟨a.order++[n],a.again⟩ (nd++[⟨x.ty,Af,[]⟩]) s.1 s.2) (Y:∀y∈CG (AL d x.ty) x.f,y∈s.1.order):Vx d M a nd s.1 (s.2.set nd.length ⟨x.ty,sl,BJ s.1.order (AL d x.ty) x.f⟩):=by
 obtain⟨t,P⟩:=hv.pre;have H:=hv.le (by simp[N]);rw[zI,yI]at H;refine⟨by rw[wJ];exact hv.len,⟨n::t,by rw[P];simp⟩,λk G=>?_,λk m G hm=>?_⟩;·rw[uU (by omega),hv.old k (by simp;omega),wK G]
 ·by_cases e:k=nd.length
  ·subst e;have J:m=n:=by
    simp_all
   subst J;exact⟨x,_,List.getElem?_set_self (by omega),Z,rfl,rfl,Y⟩
  ·rw[uU (λh=>e h.symm)];exact hv.new k m (by simp;omega) hm
end
end Go.Proofs
namespace Go.Proofs
open Go Go.Sx
attribute [local irreducible] Go.Sx.Tri
structure Rc where
 ver:Int
 sl:Sl
 f:List Int
def Rc.row(r:Rc):List Value:=[.int .i64 r.ver,r.sl.v]
structure Nn where
 ty:Int
 rsl:Sl
 recs:List Rc
def Nn.row(n:Nn):List Value:=[.int .i64 n.ty,n.rsl.v]
structure Gl where
 sl:Sl
 v:List Int
def Gl.row(g:Gl):List Value:=[g.sl.v]
def FV(d:Ds)(q:Nat)(gl nl:Sl)(wr:Int):List Value:=[Go.Sx.vS d.name,d.ts.v,d.gs.v,d.ps.v,d.ms.v,d.is.v,d.qs.v,d.bs.v,pv q,gl.v,nl.v,.int .i64 wr]
structure PsAt (V:Mem)(p q:Nat)(d:Ds)(vl gl nl:Sl)(tr:List Tv)(gs:List Gl)(ns:List Nn)(wr:Int):Prop where
 at_:V p=some (.cells (FV d q gl nl wr).toArray 109 (0,0))
 tr:TrAt V q vl tr
 g:Ab V gl 1 (gs.map Gl.row)
 n:Ab V nl 2 (ns.map Nn.row)
 r:∀x∈ns,Ab V x.rsl 2 (x.recs.map Rc.row)
 gv:∀x∈gs,Ab V x.sl 1 (x.v.map Ah)
 rf:∀x∈ns,∀r∈x.recs,Ab V r.sl 1 (r.f.map Ah)
def fldR(tr:List Tv)(x:Nn)(v:Int):Option Rc:=match Ef tr (λm=>decide (m∈x.recs.map Rc.ver)) v with
 |some a=>x.recs[(BH (λy=>decide (a=y)) (x.recs.map Rc.ver)).toNat]?
 |none=>none
theorem near_mk{tr:List Tv}{mk:Int->Bool}{a:Int}:∀(f:Nat)(n:Int),nrst tr mk f n=some a->mk a=true
 |0,_,h=>by cases h
 |f+1,n,h=>by
  rw[nrst]at h;split at h;·cases h
  split at h;·grind
  ·exact near_mk f _ h
section
variable{V V':Mem}{p q:Nat}{d:Ds}{vl gl nl:Sl}{tr:List Tv}{gs:List Gl}{ns:List Nn}{wr:Int}
theorem PsAt.sub(h:PsAt V p q d vl gl nl tr gs ns wr)(s:V.sub V'):PsAt V' p q d vl gl nl tr gs ns wr:=⟨s _ _ h.at_,h.tr.sub s,h.g.sub s,h.n.sub s,λx H=>(h.r x H).sub s,λx H=>(h.gv x H).sub s,λx H r J=>(h.rf x H r J).sub s⟩
theorem PsAt.cell(h:PsAt V p q d vl gl nl tr gs ns wr)(i n:Nat)(hi:i+n<=12):V.rowp (sa p) i n=some (((FV d q gl nl wr).drop i).take n):=Aj h.at_ i n hi
theorem PsAt.cell'(h:PsAt V p q d vl gl nl tr gs ns wr)(j i n:Nat)(hi:j+i+n<=12):V.rowp (Aa (sa p) j) i n=some (((FV d q gl nl wr).drop (j+i)).take n):=Ev h.at_ j i n hi
theorem PsAt.node(h:PsAt V p q d vl gl nl tr gs ns wr){id:Int}(h1:1<=id)(h2:id<=(ns.length:Int)):∃x,ns[(id-1).toNat]?=some x/\x∈ns/\¬nl.p=none/\0<=id-1/\id-1<(nl.n:Int)/\V.rowp nl.p ((id-1).toNat*2) 2=some [.int .i64 x.ty,x.rsl.v]:=by
 have N:=h.n.n_eq;obtain⟨x,hm,J,-,-,G,Z,H⟩:=h.n.get (i:=(id-1).toNat) (by omega);exact⟨x,J,hm,G,by omega,by omega,H⟩
theorem RA(h:PsAt V p q d vl gl nl tr gs ns wr)(hT:C4 tr)(E:tr.length<=1000){id v:Int}{x:Nn}{rc:Rc}(h1:1<=id)(h2:id<=(ns.length:Int))(hx:ns[(id-1).toNat]?=some x)(hr:∀r∈x.recs,0<=r.ver/\r.ver<(tr.length:Int))(hrl:x.recs.length<=1000)(K:0<=v)(S:v<(tr.length:Int))(H:fldR tr x v=some rc):
  PP 94 [pv p,.int .i64 id,.int .i64 v] V rc.sl.v:=by
 obtain⟨R,hR⟩:∃R:Ending->Mem->Prop,R=λe V'=>e=.returned rc.sl.v/\V.sub V':=⟨_,rfl⟩;refine Bn.mk ?_;rw[<-hR];refine QS ?_;obtain⟨y,I,T,n1,n2,n3,n4⟩:=h.node h1 h2;rw[hx]at I;cases I;have N:=h.r x T;have hrn:=N.n_eq;have hnn:=h.n.n_eq;have hns:=h.n.fit;have hnc:=h.n.cap;refine⟨nn,nn,nl,h.cell 10 1 (by decide),⟨by omega,by omega⟩,n1,n2,n3,Al n1,x.ty,x.rsl,n4,?_⟩;refine⟨λk ys V'=>∃(j:Nat)(s:Sl),k=x.recs.length-j/\j<=x.recs.length/\ys=[.slice s.p s.n s.c,.int .i64 j]/\Sx.Own V V' 3 1 s (((x.recs.take j).map Rc.ver).flatMap Ah),x.recs.length,⟨0,Af,rfl,Nat.zero_le _,rfl,Own.nil (Mem.sub.refl _) _ _⟩,?_⟩;rintro k V1 s6 v7 ⟨j,s,rfl,hj,Y,o⟩ J hJ;simp only[yJ,and_true]at Y;obtain⟨q1,q2⟩:=Y;cases Bb _ _ q1;cases BX _ _ q2;have X:=o.sub;refine⟨λZ=>?_,λP=>?_⟩
 ·obtain⟨r,hrm,hrx,-,hil,B,C,G⟩:=(N.sub X).get Z;refine⟨B,C,Z,r.ver,r.sl,G,λb hb=>?_⟩;refine oneG Eu (x:=r.ver) o hb (by have:=List.length_take_le j x.recs;rw[wI];omega) rfl rfl (λ_=>rfl) λs3 V3 o3=>⟨s3,rfl,N.succ Z,hJ _ _ _ (show x.recs.length-(j+1)<x.recs.length-j by omega) ⟨j+1,s3,rfl,by omega,rfl,?_⟩⟩;simp_all[vM,uT,yy]
 ·have P:¬(j:Int)<(x.rsl.n:Int):=P;rw[xc (by omega)]at o;have A:=o.rows (row:=Ah) (λ_=>rfl) (by decide);have h':=h.sub X;have hN:=c135 h'.tr hT A (λy I=>by
   obtain⟨r,U,rfl⟩:=uE.1 I;exact hr r U) (by simp_all) E K S
  refine⟨nn,nn,some ⟨q,0,none⟩,h'.cell 8 1 (by decide),?_⟩;unfold fldR at H;cases e:Ef tr (λm=>decide (m∈x.recs.map Rc.ver)) v with
  |none=>simp_all
  |some a=>
   rw[e]at H;rw[e]at hN;have H:x.recs[(BH (λy=>decide (a=y)) (x.recs.map Rc.ver)).toNat]?=some rc:=H;have ham:a∈x.recs.map Rc.ver:=of_decide_eq_true (near_mk _ _ e);have hmem:=H;rcases Cu (λy=>decide (a=y)) (x.recs.map Rc.ver)with⟨-,-,c3⟩|⟨i,y,c1,c2,-,c4,-⟩
   ·have:=xo.1 c3 a ham;simp at this
   rw[c1,xa]at H;obtain⟨z,hzm,C,-,-,B,hz0,G⟩:=(N.sub X).get (i:=i) (by simp_all);rw[H]at C;cases C;refine hN.call ⟨a,0,rfl,(O9 A).call ⟨_,rfl,?_⟩⟩;rw[c1];refine⟨B,hz0,by simp_all,Al B,rc.ver,rc.sl,by rw[xa];exact G,?_⟩;rw[hR];exact⟨rfl,X⟩
end
section
variable{V W:Mem}{p:Nat}{d:Ds}{L:Sl}{k F:Int}
theorem own_blk{α:Type}{row:α->List Value}{sz e b:Nat}{xs:List α}(H:∀x,(row x).length=sz)(J:W b=none){A:Mem}(G:W.sub A)(N:A b=some (.cells (xs.flatMap row).toArray e (0,0)))(Z:xs.length<=1000000):Sx.Own W A e sz ⟨some ⟨b,0,none⟩,xs.length,xs.length⟩ (xs.flatMap row):=
 ⟨G,GK H xs,.inr ⟨b,_,rfl,J,N,yq _,by simp only[maxLen];omega,by rw[List.size_toArray,GK H],by rw[xc];rw[GK H];grind⟩⟩
end
theorem inj_b:∀x y:Bool,uQ x=uQ y->x=y:=by simp_all
theorem Bi.catch{D V V':Mem}{Q:Mem->Mem->Prop}(h:Bi D V Q)(G:V.sub V'):∃J,D.sub J/\Bi J V' Q/\∀b,V b=none->J b=V' b:=by
 obtain⟨M,f,N,Z⟩:=h;refine⟨Mem.minus V' M,λb o H=>?_,⟨M,f.keep λb o _ hv=>G _ _ hv,Ft,λb H hm=>H (DV hm)⟩,λb H=>Cy λhm=>f.1 b hm H⟩;rw[Cy (Z b (by rw[H];simp))];exact G _ _ (N _ _ H)
theorem Pd{α:Type}{V V' D:Mem}{e sz:Nat}{s:Sl}{row:α->List Value}{xs:List α}(o:Sx.Own V V' e sz s (xs.flatMap row))(H:∀x,(row x).length=sz)(J:0<sz)(G:∀b,V b=none->D b=V' b):Ab D s sz (xs.map row):=by
 have:Sx.Own (λ_=>none) D e sz s (xs.flatMap row):=⟨(λ_ _ h=>by cases h),o.len,by
  rcases o.at_ with h|⟨g,cur,a,b,c,dd⟩;·exact .inl h
  simp_all⟩
 exact this.rows H J
def resV(n:Nat)(er:Int)(r:Rx Int):Value:=if er=0 then .tuple #[.int .i64 (if CV r=0 then(n:Int)else -1),.agg (BD (CV r) (outV r) r.st.cm (Bc r.st.lg)).toArray,.int .i64 0]else .tuple #[.int .i64 0,.agg (BD 0 0 0 0).toArray,.int .i64 er]
def RunU(d:Ds)(F:Nat)(m:Mm)(nm:KB)(args:List Int):Ending->Mem->Prop:=λe H=>
 (Be d m nm args≠0/\e=.returned (.tuple #[.agg (BD 0 0 0 0).toArray,.agg #[Af.v,Af.v],.int .i64 (Be d m nm args)]))∨
 (Be d m nm args=0/\∃(r:Rx Int)(y:Mm),r=Dw d F (AV d nm) args (Bf m)/\Ar d y/\Mm.Ok H y/\y.plain=(r.st.g,r.st.ns)/\m.nodes.length<=y.nodes.length/\e=.returned (.tuple #[.agg (BD (CV r) (outV r) r.st.cm (Bc r.st.lg)).toArray,.agg #[y.gs.v,y.ns.v],.int .i64 0]))
theorem play_gr{d:Ds}{F:Nat}{m:Mm}{nm:KB}{args:List Int}(G:Ar d m)(J:Be d m nm args=0):Gr F 0 (Bf m) (Dw d F (AV d nm) args (Bf m)).st:=by
 obtain⟨i,q,N,Z,H⟩:=Lb J;rw[N];exact(play_snd (F:=F) (KT G.valid G.chk) Z (La G) (Cb (JL (Hw m).symm) H)).gr
theorem play_len{d:Ds}{F:Nat}{m:Mm}{nm:KB}{args:List Int}(G:Ar d m)(H:Be d m nm args=0):m.nodes.length<=(Dw d F (AV d nm) args (Bf m)).st.ns.length:=by
 have g:=play_gr (F:=F) G H;have e:(Bf m).ns.length=m.nodes.length:=wI ..;rcases Nat.eq_zero_or_pos m.nodes.length with h|h;·omega
 ·obtain⟨y,J,-⟩:=g.ty (m.nodes.length-1) _ (yi (by omega));grind
section
variable{V D:Mem}{p:Nat}{d:Ds}{k:Int}{F:Nat}{m:Mm}{nm:KB}{args par cells:List Int}{l cs ps:Sl}
theorem runU[Tab V](Z:Ds.Ok V d)(hm:Mm.Ok V m)(G:Ar d m)(P:Ab V l 1 (args.map Ah))(A:F<=4000):Tri xS 69 #[d.v,m.v,.agg #[.string nm,l.v],.int .i64 F] V λe V'=>V.sub V'/\RunU d F m nm args e V':=by
 have es:Ed d m nm args F=Be d m nm args:=start_ok G (by omega);refine Tri.mono (Rm (nm:=nm) Z hm P A) ?_;rintro _ V1 (⟨H,I,rfl⟩|⟨H,r,gs,ns,ls,nd,Y,L,rfl⟩)
 ·rw[es]at H⊢;exact⟨I,.inl ⟨H,rfl⟩⟩
 ·rw[es]at H;have J:Ar d r.st.mm:=by grind[play_good]
  obtain⟨h1,h2⟩:=Nc Z L J;have N:=play_len (F:=F) G H;rw[<-Y]at N;have X:nd.length=r.st.ns.length:=by
   grind[Mm.plain]
  exact⟨L.sub,.inr ⟨H,r,⟨gs,r.st.g,ns,nd⟩,Y,J.plain ((St.plain _).trans h2.symm),h1,h2,by simp_all,rfl⟩⟩
end
theorem Nq{W W':Mem}{b:Nat}{g:Int->Option Value}(h:Dt (wP .i64) W b g)(H:W' b=W b):Dt (wP .i64) W' b g:=by
 obtain⟨es,c,h1,h2⟩:=h.at_;exact⟨es,c,by grind,h2⟩
theorem mpv_some{W:Mem}{b:Nat}{g:Int->Option Value}(h:Dt (wP .i64) W b g):∃o,W b=some o:=by
 obtain⟨es,c,h1,-⟩:=h.at_;grind
section
variable{Q:Mem->Mem->Prop}{D V V' W:Mem}{mb:Nat}{f f':Int->Option Value}{e sz:Nat}
theorem BV.grow(J:BV Q)(h:Q W V)(G:V.sub V'):∃W',W.sub W'/\Q W' V'/\∀b,V b=none->W' b=V' b:=by
 obtain⟨M,Z,N⟩:=J.1 W V h;have h1:=J.2 _ _ h;refine⟨Mem.minus V' M,λb o H=>?_,N.2 V' λb o _ hv=>G _ _ hv,λb H=>Cy λhm=>N.1 b hm H⟩;rw[Cy λhm=>by simp_all];exact G _ _ (h1 _ _ H)
theorem QL.take{s:Sl}{vs:List Value}(H:BV Q)(h:Bi D V Q)(o:Sx.Own V V' e sz s vs):Bi D V' (QL e sz Q s vs):=by
 obtain⟨W,J,G,N⟩:=h.use;obtain⟨W',h1,h2,h3⟩:=BV.grow H N o.sub;refine Bi.mk (QL.over H) (W:=W) ⟨W',⟨h1,o.len,?_⟩,h2⟩ J;rcases o.at_ with h|⟨g,cur,a,b,c,dd⟩;·exact .inl h
 ·exact .inr ⟨g,cur,a,Cz G b,by simp_all,dd⟩
end
theorem BV.ex{α:Type}{Q:α->Mem->Mem->Prop}(h:∀a,BV (Q a)):BV λW V=>∃a,Q a W V:=by
 refine⟨λW V ⟨a,H⟩=>?_,λW V ⟨a,H⟩=>(h a).2 _ _ H⟩;obtain⟨M,G,J⟩:=(h a).1 W V H;exact⟨M,G,J.1,λV' N=>⟨a,J.2 V' N⟩⟩
def Gu(Q:Mem->Mem->Prop):Prop:=∀W W' V,W'.sub W->Q W V->Q W' V
section
variable{Q:Mem->Mem->Prop}{V V' W W':Mem}{o:Sl}{e sz:Nat}{vs:List Value}
theorem QL.low:Gu (QL e sz Q o vs):=λ_ _ _ s ⟨W1,H,J⟩=>⟨W1,H.narrow s,J⟩
theorem QF.low{α:Type}{sl:α->Sl}{vs:α->List Value}(h:Gu Q):∀l:List α,Gu (QF e sz sl vs l Q)
 |[]=>h
 |_::_=>QL.low
theorem QL.drop(H:Gu Q)(h:QL e sz Q o vs W V):Q W V:=by
 obtain⟨W1,J,G⟩:=h;exact H _ _ _ J.sub G
theorem QL.nil(h:Q W V)(p:Option Addr):QL e sz Q ⟨p,0,0⟩ [] W V:=⟨W,Own.empty (Mem.sub.refl _) _ _ p,h⟩
end
theorem Nr{α:Type}{row:α->List Value}{sz:Nat}(J:∀x,(row x).length=sz){x':α}{j:Nat}{v:Value}(G:j<sz):∀{xs:List α}{i:Nat}{x:α},xs[i]?=some x->row x'=(row x).set j v->(xs.set i x').flatMap row=(xs.flatMap row).set (i*sz+j) v
 |[],_,_,h,_=>by simp at h
 |y::H,0,x,h,e=>by
  simp_all
 |y::H,i+1,x,h,e=>by
  rw[List.getElem?_cons_succ]at h;have N:=Nr J G (xs:=H) h e;grind
theorem ptrAdd_add(p:Option Addr)(m n:Nat):Aa (Aa p m) n=Aa p (m+n):=by
 cases p with
 |none=>rfl
 |some a=>
  grind[Aa,Addr.add]
def kV(O:List Int):Int->Option Value:=λn=>(kn O n).map (wP .i64)
structure Cc (vb mb:Nat)(gsl nsl isl:Sl)(O:List Int)(W V:Mem):Prop where
 at_:V vb=some (.cells #[gsl.v,nsl.v,isl.v,.map (some mb)] 105 (0,0))
 map:Dt (wP .i64) V mb (kV O)
 v0:W vb=none
 m0:W mb=none
 sub:W.sub V
def AO(vb mb:Nat)(gsl nslC islC:Sl)(Oc:List Int)(isl nsl:Sl)(O:List Int)(nd:List Nd):Mem->Mem->Prop:=
 QL 3 1 (QL 85 2 (QF 3 1 Nd.sl (λn=>n.f.flatMap Ah) nd (Cc vb mb gsl nslC islC Oc)) nsl (nd.flatMap Nd.row)) isl (O.flatMap Ah)
def FW(vb mb:Nat)(gsl:Sl)(idf:Int->Int)(s:Sr×List Nd):Mem->Mem->Prop:=λW V=>∃isl,∃nsl,AO vb mb gsl nsl isl (s.1.order.map idf) isl nsl (s.1.order.map idf) s.2 W V
section
variable{V V' W W1:Mem}{vb mb:Nat}{gsl nslC islC isl nsl:Sl}{Oc O:List Int}{nd:List Nd}
theorem Cc.ne(h:Cc vb mb gsl nslC islC Oc W V):vb≠mb:=by
 rintro rfl;obtain⟨es,c,h1,-⟩:=h.map.at_;rw[h.at_]at h1;cases h1
theorem Cc.over:BV (Cc vb mb gsl nslC islC Oc):=by
 refine⟨λW V h=>?_,λW V h=>h.sub⟩;obtain⟨o,J⟩:=mpv_some h.map;refine⟨λb=>b=vb∨b=mb,λb H=>?_,λb H=>?_,λV' G=>⟨G _ _ (.inl rfl) h.at_,Nq h.map ?_,DV (.inl rfl),DV (.inr rfl),Ft⟩⟩
 ·rcases H with rfl|rfl;·exact h.v0
  ·exact h.m0
 ·rcases H with rfl|rfl;·rw[h.at_];simp
  ·rw[J];simp
 simp_all
theorem Cc.low:Gu (Cc vb mb gsl nslC islC Oc):=λ_ _ _ s h=>⟨h.at_,h.map,Cz s h.v0,Cz s h.m0,s.trans h.sub⟩
theorem AO.over:BV (AO vb mb gsl nslC islC Oc isl nsl O nd):=QL.over (QL.over (QF.over Cc.over nd))
theorem FW.over{idf:Int->Int}{s:Sr×List Nd}:BV (FW vb mb gsl idf s):=BV.ex λ_=>BV.ex λ_=>AO.over
theorem AO.c(h:AO vb mb gsl nslC islC Oc isl nsl O nd W V):∃W1,W.sub W1/\Cc vb mb gsl nslC islC Oc W1 V:=by
 obtain⟨W1,H,-,h1⟩:=QL.below (QL.over (QF.over Cc.over nd)) h;obtain⟨Z,J,-,h2⟩:=QL.below (QF.over Cc.over nd) h1;obtain⟨G,N,-,h3⟩:=QF.below Cc.over nd h2;exact⟨G,H.trans (J.trans N),h3⟩
theorem AO.at_(h:AO vb mb gsl nslC islC Oc isl nsl O nd W V):V vb=some (.cells #[gsl.v,nslC.v,islC.v,.map (some mb)] 105 (0,0)):=by
 obtain⟨_,_,h1⟩:=h.c;exact h1.at_
theorem AO.map(h:AO vb mb gsl nslC islC Oc isl nsl O nd W V):Dt (wP .i64) V mb (kV Oc):=by
 obtain⟨_,_,h1⟩:=h.c;exact h1.map
theorem AO.cell(h:AO vb mb gsl nslC islC Oc isl nsl O nd W V)(i n:Nat)(hi:i+n<=4):V.rowp (sa vb) i n=some (([gsl.v,nslC.v,islC.v,.map (some mb)].drop i).take n):=Aj h.at_ i n hi
theorem AO.cell'(h:AO vb mb gsl nslC islC Oc isl nsl O nd W V)(j i n:Nat)(hi:j+i+n<=4):V.rowp (Aa (sa vb) j) i n=some (([gsl.v,nslC.v,islC.v,.map (some mb)].drop (j+i)).take n):=Ev h.at_ j i n hi
theorem AO.sub(h:AO vb mb gsl nslC islC Oc isl nsl O nd W V):W.sub V:=AO.over.2 _ _ h
theorem AO.ids(h:AO vb mb gsl nslC islC Oc isl nsl O nd W V):Ab V isl 1 (O.map Ah):=QL.rows (row:=Ah) (QL.over (QF.over Cc.over nd)) (λ_=>rfl) (by decide) h
theorem AO.nodes(h:AO vb mb gsl nslC islC Oc isl nsl O nd W V):Ab V nsl 2 (nd.map Nd.row):=QL.rows (row:=Nd.row) (QL.over (QF.over Cc.over nd)) (λ_=>rfl) (by decide) (QL.swap h)
theorem AO.below{G H J:Sl}{Oc':List Int}(h:AO vb mb gsl nslC islC Oc isl nsl O nd W V)(N:∀W1,W.sub W1->Cc vb mb gsl nslC islC Oc W1 V->Cc vb mb G H J Oc' W1 V'):AO vb mb G H J Oc' isl nsl O nd W V':=
 QL.map h λ_ Z h1=>QL.map h1 λ_ Y h2=>QF.map nd h2 λP A h3=>N P (Z.trans (Y.trans A)) h3
theorem AO.setC(h:AO vb mb gsl nslC islC Oc isl nsl O nd W V)(G H J:Sl):AO vb mb G H J Oc isl nsl O nd W (V.set vb (.cells #[G.v,H.v,J.v,.map (some mb)] 105 (0,0))):=
 h.below λ_ _ h1=>⟨Mem.set_same _ _ _,Nq h1.map (Mem.set_ne h1.ne.symm),h1.v0,h1.m0,h1.sub.set h1.v0 _⟩
theorem AO.setI(h:AO vb mb gsl nslC islC Oc isl nsl O nd W V){H:Sl}{q:Mem->Prop}(J:∀V',AO vb mb gsl nslC H Oc isl nsl O nd W V'->q V'):Ak (Aa (sa vb) 2) 0 [H.v] V q:=
 Ak.at2 (off:=2) h.at_ (by simp) (J _ (h.setC gsl nslC H))
theorem AO.setN(h:AO vb mb gsl nslC islC Oc isl nsl O nd W V){H:Sl}{q:Mem->Prop}(J:∀V',AO vb mb gsl H islC Oc isl nsl O nd W V'->q V'):Ak (Aa (sa vb) 1) 0 [H.v] V q:=
 Ak.at2 (off:=1) h.at_ (by simp) (J _ (h.setC gsl H islC))
theorem AO.setG(h:AO vb mb gsl nslC islC Oc isl nsl O nd W V){H:Sl}{q:Mem->Prop}(J:∀V',AO vb mb H nslC islC Oc isl nsl O nd W V'->q V'):Ak (Aa (sa vb) 0) 0 [H.v] V q:=
 Ak.at2 (off:=0) h.at_ (by simp) (J _ (h.setC H nslC islC))
theorem AO.upd(h:AO vb mb gsl nslC islC Oc isl nsl O nd W V){Oc':List Int}{H:Obj}(hm:Dt (wP .i64) (V.set mb H) mb (kV Oc')):AO vb mb gsl nslC islC Oc' isl nsl O nd W (V.set mb H):=
 h.below λ_ _ h1=>⟨by rw[Mem.set_ne h1.ne];exact h1.at_,hm,h1.v0,h1.m0,h1.sub.set h1.m0 _⟩
theorem AO.pushI(h:AO vb mb gsl nslC islC Oc isl nsl O nd W V){x:Int}{b:Nat}(J:V b=none)(G:O.length+1<=2147483648){ty:Nat}{y z:Operand}{vals:Operand->Value}(N:vals y=.slice isl.p isl.n isl.c)(Z:vals z=.slice (sa b) 1 1){K:Value->Mem->Prop}(hK:∀H V',AO vb mb gsl nslC islC Oc H nsl (O++[x]) nd W V'->K (.slice H.p H.n H.c) V'):
  GenK xS (.call {callee:=.builtin .append,args:=#[y,z],argTypes:=#[35,35]}) ty vals (V.set b (.cells #[.int .i64 x] 3 (0,0))) K:=
 pushW (row:=Ah) (x:=x) Eu (λ_=>rfl) (QL.over (QF.over Cc.over nd)) h J G N Z rfl hK
theorem AO.pushN(h:AO vb mb gsl nslC islC Oc isl nsl O nd W V){t:Int}{b:Nat}(J:V b=none)(G:nd.length+1<=2147483648){ty:Nat}{y z:Operand}{vals:Operand->Value}(N:vals y=.slice nsl.p nsl.n nsl.c)(Z:vals z=.slice (sa b) 1 1){K:Value->Mem->Prop}(hK:∀H V',AO vb mb gsl nslC islC Oc isl H O (nd++[⟨t,Af,[]⟩]) W V'->K (.slice H.p H.n H.c) V'):
  GenK xS (.call {callee:=.builtin .append,args:=#[y,z],argTypes:=#[43,43]}) ty vals (V.set b (.cells #[.int .i64 t,.slice none 0 0] 85 (0,0))) K:=by
 refine pushW (row:=Nd.row) (x:=⟨t,Af,[]⟩) app43 (λ_=>rfl) (QL.over (QF.over Cc.over nd)) (QL.swap h) J G N Z rfl λH V' Y=>hK H V' ?_;refine QL.swap (QL.map Y λ_ _ h1=>QL.map h1 λ_ _ h2=>QF.snoc nd (QL.nil h2 none))
theorem AO.fill{out:Sl}{f:List Int}{k:Nat}{n:Nd}(h:QL 3 1 (AO vb mb gsl nslC islC Oc isl nsl O nd) out (f.flatMap Ah) W V)(J:nd[k]?=some n)(A:n.sl=Af)(I:n.f=[]){q:Mem->Prop}(P:∀V',AO vb mb gsl nslC islC Oc isl nsl O (nd.set k ⟨n.ty,out,f⟩) W V'->q V'):Ak (Aa (Aa nsl.p (k*2)) 1) 0 [out.v] V q:=by
 have G:=(yj.1 J).1;have h2:=QL.swap h;have h3:QL 3 1 (QL 85 2 (QL 3 1 (QF 3 1 Nd.sl (λn=>n.f.flatMap Ah) nd (Cc vb mb gsl nslC islC Oc)) out (f.flatMap Ah)) nsl (nd.flatMap Nd.row)) isl (O.flatMap Ah) W V:=QL.map h2 λ_ _ h1=>QL.swap h1;have h4:QL 3 1 (QL 85 2 (QF 3 1 Nd.sl (λn=>n.f.flatMap Ah) (nd.set k ⟨n.ty,out,f⟩) (Cc vb mb gsl nslC islC Oc)) nsl (nd.flatMap Nd.row)) isl (O.flatMap Ah) W V:=QL.map h3 λ_ _ h1=>QL.map h1 λ_ _ N=>QF.back nd G (QL.map N λ_ _ Z=>by
  have:=QF.pick nd J Z;grind[QL.drop,QF.low,Cc.low])
 have N:=QL.swap h4;have Y:(nd.flatMap Nd.row).set (k*2+1) out.v=(nd.set k ⟨n.ty,out,f⟩).flatMap Nd.row:=(Nr (row:=Nd.row) (sz:=2) (λ_=>rfl) (by decide) J rfl).symm;have H:(nd.flatMap Nd.row).length=nd.length*2:=GK (row:=Nd.row) (λ_=>rfl) _;have e:Aa (Aa nsl.p (k*2)) 1=Aa nsl.p (k*2+1):=ptrAdd_add ..;rw[e];refine N.store (QL.over (QF.over Cc.over _)) (i:=k*2+1) (by rw[H];omega) λV' Z _=>P V' (QL.swap ?_);simp_all
end
def idf(ids:List Int)(n:Int):Int:=if n=0 then 0 else ids.getD (n-1).toNat 0
def BK(ids:List Int)(l:List Fld)(vs:List Int):List Int:=(l.zip vs).map λx=>if AG x.1.ty=true then x.2 else idf ids x.2
theorem FX{ids:List Int}{l:List Fld}{vs:List Int}{i:Nat}{f:Fld}{v:Int}(H:l[i]?=some f)(hv:vs[i]?=some v):(BK ids l vs)[i]?=some (if AG f.ty=true then v else idf ids v):=by
 grind[BK]
theorem J3{ids:List Int}{l:List Fld}{vs:List Int}(h:l.length=vs.length):(BK ids l vs).length=vs.length:=by
 grind[BK]
theorem posI_map{g:Int->Int}{n:Int}:∀{O:List Int},(∀x∈O,g x=g n->x=n)->CA (O.map g) (g n)=CA O n:=by
 intro O h;have:(O.map g).findIdx? (λy=>decide (y=g n))=O.findIdx? (λy=>decide (y=n)):=by
  induction O with
  |nil=>rfl
  |cons a O H=>
   grind
 unfold CA BH;rw[this]
structure EN (d:Ds)(tr:List Tv)(ns:List Nn)(v:Int)(m:Mm)(ids:List Int):Prop where
 len:ids.length=m.nodes.length
 dup:ids.Nodup
 rng:∀x∈ids,1<=x/\x<=(ns.length:Int)
 node:∀(k:Nat) x id,m.nodes[k]?=some x->ids[k]?=some id->∃y rc,ns[(id-1).toNat]?=some y/\y.ty=x.ty/\fldR tr y v=some rc/\rc.f=BK ids (AL d x.ty) x.f/\(∀r∈y.recs,0<=r.ver/\r.ver<(tr.length:Int))/\y.recs.length<=1000
section
variable{d:Ds}{tr:List Tv}{ns:List Nn}{v:Int}{m:Mm}{ids:List Int}
theorem EN.at_(h:EN d tr ns v m ids){n:Int}(h1:1<=n)(h2:n<=(m.nodes.length:Int)):ids[(n-1).toNat]?=some (idf ids n)/\idf ids n∈ids/\1<=idf ids n/\idf ids n<=(ns.length:Int):=by
 have H:(n-1).toNat<ids.length:=by have:=h.len;omega
 have e:idf ids n=ids[(n-1).toNat]:=by
  unfold idf;rw[if_neg (by omega),uN,yi H];rfl
 have hm:idf ids n∈ids:=by simp_all
 obtain⟨J,G⟩:=h.rng _ hm;simp_all
theorem EN.inj(h:EN d tr ns v m ids){x n:Int}(h1:1<=n/\n<=(m.nodes.length:Int))(h2:1<=x/\x<=(m.nodes.length:Int))(H:idf ids x=idf ids n):x=n:=by
 obtain⟨a1,-⟩:=h.at_ h1.1 h1.2;obtain⟨a2,-⟩:=h.at_ h2.1 h2.2;rw[H]at a2;have:=(uW (i:=(n-1).toNat) (j:=(x-1).toNat) (yj.1 a1).1 h.dup).1 (a1.trans a2.symm);omega
end
structure J4 (W:Mem)(bv bs be bf vb p q:Nat)(d:Ds)(vl gl nl:Sl)(tr:List Tv)(gs:List Gl)(ns:List Nn)(wr v:Int):Prop where
 ds:Ds.Ok W d
 ps:PsAt W p q d vl gl nl tr gs ns wr
 bV:W bv=some (cell (pv vb) 101)
 bS:W bs=some (cell (pv p) 34)
 bE:W be=some (cell (.int .i64 v) 3)
 bF:W bf=some (cell (.func (.func 93) #[] #[pv bv,pv bs,pv be,pv bf]) 177)
theorem J4.sub{W W':Mem}{bv bs be bf vb p q:Nat}{d:Ds}{vl gl nl:Sl}{tr:List Tv}{gs:List Gl}{ns:List Nn}{wr v:Int}(h:J4 W bv bs be bf vb p q d vl gl nl tr gs ns wr v)(s:W.sub W'):J4 W' bv bs be bf vb p q d vl gl nl tr gs ns wr v:=⟨h.ds.sub s,h.ps.sub s,s _ _ h.bV,s _ _ h.bS,s _ _ h.bE,s _ _ h.bF⟩
section
variable{bv bs be bf vb mb p q:Nat}{d:Ds}{vl gl nl gsl:Sl}{tr:List Tv}{gs:List Gl}{ns:List Nn}{wr v:Int}{m:Mm}{ids:List Int}
def EntP(d:Ds)(m:Mm)(ids:List Int)(vb mb:Nat)(gsl:Sl)(W:Mem)(f:Nat)(a:Sr)(nd:List Nd)(n:Int):Ending->Mem->Prop:=λe V'=>∃s':Sr×List Nd,e=.returned (.int .i64 (BQ s'.1.order n))/\FW vb mb gsl (idf ids) s' W V'/\s'.1=A4 d m f a n/\Vx d m a nd s'.1 s'.2/\n∈s'.1.order
theorem enterV(hT:C4 tr)(hln:tr.length<=1000)(hv0:0<=v)(hv1:v<(tr.length:Int))(G:Ar d m)(N:EN d tr ns v m ids):∀(f:Nat)(W V:Mem)(a:Sr)(nd:List Nd)(n:Int),J4 W bv bs be bf vb p q d vl gl nl tr gs ns wr v->FW vb mb gsl (idf ids) (a,nd) W V->nd.length=a.order.length->1<=n/\n<=(m.nodes.length:Int)->B0 m a<f->a.order.length+B0 m a<=m.nodes.length->(∀x∈a.order,1<=x/\x<=(m.nodes.length:Int))->
  Tri xS 93 #[.int .i64 (idf ids n),pv bv,pv bs,pv be,pv bf] V (EntP d m ids vb mb gsl W f a nd n)
 |0,_,_,_,_,_,_,_,_,_,h,_,_=>absurd h (xq _)
 |f+1,W,V,a,nd,n,S,hq,hnl,hn,hf,hcap,hrng=>by
  obtain⟨p1,p2,p3,p4,p5⟩:=BO G.mem;have hfl:∀x∈m.nodes,x.f.length<=2147483648:=(Ng G).2.2;obtain⟨i1,i2,i3,i4⟩:=N.at_ hn.1 hn.2;obtain⟨R,hR⟩:∃R,R=EntP d m ids vb mb gsl W (f+1) a nd n:=⟨_,rfl⟩;rw[<-hR];refine QR ?_;have hin:∀x∈a.order,idf ids x=idf ids n->x=n:=λx hx he=>N.inj hn (hrng x hx) he;have hpos:=posI_map hin;have hmem:idf ids n∈a.order.map (idf ids)↔n∈a.order:=by
   rw[uE];exact⟨λ⟨x,hx,he⟩=>hin x hx he▸hx,λh=>⟨n,h,rfl⟩⟩
  have hq0:=hq;obtain⟨isl,nsl,h⟩:=hq;have sW:=h.sub;refine⟨_,An (sW _ _ S.bV),nn,nn,_,h.cell 3 1 (by decide),Cd.key1 (k:=idf ids n) (keyInt vN) uX JM h.map ?_⟩;by_cases I:n∈a.order
  ·have T:kV (a.order.map (idf ids)) (idf ids n)=some (.int .i64 (CA a.order n+1)):=by
    simp_all[kV,kn,if_pos]
   obtain⟨ip,-,hip,-⟩:=(show ∃i:Nat,True/\CA a.order n=(i:Int)/\True from by
    rcases Cu (λy=>decide (y=n)) a.order with⟨-,-,c3⟩|⟨i,y,c1,-⟩
    ·have:=xo.1 c3 n I;simp at this
    ·exact⟨i,trivial,c1,trivial⟩)
   have he:A4 d m (f+1) a n=⟨a.order,if a.again=0 then n else a.again⟩:=by rw[A4,if_pos I]
   have hO:(A4 d m (f+1) a n).order=a.order:=by rw[he]
   show ∃v7,(kV (a.order.map (idf ids)) (idf ids n)).getD (.int .i64 0)=.int .i64 v7/\_;rw[T];refine⟨_,rfl,λh0=>absurd (show CA a.order n+1=0 from h0) (by omega),λ_=>?_⟩;rw[hR];refine⟨(A4 d m (f+1) a n,nd),?_,?_,rfl,?_,by grind⟩
   ·show Ending.returned (.int .i64 (CA a.order n+1))=.returned (.int .i64 (BQ (A4 d m (f+1) a n).order n));rw[hO];unfold BQ;rw[if_neg (by omega)]
   ·have hq0:∃isl nsl,AO vb mb gsl nsl isl (a.order.map (idf ids)) isl nsl (a.order.map (idf ids)) nd W V:=hq0;show ∃isl nsl,AO vb mb gsl nsl isl ((A4 d m (f+1) a n).order.map (idf ids)) isl nsl ((A4 d m (f+1) a n).order.map (idf ids)) nd W V;rw[hO];exact hq0
   ·exact⟨by grind,⟨[],by rw[hO];simp⟩,λ_ _=>rfl,λk n T hn=>by
     simp_all⟩
  have hnI:¬idf ids n∈a.order.map (idf ids):=λh=>I (hmem.1 h);have T:kV (a.order.map (idf ids)) (idf ids n)=none:=by unfold kV kn;simp_all
  show ∃v7,(kV (a.order.map (idf ids)) (idf ids n)).getD (.int .i64 0)=.int .i64 v7/\_;rw[T];refine⟨0,rfl,λ_=>?_,λh0=>absurd rfl h0⟩;have hlt:=unS_lt (m:=m) (st:=a) hn I (a:=a.again);have hb0:a.order.length+1<=2147483648:=by omega
  refine⟨_,An (sW _ _ S.bV),_,An (sW _ _ S.bV),nn,nn,isl,h.cell 2 1 (by decide),h.cell' 2 0 1 (by decide),nn,nn,An (sW _ _ S.bV),An (sW _ _ S.bV),λb11 h11=>?_⟩;refine h.pushI (x:=idf ids n) h11 (by simp_all) rfl rfl λH V2 h2=>⟨H,rfl,An (h2.sub _ _ S.bV),nn,nn,h2.setI λV3 h3=>?_⟩;have P:=h3.ids.n_eq;rw[zI,wI,yI]at P;have P:H.n=a.order.length+1:=P;refine⟨_,An (h3.sub _ _ S.bV),nn,nn,H,h3.cell 2 1 (by decide),_,An (h3.sub _ _ S.bV),nn,nn,_,h3.cell 3 1 (by decide),Cr.key (k:=idf ids n) (keyInt vN) uX h3.map λob hob=>?_⟩;have h4:=h3.upd (Oc':=a.order.map (idf ids)++[idf ids n]) (hob.congr λx=>by
   unfold kV;rw[kn_new hnI,wI];split;·rw[P];rfl
   ·rfl)
  have P4:=S.ps.sub h4.sub;have hx:=yi (l:=m.nodes) (i:=(n-1).toNat) (by omega);obtain⟨x,hxe⟩:∃x,m.nodes[(n-1).toNat]?=some x:=⟨_,hx⟩;obtain⟨y,rc,y1,y2,y3,y4,y5,y6⟩:=N.node _ x _ hxe i1;obtain⟨y',hy',hym,n1,n2,n3,n4⟩:=P4.node i3 i4;rw[y1]at hy';cases hy';have hnf:=P4.n.cap;have hnf2:=P4.n.fit;have hnn:=P4.n.n_eq;refine⟨some ⟨p,0,none⟩,An (h4.sub _ _ S.bS),nn,nn,nl,P4.cell 10 1 (by decide),⟨by omega,by omega⟩,n1,n2,n3,Al n1,y.ty,y.rsl,n4,?_⟩;refine⟨_,An (h4.sub _ _ S.bV),_,An (h4.sub _ _ S.bV),nn,nn,AM,nsl,h4.cell 1 1 (by decide),h4.cell' 1 0 1 (by decide),AM,nn,nn,An (h4.sub _ _ S.bV),An (h4.sub _ _ S.bV),λb24 h24=>?_⟩;refine h4.pushN (t:=y.ty) h24 (by grind) rfl rfl λnsl' V6 h6=>⟨nsl',rfl,An (h6.sub _ _ S.bV),nn,nn,AM,h6.setN λV7 h7=>?_⟩;have P7:=S.ps.sub h7.sub;have hxm:=x8 hxe;obtain⟨c1,c2⟩:=of_decide_eq_true (p3 x hxm);obtain⟨j,hj⟩:∃j:Nat,x.ty=(j:Int):=⟨_,(uK c1).symm⟩;have htn:=S.ds.types.n_eq;obtain⟨t,htm,ht2,-,-,U,hzt,X⟩:=(S.ds.types.sub h7.sub).get (i:=j) (by omega);have hfo:AL d x.ty=t.fields:=EW ht2 hj;have J:=p5 x hxm;rw[hfo]at J y4;have hlen:t.fields.length=x.f.length:=Ll J;rw[y2,hj];refine⟨_,An (h7.sub _ _ S.bS),nn,nn,AM,d.ts,P7.cell 1 1 (by decide),U,hzt,by omega,Al U,t.name,t.fs,X,_,An (h7.sub _ _ S.bS),v,An (h7.sub _ _ S.bE),_,?_,An (h7.sub _ _ S.bF),?_⟩;·rfl
  refine(RA P7 hT hln i3 i4 y1 y5 y6 hv0 hv1 y3).call ⟨rc.sl,rfl,An (h7.sub _ _ S.bF),IK X (by decide) (by decide),Al U,U,hzt,by omega,P7.cell' 1 0 1 (by decide),AM,nn,nn,An (h7.sub _ _ S.bS),?_⟩;have htf:=(S.ds.typesOk t htm).fields;obtain⟨a1,ha1⟩:∃a1:Sr,a1=⟨a.order++[n],a.again⟩:=⟨_,rfl⟩;obtain⟨nd1,B⟩:∃nd1:List Nd,nd1=nd++[⟨x.ty,Af,[]⟩]:=⟨_,rfl⟩;have Z:a1.order=a.order++[n]:=by rw[ha1]
  have hl1:nd1.length=a1.order.length:=by simp_all
  have hu1:B0 m a1<B0 m a:=by grind
  have hq7:FW vb mb gsl (idf ids) (a1,nd1) W V7:=by
   refine⟨H,nsl',?_⟩;simp_all
  have hidl:(BK ids t.fields x.f).length=x.f.length:=J3 hlen;have hrc:Ab W rc.sl 1 ((BK ids t.fields x.f).map Ah):=by
   have hyn:y∈ns:=hym;have hrm:rc∈y.recs:=by
    unfold fldR at y3;split at y3;·exact x8 y3
    ·cases y3
   rw[<-y4];exact S.ps.rf y hyn rc hrm
  have hrng1:∀z∈a1.order,1<=z/\z<=(m.nodes.length:Int):=λz hz=>by
   rw[Z]at hz;rcases wL.1 hz with hz|hz;·exact hrng z hz
   simp_all
  have hcap1:a1.order.length+B0 m a1<=m.nodes.length:=by
   rw[Z,zI,yI];omega
  have hnt:nodeTgt d m n=CG t.fields x.f:=by unfold nodeTgt;simp_all
  refine Tri.mono (mappedC (σ:=Sr×List Nd) (Qs:=FW vb mb gsl (idf ids)) (W:=W) (V:=V7) (caps:=[pv bv,pv bs,pv be,pv bf]) (λ_=>FW.over) htf hrc (by omega) (by simp_all) Tryz.call93
   (λi s o=>Vf d m f a1 nd1 t.fields x.f (BK ids t.fields x.f) i s o/\s.1.order.length+B0 m s.1<=m.nodes.length/\(∀z∈s.1.order,1<=z/\z<=(m.nodes.length:Int))/\B0 m s.1<=B0 m a1) ⟨.start hl1 hidl,hcap1,hrng1,yq _⟩ hq7 (λi fl w s o hf hw hst T=>?_) (λi fl w s o W1 V1 sW1 hqs hf hw Y hw0 hst=>?_)) ?_
  ·obtain⟨K,hc,hr,hu⟩:=hst;have C:=yi (l:=x.f) (i:=i) (by grind);refine⟨K.skip hf C ?_,hc,hr,hu⟩;rw[FX hf C]at hw;rcases T with T|T;·exact .inl T
   ·by_cases Y:AG fl.ty=true;·exact .inl Y
    ·rw[if_neg Y]at hw;refine .inr (Classical.byContradiction λh0=>?_);have hg:=HA J hf C (by simpa using Y) h0;have:=(N.at_ hg.1 hg.2).2.2.1;grind
  ·obtain⟨K,hc,hr,hu⟩:=hst;have C:=yi (l:=x.f) (i:=i) (by grind);obtain⟨z,hz⟩:∃z,x.f[i]?=some z:=⟨_,C⟩;rw[FX hf hz,if_neg (by simp[Y]),zG]at hw;subst hw;have hz0:z≠0:=λh=>hw0 (by rw[h];rfl);have hg:=HA J hf hz Y hz0;refine Tri.mono (enterV hT hln hv0 hv1 G N f W1 V1 s.1 s.2 z (S.sub sW1) hqs K.vx.len hg (by omega) hc hr) ?_;rintro _ V2 ⟨s',rfl,hq',he',hv',hm'⟩;have hcl:=(ent_cl G.mem f s.1 z hg (by omega)).1;rw[<-he']at hcl;exact⟨_,s',rfl,hq',K.next hl1 hf hz Y hz0 he' hv' hm',hcl.cap hc,hcl.rng hr,wH (I5 hcl.sub) hu⟩
  ·rintro _ V9 ⟨out,s,o,rfl,hq9,⟨K,hc9,hr9,hu9⟩,hol⟩;obtain⟨e1,e2,e3⟩:=K.done hlen hidl λj' fl x' w' hf' hx' hw' hk'=>by
    rw[FX hf' hx',zG]at hw';rcases hk' with hk'|hk';·simp_all
    ·subst hk';rw[<-hw'];split;·rfl
     ·rfl
   obtain⟨W2,ho2,E,A,h9⟩:=hq9;have s92:=h9.sub;have hnl9:=h9.nodes.n_eq;have hk9:s.2[nd.length]?=some ⟨x.ty,Af,[]⟩:=by
    rw[K.vx.old nd.length (by rw[B];simp),B,List.getElem?_append_right (yq _),Nat.sub_self];rfl
   have hkl:=(yj.1 hk9).1;have hS2:=(S.sub ho2.sub).sub s92;obtain⟨z9,-,-,-,-,hp9,hz9,-⟩:=h9.nodes.get (i:=nd.length) (by omega);have hidx:((H.n:Int)-1).toNat=nd.length:=by omega
   refine⟨out,rfl,_,An hS2.bV,nn,nn,AM,A,h9.cell 1 1 (by decide),⟨by omega,by omega⟩,hp9,by omega,by omega,Al hp9,?_⟩;rw[hidx];have hQ9:QL 3 1 (AO vb mb gsl A E (s.1.order.map (idf ids)) E A (s.1.order.map (idf ids)) s.2) out (o.flatMap Ah) W V9:=⟨W2,ho2,h9⟩;refine AO.fill hQ9 hk9 rfl rfl λV10 h10=>?_;have hpre:Vx d m a nd s.1 (s.2.set nd.length ⟨x.ty,out,o⟩):=by
    have hv:=K.vx;rw[ha1,B]at hv;have:=Vx.enter (sl:=out) hnl hxe hv (by rw[hfo];exact e2);grind
   have hn9:n∈s.1.order:=by
    obtain⟨u,hu⟩:=K.vx.pre;rw[hu,Z];simp
   have hpn:BQ s.1.order n=(H.n:Int):=by
    obtain⟨u,hu⟩:=K.vx.pre;have hna:n∈a1.order:=by rw[Z];simp
    rw[hu,rho_app hna,Z];unfold BQ;rw[if_neg (by omega),pos_new I];omega
   rw[hR];refine⟨(s.1,s.2.set nd.length ⟨x.ty,out,o⟩),?_,⟨E,A,h10⟩,?_,hpre,hn9⟩;·grind
   ·show s.1=A4 d m (f+1) a n;rw[e3,A4,if_neg I,hnt,ha1]
end
end Go.Proofs
namespace Go.Proofs
open Go Go.Sx
section
variable{d:Ds}{m m':Mm}
theorem Lu:∀(l c:List Int),l.Nodup->(∀x∈l,x∈c)->l.length<=c.length
 |[],_,_,_=>Nat.zero_le _
 |a::l,c,H,h=>by
  have J:a∈c:=h a List.mem_cons_self;have G:=Lu l (c.erase a) (List.nodup_cons.1 H).2 λx N=>by
   grind
  grind
theorem Ns{t:KB}{v:Int}(h:AQ d m t v=true)(H:AG t=false)(J:v≠0):1<=v/\v<=(m.nodes.length:Int):=by
 simp_all[plain_not,AQ,if_neg,decide_eq_true_eq,absurd]
end
end Go.Proofs
namespace Go.Proofs
open Go Go.Sx
def rngL(n:Nat):List Int:=(zB n).map λi:Nat=>(i:Int)+1
theorem Nt(n:Nat):(rngL n).length=n:=by unfold rngL;simp
theorem Lv{n i:Nat}(h:i<n):(rngL n)[i]?=some ((i:Int)+1):=by
 grind[rngL]
section
variable{d:Ds}{m:Mm}
theorem F2_map{B:Bj}{g:Int->Int}(J:∀x y,(x,y)∈B->y=g x){l H:List Int}(h:F2 B l H):H=l.map g:=by
 induction h with
 |nil=>rfl
 |cons h _ G=>grind
theorem ord_can(G:Ar d m):(AX d (AY (C3 d m))).order=rngL (AY (C3 d m)).nodes.length:=by
 have R:=G0 G.mem;have h:=reach_sim2 (sim_start G.mem Nl);rw[Lk (Hw m),Lk (Hw (AY (C3 d m)))]at h;have e:=F2_map (g:=BQ (AX d m).order) (λx y N=>by
  grind) h
 have Z:(AY (C3 d m)).nodes.length=(AX d m).order.length:=by simp[AY,C3]
 rw[e,Z];refine wR λi=>?_;by_cases J:i<(AX d m).order.length
 ·have H:=yi J;rw[Lv J,xI,H,zL];have Y:=R.rng _ (x8 H);unfold BQ;rw[if_neg (by omega),pos_at R.dup H]
 grind[uV,wI,Nt]
theorem rho_rng{n:Nat}{v:Int}(J:0<=v)(h:v<=(n:Int)):BQ (rngL n) v=v:=by
 unfold BQ;split;·omega
 ·rename_i hv;have H:(rngL n).Nodup:=by
   grind[rngL,uY]
  have:=pos_at H (Lv (n:=n) (i:=(v-1).toNat) (by omega));grind
theorem renL_rng{n:Nat}{m:Mm}{l:List Fld}{vs:List Int}(hv:Ax d m l vs=true)(P:m.nodes.length=n):BJ (rngL n) l vs=vs:=by
 obtain⟨A,Z⟩:=Ci.1 hv;refine wR λi=>?_;by_cases Y:i<vs.length
 ·have G:=yi (l:=l) (i:=i) (by omega);have H:=yi Y;rw[I7 G H,H];by_cases J:AG (l[i]'(by omega)).ty=true;·rw[if_pos J]
  ·rw[if_neg J];by_cases N:vs[i]=0;·rw[N,Gs]
   ·have:=Ns (Z i _ _ G H) (by simpa using J) N;grind[rho_rng]
 grind[BJ]
theorem map_idf{ids:List Int}:(rngL ids.length).map (idf ids)=ids:=by
 refine wR λi=>?_;rw[xI];by_cases H:i<ids.length
 ·rw[Lv H,zL];grind[idf]
 grind[uV,Nt]
theorem mm_ok{U V:Mem}{y:Mm}(H:Ds.Ok U d)(G:Ar d y)(Z:y.plain=m.plain)(Y:Ab V m.gs 1 (m.globals.map Ah))(P:Ab V m.ns 2 (m.nodes.map Nd.row))(A:∀n∈m.nodes,Ab V n.sl 1 (n.f.map Ah)):Mm.Ok V m:=by
 obtain⟨p1,K,p3,I,X⟩:=BO (G.plain Z).mem;have J:∀{t:List Fld}{vs:List Int},Ax d m t vs=true->∀v∈vs,Ep v:=λ{t vs} h v hv=>by
  obtain⟨j,N⟩:=wG.1 hv;obtain⟨B,C⟩:=Ci.1 h;have E:=(yj.1 N).1;have:=C j _ v (yi (by omega)) N;grind[AQ,Ep]
 refine⟨Y,J I,P,λn hm=>⟨A n hm,?_,J (X n hm)⟩⟩;have:=of_decide_eq_true (p3 n hm);have B:d.types.length<=9223372036854775807:=by
  have:=H.types.n_eq;have:=H.types.cap;have:=H.types.fit;omega
 grind[Ep]
end
end Go.Proofs
namespace Go.Proofs
open Go Go.Sx
section
variable{tr:List Tv}{mk mk':Int->Bool}{x:Tv}{u:Int}
theorem par_app(H:0<=u)(h:u<(tr.length:Int)):parV (tr++[x]) u=parV tr u:=by
 grind[parV]
theorem par_new:parV (tr++[x]) (tr.length:Int)=x.1:=by
 grind[parV]
theorem C4.push(h:C4 tr){v dp j:Int}(hv:0<=v/\v<(tr.length:Int))(H:0<=dp/\dp<=(tr.length:Int))(J:0<=j/\j<=(tr.length:Int)):C4 (tr++[(v,dp,j)]):=by
 have key:∀{P:Nat->Tv->Prop},(∀i y,tr[i]?=some y->P i y)->P tr.length (v,dp,j)->∀i y,(tr++[(v,dp,j)])[i]?=some y->P i y:=λh1 h2 i y G=>by
  grind
 refine⟨?_,key h.par ⟨hv.2,λ_=>hv.1,by omega⟩,key h.dep H,key h.jmp J⟩;obtain⟨a,b,l,e⟩:=h.z;simp_all
theorem nrst_app(H:C4 tr)(hm:∀u,u<(tr.length:Int)->mk' u=mk u):∀(f:Nat)(u:Int),u<(tr.length:Int)->nrst (tr++[x]) mk' f u=nrst tr mk f u
 |0,_,_=>rfl
 |f+1,u,h=>by
  rw[nrst,nrst,hm u h];split;·rfl
  rename_i J;rw[par_app (by omega) h];split;·rfl
  obtain⟨y,-,h1,h2,h3⟩:=par_rng H (n:=u) (by omega) h;exact nrst_app H hm f _ (by omega)
theorem Nu(H:C4 tr)(hm:∀u,u<(tr.length:Int)->mk' u=mk u)(h:u<(tr.length:Int)):Ef (tr++[x]) mk' u=Ef tr mk u:=by
 unfold Ef;rw[nrst_app H hm _ _ h,zI,yI];grind[Np]
theorem near_new(J:C4 tr)(H:C4 (tr++[x]))(hm:∀u,u<(tr.length:Int)->mk' u=mk u):Ef (tr++[x]) mk' (tr.length:Int)=if mk' (tr.length:Int)=true then some (tr.length:Int)else Ef tr mk x.1:=by
 have G:x.1<(tr.length:Int):=(H.par tr.length x uZ).1;grind[Lt,par_new,Nu]
end
theorem idx_appL{α:Type}{p:α->Bool}{l k:List α}(h:∃x∈l,p x=true):BH p (l++k)=BH p l:=by
 grind[BH]
theorem idx_appN{α:Type}{p:α->Bool}{l:List α}{a:α}(h:∀x∈l,p x=false)(H:p a=true):BH p (l++[a])=(l.length:Int):=by
 grind[BH]
def RcAdd(w:Int)(y y':Nn):Prop:=y'.recs=y.recs∨∃r:Rc,r.ver=w/\y'.recs=y.recs++[r]
section
variable{tr:List Tv}{x:Tv}{u:Int}{y y':Nn}{r:Rc}
theorem fldR_old(H:C4 tr)(hu:u<(tr.length:Int))(h:RcAdd (tr.length:Int) y y'):fldR (tr++[x]) y' u=fldR tr y u:=by
 rcases h with h|⟨r,h1,h⟩
 ·unfold fldR;rw[h,Nu (mk:=λm=>decide (m∈y.recs.map Rc.ver)) H (λ_ _=>rfl) hu]
 ·have hm:∀u,u<(tr.length:Int)->decide (u∈y'.recs.map Rc.ver)=decide (u∈y.recs.map Rc.ver):=λu hu=>by
   grind
  unfold fldR;rw[Nu (mk:=λm=>decide (m∈y.recs.map Rc.ver)) H hm hu];cases e:Ef tr (λm=>decide (m∈y.recs.map Rc.ver)) u with
  |none=>rfl
  |some a=>
   have J:a∈y.recs.map Rc.ver:=of_decide_eq_true (near_mk _ _ e);show y'.recs[_]?=y.recs[_]?;rw[h,yy,idx_appL ⟨a,J,decide_eq_true rfl⟩];rcases Cu (λy=>decide (a=y)) (y.recs.map Rc.ver)with⟨-,-,c3⟩|⟨i,z,c1,c2,-,c4,-⟩;·grind
   grind
theorem fldR_keep(J:C4 tr)(H:C4 (tr++[x]))(G:∀r∈y.recs,r.ver<(tr.length:Int))(h:y'.recs=y.recs):fldR (tr++[x]) y' (tr.length:Int)=fldR tr y x.1:=by
 unfold fldR;rw[h,near_new (mk:=λm=>decide (m∈y.recs.map Rc.ver)) J H (λ_ _=>rfl),if_neg];grind
theorem fldR_new(H:C4 (tr++[x]))(J:∀r∈y.recs,r.ver<(tr.length:Int))(h1:r.ver=(tr.length:Int))(h:y'.recs=y.recs++[r]):fldR (tr++[x]) y' (tr.length:Int)=some r:=by
 unfold fldR;rw[Lt H (by omega) (by simp;omega),if_pos (by grind)];show y'.recs[(BH (λy=>decide ((tr.length:Int)=y)) (y'.recs.map Rc.ver)).toNat]?=some r;rw[h,yy,uz,idx_appN (λz G=>decide_eq_false λe=>?_) (decide_eq_true h1.symm),wI,xa,uZ];grind
end
def Bu(ids:List Int)(n len:Nat):List Int:=ids++(zB (len-ids.length)).map λi:Nat=>(n:Int)+(i:Int)+1
section
variable{ids:List Int}{n len:Nat}
theorem J5(h:ids.length<=len):(Bu ids n len).length=len:=by
 grind[Bu]
theorem extI_old{k:Nat}(h:k<ids.length):(Bu ids n len)[k]?=ids[k]?:=by
 grind[Bu]
theorem extI_new{k:Nat}(h:ids.length<=k)(H:k<len):(Bu ids n len)[k]?=some ((n:Int)+((k-ids.length:Nat):Int)+1):=by
 grind[Bu]
theorem extI_dup(H:ids.Nodup)(J:∀x∈ids,x<=(n:Int)):(Bu ids n len).Nodup:=by
 unfold Bu;rw[uy];refine⟨H,ux _ (λa b h=>by omega) uY,λa G b N=>?_⟩;grind
theorem extI_rng(J:∀x∈ids,1<=x/\x<=(n:Int)):∀x∈Bu ids n len,1<=x/\x<=((n+(len-ids.length):Nat):Int):=λx H=>by
 unfold Bu at H;grind
end
structure NsAdd (d:Ds)(w:Int)(ns:List Nn)(ids:List Int)(m y:Mm)(ns':List Nn):Prop where
 len:ns'.length=ns.length+(y.nodes.length-ids.length)
 old:∀(j:Nat) z,ns[j]?=some z->∃z',ns'[j]?=some z'/\z'.ty=z.ty/\RcAdd w z z'
 same:∀(j k:Nat) z z' a b,ns[j]?=some z->ns'[j]?=some z'->ids[k]?=some ((j:Int)+1)->m.nodes[k]?=some a->y.nodes[k]?=some b->a.f=b.f->z'.recs=z.recs
 chg:∀(j k:Nat) z z' a b,ns[j]?=some z->ns'[j]?=some z'->ids[k]?=some ((j:Int)+1)->m.nodes[k]?=some a->y.nodes[k]?=some b->a.f≠b.f->∃r:Rc,r.ver=w/\z'.recs=z.recs++[r]/\r.f=BK (Bu ids ns.length y.nodes.length) (AL d b.ty) b.f
 fresh:∀(i:Nat) b,y.nodes[ids.length+i]?=some b->∃z' r,ns'[ns.length+i]?=some z'/\z'.ty=b.ty/\z'.recs=[r]/\r.ver=w/\r.f=BK (Bu ids ns.length y.nodes.length) (AL d b.ty) b.f
section
variable{d:Ds}{tr:List Tv}{ns ns':List Nn}{ids:List Int}{m y:Mm}{v dp jp:Int}
theorem idf_ext{len:Nat}{z:Int}(H:0<=z)(h:z<=(ids.length:Int)):idf (Bu ids ns.length len) z=idf ids z:=by
 unfold idf;split;·rfl
 ·rw[uN,uN,extI_old (by omega)]
theorem idL_ext{len:Nat}{l:List Fld}{vs:List Int}(hv:Ax d m l vs=true)(Y:m.nodes.length=ids.length):BK (Bu ids ns.length len) l vs=BK ids l vs:=by
 obtain⟨h1,h2⟩:=Ci.1 hv;refine wR λi=>?_;by_cases Z:i<vs.length
 ·have H:=yi (l:=l) (i:=i) (by omega);have J:=yi Z;rw[FX H J,FX H J];by_cases G:AG (l[i]'(by omega)).ty=true;·simp_all
  ·rw[if_neg G,if_neg G];by_cases N:vs[i]=0;·rw[N];rfl
   ·have:=Ns (h2 i _ _ H J) (by simpa using G) N;grind[idf_ext]
 grind[uV,J3]
theorem idL_ren{O e:List Int}{l:List Fld}{vs:List Int}(Y:l.length=vs.length)(P:O.Nodup)(A:∀z∈CG l vs,z∈O)(K:∀z∈O,1<=z/\z<=(e.length:Int)):BK (O.map (idf e)) l (BJ O l vs)=BK e l vs:=by
 have I:(BJ O l vs).length=vs.length:=by rw[renL_len Y];exact Y
 refine wR λi=>?_;by_cases X:i<vs.length
 ·have H:=yi (l:=l) (i:=i) (by omega);have N:=yi X;have B:=I7 (O:=O) H N;rw[FX H B,FX H N];by_cases J:AG (l[i]'(by omega)).ty=true;·simp_all
  ·rw[if_neg J,if_neg J,if_neg J];by_cases G:vs[i]=0;·rw[G,Gs];rfl
   ·have hm:vs[i]∈O:=A _ (GZ.2 ⟨i,_,H,N,by simpa using J,G⟩);obtain⟨j,Z⟩:=wG.1 hm;have C:=(yj.1 Z).1;have E:BQ O vs[i]=(j:Int)+1:=by unfold BQ;rw[if_neg G,pos_at P Z]
    rw[E];show some (idf (O.map (idf e)) ((j:Int)+1))=_;unfold idf;rw[if_neg (by omega),if_neg G,show((j:Int)+1-1).toNat=j by omega,uN,xI,Z,zL];simp_all
 grind[uV,J3]
end
end Go.Proofs
namespace Go.Proofs
open Go Go.Sx
structure RecOk (n:Nat)(ns:List Nn):Prop where
 dup:∀z∈ns,(z.recs.map Rc.ver).Nodup
 rng:∀z∈ns,∀r∈z.recs,0<=r.ver/\r.ver<(n:Int)
 ne:∀z∈ns,z.recs≠[]
theorem RecOk.len{n:Nat}{ns:List Nn}(h:RecOk n ns){z:Nn}(H:z∈ns):z.recs.length<=n:=by
 have:=Lu _ ((zB n).map λi:Nat=>(i:Int)) (h.dup z H) λx J=>by
  obtain⟨r,h1,rfl⟩:=uE.1 J;have:=h.rng z H r h1;exact uE.2 ⟨r.ver.toNat,yo.2 (by omega),by omega⟩
 simpa using this
section
variable{d:Ds}{tr:List Tv}{ns ns':List Nn}{ids:List Int}{m y:Mm}{v dp jp:Int}{n:Nat}
theorem RecOk.add(h:RecOk n ns)(A:NsAdd d (n:Int) ns ids m y ns')(C:ids.length<=y.nodes.length):RecOk (n+1) ns':=by
 have key:∀z'∈ns',(∃z∈ns,RcAdd (n:Int) z z')∨∃r:Rc,z'.recs=[r]/\r.ver=(n:Int):=λz' H=>by
  obtain⟨j,P⟩:=wG.1 H;have I:=(yj.1 P).1;have Z:=A.len;by_cases N:j<ns.length
  ·have J:=yi N;obtain⟨w,h1,h2,h3⟩:=A.old j _ J;grind
  ·have Y:=yi (l:=y.nodes) (i:=ids.length+(j-ns.length)) (by omega);obtain⟨w,r,h1,-,h3,h4,-⟩:=A.fresh _ _ Y;grind
 refine⟨λz' H=>?_,λz' H r G=>?_,λz' H=>?_⟩
 ·rcases key z' H with⟨z,J,h1|⟨r,h1,h2⟩⟩|⟨r,h1,h2⟩;·rw[h1];exact h.dup z J
  ·rw[h2,yy,uz,uy];refine⟨h.dup z J,by simp,λa X b Y=>?_⟩;obtain⟨q,B,rfl⟩:=uE.1 X;have:=h.rng z J q B;grind
  ·rw[h1];simp
 ·rcases key z' H with⟨z,J,h1|⟨q,h1,h2⟩⟩|⟨q,h1,h2⟩;·rw[h1]at G;have:=h.rng z J r G;omega
  ·rw[h2]at G;rcases wL.1 G with G|G;·have:=h.rng z J r G;omega
   grind
  grind
 ·rcases key z' H with⟨z,J,h1|⟨q,h1,h2⟩⟩|⟨q,h1,h2⟩;·rw[h1];exact h.ne z J
  ·rw[h2];simp
  ·rw[h1];simp
theorem EN.keep{x:Tv}{u:Int}(G:C4 tr)(N:EN d tr ns u m ids)(hu:u<(tr.length:Int))(Z:∀(j:Nat) z,ns[j]?=some z->∃z',ns'[j]?=some z'/\z'.ty=z.ty/\RcAdd (tr.length:Int) z z')(C:ns.length<=ns'.length)(H:RecOk (tr.length+1) ns')(Y:tr.length+1<=1000):EN d (tr++[x]) ns' u m ids:=by
 refine⟨N.len,N.dup,λz P=>?_,λk a id A hid=>?_⟩;·have:=N.rng z P;omega
 ·obtain⟨z,rc,h1,h2,h3,h4,E,K⟩:=N.node k a id A hid;obtain⟨z',J,I,X⟩:=Z _ z h1;have hm:=x8 J;refine⟨z',rc,J,I.trans h2,by rw[fldR_old G hu X];exact h3,h4,λr B=>?_,wH (H.len hm) Y⟩;have:=H.rng z' hm r B;simp_all
theorem EN.new(hT:C4 tr)(C:C4 (tr++[(v,dp,jp)]))(G:Ar d m)(Gy:Ar d y)(N:EN d tr ns v m ids)(hR0:RecOk tr.length ns)(hty:∀(k:Nat) a b,m.nodes[k]?=some a->y.nodes[k]?=some b->b.ty=a.ty)(hl:m.nodes.length<=y.nodes.length)(A:NsAdd d (tr.length:Int) ns ids m y ns')(hc:tr.length+1<=1000):
  EN d (tr++[(v,dp,jp)]) ns' (tr.length:Int) (AY (C3 d y)) ((AX d y).order.map (idf (Bu ids ns.length y.nodes.length))):=by
 have R:=G0 Gy.mem;have hil:=N.len;have T:ids.length<=y.nodes.length:=by omega
 have hR:=hR0.add A T;obtain⟨e,K⟩:∃e,e=Bu ids ns.length y.nodes.length:=⟨_,rfl⟩;have hel:e.length=y.nodes.length:=by rw[K];exact J5 T
 have hed:e.Nodup:=by rw[K];exact extI_dup N.dup λx S=>(N.rng x S).2
 have her:∀x∈e,1<=x/\x<=(ns'.length:Int):=by rw[K,A.len];exact extI_rng N.rng
 rw[<-K];have Y:∀n,1<=n/\n<=(y.nodes.length:Int)->e[(n-1).toNat]?=some (idf e n):=λn hn=>by
  have S:=yi (l:=e) (i:=(n-1).toNat) (by omega);rw[S];unfold idf;rw[if_neg (by omega),uN,S];rfl
 refine⟨by simp[AY,C3],?_,λx S=>?_,λk a id J hid=>?_⟩
 ·refine ux (R:=λa b=>a≠b/\(1<=a/\a<=(y.nodes.length:Int))/\1<=b/\b<=(y.nodes.length:Int)) _ (λa b ⟨h1,h2,h3⟩ h=>h1 ?_) ?_
  ·have ea:=Y a h2;have eb:=Y b h3;rw[h]at ea;have:=(uW (yj.1 ea).1 hed).1 (ea.trans eb.symm);omega
  ·exact List.Pairwise.imp_of_mem (λJ P h=>⟨h,R.rng _ J,R.rng _ P⟩) R.dup
 ·obtain⟨n,hn,rfl⟩:=uE.1 S;exact her _ (x8 (Y n (R.rng n hn)))
 ·rw[xI]at hid;cases hO:(AX d y).order[k]? with
  |none=>simp_all
  |some n=>
   rw[hO]at hid;have hid:id=idf e n:=(vk hid).symm;subst hid;have hn:=R.rng n (x8 hO);have P:=yi (l:=y.nodes) (i:=(n-1).toNat) (by omega);obtain⟨b,P⟩:∃b,y.nodes[(n-1).toNat]?=some b:=⟨_,P⟩;obtain⟨sl,hs⟩:=(Nl (d:=d) (m:=y)).at_ k n b hO P;rw[hs]at J;have J:=(vk J).symm;subst J;have hbv:=(BO Gy.mem).2.2.2.2 b (x8 P);have U:BK ((AX d y).order.map (idf e)) (AL d b.ty) (BJ (AX d y).order (AL d b.ty) b.f)=BK e (AL d b.ty) b.f:=by
    refine idL_ren (Ci.1 hbv).1 R.dup (λz hz=>R.shut n (x8 hO) z ?_) λz hz=>?_;·simp_all[nodeTgt]
    ·rw[hel];exact R.rng z hz
   have Z:∀z'∈ns',∀r∈z'.recs,0<=r.ver/\r.ver<((tr++[(v,dp,jp)]).length:Int):=λz' hz' r hr=>by
    have:=hR.rng z' hz' r hr;simp_all
   have hei:=Y n hn;by_cases hk:(n-1).toNat<ids.length
   ·have hid:ids[(n-1).toNat]?=some (idf e n):=by rw[<-extI_old (n:=ns.length) (len:=y.nodes.length) hk,<-K];exact hei
    obtain⟨a,J⟩:∃a,m.nodes[(n-1).toNat]?=some a:=⟨_,yi (by omega)⟩;obtain⟨z,rc,h1,h2,h3,h4,h5,h6⟩:=N.node _ a _ J hid;obtain⟨z',I,g2,g3⟩:=A.old _ z h1;have hir:=N.rng _ (x8 hid);have X:ids[(n-1).toNat]?=some (((idf e n-1).toNat:Nat)+1:Int):=by rw[hid];congr 1;omega
    have ht:=hty _ a b J P;have H:=x8 I;have B:∀r∈z.recs,r.ver<(tr.length:Int):=λr hr=>(h5 r hr).2;by_cases hf:a.f=b.f
    ·have E:=A.same _ _ z z' a b h1 I X J P hf;refine⟨z',rc,I,by rw[g2,h2,ht],?_,?_,Z z' H,wH (hR.len H) hc⟩;·rw[fldR_keep hT C B E];exact h3
     ·have hav:=(BO G.mem).2.2.2.2 a (x8 J);show rc.f=BK _ (AL d b.ty) (BJ _ (AL d b.ty) b.f);rw[U,h4,ht,<-hf,K,idL_ext hav hil.symm]
    ·obtain⟨r,r1,r2,r3⟩:=A.chg _ _ z z' a b h1 I X J P hf;refine⟨z',r,I,by rw[g2,h2,ht],fldR_new C B r1 r2,?_,Z z' H,wH (hR.len H) hc⟩;simp_all
   ·have hb':y.nodes[ids.length+((n-1).toNat-ids.length)]?=some b:=by simp_all
    obtain⟨z',r,I,g2,g3,g4,g5⟩:=A.fresh _ b hb';have hid:idf e n=(ns.length:Int)+(((n-1).toNat-ids.length:Nat):Int)+1:=by
     have:=extI_new (ids:=ids) (n:=ns.length) (len:=y.nodes.length) (by omega) (show(n-1).toNat<y.nodes.length by omega);simp_all
    rw[hid,show((ns.length:Int)+(((n-1).toNat-ids.length:Nat):Int)+1-1).toNat=ns.length+((n-1).toNat-ids.length)by omega];have H:=x8 I;refine⟨z',r,I,g2,fldR_new (y:=⟨0,Af,[]⟩) C (λ_ h=>by cases h) g4 g3,?_,Z z' H,wH (hR.len H) hc⟩;simp_all
end
end Go.Proofs
namespace Go.Proofs
open Go Go.Sx
structure PsV where
 m:List Int×List (Int×List Int)
 ids:List Int
 par:Int
def PsV.pv(x:PsV):PV:=⟨x.m,[x.par],0⟩
def psv0:PsV:=⟨([],[]),[],-1⟩
structure PsS where
 vs:List PsV
 n:Nat
 wr:Int
def Dl(l:List (Int×Int×Int)):Int:=((l.filter λa=>decide (a.1=2)&&!decide (a.2.1=0)).length:Int)
def Fx(d:Ds)(n:Nat)(x:PsV)(y:Mm)(v:Int):PsV:=⟨C3 d y,(AX d y).order.map (idf (Bu x.ids n y.nodes.length)),v⟩
def Bo(s:PsS)(v:Int):PsV:=s.vs.getD v.toNat psv0
def G5(d:Ds)(s:PsS)(v:Int)(r:Rx Int):PsS:=if CV r=0 then⟨s.vs++[Fx d s.n (Bo s v) r.st.mm v],s.n+(r.st.mm.nodes.length-(Bo s v).ids.length),s.wr+Dl r.st.lg⟩else s
def CL(d:Ds)(s:PsS)(v:Int)(r:Rx Int)(er:Int):PsS:=if er=0 then G5 d s v r else s
def psMem(s:PsS)(v:Int):Mm:=memS (s.vs.map PsV.pv) v
def AZ(d:Ds)(F:Nat)(s:PsS)(v:Int)(nm:KB)(args:List Int):Rx Int:=Dw d F (AV d nm) args (Bf (psMem s v))
def AH(d:Ds)(F:Int)(s:PsS)(v:Int)(nm:KB)(args:List Int):Int:=CR d F (s.vs.map PsV.pv) v nm args
theorem Pe{d:Ds}{n:Nat}{x:PsV}{y y':Mm}{v:Int}(h:y.plain=y'.plain):Fx d n x y v=Fx d n x y' v:=by
 have H:y.nodes.length=y'.nodes.length:=by
  have:=congrArg (λx:List Int×List (Int×List Int)=>x.2.length) h;simpa [Mm.plain]using this
 grind[Fx,canP_plain,Lk]
structure If (d:Ds)(tr:List Tv)(gs:List Gl)(ns:List Nn)(vs:List PsV):Prop where
 trok:C4 tr
 len:tr.length=vs.length
 gl:gs.length=vs.length
 par:tr.map (·.1)=vs.map PsV.par
 good:∀v∈vs,Ar d (AY v.m)
 can:∀v∈vs,(AX d (AY v.m)).order=rngL v.m.2.length
 nod:∀(i:Nat) v,vs[i]?=some v->EN d tr ns (i:Int) (AY v.m) v.ids
 glob:∀(i:Nat) v g,vs[i]?=some v->gs[i]?=some g->g.v=BK v.ids d.globals v.m.1
 rcs:RecOk tr.length ns
theorem snoc_ind{α:Type}{P:Nat->α->Prop}{l:List α}{a:α}(h:∀i y,l[i]?=some y->P i y)(H:P l.length a):∀i y,(l++[a])[i]?=some y->P i y:=λi y J=>by
 grind
section
variable{d:Ds}{tr:List Tv}{gs:List Gl}{ns ns':List Nn}{vs:List PsV}{v dp jp:Int}{x:PsV}{y:Mm}{g:Gl}
theorem If.add(I:If d tr gs ns vs)(U:0<=v)(C:vs[v.toNat]?=some x)(J:Ar d y)(E:∀(k:Nat) a b,(AY x.m).nodes[k]?=some a->y.nodes[k]?=some b->b.ty=a.ty)(K:(AY x.m).nodes.length<=y.nodes.length)(A:NsAdd d (tr.length:Int) ns x.ids (AY x.m) y ns')(hd:0<=dp/\dp<=(tr.length:Int))(hj:0<=jp/\jp<=(tr.length:Int))
  (hg:g.v=BK (Bu x.ids ns.length y.nodes.length) d.globals y.globals) (hc:tr.length+1<=1000):If d (tr++[(v,dp,jp)]) (gs++[g]) ns' (vs++[Fx d ns.length x y v]):=by
 have hvl:=(yj.1 C).1;have H:=I.len;have Z:C4 (tr++[(v,dp,jp)]):=I.trok.push ⟨U,by omega⟩ hd hj;have N:=I.nod _ x C;rw[uK U]at N;have G:=I.good x (x8 C);have hil:=N.len;have Y:x.ids.length<=y.nodes.length:=by omega
 have hR:=I.rcs.add A Y;have S:ns.length<=ns'.length:=by rw[A.len];omega
 have R:=G0 J.mem;have X:=I.gl;refine⟨Z,by simp[H],by simp[X],by rw[yy,yy,I.par];rfl,λw hw=>?_,λw hw=>?_,snoc_ind (P:=λi (w:PsV)=>EN d (tr++[(v,dp,jp)]) ns' (i:Int) (AY w.m) w.ids) (λi w hw=>?_) ?_,λi w q hw B=>?_,by simp_all⟩
 ·rcases wL.1 hw with hw|hw;·exact I.good w hw
  ·rw[zR.1 hw];exact can_good J Nl
 ·rcases wL.1 hw with hw|hw;·exact I.can w hw
  ·rw[zR.1 hw];have:=ord_can J;rw[show(AY (C3 d y)).nodes.length=(C3 d y).2.length by simp[AY]]at this;exact this
 ·have hi:=(yj.1 hw).1;exact(I.nod i w hw).keep I.trok (by omega) A.old S hR hc
 ·rw[<-H];exact EN.new I.trok Z G J N I.rcs E K A hc
 ·by_cases hi:i<vs.length
  ·rw[wK hi]at hw;rw[wK (by omega)]at B;exact I.glob i w q hw B
  ·have K:=(yj.1 hw).1;rw[zI,yI]at K;obtain rfl:i=vs.length:=by omega
   rw[uZ]at hw;rw[<-X,uZ]at B;cases hw;cases B;rw[hg];have T:=(BO J.mem).2.2.2.1;show _=BK ((AX d y).order.map _) d.globals (BJ (AX d y).order d.globals y.globals);rw[idL_ren (Ci.1 T).1 R.dup R.glob λz hz=>?_];rw[J5 Y];exact R.rng z hz
end
end Go.Proofs
namespace Go.Proofs
open Go Go.Sx
theorem wrL_cons(a:Int×Int×Int)(l:List (Int×Int×Int)):Dl (a::l)=(if a.1=2/\a.2.1≠0 then 1 else 0)+Dl l:=by
 grind[Dl]
theorem wrL_app(l k:List (Int×Int×Int)):Dl (l++k)=Dl l+Dl k:=by simp[Dl]
theorem tra_chg{x y:Gm}{l:List (Int×Int×Int)}(h:Ec x l y):∀(k:Nat) t f J f',x.2[k]?=some (t,f)->y.2[k]?=some (J,f')->f≠f'->∃a∈l,a.1=2/\a.2.1=(k:Int)+1:=by
 induction h with
 |nil x=>simp_all
 |rd _ H=>
  grind
 |wg G _ H=>
  grind
 |@wf g ns y l j i ty v Z Y G _ H=>
  intro k t f J f' h1 h2 N;by_cases e:j=k;·simp_all
  grind
 |@al g ns y l ty n _ H=>
  grind
def chgB(m y:Mm)(i:Nat):Bool:=!decide (m.nodes[i]?.map Nd.f=y.nodes[i]?.map Nd.f)
def chgN(k:Nat)(m y:Mm):Nat:=((zB k).filter (chgB m y)).length
theorem chgN_succ{k:Nat}{m y:Mm}:chgN (k+1) m y=chgN k m y+if chgB m y k=true then 1 else 0:=by
 grind[chgN,List.range_succ,chgB]
theorem chg_wr{m y:Mm}{l:List (Int×Int×Int)}{k:Nat}(h:Ec m.plain l y.plain)(N:k<=m.nodes.length)(Z:m.nodes.length<=y.nodes.length):(chgN k m y:Int)<=Dl l:=by
 have:=Lu (((zB k).filter (chgB m y)).map λi:Nat=>(i:Int)+1) ((l.filter λa=>decide (a.1=2)&&!decide (a.2.1=0)).map (·.2.1)) (ux _ (λa b h=>by omega) (uY.filter _)) λx G=>by
  obtain⟨i,H,rfl⟩:=uE.1 G;obtain⟨H,J⟩:=ym.1 H;have H:=yo.1 H;have h1:=yi (l:=m.nodes) (i:=i) (by omega);have h2:=yi (l:=y.nodes) (i:=i) (by omega);unfold chgB at J;rw[h1,h2]at J;obtain⟨a,Y,P,e2⟩:=tra_chg h i m.nodes[i].ty m.nodes[i].f y.nodes[i].ty y.nodes[i].f (by show(m.nodes.map _)[i]?=_;grind) (by show(y.nodes.map _)[i]?=_;grind) (by simpa using J);grind
 grind[Dl,chgN]
def DB(ns:List Nn):Nat:=(ns.map λz=>z.recs.length).sum
theorem recN_app(l k:List Nn):DB (l++k)=DB l+DB k:=by simp[DB]
theorem recN_set:∀{ns:List Nn}{j:Nat}{z z':Nn},ns[j]?=some z->DB (ns.set j z')+z.recs.length=DB ns+z'.recs.length
 |[],_,_,_,h=>by simp at h
 |a::l,0,z,z',h=>by
  grind[DB]
 |a::l,j+1,z,z',h=>by
  have H:=recN_set (z':=z') (by simpa using h:l[j]?=some z);grind[DB]
end Go.Proofs
namespace Go.Proofs
open Go Go.Sx
set_option maxRecDepth 100000
section
variable{V:Mem}{R:RP}
noncomputable def c64a:List Code:=((AU (Az Tryz.f64) []).drop 0).take 3
def w64a(a:Option Addr)(b:Int):MR:=λV R=>GenK xS (.makeMap 92 none) 92 (gv []) V λx V1=>∃c,x=uM c/\Ag [uP a] 34 V1 λd V2=>Ag [uI b] 3 V2 λg H=>Ag [z0,z0,z0,uM c] 105 H λi J=>Ag [uP (Aa i 0)] 101 J λj G=>Ag [.nilFunc] 177 G λk N=>R (rT #[uP (Aa d 0),uP (Aa g 0),uP (Aa j 0),uP (Aa k 0)]) N
theorem s64a{a:Option Addr}{b:Int}{V:Mem}{R:KZ}(h:w64a a b V (OV R)):AI xS 30 c64a [(0,uP a),(1,uI b)] [2,3,5,6] V R:=
 Cm (H:=hK 30) [(0,(.var .p 0)),(1,(.var (.i .i64) 1))] [uP a,uI b] rfl (by kernel_rfl) h
noncomputable def c64b:List Code:=((AU (Az Tryz.f64) []).drop 3).take 3
def w64b(a b c d:Option Addr):MR:=λV R=>Ak d 0 [.func (.func 93) #[] #[uP c,uP a,uP b,uP d]] V λV1=>∃g,V1.rowp c ((0:Int).toNat*1) 1=some [uP g]/\∃i,V1.rowp a ((0:Int).toNat*1) 1=some [uP i]/\N2 i (¬(Aa i 0)=none/\∃j,V1.rowp i 2 1=some [uL j]/\∃k,V1.rowp a ((0:Int).toNat*1) 1=some [uP k]/\N2 k (∃l,V1.rowp k 9 1=some [uL l]/\∃o,V1.rowp b ((0:Int).toNat*1) 1=some [uI o]/\Ix l o (∃p,V1.rowp l.p (o.toNat*1) 1=some [uL p]/\∃q,K.f.ok q/\V1.rowp d ((0:Int).toNat*1) 1=some [q]/\TL 78 #[uL j,uL p,K.cast .f q] V1 λr V2=>V2.rowp c 0 1=some [uP g]/\N2 g (¬(Aa g 0)=none/\Ak (Aa g 0) 0 [uL r] V2 λH=>∃s,H.rowp c ((0:Int).toNat*1) 1=some [uP s]/\R (rT #[uP s]) H))))
theorem s64b{a b c d:Option Addr}{V:Mem}{R:KZ}(h:w64b a b c d V (OV R)):AI xS 30 c64b [(2,uP a),(3,uP b),(5,uP c),(6,uP d)] [4] V R:=
 Cm (H:=hK 30) [(2,(.var .p 0)),(3,(.var .p 1)),(5,(.var .p 2)),(6,(.var .p 3))] [uP a,uP b,uP c,uP d] rfl (by kernel_rfl) h
end
end Go.Proofs
