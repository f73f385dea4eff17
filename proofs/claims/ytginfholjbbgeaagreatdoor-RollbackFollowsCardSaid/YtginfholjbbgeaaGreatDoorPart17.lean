/- Part 17 of a proof of a law of this seat: no statement of the seat is proved here. -/
import Derived.Test.YtginfholjbbgeaaGreatDoorPart16
import Derived.Test.YtginfholjbbgeaaGreatDoorPart15
import Derived.Test.YtginfholjbbgeaaGreatDoorPart09
set_option linter.unusedVariables false
set_option linter.unusedSimpArgs false
namespace Go.Proofs
open Go Go.Sx
mutual
def eEr:E->E | .mk o n s _ k=>.mk o n s qAt (qFw k)
def qFw:List E->List E | []=>[] | x::xs=>eEr x::qFw xs
end
mutual
def sEr:S->S | .mk o s _ es _ ls _ xs=>.mk o s qAt (qFw es) qAt (qGn ls) qAt (qGn xs)
def qGn:List S->List S | []=>[] | x::xs=>sEr x::qGn xs
end
def tEr(t:Ty):Ty:=⟨t.name,qAt,t.fields⟩
def pEr(p:Pr):Pr:=⟨p.name,qAt,p.params,p.result,qAt,p.locals,qAt,qGn p.body⟩
def dEr(d:Ds):Ds:=⟨d.name,qAt,d.types.map tEr,qAt,d.globals,qAt,d.procs.map pEr,qAt,[],qAt,[],qAt,[],qAt,[]⟩
theorem qET:∀l:List E,qFw l=l.map eEr
 | []=>by unfold qFw;rfl
 | x::xs=>by unfold qFw;rw[qET xs];rfl
theorem qHw:∀l:List S,qGn l=l.map sEr
 | []=>by unfold qGn;rfl
 | x::xs=>by unfold qGn;rw[qHw xs];rfl
theorem eErs_len(l:List E):(qFw l).length=l.length:=by rw[qET,List.length_map]
theorem sErs_len(l:List S):(qGn l).length=l.length:=by rw[qHw,List.length_map]
mutual
theorem okE_er:∀(k:Int) (e:E),okE k (eEr e)=okE k e
 | k,.mk o n s _ l=>by unfold eEr okE;rw[eErs_len,okEs_er]
theorem okEs_er:∀(k:Int) (l:List E),okEs k (qFw l)=okEs k l
 | _,[]=>by unfold qFw;rfl
 | k,x::xs=>by unfold qFw okEs;rw[okE_er,okEs_er]
end
mutual
theorem szE_er:∀e:E,szE (eEr e)=szE e
 | .mk o n s _ l=>by unfold eEr szE;rw[szEs_er]
theorem szEs_er:∀l:List E,szEs (qFw l)=szEs l
 | []=>by unfold qFw;rfl
 | x::xs=>by unfold qFw szEs;rw[szE_er,szEs_er]
end
theorem validE_er(e:E):qAI (eEr e)=qAI e:=by unfold qAI;rw[okE_er,szE_er]
theorem fop_er:∀l:List E,fop (qFw l)=fop l
 | []=>by unfold qFw;rfl
 | .mk o n s _ l::xs=>by rfl
theorem shapeR_er(op:Int)(s:ByteArray)(es:List E)(nl nx:Int):qBB op s (qFw es) nl nx=qBB op s es nl nx:=by
 unfold qBB qFd
 have:(qFw es).all qAI=es.all qAI:=by
  rw[qET,List.all_map]
  simp_all [congrArg,funext,validE_er]
 rw[eErs_len,fop_er,this]
mutual
theorem okS_er:∀(k:Int) (e:S),okS k (sEr e)=okS k e
 | k,.mk o s _ es _ ls _ xs=>by unfold sEr okS;rw[sErs_len,sErs_len,shapeR_er,qKe,qKe]
theorem qKe:∀(k:Int) (l:List S),qFQ k (qGn l)=qFQ k l
 | _,[]=>by unfold qGn;rfl
 | k,x::xs=>by unfold qGn qFQ;rw[okS_er,qKe]
end
mutual
theorem szS_er:∀e:S,szS (sEr e)=szS e
 | .mk o s _ es _ ls _ xs=>by unfold sEr szS;rw[qJK,qJK]
theorem qJK:∀l:List S,qEg (qGn l)=qEg l
 | []=>by unfold qGn;rfl
 | x::xs=>by unfold qGn qEg;rw[szS_er,qJK]
end
theorem qGk{α β:Type}{f:α->β}{p:β->Bool}{q:α->Bool}(l:List α)(h:∀x,p (f x)=q x):(l.map f).all p=l.all q:=by
 grind
theorem qKI{α β:Type}{f:α->β}{p:β->Bool}{q:α->Bool}(l:List α)(h:∀x,p (f x)=q x):(l.map f).any p=l.any q:=by
 grind
theorem idx_map{α β:Type}{f:α->β}{p:β->Bool}{q:α->Bool}(l:List α)(h:∀x,p (f x)=q x):qHC p (l.map f)=qHC q l:=by
 unfold qHC
 have e:p ∘ f=q:=funext h
 simp_all
theorem find_map'{α β:Type}{f:α->β}{p:β->Bool}{q:α->Bool}(l:List α)(h:∀x,p (f x)=q x):(l.map f).find? p=(l.find? q).map f:=by
 rw[List.find?_map]
 have e:p ∘ f=q:=funext h
 rw[e]
theorem qEB{α β γ:Type}{f:α->β}{p:Nat->β->Option γ}{q:Nat->α->Option γ}:∀(l:List α) (i:Nat),(∀j x,p j (f x)=q j x)->qAh p i (l.map f)=qAh q i l
 | [],_,_=>rfl
 | x::l,i,h=>by
  unfold List.map qAh
  rw[h,qEB l (i+1) h]
theorem tyB_er(t:Ty):tyB (tEr t)=tyB t:=rfl
theorem prB_er(p:Pr):prB (pEr p)=prB p:=by
 unfold prB qDL
 show (qAQ p.name&&qDb p.params 6&&qDb p.locals 12&&(decide (p.result=qAl [])||typB p.result)&&decide (qFQ 1 (qGn p.body)=true/\qEg (qGn p.body)<=200))=_
 rw[qKe,qJK]
section
variable(d:Ds)
theorem valid_er(h:qAK d=true):qAK (dEr d)=true:=by
 unfold qAK at h ⊢
 simp only[Bool.and_eq_true,decide_eq_true_eq]at h ⊢
 refine⟨⟨⟨⟨⟨⟨⟨h.1.1.1.1.1.1.1,?_⟩,h.1.1.1.1.1.2⟩,?_⟩,rfl⟩,?_⟩,?_⟩,rfl⟩
 ·have:=h.1.1.1.1.1.1.2
  show ((d.types.map tEr).length:Int)<=12
  simp_all
 ·have:=h.1.1.1.1.2
  show ((d.procs.map pEr).length:Int)<=40
  simp_all
 ·show (d.types.map tEr).all tyB=true
  grind [qGk,tyB_er]
 ·show (d.procs.map pEr).all prB=true
  rw[qGk _ prB_er];exact h.1.2
theorem valid_re(h:qAK (dEr d)=true)(h1:d.measures=[])(h2:d.invs=[])(h3:d.pots=[])(h4:d.bounds=[]):qAK d=true:=by
 unfold qAK at h ⊢
 simp only[Bool.and_eq_true,decide_eq_true_eq]at h ⊢
 refine⟨⟨⟨⟨⟨⟨⟨h.1.1.1.1.1.1.1,?_⟩,h.1.1.1.1.1.2⟩,?_⟩,?_⟩,?_⟩,?_⟩,?_⟩
 ·grind [dEr,tEr]
 ·grind [dEr,pEr]
 ·grind [lensB]
 ·have:=h.1.1.2
  rw[show (dEr d).types=d.types.map tEr from rfl,qGk _ tyB_er]at this;exact this
 ·have:=h.1.2
  rw[show (dEr d).procs=d.procs.map pEr from rfl,qGk _ prB_er]at this;exact this
 grind [qIV]
theorem qIr(s:ByteArray):qAW (dEr d) s=qAW d s:=qKI (f:=tEr) _ fun _=>rfl
theorem qKn(s:ByteArray):qBf (dEr d) s=qBf d s:=by unfold qBf;rw[qIr]
theorem fits_er(a b:ByteArray):qDu (dEr d) a b=qDu d a b:=by unfold qDu;rw[qIr]
theorem tyOf_er(s:ByteArray):qIN (dEr d) s=(qIN d s).map tEr:=find_map' (f:=tEr) _ fun _=>rfl
theorem prOf_er(s:ByteArray):qEW (dEr d) s=(qEW d s).map pEr:=find_map' (f:=pEr) _ fun _=>rfl
theorem fieldT_er(t n:ByteArray):qBS (dEr d) t n=qBS d t n:=by
 unfold qBS
 rw[tyOf_er]
 cases qIN d t <;> rfl
theorem fitAll_er:∀(l:List ByteArray) (fs:List Fld),qCf (dEr d) l fs=qCf d l fs
 | a::l,f::fs=>by unfold qCf;rw[fits_er,fitAll_er]
 | [],_=>by simp[qCf]
 | _::_,[]=>by simp[qCf]
theorem callT_er(n:ByteArray)(l:List ByteArray):qFa (dEr d) n l=qFa d n l:=by
 unfold qFa
 rw[prOf_er]
 cases qEW d n with
 | none=>rfl
 | some p =>
  show (if l.length≠p.params.length then _ else if qCf (dEr d) l p.params=true then _ else _)=_
  rw[fitAll_er];rfl
theorem nodeT_er{sc:Sc}(hb:sc.body=true)(op:Int)(s:ByteArray)(l:List ByteArray):qFp (dEr d) sc op s l=qFp d sc op s l:=by
 unfold qFp qHq
 rw[if_pos hb,if_pos hb]
 simp only[fieldT_er,qIr,callT_er,fits_er]
mutual
theorem exprT_er{sc:Sc}(hb:sc.body=true):∀e:E,qAn (dEr d) sc (eEr e)=qAn d sc e
 | .mk o n s _ k=>by unfold eEr qAn;rw[qFL hb,nodeT_er d hb]
theorem qFL{sc:Sc}(hb:sc.body=true):∀(acc:List ByteArray) (l:List E),partsT (dEr d) sc acc (qFw l)=partsT d sc acc l
 | _,[]=>by rfl
 | acc,x::xs=>by unfold qFw partsT;rw[exprT_er hb,qFL hb]
end
theorem stmtT_er{sc:Sc}(hb:sc.body=true)(r:ByteArray)(op:Int)(s:ByteArray)(es:List E):qEn (dEr d) sc r op s (qFw es)=qEn d sc r op s es:=by
 unfold qEn
 rw[qFL d hb]
 simp only[fits_er,fieldT_er]
 congr 1
 match es with
 | []=>unfold qFw;rfl
 | .mk o n s _ k::es =>
  grind [qFw,eEr,E.k,E.s,qFL,callT_er]
mutual
theorem stT_er{sc:Sc}(hb:sc.body=true)(r:ByteArray):∀(n:Int) (e:S),stT (dEr d) sc r n (sEr e)=stT d sc r n e
 | n,.mk o s _ es _ ls _ xs=>by
  unfold sEr stT
  rw[stmtT_er d hb,qJM hb r (n+1) ls,qJM hb r _ xs]
theorem qJM{sc:Sc}(hb:sc.body=true)(r:ByteArray):∀(n:Int) (l:List S),qBF (dEr d) sc r n (qGn l)=qBF d sc r n l
 | _,[]=>by rfl
 | n,x::xs=>by unfold qGn qBF;rw[stT_er hb,qJM hb]
end
theorem oneT_er(l:List Fld)(i:Nat)(f:Fld):qEh (dEr d) l i f=qEh d l i f:=by unfold qEh;rw[qKn]
theorem declT_er(l:List Fld):qCi (dEr d) l=qCi d l:=by
 grind [qCi,oneT_er]
theorem types_er:qFb (dEr d)=qFb d:=by
 unfold qFb
 congr 1
 ·unfold types1
  refine qEB (f:=tEr) d.types 0 fun j x=>?_
  rw[show (dEr d).types=d.types.map tEr from rfl,<- List.map_take,qKI (f:=tEr) (q:=fun g=>decide (g.name=x.name)) _ fun _=>rfl]
  rfl
 congr 1
 ·grind [types2,qEB,tEr,qCi,dEr,Int,declT_er]
 ·unfold types3
  simp only[oneT_er]
  rfl
theorem heads_er:qEe (dEr d)=qEe d:=by
 unfold qEe
 refine qEB (f:=pEr) d.procs 0 fun j x=>?_
 rw[show (dEr d).procs=d.procs.map pEr from rfl,<- List.map_take,qKI (f:=pEr) (q:=fun g=>decide (g.name=x.name)) _ fun _=>rfl,declT_er,qKn]
 rfl
theorem bodies_er:qCq (dEr d)=qCq d:=by
 unfold qCq
 refine qEB (f:=pEr) d.procs 0 fun j x=>?_
 show (if (qBF (dEr d) (qAf d x) x.result 0 (qGn x.body)).2≠0 then some (x.name,(qBF (dEr d) (qAf d x) x.result 0 (qGn x.body)).1,(qBF (dEr d) (qAf d x) x.result 0 (qGn x.body)).2) else none)=_
 rw[qJM d rfl]
theorem qDi{α:Type}{a b:Option α}:a.or b=none↔a=none/\b=none:=by cases a <;> simp
theorem chk_er(h:qHg d=none):qHg (dEr d)=none:=by
 unfold qHg at h ⊢
 rw[qDi,qDi,qDi,qDi]at h
 rw[types_er,heads_er,bodies_er,h.1,h.2.1,h.2.2.2.1]
 rfl
theorem chk_re(h:qHg (dEr d)=none)(h1:d.measures=[])(h2:d.invs=[])(h3:d.pots=[])(h4:d.bounds=[]):qHg d=none:=by
 unfold qHg at h ⊢
 rw[qDi,qDi,qDi,qDi,types_er,heads_er,bodies_er]at h
 rw[h.1,h.2.1,h.2.2.2.1]
 have e1:qEj d=none:=by unfold qEj form1 form2 form3 form4;rw[h1,h2,h3,h4];rfl
 have e2:qGF d=none:=by unfold qGF exp1 exp2 exp3 exp4;rw[h1,h2,h3,h4];rfl
 rw[e1,e2];rfl
theorem idxT_er(s:ByteArray):qDk (dEr d) s=qDk d s:=idx_map (f:=tEr) _ fun _=>rfl
theorem qDF(t:Int):qAr (dEr d) t=qAr d t:=by
 unfold qAr
 rw[show (dEr d).types=d.types.map tEr from rfl,List.getElem?_map,Option.map_map];rfl
theorem right_er(m:Mm)(t:ByteArray)(v:Int):qAv (dEr d) m t v=qAv d m t v:=by unfold qAv;rw[idxT_er]
theorem values_er(m:Mm)(l:List Fld)(vs:List Int):qAj (dEr d) m l vs=qAj d m l vs:=by unfold qAj;simp only[right_er]
theorem typed_er(l:List Fld):qBA (dEr d) l=qBA d l:=by unfold qBA;simp only[qKn]
theorem has_er:(qBA (dEr d) (dEr d).globals&&allI (fun i t=>decide (qDk (dEr d) t.name=(i:Int))&&qBA (dEr d) t.fields) (dEr d).types)=(qBA d d.globals&&allI (fun i t=>decide (qDk d t.name=(i:Int))&&qBA d t.fields) d.types):=by
 simp only[idxT_er,typed_er]
 congr 1
 unfold allI
 rw[show (dEr d).types=d.types.map tEr from rfl,List.zipIdx_map]
 exact qGk _ fun _=>rfl
theorem mem_er{d':Ds}(he:dEr d=dEr d')(hv:qAK d'=true){m:Mm}(h:qBr d m=true):qBr d' m=true:=by
 have key:∀x:Ds,qBr x m=(qAK x&&(qBA (dEr x) (dEr x).globals&&allI (fun i t=>decide (qDk (dEr x) t.name=(i:Int))&&qBA (dEr x) t.fields) (dEr x).types)&&(decide (m.nodes.length<=4096)&&m.nodes.all (fun n=>decide (0<=n.ty/\n.ty<((dEr x).types.length:Int)))&&qAj (dEr x) m (dEr x).globals m.globals&&m.nodes.all fun n=>qAj (dEr x) m (qAr (dEr x) n.ty) n.f)):=fun x=>by
  rw[has_er]
  simp only[values_er,qDF]
  rw[show (dEr x).types=x.types.map tEr from rfl,List.length_map]
  unfold qBr hasT
  simp only[Bool.and_assoc]
  rfl
 simp_all
end
structure qEF (d d':Ds):Prop where
 er:dEr d=dEr d'
 h1:d'.measures=[]
 h2:d'.invs=[]
 h3:d'.pots=[]
 h4:d'.bounds=[]
theorem qAs.same{d d':Ds}{m:Mm}(G:qAs d m)(h:qEF d d'):qAs d' m:=by
 have hv:=valid_re d' (h.er ▸ valid_er d G.valid) h.h1 h.h2 h.h3 h.h4
 exact⟨hv,chk_re d' (h.er ▸ chk_er d G.chk) h.h1 h.h2 h.h3 h.h4,mem_er d h.er hv G.mem⟩
section
variable(d:Ds)
theorem qKa(s:ByteArray):qDJ (dEr d) s=qDJ d s:=idx_map (f:=pEr) _ fun _=>rfl
theorem cllE_er(m:Mm)(nm:ByteArray)(l:List Int):qCN (dEr d) m nm l=qCN d m nm l:=by
 unfold qCN
 rw[qKa,show (dEr d).procs=d.procs.map pEr from rfl,List.getElem?_map]
 cases d.procs[(qDJ d nm).toNat]? with
 | none=>rfl
 | some p =>
  show (if qDJ d nm<0 then _ else if l.length=p.params.length then (if qAj (dEr d) m p.params l=true then _ else _) else _)=_
  rw[values_er]
theorem fldX_er(a:Int)(s:ByteArray)(st:St):fldX (dEr d) a s st=fldX d a s st:=by unfold fldX;simp only[qDF]
theorem newX_er(s:ByteArray)(st:St):newX (dEr d) s st=newX d s st:=by unfold newX;simp only[qDF,idxT_er]
theorem putX_er(a v:Int)(s:ByteArray)(st:St):putX (dEr d) a v s st=putX d a v s st:=by unfold putX;simp only[qDF]
theorem intB_er{sc:Sc}(hb:sc.body=true):∀l:List E,intB (dEr d) sc (qFw l)=intB d sc l
 | []=>by unfold qFw;rfl
 | x::xs=>by
  unfold qFw
  show decide ((qAn (dEr d) sc (eEr x)).1=qAN)=decide ((qAn d sc x).1=qAN)
  rw[exprT_er d hb]
theorem combX_er(C:Cf)(p:Pr)(vals:List Int)(b:Bool)(op n:Int)(s:ByteArray)(ks:List (St->Rx Int))(st:St):qCY (dEr d) C (pEr p) vals b op n s ks st=qCY d C p vals b op n s ks st:=by
 unfold qCY
 simp only[fldX_er,newX_er,qKa]
 rfl
mutual
theorem evX_er(C:Cf)(p:Pr)(vals:List Int):∀e:E,evX (dEr d) C (pEr p) vals (eEr e)=evX d C p vals e
 | .mk o n s _ k=>by
  unfold eEr evX
  funext st
  rw[combX_er,evXs_er C p vals k]
  show qCY d C p vals (intB (dEr d) (qAf d p) (qFw k)) o n s _ st=_
  rw[intB_er d rfl]
theorem evXs_er(C:Cf)(p:Pr)(vals:List Int):∀l:List E,evXs (dEr d) C (pEr p) vals (qFw l)=evXs d C p vals l
 | []=>by rfl
 | x::xs=>by unfold qFw evXs;rw[evX_er C p vals x,evXs_er C p vals xs]
end
theorem evX_er'(C:Cf)(p:Pr)(vals:List Int)(e:E)(st:St):evX (dEr d) C (pEr p) vals (eEr e) st=evX d C p vals e st:=congrFun (evX_er d C p vals e) st
theorem getD_er(l:List E)(i:Nat):(qFw l).getD i noE=eEr (l.getD i noE):=by
 rw[qET,List.getD_eq_getElem?_getD,List.getD_eq_getElem?_getD,List.getElem?_map]
 grind [noE,eEr,qFw]
section
variable{Sn Sn':Sf}(hS:∀c p l vals st,Sn' c (pEr p) (qGn l) vals st=Sn c p l vals st)
include hS
theorem callX_er(c:Nat):qCk (dEr d) Sn' c=qCk d Sn c:=by
 funext i l st
 unfold qCk
 rw[show (dEr d).procs=d.procs.map pEr from rfl,List.getElem?_map]
 cases d.procs[i.toNat]? with
 | none=>rfl
 | some p =>
  show (if 200<=c then _ else (Sn' (c+1) (pEr p) (qGn p.body) _ st).bind _)=_
  rw[hS];rfl
theorem evS_er(c:Nat)(p:Pr)(vals:List Int)(e:E)(st:St):evS (dEr d) Sn' c (pEr p) vals (eEr e) st=evS d Sn c p vals e st:=by
 unfold evS
 rw[callX_er d hS,evX_er']
theorem whX_er(F c:Nat)(p:Pr)(e:E)(b:List S):∀(n:Nat) (vals:List Int) (st:St),whX (dEr d) F Sn' c (pEr p) (eEr e) (qGn b) n vals st=whX d F Sn c p e b n vals st
 | 0,_,_=>rfl
 | n+1,vals,st=>by
  unfold whX
  simp only[evS_er d hS,hS,whX_er F c p e b n]
theorem bodyX_er(F c:Nat)(p:Pr)(n:Nat)(s:S)(vals:List Int)(st:St):qGL (dEr d) F Sn' c (pEr p) n (sEr s) vals st=qGL d F Sn c p n s vals st:=by
 match s with
 | .mk o s _ es _ ls _ xs =>
  unfold sEr qGL
  simp only[S.op,S.s,S.es,S.ls,S.xs,getD_er,evS_er d hS,hS,whX_er d hS,putX_er]
  cases es <;> simp only[qFw,evS_er d hS] <;> rfl
end
theorem stX_er{Sn Sn':Sf}(hS:∀c p l vals st,Sn' c (pEr p) (qGn l) vals st=Sn c p l vals st)(F c:Nat)(p:Pr)(n:Nat)(s:S)(vals:List Int)(st:St):stX (dEr d) F Sn' c (pEr p) n (sEr s) vals st=stX d F Sn c p n s vals st:=by
 grind [stX,bodyX_er]
theorem listX_er{f f':S->List Int->St->Rx Rt}(h:∀s vals st,f' (sEr s) vals st=f s vals st):∀(l:List S) (vals:List Int) (st:St),qEw f' (qGn l) vals st=qEw f l vals st
 | [],_,_=>by rfl
 | s::l,vals,st=>by
  unfold qGn qEw
  rw[h]
  simp only[listX_er h l]
theorem stsX_er(F:Nat):∀(n c:Nat) (p:Pr) (l:List S) (vals:List Int) (st:St),qBZ (dEr d) F n c (pEr p) (qGn l) vals st=qBZ d F n c p l vals st
 | 0,_,_,_,_,_=>rfl
 | n+1,c,p,l,vals,st=>listX_er (fun s vals st=>stX_er d (stsX_er F n) F c p (n+1) s vals st) l vals st
theorem playX_er(F:Nat)(i:Int)(l:List Int)(st:St):qCn (dEr d) F i l st=qCn d F i l st:=by
 simp_all [qCn,callX_er,stsX_er]
end
section
variable{d d':Ds}(h:qEF d d')
include h
theorem qEF.play(F:Nat)(i:Int)(l:List Int)(st:St):qCn d' F i l st=qCn d F i l st:=by rw[<- playX_er d,h.er,playX_er]
theorem qEF.cll(m:Mm)(nm:ByteArray)(l:List Int):qCN d' m nm l=qCN d m nm l:=by rw[<- cllE_er d,h.er,cllE_er]
theorem qEF.idx(s:ByteArray):qDJ d' s=qDJ d s:=by rw[<- qKa d,h.er,qKa]
theorem qEF.fields(t:Int):qAr d' t=qAr d t:=by rw[<- qDF d,h.er,qDF]
end
end Go.Proofs
namespace Go.Proofs
open Go Go.Sx
def qAT(ends:List Nat):Nat->Nat
 | 0=>0
 | i+1=>ends.getD i 0
def qJZ(log:List En)(ends:List Nat)(i:Nat):List En:=(log.drop (qAT ends i)).take (qAT ends (i+1)-qAT ends i)
def Way(b a:Gm)(l:List En):Prop:=Chn qHo redoK b l a/\Chn qIM undoK a l.reverse b
structure qGp (Ok:Gm->Prop) (mems:List Gm) (logs:List Nat) (k:Nat) (log:List En) (ends:List Nat):Prop where
 len:mems.length=logs.length+1
 le:k<=logs.length
 elen:ends.length=logs.length
 sum:∀i,i<=ends.length->qAT ends i=(logs.take i).sum
 ll:log.length=qAT ends ends.length
 way:∀i b a,mems[i]?=some b->mems[i+1]?=some a->Way b a (qJZ log ends i)
 ok:∀y∈mems,Ok y
theorem qJL{l:List Nat}{i:Nat}(h:i<l.length):(l.take (i+1)).sum=(l.take i).sum+l[i]:=by
 rw[List.take_add_one,List.getElem?_eq_getElem h,List.sum_append]
 rfl
theorem sum_mono(l:List Nat){i j:Nat}(h:i<=j):(l.take i).sum<=(l.take j).sum:=by
 induction j with
 | zero=>simp_all
 | succ j ih =>
  grind
theorem qES{ends:List Nat}{k i v:Nat}(hk:k<=ends.length)(hi:i<=k):qAT (ends.take k++[v]) i=qAT ends i:=by
 cases i with
 | zero=>rfl
 | succ i =>
  show (ends.take k++[v]).getD i 0=ends.getD i 0
  grind
theorem qGI{ends:List Nat}{k v:Nat}(hk:k<=ends.length):qAT (ends.take k++[v]) (k+1)=v:=by
 show (ends.take k++[v]).getD k 0=v
 simp_all
section
variable{Ok:Gm->Prop}{mems:List Gm}{logs:List Nat}{k:Nat}{log:List En}{ends:List Nat}
theorem qGp.start{x:Gm}(h:Ok x):qGp Ok [x] [] 0 [] []:=⟨rfl,Nat.le_refl _,rfl,fun i hi=>by cases i <;> rfl,rfl,(fun i b a h1 h2=>by
 simp_all),fun y hy=>by simp_all⟩
theorem qGp.move(h:qGp Ok mems logs k log ends){j:Nat}(hj:j<=logs.length):qGp Ok mems logs j log ends:=⟨h.len,hj,h.elen,h.sum,h.ll,h.way,h.ok⟩
theorem qGp.mono(h:qGp Ok mems logs k log ends){i j:Nat}(hij:i<=j)(hj:j<=logs.length):qAT ends i<=qAT ends j:=by
 rw[h.sum i (by rw[h.elen];omega),h.sum j (by rw[h.elen];omega)]
 exact sum_mono _ hij
theorem qGp.bound(h:qGp Ok mems logs k log ends){i:Nat}(hi:i<=logs.length):qAT ends i<=log.length:=by
 rw[h.ll,h.elen];exact h.mono hi (Nat.le_refl _)
theorem qGp.get(h:qGp Ok mems logs k log ends){i:Nat}(hi:i<=logs.length):∃x,mems[i]?=some x/\Ok x:=by
 have hl:=h.len
 have e:=List.getElem?_eq_getElem (l:=mems) (i:=i) (by omega)
 exact⟨_,e,h.ok _ (List.getElem_mem _)⟩
theorem qGp.step(h:qGp Ok mems logs k log ends){b a:Gm}{es:List En}(hb:mems[k]?=some b)(hw:Way b a es)(ha:Ok a) :
  qGp Ok (mems.take (k+1)++[a]) (logs.take k++[es.length]) (k+1) (log.take (qAT ends k)++es) (ends.take k++[qAT ends k+es.length]):=by
 have hk:=h.le
 have hl:=h.len
 have he:=h.elen
 have hek:=h.bound hk
 have tl:(logs.take k).length=k:=by simp_all
 have te:(ends.take k).length=k:=by simp_all
 have tm:(mems.take (k+1)).length=k+1:=by simp_all
 have tg:(log.take (qAT ends k)).length=qAT ends k:=by simp_all
 refine⟨by simp_all,by simp_all,by simp_all,fun i hi=>?_,?_,fun i x y hx hy=>?_,fun y hy=>?_⟩
 ·rw[List.length_append,te,List.length_singleton]at hi
  by_cases hik:i<=k
  ·rw[qES (by omega) hik,h.sum i (by omega),List.take_append_of_le_length (by omega),List.take_take,Nat.min_eq_left hik]
  ·obtain rfl:i=k+1:=by omega
   rw[qGI (by omega),List.take_of_length_le (by simp_all),List.sum_append,h.sum k (by omega)]
   simp
 ·grind [List.length_append,List.length_singleton,qGI]
 ·by_cases hik:i<k
  ·rw[List.getElem?_append_left (by omega),List.getElem?_take,if_pos (by omega)]at hx hy
   have:=h.way i x y hx hy
   have e:qJZ (log.take (qAT ends k)++es) (ends.take k++[qAT ends k+es.length]) i=qJZ log ends i:=by
    have m1:=h.mono (i:=i) (j:=k) (by omega) hk
    have m2:=h.mono (i:=i+1) (j:=k) (by omega) hk
    have m3:=h.mono (i:=i) (j:=i+1) (by omega) (by omega)
    unfold qJZ
    rw[qES (by omega) (by omega),qES (by omega) (by omega),List.drop_append_of_le_length (by omega),List.drop_take,List.take_append_of_le_length (by grind),List.take_take,Nat.min_eq_left (by omega)]
   grind
  ·have hyl:=(List.getElem?_eq_some_iff.1 hy).1
   rw[List.length_append,tm,List.length_singleton]at hyl
   obtain rfl:i=k:=by omega
   rw[List.getElem?_append_left (by omega),List.getElem?_take,if_pos (by omega),hb]at hx
   rw[List.getElem?_append_right (by omega),tm,Nat.sub_self]at hy
   cases hx;cases hy
   have e:qJZ (log.take (qAT ends i)++es) (ends.take i++[qAT ends i+es.length]) i=es:=by
    unfold qJZ
    rw[qES (by omega) (Nat.le_refl _),qGI (by omega),List.drop_append_of_le_length (by omega),List.drop_of_length_le (by omega),Nat.add_sub_cancel_left,List.nil_append,List.take_of_length_le (Nat.le_refl _)]
   rw[e];exact hw
 ·rcases List.mem_append.1 hy with hy|hy
  ·exact h.ok y (List.mem_of_mem_take hy)
  simp_all
end
end Go.Proofs
namespace Go.Proofs
open Go Go.Sx
def gmM(y:Gm):Mm:=⟨qAt,y.1,qAt,y.2.map fun n=>⟨n.1,qAt,n.2⟩⟩
def OkG(d:Ds)(y:Gm):Prop:=qAs d (gmM y)
theorem qDE(y:Gm):(gmM y).plain=y:=by
 unfold Mm.plain gmM
 simp[Function.comp_def]
section
variable{d:Ds}{m:Mm}{y:Gm}
theorem OkG.of(G:qAs d m):OkG d m.plain:=⟨G.valid,G.chk,qCl (qDE _).symm G.mem⟩
theorem OkG.to(G:OkG d y)(h:m.plain=y):qAs d m:=⟨G.valid,G.chk,qCl (by rw[qDE,h]) G.mem⟩
theorem OkG.sizes(G:OkG d y):SzOk d y/\y.2.length<=4096/\∀t,(qAr d t).length<=12:=by
 obtain⟨p1,p2,p3,p4,p5⟩:=qAx G.mem
 have h12:=qIo G.valid
 refine⟨fun k t f hk=>?_,by have:(y.2.map fun n=>(⟨n.1,qAt,n.2⟩:Nd)).length<=4096:=p2;simp_all,fun t=>?_⟩
 ·have hm:(⟨t,qAt,f⟩:Nd)∈(gmM y).nodes:=List.mem_map.2 ⟨(t,f),List.mem_of_getElem? hk,rfl⟩
  grind [qAy]
 grind [qAr]
theorem OkG.type(G:OkG d y){k:Nat}{t:Int}{f:List Int}(hk:y.2[k]?=some (t,f)):0<=t/\t<(d.types.length:Int):=by
 obtain⟨p1,p2,p3,p4,p5⟩:=qAx G.mem
 have hm:(⟨t,qAt,f⟩:Nd)∈(gmM y).nodes:=List.mem_map.2 ⟨(t,f),List.mem_of_getElem? hk,rfl⟩
 exact of_decide_eq_true (p3 _ hm)
structure Did (d:Ds) (F:Nat) (b a:Gm) (l:List (Int×Int×Int)):Prop where
 ok:OkG d a
 tra:Tra b l a
 len:l.length<=4000*F
theorem Did.way{F:Nat}{b a:Gm}{l:List (Int×Int×Int)}(h:Did d F b a l):Way b a (qBP d b a l):=by
 obtain⟨h1,h2,h3⟩:=h.ok.sizes
 exact⟨redo_all h1 h3 h2 h.tra,undo_all h.tra⟩
theorem qKE(F:Nat){nm:ByteArray}{args:List Int}(G:qAs d m)(hc:qCN d m nm args=0){r:Rx Int}(hr:r=qCn d F (qDJ d nm) args (qDM m)):Did d F m.plain (r.st.g,r.st.ns) r.st.lg:=by
 subst hr
 obtain⟨i,q,hi,hq,hval⟩:=qID hc
 have H:=play_snd (F:=F) (qJW G.valid G.chk) hq (good_st G) (qAm (qDN (qEH m).symm) hval)
 rw[hi]
 obtain⟨l,h1,h2⟩:=H.gr.tr
 have h1:(qCn d F (↑i) args (qDM m)).st.lg=l:=by rw[h1];rfl
 refine⟨H.good,by rw[h1];exact h2,?_⟩
 have h3:=H.gr.w
 have h4:=H.gr.fu (Nat.zero_le _)
 have e1:(qDM m).lg.length=0:=rfl
 have e2:(qDM m).cm=0:=rfl
 omega
end
end Go.Proofs
namespace Go.Proofs
open Go Go.Sx
attribute [local irreducible] Go.Sx.Tri
theorem flat_row{α:Type}{row:α->List Value}{sz:Nat}(hr:∀x,(row x).length=sz){x':α}{j:Nat}{vs:List Value}(hj:j+vs.length<=sz):∀{xs:List α} {i:Nat} {x:α},xs[i]?=some x->row x'=(row x).take j++vs++(row x).drop (j+vs.length)->(xs.set i x').flatMap row=(xs.flatMap row).take (i*sz+j)++vs++(xs.flatMap row).drop (i*sz+j+vs.length)
 | [],_,_,h,_=>by simp at h
 | y::ys,0,x,h,e=>by
  grind
 | y::ys,i+1,x,h,e=>by
  rw[List.getElem?_cons_succ]at h
  have hy:=hr y
  have e1:(i+1)*sz=sz+i*sz:=by grind
  have t1:∀(L:List Value) (k:Nat),(row y++L).take (sz+k)=row y++L.take k:=fun L k=>by
   grind
  have t2:∀(L:List Value) (k:Nat),(row y++L).drop (sz+k)=L.drop k:=fun L k=>by
   rw[List.drop_append,List.drop_of_length_le (by omega),hy,Nat.add_sub_cancel_left,List.nil_append]
  rw[List.set_cons_succ,List.flatMap_cons,List.flatMap_cons,flat_row hr hj h e,e1,show sz+i*sz+j=sz+(i*sz+j) by omega,show sz+(i*sz+j)+vs.length=sz+(i*sz+j+vs.length) by omega,t1,t2]
  simp_all
theorem flat_len'{α:Type}{row:α->List Value}{sz:Nat}(hr:∀x,(row x).length=sz)(xs:List α):(xs.flatMap row).length=xs.length*sz:=by
 induction xs with
 | nil=>simp
 | cons x xs ih=>grind
section
variable{α:Type}{row:α->List Value}{sz:Nat}{V0 V V':Mem}{e:TypeId}{s:Sl}{xs:List α}
theorem own_row(hr:∀x,(row x).length=sz)(o:Sx.Own V0 V e sz s (xs.flatMap row)){i j k:Nat}{x x':α}{vs:List Value}(hx:xs[i]?=some x)(hj:j+vs.length<=sz)(hv:vs≠[])(hrow:row x'=(row x).take j++vs++(row x).drop (j+vs.length))(hk:k=i*sz+j){q:Mem->Prop}
  (hq:∀V',Sx.Own V0 V' e sz s ((xs.set i x').flatMap row)->(∀c,¬Blk s c->V' c=V c)->q V'):StT (qAa s.p k) 0 vs V q:=by
 subst hk
 have hv0:0<vs.length:=by grind
 have hn:s.n=xs.length:=o.n_eq hr (by omega)
 have hi:i<xs.length:=(List.getElem?_eq_some_iff.1 hx).1
 rcases o.cases0 with⟨h1,h2,h3⟩|⟨hc,g,cur,h1,h2,h3,h4,h5,h6,h7⟩
 ·omega
 have hlen:=o.len
 have h8:(i+1)*sz<=s.n*sz:=Nat.mul_le_mul_right _ (by omega)
 have h9:s.n*sz<=s.c*sz:=Nat.mul_le_mul_right _ h4
 rw[Nat.add_mul,Nat.one_mul]at h8
 rw[h1]
 have hL:=flat_row hr hj hx hrow
 have hLl:=flat_len' hr (xs.set i x')
 rw[List.length_set]at hLl
 have key:(cur.toList.take (i*sz+j)++vs++cur.toList.drop (i*sz+j+vs.length)).take (s.n*sz)=(xs.set i x').flatMap row:=by
  rw[hL,<- h7,List.take_take,Nat.min_eq_left (by omega),List.drop_take,List.take_append,List.take_of_length_le (by rw[List.length_append,List.length_take,Array.length_toList];omega)]
  congr 2
  rw[List.length_append,List.length_take,Array.length_toList]
  omega
 refine StT.at2 (off:=i*sz+j) h3 (by omega) (hq _ ⟨o.sub.set h2 _,by rw[hLl,hn],.inr ⟨g,_,h1,h2,Mem.set_same _ _ _,h4,h5,?_,by simpa using key⟩⟩ fun c hc'=>?_)
 ·rw[List.size_toArray,List.length_append,List.length_append,List.length_take,List.length_drop,Array.length_toList,Nat.min_eq_left (by omega)];omega
 ·rw[Mem.set_ne]
  rintro rfl
  exact hc' ⟨hc,h1⟩
theorem own_cut(hr:∀x,(row x).length=sz)(o:Sx.Own V0 V e sz s (xs.flatMap row)){k:Nat}(hk:k<=xs.length)(hsz:0<sz):Sx.Own V0 V e sz ⟨s.p,k,s.c⟩ ((xs.take k).flatMap row):=by
 have hn:s.n=xs.length:=o.n_eq hr hsz
 have hl:=flat_len' hr (xs.take k)
 rw[List.length_take,Nat.min_eq_left hk]at hl
 refine⟨o.sub,hl,?_⟩
 rcases o.cases0 with⟨h1,h2,h3⟩|⟨hc,g,cur,h1,h2,h3,h4,h5,h6,h7⟩
 ·grind
 ·refine .inr ⟨g,cur,h1,h2,h3,by grind,h5,h6,?_⟩
  grind [Nat.mul_le_mul_right,Nat.min_eq_left,List.take_append_drop,List.take_of_length_le]
theorem own_grow{vs:List Value}(o:Sx.Own V0 V e sz s vs)(h:V.sub V'):Sx.Own V0 V' e sz s vs:=⟨o.sub.trans h,o.len,by
 rcases o.cases0 with h1|⟨hc,g,cur,h1,h2,h3,h4⟩
 ·exact .inl h1
 ·exact .inr ⟨g,cur,h1,h2,h _ _ h3,h4⟩⟩
end
def qBt(d:Ds)(F tk c k cm nn:Int)(gs ns ls:Sl):List Value:=[Go.Sx.vS d.name,d.ts.v,d.gs.v,d.ps.v,d.ms.v,d.is.v,d.qs.v,d.bs.v,gs.v,ns.v,.int .i64 F,.int .i64 tk,.int .i64 c,.int .i64 k,.int .i64 cm,.int .i64 nn,.int .i64 0,ls.v]
abbrev XM(V0:Mem)(d:Ds)(p F:Nat)(V:Mem)(s:St)(c k:Int):Prop:=MA 96 V0 p (qBt d F s.tk c k s.cm (qAB s.lg)) V s
theorem ntX:NT 96:=by unfold NT;decide
def XR(V0:Mem)(d:Ds)(p F:Nat)(c:Int)(r:Rx Int):Ending->Mem->Prop:=fun e V'=>match r with
 | .ok v s=>e=.returned (.int .i64 v)/\XM V0 d p F V' s c 0
 | .bad k s=>e=.returned (.int .i64 0)/\k≠0/\XM V0 d p F V' s c k
section
variable{V0 V V1:Mem}{d:Ds}{p F:Nat}{c k:Int}{s:St}
theorem XR.call{f:FuncId}{args:Array Value}{r:Rx Int}{K:Int->Mem->Prop}(H:Tri Tryz.prog f args V (XR V0 d p F c r))(ho:∀v s V',r=.ok v s->XM V0 d p F V' s c 0->K v V')(hb:∀k s V',r=.bad k s->k≠0->XM V0 d p F V' s c k->K 0 V') :
  Tri Tryz.prog f args V fun e V'=>∃v,e=.returned (.int .i64 v)/\K v V' :=
 Tri.mono H fun e V' h=>by
  cases r with
  | ok v s=>exact⟨v,h.1,ho v s V' rfl h.2⟩
  | bad k s=>exact⟨0,h.1,hb k s V' rfl h.2.1 h.2.2⟩
theorem XR.ok{G:Rx Int}{v:Int}(hG:G=.ok v s)(M:XM V0 d p F V s c 0):XR V0 d p F c G (.returned (.int .i64 v)) V:=by rw[hG];exact⟨rfl,M⟩
theorem XR.bad{G:Rx Int}{k:Int}(hG:G=.bad k s)(hk:k≠0)(M:XM V0 d p F V s c k):XR V0 d p F c G (.returned (.int .i64 0)) V:=by rw[hG];exact⟨rfl,hk,M⟩
theorem XR.last{f:FuncId}{args:Array Value}{G r:Rx Int}(hG:G=r)(H:Tri Tryz.prog f args V (XR V0 d p F c r)):Tri Tryz.prog f args V fun e V'=>∃v,e=.returned (.int .i64 v)/\XR V0 d p F c G (.returned (.int .i64 v)) V':=by
 subst hG
 exact XR.call H (fun v s V' e M=>XR.ok e M) fun k s V' e hk M=>XR.bad e hk M
theorem c126(M:XM V0 d p F V s c 0){k:Int}:Tri Tryz.prog 126 #[pv p,.int .i64 k] V fun e V'=>e=.returned (.int .i64 0)/\XM V0 d p F V' s c k:=by
 obtain⟨gs,ns,ls,nd,hat,L⟩:=M.ex
 refine x126 ?_
 unfold w126
 exact⟨nn,nn,_,qAc hat 13 1 (by simp[qBt]),fun _=>⟨nn,nn,StT.at2 (off:=13) hat (by simp[qBt]) ⟨rfl,MA.set (row':=qBt d F s.tk c k s.cm (qAB s.lg)) ntX M.p0 hat L rfl rfl rfl rfl⟩⟩,fun h=>absurd rfl h⟩
theorem failX(M:XM V0 d p F V s c 0){k:Int}(hk:k≠0){G:Rx Int}(hG:G=.bad k s):Tri Tryz.prog 126 #[pv p,.int .i64 k] V fun e V'=>∃v,e=.returned (.int .i64 v)/\XR V0 d p F c G (.returned (.int .i64 v)) V' :=
 Tri.mono (c126 M) fun _ _ ⟨h,M'⟩=>⟨0,h,XR.bad hG hk M'⟩
theorem c269{b:Bool}:PP 269 [.bool b] V (.int .i64 (trI b)):=by
 refine x269 ?_
 unfold w269
 refine⟨fun h=>?_,fun h=>?_⟩
 ·rw[show b=true from h];exact⟨rfl,rfl⟩
 ·rw[show b=false by simpa using h];exact⟨rfl,rfl⟩
theorem c253{l:List Fld}{fl:Sl}(hr:qAd V fl 2 (l.map Fld.row)){nm:ByteArray}:PP 253 [fl.v,.string nm] V (.int .i64 (qFe l nm)):=by
 refine x253 ?_
 unfold w253
 refine qAJ (mk:=.int .i64) (b0:=0) l.length (fun i V1=>V=V1/\qAX (fun y:Fld=>!decide (y.name=nm)) l i) ⟨rfl,qAX.zero _ _⟩ ?_
 rintro i b V1 J hi ⟨rfl,ha⟩ hJ
 refine⟨fun hlt=>?_,fun hge=>?_⟩
 ·obtain⟨x,hxm,hx,-,hil,hp,hz,hrow⟩:=hr.get hlt
  refine⟨hp,hz,hlt,qAe hp,_,_,hrow,fun h=>?_,fun h=>⟨hr.succ hlt,hJ hil _ _ ⟨rfl,qCT (p:=fun y:Fld=>decide (y.name=nm)) ha hx (decide_eq_false h)⟩⟩⟩
  unfold qFe
  rw[qDD (p:=fun y:Fld=>decide (y.name=nm)) ha hx (decide_eq_true h)];simp_all
 ·unfold qFe
  rw[qEz (p:=fun y:Fld=>decide (y.name=nm)) ha (hr.done hge).2];simp_all
theorem c250{a:Int}(ha:a<=1099511627776):PP 250 [.int .i64 a] V (.int .i64 (qIU a)):=by
 refine x250 ?_
 unfold w250
 have small:∀v:Int,v<=1->qIU v=0:=fun v hv=>by
  unfold qIU
  have:v.toNat=0∨v.toNat=1:=by omega
  rcases this with h|h <;> rw[h] <;> decide
 have step:∀v:Int,1<v->qIU v=qIU (v.tdiv 2)+1:=fun v hv=>by
  unfold qIU
  have e:(v.tdiv 2).toNat=v.toNat / 2:=by grind
  rw[e,Nat.log2_def,if_pos (by omega)]
  simp
 have lim:qIU a<=64:=by
  unfold qIU
  by_cases h0:a.toNat=0
  ·rw[h0];decide
  ·have:=(Nat.log2_lt h0).2 (show a.toNat<2 ^ 64 by omega)
   omega
 have pos:∀v:Int,0<=qIU v:=fun v=>by unfold qIU;omega
 refine⟨fun n xs V1=>∃v c:Int,xs=[.int .i64 v,.int .i64 c]/\n=v.toNat/\V=V1/\v<=a/\0<=c/\c+qIU v=qIU a,a.toNat,⟨a,0,rfl,rfl,rfl,Int.le_refl _,Int.le_refl _,by omega⟩,?_⟩
 rintro n V1 v c ⟨v',c',hx,rfl,rfl,hva,hc,hl⟩ J hJ
 simp only[List.cons.injEq,Value.int.injEq,true_and,and_true]at hx
 obtain⟨rfl,rfl⟩:=hx
 refine⟨fun hv=>?_,fun hv=>?_⟩
 ·have hv:1<v:=hv
  have hw:IntKind.wrap .i64 (v.tdiv 2)=v.tdiv 2:=by
   rw[Int.tdiv_eq_ediv_of_nonneg (by omega)]
   exact qHe ⟨by simp[IntKind.min,IntKind.signed,IntKind.bits];omega,by simp[IntKind.max,IntKind.signed,IntKind.bits];omega⟩
  have hs:=step v hv
  have hp:=pos (v.tdiv 2)
  have hle:v.tdiv 2<v/\0<=v.tdiv 2:=by rw[Int.tdiv_eq_ediv_of_nonneg (by omega)];omega
  refine⟨by decide,⟨by omega,by omega⟩,?_⟩
  rw[hw]
  exact hJ (v.tdiv 2).toNat _ _ (by omega) ⟨v.tdiv 2,c+1,rfl,rfl,rfl,by omega,by omega,by omega⟩
 simp_all
theorem c163(hF:F<=4000)(M:XM V0 d p F V s c 0):Tri Tryz.prog 163 #[pv p] V fun e V'=>(s.tk<F/\e=.returned (.bool true)/\XM V0 d p F V' { s with tk:=s.tk+1 } c 0)∨(F<=s.tk/\e=.returned (.bool false)/\XM V0 d p F V' s c 20):=by
 obtain⟨gs,ns,ls,nd,hat,L⟩:=M.ex
 refine x163 ?_
 unfold w163
 refine⟨nn,nn,_,qAc hat 13 1 (by simp[qBt]),fun _=>⟨nn,nn,_,qAc hat 11 1 (by simp[qBt]),nn,nn,_,qAc hat 10 1 (by simp[qBt]),fun h=>?_,fun h=>?_⟩,fun h=>absurd rfl h⟩
 ·refine Tri.mono (c126 M) ?_
  simp_all
 ·refine⟨nn,nn,_,qAc hat 11 1 (by simp[qBt]),⟨by omega,by omega⟩,nn,nn,StT.at2 (off:=11) hat (by simp[qBt]) (.inl ⟨by omega,rfl,?_⟩)⟩
  exact MA.set (row':=qBt d F ((s.tk+1:Nat):Int) c 0 s.cm (qAB s.lg)) ntX M.p0 hat L rfl rfl rfl rfl
theorem nodesN_one(l:List (Int×Int×Int))(a:Int×Int×Int):qAB (l++[a])=qAB l+if 0<a.2.1 then 1 else 0:=by
 grind [qAB]
theorem nodesN_bound(l:List (Int×Int×Int)):qAB l<=l.length:=by grind [qAB]
theorem c248(M:XM V0 d p F V s c 0){k a f:Int}(hfit:s.lg.length+1<=2147483648):Tri Tryz.prog 248 #[pv p,.int .i64 k,.int .i64 a,.int .i64 f] V fun e V'=>e=.returned (.tuple #[])/\XM V0 d p F V' (s.note (k,a,f)) c 0:=by
 obtain⟨gs,ns,ls,nd,hat,L⟩:=M.ex
 refine x248 ?_
 unfold w248
 have hnb:=nodesN_bound s.lg
 have hna:qAB (s.note (k,a,f)).lg=qAB s.lg+if 0<a then 1 else 0:=nodesN_one s.lg (k,a,f)
 refine⟨nn,nn,ls,qAc hat 17 1 (by simp[qBt]),fun tb htb=>L.note (a:=(k,a,f)) htb rfl rfl hfit fun s' V' L' hk=>⟨s',rfl,nn,nn,?_⟩⟩
 have hat':=hk _ _ hat (qGW hat ntX L.log (.inr (.inr rfl)))
 refine StT.at2 (off:=17) hat' (by simp[qBt]) ?_
 have M1:MA 96 V0 p (qBt d F s.tk c 0 s.cm (qAB s.lg)) (V'.set p (.cells (qBt d F s.tk c 0 s.cm (qAB s.lg) gs ns s').toArray 96 (0,0))) (s.note (k,a,f)):=MA.set (row':=qBt d F s.tk c 0 s.cm (qAB s.lg)) ntX M.p0 hat' L' rfl rfl rfl rfl
 show Br (0<a) _ _
 obtain⟨V3,hV3⟩:∃V3,V3=V'.set p (.cells (qBt d F s.tk c 0 s.cm (qAB s.lg) gs ns s').toArray 96 (0,0)):=⟨_,rfl⟩
 have e3:V'.set p (.cells ((qBt d F s.tk c 0 s.cm (qAB s.lg) gs ns ls).toArray.toList.take 17++[s'.v]++(qBt d F s.tk c 0 s.cm (qAB s.lg) gs ns ls).toArray.toList.drop (17+[s'.v].length)).toArray 96 (0,0))=V3:=by rw[hV3];rfl
 rw[<- hV3]at M1
 obtain⟨gs3,ns3,ls3,nd3,hat3,L3⟩:=M1.ex
 refine⟨fun h0=>?_,fun h0=>?_⟩
 ·have h0:0<a:=h0
  rw[if_pos h0]at hna
  erw [e3]
  refine⟨nn,nn,pnn,_,qAc hat3 15 1 (by simp[qBt]),⟨by omega,by omega⟩,nn,nn,pnn,StT.at2 (off:=15) hat3 (by simp[qBt]) ⟨rfl,?_⟩⟩
  exact MA.set (row':=qBt d F s.tk c 0 s.cm (qAB (s.note (k,a,f)).lg)) ntX M.p0 hat3 L3 (by rw[hna];rfl) rfl rfl rfl
 ·have h0:¬0<a:=h0
  rw[if_neg h0,Nat.add_zero]at hna
  refine⟨rfl,?_⟩
  erw [e3]
  show MA _ V0 p (qBt d F s.tk c 0 s.cm (qAB (s.note (k,a,f)).lg)) V3 _
  grind
theorem c249(M:XM V0 d p F V s c 0){n:Int}:Tri Tryz.prog 249 #[pv p,.int .i64 n] V (XR V0 d p F c (qDS (big n) s)):=by
 obtain⟨G,hG⟩:∃G,G=qDS (big n) s:=⟨_,rfl⟩
 rw[<- hG]
 refine Tri.mono (x249 (R:=XR V0 d p F c G) ?_) fun _ _ h=>h
 unfold w249
 have bad:¬(-1099511627776<=n/\n<=1099511627776)->G=.bad 5 s:=fun h=>by rw[hG];unfold big;rw[if_neg h];rfl
 refine⟨fun h=>failX M (by decide) (bad (by omega)),fun h1=>⟨fun h=>failX M (by decide) (bad (by omega)),fun h2=>?_⟩⟩
 have h1:¬n < -1099511627776:=h1
 have h2:¬1099511627776<n:=h2
 exact XR.ok (by rw[hG];unfold big;rw[if_pos (by omega)];rfl) M
theorem c270(M:XM V0 d p F V s c 0){a b:Int}(ha:-1099511627776<=a/\a<=1099511627776)(hb:-1099511627776<=b/\b<=1099511627776):Tri Tryz.prog 270 #[pv p,.int .i64 a,.int .i64 b] V (XR V0 d p F c (qDS (big (a*b)) s)):=by
 obtain⟨G,hG⟩:∃G,G=qDS (big (a*b)) s:=⟨_,rfl⟩
 rw[<- hG]
 refine Tri.mono (x270 (R:=XR V0 d p F c G) ?_) fun _ _ h=>h
 unfold w270
 have fit:(-1099511627776<=a*b/\a*b<=1099511627776)->XR V0 d p F c G (.returned (.int .i64 (a*b))) V:=fun k=>XR.ok (by rw[hG];unfold big;rw[if_pos k];rfl) M
 have key:∀x y:Int,x=(if a<0 then -a else a)->y=(if b<0 then -b else b)->Br (0<x) (¬x=0/\Br ((IntKind.wrap .i64 ((1099511627776:Int).tdiv x))<y)
   (Tri Tryz.prog 126 #[pv p,.int .i64 5] V fun e V1=>∃v3,e=.returned (.int .i64 v3)/\XR V0 d p F c G (.returned (.int .i64 v3)) V1)
   (IR (a*b)/\XR V0 d p F c G (.returned (.int .i64 (a*b))) V)) (IR (a*b)/\XR V0 d p F c G (.returned (.int .i64 (a*b))) V):=fun x y hx hy=>by
  refine⟨fun h0=>?_,fun h0=>?_⟩
  ·have h0:0<x:=h0
   have ha0:a≠0:=fun e=>by omega
   have hq:IntKind.wrap .i64 ((1099511627776:Int).tdiv x)=(1099511627776:Int).tdiv x:=qHx ⟨by omega,by omega⟩
   refine⟨by omega,?_⟩
   rw[hq]
   have hm:=mul_big ha hb ha0
   rw[<- hx,<- hy]at hm
   refine⟨fun k=>failX M (by decide) (by rw[hG];unfold big;rw[if_neg (hm.1 k)];rfl),fun k=>?_⟩
   simp_all [Classical.not_not,mul_in,inr]
  ·have h0:¬0<x:=h0
   have ha0:a=0:=by omega
   exact⟨mul_in ha hb (.inl ha0),fit (by simp_all)⟩
 refine⟨fun h1=>⟨⟨by omega,by omega⟩,fun h2=>⟨⟨by omega,by omega⟩,?_⟩,fun h2=>?_⟩,fun h1=>⟨fun h2=>⟨⟨by omega,by omega⟩,?_⟩,fun h2=>?_⟩⟩
 ·grind
 ·grind
 ·grind
 grind
theorem c252(M:XM V0 d p F V s c 0){op v w:Int}(ho:op=9∨op=10∨op=11∨op=12∨op=13∨op=22∨op=23)(hv:-1099511627776<=v/\v<=1099511627776)(hw:-1099511627776<=w/\w<=1099511627776):Tri Tryz.prog 252 #[pv p,.int .i64 op,.int .i64 v,.int .i64 w] V (XR V0 d p F c (qDS (qCw op v w) s)):=by
 obtain⟨G,hG⟩:∃G,G=qDS (qCw op v w) s:=⟨_,rfl⟩
 rw[<- hG]
 refine Tri.mono (x252 (R:=XR V0 d p F c G) ?_) fun _ _ h=>h
 unfold w252
 have good:∀{n:Int},qCw op v w=.ok n->XR V0 d p F c G (.returned (.int .i64 n)) V:=fun e=>XR.ok (by rw[hG,e];rfl) M
 have sp:∀{n:Int},qCw op v w=big n->Tri Tryz.prog 249 #[pv p,.int .i64 n] V fun e V'=>∃v,e=.returned (.int .i64 v)/\XR V0 d p F c G (.returned (.int .i64 v)) V':=fun e=>XR.last (by rw[hG,e]) (c249 M)
 have hI:∀{n:Int},-2199023255552<=n/\n<=2199023255552->IR n:=fun h=>⟨by omega,by omega⟩
 have wr:=qHx (b:=w) hv
 have td:=tdiv_in (b:=w) hv
 refine⟨fun h=>⟨hI (by omega),sp (by grind [qCw])⟩,fun h9=>⟨fun h=>⟨hI (by omega),sp (by grind [qCw])⟩,fun h10=>⟨fun h=>XR.last (by grind [qCw]) (c270 M hv hw),fun h11=>⟨fun h=>⟨fun k=>good ?_,fun k=>good ?_⟩,fun h22=>⟨fun h=>⟨fun k=>good ?_,fun k=>good ?_⟩,fun h23=>⟨fun h=>failX M (by decide) ?_,fun h0=>⟨fun h=>⟨h0,?_⟩,fun h12=>⟨h0,good ?_⟩⟩⟩⟩⟩⟩⟩⟩
 ·grind [qCw]
 ·grind [qCw]
 ·grind [qCw]
 ·grind [qCw]
 ·rw[hG];unfold qCw;rw[if_neg h9,if_neg h10,if_neg h11,if_neg h22,if_neg h23,if_neg (by omega),if_neg (by omega),if_neg (by omega),if_neg (by omega),if_pos h];rfl
 ·grind [qCw,big]
 grind [qCw]
end
def qIK(pr:Pr)(a b:Sl)(r:Option Int):List Value:=[Go.Sx.vS pr.name,pr.ps.v,Go.Sx.vS pr.result,pr.ls.v,pr.bs.v,a.v,b.v,.bool r.isSome,.int .i64 (r.getD 0)]
structure Gv (V0:Mem) (q:Nat) (pr:Pr) (vals:List Int):Prop where
 ex:∃a b:Sl,V0 q=some (.cells (qIK pr a b none).toArray 207 (0,0))/\qAd V0 a 2 (pr.vars.map Fld.row)/\qAd V0 b 1 (vals.map qAo)
structure Yx (V0:Mem) (d:Ds) (p F c q:Nat) (pr:Pr) (vals:List Int) (n m:Nat) (V:Mem) (s:St):Prop where
 S:ES V0 d F
 fr:Gv V0 q pr vals
 pm:pr∈d.procs
 G:qAs d s.mm
 hv:qAj d s.mm pr.vars vals=true
 M:XM V0 d p F V s c 0
 tk:s.tk<=F
 n:F<n+s.tk
 w:BW m s
section
variable{V0 V V1:Mem}{d:Ds}{p F c q:Nat}{s:St}{pr:Pr}{vals:List Int}
theorem Yx.po{n m:Nat}(X:Yx V0 d p F c q pr vals n m V s):qCA d pr:=X.S.procs pr X.pm
theorem Yx.fit{n m:Nat}(X:Yx V0 d p F c q pr vals n (m+1) V s):s.lg.length+1<=2147483648:=by
 have h1:=X.w;have h2:=X.tk;have h3:=X.S.fuel;grind [BW]
theorem Yx.next{n m k:Nat}{V':Mem}{s':St}(X:Yx V0 d p F c q pr vals n (m+k) V s)(g:Gr F m s s')(G:qAs d s'.mm)(M:XM V0 d p F V' s' c 0):Yx V0 d p F c q pr vals n k V' s' :=
 ⟨X.S,X.fr,X.pm,G,qAm (fun h=>g.right h) X.hv,M,g.fu X.tk,by have:=g.tk;have:=X.n;omega,X.w.next g⟩
theorem Yx.le{n m k:Nat}(X:Yx V0 d p F c q pr vals n m V s)(h:k<=m):Yx V0 d p F c q pr vals n k V s:=⟨X.S,X.fr,X.pm,X.G,X.hv,X.M,X.tk,X.n,X.w.le h⟩
theorem Gv.sub{V':Mem}(h:Gv V0 q pr vals)(hs:V0.sub V'):Gv V' q pr vals:=by
 obtain⟨a,b,h1,h2,h3⟩:=h.ex
 exact⟨a,b,hs _ _ h1,h2.sub hs,h3.sub hs⟩
theorem nodeX{kf cc:Int}(M:XM V0 d p F V s cc kf){k i:Nat}{ty v:Int}{fs:List Int}(hk:s.ns[k]?=some (ty,fs))(hv:fs[i]?=some v):∃gs ns ls nd sl,V p=some (.cells (qBt d F s.tk cc kf s.cm (qAB s.lg) gs ns ls).toArray 96 (0,0))/\Lay V0 V gs ns ls nd s/\nd[k]?=some ⟨ty,sl,fs⟩/\IR (k:Int) /\
  ¬ns.p=none/\(0:Int)<=(k:Int)/\(k:Int)<(ns.n:Int)/\V.rowp ns.p (k*2) 2=some [.int .i64 ty,.slice sl.p sl.n sl.c]/\¬sl.p=none/\(0:Int)<=(i:Int)/\(i:Int)<(sl.n:Int)/\V.rowp sl.p (i*1) 1=some [.int .i64 v]:=by
 obtain⟨gs,ns,ls,nd,hat,L⟩:=M.ex
 have hnR:=L.nodes.rows (fun _=>rfl) (by decide)
 have hnn:=hnR.n_eq
 obtain⟨sl,hsl⟩:=L.at_ hk
 have hkl:=(List.getElem?_eq_some_iff.1 hsl).1
 obtain⟨y,-,hy,-,-,hp,hz,hrow⟩:=hnR.get (i:=k) (by omega)
 rw[hsl]at hy;cases hy
 have hI:IR ((k:Int)):=⟨by omega,by have:=(hnR.succ (i:=k) (by omega)).2;omega⟩
 obtain⟨g1,g2,g3,g4⟩:=gAt ((L.fld _ (List.mem_of_getElem? hsl)).rows (fun _=>rfl) (by decide)) hv
 exact⟨gs,ns,ls,nd,sl,hat,L,hsl,hI,hp,hz,by omega,hrow,g1,g2,g3,g4⟩
theorem nameX{n m:Nat}(X:Yx V0 d p F c q pr vals n (m+1) V s){nm t:ByteArray}(hl:qBI (qAf d pr).vars nm=t)(hne:t≠sE) :
  Tri Tryz.prog 244 #[pv p,pv q,.string nm] V (XR V0 d p F c (varX d pr vals nm s)):=by
 obtain⟨gs,ns,ls,nd,hat,L⟩:=X.M.ex
 obtain⟨fa,fb,hq0,hra0,hrb0⟩:=X.fr.ex
 have hq:=L.sub _ _ hq0
 have hd:=X.S.ds.sub L.sub
 refine x244 ?_
 unfold w244
 refine⟨nn,nn,fa,qAc hq 5 1 (by simp[qIK]),(c253 (hra0.sub L.sub)).call ⟨_,rfl,?_⟩⟩
 rcases qFj X.G X.hv X.po.vars hl hne with⟨i,g,v,h1,h2,h3,h4,-,h6⟩|⟨i,g,v,h0,h1,h2,h3,h4,-,h6⟩
 ·rw[h1]
  obtain⟨g1,g2,g3,g4⟩:=gAt (hrb0.sub L.sub) h3
  exact qAq (by omega) ⟨nn,nn,fb,qAc hq 6 1 (by simp[qIK]),g1,g2,g3,_,g4,XR.ok h6 X.M⟩
 ·rw[h0]
  refine qAi (by decide) ⟨nn,nn,pnn,d.gs,qAc hat 2 1 (by simp[qBt]),(c253 hd.globals).call ⟨_,rfl,?_⟩⟩
  rw[h1]
  refine Tri.mono (c248 X.M X.fit) ?_
  rintro _ V3 ⟨rfl,M3⟩
  obtain⟨gs3,ns3,ls3,nd3,hat3,L3⟩:=M3.ex
  obtain⟨g1,g2,g3,g4⟩:=gAt (L3.glob.rows (fun _=>rfl) (by decide)) (i:=i) (v:=v) h3
  exact⟨rfl,nn,nn,pnn,gs3,qAc hat3 8 1 (by simp[qBt]),g1,g2,g3,_,g4,XR.ok h6 M3⟩
theorem c247(S:ES V0 d F){kf cc:Int}(M:XM V0 d p F V s cc kf){k j:Nat}{fs:List Int}{tt:Ty}(hk:s.ns[k]?=some ((j:Int),fs))(hj:d.types[j]?=some tt){nm:ByteArray}:PP 247 [pv p,.int .i64 ((k:Int)+1),.string nm] V (.int .i64 (qFe tt.fields nm)):=by
 obtain⟨gs,ns,ls,nd,hat,L⟩:=M.ex
 refine x247 ?_
 unfold w247
 have hd:=S.ds.sub L.sub
 have hnR:=L.nodes.rows (fun _=>rfl) (by decide)
 have hnn:=hnR.n_eq
 obtain⟨sl,hsl⟩:=L.at_ hk
 have hkl:=(List.getElem?_eq_some_iff.1 hsl).1
 obtain⟨y,-,hy,-,-,hp,hz,hrow⟩:=hnR.get (i:=k) (by omega)
 rw[hsl]at hy;cases hy
 have hI:IR ((k:Int)):=⟨by omega,by have:=(hnR.succ (i:=k) (by omega)).2;omega⟩
 have hn:=hd.types.n_eq
 have hjl:=(List.getElem?_eq_some_iff.1 hj).1
 obtain⟨y,-,hy,-,-,hp2,hz2,hrow2⟩:=hd.types.get (i:=j) (by omega)
 rw[hj]at hy;cases hy
 refine⟨nn,nn,pnn,d.ts,qAc hat 1 1 (by simp[qBt]),nn,nn,pnn,ns,qAc hat 9 1 (by simp[qBt]),?_⟩
 rw[show ((k:Int)+1-1)=(k:Int) by omega]
 exact⟨hI,hp,hz,by omega,qAe hp,_,_,hrow,hp2,hz2,(show (j:Int)<d.ts.n by omega),qAe hp2,_,_,hrow2,(c253 (hd.typesOk tt (List.mem_of_getElem? hj)).fields).call ⟨_,rfl,rfl,rfl⟩⟩
theorem allocX{n m:Nat}(X:Yx V0 d p F c q pr vals n (m+1) V s){nm:ByteArray}(hn:qAW d nm=true) :
  Tri Tryz.prog 245 #[pv p,.string nm] V (XR V0 d p F c (newX d nm s)):=by
 obtain⟨gs,ns,ls,nd,hat,L⟩:=X.M.ex
 have hd:=X.S.ds.sub L.sub
 obtain⟨G,hG⟩:∃G,G=newX d nm s:=⟨_,rfl⟩
 rw[<- hG]
 refine Tri.mono (x245 (R:=XR V0 d p F c G) ?_) fun _ _ h=>h
 unfold w245
 have hnn:=(L.nodes.rows (fun _=>rfl) (by decide)).n_eq
 have hlen:=L.len
 refine⟨nn,nn,pnn,ns,qAc hat 9 1 (by simp[qBt]),fun hl=>failX X.M (by decide) ?_,fun hl=>?_⟩
 ·grind [newX]
 have hl:¬4096<=(ns.n:Int):=hl
 obtain⟨tt,htm,hte⟩:=List.any_eq_true.1 hn
 have hte:tt.name=nm:=of_decide_eq_true hte
 obtain⟨j,hj⟩:=List.mem_iff_getElem?.1 htm
 have hidx:qDk d nm=(j:Int):=hte ▸ (qBx (qAx X.G.mem).1).2.1 j tt hj
 have hfo:qAr d (j:Int)=tt.fields:=qBc hj rfl
 refine⟨nn,nn,d.name,d.ts,d.gs,d.ps,d.ms,d.is,d.qs,d.bs,qAc hat 0 8 (by simp[qBt]),(c125 hd).call ⟨_,rfl,?_⟩⟩
 rw[show qHC (fun t:Ty=>decide (t.name=nm)) d.types=(j:Int) from hidx]
 have htn:=hd.types.n_eq
 have hjl:=(List.getElem?_eq_some_iff.1 hj).1
 obtain⟨y,-,hy,-,-,hp,hz,hrow⟩:=hd.types.get (i:=j) (by omega)
 rw[hj]at hy;cases hy
 have hfn:=(hd.typesOk tt htm).fields.n_eq
 have hfl:=(qIo X.S.valid).2 tt htm
 refine⟨nn,nn,pnn,ns,qAc hat 9 1 (by simp[qBt]),nn,nn,pnn,d.ts,qAc hat 1 1 (by simp[qBt]),hp,hz,by omega,qAe hp,_,_,hrow,mk31 (n:=tt.fs.n) rfl rfl (by omega) fun g hg=>⟨⟨some ⟨g,0,none⟩,tt.fs.n,tt.fs.n⟩,rfl,?_⟩⟩
 obtain⟨V2,hV2⟩:∃V2,V2=V.set g (.cells (madeCells (Value.int .i64 0).cells (tt.fs.n*1)) 3 (0,0)):=⟨_,rfl⟩
 have hown:=qHz hg (n:=tt.fs.n) (by omega)
 rw[<- hV2]at hown ⊢
 have hat2:=hown.sub _ _ hat
 refine⟨qAD hat2 9 0 1 (by simp[qBt]),pnn,nn,nn,qAD hat2 9 0 1 (by simp[qBt]),pnn,nn,nn,fun tb htb=>?_⟩
 refine L.new (n:=⟨(j:Int),⟨some ⟨g,0,none⟩,tt.fs.n,tt.fs.n⟩,List.replicate tt.fs.n 0⟩) hown htb rfl rfl (by omega) fun s3 V3 L3 hk3=>⟨s3,rfl,nn,nn,pnn,?_⟩
 have hat3:=hk3 _ _ hat2 (qGW hat ntX L.nodes (.inr (.inl rfl)))
 refine StT.at2 (off:=9) hat3 (by simp[qBt]) ?_
 have M4:XM V0 d p F (V3.set p (.cells (qBt d F s.tk c 0 s.cm (qAB s.lg) gs s3 ls).toArray 96 (0,0))) { s with ns:=s.ns++[((j:Int),List.replicate tt.fs.n 0)] } c 0 :=
  ⟨X.M.p0,gs,s3,ls,nd++[_],Mem.set_same _ _ _,L3.put (qBU hat3 ntX) X.M.p0 _⟩
 have hn3:=(L3.nodes.rows (fun _=>rfl) (by decide)).n_eq
 rw[List.length_append,List.length_singleton]at hn3
 show ¬(some (⟨p,0,none⟩:Addr):Option Addr)=none/\_
 refine⟨nn,nn,pnn,s3,qAc mss 9 1 (by simp[qBt]),?_⟩
 rw[show ((s3.n:Nat):Int)=(s.ns.length:Int)+1 by omega]
 refine Tri.mono (c248 M4 X.fit) ?_
 rintro _ V7 ⟨rfl,M7⟩
 obtain⟨gs7,ns7,ls7,nd7,hat7,L7⟩:=M7.ex
 have hn7:=(L7.nodes.rows (fun _=>rfl) (by decide)).n_eq
 have hl7:=L7.len
 have hl7:nd7.length=(s.ns++[((j:Int),List.replicate tt.fs.n 0)]).length:=hl7
 rw[List.length_append,List.length_singleton]at hl7
 refine⟨rfl,nn,nn,pnn,ns7,qAc hat7 9 1 (by simp[qBt]),?_⟩
 rw[show ((ns7.n:Nat):Int)=(s.ns.length:Int)+1 by omega]
 refine XR.ok ?_ M7
 rw[hG];unfold newX
 rw[if_neg (by omega),hidx,hfo,<- hfn];rfl
theorem integersX{n m:Nat}(X:Yx V0 d p F c q pr vals n m V s){e:E}{t:ByteArray}(hv:VE e)(he:E.Ok V0 e)(ht:qAn d (qAf d pr) e=(t,0)) :
  Tri Tryz.prog 268 #[pv p,pv q,e.v] V fun r V'=>r=.returned (.bool (decide (t=qAN)))/\V.sub V':=by
 obtain⟨gs,ns,ls,nd,hat,L⟩:=X.M.ex
 obtain⟨fa,fb,hq0,-,-⟩:=X.fr.ex
 have hq:=L.sub _ _ hq0
 have hd:=X.S.ds.sub L.sub
 have hpr:=hd.procsOk pr X.pm
 obtain⟨dd,hok⟩:=hv
 have hl:=X.po.lens
 have hg:=(qIo X.S.valid).1
 refine x268 ?_
 unfold w268
 refine⟨nn,nn,_,_,_,_,_,_,_,_,qAc hat 0 8 (by simp[qBt]),nn,nn,_,_,_,_,_,_,_,_,qAc hat 0 8 (by simp[qBt]),nn,nn,_,_,_,_,_,qAc hq 0 5 (by simp[qIK]),?_⟩
 refine Tri.mono (refInProc hd hpr (by omega) (by omega)) ?_
 rintro _ V1 ⟨s',rfl,hs1,hr1⟩
 refine⟨_,_,rfl,qAD (hs1 _ _ hat) 0 0 8 (by simp[qBt]),nn,nn,?_⟩
 have hE:=qJU (sc:=qAf d pr) (hd.sub hs1) hr1 e (he.sub (L.sub.trans hs1)) dd hok V1 (Mem.sub.refl _)
 refine hE.call ⟨_,_,rfl,fun h=>⟨?_,hs1⟩,fun h=>absurd (show (qAn d (qAf d pr) e).2=0 by rw[ht]) h⟩
 rw[ht];rfl
theorem compareX{n m:Nat}(X:Yx V0 d p F c q pr vals n (m+1) V s){e a:E}{u:ByteArray}{v w:Int}(hv:VE e)(he:E.Ok V0 e)(h0:e.k[0]?=some a)(ha:qAn d (qAf d pr) a=(u,0))(hop:e.op=14∨e.op=15∨(e.op=16/\u=qAN)∨(e.op=17/\u=qAN)) :
  Tri Tryz.prog 251 #[pv p,pv q,e.v,.int .i64 v,.int .i64 w] V (XR V0 d p F c (qDS (qCw e.op v w) (qKF (decide (u=qAN)) e.op s))):=by
 obtain⟨gs,ns,ls,nd,hat,L⟩:=X.M.ex
 obtain⟨G,hG⟩:∃G,G=qDS (qCw e.op v w) (qKF (decide (u=qAN)) e.op s):=⟨_,rfl⟩
 rw[<- hG]
 obtain⟨k1,k2,k3,k4⟩:=qDs (he.sub L.sub) h0
 have ham:=List.mem_of_getElem? h0
 have hcm:s.cm+1<=16000000:=by have h1:=X.w;have h2:=X.tk;have h3:=X.S.fuel;grind [BW]
 refine Tri.mono (x251 (R:=XR V0 d p F c G) ?_) fun _ _ h=>h
 unfold w251
 refine⟨k1,by decide,k3,_,_,_,_,k4,Tri.mono (integersX X (hv.kids a ham) (he.kids a ham) ha) ?_⟩
 rintro _ V1 ⟨rfl,hs1⟩
 have M1:=X.M.grow hs1
 obtain⟨gs1,ns1,ls1,nd1,hat1,L1⟩:=M1.ex
 have fin:∀{s':St} {V2:Mem},XM V0 d p F V2 s' c 0->s'=qKF (decide (u=qAN)) e.op s ->
   Br (e.op=14) (TT 269 #[uB (decide (v=w))] V2 fun e' V3=>∃v14,e'=rV (uI v14)/\XR V0 d p F c G (rV (uI v14)) V3)
   (Br (e.op=15) (TT 269 #[uB (!(decide (v=w)))] V2 fun e' V3=>∃v14,e'=rV (uI v14)/\XR V0 d p F c G (rV (uI v14)) V3)
   (Br (e.op=16) (TT 269 #[uB (decide (v<w))] V2 fun e' V3=>∃v14,e'=rV (uI v14)/\XR V0 d p F c G (rV (uI v14)) V3)
   (TT 269 #[uB (decide (v<=w))] V2 fun e' V3=>∃v14,e'=rV (uI v14)/\XR V0 d p F c G (rV (uI v14)) V3))):=fun {s' V2} M2 hs'=>by
  have go:∀{x:Bool},qCw e.op v w=.ok (trI x)->Tri Tryz.prog 269 #[.bool x] V2 fun e' V3=>∃v14,e'=.returned (.int .i64 v14)/\XR V0 d p F c G (.returned (.int .i64 v14)) V3:=fun hx=>c269.call ⟨_,rfl,XR.ok (s:=s') (by rw[hG,hx,hs'];rfl) M2⟩
  refine⟨fun h=>go ?_,fun h14=>⟨fun h=>go ?_,fun h15=>⟨fun h=>go ?_,fun h16=>go ?_⟩⟩⟩
  ·rw[show e.op=14 from h];rfl
  ·rw[show e.op=15 from h];rfl
  ·rw[show e.op=16 from h];rfl
  ·have h14:¬e.op=14:=h14
   have h15:¬e.op=15:=h15
   have h16:¬e.op=16:=h16
   rw[show e.op=17 by omega];rfl
 refine⟨_,rfl,fun hi=>?_,fun hi=>?_⟩
 ·have hi:u=qAN:=of_decide_eq_true hi
  refine⟨nn,nn,pnn,_,qAc hat1 14 1 (by simp[qBt]),⟨by omega,by omega⟩,nn,nn,pnn,StT.at2 (off:=14) hat1 (by simp[qBt]) ?_⟩
  refine fin (s':={ s with cm:=s.cm+1 }) (MA.set (row':=qBt d F s.tk c 0 ((s.cm+1:Nat):Int) (qAB s.lg)) ntX M1.p0 hat1 L1 rfl rfl rfl rfl) ?_
  grind [qKF,inr]
 grind [qAN,qKF]
end
section
variable{x y:St->Rx Int}{s s1 s2:St}{acc:List Int}{k:Int}
theorem sq1_ok(h:qIO [x] [] s=.ok acc s1):∃v,x s=.ok v s1/\acc=[v]:=by
 have h:(x s).bind (fun v st=>.ok [v] st)=.ok acc s1:=h
 cases e:x s with
 | ok v t=>rw[e]at h;cases h;simp_all
 | bad c t=>rw[e]at h;cases h
theorem sq1_bad(h:qIO [x] [] s=.bad k s1):x s=.bad k s1:=by
 have h:(x s).bind (fun v st=>.ok [v] st)=.bad k s1:=h
 cases e:x s with
 | ok v t=>rw[e]at h;cases h
 | bad c t=>rw[e]at h;cases h;rfl
theorem sq2_ok(h:qIO [x,y] [] s=.ok acc s2):∃v w s1,x s=.ok v s1/\y s1=.ok w s2/\acc=[v,w]:=by
 have h:(x s).bind (fun v st=>(y st).bind fun w st=>.ok [v,w] st)=.ok acc s2:=h
 cases e:x s with
 | ok v t =>
  rw[e]at h
  have h:(y t).bind (fun w st=>.ok [v,w] st)=.ok acc s2:=h
  cases e2:y t with
  | ok w u=>rw[e2]at h;cases h;grind
  | bad c u=>rw[e2]at h;cases h
 | bad c t=>rw[e]at h;cases h
theorem sq2_bad(h:qIO [x,y] [] s=.bad k s2){g:Int->Int->St->Rx Int}:((x s).bind fun v st=>(y st).bind fun w st=>g v w st)=.bad k s2:=by
 have h:(x s).bind (fun v st=>(y st).bind fun w st=>.ok [v,w] st)=.bad k s2:=h
 cases e:x s with
 | ok v t =>
  rw[e]at h
  have h:(y t).bind (fun w st=>.ok [v,w] st)=.bad k s2:=h
  cases e2:y t with
  | ok w u=>rw[e2]at h;cases h
  | bad c u =>
   rw[e2]at h;cases h
   show ((y t).bind fun w st=>g v w st)=_
   rw[e2];rfl
 | bad c t=>rw[e]at h;cases h;rfl
end
section
variable{V0 W V V1:Mem}{d:Ds}{p F c q:Nat}{s:St}{pr:Pr}{vals:List Int}
theorem XR.narrow{c:Int}{r:Rx Int}{e:Ending}(hs:V0.sub W)(h:XR W d p F c r e V):XR V0 d p F c r e V:=by
 cases r with
 | ok v s=>exact⟨h.1,h.2.narrow hs⟩
 | bad k s=>exact⟨h.1,h.2.1,h.2.2.narrow hs⟩
theorem XR.any{c:Int}{f:FuncId}{args:Array Value}{r:Rx Int}{K:Int->Mem->Prop}(H:Tri Tryz.prog f args V (XR V0 d p F c r))(h:∀v kf s V',XM V0 d p F V' s c kf->(kf=0/\r=.ok v s∨kf≠0/\v=0/\r=.bad kf s)->K v V') :
  Tri Tryz.prog f args V fun e V'=>∃v,e=.returned (.int .i64 v)/\K v V' :=
 XR.call H (fun v s V' e M=>h v 0 s V' M (.inl ⟨rfl,e⟩)) fun k s V' e hk M=>h 0 k s V' M (.inr ⟨hk,rfl,e⟩)
theorem lastW{c:Int}{f:FuncId}{args:Array Value}{G r:Rx Int}(hs:V0.sub W)(hG:G=r)(H:Tri Tryz.prog f args V (XR W d p F c r)):Tri Tryz.prog f args V fun e V'=>∃v,e=.returned (.int .i64 v)/\XR V0 d p F c G (.returned (.int .i64 v)) V' :=
 Tri.mono (XR.last hG H) fun _ _ ⟨v,he,h⟩=>⟨v,he,h.narrow hs⟩
theorem XM.fault{c:Int}{kf:Int}(M:XM V0 d p F V s c kf):V.rowp (sa p) ((13:Int).toNat*1) 1=some [.int .i64 kf]:=by
 obtain⟨gs,ns,ls,nd,hat,L⟩:=M.ex
 exact qAc hat 13 1 (by simp[qBt])
variable(d p F) in
def XCallC(n:Nat):Prop:=∀(V0 V:Mem) (s:St) (c i:Nat) (pr:Pr) (args:List Int) (l:Sl),ES V0 d F->d.procs[i]?=some pr->qAs d s.mm->qAj d s.mm pr.params args=true->qAd V0 l 1 (args.map qAo)->XM V0 d p F V s c 0->s.tk<=F->F<n+s.tk->BW 0 s ->
 Tri Tryz.prog 93 #[pv p,.int .i64 (i:Int),l.v] V (XR V0 d p F c (qCk d (qBZ d F n) c i args s))
variable(d p F) in
def XExprC(n:Nat):Prop:=∀(e:E) (t:ByteArray) (V0 V:Mem) (s:St) (c q:Nat) (pr:Pr) (vals:List Int),Yx V0 d p F c q pr vals n (szE e) V s->VE e->E.Ok V0 e->qAn d (qAf d pr) e=(t,0) ->
 Tri Tryz.prog 210 #[pv p,pv q,e.v] V (XR V0 d p F c (evX d (qCk d (qBZ d F n) c) pr vals e s))
theorem lazyX{n:Nat}{e:E}(X:Yx V0 d p F c q pr vals n (szE e) V s)(he:E.Ok V0 e){f:E->St->Rx Int}{G:Rx Int}(hop:e.op=19∨e.op=20∨e.op=21){C:Cf}{b:Bool}(hG0:G=qCY d C pr vals b e.op e.n e.s (e.k.map f) s)
  {a a1:E} (h0:e.k[0]?=some a) (h1:e.k[1]?=some a1) (h2:e.op=21->∃a2,e.k[2]?=some a2)
  (kid:∀{i:Nat} {y:E} {V1:Mem} {s1:St},e.k[i]?=some y->(i=0/\V1=V/\s1=s∨i≠0/\∃v,f a s=.ok v s1/\XM V0 d p F V1 s1 c 0)->Tri Tryz.prog 210 #[pv p,pv q,.agg #[.int .i64 y.op,.int .i64 y.n,.string y.s,.slice y.l.p y.l.n y.l.c]] V1 (XR V0 d p F c (f y s1))) :
  Tri Tryz.prog 246 #[pv p,pv q,e.v] V (XR V0 d p F c G):=by
 obtain⟨gs,ns,ls,nd,hat,L⟩:=X.M.ex
 obtain⟨k1,k2,k3,k4⟩:=qDs (he.sub L.sub) h0
 have K:∀{i:Nat} {a:E},e.k[i]?=some a->qEi (e.k.map f) i=f a:=fun h=>qKo h
 refine Tri.mono (x246 (R:=XR V0 d p F c G) ?_) fun _ _ h=>h
 unfold w246
 have hGe:∀{v:Int} {s1:St},f a s=.ok v s1->G=if e.op=19 then (if v=0 then .ok 0 s1 else f a1 s1) else if e.op=20 then (if v=0 then f a1 s1 else .ok 1 s1) else if v=0 then qEi (e.k.map f) 2 s1 else f a1 s1:=fun {v s1} hv=>by
  rcases hop with h|h|h
  ·rw[hG0,cX19 h,K h0,hv,if_pos h];show (if v=0 then _ else qEi (e.k.map f) 1 s1)=_;rw[K h1]
  ·rw[hG0,cX20 h,K h0,hv,if_neg (by omega),if_pos h];show (if v=0 then qEi (e.k.map f) 1 s1 else _)=_;rw[K h1]
  ·rw[hG0,cX21 h,K h0,hv,if_neg (by omega),if_neg (by omega)];show (if v=0 then qEi (e.k.map f) 2 s1 else qEi (e.k.map f) 1 s1)=_;rw[K h1]
 have hGb:∀{k:Int} {s1:St},f a s=.bad k s1->G=.bad k s1:=fun {k s1} hv=>by
  rcases hop with h|h|h
  ·rw[hG0,cX19 h,K h0,hv];rfl
  ·rw[hG0,cX20 h,K h0,hv];rfl
  ·rw[hG0,cX21 h,K h0,hv];rfl
 refine⟨k1,by decide,k3,_,_,_,_,k4,XR.any (kid h0 (.inl ⟨rfl,rfl,rfl⟩)) fun v kf s1 V1 M1 hc=>⟨nn,nn,_,M1.fault,fun hz=>?_,fun hz=>?_⟩⟩
 rotate_left
 ·have hz:¬kf=0:=hz
  rcases hc with⟨h,-⟩|⟨-,rfl,hb⟩
  ·omega
  grind [XR.bad]
 have hz:kf=0:=hz
 rcases hc with⟨-,hv⟩|⟨h,-⟩
 rotate_left
 ·omega
 subst hz
 have hG:=hGe hv
 have heV:=he.sub M1.sub
 obtain⟨l1,l2,l3,l4⟩:=qDs heV h1
 have second:∀{G':Rx Int},G'=f a1 s1->(¬e.l.p=none/\(0:Int)<=(1:Int)/\1<(e.l.n:Int)/\∃v12 v13 v14 v15,V1.rowp e.l.p ((1:Int).toNat*4) 4=some [uI v12,uI v13,uS v14,uL v15] /\
   TT 210 #[uP (sa p),uP (sa q),uA #[uI v12,uI v13,uS v14,uL v15]] V1 fun e' V2=>∃v16,e'=rV (uI v16)/\XR V0 d p F c G' (rV (uI v16)) V2):=fun hG' =>
  ⟨l1,by decide,l3,_,_,_,_,l4,XR.last hG' (kid h1 (.inr ⟨by decide,v,hv,M1⟩))⟩
 rcases hop with h|h|h
 ·rw[if_pos h]at hG
  refine qAi (by omega) (qAq h ⟨fun hv0=>?_,fun hv0=>qAi (by omega) (second ?_)⟩)
  ·rw[if_pos (show v=0 from hv0)]at hG;exact XR.ok hG M1
  simp_all
 ·rw[if_neg (by omega),if_pos h]at hG
  refine qAi (by omega) (qAi (by omega) (qAq h ⟨fun hv0=>second ?_,fun hv0=>?_⟩))
  ·simp_all
  ·rw[if_neg (show ¬v=0 from hv0)]at hG;exact XR.ok hG M1
 ·rw[if_neg (by omega),if_neg (by omega)]at hG
  obtain⟨a2,h2'⟩:=h2 h
  obtain⟨m1,m2,m3,m4⟩:=qDs heV h2'
  refine qAq h ⟨fun hv0=>⟨m1,by decide,m3,_,_,_,_,m4,XR.last ?_ (kid h2' (.inr ⟨by decide,v,hv,M1⟩))⟩,fun hv0=>qAi (by omega) (qAi (by omega) (second ?_))⟩
  ·simp_all
  simp_all
end
section
variable{V0 W V V1:Mem}{d:Ds}{p F c q:Nat}{s:St}{pr:Pr}{vals:List Int}
theorem failW{c:Int}(hs:V0.sub W)(M:XM W d p F V s c 0){k:Int}(hk:k≠0){G:Rx Int}(hG:G=.bad k s):Tri Tryz.prog 126 #[pv p,.int .i64 k] V fun e V'=>∃v,e=.returned (.int .i64 v)/\XR V0 d p F c G (.returned (.int .i64 v)) V' :=
 Tri.mono (failX M hk hG) fun _ _ ⟨v,he,h⟩=>⟨v,he,h.narrow hs⟩
theorem exprX0{n:Nat}(hR:XCallC d p F n):∀(e:E) (V0 V:Mem) (s:St) (c q:Nat) (pr:Pr) (vals:List Int),Yx V0 d p F c q pr vals n (szE e) V s->VE e->E.Ok V0 e->((∃t,qAn d (qAf d pr) e=(t,0))∨(e.op=7/\∃pr' i,CallK d (qAf d pr) e pr' i)) ->
  Tri Tryz.prog 210 #[pv p,pv q,e.v] V (XR V0 d p F c (evX d (qCk d (qBZ d F n) c) pr vals e s)):=by
 intro e
 induction e using E.ind with
 | h e ih =>
 intro V0 V s c q pr vals X hv he ht
 have L0:=X.M.sub
 obtain⟨f,hf⟩:∃f,f=evX d (qCk d (qBZ d F n) c) pr vals:=⟨_,rfl⟩
 obtain⟨G,hG0⟩:∃G:Rx Int,G=qCY d (qCk d (qBZ d F n) c) pr vals (intB d (qAf d pr) e.k) e.op e.n e.s (e.k.map f) s:=⟨_,rfl⟩
 rw[evX_eq,<- hf,<- hG0]
 have hcs:=qDZ X.S.procs (qDn (F:=F) X.S.procs n) c
 have hsz:=szE_eq e
 have K:∀{i:Nat} {a:E},e.k[i]?=some a->qEi (e.k.map f) i=f a:=fun h=>qKo h
 have kid:∀{a:E} {u:ByteArray} {W V1:Mem} {s1:St},a∈e.k->qAn d (qAf d pr) a=(u,0)->V0.sub W->Yx W d p F c q pr vals n (szE a) V1 s1->Tri Tryz.prog 210 #[pv p,pv q,.agg #[.int .i64 a.op,.int .i64 a.n,.string a.s,.slice a.l.p a.l.n a.l.c]] V1 (XR W d p F c (f a s1)):=fun {a u W V1 s1} hm ha hW X1=>by
  rw[hf]
  exact ih a hm W V1 s1 c q pr vals X1 (hv.kids a hm) ((he.kids a hm).sub hW) (.inl ⟨u,ha⟩)
 have snd:∀{a:E} {u:ByteArray} {s1:St} {m:Nat},a∈e.k->qAn d (qAf d pr) a=(u,0)->qAs d s1.mm->Gr F m s s1->RxP d F (szE a) s1 (f a s1) fun v s'=>qBE d s'.mm u v:=fun hm ha G1 g1=>by
  rw[hf];exact qJA X.S.procs hcs X.po _ _ _ (hv.kids _ hm) ha G1 (qAm (fun h=>g1.right h) X.hv)
 have hkt:∀a∈e.k,qAn d (qAf d pr) a=((qAn d (qAf d pr) a).1,0):=fun a ha=>by
  rcases ht with⟨t,ht⟩|⟨-,pr',i,hc⟩
  ·exact Prod.ext rfl ((qFk ht).1 a ha)
  ·obtain⟨j,hj⟩:=List.mem_iff_getElem?.1 ha
   have hjl:=(List.getElem?_eq_some_iff.1 hj).1
   rw[hc.len]at hjl
   obtain⟨u,hu,-⟩:=hc.fit j a _ hj (List.getElem?_eq_getElem hjl)
   rw[hu]
 have hkind:(∃t,qEk d (qAf d pr) e t/\e.op≠7)∨(e.op=7/\∃pr' i,CallK d (qAf d pr) e pr' i):=by
  rcases ht with⟨t,ht⟩|h
  ·by_cases h7:e.op=7
   ·right
    cases kindX (sc:=qAf d pr) rfl hv ht with
    | call h hc hr=>grind
    | int h hn=>omega
    | bool h hn=>omega
    | nil h hn=>omega
    | var h hl hne=>omega
    | fld h=>omega
    | new h=>omega
    | neg h=>omega
    | not h=>omega
    | log h=>omega
    | and h=>omega
    | or h=>omega
    | cond h=>omega
    | eq h=>omega
    | cmp h=>omega
    | ari h=>omega
   ·exact .inl ⟨t,kindX (sc:=qAf d pr) rfl hv ht,h7⟩
  ·exact .inr h
 have hall:∀j:Nat,((e.k.take j).map szE).sum<=(e.k.map szE).sum:=fun j=>by
  have:=congrArg (fun l=>(l.map szE).sum) (List.take_append_drop j e.k)
  grind
 refine Tri.mono (x210 (R:=XR V0 d p F c G) ?_) fun _ _ h=>h
 unfold w210
 refine⟨nn,nn,_,X.M.fault,fun _=>?_,fun h=>absurd rfl h⟩
 have lz:(e.op=19∨e.op=20∨e.op=21)->∀{a a1:E},e.k[0]?=some a->e.k[1]?=some a1->(e.op=21->∃a2,e.k[2]?=some a2)->(∀{i:Nat} {y:E},i≠0->e.k[i]?=some y->szE a+szE y<=szE e) ->
   Tri Tryz.prog 246 #[pv p,pv q,e.v] V fun e' V'=>∃v,e'=.returned (.int .i64 v)/\XR V0 d p F c G (.returned (.int .i64 v)) V':=fun hop {a a1} h0 h1 h2 hle=>by
  refine XR.last rfl (lazyX X he hop hG0 h0 h1 h2 fun {i y V1 s1} hy hc=>?_)
  have hm:=List.mem_of_getElem? hy
  rcases hc with⟨rfl,rfl,rfl⟩|⟨hi,v,hv1,M1⟩
  ·rw[h0]at hy;cases hy
   have:szE a<=szE e:=by grind
   exact kid hm (hkt _ hm) (Mem.sub.refl _) (X.le this)
  ·have ha:=List.mem_of_getElem? h0
   obtain⟨G1,g1,-⟩:=(snd ha (hkt _ ha) X.G (Gr.refl s)).got hv1
   exact kid hm (hkt _ hm) (Mem.sub.refl _) ((X.le (k:=szE a+szE y) (hle hi hy)).next g1 G1 M1)
 by_cases hE:e.op=1∨e.op=2∨e.op=3∨e.op=4∨e.op=6∨e.op=19∨e.op=20∨e.op=21
 ·rcases hkind with⟨t,hkind,h7⟩|⟨h7,-⟩
  rotate_left
  ·omega
  cases hkind with
  | int h hn=>exact qAq h (XR.ok (hG0.trans (cX1 (.inl h))) X.M)
  | bool h hn=>exact qAi (by omega) (qAq h (XR.ok (hG0.trans (cX1 (.inr h))) X.M))
  | nil h hn=>exact qAi (by omega) (qAi (by omega) (qAq h (XR.ok (hG0.trans (cX3 h)) X.M)))
  | var h hl hne=>exact qAi (by omega) (qAi (by omega) (qAi (by omega) (qAq h (XR.last (hG0.trans (cX4 h)) (nameX (X.le (k:=0+1) (by omega)) hl hne)))))
  | new h hn=>exact qAi (by omega) (qAi (by omega) (qAi (by omega) (qAi (by omega) (qAq h (XR.last (hG0.trans (cX6 h)) (allocX (X.le (k:=0+1) (by omega)) hn))))))
  | @and a b h hk ha hb =>
   refine qAi (by omega) (qAi (by omega) (qAi (by omega) (qAi (by omega) (qAi (by omega) (qAq h (lz (.inl h) (a:=a) (a1:=b) (by rw[hk];rfl) (by rw[hk];rfl) (fun h=>by omega) fun {i y} hi hy=>?_))))))
   grind
  | @or a b h hk ha hb =>
   refine qAi (by omega) (qAi (by omega) (qAi (by omega) (qAi (by omega) (qAi (by omega) (qAi (by omega) (qAq h (lz (.inr (.inl h)) (a:=a) (a1:=b) (by rw[hk];rfl) (by rw[hk];rfl) (fun h=>by omega) fun {i y} hi hy=>?_)))))))
   grind
  | @cond a b c' _ u w h hk ha hb hc hu hw htt =>
   refine qAi (by omega) (qAi (by omega) (qAi (by omega) (qAi (by omega) (qAi (by omega) (qAi (by omega) (qAi (by omega) (qAq h (lz (.inr (.inr h)) (a:=a) (a1:=b) (by rw[hk];rfl) (by rw[hk];rfl) (fun _=>⟨c',by rw[hk];rfl⟩) fun {i y} hi hy=>?_))))))))
   grind
  | fld h=>omega
  | call h=>omega
  | neg h=>omega
  | not h=>omega
  | log h=>omega
  | eq h=>omega
  | cmp h=>omega
  | ari h=>omega
 ·refine qAi (by omega) (qAi (by omega) (qAi (by omega) (qAi (by omega) (qAi (by omega) (qAi (by omega) (qAi (by omega) (qAi (by omega) ?_)))))))
  have hGb:∀{k:Int} {s2:St},qIO (e.k.map f) [] s=.bad k s2->G=.bad k s2:=fun {k s2} hb=>by
   have one:∀{a:E},e.k=[a]->f a s=.bad k s2:=fun hk=>by grind [sq1_bad]
   rcases hkind with⟨t,hkind,h7⟩|⟨h7,-⟩
   rotate_left
   ·rw[hG0,cX7 h7,hb];rfl
   cases hkind with
   | @fld _ u a h hk ha hf'=>rw[hG0,cX5 h,K (a:=a) (by rw[hk];rfl),one hk];rfl
   | call h hc hr=>omega
   | @neg a h hk ha=>rw[hG0,cX8 h,K (a:=a) (by rw[hk];rfl),one hk];rfl
   | @not a h hk ha=>rw[hG0,cX18 h,K (a:=a) (by rw[hk];rfl),one hk];rfl
   | @log a h hk ha=>rw[hG0,cX24 h,K (a:=a) (by rw[hk];rfl),one hk];rfl
   | @eq a b u w h hk ha hb' hf'=>rw[hG0,qIY (by omega),K (i:=0) (a:=a) (by rw[hk];rfl),K (i:=1) (a:=b) (by rw[hk];rfl)];rw[hk]at hb;exact sq2_bad hb
   | @cmp a b h hk ha hb'=>rw[hG0,qIY (by omega),K (i:=0) (a:=a) (by rw[hk];rfl),K (i:=1) (a:=b) (by rw[hk];rfl)];rw[hk]at hb;exact sq2_bad hb
   | @ari a b h hk ha hb'=>rw[hG0,qIY (by omega),K (i:=0) (a:=a) (by rw[hk];rfl),K (i:=1) (a:=b) (by rw[hk];rfl)];rw[hk]at hb;exact sq2_bad hb
   | int h=>omega
   | bool h=>omega
   | nil h=>omega
   | var h=>omega
   | new h=>omega
   | and h=>omega
   | or h=>omega
   | cond h=>omega
  have hlen6:e.k.length<=2000:=by
   have h1:=he.rows.n_eq
   rcases hkind with⟨t,hkind,h7⟩|⟨h7,pr',i,hc⟩
   rotate_left
   ·rw[hc.len];have:=qHa X.S.procs hc.at_;omega
   cases hkind with
   | @fld _ u a h hk ha hf'=>rw[hk];simp
   | call h hc hr=>omega
   | @neg a h hk ha=>rw[hk];simp
   | @not a h hk ha=>rw[hk];simp
   | @log a h hk ha=>rw[hk];simp
   | @eq a b u w h hk ha hb' hf'=>rw[hk];simp
   | @cmp a b h hk ha hb'=>rw[hk];simp
   | @ari a b h hk ha hb'=>rw[hk];simp
   | int h=>omega
   | bool h=>omega
   | nil h=>omega
   | var h=>omega
   | new h=>omega
   | and h=>omega
   | or h=>omega
   | cond h=>omega
  refine loop3u (mk:=fun s:Sl=>.slice s.p s.n s.c) (mc:=.int .i64) (b0:=⟨none,0,0⟩) (c0:=0) qBD qDt e.k.length (fun j sl _ V1=>∃W acc s1,V0.sub W/\Sx.Own V0 W 3 1 sl (acc.flatMap qAo)/\XM W d p F V1 s1 c 0/\acc.length=j/\qAs d s1.mm/\Gr F ((e.k.take j).map szE).sum s s1/\(∀(i:Nat) a v,e.k[i]?=some a->acc[i]?=some v->qBE d s1.mm (qAn d (qAf d pr) a).1 v) /\
   qIO (e.k.map f) [] s=qIO ((e.k.drop j).map f) acc s1) ⟨V0,[],s,Mem.sub.refl _,Own.nil (Mem.sub.refl _) _ _,X.M,rfl,X.G,by simpa using Gr.refl s,fun i a v _ h=>by simp at h,rfl⟩ ?_
  rintro j sl z V1 J hj ⟨W,acc,s1,hW,ho,M1,hacc,G1,g1,ha1,hseq⟩ hJ
  have heW:=(he.sub hW).sub M1.sub
  refine⟨fun hlt=>?_,fun hge=>?_⟩
  ·obtain⟨a,ham,ha,hdr,hjl,hp,hz,hrow⟩:=heW.rows.get hlt
   have hu:=hkt a ham
   have hsum:((e.k.take (j+1)).map szE).sum=((e.k.take j).map szE).sum+szE a:=by grind
   have X1:Yx W d p F c q pr vals n (szE a) V1 s1:=by
    have X':=X.le (k:=((e.k.take j).map szE).sum+szE a) (by grind)
    exact⟨X.S.sub hW,X.fr.sub hW,X.pm,G1,qAm (fun h=>g1.right h) X.hv,M1,g1.fu X.tk,by have:=g1.tk;have:=X.n;omega,X'.w.next g1⟩
   rw[hdr,List.map_cons]at hseq
   have hseq':qIO (e.k.map f) [] s=(f a s1).bind fun v st=>qIO ((e.k.drop (j+1)).map f) (acc++[v]) st:=hseq
   refine⟨hp,hz,hlt,_,_,_,_,hrow,XR.any (kid ham hu hW X1) fun v kf s2 V2 M2 hc=>fun tb htb=>?_⟩
   have ho2:Sx.Own V0 V2 3 1 sl (acc.flatMap qAo):=Own.moveB ho (hW.trans M2.sub) fun g cur _ hg=>M2.sub _ _ hg
   refine app31 (s:=sl) (u:=⟨some ⟨tb,0,none⟩,1,1⟩) (xs:=acc) (ys:=[v]) rfl rfl (ho2.but.new htb (.cells #[.int .i64 v] 3 (0,0))) (one_int mss) (by simp;omega) fun o3 V3 ho3=>⟨o3,rfl,?_⟩
   obtain⟨W',hW',M3,ho4⟩:=M2.beside hW ho ho3
   refine⟨nn,nn,_,XM.fault M3,fun hkf=>⟨heW.rows.succ hlt,hJ hjl _ _ _ ?_⟩,fun hkf=>?_⟩
   ·rcases hc with⟨hk0,e2⟩|⟨h,-⟩
    rotate_left
    ·omega
    subst hk0
    obtain⟨G2,g2,hv2⟩:=(snd ham hu G1 g1).got e2
    refine⟨W',acc++[v],s2,hW',ho4,M3,by grind,G2,by rw[hsum];exact g1.trans g2,fun i b w hb hw=>?_,by rw[hseq',e2];rfl⟩
    by_cases hi:i<acc.length
    ·rw[List.getElem?_append_left hi]at hw
     exact g2.val (ha1 i b w hb hw)
    grind
   ·have hkf:¬kf=0:=hkf
    rcases hc with⟨h,-⟩|⟨-,rfl,e2⟩
    ·omega
    exact(XR.bad (hGb (by rw[hseq',e2];rfl)) hkf M3).narrow hW'
  ·have hdn:=(heW.rows.done hge).2
   rw[List.take_of_length_le hdn]at g1
   rw[List.drop_eq_nil_of_le hdn]at hseq
   have hseq:qIO (e.k.map f) [] s=.ok acc s1:=hseq
   obtain⟨gs,ns,ls,nd,hat,L⟩:=M1.ex
   have hd:=(X.S.sub hW).ds.sub L.sub
   have hoR:qAd W sl 1 (acc.map qAo):=ho.rows (fun _=>rfl) (by decide)
   have X1:Yx W d p F c q pr vals n 1 V1 s1:=by
    have X':=X.le (k:=(e.k.map szE).sum+1) (by omega)
    exact⟨X.S.sub hW,X.fr.sub hW,X.pm,G1,qAm (fun h=>g1.right h) X.hv,M1,g1.fu X.tk,by have:=g1.tk;have:=X.n;omega,X'.w.next g1⟩
   have at_:∀{i:Nat} {v:Int} {V':Mem},acc[i]?=some v->W.sub V'->¬sl.p=none/\(0:Int)<=(i:Int)/\(i:Int)<(sl.n:Int)/\V'.rowp sl.p (i*1) 1=some [.int .i64 v]:=fun h hs=>gAt (hoR.sub hs) h
   rcases hkind with⟨t,hkind,h7⟩|⟨h,pr',i,hc⟩
   rotate_left
   ·have hG:=hG0.trans (cX7 h)
    rw[hseq,hc.idx]at hG
    have hG:G=qCk d (qBZ d F n) c (i:Int) acc s1:=hG
    refine qAi (by omega) (qAq h ⟨nn,nn,_,_,_,_,_,_,_,_,qAc hat 0 8 (by simp[qBt]),(c92 hd).call ⟨_,rfl,?_⟩⟩)
    rw[show qHC (fun t:Pr=>decide (t.name=e.s)) d.procs=(i:Int) from hc.idx]
    have hkn:=qDh X.S.procs hc.at_
    refine lastW hW hG (hR W V1 s1 c i pr' acc sl (X.S.sub hW) hc.at_ G1 (qAy.2 ⟨by rw[<- hc.len];omega,fun jj g v hg hv=>?_⟩) hoR M1 (g1.fu X.tk) (by have:=g1.tk;have:=X.n;omega) (X1.w.le (by omega)))
    have hjl:=(List.getElem?_eq_some_iff.1 hg).1
    rw[<- hc.len]at hjl
    obtain⟨u,hu,hfit⟩:=hc.fit jj _ _ (List.getElem?_eq_getElem hjl) hg
    have:=ha1 jj _ v (List.getElem?_eq_getElem hjl) hv
    rw[hu]at this
    exact(qBk X.S.valid (hkn _ (List.mem_of_getElem? hg))).1 (qBX X.S.valid hfit this)
   cases hkind with
   | @fld _ u a h hk ha hf' =>
    have h0:e.k[0]?=some a:=by rw[hk];rfl
    have hG:=hG0
    rw[cX5 h,K h0]at hG
    rw[hk]at hseq
    obtain⟨v,e1,rfl⟩:=sq1_ok hseq
    rw[e1]at hG
    have hG:G=fldX d v e.s s1:=hG
    have hv1:=ha1 0 a v h0 rfl
    rw[ha]at hv1
    obtain⟨a1,a2,a3,a4⟩:=at_ (i:=0) (v:=v) rfl L.sub
    refine qAq h ⟨a1,by decide,a3,_,a4,fun hz=>failW hW M1 (by decide) ?_,fun hz=>?_⟩
    ·grind [fldX]
    have hz:¬v=0:=hz
    obtain⟨k,i,jj,tt,g,fs,w,rfl,e2,e3,e4,e5,e6,e7,e8,e9,-⟩:=qEM X1.G hf' hv1 hz
    refine⟨a1,by decide,a3,_,a4,(c247 X1.S M1 e2 e3).call ⟨_,rfl,a1,by decide,a3,_,a4,?_⟩⟩
    rw[e6]
    refine Tri.mono (c248 M1 (X1.fit (m:=0))) ?_
    rintro _ V3 ⟨rfl,M3⟩
    obtain⟨gs3,ns3,ls3,nd3,sl3,hat3,L3,-,hI,n1,n2,n3,n4,m1,m2,m3,m4⟩:=nodeX M3 (k:=k) (i:=i) e2 e8
    obtain⟨b1,b2,b3,b4⟩:=at_ (i:=0) (v:=(k:Int)+1) rfl L3.sub
    refine⟨rfl,nn,nn,pnn,ns3,qAc hat3 9 1 (by simp[qBt]),b1,by decide,b3,_,b4,?_⟩
    rw[show ((k:Int)+1-1)=(k:Int) by omega]
    refine⟨hI,n1,n2,n3,qAe n1,_,_,n4,m1,m2,m3,_,m4,(XR.ok ?_ M3).narrow hW⟩
    rw[hG]
    unfold fldX
    rw[if_neg hz,show ((k:Int)+1-1).toNat=k by omega,e2]
    grind [Int.toNat_natCast]
   | call h hc hr=>omega
   | @neg a h hk ha =>
    have h0:e.k[0]?=some a:=by rw[hk];rfl
    have hG:=hG0
    rw[cX8 h,K h0]at hG
    rw[hk]at hseq
    obtain⟨v,e1,rfl⟩:=sq1_ok hseq
    rw[e1]at hG
    have hG:G=qDS (big (-v)) s1:=hG
    have hv1:=ha1 0 a v h0 rfl
    rw[ha]at hv1
    have:=qBa.1 hv1
    rw[<- Int.zero_sub]at hG
    obtain⟨a1,a2,a3,a4⟩:=at_ (i:=0) (v:=v) rfl L.sub
    exact qAi (by omega) (qAi (by omega) (qAq h ⟨a1,by decide,a3,_,a4,⟨by omega,by omega⟩,lastW hW hG (c249 M1)⟩))
   | @log a h hk ha =>
    have h0:e.k[0]?=some a:=by rw[hk];rfl
    have hG:=hG0
    rw[cX24 h,K h0]at hG
    rw[hk]at hseq
    obtain⟨v,e1,rfl⟩:=sq1_ok hseq
    rw[e1]at hG
    have hG:G=.ok (qIU v) s1:=hG
    have hv1:=ha1 0 a v h0 rfl
    rw[ha]at hv1
    have:=qBa.1 hv1
    obtain⟨a1,a2,a3,a4⟩:=at_ (i:=0) (v:=v) rfl L.sub
    exact qAi (by omega) (qAi (by omega) (qAi (by omega) (qAq h ⟨a1,by decide,a3,_,a4,(c250 (by omega)).call ⟨_,rfl,(XR.ok hG M1).narrow hW⟩⟩)))
   | @not a h hk ha =>
    have h0:e.k[0]?=some a:=by rw[hk];rfl
    have hG:=hG0
    rw[cX18 h,K h0]at hG
    rw[hk]at hseq
    obtain⟨v,e1,rfl⟩:=sq1_ok hseq
    rw[e1]at hG
    have hG:G=.ok (1-v) s1:=hG
    have hv1:=ha1 0 a v h0 rfl
    rw[ha]at hv1
    have:=qAZ.1 hv1
    obtain⟨a1,a2,a3,a4⟩:=at_ (i:=0) (v:=v) rfl L.sub
    exact qAi (by omega) (qAi (by omega) (qAi (by omega) (qAi (by omega) (qAq h ⟨a1,by decide,a3,_,a4,⟨by omega,by omega⟩,(XR.ok hG M1).narrow hW⟩))))
   | @eq a b u w h hk ha hb' hf' =>
    have h0:e.k[0]?=some a:=by rw[hk];rfl
    have h1:e.k[1]?=some b:=by rw[hk];rfl
    have hG:=hG0
    rw[qIY (by omega),K h0,K h1]at hG
    have hib:intB d (qAf d pr) e.k=decide (u=qAN):=by rw[hk];show decide ((qAn d (qAf d pr) a).1=qAN)=_;rw[ha]
    rw[hib]at hG
    rw[hk]at hseq
    obtain⟨v,y,s',e1,e2,rfl⟩:=sq2_ok hseq
    rw[e1]at hG
    have hG:G=(f b s').bind fun w st=>qDS (qCw e.op v w) (qKF (decide (u=qAN)) e.op st):=hG
    rw[e2]at hG
    obtain⟨a1,a2,a3,a4⟩:=at_ (i:=0) (v:=v) rfl L.sub
    obtain⟨b1,b2,b3,b4⟩:=at_ (i:=1) (v:=y) rfl L.sub
    have fin:=lastW hW hG (compareX (v:=v) (w:=y) (X1.le (k:=0+1) (by omega)) hv (he.sub hW) h0 ha (by omega))
    rcases h with h|h
    ·exact qAi (by omega) (qAi (by omega) (qAi (by omega) (qAi (by omega) (qAi (by omega) (qAq h ⟨a1,by decide,a3,_,a4,b1,by decide,b3,_,b4,fin⟩)))))
    ·exact qAi (by omega) (qAi (by omega) (qAi (by omega) (qAi (by omega) (qAi (by omega) (qAi (by omega) (qAq h ⟨a1,by decide,a3,_,a4,b1,by decide,b3,_,b4,fin⟩))))))
   | @cmp a b h hk ha hb' =>
    have h0:e.k[0]?=some a:=by rw[hk];rfl
    have h1:e.k[1]?=some b:=by rw[hk];rfl
    have hG:=hG0
    rw[qIY (by omega),K h0,K h1]at hG
    have hib:intB d (qAf d pr) e.k=decide (qAN=qAN):=by rw[hk];show decide ((qAn d (qAf d pr) a).1=qAN)=_;rw[ha]
    rw[hib]at hG
    rw[hk]at hseq
    obtain⟨v,y,s',e1,e2,rfl⟩:=sq2_ok hseq
    rw[e1]at hG
    have hG:G=(f b s').bind fun w st=>qDS (qCw e.op v w) (qKF (decide (qAN=qAN)) e.op st):=hG
    rw[e2]at hG
    obtain⟨a1,a2,a3,a4⟩:=at_ (i:=0) (v:=v) rfl L.sub
    obtain⟨b1,b2,b3,b4⟩:=at_ (i:=1) (v:=y) rfl L.sub
    have fin:=lastW hW hG (compareX (v:=v) (w:=y) (X1.le (k:=0+1) (by omega)) hv (he.sub hW) h0 ha (by grind))
    rcases h with h|h
    ·exact qAi (by omega) (qAi (by omega) (qAi (by omega) (qAi (by omega) (qAi (by omega) (qAi (by omega) (qAi (by omega) (qAq h ⟨a1,by decide,a3,_,a4,b1,by decide,b3,_,b4,fin⟩)))))))
    ·exact qAi (by omega) (qAi (by omega) (qAi (by omega) (qAi (by omega) (qAi (by omega) (qAi (by omega) (qAi (by omega) (qAi (by omega) (qAq h ⟨a1,by decide,a3,_,a4,b1,by decide,b3,_,b4,fin⟩))))))))
   | @ari a b h hk ha hb' =>
    have h0:e.k[0]?=some a:=by rw[hk];rfl
    have h1:e.k[1]?=some b:=by rw[hk];rfl
    have hG:=hG0
    rw[qIY (by omega),K h0,K h1]at hG
    rw[hk]at hseq
    obtain⟨v,y,s',e1,e2,rfl⟩:=sq2_ok hseq
    rw[e1]at hG
    have hG:G=(f b s').bind fun w st=>qDS (qCw e.op v w) (qKF (intB d (qAf d pr) e.k) e.op st):=hG
    rw[e2]at hG
    have hG:G=qDS (qCw e.op v y) (qKF (intB d (qAf d pr) e.k) e.op s1):=hG
    unfold qKF at hG
    rw[if_neg (by omega)]at hG
    have hv1:=ha1 0 a v h0 rfl
    have hv2:=ha1 1 b y h1 rfl
    rw[ha]at hv1
    rw[hb']at hv2
    obtain⟨a1,a2,a3,a4⟩:=at_ (i:=0) (v:=v) rfl L.sub
    obtain⟨b1,b2,b3,b4⟩:=at_ (i:=1) (v:=y) rfl L.sub
    exact qAi (by omega) (qAi (by omega) (qAi (by omega) (qAi (by omega) (qAi (by omega) (qAi (by omega) (qAi (by omega) (qAi (by omega) (qAi (by omega) ⟨a1,by decide,a3,_,a4,b1,by decide,b3,_,b4,lastW hW hG (c252 M1 h (qBa.1 hv1) (qBa.1 hv2))⟩))))))))
   | int h=>omega
   | bool h=>omega
   | nil h=>omega
   | var h=>omega
   | new h=>omega
   | and h=>omega
   | or h=>omega
   | cond h=>omega
theorem exprX{n:Nat}(hR:XCallC d p F n):XExprC d p F n:=fun e t V0 V s c q pr vals X hv he ht=>exprX0 hR e V0 V s c q pr vals X hv he (.inl ⟨t,ht⟩)
end
end Go.Proofs
