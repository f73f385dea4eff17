/- Part 11 of a proof of a law of this seat: no statement of the seat is proved here. -/
import Derived.Test.YtginfholjbbgeaaGreatDoorPart10
import Derived.Test.YtginfholjbbgeaaGreatDoorPart05
set_option linter.unusedVariables false
set_option linter.unusedSimpArgs false
namespace Go.Proofs
open Go Go.Sx
attribute [local irreducible] Go.Sx.Tri
section
variable{V:Mem}{d:Ds}{c:Option Addr}
theorem impForm(h:qBv V c d):FltC 132 [.pointer c] V (qEO d):=by
 refine x132 ?_
 unfold w132 qEO
 have rf:=Mem.sub.refl V
 refine⟨h.nn,h.nn,qAe h.nn,d.ms,h.cell (i:=4) rfl,?_⟩
 unfold form1
 generalize hf1:(fun i (m:Ms)=>if (d.measures.take i).any (fun g=>decide (g.name=m.name))=true then some ((m.name,-1,10):Flt) else if qBf d m.ty=false then some (m.name,-1,9) else none)=F1
 refine qBl d.measures.length (fun k V1=>V=V1/\qAi F1 0 d.measures=qAi F1 k (d.measures.drop k)) ⟨rfl,rfl⟩ ?_
 rintro k b V1 J hi ⟨rfl,ha⟩ hJ
 refine⟨fun hk=>?_,fun hk=>?_⟩
 ·obtain⟨g,hm,hx,hdr,hl,hp,hz,hrow⟩:=h.ok.measures.get hk
  rw[hdr]at ha
  refine⟨hp,hz,hk,_,_,_,_,_,_,_,hrow,h.nn,h.nn,qAe h.nn,d.ms,h.cell (i:=4) rfl,(c175 h.ok.measures hx).call ⟨_,rfl,fun h1=>qCE ?_ rf,fun h1=>(c177 h).call ⟨_,rfl,fun h2=>⟨h.ok.measures.succ hk,hJ hl _ _ ⟨rfl,?_⟩⟩,fun h2=>qCE ?_ rf⟩⟩⟩
  ·rw[ha,qAk (b:=(g.name,-1,10)) (by rw[<- hf1];exact if_pos h1)];rfl
  ·rw[ha,qAq (by rw[<- hf1];exact(if_neg h1).trans (if_neg (by rw[h2];simp)))]
  ·rw[ha,qAk (b:=(g.name,-1,9)) (by rw[<- hf1];exact(if_neg h1).trans (if_pos (eq_false_of_ne_true h2)))];rfl
 rw[(h.ok.measures.done hk).1,qAi]at ha
 rw[ha,Option.none_or]
 refine⟨h.nn,h.nn,qAe h.nn,d.is,h.cell (i:=5) rfl,?_⟩
 unfold form2
 generalize hf2:(fun i (m:Iv)=>if (d.invs.take i).any (fun g=>decide (g.name=m.name))=true then some ((m.name,-1,10):Flt) else if m.ty≠sE/\qBf d m.ty=false then some (m.name,-1,9) else none)=F2
 refine qBl d.invs.length (fun k V1=>V=V1/\qAi F2 0 d.invs=qAi F2 k (d.invs.drop k)) ⟨rfl,rfl⟩ ?_
 rintro k b V1 J hi ⟨rfl,ha⟩ hJ
 refine⟨fun hk=>?_,fun hk=>?_⟩
 ·obtain⟨g,hm,hx,hdr,hl,hp,hz,hrow⟩:=h.ok.invs.get hk
  rw[hdr]at ha
  refine⟨hp,hz,hk,_,_,_,_,_,_,hrow,h.nn,h.nn,qAe h.nn,d.is,h.cell (i:=5) rfl,(c178 h.ok.invs hx).call ⟨_,rfl,fun h1=>qCE ?_ rf,fun h1=>⟨fun h3=>⟨h.ok.invs.succ hk,hJ hl _ _ ⟨rfl,?_⟩⟩,fun h3=>(c177 h).call ⟨_,rfl,fun h2=>⟨h.ok.invs.succ hk,hJ hl _ _ ⟨rfl,?_⟩⟩,fun h2=>qCE ?_ rf⟩⟩⟩⟩
  ·rw[ha,qAk (b:=(g.name,-1,10)) (by rw[<- hf2];exact if_pos h1)];rfl
  ·rw[ha,qAq (by rw[<- hf2];exact(if_neg h1).trans (if_neg fun e=>e.1 h3))]
  ·rw[ha,qAq (by rw[<- hf2];exact(if_neg h1).trans (if_neg fun e=>by rw[h2]at e;exact absurd e.2 (by simp)))]
  ·rw[ha,qAk (b:=(g.name,-1,9)) (by rw[<- hf2];exact(if_neg h1).trans (if_pos ⟨h3,eq_false_of_ne_true h2⟩))];rfl
 rw[(h.ok.invs.done hk).1,qAi]at ha
 rw[ha,Option.none_or]
 refine⟨h.nn,h.nn,qAe h.nn,d.qs,h.cell (i:=6) rfl,?_⟩
 unfold form3
 generalize hf3:(fun(_:Nat) (m:Po)=>if m.ty≠sE/\qBf d m.ty=false then some ((sPot,-1,9):Flt) else none)=F3
 refine qBl d.pots.length (fun k V1=>V=V1/\qAi F3 0 d.pots=qAi F3 k (d.pots.drop k)) ⟨rfl,rfl⟩ ?_
 rintro k b V1 J hi ⟨rfl,ha⟩ hJ
 refine⟨fun hk=>?_,fun hk=>?_⟩
 ·obtain⟨g,hm,hx,hdr,hl,hp,hz,hrow⟩:=h.ok.pots.get hk
  rw[hdr]at ha
  refine⟨hp,hz,hk,_,_,_,_,_,hrow,fun h3=>⟨h.ok.pots.succ hk,hJ hl _ _ ⟨rfl,?_⟩⟩,fun h3=>(c177 h).call ⟨_,rfl,fun h2=>⟨h.ok.pots.succ hk,hJ hl _ _ ⟨rfl,?_⟩⟩,fun h2=>qCE ?_ rf⟩⟩
  ·rw[ha,qAq (by rw[<- hf3];exact if_neg fun e=>e.1 h3)]
  ·rw[ha,qAq (by rw[<- hf3];exact if_neg fun e=>by rw[h2]at e;exact absurd e.2 (by simp))]
  ·rw[ha,qAk (b:=(sPot,-1,9)) (by rw[<- hf3];exact if_pos ⟨h3,eq_false_of_ne_true h2⟩)];rfl
 rw[(h.ok.pots.done hk).1,qAi]at ha
 rw[ha,Option.none_or]
 refine⟨h.nn,h.nn,qAe h.nn,d.bs,h.cell (i:=7) rfl,?_⟩
 unfold form4
 generalize hf4:(fun i (b:Bd)=>if (qHj d b.proc).isNone=true then some ((b.proc,-1,9):Flt) else if (d.bounds.take i).any (fun g=>decide (g.proc=b.proc))=true then some (b.proc,-1,10) else none)=F4
 refine qBl d.bounds.length (fun k V1=>V=V1/\qAi F4 0 d.bounds=qAi F4 k (d.bounds.drop k)) ⟨rfl,rfl⟩ ?_
 rintro k b V1 J hi ⟨rfl,ha⟩ hJ
 refine⟨fun hk=>?_,fun hk=>?_⟩
 ·obtain⟨g,hm,hx,hdr,hl,hp,hz,hrow⟩:=h.ok.bounds.get hk
  rw[hdr]at ha
  obtain⟨mt,q1,q2⟩:=h.procs
  refine⟨hp,hz,hk,_,_,_,_,_,hrow,h.nn,h.nn,_,q1,qCa.str Tryz.underlying210 Tryz.underlying9 zero121 q2 ?_⟩
  cases hpr:qHj d g.proc with
  | none =>
   refine⟨_,⟨none,0,0⟩,_,⟨none,0,0⟩,⟨none,0,0⟩,_,rfl,fun h=>absurd h (by simp),fun _=>qCE ?_ rf⟩
   rw[ha,qAk (b:=(g.proc,-1,9)) (by rw[<- hf4];exact if_pos (by rw[hpr];rfl))]
  | some p =>
   have n0:¬(qHj d g.proc).isNone=true:=by rw[hpr];simp
   refine⟨_,p.ps,_,p.ls,p.bs,_,rfl,fun _=>⟨h.nn,h.nn,qAe h.nn,d.bs,h.cell (i:=7) rfl,(c180 h.ok.bounds hx).call ⟨_,rfl,fun h1=>qCE ?_ rf,fun h1=>⟨h.ok.bounds.succ hk,hJ hl _ _ ⟨rfl,?_⟩⟩⟩⟩,fun h=>absurd rfl h⟩
   ·rw[ha,qAk (b:=(g.proc,-1,10)) (by rw[<- hf4];exact(if_neg n0).trans (if_pos h1))]
   ·rw[ha,qAq (by rw[<- hf4];exact(if_neg n0).trans (if_neg h1))]
 rw[(h.ok.bounds.done hk).1,qAi]at ha
 rw[ha]
 exact⟨none,rfl,rf,rfl⟩
theorem impBodies(hS:qGx)(h:qBv V c d)(hv:VNe d)(hp:VParts d):FltC 133 [.pointer c] V (qCo d):=by
 refine x133 ?_
 unfold w133 qCo
 refine⟨h.nn,h.nn,qAe h.nn,d.ps,h.cell (i:=3) rfl,?_⟩
 generalize hf1:(fun(_:Nat) (p:Pr)=>if (qBL d (qAh d p) p.result 0 p.body).2≠0 then some ((p.name,(qBL d (qAh d p) p.result 0 p.body).1,(qBL d (qAh d p) p.result 0 p.body).2):Flt) else none)=F1
 refine qBl d.procs.length (fun k V1=>V.sub V1/\qAi F1 0 d.procs=qAi F1 k (d.procs.drop k)) ⟨Mem.sub.refl _,rfl⟩ ?_
 rintro k b V1 J hi ⟨hV,ha⟩ hJ
 have h1:=h.sub hV
 refine⟨fun hk=>?_,fun hk=>?_⟩
 ·obtain⟨g,hm,hx,hdr,hl,hpp,hz,hrow⟩:=h1.ok.procs.get hk
  rw[hdr]at ha
  have hg:=h1.ok.procsOk g hm
  refine⟨hpp,hz,hk,_,_,_,_,_,hrow,Tri.mono (impInProc hS h1 hv hm hg) ?_⟩
  rintro _ V2 ⟨m,rfl,h12,hsc⟩
  refine⟨_,_,_,rfl,fun b1 hb1=>?_⟩
  obtain⟨hs1,hs2⟩:=hp.ps g hm
  have s1:=Mem.sub_new hb1 (cell (.int .i64 0) 3)
  refine Tri.mono (impStmts hb1 (h1.sub h12) hv hsc rfl g.body _ g.bs 0 1 s1 mss (hg.sub h12).body (hg.sub h12).stmts hs1 (by omega) (by omega)) ?_
  rintro _ V3 ⟨rfl,n',hn',-⟩
  have hV3:=hV.trans (h12.trans (hn'.base s1 hb1))
  refine⟨_,_,rfl,fun h2=>⟨h1.ok.procs.succ hk,hJ hl _ _ ⟨hV3,?_⟩⟩,fun h2=>qCE ?_ hV3⟩
  ·rw[ha,qAq (by rw[<- hf1];exact if_neg fun e=>e h2)]
  ·have:qIr (qBL d (qAh d g) g.result 0 g.body)=(qBL d (qAh d g) g.result 0 g.body).1:=if_neg h2
   rw[this,ha,qAk (b:=(g.name,(qBL d (qAh d g) g.result 0 g.body).1,(qBL d (qAh d g) g.result 0 g.body).2)) (by rw[<- hf1];exact if_pos h2)]
 rw[(h1.ok.procs.done hk).1,qAi]at ha
 rw[ha]
 exact⟨none,rfl,hV,rfl⟩
theorem qBP{V1:Mem}{X:Option Flt}(h:FltAt V1 none X):X=none:=by
 cases X with
 | none=>rfl
 | some r=>obtain⟨b,t,h1,_⟩:=h;cases h1
theorem qEl{V1:Mem}{X:Option Flt}{p:Option Addr}(h:FltAt V1 p X)(hp:¬p=none):∃r,X=some r:=by
 cases X with
 | none=>exact absurd h hp
 | some r=>exact⟨r,rfl⟩
theorem impExps(hS:qGx)(h:qBv V c d)(hv:VNe d)(hp:VParts d)(hform:qEO d=none):FltC 134 [.pointer c] V (qHE d):=by
 refine x134 ?_
 unfold w134 qHE
 refine⟨h.nn,h.nn,qAe h.nn,d.ms,h.cell (i:=4) rfl,?_⟩
 unfold exp1
 generalize hf1:(fun(_:Nat) (m:Ms)=>if qBT d (qAM d m.ty) m.x qBb≠0 then some ((m.name,-1,qBT d (qAM d m.ty) m.x qBb):Flt) else none)=F1
 refine qBl d.measures.length (fun k V1=>V.sub V1/\qAi F1 0 d.measures=qAi F1 k (d.measures.drop k)) ⟨Mem.sub.refl _,rfl⟩ ?_
 rintro k b V1 J hi ⟨hV,ha⟩ hJ
 have h1:=h.sub hV
 refine⟨fun hk=>?_,fun hk=>?_⟩
 ·obtain⟨g,hm,hx,hdr,hl,hpp,hz,hrow⟩:=h1.ok.measures.get hk
  rw[hdr]at ha
  refine⟨hpp,hz,hk,_,_,_,_,_,_,_,hrow,Tri.mono (qDX hS h1 hv) ?_⟩
  rintro _ V2 ⟨m,rfl,h12,hsc⟩
  refine⟨_,_,_,rfl,Tri.mono (c185 (e:=g.x) (h1.sub h12) hv hsc ((h1.sub h12).ok.measuresOk g hm).x (hp.ms g hm)) ?_⟩
  rintro _ V3 ⟨p,rfl,h23,hfl⟩
  have hV3:=hV.trans (h12.trans h23)
  have hfe:(if qBT d (qAM d g.ty) g.x qBb≠0 then some ((g.name,-1,qBT d (qAM d g.ty) g.x qBb):Flt) else none)=F1 k g:=by rw[<- hf1]
  rw[show qAp [105,110,116]=qBb from rfl]at hfl
  rw[hfe]at hfl
  refine⟨_,rfl,fun hn=>?_,fun hn=>?_⟩
  ·subst hn
   exact⟨h1.ok.measures.succ hk,hJ hl _ _ ⟨hV3,by rw[ha,qAq (qBP hfl)]⟩⟩
  ·obtain⟨r,hr⟩:=qEl hfl hn
   rw[ha,qAk hr]
   rw[hr]at hfl
   exact⟨p,rfl,hV3,hfl⟩
 rw[(h1.ok.measures.done hk).1,qAi]at ha
 rw[ha,Option.none_or]
 refine⟨h.nn,h.nn,qAe h.nn,d.is,h1.cell (i:=5) rfl,?_⟩
 unfold exp2
 generalize hf2:(fun(_:Nat) (m:Iv)=>if qBT d (qAM d m.ty) m.x qAu≠0 then some ((m.name,-1,qBT d (qAM d m.ty) m.x qAu):Flt) else none)=F2
 refine qBl d.invs.length (fun k V1=>V.sub V1/\qAi F2 0 d.invs=qAi F2 k (d.invs.drop k)) ⟨hV,rfl⟩ ?_
 rintro k b V1 J hi ⟨hV,ha⟩ hJ
 have h1:=h.sub hV
 refine⟨fun hk=>?_,fun hk=>?_⟩
 ·obtain⟨g,hm,hx,hdr,hl,hpp,hz,hrow⟩:=h1.ok.invs.get hk
  rw[hdr]at ha
  refine⟨hpp,hz,hk,_,_,_,_,_,_,hrow,Tri.mono (qDX hS h1 hv) ?_⟩
  rintro _ V2 ⟨m,rfl,h12,hsc⟩
  refine⟨_,_,_,rfl,Tri.mono (c185 (e:=g.x) (h1.sub h12) hv hsc ((h1.sub h12).ok.invsOk g hm) (hp.is g hm)) ?_⟩
  rintro _ V3 ⟨p,rfl,h23,hfl⟩
  have hV3:=hV.trans (h12.trans h23)
  have hfe:(if qBT d (qAM d g.ty) g.x qAu≠0 then some ((g.name,-1,qBT d (qAM d g.ty) g.x qAu):Flt) else none)=F2 k g:=by rw[<- hf2]
  rw[show qAp [98,111,111,108]=qAu from rfl]at hfl
  rw[hfe]at hfl
  refine⟨_,rfl,fun hn=>?_,fun hn=>?_⟩
  ·subst hn
   exact⟨h1.ok.invs.succ hk,hJ hl _ _ ⟨hV3,by rw[ha,qAq (qBP hfl)]⟩⟩
  ·obtain⟨r,hr⟩:=qEl hfl hn
   rw[ha,qAk hr]
   rw[hr]at hfl
   exact⟨p,rfl,hV3,hfl⟩
 rw[(h1.ok.invs.done hk).1,qAi]at ha
 rw[ha,Option.none_or]
 refine⟨h.nn,h.nn,qAe h.nn,d.qs,h1.cell (i:=6) rfl,?_⟩
 unfold exp3
 generalize hf3:(fun(_:Nat) (m:Po)=>if qBT d (qAM d m.ty) m.x qBb≠0 then some ((sPot,-1,qBT d (qAM d m.ty) m.x qBb):Flt) else none)=F3
 refine qBl d.pots.length (fun k V1=>V.sub V1/\qAi F3 0 d.pots=qAi F3 k (d.pots.drop k)) ⟨hV,rfl⟩ ?_
 rintro k b V1 J hi ⟨hV,ha⟩ hJ
 have h1:=h.sub hV
 refine⟨fun hk=>?_,fun hk=>?_⟩
 ·obtain⟨g,hm,hx,hdr,hl,hpp,hz,hrow⟩:=h1.ok.pots.get hk
  rw[hdr]at ha
  refine⟨hpp,hz,hk,_,_,_,_,_,hrow,Tri.mono (qDX hS h1 hv) ?_⟩
  rintro _ V2 ⟨m,rfl,h12,hsc⟩
  refine⟨_,_,_,rfl,Tri.mono (c185 (e:=g.x) (h1.sub h12) hv hsc ((h1.sub h12).ok.potsOk g hm) (hp.qs g hm)) ?_⟩
  rintro _ V3 ⟨p,rfl,h23,hfl⟩
  have hV3:=hV.trans (h12.trans h23)
  have hfe:(if qBT d (qAM d g.ty) g.x qBb≠0 then some ((sPot,-1,qBT d (qAM d g.ty) g.x qBb):Flt) else none)=F3 k g:=by rw[<- hf3]
  rw[show qAp [105,110,116]=qBb from rfl,show qAp [112,111,116,101,110,116,105,97,108]=sPot from rfl]at hfl
  rw[hfe]at hfl
  refine⟨_,rfl,fun hn=>?_,fun hn=>?_⟩
  ·subst hn
   exact⟨h1.ok.pots.succ hk,hJ hl _ _ ⟨hV3,by rw[ha,qAq (qBP hfl)]⟩⟩
  ·obtain⟨r,hr⟩:=qEl hfl hn
   rw[ha,qAk hr]
   rw[hr]at hfl
   exact⟨p,rfl,hV3,hfl⟩
 rw[(h1.ok.pots.done hk).1,qAi]at ha
 rw[ha,Option.none_or]
 refine⟨h.nn,h.nn,qAe h.nn,d.bs,h1.cell (i:=7) rfl,?_⟩
 have hpr:=bounds_proc hform
 unfold exp4
 generalize hf4:(fun(_:Nat) (m:Bd)=>if qBT d (qCx d ((qHj d m.proc).getD prD)) m.x qBb≠0 then some ((m.proc,-1,qBT d (qCx d ((qHj d m.proc).getD prD)) m.x qBb):Flt) else none)=F4
 refine qBl d.bounds.length (fun k V1=>V.sub V1/\qAi F4 0 d.bounds=qAi F4 k (d.bounds.drop k)) ⟨hV,rfl⟩ ?_
 rintro k b V1 J hi ⟨hV,ha⟩ hJ
 have h1:=h.sub hV
 refine⟨fun hk=>?_,fun hk=>?_⟩
 ·obtain⟨g,hm,hx,hdr,hl,hpp,hz,hrow⟩:=h1.ok.bounds.get hk
  rw[hdr]at ha
  obtain⟨q,hq⟩:=hpr g hm
  obtain⟨mt,q1,q2⟩:=h1.procs
  refine⟨hpp,hz,hk,_,_,_,_,_,hrow,h.nn,h.nn,_,q1,qCa.str1 Tryz.underlying210 Tryz.underlying9 zero121 q2 ?_⟩
  rw[hq]
  refine⟨_,q.ps,_,q.ls,q.bs,rfl,Tri.mono (impInBound hS h1 hv (qJc hq) (h1.ok.procsOk q (qJc hq))) ?_⟩
  rintro _ V2 ⟨m,rfl,h12,hsc⟩
  refine⟨_,_,_,rfl,Tri.mono (c185 (e:=g.x) (h1.sub h12) hv hsc ((h1.sub h12).ok.boundsOk g hm) (hp.bs g hm)) ?_⟩
  rintro _ V3 ⟨p,rfl,h23,hfl⟩
  have hV3:=hV.trans (h12.trans h23)
  have hfe:(if qBT d (qCx d q) g.x qBb≠0 then some ((g.proc,-1,qBT d (qCx d q) g.x qBb):Flt) else none)=F4 k g:=by rw[<- hf4];simp only[hq,Option.getD_some]
  rw[show qAp [105,110,116]=qBb from rfl]at hfl
  rw[hfe]at hfl
  refine⟨_,rfl,fun hn=>?_,fun hn=>?_⟩
  ·subst hn
   exact⟨h1.ok.bounds.succ hk,hJ hl _ _ ⟨hV3,by rw[ha,qAq (qBP hfl)]⟩⟩
  ·obtain⟨r,hr⟩:=qEl hfl hn
   rw[ha,qAk hr]
   rw[hr]at hfl
   exact⟨p,rfl,hV3,hfl⟩
 rw[(h1.ok.bounds.done hk).1,qAi]at ha
 rw[ha]
 exact⟨none,rfl,hV,rfl⟩
end
theorem GenK.makeF1{P:Program}{V:Mem}{f:FuncId}{x:Operand}{ty:Nat}{vals:Operand->Value}{v:Value}(hx:vals x=v){q:Value->Mem->Prop}(hq:q (.func (.func f) #[v] #[]) V):GenK P (.makeFunc (.func f) #[x] #[]) ty vals V q:=by
 intro w hw
 refine⟨_,w,V,?_,Frm.refl hw,hq⟩
 unfold execOp Instr.makeFunc
 simp only[Sem.run_bind,Sem.run_pure,Result.andThen_ok,List.map_toArray,List.map_cons,List.map_nil,hx]
section
variable{V:Mem}{d:Ds}{c:Option Addr}
theorem impFirst(hS:qGx)(h:qBv V c d)(hv:VNe d)(hp:VParts d):FltC 95 [.pointer c] V (qHK d):=by
 refine x95 ?_
 unfold w95
 have F1:=fun V1 (hs:V.sub V1)=>impTypes (h.sub hs)
 have F2:=fun V1 (hs:V.sub V1)=>impHeads (h.sub hs) hp.small
 have F3:=fun V1 (hs:V.sub V1)=>impForm (h.sub hs)
 have F4:=fun V1 (hs:V.sub V1)=>impBodies hS (h.sub hs) hv hp
 have F5:=fun V1 (hs:V.sub V1) (hf:qEO d=none)=>impExps hS (h.sub hs) hv hp hf
 refine GenK.makeF1 (v:=.pointer c) rfl ⟨.func (.func 130) #[.pointer c] #[],rfl,rfl,GenK.makeF1 (v:=.pointer c) rfl ⟨.func (.func 131) #[.pointer c] #[],rfl,rfl,GenK.makeF1 (v:=.pointer c) rfl ⟨.func (.func 132) #[.pointer c] #[],rfl,rfl,GenK.makeF1 (v:=.pointer c) rfl ⟨.func (.func 133) #[.pointer c] #[],rfl,rfl,GenK.makeF1 (v:=.pointer c) rfl ⟨.func (.func 134) #[.pointer c] #[],rfl,rfl,fun b hb=>?_⟩⟩⟩⟩⟩
 have hs1:=Mem.sub_new hb (.cells #[.func (.func 130) #[.pointer c] #[],.func (.func 131) #[.pointer c] #[],.func (.func 132) #[.pointer c] #[],.func (.func 133) #[.pointer c] #[],.func (.func 134) #[.pointer c] #[]] 180 (0,0))
 refine qBl 5 (fun i V1=>V.sub V1/\V1 b=some (.cells #[.func (.func 130) #[.pointer c] #[],.func (.func 131) #[.pointer c] #[],.func (.func 132) #[.pointer c] #[],.func (.func 133) #[.pointer c] #[],.func (.func 134) #[.pointer c] #[]] 180 (0,0)) /\
  ((i=0/\qHK d=(qGi d).or ((qEC d).or ((qEO d).or ((qCo d).or (qHE d)))))∨(i=1/\qHK d=(qEC d).or ((qEO d).or ((qCo d).or (qHE d))))∨(i=2/\qHK d=(qEO d).or ((qCo d).or (qHE d)))∨(i=3/\qEO d=none/\qHK d=(qCo d).or (qHE d))∨(i=4/\qEO d=none/\qHK d=qHE d)∨(i=5/\qHK d=none))) ⟨hs1,Mem.set_same _ _ _,.inl ⟨rfl,rfl⟩⟩ ?_
 rintro i b' V1 J hi ⟨hV,hrow,hst⟩ hJ
 have fin:∀{V2:Mem} {X Y:Option Flt} {p:Option Addr},V.sub V2->FltAt V2 p X->¬(p=none)->qHK d=X.or Y->(∃p',Ending.returned (.pointer p)=.returned (.pointer p')/\V.sub V2/\FltAt V2 p' (qHK d)):=fun {V2 X Y p} hs hf hn he=>by
  obtain⟨r,rfl⟩:=qEl hf hn
  rw[he]
  exact⟨p,rfl,hs,hf⟩
 refine⟨fun hlt=>?_,fun hge=>?_⟩
 ·rcases hst with⟨rfl,he⟩|⟨rfl,he⟩|⟨rfl,he⟩|⟨rfl,hf,he⟩|⟨rfl,hf,he⟩|⟨rfl,he⟩
  ·refine⟨by simp[qAa],by omega,by omega,.func (.func 130) #[.pointer c] #[],rfl,qAd hrow 0 1 (by simp),_,_,_,rfl,Tryz.call130,Tri.mono (F1 V1 hV) ?_⟩
   rintro _ V2 ⟨p,rfl,h12,hfl⟩
   refine⟨_,rfl,fun hn=>⟨⟨by omega,by omega⟩,hJ (by omega) _ _ ⟨hV.trans h12,h12 _ _ hrow,?_⟩⟩,fun hn=>fin (hV.trans h12) hfl hn he⟩
   subst hn
   exact .inr (.inl ⟨rfl,by rw[he,qBP hfl,Option.none_or]⟩)
  ·refine⟨by simp[qAa],by omega,by omega,.func (.func 131) #[.pointer c] #[],rfl,qAd hrow 1 1 (by simp),_,_,_,rfl,Tryz.call131,Tri.mono (F2 V1 hV) ?_⟩
   rintro _ V2 ⟨p,rfl,h12,hfl⟩
   refine⟨_,rfl,fun hn=>⟨⟨by omega,by omega⟩,hJ (by omega) _ _ ⟨hV.trans h12,h12 _ _ hrow,?_⟩⟩,fun hn=>fin (hV.trans h12) hfl hn he⟩
   subst hn
   exact .inr (.inr (.inl ⟨rfl,by rw[he,qBP hfl,Option.none_or]⟩))
  ·refine⟨by simp[qAa],by omega,by omega,.func (.func 132) #[.pointer c] #[],rfl,qAd hrow 2 1 (by simp),_,_,_,rfl,Tryz.call132,Tri.mono (F3 V1 hV) ?_⟩
   rintro _ V2 ⟨p,rfl,h12,hfl⟩
   refine⟨_,rfl,fun hn=>⟨⟨by omega,by omega⟩,hJ (by omega) _ _ ⟨hV.trans h12,h12 _ _ hrow,?_⟩⟩,fun hn=>fin (hV.trans h12) hfl hn he⟩
   subst hn
   exact .inr (.inr (.inr (.inl ⟨rfl,qBP hfl,by rw[he,qBP hfl,Option.none_or]⟩)))
  ·refine⟨by simp[qAa],by omega,by omega,.func (.func 133) #[.pointer c] #[],rfl,qAd hrow 3 1 (by simp),_,_,_,rfl,Tryz.call133,Tri.mono (F4 V1 hV) ?_⟩
   rintro _ V2 ⟨p,rfl,h12,hfl⟩
   refine⟨_,rfl,fun hn=>⟨⟨by omega,by omega⟩,hJ (by omega) _ _ ⟨hV.trans h12,h12 _ _ hrow,?_⟩⟩,fun hn=>fin (hV.trans h12) hfl hn he⟩
   subst hn
   exact .inr (.inr (.inr (.inr (.inl ⟨rfl,hf,by rw[he,qBP hfl,Option.none_or]⟩))))
  ·refine⟨by simp[qAa],by omega,by omega,.func (.func 134) #[.pointer c] #[],rfl,qAd hrow 4 1 (by simp),_,_,_,rfl,Tryz.call134,Tri.mono (F5 V1 hV hf) ?_⟩
   rintro _ V2 ⟨p,rfl,h12,hfl⟩
   refine⟨_,rfl,fun hn=>⟨⟨by omega,by omega⟩,hJ (by omega) _ _ ⟨hV.trans h12,h12 _ _ hrow,?_⟩⟩,fun hn=>fin (Y:=none) (hV.trans h12) hfl hn (by rw[he,Option.or_none])⟩
   subst hn
   exact .inr (.inr (.inr (.inr (.inr ⟨rfl,by rw[he,qBP hfl]⟩))))
  ·omega
 ·rcases hst with⟨rfl,he⟩|⟨rfl,he⟩|⟨rfl,he⟩|⟨rfl,hf,he⟩|⟨rfl,hf,he⟩|⟨rfl,he⟩
  ·omega
  ·omega
  ·omega
  ·omega
  ·omega
  ·rw[he];exact⟨none,rfl,hV,rfl⟩
theorem c66[Tab V](hS:qGx)(hN:NewC)(hd:Ds.Ok V d):PP 66 [d.v] V (if qAI d=true then f3 (qHK d) else .tuple #[.string sE,.int .i64 0,.int .i64 1]):=by
 refine Pur.mk (x66 ?_)
 unfold w66
 refine(c73 hd).call ⟨_,rfl,fun hval=>?_,fun hval=>?_⟩
 ·rw[if_pos hval]
  refine Tri.mono (hN V d hd) ?_
  rintro _ V1 ⟨c,rfl,h1,hc⟩
  refine⟨c,rfl,Tri.mono (impFirst hS hc (vne hval) (vparts hval)) ?_⟩
  rintro _ V2 ⟨p,rfl,h2,hfl⟩
  refine⟨p,rfl,fun hn=>?_,fun hn=>?_⟩
  ·subst hn
   rw[qBP hfl]
   exact⟨rfl,h1.trans h2⟩
  ·obtain⟨r,hr⟩:=qEl hfl hn
   rw[hr]at hfl ⊢
   obtain⟨b,t,rfl,hb⟩:=hfl
   exact⟨hn,hn,_,qAd hb 0 1 (by simp),hn,hn,_,qAd hb 1 1 (by simp),hn,hn,_,qAd hb 2 1 (by simp),qBN (p:=some ⟨b,0,none⟩) (qAd hb 2 1 (by simp)),hn,hn,qBN (p:=some ⟨b,0,none⟩) (qAd hb 1 1 (by simp)),hn,hn,qBN (p:=some ⟨b,0,none⟩) (qAd hb 2 1 (by simp)),hn,hn,rfl,h1.trans h2⟩
 ·rw[if_neg hval];exact⟨rfl,Mem.sub.refl _⟩
end
end Go.Proofs
namespace Go.Sx
open Go
open Classical
section
variable{α:Type}{enc:α->Value}{P:Program}{t kt et:TypeId}{V V':Mem}{b c:Nat}{m m':α->Option Value}
end
end Go.Sx
namespace Go.Proofs
open Go Go.Sx
attribute [local irreducible] Go.Sx.Tri
def qAm(n:Int):List Value:=[.int .i64 n]
def inI(n:Int):Prop:=-9223372036854775808<=n/\n<=9223372036854775807
structure Nd where
 ty:Int
 sl:Sl
 f:List Int
def Nd.row(n:Nd):List Value:=[.int .i64 n.ty,n.sl.v]
def Nd.v(n:Nd):Value:=.agg n.row.toArray
structure Nd.Ok (V:Mem) (n:Nd):Prop where
 rows:qAc V n.sl 1 (n.f.map qAm)
 tyIn:inI n.ty
 vals:∀x∈n.f,inI x
structure Mm where
 gs:Sl
 globals:List Int
 ns:Sl
 nodes:List Nd
def Mm.row(m:Mm):List Value:=[m.gs.v,m.ns.v]
def Mm.v(m:Mm):Value:=.agg m.row.toArray
structure Mm.Ok (V:Mem) (m:Mm):Prop where
 globals:qAc V m.gs 1 (m.globals.map qAm)
 gIn:∀x∈m.globals,inI x
 nodes:qAc V m.ns 2 (m.nodes.map Nd.row)
 nodesOk:∀n∈m.nodes,Nd.Ok V n
theorem Nd.Ok.sub{V V':Mem}{n:Nd}(h:Nd.Ok V n)(hs:V.sub V'):Nd.Ok V' n:=⟨h.rows.sub hs,h.tyIn,h.vals⟩
theorem Mm.Ok.sub{V V':Mem}{m:Mm}(h:Mm.Ok V m)(hs:V.sub V'):Mm.Ok V' m:=⟨h.globals.sub hs,h.gIn,h.nodes.sub hs,fun n hn=>(h.nodesOk n hn).sub hs⟩
def allI{α:Type}(p:Nat->α->Bool)(xs:List α):Bool:=xs.zipIdx.all fun x=>p x.2 x.1
def AllI{α:Type}(p:Nat->α->Bool)(xs:List α)(i:Nat):Prop:=∀j x,j<i->xs[j]?=some x->p j x=true
theorem AllI.zero{α:Type}{p:Nat->α->Bool}{xs:List α}:AllI p xs 0:=fun _ _ h=>absurd h (Nat.not_lt_zero _)
theorem AllI.succ{α:Type}{p:Nat->α->Bool}{xs:List α}{i:Nat}{x:α}(h:AllI p xs i)(hx:xs[i]?=some x)(hp:p i x=true):AllI p xs (i+1):=fun j y hj hy=>by
 rcases Nat.lt_succ_iff_lt_or_eq.1 hj with h'|rfl
 ·exact h j y h' hy
 ·rw[hx]at hy;cases hy;exact hp
theorem qEu{α:Type}{p:Nat->α->Bool}{xs:List α}:allI p xs=true↔∀j x,xs[j]?=some x->p j x=true:=by
 unfold allI
 rw[List.all_eq_true]
 constructor
 ·intro h j x hx
  exact h (x,j) (by rw[List.mem_zipIdx_iff_getElem?];exact hx)
 ·rintro h ⟨x,j⟩ hx
  rw[List.mem_zipIdx_iff_getElem?]at hx
  exact h j x hx
theorem AllI.all{α:Type}{p:Nat->α->Bool}{xs:List α}{i:Nat}(h:AllI p xs i)(hi:xs.length<=i):allI p xs=true :=
 qEu.2 fun j x hx=>h j x (by have:=(List.getElem?_eq_some_iff.1 hx).1;omega) hx
theorem allI_false{α:Type}{p:Nat->α->Bool}{xs:List α}{j:Nat}{x:α}(hx:xs[j]?=some x)(hp:¬p j x=true):allI p xs=false:=by
 cases h:allI p xs with
 | false=>rfl
 | true=>exact absurd (qEu.1 h j x hx) hp
def qDk(d:Ds)(s:ByteArray):Int:=idxI (fun t=>decide (t.name=s)) d.types
def qBJ(d:Ds)(l:List Fld):Bool:=l.all fun f=>qBn d f.ty
def hasT(d:Ds):Bool:=qAI d&&qBJ d d.globals&&allI (fun i t=>decide (qDk d t.name=(i:Int))&&qBJ d t.fields) d.types
def qAn(d:Ds)(t:Int):List Fld:=((d.types[t.toNat]?).map (·.fields)).getD []
def tyAt(l:List Fld)(i:Nat):ByteArray:=((l[i]?).map (·.ty)).getD sE
def qAr(d:Ds)(m:Mm)(typ:ByteArray)(v:Int):Bool :=
 if typ=qBb then decide (-1099511627776<=v/\v<=1099511627776) else if typ=qAu then decide (v=0∨v=1)
 else decide (v=0∨(1<=v/\v<=(m.nodes.length:Int)/\(m.nodes[(v-1).toNat]?).map (·.ty)=some (qDk d typ)))
def qAf(d:Ds)(m:Mm)(l:List Fld)(vs:List Int):Bool:=decide (l.length=vs.length)&&allI (fun i v=>qAr d m (tyAt l i) v) vs
def qDT(d:Ds)(n:Nd):Bool:=decide (0<=n.ty/\n.ty<(d.types.length:Int))
def qBI(d:Ds)(m:Mm):Bool:=hasT d&&decide (m.nodes.length<=4096)&&m.nodes.all (qDT d)&&qAf d m d.globals m.globals&&m.nodes.all fun n=>qAf d m (qAn d n.ty) n.f
theorem row_take{V:Mem}{a:Addr}{n k:Nat}{vs:List Value}(h:V.row a n=some vs)(hk:k<=n):V.row a k=some (vs.take k):=by
 unfold Mem.row at h ⊢
 split at h
 ·rename_i c x y hb
  split at h
  ·rename_i hc
   simp only[Option.some.injEq]at h
   rw[if_pos ⟨hc.1,by omega⟩,<- h,List.take_take,Nat.min_eq_left hk]
  ·cases h
 ·cases h
theorem rowp_first{V:Mem}{p:Option Addr}{off n k:Nat}{vs:List Value}(h:V.rowp p off n=some vs)(hk:k<=n):V.rowp (qAa (qAa p off) 0) 0 k=some (vs.take k):=by
 cases p with
 | none=>cases h
 | some a =>
  have h0:((a.add off).add 0).add 0=a.add off:=by rw[qGd,qGd];rfl
  show V.row (((a.add off).add 0).add 0) k=_
  rw[h0]
  exact row_take h hk
section
variable{V:Mem}{d:Ds}{m:Mm}
theorem isNode_idx(d:Ds)(s:ByteArray):(qDk d s<0/\qBf d s=false)∨(0<=qDk d s/\qBf d s=true):=by
 unfold qDk qBf
 rcases qBq (fun t:Ty=>decide (t.name=s)) d.types with⟨h1,-,h2⟩|⟨i,x,h1,-,-,-,-,-,h2,-⟩
 ·left;rw[h1];exact⟨by decide,h2⟩
 ·right;rw[h1];exact⟨by omega,h2⟩
theorem qBt{t:Int}{x:Ty}{k:Nat}(hx:d.types[k]?=some x)(ht:t=(k:Int)):qAn d t=x.fields:=by
 subst ht
 unfold qAn
 rw[Int.toNat_natCast,hx];rfl
end
end Go.Proofs
namespace Go.Proofs
open Go Go.Sx
inductive Rs where
 | ok (v:Int)
 | bad (e:Int)
deriving DecidableEq
def Rs.bind:Rs->(Int->Rs)->Rs
 | .ok v,f=>f v
 | .bad e,_=>.bad e
def big(n:Int):Rs:=if -1099511627776<=n/\n<=1099511627776 then .ok n else .bad 5
def trI(b:Bool):Int:=if b then 1 else 0
def qEz(op a b:Int):Rs :=
 if op=9 then big (a+b) else if op=10 then big (a-b) else if op=11 then big (a*b)
 else if op=22 then .ok (if a<b then b else a) else if op=23 then .ok (if b<a then b else a)
 else if op=14 then .ok (trI (decide (a=b))) else if op=15 then .ok (trI (!decide (a=b))) else if op=16 then .ok (trI (decide (a<b))) else if op=17 then .ok (trI (decide (a<=b)))
 else if b=0 then .bad 18 else if op=12 then .ok (a.tdiv b) else .ok (a.tmod b)
def qFJ(l:List Fld)(s:ByteArray):Int:=idxI (fun f=>decide (f.name=s)) l
def mIdx(d:Ds)(s:ByteArray):Int:=idxI (fun x=>decide (x.name=s)) d.measures
def varV(d:Ds)(m:Mm)(x:Int)(s:ByteArray):Int:=if s=sThisF then x else (m.globals[(qFJ d.globals s).toNat]?).getD 0
def fldV(d:Ds)(m:Mm)(a:Int)(s:ByteArray):Rs :=
 if a=0 then .bad 17 else match m.nodes[(a-1).toNat]? with
  | none=>.bad 0
  | some n=>.ok ((n.f[(qFJ (qAn d n.ty) s).toNat]?).getD 0)
def logV(a:Int):Int:=(Nat.log2 a.toNat:Int)
def kidR(rs:List Rs)(i:Nat):Rs:=rs.getD i (.bad 0)
section
variable(d:Ds)(m:Mm)
def comb(F:Int->Int->Rs)(x op n:Int)(s:ByteArray)(rs:List Rs):Rs :=
 if op=1∨op=2 then .ok n else if op=3 then .ok 0 else if op=4 then .ok (varV d m x s)
 else if op=5 then (kidR rs 0).bind fun a=>fldV d m a s
 else if op=7 then (kidR rs 0).bind fun a=>F (mIdx d s) a
 else if op=8 then (kidR rs 0).bind fun a=>big (-a)
 else if op=18 then (kidR rs 0).bind fun a=>.ok (1-a)
 else if op=24 then (kidR rs 0).bind fun a=>.ok (logV a)
 else if op=19 then (kidR rs 0).bind fun a=>if a=0 then .ok 0 else kidR rs 1
 else if op=20 then (kidR rs 0).bind fun a=>if a=0 then kidR rs 1 else .ok 1
 else if op=21 then (kidR rs 0).bind fun a=>if a=0 then kidR rs 2 else kidR rs 1
 else (kidR rs 0).bind fun a=>(kidR rs 1).bind fun b=>qEz op a b
mutual
def evE(F:Int->Int->Rs)(x:Int):E->Rs
 | .mk op n s _ k=>comb d m F x op n s (evEs F x k)
def evEs(F:Int->Int->Rs)(x:Int):List E->List Rs
 | []=>[]
 | e::es=>evE F x e::evEs F x es
end
end
variable{d:Ds}{m:Mm}
section
variable{F:Int->Int->Rs}{x op n:Int}{s:ByteArray}{rs:List Rs}
end
end Go.Proofs
namespace Go.Proofs
open Go Go.Sx
structure qAt (d:Ds) (m:Mm):Prop where
 valid:qAI d=true
 chk:qHK d=none
 mem:qBI d m=true
def VE(e:E):Prop:=∃k,okE k e=true
theorem VE.of_valid{e:E}(h:qAK e=true):VE e:=⟨1,(of_decide_eq_true h).1⟩
theorem okE_eq(k:Int)(e:E):okE k e=(decide (k<=60)&&qDU e.op e.n e.s e.k.length&&okEs (k+1) e.k):=by cases e;unfold okE;rfl
theorem okEs_all{k:Int}:∀{l:List E},okEs k l=true->∀x∈l,okE k x=true
 | [],_,x,hx=>by cases hx
 | e::l,h,x,hx=>by
  unfold okEs at h
  rw[Bool.and_eq_true]at h
  rcases List.mem_cons.1 hx with rfl|hx
  ·exact h.1
  ·exact okEs_all h.2 x hx
theorem VE.node{e:E}(h:VE e):qDU e.op e.n e.s e.k.length=true:=by
 obtain⟨k,h⟩:=h
 rw[okE_eq,Bool.and_eq_true,Bool.and_eq_true]at h
 exact h.1.2
theorem VE.kids{e:E}(h:VE e):∀x∈e.k,VE x:=by
 obtain⟨k,h⟩:=h
 rw[okE_eq,Bool.and_eq_true]at h
 exact fun x hx=>⟨_,okEs_all h.2 x hx⟩
theorem qEi(d:Ds)(sc:Sc):∀(k:List E) (acc:List ByteArray),(partsT d sc acc k).2=0->(∀x∈k,(qAl d sc x).2=0)/\(partsT d sc acc k).1=acc++k.map fun x=>(qAl d sc x).1
 | [],acc,_=>by rw[qDg];simp
 | x::xs,acc,h=>by
  rw[qCF]at h ⊢
  split at h
  ·rename_i h';exact absurd h h'
  ·rename_i h'
   rw[if_neg h']
   obtain⟨h1,h2⟩:=qEi d sc xs _ h
   refine⟨List.forall_mem_cons.2 ⟨by simpa using h',h1⟩,?_⟩
   rw[h2];simp
theorem qGV{d:Ds}{sc:Sc}{e:E}{t:ByteArray}(h:qAl d sc e=(t,0)):(∀x∈e.k,(qAl d sc x).2=0)/\qFY d sc e.op e.s (e.k.map fun x=>(qAl d sc x).1)=(t,0):=by
 rw[qJy]at h
 split at h
 ·rename_i h'
  simp only[Prod.mk.injEq]at h
  exact absurd h.2 h'
 ·rename_i h'
  have h':(partsT d sc [] e.k).2=0:=by simpa using h'
  obtain⟨h1,h2⟩:=qEi d sc e.k [] h'
  rw[h2,List.nil_append]at h
  exact⟨h1,h⟩
theorem arityB{op n:Int}{s:ByteArray}{l:Int}(h:qDU op n s l=true):qAF op≠-2/\(0<=qAF op->l=qAF op)/\nmB op s=true/\numB op n=true:=by
 unfold qDU at h
 rw[Bool.and_eq_true,Bool.and_eq_true,decide_eq_true_eq]at h
 exact⟨h.1.1.1,h.1.1.2.1,h.1.2,h.2⟩
theorem list1{α:Type}{k:List α}(h:(k.length:Int)=1):∃a,k=[a]:=by
 match k,h with
 | [a],_=>exact⟨a,rfl⟩
 | [],h=>simp at h
 | _::_::_,h=>simp at h;omega
theorem list2{α:Type}{k:List α}(h:(k.length:Int)=2):∃a b,k=[a,b]:=by
 match k,h with
 | [a,b],_=>exact⟨a,b,rfl⟩
 | [],h=>simp at h
 | [_],h=>simp at h
 | _::_::_::_,h=>simp at h;omega
theorem list3{α:Type}{k:List α}(h:(k.length:Int)=3):∃a b c,k=[a,b,c]:=by
 match k,h with
 | [a,b,c],_=>exact⟨a,b,c,rfl⟩
 | [],h=>simp at h
 | [_],h=>simp at h
 | [_,_],h=>simp at h
 | _::_::_::_::_,h=>simp at h;omega
theorem name_kw{s:ByteArray}(h:qAP s=true):isKw s=false:=by
 unfold qAP at h
 rw[Bool.and_eq_true]at h
 simpa using h.2
theorem qCX{s t:ByteArray}(h:qAP s=true)(ht:isKw t=true):s≠t:=fun e=>by rw[e]at h;rw[name_kw h]at ht;cases ht
theorem kwNil:isKw sNil=true:=by kernel_rfl
theorem kwInt:isKw qBb=true:=by kernel_rfl
theorem kwBool:isKw qAu=true:=by kernel_rfl
section
variable{d:Ds}{m:Mm}
theorem validD_types(h:qAI d=true):(∀t∈d.types,qAP t.name=true)/\(∀f∈d.globals,qAP f.name=true)/\(∀x∈d.measures,msB x=true)/\(∀x∈d.invs,ivB x=true):=by
 unfold qAI at h
 simp only[Bool.and_eq_true]at h
 obtain⟨⟨⟨⟨⟨h1,h2⟩,-⟩,hT⟩,-⟩,hF⟩:=h
 unfold formB at hF
 simp only[Bool.and_eq_true,List.all_eq_true]at hF hT
 refine⟨fun t ht=>?_,fun f hf=>?_,hF.1.1.1,hF.1.1.2⟩
 ·have:=hT t ht
  unfold tyB at this
  rw[Bool.and_eq_true]at this
  exact this.1
 ·have hg:=h1.2
  unfold qDI at hg
  simp only[Bool.and_eq_true,List.all_eq_true]at hg
  have:=hg.2 f hf
  unfold fldB at this
  rw[Bool.and_eq_true]at this
  exact this.1
theorem qDS(h:qAI d=true){s:ByteArray}(hs:qBf d s=true):qAP s=true:=by
 obtain⟨t,ht,e⟩:=List.any_eq_true.1 hs
 rw[<- of_decide_eq_true e]
 exact(validD_types h).1 t ht
def qBB(d:Ds)(m:Mm)(t:ByteArray)(v:Int):Prop:=if t=sNil then v=0 else qAr d m t v=true
theorem qFQ:sNil≠qBb/\sNil≠qAu/\qBb≠sNil/\qAu≠sNil/\qBb≠qAu/\qAu≠qBb:=by
 refine⟨of_decide_eq_false ?_,of_decide_eq_false ?_,of_decide_eq_false ?_,of_decide_eq_false ?_,of_decide_eq_false ?_,of_decide_eq_false ?_⟩ <;> kernel_rfl
theorem qBo{v:Int}:qBB d m qBb v↔-1099511627776<=v/\v<=1099511627776:=by
 unfold qBB qAr
 rw[if_neg qFQ.2.2.1,if_pos rfl,decide_eq_true_eq]
theorem qAO{v:Int}:qBB d m qAu v↔v=0∨v=1:=by
 unfold qBB qAr
 rw[if_neg qFQ.2.2.2.1,if_neg qFQ.2.2.2.2.2,if_pos rfl,decide_eq_true_eq]
theorem qBg(h:qAI d=true){t:ByteArray}(ht:qBn d t=true){v:Int}:qBB d m t v↔qAr d m t v=true:=by
 unfold qBB
 rw[if_neg]
 intro e
 subst e
 unfold qBn at ht
 rw[decide_eq_false qFQ.1,decide_eq_false qFQ.2.1]at ht
 exact qCX (qDS h (by simpa using ht)) kwNil rfl
theorem qIp{t:ByteArray}(h:qAP t=true):qAr d m t 0=true:=by
 unfold qAr
 rw[if_neg (qCX h kwInt),if_neg (qCX h kwBool)]
 exact decide_eq_true (.inl rfl)
theorem qBV(h:qAI d=true){a b:ByteArray}(hf:qDH d a b=true){v:Int}(hv:qBB d m a v):qBB d m b v:=by
 unfold qDH at hf
 simp only[Bool.or_eq_true,Bool.and_eq_true,decide_eq_true_eq]at hf
 rcases hf with rfl|⟨rfl,hb⟩
 ·exact hv
 ·have hn:=qDS h hb
  unfold qBB at hv ⊢
  rw[if_pos rfl]at hv
  rw[if_neg (qCX hn kwNil),hv]
  exact qIp hn
theorem qDi:∀(l:List Fld) (s:ByteArray),qCn l s=((l.find? fun f=>decide (f.name=s)).map (·.ty)).getD sE
 | [],_=>rfl
 | f::l,s=>by
  unfold qCn
  rw[List.find?_cons]
  by_cases h:f.name=s
  ·rw[if_pos h,decide_eq_true h];rfl
  ·rw[if_neg h,decide_eq_false h,qDi l s]
theorem qDV(l:List Fld)(s:ByteArray):(qCn l s=sE/\qFJ l s=-1)∨∃(i:Nat) (f:Fld),qFJ l s=i/\l[i]?=some f/\qCn l s=f.ty/\f.name=s:=by
 rw[qDi]
 unfold qFJ
 rcases qBq (fun f:Fld=>decide (f.name=s)) l with⟨h1,h2,-⟩|⟨i,x,h1,h2,h3,-,h5,-⟩
 ·exact .inl ⟨by rw[h2];rfl,h1⟩
 ·exact .inr ⟨i,x,h1,h2,by rw[h3];rfl,of_decide_eq_true h5⟩
theorem qBr(h:hasT d=true):qBJ d d.globals=true/\(∀(i:Nat) (x:Ty),d.types[i]?=some x->qDk d x.name=(i:Int))/\∀x∈d.types,qBJ d x.fields=true:=by
 unfold hasT at h
 rw[Bool.and_eq_true,Bool.and_eq_true,qEu]at h
 obtain⟨⟨-,h1⟩,h2⟩:=h
 refine⟨h1,fun i x hx=>?_,fun x hx=>?_⟩
 ·have:=h2 i x hx
  rw[Bool.and_eq_true,decide_eq_true_eq]at this
  exact this.1
 ·obtain⟨i,hi,rfl⟩:=List.mem_iff_getElem.1 hx
  have:=h2 i _ (List.getElem?_eq_getElem hi)
  rw[Bool.and_eq_true]at this
  exact this.2
theorem qAs(h:qBI d m=true):hasT d=true/\m.nodes.length<=4096/\(∀n∈m.nodes,qDT d n=true)/\qAf d m d.globals m.globals=true/\∀n∈m.nodes,qAf d m (qAn d n.ty) n.f=true:=by
 unfold qBI at h
 simp only[Bool.and_eq_true,List.all_eq_true,decide_eq_true_eq]at h
 exact⟨h.1.1.1.1,h.1.1.1.2,h.1.1.2,h.1.2,h.2⟩
theorem qGU{l:List Fld}{vs:List Int}(h:qAf d m l vs=true){i:Nat}{f:Fld}(hi:l[i]?=some f):∃v,vs[i]?=some v/\qAr d m f.ty v=true:=by
 unfold qAf at h
 rw[Bool.and_eq_true,decide_eq_true_eq,qEu]at h
 have hl:=(List.getElem?_eq_some_iff.1 hi).1
 have hv:vs[i]?=some (vs[i]'(by omega)):=List.getElem?_eq_getElem _
 refine⟨_,hv,?_⟩
 have:=h.2 i _ hv
 unfold tyAt at this
 rw[hi]at this
 exact this
theorem right_node{t:ByteArray}(hn:qAP t=true){a:Int}(h:qAr d m t a=true)(h0:a≠0):1<=a/\a<=(m.nodes.length:Int)/\∃n,m.nodes[(a-1).toNat]?=some n/\n∈m.nodes/\n.ty=qDk d t:=by
 unfold qAr at h
 rw[if_neg (qCX hn kwInt),if_neg (qCX hn kwBool),decide_eq_true_eq]at h
 rcases h with h|⟨h1,h2,h3⟩
 ·exact absurd h h0
 ·refine⟨h1,h2,?_⟩
  cases hx:m.nodes[(a-1).toNat]? with
  | none=>rw[hx]at h3;cases h3
  | some n=>rw[hx]at h3;exact⟨n,rfl,List.mem_of_getElem? hx,by simpa using h3⟩
theorem tyOf_idx{s:ByteArray}{t:Ty}(h:qIh d s=some t):∃i:Nat,qDk d s=(i:Int)/\d.types[i]?=some t/\t.name=s/\qBf d s=true:=by
 unfold qIh at h
 unfold qDk qBf
 rcases qBq (fun t:Ty=>decide (t.name=s)) d.types with⟨-,h2,-⟩|⟨i,x,h1,h2,h3,-,h5,-,h7,-⟩
 ·rw[h2]at h;cases h
 ·rw[h3]at h;cases h;exact⟨i,h1,h2,of_decide_eq_true h5,h7⟩
theorem fld_ok(G:qAt d m){t s ty:ByteArray}(ht:qBS d t s=(ty,0)){a:Int}(ha:qBB d m t a)(h0:a≠0) :
  ∃(n:Nd) (i j:Nat) (tt:Ty) (f:Fld) (v:Int),m.nodes[(a-1).toNat]?=some n/\n∈m.nodes/\1<=a/\a<=(m.nodes.length:Int)/\n.ty=(j:Int)/\d.types[j]?=some tt/\tt∈d.types/\qFJ tt.fields s=i/\tt.fields[i]?=some f/\n.f[i]?=some v/\qBB d m ty v/\fldV d m a s=.ok v/\f.ty=ty:=by
 unfold qBS at ht
 cases hty:qIh d t with
 | none=>rw[hty]at ht;simp at ht
 | some tt =>
  rw[hty]at ht
  simp only at ht
  split at ht
  ·simp at ht
  ·rename_i hl
   simp only[Prod.mk.injEq,and_true]at ht
   obtain⟨j,hj,hj2,rfl,hnode⟩:=tyOf_idx hty
   have hname:=qDS G.valid hnode
   have ha':qAr d m tt.name a=true:=by
    unfold qBB at ha;rw[if_neg (qCX hname kwNil)]at ha;exact ha
   obtain⟨b1,b2,n,b3,b4,b5⟩:=right_node hname ha' h0
   rcases qDV tt.fields s with⟨c1,-⟩|⟨i,f,c1,c2,c3,c4⟩
   ·exact absurd c1 hl
   ·have hfo:qAn d n.ty=tt.fields:=qBt hj2 (b5.trans hj)
    obtain⟨p1,-,-,-,p5⟩:=qAs G.mem
    have hv:=p5 n b4
    rw[hfo]at hv
    obtain⟨v,hv1,hv2⟩:=qGU hv c2
    have hmem:=List.mem_of_getElem? hj2
    have hkn:qBn d f.ty=true:=List.all_eq_true.1 ((qBr p1).2.2 tt hmem) f (List.mem_of_getElem? c2)
    refine⟨n,i,j,tt,f,v,b3,b4,b1,b2,b5.trans hj,hj2,hmem,c1,c2,hv1,?_,?_,c3.symm.trans ht⟩
    ·rw[<- ht,c3];exact(qBg G.valid hkn).2 hv2
    ·unfold fldV
     rw[if_neg h0,b3]
     simp only
     rw[hfo,c1,Int.toNat_natCast,hv1];rfl
theorem qEn{α β:Type}{f:Nat->α->Option β}:∀{l:List α} {i:Nat},qAi f i l=none->∀j x,l[j]?=some x->f (i+j) x=none
 | [],_,_,j,x,hx=>by simp at hx
 | y::l,i,h,j,x,hx=>by
  unfold qAi at h
  cases hy:f i y with
  | some b=>rw[hy]at h;cases h
  | none =>
   rw[hy]at h
   cases j with
   | zero=>simp at hx;subst hx;exact hy
   | succ j=>rw[show i+(j+1)=i+1+j by omega];exact qEn h j x (by simpa using hx)
theorem or_none{α:Type}{a b:Option α}(h:a.or b=none):a=none/\b=none:=by
 cases a with
 | none=>exact⟨rfl,by simpa using h⟩
 | some x=>simp at h
end
end Go.Proofs
namespace Go.Proofs
open Go Go.Sx
section
variable{d:Ds}{m:Mm}
theorem big_ok{n v:Int}(h:big n=.ok v):v=n/\-1099511627776<=v/\v<=1099511627776:=by
 unfold big at h
 split at h
 ·cases h;rename_i h1;exact⟨rfl,h1⟩
 ·cases h
theorem trI_b(b:Bool):trI b=0∨trI b=1:=by cases b <;> simp[trI]
theorem qBy{ok:Bool}{t t':ByteArray}(h:qFn ok t=(t',0)):ok=true/\t=t':=by
 unfold qFn at h
 split at h
 ·rename_i h1;simp only[Prod.mk.injEq,and_true]at h;exact⟨h1,h⟩
 ·simp at h
theorem tdiv_in{a b:Int}(ha:-1099511627776<=a/\a<=1099511627776):-1099511627776<=a.tdiv b/\a.tdiv b<=1099511627776:=by
 have:=Int.natAbs_tdiv_le_natAbs a b
 omega
theorem tmod_in{a b:Int}(ha:-1099511627776<=a/\a<=1099511627776):-1099511627776<=a.tmod b/\a.tmod b<=1099511627776:=by
 have h1:=Int.natAbs_tmod a b
 have:=Nat.mod_le a.natAbs b.natAbs
 omega
theorem log_in{a:Int}(ha:a<=1099511627776):0<=logV a/\logV a<=1099511627776:=by
 unfold logV
 have:Nat.log2 a.toNat<=a.toNat:=Nat.log2_le_self _
 omega
inductive Kind (d:Ds) (sc:Sc) (e:E):ByteArray->Prop where
 | int (h:e.op=1) (hn:0<=e.n/\e.n<=1099511627776):Kind d sc e qBb
 | bool (h:e.op=2) (hn:e.n=0∨e.n=1):Kind d sc e qAu
 | nil (h:e.op=3) (hn:e.n=0):Kind d sc e sNil
 | var {t} (h:e.op=4) (hl:qCn sc.vars e.s=t) (hne:t≠sE):Kind d sc e t
 | fld {t u} {a:E} (h:e.op=5) (hk:e.k=[a]) (ha:qAl d sc a=(u,0)) (ht:qBS d u e.s=(t,0)):Kind d sc e t
 | call {u} {a:E} {ms:Ms} {i:Nat} (h:e.op=7) (hk:e.k=[a]) (ha:qAl d sc a=(u,0)) (hi:mIdx d e.s=i) (hms:d.measures[i]?=some ms) (hf:qDH d u ms.ty=true):Kind d sc e qBb
 | neg {a:E} (h:e.op=8) (hk:e.k=[a]) (ha:qAl d sc a=(qBb,0)):Kind d sc e qBb
 | not {a:E} (h:e.op=18) (hk:e.k=[a]) (ha:qAl d sc a=(qAu,0)):Kind d sc e qAu
 | log {a:E} (h:e.op=24) (hk:e.k=[a]) (ha:qAl d sc a=(qBb,0)):Kind d sc e qBb
 | and {a b:E} (h:e.op=19) (hk:e.k=[a,b]) (ha:qAl d sc a=(qAu,0)) (hb:qAl d sc b=(qAu,0)):Kind d sc e qAu
 | or {a b:E} (h:e.op=20) (hk:e.k=[a,b]) (ha:qAl d sc a=(qAu,0)) (hb:qAl d sc b=(qAu,0)):Kind d sc e qAu
 | cond {a b c:E} {t u w} (h:e.op=21) (hk:e.k=[a,b,c]) (ha:qAl d sc a=(qAu,0)) (hb:qAl d sc b=(u,0)) (hc:qAl d sc c=(w,0)) (hu:u=t∨qDH d u t=true) (hw:w=t∨qDH d w t=true):Kind d sc e t
 | eq {a b:E} {u w} (h:e.op=14∨e.op=15) (hk:e.k=[a,b]) (ha:qAl d sc a=(u,0)) (hb:qAl d sc b=(w,0)):Kind d sc e qAu
 | cmp {a b:E} (h:e.op=16∨e.op=17) (hk:e.k=[a,b]) (ha:qAl d sc a=(qBb,0)) (hb:qAl d sc b=(qBb,0)):Kind d sc e qAu
 | ari {a b:E} (h:e.op=9∨e.op=10∨e.op=11∨e.op=12∨e.op=13∨e.op=22∨e.op=23) (hk:e.k=[a,b]) (ha:qAl d sc a=(qBb,0)) (hb:qAl d sc b=(qBb,0)):Kind d sc e qBb
theorem allT1{t u:ByteArray}(h:allT [t] u=true):t=u:=by simpa [allT]using h
theorem allT2{t t' u:ByteArray}(h:allT [t,t'] u=true):t=u/\t'=u:=by simpa [allT]using h
theorem qBh{p:ByteArray×Int}{t:ByteArray}(h1:p.1=t)(h2:p.2=0):p=(t,0):=Prod.ext h1 h2
theorem kind{sc:Sc}(hsc:sc.body=false){e:E}{t:ByteArray}(hv:VE e)(ht:qAl d sc e=(t,0)):Kind d sc e t:=by
 obtain⟨hk,hn⟩:=qGV ht
 obtain⟨a1,a2,a3,a4⟩:=arityB hv.node
 unfold qFY at hn
 unfold numB at a4
 have one:qAF e.op=1->∃a,e.k=[a]:=fun h=>list1 ((a2 (by omega)).trans h)
 have two:qAF e.op=2->∃a b,e.k=[a,b]:=fun h=>list2 ((a2 (by omega)).trans h)
 have three:qAF e.op=3->∃a b c,e.k=[a,b,c]:=fun h=>list3 ((a2 (by omega)).trans h)
 by_cases h1:e.op=1
 ·rw[if_pos h1]at hn a4
  cases hn;exact .int h1 (of_decide_eq_true a4)
 rw[if_neg h1]at hn a4
 by_cases h2:e.op=2
 ·rw[if_pos h2]at hn a4
  cases hn;exact .bool h2 (of_decide_eq_true a4)
 rw[if_neg h2]at hn a4
 have a4:e.n=0:=of_decide_eq_true a4
 by_cases h3:e.op=3
 ·rw[if_pos h3]at hn
  cases hn;exact .nil h3 a4
 rw[if_neg h3]at hn
 by_cases h4:e.op=4
 ·rw[if_pos h4]at hn
  split at hn
  ·simp at hn
  ·rename_i hne
   simp only[Prod.mk.injEq,and_true]at hn
   exact .var h4 hn (hn ▸ hne)
 rw[if_neg h4]at hn
 by_cases h5:e.op=5
 ·obtain⟨a,ha⟩:=one (by rw[h5];rfl)
  rw[if_pos h5,ha]at hn
  rw[ha]at hk
  exact .fld h5 ha (qBh rfl (hk a (by simp))) hn
 rw[if_neg h5]at hn
 by_cases h6:e.op=6
 ·rw[if_pos h6,if_pos hsc]at hn
  simp at hn
 rw[if_neg h6]at hn
 by_cases h7:e.op=7
 ·rw[if_pos h7]at hn
  unfold callE at hn
  rw[if_neg (by rw[hsc];decide)]at hn
  unfold qJj meOf at hn
  unfold mIdx at *
  rcases qBq (fun x:Ms=>decide (x.name=e.s)) d.measures with⟨-,q2,-⟩|⟨i,ms,q1,q2,q3,-⟩
  ·rw[q2]at hn;simp at hn
  ·rw[q3]at hn
   simp only at hn
   split at hn
   ·simp at hn
   ·rename_i hl
    obtain⟨a,ha⟩:∃a,e.k=[a]:=list1 (by simp at hl;omega)
    rw[ha]at hn hk
    obtain⟨b1,rfl⟩:=qBy hn
    exact .call h7 ha (qBh rfl (hk a (by simp))) q1 q2 (by simpa using b1)
 rw[if_neg h7]at hn
 by_cases h14:e.op=14∨e.op=15
 ·obtain⟨a,b,hab⟩:=two (by rcases h14 with h|h <;> (rw[h];rfl))
  rw[if_pos h14]at hn
  rw[hab]at hk
  obtain⟨-,rfl⟩:=qBy hn
  exact .eq h14 hab (qBh rfl (hk a (by simp))) (qBh rfl (hk b (by simp)))
 rw[if_neg h14]at hn
 by_cases h16:e.op=16∨e.op=17
 ·obtain⟨a,b,hab⟩:=two (by rcases h16 with h|h <;> (rw[h];rfl))
  rw[if_pos h16,hab]at hn
  rw[hab]at hk
  obtain⟨g,rfl⟩:=qBy hn
  obtain⟨g1,g2⟩:=allT2 g
  exact .cmp h16 hab (qBh g1 (hk a (by simp))) (qBh g2 (hk b (by simp)))
 rw[if_neg h16]at hn
 by_cases h18:e.op=18∨e.op=19∨e.op=20
 ·rw[if_pos h18]at hn
  rcases h18 with h|h
  ·obtain⟨a,ha⟩:=one (by rw[h];rfl)
   rw[ha]at hn hk
   obtain⟨g,rfl⟩:=qBy hn
   exact .not h ha (qBh (allT1 g) (hk a (by simp)))
  ·obtain⟨a,b,hab⟩:=two (by rcases h with h|h <;> (rw[h];rfl))
   rw[hab]at hn hk
   obtain⟨g,rfl⟩:=qBy hn
   obtain⟨g1,g2⟩:=allT2 g
   rcases h with h|h
   ·exact .and h hab (qBh g1 (hk a (by simp))) (qBh g2 (hk b (by simp)))
   ·exact .or h hab (qBh g1 (hk a (by simp))) (qBh g2 (hk b (by simp)))
 rw[if_neg h18]at hn
 by_cases h21:e.op=21
 ·obtain⟨a,b,c,habc⟩:=three (by rw[h21];rfl)
  rw[if_pos h21,habc]at hn
  rw[habc]at hk
  obtain⟨g,g2⟩:=qBy hn
  simp only[List.map_cons,List.map_nil,List.getD_cons_zero,List.getD_cons_succ,Bool.and_eq_true,decide_eq_true_eq,Bool.or_eq_true]at g g2
  refine .cond h21 habc (qBh g.1 (hk a (by simp))) (qBh rfl (hk b (by simp))) (qBh rfl (hk c (by simp))) ?_ ?_
  ·split at g2
   ·rename_i g3
    subst g2
    rcases g.2 with g|g
    ·exact .inr g
    ·unfold qDH at g ⊢
     simp only[Bool.or_eq_true,decide_eq_true_eq,Bool.and_eq_true]at g ⊢
     rcases g with g|g
     ·exact .inl g.symm
     ·exact .inl (g3.trans g.1.symm)
   ·exact .inl g2
  ·split at g2
   ·exact .inl g2
   ·rename_i g3
    subst g2
    rcases g.2 with g|g
    ·unfold qDH at g ⊢
     simp only[Bool.or_eq_true,decide_eq_true_eq,Bool.and_eq_true]at g ⊢
     rcases g with g|g
     ·exact .inl g.symm
     ·exact absurd g.1 g3
    ·exact .inr g
 rw[if_neg h21]at hn
 obtain⟨g,rfl⟩:=qBy hn
 have hop:e.op=8∨e.op=24∨(e.op=9∨e.op=10∨e.op=11∨e.op=12∨e.op=13∨e.op=22∨e.op=23):=by
  unfold qAF at a1
  grind
 rcases hop with h|h|h
 ·obtain⟨a,ha⟩:=one (by rw[h];rfl)
  rw[ha]at g hk
  exact .neg h ha (qBh (allT1 g) (hk a (by simp)))
 ·obtain⟨a,ha⟩:=one (by rw[h];rfl)
  rw[ha]at g hk
  exact .log h ha (qBh (allT1 g) (hk a (by simp)))
 ·obtain⟨a,b,hab⟩:=two (by rcases h with h|h|h|h|h|h|h <;> (rw[h];rfl))
  rw[hab]at g hk
  obtain⟨g1,g2⟩:=allT2 g
  exact .ari h hab (qBh g1 (hk a (by simp))) (qBh g2 (hk b (by simp)))
theorem two_ok{op a b v:Int}(h:op=9∨op=10∨op=11∨op=12∨op=13∨op=22∨op=23)(ha:-1099511627776<=a/\a<=1099511627776)(hb:-1099511627776<=b/\b<=1099511627776)(hv:qEz op a b=.ok v):-1099511627776<=v/\v<=1099511627776:=by
 unfold qEz at hv
 split at hv
 ·exact(big_ok hv).2
 split at hv
 ·exact(big_ok hv).2
 split at hv
 ·exact(big_ok hv).2
 split at hv
 ·cases hv;split <;> assumption
 split at hv
 ·cases hv;split <;> assumption
 repeat' (split at hv;(first|omega|cases hv))
 ·exact tdiv_in ha
 ·cases hv;exact tmod_in ha
theorem twoB_ok{op a b v:Int}(h:op=14∨op=15∨op=16∨op=17)(hv:qEz op a b=.ok v):v=0∨v=1:=by
 rcases h with rfl|rfl|rfl|rfl
 ·have:trI (decide (a=b))=v:=by injection hv
  rw[<- this];exact trI_b _
 ·have:trI (!decide (a=b))=v:=by injection hv
  rw[<- this];exact trI_b _
 ·have:trI (decide (a<b))=v:=by injection hv
  rw[<- this];exact trI_b _
 ·have:trI (decide (a<=b))=v:=by injection hv
  rw[<- this];exact trI_b _
end
end Go.Proofs
namespace Go.Proofs
open Go Go.Sx
structure St where
 g:List Int
 ns:List (Int×List Int)
 tk:Nat
 cm:Nat
 lg:List (Int×Int×Int)
inductive Rx (α:Type) where
 | ok (v:α) (s:St)
 | bad (c:Int) (s:St)
def Rx.bind{α β:Type}:Rx α->(α->St->Rx β)->Rx β
 | .ok v s,f=>f v s
 | .bad c s,_=>.bad c s
def qAv:Sl:=⟨none,0,0⟩
def St.mm(s:St):Mm:=⟨qAv,s.g,qAv,s.ns.map fun n=>⟨n.1,qAv,n.2⟩⟩
def St.note(s:St)(a:Int×Int×Int):St:={ s with lg:=s.lg++[a] }
def noE:E:=.mk 0 0 sE qAv []
def qEj(d:Ds)(s:ByteArray):Int:=idxI (fun t=>decide (t.name=s)) d.procs
def liftR:Rs->St->Rx Int
 | .ok v,s=>.ok v s
 | .bad c,s=>.bad c s
def seqX:List (St->Rx Int)->List Int->St->Rx (List Int)
 | [],acc,st=>.ok acc st
 | f::fs,acc,st=>(f st).bind fun v st=>seqX fs (acc++[v]) st
def qEW(ks:List (St->Rx Int))(i:Nat):St->Rx Int:=ks.getD i fun st=>.bad 0 st
def _root_.Go.Sx.Pr.vars(p:Pr):List Fld:=p.params++p.locals
def cntX(b:Bool)(op:Int)(st:St):St:=if op=16∨op=17∨((op=14∨op=15)/\b=true) then { st with cm:=st.cm+1 } else st
abbrev Cf:=Int->List Int->St->Rx Int
abbrev Rt:=List Int×Option Int
abbrev Sf:=Nat->Pr->List S->List Int->St->Rx Rt
def qIM(F:Nat)(st:St):Rx Unit:=if F<=st.tk then .bad 20 st else .ok () { st with tk:=st.tk+1 }
section
variable(d:Ds)
def varX(p:Pr)(vals:List Int)(s:ByteArray)(st:St):Rx Int :=
 if 0<=qFJ p.vars s then .ok ((vals[(qFJ p.vars s).toNat]?).getD 0) st else .ok ((st.g[(qFJ d.globals s).toNat]?).getD 0) (st.note (1,0,qFJ d.globals s))
def fldX(a:Int)(s:ByteArray)(st:St):Rx Int :=
 if a=0 then .bad 17 st else match st.ns[(a-1).toNat]? with
  | none=>.bad 0 st
  | some n=>.ok ((n.2[(qFJ (qAn d n.1) s).toNat]?).getD 0) (st.note (1,a,qFJ (qAn d n.1) s))
def newX(s:ByteArray)(st:St):Rx Int :=
 if 4096<=st.ns.length then .bad 21 st else .ok ((st.ns.length:Int)+1) { st with ns:=st.ns++[(qDk d s,List.replicate (qAn d (qDk d s)).length 0)],lg:=st.lg++[(3,(st.ns.length:Int)+1,qDk d s)] }
def intB(sc:Sc):List E->Bool
 | []=>false
 | a::_=>decide ((qAl d sc a).1=qBb)
def qDb(C:Cf)(p:Pr)(vals:List Int)(b:Bool)(op n:Int)(s:ByteArray)(ks:List (St->Rx Int))(st:St):Rx Int :=
 if op=1∨op=2 then .ok n st else if op=3 then .ok 0 st else if op=4 then varX d p vals s st
 else if op=5 then (qEW ks 0 st).bind fun a st=>fldX d a s st
 else if op=6 then newX d s st
 else if op=7 then (seqX ks [] st).bind fun l st=>C (qEj d s) l st
 else if op=8 then (qEW ks 0 st).bind fun a st=>liftR (big (-a)) st
 else if op=18 then (qEW ks 0 st).bind fun a st=>.ok (1-a) st
 else if op=24 then (qEW ks 0 st).bind fun a st=>.ok (logV a) st
 else if op=19 then (qEW ks 0 st).bind fun a st=>if a=0 then .ok 0 st else qEW ks 1 st
 else if op=20 then (qEW ks 0 st).bind fun a st=>if a=0 then qEW ks 1 st else .ok 1 st
 else if op=21 then (qEW ks 0 st).bind fun a st=>if a=0 then qEW ks 2 st else qEW ks 1 st
 else (qEW ks 0 st).bind fun v st=>(qEW ks 1 st).bind fun w st=>liftR (qEz op v w) (cntX b op st)
mutual
def evX(C:Cf)(p:Pr)(vals:List Int):E->St->Rx Int
 | .mk op n s _ k=>qDb d C p vals (intB d (qAh d p) k) op n s (evXs C p vals k)
def evXs(C:Cf)(p:Pr)(vals:List Int):List E->List (St->Rx Int)
 | []=>[]
 | e::es=>evX C p vals e::evXs C p vals es
end
def qDE(Sn:Sf)(c:Nat)(i:Int)(args:List Int)(st:St):Rx Int :=
 if 200<=c then .bad 19 st else match d.procs[i.toNat]? with
  | none=>.bad 0 st
  | some p=>(Sn (c+1) p p.body (args++List.replicate p.locals.length 0) st).bind fun r st=>.ok (r.2.getD 0) st
def setX(p:Pr)(s:ByteArray)(v:Int)(vals:List Int)(st:St):Rx Rt :=
 if 0<=qFJ p.vars s then .ok (vals.set (qFJ p.vars s).toNat v,none) st else .ok (vals,none) { st with g:=st.g.set (qFJ d.globals s).toNat v,lg:=st.lg++[(2,0,qFJ d.globals s)] }
def putX(a v:Int)(s:ByteArray)(st:St):Rx Unit :=
 if a=0 then .bad 17 st else match st.ns[(a-1).toNat]? with
  | none=>.bad 0 st
  | some n=>.ok () { st with ns:=st.ns.set (a-1).toNat (n.1,n.2.set (qFJ (qAn d n.1) s).toNat v),lg:=st.lg++[(2,a,qFJ (qAn d n.1) s)] }
section
variable(F:Nat)(Sn:Sf)(c:Nat)(p:Pr)
def evS(vals:List Int)(e:E)(st:St):Rx Int:=evX d (qDE d Sn c) p vals e st
def whX(cond:E)(body:List S):Nat->List Int->St->Rx Rt
 | 0,_,st=>.bad 20 st
 | n+1,vals,st=>(evS d Sn c p vals cond st).bind fun a st=>if a=0 then .ok (vals,none) st else (Sn c p body vals st).bind fun r st=>match r.2 with
  | some _=>.ok r st
  | none=>(qIM F st).bind fun _ st=>whX cond body n r.1 st
def bodyX(n:Nat)(s:S)(vals:List Int)(st:St):Rx Rt :=
 if s.op=1 then (evS d Sn c p vals (s.es.getD 0 noE) st).bind fun v st=>setX d p s.s v vals st
 else if s.op=2 then (evS d Sn c p vals (s.es.getD 0 noE) st).bind fun a st=>(evS d Sn c p vals (s.es.getD 1 noE) st).bind fun v st=>(putX d a v s.s st).bind fun _ st=>.ok (vals,none) st
 else if s.op=3 then (evS d Sn c p vals (s.es.getD 0 noE) st).bind fun a st=>if a=0 then Sn c p s.xs vals st else Sn c p s.ls vals st
 else if s.op=4 then whX d F Sn c p (s.es.getD 0 noE) s.ls n vals st
 else if s.op=5 then match s.es with
  | []=>.ok (vals,some 0) st
  | e::_=>(evS d Sn c p vals e st).bind fun v st=>.ok (vals,some v) st
 else if s.op=6 then (evS d Sn c p vals (s.es.getD 0 noE) st).bind fun _ st=>.ok (vals,none) st
 else .ok (vals,none) st
def stX(n:Nat)(s:S)(vals:List Int)(st:St):Rx Rt:=(qIM F st).bind fun _ st=>bodyX d F Sn c p n s vals st
end
def qFs(f:S->List Int->St->Rx Rt):List S->List Int->St->Rx Rt
 | [],vals,st=>.ok (vals,none) st
 | s::l,vals,st=>(f s vals st).bind fun r st=>match r.2 with
  | some _=>.ok r st
  | none=>qFs f l r.1 st
def qFb(F:Nat):Nat->Sf
 | 0=>fun _ _ _ _ st=>.bad 20 st
 | n+1=>fun c p l vals st=>qFs (stX d F (qFb F n) c p (n+1)) l vals st
def qCw(F:Nat)(i:Int)(args:List Int)(st:St):Rx Int:=qDE d (qFb d F (F+1)) 0 i args st
end
variable{d:Ds}
theorem evXs_map(C:Cf)(p:Pr)(vals:List Int):∀k:List E,evXs d C p vals k=k.map (evX d C p vals)
 | []=>by unfold evXs;rfl
 | e::es=>by unfold evXs;rw[evXs_map C p vals es];rfl
theorem evX_eq(C:Cf)(p:Pr)(vals:List Int)(e:E)(st:St):evX d C p vals e st=qDb d C p vals (intB d (qAh d p) e.k) e.op e.n e.s (e.k.map (evX d C p vals)) st:=by
 cases e;unfold evX;rw[evXs_map];rfl
theorem kidX_at{f:E->St->Rx Int}{k:List E}{i:Nat}{e:E}(h:k[i]?=some e):qEW (k.map f) i=f e:=by
 unfold qEW
 rw[List.getD_eq_getElem?_getD,List.getElem?_map,h];rfl
section
variable{C:Cf}{p:Pr}{vals:List Int}{b:Bool}{op n:Int}{s:ByteArray}{ks:List (St->Rx Int)}{st:St}
theorem cX1(h:op=1∨op=2):qDb d C p vals b op n s ks st=.ok n st:=by rcases h with rfl|rfl <;> rfl
theorem cX3(h:op=3):qDb d C p vals b op n s ks st=.ok 0 st:=by subst h;rfl
theorem cX4(h:op=4):qDb d C p vals b op n s ks st=varX d p vals s st:=by subst h;rfl
theorem cX5(h:op=5):qDb d C p vals b op n s ks st=(qEW ks 0 st).bind fun a st=>fldX d a s st:=by subst h;rfl
theorem cX6(h:op=6):qDb d C p vals b op n s ks st=newX d s st:=by subst h;rfl
theorem cX7(h:op=7):qDb d C p vals b op n s ks st=(seqX ks [] st).bind fun l st=>C (qEj d s) l st:=by subst h;rfl
theorem cX8(h:op=8):qDb d C p vals b op n s ks st=(qEW ks 0 st).bind fun a st=>liftR (big (-a)) st:=by subst h;rfl
theorem cX18(h:op=18):qDb d C p vals b op n s ks st=(qEW ks 0 st).bind fun a st=>.ok (1-a) st:=by subst h;rfl
theorem cX24(h:op=24):qDb d C p vals b op n s ks st=(qEW ks 0 st).bind fun a st=>.ok (logV a) st:=by subst h;rfl
theorem cX19(h:op=19):qDb d C p vals b op n s ks st=(qEW ks 0 st).bind fun a st=>if a=0 then .ok 0 st else qEW ks 1 st:=by subst h;rfl
theorem cX20(h:op=20):qDb d C p vals b op n s ks st=(qEW ks 0 st).bind fun a st=>if a=0 then qEW ks 1 st else .ok 1 st:=by subst h;rfl
theorem cX21(h:op=21):qDb d C p vals b op n s ks st=(qEW ks 0 st).bind fun a st=>if a=0 then qEW ks 2 st else qEW ks 1 st:=by subst h;rfl
theorem cXTwo(h:9<=op/\op<=23/\op≠18/\op≠19/\op≠20/\op≠21):qDb d C p vals b op n s ks st=(qEW ks 0 st).bind fun v st=>(qEW ks 1 st).bind fun w st=>liftR (qEz op v w) (cntX b op st):=by
 unfold qDb
 rw[if_neg (by omega),if_neg (by omega),if_neg (by omega),if_neg (by omega),if_neg (by omega),if_neg (by omega),if_neg (by omega),if_neg (by omega),if_neg (by omega),if_neg (by omega),if_neg (by omega),if_neg (by omega)]
end
end Go.Proofs
namespace Go.Proofs
open Go Go.Sx
section
variable{d:Ds}{sc:Sc}{e:E}{p:Pr}
structure CallK (d:Ds) (sc:Sc) (e:E) (pr:Pr) (i:Nat):Prop where
 idx:qEj d e.s=i
 at_:d.procs[i]?=some pr
 len:e.k.length=pr.params.length
 fit:∀(j:Nat) a f,e.k[j]?=some a->pr.params[j]?=some f->∃u,qAl d sc a=(u,0)/\qDH d u f.ty=true
theorem fitAll_at:∀{l:List ByteArray} {fs:List Fld},qCq d l fs=true->∀(j:Nat) a f,l[j]?=some a->fs[j]?=some f->qDH d a f.ty=true
 | [],_,_,j,a,f,h,_=>by simp at h
 | _::_,[],_,j,a,f,_,h=>by simp at h
 | b::l,g::fs,h,j,a,f,h1,h2=>by
  unfold qCq at h
  rw[Bool.and_eq_true]at h
  cases j with
  | zero=>simp at h1 h2;subst h1;subst h2;exact h.1
  | succ j=>exact fitAll_at h.2 j a f (by simpa using h1) (by simpa using h2)
theorem callT_ok{s t:ByteArray}{l:List ByteArray}(h:qGc d s l=(t,0)):∃(pr:Pr) (i:Nat),qEj d s=i/\d.procs[i]?=some pr/\l.length=pr.params.length/\qCq d l pr.params=true/\t=pr.result:=by
 unfold qGc qHj at h
 unfold qEj
 rcases qBq (fun x:Pr=>decide (x.name=s)) d.procs with⟨-,q2,-⟩|⟨i,pr,q1,q2,q3,-⟩
 ·rw[q2]at h;simp at h
 ·rw[q3]at h
  simp only at h
  split at h
  ·simp at h
  ·rename_i hl
   split at h
   ·rename_i hf
    simp only[Prod.mk.injEq,and_true]at h
    exact⟨pr,i,q1,q2,by simpa using hl,hf,h.symm⟩
   ·simp at h
theorem callK_of(hk:∀x∈e.k,(qAl d sc x).2=0){t:ByteArray}(h:qGc d e.s (e.k.map fun x=>(qAl d sc x).1)=(t,0)):∃pr i,CallK d sc e pr i/\t=pr.result:=by
 obtain⟨pr,i,h1,h2,h3,h4,h5⟩:=callT_ok h
 refine⟨pr,i,⟨h1,h2,by simpa using h3,fun j a f ha hf=>⟨(qAl d sc a).1,qBh rfl (hk a (List.mem_of_getElem? ha)),fitAll_at h4 j _ f (by simp[ha]) hf⟩⟩,h5⟩
inductive qEd (d:Ds) (sc:Sc) (e:E):ByteArray->Prop where
 | int (h:e.op=1) (hn:0<=e.n/\e.n<=1099511627776):qEd d sc e qBb
 | bool (h:e.op=2) (hn:e.n=0∨e.n=1):qEd d sc e qAu
 | nil (h:e.op=3) (hn:e.n=0):qEd d sc e sNil
 | var {t} (h:e.op=4) (hl:qCn sc.vars e.s=t) (hne:t≠sE):qEd d sc e t
 | fld {t u} {a:E} (h:e.op=5) (hk:e.k=[a]) (ha:qAl d sc a=(u,0)) (ht:qBS d u e.s=(t,0)):qEd d sc e t
 | new (h:e.op=6) (hn:qBf d e.s=true):qEd d sc e e.s
 | call {pr:Pr} {i:Nat} (h:e.op=7) (hc:CallK d sc e pr i) (hr:pr.result≠sE):qEd d sc e pr.result
 | neg {a:E} (h:e.op=8) (hk:e.k=[a]) (ha:qAl d sc a=(qBb,0)):qEd d sc e qBb
 | not {a:E} (h:e.op=18) (hk:e.k=[a]) (ha:qAl d sc a=(qAu,0)):qEd d sc e qAu
 | log {a:E} (h:e.op=24) (hk:e.k=[a]) (ha:qAl d sc a=(qBb,0)):qEd d sc e qBb
 | and {a b:E} (h:e.op=19) (hk:e.k=[a,b]) (ha:qAl d sc a=(qAu,0)) (hb:qAl d sc b=(qAu,0)):qEd d sc e qAu
 | or {a b:E} (h:e.op=20) (hk:e.k=[a,b]) (ha:qAl d sc a=(qAu,0)) (hb:qAl d sc b=(qAu,0)):qEd d sc e qAu
 | cond {a b c:E} {t u w} (h:e.op=21) (hk:e.k=[a,b,c]) (ha:qAl d sc a=(qAu,0)) (hb:qAl d sc b=(u,0)) (hc:qAl d sc c=(w,0)) (hu:u=t∨qDH d u t=true) (hw:w=t∨qDH d w t=true) (ht:t=if u=sNil then w else u):qEd d sc e t
 | eq {a b:E} {u w} (h:e.op=14∨e.op=15) (hk:e.k=[a,b]) (ha:qAl d sc a=(u,0)) (hb:qAl d sc b=(w,0)) (hf:qDH d u w=true∨qDH d w u=true):qEd d sc e qAu
 | cmp {a b:E} (h:e.op=16∨e.op=17) (hk:e.k=[a,b]) (ha:qAl d sc a=(qBb,0)) (hb:qAl d sc b=(qBb,0)):qEd d sc e qAu
 | ari {a b:E} (h:e.op=9∨e.op=10∨e.op=11∨e.op=12∨e.op=13∨e.op=22∨e.op=23) (hk:e.k=[a,b]) (ha:qAl d sc a=(qBb,0)) (hb:qAl d sc b=(qBb,0)):qEd d sc e qBb
theorem kindX(hsc:sc.body=true){t:ByteArray}(hv:VE e)(ht:qAl d sc e=(t,0)):qEd d sc e t:=by
 obtain⟨hk,hn⟩:=qGV ht
 obtain⟨a1,a2,a3,a4⟩:=arityB hv.node
 unfold qFY at hn
 unfold numB at a4
 have one:qAF e.op=1->∃a,e.k=[a]:=fun h=>list1 ((a2 (by omega)).trans h)
 have two:qAF e.op=2->∃a b,e.k=[a,b]:=fun h=>list2 ((a2 (by omega)).trans h)
 have three:qAF e.op=3->∃a b c,e.k=[a,b,c]:=fun h=>list3 ((a2 (by omega)).trans h)
 by_cases h1:e.op=1
 ·rw[if_pos h1]at hn a4
  cases hn;exact .int h1 (of_decide_eq_true a4)
 rw[if_neg h1]at hn a4
 by_cases h2:e.op=2
 ·rw[if_pos h2]at hn a4
  cases hn;exact .bool h2 (of_decide_eq_true a4)
 rw[if_neg h2]at hn a4
 have a4:e.n=0:=of_decide_eq_true a4
 by_cases h3:e.op=3
 ·rw[if_pos h3]at hn
  cases hn;exact .nil h3 a4
 rw[if_neg h3]at hn
 by_cases h4:e.op=4
 ·rw[if_pos h4]at hn
  split at hn
  ·simp at hn
  ·rename_i hne
   simp only[Prod.mk.injEq,and_true]at hn
   exact .var h4 hn (hn ▸ hne)
 rw[if_neg h4]at hn
 by_cases h5:e.op=5
 ·obtain⟨a,ha⟩:=one (by rw[h5];rfl)
  rw[if_pos h5,ha]at hn
  rw[ha]at hk
  exact .fld h5 ha (qBh rfl (hk a (by simp))) hn
 rw[if_neg h5]at hn
 by_cases h6:e.op=6
 ·rw[if_pos h6,if_neg (by rw[hsc];decide)]at hn
  split at hn
  ·simp at hn
  ·rename_i hno
   simp only[Prod.mk.injEq,and_true]at hn
   subst hn
   exact .new h6 (by simpa using hno)
 rw[if_neg h6]at hn
 by_cases h7:e.op=7
 ·rw[if_pos h7]at hn
  unfold callE at hn
  rw[if_pos hsc]at hn
  split at hn
  ·simp at hn
  ·rename_i hne
   obtain⟨pr,i,hc,rfl⟩:=callK_of hk hn
   exact .call h7 hc fun h=>hne ⟨by rw[hn],by rw[hn];exact h⟩
 rw[if_neg h7]at hn
 by_cases h14:e.op=14∨e.op=15
 ·obtain⟨a,b,hab⟩:=two (by rcases h14 with h|h <;> (rw[h];rfl))
  rw[if_pos h14,hab]at hn
  rw[hab]at hk
  obtain⟨g,rfl⟩:=qBy hn
  exact .eq h14 hab (qBh rfl (hk a (by simp))) (qBh rfl (hk b (by simp))) (by simpa using g)
 rw[if_neg h14]at hn
 by_cases h16:e.op=16∨e.op=17
 ·obtain⟨a,b,hab⟩:=two (by rcases h16 with h|h <;> (rw[h];rfl))
  rw[if_pos h16,hab]at hn
  rw[hab]at hk
  obtain⟨g,rfl⟩:=qBy hn
  obtain⟨g1,g2⟩:=allT2 g
  exact .cmp h16 hab (qBh g1 (hk a (by simp))) (qBh g2 (hk b (by simp)))
 rw[if_neg h16]at hn
 by_cases h18:e.op=18∨e.op=19∨e.op=20
 ·rw[if_pos h18]at hn
  rcases h18 with h|h
  ·obtain⟨a,ha⟩:=one (by rw[h];rfl)
   rw[ha]at hn hk
   obtain⟨g,rfl⟩:=qBy hn
   exact .not h ha (qBh (allT1 g) (hk a (by simp)))
  ·obtain⟨a,b,hab⟩:=two (by rcases h with h|h <;> (rw[h];rfl))
   rw[hab]at hn hk
   obtain⟨g,rfl⟩:=qBy hn
   obtain⟨g1,g2⟩:=allT2 g
   rcases h with h|h
   ·exact .and h hab (qBh g1 (hk a (by simp))) (qBh g2 (hk b (by simp)))
   ·exact .or h hab (qBh g1 (hk a (by simp))) (qBh g2 (hk b (by simp)))
 rw[if_neg h18]at hn
 by_cases h21:e.op=21
 ·obtain⟨a,b,c,habc⟩:=three (by rw[h21];rfl)
  rw[if_pos h21,habc]at hn
  rw[habc]at hk
  obtain⟨g,g2⟩:=qBy hn
  simp only[List.map_cons,List.map_nil,List.getD_cons_zero,List.getD_cons_succ,Bool.and_eq_true,decide_eq_true_eq,Bool.or_eq_true]at g g2
  refine .cond h21 habc (qBh g.1 (hk a (by simp))) (qBh rfl (hk b (by simp))) (qBh rfl (hk c (by simp))) ?_ ?_ g2.symm
  ·split at g2
   ·rename_i g3
    subst g2
    rcases g.2 with g|g
    ·exact .inr g
    ·unfold qDH at g ⊢
     simp only[Bool.or_eq_true,decide_eq_true_eq,Bool.and_eq_true]at g ⊢
     rcases g with g|g
     ·exact .inl g.symm
     ·exact .inl (g3.trans g.1.symm)
   ·exact .inl g2
  ·split at g2
   ·exact .inl g2
   ·rename_i g3
    subst g2
    rcases g.2 with g|g
    ·unfold qDH at g ⊢
     simp only[Bool.or_eq_true,decide_eq_true_eq,Bool.and_eq_true]at g ⊢
     rcases g with g|g
     ·exact .inl g.symm
     ·exact absurd g.1 g3
    ·exact .inr g
 rw[if_neg h21]at hn
 obtain⟨g,rfl⟩:=qBy hn
 have hop:e.op=8∨e.op=24∨(e.op=9∨e.op=10∨e.op=11∨e.op=12∨e.op=13∨e.op=22∨e.op=23):=by
  unfold qAF at a1
  grind
 rcases hop with h|h|h
 ·obtain⟨a,ha⟩:=one (by rw[h];rfl)
  rw[ha]at g hk
  exact .neg h ha (qBh (allT1 g) (hk a (by simp)))
 ·obtain⟨a,ha⟩:=one (by rw[h];rfl)
  rw[ha]at g hk
  exact .log h ha (qBh (allT1 g) (hk a (by simp)))
 ·obtain⟨a,b,hab⟩:=two (by rcases h with h|h|h|h|h|h|h <;> (rw[h];rfl))
  rw[hab]at g hk
  obtain⟨g1,g2⟩:=allT2 g
  exact .ari h hab (qBh g1 (hk a (by simp))) (qBh g2 (hk b (by simp)))
def TyS(d:Ds)(p:Pr)(s:S):Prop:=(∃n,(stT d (qAh d p) p.result n s).2=0)/\∃k,okS k s=true
theorem qGG{res:ByteArray}:∀{l:List S} {n:Int},(qBL d sc res n l).2=0->∀s∈l,∃n',(stT d sc res n' s).2=0
 | [],_,_,s,hs=>by cases hs
 | x::l,n,h,s,hs=>by
  rw[qGY]at h
  split at h
  ·rename_i h';exact absurd h h'
  ·rename_i h'
   rcases List.mem_cons.1 hs with rfl|hs
   ·exact⟨n,by simpa using h'⟩
   ·exact qGG h s hs
theorem qFm{k:Int}:∀{l:List S},qFI k l=true->∀s∈l,okS k s=true
 | [],_,s,hs=>by cases hs
 | x::l,h,s,hs=>by
  unfold qFI at h
  rw[Bool.and_eq_true]at h
  rcases List.mem_cons.1 hs with rfl|hs
  ·exact h.1
  ·exact qFm h.2 s hs
theorem okS_eq(k:Int)(s:S):okS k s=(decide (k<=60)&&qBM s.op s.s s.es s.ls.length s.xs.length&&qFI (k+1) s.ls&&qFI (k+1) s.xs):=by cases s;unfold okS;rfl
theorem TyS.parts{s:S}(h:TyS d p s):qFc d (qAh d p) p.result s.op s.s s.es=0/\qFf s.op s.s s.es s.ls.length s.xs.length=true/\(∀e∈s.es,qAK e=true)/\(∀x∈s.ls,TyS d p x)/\∀x∈s.xs,TyS d p x:=by
 obtain⟨⟨n,h1⟩,k,h2⟩:=h
 rw[okS_eq]at h2
 simp only[Bool.and_eq_true]at h2
 obtain⟨⟨⟨-,h3⟩,h4⟩,h5⟩:=h2
 unfold qBM at h3
 rw[Bool.and_eq_true,List.all_eq_true]at h3
 rw[stT_eq]at h1
 split at h1
 ·rename_i h';exact absurd h1 h'
 ·rename_i h'
  split at h1
  ·rename_i h6;exact absurd h1 h6
  ·rename_i h6
   exact⟨by simpa using h',h3.1,h3.2,fun x hx=>⟨qGG (by simpa using h6) x hx,_,qFm h4 x hx⟩,fun x hx=>⟨qGG h1 x hx,_,qFm h5 x hx⟩⟩
inductive KindS (d:Ds) (p:Pr) (s:S):Prop where
 | set {e:E} {u t:ByteArray} (h:s.op=1) (he:s.es=[e]) (hv:qAK e=true) (ht:qAl d (qAh d p) e=(u,0)) (hl:qCn (qAh d p).vars s.s=t) (hne:t≠sE) (hf:qDH d u t=true)
 | put {a e:E} {u w t:ByteArray} (h:s.op=2) (he:s.es=[a,e]) (hv:qAK a=true) (hw:qAK e=true) (ha:qAl d (qAh d p) a=(u,0)) (ht:qAl d (qAh d p) e=(w,0)) (hl:qBS d u s.s=(t,0)) (hf:qDH d w t=true)
 | cond {e:E} (h:s.op=3) (he:s.es=[e]) (hv:qAK e=true) (ht:qAl d (qAh d p) e=(qAu,0))
 | loop {e:E} (h:s.op=4) (he:s.es=[e]) (hv:qAK e=true) (ht:qAl d (qAh d p) e=(qAu,0))
 | ret0 (h:s.op=5) (he:s.es=[]) (hr:p.result=sE)
 | ret1 {e:E} {u:ByteArray} (h:s.op=5) (he:s.es=[e]) (hv:qAK e=true) (ht:qAl d (qAh d p) e=(u,0)) (hr:p.result≠sE) (hf:qDH d u p.result=true)
 | call {e:E} {pr:Pr} {i:Nat} (h:s.op=6) (he:s.es=[e]) (hv:qAK e=true) (ho:e.op=7) (hc:CallK d (qAh d p) e pr i)
theorem kindS{s:S}(h:TyS d p s):KindS d p s:=by
 obtain⟨h1,h2,h3,-⟩:=h.parts
 unfold qFc at h1
 unfold qFf at h2
 by_cases o6:s.op=6
 ·rw[if_pos o6]at h1
  rw[if_neg (by omega),if_neg (by omega),if_neg (by omega),if_neg (by omega),if_neg (by omega),if_pos o6]at h2
  obtain⟨-,h4,h5,-⟩:=of_decide_eq_true h2
  obtain⟨e,he⟩:=list1 h4
  rw[he]at h1 h5
  simp only at h1
  split at h1
  ·rename_i h';exact absurd h1 h'
  ·rename_i h'
   obtain⟨q1,q2⟩:=qEi d (qAh d p) e.k [] (by simpa using h')
   rw[q2,List.nil_append]at h1
   obtain⟨pr,i,hc,-⟩:=callK_of (t:=(qGc d e.s (e.k.map fun x=>(qAl d (qAh d p) x).1)).1) q1 (Prod.ext rfl h1)
   exact .call o6 he (h3 e (by rw[he];simp)) h5 hc
 rw[if_neg o6]at h1
 split at h1
 ·rename_i h';exact absurd h1 h'
 rename_i h'
 obtain⟨q1,q2⟩:=qEi d (qAh d p) s.es [] (by simpa using h')
 rw[q2,List.nil_append]at h1
 have ty:∀{e:E},e∈s.es->qAl d (qAh d p) e=((qAl d (qAh d p) e).1,0):=fun he=>qBh rfl (q1 _ he)
 by_cases o1:s.op=1
 ·rw[if_pos o1]at h1
  rw[if_pos o1,Bool.and_eq_true]at h2
  obtain⟨e,he⟩:=list1 (of_decide_eq_true h2.2).1
  have hm:e∈s.es:=by rw[he];simp
  split at h1
  ·cases h1
  rename_i hne
  split at h1
  ·rename_i hf
   rw[he]at hf
   exact .set o1 he (h3 e hm) (ty hm) rfl hne hf
  ·cases h1
 rw[if_neg o1]at h1 h2
 by_cases o2:s.op=2
 ·rw[if_pos o2]at h1
  rw[if_pos o2,Bool.and_eq_true]at h2
  obtain⟨a,e,he⟩:=list2 (of_decide_eq_true h2.2).1
  have hm:a∈s.es:=by rw[he];simp
  have hm2:e∈s.es:=by rw[he];simp
  split at h1
  ·rename_i h4;exact absurd h1 h4
  rename_i h4
  split at h1
  ·rename_i hf
   rw[he]at hf h4
   simp only[List.map_cons,List.getD_cons_zero,List.getD_cons_succ]at hf h4
   exact .put o2 he (h3 a hm) (h3 e hm2) (ty hm) (ty hm2) (Prod.ext rfl (by simpa using h4)) hf
  ·cases h1
 rw[if_neg o2]at h1 h2
 by_cases o3:s.op=3
 ·rw[if_pos (.inl o3)]at h1
  rw[if_pos o3]at h2
  obtain⟨e,he⟩:=list1 (of_decide_eq_true h2).2
  have hm:e∈s.es:=by rw[he];simp
  split at h1
  ·rename_i hf
   rw[he]at hf
   exact .cond o3 he (h3 e hm) (qBh hf (q1 e hm))
  ·cases h1
 rw[if_neg o3]at h2
 by_cases o4:s.op=4
 ·rw[if_pos (.inr o4)]at h1
  rw[if_pos o4]at h2
  obtain⟨e,he⟩:=list1 (of_decide_eq_true h2).2.1
  have hm:e∈s.es:=by rw[he];simp
  split at h1
  ·rename_i hf
   rw[he]at hf
   exact .loop o4 he (h3 e hm) (qBh hf (q1 e hm))
  ·cases h1
 rw[if_neg (by omega)]at h1
 rw[if_neg o4]at h2
 by_cases o5:s.op=5
 ·rw[if_pos o5]at h1 h2
  obtain⟨-,hl,-⟩:=of_decide_eq_true h2
  cases he:s.es with
  | nil =>
   rw[he]at h1
   simp only[List.map_nil,List.length_nil,if_true]at h1
   split at h1
   ·rename_i hr;exact .ret0 o5 he hr
   ·cases h1
  | cons e r =>
   have hr:r=[]:=by
    rw[he]at hl
    cases r with
    | nil=>rfl
    | cons _ _=>simp at hl;omega
   subst hr
   have hm:e∈s.es:=by rw[he];simp
   rw[he]at h1
   simp only[List.map_cons,List.map_nil,List.length_cons,List.length_nil,List.getD_cons_zero]at h1
   rw[if_neg (by omega)]at h1
   split at h1
   ·rename_i hf;exact .ret1 o5 he (h3 e hm) (ty hm) hf.1 hf.2
   ·cases h1
 ·rw[if_neg o5,if_neg o6]at h2
  cases h2
structure qCL (d:Ds) (p:Pr):Prop where
 body:∀s∈p.body,TyS d p s
 vars:∀f∈p.vars,qBn d f.ty=true
 res:p.result=sE∨qBn d p.result=true
 lens:p.params.length<=6/\p.locals.length<=12
theorem oneT_known{l:List Fld}{i:Nat}{f:Fld}(h:qFH d l i f=0):qBn d f.ty=true:=by
 unfold qFH at h
 split at h
 ·cases h
 ·split at h
  ·assumption
  ·cases h
theorem declT_known{l:List Fld}(h:qDa d l=0):∀f∈l,qBn d f.ty=true:=by
 intro f hf
 obtain⟨i,hi⟩:=List.mem_iff_getElem?.1 hf
 unfold qDa at h
 cases hq:qAi (fun i f=>if qFH d l i f≠0 then some (qFH d l i f) else none) 0 l with
 | none =>
  have:=qEn hq i f hi
  split at this
  ·cases this
  ·rename_i h';exact oneT_known (i:=0+i) (by simpa using h')
 | some b =>
  exfalso
  rw[hq]at h
  simp only[Option.getD_some]at h
  subst h
  have key:∀(l':List Fld) (i:Nat),qAi (fun i f=>if qFH d l i f≠0 then some (qFH d l i f) else none) i l'≠some 0:=by
   intro l'
   induction l' with
   | nil=>intro i h;cases h
   | cons x l' ih =>
    intro i h
    unfold qAi at h
    by_cases hx:qFH d l i x=0
    ·simp only[hx,ne_eq,not_true_eq_false,if_false]at h;exact ih _ h
    ·simp only[ne_eq,hx,not_false_eq_true,if_true,Option.some.injEq]at h
  exact key l 0 hq
theorem procs_ok(hv:qAI d=true)(hc:qHK d=none):∀p∈d.procs,qCL d p:=by
 intro p hp
 obtain⟨i,hi⟩:=List.mem_iff_getElem?.1 hp
 unfold qHK at hc
 obtain⟨-,h⟩:=or_none hc
 obtain⟨hh,h⟩:=or_none h
 obtain⟨-,h⟩:=or_none h
 obtain⟨hb,-⟩:=or_none h
 unfold qEC at hh
 unfold qCo at hb
 have a1:=qEn hh i p hi
 have a2:=qEn hb i p hi
 unfold qAI at hv
 simp only[Bool.and_eq_true,List.all_eq_true]at hv
 have hpb:=hv.1.2 p hp
 unfold prB at hpb
 simp only[Bool.and_eq_true]at hpb
 obtain⟨⟨⟨⟨-,f1⟩,f2⟩,-⟩,hs⟩:=hpb
 unfold qDI at f1 f2
 rw[Bool.and_eq_true,decide_eq_true_eq]at f1 f2
 have l1:=f1.1
 have l2:=f2.1
 refine⟨fun s hsm=>⟨?_,1,qFm (of_decide_eq_true hs).1 s hsm⟩,?_,?_,by omega,by omega⟩
 ·split at a2
  ·cases a2
  ·rename_i h';exact qGG (by simpa using h') s hsm
 ·split at a1
  ·cases a1
  split at a1
  ·cases a1
  rename_i h'
  have h':qDa d (p.params++p.locals)=0:=by simpa using h'
  exact declT_known h'
 ·split at a1
  ·cases a1
  split at a1
  ·cases a1
  split at a1
  ·cases a1
  rename_i h'
  by_cases hr:p.result=sE
  ·exact .inl hr
  ·right
   cases hk:qBn d p.result with
   | true=>rfl
   | false=>exact absurd ⟨hr,hk⟩ h'
end
end Go.Proofs
