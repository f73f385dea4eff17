/- Part 11 of a proof of a law of this seat: no statement of the seat is proved here. -/
import Derived.Test.YtginfholjbbgeaaGreatDoorPart10
import Derived.Test.YtginfholjbbgeaaGreatDoorPart04
set_option linter.unusedVariables false
set_option linter.unusedSimpArgs false
namespace Go.Proofs
open Go Go.Sx
attribute [local irreducible] Go.Sx.Tri
section
variable{V:Mem}{d:Ds}{c:Option Addr}
theorem impForm(h:qBL V c d):FltC 132 [.pointer c] V (qEj d):=by
 refine x132 ?_
 unfold w132 qEj
 have rf:=Mem.sub.refl V
 refine⟨h.nn,h.nn,qAe h.nn,d.ms,h.cell (i:=4) rfl,?_⟩
 unfold form1
 generalize hf1:(fun i (m:Ms)=>if (d.measures.take i).any (fun g=>decide (g.name=m.name))=true then some ((m.name,-1,10):Flt) else if qAW d m.ty=false then some (m.name,-1,9) else none)=F1
 refine qAJ d.measures.length (fun k V1=>V=V1/\qAh F1 0 d.measures=qAh F1 k (d.measures.drop k)) ⟨rfl,rfl⟩ ?_
 rintro k b V1 J hi ⟨rfl,ha⟩ hJ
 refine⟨fun hk=>?_,fun hk=>?_⟩
 ·obtain⟨g,hm,hx,hdr,hl,hp,hz,hrow⟩:=h.ok.measures.get hk
  rw[hdr]at ha
  refine⟨hp,hz,hk,_,_,_,_,_,_,_,hrow,h.nn,h.nn,qAe h.nn,d.ms,h.cell (i:=4) rfl,(c175 h.ok.measures hx).call ⟨_,rfl,fun h1=>qCS ?_ rf,fun h1=>(c177 h).call ⟨_,rfl,fun h2=>⟨h.ok.measures.succ hk,hJ hl _ _ ⟨rfl,?_⟩⟩,fun h2=>qCS ?_ rf⟩⟩⟩
  ·rw[ha,qAg (b:=(g.name,-1,10)) (by grind)];rfl
  ·rw[ha,qAk (by grind)]
  ·rw[ha,qAg (b:=(g.name,-1,9)) (by grind)];rfl
 rw[(h.ok.measures.done hk).1,qAh]at ha
 rw[ha,Option.none_or]
 refine⟨h.nn,h.nn,qAe h.nn,d.is,h.cell (i:=5) rfl,?_⟩
 unfold form2
 generalize hf2:(fun i (m:Iv)=>if (d.invs.take i).any (fun g=>decide (g.name=m.name))=true then some ((m.name,-1,10):Flt) else if m.ty≠sE/\qAW d m.ty=false then some (m.name,-1,9) else none)=F2
 refine qAJ d.invs.length (fun k V1=>V=V1/\qAh F2 0 d.invs=qAh F2 k (d.invs.drop k)) ⟨rfl,rfl⟩ ?_
 rintro k b V1 J hi ⟨rfl,ha⟩ hJ
 refine⟨fun hk=>?_,fun hk=>?_⟩
 ·obtain⟨g,hm,hx,hdr,hl,hp,hz,hrow⟩:=h.ok.invs.get hk
  rw[hdr]at ha
  refine⟨hp,hz,hk,_,_,_,_,_,_,hrow,h.nn,h.nn,qAe h.nn,d.is,h.cell (i:=5) rfl,(c178 h.ok.invs hx).call ⟨_,rfl,fun h1=>qCS ?_ rf,fun h1=>⟨fun h3=>⟨h.ok.invs.succ hk,hJ hl _ _ ⟨rfl,?_⟩⟩,fun h3=>(c177 h).call ⟨_,rfl,fun h2=>⟨h.ok.invs.succ hk,hJ hl _ _ ⟨rfl,?_⟩⟩,fun h2=>qCS ?_ rf⟩⟩⟩⟩
  ·rw[ha,qAg (b:=(g.name,-1,10)) (by grind)];rfl
  ·rw[ha,qAk (by rw[<- hf2];exact(if_neg h1).trans (if_neg fun e=>e.1 h3))]
  ·rw[ha,qAk (by grind)]
  ·rw[ha,qAg (b:=(g.name,-1,9)) (by rw[<- hf2];exact(if_neg h1).trans (if_pos ⟨h3,eq_false_of_ne_true h2⟩))];rfl
 rw[(h.ok.invs.done hk).1,qAh]at ha
 rw[ha,Option.none_or]
 refine⟨h.nn,h.nn,qAe h.nn,d.qs,h.cell (i:=6) rfl,?_⟩
 unfold form3
 generalize hf3:(fun(_:Nat) (m:Po)=>if m.ty≠sE/\qAW d m.ty=false then some ((sPot,-1,9):Flt) else none)=F3
 refine qAJ d.pots.length (fun k V1=>V=V1/\qAh F3 0 d.pots=qAh F3 k (d.pots.drop k)) ⟨rfl,rfl⟩ ?_
 rintro k b V1 J hi ⟨rfl,ha⟩ hJ
 refine⟨fun hk=>?_,fun hk=>?_⟩
 ·obtain⟨g,hm,hx,hdr,hl,hp,hz,hrow⟩:=h.ok.pots.get hk
  rw[hdr]at ha
  refine⟨hp,hz,hk,_,_,_,_,_,hrow,fun h3=>⟨h.ok.pots.succ hk,hJ hl _ _ ⟨rfl,?_⟩⟩,fun h3=>(c177 h).call ⟨_,rfl,fun h2=>⟨h.ok.pots.succ hk,hJ hl _ _ ⟨rfl,?_⟩⟩,fun h2=>qCS ?_ rf⟩⟩
  ·rw[ha,qAk (by rw[<- hf3];exact if_neg fun e=>e.1 h3)]
  ·rw[ha,qAk (by grind)]
  ·rw[ha,qAg (b:=(sPot,-1,9)) (by rw[<- hf3];exact if_pos ⟨h3,eq_false_of_ne_true h2⟩)];rfl
 rw[(h.ok.pots.done hk).1,qAh]at ha
 rw[ha,Option.none_or]
 refine⟨h.nn,h.nn,qAe h.nn,d.bs,h.cell (i:=7) rfl,?_⟩
 unfold form4
 generalize hf4:(fun i (b:Bd)=>if (qEW d b.proc).isNone=true then some ((b.proc,-1,9):Flt) else if (d.bounds.take i).any (fun g=>decide (g.proc=b.proc))=true then some (b.proc,-1,10) else none)=F4
 refine qAJ d.bounds.length (fun k V1=>V=V1/\qAh F4 0 d.bounds=qAh F4 k (d.bounds.drop k)) ⟨rfl,rfl⟩ ?_
 rintro k b V1 J hi ⟨rfl,ha⟩ hJ
 refine⟨fun hk=>?_,fun hk=>?_⟩
 ·obtain⟨g,hm,hx,hdr,hl,hp,hz,hrow⟩:=h.ok.bounds.get hk
  rw[hdr]at ha
  obtain⟨mt,q1,q2⟩:=h.procs
  refine⟨hp,hz,hk,_,_,_,_,_,hrow,h.nn,h.nn,_,q1,qCr.str Tryz.underlying210 Tryz.underlying9 zero121 q2 ?_⟩
  cases hpr:qEW d g.proc with
  | none =>
   refine⟨_,⟨none,0,0⟩,_,⟨none,0,0⟩,⟨none,0,0⟩,_,rfl,fun h=>absurd h (by simp),fun _=>qCS ?_ rf⟩
   rw[ha,qAg (b:=(g.proc,-1,9)) (by grind)]
  | some p =>
   have n0:¬(qEW d g.proc).isNone=true:=by rw[hpr];simp
   refine⟨_,p.ps,_,p.ls,p.bs,_,rfl,fun _=>⟨h.nn,h.nn,qAe h.nn,d.bs,h.cell (i:=7) rfl,(c180 h.ok.bounds hx).call ⟨_,rfl,fun h1=>qCS ?_ rf,fun h1=>⟨h.ok.bounds.succ hk,hJ hl _ _ ⟨rfl,?_⟩⟩⟩⟩,fun h=>absurd rfl h⟩
   ·rw[ha,qAg (b:=(g.proc,-1,10)) (by grind)]
   ·rw[ha,qAk (by grind)]
 rw[(h.ok.bounds.done hk).1,qAh]at ha
 rw[ha]
 exact⟨none,rfl,rf,rfl⟩
theorem impBodies(hS:qHi)(h:qBL V c d)(hv:VNe d)(hp:qJE d):FltC 133 [.pointer c] V (qCq d):=by
 refine x133 ?_
 unfold w133 qCq
 refine⟨h.nn,h.nn,qAe h.nn,d.ps,h.cell (i:=3) rfl,?_⟩
 generalize hf1:(fun(_:Nat) (p:Pr)=>if (qBF d (qAf d p) p.result 0 p.body).2≠0 then some ((p.name,(qBF d (qAf d p) p.result 0 p.body).1,(qBF d (qAf d p) p.result 0 p.body).2):Flt) else none)=F1
 refine qAJ d.procs.length (fun k V1=>V.sub V1/\qAh F1 0 d.procs=qAh F1 k (d.procs.drop k)) ⟨Mem.sub.refl _,rfl⟩ ?_
 rintro k b V1 J hi ⟨hV,ha⟩ hJ
 have h1:=h.sub hV
 refine⟨fun hk=>?_,fun hk=>?_⟩
 ·obtain⟨g,hm,hx,hdr,hl,hpp,hz,hrow⟩:=h1.ok.procs.get hk
  rw[hdr]at ha
  have hg:=h1.ok.procsOk g hm
  refine⟨hpp,hz,hk,_,_,_,_,_,hrow,Tri.mono (impInProc hS h1 hv hm hg) ?_⟩
  rintro _ V2 ⟨m,rfl,h12,hsc⟩
  refine⟨_,_,_,rfl,fun b1 hb1=>?_⟩
  obtain⟨hs1,hs2⟩:=hp.ps g hm
  have s1:=Mem.sub_new hb1 (cell (.int .i64 0) 3)
  refine Tri.mono (impStmts hb1 (h1.sub h12) hv hsc rfl g.body _ g.bs 0 1 s1 mss (hg.sub h12).body (hg.sub h12).stmts hs1 (by omega) (by omega)) ?_
  rintro _ V3 ⟨rfl,n',hn',-⟩
  have hV3:=hV.trans (h12.trans (hn'.base s1 hb1))
  refine⟨_,_,rfl,fun h2=>⟨h1.ok.procs.succ hk,hJ hl _ _ ⟨hV3,?_⟩⟩,fun h2=>qCS ?_ hV3⟩
  ·rw[ha,qAk (by grind)]
  ·have:placeT (qBF d (qAf d g) g.result 0 g.body)=(qBF d (qAf d g) g.result 0 g.body).1:=if_neg h2
   rw[this,ha,qAg (b:=(g.name,(qBF d (qAf d g) g.result 0 g.body).1,(qBF d (qAf d g) g.result 0 g.body).2)) (by grind)]
 rw[(h1.ok.procs.done hk).1,qAh]at ha
 rw[ha]
 exact⟨none,rfl,hV,rfl⟩
theorem qCe{V1:Mem}{X:Option Flt}(h:FltAt V1 none X):X=none:=by
 cases X with
 | none=>rfl
 | some r=>obtain⟨b,t,h1,_⟩:=h;cases h1
theorem qEP{V1:Mem}{X:Option Flt}{p:Option Addr}(h:FltAt V1 p X)(hp:¬p=none):∃r,X=some r:=by
 cases X with
 | none=>exact absurd h hp
 | some r=>grind
theorem impExps(hS:qHi)(h:qBL V c d)(hv:VNe d)(hp:qJE d)(hform:qEj d=none):FltC 134 [.pointer c] V (qGF d):=by
 refine x134 ?_
 unfold w134 qGF
 refine⟨h.nn,h.nn,qAe h.nn,d.ms,h.cell (i:=4) rfl,?_⟩
 unfold exp1
 generalize hf1:(fun(_:Nat) (m:Ms)=>if qBq d (qAw d m.ty) m.x qAN≠0 then some ((m.name,-1,qBq d (qAw d m.ty) m.x qAN):Flt) else none)=F1
 refine qAJ d.measures.length (fun k V1=>V.sub V1/\qAh F1 0 d.measures=qAh F1 k (d.measures.drop k)) ⟨Mem.sub.refl _,rfl⟩ ?_
 rintro k b V1 J hi ⟨hV,ha⟩ hJ
 have h1:=h.sub hV
 refine⟨fun hk=>?_,fun hk=>?_⟩
 ·obtain⟨g,hm,hx,hdr,hl,hpp,hz,hrow⟩:=h1.ok.measures.get hk
  rw[hdr]at ha
  refine⟨hpp,hz,hk,_,_,_,_,_,_,_,hrow,Tri.mono (qEy hS h1 hv) ?_⟩
  rintro _ V2 ⟨m,rfl,h12,hsc⟩
  refine⟨_,_,_,rfl,Tri.mono (c185 (e:=g.x) (h1.sub h12) hv hsc ((h1.sub h12).ok.measuresOk g hm).x (hp.ms g hm)) ?_⟩
  rintro _ V3 ⟨p,rfl,h23,hfl⟩
  have hV3:=hV.trans (h12.trans h23)
  have hfe:(if qBq d (qAw d g.ty) g.x qAN≠0 then some ((g.name,-1,qBq d (qAw d g.ty) g.x qAN):Flt) else none)=F1 k g:=by rw[<- hf1]
  rw[show qAl [105,110,116]=qAN from rfl]at hfl
  rw[hfe]at hfl
  refine⟨_,rfl,fun hn=>?_,fun hn=>?_⟩
  ·subst hn
   exact⟨h1.ok.measures.succ hk,hJ hl _ _ ⟨hV3,by rw[ha,qAk (qCe hfl)]⟩⟩
  ·obtain⟨r,hr⟩:=qEP hfl hn
   rw[ha,qAg hr]
   rw[hr]at hfl
   exact⟨p,rfl,hV3,hfl⟩
 rw[(h1.ok.measures.done hk).1,qAh]at ha
 rw[ha,Option.none_or]
 refine⟨h.nn,h.nn,qAe h.nn,d.is,h1.cell (i:=5) rfl,?_⟩
 unfold exp2
 generalize hf2:(fun(_:Nat) (m:Iv)=>if qBq d (qAw d m.ty) m.x qAu≠0 then some ((m.name,-1,qBq d (qAw d m.ty) m.x qAu):Flt) else none)=F2
 refine qAJ d.invs.length (fun k V1=>V.sub V1/\qAh F2 0 d.invs=qAh F2 k (d.invs.drop k)) ⟨hV,rfl⟩ ?_
 rintro k b V1 J hi ⟨hV,ha⟩ hJ
 have h1:=h.sub hV
 refine⟨fun hk=>?_,fun hk=>?_⟩
 ·obtain⟨g,hm,hx,hdr,hl,hpp,hz,hrow⟩:=h1.ok.invs.get hk
  rw[hdr]at ha
  refine⟨hpp,hz,hk,_,_,_,_,_,_,hrow,Tri.mono (qEy hS h1 hv) ?_⟩
  rintro _ V2 ⟨m,rfl,h12,hsc⟩
  refine⟨_,_,_,rfl,Tri.mono (c185 (e:=g.x) (h1.sub h12) hv hsc ((h1.sub h12).ok.invsOk g hm) (hp.is g hm)) ?_⟩
  rintro _ V3 ⟨p,rfl,h23,hfl⟩
  have hV3:=hV.trans (h12.trans h23)
  have hfe:(if qBq d (qAw d g.ty) g.x qAu≠0 then some ((g.name,-1,qBq d (qAw d g.ty) g.x qAu):Flt) else none)=F2 k g:=by rw[<- hf2]
  rw[show qAl [98,111,111,108]=qAu from rfl]at hfl
  rw[hfe]at hfl
  refine⟨_,rfl,fun hn=>?_,fun hn=>?_⟩
  ·subst hn
   exact⟨h1.ok.invs.succ hk,hJ hl _ _ ⟨hV3,by rw[ha,qAk (qCe hfl)]⟩⟩
  ·obtain⟨r,hr⟩:=qEP hfl hn
   rw[ha,qAg hr]
   rw[hr]at hfl
   exact⟨p,rfl,hV3,hfl⟩
 rw[(h1.ok.invs.done hk).1,qAh]at ha
 rw[ha,Option.none_or]
 refine⟨h.nn,h.nn,qAe h.nn,d.qs,h1.cell (i:=6) rfl,?_⟩
 unfold exp3
 generalize hf3:(fun(_:Nat) (m:Po)=>if qBq d (qAw d m.ty) m.x qAN≠0 then some ((sPot,-1,qBq d (qAw d m.ty) m.x qAN):Flt) else none)=F3
 refine qAJ d.pots.length (fun k V1=>V.sub V1/\qAh F3 0 d.pots=qAh F3 k (d.pots.drop k)) ⟨hV,rfl⟩ ?_
 rintro k b V1 J hi ⟨hV,ha⟩ hJ
 have h1:=h.sub hV
 refine⟨fun hk=>?_,fun hk=>?_⟩
 ·obtain⟨g,hm,hx,hdr,hl,hpp,hz,hrow⟩:=h1.ok.pots.get hk
  rw[hdr]at ha
  refine⟨hpp,hz,hk,_,_,_,_,_,hrow,Tri.mono (qEy hS h1 hv) ?_⟩
  rintro _ V2 ⟨m,rfl,h12,hsc⟩
  refine⟨_,_,_,rfl,Tri.mono (c185 (e:=g.x) (h1.sub h12) hv hsc ((h1.sub h12).ok.potsOk g hm) (hp.qs g hm)) ?_⟩
  rintro _ V3 ⟨p,rfl,h23,hfl⟩
  have hV3:=hV.trans (h12.trans h23)
  have hfe:(if qBq d (qAw d g.ty) g.x qAN≠0 then some ((sPot,-1,qBq d (qAw d g.ty) g.x qAN):Flt) else none)=F3 k g:=by rw[<- hf3]
  rw[show qAl [105,110,116]=qAN from rfl,show qAl [112,111,116,101,110,116,105,97,108]=sPot from rfl]at hfl
  rw[hfe]at hfl
  refine⟨_,rfl,fun hn=>?_,fun hn=>?_⟩
  ·subst hn
   exact⟨h1.ok.pots.succ hk,hJ hl _ _ ⟨hV3,by rw[ha,qAk (qCe hfl)]⟩⟩
  ·obtain⟨r,hr⟩:=qEP hfl hn
   rw[ha,qAg hr]
   rw[hr]at hfl
   exact⟨p,rfl,hV3,hfl⟩
 rw[(h1.ok.pots.done hk).1,qAh]at ha
 rw[ha,Option.none_or]
 refine⟨h.nn,h.nn,qAe h.nn,d.bs,h1.cell (i:=7) rfl,?_⟩
 have hpr:=qIF hform
 unfold exp4
 generalize hf4:(fun(_:Nat) (m:Bd)=>if qBq d (qBw d ((qEW d m.proc).getD prD)) m.x qAN≠0 then some ((m.proc,-1,qBq d (qBw d ((qEW d m.proc).getD prD)) m.x qAN):Flt) else none)=F4
 refine qAJ d.bounds.length (fun k V1=>V.sub V1/\qAh F4 0 d.bounds=qAh F4 k (d.bounds.drop k)) ⟨hV,rfl⟩ ?_
 rintro k b V1 J hi ⟨hV,ha⟩ hJ
 have h1:=h.sub hV
 refine⟨fun hk=>?_,fun hk=>?_⟩
 ·obtain⟨g,hm,hx,hdr,hl,hpp,hz,hrow⟩:=h1.ok.bounds.get hk
  rw[hdr]at ha
  obtain⟨q,hq⟩:=hpr g hm
  obtain⟨mt,q1,q2⟩:=h1.procs
  refine⟨hpp,hz,hk,_,_,_,_,_,hrow,h.nn,h.nn,_,q1,qCr.str1 Tryz.underlying210 Tryz.underlying9 zero121 q2 ?_⟩
  rw[hq]
  refine⟨_,q.ps,_,q.ls,q.bs,rfl,Tri.mono (impInBound hS h1 hv (qJX hq) (h1.ok.procsOk q (qJX hq))) ?_⟩
  rintro _ V2 ⟨m,rfl,h12,hsc⟩
  refine⟨_,_,_,rfl,Tri.mono (c185 (e:=g.x) (h1.sub h12) hv hsc ((h1.sub h12).ok.boundsOk g hm) (hp.bs g hm)) ?_⟩
  rintro _ V3 ⟨p,rfl,h23,hfl⟩
  have hV3:=hV.trans (h12.trans h23)
  have hfe:(if qBq d (qBw d q) g.x qAN≠0 then some ((g.proc,-1,qBq d (qBw d q) g.x qAN):Flt) else none)=F4 k g:=by grind
  rw[show qAl [105,110,116]=qAN from rfl]at hfl
  rw[hfe]at hfl
  refine⟨_,rfl,fun hn=>?_,fun hn=>?_⟩
  ·subst hn
   exact⟨h1.ok.bounds.succ hk,hJ hl _ _ ⟨hV3,by rw[ha,qAk (qCe hfl)]⟩⟩
  ·obtain⟨r,hr⟩:=qEP hfl hn
   rw[ha,qAg hr]
   rw[hr]at hfl
   exact⟨p,rfl,hV3,hfl⟩
 rw[(h1.ok.bounds.done hk).1,qAh]at ha
 rw[ha]
 exact⟨none,rfl,hV,rfl⟩
end
theorem GenK.makeF1{P:Program}{V:Mem}{f:FuncId}{x:Operand}{ty:Nat}{vals:Operand->Value}{v:Value}(hx:vals x=v){q:Value->Mem->Prop}(hq:q (.func (.func f) #[v] #[]) V):GenK P (.makeFunc (.func f) #[x] #[]) ty vals V q:=by
 intro w hw
 refine⟨_,w,V,?_,Frm.refl hw,hq⟩
 unfold execOp Instr.makeFunc
 simp_all
section
variable{V:Mem}{d:Ds}{c:Option Addr}
theorem impFirst(hS:qHi)(h:qBL V c d)(hv:VNe d)(hp:qJE d):FltC 95 [.pointer c] V (qHg d):=by
 refine x95 ?_
 unfold w95
 have F1:=fun V1 (hs:V.sub V1)=>impTypes (h.sub hs)
 have F2:=fun V1 (hs:V.sub V1)=>impHeads (h.sub hs) hp.small
 have F3:=fun V1 (hs:V.sub V1)=>impForm (h.sub hs)
 have F4:=fun V1 (hs:V.sub V1)=>impBodies hS (h.sub hs) hv hp
 have F5:=fun V1 (hs:V.sub V1) (hf:qEj d=none)=>impExps hS (h.sub hs) hv hp hf
 refine GenK.makeF1 (v:=.pointer c) rfl ⟨.func (.func 130) #[.pointer c] #[],rfl,rfl,GenK.makeF1 (v:=.pointer c) rfl ⟨.func (.func 131) #[.pointer c] #[],rfl,rfl,GenK.makeF1 (v:=.pointer c) rfl ⟨.func (.func 132) #[.pointer c] #[],rfl,rfl,GenK.makeF1 (v:=.pointer c) rfl ⟨.func (.func 133) #[.pointer c] #[],rfl,rfl,GenK.makeF1 (v:=.pointer c) rfl ⟨.func (.func 134) #[.pointer c] #[],rfl,rfl,fun b hb=>?_⟩⟩⟩⟩⟩
 have hs1:=Mem.sub_new hb (.cells #[.func (.func 130) #[.pointer c] #[],.func (.func 131) #[.pointer c] #[],.func (.func 132) #[.pointer c] #[],.func (.func 133) #[.pointer c] #[],.func (.func 134) #[.pointer c] #[]] 180 (0,0))
 refine qAJ 5 (fun i V1=>V.sub V1/\V1 b=some (.cells #[.func (.func 130) #[.pointer c] #[],.func (.func 131) #[.pointer c] #[],.func (.func 132) #[.pointer c] #[],.func (.func 133) #[.pointer c] #[],.func (.func 134) #[.pointer c] #[]] 180 (0,0)) /\
  ((i=0/\qHg d=(qFb d).or ((qEe d).or ((qEj d).or ((qCq d).or (qGF d)))))∨(i=1/\qHg d=(qEe d).or ((qEj d).or ((qCq d).or (qGF d))))∨(i=2/\qHg d=(qEj d).or ((qCq d).or (qGF d)))∨(i=3/\qEj d=none/\qHg d=(qCq d).or (qGF d))∨(i=4/\qEj d=none/\qHg d=qGF d)∨(i=5/\qHg d=none))) ⟨hs1,Mem.set_same _ _ _,.inl ⟨rfl,rfl⟩⟩ ?_
 rintro i b' V1 J hi ⟨hV,hrow,hst⟩ hJ
 have fin:∀{V2:Mem} {X Y:Option Flt} {p:Option Addr},V.sub V2->FltAt V2 p X->¬(p=none)->qHg d=X.or Y->(∃p',Ending.returned (.pointer p)=.returned (.pointer p')/\V.sub V2/\FltAt V2 p' (qHg d)):=fun {V2 X Y p} hs hf hn he=>by
  obtain⟨r,rfl⟩:=qEP hf hn
  simp_all
 refine⟨fun hlt=>?_,fun hge=>?_⟩
 ·rcases hst with⟨rfl,he⟩|⟨rfl,he⟩|⟨rfl,he⟩|⟨rfl,hf,he⟩|⟨rfl,hf,he⟩|⟨rfl,he⟩
  ·refine⟨by simp[qAa],by omega,by omega,.func (.func 130) #[.pointer c] #[],rfl,qAc hrow 0 1 (by simp),_,_,_,rfl,Tryz.call130,Tri.mono (F1 V1 hV) ?_⟩
   rintro _ V2 ⟨p,rfl,h12,hfl⟩
   refine⟨_,rfl,fun hn=>⟨⟨by omega,by omega⟩,hJ (by omega) _ _ ⟨hV.trans h12,h12 _ _ hrow,?_⟩⟩,fun hn=>fin (hV.trans h12) hfl hn he⟩
   subst hn
   exact .inr (.inl ⟨rfl,by rw[he,qCe hfl,Option.none_or]⟩)
  ·refine⟨by simp[qAa],by omega,by omega,.func (.func 131) #[.pointer c] #[],rfl,qAc hrow 1 1 (by simp),_,_,_,rfl,Tryz.call131,Tri.mono (F2 V1 hV) ?_⟩
   rintro _ V2 ⟨p,rfl,h12,hfl⟩
   refine⟨_,rfl,fun hn=>⟨⟨by omega,by omega⟩,hJ (by omega) _ _ ⟨hV.trans h12,h12 _ _ hrow,?_⟩⟩,fun hn=>fin (hV.trans h12) hfl hn he⟩
   subst hn
   exact .inr (.inr (.inl ⟨rfl,by rw[he,qCe hfl,Option.none_or]⟩))
  ·refine⟨by simp[qAa],by omega,by omega,.func (.func 132) #[.pointer c] #[],rfl,qAc hrow 2 1 (by simp),_,_,_,rfl,Tryz.call132,Tri.mono (F3 V1 hV) ?_⟩
   rintro _ V2 ⟨p,rfl,h12,hfl⟩
   refine⟨_,rfl,fun hn=>⟨⟨by omega,by omega⟩,hJ (by omega) _ _ ⟨hV.trans h12,h12 _ _ hrow,?_⟩⟩,fun hn=>fin (hV.trans h12) hfl hn he⟩
   subst hn
   exact .inr (.inr (.inr (.inl ⟨rfl,qCe hfl,by rw[he,qCe hfl,Option.none_or]⟩)))
  ·refine⟨by simp[qAa],by omega,by omega,.func (.func 133) #[.pointer c] #[],rfl,qAc hrow 3 1 (by simp),_,_,_,rfl,Tryz.call133,Tri.mono (F4 V1 hV) ?_⟩
   rintro _ V2 ⟨p,rfl,h12,hfl⟩
   refine⟨_,rfl,fun hn=>⟨⟨by omega,by omega⟩,hJ (by omega) _ _ ⟨hV.trans h12,h12 _ _ hrow,?_⟩⟩,fun hn=>fin (hV.trans h12) hfl hn he⟩
   subst hn
   exact .inr (.inr (.inr (.inr (.inl ⟨rfl,hf,by rw[he,qCe hfl,Option.none_or]⟩))))
  ·refine⟨by simp[qAa],by omega,by omega,.func (.func 134) #[.pointer c] #[],rfl,qAc hrow 4 1 (by simp),_,_,_,rfl,Tryz.call134,Tri.mono (F5 V1 hV hf) ?_⟩
   rintro _ V2 ⟨p,rfl,h12,hfl⟩
   refine⟨_,rfl,fun hn=>⟨⟨by omega,by omega⟩,hJ (by omega) _ _ ⟨hV.trans h12,h12 _ _ hrow,?_⟩⟩,fun hn=>fin (Y:=none) (hV.trans h12) hfl hn (by simp_all)⟩
   subst hn
   exact .inr (.inr (.inr (.inr (.inr ⟨rfl,by rw[he,qCe hfl]⟩))))
  ·omega
 ·rcases hst with⟨rfl,he⟩|⟨rfl,he⟩|⟨rfl,he⟩|⟨rfl,hf,he⟩|⟨rfl,hf,he⟩|⟨rfl,he⟩
  ·omega
  ·omega
  ·omega
  ·omega
  ·omega
  ·rw[he];exact⟨none,rfl,hV,rfl⟩
theorem c66[Tab V](hS:qHi)(hN:NewC)(hd:Ds.Ok V d):PP 66 [d.v] V (if qAK d=true then f3 (qHg d) else .tuple #[.string sE,.int .i64 0,.int .i64 1]):=by
 refine Pur.mk (x66 ?_)
 unfold w66
 refine(c73 hd).call ⟨_,rfl,fun hval=>?_,fun hval=>?_⟩
 ·rw[if_pos hval]
  refine Tri.mono (hN V d hd) ?_
  rintro _ V1 ⟨c,rfl,h1,hc⟩
  refine⟨c,rfl,Tri.mono (impFirst hS hc (vne hval) (vparts hval)) ?_⟩
  rintro _ V2 ⟨p,rfl,h2,hfl⟩
  refine⟨p,rfl,fun hn=>?_,fun hn=>?_⟩
  ·subst hn
   rw[qCe hfl]
   exact⟨rfl,h1.trans h2⟩
  ·obtain⟨r,hr⟩:=qEP hfl hn
   rw[hr]at hfl ⊢
   obtain⟨b,t,rfl,hb⟩:=hfl
   exact⟨hn,hn,_,qAc hb 0 1 (by simp),hn,hn,_,qAc hb 1 1 (by simp),hn,hn,_,qAc hb 2 1 (by simp),qCa (p:=some ⟨b,0,none⟩) (qAc hb 2 1 (by simp)),hn,hn,qCa (p:=some ⟨b,0,none⟩) (qAc hb 1 1 (by simp)),hn,hn,qCa (p:=some ⟨b,0,none⟩) (qAc hb 2 1 (by simp)),hn,hn,rfl,h1.trans h2⟩
 ·rw[if_neg hval];exact⟨rfl,Mem.sub.refl _⟩
end
end Go.Proofs
namespace Go.Sx
open Go
open Classical
end Go.Sx
namespace Go.Proofs
open Go Go.Sx
attribute [local irreducible] Go.Sx.Tri
def qAo(n:Int):List Value:=[.int .i64 n]
def inI(n:Int):Prop:=-9223372036854775808<=n/\n<=9223372036854775807
structure Nd where
 ty:Int
 sl:Sl
 f:List Int
def Nd.row(n:Nd):List Value:=[.int .i64 n.ty,n.sl.v]
def Nd.v(n:Nd):Value:=.agg n.row.toArray
structure Nd.Ok (V:Mem) (n:Nd):Prop where
 rows:qAd V n.sl 1 (n.f.map qAo)
 tyIn:inI n.ty
 vals:∀x∈n.f,inI x
structure Mm where
 gs:Sl
 globals:List Int
 ns:Sl
 nodes:List Nd
def Mm.row(m:Mm):List Value:=[m.gs.v,m.ns.v]
def Mm.v(m:Mm):Value:=.agg m.row.toArray
structure Mm.Ok (V:Mem) (m:Mm):Prop where
 globals:qAd V m.gs 1 (m.globals.map qAo)
 gIn:∀x∈m.globals,inI x
 nodes:qAd V m.ns 2 (m.nodes.map Nd.row)
 nodesOk:∀n∈m.nodes,Nd.Ok V n
theorem Nd.Ok.sub{V V':Mem}{n:Nd}(h:Nd.Ok V n)(hs:V.sub V'):Nd.Ok V' n:=⟨h.rows.sub hs,h.tyIn,h.vals⟩
theorem Mm.Ok.sub{V V':Mem}{m:Mm}(h:Mm.Ok V m)(hs:V.sub V'):Mm.Ok V' m:=⟨h.globals.sub hs,h.gIn,h.nodes.sub hs,fun n hn=>(h.nodesOk n hn).sub hs⟩
def allI{α:Type}(p:Nat->α->Bool)(xs:List α):Bool:=xs.zipIdx.all fun x=>p x.2 x.1
def AllI{α:Type}(p:Nat->α->Bool)(xs:List α)(i:Nat):Prop:=∀j x,j<i->xs[j]?=some x->p j x=true
theorem AllI.zero{α:Type}{p:Nat->α->Bool}{xs:List α}:AllI p xs 0:=fun _ _ h=>absurd h (Nat.not_lt_zero _)
theorem AllI.succ{α:Type}{p:Nat->α->Bool}{xs:List α}{i:Nat}{x:α}(h:AllI p xs i)(hx:xs[i]?=some x)(hp:p i x=true):AllI p xs (i+1):=fun j y hj hy=>by
 rcases Nat.lt_succ_iff_lt_or_eq.1 hj with h'|rfl
 ·exact h j y h' hy
 simp_all
theorem qDm{α:Type}{p:Nat->α->Bool}{xs:List α}:allI p xs=true↔∀j x,xs[j]?=some x->p j x=true:=by
 unfold allI
 rw[List.all_eq_true]
 constructor
 ·simp_all [List.mem_zipIdx_iff_getElem?]
 grind
theorem AllI.all{α:Type}{p:Nat->α->Bool}{xs:List α}{i:Nat}(h:AllI p xs i)(hi:xs.length<=i):allI p xs=true :=
 qDm.2 fun j x hx=>h j x (by grind) hx
theorem qGM{α:Type}{p:Nat->α->Bool}{xs:List α}{j:Nat}{x:α}(hx:xs[j]?=some x)(hp:¬p j x=true):allI p xs=false:=by
 grind [allI,absurd,qDm]
def qDk(d:Ds)(s:ByteArray):Int:=qHC (fun t=>decide (t.name=s)) d.types
def qBA(d:Ds)(l:List Fld):Bool:=l.all fun f=>qBf d f.ty
def hasT(d:Ds):Bool:=qAK d&&qBA d d.globals&&allI (fun i t=>decide (qDk d t.name=(i:Int))&&qBA d t.fields) d.types
def qAr(d:Ds)(t:Int):List Fld:=((d.types[t.toNat]?).map (·.fields)).getD []
def tyAt(l:List Fld)(i:Nat):ByteArray:=((l[i]?).map (·.ty)).getD sE
def qAv(d:Ds)(m:Mm)(typ:ByteArray)(v:Int):Bool :=
 if typ=qAN then decide (-1099511627776<=v/\v<=1099511627776) else if typ=qAu then decide (v=0∨v=1)
 else decide (v=0∨(1<=v/\v<=(m.nodes.length:Int)/\(m.nodes[(v-1).toNat]?).map (·.ty)=some (qDk d typ)))
def qAj(d:Ds)(m:Mm)(l:List Fld)(vs:List Int):Bool:=decide (l.length=vs.length)&&allI (fun i v=>qAv d m (tyAt l i) v) vs
def qDj(d:Ds)(n:Nd):Bool:=decide (0<=n.ty/\n.ty<(d.types.length:Int))
def qBr(d:Ds)(m:Mm):Bool:=hasT d&&decide (m.nodes.length<=4096)&&m.nodes.all (qDj d)&&qAj d m d.globals m.globals&&m.nodes.all fun n=>qAj d m (qAr d n.ty) n.f
theorem row_take{V:Mem}{a:Addr}{n k:Nat}{vs:List Value}(h:V.row a n=some vs)(hk:k<=n):V.row a k=some (vs.take k):=by
 grind [Mem.row]
theorem qEI{V:Mem}{p:Option Addr}{off n k:Nat}{vs:List Value}(h:V.rowp p off n=some vs)(hk:k<=n):V.rowp (qAa (qAa p off) 0) 0 k=some (vs.take k):=by
 cases p with
 | none=>cases h
 | some a =>
  have h0:((a.add off).add 0).add 0=a.add off:=by rfl
  show V.row (((a.add off).add 0).add 0) k=_
  rw[h0]
  exact row_take h hk
section
variable{V:Mem}{d:Ds}{m:Mm}
theorem qGE(d:Ds)(s:ByteArray):(qDk d s<0/\qAW d s=false)∨(0<=qDk d s/\qAW d s=true):=by
 grind [qDk,qAW,qAP,Ty]
theorem c124(h:Ds.Ok V d){l:Sl}{xs:List Fld}(hr:qAd V l 2 (xs.map Fld.row)):PP 124 [d.v,l.v] V (.bool (qBA d xs)):=by
 refine x124 ?_
 unfold w124
 refine qAJ (mk:=.bool) (b0:=false) xs.length (fun i V1=>V=V1/\qAX (fun f=>qBf d f.ty) xs i) ⟨rfl,qAX.zero _ _⟩ ?_
 rintro i b V1 J hi ⟨rfl,ha⟩ hJ
 refine⟨fun hlt=>?_,fun hge=>?_⟩
 ·obtain⟨x,hm,hx,hdr,hl,hp,hz,hrow⟩:=hr.get hlt
  have hq:=qAe (n:=i*2) hp
  have go:qBf d x.ty=true->IR ((i:Int)+1)/\J [.bool b,.int .i64 ((i:Int)+1)] V:=fun hk=>⟨hr.succ hlt,hJ hl _ _ ⟨rfl,ha.succ hx hk⟩⟩
  refine⟨hp,hz,hlt,hq,_,_,hrow,fun h1=>go (by grind [qBf,qAN]),fun h1=>⟨hp,hz,hlt,hq,_,_,hrow,fun h2=>go (by grind [qBf,qAu]),fun h2=>⟨hp,hz,hlt,hq,_,_,hrow,(c125 h).call ⟨_,rfl,fun h3=>?_,fun h3=>go ?_⟩⟩⟩⟩
  ·rcases qGE d x.ty with⟨-,k⟩|⟨k,-⟩
   ·have:qBf d x.ty=false:=by grind [qBf,qAN,qAu]
    unfold qBA
    grind
   grind [absurd,qDk]
  ·rcases qGE d x.ty with⟨k,-⟩|⟨-,k⟩
   ·grind [absurd,qDk]
   grind [qBf]
 ·unfold qBA
  rw[ha.all (hr.done hge).2];simp_all
theorem c90(h:Ds.Ok V d):PP 90 [d.v] V (.bool (hasT d)):=by
 refine x90 ?_
 unfold w90 hasT
 refine(c59 h).call ⟨_,rfl,fun hv=>(c124 h h.globals).call ⟨_,rfl,fun ht=>?_,fun ht=>?_⟩,fun hv=>?_⟩
 ·rw[hv,ht,Bool.true_and,Bool.true_and]
  refine qAJ (mk:=.bool) (b0:=false) d.types.length (fun i V1=>V=V1/\AllI (fun i t=>decide (qDk d t.name=(i:Int))&&qBA d t.fields) d.types i) ⟨rfl,AllI.zero⟩ ?_
  rintro i b V1 J hi ⟨rfl,ha⟩ hJ
  refine⟨fun hlt=>?_,fun hge=>?_⟩
  ·obtain⟨x,hm,hx,hdr,hl,hp,hz,hrow⟩:=h.types.get hlt
   have hq:=qAe (n:=i*2) hp
   refine⟨hp,hz,hlt,hq,_,_,hrow,(c125 h).call ⟨_,rfl,fun h1=>⟨hp,hz,hlt,hq,_,_,hrow,(c124 h (h.typesOk x hm).fields).call ⟨_,rfl,fun h2=>⟨h.types.succ hlt,hJ hl _ _ ⟨rfl,ha.succ hx ?_⟩⟩,fun h2=>?_⟩⟩,fun h1=>?_⟩⟩
   ·grind [qDk]
   ·rw[qGM hx (by simp_all)];simp_all
   ·rw[qGM hx (by rw[Bool.and_eq_true,decide_eq_true_eq];exact fun k=>h1 k.1)];simp_all
  ·rw[ha.all (h.types.done hge).2];simp_all
 ·simp_all
 simp_all
theorem c91(h:Ds.Ok V d)(hm:Mm.Ok V m){s:ByteArray}{v:Int}:PP 91 [d.v,m.v,.string s,.int .i64 v] V (.bool (qAv d m s v)):=by
 refine x91 ?_
 unfold w91 qAv
 have hn:=hm.nodes.n_eq
 have fin:∀{a b:Bool},a=b->(Ending.returned (.bool a)=Ending.returned (.bool b)/\V=V):=fun e=>⟨by rw[e],rfl⟩
 refine⟨fun h1=>?_,fun h1=>⟨fun h2=>?_,fun h2=>?_⟩⟩
 ·grind [qAN]
 ·grind [qAN,qAu,inr]
 ·rw[if_neg (show ¬s=qAN from h1),if_neg (show ¬s=qAu from h2)]
  refine⟨fun h3=>fin (decide_eq_true (.inl h3)).symm,fun h3=>⟨fun h4=>⟨fun h5=>?_,fun h5=>fin ?_⟩,fun h4=>fin ?_⟩⟩
  ·obtain⟨i,rfl⟩:∃i:Nat,v=(i:Int)+1:=⟨(v-1).toNat,by omega⟩
   have e:((i:Int)+1-1)=(i:Int):=by omega
   have hv2:(i:Int)+1<=9223372036854775807:=by have:=(hm.nodes.succ (i:=i) (by omega)).2;omega
   rw[e]
   obtain⟨x,hxm,hx,hdr,hl,hp,hz,hrow⟩:=hm.nodes.get (i:=i) (by omega)
   have hq:=qAe (n:=i*2) hp
   refine⟨⟨by omega,by omega⟩,hp,by omega,by omega,hq,_,_,hrow,(c125 h).call ⟨_,rfl,?_,hq,hp,by omega,by omega,⟨by omega,by omega⟩,fin ?_⟩⟩
   ·exact qEI (k:=1) hrow (by decide)
   ·refine decide_eq_decide.2 ⟨fun k=>.inr ⟨h4,by omega,?_⟩,fun k=>?_⟩
    ·show Option.map (·.ty) (m.nodes[((i:Int)).toNat]?)=_
     rw[Int.toNat_natCast,hx];exact congrArg some k
    ·rcases k with k|⟨-,-,k⟩
     ·omega
     ·rw[show ((i:Int)).toNat=i from rfl,hx]at k
      exact Option.some.inj k
  ·grind
  grind
theorem qBc{t:Int}{x:Ty}{k:Nat}(hx:d.types[k]?=some x)(ht:t=(k:Int)):qAr d t=x.fields:=by
 grind [qAr]
theorem c61(h:Ds.Ok V d)(hm:Mm.Ok V m):PP 61 [d.v,m.v] V (.bool (qBr d m)):=by
 refine x61 ?_
 unfold w61
 have hn:=hm.nodes.n_eq
 have hg:=hm.globals.n_eq
 have hdg:=h.globals.n_eq
 have hdt:=h.types.n_eq
 have no:∀{V1:Mem},V=V1->¬qBr d m=true->(Ending.returned (.bool false)=Ending.returned (.bool (qBr d m))/\V1=V):=fun e k=>⟨by simp_all,e.symm⟩
 have parts:qBr d m=true↔hasT d=true/\m.nodes.length<=4096/\(∀n∈m.nodes,qDj d n=true)/\qAj d m d.globals m.globals=true/\∀n∈m.nodes,qAj d m (qAr d n.ty) n.f=true:=by
  grind [qBr]
 refine(c90 h).call ⟨_,rfl,fun ht=>⟨fun hl=>⟨fun hbig=>no rfl fun k=>?_,fun hbig=>?_⟩,fun hl=>no rfl fun k=>?_⟩,fun ht=>no rfl fun k=>ht (parts.1 k).1⟩
 ·grind
 ·let PA:Nd->Bool:=fun n=>qDj d n&&decide ((qAr d n.ty).length=n.f.length)
  refine qAJ (mk:=.bool) (b0:=false) m.nodes.length (fun i V1=>V=V1/\qAX PA m.nodes i) ⟨rfl,qAX.zero _ _⟩ ?_
  rintro i b V1 J hi ⟨rfl,ha⟩ hJ
  refine⟨fun hlt=>?_,fun hge=>?_⟩
  ·obtain⟨x,hxm,hx,hdr,hll,hp,hz,hrow⟩:=hm.nodes.get hlt
   have hq:=qAe (n:=i*2) hp
   have hnx:=(hm.nodesOk x hxm).rows.n_eq
   refine⟨hp,hz,hlt,hq,_,_,hrow,fun h1=>no rfl fun k=>?_,fun h1=>⟨fun h2=>no rfl fun k=>?_,fun h2=>?_⟩⟩
   ·have:=(parts.1 k).2.2.1 x hxm
    exact absurd (of_decide_eq_true this).1 (by omega)
   ·have:=(parts.1 k).2.2.1 x hxm
    exact absurd (of_decide_eq_true this).2 (by omega)
   ·obtain⟨t,ht'⟩:∃t:Nat,x.ty=(t:Int):=⟨x.ty.toNat,by omega⟩
    obtain⟨y,hym,hy,-,-,hyp,hyz,hyrow⟩:=h.types.get (i:=t) (by omega)
    have hfn:=(h.typesOk y hym).fields.n_eq
    have hfo:=qBc hy ht'
    have h1':(0:Int)<=x.ty:=by omega
    rw[ht']at h1 h2 ⊢
    refine⟨hp,hz,hlt,hq,_,_,hrow,hyp,by omega,by omega,qAe hyp,_,_,hyrow,fun h3=>⟨hm.nodes.succ hlt,hJ hll _ _ ⟨rfl,ha.succ hx ?_⟩⟩,fun h3=>no rfl fun k=>?_⟩
    ·grind [qDj,qAr]
    grind [qAj]
  have hA:=ha.all (hm.nodes.done hge).2
  rw[List.all_eq_true]at hA
  clear hJ ha hge hi
  refine qAJ (mk:=.bool) (b0:=b) m.globals.length (fun i V1=>V=V1/\AllI (fun i v=>qAv d m (tyAt d.globals i) v) m.globals i) ⟨rfl,AllI.zero⟩ ?_
  rintro i b1 V1 J hi ⟨rfl,ha⟩ hJ
  refine⟨fun hlt=>?_,fun hge=>?_⟩
  ·obtain⟨x,hxm,hx,hdr,hll,hp,hz,hrow⟩:=hm.globals.get hlt
   obtain⟨f,hfm,hf,-,-,hfp,hfz,hfrow⟩:=h.globals.get (i:=i) (by omega)
   have hty:tyAt d.globals i=f.ty:=by grind [tyAt]
   refine⟨hfp,hfz,by omega,qAe hfp,_,_,hfrow,hp,hz,hlt,_,hrow,(c91 h hm).call ⟨_,rfl,fun h1=>⟨hm.globals.succ hlt,hJ hll _ _ ⟨rfl,ha.succ hx (by grind)⟩⟩,fun h1=>no rfl fun k=>?_⟩⟩
   have:=(parts.1 k).2.2.2.1
   unfold qAj at this
   rw[Bool.and_eq_true]at this
   grind [qDm]
  have hG:=ha.all (hm.globals.done hge).2
  clear hJ ha hge hi
  refine qAJ (mk:=.bool) (b0:=b1) m.nodes.length (fun i V1=>V=V1/\qAX (fun n=>qAj d m (qAr d n.ty) n.f) m.nodes i) ⟨rfl,qAX.zero _ _⟩ ?_
  rintro i b2 V1 J hi ⟨rfl,ha⟩ hJ
  refine⟨fun hlt=>?_,fun hge=>?_⟩
  ·obtain⟨x,hxm,hx,hdr,hll,hp,hz,hrow⟩:=hm.nodes.get hlt
   have hq:=qAe (n:=i*2) hp
   have hxo:=hm.nodesOk x hxm
   have hPx:=hA x hxm
   rw[Bool.and_eq_true,decide_eq_true_eq]at hPx
   obtain⟨hP1,hP2⟩:=hPx
   have hP1:=of_decide_eq_true hP1
   obtain⟨t,ht'⟩:∃t:Nat,x.ty=(t:Int):=⟨x.ty.toNat,by omega⟩
   obtain⟨y,hym,hy,-,-,hyp,hyz,hyrow⟩:=h.types.get (i:=t) (by omega)
   have hyo:=(h.typesOk y hym).fields
   have hfo:=qBc hy ht'
   refine⟨hp,hz,hlt,hq,_,_,hrow,hyp,by rw[ht'];omega,by rw[ht'];omega,qAe hyp,_,_,by rw[ht'];exact hyrow,?_⟩
   rw[hfo]at hP2
   have hxn:=hxo.rows.n_eq
   have hyn:=hyo.n_eq
   refine qAJ (mk:=.bool) (b0:=b2) y.fields.length (fun j V1=>V=V1/\AllI (fun i v=>qAv d m (tyAt y.fields i) v) x.f j) ⟨rfl,AllI.zero⟩ ?_
   rintro j b3 V1 J1 hj ⟨rfl,ha1⟩ hJ1
   refine⟨fun hlt1=>?_,fun hge1=>⟨hm.nodes.succ hlt,hJ hll _ _ ⟨rfl,ha.succ hx ?_⟩⟩⟩
   ·obtain⟨f,hfm,hf,-,hfl,hfp,hfz,hfrow⟩:=hyo.get hlt1
    obtain⟨z,hzm,hzx,-,-,hzp,hzz,hzrow⟩:=hxo.rows.get (i:=j) (by omega)
    have hty:tyAt y.fields j=f.ty:=by grind [tyAt]
    refine⟨hfp,hfz,hlt1,qAe hfp,_,_,hfrow,hp,hz,hlt,hq,_,_,hrow,hzp,hzz,by omega,_,hzrow,(c91 h hm).call ⟨_,rfl,fun h1=>⟨hyo.succ hlt1,hJ1 hfl _ _ ⟨rfl,ha1.succ hzx (by grind)⟩⟩,fun h1=>no rfl fun k=>?_⟩⟩
    have:=(parts.1 k).2.2.2.2 x hxm
    unfold qAj at this
    rw[Bool.and_eq_true,hfo]at this
    grind [qDm]
   ·have:=(hyo.done hge1).2
    unfold qAj
    rw[hfo,ha1.all (by omega),decide_eq_true hP2];rfl
  ·have hN:=ha.all (hm.nodes.done hge).2
   rw[List.all_eq_true]at hN
   have:qBr d m=true:=parts.2 ⟨ht,by omega,fun n hn'=>(Bool.and_eq_true _ _ ▸ hA n hn').1,by grind [qAj],hN⟩
   simp_all
 grind [qAj]
end
end Go.Proofs
namespace Go.Proofs
open Go Go.Sx
inductive Rs where
 | ok (v:Int)
 | bad (e:Int)
deriving DecidableEq
def Rs.bind:Rs->(Int->Rs)->Rs
 | .ok v,f=>f v
 | .bad e,_=>.bad e
def big(n:Int):Rs:=if -1099511627776<=n/\n<=1099511627776 then .ok n else .bad 5
def trI(b:Bool):Int:=if b then 1 else 0
def qCw(op a b:Int):Rs :=
 if op=9 then big (a+b) else if op=10 then big (a-b) else if op=11 then big (a*b)
 else if op=22 then .ok (if a<b then b else a) else if op=23 then .ok (if b<a then b else a)
 else if op=14 then .ok (trI (decide (a=b))) else if op=15 then .ok (trI (!decide (a=b))) else if op=16 then .ok (trI (decide (a<b))) else if op=17 then .ok (trI (decide (a<=b)))
 else if b=0 then .bad 18 else if op=12 then .ok (a.tdiv b) else .ok (a.tmod b)
def qFe(l:List Fld)(s:ByteArray):Int:=qHC (fun f=>decide (f.name=s)) l
def mIdx(d:Ds)(s:ByteArray):Int:=qHC (fun x=>decide (x.name=s)) d.measures
def varV(d:Ds)(m:Mm)(x:Int)(s:ByteArray):Int:=if s=sThisF then x else (m.globals[(qFe d.globals s).toNat]?).getD 0
def fldV(d:Ds)(m:Mm)(a:Int)(s:ByteArray):Rs :=
 if a=0 then .bad 17 else match m.nodes[(a-1).toNat]? with
  | none=>.bad 0
  | some n=>.ok ((n.f[(qFe (qAr d n.ty) s).toNat]?).getD 0)
def qIU(a:Int):Int:=(Nat.log2 a.toNat:Int)
def kidR(rs:List Rs)(i:Nat):Rs:=rs.getD i (.bad 0)
section
variable(d:Ds)(m:Mm)
def comb(F:Int->Int->Rs)(x op n:Int)(s:ByteArray)(rs:List Rs):Rs :=
 if op=1∨op=2 then .ok n else if op=3 then .ok 0 else if op=4 then .ok (varV d m x s)
 else if op=5 then (kidR rs 0).bind fun a=>fldV d m a s
 else if op=7 then (kidR rs 0).bind fun a=>F (mIdx d s) a
 else if op=8 then (kidR rs 0).bind fun a=>big (-a)
 else if op=18 then (kidR rs 0).bind fun a=>.ok (1-a)
 else if op=24 then (kidR rs 0).bind fun a=>.ok (qIU a)
 else if op=19 then (kidR rs 0).bind fun a=>if a=0 then .ok 0 else kidR rs 1
 else if op=20 then (kidR rs 0).bind fun a=>if a=0 then kidR rs 1 else .ok 1
 else if op=21 then (kidR rs 0).bind fun a=>if a=0 then kidR rs 2 else kidR rs 1
 else (kidR rs 0).bind fun a=>(kidR rs 1).bind fun b=>qCw op a b
mutual
def evE(F:Int->Int->Rs)(x:Int):E->Rs
 | .mk op n s _ k=>comb d m F x op n s (evEs F x k)
def evEs(F:Int->Int->Rs)(x:Int):List E->List Rs
 | []=>[]
 | e::es=>evE F x e::evEs F x es
end
end
variable{d:Ds}{m:Mm}
end Go.Proofs
namespace Go.Proofs
open Go Go.Sx
structure qAs (d:Ds) (m:Mm):Prop where
 valid:qAK d=true
 chk:qHg d=none
 mem:qBr d m=true
def VE(e:E):Prop:=∃k,okE k e=true
theorem VE.of_valid{e:E}(h:qAI e=true):VE e:=⟨1,(of_decide_eq_true h).1⟩
theorem okE_eq(k:Int)(e:E):okE k e=(decide (k<=60)&&qDa e.op e.n e.s e.k.length&&okEs (k+1) e.k):=by cases e;unfold okE;rfl
theorem okEs_all{k:Int}:∀{l:List E},okEs k l=true->∀x∈l,okE k x=true
 | [],_,x,hx=>by cases hx
 | e::l,h,x,hx=>by
  unfold okEs at h
  rw[Bool.and_eq_true]at h
  rcases List.mem_cons.1 hx with rfl|hx
  ·exact h.1
  ·exact okEs_all h.2 x hx
theorem VE.node{e:E}(h:VE e):qDa e.op e.n e.s e.k.length=true:=by
 obtain⟨k,h⟩:=h
 simp_all [okE_eq,Bool.and_eq_true]
theorem VE.kids{e:E}(h:VE e):∀x∈e.k,VE x:=by
 obtain⟨k,h⟩:=h
 rw[okE_eq,Bool.and_eq_true]at h
 exact fun x hx=>⟨_,okEs_all h.2 x hx⟩
theorem qEL(d:Ds)(sc:Sc):∀(k:List E) (acc:List ByteArray),(partsT d sc acc k).2=0->(∀x∈k,(qAn d sc x).2=0)/\(partsT d sc acc k).1=acc++k.map fun x=>(qAn d sc x).1
 | [],acc,_=>by rw[qCJ];simp
 | x::xs,acc,h=>by
  rw[qBV]at h ⊢
  split at h
  ·omega
  ·rename_i h'
   rw[if_neg h']
   obtain⟨h1,h2⟩:=qEL d sc xs _ h
   simp_all
theorem qFk{d:Ds}{sc:Sc}{e:E}{t:ByteArray}(h:qAn d sc e=(t,0)):(∀x∈e.k,(qAn d sc x).2=0)/\qFp d sc e.op e.s (e.k.map fun x=>(qAn d sc x).1)=(t,0):=by
 grind [qHH,Prod.mk.injEq,absurd,partsT,qEL]
theorem arityB{op n:Int}{s:ByteArray}{l:Int}(h:qDa op n s l=true):qAM op≠-2/\(0<=qAM op->l=qAM op)/\nmB op s=true/\numB op n=true:=by
 grind [qDa]
theorem list1{α:Type}{k:List α}(h:(k.length:Int)=1):∃a,k=[a]:=by
 match k,h with
 | [a],_=>grind
 | [],h=>simp at h
 | _::_::_,h=>simp at h;omega
theorem list2{α:Type}{k:List α}(h:(k.length:Int)=2):∃a b,k=[a,b]:=by
 match k,h with
 | [a,b],_=>simp_all
 | [],h=>simp at h
 | [_],h=>simp at h
 | _::_::_::_,h=>simp at h;omega
theorem list3{α:Type}{k:List α}(h:(k.length:Int)=3):∃a b c,k=[a,b,c]:=by
 match k,h with
 | [a,b,c],_=>simp_all
 | [],h=>simp at h
 | [_],h=>simp at h
 | [_,_],h=>simp at h
 | _::_::_::_::_,h=>simp at h;omega
theorem name_kw{s:ByteArray}(h:qAQ s=true):isKw s=false:=by
 grind [qAQ]
theorem qDP{s t:ByteArray}(h:qAQ s=true)(ht:isKw t=true):s≠t:=fun e=>by grind [name_kw]
theorem kwNil:isKw qJP=true:=by kernel_rfl
theorem kwInt:isKw qAN=true:=by kernel_rfl
theorem kwBool:isKw qAu=true:=by kernel_rfl
section
variable{d:Ds}{m:Mm}
theorem validD_types(h:qAK d=true):(∀t∈d.types,qAQ t.name=true)/\(∀f∈d.globals,qAQ f.name=true)/\(∀x∈d.measures,msB x=true)/\(∀x∈d.invs,ivB x=true):=by
 grind [qAK,qIV,tyB,qDb,fldB]
theorem qEu(h:qAK d=true){s:ByteArray}(hs:qAW d s=true):qAQ s=true:=by
 obtain⟨t,ht,e⟩:=List.any_eq_true.1 hs
 rw[<- of_decide_eq_true e]
 exact(validD_types h).1 t ht
def qBE(d:Ds)(m:Mm)(t:ByteArray)(v:Int):Prop:=if t=qJP then v=0 else qAv d m t v=true
theorem qHX:qJP≠qAN/\qJP≠qAu/\qAN≠qJP/\qAu≠qJP/\qAN≠qAu/\qAu≠qAN:=by
 refine⟨of_decide_eq_false ?_,of_decide_eq_false ?_,of_decide_eq_false ?_,of_decide_eq_false ?_,of_decide_eq_false ?_,of_decide_eq_false ?_⟩ <;> kernel_rfl
theorem qBa{v:Int}:qBE d m qAN v↔-1099511627776<=v/\v<=1099511627776:=by
 unfold qBE qAv
 rw[if_neg qHX.2.2.1,if_pos rfl,decide_eq_true_eq]
theorem qAZ{v:Int}:qBE d m qAu v↔v=0∨v=1:=by
 unfold qBE qAv
 rw[if_neg qHX.2.2.2.1,if_neg qHX.2.2.2.2.2,if_pos rfl,decide_eq_true_eq]
theorem qBk(h:qAK d=true){t:ByteArray}(ht:qBf d t=true){v:Int}:qBE d m t v↔qAv d m t v=true:=by
 unfold qBE
 rw[if_neg]
 intro e
 subst e
 unfold qBf at ht
 rw[decide_eq_false qHX.1,decide_eq_false qHX.2.1]at ht
 exact qDP (qEu h (by simpa using ht)) kwNil rfl
theorem qJl{t:ByteArray}(h:qAQ t=true):qAv d m t 0=true:=by
 unfold qAv
 rw[if_neg (qDP h kwInt),if_neg (qDP h kwBool)]
 exact decide_eq_true (.inl rfl)
theorem qBX(h:qAK d=true){a b:ByteArray}(hf:qDu d a b=true){v:Int}(hv:qBE d m a v):qBE d m b v:=by
 unfold qDu at hf
 simp only[Bool.or_eq_true,Bool.and_eq_true,decide_eq_true_eq]at hf
 rcases hf with rfl|⟨rfl,hb⟩
 ·exact hv
 ·have hn:=qEu h hb
  unfold qBE at hv ⊢
  rw[if_pos rfl]at hv
  rw[if_neg (qDP hn kwNil),hv]
  exact qJl hn
theorem qDB:∀(l:List Fld) (s:ByteArray),qBI l s=((l.find? fun f=>decide (f.name=s)).map (·.ty)).getD sE
 | [],_=>rfl
 | f::l,s=>by
  unfold qBI
  rw[List.find?_cons]
  by_cases h:f.name=s
  ·simp_all
  ·rw[if_neg h,decide_eq_false h,qDB l s]
theorem qEv(l:List Fld)(s:ByteArray):(qBI l s=sE/\qFe l s=-1)∨∃(i:Nat) (f:Fld),qFe l s=i/\l[i]?=some f/\qBI l s=f.ty/\f.name=s:=by
 rw[qDB]
 unfold qFe
 rcases qAP (fun f:Fld=>decide (f.name=s)) l with⟨h1,h2,-⟩|⟨i,x,h1,h2,h3,-,h5,-⟩
 ·grind
 grind
theorem qBx(h:hasT d=true):qBA d d.globals=true/\(∀(i:Nat) (x:Ty),d.types[i]?=some x->qDk d x.name=(i:Int))/\∀x∈d.types,qBA d x.fields=true:=by
 unfold hasT at h
 rw[Bool.and_eq_true,Bool.and_eq_true,qDm]at h
 obtain⟨⟨-,h1⟩,h2⟩:=h
 refine⟨h1,fun i x hx=>?_,fun x hx=>?_⟩
 ·grind
 ·obtain⟨i,hi,rfl⟩:=List.mem_iff_getElem.1 hx
  have:=h2 i _ (List.getElem?_eq_getElem hi)
  simp_all
theorem qAx(h:qBr d m=true):hasT d=true/\m.nodes.length<=4096/\(∀n∈m.nodes,qDj d n=true)/\qAj d m d.globals m.globals=true/\∀n∈m.nodes,qAj d m (qAr d n.ty) n.f=true:=by
 grind [qBr]
theorem qHM{l:List Fld}{vs:List Int}(h:qAj d m l vs=true){i:Nat}{f:Fld}(hi:l[i]?=some f):∃v,vs[i]?=some v/\qAv d m f.ty v=true:=by
 unfold qAj at h
 rw[Bool.and_eq_true,decide_eq_true_eq,qDm]at h
 have hl:=(List.getElem?_eq_some_iff.1 hi).1
 have hv:vs[i]?=some (vs[i]'(by omega)):=List.getElem?_eq_getElem _
 grind [tyAt]
theorem right_node{t:ByteArray}(hn:qAQ t=true){a:Int}(h:qAv d m t a=true)(h0:a≠0):1<=a/\a<=(m.nodes.length:Int)/\∃n,m.nodes[(a-1).toNat]?=some n/\n∈m.nodes/\n.ty=qDk d t:=by
 unfold qAv at h
 rw[if_neg (qDP hn kwInt),if_neg (qDP hn kwBool),decide_eq_true_eq]at h
 rcases h with h|⟨h1,h2,h3⟩
 ·omega
 ·refine⟨h1,h2,?_⟩
  cases hx:m.nodes[(a-1).toNat]? with
  | none=>simp_all
  | some n=>rw[hx]at h3;exact⟨n,rfl,List.mem_of_getElem? hx,by simpa using h3⟩
theorem tyOf_idx{s:ByteArray}{t:Ty}(h:qIN d s=some t):∃i:Nat,qDk d s=(i:Int)/\d.types[i]?=some t/\t.name=s/\qAW d s=true:=by
 unfold qIN at h
 unfold qDk qAW
 rcases qAP (fun t:Ty=>decide (t.name=s)) d.types with⟨-,h2,-⟩|⟨i,x,h1,h2,h3,-,h5,-,h7,-⟩
 ·simp_all
 grind
theorem fld_ok(G:qAs d m){t s ty:ByteArray}(ht:qBS d t s=(ty,0)){a:Int}(ha:qBE d m t a)(h0:a≠0) :
  ∃(n:Nd) (i j:Nat) (tt:Ty) (f:Fld) (v:Int),m.nodes[(a-1).toNat]?=some n/\n∈m.nodes/\1<=a/\a<=(m.nodes.length:Int)/\n.ty=(j:Int)/\d.types[j]?=some tt/\tt∈d.types/\qFe tt.fields s=i/\tt.fields[i]?=some f/\n.f[i]?=some v/\qBE d m ty v/\fldV d m a s=.ok v/\f.ty=ty:=by
 unfold qBS at ht
 cases hty:qIN d t with
 | none=>simp_all
 | some tt =>
  rw[hty]at ht
  simp only at ht
  split at ht
  ·simp at ht
  ·rename_i hl
   simp only[Prod.mk.injEq,and_true]at ht
   obtain⟨j,hj,hj2,rfl,hnode⟩:=tyOf_idx hty
   have hname:=qEu G.valid hnode
   have ha':qAv d m tt.name a=true:=by
    grind [qBE]
   obtain⟨b1,b2,n,b3,b4,b5⟩:=right_node hname ha' h0
   rcases qEv tt.fields s with⟨c1,-⟩|⟨i,f,c1,c2,c3,c4⟩
   ·grind
   ·have hfo:qAr d n.ty=tt.fields:=qBc hj2 (b5.trans hj)
    obtain⟨p1,-,-,-,p5⟩:=qAx G.mem
    have hv:=p5 n b4
    rw[hfo]at hv
    obtain⟨v,hv1,hv2⟩:=qHM hv c2
    have hmem:=List.mem_of_getElem? hj2
    have hkn:qBf d f.ty=true:=List.all_eq_true.1 ((qBx p1).2.2 tt hmem) f (List.mem_of_getElem? c2)
    refine⟨n,i,j,tt,f,v,b3,b4,b1,b2,b5.trans hj,hj2,hmem,c1,c2,hv1,?_,?_,c3.symm.trans ht⟩
    ·rw[<- ht,c3];exact(qBk G.valid hkn).2 hv2
    simp_all [fldV,if_neg,Int.toNat_natCast]
theorem qER{α β:Type}{f:Nat->α->Option β}:∀{l:List α} {i:Nat},qAh f i l=none->∀j x,l[j]?=some x->f (i+j) x=none
 | [],_,_,j,x,hx=>by simp at hx
 | y::l,i,h,j,x,hx=>by
  unfold qAh at h
  cases hy:f i y with
  | some b=>simp_all
  | none =>
   rw[hy]at h
   cases j with
   | zero=>simp_all
   | succ j=>rw[show i+(j+1)=i+1+j by omega];exact qER h j x (by simpa using hx)
theorem qKc{α:Type}{a b:Option α}(h:a.or b=none):a=none/\b=none:=by
 simp_all
end
end Go.Proofs
namespace Go.Proofs
open Go Go.Sx
section
variable{d:Ds}{m:Mm}
theorem big_ok{n v:Int}(h:big n=.ok v):v=n/\-1099511627776<=v/\v<=1099511627776:=by
 unfold big at h
 grind
theorem trI_b(b:Bool):trI b=0∨trI b=1:=by cases b <;> simp[trI]
theorem qBO{ok:Bool}{t t':ByteArray}(h:qDp ok t=(t',0)):ok=true/\t=t':=by
 grind [qDp]
theorem tdiv_in{a b:Int}(ha:-1099511627776<=a/\a<=1099511627776):-1099511627776<=a.tdiv b/\a.tdiv b<=1099511627776:=by
 have:=Int.natAbs_tdiv_le_natAbs a b
 omega
theorem tmod_in{a b:Int}(ha:-1099511627776<=a/\a<=1099511627776):-1099511627776<=a.tmod b/\a.tmod b<=1099511627776:=by
 have h1:=Int.natAbs_tmod a b
 have:=Nat.mod_le a.natAbs b.natAbs
 omega
theorem log_in{a:Int}(ha:a<=1099511627776):0<=qIU a/\qIU a<=1099511627776:=by
 grind [qIU,Nat.log2,Nat.log2_le_self]
inductive Kind (d:Ds) (sc:Sc) (e:E):ByteArray->Prop where
 | int (h:e.op=1) (hn:0<=e.n/\e.n<=1099511627776):Kind d sc e qAN
 | bool (h:e.op=2) (hn:e.n=0∨e.n=1):Kind d sc e qAu
 | nil (h:e.op=3) (hn:e.n=0):Kind d sc e qJP
 | var {t} (h:e.op=4) (hl:qBI sc.vars e.s=t) (hne:t≠sE):Kind d sc e t
 | fld {t u} {a:E} (h:e.op=5) (hk:e.k=[a]) (ha:qAn d sc a=(u,0)) (ht:qBS d u e.s=(t,0)):Kind d sc e t
 | call {u} {a:E} {ms:Ms} {i:Nat} (h:e.op=7) (hk:e.k=[a]) (ha:qAn d sc a=(u,0)) (hi:mIdx d e.s=i) (hms:d.measures[i]?=some ms) (hf:qDu d u ms.ty=true):Kind d sc e qAN
 | neg {a:E} (h:e.op=8) (hk:e.k=[a]) (ha:qAn d sc a=(qAN,0)):Kind d sc e qAN
 | not {a:E} (h:e.op=18) (hk:e.k=[a]) (ha:qAn d sc a=(qAu,0)):Kind d sc e qAu
 | log {a:E} (h:e.op=24) (hk:e.k=[a]) (ha:qAn d sc a=(qAN,0)):Kind d sc e qAN
 | and {a b:E} (h:e.op=19) (hk:e.k=[a,b]) (ha:qAn d sc a=(qAu,0)) (hb:qAn d sc b=(qAu,0)):Kind d sc e qAu
 | or {a b:E} (h:e.op=20) (hk:e.k=[a,b]) (ha:qAn d sc a=(qAu,0)) (hb:qAn d sc b=(qAu,0)):Kind d sc e qAu
 | cond {a b c:E} {t u w} (h:e.op=21) (hk:e.k=[a,b,c]) (ha:qAn d sc a=(qAu,0)) (hb:qAn d sc b=(u,0)) (hc:qAn d sc c=(w,0)) (hu:u=t∨qDu d u t=true) (hw:w=t∨qDu d w t=true):Kind d sc e t
 | eq {a b:E} {u w} (h:e.op=14∨e.op=15) (hk:e.k=[a,b]) (ha:qAn d sc a=(u,0)) (hb:qAn d sc b=(w,0)):Kind d sc e qAu
 | cmp {a b:E} (h:e.op=16∨e.op=17) (hk:e.k=[a,b]) (ha:qAn d sc a=(qAN,0)) (hb:qAn d sc b=(qAN,0)):Kind d sc e qAu
 | ari {a b:E} (h:e.op=9∨e.op=10∨e.op=11∨e.op=12∨e.op=13∨e.op=22∨e.op=23) (hk:e.k=[a,b]) (ha:qAn d sc a=(qAN,0)) (hb:qAn d sc b=(qAN,0)):Kind d sc e qAN
theorem allT1{t u:ByteArray}(h:allT [t] u=true):t=u:=by simpa [allT]using h
theorem allT2{t t' u:ByteArray}(h:allT [t,t'] u=true):t=u/\t'=u:=by simpa [allT]using h
theorem qBv{p:ByteArray×Int}{t:ByteArray}(h1:p.1=t)(h2:p.2=0):p=(t,0):=Prod.ext h1 h2
theorem kind{sc:Sc}(hsc:sc.body=false){e:E}{t:ByteArray}(hv:VE e)(ht:qAn d sc e=(t,0)):Kind d sc e t:=by
 obtain⟨hk,hn⟩:=qFk ht
 obtain⟨a1,a2,a3,a4⟩:=arityB hv.node
 unfold qFp at hn
 unfold numB at a4
 have one:qAM e.op=1->∃a,e.k=[a]:=fun h=>list1 ((a2 (by omega)).trans h)
 have two:qAM e.op=2->∃a b,e.k=[a,b]:=fun h=>list2 ((a2 (by omega)).trans h)
 have three:qAM e.op=3->∃a b c,e.k=[a,b,c]:=fun h=>list3 ((a2 (by omega)).trans h)
 by_cases h1:e.op=1
 ·rw[if_pos h1]at hn a4
  cases hn;exact .int h1 (of_decide_eq_true a4)
 rw[if_neg h1]at hn a4
 by_cases h2:e.op=2
 ·rw[if_pos h2]at hn a4
  cases hn;exact .bool h2 (of_decide_eq_true a4)
 rw[if_neg h2]at hn a4
 have a4:e.n=0:=of_decide_eq_true a4
 by_cases h3:e.op=3
 ·rw[if_pos h3]at hn
  cases hn;exact .nil h3 a4
 rw[if_neg h3]at hn
 by_cases h4:e.op=4
 ·rw[if_pos h4]at hn
  split at hn
  ·simp at hn
  ·rename_i hne
   simp only[Prod.mk.injEq,and_true]at hn
   exact .var h4 hn (hn ▸ hne)
 rw[if_neg h4]at hn
 by_cases h5:e.op=5
 ·obtain⟨a,ha⟩:=one (by rw[h5];rfl)
  rw[if_pos h5,ha]at hn
  rw[ha]at hk
  exact .fld h5 ha (qBv rfl (hk a (by simp))) hn
 rw[if_neg h5]at hn
 by_cases h6:e.op=6
 ·simp_all
 rw[if_neg h6]at hn
 by_cases h7:e.op=7
 ·rw[if_pos h7]at hn
  unfold qHq at hn
  rw[if_neg (by rw[hsc];decide)]at hn
  unfold qIT meOf at hn
  unfold mIdx at *
  rcases qAP (fun x:Ms=>decide (x.name=e.s)) d.measures with⟨-,q2,-⟩|⟨i,ms,q1,q2,q3,-⟩
  ·simp_all
  ·rw[q3]at hn
   simp only at hn
   split at hn
   ·simp at hn
   ·rename_i hl
    obtain⟨a,ha⟩:∃a,e.k=[a]:=list1 (by grind)
    rw[ha]at hn hk
    obtain⟨b1,rfl⟩:=qBO hn
    exact .call h7 ha (qBv rfl (hk a (by simp))) q1 q2 (by simpa using b1)
 rw[if_neg h7]at hn
 by_cases h14:e.op=14∨e.op=15
 ·obtain⟨a,b,hab⟩:=two (by rcases h14 with h|h <;> (rw[h];rfl))
  rw[if_pos h14]at hn
  rw[hab]at hk
  obtain⟨-,rfl⟩:=qBO hn
  exact .eq h14 hab (qBv rfl (hk a (by simp))) (qBv rfl (hk b (by simp)))
 rw[if_neg h14]at hn
 by_cases h16:e.op=16∨e.op=17
 ·obtain⟨a,b,hab⟩:=two (by rcases h16 with h|h <;> (rw[h];rfl))
  rw[if_pos h16,hab]at hn
  rw[hab]at hk
  obtain⟨g,rfl⟩:=qBO hn
  obtain⟨g1,g2⟩:=allT2 g
  exact .cmp h16 hab (qBv g1 (hk a (by simp))) (qBv g2 (hk b (by simp)))
 rw[if_neg h16]at hn
 by_cases h18:e.op=18∨e.op=19∨e.op=20
 ·rw[if_pos h18]at hn
  rcases h18 with h|h
  ·obtain⟨a,ha⟩:=one (by rw[h];rfl)
   rw[ha]at hn hk
   obtain⟨g,rfl⟩:=qBO hn
   exact .not h ha (qBv (allT1 g) (hk a (by simp)))
  ·obtain⟨a,b,hab⟩:=two (by rcases h with h|h <;> (rw[h];rfl))
   rw[hab]at hn hk
   obtain⟨g,rfl⟩:=qBO hn
   obtain⟨g1,g2⟩:=allT2 g
   rcases h with h|h
   ·exact .and h hab (qBv g1 (hk a (by simp))) (qBv g2 (hk b (by simp)))
   ·exact .or h hab (qBv g1 (hk a (by simp))) (qBv g2 (hk b (by simp)))
 rw[if_neg h18]at hn
 by_cases h21:e.op=21
 ·obtain⟨a,b,c,habc⟩:=three (by rw[h21];rfl)
  rw[if_pos h21,habc]at hn
  rw[habc]at hk
  obtain⟨g,g2⟩:=qBO hn
  simp only[List.map_cons,List.map_nil,List.getD_cons_zero,List.getD_cons_succ,Bool.and_eq_true,decide_eq_true_eq,Bool.or_eq_true]at g g2
  refine .cond h21 habc (qBv g.1 (hk a (by simp))) (qBv rfl (hk b (by simp))) (qBv rfl (hk c (by simp))) ?_ ?_
  ·grind [inr,qDu]
  grind [qDu,absurd,inr]
 rw[if_neg h21]at hn
 obtain⟨g,rfl⟩:=qBO hn
 have hop:e.op=8∨e.op=24∨(e.op=9∨e.op=10∨e.op=11∨e.op=12∨e.op=13∨e.op=22∨e.op=23):=by
  grind [qAM]
 rcases hop with h|h|h
 ·obtain⟨a,ha⟩:=one (by rw[h];rfl)
  rw[ha]at g hk
  exact .neg h ha (qBv (allT1 g) (hk a (by simp)))
 ·obtain⟨a,ha⟩:=one (by rw[h];rfl)
  rw[ha]at g hk
  exact .log h ha (qBv (allT1 g) (hk a (by simp)))
 ·obtain⟨a,b,hab⟩:=two (by rcases h with h|h|h|h|h|h|h <;> (rw[h];rfl))
  rw[hab]at g hk
  obtain⟨g1,g2⟩:=allT2 g
  exact .ari h hab (qBv g1 (hk a (by simp))) (qBv g2 (hk b (by simp)))
theorem two_ok{op a b v:Int}(h:op=9∨op=10∨op=11∨op=12∨op=13∨op=22∨op=23)(ha:-1099511627776<=a/\a<=1099511627776)(hb:-1099511627776<=b/\b<=1099511627776)(hv:qCw op a b=.ok v):-1099511627776<=v/\v<=1099511627776:=by
 unfold qCw at hv
 split at hv
 ·exact(big_ok hv).2
 split at hv
 ·exact(big_ok hv).2
 split at hv
 ·exact(big_ok hv).2
 split at hv
 ·grind
 split at hv
 ·grind
 repeat' (split at hv;(first|omega|cases hv))
 ·exact tdiv_in ha
 ·cases hv;exact tmod_in ha
theorem twoB_ok{op a b v:Int}(h:op=14∨op=15∨op=16∨op=17)(hv:qCw op a b=.ok v):v=0∨v=1:=by
 rcases h with rfl|rfl|rfl|rfl
 ·have:trI (decide (a=b))=v:=by injection hv
  grind [trI_b]
 ·have:trI (!decide (a=b))=v:=by injection hv
  grind [trI_b]
 ·have:trI (decide (a<b))=v:=by injection hv
  grind [trI_b]
 ·have:trI (decide (a<=b))=v:=by injection hv
  grind [trI_b]
end
end Go.Proofs
namespace Go.Proofs
open Go Go.Sx
structure St where
 g:List Int
 ns:List (Int×List Int)
 tk:Nat
 cm:Nat
 lg:List (Int×Int×Int)
inductive Rx (α:Type) where
 | ok (v:α) (s:St)
 | bad (c:Int) (s:St)
def Rx.bind{α β:Type}:Rx α->(α->St->Rx β)->Rx β
 | .ok v s,f=>f v s
 | .bad c s,_=>.bad c s
def qAt:Sl:=⟨none,0,0⟩
def St.mm(s:St):Mm:=⟨qAt,s.g,qAt,s.ns.map fun n=>⟨n.1,qAt,n.2⟩⟩
def St.note(s:St)(a:Int×Int×Int):St:={ s with lg:=s.lg++[a] }
def noE:E:=.mk 0 0 sE qAt []
def qDJ(d:Ds)(s:ByteArray):Int:=qHC (fun t=>decide (t.name=s)) d.procs
def qDS:Rs->St->Rx Int
 | .ok v,s=>.ok v s
 | .bad c,s=>.bad c s
def qIO:List (St->Rx Int)->List Int->St->Rx (List Int)
 | [],acc,st=>.ok acc st
 | f::fs,acc,st=>(f st).bind fun v st=>qIO fs (acc++[v]) st
def qEi(ks:List (St->Rx Int))(i:Nat):St->Rx Int:=ks.getD i fun st=>.bad 0 st
def _root_.Go.Sx.Pr.vars(p:Pr):List Fld:=p.params++p.locals
def qKF(b:Bool)(op:Int)(st:St):St:=if op=16∨op=17∨((op=14∨op=15)/\b=true) then { st with cm:=st.cm+1 } else st
abbrev Cf:=Int->List Int->St->Rx Int
abbrev Rt:=List Int×Option Int
abbrev Sf:=Nat->Pr->List S->List Int->St->Rx Rt
def qHk(F:Nat)(st:St):Rx Unit:=if F<=st.tk then .bad 20 st else .ok () { st with tk:=st.tk+1 }
section
variable(d:Ds)
def varX(p:Pr)(vals:List Int)(s:ByteArray)(st:St):Rx Int :=
 if 0<=qFe p.vars s then .ok ((vals[(qFe p.vars s).toNat]?).getD 0) st else .ok ((st.g[(qFe d.globals s).toNat]?).getD 0) (st.note (1,0,qFe d.globals s))
def fldX(a:Int)(s:ByteArray)(st:St):Rx Int :=
 if a=0 then .bad 17 st else match st.ns[(a-1).toNat]? with
  | none=>.bad 0 st
  | some n=>.ok ((n.2[(qFe (qAr d n.1) s).toNat]?).getD 0) (st.note (1,a,qFe (qAr d n.1) s))
def newX(s:ByteArray)(st:St):Rx Int :=
 if 4096<=st.ns.length then .bad 21 st else .ok ((st.ns.length:Int)+1) { st with ns:=st.ns++[(qDk d s,List.replicate (qAr d (qDk d s)).length 0)],lg:=st.lg++[(3,(st.ns.length:Int)+1,qDk d s)] }
def intB(sc:Sc):List E->Bool
 | []=>false
 | a::_=>decide ((qAn d sc a).1=qAN)
def qCY(C:Cf)(p:Pr)(vals:List Int)(b:Bool)(op n:Int)(s:ByteArray)(ks:List (St->Rx Int))(st:St):Rx Int :=
 if op=1∨op=2 then .ok n st else if op=3 then .ok 0 st else if op=4 then varX d p vals s st
 else if op=5 then (qEi ks 0 st).bind fun a st=>fldX d a s st
 else if op=6 then newX d s st
 else if op=7 then (qIO ks [] st).bind fun l st=>C (qDJ d s) l st
 else if op=8 then (qEi ks 0 st).bind fun a st=>qDS (big (-a)) st
 else if op=18 then (qEi ks 0 st).bind fun a st=>.ok (1-a) st
 else if op=24 then (qEi ks 0 st).bind fun a st=>.ok (qIU a) st
 else if op=19 then (qEi ks 0 st).bind fun a st=>if a=0 then .ok 0 st else qEi ks 1 st
 else if op=20 then (qEi ks 0 st).bind fun a st=>if a=0 then qEi ks 1 st else .ok 1 st
 else if op=21 then (qEi ks 0 st).bind fun a st=>if a=0 then qEi ks 2 st else qEi ks 1 st
 else (qEi ks 0 st).bind fun v st=>(qEi ks 1 st).bind fun w st=>qDS (qCw op v w) (qKF b op st)
mutual
def evX(C:Cf)(p:Pr)(vals:List Int):E->St->Rx Int
 | .mk op n s _ k=>qCY d C p vals (intB d (qAf d p) k) op n s (evXs C p vals k)
def evXs(C:Cf)(p:Pr)(vals:List Int):List E->List (St->Rx Int)
 | []=>[]
 | e::es=>evX C p vals e::evXs C p vals es
end
def qCk(Sn:Sf)(c:Nat)(i:Int)(args:List Int)(st:St):Rx Int :=
 if 200<=c then .bad 19 st else match d.procs[i.toNat]? with
  | none=>.bad 0 st
  | some p=>(Sn (c+1) p p.body (args++List.replicate p.locals.length 0) st).bind fun r st=>.ok (r.2.getD 0) st
def setX(p:Pr)(s:ByteArray)(v:Int)(vals:List Int)(st:St):Rx Rt :=
 if 0<=qFe p.vars s then .ok (vals.set (qFe p.vars s).toNat v,none) st else .ok (vals,none) { st with g:=st.g.set (qFe d.globals s).toNat v,lg:=st.lg++[(2,0,qFe d.globals s)] }
def putX(a v:Int)(s:ByteArray)(st:St):Rx Unit :=
 if a=0 then .bad 17 st else match st.ns[(a-1).toNat]? with
  | none=>.bad 0 st
  | some n=>.ok () { st with ns:=st.ns.set (a-1).toNat (n.1,n.2.set (qFe (qAr d n.1) s).toNat v),lg:=st.lg++[(2,a,qFe (qAr d n.1) s)] }
section
variable(F:Nat)(Sn:Sf)(c:Nat)(p:Pr)
def evS(vals:List Int)(e:E)(st:St):Rx Int:=evX d (qCk d Sn c) p vals e st
def whX(cond:E)(body:List S):Nat->List Int->St->Rx Rt
 | 0,_,st=>.bad 20 st
 | n+1,vals,st=>(evS d Sn c p vals cond st).bind fun a st=>if a=0 then .ok (vals,none) st else (Sn c p body vals st).bind fun r st=>match r.2 with
  | some _=>.ok r st
  | none=>(qHk F st).bind fun _ st=>whX cond body n r.1 st
def qGL(n:Nat)(s:S)(vals:List Int)(st:St):Rx Rt :=
 if s.op=1 then (evS d Sn c p vals (s.es.getD 0 noE) st).bind fun v st=>setX d p s.s v vals st
 else if s.op=2 then (evS d Sn c p vals (s.es.getD 0 noE) st).bind fun a st=>(evS d Sn c p vals (s.es.getD 1 noE) st).bind fun v st=>(putX d a v s.s st).bind fun _ st=>.ok (vals,none) st
 else if s.op=3 then (evS d Sn c p vals (s.es.getD 0 noE) st).bind fun a st=>if a=0 then Sn c p s.xs vals st else Sn c p s.ls vals st
 else if s.op=4 then whX d F Sn c p (s.es.getD 0 noE) s.ls n vals st
 else if s.op=5 then match s.es with
  | []=>.ok (vals,some 0) st
  | e::_=>(evS d Sn c p vals e st).bind fun v st=>.ok (vals,some v) st
 else if s.op=6 then (evS d Sn c p vals (s.es.getD 0 noE) st).bind fun _ st=>.ok (vals,none) st
 else .ok (vals,none) st
def stX(n:Nat)(s:S)(vals:List Int)(st:St):Rx Rt:=(qHk F st).bind fun _ st=>qGL d F Sn c p n s vals st
end
def qEw(f:S->List Int->St->Rx Rt):List S->List Int->St->Rx Rt
 | [],vals,st=>.ok (vals,none) st
 | s::l,vals,st=>(f s vals st).bind fun r st=>match r.2 with
  | some _=>.ok r st
  | none=>qEw f l r.1 st
def qBZ(F:Nat):Nat->Sf
 | 0=>fun _ _ _ _ st=>.bad 20 st
 | n+1=>fun c p l vals st=>qEw (stX d F (qBZ F n) c p (n+1)) l vals st
def qCn(F:Nat)(i:Int)(args:List Int)(st:St):Rx Int:=qCk d (qBZ d F (F+1)) 0 i args st
end
variable{d:Ds}
theorem evXs_map(C:Cf)(p:Pr)(vals:List Int):∀k:List E,evXs d C p vals k=k.map (evX d C p vals)
 | []=>by unfold evXs;rfl
 | e::es=>by unfold evXs;rw[evXs_map C p vals es];rfl
theorem evX_eq(C:Cf)(p:Pr)(vals:List Int)(e:E)(st:St):evX d C p vals e st=qCY d C p vals (intB d (qAf d p) e.k) e.op e.n e.s (e.k.map (evX d C p vals)) st:=by
 cases e;unfold evX;rw[evXs_map];rfl
theorem qKo{f:E->St->Rx Int}{k:List E}{i:Nat}{e:E}(h:k[i]?=some e):qEi (k.map f) i=f e:=by
 grind [qEi]
section
variable{C:Cf}{p:Pr}{vals:List Int}{b:Bool}{op n:Int}{s:ByteArray}{ks:List (St->Rx Int)}{st:St}
theorem cX1(h:op=1∨op=2):qCY d C p vals b op n s ks st=.ok n st:=by rcases h with rfl|rfl <;> rfl
theorem cX3(h:op=3):qCY d C p vals b op n s ks st=.ok 0 st:=by subst h;rfl
theorem cX4(h:op=4):qCY d C p vals b op n s ks st=varX d p vals s st:=by subst h;rfl
theorem cX5(h:op=5):qCY d C p vals b op n s ks st=(qEi ks 0 st).bind fun a st=>fldX d a s st:=by subst h;rfl
theorem cX6(h:op=6):qCY d C p vals b op n s ks st=newX d s st:=by subst h;rfl
theorem cX7(h:op=7):qCY d C p vals b op n s ks st=(qIO ks [] st).bind fun l st=>C (qDJ d s) l st:=by subst h;rfl
theorem cX8(h:op=8):qCY d C p vals b op n s ks st=(qEi ks 0 st).bind fun a st=>qDS (big (-a)) st:=by subst h;rfl
theorem cX18(h:op=18):qCY d C p vals b op n s ks st=(qEi ks 0 st).bind fun a st=>.ok (1-a) st:=by subst h;rfl
theorem cX24(h:op=24):qCY d C p vals b op n s ks st=(qEi ks 0 st).bind fun a st=>.ok (qIU a) st:=by subst h;rfl
theorem cX19(h:op=19):qCY d C p vals b op n s ks st=(qEi ks 0 st).bind fun a st=>if a=0 then .ok 0 st else qEi ks 1 st:=by subst h;rfl
theorem cX20(h:op=20):qCY d C p vals b op n s ks st=(qEi ks 0 st).bind fun a st=>if a=0 then qEi ks 1 st else .ok 1 st:=by subst h;rfl
theorem cX21(h:op=21):qCY d C p vals b op n s ks st=(qEi ks 0 st).bind fun a st=>if a=0 then qEi ks 2 st else qEi ks 1 st:=by subst h;rfl
theorem qIY(h:9<=op/\op<=23/\op≠18/\op≠19/\op≠20/\op≠21):qCY d C p vals b op n s ks st=(qEi ks 0 st).bind fun v st=>(qEi ks 1 st).bind fun w st=>qDS (qCw op v w) (qKF b op st):=by
 grind [qCY]
end
end Go.Proofs
namespace Go.Proofs
open Go Go.Sx
section
variable{d:Ds}{sc:Sc}{e:E}{p:Pr}
structure CallK (d:Ds) (sc:Sc) (e:E) (pr:Pr) (i:Nat):Prop where
 idx:qDJ d e.s=i
 at_:d.procs[i]?=some pr
 len:e.k.length=pr.params.length
 fit:∀(j:Nat) a f,e.k[j]?=some a->pr.params[j]?=some f->∃u,qAn d sc a=(u,0)/\qDu d u f.ty=true
theorem fitAll_at:∀{l:List ByteArray} {fs:List Fld},qCf d l fs=true->∀(j:Nat) a f,l[j]?=some a->fs[j]?=some f->qDu d a f.ty=true
 | [],_,_,j,a,f,h,_=>by simp at h
 | _::_,[],_,j,a,f,_,h=>by simp at h
 | b::l,g::fs,h,j,a,f,h1,h2=>by
  unfold qCf at h
  rw[Bool.and_eq_true]at h
  cases j with
  | zero=>simp_all
  | succ j=>exact fitAll_at h.2 j a f (by simpa using h1) (by simpa using h2)
theorem callT_ok{s t:ByteArray}{l:List ByteArray}(h:qFa d s l=(t,0)):∃(pr:Pr) (i:Nat),qDJ d s=i/\d.procs[i]?=some pr/\l.length=pr.params.length/\qCf d l pr.params=true/\t=pr.result:=by
 unfold qFa qEW at h
 unfold qDJ
 rcases qAP (fun x:Pr=>decide (x.name=s)) d.procs with⟨-,q2,-⟩|⟨i,pr,q1,q2,q3,-⟩
 ·simp_all
 grind
theorem callK_of(hk:∀x∈e.k,(qAn d sc x).2=0){t:ByteArray}(h:qFa d e.s (e.k.map fun x=>(qAn d sc x).1)=(t,0)):∃pr i,CallK d sc e pr i/\t=pr.result:=by
 obtain⟨pr,i,h1,h2,h3,h4,h5⟩:=callT_ok h
 refine⟨pr,i,⟨h1,h2,by simpa using h3,fun j a f ha hf=>⟨(qAn d sc a).1,qBv rfl (hk a (List.mem_of_getElem? ha)),fitAll_at h4 j _ f (by simp[ha]) hf⟩⟩,h5⟩
inductive qEk (d:Ds) (sc:Sc) (e:E):ByteArray->Prop where
 | int (h:e.op=1) (hn:0<=e.n/\e.n<=1099511627776):qEk d sc e qAN
 | bool (h:e.op=2) (hn:e.n=0∨e.n=1):qEk d sc e qAu
 | nil (h:e.op=3) (hn:e.n=0):qEk d sc e qJP
 | var {t} (h:e.op=4) (hl:qBI sc.vars e.s=t) (hne:t≠sE):qEk d sc e t
 | fld {t u} {a:E} (h:e.op=5) (hk:e.k=[a]) (ha:qAn d sc a=(u,0)) (ht:qBS d u e.s=(t,0)):qEk d sc e t
 | new (h:e.op=6) (hn:qAW d e.s=true):qEk d sc e e.s
 | call {pr:Pr} {i:Nat} (h:e.op=7) (hc:CallK d sc e pr i) (hr:pr.result≠sE):qEk d sc e pr.result
 | neg {a:E} (h:e.op=8) (hk:e.k=[a]) (ha:qAn d sc a=(qAN,0)):qEk d sc e qAN
 | not {a:E} (h:e.op=18) (hk:e.k=[a]) (ha:qAn d sc a=(qAu,0)):qEk d sc e qAu
 | log {a:E} (h:e.op=24) (hk:e.k=[a]) (ha:qAn d sc a=(qAN,0)):qEk d sc e qAN
 | and {a b:E} (h:e.op=19) (hk:e.k=[a,b]) (ha:qAn d sc a=(qAu,0)) (hb:qAn d sc b=(qAu,0)):qEk d sc e qAu
 | or {a b:E} (h:e.op=20) (hk:e.k=[a,b]) (ha:qAn d sc a=(qAu,0)) (hb:qAn d sc b=(qAu,0)):qEk d sc e qAu
 | cond {a b c:E} {t u w} (h:e.op=21) (hk:e.k=[a,b,c]) (ha:qAn d sc a=(qAu,0)) (hb:qAn d sc b=(u,0)) (hc:qAn d sc c=(w,0)) (hu:u=t∨qDu d u t=true) (hw:w=t∨qDu d w t=true) (ht:t=if u=qJP then w else u):qEk d sc e t
 | eq {a b:E} {u w} (h:e.op=14∨e.op=15) (hk:e.k=[a,b]) (ha:qAn d sc a=(u,0)) (hb:qAn d sc b=(w,0)) (hf:qDu d u w=true∨qDu d w u=true):qEk d sc e qAu
 | cmp {a b:E} (h:e.op=16∨e.op=17) (hk:e.k=[a,b]) (ha:qAn d sc a=(qAN,0)) (hb:qAn d sc b=(qAN,0)):qEk d sc e qAu
 | ari {a b:E} (h:e.op=9∨e.op=10∨e.op=11∨e.op=12∨e.op=13∨e.op=22∨e.op=23) (hk:e.k=[a,b]) (ha:qAn d sc a=(qAN,0)) (hb:qAn d sc b=(qAN,0)):qEk d sc e qAN
theorem kindX(hsc:sc.body=true){t:ByteArray}(hv:VE e)(ht:qAn d sc e=(t,0)):qEk d sc e t:=by
 obtain⟨hk,hn⟩:=qFk ht
 obtain⟨a1,a2,a3,a4⟩:=arityB hv.node
 unfold qFp at hn
 unfold numB at a4
 have one:qAM e.op=1->∃a,e.k=[a]:=fun h=>list1 ((a2 (by omega)).trans h)
 have two:qAM e.op=2->∃a b,e.k=[a,b]:=fun h=>list2 ((a2 (by omega)).trans h)
 have three:qAM e.op=3->∃a b c,e.k=[a,b,c]:=fun h=>list3 ((a2 (by omega)).trans h)
 by_cases h1:e.op=1
 ·rw[if_pos h1]at hn a4
  cases hn;exact .int h1 (of_decide_eq_true a4)
 rw[if_neg h1]at hn a4
 by_cases h2:e.op=2
 ·rw[if_pos h2]at hn a4
  cases hn;exact .bool h2 (of_decide_eq_true a4)
 rw[if_neg h2]at hn a4
 have a4:e.n=0:=of_decide_eq_true a4
 by_cases h3:e.op=3
 ·rw[if_pos h3]at hn
  cases hn;exact .nil h3 a4
 rw[if_neg h3]at hn
 by_cases h4:e.op=4
 ·rw[if_pos h4]at hn
  split at hn
  ·simp at hn
  ·rename_i hne
   simp only[Prod.mk.injEq,and_true]at hn
   exact .var h4 hn (hn ▸ hne)
 rw[if_neg h4]at hn
 by_cases h5:e.op=5
 ·obtain⟨a,ha⟩:=one (by rw[h5];rfl)
  rw[if_pos h5,ha]at hn
  rw[ha]at hk
  exact .fld h5 ha (qBv rfl (hk a (by simp))) hn
 rw[if_neg h5]at hn
 by_cases h6:e.op=6
 ·rw[if_pos h6,if_neg (by rw[hsc];decide)]at hn
  split at hn
  ·simp at hn
  ·rename_i hno
   simp only[Prod.mk.injEq,and_true]at hn
   subst hn
   exact .new h6 (by simpa using hno)
 rw[if_neg h6]at hn
 by_cases h7:e.op=7
 ·rw[if_pos h7]at hn
  unfold qHq at hn
  rw[if_pos hsc]at hn
  split at hn
  ·simp at hn
  ·rename_i hne
   obtain⟨pr,i,hc,rfl⟩:=callK_of hk hn
   exact .call h7 hc fun h=>hne ⟨by rw[hn],by rw[hn];exact h⟩
 rw[if_neg h7]at hn
 by_cases h14:e.op=14∨e.op=15
 ·obtain⟨a,b,hab⟩:=two (by rcases h14 with h|h <;> (rw[h];rfl))
  rw[if_pos h14,hab]at hn
  rw[hab]at hk
  obtain⟨g,rfl⟩:=qBO hn
  exact .eq h14 hab (qBv rfl (hk a (by simp))) (qBv rfl (hk b (by simp))) (by simpa using g)
 rw[if_neg h14]at hn
 by_cases h16:e.op=16∨e.op=17
 ·obtain⟨a,b,hab⟩:=two (by rcases h16 with h|h <;> (rw[h];rfl))
  rw[if_pos h16,hab]at hn
  rw[hab]at hk
  obtain⟨g,rfl⟩:=qBO hn
  obtain⟨g1,g2⟩:=allT2 g
  exact .cmp h16 hab (qBv g1 (hk a (by simp))) (qBv g2 (hk b (by simp)))
 rw[if_neg h16]at hn
 by_cases h18:e.op=18∨e.op=19∨e.op=20
 ·rw[if_pos h18]at hn
  rcases h18 with h|h
  ·obtain⟨a,ha⟩:=one (by rw[h];rfl)
   rw[ha]at hn hk
   obtain⟨g,rfl⟩:=qBO hn
   exact .not h ha (qBv (allT1 g) (hk a (by simp)))
  ·obtain⟨a,b,hab⟩:=two (by rcases h with h|h <;> (rw[h];rfl))
   rw[hab]at hn hk
   obtain⟨g,rfl⟩:=qBO hn
   obtain⟨g1,g2⟩:=allT2 g
   rcases h with h|h
   ·exact .and h hab (qBv g1 (hk a (by simp))) (qBv g2 (hk b (by simp)))
   ·exact .or h hab (qBv g1 (hk a (by simp))) (qBv g2 (hk b (by simp)))
 rw[if_neg h18]at hn
 by_cases h21:e.op=21
 ·obtain⟨a,b,c,habc⟩:=three (by rw[h21];rfl)
  rw[if_pos h21,habc]at hn
  rw[habc]at hk
  obtain⟨g,g2⟩:=qBO hn
  simp only[List.map_cons,List.map_nil,List.getD_cons_zero,List.getD_cons_succ,Bool.and_eq_true,decide_eq_true_eq,Bool.or_eq_true]at g g2
  refine .cond h21 habc (qBv g.1 (hk a (by simp))) (qBv rfl (hk b (by simp))) (qBv rfl (hk c (by simp))) ?_ ?_ g2.symm
  ·grind [inr,qDu]
  grind [qDu,absurd,inr]
 rw[if_neg h21]at hn
 obtain⟨g,rfl⟩:=qBO hn
 have hop:e.op=8∨e.op=24∨(e.op=9∨e.op=10∨e.op=11∨e.op=12∨e.op=13∨e.op=22∨e.op=23):=by
  grind [qAM]
 rcases hop with h|h|h
 ·obtain⟨a,ha⟩:=one (by rw[h];rfl)
  rw[ha]at g hk
  exact .neg h ha (qBv (allT1 g) (hk a (by simp)))
 ·obtain⟨a,ha⟩:=one (by rw[h];rfl)
  rw[ha]at g hk
  exact .log h ha (qBv (allT1 g) (hk a (by simp)))
 ·obtain⟨a,b,hab⟩:=two (by rcases h with h|h|h|h|h|h|h <;> (rw[h];rfl))
  rw[hab]at g hk
  obtain⟨g1,g2⟩:=allT2 g
  exact .ari h hab (qBv g1 (hk a (by simp))) (qBv g2 (hk b (by simp)))
def TyS(d:Ds)(p:Pr)(s:S):Prop:=(∃n,(stT d (qAf d p) p.result n s).2=0)/\∃k,okS k s=true
theorem qHu{res:ByteArray}:∀{l:List S} {n:Int},(qBF d sc res n l).2=0->∀s∈l,∃n',(stT d sc res n' s).2=0
 | [],_,_,s,hs=>by cases hs
 | x::l,n,h,s,hs=>by
  rw[qFH]at h
  split at h
  ·omega
  ·rename_i h'
   rcases List.mem_cons.1 hs with rfl|hs
   ·grind
   ·exact qHu h s hs
theorem qFP{k:Int}:∀{l:List S},qFQ k l=true->∀s∈l,okS k s=true
 | [],_,s,hs=>by cases hs
 | x::l,h,s,hs=>by
  unfold qFQ at h
  rw[Bool.and_eq_true]at h
  rcases List.mem_cons.1 hs with rfl|hs
  ·exact h.1
  ·exact qFP h.2 s hs
theorem okS_eq(k:Int)(s:S):okS k s=(decide (k<=60)&&qBB s.op s.s s.es s.ls.length s.xs.length&&qFQ (k+1) s.ls&&qFQ (k+1) s.xs):=by cases s;unfold okS;rfl
theorem TyS.parts{s:S}(h:TyS d p s):qEn d (qAf d p) p.result s.op s.s s.es=0/\qFd s.op s.s s.es s.ls.length s.xs.length=true/\(∀e∈s.es,qAI e=true)/\(∀x∈s.ls,TyS d p x)/\∀x∈s.xs,TyS d p x:=by
 obtain⟨⟨n,h1⟩,k,h2⟩:=h
 rw[okS_eq]at h2
 simp only[Bool.and_eq_true]at h2
 obtain⟨⟨⟨-,h3⟩,h4⟩,h5⟩:=h2
 unfold qBB at h3
 rw[Bool.and_eq_true,List.all_eq_true]at h3
 rw[stT_eq]at h1
 split at h1
 ·omega
 ·rename_i h'
  split at h1
  ·omega
  ·rename_i h6
   exact⟨by simpa using h',h3.1,h3.2,fun x hx=>⟨qHu (by simpa using h6) x hx,_,qFP h4 x hx⟩,fun x hx=>⟨qHu h1 x hx,_,qFP h5 x hx⟩⟩
inductive KindS (d:Ds) (p:Pr) (s:S):Prop where
 | set {e:E} {u t:ByteArray} (h:s.op=1) (he:s.es=[e]) (hv:qAI e=true) (ht:qAn d (qAf d p) e=(u,0)) (hl:qBI (qAf d p).vars s.s=t) (hne:t≠sE) (hf:qDu d u t=true)
 | put {a e:E} {u w t:ByteArray} (h:s.op=2) (he:s.es=[a,e]) (hv:qAI a=true) (hw:qAI e=true) (ha:qAn d (qAf d p) a=(u,0)) (ht:qAn d (qAf d p) e=(w,0)) (hl:qBS d u s.s=(t,0)) (hf:qDu d w t=true)
 | cond {e:E} (h:s.op=3) (he:s.es=[e]) (hv:qAI e=true) (ht:qAn d (qAf d p) e=(qAu,0))
 | loop {e:E} (h:s.op=4) (he:s.es=[e]) (hv:qAI e=true) (ht:qAn d (qAf d p) e=(qAu,0))
 | ret0 (h:s.op=5) (he:s.es=[]) (hr:p.result=sE)
 | ret1 {e:E} {u:ByteArray} (h:s.op=5) (he:s.es=[e]) (hv:qAI e=true) (ht:qAn d (qAf d p) e=(u,0)) (hr:p.result≠sE) (hf:qDu d u p.result=true)
 | call {e:E} {pr:Pr} {i:Nat} (h:s.op=6) (he:s.es=[e]) (hv:qAI e=true) (ho:e.op=7) (hc:CallK d (qAf d p) e pr i)
theorem kindS{s:S}(h:TyS d p s):KindS d p s:=by
 obtain⟨h1,h2,h3,-⟩:=h.parts
 unfold qEn at h1
 unfold qFd at h2
 by_cases o6:s.op=6
 ·rw[if_pos o6]at h1
  rw[if_neg (by omega),if_neg (by omega),if_neg (by omega),if_neg (by omega),if_neg (by omega),if_pos o6]at h2
  obtain⟨-,h4,h5,-⟩:=of_decide_eq_true h2
  obtain⟨e,he⟩:=list1 h4
  rw[he]at h1 h5
  simp only at h1
  split at h1
  ·omega
  ·rename_i h'
   obtain⟨q1,q2⟩:=qEL d (qAf d p) e.k [] (by simpa using h')
   rw[q2,List.nil_append]at h1
   obtain⟨pr,i,hc,-⟩:=callK_of (t:=(qFa d e.s (e.k.map fun x=>(qAn d (qAf d p) x).1)).1) q1 (Prod.ext rfl h1)
   exact .call o6 he (h3 e (by rw[he];simp)) h5 hc
 rw[if_neg o6]at h1
 split at h1
 ·omega
 rename_i h'
 obtain⟨q1,q2⟩:=qEL d (qAf d p) s.es [] (by simpa using h')
 rw[q2,List.nil_append]at h1
 have ty:∀{e:E},e∈s.es->qAn d (qAf d p) e=((qAn d (qAf d p) e).1,0):=fun he=>qBv rfl (q1 _ he)
 by_cases o1:s.op=1
 ·rw[if_pos o1]at h1
  rw[if_pos o1,Bool.and_eq_true]at h2
  obtain⟨e,he⟩:=list1 (of_decide_eq_true h2.2).1
  have hm:e∈s.es:=by rw[he];simp
  split at h1
  ·cases h1
  rename_i hne
  split at h1
  ·rename_i hf
   rw[he]at hf
   exact .set o1 he (h3 e hm) (ty hm) rfl hne hf
  ·cases h1
 rw[if_neg o1]at h1 h2
 by_cases o2:s.op=2
 ·rw[if_pos o2]at h1
  rw[if_pos o2,Bool.and_eq_true]at h2
  obtain⟨a,e,he⟩:=list2 (of_decide_eq_true h2.2).1
  have hm:a∈s.es:=by rw[he];simp
  have hm2:e∈s.es:=by rw[he];simp
  split at h1
  ·omega
  rename_i h4
  split at h1
  ·rename_i hf
   rw[he]at hf h4
   simp only[List.map_cons,List.getD_cons_zero,List.getD_cons_succ]at hf h4
   exact .put o2 he (h3 a hm) (h3 e hm2) (ty hm) (ty hm2) (Prod.ext rfl (by simpa using h4)) hf
  ·cases h1
 rw[if_neg o2]at h1 h2
 by_cases o3:s.op=3
 ·rw[if_pos (.inl o3)]at h1
  rw[if_pos o3]at h2
  obtain⟨e,he⟩:=list1 (of_decide_eq_true h2).2
  have hm:e∈s.es:=by rw[he];simp
  split at h1
  ·rename_i hf
   rw[he]at hf
   exact .cond o3 he (h3 e hm) (qBv hf (q1 e hm))
  ·cases h1
 rw[if_neg o3]at h2
 by_cases o4:s.op=4
 ·rw[if_pos (.inr o4)]at h1
  rw[if_pos o4]at h2
  obtain⟨e,he⟩:=list1 (of_decide_eq_true h2).2.1
  have hm:e∈s.es:=by rw[he];simp
  split at h1
  ·rename_i hf
   rw[he]at hf
   exact .loop o4 he (h3 e hm) (qBv hf (q1 e hm))
  ·cases h1
 rw[if_neg (by omega)]at h1
 rw[if_neg o4]at h2
 by_cases o5:s.op=5
 ·rw[if_pos o5]at h1 h2
  obtain⟨-,hl,-⟩:=of_decide_eq_true h2
  cases he:s.es with
  | nil =>
   rw[he]at h1
   simp only[List.map_nil,List.length_nil,if_true]at h1
   split at h1
   ·rename_i hr;exact .ret0 o5 he hr
   ·cases h1
  | cons e r =>
   have hr:r=[]:=by
    grind
   subst hr
   have hm:e∈s.es:=by rw[he];simp
   rw[he]at h1
   simp only[List.map_cons,List.map_nil,List.length_cons,List.length_nil,List.getD_cons_zero]at h1
   rw[if_neg (by omega)]at h1
   split at h1
   ·rename_i hf;exact .ret1 o5 he (h3 e hm) (ty hm) hf.1 hf.2
   ·cases h1
 simp_all
structure qCA (d:Ds) (p:Pr):Prop where
 body:∀s∈p.body,TyS d p s
 vars:∀f∈p.vars,qBf d f.ty=true
 res:p.result=sE∨qBf d p.result=true
 lens:p.params.length<=6/\p.locals.length<=12
theorem oneT_known{l:List Fld}{i:Nat}{f:Fld}(h:qEh d l i f=0):qBf d f.ty=true:=by
 grind [qEh]
theorem declT_known{l:List Fld}(h:qCi d l=0):∀f∈l,qBf d f.ty=true:=by
 intro f hf
 obtain⟨i,hi⟩:=List.mem_iff_getElem?.1 hf
 unfold qCi at h
 cases hq:qAh (fun i f=>if qEh d l i f≠0 then some (qEh d l i f) else none) 0 l with
 | none =>
  grind [qER,oneT_known]
 | some b =>
  exfalso
  rw[hq]at h
  simp only[Option.getD_some]at h
  subst h
  have key:∀(l':List Fld) (i:Nat),qAh (fun i f=>if qEh d l i f≠0 then some (qEh d l i f) else none) i l'≠some 0:=by
   intro l'
   induction l' with
   | nil=>intro i h;cases h
   | cons x l' ih =>
    grind [qAh,qEh]
  exact key l 0 hq
theorem qJW(hv:qAK d=true)(hc:qHg d=none):∀p∈d.procs,qCA d p:=by
 intro p hp
 obtain⟨i,hi⟩:=List.mem_iff_getElem?.1 hp
 unfold qHg at hc
 obtain⟨-,h⟩:=qKc hc
 obtain⟨hh,h⟩:=qKc h
 obtain⟨-,h⟩:=qKc h
 obtain⟨hb,-⟩:=qKc h
 unfold qEe at hh
 unfold qCq at hb
 have a1:=qER hh i p hi
 have a2:=qER hb i p hi
 unfold qAK at hv
 simp only[Bool.and_eq_true,List.all_eq_true]at hv
 have hpb:=hv.1.2 p hp
 unfold prB at hpb
 simp only[Bool.and_eq_true]at hpb
 obtain⟨⟨⟨⟨-,f1⟩,f2⟩,-⟩,hs⟩:=hpb
 unfold qDb at f1 f2
 rw[Bool.and_eq_true,decide_eq_true_eq]at f1 f2
 have l1:=f1.1
 have l2:=f2.1
 refine⟨fun s hsm=>⟨?_,1,qFP (of_decide_eq_true hs).1 s hsm⟩,?_,?_,by omega,by omega⟩
 ·grind [qHu]
 ·split at a1
  ·cases a1
  split at a1
  ·cases a1
  rename_i h'
  have h':qCi d (p.params++p.locals)=0:=by simpa using h'
  exact declT_known h'
 grind
end
end Go.Proofs
