/- Part 10 of a proof of a law of this seat: no statement of the seat is proved here. -/
import Derived.Test.YtginfholjbbgeaaGreatDoorPart09
set_option linter.unusedVariables false
set_option linter.unusedSimpArgs false
namespace Go.Proofs
open Go Go.Sx
attribute [local irreducible] Go.Sx.Tri
structure qJE (d:Ds):Prop where
 small:Small d
 ms:∀m∈d.measures,okE 1 m.x=true
 is:∀m∈d.invs,okE 1 m.x=true
 qs:∀m∈d.pots,okE 1 m.x=true
 bs:∀m∈d.bounds,okE 1 m.x=true
 ps:∀p∈d.procs,qFQ 1 p.body=true/\qEg p.body<=200
theorem qFF{e:E}(h:qAI e=true):okE 1 e=true:=by
 grind [qAI]
theorem vparts{d:Ds}(h:qAK d=true):qJE d:=by
 unfold qAK qIV at h
 simp only[Bool.and_eq_true,decide_eq_true_eq,List.all_eq_true]at h
 obtain⟨⟨⟨⟨⟨⟨⟨-,-⟩,hg⟩,-⟩,-⟩,-⟩,hp⟩,⟨⟨hm,hi⟩,hq⟩,hb⟩:=h
 have fl:∀{l:List Fld} {n:Int},qDb l n=true->n<=100->l.length<=1000:=fun h h'=>by
  grind [qDb]
 refine⟨⟨fl hg (by omega),fun p hpp=>?_⟩,fun m hmm=>?_,fun m hmm=>?_,fun m hmm=>?_,fun m hmm=>?_,fun p hpp=>?_⟩
 ·grind [prB]
 ·simp_all [msB,Bool.and_eq_true,qFF]
 ·simp_all [ivB,Bool.and_eq_true,qFF]
 ·simp_all [poB,Bool.and_eq_true,qFF]
 ·simp_all [bdB,Bool.and_eq_true,qFF]
 grind [prB,qDL]
theorem qCL{α β:Type}{f:Nat->α->Option β}{b:β}:∀{i:Nat} {xs:List α},qAh f i xs=some b->∃j x,x∈xs/\f j x=some b
 | _,[],h=>by cases h
 | i,x::xs,h=>by
  cases hx:f i x with
  | some c=>grind [qAg]
  | none =>
   rw[qAk hx]at h
   obtain⟨j,y,hy,e⟩:=qCL h
   grind
def Bad(r:Flt):Prop:=r.2.2≠0/\r.2.1=-1
theorem qGV{P:Flt->Prop}{a b:Option Flt}(ha:∀r,a=some r->P r)(hb:∀r,b=some r->P r):∀r,a.or b=some r->P r:=fun r h=>by
 cases a with
 | none=>simp_all
 | some x=>simp_all
theorem qHN(d:Ds):∀r,qFb d=some r->Bad r:=by
 refine qGV (fun r h=>?_) (qGV (fun r h=>?_) (fun r h=>?_)) <;> obtain⟨j,x,hx,e⟩:=qCL h
 ·split at e
  ·cases e;exact⟨by simp,rfl⟩
  ·cases e
 ·split at e
  ·rename_i h';cases e;exact⟨h',rfl⟩
  ·cases e
 ·split at e
  ·rename_i h';cases e;exact⟨h',rfl⟩
  ·cases e
theorem qIs(d:Ds):∀r,qEe d=some r->Bad r:=fun r h=>by
 obtain⟨j,x,hx,e⟩:=qCL h
 split at e
 ·cases e;exact⟨by simp,rfl⟩
 ·split at e
  ·rename_i h';cases e;exact⟨h',rfl⟩
  ·split at e
   ·cases e;exact⟨by simp,rfl⟩
   ·cases e
theorem qKu(d:Ds):∀r,qEj d=some r->Bad r:=by
 refine qGV (fun r h=>?_) (qGV (fun r h=>?_) (qGV (fun r h=>?_) (fun r h=>?_))) <;> obtain⟨j,x,hx,e⟩:=qCL h
 ·split at e
  ·cases e;exact⟨by simp,rfl⟩
  ·split at e
   ·cases e;exact⟨by simp,rfl⟩
   ·cases e
 ·split at e
  ·cases e;exact⟨by simp,rfl⟩
  ·split at e
   ·cases e;exact⟨by simp,rfl⟩
   ·cases e
 ·split at e
  ·cases e;exact⟨by simp,rfl⟩
  ·cases e
 ·split at e
  ·cases e;exact⟨by simp,rfl⟩
  ·split at e
   ·cases e;exact⟨by simp,rfl⟩
   ·cases e
theorem qKx(d:Ds):∀r,qGF d=some r->Bad r:=by
 refine qGV (fun r h=>?_) (qGV (fun r h=>?_) (qGV (fun r h=>?_) (fun r h=>?_))) <;> obtain⟨j,x,hx,e⟩:=qCL h <;> split at e
 all_goals first | (cases e;done) | (rename_i h';cases e;exact⟨h',rfl⟩)
theorem qIF{d:Ds}(hform:qEj d=none):∀g∈d.bounds,∃p,qEW d g.proc=some p:=by
 have h4:form4 d=none:=by
  grind [qEj,form4]
 have aux:∀(l:List Bd) (i:Nat),qAh (fun i b=>if (qEW d b.proc).isNone=true then some ((b.proc,-1,9):Flt) else if (d.bounds.take i).any (fun g=>decide (g.proc=b.proc))=true then some (b.proc,-1,10) else none) i l=none->∀g∈l,∃p,qEW d g.proc=some p:=by
  intro l
  induction l with
  | nil=>simp_all
  | cons y l ih =>
   intro i h g hg
   cases hy:qEW d y.proc with
   | none=>simp_all [qAg,if_pos]
   | some p =>
    rcases List.mem_cons.1 hg with rfl|hg
    ·grind
    ·by_cases ht:(d.bounds.take i).any (fun g=>decide (g.proc=y.proc))=true
     ·simp_all [qAg,if_neg,if_pos]
     ·rw[qAk ((if_neg (by rw[hy];simp)).trans (if_neg ht))]at h
      grind
 exact aux d.bounds 0 h4
theorem qDy{V:Mem}{p:Option Addr}{off n j m:Nat}{vs:List Value}(h:V.rowp p off n=some vs)(hj:0<j)(hl:j+m<=n):V.rowp (qAa (qAa p off) j) 0 m=some ((vs.drop j).take m):=by
 cases p with
 | none=>cases h
 | some a =>
  have e:((a.add off).add j).add 0=⟨a.block,a.off+off+j,none⟩:=by
   grind [Addr.add]
  have e0:(a.add off).off=a.off+off/\(a.add off).block=a.block:=by
   grind [Addr.add]
  show V.row (((a.add off).add j).add 0) m=_
  have h:V.row (a.add off) n=some vs:=h
  rw[e]
  unfold Mem.row at h ⊢
  rw[e0.2]at h
  split at h
  ·rename_i c x y hb
   simp only[hb]
   split at h
   ·rename_i hc
    rw[e0.1]at hc h
    cases h
    rw[if_pos ⟨rfl,by omega⟩,List.drop_take,List.take_take,List.drop_drop,Nat.min_eq_left (by omega)]
   ·cases h
  ·cases h
section
variable{V:Mem}{d:Ds}
theorem c123(hd:Ds.Ok V d)(hv:qJE d)(hform:qEj d=none):PP 123 [d.v] V (f2 (qGF d)):=by
 refine Pur.mk (x123 ?_)
 unfold w123 qGF
 have hg:=hv.small.1
 have key:∀{X:Option Flt} (V2:Mem) (s:ByteArray) (n:Int),V.sub V2->X=some (s,-1,n)->(Ending.returned (.tuple #[.string s,.int .i64 n])=Ending.returned (f2 X)/\V.sub V2):=fun V2 s n h2 h=>by rw[h];exact⟨rfl,h2⟩
 unfold exp1
 generalize hf1:(fun(_:Nat) (m:Ms)=>if qBq d (qAw d m.ty) m.x qAN≠0 then some ((m.name,-1,qBq d (qAw d m.ty) m.x qAN):Flt) else none)=F1
 refine qDQ d.measures.length (fun k V1=>V.sub V1/\qAh F1 0 d.measures=qAh F1 k (d.measures.drop k)) ⟨Mem.sub.refl _,rfl⟩ ?_
 rintro k b c V1 J hi ⟨hV,ha⟩ hJ
 have hd1:=hd.sub hV
 refine⟨fun hk=>?_,fun hk=>?_⟩
 ·obtain⟨g,hm,hx,hdr,hl,hp,hz,hrow⟩:=hd1.measures.get hk
  rw[hdr]at ha
  have hq:=qAe (n:=k*7) hp
  refine⟨hp,hz,hk,hq,_,_,_,_,_,_,_,hrow,hp,hz,hk,hq,_,_,_,_,_,_,_,hrow,Tri.mono (qEr hd1 hg) ?_⟩
  rintro _ V2 ⟨s',rfl,h12,hsc⟩
  have hrow2:=h12.rowp hrow
  refine⟨s',false,rfl,qDy (j:=3) (m:=4) hrow2 (by decide) (by decide),hq,hp,hz,hk,(c159 (sc:=qAw d g.ty) (e:=g.x) (hd1.sub h12) hsc ((hd1.sub h12).measuresOk g hm).x (hv.ms g hm)).call ⟨_,rfl,fun h=>⟨hd1.measures.succ hk,hJ hl _ _ _ ⟨hV.trans h12,?_⟩⟩,fun h=>⟨hp,hz,hk,hq,_,_,_,_,_,_,_,hrow2,key _ _ _ (hV.trans h12) ?_⟩⟩⟩
  ·rw[ha,qAk (by rw[<- hf1];exact if_neg fun e=>e h)]
  ·rw[ha,qAg (b:=(g.name,-1,qBq d (qAw d g.ty) g.x qAN)) (by rw[<- hf1];exact if_pos h)];rfl
 rw[(hd1.measures.done hk).1,qAh]at ha
 rw[ha,Option.none_or]
 unfold exp2
 generalize hf2:(fun(_:Nat) (m:Iv)=>if qBq d (qAw d m.ty) m.x qAu≠0 then some ((m.name,-1,qBq d (qAw d m.ty) m.x qAu):Flt) else none)=F2
 refine qDQ d.invs.length (fun k V1=>V.sub V1/\qAh F2 0 d.invs=qAh F2 k (d.invs.drop k)) ⟨hV,rfl⟩ ?_
 rintro k b c V1 J hi ⟨hV,ha⟩ hJ
 have hd1:=hd.sub hV
 refine⟨fun hk=>?_,fun hk=>?_⟩
 ·obtain⟨g,hm,hx,hdr,hl,hp,hz,hrow⟩:=hd1.invs.get hk
  rw[hdr]at ha
  have hq:=qAe (n:=k*6) hp
  refine⟨hp,hz,hk,hq,_,_,_,_,_,_,hrow,hp,hz,hk,hq,_,_,_,_,_,_,hrow,Tri.mono (qEr hd1 hg) ?_⟩
  rintro _ V2 ⟨s',rfl,h12,hsc⟩
  have hrow2:=h12.rowp hrow
  refine⟨s',false,rfl,qDy (j:=2) (m:=4) hrow2 (by decide) (by decide),hq,hp,hz,hk,(c159 (sc:=qAw d g.ty) (e:=g.x) (hd1.sub h12) hsc ((hd1.sub h12).invsOk g hm) (hv.is g hm)).call ⟨_,rfl,fun h=>⟨hd1.invs.succ hk,hJ hl _ _ _ ⟨hV.trans h12,?_⟩⟩,fun h=>⟨hp,hz,hk,hq,_,_,_,_,_,_,hrow2,key _ _ _ (hV.trans h12) ?_⟩⟩⟩
  ·rw[ha,qAk (by rw[<- hf2];exact if_neg fun e=>e h)]
  ·rw[ha,qAg (b:=(g.name,-1,qBq d (qAw d g.ty) g.x qAu)) (by rw[<- hf2];exact if_pos h)];rfl
 rw[(hd1.invs.done hk).1,qAh]at ha
 rw[ha,Option.none_or]
 unfold exp3
 generalize hf3:(fun(_:Nat) (m:Po)=>if qBq d (qAw d m.ty) m.x qAN≠0 then some ((sPot,-1,qBq d (qAw d m.ty) m.x qAN):Flt) else none)=F3
 refine qDQ d.pots.length (fun k V1=>V.sub V1/\qAh F3 0 d.pots=qAh F3 k (d.pots.drop k)) ⟨hV,rfl⟩ ?_
 rintro k b c V1 J hi ⟨hV,ha⟩ hJ
 have hd1:=hd.sub hV
 refine⟨fun hk=>?_,fun hk=>?_⟩
 ·obtain⟨g,hm,hx,hdr,hl,hp,hz,hrow⟩:=hd1.pots.get hk
  rw[hdr]at ha
  have hq:=qAe (n:=k*5) hp
  refine⟨hp,hz,hk,hq,_,_,_,_,_,hrow,hp,hz,hk,hq,_,_,_,_,_,hrow,Tri.mono (qEr hd1 hg) ?_⟩
  rintro _ V2 ⟨s',rfl,h12,hsc⟩
  have hrow2:=h12.rowp hrow
  refine⟨s',false,rfl,qDy (j:=1) (m:=4) hrow2 (by decide) (by decide),hq,hp,hz,hk,(c159 (sc:=qAw d g.ty) (e:=g.x) (hd1.sub h12) hsc ((hd1.sub h12).potsOk g hm) (hv.qs g hm)).call ⟨_,rfl,fun h=>⟨hd1.pots.succ hk,hJ hl _ _ _ ⟨hV.trans h12,?_⟩⟩,fun h=>key _ _ _ (hV.trans h12) ?_⟩⟩
  ·rw[ha,qAk (by rw[<- hf3];exact if_neg fun e=>e h)]
  ·rw[ha,qAg (b:=(sPot,-1,qBq d (qAw d g.ty) g.x qAN)) (by rw[<- hf3];exact if_pos h)];rfl
 rw[(hd1.pots.done hk).1,qAh]at ha
 rw[ha,Option.none_or]
 have hpr:=qIF hform
 unfold exp4
 generalize hf4:(fun(_:Nat) (m:Bd)=>if qBq d (qBw d ((qEW d m.proc).getD prD)) m.x qAN≠0 then some ((m.proc,-1,qBq d (qBw d ((qEW d m.proc).getD prD)) m.x qAN):Flt) else none)=F4
 refine qDQ d.bounds.length (fun k V1=>V.sub V1/\qAh F4 0 d.bounds=qAh F4 k (d.bounds.drop k)) ⟨hV,rfl⟩ ?_
 rintro k b c V1 J hi ⟨hV,ha⟩ hJ
 have hd1:=hd.sub hV
 refine⟨fun hk=>?_,fun hk=>?_⟩
 ·obtain⟨g,hm,hx,hdr,hl,hp,hz,hrow⟩:=hd1.bounds.get hk
  rw[hdr]at ha
  have hq:=qAe (n:=k*5) hp
  obtain⟨p,hpp⟩:=hpr g hm
  rcases qAP (fun t:Pr=>decide (t.name=g.proc)) d.procs with⟨i1,i2,i3⟩|⟨i,x,i1,i2,i3,i4,i5,i6,i7,_⟩
  ·grind [qEW]
  have hxp:qEW d g.proc=some x:=i3
  refine⟨hp,hz,hk,hq,_,_,_,_,_,hrow,(c92 hd1).call ⟨_,rfl,?_⟩⟩
  rw[i1]
  have hpn:=hd1.procs.n_eq
  have hilt:(i:Int)<(d.ps.n:Int):=by omega
  obtain⟨y,hmy,hxy,hdy,hly,hpy,hzy,hrowy⟩:=hd1.procs.get hilt
  rw[i2]at hxy
  cases hxy
  refine⟨hpy,hzy,hilt,_,_,_,_,_,hrowy,hp,hz,hk,hq,_,_,_,_,_,hrow,Tri.mono (refInBound hd1 (hd1.procsOk x i6) hg (hv.small.2 x i6)) ?_⟩
  rintro _ V2 ⟨s',rfl,h12,hsc⟩
  have hrow2:=h12.rowp hrow
  have hget:(qEW d g.proc).getD prD=x:=by rw[hxp];rfl
  refine⟨s',false,rfl,qDy (j:=1) (m:=4) hrow2 (by decide) (by decide),hq,hp,hz,hk,(c159 (sc:=qBw d x) (e:=g.x) (hd1.sub h12) hsc ((hd1.sub h12).boundsOk g hm) (hv.bs g hm)).call ⟨_,rfl,fun h=>⟨hd1.bounds.succ hk,hJ hl _ _ _ ⟨hV.trans h12,?_⟩⟩,fun h=>⟨hp,hz,hk,hq,_,_,_,_,_,hrow2,key _ _ _ (hV.trans h12) ?_⟩⟩⟩
  ·rw[ha,qAk (by rw[<- hf4];exact if_neg fun e=>e (by rw[hget];exact h))]
  ·rw[ha,qAg (b:=(g.proc,-1,qBq d (qBw d x) g.x qAN)) (by rw[<- hf4];exact(if_pos (by rw[hget];exact h)).trans (by rw[hget]))];try rfl
 rw[(hd1.bounds.done hk).1,qAh]at ha
 rw[ha]
 exact⟨rfl,hV⟩
def f3(o:Option Flt):Value:=.tuple #[.string (fltR o).1,.int .i64 (fltR o).2.1,.int .i64 (fltR o).2.2]
theorem c89(hd:Ds.Ok V d)(hv:qJE d):PP 89 [d.v] V (f3 (qHg d)):=by
 refine x89 ?_
 unfold w89 qHg
 have bad:∀{a b:Option Flt},(∀r,a=some r->Bad r)->¬((fltR a).2.2=0)->(Ending.returned (.tuple #[.string (fltR a).1,.int .i64 (-1),.int .i64 (fltR a).2.2])=Ending.returned (f3 (a.or b))/\V=V):=fun {a b} hb h=>by
  cases a with
  | none=>exact absurd rfl h
  | some r =>
   have:=hb r rfl
   unfold f3 fltR
   simp only[Option.some_or,Option.getD_some]
   rw[this.2];simp_all
 have good:∀{a:Option Flt},(∀r,a=some r->Bad r)->(fltR a).2.2=0->a=none:=fun {a} hb h=>by
  cases a with
  | none=>rfl
  | some r=>exact absurd h (hb r rfl).1
 refine(c119 hd).call ⟨_,_,rfl,fun h=>?_,fun h=>bad (qHN d) h⟩
 rw[good (qHN d) h,Option.none_or]
 refine(c120 hd hv.small).call ⟨_,_,rfl,fun h=>?_,fun h=>bad (qIs d) h⟩
 rw[good (qIs d) h,Option.none_or]
 refine(c121 hd).call ⟨_,_,rfl,fun h=>?_,fun h=>bad (qKu d) h⟩
 have hform:=good (qKu d) h
 rw[hform,Option.none_or]
 unfold qCq
 generalize hf1:(fun(_:Nat) (p:Pr)=>if (qBF d (qAf d p) p.result 0 p.body).2≠0 then some ((p.name,(qBF d (qAf d p) p.result 0 p.body).1,(qBF d (qAf d p) p.result 0 p.body).2):Flt) else none)=F1
 refine loop4s (mk:=.string) (mc:=.int .i64) (md:=.int .i64) (qAl []) 0 0 qDt d.procs.length (fun k _ V1=>V=V1/\qAh F1 0 d.procs=qAh F1 k (d.procs.drop k)) ⟨rfl,rfl⟩ ?_
 rintro k b c c' V1 J hi ⟨rfl,ha⟩ hJ
 refine⟨fun hk=>?_,fun hk=>?_⟩
 ·obtain⟨g,hm,hx,hdr,hl,hp,hz,hrow⟩:=hd.procs.get hk
  rw[hdr]at ha
  have hq:=qAe (n:=k*5) hp
  have hgo:=hd.procsOk g hm
  obtain⟨hs1,hs2⟩:=hv.ps g hm
  refine⟨hp,hz,hk,_,_,_,_,_,hrow,hp,hz,hk,hq,_,_,_,_,_,hrow,(refStmts hd hgo hv.small.1 (hv.small.2 g hm) g.body g.bs 0 1 hgo.body hgo.stmts hs1 (by omega) (by omega)).call ⟨_,_,rfl,fun h=>⟨hd.procs.succ hk,hJ hl _ _ _ _ ⟨rfl,?_⟩⟩,fun h=>⟨hp,hz,hk,hq,_,_,_,_,_,hrow,?_⟩⟩⟩
  ·rw[ha,qAk (by grind)]
  ·rw[ha,qAg (b:=(g.name,(qBF d (qAf d g) g.result 0 g.body).1,(qBF d (qAf d g) g.result 0 g.body).2)) (by grind)]
   exact⟨rfl,rfl⟩
 rw[(hd.procs.done hk).1,qAh]at ha
 rw[ha,Option.none_or]
 refine(c123 hd hv hform).call ⟨_,_,rfl,fun h=>?_,fun h=>?_⟩
 ·rw[good (qKx d) h];exact⟨rfl,rfl⟩
 ·have:=bad (b:=none) (qKx d) h
  grind
def wellT(d:Ds):Bool:=qAK d&&decide ((fltR (qHg d)).2.2=0)
theorem c60(hd:Ds.Ok V d):PP 60 [d.v] V (.bool (wellT d)):=by
 refine x60 ?_
 unfold w60 wellT
 refine(c59 hd).call ⟨_,rfl,fun h=>(c89 hd (vparts h)).call ⟨_,_,_,rfl,?_⟩,fun h=>?_⟩
 ·simp_all
 simp_all
end
structure qBL (V:Mem) (c:Option Addr) (d:Ds):Prop where
 at_:∃cb mt mp t,c=some ⟨cb,0,none⟩/\V cb=some (.cells (d.row++[Value.map (some mt),Value.map (some mp)]).toArray t (0,0))/\qBo V mt (fun k=>(qIN d k).map Ty.v)/\qBo V mp (fun k=>(qEW d k).map Pr.v)
 ok:Ds.Ok V d
theorem qBL.sub{V V':Mem}{c:Option Addr}{d:Ds}(h:qBL V c d)(hs:V.sub V'):qBL V' c d:=by
 obtain⟨cb,mt,mp,t,h1,h2,h3,h4⟩:=h.at_
 exact⟨⟨cb,mt,mp,t,h1,hs _ _ h2,h3.sub hs,h4.sub hs⟩,h.ok.sub hs⟩
theorem qBL.nn{V:Mem}{c:Option Addr}{d:Ds}(h:qBL V c d):¬(c=none):=by
 obtain⟨cb,mt,mp,t,h1,h2,h3,h4⟩:=h.at_
 rw[h1];simp
theorem qBL.cell{V:Mem}{c:Option Addr}{d:Ds}(h:qBL V c d){i:Nat}{v:Value}(hv:(d.row)[i]?=some v):V.rowp c (i*1) 1=some [v]:=by
 obtain⟨cb,mt,mp,t,h1,h2,h3,h4⟩:=h.at_
 rw[h1,Nat.mul_one]
 have hi:=(List.getElem?_eq_some_iff.1 hv).1
 have h8:d.row.length=8:=rfl
 rw[qAc h2 i 1 (by simp;omega)]
 have:(d.row++[Value.map (some mt),Value.map (some mp)])[i]?=some v:=by grind
 have hl:i<(d.row++[Value.map (some mt),Value.map (some mp)]).length:=by rw[List.length_append];omega
 show some (((d.row++[Value.map (some mt),Value.map (some mp)]).drop i).take 1)=_
 rw[List.drop_eq_getElem_cons hl,(List.getElem?_eq_some_iff.1 this).2]
 rfl
theorem qBL.types{V:Mem}{c:Option Addr}{d:Ds}(h:qBL V c d):∃mt,V.rowp c 8 1=some [.map (some mt)]/\qBo V mt (fun k=>(qIN d k).map Ty.v):=by
 obtain⟨cb,mt,mp,t,h1,h2,h3,h4⟩:=h.at_
 exact⟨mt,by rw[h1,qAc h2 8 1 (by simp[Ds.row])];rfl,h3⟩
theorem qBL.procs{V:Mem}{c:Option Addr}{d:Ds}(h:qBL V c d):∃mt,V.rowp c 9 1=some [.map (some mt)]/\qBo V mt (fun k=>(qEW d k).map Pr.v):=by
 obtain⟨cb,mt,mp,t,h1,h2,h3,h4⟩:=h.at_
 exact⟨mp,by rw[h1,qAc h2 9 1 (by simp[Ds.row])];rfl,h4⟩
def qBR(l:List Fld)(k:ByteArray):Option ByteArray:=(l.find? fun f=>decide (f.name=k)).map (·.ty)
theorem qJe(l:List Fld)(k:ByteArray):qBI l k=(qBR l k).getD sE:=by
 induction l with
 | nil=>rfl
 | cons f l ih =>
  grind [qBR,qBI]
def NE(l:List Fld):Prop:=∀f∈l,f.ty≠sE
theorem NE.some{l:List Fld}(h:NE l){k t:ByteArray}(hv:qBR l k=some t):t≠sE:=by
 unfold qBR at hv
 obtain⟨f,hf,rfl⟩:=Option.map_eq_some_iff.1 hv
 exact h f (List.mem_of_find?_eq_some hf)
structure qHr (V:Mem) (m:Option Nat) (sc:Sc):Prop where
 at_:∃mb,m=some mb/\qBo V mb (fun k=>(qBR sc.vars k).map Value.string)
 ne:NE sc.vars
theorem qHr.sub{V V':Mem}{m:Option Nat}{sc:Sc}(h:qHr V m sc)(hs:V.sub V'):qHr V' m sc:=by
 obtain⟨mb,h1,h2⟩:=h.at_
 exact⟨⟨mb,h1,h2.sub hs⟩,h.ne⟩
def sV(c:Option Addr)(m:Option Nat)(sc:Sc):Value:=.agg #[.pointer c,.map m,.bool sc.body]
structure VNe (d:Ds):Prop where
 types:∀t∈d.types,NE t.fields
 globals:NE d.globals
 params:∀p∈d.procs,NE p.params/\NE p.locals
theorem typB_ne{s:ByteArray}(h:typB s=true):s≠sE:=by
 intro e
 subst e
 have:typB sE=false:=by
  rfl
 simp_all
theorem flds_ne{l:List Fld}{n:Int}(h:qDb l n=true):NE l:=fun f hf=>by
 simp_all [qDb,Bool.and_eq_true,List.all_eq_true,fldB,typB_ne]
theorem vne{d:Ds}(h:qAK d=true):VNe d:=by
 unfold qAK at h
 simp only[Bool.and_eq_true,decide_eq_true_eq,List.all_eq_true]at h
 obtain⟨⟨⟨⟨⟨⟨⟨-,-⟩,hg⟩,-⟩,-⟩,ht⟩,hp⟩,-⟩:=h
 refine⟨fun t htt=>?_,flds_ne hg,fun p hpp=>?_⟩
 ·have:=ht t htt
  unfold tyB at this
  rw[Bool.and_eq_true]at this
  exact flds_ne this.2
 ·have:=hp p hpp
  unfold prB at this
  simp only[Bool.and_eq_true]at this
  grind [flds_ne]
theorem zero132(w:World):(zeroValue 132).run Tryz.prog w=.ok (.agg #[.string ByteArray.empty,.slice none 0 0]) w:=by kernel_rfl
theorem zero121(w:World):(zeroValue 121).run Tryz.prog w=.ok (.agg #[.string ByteArray.empty,.slice none 0 0,.string ByteArray.empty,.slice none 0 0,.slice none 0 0]) w:=by kernel_rfl
theorem zero9(w:World):(zeroValue 9).run Tryz.prog w=.ok (.string ByteArray.empty) w:=by kernel_rfl
theorem tyOf_node(d:Ds)(s:ByteArray):(qIN d s).isSome=qAW d s:=by
 grind [qIN,qAW]
theorem tyOf_mem{d:Ds}{s:ByteArray}{t:Ty}(h:qIN d s=some t):t∈d.types:=List.mem_of_find?_eq_some h
theorem qJX{d:Ds}{s:ByteArray}{t:Pr}(h:qEW d s=some t):t∈d.procs:=List.mem_of_find?_eq_some h
section
variable{V:Mem}{d:Ds}{c:Option Addr}{m:Option Nat}{sc:Sc}
theorem c177(h:qBL V c d){s:ByteArray}:PP 177 [.pointer c,.string s] V (.bool (qAW d s)):=by
 refine x177 ?_
 unfold w177
 obtain⟨mt,h1,h2⟩:=h.types
 refine⟨h.nn,h.nn,_,h1,qCr.str Tryz.underlying209 Tryz.underlying9 zero132 h2 ?_⟩
 rw[<- tyOf_node]
 cases ht:qIN d s with
 | none=>exact⟨_,⟨none,0,0⟩,_,rfl,rfl,rfl⟩
 | some t=>exact⟨_,t.fs,_,rfl,rfl,rfl⟩
theorem c172(h:qBL V c d){s:ByteArray}:PP 172 [.pointer c,.string s] V (.bool (qBf d s)):=by
 refine x172 ?_
 unfold w172
 refine⟨fun h1=>?_,fun h1=>⟨fun h2=>?_,fun h2=>(c177 h).call ⟨_,rfl,?_⟩⟩⟩ <;> simp[qBf,qAN,qAu, *]
theorem c258(h:qBL V c d){s t:ByteArray}:PP 258 [.pointer c,.string s,.string t] V (.bool (qDu d s t)):=by
 refine x258 ?_
 unfold w258 qDu qJP
 refine⟨fun h1=>?_,fun h1=>⟨fun h2=>(c177 h).call ⟨_,rfl,?_⟩,fun h2=>?_⟩⟩
 ·simp_all
 ·simp_all
 simp_all
theorem c259(h:qBL V c d)(hv:VNe d){s t:ByteArray}:PP 259 [.pointer c,.string s,.string t] V (.tuple #[.string (qBS d s t).1,.int .i64 (qBS d s t).2]):=by
 refine x259 ?_
 unfold w259
 obtain⟨mt,h1,h2⟩:=h.types
 refine⟨h.nn,h.nn,_,h1,qCr.str Tryz.underlying209 Tryz.underlying9 zero132 h2 ?_⟩
 unfold qBS
 cases ht:qIN d s with
 | none=>exact⟨_,⟨none,0,0⟩,_,rfl,fun h=>absurd h (by simp),fun _=>⟨rfl,rfl⟩⟩
 | some ty =>
  refine⟨_,ty.fs,_,rfl,fun _=>?_,fun h=>absurd rfl h⟩
  have hr:=(h.ok.typesOk ty (tyOf_mem ht)).fields
  have hne:=hv.types ty (tyOf_mem ht)
  simp only
  refine qDQ ty.fields.length (fun i V1=>V=V1/\qBI ty.fields t=qBI (ty.fields.drop i) t) ⟨rfl,rfl⟩ ?_
  rintro i b c V1 J hi ⟨rfl,ha⟩ hJ
  refine⟨fun hlt=>?_,fun hge=>?_⟩
  ·obtain⟨x,hm,hx,hdr,hl,hp,hz,hrow⟩:=hr.get hlt
   rw[hdr,qBI]at ha
   refine⟨hp,hz,hlt,_,_,hrow,fun he=>?_,fun he=>⟨hr.succ hlt,hJ hl _ _ _ ⟨rfl,?_⟩⟩⟩
   ·rw[if_pos he]at ha
    rw[ha,if_neg (hne x hm)];simp_all
   simp_all
  ·rw[(hr.done hge).1,qBI]at ha
   rw[ha,if_pos rfl];exact⟨rfl,rfl⟩
theorem c277{b:Nat}{s:ByteArray}{t:Nat}(hb:V b=some (cell (.string s) t)){x:Ms}:PP 277 [x.v,pv b] V (.bool (decide (x.name=s))):=by
 refine x277 ?_
 unfold w277
 exact⟨_,qBG hb,rfl,rfl⟩
def IdC{α:Type}(f:FuncId)(row:α->List Value)(v:α->Value)(sz:Nat):Prop:=∀{V:Mem} {l:Sl} {xs:List α} {g:Nat} {first caps:List Value} (h:qAd V l sz (xs.map row)) (hg:qIJ g) (p:α->Bool) (hp:∀x∈xs,PP g (first++[v x]++caps) V (.bool (p x))),PP f [l.v,.func (.func g) first.toArray caps.toArray] V (.int .i64 (qHC p xs))
theorem idC{α:Type}{f:FuncId}{row:α->List Value}{v:α->Value}{sz:Nat}(H:IdxP f row v sz):IdC f row v sz:=by
 intro V l xs g first caps h hg p hp
 refine Tri.mono (H hg (fun i V1=>V=V1/\qAX (fun y=>!p y) xs i) (fun i V1=>V=V1/\∃x,xs[i]?=some x/\p x=true/\qAX (fun y=>!p y) xs i) (fun i V1 hs=>hs.1 ▸ h) ⟨rfl,qAX.zero _ _⟩ ?_) ?_
 ·rintro i x V1 hx ⟨rfl,hs⟩
  have hm:x∈xs:=List.mem_of_getElem? hx
  exact(hp x hm).callv ⟨_,rfl,fun hb=>⟨rfl,x,hx,hb,hs⟩,fun hb=>⟨rfl,qCT hs hx hb⟩⟩
 ·rintro e V' (⟨i,rfl,rfl,x,hx,hb,hs⟩|⟨rfl,rfl,hs⟩)
  ·rw[qDD hs hx hb];simp_all
  ·rw[qEz hs (Nat.le_refl _)];simp_all
theorem idxMs:IdC 254 Ms.row Ms.v 7:=idC g254
theorem c272(h:qBL V c d){s:ByteArray}{l:Sl}{xs:List ByteArray}(hl:qAd V l 1 (xs.map qBe)):PP 272 [sV c m sc,.string s,l.v] V (.tuple #[.string (qIT d s xs).1,.int .i64 (qIT d s xs).2]):=by
 refine Pur.mk (x272 ?_)
 unfold w272
 refine⟨h.nn,h.nn,qAe h.nn,d.ms,h.cell (i:=4) rfl,fun b hb=>?_⟩
 have hs:=Mem.sub_new hb (cell (.string s) 9)
 have h1:=h.sub hs
 have hl1:=hl.sub hs
 refine(idxMs (l:=d.ms) (first:=[]) (caps:=[pv b]) h1.ok.measures Tryz.call277 (fun t=>decide (t.name=s)) (fun x _=>c277 mss)).call ⟨_,rfl,?_⟩
 unfold qIT meOf
 have key:∀{X:ByteArray×Int} (a:ByteArray) (n:Int),X=(a,n)->(Ending.returned (.tuple #[.string a,.int .i64 n])=Ending.returned (.tuple #[.string X.1,.int .i64 X.2])/\V.sub (V.set b (cell (.string s) 9))):=fun a n h=>by simp_all
 rcases qAP (fun t:Ms=>decide (t.name=s)) d.measures with⟨h1,h2,h3⟩|⟨i,x,i1,i2,i3,i4,i5,i6,i7,_⟩
 ·rw[h1,h2];exact⟨fun _=>key _ _ rfl,fun h=>absurd h (by decide)⟩
 ·rw[i1,i3]
  have hn:=h1.ok.measures.n_eq
  have hlt:(i:Int)<(d.ms.n:Int):=by omega
  obtain⟨y,hm,hx,hdr,hll,hp,hz,hrow⟩:=h1.ok.measures.get hlt
  rw[i2]at hx
  cases hx
  have e1:=hl1.n_eq
  refine⟨fun h=>absurd h (by omega),fun _=>⟨fun he=>?_,fun he=>key _ _ (if_pos (by omega))⟩⟩
  obtain⟨a1,a2,a3⟩:=qEa hl1 (i:=0) (by omega)
  have e2:¬(xs.length≠1):=by omega
  refine⟨a1,by omega,by omega,_,a3,h.nn,h.nn,qAe h.nn,d.ms,h1.cell (i:=4) rfl,hp,hz,hlt,qAe hp,_,_,_,_,_,_,_,hrow,(c258 h1).call ⟨_,rfl,fun hf=>key _ _ ?_,fun hf=>key _ _ ?_⟩⟩
  ·simp only[e2,if_false];unfold qDp;rw[if_pos hf];rfl
  ·simp only[e2,if_false];unfold qDp;rw[if_neg hf];rfl
theorem c275{b:Nat}{s:ByteArray}{t:Nat}(hb:V b=some (cell (.string s) t)){x:ByteArray}:PP 275 [strV x,pv b] V (.bool (!decide (x=s))):=by
 refine x275 ?_
 unfold w275
 exact⟨_,qBG hb,rfl,rfl⟩
theorem c273{b t:Nat}{l:Sl}{xs:List ByteArray}(hb:V b=some (cell (.slice l.p l.n l.c) t))(hl:qAd V l 1 (xs.map qBe)){s r:ByteArray} :
  PP 273 [.string s,.string r,pv b] V (.tuple #[.string (qDp (allT xs s) r).1,.int .i64 (qDp (allT xs s) r).2]):=by
 refine Pur.mk (x273 ?_)
 unfold w273
 refine⟨l,qBG hb,fun b1 hb1=>?_⟩
 have hs:=Mem.sub_new hb1 (cell (.string s) 9)
 refine(c274 (l:=l) (first:=[]) (caps:=[pv b1]) (hl.sub hs) Tryz.call275 (fun x=>!decide (x=s)) (fun x _=>c275 mss)).call ⟨_,rfl,fun h=>?_,fun h=>?_⟩
 ·rw[List.any_eq_not_all_not]at h
  have:allT xs s=false:=by grind [allT]
  rw[this];exact⟨rfl,hs⟩
 ·rw[List.any_eq_not_all_not]at h
  have:allT xs s=true:=by grind [allT]
  rw[this];exact⟨rfl,hs⟩
end
theorem fits_first{d:Ds}{a b:ByteArray}(h:qDu d a b=true):(if a=qJP then b else a)=b:=by
 grind [qDu]
theorem fits_second{d:Ds}{a b:ByteArray}(h:¬qDu d a b=true)(h2:qDu d b a=true):(if a=qJP then b else a)=a:=by
 grind [qDu,absurd]
def qFy(d:Ds)(sc:Sc)(s:ByteArray)(l:List ByteArray):ByteArray×Int:=if sc.body=true then qFa d s l else qIT d s l
theorem measT_ne{d:Ds}{s:ByteArray}{l:List ByteArray}(h:(qIT d s l).2=0):(qIT d s l).1≠sE:=by
 unfold qIT at h ⊢
 split at h
 ·omega
 ·split at h
  ·omega
  ·rename_i h'
   simp only[if_neg h']
   unfold qDp at h ⊢
   split at h
   ·rename_i h2;rw[if_pos h2];simp only;decide
   omega
theorem callE_raw(d:Ds)(sc:Sc)(s:ByteArray)(l:List ByteArray):qHq d sc s l=if (qFy d sc s l).2=0/\(qFy d sc s l).1=sE then (sE,11) else qFy d sc s l:=by
 unfold qHq qFy
 by_cases hb:sc.body=true
 ·simp_all
 simp_all [if_neg,absurd,measT_ne]
section
variable{V:Mem}{d:Ds}{c:Option Addr}{m:Option Nat}{sc:Sc}
def ImpE(V:Mem)(d:Ds)(c:Option Addr)(m:Option Nat)(sc:Sc)(e:E):Prop:=∀V1,V.sub V1->PP 224 [sV c m sc,e.v] V1 (.tuple #[.string (qAn d sc e).1,.int .i64 (qAn d sc e).2])
def rawT(d:Ds)(sc:Sc)(e:E):ByteArray×Int:=if (partsT d sc [] e.k).2≠0 then (sE,(partsT d sc [] e.k).2) else qFy d sc e.s (partsT d sc [] e.k).1
theorem impCall(h:qBL V c d)(e:E)(he:E.Ok V e)(hlen:(e.k.length:Int)<=6)(hk:∀x∈e.k,ImpE V d c m sc x) :
  PP 257 [sV c m sc,e.v] V (.tuple #[.string (rawT d sc e).1,.int .i64 (rawT d sc e).2]):=by
 have hr:=he.rows
 refine Pur.mk (x257 ?_)
 unfold w257 rawT
 refine loop4s (mk:=.string) (mc:=.int .i64) (md:=fun s:Sl=>.slice s.p s.n s.c) (qAl []) 0 ⟨none,0,0⟩ qBD e.k.length (fun i s V1=>∃acc,Own V V1 9 1 s (acc.flatMap qBe)/\partsT d sc [] e.k=partsT d sc acc (e.k.drop i)/\acc.length=i) ⟨[],Own.nil (Mem.sub.refl _) _ _,rfl,rfl⟩ ?_
 rintro i b b' s V1 J hi ⟨acc,hown,hp,hlen'⟩ hJ
 have hr1:=hr.sub hown.sub
 refine⟨fun hlt=>?_,fun hge=>?_⟩
 ·obtain⟨x,hm,hx,hdr,hl,hpp,hz,hrow⟩:=hr1.get hlt
  rw[hdr,qBV]at hp
  refine⟨hpp,hz,hlt,_,_,_,_,hrow,(hk x hm V1 hown.sub).call ⟨_,_,rfl,fun h0=>?_,fun h0=>?_⟩⟩
  ·intro b1 hb1
   rw[if_neg (fun h=>h h0)]at hp
   refine app232 (s:=s) (u:=⟨some ⟨b1,0,none⟩,1,1⟩) (xs:=acc) (ys:=[(qAn d sc x).1]) rfl rfl (hown.new hb1 _) (qIh mss) (by simp;omega) fun s' V' ho=>⟨s',rfl,hr1.succ hlt,hJ hl _ _ _ _ ⟨_,ho,hp,by simp[hlen']⟩⟩
  ·rw[if_pos h0]at hp
   rw[hp]
   simp only[ne_eq,h0,not_false_eq_true,if_true]
   exact⟨by trivial,hown.sub⟩
 ·rw[(hr1.done hge).1,qCJ]at hp
  rw[hp]
  simp only[ne_eq,not_true_eq_false,if_false]
  have hrows:=ownS hown
  have h1:=h.sub hown.sub
  have key:∀{X:ByteArray×Int} (a:ByteArray) (n:Int),X=(a,n)->(Ending.returned (.tuple #[.string a,.int .i64 n])=Ending.returned (.tuple #[.string X.1,.int .i64 X.2])/\V.sub V1):=fun a n h=>by rw[h];exact⟨rfl,hown.sub⟩
  unfold qFy
  refine⟨fun hb=>?_,fun hb=>?_⟩
  ·rw[if_pos hb]
   obtain⟨mt,q1,q2⟩:=h1.procs
   refine⟨h.nn,h.nn,_,q1,qCr.str Tryz.underlying210 Tryz.underlying9 zero121 q2 ?_⟩
   unfold qFa
   cases hpr:qEW d e.s with
   | none=>exact⟨_,⟨none,0,0⟩,_,⟨none,0,0⟩,⟨none,0,0⟩,_,rfl,fun h=>absurd h (by simp),fun _=>key _ _ rfl⟩
   | some p =>
    have hox:=h1.ok.procsOk p (qJX hpr)
    have e1:=hrows.n_eq
    have e2:=hox.params.n_eq
    refine⟨_,p.ps,_,p.ls,p.bs,_,rfl,fun _=>⟨fun he=>?_,fun he=>key _ _ (if_pos (by omega))⟩,fun h=>absurd rfl h⟩
    have hle:acc.length=p.params.length:=by omega
    simp only[hle,ne_eq,not_true_eq_false,if_false]
    refine qDQ acc.length (fun i V2=>V1=V2/\qCf d acc p.params=qCf d (acc.drop i) (p.params.drop i)) ⟨rfl,rfl⟩ ?_
    rintro j b c' V2 J hi ⟨rfl,ha⟩ hJ
    refine⟨fun hlt=>?_,fun hge=>?_⟩
    ·obtain⟨y,hm',hx',hdr',hl',hp',hz',hrow'⟩:=hrows.get hlt
     obtain⟨f,hmf,hxf,hdf,hlf,hpf,hzf,hrowf⟩:=hox.params.get (i:=j) (by omega)
     rw[hdr',hdf,qCf]at ha
     refine⟨hp',hz',hlt,_,hrow',hpf,hzf,by omega,qAe hpf,_,_,hrowf,(c258 h1).call ⟨_,rfl,fun hb=>⟨hrows.succ hlt,hJ hl' _ _ _ ⟨rfl,?_⟩⟩,fun hb=>key _ _ ?_⟩⟩
     ·simp_all
     ·rw[eq_false_of_ne_true hb,Bool.false_and]at ha;rw[ha];rfl
    ·rw[(hrows.done hge).1,qJw]at ha
     simp_all
  ·rw[if_neg hb]
   exact(c272 h1 hrows).call ⟨_,_,rfl,key _ _ rfl⟩
theorem impNode(h:qBL V c d)(hv:VNe d)(hs:qHr V m sc){e:E}{l:Sl}{xs:List ByteArray}(hl:qAd V l 1 (xs.map qBe))(hlen:xs.length=e.k.length)(hok:qDa e.op e.n e.s e.k.length=true)(h7:e.op≠7) :
  PP 260 [sV c m sc,e.v,l.v] V (.tuple #[.string (qFp d sc e.op e.s xs).1,.int .i64 (qFp d sc e.op e.s xs).2]):=by
 have har:=arity hok
 refine Pur.mk (x260 ?_)
 unfold w260
 generalize hX:qFp d sc e.op e.s xs=X
 have key:∀{V1:Mem} (a:ByteArray) (n:Int),V.sub V1->X=(a,n)->(Ending.returned (.tuple #[.string a,.int .i64 n])=Ending.returned (.tuple #[.string X.1,.int .i64 X.2])/\V.sub V1):=fun a n h1 h=>by simp_all
 have rf:=Mem.sub.refl V
 have cFits:=fun a b=>c258 h (s:=a) (t:=b)
 have at0:=fun h:0<xs.length=>qEa hl h
 have at1:=fun h:1<xs.length=>qEa hl h
 have at2:=fun h:2<xs.length=>qEa hl h
 have call:∀(s r:ByteArray),X=qDp (allT xs s) r->qAA [(.slice l.p l.n l.c)] 232 V fun v8 V1 =>
   Tri Tryz.prog 273 #[(.string s),(.string r),(.pointer (qAa v8 0))] V1 fun z V2=>∃v9:ByteArray,∃v10:Int,z=.returned (.tuple #[(.string v9),(.int .i64 v10)])/\(Ending.returned (.tuple #[(.string v9),(.int .i64 v10)])=Ending.returned (.tuple #[.string X.1,.int .i64 X.2])/\V.sub V2):=fun s r hx b hb=>by
  have h1:=Mem.sub_new hb (cell (.slice l.p l.n l.c) 232)
  exact(c273 (l:=l) mss (hl.sub h1)).call ⟨_,_,rfl,key _ _ h1 (by rw[hx])⟩
 unfold qFp at hX
 refine⟨fun o1=>key _ _ rf ?_,fun o1=>⟨fun o2=>key _ _ rf ?_,fun o2=>⟨fun o3=>key _ _ rf ?_,fun o3=>⟨fun o4=>?_,fun o4=>⟨fun o5=>?_,fun o5=>⟨fun o6=>?_,fun o6=>⟨fun o14=>?_,fun o14=>⟨fun o15=>?_,fun o15=>⟨fun o16=>call _ _ ?_,fun o16=>⟨fun o17=>call _ _ ?_,fun o17=>⟨fun o18=>call _ _ ?_,fun o18=>⟨fun o19=>call _ _ ?_,fun o19=>⟨fun o20=>call _ _ ?_,fun o20=>⟨fun o21=>?_,fun o21=>call _ _ ?_⟩⟩⟩⟩⟩⟩⟩⟩⟩⟩⟩⟩⟩⟩
 ·rw[<- hX,if_pos o1];rfl
 ·rw[<- hX,if_neg o1,if_pos o2];rfl
 ·rw[<- hX,if_neg o1,if_neg o2,if_pos o3];rfl
 ·rw[if_neg o1,if_neg o2,if_neg o3,if_pos o4,qJe]at hX
  obtain⟨mb,rfl,hmap⟩:=hs.at_
  refine qCr.str Tryz.underlying262 Tryz.underlying9 zero9 hmap ?_
  cases hvv:qBR sc.vars e.s with
  | none =>
   rw[hvv,Option.getD_none]at hX
   exact⟨_,_,rfl,fun h=>absurd h (by simp),fun _=>key _ _ rf (by rw[<- hX,if_pos rfl];rfl)⟩
  | some t =>
   rw[hvv,Option.getD_some]at hX
   exact⟨t,_,rfl,fun _=>key _ _ rf (by rw[<- hX,if_neg (hs.ne.some hvv)]),fun h=>absurd rfl h⟩
 ·rw[if_neg o1,if_neg o2,if_neg o3,if_neg o4,if_pos o5]at hX
  obtain⟨a1,a2,a3⟩:=at0 (by omega)
  exact⟨a1,by omega,a2,_,a3,(c259 h hv).call ⟨_,_,rfl,key _ _ rf (by rw[<- hX])⟩⟩
 ·rw[if_neg o1,if_neg o2,if_neg o3,if_neg o4,if_neg o5,if_pos o6]at hX
  refine⟨fun hb=>(c177 h).call ⟨_,rfl,fun hn=>key _ _ rf ?_,fun hn=>key _ _ rf ?_⟩,fun hb=>key _ _ rf ?_⟩
  ·simp_all
  ·rw[<- hX,if_neg (by rw[hb];simp),if_pos (eq_false_of_ne_true hn)];rfl
  ·rw[<- hX,if_pos (eq_false_of_ne_true hb)];rfl
 iterate 2
  ·rw[if_neg o1,if_neg o2,if_neg o3,if_neg o4,if_neg o5,if_neg o6,if_neg h7,if_pos (by omega)]at hX
   obtain⟨a1,a2,a3⟩:=at0 (by have:=har.2.1 (by omega);omega)
   obtain⟨b1,b2,b3⟩:=at1 (by have:=har.2.1 (by omega);omega)
   refine⟨a1,by omega,a2,_,a3,b1,by omega,b2,_,b3,(cFits _ _).call ⟨_,rfl,fun h=>key _ _ rf ?_,fun h=>⟨b1,by omega,b2,_,b3,a1,by omega,a2,_,a3,(cFits _ _).call ⟨_,rfl,fun h2=>key _ _ rf ?_,fun h2=>key _ _ rf ?_⟩⟩⟩⟩
   ·rw[<- hX,h];rfl
   ·rw[<- hX,h2,Bool.or_true];rfl
   ·rw[<- hX,eq_false_of_ne_true h,eq_false_of_ne_true h2];rfl
 iterate 2
  ·rw[if_neg o1,if_neg o2,if_neg o3,if_neg o4,if_neg o5,if_neg o6,if_neg h7,if_neg (by omega),if_pos (by omega)]at hX
   exact hX.symm
 iterate 3
  ·rw[if_neg o1,if_neg o2,if_neg o3,if_neg o4,if_neg o5,if_neg o6,if_neg h7,if_neg (by omega),if_neg (by omega),if_pos (by omega)]at hX
   exact hX.symm
 ·rw[if_neg o1,if_neg o2,if_neg o3,if_neg o4,if_neg o5,if_neg o6,if_neg h7,if_neg (by omega),if_neg (by omega),if_neg (by omega),if_pos o21]at hX
  obtain⟨a1,a2,a3⟩:=at0 (by omega)
  obtain⟨b1,b2,b3⟩:=at1 (by omega)
  obtain⟨c1,c2,c3⟩:=at2 (by omega)
  refine⟨a1,by omega,a2,_,a3,fun h0=>⟨b1,by omega,b2,_,b3,c1,by omega,c2,_,c3,(cFits _ _).call ⟨_,rfl,fun h=>⟨c1,by omega,c2,_,c3,key _ _ rf ?_⟩,fun h=>⟨c1,by omega,c2,_,c3,b1,by omega,b2,_,b3,(cFits _ _).call ⟨_,rfl,fun h2=>⟨b1,by omega,b2,_,b3,key _ _ rf ?_⟩,fun h2=>key _ _ rf ?_⟩⟩⟩⟩,fun h0=>key _ _ rf ?_⟩
  ·rw[<- hX,decide_eq_true (show xs.getD 0 sE=qAu from h0),h,fits_first h];rfl
  ·rw[<- hX,decide_eq_true (show xs.getD 0 sE=qAu from h0),h2,Bool.or_true,fits_second h h2];rfl
  ·rw[<- hX,decide_eq_true (show xs.getD 0 sE=qAu from h0),eq_false_of_ne_true h,eq_false_of_ne_true h2];rfl
  ·rw[<- hX,decide_eq_false (show ¬xs.getD 0 sE=qAu from h0)];rfl
 ·rw[if_neg o1,if_neg o2,if_neg o3,if_neg o4,if_neg o5,if_neg o6,if_neg h7,if_neg (by omega),if_neg (by omega),if_neg (by omega),if_neg o21]at hX
  exact hX.symm
theorem impExpr(h:qBL V c d)(hv:VNe d)(hs:qHr V m sc):∀(e:E),E.Ok V e->∀dd,okE dd e=true->ImpE V d c m sc e:=by
 intro e
 induction e using E.ind with
 | h e ih =>
 intro he dd hok V1 hV
 have har:=arity (qFR hok)
 have hk:∀x∈e.k,ImpE V1 d c m sc x:=fun x hx V2 h2=>ih x hx (he.kids x hx) (dd+1) (qHB hok x hx) V2 (hV.trans h2)
 have h1:=h.sub hV
 refine Pur.mk (x224 ?_)
 unfold w224
 have hlen:=qGA d sc e.k []
 refine⟨fun o7=>(impCall h1 e (he.sub hV) har.2.2.2 hk).call ⟨_,_,rfl,?_⟩,fun o7=>?_⟩
 ·have hex:qAn d sc e=if (rawT d sc e).2=0/\(rawT d sc e).1=sE then (sE,11) else rawT d sc e:=by
   rw[qHH]
   unfold rawT
   by_cases h0:(partsT d sc [] e.k).2≠0
   ·simp_all
   simp_all [if_neg,qFp,if_pos,callE_raw]
  rw[hex]
  refine⟨fun h0=>⟨fun h2=>?_,fun h2=>?_⟩,fun h0=>?_⟩
  ·rw[if_pos ⟨h0,h2⟩];exact⟨rfl,Mem.sub.refl _⟩
  ·rw[if_neg (fun h=>h2 h.2)];exact⟨rfl,Mem.sub.refl _⟩
  ·rw[if_neg (fun h=>h0 h.1)];exact⟨rfl,Mem.sub.refl _⟩
 ·rw[qHH]
  have hr:=(he.sub hV).rows
  refine loop4s (mk:=.string) (mc:=.int .i64) (md:=fun s:Sl=>.slice s.p s.n s.c) (qAl []) 0 ⟨none,0,0⟩ qBD e.k.length (fun i s V2=>∃acc,Own V1 V2 9 1 s (acc.flatMap qBe)/\partsT d sc [] e.k=partsT d sc acc (e.k.drop i)/\acc.length=i) ⟨[],Own.nil (Mem.sub.refl _) _ _,rfl,rfl⟩ ?_
  rintro i b b' s V2 J hi ⟨acc,hown,hp,hlen'⟩ hJ
  have hr1:=hr.sub hown.sub
  refine⟨fun hlt=>?_,fun hge=>?_⟩
  ·obtain⟨x,hm,hx,hdr,hl,hpp,hz,hrow⟩:=hr1.get hlt
   rw[hdr,qBV]at hp
   refine⟨hpp,hz,hlt,_,_,_,_,hrow,(hk x hm V2 hown.sub).call ⟨_,_,rfl,fun h0=>?_,fun h0=>?_⟩⟩
   ·intro b1 hb1
    rw[if_neg (fun h=>h h0)]at hp
    refine app232 (s:=s) (u:=⟨some ⟨b1,0,none⟩,1,1⟩) (xs:=acc) (ys:=[(qAn d sc x).1]) rfl rfl (hown.new hb1 _) (qIh mss) (by simp;omega) fun s' V' ho=>⟨s',rfl,hr1.succ hlt,hJ hl _ _ _ _ ⟨_,ho,hp,by simp[hlen']⟩⟩
   ·rw[if_pos h0]at hp
    rw[hp]
    simp only[ne_eq,h0,not_false_eq_true,if_true]
    exact⟨by trivial,hown.sub⟩
  ·have hge':=(hr1.done hge).2
   rw[(hr1.done hge).1,qCJ]at hp
   rw[hp]
   simp only[ne_eq,not_true_eq_false,if_false]
   refine(impNode (h1.sub hown.sub) hv ((hs.sub hV).sub hown.sub) (ownS hown) (by omega) (qFR hok) o7).call ⟨_,_,rfl,rfl,hown.sub⟩
end
theorem qGU{c k:Nat}{p:Option Addr}:(if (c:Int)=(0:Int) then p else qAa p ((0:Int).toNat*k))=p:=by
 have:qAa p ((0:Int).toNat*k)=p:=by
  rw[show (0:Int).toNat*k=0 by simp]
  cases p with
  | none=>rfl
  | some a=>show some (a.add 0)=_;unfold Addr.add;rw[if_pos rfl]
 split
 ·rfl
 ·exact this
theorem sub0{n:Nat}:((n:Int)-(0:Int)).toNat=n:=by omega
theorem qAd.pre{α:Type}{V:Mem}{l:Sl}{sz:Nat}{row:α->List Value}{xs:List α}(h:qAd V l sz (xs.map row)){i:Nat}(hi:i<=xs.length):qAd V ⟨l.p,i,l.c⟩ sz ((xs.take i).map row):=by
 have hn:=h.n_eq
 have hc:=h.cap
 refine⟨by simp[hi],by grind,h.fit,fun r hr=>h.size r ?_,fun j r hj=>h.at_ j r ?_⟩
 ·grind
 grind
theorem qCa{V:Mem}{p:Option Addr}{off n:Nat}{vs:List Value}(h:V.rowp p off n=some vs):V.rowp (qAa p off) 0 n=some vs:=by
 cases p with
 | none=>cases h
 | some a =>
  have:(a.add off).add 0=a.add off:=by rfl
  show V.row ((a.add off).add 0) n=_
  rw[this];exact h
theorem c168{V:Mem}{x:Ty}:PP 168 [x.v] V (.string x.name):=by
 refine x168 ?_
 exact⟨rfl,rfl⟩
theorem c213{V:Mem}{b1 b2 b3 t1 t2 t3 i:Nat}{l:Sl}{xs:List Ty}{x y:Ty}(h1:V b1=some (cell (.func (.func 168) #[] #[]) t1))(h2:V b2=some (cell (.slice l.p l.n l.c) t2))(h3:V b3=some (cell (.int .i64 i) t3))
  (hr:qAd V l 2 (xs.map Ty.row)) (hy:xs[i]?=some y):PP 213 [x.v,pv b1,pv b2,pv b3] V (.bool (decide (x.name=y.name))):=by
 refine x213 ?_
 unfold w213
 have hn:=hr.n_eq
 have hil:=(List.getElem?_eq_some_iff.1 hy).1
 have hlt:(i:Int)<(l.n:Int):=by omega
 obtain⟨y',hm,hx,hdr,hl,hp,hz,hrow⟩:=hr.get hlt
 rw[hy]at hx
 cases hx
 exact⟨.func (.func 168) #[] #[],rfl,qBG h1,.func (.func 168) #[] #[],rfl,qBG h1,l,qBG h2,_,qBG h3,hp,hz,hlt,_,_,hrow,_,_,_,rfl,Tryz.call168,(c168 (x:=x)).callv (first:=[]) (caps:=[]) ⟨_,rfl,qCa hrow,hp,hz,hlt,qBG h3,qBG h2,qBG h1,_,_,_,rfl,Tryz.call168,(c168 (x:=y)).callv (first:=[]) (caps:=[]) ⟨_,rfl,rfl,rfl⟩⟩⟩
theorem c167{V:Mem}{l:Sl}{xs:List Ty}{i:Nat}{y:Ty}(hr:qAd V l 2 (xs.map Ty.row))(hy:xs[i]?=some y):PP 167 [l.v,.int .i64 i,.func (.func 168) #[] #[]] V (.bool ((xs.take i).any fun g=>decide (g.name=y.name))):=by
 refine Pur.mk (x167 (a:=l) (c:=.func (.func 168) #[] #[]) ?_)
 unfold w167
 have hn:=hr.n_eq
 have hc:=hr.cap
 have hil:=(List.getElem?_eq_some_iff.1 hy).1
 refine⟨⟨by omega,by omega,by omega⟩,fun b1 hb1 b2 hb2 b3 hb3=>?_⟩
 have s:=(Mem.sub_new hb1 _).trans ((Mem.sub_new hb2 _).trans (Mem.sub_new hb3 (cell (.int .i64 i) 3)))
 simp only[qGU,sub0]
 refine(c79 (l:=⟨l.p,i,l.c⟩) (first:=[]) (caps:=[pv b1,pv b2,pv b3]) (qAd.pre (hr.sub s) (by omega)) Tryz.call213 (fun g=>decide (g.name=y.name)) (fun x _=>c213 ((Mem.sub_new hb3 _) _ _ ((Mem.sub_new hb2 _) _ _ mss)) ((Mem.sub_new hb3 _) _ _ mss) mss (hr.sub s) hy)).call ⟨_,rfl,rfl,s⟩
theorem c171{V:Mem}{x:Fld}:PP 171 [x.v] V (.string x.name):=by
 refine x171 ?_
 exact⟨rfl,rfl⟩
theorem c215{V:Mem}{b1 b2 b3 t1 t2 t3 i:Nat}{l:Sl}{xs:List Fld}{x y:Fld}(h1:V b1=some (cell (.func (.func 171) #[] #[]) t1))(h2:V b2=some (cell (.slice l.p l.n l.c) t2))(h3:V b3=some (cell (.int .i64 i) t3))
  (hr:qAd V l 2 (xs.map Fld.row)) (hy:xs[i]?=some y):PP 215 [x.v,pv b1,pv b2,pv b3] V (.bool (decide (x.name=y.name))):=by
 refine x215 ?_
 unfold w215
 have hn:=hr.n_eq
 have hil:=(List.getElem?_eq_some_iff.1 hy).1
 have hlt:(i:Int)<(l.n:Int):=by omega
 obtain⟨y',hm,hx,hdr,hl,hp,hz,hrow⟩:=hr.get hlt
 rw[hy]at hx
 cases hx
 exact⟨.func (.func 171) #[] #[],rfl,qBG h1,.func (.func 171) #[] #[],rfl,qBG h1,l,qBG h2,_,qBG h3,hp,hz,hlt,_,_,hrow,_,_,_,rfl,Tryz.call171,(c171 (x:=x)).callv (first:=[]) (caps:=[]) ⟨_,rfl,qCa hrow,hp,hz,hlt,qBG h3,qBG h2,qBG h1,_,_,_,rfl,Tryz.call171,(c171 (x:=y)).callv (first:=[]) (caps:=[]) ⟨_,rfl,rfl,rfl⟩⟩⟩
theorem c170{V:Mem}{l:Sl}{xs:List Fld}{i:Nat}{y:Fld}(hr:qAd V l 2 (xs.map Fld.row))(hy:xs[i]?=some y):PP 170 [l.v,.int .i64 i,.func (.func 171) #[] #[]] V (.bool ((xs.take i).any fun g=>decide (g.name=y.name))):=by
 refine Pur.mk (x170 (a:=l) (c:=.func (.func 171) #[] #[]) ?_)
 unfold w170
 have hn:=hr.n_eq
 have hc:=hr.cap
 have hil:=(List.getElem?_eq_some_iff.1 hy).1
 refine⟨⟨by omega,by omega,by omega⟩,fun b1 hb1 b2 hb2 b3 hb3=>?_⟩
 have s:=(Mem.sub_new hb1 _).trans ((Mem.sub_new hb2 _).trans (Mem.sub_new hb3 (cell (.int .i64 i) 3)))
 simp only[qGU,sub0]
 refine(c75 (l:=⟨l.p,i,l.c⟩) (first:=[]) (caps:=[pv b1,pv b2,pv b3]) (qAd.pre (hr.sub s) (by omega)) Tryz.call215 (fun g=>decide (g.name=y.name)) (fun x _=>c215 ((Mem.sub_new hb3 _) _ _ ((Mem.sub_new hb2 _) _ _ mss)) ((Mem.sub_new hb3 _) _ _ mss) mss (hr.sub s) hy)).call ⟨_,rfl,rfl,s⟩
theorem c174{V:Mem}{x:Pr}:PP 174 [x.v] V (.string x.name):=by
 refine x174 ?_
 exact⟨rfl,rfl⟩
theorem c216{V:Mem}{b1 b2 b3 t1 t2 t3 i:Nat}{l:Sl}{xs:List Pr}{x y:Pr}(h1:V b1=some (cell (.func (.func 174) #[] #[]) t1))(h2:V b2=some (cell (.slice l.p l.n l.c) t2))(h3:V b3=some (cell (.int .i64 i) t3))
  (hr:qAd V l 5 (xs.map Pr.row)) (hy:xs[i]?=some y):PP 216 [x.v,pv b1,pv b2,pv b3] V (.bool (decide (x.name=y.name))):=by
 refine x216 ?_
 unfold w216
 have hn:=hr.n_eq
 have hil:=(List.getElem?_eq_some_iff.1 hy).1
 have hlt:(i:Int)<(l.n:Int):=by omega
 obtain⟨y',hm,hx,hdr,hl,hp,hz,hrow⟩:=hr.get hlt
 rw[hy]at hx
 cases hx
 exact⟨.func (.func 174) #[] #[],rfl,qBG h1,.func (.func 174) #[] #[],rfl,qBG h1,l,qBG h2,_,qBG h3,hp,hz,hlt,_,_,_,_,_,hrow,_,_,_,rfl,Tryz.call174,(c174 (x:=x)).callv (first:=[]) (caps:=[]) ⟨_,rfl,qCa hrow,hp,hz,hlt,qBG h3,qBG h2,qBG h1,_,_,_,rfl,Tryz.call174,(c174 (x:=y)).callv (first:=[]) (caps:=[]) ⟨_,rfl,rfl,rfl⟩⟩⟩
theorem c173{V:Mem}{l:Sl}{xs:List Pr}{i:Nat}{y:Pr}(hr:qAd V l 5 (xs.map Pr.row))(hy:xs[i]?=some y):PP 173 [l.v,.int .i64 i,.func (.func 174) #[] #[]] V (.bool ((xs.take i).any fun g=>decide (g.name=y.name))):=by
 refine Pur.mk (x173 (a:=l) (c:=.func (.func 174) #[] #[]) ?_)
 unfold w173
 have hn:=hr.n_eq
 have hc:=hr.cap
 have hil:=(List.getElem?_eq_some_iff.1 hy).1
 refine⟨⟨by omega,by omega,by omega⟩,fun b1 hb1 b2 hb2 b3 hb3=>?_⟩
 have s:=(Mem.sub_new hb1 _).trans ((Mem.sub_new hb2 _).trans (Mem.sub_new hb3 (cell (.int .i64 i) 3)))
 simp only[qGU,sub0]
 refine(c105 (l:=⟨l.p,i,l.c⟩) (first:=[]) (caps:=[pv b1,pv b2,pv b3]) (qAd.pre (hr.sub s) (by omega)) Tryz.call216 (fun g=>decide (g.name=y.name)) (fun x _=>c216 ((Mem.sub_new hb3 _) _ _ ((Mem.sub_new hb2 _) _ _ mss)) ((Mem.sub_new hb3 _) _ _ mss) mss (hr.sub s) hy)).call ⟨_,rfl,rfl,s⟩
theorem c176{V:Mem}{x:Ms}:PP 176 [x.v] V (.string x.name):=by
 refine x176 ?_
 exact⟨rfl,rfl⟩
theorem c218{V:Mem}{b1 b2 b3 t1 t2 t3 i:Nat}{l:Sl}{xs:List Ms}{x y:Ms}(h1:V b1=some (cell (.func (.func 176) #[] #[]) t1))(h2:V b2=some (cell (.slice l.p l.n l.c) t2))(h3:V b3=some (cell (.int .i64 i) t3))
  (hr:qAd V l 7 (xs.map Ms.row)) (hy:xs[i]?=some y):PP 218 [x.v,pv b1,pv b2,pv b3] V (.bool (decide (x.name=y.name))):=by
 refine x218 ?_
 unfold w218
 have hn:=hr.n_eq
 have hil:=(List.getElem?_eq_some_iff.1 hy).1
 have hlt:(i:Int)<(l.n:Int):=by omega
 obtain⟨y',hm,hx,hdr,hl,hp,hz,hrow⟩:=hr.get hlt
 rw[hy]at hx
 cases hx
 exact⟨.func (.func 176) #[] #[],rfl,qBG h1,.func (.func 176) #[] #[],rfl,qBG h1,l,qBG h2,_,qBG h3,hp,hz,hlt,_,_,_,_,_,_,_,hrow,_,_,_,rfl,Tryz.call176,(c176 (x:=x)).callv (first:=[]) (caps:=[]) ⟨_,rfl,qCa hrow,hp,hz,hlt,qBG h3,qBG h2,qBG h1,_,_,_,rfl,Tryz.call176,(c176 (x:=y)).callv (first:=[]) (caps:=[]) ⟨_,rfl,rfl,rfl⟩⟩⟩
theorem c175{V:Mem}{l:Sl}{xs:List Ms}{i:Nat}{y:Ms}(hr:qAd V l 7 (xs.map Ms.row))(hy:xs[i]?=some y):PP 175 [l.v,.int .i64 i,.func (.func 176) #[] #[]] V (.bool ((xs.take i).any fun g=>decide (g.name=y.name))):=by
 refine Pur.mk (x175 (a:=l) (c:=.func (.func 176) #[] #[]) ?_)
 unfold w175
 have hn:=hr.n_eq
 have hc:=hr.cap
 have hil:=(List.getElem?_eq_some_iff.1 hy).1
 refine⟨⟨by omega,by omega,by omega⟩,fun b1 hb1 b2 hb2 b3 hb3=>?_⟩
 have s:=(Mem.sub_new hb1 _).trans ((Mem.sub_new hb2 _).trans (Mem.sub_new hb3 (cell (.int .i64 i) 3)))
 simp only[qGU,sub0]
 refine(c217 (l:=⟨l.p,i,l.c⟩) (first:=[]) (caps:=[pv b1,pv b2,pv b3]) (qAd.pre (hr.sub s) (by omega)) Tryz.call218 (fun g=>decide (g.name=y.name)) (fun x _=>c218 ((Mem.sub_new hb3 _) _ _ ((Mem.sub_new hb2 _) _ _ mss)) ((Mem.sub_new hb3 _) _ _ mss) mss (hr.sub s) hy)).call ⟨_,rfl,rfl,s⟩
theorem c179{V:Mem}{x:Iv}:PP 179 [x.v] V (.string x.name):=by
 refine x179 ?_
 exact⟨rfl,rfl⟩
theorem c220{V:Mem}{b1 b2 b3 t1 t2 t3 i:Nat}{l:Sl}{xs:List Iv}{x y:Iv}(h1:V b1=some (cell (.func (.func 179) #[] #[]) t1))(h2:V b2=some (cell (.slice l.p l.n l.c) t2))(h3:V b3=some (cell (.int .i64 i) t3))
  (hr:qAd V l 6 (xs.map Iv.row)) (hy:xs[i]?=some y):PP 220 [x.v,pv b1,pv b2,pv b3] V (.bool (decide (x.name=y.name))):=by
 refine x220 ?_
 unfold w220
 have hn:=hr.n_eq
 have hil:=(List.getElem?_eq_some_iff.1 hy).1
 have hlt:(i:Int)<(l.n:Int):=by omega
 obtain⟨y',hm,hx,hdr,hl,hp,hz,hrow⟩:=hr.get hlt
 rw[hy]at hx
 cases hx
 exact⟨.func (.func 179) #[] #[],rfl,qBG h1,.func (.func 179) #[] #[],rfl,qBG h1,l,qBG h2,_,qBG h3,hp,hz,hlt,_,_,_,_,_,_,hrow,_,_,_,rfl,Tryz.call179,(c179 (x:=x)).callv (first:=[]) (caps:=[]) ⟨_,rfl,qCa hrow,hp,hz,hlt,qBG h3,qBG h2,qBG h1,_,_,_,rfl,Tryz.call179,(c179 (x:=y)).callv (first:=[]) (caps:=[]) ⟨_,rfl,rfl,rfl⟩⟩⟩
theorem c178{V:Mem}{l:Sl}{xs:List Iv}{i:Nat}{y:Iv}(hr:qAd V l 6 (xs.map Iv.row))(hy:xs[i]?=some y):PP 178 [l.v,.int .i64 i,.func (.func 179) #[] #[]] V (.bool ((xs.take i).any fun g=>decide (g.name=y.name))):=by
 refine Pur.mk (x178 (a:=l) (c:=.func (.func 179) #[] #[]) ?_)
 unfold w178
 have hn:=hr.n_eq
 have hc:=hr.cap
 have hil:=(List.getElem?_eq_some_iff.1 hy).1
 refine⟨⟨by omega,by omega,by omega⟩,fun b1 hb1 b2 hb2 b3 hb3=>?_⟩
 have s:=(Mem.sub_new hb1 _).trans ((Mem.sub_new hb2 _).trans (Mem.sub_new hb3 (cell (.int .i64 i) 3)))
 simp only[qGU,sub0]
 refine(c219 (l:=⟨l.p,i,l.c⟩) (first:=[]) (caps:=[pv b1,pv b2,pv b3]) (qAd.pre (hr.sub s) (by omega)) Tryz.call220 (fun g=>decide (g.name=y.name)) (fun x _=>c220 ((Mem.sub_new hb3 _) _ _ ((Mem.sub_new hb2 _) _ _ mss)) ((Mem.sub_new hb3 _) _ _ mss) mss (hr.sub s) hy)).call ⟨_,rfl,rfl,s⟩
theorem c181{V:Mem}{x:Bd}:PP 181 [x.v] V (.string x.proc):=by
 refine x181 ?_
 exact⟨rfl,rfl⟩
theorem c221{V:Mem}{b1 b2 b3 t1 t2 t3 i:Nat}{l:Sl}{xs:List Bd}{x y:Bd}(h1:V b1=some (cell (.func (.func 181) #[] #[]) t1))(h2:V b2=some (cell (.slice l.p l.n l.c) t2))(h3:V b3=some (cell (.int .i64 i) t3))
  (hr:qAd V l 5 (xs.map Bd.row)) (hy:xs[i]?=some y):PP 221 [x.v,pv b1,pv b2,pv b3] V (.bool (decide (x.proc=y.proc))):=by
 refine x221 ?_
 unfold w221
 have hn:=hr.n_eq
 have hil:=(List.getElem?_eq_some_iff.1 hy).1
 have hlt:(i:Int)<(l.n:Int):=by omega
 obtain⟨y',hm,hx,hdr,hl,hp,hz,hrow⟩:=hr.get hlt
 rw[hy]at hx
 cases hx
 exact⟨.func (.func 181) #[] #[],rfl,qBG h1,.func (.func 181) #[] #[],rfl,qBG h1,l,qBG h2,_,qBG h3,hp,hz,hlt,_,_,_,_,_,hrow,_,_,_,rfl,Tryz.call181,(c181 (x:=x)).callv (first:=[]) (caps:=[]) ⟨_,rfl,qCa hrow,hp,hz,hlt,qBG h3,qBG h2,qBG h1,_,_,_,rfl,Tryz.call181,(c181 (x:=y)).callv (first:=[]) (caps:=[]) ⟨_,rfl,rfl,rfl⟩⟩⟩
theorem c180{V:Mem}{l:Sl}{xs:List Bd}{i:Nat}{y:Bd}(hr:qAd V l 5 (xs.map Bd.row))(hy:xs[i]?=some y):PP 180 [l.v,.int .i64 i,.func (.func 181) #[] #[]] V (.bool ((xs.take i).any fun g=>decide (g.proc=y.proc))):=by
 refine Pur.mk (x180 (a:=l) (c:=.func (.func 181) #[] #[]) ?_)
 unfold w180
 have hn:=hr.n_eq
 have hc:=hr.cap
 have hil:=(List.getElem?_eq_some_iff.1 hy).1
 refine⟨⟨by omega,by omega,by omega⟩,fun b1 hb1 b2 hb2 b3 hb3=>?_⟩
 have s:=(Mem.sub_new hb1 _).trans ((Mem.sub_new hb2 _).trans (Mem.sub_new hb3 (cell (.int .i64 i) 3)))
 simp only[qGU,sub0]
 refine(c145 (l:=⟨l.p,i,l.c⟩) (first:=[]) (caps:=[pv b1,pv b2,pv b3]) (qAd.pre (hr.sub s) (by omega)) Tryz.call221 (fun g=>decide (g.proc=y.proc)) (fun x _=>c221 ((Mem.sub_new hb3 _) _ _ ((Mem.sub_new hb2 _) _ _ mss)) ((Mem.sub_new hb3 _) _ _ mss) mss (hr.sub s) hy)).call ⟨_,rfl,rfl,s⟩
end Go.Proofs
namespace Go.Proofs
open Go Go.Sx
theorem wrap_id{n:Nat}(h:n<=2147483648):IntKind.wrap .i64 (n:Int)=n:=qHe ⟨by show (-9223372036854775808:Int)<=n;omega,by show (n:Int)<=9223372036854775807;omega⟩
theorem qHm{P:Program}(w:World)(t u ty e:TypeId)(i:TypeInfo)(z:Value)(ht:P.underlying t=some (.slice e))(hu:P.underlying u=some (.int .i64))(hi:P.info? e=some i)(hz:i.zero=some z)
  (n:Nat) (h0:0<n) (hn:n<=2147483648) (hb:i.bytes<=65536) (hs:0<i.size) :
  (Builtin.append_ #[t,u] ty #[.slice none 0 0,.int .i64 n]).run P w =
   .ok (.slice (some ⟨w.heap.size,0,none⟩) n (grownCap w n 0 e)) (w.drew.alloc (.cells (Builtin.zeroCells z.cells n++Builtin.zeroCells z.cells (grownCap w n 0 e-n)) e)):=by
 have hn':n≠0:=by omega
 have h63':¬(9223372036854775807<(n:Int)):=by omega
 have hbm:n*i.bytes<=281474976710656:=Nat.le_trans (Nat.mul_le_mul hn hb) (by decide)
 have h48':¬(281474976710656<Builtin.nextslicecap n 0*i.bytes):=by rw[nextslicecap_zero h0];omega
 have h48i:¬(281474976710656<(n:Int)*(i.bytes:Int)):=by omega
 have hlt:¬((n:Int)<0):=by omega
 have hsz:i.size≠0:=by omega
 simp[Builtin.append_,run_underlying ht,run_underlying hu,sizeOf,typeInfo,zeroValue,hi,hz,hn',h63',h48',h48i,hlt,hsz,wrap_id hn,asInt,asIntOf,Question.forced,run_firstCells_none,newRow,grownCap]
 simp_all [absurd,Nat.ne_of_gt,Nat.mul_pos]
theorem GenK.appendZ{P:Program}{V0 V:Mem}{t u e ty:TypeId}{i:TypeInfo}{z:Value}{sz:Nat}(ht:P.underlying t=some (.slice e))(hu:P.underlying u=some (.int .i64))(hi:P.info? e=some i)(hz:i.zero=some z)(hsize:i.size=sz)(hzs:z.cells.size=sz)(hsz:0<sz)(hby:i.bytes<=65536)
  {x y:Operand} {vals:Operand->Value} {n:Nat} (hx:vals x=.slice none 0 0) (hy:vals y=.int .i64 n) (h0:0<n) (hn:n<=2147483648) (hV:V0.sub V) {q:Value->Mem->Prop}
  (hq:∀b c V',Own V0 V' e sz ⟨some ⟨b,0,none⟩,0,c⟩ []->n<=c->c<=9223372036854775807->q (.slice (sa b) n c) V') :
  GenK P (.call { callee:=.builtin .append,args:=#[x,y],argTypes:=#[t,u] }) ty vals V q:=by
 intro w hw
 subst hsize
 have hr:=qHm (P:=P) w t u ty e i z ht hu hi hz n h0 hn hby hsz
 obtain⟨hnone,hf⟩:=Frm.new hw (.cells (Builtin.zeroCells z.cells n++Builtin.zeroCells z.cells (grownCap w n 0 e-n)) e)
 have hge:=grownCap_ge w n 0 e
 have hle:=grownCap_le_maxLen w n 0 e (by simp only[maxLen];omega)
 refine⟨_,_,_,?_,hf,hq w.heap.size (grownCap w n 0 e) _ ⟨Mem.sub.new hV hnone _,by simp,.inr ⟨w.heap.size,_,rfl,?_,Mem.set_same _ _ _,Nat.zero_le _,hle,?_,by simp⟩⟩ hge (by grind [maxLen])⟩
 ·unfold execOp
  simp only[resolve,invoke,builtin,Sem.run_bind,Sem.run_pure,Result.andThen_ok,List.map_toArray,List.map_cons,List.map_nil,hx,hy,hr]
 ·cases h:V0 w.heap.size with
  | none=>rfl
  | some x=>rw[hV _ _ h]at hnone;cases hnone
 ·simp only[Array.size_append,size_zeroCells,hzs,<- Nat.add_mul]
  simp_all
section
variable{V:Mem}
theorem growF{V0:Mem}(hV:V0.sub V){n:Nat}(hn:n<=1000000):Tri Tryz.prog 137 #[.slice none 0 0,.int .i64 n] V fun r V'=>∃s:Sl,r=.returned (.slice s.p s.n s.c)/\Own V0 V' 113 2 s []:=by
 refine x137 (a:=⟨none,0,0⟩) ?_
 unfold w137
 refine⟨fun h=>absurd h (by omega),fun _=>⟨⟨by simp,by simp⟩,⟨by simp <;> omega,by simp <;> omega⟩,fun h=>⟨⟨by simp,by simp,by simp⟩,?_⟩,fun h=>⟨⟨none,0,0⟩,rfl,Own.nil hV _ _⟩⟩⟩
 have hi:Tryz.prog.info? 113=some (ti 113):=by kernel_rfl
 have hz:(ti 113).zero=some ((ti 113).zero.getD undef):=by kernel_rfl
 have h1:(ti 113).size=2:=by kernel_rfl
 have h2:((ti 113).zero.getD undef).cells.size=2:=by kernel_rfl
 have h3:(ti 113).bytes<=65536:=by rw[show (ti 113).bytes=32 by kernel_rfl];omega
 refine GenK.appendZ (n:=n) Tryz.underlying23 Tryz.underlying3 hi hz h1 h2 (by decide) h3 rfl ?_ (by simp at h;omega) (by omega) hV fun b c V' ho hc hc2=>⟨⟨some ⟨b,0,none⟩,n,c⟩,rfl,⟨by simp,by simp,by simp⟩,?_⟩
 ·rfl
 ·simp only[qGU]
  grind
theorem concatF{l:Sl}{ls:List (Sl×List Fld)}(h:qAd V l 1 (ls.map fun x=>[x.1.v]))(hls:∀x∈ls,qAd V x.1 2 (x.2.map Fld.row))(hlen:ls.length<=100)(hle:∀x∈ls,x.2.length<=1000) :
  Tri Tryz.prog 99 #[.slice l.p l.n l.c] V fun r V'=>∃s:Sl,r=.returned (.slice s.p s.n s.c)/\V.sub V'/\qAd V' s 2 ((ls.flatMap (·.2)).map Fld.row):=by
 refine x99 ?_
 unfold w99
 have hn:=h.n_eq
 refine qFW (mk:=.int .i64) qDt ls.length (fun i n V1=>V=V1/\0<=n/\n<=1000*i) ⟨rfl,by omega,by omega⟩ ?_
 rintro i n V1 J hi ⟨rfl,h0,hb⟩ hJ
 refine⟨fun hlt=>?_,fun hge=>?_⟩
 ·obtain⟨x,hm,hx,hdr,hl,hp,hz,hrow⟩:=h.get hlt
  have e1:=(hls x hm).n_eq
  have e2:=hle x hm
  exact⟨hp,hz,hlt,x.1,hrow,⟨by omega,by omega⟩,fun hneg=>absurd hneg (by omega),fun _=>⟨h.succ hlt,hJ hl _ _ ⟨rfl,by omega,by omega⟩⟩⟩
 ·obtain⟨k,rfl⟩:=Int.eq_ofNat_of_zero_le h0
  refine Tri.mono (growF (Mem.sub.refl V) (n:=k) (by omega)) ?_
  rintro _ V1 ⟨s,rfl,ho⟩
  refine⟨s,rfl,?_⟩
  refine qFW (mk:=fun s:Sl=>.slice s.p s.n s.c) (b0:=s) qBD ls.length (fun i s V2=>Own V V2 113 2 s (((ls.take i).flatMap (·.2)).flatMap Fld.row)/\((ls.take i).flatMap (·.2)).length<=1000*i) ⟨ho,by simp⟩ ?_
  rintro i s V2 J hi ⟨ho,hb⟩ hJ
  have h2:=h.sub ho.sub
  refine⟨fun hlt=>?_,fun hge=>?_⟩
  ·obtain⟨x,hm,hx,hdr,hl,hp,hz,hrow⟩:=h2.get hlt
   have e2:=hle x hm
   refine⟨hp,hz,hlt,x.1,hrow,?_⟩
   refine qFz (s:=s) (u:=x.1) (xs:=(ls.take i).flatMap (·.2)) (ys:=x.2) rfl rfl ho ((hls x hm).sub ho.sub) (by omega) fun s' V' ho'=>⟨s',rfl,h2.succ hlt,hJ hl _ _ ?_⟩
   grind
  ·have:=(h2.done hge).2
   rw[List.take_of_length_le this]at ho
   exact⟨s,rfl,ho.sub,ownF ho⟩
end
end Go.Proofs
namespace Go.Proofs
open Go Go.Sx
attribute [local irreducible] Go.Sx.Tri
section
variable{V:Mem}{d:Ds}{c:Option Addr}{m:Option Nat}{sc:Sc}
theorem c223(h:qBL V c d)(hv:VNe d)(hs:qHr V m sc)(hbody:sc.body=true){x:S}(hx:S.Ok V x)(hsh:qBB x.op x.s x.es x.ls.length x.xs.length=true){res:ByteArray} :
  PP 223 [sV c m sc,x.v,.string res] V (.int .i64 (qEn d sc res x.op x.s x.es)):=by
 obtain⟨a6,a134,a2,a5,alen,aok⟩:=qHT hsh
 rw[S.v_eq]
 refine Pur.mk (x223 ?_)
 unfold w223
 have hf:=qGb hx
 refine⟨fun o6=>?_,fun o6=>?_⟩
 ·obtain⟨e0,he0,-⟩:=a6 o6
  rcases hf with⟨h',-⟩|⟨e0',r,he,hn,hp0,hp2,hrow⟩
  ·simp_all
  ·rw[he0]at he
   cases he
   have hok:=aok e0 (by rw[he0];simp)
   have hoe:=hx.eOk e0 (by rw[he0];simp)
   have hk:∀y∈e0.k,ImpE V d c m sc y:=fun y hy=>impExpr h hv hs y (hoe.kids y hy) 2 (qHB hok y hy)
   refine⟨hp0,by omega,by omega,_,_,_,_,hrow,(impCall h e0 hoe (arity (qFR hok)).2.2.2 hk).call ⟨_,_,rfl,?_⟩⟩
   unfold qEn rawT qFy
   rw[if_pos o6,he0]
   simp only[if_pos hbody]
   split
   ·exact⟨rfl,Mem.sub.refl _⟩
   ·exact⟨rfl,Mem.sub.refl _⟩
 ·unfold qEn
  rw[if_neg o6]
  have hr:=hx.eRows
  refine qGY (mk:=.int .i64) (mc:=fun s:Sl=>.slice s.p s.n s.c) 0 ⟨none,0,0⟩ qBD x.es.length (fun i s V2=>∃acc,Own V V2 9 1 s (acc.flatMap qBe)/\partsT d sc [] x.es=partsT d sc acc (x.es.drop i)/\acc.length=i) ⟨[],Own.nil (Mem.sub.refl _) _ _,rfl,rfl⟩ ?_
  rintro i b s V2 J hi ⟨acc,hown,hpt,hlen'⟩ hJ
  have hr1:=hr.sub hown.sub
  refine⟨fun hlt=>?_,fun hge=>?_⟩
  ·obtain⟨y,hm,hxy,hdr,hl,hpp,hz,hrow⟩:=hr1.get hlt
   rw[hdr,qBV]at hpt
   refine⟨hpp,hz,hlt,_,_,_,_,hrow,(impExpr h hv hs y (hx.eOk y hm) 1 (aok y hm) V2 hown.sub).call ⟨_,_,rfl,fun h0=>?_,fun h0=>?_⟩⟩
   ·intro b1 hb1
    rw[if_neg (fun h=>h h0)]at hpt
    refine app232 (s:=s) (u:=⟨some ⟨b1,0,none⟩,1,1⟩) (xs:=acc) (ys:=[(qAn d sc y).1]) rfl rfl (hown.new hb1 _) (qIh mss) (by grind) fun s' V' ho=>⟨s',rfl,hr1.succ hlt,hJ hl _ _ _ ⟨_,ho,hpt,by simp[hlen']⟩⟩
   ·rw[if_pos h0]at hpt
    rw[hpt]
    simp only[h0,ne_eq,not_false_eq_true,if_true]
    exact⟨by trivial,hown.sub⟩
  ·have hge':=(hr1.done hge).2
   rw[(hr1.done hge).1,qCJ]at hpt
   rw[hpt]
   simp only[ne_eq,not_true_eq_false,if_false]
   have hrows:=ownS hown
   have hal:acc.length=x.es.length:=by omega
   have hsub:=hown.sub
   have h2:=h.sub hown.sub
   have sln:=hrows.n_eq
   have at0:=fun h:0<acc.length=>qEa hrows h
   have at1:=fun h:1<acc.length=>qEa hrows h
   have key:∀X n:Int,X=n->(Ending.returned (.int .i64 n)=Ending.returned (.int .i64 X)/\V.sub V2):=fun X n h=>by simp_all
   refine⟨fun o1=>?_,fun o1=>⟨fun o2=>?_,fun o2=>⟨fun o3=>?_,fun o3=>⟨fun o4=>?_,fun o4=>⟨fun o5=>?_,fun o5=>key _ _ ?_⟩⟩⟩⟩⟩
   ·obtain⟨b1,b2,b3⟩:=at0 (by omega)
    obtain⟨mb,rfl,hmap⟩:=(hs.sub hown.sub).at_
    rw[if_pos o1,qJe]
    refine qCr.str Tryz.underlying262 Tryz.underlying9 zero9 hmap ?_
    cases hvv:qBR sc.vars x.s with
    | none =>
     rw[Option.getD_none]
     exact⟨_,_,rfl,fun h=>absurd h (by simp),fun _=>key _ _ (if_pos rfl)⟩
    | some t =>
     rw[Option.getD_some]
     refine⟨t,_,rfl,fun _=>⟨b1,by omega,b2,_,b3,(c258 h2).call ⟨_,rfl,fun hb=>key _ _ ?_,fun hb=>key _ _ ?_⟩⟩,fun h=>absurd rfl h⟩
     ·rw[if_neg (hs.ne.some hvv),if_pos hb]
     ·rw[if_neg (hs.ne.some hvv),if_neg hb]
   ·obtain⟨b1,b2,b3⟩:=at0 (by omega)
    obtain⟨c1,c2,c3⟩:=at1 (by omega)
    rw[if_neg o1,if_pos o2]
    refine⟨b1,by omega,b2,_,b3,(c259 h2 hv).call ⟨_,_,rfl,fun hb=>⟨c1,by omega,c2,_,c3,(c258 h2).call ⟨_,rfl,fun hc=>key _ _ ?_,fun hc=>key _ _ ?_⟩⟩,fun hb=>key _ _ ?_⟩⟩
    ·simp_all
    ·simp_all
    omega
   ·grind [qAu]
   ·grind [qAu]
   ·have h5:=a5 o5
    rw[if_neg o1,if_neg o2,if_neg (by omega),if_pos o5]
    refine⟨fun hn=>?_,fun hn=>?_⟩
    ·grind [sE]
    ·have h0:¬acc.length=0:=by omega
     obtain⟨b1,b2,b3⟩:=at0 (by omega)
     rw[if_neg h0]
     refine⟨fun he=>key _ _ (by grind [sE]),fun he=>⟨b1,by omega,b2,_,b3,(c258 h2).call ⟨_,rfl,fun hb=>key _ _ ?_,fun hb=>key _ _ ?_⟩⟩⟩
     ·grind [sE]
     simp_all
   omega
def placeT(r:Int×Int):Int:=if r.2=0 then 0 else r.1
def Cnt(V:Mem)(b t:Nat)(a:Int)(V1:Mem):Prop:=(V.set b (cell (.int .i64 a) t)).sub V1
theorem Cnt.st{b t:Nat}{a k:Int}{V1:Mem}(h:Cnt V b t a V1):Cnt V b t k (V1.set b (cell (.int .i64 k) t)):=fun q o hq=>by
 by_cases e:q=b
 ·grind [Mem.set_same]
 ·rw[Mem.set_ne e]at hq ⊢
  exact h q o (by rw[Mem.set_ne e];exact hq)
theorem Cnt.call{b t:Nat}{a k:Int}{V1 V2:Mem}(h:Cnt V b t a V1)(h2:Cnt V1 b t k V2):Cnt V b t k V2:=(Cnt.st h).trans h2
theorem Cnt.cell{b t:Nat}{a:Int}{V1:Mem}(h:Cnt V b t a V1):V1 b=some (Sx.cell (.int .i64 a) t):=h _ _ mss
theorem Cnt.base{V0:Mem}{b t:Nat}{a:Int}{V1:Mem}(h:Cnt V b t a V1)(h0:V0.sub V)(hb:V0 b=none):V0.sub V1:=(h0.set hb _).trans h
theorem Cnt.other{b t q:Nat}{a:Int}{V1:Mem}{o:Obj}(h:Cnt V b t a V1)(hq:V q=some o)(hn:q≠b):V1 q=some o:=h _ _ (by rw[Mem.set_ne hn];exact hq)
def ImpS(V0:Mem)(d:Ds)(c:Option Addr)(m:Option Nat)(sc:Sc)(res:ByteArray)(b t:Nat)(l:List S):Prop:=∀(V:Mem) (sl:Sl) (n dd:Int),V0.sub V->V b=some (cell (.int .i64 n) t)->qAd V0 sl 5 (l.map S.row)->(∀x∈l,S.Ok V0 x)->qFQ dd l=true->0<=n->n+qEg l<=1000 ->
 Tri Tryz.prog 183 #[sV c m sc,.slice sl.p sl.n sl.c,.string res,pv b] V fun r V'=>r=.returned (.tuple #[.int .i64 (placeT (qBF d sc res n l)),.int .i64 (qBF d sc res n l).2])/\∃n',Cnt V b t n' V'/\((qBF d sc res n l).2=0->n'=(qBF d sc res n l).1)
theorem impStep{V0:Mem}{b t:Nat}{res:ByteArray}(hb:V0 b=none)(h:qBL V0 c d)(hv:VNe d)(hs:qHr V0 m sc)(hbody:sc.body=true){l:List S}(hk:∀x∈l,ImpS V0 d c m sc res b t x.ls/\ImpS V0 d c m sc res b t x.xs):ImpS V0 d c m sc res b t l:=by
 intro V sl n dd hV hcell hr hok hokS hn0 hn1
 refine x183 ?_
 unfold w183
 refine qDQ l.length (fun i V1=>∃a,Cnt V b t a V1/\0<=a/\a+qEg (l.drop i)<=1000/\qBF d sc res n l=qBF d sc res a (l.drop i)) ⟨n,by grind [Cnt,Mem.set_eq,Mem.sub.refl],hn0,hn1,rfl⟩ ?_
 rintro i b' c' V1 J hi ⟨a,hV1,ha0,ha1,he⟩ hJ
 have hV01:=hV1.base hV hb
 have hcell1:=hV1.cell
 have bad:∀{V2:Mem} (p e k:Int),Cnt V b t k V2->e≠0->qBF d sc res n l=(p,e)->(Ending.returned (.tuple #[.int .i64 p,.int .i64 e])=Ending.returned (.tuple #[.int .i64 (placeT (qBF d sc res n l)),.int .i64 (qBF d sc res n l).2])/\∃n',Cnt V b t n' V2/\((qBF d sc res n l).2=0->n'=(qBF d sc res n l).1)):=fun {V2} p e k h1 h2 h3=>by
  rw[h3]
  unfold placeT
  grind
 refine⟨fun hlt=>?_,fun hge=>?_⟩
 ·obtain⟨x,hm,hx,hdr,hl,hpp,hz,hrow⟩:=(hr.sub hV01).get hlt
  have hrow:=S.row_get hrow
  have hox:=hok x hm
  obtain⟨hsh,hk1,hk2⟩:=okS_shape (qKd hokS x hm)
  rw[hdr,qHP,szS_eq]at ha1
  rw[hdr,qFH,stT_eq]at he
  have hC:=Cnt.st (k:=a+1) hV1
  have hW2:=hC.base hV hb
  have cs:=c223 (h.sub hW2) hv (hs.sub hW2) hbody (hox.sub hW2) hsh (res:=res)
  rw[S.v_eq]at cs
  refine⟨hpp,hz,hlt,_,_,_,_,_,hrow,by simp,_,qBG hcell1,by simp,_,qBG hcell1,⟨by omega,by omega⟩,by simp,StT.cell hcell1 (cs.call ⟨_,rfl,fun h0=>?_,fun h0=>?_⟩)⟩
  ·have e1:¬(qEn d sc res x.op x.s x.es≠0):=fun h=>h h0
   rw[if_neg e1]at he
   intro b1 hb1
   have hbb:b1≠b:=fun e=>by grind [Mem.set_same]
   have hC2:Cnt V b t (a+1) _:=Mem.sub.new hC hb1 (.cells #[.slice x.ll.p x.ll.n x.ll.c,.slice x.xl.p x.xl.n x.xl.c] 117 (0,0))
   have hn1':=qHQ d sc res (a+1) x.ls
   refine qDQ 2 (fun j V2=>∃k,Cnt V b t k V2/\V2 b1=some (.cells #[.slice x.ll.p x.ll.n x.ll.c,.slice x.xl.p x.xl.n x.xl.c] 117 (0,0))/\((j=0/\k=a+1)∨(j=1/\(qBF d sc res (a+1) x.ls).2=0/\k=(qBF d sc res (a+1) x.ls).1)∨(j=2/\(qBF d sc res (a+1) x.ls).2=0/\(qBF d sc res (qBF d sc res (a+1) x.ls).1 x.xs).2=0/\k=(qBF d sc res (qBF d sc res (a+1) x.ls).1 x.xs).1))) ⟨a+1,hC2,Mem.set_same _ _ _,.inl ⟨rfl,rfl⟩⟩ ?_
   rintro j b'' c'' V2 J1 hj ⟨k,hk2',hb1V,hst⟩ hJ1
   have hV02:=hk2'.base hV hb
   refine⟨fun hj2=>?_,fun hj2=>?_⟩
   ·rcases hst with⟨rfl,rfl⟩|⟨rfl,hz1,rfl⟩|⟨rfl,-⟩
    ·refine⟨by simp[qAa],by omega,by omega,x.ll,qAc hb1V 0 1 (by simp),Tri.mono ((hk x hm).1 V2 x.ll (a+1) (dd+1) hV02 hk2'.cell hox.lRows hox.lOk hk1 (by omega) (by omega)) ?_⟩
     rintro _ V3 ⟨rfl,n',hn',hn2⟩
     refine⟨_,_,rfl,fun h3=>?_,fun h3=>?_⟩
     ·have:=hn2 h3
      subst this
      exact⟨⟨by omega,by omega⟩,hJ1 (by omega) _ _ _ ⟨_,hk2'.call hn',hn'.other hb1V hbb,.inr (.inl ⟨rfl,h3,rfl⟩)⟩⟩
     ·have e2:(qBF d sc res (a+1) x.ls).2≠0:=h3
      rw[if_pos e2,if_pos e2]at he
      refine bad _ _ _ (hk2'.call hn') e2 ?_
      grind
    ·have e2:¬(qBF d sc res (a+1) x.ls).2≠0:=fun h=>h hz1
     rw[if_neg e2]at he
     have hn1':=hn1' hz1
     refine⟨by simp[qAa],by omega,by omega,x.xl,qAc hb1V 1 1 (by simp),Tri.mono ((hk x hm).2 V2 x.xl _ (dd+1) hV02 hk2'.cell hox.xRows hox.xOk hk2 (by omega) (by omega)) ?_⟩
     rintro _ V3 ⟨rfl,n',hn',hn2⟩
     refine⟨_,_,rfl,fun h3=>?_,fun h3=>?_⟩
     ·have:=hn2 h3
      subst this
      exact⟨⟨by omega,by omega⟩,hJ1 (by omega) _ _ _ ⟨_,hk2'.call hn',hn'.other hb1V hbb,.inr (.inr ⟨rfl,hz1,h3,rfl⟩)⟩⟩
     ·have e3:(qBF d sc res (qBF d sc res (a+1) x.ls).1 x.xs).2≠0:=h3
      rw[if_pos e3]at he
      refine bad _ _ _ (hk2'.call hn') e3 ?_
      grind
    ·omega
   ·rcases hst with⟨rfl,-⟩|⟨rfl,-⟩|⟨rfl,hz1,hz2,rfl⟩
    ·omega
    ·omega
    ·have e2:¬(qBF d sc res (a+1) x.ls).2≠0:=fun h=>h hz1
     have e3:¬(qBF d sc res (qBF d sc res (a+1) x.ls).1 x.xs).2≠0:=fun h=>h hz2
     rw[if_neg e2,if_neg e3]at he
     have hn1':=hn1' hz1
     have hn2':=qHQ d sc res _ x.xs hz2
     exact⟨(hr.sub hV01).succ hlt,hJ hl _ _ _ ⟨_,hk2',by omega,by omega,he⟩⟩
  grind
 ·rw[((hr.sub hV01).done hge).1,stsT_nil]at he
  rw[he]
  exact⟨rfl,a,hV1,fun _=>rfl⟩
theorem impStmts{V0:Mem}{b t:Nat}{res:ByteArray}(hb:V0 b=none)(h:qBL V0 c d)(hv:VNe d)(hs:qHr V0 m sc)(hbody:sc.body=true)(l:List S):ImpS V0 d c m sc res b t l:=by
 have hS:∀s:S,ImpS V0 d c m sc res b t s.ls/\ImpS V0 d c m sc res b t s.xs:=by
  intro s
  induction s using S.ind with
  | h s i1 i2=>grind [impStep]
 grind [impStep]
theorem c214{b t:Nat}{f x:Fld}(hb:V b=some (.cells #[.string f.name,.string f.ty] t (0,0))):PP 214 [x.v,pv b] V (.bool (decide (x.name=f.name))):=by
 refine x214 ?_
 unfold w214
 exact⟨by simp,_,qAc hb 0 1 (by simp),rfl,rfl⟩
theorem c169(h:qBL V c d){l:Sl}{xs:List Fld}(hl:qAd V l 2 (xs.map Fld.row)):PP 169 [.pointer c,l.v] V (.int .i64 (qCi d xs)):=by
 refine Pur.mk (x169 ?_)
 unfold w169 qCi
 generalize hf:(fun i f=>if qEh d xs i f≠0 then some (qEh d xs i f) else none)=fn
 refine qAJ xs.length (fun k V1=>V.sub V1/\qAh fn 0 xs=qAh fn k (xs.drop k)) ⟨Mem.sub.refl _,rfl⟩ ?_
 rintro k b V1 J hi ⟨hV,ha⟩ hJ
 have hl1:=hl.sub hV
 refine⟨fun hk=>?_,fun hk=>?_⟩
 ·obtain⟨g,hmg,hxg,hdg,hlg,hpg,hzg,hrowg⟩:=hl1.get hk
  rw[hdg]at ha
  have hc:=hl1.cap
  refine⟨hpg,hzg,hk,_,_,hrowg,⟨by omega,by omega,by omega⟩,fun b1 hb1=>?_⟩
  have s1:=Mem.sub_new hb1 (.cells #[.string g.name,.string g.ty] 113 (0,0))
  have hV2:=hV.trans s1
  simp only[qGU,sub0]
  have key:∀X n:Int,X=n->(Ending.returned (.int .i64 n)=Ending.returned (.int .i64 X)/\V.sub (V1.set b1 (.cells #[.string g.name,.string g.ty] 113 (0,0)))):=fun X n h=>by simp_all
  refine(c75 (l:=⟨l.p,k,l.c⟩) (first:=[]) (caps:=[pv b1]) (qAd.pre (hl.sub hV2) (by omega)) Tryz.call214 (fun x=>decide (x.name=g.name)) (fun x _=>c214 (f:=g) mss)).call ⟨_,rfl,fun h1=>?_,fun h1=>⟨by simp[qAa],_,qAc mss 1 1 (by simp),(c172 (h.sub hV2)).call ⟨_,rfl,fun h2=>?_,fun h2=>?_⟩⟩⟩
  ·have e:qEh d xs k g=10:=by grind [qEh]
   rw[ha,qAg (b:=10) (by grind)]
   grind
  ·have e:qEh d xs k g=0:=by grind [qEh]
   exact⟨hl1.succ hk,hJ hlg _ _ ⟨hV2,by rw[ha,qAk (by grind)]⟩⟩
  ·have e:qEh d xs k g=9:=by grind [qEh]
   rw[ha,qAg (b:=9) (by grind)]
   grind
 ·rw[(hl1.done hk).1,qAh]at ha
  simp_all
def FltAt(V:Mem)(p:Option Addr)(o:Option Flt):Prop:=match o with
 | none=>p=none
 | some r=>∃b t,p=some ⟨b,0,none⟩/\V b=some (.cells #[.string r.1,.int .i64 r.2.1,.int .i64 r.2.2] t (0,0))
def FltC(f:FuncId)(args:List Value)(V:Mem)(o:Option Flt):Prop:=Tri Tryz.prog f args.toArray V fun r V'=>∃p,r=.returned (.pointer p)/\V.sub V'/\FltAt V' p o
theorem c185(h:qBL V c d)(hv:VNe d)(hs:qHr V m sc){e:E}(he:E.Ok V e)(hok:okE 1 e=true){s t:ByteArray} :
  FltC 185 [sV c m sc,.string s,e.v,.string t] V (if qBq d sc e t≠0 then some (s,-1,qBq d sc e t) else none):=by
 refine x185 ?_
 unfold w185 qBq
 refine(impExpr h hv hs e he 1 hok V (Mem.sub.refl _)).call ⟨_,_,rfl,fun h0=>⟨fun h1=>?_,fun h1=>fun b hb=>?_⟩,fun h0=>fun b hb=>?_⟩
 ·simp only[h0,h1,ne_eq,not_true_eq_false,if_false,if_true];exact⟨_,rfl,Mem.sub.refl _,rfl⟩
 ·simp only[h0,h1,ne_eq,not_true_eq_false,if_false];exact⟨_,rfl,Mem.sub_new hb _,b,_,rfl,Mem.set_same _ _ _⟩
 ·simp only[h0,ne_eq,not_false_eq_true,if_true];exact⟨_,rfl,Mem.sub_new hb _,b,_,rfl,Mem.set_same _ _ _⟩
end
def qHi:Prop:=∀(V:Mem) (c:Option Addr) (d:Ds) (body:Bool) (l:Sl) (ls:List (Sl×List Fld)),qBL V c d->qAd V l 1 (ls.map fun x=>[x.1.v])->(∀x∈ls,qAd V x.1 2 (x.2.map Fld.row)) ->
 Tri Tryz.prog 222 #[.pointer c,.bool body,.slice l.p l.n l.c] V fun r V'=>∃mb,r=.returned (.agg #[.pointer c,.map (some mb),.bool body])/\V.sub V'/\V mb=none/\qBo V' mb (fun k=>(qBR (ls.flatMap (·.2)++d.globals) k).map Value.string)
def NewC:Prop:=∀(V:Mem) (d:Ds),Ds.Ok V d->Tri Tryz.prog 94 #[d.v] V fun r V'=>∃c,r=.returned (.pointer c)/\V.sub V'/\qBL V' c d
section
variable{V:Mem}{d:Ds}{c:Option Addr}
theorem qFS{a b:List Fld}(h:NE a)(k:NE b):NE (a++b):=fun f hf=>by
 rcases List.mem_append.1 hf with h'|h'
 ·exact h f h'
 ·exact k f h'
theorem impInProc(hS:qHi)(h:qBL V c d)(hv:VNe d){p:Pr}(hm:p∈d.procs)(hp:Pr.Ok V p):Tri Tryz.prog 182 #[.pointer c,p.v] V fun r V'=>∃m,r=.returned (sV c m (qAf d p))/\V.sub V'/\qHr V' m (qAf d p):=by
 refine x182 ?_
 unfold w182
 intro b hb
 have hs:=Mem.sub_new hb (.cells #[.slice p.ps.p p.ps.n p.ps.c,.slice p.ls.p p.ls.n p.ls.c] 23 (0,0))
 refine Tri.mono (hS _ c d true ⟨some ⟨b,0,none⟩,2,2⟩ [(p.ps,p.params),(p.ls,p.locals)] (h.sub hs) (qAd.cells (xs:=[(p.ps,p.params),(p.ls,p.locals)]) (row:=fun x=>[x.1.v]) mss rfl (fun _=>rfl) rfl (by simp)) ?_) ?_
 ·intro x hx
  simp only[List.mem_cons,List.not_mem_nil,or_false]at hx
  rcases hx with rfl|rfl
  ·exact hp.params.sub hs
  ·exact hp.locals.sub hs
 ·rintro _ V' ⟨mb,rfl,h1,h2,h3⟩
  refine⟨_,_,_,rfl,some mb,rfl,hs.trans h1,⟨mb,rfl,h3.congr fun k=>?_⟩,qFS (qFS (hv.params p hm).1 (hv.params p hm).2) hv.globals⟩
  simp[qAf]
theorem impInBound(hS:qHi)(h:qBL V c d)(hv:VNe d){p:Pr}(hm:p∈d.procs)(hp:Pr.Ok V p):Tri Tryz.prog 186 #[.pointer c,p.v] V fun r V'=>∃m,r=.returned (sV c m (qBw d p))/\V.sub V'/\qHr V' m (qBw d p):=by
 refine x186 ?_
 unfold w186
 intro b hb
 have hs:=Mem.sub_new hb (.cells #[.slice p.ps.p p.ps.n p.ps.c] 23 (0,0))
 refine Tri.mono (hS _ c d false ⟨some ⟨b,0,none⟩,1,1⟩ [(p.ps,p.params)] (h.sub hs) (qAd.cells (xs:=[(p.ps,p.params)]) (row:=fun x=>[x.1.v]) mss rfl (fun _=>rfl) rfl (by simp)) ?_) ?_
 ·intro x hx
  simp only[List.mem_cons,List.not_mem_nil,or_false]at hx
  rcases hx with rfl
  exact hp.params.sub hs
 ·rintro _ V' ⟨mb,rfl,h1,h2,h3⟩
  refine⟨_,_,_,rfl,some mb,rfl,hs.trans h1,⟨mb,rfl,h3.congr fun k=>?_⟩,qFS (hv.params p hm).1 hv.globals⟩
  simp[qBw]
theorem qEy(hS:qHi)(h:qBL V c d)(hv:VNe d){t:ByteArray}:Tri Tryz.prog 184 #[.pointer c,.string t] V fun r V'=>∃m,r=.returned (sV c m (qAw d t))/\V.sub V'/\qHr V' m (qAw d t):=by
 refine x184 ?_
 unfold w184
 refine Tri.mono (hS V c d false ⟨none,0,0⟩ [] h qAd.nil (by simp)) ?_
 rintro _ V' ⟨mb,rfl,h1,h2,h3⟩
 refine⟨_,_,_,rfl,fun he=>?_,fun he=>?_⟩
 ·refine⟨some mb,rfl,h1,⟨mb,rfl,h3.congr fun k=>?_⟩,?_⟩
  ·grind [qAw,sE]
  ·unfold qAw sE;rw[if_pos he];exact hv.globals
 ·refine UpdK.str Tryz.underlying262 Tryz.underlying9 h3 fun o ho=>?_
  refine⟨some mb,rfl,h1.set h2 _,⟨mb,rfl,ho.congr fun k=>?_⟩,?_⟩
  ·unfold qAw sE
   rw[if_neg he]
   unfold qBR
   simp only[List.flatMap_nil,List.nil_append,List.cons_append,List.find?_cons]
   rw[show (⟨#[116,104,105,115]⟩:ByteArray)=sThisF from rfl]
   grind
  ·unfold qAw sE
   rw[if_neg he]
   refine qFS (fun f hf=>?_) hv.globals
   simp only[List.mem_cons,List.not_mem_nil,or_false]at hf
   subst hf
   exact he
theorem qCS{V1:Mem}{X:Option Flt}{s:ByteArray}{n e:Int}(hX:X=some (s,n,e))(h:V.sub V1):qAA [(.string s),(.int .i64 n),(.int .i64 e)] 182 V1 fun v8 V2=>(∃p,Ending.returned (.pointer (qAa v8 0))=.returned (.pointer p)/\V.sub V2/\FltAt V2 p X):=fun b hb=>by
 subst hX
 exact⟨some ⟨b,0,none⟩,rfl,h.trans (Mem.sub_new hb _),b,_,rfl,Mem.set_same _ _ _⟩
theorem oneT_cases(d:Ds)(l:List Fld)(i:Nat)(f:Fld):((l.take i).any (fun g=>decide (g.name=f.name))=true/\qEh d l i f=10)∨(¬(l.take i).any (fun g=>decide (g.name=f.name))=true/\qBf d f.ty=true/\qEh d l i f=0)∨(¬(l.take i).any (fun g=>decide (g.name=f.name))=true/\¬qBf d f.ty=true/\qEh d l i f=9):=by
 grind [qEh,qBf,inr]
theorem impTypes(h:qBL V c d):FltC 130 [.pointer c] V (qFb d):=by
 refine x130 ?_
 unfold w130 qFb
 refine⟨h.nn,h.nn,qAe h.nn,d.ts,h.cell (i:=1) rfl,?_⟩
 unfold types1
 generalize hf1:(fun i (t:Ty)=>if (d.types.take i).any (fun g=>decide (g.name=t.name))=true then some ((t.name,-1,10):Flt) else none)=F1
 refine qAJ d.types.length (fun k V1=>V=V1/\qAh F1 0 d.types=qAh F1 k (d.types.drop k)) ⟨rfl,rfl⟩ ?_
 rintro k b V1 J hi ⟨rfl,ha⟩ hJ
 have rf:=Mem.sub.refl V
 refine⟨fun hk=>?_,fun hk=>?_⟩
 ·obtain⟨g,hm,hx,hdr,hl,hp,hz,hrow⟩:=h.ok.types.get hk
  rw[hdr]at ha
  refine⟨hp,hz,hk,_,_,hrow,h.nn,h.nn,qAe h.nn,d.ts,h.cell (i:=1) rfl,(c167 h.ok.types hx).call ⟨_,rfl,fun h1=>qCS ?_ rf,fun h1=>⟨h.ok.types.succ hk,hJ hl _ _ ⟨rfl,?_⟩⟩⟩⟩
  ·rw[ha,qAg (b:=(g.name,-1,10)) (by grind)];rfl
  ·rw[ha,qAk (by grind)]
 rw[(h.ok.types.done hk).1,qAh]at ha
 rw[ha,Option.none_or]
 refine⟨h.nn,h.nn,qAe h.nn,d.ts,h.cell (i:=1) rfl,?_⟩
 unfold types2
 generalize hf2:(fun(_:Nat) (t:Ty)=>if qCi d t.fields≠0 then some ((t.name,-1,qCi d t.fields):Flt) else none)=F2
 refine qAJ d.types.length (fun k V1=>V=V1/\qAh F2 0 d.types=qAh F2 k (d.types.drop k)) ⟨rfl,rfl⟩ ?_
 rintro k b V1 J hi ⟨rfl,ha⟩ hJ
 refine⟨fun hk=>?_,fun hk=>?_⟩
 ·obtain⟨g,hm,hx,hdr,hl,hp,hz,hrow⟩:=h.ok.types.get hk
  rw[hdr]at ha
  refine⟨hp,hz,hk,_,_,hrow,(c169 h (h.ok.typesOk g hm).fields).call ⟨_,rfl,fun h1=>⟨h.ok.types.succ hk,hJ hl _ _ ⟨rfl,?_⟩⟩,fun h1=>qCS ?_ rf⟩⟩
  ·rw[ha,qAk (by grind)]
  ·rw[ha,qAg (b:=(g.name,-1,qCi d g.fields)) (by grind)];rfl
 rw[(h.ok.types.done hk).1,qAh]at ha
 rw[ha,Option.none_or]
 refine⟨h.nn,h.nn,qAe h.nn,d.gs,h.cell (i:=2) rfl,?_⟩
 unfold types3
 generalize hf3:(fun i (f:Fld)=>if qEh d d.globals i f≠0 then some ((f.name,-1,qEh d d.globals i f):Flt) else none)=F3
 refine qAJ d.globals.length (fun k V1=>V=V1/\qAh F3 0 d.globals=qAh F3 k (d.globals.drop k)) ⟨rfl,rfl⟩ ?_
 rintro k b V1 J hi ⟨rfl,ha⟩ hJ
 refine⟨fun hk=>?_,fun hk=>?_⟩
 ·obtain⟨g,hm,hx,hdr,hl,hp,hz,hrow⟩:=h.ok.globals.get hk
  rw[hdr]at ha
  have ho:=oneT_cases d d.globals k g
  refine⟨hp,hz,hk,_,_,hrow,h.nn,h.nn,qAe h.nn,d.gs,h.cell (i:=2) rfl,(c170 h.ok.globals hx).call ⟨_,rfl,fun h1=>qCS ?_ rf,fun h1=>(c172 h).call ⟨_,rfl,fun h2=>⟨h.ok.globals.succ hk,hJ hl _ _ ⟨rfl,?_⟩⟩,fun h2=>qCS ?_ rf⟩⟩⟩
  ·rcases ho with⟨_,e⟩|⟨h',_⟩|⟨h',_⟩
   ·rw[ha,qAg (b:=(g.name,-1,10)) (by grind)]
   ·grind
   simp_all
  ·rcases ho with⟨h',_⟩|⟨_,_,e⟩|⟨_,h',_⟩
   ·grind
   ·rw[ha,qAk (by grind)]
   simp_all
  ·rcases ho with⟨h',_⟩|⟨_,h',_⟩|⟨_,_,e⟩
   ·grind
   ·grind
   ·rw[ha,qAg (b:=(g.name,-1,9)) (by grind)]
 rw[(h.ok.globals.done hk).1,qAh]at ha
 rw[ha]
 exact⟨none,rfl,rf,rfl⟩
theorem impHeads(h:qBL V c d)(hsm:Small d):FltC 131 [.pointer c] V (qEe d):=by
 refine x131 ?_
 unfold w131 qEe
 refine⟨h.nn,h.nn,qAe h.nn,d.ps,h.cell (i:=3) rfl,?_⟩
 generalize hf1:(fun i (p:Pr)=>if (d.procs.take i).any (fun g=>decide (g.name=p.name))=true then some ((p.name,-1,10):Flt) else if qCi d (p.params++p.locals)≠0 then some (p.name,-1,qCi d (p.params++p.locals)) else if p.result≠sE/\qBf d p.result=false then some (p.name,-1,9) else none)=F1
 refine qAJ d.procs.length (fun k V1=>V.sub V1/\qAh F1 0 d.procs=qAh F1 k (d.procs.drop k)) ⟨Mem.sub.refl _,rfl⟩ ?_
 rintro k b V1 J hi ⟨hV,ha⟩ hJ
 have h1:=h.sub hV
 refine⟨fun hk=>?_,fun hk=>?_⟩
 ·obtain⟨g,hm,hx,hdr,hl,hp,hz,hrow⟩:=h1.ok.procs.get hk
  rw[hdr]at ha
  have hg:=h1.ok.procsOk g hm
  have hs:=hsm.2 g hm
  refine⟨hp,hz,hk,_,_,_,_,_,hrow,h.nn,h.nn,qAe h.nn,d.ps,h1.cell (i:=3) rfl,(c173 h1.ok.procs hx).call ⟨_,rfl,fun n1=>qCS ?_ hV,fun n1=>?_⟩⟩
  ·rw[ha,qAg (b:=(g.name,-1,10)) (by grind)]
  intro b1 hb1
  have s1:=Mem.sub_new hb1 (.cells #[.slice g.ps.p g.ps.n g.ps.c,.slice g.ls.p g.ls.n g.ls.c] 23 (0,0))
  refine Tri.mono (concatF (l:=⟨some ⟨b1,0,none⟩,2,2⟩) (ls:=[(g.ps,g.params),(g.ls,g.locals)]) (qAd.cells (xs:=[(g.ps,g.params),(g.ls,g.locals)]) (row:=fun x=>[x.1.v]) mss rfl (fun _=>rfl) rfl (by simp)) ?_ (by simp) ?_) ?_
  ·intro x hx
   simp only[List.mem_cons,List.not_mem_nil,or_false]at hx
   rcases hx with rfl|rfl
   ·exact hg.params.sub s1
   ·exact hg.locals.sub s1
  ·simp_all
  rintro _ V2 ⟨s',rfl,h12,hrows⟩
  have hV2:=hV.trans (s1.trans h12)
  have hfl:([(g.ps,g.params),(g.ls,g.locals)]:List (Sl×List Fld)).flatMap (·.2)=g.params++g.locals:=by simp
  rw[hfl]at hrows
  refine⟨s',rfl,(c169 (h.sub hV2) hrows).call ⟨_,rfl,fun h2=>?_,fun h2=>qCS ?_ hV2⟩⟩
  ·have n2:¬(qCi d (g.params++g.locals)≠0):=fun e=>e h2
   refine⟨fun h3=>⟨h1.ok.procs.succ hk,hJ hl _ _ ⟨hV2,?_⟩⟩,fun h3=>(c172 (h.sub hV2)).call ⟨_,rfl,fun h4=>⟨h1.ok.procs.succ hk,hJ hl _ _ ⟨hV2,?_⟩⟩,fun h4=>qCS ?_ hV2⟩⟩
   ·rw[ha,qAk (by rw[<- hf1];exact(if_neg n1).trans ((if_neg n2).trans (if_neg fun e=>e.1 h3)))]
   ·rw[ha,qAk (by grind)]
   ·rw[ha,qAg (b:=(g.name,-1,9)) (by rw[<- hf1];exact(if_neg n1).trans ((if_neg n2).trans (if_pos ⟨h3,eq_false_of_ne_true h4⟩)))]
  ·rw[ha,qAg (b:=(g.name,-1,qCi d (g.params++g.locals))) (by grind)]
 rw[(h1.ok.procs.done hk).1,qAh]at ha
 rw[ha]
 exact⟨none,rfl,hV,rfl⟩
end
end Go.Proofs
