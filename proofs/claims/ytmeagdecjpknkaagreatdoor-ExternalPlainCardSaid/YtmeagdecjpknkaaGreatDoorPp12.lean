/- Part 12 of a proof of a law of this seat: no statement of the seat is proved here. -/
import Derived.Test.YtmeagdecjpknkaaGreatDoorPp11
import Derived.Test.YtmeagdecjpknkaaGreatDoorPp04
import Derived.Laws.MakeOwn
import Derived.OrdersIn
import Derived.OwnWalkIn
import Derived.RangeFuncRecord
set_option linter.unusedVariables false
set_option linter.unusedSimpArgs false
namespace Go.Proofs
open Go Go.Sx
section
variable{d:Ds}{F:Nat}
def Rx.st{α:Type}:Rx α->St | .ok _ s=>s | .bad _ s=>s
inductive LgOk:Nat->List (Int×Int×Int)->Nat->Prop where
 | nil (n:Nat):LgOk n [] n
 | acc {n m:Nat} {k a f:Int} {l:List (Int×Int×Int)} (hk:k=1∨k=2) (h0:0<=a) (h1:a<=(n:Int)) (h2:0<=f) (h:LgOk n l m):LgOk n ((k,a,f)::l) m
 | alloc {n m:Nat} {f:Int} {l:List (Int×Int×Int)} (h2:0<=f) (h:LgOk (n+1) l m):LgOk n ((3,(n:Int)+1,f)::l) m
theorem LgOk.app{n m k:Nat}{l l':List (Int×Int×Int)}(h:LgOk n l m)(h':LgOk m l' k):LgOk n (l++l') k:=by
 induction h with
 | nil=>exact h'
 | acc a b c d _ ih=>grind [acc]
 | alloc a _ ih=>exact .alloc a (ih h')
abbrev Gm:=List Int×List (Int×List Int)
inductive Tra:Gm->List (Int×Int×Int)->Gm->Prop where
 | nil (x:Gm):Tra x [] x
 | rd {x y:Gm} {l:List (Int×Int×Int)} {n f:Int} (h:Tra x l y):Tra x ((1,n,f)::l) y
 | wg {g:List Int} {ns:List (Int×List Int)} {y:Gm} {l:List (Int×Int×Int)} {i:Nat} {v:Int} (hi:i<g.length) (h:Tra (g.set i v,ns) l y):Tra (g,ns) ((2,0,(i:Int))::l) y
 | wf {g:List Int} {ns:List (Int×List Int)} {y:Gm} {l:List (Int×Int×Int)} {k i:Nat} {ty v:Int} {f:List Int} (hk:ns[k]?=some (ty,f)) (hi:i<f.length) (h:Tra (g,ns.set k (ty,f.set i v)) l y):Tra (g,ns) ((2,(k:Int)+1,(i:Int))::l) y
 | al {g:List Int} {ns:List (Int×List Int)} {y:Gm} {l:List (Int×Int×Int)} {ty:Int} {n:Nat} (h:Tra (g,ns++[(ty,List.replicate n 0)]) l y):Tra (g,ns) ((3,(ns.length:Int)+1,ty)::l) y
theorem Tra.app{x y z:Gm}{l l':List (Int×Int×Int)}(h:Tra x l y)(k:Tra y l' z):Tra x (l++l') z:=by
 induction h with
 | nil=>exact k
 | rd _ ih=>exact .rd (ih k)
 | wg hi _ ih=>exact .wg hi (ih k)
 | wf hk hi _ ih=>grind [wf]
 | al _ ih=>exact .al (ih k)
structure Gr (F n:Nat) (s s':St):Prop where
 ty:∀(i:Nat) x,s.ns[i]?=some x->∃y,s'.ns[i]?=some y/\y.1=x.1
 tk:s.tk<=s'.tk
 fu:s.tk<=F->s'.tk<=F
 lg:∃l,s'.lg=s.lg++l/\LgOk s.ns.length l s'.ns.length/\((∀a∈l,a.1=1)->s'.g=s.g/\s'.ns=s.ns)
 w:s'.lg.length+s'.cm+4000*s.tk<=s.lg.length+s.cm+n+4000*s'.tk
 tr:∃l,s'.lg=s.lg++l/\Tra (s.g,s.ns) l (s'.g,s'.ns)
theorem Gr.refl(s:St):Gr F 0 s s:=⟨fun _ x h=>⟨x,h,rfl⟩,Nat.le_refl _,fun h=>h,⟨[],by simp,.nil _,fun _=>⟨rfl,rfl⟩⟩,by omega,⟨[],by simp,.nil _⟩⟩
theorem Gr.trans{n m:Nat}{a b c:St}(h:Gr F n a b)(k:Gr F m b c):Gr F (n+m) a c:=⟨fun i x hx=>by
 obtain⟨y,h1,h2⟩:=h.ty i x hx
 obtain⟨z,h3,h4⟩:=k.ty i y h1
 simp_all,Nat.le_trans h.tk k.tk,fun e=>k.fu (h.fu e),by
 obtain⟨l,e1,e2,e3⟩:=h.lg
 obtain⟨l',e1',e2',e3'⟩:=k.lg
 refine⟨l++l',by simp_all,e2.app e2',fun ha=>?_⟩
 simp_all,by have:=h.w;have:=k.w;omega,by
 obtain⟨l,e1,e2⟩:=h.tr
 obtain⟨l',e1',e2'⟩:=k.tr
 exact⟨l++l',by simp_all,e2.app e2'⟩⟩
theorem Gr.le{n m:Nat}{a b:St}(h:Gr F n a b)(hn:n<=m):Gr F m a b:=⟨h.ty,h.tk,h.fu,h.lg,by have:=h.w;omega,h.tr⟩
theorem Gr.len{n:Nat}{a b:St}(h:Gr F n a b):a.ns.length<=b.ns.length:=by
 cases hk:a.ns.length with
 | zero=>omega
 | succ k =>
  obtain⟨y,hy,-⟩:=h.ty k _ (List.getElem?_eq_getElem (by omega))
  grind
theorem qIt{s:St}{i:Nat}:s.mm.nodes[i]?=(s.ns[i]?).map fun n=>⟨n.1,qAP,n.2⟩:=List.getElem?_map ..
theorem mm_len{s:St}:s.mm.nodes.length=s.ns.length:=List.length_map ..
theorem qGG{m m':Mm}(hl:m.nodes.length<=m'.nodes.length)(hn:∀(i:Nat) x,m.nodes[i]?=some x->∃y,m'.nodes[i]?=some y/\y.ty=x.ty){t:ByteArray}{v:Int}(h:qAt d m t v=true):qAt d m' t v=true:=by
 unfold qAt at h ⊢
 split
 ·simp_all
 rename_i h1
 rw[if_neg h1]at h
 split
 ·simp_all
 rename_i h2
 rw[if_neg h2,decide_eq_true_eq]at h
 refine decide_eq_true ?_
 rcases h with h|⟨p1,p2,p3⟩
 ·exact .inl h
 ·refine .inr ⟨p1,by omega,?_⟩
  cases hx:m.nodes[(v-1).toNat]? with
  | none=>simp_all
  | some x =>
   rw[hx]at p3
   obtain⟨y,e1,e2⟩:=hn _ _ hx
   simp_all
theorem Gr.right{n:Nat}{a b:St}(h:Gr F n a b){t:ByteArray}{v:Int}(hr:qAt d a.mm t v=true):qAt d b.mm t v=true:=by
 refine qGG (m:=a.mm) (by rw[mm_len,mm_len];exact h.len) (fun i x hx=>?_) hr
 rw[qIt]at hx
 cases hy:a.ns[i]? with
 | none=>simp_all
 | some y =>
  rw[hy]at hx;cases hx
  obtain⟨z,e1,e2⟩:=h.ty i y hy
  simp_all [qAP,qIt]
theorem Gr.val{n:Nat}{a b:St}(h:Gr F n a b){t:ByteArray}{v:Int}(hr:qBO d a.mm t v):qBO d b.mm t v:=by
 unfold qBO at hr ⊢
 split
 ·simp_all
 ·rename_i h1;rw[if_neg h1]at hr;exact h.right hr
theorem qAC{m:Mm}{l:List Fld}{vs:List Int}:qAg d m l vs=true↔l.length=vs.length/\∀(j:Nat) f v,l[j]?=some f->vs[j]?=some v->qAt d m f.ty v=true:=by
 unfold qAg
 rw[Bool.and_eq_true,decide_eq_true_eq,qDk]
 grind [tyAt]
theorem qAk{m m':Mm}(hr:∀{t v},qAt d m t v=true->qAt d m' t v=true){l:List Fld}{vs:List Int}(h:qAg d m l vs=true):qAg d m' l vs=true:=by
 grind [qAC]
theorem qGz{m:Mm}{l:List Fld}{vs:List Int}(h:qAg d m l vs=true){i:Nat}{f:Fld}(hf:l[i]?=some f){v:Int}(hv:qAt d m f.ty v=true):qAg d m l (vs.set i v)=true:=by
 grind [qAC,List.length_set]
theorem qIi(hv:qAE d=true){m:Mm}{t:ByteArray}(h:qBl d t=true):qAt d m t 0=true:=by
 unfold qBl at h
 simp only[Bool.or_eq_true,decide_eq_true_eq]at h
 rcases h with (rfl|rfl) | h
 ·rfl
 ·rfl
 ·exact qJy (qEw hv h)
theorem qFo(hv:qAE d=true){m:Mm}{l:List Fld}(h:∀f∈l,qBl d f.ty=true):qAg d m l (List.replicate l.length 0)=true:=by
 grind [qAC,qIi,List.mem_of_getElem?]
theorem qEL{m:Mm}{l l':List Fld}{vs vs':List Int}(h:qAg d m l vs=true)(h':qAg d m l' vs'=true):qAg d m (l++l') (vs++vs')=true:=by
 grind [qAC,List.length_append,List.getElem?_append_left,List.getElem?_append_right]
theorem qFO{m:Mm}(h1:hasT d=true)(h2:m.nodes.length<=4096)(h3:∀n∈m.nodes,qDg d n=true)(h4:qAg d m d.globals m.globals=true)(h5:∀n∈m.nodes,qAg d m (qAo d n.ty) n.f=true):qAs d m=true:=by
 grind [qAs]
structure RxP {α:Type} (d:Ds) (F n:Nat) (s:St) (r:Rx α) (Q:α->St->Prop):Prop where
 good:qAx d r.st.mm
 gr:Gr F n s r.st
 q:∀v s',r=.ok v s'->Q v s'
section
variable{α β:Type}{n m:Nat}{s:St}{r:Rx α}{Q:α->St->Prop}
theorem RxP.ok{v:α}(G:qAx d s.mm)(h:Q v s):RxP d F 0 s (.ok v s) Q:=⟨G,Gr.refl s,fun _ _ e=>by cases e;exact h⟩
theorem RxP.bad{c:Int}(G:qAx d s.mm):RxP d F 0 s (.bad c s:Rx α) Q:=⟨G,Gr.refl s,fun _ _ e=>by cases e⟩
theorem RxP.le(h:RxP d F n s r Q)(hn:n<=m):RxP d F m s r Q:=⟨h.good,h.gr.le hn,h.q⟩
theorem RxP.mono{Q':α->St->Prop}(h:RxP d F n s r Q)(k:∀v s',r=.ok v s'->Q v s'->Q' v s'):RxP d F n s r Q':=⟨h.good,h.gr,fun v s' e=>k v s' e (h.q v s' e)⟩
theorem RxP.bind{f:α->St->Rx β}{Q':β->St->Prop}(h:RxP d F n s r Q)(k:∀v s',r=.ok v s'->Q v s'->qAx d s'.mm->Gr F n s s'->RxP d F m s' (f v s') Q'):RxP d F (n+m) s (r.bind f) Q':=by
 cases r with
 | ok v s' =>
  have H:=k v s' rfl (h.q v s' rfl) h.good h.gr
  exact⟨H.good,h.gr.trans H.gr,H.q⟩
 | bad c s'=>exact⟨h.good,h.gr.le (by omega),fun _ _ e=>by cases e⟩
end
section
variable{s:St}(G:qAx d s.mm)
include G
omit G in
theorem qKF{n:Nat}{r:Rs}{s':St}(G':qAx d s'.mm)(g:Gr F n s s'){Q:Int->St->Prop}(h:∀v,r=.ok v->Q v s'):RxP d F n s (liftR r s') Q:=by
 cases r with
 | ok v=>exact⟨G',g,fun _ _ e=>by cases e;exact h v rfl⟩
 | bad c=>exact⟨G',g,fun _ _ e=>by cases e⟩
theorem qHX{p:Pr}{vals:List Int}(hv:qAg d s.mm p.vars vals=true)(P:∀f∈p.vars,qBl d f.ty=true){nm t:ByteArray}(hl:qCu (qAj d p).vars nm=t)(hne:t≠sE) :
  (∃(i:Nat) (f:Fld) (v:Int),qGv p.vars nm=i/\p.vars[i]?=some f/\vals[i]?=some v/\f.ty=t/\qBO d s.mm t v/\varX d p vals nm s=.ok v s) ∨
  ∃(i:Nat) (f:Fld) (v:Int),qGv p.vars nm=-1/\qGv d.globals nm=i/\d.globals[i]?=some f/\s.g[i]?=some v/\f.ty=t/\qBO d s.mm t v/\varX d p vals nm s=.ok v (s.note (1,0,i)):=by
 obtain⟨p1,-,-,p4,-⟩:=qAh G.mem
 have hl:qCu (p.vars++d.globals) nm=t:=hl
 have app:∀(a b:List Fld),qCu (a++b) nm=if 0<=qGv a nm then qCu a nm else qCu b nm:=fun a b=>by
  rw[qDC,qDC,qDC,List.find?_append]
  unfold qGv
  rcases qBd (fun f:Fld=>decide (f.name=nm)) a with⟨h1,h2,-⟩|⟨i,x,h1,-,h3,-⟩
  ·grind
  simp_all
 rw[app]at hl
 by_cases h0:0<=qGv p.vars nm
 ·left
  rw[if_pos h0]at hl
  rcases qEz p.vars nm with⟨c1,-⟩|⟨i,f,c1,c2,c3,-⟩
  ·simp_all
  ·obtain⟨v,hv1,hv2⟩:=qFN hv c2
   have e:f.ty=t:=c3.symm.trans hl
   refine⟨i,f,v,c1,c2,hv1,e,?_,?_⟩
   ·rw[<- e];exact(qBs G.valid (P f (List.mem_of_getElem? c2))).2 hv2
   grind [varX]
 ·right
  rw[if_neg h0]at hl
  rcases qEz d.globals nm with⟨c1,-⟩|⟨i,f,c1,c2,c3,-⟩
  ·simp_all
  ·obtain⟨v,hv1,hv2⟩:=qFN p4 c2
   have e:f.ty=t:=c3.symm.trans hl
   have hkn:qBl d f.ty=true:=List.all_eq_true.1 (qBE p1).1 f (List.mem_of_getElem? c2)
   refine⟨i,f,v,?_,c1,c2,hv1,e,?_,?_⟩
   ·rcases qEz p.vars nm with⟨-,c⟩|⟨j,_,c,-⟩
    ·exact c
    omega
   ·rw[<- e];exact(qBs G.valid hkn).2 hv2
   ·unfold varX;rw[if_neg h0,c1,Int.toNat_natCast]
    have hv1:s.g[i]?=some v:=hv1
    rw[hv1];rfl
theorem qHJ{t nm ty:ByteArray}(ht:qCf d t nm=(ty,0)){a:Int}(ha:qBO d s.mm t a)(h0:a≠0) :
  ∃(q i j:Nat) (tt:Ty) (f:Fld) (fs:List Int) (v:Int),a=(q:Int)+1/\s.ns[q]?=some ((j:Int),fs)/\d.types[j]?=some tt/\tt∈d.types/\qAo d j=tt.fields/\qGv tt.fields nm=i/\tt.fields[i]?=some f/\fs[i]?=some v/\qBO d s.mm ty v/\f.ty=ty/\qBl d ty=true:=by
 obtain⟨n,i,j,tt,f,v,b1,-,b3,b4,b5,b6,b7,b8,b9,b10,b11,-,b13⟩:=fld_ok G ht ha h0
 obtain⟨q,rfl⟩:∃q:Nat,a=(q:Int)+1:=⟨(a-1).toNat,by omega⟩
 rw[show ((q:Int)+1-1).toNat=q by omega,qIt]at b1
 cases hx:s.ns[q]? with
 | none=>simp_all
 | some x =>
  rw[hx]at b1;cases b1
  obtain⟨p1,-⟩:=qAh G.mem
  have hkn:qBl d f.ty=true:=List.all_eq_true.1 ((qBE p1).2.2 tt b7) f (List.mem_of_getElem? b9)
  exact⟨q,i,j,tt,f,x.2,v,rfl,by rw[hx,<- b5],b6,b7,qAO b6 rfl,b8,b9,b10,b11,b13,b13 ▸ hkn⟩
omit G in
theorem gr_note{a f:Int}(h0:0<=a)(h1:a<=(s.ns.length:Int))(h2:0<=f):Gr F 1 s (s.note (1,a,f)):=⟨fun _ x h=>⟨x,h,rfl⟩,Nat.le_refl _,fun h=>h,⟨[(1,a,f)],rfl,.acc (.inl rfl) h0 h1 h2 (.nil _),fun _=>⟨rfl,rfl⟩⟩,by show (s.lg++[_]).length+_+_<=_;rw[List.length_append,List.length_singleton];show s.lg.length+1+s.cm+4000*s.tk<=s.lg.length+s.cm+1+4000*s.tk;omega,⟨[(1,a,f)],rfl,.rd (.nil _)⟩⟩
omit G in
theorem gr_cnt{b:Bool}{op:Int}:Gr F 1 s (cntX b op s):=by
 unfold cntX
 split
 ·exact⟨fun _ x h=>⟨x,h,rfl⟩,Nat.le_refl _,fun h=>h,⟨[],by simp,.nil _,fun _=>⟨rfl,rfl⟩⟩,by grind,⟨[],by simp,.nil _⟩⟩
 ·exact(Gr.refl s).le (by omega)
theorem qKM{b:Bool}{op:Int}:qAx d (cntX b op s).mm:=by
 unfold cntX
 split
 ·exact⟨G.valid,G.chk,G.mem⟩
 ·exact G
theorem new_snd{nm:ByteArray}(hn:qBr d nm=true):RxP d F 1 s (newX d nm s) fun v s'=>qBO d s'.mm nm v:=by
 unfold newX
 split
 ·exact(RxP.bad G).le (by omega)
 rename_i hlen
 obtain⟨p1,p2,p3,p4,p5⟩:=qAh G.mem
 have hname:=qEw G.valid hn
 obtain⟨tt,htm,hte⟩:=List.any_eq_true.1 hn
 have hte:tt.name=nm:=of_decide_eq_true hte
 obtain⟨j,hj⟩:=List.mem_iff_getElem?.1 htm
 have hidx:qDp d nm=(j:Int):=hte ▸ (qBE p1).2.1 j tt hj
 have hjl:=(List.getElem?_eq_some_iff.1 hj).1
 rw[hidx]
 have hfo:qAo d (j:Int)=tt.fields:=qAO hj rfl
 rw[hfo]
 obtain⟨s',hs'⟩:∃s':St,s'={ s with ns:=s.ns++[((j:Int),List.replicate tt.fields.length 0)],lg:=s.lg++[(3,(s.ns.length:Int)+1,(j:Int))] }:=⟨_,rfl⟩
 rw[<- hs']
 have g:Gr F 1 s s':=by
  rw[hs']
  refine⟨fun i x hx=>⟨x,?_,rfl⟩,Nat.le_refl _,fun h=>h,⟨[_],rfl,.alloc (by omega) ?_,fun h=>(by simp_all)⟩,?_,⟨[_],rfl,.al (.nil _)⟩⟩
  ·grind
  ·grind [LgOk,List.length_append,List.length_singleton]
  grind
 have hnodes:s'.mm.nodes=s.mm.nodes++[⟨(j:Int),qAP,List.replicate tt.fields.length 0⟩]:=by rw[hs'];simp[St.mm]
 have G':qAx d s'.mm:=by
  refine⟨G.valid,G.chk,qFO p1 ?_ (fun n hm=>?_) ?_ fun n hm=>?_⟩
  ·grind [List.length_append,List.length_singleton,mm_len]
  ·rw[hnodes]at hm
   rcases List.mem_append.1 hm with hm|hm
   ·exact p3 n hm
   ·rw[List.mem_singleton.1 hm];exact decide_eq_true ⟨by simp_all,by simp_all⟩
  ·have:s'.mm.globals=s.mm.globals:=by rw[hs'];rfl
   rw[this];exact qAk (fun h=>g.right h) p4
  ·rw[hnodes]at hm
   rcases List.mem_append.1 hm with hm|hm
   ·exact qAk (fun h=>g.right h) (p5 n hm)
   ·rw[List.mem_singleton.1 hm]
    show qAg d s'.mm (qAo d (j:Int)) (List.replicate tt.fields.length 0)=true
    rw[hfo]
    exact qFo G.valid fun f hf=>List.all_eq_true.1 ((qBE p1).2.2 tt htm) f hf
 refine⟨G',g,fun v s2 e=>?_⟩
 cases e
 unfold qBO qAt
 rw[if_neg (qDY hname kwNil),if_neg (qDY hname kwInt),if_neg (qDY hname kwBool),decide_eq_true_eq]
 grind [inr,List.length_append,List.length_singleton,mm_len,Int,List.getElem?_concat_length]
end
def CSnd(d:Ds)(F:Nat)(C:Cf):Prop:=∀(i:Nat) pr args s,d.procs[i]?=some pr->qAx d s.mm->qAg d s.mm pr.params args=true->RxP d F 0 s (C i args s) fun v s'=>pr.result≠sE->qBO d s'.mm pr.result v
theorem szEs_sum:∀l:List E,szEs l=(l.map szE).sum
 | []=>by unfold szEs;rfl
 | e::l=>by unfold szEs;rw[szEs_sum l];rfl
theorem szE_eq(e:E):szE e=1+(e.k.map szE).sum:=by cases e;unfold szE;rw[szEs_sum];rfl
theorem seq_snd{sc:Sc}{f:E->St->Rx Int}:∀(k:List E) (fs:List Fld) (acc:List Int) (gs:List Fld) (s:St),qAx d s.mm->qAg d s.mm gs acc=true->k.length=fs.length->(∀f∈fs,qBl d f.ty=true) ->
  (∀(j:Nat) a g,k[j]?=some a->fs[j]?=some g->∃u,qAq d sc a=(u,0)/\qEl d u g.ty=true) ->
  (∀a∈k,∀(u:ByteArray) (s1:St) (n:Nat),qAq d sc a=(u,0)->qAx d s1.mm->Gr F n s s1->RxP d F (szE a) s1 (f a s1) fun v s'=>qBO d s'.mm u v) ->
  RxP d F (k.map szE).sum s (seqX (k.map f) acc s) fun l s'=>qAg d s'.mm (gs++fs) l=true
 | [],fs,acc,gs,s,G,ha,hl,_,_,_=>by
  obtain rfl:fs=[]:=List.eq_nil_of_length_eq_zero (by grind)
  rw[List.append_nil]
  exact RxP.ok G ha
 | a::k,fs,acc,gs,s,G,ha,hl,hkn,ht,H=>by
  cases fs with
  | nil=>simp at hl
  | cons g fs =>
   obtain⟨u,hu,hfit⟩:=ht 0 a g rfl rfl
   have h1:=H a List.mem_cons_self u s 0 hu G (Gr.refl s)
   rw[List.map_cons,List.map_cons,List.sum_cons]
   show RxP d F _ s ((f a s).bind fun v st=>seqX (k.map f) (acc++[v]) st) _
   refine h1.bind fun v s1 _ hv G1 g1=>?_
   have hv':=(qBs G.valid (hkn g List.mem_cons_self)).1 (qCi G.valid hfit hv)
   have ha1:qAg d s1.mm (gs++[g]) (acc++[v])=true:=qEL (qAk (fun h=>g1.right h) ha) (qAC.2 ⟨rfl,fun j f w hf hw=>by
    grind⟩)
   have:=seq_snd k fs (acc++[v]) (gs++[g]) s1 G1 ha1 (by simpa using hl) (fun f hf=>hkn f (List.mem_cons_of_mem _ hf)) (fun j a g ha hg=>ht (j+1) a g (by simpa using ha) (by simpa using hg)) (fun b hb u s2 n hu G2 g2=>H b (List.mem_cons_of_mem _ hb) u s2 _ hu G2 (g1.trans g2))
   simp_all
theorem qEq(hp:∀p∈d.procs,qCY d p){i:Nat}{pr:Pr}(h:d.procs[i]?=some pr):∀f∈pr.params,qBl d f.ty=true:=fun f hf=>(hp pr (List.mem_of_getElem? h)).vars f (List.mem_append_left _ hf)
theorem ev_snd(hp:∀p∈d.procs,qCY d p){C:Cf}(hC:CSnd d F C){p:Pr}(hpo:qCY d p){vals:List Int} :
  ∀(e:E) (t:ByteArray) (s:St),VE e->qAq d (qAj d p) e=(t,0)->qAx d s.mm->qAg d s.mm p.vars vals=true->RxP d F (szE e) s (evX d C p vals e s) fun v s'=>qBO d s'.mm t v:=by
 intro e
 induction e using E.ind with
 | h e ih =>
 intro t s hv ht G hvals
 rw[evX_eq,szE_eq]
 have I:∀{a:E} {u:ByteArray} {s1:St} {n:Nat},a∈e.k->qAq d (qAj d p) a=(u,0)->qAx d s1.mm->Gr F n s s1->RxP d F (szE a) s1 (evX d C p vals a s1) fun v s'=>qBO d s'.mm u v:=fun hm ha G1 g1=>ih _ hm _ _ (hv.kids _ hm) ha G1 (qAk (fun h=>g1.right h) hvals)
 have K:∀{i:Nat} {a:E},e.k[i]?=some a->qFI (e.k.map (evX d C p vals)) i=evX d C p vals a:=fun h=>kidX_at h
 have b0:∀{v:Int},v=0∨v=1->qBO d s.mm qAu v:=fun h=>qBb.2 h
 cases kindX (sc:=qAj d p) rfl hv ht with
 | int h hn=>rw[cX1 (.inl h)];exact(RxP.ok G (qBB.2 (by omega))).le (by omega)
 | bool h hn=>rw[cX1 (.inr h)];exact(RxP.ok G (qBb.2 (by omega))).le (by omega)
 | nil h hn=>rw[cX3 h];exact(RxP.ok G (by rfl)).le (by omega)
 | var h hl hne =>
  rw[cX4 h]
  rcases qHX G hvals hpo.vars hl hne with⟨i,f,v,-,-,-,-,h5,h6⟩|⟨i,f,v,-,-,-,-,-,h5,h6⟩
  ·rw[h6];exact(RxP.ok G h5).le (by omega)
  ·rw[h6];exact⟨⟨G.valid,G.chk,G.mem⟩,(gr_note (by omega) (by omega) (by omega)).le (by omega),fun _ _ e=>by cases e;exact h5⟩
 | @fld _ u a h hk ha hf =>
  rw[cX5 h,K (i:=0) (by rw[hk];rfl),hk]
  refine((I (by rw[hk];simp) ha G (Gr.refl s)).bind (m:=1) fun v s1 _ hv1 G1 g1=>?_).le (by simp <;> omega)
  unfold fldX
  by_cases h0:v=0
  ·rw[if_pos h0];exact(RxP.bad G1).le (by omega)
  ·rw[if_neg h0]
   obtain⟨q,i,j,tt,f,fs,w,rfl,h2,h3,-,h5,h6,h7,h8,h9,-⟩:=qHJ G1 hf hv1 h0
   rw[show ((q:Int)+1-1).toNat=q by omega,h2]
   simp only
   rw[h5,h6,Int.toNat_natCast,h8]
   exact⟨⟨G1.valid,G1.chk,G1.mem⟩,gr_note (by omega) (by grind) (by omega),fun _ _ e=>by cases e;exact h9⟩
 | new h hn=>rw[cX6 h];exact(new_snd G hn).le (by omega)
 | @call pr i h hc hr =>
  rw[cX7 h,hc.idx]
  refine((seq_snd e.k pr.params [] [] s G (qAC.2 ⟨rfl,fun j f v h=>by simp at h⟩) hc.len (qEq hp hc.at_) hc.fit (fun a hm u s1 n hu G1 g1=>I hm hu G1 g1)).bind (m:=0) fun l s1 _ hl G1 g1=>?_).le (by omega)
  exact(hC i pr l s1 hc.at_ G1 hl).mono fun v s' _ h=>h hr
 | @neg a h hk ha =>
  rw[cX8 h,K (i:=0) (by rw[hk];rfl),hk]
  refine((I (by rw[hk];simp) ha G (Gr.refl s)).bind (m:=0) fun v s1 _ hv1 G1 g1=>qKF G1 (Gr.refl s1) fun w hw=>qBB.2 (big_ok hw).2).le (by simp <;> omega)
 | @not a h hk ha =>
  rw[cX18 h,K (i:=0) (by rw[hk];rfl),hk]
  refine((I (by rw[hk];simp) ha G (Gr.refl s)).bind (m:=0) fun v s1 _ hv1 G1 g1=>RxP.ok G1 ?_).le (by simp <;> omega)
  grind [qBb]
 | @log a h hk ha =>
  rw[cX24 h,K (i:=0) (by rw[hk];rfl),hk]
  refine((I (by rw[hk];simp) ha G (Gr.refl s)).bind (m:=0) fun v s1 _ hv1 G1 g1=>RxP.ok G1 ?_).le (by simp <;> omega)
  have:=log_in (a:=v) (qBB.1 hv1).2
  exact qBB.2 (by omega)
 | @and a b h hk ha hb =>
  rw[cX19 h,K (i:=0) (by rw[hk];rfl),K (i:=1) (by rw[hk];rfl)]
  refine((I (by rw[hk];simp) ha G (Gr.refl s)).bind (m:=szE b) fun v s1 _ hv1 G1 g1=>?_).le (by simp_all)
  split
  ·exact(RxP.ok G1 (qBb.2 (.inl rfl))).le (by omega)
  grind
 | @or a b h hk ha hb =>
  rw[cX20 h,K (i:=0) (by rw[hk];rfl),K (i:=1) (by rw[hk];rfl)]
  refine((I (by rw[hk];simp) ha G (Gr.refl s)).bind (m:=szE b) fun v s1 _ hv1 G1 g1=>?_).le (by simp_all)
  split
  ·grind
  ·exact(RxP.ok G1 (qBb.2 (.inr rfl))).le (by omega)
 | @cond a b c _ u w h hk ha hb hc hu hw _ =>
  rw[cX21 h,K (i:=0) (by rw[hk];rfl),K (i:=1) (by rw[hk];rfl),K (i:=2) (by rw[hk];rfl)]
  refine((I (by rw[hk];simp) ha G (Gr.refl s)).bind (m:=szE b+szE c) fun v s1 _ hv1 G1 g1=>?_).le (by simp_all)
  split
  ·exact((I (by rw[hk];simp) hc G1 g1).mono fun v s' _ h=>by
    rcases hw with rfl|hw
    ·exact h
    ·exact qCi G.valid hw h).le (by omega)
  ·exact((I (by rw[hk];simp) hb G1 g1).mono fun v s' _ h=>by
    rcases hu with rfl|hu
    ·exact h
    ·exact qCi G.valid hu h).le (by omega)
 | @eq a b u w h hk ha hb _ =>
  rw[cXTwo (by omega),K (i:=0) (by rw[hk];rfl),K (i:=1) (by rw[hk];rfl)]
  refine((I (by rw[hk];simp) ha G (Gr.refl s)).bind (m:=szE b+1) fun v s1 _ hv1 G1 g1=>(I (by rw[hk];simp) hb G1 g1).bind (m:=1) fun z s2 _ hv2 G2 g2=>qKF (qKM G2) gr_cnt fun x hx=>qBb.2 (twoB_ok (by omega) hx)).le (by grind)
 | @cmp a b h hk ha hb =>
  rw[cXTwo (by omega),K (i:=0) (by rw[hk];rfl),K (i:=1) (by rw[hk];rfl)]
  refine((I (by rw[hk];simp) ha G (Gr.refl s)).bind (m:=szE b+1) fun v s1 _ hv1 G1 g1=>(I (by rw[hk];simp) hb G1 g1).bind (m:=1) fun z s2 _ hv2 G2 g2=>qKF (qKM G2) gr_cnt fun x hx=>qBb.2 (twoB_ok (by omega) hx)).le (by grind)
 | @ari a b h hk ha hb =>
  rw[cXTwo (by omega),K (i:=0) (by rw[hk];rfl),K (i:=1) (by rw[hk];rfl)]
  refine((I (by rw[hk];simp) ha G (Gr.refl s)).bind (m:=szE b+1) fun v s1 _ hv1 G1 g1=>(I (by rw[hk];simp) hb G1 g1).bind (m:=1) fun z s2 _ hv2 G2 g2=>qKF (qKM G2) gr_cnt fun x hx=>qBB.2 (two_ok h (qBB.1 hv1) (qBB.1 hv2) hx)).le (by grind)
end
end Go.Proofs
namespace Go.Proofs
open Go Go.Sx
section
variable{d:Ds}{F:Nat}
theorem qCh{e:E}(h:qAF e=true):VE e/\szE e<=1000:=⟨VE.of_valid h,(of_decide_eq_true h).2⟩
def RtOk(d:Ds)(p:Pr)(r:Rt)(s:St):Prop:=qAg d s.mm p.vars r.1=true/\∀v,r.2=some v->p.result≠sE->qBO d s.mm p.result v
def SSnd(d:Ds)(F:Nat)(Sn:Sf):Prop:=∀c p l vals s,qCY d p->(∀x∈l,TyS d p x)->qAx d s.mm->qAg d s.mm p.vars vals=true->RxP d F 0 s (Sn c p l vals s) fun r s'=>RtOk d p r s'
theorem qFb(hp:∀p∈d.procs,qCY d p){Sn:Sf}(hS:SSnd d F Sn)(c:Nat):CSnd d F (qEh d Sn c):=by
 intro i pr args s hpr G ha
 unfold qEh
 split
 ·exact RxP.bad G
 rw[Int.toNat_natCast,hpr]
 simp only
 have hpo:=hp pr (List.mem_of_getElem? hpr)
 refine(hS (c+1) pr pr.body _ s hpo hpo.body G (qEL ha (qFo G.valid fun f hf=>hpo.vars f (List.mem_append_right _ hf)))).bind (m:=0) fun r s1 _ hr G1 g1=>RxP.ok G1 fun hne=>?_
 cases h:r.2 with
 | some v=>exact hr.2 v h hne
 | none =>
  have hk:=hpo.res.resolve_left hne
  exact(qBs G.valid hk).2 (qIi G.valid hk)
theorem Gr.tick{n:Nat}{s s':St}(h:Gr F n { s with tk:=s.tk+1 } s')(hn:n<=4000)(hF:s.tk<F):Gr F 0 s s' :=
 ⟨h.ty,Nat.le_trans (Nat.le_succ _) h.tk,fun _=>h.fu hF,h.lg,by have h:=h.w;grind,h.tr⟩
theorem RxP.tick{α:Type}{n:Nat}{s:St}{f:Unit->St->Rx α}{Q:α->St->Prop}(G:qAx d s.mm)(h:qAx d ({ s with tk:=s.tk+1 }:St).mm->RxP d F n { s with tk:=s.tk+1 } (f () { s with tk:=s.tk+1 }) Q)(hn:n<=4000):RxP d F 0 s ((qKa F s).bind f) Q:=by
 unfold qKa
 split
 ·exact RxP.bad G
 ·rename_i hlt
  have H:=h ⟨G.valid,G.chk,G.mem⟩
  exact⟨H.good,H.gr.tick hn (by omega),H.q⟩
section
variable{Sn:Sf}{c:Nat}{p:Pr}(hp:∀p∈d.procs,qCY d p)(hS:SSnd d F Sn)(hpo:qCY d p)
include hp hS hpo
theorem qFB{vals:List Int}{e:E}{t:ByteArray}{s:St}(hv:qAF e=true)(ht:qAq d (qAj d p) e=(t,0))(G:qAx d s.mm)(hvals:qAg d s.mm p.vars vals=true):RxP d F 1000 s (evS d Sn c p vals e s) fun v s'=>qBO d s'.mm t v :=
 (ev_snd hp (qFb hp hS c) hpo e t s (qCh hv).1 ht G hvals).le (qCh hv).2
theorem wh_snd{cond:E}{body:List S}(hv:qAF cond=true)(ht:qAq d (qAj d p) cond=(qAu,0))(hb:∀x∈body,TyS d p x):∀(n:Nat) (vals:List Int) (s:St),qAx d s.mm->qAg d s.mm p.vars vals=true->RxP d F 1000 s (whX d F Sn c p cond body n vals s) fun r s'=>RtOk d p r s'
 | 0,vals,s,G,_=>by unfold whX;exact(RxP.bad G).le (by omega)
 | n+1,vals,s,G,hvals=>by
  rw[whX]
  refine((qFB hp hS hpo hv ht G hvals).bind (m:=0) fun v s1 _ _ G1 g1=>?_).le (by omega)
  have v1:=qAk (fun h=>g1.right h) hvals
  split
  ·exact RxP.ok G1 ⟨v1,fun _ h=>by cases h⟩
  ·refine((hS c p body vals s1 hpo hb G1 v1).bind (m:=0) fun r s2 _ hr G2 g2=>?_).le (by omega)
   split
   ·exact RxP.ok G2 hr
   ·exact RxP.tick (n:=1000) G2 (fun G3=>wh_snd hv ht hb n r.1 _ G3 hr.1) (by omega)
theorem body_snd{n:Nat}{x:S}(hx:TyS d p x){vals:List Int}{s:St}(G:qAx d s.mm)(hvals:qAg d s.mm p.vars vals=true):RxP d F 2001 s (bodyX d F Sn c p n x vals s) fun r s'=>RtOk d p r s':=by
 unfold bodyX
 obtain⟨p1,p2,p3,p4,p5⟩:=qAh G.mem
 cases kindS hx with
 | @set e u t h he hv ht hl hne hf =>
  rw[if_pos h,he,List.getD_cons_zero]
  refine((qFB hp hS hpo hv ht G hvals).bind (m:=1) fun v s1 _ hv1 G1 g1=>?_).le (by omega)
  have v1:=qAk (fun h=>g1.right h) hvals
  have hv2:=qCi G.valid hf hv1
  unfold setX
  rcases qHX G1 v1 hpo.vars hl hne with⟨i,f,w,q1,q2,q3,q4,-⟩|⟨i,f,w,q0,q1,q2,q3,q4,-⟩
  ·rw[if_pos (by omega),q1,Int.toNat_natCast]
   have hr:qAt d s1.mm f.ty v=true:=(qBs G.valid (hpo.vars f (List.mem_of_getElem? q2))).1 (q4 ▸ hv2)
   exact(RxP.ok G1 ⟨qGz v1 q2 hr,fun _ h=>by cases h⟩).le (by omega)
  ·rw[if_neg (by omega),q1,Int.toNat_natCast]
   obtain⟨o1,o2,o3,o4,o5⟩:=qAh G1.mem
   have hr:qAt d s1.mm f.ty v=true:=(qBs G.valid (List.all_eq_true.1 (qBE o1).1 f (List.mem_of_getElem? q2))).1 (q4 ▸ hv2)
   have G2:qAx d ({ s1 with g:=s1.g.set i v,lg:=s1.lg++[(2,0,(i:Int))] }:St).mm:=⟨G.valid,G.chk,qFO o1 o2 o3 (qGz (m:=s1.mm) (vs:=s1.g) o4 q2 hr) o5⟩
   exact⟨G2,⟨fun _ x h=>⟨x,h,rfl⟩,Nat.le_refl _,fun h=>h,⟨[_],rfl,.acc (.inr rfl) (by omega) (by omega) (by omega) (.nil _),fun h=>(by simp_all)⟩,by show (s1.lg++[_]).length+_+_<=_;rw[List.length_append,List.length_singleton];show s1.lg.length+1+s1.cm+4000*s1.tk<=s1.lg.length+s1.cm+1+4000*s1.tk;omega,⟨[_],rfl,.wg (List.getElem?_eq_some_iff.1 q3).1 (.nil _)⟩⟩,fun _ _ e=>by cases e;exact⟨v1,fun _ h=>by cases h⟩⟩
 | @put a e u w t h he hv hw ha ht hl hf =>
  rw[if_neg (by omega),if_pos h,he,List.getD_cons_zero,List.getD_cons_succ,List.getD_cons_zero]
  refine((qFB hp hS hpo hv ha G hvals).bind (m:=1001) fun x1 s1 _ hv1 G1 g1=>?_).le (by omega)
  have v1:=qAk (fun h=>g1.right h) hvals
  refine((qFB hp hS hpo hw ht G1 v1).bind (m:=1) fun x2 s2 _ hv2 G2 g2=>?_).le (by omega)
  have v2:=qAk (fun h=>g2.right h) v1
  have ha2:=g2.val hv1
  unfold putX
  by_cases h0:x1=0
  ·rw[if_pos h0];exact(RxP.bad G2).le (by omega)
  rw[if_neg h0]
  obtain⟨q,i,j,tt,f,fs,y,rfl,e2,e3,e4,e5,e6,e7,e8,e9,e10,e11⟩:=qHJ G2 hl ha2 h0
  rw[show ((q:Int)+1-1).toNat=q by omega,e2]
  simp only
  rw[e5,e6,Int.toNat_natCast]
  obtain⟨o1,o2,o3,o4,o5⟩:=qAh G2.mem
  have hr:qAt d s2.mm f.ty x2=true:=(qBs G.valid (e10 ▸ e11)).1 (e10 ▸ qCi G.valid hf hv2)
  have hql:=(List.getElem?_eq_some_iff.1 e2).1
  obtain⟨s3,hs3⟩:∃s3:St,s3={ s2 with ns:=s2.ns.set q ((j:Int),fs.set i x2),lg:=s2.lg++[(2,(q:Int)+1,(i:Int))] }:=⟨_,rfl⟩
  have g3:Gr F 1 s2 s3:=by
   rw[hs3]
   refine⟨fun k x hk=>?_,Nat.le_refl _,fun h=>h,⟨[_],rfl,.acc (.inr rfl) (by omega) (by omega) (by omega) ?_,fun h=>(by simp_all)⟩,?_,⟨[_],rfl,.wf e2 (List.getElem?_eq_some_iff.1 e8).1 (.nil _)⟩⟩
   ·grind
   ·grind [LgOk,List.length_set]
   grind
  have hn3:s3.mm.nodes=s2.mm.nodes.set q ⟨(j:Int),qAP,fs.set i x2⟩:=by rw[hs3];simp[St.mm,List.map_set]
  have G3:qAx d s3.mm:=by
   refine⟨G.valid,G.chk,qFO o1 ?_ (fun n hm=>?_) ?_ fun n hm=>?_⟩
   ·simp_all
   ·rw[hn3]at hm
    rcases List.mem_or_eq_of_mem_set hm with hm|rfl
    ·exact o3 n hm
    ·exact o3 (⟨(j:Int),qAP,fs⟩) (List.mem_of_getElem? (i:=q) (by rw[qIt,e2];rfl))
   ·have:s3.mm.globals=s2.mm.globals:=by rw[hs3];rfl
    rw[this];exact qAk (fun h=>g3.right h) o4
   ·rw[hn3]at hm
    rcases List.mem_or_eq_of_mem_set hm with hm|rfl
    ·exact qAk (fun h=>g3.right h) (o5 n hm)
    ·have:=o5 (⟨(j:Int),qAP,fs⟩) (List.mem_of_getElem? (i:=q) (by rw[qIt,e2];rfl))
     have this:qAg d s2.mm (qAo d (j:Int)) fs=true:=this
     show qAg d s3.mm (qAo d (j:Int)) (fs.set i x2)=true
     rw[e5]at this ⊢
     exact qAk (fun h=>g3.right h) (qGz this e7 hr)
  rw[<- hs3]
  exact⟨G3,g3,fun _ _ e=>by cases e;exact⟨qAk (fun h=>g3.right h) v2,fun _ h=>by cases h⟩⟩
 | @cond e h he hv ht =>
  rw[if_neg (by omega),if_neg (by omega),if_pos h,he,List.getD_cons_zero]
  refine((qFB hp hS hpo hv ht G hvals).bind (m:=0) fun v s1 _ hv1 G1 g1=>?_).le (by omega)
  have v1:=qAk (fun h=>g1.right h) hvals
  obtain⟨-,-,-,hl,hx⟩:=hx.parts
  split
  ·exact hS c p _ vals s1 hpo hx G1 v1
  ·exact hS c p _ vals s1 hpo hl G1 v1
 | @loop e h he hv ht =>
  rw[if_neg (by omega),if_neg (by omega),if_neg (by omega),if_pos h,he,List.getD_cons_zero]
  exact(wh_snd hp hS hpo hv ht hx.parts.2.2.2.1 n vals s G hvals).le (by omega)
 | ret0 h he hr =>
  rw[if_neg (by omega),if_neg (by omega),if_neg (by omega),if_neg (by omega),if_pos h,he]
  exact(RxP.ok G ⟨hvals,fun _ _ k=>absurd hr k⟩).le (by omega)
 | @ret1 e u h he hv ht hr hf =>
  rw[if_neg (by omega),if_neg (by omega),if_neg (by omega),if_neg (by omega),if_pos h,he]
  refine((qFB hp hS hpo hv ht G hvals).bind (m:=0) fun v s1 _ hv1 G1 g1=>?_).le (by omega)
  exact RxP.ok G1 ⟨qAk (fun h=>g1.right h) hvals,fun w h _=>by cases h;exact qCi G.valid hf hv1⟩
 | @call e pr i h he hv ho hc =>
  rw[if_neg (by omega),if_neg (by omega),if_neg (by omega),if_neg (by omega),if_neg (by omega),if_pos h,he,List.getD_cons_zero]
  unfold evS
  rw[evX_eq,cX7 ho,hc.idx]
  have hV:=(qCh hv).1
  have hsz:=(qCh hv).2
  rw[szE_eq]at hsz
  refine(((seq_snd e.k pr.params [] [] s G (qAC.2 ⟨rfl,fun j f v h=>by simp at h⟩) hc.len (qEq hp hc.at_) hc.fit (fun a hm u s1 n hu G1 g1=>ev_snd hp (qFb hp hS c) hpo a u s1 (hV.kids a hm) hu G1 (qAk (fun h=>g1.right h) hvals))).bind (m:=0) fun l s1 _ hl G1 g1=>?_).bind (m:=0) (Q:=fun _ s'=>qAg d s'.mm p.vars vals=true) fun _ s2 _ hq G2 g2=>RxP.ok G2 ⟨hq,fun _ h=>by cases h⟩).le (by omega)
  have R:=qFb hp hS c i pr l s1 hc.at_ G1 hl
  refine⟨R.good,R.gr,fun v s2 e=>?_⟩
  have:=qAk (fun h=>R.gr.right h) (qAk (fun h=>g1.right h) hvals)
  rw[e]at this
  exact this
theorem st_snd{n:Nat}{x:S}(hx:TyS d p x){vals:List Int}{s:St}(G:qAx d s.mm)(hvals:qAg d s.mm p.vars vals=true):RxP d F 0 s (stX d F Sn c p n x vals s) fun r s'=>RtOk d p r s':=by
 unfold stX
 exact RxP.tick (n:=2001) G (fun G1=>body_snd hp hS hpo hx G1 hvals) (by omega)
end
theorem list_snd{p:Pr}{f:S->List Int->St->Rx Rt}:∀(l:List S) (vals:List Int) (s:St),(∀x∈l,∀vals s,qAx d s.mm->qAg d s.mm p.vars vals=true->RxP d F 0 s (f x vals s) fun r s'=>RtOk d p r s')->qAx d s.mm->qAg d s.mm p.vars vals=true->RxP d F 0 s (qGP f l vals s) fun r s'=>RtOk d p r s'
 | [],vals,s,_,G,hv=>by unfold qGP;exact RxP.ok G ⟨hv,fun _ h=>by cases h⟩
 | x::l,vals,s,H,G,hv=>by
  rw[qGP]
  refine(H x List.mem_cons_self vals s G hv).bind (m:=0) fun r s1 _ hr G1 g1=>?_
  split
  ·exact RxP.ok G1 hr
  ·exact list_snd l r.1 s1 (fun y hy=>H y (List.mem_cons_of_mem _ hy)) G1 hr.1
theorem qGC(hp:∀p∈d.procs,qCY d p):∀n,SSnd d F (qFQ d F n)
 | 0=>fun _ _ _ _ _ _ _ G _=>RxP.bad G
 | n+1=>fun c p l vals s hpo hl G hv=>list_snd l vals s (fun _ hx _ _ G hv=>st_snd hp (qGC hp n) hpo (hl _ hx) G hv) G hv
theorem play_snd(hp:∀p∈d.procs,qCY d p){i:Nat}{pr:Pr}{args:List Int}{s:St}(h:d.procs[i]?=some pr)(G:qAx d s.mm)(ha:qAg d s.mm pr.params args=true):RxP d F 0 s (qBQ d F i args s) fun v s'=>pr.result≠sE->qBO d s'.mm pr.result v :=
 qFb hp (qGC hp (F+1)) 0 i pr args s h G ha
end
end Go.Proofs
namespace Go.Sx
open Go
open Classical
section
variable{P:Program}{V0 V1 V:Mem}{e:TypeId}{sz:Nat}{s:Sl}{vs:List Value}
def Blk(s:Sl)(c:Nat):Prop:=s.c≠0/\s.p=some ⟨c,0,none⟩
noncomputable def Mem.but(V:Mem)(s:Sl):Mem:=fun c=>if Blk s c then none else V c
theorem Mem.but_sub(V:Mem)(s:Sl):(V.but s).sub V:=fun c o h=>by
 grind [Mem.but]
theorem Mem.but_at{c:Nat}{o:Obj}(h:V c=some o)(hn:¬Blk s c):V.but s c=some o:=by
 grind [Mem.but]
theorem Own.cases0(h:Own V0 V e sz s vs):(s.n=0/\s.c=0/\vs=[])∨(s.c≠0/\∃g cur,s.p=some ⟨g,0,none⟩/\V0 g=none/\V g=some (.cells cur e (0,0))/\s.n<=s.c/\s.c<=maxLen/\cur.size=s.c*sz/\cur.toList.take (s.n*sz)=vs):=by
 rcases h.at_ with h1|⟨g,cur,h1,h2,h3,h4,h5⟩
 ·exact .inl h1
 ·by_cases hc:s.c=0
  ·simp_all
  simp_all
theorem Own.but(h:Own V0 V e sz s vs):Own (V.but s) V e sz s vs:=by
 refine⟨Mem.but_sub V s,h.len,?_⟩
 rcases h.cases0 with h1|⟨hc,g,cur,h1,h2,h3⟩
 ·exact .inl h1
 ·refine .inr ⟨g,cur,h1,?_,h3⟩
  unfold Mem.but
  rw[if_pos ⟨hc,h1⟩]
theorem Own.apart(h:Own V0 V e sz s vs){c:Nat}(hc:∀cur,V c≠some (.cells cur e (0,0))):¬Blk s c:=by
 rintro ⟨h0,hp⟩
 rcases h.cases0 with⟨-,h1,-⟩|⟨-,g,cur,h1,h2,h3,-⟩
 ·exact h0 h1
 simp_all
theorem Own.apart0(h:Own V0 V e sz s vs){c:Nat}{o:Obj}(hc:V0 c=some o):¬Blk s c:=by
 rintro ⟨h0,hp⟩
 rcases h.cases0 with⟨-,h1,-⟩|⟨-,g,cur,h1,h2,-⟩
 ·exact h0 h1
 simp_all
theorem Own.apartN(h:Own V0 V e sz s vs){c:Nat}(hc:V c=none):¬Blk s c:=h.apart fun cur=>by rw[hc];nofun
theorem Own.sub_but(h:Own V0 V e sz s vs):V0.sub (V.but s):=fun _ _ hc=>Mem.but_at (h.sub _ _ hc) (h.apart0 hc)
theorem Own.narrow(h:Own V1 V e sz s vs)(hs:V0.sub V1):Own V0 V e sz s vs:=⟨hs.trans h.sub,h.len,by
 rcases h.at_ with h1|⟨g,cur,h1,h2,h3⟩
 ·exact .inl h1
 ·refine .inr ⟨g,cur,h1,?_,h3⟩
  cases hg:V0 g with
  | none=>rfl
  | some o=>rw[hs _ _ hg]at h2;cases h2⟩
theorem Own.put(h:Own V0 V e sz s vs){c:Nat}(hn:¬Blk s c)(h0:V0 c=none)(o:Obj):Own V0 (V.set c o) e sz s vs:=⟨h.sub.set h0 o,h.len,by
 rcases h.cases0 with h1|⟨hc,g,cur,h1,h2,h3,h4⟩
 ·exact .inl h1
 ·refine .inr ⟨g,cur,h1,h2,?_,h4⟩
  rw[Mem.set_ne fun e=>hn ⟨hc,by simp_all⟩];exact h3⟩
theorem qIL(k:Int):∀(es:List MapEntry) (i:Nat),(∀e∈es,∃n,e.key=.int .i64 n) ->
  Instr.findNow (.int .i64) (.int .i64 k) es i=some ((es.findIdx? fun e=>decide (e.key=.int .i64 k)).bind fun j=>(es[j]?).map fun e=>(i+j,e.val))
 | [],_,_=>rfl
 | e::es,i,h=>by
  obtain⟨s,hs⟩:=h e (by simp)
  have ih:=qIL k es (i+1) fun x hx=>h x (by simp[hx])
  unfold Instr.findNow
  simp only[hs,Instr.sameNow,List.findIdx?_cons]
  by_cases hk:k=s
  ·grind
  ·have hk':¬s=k:=fun e=>hk e.symm
   simp only[ih]
   have hb:(k==s)=false:=by simpa using hk
   cases h':List.findIdx? (fun e=>decide (e.key=Value.int .i64 k)) es with
   | none=>simp[hk',hb]
   | some j=>grind
theorem qGi{kt:TypeId}(hk:P.underlying kt=some (.int .i64)):KeyOf P kt (Value.int .i64) where
 inj:=fun a b h=>by cases h;rfl
 find:=fun a es w h=>by
  simp_all [Instr.findKey,Sem.run_bind,run_underlying,Result.andThen_ok,qIL,Nat.zero_add]
 check:=fun b a w=>by
  unfold Instr.checkKey
  simp_all [Sem.run_bind,run_underlying,Result.andThen_ok]
 stays:=fun a w=>by
  have h:Instr.sameBits 10000 (.int .i64 a) (.int .i64 a)=true:=by
   rw[show (10000:Nat)=9999+1 from rfl]
   simp[Instr.sameBits]
  unfold Instr.keyThatStays
  rw[if_pos h];rfl
end
end Go.Sx
namespace Go.Proofs
open Go Go.Sx
attribute [local irreducible] Go.Sx.Tri
theorem StT.at2{V:Mem}{b:Nat}{c:Array Value}{t off:Nat}{vs:List Value}{q:Mem->Prop}(h:V b=some (.cells c t (0,0)))(hl:off+vs.length<=c.size)
  (hq:q (V.set b (.cells (c.toList.take off++vs++c.toList.drop (off+vs.length)).toArray t (0,0)))):StT (qAa (sa b) off) 0 vs V q:=by
 have e:qAa (sa b) off=some ⟨b,off,none⟩:=by
  grind [qAa,Addr.add]
 rw[e]
 exact⟨⟨b,off,none⟩,c,t,rfl,h,rfl,by simpa using hl,by simpa using hq⟩
theorem qDU{α:Type}:∀(l:List α) (i:Nat) (v:α),i<l.length->l.take i++[v]++l.drop (i+1)=l.set i v
 | [],i,v,h=>by simp at h
 | a::l,0,v,_=>by simp
 | a::l,i+1,v,h=>by
  have:=qDU l i v (by simpa using h)
  simp_all
section
variable{V0 V V':Mem}{e:TypeId}{sz:Nat}{s:Sl}{vs:List Value}
theorem Own.store(h:Sx.Own V0 V e sz s vs){i:Nat}(hi:i<vs.length){v:Value}{q:Mem->Prop}(hq:∀V',Sx.Own V0 V' e sz s (vs.set i v)->(∀c,¬Blk s c->V' c=V c)->q V'):StT (qAa s.p i) 0 [v] V q:=by
 rcases h.cases0 with⟨h1,h2,h3⟩|⟨hc,g,cur,h1,h2,h3,h4,h5,h6,h7⟩
 ·rw[h3]at hi;simp at hi
 have hlen:=h.len
 have hle:s.n*sz<=s.c*sz:=Nat.mul_le_mul_right _ h4
 rw[h1]
 refine StT.at2 (off:=i) h3 (by simp;omega) (hq _ ⟨h.sub.set h2 _,by simpa using hlen,.inr ⟨g,_,h1,h2,Mem.set_same _ _ _,h4,h5,?_,?_⟩⟩ fun c hc'=>?_)
 ·grind
 ·grind [qDU,List.take_set]
 ·rw[Mem.set_ne]
  rintro rfl
  exact hc' ⟨hc,h1⟩
theorem Own.moveB(h:Sx.Own V0 V e sz s vs)(hs:V0.sub V')(hk:∀g cur,Blk s g->V g=some (.cells cur e (0,0))->V' g=some (.cells cur e (0,0))):Sx.Own V0 V' e sz s vs:=⟨hs,h.len,by
 rcases h.cases0 with h1|⟨hc,g,cur,h1,h2,h3,h4⟩
 ·exact .inl h1
 ·exact .inr ⟨g,cur,h1,h2,hk g cur ⟨hc,h1⟩ h3,h4⟩⟩
theorem Own.some(h:Sx.Own V0 V e sz s vs){c:Nat}(hc:Blk s c):∃cur,V c=some (.cells cur e (0,0)):=by
 rcases h.cases0 with⟨-,h2,-⟩|⟨-,g,cur,h1,h2,h3,-⟩
 ·exact absurd h2 hc.1
 ·have:=h1.symm.trans hc.2;simp_all
theorem Own.none0(h:Sx.Own V0 V e sz s vs){c:Nat}(hc:Blk s c):V0 c=none:=by
 rcases h.cases0 with⟨-,h2,-⟩|⟨-,g,cur,h1,h2,h3,-⟩
 ·exact absurd h2 hc.1
 ·have:=h1.symm.trans hc.2;simp_all
theorem set_sub2{A B:Mem}(h:A.sub B)(b:Nat)(o:Obj):(A.set b o).sub (B.set b o):=fun c x hc=>by
 by_cases e:c=b
 ·grind [Mem.set_same]
 ·rw[Mem.set_ne e]at hc ⊢;exact h _ _ hc
theorem Own.poke(h:Sx.Own V0 V e sz s vs){b:Nat}(hb:V0 b≠none)(o:Obj):Sx.Own (V0.set b o) (V.set b o) e sz s vs:=⟨set_sub2 h.sub b o,h.len,by
 rcases h.cases0 with h1|⟨hc,g,cur,h1,h2,h3,h4⟩
 ·exact .inl h1
 ·have hne:g≠b:=fun e=>hb (e ▸ h2)
  simp_all [inr,Mem.set_ne]⟩
end
def qHv(a:Int×Int×Int):List Value:=[.int .i64 a.1,.int .i64 a.2.1,.int .i64 a.2.2]
theorem app84:AppP 84 89 3 qHv:=appG Tryz.underlying84 (by kernel_rfl) (by kernel_rfl) (by kernel_rfl) (by kernel_rfl) (by kernel_rfl) (by decide) (by intro _;rfl) fun x u hu=>by simp only[qHv,List.mem_cons,List.not_mem_nil,or_false]at hu;rcases hu with rfl|rfl|rfl <;> rfl
theorem app32:AppP 32 92 2 Nd.row:=appG Tryz.underlying32 (by kernel_rfl) (by kernel_rfl) (by kernel_rfl) (by kernel_rfl) (by kernel_rfl) (by decide) (by intro _;rfl) fun x u hu=>by simp only[Nd.row,Sl.v,List.mem_cons,List.not_mem_nil,or_false]at hu;rcases hu with rfl|rfl <;> rfl
theorem qFF:AppP 31 3 1 qAe:=appG Tryz.underlying31 (by kernel_rfl) (by kernel_rfl) (by kernel_rfl) (by kernel_rfl) (by kernel_rfl) (by decide) (by intro _;rfl) fun x u hu=>by simp only[qAe,List.mem_cons,List.not_mem_nil,or_false]at hu;subst hu;rfl
theorem qBe(l:List Int):l.flatMap qAe=l.map (Value.int .i64):=by
 induction l with
 | nil=>rfl
 | cons a l ih=>rw[List.flatMap_cons,ih];rfl
structure Lay (V0 V:Mem) (gs ns ls:Sl) (nd:List Nd) (st:St):Prop where
 glob:Sx.Own V0 V 3 1 gs (st.g.flatMap qAe)
 nodes:Sx.Own V0 V 92 2 ns (nd.flatMap Nd.row)
 log:Sx.Own V0 V 89 3 ls (st.lg.flatMap qHv)
 fld:∀n∈nd,Sx.Own V0 V 3 1 n.sl (n.f.flatMap qAe)
 eq:nd.map (fun n=>(n.ty,n.f))=st.ns
 gf:∀n∈nd,∀c,Blk n.sl c->¬Blk gs c
 ff:∀(i j:Nat) n n' c,nd[i]?=some n->nd[j]?=some n'->Blk n.sl c->Blk n'.sl c->i=j
section
variable{V0 V V':Mem}{gs ns ls:Sl}{nd:List Nd}{st:St}
def Alien(V:Mem)(c:Nat):Prop:=∀cur t,t=3∨t=92∨t=89->V c≠some (.cells cur t (0,0))
theorem Lay.sub(L:Lay V0 V gs ns ls nd st):V0.sub V:=L.glob.sub
theorem Lay.move(L:Lay V0 V gs ns ls nd st)(hs:V0.sub V')(hk:∀c o,V c=some o->V0 c=none->¬Alien V c->V' c=some o):Lay V0 V' gs ns ls nd st:=by
 have go:∀{e sz s vs},(e=3∨e=92∨e=89)->Sx.Own V0 V e sz s vs->Sx.Own V0 V' e sz s vs:=fun {e sz s vs} he h=>Own.moveB h hs fun g cur hb hg=>hk _ _ hg (Own.none0 h hb) fun ha=>ha _ _ he hg
 exact⟨go (.inl rfl) L.glob,go (.inr (.inl rfl)) L.nodes,go (.inr (.inr rfl)) L.log,fun n hn=>go (.inl rfl) (L.fld n hn),L.eq,L.gf,L.ff⟩
theorem Lay.grow(L:Lay V0 V gs ns ls nd st)(h:V.sub V'):Lay V0 V' gs ns ls nd st:=L.move (L.sub.trans h) fun c o hc _ _=>h _ _ hc
theorem Lay.put(L:Lay V0 V gs ns ls nd st){c:Nat}(ha:Alien V c)(h0:V0 c=none)(o:Obj):Lay V0 (V.set c o) gs ns ls nd st:=L.move (L.sub.set h0 o) fun x o' hx _ hna=>by
 grind [Mem.set_ne]
theorem Lay.narrow{W:Mem}(L:Lay W V gs ns ls nd st)(h:V0.sub W):Lay V0 V gs ns ls nd st:=⟨L.glob.narrow h,L.nodes.narrow h,L.log.narrow h,fun n hn=>(L.fld n hn).narrow h,L.eq,L.gf,L.ff⟩
theorem Lay.poke(L:Lay V0 V gs ns ls nd st){b:Nat}(hb:V0 b≠none)(o:Obj):Lay (V0.set b o) (V.set b o) gs ns ls nd st:=⟨Own.poke L.glob hb o,Own.poke L.nodes hb o,Own.poke L.log hb o,fun n hn=>Own.poke (L.fld n hn) hb o,L.eq,L.gf,L.ff⟩
def Mine(p:Nat)(gs ns ls:Sl)(nd:List Nd)(c:Nat):Prop:=c=p∨Blk gs c∨Blk ns c∨Blk ls c∨∃n∈nd,Blk n.sl c
open Classical in
noncomputable def Mem.minus(V:Mem)(M:Nat->Prop):Mem:=fun c=>if M c then none else V c
theorem qEy{M:Nat->Prop}:(Mem.minus V M).sub V:=fun c o h=>by
 grind [Mem.minus]
theorem qCE{M:Nat->Prop}{c:Nat}(h:¬M c):Mem.minus V M c=V c:=by grind [Mem.minus]
theorem qGd{M:Nat->Prop}{c:Nat}(h:M c):Mem.minus V M c=none:=by grind [Mem.minus]
theorem Lay.frame(L:Lay V0 V gs ns ls nd st){p:Nat}(hk:∀c o,Mine p gs ns ls nd c->V c=some o->V' c=some o):Lay (Mem.minus V' (Mine p gs ns ls nd)) V' gs ns ls nd st:=by
 have go:∀{e sz s vs},(∀c,Blk s c->Mine p gs ns ls nd c)->Sx.Own V0 V e sz s vs->Sx.Own (Mem.minus V' (Mine p gs ns ls nd)) V' e sz s vs:=fun {e sz s vs} hm h=>⟨qEy,h.len,by
  rcases h.cases0 with h1|⟨hc,g,cur,h1,h2,h3,h4⟩
  ·exact .inl h1
  ·exact .inr ⟨g,cur,h1,qGd (hm g ⟨hc,h1⟩),hk _ _ (hm g ⟨hc,h1⟩) h3,h4⟩⟩
 exact⟨go (fun _ h=>.inr (.inl h)) L.glob,go (fun _ h=>.inr (.inr (.inl h))) L.nodes,go (fun _ h=>.inr (.inr (.inr (.inl h)))) L.log,fun n hn=>go (fun _ h=>.inr (.inr (.inr (.inr ⟨n,hn,h⟩)))) (L.fld n hn),L.eq,L.gf,L.ff⟩
theorem Lay.mineV(L:Lay V0 V gs ns ls nd st){p c:Nat}(hp:V p≠none)(h:Mine p gs ns ls nd c):V c≠none:=by
 have go:∀{e sz s vs},Sx.Own V0 V e sz s vs->Blk s c->V c≠none:=fun {e sz s vs} h hb=>by
  grind [Own.some]
 rcases h with rfl|h|h|h|⟨n,hn,h⟩
 ·exact hp
 ·exact go L.glob h
 ·exact go L.nodes h
 ·exact go L.log h
 ·exact go (L.fld n hn) h
theorem Lay.mine0(L:Lay V0 V gs ns ls nd st){p c:Nat}(hp:V0 p=none)(h:Mine p gs ns ls nd c):V0 c=none:=by
 rcases h with rfl|h|h|h|⟨n,hn,h⟩
 ·exact hp
 ·exact Own.none0 L.glob h
 ·exact Own.none0 L.nodes h
 ·exact Own.none0 L.log h
 ·exact Own.none0 (L.fld n hn) h
theorem Lay.len(L:Lay V0 V gs ns ls nd st):nd.length=st.ns.length:=by rw[<- L.eq,List.length_map]
theorem Lay.at_(L:Lay V0 V gs ns ls nd st){i:Nat}{x:Int×List Int}(h:st.ns[i]?=some x):∃sl,nd[i]?=some ⟨x.1,sl,x.2⟩:=by
 rw[<- L.eq,List.getElem?_map]at h
 cases hn:nd[i]? with
 | none=>simp_all
 | some n=>rw[hn]at h;cases h;grind
theorem Lay.setG(L:Lay V0 V gs ns ls nd st){i:Nat}(hi:i<st.g.length){v:Int}{q:Mem->Prop}(hq:∀V',Lay V0 V' gs ns ls nd { st with g:=st.g.set i v }->(∀c,¬Blk gs c->V' c=V c)->q V'):StT (qAa gs.p (i*1)) 0 [.int .i64 v] V q:=by
 rw[Nat.mul_one]
 refine Own.store L.glob (by rw[qBe,List.length_map];exact hi) fun V' ho hk=>hq V' ⟨?_,?_,?_,fun n hn=>?_,L.eq,L.gf,L.ff⟩ hk
 ·grind [qAe,qBe,List.map_set]
 ·exact Own.moveB L.nodes ho.sub fun g cur hb hg=>by rw[hk g (L.glob.apart fun c=>by simp_all)];exact hg
 ·exact Own.moveB L.log ho.sub fun g cur hb hg=>by rw[hk g (L.glob.apart fun c=>by simp_all)];exact hg
 ·exact Own.moveB (L.fld n hn) ho.sub fun g cur hb hg=>by rw[hk g (L.gf n hn g hb)];exact hg
theorem Lay.setF(L:Lay V0 V gs ns ls nd st){k i:Nat}{n:Nd}(hn:nd[k]?=some n)(hi:i<n.f.length){v:Int}{q:Mem->Prop}
  (hq:∀V',Lay V0 V' gs ns ls (nd.set k { n with f:=n.f.set i v }) { st with ns:=st.ns.set k (n.ty,n.f.set i v) }->(∀c,¬Blk n.sl c->V' c=V c)->q V'):StT (qAa n.sl.p (i*1)) 0 [.int .i64 v] V q:=by
 rw[Nat.mul_one]
 have hm:=List.mem_of_getElem? hn
 have hkl:=(List.getElem?_eq_some_iff.1 hn).1
 refine Own.store (L.fld n hm) (by rw[qBe,List.length_map];exact hi) fun V' ho hk=>hq V' ⟨?_,?_,?_,fun n' hn'=>?_,?_,fun n' hn' c hc=>?_,fun i' j' a b c ha hb hca hcb=>?_⟩ hk
 ·exact Own.moveB L.glob ho.sub fun g cur hb hg=>by rw[hk g fun h=>L.gf n hm g h hb];exact hg
 ·have:(nd.set k { n with f:=n.f.set i v }).flatMap Nd.row=nd.flatMap Nd.row:=by
   have:(nd.set k { n with f:=n.f.set i v }).map Nd.row=nd.map Nd.row:=by
    rw[List.map_set]
    refine List.ext_getElem? fun m=>?_
    rw[List.getElem?_set]
    split
    ·rename_i e;subst e
     rw[List.getElem?_map,hn,if_pos (by simp_all)];rfl
    ·rfl
   grind
  rw[this]
  exact Own.moveB L.nodes ho.sub fun g cur hb hg=>by rw[hk g ((L.fld n hm).apart fun c=>by simp_all)];exact hg
 ·exact Own.moveB L.log ho.sub fun g cur hb hg=>by rw[hk g ((L.fld n hm).apart fun c=>by simp_all)];exact hg
 ·obtain⟨m,hm'⟩:=List.mem_iff_getElem?.1 hn'
  rw[List.getElem?_set]at hm'
  split at hm'
  ·grind [qAe,qBe,List.map_set]
  ·rename_i hne
   exact Own.moveB (L.fld n' (List.mem_of_getElem? hm')) ho.sub fun g cur hb hg=>by rw[hk g fun h=>hne (L.ff k m n n' g hn hm' h hb)];exact hg
 ·rw[<- L.eq,List.map_set]
 ·rcases List.mem_or_eq_of_mem_set hn' with h|rfl
  ·exact L.gf n' h c hc
  ·exact L.gf n hm c hc
 ·have get:∀{m:Nat} {x:Nd},(nd.set k { n with f:=n.f.set i v })[m]?=some x->∃y,nd[m]?=some y/\y.sl=x.sl:=fun {m x} hx=>by
   grind
  obtain⟨y,y1,y2⟩:=get ha
  obtain⟨z,z1,z2⟩:=get hb
  exact L.ff i' j' y z c y1 z1 (y2 ▸ hca) (z2 ▸ hcb)
theorem Lay.note(L:Lay V0 V gs ns ls nd st){a:Int×Int×Int}{ty tb:Nat}{x y:Operand}{vals:Operand->Value}{q:Value->Mem->Prop}(htb:V tb=none)(hx:vals x=.slice ls.p ls.n ls.c)(hy:vals y=.slice (sa tb) 1 1)(hfit:st.lg.length+1<=2147483648)
  (hq:∀s' V',Lay V0 V' gs ns s' nd (st.note a)->(∀c o,V c=some o->¬Blk ls c->V' c=some o)->q (.slice s'.p s'.n s'.c) V') :
  GenK Tryz.prog (.call { callee:=.builtin .append,args:=#[x,y],argTypes:=#[84,84] }) ty vals (V.set tb (.cells (qHv a).toArray 89 (0,0))) q:=by
 refine app84 (s:=ls) (u:=⟨some ⟨tb,0,none⟩,1,1⟩) (xs:=st.lg) (ys:=[a]) hx hy (L.log.but.new htb _) (qAc.cells (xs:=[a]) (row:=qHv) mss (by simp) (fun _=>rfl) rfl (by simp)) (by simpa using hfit) fun s' V' ho=>?_
 have hk:∀c o,V c=some o->¬Blk ls c->V' c=some o:=fun c o hc hb=>ho.sub _ _ (Mem.but_at hc hb)
 have hs:V0.sub V':=L.log.sub_but.trans ho.sub
 refine hq s' V' ⟨?_,?_,ho.narrow L.log.sub_but,fun n hn=>?_,L.eq,L.gf,L.ff⟩ hk
 ·exact Own.moveB L.glob hs fun g cur hb hg=>hk _ _ hg (L.log.apart fun c=>by simp_all)
 ·exact Own.moveB L.nodes hs fun g cur hb hg=>hk _ _ hg (L.log.apart fun c=>by simp_all)
 ·exact Own.moveB (L.fld n hn) hs fun g cur hb hg=>hk _ _ hg (L.log.apart fun c=>by simp_all)
theorem Lay.new(L:Lay V0 V gs ns ls nd st){n:Nd}{V1:Mem}(hown:Sx.Own V V1 3 1 n.sl (n.f.flatMap qAe))
  {ty tb:Nat} {x y:Operand} {vals:Operand->Value} {q:Value->Mem->Prop} (htb:V1 tb=none) (hx:vals x=.slice ns.p ns.n ns.c) (hy:vals y=.slice (sa tb) 1 1) (hfit:nd.length+1<=2147483648)
  (hq:∀s' V',Lay V0 V' gs s' ls (nd++[n]) { st with ns:=st.ns++[(n.ty,n.f)] }->(∀c o,V1 c=some o->¬Blk ns c->V' c=some o)->q (.slice s'.p s'.n s'.c) V') :
  GenK Tryz.prog (.call { callee:=.builtin .append,args:=#[x,y],argTypes:=#[32,32] }) ty vals (V1.set tb (.cells n.row.toArray 92 (0,0))) q:=by
 have s1:V.sub V1:=hown.sub
 have L1:=L.grow s1
 refine app32 (s:=ns) (u:=⟨some ⟨tb,0,none⟩,1,1⟩) (xs:=nd) (ys:=[n]) hx hy (L1.nodes.but.new htb _) (qAc.cells (xs:=[n]) (row:=Nd.row) mss (by simp) (fun _=>rfl) rfl (by simp)) (by simpa using hfit) fun s' V' ho=>?_
 have hk:∀c o,V1 c=some o->¬Blk ns c->V' c=some o:=fun c o hc hb=>ho.sub _ _ (Mem.but_at hc hb)
 have hs:V0.sub V':=L1.nodes.sub_but.trans ho.sub
 have hn0:∀c,Blk n.sl c->V c=none:=fun c hc=>Own.none0 hown hc
 refine hq s' V' ⟨?_,ho.narrow L1.nodes.sub_but,?_,fun m hm=>?_,by rw[List.map_append,L.eq];rfl,fun m hm c hc=>?_,fun i j a b c ha hb hca hcb=>?_⟩ hk
 ·exact Own.moveB L1.glob hs fun g cur hb hg=>hk _ _ hg (L1.nodes.apart fun c=>by simp_all)
 ·exact Own.moveB L1.log hs fun g cur hb hg=>hk _ _ hg (L1.nodes.apart fun c=>by simp_all)
 ·rcases List.mem_append.1 hm with hm|hm
  ·exact Own.moveB (L1.fld m hm) hs fun g cur hb hg=>hk _ _ hg (L1.nodes.apart fun c=>by simp_all)
  ·rw[List.mem_singleton.1 hm]
   exact Own.moveB (hown.narrow L.sub) hs fun g cur hb hg=>hk _ _ hg (L1.nodes.apart fun c=>by simp_all)
 ·rcases List.mem_append.1 hm with hm|hm
  ·exact L.gf m hm c hc
  ·rw[List.mem_singleton.1 hm]at hc
   intro hg
   obtain⟨cur,hcur⟩:=Own.some L.glob hg
   simp_all
 ·have old:∀{m:Nd},m∈nd->Blk m.sl c->¬Blk n.sl c:=fun hm hc hc'=>by
   obtain⟨cur,hcur⟩:=Own.some (L.fld _ hm) hc
   simp_all
  by_cases h1:i<nd.length <;> by_cases h2:j<nd.length
  ·rw[List.getElem?_append_left h1]at ha
   rw[List.getElem?_append_left h2]at hb
   exact L.ff i j a b c ha hb hca hcb
  ·grind
  ·grind
  grind
end
end Go.Proofs
namespace Go.Sx
open Go
section
variable{P:Program}{V0 V:Mem}{t e ty tc:TypeId}{i:TypeInfo}{z:Value}{sz:Nat}{k:IntKind}
theorem Frm.made{V:Mem}{w:World}(hw:V.le w)(o:Obj):V w.heap.size=none/\Frm V w (V.set w.heap.size o) (w.alloc o):=by
 have hn:V w.heap.size=none:=by
  cases h:V w.heap.size with
  | none=>rfl
  | some x =>
   have:=(Array.getElem?_eq_some_iff.1 (hw _ _ h)).1
   omega
 refine⟨hn,⟨by simp,fun b x hb=>?_,fun b hb _=>(by grind [heap_alloc_old]),fun b hb=>?_,rfl,rfl⟩⟩
 ·unfold Mem.set at hb
  split at hb
  ·grind [heap_alloc_new]
  ·have hlt:=(Array.getElem?_eq_some_iff.1 (hw _ _ hb)).1
   first|exact(heap_alloc_old w o b hlt).trans (hw _ _ hb) | exact(heap_alloc_old w o hlt).trans (hw _ _ hb)
 grind [Mem.set,inr]
theorem GenK.make(ht:P.underlying t=some (.slice e))(hi:P.info? e=some i)(hz:i.zero=some z)(hsize:i.size=sz)(hby:i.bytes<=65536){x y:Operand}{vals:Operand->Value}{n:Nat}(hx:vals x=.int .i64 n)(hy:vals y=.int .i64 n)(hn:n<=2147483648){q:Value->Mem->Prop}
  (hq:∀g,V g=none->q (.slice (some ⟨g,0,none⟩) n n) (V.set g (.cells (madeCells z.cells (n*sz)) e (0,0)))):GenK P (.makeSlice t x y) ty vals V q:=by
 intro w hw
 subst hsize
 have hb:(i.bytes:Int)*(n:Int)<=281474976710656:=by
  have:i.bytes*n<=65536*2147483648:=Nat.mul_le_mul hby hn
  omega
 have hr:=run_make (P:=P) w t e i z ht hi hz .i64 .i64 n n (by omega) (Int.le_refl _) hb (by omega)
 grind [Int.toNat_natCast,Frm.made,madeCells,execOp,Sem.run_bind,Sem.run_pure,Result.andThen_ok]
theorem zeros_one(hz1:z.cells.size=sz)(h1:∀u∈z.cells.toList,u.oneCell'=true)(n:Nat)(h0:0<sz):∀u∈(Builtin.zeroCells z.cells n).toList,u.oneCell'=true:=fun u hu=>by
 unfold Builtin.zeroCells at hu
 simp only[Array.toList_map,List.mem_map]at hu
 obtain⟨j,-,rfl⟩:=hu
 grind [Nat.mod_lt]
theorem qHA{w:World}(ht:P.underlying t=some (.slice e))(hc:P.underlying tc=some (.int k))(hi:P.info? e=some i)(hz:i.zero=some z)(h0:0<i.size)(hzs:z.cells.size=i.size)(h1:∀u∈z.cells.toList,u.oneCell'=true)
  (g sLen sCap:Nat) (cur:Array Value) (hg:w.heap[g]?=some (.cells cur e (0,0))) (n:Nat) (hn:0<n) (hb:n*i.bytes<=281474976710656) (hn2:n<=2147483648) (hroom:sLen+n<=sCap) (hfit:sLen*i.size+n*i.size<=cur.size) :
  (Builtin.append_ #[t,tc] ty #[.slice (some ⟨g,0,none⟩) sLen sCap,.int .i64 n]).run P w =
   .ok (.slice (some ⟨g,0,none⟩) (sLen+n) sCap) (w.setRow g (cur.toList.take (sLen*i.size)++(Builtin.zeroCells z.cells n).toList++cur.toList.drop (sLen*i.size+(Builtin.zeroCells z.cells n).toList.length)).toArray):=by
 have hl:(Builtin.zeroCells z.cells n).toList.length=n*i.size:=by rw[Array.length_toList,size_zeroCells,hzs]
 have hst:=run_storeCells_at P g (sLen*i.size) e (Builtin.zeroCells z.cells n).toList 0 cur w hg (by omega) (zeros_one hzs h1 n h0)
 simp only[Nat.add_zero]at hst
 have wl:IntKind.i64.wrap (n:Int)=n:=by rw[IntKind.wrap_i64];omega
 have n1:¬((n:Int)<0):=by omega
 have n2:¬(281474976710656<(n:Int)*(i.bytes:Int)):=by
  omega
 have n3:¬(n*i.size=0):=Nat.ne_of_gt (Nat.mul_pos hn h0)
 simp[Builtin.append_,run_underlying ht,run_underlying hc,asInt,asIntOf,sizeOf,typeInfo,hi,zeroValue,hz,wl,n1,n2,hroom,Addr.add_lit,hst]
 omega
theorem qEj{w:World}(ht:P.underlying t=some (.slice e))(hc:P.underlying tc=some (.int k))(hi:P.info? e=some i)(hz:i.zero=some z)(h0:0<i.size)(base:Option Addr)(sLen sCap:Nat)(olds:List Value)
  (hold:(Builtin.firstCells i.size sLen (.slice base sLen sCap)).run P w.drew=.ok olds.toArray w.drew) (n:Nat) (hn:0<n) (hb:n*i.bytes<=281474976710656) (hn2:n<=2147483648)
  (hg:sCap<sLen+n) (h63:((sLen+n:Nat):Int)<=9223372036854775807) (hfit:Builtin.nextslicecap (sLen+n) sCap*i.bytes<=281474976710656) :
  (Builtin.append_ #[t,tc] ty #[.slice base sLen sCap,.int .i64 n]).run P w =
   .ok (.slice (some ⟨w.heap.size,0,none⟩) (sLen+n) (grownCap w (sLen+n) sCap e))
    (w.drew.alloc (.cells (olds.toArray++Builtin.zeroCells z.cells n++Builtin.zeroCells z.cells (grownCap w (sLen+n) sCap e-(sLen+n))) e)):=by
 have hno:¬(sLen+n<=sCap):=by omega
 have h63':¬(9223372036854775807<((sLen:Int)+(n:Int))):=by omega
 have h48':¬(281474976710656<Builtin.nextslicecap (sLen+n) sCap*i.bytes):=by omega
 have wl:IntKind.i64.wrap (n:Int)=n:=by rw[IntKind.wrap_i64];omega
 have n1:¬((n:Int)<0):=by omega
 have n2:¬(281474976710656<(n:Int)*(i.bytes:Int)):=by
  omega
 simp[Builtin.append_,run_underlying ht,run_underlying hc,asInt,asIntOf,sizeOf,typeInfo,zeroValue,hi,hz,wl,n1,n2,hno,h63',h48',Question.forced,hold,newRow,grownCap]
 simp_all [absurd,Nat.ne_of_gt,Nat.mul_pos]
theorem GenK.appendZ(ht:P.underlying t=some (.slice e))(hc:P.underlying tc=some (.int k))(hi:P.info? e=some i)(hz:i.zero=some z)(hsize:i.size=sz)(hzs:z.cells.size=sz)(hsz:0<sz)(hby:i.bytes<=65536)(h1:∀u∈z.cells.toList,u.oneCell'=true)
  {x y:Operand} {vals:Operand->Value} {s:Sl} {n:Nat} {vs:List Value} (hx:vals x=.slice s.p s.n s.c) (hy:vals y=.int .i64 n) (own:Own V0 V e sz s vs) (hfit:s.n+n<=2147483648) {q:Value->Mem->Prop}
  (hq:∀s' V',Own V0 V' e sz s' (vs++(Builtin.zeroCells z.cells n).toList)->q (.slice s'.p s'.n s'.c) V') :
  GenK P (.call { callee:=.builtin .append,args:=#[x,y],argTypes:=#[t,tc] }) ty vals V q:=by
 intro w hw
 subst hsize
 have hbytes:(s.n+n)*i.bytes<=140737488355328:=Nat.le_trans (Nat.mul_le_mul hfit hby) (by decide)
 have hbn:n*i.bytes<=281474976710656:=by
  grind
 have hl:(Builtin.zeroCells z.cells n).toList.length=n*i.size:=by rw[Array.length_toList,size_zeroCells,hzs]
 have fin:∀(s':Sl) (V':Mem) (w':World),(Builtin.append_ #[t,tc] ty #[.slice s.p s.n s.c,.int .i64 n]).run P w=.ok (.slice s'.p s'.n s'.c) w'->Frm V w V' w'->Own V0 V' e i.size s' (vs++(Builtin.zeroCells z.cells n).toList) ->
   ∃v w' V',(execOp vals { dst:=none,op:=.call { callee:=.builtin .append,args:=#[x,y],argTypes:=#[t,tc] },type:=ty,pos := "",after:=#[],guard:=none }).run P w=.ok (.value v) w'/\Frm V w V' w'/\q v V':=by
  intro s' V' w' hr hf ho
  refine⟨_,w',V',?_,hf,hq s' V' ho⟩
  unfold execOp
  simp only[resolve,invoke,builtin,Sem.run_bind,Sem.run_pure,Result.andThen_ok,List.map_toArray,List.map_cons,List.map_nil,hx,hy,hr]
 by_cases hn0:n=0
 ·subst hn0
  have hz0:(Builtin.zeroCells z.cells 0).toList=[]:=List.eq_nil_of_length_eq_zero (by rw[hl];simp)
  rw[hz0,List.append_nil]at fin
  have hnc:s.n<=s.c:=by
   rcases own.at_ with⟨a,b,-⟩|⟨g,cur,-,-,-,h,-⟩
   ·omega
   ·exact h
  refine fin s V w ?_ (Frm.refl hw) own
  have wl:IntKind.i64.wrap 0=0:=by rfl
  cases s.p with
  | none=>simp[Builtin.append_,run_underlying ht,run_underlying hc,asInt,asIntOf,sizeOf,typeInfo,hi,wl,hnc]
  | some a=>simp[Builtin.append_,run_underlying ht,run_underlying hc,asInt,asIntOf,sizeOf,typeInfo,hi,wl,hnc,storeCells]
 have hn:0<n:=Nat.pos_of_ne_zero hn0
 have hlen:(vs++(Builtin.zeroCells z.cells n).toList).length=(s.n+n)*i.size:=by rw[List.length_append,own.len,hl,Nat.add_mul]
 have hgrow:∀old,old<s.n+n->(Builtin.append_ #[t,tc] ty #[.slice s.p s.n s.c,.int .i64 n]).run P w =
   .ok (.slice (some ⟨w.heap.size,0,none⟩) (s.n+n) (grownCap w (s.n+n) old e)) (w.drew.alloc (.cells (vs.toArray++Builtin.zeroCells z.cells n++Builtin.zeroCells z.cells (grownCap w (s.n+n) old e-(s.n+n))) e)) ->
   ∃v w' V',(execOp vals { dst:=none,op:=.call { callee:=.builtin .append,args:=#[x,y],argTypes:=#[t,tc] },type:=ty,pos := "",after:=#[],guard:=none }).run P w=.ok (.value v) w'/\Frm V w V' w'/\q v V':=by
  intro old ho hr
  obtain⟨hno,hf⟩:=Frm.new hw (.cells (vs.toArray++Builtin.zeroCells z.cells n++Builtin.zeroCells z.cells (grownCap w (s.n+n) old e-(s.n+n))) e)
  have hge:=grownCap_ge w (s.n+n) old e
  refine fin ⟨_,_,_⟩ _ _ hr hf ⟨Mem.sub.new own.sub hno _,hlen,.inr ⟨w.heap.size,_,rfl,?_,Mem.set_same _ _ _,hge,grownCap_le_maxLen w _ old e (by simp only[maxLen];omega),?_,?_⟩⟩
  ·cases h0:V0 w.heap.size with
   | none=>rfl
   | some x=>rw[own.sub _ _ h0]at hno;cases hno
  ·simp only[Array.size_append,List.size_toArray,size_zeroCells,hzs,own.len,<- Nat.add_mul]
   congr 1
   show _=grownCap w (s.n+n) old e
   omega
  grind
 have hfitN:∀old,old<s.n+n->Builtin.nextslicecap (s.n+n) old*i.bytes<=281474976710656:=fun old ho=>growslice_fits (by omega) hbytes
 rcases own.at_ with⟨hs,hs',hv⟩|⟨g,cur,hp,hg,hV,hnc,hcm,hcs,htake⟩
 ·subst hv
  refine hgrow s.c (by omega) ?_
  have hold:(Builtin.firstCells i.size s.n (.slice s.p s.n s.c)).run P w.drew=.ok ([]:List Value).toArray w.drew:=by
   rw[hs]
   cases s.p with
   | none=>rfl
   | some a=>simp[Builtin.firstCells,loadCells,loadCellsFrom]
  grind [qEj]
 ·by_cases hroom:s.n+n<=s.c
  ·have hcur:w.heap[g]?=some (.cells cur e (0,0)):=hw _ _ hV
   have hle:(s.n+n)*i.size<=s.c*i.size:=Nat.mul_le_mul_right _ hroom
   have hmul:(s.n+n)*i.size=s.n*i.size+n*i.size:=Nat.add_mul _ _ _
   have hr:=qHA (P:=P) (ty:=ty) ht hc hi hz hsz hzs h1 g s.n s.c cur hcur n hn hbn (by omega) hroom (by omega)
   refine fin ⟨some ⟨g,0,none⟩,s.n+n,s.c⟩ _ _ (by rw[hp];exact hr) (Frm.row hw hV) ⟨own.sub.set hg _,hlen,.inr ⟨g,_,rfl,hg,Mem.set_same _ _ _,hroom,hcm,?_,?_⟩⟩
   ·grind
   grind
  ·refine hgrow s.c (by omega) ?_
   have hown:w.ownsRow 0 e i.size (.slice s.p s.n s.c) s.n vs:=⟨own.len,.inr ⟨g,s.c,cur,by rw[hp],Nat.zero_le _,hw _ _ hV,hnc,hcm,hcs,htake⟩⟩
   have holds:∀j u,vs[j]?=some u->w.cell? ((⟨g,0,none⟩:Addr).add j)=some u:=hown.cells (g:=g) (by rw[hp];rfl)
   have hold:=run_firstCells_some (P:=P) w.drew i.size s.n ⟨g,0,none⟩ s.n s.c vs own.len (by simpa using holds)
   grind [qEj,Builtin.firstCells]
end
theorem qJU(n:Nat):(Builtin.zeroCells (Value.int .i64 0).cells n).toList=List.replicate n (Value.int .i64 0):=by
 have hc:(Value.int .i64 0).cells=#[Value.int .i64 0]:=by rfl
 rw[hc]
 unfold Builtin.zeroCells
 refine List.ext_getElem? fun j=>?_
 grind
theorem qKE(n:Nat):(madeCells (Value.int .i64 0).cells n).toList=List.replicate n (Value.int .i64 0):=by
 have hc:(Value.int .i64 0).cells=#[Value.int .i64 0]:=by rfl
 rw[hc]
 unfold madeCells
 refine List.ext_getElem? fun j=>?_
 grind
end Go.Sx
namespace Go.Proofs
open Go Go.Sx
attribute [local irreducible] Go.Sx.Tri
def NT(ty:Nat):Prop:=ty≠3/\ty≠92/\ty≠89
theorem nn{p:Addr}:¬(some p:Option Addr)=none:=nofun
theorem pnn{p:Addr}{n:Nat}:¬qAa (some p) n=none:=nofun
structure MA (ty:Nat) (V0:Mem) (p:Nat) (row:Sl->Sl->Sl->List Value) (V:Mem) (s:St):Prop where
 p0:V0 p=none
 ex:∃gs ns ls nd,V p=some (.cells (row gs ns ls).toArray ty (0,0))/\Lay V0 V gs ns ls nd s
section
variable{ty:Nat}{V0 V V' W:Mem}{p:Nat}{row row':Sl->Sl->Sl->List Value}{s s':St}{gs ns ls:Sl}{nd:List Nd}
theorem qHT{x:Array Value}(h:V p=some (.cells x ty (0,0)))(hty:NT ty):Alien V p:=fun cur t ht h'=>by
 rw[h]at h'
 simp only[Option.some.injEq,Obj.cells.injEq]at h'
 obtain⟨-,h',-⟩:=h'
 rcases ht with rfl|rfl|rfl
 ·exact hty.1 h'
 ·exact hty.2.1 h'
 ·exact hty.2.2 h'
theorem notBlk{x:Array Value}(h:V p=some (.cells x ty (0,0)))(hty:NT ty){e:TypeId}{sz:Nat}{sl:Sl}{vs:List Value}(ho:Sx.Own V0 V e sz sl vs)(he:e=3∨e=92∨e=89):¬Blk sl p:=ho.apart fun cur hc=>qHT h hty cur e he hc
theorem Lay.same(L:Lay V0 V gs ns ls nd s)(h1:s'.g=s.g)(h2:s'.ns=s.ns)(h3:s'.lg=s.lg):Lay V0 V gs ns ls nd s':=⟨by rw[h1];exact L.glob,L.nodes,by rw[h3];exact L.log,L.fld,by rw[h2];exact L.eq,L.gf,L.ff⟩
theorem MA.sub(h:MA ty V0 p row V s):V0.sub V:=by
 obtain⟨_,_,_,_,_,L⟩:=h.ex;exact L.sub
theorem MA.narrow(h:MA ty W p row V s)(hs:V0.sub W):MA ty V0 p row V s:=by
 obtain⟨gs,ns,ls,nd,hat,L⟩:=h.ex
 refine⟨?_,gs,ns,ls,nd,hat,L.narrow hs⟩
 cases hc:V0 p with
 | none=>rfl
 | some o=>have:=hs _ _ hc;rw[h.p0]at this;cases this
theorem MA.set(hty:NT ty)(p0:V0 p=none){x:Array Value}(hat:V p=some (.cells x ty (0,0)))(L:Lay V0 V gs ns ls nd s){c:Array Value}(hc:c=(row' gs ns ls).toArray)(h1:s'.g=s.g)(h2:s'.ns=s.ns)(h3:s'.lg=s.lg):MA ty V0 p row' (V.set p (.cells c ty (0,0))) s' :=
 ⟨p0,gs,ns,ls,nd,by rw[Mem.set_same,hc],(L.put (qHT hat hty) p0 _).same h1 h2 h3⟩
theorem MA.frame(h:MA ty V0 p row V s):∃M:Nat->Prop,(∀b,M b->V b≠none/\V0 b=none)/\∀V',(∀b o,M b->V b=some o->V' b=some o)->MA ty (Mem.minus V' M) p row V' s:=by
 obtain⟨gs,ns,ls,nd,hat,L⟩:=h.ex
 refine⟨Mine p gs ns ls nd,fun b hb=>⟨L.mineV (by rw[hat];simp) hb,L.mine0 h.p0 hb⟩,fun V' hk=>⟨qGd (.inl rfl),gs,ns,ls,nd,hk _ _ (.inl rfl) hat,L.frame hk⟩⟩
theorem MA.after(h:MA ty V0 p row V s)(hs:V.sub V'):∃W,V0.sub W/\W.sub V'/\MA ty W p row V' s/\∀b o,V b=none->V' b=some o->W b=some o:=by
 obtain⟨M,h1,h2⟩:=h.frame
 refine⟨Mem.minus V' M,fun b o hb=>?_,qEy,h2 V' fun b o _ hb=>hs _ _ hb,fun b o hb hb'=>?_⟩
 ·rw[qCE fun hm=>by simp_all];exact hs _ _ (h.sub _ _ hb)
 grind [qCE]
theorem MA.beside(h:MA ty W p row V s){e:TypeId}{sz:Nat}{sl sl':Sl}{vs vs':List Value}(hV0:V0.sub W)(ho:Sx.Own V0 W e sz sl vs)(ho':Sx.Own (V.but sl) V' e sz sl' vs'):∃W',V0.sub W'/\MA ty W' p row V' s/\Sx.Own V0 W' e sz sl' vs':=by
 obtain⟨M,h1,h2⟩:=h.frame
 have nb:∀b,M b->¬Blk sl b:=fun b hm hb=>by
  grind [Own.some]
 have keep:∀b o,V b=some o->¬Blk sl b->V' b=some o:=fun b o hb hn=>ho'.sub _ _ (Mem.but_at hb hn)
 have hM:∀b,M b->¬Blk sl' b:=fun b hm hb=>by
  have h0:=Own.none0 ho' hb
  cases hc:V b with
  | none=>simp_all
  | some o=>grind [Mem.but_at]
 have hs:V0.sub (Mem.minus V' M):=fun b o hb=>by
  have hw:=hV0 _ _ hb
  rw[qCE fun hm=>by simp_all]
  exact keep _ _ (h.sub _ _ hw) fun hbk=>by grind [Own.none0]
 refine⟨Mem.minus V' M,hs,h2 V' fun b o hm hb=>keep b o hb (nb b hm),hs,ho'.len,?_⟩
 rcases ho'.cases0 with h'|⟨hc,g,cur,a,b,c,dd⟩
 ·exact .inl h'
 ·refine .inr ⟨g,cur,a,?_,?_,dd⟩
  ·cases h0:V0 g with
   | none=>rfl
   | some o =>
    have hw:=h.sub _ _ (hV0 _ _ h0)
    rw[Mem.but_at hw (ho.apart0 h0)]at b;cases b
  ·rw[qCE fun hm=>hM g hm ⟨hc,a⟩];exact c
end
theorem qAN{V:Mem}{b:Nat}{c:Array Value}{t:Nat}{fr:Nat×Nat}(h:V b=some (.cells c t fr))(j off n:Nat)(hl:j+off+n<=c.size):V.rowp (qAa (sa b) j) off n=some ((c.toList.drop (j+off)).take n):=by
 have:=qAd h (j+off) n hl
 rw[<- this]
 show V.row (((⟨b,0,none⟩:Addr).add j).add off) n=V.row ((⟨b,0,none⟩:Addr).add (j+off)) n
 rw[add_add]
theorem qKx{V:Mem}{b:Nat}{n:Int}{t:Nat}(h:V b=some (.cells #[.int .i64 n] t (0,0))):qAc V ⟨some ⟨b,0,none⟩,1,1⟩ 1 ([n].map qAe) :=
 qAc.cells (xs:=[n]) (row:=qAe) h rfl (fun _=>rfl) rfl (by simp)
theorem c42{V:Mem}{l:Sl}{xs:List Int}(h:qAc V l 1 (xs.map qAe))(hb:xs.length<=2147483648):Tri Tryz.prog 42 #[l.v] V fun e V'=>∃s:Sl,e=.returned (.slice s.p s.n s.c)/\Sx.Own V V' 3 1 s (xs.flatMap qAe):=by
 refine x42 ?_
 unfold w42
 refine⟨fun h0=>⟨⟨none,0,0⟩,rfl,?_⟩,fun h0 tb htb=>?_⟩
 ·have:xs=[]:=by
   cases xs with
   | nil=>rfl
   | cons a l2 =>
    have:=h.base (i:=0) (by simp)
    simp_all
  grind [Own.nil,Mem.sub.refl]
 ·have s1:=Mem.sub_new htb (.cells #[] 3 (0,0))
  exact qFF (s:=⟨some ⟨tb,0,none⟩,0,0⟩) (u:=l) (xs:=[]) (ys:=xs) rfl rfl (Own.empty (V0:=V) s1 _ _ _) (h.sub s1) (by simpa using hb) fun s' V' ho=>⟨s',rfl,s',rfl,by simpa using ho⟩
end Go.Proofs
namespace Go.Sx
open Go
def qAz(r:Option Nat):Fence:={ Fence.wide with round:=r }
section
variable{P:Program}{r:Option Nat}{n:Nat}
theorem qEg{f:FuncId}{args:Array Value}{w:World}{R:Ending->World->Prop}:CallsIn (qAz r) n P f args w R↔Calls P f args w R:=callsIn_wide (n:=n)
theorem rowsIn_wideR{row:String}{args:Array Value}{w:World}{R:Value->World->Prop}(h:Rows P row args w R):RowsIn (qAz r) n P row args w R:=fun c cs _ =>
 let ⟨v,w',q,s⟩:=h c cs
 ⟨v,w',q,stepsIn_wide.2 s⟩
theorem qJn{o:Oper}{a:Act}{w:World}{next:Act->World->Prop}{Q:Exit->Act->World->Prop}(hd:∀c,o.op≠.defer c)(h:o.wp P a w next Q):o.wpIn (qAz r) n P a w next Q:=by
 refine⟨fun _ _=>trivial,?_⟩
 rw[Oper.semAt_eq _ _ _ hd]
 unfold Oper.wp at h
 revert h
 generalize (execOp a.eval o).run P w=res
 intro h
 cases res with
 | ok x w' =>
  cases x with
  | enter f args=>exact⟨fun h=>by simp[qAz,Fence.wide]at h,qEg.2 h⟩
  | row row args=>exact⟨fun h=>by simp[qAz,Fence.wide]at h,rowsIn_wideR h⟩
  | value v=>exact h
  | skip=>exact h
  | defer d=>exact h
  | _=>exact h.elim
 | halt x w'=>cases x <;> first|exact h|exact h.elim
def qFZ:Op->Bool
 | .defer _=>false
 | _=>true
theorem qDl{o:Op}(h:qFZ o=true):∀c,o≠.defer c:=fun c e=>by subst e;cases h
def qCQ:Code->Bool
 | .region _ ops _=>ops.all fun o=>qFZ o.op
 | .seq x y=>qCQ x&&qCQ y
 | .block _ b=>qCQ b
 | .cond _ x y=>qCQ x&&qCQ y
 | .loop b=>qCQ b
 | _=>true
theorem qDv{ops:Array Oper}{Q:Exit->Act->World->Prop}(hno:¬LetsOut Q)(hd:∀o∈ops,∀c,o.op≠.defer c)(l:List Oper):∀k,(∀j,j<l.length->l[j]?=ops[k+j]?)->∀a w,wpList P ops Q l a w ->
  wpOpsIn (qAz r) n P ops Q (List.range' k l.length) a w:=by
 induction l with
 | nil=>grind [wpOpsIn,wpList]
 | cons o l ih =>
  intro k h a w hw
  have h0:ops[k]?=some o:=by simpa using (h 0 (by simp)).symm
  have ih':=ih (k+1) (fun j hj=>by have:=h (j+1) (by simpa using hj);grind)
  simp only[List.length_cons,List.range'_succ,wpOpsIn,h0]
  simp only[wpList]at hw
  split
  ·rename_i hy
   rw[if_pos hy]at hw
   grind [qJn,Array.mem_of_getElem?,Oper.wp_mono]
  ·rename_i hy
   rw[if_neg hy]at hw
   exact⟨fun _ _=>trivial,ih' _ _ hw⟩
theorem qHx{ops:Array Oper}{Q:Exit->Act->World->Prop}(hno:¬LetsOut Q)(hd:∀o∈ops,∀c,o.op≠.defer c){md:Region.Mode}:∀fuel listed a w,wpAny P md ops Q fuel listed a w ->
  wpAnyIn (qAz r) n P md ops Q fuel listed a w:=by
 intro fuel
 induction fuel with
 | zero=>exact fun _ _ _ h=>h
 | succ fuel ih =>
  rintro listed a w ⟨h1,h2⟩
  refine⟨h1,fun i hi=>?_⟩
  have:=h2 i hi
  unfold wpOp at this
  unfold wpOpIn
  split
  ·simp_all
  ·rename_i o ho
   simp only[ho]at this
   split
   ·rename_i hy
    rw[if_pos hy]at this
    grind [qJn,Array.mem_of_getElem?,Oper.wp_mono]
   ·rename_i hy
    rw[if_neg hy]at this
    exact⟨fun _ _=>trivial,ih _ _ _ this⟩
end
open Classical in
theorem qFM{P:Program}{F:Fence}{n₀:Nat}{c:Code}{Q:Exit->Act->World->Prop}{a:Act}{w:World}(Inv:Nat->Act->World->Prop)(h0:∃n,Inv n a w)
  (round:∀n a w,Inv n a w->c.wpIn F n₀ P (Exit.then (fun a' w'=>∃n',n'<n/\Inv n' a' w') Q) a w):(Code.loop c).wpIn F n₀ P Q a w:=by
 let m:Act->World->Nat:=fun a w=>if h:∃n,Inv n a w then Classical.choose (qGT _ h) else 0
 have hm:∀a w (h:∃n,Inv n a w),Inv (m a w) a w/\∀k,Inv k a w->m a w<=k:=fun a w h=>by
  grind
 refine wpIn_loop (fun a w=>∃n,Inv n a w) m h0 fun a w hI=>?_
 obtain⟨h1,h2⟩:=hm a w hI
 refine wpIn_mono (round _ a w h1) (fun e a' w' q=>?_)
 grind
section
variable{all:Array Oper}{k:St->Tr}{Q:Exit->Act->World->Prop}
variable{P:Program}{R:Ending->Mem->Prop}{V0:Mem}{w0:World}{L:List (List Value->Mem->Prop)}{ρ0:List Value}{fs:List Nat}{H:qHa}
theorem qIk(hcalls:qBT P fs){st:St}{a:Act}{w:World}(hQ:qJk R V0 w0 a.defers Q)(h:qCs P R noO V0 w0 H.N L ρ0 a.tmps w st (qCq P fs H all st k))
  (hlo:LetsOut (fun(_:Exit) (_:Act) (_:World)=>False)->LetsOut Q)
  (hk:∀st' a' w',a'.defers=a.defers->qCs P R noO V0 w0 H.N L ρ0 a'.tmps w' st' (k st')->Q .normal a' w'):wpAny P .any all Q all.size (Array.replicate all.size false) a { w with drawn:=w.drawn+1 }:=by
 unfold qCq at h
 simp only at h
 obtain⟨β,ρ,V,hp,hr,hD⟩:=h
 split at hD
 case isFalse=>exact hD.elim
 rename_i hc
 simp only[Bool.and_eq_true,List.all_eq_true]at hc
 obtain⟨hc1,hc2⟩:=hc
 obtain⟨hok,h2,h3,h4,h5⟩:=qIS hc1
 have hrep:∀j d,j<all.size->(Array.replicate all.size false).getD j d=false:=fun j d hj=>by simp_all
 refine(any_sound hcalls hok (fun i o ho=>hc2 o (by grind)) hQ hlo hk all.size (List.range all.size) (qGM all (qAK all.toList []) all.size 0) [] st _ a _ a [] noO (fun x=>x) ?_ rfl List.nodup_range (by simp) fun j=>?_)
 ·exact
  {lsize:=by simp
   closed:=fun j oj hj hl=>by
    rw[hrep j _ (Array.getElem?_eq_some_iff.1 hj).1]at hl;cases hl
   chain:=h5
   nd:=h3
   bound:=h4
   unl:=fun j hj _=>.inr (nodup_all h3 h4 h2 hj)
   pu:=fun j hj=>by cases hj
   ru:=fun j hj=>.inl (hrep j _ (h4 j hj))
   boi:=fun i hi j hj hl=>by omega
   fsize:=rfl
   fdef:=rfl
   fill:=fun s _=>rfl
   goes:=⟨_,β,ρ,V,hp,hr.drawn _,hD⟩ }
 simp_all
end
section
variable{P:Program}{R:Ending->Mem->Prop}{O V0:Mem}{w0:World}{fs:List Nat}{H:qHa}
theorem noOut(Q:Exit->Act->World->Prop):¬LetsOut (fun e a' w'=>e≠.outgrown/\Q e a' w'):=fun⟨_,_,h⟩=>h.1 rfl
theorem nd1{x y:Bool}(h:(x&&y)=true):x=true:=by simp_all
theorem nd2{x y:Bool}(h:(x&&y)=true):y=true:=by simp_all
theorem ndOps{id:Nat}{ops:Array Oper}{d:Bool}(h:qCQ (.region id ops d)=true):∀o∈ops,qFZ o.op=true:=by
 grind [qCQ,Array.all_eq_true']
theorem ex_sound_in{r:Option Nat}{n₀:Nat}(hcalls:qBT P fs)(hm:P.follows .mixedOrders=true):∀(c:Code),qCQ c=true->∀(L:List (List Value->Mem->Prop)) (ρ0:List Value) (st:St) (k:Ex->St->Tr) (a:Act) (w:World) (Q:Exit->Act->World->Prop),
  qJk R V0 w0 a.defers Q->qCs P R noO V0 w0 H.N L ρ0 a.tmps w st (ex P fs H c st k) ->
  (∀e st' a' w' L',L <+: L'->a'.defers=a.defers->qCs P R noO V0 w0 H.N L' ρ0 a'.tmps w' st' (k e st')->Q e.toExit a' w')->c.wpIn (qAz r) n₀ P Q a w:=by
 intro c
 induction c with
 | skip=>intro nd L ρ0 st k a w Q hQ h hk;exact wpIn_skip (hk .normal st a w L (List.prefix_refl _) rfl h)
 | ret=>intro nd L ρ0 st k a w Q hQ h hk;exact wpIn_ret (hk .ret st a w L (List.prefix_refl _) rfl h)
 | exit id=>intro nd L ρ0 st k a w Q hQ h hk;exact wpIn_exit (hk (.exit id) st a w L (List.prefix_refl _) rfl h)
 | seq x y ihx ihy =>
  intro nd L ρ0 st k a w Q hQ h hk
  refine wpIn_seq (ihx (nd1 nd) L ρ0 st _ a w _ hQ h fun e st' a' w' L' hL hd hg=>?_)
  cases e with
  | normal=>exact ihy (nd2 nd) L' ρ0 st' k a' w' Q (by grind) hg fun e st'' a'' w'' L'' hL' hd' hg'=>hk e st'' a'' w'' L'' (hL.trans hL') (hd'.trans hd) hg'
  | exit i=>exact hk (.exit i) st' a' w' L' hL hd hg
  | ret=>exact hk .ret st' a' w' L' hL hd hg
 | block id b ih =>
  intro nd L ρ0 st k a w Q hQ h hk
  refine wpIn_block (ih nd L ρ0 st _ a w _ hQ h fun e st' a' w' L' hL hd hg=>?_)
  cases e with
  | normal=>exact hk .normal st' a' w' L' hL hd hg
  | exit i =>
   simp only at hg
   show (if i=id then Q .normal a' w' else Q (.exit i) a' w')
   split
   ·rename_i e;rw[if_pos e]at hg;exact hk .normal st' a' w' L' hL hd hg
   ·rename_i e;rw[if_neg e]at hg;exact hk (.exit i) st' a' w' L' hL hd hg
  | ret=>exact hk .ret st' a' w' L' hL hd hg
 | cond c x y ihx ihy =>
  intro nd L ρ0 st k a w Q hQ h hk
  obtain⟨β,ρ,V,hp,hr,hD⟩:=h
  simp only[ex]at hD
  split at hD
  ·rename_i v hv
   have he:a.eval c=.bool v:=qAG hr hv
   cases v with
   | true=>exact wpIn_cond_true he (ihx (nd1 nd) L ρ0 st k a w Q hQ ⟨β,ρ,V,hp,hr,hD⟩ hk)
   | false=>exact wpIn_cond_false he (ihy (nd2 nd) L ρ0 st k a w Q hQ ⟨β,ρ,V,hp,hr,hD⟩ hk)
  ·rename_i t _ ht
   split at hD
   ·rename_i hc
    obtain⟨hc1,hc2⟩:=hc
    obtain⟨b,hb⟩:=qGh (ρ:=ρ) (β:=β) hc1
    have he:a.eval c=.bool b:=(qAG hr ht).trans hb
    have hfr:=(T.ev_free (β:=id) (β':=β) (ρ:=ρ) t hc2).1
    split at hD
    ·rename_i d
     simp only[D,hfr,hb,asB]at hD
     have hlearn:Rel noO V0 w0 H.N β (st.now d (.bool b)) ρ V a.tmps w:=hr.now (t:=t) ht (by rw[hb];rfl)
     cases b with
     | true=>exact wpIn_cond_true he (ihx (nd1 nd) L ρ0 _ k a w Q hQ ⟨β,ρ,V,hp.now _ _,hlearn,hD.1 rfl⟩ hk)
     | false=>exact wpIn_cond_false he (ihy (nd2 nd) L ρ0 _ k a w Q hQ ⟨β,ρ,V,hp.now _ _,hlearn,hD.2 rfl⟩ hk)
    ·simp only[D,hfr,hb,asB]at hD
     cases b with
     | true=>exact wpIn_cond_true he (ihx (nd1 nd) L ρ0 _ k a w Q hQ ⟨β,ρ,V,hp,hr,hD.1 rfl⟩ hk)
     | false=>exact wpIn_cond_false he (ihy (nd2 nd) L ρ0 _ k a w Q hQ ⟨β,ρ,V,hp,hr,hD.2 rfl⟩ hk)
   ·exact hD.elim
  ·exact hD.elim
 | region id ops draw =>
  intro nd L ρ0 st k a w Q hQ h hk
  cases draw with
  | true =>
   refine wpIn_mono (wpIn_region_any (Q:=fun e a' w'=>e≠.outgrown/\Q e a' w') hm (qHx (noOut Q) (fun o ho=>qDl (ndOps nd o ho)) _ _ _ _ (qIk hcalls (fun ch a' w' hd hR=>⟨by simp,hQ ch a' w' hd hR⟩) h (fun⟨_,_,h⟩=>h.elim) fun st' a' w' hd hg=>⟨by simp,hk .normal st' a' w' L (List.prefix_refl _) hd hg⟩))) fun e a w h=>h.2
  | false =>
   refine wpIn_mono (wpIn_region (Q:=fun e a' w'=>e≠.outgrown/\Q e a' w') ?_) fun e a w h=>h.2
   rw[List.range_eq_range',<- Array.length_toList]
   exact qDv (noOut Q) (fun o ho=>qDl (ndOps nd o ho)) _ _ (fun j _=>by simp) _ _ (qCS hcalls ops.toList st a w (fun ch a' w' hd hR=>⟨by simp,hQ ch a' w' hd hR⟩) h fun st' a' w' hd hg=>⟨by simp,hk .normal st' a' w' L (List.prefix_refl _) hd hg⟩)
 | loop b ih =>
  intro nd L ρ0 st k a w Q hQ h hk
  obtain⟨β,ρ,V,hp,hr,hD⟩:=h
  simp only[ex,exLoop]at hD
  generalize dedup (qHb b)=ws at hD
  generalize (((qBF b).bind fun i=>H.loops.lookup i).getD [])=hint at hD
  obtain⟨st',t,hg,hfree,β',ρ',V',hp',hr',hD'⟩:=qAT _ _ _ _ ⟨β,ρ,V,hp,hr,hD⟩
  split at hD'
  case isFalse=>exact hD'.elim
  rename_i hw
  split at hD'
  ·exact hD'.elim
  ·rename_i st1 bs hgb
   split at hD'
   ·exact hD'.elim
   ·rename_i init hinit
    split at hD'
    case isFalse=>exact hD'.elim
    rename_i hok
    simp only[D]at hD'
    obtain⟨I,μ,hI,hround⟩:=hD'
    obtain⟨hrh,hsh⟩:=qHL hw hr'.nv (List.prefix_refl _) hgb hinit hok hr'
    let Inv:Nat->Act->World->Prop:=fun n a' w'=>∃β xs V',Shaped (bs.flatMap (·.2.2)++(qAA ws st1).2.flatMap (·.2.2)) xs/\I xs V'/\μ xs V'=n /\
     Rel noO V0 w0 H.N β { (qAA ws st1).1 with depth:=st'.depth+1 } (ρ'++xs) V' a'.tmps w'/\a'.defers=a.defers
    refine qFM Inv ⟨_,β',init.evs ρ' id,V',hsh,hI,rfl,hrh,rfl⟩ ?_
    rintro n a1 w1 ⟨β1,xs,V1,hsh1,hI1,rfl,hr1,hd1⟩
    have hDb:=hround xs V1 hsh1 hI1
    refine ih nd (L++[fun ys V''=>I ys V''/\μ ys V''<μ xs V1]) ρ' _ _ a1 w1 _ (by rw[hd1];exact hQ) ⟨β1,ρ'++xs,V1,⟨List.prefix_append _ _,?_⟩,hr1,hDb⟩ ?_
    ·simp[hp'.2]
    ·intro e st2 a2 w2 L2 hL2 hd2 hg2
     cases e with
     | normal =>
      obtain⟨β2,ρ2,V2,hp2,hr2,hD2⟩:=hg2
      simp only at hD2
      split at hD2
      ·rename_i vs hvs
       split at hD2
       ·rename_i hok2
        simp only[D]at hD2
        obtain⟨J,hJ,hJ2⟩:=hD2
        have hlvl:L2[st'.depth]?=some (fun ys V''=>I ys V''/\μ ys V''<μ xs V1):=by
         obtain⟨σ,rfl⟩:=hL2
         rw[<- hp'.2,List.getElem?_append_left (by simp),List.getElem?_append_right (Nat.le_refl _)]
         simp
        rw[hlvl]at hJ
        simp only[Option.some.injEq]at hJ
        subst hJ
        obtain⟨hrh2,hsh2⟩:=qHL hw hr'.nv hp2.1 hgb hvs hok2 hr2
        exact⟨_,hJ2.2,β2,vs.evs ρ2 id,V2,hsh2,hJ2.1,rfl,hrh2,hd2.trans hd1⟩
       ·exact hD2.elim
      ·exact hD2.elim
     | exit i=>exact hk (.exit i) st2 a2 w2 L2 ((List.prefix_append _ _).trans hL2) (hd2.trans hd1) (hg2.weak hp'.1)
     | ret=>exact hk .ret st2 a2 w2 L2 ((List.prefix_append _ _).trans hL2) (hd2.trans hd1) (hg2.weak hp'.1)
 | rangeFunc _ _ _ _ _ _=>intro nd L ρ0 st k a w Q hQ h hk;obtain⟨β,ρ,V,hp,hr,hD⟩:=h;exact hD.elim
 | scope _ _=>intro nd L ρ0 st k a w Q hQ h hk;obtain⟨β,ρ,V,hp,hr,hD⟩:=h;exact hD.elim
 | label _=>intro nd L ρ0 st k a w Q hQ h hk;obtain⟨β,ρ,V,hp,hr,hD⟩:=h;exact hD.elim
 | goto _=>intro nd L ρ0 st k a w Q hQ h hk;obtain⟨β,ρ,V,hp,hr,hD⟩:=h;exact hD.elim
 | refuse _=>intro nd L ρ0 st k a w Q hQ h hk;obtain⟨β,ρ,V,hp,hr,hD⟩:=h;exact hD.elim
end
end Go.Sx
