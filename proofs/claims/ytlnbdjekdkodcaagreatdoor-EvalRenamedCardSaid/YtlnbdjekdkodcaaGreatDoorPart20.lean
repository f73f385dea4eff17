/- Part 20 of a proof of a law of this seat: no statement of the seat is proved here. -/
import Derived.Test.YtlnbdjekdkodcaaGreatDoorPart16
import Derived.Test.YtlnbdjekdkodcaaGreatDoorPart19
import Derived.Test.YtlnbdjekdkodcaaGreatDoorPart13
set_option linter.unusedVariables false
set_option linter.unusedSimpArgs false
namespace Go.Proofs
open Go Go.Sx
theorem qKo{d:Ds}(hv:qAT d=true){t:ByteArray}(h:qAX d t=true):qAE t=false:=by
 have hn:=qDH hv h
 unfold qAE
 rw[decide_eq_false (qCI hn kwInt),decide_eq_false (qCI hn kwBool)];rfl
theorem nil_pl:qAE qJu=false:=by kernel_rfl
theorem qEl:qAE qAP=true:=by kernel_rfl
theorem qCu:qAE qAu=true:=by kernel_rfl
theorem fits_pl{d:Ds}(hv:qAT d=true){a b:ByteArray}(h:fits d a b=true):qAE a=qAE b:=by
 unfold fits at h
 simp only[Bool.or_eq_true,Bool.and_eq_true,decide_eq_true_eq]at h
 rcases h with rfl|⟨rfl,h⟩
 ·rfl
 ·rw[qKo hv h,nil_pl]
abbrev Bj:=List (Int×Int)
def RV(B:Bj)(ty:ByteArray)(v v':Int):Prop:=if qAE ty=true then v'=v else (v=0/\v'=0)∨(v,v')∈B
def RL(B:Bj)(l:List Fld)(vs vs':List Int):Prop:=vs'.length=vs.length/\∀(j:Nat) f v v',l[j]?=some f->vs[j]?=some v->vs'[j]?=some v'->RV B f.ty v v'
structure Sim (d:Ds) (B:Bj) (s t:St):Prop where
 bij:∀a b a' b',(a,b)∈B->(a',b')∈B->(a=a'↔b=b')
 node:∀a b,(a,b)∈B->∃(i j:Nat) (ty:Int) (f f':List Int),a=(i:Int)+1/\b=(j:Int)+1/\s.ns[i]?=some (ty,f)/\t.ns[j]?=some (ty,f')/\RL B (qAx d ty) f f'
 glob:RL B d.globals s.g t.g
 tk:t.tk=s.tk
 cm:t.cm=s.cm
 nd:qAw t.lg=qAw s.lg
 len:t.ns.length<=s.ns.length
section
variable{d:Ds}{F:Nat}{B B':Bj}{s t:St}
theorem RV.mono{ty:ByteArray}{v v':Int}(h:RV B ty v v')(hs:∀x∈B,x∈B'):RV B' ty v v':=by
 unfold RV at h ⊢
 split
 ·rename_i hp;rw[if_pos hp]at h;exact h
 ·rename_i hp;rw[if_neg hp]at h;exact h.imp id fun h=>hs _ h
theorem RV.zero{ty:ByteArray}:RV B ty 0 0:=by
 unfold RV
 split
 ·rfl
 ·exact .inl ⟨rfl,rfl⟩
theorem RV.plain{ty:ByteArray}{v v':Int}(h:RV B ty v v')(hp:qAE ty=true):v'=v:=by unfold RV at h;rw[if_pos hp]at h;exact h
theorem RV.of{ty:ByteArray}{v:Int}(hp:qAE ty=true):RV B ty v v:=by unfold RV;rw[if_pos hp]
theorem RV.ref{ty:ByteArray}{v v':Int}(h:RV B ty v v')(hp:qAE ty=false):(v=0/\v'=0)∨(v,v')∈B:=by unfold RV at h;rw[if_neg (by rw[hp];decide)]at h;exact h
theorem RV.fits(hv:qAT d=true){a b:ByteArray}(hf:fits d a b=true){v v':Int}(h:RV B a v v'):RV B b v v':=by
 unfold RV at h ⊢;rw[<- fits_pl hv hf];exact h
theorem RL.mono{l:List Fld}{vs vs':List Int}(h:RL B l vs vs')(hs:∀x∈B,x∈B'):RL B' l vs vs':=⟨h.1,fun j f v v' a b c=>(h.2 j f v v' a b c).mono hs⟩
theorem RL.at_{l:List Fld}{vs vs':List Int}(h:RL B l vs vs'){j:Nat}{f:Fld}{v:Int}(hf:l[j]?=some f)(hv:vs[j]?=some v):∃v',vs'[j]?=some v'/\RV B f.ty v v':=by
 have hl:=(List.getElem?_eq_some_iff.1 hv).1
 have hv':vs'[j]?=some (vs'[j]'(by have:=h.1;omega)):=List.getElem?_eq_getElem _
 exact⟨_,hv',h.2 j f v _ hf hv hv'⟩
theorem RL.set{l:List Fld}{vs vs':List Int}(h:RL B l vs vs'){i:Nat}{f:Fld}(hf:l[i]?=some f){v v':Int}(hv:RV B f.ty v v'):RL B l (vs.set i v) (vs'.set i v'):=by
 refine⟨by rw[List.length_set,List.length_set];exact h.1,fun j g w w' hg hw hw'=>?_⟩
 rw[List.getElem?_set]at hw hw'
 by_cases e:i=j
 ·subst e
  rw[if_pos rfl]at hw hw'
  rw[hf]at hg;cases hg
  split at hw
  ·split at hw'
   ·cases hw;cases hw';exact hv
   ·cases hw'
  ·cases hw
 ·rw[if_neg e]at hw hw'
  exact h.2 j g w w' hg hw hw'
theorem RL.zeros{l:List Fld}{n:Nat}:RL B l (List.replicate n 0) (List.replicate n 0):=⟨rfl,fun j f v v' _ h h'=>by
 rw[List.getElem?_replicate]at h h'
 split at h
 ·rename_i hj
  rw[if_pos hj]at h'
  cases h;cases h';exact RV.zero
 ·cases h⟩
theorem RL.app{l m:List Fld}{vs vs' ws ws':List Int}(h:RL B l vs vs')(k:RL B m ws ws')(hl:l.length=vs.length):RL B (l++m) (vs++ws) (vs'++ws'):=by
 refine⟨by rw[List.length_append,List.length_append,h.1,k.1],fun j f v v' hf hv hv'=>?_⟩
 have e:=h.1
 by_cases hj:j<l.length
 ·rw[List.getElem?_append_left hj]at hf
  rw[List.getElem?_append_left (by omega)]at hv hv'
  exact h.2 j f v v' hf hv hv'
 ·rw[List.getElem?_append_right (by omega)]at hf hv hv'
  rw[show j-vs.length=j-l.length by omega]at hv
  rw[show j-vs'.length=j-l.length by omega]at hv'
  exact k.2 _ f v v' hf hv hv'
theorem qEQ(l:List (Int×Int×Int))(a:Int×Int×Int):qAw (l++[a])=qAw l+if 0<a.2.1 then 1 else 0:=by
 unfold qAw
 rw[List.filter_append,List.length_append]
 by_cases h:0<a.2.1 <;> simp[h]
theorem Sim.lg(h:Sim d B s t){x y:Int×Int×Int}(hp:0<x.2.1↔0<y.2.1):Sim d B (s.note x) (t.note y):=⟨h.bij,h.node,h.glob,h.tk,h.cm,by
 show qAw (t.lg++[y])=qAw (s.lg++[x])
 rw[qEQ,qEQ,h.nd]
 by_cases hx:0<x.2.1
 ·rw[if_pos hx,if_pos (hp.1 hx)]
 ·rw[if_neg hx,if_neg fun k=>hx (hp.2 k)],h.len⟩
def qBU{α:Type}(d:Ds)(B:Bj)(Q:Bj->α->α->Prop)(r r':Rx α):Prop :=
 4096<=r.st.ns.length∨∃B',(∀x∈B,x∈B')/\Sim d B' r.st r'.st/\((∃v v' s t,r=.ok v s/\r'=.ok v' t/\Q B' v v')∨∃c s t,r=.bad c s/\r'=.bad c t)
section
variable{α β:Type}{Q:Bj->α->α->Prop}{r r':Rx α}
theorem qBU.ok{v v':α}(h:Sim d B s t)(q:Q B v v'):qBU d B Q (.ok v s) (.ok v' t):=.inr ⟨B,fun _ h=>h,h,.inl ⟨v,v',s,t,rfl,rfl,q⟩⟩
theorem qBU.bad{c:Int}(h:Sim d B s t):qBU d B Q (.bad c s) (.bad c t):=.inr ⟨B,fun _ h=>h,h,.inr ⟨c,s,t,rfl,rfl⟩⟩
theorem qBU.bind{f g:α->St->Rx β}{Q':Bj->β->β->Prop}(h:qBU d B Q r r')(k:∀B' v v' s t,r=.ok v s->(∀x∈B,x∈B')->Sim d B' s t->Q B' v v'->qBU d B' Q' (f v s) (g v' t))(m:∀v s,RE s (f v s)):qBU d B Q' (r.bind f) (r'.bind g):=by
 rcases h with h|⟨B',hB,hS,⟨v,v',s,t,rfl,rfl,q⟩|⟨c,s,t,rfl,rfl⟩⟩
 ·left
  cases r with
  | ok v s=>exact Nat.le_trans h (m v s).2.2
  | bad c s=>exact h
 ·rcases k B' v v' s t rfl hB hS q with h|⟨B'',h1,h2,h3⟩
  ·exact .inl h
  ·exact .inr ⟨B'',fun x hx=>h1 x (hB x hx),h2,h3⟩
 ·exact .inr ⟨B',hB,hS,.inr ⟨c,s,t,rfl,rfl⟩⟩
theorem qBU.mono{Q':Bj->α->α->Prop}(h:qBU d B Q r r')(k:∀B' v v' s,r=.ok v s->(∀x∈B,x∈B')->Q B' v v'->Q' B' v v'):qBU d B Q' r r':=by
 rcases h with h|⟨B',hB,hS,⟨v,v',s,t,e,e',q⟩|h⟩
 ·exact .inl h
 ·exact .inr ⟨B',hB,hS,.inl ⟨v,v',s,t,e,e',k B' v v' s e hB q⟩⟩
 ·exact .inr ⟨B',hB,hS,.inr h⟩
end
theorem qHD{r r':Rs}(h:Sim d B s t)(e:r=r'){Q:Bj->Int->Int->Prop}(q:∀v,r=.ok v->Q B v v):qBU d B Q (qDh r s) (qDh r' t):=by
 subst e
 cases r with
 | ok v=>exact qBU.ok h (q v rfl)
 | bad c=>exact qBU.bad h
theorem Sim.cnt(h:Sim d B s t){b:Bool}{op:Int}:Sim d B (qHM b op s) (qHM b op t):=by
 unfold qHM
 split
 ·exact⟨h.bij,h.node,h.glob,h.tk,by show t.cm+1=s.cm+1;rw[h.cm],h.nd,h.len⟩
 ·exact h
theorem var_sim(G:qAr d s.mm){p:Pr}{vals vals':List Int}(hv:qAg d s.mm p.vars vals=true)(P:∀f∈p.vars,qBh d f.ty=true){nm ty:ByteArray}(hl:qBF (qAf d p).vars nm=ty)(hne:ty≠sE)(h:Sim d B s t)(hr:RL B p.vars vals vals') :
  qBU d B (fun B' v v'=>RV B' ty v v') (varX d p vals nm s) (varX d p vals' nm t):=by
 rcases qDV G hv P hl hne with⟨i,f,v,h1,h2,h3,h4,-,h6⟩|⟨i,f,v,h0,h1,h2,h3,h4,-,h6⟩
 ·obtain⟨v',e1,e2⟩:=hr.at_ h2 h3
  rw[h6]
  unfold varX
  rw[if_pos (by omega),h1,Int.toNat_natCast,e1]
  exact qBU.ok h (h4 ▸ e2)
 ·obtain⟨v',e1,e2⟩:=h.glob.at_ h2 h3
  rw[h6]
  unfold varX
  rw[if_neg (by omega),h1,Int.toNat_natCast,e1]
  exact qBU.ok (h.lg Iff.rfl) (h4 ▸ e2)
theorem fld_sim(G:qAr d s.mm){u nm ty:ByteArray}(ht:qBT d u nm=(ty,0)){a a':Int}(ha:qBq d s.mm u a)(h:Sim d B s t)(hr:RV B u a a'):qBU d B (fun B' v v'=>RV B' ty v v') (fldX d a nm s) (fldX d a' nm t):=by
 have hu:qAE u=false:=by
  unfold qBT at ht
  cases hty:qJq d u with
  | none=>rw[hty]at ht;simp at ht
  | some tt=>obtain⟨_,_,_,_,h⟩:=qHs hty;exact qKo G.valid h
 rcases hr.ref hu with⟨rfl,rfl⟩|hm
 ·unfold fldX;rw[if_pos rfl,if_pos rfl];exact qBU.bad h
 ·obtain⟨i,j,ty',f,f',rfl,rfl,n1,n2,n3⟩:=h.node _ _ hm
  obtain⟨q,k,j',tt,g,fs,w,e,e2,-,-,e5,e6,e7,e8,-,e10,-⟩:=qDm G ht ha (by omega)
  have:q=i:=by omega
  subst this
  rw[n1]at e2;cases e2
  obtain⟨w',w1,w2⟩:=n3.at_ (by rw[e5];exact e7) e8
  unfold fldX
  rw[if_neg (by omega),if_neg (by omega),show ((q:Int)+1-1).toNat=q by omega,show ((j:Int)+1-1).toNat=j by omega,n1,n2]
  simp only
  rw[e5,e6,Int.toNat_natCast,e8,w1]
  exact qBU.ok (h.lg ⟨fun _=>by show (0:Int)<(j:Int)+1;omega,fun _=>by show (0:Int)<(q:Int)+1;omega⟩) (e10 ▸ w2)
theorem new_sim(hv:qAT d=true){nm:ByteArray}(hn:qAX d nm=true)(h:Sim d B s t):qBU d B (fun B' v v'=>RV B' nm v v') (newX d nm s) (newX d nm t):=by
 unfold newX
 by_cases hl:4096<=s.ns.length
 ·rw[if_pos hl];exact .inl hl
 have hlt:=h.len
 rw[if_neg hl,if_neg (by omega)]
 obtain⟨ty,hty⟩:∃ty,ty=qDB d nm:=⟨_,rfl⟩
 rw[<- hty]
 have lo:∀a b,(a,b)∈B->a<=(s.ns.length:Int)/\b<=(t.ns.length:Int):=fun a b hm=>by
  obtain⟨i,j,_,_,_,rfl,rfl,n1,n2,-⟩:=h.node a b hm
  have:=(List.getElem?_eq_some_iff.1 n1).1
  have:=(List.getElem?_eq_some_iff.1 n2).1
  omega
 have sub:∀x∈B,x∈((s.ns.length:Int)+1,(t.ns.length:Int)+1)::B:=fun x hx=>List.mem_cons_of_mem _ hx
 refine .inr ⟨((s.ns.length:Int)+1,(t.ns.length:Int)+1)::B,sub,⟨fun a b a' b' h1 h2=>?_,fun a b hm=>?_,h.glob.mono sub,h.tk,h.cm,?_,by show (t.ns++[_]).length<=(s.ns++[_]).length;rw[List.length_append,List.length_append];exact Nat.add_le_add_right hlt 1⟩,.inl ⟨_,_,_,_,rfl,rfl,?_⟩⟩
 ·rcases List.mem_cons.1 h1 with h1|h1 <;> rcases List.mem_cons.1 h2 with h2|h2
  ·cases h1;cases h2;exact⟨fun _=>rfl,fun _=>rfl⟩
  ·cases h1;have:=lo _ _ h2;omega
  ·cases h2;have:=lo _ _ h1;omega
  ·exact h.bij a b a' b' h1 h2
 ·rcases List.mem_cons.1 hm with hm|hm
  ·cases hm
   exact⟨s.ns.length,t.ns.length,ty,_,_,rfl,rfl,List.getElem?_concat_length,List.getElem?_concat_length,RL.zeros⟩
  ·obtain⟨i,j,ty',f,f',e1,e2,n1,n2,n3⟩:=h.node a b hm
   exact⟨i,j,ty',f,f',e1,e2,by show (s.ns++[_])[i]?=_;rw[List.getElem?_append_left (List.getElem?_eq_some_iff.1 n1).1];exact n1,by show (t.ns++[_])[j]?=_;rw[List.getElem?_append_left (List.getElem?_eq_some_iff.1 n2).1];exact n2,n3.mono sub⟩
 ·show qAw (t.lg++[_])=qAw (s.lg++[_])
  rw[qEQ,qEQ,h.nd,if_pos (by show (0:Int)<(t.ns.length:Int)+1;omega),if_pos (by show (0:Int)<(s.ns.length:Int)+1;omega)]
 ·show RV _ nm _ _
  unfold RV
  rw[if_neg (by rw[qKo hv hn];decide)]
  exact .inr List.mem_cons_self
def CSim(d:Ds)(C:Cf):Prop:=∀(i:Nat) pr args args' s t B,d.procs[i]?=some pr->qAr d s.mm->qAg d s.mm pr.params args=true->RL B pr.params args args'->Sim d B s t->qBU d B (fun B' v v'=>(pr.result=sE->v=0/\v'=0)/\(pr.result≠sE->RV B' pr.result v v')) (C i args s) (C i args' t)
theorem sim_seq{sc:Sc}{f g:E->St->Rx Int}(he:∀a s,RE s (f a s)):∀(k:List E) (fs:List Fld) (acc acc':List Int) (gs:List Fld) (s t:St) (B:Bj),qAr d s.mm->gs.length=acc.length->RL B gs acc acc'->Sim d B s t->k.length=fs.length ->
  (∀(j:Nat) a h,k[j]?=some a->fs[j]?=some h->∃u,qAo d sc a=(u,0)/\fits d u h.ty=true) ->
  (∀a∈k,∀(u:ByteArray) (s1 t1:St) (n:Nat) (B':Bj),qAo d sc a=(u,0)->qAr d s1.mm->Gr F n s s1->(∀x∈B,x∈B')->Sim d B' s1 t1->RxP d F (szE a) s1 (f a s1) (fun v s'=>qBq d s'.mm u v)/\qBU d B' (fun B'' v v'=>RV B'' u v v') (f a s1) (g a t1)) ->
  qBU d B (fun B' l l'=>RL B' (gs++fs) l l') (qGQ (k.map f) acc s) (qGQ (k.map g) acc' t)
 | [],fs,acc,acc',gs,s,t,B,G,_,ha,h,hl,_,_=>by
  obtain rfl:fs=[]:=List.eq_nil_of_length_eq_zero (by simpa using hl.symm)
  rw[List.append_nil]
  exact qBU.ok h ha
 | a::k,fs,acc,acc',gs,s,t,B,G,hg,ha,h,hl,ht,H=>by
  cases fs with
  | nil=>simp at hl
  | cons w fs =>
   obtain⟨u,hu,hfit⟩:=ht 0 a w rfl rfl
   obtain⟨P,R⟩:=H a List.mem_cons_self u s t 0 B hu G (Gr.refl s) (fun _ h=>h) h
   rw[List.map_cons,List.map_cons]
   show qBU d B _ ((f a s).bind fun v st=>qGQ (k.map f) (acc++[v]) st) ((g a t).bind fun v st=>qGQ (k.map g) (acc'++[v]) st)
   refine R.bind (fun B' v v' s1 t1 e hB hS hq=>?_) fun v s1=>seq_ext _ _ s1 fun y hy s=>by
    obtain⟨x,-,rfl⟩:=List.mem_map.1 hy
    exact he x s
   have G1:qAr d s1.mm:=by have:=P.good;rw[e]at this;exact this
   have g1:Gr F (szE a) s s1:=by have:=P.gr;rw[e]at this;exact this
   have one:RL B' [w] [v] [v']:=⟨rfl,fun j f x x' hf hx hx'=>by
    cases j with
    | zero=>simp at hf hx hx';subst hf;subst hx;subst hx';exact hq.fits G.valid hfit
    | succ j=>simp at hf⟩
   have:=sim_seq he k fs (acc++[v]) (acc'++[v']) (gs++[w]) s1 t1 B' G1 (by simp[hg]) ((ha.mono hB).app one hg) hS (by simpa using hl) (fun j a g ha hg=>ht (j+1) a g (by simpa using ha) (by simpa using hg))
    (fun b hb u s2 t2 n B2 hu G2 g2 hB2 hS2=>H b (List.mem_cons_of_mem _ hb) u s2 t2 _ B2 hu G2 (g1.trans g2) (fun x hx=>hB2 x (hB x hx)) hS2)
   rwa [List.append_assoc,List.singleton_append]at this
theorem ev_sim(hp:∀p∈d.procs,qBu d p){C:Cf}(hC:CSnd d F C)(hE:∀i args s,RE s (C i args s))(hR:CSim d C){p:Pr}(hpo:qBu d p){vals vals':List Int} :
  ∀(e:E) (ty:ByteArray) (s t:St) (B:Bj),VE e->qAo d (qAf d p) e=(ty,0)->qAr d s.mm->qAg d s.mm p.vars vals=true->RL B p.vars vals vals'->Sim d B s t->qBU d B (fun B' v v'=>RV B' ty v v') (evX d C p vals e s) (evX d C p vals' e t):=by
 intro e
 induction e using E.ind with
 | h e ih =>
 intro ty s t B hv ht G hvals hrl h
 rw[qFk,qFk]
 have X:=ev_ext (d:=d) hE (p:=p) (vals:=vals)
 have snd:∀{a:E} {u:ByteArray} {s1:St} {n:Nat},a∈e.k->qAo d (qAf d p) a=(u,0)->qAr d s1.mm->Gr F n s s1->RxP d F (szE a) s1 (evX d C p vals a s1) fun v s'=>qBq d s'.mm u v:=fun hm ha G1 g1=>qHe hp hC hpo _ _ _ (hv.kids _ hm) ha G1 (qAh (fun h=>g1.right h) hvals)
 have I:∀{a:E} {u:ByteArray} {s1 t1:St} {n:Nat} {B':Bj},a∈e.k->qAo d (qAf d p) a=(u,0)->qAr d s1.mm->Gr F n s s1->(∀x∈B,x∈B')->Sim d B' s1 t1->qBU d B' (fun B'' v v'=>RV B'' u v v') (evX d C p vals a s1) (evX d C p vals' a t1):=fun hm ha G1 g1 hB hS=>ih _ hm _ _ _ _ (hv.kids _ hm) ha G1 (qAh (fun h=>g1.right h) hvals) (hrl.mono hB) hS
 have K:∀{i:Nat} {a:E} {vs:List Int},e.k[i]?=some a->qDT (e.k.map (evX d C p vs)) i=evX d C p vs a:=fun h=>qIA h
 have gd:∀{a:E} {u:ByteArray} {s1 s2:St} {n:Nat} {v:Int},a∈e.k->qAo d (qAf d p) a=(u,0)->qAr d s1.mm->Gr F n s s1->evX d C p vals a s1=.ok v s2->qAr d s2.mm/\Gr F (n+szE a) s s2/\qBq d s2.mm u v:=fun hm ha G1 g1 e2=>by
  have P:=snd hm ha G1 g1
  have h1:=P.good;have h2:=P.gr
  rw[e2]at h1 h2
  exact⟨h1,g1.trans h2,P.q _ _ e2⟩
 have pl:∀{u:ByteArray} {v v':Int} {B':Bj},qAE u=true->RV B' u v v'->v'=v:=fun hp h=>h.plain hp
 have m0:∀{a:E} {l:List E},e.k=a::l->a∈e.k/\e.k[0]?=some a:=fun h=>by rw[h];exact⟨List.mem_cons_self,rfl⟩
 have m1:∀{a b:E} {l:List E},e.k=a::b::l->b∈e.k/\e.k[1]?=some b:=fun h=>by rw[h];exact⟨by simp,rfl⟩
 have m2:∀{a b c:E} {l:List E},e.k=a::b::c::l->c∈e.k/\e.k[2]?=some c:=fun h=>by rw[h];exact⟨by simp,rfl⟩
 have r0:=Gr.refl (F:=F) s
 have B0:∀x∈B,x∈B:=fun _ h=>h
 cases kindX (sc:=qAf d p) rfl hv ht with
 | int h1 hn=>rw[cX1 (.inl h1),cX1 (.inl h1)];exact qBU.ok h (.of qEl)
 | bool h1 hn=>rw[cX1 (.inr h1),cX1 (.inr h1)];exact qBU.ok h (.of qCu)
 | nil h1 hn=>rw[cX3 h1,cX3 h1];exact qBU.ok h .zero
 | var h1 hl hne=>rw[cX4 h1,cX4 h1];exact var_sim G hvals hpo.vars hl hne h hrl
 | @fld _ u a h1 hk ha hf =>
  obtain⟨ma,ka⟩:=m0 hk
  rw[cX5 h1,cX5 h1,K ka,K ka]
  refine(I ma ha G r0 B0 h).bind (fun B' v v' s1 t1 e hB hS hq=>?_) fun _ _=>fld_ext
  obtain⟨G1,-,hv1⟩:=gd ma ha G r0 e
  exact fld_sim G1 hf hv1 hS hq
 | new h1 hn=>rw[cX6 h1,cX6 h1];exact new_sim G.valid hn h
 | @call pr i h1 hc hr =>
  rw[cX7 h1,cX7 h1,hc.idx]
  have P:=qIc (F:=F) (f:=evX d C p vals) e.k pr.params [] [] s G (qAq.2 ⟨rfl,fun j f v h=>by simp at h⟩) hc.len (qCd hp hc.at_) hc.fit (fun a hm u s1 n hu G1 g1=>snd hm hu G1 g1)
  refine(sim_seq (F:=F) (sc:=qAf d p) X e.k pr.params [] [] [] s t B G rfl ⟨rfl,fun j f v v' h=>by simp at h⟩ h hc.len hc.fit (fun a hm u s1 t1 n B' hu G1 g1 hB hS=>⟨snd hm hu G1 g1,I hm hu G1 g1 hB hS⟩)).bind (fun B' l l' s1 t1 e hB hS hq=>?_) fun _ _=>hE _ _ _
  have G1:qAr d s1.mm:=by have:=P.good;rw[e]at this;exact this
  exact(hR i pr l l' s1 t1 B' hc.at_ G1 (P.q _ _ e) hq hS).mono fun _ _ _ _ _ _ q=>q.2 hr
 | @neg a h1 hk ha =>
  obtain⟨ma,ka⟩:=m0 hk
  rw[cX8 h1,cX8 h1,K ka,K ka]
  exact(I ma ha G r0 B0 h).bind (fun B' v v' s1 t1 e hB hS hq=>qHD hS (by rw[pl qEl hq]) fun _ _=>.of qEl) fun _ t=>qCh (Sext.refl t)
 | @not a h1 hk ha =>
  obtain⟨ma,ka⟩:=m0 hk
  rw[cX18 h1,cX18 h1,K ka,K ka]
  exact(I ma ha G r0 B0 h).bind (fun B' v v' s1 t1 e hB hS hq=>qBU.ok hS (by rw[pl qCu hq];exact .of qCu)) fun _ t=>RE.ok
 | @log a h1 hk ha =>
  obtain⟨ma,ka⟩:=m0 hk
  rw[cX24 h1,cX24 h1,K ka,K ka]
  exact(I ma ha G r0 B0 h).bind (fun B' v v' s1 t1 e hB hS hq=>qBU.ok hS (by rw[pl qEl hq];exact .of qEl)) fun _ t=>RE.ok
 | @and a b h1 hk ha hb =>
  obtain⟨ma,ka⟩:=m0 hk
  obtain⟨mb,kb⟩:=m1 hk
  rw[cX19 h1,cX19 h1,K ka,K ka,K kb,K kb]
  refine(I ma ha G r0 B0 h).bind (fun B' v v' s1 t1 e hB hS hq=>?_) fun _ t=>RE.ite RE.ok (X b t)
  obtain⟨G1,g1,-⟩:=gd ma ha G r0 e
  rw[pl qCu hq]
  split
  ·exact qBU.ok hS .zero
  ·exact I mb hb G1 g1 hB hS
 | @or a b h1 hk ha hb =>
  obtain⟨ma,ka⟩:=m0 hk
  obtain⟨mb,kb⟩:=m1 hk
  rw[cX20 h1,cX20 h1,K ka,K ka,K kb,K kb]
  refine(I ma ha G r0 B0 h).bind (fun B' v v' s1 t1 e hB hS hq=>?_) fun _ t=>RE.ite (X b t) RE.ok
  obtain⟨G1,g1,-⟩:=gd ma ha G r0 e
  rw[pl qCu hq]
  split
  ·exact I mb hb G1 g1 hB hS
  ·exact qBU.ok hS (.of qCu)
 | @cond a b c _ u w h1 hk ha hb hc hu hw _ =>
  obtain⟨ma,ka⟩:=m0 hk
  obtain⟨mb,kb⟩:=m1 hk
  obtain⟨mc,kc⟩:=m2 hk
  rw[cX21 h1,cX21 h1,K ka,K ka,K kb,K kb,K kc,K kc]
  refine(I ma ha G r0 B0 h).bind (fun B' v v' s1 t1 e hB hS hq=>?_) fun _ t=>RE.ite (X c t) (X b t)
  obtain⟨G1,g1,-⟩:=gd ma ha G r0 e
  rw[pl qCu hq]
  have ch:∀{x:ByteArray} {B2:Bj} {v v':Int},(x=ty∨fits d x ty=true)->RV B2 x v v'->RV B2 ty v v':=fun h q=>by
   rcases h with rfl|h
   ·exact q
   ·exact q.fits G.valid h
  split
  ·exact(I mc hc G1 g1 hB hS).mono fun _ _ _ _ _ _ q=>ch hw q
  ·exact(I mb hb G1 g1 hB hS).mono fun _ _ _ _ _ _ q=>ch hu q
 | @eq a b u w h1 hk ha hb hf =>
  obtain⟨ma,ka⟩:=m0 hk
  obtain⟨mb,kb⟩:=m1 hk
  rw[qFg (by omega),qFg (by omega),K ka,K ka,K kb,K kb]
  refine(I ma ha G r0 B0 h).bind (fun B' v v' s1 t1 e hB hS hq=>?_) fun _ t=>(X b t).bind fun _ _=>qCh qFA
  obtain⟨G1,g1,-⟩:=gd ma ha G r0 e
  refine(I mb hb G1 g1 hB hS).bind (fun B2 z z' s2 t2 e2 hB2 hS2 hq2=>?_) fun _ _=>qCh qFA
  refine qHD hS2.cnt ?_ fun _ _=>.of qCu
  have hpe:qAE u=qAE w:=by
   rcases hf with hf|hf
   ·exact fits_pl G.valid hf
   ·exact(fits_pl G.valid hf).symm
  have hq:=hq.mono hB2
  cases hpu:qAE u with
  | true=>rw[pl hpu hq,pl (hpe ▸ hpu) hq2]
  | false =>
   have hiff:(v=z)=(v'=z'):=propext (by
    rcases hq.ref hpu with⟨rfl,rfl⟩|hm1 <;> rcases hq2.ref (hpe ▸ hpu) with⟨rfl,rfl⟩|hm2
    ·exact⟨fun _=>rfl,fun _=>rfl⟩
    ·obtain⟨i,j,_,_,_,rfl,rfl,-⟩:=hS2.node _ _ hm2;omega
    ·obtain⟨i,j,_,_,_,rfl,rfl,-⟩:=hS2.node _ _ hm1;omega
    ·exact hS2.bij _ _ _ _ hm1 hm2)
   rcases h1 with h1|h1
   ·rw[h1];show Rs.ok (trI (decide (v=z)))=Rs.ok (trI (decide (v'=z')));simp only[hiff]
   ·rw[h1];show Rs.ok (trI (!decide (v=z)))=Rs.ok (trI (!decide (v'=z')));simp only[hiff]
 | @cmp a b h1 hk ha hb =>
  obtain⟨ma,ka⟩:=m0 hk
  obtain⟨mb,kb⟩:=m1 hk
  rw[qFg (by omega),qFg (by omega),K ka,K ka,K kb,K kb]
  refine(I ma ha G r0 B0 h).bind (fun B' v v' s1 t1 e hB hS hq=>?_) fun _ t=>(X b t).bind fun _ _=>qCh qFA
  obtain⟨G1,g1,-⟩:=gd ma ha G r0 e
  refine(I mb hb G1 g1 hB hS).bind (fun B2 z z' s2 t2 e2 hB2 hS2 hq2=>qHD hS2.cnt ?_ fun _ _=>.of qCu) fun _ _=>qCh qFA
  rw[pl qEl hq,pl qEl hq2]
 | @ari a b h1 hk ha hb =>
  obtain⟨ma,ka⟩:=m0 hk
  obtain⟨mb,kb⟩:=m1 hk
  rw[qFg (by omega),qFg (by omega),K ka,K ka,K kb,K kb]
  refine(I ma ha G r0 B0 h).bind (fun B' v v' s1 t1 e hB hS hq=>?_) fun _ t=>(X b t).bind fun _ _=>qCh qFA
  obtain⟨G1,g1,-⟩:=gd ma ha G r0 e
  refine(I mb hb G1 g1 hB hS).bind (fun B2 z z' s2 t2 e2 hB2 hS2 hq2=>qHD hS2.cnt ?_ fun _ _=>.of qEl) fun _ _=>qCh qFA
  rw[pl qEl hq,pl qEl hq2]
end
end Go.Proofs
namespace Go.Proofs
open Go Go.Sx
section
variable{d:Ds}{F:Nat}{B:Bj}{s t:St}
theorem RxP.get{α:Type}{n:Nat}{r:Rx α}{Q:α->St->Prop}{v:α}{s1:St}(h:RxP d F n s r Q)(e:r=.ok v s1):qAr d s1.mm/\Gr F n s s1/\Q v s1:=by
 have h1:=h.good;have h2:=h.gr
 rw[e]at h1 h2
 exact⟨h1,h2,h.q v s1 e⟩
def RtR(p:Pr)(B:Bj)(r r':Rt):Prop:=RL B p.vars r.1 r'.1/\((r.2=none/\r'.2=none)∨∃v v',r.2=some v/\r'.2=some v'/\(p.result=sE->v=0/\v'=0)/\(p.result≠sE->RV B p.result v v'))
def SSim(d:Ds)(Sn:Sf):Prop:=∀c p l vals vals' s t B,qBu d p->(∀x∈l,TyS d p x)->qAr d s.mm->qAg d s.mm p.vars vals=true->RL B p.vars vals vals'->Sim d B s t->qBU d B (RtR p) (Sn c p l vals s) (Sn c p l vals' t)
theorem qHO(hp:∀p∈d.procs,qBu d p){Sn:Sf}(hX:SExt Sn)(hR:SSim d Sn)(c:Nat):CSim d (qBY d Sn c):=by
 intro i pr args args' s t B hpr G ha hr h
 unfold qBY
 split
 ·exact qBU.bad h
 rw[Int.toNat_natCast,hpr]
 simp only
 have hpo:=hp pr (List.mem_of_getElem? hpr)
 have hl:pr.params.length=args.length:=(qAq.1 ha).1
 refine(hR (c+1) pr pr.body _ _ s t B hpo hpo.body G (qCS ha (qCX G.valid fun f hf=>hpo.vars f (List.mem_append_right _ hf))) (hr.app RL.zeros hl) h).bind (fun B' r r' s1 t1 _ hB hS hq=>qBU.ok hS ?_) fun _ _=>RE.ok
 rcases hq.2 with⟨e,e'⟩|⟨v,v',e,e',q1,q2⟩
 ·rw[e,e'];exact⟨fun _=>⟨rfl,rfl⟩,fun _=>RV.zero⟩
 ·rw[e,e'];exact⟨q1,q2⟩
theorem tick_sim(h:Sim d B s t):qBU d B (fun _ _ _=>True) (qDD F s) (qDD F t):=by
 unfold qDD
 rw[h.tk]
 split
 ·exact qBU.bad h
 ·exact qBU.ok (s:={ s with tk:=s.tk+1 }) (t:={ t with tk:=s.tk+1 }) ⟨h.bij,h.node,h.glob,rfl,h.cm,h.nd,h.len⟩ trivial
theorem tick_good(G:qAr d s.mm){u:Unit}{s1:St}(e:qDD F s=.ok u s1):qAr d s1.mm/\∀{m:Mm},s1.mm={ s with tk:=s1.tk }.mm/\s1.g=s.g/\s1.ns=s.ns:=by
 unfold qDD at e
 split at e
 ·cases e
 ·cases e;exact⟨⟨G.valid,G.chk,G.mem⟩,fun {_}=>⟨rfl,rfl,rfl⟩⟩
section
variable{Sn:Sf}{c:Nat}{p:Pr}(hp:∀p∈d.procs,qBu d p)(hS:SSnd d F Sn)(hX:SExt Sn)(hR:SSim d Sn)(hpo:qBu d p)
include hp hS hX hR hpo
theorem qGC{vals vals':List Int}{e:E}{ty:ByteArray}(hv:qAO e=true)(ht:qAo d (qAf d p) e=(ty,0))(G:qAr d s.mm)(hvals:qAg d s.mm p.vars vals=true)(hr:RL B p.vars vals vals')(h:Sim d B s t):qBU d B (fun B' v v'=>RV B' ty v v') (evS d Sn c p vals e s) (evS d Sn c p vals' e t) :=
 ev_sim hp (qCz hp hS c) (qEX hX c) (qHO hp hX hR c) hpo e ty s t B (qBb hv).1 ht G hvals hr h
theorem wh_sim{cond:E}{body:List S}(hv:qAO cond=true)(ht:qAo d (qAf d p) cond=(qAu,0))(hb:∀x∈body,TyS d p x):∀(n:Nat) (vals vals':List Int) (s t:St) (B:Bj),qAr d s.mm->qAg d s.mm p.vars vals=true->RL B p.vars vals vals'->Sim d B s t->qBU d B (RtR p) (whX d F Sn c p cond body n vals s) (whX d F Sn c p cond body n vals' t)
 | 0,vals,vals',s,t,B,G,_,_,h=>qBU.bad h
 | n+1,vals,vals',s,t,B,G,hvals,hr,h=>by
  rw[whX,whX]
  have ext:∀(t:St) (r:Rt),RE t (match r.2 with|some _=>Rx.ok r t|none=>(qDD F t).bind fun _ st=>whX d F Sn c p cond body n r.1 st):=fun t r=>by
   split
   ·exact RE.ok
   ·exact qHt.bind fun _ w=>wh_ext hX n _ w
  refine(qGC hp hS hX hR hpo hv ht G hvals hr h).bind (fun B' a a' s1 t1 e hB h1 hq=>?_) fun _ t=>RE.ite RE.ok ((hX _ _ _ _ t).bind fun r u=>ext u r)
  obtain⟨G1,g1,-⟩:=(qCl hp hS hpo hv ht G hvals).get e
  have v1:=qAh (fun h=>g1.right h) hvals
  have r1:=hr.mono hB
  rw[hq.plain qCu]
  split
  ·exact qBU.ok h1 ⟨r1,.inl ⟨rfl,rfl⟩⟩
  refine(hR c p body vals vals' s1 t1 B' hpo hb G1 v1 r1 h1).bind (fun B2 r r' s2 t2 e hB2 h2 hq2=>?_) fun r u=>ext u r
  obtain⟨G2,g2,hq3⟩:=(hS c p body vals s1 hpo hb G1 v1).get e
  rcases hq2.2 with⟨e1,e2⟩|⟨v,v',e1,e2,q⟩
  ·rw[e1,e2]
   refine(tick_sim h2).bind (fun B3 _ _ s3 t3 e hB3 h3 _=>?_) fun _ w=>wh_ext hX n _ w
   obtain⟨G3,e3⟩:=tick_good G2 e
   have hv3:qAg d s3.mm p.vars r.1=true:=by
    have:s3.mm.plain=s2.mm.plain:=by rw[St.plain,St.plain,(e3 (m:=s2.mm)).2.1,(e3 (m:=s2.mm)).2.2]
    exact qAh (fun h=>qBW this.symm h) hq3.1
   exact wh_sim hv ht hb n _ _ s3 t3 B3 G3 hv3 (hq2.1.mono hB3) h3
  ·rw[e1,e2]
   exact qBU.ok h2 ⟨hq2.1,.inr ⟨v,v',e1,e2,q⟩⟩
theorem body_sim{n:Nat}{x:S}(hx:TyS d p x){vals vals':List Int}(G:qAr d s.mm)(hvals:qAg d s.mm p.vars vals=true)(hr:RL B p.vars vals vals')(h:Sim d B s t):qBU d B (RtR p) (qFC d F Sn c p n x vals s) (qFC d F Sn c p n x vals' t):=by
 have E':=fun e s=>evS_ext (d:=d) (c:=c) (p:=p) (vals:=vals) hX e s
 have set_ext:∀{v:Int} {t:St},RE t (setX d p x.s v vals t):=fun {v t}=>by unfold setX;exact RE.ite RE.ok ⟨⟨_,rfl⟩,Nat.le_refl _,Nat.le_refl _⟩
 have put_ext:∀{a v:Int} {t:St},RE t (putX d a v x.s t):=fun {a v t}=>by
  unfold putX
  split
  ·exact RE.bad
  split
  ·exact RE.bad
  ·exact⟨⟨_,rfl⟩,Nat.le_refl _,by simp[Rx.st]⟩
 unfold qFC
 have B0:∀x∈B,x∈B:=fun _ h=>h
 cases kindS hx with
 | @set e u ty h1 he hv ht hl hne hf =>
  rw[if_pos h1,if_pos h1,he,List.getD_cons_zero]
  refine(qGC hp hS hX hR hpo hv ht G hvals hr h).bind (fun B' v v' s1 t1 e hB h2 hq=>?_) fun _ _=>set_ext
  obtain⟨G1,g1,hv1⟩:=(qCl hp hS hpo hv ht G hvals).get e
  have v1:=qAh (fun h=>g1.right h) hvals
  have r1:=hr.mono hB
  unfold setX
  rcases qDV G1 v1 hpo.vars hl hne with⟨i,f,w,q1,q2,q3,q4,-⟩|⟨i,f,w,q0,q1,q2,q3,q4,-⟩
  ·rw[if_pos (by omega),if_pos (by omega),q1,Int.toNat_natCast]
   exact qBU.ok h2 ⟨r1.set q2 (q4 ▸ hq.fits G.valid hf),.inl ⟨rfl,rfl⟩⟩
  ·rw[if_neg (by omega),if_neg (by omega),q1,Int.toNat_natCast]
   have h3:=h2.lg (x:=(2,0,(i:Int))) (y:=(2,0,(i:Int))) Iff.rfl
   exact qBU.ok (s:={ s1 with g:=s1.g.set i v,lg:=s1.lg++[(2,0,(i:Int))] }) (t:={ t1 with g:=t1.g.set i v',lg:=t1.lg++[(2,0,(i:Int))] }) ⟨h3.bij,h3.node,h2.glob.set q2 (q4 ▸ hq.fits G.valid hf),h3.tk,h3.cm,h3.nd,h3.len⟩ ⟨r1,.inl ⟨rfl,rfl⟩⟩
 | @put a e u w ty h1 he hv hw ha ht hl hf =>
  rw[if_neg (by omega),if_pos h1,if_neg (by omega),if_pos h1,he,List.getD_cons_zero,List.getD_cons_succ,List.getD_cons_zero]
  refine(qGC hp hS hX hR hpo hv ha G hvals hr h).bind (fun B' x1 x1' s1 t1 e1 hB h2 hq=>?_) fun _ t=>(E' _ t).bind fun _ _=>put_ext.bind fun _ _=>RE.ok
  obtain⟨G1,g1,hv1⟩:=(qCl hp hS hpo hv ha G hvals).get e1
  have v1:=qAh (fun h=>g1.right h) hvals
  have r1:=hr.mono hB
  refine(qGC hp hS hX hR hpo hw ht G1 v1 r1 h2).bind (fun B2 x2 x2' s2 t2 e2 hB2 h3 hq2=>?_) fun _ _=>put_ext.bind fun _ _=>RE.ok
  obtain⟨G2,g2,hv2⟩:=(qCl hp hS hpo hw ht G1 v1).get e2
  refine qBU.bind (Q:=fun _ _ _=>True) ?_ (fun B3 _ _ s3 t3 _ hB3 h4 _=>qBU.ok h4 ⟨(r1.mono hB2).mono hB3,.inl ⟨rfl,rfl⟩⟩) fun _ _=>RE.ok
  have ha2:=g2.val hv1
  have hu:qAE u=false:=by
   unfold qBT at hl
   cases hty:qJq d u with
   | none=>rw[hty]at hl;simp at hl
   | some tt=>obtain⟨_,_,_,_,h⟩:=qHs hty;exact qKo G.valid h
  unfold putX
  rcases (hq.mono hB2).ref hu with⟨rfl,rfl⟩|hm
  ·rw[if_pos rfl,if_pos rfl];exact qBU.bad h3
  obtain⟨i,j,ty',f,f',rfl,rfl,n1,n2,n3⟩:=h3.node _ _ hm
  obtain⟨q,k,j',tt,g,fs,y,e0,e3,-,-,e5,e6,e7,e8,-,e10,-⟩:=qDm G2 hl ha2 (by omega)
  have:q=i:=by omega
  subst this
  rw[n1]at e3;cases e3
  rw[if_neg (by omega),if_neg (by omega),show ((q:Int)+1-1).toNat=q by omega,show ((j:Int)+1-1).toNat=j by omega,n1,n2]
  simp only
  rw[e5,e6,Int.toNat_natCast]
  have hql:=(List.getElem?_eq_some_iff.1 n1).1
  have hjl:=(List.getElem?_eq_some_iff.1 n2).1
  have h5:=h3.lg (x:=(2,(q:Int)+1,(k:Int))) (y:=(2,(j:Int)+1,(k:Int))) ⟨fun _=>by show (0:Int)<(j:Int)+1;omega,fun _=>by show (0:Int)<(q:Int)+1;omega⟩
  refine qBU.ok (s:={ s2 with ns:=s2.ns.set q ((j':Int),f.set k x2),lg:=s2.lg++[(2,(q:Int)+1,(k:Int))] }) (t:={ t2 with ns:=t2.ns.set j ((j':Int),f'.set k x2'),lg:=t2.lg++[(2,(j:Int)+1,(k:Int))] }) ⟨h3.bij,fun a b hab=>?_,h3.glob,h5.tk,h5.cm,h5.nd,by show (t2.ns.set _ _).length<=(s2.ns.set _ _).length;rw[List.length_set,List.length_set];exact h3.len⟩ trivial
  obtain⟨i2,j2,ty2,f2,f2',rfl,rfl,m1,m2,m3⟩:=h3.node _ _ hab
  have hiff:=h3.bij _ _ _ _ hm hab
  by_cases hqi:q=i2
  ·subst hqi
   have hjj:j=j2:=by have:=hiff.1 rfl;omega
   subst hjj
   rw[n1]at m1;cases m1
   rw[n2]at m2;cases m2
   refine⟨q,j,(j':Int),f.set k x2,f'.set k x2',rfl,rfl,List.getElem?_set_self hql,List.getElem?_set_self hjl,?_⟩
   exact n3.set (by rw[e5];exact e7) (e10 ▸ hq2.fits G.valid hf)
  ·have hjj:¬j=j2:=fun e=>hqi (by have:=hiff.2 (by rw[e]);omega)
   exact⟨i2,j2,ty2,f2,f2',rfl,rfl,by show (s2.ns.set q _)[i2]?=_;rw[List.getElem?_set_ne hqi];exact m1,by show (t2.ns.set j _)[j2]?=_;rw[List.getElem?_set_ne hjj];exact m2,m3⟩
 | @cond e h1 he hv ht =>
  rw[if_neg (by omega),if_neg (by omega),if_pos h1,if_neg (by omega),if_neg (by omega),if_pos h1,he,List.getD_cons_zero]
  refine(qGC hp hS hX hR hpo hv ht G hvals hr h).bind (fun B' v v' s1 t1 e hB h2 hq=>?_) fun _ t=>RE.ite (hX _ _ _ _ t) (hX _ _ _ _ t)
  obtain⟨G1,g1,hv1⟩:=(qCl hp hS hpo hv ht G hvals).get e
  have v1:=qAh (fun h=>g1.right h) hvals
  obtain⟨-,-,-,hl,hx⟩:=hx.parts
  rw[hq.plain qCu]
  split
  ·exact hR c p _ vals vals' s1 t1 B' hpo hx G1 v1 (hr.mono hB) h2
  ·exact hR c p _ vals vals' s1 t1 B' hpo hl G1 v1 (hr.mono hB) h2
 | @loop e h1 he hv ht =>
  rw[if_neg (by omega),if_neg (by omega),if_neg (by omega),if_pos h1,if_neg (by omega),if_neg (by omega),if_neg (by omega),if_pos h1,he,List.getD_cons_zero]
  exact wh_sim hp hS hX hR hpo hv ht hx.parts.2.2.2.1 n vals vals' s t B G hvals hr h
 | ret0 h1 he hres =>
  rw[if_neg (by omega),if_neg (by omega),if_neg (by omega),if_neg (by omega),if_pos h1,if_neg (by omega),if_neg (by omega),if_neg (by omega),if_neg (by omega),if_pos h1,he]
  exact qBU.ok h ⟨hr,.inr ⟨0,0,rfl,rfl,fun _=>⟨rfl,rfl⟩,fun k=>absurd hres k⟩⟩
 | @ret1 e u h1 he hv ht hres hf =>
  rw[if_neg (by omega),if_neg (by omega),if_neg (by omega),if_neg (by omega),if_pos h1,if_neg (by omega),if_neg (by omega),if_neg (by omega),if_neg (by omega),if_pos h1,he]
  exact(qGC hp hS hX hR hpo hv ht G hvals hr h).bind (fun B' v v' s1 t1 e hB h2 hq=>qBU.ok h2 ⟨hr.mono hB,.inr ⟨v,v',rfl,rfl,fun k=>absurd k hres,fun _=>hq.fits G.valid hf⟩⟩) fun _ _=>RE.ok
 | @call e pr i h1 he hv ho hc =>
  rw[if_neg (by omega),if_neg (by omega),if_neg (by omega),if_neg (by omega),if_neg (by omega),if_pos h1,if_neg (by omega),if_neg (by omega),if_neg (by omega),if_neg (by omega),if_neg (by omega),if_pos h1,he,List.getD_cons_zero]
  unfold evS
  rw[qFk,qFk,cX7 ho,cX7 ho,hc.idx]
  have hV:=(qBb hv).1
  have snd:∀{a:E} {u:ByteArray} {s1:St} {n:Nat},a∈e.k->qAo d (qAf d p) a=(u,0)->qAr d s1.mm->Gr F n s s1->RxP d F (szE a) s1 (evX d (qBY d Sn c) p vals a s1) fun v s'=>qBq d s'.mm u v:=fun hm ha G1 g1=>qHe hp (qCz hp hS c) hpo _ _ _ (hV.kids _ hm) ha G1 (qAh (fun h=>g1.right h) hvals)
  have P:=qIc (F:=F) (f:=evX d (qBY d Sn c) p vals) e.k pr.params [] [] s G (qAq.2 ⟨rfl,fun j f v h=>by simp at h⟩) hc.len (qCd hp hc.at_) hc.fit (fun a hm u s1 n hu G1 g1=>snd hm hu G1 g1)
  refine qBU.bind (Q:=fun B' _ _=>RL B' p.vars vals vals') ((sim_seq (F:=F) (sc:=qAf d p) (ev_ext (qEX hX c)) e.k pr.params [] [] [] s t B G rfl ⟨rfl,fun j f v v' h=>by simp at h⟩ h hc.len hc.fit (fun a hm u s1 t1 n B' hu G1 g1 hB h1=>⟨snd hm hu G1 g1,ev_sim hp (qCz hp hS c) (qEX hX c) (qHO hp hX hR c) hpo a u s1 t1 B' (hV.kids a hm) hu G1 (qAh (fun h=>g1.right h) hvals) (hr.mono hB) h1⟩)).bind (fun B' l l' s1 t1 e hB h2 hq=>?_) fun _ _=>qEX hX c _ _ _) (fun B3 _ _ s3 t3 _ _ h4 q=>qBU.ok h4 ⟨q,.inl ⟨rfl,rfl⟩⟩) fun _ _=>RE.ok
  obtain⟨G1,g1,q1⟩:=P.get e
  exact(qHO hp hX hR c i pr l l' s1 t1 B' hc.at_ G1 q1 hq h2).mono fun _ _ _ _ _ hB2 _=>(hr.mono hB).mono hB2
end
theorem list_sim{p:Pr}{f:S->List Int->St->Rx Rt}(hX:∀x vals s,RE s (f x vals s)):∀(l:List S) (vals vals':List Int) (s t:St) (B:Bj),(∀x∈l,∀vals s,qAr d s.mm->qAg d s.mm p.vars vals=true->RxP d F 0 s (f x vals s) fun r s'=>RtOk d p r s') ->
  (∀x∈l,∀vals vals' s t B,qAr d s.mm->qAg d s.mm p.vars vals=true->RL B p.vars vals vals'->Sim d B s t->qBU d B (RtR p) (f x vals s) (f x vals' t))->qAr d s.mm->qAg d s.mm p.vars vals=true->RL B p.vars vals vals'->Sim d B s t->qBU d B (RtR p) (qDK f l vals s) (qDK f l vals' t)
 | [],vals,vals',s,t,B,_,_,G,hv,hr,h=>qBU.ok h ⟨hr,.inl ⟨rfl,rfl⟩⟩
 | x::l,vals,vals',s,t,B,H,K,G,hv,hr,h=>by
  rw[qDK,qDK]
  refine(K x List.mem_cons_self vals vals' s t B G hv hr h).bind (fun B' r r' s1 t1 e hB h1 hq=>?_) fun r t=>?_
  ·obtain⟨G1,-,hq1⟩:=(H x List.mem_cons_self vals s G hv).get e
   rcases hq.2 with⟨e1,e2⟩|⟨v,v',e1,e2,q⟩
   ·rw[e1,e2]
    exact list_sim hX l r.1 r'.1 s1 t1 B' (fun y hy=>H y (List.mem_cons_of_mem _ hy)) (fun y hy=>K y (List.mem_cons_of_mem _ hy)) G1 hq1.1 hq.1 h1
   ·rw[e1,e2];exact qBU.ok h1 ⟨hq.1,.inr ⟨v,v',e1,e2,q⟩⟩
  ·split
   ·exact RE.ok
   ·exact qKt hX l _ t
theorem st_sim(hp:∀p∈d.procs,qBu d p){Sn:Sf}(hS:SSnd d F Sn)(hX:SExt Sn)(hR:SSim d Sn){c n:Nat}{p:Pr}(hpo:qBu d p){x:S}(hx:TyS d p x){vals vals':List Int}(G:qAr d s.mm)(hvals:qAg d s.mm p.vars vals=true)(hr:RL B p.vars vals vals')(h:Sim d B s t):qBU d B (RtR p) (stX d F Sn c p n x vals s) (stX d F Sn c p n x vals' t):=by
 unfold stX
 refine(tick_sim h).bind (fun B' _ _ s1 t1 e hB h1 _=>?_) fun _ _=>qKK hX
 obtain⟨G1,e1⟩:=tick_good G e
 have hv1:qAg d s1.mm p.vars vals=true:=by
  have:s1.mm.plain=s.mm.plain:=by rw[St.plain,St.plain,(e1 (m:=s.mm)).2.1,(e1 (m:=s.mm)).2.2]
  exact qAh (fun h=>qBW this.symm h) hvals
 exact body_sim hp hS hX hR hpo hx G1 hv1 (hr.mono hB) h1
theorem sts_sim(hp:∀p∈d.procs,qBu d p)(n:Nat):SSim d (qCe d F n):=by
 induction n with
 | zero=>intro c p l vals vals' s t B _ _ _ _ _ h;exact qBU.bad h
 | succ n ih =>
  intro c p l vals vals' s t B hpo hl G hv hr h
  exact list_sim (F:=F) (fun _ _ _=>qHt.bind fun _ _=>qKK (qHW n)) l vals vals' s t B (fun x hx vals s G hv=>st_snd hp (qCG hp n) hpo (hl x hx) G hv)
   (fun x hx vals vals' s t B G hv hr h=>st_sim hp (qCG hp n) (qHW n) ih hpo (hl x hx) G hv hr h) G hv hr h
theorem play_sim(hp:∀p∈d.procs,qBu d p){i:Nat}{pr:Pr}{args args':List Int}(hi:d.procs[i]?=some pr)(G:qAr d s.mm)(ha:qAg d s.mm pr.params args=true)(hr:RL B pr.params args args')(h:Sim d B s t):qBU d B (fun B' v v'=>(pr.result=sE->v=0/\v'=0)/\(pr.result≠sE->RV B' pr.result v v')) (qFa d F i args s) (qFa d F i args' t) :=
 qHO hp (qHW (F+1)) (sts_sim hp (F+1)) 0 i pr args args' s t B hi G ha hr h
end
end Go.Proofs
namespace Go.Proofs
open Go Go.Sx
structure Sr where
 order:List Int
 again:Int
def qFu(x:Fld×Int):Bool:=!qAE x.1.ty&&decide (x.2≠0)
def tgtI(l:List Fld)(vs:List Int)(i:Nat):List Int:=(((l.zip vs).take i).filter qFu).map (·.2)
def tgt(l:List Fld)(vs:List Int):List Int:=((l.zip vs).filter qFu).map (·.2)
def nodeTgt(d:Ds)(m:Mm)(n:Int):List Int:=match m.nodes[(n-1).toNat]? with|some x=>tgt (qAx d x.ty) x.f|none=>[]
def qDU(d:Ds)(m:Mm):Nat->Sr->Int->Sr
 | 0,st,_=>st
 | f+1,st,n=>if n∈st.order then ⟨st.order,if st.again=0 then n else st.again⟩ else (nodeTgt d m n).foldl (qDU d m f) ⟨st.order++[n],st.again⟩
def lookP(d:Ds)(m:Mm)(f:Nat)(st:Sr)(l:List Fld)(vs:List Int):Sr:=(tgt l vs).foldl (qDU d m f) st
def qAA(d:Ds)(m:Mm):Sr:=lookP d m (m.nodes.length+1) ⟨[],0⟩ d.globals m.globals
theorem tgtI_zero(l:List Fld)(vs:List Int):tgtI l vs 0=[]:=rfl
theorem tgtI_succ{l:List Fld}{vs:List Int}{i:Nat}{f:Fld}{v:Int}(hf:l[i]?=some f)(hv:vs[i]?=some v):tgtI l vs (i+1)=tgtI l vs i++if qFu (f,v)=true then [v] else []:=by
 have hz:(l.zip vs)[i]?=some (f,v):=by rw[List.getElem?_zip_eq_some];exact⟨hf,hv⟩
 unfold tgtI
 rw[List.take_add_one,hz,List.filter_append,List.map_append]
 by_cases h:qFu (f,v)=true
 ·simp[h]
 ·simp[h]
theorem tgtI_all{l:List Fld}{vs:List Int}{i:Nat}(h:l.length<=i):tgtI l vs i=tgt l vs:=by
 unfold tgtI tgt
 rw[List.take_of_length_le]
 rw[List.length_zip];omega
def unS(m:Mm)(st:Sr):Nat:=((List.range m.nodes.length).filter fun(i:Nat)=>!decide (((i:Int)+1)∈st.order)).length
theorem qHL(d:Ds)(m:Mm):∀(f:Nat) (st:Sr) (n:Int),∀x∈st.order,x∈(qDU d m f st n).order
 | 0,st,n,x,h=>h
 | f+1,st,n,x,h=>by
  unfold qDU
  split
  ·exact h
  ·have:∀(l:List Int) (s:Sr),x∈s.order->x∈(l.foldl (qDU d m f) s).order:=fun l=>by
    induction l with
    | nil=>exact fun s h=>h
    | cons a l ih=>exact fun s h=>ih _ (qHL d m f s a x h)
   exact this _ _ (List.mem_append_left _ h)
theorem foldP_sub(d:Ds)(m:Mm)(f:Nat)(x:Int):∀(l:List Int) (s:Sr),x∈s.order->x∈(l.foldl (qDU d m f) s).order:=fun l=>by
 induction l with
 | nil=>exact fun s h=>h
 | cons a l ih=>exact fun s h=>ih _ (qHL d m f s a x h)
theorem qIH{α:Type}{p q:α->Bool}:∀{l:List α},(∀a∈l,q a=true->p a=true)->(l.filter q).length<=(l.filter p).length
 | [],_=>Nat.le_refl _
 | a::l,h=>by
  have ih:=qIH (l:=l) fun x hx=>h x (List.mem_cons_of_mem _ hx)
  have ha:=h a List.mem_cons_self
  rw[List.filter_cons,List.filter_cons]
  cases hq:q a with
  | true=>rw[ha hq];simpa using ih
  | false =>
   cases hp:p a with
   | true=>simp;omega
   | false=>simpa using ih
theorem filter_lt{α:Type}{p q:α->Bool}:∀{l:List α},(∀a∈l,q a=true->p a=true)->∀a∈l,p a=true->q a=false->(l.filter q).length<(l.filter p).length
 | [],_,a,ha,_,_=>by cases ha
 | b::l,h,a,ha,hp,hq=>by
  have h':∀x∈l,q x=true->p x=true:=fun x hx=>h x (List.mem_cons_of_mem _ hx)
  rw[List.filter_cons,List.filter_cons]
  rcases List.mem_cons.1 ha with rfl|hm
  ·rw[hp,hq]
   have:=qIH h'
   simp;omega
  ·have ih:=filter_lt h' a hm hp hq
   have hb:=h b List.mem_cons_self
   cases hqb:q b with
   | true=>rw[hb hqb];simpa using ih
   | false =>
    cases hpb:p b with
    | true=>simp;omega
    | false=>simpa using ih
section
variable{d:Ds}{m:Mm}{st:Sr}
theorem unS_le{a b:Sr}(h:∀x∈a.order,x∈b.order):unS m b<=unS m a:=by
 unfold unS
 refine qIH fun i _ hi=>?_
 simp only[Bool.not_eq_true',decide_eq_false_iff_not]at hi ⊢
 exact fun k=>hi (h _ k)
theorem unS_lt{n:Int}(hn:1<=n/\n<=(m.nodes.length:Int))(h:¬n∈st.order){a:Int}:unS m ⟨st.order++[n],a⟩<unS m st:=by
 unfold unS
 obtain⟨i,rfl⟩:∃i:Nat,n=(i:Int)+1:=⟨(n-1).toNat,by omega⟩
 refine filter_lt (fun j _ hj=>?_) i (List.mem_range.2 (by omega)) (by simpa using h) (by simp)
 simp only[Bool.not_eq_true',decide_eq_false_iff_not]at hj ⊢
 exact fun k=>hj (List.mem_append_left _ k)
theorem ref_in{xs:List Fld}{vs:List Int}(h:qAg d m xs vs=true){i:Nat}{f:Fld}{v:Int}(hf:xs[i]?=some f)(hvv:vs[i]?=some v)(hp:qAE f.ty=false)(h0:v≠0):1<=v/\v<=(m.nodes.length:Int):=by
 obtain⟨v',hv',hr⟩:=qFH h hf
 rw[hvv]at hv';cases hv'
 unfold qAE at hp
 simp only[Bool.or_eq_false_iff,decide_eq_false_iff_not]at hp
 unfold qAv at hr
 rw[if_neg hp.1,if_neg hp.2,decide_eq_true_eq]at hr
 rcases hr with h|⟨h1,h2,-⟩
 ·exact absurd h h0
 ·exact⟨h1,h2⟩
end
section
variable{d:Ds}{m c:Mm}{O:List Int}
structure Cl (d:Ds) (m:Mm) (a b:Sr):Prop where
 sub:∀x∈a.order,x∈b.order
 shut:∀x∈b.order,x∈a.order∨∀y∈nodeTgt d m x,y∈b.order
 dup:a.order.Nodup->b.order.Nodup
 rng:(∀x∈a.order,1<=x/\x<=(m.nodes.length:Int))->∀x∈b.order,1<=x/\x<=(m.nodes.length:Int)
 cap:a.order.length+unS m a<=m.nodes.length->b.order.length+unS m b<=m.nodes.length
theorem Cl.trans{a b e:Sr}(h:Cl d m a b)(k:Cl d m b e):Cl d m a e:=⟨fun x hx=>k.sub x (h.sub x hx),fun x hx=>by
 rcases k.shut x hx with hx|hx
 ·rcases h.shut x hx with hx|hx
  ·exact .inl hx
  ·exact .inr fun y hy=>k.sub y (hx y hy)
 ·exact .inr hx,fun n=>k.dup (h.dup n),fun r=>k.rng (h.rng r),fun r=>k.cap (h.cap r)⟩
theorem qHU{l:List Fld}{vs:List Int}{y:Int}:y∈tgt l vs↔∃(i:Nat) (f:Fld),l[i]?=some f/\vs[i]?=some y/\qAE f.ty=false/\y≠0:=by
 unfold tgt qFu
 simp only[List.mem_map,List.mem_filter,Bool.and_eq_true,Bool.not_eq_true',decide_eq_true_eq,Prod.exists,exists_eq_right]
 constructor
 ·rintro ⟨f,h,h1,h2⟩
  obtain⟨i,hi⟩:=List.mem_iff_getElem?.1 h
  rw[List.getElem?_zip_eq_some]at hi
  exact⟨i,f,hi.1,hi.2,h1,h2⟩
 ·rintro ⟨i,f,h,h1,h2,h3⟩
  exact⟨f,List.mem_iff_getElem?.2 ⟨i,List.getElem?_zip_eq_some.2 ⟨h,h1⟩⟩,h2,h3⟩
theorem tgt_in(hv:qAN d m=true):(∀y∈tgt d.globals m.globals,1<=y/\y<=(m.nodes.length:Int))/\∀n,∀y∈nodeTgt d m n,1<=y/\y<=(m.nodes.length:Int):=by
 obtain⟨-,-,-,p4,p5⟩:=qAp hv
 refine⟨fun y hy=>?_,fun n y hy=>?_⟩
 ·obtain⟨i,f,h1,h2,h3,h4⟩:=qHU.1 hy
  exact ref_in p4 h1 h2 h3 h4
 ·unfold nodeTgt at hy
  split at hy
  ·rename_i x hx
   obtain⟨i,f,h1,h2,h3,h4⟩:=qHU.1 hy
   exact ref_in (p5 x (List.mem_of_getElem? hx)) h1 h2 h3 h4
  ·cases hy
theorem fold_cl{f:Nat}(H:∀st n,1<=n/\n<=(m.nodes.length:Int)->unS m st<f->Cl d m st (qDU d m f st n)/\n∈(qDU d m f st n).order) :
  ∀(l:List Int) (s:Sr),(∀y∈l,1<=y/\y<=(m.nodes.length:Int))->unS m s<f->Cl d m s (l.foldl (qDU d m f) s)/\∀y∈l,y∈(l.foldl (qDU d m f) s).order
 | [],s,_,_=>⟨⟨fun _ h=>h,fun _ h=>.inl h,fun h=>h,fun h=>h,fun h=>h⟩,fun _ h=>by cases h⟩
 | a::l,s,hl,hs=>by
  obtain⟨c1,c2⟩:=H s a (hl a List.mem_cons_self) hs
  obtain⟨e1,e2⟩:=fold_cl H l (qDU d m f s a) (fun y hy=>hl y (List.mem_cons_of_mem _ hy)) (by have:=unS_le (m:=m) c1.sub;omega)
  refine⟨c1.trans e1,fun y hy=>?_⟩
  rcases List.mem_cons.1 hy with rfl|hy
  ·exact e1.sub _ c2
  ·exact e2 y hy
theorem ent_cl(hv:qAN d m=true):∀(f:Nat) (st:Sr) (n:Int),1<=n/\n<=(m.nodes.length:Int)->unS m st<f->Cl d m st (qDU d m f st n)/\n∈(qDU d m f st n).order
 | 0,_,_,_,h=>absurd h (Nat.not_lt_zero _)
 | f+1,st,n,hn,hf=>by
  rw[qDU]
  split
  ·rename_i h;exact⟨⟨fun _ h=>h,fun _ h=>.inl h,fun h=>h,fun h=>h,fun h=>h⟩,h⟩
  ·rename_i hno
   have hlt:=unS_lt hn hno (a:=st.again)
   obtain⟨c1,c2⟩:=fold_cl (ent_cl hv f) (nodeTgt d m n) ⟨st.order++[n],st.again⟩ (fun y hy=>(tgt_in hv).2 n y hy) (by omega)
   have hm:n∈(⟨st.order++[n],st.again⟩:Sr).order:=by simp
   refine⟨⟨fun x hx=>c1.sub x (List.mem_append_left _ hx),fun x hx=>?_,fun h=>c1.dup ?_,fun h=>c1.rng fun x hx=>?_,fun h=>c1.cap ?_⟩,c1.sub n hm⟩
   ·rcases c1.shut x hx with h|h
    ·rcases List.mem_append.1 h with h|h
     ·exact .inl h
     ·rw[List.mem_singleton.1 h];exact .inr c2
    ·exact .inr h
   ·show (st.order++[n]).Nodup
    rw[List.nodup_append]
    refine⟨h,by simp,fun a ha b hb e=>hno ?_⟩
    rw[<- List.mem_singleton.1 hb,<- e];exact ha
   ·rcases List.mem_append.1 hx with hx|hx
    ·exact h x hx
    ·rw[List.mem_singleton.1 hx];exact hn
   ·show (st.order++[n]).length+_<=_
    rw[List.length_append,List.length_singleton];omega
structure Rch (d:Ds) (m:Mm) (O:List Int):Prop where
 dup:O.Nodup
 rng:∀x∈O,1<=x/\x<=(m.nodes.length:Int)
 glob:∀y∈tgt d.globals m.globals,y∈O
 shut:∀x∈O,∀y∈nodeTgt d m x,y∈O
 cap:O.length<=m.nodes.length
theorem qHr:unS m ⟨[],0⟩<=m.nodes.length:=by
 unfold unS
 have:=List.length_filter_le (fun i:Nat=>!decide (((i:Int)+1)∈(⟨[],0⟩:Sr).order)) (List.range m.nodes.length)
 rw[List.length_range]at this
 exact this
theorem qEL(hv:qAN d m=true):Rch d m (qAA d m).order:=by
 have hu:=qHr (m:=m)
 obtain⟨c1,c2⟩:=fold_cl (ent_cl hv (m.nodes.length+1)) (tgt d.globals m.globals) ⟨[],0⟩ (tgt_in hv).1 (by omega)
 refine⟨c1.dup List.nodup_nil,c1.rng (fun x hx=>by cases hx),c2,fun x hx=>?_,?_⟩
 ·rcases c1.shut x hx with h|h
  ·cases h
  ·exact h
 ·have:=c1.cap (by show 0+_<=_;omega)
  exact Nat.le_trans (Nat.le_add_right _ _) this
def posI(l:List Int)(x:Int):Int:=qHo (fun y=>decide (y=x)) l
def rho(O:List Int)(x:Int):Int:=if x=0 then 0 else posI O x+1
def qFr(O:List Int)(l:List Fld)(vs:List Int):List Int:=(l.zip vs).map fun x=>if qAE x.1.ty=true then x.2 else rho O x.2
structure IsCan (d:Ds) (m c:Mm) (O:List Int):Prop where
 globals:c.globals=qFr O d.globals m.globals
 len:c.nodes.length=O.length
 at_:∀(i:Nat) n x,O[i]?=some n->m.nodes[(n-1).toNat]?=some x->∃s,c.nodes[i]?=some ⟨x.ty,s,qFr O (qAx d x.ty) x.f⟩
theorem pos_at(h:O.Nodup){i:Nat}{x:Int}(hx:O[i]?=some x):posI O x=i:=by
 unfold posI
 rcases qAB (fun y=>decide (y=x)) O with⟨-,-,h1⟩|⟨j,y,h1,h2,-,h3,h4,-⟩
 ·rw[List.any_eq_false]at h1
  exact absurd (decide_eq_true rfl) (h1 x (List.mem_of_getElem? hx))
 ·have e:y=x:=of_decide_eq_true h4
  subst e
  rw[h1,(List.getElem?_inj h3 h).1 (h2.trans hx.symm)]
theorem pos_mem(h:O.Nodup){x:Int}(hx:x∈O):∃i:Nat,O[i]?=some x/\posI O x=i/\i<O.length:=by
 obtain⟨i,hi⟩:=List.mem_iff_getElem?.1 hx
 exact⟨i,hi,pos_at h hi,(List.getElem?_eq_some_iff.1 hi).1⟩
theorem qGs(R:Rch d m O){x:Int}(hx:x∈O):∃i:Nat,O[i]?=some x/\rho O x=(i:Int)+1/\i<O.length:=by
 obtain⟨i,h1,h2,h3⟩:=pos_mem R.dup hx
 have:=R.rng x hx
 exact⟨i,h1,by unfold rho;rw[if_neg (by omega),h2],h3⟩
theorem qEK:rho O 0=0:=by unfold rho;rw[if_pos rfl]
theorem rho_inj(R:Rch d m O){x y:Int}(hx:x=0∨x∈O)(hy:y=0∨y∈O)(h:rho O x=rho O y):x=y:=by
 rcases hx with rfl|hx
 ·rcases hy with rfl|hy
  ·rfl
  ·obtain⟨i,-,h2,-⟩:=qGs R hy
   rw[qEK]at h;omega
 ·obtain⟨i,h1,h2,-⟩:=qGs R hx
  rcases hy with rfl|hy
  ·rw[qEK]at h;omega
  ·obtain⟨j,k1,k2,-⟩:=qGs R hy
   have:i=j:=by omega
   subst this
   rw[h1]at k1;cases k1;rfl
theorem ren_at{l:List Fld}{vs:List Int}{i:Nat}{f:Fld}{v:Int}(hf:l[i]?=some f)(hv:vs[i]?=some v):(qFr O l vs)[i]?=some (if qAE f.ty=true then v else rho O v):=by
 have hz:(l.zip vs)[i]?=some (f,v):=List.getElem?_zip_eq_some.2 ⟨hf,hv⟩
 unfold qFr
 rw[List.getElem?_map,hz];rfl
end
end Go.Proofs
namespace Go.Proofs
open Go Go.Sx
inductive F2 (B:Bj):List Int->List Int->Prop where
 | nil:F2 B [] []
 | cons {a b:Int} {l l':List Int} (h:(a,b)∈B) (t:F2 B l l'):F2 B (a::l) (b::l')
section
variable{d:Ds}{B:Bj}{s t:St}
theorem F2.app{l l' k k':List Int}(h:F2 B l l')(g:F2 B k k'):F2 B (l++k) (l'++k'):=by
 induction h with
 | nil=>exact g
 | cons h _ ih=>exact .cons h ih
theorem F2.len{l l':List Int}(h:F2 B l l'):l'.length=l.length:=by
 induction h with
 | nil=>rfl
 | cons _ _ ih=>simp[ih]
theorem F2.at_{l l':List Int}(h:F2 B l l'):∀(i:Nat) a,l[i]?=some a->∃b,l'[i]?=some b/\(a,b)∈B:=by
 induction h with
 | nil=>intro i a h;simp at h
 | cons h _ ih =>
  intro i a hi
  cases i with
  | zero=>simp at hi;subst hi;exact⟨_,rfl,h⟩
  | succ i=>obtain⟨b,h1,h2⟩:=ih i a (by simpa using hi);exact⟨b,by simpa using h1,h2⟩
theorem F2.mem{l l':List Int}(h:F2 B l l')(S:Sim d B s t){x y:Int}(hxy:(x,y)∈B):x∈l↔y∈l':=by
 induction h with
 | nil=>exact⟨fun h=>(by cases h),fun h=>(by cases h)⟩
 | @cons a b _ _ h _ ih =>
  rw[List.mem_cons,List.mem_cons,ih,S.bij _ _ _ _ hxy h]
theorem tgt_sim(S:Sim d B s t):∀(l:List Fld) (vs vs':List Int),RL B l vs vs'->F2 B (tgt l vs) (tgt l vs')
 | [],vs,vs',_=>by unfold tgt;rw[List.zip_nil_left,List.zip_nil_left];exact .nil
 | f::l,[],vs',h=>by
  obtain rfl:vs'=[]:=List.eq_nil_of_length_eq_zero h.1
  exact .nil
 | f::l,v::vs,[],h=>by have:=h.1;simp at this
 | f::l,v::vs,v'::vs',h=>by
  have ih:=tgt_sim S l vs vs' ⟨by simpa using h.1,fun j g w w' a b c=>h.2 (j+1) g w w' (by simpa using a) (by simpa using b) (by simpa using c)⟩
  have h0:=h.2 0 f v v' rfl rfl rfl
  unfold tgt at ih ⊢
  rw[List.zip_cons_cons,List.zip_cons_cons,List.filter_cons,List.filter_cons]
  have e:qFu (f,v)=qFu (f,v'):=by
   unfold qFu
   cases hp:qAE f.ty with
   | true=>simp[hp]
   | false =>
    rcases h0.ref hp with⟨rfl,rfl⟩|hm
    ·rfl
    ·obtain⟨i,j,_,_,_,rfl,rfl,-⟩:=S.node _ _ hm
     rw[decide_eq_true (show ((i:Int)+1)≠0 by omega),decide_eq_true (show ((j:Int)+1)≠0 by omega)]
  rw[<- e]
  cases hr:qFu (f,v) with
  | false=>exact ih
  | true =>
   rw[if_pos rfl,if_pos rfl]
   refine .cons ?_ ih
   unfold qFu at hr
   rw[Bool.and_eq_true,Bool.not_eq_true',decide_eq_true_eq]at hr
   rcases h0.ref hr.1 with⟨h1,-⟩|hm
   ·exact absurd h1 hr.2
   ·exact hm
theorem nodeTgt_sim(S:Sim d B s t){x y:Int}(h:(x,y)∈B):F2 B (nodeTgt d s.mm x) (nodeTgt d t.mm y):=by
 obtain⟨i,j,ty,f,f',rfl,rfl,n1,n2,n3⟩:=S.node _ _ h
 unfold nodeTgt
 rw[show ((i:Int)+1-1).toNat=i by omega,show ((j:Int)+1-1).toNat=j by omega,qDt,qDt,n1,n2]
 exact tgt_sim S _ _ _ n3
theorem Sim.rng(S:Sim d B s t){x y:Int}(h:(x,y)∈B):(1<=x/\x<=(s.mm.nodes.length:Int))/\1<=y/\y<=(t.mm.nodes.length:Int):=by
 obtain⟨i,j,ty,f,f',rfl,rfl,n1,n2,-⟩:=S.node _ _ h
 have:=(List.getElem?_eq_some_iff.1 n1).1
 have:=(List.getElem?_eq_some_iff.1 n2).1
 rw[qIs,qIs];omega
theorem fold_sim2{f f':Nat}(E:∀(a a':Sr) (n n':Int),(n,n')∈B->F2 B a.order a'.order->unS s.mm a<f->unS t.mm a'<f'->F2 B (qDU d s.mm f a n).order (qDU d t.mm f' a' n').order) :
  ∀{l l':List Int},F2 B l l'->∀(a a':Sr),F2 B a.order a'.order->unS s.mm a<f->unS t.mm a'<f'->F2 B (l.foldl (qDU d s.mm f) a).order (l'.foldl (qDU d t.mm f') a').order:=by
 intro l l' h
 induction h with
 | nil=>exact fun a a' h _ _=>h
 | @cons x y l l' hxy _ ih =>
  intro a a' h1 h2 h3
  have u1:=unS_le (m:=s.mm) (qHL d s.mm f a x)
  have u2:=unS_le (m:=t.mm) (qHL d t.mm f' a' y)
  exact ih _ _ (E a a' x y hxy h1 h2 h3) (by omega) (by omega)
theorem ent_sim2(S:Sim d B s t):∀(f f':Nat) (a a':Sr) (n n':Int),(n,n')∈B->F2 B a.order a'.order->unS s.mm a<f->unS t.mm a'<f'->F2 B (qDU d s.mm f a n).order (qDU d t.mm f' a' n').order
 | 0,_,_,_,_,_,_,_,h,_=>absurd h (Nat.not_lt_zero _)
 | _+1,0,_,_,_,_,_,_,_,h=>absurd h (Nat.not_lt_zero _)
 | f+1,f'+1,a,a',n,n',hn,h1,h2,h3=>by
  rw[qDU,qDU]
  have hm:=h1.mem S hn
  by_cases hin:n∈a.order
  ·rw[if_pos hin,if_pos (hm.1 hin)];exact h1
  ·rw[if_neg hin,if_neg fun k=>hin (hm.2 k)]
   obtain⟨r1,r2⟩:=S.rng hn
   have l1:=unS_lt r1 hin (a:=a.again)
   have l2:=unS_lt r2 (fun k=>hin (hm.2 k)) (a:=a'.again)
   exact fold_sim2 (ent_sim2 S f f') (nodeTgt_sim S hn) _ _ (h1.app (.cons hn .nil)) (by omega) (by omega)
theorem reach_sim2(S:Sim d B s t):F2 B (qAA d s.mm).order (qAA d t.mm).order :=
 fold_sim2 (ent_sim2 S _ _) (tgt_sim S _ _ _ S.glob) ⟨[],0⟩ ⟨[],0⟩ .nil (by have:=qHr (m:=s.mm);omega) (by have:=qHr (m:=t.mm);omega)
def canP(d:Ds)(m:Mm):List Int×List (Int×List Int) :=
 (qFr (qAA d m).order d.globals m.globals,(qAA d m).order.map fun n=>match m.nodes[(n-1).toNat]? with|some x=>(x.ty,qFr (qAA d m).order (qAx d x.ty) x.f) | none=>(0,[]))
theorem renL_sim(S:Sim d B s t){O O':List Int}(R:Rch d s.mm O)(R':Rch d t.mm O')(h:F2 B O O'){l:List Fld}{vs vs':List Int}(hv:RL B l vs vs')(ht:∀y∈tgt l vs,y∈O):qFr O l vs=qFr O' l vs':=by
 refine List.ext_getElem? fun j=>?_
 cases hf:l[j]? with
 | none =>
  have e:∀(O:List Int) (ws:List Int),(qFr O l ws)[j]?=none:=fun O ws=>by
   unfold qFr
   rw[List.getElem?_map]
   have:(l.zip ws)[j]?=none:=by
    rw[List.getElem?_eq_none_iff]at hf ⊢
    rw[List.length_zip];omega
   rw[this];rfl
  rw[e,e]
 | some f =>
  cases hw:vs[j]? with
  | none =>
   have e:∀(O:List Int) (ws:List Int),ws.length=vs.length->(qFr O l ws)[j]?=none:=fun O ws hl=>by
    unfold qFr
    rw[List.getElem?_map]
    have:(l.zip ws)[j]?=none:=by
     rw[List.getElem?_eq_none_iff]at hw ⊢
     rw[List.length_zip];omega
    rw[this];rfl
   rw[e _ _ rfl,e _ _ hv.1]
  | some v =>
   obtain⟨v',hv',hr⟩:=hv.at_ hf hw
   rw[ren_at hf hw,ren_at hf hv']
   cases hp:qAE f.ty with
   | true=>rw[if_pos rfl,if_pos rfl,hr.plain hp]
   | false =>
    rw[if_neg (by decide),if_neg (by decide)]
    rcases hr.ref hp with⟨rfl,rfl⟩|hm
    ·rw[qEK,qEK]
    ·have h0:v≠0:=by have:=(S.rng hm).1;omega
     have hO:=ht v (qHU.2 ⟨j,f,hf,hw,hp,h0⟩)
     obtain⟨i,i1,i2,-⟩:=qGs R hO
     obtain⟨w,w1,w2⟩:=h.at_ i v i1
     have e:w=v':=(S.bij _ _ _ _ w2 hm).1 rfl
     subst e
     have h0':w≠0:=by have:=(S.rng hm).2;omega
     rw[i2]
     unfold rho
     rw[if_neg h0',pos_at R'.dup w1]
theorem can_sim(S:Sim d B s t)(hs:qAN d s.mm=true)(ht:qAN d t.mm=true):canP d s.mm=canP d t.mm:=by
 have R:=qEL hs
 have R':=qEL ht
 have h:=reach_sim2 S
 unfold canP
 refine Prod.ext (renL_sim S R R' h S.glob R.glob) (List.ext_getElem? fun i=>?_)
 rw[List.getElem?_map,List.getElem?_map]
 cases hx:(qAA d s.mm).order[i]? with
 | none =>
  have:(qAA d t.mm).order[i]?=none:=by
   rw[List.getElem?_eq_none_iff]at hx ⊢
   rw[h.len];exact hx
  rw[this];rfl
 | some x =>
  obtain⟨y,hy,hxy⟩:=h.at_ i x hx
  rw[hy]
  obtain⟨q,j,ty,f,f',rfl,rfl,n1,n2,n3⟩:=S.node _ _ hxy
  have hsh:=R.shut _ (List.mem_of_getElem? hx)
  unfold nodeTgt at hsh
  rw[show ((q:Int)+1-1).toNat=q by omega,qDt,n1]at hsh
  simp only[Option.map_some]
  rw[show ((q:Int)+1-1).toNat=q by omega,show ((j:Int)+1-1).toNat=j by omega,qDt,qDt,n1,n2]
  simp only[Option.map_some]
  rw[renL_sim S R R' h n3 hsh]
theorem sim_start{m c:Mm}(hv:qAN d m=true)(I:IsCan d m c (qAA d m).order):Sim d ((qAA d m).order.map fun x=>(x,rho (qAA d m).order x)) (qBQ m) (qBQ c):=by
 have R:=qEL hv
 have ofm:∀{a b:Int},(a,b)∈((qAA d m).order.map fun x=>(x,rho (qAA d m).order x))->a∈(qAA d m).order/\b=rho (qAA d m).order a:=fun h=>by
  obtain⟨x,hx,e⟩:=List.mem_map.1 h
  cases e;exact⟨hx,rfl⟩
 have rel:∀{l:List Fld} {vs:List Int},l.length=vs.length->(∀y∈tgt l vs,y∈(qAA d m).order)->RL ((qAA d m).order.map fun x=>(x,rho (qAA d m).order x)) l vs (qFr (qAA d m).order l vs):=fun {l vs} hl ht=>by
  refine⟨by unfold qFr;rw[List.length_map,List.length_zip];omega,fun j f v v' hf hv hv'=>?_⟩
  rw[ren_at hf hv]at hv'
  rw[<- Option.some.inj hv']
  unfold RV
  cases hp:qAE f.ty with
  | true=>rfl
  | false =>
   rw[if_neg (by decide),if_neg (by decide)]
   by_cases h0:v=0
   ·left;rw[h0];exact⟨rfl,qEK⟩
   ·right
    exact List.mem_map.2 ⟨v,ht v (qHU.2 ⟨j,f,hf,hv,hp,h0⟩),rfl⟩
 obtain⟨p1,p2,p3,p4,p5⟩:=qAp hv
 refine⟨fun a b a' b' h1 h2=>?_,fun a b h=>?_,?_,rfl,rfl,rfl,?_⟩
 ·obtain⟨m1,rfl⟩:=ofm h1
  obtain⟨m2,rfl⟩:=ofm h2
  exact⟨fun e=>by rw[e],fun e=>rho_inj R (.inr m1) (.inr m2) e⟩
 ·obtain⟨hm,rfl⟩:=ofm h
  obtain⟨j,j1,j2,j3⟩:=qGs R hm
  have hr:=R.rng a hm
  obtain⟨i,rfl⟩:∃i:Nat,a=(i:Int)+1:=⟨(a-1).toNat,by omega⟩
  have hil:i<m.nodes.length:=by omega
  have hn:m.nodes[i]?=some m.nodes[i]:=List.getElem?_eq_getElem hil
  obtain⟨sl,hsl⟩:=I.at_ j ((i:Int)+1) m.nodes[i] j1 (by rw[show ((i:Int)+1-1).toNat=i by omega];exact hn)
  refine⟨i,j,m.nodes[i].ty,m.nodes[i].f,qFr (qAA d m).order (qAx d m.nodes[i].ty) m.nodes[i].f,rfl,j2,?_,?_,rel (qAq.1 (p5 _ (List.getElem_mem _))).1 ?_⟩
  ·show (m.nodes.map _)[i]?=_;rw[List.getElem?_map,hn];rfl
  ·show (c.nodes.map _)[j]?=_;rw[List.getElem?_map,hsl];rfl
  ·have:=R.shut _ hm
   unfold nodeTgt at this
   rw[show ((i:Int)+1-1).toNat=i by omega,hn]at this
   exact this
 ·show RL _ d.globals m.globals c.globals
  rw[I.globals]
  exact rel (qAq.1 p4).1 R.glob
 ·show (c.nodes.map _).length<=(m.nodes.map _).length
  rw[List.length_map,List.length_map,I.len];exact R.cap
end
end Go.Proofs
namespace Go.Proofs
open Go Go.Sx
attribute [local irreducible] Go.Sx.Tri
section
variable{V0 V V1:Mem}{d:Ds}{m:Mm}{p ib:Nat}{st:Sr}{o:Sl}
def srow(d:Ds)(m:Mm)(o:Sl)(ib:Nat)(a:Int):List Value:=[Go.Sx.vS d.name,d.ts.v,d.gs.v,d.ps.v,d.ms.v,d.is.v,d.qs.v,d.bs.v,m.gs.v,m.ns.v,o.v,.map (some ib),.int .i64 a]
def kn(O:List Int)(n:Int):Option Int:=if n∈O then some (posI O n+1) else none
theorem pos_app{O:List Int}{n x:Int}(hx:x∈O):posI (O++[n]) x=posI O x:=by
 unfold posI qHo
 rw[List.findIdx?_append]
 cases h:O.findIdx? (fun y=>decide (y=x)) with
 | none=>exact absurd (decide_eq_true rfl) (by rw[List.findIdx?_eq_none_iff.1 h x hx];decide)
 | some i=>rfl
theorem pos_new{O:List Int}{n:Int}(hn:¬n∈O):posI (O++[n]) n=(O.length:Int):=by
 unfold posI qHo
 have h:O.findIdx? (fun y=>decide (y=n))=none:=List.findIdx?_eq_none_iff.2 fun x hx=>decide_eq_false (by rintro rfl;exact hn hx)
 rw[List.findIdx?_append,h]
 simp[List.findIdx?_cons]
theorem kn_new{O:List Int}{n:Int}(hn:¬n∈O)(x:Int):kn (O++[n]) x=if x=n then some ((O.length:Int)+1) else kn O x:=by
 unfold kn
 by_cases hx:x=n
 ·subst hx
  rw[if_pos (by simp),if_pos rfl,pos_new hn]
 ·rw[if_neg hx]
  by_cases hm:x∈O
  ·rw[if_pos (by simp[hm]),if_pos hm,pos_app hm]
  ·rw[if_neg (by simp[hm,hx]),if_neg hm]
structure SrAt (V0:Mem) (d:Ds) (m:Mm) (p ib:Nat) (V:Mem) (st:Sr) (o:Sl):Prop where
 at_:V p=some (.cells (srow d m o ib st.again).toArray 143 (0,0))
 own:Sx.Own V0 V 3 1 o (st.order.flatMap qAn)
 map:MapV (Value.int .i64) V ib fun n=>(kn st.order n).map (Value.int .i64)
 cap:st.order.length+unS m st<=m.nodes.length
 rng:∀x∈st.order,1<=x/\x<=(m.nodes.length:Int)
structure SrS (V0:Mem) (d:Ds) (m:Mm) (p ib:Nat):Prop where
 mem:qAN d m=true
 ds:Ds.Ok V0 d
 mm:Mm.Ok V0 m
 p0:V0 p=none
 i0:V0 ib=none
 pi:p≠ib
theorem SrAt.cell(h:SrAt V0 d m p ib V st o)(i n:Nat)(hi:i+n<=13):V.rowp (sa p) i n=some (((srow d m o ib st.again).drop i).take n):=qAc h.at_ i n hi
theorem kn_pos{O:List Int}{n:Int}(h:n∈O):∃j,kn O n=some j/\1<=j:=by
 unfold kn
 rw[if_pos h]
 refine⟨_,rfl,?_⟩
 unfold posI
 rcases qAB (fun y=>decide (y=n)) O with⟨-,-,h1⟩|⟨j,z,h1,-⟩
 ·rw[List.any_eq_false]at h1
  exact absurd (decide_eq_true rfl) (h1 n h)
 ·rw[h1];omega
def SrPost(V0:Mem)(d:Ds)(m:Mm)(p ib:Nat)(st:Sr):Ending->Mem->Prop:=fun e V'=>e=.returned (.tuple #[])/\∃o,SrAt V0 d m p ib V' st o
variable(V0 d m p ib) in
def EntC(N:Nat):Prop:=∀(st:Sr) (n:Int) (f:Nat) V o,SrAt V0 d m p ib V st o->1<=n/\n<=(m.nodes.length:Int)->unS m st<=N->unS m st<f ->
 Tri Tryz.prog 102 #[pv p,.int .i64 n] V (SrPost V0 d m p ib (qDU d m f st n))
theorem lookC{N:Nat}(hE:EntC V0 d m p ib N){l s:Sl}{xs:List Fld}{vs:List Int}(hl:qAd V0 l 2 (xs.map Fld.row))(hs:qAd V0 s 1 (vs.map qAn))(hv:qAg d m xs vs=true){f:Nat}(h:SrAt V0 d m p ib V st o)(hN:unS m st<=N)(hf:unS m st<f) :
  Tri Tryz.prog 70 #[pv p,l.v,s.v] V (SrPost V0 d m p ib ((tgt xs vs).foldl (qDU d m f) st)):=by
 refine Tri.mono (x70 (R:=SrPost V0 d m p ib ((tgt xs vs).foldl (qDU d m f) st)) ?_) fun _ _ h=>h
 unfold w70
 have hlen:xs.length=vs.length:=(qAq.1 hv).1
 refine loop1 xs.length (fun i V1=>∃o1,SrAt V0 d m p ib V1 ((tgtI xs vs i).foldl (qDU d m f) st) o1) ⟨o,by rw[tgtI_zero];exact h⟩ ?_
 rintro i V1 J hi ⟨o1,h1⟩ hJ
 have hl1:=hl.sub h1.own.sub
 have hs1:=hs.sub h1.own.sub
 refine⟨fun hlt=>?_,fun hge=>?_⟩
 ·obtain⟨x,hxm,hx,-,hil,hp,hz,hrow⟩:=hl1.get hlt
  have n1:=hl1.n_eq
  have n2:=hs1.n_eq
  obtain⟨y,hym,hy,-,hjl,hpy,hzy,hrowy⟩:=hs1.get (i:=i) (by omega)
  have hu:unS m ((tgtI xs vs i).foldl (qDU d m f) st)<=unS m st:=unS_le fun z hz=>foldP_sub d m f z _ _ hz
  have same:qFu (x,y)=false->∃o2,SrAt V0 d m p ib V1 ((tgtI xs vs (i+1)).foldl (qDU d m f) st) o2:=fun hr=>by
   rw[tgtI_succ hx hy,hr,if_neg (by decide),List.append_nil];exact⟨o1,h1⟩
  refine⟨hp,hz,hlt,_,_,hrow,c52.call ⟨_,rfl,fun h2=>⟨hl1.succ hlt,hJ hil _ (same ?_)⟩,fun h2=>⟨hpy,hzy,by omega,_,hrowy,fun h3=>⟨hl1.succ hlt,hJ hil _ (same ?_)⟩,fun h3=>⟨hpy,hzy,by omega,_,hrowy,?_⟩⟩⟩⟩
  ·unfold qFu;rw[show qAE x.ty=true from h2];rfl
  ·have h3:y=0:=h3
   unfold qFu;rw[h3];simp
  ·have hpl:qAE x.ty=false:=(Bool.not_eq_true _).mp h2
   have h3:¬y=0:=h3
   have hr:qFu (x,y)=true:=by unfold qFu;rw[hpl,decide_eq_true h3];rfl
   refine Tri.mono (hE _ y f V1 o1 h1 (ref_in hv hx hy hpl h3) (by omega) (by omega)) ?_
   rintro _ V2 ⟨rfl,o2,h4⟩
   refine⟨rfl,hl1.succ hlt,hJ hil _ ⟨o2,?_⟩⟩
   rw[tgtI_succ hx hy,hr,if_pos rfl,List.foldl_append,List.foldl_cons,List.foldl_nil]
   exact h4
 ·have hd:=(hl1.done hge).2
  rw[tgtI_all hd]at h1
  exact⟨rfl,o1,h1⟩
theorem enterC(S:SrS V0 d m p ib)(N:Nat)(ih:∀N',N'<N->EntC V0 d m p ib N'):EntC V0 d m p ib N:=by
 intro st n f V o h hn hN hf
 obtain⟨f,rfl⟩:∃f',f=f'+1:=⟨f-1,by omega⟩
 refine Tri.mono (x102 (R:=SrPost V0 d m p ib (qDU d m (f+1) st n)) ?_) fun _ _ h=>h
 unfold w102
 have hg:=h.map
 refine⟨nn,nn,_,h.cell 11 1 (by decide),qBR.key1 (k:=n) (keyInt Tryz.underlying3) Tryz.underlying141 qHP hg ?_⟩
 by_cases hin:n∈st.order
 ·obtain⟨j,hj,hj1⟩:=kn_pos hin
  rw[hj]
  have e:qDU d m (f+1) st n=⟨st.order,if st.again=0 then n else st.again⟩:=by unfold qDU;rw[if_pos hin]
  rw[e]
  refine⟨j,rfl,fun h0=>?_,fun _=>⟨nn,nn,_,h.cell 12 1 (by decide),fun h0=>⟨nn,nn,?_⟩,fun h0=>?_⟩⟩
  ·have h0:j=0:=h0
   omega
  ·have h0:st.again=0:=h0
   rw[if_pos h0]
   refine StT.at2 (off:=12) h.at_ (by simp[srow]) ⟨rfl,o,?_,h.own.put (h.own.apart fun cur hc=>?_) S.p0 _,hg.set S.pi.symm,h.cap,h.rng⟩
   ·rw[Mem.set_same];rfl
   ·rw[h.at_]at hc;cases hc
  ·have h0:¬st.again=0:=h0
   rw[if_neg h0]
   exact⟨rfl,o,h⟩
 ·have hno:kn st.order n=none:=by unfold kn;rw[if_neg hin]
  rw[hno]
  have hcap:=h.cap
  have hlt:=unS_lt (st:=st) hn hin (a:=st.again)
  refine⟨0,rfl,fun _=>⟨nn,nn,o,h.cell 10 1 (by decide),fun tb htb=>?_⟩,fun h0=>absurd rfl h0⟩
  have pne:∀cur,V p≠some (.cells cur 3 (0,0)):=fun cur hc=>by rw[h.at_]at hc;cases hc
  have ine:∀cur,V ib≠some (.cells cur 3 (0,0)):=fun cur hc=>by
   obtain⟨e1,c1,k1,-⟩:=hg.at_
   rw[k1]at hc;cases hc
  have m4:=(qAp S.mem).2.1
  have hown2:=(h.own.but).new htb (.cells #[.int .i64 n] 3 (0,0))
  refine app31 (s:=o) (u:=⟨some ⟨tb,0,none⟩,1,1⟩) (xs:=st.order) (ys:=[n]) rfl rfl hown2 (one_int mss) (by simp;omega) fun o2 V2 ho2=>⟨o2,rfl,nn,nn,?_⟩
  have hsub:=ho2.sub
  have hp2:V2 p=some (.cells (srow d m o ib st.again).toArray 143 (0,0)):=hsub _ _ (Mem.but_at h.at_ (h.own.apart pne))
  have hg2:MapV (Value.int .i64) V2 ib fun n=>(kn st.order n).map (Value.int .i64):=by
   obtain⟨e1,c1,k1,k2⟩:=hg.at_
   exact⟨e1,c1,hsub _ _ (Mem.but_at k1 (h.own.apart ine)),k2⟩
  have ho3:Sx.Own V0 V2 3 1 o2 ((st.order++[n]).flatMap qAn):=ho2.narrow h.own.sub_but
  refine StT.at2 (off:=10) hp2 (by simp[srow]) ?_
  obtain⟨V3,hV3⟩:∃V3,V3=V2.set p (.cells (srow d m o2 ib st.again).toArray 143 (0,0)):=⟨_,rfl⟩
  have hgoal:V2.set p (.cells ((srow d m o ib st.again).toArray.toList.take 10++[uL o2]++(srow d m o ib st.again).toArray.toList.drop (10+[uL o2].length)).toArray 143 (0,0))=V3:=hV3.symm
  have hp3:V3 p=some (.cells (srow d m o2 ib st.again).toArray 143 (0,0)):=by rw[hV3,Mem.set_same]
  have hg3:MapV (Value.int .i64) V3 ib fun n=>(kn st.order n).map (Value.int .i64):=by rw[hV3];exact hg2.set S.pi.symm
  have pne2:∀cur,V2 p≠some (.cells cur 3 (0,0)):=fun cur hc=>by rw[hp2]at hc;cases hc
  have ho4:Sx.Own V0 V3 3 1 o2 ((st.order++[n]).flatMap qAn):=by rw[hV3];exact ho3.put (ho3.apart pne2) S.p0 _
  show ¬_/\_
  rw[hgoal]
  refine⟨nn,nn,_,qAc hp3 11 1 (by simp[srow]),nn,nn,o2,qAc hp3 10 1 (by simp[srow]),qIZ.key (k:=n) (keyInt Tryz.underlying3) Tryz.underlying141 hg3 fun ob hob=>?_⟩
  have hn2:=ho4.n_eq (fun _=>rfl) (by decide)
  rw[List.length_append,List.length_singleton]at hn2
  have h5:SrAt V0 d m p ib (V3.set ib ob) ⟨st.order++[n],st.again⟩ o2:=by
   refine⟨by rw[Mem.set_ne S.pi];exact hp3,ho4.put (ho4.apart fun cur hc=>?_) S.i0 _,hob.congr fun x=>?_,?_,fun x hx=>?_⟩
   ·obtain⟨e1,c1,k1,-⟩:=hg3.at_
    rw[k1]at hc;cases hc
   ·rw[kn_new hin,show ((st.order.length:Int)+1)=(o2.n:Int) by omega]
    by_cases hx:x=n <;> simp[hx]
   ·show (st.order++[n]).length+_<=_
    rw[List.length_append,List.length_singleton];omega
   ·rcases List.mem_append.1 hx with hx|hx
    ·exact h.rng x hx
    ·rw[List.mem_singleton.1 hx];exact hn
  obtain⟨q,rfl⟩:∃q:Nat,n=(q:Int)+1:=⟨(n-1).toNat,by omega⟩
  have hmm:=S.mm.sub h5.own.sub
  have hdd:=S.ds.sub h5.own.sub
  have hnn:=hmm.nodes.n_eq
  obtain⟨x,hxm,hx,-,hl2,hpx,hzx,hrowx⟩:=hmm.nodes.get (i:=q) (by omega)
  have hty:=(qAp S.mem).2.2.1 x hxm
  obtain⟨c1,c2⟩:=of_decide_eq_true hty
  obtain⟨j,hj⟩:∃j:Nat,x.ty=(j:Int):=⟨_,(Int.toNat_of_nonneg c1).symm⟩
  have htn:=hdd.types.n_eq
  obtain⟨t,htm,ht,-,hl3,hpt3,hzt,hrowt⟩:=hdd.types.get (i:=j) (by omega)
  have hI:IR ((q:Int)):=⟨by omega,by have:=(hmm.nodes.succ (i:=q) (by omega)).2;omega⟩
  rw[show ((q:Int)+1-1)=(q:Int) by omega]
  refine⟨nn,nn,pnn,m.ns,h5.cell 9 1 (by decide),hI,hpx,hzx,by omega,_,_,hrowx,nn,nn,pnn,d.ts,h5.cell 1 1 (by decide),?_⟩
  rw[hj]
  have hfo:=qAW ht hj
  have hvals:=(qAp S.mem).2.2.2.2 x hxm
  rw[hfo]at hvals
  refine⟨hpt3,hzt,by omega,qAe hpt3,_,_,hrowt,Tri.mono (lookC (ih (unS m ⟨st.order++[(q:Int)+1],st.again⟩) (by omega)) (S.ds.typesOk t htm).fields (S.mm.nodesOk x hxm).rows hvals (f:=f) h5 (Nat.le_refl _) (by omega)) ?_⟩
  rintro _ V5 ⟨rfl,o5,h6⟩
  refine⟨rfl,rfl,o5,?_⟩
  have e:qDU d m (f+1) st ((q:Int)+1)=(tgt t.fields x.f).foldl (qDU d m f) ⟨st.order++[(q:Int)+1],st.again⟩:=by
   rw[qDU,if_neg hin]
   unfold nodeTgt
   rw[show ((q:Int)+1-1).toNat=q by omega,hx]
   show (tgt (qAx d x.ty) x.f).foldl _ _=_
   rw[hfo]
  rw[e];exact h6
theorem entAll(S:SrS V0 d m p ib):∀N,EntC V0 d m p ib N:=fun N=>Nat.strongRecOn N fun N ih=>enterC S N ih
end
section
variable{V:Mem}{d:Ds}{m:Mm}
theorem c41(hmv:qAN d m=true)(hd:Ds.Ok V d)(hm:Mm.Ok V m):Tri Tryz.prog 41 #[d.v,m.v] V fun e V'=>∃p ib o,e=.returned (pv p)/\SrAt V d m p ib V' (qAA d m) o:=by
 refine x41 ?_
 unfold w41
 refine GenK.makeMap fun ib hib=>⟨some ib,rfl,fun p hp=>?_⟩
 have n1:p≠ib:=fun e=>by rw[e,Mem.set_same]at hp;cases hp
 have hp0:V p=none:=by rw[Mem.set_ne n1]at hp;exact hp
 have s1:=Mem.sub_new hib (.map #[] 0)
 have s2:=Mem.sub_new hp (.cells (srow d m ⟨none,0,0⟩ ib 0).toArray 143 (0,0))
 have S:SrS V d m p ib:=⟨hmv,hd,hm,hp0,hib,n1⟩
 have hu:unS m ⟨[],0⟩<=m.nodes.length:=qHr
 have h0:SrAt V d m p ib ((V.set ib (.map #[] 0)).set p (.cells (srow d m ⟨none,0,0⟩ ib 0).toArray 143 (0,0))) ⟨[],0⟩ ⟨none,0,0⟩ :=
  ⟨Mem.set_same _ _ _,Own.nil (s1.trans s2) _ _,(((MapV.made V ib).sub s2)).congr fun _=>rfl,by show 0+unS m ⟨[],0⟩<=_;omega,fun x h=>by simp at h⟩
 refine Tri.mono (lookC (entAll S m.nodes.length) hd.globals hm.globals (qAp hmv).2.2.2.1 (f:=m.nodes.length+1) h0 hu (by omega)) ?_
 rintro _ V2 ⟨rfl,o,h⟩
 exact⟨rfl,p,ib,o,rfl,h⟩
theorem kn_rho{O:List Int}(h:∀x∈O,1<=x)(x:Int):(kn O x).getD 0=rho O x:=by
 unfold kn rho
 by_cases hx:x∈O
 ·have:=h x hx
  rw[if_pos hx,if_neg (by omega)];rfl
 ·rw[if_neg hx]
  by_cases h0:x=0
  ·rw[if_pos h0];rfl
  ·rw[if_neg h0]
   unfold posI
   rcases qAB (fun y=>decide (y=x)) O with⟨e,-⟩|⟨j,z,-,h2,-,-,h4,-⟩
   ·rw[e];rfl
   ·have:=of_decide_eq_true h4
    subst this
    exact absurd (List.mem_of_getElem? h2) hx
theorem renL_len{O:List Int}{xs:List Fld}{vs:List Int}(h:xs.length=vs.length):(qFr O xs vs).length=xs.length:=by
 unfold qFr;rw[List.length_map,List.length_zip];omega
theorem qIj{U:Mem}{p ib:Nat}{o l q:Sl}{xs:List Fld}{vs:List Int}(hs:SrAt U d m p ib V (qAA d m) o)(hl:qAd V l 2 (xs.map Fld.row))(hq:qAd V q 1 (vs.map qAn))(he:xs.length=vs.length)(hb:xs.length<=4096) :
  Tri Tryz.prog 71 #[pv p,l.v,q.v] V fun e V'=>∃s:Sl,e=.returned (.slice s.p s.n s.c)/\Sx.Own V V' 3 1 s ((qFr (qAA d m).order xs vs).flatMap qAn):=by
 refine x71 ?_
 unfold w71
 refine Tri.mono (c66 hq (by omega)) ?_
 rintro _ V1 ⟨s,rfl,o1⟩
 have hrl:=renL_len (O:=(qAA d m).order) he
 obtain⟨R,hR⟩:∃R,R=qFr (qAA d m).order xs vs:=⟨_,rfl⟩
 rw[<- hR]at hrl
 refine⟨s,rfl,loop1 xs.length (fun i V2=>Sx.Own V V2 3 1 s ((R.take i++vs.drop i).flatMap qAn)) (by rw[List.take_zero,List.drop_zero];exact o1) ?_⟩
 rintro i V2 J hi o2 hJ
 have hl2:=hl.sub o2.sub
 have hq2:=hq.sub o2.sub
 have hn:=o2.n_eq (fun _=>rfl) (by decide)
 rw[List.length_append,List.length_take,List.length_drop]at hn
 refine⟨fun hlt=>?_,fun hge=>?_⟩
 ·obtain⟨x,hxm,hx,-,hil,hp,hz,hrow⟩:=hl2.get hlt
  have n2:=hq2.n_eq
  obtain⟨y,hym,hy,hdr,hjl,hpy,hzy,hrowy⟩:=hq2.get (i:=i) (by omega)
  have hre:=ren_at (O:=(qAA d m).order) hx hy
  rw[<- hR]at hre
  have hset:∀w:Int,R[i]?=some w->(R.take i++vs.drop i).set i w=R.take (i+1)++vs.drop (i+1):=fun w hw=>by
   have hti:(R.take i).length=i:=by rw[List.length_take];omega
   rw[List.set_append_right _ _ (by omega),hti,Nat.sub_self,hdr,List.set_cons_zero,List.take_add_one,hw]
   simp
  refine⟨hp,hz,hlt,_,_,hrow,c52.call ⟨_,rfl,fun h2=>⟨hl2.succ hlt,hJ hil _ ?_⟩,fun h2=>?_⟩⟩
  ·rw[if_pos (show qAE x.ty=true from h2)]at hre
   rw[<- hset y hre]
   have hgi:(R.take i++vs.drop i)[i]?=some y:=by
    have hti:(R.take i).length=i:=by rw[List.length_take];omega
    rw[List.getElem?_append_right (by omega),hti,Nat.sub_self,hdr];rfl
   have:(R.take i++vs.drop i).set i y=R.take i++vs.drop i:=by
    refine List.ext_getElem? fun k=>?_
    rw[List.getElem?_set]
    split
    ·rename_i e;subst e
     rw[hgi,if_pos (List.getElem?_eq_some_iff.1 hgi).1]
    ·rfl
   rw[this];exact o2
  ·have hpl:qAE x.ty=false:=(Bool.not_eq_true _).mp h2
   rw[hpl,if_neg (by decide)]at hre
   have hmap:=hs.map.sub o2.sub
   refine⟨nn,nn,_,qAc (o2.sub _ _ hs.at_) 11 1 (by simp[srow]),hpy,hzy,by omega,_,hrowy,qBR.key1 (k:=y) (keyInt Tryz.underlying3) Tryz.underlying141 qHP hmap ?_⟩
   have hkr:=kn_rho (fun x hx=>(hs.rng x hx).1) y
   have go:∀w:Int,w=rho (qAA d m).order y->¬s.p=none/\0<=(i:Int)/\(i:Int)<(s.n:Int)/\StT (qAa s.p (((i:Int)).toNat*1)) 0 [uI w] V2 fun V4=>IR ((i:Int)+1)/\J [uI ((i:Int)+1)] V4:=fun w hw=>by
    have hrw:=o2.rows (xs:=R.take i++vs.drop i) (fun _=>rfl) (by decide)
    have hlen2:i<(R.take i++vs.drop i).length:=by rw[List.length_append,List.length_take,List.length_drop];omega
    obtain⟨g1,g2,g3,-⟩:=gAt hrw (List.getElem?_eq_getElem hlen2)
    refine⟨g1,g2,g3,?_⟩
    rw[Int.toNat_natCast,Nat.mul_one]
    refine Own.store o2 (i:=i) (by rw[qAG,List.length_map];exact hlen2) fun V' ho _=>⟨hl2.succ hlt,hJ hil _ ?_⟩
    rw[<- hset w (by rw[hw];exact hre),qAG,List.map_set,<- qAG];exact ho
   cases hk:kn (qAA d m).order y with
   | none=>rw[hk]at hkr;exact⟨0,rfl,go 0 hkr⟩
   | some j=>rw[hk]at hkr;exact⟨j,rfl,go j hkr⟩
 ·have hdn:=(hl2.done hge).2
  rw[List.take_of_length_le (by omega),List.drop_eq_nil_of_le (by omega),List.append_nil,hR]at o2
  exact⟨s,rfl,o2⟩
end
end Go.Proofs
