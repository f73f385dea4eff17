/- Part 16: no statement of the seat is proved here. -/
import Derived.Test.YtcebnmieadkjfaaGreatDoorPg15
import Derived.Laws.MakeOwn
set_option linter.unusedVariables false
set_option linter.unusedSimpArgs false
open List renaming replicate->yJ,getElem?_map->y5,length_map->vX,length_set->vY,mem_of_getElem?->xM,length_append->zw,getElem?_append_left->vZ,all_eq_true->z6,length_singleton->vH,mem_iff_getElem?->vV,getElem?_eq_some_iff->yv,mem_append->vz,mem_singleton->zO,eq_nil_of_length_eq_zero->y4,append_nil->vL,mem_cons_self->zb,map_cons->zG,mem_cons_of_mem->za,getD_cons_zero->vQ,map_set->vy,mem_or_eq_of_mem_set->vx,ext_getElem?->zx,getElem?_set->vw
open Nat renaming le_refl->yV,le_trans->vW,mul_le_mul_right->y6,add_mul->ya
open Int renaming toNat_natCast->xh
open Go.Value renaming int->vF
open Go.Proofs.Tryz renaming prog->xG
open Array renaming getElem?_eq_some_iff->yA,length_toList->vu
open Go.Result renaming andThen_ok->zL
open Go.Builtin renaming zeroCells->xA,append_->y8,firstCells->xC,nextslicecap->vq
open Go.IntKind renaming i64->yr,wrap_i64->vt,wrap->xH
open Go.Ending renaming returned->xJ
namespace Go.Proofs
open Go Go.Sx
section
variable{d:Ds}{F:Nat}
def Rx.st{α:Type}:Rx α->St|.ok _ s=>s|.bad _ s=>s
inductive LgOk:Nat->List (Int×Int×Int)->Nat->Prop where
 |nil (n:Nat):LgOk n [] n
 |acc {n m:Nat} {k a f:Int} {l:List (Int×Int×Int)} (hk:k=1∨k=2) (h0:0<=a) (h1:a<=(n:Int)) (h2:0<=f) (h:LgOk n l m):LgOk n ((k,a,f)::l) m
 |alloc {n m:Nat} {f:Int} {l:List (Int×Int×Int)} (h2:0<=f) (h:LgOk (n+1) l m):LgOk n ((3,(n:Int)+1,f)::l) m
theorem LgOk.app{n m k:Nat}{l u:List (Int×Int×Int)}(h:LgOk n l m)(o:LgOk m u k):LgOk n (l++u) k:=by
 induction h with
 |nil=>exact o
 |acc a b c d _ H=>grind[acc]
 |alloc a _ H=>exact .alloc a (H o)
abbrev Gm:=List Int×List (Int×List Int)
inductive DV:Gm->List (Int×Int×Int)->Gm->Prop where
 |nil (x:Gm):DV x [] x
 |rd {x y:Gm} {l:List (Int×Int×Int)} {n f:Int} (h:DV x l y):DV x ((1,n,f)::l) y
 |wg {g:List Int} {ns:List (Int×List Int)} {y:Gm} {l:List (Int×Int×Int)} {i:Nat} {v:Int} (hi:i<g.length) (h:DV (g.set i v,ns) l y):DV (g,ns) ((2,0,(i:Int))::l) y
 |wf {g:List Int} {ns:List (Int×List Int)} {y:Gm} {l:List (Int×Int×Int)} {k i:Nat} {ty v:Int} {f:List Int} (hk:ns[k]?=some (ty,f)) (hi:i<f.length) (h:DV (g,ns.set k (ty,f.set i v)) l y):DV (g,ns) ((2,(k:Int)+1,(i:Int))::l) y
 |al {g:List Int} {ns:List (Int×List Int)} {y:Gm} {l:List (Int×Int×Int)} {ty:Int} {n:Nat} (h:DV (g,ns++[(ty,yJ n 0)]) l y):DV (g,ns) ((3,(ns.length:Int)+1,ty)::l) y
theorem DV.app{x y z:Gm}{l o:List (Int×Int×Int)}(h:DV x l y)(k:DV y o z):DV x (l++o) z:=by
 induction h with
 |nil=>exact k
 |rd _ u=>exact .rd (u k)
 |wg hi _ u=>exact .wg hi (u k)
 |wf hk hi _ u=>grind[wf]
 |al _ u=>exact .al (u k)
structure Gr (F n:Nat)(s s':St):Prop where
 ty:∀(i:Nat) x,s.ns[i]?=some x->∃y,s'.ns[i]?=some y/\y.1=x.1
 tk:s.tk<=s'.tk
 fu:s.tk<=F->s'.tk<=F
 lg:∃l,s'.lg=s.lg++l/\LgOk s.ns.length l s'.ns.length/\((∀a∈l,a.1=1)->s'.g=s.g/\s'.ns=s.ns)
 w:s'.lg.length+s'.cm+4000*s.tk<=s.lg.length+s.cm+n+4000*s'.tk
 tr:∃l,s'.lg=s.lg++l/\DV (s.g,s.ns) l (s'.g,s'.ns)
theorem Gr.refl(s:St):Gr F 0 s s:=⟨λ_ x h=>⟨x,h,rfl⟩,yV _,λh=>h,⟨[],by simp,.nil _,λ_=>⟨rfl,rfl⟩⟩,by omega,⟨[],by simp,.nil _⟩⟩
theorem Gr.trans{n m:Nat}{a b c:St}(h:Gr F n a b)(k:Gr F m b c):Gr F (n+m) a c:=⟨λi x N=>by
 obtain⟨y,h1,h2⟩:=h.ty i x N;obtain⟨z,O,A⟩:=k.ty i y h1;simp_all,vW h.tk k.tk,λe=>k.fu (h.fu e),by
 obtain⟨l,Z,o,I⟩:=h.lg;obtain⟨H,J,u,Y⟩:=k.lg;refine⟨l++H,by simp_all,o.app u,λM=>?_⟩;simp_all,by have:=h.w;have:=k.w;omega,by
 obtain⟨l,Z,o⟩:=h.tr;obtain⟨H,J,u⟩:=k.tr;exact⟨l++H,by simp_all,o.app u⟩⟩
theorem Gr.le{n m:Nat}{a b:St}(h:Gr F n a b)(u:n<=m):Gr F m a b:=⟨h.ty,h.tk,h.fu,h.lg,by have:=h.w;omega,h.tr⟩
theorem Gr.len{n:Nat}{a b:St}(h:Gr F n a b):a.ns.length<=b.ns.length:=by
 cases hk:a.ns.length with
 |zero=>omega
 |succ k=>
  obtain⟨y,u,-⟩:=h.ty k _ (List.getElem?_eq_getElem (by omega));grind
theorem H5{s:St}{i:Nat}:s.mm.nodes[i]?=(s.ns[i]?).map λn=>⟨n.1,Ag,n.2⟩:=y5 ..
theorem mm_len{s:St}:s.mm.nodes.length=s.ns.length:=vX ..
theorem KA{m m':Mm}(H:m.nodes.length<=m'.nodes.length)(o:∀(i:Nat) x,m.nodes[i]?=some x->∃y,m'.nodes[i]?=some y/\y.ty=x.ty){t:KB}{v:Int}(h:AR d m t v=true):AR d m' t v=true:=by
 unfold AR at h⊢;split;·simp_all
 rename_i h1;rw[if_neg h1]at h;split;·simp_all
 rename_i h2;rw[if_neg h2,decide_eq_true_eq]at h;refine decide_eq_true ?_;rcases h with h|⟨p1,p2,p3⟩;·exact .inl h
 ·refine .inr ⟨p1,by omega,?_⟩;cases u:m.nodes[(v-1).toNat]? with
  |none=>simp_all
  |some x=>
   rw[u]at p3;obtain⟨y,J,N⟩:=o _ _ u;simp_all
theorem Gr.right{n:Nat}{a b:St}(h:Gr F n a b){t:KB}{v:Int}(H:AR d a.mm t v=true):AR d b.mm t v=true:=by
 refine KA (m:=a.mm) (by rw[mm_len,mm_len];exact h.len) (λi x u=>?_) H;rw[H5]at u;cases o:a.ns[i]? with
 |none=>simp_all
 |some y=>
  rw[o]at u;cases u;obtain⟨z,J,N⟩:=h.ty i y o;simp_all[Ag,H5]
theorem Gr.val{n:Nat}{a b:St}(h:Gr F n a b){t:KB}{v:Int}(u:AX d a.mm t v):AX d b.mm t v:=by
 unfold AX at u⊢;split;·simp_all
 ·rename_i h1;rw[if_neg h1]at u;exact h.right u
theorem Dk{m:Mm}{l:List Fld}{vs:List Int}:AB d m l vs=true↔l.length=vs.length/\∀(j:Nat) f v,l[j]?=some f->vs[j]?=some v->AR d m f.ty v=true:=by
 unfold AB;rw[Bool.and_eq_true,decide_eq_true_eq,FW];grind[tyAt]
theorem Ck{m m':Mm}(u:∀{t v},AR d m t v=true->AR d m' t v=true){l:List Fld}{vs:List Int}(h:AB d m l vs=true):AB d m' l vs=true:=by
 grind[Dk]
theorem KC{m:Mm}{l:List Fld}{vs:List Int}(h:AB d m l vs=true){i:Nat}{f:Fld}(u:l[i]?=some f){v:Int}(hv:AR d m f.ty v=true):AB d m l (vs.set i v)=true:=by
 grind[Dk,vY]
theorem My(hv:A7 d=true){m:Mm}{t:KB}(h:known d t=true):AR d m t 0=true:=by
 unfold known at h;simp only[Bool.or_eq_true,decide_eq_true_eq]at h;rcases h with(rfl|rfl)|h;·rfl
 ·rfl
 ·exact LY (FX hv h)
theorem KD(hv:A7 d=true){m:Mm}{l:List Fld}(h:∀f∈l,known d f.ty=true):AB d m l (yJ l.length 0)=true:=by
 grind[Dk,My,xM]
theorem Jg{m:Mm}{l o:List Fld}{vs u:List Int}(h:AB d m l vs=true)(H:AB d m o u=true):AB d m (l++o) (vs++u)=true:=by
 grind[Dk,zw,vZ,List.getElem?_append_right]
theorem Jh{m:Mm}(h1:hasT d=true)(h2:m.nodes.length<=4096)(u:∀n∈m.nodes,DP d n=true)(o:AB d m d.globals m.globals=true)(H:∀n∈m.nodes,AB d m (BV d n.ty) n.f=true):BQ d m=true:=by
 grind[BQ]
structure AM {α:Type}(d:Ds)(F n:Nat)(s:St)(r:Rx α)(Q:α->St->Prop):Prop where
 good:Am d r.st.mm
 gr:Gr F n s r.st
 q:∀v s',r=.ok v s'->Q v s'
section
variable{α β:Type}{n m:Nat}{s:St}{r:Rx α}{Q:α->St->Prop}
theorem AM.ok{v:α}(G:Am d s.mm)(h:Q v s):AM d F 0 s (.ok v s) Q:=⟨G,Gr.refl s,λ_ _ e=>by cases e;exact h⟩
theorem AM.bad{c:Int}(G:Am d s.mm):AM d F 0 s (.bad c s:Rx α) Q:=⟨G,Gr.refl s,λ_ _ e=>by cases e⟩
theorem AM.le(h:AM d F n s r Q)(u:n<=m):AM d F m s r Q:=⟨h.good,h.gr.le u,h.q⟩
theorem AM.mono{u:α->St->Prop}(h:AM d F n s r Q)(k:∀v s',r=.ok v s'->Q v s'->u v s'):AM d F n s r u:=⟨h.good,h.gr,λv s' e=>k v s' e (h.q v s' e)⟩
theorem AM.bind{f:α->St->Rx β}{u:β->St->Prop}(h:AM d F n s r Q)(k:∀v s',r=.ok v s'->Q v s'->Am d s'.mm->Gr F n s s'->AM d F m s' (f v s') u):AM d F (n+m) s (r.bind f) u:=by
 cases r with
 |ok v s'=>
  have H:=k v s' rfl (h.q v s' rfl) h.good h.gr;exact⟨H.good,h.gr.trans H.gr,H.q⟩
 |bad c s'=>exact⟨h.good,h.gr.le (by omega),λ_ _ e=>by cases e⟩
end
section
variable{s:St}(G:Am d s.mm)
include G
omit G in
theorem Ji{n:Nat}{r:Rs}{s':St}(u:Am d s'.mm)(g:Gr F n s s'){Q:Int->St->Prop}(h:∀v,r=.ok v->Q v s'):AM d F n s (FB r s') Q:=by
 cases r with
 |ok v=>exact⟨u,g,λ_ _ e=>by cases e;exact h v rfl⟩
 |bad c=>exact⟨u,g,λ_ _ e=>by cases e⟩
theorem H6{p:Pr}{vals:List Int}(hv:AB d s.mm p.vars vals=true)(P:∀f∈p.vars,known d f.ty=true){nm t:KB}(o:Bn (AI d p).vars nm=t)(Z:t≠sE):
  (∃(i:Nat)(f:Fld)(v:Int),BL p.vars nm=i/\p.vars[i]?=some f/\vals[i]?=some v/\f.ty=t/\AX d s.mm t v/\varX d p vals nm s=.ok v s)∨
  ∃(i:Nat)(f:Fld)(v:Int),BL p.vars nm=-1/\BL d.globals nm=i/\d.globals[i]?=some f/\s.g[i]?=some v/\f.ty=t/\AX d s.mm t v/\varX d p vals nm s=.ok v (s.note (1,0,i)):=by
 obtain⟨p1,-,-,Y,-⟩:=BX G.mem;have o:Bn (p.vars++d.globals) nm=t:=o;have app:∀(a b:List Fld),Bn (a++b) nm=if 0<=BL a nm then Bn a nm else Bn b nm:=λa b=>by
  rw[HZ,HZ,HZ,List.find?_append];unfold BL;rcases Cw (λf:Fld=>decide (f.name=nm)) a with⟨h1,h2,-⟩|⟨i,x,h1,-,O,-⟩;·grind
  simp_all
 rw[app]at o;by_cases h0:0<=BL p.vars nm
 ·left;rw[if_pos h0]at o;rcases Gy p.vars nm with⟨J,-⟩|⟨i,f,J,c2,c3,-⟩;·simp_all
  ·obtain⟨v,u,H⟩:=H0 hv c2;have e:f.ty=t:=c3.symm.trans o;refine⟨i,f,v,J,c2,u,e,?_,?_⟩;·rw[<-e];exact(E7 G.valid (P f (xM c2))).2 H
   grind[varX]
 ·right;rw[if_neg h0]at o;rcases Gy d.globals nm with⟨J,-⟩|⟨i,f,J,c2,c3,-⟩;·simp_all
  ·obtain⟨v,u,H⟩:=H0 Y c2;have e:f.ty=t:=c3.symm.trans o;have N:known d f.ty=true:=z6.1 (E8 p1).1 f (xM c2);refine⟨i,f,v,?_,J,c2,u,e,?_,?_⟩
   ·rcases Gy p.vars nm with⟨-,c⟩|⟨j,_,c,-⟩;·exact c
    omega
   ·rw[<-e];exact(E7 G.valid N).2 H
   ·unfold varX;rw[if_neg h0,J,xh];have u:s.g[i]?=some v:=u;rw[u];rfl
theorem Jj{t nm ty:KB}(Y:C2 d t nm=(ty,0)){a:Int}(O:AX d s.mm t a)(h0:a≠0):
  ∃(q i j:Nat)(u:Ty)(f:Fld)(fs:List Int)(v:Int),a=(q:Int)+1/\s.ns[q]?=some ((j:Int),fs)/\d.types[j]?=some u/\u∈d.types/\BV d j=u.fields/\BL u.fields nm=i/\u.fields[i]?=some f/\fs[i]?=some v/\AX d s.mm ty v/\f.ty=ty/\known d ty=true:=by
 obtain⟨n,i,j,u,f,v,b1,-,b3,b4,b5,b6,b7,b8,b9,H,J,-,o⟩:=fld_ok G Y O h0;obtain⟨q,rfl⟩:∃q:Nat,a=(q:Int)+1:=⟨(a-1).toNat,by omega⟩;rw[show((q:Int)+1-1).toNat=q by omega,H5]at b1;cases Z:s.ns[q]? with
 |none=>simp_all
 |some x=>
  rw[Z]at b1;cases b1;obtain⟨p1,-⟩:=BX G.mem;have N:known d f.ty=true:=z6.1 ((E8 p1).2.2 u b7) f (xM b9);exact⟨q,i,j,u,f,x.2,v,rfl,by rw[Z,<-b5],b6,b7,En b6 rfl,b8,b9,H,J,o,o▸N⟩
omit G in
theorem gr_note{a f:Int}(h0:0<=a)(h1:a<=(s.ns.length:Int))(h2:0<=f):Gr F 1 s (s.note (1,a,f)):=⟨λ_ x h=>⟨x,h,rfl⟩,yV _,λh=>h,⟨[(1,a,f)],rfl,.acc (.inl rfl) h0 h1 h2 (.nil _),λ_=>⟨rfl,rfl⟩⟩,by show(s.lg++[_]).length+_+_<=_;rw[zw,vH];show s.lg.length+1+s.cm+4000*s.tk<=s.lg.length+s.cm+1+4000*s.tk;omega,⟨[(1,a,f)],rfl,.rd (.nil _)⟩⟩
omit G in
theorem gr_cnt{b:Bool}{op:Int}:Gr F 1 s (cntX b op s):=by
 unfold cntX;split;·exact⟨λ_ x h=>⟨x,h,rfl⟩,yV _,λh=>h,⟨[],by simp,.nil _,λ_=>⟨rfl,rfl⟩⟩,by grind,⟨[],by simp,.nil _⟩⟩
 ·exact(Gr.refl s).le (by omega)
theorem KE{b:Bool}{op:Int}:Am d (cntX b op s).mm:=by
 unfold cntX;split;·exact⟨G.valid,G.chk,G.mem⟩
 ·exact G
theorem new_snd{nm:KB}(I:BE d nm=true):AM d F 1 s (newX d nm s) λv s'=>AX d s'.mm nm v:=by
 unfold newX;split;·exact(AM.bad G).le (by omega)
 rename_i M;obtain⟨p1,D,p3,L,R⟩:=BX G.mem;have u:=FX G.valid I;obtain⟨J,Z,N⟩:=List.any_eq_true.1 I;have N:J.name=nm:=of_decide_eq_true N;obtain⟨j,A⟩:=vV.1 Z;have Y:Bt d nm=(j:Int):=N▸(E8 p1).2.1 j J A;have X:=(yv.1 A).1;rw[Y];have O:BV d (j:Int)=J.fields:=En A rfl;rw[O];obtain⟨s',H⟩:∃s':St,s'={s with ns:=s.ns++[((j:Int),yJ J.fields.length 0)],lg:=s.lg++[(3,(s.ns.length:Int)+1,(j:Int))]}:=⟨_,rfl⟩;rw[<-H];have g:Gr F 1 s s':=by
  rw[H];refine⟨λi x E=>⟨x,?_,rfl⟩,yV _,λh=>h,⟨[_],rfl,.alloc (by omega) ?_,λh=>(by simp_all)⟩,?_,⟨[_],rfl,.al (.nil _)⟩⟩;·grind
  ·grind[LgOk,zw,vH]
  grind
 have o:s'.mm.nodes=s.mm.nodes++[⟨(j:Int),Ag,yJ J.fields.length 0⟩]:=by rw[H];simp[St.mm]
 have B:Am d s'.mm:=by
  refine⟨G.valid,G.chk,Jh p1 ?_ (λn hm=>?_) ?_ λn hm=>?_⟩;·grind[zw,vH,mm_len]
  ·rw[o]at hm;rcases vz.1 hm with hm|hm;·exact p3 n hm
   ·rw[zO.1 hm];exact decide_eq_true ⟨by simp_all,by simp_all⟩
  ·have:s'.mm.globals=s.mm.globals:=by rw[H];rfl
   rw[this];exact Ck (λh=>g.right h) L
  ·rw[o]at hm;rcases vz.1 hm with hm|hm;·exact Ck (λh=>g.right h) (R n hm)
   ·rw[zO.1 hm];show AB d s'.mm (BV d (j:Int)) (yJ J.fields.length 0)=true;rw[O];exact KD G.valid λf C=>z6.1 ((E8 p1).2.2 J Z) f C
 refine⟨B,g,λv K e=>?_⟩;cases e;unfold AX AR;rw[if_neg (DQ u kwNil),if_neg (DQ u kwInt),if_neg (DQ u kwBool),decide_eq_true_eq];grind[inr,zw,vH,mm_len,Int,List.getElem?_concat_length]
end
def CSnd(d:Ds)(F:Nat)(C:Cf):Prop:=∀(i:Nat) pr args s,d.procs[i]?=some pr->Am d s.mm->AB d s.mm pr.params args=true->AM d F 0 s (C i args s) λv s'=>pr.result≠sE->AX d s'.mm pr.result v
theorem szEs_sum:∀l:List E,Cu l=(l.map AG).sum
 |[]=>by unfold Cu;rfl
 |e::l=>by unfold Cu;rw[szEs_sum l];rfl
theorem szE_eq(e:E):AG e=1+(e.k.map AG).sum:=by cases e;unfold AG;rw[szEs_sum];rfl
theorem seq_snd{sc:Sc}{f:E->St->Rx Int}:∀(k:List E)(fs:List Fld)(acc:List Int)(gs:List Fld)(s:St),Am d s.mm->AB d s.mm gs acc=true->k.length=fs.length->(∀f∈fs,known d f.ty=true)->
  (∀(j:Nat) a g,k[j]?=some a->fs[j]?=some g->∃u,Al d sc a=(u,0)/\Bi d u g.ty=true)->
  (∀a∈k,∀(u:KB)(o:St)(n:Nat),Al d sc a=(u,0)->Am d o.mm->Gr F n s o->AM d F (AG a) o (f a o) λv s'=>AX d s'.mm u v)->
  AM d F (k.map AG).sum s (seqX (k.map f) acc s) λl s'=>AB d s'.mm (gs++fs) l=true
 |[],fs,acc,gs,s,G,J,Y,_,_,_=>by
  obtain rfl:fs=[]:=y4 (by grind);rw[vL];exact AM.ok G J
 |a::k,fs,acc,gs,s,G,J,Y,N,A,H=>by
  cases fs with
  |nil=>simp at Y
  |cons g fs=>
   obtain⟨u,hu,Z⟩:=A 0 a g rfl rfl;have h1:=H a zb u s 0 hu G (Gr.refl s);rw[zG,zG,List.sum_cons];show AM d F _ s ((f a s).bind λv st=>seqX (k.map f) (acc++[v]) st) _;refine h1.bind λv o _ hv L I=>?_;have R:=(E7 G.valid (N g zb)).1 (EF G.valid Z hv);have O:AB d o.mm (gs++[g]) (acc++[v])=true:=Jg (Ck (λh=>I.right h) J) (Dk.2 ⟨rfl,λj f w M hw=>by
    grind⟩)
   have:=seq_snd k fs (acc++[v]) (gs++[g]) o L O (by simpa using Y) (λf M=>N f (za _ M)) (λj a g J X=>A (j+1) a g (by simpa using J) (by simpa using X)) (λb B u C n hu D K=>H b (za _ B) u C _ hu D (I.trans K));simp_all
theorem KF(hp:∀p∈d.procs,DG d p){i:Nat}{pr:Pr}(h:d.procs[i]?=some pr):∀f∈pr.params,known d f.ty=true:=λf u=>(hp pr (xM h)).vars f (List.mem_append_left _ u)
theorem ev_snd(hp:∀p∈d.procs,DG d p){C:Cf}(hC:CSnd d F C){p:Pr}(hpo:DG d p){vals:List Int}:
  ∀(e:E)(t:KB)(s:St),VE e->Al d (AI d p) e=(t,0)->Am d s.mm->AB d s.mm p.vars vals=true->AM d F (AG e) s (Du d C p vals e s) λv s'=>AX d s'.mm t v:=by
 intro e;induction e using E.ind with
 |h e ih=>
 intro t s hv ht G Y;rw[evX_eq,szE_eq];have I:∀{a:E}{u:KB}{Z:St}{n:Nat},a∈e.k->Al d (AI d p) a=(u,0)->Am d Z.mm->Gr F n s Z->AM d F (AG a) Z (Du d C p vals a Z) λv s'=>AX d s'.mm u v:=λhm J o N=>ih _ hm _ _ (hv.kids _ hm) J o (Ck (λh=>N.right h) Y);have K:∀{i:Nat}{a:E},e.k[i]?=some a->BN (e.k.map (Du d C p vals)) i=Du d C p vals a:=λh=>kidX_at h;have b0:∀{v:Int},v=0∨v=1->AX d s.mm Ar v:=λh=>Da.2 h;cases kindX (sc:=AI d p) rfl hv ht with
 |int h B=>rw[Jc (.inl h)];exact(AM.ok G (C5.2 (by omega))).le (by omega)
 |bool h B=>rw[Jc (.inr h)];exact(AM.ok G (Da.2 (by omega))).le (by omega)
 |nil h B=>rw[Mt h];exact(AM.ok G (by rfl)).le (by omega)
 |var h D S=>
  rw[Mu h];rcases H6 G Y hpo.vars D S with⟨i,f,v,-,-,-,-,L,h6⟩|⟨i,f,v,-,-,-,-,-,L,h6⟩;·rw[h6];exact(AM.ok G L).le (by omega)
  ·rw[h6];exact⟨⟨G.valid,G.chk,G.mem⟩,(gr_note (by omega) (by omega) (by omega)).le (by omega),λ_ _ e=>by cases e;exact L⟩
 |@fld _ u a h hk J hf=>
  rw[Mv h,K (i:=0) (by rw[hk];rfl),hk];refine((I (by rw[hk];simp) J G (Gr.refl s)).bind (m:=1) λv Z _ H o N=>?_).le (by simp<;>omega);unfold fldX;by_cases h0:v=0;·rw[if_pos h0];exact(AM.bad o).le (by omega)
  ·rw[if_neg h0];obtain⟨q,i,j,tt,f,fs,w,rfl,h2,h3,-,L,h6,h7,h8,h9,-⟩:=Jj o hf H h0;rw[show((q:Int)+1-1).toNat=q by omega,h2];simp only;rw[L,h6,xh,h8];exact⟨⟨o.valid,o.chk,o.mem⟩,gr_note (by omega) (by grind) (by omega),λ_ _ e=>by cases e;exact h9⟩
 |new h B=>rw[Mw h];exact(new_snd G B).le (by omega)
 |@call pr i h A hr=>
  rw[Jd h,A.idx];refine((seq_snd e.k pr.params [] [] s G (Dk.2 ⟨rfl,λj f v h=>by simp at h⟩) A.len (KF hp A.at_) A.fit (λa hm u Z n hu o N=>I hm hu o N)).bind (m:=0) λl Z _ D o N=>?_).le (by omega);exact(hC i pr l Z A.at_ o D).mono λv s' _ h=>h hr
 |@neg a h hk J=>
  rw[Mx h,K (i:=0) (by rw[hk];rfl),hk];refine((I (by rw[hk];simp) J G (Gr.refl s)).bind (m:=0) λv Z _ H o N=>Ji o (Gr.refl Z) λw hw=>C5.2 (big_ok hw).2).le (by simp<;>omega)
 |@not a h hk J=>
  rw[cX18 h,K (i:=0) (by rw[hk];rfl),hk];refine((I (by rw[hk];simp) J G (Gr.refl s)).bind (m:=0) λv Z _ H o N=>AM.ok o ?_).le (by simp<;>omega);grind[Da]
 |@log a h hk J=>
  rw[cX24 h,K (i:=0) (by rw[hk];rfl),hk];refine((I (by rw[hk];simp) J G (Gr.refl s)).bind (m:=0) λv Z _ H o N=>AM.ok o ?_).le (by simp<;>omega);have:=log_in (a:=v) (C5.1 H).2;exact C5.2 (by omega)
 |@and a b h hk J O=>
  rw[cX19 h,K (i:=0) (by rw[hk];rfl),K (i:=1) (by rw[hk];rfl)];refine((I (by rw[hk];simp) J G (Gr.refl s)).bind (m:=AG b) λv Z _ H o N=>?_).le (by simp_all);split;·exact(AM.ok o (Da.2 (.inl rfl))).le (by omega)
  grind
 |@or a b h hk J O=>
  rw[cX20 h,K (i:=0) (by rw[hk];rfl),K (i:=1) (by rw[hk];rfl)];refine((I (by rw[hk];simp) J G (Gr.refl s)).bind (m:=AG b) λv Z _ H o N=>?_).le (by simp_all);split;·grind
  ·exact(AM.ok o (Da.2 (.inr rfl))).le (by omega)
 |@cond a b c _ u w h hk J O A hu hw _=>
  rw[cX21 h,K (i:=0) (by rw[hk];rfl),K (i:=1) (by rw[hk];rfl),K (i:=2) (by rw[hk];rfl)];refine((I (by rw[hk];simp) J G (Gr.refl s)).bind (m:=AG b+AG c) λv Z _ H o N=>?_).le (by simp_all);split
  ·exact((I (by rw[hk];simp) A o N).mono λv s' _ h=>by
    rcases hw with rfl|hw;·exact h
    ·exact EF G.valid hw h).le (by omega)
  ·exact((I (by rw[hk];simp) O o N).mono λv s' _ h=>by
    rcases hu with rfl|hu;·exact h
    ·exact EF G.valid hu h).le (by omega)
 |@eq a b u w h hk J O _=>
  rw[cXTwo (by omega),K (i:=0) (by rw[hk];rfl),K (i:=1) (by rw[hk];rfl)];refine((I (by rw[hk];simp) J G (Gr.refl s)).bind (m:=AG b+1) λv Z _ H o N=>(I (by rw[hk];simp) O o N).bind (m:=1) λz T _ M R U=>Ji (KE R) gr_cnt λx X=>Da.2 (I2 (by omega) X)).le (by grind)
 |@cmp a b h hk J O=>
  rw[cXTwo (by omega),K (i:=0) (by rw[hk];rfl),K (i:=1) (by rw[hk];rfl)];refine((I (by rw[hk];simp) J G (Gr.refl s)).bind (m:=AG b+1) λv Z _ H o N=>(I (by rw[hk];simp) O o N).bind (m:=1) λz T _ M R U=>Ji (KE R) gr_cnt λx X=>Da.2 (I2 (by omega) X)).le (by grind)
 |@ari a b h hk J O=>
  rw[cXTwo (by omega),K (i:=0) (by rw[hk];rfl),K (i:=1) (by rw[hk];rfl)];refine((I (by rw[hk];simp) J G (Gr.refl s)).bind (m:=AG b+1) λv Z _ H o N=>(I (by rw[hk];simp) O o N).bind (m:=1) λz T _ M R U=>Ji (KE R) gr_cnt λx X=>C5.2 (two_ok h (C5.1 H) (C5.1 M) X)).le (by grind)
end
end Go.Proofs
namespace Go.Proofs
open Go Go.Sx
section
variable{d:Ds}{F:Nat}
theorem Hm{e:E}(h:Bf e=true):VE e/\AG e<=1000:=⟨VE.of_valid h,(of_decide_eq_true h).2⟩
def RtOk(d:Ds)(p:Pr)(r:Rt)(s:St):Prop:=AB d s.mm p.vars r.1=true/\∀v,r.2=some v->p.result≠sE->AX d s.mm p.result v
def SSnd(d:Ds)(F:Nat)(Sn:Sf):Prop:=∀c p l vals s,DG d p->(∀x∈l,D9 d p x)->Am d s.mm->AB d s.mm p.vars vals=true->AM d F 0 s (Sn c p l vals s) λr s'=>RtOk d p r s'
theorem Hn(hp:∀p∈d.procs,DG d p){Sn:Sf}(hS:SSnd d F Sn)(c:Nat):CSnd d F (Db d Sn c):=by
 intro i pr args s u G H;unfold Db;split;·exact AM.bad G
 rw[xh,u];simp only;have hpo:=hp pr (xM u);refine(hS (c+1) pr pr.body _ s hpo hpo.body G (Jg H (KD G.valid λf J=>hpo.vars f (List.mem_append_right _ J)))).bind (m:=0) λr Y _ N Z O=>AM.ok Z λo=>?_;cases h:r.2 with
 |some v=>exact N.2 v h o
 |none=>
  have hk:=hpo.res.resolve_left o;exact(E7 G.valid hk).2 (My G.valid hk)
theorem Gr.tick{n:Nat}{s s':St}(h:Gr F n {s with tk:=s.tk+1} s')(o:n<=4000)(u:s.tk<F):Gr F 0 s s':=
 ⟨h.ty,vW (Nat.le_succ _) h.tk,λ_=>h.fu u,h.lg,by have h:=h.w;grind,h.tr⟩
theorem AM.tick{α:Type}{n:Nat}{s:St}{f:Unit->St->Rx α}{Q:α->St->Prop}(G:Am d s.mm)(h:Am d ({s with tk:=s.tk+1}:St).mm->AM d F n {s with tk:=s.tk+1} (f () {s with tk:=s.tk+1}) Q)(u:n<=4000):AM d F 0 s ((EL F s).bind f) Q:=by
 unfold EL;split;·exact AM.bad G
 ·rename_i o;have H:=h ⟨G.valid,G.chk,G.mem⟩;exact⟨H.good,H.gr.tick u (by omega),H.q⟩
section
variable{Sn:Sf}{c:Nat}{p:Pr}(hp:∀p∈d.procs,DG d p)(hS:SSnd d F Sn)(hpo:DG d p)
include hp hS hpo
theorem GD{vals:List Int}{e:E}{t:KB}{s:St}(hv:Bf e=true)(o:Al d (AI d p) e=(t,0))(G:Am d s.mm)(u:AB d s.mm p.vars vals=true):AM d F 1000 s (DU d Sn c p vals e s) λv s'=>AX d s'.mm t v:=
 (ev_snd hp (Hn hp hS c) hpo e t s (Hm hv).1 o G u).le (Hm hv).2
theorem wh_snd{cond:E}{body:List S}(hv:Bf cond=true)(o:Al d (AI d p) cond=(Ar,0))(H:∀x∈body,D9 d p x):∀(n:Nat)(vals:List Int)(s:St),Am d s.mm->AB d s.mm p.vars vals=true->AM d F 1000 s (FC d F Sn c p cond body n vals s) λr s'=>RtOk d p r s'
 |0,vals,s,G,_=>by unfold FC;exact(AM.bad G).le (by omega)
 |n+1,vals,s,G,u=>by
  rw[FC];refine((GD hp hS hpo hv o G u).bind (m:=0) λv O _ _ J A=>?_).le (by omega);have N:=Ck (λh=>A.right h) u;split;·exact AM.ok J ⟨N,λ_ h=>by cases h⟩
  ·refine((hS c p body vals O hpo H J N).bind (m:=0) λr M _ Z Y L=>?_).le (by omega);split;·exact AM.ok Y Z
   ·exact AM.tick (n:=1000) Y (λI=>wh_snd hv o H n r.1 _ I Z.1) (by omega)
theorem body_snd{n:Nat}{x:S}(E:D9 d p x){vals:List Int}{s:St}(G:Am d s.mm)(o:AB d s.mm p.vars vals=true):AM d F 2001 s (bodyX d F Sn c p n x vals s) λr s'=>RtOk d p r s':=by
 unfold bodyX;obtain⟨p1,p2,p3,p4,p5⟩:=BX G.mem;cases kindS E with
 |@set e u t h N hv A B hne K=>
  rw[if_pos h,N,vQ];refine((GD hp hS hpo hv A G o).bind (m:=1) λv H _ Z J Y=>?_).le (by omega);have I:=Ck (λh=>Y.right h) o;have M:=EF G.valid K Z;unfold setX;rcases H6 J I hpo.vars B hne with⟨i,f,w,q1,T,q3,q4,-⟩|⟨i,f,w,q0,q1,T,q3,q4,-⟩
  ·rw[if_pos (by omega),q1,xh];have X:AR d H.mm f.ty v=true:=(E7 G.valid (hpo.vars f (xM T))).1 (q4▸M);exact(AM.ok J ⟨KC I T X,λ_ h=>by cases h⟩).le (by omega)
  ·rw[if_neg (by omega),q1,xh];obtain⟨o1,o2,o3,o4,o5⟩:=BX J.mem;have X:AR d H.mm f.ty v=true:=(E7 G.valid (z6.1 (E8 o1).1 f (xM T))).1 (q4▸M);have C:Am d ({H with g:=H.g.set i v,lg:=H.lg++[(2,0,(i:Int))]}:St).mm:=⟨G.valid,G.chk,Jh o1 o2 o3 (KC (m:=H.mm) (vs:=H.g) o4 T X) o5⟩;exact⟨C,⟨λ_ x h=>⟨x,h,rfl⟩,yV _,λh=>h,⟨[_],rfl,.acc (.inr rfl) (by omega) (by omega) (by omega) (.nil _),λh=>(by simp_all)⟩,by show(H.lg++[_]).length+_+_<=_;rw[zw,vH];show H.lg.length+1+H.cm+4000*H.tk<=H.lg.length+H.cm+1+4000*H.tk;omega,⟨[_],rfl,.wg (yv.1 q3).1 (.nil _)⟩⟩,λ_ _ e=>by cases e;exact⟨I,λ_ h=>by cases h⟩⟩
 |@put a e u w t h N hv hw ha A B K=>
  rw[if_neg (by omega),if_pos h,N,vQ,List.getD_cons_succ,vQ];refine((GD hp hS hpo hv ha G o).bind (m:=1001) λx1 H _ Z J Y=>?_).le (by omega);have I:=Ck (λh=>Y.right h) o;refine((GD hp hS hpo hw A J I).bind (m:=1) λx2 O _ M C g2=>?_).le (by omega);have v2:=Ck (λh=>g2.right h) I;have ha2:=g2.val Z;unfold putX;by_cases h0:x1=0;·rw[if_pos h0];exact(AM.bad C).le (by omega)
  rw[if_neg h0];obtain⟨q,i,j,tt,f,fs,y,rfl,U,e3,e4,e5,e6,e7,e8,e9,e10,e11⟩:=Jj C B ha2 h0;rw[show((q:Int)+1-1).toNat=q by omega,U];simp only;rw[e5,e6,xh];obtain⟨o1,o2,o3,o4,o5⟩:=BX C.mem;have X:AR d O.mm f.ty x2=true:=(E7 G.valid (e10▸e11)).1 (e10▸EF G.valid K M);have hql:=(yv.1 U).1;obtain⟨D,L⟩:∃D:St,D={O with ns:=O.ns.set q ((j:Int),fs.set i x2),lg:=O.lg++[(2,(q:Int)+1,(i:Int))]}:=⟨_,rfl⟩;have g3:Gr F 1 O D:=by
   rw[L];refine⟨λk x hk=>?_,yV _,λh=>h,⟨[_],rfl,.acc (.inr rfl) (by omega) (by omega) (by omega) ?_,λh=>(by simp_all)⟩,?_,⟨[_],rfl,.wf U (yv.1 e8).1 (.nil _)⟩⟩;·grind
   ·grind[LgOk,vY]
   grind
  have hn3:D.mm.nodes=O.mm.nodes.set q ⟨(j:Int),Ag,fs.set i x2⟩:=by rw[L];simp[St.mm,vy]
  have G3:Am d D.mm:=by
   refine⟨G.valid,G.chk,Jh o1 ?_ (λn hm=>?_) ?_ λn hm=>?_⟩;·simp_all
   ·rw[hn3]at hm;rcases vx hm with hm|rfl;·exact o3 n hm
    ·exact o3 (⟨(j:Int),Ag,fs⟩) (xM (i:=q) (by rw[H5,U];rfl))
   ·have:D.mm.globals=O.mm.globals:=by rw[L];rfl
    rw[this];exact Ck (λh=>g3.right h) o4
   ·rw[hn3]at hm;rcases vx hm with hm|rfl;·exact Ck (λh=>g3.right h) (o5 n hm)
    ·have:=o5 (⟨(j:Int),Ag,fs⟩) (xM (i:=q) (by rw[H5,U];rfl));have this:AB d O.mm (BV d (j:Int)) fs=true:=this;show AB d D.mm (BV d (j:Int)) (fs.set i x2)=true;rw[e5]at this⊢;exact Ck (λh=>g3.right h) (KC this e7 X)
  rw[<-L];exact⟨G3,g3,λ_ _ e=>by cases e;exact⟨Ck (λh=>g3.right h) v2,λ_ h=>by cases h⟩⟩
 |@cond e h N hv A=>
  rw[if_neg (by omega),if_neg (by omega),if_pos h,N,vQ];refine((GD hp hS hpo hv A G o).bind (m:=0) λv H _ Z J Y=>?_).le (by omega);have I:=Ck (λh=>Y.right h) o;obtain⟨-,-,-,B,E⟩:=E.parts;split;·exact hS c p _ vals H hpo E J I
  ·exact hS c p _ vals H hpo B J I
 |@loop e h N hv A=>
  rw[if_neg (by omega),if_neg (by omega),if_neg (by omega),if_pos h,N,vQ];exact(wh_snd hp hS hpo hv A E.parts.2.2.2.1 n vals s G o).le (by omega)
 |ret0 h N X=>
  rw[if_neg (by omega),if_neg (by omega),if_neg (by omega),if_neg (by omega),if_pos h,N];exact(AM.ok G ⟨o,λ_ _ k=>absurd X k⟩).le (by omega)
 |@ret1 e u h N hv A X K=>
  rw[if_neg (by omega),if_neg (by omega),if_neg (by omega),if_neg (by omega),if_pos h,N];refine((GD hp hS hpo hv A G o).bind (m:=0) λv H _ Z J Y=>?_).le (by omega);exact AM.ok J ⟨Ck (λh=>Y.right h) o,λw h _=>by cases h;exact EF G.valid K Z⟩
 |@call e pr i h N hv ho hc=>
  rw[if_neg (by omega),if_neg (by omega),if_neg (by omega),if_neg (by omega),if_neg (by omega),if_pos h,N,vQ];unfold DU;rw[evX_eq,Jd ho,hc.idx];have hV:=(Hm hv).1;have hsz:=(Hm hv).2;rw[szE_eq]at hsz;refine(((seq_snd e.k pr.params [] [] s G (Dk.2 ⟨rfl,λj f v h=>by simp at h⟩) hc.len (KF hp hc.at_) hc.fit (λa hm u H n hu J Y=>ev_snd hp (Hn hp hS c) hpo a u H (hV.kids a hm) hu J (Ck (λh=>Y.right h) o))).bind (m:=0) λl H _ B J Y=>?_).bind (m:=0) (Q:=λ_ s'=>AB d s'.mm p.vars vals=true) λ_ O _ hq C g2=>AM.ok C ⟨hq,λ_ h=>by cases h⟩).le (by omega);have R:=Hn hp hS c i pr l H hc.at_ J B;refine⟨R.good,R.gr,λv O e=>?_⟩;have:=Ck (λh=>R.gr.right h) (Ck (λh=>Y.right h) o);rw[e]at this;exact this
theorem st_snd{n:Nat}{x:S}(o:D9 d p x){vals:List Int}{s:St}(G:Am d s.mm)(u:AB d s.mm p.vars vals=true):AM d F 0 s (EN d F Sn c p n x vals s) λr s'=>RtOk d p r s':=by
 unfold EN;exact AM.tick (n:=2001) G (λH=>body_snd hp hS hpo o H u) (by omega)
end
theorem list_snd{p:Pr}{f:S->List Int->St->Rx Rt}:∀(l:List S)(vals:List Int)(s:St),(∀x∈l,∀vals s,Am d s.mm->AB d s.mm p.vars vals=true->AM d F 0 s (f x vals s) λr s'=>RtOk d p r s')->Am d s.mm->AB d s.mm p.vars vals=true->AM d F 0 s (EO f l vals s) λr s'=>RtOk d p r s'
 |[],vals,s,_,G,hv=>by unfold EO;exact AM.ok G ⟨hv,λ_ h=>by cases h⟩
 |x::l,vals,s,H,G,hv=>by
  rw[EO];refine(H x zb vals s G hv).bind (m:=0) λr J _ u o Z=>?_;split;·exact AM.ok o u
  ·exact list_snd l r.1 J (λy N=>H y (za _ N)) o u.1
theorem Ho(hp:∀p∈d.procs,DG d p):∀n,SSnd d F (B8 d F n)
 |0=>λ_ _ _ _ _ _ _ G _=>AM.bad G
 |n+1=>λc p l vals s hpo u G hv=>list_snd l vals s (λ_ o _ _ G hv=>st_snd hp (Ho hp n) hpo (u _ o) G hv) G hv
theorem play_snd(hp:∀p∈d.procs,DG d p){i:Nat}{pr:Pr}{args:List Int}{s:St}(h:d.procs[i]?=some pr)(G:Am d s.mm)(u:AB d s.mm pr.params args=true):AM d F 0 s (C7 d F i args s) λv s'=>pr.result≠sE->AX d s'.mm pr.result v:=
 Hn hp (Ho hp (F+1)) 0 i pr args s h G u
end
end Go.Proofs
namespace Go.Proofs
open Go Go.Sx
attribute [local irreducible] Go.Sx.Tri
section
variable{V0 V V':Mem}{e:TypeId}{sz:Nat}{s:Sl}{vs:List Value}
theorem Own.storec(h:Sx.Own V0 V e sz s vs){i:Nat}(hi:i<vs.length){v:Value}{q:Mem->Prop}(N:∀V',Sx.Own V0 V' e sz s (vs.set i v)->(∀c,¬Bl s c->V' c=V c)->q V'):As (Aa s.p i) 0 [v] V q:=by
 rcases h.cases0 with⟨h1,h2,o⟩|⟨Z,g,cur,h1,h2,o,J,Y,h6,h7⟩;·rw[o]at hi;simp at hi
 have u:=h.len;have O:s.n*sz<=s.c*sz:=y6 _ J;rw[h1];refine As.at2 (off:=i) o (by simp;omega) (N _ ⟨h.sub.set h2 _,by simpa using u,.inr ⟨g,_,h1,h2,Mem.set_same _ _ _,J,Y,?_,?_⟩⟩ λc H=>?_);·grind
 ·grind[Ky,List.take_set]
 ·rw[Mem.set_ne];rintro rfl;exact H ⟨Z,h1⟩
theorem Own.moveB(h:Sx.Own V0 V e sz s vs)(o:V0.sub V')(hk:∀g u,Bl s g->V g=some (.cells u e (0,0))->V' g=some (.cells u e (0,0))):Sx.Own V0 V' e sz s vs:=⟨o,h.len,by
 rcases h.cases0 with h1|⟨H,g,u,h1,h2,J,N⟩;·exact .inl h1
 ·exact .inr ⟨g,u,h1,h2,hk g u ⟨H,h1⟩ J,N⟩⟩
theorem Own.some(h:Sx.Own V0 V e sz s vs){c:Nat}(o:Bl s c):∃u,V c=some (.cells u e (0,0)):=by
 rcases h.cases0 with⟨-,h2,-⟩|⟨-,g,u,h1,h2,H,-⟩;·exact absurd h2 o.1
 ·have:=h1.symm.trans o.2;simp_all
theorem Own.none0(h:Sx.Own V0 V e sz s vs){c:Nat}(u:Bl s c):V0 c=none:=by
 rcases h.cases0 with⟨-,h2,-⟩|⟨-,g,cur,h1,h2,o,-⟩;·exact absurd h2 u.1
 ·have:=h1.symm.trans u.2;simp_all
theorem set_sub2{A B:Mem}(h:A.sub B)(b:Nat)(o:Obj):(A.set b o).sub (B.set b o):=λc x u=>by
 by_cases e:c=b;·grind[Mem.set_same]
 ·rw[Mem.set_ne e]at u⊢;exact h _ _ u
theorem Own.poke(h:Sx.Own V0 V e sz s vs){b:Nat}(u:V0 b≠none)(o:Obj):Sx.Own (V0.set b o) (V.set b o) e sz s vs:=⟨set_sub2 h.sub b o,h.len,by
 rcases h.cases0 with h1|⟨J,g,cur,h1,h2,N,Z⟩;·exact .inl h1
 ·have H:g≠b:=λe=>u (e▸h2);simp_all[inr,Mem.set_ne]⟩
end
def Hp(a:Int×Int×Int):List Value:=[.int .i64 a.1,.int .i64 a.2.1,.int .i64 a.2.2]
theorem app87:AppP 87 201 3 Hp:=appG Tryz.underlying87 (by kernel_rfl) (by kernel_rfl) (by kernel_rfl) (by kernel_rfl) (by kernel_rfl) (by decide) (by intro _;rfl) λx u hu=>by simp only[Hp,List.mem_cons,List.not_mem_nil,or_false]at hu;rcases hu with rfl|rfl|rfl<;>rfl
theorem Ea(l:List Int):l.flatMap AE=l.map (vF .i64):=by
 induction l with
 |nil=>rfl
 |cons a l u=>rw[List.flatMap_cons,u];rfl
structure AL (V0 V:Mem)(gs ns ls:Sl)(nd:List Nd)(st:St):Prop where
 glob:Sx.Own V0 V 3 1 gs (st.g.flatMap AE)
 nodes:Sx.Own V0 V 130 2 ns (nd.flatMap Nd.row)
 log:Sx.Own V0 V 201 3 ls (st.lg.flatMap Hp)
 fld:∀n∈nd,Sx.Own V0 V 3 1 n.sl (n.f.flatMap AE)
 eq:nd.map (λn=>(n.ty,n.f))=st.ns
 gf:∀n∈nd,∀c,Bl n.sl c->¬Bl gs c
 ff:∀(i j:Nat) n n' c,nd[i]?=some n->nd[j]?=some n'->Bl n.sl c->Bl n'.sl c->i=j
section
variable{V0 V V':Mem}{gs ns ls:Sl}{nd:List Nd}{st:St}
def Alien(V:Mem)(c:Nat):Prop:=∀u t,t=3∨t=130∨t=201->V c≠some (.cells u t (0,0))
theorem AL.sub(L:AL V0 V gs ns ls nd st):V0.sub V:=L.glob.sub
theorem AL.move(L:AL V0 V gs ns ls nd st)(J:V0.sub V')(hk:∀c o,V c=some o->V0 c=none->¬Alien V c->V' c=some o):AL V0 V' gs ns ls nd st:=by
 have u:∀{e sz s vs},(e=3∨e=130∨e=201)->Sx.Own V0 V e sz s vs->Sx.Own V0 V' e sz s vs:=λ{e sz s vs} N h=>Own.moveB h J λg Z Y H=>hk _ _ H (Own.none0 h Y) λO=>O _ _ N H;exact⟨u (.inl rfl) L.glob,u (.inr (.inl rfl)) L.nodes,u (.inr (.inr rfl)) L.log,λn A=>u (.inl rfl) (L.fld n A),L.eq,L.gf,L.ff⟩
theorem AL.grow(L:AL V0 V gs ns ls nd st)(h:V.sub V'):AL V0 V' gs ns ls nd st:=L.move (L.sub.trans h) λc o u _ _=>h _ _ u
theorem AL.put(L:AL V0 V gs ns ls nd st){c:Nat}(H:Alien V c)(h0:V0 c=none)(o:Obj):AL V0 (V.set c o) gs ns ls nd st:=L.move (L.sub.set h0 o) λx J N _ u=>by
 grind[Mem.set_ne]
theorem AL.narrow{W:Mem}(L:AL W V gs ns ls nd st)(h:V0.sub W):AL V0 V gs ns ls nd st:=⟨L.glob.narrow h,L.nodes.narrow h,L.log.narrow h,λn u=>(L.fld n u).narrow h,L.eq,L.gf,L.ff⟩
theorem AL.poke(L:AL V0 V gs ns ls nd st){b:Nat}(u:V0 b≠none)(o:Obj):AL (V0.set b o) (V.set b o) gs ns ls nd st:=⟨Own.poke L.glob u o,Own.poke L.nodes u o,Own.poke L.log u o,λn H=>Own.poke (L.fld n H) u o,L.eq,L.gf,L.ff⟩
def Mine(p:Nat)(gs ns ls:Sl)(nd:List Nd)(c:Nat):Prop:=c=p∨Bl gs c∨Bl ns c∨Bl ls c∨∃n∈nd,Bl n.sl c
open Classical in
noncomputable def Mem.minus(V:Mem)(M:Nat->Prop):Mem:=λc=>if M c then none else V c
theorem KG{M:Nat->Prop}:(Mem.minus V M).sub V:=λc o h=>by
 grind[Mem.minus]
theorem Hq{M:Nat->Prop}{c:Nat}(h:¬M c):Mem.minus V M c=V c:=by grind[Mem.minus]
theorem KH{M:Nat->Prop}{c:Nat}(h:M c):Mem.minus V M c=none:=by grind[Mem.minus]
theorem AL.frame(L:AL V0 V gs ns ls nd st){p:Nat}(hk:∀c o,Mine p gs ns ls nd c->V c=some o->V' c=some o):AL (Mem.minus V' (Mine p gs ns ls nd)) V' gs ns ls nd st:=by
 have u:∀{e sz s vs},(∀c,Bl s c->Mine p gs ns ls nd c)->Sx.Own V0 V e sz s vs->Sx.Own (Mem.minus V' (Mine p gs ns ls nd)) V' e sz s vs:=λ{e sz s vs} hm h=>⟨KG,h.len,by
  rcases h.cases0 with h1|⟨H,g,cur,h1,h2,N,Z⟩;·exact .inl h1
  ·exact .inr ⟨g,cur,h1,KH (hm g ⟨H,h1⟩),hk _ _ (hm g ⟨H,h1⟩) N,Z⟩⟩
 exact⟨u (λ_ h=>.inr (.inl h)) L.glob,u (λ_ h=>.inr (.inr (.inl h))) L.nodes,u (λ_ h=>.inr (.inr (.inr (.inl h)))) L.log,λn J=>u (λ_ h=>.inr (.inr (.inr (.inr ⟨n,J,h⟩)))) (L.fld n J),L.eq,L.gf,L.ff⟩
theorem AL.mineV(L:AL V0 V gs ns ls nd st){p c:Nat}(hp:V p≠none)(h:Mine p gs ns ls nd c):V c≠none:=by
 have u:∀{e sz s vs},Sx.Own V0 V e sz s vs->Bl s c->V c≠none:=λ{e sz s vs} h H=>by
  grind[Own.some]
 rcases h with rfl|h|h|h|⟨n,o,h⟩;·exact hp
 ·exact u L.glob h
 ·exact u L.nodes h
 ·exact u L.log h
 ·exact u (L.fld n o) h
theorem AL.mine0(L:AL V0 V gs ns ls nd st){p c:Nat}(hp:V0 p=none)(h:Mine p gs ns ls nd c):V0 c=none:=by
 rcases h with rfl|h|h|h|⟨n,u,h⟩;·exact hp
 ·exact Own.none0 L.glob h
 ·exact Own.none0 L.nodes h
 ·exact Own.none0 L.log h
 ·exact Own.none0 (L.fld n u) h
theorem AL.len(L:AL V0 V gs ns ls nd st):nd.length=st.ns.length:=by rw[<-L.eq,vX]
theorem AL.at_(L:AL V0 V gs ns ls nd st){i:Nat}{x:Int×List Int}(h:st.ns[i]?=some x):∃sl,nd[i]?=some ⟨x.1,sl,x.2⟩:=by
 rw[<-L.eq,y5]at h;cases u:nd[i]? with
 |none=>simp_all
 |some n=>rw[u]at h;cases h;grind
theorem AL.setG(L:AL V0 V gs ns ls nd st){i:Nat}(hi:i<st.g.length){v:Int}{q:Mem->Prop}(Z:∀V',AL V0 V' gs ns ls nd {st with g:=st.g.set i v}->(∀c,¬Bl gs c->V' c=V c)->q V'):As (Aa gs.p (i*1)) 0 [.int .i64 v] V q:=by
 rw[Nat.mul_one];refine Own.storec L.glob (by rw[Ea,vX];exact hi) λV' H hk=>Z V' ⟨?_,?_,?_,λn N=>?_,L.eq,L.gf,L.ff⟩ hk;·grind[AE,Ea,vy]
 ·exact Own.moveB L.nodes H.sub λg u J o=>by rw[hk g (L.glob.apart λc=>by simp_all)];exact o
 ·exact Own.moveB L.log H.sub λg u J o=>by rw[hk g (L.glob.apart λc=>by simp_all)];exact o
 ·exact Own.moveB (L.fld n N) H.sub λg u J o=>by rw[hk g (L.gf n N g J)];exact o
theorem AL.setF(L:AL V0 V gs ns ls nd st){k i:Nat}{n:Nd}(Z:nd[k]?=some n)(hi:i<n.f.length){v:Int}{q:Mem->Prop}
  (R:∀V',AL V0 V' gs ns ls (nd.set k {n with f:=n.f.set i v}) {st with ns:=st.ns.set k (n.ty,n.f.set i v)}->(∀c,¬Bl n.sl c->V' c=V c)->q V'):As (Aa n.sl.p (i*1)) 0 [.int .i64 v] V q:=by
 rw[Nat.mul_one];have hm:=xM Z;have X:=(yv.1 Z).1;refine Own.storec (L.fld n hm) (by rw[Ea,vX];exact hi) λV' Y hk=>R V' ⟨?_,?_,?_,λn' o=>?_,?_,λn' o c M=>?_,λB C a b c D H O A=>?_⟩ hk;·exact Own.moveB L.glob Y.sub λg J H N=>by rw[hk g λh=>L.gf n hm g h H];exact N
 ·have:(nd.set k {n with f:=n.f.set i v}).flatMap Nd.row=nd.flatMap Nd.row:=by
   have:(nd.set k {n with f:=n.f.set i v}).map Nd.row=nd.map Nd.row:=by
    rw[vy];refine zx λm=>?_;rw[vw];split
    ·rename_i e;subst e;rw[y5,Z,if_pos (by simp_all)];rfl
    ·rfl
   grind
  rw[this];exact Own.moveB L.nodes Y.sub λg J H N=>by rw[hk g ((L.fld n hm).apart λc=>by simp_all)];exact N
 ·exact Own.moveB L.log Y.sub λg J H N=>by rw[hk g ((L.fld n hm).apart λc=>by simp_all)];exact N
 ·obtain⟨m,u⟩:=vV.1 o;rw[vw]at u;split at u;·grind[AE,Ea,vy]
  ·rename_i I;exact Own.moveB (L.fld n' (xM u)) Y.sub λg J H N=>by rw[hk g λh=>I (L.ff k m n n' g Z u h H)];exact N
 ·rw[<-L.eq,vy]
 ·rcases vx o with h|rfl;·exact L.gf n' h c M
  ·exact L.gf n hm c M
 ·have get:∀{m:Nat}{x:Nd},(nd.set k {n with f:=n.f.set i v})[m]?=some x->∃y,nd[m]?=some y/\y.sl=x.sl:=λ{m x} U=>by
   grind
  obtain⟨y,E,K⟩:=get D;obtain⟨z,S,T⟩:=get H;exact L.ff B C y z c E S (K▸O) (T▸A)
theorem AL.note(L:AL V0 V gs ns ls nd st){a:Int×Int×Int}{ty Z:Nat}{x y:Operand}{vals:Operand->Value}{q:Value->Mem->Prop}(O:V Z=none)(M:vals x=.slice ls.p ls.n ls.c)(R:vals y=.slice (sa Z) 1 1)(H:st.lg.length+1<=2147483648)
  (X:∀s' V',AL V0 V' gs ns s' nd (st.note a)->(∀c o,V c=some o->¬Bl ls c->V' c=some o)->q (.slice s'.p s'.n s'.c) V'):
  GenK xG (.call {callee:=.builtin .append,args:=#[x,y],argTypes:=#[87,87]}) ty vals (V.set Z (.cells (Hp a).toArray 201 (0,0))) q:=by
 refine app87 (s:=ls) (u:=⟨some ⟨Z,0,none⟩,1,1⟩) (xs:=st.lg) (ys:=[a]) M R (L.log.but.new O _) (Ad.cells (xs:=[a]) (row:=Hp) Ao (by simp) (λ_=>rfl) rfl (by simp)) (by simpa using H) λs' V' A=>?_;have hk:∀c o,V c=some o->¬Bl ls c->V' c=some o:=λc o B Y=>A.sub _ _ (Mem.but_at B Y);have I:V0.sub V':=L.log.sub_but.trans A.sub;refine X s' V' ⟨?_,?_,A.narrow L.log.sub_but,λn C=>?_,L.eq,L.gf,L.ff⟩ hk;·exact Own.moveB L.glob I λg J Y N=>hk _ _ N (L.log.apart λc=>by simp_all)
 ·exact Own.moveB L.nodes I λg J Y N=>hk _ _ N (L.log.apart λc=>by simp_all)
 ·exact Own.moveB (L.fld n C) I λg J Y N=>hk _ _ N (L.log.apart λc=>by simp_all)
theorem AL.new(L:AL V0 V gs ns ls nd st){n:Nd}{V1:Mem}(H:Sx.Own V V1 3 1 n.sl (n.f.flatMap AE))
  {ty M:Nat} {x y:Operand} {vals:Operand->Value} {q:Value->Mem->Prop} (X:V1 M=none) (K:vals x=.slice ns.p ns.n ns.c) (S:vals y=.slice (sa M) 1 1) (A:nd.length+1<=2147483648)
  (T:∀s' V',AL V0 V' gs s' ls (nd++[n]) {st with ns:=st.ns++[(n.ty,n.f)]}->(∀c o,V1 c=some o->¬Bl ns c->V' c=some o)->q (.slice s'.p s'.n s'.c) V'):
  GenK xG (.call {callee:=.builtin .append,args:=#[x,y],argTypes:=#[32,32]}) ty vals (V1.set M (.cells n.row.toArray 130 (0,0))) q:=by
 have U:V.sub V1:=H.sub;have N:=L.grow U;refine app32 (s:=ns) (u:=⟨some ⟨M,0,none⟩,1,1⟩) (xs:=nd) (ys:=[n]) K S (N.nodes.but.new X _) (Ad.cells (xs:=[n]) (row:=Nd.row) Ao (by simp) (λ_=>rfl) rfl (by simp)) (by simpa using A) λs' V' B=>?_;have hk:∀c o,V1 c=some o->¬Bl ns c->V' c=some o:=λc o Y O=>B.sub _ _ (Mem.but_at Y O);have R:V0.sub V':=N.nodes.sub_but.trans B.sub;have hn0:∀c,Bl n.sl c->V c=none:=λc Y=>Own.none0 H Y;refine T s' V' ⟨?_,B.narrow N.nodes.sub_but,?_,λm hm=>?_,by rw[List.map_append,L.eq];rfl,λm hm c Y=>?_,λi j a b c E O C D=>?_⟩ hk;·exact Own.moveB N.glob R λg J O Z=>hk _ _ Z (N.nodes.apart λc=>by simp_all)
 ·exact Own.moveB N.log R λg J O Z=>hk _ _ Z (N.nodes.apart λc=>by simp_all)
 ·rcases vz.1 hm with hm|hm;·exact Own.moveB (N.fld m hm) R λg J O Z=>hk _ _ Z (N.nodes.apart λc=>by simp_all)
  ·rw[zO.1 hm];exact Own.moveB (H.narrow L.sub) R λg J O Z=>hk _ _ Z (N.nodes.apart λc=>by simp_all)
 ·rcases vz.1 hm with hm|hm;·exact L.gf m hm c Y
  ·rw[zO.1 hm]at Y;intro Z;obtain⟨J,I⟩:=Own.some L.glob Z;simp_all
 ·have old:∀{m:Nd},m∈nd->Bl m.sl c->¬Bl n.sl c:=λhm Y hc'=>by
   obtain⟨J,I⟩:=Own.some (L.fld _ hm) Y;simp_all
  by_cases h1:i<nd.length<;>by_cases h2:j<nd.length
  ·rw[vZ h1]at E;rw[vZ h2]at O;exact L.ff i j a b c E O C D
  ·grind
  ·grind
  grind
end
end Go.Proofs
namespace Go.Sx
open Go
section
variable{P:Program}{V0 V:Mem}{t e ty tc:TypeId}{i:TypeInfo}{z:Value}{sz:Nat}{k:IntKind}
theorem Aq.made{V:Mem}{w:World}(hw:V.le w)(o:Obj):V w.heap.size=none/\Aq V w (V.set w.heap.size o) (w.alloc o):=by
 have J:V w.heap.size=none:=by
  cases h:V w.heap.size with
  |none=>rfl
  |some x=>
   have:=(yA.1 (hw _ _ h)).1;omega
 refine⟨J,⟨by simp,λb x u=>?_,λb u _=>(by grind[heap_alloc_old]),λb u=>?_,rfl,rfl⟩⟩
 ·unfold Mem.set at u;split at u;·grind[heap_alloc_new]
  ·have H:=(yA.1 (hw _ _ u)).1;first|exact(heap_alloc_old w o b H).trans (hw _ _ u)|exact(heap_alloc_old w o H).trans (hw _ _ u)
 grind[Mem.set,inr]
theorem GenK.make(H:P.underlying t=some (.slice e))(hi:P.info? e=some i)(J:i.zero=some z)(u:i.size=sz)(o:i.bytes<=65536){x y:Operand}{vals:Operand->Value}{n:Nat}(Y:vals x=.int .i64 n)(O:vals y=.int .i64 n)(N:n<=2147483648){q:Value->Mem->Prop}
  (A:∀g,V g=none->q (.slice (some ⟨g,0,none⟩) n n) (V.set g (.cells (madeCells z.cells (n*sz)) e (0,0)))):GenK P (.makeSlice t x y) ty vals V q:=by
 intro w hw;subst u;have Z:(i.bytes:Int)*(n:Int)<=281474976710656:=by
  have:i.bytes*n<=65536*2147483648:=Nat.mul_le_mul o N;omega
 have I:=run_make (P:=P) w t e i z H hi J .i64 .i64 n n (by omega) (Int.le_refl _) Z (by omega);grind[xh,Aq.made,madeCells,execOp,Sem.run_bind,Sem.run_pure,zL]
theorem zeros_one(o:z.cells.size=sz)(h1:∀u∈z.cells.toList,u.oneCell'=true)(n:Nat)(h0:0<sz):∀u∈(xA z.cells n).toList,u.oneCell'=true:=λu hu=>by
 unfold xA at hu;simp only[Array.toList_map,List.mem_map]at hu;obtain⟨j,-,rfl⟩:=hu;grind[Nat.mod_lt]
theorem Pj{w:World}(A:P.underlying t=some (.slice e))(I:P.underlying tc=some (.int k))(hi:P.info? e=some i)(M:i.zero=some z)(h0:0<i.size)(Z:z.cells.size=i.size)(h1:∀u∈z.cells.toList,u.oneCell'=true)
  (g o H:Nat) (J:Array Value) (L:w.heap[g]?=some (.cells J e (0,0))) (n:Nat) (R:0<n) (E:n*i.bytes<=281474976710656) (X:n<=2147483648) (N:o+n<=H) (O:o*i.size+n*i.size<=J.size):
  (y8 #[t,tc] ty #[.slice (some ⟨g,0,none⟩) o H,.int .i64 n]).run P w=
   .ok (.slice (some ⟨g,0,none⟩) (o+n) H) (w.setRow g (J.toList.take (o*i.size)++(xA z.cells n).toList++J.toList.drop (o*i.size+(xA z.cells n).toList.length)).toArray):=by
 have K:(xA z.cells n).toList.length=n*i.size:=by rw[vu,size_zeroCells,Z]
 have Y:=run_storeCells_at P g (o*i.size) e (xA z.cells n).toList 0 J w L (by omega) (zeros_one Z h1 n h0);simp only[Nat.add_zero]at Y;have B:yr.wrap (n:Int)=n:=by rw[vt];omega
 have C:¬((n:Int)<0):=by omega
 have D:¬(281474976710656<(n:Int)*(i.bytes:Int)):=by
  omega
 have S:¬(n*i.size=0):=Nat.ne_of_gt (Nat.mul_pos R h0);simp[y8,run_underlying A,run_underlying I,asInt,asIntOf,sizeOf,typeInfo,hi,zeroValue,M,B,C,D,N,Addr.add_lit,Y];omega
theorem Mz{w:World}(O:P.underlying t=some (.slice e))(A:P.underlying tc=some (.int k))(hi:P.info? e=some i)(I:i.zero=some z)(h0:0<i.size)(base:Option Addr)(u o:Nat)(H:List Value)
  (hold:(xC i.size u (.slice base u o)).run P w.drew=.ok H.toArray w.drew) (n:Nat) (C:0<n) (D:n*i.bytes<=281474976710656) (M:n<=2147483648)
  (E:o<u+n) (L:((u+n:Nat):Int)<=9223372036854775807) (Y:vq (u+n) o*i.bytes<=281474976710656):
  (y8 #[t,tc] ty #[.slice base u o,.int .i64 n]).run P w=
   .ok (.slice (some ⟨w.heap.size,0,none⟩) (u+n) (grownCap w (u+n) o e))
    (w.drew.alloc (.cells (H.toArray++xA z.cells n++xA z.cells (grownCap w (u+n) o e-(u+n))) e)):=by
 have Z:¬(u+n<=o):=by omega
 have J:¬(9223372036854775807<((u:Int)+(n:Int))):=by omega
 have N:¬(281474976710656<vq (u+n) o*i.bytes):=by omega
 have R:yr.wrap (n:Int)=n:=by rw[vt];omega
 have X:¬((n:Int)<0):=by omega
 have B:¬(281474976710656<(n:Int)*(i.bytes:Int)):=by
  omega
 simp[y8,run_underlying O,run_underlying A,asInt,asIntOf,sizeOf,typeInfo,zeroValue,hi,I,R,X,B,Z,J,N,Question.forced,hold,newRow,grownCap];simp_all[absurd,Nat.ne_of_gt,Nat.mul_pos]
theorem GenK.appendZ(E:P.underlying t=some (.slice e))(K:P.underlying tc=some (.int k))(hi:P.info? e=some i)(hz:i.zero=some z)(O:i.size=sz)(A:z.cells.size=sz)(S:0<sz)(T:i.bytes<=65536)(h1:∀u∈z.cells.toList,u.oneCell'=true)
  {x y:Operand} {vals:Operand->Value} {s:Sl} {n:Nat} {vs:List Value} (hx:vals x=.slice s.p s.n s.c) (hy:vals y=.int .i64 n) (own:Own V0 V e sz s vs) (L:s.n+n<=2147483648) {q:Value->Mem->Prop}
  (hq:∀s' V',Own V0 V' e sz s' (vs++(xA z.cells n).toList)->q (.slice s'.p s'.n s'.c) V'):
  GenK P (.call {callee:=.builtin .append,args:=#[x,y],argTypes:=#[t,tc]}) ty vals V q:=by
 intro w hw;subst O;have J:(s.n+n)*i.bytes<=140737488355328:=vW (Nat.mul_le_mul L T) (by decide);have U:n*i.bytes<=281474976710656:=by
  grind
 have hl:(xA z.cells n).toList.length=n*i.size:=by rw[vu,size_zeroCells,A]
 have N:∀(s':Sl)(V':Mem)(w':World),(y8 #[t,tc] ty #[.slice s.p s.n s.c,.int .i64 n]).run P w=.ok (.slice s'.p s'.n s'.c) w'->Aq V w V' w'->Own V0 V' e i.size s' (vs++(xA z.cells n).toList)->
   ∃v w' V',(execOp vals {dst:=none,op:=.call {callee:=.builtin .append,args:=#[x,y],argTypes:=#[t,tc]},type:=ty,pos:= "",after:=#[],guard:=none}).run P w=.ok (.value v) w'/\Aq V w V' w'/\q v V':=by
  intro s' V' w' R hf ho;refine⟨_,w',V',?_,hf,hq s' V' ho⟩;unfold execOp;simp only[resolve,invoke,builtin,Sem.run_bind,Sem.run_pure,zL,List.map_toArray,zG,List.map_nil,hx,hy,R]
 by_cases X:n=0
 ·subst X;have hz0:(xA z.cells 0).toList=[]:=y4 (by rw[hl];simp);rw[hz0,vL]at N;have Z:s.n<=s.c:=by
   rcases own.at_ with⟨a,b,-⟩|⟨g,cur,-,-,-,h,-⟩;·omega
   ·exact h
  refine N s V w ?_ (Aq.refl hw) own;have wl:yr.wrap 0=0:=by rfl
  cases s.p with
  |none=>simp[y8,run_underlying E,run_underlying K,asInt,asIntOf,sizeOf,typeInfo,hi,wl,Z]
  |some a=>simp[y8,run_underlying E,run_underlying K,asInt,asIntOf,sizeOf,typeInfo,hi,wl,Z,storeCells]
 have hn:0<n:=Nat.pos_of_ne_zero X;have Y:(vs++(xA z.cells n).toList).length=(s.n+n)*i.size:=by rw[zw,own.len,hl,ya]
 have H:∀old,old<s.n+n->(y8 #[t,tc] ty #[.slice s.p s.n s.c,.int .i64 n]).run P w=
   .ok (.slice (some ⟨w.heap.size,0,none⟩) (s.n+n) (grownCap w (s.n+n) old e)) (w.drew.alloc (.cells (vs.toArray++xA z.cells n++xA z.cells (grownCap w (s.n+n) old e-(s.n+n))) e))->
   ∃v w' V',(execOp vals {dst:=none,op:=.call {callee:=.builtin .append,args:=#[x,y],argTypes:=#[t,tc]},type:=ty,pos:= "",after:=#[],guard:=none}).run P w=.ok (.value v) w'/\Aq V w V' w'/\q v V':=by
  intro old ho R;obtain⟨I,hf⟩:=Aq.new hw (.cells (vs.toArray++xA z.cells n++xA z.cells (grownCap w (s.n+n) old e-(s.n+n))) e);have hge:=grownCap_ge w (s.n+n) old e;refine N ⟨_,_,_⟩ _ _ R hf ⟨Mem.sub.new own.sub I _,Y,.inr ⟨w.heap.size,_,rfl,?_,Mem.set_same _ _ _,hge,grownCap_le_maxLen w _ old e (by simp only[maxLen];omega),?_,?_⟩⟩
  ·cases h0:V0 w.heap.size with
   |none=>rfl
   |some x=>rw[own.sub _ _ h0]at I;cases I
  ·simp only[Array.size_append,List.size_toArray,size_zeroCells,A,own.len,<-ya];congr 1;show _=grownCap w (s.n+n) old e;omega
  grind
 have hfitN:∀old,old<s.n+n->vq (s.n+n) old*i.bytes<=281474976710656:=λold ho=>growslice_fits (by omega) J;rcases own.at_ with⟨hs,hs',hv⟩|⟨g,cur,hp,hg,hV,Z,B,hcs,M⟩
 ·subst hv;refine H s.c (by omega) ?_;have hold:(xC i.size s.n (.slice s.p s.n s.c)).run P w.drew=.ok ([]:List Value).toArray w.drew:=by
   rw[hs];cases s.p with
   |none=>rfl
   |some a=>simp[xC,loadCells,loadCellsFrom]
  grind[Mz]
 ·by_cases o:s.n+n<=s.c
  ·have C:w.heap[g]?=some (.cells cur e (0,0)):=hw _ _ hV;have hle:(s.n+n)*i.size<=s.c*i.size:=y6 _ o;have hmul:(s.n+n)*i.size=s.n*i.size+n*i.size:=ya _ _ _;have R:=Pj (P:=P) (ty:=ty) E K hi hz S A h1 g s.n s.c cur C n hn U (by omega) o (by omega);refine N ⟨some ⟨g,0,none⟩,s.n+n,s.c⟩ _ _ (by rw[hp];exact R) (Aq.row hw hV) ⟨own.sub.set hg _,Y,.inr ⟨g,_,rfl,hg,Mem.set_same _ _ _,o,B,?_,?_⟩⟩;·grind
   grind
  ·refine H s.c (by omega) ?_;have D:w.ownsRow 0 e i.size (.slice s.p s.n s.c) s.n vs:=⟨own.len,.inr ⟨g,s.c,cur,by rw[hp],Nat.zero_le _,hw _ _ hV,Z,B,hcs,M⟩⟩;have holds:∀j u,vs[j]?=some u->w.cell? ((⟨g,0,none⟩:Addr).add j)=some u:=D.cells (g:=g) (by rw[hp];rfl);have hold:=run_firstCells_some (P:=P) w.drew i.size s.n ⟨g,0,none⟩ s.n s.c vs own.len (by simpa using holds);grind[Mz,xC]
end
theorem Pk(n:Nat):(xA (vF .i64 0).cells n).toList=yJ n (vF .i64 0):=by
 have u:(vF .i64 0).cells=#[vF .i64 0]:=by rfl
 rw[u];unfold xA;refine zx λj=>?_;grind
theorem Pl(n:Nat):(madeCells (vF .i64 0).cells n).toList=yJ n (vF .i64 0):=by
 have u:(vF .i64 0).cells=#[vF .i64 0]:=by rfl
 rw[u];unfold madeCells;refine zx λj=>?_;grind
end Go.Sx
namespace Go.Proofs
open Go Go.Sx
attribute [local irreducible] Go.Sx.Tri
def NT(ty:Nat):Prop:=ty≠3/\ty≠130/\ty≠201
structure MA (ty:Nat)(V0:Mem)(p:Nat)(row:Sl->Sl->Sl->List Value)(V:Mem)(s:St):Prop where
 p0:V0 p=none
 ex:∃gs ns ls nd,V p=some (.cells (row gs ns ls).toArray ty (0,0))/\AL V0 V gs ns ls nd s
section
variable{ty:Nat}{V0 V V' W:Mem}{p:Nat}{row row':Sl->Sl->Sl->List Value}{s s':St}{gs ns ls:Sl}{nd:List Nd}
theorem Jk{x:Array Value}(h:V p=some (.cells x ty (0,0)))(u:NT ty):Alien V p:=λH t J o=>by
 rw[h]at o;simp only[Option.some.injEq,Obj.cells.injEq]at o;obtain⟨-,o,-⟩:=o;rcases J with rfl|rfl|rfl;·exact u.1 o
 ·exact u.2.1 o
 ·exact u.2.2 o
theorem notBlk{x:Array Value}(h:V p=some (.cells x ty (0,0)))(u:NT ty){e:TypeId}{sz:Nat}{sl:Sl}{vs:List Value}(H:Sx.Own V0 V e sz sl vs)(J:e=3∨e=130∨e=201):¬Bl sl p:=H.apart λo N=>Jk h u o e J N
theorem AL.same(L:AL V0 V gs ns ls nd s)(h1:s'.g=s.g)(h2:s'.ns=s.ns)(u:s'.lg=s.lg):AL V0 V gs ns ls nd s':=⟨by rw[h1];exact L.glob,L.nodes,by rw[u];exact L.log,L.fld,by rw[h2];exact L.eq,L.gf,L.ff⟩
theorem MA.sub(h:MA ty V0 p row V s):V0.sub V:=by
 obtain⟨_,_,_,_,_,L⟩:=h.ex;exact L.sub
theorem MA.narrow(h:MA ty W p row V s)(H:V0.sub W):MA ty V0 p row V s:=by
 obtain⟨gs,ns,ls,nd,u,L⟩:=h.ex;refine⟨?_,gs,ns,ls,nd,u,L.narrow H⟩;cases J:V0 p with
 |none=>rfl
 |some o=>have:=H _ _ J;rw[h.p0]at this;cases this
theorem MA.set(u:NT ty)(p0:V0 p=none){x:Array Value}(o:V p=some (.cells x ty (0,0)))(L:AL V0 V gs ns ls nd s){c:Array Value}(H:c=(row' gs ns ls).toArray)(h1:s'.g=s.g)(h2:s'.ns=s.ns)(J:s'.lg=s.lg):MA ty V0 p row' (V.set p (.cells c ty (0,0))) s':=
 ⟨p0,gs,ns,ls,nd,by rw[Mem.set_same,H],(L.put (Jk o u) p0 _).same h1 h2 J⟩
theorem MA.frame(h:MA ty V0 p row V s):∃M:Nat->Prop,(∀b,M b->V b≠none/\V0 b=none)/\∀V',(∀b o,M b->V b=some o->V' b=some o)->MA ty (Mem.minus V' M) p row V' s:=by
 obtain⟨gs,ns,ls,nd,u,L⟩:=h.ex;refine⟨Mine p gs ns ls nd,λb H=>⟨L.mineV (by rw[u];simp) H,L.mine0 h.p0 H⟩,λV' hk=>⟨KH (.inl rfl),gs,ns,ls,nd,hk _ _ (.inl rfl) u,L.frame hk⟩⟩
theorem MA.after(h:MA ty V0 p row V s)(H:V.sub V'):∃W,V0.sub W/\W.sub V'/\MA ty W p row V' s/\∀b o,V b=none->V' b=some o->W b=some o:=by
 obtain⟨M,h1,h2⟩:=h.frame;refine⟨Mem.minus V' M,λb o u=>?_,KG,h2 V' λb o _ u=>H _ _ u,λb o u J=>?_⟩;·rw[Hq λhm=>by simp_all];exact H _ _ (h.sub _ _ u)
 grind[Hq]
theorem MA.beside(h:MA ty W p row V s){e:TypeId}{sz:Nat}{sl J:Sl}{vs N:List Value}(Z:V0.sub W)(I:Sx.Own V0 W e sz sl vs)(u:Sx.Own (V.but sl) V' e sz J N):∃Y,V0.sub Y/\MA ty Y p row V' s/\Sx.Own V0 Y e sz J N:=by
 obtain⟨M,h1,h2⟩:=h.frame;have nb:∀b,M b->¬Bl sl b:=λb hm H=>by
  grind[Own.some]
 have keep:∀b o,V b=some o->¬Bl sl b->V' b=some o:=λb o H L=>u.sub _ _ (Mem.but_at H L);have R:∀b,M b->¬Bl J b:=λb hm H=>by
  have h0:=Own.none0 u H;cases O:V b with
  |none=>simp_all
  |some o=>grind[Mem.but_at]
 have A:V0.sub (Mem.minus V' M):=λb o H=>by
  have hw:=Z _ _ H;rw[Hq λhm=>by simp_all];exact keep _ _ (h.sub _ _ hw) λX=>by grind[Own.none0]
 refine⟨Mem.minus V' M,A,h2 V' λb o hm H=>keep b o H (nb b hm),A,u.len,?_⟩;rcases u.cases0 with B|⟨O,g,cur,a,b,c,dd⟩;·exact .inl B
 ·refine .inr ⟨g,cur,a,?_,?_,dd⟩
  ·cases h0:V0 g with
   |none=>rfl
   |some o=>
    have hw:=h.sub _ _ (Z _ _ h0);rw[Mem.but_at hw (I.apart0 h0)]at b;cases b
  ·rw[Hq λhm=>R g hm ⟨O,a⟩];exact c
end
theorem c120{V:Mem}{l:Sl}{xs:List Int}(h:Ad V l 1 (xs.map AE))(J:xs.length<=2147483648):Tri xG 120 #[l.v] V λe V'=>∃s:Sl,e=.returned (.slice s.p s.n s.c)/\Sx.Own V V' 3 1 s (xs.flatMap AE):=by
 refine x120 ?_;refine⟨λh0=>⟨⟨none,0,0⟩,rfl,?_⟩,λh0 N o=>?_⟩
 ·have:xs=[]:=by
   cases xs with
   |nil=>rfl
   |cons a Y=>
    have:=h.base (i:=0) (by simp);simp_all
  grind[Own.nil,Mem.sub.refl]
 ·have H:=Mem.sub_new o (.cells #[] 3 (0,0));exact app31 (s:=⟨some ⟨N,0,none⟩,0,0⟩) (u:=l) (xs:=[]) (ys:=xs) rfl rfl (Own.empty (V0:=V) H _ _ _) (h.sub H) (by simpa using J) λs' V' Z=>⟨s',rfl,s',rfl,by simpa using Z⟩
def fltE(e:Int):Ending:=.panicked [{v:=.iface 198 (.agg #[.int .i64 e]),recovered:=false}]
theorem GenK.panE{ty:Nat}{vals:Operand->Value}{V:Mem}{x:Operand}{e:Int}(u:vals x=.agg #[.int .i64 e]){R:Ending->Mem->Prop}(h:R (fltE e) V):
  GenK xG (.makeInterface 198 x) ty vals V λy V1=>∃v,K.r.ok v/\y=v/\∃t x,K.cast .r v=.iface t x/\R (.panicked [{v:=.iface t x,recovered:=false}]) V1:=
 GenK.iface Tryz.underlying198 u ⟨.iface 198 (.agg #[.int .i64 e]),(rfl:K.cast .r (.iface 198 (.agg #[.int .i64 e]))=_),rfl,_,_,rfl,h⟩
def AH(d:Ds)(F tk c cm:Int)(gs ns ls:Sl):List Value:=[Go.Sx.vS d.name,d.ts.v,d.gs.v,d.ps.v,d.ms.v,d.is.v,d.qs.v,d.bs.v,gs.v,ns.v,.int .i64 F,.int .i64 tk,.int .i64 c,.int .i64 cm,ls.v]
abbrev EM(V0:Mem)(d:Ds)(p F:Nat)(V:Mem)(s:St)(c:Nat):Prop:=MA 89 V0 p (AH d F s.tk c s.cm) V s
theorem Fb:NT 89:=by unfold NT;decide
structure ES (V0:Mem)(d:Ds)(F:Nat):Prop where
 ds:Ds.Ok V0 d
 valid:A7 d=true
 procs:∀p∈d.procs,DG d p
 fuel:F<=4000
theorem ES.sub{V0 W:Mem}{d:Ds}{F:Nat}(h:ES V0 d F)(u:V0.sub W):ES W d F:=⟨h.ds.sub u,h.valid,h.procs,h.fuel⟩
def PX(V0:Mem)(d:Ds)(p F c:Nat)(r:Rx Int):Ending->Mem->Prop:=λe V'=>match r with
 |.ok v s=>e=.returned (.int .i64 v)/\EM V0 d p F V' s c
 |.bad k s=>e=fltE k/\∃u,EM V0 d p F V' s u
def PB(r:Rs)(V:Mem):Ending->Mem->Prop:=λe V'=>V'=V/\e=match r with|.ok v=>.returned (.int .i64 v)|.bad k=>fltE k
section
variable{V0 V V1:Mem}{d:Ds}{p F c:Nat}{s:St}
theorem c168{k:Int}{a:Option Addr}:Tri xG 168 #[.pointer a,.int .i64 k] V λe V'=>e=fltE k/\V'=V:=by
 refine x168 ?_;exact GenK.panE (e:=k) (R:=λe V'=>e=fltE k/\V'=V) rfl ⟨rfl,rfl⟩
theorem Fc{k:Int}{a:Option Addr}{K:Mem->Prop}{R:Ending->Mem->Prop}(h:R (fltE k) V):Tri xG 168 #[.pointer a,.int .i64 k] V λe V'=>(e=.returned (.tuple #[])/\K V')∨∃u,e=.panicked u/\R e V':=
 Tri.mono c168 λ_ _ ⟨o,H⟩=>.inr ⟨_,o,by simp_all⟩
theorem PX.split{f:FuncId}{args:Array Value}{r:Rx Int}{K:Int->Mem->Prop}{R:Ending->Mem->Prop}(H:Tri xG f args V (PX V0 d p F c r))(o:∀k s u V',r=.bad k s->EM V0 d p F V' s u->R (fltE k) V')(J:∀v s V',r=.ok v s->EM V0 d p F V' s c->K v V'):
  Tri xG f args V λe V'=>(∃v,e=.returned (.int .i64 v)/\K v V')∨∃N,e=.panicked N/\R e V':=
 Tri.mono H λe V' h=>by
  cases r with
  |ok v s=>exact .inl ⟨v,h.1,J v s V' rfl h.2⟩
  |bad k s=>
   obtain⟨Z,u,hm⟩:=h;subst Z;exact .inr ⟨_,rfl,o k s u V' rfl hm⟩
theorem PB.split{f:FuncId}{args:Array Value}{r:Rs}{K:Int->Mem->Prop}{R:Ending->Mem->Prop}(H:Tri xG f args V (PB r V))(u:∀k,r=.bad k->R (fltE k) V)(Z:∀v,r=.ok v->K v V):
  Tri xG f args V λe V'=>(∃v,e=.returned (.int .i64 v)/\K v V')∨∃o,e=.panicked o/\R e V':=
 Tri.mono H λe V' ⟨J,N⟩=>by
  subst J;cases r with
  |ok v=>simp_all
  |bad k=>subst N;exact .inr ⟨_,rfl,u k rfl⟩
theorem PX.bind{f:FuncId}{args:Array Value}{G r:Rx Int}{h:Int->St->Rx Int}{K:Int->Mem->Prop}(u:G=r.bind h)(H:Tri xG f args V (PX V0 d p F c r))(o:∀v s V',r=.ok v s->EM V0 d p F V' s c->G=h v s->K v V'):
  Tri xG f args V λe V'=>(∃v,e=.returned (.int .i64 v)/\K v V')∨∃J,e=.panicked J/\PX V0 d p F c G e V':=
 PX.split H (λk s N V' e hm=>by subst e;rw[u];exact⟨rfl,N,hm⟩) λv s V' e hm=>o v s V' e hm (by rw[u,e];rfl)
theorem PX.ok{G:Rx Int}{v:Int}(u:G=.ok v s)(M:EM V0 d p F V s c):PX V0 d p F c G (.returned (.int .i64 v)) V:=by rw[u];exact⟨rfl,M⟩
theorem PX.bad{G:Rx Int}{k:Int}(u:G=.bad k s)(M:EM V0 d p F V s c):PX V0 d p F c G (fltE k) V:=by rw[u];exact⟨rfl,c,M⟩
theorem PX.last{f:FuncId}{args:Array Value}{G r:Rx Int}(u:G=r)(H:Tri xG f args V (PX V0 d p F c r)):
  Tri xG f args V λe V'=>(∃v,e=.returned (.int .i64 v)/\PX V0 d p F c G (.returned (.int .i64 v)) V')∨∃o,e=.panicked o/\PX V0 d p F c G e V':=by
 subst u;exact PX.split H (λk s J V' e hm=>by rw[e];exact⟨rfl,J,hm⟩) λv s V' e hm=>by rw[e];exact⟨rfl,hm⟩
theorem PB.last{f:FuncId}{args:Array Value}{G:Rx Int}{r:Rs}(u:G=FB r s)(M:EM V0 d p F V s c)(H:Tri xG f args V (PB r V)):
  Tri xG f args V λe V'=>(∃v,e=.returned (.int .i64 v)/\PX V0 d p F c G (.returned (.int .i64 v)) V')∨∃o,e=.panicked o/\PX V0 d p F c G e V':=
 PB.split H (λk e=>PX.bad (by rw[u,e];rfl) M) λv e=>PX.ok (by rw[u,e];rfl) M
theorem c292{b t:Nat}{s:KB}(u:V b=some (cell (.string s) t)){x:Fld}:PP 292 [x.v,pv b] V (.bool (decide (x.name=s))):=by
 refine x292 ?_;exact⟨_,Ax u,rfl,rfl⟩
theorem c226:Hh 226 Ty.row Ty.v 2:=HX g226
theorem Pm:Hh 90 Pr.row Pr.v 5:=HX LC
theorem c267{l:Sl}{xs:List Fld}(h:Ad V l 2 (xs.map Fld.row)){s:KB}:PP 267 [l.v,.string s] V (.int .i64 (BL xs s)):=by
 refine A1.mk (x267 ?_);intro b o;have u:=Mem.sub_new o (cell (.string s) 9);exact(Kp (first:=[]) (caps:=[pv b]) (h.sub u) Tryz.call292 (λt=>decide (t.name=s)) (λx _=>c292 Ao)).call ⟨_,rfl,rfl,u⟩
theorem c218{b t:Nat}{s:KB}(u:V b=some (cell (.string s) t)){x:Pr}:PP 218 [x.v,pv b] V (.bool (decide (x.name=s))):=by
 refine x218 ?_;exact⟨_,Ax u,rfl,rfl⟩
theorem c166(h:Ds.Ok V d){s:KB}:PP 166 [d.v,.string s] V (.int .i64 (BR d s)):=by
 refine A1.mk (x166 ?_);intro b o;have u:=Mem.sub_new o (cell (.string s) 9);exact(Pm (first:=[]) (caps:=[pv b]) (h.procs.sub u) Tryz.call218 (λt=>decide (t.name=s)) (λx _=>c218 Ao)).call ⟨_,rfl,rfl,u⟩
theorem c300{b t:Nat}{s:KB}(u:V b=some (cell (.string s) t)){x:Ty}:PP 300 [x.v,pv b] V (.bool (decide (x.name=s))):=by
 refine x300 ?_;exact⟨_,Ax u,rfl,rfl⟩
theorem c287(S:ES V0 d F)(h:EM V0 d p F V s c){nm:KB}:PP 287 [pv p,.string nm] V (.int .i64 (Bt d nm)):=by
 obtain⟨gs,ns,ls,nd,u,L⟩:=h.ex;refine A1.mk (x287 ?_);refine⟨nn,nn,Bc,d.ts,An u 1 1 (by simp[AH]),λb H=>?_⟩;have o:=Mem.sub_new H (cell (.string nm) 9);exact(c226 (first:=[]) (caps:=[pv b]) (S.ds.sub (L.sub.trans o)).types Tryz.call300 (λt=>decide (t.name=nm)) (λx _=>c300 Ao)).call ⟨_,rfl,rfl,o⟩
theorem c290{b:Bool}:PP 290 [.bool b] V (.int .i64 (Dq b)):=by
 refine x290 ?_;refine⟨λh=>?_,λh=>?_⟩;·rw[h];exact⟨rfl,rfl⟩
 ·rw[(Bool.not_eq_true b).mp h];exact⟨rfl,rfl⟩
theorem c288{n:Int}{a:Option Addr}:Tri xG 288 #[.pointer a,.int .i64 n] V (PB (BH n) V):=by
 refine Tri.mono (x288 (R:=PB (BH n) V) ?_) λ_ _ h=>h;have bad:¬(-1099511627776<=n/\n<=1099511627776)->PB (BH n) V (fltE 5) V:=λh=>⟨rfl,by grind[BH]⟩;refine⟨λh=>Fc (bad (by omega)),λh1=>⟨λh=>Fc (bad (by omega)),λh2=>⟨rfl,?_⟩⟩⟩;grind[BH]
theorem c301{n:Int}(h:-1099511627776<=n/\n<=1099511627776):PP 301 [.int .i64 n] V (.int .i64 (if n<0 then -n else n)):=by
 refine x301 ?_;refine⟨⟨by omega,by omega⟩,GenK.max2 rfl rfl ⟨_,rfl,?_⟩⟩;grind
theorem mul_big{a b:Int}(O:-1099511627776<=a/\a<=1099511627776)(A:-1099511627776<=b/\b<=1099511627776)(h0:a≠0):((1099511627776:Int).tdiv (if a<0 then -a else a)<(if b<0 then -b else b))↔¬(-1099511627776<=a*b/\a*b<=1099511627776):=by
 obtain⟨x,J⟩:∃x:Nat,(if a<0 then -a else a)=(x:Int):=⟨a.natAbs,by split<;>omega⟩;obtain⟨y,N⟩:∃y:Nat,(if b<0 then -b else b)=(y:Int):=⟨b.natAbs,by split<;>omega⟩;have u:x=a.natAbs:=by omega
 have o:y=b.natAbs:=by omega
 have H:0<x:=by omega
 rw[J,N];have Z:(1099511627776:Int).tdiv (x:Int)=((1099511627776/x:Nat):Int):=by
  rfl
 rw[Z];have I:(a*b).natAbs=x*y:=by rw[Int.natAbs_mul,u,o]
 have Y:(-1099511627776<=a*b/\a*b<=1099511627776)↔x*y<=1099511627776:=by omega
 rw[Y];have M:y<=1099511627776/x↔y*x<=1099511627776:=Nat.le_div_iff_mul_le H;grind
theorem mul_in{a b:Int}(_:-1099511627776<=a/\a<=1099511627776)(_:-1099511627776<=b/\b<=1099511627776)(h:a=0∨(-1099511627776<=a*b/\a*b<=1099511627776)):IR (a*b):=by
 rcases h with rfl|h;·rw[Int.zero_mul];exact⟨by omega,by omega⟩
 ·exact⟨by omega,by omega⟩
theorem quo_wrap{a:Int}(h:-1099511627776<=a/\a<=1099511627776){b:Int}:xH .i64 (a.tdiv b)=a.tdiv b:=by
 have:=tdiv_in (b:=b) h;rw[vt];omega
theorem c291{a:Option Addr}{op v w:Int}(B:op=9∨op=10∨op=11∨op=12∨op=13∨op=22∨op=23)(hv:-1099511627776<=v/\v<=1099511627776)(hw:-1099511627776<=w/\w<=1099511627776):Tri xG 291 #[.pointer a,.int .i64 op,.int .i64 v,.int .i64 w] V (PB (A4 op v w) V):=by
 refine Tri.mono (x291 (R:=PB (A4 op v w) V) ?_) λ_ _ h=>h;have H:∀{n:Int},A4 op v w=BH n->Tri xG 288 #[.pointer a,.int .i64 n] V λe V'=>(∃u,e=.returned (.int .i64 u)/\PB (A4 op v w) V (.returned (.int .i64 u)) V')∨∃Z,e=.panicked Z/\PB (A4 op v w) V e V':=λe=>PB.split c288 (λk hk=>⟨rfl,by rw[e,hk]⟩) λn Y=>⟨rfl,by rw[e,Y]⟩;have good:∀{n:Int},A4 op v w=.ok n->PB (A4 op v w) V (.returned (.int .i64 n)) V:=λe=>⟨rfl,by rw[e]⟩;have bad:∀{k:Int},A4 op v w=.bad k->PB (A4 op v w) V (fltE k) V:=λe=>⟨rfl,by rw[e]⟩;have J:∀{n:Int},-2199023255552<=n/\n<=2199023255552->IR n:=λh=>⟨by omega,by omega⟩;have N:=quo_wrap (b:=w) hv;refine⟨λh=>⟨J (by omega),H (by grind[A4])⟩,λC=>⟨λh=>⟨J (by omega),H (by grind[A4])⟩,λO=>⟨λh=>?_,λA=>⟨λh=>?_,λo=>⟨λh=>?_,λI=>⟨λh=>?_,λM=>?_⟩⟩⟩⟩⟩⟩
 ·have e:A4 op v w=BH (v*w):=by grind[A4]
  have fit:(-1099511627776<=v*w/\v*w<=1099511627776)->PB (A4 op v w) V (.returned (.int .i64 (v*w))) V:=λk=>good (by grind[BH]);refine⟨λh0=>⟨mul_in hv hw (.inl h0),fit ?_⟩,λh0=>?_⟩;·simp_all
  have h0:¬v=0:=h0;have L:xH .i64 ((1099511627776:Int).tdiv (if v<0 then -v else v))=(1099511627776:Int).tdiv (if v<0 then -v else v):=quo_wrap ⟨by omega,by omega⟩;refine(c301 hw).call ⟨_,rfl,(c301 hv).call ⟨_,rfl,by split<;>omega,?_⟩⟩;rw[L];refine⟨λk=>Fc (bad ?_),λk=>?_⟩;·simp_all[BH,if_neg,mul_big]
  simp_all[Classical.not_not,mul_big,mul_in,inr]
 ·have e:w≠0->A4 op v w=.ok (v.tdiv w):=λk=>by grind[A4]
  first|rw[N]|(unfold w291_0;rw[N])
  refine⟨λh0=>Fc (bad ?_),λh0=>⟨λ_=>⟨h0,good (e h0)⟩,λk=>absurd h k⟩⟩;grind[A4]
 ·have e:w≠0->A4 op v w=.ok (v.tmod w):=λk=>by grind[A4]
  refine⟨λh0=>Fc (bad ?_),λh0=>⟨λk=>absurd k o,λ_=>⟨h0,good (e h0)⟩⟩⟩;grind[A4]
 ·exact GenK.max2 rfl rfl ⟨_,rfl,good (by grind[A4])⟩
 ·have X:op=23:=by
   omega
  exact GenK.min2 rfl rfl ⟨_,rfl,good (by grind[A4])⟩
end
structure Fv (V0:Mem)(q:Nat)(pr:Pr)(vals:List Int):Prop where
 ex:∃a b:Sl,V0 q=some (.cells #[a.v,b.v] 249 (0,0))/\Ad V0 a 2 (pr.vars.map Fld.row)/\Ad V0 b 1 (vals.map AE)
theorem Dl{V:Mem}{e:E}(J:E.Ok V e){i:Nat}{a:E}(h:e.k[i]?=some a):¬e.l.p=none/\(0:Int)<=(i:Int)/\(i:Int)<(e.l.n:Int)/\V.rowp e.l.p (i*4) 4=some [.int .i64 a.op,.int .i64 a.n,.string a.s,.slice a.l.p a.l.n a.l.c]:=by
 have o:=J.rows;have Y:=o.n_eq;have O:=(yv.1 h).1;obtain⟨y,-,H,-,N,hp,Z,u⟩:=o.get (i:=i) (by omega);rw[h]at H;cases H;exact⟨hp,Z,by omega,u⟩
section
variable{V0 V V1:Mem}{d:Ds}{p F c q:Nat}{s:St}{pr:Pr}{vals:List Int}
theorem fieldT_idx{u nm t:KB}(h:C2 d u nm=(t,0)):∃(j i:Nat)(o:Ty)(f:Fld),Bt d u=(j:Int)/\d.types[j]?=some o/\o∈d.types/\BL o.fields nm=(i:Int)/\o.fields[i]?=some f/\f.ty=t:=by
 unfold C2 at h;cases H:tyOf d u with
 |none=>simp_all
 |some o=>
  rw[H]at h;simp only at h;split at h;·simp at h
  ·rename_i J;simp only[Prod.mk.injEq,and_true]at h;grind[tyOf_idx,Gy,absurd,xM]
theorem typC(S:ES V0 d F)(M:EM V0 d p F V s c)(fr:Fv V0 q pr vals)(hpo:DG d pr)(G:Am d s.mm)(hvs:AB d s.mm pr.vars vals=true):
  ∀(e:E)(t:KB),VE e->E.Ok V0 e->Al d (AI d pr) e=(t,0)->PP 289 [pv p,pv q,e.v] V (.string t):=by
 intro e;induction e using E.ind with
 |h e ih=>
 intro t hv he ht;obtain⟨gs,ns,ls,nd,J,L⟩:=M.ex;obtain⟨fa,fb,hq0,U,-⟩:=fr.ex;have hq:=L.sub _ _ hq0;have Y:=U.sub L.sub;have O:=S.ds.sub L.sub;have A:=he.sub L.sub;refine x289 ?_;have o:∀{t':KB},t'=t->(xJ (.string t')=xJ (.string t)/\V=V):=λh=>⟨by rw[h],rfl⟩;have I:∀{a:E}{u:KB}{R:Ending->Mem->Prop},a∈e.k->Al d (AI d pr) a=(u,0)->R (.returned (.string u)) V->Tri xG 289 #[pv p,pv q,a.v] V R:=λhm Z hR=>(ih _ hm _ (hv.kids _ hm) (he.kids _ hm) Z).call hR;cases kindX (sc:=AI d pr) rfl hv ht with
 |int h X=>
  repeat refine Av (h▸(by decide)) ?_
  exact o rfl
 |bool h X=>
  repeat refine Av (h▸(by decide)) ?_
  exact AZ h (o rfl)
 |nil h X=>
  repeat refine Av (h▸(by decide)) ?_
  exact AZ h (o rfl)
 |var h hl hne=>
  refine AZ h ⟨nn,nn,fa,An hq 0 1 (by simp),(c267 Y).call ⟨_,rfl,?_⟩⟩;rcases H6 G hvs hpo.vars hl hne with⟨i,f,v,h1,h2,h3,h4,-⟩|⟨i,f,v,h0,h1,h2,h3,h4,-⟩
  ·rw[h1];have X:=Y.n_eq;have B:=(yv.1 h2).1;obtain⟨y,-,N,-,-,hp,C,H⟩:=Y.get (i:=i) (by omega);rw[h2]at N;cases N;exact AZ (by omega) ⟨nn,nn,fa,An hq 0 1 (by simp),hp,C,by omega,Ah hp,_,_,H,o h4⟩
  ·rw[h0];have hg:=O.globals;have X:=hg.n_eq;have B:=(yv.1 h2).1;obtain⟨y,-,N,-,-,hp,C,H⟩:=hg.get (i:=i) (by omega);rw[h2]at N;cases N;refine Av (by decide) ⟨nn,nn,Bc,d.gs,An J 2 1 (by simp[AH]),nn,nn,Bc,d.gs,An J 2 1 (by simp[AH]),(c267 hg).call ⟨_,rfl,?_⟩⟩;rw[h1];exact⟨DR J 2 0 1 (by simp[AH]),Bc,nn,nn,hp,C,by omega,Ah hp,_,_,H,o h4⟩
 |@fld _ u a h hk Z hf=>
  have h0:e.k[0]?=some a:=by rw[hk];rfl
  obtain⟨k1,k2,k3,k4⟩:=Dl A h0;obtain⟨j,i,tt,f,e1,e2,e3,e4,e5,e6⟩:=fieldT_idx hf;repeat refine Av (h▸(by decide)) ?_
  refine AZ h ⟨nn,nn,Bc,d.ts,An J 1 1 (by simp[AH]),k1,by decide,k3,_,_,_,_,k4,I (xM h0) Z ⟨_,rfl,DR J 1 0 1 (by simp[AH]),Bc,nn,nn,(c287 S M).call ⟨_,rfl,DR J 1 0 1 (by simp[AH]),Bc,nn,nn,?_⟩⟩⟩;rw[e1];have X:=O.types.n_eq;have hjl:=(yv.1 e2).1;obtain⟨y,-,N,-,-,hp,C,H⟩:=O.types.get (i:=j) (by omega);rw[e2]at N;cases N;have D:=(O.typesOk tt e3).fields;have hn2:=D.n_eq;have B:=(yv.1 e5).1;obtain⟨y,-,N,-,-,hp2,hz2,K⟩:=D.get (i:=i) (by omega);rw[e5]at N;cases N;refine⟨hp,C,by omega,_,_,H,(c267 D).call ⟨_,rfl,?_⟩⟩;rw[e4];exact⟨hp2,hz2,by omega,Ah hp2,_,_,K,o e6⟩
 |new h X=>
  grind
 |@call pr' i h hc hr=>
  repeat refine Av (h▸(by decide)) ?_
  refine AZ h ⟨nn,nn,Bc,d.ps,An J 3 1 (by simp[AH]),nn,nn,d.name,d.ts,d.gs,d.ps,d.ms,d.is,d.qs,d.bs,An J 0 8 (by simp[AH]),(c166 O).call ⟨_,rfl,DR J 3 0 1 (by simp[AH]),Bc,nn,nn,?_⟩⟩;rw[hc.idx];have X:=O.procs.n_eq;have B:=(yv.1 hc.at_).1;obtain⟨y,-,N,-,-,hp,C,H⟩:=O.procs.get (i:=i) (by omega);rw[hc.at_]at N;cases N;exact⟨hp,C,by omega,Ah hp,_,_,_,_,_,H,o rfl⟩
 |@neg a h hk Z=>
  repeat refine Av (h▸(by decide)) ?_
  exact o rfl
 |@not a h hk Z=>
  repeat refine Av (h▸(by decide)) ?_
  exact AZ h (o rfl)
 |@log a h hk Z=>
  repeat refine Av (h▸(by decide)) ?_
  exact o rfl
 |@and a b h hk Z T=>
  repeat refine Av (h▸(by decide)) ?_
  exact AZ h (o rfl)
 |@or a b h hk Z T=>
  repeat refine Av (h▸(by decide)) ?_
  exact AZ h (o rfl)
 |@cond a b c _ u w h hk Z T hc hu hw htt=>
  have h1:e.k[1]?=some b:=by rw[hk];rfl
  have h2:e.k[2]?=some c:=by rw[hk];rfl
  obtain⟨k1,k2,k3,k4⟩:=Dl A h1;obtain⟨l1,l2,l3,l4⟩:=Dl A h2;repeat refine Av (h▸(by decide)) ?_
  refine AZ h ⟨k1,by decide,k3,_,_,_,_,k4,I (xM h1) T ⟨_,rfl,λhE=>⟨l1,by decide,l3,_,_,_,_,l4,I (xM h2) hc ⟨_,rfl,o ?_⟩⟩,λhE=>o ?_⟩⟩;·grind[C1]
  grind[C1]
 |@eq a b u w h hk Z T hf=>
  rcases h with h|h
  ·repeat refine Av (h▸(by decide)) ?_
   exact AZ h (o rfl)
  ·repeat refine Av (h▸(by decide)) ?_
   exact AZ h (o rfl)
 |@cmp a b h hk Z T=>
  rcases h with h|h
  ·repeat refine Av (h▸(by decide)) ?_
   exact AZ h (o rfl)
  ·repeat refine Av (h▸(by decide)) ?_
   exact AZ h (o rfl)
 |@ari a b h hk Z T=>
  rcases h with h|h|h|h|h|h|h;all_goals
   repeat refine Av (h▸(by decide)) ?_
   exact o rfl
theorem lens12(h:A7 d=true):d.globals.length<=8/\∀t∈d.types,t.fields.length<=12:=by
 grind[A7,CT,Ei]
theorem lens_of_args(hp:∀p∈d.procs,DG d p){i:Nat}(h:d.procs[i]?=some pr):pr.params.length<=6/\pr.locals.length<=12:=(hp pr (xM h)).lens
theorem c268(M:EM V0 d p F V s c){k a f:Int}(H:s.lg.length+1<=2147483648):Tri xG 268 #[pv p,.int .i64 k,.int .i64 a,.int .i64 f] V λe V'=>e=.returned (.tuple #[])/\EM V0 d p F V' (s.note (k,a,f)) c:=by
 obtain⟨gs,ns,ls,nd,o,L⟩:=M.ex;refine x268 ?_;refine⟨nn,nn,ls,An o 14 1 (by simp[AH]),λZ J=>L.note (a:=(k,a,f)) J rfl rfl H λs' V' N hk=>⟨s',rfl,nn,nn,?_⟩⟩;have u:=hk _ _ o (notBlk o Fb L.log (.inr (.inr rfl)));refine As.at2 (off:=14) u (by simp[AH]) ⟨rfl,MA.set (row':=AH d F s.tk c s.cm) Fb M.p0 u N rfl rfl rfl rfl⟩
theorem c265(o:F<=4000)(M:EM V0 d p F V s c):Tri xG 265 #[pv p] V λe V'=>(s.tk<F/\e=.returned (.tuple #[])/\EM V0 d p F V' {s with tk:=s.tk+1} c)∨(F<=s.tk/\e=fltE 20/\V'=V):=by
 obtain⟨gs,ns,ls,nd,u,L⟩:=M.ex;refine x265 ?_;refine⟨nn,nn,_,An u 11 1 (by simp[AH]),nn,nn,_,An u 10 1 (by simp[AH]),λh=>Fc (.inr ⟨by omega,rfl,rfl⟩),λh=>⟨nn,nn,_,An u 11 1 (by simp[AH]),⟨by omega,by omega⟩,nn,nn,As.at2 (off:=11) u (by simp[AH]) (.inl ⟨by omega,rfl,?_⟩)⟩⟩;exact MA.set (row':=AH d F ((s.tk+1:Nat):Int) c s.cm) Fb M.p0 u L rfl rfl rfl rfl
theorem c269(S:ES V0 d F)(M:EM V0 d p F V s c){k j:Nat}{fs:List Int}{O:Ty}(hk:s.ns[k]?=some ((j:Int),fs))(A:d.types[j]?=some O){nm:KB}:PP 269 [pv p,.int .i64 ((k:Int)+1),.string nm] V (.int .i64 (BL O.fields nm)):=by
 obtain⟨gs,ns,ls,nd,H,L⟩:=M.ex;refine x269 ?_;have I:=S.ds.sub L.sub;have u:=L.nodes.rows (λ_=>rfl) (by decide);have X:=u.n_eq;obtain⟨sl,J⟩:=L.at_ hk;have B:=(yv.1 J).1;obtain⟨y,-,N,-,-,hp,C,Z⟩:=u.get (i:=k) (by omega);rw[J]at N;cases N;have D:IR ((k:Int)):=⟨by omega,by have:=(u.succ (i:=k) (by omega)).2;omega⟩;have K:=I.types.n_eq;have E:=(yv.1 A).1;obtain⟨y,-,N,-,-,Y,R,o⟩:=I.types.get (i:=j) (by omega);rw[A]at N;cases N;refine⟨nn,nn,Bc,d.ts,An H 1 1 (by simp[AH]),nn,nn,Bc,ns,An H 9 1 (by simp[AH]),?_⟩;rw[show((k:Int)+1-1)=(k:Int)by omega];exact⟨D,hp,C,by omega,Ah hp,_,_,Z,Y,R,(show(j:Int)<d.ts.n by omega),Ah Y,_,_,o,(c267 (I.typesOk O (xM A)).fields).call ⟨_,rfl,rfl,rfl⟩⟩
end
end Go.Proofs
