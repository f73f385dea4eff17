/- Part 13: no statement of the seat is proved here. -/
import Derived.Test.YtmeagdecjpknkaaGreatDoorPs12
import Derived.Test.YtmeagdecjpknkaaGreatDoorPs04
import Derived.Laws.MakeOwn
import Derived.OrdersIn
import Derived.OwnWalkIn
import Derived.RangeFuncRecord
import Derived.Tactics
import Derived.TacticsIn
import Derived.RangeFuncNested
set_option linter.unusedVariables false
set_option linter.unusedSimpArgs false
open Nat renaming mul_le_mul_right->y4,add_mul->yb,le_refl->yV
open List renaming mem_cons->yD,not_mem_nil->xC,length_map->x7,getElem?_map->y3,map_set->x8,mem_of_getElem?->xp,ext_getElem?->zx,getElem?_set->wA,mem_append->xd,mem_singleton->zO,getElem?_append_left->wB,map_cons->zG,replicate->yJ,range'->wG,prefix_refl->yw,prefix_append->yC,lookup_cons->zd,nodup_cons->yU
open Go.Value renaming int->xa
open Go.Proofs.Tryz renaming prog->xE
open Array renaming getElem?_eq_some_iff->yA,length_toList->wC,mem_of_getElem?->wH,replicate->wI,all_eq_true'->wJ
open Go.Result renaming andThen_ok->zL
open Go.Builtin renaming zeroCells->y8,append_->y6,firstCells->xA,nextslicecap->wE
open Go.IntKind renaming i64->yr,wrap_i64->wD
open Option.some renaming injEq->zF
open Go.Fence renaming wide->wF
open Bool renaming and_eq_true->zC
open Option renaming map_eq_some_iff->zj
open Go.Ending.returned renaming injEq->wK
open Go.Value.tuple renaming injEq->wL
open Go.World renaming alloc_heap_new->wM,putObj_heap_other->wN,putObj_size->wO,putObj_heap_same->wP
open Go.RowKit.Below renaming heap_alloc->xP
namespace Go.Proofs
open Go Go.Sx
attribute [local irreducible] Go.Sx.Tri
theorem StT.at2{V:Mem}{b:Nat}{c:Array Value}{t off:Nat}{vs:List Value}{q:Mem->Prop}(h:V b=some (.cells c t (0,0)))(u:off+vs.length<=c.size)
  (w:q (V.set b (.cells (c.toList.take off++vs++c.toList.drop (off+vs.length)).toArray t (0,0)))):StT (qAa (sa b) off) 0 vs V q:=by
 have e:qAa (sa b) off=some ⟨b,off,none⟩:=by
  grind[qAa,Addr.add]
 rw[e];exact⟨⟨b,off,none⟩,c,t,rfl,h,rfl,by simpa using u,by simpa using w⟩
theorem qDf{α:Type}:∀(l:List α)(i:Nat)(v:α),i<l.length->l.take i++[v]++l.drop (i+1)=l.set i v
 |[],i,v,h=>by simp at h
 |a::l,0,v,_=>by simp
 |a::l,i+1,v,h=>by
  have:=qDf l i v (by simpa using h);simp_all
section
variable{V0 V V':Mem}{e:TypeId}{sz:Nat}{s:Sl}{vs:List Value}
theorem Own.store(h:Sx.Own V0 V e sz s vs){i:Nat}(hi:i<vs.length){v:Value}{q:Mem->Prop}(y:∀V',Sx.Own V0 V' e sz s (vs.set i v)->(∀c,¬Blk s c->V' c=V c)->q V'):StT (qAa s.p i) 0 [v] V q:=by
 rcases h.cases0 with⟨h1,h2,h3⟩|⟨x,g,cur,h1,h2,h3,h4,l,o,b⟩;·rw[h3]at hi;simp at hi
 have u:=h.len;have m:s.n*sz<=s.c*sz:=y4 _ h4;rw[h1];refine StT.at2 (off:=i) h3 (by simp;omega) (y _ ⟨h.sub.set h2 _,by simpa using u,.inr ⟨g,_,h1,h2,Mem.set_same _ _ _,h4,l,?_,?_⟩⟩ λc w=>?_);·grind
 ·grind[qDf,List.take_set]
 ·rw[Zm];rintro rfl;exact w ⟨x,h1⟩
theorem Own.moveB(h:Sx.Own V0 V e sz s vs)(w:V0.sub V')(y:∀g u,Blk s g->V g=some (.cells u e (0,0))->V' g=some (.cells u e (0,0))):Sx.Own V0 V' e sz s vs:=⟨w,h.len,by
 rcases h.cases0 with h1|⟨x,g,u,h1,h2,h3,h4⟩;·exact .inl h1
 ·exact .inr ⟨g,u,h1,h2,y g u ⟨x,h1⟩ h3,h4⟩⟩
theorem Own.some(h:Sx.Own V0 V e sz s vs){c:Nat}(w:Blk s c):∃u,V c=some (.cells u e (0,0)):=by
 rcases h.cases0 with⟨-,h2,-⟩|⟨-,g,u,h1,h2,h3,-⟩;·exact absurd h2 w.1
 ·have:=h1.symm.trans w.2;simp_all
theorem Own.none0(h:Sx.Own V0 V e sz s vs){c:Nat}(u:Blk s c):V0 c=none:=by
 rcases h.cases0 with⟨-,h2,-⟩|⟨-,g,cur,h1,h2,h3,-⟩;·exact absurd h2 u.1
 ·have:=h1.symm.trans u.2;simp_all
theorem set_sub2{A B:Mem}(h:A.sub B)(b:Nat)(o:Obj):(A.set b o).sub (B.set b o):=λc x u=>by
 by_cases e:c=b;·grind[Mem.set_same]
 ·rw[Zm e]at u⊢;exact h _ _ u
theorem Own.poke(h:Sx.Own V0 V e sz s vs){b:Nat}(u:V0 b≠none)(o:Obj):Sx.Own (V0.set b o) (V.set b o) e sz s vs:=⟨set_sub2 h.sub b o,h.len,by
 rcases h.cases0 with h1|⟨y,g,cur,h1,h2,h3,h4⟩;·exact .inl h1
 ·have w:g≠b:=λe=>u (e▸h2);simp_all[inr,Zm]⟩
end
def qFY(a:Int×Int×Int):List Value:=[.int .i64 a.1,.int .i64 a.2.1,.int .i64 a.2.2]
theorem app84:AppP 84 89 3 qFY:=appG Tryz.underlying84 (by kernel_rfl) (by kernel_rfl) (by kernel_rfl) (by kernel_rfl) (by kernel_rfl) (by decide) (by intro _;rfl) λx u hu=>by simp only[qFY,yD,xC,or_false]at hu;rcases hu with rfl|rfl|rfl<;>rfl
theorem app32:AppP 32 92 2 Nd.row:=appG Tryz.underlying32 (by kernel_rfl) (by kernel_rfl) (by kernel_rfl) (by kernel_rfl) (by kernel_rfl) (by decide) (by intro _;rfl) λx u hu=>by simp only[Nd.row,Sl.v,yD,xC,or_false]at hu;rcases hu with rfl|rfl<;>rfl
theorem qCU:AppP 31 3 1 qAe:=appG Tryz.underlying31 (by kernel_rfl) (by kernel_rfl) (by kernel_rfl) (by kernel_rfl) (by kernel_rfl) (by decide) (by intro _;rfl) λx u hu=>by simp only[qAe,yD,xC,or_false]at hu;subst hu;rfl
theorem qAR(l:List Int):l.flatMap qAe=l.map (xa .i64):=by
 induction l with
 |nil=>rfl
 |cons a l h=>rw[List.flatMap_cons,h];rfl
structure Lay (V0 V:Mem)(gs ns ls:Sl)(nd:List Nd)(st:St):Prop where
 glob:Sx.Own V0 V 3 1 gs (st.g.flatMap qAe)
 nodes:Sx.Own V0 V 92 2 ns (nd.flatMap Nd.row)
 log:Sx.Own V0 V 89 3 ls (st.lg.flatMap qFY)
 fld:∀n∈nd,Sx.Own V0 V 3 1 n.sl (n.f.flatMap qAe)
 eq:nd.map (λn=>(n.ty,n.f))=st.ns
 gf:∀n∈nd,∀c,Blk n.sl c->¬Blk gs c
 ff:∀(i j:Nat) n n' c,nd[i]?=some n->nd[j]?=some n'->Blk n.sl c->Blk n'.sl c->i=j
section
variable{V0 V V':Mem}{gs ns ls:Sl}{nd:List Nd}{st:St}
def Alien(V:Mem)(c:Nat):Prop:=∀h t,t=3∨t=92∨t=89->V c≠some (.cells h t (0,0))
theorem Lay.sub(L:Lay V0 V gs ns ls nd st):V0.sub V:=L.glob.sub
theorem Lay.move(L:Lay V0 V gs ns ls nd st)(y:V0.sub V')(x:∀c o,V c=some o->V0 c=none->¬Alien V c->V' c=some o):Lay V0 V' gs ns ls nd st:=by
 have u:∀{e sz s vs},(e=3∨e=92∨e=89)->Sx.Own V0 V e sz s vs->Sx.Own V0 V' e sz s vs:=λ{e sz s vs} l h=>Own.moveB h y λg m q w=>x _ _ w (Own.none0 h q) λb=>b _ _ l w;exact⟨u (.inl rfl) L.glob,u (.inr (.inl rfl)) L.nodes,u (.inr (.inr rfl)) L.log,λn a=>u (.inl rfl) (L.fld n a),L.eq,L.gf,L.ff⟩
theorem Lay.grow(L:Lay V0 V gs ns ls nd st)(h:V.sub V'):Lay V0 V' gs ns ls nd st:=L.move (L.sub.trans h) λc o u _ _=>h _ _ u
theorem Lay.put(L:Lay V0 V gs ns ls nd st){c:Nat}(u:Alien V c)(h0:V0 c=none)(o:Obj):Lay V0 (V.set c o) gs ns ls nd st:=L.move (L.sub.set h0 o) λx w y _ h=>by
 grind[Zm]
theorem Lay.narrow{W:Mem}(L:Lay W V gs ns ls nd st)(h:V0.sub W):Lay V0 V gs ns ls nd st:=⟨L.glob.narrow h,L.nodes.narrow h,L.log.narrow h,λn u=>(L.fld n u).narrow h,L.eq,L.gf,L.ff⟩
theorem Lay.poke(L:Lay V0 V gs ns ls nd st){b:Nat}(h:V0 b≠none)(o:Obj):Lay (V0.set b o) (V.set b o) gs ns ls nd st:=⟨Own.poke L.glob h o,Own.poke L.nodes h o,Own.poke L.log h o,λn u=>Own.poke (L.fld n u) h o,L.eq,L.gf,L.ff⟩
def Mine(p:Nat)(gs ns ls:Sl)(nd:List Nd)(c:Nat):Prop:=c=p∨Blk gs c∨Blk ns c∨Blk ls c∨∃n∈nd,Blk n.sl c
open Classical in
noncomputable def Mem.minus(V:Mem)(M:Nat->Prop):Mem:=λc=>if M c then none else V c
theorem qCh{M:Nat->Prop}:(Mem.minus V M).sub V:=λc o h=>by
 grind[Mem.minus]
theorem qBe{M:Nat->Prop}{c:Nat}(h:¬M c):Mem.minus V M c=V c:=by grind[Mem.minus]
theorem qBC{M:Nat->Prop}{c:Nat}(h:M c):Mem.minus V M c=none:=by grind[Mem.minus]
theorem Lay.frame(L:Lay V0 V gs ns ls nd st){p:Nat}(x:∀c o,Mine p gs ns ls nd c->V c=some o->V' c=some o):Lay (Mem.minus V' (Mine p gs ns ls nd)) V' gs ns ls nd st:=by
 have u:∀{e sz s vs},(∀c,Blk s c->Mine p gs ns ls nd c)->Sx.Own V0 V e sz s vs->Sx.Own (Mem.minus V' (Mine p gs ns ls nd)) V' e sz s vs:=λ{e sz s vs} hm h=>⟨qCh,h.len,by
  rcases h.cases0 with h1|⟨w,g,cur,h1,h2,h3,h4⟩;·exact .inl h1
  ·exact .inr ⟨g,cur,h1,qBC (hm g ⟨w,h1⟩),x _ _ (hm g ⟨w,h1⟩) h3,h4⟩⟩
 exact⟨u (λ_ h=>.inr (.inl h)) L.glob,u (λ_ h=>.inr (.inr (.inl h))) L.nodes,u (λ_ h=>.inr (.inr (.inr (.inl h)))) L.log,λn y=>u (λ_ h=>.inr (.inr (.inr (.inr ⟨n,y,h⟩)))) (L.fld n y),L.eq,L.gf,L.ff⟩
theorem Lay.mineV(L:Lay V0 V gs ns ls nd st){p c:Nat}(w:V p≠none)(h:Mine p gs ns ls nd c):V c≠none:=by
 have u:∀{e sz s vs},Sx.Own V0 V e sz s vs->Blk s c->V c≠none:=λ{e sz s vs} h x=>by
  grind[Own.some]
 rcases h with rfl|h|h|h|⟨n,y,h⟩;·exact w
 ·exact u L.glob h
 ·exact u L.nodes h
 ·exact u L.log h
 ·exact u (L.fld n y) h
theorem Lay.mine0(L:Lay V0 V gs ns ls nd st){p c:Nat}(u:V0 p=none)(h:Mine p gs ns ls nd c):V0 c=none:=by
 rcases h with rfl|h|h|h|⟨n,w,h⟩;·exact u
 ·exact Own.none0 L.glob h
 ·exact Own.none0 L.nodes h
 ·exact Own.none0 L.log h
 ·exact Own.none0 (L.fld n w) h
theorem Lay.len(L:Lay V0 V gs ns ls nd st):nd.length=st.ns.length:=by rw[<-L.eq,x7]
theorem Lay.at_(L:Lay V0 V gs ns ls nd st){i:Nat}{x:Int×List Int}(h:st.ns[i]?=some x):∃sl,nd[i]?=some ⟨x.1,sl,x.2⟩:=by
 rw[<-L.eq,y3]at h;cases u:nd[i]? with
 |none=>simp_all
 |some n=>rw[u]at h;cases h;grind
theorem Lay.setG(L:Lay V0 V gs ns ls nd st){i:Nat}(hi:i<st.g.length){v:Int}{q:Mem->Prop}(m:∀V',Lay V0 V' gs ns ls nd {st with g:=st.g.set i v}->(∀c,¬Blk gs c->V' c=V c)->q V'):StT (qAa gs.p (i*1)) 0 [.int .i64 v] V q:=by
 rw[Nat.mul_one];refine Own.store L.glob (by rw[qAR,x7];exact hi) λV' y w=>m V' ⟨?_,?_,?_,λn l=>?_,L.eq,L.gf,L.ff⟩ w;·grind[qAe,qAR,x8]
 ·exact Own.moveB L.nodes y.sub λg h x u=>by rw[w g (L.glob.apart λc=>by simp_all)];exact u
 ·exact Own.moveB L.log y.sub λg h x u=>by rw[w g (L.glob.apart λc=>by simp_all)];exact u
 ·exact Own.moveB (L.fld n l) y.sub λg h x u=>by rw[w g (L.gf n l g x)];exact u
theorem Lay.setF(L:Lay V0 V gs ns ls nd st){k i:Nat}{n:Nd}(G:nd[k]?=some n)(hi:i<n.f.length){v:Int}{q:Mem->Prop}
  (M:∀V',Lay V0 V' gs ns ls (nd.set k {n with f:=n.f.set i v}) {st with ns:=st.ns.set k (n.ty,n.f.set i v)}->(∀c,¬Blk n.sl c->V' c=V c)->q V'):StT (qAa n.sl.p (i*1)) 0 [.int .i64 v] V q:=by
 rw[Nat.mul_one];have hm:=xp G;have F:=(List.getElem?_eq_some_iff.1 G).1;refine Own.store (L.fld n hm) (by rw[qAR,x7];exact hi) λV' N J=>M V' ⟨?_,?_,?_,λn' w=>?_,?_,λn' w c I=>?_,λX B a b c C l Z Y=>?_⟩ J;·exact Own.moveB L.glob N.sub λg o l d=>by rw[J g λh=>L.gf n hm g h l];exact d
 ·have:(nd.set k {n with f:=n.f.set i v}).flatMap Nd.row=nd.flatMap Nd.row:=by
   have:(nd.set k {n with f:=n.f.set i v}).map Nd.row=nd.map Nd.row:=by
    rw[x8];refine zx λm=>?_;rw[wA];split
    ·rename_i e;subst e;rw[y3,G,if_pos (by simp_all)];rfl
    ·rfl
   grind
  rw[this];exact Own.moveB L.nodes N.sub λg o l d=>by rw[J g ((L.fld n hm).apart λc=>by simp_all)];exact d
 ·exact Own.moveB L.log N.sub λg o l d=>by rw[J g ((L.fld n hm).apart λc=>by simp_all)];exact d
 ·obtain⟨m,u⟩:=List.mem_iff_getElem?.1 w;rw[wA]at u;split at u;·grind[qAe,qAR,x8]
  ·rename_i A;exact Own.moveB (L.fld n' (xp u)) N.sub λg o l d=>by rw[J g λh=>A (L.ff k m n n' g G u h l)];exact d
 ·rw[<-L.eq,x8]
 ·rcases List.mem_or_eq_of_mem_set w with h|rfl;·exact L.gf n' h c I
  ·exact L.gf n hm c I
 ·have get:∀{m:Nat}{x:Nd},(nd.set k {n with f:=n.f.set i v})[m]?=some x->∃y,nd[m]?=some y/\y.sl=x.sl:=λ{m x} T=>by
   grind
  obtain⟨y,D,E⟩:=get C;obtain⟨z,K,S⟩:=get l;exact L.ff X B y z c D K (E▸Z) (S▸Y)
theorem Lay.note(L:Lay V0 V gs ns ls nd st){a:Int×Int×Int}{ty m:Nat}{x y:Operand}{vals:Operand->Value}{q:Value->Mem->Prop}(v:V m=none)(N:vals x=.slice ls.p ls.n ls.c)(Z:vals y=.slice (sa m) 1 1)(h:st.lg.length+1<=2147483648)
  (Y:∀s' V',Lay V0 V' gs ns s' nd (st.note a)->(∀c o,V c=some o->¬Blk ls c->V' c=some o)->q (.slice s'.p s'.n s'.c) V'):
  GenK xE (.call {callee:=.builtin .append,args:=#[x,y],argTypes:=#[84,84]}) ty vals (V.set m (.cells (qFY a).toArray 89 (0,0))) q:=by
 refine app84 (s:=ls) (u:=⟨some ⟨m,0,none⟩,1,1⟩) (xs:=st.lg) (ys:=[a]) N Z (L.log.but.new v _) (qAc.cells (xs:=[a]) (row:=qFY) mss (by simp) (λ_=>rfl) rfl (by simp)) (by simpa using h) λs' V' J=>?_;have b:∀c o,V c=some o->¬Blk ls c->V' c=some o:=λc o A d=>J.sub _ _ (Mem.but_at A d);have G:V0.sub V':=L.log.sub_but.trans J.sub;refine Y s' V' ⟨?_,?_,J.narrow L.log.sub_but,λn I=>?_,L.eq,L.gf,L.ff⟩ b;·exact Own.moveB L.glob G λg w d l=>b _ _ l (L.log.apart λc=>by simp_all)
 ·exact Own.moveB L.nodes G λg w d l=>b _ _ l (L.log.apart λc=>by simp_all)
 ·exact Own.moveB (L.fld n I) G λg w d l=>b _ _ l (L.log.apart λc=>by simp_all)
theorem Lay.new(L:Lay V0 V gs ns ls nd st){n:Nd}{V1:Mem}(h:Sx.Own V V1 3 1 n.sl (n.f.flatMap qAe))
  {ty Y:Nat} {x y:Operand} {vals:Operand->Value} {q:Value->Mem->Prop} (I:V1 Y=none) (C:vals x=.slice ns.p ns.n ns.c) (D:vals y=.slice (sa Y) 1 1) (G:nd.length+1<=2147483648)
  (E:∀s' V',Lay V0 V' gs s' ls (nd++[n]) {st with ns:=st.ns++[(n.ty,n.f)]}->(∀c o,V1 c=some o->¬Blk ns c->V' c=some o)->q (.slice s'.p s'.n s'.c) V'):
  GenK xE (.call {callee:=.builtin .append,args:=#[x,y],argTypes:=#[32,32]}) ty vals (V1.set Y (.cells n.row.toArray 92 (0,0))) q:=by
 have K:V.sub V1:=h.sub;have l:=L.grow K;refine app32 (s:=ns) (u:=⟨some ⟨Y,0,none⟩,1,1⟩) (xs:=nd) (ys:=[n]) C D (l.nodes.but.new I _) (qAc.cells (xs:=[n]) (row:=Nd.row) mss (by simp) (λ_=>rfl) rfl (by simp)) (by simpa using G) λs' V' M=>?_;have N:∀c o,V1 c=some o->¬Blk ns c->V' c=some o:=λc o v J=>M.sub _ _ (Mem.but_at v J);have A:V0.sub V':=l.nodes.sub_but.trans M.sub;have S:∀c,Blk n.sl c->V c=none:=λc v=>Own.none0 h v;refine E s' V' ⟨?_,M.narrow l.nodes.sub_but,?_,λm hm=>?_,by rw[List.map_append,L.eq];rfl,λm hm c v=>?_,λi j a b c B J F X=>?_⟩ N;·exact Own.moveB l.glob A λg w J d=>N _ _ d (l.nodes.apart λc=>by simp_all)
 ·exact Own.moveB l.log A λg w J d=>N _ _ d (l.nodes.apart λc=>by simp_all)
 ·rcases xd.1 hm with hm|hm;·exact Own.moveB (l.fld m hm) A λg w J d=>N _ _ d (l.nodes.apart λc=>by simp_all)
  ·rw[zO.1 hm];exact Own.moveB (h.narrow L.sub) A λg w J d=>N _ _ d (l.nodes.apart λc=>by simp_all)
 ·rcases xd.1 hm with hm|hm;·exact L.gf m hm c v
  ·rw[zO.1 hm]at v;intro d;obtain⟨w,Z⟩:=Own.some L.glob d;simp_all
 ·have old:∀{m:Nd},m∈nd->Blk m.sl c->¬Blk n.sl c:=λhm v T=>by
   obtain⟨w,Z⟩:=Own.some (L.fld _ hm) v;simp_all
  by_cases h1:i<nd.length<;>by_cases h2:j<nd.length
  ·rw[wB h1]at B;rw[wB h2]at J;exact L.ff i j a b c B J F X
  ·grind
  ·grind
  grind
end
end Go.Proofs
namespace Go.Sx
open Go
section
variable{P:Program}{V0 V:Mem}{t e ty tc:TypeId}{i:TypeInfo}{z:Value}{sz:Nat}{k:IntKind}
theorem Frm.made{V:Mem}{w:World}(hw:V.le w)(o:Obj):V w.heap.size=none/\Frm V w (V.set w.heap.size o) (w.alloc o):=by
 have l:V w.heap.size=none:=by
  cases h:V w.heap.size with
  |none=>rfl
  |some x=>
   have:=(yA.1 (hw _ _ h)).1;omega
 refine⟨l,⟨by simp,λb x u=>?_,λb u _=>(by grind[heap_alloc_old]),λb u=>?_,rfl,rfl⟩⟩
 ·unfold Mem.set at u;split at u;·grind[heap_alloc_new]
  ·have y:=(yA.1 (hw _ _ u)).1;first|exact(heap_alloc_old w o b y).trans (hw _ _ u)|exact(heap_alloc_old w o y).trans (hw _ _ u)
 grind[Mem.set,inr]
theorem GenK.make(l:P.underlying t=some (.slice e))(hi:P.info? e=some i)(m:i.zero=some z)(h:i.size=sz)(u:i.bytes<=65536){x y:Operand}{vals:Operand->Value}{n:Nat}(a:vals x=.int .i64 n)(d:vals y=.int .i64 n)(o:n<=2147483648){q:Value->Mem->Prop}
  (v:∀g,V g=none->q (.slice (some ⟨g,0,none⟩) n n) (V.set g (.cells (madeCells z.cells (n*sz)) e (0,0)))):GenK P (.makeSlice t x y) ty vals V q:=by
 intro w hw;subst h;have b:(i.bytes:Int)*(n:Int)<=281474976710656:=by
  have:i.bytes*n<=65536*2147483648:=Nat.mul_le_mul u o;omega
 have J:=run_make (P:=P) w t e i z l hi m .i64 .i64 n n (by omega) (Int.le_refl _) b (by omega);grind[Int.toNat_natCast,Frm.made,madeCells,execOp,Sem.run_bind,Sem.run_pure,zL]
theorem zeros_one(h:z.cells.size=sz)(h1:∀u∈z.cells.toList,u.oneCell'=true)(n:Nat)(h0:0<sz):∀u∈(y8 z.cells n).toList,u.oneCell'=true:=λu hu=>by
 unfold y8 at hu;simp only[Array.toList_map,List.mem_map]at hu;obtain⟨j,-,rfl⟩:=hu;grind[Nat.mod_lt]
theorem qIr{w:World}(b:P.underlying t=some (.slice e))(a:P.underlying tc=some (.int k))(hi:P.info? e=some i)(d:i.zero=some z)(h0:0<i.size)(m:z.cells.size=i.size)(h1:∀u∈z.cells.toList,u.oneCell'=true)
  (g h y:Nat) (x:Array Value) (v:w.heap[g]?=some (.cells x e (0,0))) (n:Nat) (J:0<n) (A:n*i.bytes<=281474976710656) (G:n<=2147483648) (l:h+n<=y) (o:h*i.size+n*i.size<=x.size):
  (y6 #[t,tc] ty #[.slice (some ⟨g,0,none⟩) h y,.int .i64 n]).run P w=
   .ok (.slice (some ⟨g,0,none⟩) (h+n) y) (w.setRow g (x.toList.take (h*i.size)++(y8 z.cells n).toList++x.toList.drop (h*i.size+(y8 z.cells n).toList.length)).toArray):=by
 have I:(y8 z.cells n).toList.length=n*i.size:=by rw[wC,size_zeroCells,m]
 have q:=run_storeCells_at P g (h*i.size) e (y8 z.cells n).toList 0 x w v (by omega) (zeros_one m h1 n h0);simp only[Nat.add_zero]at q;have N:yr.wrap (n:Int)=n:=by rw[wD];omega
 have Z:¬((n:Int)<0):=by omega
 have Y:¬(281474976710656<(n:Int)*(i.bytes:Int)):=by
  omega
 have M:¬(n*i.size=0):=Nat.ne_of_gt (Nat.mul_pos J h0);simp[y6,run_underlying b,run_underlying a,asInt,asIntOf,sizeOf,typeInfo,hi,zeroValue,d,N,Z,Y,l,Addr.add_lit,q];omega
theorem qEO{w:World}(b:P.underlying t=some (.slice e))(a:P.underlying tc=some (.int k))(hi:P.info? e=some i)(d:i.zero=some z)(h0:0<i.size)(base:Option Addr)(h u:Nat)(y:List Value)
  (x:(xA i.size h (.slice base h u)).run P w.drew=.ok y.toArray w.drew) (n:Nat) (Y:0<n) (A:n*i.bytes<=281474976710656) (v:n<=2147483648)
  (I:u<h+n) (J:((h+n:Nat):Int)<=9223372036854775807) (o:wE (h+n) u*i.bytes<=281474976710656):
  (y6 #[t,tc] ty #[.slice base h u,.int .i64 n]).run P w=
   .ok (.slice (some ⟨w.heap.size,0,none⟩) (h+n) (grownCap w (h+n) u e))
    (w.drew.alloc (.cells (y.toArray++y8 z.cells n++y8 z.cells (grownCap w (h+n) u e-(h+n))) e)):=by
 have q:¬(h+n<=u):=by omega
 have l:¬(9223372036854775807<((h:Int)+(n:Int))):=by omega
 have m:¬(281474976710656<wE (h+n) u*i.bytes):=by omega
 have G:yr.wrap (n:Int)=n:=by rw[wD];omega
 have N:¬((n:Int)<0):=by omega
 have Z:¬(281474976710656<(n:Int)*(i.bytes:Int)):=by
  omega
 simp[y6,run_underlying b,run_underlying a,asInt,asIntOf,sizeOf,typeInfo,zeroValue,hi,d,G,N,Z,q,l,m,Question.forced,x,newRow,grownCap];simp_all[absurd,Nat.ne_of_gt,Nat.mul_pos]
theorem GenK.appendZ(E:P.underlying t=some (.slice e))(K:P.underlying tc=some (.int k))(hi:P.info? e=some i)(hz:i.zero=some z)(N:i.size=sz)(Z:z.cells.size=sz)(S:0<sz)(T:i.bytes<=65536)(h1:∀u∈z.cells.toList,u.oneCell'=true)
  {x y:Operand} {vals:Operand->Value} {s:Sl} {n:Nat} {vs:List Value} (hx:vals x=.slice s.p s.n s.c) (hy:vals y=.int .i64 n) (own:Own V0 V e sz s vs) (I:s.n+n<=2147483648) {q:Value->Mem->Prop}
  (hq:∀s' V',Own V0 V' e sz s' (vs++(y8 z.cells n).toList)->q (.slice s'.p s'.n s'.c) V'):
  GenK P (.call {callee:=.builtin .append,args:=#[x,y],argTypes:=#[t,tc]}) ty vals V q:=by
 intro w hw;subst N;have o:(s.n+n)*i.bytes<=140737488355328:=Nat.le_trans (Nat.mul_le_mul I T) (by decide);have U:n*i.bytes<=281474976710656:=by
  grind
 have hl:(y8 z.cells n).toList.length=n*i.size:=by rw[wC,size_zeroCells,Z]
 have d:∀(s':Sl)(V':Mem)(w':World),(y6 #[t,tc] ty #[.slice s.p s.n s.c,.int .i64 n]).run P w=.ok (.slice s'.p s'.n s'.c) w'->Frm V w V' w'->Own V0 V' e i.size s' (vs++(y8 z.cells n).toList)->
   ∃v w' V',(execOp vals {dst:=none,op:=.call {callee:=.builtin .append,args:=#[x,y],argTypes:=#[t,tc]},type:=ty,pos:= "",after:=#[],guard:=none}).run P w=.ok (.value v) w'/\Frm V w V' w'/\q v V':=by
  intro s' V' w' M hf ho;refine⟨_,w',V',?_,hf,hq s' V' ho⟩;unfold execOp;simp only[resolve,invoke,builtin,Sem.run_bind,Sem.run_pure,zL,List.map_toArray,zG,List.map_nil,hx,hy,M]
 by_cases F:n=0
 ·subst F;have hz0:(y8 z.cells 0).toList=[]:=List.eq_nil_of_length_eq_zero (by rw[hl];simp);rw[hz0,List.append_nil]at d;have J:s.n<=s.c:=by
   rcases own.at_ with⟨a,b,-⟩|⟨g,cur,-,-,-,h,-⟩;·omega
   ·exact h
  refine d s V w ?_ (Frm.refl hw) own;have wl:yr.wrap 0=0:=by rfl
  cases s.p with
  |none=>simp[y6,run_underlying E,run_underlying K,asInt,asIntOf,sizeOf,typeInfo,hi,wl,J]
  |some a=>simp[y6,run_underlying E,run_underlying K,asInt,asIntOf,sizeOf,typeInfo,hi,wl,J,storeCells]
 have hn:0<n:=Nat.pos_of_ne_zero F;have G:(vs++(y8 z.cells n).toList).length=(s.n+n)*i.size:=by rw[List.length_append,own.len,hl,yb]
 have m:∀old,old<s.n+n->(y6 #[t,tc] ty #[.slice s.p s.n s.c,.int .i64 n]).run P w=
   .ok (.slice (some ⟨w.heap.size,0,none⟩) (s.n+n) (grownCap w (s.n+n) old e)) (w.drew.alloc (.cells (vs.toArray++y8 z.cells n++y8 z.cells (grownCap w (s.n+n) old e-(s.n+n))) e))->
   ∃v w' V',(execOp vals {dst:=none,op:=.call {callee:=.builtin .append,args:=#[x,y],argTypes:=#[t,tc]},type:=ty,pos:= "",after:=#[],guard:=none}).run P w=.ok (.value v) w'/\Frm V w V' w'/\q v V':=by
  intro old ho M;obtain⟨Y,hf⟩:=Frm.new hw (.cells (vs.toArray++y8 z.cells n++y8 z.cells (grownCap w (s.n+n) old e-(s.n+n))) e);have hge:=grownCap_ge w (s.n+n) old e;refine d ⟨_,_,_⟩ _ _ M hf ⟨Mem.sub.new own.sub Y _,G,.inr ⟨w.heap.size,_,rfl,?_,Mem.set_same _ _ _,hge,grownCap_le_maxLen w _ old e (by simp only[maxLen];omega),?_,?_⟩⟩
  ·cases h0:V0 w.heap.size with
   |none=>rfl
   |some x=>rw[own.sub _ _ h0]at Y;cases Y
  ·simp only[Array.size_append,List.size_toArray,size_zeroCells,Z,own.len,<-yb];congr 1;show _=grownCap w (s.n+n) old e;omega
  grind
 have hfitN:∀old,old<s.n+n->wE (s.n+n) old*i.bytes<=281474976710656:=λold ho=>growslice_fits (by omega) o;rcases own.at_ with⟨hs,hs',hv⟩|⟨g,cur,hp,hg,hV,J,X,hcs,A⟩
 ·subst hv;refine m s.c (by omega) ?_;have B:(xA i.size s.n (.slice s.p s.n s.c)).run P w.drew=.ok ([]:List Value).toArray w.drew:=by
   rw[hs];cases s.p with
   |none=>rfl
   |some a=>simp[xA,loadCells,loadCellsFrom]
  grind[qEO]
 ·by_cases l:s.n+n<=s.c
  ·have C:w.heap[g]?=some (.cells cur e (0,0)):=hw _ _ hV;have hle:(s.n+n)*i.size<=s.c*i.size:=y4 _ l;have hmul:(s.n+n)*i.size=s.n*i.size+n*i.size:=yb _ _ _;have M:=qIr (P:=P) (ty:=ty) E K hi hz S Z h1 g s.n s.c cur C n hn U (by omega) l (by omega);refine d ⟨some ⟨g,0,none⟩,s.n+n,s.c⟩ _ _ (by rw[hp];exact M) (Frm.row hw hV) ⟨own.sub.set hg _,G,.inr ⟨g,_,rfl,hg,Mem.set_same _ _ _,l,X,?_,?_⟩⟩;·grind
   grind
  ·refine m s.c (by omega) ?_;have D:w.ownsRow 0 e i.size (.slice s.p s.n s.c) s.n vs:=⟨own.len,.inr ⟨g,s.c,cur,by rw[hp],Nat.zero_le _,hw _ _ hV,J,X,hcs,A⟩⟩;have holds:∀j u,vs[j]?=some u->w.cell? ((⟨g,0,none⟩:Addr).add j)=some u:=D.cells (g:=g) (by rw[hp];rfl);have B:=run_firstCells_some (P:=P) w.drew i.size s.n ⟨g,0,none⟩ s.n s.c vs own.len (by simpa using holds);grind[qEO,xA]
end
theorem qLh(n:Nat):(y8 (xa .i64 0).cells n).toList=yJ n (xa .i64 0):=by
 have h:(xa .i64 0).cells=#[xa .i64 0]:=by rfl
 rw[h];unfold y8;refine zx λj=>?_;grind
theorem qLK(n:Nat):(madeCells (xa .i64 0).cells n).toList=yJ n (xa .i64 0):=by
 have h:(xa .i64 0).cells=#[xa .i64 0]:=by rfl
 rw[h];unfold madeCells;refine zx λj=>?_;grind
end Go.Sx
namespace Go.Proofs
open Go Go.Sx
attribute [local irreducible] Go.Sx.Tri
def NT(ty:Nat):Prop:=ty≠3/\ty≠92/\ty≠89
theorem nn{p:Addr}:¬(some p:Option Addr)=none:=nofun
theorem pnn{p:Addr}{n:Nat}:¬qAa (some p) n=none:=nofun
structure MA (ty:Nat)(V0:Mem)(p:Nat)(row:Sl->Sl->Sl->List Value)(V:Mem)(s:St):Prop where
 p0:V0 p=none
 ex:∃gs ns ls nd,V p=some (.cells (row gs ns ls).toArray ty (0,0))/\Lay V0 V gs ns ls nd s
section
variable{ty:Nat}{V0 V V' W:Mem}{p:Nat}{row row':Sl->Sl->Sl->List Value}{s s':St}{gs ns ls:Sl}{nd:List Nd}
theorem qHk{x:Array Value}(h:V p=some (.cells x ty (0,0)))(u:NT ty):Alien V p:=λy t l w=>by
 rw[h]at w;simp only[zF,Obj.cells.injEq]at w;obtain⟨-,w,-⟩:=w;rcases l with rfl|rfl|rfl;·exact u.1 w
 ·exact u.2.1 w
 ·exact u.2.2 w
theorem qHZ{x:Array Value}(h:V p=some (.cells x ty (0,0)))(u:NT ty){e:TypeId}{sz:Nat}{sl:Sl}{vs:List Value}(y:Sx.Own V0 V e sz sl vs)(l:e=3∨e=92∨e=89):¬Blk sl p:=y.apart λw m=>qHk h u w e l m
theorem Lay.same(L:Lay V0 V gs ns ls nd s)(h1:s'.g=s.g)(h2:s'.ns=s.ns)(h3:s'.lg=s.lg):Lay V0 V gs ns ls nd s':=⟨by rw[h1];exact L.glob,L.nodes,by rw[h3];exact L.log,L.fld,by rw[h2];exact L.eq,L.gf,L.ff⟩
theorem MA.sub(h:MA ty V0 p row V s):V0.sub V:=by
 obtain⟨_,_,_,_,_,L⟩:=h.ex;exact L.sub
theorem MA.grow(h:MA ty V0 p row V s)(w:V.sub V'):MA ty V0 p row V' s:=by
 obtain⟨gs,ns,ls,nd,u,L⟩:=h.ex;exact⟨h.p0,gs,ns,ls,nd,w _ _ u,L.grow w⟩
theorem MA.narrow(h:MA ty W p row V s)(w:V0.sub W):MA ty V0 p row V s:=by
 obtain⟨gs,ns,ls,nd,u,L⟩:=h.ex;refine⟨?_,gs,ns,ls,nd,u,L.narrow w⟩;cases y:V0 p with
 |none=>rfl
 |some o=>have:=w _ _ y;rw[h.p0]at this;cases this
theorem MA.set(h:NT ty)(p0:V0 p=none){x:Array Value}(u:V p=some (.cells x ty (0,0)))(L:Lay V0 V gs ns ls nd s){c:Array Value}(w:c=(row' gs ns ls).toArray)(h1:s'.g=s.g)(h2:s'.ns=s.ns)(h3:s'.lg=s.lg):MA ty V0 p row' (V.set p (.cells c ty (0,0))) s':=
 ⟨p0,gs,ns,ls,nd,by rw[Mem.set_same,w],(L.put (qHk u h) p0 _).same h1 h2 h3⟩
theorem MA.frame(h:MA ty V0 p row V s):∃M:Nat->Prop,(∀b,M b->V b≠none/\V0 b=none)/\∀V',(∀b o,M b->V b=some o->V' b=some o)->MA ty (Mem.minus V' M) p row V' s:=by
 obtain⟨gs,ns,ls,nd,u,L⟩:=h.ex;refine⟨Mine p gs ns ls nd,λb w=>⟨L.mineV (by rw[u];simp) w,L.mine0 h.p0 w⟩,λV' y=>⟨qBC (.inl rfl),gs,ns,ls,nd,y _ _ (.inl rfl) u,L.frame y⟩⟩
theorem MA.after(h:MA ty V0 p row V s)(w:V.sub V'):∃W,V0.sub W/\W.sub V'/\MA ty W p row V' s/\∀b o,V b=none->V' b=some o->W b=some o:=by
 obtain⟨M,h1,h2⟩:=h.frame;refine⟨Mem.minus V' M,λb o u=>?_,qCh,h2 V' λb o _ u=>w _ _ u,λb o u y=>?_⟩;·rw[qBe λhm=>by simp_all];exact w _ _ (h.sub _ _ u)
 grind[qBe]
theorem MA.beside(h:MA ty W p row V s){e:TypeId}{sz:Nat}{sl y:Sl}{vs x:List Value}(l:V0.sub W)(v:Sx.Own V0 W e sz sl vs)(u:Sx.Own (V.but sl) V' e sz y x):∃m,V0.sub m/\MA ty m p row V' s/\Sx.Own V0 m e sz y x:=by
 obtain⟨M,h1,h2⟩:=h.frame;have nb:∀b,M b->¬Blk sl b:=λb hm w=>by
  grind[Own.some]
 have keep:∀b o,V b=some o->¬Blk sl b->V' b=some o:=λb o w J=>u.sub _ _ (Mem.but_at w J);have G:∀b,M b->¬Blk y b:=λb hm w=>by
  have h0:=Own.none0 u w;cases q:V b with
  |none=>simp_all
  |some o=>grind[Mem.but_at]
 have d:V0.sub (Mem.minus V' M):=λb o w=>by
  have hw:=l _ _ w;rw[qBe λhm=>by simp_all];exact keep _ _ (h.sub _ _ hw) λN=>by grind[Own.none0]
 refine⟨Mem.minus V' M,d,h2 V' λb o hm w=>keep b o w (nb b hm),d,u.len,?_⟩;rcases u.cases0 with Z|⟨q,g,cur,a,b,c,dd⟩;·exact .inl Z
 ·refine .inr ⟨g,cur,a,?_,?_,dd⟩
  ·cases h0:V0 g with
   |none=>rfl
   |some o=>
    have hw:=h.sub _ _ (l _ _ h0);rw[Mem.but_at hw (v.apart0 h0)]at b;cases b
  ·rw[qBe λhm=>G g hm ⟨q,a⟩];exact c
end
theorem qAN{V:Mem}{b:Nat}{c:Array Value}{t:Nat}{fr:Nat×Nat}(h:V b=some (.cells c t fr))(j off n:Nat)(u:j+off+n<=c.size):V.rowp (qAa (sa b) j) off n=some ((c.toList.drop (j+off)).take n):=by
 have:=qAd h (j+off) n u;rw[<-this];show V.row (((⟨b,0,none⟩:Addr).add j).add off) n=V.row ((⟨b,0,none⟩:Addr).add (j+off)) n;rw[add_add]
theorem qJo{V:Mem}{b:Nat}{n:Int}{t:Nat}(h:V b=some (.cells #[.int .i64 n] t (0,0))):qAc V ⟨some ⟨b,0,none⟩,1,1⟩ 1 ([n].map qAe):=
 qAc.cells (xs:=[n]) (row:=qAe) h rfl (λ_=>rfl) rfl (by simp)
theorem c42{V:Mem}{l:Sl}{xs:List Int}(h:qAc V l 1 (xs.map qAe))(x:xs.length<=2147483648):Tri xE 42 #[l.v] V λe V'=>∃s:Sl,e=.returned (.slice s.p s.n s.c)/\Sx.Own V V' 3 1 s (xs.flatMap qAe):=by
 refine x42 ?_;refine⟨λh0=>⟨⟨none,0,0⟩,rfl,?_⟩,λh0 m w=>?_⟩
 ·have:xs=[]:=by
   cases xs with
   |nil=>rfl
   |cons a o=>
    have:=h.base (i:=0) (by simp);simp_all
  grind[Own.nil,Mem.sub.refl]
 ·have y:=Zn w (.cells #[] 3 (0,0));exact qCU (s:=⟨some ⟨m,0,none⟩,0,0⟩) (u:=l) (xs:=[]) (ys:=xs) rfl rfl (Own.empty (V0:=V) y _ _ _) (h.sub y) (by simpa using x) λs' V' q=>⟨s',rfl,s',rfl,by simpa using q⟩
end Go.Proofs
namespace Go.Sx
open Go
def qAK(r:Option Nat):Fence:={wF with round:=r}
section
variable{P:Program}{r:Option Nat}{n:Nat}
theorem qEK{f:FuncId}{args:Array Value}{w:World}{R:Ending->World->Prop}:CallsIn (qAK r) n P f args w R↔Calls P f args w R:=callsIn_wide (n:=n)
theorem rowsIn_wideR{row:String}{args:Array Value}{w:World}{R:Value->World->Prop}(h:Rows P row args w R):RowsIn (qAK r) n P row args w R:=λc cs _=>
 let⟨v,w',q,s⟩:=h c cs
 ⟨v,w',q,stepsIn_wide.2 s⟩
theorem qKA{o:Oper}{a:Act}{w:World}{next:Act->World->Prop}{Q:Exit->Act->World->Prop}(u:∀c,o.op≠.defer c)(h:o.wp P a w next Q):o.wpIn (qAK r) n P a w next Q:=by
 refine⟨λ_ _=>trivial,?_⟩;rw[Oper.semAt_eq _ _ _ u];unfold Oper.wp at h;revert h;generalize(execOp a.eval o).run P w=res;intro h;cases res with
 |ok x w'=>
  cases x with
  |enter f args=>exact⟨λh=>by simp[qAK,wF]at h,qEK.2 h⟩
  |row row args=>exact⟨λh=>by simp[qAK,wF]at h,rowsIn_wideR h⟩
  |value v=>exact h
  |skip=>exact h
  |defer d=>exact h
  |_=>exact h.elim
 |halt x w'=>cases x<;>first|exact h|exact h.elim
def qGN:Op->Bool
 |.defer _=>false
 |_=>true
theorem qDQ{o:Op}(h:qGN o=true):∀c,o≠.defer c:=λc e=>by subst e;cases h
def qDu:Code->Bool
 |.region _ h _=>h.all λo=>qGN o.op
 |.seq x y=>qDu x&&qDu y
 |.block _ b=>qDu b
 |.cond _ x y=>qDu x&&qDu y
 |.loop b=>qDu b
 |_=>true
theorem qEc{ops:Array Oper}{Q:Exit->Act->World->Prop}(x:¬LetsOut Q)(b:∀o∈ops,∀c,o.op≠.defer c)(l:List Oper):∀k,(∀j,j<l.length->l[j]?=ops[k+j]?)->∀a w,wpList P ops Q l a w->
  wpOpsIn (qAK r) n P ops Q (wG k l.length) a w:=by
 induction l with
 |nil=>grind[wpOpsIn,wpList]
 |cons o l m=>
  intro k h a w hw;have h0:ops[k]?=some o:=by simpa using(h 0 (by simp)).symm
  have u:=m (k+1) (λj q=>by have:=h (j+1) (by simpa using q);grind);simp only[List.length_cons,List.range'_succ,wpOpsIn,h0];simp only[wpList]at hw;split
  ·rename_i y;rw[if_pos y]at hw;grind[qKA,wH,Oper.wp_mono]
  ·rename_i y;rw[if_neg y]at hw;exact⟨λ_ _=>trivial,u _ _ hw⟩
theorem qIn{ops:Array Oper}{Q:Exit->Act->World->Prop}(y:¬LetsOut Q)(q:∀o∈ops,∀c,o.op≠.defer c){md:Region.Mode}:∀fuel listed a w,wpAny P md ops Q fuel listed a w->
  wpAnyIn (qAK r) n P md ops Q fuel listed a w:=by
 intro fuel;induction fuel with
 |zero=>exact λ_ _ _ h=>h
 |succ fuel x=>
  rintro listed a w ⟨h1,h2⟩;refine⟨h1,λi l=>?_⟩;have:=h2 i l;unfold wpOp at this;unfold wpOpIn;split;·simp_all
  ·rename_i o m;simp only[m]at this;split
   ·rename_i u;rw[if_pos u]at this;grind[qKA,wH,Oper.wp_mono]
   ·rename_i u;rw[if_neg u]at this;exact⟨λ_ _=>trivial,x _ _ _ this⟩
end
open Classical in
theorem qGx{P:Program}{F:Fence}{u:Nat}{c:Code}{Q:Exit->Act->World->Prop}{a:Act}{w:World}(Inv:Nat->Act->World->Prop)(h0:∃n,Inv n a w)
  (round:∀n a w,Inv n a w->c.wpIn F u P (Exit.then (λy w'=>∃n',n'<n/\Inv n' y w') Q) a w):(Code.loop c).wpIn F u P Q a w:=by
 let m:Act->World->Nat:=λa w=>if h:∃n,Inv n a w then Classical.choose (qHI _ h)else 0
 have hm:∀a w (h:∃n,Inv n a w),Inv (m a w) a w/\∀k,Inv k a w->m a w<=k:=λa w h=>by
  grind
 refine wpIn_loop (λa w=>∃n,Inv n a w) m h0 λa w x=>?_;obtain⟨h1,h2⟩:=hm a w x;refine wpIn_mono (round _ a w h1) (λe y w' q=>?_);grind
section
variable{all:Array Oper}{k:St->Tr}{Q:Exit->Act->World->Prop}
variable{P:Program}{R:Ending->Mem->Prop}{V0:Mem}{w0:World}{L:List (KZ)}{ρ0:List Value}{fs:List Nat}{H:qHO}
theorem qJg(u:qCn P fs){st:St}{a:Act}{w:World}(I:qKw R V0 w0 a.defers Q)(h:qCW P R noO V0 w0 H.N L ρ0 a.tmps w st (qCS P fs H all st k))
  (q:LetsOut (λ(_:Exit) (_:Act) (_:World)=>False)->LetsOut Q)
  (M:∀m b w',b.defers=a.defers->qCW P R noO V0 w0 H.N L ρ0 b.tmps w' m (k m)->Q .normal b w'):wpAny P .any all Q all.size (wI all.size false) a {w with drawn:=w.drawn+1}:=by
 unfold qCS at h;simp only at h;obtain⟨β,ρ,V,hp,F,v⟩:=h;split at v;case isFalse=>exact v.elim
 rename_i A;simp only[zC,List.all_eq_true]at A;obtain⟨J,G⟩:=A;obtain⟨Z,h2,h3,h4,X⟩:=qJT J;have l:∀j d,j<all.size->(wI all.size false).getD j d=false:=λj d y=>by simp_all
 refine(any_sound u Z (λi o B=>G o (by grind)) I q M all.size (List.range all.size) (qHD all (qAV all.toList []) all.size 0) [] st _ a _ a [] noO (λx=>x) ?_ rfl List.nodup_range (by simp) λj=>?_)
 ·exact
  {lsize:=by simp
   closed:=λj C y Y=>by
    rw[l j _ (yA.1 y).1]at Y;cases Y
   chain:=X
   nd:=h3
   bound:=h4
   unl:=λj y _=>.inr (nodup_all h3 h4 h2 y)
   pu:=λj y=>by cases y
   ru:=λj y=>.inl (l j _ (h4 j y))
   boi:=λi D j y Y=>by omega
   fsize:=rfl
   fdef:=rfl
   fill:=λs _=>rfl
   goes:=⟨_,β,ρ,V,hp,F.drawn _,v⟩}
 simp_all
end
section
variable{P:Program}{R:Ending->Mem->Prop}{O V0:Mem}{w0:World}{fs:List Nat}{H:qHO}
theorem noOut(Q:Exit->Act->World->Prop):¬LetsOut (λe u w'=>e≠.outgrown/\Q e u w'):=λ⟨_,_,h⟩=>h.1 rfl
theorem nd1{x y:Bool}(h:(x&&y)=true):x=true:=by simp_all
theorem nd2{x y:Bool}(h:(x&&y)=true):y=true:=by simp_all
theorem ndOps{id:Nat}{ops:Array Oper}{d:Bool}(h:qDu (.region id ops d)=true):∀o∈ops,qGN o.op=true:=by
 grind[qDu,wJ]
theorem ex_sound_in{r:Option Nat}{n₀:Nat}(F:qCn P fs)(hm:P.follows .mixedOrders=true):∀(c:Code),qDu c=true->∀(L:List (KZ))(ρ0:List Value)(st:St)(k:Ex->St->Tr)(a:Act)(w:World)(Q:Exit->Act->World->Prop),
  qKw R V0 w0 a.defers Q->qCW P R noO V0 w0 H.N L ρ0 a.tmps w st (ex P fs H c st k)->
  (∀e u m w' E,L<+:E->m.defers=a.defers->qCW P R noO V0 w0 H.N E ρ0 m.tmps w' u (k e u)->Q e.toExit m w')->c.wpIn (qAK r) n₀ P Q a w:=by
 intro c;induction c with
 |skip=>intro nd L ρ0 st k a w Q G h l;exact wpIn_skip (l .normal st a w L (yw _) rfl h)
 |ret=>intro nd L ρ0 st k a w Q G h l;exact wpIn_ret (l .ret st a w L (yw _) rfl h)
 |exit id=>intro nd L ρ0 st k a w Q G h l;exact wpIn_exit (l (.exit id) st a w L (yw _) rfl h)
 |seq x y K S=>
  intro nd L ρ0 st k a w Q G h l;refine wpIn_seq (K (nd1 nd) L ρ0 st _ a w _ G h λe u m w' E hL Y A=>?_);cases e with
  |normal=>exact S (nd2 nd) E ρ0 u k m w' Q (by grind) A λe st'' a'' w'' L'' hL' hd' hg'=>l e st'' a'' w'' L'' (hL.trans hL') (hd'.trans Y) hg'
  |exit i=>exact l (.exit i) u m w' E hL Y A
  |ret=>exact l .ret u m w' E hL Y A
 |block id b ih=>
  intro nd L ρ0 st k a w Q G h l;refine wpIn_block (ih nd L ρ0 st _ a w _ G h λe u m w' E hL Y A=>?_);cases e with
  |normal=>exact l .normal u m w' E hL Y A
  |exit i=>
   simp only at A;show(if i=id then Q .normal m w' else Q (.exit i) m w');split;·rename_i e;rw[if_pos e]at A;exact l .normal u m w' E hL Y A
   ·rename_i e;rw[if_neg e]at A;exact l (.exit i) u m w' E hL Y A
  |ret=>exact l .ret u m w' E hL Y A
 |cond c x y K S=>
  intro nd L ρ0 st k a w Q G h l;obtain⟨β,ρ,V,C,X,q⟩:=h;simp only[ex]at q;split at q
  ·rename_i v hv;have he:a.eval c=.bool v:=qAS X hv;cases v with
   |true=>exact wpIn_cond_true he (K (nd1 nd) L ρ0 st k a w Q G ⟨β,ρ,V,C,X,q⟩ l)
   |false=>exact wpIn_cond_false he (S (nd2 nd) L ρ0 st k a w Q G ⟨β,ρ,V,C,X,q⟩ l)
  ·rename_i t _ ht;split at q
   ·rename_i hc;obtain⟨hc1,hc2⟩:=hc;obtain⟨b,hb⟩:=qGV (ρ:=ρ) (β:=β) hc1;have he:a.eval c=.bool b:=(qAS X ht).trans hb;have hfr:=(T.ev_free (β:=id) (β':=β) (ρ:=ρ) t hc2).1;split at q
    ·rename_i d;simp only[D,hfr,hb,asB]at q;have B:Rel noO V0 w0 H.N β (st.now d (.bool b)) ρ V a.tmps w:=X.now (t:=t) ht (by rw[hb];rfl);cases b with
     |true=>exact wpIn_cond_true he (K (nd1 nd) L ρ0 _ k a w Q G ⟨β,ρ,V,C.now _ _,B,q.1 rfl⟩ l)
     |false=>exact wpIn_cond_false he (S (nd2 nd) L ρ0 _ k a w Q G ⟨β,ρ,V,C.now _ _,B,q.2 rfl⟩ l)
    ·simp only[D,hfr,hb,asB]at q;cases b with
     |true=>exact wpIn_cond_true he (K (nd1 nd) L ρ0 _ k a w Q G ⟨β,ρ,V,C,X,q.1 rfl⟩ l)
     |false=>exact wpIn_cond_false he (S (nd2 nd) L ρ0 _ k a w Q G ⟨β,ρ,V,C,X,q.2 rfl⟩ l)
   ·exact q.elim
  ·exact q.elim
 |region id ops draw=>
  intro nd L ρ0 st k a w Q G h l;cases draw with
  |true=>
   refine wpIn_mono (wpIn_region_any (Q:=λe m w'=>e≠.outgrown/\Q e m w') hm (qIn (noOut Q) (λo ho=>qDQ (ndOps nd o ho)) _ _ _ _ (qJg F (λch m w' Y hR=>⟨by simp,G ch m w' Y hR⟩) h (λ⟨_,_,h⟩=>h.elim) λu m w' Y A=>⟨by simp,l .normal u m w' L (yw _) Y A⟩))) λe a w h=>h.2
  |false=>
   refine wpIn_mono (wpIn_region (Q:=λe m w'=>e≠.outgrown/\Q e m w') ?_) λe a w h=>h.2;rw[List.range_eq_range',<-wC];exact qEc (noOut Q) (λo ho=>qDQ (ndOps nd o ho)) _ _ (λj _=>by simp) _ _ (qDw F ops.toList st a w (λch m w' Y hR=>⟨by simp,G ch m w' Y hR⟩) h λu m w' Y A=>⟨by simp,l .normal u m w' L (yw _) Y A⟩)
 |loop b ih=>
  intro nd L ρ0 st k a w Q G h l;obtain⟨β,ρ,V,C,X,q⟩:=h;simp only[ex,exLoop]at q;generalize dedup (qHP b)=ws at q;generalize(((qBV b).bind λi=>H.loops.lookup i).getD [])=hint at q;obtain⟨u,t,A,hfree,β',ρ',V',hp',hr',Z⟩:=qBb _ _ _ _ ⟨β,ρ,V,C,X,q⟩;split at Z;case isFalse=>exact Z.elim
  rename_i hw;split at Z;·exact Z.elim
  ·rename_i st1 bs hgb;split at Z;·exact Z.elim
   ·rename_i init hinit;split at Z;case isFalse=>exact Z.elim
    rename_i hok;simp only[D]at Z;obtain⟨I,μ,hI,hround⟩:=Z;obtain⟨hrh,hsh⟩:=qIH hw hr'.nv (yw _) hgb hinit hok hr';let Inv:Nat->Act->World->Prop:=λn m w'=>∃β xs V',Shaped (bs.flatMap (·.2.2)++(qAO ws st1).2.flatMap (·.2.2)) xs/\I xs V'/\μ xs V'=n/\
     Rel noO V0 w0 H.N β {(qAO ws st1).1 with depth:=u.depth+1} (ρ'++xs) V' m.tmps w'/\m.defers=a.defers
    refine qGx Inv ⟨_,β',init.evs ρ' id,V',hsh,hI,rfl,hrh,rfl⟩ ?_;rintro n a1 w1 ⟨β1,xs,V1,hsh1,hI1,rfl,hr1,hd1⟩;have hDb:=hround xs V1 hsh1 hI1;refine ih nd (L++[λys U=>I ys U/\μ ys U<μ xs V1]) ρ' _ _ a1 w1 _ (by rw[hd1];exact G) ⟨β1,ρ'++xs,V1,⟨yC _ _,?_⟩,hr1,hDb⟩ ?_;·simp[hp'.2]
    ·intro e st2 a2 w2 L2 hL2 hd2 hg2;cases e with
     |normal=>
      obtain⟨β2,ρ2,V2,hp2,hr2,M⟩:=hg2;simp only at M;split at M
      ·rename_i vs hvs;split at M
       ·rename_i hok2;simp only[D]at M;obtain⟨J,hJ,hJ2⟩:=M;have hlvl:L2[u.depth]?=some (λys U=>I ys U/\μ ys U<μ xs V1):=by
         obtain⟨σ,rfl⟩:=hL2;rw[<-hp'.2,wB (by simp),List.getElem?_append_right (yV _)];simp
        rw[hlvl]at hJ;simp only[zF]at hJ;subst hJ;obtain⟨hrh2,hsh2⟩:=qIH hw hr'.nv hp2.1 hgb hvs hok2 hr2;exact⟨_,hJ2.2,β2,vs.evs ρ2 id,V2,hsh2,hJ2.1,rfl,hrh2,hd2.trans hd1⟩
       ·exact M.elim
      ·exact M.elim
     |exit i=>exact l (.exit i) st2 a2 w2 L2 ((yC _ _).trans hL2) (hd2.trans hd1) (hg2.weak hp'.1)
     |ret=>exact l .ret st2 a2 w2 L2 ((yC _ _).trans hL2) (hd2.trans hd1) (hg2.weak hp'.1)
 |rangeFunc _ _ _ _ _ _=>intro nd L ρ0 st k a w Q G h l;obtain⟨β,ρ,V,C,X,q⟩:=h;exact q.elim
 |scope _ _=>intro nd L ρ0 st k a w Q G h l;obtain⟨β,ρ,V,C,X,q⟩:=h;exact q.elim
 |label _=>intro nd L ρ0 st k a w Q G h l;obtain⟨β,ρ,V,C,X,q⟩:=h;exact q.elim
 |goto _=>intro nd L ρ0 st k a w Q G h l;obtain⟨β,ρ,V,C,X,q⟩:=h;exact q.elim
 |refuse _=>intro nd L ρ0 st k a w Q G h l;obtain⟨β,ρ,V,C,X,q⟩:=h;exact q.elim
end
section
variable{P:Program}{fs:List Nat}{H:qHO}
def wpL(r:Option Nat)(n:Nat)(P:Program)(Q:Exit->Act->World->Prop):List Code->Act->World->Prop
 |[],a,w=>Q .normal a w
 |c::cs,a,w=>c.wpIn (qAK r) n P (Exit.then (wpL r n P Q cs) Q) a w
def flat:Code->List Code
 |.seq x y=>flat x++flat y
 |c=>[c]
theorem qKz{r:Option Nat}{n:Nat}{Q:Exit->Act->World->Prop}{u:List Code}:∀{y:List Code}{a:Act}{w:World},wpL r n P (Exit.then (wpL r n P Q u) Q) y a w->wpL r n P Q (y++u) a w
 |[],_,_,h=>h
 |c::cs,a,w,h=>by
  refine wpIn_mono (show c.wpIn (qAK r) n P _ a w from h) λe l w' x=>?_;cases e with
  |normal=>exact qKz x
  |_=>exact x
theorem qDb{r:Option Nat}{n:Nat}{Q y:Exit->Act->World->Prop}(u:∀e a w,Q e a w->y e a w):∀{l:List Code}{a:Act}{w:World},wpL r n P Q l a w->wpL r n P y l a w
 |[],_,_,h=>u _ _ _ h
 |c::cs,a,w,h=>by
  refine wpIn_mono (show c.wpIn (qAK r) n P _ a w from h) λe m w' x=>?_;cases e with
  |normal=>exact qDb u x
  |_=>exact u _ _ _ x
theorem qGb{r:Option Nat}{n:Nat}{Q:Exit->Act->World->Prop}{u:List Code}:∀{y:List Code}{a:Act}{w:World},wpL r n P Q (y++u) a w->wpL r n P (Exit.then (wpL r n P Q u) Q) y a w
 |[],_,_,h=>h
 |c::cs,a,w,h=>by
  refine wpIn_mono (show c.wpIn (qAK r) n P _ a w from h) λe l w' x=>?_;cases e with
  |normal=>exact qGb x
  |_=>exact x
theorem qCO{r:Option Nat}{n:Nat}:∀{c:Code}{Q:Exit->Act->World->Prop}{a:Act}{w:World},wpL r n P Q (flat c) a w->c.wpIn (qAK r) n P Q a w:=by
 intro c;induction c with
 |seq x y l m=>
  intro Q a w h;refine wpIn_seq (l ?_);refine qDb (λe a w u=>?_) (qGb h);cases e with
  |normal=>exact m u
  |_=>exact u
 |_=>
  intro Q a w h;refine wpIn_mono (show Code.wpIn (qAK r) n P _ _ a w from h) λe q w' u=>?_;cases e with
  |normal=>exact u
  |_=>exact u
def Seg(P:Program)(N:Nat)(cs:List Code)(h:List (Nat×Value))(outs:List Nat)(V:Mem)(R:KZ):Prop:=
 ∀r n a w,V.le w->a.tmps.size=N->(∀s v,h.lookup s=some v->a.tmps.getD s undef=v)->
  wpL r n P (λe u w'=>e=.normal/\u.defers=a.defers/\u.tmps.size=N/\∃vs V',(∀s v,(outs.zip vs).lookup s=some v->u.tmps.getD s undef=v)/\R vs V'/\Frm V w V' w') cs a w
theorem Seg.mono{N:Nat}{cs:List Code}{u:List (Nat×Value)}{outs:List Nat}{V:Mem}{R y:KZ}(h:Seg P N cs u outs V R)(x:∀vs V',R vs V'->y vs V'):Seg P N cs u outs V y:=
 λr n a w l m q=>qDb (λ_ _ _ ⟨h1,h2,h3,vs,V',h4,o,b⟩=>⟨h1,h2,h3,vs,V',h4,x _ _ o,b⟩) (h r n a w l m q)
def exL(P:Program)(fs:List Nat)(H:qHO):List Code->St->(Ex->St->Tr)->Tr
 |[],st,k=>k .normal st
 |c::cs,st,k=>ex P fs H c st λe st=>match e with|.normal=>exL P fs H cs st k|e=>k e st
def segT(P:Program)(fs:List Nat)(H:qHO)(cs:List Code)(slots:List (Nat×T))(nv:Nat)(outs:List Nat):Tr:=
 if(slots.all λx=>x.2.wf nv 0)/\cs.all qDu then
  exL P fs H cs {slots,boxes:=[],nv,nb:=0,depth:=0} λe st=>
   match e with
   |.normal=>pubT (st.nb+2) st (λst=>(qFp st outs).map T.tup) λ_ t=>.ret t
   |_=>.bad 60 0
 else .bad 61 0
theorem exL_sound{R:Ending->Mem->Prop}{V0:Mem}{w0:World}{r:Option Nat}{n:Nat}(u:qCn P fs)(hm:P.follows .mixedOrders=true){k:Ex->St->Tr}{Q:Exit->Act->World->Prop}{ρ0:List Value}:∀{cs:List Code}{L:List (KZ)}{st:St}{a:Act}{w:World},
  qKw R V0 w0 a.defers Q->qCW P R noO V0 w0 H.N L ρ0 a.tmps w st (exL P fs H cs st k)->cs.all qDu=true->
  (∀e y l w' m,L<+:m->l.defers=a.defers->qCW P R noO V0 w0 H.N m ρ0 l.tmps w' y (k e y)->Q e.toExit l w')->wpL r n P Q cs a w
 |[],L,st,a,w,_,h,_,q=>q .normal st a w L (yw _) rfl h
 |c::cs,L,st,a,w,M,h,x,q=>by
  simp only[List.all_cons,zC]at x;refine ex_sound_in u hm c x.1 L ρ0 st _ a w _ M h λe y l w' m b d v=>?_;cases e with
  |normal=>exact exL_sound u hm (by grind) v x.2 λe o J G Z Y A I=>q e o J G Z (b.trans Y) (A.trans d) I
  |exit i=>exact q (.exit i) y l w' m b d v
  |ret=>exact q .ret y l w' m b d v
end
section
variable{P:Program}{fs:List Nat}{H:qHO}
theorem qDT{f:T->Value}:∀{l:List Nat}{ts:List T}{s:Nat}{v:Value},(l.zip (ts.map f)).lookup s=some v->∃t,(l.zip ts).lookup s=some t/\f t=v/\s∈l
 |[],_,s,v,h=>by simp at h
 |x::xs,[],s,v,h=>by simp at h
 |x::xs,t::ts,s,v,h=>by
  simp only[zG,List.zip_cons_cons,zd]at h⊢;by_cases e:s=x;·simp_all
  ·have:(s==x)=false:=by simpa using e
   rw[this]at h⊢;obtain⟨u,h1,h2,h3⟩:=qDT h;simp_all
theorem qDU{f:T->Value}:∀{l:List (Nat×T)}{s:Nat}{t:T},l.lookup s=some t->(l.map λx=>(x.1,f x.2)).lookup s=some (f t)
 |[],s,t,h=>by simp at h
 |(x,u)::xs,s,t,h=>by
  simp only[zG,zd]at h⊢;split at h;·simp_all
  ·exact qDU h
theorem seg_sound(l:qCn P fs)(hm:P.follows .mixedOrders=true){N:Nat}{cs:List Code}{slots:List (Nat×T)}{nv:Nat}{outs:List Nat}{t:Tr}(U:segT P fs {H with N:=N} cs slots nv outs=t)(ρ:List Value)(hn:ρ.length=nv)
  {d:List (Nat×Value)} (J:d=slots.map λx=>(x.1,x.2.ev ρ id)) {V:Mem} {R:KZ} {q:Prop} (hq:q=DT P {} (λe V'=>∃vs:List Value,e=.returned (.tuple vs.toArray)/\R vs V') t [] ρ V) (h:q):
  Seg P N cs d outs V R:=by
 intro r n a w hV hN hs;subst hq J U;have u:=qBW _ _ _ _ h;unfold segT at u;split at u;case isFalse=>exact u.elim
 rename_i hw;obtain⟨hwf,I⟩:=hw;refine exL_sound (L:=[]) (ρ0:=ρ) (V0:=V) (w0:=w) l hm (λ_ _ _ _ h=>by simp_all) ⟨id,ρ,V,⟨yw _,rfl⟩,?_,u⟩ I ?_
 ·exact
   {nv:=hn
    size:=hN
    slots:=λs t G=>by
     have hl:=qDm G;simp_all[qDU,id]
    frm:=Frm.refl hV
    boxes:=λi cs ty B=>by simp[St.box]at B
    hid:=λb o hb=>by cases hb
    inj:=λi j B _ _=>by grind}
 ·intro e st' a' w' L' _ hd G;cases e with
  |exit j=>obtain⟨β,m,V2,C,Z,u⟩:=G;exact u.elim
  |ret=>obtain⟨β,m,V2,C,Z,u⟩:=G;exact u.elim
  |normal=>
   obtain⟨st2,t2,Y,M,β,m,V2,C,Z,u⟩:=qBb _ _ _ _ G;simp only[zj]at Y;obtain⟨x,E,rfl⟩:=Y;simp only[D]at u;obtain⟨vs,h1,h2⟩:=u;simp only[T.ev,wK,wL]at h1;have F:T.evs m id x=vs:=by simp_all
   refine⟨rfl,hd,Z.size,vs,V2,λs v A=>?_,h2,Z.frm⟩;rw[<-F,qAP]at A;obtain⟨t,g1,g2,K⟩:=qDT A;obtain⟨y,S,g5⟩:=qED E s K;have X:=qDh E s K;rw[g1,S]at X;simp only[zF]at X;subst X;rw[Z.slots s t S,<-g2];grind[qIL,T.firstBox,T.ev_free]
end
section
variable{P:Program}
def qEh(fn:FuncId)(tmps:Array Value)(ps:Array Tmp)(assign body:Code)(D:Nat):Loop:={state:=.ready,pending:=none,fn,tmps,params:=ps,assign,body,defers:=D}
theorem qHA{g:Operand}{ps:Array Tmp}{assign body:Code}{a:Act}{w:World}{V:Mem}{f:FuncId}{caps:Array Value}{n:Nat}{Q:Exit->Act->World->Prop}{Φ:Mem->Prop}
  (N:V.le w) (B:a.eval g=.func (.func f) #[] caps) (C:∀args w,(callFunc f args).run P w=.ok (.enter f args) w)
  (hit:∀fn l D,V l=none->Tri P f (#[.func (.yield l) #[] #[]]++caps) (V.set l (.loop (qEh fn a.tmps ps assign body D))) λe V'=>(∃v,e=.returned v)/\∃V2,V'=V2.set l (.loop (qEh fn a.tmps ps assign body D))/\V2 l=none/\Φ V2)
  (d:∀D V' W,w.heap.size<=D->Frm V w V' W->V' D=none->W.heap[D]?=some (.deferred (some []))->Φ V'->Q .normal {a with defers:={target:=.collected D,args:=#[]}::a.defers} W):
  (Code.rangeFunc g ps assign body).wpIn (qAK none) n P Q a w:=by
 refine wpIn_rangeFunc λfn _=>?_;obtain⟨u,x⟩:∃u,(w.alloc (.deferred (some []))).alloc (.loop (qEh fn a.tmps ps assign body w.heap.size))=u:=⟨_,rfl⟩;have E:u.heap.size=w.heap.size+2:=by rw[<-x];simp
 have K:u.heap[w.heap.size+1]?=some (.loop (qEh fn a.tmps ps assign body w.heap.size)):=by
  grind[wM,qEh,World.size_alloc]
 have Z:u.heap[w.heap.size]?=some (.deferred (some [])):=by
  grind[xP,wM]
 have m:∀b,b<w.heap.size->u.heap[b]?=w.heap[b]?:=λb y=>by
  grind[xP]
 have Y:∀b,w.heap.size<=b->V b=none:=λb y=>by
  cases X:V b with
  |none=>rfl
  |some o=>have:=(yA.1 (N b o X)).1;omega
 have A:(V.set (w.heap.size+1) (.loop (qEh fn a.tmps ps assign body w.heap.size))).le u:=λb o y=>by
  by_cases e:b=w.heap.size+1;·grind[Mem.set_same]
  ·rw[Zm e]at y;have:=(yA.1 (N b o y)).1;rw[m b this];exact N b o y
 refine⟨w.heap.size+1,[{target:=.collected w.heap.size,args:=#[]}],u,{target:=.fn (.func f) caps,args:=#[.func (.yield (w.heap.size+1)) #[] #[]]},u,f,
  #[.func (.yield (w.heap.size+1)) #[] #[]]++caps,u,?_,?_,?_,?_,λh=>by simp[qAK,wF]at h,?_⟩
 ·rw[<-x];exact run_enterLoop_outer _ _ _ _ _
 ·simp only[resolve,B];simp[go_sem]
 ·intro U S;trivial
 ·simp[invoke,go_sem,C]
 ·refine qEK.2 (qDp (hit fn (w.heap.size+1) w.heap.size (Y _ (by omega)) u A) ?_);rintro e J ⟨V',⟨⟨v,rfl⟩,V2,rfl,h2,I⟩,q⟩;have G:J.heap[w.heap.size+1]?=some (.loop (qEh fn a.tmps ps assign body w.heap.size)):=q.le _ _ (Mem.set_same _ _ _);have T:w.heap.size+1<J.heap.size:=(yA.1 G).1;refine⟨none,_,run_endLoop (P:=P) G (by simp[qEh]),?_⟩;have M:(V.set (w.heap.size+1) (.loop (qEh fn a.tmps ps assign body w.heap.size))) w.heap.size=none:=by
   simp_all[Zm,yV]
  have F:J.heap[w.heap.size]?=some (.deferred (some [])):=(q.old _ (by omega) M).trans Z;refine d w.heap.size V2 _ (yV _) ?_ ?_ ((wN (by omega)).trans F) I
  ·refine⟨?_,λb o y=>?_,λb y hn=>?_,λb y=>?_,?_,?_⟩;·grind[wO]
   ·have e:b≠w.heap.size+1:=λe=>by simp_all
    refine(wN e).trans (q.le b o ?_);rw[Zm e];exact y
   ·refine(wN (by omega)).trans ((q.old b (by omega) ?_).trans (m b y));grind[Zm]
   ·have e:b≠w.heap.size+1:=λe=>by simp_all
    rcases q.dom b (by rw[Zm e];exact y)with h|h
    ·grind[Zm]
    omega
   ·show J.os=w.os;rw[q.os,<-x];rfl
   ·show J.output=w.output;rw[q.out,<-x];rfl
  ·cases X:V2 w.heap.size with
   |none=>rfl
   |some o=>
    rcases q.dom w.heap.size (by grind[Zm])with h|h;·grind
    ·omega
theorem qHv{l:Nat}{V:Mem}{w:World}{fn:FuncId}{tmps:Array Value}{ps:Array Tmp}{assign body:Code}{D:Nat}{args:Array Value}{N n:Nat}(hl:V l=none)
  (hV:(V.set l (.loop (qEh fn tmps ps assign body D))).le w) {insA:List (Nat×Value)} {outsA:List Nat} {RA:KZ} {J:Mem->Prop} (hN:((ps.zip args).foldl (λt (p,v)=>t.setIfInBounds p v) tmps).size=N)
  (m:∀s v,insA.lookup s=some v->((ps.zip args).foldl (λt (p,v)=>t.setIfInBounds p v) tmps).getD s undef=v)
  (hA:Seg P N [assign] insA outsA V RA) (hB:∀vs V1,RA vs V1->Seg P N [body] (outsA.zip vs) [] V1 λ_ V2=>J V2):
  RoundIn (qAK none) n P l fn ((ps.zip args).foldl (λt (p,v)=>t.setIfInBounds p v) tmps) assign body w λe w'=>
   e=.returned (.bool true)/\∃V2,J V2/\V2 l=none/\Frm (V.set l (.loop (qEh fn tmps ps assign body D))) w (V2.set l (.loop (qEh fn tmps ps assign body D))) w':=by
 have q:w.heap[l]?=some (.loop (qEh fn tmps ps assign body D)):=hV l _ (Mem.set_same _ _ _);have a:l<w.heap.size:=(yA.1 q).1;have d:V.le w:=λb o x=>by
  have e:b≠l:=λe=>by simp_all
  exact hV b o (by rw[Zm e];exact x)
 refine roundIn_of_wpIn (F:=qAK none) trivial ?_;have h1:=hA (some l) n {tmps:=(ps.zip args).foldl (λt (p,v)=>t.setIfInBounds p v) tmps,defers:=[]} w d hN m;refine wpIn_mono (show assign.wpIn (qAK (some l)) n P _ _ w from h1) ?_;rintro e a1 E he;cases e with
 |normal=>
  obtain⟨_,hd1,K,vs,V1,S,T,u⟩:=he;have G:E.heap[l]?=some (.loop (qEh fn tmps ps assign body D)):=(u.old l a hl).trans q;refine⟨_,run_beginRound G rfl,?_⟩;have Z:l<E.heap.size:=(yA.1 G).1;have Y:V1 l=none:=by
   cases A:V1 l with
   |none=>rfl
   |some o=>
    rcases u.dom l (by rw[A];simp)with h|h
    ·grind
    ·omega
  have U:V1.le (E.putObj l (.loop {qEh fn tmps ps assign body D with state:=.busy})):=λb o x=>by
   have e:b≠l:=λe=>by simp_all
   exact(wN e).trans (u.le b o x)
  have h2:=hB vs V1 T (some l) n a1 _ U K S;refine wpIn_mono (show body.wpIn (qAK (some l)) n P _ _ _ from h2) ?_;rintro e a2 C I;cases e with
  |normal=>
   obtain⟨_,_,_,_,V2,_,hJ,y⟩:=I;have M:C.heap[l]?=some (.loop {qEh fn tmps ps assign body D with state:=.busy}):=(y.old l (by simp_all) Y).trans (wP Z);have X:l<C.heap.size:=(yA.1 M).1;have B:V2 l=none:=by
    cases A:V2 l with
    |none=>rfl
    |some o=>
     rcases y.dom l (by rw[A];simp)with h|h
     ·grind
     grind[wO]
   refine⟨_,_,run_endRound (P:=P) none M,rfl,V2,hJ,B,?_⟩;have z2:=y.size;rw[wO]at z2;have z1:=u.size;refine⟨?_,λb o x=>?_,λb x hn=>?_,λb x=>?_,?_,?_⟩;·rw[wO];omega
   ·by_cases e:b=l
    ·subst e;rw[Mem.set_same]at x;rw[<-x];exact wP X
    ·rw[Zm e]at x;exact(wN e).trans (y.le b o x)
   ·have e:b≠l:=λe=>by grind[Mem.set_same]
    rw[Zm e]at hn;have hn1:V1 b=none:=by
     cases A:V1 b with
     |none=>rfl
     |some o=>
      rcases u.dom b (by rw[A];simp)with h|h
      ·grind
      ·omega
    refine(wN e).trans ((y.old b (by rw[wO];omega) hn1).trans ((wN e).trans (u.old b x hn)))
   ·by_cases e:b=l;·grind[Mem.set_same]
    ·rw[Zm e]at x⊢;rcases y.dom b x with h|h
     ·rcases u.dom b h with h|h;·exact .inl h
      ·exact .inr h
     grind[inr,wO]
   ·show C.os=w.os;rw[y.os];exact u.os
   ·show C.output=w.output;rw[y.out];exact u.out
  |_=>exact absurd I.1 (by simp)
 |_=>exact absurd he.1 (by simp)
theorem qHS{f:FuncId}{fn:Func}{c:Code}{args:Array Value}{V:Mem}{R:Ending->Mem->Prop}(G:P.funcs[f]?=some fn)(l:fn.body=some c)
  (h:∀w,V.le w->wpL none 0 P (λe y w'=>(e=.normal∨e=.ret)/\∃Ds:List Nat,y.defers=Ds.map (λD=>{target:=.collected D,args:=#[]})/\Ds.Nodup/\∃V',Frm V w V' w'/\
    (∀D∈Ds,w.heap.size<=D/\w'.heap[D]?=some (.deferred (some []))/\V' D=none)/\∃v,(∀u,V'.le u->(results fn y.tmps).run P u=.ok v u)/\R (.returned v) V')
   (flat c) {tmps:=args++wI (fn.ntmps-args.size) undef,defers:=[]} w):Tri P f args V R:=by
 intro w N;have key:∀(Ds:List Nat)(y:Act)(V':Mem)(v:Value)(w':World),Ds.Nodup->Frm V w V' w'->(∀D∈Ds,w.heap.size<=D/\w'.heap[D]?=some (.deferred (some []))/\V' D=none)->
   (∀u,V'.le u->(results fn y.tmps).run P u=.ok v u)->R (.returned v) V'->
   LeavesInM (qAK none) 0 P fn y.tmps (λe w'=>∃V',R e V'/\Frm V w V' w') (Ds.map λD=>{target:=.collected D,args:=#[]}) .returning w':=by
  intro Ds y V' v;induction Ds with
  |nil=>intro w' _ x _ a d;exact⟨v,a w' x.le,V',d,x⟩
  |cons D Ds Z=>
   intro w' m x J a d;obtain⟨Y,q,A⟩:=J D (by simp);have I:=(yA.1 q).1;refine⟨by simp,.inl ⟨D,_,rfl,run_takeDeferred q,Z _ (yU.1 m).2 ?_ ?_ a d⟩⟩
   ·refine⟨by grind[wO],λb o l=>?_,λb l M=>?_,x.dom,x.os,x.out⟩
    ·have e:b≠D:=λe=>by simp_all
     exact(wN e).trans (x.le b o l)
    ·exact(wN (by omega)).trans (x.old b l M)
   grind[D,yU,wN]
 refine(callsIn_wide (n:=0)).1 (callsIn_of_wp_marks (F:=qAK none) G l trivial (qCO ?_) rfl);refine qDb ?_ (h w N);rintro e y w' ⟨X,Ds,B,m,V',x,J,v,a,d⟩;rcases X with rfl|rfl
 ·show LeavesInM _ _ _ _ _ _ y.defers _ _;grind
 ·show LeavesInM _ _ _ _ _ _ y.defers _ _;grind
end
def kid:Code->Nat->Code
 |.block _ b,_=>b
 |.loop b,_=>b
 |.cond _ x y,j=>if j=0 then x else y
 |.rangeFunc _ _ x y,j=>if j=0 then x else y
 |c,_=>c
def qCK(c:Code):List Nat->List Code
 |i::j::p=>match(flat c)[i]? with|some d=>qCK (kid d j) p|none=>[]
 |_=>flat c
def qFf:Code->Array Oper
 |.region _ h _=>h
 |_=>#[]
def qAs(f:Func):Code:=f.body.getD .skip
section
variable{P:Program}{fs:List Nat}{H:qHO}
def qDB(P:Program)(N:Nat)(ops:Array Oper)(k m:Nat)(h:List (Nat×Value))(outs:List Nat)(V:Mem)(R:KZ):Prop:=
 ∀r n a w,V.le w->a.tmps.size=N->(∀s v,h.lookup s=some v->a.tmps.getD s undef=v)->
  wpOpsIn (qAK r) n P ops (λe u w'=>e=.normal/\u.defers=a.defers/\u.tmps.size=N/\∃vs V',(∀s v,(outs.zip vs).lookup s=some v->u.tmps.getD s undef=v)/\R vs V'/\Frm V w V' w') (wG k m) a w
def segOT(P:Program)(fs:List Nat)(H:qHO)(ops:Array Oper)(k m:Nat)(slots:List (Nat×T))(nv:Nat)(outs:List Nat):Tr:=
 if(slots.all λx=>x.2.wf nv 0)/\(ops.all λo=>qGN o.op)/\((ops.toList.drop k).take m).length=m then
  qMc P fs H ops ((ops.toList.drop k).take m) {slots,boxes:=[],nv,nb:=0,depth:=0} λst=>
   pubT (st.nb+2) st (λst=>(qFp st outs).map T.tup) λ_ t=>.ret t
 else .bad 61 0
theorem sego_sound(u:qCn P fs){N:Nat}{ops:Array Oper}{k m:Nat}{slots:List (Nat×T)}{nv:Nat}{outs:List Nat}{t:Tr}(U:segOT P fs {H with N:=N} ops k m slots nv outs=t)(ρ:List Value)(hn:ρ.length=nv)
  {d:List (Nat×Value)} (J:d=slots.map λx=>(x.1,x.2.ev ρ id)) {V:Mem} {R:KZ} {q:Prop} (hq:q=DT P {} (λe V'=>∃vs:List Value,e=.returned (.tuple vs.toArray)/\R vs V') t [] ρ V) (h:q):
  qDB P N ops k m d outs V R:=by
 intro r n a w hV hN hs;subst hq J U;have l:=qBW _ _ _ _ h;unfold segOT at l;split at l;case isFalse=>exact l.elim
 rename_i hw;obtain⟨hwf,hnd,G⟩:=hw;have e1:(wG k m)=wG k ((ops.toList.drop k).take m).length:=by rw[G]
 rw[e1];refine qEc (λh=>by obtain⟨_,_,h,_⟩:=h;cases h) (λo ho=>qDQ (by grind[wJ])) _ _ (λj hj=>?_) a w ?_;·simp_all
 refine qDw (L:=[]) (ρ0:=ρ) (V0:=V) (w0:=w) (O:=noO) u _ _ a w (λ_ _ _ _ h=>by simp_all) ⟨id,ρ,V,⟨yw _,rfl⟩,?_,l⟩ ?_
 ·exact
   {nv:=hn
    size:=hN
    slots:=λs t A=>by
     have hl:=qDm A;simp_all[qDU,id]
    frm:=Frm.refl hV
    boxes:=λi cs ty C=>by simp[St.box]at C
    hid:=λb o hb=>by cases hb
    inj:=λi j C _ _=>by grind}
 ·intro st' a' w' hd A;obtain⟨st2,t2,Z,I,β,M,V2,hp,F,l⟩:=qBb _ _ _ _ A;simp only[zj]at Z;obtain⟨x,E,rfl⟩:=Z;simp only[D]at l;obtain⟨vs,h1,h2⟩:=l;simp only[T.ev,wK,wL]at h1;have X:T.evs M id x=vs:=by simp_all
  refine⟨rfl,hd,F.size,vs,V2,λs v Y=>?_,h2,F.frm⟩;rw[<-X,qAP]at Y;obtain⟨t,g1,g2,K⟩:=qDT Y;obtain⟨y,S,g5⟩:=qED E s K;have B:=qDh E s K;rw[g1,S]at B;simp only[zF]at B;subst B;rw[F.slots s t S,<-g2];grind[qIL,T.firstBox,T.ev_free]
theorem wpOpIn_monoQ{F:Fence}{n:Nat}{ops:Array Oper}{Q y:Exit->Act->World->Prop}(d:∀c a w,y (.panic c) a w->Q (.panic c) a w)(v:LetsOut y->LetsOut Q){i:Nat}{a:Act}{w:World}{K m:Act->World->Prop}(h:∀a w,K a w->m a w)
  (u:wpOpIn F n P ops y i K a w):wpOpIn F n P ops Q i m a w:=by
 unfold wpOpIn at*
 split;·simp_all
 ·rename_i o l;simp only[l]at u;split
  ·rename_i hw;simp only[hw,if_true]at u;unfold Oper.wpIn at*
   refine⟨u.1,?_⟩;have u:=u.2;generalize(o.semAt F.round a.eval).run P w=r at*
   cases r with
   |ok x w'=>
    cases x<;>simp only[Oper.uponIn]at u⊢<;>
     first
      |exact h _ _ u
      |exact⟨u.1,CallsIn.mono u.2 (λe b q=>by grind)⟩
      |exact⟨u.1,RowsIn.mono u.2 (λ_ _ q=>h _ _ q)⟩
      |grind[RoundIn.mono]
   |halt x w'=>cases x<;>simp only[Oper.uponIn]at u⊢<;>first|grind|exact u
  simp_all
theorem qKi{F:Fence}{n:Nat}{ops:Array Oper}{Q y:Exit->Act->World->Prop}(m:∀c a w,y (.panic c) a w->Q (.panic c) a w)(q:LetsOut y->LetsOut Q){x:List Nat}(l:∀a w,y .normal a w->wpOpsIn F n P ops Q x a w):∀{u:List Nat}{a:Act}{w:World},
  wpOpsIn F n P ops y u a w->wpOpsIn F n P ops Q (u++x) a w:=by
 intro u;induction u with
 |nil=>exact λh=>l _ _ h
 |cons i u o=>
  grind[wpOpsIn_cons,wpOpIn_monoQ]
end
end Go.Sx
