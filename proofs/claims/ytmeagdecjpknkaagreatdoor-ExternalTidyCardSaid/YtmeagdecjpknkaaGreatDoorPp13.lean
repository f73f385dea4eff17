/- Part 13 of a proof of a law of this seat: no statement of the seat is proved here. -/
import Derived.Test.YtmeagdecjpknkaaGreatDoorPp12
import Derived.Test.YtmeagdecjpknkaaGreatDoorPp04
import Derived.Laws.MakeOwn
import Derived.OrdersIn
import Derived.OwnWalkIn
import Derived.RangeFuncRecord
import Derived.Tactics
import Derived.TacticsIn
import Derived.RangeFuncNested
set_option linter.unusedVariables false
set_option linter.unusedSimpArgs false
namespace Go.Proofs
open Go Go.Sx
attribute [local irreducible] Go.Sx.Tri
theorem StT.at2{V:Mem}{b:Nat}{c:Array Value}{t off:Nat}{vs:List Value}{q:Mem->Prop}(h:V b=some (.cells c t (0,0)))(hl:off+vs.length<=c.size)
  (hq:q (V.set b (.cells (c.toList.take off++vs++c.toList.drop (off+vs.length)).toArray t (0,0)))):StT (qAa (sa b) off) 0 vs V q:=by
 have e:qAa (sa b) off=some ⟨b,off,none⟩:=by
  grind [qAa,Addr.add]
 rw[e]
 exact⟨⟨b,off,none⟩,c,t,rfl,h,rfl,by simpa using hl,by simpa using hq⟩
theorem qDX{α:Type}:∀(l:List α) (i:Nat) (v:α),i<l.length->l.take i++[v]++l.drop (i+1)=l.set i v
 | [],i,v,h=>by simp at h
 | a::l,0,v,_=>by simp
 | a::l,i+1,v,h=>by
  have:=qDX l i v (by simpa using h)
  simp_all
section
variable{V0 V V':Mem}{e:TypeId}{sz:Nat}{s:Sl}{vs:List Value}
theorem Own.store(h:Sx.Own V0 V e sz s vs){i:Nat}(hi:i<vs.length){v:Value}{q:Mem->Prop}(hq:∀V',Sx.Own V0 V' e sz s (vs.set i v)->(∀c,¬Blk s c->V' c=V c)->q V'):StT (qAa s.p i) 0 [v] V q:=by
 rcases h.cases0 with⟨h1,h2,h3⟩|⟨hc,g,cur,h1,h2,h3,h4,h5,h6,h7⟩
 ·rw[h3]at hi;simp at hi
 have hlen:=h.len
 have hle:s.n*sz<=s.c*sz:=Nat.mul_le_mul_right _ h4
 rw[h1]
 refine StT.at2 (off:=i) h3 (by simp;omega) (hq _ ⟨h.sub.set h2 _,by simpa using hlen,.inr ⟨g,_,h1,h2,Mem.set_same _ _ _,h4,h5,?_,?_⟩⟩ fun c hc'=>?_)
 ·grind
 ·grind [qDX,List.take_set]
 ·rw[Mem.set_ne]
  rintro rfl
  exact hc' ⟨hc,h1⟩
theorem Own.moveB(h:Sx.Own V0 V e sz s vs)(hs:V0.sub V')(hk:∀g cur,Blk s g->V g=some (.cells cur e (0,0))->V' g=some (.cells cur e (0,0))):Sx.Own V0 V' e sz s vs:=⟨hs,h.len,by
 rcases h.cases0 with h1|⟨hc,g,cur,h1,h2,h3,h4⟩
 ·exact .inl h1
 ·exact .inr ⟨g,cur,h1,h2,hk g cur ⟨hc,h1⟩ h3,h4⟩⟩
theorem Own.some(h:Sx.Own V0 V e sz s vs){c:Nat}(hc:Blk s c):∃cur,V c=some (.cells cur e (0,0)):=by
 rcases h.cases0 with⟨-,h2,-⟩|⟨-,g,cur,h1,h2,h3,-⟩
 ·exact absurd h2 hc.1
 ·have:=h1.symm.trans hc.2;simp_all
theorem Own.none0(h:Sx.Own V0 V e sz s vs){c:Nat}(hc:Blk s c):V0 c=none:=by
 rcases h.cases0 with⟨-,h2,-⟩|⟨-,g,cur,h1,h2,h3,-⟩
 ·exact absurd h2 hc.1
 ·have:=h1.symm.trans hc.2;simp_all
theorem set_sub2{A B:Mem}(h:A.sub B)(b:Nat)(o:Obj):(A.set b o).sub (B.set b o):=fun c x hc=>by
 by_cases e:c=b
 ·grind [Mem.set_same]
 ·rw[Mem.set_ne e]at hc ⊢;exact h _ _ hc
theorem Own.poke(h:Sx.Own V0 V e sz s vs){b:Nat}(hb:V0 b≠none)(o:Obj):Sx.Own (V0.set b o) (V.set b o) e sz s vs:=⟨set_sub2 h.sub b o,h.len,by
 rcases h.cases0 with h1|⟨hc,g,cur,h1,h2,h3,h4⟩
 ·exact .inl h1
 ·have hne:g≠b:=fun e=>hb (e ▸ h2)
  simp_all [inr,Mem.set_ne]⟩
end
def qHH(a:Int×Int×Int):List Value:=[.int .i64 a.1,.int .i64 a.2.1,.int .i64 a.2.2]
theorem app84:AppP 84 89 3 qHH:=appG Tryz.underlying84 (by kernel_rfl) (by kernel_rfl) (by kernel_rfl) (by kernel_rfl) (by kernel_rfl) (by decide) (by intro _;rfl) fun x u hu=>by simp only[qHH,List.mem_cons,List.not_mem_nil,or_false]at hu;rcases hu with rfl|rfl|rfl <;> rfl
theorem app32:AppP 32 92 2 Nd.row:=appG Tryz.underlying32 (by kernel_rfl) (by kernel_rfl) (by kernel_rfl) (by kernel_rfl) (by kernel_rfl) (by decide) (by intro _;rfl) fun x u hu=>by simp only[Nd.row,Sl.v,List.mem_cons,List.not_mem_nil,or_false]at hu;rcases hu with rfl|rfl <;> rfl
theorem qFO:AppP 31 3 1 qAf:=appG Tryz.underlying31 (by kernel_rfl) (by kernel_rfl) (by kernel_rfl) (by kernel_rfl) (by kernel_rfl) (by decide) (by intro _;rfl) fun x u hu=>by simp only[qAf,List.mem_cons,List.not_mem_nil,or_false]at hu;subst hu;rfl
theorem qBj(l:List Int):l.flatMap qAf=l.map (Value.int .i64):=by
 induction l with
 | nil=>rfl
 | cons a l ih=>rw[List.flatMap_cons,ih];rfl
structure Lay (V0 V:Mem) (gs ns ls:Sl) (nd:List Nd) (st:St):Prop where
 glob:Sx.Own V0 V 3 1 gs (st.g.flatMap qAf)
 nodes:Sx.Own V0 V 92 2 ns (nd.flatMap Nd.row)
 log:Sx.Own V0 V 89 3 ls (st.lg.flatMap qHH)
 fld:∀n∈nd,Sx.Own V0 V 3 1 n.sl (n.f.flatMap qAf)
 eq:nd.map (fun n=>(n.ty,n.f))=st.ns
 gf:∀n∈nd,∀c,Blk n.sl c->¬Blk gs c
 ff:∀(i j:Nat) n n' c,nd[i]?=some n->nd[j]?=some n'->Blk n.sl c->Blk n'.sl c->i=j
section
variable{V0 V V':Mem}{gs ns ls:Sl}{nd:List Nd}{st:St}
def Alien(V:Mem)(c:Nat):Prop:=∀cur t,t=3∨t=92∨t=89->V c≠some (.cells cur t (0,0))
theorem Lay.sub(L:Lay V0 V gs ns ls nd st):V0.sub V:=L.glob.sub
theorem Lay.move(L:Lay V0 V gs ns ls nd st)(hs:V0.sub V')(hk:∀c o,V c=some o->V0 c=none->¬Alien V c->V' c=some o):Lay V0 V' gs ns ls nd st:=by
 have go:∀{e sz s vs},(e=3∨e=92∨e=89)->Sx.Own V0 V e sz s vs->Sx.Own V0 V' e sz s vs:=fun {e sz s vs} he h=>Own.moveB h hs fun g cur hb hg=>hk _ _ hg (Own.none0 h hb) fun ha=>ha _ _ he hg
 exact⟨go (.inl rfl) L.glob,go (.inr (.inl rfl)) L.nodes,go (.inr (.inr rfl)) L.log,fun n hn=>go (.inl rfl) (L.fld n hn),L.eq,L.gf,L.ff⟩
theorem Lay.grow(L:Lay V0 V gs ns ls nd st)(h:V.sub V'):Lay V0 V' gs ns ls nd st:=L.move (L.sub.trans h) fun c o hc _ _=>h _ _ hc
theorem Lay.put(L:Lay V0 V gs ns ls nd st){c:Nat}(ha:Alien V c)(h0:V0 c=none)(o:Obj):Lay V0 (V.set c o) gs ns ls nd st:=L.move (L.sub.set h0 o) fun x o' hx _ hna=>by
 grind [Mem.set_ne]
theorem Lay.narrow{W:Mem}(L:Lay W V gs ns ls nd st)(h:V0.sub W):Lay V0 V gs ns ls nd st:=⟨L.glob.narrow h,L.nodes.narrow h,L.log.narrow h,fun n hn=>(L.fld n hn).narrow h,L.eq,L.gf,L.ff⟩
theorem Lay.poke(L:Lay V0 V gs ns ls nd st){b:Nat}(hb:V0 b≠none)(o:Obj):Lay (V0.set b o) (V.set b o) gs ns ls nd st:=⟨Own.poke L.glob hb o,Own.poke L.nodes hb o,Own.poke L.log hb o,fun n hn=>Own.poke (L.fld n hn) hb o,L.eq,L.gf,L.ff⟩
def Mine(p:Nat)(gs ns ls:Sl)(nd:List Nd)(c:Nat):Prop:=c=p∨Blk gs c∨Blk ns c∨Blk ls c∨∃n∈nd,Blk n.sl c
open Classical in
noncomputable def Mem.minus(V:Mem)(M:Nat->Prop):Mem:=fun c=>if M c then none else V c
theorem qCf{M:Nat->Prop}:(Mem.minus V M).sub V:=fun c o h=>by
 grind [Mem.minus]
theorem qBi{M:Nat->Prop}{c:Nat}(h:¬M c):Mem.minus V M c=V c:=by grind [Mem.minus]
theorem qBR{M:Nat->Prop}{c:Nat}(h:M c):Mem.minus V M c=none:=by grind [Mem.minus]
theorem Lay.frame(L:Lay V0 V gs ns ls nd st){p:Nat}(hk:∀c o,Mine p gs ns ls nd c->V c=some o->V' c=some o):Lay (Mem.minus V' (Mine p gs ns ls nd)) V' gs ns ls nd st:=by
 have go:∀{e sz s vs},(∀c,Blk s c->Mine p gs ns ls nd c)->Sx.Own V0 V e sz s vs->Sx.Own (Mem.minus V' (Mine p gs ns ls nd)) V' e sz s vs:=fun {e sz s vs} hm h=>⟨qCf,h.len,by
  rcases h.cases0 with h1|⟨hc,g,cur,h1,h2,h3,h4⟩
  ·exact .inl h1
  ·exact .inr ⟨g,cur,h1,qBR (hm g ⟨hc,h1⟩),hk _ _ (hm g ⟨hc,h1⟩) h3,h4⟩⟩
 exact⟨go (fun _ h=>.inr (.inl h)) L.glob,go (fun _ h=>.inr (.inr (.inl h))) L.nodes,go (fun _ h=>.inr (.inr (.inr (.inl h)))) L.log,fun n hn=>go (fun _ h=>.inr (.inr (.inr (.inr ⟨n,hn,h⟩)))) (L.fld n hn),L.eq,L.gf,L.ff⟩
theorem Lay.mineV(L:Lay V0 V gs ns ls nd st){p c:Nat}(hp:V p≠none)(h:Mine p gs ns ls nd c):V c≠none:=by
 have go:∀{e sz s vs},Sx.Own V0 V e sz s vs->Blk s c->V c≠none:=fun {e sz s vs} h hb=>by
  grind [Own.some]
 rcases h with rfl|h|h|h|⟨n,hn,h⟩
 ·exact hp
 ·exact go L.glob h
 ·exact go L.nodes h
 ·exact go L.log h
 ·exact go (L.fld n hn) h
theorem Lay.mine0(L:Lay V0 V gs ns ls nd st){p c:Nat}(hp:V0 p=none)(h:Mine p gs ns ls nd c):V0 c=none:=by
 rcases h with rfl|h|h|h|⟨n,hn,h⟩
 ·exact hp
 ·exact Own.none0 L.glob h
 ·exact Own.none0 L.nodes h
 ·exact Own.none0 L.log h
 ·exact Own.none0 (L.fld n hn) h
theorem Lay.len(L:Lay V0 V gs ns ls nd st):nd.length=st.ns.length:=by rw[<- L.eq,List.length_map]
theorem Lay.at_(L:Lay V0 V gs ns ls nd st){i:Nat}{x:Int×List Int}(h:st.ns[i]?=some x):∃sl,nd[i]?=some ⟨x.1,sl,x.2⟩:=by
 rw[<- L.eq,List.getElem?_map]at h
 cases hn:nd[i]? with
 | none=>simp_all
 | some n=>rw[hn]at h;cases h;grind
theorem Lay.setG(L:Lay V0 V gs ns ls nd st){i:Nat}(hi:i<st.g.length){v:Int}{q:Mem->Prop}(hq:∀V',Lay V0 V' gs ns ls nd { st with g:=st.g.set i v }->(∀c,¬Blk gs c->V' c=V c)->q V'):StT (qAa gs.p (i*1)) 0 [.int .i64 v] V q:=by
 rw[Nat.mul_one]
 refine Own.store L.glob (by rw[qBj,List.length_map];exact hi) fun V' ho hk=>hq V' ⟨?_,?_,?_,fun n hn=>?_,L.eq,L.gf,L.ff⟩ hk
 ·grind [qAf,qBj,List.map_set]
 ·exact Own.moveB L.nodes ho.sub fun g cur hb hg=>by rw[hk g (L.glob.apart fun c=>by simp_all)];exact hg
 ·exact Own.moveB L.log ho.sub fun g cur hb hg=>by rw[hk g (L.glob.apart fun c=>by simp_all)];exact hg
 ·exact Own.moveB (L.fld n hn) ho.sub fun g cur hb hg=>by rw[hk g (L.gf n hn g hb)];exact hg
theorem Lay.setF(L:Lay V0 V gs ns ls nd st){k i:Nat}{n:Nd}(hn:nd[k]?=some n)(hi:i<n.f.length){v:Int}{q:Mem->Prop}
  (hq:∀V',Lay V0 V' gs ns ls (nd.set k { n with f:=n.f.set i v }) { st with ns:=st.ns.set k (n.ty,n.f.set i v) }->(∀c,¬Blk n.sl c->V' c=V c)->q V'):StT (qAa n.sl.p (i*1)) 0 [.int .i64 v] V q:=by
 rw[Nat.mul_one]
 have hm:=List.mem_of_getElem? hn
 have hkl:=(List.getElem?_eq_some_iff.1 hn).1
 refine Own.store (L.fld n hm) (by rw[qBj,List.length_map];exact hi) fun V' ho hk=>hq V' ⟨?_,?_,?_,fun n' hn'=>?_,?_,fun n' hn' c hc=>?_,fun i' j' a b c ha hb hca hcb=>?_⟩ hk
 ·exact Own.moveB L.glob ho.sub fun g cur hb hg=>by rw[hk g fun h=>L.gf n hm g h hb];exact hg
 ·have:(nd.set k { n with f:=n.f.set i v }).flatMap Nd.row=nd.flatMap Nd.row:=by
   have:(nd.set k { n with f:=n.f.set i v }).map Nd.row=nd.map Nd.row:=by
    rw[List.map_set]
    refine List.ext_getElem? fun m=>?_
    rw[List.getElem?_set]
    split
    ·rename_i e;subst e
     rw[List.getElem?_map,hn,if_pos (by simp_all)];rfl
    ·rfl
   grind
  rw[this]
  exact Own.moveB L.nodes ho.sub fun g cur hb hg=>by rw[hk g ((L.fld n hm).apart fun c=>by simp_all)];exact hg
 ·exact Own.moveB L.log ho.sub fun g cur hb hg=>by rw[hk g ((L.fld n hm).apart fun c=>by simp_all)];exact hg
 ·obtain⟨m,hm'⟩:=List.mem_iff_getElem?.1 hn'
  rw[List.getElem?_set]at hm'
  split at hm'
  ·grind [qAf,qBj,List.map_set]
  ·rename_i hne
   exact Own.moveB (L.fld n' (List.mem_of_getElem? hm')) ho.sub fun g cur hb hg=>by rw[hk g fun h=>hne (L.ff k m n n' g hn hm' h hb)];exact hg
 ·rw[<- L.eq,List.map_set]
 ·rcases List.mem_or_eq_of_mem_set hn' with h|rfl
  ·exact L.gf n' h c hc
  ·exact L.gf n hm c hc
 ·have get:∀{m:Nat} {x:Nd},(nd.set k { n with f:=n.f.set i v })[m]?=some x->∃y,nd[m]?=some y/\y.sl=x.sl:=fun {m x} hx=>by
   grind
  obtain⟨y,y1,y2⟩:=get ha
  obtain⟨z,z1,z2⟩:=get hb
  exact L.ff i' j' y z c y1 z1 (y2 ▸ hca) (z2 ▸ hcb)
theorem Lay.note(L:Lay V0 V gs ns ls nd st){a:Int×Int×Int}{ty tb:Nat}{x y:Operand}{vals:Operand->Value}{q:Value->Mem->Prop}(htb:V tb=none)(hx:vals x=.slice ls.p ls.n ls.c)(hy:vals y=.slice (sa tb) 1 1)(hfit:st.lg.length+1<=2147483648)
  (hq:∀s' V',Lay V0 V' gs ns s' nd (st.note a)->(∀c o,V c=some o->¬Blk ls c->V' c=some o)->q (.slice s'.p s'.n s'.c) V') :
  GenK Tryz.prog (.call { callee:=.builtin .append,args:=#[x,y],argTypes:=#[84,84] }) ty vals (V.set tb (.cells (qHH a).toArray 89 (0,0))) q:=by
 refine app84 (s:=ls) (u:=⟨some ⟨tb,0,none⟩,1,1⟩) (xs:=st.lg) (ys:=[a]) hx hy (L.log.but.new htb _) (qAc.cells (xs:=[a]) (row:=qHH) mss (by simp) (fun _=>rfl) rfl (by simp)) (by simpa using hfit) fun s' V' ho=>?_
 have hk:∀c o,V c=some o->¬Blk ls c->V' c=some o:=fun c o hc hb=>ho.sub _ _ (Mem.but_at hc hb)
 have hs:V0.sub V':=L.log.sub_but.trans ho.sub
 refine hq s' V' ⟨?_,?_,ho.narrow L.log.sub_but,fun n hn=>?_,L.eq,L.gf,L.ff⟩ hk
 ·exact Own.moveB L.glob hs fun g cur hb hg=>hk _ _ hg (L.log.apart fun c=>by simp_all)
 ·exact Own.moveB L.nodes hs fun g cur hb hg=>hk _ _ hg (L.log.apart fun c=>by simp_all)
 ·exact Own.moveB (L.fld n hn) hs fun g cur hb hg=>hk _ _ hg (L.log.apart fun c=>by simp_all)
theorem Lay.new(L:Lay V0 V gs ns ls nd st){n:Nd}{V1:Mem}(hown:Sx.Own V V1 3 1 n.sl (n.f.flatMap qAf))
  {ty tb:Nat} {x y:Operand} {vals:Operand->Value} {q:Value->Mem->Prop} (htb:V1 tb=none) (hx:vals x=.slice ns.p ns.n ns.c) (hy:vals y=.slice (sa tb) 1 1) (hfit:nd.length+1<=2147483648)
  (hq:∀s' V',Lay V0 V' gs s' ls (nd++[n]) { st with ns:=st.ns++[(n.ty,n.f)] }->(∀c o,V1 c=some o->¬Blk ns c->V' c=some o)->q (.slice s'.p s'.n s'.c) V') :
  GenK Tryz.prog (.call { callee:=.builtin .append,args:=#[x,y],argTypes:=#[32,32] }) ty vals (V1.set tb (.cells n.row.toArray 92 (0,0))) q:=by
 have s1:V.sub V1:=hown.sub
 have L1:=L.grow s1
 refine app32 (s:=ns) (u:=⟨some ⟨tb,0,none⟩,1,1⟩) (xs:=nd) (ys:=[n]) hx hy (L1.nodes.but.new htb _) (qAc.cells (xs:=[n]) (row:=Nd.row) mss (by simp) (fun _=>rfl) rfl (by simp)) (by simpa using hfit) fun s' V' ho=>?_
 have hk:∀c o,V1 c=some o->¬Blk ns c->V' c=some o:=fun c o hc hb=>ho.sub _ _ (Mem.but_at hc hb)
 have hs:V0.sub V':=L1.nodes.sub_but.trans ho.sub
 have hn0:∀c,Blk n.sl c->V c=none:=fun c hc=>Own.none0 hown hc
 refine hq s' V' ⟨?_,ho.narrow L1.nodes.sub_but,?_,fun m hm=>?_,by rw[List.map_append,L.eq];rfl,fun m hm c hc=>?_,fun i j a b c ha hb hca hcb=>?_⟩ hk
 ·exact Own.moveB L1.glob hs fun g cur hb hg=>hk _ _ hg (L1.nodes.apart fun c=>by simp_all)
 ·exact Own.moveB L1.log hs fun g cur hb hg=>hk _ _ hg (L1.nodes.apart fun c=>by simp_all)
 ·rcases List.mem_append.1 hm with hm|hm
  ·exact Own.moveB (L1.fld m hm) hs fun g cur hb hg=>hk _ _ hg (L1.nodes.apart fun c=>by simp_all)
  ·rw[List.mem_singleton.1 hm]
   exact Own.moveB (hown.narrow L.sub) hs fun g cur hb hg=>hk _ _ hg (L1.nodes.apart fun c=>by simp_all)
 ·rcases List.mem_append.1 hm with hm|hm
  ·exact L.gf m hm c hc
  ·rw[List.mem_singleton.1 hm]at hc
   intro hg
   obtain⟨cur,hcur⟩:=Own.some L.glob hg
   simp_all
 ·have old:∀{m:Nd},m∈nd->Blk m.sl c->¬Blk n.sl c:=fun hm hc hc'=>by
   obtain⟨cur,hcur⟩:=Own.some (L.fld _ hm) hc
   simp_all
  by_cases h1:i<nd.length <;> by_cases h2:j<nd.length
  ·rw[List.getElem?_append_left h1]at ha
   rw[List.getElem?_append_left h2]at hb
   exact L.ff i j a b c ha hb hca hcb
  ·grind
  ·grind
  grind
end
end Go.Proofs
namespace Go.Sx
open Go
section
variable{P:Program}{V0 V:Mem}{t e ty tc:TypeId}{i:TypeInfo}{z:Value}{sz:Nat}{k:IntKind}
theorem Frm.made{V:Mem}{w:World}(hw:V.le w)(o:Obj):V w.heap.size=none/\Frm V w (V.set w.heap.size o) (w.alloc o):=by
 have hn:V w.heap.size=none:=by
  cases h:V w.heap.size with
  | none=>rfl
  | some x =>
   have:=(Array.getElem?_eq_some_iff.1 (hw _ _ h)).1
   omega
 refine⟨hn,⟨by simp,fun b x hb=>?_,fun b hb _=>(by grind [heap_alloc_old]),fun b hb=>?_,rfl,rfl⟩⟩
 ·unfold Mem.set at hb
  split at hb
  ·grind [heap_alloc_new]
  ·have hlt:=(Array.getElem?_eq_some_iff.1 (hw _ _ hb)).1
   first|exact(heap_alloc_old w o b hlt).trans (hw _ _ hb) | exact(heap_alloc_old w o hlt).trans (hw _ _ hb)
 grind [Mem.set,inr]
theorem GenK.make(ht:P.underlying t=some (.slice e))(hi:P.info? e=some i)(hz:i.zero=some z)(hsize:i.size=sz)(hby:i.bytes<=65536){x y:Operand}{vals:Operand->Value}{n:Nat}(hx:vals x=.int .i64 n)(hy:vals y=.int .i64 n)(hn:n<=2147483648){q:Value->Mem->Prop}
  (hq:∀g,V g=none->q (.slice (some ⟨g,0,none⟩) n n) (V.set g (.cells (madeCells z.cells (n*sz)) e (0,0)))):GenK P (.makeSlice t x y) ty vals V q:=by
 intro w hw
 subst hsize
 have hb:(i.bytes:Int)*(n:Int)<=281474976710656:=by
  have:i.bytes*n<=65536*2147483648:=Nat.mul_le_mul hby hn
  omega
 have hr:=run_make (P:=P) w t e i z ht hi hz .i64 .i64 n n (by omega) (Int.le_refl _) hb (by omega)
 grind [Int.toNat_natCast,Frm.made,madeCells,execOp,Sem.run_bind,Sem.run_pure,Result.andThen_ok]
theorem zeros_one(hz1:z.cells.size=sz)(h1:∀u∈z.cells.toList,u.oneCell'=true)(n:Nat)(h0:0<sz):∀u∈(Builtin.zeroCells z.cells n).toList,u.oneCell'=true:=fun u hu=>by
 unfold Builtin.zeroCells at hu
 simp only[Array.toList_map,List.mem_map]at hu
 obtain⟨j,-,rfl⟩:=hu
 grind [Nat.mod_lt]
theorem qHM{w:World}(ht:P.underlying t=some (.slice e))(hc:P.underlying tc=some (.int k))(hi:P.info? e=some i)(hz:i.zero=some z)(h0:0<i.size)(hzs:z.cells.size=i.size)(h1:∀u∈z.cells.toList,u.oneCell'=true)
  (g sLen sCap:Nat) (cur:Array Value) (hg:w.heap[g]?=some (.cells cur e (0,0))) (n:Nat) (hn:0<n) (hb:n*i.bytes<=281474976710656) (hn2:n<=2147483648) (hroom:sLen+n<=sCap) (hfit:sLen*i.size+n*i.size<=cur.size) :
  (Builtin.append_ #[t,tc] ty #[.slice (some ⟨g,0,none⟩) sLen sCap,.int .i64 n]).run P w =
   .ok (.slice (some ⟨g,0,none⟩) (sLen+n) sCap) (w.setRow g (cur.toList.take (sLen*i.size)++(Builtin.zeroCells z.cells n).toList++cur.toList.drop (sLen*i.size+(Builtin.zeroCells z.cells n).toList.length)).toArray):=by
 have hl:(Builtin.zeroCells z.cells n).toList.length=n*i.size:=by rw[Array.length_toList,size_zeroCells,hzs]
 have hst:=run_storeCells_at P g (sLen*i.size) e (Builtin.zeroCells z.cells n).toList 0 cur w hg (by omega) (zeros_one hzs h1 n h0)
 simp only[Nat.add_zero]at hst
 have wl:IntKind.i64.wrap (n:Int)=n:=by rw[IntKind.wrap_i64];omega
 have n1:¬((n:Int)<0):=by omega
 have n2:¬(281474976710656<(n:Int)*(i.bytes:Int)):=by
  omega
 have n3:¬(n*i.size=0):=Nat.ne_of_gt (Nat.mul_pos hn h0)
 simp[Builtin.append_,run_underlying ht,run_underlying hc,asInt,asIntOf,sizeOf,typeInfo,hi,zeroValue,hz,wl,n1,n2,hroom,Addr.add_lit,hst]
 omega
theorem qEn{w:World}(ht:P.underlying t=some (.slice e))(hc:P.underlying tc=some (.int k))(hi:P.info? e=some i)(hz:i.zero=some z)(h0:0<i.size)(base:Option Addr)(sLen sCap:Nat)(olds:List Value)
  (hold:(Builtin.firstCells i.size sLen (.slice base sLen sCap)).run P w.drew=.ok olds.toArray w.drew) (n:Nat) (hn:0<n) (hb:n*i.bytes<=281474976710656) (hn2:n<=2147483648)
  (hg:sCap<sLen+n) (h63:((sLen+n:Nat):Int)<=9223372036854775807) (hfit:Builtin.nextslicecap (sLen+n) sCap*i.bytes<=281474976710656) :
  (Builtin.append_ #[t,tc] ty #[.slice base sLen sCap,.int .i64 n]).run P w =
   .ok (.slice (some ⟨w.heap.size,0,none⟩) (sLen+n) (grownCap w (sLen+n) sCap e))
    (w.drew.alloc (.cells (olds.toArray++Builtin.zeroCells z.cells n++Builtin.zeroCells z.cells (grownCap w (sLen+n) sCap e-(sLen+n))) e)):=by
 have hno:¬(sLen+n<=sCap):=by omega
 have h63':¬(9223372036854775807<((sLen:Int)+(n:Int))):=by omega
 have h48':¬(281474976710656<Builtin.nextslicecap (sLen+n) sCap*i.bytes):=by omega
 have wl:IntKind.i64.wrap (n:Int)=n:=by rw[IntKind.wrap_i64];omega
 have n1:¬((n:Int)<0):=by omega
 have n2:¬(281474976710656<(n:Int)*(i.bytes:Int)):=by
  omega
 simp[Builtin.append_,run_underlying ht,run_underlying hc,asInt,asIntOf,sizeOf,typeInfo,zeroValue,hi,hz,wl,n1,n2,hno,h63',h48',Question.forced,hold,newRow,grownCap]
 simp_all [absurd,Nat.ne_of_gt,Nat.mul_pos]
theorem GenK.appendZ(ht:P.underlying t=some (.slice e))(hc:P.underlying tc=some (.int k))(hi:P.info? e=some i)(hz:i.zero=some z)(hsize:i.size=sz)(hzs:z.cells.size=sz)(hsz:0<sz)(hby:i.bytes<=65536)(h1:∀u∈z.cells.toList,u.oneCell'=true)
  {x y:Operand} {vals:Operand->Value} {s:Sl} {n:Nat} {vs:List Value} (hx:vals x=.slice s.p s.n s.c) (hy:vals y=.int .i64 n) (own:Own V0 V e sz s vs) (hfit:s.n+n<=2147483648) {q:Value->Mem->Prop}
  (hq:∀s' V',Own V0 V' e sz s' (vs++(Builtin.zeroCells z.cells n).toList)->q (.slice s'.p s'.n s'.c) V') :
  GenK P (.call { callee:=.builtin .append,args:=#[x,y],argTypes:=#[t,tc] }) ty vals V q:=by
 intro w hw
 subst hsize
 have hbytes:(s.n+n)*i.bytes<=140737488355328:=Nat.le_trans (Nat.mul_le_mul hfit hby) (by decide)
 have hbn:n*i.bytes<=281474976710656:=by
  grind
 have hl:(Builtin.zeroCells z.cells n).toList.length=n*i.size:=by rw[Array.length_toList,size_zeroCells,hzs]
 have fin:∀(s':Sl) (V':Mem) (w':World),(Builtin.append_ #[t,tc] ty #[.slice s.p s.n s.c,.int .i64 n]).run P w=.ok (.slice s'.p s'.n s'.c) w'->Frm V w V' w'->Own V0 V' e i.size s' (vs++(Builtin.zeroCells z.cells n).toList) ->
   ∃v w' V',(execOp vals { dst:=none,op:=.call { callee:=.builtin .append,args:=#[x,y],argTypes:=#[t,tc] },type:=ty,pos := "",after:=#[],guard:=none }).run P w=.ok (.value v) w'/\Frm V w V' w'/\q v V':=by
  intro s' V' w' hr hf ho
  refine⟨_,w',V',?_,hf,hq s' V' ho⟩
  unfold execOp
  simp only[resolve,invoke,builtin,Sem.run_bind,Sem.run_pure,Result.andThen_ok,List.map_toArray,List.map_cons,List.map_nil,hx,hy,hr]
 by_cases hn0:n=0
 ·subst hn0
  have hz0:(Builtin.zeroCells z.cells 0).toList=[]:=List.eq_nil_of_length_eq_zero (by rw[hl];simp)
  rw[hz0,List.append_nil]at fin
  have hnc:s.n<=s.c:=by
   rcases own.at_ with⟨a,b,-⟩|⟨g,cur,-,-,-,h,-⟩
   ·omega
   ·exact h
  refine fin s V w ?_ (Frm.refl hw) own
  have wl:IntKind.i64.wrap 0=0:=by rfl
  cases s.p with
  | none=>simp[Builtin.append_,run_underlying ht,run_underlying hc,asInt,asIntOf,sizeOf,typeInfo,hi,wl,hnc]
  | some a=>simp[Builtin.append_,run_underlying ht,run_underlying hc,asInt,asIntOf,sizeOf,typeInfo,hi,wl,hnc,storeCells]
 have hn:0<n:=Nat.pos_of_ne_zero hn0
 have hlen:(vs++(Builtin.zeroCells z.cells n).toList).length=(s.n+n)*i.size:=by rw[List.length_append,own.len,hl,Nat.add_mul]
 have hgrow:∀old,old<s.n+n->(Builtin.append_ #[t,tc] ty #[.slice s.p s.n s.c,.int .i64 n]).run P w =
   .ok (.slice (some ⟨w.heap.size,0,none⟩) (s.n+n) (grownCap w (s.n+n) old e)) (w.drew.alloc (.cells (vs.toArray++Builtin.zeroCells z.cells n++Builtin.zeroCells z.cells (grownCap w (s.n+n) old e-(s.n+n))) e)) ->
   ∃v w' V',(execOp vals { dst:=none,op:=.call { callee:=.builtin .append,args:=#[x,y],argTypes:=#[t,tc] },type:=ty,pos := "",after:=#[],guard:=none }).run P w=.ok (.value v) w'/\Frm V w V' w'/\q v V':=by
  intro old ho hr
  obtain⟨hno,hf⟩:=Frm.new hw (.cells (vs.toArray++Builtin.zeroCells z.cells n++Builtin.zeroCells z.cells (grownCap w (s.n+n) old e-(s.n+n))) e)
  have hge:=grownCap_ge w (s.n+n) old e
  refine fin ⟨_,_,_⟩ _ _ hr hf ⟨Mem.sub.new own.sub hno _,hlen,.inr ⟨w.heap.size,_,rfl,?_,Mem.set_same _ _ _,hge,grownCap_le_maxLen w _ old e (by simp only[maxLen];omega),?_,?_⟩⟩
  ·cases h0:V0 w.heap.size with
   | none=>rfl
   | some x=>rw[own.sub _ _ h0]at hno;cases hno
  ·simp only[Array.size_append,List.size_toArray,size_zeroCells,hzs,own.len,<- Nat.add_mul]
   congr 1
   show _=grownCap w (s.n+n) old e
   omega
  grind
 have hfitN:∀old,old<s.n+n->Builtin.nextslicecap (s.n+n) old*i.bytes<=281474976710656:=fun old ho=>growslice_fits (by omega) hbytes
 rcases own.at_ with⟨hs,hs',hv⟩|⟨g,cur,hp,hg,hV,hnc,hcm,hcs,htake⟩
 ·subst hv
  refine hgrow s.c (by omega) ?_
  have hold:(Builtin.firstCells i.size s.n (.slice s.p s.n s.c)).run P w.drew=.ok ([]:List Value).toArray w.drew:=by
   rw[hs]
   cases s.p with
   | none=>rfl
   | some a=>simp[Builtin.firstCells,loadCells,loadCellsFrom]
  grind [qEn]
 ·by_cases hroom:s.n+n<=s.c
  ·have hcur:w.heap[g]?=some (.cells cur e (0,0)):=hw _ _ hV
   have hle:(s.n+n)*i.size<=s.c*i.size:=Nat.mul_le_mul_right _ hroom
   have hmul:(s.n+n)*i.size=s.n*i.size+n*i.size:=Nat.add_mul _ _ _
   have hr:=qHM (P:=P) (ty:=ty) ht hc hi hz hsz hzs h1 g s.n s.c cur hcur n hn hbn (by omega) hroom (by omega)
   refine fin ⟨some ⟨g,0,none⟩,s.n+n,s.c⟩ _ _ (by rw[hp];exact hr) (Frm.row hw hV) ⟨own.sub.set hg _,hlen,.inr ⟨g,_,rfl,hg,Mem.set_same _ _ _,hroom,hcm,?_,?_⟩⟩
   ·grind
   grind
  ·refine hgrow s.c (by omega) ?_
   have hown:w.ownsRow 0 e i.size (.slice s.p s.n s.c) s.n vs:=⟨own.len,.inr ⟨g,s.c,cur,by rw[hp],Nat.zero_le _,hw _ _ hV,hnc,hcm,hcs,htake⟩⟩
   have holds:∀j u,vs[j]?=some u->w.cell? ((⟨g,0,none⟩:Addr).add j)=some u:=hown.cells (g:=g) (by rw[hp];rfl)
   have hold:=run_firstCells_some (P:=P) w.drew i.size s.n ⟨g,0,none⟩ s.n s.c vs own.len (by simpa using holds)
   grind [qEn,Builtin.firstCells]
end
theorem qKw(n:Nat):(Builtin.zeroCells (Value.int .i64 0).cells n).toList=List.replicate n (Value.int .i64 0):=by
 have hc:(Value.int .i64 0).cells=#[Value.int .i64 0]:=by rfl
 rw[hc]
 unfold Builtin.zeroCells
 refine List.ext_getElem? fun j=>?_
 grind
theorem qLd(n:Nat):(madeCells (Value.int .i64 0).cells n).toList=List.replicate n (Value.int .i64 0):=by
 have hc:(Value.int .i64 0).cells=#[Value.int .i64 0]:=by rfl
 rw[hc]
 unfold madeCells
 refine List.ext_getElem? fun j=>?_
 grind
end Go.Sx
namespace Go.Proofs
open Go Go.Sx
attribute [local irreducible] Go.Sx.Tri
def NT(ty:Nat):Prop:=ty≠3/\ty≠92/\ty≠89
theorem nn{p:Addr}:¬(some p:Option Addr)=none:=nofun
theorem pnn{p:Addr}{n:Nat}:¬qAa (some p) n=none:=nofun
structure MA (ty:Nat) (V0:Mem) (p:Nat) (row:Sl->Sl->Sl->List Value) (V:Mem) (s:St):Prop where
 p0:V0 p=none
 ex:∃gs ns ls nd,V p=some (.cells (row gs ns ls).toArray ty (0,0))/\Lay V0 V gs ns ls nd s
section
variable{ty:Nat}{V0 V V' W:Mem}{p:Nat}{row row':Sl->Sl->Sl->List Value}{s s':St}{gs ns ls:Sl}{nd:List Nd}
theorem qIk{x:Array Value}(h:V p=some (.cells x ty (0,0)))(hty:NT ty):Alien V p:=fun cur t ht h'=>by
 rw[h]at h'
 simp only[Option.some.injEq,Obj.cells.injEq]at h'
 obtain⟨-,h',-⟩:=h'
 rcases ht with rfl|rfl|rfl
 ·exact hty.1 h'
 ·exact hty.2.1 h'
 ·exact hty.2.2 h'
theorem notBlk{x:Array Value}(h:V p=some (.cells x ty (0,0)))(hty:NT ty){e:TypeId}{sz:Nat}{sl:Sl}{vs:List Value}(ho:Sx.Own V0 V e sz sl vs)(he:e=3∨e=92∨e=89):¬Blk sl p:=ho.apart fun cur hc=>qIk h hty cur e he hc
theorem Lay.same(L:Lay V0 V gs ns ls nd s)(h1:s'.g=s.g)(h2:s'.ns=s.ns)(h3:s'.lg=s.lg):Lay V0 V gs ns ls nd s':=⟨by rw[h1];exact L.glob,L.nodes,by rw[h3];exact L.log,L.fld,by rw[h2];exact L.eq,L.gf,L.ff⟩
theorem MA.sub(h:MA ty V0 p row V s):V0.sub V:=by
 obtain⟨_,_,_,_,_,L⟩:=h.ex;exact L.sub
theorem MA.narrow(h:MA ty W p row V s)(hs:V0.sub W):MA ty V0 p row V s:=by
 obtain⟨gs,ns,ls,nd,hat,L⟩:=h.ex
 refine⟨?_,gs,ns,ls,nd,hat,L.narrow hs⟩
 cases hc:V0 p with
 | none=>rfl
 | some o=>have:=hs _ _ hc;rw[h.p0]at this;cases this
theorem MA.set(hty:NT ty)(p0:V0 p=none){x:Array Value}(hat:V p=some (.cells x ty (0,0)))(L:Lay V0 V gs ns ls nd s){c:Array Value}(hc:c=(row' gs ns ls).toArray)(h1:s'.g=s.g)(h2:s'.ns=s.ns)(h3:s'.lg=s.lg):MA ty V0 p row' (V.set p (.cells c ty (0,0))) s' :=
 ⟨p0,gs,ns,ls,nd,by rw[Mem.set_same,hc],(L.put (qIk hat hty) p0 _).same h1 h2 h3⟩
theorem MA.frame(h:MA ty V0 p row V s):∃M:Nat->Prop,(∀b,M b->V b≠none/\V0 b=none)/\∀V',(∀b o,M b->V b=some o->V' b=some o)->MA ty (Mem.minus V' M) p row V' s:=by
 obtain⟨gs,ns,ls,nd,hat,L⟩:=h.ex
 refine⟨Mine p gs ns ls nd,fun b hb=>⟨L.mineV (by rw[hat];simp) hb,L.mine0 h.p0 hb⟩,fun V' hk=>⟨qBR (.inl rfl),gs,ns,ls,nd,hk _ _ (.inl rfl) hat,L.frame hk⟩⟩
theorem MA.after(h:MA ty V0 p row V s)(hs:V.sub V'):∃W,V0.sub W/\W.sub V'/\MA ty W p row V' s/\∀b o,V b=none->V' b=some o->W b=some o:=by
 obtain⟨M,h1,h2⟩:=h.frame
 refine⟨Mem.minus V' M,fun b o hb=>?_,qCf,h2 V' fun b o _ hb=>hs _ _ hb,fun b o hb hb'=>?_⟩
 ·rw[qBi fun hm=>by simp_all];exact hs _ _ (h.sub _ _ hb)
 grind [qBi]
theorem MA.beside(h:MA ty W p row V s){e:TypeId}{sz:Nat}{sl sl':Sl}{vs vs':List Value}(hV0:V0.sub W)(ho:Sx.Own V0 W e sz sl vs)(ho':Sx.Own (V.but sl) V' e sz sl' vs'):∃W',V0.sub W'/\MA ty W' p row V' s/\Sx.Own V0 W' e sz sl' vs':=by
 obtain⟨M,h1,h2⟩:=h.frame
 have nb:∀b,M b->¬Blk sl b:=fun b hm hb=>by
  grind [Own.some]
 have keep:∀b o,V b=some o->¬Blk sl b->V' b=some o:=fun b o hb hn=>ho'.sub _ _ (Mem.but_at hb hn)
 have hM:∀b,M b->¬Blk sl' b:=fun b hm hb=>by
  have h0:=Own.none0 ho' hb
  cases hc:V b with
  | none=>simp_all
  | some o=>grind [Mem.but_at]
 have hs:V0.sub (Mem.minus V' M):=fun b o hb=>by
  have hw:=hV0 _ _ hb
  rw[qBi fun hm=>by simp_all]
  exact keep _ _ (h.sub _ _ hw) fun hbk=>by grind [Own.none0]
 refine⟨Mem.minus V' M,hs,h2 V' fun b o hm hb=>keep b o hb (nb b hm),hs,ho'.len,?_⟩
 rcases ho'.cases0 with h'|⟨hc,g,cur,a,b,c,dd⟩
 ·exact .inl h'
 ·refine .inr ⟨g,cur,a,?_,?_,dd⟩
  ·cases h0:V0 g with
   | none=>rfl
   | some o =>
    have hw:=h.sub _ _ (hV0 _ _ h0)
    rw[Mem.but_at hw (ho.apart0 h0)]at b;cases b
  ·rw[qBi fun hm=>hM g hm ⟨hc,a⟩];exact c
end
theorem qAR{V:Mem}{b:Nat}{c:Array Value}{t:Nat}{fr:Nat×Nat}(h:V b=some (.cells c t fr))(j off n:Nat)(hl:j+off+n<=c.size):V.rowp (qAa (sa b) j) off n=some ((c.toList.drop (j+off)).take n):=by
 have:=qAe h (j+off) n hl
 rw[<- this]
 show V.row (((⟨b,0,none⟩:Addr).add j).add off) n=V.row ((⟨b,0,none⟩:Addr).add (j+off)) n
 rw[add_add]
theorem qKX{V:Mem}{b:Nat}{n:Int}{t:Nat}(h:V b=some (.cells #[.int .i64 n] t (0,0))):qAc V ⟨some ⟨b,0,none⟩,1,1⟩ 1 ([n].map qAf) :=
 qAc.cells (xs:=[n]) (row:=qAf) h rfl (fun _=>rfl) rfl (by simp)
theorem c42{V:Mem}{l:Sl}{xs:List Int}(h:qAc V l 1 (xs.map qAf))(hb:xs.length<=2147483648):Tri Tryz.prog 42 #[l.v] V fun e V'=>∃s:Sl,e=.returned (.slice s.p s.n s.c)/\Sx.Own V V' 3 1 s (xs.flatMap qAf):=by
 refine x42 ?_
 unfold w42
 refine⟨fun h0=>⟨⟨none,0,0⟩,rfl,?_⟩,fun h0 tb htb=>?_⟩
 ·have:xs=[]:=by
   cases xs with
   | nil=>rfl
   | cons a l2 =>
    have:=h.base (i:=0) (by simp)
    simp_all
  grind [Own.nil,Mem.sub.refl]
 ·have s1:=Mem.sub_new htb (.cells #[] 3 (0,0))
  exact qFO (s:=⟨some ⟨tb,0,none⟩,0,0⟩) (u:=l) (xs:=[]) (ys:=xs) rfl rfl (Own.empty (V0:=V) s1 _ _ _) (h.sub s1) (by simpa using hb) fun s' V' ho=>⟨s',rfl,s',rfl,by simpa using ho⟩
end Go.Proofs
namespace Go.Sx
open Go
def qAA(r:Option Nat):Fence:={ Fence.wide with round:=r }
section
variable{P:Program}{r:Option Nat}{n:Nat}
theorem qEk{f:FuncId}{args:Array Value}{w:World}{R:Ending->World->Prop}:CallsIn (qAA r) n P f args w R↔Calls P f args w R:=callsIn_wide (n:=n)
theorem rowsIn_wideR{row:String}{args:Array Value}{w:World}{R:Value->World->Prop}(h:Rows P row args w R):RowsIn (qAA r) n P row args w R:=fun c cs _ =>
 let ⟨v,w',q,s⟩:=h c cs
 ⟨v,w',q,stepsIn_wide.2 s⟩
theorem qJO{o:Oper}{a:Act}{w:World}{next:Act->World->Prop}{Q:Exit->Act->World->Prop}(hd:∀c,o.op≠.defer c)(h:o.wp P a w next Q):o.wpIn (qAA r) n P a w next Q:=by
 refine⟨fun _ _=>trivial,?_⟩
 rw[Oper.semAt_eq _ _ _ hd]
 unfold Oper.wp at h
 revert h
 generalize (execOp a.eval o).run P w=res
 intro h
 cases res with
 | ok x w' =>
  cases x with
  | enter f args=>exact⟨fun h=>by simp[qAA,Fence.wide]at h,qEk.2 h⟩
  | row row args=>exact⟨fun h=>by simp[qAA,Fence.wide]at h,rowsIn_wideR h⟩
  | value v=>exact h
  | skip=>exact h
  | defer d=>exact h
  | _=>exact h.elim
 | halt x w'=>cases x <;> first|exact h|exact h.elim
def qGl:Op->Bool
 | .defer _=>false
 | _=>true
theorem qDs{o:Op}(h:qGl o=true):∀c,o≠.defer c:=fun c e=>by subst e;cases h
def qCX:Code->Bool
 | .region _ ops _=>ops.all fun o=>qGl o.op
 | .seq x y=>qCX x&&qCX y
 | .block _ b=>qCX b
 | .cond _ x y=>qCX x&&qCX y
 | .loop b=>qCX b
 | _=>true
theorem qDE{ops:Array Oper}{Q:Exit->Act->World->Prop}(hno:¬LetsOut Q)(hd:∀o∈ops,∀c,o.op≠.defer c)(l:List Oper):∀k,(∀j,j<l.length->l[j]?=ops[k+j]?)->∀a w,wpList P ops Q l a w ->
  wpOpsIn (qAA r) n P ops Q (List.range' k l.length) a w:=by
 induction l with
 | nil=>grind [wpOpsIn,wpList]
 | cons o l ih =>
  intro k h a w hw
  have h0:ops[k]?=some o:=by simpa using (h 0 (by simp)).symm
  have ih':=ih (k+1) (fun j hj=>by have:=h (j+1) (by simpa using hj);grind)
  simp only[List.length_cons,List.range'_succ,wpOpsIn,h0]
  simp only[wpList]at hw
  split
  ·rename_i hy
   rw[if_pos hy]at hw
   grind [qJO,Array.mem_of_getElem?,Oper.wp_mono]
  ·rename_i hy
   rw[if_neg hy]at hw
   exact⟨fun _ _=>trivial,ih' _ _ hw⟩
theorem qHJ{ops:Array Oper}{Q:Exit->Act->World->Prop}(hno:¬LetsOut Q)(hd:∀o∈ops,∀c,o.op≠.defer c){md:Region.Mode}:∀fuel listed a w,wpAny P md ops Q fuel listed a w ->
  wpAnyIn (qAA r) n P md ops Q fuel listed a w:=by
 intro fuel
 induction fuel with
 | zero=>exact fun _ _ _ h=>h
 | succ fuel ih =>
  rintro listed a w ⟨h1,h2⟩
  refine⟨h1,fun i hi=>?_⟩
  have:=h2 i hi
  unfold wpOp at this
  unfold wpOpIn
  split
  ·simp_all
  ·rename_i o ho
   simp only[ho]at this
   split
   ·rename_i hy
    rw[if_pos hy]at this
    grind [qJO,Array.mem_of_getElem?,Oper.wp_mono]
   ·rename_i hy
    rw[if_neg hy]at this
    exact⟨fun _ _=>trivial,ih _ _ _ this⟩
end
open Classical in
theorem qFU{P:Program}{F:Fence}{n₀:Nat}{c:Code}{Q:Exit->Act->World->Prop}{a:Act}{w:World}(Inv:Nat->Act->World->Prop)(h0:∃n,Inv n a w)
  (round:∀n a w,Inv n a w->c.wpIn F n₀ P (Exit.then (fun a' w'=>∃n',n'<n/\Inv n' a' w') Q) a w):(Code.loop c).wpIn F n₀ P Q a w:=by
 let m:Act->World->Nat:=fun a w=>if h:∃n,Inv n a w then Classical.choose (qHe _ h) else 0
 have hm:∀a w (h:∃n,Inv n a w),Inv (m a w) a w/\∀k,Inv k a w->m a w<=k:=fun a w h=>by
  grind
 refine wpIn_loop (fun a w=>∃n,Inv n a w) m h0 fun a w hI=>?_
 obtain⟨h1,h2⟩:=hm a w hI
 refine wpIn_mono (round _ a w h1) (fun e a' w' q=>?_)
 grind
section
variable{all:Array Oper}{k:St->Tr}{Q:Exit->Act->World->Prop}
variable{P:Program}{R:Ending->Mem->Prop}{V0:Mem}{w0:World}{L:List (List Value->Mem->Prop)}{ρ0:List Value}{fs:List Nat}{H:qHl}
theorem qIF(hcalls:qCb P fs){st:St}{a:Act}{w:World}(hQ:qJL R V0 w0 a.defers Q)(h:qCE P R noO V0 w0 H.N L ρ0 a.tmps w st (qCB P fs H all st k))
  (hlo:LetsOut (fun(_:Exit) (_:Act) (_:World)=>False)->LetsOut Q)
  (hk:∀st' a' w',a'.defers=a.defers->qCE P R noO V0 w0 H.N L ρ0 a'.tmps w' st' (k st')->Q .normal a' w'):wpAny P .any all Q all.size (Array.replicate all.size false) a { w with drawn:=w.drawn+1 }:=by
 unfold qCB at h
 simp only at h
 obtain⟨β,ρ,V,hp,hr,hD⟩:=h
 split at hD
 case isFalse=>exact hD.elim
 rename_i hc
 simp only[Bool.and_eq_true,List.all_eq_true]at hc
 obtain⟨hc1,hc2⟩:=hc
 obtain⟨hok,h2,h3,h4,h5⟩:=qJp hc1
 have hrep:∀j d,j<all.size->(Array.replicate all.size false).getD j d=false:=fun j d hj=>by simp_all
 refine(any_sound hcalls hok (fun i o ho=>hc2 o (by grind)) hQ hlo hk all.size (List.range all.size) (qGZ all (qAO all.toList []) all.size 0) [] st _ a _ a [] noO (fun x=>x) ?_ rfl List.nodup_range (by simp) fun j=>?_)
 ·exact
  {lsize:=by simp
   closed:=fun j oj hj hl=>by
    rw[hrep j _ (Array.getElem?_eq_some_iff.1 hj).1]at hl;cases hl
   chain:=h5
   nd:=h3
   bound:=h4
   unl:=fun j hj _=>.inr (nodup_all h3 h4 h2 hj)
   pu:=fun j hj=>by cases hj
   ru:=fun j hj=>.inl (hrep j _ (h4 j hj))
   boi:=fun i hi j hj hl=>by omega
   fsize:=rfl
   fdef:=rfl
   fill:=fun s _=>rfl
   goes:=⟨_,β,ρ,V,hp,hr.drawn _,hD⟩ }
 simp_all
end
section
variable{P:Program}{R:Ending->Mem->Prop}{O V0:Mem}{w0:World}{fs:List Nat}{H:qHl}
theorem noOut(Q:Exit->Act->World->Prop):¬LetsOut (fun e a' w'=>e≠.outgrown/\Q e a' w'):=fun⟨_,_,h⟩=>h.1 rfl
theorem nd1{x y:Bool}(h:(x&&y)=true):x=true:=by simp_all
theorem nd2{x y:Bool}(h:(x&&y)=true):y=true:=by simp_all
theorem ndOps{id:Nat}{ops:Array Oper}{d:Bool}(h:qCX (.region id ops d)=true):∀o∈ops,qGl o.op=true:=by
 grind [qCX,Array.all_eq_true']
theorem ex_sound_in{r:Option Nat}{n₀:Nat}(hcalls:qCb P fs)(hm:P.follows .mixedOrders=true):∀(c:Code),qCX c=true->∀(L:List (List Value->Mem->Prop)) (ρ0:List Value) (st:St) (k:Ex->St->Tr) (a:Act) (w:World) (Q:Exit->Act->World->Prop),
  qJL R V0 w0 a.defers Q->qCE P R noO V0 w0 H.N L ρ0 a.tmps w st (ex P fs H c st k) ->
  (∀e st' a' w' L',L <+: L'->a'.defers=a.defers->qCE P R noO V0 w0 H.N L' ρ0 a'.tmps w' st' (k e st')->Q e.toExit a' w')->c.wpIn (qAA r) n₀ P Q a w:=by
 intro c
 induction c with
 | skip=>intro nd L ρ0 st k a w Q hQ h hk;exact wpIn_skip (hk .normal st a w L (List.prefix_refl _) rfl h)
 | ret=>intro nd L ρ0 st k a w Q hQ h hk;exact wpIn_ret (hk .ret st a w L (List.prefix_refl _) rfl h)
 | exit id=>intro nd L ρ0 st k a w Q hQ h hk;exact wpIn_exit (hk (.exit id) st a w L (List.prefix_refl _) rfl h)
 | seq x y ihx ihy =>
  intro nd L ρ0 st k a w Q hQ h hk
  refine wpIn_seq (ihx (nd1 nd) L ρ0 st _ a w _ hQ h fun e st' a' w' L' hL hd hg=>?_)
  cases e with
  | normal=>exact ihy (nd2 nd) L' ρ0 st' k a' w' Q (by grind) hg fun e st'' a'' w'' L'' hL' hd' hg'=>hk e st'' a'' w'' L'' (hL.trans hL') (hd'.trans hd) hg'
  | exit i=>exact hk (.exit i) st' a' w' L' hL hd hg
  | ret=>exact hk .ret st' a' w' L' hL hd hg
 | block id b ih =>
  intro nd L ρ0 st k a w Q hQ h hk
  refine wpIn_block (ih nd L ρ0 st _ a w _ hQ h fun e st' a' w' L' hL hd hg=>?_)
  cases e with
  | normal=>exact hk .normal st' a' w' L' hL hd hg
  | exit i =>
   simp only at hg
   show (if i=id then Q .normal a' w' else Q (.exit i) a' w')
   split
   ·rename_i e;rw[if_pos e]at hg;exact hk .normal st' a' w' L' hL hd hg
   ·rename_i e;rw[if_neg e]at hg;exact hk (.exit i) st' a' w' L' hL hd hg
  | ret=>exact hk .ret st' a' w' L' hL hd hg
 | cond c x y ihx ihy =>
  intro nd L ρ0 st k a w Q hQ h hk
  obtain⟨β,ρ,V,hp,hr,hD⟩:=h
  simp only[ex]at hD
  split at hD
  ·rename_i v hv
   have he:a.eval c=.bool v:=qAK hr hv
   cases v with
   | true=>exact wpIn_cond_true he (ihx (nd1 nd) L ρ0 st k a w Q hQ ⟨β,ρ,V,hp,hr,hD⟩ hk)
   | false=>exact wpIn_cond_false he (ihy (nd2 nd) L ρ0 st k a w Q hQ ⟨β,ρ,V,hp,hr,hD⟩ hk)
  ·rename_i t _ ht
   split at hD
   ·rename_i hc
    obtain⟨hc1,hc2⟩:=hc
    obtain⟨b,hb⟩:=qGs (ρ:=ρ) (β:=β) hc1
    have he:a.eval c=.bool b:=(qAK hr ht).trans hb
    have hfr:=(T.ev_free (β:=id) (β':=β) (ρ:=ρ) t hc2).1
    split at hD
    ·rename_i d
     simp only[D,hfr,hb,asB]at hD
     have hlearn:Rel noO V0 w0 H.N β (st.now d (.bool b)) ρ V a.tmps w:=hr.now (t:=t) ht (by rw[hb];rfl)
     cases b with
     | true=>exact wpIn_cond_true he (ihx (nd1 nd) L ρ0 _ k a w Q hQ ⟨β,ρ,V,hp.now _ _,hlearn,hD.1 rfl⟩ hk)
     | false=>exact wpIn_cond_false he (ihy (nd2 nd) L ρ0 _ k a w Q hQ ⟨β,ρ,V,hp.now _ _,hlearn,hD.2 rfl⟩ hk)
    ·simp only[D,hfr,hb,asB]at hD
     cases b with
     | true=>exact wpIn_cond_true he (ihx (nd1 nd) L ρ0 _ k a w Q hQ ⟨β,ρ,V,hp,hr,hD.1 rfl⟩ hk)
     | false=>exact wpIn_cond_false he (ihy (nd2 nd) L ρ0 _ k a w Q hQ ⟨β,ρ,V,hp,hr,hD.2 rfl⟩ hk)
   ·exact hD.elim
  ·exact hD.elim
 | region id ops draw =>
  intro nd L ρ0 st k a w Q hQ h hk
  cases draw with
  | true =>
   refine wpIn_mono (wpIn_region_any (Q:=fun e a' w'=>e≠.outgrown/\Q e a' w') hm (qHJ (noOut Q) (fun o ho=>qDs (ndOps nd o ho)) _ _ _ _ (qIF hcalls (fun ch a' w' hd hR=>⟨by simp,hQ ch a' w' hd hR⟩) h (fun⟨_,_,h⟩=>h.elim) fun st' a' w' hd hg=>⟨by simp,hk .normal st' a' w' L (List.prefix_refl _) hd hg⟩))) fun e a w h=>h.2
  | false =>
   refine wpIn_mono (wpIn_region (Q:=fun e a' w'=>e≠.outgrown/\Q e a' w') ?_) fun e a w h=>h.2
   rw[List.range_eq_range',<- Array.length_toList]
   exact qDE (noOut Q) (fun o ho=>qDs (ndOps nd o ho)) _ _ (fun j _=>by simp) _ _ (qCY hcalls ops.toList st a w (fun ch a' w' hd hR=>⟨by simp,hQ ch a' w' hd hR⟩) h fun st' a' w' hd hg=>⟨by simp,hk .normal st' a' w' L (List.prefix_refl _) hd hg⟩)
 | loop b ih =>
  intro nd L ρ0 st k a w Q hQ h hk
  obtain⟨β,ρ,V,hp,hr,hD⟩:=h
  simp only[ex,exLoop]at hD
  generalize dedup (qHm b)=ws at hD
  generalize (((qBM b).bind fun i=>H.loops.lookup i).getD [])=hint at hD
  obtain⟨st',t,hg,hfree,β',ρ',V',hp',hr',hD'⟩:=qAW _ _ _ _ ⟨β,ρ,V,hp,hr,hD⟩
  split at hD'
  case isFalse=>exact hD'.elim
  rename_i hw
  split at hD'
  ·exact hD'.elim
  ·rename_i st1 bs hgb
   split at hD'
   ·exact hD'.elim
   ·rename_i init hinit
    split at hD'
    case isFalse=>exact hD'.elim
    rename_i hok
    simp only[D]at hD'
    obtain⟨I,μ,hI,hround⟩:=hD'
    obtain⟨hrh,hsh⟩:=qIb hw hr'.nv (List.prefix_refl _) hgb hinit hok hr'
    let Inv:Nat->Act->World->Prop:=fun n a' w'=>∃β xs V',Shaped (bs.flatMap (·.2.2)++(qAE ws st1).2.flatMap (·.2.2)) xs/\I xs V'/\μ xs V'=n /\
     Rel noO V0 w0 H.N β { (qAE ws st1).1 with depth:=st'.depth+1 } (ρ'++xs) V' a'.tmps w'/\a'.defers=a.defers
    refine qFU Inv ⟨_,β',init.evs ρ' id,V',hsh,hI,rfl,hrh,rfl⟩ ?_
    rintro n a1 w1 ⟨β1,xs,V1,hsh1,hI1,rfl,hr1,hd1⟩
    have hDb:=hround xs V1 hsh1 hI1
    refine ih nd (L++[fun ys V''=>I ys V''/\μ ys V''<μ xs V1]) ρ' _ _ a1 w1 _ (by rw[hd1];exact hQ) ⟨β1,ρ'++xs,V1,⟨List.prefix_append _ _,?_⟩,hr1,hDb⟩ ?_
    ·simp[hp'.2]
    ·intro e st2 a2 w2 L2 hL2 hd2 hg2
     cases e with
     | normal =>
      obtain⟨β2,ρ2,V2,hp2,hr2,hD2⟩:=hg2
      simp only at hD2
      split at hD2
      ·rename_i vs hvs
       split at hD2
       ·rename_i hok2
        simp only[D]at hD2
        obtain⟨J,hJ,hJ2⟩:=hD2
        have hlvl:L2[st'.depth]?=some (fun ys V''=>I ys V''/\μ ys V''<μ xs V1):=by
         obtain⟨σ,rfl⟩:=hL2
         rw[<- hp'.2,List.getElem?_append_left (by simp),List.getElem?_append_right (Nat.le_refl _)]
         simp
        rw[hlvl]at hJ
        simp only[Option.some.injEq]at hJ
        subst hJ
        obtain⟨hrh2,hsh2⟩:=qIb hw hr'.nv hp2.1 hgb hvs hok2 hr2
        exact⟨_,hJ2.2,β2,vs.evs ρ2 id,V2,hsh2,hJ2.1,rfl,hrh2,hd2.trans hd1⟩
       ·exact hD2.elim
      ·exact hD2.elim
     | exit i=>exact hk (.exit i) st2 a2 w2 L2 ((List.prefix_append _ _).trans hL2) (hd2.trans hd1) (hg2.weak hp'.1)
     | ret=>exact hk .ret st2 a2 w2 L2 ((List.prefix_append _ _).trans hL2) (hd2.trans hd1) (hg2.weak hp'.1)
 | rangeFunc _ _ _ _ _ _=>intro nd L ρ0 st k a w Q hQ h hk;obtain⟨β,ρ,V,hp,hr,hD⟩:=h;exact hD.elim
 | scope _ _=>intro nd L ρ0 st k a w Q hQ h hk;obtain⟨β,ρ,V,hp,hr,hD⟩:=h;exact hD.elim
 | label _=>intro nd L ρ0 st k a w Q hQ h hk;obtain⟨β,ρ,V,hp,hr,hD⟩:=h;exact hD.elim
 | goto _=>intro nd L ρ0 st k a w Q hQ h hk;obtain⟨β,ρ,V,hp,hr,hD⟩:=h;exact hD.elim
 | refuse _=>intro nd L ρ0 st k a w Q hQ h hk;obtain⟨β,ρ,V,hp,hr,hD⟩:=h;exact hD.elim
end
section
variable{P:Program}{fs:List Nat}{H:qHl}
def wpL(r:Option Nat)(n:Nat)(P:Program)(Q:Exit->Act->World->Prop):List Code->Act->World->Prop
 | [],a,w=>Q .normal a w
 | c::cs,a,w=>c.wpIn (qAA r) n P (Exit.then (wpL r n P Q cs) Q) a w
def flat:Code->List Code
 | .seq x y=>flat x++flat y
 | c=>[c]
theorem qJN{r:Option Nat}{n:Nat}{Q:Exit->Act->World->Prop}{l2:List Code}:∀{l1:List Code} {a:Act} {w:World},wpL r n P (Exit.then (wpL r n P Q l2) Q) l1 a w->wpL r n P Q (l1++l2) a w
 | [],_,_,h=>h
 | c::cs,a,w,h=>by
  refine wpIn_mono (show c.wpIn (qAA r) n P _ a w from h) fun e a' w' he=>?_
  cases e with
  | normal=>exact qJN he
  | _=>exact he
theorem qCI{r:Option Nat}{n:Nat}{Q Q':Exit->Act->World->Prop}(hq:∀e a w,Q e a w->Q' e a w):∀{l:List Code} {a:Act} {w:World},wpL r n P Q l a w->wpL r n P Q' l a w
 | [],_,_,h=>hq _ _ _ h
 | c::cs,a,w,h=>by
  refine wpIn_mono (show c.wpIn (qAA r) n P _ a w from h) fun e a' w' he=>?_
  cases e with
  | normal=>exact qCI hq he
  | _=>exact hq _ _ _ he
theorem qFx{r:Option Nat}{n:Nat}{Q:Exit->Act->World->Prop}{l2:List Code}:∀{l1:List Code} {a:Act} {w:World},wpL r n P Q (l1++l2) a w->wpL r n P (Exit.then (wpL r n P Q l2) Q) l1 a w
 | [],_,_,h=>h
 | c::cs,a,w,h=>by
  refine wpIn_mono (show c.wpIn (qAA r) n P _ a w from h) fun e a' w' he=>?_
  cases e with
  | normal=>exact qFx he
  | _=>exact he
theorem qCy{r:Option Nat}{n:Nat}:∀{c:Code} {Q:Exit->Act->World->Prop} {a:Act} {w:World},wpL r n P Q (flat c) a w->c.wpIn (qAA r) n P Q a w:=by
 intro c
 induction c with
 | seq x y ihx ihy =>
  intro Q a w h
  refine wpIn_seq (ihx ?_)
  refine qCI (fun e a w he=>?_) (qFx h)
  cases e with
  | normal=>exact ihy he
  | _=>exact he
 | _ =>
  intro Q a w h
  refine wpIn_mono (show Code.wpIn (qAA r) n P _ _ a w from h) fun e a' w' he=>?_
  cases e with
  | normal=>exact he
  | _=>exact he
def Seg(P:Program)(N:Nat)(cs:List Code)(ins:List (Nat×Value))(outs:List Nat)(V:Mem)(R:List Value->Mem->Prop):Prop :=
 ∀r n a w,V.le w->a.tmps.size=N->(∀s v,ins.lookup s=some v->a.tmps.getD s undef=v) ->
  wpL r n P (fun e a' w'=>e=.normal/\a'.defers=a.defers/\a'.tmps.size=N/\∃vs V',(∀s v,(outs.zip vs).lookup s=some v->a'.tmps.getD s undef=v)/\R vs V'/\Frm V w V' w') cs a w
theorem Seg.mono{N:Nat}{cs:List Code}{ins:List (Nat×Value)}{outs:List Nat}{V:Mem}{R R':List Value->Mem->Prop}(h:Seg P N cs ins outs V R)(hr:∀vs V',R vs V'->R' vs V'):Seg P N cs ins outs V R' :=
 fun r n a w hV hN hs=>qCI (fun _ _ _ ⟨h1,h2,h3,vs,V',h4,h5,h6⟩=>⟨h1,h2,h3,vs,V',h4,hr _ _ h5,h6⟩) (h r n a w hV hN hs)
def exL(P:Program)(fs:List Nat)(H:qHl):List Code->St->(Ex->St->Tr)->Tr
 | [],st,k=>k .normal st
 | c::cs,st,k=>ex P fs H c st fun e st=>match e with | .normal=>exL P fs H cs st k|e=>k e st
def segT(P:Program)(fs:List Nat)(H:qHl)(cs:List Code)(slots:List (Nat×T))(nv:Nat)(outs:List Nat):Tr :=
 if (slots.all fun x=>x.2.wf nv 0)/\cs.all qCX then
  exL P fs H cs { slots,boxes:=[],nv,nb:=0,depth:=0 } fun e st =>
   match e with
   | .normal=>pubT (st.nb+2) st (fun st=>(qEN st outs).map T.tup) fun _ t=>.ret t
   | _=>.bad 60 0
 else .bad 61 0
theorem exL_sound{R:Ending->Mem->Prop}{V0:Mem}{w0:World}{r:Option Nat}{n:Nat}(hcalls:qCb P fs)(hm:P.follows .mixedOrders=true){k:Ex->St->Tr}{Q:Exit->Act->World->Prop}{ρ0:List Value}:∀{cs:List Code} {L:List (List Value->Mem->Prop)} {st:St} {a:Act} {w:World},
  qJL R V0 w0 a.defers Q->qCE P R noO V0 w0 H.N L ρ0 a.tmps w st (exL P fs H cs st k)->cs.all qCX=true ->
  (∀e st' a' w' L',L <+: L'->a'.defers=a.defers->qCE P R noO V0 w0 H.N L' ρ0 a'.tmps w' st' (k e st')->Q e.toExit a' w')->wpL r n P Q cs a w
 | [],L,st,a,w,_,h,_,hk=>hk .normal st a w L (List.prefix_refl _) rfl h
 | c::cs,L,st,a,w,hQ,h,hnd,hk=>by
  simp only[List.all_cons,Bool.and_eq_true]at hnd
  refine ex_sound_in hcalls hm c hnd.1 L ρ0 st _ a w _ hQ h fun e st' a' w' L' hL hd hg=>?_
  cases e with
  | normal=>exact exL_sound hcalls hm (by grind) hg hnd.2 fun e st'' a'' w'' L'' hL' hd' hg'=>hk e st'' a'' w'' L'' (hL.trans hL') (hd'.trans hd) hg'
  | exit i=>exact hk (.exit i) st' a' w' L' hL hd hg
  | ret=>exact hk .ret st' a' w' L' hL hd hg
end
section
variable{P:Program}{fs:List Nat}{H:qHl}
theorem qDv{f:T->Value}:∀{l:List Nat} {ts:List T} {s:Nat} {v:Value},(l.zip (ts.map f)).lookup s=some v->∃t,(l.zip ts).lookup s=some t/\f t=v/\s∈l
 | [],_,s,v,h=>by simp at h
 | x::xs,[],s,v,h=>by simp at h
 | x::xs,t::ts,s,v,h=>by
  simp only[List.map_cons,List.zip_cons_cons,List.lookup_cons]at h ⊢
  by_cases e:s=x
  ·simp_all
  ·have:(s==x)=false:=by simpa using e
   rw[this]at h ⊢
   obtain⟨t',h1,h2,h3⟩:=qDv h
   simp_all
theorem qDw{f:T->Value}:∀{l:List (Nat×T)} {s:Nat} {t:T},l.lookup s=some t->(l.map fun x=>(x.1,f x.2)).lookup s=some (f t)
 | [],s,t,h=>by simp at h
 | (x,u)::xs,s,t,h=>by
  simp only[List.map_cons,List.lookup_cons]at h ⊢
  split at h
  ·simp_all
  ·exact qDw h
theorem seg_sound(hcalls:qCb P fs)(hm:P.follows .mixedOrders=true){N:Nat}{cs:List Code}{slots:List (Nat×T)}{nv:Nat}{outs:List Nat}{t:Tr}(ht:segT P fs { H with N:=N } cs slots nv outs=t)(ρ:List Value)(hn:ρ.length=nv)
  {ins:List (Nat×Value)} (hins:ins=slots.map fun x=>(x.1,x.2.ev ρ id)) {V:Mem} {R:List Value->Mem->Prop} {q:Prop} (hq:q=DT P {} (fun e V'=>∃vs:List Value,e=.returned (.tuple vs.toArray)/\R vs V') t [] ρ V) (h:q) :
  Seg P N cs ins outs V R:=by
 intro r n a w hV hN hs
 subst hq hins ht
 have hD:=qBN _ _ _ _ h
 unfold segT at hD
 split at hD
 case isFalse=>exact hD.elim
 rename_i hw
 obtain⟨hwf,hnd⟩:=hw
 refine exL_sound (L:=[]) (ρ0:=ρ) (V0:=V) (w0:=w) hcalls hm (fun _ _ _ _ h=>by simp_all) ⟨id,ρ,V,⟨List.prefix_refl _,rfl⟩,?_,hD⟩ hnd ?_
 ·exact
   {nv:=hn
    size:=hN
    slots:=fun s t hg=>by
     have hl:=qCP hg
     simp_all [qDw,id]
    frm:=Frm.refl hV
    boxes:=fun i cs ty hi=>by simp[St.box]at hi
    hid:=fun b o hb=>by cases hb
    inj:=fun i j hi _ _=>by grind }
 ·intro e st' a' w' L' _ hd hg
  cases e with
  | exit j=>obtain⟨β,ρ2,V2,hp,hr,hD⟩:=hg;exact hD.elim
  | ret=>obtain⟨β,ρ2,V2,hp,hr,hD⟩:=hg;exact hD.elim
  | normal =>
   obtain⟨st2,t2,hg2,hfree,β,ρ2,V2,hp,hr,hD⟩:=qAW _ _ _ _ hg
   simp only[Option.map_eq_some_iff]at hg2
   obtain⟨x,hx,rfl⟩:=hg2
   simp only[D]at hD
   obtain⟨vs,h1,h2⟩:=hD
   simp only[T.ev,Ending.returned.injEq,Value.tuple.injEq]at h1
   have h1':T.evs ρ2 id x=vs:=by simp_all
   refine⟨rfl,hd,hr.size,vs,V2,fun s v hsv=>?_,h2,hr.frm⟩
   rw[<- h1',qAH]at hsv
   obtain⟨t,g1,g2,g3⟩:=qDv hsv
   obtain⟨y,g4,g5⟩:=qEg hx s g3
   have g6:=qCM hx s g3
   rw[g1,g4]at g6
   simp only[Option.some.injEq]at g6;subst g6
   rw[hr.slots s t g4,<- g2]
   grind [qIf,T.firstBox,T.ev_free]
end
section
variable{P:Program}
def qDG(fn:FuncId)(tmps:Array Value)(ps:Array Tmp)(assign body:Code)(D:Nat):Loop:={ state:=.ready,pending:=none,fn,tmps,params:=ps,assign,body,defers:=D }
theorem qGW{g:Operand}{ps:Array Tmp}{assign body:Code}{a:Act}{w:World}{V:Mem}{f:FuncId}{caps:Array Value}{n:Nat}{Q:Exit->Act->World->Prop}{Φ:Mem->Prop}
  (hV:V.le w) (hg:a.eval g=.func (.func f) #[] caps) (eg:∀args w,(callFunc f args).run P w=.ok (.enter f args) w)
  (hit:∀fn l D,V l=none->Tri P f (#[.func (.yield l) #[] #[]]++caps) (V.set l (.loop (qDG fn a.tmps ps assign body D))) fun e V'=>(∃v,e=.returned v)/\∃V2,V'=V2.set l (.loop (qDG fn a.tmps ps assign body D))/\V2 l=none/\Φ V2)
  (hdone:∀D V' W,w.heap.size<=D->Frm V w V' W->V' D=none->W.heap[D]?=some (.deferred (some []))->Φ V'->Q .normal { a with defers:={ target:=.collected D,args:=#[] }::a.defers } W) :
  (Code.rangeFunc g ps assign body).wpIn (qAA none) n P Q a w:=by
 refine wpIn_rangeFunc fun fn _=>?_
 obtain⟨W1,hW1⟩:∃W1,(w.alloc (.deferred (some []))).alloc (.loop (qDG fn a.tmps ps assign body w.heap.size))=W1:=⟨_,rfl⟩
 have hs1:W1.heap.size=w.heap.size+2:=by rw[<- hW1];simp
 have hL1:W1.heap[w.heap.size+1]?=some (.loop (qDG fn a.tmps ps assign body w.heap.size)):=by
  grind [World.alloc_heap_new,qDG,World.size_alloc]
 have hK1:W1.heap[w.heap.size]?=some (.deferred (some [])):=by
  grind [Go.RowKit.Below.heap_alloc,World.alloc_heap_new]
 have hold:∀b,b<w.heap.size->W1.heap[b]?=w.heap[b]?:=fun b hb=>by
  grind [Go.RowKit.Below.heap_alloc]
 have hVn:∀b,w.heap.size<=b->V b=none:=fun b hb=>by
  cases hc:V b with
  | none=>rfl
  | some o=>have:=(Array.getElem?_eq_some_iff.1 (hV b o hc)).1;omega
 have hle:(V.set (w.heap.size+1) (.loop (qDG fn a.tmps ps assign body w.heap.size))).le W1:=fun b o hb=>by
  by_cases e:b=w.heap.size+1
  ·grind [Mem.set_same]
  ·rw[Mem.set_ne e]at hb
   have:=(Array.getElem?_eq_some_iff.1 (hV b o hb)).1
   rw[hold b this];exact hV b o hb
 refine⟨w.heap.size+1,[{ target:=.collected w.heap.size,args:=#[] }],W1,{ target:=.fn (.func f) caps,args:=#[.func (.yield (w.heap.size+1)) #[] #[]] },W1,f,
  #[.func (.yield (w.heap.size+1)) #[] #[]]++caps,W1,?_,?_,?_,?_,fun h=>by simp[qAA,Fence.wide]at h,?_⟩
 ·rw[<- hW1];exact run_enterLoop_outer _ _ _ _ _
 ·simp only[resolve,hg]
  simp[go_sem]
 ·intro f' hf';trivial
 ·simp[invoke,go_sem,eg]
 ·refine qEk.2 (qCS (hit fn (w.heap.size+1) w.heap.size (hVn _ (by omega)) W1 hle) ?_)
  rintro e W3 ⟨V',⟨⟨v,rfl⟩,V2,rfl,h2,hΦ⟩,hF⟩
  have hl3:W3.heap[w.heap.size+1]?=some (.loop (qDG fn a.tmps ps assign body w.heap.size)):=hF.le _ _ (Mem.set_same _ _ _)
  have hlt:w.heap.size+1<W3.heap.size:=(Array.getElem?_eq_some_iff.1 hl3).1
  refine⟨none,_,run_endLoop (P:=P) hl3 (by simp[qDG]),?_⟩
  have hD0:(V.set (w.heap.size+1) (.loop (qDG fn a.tmps ps assign body w.heap.size))) w.heap.size=none:=by
   simp_all [Mem.set_ne,Nat.le_refl]
  have hD3:W3.heap[w.heap.size]?=some (.deferred (some [])):=(hF.old _ (by omega) hD0).trans hK1
  refine hdone w.heap.size V2 _ (Nat.le_refl _) ?_ ?_ ((World.putObj_heap_other (by omega)).trans hD3) hΦ
  ·refine⟨?_,fun b o hb=>?_,fun b hb hn=>?_,fun b hb=>?_,?_,?_⟩
   ·grind [World.putObj_size]
   ·have e:b≠w.heap.size+1:=fun e=>by simp_all
    refine(World.putObj_heap_other e).trans (hF.le b o ?_)
    rw[Mem.set_ne e];exact hb
   ·refine(World.putObj_heap_other (by omega)).trans ((hF.old b (by omega) ?_).trans (hold b hb))
    grind [Mem.set_ne]
   ·have e:b≠w.heap.size+1:=fun e=>by simp_all
    rcases hF.dom b (by rw[Mem.set_ne e];exact hb) with h|h
    ·grind [Mem.set_ne]
    omega
   ·show W3.os=w.os;rw[hF.os,<- hW1];rfl
   ·show W3.output=w.output;rw[hF.out,<- hW1];rfl
  ·cases hc:V2 w.heap.size with
   | none=>rfl
   | some o =>
    rcases hF.dom w.heap.size (by grind [Mem.set_ne]) with h|h
    ·grind
    ·omega
theorem qGS{l:Nat}{V:Mem}{w:World}{fn:FuncId}{tmps:Array Value}{ps:Array Tmp}{assign body:Code}{D:Nat}{args:Array Value}{N n:Nat}(hl:V l=none)
  (hV:(V.set l (.loop (qDG fn tmps ps assign body D))).le w) {insA:List (Nat×Value)} {outsA:List Nat} {RA:List Value->Mem->Prop} {J:Mem->Prop} (hN:((ps.zip args).foldl (fun t (p,v)=>t.setIfInBounds p v) tmps).size=N)
  (hins:∀s v,insA.lookup s=some v->((ps.zip args).foldl (fun t (p,v)=>t.setIfInBounds p v) tmps).getD s undef=v)
  (hA:Seg P N [assign] insA outsA V RA) (hB:∀vs V1,RA vs V1->Seg P N [body] (outsA.zip vs) [] V1 fun _ V2=>J V2) :
  RoundIn (qAA none) n P l fn ((ps.zip args).foldl (fun t (p,v)=>t.setIfInBounds p v) tmps) assign body w fun e w' =>
   e=.returned (.bool true)/\∃V2,J V2/\V2 l=none/\Frm (V.set l (.loop (qDG fn tmps ps assign body D))) w (V2.set l (.loop (qDG fn tmps ps assign body D))) w':=by
 have hlw:w.heap[l]?=some (.loop (qDG fn tmps ps assign body D)):=hV l _ (Mem.set_same _ _ _)
 have hllt:l<w.heap.size:=(Array.getElem?_eq_some_iff.1 hlw).1
 have hVle:V.le w:=fun b o hb=>by
  have e:b≠l:=fun e=>by simp_all
  exact hV b o (by rw[Mem.set_ne e];exact hb)
 refine roundIn_of_wpIn (F:=qAA none) trivial ?_
 have h1:=hA (some l) n { tmps:=(ps.zip args).foldl (fun t (p,v)=>t.setIfInBounds p v) tmps,defers:=[] } w hVle hN hins
 refine wpIn_mono (show assign.wpIn (qAA (some l)) n P _ _ w from h1) ?_
 rintro e a1 w1 he
 cases e with
 | normal =>
  obtain⟨_,hd1,hN1,vs,V1,hs1,hR1,hF1⟩:=he
  have hl1:w1.heap[l]?=some (.loop (qDG fn tmps ps assign body D)):=(hF1.old l hllt hl).trans hlw
  refine⟨_,run_beginRound hl1 rfl,?_⟩
  have hlt1:l<w1.heap.size:=(Array.getElem?_eq_some_iff.1 hl1).1
  have hV1l:V1 l=none:=by
   cases hc:V1 l with
   | none=>rfl
   | some o =>
    rcases hF1.dom l (by rw[hc];simp) with h|h
    ·grind
    ·omega
  have hV1:V1.le (w1.putObj l (.loop { qDG fn tmps ps assign body D with state:=.busy })):=fun b o hb=>by
   have e:b≠l:=fun e=>by simp_all
   exact(World.putObj_heap_other e).trans (hF1.le b o hb)
  have h2:=hB vs V1 hR1 (some l) n a1 _ hV1 hN1 hs1
  refine wpIn_mono (show body.wpIn (qAA (some l)) n P _ _ _ from h2) ?_
  rintro e a2 w2 he2
  cases e with
  | normal =>
   obtain⟨_,_,_,_,V2,_,hJ,hF2⟩:=he2
   have hl2:w2.heap[l]?=some (.loop { qDG fn tmps ps assign body D with state:=.busy }):=(hF2.old l (by simp_all) hV1l).trans (World.putObj_heap_same hlt1)
   have hlt2:l<w2.heap.size:=(Array.getElem?_eq_some_iff.1 hl2).1
   have hV2l:V2 l=none:=by
    cases hc:V2 l with
    | none=>rfl
    | some o =>
     rcases hF2.dom l (by rw[hc];simp) with h|h
     ·grind
     grind [World.putObj_size]
   refine⟨_,_,run_endRound (P:=P) none hl2,rfl,V2,hJ,hV2l,?_⟩
   have z2:=hF2.size
   rw[World.putObj_size]at z2
   have z1:=hF1.size
   refine⟨?_,fun b o hb=>?_,fun b hb hn=>?_,fun b hb=>?_,?_,?_⟩
   ·rw[World.putObj_size];omega
   ·by_cases e:b=l
    ·subst e
     rw[Mem.set_same]at hb
     rw[<- hb];exact World.putObj_heap_same hlt2
    ·rw[Mem.set_ne e]at hb
     exact(World.putObj_heap_other e).trans (hF2.le b o hb)
   ·have e:b≠l:=fun e=>by grind [Mem.set_same]
    rw[Mem.set_ne e]at hn
    have hn1:V1 b=none:=by
     cases hc:V1 b with
     | none=>rfl
     | some o =>
      rcases hF1.dom b (by rw[hc];simp) with h|h
      ·grind
      ·omega
    refine(World.putObj_heap_other e).trans ((hF2.old b (by rw[World.putObj_size];omega) hn1).trans ((World.putObj_heap_other e).trans (hF1.old b hb hn)))
   ·by_cases e:b=l
    ·grind [Mem.set_same]
    ·rw[Mem.set_ne e]at hb ⊢
     rcases hF2.dom b hb with h|h
     ·rcases hF1.dom b h with h|h
      ·exact .inl h
      ·exact .inr h
     grind [inr,World.putObj_size]
   ·show w2.os=w.os;rw[hF2.os];exact hF1.os
   ·show w2.output=w.output;rw[hF2.out];exact hF1.out
  | _=>exact absurd he2.1 (by simp)
 | _=>exact absurd he.1 (by simp)
theorem qHo{f:FuncId}{fn:Func}{c:Code}{args:Array Value}{V:Mem}{R:Ending->Mem->Prop}(hf:P.funcs[f]?=some fn)(hb:fn.body=some c)
  (h:∀w,V.le w->wpL none 0 P (fun e a' w'=>(e=.normal∨e=.ret)/\∃Ds:List Nat,a'.defers=Ds.map (fun D=>{ target:=.collected D,args:=#[] })/\Ds.Nodup/\∃V',Frm V w V' w' /\
    (∀D∈Ds,w.heap.size<=D/\w'.heap[D]?=some (.deferred (some []))/\V' D=none)/\∃v,(∀w'',V'.le w''->(results fn a'.tmps).run P w''=.ok v w'')/\R (.returned v) V')
   (flat c) { tmps:=args++Array.replicate (fn.ntmps-args.size) undef,defers:=[] } w):Tri P f args V R:=by
 intro w hV
 have key:∀(Ds:List Nat) (a':Act) (V':Mem) (v:Value) (w':World),Ds.Nodup->Frm V w V' w'->(∀D∈Ds,w.heap.size<=D/\w'.heap[D]?=some (.deferred (some []))/\V' D=none) ->
   (∀w'',V'.le w''->(results fn a'.tmps).run P w''=.ok v w'')->R (.returned v) V' ->
   LeavesInM (qAA none) 0 P fn a'.tmps (fun e w'=>∃V',R e V'/\Frm V w V' w') (Ds.map fun D=>{ target:=.collected D,args:=#[] }) .returning w':=by
  intro Ds a' V' v
  induction Ds with
  | nil=>intro w' _ hF _ hr hR;exact⟨v,hr w' hF.le,V',hR,hF⟩
  | cons D Ds ih =>
   intro w' hnd hF hD hr hR
   obtain⟨hD1,hD2,hD3⟩:=hD D (by simp)
   have hlt:=(Array.getElem?_eq_some_iff.1 hD2).1
   refine⟨by simp,.inl ⟨D,_,rfl,run_takeDeferred hD2,ih _ (List.nodup_cons.1 hnd).2 ?_ ?_ hr hR⟩⟩
   ·refine⟨by grind [World.putObj_size],fun b o hb=>?_,fun b hb hn=>?_,hF.dom,hF.os,hF.out⟩
    ·have e:b≠D:=fun e=>by simp_all
     exact(World.putObj_heap_other e).trans (hF.le b o hb)
    ·exact(World.putObj_heap_other (by omega)).trans (hF.old b hb hn)
   grind [D,List.nodup_cons,World.putObj_heap_other]
 refine(callsIn_wide (n:=0)).1 (callsIn_of_wp_marks (F:=qAA none) hf hb trivial (qCy ?_) rfl)
 refine qCI ?_ (h w hV)
 rintro e a' w' ⟨he,Ds,hd,hnd,V',hF,hD,v,hr,hR⟩
 rcases he with rfl|rfl
 ·show LeavesInM _ _ _ _ _ _ a'.defers _ _
  grind
 ·show LeavesInM _ _ _ _ _ _ a'.defers _ _
  grind
end
def kid:Code->Nat->Code
 | .block _ b,_=>b
 | .loop b,_=>b
 | .cond _ x y,j=>if j=0 then x else y
 | .rangeFunc _ _ x y,j=>if j=0 then x else y
 | c,_=>c
def qCu(c:Code):List Nat->List Code
 | i::j::p=>match (flat c)[i]? with|some d=>qCu (kid d j) p|none=>[]
 | _=>flat c
def qED:Code->Array Oper
 | .region _ ops _=>ops
 | _=>#[]
def qAp(f:Func):Code:=f.body.getD .skip
section
variable{P:Program}{fs:List Nat}{H:qHl}
def qDd(P:Program)(N:Nat)(ops:Array Oper)(k m:Nat)(ins:List (Nat×Value))(outs:List Nat)(V:Mem)(R:List Value->Mem->Prop):Prop :=
 ∀r n a w,V.le w->a.tmps.size=N->(∀s v,ins.lookup s=some v->a.tmps.getD s undef=v) ->
  wpOpsIn (qAA r) n P ops (fun e a' w'=>e=.normal/\a'.defers=a.defers/\a'.tmps.size=N/\∃vs V',(∀s v,(outs.zip vs).lookup s=some v->a'.tmps.getD s undef=v)/\R vs V'/\Frm V w V' w') (List.range' k m) a w
def segOT(P:Program)(fs:List Nat)(H:qHl)(ops:Array Oper)(k m:Nat)(slots:List (Nat×T))(nv:Nat)(outs:List Nat):Tr :=
 if (slots.all fun x=>x.2.wf nv 0)/\(ops.all fun o=>qGl o.op)/\((ops.toList.drop k).take m).length=m then
  qLw P fs H ops ((ops.toList.drop k).take m) { slots,boxes:=[],nv,nb:=0,depth:=0 } fun st =>
   pubT (st.nb+2) st (fun st=>(qEN st outs).map T.tup) fun _ t=>.ret t
 else .bad 61 0
theorem sego_sound(hcalls:qCb P fs){N:Nat}{ops:Array Oper}{k m:Nat}{slots:List (Nat×T)}{nv:Nat}{outs:List Nat}{t:Tr}(ht:segOT P fs { H with N:=N } ops k m slots nv outs=t)(ρ:List Value)(hn:ρ.length=nv)
  {ins:List (Nat×Value)} (hins:ins=slots.map fun x=>(x.1,x.2.ev ρ id)) {V:Mem} {R:List Value->Mem->Prop} {q:Prop} (hq:q=DT P {} (fun e V'=>∃vs:List Value,e=.returned (.tuple vs.toArray)/\R vs V') t [] ρ V) (h:q) :
  qDd P N ops k m ins outs V R:=by
 intro r n a w hV hN hs
 subst hq hins ht
 have hD:=qBN _ _ _ _ h
 unfold segOT at hD
 split at hD
 case isFalse=>exact hD.elim
 rename_i hw
 obtain⟨hwf,hnd,hlen⟩:=hw
 have e1:(List.range' k m)=List.range' k ((ops.toList.drop k).take m).length:=by rw[hlen]
 rw[e1]
 refine qDE (fun h=>by obtain⟨_,_,h,_⟩:=h;cases h) (fun o ho=>qDs (by grind [Array.all_eq_true'])) _ _ (fun j hj=>?_) a w ?_
 ·simp_all
 refine qCY (L:=[]) (ρ0:=ρ) (V0:=V) (w0:=w) (O:=noO) hcalls _ _ a w (fun _ _ _ _ h=>by simp_all) ⟨id,ρ,V,⟨List.prefix_refl _,rfl⟩,?_,hD⟩ ?_
 ·exact
   {nv:=hn
    size:=hN
    slots:=fun s t hg=>by
     have hl:=qCP hg
     simp_all [qDw,id]
    frm:=Frm.refl hV
    boxes:=fun i cs ty hi=>by simp[St.box]at hi
    hid:=fun b o hb=>by cases hb
    inj:=fun i j hi _ _=>by grind }
 ·intro st' a' w' hd hg
  obtain⟨st2,t2,hg2,hfree,β,ρ2,V2,hp,hr,hD⟩:=qAW _ _ _ _ hg
  simp only[Option.map_eq_some_iff]at hg2
  obtain⟨x,hx,rfl⟩:=hg2
  simp only[D]at hD
  obtain⟨vs,h1,h2⟩:=hD
  simp only[T.ev,Ending.returned.injEq,Value.tuple.injEq]at h1
  have h1':T.evs ρ2 id x=vs:=by simp_all
  refine⟨rfl,hd,hr.size,vs,V2,fun s v hsv=>?_,h2,hr.frm⟩
  rw[<- h1',qAH]at hsv
  obtain⟨t,g1,g2,g3⟩:=qDv hsv
  obtain⟨y,g4,g5⟩:=qEg hx s g3
  have g6:=qCM hx s g3
  rw[g1,g4]at g6
  simp only[Option.some.injEq]at g6;subst g6
  rw[hr.slots s t g4,<- g2]
  grind [qIf,T.firstBox,T.ev_free]
theorem wpOpIn_monoQ{F:Fence}{n:Nat}{ops:Array Oper}{Q Q':Exit->Act->World->Prop}(hp:∀c a w,Q' (.panic c) a w->Q (.panic c) a w)(ho:LetsOut Q'->LetsOut Q){i:Nat}{a:Act}{w:World}{K K':Act->World->Prop}(h:∀a w,K a w->K' a w)
  (hh:wpOpIn F n P ops Q' i K a w):wpOpIn F n P ops Q i K' a w:=by
 unfold wpOpIn at *
 split
 ·simp_all
 ·rename_i o hoi
  simp only[hoi]at hh
  split
  ·rename_i hw
   simp only[hw,if_true]at hh
   unfold Oper.wpIn at *
   refine⟨hh.1,?_⟩
   have hh:=hh.2
   generalize (o.semAt F.round a.eval).run P w=r at *
   cases r with
   | ok x w' =>
    cases x <;> simp only[Oper.uponIn]at hh ⊢ <;>
     first
      | exact h _ _ hh
      | exact⟨hh.1,CallsIn.mono hh.2 (fun e w'' he=>by grind)⟩
      | exact⟨hh.1,RowsIn.mono hh.2 (fun _ _ he=>h _ _ he)⟩
      | grind [RoundIn.mono]
   | halt x w'=>cases x <;> simp only[Oper.uponIn]at hh ⊢ <;> first|grind|exact hh
  simp_all
theorem qJB{F:Fence}{n:Nat}{ops:Array Oper}{Q Q':Exit->Act->World->Prop}(hp:∀c a w,Q' (.panic c) a w->Q (.panic c) a w)(ho:LetsOut Q'->LetsOut Q){l2:List Nat}(hq:∀a w,Q' .normal a w->wpOpsIn F n P ops Q l2 a w):∀{l1:List Nat} {a:Act} {w:World},
  wpOpsIn F n P ops Q' l1 a w->wpOpsIn F n P ops Q (l1++l2) a w:=by
 intro l1
 induction l1 with
 | nil=>exact fun h=>hq _ _ h
 | cons i l1 ih =>
  grind [wpOpsIn_cons,wpOpIn_monoQ]
end
end Go.Sx
