/- Part 29: no statement of the seat is proved here. -/
import Derived.Test.YtejinebghgaigaaGreatDoorPc24
set_option linter.unusedVariables false
set_option linter.unusedSimpArgs false
open Go.Builtin renaming zeroCells->xB,clear_->uW
open List renaming replicate->yK,length_map->xi
open Go.Proofs.Tryz renaming prog->xG
open Go.Result renaming andThen_ok->zL
namespace Go.Proofs
open Go Go.Sx
attribute [local irreducible] Go.Sx.Tri
theorem zero_cells{z:Value}(n:Nat):(xB #[z] n).toList=yK n z:=by
 unfold xB;refine List.ext_getElem? λi=>?_;grind
theorem ownClear{V0 V:Mem}{l:Sl}{vs:List Value}{e t:TypeId}{ty:Nat}{z:Value}{x:Operand}{vals:Operand->Value}(h:Sx.Own V0 V e 1 l vs)(y:xG.underlying t=some (.slice e))(a:FV xG e=some z)(h1:z.cells=#[z])(h2:z.oneCell'=true)(j:vals x=.slice l.p l.n l.c){q:Value->Mem->Prop}
  (i:∀V' m,Sx.Own V0 V' e 1 l m->(∀c,¬A8 l c->V' c=V c)->q (.tuple #[]) V'):GenK xG (.call {callee:=.builtin .clear,args:=#[x],argTypes:=#[t]}) ty vals V q:=by
 obtain⟨p,n,c⟩:=l;intro w hw;rcases h.cases0 with⟨a1,a2,a3⟩|⟨H,g,cur,b1,b2,b3,r,b5,b6,b7⟩
 ·have a1:n=0:=a1;subst a1;refine⟨_,w,V,?_,Aw.refl hw,i V vs h λ_ _=>rfl⟩;unfold execOp;cases p<;>simp[resolve,invoke,builtin,zL,j,uW,run_underlying y]
 ·have b1:p=some ⟨g,0,none⟩:=b1;subst b1;cases n with
  |zero=>
   refine⟨_,w,V,?_,Aw.refl hw,i V vs h λ_ _=>rfl⟩;unfold execOp;simp[resolve,invoke,builtin,zL,j,uW,run_underlying y]
  |succ n=>
   have r:n+1<=c:=r;have b6:cur.size=c*1:=b6;have k:=run_storeCells_at (P:=xG) g 0 e (yK (n+1) z) 0 cur w (hw _ _ b3) (by simp_all) (λv hv=>by simp_all);obtain⟨N,J⟩:∃N,N=(cur.toList.take (0+0)++yK (n+1) z++cur.toList.drop (0+0+(yK (n+1) z).length)).toArray:=⟨_,rfl⟩;rw[<-J]at k;have o:N.size=c*1:=by simp_all
   refine⟨_,_,_,?_,Aw.row hw b3 (new:=N),i _ (N.toList.take ((n+1)*1)) ⟨h.sub.set b2 _,?_,.inr ⟨g,N,rfl,b2,Mem.set_same _ _ _,r,b5,o,rfl⟩⟩ λc b=>?_⟩
   ·unfold execOp;simp only[resolve,invoke,builtin,Sem.run_bind,Sem.run_pure,zL,List.map_toArray,List.map_cons,List.map_nil,j,uW];simp[Sem.run_bind,run_underlying y,Kf a,h1,zero_cells,k]
   ·simp_all
   ·rw[Mem.set_ne];rintro rfl;exact b ⟨H,rfl⟩
def C0(V0 V:Mem)(s:Sl):Prop:=∃vs,Sx.Own V0 V 3 1 s vs
section
variable{V0 V V':Mem}{s u:Sl}
theorem C0.after(h:C0 V0 V u)(w:C0 V0 V s)(k:C0 V0 V' s)(j:∀c,¬A8 s c->V' c=V c):C0 V0 V' u:=by
 obtain⟨ws,hu⟩:=h;obtain⟨vs,w⟩:=w;obtain⟨i,k⟩:=k;rcases hu.cases0 with⟨a1,a2,a3⟩|⟨q,g,cur,b1,b2,b3,b4,b5,b6,b7⟩;·exact⟨ws,k.sub,hu.len,.inl ⟨a1,a2,a3⟩⟩
 ·by_cases t:A8 s g
  ·rcases k.cases0 with⟨-,z,-⟩|⟨-,g',cur',c1,z,c3,c4,c5,c6,c7⟩;·exact absurd z t.1
   rcases w.cases0 with⟨-,y,-⟩|⟨-,g2,cur2,e1,y,e3,e4,e5,e6,e7⟩;·exact absurd y t.1
   have m:g'=g:=by have:=c1.symm.trans t.2;simp_all
   have r:g2=g:=by simp_all
   subst m;subst r;rw[b3]at e3;cases e3;refine⟨cur'.toList.take (u.n*1),k.sub,?_,.inr ⟨_,cur',b1,b2,c3,b4,b5,by omega,rfl⟩⟩;simp_all
  ·exact⟨ws,k.sub,hu.len,.inr ⟨g,cur,b1,b2,(j g t).trans b3,b4,b5,b6,b7⟩⟩
theorem C0.nodes{e:TypeId}{sz:Nat}{vs:List Value}(h:Sx.Own V0 V e sz u vs)(m:e≠3)(t:C0 V0 V s)(k:C0 V0 V' s)(w:∀c,¬A8 s c->V' c=V c):Sx.Own V0 V' e sz u vs:=by
 obtain⟨ws,t⟩:=t;obtain⟨z,k⟩:=k;refine Own.moveB h k.sub λg y _ j=>?_;rw[w g λi=>?_,j];obtain⟨r,h2⟩:=Own.some t i;simp_all
theorem C0.store(h:C0 V0 V s){i:Nat}(hi:i<s.n){v:Value}{q:Mem->Prop}(k:∀V',C0 V0 V' s->(∀c,¬A8 s c->V' c=V c)->q V'):An (Aa s.p (i*1)) 0 [v] V q:=by
 obtain⟨vs,h⟩:=h;have t:=h.len;rw[Nat.mul_one]at t⊢;exact Own.store h (by omega) λV' w z=>k V' ⟨_,w⟩ z
theorem C0.ne(h:C0 V0 V s){i:Nat}(hi:i<s.n):¬s.p=none:=by
 obtain⟨vs,h⟩:=h;rcases h.cases0 with⟨a1,-⟩|⟨-,g,cur,b1,-⟩;·omega
 simp_all
theorem C0.succ(h:C0 V0 V s){i:Nat}(hi:i<s.n):IR ((i:Int)+1):=by
 obtain⟨vs,h⟩:=h;rcases h.cases0 with⟨a1,-⟩|⟨-,g,cur,-,-,-,b4,b5,-⟩;·omega
 ·unfold maxLen at b5;exact⟨by omega,by omega⟩
theorem C0.sub(h:C0 V0 V s):V0.sub V:=by
 obtain⟨vs,h⟩:=h;exact h.sub
structure E7 (V0 V:Mem)(gs ns s:Sl)(nd:List Nd):Prop where
 g:C0 V0 V gs
 n:Sx.Own V0 V 55 2 ns (nd.flatMap Nd.row)
 f:∀x∈nd,C0 V0 V x.sl
 p:C0 V0 V s
theorem E7.after{gs ns t:Sl}{nd:List Nd}(h:E7 V0 V gs ns u nd)(w:C0 V0 V t)(k:C0 V0 V' t)(z:∀c,¬A8 t c->V' c=V c):E7 V0 V' gs ns u nd:=
 ⟨h.g.after w k z,C0.nodes h.n (by decide) w k z,λx y=>(h.f x y).after w k z,h.p.after w k z⟩
theorem E7.store{gs ns t:Sl}{nd:List Nd}(h:E7 V0 V gs ns u nd)(k:C0 V0 V t){i:Nat}(hi:i<t.n){v:Value}{q:Mem->Prop}(w:∀V',E7 V0 V' gs ns u nd->q V'):An (Aa t.p (i*1)) 0 [v] V q:=
 k.store hi λV' z y=>w V' (h.after k z y)
theorem E7.clear{gs ns t:Sl}{nd:List Nd}(h:E7 V0 V gs ns u nd)(y:C0 V0 V t){ty:Nat}{x:Operand}{vals:Operand->Value}(j:vals x=.slice t.p t.n t.c){q:Value->Mem->Prop}(i:∀V',E7 V0 V' gs ns u nd->q (.tuple #[]) V'):GenK xG (.call {callee:=.builtin .clear,args:=#[x],argTypes:=#[43]}) ty vals V q:=by
 obtain⟨vs,w⟩:=y;exact ownClear w Tryz.underlying43 (z:=.int .i64 0) (by kernel_rfl) rfl rfl j λV' k m r=>i V' (h.after ⟨vs,w⟩ ⟨k,m⟩ r)
end
section
variable{V:Mem}{v F:Int}
theorem nilCheck{q:Option Addr}{n c:Nat}:PP 43 [.pointer none,.int .i64 F,.slice q n c] V (.int .i64 1):=by
 show PP 43 [.pointer none,.int .i64 F,(⟨q,n,c⟩:Sl).v] V _;refine Of ?_;exact⟨λ_=>⟨rfl,rfl⟩,λh=>absurd rfl h⟩
theorem nilCall{nm:KB}{q:Option Addr}{n c:Nat}:PP 12 [.pointer none,.int .i64 v,.agg #[.string nm,.slice q n c],.int .i64 F] V (.tuple #[.int .i64 0,.agg #[.int .i64 0,.int .i64 0,.int .i64 0,.int .i64 0,.int .i64 0],.int .i64 1]):=by
 show PP 12 [.pointer none,.int .i64 v,.agg #[.string nm,(⟨q,n,c⟩:Sl).v],.int .i64 F] V _;refine Bf.mk (N8 ?_);exact λb k=>nilCheck.call ⟨_,rfl,λh=>absurd (show(1:Int)=0 from h) (by decide),λ_=>⟨rfl,Mem.sub_new k _⟩⟩
theorem nilMeld{a b:Int}{nm:KB}:PP 13 [.pointer none,.int .i64 a,.int .i64 b,.string nm,.int .i64 F] V (.tuple #[.int .i64 0,.agg #[.int .i64 0,.int .i64 0,.int .i64 0,.int .i64 0,.int .i64 0],.int .i64 1]):=by
 refine Bf.mk (N9 ?_);exact λb k=>nilCheck.call ⟨_,rfl,λh=>absurd (show(1:Int)=0 from h) (by decide),λ_=>⟨rfl,Mem.sub_new k _⟩⟩
theorem nilParents:PP 20 [.pointer none,.int .i64 v] V (.tuple #[.slice none 0 0,.int .i64 1]):=by
 refine Bf.mk (Oc ?_);exact λb k=>nilCheck.call ⟨_,rfl,λh=>absurd (show(1:Int)=0 from h) (by decide),λ_=>⟨rfl,Mem.sub_new k _⟩⟩
theorem nilSnapshot:PP 14 [.pointer none,.int .i64 v] V (.tuple #[.agg #[.slice none 0 0,.slice none 0 0],.int .i64 1]):=by
 refine Bf.mk (Og ?_);exact λb k=>nilCheck.call ⟨_,rfl,λh=>absurd (show(1:Int)=0 from h) (by decide),λ_=>⟨rfl,Mem.sub_new k _⟩⟩
theorem nilSize:PP 15 [.pointer none,.int .i64 v] V (.tuple #[.int .i64 0,.int .i64 1]):=by
 refine Bf.mk (Oa ?_);exact λb k=>nilCheck.call ⟨_,rfl,λh=>absurd (show(1:Int)=0 from h) (by decide),λ_=>⟨rfl,Mem.sub_new k _⟩⟩
theorem nilEffective:PP 16 [.pointer none,.int .i64 v] V (.tuple #[.int .i64 0,.int .i64 1]):=by
 refine Bf.mk (Ob ?_);exact λb k=>nilCheck.call ⟨_,rfl,λh=>absurd (show(1:Int)=0 from h) (by decide),λ_=>⟨rfl,Mem.sub_new k _⟩⟩
theorem nilLen:PP 21 [.pointer none] V (.int .i64 0):=by
 refine Od ?_;exact⟨λ_=>⟨rfl,rfl⟩,λh=>absurd rfl h⟩
theorem nilNodes:PP 24 [.pointer none] V (.int .i64 0):=by
 refine Oe ?_;exact⟨λ_=>⟨rfl,rfl⟩,λh=>absurd rfl h⟩
end
section
variable{V V':Mem}{d:Ds}{l s:Sl}{xs:List Sp}{gs ns:Sl}{nd:List Nd}{st:St}
theorem AM.clb{vs:List Int}(L:AM V V' gs ns Ai nd st)(o:Sx.Own V V' 3 1 s (vs.flatMap Ak)):E7 V V' gs ns s nd:=⟨⟨_,L.glob⟩,L.nodes,λx h=>⟨_,L.fld x h⟩,⟨_,o⟩⟩
theorem c7[Tab V](hd:Ds.Ok V d)(hl:GF V l xs):PP 7 [d.v,l.v] V (.bool true):=by
 obtain⟨R,hR⟩:∃R:Ending->Mem->Prop,R=λe V'=>e=.returned (.bool true)/\V.sub V':=⟨_,rfl⟩;refine Bf.mk ?_;rw[<-hR];refine x7 ?_;unfold w7;have N:∀{V'},V.sub V'->R (.returned (.bool true)) V':=λh=>by simp_all
 refine c9.call ⟨_,rfl,λ_=>?_,λh=>absurd rfl h⟩;refine nilCall.call ⟨_,_,_,_,_,_,_,rfl,nilMeld.call ⟨_,_,_,_,_,_,_,rfl,nilParents.call ⟨⟨none,0,0⟩,_,rfl,nilSnapshot.call ⟨⟨none,0,0⟩,⟨none,0,0⟩,_,rfl,nilSize.call ⟨_,_,rfl,nilEffective.call ⟨_,_,rfl,λb hb=>?_⟩⟩⟩⟩⟩⟩;have Z:=Mem.sub_new hb (.cells #[.int .i64 1,.int .i64 1,.int .i64 1,.int .i64 1,.int .i64 1,.int .i64 1] 24 (0,0));obtain⟨V0,B⟩:∃V0,V0=V.set b (.cells #[.int .i64 1,.int .i64 1,.int .i64 1,.int .i64 1,.int .i64 1,.int .i64 1] 24 (0,0)):=⟨_,rfl⟩;have hr6:Ad V0 ⟨some ⟨b,0,none⟩,6,6⟩ 1 ([1,1,1,1,1,1].map Ak):=Ad.cells (xs:=[1,1,1,1,1,1]) (row:=Ak) (by rw[B];exact Mem.set_same _ _ _) rfl (λ_=>rfl) rfl (by simp);rw[<-B]at Z⊢;haveI:Tab V0:=Tab.sub (V:=V) inferInstance Z;refine AR (mk:=.bool) (b0:=false) 6 (λi V1=>V1=V0) rfl ?_;rintro i b0 V1 J hi rfl Y;refine⟨λt=>?_,λ_=>?_⟩
 ·have t:(i:Int)<6:=t;obtain⟨x,hxm,-,-,-,hp,C,j⟩:=hr6.get (i:=i) (by omega);have hx1:x=1:=by simpa using hxm
  subst hx1;exact⟨Al hp,C,t,_,j,λ_=>⟨⟨by omega,by omega⟩,Y (by omega) _ _ rfl⟩,λh=>absurd rfl h⟩
 refine nilLen.call ⟨_,rfl,λ_=>nilNodes.call ⟨_,rfl,λ_=>?_,λh=>absurd rfl h⟩,λh=>absurd rfl h⟩;have E:=hd.sub Z;have K:=hl.sub Z;refine Tri.mono (Nz E K) ?_;rintro _ _ ⟨rfl,b,rfl,T⟩;refine⟨_,rfl,λ_=>N Z,λhb=>?_⟩;have T:=T ((Bool.not_eq_true _).mp hb);refine Tri.mono (Ny E K (by omega)) ?_;rintro _ V3 ⟨s3,⟨hG,rfl⟩|⟨G,p,D,P,M,ps,rfl,hD,A,Q,hpl,hPO⟩⟩;·exact⟨_,_,_,_,_,_,_,_,_,_,_,_,rfl,λ_=>⟨λ_=>N (Z.trans s3),λh=>absurd rfl h⟩,λh=>absurd rfl h⟩
 refine⟨_,_,_,_,_,_,_,_,_,_,_,_,rfl,λ_=>⟨λh=>absurd h nn,λ_=>?_⟩,λh=>absurd rfl h⟩;have GV:=A.gv;obtain⟨vs,k,rfl,H⟩:=A;obtain⟨W,hDW,hWV,L,S⟩:=H.bs.use;have e3:=H.bs.sub;rw[xi]at hpl;have hPn:P.n=vs.length:=by rw[Q.lens.1,xi]
 have hMn:M.n=vs.length:=by rw[Q.lens.2,xi]
 have hpos:0<vs.length:=by
  have:=List.length_pos_iff.2 GV.ne;simp_all
 obtain⟨v,hv⟩:∃v:Int,v=(P.n:Int)-1:=⟨_,rfl⟩;have c:0<=v/\v<(vs.length:Int):=by omega
 have hvi:BC (vs.map Vr.pv) v:=by grind[BC]
 have a:∀x∈vs,x.par.length<=2147483648:=λx hx=>by have:=hPO.par (List.mem_map.2 ⟨x,hx,rfl⟩);exact Nat.le_trans this (by decide)
 have r:∀{U:Mem},V3.sub U->∀x∈vs,Vr.Ok U x:=λh x hx=>((H.ok x hx).sub e3).sub h;have bound:IR ((P.n:Int)-1):=⟨by omega,by omega⟩;refine⟨bound,?_⟩;rw[<-hv];refine Tri.mono (Lw S (v:=v) (r (Mem.sub.refl _)) H.inv.good) ?_;rintro _ V4 ⟨s4,⟨w,-⟩|⟨-,x,gs,ns,nd,hx,rfl,Ly⟩⟩;·exact absurd c w
 refine⟨_,_,_,rfl,Tri.mono (Nt (S.grow s4) (v:=v) (r s4) a) ?_⟩;rintro _ V5 ⟨s5,⟨w,-⟩|⟨-,x',I,hx',rfl,o5⟩⟩;·exact absurd c w
 have C5:E7 V3 V5 gs ns I nd:=AM.clb (Ly.grow s5) (o5.narrow s4);refine⟨_,_,rfl,λ_=>⟨λ_=>?_,λh=>absurd rfl h⟩,λh=>absurd rfl h⟩;have hgm:=Ly.glob.n_eq (row:=Ak) (λ_=>rfl) (by decide);refine EW gs.n (λi V'=>E7 V3 V' gs ns I nd) C5 ?_;rintro i V6 J hi C6 Y;refine⟨λt=>?_,λ_=>?_⟩
 ·have t:(i:Int)<(gs.n:Int):=t;exact⟨C6.g.ne (i:=i) (by omega),by omega,t,C6.store C6.g (i:=i) (by omega) λV7 X=>⟨C6.g.succ (i:=i) (by omega),Y (by omega) _ X⟩⟩
 refine EW ns.n (λi V'=>E7 V3 V' gs ns I nd) C6 ?_;rintro i V7 J hi X Y;refine⟨λt=>?_,λ_=>?_⟩
 ·have t:(i:Int)<(ns.n:Int):=t;have hrr:=X.n.rows (row:=Nd.row) (λ_=>rfl) (by decide);obtain⟨y,hym,-,-,-,hp,C,j⟩:=hrr.get (i:=i) t;exact⟨hp,C,t,Al hp,y.ty,y.sl,j,X.clear (X.f y hym) rfl λV8 O=>⟨rfl,hrr.succ t,Y (by omega) _ O⟩⟩
 refine EW I.n (λi V'=>E7 V3 V' gs ns I nd) X ?_;rintro i V8 J hi O Y;refine⟨λt=>?_,λ_=>?_⟩
 ·have t:(i:Int)<(I.n:Int):=t;exact⟨O.p.ne (i:=i) (by omega),by omega,t,O.store O.p (i:=i) (by omega) λV9 C9=>⟨O.p.succ (i:=i) (by omega),Y (by omega) _ C9⟩⟩
 have s8:=O.g.sub;refine Tri.mono (Lw (S.grow s8) (v:=v) (r s8) H.inv.good) ?_;rintro _ V9 ⟨s9,⟨w,-⟩|⟨-,z,gs',ns',nd',C,rfl,Lz⟩⟩;·exact absurd c w
 have e9:=s8.trans s9;refine⟨_,_,_,rfl,Tri.mono (Nt (S.grow e9) (v:=v) (r e9) a) ?_⟩;rintro _ V10 ⟨s10,⟨w,-⟩|⟨-,z',sq,hz',rfl,o10⟩⟩;·exact absurd c w
 have e10:=e9.trans s10;have o:=(Q.sub e3).sub e10;obtain⟨m,hm1,hm2,hm3,hm4,hm5,hm6⟩:=o.mem hvi;obtain⟨q,hq1,hq2,hq3,hq4,hq5⟩:=o.parents hvi;have hgd:((vs.map Vr.pv).getD v.toNat pv0)=z.pv:=by simp_all
 have hzz:z'=z:=by simp_all
 subst hzz;rw[hgd]at hm6 hq5;have hzm:=List.mem_of_getElem? C;obtain⟨am,ap⟩:=ok_copy ((r s8 _ hzm).mem) Lz;have heq:(⟨gs',z'.m.globals,ns',nd'⟩:Mm).plain=m.plain:=ap.trans hm6.symm;have hr:=o10.rows (row:=Ak) (λ_=>rfl) (by decide);refine⟨_,_,rfl,λ_=>⟨λ_=>⟨hm1,hm2,hm3,_,_,hm4,(MZ (am.sub s10) hm5).call ⟨_,rfl,λ_=>⟨hq1,hq2,hq3,q,hq4,(JW hr hq5).call ⟨_,rfl,?_⟩⟩,λh=>absurd (decide_eq_true heq) h⟩⟩,λh=>absurd rfl h⟩,λh=>absurd rfl h⟩;rw[show decide (z'.par=z'.pv.par)=true from decide_eq_true rfl];exact N ((Z.trans s3).trans e10)
end
end Go.Proofs
