/- Part 24: no statement of the seat is proved here. -/
import Derived.Test.YtmdkfdmecbimcaaGreatDoorPd18
import Derived.Test.YtmdkfdmecbimcaaGreatDoorPd21
import Derived.Test.YtmdkfdmecbimcaaGreatDoorPd22
set_option linter.unusedVariables false
set_option linter.unusedSimpArgs false
open Go.Proofs.Tryz renaming prog->xS,underlying35->vL
open Go.Builtin renaming zeroCells->xN,clear_->uc
open List renaming replicate->yT
open Go.Result renaming andThen_ok->zO
namespace Go.Proofs
open Go Go.Sx
set_option maxRecDepth 100000
section
variable{V:Mem}{R:RP}
def w7(a:KB)(b c d g i j k l:Sl):MR:=λV R=>TB 8 #[] V λo V1=>Br (o=true) (TT 26 #[uP none,uI 0,uA #[uS (Ad []),z0],uI 0] V1 λe V2=>∃p q r s u y z,e=rT #[uI p,uA #[uI q,uI r,uI s,uI u,uI y],uI z]/\TT 20 #[uP none,uI 0,uA #[uS (Ad []),z0],uI 0] V2 λe V3=>∃A B C D F G,e=rT #[uA #[uI A,uI B,uI C,uI D,uI F],uI G]/\TT 12 #[uP none,uI 0] V3 λe V4=>∃H L M,e=rT #[uA #[uL H,uL L],uI M]/\TT 13 #[uP none,uI 0,uI 0] V4 λe T=>∃N O,e=rT #[uI N,uI O]/\Br (z=1) (Br (G=1) (Br (M=1) (Br (O=1) (TT 23 #[uP none] T λe V6=>∃P,e=rV (uA #[uL P])/\Br ((P.n:Int)=0) (TI 14 #[uP none] V6 λQ V7=>Br (Q=0) (TL 24 #[uP none] V7 λU V8=>Br ((U.n:Int)=0) (TI 15 #[uP none] V8 λW V9=>Br (W=0) (TB 9 #[uD a b c d g i j k,uL l] V9 λX V10=>Br (X=true) (R KX V10) (TT 10 #[uD a b c d g i j k,uL l] V10 λe w=>∃Y Z a0 a1 a2 a3 a4 a5 a6 t a8 a9 b0 b1 b2,e=rT #[uP Y,uA #[uS Z,uL a0,uL a1,uL a2,uL a3,uL a4,uL a5,uL a6,uL t,uL a8,uL a9,uI b0,uI b1],uB b2]/\Br (b2=true) (Br (Y=none) (R (rV (uB b2)) w) (TB 11 #[uA #[uS Z,uL a0,uL a1,uL a2,uL a3,uL a4,uL a5,uL a6,uL t,uL a8,uL a9,uI b0,uI b1]] w λb3 V12=>Br (b3=true) (IR ((t.n:Int)-1)/\TT 12 #[uP Y,uI ((t.n:Int)-1)] V12 λe V13=>∃b4 b5 b6,e=rT #[uA #[uL b4,uL b5],uI b6]/\Br (b6=0) (Lp [uI 0] V13 λI n m=>∀b7,I n [uI b7] m->∀J0:LMP,Nx I n J0->Br (b7<(b4.n:Int)) (Ix b4 b7 (Ak (Aa b4.p (b7.toNat*1)) 0 [uI (-3)] m λh=>IR (b7+1)/\J0 [uI (b7+1)] h)) (Lp [uI 0] m λI n h=>∀b8,I n [uI b8] h->∀J1:LMP,Nx I n J1->Br (b8<(b5.n:Int)) (Ix b5 b8 (¬(Aa b5.p (b8.toNat*2))=none/\∃b9 c0,h.rowp b5.p (b8.toNat*2) 2=some [uI b9,uL c0]/\GenK xS (.call {callee:=(.builtin .clear),args:=#[(.tmp 143)],argTypes:=#[35]}) 0 (gv [(143,uL c0)]) h λx J=>x=.tuple #[]/\IR (b8+1)/\J1 [uI (b8+1)] J)) (TT 23 #[uP Y] h λe J=>∃b9,e=rV (uA #[uL b9])/\Lp [uI 0] J λI n E=>∀c0,I n [uI c0] E->∀J2:LMP,Nx I n J2->Br (c0<(b9.n:Int)) (Ix b9 c0 (Ak (Aa b9.p (c0.toNat*1)) 0 [uI (-7)] E λK=>IR (c0+1)/\J2 [uI (c0+1)] K)) (TL 24 #[uP Y] E λc1 K=>GenK xS (.call {callee:=(.builtin .clear),args:=#[(.tmp 159)],argTypes:=#[35]}) 0 (gv [(159,uL c1)]) K λx V19=>x=.tuple #[]/\TT 12 #[uP Y,uI ((t.n:Int)-1)] V19 λe S=>∃c2 c3 c4,e=rT #[uA #[uL c2,uL c3],uI c4]/\Br (c4=0) (Ix a8 ((t.n:Int)-1) (∃c5 c6,S.rowp a8.p (((t.n:Int)-1).toNat*2) 2=some [uL c5,uL c6]/\TB 17 #[uA #[uL c2,uL c3],uA #[uL c5,uL c6]] S λc7 V21=>Br (c7=true) (TT 23 #[uP Y] V21 λe V22=>∃c8,e=rV (uA #[uL c8])/\TB 22 #[uL c8,uL t] V22 λc9 V23=>Br (c9=true) (TL 24 #[uP Y] V23 λd0 V24=>TB 28 #[uL d0,uI 0] V24 λd1 V25=>R (rV (uB (!d1))) V25) (R KQ V23)) (R KQ V21))) (R KQ S))))) (R KQ V13)) (R (rV (uB b2)) V12))) (R (rV (uB b2)) w))) (R KQ V9)) (R KQ V8)) (R KQ V7)) (R KQ V6)) (R KQ T)) (R KQ T)) (R KQ T)) (R KQ T)) (R KQ V1)
theorem x7{a:KB}{b c d g i j k l:Sl}(h:w7 a b c d g i j k l V R):TT 7 #[uD a b c d g i j k,uL l] V R:=Ae Tryz.func7 h
theorem Sb{a:Sl}{b:Int}(h:TI 49 #[uL a,uI b] V λc V1=>R (rV (uB (decide (0<=c)))) V1):TT 28 #[uL a,uI b] V R:=Ae Tryz.func28 h
end
end Go.Proofs
namespace Go.Proofs
open Go Go.Sx
attribute [local irreducible] Go.Sx.Tri
theorem Sd{V:Mem}{s:Sl}{l:List Int}(h:Ab V s 1 (l.map Ah)){x:Int}:PP 28 [s.v,.int .i64 x] V (.bool (decide (x∈l))):=by
 refine Sb ?_;refine(O9 h).call ⟨_,rfl,?_⟩;have e:decide (0<=BH (λy=>decide (x=y)) l)=decide (x∈l):=by
  rcases Cu (λy=>decide (x=y)) l with⟨h1,-,h2⟩|⟨i,y,h1,h2,-,h3,h4,-⟩;·grind
  grind
 simp_all
theorem zero_cells{z:Value}(n:Nat):(xN #[z] n).toList=yT n z:=by
 unfold xN;refine List.ext_getElem? λi=>?_;grind
theorem ownClear{V0 V:Mem}{l:Sl}{vs:List Value}{e t:TypeId}{ty:Nat}{z:Value}{x:Operand}{vals:Operand->Value}(h:Sx.Own V0 V e 1 l vs)(y:xS.underlying t=some (.slice e))(J:E2 xS e=some z)(h1:z.cells=#[z])(h2:z.oneCell'=true)(j:vals x=.slice l.p l.n l.c){q:Value->Mem->Prop}
  (i:∀V' m,Sx.Own V0 V' e 1 l m->(∀c,¬AP l c->V' c=V c)->q (.tuple #[]) V'):GenK xS (.call {callee:=.builtin .clear,args:=#[x],argTypes:=#[t]}) ty vals V q:=by
 obtain⟨p,n,c⟩:=l;intro w hw;rcases h.cases0 with⟨a1,a2,a3⟩|⟨G,g,cur,b1,b2,b3,r,b5,b6,b7⟩
 ·have a1:n=0:=a1;subst a1;refine⟨_,w,V,?_,As.refl hw,i V vs h λ_ _=>rfl⟩;unfold execOp;cases p<;>simp[resolve,invoke,builtin,zO,j,uc,run_underlying y]
 ·have b1:p=some ⟨g,0,none⟩:=b1;subst b1;cases n with
  |zero=>
   refine⟨_,w,V,?_,As.refl hw,i V vs h λ_ _=>rfl⟩;unfold execOp;simp[resolve,invoke,builtin,zO,j,uc,run_underlying y]
  |succ n=>
   have r:n+1<=c:=r;have b6:cur.size=c*1:=b6;have k:=run_storeCells_at (P:=xS) g 0 e (yT (n+1) z) 0 cur w (hw _ _ b3) (by simp_all) (λv hv=>by simp_all);obtain⟨N,Z⟩:∃N,N=(cur.toList.take (0+0)++yT (n+1) z++cur.toList.drop (0+0+(yT (n+1) z).length)).toArray:=⟨_,rfl⟩;rw[<-Z]at k;have o:N.size=c*1:=by simp_all
   refine⟨_,_,_,?_,As.row hw b3 (new:=N),i _ (N.toList.take ((n+1)*1)) ⟨h.sub.set b2 _,?_,.inr ⟨g,N,rfl,b2,Mem.set_same _ _ _,r,b5,o,rfl⟩⟩ λc H=>?_⟩
   ·unfold execOp;simp only[resolve,invoke,builtin,Sem.run_bind,Sem.run_pure,zO,List.map_toArray,List.map_cons,List.map_nil,j,uc];simp[Sem.run_bind,run_underlying y,Jo J,h1,zero_cells,k]
   ·simp_all
   ·rw[Mem.set_ne];rintro rfl;exact H ⟨G,rfl⟩
def CT(V0 V:Mem)(s:Sl):Prop:=∃vs,Sx.Own V0 V 3 1 s vs
section
variable{V0 V V':Mem}{s u:Sl}
theorem CT.after(h:CT V0 V u)(w:CT V0 V s)(k:CT V0 V' s)(j:∀c,¬AP s c->V' c=V c):CT V0 V' u:=by
 obtain⟨ws,hu⟩:=h;obtain⟨vs,w⟩:=w;obtain⟨i,k⟩:=k;rcases hu.cases0 with⟨a1,a2,a3⟩|⟨o,g,cur,b1,b2,b3,b4,b5,b6,b7⟩;·exact⟨ws,k.sub,hu.len,.inl ⟨a1,a2,a3⟩⟩
 ·by_cases t:AP s g
  ·rcases k.cases0 with⟨-,z,-⟩|⟨-,g',cur',c1,z,c3,c4,c5,c6,c7⟩;·exact absurd z t.1
   rcases w.cases0 with⟨-,y,-⟩|⟨-,g2,cur2,e1,y,e3,e4,e5,e6,e7⟩;·exact absurd y t.1
   have m:g'=g:=by have:=c1.symm.trans t.2;simp_all
   have r:g2=g:=by simp_all
   subst m;subst r;rw[b3]at e3;cases e3;refine⟨cur'.toList.take (u.n*1),k.sub,?_,.inr ⟨_,cur',b1,b2,c3,b4,b5,by omega,rfl⟩⟩;simp_all
  ·exact⟨ws,k.sub,hu.len,.inr ⟨g,cur,b1,b2,(j g t).trans b3,b4,b5,b6,b7⟩⟩
theorem CT.nodes{e:TypeId}{sz:Nat}{vs:List Value}(h:Sx.Own V0 V e sz u vs)(z:e≠3)(t:CT V0 V s)(k:CT V0 V' s)(y:∀c,¬AP s c->V' c=V c):Sx.Own V0 V' e sz u vs:=by
 obtain⟨ws,t⟩:=t;obtain⟨w,k⟩:=k;refine Own.moveB h k.sub λg cur _ j=>?_;grind[Own.some]
theorem CT.store(h:CT V0 V s){i:Nat}(hi:i<s.n){v:Value}{q:Mem->Prop}(k:∀V',CT V0 V' s->(∀c,¬AP s c->V' c=V c)->q V'):Ak (Aa s.p (i*1)) 0 [v] V q:=by
 obtain⟨vs,h⟩:=h;have t:=h.len;rw[Nat.mul_one]at t⊢;exact Own.store h (by omega) λV' w z=>k V' ⟨_,w⟩ z
theorem CT.ne(h:CT V0 V s){i:Nat}(hi:i<s.n):¬s.p=none:=by
 obtain⟨vs,h⟩:=h;rcases h.cases0 with⟨a1,-⟩|⟨-,g,cur,b1,-⟩;·omega
 simp_all
theorem CT.succ(h:CT V0 V s){i:Nat}(hi:i<s.n):IR ((i:Int)+1):=by
 obtain⟨vs,h⟩:=h;rcases h.cases0 with⟨a1,-⟩|⟨-,g,cur,-,-,-,b4,b5,-⟩;·omega
 ·unfold maxLen at b5;exact⟨by omega,by omega⟩
theorem CT.sub(h:CT V0 V s):V0.sub V:=by
 obtain⟨vs,h⟩:=h;exact h.sub
structure FC (V0 V:Mem)(gs ns s:Sl)(nd:List Nd):Prop where
 g:CT V0 V gs
 n:Sx.Own V0 V 85 2 ns (nd.flatMap Nd.row)
 f:∀x∈nd,CT V0 V x.sl
 p:CT V0 V s
theorem FC.after{gs ns t:Sl}{nd:List Nd}(h:FC V0 V gs ns u nd)(w:CT V0 V t)(k:CT V0 V' t)(z:∀c,¬AP t c->V' c=V c):FC V0 V' gs ns u nd:=
 ⟨h.g.after w k z,CT.nodes h.n (by decide) w k z,λx y=>(h.f x y).after w k z,h.p.after w k z⟩
theorem FC.store{gs ns t:Sl}{nd:List Nd}(h:FC V0 V gs ns u nd)(k:CT V0 V t){i:Nat}(hi:i<t.n){v:Value}{q:Mem->Prop}(w:∀V',FC V0 V' gs ns u nd->q V'):Ak (Aa t.p (i*1)) 0 [v] V q:=
 k.store hi λV' z y=>w V' (h.after k z y)
theorem FC.clear{gs ns t:Sl}{nd:List Nd}(h:FC V0 V gs ns u nd)(y:CT V0 V t){ty:Nat}{x:Operand}{vals:Operand->Value}(j:vals x=.slice t.p t.n t.c){q:Value->Mem->Prop}(i:∀V',FC V0 V' gs ns u nd->q (.tuple #[]) V'):GenK xS (.call {callee:=.builtin .clear,args:=#[x],argTypes:=#[35]}) ty vals V q:=by
 obtain⟨vs,w⟩:=y;exact ownClear w vL (z:=.int .i64 0) (by kernel_rfl) rfl rfl j λV' k m r=>i V' (h.after ⟨vs,w⟩ ⟨k,m⟩ r)
end
section
variable{V:Mem}{v a b F:Int}{nm:KB}{q:Option Addr}{n c:Nat}
theorem pnLook:PP 39 [.pointer none,.int .i64 v] V (.tuple #[.pointer none,.int .i64 1]):=by
 refine Oj ?_;exact⟨λ_=>⟨rfl,rfl⟩,λh=>absurd rfl h⟩
theorem pnStart:PP 41 [.pointer none,.int .i64 v,.agg #[.string nm,(⟨q,n,c⟩:Sl).v],.int .i64 F] V (.tuple #[.agg #[.pointer none,.int .i64 0,.int .i64 0,.int .i64 0,.int .i64 0,.int .i64 0,Af.v,Af.v,Af.v],.int .i64 1]):=by
 refine Ol ?_;exact⟨λ_=>⟨rfl,rfl⟩,λh=>absurd rfl h⟩
theorem pnCall:PP 26 [.pointer none,.int .i64 v,.agg #[.string nm,.slice q n c],.int .i64 F] V (.tuple #[.int .i64 0,.agg #[.int .i64 0,.int .i64 0,.int .i64 0,.int .i64 0,.int .i64 0],.int .i64 1]):=by
 show PP 26 [.pointer none,.int .i64 v,.agg #[.string nm,(⟨q,n,c⟩:Sl).v],.int .i64 F] V _;refine Oi ?_;exact pnStart.call ⟨_,_,_,_,_,_,Af,Af,Af,_,rfl,λh=>absurd (show(1:Int)=0 from h) (by decide),λ_=>⟨rfl,rfl⟩⟩
theorem pnPeek:PP 20 [.pointer none,.int .i64 v,.agg #[.string nm,.slice q n c],.int .i64 F] V (.tuple #[.agg #[.int .i64 0,.int .i64 0,.int .i64 0,.int .i64 0,.int .i64 0],.int .i64 1]):=by
 show PP 20 [.pointer none,.int .i64 v,.agg #[.string nm,(⟨q,n,c⟩:Sl).v],.int .i64 F] V _;refine Mh ?_;exact pnStart.call ⟨_,_,_,_,_,_,Af,Af,Af,_,rfl,rfl,rfl⟩
theorem pnSnapshot:PP 12 [.pointer none,.int .i64 v] V (.tuple #[.agg #[.slice none 0 0,.slice none 0 0],.int .i64 1]):=by
 refine Pw ?_;exact pnLook.call ⟨_,_,rfl,λh=>absurd (show(1:Int)=0 from h) (by decide),λ_=>⟨rfl,rfl⟩⟩
theorem pnShared:PP 13 [.pointer none,.int .i64 a,.int .i64 b] V (.tuple #[.int .i64 0,.int .i64 1]):=by
 refine Og ?_;exact pnLook.call ⟨_,_,rfl,λh=>absurd (show(1:Int)=0 from h) (by decide),λ_=>⟨rfl,rfl⟩⟩
theorem pnVersions:PP 23 [.pointer none] V (.agg #[.slice none 0 0]):=by
 refine Px ?_;exact⟨λ_=>⟨rfl,rfl⟩,λh=>absurd rfl h⟩
theorem pnNodes:PP 14 [.pointer none] V (.int .i64 0):=by
 refine Oh ?_;exact⟨λ_=>⟨rfl,rfl⟩,λh=>absurd rfl h⟩
theorem pnRecords:PP 24 [.pointer none] V (.slice none 0 0):=by
 refine PC ?_;exact⟨λ_=>⟨rfl,rfl⟩,λh=>absurd rfl h⟩
theorem pnWrites:PP 15 [.pointer none] V (.int .i64 0):=by
 refine Pz ?_;exact⟨λ_=>⟨rfl,rfl⟩,λh=>absurd rfl h⟩
end
section
variable{V:Mem}{d:Ds}{l:Sl}{xs:List Sq}
theorem Se[Tab V](hAw:∀{U:Mem} [Tab U],PP 8 [] U (.bool true))(Q:Ds.Ok V d)(hl:Fe V l xs):PP 7 [d.v,l.v] V (.bool true):=by
 obtain⟨R,hR⟩:∃R:Ending->Mem->Prop,R=λe V'=>e=.returned (.bool true)/\V.sub V':=⟨_,rfl⟩;refine Bn.mk ?_;rw[<-hR];refine x7 ?_;unfold w7;have t:∀{V':Mem},V.sub V'->R (.returned (.bool true)) V':=λh=>by simp_all
 refine hAw.call ⟨_,rfl,λ_=>?_,λh=>absurd rfl h⟩;refine pnCall.call ⟨_,_,_,_,_,_,_,rfl,pnPeek.call ⟨_,_,_,_,_,_,rfl,pnSnapshot.call ⟨Af,Af,_,rfl,pnShared.call ⟨_,_,rfl,λ_=>⟨λ_=>⟨λ_=>⟨λ_=>?_,λh=>absurd rfl h⟩,λh=>absurd rfl h⟩,λh=>absurd rfl h⟩,λh=>absurd rfl h⟩⟩⟩⟩;refine pnVersions.call ⟨Af,rfl,λ_=>pnNodes.call ⟨_,rfl,λ_=>pnRecords.call ⟨Af,rfl,λ_=>pnWrites.call ⟨_,rfl,λ_=>?_,λh=>absurd rfl h⟩,λh=>absurd rfl h⟩,λh=>absurd rfl h⟩,λh=>absurd rfl h⟩;refine Tri.mono (c9 Q hl) ?_;rintro _ _ ⟨rfl,b1,rfl,hb⟩;refine⟨b1,rfl,λ_=>t (Mem.sub.refl _),λhbf=>?_⟩;have hx:=hb ((Bool.not_eq_true _).mp hbf);refine Tri.mono (J7 Q hl (by omega)) ?_;rintro _ V4 ⟨s4,⟨hG,rfl⟩|⟨G,p,D,P,M,I,s,rfl,O,A,r,hl1,hl2⟩⟩;·exact⟨none,Ad [],Af,Af,Af,Af,Af,Af,Af,Af,Af,Af,0,0,true,rfl,λ_=>⟨λ_=>t s4,λh=>absurd rfl h⟩,λh=>absurd rfl h⟩
 have L:=A.sub;have K:=A.ok;refine⟨_,_,_,_,_,_,_,_,_,_,_,_,_,_,_,rfl,λ_=>⟨λh=>absurd h nn,λ_=>?_⟩,λh=>absurd rfl h⟩;refine Tri.mono (c11 (r.sub L).mr) ?_;rintro _ _ ⟨rfl,b2,rfl⟩;refine⟨b2,rfl,λ_=>?_,λ_=>t (O.trans L)⟩;have hPn:=r.pn;obtain⟨v,hv⟩:∃v:Int,v=(P.n:Int)-1:=⟨_,rfl⟩;have H:Bm s v:=⟨by omega,by omega⟩;refine⟨⟨by omega,by omega⟩,?_⟩;rw[<-hv];refine Tri.mono (Kd (v:=v) A (Q.sub O) (by omega)) ?_;rintro _ V5 ⟨s5,⟨N,-⟩|⟨-,x,gs,ns,nd,hxx,rfl,Ly⟩⟩;·exact absurd H N
 have C5:FC V4 V5 gs ns Af nd:=⟨⟨_,Ly.glob⟩,Ly.nodes,λx hx=>⟨_,Ly.fld x hx⟩,⟨[],Own.nil s5 _ _⟩⟩;refine⟨_,_,_,rfl,λ_=>?_,λh=>absurd rfl h⟩;refine E4 gs.n (λi V'=>FC V4 V' gs ns Af nd) C5 ?_;rintro i V6 J hi X B;refine⟨λk=>?_,λ_=>?_⟩
 ·have k:(i:Int)<(gs.n:Int):=k;exact⟨X.g.ne (i:=i) (by omega),by omega,k,X.store X.g (i:=i) (by omega) λV7 W=>⟨X.g.succ (i:=i) (by omega),B (by omega) _ W⟩⟩
 refine E4 ns.n (λi V'=>FC V4 V' gs ns Af nd) X ?_;rintro i V7 J hi W B;refine⟨λk=>?_,λ_=>?_⟩
 ·have k:(i:Int)<(ns.n:Int):=k;have C:=W.n.rows (row:=Nd.row) (λ_=>rfl) (by decide);obtain⟨y,hym,-,-,-,hp,hz,E⟩:=C.get (i:=i) k;exact⟨hp,hz,k,Al hp,y.ty,y.sl,E,W.clear (W.f y hym) rfl λV8 C8=>⟨rfl,C.succ k,B (by omega) _ C8⟩⟩
 have s7:=W.g.sub;refine Tri.mono (LJ (A.grow s7) (by omega)) ?_;rintro _ V8 ⟨o,rfl,ho⟩;refine⟨o,rfl,?_⟩;refine E4 o.n (λi V'=>CT V7 V' o) ⟨_,ho⟩ ?_;rintro i V9 J hi C9 B;refine⟨λk=>?_,λ_=>?_⟩
 ·have k:(i:Int)<(o.n:Int):=k;exact⟨C9.ne (i:=i) (by omega),by omega,k,C9.store (i:=i) (by omega) λV10 C10 _=>⟨C9.succ (i:=i) (by omega),B (by omega) _ C10⟩⟩
 have s9:=s7.trans C9.sub;refine Tri.mono (NJ (A.grow s9) (by omega)) ?_;rintro _ V10 ⟨u,rs,rfl,hu,-,-,-⟩;refine⟨u,rfl,ownClear hu vL (z:=.int .i64 0) (by kernel_rfl) rfl rfl rfl λV11 vs' h11 _=>⟨rfl,?_⟩⟩;have Z:=s9.trans h11.sub;refine Tri.mono (Kd (v:=v) (A.grow Z) (Q.sub O) (by omega)) ?_;rintro _ V12 ⟨s12,⟨N,-⟩|⟨-,y,gs',ns',nd',S,rfl,Lz⟩⟩;·exact absurd H N
 have Y:=Z.trans s12;have z12:V.sub V12:=O.trans (L.trans Y);have T:=r.sub (L.trans Y);have A12:=A.grow Y;obtain⟨am,ap⟩:=lay_ok (Q.sub (O.trans (L.trans Z))) (K.good y (List.mem_of_getElem? S)) Lz;obtain⟨m,m1,m2,m3,m4,m5,m6⟩:=T.mr.mem (Gx.2 H);have hgd:((s.vs.map PsV.pv).getD v.toNat JZ).m=(AY y.m).plain:=by
  rw[List.getD_eq_getElem?_getD,List.getElem?_map,S,Ja];rfl
 have heq:(⟨gs',(AY y.m).globals,ns',nd'⟩:Mm).plain=m.plain:=by simp_all
 refine⟨_,_,_,rfl,λ_=>⟨m1,m2,m3,_,_,m4,(LK am m5).call ⟨_,rfl,λ_=>?_,λh=>absurd (decide_eq_true heq) h⟩⟩,λh=>absurd rfl h⟩;refine Tri.mono (LJ A12 (by omega)) ?_;rintro _ V13 ⟨o',rfl,j⟩;refine⟨o',rfl,(c22 (j.rows (row:=Ah) (λ_=>rfl) (by decide)) (T.pr.sub j.sub)).call ⟨_,rfl,λ_=>?_,λh=>absurd (decide_eq_true rfl) h⟩⟩;refine Tri.mono (NJ (A12.grow j.sub) (by omega)) ?_;rintro _ V14 ⟨w,rs',rfl,hw,-,r2,-⟩;refine⟨w,rfl,(Sd (hw.rows (row:=Ah) (λ_=>rfl) (by decide))).call ⟨_,rfl,?_⟩⟩;have h0:(0:Int)∉rs':=λh=>by grind
 rw[show decide ((0:Int)∈rs')=false from decide_eq_false h0];exact t (z12.trans (j.sub.trans hw.sub))
end
end Go.Proofs
