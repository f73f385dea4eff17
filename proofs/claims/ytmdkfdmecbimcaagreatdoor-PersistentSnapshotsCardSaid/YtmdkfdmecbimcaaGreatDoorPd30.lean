/- Part 30: no statement of the seat is proved here. -/
import Derived.Test.YtmdkfdmecbimcaaGreatDoorPd21
set_option linter.unusedVariables false
set_option linter.unusedSimpArgs false
open List renaming mem_of_getElem?->x8,length_filter_le->u5,length_take->u6,take_of_length_le->xc,length_map->wI
namespace Go.Proofs
open Go Go.Sx
set_option maxRecDepth 100000
section
variable{V:Mem}{R:RP}
def w3(a:KB)(b c d g i j k l:Sl)(o p:Int):MR:=λV R=>TB 8 #[] V λq V1=>Br (q=true) (TB 9 #[uD a b c d g i j k,uL l] V1 λr V2=>Br (r=true) (R KX V2) (TT 10 #[uD a b c d g i j k,uL l] V2 λe w=>∃s u y z A B C D F G H L M N O,e=rT #[uP s,uA #[uS u,uL y,uL z,uL A,uL B,uL C,uL D,uL F,uL G,uL H,uL L,uI M,uI N],uB O]/\Br (O=true) (Br (s=none) (R (rV (uB O)) w) (TB 11 #[uA #[uS u,uL y,uL z,uL A,uL B,uL C,uL D,uL F,uL G,uL H,uL L,uI M,uI N]] w λP n=>Br (P=true) (TT 12 #[uP s,uI o] n λe E=>∃Q U W,e=rT #[uA #[uL Q,uL U],uI W]/\TT 13 #[uP s,uI o,uI p] E λe K=>∃X Y,e=rT #[uI X,uI Y]/\TI 14 #[uP s] K λZ m=>Br (Z=M) (TI 15 #[uP s] m λa0 J=>Br (a0=N) (TB 16 #[uA #[uS u,uL y,uL z,uL A,uL B,uL C,uL D,uL F,uL G,uL H,uL L,uI M,uI N],uI o] J λa1 t=>Br (a1=true) (Br (W=0) (Ix H o (∃a2 a3,t.rowp H.p (o.toNat*2) 2=some [uL a2,uL a3]/\TB 17 #[uA #[uL Q,uL U],uA #[uL a2,uL a3]] t λS h=>Br (S=true) (TB 16 #[uA #[uS u,uL y,uL z,uL A,uL B,uL C,uL D,uL F,uL G,uL H,uL L,uI M,uI N],uI p] h λT f=>Br (T=true) (Br (Y=0) (TI 18 #[uA #[uS u,uL y,uL z,uL A,uL B,uL C,uL D,uL F,uL G,uL H,uL L,uI M,uI N],uI o,uI p] f λa6 x=>R (rV (uB (decide (X=a6)))) x) (R KQ f)) (Br (Y=24) (R (rV (uB (decide (X=0)))) f) (R KQ f))) (R KQ h))) (R KQ t)) (Br (W=24) (TB 17 #[uA #[uL Q,uL U],uA #[z0,z0]] t λa2 h=>Br (a2=true) (Br (Y=24) (R (rV (uB (decide (X=0)))) h) (R KQ h)) (R KQ h)) (R KQ t))) (R KQ J)) (R KQ m)) (R (rV (uB O)) n))) (R (rV (uB O)) w))) (R KQ V1)
theorem x3{a:KB}{b c d g i j k l:Sl}{o p:Int}(h:w3 a b c d g i j k l o p V R):TT 3 #[uD a b c d g i j k,uL l,uI o,uI p] V R:=Ae Tryz.func3 h
theorem Sk{a:KB}{b c d g i j k l o p:Sl}{q r s u:Int}(h:Lp [uI 0,uI 0] V λI n V1=>∀y z,I n [uI y,uI z] V1->∀t:LMP,Nx I n t->Ix p s (∃A,V1.rowp p.p (s.toNat*1) 1=some [uL A]/\Br (z<(A.n:Int)) (Lp [uI y,uI 0] V1 λI n V2=>∀B C,I n [uI B,uI C] V2->∀f:LMP,Nx I n f->Ix p u (∃D,V2.rowp p.p (u.toNat*1) 1=some [uL D]/\Br (C<(D.n:Int)) (Ix p s (∃F,V2.rowp p.p (s.toNat*1) 1=some [uL F]/\Ix F z (IY V2 F z λG=>Ix p u (∃H,V2.rowp p.p (u.toNat*1) 1=some [uL H]/\Ix H C (IY V2 H C λL=>Br (G=L) (IR (B+1)/\IR (C+1)/\f [uI (B+1),uI (C+1)] V2) (IR (C+1)/\f [uI B,uI (C+1)] V2)))))) (IR (z+1)/\t [uI B,uI (z+1)] V2))) (R (rV (uI y)) V1))):TT 18 #[uA #[uS a,uL b,uL c,uL d,uL g,uL i,uL j,uL k,uL l,uL o,uL p,uI q,uI r],uI s,uI u] V R:=Ae Tryz.func18 h
end
end Go.Proofs
namespace Go.Proofs
open Go Go.Sx
theorem count_nodup{l:List Int}(g:l.Nodup)(a:Int)(k:Nat):((l.take k).filter λz=>decide (a=z)).length=if a∈l.take k then 1 else 0:=by
 have h:(l.take k).Nodup:=g.sublist (List.take_sublist _ _);generalize l.take k=m at h;induction m with
 |nil=>simp
 |cons b m f=>
  rw[List.nodup_cons]at h;have:=f h.2;rw[List.filter_cons];by_cases e:a=b
  ·subst e;rw[if_neg h.1]at this;simp[this]
  ·simp only[e,decide_false,List.mem_cons,false_or]at this⊢;exact this
end Go.Proofs
namespace Go.Proofs
open Go Go.Sx
attribute [local irreducible] Go.Sx.Tri
section
variable{V D:Mem}{p:Nat}{d:Ds}{s:PsS}{v a b:Int}{nm:KB}{args:List Int}{l:Sl}{F:Int}
theorem PD(H:BI D V p d s):PP 15 [pv p] V (.int .i64 s.wr):=by
 obtain⟨q,vl,gl,nl,tr,gs,ns,H⟩:=H;have P:=H.at_;refine Pz ?_;exact⟨λh=>absurd h nn,λ_=>⟨nn,nn,s.wr,P.cell 11 1 (by decide),rfl,rfl⟩⟩
end
section
variable{V:Mem}{P M I:Sl}{s:PsS}{d:Ds}{v a b:Int}{F:Int}{nm:KB}{args:List Int}{l:Sl}
theorem Sm(h:DX V P M I s)(q:∀x∈s.vs,x.ids.Nodup)(o:∀x∈s.vs,x.ids.length<=4096)(ha:Bm s a)(hb:Bm s b){n wr:Int}:PP 18 [rf3V d P M I n wr,.int .i64 a,.int .i64 b] V (.int .i64 (Dm (Bo s a) (Bo s b))):=by
 refine Sk ?_;obtain⟨x,Y,U,i1,i2,i3,i4,g⟩:=h.ids ha;obtain⟨y,W,Q,j1,j2,j3,j4,f⟩:=h.ids hb;rw[(Gw U).1,(Gw Q).1];have O:=g.n_eq;have A:=f.n_eq;rw[HG]at O A;have hxc:=g.cap;have hxf:=g.fit;have hyc:=f.cap;have hyf:=f.fit;have L:=q y (x8 Q);have hxs:=o x (x8 U);have hys:=o y (x8 Q);refine Ej (mk:=λk:Int=>.int .i64 k) (b0:=0) BX x.ids.length (λi k X=>X=V/\k=(((x.ids.take i).filter λz=>decide (z∈y.ids)).length:Int)) ⟨rfl,rfl⟩ ?_;rintro i k X J hi ⟨rfl,rfl⟩ hJ;have B:=u5 (λz:Int=>decide (z∈y.ids)) (x.ids.take i);rw[u6]at B;refine⟨i1,i2,i3,Y,i4,λc=>?_,λe=>?_⟩
 ·obtain⟨z,hzm,hz,-,H,hp,C,G⟩:=g.get c;rw[HG]at H;have E:=NB (y:=[]) hz;have hf:=Nz (p:=λz:Int=>decide (z∈y.ids)) E;refine Ej (mk:=λk:Int=>.int .i64 k) (b0:=(((x.ids.take i).filter λz=>decide (z∈y.ids)).length:Int)) BX y.ids.length (λj k V4=>V4=X/\k=(((x.ids.take i).filter λz=>decide (z∈y.ids)).length:Int)+(((y.ids.take j).filter λw=>decide (z+1=w)).length:Int)) ⟨rfl,by simp⟩ ?_;rintro j k V4 J1 hj ⟨rfl,rfl⟩ N;have Z:=u5 (λw:Int=>decide (z+1=w)) (y.ids.take j);rw[u6]at Z;refine⟨j1,j2,j3,W,j4,λt=>?_,λu=>?_⟩
  ·obtain⟨w,hwm,hw,-,m,K,S,r⟩:=f.get t;rw[HG]at m;have T:=NB (y:=[]) hw;have hf2:=Nz (p:=λw:Int=>decide (z+1=w)) T;have hI:IR ((j:Int)+1):=⟨by omega,by omega⟩;refine⟨i1,i2,i3,Y,i4,hp,C,c,z,G,j1,j2,j3,W,j4,K,S,t,w,r,λhe=>⟨⟨by omega,by omega⟩,hI,N m _ _ ⟨rfl,?_⟩⟩,λhe=>⟨hI,N m _ _ ⟨rfl,?_⟩⟩⟩;·grind
   simp_all
  ·have u:¬(j:Int)<(W.n:Int):=u;have hc:=count_nodup L (z+1) j;rw[xc (by omega:y.ids.length<=j)]at hc⊢;refine⟨⟨by omega,by omega⟩,hJ H _ _ ⟨rfl,?_⟩⟩;simp_all
 ·have e:¬(i:Int)<(Y.n:Int):=e;rw[xc (by omega)];exact⟨rfl,rfl⟩
end
section
variable{V:Mem}{d:Ds}{l:Sl}{xs:List Sq}{a b:Int}
theorem PE{s:PsS}(h:¬(Bm s a/\Bm s b)):(if Bm s a/\Bm s b then(Dm (Bo s a) (Bo s b):Int)else 0)=0/\(if Bm s a/\Bm s b then(0:Int)else 24)=24:=⟨if_neg h,if_neg h⟩
theorem So[Tab V](W:∀{U:Mem} [Tab U],PP 8 [] U (.bool true))(z:Ds.Ok V d)(T:Fe V l xs):PP 3 [d.v,l.v,.int .i64 a,.int .i64 b] V (.bool true):=by
 obtain⟨R,hR⟩:∃R:Ending->Mem->Prop,R=λe V'=>e=.returned (.bool true)/\V.sub V':=⟨_,rfl⟩;refine Bn.mk ?_;rw[<-hR];refine x3 ?_;unfold w3;have k:∀{V':Mem},V.sub V'->R (.returned (.bool true)) V':=λh=>by simp_all
 refine W.call ⟨_,rfl,λ_=>?_,λh=>absurd rfl h⟩;refine Tri.mono (c9 z T) ?_;rintro _ _ ⟨rfl,b1,rfl,hb⟩;refine⟨b1,rfl,λ_=>k (Mem.sub.refl _),λQ=>?_⟩;have hx:=hb ((Bool.not_eq_true _).mp Q);refine Tri.mono (J7 z T (by omega)) ?_;rintro _ V4 ⟨s4,⟨hG,rfl⟩|⟨G,p,D,P,M,I,s,rfl,y,A,j,hl1,hl2⟩⟩;·exact⟨none,Ad [],Af,Af,Af,Af,Af,Af,Af,Af,Af,Af,0,0,true,rfl,λ_=>⟨λ_=>k s4,λh=>absurd rfl h⟩,λh=>absurd rfl h⟩
 have i:=A.sub;refine⟨_,_,_,_,_,_,_,_,_,_,_,_,_,_,_,rfl,λ_=>⟨λh=>absurd h nn,λ_=>?_⟩,λh=>absurd rfl h⟩;refine Tri.mono (c11 (j.sub i).mr) ?_;rintro _ _ ⟨rfl,b2,rfl⟩;refine⟨b2,rfl,λ_=>?_,λ_=>k (y.trans i)⟩;have K:=A.ok;refine Tri.mono (Kd A (z.sub y) (by omega)) ?_;rintro _ V5 ⟨O,t⟩;have L:=A.grow O;have rest:∀{e31:Int}{K1:Ending->Mem->Prop},∀{r:Mem},V5.sub r->(∀X B:Int,X=(if Bm s a/\Bm s b then(Dm (Bo s a) (Bo s b):Int)else 0)->B=(if Bm s a/\Bm s b then(0:Int)else 24)->True):=λ_ _ _ _ _=>trivial;have h5:=j.sub (i.trans O);have g:∀{U:Mem},V5.sub U->DX U P M I s/\BI D U p d s/\V.sub U:=λh=>⟨h5.sub h,L.grow h,y.trans (i.trans (O.trans h))⟩;rcases t with⟨q,rfl⟩|⟨u,x,gs,ns,nd,o,rfl,Ly⟩
 ·obtain⟨c,H⟩:=PE (b:=b) λh=>q h.1;refine⟨Af,Af,24,rfl,Tri.mono (Jb L (z.sub y) (by omega)) ?_⟩;rintro _ r ⟨Y,rfl⟩;rw[c,H];obtain⟨J,N,C⟩:=g Y;have zm:Mm.Ok r ⟨Af,[],Af,[]⟩:=⟨Ab.nil,(λ_ h=>by cases h),Ab.nil,(λ_ h=>by cases h)⟩;refine⟨_,_,rfl,(NA N).call ⟨_,rfl,λ_=>(PD N).call ⟨_,rfl,λ_=>(LA (ps:=s.vs.map PsV.pv) (by rw[J.pn,wI])).call ⟨_,rfl,λh=>absurd (Gx.1 (of_decide_eq_true h)) q,λ_=>⟨λ_=>(LK zm zm).call ⟨_,rfl,λ_=>⟨λ_=>?_,λh=>absurd rfl h⟩,λh=>absurd (decide_eq_true rfl) h⟩,λh=>absurd rfl h⟩⟩,λh=>absurd rfl h⟩,λh=>absurd rfl h⟩⟩;exact k C
 ·have E:=K.good x (x8 o);obtain⟨am,ap⟩:=lay_ok (z.sub (y.trans i)) E Ly;have Z:=Gx.2 u;refine⟨_,_,_,rfl,Tri.mono (Jb (a:=a) (b:=b) L (z.sub y) (by omega)) ?_⟩;rintro _ r ⟨Y,rfl⟩;obtain⟨J,N,C⟩:=g Y;obtain⟨m,m1,m2,m3,m4,m5,m6⟩:=J.mr.mem Z;have hgd:((s.vs.map PsV.pv).getD a.toNat JZ).m=(AY x.m).plain:=by
   rw[List.getD_eq_getElem?_getD,List.getElem?_map,o,Ja];rfl
  have S:(⟨gs,(AY x.m).globals,ns,nd⟩:Mm).plain=m.plain:=by simp_all
  have hI:∀{v:Int},PP 16 [rf3V d P M I s.n s.wr,.int .i64 v] r (.bool (decide (EL (s.vs.map PsV.pv) v))):=LA (by rw[J.pn,wI]);refine⟨_,_,rfl,(NA N).call ⟨_,rfl,λ_=>(PD N).call ⟨_,rfl,λ_=>hI.call ⟨_,rfl,λ_=>⟨λ_=>⟨m1,m2,m3,_,_,m4,(LK (am.sub Y) m5).call ⟨_,rfl,λ_=>hI.call ⟨_,rfl,λw=>?_,λw=>?_⟩,λh=>absurd (decide_eq_true S) h⟩⟩,λh=>absurd rfl h⟩,λh=>absurd (decide_eq_true Z) h⟩,λh=>absurd rfl h⟩,λh=>absurd rfl h⟩⟩
  ·have f:Bm s b:=Gx.1 (of_decide_eq_true w);obtain⟨c,H⟩:=G6 u f;rw[c,H];refine⟨λ_=>(Sm J K.dup K.len u f).call ⟨_,rfl,?_⟩,λh=>absurd rfl h⟩;simp_all
  ·have f:¬Bm s b:=λh=>w (decide_eq_true (Gx.2 h));obtain⟨c,H⟩:=PE (a:=a) λh=>f h.2;rw[c,H];exact⟨λ_=>k C,λh=>absurd rfl h⟩
end
end Go.Proofs
