/- Part 33: no statement of the seat is proved here. -/
import Derived.Test.YtmdkfdmecbimcaaGreatDoorPd22
import Derived.Test.YtmdkfdmecbimcaaGreatDoorPd23
set_option linter.unusedVariables false
set_option linter.unusedSimpArgs false
open List renaming mem_filter->ym,mem_of_getElem?->x8,take_add_one->vM,length_map->wI
open Option renaming toList_some->uT
namespace Go.Proofs
open Go Go.Sx
set_option maxRecDepth 100000
section
variable{V:Mem}{R:RP}
def w5(a:KB)(b c d g i j k l:Sl)(o p:Int):MR:=λV R=>TB 8 #[] V λq V1=>Br (q=true) (TB 9 #[uD a b c d g i j k,uL l] V1 λr V2=>Br (r=true) (R KX V2) (TT 10 #[uD a b c d g i j k,uL l] V2 λe t=>∃s u y z A B C D F G H L M N O,e=rT #[uP s,uA #[uS u,uL y,uL z,uL A,uL B,uL C,uL D,uL F,uL G,uL H,uL L,uI M,uI N],uB O]/\Br (O=true) (Br (s=none) (R (rV (uB O)) t) (TL 24 #[uP s] t λP x=>Br ((P.n:Int)=M) (Lp [uB false,uI 0,uI 0] x λI n f=>∀Q U W,I n [uB Q,uI U,uI W] f->∀m:LMP,Nx I n m->Br (W<(P.n:Int)) (Ix P W (IY f P W λX=>Br (X<1) (R KQ f) (Br (1073741824<X) (R KQ f) (IR (U+X)/\IR (W+1)/\m [uB Q,uI (U+X),uI (W+1)] f)))) (IR (M+N)/\Br ((M+N)<U) (R KQ f) (TB 16 #[uA #[uS u,uL y,uL z,uL A,uL B,uL C,uL D,uL F,uL G,uL H,uL L,uI M,uI N],uI o] f λX v=>Br (X=true) (TB 16 #[uA #[uS u,uL y,uL z,uL A,uL B,uL C,uL D,uL F,uL G,uL H,uL L,uI M,uI N],uI p] v λY J=>Br (Y=true) (TT 13 #[uP s,uI o,uI p] J λe T=>∃Z a0,e=rT #[uI Z,uI a0]/\TT 13 #[uP s,uI p,uI o] T λe V9=>∃a1 a2,e=rT #[uI a1,uI a2]/\TT 13 #[uP s,uI o,uI o] V9 λe w=>∃a3 E,e=rT #[uI a3,uI E]/\TT 12 #[uP s,uI o] w λe h=>∃a5 K S,e=rT #[uA #[uL a5,uL K],uI S]/\Br (a0=0) (Br (a2=0) (Br (E=0) (Br (S=0) (Br (Z=a1) (Br (0<=Z) (Br (Z<=a3) (R (rV (uB (decide (a3=(K.n:Int))))) h) (R KQ h)) (R KQ h)) (R KQ h)) (R KQ h)) (R KQ h)) (R KQ h)) (R KQ h)) (R KX J)) (R KX v)))) (R KQ x))) (R (rV (uB O)) t))) (R KQ V1)
theorem x5{a:KB}{b c d g i j k l:Sl}{o p:Int}(h:w5 a b c d g i j k l o p V R):TT 5 #[uD a b c d g i j k,uL l,uI o,uI p] V R:=Ae Tryz.func5 h
end
end Go.Proofs
namespace Go.Proofs
open Go Go.Sx
theorem shP_le{x y:PsV}:Dm x y<=x.ids.length:=List.length_filter_le _ _
theorem shP_self{x:PsV}:Dm x x=x.ids.length:=by
 unfold Dm;rw[List.filter_eq_self.2 λz h=>decide_eq_true h]
theorem shP_half{x y:PsV}(h:x.ids.Nodup):Dm x y<=Dm y x:=by
 refine Lu _ _ (h.filter _) λz k=>?_;obtain⟨h1,h2⟩:=ym.1 k;exact ym.2 ⟨of_decide_eq_true h2,decide_eq_true h1⟩
theorem shP_comm{x y:PsV}(h:x.ids.Nodup)(k:y.ids.Nodup):Dm x y=Dm y x:=Nat.le_antisymm (shP_half h) (shP_half k)
end Go.Proofs
namespace Go.Proofs
open Go Go.Sx
attribute [local irreducible] Go.Sx.Tri
section
variable{V:Mem}{d:Ds}{l:Sl}{xs:List Sq}{a b:Int}
theorem Ss[Tab V](O:∀{U:Mem} [Tab U],PP 8 [] U (.bool true))(w:Ds.Ok V d)(hl:Fe V l xs):PP 5 [d.v,l.v,.int .i64 a,.int .i64 b] V (.bool true):=by
 obtain⟨R,hR⟩:∃R:Ending->Mem->Prop,R=λe V'=>e=.returned (.bool true)/\V.sub V':=⟨_,rfl⟩;refine Bn.mk ?_;rw[<-hR];refine x5 ?_;unfold w5;have t:∀{V':Mem},V.sub V'->R (.returned (.bool true)) V':=λh=>by simp_all
 refine O.call ⟨_,rfl,λ_=>?_,λh=>absurd rfl h⟩;refine Tri.mono (c9 w hl) ?_;rintro _ _ ⟨rfl,b1,rfl,hb⟩;refine⟨b1,rfl,λ_=>t (Mem.sub.refl _),λF=>?_⟩;have hx:=hb ((Bool.not_eq_true _).mp F);refine Tri.mono (J7 w hl (by omega)) ?_;rintro _ V4 ⟨s4,⟨hG,rfl⟩|⟨G,p,D,P,M,I,s,rfl,z,A,L,hl1,hl2⟩⟩;·exact⟨none,Ad [],Af,Af,Af,Af,Af,Af,Af,Af,Af,Af,0,0,true,rfl,λ_=>⟨λ_=>t s4,λh=>absurd rfl h⟩,λh=>absurd rfl h⟩
 have e4:=A.sub;have K:=A.ok;have k1:=K.small;have k2:=K.wr0;have k3:=K.wr1;refine⟨_,_,_,_,_,_,_,_,_,_,_,_,_,_,_,rfl,λ_=>⟨λh=>absurd h nn,λ_=>?_⟩,λh=>absurd rfl h⟩;refine Tri.mono (NJ A (by omega)) ?_;rintro _ V5 ⟨o,g,rfl,W,r1,r2,r3⟩;have j:=W.rows (row:=Ah) (λ_=>rfl) (by decide);have hon:=j.n_eq;refine⟨o,rfl,λ_=>?_,λh=>absurd (show(o.n:Int)=(s.n:Int)by omega) h⟩;have r:∀i,i<=g.length->0<=(g.take i).sum/\(g.take i).sum<=1000*(i:Int):=λi=>by
  induction i with
  |zero=>intro _;simp
  |succ i ih=>
   intro hi;have X:=List.getElem?_eq_getElem (l:=g) (i:=i) (by omega);have:=r2 _ (x8 X);grind[vM,uT]
 refine⟨λn ys Q=>∃(i:Nat),n=g.length-i/\i<=g.length/\ys=[.bool false,.int .i64 (g.take i).sum,.int .i64 (i:Int)]/\Q=V5,g.length,⟨0,rfl,Nat.zero_le _,by simp,rfl⟩,?_⟩;rintro n Q v29 v30 v31 ⟨i,rfl,hi,q,rfl⟩ J hJ;simp only[List.cons.injEq,and_true]at q;obtain⟨q1,q2,q3⟩:=q;cases inj_b _ _ q1;cases BX _ _ q2;cases BX _ _ q3;have hsi:=r i hi;have B:V.sub Q:=z.trans (e4.trans W.sub);refine⟨λc=>?_,λH=>?_⟩
 ·obtain⟨x,C,u,-,E,hp,hz,N⟩:=j.get c;have hxr:=r2 x C;refine⟨hp,hz,c,x,N,λh=>absurd (show x<1 from h) (by omega),λ_=>⟨λh=>absurd (show 1073741824<x from h) (by omega),λ_=>⟨⟨by omega,by omega⟩,⟨by omega,by omega⟩,hJ _ _ _ (show g.length-(i+1)<g.length-i by omega) ⟨i+1,rfl,E,?_,rfl⟩⟩⟩⟩;rw[vM,u,uT,List.sum_append,List.sum_singleton];rfl
 have H:¬(i:Int)<(o.n:Int):=H;rw[List.take_of_length_le (by omega)];have A5:=A.grow W.sub;have h5:=L.sub (e4.trans W.sub);have hI:∀{v:Int},PP 16 [rf3V d P M I s.n s.wr,.int .i64 v] Q (.bool (decide (EL (s.vs.map PsV.pv) v))):=LA (by rw[h5.pn,wI]);refine⟨⟨by omega,by omega⟩,λh=>absurd (show(s.n:Int)+s.wr<g.sum from h) (by omega),λ_=>hI.call ⟨_,rfl,λS=>hI.call ⟨_,rfl,λT=>?_,λ_=>t B⟩,λ_=>t B⟩⟩;have k:Bm s a:=Gx.1 (of_decide_eq_true S);have f:Bm s b:=Gx.1 (of_decide_eq_true T);have Z:=x8 (LL k);have hmb:=x8 (LL f);refine Tri.mono (Jb (a:=a) (b:=b) A5 (w.sub z) (by omega)) ?_;rintro _ V7 ⟨s7,rfl⟩;rw[(G6 k f).1,(G6 k f).2];have A7:=A5.grow s7;refine⟨_,_,rfl,Tri.mono (Jb (a:=b) (b:=a) A7 (w.sub z) (by omega)) ?_⟩;rintro _ V8 ⟨s8,rfl⟩;rw[(G6 f k).1,(G6 f k).2];have A8:=A7.grow s8;refine⟨_,_,rfl,Tri.mono (Jb (a:=a) (b:=a) A8 (w.sub z) (by omega)) ?_⟩;rintro _ V9 ⟨s9,rfl⟩;rw[(G6 k k).1,(G6 k k).2];have A9:=A8.grow s9;refine⟨_,_,rfl,Tri.mono (Kd (v:=a) A9 (w.sub z) (by omega)) ?_⟩;rintro _ V10 ⟨s10,⟨hna,-⟩|⟨-,x,gs,ns,nd,u,rfl,Ly⟩⟩;·exact absurd k hna
 have hxe:Bo s a=x:=(Gw u).1;have z10:V.sub V10:=B.trans (s7.trans (s8.trans (s9.trans s10)));have hcm:=shP_comm (K.dup _ Z) (K.dup _ hmb);have hle:=shP_le (x:=Bo s a) (y:=Bo s b);have hself:=shP_self (x:=Bo s a);have hnn:=Ly.nodes.len;have hnd:=congrArg List.length Ly.eq;rw[wI]at hnd;have hst:(Bf (AY x.m)).ns.length=x.m.2.length:=by simp[Bf,AY]
 have hnl:(nd.flatMap Nd.row).length=nd.length*2:=GK (row:=Nd.row) (λ_=>rfl) _;have Y:=K.ids _ Z;rw[hxe]at Y;refine⟨_,_,_,rfl,λ_=>⟨λ_=>⟨λ_=>⟨λ_=>⟨λ_=>⟨λ_=>⟨λ_=>?_,λh=>absurd (show((Dm (Bo s a) (Bo s b):Nat):Int)<=((Dm (Bo s a) (Bo s a):Nat):Int)by omega) h⟩,λh=>absurd (show(0:Int)<=((Dm (Bo s a) (Bo s b):Nat):Int)by omega) h⟩,λh=>absurd (show((Dm (Bo s a) (Bo s b):Nat):Int)=((Dm (Bo s b) (Bo s a):Nat):Int)by omega) h⟩,λh=>absurd rfl h⟩,λh=>absurd rfl h⟩,λh=>absurd rfl h⟩,λh=>absurd rfl h⟩;have:((Dm (Bo s a) (Bo s a):Nat):Int)=(ns.n:Int):=by grind
 simp_all
end
end Go.Proofs
