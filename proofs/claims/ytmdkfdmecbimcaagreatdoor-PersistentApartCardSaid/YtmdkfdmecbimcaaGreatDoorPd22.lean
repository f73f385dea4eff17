/- Part 22: no statement of the seat is proved here. -/
import Derived.Test.YtmdkfdmecbimcaaGreatDoorPd17
set_option linter.unusedVariables false
set_option linter.unusedSimpArgs false
namespace Go.Proofs
open Go Go.Sx
set_option maxRecDepth 100000
section
variable{V:Mem}{R:RP}
theorem PC{a:Option Addr}(h:Br (a=none) (R (rV (z0)) V) (N2 a (∃b,V.rowp a 10 1=some [uL b]/\Lp [z0,uI 0] V λI n V1=>∀c d,I n [uL c,uI d] V1->∀f:LMP,Nx I n f->Br (d<(b.n:Int)) (Ix b d (∃g i,V1.rowp b.p (d.toNat*2) 2=some [uI g,uL i]/\Ag [uI (i.n:Int)] 3 V1 λj V2=>Ap 17 21 35 (uL c) (.slice (Aa j 0) 1 1) V2 λk t=>IR (d+1)/\f [uL k,uI (d+1)] t)) (R (rV (uL c)) V1)))):TT 24 #[uP a] V R:=Ae Tryz.func24 h
end
end Go.Proofs
namespace Go.Proofs
open Go Go.Sx
attribute [local irreducible] Go.Sx.Tri
section
variable{V D:Mem}{p:Nat}{d:Ds}{s:PsS}{v a b:Int}{nm:KB}{args:List Int}{l:Sl}{F:Int}
def RecsR(s:PsS)(rs:List Int):Prop:=rs.length=s.n/\(∀x∈rs,1<=x/\x<=(s.vs.length:Int))/\rs.sum<=s.n+s.wr
theorem NJ(H:BI D V p d s)(m:s.vs.length<=1000):Tri Tryz.prog 24 #[pv p] V λe V'=>∃(o:Sl)(G:List Int),e=.returned o.v/\Sx.Own V V' 3 1 o (G.flatMap Ah)/\RecsR s G:=by
 obtain⟨q,vl,gl,nl,tr,gs,ns,H⟩:=H;have I:=H.inv;have P:=H.at_;have Y:=H.small;have W:=H.n;refine PC ?_;refine⟨λh=>absurd h nn,λ_=>⟨nn,nn,nl,P.cell 10 1 (by decide),?_⟩⟩;refine Ej (mk:=λs:Sl=>.slice s.p s.n s.c) (b0:=Af) Bb ns.length (λi o V1=>Sx.Own V V1 3 1 o (((ns.map λz=>(z.recs.length:Int)).take i).flatMap Ah)) (Own.nil (Mem.sub.refl _) _ _) ?_;rintro i o V1 J L f Q;have N:=P.n.sub f.sub;refine⟨λk=>?_,λu=>?_⟩
 ·obtain⟨x,w,Z,-,y,O,t,g⟩:=N.get k;have A:=(P.r x w).n_eq;refine⟨O,t,k,x.ty,x.rsl,g,λX j=>?_⟩;refine oneG Eu (x:=(x.rsl.n:Int)) f j (by grind) rfl rfl (λ_=>rfl) λM B C=>⟨M,rfl,⟨by omega,by omega⟩,Q y _ _ ?_⟩;grind[List.take_add_one]
 ·have E:=(N.done u).2;rw[List.take_of_length_le (by simp_all)]at f;refine⟨o,_,rfl,f,by simp_all,λx Z=>?_,?_⟩
  ·obtain⟨z,t,rfl⟩:=List.mem_map.1 Z;have h1:=I.rcs.len t;have h2:=I.rcs.ne z t;have h3:=List.length_pos_iff.2 h2;have:=I.len;omega
  ·have h1:=H.recs;have:∀l:List Nn,(l.map λz=>(z.recs.length:Int)).sum=(DB l:Int):=λl=>by
    induction l with
    |nil=>rfl
    |cons z l K=>grind[DB]
   grind
end
end Go.Proofs
