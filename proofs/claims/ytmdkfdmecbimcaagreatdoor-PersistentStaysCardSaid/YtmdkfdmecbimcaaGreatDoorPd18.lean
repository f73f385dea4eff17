/- Part 18: no statement of the seat is proved here. -/
import Derived.Test.YtmdkfdmecbimcaaGreatDoorPd15
set_option linter.unusedVariables false
set_option linter.unusedSimpArgs false
namespace Go.Proofs
open Go Go.Sx
set_option maxRecDepth 100000
section
variable{V:Mem}{R:RP}
theorem Px{a:Option Addr}(h:Br (a=none) (R (rV (uA #[z0])) V) (N2 a (∃b,V.rowp a 8 1=some [uP b]/\TT 45 #[uP b] V λe V1=>∃c,e=rV (uA #[uL c])/\R (rV (uA #[uL c])) V1))):TT 23 #[uP a] V R:=Ae Tryz.func23 h
end
end Go.Proofs
namespace Go.Proofs
open Go Go.Sx
set_option maxRecDepth 100000
section
variable{V:Mem}{R:RP}
theorem R3{a:Option Addr}(h:Br (a=none) (R (rV (uA #[z0])) V) (N2 a (∃b,V.rowp a ((0:Int).toNat*1) 1=some [uL b]/\Lp [z0,uI 0] V λI n V1=>∀c d,I n [uL c,uI d] V1->∀f:LMP,Nx I n f->Br (d<(b.n:Int)) (Ix b d (∃g i j,V1.rowp b.p (d.toNat*3) 3=some [uI g,uI i,uI j]/\Ag [uI g] 3 V1 λk V2=>Ap 19 22 35 (uL c) (.slice (Aa k 0) 1 1) V2 λl t=>IR (d+1)/\f [uL l,uI (d+1)] t)) (R (rV (uA #[uL c])) V1)))):TT 45 #[uP a] V R:=FJ Tryz.func45 [] [(5,[3])] false (by kernel_rfl) (by kernel_rfl) h
end
end Go.Proofs
namespace Go.Proofs
open Go Go.Sx
attribute [local irreducible] Go.Sx.Tri
section
variable{V D:Mem}{p:Nat}{d:Ds}{s:PsS}{v a b:Int}{nm:KB}{args:List Int}{l:Sl}{F:Int}
theorem R4{q:Nat}{vl:Sl}{tr:List Tv}(h:TrAt V q vl tr)(G:tr.length<=1000):Tri Tryz.prog 45 #[pv q] V λe V'=>∃o:Sl,e=.returned (.agg #[o.v])/\Sx.Own V V' 3 1 o ((tr.map (·.1)).flatMap Ah):=by
 refine R3 ?_;refine⟨λh=>absurd h nn,λ_=>⟨nn,nn,vl,h.cell,?_⟩⟩;refine Ej (mk:=λs:Sl=>.slice s.p s.n s.c) (b0:=Af) Bb tr.length (λi o V1=>Sx.Own V V1 3 1 o (((tr.map (·.1)).take i).flatMap Ah)) (Own.nil (Mem.sub.refl _) _ _) ?_;rintro i o V1 J N f y;have z:=h.rows.sub f.sub;refine⟨λk=>?_,λt=>?_⟩
 ·obtain⟨x,j,Z,-,u,m,r,g⟩:=z.get k;refine⟨m,r,k,x.1,x.2.1,x.2.2,g,λY w=>?_⟩;refine oneG Eu (x:=x.1) f w (by grind) rfl rfl (λ_=>rfl) λH W Q=>⟨H,rfl,⟨by omega,by omega⟩,y u _ _ ?_⟩;grind[List.take_add_one]
 ·have P:=(z.done t).2;rw[List.take_of_length_le (by simp_all)]at f;exact⟨o,rfl,f⟩
theorem LJ(H:BI D V p d s)(k:s.vs.length<=1000):Tri Tryz.prog 23 #[pv p] V λe V'=>∃o:Sl,e=.returned (.agg #[o.v])/\Sx.Own V V' 3 1 o ((s.vs.map PsV.par).flatMap Ah):=by
 obtain⟨q,vl,gl,nl,tr,gs,ns,H⟩:=H;have I:=H.inv;have P:=H.at_;refine Px ?_;refine⟨λh=>absurd h nn,λ_=>⟨nn,nn,_,P.cell 8 1 (by decide),Tri.mono (R4 P.tr (by have:=I.len;omega)) ?_⟩⟩;rintro _ V1 ⟨o,rfl,g⟩;rw[I.par]at g;exact⟨o,rfl,o,rfl,g⟩
end
end Go.Proofs
