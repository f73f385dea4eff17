/- Part 29: no statement of the seat is proved here. -/
import Derived.Test.YtgdmkmfchcflpaaGreatDoorPe23
set_option linter.unusedVariables false
set_option linter.unusedSimpArgs false
open List renaming length_append->zw,getElem?_append_left->vt
namespace Go.Proofs
open Go Go.Sx
attribute [local irreducible] Go.Sx.Tri
section
variable{V V' D:Mem}{d:Ds}{o u l:Sl}{xs ys:List (List Int)}{ms:List Mm}{page tg:Int}{x y:Mm}
theorem Bn.app(h:Bn D V o xs)(m:Ls D u ys)(Q:xs.length+ys.length<=2147483648){ty:Nat}{a b:Operand}{vals:Operand->Value}(r:vals a=.slice o.p o.n o.c)(q:vals b=.slice u.p u.n u.c){K:Value->Mem->Prop}
  (hK:∀g V',D.sub V'->Ls V' g (xs++ys)->K (.slice g.p g.n g.c) V'):GenK Tryz.prog (.call {callee:=.builtin .append,args:=#[a,b],argTypes:=#[41,41]}) ty vals V K:=by
 obtain⟨ss,z,j,e⟩:=h;obtain⟨W,t,P,H⟩:=z.use;have J:=QL.own EmQ.over H;obtain⟨ts,G,N,Z⟩:=m.at_;refine app41 (s:=o) (u:=u) (xs:=ss) (ys:=ts) r q J (G.sub z.sub) (by omega) λg V' k=>hK g V' (t.trans k.sub) ⟨ss++ts,k.rows (λ_=>rfl) (by decide),by rw[zw,zw,j,N],λi v w f hw=>?_⟩;by_cases Y:i<ss.length
 ·rw[vt Y]at f;rw[vt (by omega)]at hw;exact(e i v w f hw).sub (t.trans k.sub)
 ·rw[List.getElem?_append_right (by omega)]at f hw;rw[<-j]at hw;exact(Z _ v w f hw).sub (t.trans k.sub)
theorem codes2(G:Ds.Ok V d)(hm:CT V l ms)(N:AL d)(k:Cr d ms=true)(Z:ms.length<=100){q:Value->Mem->Prop}{ty:Nat}{a b:Operand}{gvf:Sl->Sl->Operand->Value}(j:∀s t,gvf s t a=.slice s.p s.n s.c)(i:∀s t,gvf s t b=.slice t.p t.n t.c)
  (O:∀(o:Sl) V',V.sub V'->Ls V' o (ms.map (Ai d)++ms.map (Ai d))->q (.slice o.p o.n o.c) V'):
  TT 13 #[d.v,uL l] V λe Y=>∃g,e=rV (uL g)/\
   TT 13 #[d.v,uL l] Y λe W=>∃f,e=rV (uL f)/\
   GenK Tryz.prog (.call {callee:=(.builtin .append),args:=#[a,b],argTypes:=#[41,41]}) ty (gvf g f) W q:=by
 refine Tri.mono (It G hm N k Z) ?_;rintro _ Y ⟨o,D,rfl,Q,A⟩;refine⟨o,rfl,Tri.mono (A.run (R:=λe P=>∃h:Sl,e=.returned h.v/\Ls P h (ms.map (Ai d))) λU I=>?_) ?_⟩
 ·have z:=Q.trans I;refine Tri.mono (It (G.sub z) (hm.sub z) N k Z) ?_;rintro _ P ⟨h,L,rfl,m,w⟩;exact⟨m.trans w.sub,h,rfl,w.ls⟩
 rintro _ W ⟨X,r,⟨h,rfl,M⟩,H⟩;refine⟨h,rfl,Bn.app H M (by rw[List.length_map];omega) (j _ _) (i _ _) λF V' z J=>O F V' ((Q.trans r).trans z) J⟩
end
end Go.Proofs
