/- Part 22: no statement of the seat is proved here. -/
import Derived.Test.YtgdmkmfchcflpaaGreatDoorPe20
set_option linter.unusedVariables false
set_option linter.unusedSimpArgs false
namespace Go.Proofs
open Go Go.Sx
set_option maxRecDepth 100000
section
variable{V:Mem}{R:RP}
theorem Pe{a:Int}{b:Sl}{c d:Int}(h:TT 55 #[uA #[uI a,uL b,uI c,uI d]] V λe V1=>∃g i j,e=rT #[uA #[uL g,uL i],uI j]/\Br (j=0) (R (rT #[uI (i.n:Int),uI 0]) V1) (R (rT #[uI 0,uI j]) V1)):TT 25 #[uA #[uI a,uL b,uI c,uI d]] V R:=Ae Tryz.func25 h
end
end Go.Proofs
namespace Go.Proofs
open Go Go.Sx
attribute [local irreducible] Go.Sx.Tri
section
variable{V:Mem}{k:Dk}{s:Sl}{d:Ds}{i:Int}
theorem MZ(t:Bt V s k.data)(u:k.data.length<=2147483648):PP 25 [k.v s] V (.tuple #[.int .i64 (if(Au k).2=0 then((Au k).1.all.length:Int)else 0),.int .i64 (Au k).2]):=by
 refine AP.mk (Pe ?_);refine Tri.mono (JK t u) ?_;rintro _ V1 ⟨f,a,b,rfl,w⟩;refine⟨a,b,_,rfl,λh=>?_,λh=>?_⟩
 ·obtain⟨D,vs,x,g⟩:=w h;have g:=g.dr;have z:=g.rows.n_eq;have y:vs.length=(Au k).1.all.length:=by rw[<-g.all,List.length_map]
  rw[if_pos h,h];refine⟨?_,f⟩;rw[z,y]
 ·rw[if_neg h];exact⟨rfl,f⟩
end
end Go.Proofs
