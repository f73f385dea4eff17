/- Part 23: no statement of the seat is proved here. -/
import Derived.Test.YtgdmkmfchcflpaaGreatDoorPe16
import Derived.Test.YtgdmkmfchcflpaaGreatDoorPe19
import Derived.Test.YtgdmkmfchcflpaaGreatDoorPe20
set_option linter.unusedVariables false
set_option linter.unusedSimpArgs false
open List renaming length->uQ,map_append->yP,sum_append->uR
namespace Go.Proofs
open Go Go.Sx
set_option maxRecDepth 100000
section
variable{V:Mem}{R:RP}
theorem Pf{a:Sl}(h:Lp [uI 0,uI 0] V λI n V1=>∀b c,I n [uI b,uI c] V1->∀g:LMP,Nx I n g->Br (c<(a.n:Int)) (Ix a c (∃d,V1.rowp a.p (c.toNat*1) 1=some [uL d]/\IR (b+(d.n:Int))/\IR (c+1)/\g [uI (b+(d.n:Int)),uI (c+1)] V1)) (Br ((a.n:Int)<=30) (R (rV (uB (decide (b<=12000)))) V1) (R KQ V1))):TT 14 #[uL a] V R:=Ae Tryz.func14 h
end
end Go.Proofs
namespace Go.Proofs
open Go Go.Sx
section
variable{k:Dk}{codes l:List (List Int)}
theorem AX.save0(h:AX k codes):DH k []=(k,(codes.length:Int),0):=by
 have g:=h.page;unfold DH;rw[if_neg (by omega),h.opn];simp only;rw[if_neg (by simp),h.stored];simp[C5,AZ]
end
end Go.Proofs
namespace Go.Proofs
open Go Go.Sx
def roomP(codes:List (List Int)):Bool:=decide (codes.length<=30/\(codes.map uQ).sum<=12000)
end Go.Proofs
namespace Go.Proofs
open Go Go.Sx
attribute [local irreducible] Go.Sx.Tri
section
variable{V V' D:Mem}{d:Ds}{o l q:Sl}{xs:List (List Int)}{ms:List Mm}
theorem Ly(m:Ls V l xs)(G:xs.length<=100)(u:∀x∈xs,x.length<=300000):PP 14 [l.v] V (.bool (roomP xs)):=by
 refine AP.mk (Pf ?_);have c:=m.n;refine Cz (mk:=.int .i64) (b0:=0) Ax xs.length (λi v V1=>V1=V/\v=(((xs.take i).map uQ).sum:Nat)/\v<=300000*i) ⟨rfl,by simp,by decide⟩ ?_;rintro i v V1 J N ⟨rfl,r,b⟩ a;refine⟨λz=>?_,λe=>?_⟩
 ·have f:i<xs.length:=by omega
  have g:=List.getElem?_eq_getElem f;have s:=u _ (List.mem_of_getElem? g);obtain⟨w,H,t,hw⟩:=m.get g;have y:=hw.n;refine⟨H,by omega,z,w,t,⟨by omega,by omega⟩,⟨by omega,by omega⟩,a f _ _ ⟨rfl,?_,by omega⟩⟩;rw[List.take_add_one,g,yP,uR,r,y];simp
 ·have j:xs.take i=xs:=List.take_of_length_le (by omega);rw[j]at r;unfold roomP;refine⟨λh=>⟨?_,Mem.sub.refl _⟩,λh=>⟨?_,Mem.sub.refl _⟩⟩
  ·have:decide (v<=12000)=decide (xs.length<=30/\(xs.map uQ).sum<=12000):=decide_eq_decide.2 ⟨λp=>⟨by omega,by omega⟩,λp=>by omega⟩;rw[this]
  ·rw[decide_eq_false λp=>h (by omega)]
end
theorem DI.up{k:Dk}{n:Nat}(h:DI k n):DI k (n+1):=⟨h.syn,h.len,by have:=h.small;omega⟩
theorem AX.adds0{k:Dk}{codes l:List (List Int)}{n:Nat}(h:AX k codes)(f:DI k n)(w:n<40)(z:((codes++l).map uQ).sum<=12000)(y:(codes++l).length<=30)(t:k.aft=-1):
  ∃g,DH k l=(g,(codes.length:Int),0)/\AX g (codes++l)/\DI g (n+1)/\g.page=k.page/\g.aft=-1:=by
 by_cases u:l=[]
 ·subst u;exact⟨k,h.save0,by rw[List.append_nil];exact h,f.up,rfl,t⟩
 ·rcases h.adds f w u z y with⟨g,x,j,i,m,r,-⟩|⟨a,-⟩;·exact⟨g,x,j,i,m,r t⟩
  ·omega
theorem JX{codes:List (List Int)}(h:roomP codes=true):codes.length<=30/\(codes.map uQ).sum<=12000:=of_decide_eq_true h
theorem GO(codes:List (List Int))(i:Nat):((codes.take i).map uQ).sum<=(codes.map uQ).sum:=by
 conv=>rhs;rw[<-List.take_append_drop i codes]
 rw[yP,uR];omega
end Go.Proofs
