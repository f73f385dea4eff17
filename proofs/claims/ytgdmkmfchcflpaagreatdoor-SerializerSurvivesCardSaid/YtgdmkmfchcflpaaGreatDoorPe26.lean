/- Part 26: no statement of the seat is proved here. -/
import Derived.Test.YtgdmkmfchcflpaaGreatDoorPe22
set_option linter.unusedVariables false
set_option linter.unusedSimpArgs false
open Int renaming toNat_natCast->vM
namespace Go.Proofs
open Go Go.Sx
set_option maxRecDepth 100000
section
variable{V:Mem}{R:RP}
theorem Pm{a:Int}{b:Sl}{c d:Int}(h:TT 31 #[uA #[uI a,uL b,uI c,uI d]] V λe V1=>∃g i j k l,e=rT #[uA #[uI g,uL i,uI j,uI k],uI l]/\R (rT #[uA #[uI g,uL i,uI j,uI k],uI l]) V1):TT 29 #[uA #[uI a,uL b,uI c,uI d]] V R:=Ae Tryz.func29 h
theorem Pn{a:Int}{b:Sl}{c d:Int}(h:TB 30 #[uA #[uI a,uL b,uI c,uI d]] V λg V1=>Br (g=true) (TT 57 #[uA #[uI a,uL b,uI c,uI d]] V1 λe V2=>∃i j,e=rT #[uL i,uI j]/\(0<=(0:Int)/\(0:Int)<=j/\j<=(b.c:Int))/\TT 58 #[uA #[uI a,uL b,uI c,uI d],.slice (if(b.c:Int)=(0:Int)then b.p else Aa b.p ((0:Int).toNat*1)) (j-0).toNat ((b.c:Int)-0).toNat] V2 λe f=>∃k l o p,e=rV (uA #[uI k,uL l,uI o,uI p])/\R (rT #[uA #[uI k,uL l,uI j,uI p],uI 0]) f) (R (rT #[uA #[uI 0,z0,uI 0,uI 0],uI 1]) V1)):TT 31 #[uA #[uI a,uL b,uI c,uI d]] V R:=Ae Tryz.func31 h
end
end Go.Proofs
namespace Go.Proofs
open Go Go.Sx
def CV(k:Dk):Dk:=⟨k.page,k.data.take (Ao k.page.toNat k.data).2,(Ao k.page.toNat k.data).2,k.aft⟩
end Go.Proofs
namespace Go.Proofs
open Go Go.Sx
attribute [local irreducible] Go.Sx.Tri
section
variable{V:Mem}{s u:Sl}{k:Dk}{x:List Int}
theorem M3(h:Bt V s k.data)(r:k.data.length<=2147483648):Tri Tryz.prog 31 #[k.v s] V λe V'=>V.sub V'/\if AY k=true then ∃s':Sl,e=.returned (.tuple #[(CV k).v s',.int .i64 0])/\Bt V' s' (CV k).data else e=.returned (.tuple #[Ca.v Ah,.int .i64 1]):=by
 obtain⟨R,z⟩:∃R:Ending->Mem->Prop,R=λe V'=>V.sub V'/\if AY k=true then ∃s':Sl,e=.returned (.tuple #[(CV k).v s',.int .i64 0])/\Bt V' s' (CV k).data else e=.returned (.tuple #[Ca.v Ah,.int .i64 1]):=⟨_,rfl⟩
 rw[<-z];refine Pn ?_;have p:=h.n;have c:=h.rows.cap;refine(FA h r).call ⟨_,rfl,λw=>?_,λw=>?_⟩
 ·obtain⟨a,H,J,-⟩:=BF w;obtain⟨pg,f⟩:∃pg:Nat,k.page=pg:=⟨k.page.toNat,by omega⟩;have y:=Fz pg _ k.data (Nat.le_refl _);have g:=If h (by omega) (page:=pg) (by omega) (by omega) (syn:=k.syn) (aft:=k.aft);rw[<-f]at g;refine Tri.mono g ?_;rintro _ V1 ⟨j,o,rs,rfl,-,-⟩;refine⟨o,_,rfl,⟨by omega,by omega,by omega⟩,?_⟩;have t:=(h.sub j).sl (lo:=0) (hi:=(Ao pg k.data).2) (by omega) y;refine Tri.mono (JC (k:=k) (s:=s) t (by rw[List.length_take];omega)) ?_;rintro _ V2 ⟨q,rfl,i⟩;refine⟨_,_,_,_,rfl,?_⟩;rw[z];dsimp only;rw[if_pos w];have e:(CV k).data=(k.data.drop 0).take ((Ao pg k.data).2-0):=by
   unfold CV;rw[f,vM];rfl
  refine⟨j.trans i.sub,q,?_,by rw[e];exact Own.bt i t.b⟩;unfold CV Dk.v;rw[f,vM];rfl
 ·rw[z];dsimp only;rw[if_neg w];exact⟨Mem.sub.refl V,rfl⟩
end
section
variable{V:Mem}{d:Ds}{m:Mm}{k:Dk}{s l:Sl}{ms:List Mm}{b:List Int}{n:Int}
theorem M4(h:Bt V s k.data)(w:k.data.length<=2147483648):Tri Tryz.prog 29 #[k.v s] V λe V'=>V.sub V'/\if AY k=true then ∃s':Sl,e=.returned (.tuple #[(CV k).v s',.int .i64 0])/\Bt V' s' (CV k).data else e=.returned (.tuple #[Ca.v Ah,.int .i64 1]):=by
 refine Pm ?_;refine Tri.mono (M3 h w) ?_;rintro _ V1 ⟨t,g⟩;by_cases f:AY k=true
 ·rw[if_pos f]at g;obtain⟨s',rfl,z⟩:=g;refine⟨_,s',_,_,_,rfl,t,?_⟩;rw[if_pos f];exact⟨s',rfl,z⟩
 ·rw[if_neg f]at g;subst g;refine⟨0,Ah,0,0,1,rfl,t,?_⟩;rw[if_neg f];rfl
end
end Go.Proofs
