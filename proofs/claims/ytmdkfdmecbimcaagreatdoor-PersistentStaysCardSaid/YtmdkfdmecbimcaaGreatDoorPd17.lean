/- Part 17: no statement of the seat is proved here. -/
import Derived.Test.YtmdkfdmecbimcaaGreatDoorPd15
set_option linter.unusedVariables false
set_option linter.unusedSimpArgs false
namespace Go.Proofs
open Go Go.Sx
set_option maxRecDepth 100000
section
variable{V:Mem}{R:RP}
theorem Pw{a:Option Addr}{b:Int}(h:TT 39 #[uP a,uI b] V λe V1=>∃c d,e=rT #[uP c,uI d]/\Br (d=0) (N2 c (∃g i,V1.rowp c ((0:Int).toNat*1) 2=some [uL g,uL i]/\R (rT #[uA #[uL g,uL i],uI 0]) V1)) (R (rT #[uA #[z0,z0],uI d]) V1)):TT 12 #[uP a,uI b] V R:=Ae Tryz.func12 h
end
end Go.Proofs
namespace Go.Proofs
open Go Go.Sx
attribute [local irreducible] Go.Sx.Tri
theorem QF.ff{α:Type}{e sz:Nat}{sl:α->Sl}{vs:α->List Value}{Q:Mem->Mem->Prop}{V:Mem}(t:BV Q):∀(l:List α){W:Mem},QF e sz sl vs l Q W V->∀(i j:Nat) a b c,l[i]?=some a->l[j]?=some b->AP (sl a) c->AP (sl b) c->i=j
 |[],_,_,i,_,_,_,_,h,_,_,_=>by simp at h
 |x::l,W,⟨o,w,h1⟩,i,j,a,b,c,g,f,z,n=>by
  have key:∀(k:Nat) y,l[k]?=some y->AP (sl y) c->AP (sl x) c->False:=λk y m r q=>by
   obtain⟨cur,u⟩:=Own.some w q;rw[Own.none0 (QF.own t m h1) r]at u;cases u
  match i,j,g,f with
  |0,0,_,_=>rfl
  |0,j+1,g,f=>grind
  |i+1,0,g,f=>grind
  |i+1,j+1,g,f=>rw[QF.ff t l h1 i j a b c g f z n]
theorem view_lay{V V':Mem}{m:Mm}{ids:List Int}{vb mb:Nat}{gs nsl isl:Sl}{nd:List Nd}(h:QL 3 1 (AO vb mb gs nsl isl ids isl nsl ids nd) gs (m.globals.flatMap Ah) V V')(t:(nd.map λn=>(n.ty,n.f))=m.nodes.map λn=>(n.ty,n.f)):AJ V V' gs nsl Af nd (Bf m):=by
 have low:Gu (AO vb mb gs nsl isl ids isl nsl ids nd):=QL.low;have r:=h;obtain⟨J,y,h1⟩:=r;have x:=QL.drop low h;obtain⟨G,q,-,h2⟩:=QL.below (QL.over (QF.over Cc.over nd)) h1;obtain⟨o,b,-,h3⟩:=QL.below (QF.over Cc.over nd) h2;have own:∀n∈nd,Sx.Own o V' 3 1 n.sl (n.f.flatMap Ah):=λn g=>by
  grind[List.mem_iff_getElem?,QF.own,Cc.over]
 have k:=q.trans b;refine⟨h.own AO.over,(QL.swap x).own (QL.over (QF.over Cc.over nd)),Own.nil (x.own (QL.over (QF.over Cc.over nd))).sub _ _,λn g=>(own n g).narrow (y.sub.trans k),t,λn g c u w=>?_,λi j n a c e H u z=>QF.ff Cc.over nd h3 i j n a c e H u z⟩;obtain⟨cur,l⟩:=Own.some y w;have:=Own.none0 (own n g) u;rw[Cz k this]at l;cases l
section
variable{V D:Mem}{p:Nat}{d:Ds}{s:PsS}{v:Int}
theorem Kd(H:BI D V p d s)(u:Ds.Ok D d)(k:s.vs.length<=1000):Tri Tryz.prog 12 #[pv p,.int .i64 v] V λe V'=>V.sub V'/\
  ((¬Bm s v/\e=.returned (.tuple #[.agg #[Af.v,Af.v],.int .i64 24]))∨(Bm s v/\∃x gs ns nd,s.vs[v.toNat]?=some x/\e=.returned (.tuple #[.agg #[gs.v,ns.v],.int .i64 0])/\AJ V V' gs ns Af nd (Bf (AY x.m)))):=by
 refine Pw ?_;refine Tri.mono (Ny H u k) ?_;rintro _ V1 ⟨t,⟨g,rfl⟩|⟨g,x,vb,w,rfl,mb,gs,nsl,isl,nd,z,f⟩⟩;·exact⟨_,_,rfl,λh=>absurd h (by decide),λ_=>⟨t,.inl ⟨g,rfl⟩⟩⟩
 ·obtain⟨y,j,h1⟩:=z;refine⟨_,_,rfl,λ_=>⟨nn,nn,gs,nsl,Aj h1.at_ 0 2 (by simp),t,.inr ⟨g,x,gs,nsl,nd,w,rfl,?_⟩⟩,λh=>absurd rfl h⟩;exact view_lay ⟨y,j,h1⟩ f
end
end Go.Proofs
