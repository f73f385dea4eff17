/- Part 19: no statement of the seat is proved here. -/
import Derived.Test.YtmdkfdmecbimcaaGreatDoorPd16
import Derived.Test.YtmdkfdmecbimcaaGreatDoorPd17
set_option linter.unusedVariables false
set_option linter.unusedSimpArgs false
open Prod.mk renaming inj->vO
open List renaming take_of_length_le->xc
namespace Go.Proofs
open Go Go.Sx
set_option maxRecDepth 100000
section
variable{V:Mem}{R:RP}
theorem R5{a:KB}{b c d g i j k l o p:Sl}{q r:Int}(h:TB 37 #[uL o,.func (.func 38) #[] #[]] V λs V1=>R (rV (uB (!s))) V1):TT 11 #[uA #[uS a,uL b,uL c,uL d,uL g,uL i,uL j,uL k,uL l,uL o,uL p,uI q,uI r]] V R:=Ae Tryz.func11 h
theorem R6{a b c d:Sl}(h:TB 40 #[uL a,uL c] V λg V1=>Br (g=true) (Br ((b.n:Int)=(d.n:Int)) (Lp [uB false,uI 0] V1 λI n V2=>∀i j,I n [uB i,uI j] V2->∀f:LMP,Nx I n f->Br (j<(b.n:Int)) (Ix b j (¬(Aa b.p (j.toNat*2))=none/\∃k l,V2.rowp b.p (j.toNat*2) 2=some [uI k,uL l]/\Ix d j (¬(Aa d.p (j.toNat*2))=none/\∃o p,V2.rowp d.p (j.toNat*2) 2=some [uI o,uL p]/\Br (k=o) (Ix b j (¬(Aa b.p (j.toNat*2))=none/\∃q r,V2.rowp b.p (j.toNat*2) 2=some [uI q,uL r]/\Ix d j (¬(Aa d.p (j.toNat*2))=none/\∃s u,V2.rowp d.p (j.toNat*2) 2=some [uI s,uL u]/\TB 40 #[uL r,uL u] V2 λy t=>Br (y=true) (IR (j+1)/\f [uB i,uI (j+1)] t) (R KQ t)))) (R KQ V2)))) (R KX V2)) (R KQ V1)) (R KQ V1)):TT 17 #[uA #[uL a,uL b],uA #[uL c,uL d]] V R:=Ae Tryz.func17 h
theorem R7{a:Sl}{b:Value}(h:TI 63 #[uL a,K.cast .f b] V λc V1=>R (rV (uB (decide (0<=c)))) V1):TT 37 #[uL a,K.cast .f b] V R:=Co Tryz.func37 [] [] false [uL a,b] (by kernel_rfl) (by kernel_rfl) h
theorem R8{a b:Sl}(h:R (rV (uB (decide (300<(b.n:Int))))) V):TT 38 #[uA #[uL a,uL b]] V R:=Ae Tryz.func38 h
theorem R9{a b:Sl}(h:Br ((a.n:Int)=(b.n:Int)) (w22_0 V a b R) (R KQ V)):TT 40 #[uL a,uL b] V R:=Ae Tryz.func40 h
theorem Sa{a:Sl}{b:Value}(h:Lp [uI 0,uI 0] V λI n V1=>∀c d,I n [uI c,uI d] V1->∀t:LMP,Nx I n t->Br (d<(a.n:Int)) (Ix a d (∃g i,V1.rowp a.p (d.toNat*2) 2=some [uL g,uL i]/\∃f first k,K.cast .f b=.func (.func f) first k/\CO f/\TT f (first++#[uA #[uL g,uL i]]++k) V1 λe V2=>∃j,e=rV (uB j)/\Br (j=true) (R (rV (uI d)) V2) (IR (d+1)/\t [uI c,uI (d+1)] V2))) (R (rV (uI (-1))) V1)):TT 63 #[uL a,K.cast .f b] V R:=Co Tryz.func63 [] [] false [uL a,b] (by kernel_rfl) (by kernel_rfl) h
end
end Go.Proofs
namespace Go.Proofs
open Go Go.Sx
attribute [local irreducible] Go.Sx.Tri
section
variable{V:Mem}{d:Ds}{m:Mm}
theorem Py{s t:Sl}{xs ys:List Int}(h:Ab V s 1 (xs.map Ah))(k:Ab V t 1 (ys.map Ah)):PP 40 [.slice s.p s.n s.c,.slice t.p t.n t.c] V (.bool (decide (xs=ys))):=by
 refine R9 ?_;have o:=h.n_eq;have H:=k.n_eq;refine⟨λr=>?_,λr=>?_⟩
 ·refine AE (mk:=.bool) (b0:=false) xs.length (λi V1=>V=V1/\xs.take i=ys.take i) ⟨rfl,rfl⟩ ?_;rintro i b V1 J M ⟨rfl,G⟩ N;refine⟨λg=>?_,λZ=>?_⟩
  ·obtain⟨x,Y,W,-,w,Q,P,u⟩:=h.get g;obtain⟨y,O,A,-,I,z,j,f⟩:=k.get (i:=i) (by omega);refine⟨Q,P,g,_,u,z,j,by omega,_,f,λq=>⟨h.succ g,N w _ _ ⟨rfl,take_eq G W A q⟩⟩,λq=>?_⟩;rw[decide_eq_false λe=>?_];·simp_all
   simp_all
  grind
 ·rw[decide_eq_false λe=>r (by rw[o,H,e])];simp_all
theorem plain_ext{a b:Mm}(h:a.globals=b.globals)(k:(a.nodes.map λn=>(n.ty,n.f))=b.nodes.map λn=>(n.ty,n.f)):a.plain=b.plain:=by grind[Mm.plain]
theorem LK{a b:Mm}(w:Mm.Ok V a)(o:Mm.Ok V b):PP 17 [a.v,b.v] V (.bool (decide (a.plain=b.plain))):=by
 refine R6 ?_;have A:=w.nodes.n_eq;have I:=o.nodes.n_eq;have p:a.plain≠b.plain->(Ending.returned (.bool false)=.returned (.bool (decide (a.plain=b.plain)))/\V=V):=λh=>⟨by simp_all,rfl⟩;refine(Py w.globals o.globals).call ⟨_,rfl,λz=>?_,λz=>p λe=>z (decide_eq_true (vO e).1)⟩;have z:=of_decide_eq_true z;refine⟨λQ=>?_,λQ=>p λe=>Q (by rw[A,I,FU e])⟩;refine AE (mk:=.bool) (b0:=false) a.nodes.length (λi V1=>V=V1/\(a.nodes.map λn=>(n.ty,n.f)).take i=(b.nodes.map λn=>(n.ty,n.f)).take i) ⟨rfl,rfl⟩ ?_;rintro i b0 V1 J X ⟨rfl,s⟩ M;refine⟨λg=>?_,λH=>?_⟩
 ·obtain⟨x,G,B,-,N,c,P,u⟩:=w.nodes.get g;obtain⟨y,Z,C,-,L,t,j,k⟩:=o.nodes.get (i:=i) (by omega);have O:(i:Int)<(b.ns.n:Int):=by omega
  have r:(a.nodes.map λn=>(n.ty,n.f))[i]?=some (x.ty,x.f):=by simp_all
  have q:(b.nodes.map λn=>(n.ty,n.f))[i]?=some (y.ty,y.f):=by simp_all
  have bad:(x.ty,x.f)≠(y.ty,y.f)->a.plain≠b.plain:=λh e=>h (by rw[show(a.nodes.map λn=>(n.ty,n.f))=b.nodes.map λn=>(n.ty,n.f)from(vO e).2,q]at r;simp_all);refine⟨c,P,g,Al c,_,_,u,t,j,O,Al t,_,_,k,λY=>⟨c,P,g,Al c,_,_,u,t,j,O,Al t,_,_,k,(Py (w.nodesOk x G).rows (o.nodesOk y Z).rows).call ⟨_,rfl,λW=>⟨w.nodes.succ g,M N _ _ ⟨rfl,take_eq s r q (Prod.ext Y (of_decide_eq_true W))⟩⟩,λW=>p (bad λe=>W (decide_eq_true (vO e).2))⟩⟩,λY=>p (bad λe=>Y (vO e).1)⟩
 ·have D:=(w.nodes.done H).2;rw[xc (by simp_all),xc (by simp_all)]at s;exact⟨by rw[decide_eq_true (plain_ext z s)],rfl⟩
end
section
variable{V:Mem}{d:Ds}{l cl:Sl}{xs:List Sq}{nm:KB}{args:List Int}{v a b F:Int}
theorem c11{M:Sl}{ps:List PV}{I P:Sl}{n wr:Int}(h:HF V M ps):Tri Tryz.prog 11 #[rf3V d P M I n wr] V (RY V):=by
 refine Tri.mono (R5 (R:=RY V) ?_) λ_ _ h=>h;obtain⟨ms,t,-,-⟩:=h;refine Tri.mono (R7 (a:=M) (b:=.func (.func 38) #[] #[]) (R:=RY V) ?_) ?_
 ·refine Tri.mono (Sa (a:=M) (b:=.func (.func 38) #[] #[]) (R:=λe V'=>V=V'/\∃r:Int,e=.returned (.int .i64 r)) ?_) ?_
  ·refine AE (mk:=.int .i64) (b0:=0) ms.length (λi V1=>V=V1) rfl ?_;rintro i b V1 J j rfl u;refine⟨λk=>?_,λ_=>⟨rfl,_,rfl⟩⟩;obtain⟨x,w,q,-,f,z,y,g⟩:=t.get k;refine⟨z,y,k,_,_,g,38,#[],#[],rfl,Tryz.call38,Tri.mono (R8 (R:=RY V) ⟨rfl,_,rfl⟩) ?_⟩;rintro _ _ ⟨rfl,b,rfl⟩;exact⟨b,rfl,λ_=>⟨rfl,_,rfl⟩,λ_=>⟨t.succ k,u f _ _ rfl⟩⟩
  ·rintro _ _ ⟨rfl,r,rfl⟩;exact⟨_,rfl,rfl,_,rfl⟩
 ·rintro _ _ ⟨rfl,b,rfl⟩;exact⟨b,rfl,rfl,_,rfl⟩
end
theorem lay_ok{V V':Mem}{d:Ds}{m:Mm}{gs ns:Sl}{nd:List Nd}(h:Ds.Ok V d)(G:Ar d m)(L:AJ V V' gs ns Af nd (Bf m)):Mm.Ok V' ⟨gs,m.globals,ns,nd⟩/\(⟨gs,m.globals,ns,nd⟩:Mm).plain=m.plain:=by
 have:=Nc h L (G.plain (Hw m).symm);exact⟨this.1,this.2.trans (by rfl)⟩
end Go.Proofs
