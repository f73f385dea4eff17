/- Part 30: no statement of the seat is proved here. -/
import Derived.Test.YtgdmkmfchcflpaaGreatDoorPe16
import Derived.Test.YtgdmkmfchcflpaaGreatDoorPe21
import Derived.Test.YtgdmkmfchcflpaaGreatDoorPe24
import Derived.Test.YtgdmkmfchcflpaaGreatDoorPe25
set_option linter.unusedVariables false
set_option linter.unusedSimpArgs false
open Go.Proofs.Tryz renaming prog->xE
open List renaming eq_nil_of_length_eq_zero->ya,length_drop->wY,mem_map->wc,mem_range->yY,length_take->wX,length_map->wq
open List.cons renaming injEq->yE
open Option.some renaming injEq->zF
open Prod.mk renaming injEq->zS
namespace Go.Proofs
open Go Go.Sx
set_option maxRecDepth 100000
section
variable{V:Mem}{R:RP}
def w4(a:KB)(b c d g i j k l o:Sl)(p:Int):MR:=λV R=>TB 8 #[] V λq V1=>Br (q=true) (TB 9 #[uD a b c d g i j k,uL l] V1 λr V2=>Br (r=true) (Br (4000<(o.n:Int)) (R KX V2) (Lp [uB false,uI 0] V2 λI n w=>∀s u,I n [uB s,uI u] w->∀J:LMP,Nx I n J->Br (u<(l.n:Int)) (Ix l u (∃y z,w.rowp l.p (u.toNat*2) 2=some [uL y,uL z]/\TT 17 #[uD a b c d g i j k,uA #[uL y,uL z]] w λe x=>∃A B,e=rT #[uL A,uI B]/\TT 18 #[uD a b c d g i j k,uA #[uL y,uL z]] x λe f=>∃C D,e=rT #[uL C,uI D]/\Br (B=D) (TB 19 #[uL A,uL C] f λF t=>Br (F=true) (IR (u+1)/\J [uB s,uI (u+1)] t) (R KQ t)) (R KQ f))) (TT 20 #[uD a b c d g i j k,uL o] w λe x=>∃y z A,e=rT #[uA #[uL y,uL z],uI A]/\TT 21 #[uD a b c d g i j k,uL o] x λe f=>∃B C D,e=rT #[uA #[uL B,uL C],uI D]/\Br (A=D) (TB 22 #[uA #[uL y,uL z],uA #[uL B,uL C]] f λF t=>Br (F=true) (TT 23 #[uD a b c d g i j k,uL l,uI p] t λe Z=>∃G H,e=rT #[uI G,uI H]/\TB 11 #[uD a b c d g i j k,uL l] Z λL h=>Br (L=true) (Br (p<1) (Br (G=0) (R (rV (uB (decide (H=2)))) h) (R KQ h)) (Br (65536<p) (Br (G=0) (R (rV (uB (decide (H=2)))) h) (R KQ h)) (Br (H=0) (TL 13 #[uD a b c d g i j k,uL l] h λM Y=>TL 24 #[uL M,uI p] Y λN v=>R (rV (uB (decide (G=(N.n:Int))))) v) (R KQ h)))) (Br (G=0) (R (rV (uB (decide (H=1)))) h) (R KQ h))) (R KQ t)) (R KQ f)))) (R KX V2)) (R KQ V1)
theorem x4{a:KB}{b c d g i j k l o:Sl}{p:Int}(h:w4 a b c d g i j k l o p V R):TT 4 #[uD a b c d g i j k,uL l,uL o,uI p] V R:=Ae Tryz.func4 h
theorem Ps{a:KB}{b c d g i j k l o:Sl}(h:TB 38 #[uD a b c d g i j k] V λp V1=>Br (p=true) (TB 40 #[uD a b c d g i j k,uA #[uL l,uL o]] V1 λq V2=>Br (q=true) (TL 42 #[uD a b c d g i j k,uA #[uL l,uL o]] V2 λr f=>R (rT #[uL r,uI 0]) f) (R (rT #[z0,uI 1]) V2)) (R (rT #[z0,uI 1]) V1)):TT 18 #[uD a b c d g i j k,uA #[uL l,uL o]] V R:=Ae Tryz.func18 h
theorem Pt{a:Sl}(h:Lp [uI 0,uI 0] V λI n V1=>∀b c,I n [uI b,uI c] V1->∀g:LMP,Nx I n g->Br (c<6) (IR (b*256)/\Ix a c (∃d,V1.rowp a.p (c.toNat*1) 1=some [.int .u8 d]/\IR d/\IR ((b*256)+d)/\IR (c+1)/\g [uI ((b*256)+d),uI (c+1)] V1)) (IR (b-140737488355328)/\R (rV (uI (b-140737488355328))) V1)):TT 49 #[uL a] V R:=Ae Tryz.func49 h
end
end Go.Proofs
namespace Go.Proofs
open Go Go.Sx
set_option maxRecDepth 100000
section
variable{V:Mem}{R:RP}
abbrev w21_0(y:Sl)(s:Int)(a:KB)(b c d g i j k u:Sl)(h:Mem)(l:Sl)(R:RP):Prop:=Br ((y.n:Int)=s) (TB 40 #[uD a b c d g i j k,uA #[uL u,uL y]] h λB f=>Br (B=true) (TL 42 #[uD a b c d g i j k,uA #[uL u,uL y]] f λC w=>TB 51 #[uL C,uL l] w λD t=>Br (D=true) (R (rT #[uA #[uL u,uL y],uI 0]) t) (R (rT #[uA #[z0,z0],uI 7]) t)) (R (rT #[uA #[z0,z0],uI 7]) f)) (R (rT #[uA #[z0,z0],uI 7]) h)
theorem Pu{a:KB}{b c d g i j k l:Sl}(h:TB 38 #[uD a b c d g i j k] V λo V1=>Br (o=true) (IR (6*(c.n:Int))/\IR ((6*(c.n:Int))+6)/\Br ((l.n:Int)<((6*(c.n:Int))+6)) (R (rT #[uA #[z0,z0],uI 8]) V1) (Lp [z0,z0,uI 0] V1 λI n V2=>∀p q r,I n [uL p,uL q,uI r] V2->∀x:LMP,Nx I n x->Br (r<(c.n:Int)) (IR (6*r)/\(0<=(6*r)/\(6*r)<=(l.n:Int)/\(l.n:Int)<=(l.c:Int))/\TI 49 #[.slice (if(l.c:Int)=(6*r)then l.p else Aa l.p ((6*r).toNat*1)) ((l.n:Int)-(6*r)).toNat ((l.c:Int)-(6*r)).toNat] V2 λs w=>Af [uI s] 3 w λu f=>Ap 34 40 47 (uL p) (.slice (Aa u 0) 1 1) f λy t=>IR (r+1)/\x [uL y,uL q,uI (r+1)] t) (IR (6*(c.n:Int))/\(0<=(6*(c.n:Int))/\(6*(c.n:Int))<=(l.n:Int)/\(l.n:Int)<=(l.c:Int))/\TI 49 #[.slice (if(l.c:Int)=(6*(c.n:Int))then l.p else Aa l.p ((6*(c.n:Int)).toNat*1)) ((l.n:Int)-(6*(c.n:Int))).toNat ((l.c:Int)-(6*(c.n:Int))).toNat] V2 λs w=>IR (6*(c.n:Int))/\IR ((6*(c.n:Int))+6)/\(0<=((6*(c.n:Int))+6)/\((6*(c.n:Int))+6)<=(l.n:Int)/\(l.n:Int)<=(l.c:Int))/\Lp [uL p,uL q,uI 0,.slice (if(l.c:Int)=((6*(c.n:Int))+6)then l.p else Aa l.p (((6*(c.n:Int))+6).toNat*1)) ((l.n:Int)-((6*(c.n:Int))+6)).toNat ((l.c:Int)-((6*(c.n:Int))+6)).toNat] w λI n f=>∀u y z A,I n [uL u,uL y,uI z,uL A] f->∀v:LMP,Nx I n v->Br (0<(A.n:Int)) (Br ((y.n:Int)<=4096) (TT 50 #[uD a b c d g i j k,uL A] f λe t=>∃B C D F,e=rT #[uA #[uI B,uL C],uL D,uB F]/\Br (F=true) (Af [uI B,uL C] 90 t λG J=>Ap 73 75 48 (uL y) (.slice (Aa G 0) 1 1) J λH N=>v [uL u,uL H,uI z,uL D] N) (R (rT #[uA #[z0,z0],uI 7]) t)) (w21_0 y s a b c d g i j k u f l R)) (w21_0 y s a b c d g i j k u f l R)))) (R (rT #[uA #[z0,z0],uI 1]) V1)):TT 21 #[uD a b c d g i j k,uL l] V R:=DB Tryz.func21 [] [(8,[7]),(13,[7])] false (by kernel_rfl) (by kernel_rfl) h
theorem Pv{a:KB}{b c d g i j k l:Sl}(h:Br ((l.n:Int)=0) (R (rT #[uA #[uI 0,z0],z0,uB false]) V) (¬l.p=none/\(0:Int)<=(0:Int)/\0<(l.n:Int)/\∃o,V.rowp l.p ((0:Int).toNat*1) 1=some [.int .u8 o]/\IR o/\Br ((b.n:Int)<=o) (R (rT #[uA #[uI 0,z0],z0,uB false]) V) (¬l.p=none/\(0:Int)<=(0:Int)/\0<(l.n:Int)/\∃p,V.rowp l.p ((0:Int).toNat*1) 1=some [.int .u8 p]/\IR p/\Ix b p (¬(Aa b.p (p.toNat*2))=none/\∃q r,V.rowp b.p (p.toNat*2) 2=some [uS q,uL r]/\(0<=(1:Int)/\(1:Int)<=(l.n:Int)/\(l.n:Int)<=(l.c:Int))/\IR (6*(r.n:Int))/\Br ((((l.n:Int)-1).toNat:Int)<(6*(r.n:Int))) (R (rT #[uA #[uI 0,z0],z0,uB false]) V) (Lp [uI p,z0,uI 0] V λI n V1=>∀s u y,I n [uI s,uL u,uI y] V1->∀f:LMP,Nx I n f->Br (y<(r.n:Int)) (IR (6*y)/\(0<=(6*y)/\(6*y)<=(((l.n:Int)-1).toNat:Int)/\(((l.n:Int)-1).toNat:Int)<=(((l.c:Int)-1).toNat:Int))/\TI 49 #[.slice (if(((l.c:Int)-1).toNat:Int)=(6*y)then(if(l.c:Int)=(1:Int)then l.p else Aa l.p 1)else Aa (if(l.c:Int)=(1:Int)then l.p else Aa l.p 1) ((6*y).toNat*1)) ((((l.n:Int)-1).toNat:Int)-(6*y)).toNat ((((l.c:Int)-1).toNat:Int)-(6*y)).toNat] V1 λz V2=>Af [uI z] 3 V2 λA t=>Ap 51 57 47 (uL u) (.slice (Aa A 0) 1 1) t λB w=>IR (y+1)/\f [uI s,uL B,uI (y+1)] w) (IR (6*(r.n:Int))/\(0<=(6*(r.n:Int))/\(6*(r.n:Int))<=(((l.n:Int)-1).toNat:Int)/\(((l.n:Int)-1).toNat:Int)<=(((l.c:Int)-1).toNat:Int))/\(0<=(6*(r.n:Int))/\(6*(r.n:Int))<=(((l.n:Int)-1).toNat:Int)/\(((l.n:Int)-1).toNat:Int)<=(((l.c:Int)-1).toNat:Int))/\IR (6*(r.n:Int))/\R (rT #[uA #[uI s,uL u],.slice (if(((l.c:Int)-1).toNat:Int)=(6*(r.n:Int))then(if(l.c:Int)=(1:Int)then l.p else Aa l.p 1)else Aa (if(l.c:Int)=(1:Int)then l.p else Aa l.p 1) ((6*(r.n:Int)).toNat*1)) ((((l.n:Int)-1).toNat:Int)-(6*(r.n:Int))).toNat ((((l.c:Int)-1).toNat:Int)-(6*(r.n:Int))).toNat,uB true]) V1)))))):TT 50 #[uD a b c d g i j k,uL l] V R:=DB Tryz.func50 [] [(9,[7])] false (by kernel_rfl) (by kernel_rfl) h
end
end Go.Proofs
namespace Go.Proofs
open Go Go.Sx
theorem DecQ.unique{d:Ds}{b:List Int}{m x:Mm}{e f:Int}(h:DecQ d b m e)(k:DecQ d b x f):e=f/\m.plain=x.plain:=by
 cases h with
 |arg h w=>
  cases k with
  |arg _ g=>exact⟨rfl,w.trans g.symm⟩
  |short k|ok k|form k=>exact absurd k h
 |short h z w=>
  cases k with
  |arg k=>exact absurd h k
  |short _ _ g=>exact⟨rfl,w.trans g.symm⟩
  |ok _ k|form _ k=>exact absurd z k
 |ok h z i q r=>
  cases k with
  |arg k=>exact absurd h k
  |short _ k=>exact absurd k z
  |ok _ _ t _ u=>exact⟨rfl,Jk (ET i) (ET t) (r.trans u.symm)⟩
  |form _ _ _ y=>exact absurd r (y m i q)
 |form h z w y=>
  cases k with
  |arg k=>exact absurd h k
  |short _ k=>exact absurd k z
  |ok _ _ t j u=>exact absurd u (y x t j)
  |form _ _ g _=>exact⟨rfl,w.trans g.symm⟩
end Go.Proofs
namespace Go.Proofs.YtgdmkmfchcflpaaGreatDoor
open Go Go.Sx Go.Proofs Go.ChangeShapes Go.WideShapes Go.ChangeAt Go.RowKit
set_option maxRecDepth 100000 in
theorem bytes_of{H:Type}{enc:TypeId×Value->H}{W t:World}{r:Reach}{b0:Nat}{v:Value}{u:DataW H}{p:List MemPlace}(g:Value.okWide xE t r b0 34 v)(h:DataW.Trod enc xE W 0 (λ_=>true) true 34 v u p):∃(l:Sl)(b:List Int),v=l.v/\Bt (A3 W) l b:=by
 obtain⟨a,len,cap,rfl⟩:=okWide_slice Tryz.underlying34 g;obtain⟨f,h⟩:=h;have h:∃y,TR enc W f 34 [.slice a len cap]=some y:=⟨_,h⟩;obtain⟨l,k,w,z⟩:=M2 h;exact⟨l,k,w,z⟩
end Go.Proofs.YtgdmkmfchcflpaaGreatDoor
namespace Go.Proofs
open Go Go.Sx
attribute [local irreducible] Go.Sx.Tri
section
variable{V:Mem}{d:Ds}{m:Mm}{k:Dk}{s l:Sl}{ms:List Mm}{b:List Int}{n:Int}
theorem Pw(u:Ds.Ok V d)(hm:Mm.Ok V m):Tri xE 18 #[d.v,m.v] V λe V'=>V.sub V'/\if AL d/\AB d m=true then ∃s:Sl,e=.returned (.tuple #[s.v,.int .i64 0])/\Bt V' s (Ai d m)else e=.returned (.tuple #[Ah.v,.int .i64 1]):=by
 obtain⟨R,t⟩:∃R:Ending->Mem->Prop,R=λe V'=>V.sub V'/\if AL d/\AB d m=true then ∃s:Sl,e=.returned (.tuple #[s.v,.int .i64 0])/\Bt V' s (Ai d m)else e=.returned (.tuple #[Ah.v,.int .i64 1]):=⟨_,rfl⟩
 rw[<-t];refine Ps ?_;refine(Lv u).call ⟨_,rfl,λg=>?_,λg=>?_⟩
 ·have g:AL d:=of_decide_eq_true g;refine(JS u hm).call ⟨_,rfl,λf=>?_,λf=>?_⟩
  ·have f:AB d m=true:=f;refine Tri.mono (JW ⟨g.1,g.2,f⟩ u hm) ?_;rintro _ V1 ⟨w,s,rfl,z⟩;refine⟨s,rfl,?_⟩;rw[t];dsimp only;rw[if_pos ⟨g,f⟩];exact⟨w,s,rfl,z⟩
  ·rw[t];dsimp only;rw[if_neg λh=>f h.2];exact⟨Mem.sub.refl V,rfl⟩
 ·rw[t];dsimp only;rw[if_neg λh=>g (decide_eq_true h.1)];exact⟨Mem.sub.refl V,rfl⟩
theorem Lz(t:Bt V s b)(Z:6<=b.length):PP 49 [s.v] V (.int .i64 (Cu (b.take 6))):=by
 refine AP.mk (Pt ?_);refine Cz (mk:=.int .i64) (b0:=0) Ax 6 (λi a V2=>V2=V/\a=(b.take i).foldl (λa c=>a*256+c) 0) ⟨rfl,rfl⟩ ?_;rintro i a V2 J x ⟨rfl,rfl⟩ j;have r:=t.n;have w:=rd_pre t.b i;have q:(256:Int)^i<=281474976710656:=by
  match i,x with
  |0,_|1,_|2,_|3,_|4,_|5,_|6,_=>decide
  |_+7,h=>omega
 refine⟨λo=>?_,λp=>?_⟩
 ·have g:i<6:=by omega
  obtain⟨y,u,e,-,-,H,G,f⟩:=t.rows.get (i:=i) (by omega);have N:=t.b y u;have z:(256:Int)^i<=1099511627776:=by
   match i,g with
   |0,_|1,_|2,_|3,_|4,_|5,_=>decide
   |_+6,h=>omega
  refine⟨⟨by omega,by omega⟩,H,G,by omega,y,f,⟨by omega,by omega⟩,⟨by omega,by omega⟩,⟨by omega,by omega⟩,j g _ _ ⟨rfl,?_⟩⟩;rw[List.take_add_one,e,List.foldl_append];rfl
 ·obtain rfl:i=6:=by omega
  refine⟨⟨by omega,by omega⟩,?_,Mem.sub.refl _⟩;rfl
end
section
variable{V:Mem}{d:Ds}{m:Mm}{s:Sl}{b:List Int}
def NodeR(V:Mem)(d:Ds)(b:List Int):Ending->Mem->Prop:=λe V'=>V.sub V'/\match DJ d b with
 |none=>∃(n:Nd)(u:Sl),e=.returned (.tuple #[n.v,u.v,.bool false])
 |some x=>∃(n:Nd)(u:Sl),e=.returned (.tuple #[n.v,u.v,.bool true])/\Nd.Ok V' n/\(n.ty,n.f)=x.1/\Bt V' u x.2
theorem Px(hv:BX d=true)(Q:Ds.Ok V d)(u:Bt V s b)(K:b.length<=2147483648):Tri xE 50 #[d.v,s.v] V (NodeR V d b):=by
 obtain⟨R,P⟩:∃R,R=NodeR V d b:=⟨_,rfl⟩;rw[<-P];have bad:∀{V':Mem},DJ d b=none->V.sub V'->R (.returned (.tuple #[.agg #[.int .i64 0,.slice none 0 0],.slice none 0 0,.bool false])) V':=λh hs=>by
  rw[P];unfold NodeR;rw[h];exact⟨hs,⟨0,Ah,[]⟩,Ah,rfl⟩
 obtain⟨b1,b2,b3⟩:=GK hv;refine Pv ?_;have f:=u.n;refine⟨λS=>bad ?_ (Mem.sub.refl V),λS=>?_⟩
 ·obtain rfl:=ya (show b.length=0 by omega);rfl
 match b,f with
 |[],f=>exact absurd (by rw[f];rfl) S
 |t::r,f=>
  have hrl:s.n=r.length+1:=f;have ht:=u.b t List.mem_cons_self;obtain⟨-,-,-,-,-,T,-,-⟩:=u.rows.get (i:=0) (by omega);have w:V.rowp s.p ((0:Int).toNat*1) 1=some [.int .u8 t]:=u.rows.at_get (i:=0) rfl;have htn:d.ts.n=d.types.length:=Q.types.n_eq;refine⟨T,by decide,by omega,t,w,⟨by omega,by omega⟩,λU=>bad ?_ (Mem.sub.refl V),λhsm=>⟨T,by decide,by omega,t,w,⟨by omega,by omega⟩,?_⟩⟩;·rw[DJ,if_pos (.inl (by omega))]
  obtain⟨k,rfl⟩:∃k:Nat,t=k:=⟨t.toNat,by omega⟩;obtain⟨ty,O,A,-,-,a,I,z⟩:=Q.types.get (i:=k) (by omega);have e:=Fv A rfl;have M:=b3 (k:Int);rw[e]at M;have H:=(Q.typesOk ty O).fields.n_eq;have H:ty.fs.n=ty.fields.length:=by simpa using H
  have G:DJ d ((k:Int)::r)=if r.length<6*ty.fields.length then none else some (((k:Int),Bu ty.fields.length r),r.drop (6*ty.fields.length)):=by
   rw[DJ,e];by_cases h:r.length<6*ty.fields.length;·rw[if_pos h,if_pos (.inr h)]
   ·rw[if_neg h,if_neg (by omega)]
  have hcap:=u.rows.cap;have hfit:=u.rows.fit;have g:=u.post (j:=1) (by simp);have g:Bt V ⟨if(s.c:Int)=((1:Nat):Int)then s.p else Aa s.p (((1:Nat):Int).toNat*1),((s.n:Int)-((1:Nat):Int)).toNat,((s.c:Int)-((1:Nat):Int)).toNat⟩ r:=g;obtain⟨q,W⟩:∃q:Sl,q=⟨if(s.c:Int)=((1:Nat):Int)then s.p else Aa s.p (((1:Nat):Int).toNat*1),((s.n:Int)-((1:Nat):Int)).toNat,((s.c:Int)-((1:Nat):Int)).toNat⟩:=⟨_,rfl⟩;rw[<-W]at g;have qp:(if(s.c:Int)=(1:Int)then s.p else Aa s.p ((1:Int).toNat*1))=q.p:=by rw[W];rfl
  have qn:((s.n:Int)-1).toNat=q.n:=by rw[W];rfl
  have qc:((s.c:Int)-1).toNat=q.c:=by rw[W];rfl
  first|rw[qp,qn,qc]|rw[show(if(s.c:Int)=(1:Int)then s.p else Aa s.p 1)=q.p from qp,qn,qc]
  have hqn:=g.n;have F:=g.rows.cap;refine⟨a,I,by omega,Ak a,ty.name,ty.fs,z,⟨by omega,by omega,by omega⟩,⟨by omega,by omega⟩,λL=>bad (by rw[G,if_pos (by omega)]) (Mem.sub.refl V),λL=>?_⟩;have X:6*ty.fields.length<=r.length:=by omega
  refine⟨λmm xs V1=>∃(j:Nat)(o:Sl),mm=ty.fields.length-j/\j<=ty.fields.length/\xs=[.int .i64 (k:Int),.slice o.p o.n o.c,.int .i64 j]/\Sx.Own V V1 3 1 o ((Bu j r).flatMap Am),ty.fields.length,
   ⟨0,Ah,rfl,Nat.zero_le _,rfl,Own.nil (Mem.sub.refl _) _ _⟩,?_⟩
  rintro mm V1 v13 B v15 ⟨j,o,rfl,hj,N,Z⟩ J hJ;simp only[yE,and_true]at N;obtain⟨q1,q2,q3⟩:=N;cases Ax _ _ q1;cases AG _ _ q2;cases Ax _ _ q3;refine⟨λhlt=>?_,λhge=>?_⟩
  ·have hjl:j<ty.fields.length:=by omega
   have Y:=(g.sub Z.sub).post (j:=6*j) (by omega);have C:((6*j:Nat):Int)=6*(j:Int):=by omega
   rw[C]at Y;refine⟨⟨by omega,by omega⟩,⟨by omega,by omega,by omega⟩,?_⟩;refine(Lz Y (by rw[wY];omega)).call ⟨_,rfl,λtb D=>?_⟩;refine oneB DU (x:=Cu ((r.drop (6*j)).take 6)) Z D (by rw[H6];omega) rfl rfl (λ_=>rfl) λs5 V5 o5=>⟨s5,rfl,⟨by omega,by omega⟩,hJ _ _ _ (show ty.fields.length-(j+1)<ty.fields.length-j by omega) ⟨j+1,s5,rfl,by omega,rfl,?_⟩⟩;rw[H7];exact o5
  ·obtain rfl:j=ty.fields.length:=by omega
   have Y:=(g.sub Z.sub).post (j:=6*ty.fields.length) (by omega);have C:((6*ty.fields.length:Nat):Int)=6*(ty.fs.n:Int):=by omega
   rw[C]at Y;refine⟨⟨by omega,by omega⟩,⟨by omega,by omega,by omega⟩,⟨by omega,by omega,by omega⟩,⟨by omega,by omega⟩,?_⟩;rw[P];unfold NodeR;rw[G,if_neg (by omega)];refine⟨Z.sub,⟨k,B,Bu ty.fields.length r⟩,_,rfl,⟨Z.rows (λ_=>rfl) (by decide),⟨by show -9223372036854775808<=(k:Int);omega,by show(k:Int)<=9223372036854775807;omega⟩,λy hy=>?_⟩,rfl,Y⟩;have E:An r:=λx hx=>u.b x (List.mem_cons_of_mem _ hx);obtain⟨i,hi,rfl⟩:=wc.1 hy;have hi:=yY.1 hi;exact inC_I (Ho (by rw[wX,wY];omega) (F6 E _ _))
theorem Py(hd:Ds.Ok V d)(L:Bt V s b)(hlen:b.length<=2147483648):Tri xE 21 #[d.v,s.v] V (DecR V d b):=by
  obtain⟨R,hR⟩:∃R,R=DecR V d b:=⟨_,rfl⟩;rw[<-hR];refine Pu ?_;have hz:Fc.plain=([],[]):=rfl;have out:∀{er:Int}{V':Mem},V.sub V'->DecQ d b Fc er->R (.returned (.tuple #[.agg #[.slice none 0 0,.slice none 0 0],.int .i64 er])) V':=λhs h=>by
    rw[hR];exact⟨hs,Fc,_,rfl,zero_ok _,h⟩
  refine(Lv hd).call ⟨_,rfl,λh1=>?_,λh1=>out (Mem.sub.refl V) (.arg (λh=>h1 (decide_eq_true h)) hz)⟩;have K:AL d:=of_decide_eq_true h1;obtain⟨b1,b2,b3⟩:=GK K.1;have hgl:d.gs.n=d.globals.length:=by simpa using hd.globals.n_eq
  have hbn:=L.n;have hcap:=L.rows.cap;refine⟨⟨by omega,by omega⟩,⟨by omega,by omega⟩,λhsh=>out (Mem.sub.refl V) (.short K (by omega) hz),λhsh=>?_⟩;have S:¬b.length<6*(d.globals.length+1):=by omega
  have form:∀{V':Mem},V.sub V'->(∀x:Mm,AB d x=true->Bx d x=x.plain->BK x.plain=b->Cu ((b.drop (6*d.globals.length)).take 6)=x.plain.2.length->x.plain.2.length<=4096->Bw d x.plain.2.length (b.drop (6*d.globals.length+6))=some (x.plain.2,[])->x.plain.1=Bu d.globals.length b->False)->R (.returned (.tuple #[.agg #[.slice none 0 0,.slice none 0 0],.int .i64 7])) V':=λhs h=>out hs (dec_form K (by omega) S hz h);refine⟨λmm xs V1=>∃(i:Nat)(o:Sl),mm=d.globals.length-i/\i<=d.globals.length/\xs=[.slice o.p o.n o.c,.slice none 0 0,.int .i64 i]/\Sx.Own V V1 3 1 o ((Bu i b).flatMap Am),d.globals.length,
    ⟨0,Ah,rfl,Nat.zero_le _,rfl,Own.nil (Mem.sub.refl _) _ _⟩,?_⟩
  rintro mm V1 H v11 v12 ⟨i,o,rfl,hi,P,o1⟩ J hJ;simp only[yE,and_true]at P;obtain⟨q1,q2,q3⟩:=P;cases AG _ _ q1;cases AG v11 Ah q2;cases Ax _ _ q3;refine⟨λhlt=>?_,λhge=>?_⟩
  · have h6:=(L.sub o1.sub).post (j:=6*i) (by omega);have ec:((6*i:Nat):Int)=6*(i:Int):=by omega
    rw[ec]at h6;refine⟨⟨by omega,by omega⟩,⟨by omega,by omega,by omega⟩,?_⟩;refine(Lz h6 (by rw[wY];omega)).call ⟨_,rfl,λtb T=>?_⟩;refine oneB DU (x:=Cu ((b.drop (6*i)).take 6)) o1 T (by rw[H6];omega) rfl rfl (λ_=>rfl) λs5 V5 o5=>⟨s5,rfl,⟨by omega,by omega⟩,hJ _ _ _ (show d.globals.length-(i+1)<d.globals.length-i by omega) ⟨i+1,s5,rfl,by omega,rfl,?_⟩⟩;rw[H7];exact o5
  obtain rfl:i=d.globals.length:=by omega
  clear hJ;have hg:=o1.rows (λ_=>rfl) (by decide);have h6:=(L.sub o1.sub).post (j:=6*d.globals.length) (by omega);have ec:((6*d.globals.length:Nat):Int)=6*(d.gs.n:Int):=by omega
  rw[ec]at h6;refine⟨⟨by omega,by omega⟩,⟨by omega,by omega,by omega⟩,?_⟩;refine(Lz h6 (by rw[wY];omega)).call ⟨_,rfl,⟨by omega,by omega⟩,⟨by omega,by omega⟩,⟨by omega,by omega,by omega⟩,?_⟩;obtain⟨N,hN⟩:∃N,N=Cu ((b.drop (6*d.globals.length)).take 6):=⟨_,rfl⟩;rw[<-hN]at form⊢;have hc:=(L.sub o1.sub).post (j:=6*d.globals.length+6) (by omega);have ec2:((6*d.globals.length+6:Nat):Int)=6*(d.gs.n:Int)+6:=by omega
  rw[ec2]at hc;obtain⟨c,hcc⟩:∃c,c=b.drop (6*d.globals.length+6):=⟨_,rfl⟩;rw[<-hcc]at form hc;have hcl:c.length<=2147483648:=by rw[hcc,wY];omega
  obtain⟨qs,hqs⟩:∃qs:Sl,qs=⟨if (s.c:Int)=6*(d.gs.n:Int)+6 then s.p else Aa s.p ((6*(d.gs.n:Int)+6).toNat*1),((s.n:Int)-(6*(d.gs.n:Int)+6)).toNat,((s.c:Int)-(6*(d.gs.n:Int)+6)).toNat⟩:=⟨_,rfl⟩;rw[<- hqs]at hc;have hs1:=o1.sub;refine⟨fun mm xs V4=>∃(i:Nat)(o2 qr:Sl)(D:Mem)(g:List Nd)(r:List Int),mm=r.length/\xs=[.slice H.p H.n H.c,.slice o2.p o2.n o2.c,.int .i64 0,.slice qr.p qr.n qr.c] /\
      V1.sub D/\Ar D V4 (QL 90 2 EmQ o2 (g.flatMap Nd.row))/\(∀x∈g,Nd.Ok D x)/\Bw d i c=some (g.map (λx=>(x.ty,x.f)),r)/\Bt D qr r/\g.length=i/\r.length<=c.length/\i<=4097,c.length,
    ⟨0,Ah,qs,V1,[],c,rfl,by rw[hqs],Mem.sub.refl _,QL.start EmQ.over (Ar.mk EmQ.over (W:=V1) (Mem.sub.refl _) (Mem.sub.refl _)),(λx hx=>by cases hx),rfl,hc,rfl,Nat.le_refl _,by decide⟩,?_⟩
  rintro mm V4 v14 Y v16 v17 ⟨i,o2,qr,D,g,r,rfl,P,hD,B4,X,z,hbr,hndl,hrl,hi4⟩ J1 hJ1;simp only[yE,and_true]at P;obtain⟨q1,q2,q3,q4⟩:=P;cases AG _ _ q1;cases AG _ _ q2;cases Ax _ _ q3;cases AG _ _ q4;have O:=hs1.trans (hD.trans B4.sub);have hon:=(QL.brows EmQ.over (fun _=>rfl) (by decide) B4:Ad V4 Y 2 (g.map Nd.row));have hon2:=hon.n_eq;have hrn:=hbr.n;have fin:(r=[]∨4096<(i:Int))->Br ((Y.n:Int)=N)
       (TT 40 #[d.v,uA #[uL H,uL Y]] V4 λe V5=>∃v18,e=rV (uB v18)/\
       Br (v18=true)
       (TT 42 #[d.v,uA #[uL H,uL Y]] V5 λe V6=>∃v19,e=rV (uL v19)/\
       TT 51 #[uL v19,uL s] V6 λe V7=>∃v20,e=rV (uB v20)/\
       Br (v20=true)
       (R (rT #[uA #[uL H,uL Y],uI 0]) V7)
       (R (rT #[uA #[.slice none 0 0,.slice none 0 0],uI 7]) V7))
       (R (rT #[uA #[.slice none 0 0,.slice none 0 0],uI 7]) V5))
       (R (rT #[uA #[.slice none 0 0,.slice none 0 0],uI 7]) V4):=λB=>by
    refine⟨λhNn=>?_,λhNn=>form O λx _ _ _ F hx4 w _=>?_⟩;rotate_left
    · obtain⟨p1,p2⟩:=JI (i:=i) w;obtain⟨p3,p4⟩:=p2 _ z;rcases B with h|h
      · have:=p4 h;omega
      · omega
    obtain⟨m,hm⟩:∃m:Mm,m=⟨H,Bu d.globals.length b,Y,g⟩:=⟨_,rfl⟩;have A:Mm.Ok V4 m:=by
      rw[hm];refine⟨hg.sub (hD.trans B4.sub),λy hy=>?_,hon,λn hn=>(X n hn).sub B4.sub⟩;obtain⟨j,hj,rfl⟩:=wc.1 hy;have hj:=yY.1 hj;exact inC_I (Ho (by rw[wX,wY];omega) (F6 L.b _ _))
    have hmv:m.v=.agg #[H.v,Y.v]:=by rw[hm];rfl
    have hmp:m.plain=(Bu d.globals.length b,g.map λx=>(x.ty,x.f)):=by rw[hm];rfl
    have I:∀x:Mm,Cu ((b.drop (6*d.globals.length)).take 6)=x.plain.2.length->Bw d x.plain.2.length c=some (x.plain.2,[])->x.plain.1=Bu d.globals.length b->x.plain=m.plain:=λx hx1 hx2 hx3=>by
      have:x.plain.2.length=i:=by rw[<-hN]at hx1;omega
      rw[this,z]at hx2;simp only[zF,zS]at hx2;rw[hmp];exact Prod.ext hx3 hx2.1.symm
    have C:=JS (hd.sub O) A;rw[hmv]at C;refine C.call ⟨_,rfl,λZ=>?_,λZ=>form O λx hxv _ _ F _ w hxg=>Z (KP (I x (by rw[<-hN];exact F) w hxg) hxv)⟩;have Z:AB d m=true:=Z;have G:BR d m:=⟨K.1,K.2,Z⟩;have hcd:=JW G (hd.sub O) A;rw[hmv]at hcd;refine Tri.mono hcd ?_;rintro _ V6 ⟨s6,sc,rfl,hbc⟩;have s16:=O.trans s6;refine⟨sc,rfl,(MW hbc (L.sub s16)).call ⟨_,rfl,λM=>?_,λM=>form s16 λx hxv hxc hxr F _ w hxg=>M ?_⟩⟩
    · have M:Ai d m=b:=of_decide_eq_true M;have hrest:r=[]:=by
        rcases B with h|h;· exact h
        · exact absurd (ET Z).len (by rw[hmp];show ¬(g.map _).length<=4096;rw[wq];omega)
      subst hrest;have E:BK m.plain=b:=by
        rw[hmp];exact parse_raw (n:=i) L.b S (by rw[<-hN];omega) (by rw[<-hcc];exact z)
      have hcan:Bx d m=m.plain:=by
        have h1:BK (Bx d m)=BK m.plain:=by rw[E];exact M
        exact Jk (Ii G) (ET Z) h1
      rw[hR];refine⟨s16,m,0,by rw[hmv];rfl,A.sub s6,.ok K S Z hcan E⟩
    · have e:=I x (by rw[<-hN];exact F) w hxg;refine decide_eq_true ?_;unfold Ai;rw[K2 e.symm,hxc,hxr]
  refine⟨λhpos=>⟨λhsm=>?_,λhbig=>fin (.inr (by omega))⟩,λhpos=>fin (.inl (ya (by omega)))⟩;have q:Bw d (i+1) c=(DJ d r).map λy=>(g.map (λx=>(x.ty,x.f))++[y.1],y.2):=by rw[GL,z];rfl
  refine Tri.mono (B4.run (R:=λe U'=>match DJ d r with
  |none=>∃(n:Nd)(u:Sl),e=.returned (.tuple #[n.v,u.v,.bool false])
  |some x=>∃(n:Nd)(u:Sl),e=.returned (.tuple #[n.v,u.v,.bool true])/\Nd.Ok U' n/\(n.ty,n.f)=x.1/\Bt U' u x.2) λU hU=>Px K.1 (hd.sub (hs1.trans (hD.trans hU))) (hbr.sub hU) (by omega)) ?_
  rintro _ V5 ⟨D5,hD5,a,B5⟩;cases Q:DJ d r with
  |none=>
    rw[Q]at a q;obtain⟨n,u,rfl⟩:=a;refine⟨n.ty,n.sl,u,false,rfl,λh=>absurd h (by decide),λ_=>form (hs1.trans ((hD.trans hD5).trans B5.sub)) λx _ _ _ _ _ w _=>?_⟩;obtain⟨p1,p2⟩:=JI (i:=i) w;obtain⟨p3,p4⟩:=p2 _ z;obtain⟨k1,k2⟩:=JI (i:=i+1) w;have:=k1 q;have hir:i=x.plain.2.length:=by omega
    rw[<-hir,z]at w;simp only[zF,zS]at w;rw[w.2]at hrn;simp at hrn;omega
  |some y=>
    rw[Q]at a q;obtain⟨n,u,rfl,hn,hne,hu⟩:=a;refine⟨n.ty,n.sl,u,true,rfl,λ_ tb T=>?_,λh=>absurd rfl h⟩;have hul:y.2.length<r.length:=by
      cases r with
      |nil=>simp at hrn;omega
      |cons t r=>
        rw[DJ]at Q;split at Q;· cases Q
        · cases Q;show(r.drop _).length<(t::r).length;rw[wY,List.length_cons];omega
    refine ER app48 (row:=Nd.row) (x:=n) (λ_=>rfl) EmQ.over B5 T (by omega) rfl rfl rfl λo5 V9 B11=>⟨o5,rfl,hJ1 _ _ _ hul ⟨i+1,o5,u,D5,g++[n],y.2,rfl,rfl,hD.trans hD5,B11,λx hx=>?_,?_,hu,by rw[List.length_append,hndl];rfl,by omega,by omega⟩⟩
    · rcases List.mem_append.1 hx with hx|hx;· exact(X x hx).sub hD5
      · rw[List.mem_singleton.1 hx];exact hn
    · rw[q];simp only[Option.map_some,List.map_append,List.map_cons,List.map_nil,hne]
end
section
variable{V:Mem}{d:Ds}{k:Dk}{s l sb:Sl}{ms:List Mm}{b:List Int}{size vn:Int}
theorem c4[hT:Tab V](N:Ds.Ok V d)(y:CT V l ms)(I:Bt V sb b):PP 4 [d.v,l.v,sb.v,.int .i64 size] V (.bool true):=by
 obtain⟨R,hR⟩:∃R:Ending->Mem->Prop,R=λe V'=>e=.returned (.bool true)/\V.sub V':=⟨_,rfl⟩;refine AP.mk ?_;rw[<-hR];have t:∀{V'},V.sub V'->R (.returned (.bool true)) V':=λh=>by rw[hR];exact⟨rfl,h⟩
 refine x4 ?_;unfold w4;refine c8.call ⟨_,rfl,λ_=>?_,λh=>absurd rfl h⟩;refine Tri.mono (c9 N y) ?_;rintro _ V2 ⟨rfl,bf,rfl,h8⟩;have hbn:=I.n;refine⟨bf,rfl,λM=>⟨λ_=>t (Mem.sub.refl _),λh4=>?_⟩,λ_=>t (Mem.sub.refl _)⟩;have h8:=h8 M;refine Av (mk:=.bool) (b0:=false) ms.length (λi F=>V.sub F) (Mem.sub.refl _) ?_;intro i b0 F J hi j hJ;haveI:Tab F:=Tab.sub (V:=V) inferInstance j;have Z:=N.sub j;refine⟨λz=>?_,λhge=>?_⟩
 ·obtain⟨m,hm,hmi,-,Y,hp,hz,W⟩:=(y.rows.sub j).get z;refine⟨hp,hz,z,m.gs,m.ns,W,Tri.mono (M0 Z ((y.ok m hm).sub j)) ?_⟩;rintro _ V4 ⟨L,G⟩;have g:=j.trans L;have Q:=Pw (N.sub g) ((y.ok m hm).sub g);by_cases c:AL d/\AB d m=true
  ·rw[if_pos c]at G;obtain⟨s1,rfl,X⟩:=G;refine⟨s1,0,rfl,Tri.mono Q ?_⟩;rintro _ A ⟨r,q⟩;rw[if_pos c]at q;obtain⟨s2,rfl,B⟩:=q;have P:=Ik (X.sub r) B;rw[decide_eq_true rfl]at P;exact⟨s2,0,rfl,λ_=>P.call ⟨_,rfl,λ_=>⟨y.rows.succ z,hJ Y _ _ (g.trans r)⟩,λh=>absurd rfl h⟩,λh=>absurd rfl h⟩
  ·rw[if_neg c]at G;subst G;refine⟨Ah,1,rfl,Tri.mono Q ?_⟩;rintro _ A ⟨r,q⟩;rw[if_neg c]at q;subst q;have P:=Ik (V:=A) (s:=Ah) (u:=Ah) Bt.nil Bt.nil;rw[decide_eq_true rfl]at P;exact⟨Ah,1,rfl,λ_=>P.call ⟨_,rfl,λ_=>⟨y.rows.succ z,hJ Y _ _ (g.trans r)⟩,λh=>absurd rfl h⟩,λh=>absurd rfl h⟩
 ·refine Tri.mono (Lf Z (I.sub j) (by omega)) ?_;rintro _ V4 ⟨L,m,er,rfl,hm,C⟩;have g:=j.trans L;refine⟨m.gs,m.ns,er,rfl,Tri.mono (Py (N.sub g) (I.sub g) (by omega)) ?_⟩;rintro _ A ⟨r,m2,er2,rfl,E,K⟩;have f:=g.trans r;obtain⟨rfl,S⟩:=C.unique K;have Q:=c22 (hm.sub r) E;rw[decide_eq_true S]at Q;refine⟨m2.gs,m2.ns,er,rfl,λ_=>Q.call ⟨_,rfl,λ_=>?_,λh=>absurd rfl h⟩,λh=>absurd rfl h⟩;haveI:Tab A:=Tab.sub (V:=V) inferInstance f;have p:=N.sub f;have a:=y.sub f;have H:=M1 (size:=size) p a;have w:=c11 p a;by_cases c:AL d/\Cr d ms=true
  ·rw[if_pos c]at H;rw[decide_eq_true c.1,c.2]at w;by_cases T:size<1∨65536<size
   ·rw[if_pos T]at H;refine H.call ⟨_,_,rfl,w.call ⟨_,rfl,λ_=>⟨λ_=>⟨λ_=>t f,λh=>absurd rfl h⟩,λG=>⟨λ_=>⟨λ_=>t f,λh=>absurd rfl h⟩,λq=>absurd T (by omega)⟩⟩,λh=>absurd rfl h⟩⟩
   ·rw[if_neg T]at H;refine H.call ⟨_,_,rfl,w.call ⟨_,rfl,λ_=>⟨λh=>absurd h (by omega),λG=>⟨λh=>absurd h (by omega),λq=>⟨λ_=>?_,λh=>absurd rfl h⟩⟩⟩,λh=>absurd rfl h⟩⟩;refine Tri.mono (It p a c.1 c.2 (by omega)) ?_;rintro _ V9 ⟨o,D,rfl,U,hP⟩;obtain⟨n,hn⟩:∃n:Nat,size=n:=⟨size.toNat,by omega⟩;subst hn;have O:=EU.1 c.2;refine⟨o,rfl,Tri.mono (MY hP.ls (by omega) (by omega) (by rw[wq];omega) λx hx=>?_) ?_⟩
    ·obtain⟨m,hm,rfl⟩:=wc.1 hx;exact Gb ⟨c.1.1,c.1.2,O m hm⟩
    rintro _ V10 ⟨s10,o2,rfl,hL2⟩;refine⟨o2,rfl,?_⟩;show R _ _;rw[hL2.n,Int.toNat_natCast,decide_eq_true rfl];exact t (((f.trans U).trans hP.sub).trans s10)
  ·rw[if_neg c]at H;have hf:(decide (AL d)&&Cr d ms)=false:=by
    rw[Bool.and_eq_false_iff];by_cases c1:AL d;·exact .inr (by simpa using λh=>c ⟨c1,h⟩)
    ·exact .inl (decide_eq_false c1)
   rw[hf]at w;refine H.call ⟨_,_,rfl,w.call ⟨_,rfl,λh=>absurd h (by decide),λ_=>⟨λ_=>t f,λh=>absurd rfl h⟩⟩⟩
end
end Go.Proofs
