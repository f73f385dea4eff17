/- Part 9: no statement of the seat is proved here. -/
import Derived.Test.YtmdkfdmecbimcaaGreatDoorPd08
import Derived.Laws.MakeOwn
import Derived.OrdersIn
import Derived.OwnWalkIn
set_option linter.unusedVariables false
set_option linter.unusedSimpArgs false
open List renaming all_eq_true->yC,mem_cons->yH,any_eq_true->xp,getElem?_eq_getElem->yi,getElem?_eq_some_iff->yj,mem_of_getElem?->x8,replicate->yT,map_cons->zH,map_nil->wB,getD_cons_zero->wC,getD_cons_succ->wD,nil_append->wE,length_nil->wF,length_cons->zo,mem_iff_getElem?->wG,getElem?_map->xI,length_map->wI,length_set->wJ,length_append->zI,getElem?_append_left->wK,length_singleton->yI,mem_append->wL,mem_singleton->zR,eq_nil_of_length_eq_zero->xH,append_nil->wM,mem_cons_self->yA,mem_cons_of_mem->yB,map_set->wN,mem_or_eq_of_mem_set->wO,not_mem_nil->xQ,ext_getElem?->wR,getElem?_set->wS
open Bool renaming and_eq_true->zC,or_eq_true->yx
open Go.Ending renaming returned->xV
open Int renaming toNat_natCast->xa
open Prod.mk renaming injEq->zY
open Prod renaming ext->wA
open Nat renaming le_refl->yq,le_trans->wH,mul_le_mul_right->xJ,add_mul->xG
open Go.Instr renaming findNow->yc,sameBits->wQ
open Go.Value renaming int->wP
open Go.Sem renaming run_bind->zN
open Go.Result renaming andThen_ok->zO
open Go.Proofs.Tryz renaming prog->xS
open Array renaming getElem?_eq_some_iff->yE,length_toList->wT,mem_of_getElem?->wY
open Go.Builtin renaming zeroCells->xN,append_->xL,firstCells->xP,nextslicecap->wW
open Go.IntKind renaming i64->yh,wrap_i64->wU
open Go.Fence renaming wide->wX
namespace Go.Proofs
open Go Go.Sx
attribute [local irreducible] Go.Sx.Tri
def Ah(n:Int):List Value:=[.int .i64 n]
def Ep(n:Int):Prop:=-9223372036854775808<=n/\n<=9223372036854775807
structure Nd where
 ty:Int
 sl:Sl
 f:List Int
def Nd.row(n:Nd):List Value:=[.int .i64 n.ty,n.sl.v]
def Nd.v(n:Nd):Value:=.agg n.row.toArray
structure Nd.Ok (V:Mem)(n:Nd):Prop where
 rows:Ab V n.sl 1 (n.f.map Ah)
 tyIn:Ep n.ty
 vals:∀x∈n.f,Ep x
structure Mm where
 gs:Sl
 globals:List Int
 ns:Sl
 nodes:List Nd
def Mm.row(m:Mm):List Value:=[m.gs.v,m.ns.v]
def Mm.v(m:Mm):Value:=.agg m.row.toArray
structure Mm.Ok (V:Mem)(m:Mm):Prop where
 globals:Ab V m.gs 1 (m.globals.map Ah)
 gIn:∀x∈m.globals,Ep x
 nodes:Ab V m.ns 2 (m.nodes.map Nd.row)
 nodesOk:∀n∈m.nodes,Nd.Ok V n
theorem Nd.Ok.sub{V V':Mem}{n:Nd}(h:Nd.Ok V n)(o:V.sub V'):Nd.Ok V' n:=⟨h.rows.sub o,h.tyIn,h.vals⟩
theorem Mm.Ok.sub{V V':Mem}{m:Mm}(h:Mm.Ok V m)(o:V.sub V'):Mm.Ok V' m:=⟨h.globals.sub o,h.gIn,h.nodes.sub o,λn hn=>(h.nodesOk n hn).sub o⟩
def allI{α:Type}(p:Nat->α->Bool)(xs:List α):Bool:=xs.zipIdx.all λx=>p x.2 x.1
def AllI{α:Type}(p:Nat->α->Bool)(xs:List α)(i:Nat):Prop:=∀j x,j<i->xs[j]?=some x->p j x=true
theorem AllI.zero{α:Type}{p:Nat->α->Bool}{xs:List α}:AllI p xs 0:=λ_ _ h=>absurd h (Nat.not_lt_zero _)
theorem AllI.succ{α:Type}{p:Nat->α->Bool}{xs:List α}{i:Nat}{x:α}(h:AllI p xs i)(N:xs[i]?=some x)(hp:p i x=true):AllI p xs (i+1):=λj y o H=>by
 rcases Nat.lt_succ_iff_lt_or_eq.1 o with J|rfl;·exact h j y J H
 simp_all
theorem GQ{α:Type}{p:Nat->α->Bool}{xs:List α}:allI p xs=true↔∀j x,xs[j]?=some x->p j x=true:=by
 unfold allI;rw[yC];constructor;·simp_all[List.mem_zipIdx_iff_getElem?]
 grind
theorem AllI.all{α:Type}{p:Nat->α->Bool}{xs:List α}{i:Nat}(h:AllI p xs i)(hi:xs.length<=i):allI p xs=true:=
 GQ.2 λj x o=>h j x (by grind) o
theorem MB{α:Type}{p:Nat->α->Bool}{xs:List α}{j:Nat}{x:α}(o:xs[j]?=some x)(hp:¬p j x=true):allI p xs=false:=by
 grind[allI,absurd,GQ]
def Bw(d:Ds)(s:KB):Int:=BH (λt=>decide (t.name=s)) d.types
def C1(d:Ds)(l:List Fld):Bool:=l.all λf=>Bt d f.ty
def Dh(d:Ds):Bool:=Bv d&&C1 d d.globals&&allI (λi t=>decide (Bw d t.name=(i:Int))&&C1 d t.fields) d.types
def AL(d:Ds)(t:Int):List Fld:=((d.types[t.toNat]?).map (·.fields)).getD []
def tyAt(l:List Fld)(i:Nat):KB:=((l[i]?).map (·.ty)).getD sE
def AQ(d:Ds)(m:Mm)(o:KB)(v:Int):Bool:=
 if o=Am then decide (-1099511627776<=v/\v<=1099511627776)else if o=AC then decide (v=0∨v=1)
 else decide (v=0∨(1<=v/\v<=(m.nodes.length:Int)/\(m.nodes[(v-1).toNat]?).map (·.ty)=some (Bw d o)))
def Ax(d:Ds)(m:Mm)(l:List Fld)(vs:List Int):Bool:=decide (l.length=vs.length)&&allI (λi v=>AQ d m (tyAt l i) v) vs
def EH(d:Ds)(n:Nd):Bool:=decide (0<=n.ty/\n.ty<(d.types.length:Int))
def BY(d:Ds)(m:Mm):Bool:=Dh d&&decide (m.nodes.length<=4096)&&m.nodes.all (EH d)&&Ax d m d.globals m.globals&&m.nodes.all λn=>Ax d m (AL d n.ty) n.f
theorem row_take{V:Mem}{a:Addr}{n k:Nat}{vs:List Value}(h:V.row a n=some vs)(hk:k<=n):V.row a k=some (vs.take k):=by
 grind[Mem.row]
theorem KK{V:Mem}{p:Option Addr}{off n k:Nat}{vs:List Value}(h:V.rowp p off n=some vs)(hk:k<=n):V.rowp (Aa (Aa p off) 0) 0 k=some (vs.take k):=by
 cases p with
 |none=>cases h
 |some a=>
  have h0:((a.add off).add 0).add 0=a.add off:=by rfl
  show V.row (((a.add off).add 0).add 0) k=_;rw[h0];exact row_take h hk
section
variable{V:Mem}{d:Ds}{m:Mm}
theorem MC(d:Ds)(s:KB):(Bw d s<0/\Cg d s=false)∨(0<=Bw d s/\Cg d s=true):=by
 grind[Bw,Cg,Cu,Ty]
theorem OI(h:Ds.Ok V d){l:Sl}{xs:List Fld}(hr:Ab V l 2 (xs.map Fld.row)):PP 87 [d.v,l.v] V (.bool (C1 d xs)):=by
 refine QM ?_;refine AE (mk:=.bool) (b0:=false) xs.length (λi V1=>V=V1/\A0 (λf=>Bt d f.ty) xs i) ⟨rfl,A0.zero _ _⟩ ?_;rintro i b V1 J hi ⟨rfl,ha⟩ A;refine⟨λo=>?_,λN=>?_⟩
 ·obtain⟨x,hm,I,M,hl,hp,Z,H⟩:=hr.get o;have Y:=Al (n:=i*2) hp;have O:Bt d x.ty=true->IR ((i:Int)+1)/\J [.bool b,.int .i64 ((i:Int)+1)] V:=λhk=>⟨hr.succ o,A hl _ _ ⟨rfl,ha.succ I hk⟩⟩;refine⟨hp,Z,o,Y,_,_,H,λh1=>O (by grind[Bt,Am]),λh1=>⟨hp,Z,o,Y,_,_,H,λh2=>O (by grind[Bt,AC]),λh2=>⟨hp,Z,o,Y,_,_,H,(HX h).call ⟨_,rfl,λh3=>?_,λh3=>O ?_⟩⟩⟩⟩
  ·rcases MC d x.ty with⟨-,k⟩|⟨k,-⟩
   ·have:Bt d x.ty=false:=by grind[Bt,Am,AC]
    unfold C1;grind
   grind[absurd,Bw]
  ·rcases MC d x.ty with⟨k,-⟩|⟨-,k⟩;·grind[absurd,Bw]
   grind[Bt]
 ·unfold C1;rw[ha.all (hr.done N).2];simp_all
theorem OJ(h:Ds.Ok V d):PP 58 [d.v] V (.bool (Dh d)):=by
 refine Qo ?_;unfold Dh;refine(Mn h).call ⟨_,rfl,λhv=>(OI h h.globals).call ⟨_,rfl,λht=>?_,λht=>?_⟩,λhv=>?_⟩
 ·rw[hv,ht,Bool.true_and,Bool.true_and];refine AE (mk:=.bool) (b0:=false) d.types.length (λi V1=>V=V1/\AllI (λi t=>decide (Bw d t.name=(i:Int))&&C1 d t.fields) d.types i) ⟨rfl,AllI.zero⟩ ?_;rintro i b V1 J hi ⟨rfl,ha⟩ A;refine⟨λo=>?_,λN=>?_⟩
  ·obtain⟨x,hm,Z,I,hl,hp,Y,H⟩:=h.types.get o;have O:=Al (n:=i*2) hp;refine⟨hp,Y,o,O,_,_,H,(HX h).call ⟨_,rfl,λh1=>⟨hp,Y,o,O,_,_,H,(OI h (h.typesOk x hm).fields).call ⟨_,rfl,λh2=>⟨h.types.succ o,A hl _ _ ⟨rfl,ha.succ Z ?_⟩⟩,λh2=>?_⟩⟩,λh1=>?_⟩⟩;·grind[Bw]
   ·rw[MB Z (by simp_all)];simp_all
   ·rw[MB Z (by rw[zC,decide_eq_true_eq];exact λk=>h1 k.1)];simp_all
  ·rw[ha.all (h.types.done N).2];simp_all
 ·simp_all
 simp_all
theorem c103(h:Ds.Ok V d)(hm:Mm.Ok V m){s:KB}{v:Int}:PP 103 [d.v,m.v,.string s,.int .i64 v] V (.bool (AQ d m s v)):=by
 refine x103 ?_;unfold AQ;have hn:=hm.nodes.n_eq;have o:∀{a b:Bool},a=b->(xV (.bool a)=xV (.bool b)/\V=V):=λe=>⟨by rw[e],rfl⟩;refine⟨λh1=>?_,λh1=>⟨λh2=>?_,λh2=>?_⟩⟩;·grind[Am]
 ·grind[Am,AC,inr]
 ·rw[if_neg (show ¬s=Am from h1),if_neg (show ¬s=AC from h2)];refine⟨λh3=>o (decide_eq_true (.inl h3)).symm,λh3=>⟨λh4=>⟨λZ=>?_,λZ=>o ?_⟩,λh4=>o ?_⟩⟩
  ·obtain⟨i,rfl⟩:∃i:Nat,v=(i:Int)+1:=⟨(v-1).toNat,by omega⟩;have e:((i:Int)+1-1)=(i:Int):=by omega
   have Y:(i:Int)+1<=9223372036854775807:=by have:=(hm.nodes.succ (i:=i) (by omega)).2;omega
   rw[e];obtain⟨x,O,J,A,hl,hp,I,H⟩:=hm.nodes.get (i:=i) (by omega);have N:=Al (n:=i*2) hp;refine⟨⟨by omega,by omega⟩,hp,by omega,by omega,N,_,_,H,(HX h).call ⟨_,rfl,?_,N,hp,by omega,by omega,⟨by omega,by omega⟩,o ?_⟩⟩;·exact KK (k:=1) H (by decide)
   ·refine decide_eq_decide.2 ⟨λk=>.inr ⟨h4,by omega,?_⟩,λk=>?_⟩
    ·show Option.map (·.ty) (m.nodes[((i:Int)).toNat]?)=_;rw[xa,J];exact congrArg some k
    ·rcases k with k|⟨-,-,k⟩;·omega
     ·rw[show((i:Int)).toNat=i from rfl,J]at k;exact Option.some.inj k
  ·grind
  grind
theorem EW{t:Int}{x:Ty}{k:Nat}(o:d.types[k]?=some x)(ht:t=(k:Int)):AL d t=x.fields:=by
 grind[AL]
theorem Q9(h:Ds.Ok V d)(hm:Mm.Ok V m):PP 90 [d.v,m.v] V (.bool (BY d m)):=by
 refine QP ?_;have hn:=hm.nodes.n_eq;have hg:=hm.globals.n_eq;have hdg:=h.globals.n_eq;have hdt:=h.types.n_eq;have D:∀{V1:Mem},V=V1->¬BY d m=true->(xV (.bool false)=xV (.bool (BY d m))/\V1=V):=λe k=>⟨by simp_all,e.symm⟩;have parts:BY d m=true↔Dh d=true/\m.nodes.length<=4096/\(∀n∈m.nodes,EH d n=true)/\Ax d m d.globals m.globals=true/\∀n∈m.nodes,Ax d m (AL d n.ty) n.f=true:=by
  grind[BY]
 refine(OJ h).call ⟨_,rfl,λht=>⟨λhl=>⟨λhbig=>D rfl λk=>?_,λhbig=>?_⟩,λhl=>D rfl λk=>?_⟩,λht=>D rfl λk=>ht (parts.1 k).1⟩;·grind
 ·let PA:Nd->Bool:=λn=>EH d n&&decide ((AL d n.ty).length=n.f.length);refine AE (mk:=.bool) (b0:=false) m.nodes.length (λi V1=>V=V1/\A0 PA m.nodes i) ⟨rfl,A0.zero _ _⟩ ?_;rintro i b V1 J hi ⟨rfl,ha⟩ K;refine⟨λo=>?_,λZ=>?_⟩
  ·obtain⟨x,N,hx,hdr,I,hp,T,H⟩:=hm.nodes.get o;have hq:=Al (n:=i*2) hp;have hnx:=(hm.nodesOk x N).rows.n_eq;refine⟨hp,T,o,hq,_,_,H,λh1=>D rfl λk=>?_,λh1=>⟨λh2=>D rfl λk=>?_,λh2=>?_⟩⟩
   ·have:=(parts.1 k).2.2.1 x N;exact absurd (of_decide_eq_true this).1 (by omega)
   ·have:=(parts.1 k).2.2.1 x N;exact absurd (of_decide_eq_true this).2 (by omega)
   ·obtain⟨t,Y⟩:∃t:Nat,x.ty=(t:Int):=⟨x.ty.toNat,by omega⟩;obtain⟨y,U,hy,-,-,M,hyz,O⟩:=h.types.get (i:=t) (by omega);have hfn:=(h.typesOk y U).fields.n_eq;have X:=EW hy Y;have h1':(0:Int)<=x.ty:=by omega
    rw[Y]at h1 h2⊢;refine⟨hp,T,o,hq,_,_,H,M,by omega,by omega,Al M,_,_,O,λh3=>⟨hm.nodes.succ o,K I _ _ ⟨rfl,ha.succ hx ?_⟩⟩,λh3=>D rfl λk=>?_⟩;·grind[EH,AL]
    grind[Ax]
  have hA:=ha.all (hm.nodes.done Z).2;rw[yC]at hA;clear K ha Z hi;refine AE (mk:=.bool) (b0:=b) m.globals.length (λi V1=>V=V1/\AllI (λi v=>AQ d m (tyAt d.globals i) v) m.globals i) ⟨rfl,AllI.zero⟩ ?_;rintro i b1 V1 J hi ⟨rfl,ha⟩ K;refine⟨λo=>?_,λZ=>?_⟩
  ·obtain⟨x,N,hx,hdr,I,hp,T,H⟩:=hm.globals.get o;obtain⟨f,hfm,hf,-,-,L,hfz,A⟩:=h.globals.get (i:=i) (by omega);have hty:tyAt d.globals i=f.ty:=by grind[tyAt]
   refine⟨L,hfz,by omega,Al L,_,_,A,hp,T,o,_,H,(c103 h hm).call ⟨_,rfl,λh1=>⟨hm.globals.succ o,K I _ _ ⟨rfl,ha.succ hx (by grind)⟩⟩,λh1=>D rfl λk=>?_⟩⟩;have:=(parts.1 k).2.2.2.1;unfold Ax at this;rw[zC]at this;grind[GQ]
  have hG:=ha.all (hm.globals.done Z).2;clear K ha Z hi;refine AE (mk:=.bool) (b0:=b1) m.nodes.length (λi V1=>V=V1/\A0 (λn=>Ax d m (AL d n.ty) n.f) m.nodes i) ⟨rfl,A0.zero _ _⟩ ?_;rintro i b2 V1 J hi ⟨rfl,ha⟩ K;refine⟨λo=>?_,λZ=>?_⟩
  ·obtain⟨x,N,hx,hdr,I,hp,T,H⟩:=hm.nodes.get o;have hq:=Al (n:=i*2) hp;have hxo:=hm.nodesOk x N;have hPx:=hA x N;rw[zC,decide_eq_true_eq]at hPx;obtain⟨hP1,hP2⟩:=hPx;have hP1:=of_decide_eq_true hP1;obtain⟨t,Y⟩:∃t:Nat,x.ty=(t:Int):=⟨x.ty.toNat,by omega⟩;obtain⟨y,U,hy,-,-,M,hyz,O⟩:=h.types.get (i:=t) (by omega);have B:=(h.typesOk y U).fields;have X:=EW hy Y;refine⟨hp,T,o,hq,_,_,H,M,by rw[Y];omega,by rw[Y];omega,Al M,_,_,by rw[Y];exact O,?_⟩;rw[X]at hP2;have hxn:=hxo.rows.n_eq;have hyn:=B.n_eq;refine AE (mk:=.bool) (b0:=b2) y.fields.length (λj V1=>V=V1/\AllI (λi v=>AQ d m (tyAt y.fields i) v) x.f j) ⟨rfl,AllI.zero⟩ ?_;rintro j b3 V1 J1 hj ⟨rfl,ha1⟩ hJ1;refine⟨λR=>?_,λhge1=>⟨hm.nodes.succ o,K I _ _ ⟨rfl,ha.succ hx ?_⟩⟩⟩
   ·obtain⟨f,hfm,hf,-,hfl,L,hfz,A⟩:=B.get R;obtain⟨z,hzm,hzx,-,-,hzp,hzz,hzrow⟩:=hxo.rows.get (i:=j) (by omega);have hty:tyAt y.fields j=f.ty:=by grind[tyAt]
    refine⟨L,hfz,R,Al L,_,_,A,hp,T,o,hq,_,_,H,hzp,hzz,by omega,_,hzrow,(c103 h hm).call ⟨_,rfl,λh1=>⟨B.succ R,hJ1 hfl _ _ ⟨rfl,ha1.succ hzx (by grind)⟩⟩,λh1=>D rfl λk=>?_⟩⟩;have:=(parts.1 k).2.2.2.2 x N;unfold Ax at this;rw[zC,X]at this;grind[GQ]
   ·have:=(B.done hge1).2;unfold Ax;rw[X,ha1.all (by omega),decide_eq_true hP2];rfl
  ·have hN:=ha.all (hm.nodes.done Z).2;rw[yC]at hN;have:BY d m=true:=parts.2 ⟨ht,by omega,λn hn'=>(zC _ _▸hA n hn').1,by grind[Ax],hN⟩;simp_all
 grind[Ax]
end
end Go.Proofs
namespace Go.Proofs
open Go Go.Sx
inductive Rs where
 |ok (v:Int)
 |bad (e:Int)
deriving DecidableEq
def Rs.bind:Rs->(Int->Rs)->Rs
 |.ok v,f=>f v
 |.bad e,_=>.bad e
def CK(n:Int):Rs:=if -1099511627776<=n/\n<=1099511627776 then .ok n else .bad 5
def Er(b:Bool):Int:=if b then 1 else 0
def Bh(op a b:Int):Rs:=
 if op=9 then CK (a+b)else if op=10 then CK (a-b)else if op=11 then CK (a*b)
 else if op=22 then .ok (if a<b then b else a)else if op=23 then .ok (if b<a then b else a)
 else if op=14 then .ok (Er (decide (a=b)))else if op=15 then .ok (Er (!decide (a=b)))else if op=16 then .ok (Er (decide (a<b)))else if op=17 then .ok (Er (decide (a<=b)))
 else if b=0 then .bad 18 else if op=12 then .ok (a.tdiv b)else .ok (a.tmod b)
def Cp(l:List Fld)(s:KB):Int:=BH (λf=>decide (f.name=s)) l
def fldV(d:Ds)(m:Mm)(a:Int)(s:KB):Rs:=
 if a=0 then .bad 17 else match m.nodes[(a-1).toNat]? with
  |none=>.bad 0
  |some n=>.ok ((n.f[(Cp (AL d n.ty) s).toNat]?).getD 0)
def DE(a:Int):Int:=(Nat.log2 a.toNat:Int)
end Go.Proofs
namespace Go.Proofs
open Go Go.Sx
structure Ar (d:Ds)(m:Mm):Prop where
 valid:Bv d=true
 chk:Ct d=none
 mem:BY d m=true
def VE(e:E):Prop:=∃k,Cs k e=true
theorem VE.of_valid{e:E}(h:Bz e=true):VE e:=⟨1,(of_decide_eq_true h).1⟩
theorem okE_eq(k:Int)(e:E):Cs k e=(decide (k<=60)&&Dp e.op e.n e.s e.k.length&&okEs (k+1) e.k):=by cases e;unfold Cs;rfl
theorem okEs_all{k:Int}:∀{l:List E},okEs k l=true->∀x∈l,Cs k x=true
 |[],_,x,o=>by cases o
 |e::l,h,x,o=>by
  unfold okEs at h;rw[zC]at h;rcases yH.1 o with rfl|o;·exact h.1
  ·exact okEs_all h.2 x o
theorem VE.node{e:E}(h:VE e):Dp e.op e.n e.s e.k.length=true:=by
 obtain⟨k,h⟩:=h;simp_all[okE_eq,zC]
theorem VE.kids{e:E}(h:VE e):∀x∈e.k,VE x:=by
 obtain⟨k,h⟩:=h;rw[okE_eq,zC]at h;exact λx o=>⟨_,okEs_all h.2 x o⟩
theorem KL(d:Ds)(sc:Sc):∀(k:List E)(acc:List KB),(partsT d sc acc k).2=0->(∀x∈k,(Aw d sc x).2=0)/\(partsT d sc acc k).1=acc++k.map λx=>(Aw d sc x).1
 |[],acc,_=>by rw[ID];simp
 |x::xs,acc,h=>by
  rw[HV]at h⊢;split at h;·omega
  ·rename_i o;rw[if_neg o];obtain⟨h1,h2⟩:=KL d sc xs _ h;simp_all
theorem OK{d:Ds}{sc:Sc}{e:E}{t:KB}(h:Aw d sc e=(t,0)):(∀x∈e.k,(Aw d sc x).2=0)/\ET d sc e.op e.s (e.k.map λx=>(Aw d sc x).1)=(t,0):=by
 grind[KE,zY,absurd,partsT,KL]
theorem arityB{op n:Int}{s:KB}{l:Int}(h:Dp op n s l=true):Ce op≠-2/\(0<=Ce op->l=Ce op)/\Fl op s=true/\numB op n=true:=by
 grind[Dp]
theorem list1{α:Type}{k:List α}(h:(k.length:Int)=1):∃a,k=[a]:=by
 match k,h with
 |[a],_=>grind
 |[],h=>simp at h
 |_::_::_,h=>simp at h;omega
theorem list2{α:Type}{k:List α}(h:(k.length:Int)=2):∃a b,k=[a,b]:=by
 match k,h with
 |[a,b],_=>simp_all
 |[],h=>simp at h
 |[_],h=>simp at h
 |_::_::_::_,h=>simp at h;omega
theorem list3{α:Type}{k:List α}(h:(k.length:Int)=3):∃a b c,k=[a,b,c]:=by
 match k,h with
 |[a,b,c],_=>simp_all
 |[],h=>simp at h
 |[_],h=>simp at h
 |[_,_],h=>simp at h
 |_::_::_::_::_,h=>simp at h;omega
theorem name_kw{s:KB}(h:BR s=true):isKw s=false:=by
 grind[BR]
theorem GR{s t:KB}(h:BR s=true)(ht:isKw t=true):s≠t:=λe=>by grind[name_kw]
theorem kwNil:isKw sNil=true:=by kernel_rfl
theorem kwInt:isKw Am=true:=by kernel_rfl
theorem kwBool:isKw AC=true:=by kernel_rfl
section
variable{d:Ds}{m:Mm}
theorem validD_types(h:Bv d=true):(∀t∈d.types,BR t.name=true)/\(∀f∈d.globals,BR f.name=true)/\(∀x∈d.measures,ED x=true)/\(∀x∈d.invs,GN x=true):=by
 grind[Bv,Gd,EC,Df,fldB]
theorem JB(h:Bv d=true){s:KB}(o:Cg d s=true):BR s=true:=by
 obtain⟨t,ht,e⟩:=xp.1 o;rw[<-of_decide_eq_true e];exact(validD_types h).1 t ht
def BZ(d:Ds)(m:Mm)(t:KB)(v:Int):Prop:=if t=sNil then v=0 else AQ d m t v=true
theorem JC:sNil≠Am/\sNil≠AC/\Am≠sNil/\AC≠sNil/\Am≠AC/\AC≠Am:=by
 refine⟨of_decide_eq_false ?_,of_decide_eq_false ?_,of_decide_eq_false ?_,of_decide_eq_false ?_,of_decide_eq_false ?_,of_decide_eq_false ?_⟩<;>kernel_rfl
theorem EI{v:Int}:BZ d m Am v↔-1099511627776<=v/\v<=1099511627776:=by
 unfold BZ AQ;rw[if_neg JC.2.2.1,if_pos rfl,decide_eq_true_eq]
theorem E8{v:Int}:BZ d m AC v↔v=0∨v=1:=by
 unfold BZ AQ;rw[if_neg JC.2.2.2.1,if_neg JC.2.2.2.2.2,if_pos rfl,decide_eq_true_eq]
theorem Gg(h:Bv d=true){t:KB}(ht:Bt d t=true){v:Int}:BZ d m t v↔AQ d m t v=true:=by
 unfold BZ;rw[if_neg];intro e;subst e;unfold Bt at ht;rw[decide_eq_false JC.1,decide_eq_false JC.2.1]at ht;exact GR (JB h (by simpa using ht)) kwNil rfl
theorem OL{t:KB}(h:BR t=true):AQ d m t 0=true:=by
 unfold AQ;rw[if_neg (GR h kwInt),if_neg (GR h kwBool)];exact decide_eq_true (.inl rfl)
theorem Hr(h:Bv d=true){a b:KB}(hf:BL d a b=true){v:Int}(hv:BZ d m a v):BZ d m b v:=by
 unfold BL at hf;simp only[yx,zC,decide_eq_true_eq]at hf;rcases hf with rfl|⟨rfl,hb⟩;·exact hv
 ·have hn:=JB h hb;unfold BZ at hv⊢;rw[if_pos rfl]at hv;rw[if_neg (GR hn kwNil),hv];exact OL hn
theorem JD:∀(l:List Fld)(s:KB),Ca l s=((l.find? λf=>decide (f.name=s)).map (·.ty)).getD sE
 |[],_=>rfl
 |f::l,s=>by
  unfold Ca;rw[List.find?_cons];by_cases h:f.name=s;·simp_all
  ·rw[if_neg h,decide_eq_false h,JD l s]
theorem JE(l:List Fld)(s:KB):(Ca l s=sE/\Cp l s=-1)∨∃(i:Nat)(f:Fld),Cp l s=i/\l[i]?=some f/\Ca l s=f.ty/\f.name=s:=by
 rw[JD];unfold Cp;rcases Cu (λf:Fld=>decide (f.name=s)) l with⟨h1,h2,-⟩|⟨i,x,h1,h2,h3,-,o,-⟩;·grind
 grind
theorem GS(h:Dh d=true):C1 d d.globals=true/\(∀(i:Nat)(x:Ty),d.types[i]?=some x->Bw d x.name=(i:Int))/\∀x∈d.types,C1 d x.fields=true:=by
 unfold Dh at h;rw[zC,zC,GQ]at h;obtain⟨⟨-,h1⟩,h2⟩:=h;refine⟨h1,λi x o=>?_,λx o=>?_⟩;·grind
 ·obtain⟨i,hi,rfl⟩:=List.mem_iff_getElem.1 o;have:=h2 i _ (yi hi);simp_all
theorem BO(h:BY d m=true):Dh d=true/\m.nodes.length<=4096/\(∀n∈m.nodes,EH d n=true)/\Ax d m d.globals m.globals=true/\∀n∈m.nodes,Ax d m (AL d n.ty) n.f=true:=by
 grind[BY]
theorem KM{l:List Fld}{vs:List Int}(h:Ax d m l vs=true){i:Nat}{f:Fld}(hi:l[i]?=some f):∃v,vs[i]?=some v/\AQ d m f.ty v=true:=by
 unfold Ax at h;rw[zC,decide_eq_true_eq,GQ]at h;have hl:=(yj.1 hi).1;have hv:vs[i]?=some (vs[i]'(by omega)):=yi _;grind[tyAt]
theorem right_node{t:KB}(hn:BR t=true){a:Int}(h:AQ d m t a=true)(h0:a≠0):1<=a/\a<=(m.nodes.length:Int)/\∃n,m.nodes[(a-1).toNat]?=some n/\n∈m.nodes/\n.ty=Bw d t:=by
 unfold AQ at h;rw[if_neg (GR hn kwInt),if_neg (GR hn kwBool),decide_eq_true_eq]at h;rcases h with h|⟨h1,h2,h3⟩;·omega
 ·refine⟨h1,h2,?_⟩;cases o:m.nodes[(a-1).toNat]? with
  |none=>simp_all
  |some n=>rw[o]at h3;exact⟨n,rfl,x8 o,by simpa using h3⟩
theorem tyOf_idx{s:KB}{t:Ty}(h:Dq d s=some t):∃i:Nat,Bw d s=(i:Int)/\d.types[i]?=some t/\t.name=s/\Cg d s=true:=by
 unfold Dq at h;unfold Bw Cg;rcases Cu (λt:Ty=>decide (t.name=s)) d.types with⟨-,h2,-⟩|⟨i,x,h1,h2,h3,-,o,-,H,-⟩;·simp_all
 grind
theorem fld_ok(G:Ar d m){t s ty:KB}(ht:DD d t s=(ty,0)){a:Int}(ha:BZ d m t a)(h0:a≠0):
  ∃(n:Nd)(i j:Nat)(o:Ty)(f:Fld)(v:Int),m.nodes[(a-1).toNat]?=some n/\n∈m.nodes/\1<=a/\a<=(m.nodes.length:Int)/\n.ty=(j:Int)/\d.types[j]?=some o/\o∈d.types/\Cp o.fields s=i/\o.fields[i]?=some f/\n.f[i]?=some v/\BZ d m ty v/\fldV d m a s=.ok v/\f.ty=ty:=by
 unfold DD at ht;cases Y:Dq d t with
 |none=>simp_all
 |some o=>
  rw[Y]at ht;simp only at ht;split at ht;·simp at ht
  ·rename_i hl;simp only[zY,and_true]at ht;obtain⟨j,R,J,rfl,N⟩:=tyOf_idx Y;have Z:=JB G.valid N;have O:AQ d m o.name a=true:=by
    grind[BZ]
   obtain⟨b1,b2,n,b3,X,B⟩:=right_node Z O h0;rcases JE o.fields s with⟨D,-⟩|⟨i,f,D,c2,c3,c4⟩;·grind
   ·have A:AL d n.ty=o.fields:=EW J (B.trans R);obtain⟨p1,-,-,-,K⟩:=BO G.mem;have hv:=K n X;rw[A]at hv;obtain⟨v,I,M⟩:=KM hv c2;have H:=x8 J;have L:Bt d f.ty=true:=yC.1 ((GS p1).2.2 o H) f (x8 c2);refine⟨n,i,j,o,f,v,b3,X,b1,b2,B.trans R,J,H,D,c2,I,?_,?_,c3.symm.trans ht⟩;·rw[<-ht,c3];exact(Gg G.valid L).2 M
    simp_all[fldV,if_neg,xa]
theorem JF{α β:Type}{f:Nat->α->Option β}:∀{l:List α}{i:Nat},Ao f i l=none->∀j x,l[j]?=some x->f (i+j) x=none
 |[],_,_,j,x,o=>by simp at o
 |y::l,i,h,j,x,o=>by
  unfold Ao at h;cases H:f i y with
  |some b=>simp_all
  |none=>
   rw[H]at h;cases j with
   |zero=>simp_all
   |succ j=>rw[show i+(j+1)=i+1+j by omega];exact JF h j x (by simpa using o)
theorem IL{α:Type}{a b:Option α}(h:a.or b=none):a=none/\b=none:=by
 simp_all
end
end Go.Proofs
namespace Go.Proofs
open Go Go.Sx
section
variable{d:Ds}{m:Mm}
theorem big_ok{n v:Int}(h:CK n=.ok v):v=n/\-1099511627776<=v/\v<=1099511627776:=by
 unfold CK at h;grind
theorem trI_b(b:Bool):Er b=0∨Er b=1:=by cases b<;>simp[Er]
theorem IM{ok:Bool}{t o:KB}(h:Dr ok t=(o,0)):ok=true/\t=o:=by
 grind[Dr]
theorem tdiv_in{a b:Int}(ha:-1099511627776<=a/\a<=1099511627776):-1099511627776<=a.tdiv b/\a.tdiv b<=1099511627776:=by
 have:=Int.natAbs_tdiv_le_natAbs a b;omega
theorem tmod_in{a b:Int}(ha:-1099511627776<=a/\a<=1099511627776):-1099511627776<=a.tmod b/\a.tmod b<=1099511627776:=by
 have h1:=Int.natAbs_tmod a b;have:=Nat.mod_le a.natAbs b.natAbs;omega
theorem log_in{a:Int}(ha:a<=1099511627776):0<=DE a/\DE a<=1099511627776:=by
 grind[DE,Nat.log2,Nat.log2_le_self]
theorem allT1{t u:KB}(h:allT [t] u=true):t=u:=by simpa [allT]using h
theorem allT2{t o u:KB}(h:allT [t,o] u=true):t=u/\o=u:=by simpa [allT]using h
theorem Du{p:KB×Int}{t:KB}(h1:p.1=t)(h2:p.2=0):p=(t,0):=wA h1 h2
theorem two_ok{op a b v:Int}(h:op=9∨op=10∨op=11∨op=12∨op=13∨op=22∨op=23)(ha:-1099511627776<=a/\a<=1099511627776)(hb:-1099511627776<=b/\b<=1099511627776)(hv:Bh op a b=.ok v):-1099511627776<=v/\v<=1099511627776:=by
 unfold Bh at hv;split at hv;·exact(big_ok hv).2
 split at hv;·exact(big_ok hv).2
 split at hv;·exact(big_ok hv).2
 split at hv;·grind
 split at hv;·grind
 repeat' (split at hv;(first|omega|cases hv))
 ·exact tdiv_in ha
 ·cases hv;exact tmod_in ha
theorem twoB_ok{op a b v:Int}(h:op=14∨op=15∨op=16∨op=17)(hv:Bh op a b=.ok v):v=0∨v=1:=by
 rcases h with rfl|rfl|rfl|rfl
 ·have:Er (decide (a=b))=v:=by injection hv
  grind[trI_b]
 ·have:Er (!decide (a=b))=v:=by injection hv
  grind[trI_b]
 ·have:Er (decide (a<b))=v:=by injection hv
  grind[trI_b]
 ·have:Er (decide (a<=b))=v:=by injection hv
  grind[trI_b]
end
end Go.Proofs
namespace Go.Proofs
open Go Go.Sx
structure St where
 g:List Int
 ns:List (Int×List Int)
 tk:Nat
 cm:Nat
 lg:List (Int×Int×Int)
inductive Rx (α:Type) where
 |ok (v:α) (s:St)
 |bad (c:Int) (s:St)
def Rx.bind{α β:Type}:Rx α->(α->St->Rx β)->Rx β
 |.ok v s,f=>f v s
 |.bad c s,_=>.bad c s
def Af:Sl:=⟨none,0,0⟩
def St.mm(s:St):Mm:=⟨Af,s.g,Af,s.ns.map λn=>⟨n.1,Af,n.2⟩⟩
def St.note(s:St)(a:Int×Int×Int):St:={s with lg:=s.lg++[a]}
def GU:E:=.mk 0 0 sE Af []
def AV(d:Ds)(s:KB):Int:=BH (λt=>decide (t.name=s)) d.procs
def DM:Rs->St->Rx Int
 |.ok v,s=>.ok v s
 |.bad c,s=>.bad c s
def Dv:List (St->Rx Int)->List Int->St->Rx (List Int)
 |[],acc,st=>.ok acc st
 |f::fs,acc,st=>(f st).bind λv st=>Dv fs (acc++[v]) st
def BP(ks:List (St->Rx Int))(i:Nat):St->Rx Int:=ks.getD i λst=>.bad 0 st
def _root_.Go.Sx.Pr.vars(p:Pr):List Fld:=p.params++p.locals
def DN(b:Bool)(op:Int)(st:St):St:=if op=16∨op=17∨((op=14∨op=15)/\b=true)then{st with cm:=st.cm+1}else st
abbrev Cf:=Int->List Int->St->Rx Int
abbrev Rt:=List Int×Option Int
abbrev Sf:=Nat->Pr->List S->List Int->St->Rx Rt
def Fs(F:Nat)(st:St):Rx Unit:=if F<=st.tk then .bad 20 st else .ok () {st with tk:=st.tk+1}
section
variable(d:Ds)
def varX(p:Pr)(vals:List Int)(s:KB)(st:St):Rx Int:=
 if 0<=Cp p.vars s then .ok ((vals[(Cp p.vars s).toNat]?).getD 0) st else .ok ((st.g[(Cp d.globals s).toNat]?).getD 0) (st.note (1,0,Cp d.globals s))
def fldX(a:Int)(s:KB)(st:St):Rx Int:=
 if a=0 then .bad 17 st else match st.ns[(a-1).toNat]? with
  |none=>.bad 0 st
  |some n=>.ok ((n.2[(Cp (AL d n.1) s).toNat]?).getD 0) (st.note (1,a,Cp (AL d n.1) s))
def newX(s:KB)(st:St):Rx Int:=
 if 4096<=st.ns.length then .bad 21 st else .ok ((st.ns.length:Int)+1) {st with ns:=st.ns++[(Bw d s,yT (AL d (Bw d s)).length 0)],lg:=st.lg++[(3,(st.ns.length:Int)+1,Bw d s)]}
def intB(sc:Sc):List E->Bool
 |[]=>false
 |a::_=>decide ((Aw d sc a).1=Am)
def Dc(C:Cf)(p:Pr)(vals:List Int)(b:Bool)(op n:Int)(s:KB)(ks:List (St->Rx Int))(st:St):Rx Int:=
 if op=1∨op=2 then .ok n st else if op=3 then .ok 0 st else if op=4 then varX d p vals s st
 else if op=5 then(BP ks 0 st).bind λa st=>fldX d a s st
 else if op=6 then newX d s st
 else if op=7 then(Dv ks [] st).bind λl st=>C (AV d s) l st
 else if op=8 then(BP ks 0 st).bind λa st=>DM (CK (-a)) st
 else if op=18 then(BP ks 0 st).bind λa st=>.ok (1-a) st
 else if op=24 then(BP ks 0 st).bind λa st=>.ok (DE a) st
 else if op=19 then(BP ks 0 st).bind λa st=>if a=0 then .ok 0 st else BP ks 1 st
 else if op=20 then(BP ks 0 st).bind λa st=>if a=0 then BP ks 1 st else .ok 1 st
 else if op=21 then(BP ks 0 st).bind λa st=>if a=0 then BP ks 2 st else BP ks 1 st
 else(BP ks 0 st).bind λv st=>(BP ks 1 st).bind λw st=>DM (Bh op v w) (DN b op st)
mutual
def Dd(C:Cf)(p:Pr)(vals:List Int):E->St->Rx Int
 |.mk op n s _ k=>Dc d C p vals (intB d (Av d p) k) op n s (evXs C p vals k)
def evXs(C:Cf)(p:Pr)(vals:List Int):List E->List (St->Rx Int)
 |[]=>[]
 |e::es=>Dd C p vals e::evXs C p vals es
end
def CF(Sn:Sf)(c:Nat)(i:Int)(args:List Int)(st:St):Rx Int:=
 if 200<=c then .bad 19 st else match d.procs[i.toNat]? with
  |none=>.bad 0 st
  |some p=>(Sn (c+1) p p.body (args++yT p.locals.length 0) st).bind λr st=>.ok (r.2.getD 0) st
def setX(p:Pr)(s:KB)(v:Int)(vals:List Int)(st:St):Rx Rt:=
 if 0<=Cp p.vars s then .ok (vals.set (Cp p.vars s).toNat v,none) st else .ok (vals,none) {st with g:=st.g.set (Cp d.globals s).toNat v,lg:=st.lg++[(2,0,Cp d.globals s)]}
def putX(a v:Int)(s:KB)(st:St):Rx Unit:=
 if a=0 then .bad 17 st else match st.ns[(a-1).toNat]? with
  |none=>.bad 0 st
  |some n=>.ok () {st with ns:=st.ns.set (a-1).toNat (n.1,n.2.set (Cp (AL d n.1) s).toNat v),lg:=st.lg++[(2,a,Cp (AL d n.1) s)]}
section
variable(F:Nat)(Sn:Sf)(c:Nat)(p:Pr)
def CU(vals:List Int)(e:E)(st:St):Rx Int:=Dd d (CF d Sn c) p vals e st
def Es(cond:E)(body:List S):Nat->List Int->St->Rx Rt
 |0,_,st=>.bad 20 st
 |n+1,vals,st=>(CU d Sn c p vals cond st).bind λa st=>if a=0 then .ok (vals,none) st else(Sn c p body vals st).bind λr st=>match r.2 with
  |some _=>.ok r st
  |none=>(Fs F st).bind λ_ st=>Es cond body n r.1 st
def E9(n:Nat)(s:S)(vals:List Int)(st:St):Rx Rt:=
 if s.op=1 then(CU d Sn c p vals (s.es.getD 0 GU) st).bind λv st=>setX d p s.s v vals st
 else if s.op=2 then(CU d Sn c p vals (s.es.getD 0 GU) st).bind λa st=>(CU d Sn c p vals (s.es.getD 1 GU) st).bind λv st=>(putX d a v s.s st).bind λ_ st=>.ok (vals,none) st
 else if s.op=3 then(CU d Sn c p vals (s.es.getD 0 GU) st).bind λa st=>if a=0 then Sn c p s.xs vals st else Sn c p s.ls vals st
 else if s.op=4 then Es d F Sn c p (s.es.getD 0 GU) s.ls n vals st
 else if s.op=5 then match s.es with
  |[]=>.ok (vals,some 0) st
  |e::_=>(CU d Sn c p vals e st).bind λv st=>.ok (vals,some v) st
 else if s.op=6 then(CU d Sn c p vals (s.es.getD 0 GU) st).bind λ_ st=>.ok (vals,none) st
 else .ok (vals,none) st
def DO(n:Nat)(s:S)(vals:List Int)(st:St):Rx Rt:=(Fs F st).bind λ_ st=>E9 d F Sn c p n s vals st
end
def Ea(f:S->List Int->St->Rx Rt):List S->List Int->St->Rx Rt
 |[],vals,st=>.ok (vals,none) st
 |s::l,vals,st=>(f s vals st).bind λr st=>match r.2 with
  |some _=>.ok r st
  |none=>Ea f l r.1 st
def AW(F:Nat):Nat->Sf
 |0=>λ_ _ _ _ st=>.bad 20 st
 |n+1=>λc p l vals st=>Ea (DO d F (AW F n) c p (n+1)) l vals st
def Dw(F:Nat)(i:Int)(args:List Int)(st:St):Rx Int:=CF d (AW d F (F+1)) 0 i args st
end
variable{d:Ds}
theorem evXs_map(C:Cf)(p:Pr)(vals:List Int):∀k:List E,evXs d C p vals k=k.map (Dd d C p vals)
 |[]=>by unfold evXs;rfl
 |e::es=>by unfold evXs;rw[evXs_map C p vals es];rfl
theorem evX_eq(C:Cf)(p:Pr)(vals:List Int)(e:E)(st:St):Dd d C p vals e st=Dc d C p vals (intB d (Av d p) e.k) e.op e.n e.s (e.k.map (Dd d C p vals)) st:=by
 cases e;unfold Dd;rw[evXs_map];rfl
theorem KN{f:E->St->Rx Int}{k:List E}{i:Nat}{e:E}(h:k[i]?=some e):BP (k.map f) i=f e:=by
 grind[BP]
section
variable{C:Cf}{p:Pr}{vals:List Int}{b:Bool}{op n:Int}{s:KB}{ks:List (St->Rx Int)}{st:St}
theorem IN(h:op=1∨op=2):Dc d C p vals b op n s ks st=.ok n st:=by rcases h with rfl|rfl<;>rfl
theorem MD(h:op=3):Dc d C p vals b op n s ks st=.ok 0 st:=by subst h;rfl
theorem ME(h:op=4):Dc d C p vals b op n s ks st=varX d p vals s st:=by subst h;rfl
theorem KO(h:op=5):Dc d C p vals b op n s ks st=(BP ks 0 st).bind λa st=>fldX d a s st:=by subst h;rfl
theorem MF(h:op=6):Dc d C p vals b op n s ks st=newX d s st:=by subst h;rfl
theorem IP(h:op=7):Dc d C p vals b op n s ks st=(Dv ks [] st).bind λl st=>C (AV d s) l st:=by subst h;rfl
theorem KP(h:op=8):Dc d C p vals b op n s ks st=(BP ks 0 st).bind λa st=>DM (CK (-a)) st:=by subst h;rfl
theorem cX18(h:op=18):Dc d C p vals b op n s ks st=(BP ks 0 st).bind λa st=>.ok (1-a) st:=by subst h;rfl
theorem cX24(h:op=24):Dc d C p vals b op n s ks st=(BP ks 0 st).bind λa st=>.ok (DE a) st:=by subst h;rfl
theorem cX19(h:op=19):Dc d C p vals b op n s ks st=(BP ks 0 st).bind λa st=>if a=0 then .ok 0 st else BP ks 1 st:=by subst h;rfl
theorem cX20(h:op=20):Dc d C p vals b op n s ks st=(BP ks 0 st).bind λa st=>if a=0 then BP ks 1 st else .ok 1 st:=by subst h;rfl
theorem cX21(h:op=21):Dc d C p vals b op n s ks st=(BP ks 0 st).bind λa st=>if a=0 then BP ks 2 st else BP ks 1 st:=by subst h;rfl
theorem Gh(h:9<=op/\op<=23/\op≠18/\op≠19/\op≠20/\op≠21):Dc d C p vals b op n s ks st=(BP ks 0 st).bind λv st=>(BP ks 1 st).bind λw st=>DM (Bh op v w) (DN b op st):=by
 grind[Dc]
end
end Go.Proofs
namespace Go.Proofs
open Go Go.Sx
section
variable{d:Ds}{sc:Sc}{e:E}{p:Pr}
structure CallK (d:Ds)(sc:Sc)(e:E)(pr:Pr)(i:Nat):Prop where
 idx:AV d e.s=i
 at_:d.procs[i]?=some pr
 len:e.k.length=pr.params.length
 fit:∀(j:Nat) a f,e.k[j]?=some a->pr.params[j]?=some f->∃u,Aw d sc a=(u,0)/\BL d u f.ty=true
theorem fitAll_at:∀{l:List KB}{fs:List Fld},DL d l fs=true->∀(j:Nat) a f,l[j]?=some a->fs[j]?=some f->BL d a f.ty=true
 |[],_,_,j,a,f,h,_=>by simp at h
 |_::_,[],_,j,a,f,_,h=>by simp at h
 |b::l,g::fs,h,j,a,f,h1,h2=>by
  unfold DL at h;rw[zC]at h;cases j with
  |zero=>simp_all
  |succ j=>exact fitAll_at h.2 j a f (by simpa using h1) (by simpa using h2)
theorem callT_ok{s t:KB}{l:List KB}(h:En d s l=(t,0)):∃(pr:Pr)(i:Nat),AV d s=i/\d.procs[i]?=some pr/\l.length=pr.params.length/\DL d l pr.params=true/\t=pr.result:=by
 unfold En Ch at h;unfold AV;rcases Cu (λx:Pr=>decide (x.name=s)) d.procs with⟨-,o,-⟩|⟨i,pr,q1,o,q3,-⟩;·simp_all
 grind
theorem callK_of(hk:∀x∈e.k,(Aw d sc x).2=0){t:KB}(h:En d e.s (e.k.map λx=>(Aw d sc x).1)=(t,0)):∃pr i,CallK d sc e pr i/\t=pr.result:=by
 obtain⟨pr,i,h1,h2,h3,h4,o⟩:=callT_ok h;refine⟨pr,i,⟨h1,h2,by simpa using h3,λj a f ha hf=>⟨(Aw d sc a).1,Du rfl (hk a (x8 ha)),fitAll_at h4 j _ f (by simp[ha]) hf⟩⟩,o⟩
inductive DU (d:Ds)(sc:Sc)(e:E):KB->Prop where
 |int (h:e.op=1) (hn:0<=e.n/\e.n<=1099511627776):DU d sc e Am
 |bool (h:e.op=2) (hn:e.n=0∨e.n=1):DU d sc e AC
 |nil (h:e.op=3) (hn:e.n=0):DU d sc e sNil
 |var {t} (h:e.op=4) (hl:Ca sc.vars e.s=t) (hne:t≠sE):DU d sc e t
 |fld {t u} {a:E} (h:e.op=5) (hk:e.k=[a]) (ha:Aw d sc a=(u,0)) (ht:DD d u e.s=(t,0)):DU d sc e t
 |new (h:e.op=6) (hn:Cg d e.s=true):DU d sc e e.s
 |call {pr:Pr} {i:Nat} (h:e.op=7) (hc:CallK d sc e pr i) (hr:pr.result≠sE):DU d sc e pr.result
 |neg {a:E} (h:e.op=8) (hk:e.k=[a]) (ha:Aw d sc a=(Am,0)):DU d sc e Am
 |not {a:E} (h:e.op=18) (hk:e.k=[a]) (ha:Aw d sc a=(AC,0)):DU d sc e AC
 |log {a:E} (h:e.op=24) (hk:e.k=[a]) (ha:Aw d sc a=(Am,0)):DU d sc e Am
 |and {a b:E} (h:e.op=19) (hk:e.k=[a,b]) (ha:Aw d sc a=(AC,0)) (hb:Aw d sc b=(AC,0)):DU d sc e AC
 |or {a b:E} (h:e.op=20) (hk:e.k=[a,b]) (ha:Aw d sc a=(AC,0)) (hb:Aw d sc b=(AC,0)):DU d sc e AC
 |cond {a b c:E} {t u w} (h:e.op=21) (hk:e.k=[a,b,c]) (ha:Aw d sc a=(AC,0)) (hb:Aw d sc b=(u,0)) (hc:Aw d sc c=(w,0)) (hu:u=t∨BL d u t=true) (hw:w=t∨BL d w t=true) (ht:t=if u=sNil then w else u):DU d sc e t
 |eq {a b:E} {u w} (h:e.op=14∨e.op=15) (hk:e.k=[a,b]) (ha:Aw d sc a=(u,0)) (hb:Aw d sc b=(w,0)) (hf:BL d u w=true∨BL d w u=true):DU d sc e AC
 |cmp {a b:E} (h:e.op=16∨e.op=17) (hk:e.k=[a,b]) (ha:Aw d sc a=(Am,0)) (hb:Aw d sc b=(Am,0)):DU d sc e AC
 |ari {a b:E} (h:e.op=9∨e.op=10∨e.op=11∨e.op=12∨e.op=13∨e.op=22∨e.op=23) (hk:e.k=[a,b]) (ha:Aw d sc a=(Am,0)) (hb:Aw d sc b=(Am,0)):DU d sc e Am
theorem kindX(R:sc.body=true){t:KB}(hv:VE e)(ht:Aw d sc e=(t,0)):DU d sc e t:=by
 obtain⟨hk,hn⟩:=OK ht;obtain⟨a1,a2,a3,J⟩:=arityB hv.node;unfold ET at hn;unfold numB at J;have one:Ce e.op=1->∃a,e.k=[a]:=λh=>list1 ((a2 (by omega)).trans h);have N:Ce e.op=2->∃a b,e.k=[a,b]:=λh=>list2 ((a2 (by omega)).trans h);have I:Ce e.op=3->∃a b c,e.k=[a,b,c]:=λh=>list3 ((a2 (by omega)).trans h);by_cases h1:e.op=1
 ·rw[if_pos h1]at hn J;cases hn;exact .int h1 (of_decide_eq_true J)
 rw[if_neg h1]at hn J;by_cases h2:e.op=2
 ·rw[if_pos h2]at hn J;cases hn;exact .bool h2 (of_decide_eq_true J)
 rw[if_neg h2]at hn J;have J:e.n=0:=of_decide_eq_true J;by_cases h3:e.op=3
 ·rw[if_pos h3]at hn;cases hn;exact .nil h3 J
 rw[if_neg h3]at hn;by_cases h4:e.op=4
 ·rw[if_pos h4]at hn;split at hn;·simp at hn
  ·rename_i hne;simp only[zY,and_true]at hn;exact .var h4 hn (hn▸hne)
 rw[if_neg h4]at hn;by_cases X:e.op=5
 ·obtain⟨a,ha⟩:=one (by rw[X];rfl);rw[if_pos X,ha]at hn;rw[ha]at hk;exact .fld X ha (Du rfl (hk a (by simp))) hn
 rw[if_neg X]at hn;by_cases B:e.op=6
 ·rw[if_pos B,if_neg (by rw[R];decide)]at hn;split at hn;·simp at hn
  ·rename_i D;simp only[zY,and_true]at hn;subst hn;exact .new B (by simpa using D)
 rw[if_neg B]at hn;by_cases K:e.op=7
 ·rw[if_pos K]at hn;unfold FN at hn;rw[if_pos R]at hn;split at hn;·simp at hn
  ·rename_i hne;obtain⟨pr,i,hc,rfl⟩:=callK_of hk hn;exact .call K hc λh=>hne ⟨by rw[hn],by rw[hn];exact h⟩
 rw[if_neg K]at hn;by_cases Z:e.op=14∨e.op=15
 ·obtain⟨a,b,o⟩:=N (by rcases Z with h|h<;>(rw[h];rfl));rw[if_pos Z,o]at hn;rw[o]at hk;obtain⟨g,rfl⟩:=IM hn;exact .eq Z o (Du rfl (hk a (by simp))) (Du rfl (hk b (by simp))) (by simpa using g)
 rw[if_neg Z]at hn;by_cases Y:e.op=16∨e.op=17
 ·obtain⟨a,b,o⟩:=N (by rcases Y with h|h<;>(rw[h];rfl));rw[if_pos Y,o]at hn;rw[o]at hk;obtain⟨g,rfl⟩:=IM hn;obtain⟨L,O⟩:=allT2 g;exact .cmp Y o (Du L (hk a (by simp))) (Du O (hk b (by simp)))
 rw[if_neg Y]at hn;by_cases M:e.op=18∨e.op=19∨e.op=20
 ·rw[if_pos M]at hn;rcases M with h|h
  ·obtain⟨a,ha⟩:=one (by rw[h];rfl);rw[ha]at hn hk;obtain⟨g,rfl⟩:=IM hn;exact .not h ha (Du (allT1 g) (hk a (by simp)))
  ·obtain⟨a,b,o⟩:=N (by rcases h with h|h<;>(rw[h];rfl));rw[o]at hn hk;obtain⟨g,rfl⟩:=IM hn;obtain⟨L,O⟩:=allT2 g;rcases h with h|h;·exact .and h o (Du L (hk a (by simp))) (Du O (hk b (by simp)))
   ·exact .or h o (Du L (hk a (by simp))) (Du O (hk b (by simp)))
 rw[if_neg M]at hn;by_cases A:e.op=21
 ·obtain⟨a,b,c,H⟩:=I (by rw[A];rfl);rw[if_pos A,H]at hn;rw[H]at hk;obtain⟨g,O⟩:=IM hn;simp only[zH,wB,wC,wD,zC,decide_eq_true_eq,yx]at g O;refine .cond A H (Du g.1 (hk a (by simp))) (Du rfl (hk b (by simp))) (Du rfl (hk c (by simp))) ?_ ?_ O.symm;·grind[inr,BL]
  grind[BL,absurd,inr]
 rw[if_neg A]at hn;obtain⟨g,rfl⟩:=IM hn;have T:e.op=8∨e.op=24∨(e.op=9∨e.op=10∨e.op=11∨e.op=12∨e.op=13∨e.op=22∨e.op=23):=by
  grind[Ce]
 rcases T with h|h|h
 ·obtain⟨a,ha⟩:=one (by rw[h];rfl);rw[ha]at g hk;exact .neg h ha (Du (allT1 g) (hk a (by simp)))
 ·obtain⟨a,ha⟩:=one (by rw[h];rfl);rw[ha]at g hk;exact .log h ha (Du (allT1 g) (hk a (by simp)))
 ·obtain⟨a,b,o⟩:=N (by rcases h with h|h|h|h|h|h|h<;>(rw[h];rfl));rw[o]at g hk;obtain⟨L,O⟩:=allT2 g;exact .ari h o (Du L (hk a (by simp))) (Du O (hk b (by simp)))
def Et(d:Ds)(p:Pr)(s:S):Prop:=(∃n,(stT d (Av d p) p.result n s).2=0)/\∃k,El k s=true
theorem KR{res:KB}:∀{l:List S}{n:Int},(AF d sc res n l).2=0->∀s∈l,∃n',(stT d sc res n' s).2=0
 |[],_,_,s,o=>by cases o
 |x::l,n,h,s,o=>by
  rw[KF]at h;split at h;·omega
  ·rename_i H;rcases yH.1 o with rfl|o;·grind
   ·exact KR h s o
theorem KS{k:Int}:∀{l:List S},CD k l=true->∀s∈l,El k s=true
 |[],_,s,o=>by cases o
 |x::l,h,s,o=>by
  unfold CD at h;rw[zC]at h;rcases yH.1 o with rfl|o;·exact h.1
  ·exact KS h.2 s o
theorem okS_eq(k:Int)(s:S):El k s=(decide (k<=60)&&Db s.op s.s s.es s.ls.length s.xs.length&&CD (k+1) s.ls&&CD (k+1) s.xs):=by cases s;unfold El;rfl
theorem Et.parts{s:S}(h:Et d p s):D9 d (Av d p) p.result s.op s.s s.es=0/\GM s.op s.s s.es s.ls.length s.xs.length=true/\(∀e∈s.es,Bz e=true)/\(∀x∈s.ls,Et d p x)/\∀x∈s.xs,Et d p x:=by
 obtain⟨⟨n,h1⟩,k,h2⟩:=h;rw[okS_eq]at h2;simp only[zC]at h2;obtain⟨⟨⟨-,h3⟩,h4⟩,H⟩:=h2;unfold Db at h3;rw[zC,yC]at h3;rw[stT_eq]at h1;split at h1;·omega
 ·rename_i J;split at h1;·omega
  ·rename_i N;exact⟨by simpa using J,h3.1,h3.2,λx o=>⟨KR (by simpa using N) x o,_,KS h4 x o⟩,λx o=>⟨KR h1 x o,_,KS H x o⟩⟩
inductive KindS (d:Ds)(p:Pr)(s:S):Prop where
 |set {e:E} {u t:KB} (h:s.op=1) (he:s.es=[e]) (hv:Bz e=true) (ht:Aw d (Av d p) e=(u,0)) (hl:Ca (Av d p).vars s.s=t) (hne:t≠sE) (hf:BL d u t=true)
 |put {a e:E} {u w t:KB} (h:s.op=2) (he:s.es=[a,e]) (hv:Bz a=true) (hw:Bz e=true) (ha:Aw d (Av d p) a=(u,0)) (ht:Aw d (Av d p) e=(w,0)) (hl:DD d u s.s=(t,0)) (hf:BL d w t=true)
 |cond {e:E} (h:s.op=3) (he:s.es=[e]) (hv:Bz e=true) (ht:Aw d (Av d p) e=(AC,0))
 |loop {e:E} (h:s.op=4) (he:s.es=[e]) (hv:Bz e=true) (ht:Aw d (Av d p) e=(AC,0))
 |ret0 (h:s.op=5) (he:s.es=[]) (hr:p.result=sE)
 |ret1 {e:E} {u:KB} (h:s.op=5) (he:s.es=[e]) (hv:Bz e=true) (ht:Aw d (Av d p) e=(u,0)) (hr:p.result≠sE) (hf:BL d u p.result=true)
 |call {e:E} {pr:Pr} {i:Nat} (h:s.op=6) (he:s.es=[e]) (hv:Bz e=true) (ho:e.op=7) (hc:CallK d (Av d p) e pr i)
theorem kindS{s:S}(h:Et d p s):KindS d p s:=by
 obtain⟨h1,h2,h3,-⟩:=h.parts;unfold D9 at h1;unfold GM at h2;by_cases J:s.op=6
 ·rw[if_pos J]at h1;rw[if_neg (by omega),if_neg (by omega),if_neg (by omega),if_neg (by omega),if_neg (by omega),if_pos J]at h2;obtain⟨-,h4,L,-⟩:=of_decide_eq_true h2;obtain⟨e,he⟩:=list1 h4;rw[he]at h1 L;simp only at h1;split at h1;·omega
  ·rename_i A;obtain⟨o,I⟩:=KL d (Av d p) e.k [] (by simpa using A);rw[I,wE]at h1;obtain⟨pr,i,hc,-⟩:=callK_of (t:=(En d e.s (e.k.map λx=>(Aw d (Av d p) x).1)).1) o (wA rfl h1);exact .call J he (h3 e (by rw[he];simp)) L hc
 rw[if_neg J]at h1;split at h1;·omega
 rename_i A;obtain⟨o,I⟩:=KL d (Av d p) s.es [] (by simpa using A);rw[I,wE]at h1;have ty:∀{e:E},e∈s.es->Aw d (Av d p) e=((Aw d (Av d p) e).1,0):=λhe=>Du rfl (o _ he);by_cases N:s.op=1
 ·rw[if_pos N]at h1;rw[if_pos N,zC]at h2;obtain⟨e,he⟩:=list1 (of_decide_eq_true h2.2).1;have hm:e∈s.es:=by rw[he];simp
  split at h1;·cases h1
  rename_i hne;split at h1
  ·rename_i hf;rw[he]at hf;exact .set N he (h3 e hm) (ty hm) rfl hne hf
  ·cases h1
 rw[if_neg N]at h1 h2;by_cases Z:s.op=2
 ·rw[if_pos Z]at h1;rw[if_pos Z,zC]at h2;obtain⟨a,e,he⟩:=list2 (of_decide_eq_true h2.2).1;have hm:a∈s.es:=by rw[he];simp
  have H:e∈s.es:=by rw[he];simp
  split at h1;·omega
  rename_i h4;split at h1
  ·rename_i hf;rw[he]at hf h4;simp only[zH,wC,wD]at hf h4;exact .put Z he (h3 a hm) (h3 e H) (ty hm) (ty H) (wA rfl (by simpa using h4)) hf
  ·cases h1
 rw[if_neg Z]at h1 h2;by_cases Y:s.op=3
 ·rw[if_pos (.inl Y)]at h1;rw[if_pos Y]at h2;obtain⟨e,he⟩:=list1 (of_decide_eq_true h2).2;have hm:e∈s.es:=by rw[he];simp
  split at h1
  ·rename_i hf;rw[he]at hf;exact .cond Y he (h3 e hm) (Du hf (o e hm))
  ·cases h1
 rw[if_neg Y]at h2;by_cases O:s.op=4
 ·rw[if_pos (.inr O)]at h1;rw[if_pos O]at h2;obtain⟨e,he⟩:=list1 (of_decide_eq_true h2).2.1;have hm:e∈s.es:=by rw[he];simp
  split at h1
  ·rename_i hf;rw[he]at hf;exact .loop O he (h3 e hm) (Du hf (o e hm))
  ·cases h1
 rw[if_neg (by omega)]at h1;rw[if_neg O]at h2;by_cases M:s.op=5
 ·rw[if_pos M]at h1 h2;obtain⟨-,hl,-⟩:=of_decide_eq_true h2;cases he:s.es with
  |nil=>
   rw[he]at h1;simp only[wB,wF,if_true]at h1;split at h1;·rename_i hr;exact .ret0 M he hr
   ·cases h1
  |cons e r=>
   have hr:r=[]:=by
    grind
   subst hr;have hm:e∈s.es:=by rw[he];simp
   rw[he]at h1;simp only[zH,wB,zo,wF,wC]at h1;rw[if_neg (by omega)]at h1;split at h1;·rename_i hf;exact .ret1 M he (h3 e hm) (ty hm) hf.1 hf.2
   ·cases h1
 simp_all
structure Eb (d:Ds)(p:Pr):Prop where
 body:∀s∈p.body,Et d p s
 vars:∀f∈p.vars,Bt d f.ty=true
 res:p.result=sE∨Bt d p.result=true
 lens:p.params.length<=6/\p.locals.length<=12
theorem oneT_known{l:List Fld}{i:Nat}{f:Fld}(h:BN d l i f=0):Bt d f.ty=true:=by
 grind[BN]
theorem declT_known{l:List Fld}(h:Cw d l=0):∀f∈l,Bt d f.ty=true:=by
 intro f hf;obtain⟨i,hi⟩:=wG.1 hf;unfold Cw at h;cases H:Ao (λi f=>if BN d l i f≠0 then some (BN d l i f)else none) 0 l with
 |none=>
  grind[JF,oneT_known]
 |some b=>
  exfalso;rw[H]at h;simp only[Option.getD_some]at h;subst h;have key:∀(o:List Fld)(i:Nat),Ao (λi f=>if BN d l i f≠0 then some (BN d l i f)else none) i o≠some 0:=by
   intro o;induction o with
   |nil=>intro i h;cases h
   |cons x o J=>
    grind[Ao,BN]
  exact key l 0 H
theorem KT(hv:Bv d=true)(hc:Ct d=none):∀p∈d.procs,Eb d p:=by
 intro p hp;obtain⟨i,hi⟩:=wG.1 hp;unfold Ct at hc;obtain⟨-,h⟩:=IL hc;obtain⟨Z,h⟩:=IL h;obtain⟨-,h⟩:=IL h;obtain⟨hb,-⟩:=IL h;unfold E5 at Z;unfold E6 at hb;have a1:=JF Z i p hi;have a2:=JF hb i p hi;unfold Bv at hv;simp only[zC,yC]at hv;have o:=hv.1.2 p hp;unfold DK at o;simp only[zC]at o;obtain⟨⟨⟨⟨-,H⟩,f2⟩,-⟩,Y⟩:=o;unfold Df at H f2;rw[zC,decide_eq_true_eq]at H f2;have O:=H.1;have A:=f2.1;refine⟨λs J=>⟨?_,1,KS (of_decide_eq_true Y).1 s J⟩,?_,?_,by omega,by omega⟩;·grind[KR]
 ·split at a1;·cases a1
  split at a1;·cases a1
  rename_i N;have N:Cw d (p.params++p.locals)=0:=by simpa using N
  exact declT_known N
 grind
end
end Go.Proofs
namespace Go.Proofs
open Go Go.Sx
section
variable{d:Ds}{F:Nat}
def Rx.st{α:Type}:Rx α->St|.ok _ s=>s|.bad _ s=>s
inductive LgOk:Nat->List (Int×Int×Int)->Nat->Prop where
 |nil (n:Nat):LgOk n [] n
 |acc {n m:Nat} {k a f:Int} {l:List (Int×Int×Int)} (hk:k=1∨k=2) (h0:0<=a) (h1:a<=(n:Int)) (h2:0<=f) (h:LgOk n l m):LgOk n ((k,a,f)::l) m
 |alloc {n m:Nat} {f:Int} {l:List (Int×Int×Int)} (h2:0<=f) (h:LgOk (n+1) l m):LgOk n ((3,(n:Int)+1,f)::l) m
theorem LgOk.app{n m k:Nat}{l o:List (Int×Int×Int)}(h:LgOk n l m)(H:LgOk m o k):LgOk n (l++o) k:=by
 induction h with
 |nil=>exact H
 |acc a b c d _ J=>grind[acc]
 |alloc a _ J=>exact .alloc a (J H)
abbrev Gm:=List Int×List (Int×List Int)
inductive Ec:Gm->List (Int×Int×Int)->Gm->Prop where
 |nil (x:Gm):Ec x [] x
 |rd {x y:Gm} {l:List (Int×Int×Int)} {n f:Int} (h:Ec x l y):Ec x ((1,n,f)::l) y
 |wg {g:List Int} {ns:List (Int×List Int)} {y:Gm} {l:List (Int×Int×Int)} {i:Nat} {v:Int} (hi:i<g.length) (h:Ec (g.set i v,ns) l y):Ec (g,ns) ((2,0,(i:Int))::l) y
 |wf {g:List Int} {ns:List (Int×List Int)} {y:Gm} {l:List (Int×Int×Int)} {k i:Nat} {ty v:Int} {f:List Int} (hk:ns[k]?=some (ty,f)) (hi:i<f.length) (h:Ec (g,ns.set k (ty,f.set i v)) l y):Ec (g,ns) ((2,(k:Int)+1,(i:Int))::l) y
 |al {g:List Int} {ns:List (Int×List Int)} {y:Gm} {l:List (Int×Int×Int)} {ty:Int} {n:Nat} (h:Ec (g,ns++[(ty,yT n 0)]) l y):Ec (g,ns) ((3,(ns.length:Int)+1,ty)::l) y
theorem Ec.app{x y z:Gm}{l H:List (Int×Int×Int)}(h:Ec x l y)(k:Ec y H z):Ec x (l++H) z:=by
 induction h with
 |nil=>exact k
 |rd _ o=>exact .rd (o k)
 |wg hi _ o=>exact .wg hi (o k)
 |wf hk hi _ o=>grind[wf]
 |al _ o=>exact .al (o k)
structure Gr (F n:Nat)(s s':St):Prop where
 ty:∀(i:Nat) x,s.ns[i]?=some x->∃y,s'.ns[i]?=some y/\y.1=x.1
 tk:s.tk<=s'.tk
 fu:s.tk<=F->s'.tk<=F
 lg:∃l,s'.lg=s.lg++l/\LgOk s.ns.length l s'.ns.length/\((∀a∈l,a.1=1)->s'.g=s.g/\s'.ns=s.ns)
 w:s'.lg.length+s'.cm+4000*s.tk<=s.lg.length+s.cm+n+4000*s'.tk
 tr:∃l,s'.lg=s.lg++l/\Ec (s.g,s.ns) l (s'.g,s'.ns)
theorem Gr.refl(s:St):Gr F 0 s s:=⟨λ_ x h=>⟨x,h,rfl⟩,yq _,λh=>h,⟨[],by simp,.nil _,λ_=>⟨rfl,rfl⟩⟩,by omega,⟨[],by simp,.nil _⟩⟩
theorem Gr.trans{n m:Nat}{a b c:St}(h:Gr F n a b)(k:Gr F m b c):Gr F (n+m) a c:=⟨λi x Z=>by
 obtain⟨y,h1,h2⟩:=h.ty i x Z;obtain⟨z,h3,h4⟩:=k.ty i y h1;simp_all,wH h.tk k.tk,λe=>k.fu (h.fu e),by
 obtain⟨l,Y,H,A⟩:=h.lg;obtain⟨J,N,o,O⟩:=k.lg;refine⟨l++J,by simp_all,H.app o,λha=>?_⟩;simp_all,by have:=h.w;have:=k.w;omega,by
 obtain⟨l,Y,H⟩:=h.tr;obtain⟨J,N,o⟩:=k.tr;exact⟨l++J,by simp_all,H.app o⟩⟩
theorem Gr.le{n m:Nat}{a b:St}(h:Gr F n a b)(hn:n<=m):Gr F m a b:=⟨h.ty,h.tk,h.fu,h.lg,by have:=h.w;omega,h.tr⟩
theorem Gr.len{n:Nat}{a b:St}(h:Gr F n a b):a.ns.length<=b.ns.length:=by
 cases hk:a.ns.length with
 |zero=>omega
 |succ k=>
  obtain⟨y,o,-⟩:=h.ty k _ (yi (by omega));grind
theorem H3{s:St}{i:Nat}:s.mm.nodes[i]?=(s.ns[i]?).map λn=>⟨n.1,Af,n.2⟩:=xI ..
theorem IQ{s:St}:s.mm.nodes.length=s.ns.length:=wI ..
theorem MG{m m':Mm}(hl:m.nodes.length<=m'.nodes.length)(hn:∀(i:Nat) x,m.nodes[i]?=some x->∃y,m'.nodes[i]?=some y/\y.ty=x.ty){t:KB}{v:Int}(h:AQ d m t v=true):AQ d m' t v=true:=by
 unfold AQ at h⊢;split;·simp_all
 rename_i h1;rw[if_neg h1]at h;split;·simp_all
 rename_i h2;rw[if_neg h2,decide_eq_true_eq]at h;refine decide_eq_true ?_;rcases h with h|⟨p1,p2,p3⟩;·exact .inl h
 ·refine .inr ⟨p1,by omega,?_⟩;cases o:m.nodes[(v-1).toNat]? with
  |none=>simp_all
  |some x=>
   rw[o]at p3;obtain⟨y,H,J⟩:=hn _ _ o;simp_all
theorem Gr.right{n:Nat}{a b:St}(h:Gr F n a b){t:KB}{v:Int}(hr:AQ d a.mm t v=true):AQ d b.mm t v=true:=by
 refine MG (m:=a.mm) (by rw[IQ,IQ];exact h.len) (λi x o=>?_) hr;rw[H3]at o;cases H:a.ns[i]? with
 |none=>simp_all
 |some y=>
  rw[H]at o;cases o;obtain⟨z,J,N⟩:=h.ty i y H;simp_all[Af,H3]
theorem Gr.val{n:Nat}{a b:St}(h:Gr F n a b){t:KB}{v:Int}(hr:BZ d a.mm t v):BZ d b.mm t v:=by
 unfold BZ at hr⊢;split;·simp_all
 ·rename_i h1;rw[if_neg h1]at hr;exact h.right hr
theorem Ci{m:Mm}{l:List Fld}{vs:List Int}:Ax d m l vs=true↔l.length=vs.length/\∀(j:Nat) f v,l[j]?=some f->vs[j]?=some v->AQ d m f.ty v=true:=by
 unfold Ax;rw[zC,decide_eq_true_eq,GQ];grind[tyAt]
theorem Cb{m m':Mm}(hr:∀{t v},AQ d m t v=true->AQ d m' t v=true){l:List Fld}{vs:List Int}(h:Ax d m l vs=true):Ax d m' l vs=true:=by
 grind[Ci]
theorem MH{m:Mm}{l:List Fld}{vs:List Int}(h:Ax d m l vs=true){i:Nat}{f:Fld}(hf:l[i]?=some f){v:Int}(hv:AQ d m f.ty v=true):Ax d m l (vs.set i v)=true:=by
 grind[Ci,wJ]
theorem OM(hv:Bv d=true){m:Mm}{t:KB}(h:Bt d t=true):AQ d m t 0=true:=by
 unfold Bt at h;simp only[yx,decide_eq_true_eq]at h;rcases h with(rfl|rfl)|h;·rfl
 ·rfl
 ·exact OL (JB hv h)
theorem KU(hv:Bv d=true){m:Mm}{l:List Fld}(h:∀f∈l,Bt d f.ty=true):Ax d m l (yT l.length 0)=true:=by
 grind[Ci,OM,x8]
theorem JG{m:Mm}{l H:List Fld}{vs o:List Int}(h:Ax d m l vs=true)(J:Ax d m H o=true):Ax d m (l++H) (vs++o)=true:=by
 grind[Ci,zI,wK,List.getElem?_append_right]
theorem KV{m:Mm}(h1:Dh d=true)(h2:m.nodes.length<=4096)(h3:∀n∈m.nodes,EH d n=true)(h4:Ax d m d.globals m.globals=true)(o:∀n∈m.nodes,Ax d m (AL d n.ty) n.f=true):BY d m=true:=by
 grind[BY]
structure AR {α:Type}(d:Ds)(F n:Nat)(s:St)(r:Rx α)(Q:α->St->Prop):Prop where
 good:Ar d r.st.mm
 gr:Gr F n s r.st
 q:∀v s',r=.ok v s'->Q v s'
section
variable{α β:Type}{n m:Nat}{s:St}{r:Rx α}{Q:α->St->Prop}
theorem AR.ok{v:α}(G:Ar d s.mm)(h:Q v s):AR d F 0 s (.ok v s) Q:=⟨G,Gr.refl s,λ_ _ e=>by cases e;exact h⟩
theorem AR.bad{c:Int}(G:Ar d s.mm):AR d F 0 s (.bad c s:Rx α) Q:=⟨G,Gr.refl s,λ_ _ e=>by cases e⟩
theorem AR.le(h:AR d F n s r Q)(hn:n<=m):AR d F m s r Q:=⟨h.good,h.gr.le hn,h.q⟩
theorem AR.mono{o:α->St->Prop}(h:AR d F n s r Q)(k:∀v s',r=.ok v s'->Q v s'->o v s'):AR d F n s r o:=⟨h.good,h.gr,λv s' e=>k v s' e (h.q v s' e)⟩
theorem AR.bind{f:α->St->Rx β}{o:β->St->Prop}(h:AR d F n s r Q)(k:∀v s',r=.ok v s'->Q v s'->Ar d s'.mm->Gr F n s s'->AR d F m s' (f v s') o):AR d F (n+m) s (r.bind f) o:=by
 cases r with
 |ok v s'=>
  have H:=k v s' rfl (h.q v s' rfl) h.good h.gr;exact⟨H.good,h.gr.trans H.gr,H.q⟩
 |bad c s'=>exact⟨h.good,h.gr.le (by omega),λ_ _ e=>by cases e⟩
end
section
variable{s:St}(G:Ar d s.mm)
include G
omit G in
theorem KW{n:Nat}{r:Rs}{s':St}(o:Ar d s'.mm)(g:Gr F n s s'){Q:Int->St->Prop}(h:∀v,r=.ok v->Q v s'):AR d F n s (DM r s') Q:=by
 cases r with
 |ok v=>exact⟨o,g,λ_ _ e=>by cases e;exact h v rfl⟩
 |bad c=>exact⟨o,g,λ_ _ e=>by cases e⟩
theorem H5{p:Pr}{vals:List Int}(hv:Ax d s.mm p.vars vals=true)(P:∀f∈p.vars,Bt d f.ty=true){nm t:KB}(hl:Ca (Av d p).vars nm=t)(hne:t≠sE):
  (∃(i:Nat)(f:Fld)(v:Int),Cp p.vars nm=i/\p.vars[i]?=some f/\vals[i]?=some v/\f.ty=t/\BZ d s.mm t v/\varX d p vals nm s=.ok v s)∨
  ∃(i:Nat)(f:Fld)(v:Int),Cp p.vars nm=-1/\Cp d.globals nm=i/\d.globals[i]?=some f/\s.g[i]?=some v/\f.ty=t/\BZ d s.mm t v/\varX d p vals nm s=.ok v (s.note (1,0,i)):=by
 obtain⟨p1,-,-,Z,-⟩:=BO G.mem;have hl:Ca (p.vars++d.globals) nm=t:=hl;have app:∀(a b:List Fld),Ca (a++b) nm=if 0<=Cp a nm then Ca a nm else Ca b nm:=λa b=>by
  rw[JD,JD,JD,List.find?_append];unfold Cp;rcases Cu (λf:Fld=>decide (f.name=nm)) a with⟨h1,h2,-⟩|⟨i,x,h1,-,h3,-⟩;·grind
  simp_all
 rw[app]at hl;by_cases h0:0<=Cp p.vars nm
 ·left;rw[if_pos h0]at hl;rcases JE p.vars nm with⟨J,-⟩|⟨i,f,J,c2,c3,-⟩;·simp_all
  ·obtain⟨v,o,H⟩:=KM hv c2;have e:f.ty=t:=c3.symm.trans hl;refine⟨i,f,v,J,c2,o,e,?_,?_⟩;·rw[<-e];exact(Gg G.valid (P f (x8 c2))).2 H
   grind[varX]
 ·right;rw[if_neg h0]at hl;rcases JE d.globals nm with⟨J,-⟩|⟨i,f,J,c2,c3,-⟩;·simp_all
  ·obtain⟨v,o,H⟩:=KM Z c2;have e:f.ty=t:=c3.symm.trans hl;have N:Bt d f.ty=true:=yC.1 (GS p1).1 f (x8 c2);refine⟨i,f,v,?_,J,c2,o,e,?_,?_⟩
   ·rcases JE p.vars nm with⟨-,c⟩|⟨j,_,c,-⟩;·exact c
    omega
   ·rw[<-e];exact(Gg G.valid N).2 H
   ·unfold varX;rw[if_neg h0,J,xa];have o:s.g[i]?=some v:=o;rw[o];rfl
theorem IS{t nm ty:KB}(ht:DD d t nm=(ty,0)){a:Int}(ha:BZ d s.mm t a)(h0:a≠0):
  ∃(q i j:Nat)(o:Ty)(f:Fld)(fs:List Int)(v:Int),a=(q:Int)+1/\s.ns[q]?=some ((j:Int),fs)/\d.types[j]?=some o/\o∈d.types/\AL d j=o.fields/\Cp o.fields nm=i/\o.fields[i]?=some f/\fs[i]?=some v/\BZ d s.mm ty v/\f.ty=ty/\Bt d ty=true:=by
 obtain⟨n,i,j,o,f,v,b1,-,b3,A,O,b6,b7,b8,b9,J,N,-,H⟩:=fld_ok G ht ha h0;obtain⟨q,rfl⟩:∃q:Nat,a=(q:Int)+1:=⟨(a-1).toNat,by omega⟩;rw[show((q:Int)+1-1).toNat=q by omega,H3]at b1;cases Y:s.ns[q]? with
 |none=>simp_all
 |some x=>
  rw[Y]at b1;cases b1;obtain⟨p1,-⟩:=BO G.mem;have Z:Bt d f.ty=true:=yC.1 ((GS p1).2.2 o b7) f (x8 b9);exact⟨q,i,j,o,f,x.2,v,rfl,by rw[Y,<-O],b6,b7,EW b6 rfl,b8,b9,J,N,H,H▸Z⟩
omit G in
theorem gr_note{a f:Int}(h0:0<=a)(h1:a<=(s.ns.length:Int))(h2:0<=f):Gr F 1 s (s.note (1,a,f)):=⟨λ_ x h=>⟨x,h,rfl⟩,yq _,λh=>h,⟨[(1,a,f)],rfl,.acc (.inl rfl) h0 h1 h2 (.nil _),λ_=>⟨rfl,rfl⟩⟩,by show(s.lg++[_]).length+_+_<=_;rw[zI,yI];show s.lg.length+1+s.cm+4000*s.tk<=s.lg.length+s.cm+1+4000*s.tk;omega,⟨[(1,a,f)],rfl,.rd (.nil _)⟩⟩
omit G in
theorem gr_cnt{b:Bool}{op:Int}:Gr F 1 s (DN b op s):=by
 unfold DN;split;·exact⟨λ_ x h=>⟨x,h,rfl⟩,yq _,λh=>h,⟨[],by simp,.nil _,λ_=>⟨rfl,rfl⟩⟩,by grind,⟨[],by simp,.nil _⟩⟩
 ·exact(Gr.refl s).le (by omega)
theorem MI{b:Bool}{op:Int}:Ar d (DN b op s).mm:=by
 unfold DN;split;·exact⟨G.valid,G.chk,G.mem⟩
 ·exact G
theorem new_snd{nm:KB}(hn:Cg d nm=true):AR d F 1 s (newX d nm s) λv s'=>BZ d s'.mm nm v:=by
 unfold newX;split;·exact(AR.bad G).le (by omega)
 rename_i M;obtain⟨p1,D,p3,L,R⟩:=BO G.mem;have o:=JB G.valid hn;obtain⟨N,Y,Z⟩:=xp.1 hn;have Z:N.name=nm:=of_decide_eq_true Z;obtain⟨j,I⟩:=wG.1 Y;have O:Bw d nm=(j:Int):=Z▸(GS p1).2.1 j N I;have X:=(yj.1 I).1;rw[O];have A:AL d (j:Int)=N.fields:=EW I rfl;rw[A];obtain⟨s',J⟩:∃s':St,s'={s with ns:=s.ns++[((j:Int),yT N.fields.length 0)],lg:=s.lg++[(3,(s.ns.length:Int)+1,(j:Int))]}:=⟨_,rfl⟩;rw[<-J];have g:Gr F 1 s s':=by
  rw[J];refine⟨λi x K=>⟨x,?_,rfl⟩,yq _,λh=>h,⟨[_],rfl,.alloc (by omega) ?_,λh=>(by simp_all)⟩,?_,⟨[_],rfl,.al (.nil _)⟩⟩;·grind
  ·grind[LgOk,zI,yI]
  grind
 have H:s'.mm.nodes=s.mm.nodes++[⟨(j:Int),Af,yT N.fields.length 0⟩]:=by rw[J];simp[St.mm]
 have B:Ar d s'.mm:=by
  refine⟨G.valid,G.chk,KV p1 ?_ (λn hm=>?_) ?_ λn hm=>?_⟩;·grind[zI,yI,IQ]
  ·rw[H]at hm;rcases wL.1 hm with hm|hm;·exact p3 n hm
   ·rw[zR.1 hm];exact decide_eq_true ⟨by simp_all,by simp_all⟩
  ·have:s'.mm.globals=s.mm.globals:=by rw[J];rfl
   rw[this];exact Cb (λh=>g.right h) L
  ·rw[H]at hm;rcases wL.1 hm with hm|hm;·exact Cb (λh=>g.right h) (R n hm)
   ·rw[zR.1 hm];show Ax d s'.mm (AL d (j:Int)) (yT N.fields.length 0)=true;rw[A];exact KU G.valid λf hf=>yC.1 ((GS p1).2.2 N Y) f hf
 refine⟨B,g,λv T e=>?_⟩;cases e;unfold BZ AQ;rw[if_neg (GR o kwNil),if_neg (GR o kwInt),if_neg (GR o kwBool),decide_eq_true_eq];grind[inr,zI,yI,IQ,Int,List.getElem?_concat_length]
end
def CSnd(d:Ds)(F:Nat)(C:Cf):Prop:=∀(i:Nat) pr args s,d.procs[i]?=some pr->Ar d s.mm->Ax d s.mm pr.params args=true->AR d F 0 s (C i args s) λv s'=>pr.result≠sE->BZ d s'.mm pr.result v
theorem szEs_sum:∀l:List E,szEs l=(l.map AB).sum
 |[]=>by unfold szEs;rfl
 |e::l=>by unfold szEs;rw[szEs_sum l];rfl
theorem szE_eq(e:E):AB e=1+(e.k.map AB).sum:=by cases e;unfold AB;rw[szEs_sum];rfl
theorem seq_snd{sc:Sc}{f:E->St->Rx Int}:∀(k:List E)(fs:List Fld)(acc:List Int)(gs:List Fld)(s:St),Ar d s.mm->Ax d s.mm gs acc=true->k.length=fs.length->(∀f∈fs,Bt d f.ty=true)->
  (∀(j:Nat) a g,k[j]?=some a->fs[j]?=some g->∃u,Aw d sc a=(u,0)/\BL d u g.ty=true)->
  (∀a∈k,∀(u:KB)(o:St)(n:Nat),Aw d sc a=(u,0)->Ar d o.mm->Gr F n s o->AR d F (AB a) o (f a o) λv s'=>BZ d s'.mm u v)->
  AR d F (k.map AB).sum s (Dv (k.map f) acc s) λl s'=>Ax d s'.mm (gs++fs) l=true
 |[],fs,acc,gs,s,G,ha,hl,_,_,_=>by
  obtain rfl:fs=[]:=xH (by grind);rw[wM];exact AR.ok G ha
 |a::k,fs,acc,gs,s,G,ha,hl,J,ht,H=>by
  cases fs with
  |nil=>simp at hl
  |cons g fs=>
   obtain⟨u,hu,N⟩:=ht 0 a g rfl rfl;have h1:=H a yA u s 0 hu G (Gr.refl s);rw[zH,zH,List.sum_cons];show AR d F _ s ((f a s).bind λv st=>Dv (k.map f) (acc++[v]) st) _;refine h1.bind λv o _ hv O Y=>?_;have A:=(Gg G.valid (J g yA)).1 (Hr G.valid N hv);have Z:Ax d o.mm (gs++[g]) (acc++[v])=true:=JG (Cb (λh=>Y.right h) ha) (Ci.2 ⟨rfl,λj f w hf hw=>by
    grind⟩)
   have:=seq_snd k fs (acc++[v]) (gs++[g]) o O Z (by simpa using hl) (λf hf=>J f (yB _ hf)) (λj a g ha I=>ht (j+1) a g (by simpa using ha) (by simpa using I)) (λb hb u M n hu L R=>H b (yB _ hb) u M _ hu L (Y.trans R));simp_all
theorem KY(hp:∀p∈d.procs,Eb d p){i:Nat}{pr:Pr}(h:d.procs[i]?=some pr):∀f∈pr.params,Bt d f.ty=true:=λf hf=>(hp pr (x8 h)).vars f (List.mem_append_left _ hf)
theorem IT(hp:∀p∈d.procs,Eb d p){C:Cf}(B:CSnd d F C){p:Pr}(hpo:Eb d p){vals:List Int}:
  ∀(e:E)(t:KB)(s:St),VE e->Aw d (Av d p) e=(t,0)->Ar d s.mm->Ax d s.mm p.vars vals=true->AR d F (AB e) s (Dd d C p vals e s) λv s'=>BZ d s'.mm t v:=by
 intro e;induction e using E.ind with
 |h e D=>
 intro t s hv ht G Z;rw[evX_eq,szE_eq];have I:∀{a:E}{u:KB}{N:St}{n:Nat},a∈e.k->Aw d (Av d p) a=(u,0)->Ar d N.mm->Gr F n s N->AR d F (AB a) N (Dd d C p vals a N) λv s'=>BZ d s'.mm u v:=λhm ha o J=>D _ hm _ _ (hv.kids _ hm) ha o (Cb (λh=>J.right h) Z);have K:∀{i:Nat}{a:E},e.k[i]?=some a->BP (e.k.map (Dd d C p vals)) i=Dd d C p vals a:=λh=>KN h;have b0:∀{v:Int},v=0∨v=1->BZ d s.mm AC v:=λh=>E8.2 h;cases kindX (sc:=Av d p) rfl hv ht with
 |int h hn=>rw[IN (.inl h)];exact(AR.ok G (EI.2 (by omega))).le (by omega)
 |bool h hn=>rw[IN (.inr h)];exact(AR.ok G (E8.2 (by omega))).le (by omega)
 |nil h hn=>rw[MD h];exact(AR.ok G (by rfl)).le (by omega)
 |var h hl hne=>
  rw[ME h];rcases H5 G Z hpo.vars hl hne with⟨i,f,v,-,-,-,-,O,A⟩|⟨i,f,v,-,-,-,-,-,O,A⟩;·rw[A];exact(AR.ok G O).le (by omega)
  ·rw[A];exact⟨⟨G.valid,G.chk,G.mem⟩,(gr_note (by omega) (by omega) (by omega)).le (by omega),λ_ _ e=>by cases e;exact O⟩
 |@fld _ u a h hk ha hf=>
  rw[KO h,K (i:=0) (by rw[hk];rfl),hk];refine((I (by rw[hk];simp) ha G (Gr.refl s)).bind (m:=1) λv N _ H o J=>?_).le (by simp<;>omega);unfold fldX;by_cases h0:v=0;·rw[if_pos h0];exact(AR.bad o).le (by omega)
  ·rw[if_neg h0];obtain⟨q,i,j,tt,f,fs,w,rfl,h2,h3,-,O,A,h7,T,U,-⟩:=IS o hf H h0;rw[show((q:Int)+1-1).toNat=q by omega,h2];simp only;rw[O,A,xa,T];exact⟨⟨o.valid,o.chk,o.mem⟩,gr_note (by omega) (by grind) (by omega),λ_ _ e=>by cases e;exact U⟩
 |new h hn=>rw[MF h];exact(new_snd G hn).le (by omega)
 |@call pr i h hc hr=>
  rw[IP h,hc.idx];refine((seq_snd e.k pr.params [] [] s G (Ci.2 ⟨rfl,λj f v h=>by simp at h⟩) hc.len (KY hp hc.at_) hc.fit (λa hm u N n hu o J=>I hm hu o J)).bind (m:=0) λl N _ hl o J=>?_).le (by omega);exact(B i pr l N hc.at_ o hl).mono λv s' _ h=>h hr
 |@neg a h hk ha=>
  rw[KP h,K (i:=0) (by rw[hk];rfl),hk];refine((I (by rw[hk];simp) ha G (Gr.refl s)).bind (m:=0) λv N _ H o J=>KW o (Gr.refl N) λw hw=>EI.2 (big_ok hw).2).le (by simp<;>omega)
 |@not a h hk ha=>
  rw[cX18 h,K (i:=0) (by rw[hk];rfl),hk];refine((I (by rw[hk];simp) ha G (Gr.refl s)).bind (m:=0) λv N _ H o J=>AR.ok o ?_).le (by simp<;>omega);grind[E8]
 |@log a h hk ha=>
  rw[cX24 h,K (i:=0) (by rw[hk];rfl),hk];refine((I (by rw[hk];simp) ha G (Gr.refl s)).bind (m:=0) λv N _ H o J=>AR.ok o ?_).le (by simp<;>omega);have:=log_in (a:=v) (EI.1 H).2;exact EI.2 (by omega)
 |@and a b h hk ha hb=>
  rw[cX19 h,K (i:=0) (by rw[hk];rfl),K (i:=1) (by rw[hk];rfl)];refine((I (by rw[hk];simp) ha G (Gr.refl s)).bind (m:=AB b) λv N _ H o J=>?_).le (by simp_all);split;·exact(AR.ok o (E8.2 (.inl rfl))).le (by omega)
  grind
 |@or a b h hk ha hb=>
  rw[cX20 h,K (i:=0) (by rw[hk];rfl),K (i:=1) (by rw[hk];rfl)];refine((I (by rw[hk];simp) ha G (Gr.refl s)).bind (m:=AB b) λv N _ H o J=>?_).le (by simp_all);split;·grind
  ·exact(AR.ok o (E8.2 (.inr rfl))).le (by omega)
 |@cond a b c _ u w h hk ha hb hc hu hw _=>
  rw[cX21 h,K (i:=0) (by rw[hk];rfl),K (i:=1) (by rw[hk];rfl),K (i:=2) (by rw[hk];rfl)];refine((I (by rw[hk];simp) ha G (Gr.refl s)).bind (m:=AB b+AB c) λv N _ H o J=>?_).le (by simp_all);split
  ·exact((I (by rw[hk];simp) hc o J).mono λv s' _ h=>by
    rcases hw with rfl|hw;·exact h
    ·exact Hr G.valid hw h).le (by omega)
  ·exact((I (by rw[hk];simp) hb o J).mono λv s' _ h=>by
    rcases hu with rfl|hu;·exact h
    ·exact Hr G.valid hu h).le (by omega)
 |@eq a b u w h hk ha hb _=>
  rw[Gh (by omega),K (i:=0) (by rw[hk];rfl),K (i:=1) (by rw[hk];rfl)];refine((I (by rw[hk];simp) ha G (Gr.refl s)).bind (m:=AB b+1) λv N _ H o J=>(I (by rw[hk];simp) hb o J).bind (m:=1) λz R _ Y M X=>KW (MI M) gr_cnt λx L=>E8.2 (twoB_ok (by omega) L)).le (by grind)
 |@cmp a b h hk ha hb=>
  rw[Gh (by omega),K (i:=0) (by rw[hk];rfl),K (i:=1) (by rw[hk];rfl)];refine((I (by rw[hk];simp) ha G (Gr.refl s)).bind (m:=AB b+1) λv N _ H o J=>(I (by rw[hk];simp) hb o J).bind (m:=1) λz R _ Y M X=>KW (MI M) gr_cnt λx L=>E8.2 (twoB_ok (by omega) L)).le (by grind)
 |@ari a b h hk ha hb=>
  rw[Gh (by omega),K (i:=0) (by rw[hk];rfl),K (i:=1) (by rw[hk];rfl)];refine((I (by rw[hk];simp) ha G (Gr.refl s)).bind (m:=AB b+1) λv N _ H o J=>(I (by rw[hk];simp) hb o J).bind (m:=1) λz R _ Y M X=>KW (MI M) gr_cnt λx L=>EI.2 (two_ok h (EI.1 H) (EI.1 Y) L)).le (by grind)
end
end Go.Proofs
namespace Go.Proofs
open Go Go.Sx
section
variable{d:Ds}{F:Nat}
theorem GV{e:E}(h:Bz e=true):VE e/\AB e<=1000:=⟨VE.of_valid h,(of_decide_eq_true h).2⟩
def RtOk(d:Ds)(p:Pr)(r:Rt)(s:St):Prop:=Ax d s.mm p.vars r.1=true/\∀v,r.2=some v->p.result≠sE->BZ d s.mm p.result v
def SSnd(d:Ds)(F:Nat)(Sn:Sf):Prop:=∀c p l vals s,Eb d p->(∀x∈l,Et d p x)->Ar d s.mm->Ax d s.mm p.vars vals=true->AR d F 0 s (Sn c p l vals s) λr s'=>RtOk d p r s'
theorem H9(hp:∀p∈d.procs,Eb d p){Sn:Sf}(hS:SSnd d F Sn)(c:Nat):CSnd d F (CF d Sn c):=by
 intro i pr args s o G ha;unfold CF;split;·exact AR.bad G
 rw[xa,o];simp only;have hpo:=hp pr (x8 o);refine(hS (c+1) pr pr.body _ s hpo hpo.body G (JG ha (KU G.valid λf hf=>hpo.vars f (List.mem_append_right _ hf)))).bind (m:=0) λr J _ hr H N=>AR.ok H λhne=>?_;cases h:r.2 with
 |some v=>exact hr.2 v h hne
 |none=>
  have hk:=hpo.res.resolve_left hne;exact(Gg G.valid hk).2 (OM G.valid hk)
theorem Gr.tick{n:Nat}{s s':St}(h:Gr F n {s with tk:=s.tk+1} s')(hn:n<=4000)(o:s.tk<F):Gr F 0 s s':=
 ⟨h.ty,wH (Nat.le_succ _) h.tk,λ_=>h.fu o,h.lg,by have h:=h.w;grind,h.tr⟩
theorem AR.tick{α:Type}{n:Nat}{s:St}{f:Unit->St->Rx α}{Q:α->St->Prop}(G:Ar d s.mm)(h:Ar d ({s with tk:=s.tk+1}:St).mm->AR d F n {s with tk:=s.tk+1} (f () {s with tk:=s.tk+1}) Q)(hn:n<=4000):AR d F 0 s ((Fs F s).bind f) Q:=by
 unfold Fs;split;·exact AR.bad G
 ·rename_i o;have H:=h ⟨G.valid,G.chk,G.mem⟩;exact⟨H.good,H.gr.tick hn (by omega),H.q⟩
section
variable{Sn:Sf}{c:Nat}{p:Pr}(hp:∀p∈d.procs,Eb d p)(hS:SSnd d F Sn)(hpo:Eb d p)
include hp hS hpo
theorem GW{vals:List Int}{e:E}{t:KB}{s:St}(hv:Bz e=true)(ht:Aw d (Av d p) e=(t,0))(G:Ar d s.mm)(o:Ax d s.mm p.vars vals=true):AR d F 1000 s (CU d Sn c p vals e s) λv s'=>BZ d s'.mm t v:=
 (IT hp (H9 hp hS c) hpo e t s (GV hv).1 ht G o).le (GV hv).2
theorem wh_snd{cond:E}{body:List S}(hv:Bz cond=true)(ht:Aw d (Av d p) cond=(AC,0))(hb:∀x∈body,Et d p x):∀(n:Nat)(vals:List Int)(s:St),Ar d s.mm->Ax d s.mm p.vars vals=true->AR d F 1000 s (Es d F Sn c p cond body n vals s) λr s'=>RtOk d p r s'
 |0,vals,s,G,_=>by unfold Es;exact(AR.bad G).le (by omega)
 |n+1,vals,s,G,o=>by
  rw[Es];refine((GW hp hS hpo hv ht G o).bind (m:=0) λv Z _ _ H Y=>?_).le (by omega);have J:=Cb (λh=>Y.right h) o;split;·exact AR.ok H ⟨J,λ_ h=>by cases h⟩
  ·refine((hS c p body vals Z hpo hb H J).bind (m:=0) λr A _ hr N I=>?_).le (by omega);split;·exact AR.ok N hr
   ·exact AR.tick (n:=1000) N (λO=>wh_snd hv ht hb n r.1 _ O hr.1) (by omega)
theorem body_snd{n:Nat}{x:S}(X:Et d p x){vals:List Int}{s:St}(G:Ar d s.mm)(o:Ax d s.mm p.vars vals=true):AR d F 2001 s (E9 d F Sn c p n x vals s) λr s'=>RtOk d p r s':=by
 unfold E9;obtain⟨p1,p2,p3,p4,p5⟩:=BO G.mem;cases kindS X with
 |@set e u t h he hv ht hl hne hf=>
  rw[if_pos h,he,wC];refine((GW hp hS hpo hv ht G o).bind (m:=1) λv H _ N J Z=>?_).le (by omega);have O:=Cb (λh=>Z.right h) o;have A:=Hr G.valid hf N;unfold setX;rcases H5 J O hpo.vars hl hne with⟨i,f,w,q1,B,q3,q4,-⟩|⟨i,f,w,q0,q1,B,q3,q4,-⟩
  ·rw[if_pos (by omega),q1,xa];have hr:AQ d H.mm f.ty v=true:=(Gg G.valid (hpo.vars f (x8 B))).1 (q4▸A);exact(AR.ok J ⟨MH O B hr,λ_ h=>by cases h⟩).le (by omega)
  ·rw[if_neg (by omega),q1,xa];obtain⟨o1,o2,o3,o4,o5⟩:=BO J.mem;have hr:AQ d H.mm f.ty v=true:=(Gg G.valid (yC.1 (GS o1).1 f (x8 B))).1 (q4▸A);have M:Ar d ({H with g:=H.g.set i v,lg:=H.lg++[(2,0,(i:Int))]}:St).mm:=⟨G.valid,G.chk,KV o1 o2 o3 (MH (m:=H.mm) (vs:=H.g) o4 B hr) o5⟩;exact⟨M,⟨λ_ x h=>⟨x,h,rfl⟩,yq _,λh=>h,⟨[_],rfl,.acc (.inr rfl) (by omega) (by omega) (by omega) (.nil _),λh=>(by simp_all)⟩,by show(H.lg++[_]).length+_+_<=_;rw[zI,yI];show H.lg.length+1+H.cm+4000*H.tk<=H.lg.length+H.cm+1+4000*H.tk;omega,⟨[_],rfl,.wg (yj.1 q3).1 (.nil _)⟩⟩,λ_ _ e=>by cases e;exact⟨O,λ_ h=>by cases h⟩⟩
 |@put a e u w t h he hv hw ha ht hl hf=>
  rw[if_neg (by omega),if_pos h,he,wC,wD,wC];refine((GW hp hS hpo hv ha G o).bind (m:=1001) λx1 H _ N J Z=>?_).le (by omega);have O:=Cb (λh=>Z.right h) o;refine((GW hp hS hpo hw ht J O).bind (m:=1) λx2 Y _ A M g2=>?_).le (by omega);have v2:=Cb (λh=>g2.right h) O;have ha2:=g2.val N;unfold putX;by_cases h0:x1=0;·rw[if_pos h0];exact(AR.bad M).le (by omega)
  rw[if_neg h0];obtain⟨q,i,j,tt,f,fs,y,rfl,D,e3,e4,e5,e6,e7,e8,e9,K,e11⟩:=IS M hl ha2 h0;rw[show((q:Int)+1-1).toNat=q by omega,D];simp only;rw[e5,e6,xa];obtain⟨o1,o2,o3,o4,o5⟩:=BO M.mem;have hr:AQ d Y.mm f.ty x2=true:=(Gg G.valid (K▸e11)).1 (K▸Hr G.valid hf A);have hql:=(yj.1 D).1;obtain⟨L,I⟩:∃L:St,L={Y with ns:=Y.ns.set q ((j:Int),fs.set i x2),lg:=Y.lg++[(2,(q:Int)+1,(i:Int))]}:=⟨_,rfl⟩;have T:Gr F 1 Y L:=by
   rw[I];refine⟨λk x hk=>?_,yq _,λh=>h,⟨[_],rfl,.acc (.inr rfl) (by omega) (by omega) (by omega) ?_,λh=>(by simp_all)⟩,?_,⟨[_],rfl,.wf D (yj.1 e8).1 (.nil _)⟩⟩;·grind
   ·grind[LgOk,wJ]
   grind
  have U:L.mm.nodes=Y.mm.nodes.set q ⟨(j:Int),Af,fs.set i x2⟩:=by rw[I];simp[St.mm,wN]
  have G3:Ar d L.mm:=by
   refine⟨G.valid,G.chk,KV o1 ?_ (λn hm=>?_) ?_ λn hm=>?_⟩;·simp_all
   ·rw[U]at hm;rcases wO hm with hm|rfl;·exact o3 n hm
    ·exact o3 (⟨(j:Int),Af,fs⟩) (x8 (i:=q) (by rw[H3,D];rfl))
   ·have:L.mm.globals=Y.mm.globals:=by rw[I];rfl
    rw[this];exact Cb (λh=>T.right h) o4
   ·rw[U]at hm;rcases wO hm with hm|rfl;·exact Cb (λh=>T.right h) (o5 n hm)
    ·have:=o5 (⟨(j:Int),Af,fs⟩) (x8 (i:=q) (by rw[H3,D];rfl));have this:Ax d Y.mm (AL d (j:Int)) fs=true:=this;show Ax d L.mm (AL d (j:Int)) (fs.set i x2)=true;rw[e5]at this⊢;exact Cb (λh=>T.right h) (MH this e7 hr)
  rw[<-I];exact⟨G3,T,λ_ _ e=>by cases e;exact⟨Cb (λh=>T.right h) v2,λ_ h=>by cases h⟩⟩
 |@cond e h he hv ht=>
  rw[if_neg (by omega),if_neg (by omega),if_pos h,he,wC];refine((GW hp hS hpo hv ht G o).bind (m:=0) λv H _ N J Z=>?_).le (by omega);have O:=Cb (λh=>Z.right h) o;obtain⟨-,-,-,hl,X⟩:=X.parts;split;·exact hS c p _ vals H hpo X J O
  ·exact hS c p _ vals H hpo hl J O
 |@loop e h he hv ht=>
  rw[if_neg (by omega),if_neg (by omega),if_neg (by omega),if_pos h,he,wC];exact(wh_snd hp hS hpo hv ht X.parts.2.2.2.1 n vals s G o).le (by omega)
 |ret0 h he hr=>
  rw[if_neg (by omega),if_neg (by omega),if_neg (by omega),if_neg (by omega),if_pos h,he];exact(AR.ok G ⟨o,λ_ _ k=>absurd hr k⟩).le (by omega)
 |@ret1 e u h he hv ht hr hf=>
  rw[if_neg (by omega),if_neg (by omega),if_neg (by omega),if_neg (by omega),if_pos h,he];refine((GW hp hS hpo hv ht G o).bind (m:=0) λv H _ N J Z=>?_).le (by omega);exact AR.ok J ⟨Cb (λh=>Z.right h) o,λw h _=>by cases h;exact Hr G.valid hf N⟩
 |@call e pr i h he hv ho hc=>
  rw[if_neg (by omega),if_neg (by omega),if_neg (by omega),if_neg (by omega),if_neg (by omega),if_pos h,he,wC];unfold CU;rw[evX_eq,IP ho,hc.idx];have hV:=(GV hv).1;have hsz:=(GV hv).2;rw[szE_eq]at hsz;refine(((seq_snd e.k pr.params [] [] s G (Ci.2 ⟨rfl,λj f v h=>by simp at h⟩) hc.len (KY hp hc.at_) hc.fit (λa hm u H n hu J Z=>IT hp (H9 hp hS c) hpo a u H (hV.kids a hm) hu J (Cb (λh=>Z.right h) o))).bind (m:=0) λl H _ hl J Z=>?_).bind (m:=0) (Q:=λ_ s'=>Ax d s'.mm p.vars vals=true) λ_ Y _ hq M g2=>AR.ok M ⟨hq,λ_ h=>by cases h⟩).le (by omega);have R:=H9 hp hS c i pr l H hc.at_ J hl;refine⟨R.good,R.gr,λv Y e=>?_⟩;have:=Cb (λh=>R.gr.right h) (Cb (λh=>Z.right h) o);rw[e]at this;exact this
theorem st_snd{n:Nat}{x:S}(H:Et d p x){vals:List Int}{s:St}(G:Ar d s.mm)(o:Ax d s.mm p.vars vals=true):AR d F 0 s (DO d F Sn c p n x vals s) λr s'=>RtOk d p r s':=by
 unfold DO;exact AR.tick (n:=2001) G (λJ=>body_snd hp hS hpo H J o) (by omega)
end
theorem list_snd{p:Pr}{f:S->List Int->St->Rx Rt}:∀(l:List S)(vals:List Int)(s:St),(∀x∈l,∀vals s,Ar d s.mm->Ax d s.mm p.vars vals=true->AR d F 0 s (f x vals s) λr s'=>RtOk d p r s')->Ar d s.mm->Ax d s.mm p.vars vals=true->AR d F 0 s (Ea f l vals s) λr s'=>RtOk d p r s'
 |[],vals,s,_,G,hv=>by unfold Ea;exact AR.ok G ⟨hv,λ_ h=>by cases h⟩
 |x::l,vals,s,H,G,hv=>by
  rw[Ea];refine(H x yA vals s G hv).bind (m:=0) λr J _ hr o Z=>?_;split;·exact AR.ok o hr
  ·exact list_snd l r.1 J (λy N=>H y (yB _ N)) o hr.1
theorem Gi(hp:∀p∈d.procs,Eb d p):∀n,SSnd d F (AW d F n)
 |0=>λ_ _ _ _ _ _ _ G _=>AR.bad G
 |n+1=>λc p l vals s hpo hl G hv=>list_snd l vals s (λ_ o _ _ G hv=>st_snd hp (Gi hp n) hpo (hl _ o) G hv) G hv
theorem play_snd(hp:∀p∈d.procs,Eb d p){i:Nat}{pr:Pr}{args:List Int}{s:St}(h:d.procs[i]?=some pr)(G:Ar d s.mm)(ha:Ax d s.mm pr.params args=true):AR d F 0 s (Dw d F i args s) λv s'=>pr.result≠sE->BZ d s'.mm pr.result v:=
 H9 hp (Gi hp (F+1)) 0 i pr args s h G ha
end
end Go.Proofs
namespace Go.Sx
open Go
open Classical
section
variable{P:Program}{V0 V1 V:Mem}{e:TypeId}{sz:Nat}{s:Sl}{vs:List Value}
def AP(s:Sl)(c:Nat):Prop:=s.c≠0/\s.p=some ⟨c,0,none⟩
noncomputable def Mem.but(V:Mem)(s:Sl):Mem:=λc=>if AP s c then none else V c
theorem Mem.but_sub(V:Mem)(s:Sl):(V.but s).sub V:=λc o h=>by
 grind[Mem.but]
theorem Mem.but_at{c:Nat}{o:Obj}(h:V c=some o)(hn:¬AP s c):V.but s c=some o:=by
 grind[Mem.but]
theorem Own.cases0(h:Own V0 V e sz s vs):(s.n=0/\s.c=0/\vs=[])∨(s.c≠0/\∃g cur,s.p=some ⟨g,0,none⟩/\V0 g=none/\V g=some (.cells cur e (0,0))/\s.n<=s.c/\s.c<=maxLen/\cur.size=s.c*sz/\cur.toList.take (s.n*sz)=vs):=by
 rcases h.at_ with h1|⟨g,cur,h1,h2,h3,h4,o⟩;·exact .inl h1
 ·by_cases hc:s.c=0;·simp_all
  simp_all
theorem Own.but(h:Own V0 V e sz s vs):Own (V.but s) V e sz s vs:=by
 refine⟨Mem.but_sub V s,h.len,?_⟩;rcases h.cases0 with h1|⟨hc,g,cur,h1,h2,h3⟩;·exact .inl h1
 ·refine .inr ⟨g,cur,h1,?_,h3⟩;unfold Mem.but;rw[if_pos ⟨hc,h1⟩]
theorem Own.apart(h:Own V0 V e sz s vs){c:Nat}(hc:∀cur,V c≠some (.cells cur e (0,0))):¬AP s c:=by
 rintro⟨h0,hp⟩;rcases h.cases0 with⟨-,h1,-⟩|⟨-,g,cur,h1,h2,h3,-⟩;·exact h0 h1
 simp_all
theorem Own.apart0(h:Own V0 V e sz s vs){c:Nat}{o:Obj}(hc:V0 c=some o):¬AP s c:=by
 rintro⟨h0,hp⟩;rcases h.cases0 with⟨-,h1,-⟩|⟨-,g,cur,h1,h2,-⟩;·exact h0 h1
 simp_all
theorem Own.apartN(h:Own V0 V e sz s vs){c:Nat}(hc:V c=none):¬AP s c:=h.apart λcur=>by rw[hc];nofun
theorem Own.sub_but(h:Own V0 V e sz s vs):V0.sub (V.but s):=λ_ _ hc=>Mem.but_at (h.sub _ _ hc) (h.apart0 hc)
theorem Own.narrow(h:Own V1 V e sz s vs)(H:V0.sub V1):Own V0 V e sz s vs:=⟨H.trans h.sub,h.len,by
 rcases h.at_ with h1|⟨g,cur,h1,h2,h3⟩;·exact .inl h1
 ·refine .inr ⟨g,cur,h1,?_,h3⟩;cases J:V0 g with
  |none=>rfl
  |some o=>rw[H _ _ J]at h2;cases h2⟩
theorem ON(k:Int):∀(es:List MapEntry)(i:Nat),(∀e∈es,∃n,e.key=.int .i64 n)->
  yc (.int .i64) (.int .i64 k) es i=some ((es.findIdx? λe=>decide (e.key=.int .i64 k)).bind λj=>(es[j]?).map λe=>(i+j,e.val))
 |[],_,_=>rfl
 |e::es,i,h=>by
  obtain⟨s,H⟩:=h e (by simp);have J:=ON k es (i+1) λx N=>h x (by simp[N]);unfold yc;simp only[H,Instr.sameNow,List.findIdx?_cons];by_cases hk:k=s;·grind
  ·have o:¬s=k:=λe=>hk e.symm;simp only[J];have hb:(k==s)=false:=by simpa using hk
   cases Z:List.findIdx? (λe=>decide (e.key=wP .i64 k)) es with
   |none=>simp[o,hb]
   |some j=>grind
theorem keyInt{kt:TypeId}(hk:P.underlying kt=some (.int .i64)):KeyOf P kt (wP .i64) where
 inj:=λa b h=>by cases h;rfl
 find:=λa es w h=>by
  simp_all[Instr.findKey,zN,run_underlying,zO,ON,Nat.zero_add]
 check:=λb a w=>by
  unfold Instr.checkKey;simp_all[zN,run_underlying,zO]
 stays:=λa w=>by
  have h:wQ 10000 (.int .i64 a) (.int .i64 a)=true:=by
   rw[show(10000:Nat)=9999+1 from rfl];simp[wQ]
  unfold Instr.keyThatStays;rw[if_pos h];rfl
end
end Go.Sx
namespace Go.Proofs
open Go Go.Sx
attribute [local irreducible] Go.Sx.Tri
theorem Ak.at2{V:Mem}{b:Nat}{c:Array Value}{t off:Nat}{vs:List Value}{q:Mem->Prop}(h:V b=some (.cells c t (0,0)))(hl:off+vs.length<=c.size)
  (o:q (V.set b (.cells (c.toList.take off++vs++c.toList.drop (off+vs.length)).toArray t (0,0)))):Ak (Aa (sa b) off) 0 vs V q:=by
 have e:Aa (sa b) off=some ⟨b,off,none⟩:=by
  grind[Aa,Addr.add]
 rw[e];exact⟨⟨b,off,none⟩,c,t,rfl,h,rfl,by simpa using hl,by simpa using o⟩
theorem K0{α:Type}:∀(l:List α)(i:Nat)(v:α),i<l.length->l.take i++[v]++l.drop (i+1)=l.set i v
 |[],i,v,h=>by simp at h
 |a::l,0,v,_=>by simp
 |a::l,i+1,v,h=>by
  have:=K0 l i v (by simpa using h);simp_all
section
variable{V0 V V':Mem}{e:TypeId}{sz:Nat}{s:Sl}{vs:List Value}
theorem Own.store(h:Sx.Own V0 V e sz s vs){i:Nat}(hi:i<vs.length){v:Value}{q:Mem->Prop}(J:∀V',Sx.Own V0 V' e sz s (vs.set i v)->(∀c,¬AP s c->V' c=V c)->q V'):Ak (Aa s.p i) 0 [v] V q:=by
 rcases h.cases0 with⟨h1,h2,h3⟩|⟨hc,g,cur,h1,h2,h3,h4,N,Y,O⟩;·rw[h3]at hi;simp at hi
 have o:=h.len;have Z:s.n*sz<=s.c*sz:=xJ _ h4;rw[h1];refine Ak.at2 (off:=i) h3 (by simp;omega) (J _ ⟨h.sub.set h2 _,by simpa using o,.inr ⟨g,_,h1,h2,Mem.set_same _ _ _,h4,N,?_,?_⟩⟩ λc H=>?_);·grind
 ·grind[K0,List.take_set]
 ·rw[Mem.set_ne];rintro rfl;exact H ⟨hc,h1⟩
theorem Own.moveB(h:Sx.Own V0 V e sz s vs)(o:V0.sub V')(hk:∀g cur,AP s g->V g=some (.cells cur e (0,0))->V' g=some (.cells cur e (0,0))):Sx.Own V0 V' e sz s vs:=⟨o,h.len,by
 rcases h.cases0 with h1|⟨hc,g,cur,h1,h2,h3,h4⟩;·exact .inl h1
 ·exact .inr ⟨g,cur,h1,h2,hk g cur ⟨hc,h1⟩ h3,h4⟩⟩
theorem Own.some(h:Sx.Own V0 V e sz s vs){c:Nat}(hc:AP s c):∃cur,V c=some (.cells cur e (0,0)):=by
 rcases h.cases0 with⟨-,h2,-⟩|⟨-,g,cur,h1,h2,h3,-⟩;·exact absurd h2 hc.1
 ·have:=h1.symm.trans hc.2;simp_all
theorem Own.none0(h:Sx.Own V0 V e sz s vs){c:Nat}(hc:AP s c):V0 c=none:=by
 rcases h.cases0 with⟨-,h2,-⟩|⟨-,g,cur,h1,h2,h3,-⟩;·exact absurd h2 hc.1
 ·have:=h1.symm.trans hc.2;simp_all
theorem set_sub2{A B:Mem}(h:A.sub B)(b:Nat)(o:Obj):(A.set b o).sub (B.set b o):=λc x hc=>by
 by_cases e:c=b;·grind[Mem.set_same]
 ·rw[Mem.set_ne e]at hc⊢;exact h _ _ hc
theorem Own.poke(h:Sx.Own V0 V e sz s vs){b:Nat}(hb:V0 b≠none)(o:Obj):Sx.Own (V0.set b o) (V.set b o) e sz s vs:=⟨set_sub2 h.sub b o,h.len,by
 rcases h.cases0 with h1|⟨hc,g,cur,h1,h2,h3,h4⟩;·exact .inl h1
 ·have hne:g≠b:=λe=>hb (e▸h2);simp_all[inr,Mem.set_ne]⟩
end
def FO(a:Int×Int×Int):List Value:=[.int .i64 a.1,.int .i64 a.2.1,.int .i64 a.2.2]
theorem app110:AppP 110 150 3 FO:=appG Tryz.underlying110 (by kernel_rfl) (by kernel_rfl) (by kernel_rfl) (by kernel_rfl) (by kernel_rfl) (by decide) (by intro _;rfl) λx u hu=>by simp only[FO,yH,xQ,or_false]at hu;rcases hu with rfl|rfl|rfl<;>rfl
theorem app43:AppP 43 85 2 Nd.row:=appG Tryz.underlying43 (by kernel_rfl) (by kernel_rfl) (by kernel_rfl) (by kernel_rfl) (by kernel_rfl) (by decide) (by intro _;rfl) λx u hu=>by simp only[Nd.row,Sl.v,yH,xQ,or_false]at hu;rcases hu with rfl|rfl<;>rfl
theorem Eu:AppP 35 3 1 Ah:=appG Tryz.underlying35 (by kernel_rfl) (by kernel_rfl) (by kernel_rfl) (by kernel_rfl) (by kernel_rfl) (by decide) (by intro _;rfl) λx u hu=>by simp only[Ah,yH,xQ,or_false]at hu;subst hu;rfl
theorem CP(l:List Int):l.flatMap Ah=l.map (wP .i64):=by
 induction l with
 |nil=>rfl
 |cons a l o=>rw[List.flatMap_cons,o];rfl
structure AJ (V0 V:Mem)(gs ns ls:Sl)(nd:List Nd)(st:St):Prop where
 glob:Sx.Own V0 V 3 1 gs (st.g.flatMap Ah)
 nodes:Sx.Own V0 V 85 2 ns (nd.flatMap Nd.row)
 log:Sx.Own V0 V 150 3 ls (st.lg.flatMap FO)
 fld:∀n∈nd,Sx.Own V0 V 3 1 n.sl (n.f.flatMap Ah)
 eq:nd.map (λn=>(n.ty,n.f))=st.ns
 gf:∀n∈nd,∀c,AP n.sl c->¬AP gs c
 ff:∀(i j:Nat) n n' c,nd[i]?=some n->nd[j]?=some n'->AP n.sl c->AP n'.sl c->i=j
section
variable{V0 V V':Mem}{gs ns ls:Sl}{nd:List Nd}{st:St}
def Alien(V:Mem)(c:Nat):Prop:=∀cur t,t=3∨t=85∨t=150->V c≠some (.cells cur t (0,0))
theorem AJ.sub(L:AJ V0 V gs ns ls nd st):V0.sub V:=L.glob.sub
theorem AJ.move(L:AJ V0 V gs ns ls nd st)(N:V0.sub V')(hk:∀c o,V c=some o->V0 c=none->¬Alien V c->V' c=some o):AJ V0 V' gs ns ls nd st:=by
 have H:∀{e sz s vs},(e=3∨e=85∨e=150)->Sx.Own V0 V e sz s vs->Sx.Own V0 V' e sz s vs:=λ{e sz s vs} he h=>Own.moveB h N λg cur hb J=>hk _ _ J (Own.none0 h hb) λha=>ha _ _ he J;exact⟨H (.inl rfl) L.glob,H (.inr (.inl rfl)) L.nodes,H (.inr (.inr rfl)) L.log,λn hn=>H (.inl rfl) (L.fld n hn),L.eq,L.gf,L.ff⟩
theorem AJ.grow(L:AJ V0 V gs ns ls nd st)(h:V.sub V'):AJ V0 V' gs ns ls nd st:=L.move (L.sub.trans h) λc o hc _ _=>h _ _ hc
theorem AJ.put(L:AJ V0 V gs ns ls nd st){c:Nat}(ha:Alien V c)(h0:V0 c=none)(o:Obj):AJ V0 (V.set c o) gs ns ls nd st:=L.move (L.sub.set h0 o) λx J N _ H=>by
 grind[Mem.set_ne]
theorem AJ.narrow{W:Mem}(L:AJ W V gs ns ls nd st)(h:V0.sub W):AJ V0 V gs ns ls nd st:=⟨L.glob.narrow h,L.nodes.narrow h,L.log.narrow h,λn hn=>(L.fld n hn).narrow h,L.eq,L.gf,L.ff⟩
theorem AJ.poke(L:AJ V0 V gs ns ls nd st){b:Nat}(hb:V0 b≠none)(o:Obj):AJ (V0.set b o) (V.set b o) gs ns ls nd st:=⟨Own.poke L.glob hb o,Own.poke L.nodes hb o,Own.poke L.log hb o,λn hn=>Own.poke (L.fld n hn) hb o,L.eq,L.gf,L.ff⟩
def Mine(p:Nat)(gs ns ls:Sl)(nd:List Nd)(c:Nat):Prop:=c=p∨AP gs c∨AP ns c∨AP ls c∨∃n∈nd,AP n.sl c
open Classical in
noncomputable def Mem.minus(V:Mem)(M:Nat->Prop):Mem:=λc=>if M c then none else V c
theorem Ft{M:Nat->Prop}:(Mem.minus V M).sub V:=λc o h=>by
 grind[Mem.minus]
theorem Cy{M:Nat->Prop}{c:Nat}(h:¬M c):Mem.minus V M c=V c:=by grind[Mem.minus]
theorem DV{M:Nat->Prop}{c:Nat}(h:M c):Mem.minus V M c=none:=by grind[Mem.minus]
theorem AJ.frame(L:AJ V0 V gs ns ls nd st){p:Nat}(hk:∀c o,Mine p gs ns ls nd c->V c=some o->V' c=some o):AJ (Mem.minus V' (Mine p gs ns ls nd)) V' gs ns ls nd st:=by
 have H:∀{e sz s vs},(∀c,AP s c->Mine p gs ns ls nd c)->Sx.Own V0 V e sz s vs->Sx.Own (Mem.minus V' (Mine p gs ns ls nd)) V' e sz s vs:=λ{e sz s vs} hm h=>⟨Ft,h.len,by
  rcases h.cases0 with h1|⟨hc,g,cur,h1,h2,h3,h4⟩;·exact .inl h1
  ·exact .inr ⟨g,cur,h1,DV (hm g ⟨hc,h1⟩),hk _ _ (hm g ⟨hc,h1⟩) h3,h4⟩⟩
 exact⟨H (λ_ h=>.inr (.inl h)) L.glob,H (λ_ h=>.inr (.inr (.inl h))) L.nodes,H (λ_ h=>.inr (.inr (.inr (.inl h)))) L.log,λn hn=>H (λ_ h=>.inr (.inr (.inr (.inr ⟨n,hn,h⟩)))) (L.fld n hn),L.eq,L.gf,L.ff⟩
theorem AJ.mineV(L:AJ V0 V gs ns ls nd st){p c:Nat}(hp:V p≠none)(h:Mine p gs ns ls nd c):V c≠none:=by
 have o:∀{e sz s vs},Sx.Own V0 V e sz s vs->AP s c->V c≠none:=λ{e sz s vs} h hb=>by
  grind[Own.some]
 rcases h with rfl|h|h|h|⟨n,hn,h⟩;·exact hp
 ·exact o L.glob h
 ·exact o L.nodes h
 ·exact o L.log h
 ·exact o (L.fld n hn) h
theorem AJ.mine0(L:AJ V0 V gs ns ls nd st){p c:Nat}(hp:V0 p=none)(h:Mine p gs ns ls nd c):V0 c=none:=by
 rcases h with rfl|h|h|h|⟨n,hn,h⟩;·exact hp
 ·exact Own.none0 L.glob h
 ·exact Own.none0 L.nodes h
 ·exact Own.none0 L.log h
 ·exact Own.none0 (L.fld n hn) h
theorem AJ.len(L:AJ V0 V gs ns ls nd st):nd.length=st.ns.length:=by rw[<-L.eq,wI]
theorem AJ.at_(L:AJ V0 V gs ns ls nd st){i:Nat}{x:Int×List Int}(h:st.ns[i]?=some x):∃sl,nd[i]?=some ⟨x.1,sl,x.2⟩:=by
 rw[<-L.eq,xI]at h;cases hn:nd[i]? with
 |none=>simp_all
 |some n=>rw[hn]at h;cases h;grind
theorem AJ.setG(L:AJ V0 V gs ns ls nd st){i:Nat}(hi:i<st.g.length){v:Int}{q:Mem->Prop}(H:∀V',AJ V0 V' gs ns ls nd {st with g:=st.g.set i v}->(∀c,¬AP gs c->V' c=V c)->q V'):Ak (Aa gs.p (i*1)) 0 [.int .i64 v] V q:=by
 rw[Nat.mul_one];refine Own.store L.glob (by rw[CP,wI];exact hi) λV' ho hk=>H V' ⟨?_,?_,?_,λn hn=>?_,L.eq,L.gf,L.ff⟩ hk;·grind[Ah,CP,wN]
 ·exact Own.moveB L.nodes ho.sub λg cur hb o=>by rw[hk g (L.glob.apart λc=>by simp_all)];exact o
 ·exact Own.moveB L.log ho.sub λg cur hb o=>by rw[hk g (L.glob.apart λc=>by simp_all)];exact o
 ·exact Own.moveB (L.fld n hn) ho.sub λg cur hb o=>by rw[hk g (L.gf n hn g hb)];exact o
theorem AJ.setF(L:AJ V0 V gs ns ls nd st){k i:Nat}{n:Nd}(hn:nd[k]?=some n)(hi:i<n.f.length){v:Int}{q:Mem->Prop}
  (Y:∀V',AJ V0 V' gs ns ls (nd.set k {n with f:=n.f.set i v}) {st with ns:=st.ns.set k (n.ty,n.f.set i v)}->(∀c,¬AP n.sl c->V' c=V c)->q V'):Ak (Aa n.sl.p (i*1)) 0 [.int .i64 v] V q:=by
 rw[Nat.mul_one];have hm:=x8 hn;have O:=(yj.1 hn).1;refine Own.store (L.fld n hm) (by rw[CP,wI];exact hi) λV' ho hk=>Y V' ⟨?_,?_,?_,λn' H=>?_,?_,λn' H c hc=>?_,λA I a b c ha hb N Z=>?_⟩ hk;·exact Own.moveB L.glob ho.sub λg cur hb J=>by rw[hk g λh=>L.gf n hm g h hb];exact J
 ·have:(nd.set k {n with f:=n.f.set i v}).flatMap Nd.row=nd.flatMap Nd.row:=by
   have:(nd.set k {n with f:=n.f.set i v}).map Nd.row=nd.map Nd.row:=by
    rw[wN];refine wR λm=>?_;rw[wS];split
    ·rename_i e;subst e;rw[xI,hn,if_pos (by simp_all)];rfl
    ·rfl
   grind
  rw[this];exact Own.moveB L.nodes ho.sub λg cur hb J=>by rw[hk g ((L.fld n hm).apart λc=>by simp_all)];exact J
 ·exact Own.moveB L.log ho.sub λg cur hb J=>by rw[hk g ((L.fld n hm).apart λc=>by simp_all)];exact J
 ·obtain⟨m,o⟩:=wG.1 H;rw[wS]at o;split at o;·grind[Ah,CP,wN]
  ·rename_i hne;exact Own.moveB (L.fld n' (x8 o)) ho.sub λg cur hb J=>by rw[hk g λh=>hne (L.ff k m n n' g hn o h hb)];exact J
 ·rw[<-L.eq,wN]
 ·rcases wO H with h|rfl;·exact L.gf n' h c hc
  ·exact L.gf n hm c hc
 ·have get:∀{m:Nat}{x:Nd},(nd.set k {n with f:=n.f.set i v})[m]?=some x->∃y,nd[m]?=some y/\y.sl=x.sl:=λ{m x} D=>by
   grind
  obtain⟨y,M,R⟩:=get ha;obtain⟨z,X,B⟩:=get hb;exact L.ff A I y z c M X (R▸N) (B▸Z)
theorem AJ.note(L:AJ V0 V gs ns ls nd st){a:Int×Int×Int}{ty N:Nat}{x y:Operand}{vals:Operand->Value}{q:Value->Mem->Prop}(Z:V N=none)(O:vals x=.slice ls.p ls.n ls.c)(A:vals y=.slice (sa N) 1 1)(H:st.lg.length+1<=2147483648)
  (I:∀s' V',AJ V0 V' gs ns s' nd (st.note a)->(∀c o,V c=some o->¬AP ls c->V' c=some o)->q (.slice s'.p s'.n s'.c) V'):
  GenK xS (.call {callee:=.builtin .append,args:=#[x,y],argTypes:=#[110,110]}) ty vals (V.set N (.cells (FO a).toArray 150 (0,0))) q:=by
 refine app110 (s:=ls) (u:=⟨some ⟨N,0,none⟩,1,1⟩) (xs:=st.lg) (ys:=[a]) O A (L.log.but.new Z _) (Ab.cells (xs:=[a]) (row:=FO) Au (by simp) (λ_=>rfl) rfl (by simp)) (by simpa using H) λs' V' ho=>?_;have hk:∀c o,V c=some o->¬AP ls c->V' c=some o:=λc o hc hb=>ho.sub _ _ (Mem.but_at hc hb);have Y:V0.sub V':=L.log.sub_but.trans ho.sub;refine I s' V' ⟨?_,?_,ho.narrow L.log.sub_but,λn hn=>?_,L.eq,L.gf,L.ff⟩ hk;·exact Own.moveB L.glob Y λg cur hb J=>hk _ _ J (L.log.apart λc=>by simp_all)
 ·exact Own.moveB L.nodes Y λg cur hb J=>hk _ _ J (L.log.apart λc=>by simp_all)
 ·exact Own.moveB (L.fld n hn) Y λg cur hb J=>hk _ _ J (L.log.apart λc=>by simp_all)
theorem AJ.new(L:AJ V0 V gs ns ls nd st){n:Nd}{V1:Mem}(H:Sx.Own V V1 3 1 n.sl (n.f.flatMap Ah))
  {ty O:Nat} {x y:Operand} {vals:Operand->Value} {q:Value->Mem->Prop} (I:V1 O=none) (X:vals x=.slice ns.p ns.n ns.c) (B:vals y=.slice (sa O) 1 1) (Z:nd.length+1<=2147483648)
  (D:∀s' V',AJ V0 V' gs s' ls (nd++[n]) {st with ns:=st.ns++[(n.ty,n.f)]}->(∀c o,V1 c=some o->¬AP ns c->V' c=some o)->q (.slice s'.p s'.n s'.c) V'):
  GenK xS (.call {callee:=.builtin .append,args:=#[x,y],argTypes:=#[43,43]}) ty vals (V1.set O (.cells n.row.toArray 85 (0,0))) q:=by
 have K:V.sub V1:=H.sub;have J:=L.grow K;refine app43 (s:=ns) (u:=⟨some ⟨O,0,none⟩,1,1⟩) (xs:=nd) (ys:=[n]) X B (J.nodes.but.new I _) (Ab.cells (xs:=[n]) (row:=Nd.row) Au (by simp) (λ_=>rfl) rfl (by simp)) (by simpa using Z) λs' V' ho=>?_;have hk:∀c o,V1 c=some o->¬AP ns c->V' c=some o:=λc o hc hb=>ho.sub _ _ (Mem.but_at hc hb);have A:V0.sub V':=J.nodes.sub_but.trans ho.sub;have T:∀c,AP n.sl c->V c=none:=λc hc=>Own.none0 H hc;refine D s' V' ⟨?_,ho.narrow J.nodes.sub_but,?_,λm hm=>?_,by rw[List.map_append,L.eq];rfl,λm hm c hc=>?_,λi j a b c ha hb M R=>?_⟩ hk;·exact Own.moveB J.glob A λg cur hb N=>hk _ _ N (J.nodes.apart λc=>by simp_all)
 ·exact Own.moveB J.log A λg cur hb N=>hk _ _ N (J.nodes.apart λc=>by simp_all)
 ·rcases wL.1 hm with hm|hm;·exact Own.moveB (J.fld m hm) A λg cur hb N=>hk _ _ N (J.nodes.apart λc=>by simp_all)
  ·rw[zR.1 hm];exact Own.moveB (H.narrow L.sub) A λg cur hb N=>hk _ _ N (J.nodes.apart λc=>by simp_all)
 ·rcases wL.1 hm with hm|hm;·exact L.gf m hm c hc
  ·rw[zR.1 hm]at hc;intro N;obtain⟨cur,Y⟩:=Own.some L.glob N;simp_all
 ·have old:∀{m:Nd},m∈nd->AP m.sl c->¬AP n.sl c:=λhm hc U=>by
   obtain⟨cur,Y⟩:=Own.some (L.fld _ hm) hc;simp_all
  by_cases h1:i<nd.length<;>by_cases h2:j<nd.length
  ·rw[wK h1]at ha;rw[wK h2]at hb;exact L.ff i j a b c ha hb M R
  ·grind
  ·grind
  grind
end
end Go.Proofs
namespace Go.Sx
open Go
section
variable{P:Program}{V0 V:Mem}{t e ty tc:TypeId}{i:TypeInfo}{z:Value}{sz:Nat}{k:IntKind}
theorem As.made{V:Mem}{w:World}(hw:V.le w)(o:Obj):V w.heap.size=none/\As V w (V.set w.heap.size o) (w.alloc o):=by
 have hn:V w.heap.size=none:=by
  cases h:V w.heap.size with
  |none=>rfl
  |some x=>
   have:=(yE.1 (hw _ _ h)).1;omega
 refine⟨hn,⟨by simp,λb x hb=>?_,λb hb _=>(by grind[heap_alloc_old]),λb hb=>?_,rfl,rfl⟩⟩
 ·unfold Mem.set at hb;split at hb;·grind[heap_alloc_new]
  ·have H:=(yE.1 (hw _ _ hb)).1;first|exact(heap_alloc_old w o b H).trans (hw _ _ hb)|exact(heap_alloc_old w o H).trans (hw _ _ hb)
 grind[Mem.set,inr]
theorem GenK.make(ht:P.underlying t=some (.slice e))(hi:P.info? e=some i)(J:i.zero=some z)(o:i.size=sz)(H:i.bytes<=65536){x y:Operand}{vals:Operand->Value}{n:Nat}(N:vals x=.int .i64 n)(Z:vals y=.int .i64 n)(hn:n<=2147483648){q:Value->Mem->Prop}
  (Y:∀g,V g=none->q (.slice (some ⟨g,0,none⟩) n n) (V.set g (.cells (madeCells z.cells (n*sz)) e (0,0)))):GenK P (.makeSlice t x y) ty vals V q:=by
 intro w hw;subst o;have hb:(i.bytes:Int)*(n:Int)<=281474976710656:=by
  have:i.bytes*n<=65536*2147483648:=Nat.mul_le_mul H hn;omega
 have hr:=run_make (P:=P) w t e i z ht hi J .i64 .i64 n n (by omega) (Int.le_refl _) hb (by omega);grind[xa,As.made,madeCells,execOp,zN,Sem.run_pure,zO]
theorem zeros_one(o:z.cells.size=sz)(h1:∀u∈z.cells.toList,u.oneCell'=true)(n:Nat)(h0:0<sz):∀u∈(xN z.cells n).toList,u.oneCell'=true:=λu hu=>by
 unfold xN at hu;simp only[Array.toList_map,List.mem_map]at hu;obtain⟨j,-,rfl⟩:=hu;grind[Nat.mod_lt]
theorem Ra{w:World}(ht:P.underlying t=some (.slice e))(hc:P.underlying tc=some (.int k))(hi:P.info? e=some i)(O:i.zero=some z)(h0:0<i.size)(N:z.cells.size=i.size)(h1:∀u∈z.cells.toList,u.oneCell'=true)
  (g o H:Nat) (cur:Array Value) (A:w.heap[g]?=some (.cells cur e (0,0))) (n:Nat) (hn:0<n) (hb:n*i.bytes<=281474976710656) (I:n<=2147483648) (J:o+n<=H) (Y:o*i.size+n*i.size<=cur.size):
  (xL #[t,tc] ty #[.slice (some ⟨g,0,none⟩) o H,.int .i64 n]).run P w=
   .ok (.slice (some ⟨g,0,none⟩) (o+n) H) (w.setRow g (cur.toList.take (o*i.size)++(xN z.cells n).toList++cur.toList.drop (o*i.size+(xN z.cells n).toList.length)).toArray):=by
 have hl:(xN z.cells n).toList.length=n*i.size:=by rw[wT,size_zeroCells,N]
 have Z:=run_storeCells_at P g (o*i.size) e (xN z.cells n).toList 0 cur w A (by omega) (zeros_one N h1 n h0);simp only[Nat.add_zero]at Z;have M:yh.wrap (n:Int)=n:=by rw[wU];omega
 have L:¬((n:Int)<0):=by omega
 have R:¬(281474976710656<(n:Int)*(i.bytes:Int)):=by
  omega
 have X:¬(n*i.size=0):=Nat.ne_of_gt (Nat.mul_pos hn h0);simp[xL,run_underlying ht,run_underlying hc,asInt,asIntOf,sizeOf,typeInfo,hi,zeroValue,O,M,L,R,J,Addr.add_lit,Z];omega
theorem OO{w:World}(ht:P.underlying t=some (.slice e))(hc:P.underlying tc=some (.int k))(hi:P.info? e=some i)(I:i.zero=some z)(h0:0<i.size)(base:Option Addr)(o H:Nat)(J:List Value)
  (N:(xP i.size o (.slice base o H)).run P w.drew=.ok J.toArray w.drew) (n:Nat) (hn:0<n) (hb:n*i.bytes<=281474976710656) (M:n<=2147483648)
  (D:H<o+n) (L:((o+n:Nat):Int)<=9223372036854775807) (A:wW (o+n) H*i.bytes<=281474976710656):
  (xL #[t,tc] ty #[.slice base o H,.int .i64 n]).run P w=
   .ok (.slice (some ⟨w.heap.size,0,none⟩) (o+n) (grownCap w (o+n) H e))
    (w.drew.alloc (.cells (J.toArray++xN z.cells n++xN z.cells (grownCap w (o+n) H e-(o+n))) e)):=by
 have O:¬(o+n<=H):=by omega
 have Z:¬(9223372036854775807<((o:Int)+(n:Int))):=by omega
 have Y:¬(281474976710656<wW (o+n) H*i.bytes):=by omega
 have R:yh.wrap (n:Int)=n:=by rw[wU];omega
 have X:¬((n:Int)<0):=by omega
 have B:¬(281474976710656<(n:Int)*(i.bytes:Int)):=by
  omega
 simp[xL,run_underlying ht,run_underlying hc,asInt,asIntOf,sizeOf,typeInfo,zeroValue,hi,I,R,X,B,O,Z,Y,Question.forced,N,newRow,grownCap];simp_all[absurd,Nat.ne_of_gt,Nat.mul_pos]
theorem GenK.appendZ(ht:P.underlying t=some (.slice e))(hc:P.underlying tc=some (.int k))(hi:P.info? e=some i)(hz:i.zero=some z)(O:i.size=sz)(A:z.cells.size=sz)(T:0<sz)(U:i.bytes<=65536)(h1:∀u∈z.cells.toList,u.oneCell'=true)
  {x y:Operand} {vals:Operand->Value} {s:Sl} {n:Nat} {vs:List Value} (hx:vals x=.slice s.p s.n s.c) (hy:vals y=.int .i64 n) (own:Own V0 V e sz s vs) (L:s.n+n<=2147483648) {q:Value->Mem->Prop}
  (hq:∀s' V',Own V0 V' e sz s' (vs++(xN z.cells n).toList)->q (.slice s'.p s'.n s'.c) V'):
  GenK P (.call {callee:=.builtin .append,args:=#[x,y],argTypes:=#[t,tc]}) ty vals V q:=by
 intro w hw;subst O;have J:(s.n+n)*i.bytes<=140737488355328:=wH (Nat.mul_le_mul L U) (by decide);have hbn:n*i.bytes<=281474976710656:=by
  grind
 have hl:(xN z.cells n).toList.length=n*i.size:=by rw[wT,size_zeroCells,A]
 have N:∀(s':Sl)(V':Mem)(w':World),(xL #[t,tc] ty #[.slice s.p s.n s.c,.int .i64 n]).run P w=.ok (.slice s'.p s'.n s'.c) w'->As V w V' w'->Own V0 V' e i.size s' (vs++(xN z.cells n).toList)->
   ∃v w' V',(execOp vals {dst:=none,op:=.call {callee:=.builtin .append,args:=#[x,y],argTypes:=#[t,tc]},type:=ty,pos:= "",after:=#[],guard:=none}).run P w=.ok (.value v) w'/\As V w V' w'/\q v V':=by
  intro s' V' w' hr hf ho;refine⟨_,w',V',?_,hf,hq s' V' ho⟩;unfold execOp;simp only[resolve,invoke,builtin,zN,Sem.run_pure,zO,List.map_toArray,zH,wB,hx,hy,hr]
 by_cases R:n=0
 ·subst R;have hz0:(xN z.cells 0).toList=[]:=xH (by rw[hl];simp);rw[hz0,wM]at N;have Z:s.n<=s.c:=by
   rcases own.at_ with⟨a,b,-⟩|⟨g,cur,-,-,-,h,-⟩;·omega
   ·exact h
  refine N s V w ?_ (As.refl hw) own;have wl:yh.wrap 0=0:=by rfl
  cases s.p with
  |none=>simp[xL,run_underlying ht,run_underlying hc,asInt,asIntOf,sizeOf,typeInfo,hi,wl,Z]
  |some a=>simp[xL,run_underlying ht,run_underlying hc,asInt,asIntOf,sizeOf,typeInfo,hi,wl,Z,storeCells]
 have hn:0<n:=Nat.pos_of_ne_zero R;have Y:(vs++(xN z.cells n).toList).length=(s.n+n)*i.size:=by rw[zI,own.len,hl,xG]
 have H:∀old,old<s.n+n->(xL #[t,tc] ty #[.slice s.p s.n s.c,.int .i64 n]).run P w=
   .ok (.slice (some ⟨w.heap.size,0,none⟩) (s.n+n) (grownCap w (s.n+n) old e)) (w.drew.alloc (.cells (vs.toArray++xN z.cells n++xN z.cells (grownCap w (s.n+n) old e-(s.n+n))) e))->
   ∃v w' V',(execOp vals {dst:=none,op:=.call {callee:=.builtin .append,args:=#[x,y],argTypes:=#[t,tc]},type:=ty,pos:= "",after:=#[],guard:=none}).run P w=.ok (.value v) w'/\As V w V' w'/\q v V':=by
  intro old ho hr;obtain⟨I,hf⟩:=As.new hw (.cells (vs.toArray++xN z.cells n++xN z.cells (grownCap w (s.n+n) old e-(s.n+n))) e);have hge:=grownCap_ge w (s.n+n) old e;refine N ⟨_,_,_⟩ _ _ hr hf ⟨Mem.sub.new own.sub I _,Y,.inr ⟨w.heap.size,_,rfl,?_,Mem.set_same _ _ _,hge,grownCap_le_maxLen w _ old e (by simp only[maxLen];omega),?_,?_⟩⟩
  ·cases h0:V0 w.heap.size with
   |none=>rfl
   |some x=>rw[own.sub _ _ h0]at I;cases I
  ·simp only[Array.size_append,List.size_toArray,size_zeroCells,A,own.len,<-xG];congr 1;show _=grownCap w (s.n+n) old e;omega
  grind
 have hfitN:∀old,old<s.n+n->wW (s.n+n) old*i.bytes<=281474976710656:=λold ho=>growslice_fits (by omega) J;rcases own.at_ with⟨hs,hs',hv⟩|⟨g,cur,hp,hg,hV,Z,X,hcs,M⟩
 ·subst hv;refine H s.c (by omega) ?_;have B:(xP i.size s.n (.slice s.p s.n s.c)).run P w.drew=.ok ([]:List Value).toArray w.drew:=by
   rw[hs];cases s.p with
   |none=>rfl
   |some a=>simp[xP,loadCells,loadCellsFrom]
  grind[OO]
 ·by_cases o:s.n+n<=s.c
  ·have D:w.heap[g]?=some (.cells cur e (0,0)):=hw _ _ hV;have hle:(s.n+n)*i.size<=s.c*i.size:=xJ _ o;have hmul:(s.n+n)*i.size=s.n*i.size+n*i.size:=xG _ _ _;have hr:=Ra (P:=P) (ty:=ty) ht hc hi hz T A h1 g s.n s.c cur D n hn hbn (by omega) o (by omega);refine N ⟨some ⟨g,0,none⟩,s.n+n,s.c⟩ _ _ (by rw[hp];exact hr) (As.row hw hV) ⟨own.sub.set hg _,Y,.inr ⟨g,_,rfl,hg,Mem.set_same _ _ _,o,X,?_,?_⟩⟩;·grind
   grind
  ·refine H s.c (by omega) ?_;have K:w.ownsRow 0 e i.size (.slice s.p s.n s.c) s.n vs:=⟨own.len,.inr ⟨g,s.c,cur,by rw[hp],Nat.zero_le _,hw _ _ hV,Z,X,hcs,M⟩⟩;have holds:∀j u,vs[j]?=some u->w.cell? ((⟨g,0,none⟩:Addr).add j)=some u:=K.cells (g:=g) (by rw[hp];rfl);have B:=run_firstCells_some (P:=P) w.drew i.size s.n ⟨g,0,none⟩ s.n s.c vs own.len (by simpa using holds);grind[OO,xP]
end
theorem Rb(n:Nat):(xN (wP .i64 0).cells n).toList=yT n (wP .i64 0):=by
 have hc:(wP .i64 0).cells=#[wP .i64 0]:=by rfl
 rw[hc];unfold xN;refine wR λj=>?_;grind
theorem Rd(n:Nat):(madeCells (wP .i64 0).cells n).toList=yT n (wP .i64 0):=by
 have hc:(wP .i64 0).cells=#[wP .i64 0]:=by rfl
 rw[hc];unfold madeCells;refine wR λj=>?_;grind
end Go.Sx
namespace Go.Proofs
open Go Go.Sx
attribute [local irreducible] Go.Sx.Tri
def NT(ty:Nat):Prop:=ty≠3/\ty≠85/\ty≠150
theorem nn{p:Addr}:¬(some p:Option Addr)=none:=nofun
theorem AM{p:Addr}{n:Nat}:¬Aa (some p) n=none:=nofun
structure MA (ty:Nat)(V0:Mem)(p:Nat)(row:Sl->Sl->Sl->List Value)(V:Mem)(s:St):Prop where
 p0:V0 p=none
 ex:∃gs ns ls nd,V p=some (.cells (row gs ns ls).toArray ty (0,0))/\AJ V0 V gs ns ls nd s
section
variable{ty:Nat}{V0 V V' W:Mem}{p:Nat}{row row':Sl->Sl->Sl->List Value}{s s':St}{gs ns ls:Sl}{nd:List Nd}
theorem JH{x:Array Value}(h:V p=some (.cells x ty (0,0)))(o:NT ty):Alien V p:=λcur t ht H=>by
 rw[h]at H;simp only[Option.some.injEq,Obj.cells.injEq]at H;obtain⟨-,H,-⟩:=H;rcases ht with rfl|rfl|rfl;·exact o.1 H
 ·exact o.2.1 H
 ·exact o.2.2 H
theorem Hs{x:Array Value}(h:V p=some (.cells x ty (0,0)))(o:NT ty){e:TypeId}{sz:Nat}{sl:Sl}{vs:List Value}(ho:Sx.Own V0 V e sz sl vs)(he:e=3∨e=85∨e=150):¬AP sl p:=ho.apart λcur hc=>JH h o cur e he hc
theorem AJ.same(L:AJ V0 V gs ns ls nd s)(h1:s'.g=s.g)(h2:s'.ns=s.ns)(h3:s'.lg=s.lg):AJ V0 V gs ns ls nd s':=⟨by rw[h1];exact L.glob,L.nodes,by rw[h3];exact L.log,L.fld,by rw[h2];exact L.eq,L.gf,L.ff⟩
theorem MA.sub(h:MA ty V0 p row V s):V0.sub V:=by
 obtain⟨_,_,_,_,_,L⟩:=h.ex;exact L.sub
theorem MA.grow(h:MA ty V0 p row V s)(H:V.sub V'):MA ty V0 p row V' s:=by
 obtain⟨gs,ns,ls,nd,o,L⟩:=h.ex;exact⟨h.p0,gs,ns,ls,nd,H _ _ o,L.grow H⟩
theorem MA.narrow(h:MA ty W p row V s)(J:V0.sub W):MA ty V0 p row V s:=by
 obtain⟨gs,ns,ls,nd,H,L⟩:=h.ex;refine⟨?_,gs,ns,ls,nd,H,L.narrow J⟩;cases hc:V0 p with
 |none=>rfl
 |some o=>have:=J _ _ hc;rw[h.p0]at this;cases this
theorem MA.set(o:NT ty)(p0:V0 p=none){x:Array Value}(H:V p=some (.cells x ty (0,0)))(L:AJ V0 V gs ns ls nd s){c:Array Value}(hc:c=(row' gs ns ls).toArray)(h1:s'.g=s.g)(h2:s'.ns=s.ns)(h3:s'.lg=s.lg):MA ty V0 p row' (V.set p (.cells c ty (0,0))) s':=
 ⟨p0,gs,ns,ls,nd,by rw[Mem.set_same,hc],(L.put (JH H o) p0 _).same h1 h2 h3⟩
theorem MA.frame(h:MA ty V0 p row V s):∃M:Nat->Prop,(∀b,M b->V b≠none/\V0 b=none)/\∀V',(∀b o,M b->V b=some o->V' b=some o)->MA ty (Mem.minus V' M) p row V' s:=by
 obtain⟨gs,ns,ls,nd,H,L⟩:=h.ex;refine⟨Mine p gs ns ls nd,λb hb=>⟨L.mineV (by rw[H];simp) hb,L.mine0 h.p0 hb⟩,λV' hk=>⟨DV (.inl rfl),gs,ns,ls,nd,hk _ _ (.inl rfl) H,L.frame hk⟩⟩
theorem MA.after(h:MA ty V0 p row V s)(H:V.sub V'):∃W,V0.sub W/\W.sub V'/\MA ty W p row V' s/\∀b o,V b=none->V' b=some o->W b=some o:=by
 obtain⟨M,h1,h2⟩:=h.frame;refine⟨Mem.minus V' M,λb o hb=>?_,Ft,h2 V' λb o _ hb=>H _ _ hb,λb o hb J=>?_⟩;·rw[Cy λhm=>by simp_all];exact H _ _ (h.sub _ _ hb)
 grind[Cy]
theorem MA.beside(h:MA ty W p row V s){e:TypeId}{sz:Nat}{sl J:Sl}{vs N:List Value}(Z:V0.sub W)(ho:Sx.Own V0 W e sz sl vs)(H:Sx.Own (V.but sl) V' e sz J N):∃Y,V0.sub Y/\MA ty Y p row V' s/\Sx.Own V0 Y e sz J N:=by
 obtain⟨M,h1,h2⟩:=h.frame;have nb:∀b,M b->¬AP sl b:=λb hm hb=>by
  grind[Own.some]
 have keep:∀b o,V b=some o->¬AP sl b->V' b=some o:=λb o hb hn=>H.sub _ _ (Mem.but_at hb hn);have A:∀b,M b->¬AP J b:=λb hm hb=>by
  have h0:=Own.none0 H hb;cases hc:V b with
  |none=>simp_all
  |some o=>grind[Mem.but_at]
 have O:V0.sub (Mem.minus V' M):=λb o hb=>by
  have hw:=Z _ _ hb;rw[Cy λhm=>by simp_all];exact keep _ _ (h.sub _ _ hw) λI=>by grind[Own.none0]
 refine⟨Mem.minus V' M,O,h2 V' λb o hm hb=>keep b o hb (nb b hm),O,H.len,?_⟩;rcases H.cases0 with L|⟨hc,g,cur,a,b,c,dd⟩;·exact .inl L
 ·refine .inr ⟨g,cur,a,?_,?_,dd⟩
  ·cases h0:V0 g with
   |none=>rfl
   |some o=>
    have hw:=h.sub _ _ (Z _ _ h0);rw[Mem.but_at hw (ho.apart0 h0)]at b;cases b
  ·rw[Cy λhm=>A g hm ⟨hc,a⟩];exact c
end
theorem Ev{V:Mem}{b:Nat}{c:Array Value}{t:Nat}{fr:Nat×Nat}(h:V b=some (.cells c t fr))(j off n:Nat)(hl:j+off+n<=c.size):V.rowp (Aa (sa b) j) off n=some ((c.toList.drop (j+off)).take n):=by
 have:=Aj h (j+off) n hl;rw[<-this];show V.row (((⟨b,0,none⟩:Addr).add j).add off) n=V.row ((⟨b,0,none⟩:Addr).add (j+off)) n;rw[add_add]
theorem IU{V:Mem}{b:Nat}{n:Int}{t:Nat}(h:V b=some (.cells #[.int .i64 n] t (0,0))):Ab V ⟨some ⟨b,0,none⟩,1,1⟩ 1 ([n].map Ah):=
 Ab.cells (xs:=[n]) (row:=Ah) h rfl (λ_=>rfl) rfl (by simp)
theorem c108{V:Mem}{l:Sl}{xs:List Int}(h:Ab V l 1 (xs.map Ah))(hb:xs.length<=2147483648):Tri xS 108 #[l.v] V λe V'=>∃s:Sl,e=.returned (.slice s.p s.n s.c)/\Sx.Own V V' 3 1 s (xs.flatMap Ah):=by
 refine x108 ?_;refine⟨λh0=>⟨⟨none,0,0⟩,rfl,?_⟩,λh0 J o=>?_⟩
 ·have:xs=[]:=by
   cases xs with
   |nil=>rfl
   |cons a N=>
    have:=h.base (i:=0) (by simp);simp_all
  grind[Own.nil,Mem.sub.refl]
 ·have H:=Mem.sub_new o (.cells #[] 3 (0,0));exact Eu (s:=⟨some ⟨J,0,none⟩,0,0⟩) (u:=l) (xs:=[]) (ys:=xs) rfl rfl (Own.empty (V0:=V) H _ _ _) (h.sub H) (by simpa using hb) λs' V' ho=>⟨s',rfl,s',rfl,by simpa using ho⟩
end Go.Proofs
namespace Go.Sx
open Go
def Ay(r:Option Nat):Fence:={wX with round:=r}
section
variable{P:Program}{r:Option Nat}{n:Nat}
theorem MJ{f:FuncId}{args:Array Value}{w:World}{R:Ending->World->Prop}:CallsIn (Ay r) n P f args w R↔Calls P f args w R:=callsIn_wide (n:=n)
theorem rowsIn_wideR{row:String}{args:Array Value}{w:World}{R:Value->World->Prop}(h:Rows P row args w R):RowsIn (Ay r) n P row args w R:=λc o _=>
 let⟨v,w',q,s⟩:=h c o
 ⟨v,w',q,stepsIn_wide.2 s⟩
theorem OP{o:Oper}{a:Act}{w:World}{next:Act->World->Prop}{Q:Exit->Act->World->Prop}(H:∀c,o.op≠.defer c)(h:o.wp P a w next Q):o.wpIn (Ay r) n P a w next Q:=by
 refine⟨λ_ _=>trivial,?_⟩;rw[Oper.semAt_eq _ _ _ H];unfold Oper.wp at h;revert h;generalize(execOp a.eval o).run P w=res;intro h;cases res with
 |ok x w'=>
  cases x with
  |enter f args=>exact⟨λh=>by simp[Ay,wX]at h,MJ.2 h⟩
  |row row args=>exact⟨λh=>by simp[Ay,wX]at h,rowsIn_wideR h⟩
  |value v=>exact h
  |skip=>exact h
  |defer d=>exact h
  |_=>exact h.elim
 |halt x w'=>cases x<;>first|exact h|exact h.elim
def K3:Op->Bool
 |.defer _=>false
 |_=>true
theorem MK{o:Op}(h:K3 o=true):∀c,o≠.defer c:=λc e=>by subst e;cases h
def FP:Code->Bool
 |.region _ H _=>H.all λo=>K3 o.op
 |.seq x y=>FP x&&FP y
 |.block _ b=>FP b
 |.cond _ x y=>FP x&&FP y
 |.loop b=>FP b
 |_=>true
theorem OQ{ops:Array Oper}{Q:Exit->Act->World->Prop}(N:¬LetsOut Q)(O:∀o∈ops,∀c,o.op≠.defer c)(l:List Oper):∀k,(∀j,j<l.length->l[j]?=ops[k+j]?)->∀a w,wpList P ops Q l a w->
  wpOpsIn (Ay r) n P ops Q (List.range' k l.length) a w:=by
 induction l with
 |nil=>grind[wpOpsIn,wpList]
 |cons o l Z=>
  intro k h a w hw;have h0:ops[k]?=some o:=by simpa using(h 0 (by simp)).symm
  have H:=Z (k+1) (λj Y=>by have:=h (j+1) (by simpa using Y);grind);simp only[zo,List.range'_succ,wpOpsIn,h0];simp only[wpList]at hw;split
  ·rename_i J;rw[if_pos J]at hw;grind[OP,wY,Oper.wp_mono]
  ·rename_i J;rw[if_neg J]at hw;exact⟨λ_ _=>trivial,H _ _ hw⟩
theorem Re{ops:Array Oper}{Q:Exit->Act->World->Prop}(J:¬LetsOut Q)(Z:∀o∈ops,∀c,o.op≠.defer c){md:Region.Mode}:∀fuel listed a w,wpAny P md ops Q fuel listed a w->
  wpAnyIn (Ay r) n P md ops Q fuel listed a w:=by
 intro fuel;induction fuel with
 |zero=>exact λ_ _ _ h=>h
 |succ fuel N=>
  rintro listed a w ⟨h1,h2⟩;refine⟨h1,λi hi=>?_⟩;have:=h2 i hi;unfold wpOp at this;unfold wpOpIn;split;·simp_all
  ·rename_i o ho;simp only[ho]at this;split
   ·rename_i H;rw[if_pos H]at this;grind[OP,wY,Oper.wp_mono]
   ·rename_i H;rw[if_neg H]at this;exact⟨λ_ _=>trivial,N _ _ _ this⟩
end
end Go.Sx
