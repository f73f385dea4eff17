/- Part 28: no statement of the seat is proved here. -/
import Derived.Test.YtgdmkmfchcflpaaGreatDoorPe21
import Derived.Test.YtgdmkmfchcflpaaGreatDoorPe22
import Derived.Test.YtgdmkmfchcflpaaGreatDoorPe23
set_option linter.unusedVariables false
set_option linter.unusedSimpArgs false
open List renaming length_map->wq,drop_zero->wu,length_take->wX
namespace Go.Proofs
open Go Go.Sx
set_option maxRecDepth 100000
section
variable{V:Mem}{R:RP}
theorem Pq{a:Int}{b:Sl}{c d:Int}{g:KB}{i j k l o p q r:Sl}(h:TT 25 #[uA #[uI a,uL b,uI c,uI d]] V λe V1=>∃s u,e=rT #[uI s,uI u]/\TT 26 #[uA #[uI a,uL b,uI c,uI d]] V1 λe V2=>∃y z,e=rT #[uI y,uI z]/\Br (u=0) (Br (s=(r.n:Int)) (Br (z=0) (TL 24 #[uL r,uI a] V2 λA Z=>Br (y=(A.n:Int)) (Lp [uB false,uI 0] Z λI n v=>∀B C,I n [uB B,uI C] v->∀Y:LMP,Nx I n Y->Br (C<(r.n:Int)) (Ix r C (∃D,v.rowp r.p (C.toNat*1) 1=some [uL D]/\TT 27 #[uA #[uI a,uL b,uI c,uI d],uD g i j k l o p q,uI C] v λe J=>∃F G H,e=rT #[uA #[uL F,uL G],uI H]/\Br (H=0) (TB 40 #[uD g i j k l o p q,uA #[uL F,uL G]] J λL f=>Br (L=true) (TL 42 #[uD g i j k l o p q,uA #[uL F,uL G]] f λM t=>TB 19 #[uL M,uL D] t λN W=>Br (N=true) (TT 43 #[uD g i j k l o p q,uA #[uL F,uL G]] W λe E=>∃O P,e=rV (uA #[uL O,uL P])/\TB 22 #[uA #[uL F,uL G],uA #[uL O,uL P]] E λQ w=>Br (Q=true) (IR (C+1)/\Y [uB B,uI (C+1)] w) (R KQ w)) (R KQ W)) (R KQ f)) (R KQ J))) (Af [uI (-1),uI s,uI 4611686018427387904] 3 v λD J=>Lp [uB B,uI 0] J λI n f=>∀F G,I n [uB F,uI G] f->∀X:LMP,Nx I n X->Br (G<3) (¬(Aa D 0)=none/\0<=G/\G<3/\∃H,f.rowp (Aa D 0) (G.toNat*1) 1=some [uI H]/\TT 27 #[uA #[uI a,uL b,uI c,uI d],uD g i j k l o p q,uI H] f λe t=>∃L M N,e=rT #[uA #[uL L,uL M],uI N]/\Br (N=2) (Br ((L.n:Int)=0) (IR (G+1)/\X [uB F,uI (G+1)] t) (R KQ t)) (R KQ t)) (R KX f))) (R KQ Z)) (R KQ V2)) (R KQ V2)) (R KQ V2)):TT 15 #[uA #[uI a,uL b,uI c,uI d],uD g i j k l o p q,uL r] V R:=DB Tryz.func15 [90] [] false (by kernel_rfl) (by kernel_rfl) h
end
end Go.Proofs
namespace Go.Proofs
open Go Go.Sx
section
variable{d:Ds}{m x:Mm}{b:List Int}{er:Int}{k:Dk}{codes:List (List Int)}
theorem AX.load_rng(h:AX k codes)(f:AL d){i:Int}(hi:i<0∨(codes.length:Int)<=i)(t:LoadQ d k i x er):er=2/\x.plain=([],[]):=by
 have w:(Au k).2=0:=by rw[h.opn]
 have n:=h.len;cases t with
 |arg g=>exact absurd f g
 |opn _ g=>exact absurd w g
 |rng _ _ _ z j=>exact⟨z,j⟩
 |form _ _ g=>omega
 |dec _ _ g=>omega
end
end Go.Proofs
namespace Go.Proofs
open Go Go.Sx
attribute [local irreducible] Go.Sx.Tri
section
variable{V:Mem}
variable{d:Ds}{k:Dk}{s l:Sl}{ms:List Mm}
theorem JZ[hT:Tab V](F:Ds.Ok V d)(A:AX k (ms.map (Ai d)))(hb:Bt V s k.data)(hl:Ls V l (ms.map (Ai d)))(P:AL d)(hv:∀m∈ms,AB d m=true)(hn:ms.length<=30):PP 15 [k.v s,d.v,l.v] V (.bool true):=by
 obtain⟨R,hR⟩:∃R:Ending->Mem->Prop,R=λe V'=>e=.returned (.bool true)/\V.sub V':=⟨_,rfl⟩;refine AP.mk ?_;rw[<-hR];have g:k.data.length<=2147483648:=by have:=(BF A.ok).2.2.1;omega
 have hpg:=BF A.ok;have hp32:=A.n32;obtain⟨pg,L⟩:∃pg,pg=k.page.toNat:=⟨_,rfl⟩;have X:k.page=(pg:Int):=by omega
 have ho:(Au k).2=0:=by rw[A.opn]
 have B:=A.len;have hsl:(Au k).1.sizes.length=(Aw pg (ms.map (Ai d))).length:=by rw[A.opn,L];simp[AZ]
 rw[wq]at B;have C:=hl.n;rw[wq]at C;have r:=MZ hb g;have q:=Lx hb g;rw[if_pos ho,ho,B]at r;rw[if_pos ho,ho,hsl]at q;refine Pq ?_;refine r.call ⟨_,_,rfl,q.call ⟨_,_,rfl,λ_=>⟨λ_=>⟨λ_=>?_,λh=>absurd rfl h⟩,λh=>absurd (by rw[C]) h⟩,λh=>absurd rfl h⟩⟩;have hG:∀m∈ms,BR d m:=λm hm=>⟨P.1,P.2,hv m hm⟩;have E:=MY (n:=pg) hl (by omega) (by omega) (by rw[wq];omega) λx hx=>by
  obtain⟨m,hm,rfl⟩:=List.mem_map.1 hx;exact Gb (hG m hm)
 rw[<-X]at E;refine Tri.mono E ?_;rintro _ V3 ⟨s3,o,rfl,hLo⟩;refine⟨o,rfl,λ_=>?_,λh=>absurd (by rw[hLo.n]) h⟩;refine Av (mk:=.bool) (b0:=false) ms.length (λi K=>V.sub K) s3 ?_;intro i b0 K J hi O hJ;haveI:Tab K:=Tab.sub (V:=V) inferInstance O;have hd4:=F.sub O;refine⟨λS=>?_,λhge=>?_⟩
 ·have N:i<ms.length:=by omega
  have T:=List.getElem?_eq_getElem N;have U:ms[i]∈ms:=List.getElem_mem N;obtain⟨m0,hm0⟩:∃m0,m0=ms[i]:=⟨_,rfl⟩;rw[<-hm0]at T U;have hci:(ms.map (Ai d))[i]?=some (Ai d m0):=by rw[List.getElem?_map,T];rfl
  obtain⟨u,hp,hrow,hu⟩:=(hl.sub O).get hci;refine⟨hp,by omega,S,u,hrow,Tri.mono (JL (i:=(i:Int)) hd4 (hb.sub O) g) ?_⟩;rintro _ V5 ⟨s5,m,er,rfl,f,hq⟩;obtain⟨rfl,Z,hvm,a⟩:=Lh (hG m0 U) (A.load P hci hq);have G:BR d m:=⟨P.1,P.2,hvm⟩;have Y:=O.trans s5;have H:=JS (F.sub Y) f;rw[hvm]at H;refine⟨m.gs,m.ns,0,rfl,λ_=>H.call ⟨_,rfl,λ_=>?_,λh=>absurd rfl h⟩,λh=>absurd rfl h⟩;refine Tri.mono (JW G (F.sub Y) f) ?_;rintro _ V7 ⟨M,sc,rfl,hbc⟩;have e1:Ai d m=Ai d m0:=by
   unfold Ai;rw[a,Z]
  have hEq:=Ik hbc ((hu.sub s5).sub M);rw[decide_eq_true e1]at hEq;refine⟨sc,rfl,hEq.call ⟨_,rfl,λ_=>?_,λh=>absurd rfl h⟩⟩;have s47:=Y.trans M;refine Tri.mono (JU G (F.sub s47) (f.sub M)) ?_;rintro _ V9 ⟨s9,c,rfl,hc,I⟩;have hE:=c22 ((f.sub M).sub s9) hc;rw[decide_eq_true (show m.plain=c.plain by rw[H9 G.mem I,a])]at hE;exact⟨c.gs,c.ns,rfl,hE.call ⟨_,rfl,λ_=>⟨⟨by omega,by omega⟩,hJ N _ _ (s47.trans s9)⟩,λh=>absurd rfl h⟩⟩
 ·intro p hp;have e0:Aa (some (⟨p,0,none⟩:Addr)) 0=some ⟨p,0,none⟩:=by simp[Aa,Addr.add]
  simp only[e0];generalize hV5:K.set p _=V5;have s5:K.sub V5:=hV5▸Mem.sub_new hp _;have W:V5 p=some (.cells #[.int .i64 (-1),.int .i64 (ms.length:Nat),.int .i64 4611686018427387904] 3 (0,0)):=by rw[<-hV5];exact Mem.set_same _ _ _
  refine Av (mk:=.bool) (b0:=b0) 3 (λj V6=>V5.sub V6) (Mem.sub.refl _) ?_;intro j b1 V6 J1 hj s6 hJ1;have t:=(O.trans s5).trans s6;haveI:Tab V6:=Tab.sub (V:=V) inferInstance t;have step:∀z:Int,(z<0∨(ms.length:Int)<=z)->j<3->TT 27 #[uA #[uI k.page,uL s,uI k.syn,uI k.aft],uA #[uS d.name,uL d.ts,uL d.gs,uL d.ps,uL d.ms,uL d.is,uL d.qs,uL d.bs],uI z] V6 λe V7=>∃v24 v25 v26,e=rT #[uA #[uL v24,uL v25],uI v26]/\
    Br (v26=2) (Br ((v24.n:Int)=0) (IR ((j:Int)+1)/\J1 [uB b1,uI ((j:Int)+1)] V7) (R KQ V7)) (R KQ V7):=λz hz w=>by
   refine Tri.mono (JL (i:=z) (F.sub t) (hb.sub t) g) ?_;rintro _ V7 ⟨M,m,er,rfl,f,hq⟩;obtain⟨rfl,Z⟩:=A.load_rng P (by rw[wq];exact hz) hq;have hg:m.globals=[]:=congrArg Prod.fst Z;have hgn:=f.globals.n_eq;rw[hg]at hgn;exact⟨m.gs,m.ns,2,rfl,λ_=>⟨λ_=>⟨⟨by omega,by omega⟩,hJ1 (by omega) _ _ (s6.trans M)⟩,λh=>absurd (by rw[hgn];rfl) h⟩,λh=>absurd rfl h⟩
  refine⟨λS=>?_,λ_=>by rw[hR];exact⟨rfl,t⟩⟩;have w:j<3:=by omega
  have Q:=s6 _ _ W;rcases(show j=0∨j=1∨j=2 by omega)with rfl|rfl|rfl;·exact⟨by simp,by decide,by decide,-1,At Q 0 1 (by simp),step (-1) (.inl (by decide)) w⟩
  ·exact⟨by simp,by decide,by decide,_,At Q 1 1 (by simp),step _ (.inr (Int.le_refl _)) w⟩
  ·exact⟨by simp,by decide,by decide,_,At Q 2 1 (by simp),step _ (.inr (by omega)) w⟩
end
section
variable{V V' D:Mem}{d:Ds}{o u l:Sl}{xs ys:List (List Int)}{ms:List Mm}{page tg:Int}{x y:Mm}
theorem Ls.pre{i:Nat}(h:Ls V l xs)(hi:i<=xs.length):Ls V ⟨if(l.c:Int)=(0:Int)then l.p else Aa l.p ((0:Int).toNat*1),((i:Int)-0).toNat,((l.c:Int)-0).toNat⟩ (xs.take i):=by
 obtain⟨ss,t,f,z⟩:=h.at_;have:=Ad.pre (t.post (j:=0) (by omega)) (i:=i) (by rw[wu,f];exact hi);rw[wu]at this;refine⟨ss.take i,this,by rw[wX,wX,f],λj v w g hw=>?_⟩;by_cases n:j<i
 ·rw[List.getElem?_take_of_lt n]at g hw;exact z j v w g hw
 ·rw[List.getElem?_eq_none (by rw[wX];omega)]at g;cases g
end
end Go.Proofs
