/- Part 21: no statement of the seat is proved here. -/
import Derived.Test.YtgdmkmfchcflpaaGreatDoorPe19
set_option linter.unusedVariables false
set_option linter.unusedSimpArgs false
open List renaming take_add_one->wh,take_of_length_le->wH,getElem?_eq_getElem->yu,length_drop->wY,drop_of_length_le->ug
namespace Go.Proofs
open Go Go.Sx
set_option maxRecDepth 100000
section
variable{V:Mem}{R:RP}
theorem Pc{a:Sl}{b:Int}(h:Lp [z0,uI 0] V λI n V1=>∀c d,I n [uL c,uI d] V1->∀y:LMP,Nx I n y->Br (d<(a.n:Int)) (Ix a d (∃g,V1.rowp a.p (d.toNat*1) 1=some [uL g]/\Lp [uL c,uL g] V1 λI n V2=>∀i j,I n [uL i,uL j] V2->∀w:LMP,Nx I n w->Br (0<(j.n:Int)) (Br ((j.n:Int)<b) (Lp [uB false,uI 0] V2 λI n f=>∀k l,I n [uB k,uI l] f->∀t:LMP,Nx I n t->Br (l<(i.n:Int)) (Br (k=true) (IR (l+1)/\t [uB true,uI (l+1)] f) (Ix i l (∃o,f.rowp i.p (l.toNat*1) 1=some [uL o]/\(0<=(0:Int)/\(0:Int)<=(j.n:Int)/\(j.n:Int)<=(j.c:Int))/\TB 51 #[uL o,.slice (if(j.c:Int)=(0:Int)then j.p else Aa j.p ((0:Int).toNat*1)) ((j.n:Int)-0).toNat ((j.c:Int)-0).toNat] f λp u=>IR (l+1)/\t [uB p,uI (l+1)] u))) (Br (k=true) ((0<=(j.n:Int)/\(j.n:Int)<=(j.n:Int)/\(j.n:Int)<=(j.c:Int))/\w [uL i,.slice (if(j.c:Int)=(j.n:Int)then j.p else Aa j.p ((j.n:Int).toNat*1)) ((j.n:Int)-(j.n:Int)).toNat ((j.c:Int)-(j.n:Int)).toNat] f) ((0<=(0:Int)/\(0:Int)<=(j.n:Int)/\(j.n:Int)<=(j.c:Int))/\Af [.slice (if(j.c:Int)=(0:Int)then j.p else Aa j.p ((0:Int).toNat*1)) ((j.n:Int)-0).toNat ((j.c:Int)-0).toNat] 34 f λo u=>Ap 50 54 41 (uL i) (.slice (Aa o 0) 1 1) u λp z=>(0<=(j.n:Int)/\(j.n:Int)<=(j.n:Int)/\(j.n:Int)<=(j.c:Int))/\w [uL p,.slice (if(j.c:Int)=(j.n:Int)then j.p else Aa j.p ((j.n:Int).toNat*1)) ((j.n:Int)-(j.n:Int)).toNat ((j.c:Int)-(j.n:Int)).toNat] z))) (Lp [uB false,uI 0] V2 λI n f=>∀k l,I n [uB k,uI l] f->∀t:LMP,Nx I n t->Br (l<(i.n:Int)) (Br (k=true) (IR (l+1)/\t [uB true,uI (l+1)] f) (Ix i l (∃o,f.rowp i.p (l.toNat*1) 1=some [uL o]/\(0<=(0:Int)/\(0:Int)<=b/\b<=(j.c:Int))/\TB 51 #[uL o,.slice (if(j.c:Int)=(0:Int)then j.p else Aa j.p ((0:Int).toNat*1)) (b-0).toNat ((j.c:Int)-0).toNat] f λp u=>IR (l+1)/\t [uB p,uI (l+1)] u))) (Br (k=true) ((0<=b/\b<=(j.n:Int)/\(j.n:Int)<=(j.c:Int))/\w [uL i,.slice (if(j.c:Int)=b then j.p else Aa j.p (b.toNat*1)) ((j.n:Int)-b).toNat ((j.c:Int)-b).toNat] f) ((0<=(0:Int)/\(0:Int)<=b/\b<=(j.c:Int))/\Af [.slice (if(j.c:Int)=(0:Int)then j.p else Aa j.p ((0:Int).toNat*1)) (b-0).toNat ((j.c:Int)-0).toNat] 34 f λo u=>Ap 50 54 41 (uL i) (.slice (Aa o 0) 1 1) u λp z=>(0<=b/\b<=(j.n:Int)/\(j.n:Int)<=(j.c:Int))/\w [uL p,.slice (if(j.c:Int)=b then j.p else Aa j.p (b.toNat*1)) ((j.n:Int)-b).toNat ((j.c:Int)-b).toNat] z)))) (IR (d+1)/\y [uL i,uI (d+1)] V2))) (R (rV (uL c)) V1)):TT 24 #[uL a,uI b] V R:=Ae Tryz.func24 h
theorem Pd{a b:Sl}(h:Br ((a.n:Int)=(b.n:Int)) (Lp [uB false,uI 0] V λI n V1=>∀c d,I n [uB c,uI d] V1->∀f:LMP,Nx I n f->Br (d<(a.n:Int)) (Ix a d (∃g,V1.rowp a.p (d.toNat*1) 1=some [.int .u8 g]/\Ix b d (∃i,V1.rowp b.p (d.toNat*1) 1=some [.int .u8 i]/\Br (g=i) (IR (d+1)/\f [uB c,uI (d+1)] V1) (R KQ V1)))) (R KX V1)) (R KQ V)):TT 51 #[uL a,uL b] V R:=Ae Tryz.func51 h
end
end Go.Proofs
namespace Go.Proofs
open Go Go.Sx
attribute [local irreducible] Go.Sx.Tri
section
variable{V:Mem}{d:Ds}{m:Mm}{k:Dk}{s l:Sl}{ms:List Mm}{b:List Int}{n:Int}
theorem MW{u:Sl}{c:List Int}(w:Bt V s b)(a:Bt V u c):PP 51 [s.v,u.v] V (.bool (decide (b=c))):=by
 refine AP.mk (Pd ?_);have Z:=w.n;have Y:=a.n;refine⟨λH=>?_,λH=>⟨by rw[decide_eq_false λe=>H (by rw[Z,Y,e])],Mem.sub.refl _⟩⟩;refine Av (mk:=.bool) (b0:=false) b.length (λi V1=>V1=V/\b.take i=c.take i) ⟨rfl,rfl⟩ ?_;rintro i W V1 J A ⟨rfl,z⟩ Q;refine⟨λg=>?_,λP=>?_⟩
 ·obtain⟨x,-,j,-,r,O,G,t⟩:=w.rows.get g;obtain⟨y,-,N,-,-,p,-,f⟩:=a.rows.get (i:=i) (by omega);refine⟨O,G,g,x,t,p,G,by omega,y,f,λe=>⟨w.rows.succ g,Q r _ _ ⟨rfl,?_⟩⟩,λe=>⟨?_,Mem.sub.refl _⟩⟩;·rw[wh,wh,j,N,z,e]
  ·rw[decide_eq_false λh=>e ?_];rw[h,N]at j;exact(Option.some.inj j).symm
 ·have e:b=c:=by
   rw[wH (by omega),wH (by omega)]at z;exact z
  rw[decide_eq_true e];exact⟨rfl,Mem.sub.refl _⟩
end
section
variable{V V' D:Mem}{d:Ds}{o l q:Sl}{xs:List (List Int)}{ms:List Mm}
theorem addC_len(C:List (List Int))(c:List Int):(A8 C c).length<=C.length+1:=by
 unfold A8;split;·omega
 ·rw[List.length_append];exact Nat.le_refl _
theorem MX{C:List (List Int)}{r:List Int}{z:Int}{h:Nat}(hz:z=(h:Int))(S:h<=r.length)(B:Bn D V o C)(W:Bt D q r)(hC:C.length<=100000000){A:KZ}
    (M:∀y V' Q,Bn D V' y (A8 C (r.take h))->Bt D Q (r.drop h)->A [.slice y.p y.n y.c,.slice Q.p Q.n Q.c] V'):
      ∃(I:Nat->KZ)(n0:Nat),I n0 [uB false,uI 0] V/\∀n t,∀F w,I n [uB F,uI w] t->∀P:KZ,(∀m ys a,m<n->I m ys a->P ys a)->
       Br (w<(o.n:Int))
       (Br (F=true)
       (IR (w+1)/\P [uB true,uI (w+1)] t)
       (¬o.p=none/\0<=w/\w<(o.n:Int)/\∃O,t.rowp o.p (w.toNat*1) 1=some [uL O]/\
       (0<=(0:Int)/\(0:Int)<=z/\z<=(q.c:Int))/\TT 51 #[uL O,.slice (if(q.c:Int)=(0:Int)then q.p else Aa q.p ((0:Int).toNat*1)) (z-0).toNat ((q.c:Int)-0).toNat] t λe L=>∃f,e=rV (uB f)/\
       IR (w+1)/\P [uB f,uI (w+1)] L))
       (Br (F=true)
       ((0<=z/\z<=(q.n:Int)/\(q.n:Int)<=(q.c:Int))/\A [uL o,.slice (if(q.c:Int)=z then q.p else Aa q.p (z.toNat*1)) ((q.n:Int)-z).toNat ((q.c:Int)-z).toNat] t)
       ((0<=(0:Int)/\(0:Int)<=z/\z<=(q.c:Int))/\Af [.slice (if(q.c:Int)=(0:Int)then q.p else Aa q.p ((0:Int).toNat*1)) (z-0).toNat ((q.c:Int)-0).toNat] 34 t λO L=>
       GenK Tryz.prog (.call {callee:=(.builtin .append),args:=#[(.tmp 50),(.tmp 54)],argTypes:=#[41,41]}) 41 (gv [(50,uL o),(54,.slice (Aa O 0) (1:Int).toNat (1:Int).toNat)]) L λx X=>∃f,x=uL f/\
       (0<=z/\z<=(q.n:Int)/\(q.n:Int)<=(q.c:Int))/\A [uL f,.slice (if(q.c:Int)=z then q.p else Aa q.p (z.toNat*1)) ((q.n:Int)-z).toNat ((q.c:Int)-z).toNat] X)):=by
  subst hz;have hqn:=W.n;have T:=W.rows.cap;obtain⟨c,U⟩:∃c,c=r.take h:=⟨_,rfl⟩;have H:Bt D ⟨if(q.c:Int)=(0:Int)then q.p else Aa q.p ((0:Int).toNat*1),((h:Int)-0).toNat,((q.c:Int)-0).toNat⟩ c:=by
    have:=W.sl (lo:=0) (hi:=h) (by omega) S;rw[List.drop_zero,Nat.sub_zero,<-U]at this;exact this
  have J:=W.post (j:=h) S;rw[<-U]at M;have hon:=B.ls.n;refine Cz (mk:=Value.bool) (b0:=false) (λ_ _ h=>by cases h;rfl) C.length (λi v t=>t=V/\v=decide (c∈C.take i)) ⟨rfl,by simp⟩ ?_;rintro i v t P hi ⟨rfl,rfl⟩ G;refine⟨λE=>⟨λg=>⟨⟨by omega,by omega⟩,G (by omega) _ _ ⟨rfl,?_⟩⟩,λg=>?_⟩,λhge=>?_⟩
  · have:=of_decide_eq_true g;refine(decide_eq_true ?_).symm;rw[wh];exact List.mem_append_left _ this
  · have N:i<C.length:=by omega
    have Z:=yu N;obtain⟨u,hp,Y,hu⟩:=B.ls.get Z;refine⟨hp,by omega,E,u,Y,⟨by omega,by omega,by omega⟩,(MW hu (H.sub B.sub)).call ⟨_,rfl,⟨by omega,by omega⟩,G N _ _ ⟨rfl,?_⟩⟩⟩;have g:c∉C.take i:=λh=>g (decide_eq_true h);rw[wh,Z];refine decide_eq_decide.2 ⟨λe=>?_,λe=>?_⟩;· rw[<-e];exact List.mem_append_right _ (by simp)
    · rcases List.mem_append.1 e with e|e;· exact absurd e g
      · simpa [eq_comm]using e
  · obtain rfl:i=C.length:=by omega
    rw[List.take_length];refine⟨λg=>⟨⟨by omega,by omega,by omega⟩,?_⟩,λg=>⟨⟨by omega,by omega,by omega⟩,λtb K=>?_⟩⟩
    · have g:c∈C:=of_decide_eq_true g;refine M o t _ ?_ J;unfold A8;rw[if_pos g];exact B
    · have g:c∉C:=λh=>g (decide_eq_true h);refine Bn.push B H K (by omega) rfl rfl rfl λy X B5=>⟨y,rfl,⟨by omega,by omega,by omega⟩,M y X _ ?_ J⟩;unfold A8;rw[if_neg g];exact B5
theorem MY{n:Nat}(K:Ls V l xs)(H:0<n)(hn1:n<=65536)(hx:xs.length<=100)(A:∀x∈xs,x.length<=300000):Tri Tryz.prog 24 #[l.v,.int .i64 n] V λe V'=>V.sub V'/\∃o:Sl,e=.returned o.v/\Ls V' o (Aw n xs):=by
 refine Pc ?_;have hln:=K.n;refine Cz (mk:=λs:Sl=>.slice s.p s.n s.c) (b0:=Ah) AG xs.length (λi u V1=>Bn V V1 u (Aw n (xs.take i))/\(Aw n (xs.take i)).length<=300000*i) ⟨Bn.start V,Nat.zero_le _⟩ ?_;rintro i u V1 J hi ⟨G,hBl⟩ S;refine⟨λI=>?_,λhge=>?_⟩
 ·have N:i<xs.length:=by omega
  have z:=yu N;obtain⟨b,hb⟩:∃b,b=xs[i]:=⟨_,rfl⟩;rw[<-hb]at z;have hbl:=A b (List.mem_of_getElem? z);obtain⟨w,U,y,hw⟩:=K.get z;have j:V1.rowp l.p (i*1) 1=some [w.v]:=by
   cases Z:l.p with
   |none=>exact absurd Z U
   |some ad=>rw[Z]at y;exact G.sub.row y
  obtain⟨T,hT⟩:∃T,T=Aw n (xs.take (i+1)):=⟨_,rfl⟩;have M:(AK n b).foldl A8 (Aw n (xs.take i))=T:=by rw[hT,wh,z];exact(Hw n _ b).symm
  refine⟨U,by omega,I,w,j,?_⟩;refine⟨λmm ys V2=>∃(r:List Int)(o q:Sl)(C:List (List Int)),mm=r.length/\ys=[.slice o.p o.n o.c,.slice q.p q.n q.c]/\Bn V V2 o C/\Bt V q r/\(AK n r).foldl A8 C=T/\C.length+r.length<=300000*(i+1),b.length,
   ⟨b,u,w,_,rfl,rfl,G,hw,M,by omega⟩,?_⟩
  rintro mm V2 v5 v6 ⟨r,o,q,C,rfl,Y,F,L,a,hCl⟩ J1 X;simp only[List.cons.injEq,and_true]at Y;obtain⟨q1,q2⟩:=Y;cases AG _ _ q1;cases AG _ _ q2;have W:=L.n;refine⟨λQ=>?_,λQ=>?_⟩
  ·have P:r≠[]:=λe=>by rw[e]at W;simp at W;omega
   rw[GJ H P,List.foldl_cons]at a;have hrl:0<r.length:=List.length_pos_iff.2 P;have next:∀(h:Nat) f V' t,0<h->h<=r.length->r.take h=r.take n->r.drop h=r.drop n->Bn V V' f (A8 C (r.take h))->Bt V t (r.drop h)->J1 [.slice f.p f.n f.c,.slice t.p t.n t.c] V':=λh f V' t h0 h1 h2 h3 O g=>by
    have hcl:=addC_len C (r.take h);refine X (r.drop h).length _ _ (by rw[wY];omega) ⟨r.drop h,f,t,_,rfl,rfl,O,g,?_,by rw[wY];omega⟩;rw[h2,h3];exact a
   refine⟨λB=>?_,λB=>?_⟩;·exact MX (h:=v6.n) rfl (by omega) F L (by omega) λf V' t O g=>next v6.n f V' t (by omega) (by omega) (by rw[wH (by omega),wH (by omega)]) (by rw[ug (by omega),ug (by omega)]) O g
   ·exact MX (h:=n) rfl (by omega) F L (by omega) λf V' t O g=>next n f V' t H (by omega) rfl rfl O g
  ·obtain rfl:=List.eq_nil_of_length_eq_zero (show r.length=0 by omega);rw[K5]at a;have a:C=T:=a;rw[<-hT]at S;subst a;exact⟨⟨by omega,by omega⟩,S N _ _ ⟨F,by omega⟩⟩
 ·have E:xs.take i=xs:=wH (by omega);rw[E]at G;exact⟨G.sub,u,rfl,G.ls⟩
end
end Go.Proofs
