/- Part 36: no statement of the seat is proved here. -/
import Derived.Test.YtgdmkmfchcflpaaGreatDoorPe27
import Derived.Test.YtgdmkmfchcflpaaGreatDoorPe28
set_option linter.unusedVariables false
set_option linter.unusedSimpArgs false
open Bool renaming and_eq_true->zC
open List renaming drop_zero->wu,mem_of_mem_take->wW,length_map->wq,nil_append->vX,length_take->wX
namespace Go.Proofs
open Go Go.Sx
set_option maxRecDepth 100000
section
variable{V:Mem}{R:RP}
abbrev w3_0(a:KB)(b c d g i j k l:Sl)(t:Mem)(s:Int)(u:Sl)(y z:Int)(R:RP):Prop:=TB 11 #[uD a b c d g i j k,uL l] t λC f=>Br (C=true) (TT 12 #[uA #[uI s,uL u,uI y,uI z],uD a b c d g i j k,uL l] f λe h=>∃D F G H L,e=rT #[uA #[uI D,uL F,uI G,uI H],uI L]/\Br (L=30) (Br (L=0) (R KX h) (Br ((F.n:Int)=0) (R (rV (uB (decide (D=0)))) h) (R KQ h))) (Br ((l.n:Int)=0) (Br (L=0) (Br (L=0) (R KX h) (Br ((F.n:Int)=0) (R (rV (uB (decide (D=0)))) h) (R KQ h))) (R KQ h)) (R KQ h))) (TT 12 #[uA #[uI s,uL u,uI y,uI z],uD a b c d g i j k,uL l] f λe h=>∃D F G H L,e=rT #[uA #[uI D,uL F,uI G,uI H],uI L]/\Br (L=1) (Br (L=0) (R KX h) (Br ((F.n:Int)=0) (R (rV (uB (decide (D=0)))) h) (R KQ h))) (Br ((l.n:Int)=0) (Br (L=0) (Br (L=0) (R KX h) (Br ((F.n:Int)=0) (R (rV (uB (decide (D=0)))) h) (R KQ h))) (R KQ h)) (R KQ h)))
abbrev w3_1(l:Sl)(Y:Int)(t:Mem)(O:Int)(P:Sl)(Q U:Int)(a:KB)(b c d g i j k:Sl)(s:LMP)(X:Bool)(R:RP):Prop:=Ix l Y (∃Z w,t.rowp l.p (Y.toNat*2) 2=some [uL Z,uL w]/\TT 16 #[uA #[uI O,uL P,uI Q,uI U],uD a b c d g i j k,uA #[uL Z,uL w]] t λe h=>∃z n m r q f,e=rT #[uA #[uI z,uL n,uI m,uI r],uI q,uI f]/\Br (f=0) (Br (q=Y) (IR (Y+1)/\s [uI z,uL n,uI m,uI r,uI f,uB X,uI (Y+1)] h) (R KQ h)) (R KQ h))
def w3(a:KB)(b c d g i j k l:Sl)(o p:Int):MR:=λV R=>TB 8 #[] V λq V1=>Br (q=true) (TB 9 #[uD a b c d g i j k,uL l] V1 λr V2=>Br (r=true) (Br (o<8) (R KX V2) (Br (256<o) (R KX V2) (TT 10 #[uI o,uI (-1)] V2 λe E=>∃s u y z A,e=rT #[uA #[uI s,uL u,uI y,uI z],uI A]/\Br (A=0) (TB 11 #[uD a b c d g i j k,uL l] E λB v=>Br (B=true) (Br (o<32) (w3_0 a b c d g i j k l v s u y z R) (TL 13 #[uD a b c d g i j k,uL l] v λC K=>TB 14 #[uL C] K λD J=>Br (D=true) (Br (0<(l.n:Int)) (IR p/\IR ((l.n:Int)+1)/\¬((l.n:Int)+1)=0/\(0<=(0:Int)/\(0:Int)<=((p).tmod ((l.n:Int)+1))/\((p).tmod ((l.n:Int)+1))<=(l.c:Int))/\TT 12 #[uA #[uI s,uL u,uI y,uI z],uD a b c d g i j k,.slice (if(l.c:Int)=(0:Int)then l.p else Aa l.p ((0:Int).toNat*2)) (((p).tmod ((l.n:Int)+1))-0).toNat ((l.c:Int)-0).toNat] J λe t=>∃F G H L M,e=rT #[uA #[uI F,uL G,uI H,uI L],uI M]/\Br (M=0) ((0<=(0:Int)/\(0:Int)<=((p).tmod ((l.n:Int)+1))/\((p).tmod ((l.n:Int)+1))<=(C.c:Int))/\TB 15 #[uA #[uI F,uL G,uI H,uI L],uD a b c d g i j k,.slice (if(C.c:Int)=(0:Int)then C.p else Aa C.p ((0:Int).toNat*1)) (((p).tmod ((l.n:Int)+1))-0).toNat ((C.c:Int)-0).toNat] t λN w=>Br (N=true) (Lp [uI F,uL G,uI H,uI L,uI M,uB false,uI ((p).tmod ((l.n:Int)+1))] w λI n h=>∀O P Q U W X Y,I n [uI O,uL P,uI Q,uI U,uI W,uB X,uI Y] h->∀m:LMP,Nx I n m->Br (Y<(l.n:Int)) (w3_1 l Y h O P Q U a b c d g i j k m X R) (TB 15 #[uA #[uI O,uL P,uI Q,uI U],uD a b c d g i j k,uL C] h λZ f=>R (rV (uB Z)) f)) (R KQ w)) (R KQ t)) ((0<=(0:Int)/\(0:Int)<=(0:Int)/\(0:Int)<=(l.c:Int))/\TT 12 #[uA #[uI s,uL u,uI y,uI z],uD a b c d g i j k,.slice (if(l.c:Int)=(0:Int)then l.p else Aa l.p ((0:Int).toNat*2)) ((0:Int)-(0:Int)).toNat ((l.c:Int)-0).toNat] J λe t=>∃F G H L M,e=rT #[uA #[uI F,uL G,uI H,uI L],uI M]/\Br (M=0) ((0<=(0:Int)/\(0:Int)<=(0:Int)/\(0:Int)<=(C.c:Int))/\TB 15 #[uA #[uI F,uL G,uI H,uI L],uD a b c d g i j k,.slice (if(C.c:Int)=(0:Int)then C.p else Aa C.p ((0:Int).toNat*1)) ((0:Int)-(0:Int)).toNat ((C.c:Int)-0).toNat] t λN w=>Br (N=true) (Lp [uI F,uL G,uI H,uI L,uI M,uB false,uI 0] w λI n h=>∀O P Q U W X Y,I n [uI O,uL P,uI Q,uI U,uI W,uB X,uI Y] h->∀m:LMP,Nx I n m->Br (Y<(l.n:Int)) (w3_1 l Y h O P Q U a b c d g i j k m X R) (TB 15 #[uA #[uI O,uL P,uI Q,uI U],uD a b c d g i j k,uL C] h λZ f=>R (rV (uB Z)) f)) (R KQ w)) (R KQ t))) (R KX J))) (w3_0 a b c d g i j k l v s u y z R)) (R KQ E)))) (R KX V2)) (R KQ V1)
theorem x3{a:KB}{b c d g i j k l:Sl}{o p:Int}(h:w3 a b c d g i j k l o p V R):TT 3 #[uD a b c d g i j k,uL l,uI o,.int .u8 p] V R:=DB Tryz.func3 [] [(24,[9])] false (by kernel_rfl) (by kernel_rfl) h
end
end Go.Proofs
namespace Go.Proofs.YtgdmkmfchcflpaaGreatDoor
open Go Go.Sx Go.Proofs Go.ChangeShapes Go.WideShapes Go.ChangeAt Go.RowKit
theorem Pz{n:Int}(h:(Lit.int .u8 n).wf=true):0<=n/\n<=255:=by
 simp only[Lit.wf,zC,decide_eq_true_eq]at h;exact⟨h.1,h.2⟩
end Go.Proofs.YtgdmkmfchcflpaaGreatDoor
namespace Go.Proofs
open Go Go.Sx
attribute [local irreducible] Go.Sx.Tri
section
variable{V V' D:Mem}{d:Ds}{o u l:Sl}{xs ys:List (List Int)}{ms:List Mm}{page tg:Int}{x y:Mm}
theorem CT.pre{i:Nat}(h:CT V l ms)(hi:i<=ms.length):CT V ⟨if(l.c:Int)=(0:Int)then l.p else Aa l.p ((0:Int).toNat*2),((i:Int)-0).toNat,((l.c:Int)-0).toNat⟩ (ms.take i):=by
 have:=Ad.pre (h.rows.post (j:=0) (by omega)) (i:=i) (by rw[wu];exact hi);rw[wu]at this;exact⟨this,λm hm=>h.ok m (wW hm)⟩
end
section
variable{V:Mem}{d:Ds}{o l:Sl}{ms:List Mm}{page tg:Int}
theorem keep_main[hT:Tab V](hd:Ds.Ok V d)(K:CT V l ms)(S:Ls V o (ms.map (Ai d)))(hr:AL d)(hok:Cr d ms=true)(b:roomP (ms.map (Ai d))=true)(hn:ms.length<=8)(h32:32<=page)(T:page<=256){f:Nat}(hf:f<=ms.length){z:Int}(hz:z=(f:Int)){R:Ending->Mem->Prop}(hR:∀V',V.sub V'->R (.returned (.bool true)) V'):
  (0<=(0:Int)/\(0:Int)<=z/\z<=(l.c:Int))/\TT 12 #[uA #[uI page,uL Ah,uI 0,uI (-1)],uA #[uS d.name,uL d.ts,uL d.gs,uL d.ps,uL d.ms,uL d.is,uL d.qs,uL d.bs],.slice (if(l.c:Int)=(0:Int)then l.p else Aa l.p ((0:Int).toNat*2)) (z-0).toNat ((l.c:Int)-0).toNat] V λe V7=>∃O A M F L,e=rT #[uA #[uI O,uL A,uI M,uI F],uI L]/\
   Br (L=0)
   ((0<=(0:Int)/\(0:Int)<=z/\z<=(o.c:Int))/\TT 15 #[uA #[uI O,uL A,uI M,uI F],uA #[uS d.name,uL d.ts,uL d.gs,uL d.ps,uL d.ms,uL d.is,uL d.qs,uL d.bs],.slice (if(o.c:Int)=(0:Int)then o.p else Aa o.p ((0:Int).toNat*1)) (z-0).toNat ((o.c:Int)-0).toNat] V7 λe V8=>∃U,e=rV (uB U)/\
   Br (U=true)
   (∃(I:Nat->KZ)(n0:Nat),I n0 [uI O,uL A,uI M,uI F,uI L,uB false,uI z] V8/\∀n H,∀G N Z Y v31 X t,I n [uI G,uL N,uI Z,uI Y,uI v31,uB X,uI t] H->∀J0:KZ,(∀m ys V'',m<n->I m ys V''->J0 ys V'')->
   Br (t<(l.n:Int))
   (¬l.p=none/\0<=t/\t<(l.n:Int)/\∃a v35,H.rowp l.p (t.toNat*2) 2=some [uL a,uL v35]/\
   TT 16 #[uA #[uI G,uL N,uI Z,uI Y],uA #[uS d.name,uL d.ts,uL d.gs,uL d.ps,uL d.ms,uL d.is,uL d.qs,uL d.bs],uA #[uL a,uL v35]] H λe r=>∃v36 v37 v38 v39 v40 B,e=rT #[uA #[uI v36,uL v37,uI v38,uI v39],uI v40,uI B]/\
   Br (B=0)
   (Br (v40=t)
   (IR (t+1)/\J0 [uI v36,uL v37,uI v38,uI v39,uI B,uB X,uI (t+1)] r)
   (R KQ r))
   (R KQ r))
   (TT 15 #[uA #[uI G,uL N,uI Z,uI Y],uA #[uS d.name,uL d.ts,uL d.gs,uL d.ps,uL d.ms,uL d.is,uL d.qs,uL d.bs],uL o] H λe r=>∃a,e=rV (uB a)/\
   R (rV (uB a)) r))
   (R KQ V8))
   (R KQ V7):=by
 subst hz;have w:=EU.1 hok;obtain⟨codes,g⟩:∃codes,codes=ms.map (Ai d):=⟨_,rfl⟩;have hcl:codes.length=ms.length:=by rw[g,wq]
 rw[<-g]at S b;obtain⟨hrm1,hrm2⟩:=JX b;have C:∀i,(ms.take i).map (Ai d)=codes.take i:=λi=>by rw[g,List.map_take]
 have A0:AX (By page (-1)) []:=JA h32 T (by decide) (by decide);have hln:=K.rows.n_eq;have hlc:=K.rows.cap;have hon:=S.n;obtain⟨ss,hs1,hs2,-⟩:=S.at_;have hoc:=hs1.cap;refine⟨⟨by omega,by omega,by omega⟩,?_⟩;refine Tri.mono (JY (k:=By page (-1)) (s:=Ah) hd Bt.nil (by simp[By]) (K.pre hf)) ?_;rintro _ V7 ⟨s7,t7,rfl,W⟩;rw[FH hr (λm hm=>w m (wW hm)) A0.ok,C]at W⊢;have hsum:=GO codes f;obtain⟨k1,hk1,A1,C1,hp1,ha1⟩:=A0.adds0 (l:=codes.take f) JP (by decide) (by rw[vX];omega) (by rw[vX,wX];omega) rfl;rw[vX]at A1;rw[hk1]at W⊢;haveI:Tab V7:=Tab.sub (V:=V) inferInstance s7;refine⟨_,t7,_,_,_,rfl,λ_=>⟨⟨by omega,by omega,by omega⟩,?_⟩,λh=>absurd rfl h⟩;have Q:=S.pre (i:=f) (by omega);rw[<-C]at Q A1;refine(JZ (hd.sub s7) A1 W (Q.sub s7) hr (λm hm=>w m (wW hm)) (by rw[wX];omega)).call ⟨_,rfl,λ_=>?_,λh=>absurd rfl h⟩;rw[C]at A1;refine⟨λmm xs H=>∃(i:Nat)(k:Dk)(s:Sl)(q:Nat),mm=ms.length-i/\i<=ms.length/\xs=[.int .i64 k.page,.slice s.p s.n s.c,.int .i64 k.syn,.int .i64 k.aft,.int .i64 0,.bool false,.int .i64 i]/\V.sub H/\Bt H s k.data/\AX k (codes.take i)/\q<=i+1/\DI k q/\k.aft=-1,ms.length-f,
  ⟨f,k1,t7,_,rfl,hf,rfl,s7,W,A1,by omega,C1,ha1⟩,?_⟩
 rintro mm H G N Z Y v31 X t ⟨i,k,s,q,rfl,hi,hxs,P,hb9,A9,hq,C9,ha9⟩ J hJ;simp only[List.cons.injEq,and_true]at hxs;obtain⟨q1,q2,q3,q4,q5,q6,q7⟩:=hxs;cases Ax _ _ q1;cases AG _ _ q2;cases Ax _ _ q3;cases Ax _ _ q4;cases Ax _ _ q5;cases q6;cases Ax _ _ q7;haveI:Tab H:=Tab.sub (V:=V) inferInstance P;have hl9:=(BF A9.ok).2.2.1;refine⟨λE=>?_,λhge=>?_⟩
 ·obtain⟨m,hm,hmi,-,hil,hp,hz,hrow⟩:=(K.rows.sub P).get E;refine⟨hp,hz,E,m.gs,m.ns,hrow,Tri.mono (GN (k:=k) (hd.sub P) hb9 (by omega) ((K.ok m hm).sub P)) ?_⟩;rintro _ r ⟨s10,t10,rfl,j⟩;have hci:codes[i]?=some (Ai d m):=by rw[g,List.getElem?_map,hmi];rfl
  have v:codes.take i++[Ai d m]=codes.take (i+1):=by rw[List.take_add_one,hci];rfl
  rw[FH hr (λx hx=>by rw[List.mem_singleton.1 hx];exact w m hm) A9.ok]at j⊢;have hmap:[m].map (Ai d)=[Ai d m]:=rfl;rw[hmap]at j⊢;have hsum:=GO codes (i+1);obtain⟨k2,hk2,A2,C2,hp2,ha2⟩:=A9.adds0 (l:=[Ai d m]) C9 (by omega) (by rw[v];omega) (by rw[v,wX];omega) ha9;rw[hk2]at j⊢;rw[v]at A2;refine⟨_,t10,_,_,_,_,rfl,λ_=>⟨λ_=>⟨K.rows.succ E,hJ _ _ _ (show ms.length-(i+1)<ms.length-i by omega) ⟨i+1,k2,t10,_,rfl,hil,rfl,P.trans s10,j,A2,by omega,C2,ha2⟩⟩,λh=>absurd ?_ h⟩,λh=>absurd rfl h⟩;show((codes.take i).length:Int)=(i:Int);rw[wX];omega
 ·have hie:codes.take i=codes:=List.take_of_length_le (by omega);rw[hie,g]at A9;rw[g]at S;refine(JZ (hd.sub P) A9 hb9 (S.sub P) hr w (by omega)).call ⟨_,rfl,hR _ P⟩
theorem c3[T:Tab V](q:Ds.Ok V d)(i:CT V l ms)(X:0<=tg/\tg<=255):PP 3 [d.v,l.v,.int .i64 page,.int .u8 tg] V (.bool true):=by
 obtain⟨R,F⟩:∃R:Ending->Mem->Prop,R=λe V'=>e=.returned (.bool true)/\V.sub V':=⟨_,rfl⟩;refine AP.mk ?_;rw[<-F];have z:∀{V'},V.sub V'->R (.returned (.bool true)) V':=λh=>by rw[F];exact⟨rfl,h⟩
 refine x3 ?_;unfold w3;refine c8.call ⟨_,rfl,λ_=>?_,λh=>absurd rfl h⟩;refine Tri.mono (c9 q i) ?_;rintro _ V2 ⟨rfl,B,rfl,N⟩;refine⟨B,rfl,λY=>⟨λ_=>z (Mem.sub.refl _),λC=>⟨λ_=>z (Mem.sub.refl _),λW=>?_⟩⟩,λ_=>z (Mem.sub.refl _)⟩;have N:=N Y;have L:=JB (V:=V) (page:=page) (aft:=-1);rw[if_pos ⟨by omega,by omega,by decide,by decide⟩]at L;have p:=c11 q i;have bad:∀{a:Sl}{Q:Mem},Bt Q a []->(a.n:Int)=0:=λh=>by rw[h.n];rfl
 refine L.call ⟨page,Ah,0,-1,0,rfl,λ_=>p.call ⟨_,rfl,λg=>⟨λH=>p.call ⟨_,rfl,λ_=>?_,λh=>absurd g h⟩,λH=>?_⟩,λg=>p.call ⟨_,rfl,λh=>absurd h g,λ_=>?_⟩⟩,λh=>absurd rfl h⟩
 ·have g:(decide (AL d)&&Cr d ms)=true:=g;rw[zC]at g;have c:AL d:=of_decide_eq_true g.1;refine Tri.mono (JY (k:=By page (-1)) (s:=Ah) q Bt.nil (by simp[By]) i) ?_;rintro _ Q ⟨P,a,rfl,j⟩;have O:AY (By page (-1))=true:=decide_eq_true ⟨show 8<=page by omega,show page<=256 by omega,by simp[By],by simp[By],by simp[By],by simp[By],by simp[By]⟩;have b:CU d (By page (-1)) ms=(Ca,0,30):=by
   rw[FH c (EU.1 g.2) O];unfold DH;rw[if_pos (show(By page (-1)).page<32 from H)]
  rw[b]at j⊢;exact⟨_,a,_,_,_,rfl,λ_=>⟨λh=>absurd h (by decide),λ_=>⟨λ_=>z P,λh=>absurd (bad j) h⟩⟩,λh=>absurd rfl h⟩
 ·have g:(decide (AL d)&&Cr d ms)=true:=g;rw[zC]at g;have c:AL d:=of_decide_eq_true g.1;have J:=EU.1 g.2;refine Tri.mono (It q i c g.2 (by omega)) ?_;rintro _ E ⟨o,D,rfl,A,Z⟩;have r:=A.trans Z.sub;have I:=Ly Z.ls (by rw[wq];omega) λx K=>by
   obtain⟨m,hm,rfl⟩:=List.mem_map.1 K;exact Gb ⟨c.1,c.2,J m hm⟩
  haveI:Tab E:=Tab.sub (V:=V) inferInstance r;have M:=i.rows.n_eq;refine⟨o,rfl,I.call ⟨_,rfl,λw=>⟨λG=>?_,λG=>?_⟩,λ_=>z r⟩⟩
  ·have w:roomP (ms.map (Ai d))=true:=w;obtain⟨t,rfl⟩:∃t:Nat,tg=t:=⟨tg.toNat,by omega⟩;have e:((t:Int)).tmod ((l.n:Int)+1)=((t % (ms.length+1):Nat):Int):=by
    rw[Int.tmod_eq_emod_of_nonneg (by omega),M];rfl
   have S:=Nat.mod_lt t (show ms.length+1>0 by omega);refine⟨⟨by omega,by omega⟩,⟨by omega,by omega⟩,by omega,?_⟩;exact keep_main (q.sub r) (i.sub r) Z.ls c g.2 w N (by omega) (by omega) (f:=t % (ms.length+1)) (by omega) e λV' h=>z (r.trans h)
  ·exact keep_main (q.sub r) (i.sub r) Z.ls c g.2 w N (by omega) (by omega) (f:=0) (by omega) rfl λV' h=>z (r.trans h)
 ·refine Tri.mono (JY (k:=By page (-1)) (s:=Ah) q Bt.nil (by simp[By]) i) ?_;rintro _ Q ⟨P,a,rfl,j⟩;have b:CU d (By page (-1)) ms=(Ca,0,1):=by
   unfold CU;rw[if_neg λh=>g ?_];show(decide (AL d)&&Cr d ms)=true;rw[decide_eq_true h.1,h.2.1];rfl
  rw[b]at j⊢;exact⟨_,a,_,_,_,rfl,λ_=>⟨λh=>absurd h (by decide),λ_=>⟨λ_=>z P,λh=>absurd (bad j) h⟩⟩,λh=>absurd rfl h⟩
end
end Go.Proofs
