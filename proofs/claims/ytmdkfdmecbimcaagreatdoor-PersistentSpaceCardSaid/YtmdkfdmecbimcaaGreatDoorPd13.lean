/- Part 13: no statement of the seat is proved here. -/
import Derived.Test.YtmdkfdmecbimcaaGreatDoorPd12
set_option linter.unusedVariables false
set_option linter.unusedSimpArgs false
open Go.Proofs.Tryz renaming prog->xS
open Prod renaming ext->wA
open List renaming mem_iff_getElem?->wG,getElem?_eq_some_iff->yj,getElem?_eq_getElem->yi,mem_of_getElem?->x8,getElem?_append_left->wK,take_of_length_le->xc,length_map->wI,getD_cons_zero->wC,replicate->yT,take_add_one->vM,length_append->zI,getElem?_zip_eq_some->vf,length_zip->ve,mem_append_left->uC,mem_cons_of_mem->yB,mem_cons_self->yA,filter_cons->yD,mem_cons->yH,mem_map->uE,mem_append->wL,mem_singleton->zR,any_eq_false->xo,getElem?_map->xI,zip_nil_left->uF,zip_cons_cons->wv,getElem_mem->yd,findIdx?_append->uG,findIdx?_eq_none_iff->uH,getElem?_eq_none_iff->uJ
open Int renaming toNat_natCast->xa,toNat_of_nonneg->uK
open Go.Value renaming int->wP
open Go.Ending renaming returned->xV
open Bool renaming and_eq_true->zC,not_eq_true'->zz
open Nat renaming not_lt_zero->xq
open Option.some renaming inj->vk
open Prod.mk renaming inj->vO
namespace Go.Proofs
open Go Go.Sx
attribute [local irreducible] Go.Sx.Tri
section
variable{V0 W V V1:Mem}{d:Ds}{p F c q:Nat}{s:St}{pr:Pr}{vals:List Int}
theorem failW{c:Int}(u:V0.sub W)(M:XM W d p F V s c 0){k:Int}(z:k≠0){G:Rx Int}(H:G=.bad k s):Tri xS 104 #[pv p,.int .i64 k] V λe V'=>∃v,e=.returned (.int .i64 v)/\XR V0 d p F c G (.returned (.int .i64 v)) V':=
 Tri.mono (failX M z H) λ_ _ ⟨v,J,h⟩=>⟨v,J,h.narrow u⟩
theorem exprX0{n:Nat}(hR:XCallC d p F n):∀(e:E)(V0 V:Mem)(s:St)(c q:Nat)(pr:Pr)(vals:List Int),Yx V0 d p F c q pr vals n (AB e) V s->VE e->E.Ok V0 e->((∃t,Aw d (Av d pr) e=(t,0))∨(e.op=7/\∃pr' i,CallK d (Av d pr) e pr' i))->
  Tri xS 193 #[pv p,pv q,e.v] V (XR V0 d p F c (Dd d (CF d (AW d F n) c) pr vals e s)):=by
 intro e;induction e using E.ind with
 |h e ih=>
 intro V0 V s c q pr vals X hv he ht;have L0:=X.M.sub;obtain⟨f,hf⟩:∃f,f=Dd d (CF d (AW d F n) c) pr vals:=⟨_,rfl⟩;obtain⟨G,P⟩:∃G:Rx Int,G=Dc d (CF d (AW d F n) c) pr vals (intB d (Av d pr) e.k) e.op e.n e.s (e.k.map f) s:=⟨_,rfl⟩;rw[evX_eq,<-hf,<-P];have hcs:=H9 X.S.procs (Gi (F:=F) X.S.procs n) c;have hsz:=szE_eq e;have K:∀{i:Nat}{a:E},e.k[i]?=some a->BP (e.k.map f) i=f a:=λh=>KN h;have kid:∀{a:E}{u:KB}{W V1:Mem}{C:St},a∈e.k->Aw d (Av d pr) a=(u,0)->V0.sub W->Yx W d p F c q pr vals n (AB a) V1 C->Tri xS 193 #[pv p,pv q,.agg #[.int .i64 a.op,.int .i64 a.n,.string a.s,.slice a.l.p a.l.n a.l.c]] V1 (XR W d p F c (f a C)):=λ{a u W V1 C} hm A U X1=>by
  rw[hf];exact ih a hm W V1 C c q pr vals X1 (hv.kids a hm) ((he.kids a hm).sub U) (.inl ⟨u,A⟩)
 have snd:∀{a:E}{u:KB}{C:St}{m:Nat},a∈e.k->Aw d (Av d pr) a=(u,0)->Ar d C.mm->Gr F m s C->AR d F (AB a) C (f a C) λv s'=>BZ d s'.mm u v:=λhm A G1 g1=>by
  rw[hf];exact IT X.S.procs hcs X.po _ _ _ (hv.kids _ hm) A G1 (Cb (λh=>g1.right h) X.hv)
 have hkt:∀a∈e.k,Aw d (Av d pr) a=((Aw d (Av d pr) a).1,0):=λa A=>by
  rcases ht with⟨t,ht⟩|⟨-,pr',i,hc⟩;·exact wA rfl ((OK ht).1 a A)
  ·obtain⟨j,hj⟩:=wG.1 A;have hjl:=(yj.1 hj).1;rw[hc.len]at hjl;obtain⟨u,hu,-⟩:=hc.fit j a _ hj (yi hjl);rw[hu]
 have Y:(∃t,DU d (Av d pr) e t/\e.op≠7)∨(e.op=7/\∃pr' i,CallK d (Av d pr) e pr' i):=by
  rcases ht with⟨t,ht⟩|h
  ·by_cases h7:e.op=7
   ·right;cases kindX (sc:=Av d pr) rfl hv ht with
    |call h hc hr=>grind
    |int h hn=>omega
    |bool h hn=>omega
    |nil h hn=>omega
    |var h hl hne=>omega
    |fld h=>omega
    |new h=>omega
    |neg h=>omega
    |not h=>omega
    |log h=>omega
    |and h=>omega
    |or h=>omega
    |cond h=>omega
    |eq h=>omega
    |cmp h=>omega
    |ari h=>omega
   ·exact .inl ⟨t,kindX (sc:=Av d pr) rfl hv ht,h7⟩
  ·exact .inr h
 have hall:∀j:Nat,((e.k.take j).map AB).sum<=(e.k.map AB).sum:=λj=>by
  have:=congrArg (λl=>(l.map AB).sum) (List.take_append_drop j e.k);grind
 refine Tri.mono (x193 (R:=XR V0 d p F c G) ?_) λ_ _ h=>h;refine⟨nn,nn,_,X.M.fault,λ_=>?_,λh=>absurd rfl h⟩;have lz:(e.op=19∨e.op=20∨e.op=21)->∀{a a1:E},e.k[0]?=some a->e.k[1]?=some a1->(e.op=21->∃a2,e.k[2]?=some a2)->(∀{i:Nat}{y:E},i≠0->e.k[i]?=some y->AB a+AB y<=AB e)->
   Tri xS 238 #[pv p,pv q,e.v] V λe' V'=>∃v,e'=.returned (.int .i64 v)/\XR V0 d p F c G (.returned (.int .i64 v)) V':=λhop {a a1} T h1 h2 hle=>by
  refine XR.last rfl (lazyX X he hop P T h1 h2 λ{i y V1 C} hy hc=>?_);have hm:=x8 hy;rcases hc with⟨rfl,rfl,rfl⟩|⟨hi,v,I,M1⟩
  ·rw[T]at hy;cases hy;have:AB a<=AB e:=by grind
   exact kid hm (hkt _ hm) (Mem.sub.refl _) (X.le this)
  ·have A:=x8 T;obtain⟨G1,g1,-⟩:=(snd A (hkt _ A) X.G (Gr.refl s)).got I;exact kid hm (hkt _ hm) (Mem.sub.refl _) ((X.le (k:=AB a+AB y) (hle hi hy)).next g1 G1 M1)
 by_cases hE:e.op=1∨e.op=2∨e.op=3∨e.op=4∨e.op=6∨e.op=19∨e.op=20∨e.op=21
 ·rcases Y with⟨t,Y,h7⟩|⟨h7,-⟩;rotate_left;·omega
  cases Y with
  |int h hn=>exact AK h (XR.ok (P.trans (IN (.inl h))) X.M)
  |bool h hn=>exact Ai (by omega) (AK h (XR.ok (P.trans (IN (.inr h))) X.M))
  |nil h hn=>exact Ai (by omega) (Ai (by omega) (AK h (XR.ok (P.trans (MD h)) X.M)))
  |var h hl hne=>exact Ai (by omega) (Ai (by omega) (Ai (by omega) (AK h (XR.last (P.trans (ME h)) (nameX (X.le (k:=0+1) (by omega)) hl hne)))))
  |new h hn=>exact Ai (by omega) (Ai (by omega) (Ai (by omega) (Ai (by omega) (AK h (XR.last (P.trans (MF h)) (allocX (X.le (k:=0+1) (by omega)) hn))))))
  |@and a b h H A hb=>
   refine Ai (by omega) (Ai (by omega) (Ai (by omega) (Ai (by omega) (Ai (by omega) (AK h (lz (.inl h) (a:=a) (a1:=b) (by rw[H];rfl) (by rw[H];rfl) (λh=>by omega) λ{i y} hi hy=>?_))))));grind
  |@or a b h H A hb=>
   refine Ai (by omega) (Ai (by omega) (Ai (by omega) (Ai (by omega) (Ai (by omega) (Ai (by omega) (AK h (lz (.inr (.inl h)) (a:=a) (a1:=b) (by rw[H];rfl) (by rw[H];rfl) (λh=>by omega) λ{i y} hi hy=>?_)))))));grind
  |@cond a b c' _ u w h H A hb hc hu hw htt=>
   refine Ai (by omega) (Ai (by omega) (Ai (by omega) (Ai (by omega) (Ai (by omega) (Ai (by omega) (Ai (by omega) (AK h (lz (.inr (.inr h)) (a:=a) (a1:=b) (by rw[H];rfl) (by rw[H];rfl) (λ_=>⟨c',by rw[H];rfl⟩) λ{i y} hi hy=>?_))))))));grind
  |fld h=>omega
  |call h=>omega
  |neg h=>omega
  |not h=>omega
  |log h=>omega
  |eq h=>omega
  |cmp h=>omega
  |ari h=>omega
 ·refine Ai (by omega) (Ai (by omega) (Ai (by omega) (Ai (by omega) (Ai (by omega) (Ai (by omega) (Ai (by omega) (Ai (by omega) ?_)))))));have hGb:∀{k:Int}{s2:St},Dv (e.k.map f) [] s=.bad k s2->G=.bad k s2:=λ{k s2} hb=>by
   have one:∀{a:E},e.k=[a]->f a s=.bad k s2:=λH=>by grind[sq1_bad]
   rcases Y with⟨t,Y,h7⟩|⟨h7,-⟩;rotate_left;·rw[P,IP h7,hb];rfl
   cases Y with
   |@fld _ u a h H A hf'=>rw[P,KO h,K (a:=a) (by rw[H];rfl),one H];rfl
   |call h hc hr=>omega
   |@neg a h H A=>rw[P,KP h,K (a:=a) (by rw[H];rfl),one H];rfl
   |@not a h H A=>rw[P,cX18 h,K (a:=a) (by rw[H];rfl),one H];rfl
   |@log a h H A=>rw[P,cX24 h,K (a:=a) (by rw[H];rfl),one H];rfl
   |@eq a b u w h H A hb' hf'=>rw[P,Gh (by omega),K (i:=0) (a:=a) (by rw[H];rfl),K (i:=1) (a:=b) (by rw[H];rfl)];rw[H]at hb;exact sq2_bad hb
   |@cmp a b h H A hb'=>rw[P,Gh (by omega),K (i:=0) (a:=a) (by rw[H];rfl),K (i:=1) (a:=b) (by rw[H];rfl)];rw[H]at hb;exact sq2_bad hb
   |@ari a b h H A hb'=>rw[P,Gh (by omega),K (i:=0) (a:=a) (by rw[H];rfl),K (i:=1) (a:=b) (by rw[H];rfl)];rw[H]at hb;exact sq2_bad hb
   |int h=>omega
   |bool h=>omega
   |nil h=>omega
   |var h=>omega
   |new h=>omega
   |and h=>omega
   |or h=>omega
   |cond h=>omega
  have hlen6:e.k.length<=2000:=by
   have h1:=he.rows.n_eq;rcases Y with⟨t,Y,h7⟩|⟨h7,pr',i,hc⟩;rotate_left;·rw[hc.len];have:=OS X.S.procs hc.at_;omega
   cases Y with
   |@fld _ u a h H A hf'=>rw[H];simp
   |call h hc hr=>omega
   |@neg a h H A=>rw[H];simp
   |@not a h H A=>rw[H];simp
   |@log a h H A=>rw[H];simp
   |@eq a b u w h H A hb' hf'=>rw[H];simp
   |@cmp a b h H A hb'=>rw[H];simp
   |@ari a b h H A hb'=>rw[H];simp
   |int h=>omega
   |bool h=>omega
   |nil h=>omega
   |var h=>omega
   |new h=>omega
   |and h=>omega
   |or h=>omega
   |cond h=>omega
  refine loop3u (mk:=λs:Sl=>.slice s.p s.n s.c) (mc:=.int .i64) (b0:=⟨none,0,0⟩) (c0:=0) Bb BX e.k.length (λj sl _ V1=>∃W acc C,V0.sub W/\Sx.Own V0 W 3 1 sl (acc.flatMap Ah)/\XM W d p F V1 C c 0/\acc.length=j/\Ar d C.mm/\Gr F ((e.k.take j).map AB).sum s C/\(∀(i:Nat) a v,e.k[i]?=some a->acc[i]?=some v->BZ d C.mm (Aw d (Av d pr) a).1 v)/\
   Dv (e.k.map f) [] s=Dv ((e.k.drop j).map f) acc C) ⟨V0,[],s,Mem.sub.refl _,Own.nil (Mem.sub.refl _) _ _,X.M,rfl,X.G,by simpa using Gr.refl s,λi a v _ h=>by simp at h,rfl⟩ ?_
  rintro j sl z V1 J hj ⟨W,acc,C,U,ho,M1,hacc,G1,g1,ha1,N⟩ hJ;have heW:=(he.sub U).sub M1.sub;refine⟨λhlt=>?_,λhge=>?_⟩
  ·obtain⟨a,ham,A,hdr,hjl,hp,hz,hrow⟩:=heW.rows.get hlt;have hu:=hkt a ham;have hsum:((e.k.take (j+1)).map AB).sum=((e.k.take j).map AB).sum+AB a:=by grind
   have X1:Yx W d p F c q pr vals n (AB a) V1 C:=by
    have X':=X.le (k:=((e.k.take j).map AB).sum+AB a) (by grind);exact⟨X.S.sub U,X.fr.sub U,X.pm,G1,Cb (λh=>g1.right h) X.hv,M1,g1.fu X.tk,by have:=g1.tk;have:=X.n;omega,X'.w.next g1⟩
   rw[hdr,List.map_cons]at N;have hseq':Dv (e.k.map f) [] s=(f a C).bind λv st=>Dv ((e.k.drop (j+1)).map f) (acc++[v]) st:=N;refine⟨hp,hz,hlt,_,_,_,_,hrow,XR.any (kid ham hu U X1) λv kf s2 V2 M2 hc=>λtb htb=>?_⟩;have ho2:Sx.Own V0 V2 3 1 sl (acc.flatMap Ah):=Own.moveB ho (U.trans M2.sub) λg cur _ hg=>M2.sub _ _ hg;refine Eu (s:=sl) (u:=⟨some ⟨tb,0,none⟩,1,1⟩) (xs:=acc) (ys:=[v]) rfl rfl (ho2.but.new htb (.cells #[.int .i64 v] 3 (0,0))) (IU Au) (by simp;omega) λo3 V3 ho3=>⟨o3,rfl,?_⟩;obtain⟨W',hW',M3,ho4⟩:=M2.beside U ho ho3;refine⟨nn,nn,_,XM.fault M3,λhkf=>⟨heW.rows.succ hlt,hJ hjl _ _ _ ?_⟩,λhkf=>?_⟩
   ·rcases hc with⟨hk0,e2⟩|⟨h,-⟩;rotate_left;·omega
    subst hk0;obtain⟨G2,g2,hv2⟩:=(snd ham hu G1 g1).got e2;refine⟨W',acc++[v],s2,hW',ho4,M3,by grind,G2,by rw[hsum];exact g1.trans g2,λi b w hb hw=>?_,by rw[hseq',e2];rfl⟩;by_cases hi:i<acc.length
    ·rw[wK hi]at hw;exact g2.val (ha1 i b w hb hw)
    grind
   ·have hkf:¬kf=0:=hkf;rcases hc with⟨h,-⟩|⟨-,rfl,e2⟩;·omega
    exact(XR.bad (hGb (by rw[hseq',e2];rfl)) hkf M3).narrow hW'
  ·have hdn:=(heW.rows.done hge).2;rw[xc hdn]at g1;rw[List.drop_eq_nil_of_le hdn]at N;have N:Dv (e.k.map f) [] s=.ok acc C:=N;obtain⟨gs,ns,ls,nd,hat,L⟩:=M1.ex;have hd:=(X.S.sub U).ds.sub L.sub;have hoR:Ab W sl 1 (acc.map Ah):=ho.rows (λ_=>rfl) (by decide);have X1:Yx W d p F c q pr vals n 1 V1 C:=by
    have X':=X.le (k:=(e.k.map AB).sum+1) (by omega);exact⟨X.S.sub U,X.fr.sub U,X.pm,G1,Cb (λh=>g1.right h) X.hv,M1,g1.fu X.tk,by have:=g1.tk;have:=X.n;omega,X'.w.next g1⟩
   have at_:∀{i:Nat}{v:Int}{V':Mem},acc[i]?=some v->W.sub V'->¬sl.p=none/\(0:Int)<=(i:Int)/\(i:Int)<(sl.n:Int)/\V'.rowp sl.p (i*1) 1=some [.int .i64 v]:=λh hs=>FS (hoR.sub hs) h;rcases Y with⟨t,Y,h7⟩|⟨h,pr',i,hc⟩;rotate_left
   ·have Z:=P.trans (IP h);rw[N,hc.idx]at Z;have Z:G=CF d (AW d F n) c (i:Int) acc C:=Z;refine Ai (by omega) (AK h ⟨nn,nn,_,_,_,_,_,_,_,_,Aj hat 0 8 (by simp[AD]),(Ho hd).call ⟨_,rfl,?_⟩⟩);rw[show BH (λt:Pr=>decide (t.name=e.s)) d.procs=(i:Int)from hc.idx];have hkn:=KY X.S.procs hc.at_;refine lastW U Z (hR W V1 C c i pr' acc sl (X.S.sub U) hc.at_ G1 (Ci.2 ⟨by rw[<-hc.len];omega,λjj g v hg hv=>?_⟩) hoR M1 (g1.fu X.tk) (by have:=g1.tk;have:=X.n;omega) (X1.w.le (by omega)));have hjl:=(yj.1 hg).1;rw[<-hc.len]at hjl;obtain⟨u,hu,hfit⟩:=hc.fit jj _ _ (yi hjl) hg;have:=ha1 jj _ v (yi hjl) hv;rw[hu]at this;exact(Gg X.S.valid (hkn _ (x8 hg))).1 (Hr X.S.valid hfit this)
   cases Y with
   |@fld _ u a h H A hf'=>
    have T:e.k[0]?=some a:=by rw[H];rfl
    have Z:=P;rw[KO h,K T]at Z;rw[H]at N;obtain⟨v,e1,rfl⟩:=sq1_ok N;rw[e1]at Z;have Z:G=fldX d v e.s C:=Z;have I:=ha1 0 a v T rfl;rw[A]at I;obtain⟨a1,a2,a3,a4⟩:=at_ (i:=0) (v:=v) rfl L.sub;refine AK h ⟨a1,by decide,a3,_,a4,λhz=>failW U M1 (by decide) ?_,λhz=>?_⟩;·grind[fldX]
    have hz:¬v=0:=hz;obtain⟨k,i,jj,tt,g,fs,w,rfl,e2,e3,e4,e5,e6,e7,e8,e9,-⟩:=IS X1.G hf' I hz;refine⟨a1,by decide,a3,_,a4,(c239 X1.S M1 e2 e3).call ⟨_,rfl,a1,by decide,a3,_,a4,?_⟩⟩;rw[e6];refine Tri.mono (c240 M1 (X1.fit (m:=0))) ?_;rintro _ V3 ⟨rfl,M3⟩;obtain⟨gs3,ns3,ls3,nd3,sl3,hat3,L3,-,hI,n1,n2,n3,n4,m1,m2,m3,m4⟩:=nodeX M3 (k:=k) (i:=i) e2 e8;obtain⟨b1,b2,b3,b4⟩:=at_ (i:=0) (v:=(k:Int)+1) rfl L3.sub;refine⟨rfl,nn,nn,AM,ns3,Aj hat3 9 1 (by simp[AD]),b1,by decide,b3,_,b4,?_⟩;rw[show((k:Int)+1-1)=(k:Int)by omega];refine⟨hI,n1,n2,n3,Al n1,_,_,n4,m1,m2,m3,_,m4,(XR.ok ?_ M3).narrow U⟩;rw[Z];unfold fldX;rw[if_neg hz,show((k:Int)+1-1).toNat=k by omega,e2];grind[xa]
   |call h hc hr=>omega
   |@neg a h H A=>
    have T:e.k[0]?=some a:=by rw[H];rfl
    have Z:=P;rw[KP h,K T]at Z;rw[H]at N;obtain⟨v,e1,rfl⟩:=sq1_ok N;rw[e1]at Z;have Z:G=DM (CK (-v)) C:=Z;have I:=ha1 0 a v T rfl;rw[A]at I;have:=EI.1 I;rw[<-Int.zero_sub]at Z;obtain⟨a1,a2,a3,a4⟩:=at_ (i:=0) (v:=v) rfl L.sub;exact Ai (by omega) (Ai (by omega) (AK h ⟨a1,by decide,a3,_,a4,⟨by omega,by omega⟩,lastW U Z (c241 M1)⟩))
   |@log a h H A=>
    have T:e.k[0]?=some a:=by rw[H];rfl
    have Z:=P;rw[cX24 h,K T]at Z;rw[H]at N;obtain⟨v,e1,rfl⟩:=sq1_ok N;rw[e1]at Z;have Z:G=.ok (DE v) C:=Z;have I:=ha1 0 a v T rfl;rw[A]at I;have:=EI.1 I;obtain⟨a1,a2,a3,a4⟩:=at_ (i:=0) (v:=v) rfl L.sub;exact Ai (by omega) (Ai (by omega) (Ai (by omega) (AK h ⟨a1,by decide,a3,_,a4,(c242 (by omega)).call ⟨_,rfl,(XR.ok Z M1).narrow U⟩⟩)))
   |@not a h H A=>
    have T:e.k[0]?=some a:=by rw[H];rfl
    have Z:=P;rw[cX18 h,K T]at Z;rw[H]at N;obtain⟨v,e1,rfl⟩:=sq1_ok N;rw[e1]at Z;have Z:G=.ok (1-v) C:=Z;have I:=ha1 0 a v T rfl;rw[A]at I;have:=E8.1 I;obtain⟨a1,a2,a3,a4⟩:=at_ (i:=0) (v:=v) rfl L.sub;exact Ai (by omega) (Ai (by omega) (Ai (by omega) (Ai (by omega) (AK h ⟨a1,by decide,a3,_,a4,⟨by omega,by omega⟩,(XR.ok Z M1).narrow U⟩))))
   |@eq a b u w h H A hb' hf'=>
    have T:e.k[0]?=some a:=by rw[H];rfl
    have h1:e.k[1]?=some b:=by rw[H];rfl
    have Z:=P;rw[Gh (by omega),K T,K h1]at Z;have hib:intB d (Av d pr) e.k=decide (u=Am):=by rw[H];show decide ((Aw d (Av d pr) a).1=Am)=_;rw[A]
    rw[hib]at Z;rw[H]at N;obtain⟨v,y,s',e1,e2,rfl⟩:=sq2_ok N;rw[e1]at Z;have Z:G=(f b s').bind λw st=>DM (Bh e.op v w) (DN (decide (u=Am)) e.op st):=Z;rw[e2]at Z;obtain⟨a1,a2,a3,a4⟩:=at_ (i:=0) (v:=v) rfl L.sub;obtain⟨b1,b2,b3,b4⟩:=at_ (i:=1) (v:=y) rfl L.sub;have fin:=lastW U Z (compareX (v:=v) (w:=y) (X1.le (k:=0+1) (by omega)) hv (he.sub U) T A (by omega));rcases h with h|h;·exact Ai (by omega) (Ai (by omega) (Ai (by omega) (Ai (by omega) (Ai (by omega) (AK h ⟨a1,by decide,a3,_,a4,b1,by decide,b3,_,b4,fin⟩)))))
    ·exact Ai (by omega) (Ai (by omega) (Ai (by omega) (Ai (by omega) (Ai (by omega) (Ai (by omega) (AK h ⟨a1,by decide,a3,_,a4,b1,by decide,b3,_,b4,fin⟩))))))
   |@cmp a b h H A hb'=>
    have T:e.k[0]?=some a:=by rw[H];rfl
    have h1:e.k[1]?=some b:=by rw[H];rfl
    have Z:=P;rw[Gh (by omega),K T,K h1]at Z;have hib:intB d (Av d pr) e.k=decide (Am=Am):=by rw[H];show decide ((Aw d (Av d pr) a).1=Am)=_;rw[A]
    rw[hib]at Z;rw[H]at N;obtain⟨v,y,s',e1,e2,rfl⟩:=sq2_ok N;rw[e1]at Z;have Z:G=(f b s').bind λw st=>DM (Bh e.op v w) (DN (decide (Am=Am)) e.op st):=Z;rw[e2]at Z;obtain⟨a1,a2,a3,a4⟩:=at_ (i:=0) (v:=v) rfl L.sub;obtain⟨b1,b2,b3,b4⟩:=at_ (i:=1) (v:=y) rfl L.sub;have fin:=lastW U Z (compareX (v:=v) (w:=y) (X1.le (k:=0+1) (by omega)) hv (he.sub U) T A (by grind));rcases h with h|h;·exact Ai (by omega) (Ai (by omega) (Ai (by omega) (Ai (by omega) (Ai (by omega) (Ai (by omega) (Ai (by omega) (AK h ⟨a1,by decide,a3,_,a4,b1,by decide,b3,_,b4,fin⟩)))))))
    ·exact Ai (by omega) (Ai (by omega) (Ai (by omega) (Ai (by omega) (Ai (by omega) (Ai (by omega) (Ai (by omega) (Ai (by omega) (AK h ⟨a1,by decide,a3,_,a4,b1,by decide,b3,_,b4,fin⟩))))))))
   |@ari a b h H A hb'=>
    have T:e.k[0]?=some a:=by rw[H];rfl
    have h1:e.k[1]?=some b:=by rw[H];rfl
    have Z:=P;rw[Gh (by omega),K T,K h1]at Z;rw[H]at N;obtain⟨v,y,s',e1,e2,rfl⟩:=sq2_ok N;rw[e1]at Z;have Z:G=(f b s').bind λw st=>DM (Bh e.op v w) (DN (intB d (Av d pr) e.k) e.op st):=Z;rw[e2]at Z;have Z:G=DM (Bh e.op v y) (DN (intB d (Av d pr) e.k) e.op C):=Z;unfold DN at Z;rw[if_neg (by omega)]at Z;have I:=ha1 0 a v T rfl;have hv2:=ha1 1 b y h1 rfl;rw[A]at I;rw[hb']at hv2;obtain⟨a1,a2,a3,a4⟩:=at_ (i:=0) (v:=v) rfl L.sub;obtain⟨b1,b2,b3,b4⟩:=at_ (i:=1) (v:=y) rfl L.sub;exact Ai (by omega) (Ai (by omega) (Ai (by omega) (Ai (by omega) (Ai (by omega) (Ai (by omega) (Ai (by omega) (Ai (by omega) (Ai (by omega) ⟨a1,by decide,a3,_,a4,b1,by decide,b3,_,b4,lastW U Z (c244 M1 h (EI.1 I) (EI.1 hv2))⟩))))))))
   |int h=>omega
   |bool h=>omega
   |nil h=>omega
   |var h=>omega
   |new h=>omega
   |and h=>omega
   |or h=>omega
   |cond h=>omega
theorem exprX{n:Nat}(k:XCallC d p F n):XExprC d p F n:=λe t V0 V s c q pr vals X hv u z=>exprX0 k e V0 V s c q pr vals X hv u (.inl ⟨t,z⟩)
end
section
variable{W V0 V V1 V':Mem}{d:Ds}{p F c q:Nat}{s:St}{pr:Pr}{vals:List Int}
structure Ee (W V0:Mem)(q:Nat)(pr:Pr)(vals:List Int)(r:Option Int):Prop where
 sub:W.sub V0
 q0:W q=none
 ex:∃a b:Sl,V0 q=some (.cells (Dj pr a b r).toArray 223 (0,0))/\Ab W a 2 (pr.vars.map Fld.row)/\Sx.Own W V0 3 1 b (vals.flatMap Ah)
theorem Ee.gv(h:Ee W V0 q pr vals none):Gv V0 q pr vals:=by
 obtain⟨a,b,h1,h2,h3⟩:=h.ex;exact⟨a,b,h1,h2.sub h.sub,h3.rows (λ_=>rfl) (by decide)⟩
theorem Nf{b:Sl}{vs:List Value}(own:Sx.Own W V0 3 1 b vs)(q0:W q=none){x:Array Value}(u:V0 q=some (.cells x 223 (0,0)))(o:Obj):Sx.Own W (V0.set q o) 3 1 b vs:=
 Own.moveB own (own.sub.set q0 _) λg cur _ k=>by
  rw[Mem.set_ne];exact k;grind
theorem frStoreX{ty:Nat}{row:Sl->Sl->Sl->List Value}{b:Sl}(own:Sx.Own W V0 3 1 b (vals.flatMap Ah))(M:MA ty V0 p row V s){i:Nat}(hi:i<vals.length){v:Int}{Q:Mem->Prop}
  (H:∀k V',Sx.Own W k 3 1 b ((vals.set i v).flatMap Ah)->MA ty k p row V' s->(∀x,¬AP b x->k x=V0 x)->Q V'):Ak (Aa b.p (i*1)) 0 [.int .i64 v] V Q:=by
 rw[Nat.mul_one];rcases own.cases0 with⟨h1,h2,h3⟩|⟨J,g,cur,h1,h2,h3,h4,N,A,Z⟩
 ·rw[CP]at h3;have:vals=[]:=by simpa using h3
  rw[this]at hi;simp at hi
 have Y:b.n*1<=b.c*1:=Nat.mul_le_mul_right _ h4;have z:=own.len;rw[CP,wI]at z;have u:V0 g≠none:=by rw[h3];simp
 rw[h1];have e:(cur.toList.take i++[wP .i64 v]++cur.toList.drop (i+1))=cur.toList.set i (.int .i64 v):=K0 _ _ _ (by simp;omega);refine Ak.at2 (off:=i) (M.sub _ _ h3) (by simp;omega) (H (V0.set g _) _ ⟨own.sub.set h2 _,?_,.inr ⟨g,_,h1,h2,Mem.set_same _ _ _,h4,N,?_,?_⟩⟩ (M.poke u _) λx P=>?_);·rw[CP,wI,List.length_set];exact z
 ·simp_all
 ·rw[show i+[wP .i64 v].length=i+1 from rfl,e];show(cur.toList.set i (.int .i64 v)).take (b.n*1)=_;rw[List.take_set,Z,CP,CP,List.map_set]
 ·rw[Mem.set_ne];rintro rfl;exact P ⟨J,h1⟩
def PY(W:Mem)(d:Ds)(p F:Nat)(c:Int)(q:Nat)(pr:Pr)(r:Rx Rt):Ending->Mem->Prop:=λe V'=>e=.returned (.tuple #[])/\match r with
 |.ok z s=>∃u,Ee W u q pr z.1 z.2/\XM u d p F V' s c 0
 |.bad k s=>k≠0/\∃u vals v,Ee W u q pr vals v/\XM u d p F V' s c k
theorem PY.ok{c:Int}{G:Rx Rt}{rt:Rt}(k:G=.ok rt s)(u:Ee W V0 q pr rt.1 rt.2)(M:XM V0 d p F V s c 0):PY W d p F c q pr G (.returned (.tuple #[])) V:=by
 rw[k];exact⟨rfl,V0,u,M⟩
theorem PY.bad{c:Int}{G:Rx Rt}{k:Int}(z:G=.bad k s)(e:k≠0){u:Option Int}(v:Ee W V0 q pr vals u)(M:XM V0 d p F V s c k):PY W d p F c q pr G (.returned (.tuple #[])) V:=by
 rw[z];exact⟨rfl,e,V0,vals,u,v,M⟩
theorem PY.any{c:Int}{f:FuncId}{args:Array Value}{r:Rx Rt}{K:Mem->Prop}(H:Tri xS f args V (PY W d p F c q pr r))(h:∀z u J v s V',Ee W z q pr u J->XM z d p F V' s c v->(v=0/\r=.ok (u,J) s∨v≠0/\r=.bad v s)->K V'):
  Tri xS f args V λe V'=>e=.returned (.tuple #[])/\K V':=
 Tri.mono H λe V' k=>by
  cases r with
  |ok N s=>obtain⟨h1,z,h2,h3⟩:=k;grind
  |bad v s=>obtain⟨h1,Z,z,u,J,h2,h3⟩:=k;grind
theorem PY.last{c:Int}{f:FuncId}{args:Array Value}{G r:Rx Rt}(z:G=r)(H:Tri xS f args V (PY W d p F c q pr r)):Tri xS f args V λe V'=>e=.returned (.tuple #[])/\PY W d p F c q pr G (.returned (.tuple #[])) V':=by
 subst z;refine PY.any H λv k Z Y s V' u M J=>?_;rcases J with⟨rfl,e⟩|⟨N,e⟩;·exact PY.ok e u M
 ·exact PY.bad e N u M
structure Dk (W V0:Mem)(d:Ds)(p F c q:Nat)(pr:Pr)(vals:List Int)(n m:Nat)(V:Mem)(s:St):Prop where
 S:ES W d F
 fr:Ee W V0 q pr vals none
 pm:pr∈d.procs
 G:Ar d s.mm
 hv:Ax d s.mm pr.vars vals=true
 M:XM V0 d p F V s c 0
 tk:s.tk<=F
 n:F<n+s.tk
 w:BW m s
theorem Dk.po{n m:Nat}(X:Dk W V0 d p F c q pr vals n m V s):Eb d pr:=X.S.procs pr X.pm
theorem Dk.cx{n m:Nat}(X:Dk W V0 d p F c q pr vals n m V s):Yx V0 d p F c q pr vals n m V s:=⟨X.S.sub X.fr.sub,X.fr.gv,X.pm,X.G,X.hv,X.M,X.tk,X.n,X.w⟩
theorem Dk.next{n m k:Nat}{z:Mem}{u:List Int}{s':St}(X:Dk W V0 d p F c q pr vals n (m+k) V s)(g:Gr F m s s')(G:Ar d s'.mm)(e:Ee W z q pr u none)(hv:Ax d s'.mm pr.vars u=true)(M:XM z d p F V' s' c 0):Dk W z d p F c q pr u n k V' s':=
 ⟨X.S,e,X.pm,G,hv,M,g.fu X.tk,by have:=g.tk;have:=X.n;omega,X.w.next g⟩
theorem Dk.le{n m k:Nat}(X:Dk W V0 d p F c q pr vals n m V s)(h:k<=m):Dk W V0 d p F c q pr vals n k V s:=⟨X.S,X.fr,X.pm,X.G,X.hv,X.M,X.tk,X.n,X.w.le h⟩
theorem Dk.tick{n:Nat}(X:Dk W V0 d p F c q pr vals (n+1) 0 V s)(h:s.tk<F)(M:XM V0 d p F V' {s with tk:=s.tk+1} c 0):Dk W V0 d p F c q pr vals n 4000 V' {s with tk:=s.tk+1}:=
 ⟨X.S,X.fr,X.pm,⟨X.G.valid,X.G.chk,X.G.mem⟩,X.hv,M,h,by have:=X.n;grind,by have:=X.w;grind[BW]⟩
variable(d p F)in
def JT(n:Nat):Prop:=∀(l:List S)(W V0 V:Mem)(s:St)(c q:Nat)(pr:Pr)(vals:List Int)(sl:Sl),Dk W V0 d p F c q pr vals n 0 V s->(∀x∈l,Et d pr x)->(∀x∈l,S.Ok W x)->Ab W sl 5 (l.map S.row)->
 Tri xS 105 #[pv p,pv q,sl.v] V (PY W d p F c q pr (AW d F n c pr l vals s))
variable(d p F)in
def XLoopC(n:Nat):Prop:=∀(x:S)(W V0 V:Mem)(s:St)(c q:Nat)(pr:Pr)(vals:List Int),x.op=4->Dk W V0 d p F c q pr vals (n+1) 0 V s->Et d pr x->S.Ok W x->
 Tri xS 140 #[pv p,pv q,x.v] V (PY W d p F c q pr (DO d F (AW d F n) c pr (n+1) x vals s))
variable(d p F)in
def XBodyC(n:Nat):Prop:=∀(x:S)(W V0 V:Mem)(s:St)(c q:Nat)(pr:Pr)(vals:List Int),x.op≠4->Dk W V0 d p F c q pr vals n 4000 V s->Et d pr x->S.Ok W x->
 Tri xS 142 #[pv p,pv q,x.v] V (PY W d p F c q pr (E9 d F (AW d F n) c pr (n+1) x vals s))
theorem Ee.done{k u:Int}{r:Option Int}(h:Ee W V0 q pr vals r)(M:XM V0 d p F V s u k):V.rowp (sa q) ((7:Int).toNat*1) 1=some [.bool r.isSome]:=by
 obtain⟨a,b,h1,-,-⟩:=h.ex;exact Aj (M.sub _ _ h1) 7 1 (by simp[Dj])
theorem stsY{n:Nat}(HL:XLoopC d p F n)(HB:XBodyC d p F n):JT d p F (n+1):=by
 intro l W V0 V s c q pr vals sl X hty hok hrows;obtain⟨f,hf⟩:∃f,f=DO d F (AW d F n) c pr (n+1):=⟨_,rfl⟩;obtain⟨G,hG⟩:∃G:Rx Rt,G=Ea f l vals s:=⟨_,rfl⟩;show Tri _ _ _ _ (PY W d p F c q pr (Ea (DO d F (AW d F n) c pr (n+1)) l vals s));rw[<-hf,<-hG];refine Tri.mono (x105 (R:=PY W d p F c q pr G) ?_) λ_ _ h=>h;refine E4 l.length (λi V1=>∃I k s',Dk W I d p F c q pr k (n+1) 0 V1 s'/\G=Ea f (l.drop i) k s') ⟨V0,vals,s,X,hG⟩ ?_;rintro i V1 J hi ⟨I,k,s',H,L⟩ hJ;have hr:=hrows.sub (H.fr.sub.trans H.M.sub);refine⟨λhlt=>?_,λhge=>?_⟩
 ·obtain⟨x,A,hx,hdr,hil,hp,hz,T⟩:=hr.get hlt;rw[S.row_eq]at T;rw[hdr]at L;have C:G=(f x k s').bind λr st=>match r.2 with|some _=>.ok r st|none=>Ea f (l.drop (i+1)) r.1 st:=L
  have P:=st_snd (F:=F) (c:=c) (n:=n+1) H.S.procs (Gi H.S.procs n) H.po (hty x A) H.G H.hv;rw[<-hf]at P;have after:∀{V2 Z:Mem}{u:List Int}{rv:Option Int}{E:Int}{s2:St},Ee W Z q pr u rv->XM Z d p F V2 s2 c E->(E=0/\f x k s'=.ok (u,rv) s2∨E≠0/\f x k s'=.bad E s2)->
    (¬(some (⟨q,0,none⟩:Addr))=none/\¬(some (⟨q,0,none⟩:Addr))=none/\∃v9,V2.rowp (sa q) ((7:Int).toNat*1) 1=some [uB v9]/\
    Br (v9=true) (PY W d p F c q pr G (rT #[]) V2)
    (¬(some (⟨p,0,none⟩:Addr))=none/\¬(some (⟨p,0,none⟩:Addr))=none/\∃v10,V2.rowp (sa p) ((13:Int).toNat*1) 1=some [uI v10]/\
    Br (v10=0) (IR ((i:Int)+1)/\J [uI ((i:Int)+1)] V2) (PY W d p F c q pr G (rT #[]) V2))):=λ{V2 Z u rv E s2} v N hc=>by
   refine⟨nn,nn,_,v.done N,λhd=>?_,λhd=>⟨nn,nn,_,N.fault,λY=>?_,λY=>?_⟩⟩
   ·rcases hc with⟨rfl,U⟩|⟨hk,U⟩
    ·cases rv with
     |none=>cases hd
     |some z=>exact PY.ok (rt:=(u,some z)) (by rw[C,U];rfl) v N
    ·exact PY.bad (by rw[C,U];rfl) hk v N
   ·have Y:E=0:=Y;rcases hc with⟨-,U⟩|⟨hk,-⟩;rotate_left;·omega
    subst Y;cases rv with
    |some z=>grind
    |none=>
     obtain⟨G2,g2,q2⟩:=P.got U;exact⟨hr.succ hlt,hJ hil _ ⟨Z,u,s2,H.next (m:=0) g2 G2 v q2.1 N,by rw[C,U];rfl⟩⟩
   ·have Y:¬E=0:=Y;rcases hc with⟨h,-⟩|⟨hk,U⟩;·omega
    ·exact PY.bad (by rw[C,U];rfl) hk v N
  refine⟨hp,hz,hlt,_,_,_,_,_,T,λh4=>?_,λh4=>?_⟩
  ·have Hx:=HL x W I V1 s' c q pr k h4 H (hty x A) (hok x A);rw[<-hf,S.v_eq]at Hx;exact PY.any Hx λZ u rv E s2 V2 v N hc=>after v N hc
  ·refine Tri.mono (c141 H.S.fuel H.M) ?_;rintro e1 V2 (⟨K,rfl,N⟩|⟨K,rfl,N⟩)
   ·refine⟨_,rfl,λ_=>?_,λh=>absurd rfl h⟩;have Hx:=HB x W I V2 _ c q pr k h4 (H.tick K N) (hty x A) (hok x A);have e:E9 d F (AW d F n) c pr (n+1) x k {s' with tk:=s'.tk+1}=f x k s':=by rw[hf];unfold DO;rw[K8 K];rfl
    rw[e,S.v_eq]at Hx;exact PY.any Hx λZ u rv E s2 V2 v N hc=>after v N hc
   ·refine⟨_,rfl,(λh=>by cases h),λ_=>after H.fr N (.inr ⟨by decide,?_⟩)⟩;rw[hf];unfold DO;rw[K9 K];rfl
 ·rw[(hr.done hge).1]at L;exact PY.ok L H.fr H.M
end
section
variable{W V0 V V1 V':Mem}{d:Ds}{p F c q:Nat}{s:St}{pr:Pr}{vals:List Int}
theorem exprF{k u:Int}(M:XM V0 d p F V s u k)(z:k≠0){b:Option Addr}{e:E}:PP 193 [pv p,.pointer b,e.v] V (.int .i64 0):=by
 refine x193 ?_;exact⟨nn,nn,_,M.fault,λh=>absurd h z,λ_=>⟨rfl,rfl⟩⟩
theorem loopY{n:Nat}(hE:XExprC d p F n)(hS:JT d p F n):XLoopC d p F n:=by
 intro x W V0 V s c q pr vals h4 X hty I;obtain⟨G,hG0⟩:∃G:Rx Rt,G=DO d F (AW d F n) c pr (n+1) x vals s:=⟨_,rfl⟩;rw[<-hG0];refine Tri.mono (S.v_eq x▸x140 (R:=PY W d p F c q pr G) ?_) λ_ _ h=>h;have hF:=X.S.fuel;have hcs:=Gi (F:=F) X.S.procs n;cases kindS hty with
 |@loop a h he hv ht=>
  have h0:x.es[0]?=some a:=by rw[he];rfl
  obtain⟨-,-,-,C,-⟩:=hty.parts;have hG:G=(Fs F s).bind λ_ st=>Es d F (AW d F n) c pr a x.ls (n+1) vals st:=by
   grind[DO,E9]
  refine⟨λm xs V2=>xs=[]/\∃Z u s',Dk W Z d p F c q pr u (n+1) 0 V2 s'/\F<m+(s'.tk+1)/\G=(Fs F s').bind λ_ st=>Es d F (AW d F n) c pr a x.ls m u st,n+1,⟨rfl,V0,vals,s,X,by have:=X.n;omega,hG⟩,?_⟩;rintro m V2 ⟨-,Z,u,s',X',hm,hG'⟩ J hJ;refine Tri.mono (c141 hF X'.M) ?_;rintro e1 V3 (⟨L,rfl,M3⟩|⟨L,rfl,M3⟩);rotate_left
  ·refine⟨_,rfl,(λh=>by cases h),λ_=>PY.bad (s:=s') ?_ (by decide) X'.fr M3⟩;rw[hG',K9 L];rfl
  have N:=X'.tick L M3;have T:G=Es d F (AW d F n) c pr a x.ls m u {s' with tk:=s'.tk+1}:=by rw[hG',K8 L];rfl
  obtain⟨m,rfl⟩:∃m',m=m'+1:=⟨m-1,by omega⟩;rw[Es]at T;have hp:=GV hv;obtain⟨k1,k3,k4⟩:=esAt (I.sub (N.fr.sub.trans N.M.sub)) h0;have HE:=hE a AC Z V3 _ c q pr u (N.cx.le (k:=AB a) (by omega)) hp.1 ((I.eOk a (x8 h0)).sub N.fr.sub) ht;refine⟨_,rfl,λ_=>⟨k1,by decide,k3,_,_,_,_,k4,XR.any HE λv kf U V4 M4 hc=>?_⟩,λh=>absurd rfl h⟩;rcases hc with⟨rfl,e2⟩|⟨hk,rfl,e2⟩;rotate_left;·exact AK rfl (PY.bad (by rw[T];unfold CU;rw[e2];rfl) hk N.fr M4)
  obtain⟨G2,g2,q2⟩:=(GW (F:=F) (c:=c) N.S.procs hcs N.po hv ht N.G N.hv).got e2;have e:G=if v=0 then .ok (u,none) U else(AW d F n c pr x.ls u U).bind λr st=>match r.2 with|some _=>.ok r st|none=>(Fs F st).bind λ_ st=>Es d F (AW d F n) c pr a x.ls m r.1 st:=by
   rw[T];unfold CU;rw[e2];rfl
  have X2:Dk W Z d p F c q pr u n 0 V4 U:=(N.le (k:=1000+0) (by omega)).next g2 G2 N.fr (Cb (λh=>g2.right h) N.hv) M4;refine⟨λhz=>?_,λhz=>⟨nn,nn,_,M4.fault,λ_=>?_,λh=>absurd rfl h⟩⟩
  ·rw[if_pos (show v=0 from hz)]at e;exact PY.ok e X2.fr M4
  rw[if_neg (show ¬v=0 from hz)]at e;have P:=hcs c pr x.ls u U X2.po C X2.G X2.hv;refine PY.any (hS x.ls W Z V4 U c q pr u x.ll X2 C I.lOk I.lRows) λV2' Y rv kf s3 V5 A M5 hc=>?_;refine⟨nn,nn,_,A.done M5,λhd=>?_,λhd=>⟨nn,nn,_,M5.fault,λH=>?_,λH=>?_⟩⟩
  ·rcases hc with⟨rfl,E⟩|⟨hk,E⟩
   ·cases rv with
    |none=>cases hd
    |some z=>exact PY.ok (rt:=(Y,some z)) (by rw[e,E];rfl) A M5
   ·exact PY.bad (by rw[e,E];rfl) hk A M5
  ·have H:kf=0:=H;rcases hc with⟨-,E⟩|⟨hk,-⟩;rotate_left;·omega
   subst H;cases rv with
   |some z=>grind
   |none=>
    obtain⟨G3,g3,q3⟩:=P.got E;have t2:=g2.tk;have t3:=g3.tk;have hn1:=X'.n;have ht2:s'.tk+1<=U.tk:=t2;refine hJ m _ _ (by omega) ⟨rfl,V2',Y,s3,?_,by omega,by rw[e,E];rfl⟩;have K:=X2.next (m:=0) (k:=0) g3 G3 A q3.1 M5;exact⟨K.S,K.fr,K.pm,K.G,K.hv,K.M,K.tk,by omega,K.w⟩
  ·have H:¬kf=0:=H;rcases hc with⟨h,-⟩|⟨hk,E⟩;·omega
   ·exact PY.bad (by rw[e,E];rfl) hk A M5
 |set h=>omega
 |put h=>omega
 |cond h=>omega
 |ret0 h=>omega
 |ret1 h=>omega
 |call h=>omega
theorem retY{z e:Int}(k:Ee W V0 q pr vals none)(M:XM V0 d p F V s e z){v:Int}{Q:Mem->Prop}(H:∀u V',Ee W u q pr vals (some v)->XM u d p F V' s e z->Q V'):
  Ak (Aa (sa q) 8) 0 [.int .i64 v] V λV2=>¬(some (⟨q,0,none⟩:Addr))=none/\¬(some (⟨q,0,none⟩:Addr))=none/\Ak (Aa (sa q) 7) 0 [.bool true] V2 Q:=by
 obtain⟨a,b,h1,h2,h3⟩:=k.ex;have J:V0 q≠none:=by rw[h1];simp
 refine Ak.at2 (off:=8) (M.sub _ _ h1) (by simp[Dj]) ⟨nn,nn,Ak.at2 (off:=7) Au (by simp[Dj]) ?_⟩;have N:=Nf h3 k.q0 h1 (.cells ((Dj pr a b none).toArray.toList.take 8++[wP .i64 v]++(Dj pr a b none).toArray.toList.drop (8+[wP .i64 v].length)).toArray 223 (0,0));have Z:=Nf N k.q0 Au (.cells (Dj pr a b (some v)).toArray 223 (0,0));have Y:=M.poke J (.cells ((Dj pr a b none).toArray.toList.take 8++[wP .i64 v]++(Dj pr a b none).toArray.toList.drop (8+[wP .i64 v].length)).toArray 223 (0,0));have P:=Y.poke (b:=q) (by rw[Mem.set_same];simp) (.cells (Dj pr a b (some v)).toArray 223 (0,0));exact H _ _ ⟨(k.sub.set k.q0 _).set k.q0 _,k.q0,a,b,Mem.set_same _ _ _,h2,Z⟩ P
theorem retY0{z e:Int}(k:Ee W V0 q pr vals none)(M:XM V0 d p F V s e z){Q:Mem->Prop}(v:∀u V',Ee W u q pr vals (some 0)->XM u d p F V' s e z->Q V'):
  Ak (Aa (sa q) 7) 0 [.bool true] V Q:=by
 obtain⟨a,b,h1,h2,h3⟩:=k.ex;have H:V0 q≠none:=by rw[h1];simp
 refine Ak.at2 (off:=7) (M.sub _ _ h1) (by simp[Dj]) ?_;have J:=Nf h3 k.q0 h1 (.cells (Dj pr a b (some 0)).toArray 223 (0,0));have N:=M.poke H (.cells (Dj pr a b (some 0)).toArray 223 (0,0));exact v _ _ ⟨k.sub.set k.q0 _,k.q0,a,b,Mem.set_same _ _ _,h2,J⟩ N
theorem bodyY{n:Nat}(hE:XExprC d p F n)(hR:XCallC d p F n)(hS:JT d p F n):XBodyC d p F n:=by
 intro x W V0 V s c q pr vals h4 C hty J;obtain⟨G,P⟩:∃G:Rx Rt,G=E9 d F (AW d F n) c pr (n+1) x vals s:=⟨_,rfl⟩;rw[<-P];refine Tri.mono (S.v_eq x▸x142 (R:=PY W d p F c q pr G) ?_) λ_ _ h=>h;have hcs:=Gi (F:=F) C.S.procs n;have ex:∀{i:Nat}{a:E}{u:KB}{V2 Z:Mem}{H:List Int}{K:St}{m:Nat},x.es[i]?=some a->Bz a=true->Aw d (Av d pr) a=(u,0)->Dk W Z d p F c q pr H n m V2 K->1000<=m->
   Tri xS 193 #[pv p,pv q,.agg #[.int .i64 a.op,.int .i64 a.n,.string a.s,.slice a.l.p a.l.n a.l.c]] V2 (XR Z d p F c (CU d (AW d F n) c pr H a K)):=λ{i a u V2 Z H K m} h0 hv ha N hm=>by
  have hp:=GV hv;exact hE a u Z V2 K c q pr H (N.cx.le (by omega)) hp.1 ((J.eOk a (x8 h0)).sub N.fr.sub) ha
 have go:∀{a:E}{u:KB}{V2 V3 Z:Mem}{H:List Int}{K s3:St}{m:Nat}{v:Int},Bz a=true->Aw d (Av d pr) a=(u,0)->Dk W Z d p F c q pr H n (1000+m) V2 K->CU d (AW d F n) c pr H a K=.ok v s3->XM Z d p F V3 s3 c 0->
   Dk W Z d p F c q pr H n m V3 s3/\BZ d s3.mm u v/\Gr F 1000 K s3:=λ{a u V2 V3 Z H K s3 m v} hv ha N e M3=>by
  obtain⟨G3,g3,q3⟩:=(GW (F:=F) (c:=c) N.S.procs hcs N.po hv ha N.G N.hv).got e;exact⟨N.next g3 G3 N.fr (Cb (λh=>g3.right h) N.hv) M3,q3,g3⟩
 unfold E9 at P;have hW1:=C.fr.sub.trans C.M.sub;cases kindS hty with
 |@set a u t h T hv ht hl hne hf=>
  rw[if_pos h,T,wC]at P;have h0:x.es[0]?=some a:=by rw[T];rfl
  obtain⟨k1,k3,k4⟩:=esAt (J.sub hW1) h0;refine AK h ⟨k1,by decide,k3,_,_,_,_,k4,XR.any (ex h0 hv ht C (by omega)) λv kf K V2 A hc=>?_⟩;refine x194 ?_;refine⟨nn,nn,_,A.fault,λY=>?_,λY=>?_⟩;rotate_left
  ·rcases hc with⟨h,-⟩|⟨U,-,X⟩;·omega
   ·exact⟨rfl,PY.bad (by rw[P,X];rfl) U C.fr A⟩
  have Y:kf=0:=Y;rcases hc with⟨-,X⟩|⟨U,-⟩;rotate_left;·exact absurd Y U
  subst Y;rw[X]at P;have hG2:G=setX d pr x.s v vals K:=P;obtain⟨N,hv2,-⟩:=go (m:=3000) hv ht C X A;obtain⟨fa,fb,hq0,hra0,hrb0⟩:=N.fr.ex;have hq:=A.sub _ _ hq0;refine⟨nn,nn,fa,Aj hq 5 1 (by simp[Dj]),(c245 (hra0.sub (N.fr.sub.trans A.sub))).call ⟨_,rfl,?_⟩⟩;unfold setX at hG2;rcases H5 N.G N.hv N.po.vars hl hne with⟨i,g,w,h1,h2,h3,h4,-⟩|⟨i,g,w,h0',h1,h2,h3,h4,-⟩
  ·rw[h1];rw[if_pos (by omega),h1,xa]at hG2;have hil:=(yj.1 h3).1;obtain⟨g1,g2,g3,-⟩:=FS (hrb0.rows (λ_=>rfl) (by decide)) h3;refine AK (by omega) ⟨nn,nn,fb,Aj hq 6 1 (by simp[Dj]),g1,g2,g3,frStoreX hrb0 A hil λZ V' ho M' hx=>?_⟩;refine⟨rfl,PY.ok (rt:=(vals.set i v,none)) hG2 ⟨ho.sub,N.fr.q0,fa,fb,?_,hra0,ho⟩ M'⟩;rw[hx];exact hq0;exact hrb0.apart λcur hcq=>by
    simp_all
  ·rw[h0'];rw[if_neg (by omega),h1,xa]at hG2;obtain⟨gs,ns,ls,nd,hat,L⟩:=A.ex;have hd:=(N.S.sub N.fr.sub).ds.sub L.sub;refine Ai (by decide) ⟨nn,nn,AM,d.gs,Aj hat 2 1 (by simp[AD]),(c245 hd.globals).call ⟨_,rfl,?_⟩⟩;rw[h1];refine Tri.mono (c240 A (Yx.fit (m:=0) (N.cx.le (by omega)))) ?_;rintro _ V5 ⟨rfl,M5⟩;obtain⟨gs5,ns5,ls5,nd5,I,L5⟩:=M5.ex;obtain⟨g1,g2,g3,-⟩:=FS (L5.glob.rows (λ_=>rfl) (by decide)) (i:=i) (v:=w) h3;have hil:=(yj.1 h3).1;refine⟨rfl,nn,nn,AM,gs5,Aj I 8 1 (by simp[AD]),g1,g2,g3,L5.setG (i:=i) hil λV6 L6 hk6=>?_⟩;refine⟨rfl,PY.ok (V0:=V0) (rt:=(vals,none)) hG2 N.fr (MA.mk M5.p0 ⟨gs5,ns5,ls5,nd5,?_,L6⟩)⟩;rw[hk6 _ (Hs I Fa L5.glob (.inl rfl))];exact I
 |@put a b u w t h T hv hw ha ht hl hf=>
  rw[if_neg (by omega),if_pos h,T,wC,List.getD_cons_succ,wC]at P;have h0:x.es[0]?=some a:=by rw[T];rfl
  have h1:x.es[1]?=some b:=by rw[T];rfl
  obtain⟨k1,k3,k4⟩:=esAt (J.sub hW1) h0;refine Ai (by omega) (AK h ?_);refine x195 ?_;refine⟨k1,by decide,k3,_,_,_,_,k4,XR.any (ex h0 hv ha C (by omega)) λv kf K V2 A hc=>?_⟩;obtain⟨l1,l3,l4⟩:=esAt (J.sub (C.fr.sub.trans A.sub)) h1;refine⟨l1,by decide,l3,_,_,_,_,l4,?_⟩;rcases hc with⟨rfl,X⟩|⟨U,-,X⟩;rotate_left;·exact(exprF A U (e:=b)).call ⟨_,rfl,nn,nn,_,A.fault,λh=>absurd h U,λ_=>⟨rfl,PY.bad (by rw[P,X];rfl) U C.fr A⟩⟩
  rw[X]at P;obtain⟨N,hv2,-⟩:=go (m:=3000) hv ha C X A;refine XR.any (ex h1 hw ht N (by omega)) λy kf s3 V3 M3 hc=>⟨nn,nn,_,M3.fault,λY=>?_,λY=>?_⟩;rotate_left
  ·rcases hc with⟨h,-⟩|⟨U,-,e3⟩;·omega
   ·exact⟨rfl,PY.bad (by rw[P];show((CU d (AW d F n) c pr vals b K).bind _)=_;rw[e3];rfl) U N.fr M3⟩
  have Y:kf=0:=Y;rcases hc with⟨-,e3⟩|⟨U,-⟩;rotate_left;·exact absurd Y U
  subst Y;have hG3:G=(putX d v y x.s s3).bind λ_ st=>.ok (vals,none) st:=by rw[P];show((CU d (AW d F n) c pr vals b K).bind _)=_;rw[e3];rfl
  obtain⟨X3,hv3,g3⟩:=go (m:=2000) hw ht N e3 M3;have hv2:=g3.val hv2;refine⟨λY=>?_,λY=>?_⟩
  ·refine Tri.mono (c104 M3) ?_;rintro _ V4 ⟨rfl,M4⟩;refine⟨_,rfl,rfl,PY.bad (s:=s3) (k:=17) ?_ (by decide) X3.fr M4⟩;rw[hG3];unfold putX;rw[if_pos (show v=0 from Y)];rfl
  have Y:¬v=0:=Y;obtain⟨k,i,j,tt,g,fs,z,rfl,f2,f3,f4,f5,f6,f7,f8,-⟩:=IS X3.G hl hv2 Y;have hG4:G=.ok (vals,none) {s3 with ns:=s3.ns.set k ((j:Int),fs.set i y),lg:=s3.lg++[(2,(k:Int)+1,(i:Int))]}:=by
   rw[hG3];unfold putX;rw[if_neg Y,show((k:Int)+1-1).toNat=k by omega,f2];simp only;rw[f5,f6,xa];rfl
  refine(c239 (X3.S.sub X3.fr.sub) M3 f2 f3).call ⟨_,rfl,?_⟩;rw[f6];refine Tri.mono (c240 M3 (Yx.fit (m:=0) (X3.cx.le (by omega)))) ?_;rintro _ V5 ⟨rfl,M5⟩;obtain⟨gs5,ns5,ls5,nd5,sl5,I,L5,hnd5,hI,n1,n2,n3,n4,m1,m2,m3,m4⟩:=nodeX M5 (k:=k) (i:=i) f2 f8;have hil:=(yj.1 f8).1;rw[show((k:Int)+1-1)=(k:Int)by omega];refine⟨rfl,nn,nn,AM,ns5,Aj I 9 1 (by simp[AD]),hI,n1,n2,n3,Al n1,_,_,n4,m1,m2,m3,L5.setF hnd5 hil λV6 L6 hk6=>?_⟩;refine⟨rfl,PY.ok (V0:=V0) (rt:=(vals,none)) hG4 X3.fr (MA.mk M5.p0 ⟨gs5,ns5,ls5,_,?_,L6⟩)⟩;rw[hk6 _ (Hs I Fa (L5.fld _ (x8 hnd5)) (.inl rfl))];exact I
 |@cond a h T hv ht=>
  rw[if_neg (by omega),if_neg (by omega),if_pos h,T,wC]at P;have h0:x.es[0]?=some a:=by rw[T];rfl
  obtain⟨k1,k3,k4⟩:=esAt (J.sub hW1) h0;obtain⟨-,-,-,hlt1,hlt2⟩:=hty.parts;refine Ai (by omega) (Ai (by omega) (AK h ⟨k1,by decide,k3,_,_,_,_,k4,XR.any (ex h0 hv ht C (by omega)) λv kf K V2 A hc=>⟨nn,nn,_,A.fault,λY=>?_,λY=>?_⟩⟩));rotate_left
  ·rcases hc with⟨h,-⟩|⟨U,-,X⟩;·omega
   ·exact PY.bad (by rw[P,X];rfl) U C.fr A
  have Y:kf=0:=Y;rcases hc with⟨-,X⟩|⟨U,-⟩;rotate_left;·omega
  subst Y;rw[X]at P;have hG2:G=if v=0 then AW d F n c pr x.xs vals K else AW d F n c pr x.ls vals K:=P
  obtain⟨N,-,-⟩:=go (m:=3000) hv ht C X A;refine⟨λY=>PY.last ?_ (hS x.xs W V0 V2 K c q pr vals x.xl (N.le (by omega)) hlt2 J.xOk J.xRows),λY=>PY.last ?_ (hS x.ls W V0 V2 K c q pr vals x.ll (N.le (by omega)) hlt1 J.lOk J.lRows)⟩;·simp_all
  simp_all
 |loop h=>exact absurd h h4
 |ret0 h T hr=>
  rw[if_neg (by omega),if_neg (by omega),if_neg (by omega),if_neg (by omega),if_pos h,T]at P;have hn:=(J.sub hW1).eRows.n_eq;rw[T]at hn;refine Ai (by omega) (Ai (by omega) (Ai (by omega) (AK h (Ai (by rw[hn];decide) ⟨nn,nn,retY0 C.fr C.M λZ V' hf M'=>?_⟩))));exact PY.ok (rt:=(vals,some 0)) P hf M'
 |@ret1 a u h T hv ht hr hf=>
  rw[if_neg (by omega),if_neg (by omega),if_neg (by omega),if_neg (by omega),if_pos h,T]at P;have h0:x.es[0]?=some a:=by rw[T];rfl
  have hn:=(J.sub hW1).eRows.n_eq;rw[T]at hn;obtain⟨k1,k3,k4⟩:=esAt (J.sub hW1) h0;refine Ai (by omega) (Ai (by omega) (Ai (by omega) (AK h (AK (by rw[hn];rfl) ⟨k1,by decide,k3,_,_,_,_,k4,XR.any (ex h0 hv ht C (by omega)) λv kf K V2 A hc=>⟨nn,nn,retY C.fr A λZ V' hf M'=>?_⟩⟩))));rcases hc with⟨rfl,X⟩|⟨U,-,X⟩;·exact PY.ok (rt:=(vals,some v)) (by rw[P];show(CU d (AW d F n) c pr vals a s).bind _=_;rw[X];rfl) hf M'
  ·exact PY.bad (by rw[P];show(CU d (AW d F n) c pr vals a s).bind _=_;rw[X];rfl) U hf M'
 |@call a pr' i h T hv ho hc=>
  rw[if_neg (by omega),if_neg (by omega),if_neg (by omega),if_neg (by omega),if_neg (by omega),if_pos h,T,wC]at P;have h0:x.es[0]?=some a:=by rw[T];rfl
  obtain⟨k1,k3,k4⟩:=esAt (J.sub hW1) h0;have hp:=GV hv;refine Ai (by omega) (Ai (by omega) (Ai (by omega) (Ai (by omega) (AK h ⟨k1,by decide,k3,_,_,_,_,k4,XR.any (exprX0 hR a V0 V s c q pr vals (C.cx.le (by omega)) hp.1 ((J.eOk a (x8 h0)).sub C.fr.sub) (.inr ⟨ho,pr',i,hc⟩)) λv kf K V2 A hcc=>?_⟩))));rcases hcc with⟨rfl,X⟩|⟨U,-,X⟩;·exact PY.ok (rt:=(vals,none)) (by rw[P];unfold CU;rw[X];rfl) C.fr A
  ·exact PY.bad (by rw[P];unfold CU;rw[X];rfl) U C.fr A
end
theorem set_fill{args:List Int}{n i:Nat}{v:Int}(hi:args[i]?=some v)(u:i<n):(args.take i++yT (n-i) 0).set i v=args.take (i+1)++yT (n-(i+1)) 0:=by
 have z:=(yj.1 hi).1;have k:(args.take i).length=i:=by grind
 rw[List.set_append_right _ _ (by omega),k,Nat.sub_self];obtain⟨m,hm⟩:∃m,n-i=m+1:=⟨n-i-1,by omega⟩;grind[vM]
section
variable{V0 V:Mem}{d:Ds}{p F:Nat}{s:St}
theorem callY{n:Nat}(H:JT d p F n):XCallC d p F n:=by
 intro V0 V s c i pr args l hS Z G ha hl M htk hn hw;obtain⟨G',hG⟩:∃G':Rx Int,G'=CF d (AW d F n) c i args s:=⟨_,rfl⟩;rw[<-hG];have Y:=x8 Z;have K:=hS.procs pr Y;refine Tri.mono (QC (R:=XR V0 d p F c G') ?_) λ_ _ h=>h;obtain⟨gs,ns,ls,nd,P,L⟩:=M.ex;unfold CF at hG;refine⟨nn,nn,_,Aj P 12 1 (by simp[AD]),λh2=>failX M (by decide) (by grind),λh2=>?_⟩;rw[if_neg (by omega),xa,Z]at hG;refine⟨nn,nn,_,Aj P 12 1 (by simp[AD]),⟨by omega,by omega⟩,nn,nn,Ak.at2 (off:=12) P (by simp[AD]) ?_⟩;have M1:XM V0 d p F (V.set p (.cells (AD d F s.tk ((c+1:Nat):Int) 0 s.cm (Bc s.lg) gs ns ls).toArray 148 (0,0))) s ((c+1:Nat):Int) 0:=MA.set (row':=AD d F s.tk ((c+1:Nat):Int) 0 s.cm (Bc s.lg)) Fa M.p0 P L rfl rfl rfl rfl;obtain⟨V1,hV1⟩:∃V1,V1=V.set p (.cells (AD d F s.tk ((c+1:Nat):Int) 0 s.cm (Bc s.lg) gs ns ls).toArray 148 (0,0)):=⟨_,rfl⟩;rw[<-hV1]at M1;have e1:V.set p (.cells ((AD d F s.tk c 0 s.cm (Bc s.lg) gs ns ls).toArray.toList.take 12++[wP .i64 ((c:Int)+1)]++(AD d F s.tk c 0 s.cm (Bc s.lg) gs ns ls).toArray.toList.drop (12+[wP .i64 ((c:Int)+1)].length)).toArray 148 (0,0))=V1:=by rw[hV1];rfl
 erw [e1]
 obtain⟨gs1,ns1,ls1,nd1,hat1,L1⟩:=M1.ex;have T:=hS.ds.sub L1.sub;have hn1:=T.procs.n_eq;have hil:=(yj.1 Z).1;obtain⟨y,-,hy,-,-,hp1,hz1,U⟩:=T.procs.get (i:=i) (by omega);rw[Z]at hy;cases hy;refine⟨nn,nn,AM,d.ps,Aj hat1 3 1 (by simp[AD]),hp1,hz1,by omega,_,_,_,_,_,U,λb0 hb0=>?_⟩;have hok:=T.procsOk pr Y;have hln:=K.lens;have s0:=Mem.sub_new hb0 (.cells #[] 138 (0,0));refine EU (s:=⟨some ⟨b0,0,none⟩,0,0⟩) (u:=pr.ps) (xs:=[]) (ys:=pr.params) rfl rfl (Own.empty s0 _ _ _) (hok.params.sub s0) (by simp;omega) λs2 V2 o2=>⟨s2,rfl,?_⟩;refine EU (s:=s2) (u:=pr.ls) (xs:=pr.params) (ys:=pr.locals) rfl rfl o2 (hok.locals.sub o2.sub) (by omega) λk V3 o3=>⟨k,rfl,?_⟩;have h3n:=o3.n_eq (λ_=>rfl) (by decide);rw[zI]at h3n;refine mk35 (n:=k.n) rfl rfl (by omega) λg hg=>⟨⟨some ⟨g,0,none⟩,k.n,k.n⟩,rfl,?_⟩;have hown:=JK hg (n:=k.n) (by omega);have hal:=(Ci.1 ha).1;obtain⟨V4,hV4⟩:∃V4,V4=V3.set g (.cells (madeCells (wP .i64 0).cells (k.n*1)) 3 (0,0)):=⟨_,rfl⟩;rw[<-hV4]at hown⊢;refine E4 args.length (λj V5=>Sx.Own V3 V5 3 1 ⟨some ⟨g,0,none⟩,k.n,k.n⟩ ((args.take j++yT (k.n-j) 0).flatMap Ah)) (by simp_all) ?_;rintro j V5 J hj o5 hJ;have s35:=o5.sub;have hl5:=hl.sub ((M1.sub.trans o3.sub).trans s35);refine⟨λhlt=>?_,λhge=>?_⟩
 ·obtain⟨v,-,hv,-,hjl,hp,hz,hrow⟩:=hl5.get hlt;refine⟨hp,hz,hlt,v,hrow,nn,by omega,(show(j:Int)<(k.n:Int)by omega),?_⟩;show Ak (Aa (sa g) (j*1)) 0 [.int .i64 v] V5 _;rw[Nat.mul_one];refine Own.store o5 (i:=j) (by rw[CP,wI,zI,List.length_take,List.length_replicate];omega) λV6 o6 _=>⟨hl5.succ hlt,hJ hjl _ ?_⟩;have e:((args.take j++yT (k.n-j) 0).flatMap Ah).set j (wP .i64 v)=(args.take (j+1)++yT (k.n-(j+1)) 0).flatMap Ah:=by
   rw[CP,CP,<-set_fill hv (by omega),List.map_set]
  simp_all
 ·have hdn:=(hl5.done hge).2;have hja:j=args.length:=by omega
  subst hja;rw[List.take_length,show k.n-args.length=pr.locals.length by omega]at o5;intro b2 hb2;obtain⟨V6,A⟩:∃V6,V6=V5.set b2 (.cells (Dj pr k ⟨some ⟨g,0,none⟩,k.n,k.n⟩ none).toArray 223 (0,0)):=⟨_,rfl⟩;have e6:V5.set b2 (.cells #[uS pr.name,uL pr.ps,uS pr.result,uL pr.ls,uL pr.bs,uL k,uL ⟨some ⟨g,0,none⟩,k.n,k.n⟩,uB false,uI 0] 223 (0,0))=V6:=by rw[A];rfl
  show Tri _ _ #[pv p,pv b2,.slice pr.bs.p pr.bs.n pr.bs.c] (V5.set b2 (.cells #[uS pr.name,uL pr.ps,uS pr.result,uL pr.ls,uL pr.bs,uL k,uL ⟨some ⟨g,0,none⟩,k.n,k.n⟩,uB false,uI 0] 223 (0,0))) _;rw[e6];have s56:V5.sub V6:=A▸Mem.sub_new hb2 _;have s36:=s35.trans s56;have s16:=o3.sub.trans s36;obtain⟨W0,w0,w6,MW,hWn⟩:=M1.after s16;have n1:∀{b:Nat},V3 b=none->V1 b=none:=λ{b} h=>Cz o3.sub h;have n5:V3 b2=none:=Cz s35 hb2;obtain⟨b,hb⟩:∃b:Sl,b=⟨some ⟨g,0,none⟩,k.n,k.n⟩:=⟨_,rfl⟩;rw[<-hb]at o5 A;have hbk:∀{x:Nat},AP b x->V3 x=none:=λh=>Own.none0 o5 h;have nb2:¬AP b b2:=λhk=>by
   grind[Own.some]
  obtain⟨W,hW⟩:∃W,W=Mem.minus W0 (λx=>x=b2∨AP b x):=⟨_,rfl⟩;have hWW:W.sub W0:=by rw[hW];exact Ft
  have V03:V0.sub V3:=M1.sub.trans o3.sub;have hws:V0.sub W:=λx o hx=>by
   rw[hW,Cy];·exact w0 _ _ hx
   ·rintro(rfl|hk);·have:=V03 _ _ hx;simp_all
    ·have:=V03 _ _ hx;simp_all
  have o5':Sx.Own W W0 3 1 b ((args++yT pr.locals.length (0:Int)).flatMap Ah):=FT o5 hWW λx o hk h0 h1=>⟨by rw[hW];exact DV (.inr hk),hWn _ _ (n1 h0) (s56 _ _ h1)⟩;have hs3:Sx.Own (λ_=>none) W 138 2 k ((pr.params++pr.locals).flatMap Fld.row):=FT o3 (λ_ _ h=>by cases h) λx o hk h0 h1=>⟨rfl,by
   rw[hW,Cy];·exact hWn _ _ h0 (s36 _ _ h1)
   grind⟩
  have hfr:W0 b2=some (.cells (Dj pr k b none).toArray 223 (0,0)):=hWn _ _ (n1 n5) (by rw[A];exact Mem.set_same _ _ _);have FR:Ee W W0 b2 pr (args++yT pr.locals.length 0) none:=⟨hWW,by rw[hW];exact DV (.inl rfl),k,b,hfr,hs3.rows (λ_=>rfl) (by decide),o5'⟩;have hv:=JG ha (KU G.valid λf hf=>K.vars f (List.mem_append_right _ hf));have E:=(hS.ds.sub hws).procsOk pr Y;refine PY.any (H pr.body W W0 V6 s (c+1) b2 pr _ pr.bs ⟨hS.sub hws,FR,Y,G,hv,MW,htk,hn,hw⟩ K.body (λx hx=>E.stmts x hx) E.body) λW7 vals7 rv kf z V7 f7 M7 hc=>?_;obtain⟨I,X,C,nd7,N,L7⟩:=M7.ex;refine⟨nn,nn,_,Aj N 12 1 (by simp[AD]),⟨by omega,by omega⟩,nn,nn,Ak.at2 (off:=12) N (by simp[AD]) ?_⟩;have M8:XM W7 d p F (V7.set p (.cells (AD d F z.tk c kf z.cm (Bc z.lg) I X C).toArray 148 (0,0))) z c kf:=MA.set (row':=AD d F z.tk c kf z.cm (Bc z.lg)) Fa M7.p0 N L7 rfl rfl rfl rfl;obtain⟨V8,hV8⟩:∃V8,V8=V7.set p (.cells (AD d F z.tk c kf z.cm (Bc z.lg) I X C).toArray 148 (0,0)):=⟨_,rfl⟩;rw[<-hV8]at M8;have e8:V7.set p (.cells ((AD d F z.tk ((c+1:Nat):Int) kf z.cm (Bc z.lg) I X C).toArray.toList.take 12++[wP .i64 (((c+1:Nat):Int)-1)]++(AD d F z.tk ((c+1:Nat):Int) kf z.cm (Bc z.lg) I X C).toArray.toList.drop (12+[wP .i64 (((c+1:Nat):Int)-1)].length)).toArray 148 (0,0))=V8:=by
   rw[hV8,show(((c+1:Nat):Int)-1)=(c:Int)by omega];rfl
  erw [e8]
  obtain⟨fa,fb,hq7,-,-⟩:=f7.ex;have MN:=M8.narrow (hws.trans f7.sub);refine⟨nn,nn,_,M8.fault,λhz=>⟨nn,nn,_,Aj (M8.sub _ _ hq7) 8 1 (by simp[Dj]),?_⟩,λhz=>?_⟩
  ·have hz:kf=0:=hz;rcases hc with⟨-,e⟩|⟨hk,-⟩
   ·subst hz;exact XR.ok (by rw[hG];show((AW d F n (c+1) pr pr.body _ s).bind _)=_;rw[e];rfl) MN
   omega
  ·rcases hc with⟨h,-⟩|⟨hk,e⟩;·omega
   ·exact XR.bad (by rw[hG];show((AW d F n (c+1) pr pr.body _ s).bind _)=_;rw[e];rfl) hk MN
theorem allY(d:Ds)(p F:Nat):∀n,JT d p F n
 |0=>λl W V0 V s c q pr vals sl X _ _ _=>absurd X.n (by have:=X.tk;omega)
 |n+1=>stsY (loopY (exprX (callY (allY d p F n))) (allY d p F n)) (bodyY (exprX (callY (allY d p F n))) (callY (allY d p F n)) (allY d p F n))
end
theorem copyInt{V:Mem}{b:Nat}{l:Sl}{xs:List Int}(z:V b=none)(h:Ab V l 1 (xs.map Ah))(e:xs.length<=2147483648){ty:Nat}{x y:Operand}{vals:Operand->Value}(v:vals x=.slice (sa b) 0 0)(H:vals y=.slice l.p l.n l.c){Q:Value->Mem->Prop}(J:∀s V',Sx.Own V V' 3 1 s (xs.flatMap Ah)->Q (.slice s.p s.n s.c) V'):
  GenK xS (.call {callee:=.builtin .append,args:=#[x,y],argTypes:=#[35,35]}) ty vals (V.set b (.cells #[] 3 (0,0))) Q:=by
 have k:=Mem.sub_new z (.cells #[] 3 (0,0));exact Eu (s:=⟨some ⟨b,0,none⟩,0,0⟩) (u:=l) (xs:=[]) (ys:=xs) v H (Own.empty (V0:=V) k _ _ _) (h.sub k) (by simpa using e) λs' V' N=>J s' V' (by simpa using N)
theorem Rp{V:Mem}{m:Mm}(hm:Mm.Ok V m)(h1:m.globals.length<=2147483648)(h2:m.nodes.length<=4096)(h3:∀n∈m.nodes,n.f.length<=2147483648):Tri xS 74 #[m.v] V λe V'=>∃gs ns nd,e=.returned (.agg #[.slice gs.p gs.n gs.c,.slice ns.p ns.n ns.c])/\AJ V V' gs ns Af nd (Bf m):=by
 refine Q1 ?_;intro b0 I;refine copyInt I hm.globals h1 rfl rfl λgs V1 R=>?_;refine⟨gs,rfl,loop3u (mk:=λs:Sl=>.slice s.p s.n s.c) (mc:=λs:Sl=>.slice s.p s.n s.c) (b0:=gs) (c0:=⟨none,0,0⟩) Bb Bb m.nodes.length (λi b ns V2=>b=gs/\∃nd,AJ V V2 gs ns Af nd ⟨m.globals,(m.nodes.take i).map λn=>(n.ty,n.f),0,0,[]⟩/\nd.length=i) ⟨rfl,[],⟨R,Own.nil R.sub _ _,Own.nil R.sub _ _,(λn X=>by cases X),rfl,(λn X=>by cases X),(λi j n n' c h=>by cases h)⟩,rfl⟩ ?_⟩;rintro i b ns V2 J hi ⟨rfl,nd,L,hnl⟩ hJ;have A:=hm.nodes.sub L.sub;refine⟨λu=>?_,λC=>?_⟩
 ·obtain⟨x,Z,hx,-,E,N,Y,H⟩:=A.get u;have P:=Al (n:=i*2) N;have U:(i:Int)<(m.ns.n:Int):=u;refine⟨N,Y,u,P,x.ty,x.sl,H,N,Y,u,P,x.ty,x.sl,H,IK (j:=1) (m:=1) H (by decide) (by decide),P,N,Y,u,KK (k:=1) H (by decide),P,N,Y,u,λb1 K=>?_⟩;refine copyInt K ((hm.nodesOk x Z).rows.sub L.sub) (h3 x Z) rfl rfl λfs V3 o3=>?_;have z:=(A.sub o3.sub).get u;obtain⟨y,-,hy,-,-,-,-,z⟩:=z;rw[hx]at hy;cases hy;refine⟨fs,rfl,KK (k:=1) z (by decide),P,N,Y,u,λtb T=>L.new (n:=⟨x.ty,fs,x.f⟩) o3 T rfl rfl (by omega) λs' V' L' _=>⟨s',rfl,A.succ u,hJ E _ _ _ ⟨rfl,nd++[⟨x.ty,fs,x.f⟩],?_,by simp_all⟩⟩⟩;grind[vM]
 ·have hd:=(A.done C).2;rw[xc hd]at L;exact⟨b,ns,nd,rfl,L⟩
section
variable{V V0:Mem}{d:Ds}{m:Mm}{F:Nat}{nm:KB}{args:List Int}{l:Sl}
theorem Rq(k:Ds.Ok V d)(hm:Mm.Ok V m){F:Int}:PP 59 [d.v,m.v,.int .i64 F] V (.int .i64 (C2 d m F)):=by
 refine Qp ?_;have bad:¬Ar d m->(xV (.int .i64 1)=.returned (.int .i64 (C2 d m F))/\V=V):=λh=>⟨by grind[C2],rfl⟩;refine(Mn k).call ⟨_,rfl,λh1=>(Q6 k).call ⟨_,rfl,λh2=>(Q9 k hm).call ⟨_,rfl,λh3=>?_,λh3=>bad λG=>h3 G.mem⟩,λh2=>bad λG=>h2 ?_⟩,λh1=>bad λG=>h1 G.valid⟩
 ·have h2:wellT d=true:=h2;unfold wellT at h2;rw[zC,decide_eq_true_eq]at h2;have G:Ar d m:=⟨h1,Na h2.2,h3⟩;refine⟨λh=>⟨?_,rfl⟩,λh=>⟨λh2=>⟨?_,rfl⟩,λh2=>⟨?_,rfl⟩⟩⟩;·grind[C2]
  ·grind[C2]
  grind[C2]
 ·show wellT d=true;unfold wellT;rw[G.chk,G.valid];rfl
theorem Rr(H:Ds.Ok V d)(hm:Mm.Ok V m)(I:Ab V l 1 (args.map Ah)):
  PP 73 [d.v,m.v,.agg #[.string nm,l.v]] V (.int .i64 (Be d m nm args)):=by
 refine QB ?_;have L:∀{e:Int},Be d m nm args=e->(xV (.int .i64 e)=.returned (.int .i64 (Be d m nm args))/\V=V):=λe=>⟨by rw[e],rfl⟩;refine(Ho H).call ⟨_,rfl,λh=>?_,λh=>?_⟩;·grind[Be,AV]
 ·have h:¬AV d nm<0:=h;rcases Cu (λt:Pr=>decide (t.name=nm)) d.procs with⟨h1,-⟩|⟨i,pr,h1,h2,-⟩;·omega
  have hi:AV d nm=(i:Int):=h1;have hn:=H.procs.n_eq;have hil:=(yj.1 h2).1;obtain⟨y,R,hy,-,-,hp,hz,N⟩:=H.procs.get (i:=i) (by omega);rw[h2]at hy;cases hy;have hc:Be d m nm args=if args.length=pr.params.length then(if Ax d m pr.params args=true then 0 else 11)else 3:=by grind[Be]
  have Z:=(H.procsOk pr R).params;have hln:=Z.n_eq;have han:=I.n_eq;rw[h1];refine⟨hp,hz,by omega,_,_,_,_,_,N,λu=>?_,λu=>?_⟩
  ·have u:(l.n:Int)=(pr.ps.n:Int):=u;have Y:args.length=pr.params.length:=by omega
   rw[if_pos Y]at hc;refine AE (mk:=λk:Int=>.int .i64 k) (b0:=0) args.length (λj V1=>V1=V/\∀(i:Nat) f v,i<j->pr.params[i]?=some f->args[i]?=some v->AQ d m f.ty v=true) ⟨rfl,λi f v h=>by omega⟩ ?_;rintro j b V1 J hj ⟨rfl,P⟩ hJ;refine⟨λz=>?_,λX=>?_⟩
   ·obtain⟨v,hvm,hv,-,C,E,K,T⟩:=I.get z;obtain⟨f,hfm,U,-,-,A,hz2,hr2⟩:=Z.get (i:=j) (by omega);refine⟨A,hz2,by omega,Al A,_,_,hr2,E,K,z,v,T,(c103 H hm).call ⟨_,rfl,λhb=>⟨I.succ z,hJ C _ _ ⟨rfl,λi g w hi' hg hw=>?_⟩⟩,λhb=>L ?_⟩⟩;·grind
    ·rw[hc,if_neg λk=>hb ((Ci.1 k).2 j f v U hv)]
   ·have hd2:=(I.done X).2;have hval:Ax d m pr.params args=true:=Ci.2 ⟨Y.symm,λi f v U hv=>P i f v (by grind) U hv⟩;simp_all
  grind
theorem Ng(G:Ar d m):m.globals.length<=2147483648/\m.nodes.length<=4096/\∀n∈m.nodes,n.f.length<=2147483648:=by
 obtain⟨p1,z,p3,Z,e⟩:=BO G.mem;have v:=lens12 G.valid;refine⟨by grind[Ci],z,λn u=>?_⟩;have:=(Ci.1 (e n u)).1;have H:=of_decide_eq_true (p3 n u);obtain⟨j,J⟩:∃j:Nat,n.ty=(j:Int):=⟨n.ty.toNat,by omega⟩;have k:j<d.types.length:=by omega
 have N:=yi k;rw[J,EW N rfl]at this;grind
def PlayX(V0:Mem)(d:Ds)(F:Nat)(m:Mm)(nm:KB)(args:List Int):Ending->Mem->Prop:=λe V'=>
 ∃p,∃r:Rx Int,r=Dw d F (AV d nm) args (Bf m)/\XM V0 d p F V' r.st (outV r) (CV r)/\e=.returned (pv p)
theorem O1(P:Ds.Ok V d)(hm:Mm.Ok V m)(G:Ar d m)(K:Ab V l 1 (args.map Ah))(T:Be d m nm args=0)(U:F<=4000):
  Tri xS 43 #[d.v,m.v,.agg #[.string nm,l.v],.int .i64 F] V (PlayX V d F m nm args):=by
 refine Qc (R:=PlayX V d F m nm args) ?_;obtain⟨i,pr,A,J,z⟩:=Lb T;obtain⟨l1,l2,l3⟩:=Ng G;refine Tri.mono (Rp hm l1 l2 l3) ?_;rintro _ V1 ⟨gs,ns,nd,rfl,L⟩;refine⟨gs,ns,rfl,(Ho (P.sub L.sub)).call ⟨_,rfl,?_⟩⟩;rw[show BH (λt:Pr=>decide (t.name=nm)) d.procs=(i:Int)from A];intro p I;have p0:V p=none:=Cz L.sub I;have s1:=Mem.sub_new I (.cells (AD d F 0 0 0 0 0 gs ns Af).toArray 148 (0,0));have M1:XM V d p F (V1.set p (.cells (AD d F 0 0 0 0 0 gs ns Af).toArray 148 (0,0))) (Bf m) ((0:Nat):Int) 0:=⟨p0,gs,ns,Af,nd,by rw[Mem.set_same];rfl,L.grow s1⟩;have HC:=callY (allY d p F (F+1)) V (V1.set p (.cells (AD d F 0 0 0 0 0 gs ns Af).toArray 148 (0,0))) (Bf m) 0 i pr args l ⟨P,G.valid,KT G.valid G.chk,U⟩ J (La G) (Cb (JL (Hw m).symm) z) K M1 (by show 0<=F;omega) (by omega) (by unfold BW;simp[Bf]);refine XR.any HC λv H k V2 X hk=>?_;obtain⟨N,Z,Y,Ht,u,L2⟩:=X.ex;refine⟨AM,AM,Ak.at2 (off:=12) u (by simp[AD]) ?_⟩;have C:XM V d p F (V2.set p (.cells (AD d F k.tk v H k.cm (Bc k.lg) N Z Y).toArray 148 (0,0))) k v H:=MA.set (row':=AD d F k.tk v H k.cm (Bc k.lg)) Fa X.p0 u L2 rfl rfl rfl rfl;have E:Dw d F (AV d nm) args (Bf m)=CF d (AW d F (F+1)) 0 i args (Bf m):=by rw[A];rfl
 rcases hk with⟨rfl,e⟩|⟨hk0,rfl,e⟩;·exact⟨p,.ok v k,by rw[E,e],C,rfl⟩
 ·exact⟨p,.bad H k,by rw[E,e],C,rfl⟩
theorem O2{p:Nat}{s:St}{c k:Int}(M:XM V0 d p F V s c k):PP 44 [pv p] V (.agg (BD k c s.cm (Bc s.lg)).toArray):=by
 obtain⟨gs,ns,ls,nd,u,L⟩:=M.ex;refine Qd ?_;exact⟨nn,nn,_,Aj u 13 1 (by simp[AD]),nn,nn,_,Aj u 12 1 (by simp[AD]),nn,nn,_,_,_,Aj u 14 3 (by simp[AD]),rfl,rfl⟩
end
structure Ru where
 name:KB
 sl:Sl
 args:List Int
end Go.Proofs
namespace Go.Proofs
open Go Go.Sx
abbrev Bj:=List (Int×Int)
def RV(B:Bj)(ty:KB)(v v':Int):Prop:=if AG ty=true then v'=v else(v=0/\v'=0)∨(v,v')∈B
def RL(B:Bj)(l:List Fld)(vs k:List Int):Prop:=k.length=vs.length/\∀(j:Nat) f v v',l[j]?=some f->vs[j]?=some v->k[j]?=some v'->RV B f.ty v v'
structure Hz (d:Ds)(B:Bj)(s t:St):Prop where
 bij:∀a b a' b',(a,b)∈B->(a',b')∈B->(a=a'↔b=b')
 node:∀a b,(a,b)∈B->∃(i j:Nat)(ty:Int)(f f':List Int),a=(i:Int)+1/\b=(j:Int)+1/\s.ns[i]?=some (ty,f)/\t.ns[j]?=some (ty,f')/\RL B (AL d ty) f f'
 glob:RL B d.globals s.g t.g
 tk:t.tk=s.tk
 cm:t.cm=s.cm
 nd:Bc t.lg=Bc s.lg
 len:t.ns.length<=s.ns.length
section
variable{d:Ds}{F:Nat}{B B':Bj}{s t:St}
theorem RV.ref{ty:KB}{v v':Int}(h:RV B ty v v')(k:AG ty=false):(v=0/\v'=0)∨(v,v')∈B:=by unfold RV at h;rw[if_neg (by rw[k];decide)]at h;exact h
end
end Go.Proofs
namespace Go.Proofs
open Go Go.Sx
structure Sr where
 order:List Int
 again:Int
def Dy(x:Fld×Int):Bool:=!AG x.1.ty&&decide (x.2≠0)
def tgtI(l:List Fld)(vs:List Int)(i:Nat):List Int:=(((l.zip vs).take i).filter Dy).map (·.2)
def CG(l:List Fld)(vs:List Int):List Int:=((l.zip vs).filter Dy).map (·.2)
def nodeTgt(d:Ds)(m:Mm)(n:Int):List Int:=match m.nodes[(n-1).toNat]? with|some x=>CG (AL d x.ty) x.f|none=>[]
def A4(d:Ds)(m:Mm):Nat->Sr->Int->Sr
 |0,st,_=>st
 |f+1,st,n=>if n∈st.order then⟨st.order,if st.again=0 then n else st.again⟩else(nodeTgt d m n).foldl (A4 d m f) ⟨st.order++[n],st.again⟩
def GY(d:Ds)(m:Mm)(f:Nat)(st:Sr)(l:List Fld)(vs:List Int):Sr:=(CG l vs).foldl (A4 d m f) st
def AX(d:Ds)(m:Mm):Sr:=GY d m (m.nodes.length+1) ⟨[],0⟩ d.globals m.globals
theorem Lg{l:List Fld}{vs:List Int}{i:Nat}{f:Fld}{v:Int}(k:l[i]?=some f)(hv:vs[i]?=some v):tgtI l vs (i+1)=tgtI l vs i++if Dy (f,v)=true then[v]else[]:=by
 have u:(l.zip vs)[i]?=some (f,v):=by rw[vf];exact⟨k,hv⟩
 unfold tgtI;rw[vM,u,List.filter_append,List.map_append];by_cases h:Dy (f,v)=true;·simp[h]
 ·simp[h]
theorem tgtI_all{l:List Fld}{vs:List Int}{i:Nat}(h:l.length<=i):tgtI l vs i=CG l vs:=by
 unfold tgtI CG;rw[xc];rw[ve];omega
def B0(m:Mm)(st:Sr):Nat:=((List.range m.nodes.length).filter λ(i:Nat)=>!decide (((i:Int)+1)∈st.order)).length
theorem Lh(d:Ds)(m:Mm):∀(f:Nat)(st:Sr)(n:Int),∀x∈st.order,x∈(A4 d m f st n).order
 |0,st,n,x,h=>h
 |f+1,st,n,x,h=>by
  unfold A4;split;·exact h
  ·have:∀(l:List Int)(s:Sr),x∈s.order->x∈(l.foldl (A4 d m f) s).order:=λl=>by
    induction l with
    |nil=>exact λs h=>h
    |cons a l k=>exact λs h=>k _ (Lh d m f s a x h)
   exact this _ _ (uC _ h)
theorem foldP_sub(d:Ds)(m:Mm)(f:Nat)(x:Int):∀(l:List Int)(s:Sr),x∈s.order->x∈(l.foldl (A4 d m f) s).order:=λl=>by
 induction l with
 |nil=>exact λs h=>h
 |cons a l k=>exact λs h=>k _ (Lh d m f s a x h)
theorem Nh{α:Type}{p q:α->Bool}:∀{l:List α},(∀a∈l,q a=true->p a=true)->(l.filter q).length<=(l.filter p).length
 |[],_=>Nat.le_refl _
 |a::l,h=>by
  have k:=Nh (l:=l) λx u=>h x (yB _ u);have z:=h a yA;rw[yD,yD];cases e:q a with
  |true=>rw[z e];simpa using k
  |false=>
   cases v:p a with
   |true=>simp;omega
   |false=>simpa using k
theorem filter_lt{α:Type}{p q:α->Bool}:∀{l:List α},(∀a∈l,q a=true->p a=true)->∀a∈l,p a=true->q a=false->(l.filter q).length<(l.filter p).length
 |[],_,a,k,_,_=>by cases k
 |b::l,h,a,k,z,e=>by
  have v:∀x∈l,q x=true->p x=true:=λx J=>h x (yB _ J);rw[yD,yD];rcases yH.1 k with rfl|hm
  ·rw[z,e];have:=Nh v;simp;omega
  ·have H:=filter_lt v a hm z e;have N:=h b yA;cases u:q b with
   |true=>rw[N u];simpa using H
   |false=>
    cases Z:p b with
    |true=>simp;omega
    |false=>simpa using H
section
variable{d:Ds}{m:Mm}{st:Sr}
theorem I5{a b:Sr}(h:∀x∈a.order,x∈b.order):B0 m b<=B0 m a:=by
 unfold B0;refine Nh λi _ u=>?_;simp only[zz,decide_eq_false_iff_not]at u⊢;exact λk=>u (h _ k)
theorem unS_lt{n:Int}(z:1<=n/\n<=(m.nodes.length:Int))(h:¬n∈st.order){a:Int}:B0 m ⟨st.order++[n],a⟩<B0 m st:=by
 unfold B0;obtain⟨i,rfl⟩:∃i:Nat,n=(i:Int)+1:=⟨(n-1).toNat,by omega⟩;refine filter_lt (λj _ u=>?_) i (List.mem_range.2 (by omega)) (by simpa using h) (by simp);simp only[zz,decide_eq_false_iff_not]at u⊢;exact λk=>u (uC _ k)
theorem HA{xs:List Fld}{vs:List Int}(h:Ax d m xs vs=true){i:Nat}{f:Fld}{v:Int}(H:xs[i]?=some f)(z:vs[i]?=some v)(u:AG f.ty=false)(J:v≠0):1<=v/\v<=(m.nodes.length:Int):=by
 obtain⟨N,k,e⟩:=KM h H;rw[z]at k;cases k;unfold AG at u;simp only[Bool.or_eq_false_iff,decide_eq_false_iff_not]at u;unfold AQ at e;rw[if_neg u.1,if_neg u.2,decide_eq_true_eq]at e;rcases e with h|⟨h1,h2,-⟩;·exact absurd h J
 ·exact⟨h1,h2⟩
end
section
variable{d:Ds}{m c:Mm}{O:List Int}
structure Cl (d:Ds)(m:Mm)(a b:Sr):Prop where
 sub:∀x∈a.order,x∈b.order
 shut:∀x∈b.order,x∈a.order∨∀y∈nodeTgt d m x,y∈b.order
 dup:a.order.Nodup->b.order.Nodup
 rng:(∀x∈a.order,1<=x/\x<=(m.nodes.length:Int))->∀x∈b.order,1<=x/\x<=(m.nodes.length:Int)
 cap:a.order.length+B0 m a<=m.nodes.length->b.order.length+B0 m b<=m.nodes.length
theorem Cl.trans{a b e:Sr}(h:Cl d m a b)(k:Cl d m b e):Cl d m a e:=⟨λx u=>k.sub x (h.sub x u),λx u=>by
 rcases k.shut x u with u|u
 ·rcases h.shut x u with u|u;·exact .inl u
  ·exact .inr λy z=>k.sub y (u y z)
 ·exact .inr u,λn=>k.dup (h.dup n),λr=>k.rng (h.rng r),λr=>k.cap (h.cap r)⟩
theorem GZ{l:List Fld}{vs:List Int}{y:Int}:y∈CG l vs↔∃(i:Nat)(f:Fld),l[i]?=some f/\vs[i]?=some y/\AG f.ty=false/\y≠0:=by
 unfold CG Dy;simp only[uE,List.mem_filter,zC,zz,decide_eq_true_eq,Prod.exists,exists_eq_right];constructor
 ·rintro⟨f,h,h1,h2⟩;obtain⟨i,k⟩:=wG.1 h;rw[vf]at k;exact⟨i,f,k.1,k.2,h1,h2⟩
 ·rintro⟨i,f,h,h1,h2,h3⟩;exact⟨f,wG.2 ⟨i,vf.2 ⟨h,h1⟩⟩,h2,h3⟩
theorem tgt_in(hv:BY d m=true):(∀y∈CG d.globals m.globals,1<=y/\y<=(m.nodes.length:Int))/\∀n,∀y∈nodeTgt d m n,1<=y/\y<=(m.nodes.length:Int):=by
 obtain⟨-,-,-,u,z⟩:=BO hv;refine⟨λy k=>?_,λn y k=>?_⟩
 ·obtain⟨i,f,h1,h2,h3,h4⟩:=GZ.1 k;exact HA u h1 h2 h3 h4
 ·unfold nodeTgt at k;split at k
  ·rename_i x e;obtain⟨i,f,h1,h2,h3,h4⟩:=GZ.1 k;exact HA (z x (x8 e)) h1 h2 h3 h4
  ·cases k
theorem Li{f:Nat}(H:∀st n,1<=n/\n<=(m.nodes.length:Int)->B0 m st<f->Cl d m st (A4 d m f st n)/\n∈(A4 d m f st n).order):
  ∀(l:List Int)(s:Sr),(∀y∈l,1<=y/\y<=(m.nodes.length:Int))->B0 m s<f->Cl d m s (l.foldl (A4 d m f) s)/\∀y∈l,y∈(l.foldl (A4 d m f) s).order
 |[],s,_,_=>⟨⟨λ_ h=>h,λ_ h=>.inl h,λh=>h,λh=>h,λh=>h⟩,λ_ h=>by cases h⟩
 |a::l,s,u,v=>by
  obtain⟨z,J⟩:=H s a (u a yA) v;obtain⟨e,N⟩:=Li H l (A4 d m f s a) (λy k=>u y (yB _ k)) (by have:=I5 (m:=m) z.sub;omega);refine⟨z.trans e,λy k=>?_⟩;rcases yH.1 k with rfl|k;·exact e.sub _ J
  ·exact N y k
theorem ent_cl(hv:BY d m=true):∀(f:Nat)(st:Sr)(n:Int),1<=n/\n<=(m.nodes.length:Int)->B0 m st<f->Cl d m st (A4 d m f st n)/\n∈(A4 d m f st n).order
 |0,_,_,_,h=>absurd h (xq _)
 |f+1,st,n,v,P=>by
  rw[A4];split;·rename_i h;exact⟨⟨λ_ h=>h,λ_ h=>.inl h,λh=>h,λh=>h,λh=>h⟩,h⟩
  ·rename_i z;have H:=unS_lt v z (a:=st.again);obtain⟨u,J⟩:=Li (ent_cl hv f) (nodeTgt d m n) ⟨st.order++[n],st.again⟩ (λy N=>(tgt_in hv).2 n y N) (by omega);have hm:n∈(⟨st.order++[n],st.again⟩:Sr).order:=by simp
   refine⟨⟨λx k=>u.sub x (uC _ k),λx k=>?_,λh=>u.dup ?_,λh=>u.rng λx k=>?_,λh=>u.cap ?_⟩,u.sub n hm⟩
   ·rcases u.shut x k with h|h
    ·rcases wL.1 h with h|h;·exact .inl h
     ·rw[zR.1 h];exact .inr J
    ·exact .inr h
   ·show(st.order++[n]).Nodup;rw[List.nodup_append];refine⟨h,by simp,λa Z b Y e=>z ?_⟩;rw[<-zR.1 Y,<-e];exact Z
   ·rcases wL.1 k with k|k;·exact h x k
    ·rw[zR.1 k];exact v
   ·show(st.order++[n]).length+_<=_;rw[zI,List.length_singleton];omega
structure Lj (d:Ds)(m:Mm)(O:List Int):Prop where
 dup:O.Nodup
 rng:∀x∈O,1<=x/\x<=(m.nodes.length:Int)
 glob:∀y∈CG d.globals m.globals,y∈O
 shut:∀x∈O,∀y∈nodeTgt d m x,y∈O
 cap:O.length<=m.nodes.length
theorem JU:B0 m ⟨[],0⟩<=m.nodes.length:=by
 unfold B0;have:=List.length_filter_le (λi:Nat=>!decide (((i:Int)+1)∈(⟨[],0⟩:Sr).order)) (List.range m.nodes.length);rw[List.length_range]at this;exact this
theorem G0(hv:BY d m=true):Lj d m (AX d m).order:=by
 have hu:=JU (m:=m);obtain⟨k,z⟩:=Li (ent_cl hv (m.nodes.length+1)) (CG d.globals m.globals) ⟨[],0⟩ (tgt_in hv).1 (by omega);refine⟨k.dup List.nodup_nil,k.rng (λx u=>by cases u),z,λx u=>?_,?_⟩
 ·rcases k.shut x u with h|h;·cases h
  ·exact h
 ·have:=k.cap (by show 0+_<=_;omega);exact Nat.le_trans (Nat.le_add_right _ _) this
def CA(l:List Int)(x:Int):Int:=BH (λy=>decide (y=x)) l
def BQ(O:List Int)(x:Int):Int:=if x=0 then 0 else CA O x+1
def BJ(O:List Int)(l:List Fld)(vs:List Int):List Int:=(l.zip vs).map λx=>if AG x.1.ty=true then x.2 else BQ O x.2
structure IsCan (d:Ds)(m c:Mm)(O:List Int):Prop where
 globals:c.globals=BJ O d.globals m.globals
 len:c.nodes.length=O.length
 at_:∀(i:Nat) n x,O[i]?=some n->m.nodes[(n-1).toNat]?=some x->∃s,c.nodes[i]?=some ⟨x.ty,s,BJ O (AL d x.ty) x.f⟩
theorem pos_at(h:O.Nodup){i:Nat}{x:Int}(k:O[i]?=some x):CA O x=i:=by
 unfold CA;rcases Cu (λy=>decide (y=x)) O with⟨-,-,h1⟩|⟨j,y,h1,h2,-,h3,h4,-⟩
 ·rw[xo]at h1;exact absurd (decide_eq_true rfl) (h1 x (x8 k))
 ·have e:y=x:=of_decide_eq_true h4;subst e;rw[h1,(List.getElem?_inj h3 h).1 (h2.trans k.symm)]
theorem pos_mem(h:O.Nodup){x:Int}(u:x∈O):∃i:Nat,O[i]?=some x/\CA O x=i/\i<O.length:=by
 obtain⟨i,k⟩:=wG.1 u;exact⟨i,k,pos_at h k,(yj.1 k).1⟩
theorem JV(R:Lj d m O){x:Int}(k:x∈O):∃i:Nat,O[i]?=some x/\BQ O x=(i:Int)+1/\i<O.length:=by
 obtain⟨i,h1,h2,h3⟩:=pos_mem R.dup k;have:=R.rng x k;exact⟨i,h1,by unfold BQ;rw[if_neg (by omega),h2],h3⟩
theorem Gs:BQ O 0=0:=by unfold BQ;rw[if_pos rfl]
theorem rho_inj(R:Lj d m O){x y:Int}(u:x=0∨x∈O)(k:y=0∨y∈O)(h:BQ O x=BQ O y):x=y:=by
 rcases u with rfl|u
 ·rcases k with rfl|k;·rfl
  ·obtain⟨i,-,h2,-⟩:=JV R k;rw[Gs]at h;omega
 ·obtain⟨i,h1,h2,-⟩:=JV R u;rcases k with rfl|k;·rw[Gs]at h;omega
  ·obtain⟨j,z,e,-⟩:=JV R k;have:i=j:=by omega
   subst this;rw[h1]at z;cases z;rfl
theorem I7{l:List Fld}{vs:List Int}{i:Nat}{f:Fld}{v:Int}(k:l[i]?=some f)(hv:vs[i]?=some v):(BJ O l vs)[i]?=some (if AG f.ty=true then v else BQ O v):=by
 have u:(l.zip vs)[i]?=some (f,v):=vf.2 ⟨k,hv⟩;unfold BJ;rw[xI,u];rfl
end
end Go.Proofs
namespace Go.Proofs
open Go Go.Sx
inductive F2 (B:Bj):List Int->List Int->Prop where
 |nil:F2 B [] []
 |cons {a b:Int} {l l':List Int} (h:(a,b)∈B) (t:F2 B l l'):F2 B (a::l) (b::l')
section
variable{d:Ds}{B:Bj}{s t:St}
theorem F2.app{l l' k u:List Int}(h:F2 B l l')(g:F2 B k u):F2 B (l++k) (l'++u):=by
 induction h with
 |nil=>exact g
 |cons h _ z=>exact .cons h z
theorem F2.mem{l l':List Int}(h:F2 B l l')(S:Hz d B s t){x y:Int}(k:(x,y)∈B):x∈l↔y∈l':=by
 induction h with
 |nil=>exact⟨λh=>(by cases h),λh=>(by cases h)⟩
 |@cons a b _ _ h _ u=>
  rw[yH,yH,u,S.bij _ _ _ _ k h]
theorem tgt_sim(S:Hz d B s t):∀(l:List Fld)(vs k:List Int),RL B l vs k->F2 B (CG l vs) (CG l k)
 |[],vs,k,_=>by unfold CG;rw[uF,uF];exact .nil
 |f::l,[],k,h=>by
  obtain rfl:k=[]:=List.eq_nil_of_length_eq_zero h.1;exact .nil
 |f::l,v::vs,[],h=>by have:=h.1;simp at this
 |f::l,v::vs,H::k,h=>by
  have z:=tgt_sim S l vs k ⟨by simpa using h.1,λj g w w' a b c=>h.2 (j+1) g w w' (by simpa using a) (by simpa using b) (by simpa using c)⟩;have J:=h.2 0 f v H rfl rfl rfl;unfold CG at z⊢;rw[wv,wv,yD,yD];have e:Dy (f,v)=Dy (f,H):=by
   unfold Dy;cases N:AG f.ty with
   |true=>simp[N]
   |false=>
    rcases J.ref N with⟨rfl,rfl⟩|hm;·rfl
    ·obtain⟨i,j,_,_,_,rfl,rfl,-⟩:=S.node _ _ hm;rw[decide_eq_true (show((i:Int)+1)≠0 by omega),decide_eq_true (show((j:Int)+1)≠0 by omega)]
  rw[<-e];cases u:Dy (f,v)with
  |false=>exact z
  |true=>
   rw[if_pos rfl,if_pos rfl];refine .cons ?_ z;unfold Dy at u;rw[zC,zz,decide_eq_true_eq]at u;rcases J.ref u.1 with⟨h1,-⟩|hm;·exact absurd h1 u.2
   ·exact hm
theorem nodeTgt_sim(S:Hz d B s t){x y:Int}(h:(x,y)∈B):F2 B (nodeTgt d s.mm x) (nodeTgt d t.mm y):=by
 obtain⟨i,j,ty,f,f',rfl,rfl,k,u,z⟩:=S.node _ _ h;unfold nodeTgt;rw[show((i:Int)+1-1).toNat=i by omega,show((j:Int)+1-1).toNat=j by omega,H3,H3,k,u];exact tgt_sim S _ _ _ z
theorem Hz.rng(S:Hz d B s t){x y:Int}(h:(x,y)∈B):(1<=x/\x<=(s.mm.nodes.length:Int))/\1<=y/\y<=(t.mm.nodes.length:Int):=by
 obtain⟨i,j,ty,f,f',rfl,rfl,k,u,-⟩:=S.node _ _ h;have:=(yj.1 k).1;have:=(yj.1 u).1;rw[IQ,IQ];omega
theorem fold_sim2{f f':Nat}(E:∀(a a':Sr)(n u:Int),(n,u)∈B->F2 B a.order a'.order->B0 s.mm a<f->B0 t.mm a'<f'->F2 B (A4 d s.mm f a n).order (A4 d t.mm f' a' u).order):
  ∀{l l':List Int},F2 B l l'->∀(a a':Sr),F2 B a.order a'.order->B0 s.mm a<f->B0 t.mm a'<f'->F2 B (l.foldl (A4 d s.mm f) a).order (l'.foldl (A4 d t.mm f') a').order:=by
 intro l l' h;induction h with
 |nil=>exact λa a' h _ _=>h
 |@cons x y l l' k _ z=>
  intro a a' h1 h2 h3;have e:=I5 (m:=s.mm) (Lh d s.mm f a x);have v:=I5 (m:=t.mm) (Lh d t.mm f' a' y);exact z _ _ (E a a' x y k h1 h2 h3) (by omega) (by omega)
theorem ent_sim2(S:Hz d B s t):∀(f f':Nat)(a a':Sr)(n e:Int),(n,e)∈B->F2 B a.order a'.order->B0 s.mm a<f->B0 t.mm a'<f'->F2 B (A4 d s.mm f a n).order (A4 d t.mm f' a' e).order
 |0,_,_,_,_,_,_,_,h,_=>absurd h (xq _)
 |_+1,0,_,_,_,_,_,_,_,h=>absurd h (xq _)
 |f+1,f'+1,a,a',n,e,z,h1,h2,h3=>by
  rw[A4,A4];have hm:=h1.mem S z;by_cases u:n∈a.order;·rw[if_pos u,if_pos (hm.1 u)];exact h1
  ·rw[if_neg u,if_neg λk=>u (hm.2 k)];obtain⟨v,H⟩:=S.rng z;have J:=unS_lt v u (a:=a.again);have N:=unS_lt H (λk=>u (hm.2 k)) (a:=a'.again);exact fold_sim2 (ent_sim2 S f f') (nodeTgt_sim S z) _ _ (h1.app (.cons z .nil)) (by omega) (by omega)
theorem reach_sim2(S:Hz d B s t):F2 B (AX d s.mm).order (AX d t.mm).order:=
 fold_sim2 (ent_sim2 S _ _) (tgt_sim S _ _ _ S.glob) ⟨[],0⟩ ⟨[],0⟩ .nil (by have:=JU (m:=s.mm);omega) (by have:=JU (m:=t.mm);omega)
def C3(d:Ds)(m:Mm):List Int×List (Int×List Int):=
 (BJ (AX d m).order d.globals m.globals,(AX d m).order.map λn=>match m.nodes[(n-1).toNat]? with|some x=>(x.ty,BJ (AX d m).order (AL d x.ty) x.f)|none=>(0,[]))
theorem sim_start{m c:Mm}(hv:BY d m=true)(I:IsCan d m c (AX d m).order):Hz d ((AX d m).order.map λx=>(x,BQ (AX d m).order x)) (Bf m) (Bf c):=by
 have R:=G0 hv;have k:∀{a b:Int},(a,b)∈((AX d m).order.map λx=>(x,BQ (AX d m).order x))->a∈(AX d m).order/\b=BQ (AX d m).order a:=λh=>by
  obtain⟨x,Y,e⟩:=uE.1 h;cases e;exact⟨Y,rfl⟩
 have rel:∀{l:List Fld}{vs:List Int},l.length=vs.length->(∀y∈CG l vs,y∈(AX d m).order)->RL ((AX d m).order.map λx=>(x,BQ (AX d m).order x)) l vs (BJ (AX d m).order l vs):=λ{l vs} U P=>by
  refine⟨by unfold BJ;rw[wI,ve];omega,λj f v v' N hv u=>?_⟩;rw[I7 N hv]at u;rw[<-vk u];unfold RV;cases A:AG f.ty with
  |true=>rfl
  |false=>
   rw[if_neg (by decide),if_neg (by decide)];by_cases Z:v=0;·left;rw[Z];exact⟨rfl,Gs⟩
   ·right;exact uE.2 ⟨v,P v (GZ.2 ⟨j,f,N,hv,A,Z⟩),rfl⟩
 obtain⟨p1,p2,p3,L,X⟩:=BO hv;refine⟨λa b a' b' h1 h2=>?_,λa b h=>?_,?_,rfl,rfl,rfl,?_⟩
 ·obtain⟨C,rfl⟩:=k h1;obtain⟨E,rfl⟩:=k h2;exact⟨λe=>by rw[e],λe=>rho_inj R (.inr C) (.inr E) e⟩
 ·obtain⟨hm,rfl⟩:=k h;obtain⟨j,K,T,j3⟩:=JV R hm;have hr:=R.rng a hm;obtain⟨i,rfl⟩:∃i:Nat,a=(i:Int)+1:=⟨(a-1).toNat,by omega⟩;have z:i<m.nodes.length:=by omega
  have H:m.nodes[i]?=some m.nodes[i]:=yi z;obtain⟨sl,J⟩:=I.at_ j ((i:Int)+1) m.nodes[i] K (by rw[show((i:Int)+1-1).toNat=i by omega];exact H);refine⟨i,j,m.nodes[i].ty,m.nodes[i].f,BJ (AX d m).order (AL d m.nodes[i].ty) m.nodes[i].f,rfl,T,?_,?_,rel (Ci.1 (X _ (yd _))).1 ?_⟩;·show(m.nodes.map _)[i]?=_;rw[xI,H];rfl
  ·show(c.nodes.map _)[j]?=_;rw[xI,J];rfl
  ·have:=R.shut _ hm;unfold nodeTgt at this;rw[show((i:Int)+1-1).toNat=i by omega,H]at this;exact this
 ·show RL _ d.globals m.globals c.globals;rw[I.globals];exact rel (Ci.1 L).1 R.glob
 ·show(c.nodes.map _).length<=(m.nodes.map _).length;rw[wI,wI,I.len];exact R.cap
end
end Go.Proofs
namespace Go.Proofs
open Go Go.Sx
attribute [local irreducible] Go.Sx.Tri
section
variable{V0 V V1:Mem}{d:Ds}{m:Mm}{p ib:Nat}{st:Sr}{o:Sl}
def kn(O:List Int)(n:Int):Option Int:=if n∈O then some (CA O n+1)else none
theorem pos_app{O:List Int}{n x:Int}(k:x∈O):CA (O++[n]) x=CA O x:=by
 unfold CA BH;rw[uG];cases h:O.findIdx? (λy=>decide (y=x))with
 |none=>exact absurd (decide_eq_true rfl) (by rw[uH.1 h x k];decide)
 |some i=>rfl
theorem pos_new{O:List Int}{n:Int}(k:¬n∈O):CA (O++[n]) n=(O.length:Int):=by
 unfold CA BH;have h:O.findIdx? (λy=>decide (y=n))=none:=uH.2 λx u=>decide_eq_false (by rintro rfl;exact k u);rw[uG,h];simp[List.findIdx?_cons]
theorem kn_new{O:List Int}{n:Int}(u:¬n∈O)(x:Int):kn (O++[n]) x=if x=n then some ((O.length:Int)+1)else kn O x:=by
 unfold kn;by_cases k:x=n
 ·subst k;rw[if_pos (by simp),if_pos rfl,pos_new u]
 ·rw[if_neg k];by_cases hm:x∈O;·rw[if_pos (by simp[hm]),if_pos hm,pos_app hm]
  ·rw[if_neg (by simp[hm,k]),if_neg hm]
theorem kn_pos{O:List Int}{n:Int}(h:n∈O):∃j,kn O n=some j/\1<=j:=by
 unfold kn;rw[if_pos h];refine⟨_,rfl,?_⟩;unfold CA;rcases Cu (λy=>decide (y=n)) O with⟨-,-,h1⟩|⟨j,z,h1,-⟩
 ·rw[xo]at h1;exact absurd (decide_eq_true rfl) (h1 n h)
 ·rw[h1];omega
variable(V0 d m p ib)in
end
section
variable{V:Mem}{d:Ds}{m:Mm}
theorem renL_len{O:List Int}{xs:List Fld}{vs:List Int}(h:xs.length=vs.length):(BJ O xs vs).length=xs.length:=by
 unfold BJ;rw[wI,ve];omega
end
section
variable{V:Mem}{d:Ds}{m:Mm}
theorem Own.growS{V0 V V':Mem}{e:TypeId}{sz:Nat}{s:Sl}{vs:List Value}(h:Sx.Own V0 V e sz s vs)(k:V.sub V'):Sx.Own V0 V' e sz s vs:=Own.moveB h (h.sub.trans k) λ_ _ _ u=>k _ _ u
theorem O3(h:Dh d=true):Bv d=true:=by
 unfold Dh at h;simp only[zC]at h;exact h.1.1
structure CanAt (d:Ds)(m:Mm)(V2 V:Mem)(s:Sl)(i:Nat)(nd:List Nd):Prop where
 len:nd.length=i
 at_:∀(j:Nat) n x,j<i->(AX d m).order[j]?=some n->m.nodes[(n-1).toNat]?=some x->∃s,nd[j]?=some ⟨x.ty,s,BJ (AX d m).order (AL d x.ty) x.f⟩
 mem:∃W,V2.sub W/\Sx.Own W V 85 2 s (nd.flatMap Nd.row)/\∀n∈nd,Nd.Ok W n
theorem ren_in{O:List Int}{xs:List Fld}{vs:List Int}(H:O.length<=4096)(h:∀v∈vs,Ep v):∀v∈BJ O xs vs,Ep v:=λv hv=>by
 unfold BJ at hv;obtain⟨⟨a,b⟩,k,rfl⟩:=uE.1 hv;have u:=h b (List.of_mem_zip k).2;show Ep (if _ then b else BQ O b);split;·exact u
 ·unfold BQ;split;·exact⟨by omega,by omega⟩
  ·unfold CA;rcases Cu (λz=>decide (z=b)) O with⟨e,-⟩|⟨j,_,e,-,-,e2,-⟩;·rw[e];exact⟨by decide,by decide⟩
   ·rw[e];exact⟨by show(-9223372036854775808:Int)<=(j:Int)+1;omega,by show(j:Int)+1<=(9223372036854775807:Int);omega⟩
theorem c22{s t:Sl}{xs ys:List Int}(h:Ab V s 1 (xs.map Ah))(k:Ab V t 1 (ys.map Ah)):PP 22 [.slice s.p s.n s.c,.slice t.p t.n t.c] V (.bool (decide (xs=ys))):=by
 refine PW ?_;have X:=h.n_eq;have C:=k.n_eq;refine⟨λL=>?_,λL=>?_⟩
 ·refine AE (mk:=.bool) (b0:=false) xs.length (λi V1=>V=V1/\xs.take i=ys.take i) ⟨rfl,rfl⟩ ?_;rintro i b V1 J hi ⟨rfl,H⟩ E;refine⟨λu=>?_,λN=>?_⟩
  ·obtain⟨x,K,Z,-,Y,T,U,v⟩:=h.get u;obtain⟨y,hym,R,-,hjl,P,A,z⟩:=k.get (i:=i) (by omega);refine⟨T,U,u,_,v,P,A,by omega,_,z,λI=>⟨h.succ u,E Y _ _ ⟨rfl,take_eq H Z R I⟩⟩,λI=>?_⟩;rw[decide_eq_false λe=>?_];·exact⟨rfl,rfl⟩
   ·rw[e,R]at Z;cases Z;exact I rfl
  ·have hd:=(h.done N).2;rw[xc hd,xc (by omega)]at H;rw[decide_eq_true H];exact⟨rfl,rfl⟩
 ·rw[decide_eq_false λe=>L (by rw[X,C,e])];exact⟨rfl,rfl⟩
theorem canP_of{c:Mm}(u:BY d m=true)(I:IsCan d m c (AX d m).order):c.plain=C3 d m:=by
 have R:=G0 u;unfold Mm.plain C3;rw[I.globals];refine wA rfl (List.ext_getElem? λi=>?_);rw[xI,xI];cases k:(AX d m).order[i]? with
 |none=>
  have:c.nodes[i]?=none:=by
   rw[uJ]at k⊢;rw[I.len];exact k
  rw[this];rfl
 |some n=>
  have v:=R.rng n (x8 k);have z:=yi (l:=m.nodes) (i:=(n-1).toNat) (by omega);obtain⟨sl,e⟩:=I.at_ i n _ k z;rw[e];simp only[Option.map_some];rw[z]
end
section
variable{d:Ds}{F:Nat}{m m':Mm}
theorem Rv(h:m.plain=m'.plain)(n:Int):nodeTgt d m n=nodeTgt d m' n:=by
 unfold nodeTgt;cases k:m.nodes[(n-1).toNat]? with
 |some x=>
  obtain⟨y,h1,h2,h3⟩:=IV h k;rw[h1];simp only[h2,h3]
 |none=>
  have:m'.nodes[(n-1).toNat]?=none:=by
   rw[uJ]at k⊢;rw[<-FU h];exact k
  rw[this]
theorem O4(h:m.plain=m'.plain):∀f:Nat,A4 d m f=A4 d m' f
 |0=>by funext st n;rw[A4,A4]
 |f+1=>by
  funext st n;rw[A4,A4,Rv h,O4 h f]
theorem Lk(h:m.plain=m'.plain):AX d m=AX d m':=by
 have k:m.globals=m'.globals:=(vO h).1;unfold AX GY;rw[FU h,O4 h,k]
theorem canP_plain(h:m.plain=m'.plain):C3 d m=C3 d m':=by
 have u:m.globals=m'.globals:=(vO h).1;unfold C3;rw[Lk h,u];refine wA rfl (List.map_congr_left λn _=>?_);cases k:m.nodes[(n-1).toNat]? with
 |some x=>
  obtain⟨y,h1,h2,h3⟩:=IV h k;rw[h1];simp only[h2,h3]
 |none=>
  have:m'.nodes[(n-1).toNat]?=none:=by
   rw[uJ]at k⊢;rw[<-FU h];exact k
  rw[this]
end
section
variable{d:Ds}{m c:Mm}{O:List Int}
structure Ren (d:Ds)(m c:Mm)(O:List Int):Prop where
 good:Ar d m
 rch:Lj d m O
 can:IsCan d m c O
theorem Ren.node(H:Ren d m c O){x:Int}(k:x∈O):∃(i:Nat)(n:Nd)(s:Sl),O[i]?=some x/\BQ O x=(i:Int)+1/\i<O.length/\m.nodes[(x-1).toNat]?=some n/\n∈m.nodes/\c.nodes[(BQ O x-1).toNat]?=some ⟨n.ty,s,BJ O (AL d n.ty) n.f⟩:=by
 obtain⟨i,h1,h2,h3⟩:=JV H.rch k;have e:=H.rch.rng x k;have u:(x-1).toNat<m.nodes.length:=by omega
 obtain⟨s,z⟩:=H.can.at_ i x _ h1 (yi u);refine⟨i,_,s,h1,h2,h3,yi u,yd _,?_⟩;rw[h2,show((i:Int)+1-1).toNat=i by omega];exact z
theorem plain_not{t:KB}(h:AG t=false):t≠Am/\t≠AC:=by
 unfold AG at h;simpa using h
theorem ren_right(H:Ren d m c O){t:KB}{v:Int}(h:AQ d m t v=true)(hv:AG t=false->v=0∨v∈O):AQ d c t (if AG t=true then v else BQ O v)=true:=by
 cases k:AG t with
 |true=>
  rw[if_pos rfl];unfold AG at k;unfold AQ at h⊢;by_cases h1:t=Am;·rw[if_pos h1]at h⊢;exact h
  ·rw[if_neg h1]at h⊢;have h2:t=AC:=by simpa [h1]using k
   rw[if_pos h2]at h⊢;exact h
 |false=>
  rw[if_neg (by decide)];obtain⟨h1,h2⟩:=plain_not k;unfold AQ at h⊢;rw[if_neg h1,if_neg h2,decide_eq_true_eq]at h⊢;rcases hv k with rfl|hm;·exact .inl Gs
  ·obtain⟨i,n,s,-,e,J,u,-,z⟩:=H.node hm;have N:=H.rch.rng v hm;rw[z];rw[u]at h;have Z:=H.can.len;refine .inr ⟨by omega,by omega,?_⟩;rcases h with h|h;·omega
   ·exact h.2.2
theorem O5(H:Ren d m c O){l:List Fld}{vs:List Int}(h:Ax d m l vs=true)(Y:∀y∈CG l vs,y∈O):Ax d c l (BJ O l vs)=true:=by
 unfold Ax at h⊢;rw[zC,decide_eq_true_eq,GQ]at h⊢;obtain⟨h1,h2⟩:=h;refine⟨by unfold BJ;rw[wI,ve];omega,λj x k=>?_⟩;have J:=(yj.1 k).1;have u:j<vs.length:=by unfold BJ at J;rw[wI,ve]at J;omega
 obtain⟨v,hv⟩:∃v,vs[j]?=some v:=⟨_,yi u⟩;obtain⟨f,z⟩:∃f,l[j]?=some f:=⟨_,yi (by omega)⟩;rw[I7 z hv]at k;have N:=h2 j v hv;have e:tyAt l j=f.ty:=by unfold tyAt;rw[z];rfl
 rw[e]at N⊢;rw[<-vk k];refine ren_right H N λP=>?_;by_cases Z:v=0;·exact .inl Z
 ·exact .inr (Y v (GZ.2 ⟨j,f,z,hv,P,Z⟩))
theorem ren_tgtN(H:Ren d m c O){x:Int}(k:x∈O){n:Nd}(u:m.nodes[(x-1).toNat]?=some n):∀y∈CG (AL d n.ty) n.f,y∈O:=by
 have:=H.rch.shut x k;unfold Proofs.nodeTgt at this;rw[u]at this;exact this
theorem ren_good(H:Ren d m c O):Ar d c:=by
 refine⟨H.good.valid,H.good.chk,?_⟩;obtain⟨p1,P,p3,N,Z⟩:=BO H.good.mem;have A:=H.can.len;have I:=H.rch.cap;have nd:∀n∈c.nodes,∃x∈m.nodes,n.ty=x.ty/\Ax d c (AL d n.ty) n.f=true:=λn k=>by
  obtain⟨i,v⟩:=wG.1 k;have Y:=(yj.1 v).1;have u:O[i]?=some (O[i]'(by omega)):=yi _;have hm:=x8 u;have L:=H.rch.rng _ hm;have z:=yi (l:=m.nodes) (i:=((O[i]'(by omega))-1).toNat) (by omega);obtain⟨s,J⟩:=H.can.at_ i _ _ u z;rw[v]at J;cases J;exact⟨_,yd _,rfl,O5 H (Z _ (yd _)) (ren_tgtN H hm z)⟩
 unfold BY;simp only[zC,List.all_eq_true,decide_eq_true_eq];refine⟨⟨⟨⟨p1,by omega⟩,λn k=>?_⟩,?_⟩,λn k=>?_⟩
 ·obtain⟨x,u,e,-⟩:=nd n k;have:=p3 x u;unfold EH at this⊢;rw[e];exact this
 ·rw[H.can.globals];exact O5 H N H.rch.glob
 ·obtain⟨x,u,e,h⟩:=nd n k;exact h
end
section
variable{V V0:Mem}{d:Ds}{F:Nat}{m:Mm}{l:Sl}{cs:List Ru}
theorem can_good{c:Mm}(G:Ar d m)(I:IsCan d m c (AX d m).order):Ar d c:=ren_good ⟨G,G0 G.mem,I⟩
end
theorem loop3b{V:Mem}{β k:Type}{mk:β->Value}{mc:k->Value}{B:β->k->Int->Mem->(KZ)->Prop}{b0:β}{c0:k}(ib:∀x y,mk x=mk y->x=y)(N:∀x y,mc x=mc y->x=y)(len:Nat)(St:Nat->β->k->Mem->Prop)(Z:St 0 b0 c0 V)
  (step:∀(i:Nat)(b:β)(c:k) V1 J,i<=len->St i b c V1->(i<len->∀b' u V2,St (i+1) b' u V2->J [mk b',mc u,.int .i64 ((i:Int)+1)] V2)->B b c (i:Int) V1 J):
  ∃(I:Nat->KZ)(Y:Nat),I Y [mk b0,mc c0,.int .i64 0] V/\∀n V1,∀b:β,∀c:k,∀v:Int,I n [mk b,mc c,.int .i64 v] V1->∀J:KZ,(∀m ys z,m<n->I m ys z->J ys z)->B b c v V1 J:=by
 refine⟨LI len λi xs V=>∃b c,xs=[mk b,mc c,.int .i64 i]/\St i b c V,len,LI.start ⟨b0,c0,rfl,Z⟩,?_⟩;rintro n V1 b c v ⟨i,rfl,P,b',u,H,A⟩ J L;simp only[List.cons.injEq,Value.int.injEq,true_and,and_true]at H;obtain⟨R,X,rfl⟩:=H;cases ib _ _ R;cases N _ _ X;exact step i b c V1 J P A λe b' u V2 h2=>LI.next L e ⟨b',u,rfl,h2⟩
theorem plain_eq{t:KB}(h:t=Am∨t=AC):AG t=true:=by
 unfold AG;rcases h with rfl|rfl<;>simp
section
variable{V0 V:Mem}{d:Ds}{m:Mm}
theorem c134{s:Sl}{l:List Int}(h:Ab V s 1 (l.map Ah)){x:Int}:PP 134 [s.v,.int .i64 x] V (.int .i64 (CA l x)):=by
 refine x134 ?_;refine AE (mk:=.int .i64) (b0:=0) l.length (λj V1=>V=V1/\A0 (λy:Int=>!decide (y=x)) l j) ⟨rfl,A0.zero _ _⟩ ?_;rintro j b V1 J R ⟨rfl,N⟩ Y;refine⟨λk=>?_,λz=>?_⟩
 ·obtain⟨y,P,A,-,H,I,L,u⟩:=h.get k;refine⟨I,L,k,_,u,λZ=>?_,λZ=>⟨h.succ k,Y H _ _ ⟨rfl,Hn N A (decide_eq_false Z)⟩⟩⟩;have e:CA l x=(j:Int):=by grind[CA,Hl,decide_eq_true]
  simp_all
 ·have e:CA l x=-1:=by unfold CA;exact Hm N (h.done z).2
  simp_all
theorem pos_neg{l:List Int}{x:Int}:¬(0<=CA l x)↔¬x∈l:=by
 unfold CA;rcases Cu (λy=>decide (y=x)) l with⟨h1,-,h2⟩|⟨i,y,h1,h2,-,h3,h4,-⟩;·grind
 grind
theorem tgtI_in{xs:List Fld}{vs:List Int}(h:Ax d m xs vs=true){i:Nat}:∀y∈tgtI xs vs i,1<=y/\y<=(m.nodes.length:Int):=λy k=>by
 have:y∈CG xs vs:=by
  unfold tgtI at k;unfold CG;obtain⟨a,u,rfl⟩:=uE.1 k;grind
 obtain⟨j,f,h1,h2,h3,h4⟩:=GZ.1 this;exact HA h h1 h2 h3 h4
def LookRP(V0:Mem)(st:Sr):Ending->Mem->Prop:=λe V'=>∃s:Sl,e=.returned (.agg #[s.v,.int .i64 st.again])/\Sx.Own V0 V' 3 1 s (st.order.flatMap Ah)
variable(V0 d m)in
def LookRC(N:Nat):Prop:=∀(st:Sr)(f:Nat) V (s l q:Sl)(xs:List Fld)(vs:List Int),B0 m st<=N->B0 m st<f->st.order.length+B0 m st<=m.nodes.length->Ab V0 l 2 (xs.map Fld.row)->Ab V0 q 1 (vs.map Ah)->Ax d m xs vs=true->Sx.Own V0 V 3 1 s (st.order.flatMap Ah)->
 Tri xS 91 #[d.v,m.v,.agg #[s.v,.int .i64 st.again],l.v,q.v] V (LookRP V0 (GY d m f st xs vs))
theorem lookRC(I:BY d m=true)(hd:Ds.Ok V0 d)(hm:Mm.Ok V0 m)(N:Nat)(ih:∀N',N'<N->LookRC V0 d m N'):LookRC V0 d m N:=by
 intro st f V s l q xs vs hN hf hcap hl hq hv ho;refine Tri.mono (Q3 (R:=LookRP V0 (GY d m f st xs vs)) ?_) λ_ _ h=>h;have hlen:xs.length=vs.length:=by
  grind[Ax]
 have m4:=(BO I).2.1;refine loop3b (mk:=λs:Sl=>.slice s.p s.n s.c) (mc:=.int .i64) (b0:=s) (c0:=st.again) Bb BX xs.length (λi X a V1=>a=((tgtI xs vs i).foldl (A4 d m f) st).again/\Sx.Own V0 V1 3 1 X (((tgtI xs vs i).foldl (A4 d m f) st).order.flatMap Ah)) ⟨rfl,ho⟩ ?_;rintro i X a V1 J hi ⟨rfl,h1⟩ hJ;obtain⟨v,H⟩:∃v,v=(tgtI xs vs i).foldl (A4 d m f) st:=⟨_,rfl⟩;rw[<-H]at h1⊢;have hu:B0 m v<=B0 m st:=by simp_all[I5,foldP_sub]
 have hcl:Cl d m st v:=by rw[H];exact(Li (ent_cl I f) (tgtI xs vs i) st (tgtI_in hv) hf).1
 have hcap1:=hcl.cap hcap;have Z:=hl.sub h1.sub;have hq1:=hq.sub h1.sub;refine⟨λY=>?_,λhge=>?_⟩
 ·obtain⟨x,hxm,hx,-,hil,hp,hz,C⟩:=Z.get Y;have n1:=Z.n_eq;have n2:=hq1.n_eq;obtain⟨y,hym,hy,-,hjl,hpy,hzy,K⟩:=hq1.get (i:=i) (by omega);have same:Dy (x,y)=false->J [.slice X.p X.n X.c,.int .i64 v.again,.int .i64 ((i:Int)+1)] V1:=λhr=>by
   refine hJ hil X v.again V1 ?_;rw[Lg hx hy,hr,if_neg (by decide),List.append_nil,<-H];exact⟨rfl,h1⟩
  have pl:AG x.ty=true->Dy (x,y)=false:=λh=>by grind[Dy,AG]
  refine⟨hpy,hzy,by omega,_,K,hp,hz,Y,Al hp,_,_,C,λh2=>⟨Z.succ Y,same (pl ?_)⟩,λh2=>⟨hp,hz,Y,Al hp,_,_,C,λh3=>⟨Z.succ Y,same (pl ?_)⟩,λh3=>⟨λh4=>⟨Z.succ Y,same ?_⟩,λh4=>?_⟩⟩⟩;·grind[Am,AG]
  ·grind[AC,AG]
  ·grind[Dy]
  have hpl:AG x.ty=false:=by
   grind[Am,AC,AG]
  have h4:¬y=0:=h4;have hr:Dy (x,y)=true:=by grind[Dy]
  have hy1:=HA hv hx hy hpl h4;have next:∀(s':Sl) V2,Sx.Own V0 V2 3 1 s' ((A4 d m f v y).order.flatMap Ah)->J [.slice s'.p s'.n s'.c,.int .i64 (A4 d m f v y).again,.int .i64 ((i:Int)+1)] V2:=λs' V2 h=>by
   refine hJ hil s' _ V2 ?_;rw[Lg hx hy,hr,if_pos rfl,List.foldl_append,List.foldl_cons,List.foldl_nil,<-H];exact⟨rfl,h⟩
  obtain⟨f,rfl⟩:∃f',f=f'+1:=⟨f-1,by omega⟩;refine(c134 (h1.rows (λ_=>rfl) (by decide))).call ⟨_,rfl,λh5=>?_,λh5=>?_⟩
  ·have T:y∈v.order:=Classical.not_not.1 λh=>pos_neg.2 h h5;have e:A4 d m (f+1) v y=⟨v.order,if v.again=0 then y else v.again⟩:=by grind[A4]
   rw[e]at next
   refine⟨λh6=>⟨Z.succ Y,?_⟩,λh6=>⟨Z.succ Y,?_⟩⟩;·simp_all
   simp_all
  ·have T:¬y∈v.order:=pos_neg.1 h5;have hlt2:=unS_lt (st:=v) hy1 T (a:=v.again);intro tb htb;refine Eu (s:=X) (u:=⟨some ⟨tb,0,none⟩,1,1⟩) (xs:=v.order) (ys:=[y]) rfl rfl (h1.but.new htb (.cells #[.int .i64 y] 3 (0,0))) (IU Au) (by simp;omega) λo2 V2 ho2=>⟨o2,rfl,?_⟩;have U:Sx.Own V0 V2 3 1 o2 ((v.order++[y]).flatMap Ah):=ho2.narrow h1.sub_but;obtain⟨k,rfl⟩:∃k:Nat,y=(k:Int)+1:=⟨(y-1).toNat,by omega⟩;have hmm:=hm.sub U.sub;have hdd:=hd.sub U.sub;have hnn:=hmm.nodes.n_eq;obtain⟨z,hzm,hz',-,hl2,L,hzx,P⟩:=hmm.nodes.get (i:=k) (by omega);obtain⟨c1,c2⟩:=of_decide_eq_true ((BO I).2.2.1 z hzm);obtain⟨j,hj⟩:∃j:Nat,z.ty=(j:Int):=⟨_,(uK c1).symm⟩;have htn:=hdd.types.n_eq;obtain⟨t,htm,ht,-,hl3,E,hzt,hrowt⟩:=hdd.types.get (i:=j) (by omega);have hI:IR ((k:Int)):=⟨by omega,by omega⟩;have hfo:=EW ht hj;have A:=(BO I).2.2.2.2 z hzm;rw[hfo]at A;rw[show((k:Int)+1-1)=(k:Int)by omega];refine⟨hI,L,hzx,by omega,Al L,_,_,P,?_⟩;rw[hj];refine⟨E,hzt,by omega,Al E,_,_,hrowt,hI,L,hzx,by omega,Al L,_,_,P,?_⟩;refine Tri.mono (ih (B0 m ⟨v.order++[(k:Int)+1],v.again⟩) (by omega) ⟨v.order++[(k:Int)+1],v.again⟩ f V2 o2 t.fs z.sl t.fields z.f (Nat.le_refl _) (by omega) ?_ (hd.typesOk t htm).fields (hm.nodesOk z hzm).rows A U) ?_;·grind
   rintro _ V5 ⟨s5,rfl,h6⟩;have e:A4 d m (f+1) v ((k:Int)+1)=GY d m f ⟨v.order++[(k:Int)+1],v.again⟩ t.fields z.f:=by
    rw[A4,if_neg T];simp_all[nodeTgt,GY,Int,CG,AL]
   rw[<-e]at h6⊢;exact⟨_,_,rfl,Z.succ Y,next s5 V5 h6⟩
 ·have hdn:=(Z.done hge).2;rw[tgtI_all hdn]at H;have e:GY d m f st xs vs=v:=H.symm;rw[e];exact⟨X,rfl,h1⟩
theorem O6(k:BY d m=true)(u:Ds.Ok V d)(hm:Mm.Ok V m):Tri xS 61 #[d.v,m.v] V (LookRP V (AX d m)):=by
 refine Tri.mono (Qr (R:=LookRP V (AX d m)) ?_) λ_ _ h=>h;have hu:=JU (m:=m);have all:∀N,LookRC V d m N:=λN=>Nat.strongRecOn N λN z=>lookRC k u hm N z;refine Tri.mono (all m.nodes.length ⟨[],0⟩ (m.nodes.length+1) V ⟨none,0,0⟩ d.gs m.gs d.globals m.globals hu (by omega) (by simp_all) u.globals hm.globals (BO k).2.2.2.1 (Own.nil (Mem.sub.refl V) _ _)) ?_;rintro _ V2 ⟨s,rfl,h⟩;exact⟨_,_,rfl,s,rfl,h⟩
end
section
variable{V:Mem}{d:Ds}{m:Mm}
theorem O7{l q o:Sl}{xs:List Fld}{vs O:List Int}(hl:Ab V l 2 (xs.map Fld.row))(hq:Ab V q 1 (vs.map Ah))(ho:Ab V o 1 (O.map Ah))(hO:O.length<=4096)(he:xs.length=vs.length)(U:xs.length<=4096):
  Tri xS 92 #[l.v,q.v,o.v] V λe V'=>∃s:Sl,e=.returned (.slice s.p s.n s.c)/\Sx.Own V V' 3 1 s ((BJ O xs vs).flatMap Ah):=by
 refine QQ ?_;have hrl:=renL_len (O:=O) he;refine Ej (mk:=λs:Sl=>.slice s.p s.n s.c) (b0:=⟨none,0,0⟩) Bb xs.length (λi s V1=>Sx.Own V V1 3 1 s (((BJ O xs vs).take i).flatMap Ah)) (Own.nil (Mem.sub.refl _) _ _) ?_;rintro i s V1 J hi h1 hJ;have Y:=hl.sub h1.sub;have A:=hq.sub h1.sub;refine⟨λN=>?_,λR=>?_⟩
 ·obtain⟨x,hxm,hx,-,X,I,L,Z⟩:=Y.get N;have n2:=A.n_eq;obtain⟨y,hym,hy,-,hjl,C,E,P⟩:=A.get (i:=i) (by omega);have K:=I7 (O:=O) hx hy;have add:∀{w z:Int}{V2:Mem}{ty:Nat}{a b:Operand}{vals:Operand->Value},V1=V2->w=(if AG x.ty=true then y else BQ O y)->z=w->∀H,V2 H=none->vals a=.slice s.p s.n s.c->vals b=.slice (sa H) 1 1 ->
    GenK xS (.call {callee:=.builtin .append,args:=#[a,b],argTypes:=#[35,35]}) ty vals (V2.set H (.cells #[.int .i64 z] 3 (0,0))) λx V3=>∃v9:Sl,x=uL v9/\IR ((i:Int)+1)/\J [uL v9,uI ((i:Int)+1)] V3:=λ{w z V2 ty a b vals} e hw L H k ha U=>by
   subst e;subst L;refine Eu (s:=s) (u:=⟨some ⟨H,0,none⟩,1,1⟩) (xs:=(BJ O xs vs).take i) (ys:=[z]) ha U (h1.but.new k (.cells #[.int .i64 z] 3 (0,0))) (IU Au) (by grind) λo2 V3 T=>⟨o2,rfl,Y.succ N,hJ X _ _ ?_⟩;rw[vM,K,<-hw];exact T.narrow h1.sub_but
  have pl:∀{c:Bool},AG x.ty=c->(if AG x.ty=true then y else BQ O y)=if c=true then y else BQ O y:=λh=>by rw[h]
  refine⟨C,E,by omega,_,P,I,L,N,Al I,_,_,Z,λh2 H k=>add rfl (by rw[pl (plain_eq (.inl h2))];rfl) rfl H k rfl rfl,λh2=>⟨I,L,N,Al I,_,_,Z,λh3 H k=>add rfl (by rw[pl (plain_eq (.inr h3))];rfl) rfl H k rfl rfl,λh3=>?_⟩⟩;have hpl:AG x.ty=false:=by
   grind[Am,AC,AG]
  refine⟨λh4 H k=>add rfl ?_ rfl H k rfl rfl,λh4=>?_⟩;·grind[Gs]
  ·refine(c134 (ho.sub h1.sub)).call ⟨_,rfl,?_,λH k=>add rfl ?_ rfl H k rfl rfl⟩
   ·unfold CA;rcases Cu (λz=>decide (z=y)) O with⟨e,-⟩|⟨j,_,e,-,-,e2,-⟩;·rw[e];exact⟨by omega,by omega⟩
    ·rw[e];exact⟨by omega,by omega⟩
   grind[BQ]
 ·have hd:=(Y.done R).2;grind
theorem JW(h:Bv d=true):d.globals.length<=8/\∀t∈d.types,t.fields.length<=12:=by
 grind[Bv,Df,EC]
theorem Ll{l:List Fld}{vs:List Int}(h:Ax d m l vs=true):l.length=vs.length:=by
 grind[Ax]
theorem Rw(G:Ar d m)(hd:Ds.Ok V d)(hm:Mm.Ok V m):Tri xS 62 #[d.v,m.v] V λe V'=>V.sub V'/\∃c:Mm,e=.returned (.agg #[c.gs.v,c.ns.v])/\Mm.Ok V' c/\IsCan d m c (AX d m).order:=by
 refine Q0 ?_;refine Tri.mono (O6 G.mem hd hm) ?_;rintro _ V1 ⟨o,rfl,ho⟩;have R:=G0 G.mem;obtain⟨p1,p2,p3,p4,p5⟩:=BO G.mem;obtain⟨l1,l2⟩:=JW G.valid;have hcap:=R.cap;have hoR:=ho.rows (λ_=>rfl) (by decide);refine⟨o,_,rfl,Tri.mono (O7 (hd.globals.sub ho.sub) (hm.globals.sub ho.sub) hoR (by omega) (Ll p4) (by omega)) ?_⟩;rintro _ V2 ⟨gs,rfl,hg⟩;refine⟨gs,rfl,?_⟩;have hgR:=hg.rows (λ_=>rfl) (by decide);refine loop3b (mk:=λs:Sl=>.slice s.p s.n s.c) (mc:=λs:Sl=>.slice s.p s.n s.c) (b0:=gs) (c0:=⟨none,0,0⟩) Bb Bb (AX d m).order.length (λi b c V3=>b=gs/\∃nd,CanAt d m V2 V3 c i nd) ⟨rfl,[],rfl,(λ_ _ _ h=>by omega),V2,Mem.sub.refl _,Own.nil (Mem.sub.refl _) _ _,(λ_ h=>by cases h)⟩ ?_;rintro i b s V3 J hi ⟨rfl,nd,C⟩ hJ;obtain⟨W,hW,H,hnd⟩:=C.mem;have X:V.sub V3:=((ho.sub.trans hg.sub).trans hW).trans H.sub;have Y:=hd.sub X;have P:=hm.sub X;have A:=hoR.sub ((hg.sub.trans hW).trans H.sub);refine⟨λE=>?_,λhge=>?_⟩
 ·obtain⟨n,hnm,hn,-,hil,hp,hz,hrow⟩:=A.get E;have hr:=R.rng n hnm;obtain⟨k,rfl⟩:∃k:Nat,n=(k:Int)+1:=⟨(n-1).toNat,by omega⟩;have hnn:=P.nodes.n_eq;obtain⟨z,I,hz',-,hl2,hpx,hzx,K⟩:=P.nodes.get (i:=k) (by omega);obtain⟨c1,c2⟩:=of_decide_eq_true (p3 z I);obtain⟨j,hj⟩:∃j:Nat,z.ty=(j:Int):=⟨_,(uK c1).symm⟩;have htn:=Y.types.n_eq;obtain⟨t,htm,ht,-,hl3,L,hzt,T⟩:=Y.types.get (i:=j) (by omega);have hI:IR ((k:Int)):=⟨by omega,by omega⟩;have hfo:=EW ht hj;have N:=p5 z I;rw[hfo]at N;refine⟨hp,hz,E,_,hrow,?_⟩;rw[show((k:Int)+1-1)=(k:Int)by omega];refine⟨hI,hpx,hzx,by omega,_,_,K,?_⟩;rw[hj];refine⟨L,hzt,by omega,Al L,_,_,T,Tri.mono (O7 (Y.typesOk t htm).fields (P.nodesOk z I).rows A (by omega) (Ll N) (by grind)) ?_⟩;rintro _ V4 ⟨fs,rfl,hf⟩;refine⟨fs,rfl,λtb htb=>?_⟩;have U:=Own.growS H hf.sub;have hfR:=hf.rows (λ_=>rfl) (by decide);obtain⟨nn,Z⟩:∃nn:Nd,nn=⟨(j:Int),fs,BJ (AX d m).order t.fields z.f⟩:=⟨_,rfl⟩;have hblk:Ab (V4.but s) fs 1 ((BJ (AX d m).order t.fields z.f).map Ah):=by
   have:Sx.Own (λ_=>none) (V4.but s) 3 1 fs ((BJ (AX d m).order t.fields z.f).flatMap Ah):=⟨(λ_ _ h=>by cases h),hf.len,by
    rcases hf.at_ with h|⟨g,cur,a,b,c,dd⟩;·exact .inl h
    ·exact .inr ⟨g,cur,a,rfl,Mem.but_at c (H.apartN b),dd⟩⟩
   exact this.rows (λ_=>rfl) (by decide)
  have hn2:Nd.Ok (V4.but s) nn:=by
   rw[Z];exact⟨hblk,⟨by simp_all,by show(j:Int)<=9223372036854775807;have:=(Y.types.succ (i:=j) (by omega)).2;omega⟩,ren_in (by omega) (P.nodesOk z I).vals⟩
  have hlen:nd.length<=4096:=by rw[C.len];omega
  refine app43 (s:=s) (u:=⟨some ⟨tb,0,none⟩,1,1⟩) (xs:=nd) (ys:=[nn]) rfl rfl (U.but.new htb (.cells #[uI (j:Int),uL fs] 85 (0,0))) (Ab.cells (xs:=[nn]) (row:=Nd.row) Au (by rw[Z];rfl) (λ_=>rfl) rfl (by simp)) (by simp;omega) λo2 V5 ho2=>⟨o2,rfl,A.succ E,hJ hil _ _ _ ⟨rfl,nd++[nn],by rw[zI,C.len];rfl,λq w x hq hw hx=>?_,V4.but s,hW.trans U.sub_but,ho2,λw hw=>?_⟩⟩
  ·by_cases hqi:q<i
   ·obtain⟨sl,hs⟩:=C.at_ q w x hqi hw hx;exact⟨sl,by rw[wK (by grind)];exact hs⟩
   ·have:q=i:=by omega
    subst this;rw[hn]at hw;cases hw;rw[show((k:Int)+1-1).toNat=k by omega,hz']at hx;cases hx;refine⟨fs,?_⟩;rw[<-C.len,List.getElem?_concat_length,Z,hfo,hj]
  ·rcases wL.1 hw with hw|hw;·exact(hnd w hw).sub U.sub_but
   simp_all
 ·have hdn:=(A.done hge).2;have hi':i=(AX d m).order.length:=by omega
  refine⟨X,⟨b,BJ (AX d m).order d.globals m.globals,s,nd⟩,rfl,⟨hgR.sub (hW.trans H.sub),ren_in (by omega) hm.gIn,H.rows (λ_=>rfl) (by decide),λn hn=>(hnd n hn).sub H.sub⟩,rfl,by rw[<-hi'];exact C.len,λj n x hj hx=>C.at_ j n x (by grind) hj hx⟩
end
theorem tri_frame{P:Program}{f:FuncId}{args:Array Value}{U:Mem}{M:Nat->Prop}{R:Ending->Mem->Prop}(J:∀b,M b->U b≠none)(h:Tri P f args (Mem.minus U M) R):
  Tri P f args U λe V2=>∃V',R e V'/\V'.sub V2/\(∀b o,M b->U b=some o->V2 b=some o)/\∀b,M b->V' b=none:=by
 unfold Tri at h⊢;intro w hw;have z:∀b,M b->b<w.heap.size:=λb k=>by
  cases hu:U b with
  |none=>simp_all
  |some o=>exact(Array.getElem?_eq_some_iff.1 (hw b o hu)).1
 intro cs;obtain⟨e,w',fr,⟨V',H,u⟩,rest⟩:=h w (λb o k=>hw b o (Ft b o k)) cs;have v:∀b,M b->V' b=none:=λb k=>by
  cases hv:V' b with
  |none=>rfl
  |some o=>
   rcases u.dom b (by rw[hv];simp)with h1|h1
   ·exact absurd (DV k) h1
   grind
 classical
 refine⟨e,w',fr,⟨λb=>if M b then U b else V' b,⟨V',H,λb o k=>?_,λb o hm k=>?_,v⟩,⟨u.size,λb o k=>?_,λb k hu=>?_,λb k=>?_,u.os,u.out⟩⟩,rest⟩;·grind
 ·simp_all
 ·have k:(if M b then U b else V' b)=some o:=k;by_cases hm:M b
  ·rw[if_pos hm]at k;rw[u.old b (z b hm) (DV hm)];exact hw b o k
  ·rw[if_neg hm]at k;exact u.le b o k
 ·refine u.old b k ?_;grind[DV,Cy]
 ·have k:(if M b then U b else V' b)≠none:=k;by_cases hm:M b;·simp_all
  ·rw[if_neg hm]at k;rcases u.dom b k with h1|h1;·grind[Cy]
   ·exact .inr h1
def Owns(Q:Mem->Mem->Prop)(M:Nat->Prop)(V:Mem):Prop:=(∀b,M b->V b≠none)/\∀V',(∀b o,M b->V b=some o->V' b=some o)->Q (Mem.minus V' M) V'
def Framed(Q:Mem->Mem->Prop):Prop:=∀W V,Q W V->∃M,(∀b,M b->W b=none)/\Owns Q M V
def Bi(D V:Mem)(Q:Mem->Mem->Prop):Prop:=∃M,Owns Q M V/\D.sub V/\∀b,D b≠none->¬M b
section
variable{D D' V V' W:Mem}{Q:Mem->Mem->Prop}
theorem Owns.keep{M:Nat->Prop}(h:Owns Q M V)(u:∀b o,M b->V b=some o->V' b=some o):Owns Q M V':=⟨λb k=>by
 cases hv:V b with
 |none=>exact absurd hv (h.1 b k)
 |some o=>simp_all,λV2 h2=>h.2 V2 λb o k hv=>h2 b o k (u b o k hv)⟩
theorem Bi.sub(h:Bi D V Q):D.sub V:=by obtain⟨M,-,h,-⟩:=h;exact h
theorem Bi.new(z:Framed Q)(S:Q W V)(e:W.sub V)(k:D.sub W):Bi D V Q:=by
 obtain⟨M,h1,h2⟩:=z W V S;refine⟨M,h2,k.trans e,λb v hm=>?_⟩;cases u:D b with
 |none=>exact v u
 |some o=>
  have:=k _ _ u;simp_all
theorem Bi.use(h:Bi D V Q):∃W,D.sub W/\W.sub V/\Q W V:=by
 obtain⟨M,f,u,z⟩:=h;exact⟨Mem.minus V M,λb o k=>by
  rw[Cy (z b (by rw[k];simp))];exact u _ _ k,Ft,f.2 V λ_ _ _ h=>h⟩
theorem Bi.run{P:Program}{f:FuncId}{args:Array Value}{R:Ending->Mem->Prop}(h:Bi D V Q)(H:∀U,D.sub U->Tri P f args U λe k=>U.sub k/\R e k):
  Tri P f args V λe V'=>∃D',D.sub D'/\R e D'/\Bi D' V' Q:=by
 obtain⟨M,f,v,J⟩:=h;have u:D.sub (Mem.minus V M):=λb o z=>by
  rw[Cy (J b (by rw[z];simp))];exact v _ _ z
 refine Tri.mono (tri_frame f.1 (H _ u)) ?_;rintro e V2 ⟨N,⟨h1,h2⟩,Z,Y,A⟩;exact⟨N,u.trans h1,h2,M,f.keep λb o hm hv=>Y b o hm hv,Z,λb hv hm=>hv (A b hm)⟩
theorem Bi.grow(h:Bi D V Q)(k:V.sub V'):Bi D V' Q:=by
 obtain⟨M,f,u,z⟩:=h;exact⟨M,f.keep λb o _ hv=>k _ _ hv,u.trans k,z⟩
theorem Bi.pub(h:Bi D V Q){b:Nat}(hv:V b=none)(o:Obj):Bi (D.set b o) (V.set b o) Q:=by
 obtain⟨M,f,u,v⟩:=h;have ne:∀c,V c≠none->c≠b:=λc k e=>k (by rw[e];exact hv);refine⟨M,f.keep λc z hm k=>by grind[Mem.set_ne],λc z k=>?_,λc k=>?_⟩
 ·by_cases e:c=b;·grind[Mem.set_same]
  ·rw[Mem.set_ne e]at k⊢;exact u _ _ k
 ·by_cases e:c=b;·subst e;exact λhm=>f.1 c hm hv
  grind[Mem.set_ne]
end
end Go.Proofs
