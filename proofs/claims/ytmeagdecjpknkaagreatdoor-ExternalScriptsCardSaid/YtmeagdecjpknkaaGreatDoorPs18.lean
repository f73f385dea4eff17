/- Part 18: no statement of the seat is proved here. -/
import Derived.Test.YtmeagdecjpknkaaGreatDoorPs17
import Derived.Test.YtmeagdecjpknkaaGreatDoorPs16
set_option linter.unusedVariables false
set_option linter.unusedSimpArgs false
open Go.Proofs.Tryz renaming prog->xE,underlying71->vX
open List renaming getElem?_eq_some_iff->yv,getElem?_eq_getElem->yu,mem_of_getElem?->xp,take_of_length_le->wx,drop_eq_nil_of_le->vW,length_map->x7,getD_cons_zero->xk,replicate->yJ,take_add_one->w8,length_append->zw
open Int renaming toNat_natCast->xo
open Go.Value renaming int->xa
open Go.Ending renaming returned->xH
open Go.DataW renaming Trod->vP
namespace Go.Proofs
open Go Go.Sx
attribute [local irreducible] Go.Sx.Tri
section
variable{V0 W V V1:Mem}{d:Ds}{p F c q:Nat}{s:St}{pr:Pr}{vals:List Int}
theorem failW{c:Int}(g:V0.sub W)(M:XM W d p F V s c 0){k:Int}(f:k≠0){G:Rx Int}(t:G=.bad k s):Tri xE 178 #[pv p,.int .i64 k] V λe V'=>∃v,e=.returned (.int .i64 v)/\XR V0 d p F c G (.returned (.int .i64 v)) V':=
 Tri.mono (failX M f t) λ_ _ ⟨v,u,h⟩=>⟨v,u,h.narrow g⟩
theorem exprX0{n:Nat}(hR:XCallC d p F n):∀(e:E)(V0 V:Mem)(s:St)(c q:Nat)(pr:Pr)(vals:List Int),Yx V0 d p F c q pr vals n (szE e) V s->VE e->E.Ok V0 e->((∃t,qAq d (qAg d pr) e=(t,0))∨(e.op=7/\∃U i,CallK d (qAg d pr) e U i))->
  Tri xE 255 #[pv p,pv q,e.v] V (XR V0 d p F c (evX d (qCG d (qCs d F n) c) pr vals e s)):=by
 intro e;induction e using E.ind with
 |h e ih=>
 intro V0 V s c q pr vals X hv he ht;have L0:=X.M.sub;obtain⟨f,hf⟩:∃f,f=evX d (qCG d (qCs d F n) c) pr vals:=⟨_,rfl⟩;obtain⟨G,Z⟩:∃G:Rx Int,G=qDz d (qCG d (qCs d F n) c) pr vals (intB d (qAg d pr) e.k) e.op e.n e.s (e.k.map f) s:=⟨_,rfl⟩;rw[evX_eq,<-hf,<-Z];have hcs:=qEL X.S.procs (qDP (F:=F) X.S.procs n) c;have hsz:=szE_eq e;have K:∀{i:Nat}{a:E},e.k[i]?=some a->qEU (e.k.map f) i=f a:=λh=>qLO h;have kid:∀{a:E}{u:KB}{W V1:Mem}{P:St},a∈e.k->qAq d (qAg d pr) a=(u,0)->V0.sub W->Yx W d p F c q pr vals n (szE a) V1 P->Tri xE 255 #[pv p,pv q,.agg #[.int .i64 a.op,.int .i64 a.n,.string a.s,.slice a.l.p a.l.n a.l.c]] V1 (XR W d p F c (f a P)):=λ{a u W V1 P} hm Y O X1=>by
  rw[hf];exact ih a hm W V1 P c q pr vals X1 (hv.kids a hm) ((he.kids a hm).sub O) (.inl ⟨u,Y⟩)
 have snd:∀{a:E}{u:KB}{P:St}{m:Nat},a∈e.k->qAq d (qAg d pr) a=(u,0)->qAw d P.mm->Gr F m s P->RxP d F (szE a) P (f a P) λv s'=>qBN d s'.mm u v:=λhm Y G1 B=>by
  rw[hf];exact qLa X.S.procs hcs X.po _ _ _ (hv.kids _ hm) Y G1 (qAp (λh=>B.right h) X.hv)
 have hkt:∀a∈e.k,qAq d (qAg d pr) a=((qAq d (qAg d pr) a).1,0):=λa Y=>by
  rcases ht with⟨t,ht⟩|⟨-,U,i,A⟩;·exact Prod.ext rfl ((qGd ht).1 a Y)
  ·obtain⟨j,hj⟩:=List.mem_iff_getElem?.1 Y;have C:=(yv.1 hj).1;rw[A.len]at C;obtain⟨u,hu,-⟩:=A.fit j a _ hj (yu C);rw[hu]
 have N:(∃t,qEW d (qAg d pr) e t/\e.op≠7)∨(e.op=7/\∃U i,CallK d (qAg d pr) e U i):=by
  rcases ht with⟨t,ht⟩|h
  ·by_cases h7:e.op=7
   ·right;cases kindX (sc:=qAg d pr) rfl hv ht with
    |call h A hr=>grind
    |int h hn=>omega
    |bool h hn=>omega
    |nil h hn=>omega
    |var h hl hne=>omega
    |fld h=>omega
    |new h=>omega
    |neg h=>omega
    |not h=>omega
    |log h=>omega
    |and h=>omega
    |or h=>omega
    |cond h=>omega
    |eq h=>omega
    |cmp h=>omega
    |ari h=>omega
   ·exact .inl ⟨t,kindX (sc:=qAg d pr) rfl hv ht,h7⟩
  ·exact .inr h
 have hall:∀j:Nat,((e.k.take j).map szE).sum<=(e.k.map szE).sum:=λj=>by
  have:=congrArg (λl=>(l.map szE).sum) (List.take_append_drop j e.k);grind
 refine Tri.mono (x255 (R:=XR V0 d p F c G) ?_) λ_ _ h=>h;refine⟨nn,nn,_,X.M.fault,λ_=>?_,λh=>absurd rfl h⟩;have lz:(e.op=19∨e.op=20∨e.op=21)->∀{a a1:E},e.k[0]?=some a->e.k[1]?=some a1->(e.op=21->∃a2,e.k[2]?=some a2)->(∀{i:Nat}{y:E},i≠0->e.k[i]?=some y->szE a+szE y<=szE e)->
   Tri xE 286 #[pv p,pv q,e.v] V λe' V'=>∃v,e'=.returned (.int .i64 v)/\XR V0 d p F c G (.returned (.int .i64 v)) V':=λhop {a a1} h0 h1 h2 hle=>by
  refine XR.last rfl (lazyX X he hop Z h0 h1 h2 λ{i y V1 P} hy A=>?_);have hm:=xp hy;rcases A with⟨rfl,rfl,rfl⟩|⟨hi,v,Q,M1⟩
  ·rw[h0]at hy;cases hy;have:szE a<=szE e:=by grind
   exact kid hm (hkt _ hm) (Mem.sub.refl _) (X.le this)
  ·have Y:=xp h0;obtain⟨G1,B,-⟩:=(snd Y (hkt _ Y) X.G (Gr.refl s)).got Q;exact kid hm (hkt _ hm) (Mem.sub.refl _) ((X.le (k:=szE a+szE y) (hle hi hy)).next B G1 M1)
 by_cases hE:e.op=1∨e.op=2∨e.op=3∨e.op=4∨e.op=6∨e.op=19∨e.op=20∨e.op=21
 ·rcases N with⟨t,N,h7⟩|⟨h7,-⟩;rotate_left;·omega
  cases N with
  |int h hn=>exact qAv h (XR.ok (Z.trans (cX1 (.inl h))) X.M)
  |bool h hn=>exact qAl (by omega) (qAv h (XR.ok (Z.trans (cX1 (.inr h))) X.M))
  |nil h hn=>exact qAl (by omega) (qAl (by omega) (qAv h (XR.ok (Z.trans (cX3 h)) X.M)))
  |var h hl hne=>exact qAl (by omega) (qAl (by omega) (qAl (by omega) (qAv h (XR.last (Z.trans (cX4 h)) (nameX (X.le (k:=0+1) (by omega)) hl hne)))))
  |new h hn=>exact qAl (by omega) (qAl (by omega) (qAl (by omega) (qAl (by omega) (qAv h (XR.last (Z.trans (cX6 h)) (allocX (X.le (k:=0+1) (by omega)) hn))))))
  |@and a b h x Y hb=>
   refine qAl (by omega) (qAl (by omega) (qAl (by omega) (qAl (by omega) (qAl (by omega) (qAv h (lz (.inl h) (a:=a) (a1:=b) (by rw[x];rfl) (by rw[x];rfl) (λh=>by omega) λ{i y} hi hy=>?_))))));grind
  |@or a b h x Y hb=>
   refine qAl (by omega) (qAl (by omega) (qAl (by omega) (qAl (by omega) (qAl (by omega) (qAl (by omega) (qAv h (lz (.inr (.inl h)) (a:=a) (a1:=b) (by rw[x];rfl) (by rw[x];rfl) (λh=>by omega) λ{i y} hi hy=>?_)))))));grind
  |@cond a b c' _ u w h x Y hb A hu hw htt=>
   refine qAl (by omega) (qAl (by omega) (qAl (by omega) (qAl (by omega) (qAl (by omega) (qAl (by omega) (qAl (by omega) (qAv h (lz (.inr (.inr h)) (a:=a) (a1:=b) (by rw[x];rfl) (by rw[x];rfl) (λ_=>⟨c',by rw[x];rfl⟩) λ{i y} hi hy=>?_))))))));grind
  |fld h=>omega
  |call h=>omega
  |neg h=>omega
  |not h=>omega
  |log h=>omega
  |eq h=>omega
  |cmp h=>omega
  |ari h=>omega
 ·refine qAl (by omega) (qAl (by omega) (qAl (by omega) (qAl (by omega) (qAl (by omega) (qAl (by omega) (qAl (by omega) (qAl (by omega) ?_)))))));have hGb:∀{k:Int}{s2:St},qKl (e.k.map f) [] s=.bad k s2->G=.bad k s2:=λ{k s2} hb=>by
   have one:∀{a:E},e.k=[a]->f a s=.bad k s2:=λx=>by grind[sq1_bad]
   rcases N with⟨t,N,h7⟩|⟨h7,-⟩;rotate_left;·rw[Z,cX7 h7,hb];rfl
   cases N with
   |@fld _ u a h x Y hf'=>rw[Z,cX5 h,K (a:=a) (by rw[x];rfl),one x];rfl
   |call h A hr=>omega
   |@neg a h x Y=>rw[Z,cX8 h,K (a:=a) (by rw[x];rfl),one x];rfl
   |@not a h x Y=>rw[Z,cX18 h,K (a:=a) (by rw[x];rfl),one x];rfl
   |@log a h x Y=>rw[Z,cX24 h,K (a:=a) (by rw[x];rfl),one x];rfl
   |@eq a b u w h x Y I hf'=>rw[Z,qKv (by omega),K (i:=0) (a:=a) (by rw[x];rfl),K (i:=1) (a:=b) (by rw[x];rfl)];rw[x]at hb;exact sq2_bad hb
   |@cmp a b h x Y I=>rw[Z,qKv (by omega),K (i:=0) (a:=a) (by rw[x];rfl),K (i:=1) (a:=b) (by rw[x];rfl)];rw[x]at hb;exact sq2_bad hb
   |@ari a b h x Y I=>rw[Z,qKv (by omega),K (i:=0) (a:=a) (by rw[x];rfl),K (i:=1) (a:=b) (by rw[x];rfl)];rw[x]at hb;exact sq2_bad hb
   |int h=>omega
   |bool h=>omega
   |nil h=>omega
   |var h=>omega
   |new h=>omega
   |and h=>omega
   |or h=>omega
   |cond h=>omega
  have hlen6:e.k.length<=2000:=by
   have h1:=he.rows.n_eq;rcases N with⟨t,N,h7⟩|⟨h7,U,i,A⟩;rotate_left;·rw[A.len];have:=qIe X.S.procs A.at_;omega
   cases N with
   |@fld _ u a h x Y hf'=>rw[x];simp
   |call h A hr=>omega
   |@neg a h x Y=>rw[x];simp
   |@not a h x Y=>rw[x];simp
   |@log a h x Y=>rw[x];simp
   |@eq a b u w h x Y I hf'=>rw[x];simp
   |@cmp a b h x Y I=>rw[x];simp
   |@ari a b h x Y I=>rw[x];simp
   |int h=>omega
   |bool h=>omega
   |nil h=>omega
   |var h=>omega
   |new h=>omega
   |and h=>omega
   |or h=>omega
   |cond h=>omega
  refine loop3u (mk:=λs:Sl=>.slice s.p s.n s.c) (mc:=.int .i64) (b0:=⟨none,0,0⟩) (c0:=0) qAH qCZ e.k.length (λj sl _ V1=>∃W acc P,V0.sub W/\Sx.Own V0 W 3 1 sl (acc.flatMap qAe)/\XM W d p F V1 P c 0/\acc.length=j/\qAw d P.mm/\Gr F ((e.k.take j).map szE).sum s P/\(∀(i:Nat) a v,e.k[i]?=some a->acc[i]?=some v->qBN d P.mm (qAq d (qAg d pr) a).1 v)/\
   qKl (e.k.map f) [] s=qKl ((e.k.drop j).map f) acc P) ⟨V0,[],s,Mem.sub.refl _,Own.nil (Mem.sub.refl _) _ _,X.M,rfl,X.G,by simpa using Gr.refl s,λi a v _ h=>by simp at h,rfl⟩ ?_
  rintro j sl z V1 J hj ⟨W,acc,P,O,ho,M1,hacc,G1,B,D,o⟩ hJ;have heW:=(he.sub O).sub M1.sub;refine⟨λhlt=>?_,λhge=>?_⟩
  ·obtain⟨a,ham,Y,hdr,C,hp,hz,hrow⟩:=heW.rows.get hlt;have hu:=hkt a ham;have hsum:((e.k.take (j+1)).map szE).sum=((e.k.take j).map szE).sum+szE a:=by grind
   have X1:Yx W d p F c q pr vals n (szE a) V1 P:=by
    have X':=X.le (k:=((e.k.take j).map szE).sum+szE a) (by grind);exact⟨X.S.sub O,X.fr.sub O,X.pm,G1,qAp (λh=>B.right h) X.hv,M1,B.fu X.tk,by have:=B.tk;have:=X.n;omega,X'.w.next B⟩
   rw[hdr,List.map_cons]at o;have hseq':qKl (e.k.map f) [] s=(f a P).bind λv st=>qKl ((e.k.drop (j+1)).map f) (acc++[v]) st:=o;refine⟨hp,hz,hlt,_,_,_,_,hrow,XR.any (kid ham hu O X1) λv kf s2 V2 M2 A=>λtb htb=>?_⟩;have ho2:Sx.Own V0 V2 3 1 sl (acc.flatMap qAe):=Own.moveB ho (O.trans M2.sub) λg cur _ hg=>M2.sub _ _ hg;refine qCU (s:=sl) (u:=⟨some ⟨tb,0,none⟩,1,1⟩) (xs:=acc) (ys:=[v]) rfl rfl (ho2.but.new htb (.cells #[.int .i64 v] 3 (0,0))) (qJo mss) (by simp;omega) λo3 V3 ho3=>⟨o3,rfl,?_⟩;obtain⟨W',hW',M3,ho4⟩:=M2.beside O ho ho3;refine⟨nn,nn,_,XM.fault M3,λhkf=>⟨heW.rows.succ hlt,hJ C _ _ _ ?_⟩,λhkf=>?_⟩
   ·rcases A with⟨hk0,e2⟩|⟨h,-⟩;rotate_left;·omega
    subst hk0;obtain⟨G2,g2,hv2⟩:=(snd ham hu G1 B).got e2;refine⟨W',acc++[v],s2,hW',ho4,M3,by grind,G2,by rw[hsum];exact B.trans g2,λi b w hb hw=>?_,by rw[hseq',e2];rfl⟩;by_cases hi:i<acc.length
    ·rw[List.getElem?_append_left hi]at hw;exact g2.val (D i b w hb hw)
    grind
   ·have hkf:¬kf=0:=hkf;rcases A with⟨h,-⟩|⟨-,rfl,e2⟩;·omega
    exact(XR.bad (hGb (by rw[hseq',e2];rfl)) hkf M3).narrow hW'
  ·have hdn:=(heW.rows.done hge).2;rw[wx hdn]at B;rw[vW hdn]at o;have o:qKl (e.k.map f) [] s=.ok acc P:=o;obtain⟨gs,ns,ls,nd,hat,L⟩:=M1.ex;have hd:=(X.S.sub O).ds.sub L.sub;have hoR:qAc W sl 1 (acc.map qAe):=ho.rows (λ_=>rfl) (by decide);have X1:Yx W d p F c q pr vals n 1 V1 P:=by
    have X':=X.le (k:=(e.k.map szE).sum+1) (by omega);exact⟨X.S.sub O,X.fr.sub O,X.pm,G1,qAp (λh=>B.right h) X.hv,M1,B.fu X.tk,by have:=B.tk;have:=X.n;omega,X'.w.next B⟩
   have at_:∀{i:Nat}{v:Int}{V':Mem},acc[i]?=some v->W.sub V'->¬sl.p=none/\(0:Int)<=(i:Int)/\(i:Int)<(sl.n:Int)/\V'.rowp sl.p (i*1) 1=some [.int .i64 v]:=λh hs=>gAt (hoR.sub hs) h;rcases N with⟨t,N,h7⟩|⟨h,U,i,A⟩;rotate_left
   ·have H:=Z.trans (cX7 h);rw[o,A.idx]at H;have H:G=qCG d (qCs d F n) c (i:Int) acc P:=H;refine qAl (by omega) (qAv h ⟨nn,nn,_,_,_,_,_,_,_,_,qAd hat 0 8 (by simp[qBI]),(c136 hd).call ⟨_,rfl,?_⟩⟩);rw[show qHG (λt:Pr=>decide (t.name=e.s)) d.procs=(i:Int)from A.idx];have hkn:=qDH X.S.procs A.at_;refine lastW O H (hR W V1 P c i U acc sl (X.S.sub O) A.at_ G1 (qAD.2 ⟨by rw[<-A.len];omega,λjj g v hg hv=>?_⟩) hoR M1 (B.fu X.tk) (by have:=B.tk;have:=X.n;omega) (X1.w.le (by omega)));have C:=(yv.1 hg).1;rw[<-A.len]at C;obtain⟨u,hu,hfit⟩:=A.fit jj _ _ (yu C) hg;have:=D jj _ v (yu C) hv;rw[hu]at this;exact(qBo X.S.valid (hkn _ (xp hg))).1 (qCo X.S.valid hfit this)
   cases N with
   |@fld _ u a h x Y hf'=>
    have h0:e.k[0]?=some a:=by rw[x];rfl
    have H:=Z;rw[cX5 h,K h0]at H;rw[x]at o;obtain⟨v,e1,rfl⟩:=sq1_ok o;rw[e1]at H;have H:G=fldX d v e.s P:=H;have Q:=D 0 a v h0 rfl;rw[Y]at Q;obtain⟨a1,a2,a3,T⟩:=at_ (i:=0) (v:=v) rfl L.sub;refine qAv h ⟨a1,by decide,a3,_,T,λhz=>failW O M1 (by decide) ?_,λhz=>?_⟩;·grind[fldX]
    have hz:¬v=0:=hz;obtain⟨k,i,jj,tt,g,fs,w,rfl,e2,e3,e4,e5,e6,e7,e8,e9,-⟩:=qFH X1.G hf' Q hz;refine⟨a1,by decide,a3,_,T,(c287 X1.S M1 e2 e3).call ⟨_,rfl,a1,by decide,a3,_,T,?_⟩⟩;rw[e6];refine Tri.mono (c288 M1 (X1.fit (m:=0))) ?_;rintro _ V3 ⟨rfl,M3⟩;obtain⟨gs3,ns3,ls3,nd3,sl3,hat3,L3,-,hI,n1,n2,n3,n4,m1,m2,m3,m4⟩:=nodeX M3 (k:=k) (i:=i) e2 e8;obtain⟨b1,b2,b3,b4⟩:=at_ (i:=0) (v:=(k:Int)+1) rfl L3.sub;refine⟨rfl,nn,nn,pnn,ns3,qAd hat3 9 1 (by simp[qBI]),b1,by decide,b3,_,b4,?_⟩;rw[show((k:Int)+1-1)=(k:Int)by omega];refine⟨hI,n1,n2,n3,qAf n1,_,_,n4,m1,m2,m3,_,m4,(XR.ok ?_ M3).narrow O⟩;rw[H];unfold fldX;rw[if_neg hz,show((k:Int)+1-1).toNat=k by omega,e2];grind[xo]
   |call h A hr=>omega
   |@neg a h x Y=>
    have h0:e.k[0]?=some a:=by rw[x];rfl
    have H:=Z;rw[cX8 h,K h0]at H;rw[x]at o;obtain⟨v,e1,rfl⟩:=sq1_ok o;rw[e1]at H;have H:G=qEB (big (-v)) P:=H;have Q:=D 0 a v h0 rfl;rw[Y]at Q;have:=qBh.1 Q;rw[<-Int.zero_sub]at H;obtain⟨a1,a2,a3,T⟩:=at_ (i:=0) (v:=v) rfl L.sub;exact qAl (by omega) (qAl (by omega) (qAv h ⟨a1,by decide,a3,_,T,⟨by omega,by omega⟩,lastW O H (c289 M1)⟩))
   |@log a h x Y=>
    have h0:e.k[0]?=some a:=by rw[x];rfl
    have H:=Z;rw[cX24 h,K h0]at H;rw[x]at o;obtain⟨v,e1,rfl⟩:=sq1_ok o;rw[e1]at H;have H:G=.ok (qKr v) P:=H;have Q:=D 0 a v h0 rfl;rw[Y]at Q;have:=qBh.1 Q;obtain⟨a1,a2,a3,T⟩:=at_ (i:=0) (v:=v) rfl L.sub;exact qAl (by omega) (qAl (by omega) (qAl (by omega) (qAv h ⟨a1,by decide,a3,_,T,(c290 (by omega)).call ⟨_,rfl,(XR.ok H M1).narrow O⟩⟩)))
   |@not a h x Y=>
    have h0:e.k[0]?=some a:=by rw[x];rfl
    have H:=Z;rw[cX18 h,K h0]at H;rw[x]at o;obtain⟨v,e1,rfl⟩:=sq1_ok o;rw[e1]at H;have H:G=.ok (1-v) P:=H;have Q:=D 0 a v h0 rfl;rw[Y]at Q;have:=qBg.1 Q;obtain⟨a1,a2,a3,T⟩:=at_ (i:=0) (v:=v) rfl L.sub;exact qAl (by omega) (qAl (by omega) (qAl (by omega) (qAl (by omega) (qAv h ⟨a1,by decide,a3,_,T,⟨by omega,by omega⟩,(XR.ok H M1).narrow O⟩))))
   |@eq a b u w h x Y I hf'=>
    have h0:e.k[0]?=some a:=by rw[x];rfl
    have h1:e.k[1]?=some b:=by rw[x];rfl
    have H:=Z;rw[qKv (by omega),K h0,K h1]at H;have hib:intB d (qAg d pr) e.k=decide (u=qAT):=by rw[x];show decide ((qAq d (qAg d pr) a).1=qAT)=_;rw[Y]
    rw[hib]at H;rw[x]at o;obtain⟨v,y,s',e1,e2,rfl⟩:=sq2_ok o;rw[e1]at H;have H:G=(f b s').bind λw st=>qEB (qCP e.op v w) (qMd (decide (u=qAT)) e.op st):=H;rw[e2]at H;obtain⟨a1,a2,a3,T⟩:=at_ (i:=0) (v:=v) rfl L.sub;obtain⟨b1,b2,b3,b4⟩:=at_ (i:=1) (v:=y) rfl L.sub;have fin:=lastW O H (compareX (v:=v) (w:=y) (X1.le (k:=0+1) (by omega)) hv (he.sub O) h0 Y (by omega));rcases h with h|h;·exact qAl (by omega) (qAl (by omega) (qAl (by omega) (qAl (by omega) (qAl (by omega) (qAv h ⟨a1,by decide,a3,_,T,b1,by decide,b3,_,b4,fin⟩)))))
    ·exact qAl (by omega) (qAl (by omega) (qAl (by omega) (qAl (by omega) (qAl (by omega) (qAl (by omega) (qAv h ⟨a1,by decide,a3,_,T,b1,by decide,b3,_,b4,fin⟩))))))
   |@cmp a b h x Y I=>
    have h0:e.k[0]?=some a:=by rw[x];rfl
    have h1:e.k[1]?=some b:=by rw[x];rfl
    have H:=Z;rw[qKv (by omega),K h0,K h1]at H;have hib:intB d (qAg d pr) e.k=decide (qAT=qAT):=by rw[x];show decide ((qAq d (qAg d pr) a).1=qAT)=_;rw[Y]
    rw[hib]at H;rw[x]at o;obtain⟨v,y,s',e1,e2,rfl⟩:=sq2_ok o;rw[e1]at H;have H:G=(f b s').bind λw st=>qEB (qCP e.op v w) (qMd (decide (qAT=qAT)) e.op st):=H;rw[e2]at H;obtain⟨a1,a2,a3,T⟩:=at_ (i:=0) (v:=v) rfl L.sub;obtain⟨b1,b2,b3,b4⟩:=at_ (i:=1) (v:=y) rfl L.sub;have fin:=lastW O H (compareX (v:=v) (w:=y) (X1.le (k:=0+1) (by omega)) hv (he.sub O) h0 Y (by grind));rcases h with h|h;·exact qAl (by omega) (qAl (by omega) (qAl (by omega) (qAl (by omega) (qAl (by omega) (qAl (by omega) (qAl (by omega) (qAv h ⟨a1,by decide,a3,_,T,b1,by decide,b3,_,b4,fin⟩)))))))
    ·exact qAl (by omega) (qAl (by omega) (qAl (by omega) (qAl (by omega) (qAl (by omega) (qAl (by omega) (qAl (by omega) (qAl (by omega) (qAv h ⟨a1,by decide,a3,_,T,b1,by decide,b3,_,b4,fin⟩))))))))
   |@ari a b h x Y I=>
    have h0:e.k[0]?=some a:=by rw[x];rfl
    have h1:e.k[1]?=some b:=by rw[x];rfl
    have H:=Z;rw[qKv (by omega),K h0,K h1]at H;rw[x]at o;obtain⟨v,y,s',e1,e2,rfl⟩:=sq2_ok o;rw[e1]at H;have H:G=(f b s').bind λw st=>qEB (qCP e.op v w) (qMd (intB d (qAg d pr) e.k) e.op st):=H;rw[e2]at H;have H:G=qEB (qCP e.op v y) (qMd (intB d (qAg d pr) e.k) e.op P):=H;unfold qMd at H;rw[if_neg (by omega)]at H;have Q:=D 0 a v h0 rfl;have hv2:=D 1 b y h1 rfl;rw[Y]at Q;rw[I]at hv2;obtain⟨a1,a2,a3,T⟩:=at_ (i:=0) (v:=v) rfl L.sub;obtain⟨b1,b2,b3,b4⟩:=at_ (i:=1) (v:=y) rfl L.sub;exact qAl (by omega) (qAl (by omega) (qAl (by omega) (qAl (by omega) (qAl (by omega) (qAl (by omega) (qAl (by omega) (qAl (by omega) (qAl (by omega) ⟨a1,by decide,a3,_,T,b1,by decide,b3,_,b4,lastW O H (c292 M1 h (qBh.1 Q) (qBh.1 hv2))⟩))))))))
   |int h=>omega
   |bool h=>omega
   |nil h=>omega
   |var h=>omega
   |new h=>omega
   |and h=>omega
   |or h=>omega
   |cond h=>omega
theorem exprX{n:Nat}(h:XCallC d p F n):XExprC d p F n:=λe t V0 V s c q pr vals X hv k g=>exprX0 h e V0 V s c q pr vals X hv k (.inl ⟨t,g⟩)
end
section
variable{W V0 V V1 V':Mem}{d:Ds}{p F c q:Nat}{s:St}{pr:Pr}{vals:List Int}
structure FrX (W V0:Mem)(q:Nat)(pr:Pr)(vals:List Int)(r:Option Int):Prop where
 sub:W.sub V0
 q0:W q=none
 ex:∃a b:Sl,V0 q=some (.cells (qKd pr a b r).toArray 259 (0,0))/\qAc W a 2 (pr.vars.map Fld.row)/\Sx.Own W V0 3 1 b (vals.flatMap qAe)
theorem FrX.gv(h:FrX W V0 q pr vals none):Gv V0 q pr vals:=by
 obtain⟨a,b,h1,h2,h3⟩:=h.ex;exact⟨a,b,h1,h2.sub h.sub,h3.rows (λ_=>rfl) (by decide)⟩
theorem qJk{b:Sl}{vs:List Value}(own:Sx.Own W V0 3 1 b vs)(q0:W q=none){x:Array Value}(f:V0 q=some (.cells x 259 (0,0)))(o:Obj):Sx.Own W (V0.set q o) 3 1 b vs:=
 Own.moveB own (own.sub.set q0 _) λg h _ k=>by
  rw[Zm];exact k;grind
theorem frStoreX{ty:Nat}{row:Sl->Sl->Sl->List Value}{b:Sl}(own:Sx.Own W V0 3 1 b (vals.flatMap qAe))(M:MA ty V0 p row V s){i:Nat}(hi:i<vals.length){v:Int}{Q:Mem->Prop}
  (t:∀h V',Sx.Own W h 3 1 b ((vals.set i v).flatMap qAe)->MA ty h p row V' s->(∀x,¬Blk b x->h x=V0 x)->Q V'):StT (qAa b.p (i*1)) 0 [.int .i64 v] V Q:=by
 rw[Nat.mul_one];rcases own.cases0 with⟨h1,h2,h3⟩|⟨u,g,cur,h1,h2,h3,h4,z,J,y⟩
 ·rw[qAR]at h3;have:vals=[]:=by simpa using h3
  rw[this]at hi;simp at hi
 have o:b.n*1<=b.c*1:=Nat.mul_le_mul_right _ h4;have f:=own.len;rw[qAR,x7]at f;have k:V0 g≠none:=by rw[h3];simp
 rw[h1];have e:(cur.toList.take i++[xa .i64 v]++cur.toList.drop (i+1))=cur.toList.set i (.int .i64 v):=qDf _ _ _ (by simp;omega);refine StT.at2 (off:=i) (M.sub _ _ h3) (by simp;omega) (t (V0.set g _) _ ⟨own.sub.set h2 _,?_,.inr ⟨g,_,h1,h2,Mem.set_same _ _ _,h4,z,?_,?_⟩⟩ (M.poke k _) λx H=>?_);·rw[qAR,x7,List.length_set];exact f
 ·simp_all
 ·rw[show i+[xa .i64 v].length=i+1 from rfl,e];show(cur.toList.set i (.int .i64 v)).take (b.n*1)=_;rw[List.take_set,y,qAR,qAR,List.map_set]
 ·rw[Zm];rintro rfl;exact H ⟨u,h1⟩
def PY(W:Mem)(d:Ds)(p F:Nat)(c:Int)(q:Nat)(pr:Pr)(r:Rx Rt):Ending->Mem->Prop:=λe V'=>e=.returned (.tuple #[])/\match r with
 |.ok g s=>∃h,FrX W h q pr g.1 g.2/\XM h d p F V' s c 0
 |.bad k s=>k≠0/\∃h vals f,FrX W h q pr vals f/\XM h d p F V' s c k
theorem PY.ok{c:Int}{G:Rx Rt}{rt:Rt}(h:G=.ok rt s)(k:FrX W V0 q pr rt.1 rt.2)(M:XM V0 d p F V s c 0):PY W d p F c q pr G (.returned (.tuple #[])) V:=by
 rw[h];exact⟨rfl,V0,k,M⟩
theorem PY.bad{c:Int}{G:Rx Rt}{k:Int}(g:G=.bad k s)(f:k≠0){h:Option Int}(t:FrX W V0 q pr vals h)(M:XM V0 d p F V s c k):PY W d p F c q pr G (.returned (.tuple #[])) V:=by
 rw[g];exact⟨rfl,f,V0,vals,h,t,M⟩
theorem PY.any{c:Int}{f:FuncId}{args:Array Value}{r:Rx Rt}{K:Mem->Prop}(H:Tri xE f args V (PY W d p F c q pr r))(h:∀t g z u s V',FrX W t q pr g z->XM t d p F V' s c u->(u=0/\r=.ok (g,z) s∨u≠0/\r=.bad u s)->K V'):
  Tri xE f args V λe V'=>e=.returned (.tuple #[])/\K V':=
 Tri.mono H λe V' k=>by
  cases r with
  |ok y s=>obtain⟨h1,t,h2,h3⟩:=k;grind
  |bad u s=>obtain⟨h1,x,t,g,z,h2,h3⟩:=k;grind
theorem PY.last{c:Int}{f:FuncId}{args:Array Value}{G r:Rx Rt}(g:G=r)(H:Tri xE f args V (PY W d p F c q pr r)):Tri xE f args V λe V'=>e=.returned (.tuple #[])/\PY W d p F c q pr G (.returned (.tuple #[])) V':=by
 subst g;refine PY.any H λt h y x s V' k M u=>?_;rcases u with⟨rfl,e⟩|⟨z,e⟩;·exact PY.ok e k M
 ·exact PY.bad e z k M
structure Yx1 (W V0:Mem)(d:Ds)(p F c q:Nat)(pr:Pr)(vals:List Int)(n m:Nat)(V:Mem)(s:St):Prop where
 S:ES W d F
 fr:FrX W V0 q pr vals none
 pm:pr∈d.procs
 G:qAw d s.mm
 hv:qAi d s.mm pr.vars vals=true
 M:XM V0 d p F V s c 0
 tk:s.tk<=F
 n:F<n+s.tk
 w:BW m s
theorem Yx1.po{n m:Nat}(X:Yx1 W V0 d p F c q pr vals n m V s):qCV d pr:=X.S.procs pr X.pm
theorem Yx1.cx{n m:Nat}(X:Yx1 W V0 d p F c q pr vals n m V s):Yx V0 d p F c q pr vals n m V s:=⟨X.S.sub X.fr.sub,X.fr.gv,X.pm,X.G,X.hv,X.M,X.tk,X.n,X.w⟩
theorem Yx1.next{n m k:Nat}{f:Mem}{h:List Int}{s':St}(X:Yx1 W V0 d p F c q pr vals n (m+k) V s)(g:Gr F m s s')(G:qAw d s'.mm)(t:FrX W f q pr h none)(hv:qAi d s'.mm pr.vars h=true)(M:XM f d p F V' s' c 0):Yx1 W f d p F c q pr h n k V' s':=
 ⟨X.S,t,X.pm,G,hv,M,g.fu X.tk,by have:=g.tk;have:=X.n;omega,X.w.next g⟩
theorem Yx1.le{n m k:Nat}(X:Yx1 W V0 d p F c q pr vals n m V s)(h:k<=m):Yx1 W V0 d p F c q pr vals n k V s:=⟨X.S,X.fr,X.pm,X.G,X.hv,X.M,X.tk,X.n,X.w.le h⟩
theorem Yx1.tick{n:Nat}(X:Yx1 W V0 d p F c q pr vals (n+1) 0 V s)(h:s.tk<F)(M:XM V0 d p F V' {s with tk:=s.tk+1} c 0):Yx1 W V0 d p F c q pr vals n 4000 V' {s with tk:=s.tk+1}:=
 ⟨X.S,X.fr,X.pm,⟨X.G.valid,X.G.chk,X.G.mem⟩,X.hv,M,h,by have:=X.n;grind,by have:=X.w;grind[BW]⟩
variable(d p F)in
def XSC(n:Nat):Prop:=∀(l:List S)(W V0 V:Mem)(s:St)(c q:Nat)(pr:Pr)(vals:List Int)(sl:Sl),Yx1 W V0 d p F c q pr vals n 0 V s->(∀x∈l,TyS d pr x)->(∀x∈l,S.Ok W x)->qAc W sl 5 (l.map S.row)->
 Tri xE 179 #[pv p,pv q,sl.v] V (PY W d p F c q pr (qCs d F n c pr l vals s))
variable(d p F)in
def XLoopC(n:Nat):Prop:=∀(x:S)(W V0 V:Mem)(s:St)(c q:Nat)(pr:Pr)(vals:List Int),x.op=4->Yx1 W V0 d p F c q pr vals (n+1) 0 V s->TyS d pr x->S.Ok W x->
 Tri xE 210 #[pv p,pv q,x.v] V (PY W d p F c q pr (stX d F (qCs d F n) c pr (n+1) x vals s))
variable(d p F)in
def XBodyC(n:Nat):Prop:=∀(x:S)(W V0 V:Mem)(s:St)(c q:Nat)(pr:Pr)(vals:List Int),x.op≠4->Yx1 W V0 d p F c q pr vals n 4000 V s->TyS d pr x->S.Ok W x->
 Tri xE 212 #[pv p,pv q,x.v] V (PY W d p F c q pr (qHM d F (qCs d F n) c pr (n+1) x vals s))
theorem FrX.done{k g:Int}{r:Option Int}(h:FrX W V0 q pr vals r)(M:XM V0 d p F V s g k):V.rowp (sa q) ((7:Int).toNat*1) 1=some [.bool r.isSome]:=by
 obtain⟨a,b,h1,-,-⟩:=h.ex;exact qAd (M.sub _ _ h1) 7 1 (by simp[qKd])
theorem stsY{n:Nat}(HL:XLoopC d p F n)(HB:XBodyC d p F n):XSC d p F (n+1):=by
 intro l W V0 V s c q pr vals sl X L T B;obtain⟨f,U⟩:∃f,f=stX d F (qCs d F n) c pr (n+1):=⟨_,rfl⟩;obtain⟨G,hG⟩:∃G:Rx Rt,G=qFm f l vals s:=⟨_,rfl⟩;show Tri _ _ _ _ (PY W d p F c q pr (qFm (stX d F (qCs d F n) c pr (n+1)) l vals s));rw[<-U,<-hG];refine Tri.mono (x179 (R:=PY W d p F c q pr G) ?_) λ_ _ h=>h;refine qIs l.length (λi V1=>∃N k s',Yx1 W N d p F c q pr k (n+1) 0 V1 s'/\G=qFm f (l.drop i) k s') ⟨V0,vals,s,X,hG⟩ ?_;rintro i V1 J hi ⟨N,k,s',u,Z⟩ hJ;have hr:=B.sub (u.fr.sub.trans u.M.sub);refine⟨λC=>?_,λhge=>?_⟩
 ·obtain⟨x,H,hx,hdr,hil,hp,hz,A⟩:=hr.get C;rw[S.row_eq]at A;rw[hdr]at Z;have Y:G=(f x k s').bind λr st=>match r.2 with|some _=>.ok r st|none=>qFm f (l.drop (i+1)) r.1 st:=Z
  have P:=st_snd (F:=F) (c:=c) (n:=n+1) u.S.procs (qDP u.S.procs n) u.po (L x H) u.G u.hv;rw[<-U]at P;have after:∀{V2 o:Mem}{g:List Int}{D:Option Int}{Q:Int}{E:St},FrX W o q pr g D->XM o d p F V2 E c Q->(Q=0/\f x k s'=.ok (g,D) E∨Q≠0/\f x k s'=.bad Q E)->
    (¬(some (⟨q,0,none⟩:Addr))=none/\¬(some (⟨q,0,none⟩:Addr))=none/\∃v9,V2.rowp (sa q) ((7:Int).toNat*1) 1=some [uB v9]/\
    Br (v9=true) (PY W d p F c q pr G (rT #[]) V2)
    (¬(some (⟨p,0,none⟩:Addr))=none/\¬(some (⟨p,0,none⟩:Addr))=none/\∃v10,V2.rowp (sa p) ((13:Int).toNat*1) 1=some [uI v10]/\
    Br (v10=0) (IR ((i:Int)+1)/\J [uI ((i:Int)+1)] V2) (PY W d p F c q pr G (rT #[]) V2))):=λ{V2 o g D Q E} t y K=>by
   refine⟨nn,nn,_,t.done y,λhd=>?_,λhd=>⟨nn,nn,_,y.fault,λv=>?_,λv=>?_⟩⟩
   ·rcases K with⟨rfl,I⟩|⟨hk,I⟩
    ·cases D with
     |none=>cases hd
     |some z=>exact PY.ok (rt:=(g,some z)) (by rw[Y,I];rfl) t y
    ·exact PY.bad (by rw[Y,I];rfl) hk t y
   ·have v:Q=0:=v;rcases K with⟨-,I⟩|⟨hk,-⟩;rotate_left;·omega
    subst v;cases D with
    |some z=>grind
    |none=>
     obtain⟨G2,g2,q2⟩:=P.got I;exact⟨hr.succ C,hJ hil _ ⟨o,g,E,u.next (m:=0) g2 G2 t q2.1 y,by rw[Y,I];rfl⟩⟩
   ·have v:¬Q=0:=v;rcases K with⟨h,-⟩|⟨hk,I⟩;·omega
    ·exact PY.bad (by rw[Y,I];rfl) hk t y
  refine⟨hp,hz,C,_,_,_,_,_,A,λh4=>?_,λh4=>?_⟩
  ·have Hx:=HL x W N V1 s' c q pr k h4 u (L x H) (T x H);rw[<-U,S.v_eq]at Hx;exact PY.any Hx λo g D Q E V2 t y K=>after t y K
  ·refine Tri.mono (c211 u.S.fuel u.M) ?_;rintro e1 V2 (⟨O,rfl,y⟩|⟨O,rfl,y⟩)
   ·refine⟨_,rfl,λ_=>?_,λh=>absurd rfl h⟩;have Hx:=HB x W N V2 _ c q pr k h4 (u.tick O y) (L x H) (T x H);have e:qHM d F (qCs d F n) c pr (n+1) x k {s' with tk:=s'.tk+1}=f x k s':=by rw[U];unfold stX;rw[qIx O];rfl
    rw[e,S.v_eq]at Hx;exact PY.any Hx λo g D Q E V2 t y K=>after t y K
   ·refine⟨_,rfl,(λh=>by cases h),λ_=>after u.fr y (.inr ⟨by decide,?_⟩)⟩;rw[U];unfold stX;rw[qGB O];rfl
 ·rw[(hr.done hge).1]at Z;exact PY.ok Z u.fr u.M
end
section
variable{W V0 V V1 V':Mem}{d:Ds}{p F c q:Nat}{s:St}{pr:Pr}{vals:List Int}
theorem exprF{k g:Int}(M:XM V0 d p F V s g k)(f:k≠0){b:Option Addr}{e:E}:PP 255 [pv p,.pointer b,e.v] V (.int .i64 0):=by
 refine x255 ?_;exact⟨nn,nn,_,M.fault,λh=>absurd h f,λ_=>⟨rfl,rfl⟩⟩
theorem loopY{n:Nat}(hE:XExprC d p F n)(hS:XSC d p F n):XLoopC d p F n:=by
 intro x W V0 V s c q pr vals h4 X B e;obtain⟨G,hG0⟩:∃G:Rx Rt,G=stX d F (qCs d F n) c pr (n+1) x vals s:=⟨_,rfl⟩;rw[<-hG0];refine Tri.mono (S.v_eq x▸x210 (R:=PY W d p F c q pr G) ?_) λ_ _ h=>h;have hF:=X.S.fuel;have C:=qDP (F:=F) X.S.procs n;cases kindS B with
 |@loop a h he hv ht=>
  have h0:x.es[0]?=some a:=by rw[he];rfl
  obtain⟨-,-,-,N,-⟩:=B.parts;have hG:G=(qIo F s).bind λ_ st=>whX d F (qCs d F n) c pr a x.ls (n+1) vals st:=by
   grind[stX,qHM]
  refine⟨λm xs V2=>xs=[]/\∃y g s',Yx1 W y d p F c q pr g (n+1) 0 V2 s'/\F<m+(s'.tk+1)/\G=(qIo F s').bind λ_ st=>whX d F (qCs d F n) c pr a x.ls m g st,n+1,⟨rfl,V0,vals,s,X,by have:=X.n;omega,hG⟩,?_⟩;rintro m V2 ⟨-,y,g,s',K,hm,D⟩ J hJ;refine Tri.mono (c211 hF K.M) ?_;rintro e1 V3 (⟨H,rfl,M3⟩|⟨H,rfl,M3⟩);rotate_left
  ·refine⟨_,rfl,(λh=>by cases h),λ_=>PY.bad (s:=s') ?_ (by decide) K.fr M3⟩;rw[D,qGB H];rfl
  have u:=K.tick H M3;have Q:G=whX d F (qCs d F n) c pr a x.ls m g {s' with tk:=s'.tk+1}:=by rw[D,qIx H];rfl
  obtain⟨m,rfl⟩:∃m',m=m'+1:=⟨m-1,by omega⟩;rw[whX]at Q;have hp:=qBz hv;obtain⟨k1,k3,k4⟩:=esAt (e.sub (u.fr.sub.trans u.M.sub)) h0;have HE:=hE a qAz y V3 _ c q pr g (u.cx.le (k:=szE a) (by omega)) hp.1 ((e.eOk a (xp h0)).sub u.fr.sub) ht;refine⟨_,rfl,λ_=>⟨k1,by decide,k3,_,_,_,_,k4,XR.any HE λv kf O V4 T E=>?_⟩,λh=>absurd rfl h⟩;rcases E with⟨rfl,U⟩|⟨A,rfl,U⟩;rotate_left;·exact qAv rfl (PY.bad (by rw[Q];unfold evS;rw[U];rfl) A u.fr T)
  obtain⟨G2,g2,q2⟩:=(qEJ (F:=F) (c:=c) u.S.procs C u.po hv ht u.G u.hv).got U;have f:G=if v=0 then .ok (g,none) O else(qCs d F n c pr x.ls g O).bind λr st=>match r.2 with|some _=>.ok r st|none=>(qIo F st).bind λ_ st=>whX d F (qCs d F n) c pr a x.ls m r.1 st:=by
   rw[Q];unfold evS;rw[U];rfl
  have I:Yx1 W y d p F c q pr g n 0 V4 O:=(u.le (k:=1000+0) (by omega)).next g2 G2 u.fr (qAp (λh=>g2.right h) u.hv) T;refine⟨λhz=>?_,λhz=>⟨nn,nn,_,T.fault,λ_=>?_,λh=>absurd rfl h⟩⟩
  ·rw[if_pos (show v=0 from hz)]at f;exact PY.ok f I.fr T
  rw[if_neg (show ¬v=0 from hz)]at f;have P:=C c pr x.ls g O I.po N I.G I.hv;refine PY.any (hS x.ls W y V4 O c q pr g x.ll I N e.lOk e.lRows) λV2' i rv kf s3 V5 o L E=>?_;refine⟨nn,nn,_,o.done L,λhd=>?_,λhd=>⟨nn,nn,_,L.fault,λt=>?_,λt=>?_⟩⟩
  ·rcases E with⟨rfl,Z⟩|⟨A,Z⟩
   ·cases rv with
    |none=>cases hd
    |some z=>exact PY.ok (rt:=(i,some z)) (by rw[f,Z];rfl) o L
   ·exact PY.bad (by rw[f,Z];rfl) A o L
  ·have t:kf=0:=t;rcases E with⟨-,Z⟩|⟨A,-⟩;rotate_left;·omega
   subst t;cases rv with
   |some z=>grind
   |none=>
    obtain⟨G3,g3,q3⟩:=P.got Z;have t2:=g2.tk;have t3:=g3.tk;have hn1:=K.n;have ht2:s'.tk+1<=O.tk:=t2;refine hJ m _ _ (by omega) ⟨rfl,V2',i,s3,?_,by omega,by rw[f,Z];rfl⟩;have Y:=I.next (m:=0) (k:=0) g3 G3 o q3.1 L;exact⟨Y.S,Y.fr,Y.pm,Y.G,Y.hv,Y.M,Y.tk,by omega,Y.w⟩
  ·have t:¬kf=0:=t;rcases E with⟨h,-⟩|⟨A,Z⟩;·omega
   ·exact PY.bad (by rw[f,Z];rfl) A o L
 |set h=>omega
 |put h=>omega
 |cond h=>omega
 |ret0 h=>omega
 |ret1 h=>omega
 |call h=>omega
theorem retY{g f:Int}(h:FrX W V0 q pr vals none)(M:XM V0 d p F V s f g){v:Int}{Q:Mem->Prop}(t:∀k V',FrX W k q pr vals (some v)->XM k d p F V' s f g->Q V'):
  StT (qAa (sa q) 8) 0 [.int .i64 v] V λV2=>¬(some (⟨q,0,none⟩:Addr))=none/\¬(some (⟨q,0,none⟩:Addr))=none/\StT (qAa (sa q) 7) 0 [.bool true] V2 Q:=by
 obtain⟨a,b,h1,h2,h3⟩:=h.ex;have u:V0 q≠none:=by rw[h1];simp
 refine StT.at2 (off:=8) (M.sub _ _ h1) (by simp[qKd]) ⟨nn,nn,StT.at2 (off:=7) mss (by simp[qKd]) ?_⟩;have z:=qJk h3 h.q0 h1 (.cells ((qKd pr a b none).toArray.toList.take 8++[xa .i64 v]++(qKd pr a b none).toArray.toList.drop (8+[xa .i64 v].length)).toArray 259 (0,0));have y:=qJk z h.q0 mss (.cells (qKd pr a b (some v)).toArray 259 (0,0));have x:=M.poke u (.cells ((qKd pr a b none).toArray.toList.take 8++[xa .i64 v]++(qKd pr a b none).toArray.toList.drop (8+[xa .i64 v].length)).toArray 259 (0,0));have i:=x.poke (b:=q) (by rw[Mem.set_same];simp) (.cells (qKd pr a b (some v)).toArray 259 (0,0));exact t _ _ ⟨(h.sub.set h.q0 _).set h.q0 _,h.q0,a,b,Mem.set_same _ _ _,h2,y⟩ i
theorem retY0{g f:Int}(h:FrX W V0 q pr vals none)(M:XM V0 d p F V s f g){Q:Mem->Prop}(t:∀k V',FrX W k q pr vals (some 0)->XM k d p F V' s f g->Q V'):
  StT (qAa (sa q) 7) 0 [.bool true] V Q:=by
 obtain⟨a,b,h1,h2,h3⟩:=h.ex;have u:V0 q≠none:=by rw[h1];simp
 refine StT.at2 (off:=7) (M.sub _ _ h1) (by simp[qKd]) ?_;have z:=qJk h3 h.q0 h1 (.cells (qKd pr a b (some 0)).toArray 259 (0,0));have y:=M.poke u (.cells (qKd pr a b (some 0)).toArray 259 (0,0));exact t _ _ ⟨h.sub.set h.q0 _,h.q0,a,b,Mem.set_same _ _ _,h2,z⟩ y
theorem bodyY{n:Nat}(hE:XExprC d p F n)(hR:XCallC d p F n)(hS:XSC d p F n):XBodyC d p F n:=by
 intro x W V0 V s c q pr vals h4 O hty o;obtain⟨G,Z⟩:∃G:Rx Rt,G=qHM d F (qCs d F n) c pr (n+1) x vals s:=⟨_,rfl⟩;rw[<-Z];refine Tri.mono (S.v_eq x▸x212 (R:=PY W d p F c q pr G) ?_) λ_ _ h=>h;have hcs:=qDP (F:=F) O.S.procs n;have ex:∀{i:Nat}{a:E}{u:KB}{V2 J:Mem}{f:List Int}{A:St}{m:Nat},x.es[i]?=some a->qAQ a=true->qAq d (qAg d pr) a=(u,0)->Yx1 W J d p F c q pr f n m V2 A->1000<=m->
   Tri xE 255 #[pv p,pv q,.agg #[.int .i64 a.op,.int .i64 a.n,.string a.s,.slice a.l.p a.l.n a.l.c]] V2 (XR J d p F c (evS d (qCs d F n) c pr f a A)):=λ{i a u V2 J f A m} h0 hv ha H hm=>by
  have hp:=qBz hv;exact hE a u J V2 A c q pr f (H.cx.le (by omega)) hp.1 ((o.eOk a (xp h0)).sub H.fr.sub) ha
 have go:∀{a:E}{u:KB}{V2 V3 J:Mem}{f:List Int}{A K:St}{m:Nat}{v:Int},qAQ a=true->qAq d (qAg d pr) a=(u,0)->Yx1 W J d p F c q pr f n (1000+m) V2 A->evS d (qCs d F n) c pr f a A=.ok v K->XM J d p F V3 K c 0->
   Yx1 W J d p F c q pr f n m V3 K/\qBN d K.mm u v/\Gr F 1000 A K:=λ{a u V2 V3 J f A K m v} hv ha H e M3=>by
  obtain⟨G3,g3,q3⟩:=(qEJ (F:=F) (c:=c) H.S.procs hcs H.po hv ha H.G H.hv).got e;exact⟨H.next g3 G3 H.fr (qAp (λh=>g3.right h) H.hv) M3,q3,g3⟩
 unfold qHM at Z;have B:=O.fr.sub.trans O.M.sub;cases kindS hty with
 |@set a u t h I hv ht hl hne hf=>
  rw[if_pos h,I,xk]at Z;have h0:x.es[0]?=some a:=by rw[I];rfl
  obtain⟨k1,k3,k4⟩:=esAt (o.sub B) h0;refine qAv h ⟨k1,by decide,k3,_,_,_,_,k4,XR.any (ex h0 hv ht O (by omega)) λv kf A V2 Y C=>?_⟩;refine x256 ?_;refine⟨nn,nn,_,Y.fault,λN=>?_,λN=>?_⟩;rotate_left
  ·rcases C with⟨h,-⟩|⟨X,-,P⟩;·omega
   ·exact⟨rfl,PY.bad (by rw[Z,P];rfl) X O.fr Y⟩
  have N:kf=0:=N;rcases C with⟨-,P⟩|⟨X,-⟩;rotate_left;·exact absurd N X
  subst N;rw[P]at Z;have D:G=setX d pr x.s v vals A:=Z;obtain⟨H,hv2,-⟩:=go (m:=3000) hv ht O P Y;obtain⟨fa,fb,hq0,hra0,T⟩:=H.fr.ex;have hq:=Y.sub _ _ hq0;refine⟨nn,nn,fa,qAd hq 5 1 (by simp[qKd]),(c293 (hra0.sub (H.fr.sub.trans Y.sub))).call ⟨_,rfl,?_⟩⟩;unfold setX at D;rcases qGc H.G H.hv H.po.vars hl hne with⟨i,g,w,h1,h2,h3,h4,-⟩|⟨i,g,w,h0',h1,h2,h3,h4,-⟩
  ·rw[h1];rw[if_pos (by omega),h1,xo]at D;have U:=(yv.1 h3).1;obtain⟨g1,g2,g3,-⟩:=gAt (T.rows (λ_=>rfl) (by decide)) h3;refine qAv (by omega) ⟨nn,nn,fb,qAd hq 6 1 (by simp[qKd]),g1,g2,g3,frStoreX T Y U λJ V' ho M' hx=>?_⟩;refine⟨rfl,PY.ok (rt:=(vals.set i v,none)) D ⟨ho.sub,H.fr.q0,fa,fb,?_,hra0,ho⟩ M'⟩;rw[hx];exact hq0;exact T.apart λcur hcq=>by
    simp_all
  ·rw[h0'];rw[if_neg (by omega),h1,xo]at D;obtain⟨gs,ns,ls,nd,hat,L⟩:=Y.ex;have hd:=(H.S.sub H.fr.sub).ds.sub L.sub;refine qAl (by decide) ⟨nn,nn,pnn,d.gs,qAd hat 2 1 (by simp[qBI]),(c293 hd.globals).call ⟨_,rfl,?_⟩⟩;rw[h1];refine Tri.mono (c288 Y (Yx.fit (m:=0) (H.cx.le (by omega)))) ?_;rintro _ V5 ⟨rfl,M5⟩;obtain⟨gs5,ns5,ls5,nd5,Q,L5⟩:=M5.ex;obtain⟨g1,g2,g3,-⟩:=gAt (L5.glob.rows (λ_=>rfl) (by decide)) (i:=i) (v:=w) h3;have U:=(yv.1 h3).1;refine⟨rfl,nn,nn,pnn,gs5,qAd Q 8 1 (by simp[qBI]),g1,g2,g3,L5.setG (i:=i) U λV6 L6 hk6=>?_⟩;refine⟨rfl,PY.ok (V0:=V0) (rt:=(vals,none)) D H.fr (MA.mk M5.p0 ⟨gs5,ns5,ls5,nd5,?_,L6⟩)⟩;rw[hk6 _ (qHZ Q ntX L5.glob (.inl rfl))];exact Q
 |@put a b u w t h I hv hw ha ht hl hf=>
  rw[if_neg (by omega),if_pos h,I,xk,List.getD_cons_succ,xk]at Z;have h0:x.es[0]?=some a:=by rw[I];rfl
  have h1:x.es[1]?=some b:=by rw[I];rfl
  obtain⟨k1,k3,k4⟩:=esAt (o.sub B) h0;refine qAl (by omega) (qAv h ?_);refine x257 ?_;refine⟨k1,by decide,k3,_,_,_,_,k4,XR.any (ex h0 hv ha O (by omega)) λv kf A V2 Y C=>?_⟩;obtain⟨l1,l3,l4⟩:=esAt (o.sub (O.fr.sub.trans Y.sub)) h1;refine⟨l1,by decide,l3,_,_,_,_,l4,?_⟩;rcases C with⟨rfl,P⟩|⟨X,-,P⟩;rotate_left;·exact(exprF Y X (e:=b)).call ⟨_,rfl,nn,nn,_,Y.fault,λh=>absurd h X,λ_=>⟨rfl,PY.bad (by rw[Z,P];rfl) X O.fr Y⟩⟩
  rw[P]at Z;obtain⟨H,hv2,-⟩:=go (m:=3000) hv ha O P Y;refine XR.any (ex h1 hw ht H (by omega)) λy kf K V3 M3 C=>⟨nn,nn,_,M3.fault,λN=>?_,λN=>?_⟩;rotate_left
  ·rcases C with⟨h,-⟩|⟨X,-,e3⟩;·omega
   ·exact⟨rfl,PY.bad (by rw[Z];show((evS d (qCs d F n) c pr vals b A).bind _)=_;rw[e3];rfl) X H.fr M3⟩
  have N:kf=0:=N;rcases C with⟨-,e3⟩|⟨X,-⟩;rotate_left;·exact absurd N X
  subst N;have hG3:G=(putX d v y x.s K).bind λ_ st=>.ok (vals,none) st:=by rw[Z];show((evS d (qCs d F n) c pr vals b A).bind _)=_;rw[e3];rfl
  obtain⟨X3,hv3,g3⟩:=go (m:=2000) hw ht H e3 M3;have hv2:=g3.val hv2;refine⟨λN=>?_,λN=>?_⟩
  ·refine Tri.mono (c178 M3) ?_;rintro _ V4 ⟨rfl,M4⟩;refine⟨_,rfl,rfl,PY.bad (s:=K) (k:=17) ?_ (by decide) X3.fr M4⟩;rw[hG3];unfold putX;rw[if_pos (show v=0 from N)];rfl
  have N:¬v=0:=N;obtain⟨k,i,j,tt,g,fs,z,rfl,f2,f3,f4,f5,f6,f7,f8,-⟩:=qFH X3.G hl hv2 N;have hG4:G=.ok (vals,none) {K with ns:=K.ns.set k ((j:Int),fs.set i y),lg:=K.lg++[(2,(k:Int)+1,(i:Int))]}:=by
   rw[hG3];unfold putX;rw[if_neg N,show((k:Int)+1-1).toNat=k by omega,f2];simp only;rw[f5,f6,xo];rfl
  refine(c287 (X3.S.sub X3.fr.sub) M3 f2 f3).call ⟨_,rfl,?_⟩;rw[f6];refine Tri.mono (c288 M3 (Yx.fit (m:=0) (X3.cx.le (by omega)))) ?_;rintro _ V5 ⟨rfl,M5⟩;obtain⟨gs5,ns5,ls5,nd5,sl5,Q,L5,hnd5,hI,n1,n2,n3,n4,m1,m2,m3,m4⟩:=nodeX M5 (k:=k) (i:=i) f2 f8;have U:=(yv.1 f8).1;rw[show((k:Int)+1-1)=(k:Int)by omega];refine⟨rfl,nn,nn,pnn,ns5,qAd Q 9 1 (by simp[qBI]),hI,n1,n2,n3,qAf n1,_,_,n4,m1,m2,m3,L5.setF hnd5 U λV6 L6 hk6=>?_⟩;refine⟨rfl,PY.ok (V0:=V0) (rt:=(vals,none)) hG4 X3.fr (MA.mk M5.p0 ⟨gs5,ns5,ls5,_,?_,L6⟩)⟩;rw[hk6 _ (qHZ Q ntX (L5.fld _ (xp hnd5)) (.inl rfl))];exact Q
 |@cond a h I hv ht=>
  rw[if_neg (by omega),if_neg (by omega),if_pos h,I,xk]at Z;have h0:x.es[0]?=some a:=by rw[I];rfl
  obtain⟨k1,k3,k4⟩:=esAt (o.sub B) h0;obtain⟨-,-,-,hlt1,hlt2⟩:=hty.parts;refine qAl (by omega) (qAl (by omega) (qAv h ⟨k1,by decide,k3,_,_,_,_,k4,XR.any (ex h0 hv ht O (by omega)) λv kf A V2 Y C=>⟨nn,nn,_,Y.fault,λN=>?_,λN=>?_⟩⟩));rotate_left
  ·rcases C with⟨h,-⟩|⟨X,-,P⟩;·omega
   ·exact PY.bad (by rw[Z,P];rfl) X O.fr Y
  have N:kf=0:=N;rcases C with⟨-,P⟩|⟨X,-⟩;rotate_left;·omega
  subst N;rw[P]at Z;have D:G=if v=0 then qCs d F n c pr x.xs vals A else qCs d F n c pr x.ls vals A:=Z
  obtain⟨H,-,-⟩:=go (m:=3000) hv ht O P Y;refine⟨λN=>PY.last ?_ (hS x.xs W V0 V2 A c q pr vals x.xl (H.le (by omega)) hlt2 o.xOk o.xRows),λN=>PY.last ?_ (hS x.ls W V0 V2 A c q pr vals x.ll (H.le (by omega)) hlt1 o.lOk o.lRows)⟩;·simp_all
  simp_all
 |loop h=>exact absurd h h4
 |ret0 h I hr=>
  rw[if_neg (by omega),if_neg (by omega),if_neg (by omega),if_neg (by omega),if_pos h,I]at Z;have hn:=(o.sub B).eRows.n_eq;rw[I]at hn;refine qAl (by omega) (qAl (by omega) (qAl (by omega) (qAv h (qAl (by rw[hn];decide) ⟨nn,nn,retY0 O.fr O.M λJ V' hf M'=>?_⟩))));exact PY.ok (rt:=(vals,some 0)) Z hf M'
 |@ret1 a u h I hv ht hr hf=>
  rw[if_neg (by omega),if_neg (by omega),if_neg (by omega),if_neg (by omega),if_pos h,I]at Z;have h0:x.es[0]?=some a:=by rw[I];rfl
  have hn:=(o.sub B).eRows.n_eq;rw[I]at hn;obtain⟨k1,k3,k4⟩:=esAt (o.sub B) h0;refine qAl (by omega) (qAl (by omega) (qAl (by omega) (qAv h (qAv (by rw[hn];rfl) ⟨k1,by decide,k3,_,_,_,_,k4,XR.any (ex h0 hv ht O (by omega)) λv kf A V2 Y C=>⟨nn,nn,retY O.fr Y λJ V' hf M'=>?_⟩⟩))));rcases C with⟨rfl,P⟩|⟨X,-,P⟩;·exact PY.ok (rt:=(vals,some v)) (by rw[Z];show(evS d (qCs d F n) c pr vals a s).bind _=_;rw[P];rfl) hf M'
  ·exact PY.bad (by rw[Z];show(evS d (qCs d F n) c pr vals a s).bind _=_;rw[P];rfl) X hf M'
 |@call a pr' i h I hv ho C=>
  rw[if_neg (by omega),if_neg (by omega),if_neg (by omega),if_neg (by omega),if_neg (by omega),if_pos h,I,xk]at Z;have h0:x.es[0]?=some a:=by rw[I];rfl
  obtain⟨k1,k3,k4⟩:=esAt (o.sub B) h0;have hp:=qBz hv;refine qAl (by omega) (qAl (by omega) (qAl (by omega) (qAl (by omega) (qAv h ⟨k1,by decide,k3,_,_,_,_,k4,XR.any (exprX0 hR a V0 V s c q pr vals (O.cx.le (by omega)) hp.1 ((o.eOk a (xp h0)).sub O.fr.sub) (.inr ⟨ho,pr',i,C⟩)) λv kf A V2 Y hcc=>?_⟩))));rcases hcc with⟨rfl,P⟩|⟨X,-,P⟩;·exact PY.ok (rt:=(vals,none)) (by rw[Z];unfold evS;rw[P];rfl) O.fr Y
  ·exact PY.bad (by rw[Z];unfold evS;rw[P];rfl) X O.fr Y
end
theorem set_fill{args:List Int}{n i:Nat}{v:Int}(hi:args[i]?=some v)(k:i<n):(args.take i++yJ (n-i) 0).set i v=args.take (i+1)++yJ (n-(i+1)) 0:=by
 have g:=(yv.1 hi).1;have h:(args.take i).length=i:=by grind
 rw[List.set_append_right _ _ (by omega),h,Nat.sub_self];obtain⟨m,hm⟩:∃m,n-i=m+1:=⟨n-i-1,by omega⟩;grind[w8]
section
variable{V0 V:Mem}{d:Ds}{p F:Nat}{s:St}
theorem callY{n:Nat}(H:XSC d p F n):XCallC d p F n:=by
 intro V0 V s c i pr args l hS N G ha hl M htk hn hw;obtain⟨G',hG⟩:∃G':Rx Int,G'=qCG d (qCs d F n) c i args s:=⟨_,rfl⟩;rw[<-hG];have Z:=xp N;have X:=hS.procs pr Z;refine Tri.mono (x138 (R:=XR V0 d p F c G') ?_) λ_ _ h=>h;obtain⟨gs,ns,ls,nd,Y,L⟩:=M.ex;unfold qCG at hG;refine⟨nn,nn,_,qAd Y 12 1 (by simp[qBI]),λh2=>failX M (by decide) (by grind),λh2=>?_⟩;rw[if_neg (by omega),xo,N]at hG;refine⟨nn,nn,_,qAd Y 12 1 (by simp[qBI]),⟨by omega,by omega⟩,nn,nn,StT.at2 (off:=12) Y (by simp[qBI]) ?_⟩;have M1:XM V0 d p F (V.set p (.cells (qBI d F s.tk ((c+1:Nat):Int) 0 s.cm (qAu s.lg) gs ns ls).toArray 119 (0,0))) s ((c+1:Nat):Int) 0:=MA.set (row':=qBI d F s.tk ((c+1:Nat):Int) 0 s.cm (qAu s.lg)) ntX M.p0 Y L rfl rfl rfl rfl;obtain⟨V1,hV1⟩:∃V1,V1=V.set p (.cells (qBI d F s.tk ((c+1:Nat):Int) 0 s.cm (qAu s.lg) gs ns ls).toArray 119 (0,0)):=⟨_,rfl⟩;rw[<-hV1]at M1;have e1:V.set p (.cells ((qBI d F s.tk c 0 s.cm (qAu s.lg) gs ns ls).toArray.toList.take 12++[xa .i64 ((c:Int)+1)]++(qBI d F s.tk c 0 s.cm (qAu s.lg) gs ns ls).toArray.toList.drop (12+[xa .i64 ((c:Int)+1)].length)).toArray 119 (0,0))=V1:=by rw[hV1];rfl
 erw [e1]
 obtain⟨gs1,ns1,ls1,nd1,hat1,L1⟩:=M1.ex;have B:=hS.ds.sub L1.sub;have hn1:=B.procs.n_eq;have hil:=(yv.1 N).1;obtain⟨y,-,hy,-,-,hp1,hz1,C⟩:=B.procs.get (i:=i) (by omega);rw[N]at hy;cases hy;refine⟨nn,nn,pnn,d.ps,qAd hat1 3 1 (by simp[qBI]),hp1,hz1,by omega,_,_,_,_,_,C,λb0 hb0=>?_⟩;have hok:=B.procsOk pr Z;have hln:=X.lens;have s0:=Zn hb0 (.cells #[] 101 (0,0));refine qHg (s:=⟨some ⟨b0,0,none⟩,0,0⟩) (u:=pr.ps) (xs:=[]) (ys:=pr.params) rfl rfl (Own.empty s0 _ _ _) (hok.params.sub s0) (by simp;omega) λs2 V2 o2=>⟨s2,rfl,?_⟩;refine qHg (s:=s2) (u:=pr.ls) (xs:=pr.params) (ys:=pr.locals) rfl rfl o2 (hok.locals.sub o2.sub) (by omega) λk V3 o3=>⟨k,rfl,?_⟩;have h3n:=o3.n_eq (λ_=>rfl) (by decide);rw[zw]at h3n;refine mk31 (n:=k.n) rfl rfl (by omega) λg hg=>⟨⟨some ⟨g,0,none⟩,k.n,k.n⟩,rfl,?_⟩;have hown:=qDI hg (n:=k.n) (by omega);have hal:=(qAD.1 ha).1;obtain⟨V4,hV4⟩:∃V4,V4=V3.set g (.cells (madeCells (xa .i64 0).cells (k.n*1)) 3 (0,0)):=⟨_,rfl⟩;rw[<-hV4]at hown⊢;refine qIs args.length (λj D=>Sx.Own V3 D 3 1 ⟨some ⟨g,0,none⟩,k.n,k.n⟩ ((args.take j++yJ (k.n-j) 0).flatMap qAe)) (by simp_all) ?_;rintro j D J hj o5 hJ;have E:=o5.sub;have K:=hl.sub ((M1.sub.trans o3.sub).trans E);refine⟨λT=>?_,λhge=>?_⟩
 ·obtain⟨v,-,hv,-,hjl,hp,hz,hrow⟩:=K.get T;refine⟨hp,hz,T,v,hrow,nn,by omega,(show(j:Int)<(k.n:Int)by omega),?_⟩;show StT (qAa (sa g) (j*1)) 0 [.int .i64 v] D _;rw[Nat.mul_one];refine Own.store o5 (i:=j) (by rw[qAR,x7,zw,List.length_take,List.length_replicate];omega) λV6 o6 _=>⟨K.succ T,hJ hjl _ ?_⟩;have e:((args.take j++yJ (k.n-j) 0).flatMap qAe).set j (xa .i64 v)=(args.take (j+1)++yJ (k.n-(j+1)) 0).flatMap qAe:=by
   rw[qAR,qAR,<-set_fill hv (by omega),List.map_set]
  simp_all
 ·have hdn:=(K.done hge).2;have hja:j=args.length:=by omega
  subst hja;rw[List.take_length,show k.n-args.length=pr.locals.length by omega]at o5;intro b2 hb2;obtain⟨V6,Q⟩:∃V6,V6=D.set b2 (.cells (qKd pr k ⟨some ⟨g,0,none⟩,k.n,k.n⟩ none).toArray 259 (0,0)):=⟨_,rfl⟩;have e6:D.set b2 (.cells #[uS pr.name,uL pr.ps,uS pr.result,uL pr.ls,uL pr.bs,uL k,uL ⟨some ⟨g,0,none⟩,k.n,k.n⟩,uB false,uI 0] 259 (0,0))=V6:=by rw[Q];rfl
  show Tri _ _ #[pv p,pv b2,.slice pr.bs.p pr.bs.n pr.bs.c] (D.set b2 (.cells #[uS pr.name,uL pr.ps,uS pr.result,uL pr.ls,uL pr.bs,uL k,uL ⟨some ⟨g,0,none⟩,k.n,k.n⟩,uB false,uI 0] 259 (0,0))) _;rw[e6];have s56:D.sub V6:=Q▸Zn hb2 _;have s36:=E.trans s56;have s16:=o3.sub.trans s36;obtain⟨W0,w0,w6,MW,U⟩:=M1.after s16;have n1:∀{b:Nat},V3 b=none->V1 b=none:=λ{b} h=>free o3.sub h;have n5:V3 b2=none:=free E hb2;obtain⟨b,hb⟩:∃b:Sl,b=⟨some ⟨g,0,none⟩,k.n,k.n⟩:=⟨_,rfl⟩;rw[<-hb]at o5 Q;have hbk:∀{x:Nat},Blk b x->V3 x=none:=λh=>Own.none0 o5 h;have nb2:¬Blk b b2:=λhk=>by
   grind[Own.some]
  obtain⟨W,hW⟩:∃W,W=Mem.minus W0 (λx=>x=b2∨Blk b x):=⟨_,rfl⟩;have hWW:W.sub W0:=by rw[hW];exact qCh
  have V03:V0.sub V3:=M1.sub.trans o3.sub;have hws:V0.sub W:=λx o hx=>by
   rw[hW,qBe];·exact w0 _ _ hx
   ·rintro(rfl|hk);·have:=V03 _ _ hx;simp_all
    ·have:=V03 _ _ hx;simp_all
  have o5':Sx.Own W W0 3 1 b ((args++yJ pr.locals.length (0:Int)).flatMap qAe):=qKN o5 hWW λx o hk h0 h1=>⟨by rw[hW];exact qBC (.inr hk),U _ _ (n1 h0) (s56 _ _ h1)⟩;have hs3:Sx.Own (λ_=>none) W 101 2 k ((pr.params++pr.locals).flatMap Fld.row):=qKN o3 (λ_ _ h=>by cases h) λx o hk h0 h1=>⟨rfl,by
   rw[hW,qBe];·exact U _ _ h0 (s36 _ _ h1)
   grind⟩
  have hfr:W0 b2=some (.cells (qKd pr k b none).toArray 259 (0,0)):=U _ _ (n1 n5) (by rw[Q];exact Mem.set_same _ _ _);have FR:FrX W W0 b2 pr (args++yJ pr.locals.length 0) none:=⟨hWW,by rw[hW];exact qBC (.inl rfl),k,b,hfr,hs3.rows (λ_=>rfl) (by decide),o5'⟩;have hv:=qEd ha (qEt G.valid λf hf=>X.vars f (List.mem_append_right _ hf));have I:=(hS.ds.sub hws).procsOk pr Z;refine PY.any (H pr.body W W0 V6 s (c+1) b2 pr _ pr.bs ⟨hS.sub hws,FR,Z,G,hv,MW,htk,hn,hw⟩ X.body (λx hx=>I.stmts x hx) I.body) λW7 vals7 rv kf t V7 f7 M7 hc=>?_;obtain⟨P,O,A,nd7,z,L7⟩:=M7.ex;refine⟨nn,nn,_,qAd z 12 1 (by simp[qBI]),⟨by omega,by omega⟩,nn,nn,StT.at2 (off:=12) z (by simp[qBI]) ?_⟩;have M8:XM W7 d p F (V7.set p (.cells (qBI d F t.tk c kf t.cm (qAu t.lg) P O A).toArray 119 (0,0))) t c kf:=MA.set (row':=qBI d F t.tk c kf t.cm (qAu t.lg)) ntX M7.p0 z L7 rfl rfl rfl rfl;obtain⟨V8,hV8⟩:∃V8,V8=V7.set p (.cells (qBI d F t.tk c kf t.cm (qAu t.lg) P O A).toArray 119 (0,0)):=⟨_,rfl⟩;rw[<-hV8]at M8;have e8:V7.set p (.cells ((qBI d F t.tk ((c+1:Nat):Int) kf t.cm (qAu t.lg) P O A).toArray.toList.take 12++[xa .i64 (((c+1:Nat):Int)-1)]++(qBI d F t.tk ((c+1:Nat):Int) kf t.cm (qAu t.lg) P O A).toArray.toList.drop (12+[xa .i64 (((c+1:Nat):Int)-1)].length)).toArray 119 (0,0))=V8:=by
   rw[hV8,show(((c+1:Nat):Int)-1)=(c:Int)by omega];rfl
  erw [e8]
  obtain⟨fa,fb,hq7,-,-⟩:=f7.ex;have MN:=M8.narrow (hws.trans f7.sub);refine⟨nn,nn,_,M8.fault,λhz=>⟨nn,nn,_,qAd (M8.sub _ _ hq7) 8 1 (by simp[qKd]),?_⟩,λhz=>?_⟩
  ·have hz:kf=0:=hz;rcases hc with⟨-,e⟩|⟨hk,-⟩
   ·subst hz;exact XR.ok (by rw[hG];show((qCs d F n (c+1) pr pr.body _ s).bind _)=_;rw[e];rfl) MN
   omega
  ·rcases hc with⟨h,-⟩|⟨hk,e⟩;·omega
   ·exact XR.bad (by rw[hG];show((qCs d F n (c+1) pr pr.body _ s).bind _)=_;rw[e];rfl) hk MN
theorem allY(d:Ds)(p F:Nat):∀n,XSC d p F n
 |0=>λl W V0 V s c q pr vals sl X _ _ _=>absurd X.n (by have:=X.tk;omega)
 |n+1=>stsY (loopY (exprX (callY (allY d p F n))) (allY d p F n)) (bodyY (exprX (callY (allY d p F n))) (callY (allY d p F n)) (allY d p F n))
end
theorem qJU{V:Mem}{b:Nat}{l:Sl}{xs:List Int}(g:V b=none)(h:qAc V l 1 (xs.map qAe))(f:xs.length<=2147483648){ty:Nat}{x y:Operand}{vals:Operand->Value}(t:vals x=.slice (sa b) 0 0)(z:vals y=.slice l.p l.n l.c){Q:Value->Mem->Prop}(i:∀s V',Sx.Own V V' 3 1 s (xs.flatMap qAe)->Q (.slice s.p s.n s.c) V'):
  GenK xE (.call {callee:=.builtin .append,args:=#[x,y],argTypes:=#[31,31]}) ty vals (V.set b (.cells #[] 3 (0,0))) Q:=by
 have k:=Zn g (.cells #[] 3 (0,0));exact qCU (s:=⟨some ⟨b,0,none⟩,0,0⟩) (u:=l) (xs:=[]) (ys:=xs) t z (Own.empty (V0:=V) k _ _ _) (h.sub k) (by simpa using f) λs' V' o=>i s' V' (by simpa using o)
theorem c137{V:Mem}{m:Mm}(hm:Mm.Ok V m)(h1:m.globals.length<=2147483648)(h2:m.nodes.length<=4096)(h3:∀n∈m.nodes,n.f.length<=2147483648):Tri xE 137 #[m.v] V λe V'=>∃gs ns nd,e=.returned (.agg #[.slice gs.p gs.n gs.c,.slice ns.p ns.n ns.c])/\Lay V V' gs ns qAx nd (qBZ m):=by
 refine x137 ?_;intro b0 Y;refine qJU Y hm.globals h1 rfl rfl λgs V1 Q=>?_;refine⟨gs,rfl,loop3u (mk:=λs:Sl=>.slice s.p s.n s.c) (mc:=λs:Sl=>.slice s.p s.n s.c) (b0:=gs) (c0:=⟨none,0,0⟩) qAH qAH m.nodes.length (λi b ns V2=>b=gs/\∃nd,Lay V V2 gs ns qAx nd ⟨m.globals,(m.nodes.take i).map λn=>(n.ty,n.f),0,0,[]⟩/\nd.length=i) ⟨rfl,[],⟨Q,Own.nil Q.sub _ _,Own.nil Q.sub _ _,(λn P=>by cases P),rfl,(λn P=>by cases P),(λi j n U c h=>by cases h)⟩,rfl⟩ ?_⟩;rintro i b ns V2 J hi ⟨rfl,nd,L,D⟩ E;have Z:=hm.nodes.sub L.sub;refine⟨λg=>?_,λO=>?_⟩
 ·obtain⟨x,o,K,-,A,z,H,u⟩:=Z.get g;have N:=qAf (n:=i*2) z;have X:(i:Int)<(m.ns.n:Int):=g;refine⟨z,H,g,N,x.ty,x.sl,u,z,H,g,N,x.ty,x.sl,u,qFc (j:=1) (m:=1) u (by decide) (by decide),N,z,H,g,qFy (k:=1) u (by decide),N,z,H,g,λb1 I=>?_⟩;refine qJU I ((hm.nodesOk x o).rows.sub L.sub) (h3 x o) rfl rfl λfs V3 B=>?_;have t:=(Z.sub B.sub).get g;obtain⟨y,-,C,-,-,-,-,t⟩:=t;rw[K]at C;cases C;refine⟨fs,rfl,qFy (k:=1) t (by decide),N,z,H,g,λtb R=>L.new (n:=⟨x.ty,fs,x.f⟩) B R rfl rfl (by omega) λs' V' L' _=>⟨s',rfl,Z.succ g,E A _ _ _ ⟨rfl,nd++[⟨x.ty,fs,x.f⟩],?_,by simp_all⟩⟩⟩;grind[w8]
 ·have T:=(Z.done O).2;rw[wx T]at L;exact⟨b,ns,nd,rfl,L⟩
section
variable{V V0:Mem}{d:Ds}{m:Mm}{F:Nat}{nm:KB}{args:List Int}{l:Sl}
theorem c91(k:Ds.Ok V d)(hm:Mm.Ok V m){F:Int}:PP 91 [d.v,m.v,.int .i64 F] V (.int .i64 (qAF d m F)):=by
 refine x91 ?_;have bad:¬qAw d m->(xH (.int .i64 1)=.returned (.int .i64 (qAF d m F))/\V=V):=λh=>⟨by grind[qAF],rfl⟩;refine(c31 k).call ⟨_,rfl,λh1=>(c32 k).call ⟨_,rfl,λh2=>(c15 k hm).call ⟨_,rfl,λh3=>?_,λh3=>bad λG=>h3 G.mem⟩,λh2=>bad λG=>h2 ?_⟩,λh1=>bad λG=>h1 G.valid⟩
 ·have h2:wellT d=true:=h2;unfold wellT at h2;rw[Bool.and_eq_true,decide_eq_true_eq]at h2;have G:qAw d m:=⟨h1,chk_none h2.2,h3⟩;refine⟨λh=>⟨?_,rfl⟩,λh=>⟨λh2=>⟨?_,rfl⟩,λh2=>⟨?_,rfl⟩⟩⟩;·grind[qAF]
  ·grind[qAF]
  grind[qAF]
 ·show wellT d=true;unfold wellT;rw[G.chk,G.valid];rfl
theorem c92(x:Ds.Ok V d)(hm:Mm.Ok V m)(Q:qAc V l 1 (args.map qAe)):
  PP 92 [d.v,m.v,.agg #[.string nm,l.v]] V (.int .i64 (qCr d m nm args)):=by
 refine x92 ?_;have P:∀{e:Int},qCr d m nm args=e->(xH (.int .i64 e)=.returned (.int .i64 (qCr d m nm args))/\V=V):=λe=>⟨by rw[e],rfl⟩;refine(c136 x).call ⟨_,rfl,λh=>?_,λh=>?_⟩;·grind[qCr,qDa]
 ·have h:¬qDa d nm<0:=h;rcases qAL (λt:Pr=>decide (t.name=nm)) d.procs with⟨h1,-⟩|⟨i,pr,h1,h2,-⟩;·omega
  have hi:qDa d nm=(i:Int):=h1;have hn:=x.procs.n_eq;have hil:=(yv.1 h2).1;obtain⟨y,O,E,-,-,hp,hz,o⟩:=x.procs.get (i:=i) (by omega);rw[h2]at E;cases E;have K:qCr d m nm args=if args.length=pr.params.length then(if qAi d m pr.params args=true then 0 else 11)else 3:=by grind[qCr]
  have H:=(x.procsOk pr O).params;have hln:=H.n_eq;have han:=Q.n_eq;rw[h1];refine⟨hp,hz,by omega,_,_,_,_,_,o,λu=>?_,λu=>?_⟩
  ·have u:(l.n:Int)=(pr.ps.n:Int):=u;have N:args.length=pr.params.length:=by omega
   rw[if_pos N]at K;refine qAM (mk:=λk:Int=>.int .i64 k) (b0:=0) args.length (λj V1=>V1=V/\∀(i:Nat) f v,i<j->pr.params[i]?=some f->args[i]?=some v->qAA d m f.ty v=true) ⟨rfl,λi f v h=>by omega⟩ ?_;rintro j b V1 J hj ⟨rfl,Z⟩ hJ;refine⟨λz=>?_,λA=>?_⟩
   ·obtain⟨v,hvm,hv,-,I,L,R,X⟩:=Q.get z;obtain⟨f,hfm,B,-,-,Y,C,D⟩:=H.get (i:=j) (by omega);refine⟨Y,C,by omega,qAf Y,_,_,D,L,R,z,v,X,(c47 x hm).call ⟨_,rfl,λT=>⟨Q.succ z,hJ I _ _ ⟨rfl,λi g w hi' hg hw=>?_⟩⟩,λT=>P ?_⟩⟩;·grind
    ·rw[K,if_neg λk=>T ((qAD.1 k).2 j f v B hv)]
   ·have hd2:=(Q.done A).2;have U:qAi d m pr.params args=true:=qAD.2 ⟨N.symm,λi f v B hv=>Z i f v (by grind) B hv⟩;simp_all
  grind
theorem good_lens(G:qAw d m):m.globals.length<=2147483648/\m.nodes.length<=4096/\∀n∈m.nodes,n.f.length<=2147483648:=by
 obtain⟨p1,g,p3,i,t⟩:=qAh G.mem;have u:=lens12 G.valid;refine⟨by grind[qAD],g,λn k=>?_⟩;have:=(qAD.1 (t n k)).1;have z:=of_decide_eq_true (p3 n k);obtain⟨j,y⟩:∃j:Nat,n.ty=(j:Int):=⟨n.ty.toNat,by omega⟩;have h:j<d.types.length:=by omega
 have x:=yu h;rw[y,qAU x rfl]at this;grind
def PlayX(V0:Mem)(d:Ds)(F:Nat)(m:Mm)(nm:KB)(args:List Int):Ending->Mem->Prop:=λe V'=>
 ∃p,∃r:Rx Int,r=qCf d F (qDa d nm) args (qBZ m)/\XM V0 d p F V' r.st (outV r) (outC r)/\e=.returned (pv p)
theorem c93(o:Ds.Ok V d)(hm:Mm.Ok V m)(G:qAw d m)(Q:qAc V l 1 (args.map qAe))(P:qCr d m nm args=0)(O:F<=4000):
  Tri xE 93 #[d.v,m.v,.agg #[.string nm,l.v],.int .i64 F] V (PlayX V d F m nm args):=by
 refine x93 (R:=PlayX V d F m nm args) ?_;obtain⟨i,pr,H,u,g⟩:=qHd P;obtain⟨A,I,X⟩:=good_lens G;refine Tri.mono (c137 hm A I X) ?_;rintro _ V1 ⟨gs,ns,nd,rfl,L⟩;refine⟨gs,ns,rfl,(c136 (o.sub L.sub)).call ⟨_,rfl,?_⟩⟩;rw[show qHG (λt:Pr=>decide (t.name=nm)) d.procs=(i:Int)from H];intro p J;have p0:V p=none:=free L.sub J;have B:=Zn J (.cells (qBI d F 0 0 0 0 0 gs ns qAx).toArray 119 (0,0));have C:XM V d p F (V1.set p (.cells (qBI d F 0 0 0 0 0 gs ns qAx).toArray 119 (0,0))) (qBZ m) ((0:Nat):Int) 0:=⟨p0,gs,ns,qAx,nd,by rw[Mem.set_same];rfl,L.grow B⟩;have D:=callY (allY d p F (F+1)) V (V1.set p (.cells (qBI d F 0 0 0 0 0 gs ns qAx).toArray 119 (0,0))) (qBZ m) 0 i pr args l ⟨o,G.valid,qGJ G.valid G.chk,O⟩ u (qJE G) (qAp (qDr (qEf m).symm) g) Q C (by show 0<=F;omega) (by omega) (by unfold BW;simp[qBZ]);refine XR.any D λv f h V2 N E=>?_;obtain⟨z,y,x,nd2,k,K⟩:=N.ex;refine⟨pnn,pnn,StT.at2 (off:=12) k (by simp[qBI]) ?_⟩;have Z:XM V d p F (V2.set p (.cells (qBI d F h.tk v f h.cm (qAu h.lg) z y x).toArray 119 (0,0))) h v f:=MA.set (row':=qBI d F h.tk v f h.cm (qAu h.lg)) ntX N.p0 k K rfl rfl rfl rfl;have Y:qCf d F (qDa d nm) args (qBZ m)=qCG d (qCs d F (F+1)) 0 i args (qBZ m):=by rw[H];rfl
 rcases E with⟨rfl,e⟩|⟨T,rfl,e⟩;·exact⟨p,.ok v h,by rw[Y,e],Z,rfl⟩
 ·exact⟨p,.bad f h,by rw[Y,e],Z,rfl⟩
theorem c57{p:Nat}{s:St}{c k:Int}(M:XM V0 d p F V s c k):PP 57 [pv p] V (.agg (qER k c s.cm (qAu s.lg)).toArray):=by
 obtain⟨gs,ns,ls,nd,h,L⟩:=M.ex;refine x57 ?_;exact⟨nn,nn,_,qAd h 13 1 (by simp[qBI]),nn,nn,_,qAd h 12 1 (by simp[qBI]),nn,nn,_,_,_,qAd h 14 3 (by simp[qBI]),rfl,rfl⟩
def StartX(V:Mem)(d:Ds)(F:Nat)(m:Mm)(nm:KB)(args:List Int):Ending->Mem->Prop:=λe V'=>
 (qAZ d m nm args F≠0/\V.sub V'/\∃q,V' q=some (.cells ([Go.Sx.vS (qAo []),qAx.v,qAx.v,qAx.v,qAx.v,qAx.v,qAx.v,qAx.v,qAx.v,qAx.v,.int .i64 0,.int .i64 0,.int .i64 0,.int .i64 0,.int .i64 0,.int .i64 0,.int .i64 0,qAx.v]:List Value).toArray 119 (0,0))/\e=.returned (.tuple #[pv q,.int .i64 (qAZ d m nm args F)]))∨
 (qAZ d m nm args F=0/\∃p,∃r:Rx Int,r=qCf d F (qDa d nm) args (qBZ m)/\XM V d p F V' r.st (outV r) (outC r)/\e=.returned (.tuple #[pv p,.int .i64 0]))
theorem c56(g:Ds.Ok V d)(hm:Mm.Ok V m)(f:qAc V l 1 (args.map qAe))(t:F<=4000):Tri xE 56 #[d.v,m.v,.agg #[.string nm,l.v],.int .i64 F] V (StartX V d F m nm args):=by
 refine x56 (R:=StartX V d F m nm args) ?_;have bad:∀{e:Int},qAZ d m nm args F=e->e≠0->∀b,V b=none->StartX V d F m nm args (.returned (.tuple #[pv b,.int .i64 e])) (V.set b (.cells ([Go.Sx.vS (qAo []),qAx.v,qAx.v,qAx.v,qAx.v,qAx.v,qAx.v,qAx.v,qAx.v,qAx.v,.int .i64 0,.int .i64 0,.int .i64 0,.int .i64 0,.int .i64 0,.int .i64 0,.int .i64 0,qAx.v]:List Value).toArray 119 (0,0))):=λh u b k=>.inl ⟨by rw[h];exact u,Zn k _,b,Mem.set_same _ _ _,by rw[h]⟩;refine(c91 g hm).call ⟨_,rfl,λh0=>?_,λh0=>⟨λh=>absurd h h0,λ_ b k=>?_⟩⟩
 ·have G:=qDl h0;have z:qAZ d m nm args F=qCr d m nm args:=by grind[qAZ]
  refine(c92 g hm f).call ⟨_,rfl,λh1=>?_,λh1 b k=>bad z h1 b k⟩;refine Tri.mono (c93 g hm G f h1 t) ?_;rintro _ V1 ⟨p,r,y,M,rfl⟩;exact⟨_,rfl,.inr ⟨by omega,p,r,y,M,rfl⟩⟩
 ·exact bad (by grind[qAZ]) h0 b k
end
section
variable{V V0:Mem}{d:Ds}{m:Mm}{nm:KB}{args:List Int}{l:Sl}
theorem given_fuel{F:Int}(h:qAF d m F=0):0<=F/\F<=1048576:=by
 grind[qAF]
end
def rsS(s:St):St:=⟨s.g,s.ns,0,0,[]⟩
abbrev O4:=Int×Int×Nat×Nat
def oRow(o:O4):List Value:=qER o.1 o.2.1 o.2.2.1 o.2.2.2
def outO(r:Rx Int):O4:=(outC r,outV r,r.st.cm,qAu r.st.lg)
structure Cl2 where
 name:KB
 sl:Sl
 args:List Int
def Cl2.row(c:Cl2):List Value:=[.string c.name,c.sl.v]
structure Cls.Ok (V:Mem)(l:Sl)(cs:List Cl2):Prop where
 rows:qAc V l 2 (cs.map Cl2.row)
 args:∀c∈cs,qAc V c.sl 1 (c.args.map qAe)
theorem Cls.Ok.sub{V V':Mem}{l:Sl}{cs:List Cl2}(h:Cls.Ok V l cs)(k:V.sub V'):Cls.Ok V' l cs:=⟨h.rows.sub k,λc g=>(h.args c g).sub k⟩
section
variable(d:Ds)(F:Nat)
def qBP(c:Cl2)(s:St):Rx Int:=qCf d F (qDa d c.name) c.args s
def scE:St->List Cl2->Int
 |_,[]=>0
 |s,c::cs=>if qCr d s.mm c.name c.args=0 then scE (rsS (qBP d F c s).st) cs else qCr d s.mm c.name c.args
def scO:St->List Cl2->List O4
 |_,[]=>[]
 |s,c::cs=>outO (qBP d F c s)::scO (rsS (qBP d F c s).st) cs
def scS:St->List Cl2->St
 |s,[]=>s
 |s,c::cs=>scS (rsS (qBP d F c s).st) cs
end
noncomputable def scrE(d:Ds)(F:Int)(m:Mm)(cs:List Cl2):Int:=if qAF d m F=0 then(if 2000<cs.length then 4 else scE d F.toNat (qBZ m) cs)else qAF d m F
theorem loop6{V:Mem}{B:Sl->Sl->Sl->Int->Sl->Int->Mem->(KZ)->Prop}{a0 b0 x0:Sl}{y0:Int}{c0:Sl}(len:Nat)(St:Nat->Sl->Sl->Sl->Mem->Prop)(h0:St 0 a0 b0 c0 V)
  (step:∀(i:Nat)(a b x:Sl)(y:Int)(c:Sl) V1 J,i<=len->St i a b c V1->(i<len->∀(h k f:Sl)(u:Int)(g:Sl) V2,St (i+1) h k g V2->J [.slice h.p h.n h.c,.slice k.p k.n k.c,.slice f.p f.n f.c,.int .i64 u,.slice g.p g.n g.c,.int .i64 ((i:Int)+1)] V2)->B a b x y c (i:Int) V1 J):
  ∃(I:Nat->KZ)(e:Nat),I e [.slice a0.p a0.n a0.c,.slice b0.p b0.n b0.c,.slice x0.p x0.n x0.c,.int .i64 y0,.slice c0.p c0.n c0.c,.int .i64 0] V/\∀n V1,∀(a b x:Sl)(y:Int)(c:Sl)(v:Int),I n [.slice a.p a.n a.c,.slice b.p b.n b.c,.slice x.p x.n x.c,.int .i64 y,.slice c.p c.n c.c,.int .i64 v] V1->∀J:KZ,(∀m ys t,m<n->I m ys t->J ys t)->B a b x y c v V1 J:=by
 refine⟨LI len λi xs V=>∃(a b x:Sl)(y:Int)(c:Sl),xs=[.slice a.p a.n a.c,.slice b.p b.n b.c,.slice x.p x.n x.c,.int .i64 y,.slice c.p c.n c.c,.int .i64 i]/\St i a b c V,len,LI.start ⟨a0,b0,x0,y0,c0,rfl,h0⟩,?_⟩;rintro n V1 a b x y c v ⟨i,rfl,H,h,k,f,u,g,o,N⟩ J Z;simp only[List.cons.injEq,Value.int.injEq,true_and,and_true]at o;obtain⟨h1,h2,h3,rfl,Y,rfl⟩:=o;cases qAH _ _ h1;cases qAH _ _ h2;cases qAH _ _ Y;exact step i _ _ _ _ _ V1 J H N λz h k f u g V2 h2=>LI.next Z z ⟨h,k,f,u,g,rfl,h2⟩
theorem app73:AppP 73 54 5 oRow:=appG Tryz.underlying73 (by kernel_rfl) (by kernel_rfl) (by kernel_rfl) (by kernel_rfl) (by kernel_rfl) (by decide) (by intro _;rfl) λx u hu=>by simp only[oRow,qER,List.mem_cons,List.not_mem_nil,or_false]at hu;rcases hu with rfl|rfl|rfl|rfl|rfl<;>rfl
theorem one_out{V:Mem}{b t:Nat}(o:O4)(h:V b=some (.cells (oRow o).toArray t (0,0))):qAc V ⟨some ⟨b,0,none⟩,1,1⟩ 5 ([o].map oRow):=
 qAc.cells (xs:=[o]) (row:=oRow) h rfl (λ_=>rfl) rfl (by simp)
section
variable{V V0:Mem}{d:Ds}{F:Nat}{m:Mm}{l:Sl}{cs:List Cl2}
theorem mm_len'{s:St}{a b:Sl}{nd:List Nd}(h:nd.map (λn=>(n.ty,n.f))=s.ns):(⟨a,s.g,b,nd⟩:Mm).plain=s.mm.plain:=by
 grind[St.plain,Mm.plain]
theorem lay_rs{W V:Mem}{gs ns ls:Sl}{nd:List Nd}{s:St}(L:Lay W V gs ns ls nd s):Lay W V gs ns qAx nd (rsS s):=⟨L.glob,L.nodes,Own.nil L.sub _ _,L.fld,L.eq,L.gf,L.ff⟩
theorem st_eta{s:St}(h:s=rsS s){a b:Sl}{nd:List Nd}(k:nd.map (λn=>(n.ty,n.f))=s.ns):qBZ ⟨a,s.g,b,nd⟩=s:=by
 grind[qBZ,rsS]
def ScrP(V:Mem)(d:Ds)(F:Int)(m:Mm)(cs:List Cl2):Ending->Mem->Prop:=λe V'=>V.sub V'/\
 ((scrE d F m cs≠0/\e=.returned (.tuple #[qAx.v,.agg #[qAx.v,qAx.v],.int .i64 (scrE d F m cs)]))∨
 (scrE d F m cs=0/\∃(o a b:Sl)(nd:List Nd),qAc V' o 5 ((scO d F.toNat (qBZ m) cs).map oRow)/\Mm.Ok V' ⟨a,(scS d F.toNat (qBZ m) cs).g,b,nd⟩/\nd.map (λn=>(n.ty,n.f))=(scS d F.toNat (qBZ m) cs).ns/\qAw d (scS d F.toNat (qBZ m) cs).mm/\e=.returned (.tuple #[o.v,.agg #[a.v,b.v],.int .i64 0])))
structure At (d:Ds)(F:Nat)(s0:St)(cs:List Cl2)(j:Nat)(outs:List O4)(s:St):Prop where
 err:scE d F s0 cs=scE d F s (cs.drop j)
 out:scO d F s0 cs=outs++scO d F s (cs.drop j)
 st:scS d F s0 cs=scS d F s (cs.drop j)
 len:outs.length=j
 rs:s=rsS s
 good:qAw d s.mm
theorem At.start{s:St}(h:s=rsS s)(G:qAw d s.mm):At d F s cs 0 [] s:=⟨by rfl,by rfl,by rfl,rfl,h,G⟩
theorem At.next{s0 s:St}{j:Nat}{outs:List O4}{c:Cl2}(h:At d F s0 cs j outs s)(t:cs.drop j=c::cs.drop (j+1))(h0:qCr d s.mm c.name c.args=0)(k:qAw d (qBP d F c s).st.mm):At d F s0 cs (j+1) (outs++[outO (qBP d F c s)]) (rsS (qBP d F c s).st):=by
 have u:=h.err;have g:=h.out;have f:=h.st;rw[t]at u g f;refine⟨?_,?_,f,by rw[zw,h.len];rfl,rfl,⟨k.valid,k.chk,k.mem⟩⟩;·grind[scE]
 ·rw[g,scO];simp
theorem At.stop{s0 s:St}{j:Nat}{outs:List O4}{c:Cl2}(h:At d F s0 cs j outs s)(k:cs.drop j=c::cs.drop (j+1))(h0:qCr d s.mm c.name c.args≠0):scE d F s0 cs=qCr d s.mm c.name c.args:=by
 rw[h.err,k,scE,if_neg h0]
theorem c33[Tab V](O:Ds.Ok V d)(hm:Mm.Ok V m)(z:Cls.Ok V l cs){F:Int}(hF:F<=3000∨1048576<F):Tri xE 33 #[d.v,m.v,l.v,.int .i64 F] V (ScrP V d F m cs):=by
 refine x33 (R:=ScrP V d F m cs) ?_;have hln:=z.rows.n_eq;have bad:∀{k:Int}{V':Mem},scrE d F m cs=k->k≠0->V.sub V'->ScrP V d F m cs (.returned (.tuple #[qAx.v,.agg #[qAx.v,qAx.v],.int .i64 k])) V':=λh f hs=>⟨hs,.inl ⟨by rw[h];exact f,by rw[h]⟩⟩;refine(c71 O hm).call ⟨_,rfl,λh0=>⟨λC=>?_,λC=>?_⟩,λh0=>?_⟩;·exact bad (by grind[scrE]) (by decide) (Mem.sub.refl _)
 rotate_left;·exact bad (by grind[scrE]) h0 (Mem.sub.refl _)
 have C:¬(2000:Int)<(l.n:Int):=C;have G:=qDl h0;have hf:=given_fuel h0;obtain⟨n,rfl⟩:∃n:Nat,F=(n:Int):=⟨F.toNat,by omega⟩;have Y:scrE d (n:Int) m cs=scE d n (qBZ m) cs:=by grind[scrE]
 obtain⟨l1,l2,l3⟩:=good_lens G;refine Tri.mono (c72 hm l1 l2 l3) ?_;rintro _ V1 ⟨gs,ns,nd,rfl,L⟩;refine⟨gs,ns,rfl,loop6 (x0:=qAx) (y0:=0) (c0:=qAx) cs.length (λj a b o V2=>∃W outs s nd,V.sub W/\Sx.Own V W 54 5 o (outs.flatMap oRow)/\Lay W V2 a b qAx nd s/\At d n (qBZ m) cs j outs s) ⟨V,[],qBZ m,nd,Mem.sub.refl _,Own.nil (Mem.sub.refl _) _ _,L,.start rfl (qJE G)⟩ ?_⟩;rintro j a b x y o V2 J hj ⟨W,outs,s,nd,t,D,L,A⟩ hJ;have i:=z.sub (t.trans L.sub);refine⟨λH=>?_,λE=>?_⟩
 ·obtain⟨c,K,hc,Q,T,hp,hz,P⟩:=i.rows.get H;have U:=st_eta (a:=a) (b:=b) A.rs L.eq;have Gm:qAw d ⟨a,s.g,b,nd⟩:=⟨A.good.valid,A.good.chk,qEu (mm_len' L.eq).symm A.good.mem⟩;have hmk:=(qGR (O.sub t) L A.good).1;have N:qCr d ⟨a,s.g,b,nd⟩ c.name c.args=qCr d s.mm c.name c.args:=qFO (mm_len' L.eq);refine⟨hp,hz,H,_,_,P,Tri.mono (c73 (F:=n) (m:=⟨a,s.g,b,nd⟩) ⟨O.sub t,G.valid,qGJ G.valid G.chk,by omega⟩ (by grind) hmk Gm ((z.args c K).sub t)) ?_⟩;rintro e V3 (⟨f,s3,rfl⟩|⟨f,p,cc,r,I,M,rfl⟩)
  ·rw[N]at f⊢;exact⟨_,_,_,_,_,_,_,rfl,λh=>absurd h f,λ_=>bad (Y.trans (A.stop Q f)) f (t.trans (L.sub.trans s3))⟩
  ·rw[N]at f;rw[U]at I;have I:r=qBP d n c s:=I;refine⟨_,_,_,_,_,_,_,rfl,λ_ tb htb=>?_,λh=>absurd rfl h⟩;have ho3:Sx.Own V V3 54 5 o (outs.flatMap oRow):=Own.moveB D (t.trans M.sub) λg cur _ hg=>M.sub _ _ hg;refine app73 (s:=o) (u:=⟨some ⟨tb,0,none⟩,1,1⟩) (xs:=outs) (ys:=[outO r]) rfl rfl (ho3.but.new htb (.cells (oRow (outO r)).toArray 54 (0,0))) (one_out (outO r) mss) (by have:=A.len;simp;omega) λo4 V4 ho4=>⟨o4,rfl,?_⟩;obtain⟨W',hW',M4,ho5⟩:=M.beside t D ho4;obtain⟨gs4,ns4,ls4,nd4,hat,L4⟩:=M4.ex;have hgd:qAw d (qBP d n c s).st.mm:=by
    have:=qFe (F:=n) Gm (by rw[N];exact f);simp_all
   have A':=A.next Q f hgd;rw[<-I]at A';exact⟨nn,nn,gs4,ns4,qAd hat 8 2 (by simp[qCb]),i.rows.succ H,hJ T _ _ _ _ _ _ ⟨W',_,_,nd4,hW',ho5,lay_rs L4,A'⟩⟩
 ·have hdn:=(i.rows.done E).2;have X:=A.err;have B:=A.out;have Z:=A.st;rw[vW hdn]at X B Z;have X:scE d n (qBZ m) cs=0:=X;have B:scO d n (qBZ m) cs=outs:=by rw[B];simp[scO]
  have Z:scS d n (qBZ m) cs=s:=Z;refine⟨t.trans L.sub,.inr ⟨Y.trans X,o,a,b,nd,?_,?_,?_,?_,rfl⟩⟩
  ·show qAc V2 o 5 ((scO d n (qBZ m) cs).map oRow);rw[B];exact(D.rows (λ_=>rfl) (by decide)).sub L.sub
  ·show Mm.Ok V2 ⟨a,(scS d n (qBZ m) cs).g,b,nd⟩;rw[Z];exact(qGR (O.sub t) L A.good).1
  ·show _=(scS d n (qBZ m) cs).ns;rw[Z];exact L.eq
  ·show qAw d (scS d n (qBZ m) cs).mm;rw[Z];exact A.good
end
end Go.Proofs
namespace Go.Proofs.YtmeagdecjpknkaaGreatDoor
open Go Go.Sx Go.Proofs Go.ChangeShapes Go.WideShapes Go.ChangeAt Go.RowKit
set_option maxRecDepth 100000 in
theorem cls_of{H:Type}{enc:TypeId×Value->H}{W f:World}{r:Reach}{b0:Nat}{v:Value}{t:DataW H}{p:List MemPlace}(k:Value.okWide xE f r b0 71 v)(h:vP enc xE W 0 (λ_=>true) true 71 v t p):∃(l:Sl)(cs:List Cl2),v=l.v/\Cls.Ok (qBE W) l cs:=by
 obtain⟨a,len,cap,rfl⟩:=okWide_slice vX k;obtain⟨fuel,h⟩:=h;have h:∃y,TR enc W fuel 71 [.slice a len cap]=some y:=⟨_,h⟩;obtain⟨s,cs,u,z,i⟩:=gSl (row:=Cl2.row) (ok:=λc:Cl2=>qAc (qBE W) c.sl 1 (c.args.map qAe)) vX clCl (by decide) (λ_=>rfl) (λe _ cs x o=>by
  obtain⟨nm,l,xs,hm,g⟩:=rdCl o;exact⟨⟨nm,l,xs⟩,hm,g⟩) h
 exact⟨s,cs,u,z,i⟩
end Go.Proofs.YtmeagdecjpknkaaGreatDoor
namespace Go.Proofs.YtmeagdecjpknkaaGreatDoor
open Go Go.Sx Go.Proofs Go.ChangeShapes Go.WideShapes Go.ChangeAt Go.RowKit
theorem trodAll_six{H:Type}{enc:TypeId×Value->H}{w:World}{a b c d e f:TypeId}{args:Array Value}{ds:List (DataW H)}{ps:List MemPlace}(h:DataW.TrodAll enc xE w 0 (λ_=>true) true [a,b,c,d,e,f] args.toList ds ps):
  ∃g t u z y x i d1 d2 d3 o v p0 p1 J p3 N Z,args=#[g,t,u,z,y,x]/\ds=[i,d1,d2,d3,o,v]/\ps=p0++(p1++(J++(p3++(N++Z))))/\vP enc xE w 0 (λ_=>true) true a g i p0/\vP enc xE w 0 (λ_=>true) true b t d1 p1/\vP enc xE w 0 (λ_=>true) true c u d2 J/\vP enc xE w 0 (λ_=>true) true d z d3 p3/\vP enc xE w 0 (λ_=>true) true e y o N/\vP enc xE w 0 (λ_=>true) true f x v Z:=by
 obtain⟨g,vs,i,Q,p,q,Y,rfl,rfl,h0,k⟩:=trodAll_cons h;obtain⟨t,P,d1,O,p1,K,rfl,rfl,rfl,h1,k⟩:=trodAll_cons k;obtain⟨u,A,d2,I,J,T,rfl,rfl,rfl,h2,k⟩:=trodAll_cons k;obtain⟨z,L,d3,R,p3,U,rfl,rfl,rfl,h3,k⟩:=trodAll_cons k;obtain⟨y,X,o,B,N,q4,rfl,rfl,rfl,h4,k⟩:=trodAll_cons k;obtain⟨x,C,v,D,Z,q5,rfl,rfl,rfl,E,k⟩:=trodAll_cons k;obtain⟨rfl,rfl,rfl⟩:=trodAll_nil k;exact⟨g,t,u,z,y,x,i,d1,d2,d3,o,v,p,p1,J,p3,N,Z,by grind,rfl,by simp,h0,h1,h2,h3,h4,E⟩
end Go.Proofs.YtmeagdecjpknkaaGreatDoor
namespace Go.Proofs
open Go Go.Sx
end Go.Proofs
