/- Part 22: no statement of the seat is proved here. -/
import Derived.Test.YtmeagdecjpknkaaGreatDoorPs21
import Derived.Test.YtmeagdecjpknkaaGreatDoorPs18
import Derived.Test.YtmeagdecjpknkaaGreatDoorPs17
import Derived.Test.YtmeagdecjpknkaaGreatDoorPs20
import Derived.Test.YtmeagdecjpknkaaGreatDoorPs19
set_option linter.unusedVariables false
set_option linter.unusedSimpArgs false
open Nat renaming mul_one->vj,le_refl->yV,zero_le->uy,le_of_lt->uv
open Go.Proofs.Tryz renaming prog->xE
open Go.Value renaming int->xa
open List renaming length_replicate->uR,replicate->yJ,foldl_append->vb,getElem?_eq_getElem->yu,mem_flatten->uZ,mem_of_getElem?->xp,getElem?_set_ne->vu,getElem?_set_self->vq,mem_append->xd,mem_of_mem_take->vm,take_of_length_le->wx,length_append->zw,length_singleton->xe,getElem?_append_left->wB,getElem?_append_right->ux,flatten_append->yL,flatten_singleton->uY,take_add_one->w8,mem_singleton->zO,getD_eq_getElem?_getD->vY,take_sublist->uw,getElem?_eq_some_iff->yv,length_take->uK,length_map->x7,take_length->uu,getElem?_eq_none_iff->ur,mem_cons->yD,not_mem_nil->xC
open List.cons renaming injEq->yE
open Go.Value.int renaming injEq->zl
open Int renaming toNat_natCast->xo
open Go.Ending renaming returned->xH
open Prod.mk renaming inj->wh
namespace Go.Proofs
open Go Go.Sx
attribute [local irreducible] Go.Sx.Tri
structure Clu (V0 V:Mem)(out gs os:Sl)(zs:List Int)(F:List Bool)(O:List Int):Prop where
 oo:Sx.Own V0 V 3 1 out (zs.flatMap qAe)
 og:Sx.Own V0 V 4 1 gs (F.flatMap qDA)
 os_:Sx.Own (λ_=>none) V 3 1 os (O.flatMap qAe)
 d1:∀c,Blk os c->¬Blk out c
section
variable{V0 V V':Mem}{out gs os s:Sl}{zs O xs:List Int}{F:List Bool}
theorem qFI{W g:Mem}{a b:Sl}{u v:List Value}(h:Sx.Own W V 3 1 a u)(k:Sx.Own g V 4 1 b v){c:Nat}(f:Blk a c):¬Blk b c:=λw=>by
 grind[Own.some,ntBool,Option.some.inj]
theorem qBB{W:Mem}{e:Nat}{a:Sl}{u:List Value}(h:Sx.Own W V e 1 a u){c:Nat}(k:Blk a c):V c≠none:=by
 grind[Own.some]
theorem Clu.grow(h:Clu V0 V out gs os zs F O)(k:V.sub V'):Clu V0 V' out gs os zs F O:=⟨Own.growS h.oo k,Own.growS h.og k,Own.growS h.os_ k,h.d1⟩
theorem Clu.mark(h:Clu V0 V out gs os zs F O){j:Nat}(u:j<F.length){Q:Mem->Prop}(w:∀V',Clu V0 V' out gs os zs (F.set j true) O->Q V'):StT (qAa gs.p (j*1)) 0 [.bool true] V Q:=by
 rw[vj];refine Own.store h.og (i:=j) (by rw[qJK];exact u) λV' o f=>w V' ?_;rw[qJJ]at o;exact⟨Own.moveB h.oo o.sub λg z y k=>by rw[f g (qFI h.oo h.og y)];exact k,o,qCg h.os_ λc k=>f c (qFI h.os_ h.og k),h.d1⟩
theorem Clu.place(h:Clu V0 V out gs os zs F O)(u:Sx.Own (λ_=>none) V 3 1 s (xs.flatMap qAe))(w:∀c,Blk s c->¬Blk out c){j:Nat}{b:Int}(z:j<zs.length){Q:Mem->Prop}(y:∀V',Clu V0 V' out gs os (zs.set j b) F O->Sx.Own (λ_=>none) V' 3 1 s (xs.flatMap qAe)->Q V'):StT (qAa out.p (j*1)) 0 [.int .i64 b] V Q:=by
 rw[vj];refine Own.store h.oo (i:=j) (by rw[qEF];exact z) λV' o f=>?_;rw[qEE]at o;exact y V' ⟨o,Own.moveB h.og o.sub λg x r k=>by rw[f g λq=>qFI h.oo h.og q r];exact k,qCg h.os_ λc k=>f c (h.d1 c k),h.d1⟩ (qCg u λc k=>f c (w c k))
end
section
variable{V:Mem}{d:Ds}{m:Mm}{size:Nat}
theorem spreadC{V1:Mem}{out gs os:Sl}{zs O:List Int}{F:List Bool}{b:Nat}{n:Int}{but:List Int}(hv:qAG d=true)(i:qAy d m=true)(Q:Ds.Ok V d)(hm:Mm.Ok V m)(C:Clu V V1 out gs os zs F O)(y:V1 b=none)(P:qEr m.nodes.length F but [n])(hn:1<=n/\n<=(m.nodes.length:Int))(r:∃g,gs=⟨some ⟨g,0,none⟩,m.nodes.length+1,m.nodes.length+1⟩):
  Tri xE 83 #[d.v,m.v,.slice (sa b) 1 1,gs.v,.int .i64 size] (V1.set b (.cells #[.int .i64 n] 3 (0,0))) λe V'=>∃s:Sl,e=.returned s.v/\∃x,Clu V V' out gs os zs x O/\qEr m.nodes.length x but (qDc d m [n] size but)/\Sx.Own (λ_=>none) V' 3 1 s ((qDc d m [n] size but).flatMap qAe)/\∀c,Blk s c->¬Blk out c:=by
 have s1:=Zn y (.cells #[.int .i64 n] 3 (0,0));obtain⟨U,Z⟩:∃U,U=V1.set b (.cells #[.int .i64 n] 3 (0,0)):=⟨_,rfl⟩;have q:U b=some (.cells #[.int .i64 n] 3 (0,0)):=by rw[Z];exact Mem.set_same _ _ _
 rw[<-Z]at s1⊢;have w:=C.grow s1;obtain⟨M,H⟩:∃M:Nat->Prop,M=λc=>c=b∨Blk gs c:=⟨_,rfl⟩;have A:∀c,M c->V c=none:=λc k=>by
  rw[H]at k;rcases k with rfl|k
  ·cases e:V c with
   |none=>rfl
   |some o=>rw[C.oo.sub _ _ e]at y;cases y
  ·exact Own.none0 C.og k
 have f:V.sub (Mem.minus U M):=λc o k=>by
  rw[qBe λh=>by grind];exact w.oo.sub _ _ k
 have T:Two (Mem.minus U M) U ⟨some ⟨b,0,none⟩,1,1⟩ gs [n] F:=by
  refine⟨⟨qCh,rfl,.inr ⟨b,_,rfl,qBC (by simp_all),q,yV _,(show 1<=maxLen by decide),rfl,rfl⟩⟩,⟨qCh,w.og.len,?_⟩⟩;rcases w.og.cases0 with h1|⟨k,g,z,h1,h2,h3,h4⟩;·exact .inl h1
  ·exact .inr ⟨g,z,h1,qBC (by rw[H];exact .inr ⟨k,h1⟩),h3,h4⟩
 refine Tri.mono (c83 (l:=⟨some ⟨b,0,none⟩,1,1⟩) (most:=size) hv i (Q.sub f) (hm.sub f) T P (Nds.nil.snoc hn (by simp)) r) ?_;rintro _ V2 ⟨s,rfl,x,j,J⟩;have Y:=j.ol.sub;have nb:∀{c:Nat},V1 c≠none->¬Blk gs c->V2 c=U c:=λ{c} h1 h2=>by
  have u:¬M c:=λh=>by
   simp_all
  cases e:U c with
  |none=>
   cases I:V1 c with
   |none=>grind
   |some o=>rw[s1 _ _ I]at e;cases e
  |some o=>exact Y _ _ (by rw[qBe u];exact e)
 refine⟨s,rfl,x,⟨Own.moveB w.oo (f.trans Y) λg z W k=>?_,j.og.narrow f,qCg w.os_ λc k=>nb (qBB C.os_ k) (qFI C.os_ C.og k),C.d1⟩,J,qBT j.ol,λc k G=>?_⟩;·rw[nb (qBB C.oo W) (qFI C.oo C.og W)];exact k
 ·have h0:=Own.none0 j.ol k;have h1:=qBB C.oo G;have u:¬M c:=λh=>by
   rw[H]at h;rcases h with rfl|h;·exact h1 y
   ·exact qFI C.oo C.og G h
  rw[qBe u]at h0;exact qBB w.oo G h0
theorem c45[Tab V](hv:qAG d=true)(u:qAy d m=true)(hd:Ds.Ok V d)(hm:Mm.Ok V m){k:Int}(hk:1<=k/\k<=4)(B:1<=size/\size<=64):
  Tri xE 45 #[d.v,m.v,.int .i64 k,.int .i64 size] V λe V'=>∃(s:Sl)(zs:List Int),e=.returned s.v/\Sx.Own V V' 3 1 s (zs.flatMap qAe)/\qAJ d m k size zs:=by
 obtain⟨R,hR⟩:∃R:Ending->Mem->Prop,R=λe V'=>∃(s:Sl)(zs:List Int),e=.returned s.v/\Sx.Own V V' 3 1 s (zs.flatMap qAe)/\qAJ d m k size zs:=⟨_,rfl⟩;rw[<-hR];refine x45 ?_;obtain⟨p1,hN,p3,p4,p5⟩:=qAh u;have hns:=hm.nodes.n_eq;rw[hns];refine mk31 (n:=m.nodes.length) rfl rfl (by omega) λg hg=>⟨⟨some ⟨g,0,none⟩,m.nodes.length,m.nodes.length⟩,rfl,?_⟩;have C0:=qDI hg (n:=m.nodes.length) (by omega);obtain⟨V1,hV1⟩:∃V1,V1=V.set g (.cells (madeCells ((xa .i64 0).cells) (m.nodes.length*1)) 3 (0,0)):=⟨_,rfl⟩;rw[<-hV1]at C0⊢;obtain⟨out,hout⟩:∃out:Sl,out=⟨some ⟨g,0,none⟩,m.nodes.length,m.nodes.length⟩:=⟨_,rfl⟩;rw[<-hout]at C0⊢;refine Tri.mono (c80 (V0:=V1) (l:=⟨none,0,0⟩) (xs:=[]) (Own.nil (Mem.sub.refl _) _ _) Nds.nil hN hns) ?_;rintro _ V2 ⟨o0,rfl,Z⟩;have L:=Own.growS C0 Z.sub;have C:=hd.sub L.sub;have E:=hm.sub L.sub;haveI:Tab V2:=Tab.sub (V:=V) inferInstance L.sub;have ok:=qID u k;have A:∀{U U':Mem}{q:Sl}{ys:List Int},V1.sub U->Sx.Own U U' 3 1 q (ys.flatMap qAe)->∀c,Blk q c->¬Blk out c:=λ{U U' q ys} B o c hc ho=>by
  have h0:=Own.none0 o hc;obtain⟨cur,h⟩:=Own.some C0 ho;rw[B _ _ h]at h0;cases h0
 have Y:k<4->∀V' w,Sx.Own V V' 3 1 out (w.flatMap qAe)->qFv m.nodes.length (qCu d m k) size w->R (rV (uL out)) V':=λh V' w o P=>by
  rw[hR];exact⟨out,w,rfl,o,by grind[qAJ]⟩
 refine⟨o0,rfl,λc=>?_,λc2=>⟨λc=>?_,λc3=>⟨λc=>?_,λc4=>?_⟩⟩⟩
 ·have c:k=2:=c;refine Tri.mono (c81 u C E) ?_;rintro _ V3 ⟨s,rfl,K⟩;have e:qCu d m k=qBM d m:=by grind[qCu]
  rw[e]at ok Y;exact⟨s,rfl,qFE (Own.growS L K.sub) uR (qBT K) (A Z.sub K) ok.1 hN B.1 (Y (by omega))⟩
 ·have c:k=3:=c;refine Tri.mono (c82 hv u C E) ?_;rintro _ V3 ⟨s,rfl,K⟩;have e:qCu d m k=qJW d m:=by grind[qCu]
  rw[e]at ok Y;exact⟨s,rfl,qFE (Own.growS L K.sub) uR (qBT K) (A Z.sub K) ok.1 hN B.1 (Y (by omega))⟩
 ·have c:k=4:=c;obtain⟨N,hNd⟩:∃N,N=m.nodes.length:=⟨_,rfl⟩;refine⟨⟨by omega,by omega⟩,mk162 (n:=m.nodes.length+1) rfl rfl (by omega) λg2 hg2=>⟨⟨some ⟨g2,0,none⟩,m.nodes.length+1,m.nodes.length+1⟩,rfl,?_⟩⟩;have X:=qJl hg2 (n:=m.nodes.length+1) (by omega);obtain⟨V3,hV3⟩:∃V3,V3=V2.set g2 (.cells (madeCells ((Value.bool false).cells) ((m.nodes.length+1)*1)) 4 (0,0)):=⟨_,rfl⟩;rw[<-hV3]at X⊢;obtain⟨gs,hgs⟩:∃gs:Sl,gs=⟨some ⟨g2,0,none⟩,m.nodes.length+1,m.nodes.length+1⟩:=⟨_,rfl⟩;rw[<-hgs]at X⊢;haveI:Tab V3:=Tab.sub (V:=V2) inferInstance X.sub;refine Tri.mono (c81 u (C.sub X.sub) (E.sub X.sub)) ?_;rintro _ V4 ⟨os,rfl,o4⟩;refine⟨os,rfl,?_⟩;have dok:=qGq u;have CL0:Clu V V4 out gs os (yJ m.nodes.length 0) (yJ (m.nodes.length+1) false) (qBM d m):=⟨Own.growS L (X.sub.trans o4.sub),(Own.growS X o4.sub).narrow L.sub,qBT o4,A (Z.sub.trans X.sub) o4⟩;have hOl:=dok.1.len;refine⟨λn ys V5=>∃(i:Nat)(cls:List (List Int))(zs:List Int)(F:List Bool),ys=[.int .i64 cls.length,.int .i64 i]/\i<=(qBM d m).length/\n=(qBM d m).length-i/\cls=((qBM d m).take i).foldl (qKe d m size) []/\CluI m.nodes.length size cls/\Clu V V5 out gs os zs F (qBM d m)/\qKx m.nodes.length size cls zs/\qEr m.nodes.length F cls.flatten [],(qBM d m).length,⟨0,[],_,_,rfl,uy _,rfl,rfl,⟨Nds.nil,by simp⟩,CL0,⟨uR,by simp⟩,⟨uR,λj hj=>by simp_all⟩⟩,?_⟩;rintro n V5 v16 v17 ⟨i,cls,zs,F,hys,hi,rfl,S,hI,CL,I,hF⟩ J hJ;simp only[yE,zl,true_and,and_true]at hys;obtain⟨rfl,rfl⟩:=hys;have T:=CL.os_.rows (row:=qAe) (xs:=qBM d m) (λ_=>rfl) (by decide);have hcll:=hI.len;refine⟨λhlt=>?_,λhge=>?_⟩
  ·obtain⟨x,hxm,hx,-,hil,hp,hz,hrow⟩:=T.get hlt;have hxr:=dok.1.rng x hxm;have hsu:=T.succ hlt;have e:((qBM d m).take (i+1)).foldl (qKe d m size) []=qKe d m size cls x:=by rw[qBc hx,vb,<-S];rfl
   obtain⟨I1,-,-⟩:=hI.step u B.1 hxr;obtain⟨j,rfl⟩:∃j:Nat,x=(j:Int):=⟨x.toNat,by omega⟩;obtain⟨b1,b2,b3,b4⟩:=bool_at (CL.og.rows (λ_=>rfl) (by decide)) (hF.2 j (by omega));refine⟨hp,hz,hlt,_,hrow,b1,b2,b3,_,b4,λc=>⟨hsu,hJ ((qBM d m).length-(i+1)) _ _ (by omega) ⟨i+1,cls,zs,F,rfl,hil,rfl,?_,hI,CL,I,hF⟩⟩,λc=>⟨b1,b2,b3,?_⟩⟩;·grind[qKe]
   ·have c:¬((j:Int)∈cls.flatten∨(j:Int)∈[]):=λh=>c (decide_eq_true h);have hnot:(j:Int)∉cls.flatten:=λh=>c (.inl h);have ec:qKe d m size cls (j:Int)=cls++[qDc d m [(j:Int)] size cls.flatten]:=by grind[qKe]
    obtain⟨w1,w2,w3,w4⟩:=clu_new u B.1 hxr hnot;refine CL.mark (j:=j) (by rw[hF.1];omega) λV6 CL6 b hb=>?_;refine Tri.mono (spreadC (size:=size) (b:=b) (n:=(j:Int)) (but:=cls.flatten) hv u hd hm CL6 hb (hF.mark (by omega)) hxr ⟨g2,hgs⟩) ?_;rintro _ V8 ⟨s8,rfl,F8,CL8,hF8,os8,hd8⟩;refine⟨s8,rfl,?_⟩;obtain⟨W,hW⟩:∃W,W=qDc d m [(j:Int)] size cls.flatten:=⟨_,rfl⟩;rw[<-hW]at hF8 os8 ec w1 w2 w3 w4;refine qIs W.length (λt V9=>∃w:List Int,Clu V V9 out gs os w F8 (qBM d m)/\Sx.Own (λ_=>none) V9 3 1 s8 (W.flatMap qAe)/\qKx m.nodes.length size cls w/\∀y∈W.take t,w[(y-1).toNat]?=some ((cls.length:Nat):Int)) ⟨zs,CL8,os8,I,by simp⟩ ?_;rintro t V9 J1 ht ⟨zs9,CL9,os9,G,H⟩ hJ1;have hwr:=os9.rows (row:=qAe) (xs:=W) (λ_=>rfl) (by decide);have hzr:=CL9.oo.rows (row:=qAe) (xs:=zs9) (λ_=>rfl) (by decide);refine⟨λQ=>?_,λhge9=>?_⟩
    ·obtain⟨y,hym,hy,-,htl,hp9,hz9,hrow9⟩:=hwr.get Q;have hyr:=w1.rng y hym;obtain⟨q,hq⟩:∃q:Nat,y-1=(q:Int):=⟨(y-1).toNat,by omega⟩;have hzl:=G.len;obtain⟨c1,c2,c3,-⟩:=qCy hzr (yu (show q<zs9.length by omega));refine⟨hp9,hz9,Q,_,hrow9,⟨by omega,by omega⟩,c1,by omega,by omega,?_⟩;rw[hq,xo];refine CL9.place os9 hd8 (j:=q) (by omega) λV10 CL10 os10=>⟨hwr.succ Q,hJ1 htl _ ⟨_,CL10,os10,⟨by grind,λa c' r z f=>?_⟩,λz f=>?_⟩⟩
     ·have hne:z≠y:=λh=>w3 y hym (by grind[uZ,xp]);have hzr':=hI.nds.rng z (uZ.2 ⟨c',xp r,f⟩);rw[vu (by omega)];exact G.at_ a c' r z f
     ·by_cases h:z=y;·rw[h,hq,xo,vq (by omega)]
      ·rw[qBc hy]at f;have f:z∈W.take t:=by
        rcases xd.1 f with h1|h1;·exact h1
        grind
       have hzr':=w1.rng z (vm f);rw[vu (by omega)];exact H z f
    ·have hd9:=(hwr.done hge9).2;rw[wx hd9]at H;have hI1:=I1;rw[ec]at hI1;have hl1:=hI1.len;rw[zw,xe]at hl1;refine⟨⟨by omega,by omega⟩,hsu,hJ ((qBM d m).length-(i+1)) _ _ (by omega) ⟨i+1,cls++[W],zs9,F8,?_,hil,rfl,by rw[e,ec],hI1,CL9,⟨G.len,λa c' r z f=>?_⟩,⟨hF8.1,λa ha=>?_⟩⟩⟩;·rw[zw,xe];rfl
     ·by_cases h:a<cls.length
      ·rw[wB h]at r;exact G.at_ a c' r z f
      ·rw[ux (by omega)]at r;have ha0:a-cls.length=0:=by
        grind
       rw[ha0]at r;cases r;rw[H z f,show a=cls.length by omega]
     ·rw[hF8.2 a ha];congr 1;rw[yL,uY];simp
  ·have hdn:=(T.done hge).2;rw[wx hdn]at S;rw[hR];refine⟨out,zs,rfl,CL.oo,?_⟩;unfold qAJ;rw[if_neg (by omega)];rw[S]at I;exact I
 ·have c2:¬k=2:=c2;have c3:¬k=3:=c3;have c4:¬k=4:=c4;have e:qCu d m k=qHx [] m.nodes.length:=by grind[qCu]
  rw[e]at ok Y;exact qFE L uR (qBT Z) (A (Mem.sub.refl _) Z) ok.1 hN B.1 (Y (by omega))
end
def plF(d:Ds)(m:Mm)(k size:Int):Int:=if qAy d m=true then(if 1<=k/\k<=4/\1<=size/\size<=64 then 0 else 2)else 1
structure Cl3 (V0 V:Mem)(out dn os:Sl)(zs D O:List Int):Prop where
 oo:Sx.Own V0 V 3 1 out (zs.flatMap qAe)
 od:Sx.Own V0 V 3 1 dn (D.flatMap qAe)
 oq:Sx.Own (λ_=>none) V 3 1 os (O.flatMap qAe)
 d1:∀c,Blk dn c->¬Blk out c
 d2:∀c,Blk os c->¬Blk out c
 d3:∀c,Blk os c->¬Blk dn c
section
variable{V0 V V':Mem}{out dn os s:Sl}{zs D O xs:List Int}
theorem Cl3.grow(h:Cl3 V0 V out dn os zs D O)(k:V.sub V'):Cl3 V0 V' out dn os zs D O:=⟨Own.growS h.oo k,Own.growS h.od k,Own.growS h.oq k,h.d1,h.d2,h.d3⟩
theorem Cl3.place(h:Cl3 V0 V out dn os zs D O)(u:Sx.Own (λ_=>none) V 3 1 s (xs.flatMap qAe))(w:∀c,Blk s c->¬Blk out c){j:Nat}{b:Int}(z:j<zs.length){Q:Mem->Prop}(y:∀V',Cl3 V0 V' out dn os (zs.set j b) D O->Sx.Own (λ_=>none) V' 3 1 s (xs.flatMap qAe)->Q V'):StT (qAa out.p (j*1)) 0 [.int .i64 b] V Q:=by
 rw[vj];refine Own.store h.oo (i:=j) (by rw[qEF];exact z) λV' o f=>?_;rw[qEE]at o;exact y V' ⟨o,Own.moveB h.od o.sub λg x r k=>by rw[f g (h.d1 g r)];exact k,qCg h.oq λc k=>f c (h.d2 c k),h.d1,h.d2,h.d3⟩ (qCg u λc k=>f c (w c k))
theorem Cl3.push(h:Cl3 V0 V out dn os zs D O){f:Sl}{w:List Value}(o:Sx.Own (V.but dn) V' 3 1 f w){Q:List Int}(e:w=Q.flatMap qAe):Cl3 V0 V' out f os zs Q O:=by
 obtain⟨h1,h2,h3⟩:=qEw h.od o;subst e;refine⟨Own.moveB h.oo h1.sub λg x z k=>?_,h1,qCg h.oq λc k=>h2 c (h.d3 c k) (qBB h.oq k),λc k y=>?_,h.d2,λc k hn=>?_⟩;·rw[h2 g (λu=>h.d1 g u z) (qBB h.oo z)];exact k
 ·exact(h3 c k).elim (λu=>h.d1 c u y) (qBB h.oo y)
 ·exact(h3 c hn).elim (h.d3 c k) (qBB h.oq k)
end
section
variable{V:Mem}{d:Ds}{m:Mm}{size:Nat}
theorem own_one{V:Mem}{b:Nat}(h:V b=none){x:Int}:Sx.Own V (V.set b (.cells #[.int .i64 x] 3 (0,0))) 3 1 ⟨some ⟨b,0,none⟩,1,1⟩ ([x].flatMap qAe):=
 ⟨Zn h _,rfl,.inr ⟨b,_,rfl,h,Mem.set_same _ _ _,yV _,(show 1<=maxLen by decide),rfl,rfl⟩⟩
theorem c14[Tab V](w:Ds.Ok V d)(hm:Mm.Ok V m){k size:Int}:
  Tri xE 14 #[d.v,m.v,.int .i64 k,.int .i64 size] V λe V'=>∃s:Sl,e=.returned (.tuple #[s.v,.int .i64 (plF d m k size)])/\V.sub V'/\(plF d m k size≠0->s.n=0)/\(plF d m k size=0->∃zs,Sx.Own V V' 3 1 s (zs.flatMap qAe)/\qAJ d m k size.toNat zs):=by
 obtain⟨R,g⟩:∃R:Ending->Mem->Prop,R=λe V'=>∃s:Sl,e=.returned (.tuple #[s.v,.int .i64 (plF d m k size)])/\V.sub V'/\(plF d m k size≠0->s.n=0)/\(plF d m k size=0->∃zs,Sx.Own V V' 3 1 s (zs.flatMap qAe)/\qAJ d m k size.toNat zs):=⟨_,rfl⟩;rw[<-g];refine x14 ?_;have bad:∀f:Int,f≠0->plF d m k size=f->R (.returned (.tuple #[.slice none 0 0,.int .i64 f])) V:=λf h0 y=>by
  rw[g];exact⟨⟨none,0,0⟩,by rw[y];rfl,Mem.sub.refl _,λ_=>rfl,λh=>absurd (y.symm.trans h) h0⟩
 refine(c44 w hm).call ⟨_,rfl,λu=>?_,λh=>bad 1 (by decide) (by grind[plF])⟩;have out:¬(1<=k/\k<=4/\1<=size/\size<=64)->R (.returned (.tuple #[.slice none 0 0,.int .i64 2])) V:=λh=>bad 2 (by decide) (by grind[plF]);refine⟨λh=>out (by omega),λh1=>⟨λh=>out (by omega),λh2=>⟨λh=>out (by omega),λh3=>⟨λh=>out (by omega),λh4=>?_⟩⟩⟩⟩;obtain⟨z,rfl⟩:∃z:Nat,size=(z:Int):=⟨size.toNat,by omega⟩;refine Tri.mono (c45 (size:=z) (by grind[qAy,qJD]) u w hm (k:=k) (by omega) (by omega)) ?_;rintro _ V2 ⟨s,zs,rfl,o,P⟩;have e:plF d m k z=0:=by grind[plF]
 refine⟨s,rfl,?_⟩;rw[g];exact⟨s,by rw[e];rfl,o.sub,λh=>absurd e h,λ_=>⟨zs,o,by simp_all⟩⟩
theorem c17(hv:qAG d=true)(w:qAy d m=true)(hd:Ds.Ok V d)(hm:Mm.Ok V m){k:Int}(hk:1<=k/\k<=4)(hs:1<=size/\size<=64):
  Tri xE 17 #[d.v,m.v,.int .i64 k,.int .i64 size] V λe V'=>∃(s:Sl)(zs:List Int),e=.returned s.v/\Sx.Own V V' 3 1 s (zs.flatMap qAe)/\qAJ d m k size zs:=by
 obtain⟨R,hR⟩:∃R:Ending->Mem->Prop,R=λe V'=>∃(s:Sl)(zs:List Int),e=.returned s.v/\Sx.Own V V' 3 1 s (zs.flatMap qAe)/\qAJ d m k size zs:=⟨_,rfl⟩;rw[<-hR];refine x17 ?_;obtain⟨p1,hN,p3,p4,p5⟩:=qAh w;have hns:=hm.nodes.n_eq;rw[hns];refine mk31 (n:=m.nodes.length) rfl rfl (by omega) λg hg=>⟨⟨some ⟨g,0,none⟩,m.nodes.length,m.nodes.length⟩,rfl,?_⟩;have S:=qDI hg (n:=m.nodes.length) (by omega);obtain⟨V1,hV1⟩:∃V1,V1=V.set g (.cells (madeCells ((xa .i64 0).cells) (m.nodes.length*1)) 3 (0,0)):=⟨_,rfl⟩;rw[<-hV1]at S⊢;obtain⟨out,hout⟩:∃out:Sl,out=⟨some ⟨g,0,none⟩,m.nodes.length,m.nodes.length⟩:=⟨_,rfl⟩;rw[<-hout]at S⊢;have hd1:=hd.sub S.sub;have hm1:=hm.sub S.sub;have far:∀{U U':Mem}{q:Sl}{ys:List Int},V1.sub U->Sx.Own U U' 3 1 q (ys.flatMap qAe)->∀c,Blk q c->¬Blk out c:=λ{U U' q ys} hs o c hc ho=>by
  have h0:=Own.none0 o hc;obtain⟨cur,h⟩:=Own.some S ho;rw[hs _ _ h]at h0;cases h0
 refine⟨λc=>?_,λc=>?_⟩
 ·have ok:=qID w k;refine Tri.mono (c48 hv w hd1 hm1 (k:=k) (by omega)) ?_;rintro _ V3 ⟨s,rfl,o3⟩;exact⟨s,rfl,qFE (Own.growS S o3.sub) uR (qBT o3) (far (Mem.sub.refl _) o3) ok.1 hN hs.1 λV' Z o P=>by
   rw[hR];exact⟨out,Z,rfl,o,by grind[qAJ]⟩⟩
 ·refine Tri.mono (c48 hv w hd1 hm1 (k:=2) (by omega)) ?_;rintro _ V4 ⟨os,rfl,o4⟩;have e2:qCu d m 2=qBM d m:=by rfl
  rw[e2]at o4;refine⟨os,rfl,?_⟩;have dok:=qGq w;have hOl:=dok.1.len;have CL0:Cl3 V V4 out ⟨none,0,0⟩ os (yJ m.nodes.length 0) [] (qBM d m):=⟨Own.growS S o4.sub,Own.nil (S.sub.trans o4.sub) _ _,qBT o4,λc h=>absurd rfl h.1,far (Mem.sub.refl _) o4,λc _ h=>absurd rfl h.1⟩;refine⟨λn ys V5=>∃(i:Nat)(dn:Sl)(cls:List (List Int))(zs:List Int),ys=[dn.v,.int .i64 cls.length,.int .i64 i]/\i<=(qBM d m).length/\n=(qBM d m).length-i/\cls=((qBM d m).take i).foldl (qKe d m size) []/\CluI m.nodes.length size cls/\Cl3 V V5 out dn os zs cls.flatten (qBM d m)/\qKx m.nodes.length size cls zs,(qBM d m).length,⟨0,⟨none,0,0⟩,[],_,rfl,uy _,rfl,rfl,⟨Nds.nil,by simp⟩,CL0,⟨uR,by simp⟩⟩,?_⟩;rintro n V5 L v15 v16 ⟨i,dn,cls,zs,hys,hi,rfl,hcl,hI,I,X⟩ J hJ;simp only[yE,zl,true_and,and_true]at hys;obtain⟨h5,rfl,rfl⟩:=hys;cases qAH _ _ h5;have hor:=I.oq.rows (row:=qAe) (xs:=qBM d m) (λ_=>rfl) (by decide);have hdr:=I.od.rows (row:=qAe) (xs:=cls.flatten) (λ_=>rfl) (by decide);have hcll:=hI.len;have hfl:=hI.nds.len;refine⟨λB=>?_,λhge=>?_⟩
  ·obtain⟨x,hxm,hx,-,hil,hp,hz,hrow⟩:=hor.get B;have hxr:=dok.1.rng x hxm;have hsu:=hor.succ B;have e:((qBM d m).take (i+1)).foldl (qKe d m size) []=qKe d m size cls x:=by rw[qBc hx,vb,<-hcl];rfl
   obtain⟨I1,-,-⟩:=hI.step w hs.1 hxr;refine⟨hp,hz,B,_,hrow,(c49 (x:=x) hdr).call ⟨_,rfl,λc2=>⟨hsu,hJ ((qBM d m).length-(i+1)) _ _ (by omega) ⟨i+1,L,cls,zs,rfl,hil,rfl,?_,hI,I,X⟩⟩,λc2=>⟨hp,hz,B,_,hrow,λb hb=>?_⟩⟩⟩;·grind[qKe]
   ·have hnot:x∉cls.flatten:=λh=>c2 (decide_eq_true h);have ec:qKe d m size cls x=cls++[qDc d m [x] size cls.flatten]:=by grind[qKe]
    obtain⟨w1,w2,w3,w4⟩:=clu_new w hs.1 hxr hnot;have s5:=I.oo.sub;have CL6:=I.grow (Zn hb (.cells #[.int .i64 x] 3 (0,0)));have T:Thw V5 (V5.set b (.cells #[.int .i64 x] 3 (0,0))) ⟨some ⟨b,0,none⟩,1,1⟩ L os [x] cls.flatten (qBM d m):=⟨own_one hb,qBT CL6.od,CL6.oq,λc hc hb'=>by
     have h1:=qBB I.od hc;cases hb'.2;exact h1 hb,λc hc hb'=>by
     have h1:=qBB I.oq hc;cases hb'.2;exact h1 hb⟩
    refine Tri.mono (c50 (most:=size) hv w (hd.sub s5) (hm.sub s5) T (Nds.nil.snoc hxr (by simp))) ?_;rintro _ V8 ⟨s8,q8,z8,rfl,T8⟩;refine⟨s8,rfl,?_⟩;have CL8:=I.grow T8.ol.sub;have os8:=qBT T8.ol;have hd8:∀c,Blk s8 c->¬Blk out c:=λc hc ho=>qBB I.oo ho (Own.none0 T8.ol hc);obtain⟨W,hW⟩:∃W,W=qDc d m [x] size cls.flatten:=⟨_,rfl⟩;have os8:Sx.Own (λ_=>none) V8 3 1 s8 (W.flatMap qAe):=by grind
    rw[<-hW]at ec w1 w2 w3 w4;refine qIs W.length (λt V9=>∃Z:List Int,Cl3 V V9 out L os Z cls.flatten (qBM d m)/\Sx.Own (λ_=>none) V9 3 1 s8 (W.flatMap qAe)/\qKx m.nodes.length size cls Z/\∀y∈W.take t,Z[(y-1).toNat]?=some ((cls.length:Nat):Int)) ⟨zs,CL8,os8,X,by simp⟩ ?_;rintro t V9 J1 ht ⟨zs9,C,os9,G,H⟩ hJ1;have E:=os9.rows (row:=qAe) (xs:=W) (λ_=>rfl) (by decide);have hzr:=C.oo.rows (row:=qAe) (xs:=zs9) (λ_=>rfl) (by decide);refine⟨λY=>?_,λhge9=>?_⟩
    ·obtain⟨y,hym,hy,-,htl,hp9,hz9,hrow9⟩:=E.get Y;have hyr:=w1.rng y hym;obtain⟨q,hq⟩:∃q:Nat,y-1=(q:Int):=⟨(y-1).toNat,by omega⟩;have hzl:=G.len;obtain⟨c1,c2,c3,-⟩:=qCy hzr (yu (show q<zs9.length by omega));refine⟨hp9,hz9,Y,_,hrow9,⟨by omega,by omega⟩,c1,by omega,by omega,?_⟩;rw[hq,xo];refine C.place os9 hd8 (j:=q) (by omega) λV10 A os10=>⟨E.succ Y,hJ1 htl _ ⟨_,A,os10,⟨by grind,λa c' r z f=>?_⟩,λz f=>?_⟩⟩
     ·have hne:z≠y:=λh=>w3 y hym (by grind[uZ,xp]);have hzr':=hI.nds.rng z (uZ.2 ⟨c',xp r,f⟩);rw[vu (by omega)];exact G.at_ a c' r z f
     ·by_cases h:z=y;·rw[h,hq,xo,vq (by omega)]
      ·rw[qBc hy]at f;have f:z∈W.take t:=by
        rcases xd.1 f with h1|h1;·exact h1
        grind
       have hzr':=w1.rng z (vm f);rw[vu (by omega)];exact H z f
    ·have hd9:=(E.done hge9).2;rw[wx hd9]at H;have K:=I1;rw[ec]at K;have hl1:=K.len;rw[zw,xe]at hl1;have hn1:=K.nds.len;rw[yL,uY,zw]at hn1;refine qCU (s:=L) (u:=s8) (xs:=cls.flatten) (ys:=W) rfl rfl C.od.but E (by omega) λdn' V10 o10=>⟨dn',rfl,⟨by omega,by omega⟩,hsu,?_⟩;have A:=C.push (Q:=(cls++[W]).flatten) o10 (by rw[yL,uY]);refine hJ ((qBM d m).length-(i+1)) _ _ (by omega) ⟨i+1,dn',cls++[W],zs9,?_,hil,rfl,by rw[e,ec],K,A,⟨G.len,λa c' r z f=>?_⟩⟩;·rw[zw,xe];rfl
     ·by_cases h:a<cls.length
      ·rw[wB h]at r;exact G.at_ a c' r z f
      ·rw[ux (by omega)]at r;have ha0:a-cls.length=0:=by
        grind
       rw[ha0]at r;cases r;rw[H z f,show a=cls.length by omega]
  ·have hdn:=(hor.done hge).2;rw[wx hdn]at hcl;rw[hR];refine⟨out,zs,rfl,I.oo,?_⟩;unfold qAJ;rw[if_neg (by omega)];rw[hcl]at X;exact X
end
noncomputable def exE(d:Ds)(m:Mm)(size most fuel:Int):Int:=if qAF d m 0=0 then(if 1<=size/\size<=64/\1<=most/\most<=1000/\0<=fuel/\fuel<=1048576 then 0 else 2)else qAF d m 0
structure Pt (V0 V:Mem)(p t:Sl)(xs ys:List Int):Prop where
 op:Sx.Own V0 V 3 1 p (xs.flatMap qAe)
 ot:Sx.Own V0 V 3 1 t (ys.flatMap qAe)
 dj:∀c,Blk p c->¬Blk t c
section
variable{V0 V V':Mem}{p t:Sl}{xs ys zs:List Int}
theorem Pt.pushP(h:Pt V0 V p t xs ys){q:Sl}(o:Sx.Own (V.but p) V' 3 1 q (zs.flatMap qAe)):Pt V0 V' q t zs ys:=by
 obtain⟨h1,h2,h3⟩:=qEw h.op o;exact⟨h1,Own.moveB h.ot h1.sub λg z u k=>by rw[h2 g (λf=>h.dj g f u) (qBB h.ot u)];exact k,λc k w=>(h3 c k).elim (λf=>h.dj c f w) (qBB h.ot w)⟩
theorem Pt.pushT(h:Pt V0 V p t xs ys){q:Sl}(o:Sx.Own (V.but t) V' 3 1 q (zs.flatMap qAe)):Pt V0 V' p q xs zs:=by
 obtain⟨h1,h2,h3⟩:=qEw h.ot o;exact⟨Own.moveB h.op h1.sub λg w u k=>by rw[h2 g (λf=>h.dj g u f) (qBB h.op u)];exact k,h1,λc k z=>(h3 c z).elim (λf=>h.dj c k f) (qBB h.op k)⟩
end
section
variable{V:Mem}{d:Ds}{m:Mm}
theorem c51[Tab V](g:Ds.Ok V d)(hm:Mm.Ok V m){size most fuel:Int}:Tri xE 51 #[d.v,m.v,.int .i64 size,.int .i64 most,.int .i64 fuel] V λe V'=>e=.returned (.int .i64 (exE d m size most fuel))/\V.sub V':=by
 refine x51 ?_;have e:scrE d 0 m []=qAF d m 0:=by
  unfold scrE;by_cases h:qAF d m 0=0;·rw[if_pos h,h];rfl
  ·rw[if_neg h]
 refine Tri.mono (c33 g hm (l:=qAx) (cs:=[]) ⟨qAc.nil,by simp⟩ (F:=0) (.inl (by omega))) ?_;rintro _ V1 ⟨k,⟨h0,rfl⟩|⟨h0,o,a,b,nd,-,-,-,-,rfl⟩⟩
 ·rw[e]at h0;refine⟨qAx,qAx,qAx,_,rfl,λh=>absurd (e▸h) h0,λ_=>⟨?_,k⟩⟩;unfold exE;rw[if_neg h0,e]
 ·rw[e]at h0;have out:¬(1<=size/\size<=64/\1<=most/\most<=1000/\0<=fuel/\fuel<=1048576)->exE d m size most fuel=2:=λh=>by unfold exE;rw[if_pos h0,if_neg h]
  have bad:¬(1<=size/\size<=64/\1<=most/\most<=1000/\0<=fuel/\fuel<=1048576)->xH (.int .i64 2)=.returned (.int .i64 (exE d m size most fuel))/\V.sub V1:=λh=>⟨by rw[out h],k⟩;refine⟨o,a,b,0,rfl,λ_=>⟨λh=>bad (by omega),λh1=>⟨λh=>bad (by omega),λh2=>⟨λh=>bad (by omega),λh3=>⟨λh=>bad (by omega),λh4=>⟨λh=>bad (by omega),λf=>⟨λh=>bad (by omega),λu=>⟨?_,k⟩⟩⟩⟩⟩⟩⟩,λh=>absurd rfl h⟩;unfold exE;rw[if_pos h0,if_pos (by omega)]
end
end Go.Proofs
namespace Go.Proofs
open Go Go.Sx
def blkS(size:Int)(s:List Int×List Int)(a:Int×Int×Int):List Int×List Int:=
 (if a.1=3 then s.1++[qCz s.1 size]else s.1,if 0<a.2.1 then s.2++[(if a.1=3 then s.1++[qCz s.1 size]else s.1).getD (a.2.1-1).toNat 0]else s.2)
def qCc(size:Int)(lg:List (Int×Int×Int))(pl:List Int):List Int×List Int:=lg.foldl (blkS size) (pl,[])
theorem qEM{size:Int}{lg:List (Int×Int×Int)}{pl:List Int}{i:Nat}{a:Int×Int×Int}(h:lg[i]?=some a):qCc size (lg.take (i+1)) pl=blkS size (qCc size (lg.take i) pl) a:=by
 grind[qCc,w8]
theorem qFx{α:Type}{p:Nat->Prop}(l:List α)(h0:p 0)(h:∀i a,l[i]?=some a->p i->p (i+1)):∀i,i<=l.length->p i
 |0,_=>h0
 |i+1,k=>h i _ (yu (show i<l.length by omega)) (qFx l h0 h i (by omega))
theorem qMl{l:List (Int×Int×Int)}{i:Nat}{x:Int×Int×Int}(h:l[i]?=some x):alN (l.take (i+1))=alN (l.take i)+if x.1=3 then 1 else 0:=by
 unfold alN;rw[w8,h,List.filter_append,zw];grind
section
variable{size:Int}{lg:List (Int×Int×Int)}{pl:List Int}
theorem qMh(i:Nat)(hi:i<=lg.length):(qCc size (lg.take i) pl).1.length=pl.length+alN (lg.take i):=by
 refine qFx (p:=λi=>(qCc size (lg.take i) pl).1.length=pl.length+alN (lg.take i)) lg rfl (λi a h k=>?_) i hi;rw[qEM h,qMl h];grind[blkS]
theorem blk_tr(i:Nat)(hi:i<=lg.length):(qCc size (lg.take i) pl).2.length=qAu (lg.take i):=by
 refine qFx (p:=λi=>(qCc size (lg.take i) pl).2.length=qAu (lg.take i)) lg rfl (λi a h k=>?_) i hi;rw[qEM h,qJp h];unfold blkS;by_cases c:0<a.2.1;·simp_all
 grind
theorem furth_hi{l:List Int}{M:Int}(h:∀b∈l,b<=M)(h0:-1<=M):qCz l size<=M+1:=by
 obtain⟨h1,h2,h3,-⟩:=qDk l;grind[qCY,qCz]
theorem qMg{M:Int}(h:∀b∈pl,0<=b/\b<=M)(h0:-1<=M)(i:Nat)(hi:i<=lg.length):(∀b∈(qCc size (lg.take i) pl).1,0<=b/\b<=M+alN (lg.take i))/\∀b∈(qCc size (lg.take i) pl).2,0<=b/\b<=M+alN (lg.take i)+1:=by
 refine qFx (p:=λi=>(∀b∈(qCc size (lg.take i) pl).1,0<=b/\b<=M+alN (lg.take i))/\∀b∈(qCc size (lg.take i) pl).2,0<=b/\b<=M+alN (lg.take i)+1) lg ⟨λb k=>?_,λb k=>by cases k⟩ (λi a h f=>?_) i hi
 ·have:=h b k;omega
 obtain⟨g,u⟩:=f;have hn:=qMl h;have key:∀b∈(if a.1=3 then(qCc size (lg.take i) pl).1++[qCz (qCc size (lg.take i) pl).1 size]else(qCc size (lg.take i) pl).1),0<=b/\b<=M+alN (lg.take (i+1)):=λb k=>by
  by_cases c:a.1=3
  ·rw[if_pos c]at k hn;rcases xd.1 k with k|k;·grind
   ·rw[zO.1 k];have h1:=qLU (qCc size (lg.take i) pl).1 size;have h2:=furth_hi (size:=size) (λb k=>(g b k).2) (by omega);omega
  simp_all
 rw[qEM h];unfold blkS;refine⟨key,λb k=>?_⟩;by_cases c:0<a.2.1
 ·simp only[if_pos c]at k;rcases xd.1 k with k|k;·grind
  ·rw[zO.1 k,vY];cases e:(if a.1=3 then(qCc size (lg.take i) pl).1++[qCz (qCc size (lg.take i) pl).1 size]else(qCc size (lg.take i) pl).1)[(a.2.1-1).toNat]? with
   |none=>simp only[Option.getD_none];omega
   |some y=>have:=key y (xp e);simp only[Option.getD_some];omega
 grind
theorem blk_plc(h:Plc pl size)(hl:Low pl)(g:1<=size)(hn:pl.length+alN lg<=4096)(i:Nat)(hi:i<=lg.length):Plc (qCc size (lg.take i) pl).1 size/\Low (qCc size (lg.take i) pl).1:=by
 have mono:∀j,j<=lg.length->alN (lg.take j)<=alN lg:=λj _=>by
  grind[alN,uw]
 refine qFx (p:=λi=>Plc (qCc size (lg.take i) pl).1 size/\Low (qCc size (lg.take i) pl).1) lg ⟨h,hl⟩ (λi a h f=>?_) i hi;have k:=(yv.1 h).1;have h1:=qMl h;have h2:=mono (i+1) k;have h3:=qMh (size:=size) (pl:=pl) i (uv k);rw[qEM h];unfold blkS;by_cases c:a.1=3
 ·simp only[if_pos c]at h1⊢;grind[furth_ok]
 simp_all
end
end Go.Proofs
namespace Go.Proofs
open Go Go.Sx
attribute [local irreducible] Go.Sx.Tri
theorem alN_le(l:List (Int×Int×Int))(i:Nat):alN (l.take i)<=i:=by
 unfold alN;refine Nat.le_trans (List.length_filter_le _ _) ?_;rw[uK];omega
section
variable{V V0:Mem}{d:Ds}{F:Nat}{m:Mm}{nm:KB}{args:List Int}{l:Sl}
theorem play_gr(G:qAw d m)(k:qCr d m nm args=0):Gr F 0 (qBZ m) (qCf d F (qDa d nm) args (qBZ m)).st:=by
 obtain⟨i,q,g,f,h⟩:=qHd k;rw[g];exact(play_snd (F:=F) (qGJ G.valid G.chk) f (qJE G) (qAp (qDr (qEf m).symm) h)).gr
end
section
variable{size:Int}{lg:List (Int×Int×Int)}{pl:List Int}
theorem blk_pl0(h:Pl0 pl size)(k:1<=size)(i:Nat)(hi:i<=lg.length):Pl0 (qCc size (lg.take i) pl).1 size:=by
 refine qFx (p:=λi=>Pl0 (qCc size (lg.take i) pl).1 size) lg h (λi a h g=>?_) i hi;rw[qEM h];unfold blkS;by_cases c:a.1=3;·simp_all[if_pos,furth_pl0]
 simp_all
end
section
variable{V:Mem}{d:Ds}{m:Mm}{nm:KB}{args pl:List Int}{F:Nat}{size:Int}
theorem qGK(h:qAZ d m nm args F=0):qKf m.nodes.length (qCf d F (qDa d nm) args (qBZ m)).st.lg (qCf d F (qDa d nm) args (qBZ m)).st.ns.length/\(qCf d F (qDa d nm) args (qBZ m)).st.lg.length<=4000*F:=by
 obtain⟨G,k⟩:=qCp h;have g:=play_gr (F:=F) G k;generalize(qCf d F (qDa d nm) args (qBZ m)).st=s at g⊢;obtain⟨l,h1,h2,-⟩:=g.lg;have h3:=g.fu (uy _);have h4:=g.w;have e:(qBZ m).lg=[]:=rfl;rw[e,List.nil_append]at h1;subst h1;rw[show(qBZ m).ns.length=m.nodes.length from x7 ..]at h2;rw[show(qBZ m).lg.length=0 from rfl,show(qBZ m).cm=0 from rfl,show(qBZ m).tk=0 from rfl]at h4;grind
def ExtP(V:Mem)(d:Ds)(F:Nat)(m:Mm)(nm:KB)(args pl:List Int)(size:Int):Ending->Mem->Prop:=λe V'=>
 (qAZ d m nm args F≠0/\V.sub V'/\e=.returned (.tuple #[.agg #[.int .i64 0,.int .i64 0,.int .i64 0,.int .i64 0,.int .i64 0,qAx.v,qAx.v,qAx.v,qAx.v],.int .i64 (qAZ d m nm args F)]))∨
 (qAZ d m nm args F=0/\∃r:Rx Int,∃(gs ns ls:Sl)(nd:List Nd)(p t:Sl),r=qCf d F (qDa d nm) args (qBZ m)/\Lay V V' gs ns ls nd r.st/\Pt V V' p t (qCc size r.st.lg pl).1 (qCc size r.st.lg pl).2/\e=.returned (.tuple #[.agg #[.int .i64 (outC r),.int .i64 (outV r),.int .i64 r.st.cm,.int .i64 (qAu r.st.lg),.int .i64 0,gs.v,ns.v,p.v,t.v],.int .i64 0]))
theorem c52[Tab V]{l ps:Sl}{M:Int}(hd:Ds.Ok V d)(hm:Mm.Ok V m)(ha:qAc V l 1 (args.map qAe))(hF:F<=4000)(hp:qAc V ps 1 (pl.map qAe))(E:pl.length=m.nodes.length)(h0:Pl0 pl size)(hs:1<=size)(Z:∀b∈pl,b<=M)(hM:-1<=M/\M<=100000)(hN:∀r,r=qCf d F (qDa d nm) args (qBZ m)->qAZ d m nm args F=0->r.st.ns.length<=4096):
  Tri xE 52 #[d.v,m.v,ps.v,.int .i64 size,.agg #[.string nm,l.v],.int .i64 F] V (ExtP V d F m nm args pl size):=by
 obtain⟨R,K⟩:∃R,R=ExtP V d F m nm args pl size:=⟨_,rfl⟩;rw[<-K];refine x52 ?_;refine Tri.mono (c24 hd hm ha hF) ?_;rintro _ V1 (⟨H,s1,rfl⟩|⟨H,r,gs,ns,ls,nd,C,L,rfl⟩)
 ·refine⟨0,0,0,0,0,qAx,qAx,_,rfl,λh=>absurd h H,λ_=>?_⟩;rw[K];exact .inl ⟨H,s1,rfl⟩
 have s1:=L.sub;haveI:Tab V1:=Tab.sub (V:=V) inferInstance s1;refine⟨_,_,_,_,_,_,_,_,rfl,λ_=>?_,λh=>absurd rfl h⟩;refine Tri.mono (c36 (nm:=nm) (hd.sub s1) (hm.sub s1) (ha.sub s1) hF) ?_;rintro _ V2 (⟨S,-,-⟩|⟨-,k,lt,Y,ol,rfl⟩);·exact absurd H S
 rw[<-C]at Y;subst Y;refine⟨lt,_,rfl,λ_=>?_,λh=>absurd rfl h⟩;have s2:=s1.trans ol.sub;obtain⟨f,W⟩:=qGK H;rw[<-C]at f W;have hns:=hN _ C H;refine Tri.mono (c42 (hp.sub s2) (by rw[E];have:=f.len;omega)) ?_;rintro _ V3 ⟨p3,rfl,o3⟩;refine⟨p3,rfl,?_⟩;have hln:=f.len;have T0:Pt V2 V3 p3 ⟨none,0,0⟩ pl []:=⟨o3,Own.nil o3.sub _ _,λc _ h=>absurd rfl h.1⟩;refine⟨λn ys V4=>∃(i:Nat)(p t:Sl),ys=[.int .i64 (outC k),.int .i64 (outV k),.int .i64 k.st.cm,.int .i64 (qAu k.st.lg),.int .i64 0,gs.v,ns.v,p.v,t.v,.int .i64 i]/\i<=k.st.lg.length/\n=k.st.lg.length-i/\Pt V2 V4 p t (qCc size (k.st.lg.take i) pl).1 (qCc size (k.st.lg.take i) pl).2,k.st.lg.length,⟨0,p3,⟨none,0,0⟩,rfl,uy _,rfl,T0⟩,?_⟩;rintro n V4 v26 v27 v28 v29 v30 v31 v32 j o v35 ⟨i,p,t,Q,hi,rfl,T⟩ J U;simp only[yE,zl,true_and,and_true]at Q;obtain⟨rfl,rfl,rfl,rfl,rfl,h5,h6,h7,h8,rfl⟩:=Q;cases qAH _ _ h5;cases qAH _ _ h6;cases qAH _ _ h7;cases qAH _ _ h8;have w:=(Own.growS ol (T.op.sub)).rows (row:=qFY) (xs:=k.st.lg) (λ_=>rfl) (by decide);refine⟨λz=>?_,λhge=>?_⟩
 ·obtain⟨a,ham,P,-,g,hpn,hz,A⟩:=w.get z;obtain⟨k1,k2,k3,k4,-⟩:=f.at_ i a P;have hS:=qEM (size:=size) (pl:=pl) P;have hbl:=qMh (size:=size) (pl:=pl) i (uv g);have hbt:=blk_tr (size:=size) (pl:=pl) i (uv g);have hal:=alN_le k.st.lg i;have hnl:qAu (k.st.lg.take i)<=16000000:=by
   grind[qAu]
  have hmono:alN (k.st.lg.take i)<=alN k.st.lg:=by
   grind[alN,uw]
  refine⟨hpn,hz,z,a.1,a.2.1,a.2.2,A,λc=>?_,λc=>?_⟩
  ·have c:a.1=3:=c;have hrg:=(qMg (size:=size) (lg:=k.st.lg) (pl:=pl) (M:=M) (λb G=>⟨h0.lo b G,Z b G⟩) hM.1 i (uv g)).1;refine(c41 (size:=size) (T.op.rows (row:=qAe) (λ_=>rfl) (by decide)) (blk_pl0 h0 hs i (uv g)) (λb G=>by grind)).call ⟨_,rfl,λb5 hb5=>?_⟩;refine oneG (row:=qAe) qCU (x:=qCz (qCc size (k.st.lg.take i) pl).1 size) (s:=j) T.op.but hb5 (by omega) rfl rfl (λ_=>rfl) λs5 V5 o5=>⟨s5,rfl,?_⟩;have e:=T.pushP o5;obtain⟨X,hX⟩:∃X,X=(if a.1=3 then(qCc size (k.st.lg.take i) pl).1++[qCz (qCc size (k.st.lg.take i) pl).1 size]else(qCc size (k.st.lg.take i) pl).1):=⟨_,rfl⟩;have u:=hX;rw[if_pos c]at u;rw[<-u]at e;have hXl:X.length=pl.length+alN (k.st.lg.take i)+1:=by simp_all
   have:=k2 c;refine⟨λy=>?_,λy=>?_⟩
   ·have y:0<a.2.1:=y;obtain⟨q,I⟩:∃q:Nat,a.2.1-1=(q:Int):=⟨(a.2.1-1).toNat,by omega⟩;obtain⟨d1,d2,d3,d4⟩:=qCy (e.op.rows (row:=qAe) (xs:=X) (λ_=>rfl) (by decide)) (yu (show q<X.length by omega));rw[I];refine⟨⟨by omega,by omega⟩,d1,d2,d3,_,d4,λb Z=>?_⟩;refine oneG (row:=qAe) qCU (x:=X[q]'(by omega)) (s:=o) e.ot.but Z (by omega) rfl rfl (λ_=>rfl) λB V6 o6=>⟨B,rfl,w.succ z,?_⟩;refine U (k.st.lg.length-(i+1)) _ _ (by omega) ⟨i+1,s5,B,rfl,g,rfl,?_⟩;rw[hS];have T6:=e.pushT o6;unfold blkS;rw[if_pos y];have e1:X.getD (a.2.1-1).toNat 0=X[q]'(by omega):=by rw[I,xo,vY,yu (show q<X.length by omega)];rfl
    simp_all
   omega
  ·have c:¬a.1=3:=c;have e:=T;obtain⟨X,hX⟩:∃X,X=(if a.1=3 then(qCc size (k.st.lg.take i) pl).1++[qCz (qCc size (k.st.lg.take i) pl).1 size]else(qCc size (k.st.lg.take i) pl).1):=⟨_,rfl⟩;have u:=hX;rw[if_neg c]at u;rw[<-u]at e;have hXl:X.length=pl.length+alN (k.st.lg.take i):=by rw[u,hbl]
   have:=k3 c;refine⟨λy=>?_,λy=>?_⟩
   ·have y:0<a.2.1:=y;obtain⟨q,I⟩:∃q:Nat,a.2.1-1=(q:Int):=⟨(a.2.1-1).toNat,by omega⟩;obtain⟨d1,d2,d3,d4⟩:=qCy (e.op.rows (row:=qAe) (xs:=X) (λ_=>rfl) (by decide)) (yu (show q<X.length by omega));rw[I];refine⟨⟨by omega,by omega⟩,d1,d2,d3,_,d4,λb Z=>?_⟩;refine oneG (row:=qAe) qCU (x:=X[q]'(by omega)) (s:=o) e.ot.but Z (by omega) rfl rfl (λ_=>rfl) λB V6 o6=>⟨B,rfl,w.succ z,?_⟩;refine U (k.st.lg.length-(i+1)) _ _ (by omega) ⟨i+1,j,B,rfl,g,rfl,?_⟩;rw[hS];have T6:=e.pushT o6;unfold blkS;rw[if_pos y];have e1:X.getD (a.2.1-1).toNat 0=X[q]'(by omega):=by rw[I,xo,vY,yu (show q<X.length by omega)];rfl
    simp_all
   ·have y:¬0<a.2.1:=y;refine⟨w.succ z,U (k.st.lg.length-(i+1)) _ _ (by omega) ⟨i+1,j,o,rfl,g,rfl,?_⟩⟩;grind[blkS]
 ·have hdn:=(w.done hge).2;rw[wx hdn]at T;rw[K];refine .inr ⟨H,k,gs,ns,ls,nd,j,o,C,L.grow (ol.sub.trans T.op.sub),⟨T.op.narrow s2,T.ot.narrow s2,T.dj⟩,rfl⟩
end
section
variable{V:Mem}{d:Ds}{m:Mm}{nm:KB}{args pl:List Int}{F:Nat}{size most:Int}
theorem qDi(h:qAZ d m nm args F=0):(qCf d F (qDa d nm) args (qBZ m)).st.ns.length<=4096:=by
 obtain⟨G,k⟩:=qCp h;have g:=qFe (F:=F) G k;have h1:=(qAh g.mem).2.1;generalize(qCf d F (qDa d nm) args (qBZ m)).st=s at h1⊢;rw[show s.mm.nodes.length=s.ns.length from x7 ..]at h1;exact h1
noncomputable def qJO(d:Ds)(m:Mm)(pl:List Int)(size most:Int)(nm:KB)(args:List Int)(F:Int):Int:=if exE d m size most F=0 then(if pl.length=m.nodes.length/\plB pl size=true then qAZ d m nm args F else 30)else exE d m size most F
theorem qHJ{F:Int}(h:exE d m size most F=0):qAw d m/\1<=size/\size<=64/\1<=most/\most<=1000/\0<=F/\F<=1048576:=by
 grind[exE,qAF,absurd]
def ExrP(V:Mem)(d:Ds)(F:Int)(m:Mm)(nm:KB)(args pl:List Int)(size most:Int):Ending->Mem->Prop:=λe V'=>
 (qJO d m pl size most nm args F≠0/\V.sub V'/\e=.returned (.tuple #[.agg #[.int .i64 0,.int .i64 0,.int .i64 0,.int .i64 0,.int .i64 0],.agg #[qAx.v,qAx.v],qAx.v,.int .i64 (qJO d m pl size most nm args F)]))∨
 (qJO d m pl size most nm args F=0/\∃r:Rx Int,∃(gs ns ls:Sl)(nd:List Nd)(p:Sl),r=qCf d F.toNat (qDa d nm) args (qBZ m)/\Lay V V' gs ns ls nd r.st/\qAc V' p 1 ((qCc size r.st.lg pl).1.map qAe)/\e=.returned (.tuple #[.agg #[.int .i64 (outC r),.int .i64 (outV r),.int .i64 r.st.cm,.int .i64 (qAu r.st.lg),.int .i64 (qIG most.toNat [] (qCc size r.st.lg pl).2)],.agg #[gs.v,ns.v],p.v,.int .i64 0]))
theorem c19[Tab V]{l ps:Sl}{fu:Int}(W:Ds.Ok V d)(hm:Mm.Ok V m)(I:qAc V l 1 (args.map qAe))(Q:fu<=4000∨1048576<fu)(P:qAc V ps 1 (pl.map qAe)):
  Tri xE 19 #[d.v,m.v,ps.v,.int .i64 size,.int .i64 most,.agg #[.string nm,l.v],.int .i64 fu] V (ExrP V d fu m nm args pl size most):=by
 obtain⟨R,j⟩:∃R,R=ExrP V d fu m nm args pl size most:=⟨_,rfl⟩;rw[<-j];refine x19 ?_;have bad:∀{k:Int}{V':Mem},qJO d m pl size most nm args fu=k->k≠0->V.sub V'->R (.returned (.tuple #[.agg #[.int .i64 0,.int .i64 0,.int .i64 0,.int .i64 0,.int .i64 0],.agg #[qAx.v,qAx.v],qAx.v,.int .i64 k])) V':=λh X B=>by rw[j];exact .inl ⟨by rw[h];exact X,B,by rw[h]⟩
 have i:=hm.nodes.n_eq;refine Tri.mono (c51 W hm) ?_;rintro _ V1 ⟨rfl,s1⟩;haveI:Tab V1:=Tab.sub (V:=V) inferInstance s1;refine⟨_,rfl,λh0=>?_,λh0=>⟨λh=>absurd h h0,λ_=>bad (by grind[qJO]) h0 s1⟩⟩;have h0:exE d m size most fu=0:=h0;obtain⟨G,o,E,e,H,K,S⟩:=qHJ h0;obtain⟨F,rfl⟩:∃F:Nat,fu=(F:Int):=⟨fu.toNat,by omega⟩;have Q:F<=4000:=by omega
 refine(c40 (size:=size) (n:=(m.ns.n:Int)) (P.sub s1)).call ⟨_,rfl,λh1=>?_,λh1=>bad (k:=30) ?_ (by decide) s1⟩
 ·have h1:(decide ((pl.length:Int)=(m.ns.n:Int))&&plB pl size)=true:=h1;rw[Bool.and_eq_true,decide_eq_true_eq,i]at h1;have J:pl.length=m.nodes.length:=by omega
  obtain⟨U,g⟩:=qFF.1 h1.2;have er:qJO d m pl size most nm args F=qAZ d m nm args F:=by grind[qJO]
  refine⟨λ_=>?_,λh=>absurd h0 h⟩;refine Tri.mono (c52 (M:=4095) (pl:=pl) (size:=size) (nm:=nm) (W.sub s1) (hm.sub s1) (I.sub s1) Q (P.sub s1) J g.pl0 o (λb y=>by have:=(g.rng b y).2;omega) (by omega) λr w f=>by rw[w];exact qDi f) ?_;rintro _ V2 (⟨f,s2,rfl⟩|⟨f,r,gs,ns,ls,nd,p,t,w,L,T,rfl⟩);·exact⟨0,0,0,0,0,qAx,qAx,qAx,qAx,_,rfl,λh=>absurd h f,λ_=>bad er f (s1.trans s2)⟩
  have s2:=T.op.sub;obtain⟨u,z⟩:=qGK f;rw[<-w]at u z;have hns:r.st.ns.length<=4096:=by rw[w];exact qDi f
  have hln:=u.len;have Z:=(qMg (size:=size) (lg:=r.st.lg) (pl:=pl) (M:=4095) (λb y=>⟨(g.rng b y).1,by have:=(g.rng b y).2;omega⟩) (by omega) r.st.lg.length (yV _)).2;have Y:=blk_tr (size:=size) (lg:=r.st.lg) (pl:=pl) r.st.lg.length (yV _);rw[uu]at Z Y;have hnl:qAu r.st.lg<=16000000:=by
   grind[qAu]
  refine⟨_,_,_,_,_,gs,ns,p,t,_,rfl,λ_=>?_,λh=>absurd rfl h⟩;refine Tri.mono (c53 (m:=most)) ?_;rintro _ V3 (⟨h,-⟩|⟨-,q,rfl,C⟩);·exact absurd ⟨e,H⟩ h
  refine⟨some ⟨q,0,none⟩,0,rfl,λ_=>?_,λh=>absurd rfl h⟩;refine Tri.mono (c54 C (by omega) (T.ot.rows (row:=qAe) (λ_=>rfl) (by decide)) (λx hx=>by grind) (by omega)) ?_;rintro _ V4 ⟨rfl,C4⟩;refine⟨_,rfl,?_⟩;have A:=C4.sub;rw[j];exact .inr ⟨er.trans f,r,gs,ns,ls,nd,p,w,(L.narrow s1).grow A,(T.op.rows (row:=qAe) (λ_=>rfl) (by decide)).sub A,rfl⟩
 grind[qJO]
end
section
variable{V:Mem}{d:Ds}{m:Mm}
theorem c10(k:Ds.Ok V d)(hm:Mm.Ok V m){fu:Int}:Tri xE 10 #[d.v,m.v,.int .i64 fu] V λe V'=>V'=V/\∃b:Bool,e=.returned (.bool b)/\(b=false->fu<=3000∨1048576<fu):=by
 refine x10 ?_;refine Tri.mono (greatC k) ?_;rintro _ _ ⟨rfl,b,rfl⟩;refine⟨b,rfl,λ_=>⟨rfl,true,rfl,λh=>by cases h⟩,λ_=>Tri.mono (manyC hm) ?_⟩;rintro _ _ ⟨rfl,c,rfl⟩;refine⟨c,rfl,λ_=>⟨rfl,true,rfl,λh=>by cases h⟩,λ_=>⟨λh=>⟨rfl,_,rfl,λh2=>?_⟩,λh=>⟨rfl,false,rfl,λ_=>?_⟩⟩⟩
 ·have:=of_decide_eq_false h2;omega
 ·have h:¬3000<fu:=h;omega
theorem c18{nm:KB}{l:Sl}:Tri xE 18 #[.agg #[.string nm,l.v]] V (RY V):=by
 refine x18 ?_;exact⟨λ_=>⟨rfl,true,rfl⟩,λ_=>⟨rfl,_,rfl⟩⟩
end
section
variable{d:Ds}{F:Nat}{m m':Mm}
theorem qGP(h:m.plain=m'.plain)(n:Int):qAB d m n=qAB d m' n:=by
 unfold qAB;cases k:m.nodes[(n-1).toNat]? with
 |some x=>
  obtain⟨y,h1,h2,h3⟩:=qFD h k;rw[h1];simp only[h2,h3]
 |none=>
  have:m'.nodes[(n-1).toNat]?=none:=by
   rw[ur]at k⊢;rw[<-qDt h];exact k
  rw[this]
theorem qLb(h:m.plain=m'.plain):∀f:Nat,qDo d m f=qDo d m' f
 |0=>by funext st n;rw[qDo,qDo]
 |f+1=>by
  funext st n;rw[qDo,qDo,qGP h,qLb h f]
theorem reachP_plain(h:m.plain=m'.plain):qBy d m=qBy d m':=by
 have k:m.globals=m'.globals:=(wh h).1;unfold qBy lookP;rw[qDt h,qLb h,k]
theorem canP_plain(h:m.plain=m'.plain):canP d m=canP d m':=by
 have g:m.globals=m'.globals:=(wh h).1;unfold canP;rw[reachP_plain h,g];refine Prod.ext rfl (List.map_congr_left λn _=>?_);cases k:m.nodes[(n-1).toNat]? with
 |some x=>
  obtain⟨y,h1,h2,h3⟩:=qFD h k;rw[h1];simp only[h2,h3]
 |none=>
  have:m'.nodes[(n-1).toNat]?=none:=by
   rw[ur]at k⊢;rw[<-qDt h];exact k
  rw[this]
end
end Go.Proofs
namespace Go.Proofs
open Go Go.Sx
section
variable{d d':Ds}{m m':Mm}(hn:∀n,qAB d' m' n=qAB d m n)
include hn
theorem ent_same:∀(n:Nat)(s:Sr)(x:Int),qDo d' m' n s x=qDo d m n s x:=by
 intro n;induction n with
 |zero=>intro s x;rfl
 |succ n h=>
  intro s x;have e:qDo d' m' n=qDo d m n:=funext λs=>funext λx=>h s x;unfold qDo;rw[hn,e]
theorem bfs_same(most:Nat)(but:List Int):∀(f:Nat)(l:List Int)(i:Nat),bfsP d' m' most but f l i=bfsP d m most but f l i:=by
 intro f;induction f with
 |zero=>intro l i;rfl
 |succ f h=>
  intro l i;unfold bfsP;simp only[h,hn]
variable(hl:m'.nodes.length=m.nodes.length)
include hl
theorem wide_same(l:List Int)(most:Nat)(but:List Int):qDc d' m' l most but=qDc d m l most but:=by
 unfold qDc;rw[hl];exact bfs_same hn _ _ _ _ _
theorem qKM(g:tgt d'.globals m'.globals=tgt d.globals m.globals){k:Int}{size:Nat}{zs:List Int}(h:qAJ d' m' k size zs):qAJ d m k size zs:=by
 have f:qBy d' m'=qBy d m:=by unfold qBy lookP;rw[g,hl,show qDo d' m' (m.nodes.length+1)=qDo d m (m.nodes.length+1)from funext λs=>funext λx=>ent_same hn _ s x]
 have u:qBM d' m'=qBM d m:=by unfold qBM;rw[f,hl]
 have w:qJW d' m'=qJW d m:=by
  unfold qJW firstP;rw[wide_same hn hl,g,hl]
 have z:qKe d' m' size=qKe d m size:=by
  funext s n;unfold qKe;rw[wide_same hn hl]
 unfold qAJ qCu cluP at h⊢;rw[u,w,z,hl]at h;exact h
end
theorem place_same{d d':Ds}{m:Mm}(g:∀t,qAt d' t=qAt d t)(f:d'.globals=d.globals){k:Int}{size:Nat}{zs:List Int}(h:qAJ d' m k size zs):qAJ d m k size zs:=
 qKM (λn=>by unfold qAB;simp only[g]) rfl (by rw[f]) h
theorem qJi{d:Ds}{m m':Mm}(h:m'.plain=m.plain){k:Int}{size:Nat}{zs:List Int}(g:qAJ d m' k size zs):qAJ d m k size zs:=by
 exact qKM (qGP h) (qDt h) (by rw[show m'.globals=m.globals from(wh h).1]) g
end Go.Proofs
namespace Go.Proofs
open Go Go.Sx
def chM(a b s0 s1 s2 s3:Sl):Mm:=⟨a,[4],b,[⟨0,s0,[0]⟩,⟨0,s1,[1]⟩,⟨0,s2,[2]⟩,⟨0,s3,[3]⟩]⟩
section
variable{a b s0 s1 s2 s3:Sl}
theorem ch_valid:qAG qCE=true:=by kernel_rfl
theorem ch_chk:qIj qCE=none:=by kernel_rfl
theorem ch_mem:qAy qCE (chM a b s0 s1 s2 s3)=true:=by kernel_rfl
theorem ch_good:qAw qCE (chM a b s0 s1 s2 s3):=⟨ch_valid,ch_chk,ch_mem⟩
theorem ch_start:qCr qCE (chM a b s0 s1 s2 s3) qIk []=0:=by kernel_rfl
theorem ch_idx:qDa qCE qIk=0:=by kernel_rfl
theorem ch_run:(λr:Rx Int=>(outC r,outV r,r.st.cm,qAu r.st.lg,(qCc 2 r.st.lg [1,1,0,0]).1,qIG 1 [] (qCc 2 r.st.lg [1,1,0,0]).2)) (qCf qCE 100 0 [] (qBZ (chM a b s0 s1 s2 s3)))=(0,0,0,4,[1,1,0,0],2):=by kernel_rfl
theorem ch_ord:qCu qCE (chM a b s0 s1 s2 s3) 1=[1,2,3,4]:=by kernel_rfl
theorem ch_deep:qBM qCE (chM a b s0 s1 s2 s3)=[4,3,2,1]:=by kernel_rfl
theorem ch_clu:cluP qCE (chM a b s0 s1 s2 s3) 2 [4,3,2,1]=[[4,3],[2,1]]:=by kernel_rfl
end
end Go.Proofs
namespace Go.Proofs
open Go Go.Sx
section
variable{a b s0 s1 s2 s3:Sl}
theorem ch_pl1:qAJ qCE (chM a b s0 s1 s2 s3) 1 2 [0,0,1,1]:=by
 unfold qAJ;rw[if_pos (by decide),ch_ord];refine⟨rfl,λj n h=>?_⟩
 match j,h with
 |0,h=>cases h;rfl
 |1,h=>cases h;rfl
 |2,h=>cases h;rfl
 |3,h=>cases h;rfl
 |j+4,h=>cases h
theorem ch_pl4:qAJ qCE (chM a b s0 s1 s2 s3) 4 2 [1,1,0,0]:=by
 unfold qAJ;rw[if_neg (by decide),ch_deep,ch_clu];refine⟨rfl,λj c h n hn=>?_⟩
 match j,h with
 |0,h=>
  cases h;simp only[yD,xC,or_false]at hn;rcases hn with rfl|rfl<;>rfl
 |1,h=>
  cases h;simp only[yD,xC,or_false]at hn;rcases hn with rfl|rfl<;>rfl
 |j+2,h=>cases h
theorem ch_place{d:Ds}(SD:qKa qCE d){k:Int}{zs ys:List Int}(h:qAJ d (chM a b s0 s1 s2 s3) k 2 zs)(h2:qAJ qCE (chM a b s0 s1 s2 s3) k 2 ys):zs=ys:=
 place_eq ch_mem (by decide) (place_same SD.fields (congrArg Ds.globals SD.er).symm h) h2
end
end Go.Proofs
namespace Go.Proofs
open Go Go.Sx
attribute [local irreducible] Go.Sx.Tri
theorem plF_zero{d:Ds}{m:Mm}{k size:Int}(h:qAy d m=true)(h1:1<=k/\k<=4/\1<=size/\size<=64):plF d m k size=0:=by grind[plF]
section
variable{a b s0 s1 s2 s3:Sl}{d:Ds}(SD:qKa qCE d)
include SD
theorem ch_gd:qAw d (chM a b s0 s1 s2 s3):=qAw.same ch_good SD
theorem ch_exr:qJO d (chM a b s0 s1 s2 s3) [1,1,0,0] 2 1 qIk [] 100=0:=by
 have G:=ch_gd (a:=a) (b:=b) (s0:=s0) (s1:=s1) (s2:=s2) (s3:=s3) SD;have h0:qAF d (chM a b s0 s1 s2 s3) 0=0:=by grind[qAF]
 have P:=(qGL (a:=[1,1,0,0]) (ch_mem (a:=a) (b:=b) (s0:=s0) (s1:=s1) (s2:=s2) (s3:=s3)) (by decide) ch_pl4).1;unfold qJO exE;rw[if_pos h0,if_pos (by decide),if_pos ⟨by rfl,qFF.2 ⟨by decide,P⟩⟩,qLp G (by decide),SD.cll,ch_start]
theorem ch_play{r:Rx Int}(h:r=qCf d (100:Int).toNat (qDa d qIk) [] (qBZ (chM a b s0 s1 s2 s3))):outC r=0/\outV r=0/\r.st.cm=0/\qAu r.st.lg=4/\(qCc 2 r.st.lg [1,1,0,0]).1=[1,1,0,0]/\qIG (1:Int).toNat [] (qCc 2 r.st.lg [1,1,0,0]).2=2:=by
 rw[SD.idx,ch_idx,SD.play]at h;grind[ch_run,qCf,qCE,qBZ,chM,Prod.mk.injEq]
end
section
variable{V:Mem}
theorem qEC{V:Mem}{b n:Nat}{xs:List Int}(h:V b=some (.cells (xs.map (xa .i64)).toArray 3 (0,0)))(hn:n=xs.length)(k:xs.length<=100):qAc V (qEs b n) 1 (xs.map qAe):=
 qAc.cells (row:=qAe) (xs:=xs) h (by rw[qAR]) (λ_=>rfl) hn (Nat.le_trans k (by decide))
theorem c9[Tab V]:PP 9 [] V (.bool true):=by
 refine Pur.mk (x9 ?_);refine Tri.mono c37 ?_;rintro _ V1 ⟨s1,d,rfl,SD,hd⟩;refine⟨_,_,_,_,_,_,_,_,rfl,λb8 h8 b9 h9 g A f I u R w X=>?_⟩;have t8:=Zn h8 (.cells ([4].map (xa .i64)).toArray 3 (0,0));have t9:=Zn h9 (.cells ([0].map (xa .i64)).toArray 3 (0,0));have e:=Zn A (.cells ([1].map (xa .i64)).toArray 3 (0,0));have o:=Zn I (.cells ([2].map (xa .i64)).toArray 3 (0,0));have i:=Zn R (.cells ([3].map (xa .i64)).toArray 3 (0,0));have j:=Zn X (.cells #[.int .i64 0,(qEs b9 1).v,.int .i64 0,(qEs g 1).v,.int .i64 0,(qEs f 1).v,.int .i64 0,(qEs u 1).v] 92 (0,0));obtain⟨U,H⟩:∃U,U=((((((V1.set b8 (.cells ([4].map (xa .i64)).toArray 3 (0,0))).set b9 (.cells ([0].map (xa .i64)).toArray 3 (0,0))).set g (.cells ([1].map (xa .i64)).toArray 3 (0,0))).set f (.cells ([2].map (xa .i64)).toArray 3 (0,0))).set u (.cells ([3].map (xa .i64)).toArray 3 (0,0))).set w (.cells #[.int .i64 0,(qEs b9 1).v,.int .i64 0,(qEs g 1).v,.int .i64 0,(qEs f 1).v,.int .i64 0,(qEs u 1).v] 92 (0,0))):=⟨_,rfl⟩;have sU:V1.sub U:=by rw[H];exact t8.trans (t9.trans (e.trans (o.trans (i.trans j))))
 have ca8:qAc U (qEs b8 1) 1 (([4]:List Int).map qAe):=qEC (xs:=[4]) (by rw[H];exact(t9.trans (e.trans (o.trans (i.trans j)))) _ _ mss) rfl (by decide);have ca9:qAc U (qEs b9 1) 1 (([0]:List Int).map qAe):=qEC (xs:=[0]) (by rw[H];exact(e.trans (o.trans (i.trans j))) _ _ mss) rfl (by decide);have ca10:qAc U (qEs g 1) 1 (([1]:List Int).map qAe):=qEC (xs:=[1]) (by rw[H];exact(o.trans (i.trans j)) _ _ mss) rfl (by decide);have ca11:qAc U (qEs f 1) 1 (([2]:List Int).map qAe):=qEC (xs:=[2]) (by rw[H];exact(i.trans j) _ _ mss) rfl (by decide);have ca12:qAc U (qEs u 1) 1 (([3]:List Int).map qAe):=qEC (xs:=[3]) (by rw[H];exact j _ _ mss) rfl (by decide);have B:U w=some (.cells #[.int .i64 0,(qEs b9 1).v,.int .i64 0,(qEs g 1).v,.int .i64 0,(qEs f 1).v,.int .i64 0,(qEs u 1).v] 92 (0,0)):=by rw[H];exact Mem.set_same _ _ _
 obtain⟨m,hm⟩:∃m,m=chM (qEs b8 1) (qEs w 4) (qEs b9 1) (qEs g 1) (qEs f 1) (qEs u 1):=⟨_,rfl⟩;have M:Mm.Ok U m:=by
  rw[hm];refine⟨ca8,λx hx=>by grind[chM,inI],qAc.cells (row:=Nd.row) B rfl (λ_=>rfl) rfl (by simp[chM]),λn hn=>?_⟩;have one:∀{s:Sl}{x:Int},qAc U s 1 (([x]:List Int).map qAe)->inI x->Nd.Ok U ⟨0,s,[x]⟩:=λh hx=>⟨h,(show inI 0 by unfold inI;decide),λy hy=>by simp_all⟩;simp only[chM,yD,xC,or_false]at hn;rcases hn with rfl|rfl|rfl|rfl;·grind[inI]
  ·grind[inI]
  ·grind[inI]
  grind[inI]
 have z:V.sub U:=s1.trans sU;haveI:Tab U:=Tab.sub (V:=V) inferInstance z;have mv:m.v=.agg #[(qEs b8 1).v,(qEs w 4).v]:=by rw[hm];rfl
 show Tri _ _ #[d.v,.agg #[(qEs b8 1).v,(qEs w 4).v],.int .i64 1,.int .i64 2] ((((((V1.set b8 (.cells ([4].map (xa .i64)).toArray 3 (0,0))).set b9 (.cells ([0].map (xa .i64)).toArray 3 (0,0))).set g (.cells ([1].map (xa .i64)).toArray 3 (0,0))).set f (.cells ([2].map (xa .i64)).toArray 3 (0,0))).set u (.cells ([3].map (xa .i64)).toArray 3 (0,0))).set w (.cells #[.int .i64 0,(qEs b9 1).v,.int .i64 0,(qEs g 1).v,.int .i64 0,(qEs f 1).v,.int .i64 0,(qEs u 1).v] 92 (0,0))) _;rw[<-H,<-mv];clear H t8 t9 e o i j h8 h9 A I R X;refine Tri.mono (c14 (hd.sub sU) M (k:=1) (size:=2)) ?_;rintro _ V8 ⟨p,rfl,s8,-,hp⟩;have G1:qAy d m=true:=by rw[hm];exact(ch_gd SD).mem
 have e8:=plF_zero (k:=1) (size:=2) G1 (by decide);obtain⟨zs,o8,P8⟩:=hp e8;obtain rfl:zs=[0,0,1,1]:=by grind[ch_place,ch_pl1]
 refine⟨_,_,rfl,Tri.mono c37 ?_⟩;rintro _ V9 ⟨s9,d2,rfl,SD2,hd2⟩;haveI:Tab V9:=Tab.sub (V:=U) inferInstance (s8.trans s9);refine⟨_,_,_,_,_,_,_,_,rfl,?_⟩;show Tri _ _ #[d2.v,.agg #[(qEs b8 1).v,(qEs w 4).v],.int .i64 4,.int .i64 2] V9 _;rw[<-mv];refine Tri.mono (c14 hd2 (M.sub (s8.trans s9)) (k:=4) (size:=2)) ?_;rintro _ V10 ⟨p2,rfl,C,-,hp2⟩;have G2:qAy d2 m=true:=by rw[hm];exact(ch_gd SD2).mem
 have E:=plF_zero (k:=4) (size:=2) G2 (by decide);obtain⟨zs2,o10,P10⟩:=hp2 E;obtain rfl:zs2=[1,1,0,0]:=by grind[ch_place,ch_pl4]
 have r8:=(o8.rows (row:=qAe) (xs:=[0,0,1,1]) (λ_=>rfl) (by decide)).sub (s9.trans C);have r10:=o10.rows (row:=qAe) (xs:=[1,1,0,0]) (λ_=>rfl) (by decide);refine⟨_,_,rfl,and_self_iff.2 (Tri.mono c37 ?_)⟩;rintro _ Z ⟨Y,d3,rfl,K,hd3⟩;refine⟨_,_,_,_,_,_,_,_,rfl,λJ h34=>?_⟩;have W:=Zn h34 (.cells (([1,1,0,0]:List Int).map (xa .i64)).toArray 3 (0,0));have Q:U.sub (Z.set J (.cells (([1,1,0,0]:List Int).map (xa .i64)).toArray 3 (0,0))):=s8.trans (s9.trans (C.trans (Y.trans W)));haveI:Tab (Z.set J (.cells (([1,1,0,0]:List Int).map (xa .i64)).toArray 3 (0,0))):=Tab.sub (V:=U) inferInstance Q;show Tri _ _ #[d3.v,.agg #[(qEs b8 1).v,(qEs w 4).v],(qEs J 4).v,.int .i64 2,.int .i64 1,.agg #[.string qIk,qAx.v],.int .i64 100] (Z.set J (.cells (([1,1,0,0]:List Int).map (xa .i64)).toArray 3 (0,0))) _;rw[<-mv];refine Tri.mono (c19 (nm:=qIk) (args:=[]) (pl:=[1,1,0,0]) (size:=2) (most:=1) (hd3.sub W) (M.sub Q) qAc.nil (.inl (by decide)) (qEC (xs:=[1,1,0,0]) mss rfl (by decide))) ?_;rintro _ V13 (⟨h,-⟩|⟨-,r,gs,ns,ls,nd,q,hr,L,hq,rfl⟩);·exact absurd (by rw[hm];exact ch_exr K) h
 rw[hm]at hr;obtain⟨k1,k2,k3,k4,k5,k6⟩:=ch_play K hr;rw[k1,k2,k3,k4,k6];rw[k5]at hq;have S:=W.trans L.sub;have eq:∀{V':Mem}{s t:Sl}{xs:List Int},V.sub V'->qAc V' s 1 (xs.map qAe)->qAc V' t 1 (xs.map qAe)->∀{q:Ending->Mem->Prop},(V.sub V'->q (.returned (.bool true)) V')->Tri xE 13 #[s.v,t.v] V' q:=λh h1 h2 _ hq=>(c13 h1 h2).call (by simp_all);have z13:V.sub V13:=z.trans (Q.trans L.sub);refine⟨_,_,_,_,_,_,_,_,_,rfl,λ_ b14 h14=>?_,λh=>absurd e8 h⟩;have G:=Zn h14 (.cells (([0,0,1,1]:List Int).map (xa .i64)).toArray 3 (0,0));refine eq (xs:=[0,0,1,1]) (t:=qEs b14 4) (z13.trans G) (r8.sub (Y.trans (S.trans G))) (qEC (xs:=[0,0,1,1]) mss rfl (by decide)) λz14=>⟨_,rfl,λ_=>⟨λ_ b16 h16=>?_,λh=>absurd E h⟩,λh=>absurd rfl h⟩;have P:=Zn h16 (.cells (([1,1,0,0]:List Int).map (xa .i64)).toArray 3 (0,0));refine eq (xs:=[1,1,0,0]) (t:=qEs b16 4) (z14.trans P) (r10.sub (Y.trans (S.trans (G.trans P)))) (qEC (xs:=[1,1,0,0]) mss rfl (by decide)) λz16=>⟨_,rfl,λ_=>⟨λ_=>⟨λ_ b18 h18=>?_,λh=>absurd ⟨rfl,rfl,rfl,rfl,rfl⟩ h⟩,λh=>absurd rfl h⟩,λh=>absurd rfl h⟩;have T:=Zn h18 (.cells (([1,1,0,0]:List Int).map (xa .i64)).toArray 3 (0,0));exact eq (xs:=[1,1,0,0]) (t:=qEs b18 4) (z16.trans T) (hq.sub (G.trans (P.trans T))) (qEC (xs:=[1,1,0,0]) mss rfl (by decide)) λz18=>⟨_,rfl,rfl,z18⟩
end
theorem erase_pos:∀{l:List Int}{i:Nat}{b:Int},qHX l b=(i:Int)->l.take i++l.drop (i+1)=l.erase b/\i<l.length/\b∈l:=by
 intro l i b h;unfold qHX at h;rcases qAL (λy=>decide (y=b)) l with⟨h1,-⟩|⟨k,y,h1,h2,-,g,h4,hm,-,f⟩;·omega
 ·obtain rfl:k=i:=by omega
  obtain rfl:y=b:=of_decide_eq_true h4;have hn:y∉l.take k:=λhm=>by
   grind
  grind[yv,List.drop_eq_getElem_cons,List.take_append_drop,List.erase_append_right,List.erase_cons_head]
theorem tch_hit{k:Nat}{c:List Int}{b:Int}(h:b∈c):b::c.erase b=tch k c b:=by grind[tch]
theorem tch_miss{k:Nat}(g:0<k){c:List Int}{b:Int}(h:b∉c)(hl:c.length<=k):b::(if(c.length:Int)=(k:Int)then c.take (k-1)else c)=tch k c b:=by
 unfold tch;rw[if_neg h];grind[wx]
theorem qAc.post{α:Type}{V:Mem}{l:Sl}{sz:Nat}{row:α->List Value}{xs:List α}(h:qAc V l sz (xs.map row)){j:Nat}(u:j<=xs.length):
  qAc V ⟨if(l.c:Int)=(j:Int)then l.p else qAa l.p ((j:Int).toNat*sz),((l.n:Int)-(j:Int)).toNat,((l.c:Int)-(j:Int)).toNat⟩ sz ((xs.drop j).map row):=by
 have hn:=h.n_eq;have w:=h.cap;have z:=h.fit;refine⟨?_,?_,?_,λr y=>h.size r ?_,λi r k=>?_⟩;·simp_all
 ·grind
 ·grind
 ·grind
 ·rw[List.map_drop,List.getElem?_drop]at k;obtain⟨a,x,f⟩:=h.at_ _ _ k;have g:j+i<(xs.map row).length:=(yv.1 k).1;rw[x7]at g;refine⟨a.add (j*sz),?_,?_⟩;·grind[qAa]
  grind[add_add,Nat.add_mul]
section
variable{V:Mem}{s:Sl}{l:List Int}
theorem c139(h:qAc V s 1 (l.map qAe)){x:Int}:PP 139 [s.v,.int .i64 x] V (.int .i64 (qHX l x)):=by
 refine x139 ?_;refine qAM (mk:=.int .i64) (b0:=0) l.length (λj V1=>V=V1/\qAY (λy:Int=>!decide (y=x)) l j) ⟨rfl,qAY.zero _ _⟩ ?_;rintro j b V1 J G ⟨rfl,w⟩ i;refine⟨λk=>?_,λf=>?_⟩
 ·obtain⟨y,r,q,-,u,o,H,g⟩:=h.get k;refine⟨o,H,k,_,g,λz=>?_,λz=>⟨h.succ k,i u _ _ ⟨rfl,qCm w q (decide_eq_false z)⟩⟩⟩;have e:qHX l x=(j:Int):=by grind[qHX,qCH,decide_eq_true]
  simp_all
 ·have e:qHX l x=-1:=by unfold qHX;exact qDv w (h.done f).2
  simp_all
theorem c140(h:qAc V s 1 (l.map qAe)){i:Nat}(hi:i<l.length)(hl:l.length<=2147483647):Tri xE 140 #[s.v,.int .i64 i] V λe V'=>∃t:Sl,e=.returned t.v/\Sx.Own V V' 3 1 t ((l.take i++l.drop (i+1)).flatMap qAe):=by
 refine x140 ?_;have hn:=h.n_eq;have q:=h.cap;have k:IR ((i:Int)+1):=⟨by omega,by omega⟩;have f:(0:Int)<=0/\(0:Int)<=(i:Int)/\(i:Int)<=(s.c:Int):=⟨by omega,by omega,by omega⟩;have g:(0:Int)<=(i:Int)+1/\(i:Int)+1<=(s.n:Int)/\(s.n:Int)<=(s.c:Int):=⟨by omega,by omega,by omega⟩;refine⟨f,k,g,g,k,f,λb z=>?_⟩;have y:qAc V ⟨s.p,i,s.c⟩ 1 ((l.take i).map qAe):=qAc.pre h (by omega);refine qJU z (l:=⟨s.p,i,s.c⟩) y (by grind) rfl ?_ λt V2 o=>⟨t,rfl,g,k,?_⟩
 ·show Value.slice (if(s.c:Int)=0 then s.p else qAa s.p ((0:Int).toNat*1)) ((i:Int)-0).toNat ((s.c:Int)-0).toNat=_;rw[qFV,sub0,sub0]
 ·have x:=(qAc.post h (j:=i+1) (by omega)).sub o.sub;refine qCU (s:=t) (xs:=l.take i) (ys:=l.drop (i+1)) (u:=⟨if(s.c:Int)=((i+1:Nat):Int)then s.p else qAa s.p (((i+1:Nat):Int).toNat*1),((s.n:Int)-((i+1:Nat):Int)).toNat,((s.c:Int)-((i+1:Nat):Int)).toNat⟩) rfl rfl o x (by grind) λw V' r=>⟨w,rfl,w,rfl,r⟩
theorem c94{k:Nat}(h:qAc V s 1 (l.map qAe))(Z:1<=k/\k<=1000)(hl:l.length<=k){b:Int}:Tri xE 94 #[s.v,.int .i64 k,.int .i64 b] V λe V'=>V.sub V'/\∃t:Sl,e=.returned (.tuple #[t.v,.bool (decide (b∈l))])/\qAc V' t 1 ((tch k l b).map qAe):=by
 refine x94 ?_;have hn:=h.n_eq;have g:=h.cap;have one:∀{V1 V2:Mem}{c:Nat}{u:Sl}{ys:List Int}{ty:Nat}{x y:Operand}{vals:Operand->Value}{Q:Value->Mem->Prop},V.sub V1->V1 c=none->qAc V1 u 1 (ys.map qAe)->ys.length<=1000->vals x=.slice (sa c) 1 1->vals y=u.v->(∀t V2,V.sub V2->qAc V2 t 1 ((b::ys).map qAe)->Q (.slice t.p t.n t.c) V2)->GenK xE (.call {callee:=.builtin .append,args:=#[x,y],argTypes:=#[31,31]}) ty vals (V1.set c (.cells #[.int .i64 b] 3 (0,0))) Q:=λ{V1 V2 c u ys ty x y vals Q} r f hu Y h1 h2 q=>
  qCU (s:=⟨some ⟨c,0,none⟩,1,1⟩) (u:=u) (xs:=[b]) (ys:=ys) h1 h2 (own_one f) (hu.sub (Zn f _)) (by simp;omega) λt V2 o=>q t V2 (r.trans o.sub) (o.rows (row:=qAe) (λ_=>rfl) (by decide))
 refine(c139 h).call ⟨_,rfl,λf=>?_,λf=>?_⟩
 ·obtain⟨i,z⟩:∃i:Nat,qHX l b=(i:Int):=⟨(qHX l b).toNat,by omega⟩;obtain⟨W,H,J⟩:=erase_pos z;rw[z];refine Tri.mono (c140 h H (by omega)) ?_;rintro _ V2 ⟨t,rfl,o⟩;refine⟨t,rfl,λc g=>one (V2:=V2) o.sub g (o.rows (row:=qAe) (λ_=>rfl) (by decide)) (by grind) rfl rfl λu j w hu=>⟨u,rfl,w,u,by rw[decide_eq_true J];rfl,?_⟩⟩;grind[tch_hit]
 ·have hm:b∉l:=pos_neg.1 f;have e:=tch_miss (by omega) hm hl;rw[decide_eq_false hm];refine⟨λh1=>?_,λh1=>λc g=>one (V2:=V) (Mem.sub.refl _) g h (by omega) rfl rfl λu j w hu=>⟨u,rfl,w,u,rfl,?_⟩⟩
  ·have h1:(s.n:Int)=(k:Int):=h1;rw[if_pos (by omega)]at e;have G:qAc V ⟨s.p,k-1,s.c⟩ 1 ((l.take (k-1)).map qAe):=qAc.pre h (by omega);refine⟨⟨by omega,by omega⟩,⟨by omega,by omega,by omega⟩,λc g=>one (V2:=V) (Mem.sub.refl _) g G (by grind) rfl ?_ λu j w hu=>⟨u,rfl,w,u,rfl,by simp_all⟩⟩;show Value.slice (if(s.c:Int)=0 then s.p else qAa s.p ((0:Int).toNat*1)) (((k:Int)-1)-0).toNat ((s.c:Int)-0).toNat=.slice s.p (k-1) s.c;rw[qFV,sub0,show(((k:Int)-1)-0).toNat=k-1 by omega]
  grind
theorem c59{k:Nat}{ts:Sl}{xs:List Int}(Y:qAc V ts 1 (xs.map qAe))(h:qAc V s 1 (l.map qAe))(W:1<=k/\k<=1000)(hl:l.length<=k)(hn:xs.length<2147483648):Tri xE 59 #[ts.v,.int .i64 k,s.v] V λe V'=>V.sub V'/\∃t:Sl,e=.returned (.tuple #[.int .i64 (qIG k l xs),t.v])/\qAc V' t 1 ((qKk k l xs).map qAe):=by
 refine x59 ?_;refine loop3b (mk:=λs:Sl=>.slice s.p s.n s.c) (mc:=.int .i64) (b0:=s) (c0:=0) qAH qCZ xs.length (λi u n V1=>V.sub V1/\qAc V1 u 1 ((qKk k l (xs.take i)).map qAe)/\n=(qIG k l (xs.take i):Int)/\(qKk k l (xs.take i)).length<=k) ⟨Mem.sub.refl _,h,rfl,hl⟩ ?_;rintro i u n V1 J L ⟨s1,hu,rfl,z⟩ Z;have g:=Y.sub s1;refine⟨λf=>?_,λq=>?_⟩
 ·obtain⟨x,Q,y,-,j,P,A,r⟩:=g.get f;have I:qKk k l (xs.take (i+1))=tch k (qKk k l (xs.take i)) x:=by rw[qBc y,tchL_snoc]
  have R:qIG k l (xs.take (i+1))=qIG k l (xs.take i)+if x∈qKk k l (xs.take i)then 0 else 1:=by rw[qBc y,qJs]
  have o:=qJt k (xs.take i) l;rw[uK]at o;have w:=tch_len (by omega) z x;refine⟨P,A,f,_,r,Tri.mono (c94 hu W z) ?_⟩;rintro _ V2 ⟨s2,t,rfl,H⟩;rw[<-I]at H w;refine⟨t,_,rfl,λG=>⟨g.succ f,Z j _ _ _ ⟨s1.trans s2,H,?_,w⟩⟩,λG=>⟨⟨by omega,by omega⟩,g.succ f,Z j _ _ _ ⟨s1.trans s2,H,?_,w⟩⟩⟩;·simp_all
  simp_all
 ·have G:=(g.done q).2;rw[wx G]at hu⊢;exact⟨s1,u,rfl,hu⟩
end
section
variable{V:Mem}{d:Ds}{m:Mm}{nm:KB}{args pl:List Int}{lg:List (Int×Int×Int)}{ls ps:Sl}{size M:Int}{N:Nat}
theorem c58(hl:qAc V ls 3 (lg.map qFY))(hp:qAc V ps 1 (pl.map qAe))(L:qKf pl.length lg N)(H:∀b∈pl,0<=b/\b<=M)(hM:-1<=M/\M<=100000)(hN:N<=4096)(hlen:lg.length<=16000000):
  Tri xE 58 #[ls.v,ps.v,.int .i64 size] V λe V'=>∃p t:Sl,e=.returned (.tuple #[t.v,p.v])/\Pt V V' p t (qCc size lg pl).1 (qCc size lg pl).2:=by
 refine x58 ?_;have hln:=L.len;intro b0 A;refine qJU A hp (by omega) rfl rfl λq V2 o2=>⟨q,rfl,?_⟩;refine loop3b (mk:=λs:Sl=>.slice s.p s.n s.c) (mc:=λs:Sl=>.slice s.p s.n s.c) (b0:=q) (c0:=⟨none,0,0⟩) qAH qAH lg.length (λi p t V4=>Pt V V4 p t (qCc size (lg.take i) pl).1 (qCc size (lg.take i) pl).2) ⟨o2,Own.nil o2.sub _ _,λc _ h=>absurd rfl h.1⟩ ?_;rintro i p t V4 J hi T hJ;have G:=hl.sub T.op.sub;refine⟨λk=>?_,λI=>?_⟩
 ·obtain⟨a,ham,Z,-,w,z,Q,r⟩:=G.get k;obtain⟨-,k2,k3,k4,-⟩:=L.at_ i a Z;have hS:=qEM (size:=size) (pl:=pl) Z;have R:=qMh (size:=size) (pl:=pl) i (uv w);have hbt:=blk_tr (size:=size) (pl:=pl) i (uv w);have hnl:qAu (lg.take i)<=16000000:=by
   grind[qAu]
  have B:alN (lg.take i)<=alN lg:=by
   grind[alN,uw]
  have hrg:=(qMg (size:=size) (lg:=lg) (pl:=pl) (M:=M) H hM.1 i (uv w)).1;have P:=qAf (n:=i*3) z;have W:=G.succ k;obtain⟨X,hX⟩:∃X,X=(if a.1=3 then(qCc size (lg.take i) pl).1++[qCz (qCc size (lg.take i) pl).1 size]else(qCc size (lg.take i) pl).1):=⟨_,rfl⟩;have put:∀{Y:Mem}{f:Sl},0<a.2.1->Pt V Y f t X (qCc size (lg.take i) pl).2->a.2.1<=(X.length:Int)->
    IR (a.2.1-1)/\¬f.p=none/\0<=(a.2.1-1)/\(a.2.1-1)<(f.n:Int)/\∃v,Y.rowp f.p ((a.2.1-1).toNat*1) 1=some [.int .i64 v]/\∀b,Y b=none->∀{ty:Nat}{x y:Operand}{vals:Operand->Value},vals x=t.v->vals y=.slice (sa b) 1 1->GenK xE (.call {callee:=.builtin .append,args:=#[x,y],argTypes:=#[31,31]}) ty vals (Y.set b (.cells #[.int .i64 v] 3 (0,0))) λx V6=>∃u:Sl,x=.slice u.p u.n u.c/\IR ((i:Int)+1)/\J [.slice f.p f.n f.c,.slice u.p u.n u.c,.int .i64 ((i:Int)+1)] V6:=λ{Y f} c2 o hxl=>by
   obtain⟨j,hj⟩:∃j:Nat,a.2.1-1=(j:Int):=⟨(a.2.1-1).toNat,by omega⟩;obtain⟨d1,d2,d3,d4⟩:=qCy (o.op.rows (row:=qAe) (xs:=X) (λ_=>rfl) (by decide)) (yu (show j<X.length by omega));rw[hj];refine⟨⟨by omega,by omega⟩,d1,d2,d3,_,d4,λb H ty x y vals hx hy=>?_⟩;refine oneG (row:=qAe) qCU (x:=X[j]'(by omega)) (s:=t) o.ot.but H (by omega) hx hy (λ_=>rfl) λs6 V6 o6=>⟨s6,rfl,W,hJ w _ _ _ ?_⟩;have T6:=o.pushT o6;rw[hS];unfold blkS;rw[if_pos c2];have e1:X.getD (a.2.1-1).toNat 0=X[j]'(by omega):=by rw[hj,xo,vY,yu (show j<X.length by omega)];rfl
   simp_all
  refine⟨z,Q,k,P,a.1,a.2.1,a.2.2,r,λc0=>⟨W,hJ w _ _ _ ?_⟩,λc0=>⟨z,Q,k,P,a.1,a.2.1,a.2.2,r,λc=>?_,λc=>?_⟩⟩;·grind[blkS]
  ·have c:a.1=3:=c;refine(c43 (size:=size) (T.op.rows (row:=qAe) (λ_=>rfl) (by decide)) (λb hb'=>by grind) (by omega)).call ⟨_,rfl,λb5 C=>?_⟩;refine oneG (row:=qAe) qCU (x:=qCz (qCc size (lg.take i) pl).1 size) (s:=p) T.op.but C (by omega) rfl rfl (λ_=>rfl) λs5 Y o5=>⟨s5,rfl,?_⟩;have o:=T.pushP o5;have g:=hX;rw[if_pos c]at g;rw[<-g]at o;have E:X.length=pl.length+alN (lg.take i)+1:=by simp_all
   have:=k2 c;obtain⟨p1,K,p3,S,v,f,U⟩:=put (by omega) o (by omega);have hr5:=(hl.sub o.op.sub).at_get Z;exact⟨z,Q,k,P,a.1,a.2.1,a.2.2,hr5,p1,K,p3,S,v,f,λb H=>U b H rfl rfl⟩
  ·have c:¬a.1=3:=c;have o:=T;have g:=hX;rw[if_neg c]at g;rw[<-g]at o;have E:X.length=pl.length+alN (lg.take i):=by rw[g,R]
   have:=k3 c;obtain⟨p1,K,p3,S,v,f,U⟩:=put (by omega) o (by omega);exact⟨z,Q,k,P,a.1,a.2.1,a.2.2,r,p1,K,p3,S,v,f,λb H=>U b H rfl rfl⟩
 ·have hdn:=(G.done I).2;rw[wx hdn]at T;exact⟨p,t,rfl,T⟩
theorem c55(g:Ds.Ok V d)(hm:Mm.Ok V m){most fuel:Int}:PP 55 [d.v,m.v,.int .i64 size,.int .i64 most,.int .i64 fuel] V (.int .i64 (exE d m size most fuel)):=by
 refine x55 ?_;have k:qAF d m 0=0∨qAF d m 0=1:=by grind[qAF]
 refine(c91 g hm).call ⟨_,rfl,λh1=>?_,λh1=>?_⟩
 ·have h1:qAF d m 0=1:=h1;have e:exE d m size most fuel=1:=by unfold exE;rw[if_neg (by omega),h1]
  rw[e];exact⟨rfl,rfl⟩
 ·have h0:qAF d m 0=0:=k.resolve_right h1;have bad:¬(1<=size/\size<=64/\1<=most/\most<=1000/\0<=fuel/\fuel<=1048576)->xH (.int .i64 2)=.returned (.int .i64 (exE d m size most fuel))/\V=V:=λh=>⟨by grind[exE],rfl⟩;refine c16.call ⟨_,rfl,λh3=>?_,λh3=>bad λh=>h3 (decide_eq_true ⟨h.1,h.2.1⟩)⟩;have h3:1<=size/\size<=64:=of_decide_eq_true h3;refine⟨λh=>bad (by omega),λh4=>⟨λh=>bad (by omega),λf=>⟨λh=>bad (by omega),λu=>⟨λh=>bad (by omega),λw=>?_⟩⟩⟩⟩;have e:exE d m size most fuel=0:=by unfold exE;rw[if_pos h0,if_pos (by omega)]
  rw[e];exact⟨rfl,rfl⟩
def RrP(V:Mem)(d:Ds)(F:Int)(m:Mm)(nm:KB)(args pl c:List Int)(size most:Int):Ending->Mem->Prop:=λe V'=>V.sub V'/\
 ((qJO d m pl size most nm args F≠0/\e=.returned (.tuple #[.agg #[.int .i64 0,.int .i64 0,.int .i64 0,.int .i64 0,.int .i64 0,qAx.v,qAx.v,qAx.v,qAx.v,qAx.v],.int .i64 (qJO d m pl size most nm args F)]))∨
 (qJO d m pl size most nm args F=0/\∃(r:Rx Int)(x:Mm)(p t u:Sl),r=qCf d F.toNat (qDa d nm) args (qBZ m)/\Mm.Ok V' x/\x.plain=(r.st.g,r.st.ns)/\qAc V' p 1 ((qCc size r.st.lg pl).1.map qAe)/\qAc V' t 1 ((qCc size r.st.lg pl).2.map qAe)/\qAc V' u 1 ((qKk most.toNat c (qCc size r.st.lg pl).2).map qAe)/\
  e=.returned (.tuple #[.agg #[.int .i64 (outC r),.int .i64 (outV r),.int .i64 r.st.cm,.int .i64 (qAu r.st.lg),.int .i64 (qIG most.toNat c (qCc size r.st.lg pl).2),x.gs.v,x.ns.v,p.v,t.v,u.v],.int .i64 0])))
theorem c21{l cs:Sl}{fu most:Int}{c:List Int}(e:Ds.Ok V d)(hm:Mm.Ok V m)(S:qAc V l 1 (args.map qAe))(B:fu<=4000∨1048576<fu)(H:qAc V ps 1 (pl.map qAe))(U:qAc V cs 1 (c.map qAe))(hcl:(c.length:Int)<=most∨c=[]):
  Tri xE 21 #[d.v,m.v,ps.v,.int .i64 size,.int .i64 most,cs.v,.agg #[.string nm,l.v],.int .i64 fu] V (RrP V d fu m nm args pl c size most):=by
 obtain⟨R,J⟩:∃R,R=RrP V d fu m nm args pl c size most:=⟨_,rfl⟩;rw[<-J];refine x21 ?_;have bad:∀{k:Int}{V':Mem},qJO d m pl size most nm args fu=k->k≠0->V.sub V'->R (.returned (.tuple #[.agg #[.int .i64 0,.int .i64 0,.int .i64 0,.int .i64 0,.int .i64 0,qAx.v,qAx.v,qAx.v,qAx.v,qAx.v],.int .i64 k])) V':=λh hk hs=>by rw[J];exact⟨hs,.inl ⟨by rw[h];exact hk,by rw[h]⟩⟩
 have hnn:=hm.nodes.n_eq;have hpn:=H.n_eq;refine(c55 e hm).call ⟨_,rfl,λh0=>?_,λh0=>bad (by grind[qJO]) h0 (Mem.sub.refl _)⟩;have h0:exE d m size most fu=0:=h0;obtain⟨G,hs1,hs2,hm1,hm2,hf0,hf1⟩:=qHJ h0;obtain⟨F,rfl⟩:∃F:Nat,fu=(F:Int):=⟨fu.toNat,by omega⟩;have B:F<=4000:=by omega
 have no:¬(pl.length=m.nodes.length/\plB pl size=true)->qJO d m pl size most nm args F=30:=λh=>by grind[qJO]
 refine⟨λh1=>?_,λh1=>bad (no λh=>h1 (by omega)) (by decide) (Mem.sub.refl _)⟩;have Z:pl.length=m.nodes.length:=by omega
 refine(c25 (size:=size) H).call ⟨_,rfl,λh2=>?_,λh2=>bad (no λh=>h2 h.2) (by decide) (Mem.sub.refl _)⟩;have h2:plB pl size=true:=h2;obtain⟨hl4,z⟩:=qFF.1 h2;have er:qJO d m pl size most nm args F=qAZ d m nm args F:=by grind[qJO]
 refine Tri.mono (c56 e hm S B) ?_;rintro _ V3 (⟨f,s3,q,-,rfl⟩|⟨f,p,r,Y,X,rfl⟩);·exact⟨_,_,rfl,λh=>absurd h f,λ_=>bad er f s3⟩
 have s3:=X.sub;obtain⟨gs,ns,ls,nd,y,L⟩:=X.ex;obtain⟨w,x⟩:=qGK f;have j:=qFe (F:=F) (qCp f).1 (qCp f).2;have W:r.st.ns.length<=4096:=by rw[Y];exact qDi f
 rw[<-Y]at w x j;rw[<-Z]at w;obtain⟨Q,P⟩:=qGR e L j;have i:∀b∈pl,0<=b/\b<=4095:=λb C=>⟨(z.rng b C).1,by have:=(z.rng b C).2;omega⟩;refine⟨_,_,rfl,λ_=>⟨nn,nn,gs,ns,qAd y 8 2 (by simp[qBI]),(c57 X).call ⟨_,_,_,_,_,rfl,qAN y 8 0 2 (by simp[qBI]),nn,nn,nn,nn,ls,qAd y 17 1 (by simp[qBI]),?_⟩⟩,λh=>absurd rfl h⟩;refine Tri.mono (c58 (size:=size) (M:=4095) (L.log.rows (row:=qFY) (λ_=>rfl) (by decide)) (H.sub s3) w i (by omega) W (by omega)) ?_;rintro _ V5 ⟨E,K,rfl,T⟩;have A:=T.op.sub;have I:=blk_tr (size:=size) (lg:=r.st.lg) (pl:=pl) r.st.lg.length (yV _);rw[uu]at I;have hnl:qAu r.st.lg<=16000000:=by
  grind[qAu]
 have tr:=T.ot.rows (row:=qAe) (λ_=>rfl) (by decide);obtain⟨k,rfl⟩:∃k:Nat,most=(k:Int):=⟨most.toNat,by omega⟩;refine⟨K,E,rfl,Tri.mono (c59 (k:=k) tr (U.sub (s3.trans A)) (by omega) (by grind) (by omega)) ?_⟩;rintro _ V6 ⟨o,u,rfl,hu⟩;refine⟨_,u,rfl,?_⟩;rw[J];exact⟨s3.trans (A.trans o),.inr ⟨er.trans f,r,⟨gs,r.st.g,ns,nd⟩,E,K,u,Y,Q.sub (A.trans o),P,(T.op.rows (row:=qAe) (λ_=>rfl) (by decide)).sub o,tr.sub o,hu,rfl⟩⟩
end
theorem qAw.plain{d:Ds}{x y:Mm}(G:qAw d x)(h:x.plain=y.plain):qAw d y:=⟨G.valid,G.chk,qEu h G.mem⟩
section
variable{V:Mem}{d:Ds}{m:Mm}{nm:KB}{args pl:List Int}{l ps:Sl}{size most:Int}
theorem exr_start{F:Int}(h:qJO d m pl size most nm args F=0):qAZ d m nm args F.toNat=0:=by
 grind[qJO,exE,plB,absurd]
theorem c60{x y:Mm}(k:Ds.Ok V d)(G:qAw d x)(f:Mm.Ok V x)(u:Mm.Ok V y)(h:x.plain=y.plain):PP 60 [d.v,x.v,y.v] V (.bool true):=by
 refine Pur.mk (x60 ?_);have g:=G.plain h;refine Tri.mono (c96 G k f) ?_;rintro _ V1 ⟨s1,a,rfl,w,z⟩;refine⟨_,_,rfl,Tri.mono (c96 g (k.sub s1) (u.sub s1)) ?_⟩;rintro _ V2 ⟨s2,b,rfl,j,i⟩;have e:a.plain=b.plain:=by rw[canP_of G.mem z,canP_of g.mem i,canP_plain h]
 refine⟨_,_,rfl,(c95 (w.sub s2) j).call ⟨_,rfl,?_⟩⟩;rw[decide_eq_true e];exact⟨rfl,s1.trans s2⟩
theorem c23{x y:Mm}(g:Ds.Ok V d)(G:qAw d x)(k:Mm.Ok V x)(f:Mm.Ok V y)(h:x.plain=y.plain):PP 23 [d.v,x.v,y.v] V (.bool true):=by
 refine Pur.mk (x23 ?_);have hn:=(qAh G.mem).2.1;have hl:=k.nodes.n_eq;refine⟨λ_=>(c15 g k).call ⟨_,rfl,λ_=>(c60 g G k f h).call ⟨_,rfl,rfl,Mem.sub.refl _⟩,λhv=>absurd G.mem hv⟩,λu=>absurd (by omega) u⟩
theorem c22:PP 22 [.agg #[qAx.v,qAx.v]] V (.bool true):=by
 refine x22 ?_;exact⟨λ_=>⟨rfl,rfl⟩,λh=>absurd rfl h⟩
end
end Go.Proofs
