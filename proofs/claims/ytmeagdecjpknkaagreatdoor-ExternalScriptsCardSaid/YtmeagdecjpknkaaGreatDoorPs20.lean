/- Part 20: no statement of the seat is proved here. -/
import Derived.Test.YtmeagdecjpknkaaGreatDoorPs19
import Derived.Test.YtmeagdecjpknkaaGreatDoorPs17
import Derived.Test.YtmeagdecjpknkaaGreatDoorPs16
import Derived.Test.YtmeagdecjpknkaaGreatDoorPs18
import Derived.Test.YtmeagdecjpknkaaGreatDoorPs12
set_option linter.unusedVariables false
set_option linter.unusedSimpArgs false
open List renaming nodup_nil->vp,mem_iff_getElem?->xg,getElem?_eq_some_iff->yv,getElem?_eq_getElem->yu,nodup_cons->yU,mem_of_getElem?->xp,length_cons->zy,mem_cons->yD,getElem?_cons_succ->xQ,length_append->zw,length_singleton->xe,drop_of_length_le->vo,append_nil->vn,mem_of_mem_take->vm,nodup_append->vk,length_set->xf,length_map->x7,getElem?_zip_eq_some->vh,take_add_one->w8,take_of_length_le->wx,length_zip->vg,mem_append_left->vf,mem_cons_of_mem->zb,mem_cons_self->zc,filter_cons->z7,mem_map->ve,mem_append->xd,mem_singleton->zO,getElem?_map->y3,findIdx?_append->vd,findIdx?_eq_none_iff->vc,foldl_append->vb,foldl_cons->uC,foldl_nil->uE,getElem?_append_left->wB
open Go.Value renaming int->xa
open Nat renaming mul_one->vj,le_refl->yV,strongRecOn->yS
open Go.Proofs.Tryz renaming prog->xE,underlying3->wi,underlying132->uF
open Bool renaming not_eq_true'->zU,and_eq_true->zC
open Int renaming toNat_of_nonneg->uG
open Go.Result renaming andThen_ok->zL
open And renaming intro->xS
namespace Go.Proofs
structure CaI (k:Nat)(c B N P:List Int)(L:List Nat)(f:Int->Option Int):Prop where
 bl:B.length=L.length+1
 nl:N.length=B.length
 pl:P.length=B.length
 ring:chain N P 0 L
 nd:L.Nodup
 rng:∀s∈L,1<=s/\s<B.length
 cl:c.length=L.length
 at_:∀(i:Nat)(s:Nat)(b:Int),L[i]?=some s->c[i]?=some b->B[s]?=some b/\f b=some (s:Int)
 cn:c.Nodup
 no:∀b,b∉c->f b=none
 cap:c.length<=k
section
variable{k:Nat}{c B N P:List Int}{L:List Nat}{f:Int->Option Int}{b:Int}
theorem CaI.new(h:1<=k):CaI k [] [-1] [0] [0] [] λ_=>none:=⟨rfl,rfl,rfl,⟨rfl,rfl⟩,vp,by simp,rfl,by simp,vp,λ_ _=>rfl,by simp⟩
theorem CaI.hit(h:CaI k c B N P L f)(w:b∈c):∃(i s:Nat),c[i]?=some b/\L[i]?=some s/\f b=some (s:Int):=by
 obtain⟨i,g⟩:=xg.1 w;have z:=(yv.1 g).1;have u:=yu (l:=L) (i:=i) (by rw[<-h.cl];exact z);exact⟨i,_,g,u,(h.at_ i _ b u g).2⟩
theorem CaI.dec(h:CaI k c B N P L f):(f b).isSome=decide (b∈c):=by
 by_cases g:b∈c
 ·obtain⟨i,s,-,-,e⟩:=h.hit g;simp_all
 ·rw[h.no b g,decide_eq_false g];rfl
theorem qGE{α:Type}{l:List α}{i:Nat}{x:α}(h:l[i]?=some x):l=l.take i++x::l.drop (i+1):=by
 obtain⟨g,rfl⟩:=yv.1 h;simp_all
theorem CaI.zero(h:CaI k c B N P L f):0∉L/\(0::L).Nodup:=by
 have h0:0∉L:=λg=>by have:=h.rng 0 g;omega
 exact⟨h0,yU.2 ⟨h0,h.nd⟩⟩
theorem CaI.head(h:CaI k c B N P L f):∃n:Nat,N[0]?=some (n:Int)/\n<B.length:=by
 have g:=h.ring;cases u:L with
 |nil=>rw[u]at g;exact⟨0,g.1,by rw[h.bl];omega⟩
 |cons s w=>
  rw[u]at g;exact⟨s,g.1,(h.rng s (by rw[u];simp)).2⟩
theorem CaI.around(h:CaI k c B N P L f){i s:Nat}(l:L[i]?=some s):∃p n:Nat,P[s]?=some (p:Int)/\N[s]?=some (n:Int)/\p<B.length/\n<B.length/\chain (N.set p n) (P.set n p) 0 (L.take i++L.drop (i+1)):=by
 have e:=qGE l;have g:=h.ring;obtain⟨h0,h1⟩:=h.zero;rw[e]at g h0 h1;obtain⟨p,n,w,z,v,H⟩:=qMe g;have r:p∈0::L.take i:=by grind
 have q:n∈L.drop (i+1)++[0]:=by grind
 have lt:∀x,x∈L∨x=0->x<B.length:=λx u=>by
  rcases u with u|rfl;·exact(h.rng x u).2
  ·rw[h.bl];omega
 refine⟨p,n,w,z,lt p ?_,lt n ?_,chain_cut g h1 h0 w z⟩;·grind
 grind
theorem erase_at{c:List Int}(h:c.Nodup){i:Nat}(hi:c[i]?=some b):c.erase b=c.take i++c.drop (i+1):=by
 have e:=qGE hi;grind
theorem get_cut{α:Type}{l:List α}{i j:Nat}(hi:i<l.length):(l.take i++l.drop (i+1))[j]?=if j<i then l[j]? else l[j+1]?:=by
 grind
theorem CaI.touch(h:CaI k c B N P L f){i s p n q:Nat}(v:c[i]?=some b)(l:L[i]?=some s)(Y:chain (N.set p n) (P.set n p) 0 (L.take i++L.drop (i+1)))(h0:(N.set p n)[0]?=some (q:Int)):
  CaI k (b::c.erase b) B (((N.set p n).set s q).set 0 s) (((P.set n p).set s 0).set q s) (s::(L.take i++L.drop (i+1))) f:=by
 have H:=(yv.1 l).1;have J:=xp l;have G:=h.rng s J;have e:=qGE l;obtain⟨z0,A⟩:=h.zero;have Z:=h.nd;rw[e]at Z z0 A;have I:=h.cl;have M:=erase_at h.cn v;have w:∀x∈L.take i++L.drop (i+1),x∈L:=λx r=>by
  grind
 have nd2:(s::(L.take i++L.drop (i+1))).Nodup:=by grind
 have len2:(L.take i++L.drop (i+1)).length+1=L.length:=by grind
 refine⟨by rw[zy,len2];exact h.bl,by simp[h.nl],by simp[h.pl],qGr Y (by grind) (by grind) h0 (by simp[h.nl];omega) (by simp[h.pl];omega),nd2,λx r=>?_,?_,λj t y z g=>?_,?_,λy g=>h.no y λR=>g ?_,?_⟩
 ·rcases yD.1 r with rfl|r;·exact G
  ·exact h.rng x (w x r)
 ·grind
 ·cases j with
  |zero=>cases z;cases g;exact h.at_ i s b l v
  |succ j=>
   rw[xQ,get_cut H]at z;rw[xQ,M,get_cut (by omega)]at g;split at z;·rename_i u;rw[if_pos u]at g;exact h.at_ j t y z g
   ·rename_i u;rw[if_neg u]at g;exact h.at_ _ t y z g
 ·exact nodup_mtf h.cn
 ·grind
 ·have:=mtf_len_mem (xp v);unfold mtf at this;rw[this];exact h.cap
theorem CaI.room(h:CaI k c B N P L f)(l:b∉c)(v:c.length<k){q:Nat}(h0:(N++[0])[0]?=some (q:Int)):
  CaI k (b::c) (B++[b]) (((N++[0]).set B.length q).set 0 (B.length:Nat)) (((P++[0]).set B.length 0).set q (B.length:Nat)) (B.length::L) (λx=>if x=b then some (B.length:Int)else f x):=by
 obtain⟨z0,r⟩:=h.zero;have w:=h.bl;have u:B.length∉0::L:=λhm=>by
  rcases yD.1 hm with e|e;·omega
  ·have:=h.rng _ e;omega
 refine⟨by simp[w],by simp[h.nl],by simp[h.pl],qGr (chain_app h.ring) u r h0 (by simp[h.nl]) (by simp[h.pl]),yU.2 ⟨λh=>u (by simp[h]),h.nd⟩,λx u=>?_,by simp[h.cl],λj t y z g=>?_,yU.2 ⟨l,h.cn⟩,λy g=>?_,by grind⟩
 ·rw[zw,xe];rcases yD.1 u with rfl|u;·omega
  ·have:=h.rng x u;omega
 ·cases j with
  |zero=>
   simp_all
  |succ j=>
   rw[xQ]at z g;obtain⟨H,J⟩:=h.at_ j t y z g;grind
 ·have g:¬(y=b∨y∈c):=by simpa using g
  rw[not_or]at g;show(if y=b then _ else f y)=none;rw[if_neg g.1];exact h.no y g.2
theorem CaI.full(h:CaI k c B N P L f)(E:b∉c)(hk:1<=k)(hf:c.length=k):∃(s p n:Nat)(o:Int),P[0]?=some (s:Int)/\1<=s/\s<B.length/\B[s]?=some o/\P[s]?=some (p:Int)/\N[s]?=some (n:Int)/\p<B.length/\n<B.length/\∀q:Nat,(N.set p n)[0]?=some (q:Int)->
  CaI k (b::c.take (k-1)) (B.set s b) (((N.set p n).set s q).set 0 s) (((P.set n p).set s 0).set q s) (s::L.take (k-1)) (λx=>if x=b then some (s:Int)else if x=o then none else f x):=by
 have T:=h.cl;have U:k-1<L.length:=by omega
 have r:=yu U;obtain⟨s,Z⟩:∃s,s=L[k-1]:=⟨_,rfl⟩;rw[<-Z]at r;have Y:=yu (l:=c) (i:=k-1) (by omega);obtain⟨o,A⟩:∃o,o=c[k-1]'(by omega):=⟨_,rfl⟩;rw[<-A]at Y;obtain⟨p,n,k1,k2,k3,k4,k5⟩:=h.around r;rw[vo (by omega),vn]at k5;have I:=xp r;have u:=h.rng s I;obtain⟨b1,b2⟩:=h.at_ _ s o r Y;obtain⟨z0,z1⟩:=h.zero;have e:=qGE r;rw[vo (by omega)]at e;have K:=qGE Y;rw[vo (by omega)]at K;have v:=qLc h.ring;have w:(0::L).getLast (by simp)=s:=by
  grind
 rw[w]at v;have H:=h.nd;rw[e]at H;have J:=h.cn;rw[K]at J;have M:s∉L.take (k-1):=λhm=>by
  grind
 have R:o∉c.take (k-1):=λhm=>by
  grind
 have G:b∉c.take (k-1):=λhm=>E (vm hm);have hob:o≠b:=λe=>E (by grind);refine⟨s,p,n,o,v,u.1,u.2,b1,k1,k2,k3,k4,λq hq=>⟨?_,by simp[h.nl],by simp[h.pl],?_,yU.2 ⟨M,(vk.1 H).1⟩,λx X=>?_,?_,λj t y z g=>?_,yU.2 ⟨G,(vk.1 J).1⟩,λy g=>?_,?_⟩⟩;·rw[xf,zy,List.length_take];have:=h.bl;omega
 ·grind[qGr,yU,vm,vk]
 ·rw[xf];rcases yD.1 X with rfl|X;·exact u
  ·exact h.rng x (vm X)
 ·grind
 ·cases j with
  |zero=>
   grind
  |succ j=>
   rw[xQ]at z g;have ht:=xp z;have hyc:=xp g;rw[List.getElem?_take]at z g;split at z
   ·rename_i C;rw[if_pos C]at g;obtain⟨r1,r2⟩:=h.at_ j t y z g;refine⟨?_,?_⟩;·grind
    ·rw[if_neg λe=>G (by grind),if_neg λe=>R (by grind)];exact r2
   ·cases z
 ·have g:¬(y=b∨y∈c.take (k-1)):=by simpa using g
  rw[not_or]at g;show(if y=b then _ else if y=o then none else f y)=none;rw[if_neg g.1];split;·rfl
  ·rename_i ho;refine h.no y λhm=>?_;grind
 grind
end
end Go.Proofs
namespace Go.Proofs
open Go Go.Sx
attribute [local irreducible] Go.Sx.Tri
theorem tri_frame{P:Program}{f:FuncId}{args:Array Value}{U:Mem}{M:Nat->Prop}{R:Ending->Mem->Prop}(q:∀b,M b->U b≠none)(h:Tri P f args (Mem.minus U M) R):
  Tri P f args U λe V2=>∃V',R e V'/\V'.sub V2/\(∀b o,M b->U b=some o->V2 b=some o)/\∀b,M b->V' b=none:=by
 unfold Tri at h⊢;intro w hw;have z:∀b,M b->b<w.heap.size:=λb g=>by
  cases hu:U b with
  |none=>simp_all
  |some o=>exact(Array.getElem?_eq_some_iff.1 (hw b o hu)).1
 intro cs;obtain⟨e,w',fr,⟨V',r,u⟩,rest⟩:=h w (λb o g=>hw b o (qCh b o g)) cs;have l:∀b,M b->V' b=none:=λb g=>by
  cases hv:V' b with
  |none=>rfl
  |some o=>
   rcases u.dom b (by rw[hv];simp)with h1|h1
   ·exact absurd (qBC g) h1
   grind
 classical
 refine⟨e,w',fr,⟨λb=>if M b then U b else V' b,⟨V',r,λb o g=>?_,λb o hm g=>?_,l⟩,⟨u.size,λb o g=>?_,λb g hu=>?_,λb g=>?_,u.os,u.out⟩⟩,rest⟩;·grind
 ·simp_all
 ·have g:(if M b then U b else V' b)=some o:=g;by_cases hm:M b
  ·rw[if_pos hm]at g;rw[u.old b (z b hm) (qBC hm)];exact hw b o g
  ·rw[if_neg hm]at g;exact u.le b o g
 ·refine u.old b g ?_;grind[qBC,qBe]
 ·have g:(if M b then U b else V' b)≠none:=g;by_cases hm:M b;·simp_all
  ·rw[if_neg hm]at g;rcases u.dom b g with h1|h1;·grind[qBe]
   ·exact .inr h1
def Owns(Q:Mem->Mem->Prop)(M:Nat->Prop)(V:Mem):Prop:=(∀b,M b->V b≠none)/\∀V',(∀b o,M b->V b=some o->V' b=some o)->Q (Mem.minus V' M) V'
def qLg(Q:Mem->Mem->Prop):Prop:=∀W V,Q W V->∃M,(∀b,M b->W b=none)/\Owns Q M V
def qBu(D V:Mem)(Q:Mem->Mem->Prop):Prop:=∃M,Owns Q M V/\D.sub V/\∀b,D b≠none->¬M b
section
variable{D D' V V' W:Mem}{Q:Mem->Mem->Prop}
theorem Owns.keep{M:Nat->Prop}(h:Owns Q M V)(u:∀b o,M b->V b=some o->V' b=some o):Owns Q M V':=⟨λb g=>by
 cases hv:V b with
 |none=>exact absurd hv (h.1 b g)
 |some o=>simp_all,λV2 h2=>h.2 V2 λb o g hv=>h2 b o g (u b o g hv)⟩
theorem qBu.sub(h:qBu D V Q):D.sub V:=by obtain⟨M,-,h,-⟩:=h;exact h
theorem qBu.new(u:qLg Q)(S:Q W V)(w:W.sub V)(h:D.sub W):qBu D V Q:=by
 obtain⟨M,h1,h2⟩:=u W V S;refine⟨M,h2,h.trans w,λb z hm=>?_⟩;cases g:D b with
 |none=>exact z g
 |some o=>
  have:=h _ _ g;simp_all
theorem qBu.use(h:qBu D V Q):∃W,D.sub W/\W.sub V/\Q W V:=by
 obtain⟨M,f,u,w⟩:=h;exact⟨Mem.minus V M,λb o g=>by
  rw[qBe (w b (by rw[g];simp))];exact u _ _ g,qCh,f.2 V λ_ _ _ h=>h⟩
theorem qBu.run{P:Program}{f:FuncId}{args:Array Value}{R:Ending->Mem->Prop}(h:qBu D V Q)(H:∀U,D.sub U->Tri P f args U λe g=>U.sub g/\R e g):
  Tri P f args V λe V'=>∃D',D.sub D'/\R e D'/\qBu D' V' Q:=by
 obtain⟨M,f,z,l⟩:=h;have u:D.sub (Mem.minus V M):=λb o w=>by
  rw[qBe (l b (by rw[w];simp))];exact z _ _ w
 refine Tri.mono (tri_frame f.1 (H _ u)) ?_;rintro e V2 ⟨r,⟨h1,h2⟩,q,v,J⟩;exact⟨r,u.trans h1,h2,M,f.keep λb o hm hv=>v b o hm hv,q,λb hv hm=>hv (J b hm)⟩
end
structure Sl3 where
 b:Sl
 n:Sl
 p:Sl
def crow(k n:Int)(mb:Nat)(F:Sl3):List Value:=[.int .i64 k,.int .i64 n,.map (some mb),F.b.v,F.n.v,F.p.v]
theorem qEE(l:List Int)(i:Nat)(x:Int):(l.flatMap qAe).set i (.int .i64 x)=(l.set i x).flatMap qAe:=by rw[qAR,qAR,List.map_set]
theorem qEF(l:List Int):(l.flatMap qAe).length=l.length:=by rw[qAR,x7]
structure CaL (V0 V:Mem)(p:Nat)(k n:Int)(mb:Nat)(F S:Sl3)(B N P:List Int)(f:Int->Option Int):Prop where
 at_:V p=some (.cells (crow k n mb F).toArray 134 (0,0))
 mp:qGv (xa .i64) V mb λb=>(f b).map (xa .i64)
 p0:V0 p=none
 m0:V0 mb=none
 bo:Sx.Own V0 V 3 1 S.b (B.flatMap qAe)
 no:Sx.Own V0 V 3 1 S.n (N.flatMap qAe)
 po:Sx.Own V0 V 3 1 S.p (P.flatMap qAe)
 bn:∀c,Blk S.b c->¬Blk S.n c
 bp:∀c,Blk S.b c->¬Blk S.p c
 np:∀c,Blk S.n c->¬Blk S.p c
section
variable{V0 V V':Mem}{p mb:Nat}{k n:Int}{F S:Sl3}{B N P:List Int}{f:Int->Option Int}
theorem CaL.pm(h:CaL V0 V p k n mb F S B N P f):p≠mb:=λe=>by
 obtain⟨es,c,h1,-⟩:=h.mp.at_;rw[<-e,h.at_]at h1;cases h1
theorem CaL.nB(h:CaL V0 V p k n mb F S B N P f):(¬Blk S.b p/\¬Blk S.n p/\¬Blk S.p p)/\(¬Blk S.b mb/\¬Blk S.n mb/\¬Blk S.p mb):=by
 have g:∀{s:Sl}{vs:List Value},Sx.Own V0 V 3 1 s vs->¬Blk s p/\¬Blk s mb:=λ{s vs} o=>by
  refine⟨λu=>?_,λu=>?_⟩
  ·obtain⟨w,z⟩:=Own.some o u;rw[h.at_]at z;simp_all
  ·obtain⟨w,z⟩:=Own.some o u;obtain⟨es,c,h1,-⟩:=h.mp.at_;simp_all
 exact⟨⟨(g h.bo).1,(g h.no).1,(g h.po).1⟩,(g h.bo).2,(g h.no).2,(g h.po).2⟩
theorem CaL.sub(h:CaL V0 V p k n mb F S B N P f):V0.sub V:=h.bo.sub
theorem CaL.cell(h:CaL V0 V p k n mb F S B N P f)(i m:Nat)(hi:i+m<=6):V.rowp (sa p) i m=some (((crow k n mb F).drop i).take m):=qAd h.at_ i m hi
theorem qFj{W u:Mem}{b:Nat}{g:Int->Option Value}(h:qGv (xa .i64) W b g)(w:u b=W b):qGv (xa .i64) u b g:=by
 obtain⟨es,c,h1,h2⟩:=h.at_;exact⟨es,c,by grind,h2⟩
theorem CaL.setN(h:CaL V0 V p k n mb F S B N P f){i:Nat}(hi:i<N.length){x:Int}{q:Mem->Prop}(e:∀V',CaL V0 V' p k n mb F S B (N.set i x) P f->q V'):StT (qAa S.n.p (i*1)) 0 [.int .i64 x] V q:=by
 rw[vj];obtain⟨⟨b1,b2,b3⟩,J,v,G⟩:=h.nB;refine Own.store h.no (by rw[qEF];exact hi) λV' u w=>e V' ?_;rw[qEE]at u;exact⟨by rw[w p b2];exact h.at_,qFj h.mp (w mb v),h.p0,h.m0,Own.moveB h.bo u.sub λg z l r=>by rw[w g (h.bn g l)];exact r,u,Own.moveB h.po u.sub λg z l r=>by rw[w g λH=>h.np g H l];exact r,h.bn,h.bp,h.np⟩
theorem CaL.setP(h:CaL V0 V p k n mb F S B N P f){i:Nat}(hi:i<P.length){x:Int}{q:Mem->Prop}(e:∀V',CaL V0 V' p k n mb F S B N (P.set i x) f->q V'):StT (qAa S.p.p (i*1)) 0 [.int .i64 x] V q:=by
 rw[vj];obtain⟨⟨b1,b2,b3⟩,H,J,v⟩:=h.nB;refine Own.store h.po (by rw[qEF];exact hi) λV' u w=>e V' ?_;rw[qEE]at u;exact⟨by rw[w p b3];exact h.at_,qFj h.mp (w mb v),h.p0,h.m0,Own.moveB h.bo u.sub λg z l r=>by rw[w g (h.bp g l)];exact r,Own.moveB h.no u.sub λg z l r=>by rw[w g (h.np g l)];exact r,u,h.bn,h.bp,h.np⟩
theorem CaL.setB(h:CaL V0 V p k n mb F S B N P f){i:Nat}(hi:i<B.length){x:Int}{q:Mem->Prop}(v:∀V',CaL V0 V' p k n mb F S (B.set i x) N P f->q V'):StT (qAa S.b.p (i*1)) 0 [.int .i64 x] V q:=by
 rw[vj];obtain⟨⟨b1,b2,b3⟩,H,J,G⟩:=h.nB;refine Own.store h.bo (by rw[qEF];exact hi) λV' u w=>v V' ?_;rw[qEE]at u;exact⟨by rw[w p b1];exact h.at_,qFj h.mp (w mb H),h.p0,h.m0,u,Own.moveB h.no u.sub λg z l r=>by rw[w g λe=>h.bn g e l];exact r,Own.moveB h.po u.sub λg z l r=>by rw[w g λe=>h.bp g e l];exact r,h.bn,h.bp,h.np⟩
theorem CaL.put(h:CaL V0 V p k n mb F S B N P f)(g:Int):CaL V0 (V.set p (.cells (crow k g mb F).toArray 134 (0,0))) p k g mb F S B N P f:=by
 obtain⟨⟨b1,b2,b3⟩,-⟩:=h.nB;exact⟨Mem.set_same _ _ _,qFj h.mp (Zm h.pm.symm),h.p0,h.m0,h.bo.put b1 h.p0 _,h.no.put b2 h.p0 _,h.po.put b3 h.p0 _,h.bn,h.bp,h.np⟩
theorem CaL.map(h:CaL V0 V p k n mb F S B N P f){o:Obj}{g:Int->Option Int}(hm:qGv (xa .i64) (V.set mb o) mb λb=>(g b).map (xa .i64)):CaL V0 (V.set mb o) p k n mb F S B N P g:=by
 obtain⟨-,u,w,z⟩:=h.nB;exact⟨by rw[Zm h.pm];exact h.at_,hm,h.p0,h.m0,h.bo.put u h.m0 _,h.no.put w h.m0 _,h.po.put z h.m0 _,h.bn,h.bp,h.np⟩
theorem qEw{W V V1:Mem}{s s':Sl}{xs:List Value}(o:Sx.Own W V 3 1 s xs){ys:List Value}(h:Sx.Own (V.but s) V1 3 1 s' ys):Sx.Own W V1 3 1 s' ys/\(∀c,¬Blk s c->V c≠none->V1 c=V c)/\∀c,Blk s' c->Blk s c∨V c=none:=by
 refine⟨h.narrow o.sub_but,λc g hv=>?_,λc g=>?_⟩
 ·cases e:V c with
  |none=>grind
  |some x=>exact h.sub _ _ (Mem.but_at e g)
 ·have h0:=Own.none0 h g;by_cases u:Blk s c;·exact .inl u
  ·right;cases hv:V c with
   |none=>rfl
   |some o=>grind[Mem.but_at]
theorem CaL.pushB(h:CaL V0 V p k n mb F S B N P f){V1:Mem}{s':Sl}{x:Int}(o:Sx.Own (V.but S.b) V1 3 1 s' ((B++[x]).flatMap qAe)):CaL V0 V1 p k n mb F ⟨s',S.n,S.p⟩ (B++[x]) N P f:=by
 obtain⟨⟨b1,b2,b3⟩,v,Z,Y⟩:=h.nB;obtain⟨z,l,H⟩:=qEw h.bo o;have some:∀{s:Sl}{vs:List Value},Sx.Own V0 V 3 1 s vs->∀c,Blk s c->V c≠none:=λ{s vs} o c w=>by grind[Own.some]
 have r:∀{s:Sl}{vs:List Value},Sx.Own V0 V 3 1 s vs->(∀c,Blk S.b c->¬Blk s c)->Sx.Own V0 V1 3 1 s vs:=λ{s vs} o q=>Own.moveB o z.sub λg J A w=>by grind
 have u:∀{s:Sl}{vs:List Value},Sx.Own V0 V 3 1 s vs->(∀c,Blk S.b c->¬Blk s c)->∀c,Blk s' c->¬Blk s c:=λ{s vs} o q c w e=>(H c w).elim (λG=>q c G e) (some o c e);have em:V mb≠none:=by obtain⟨es,c,h1,-⟩:=h.mp.at_;rw[h1];simp
 exact⟨by rw[l p b1 (by rw[h.at_];simp)];exact h.at_,qFj h.mp (l mb v em),h.p0,h.m0,z,r h.no h.bn,r h.po h.bp,u h.no h.bn,u h.po h.bp,h.np⟩
theorem CaL.pushN(h:CaL V0 V p k n mb F S B N P f){V1:Mem}{s':Sl}{x:Int}(o:Sx.Own (V.but S.n) V1 3 1 s' ((N++[x]).flatMap qAe)):CaL V0 V1 p k n mb F ⟨S.b,s',S.p⟩ B (N++[x]) P f:=by
 obtain⟨⟨b1,b2,b3⟩,Z,v,Y⟩:=h.nB;obtain⟨z,l,H⟩:=qEw h.no o;have some:∀{s:Sl}{vs:List Value},Sx.Own V0 V 3 1 s vs->∀c,Blk s c->V c≠none:=λ{s vs} o c w=>by grind[Own.some]
 have r:∀{s:Sl}{vs:List Value},Sx.Own V0 V 3 1 s vs->(∀c,Blk S.n c->¬Blk s c)->Sx.Own V0 V1 3 1 s vs:=λ{s vs} o q=>Own.moveB o z.sub λg J A w=>by grind
 have u:∀{s:Sl}{vs:List Value},Sx.Own V0 V 3 1 s vs->(∀c,Blk S.n c->¬Blk s c)->∀c,Blk s' c->¬Blk s c:=λ{s vs} o q c w e=>(H c w).elim (λG=>q c G e) (some o c e);have em:V mb≠none:=by obtain⟨es,c,h1,-⟩:=h.mp.at_;rw[h1];simp
 have nb:∀c,Blk S.n c->¬Blk S.b c:=λc h1 h2=>h.bn c h2 h1;exact⟨by rw[l p b2 (by rw[h.at_];simp)];exact h.at_,qFj h.mp (l mb v em),h.p0,h.m0,r h.bo nb,z,r h.po h.np,λc h1 h2=>u h.bo nb c h2 h1,h.bp,u h.po h.np⟩
theorem CaL.pushP(h:CaL V0 V p k n mb F S B N P f){V1:Mem}{s':Sl}{x:Int}(o:Sx.Own (V.but S.p) V1 3 1 s' ((P++[x]).flatMap qAe)):CaL V0 V1 p k n mb F ⟨S.b,S.n,s'⟩ B N (P++[x]) f:=by
 obtain⟨⟨b1,b2,b3⟩,A,I,J⟩:=h.nB;obtain⟨z,l,G⟩:=qEw h.po o;have some:∀{s:Sl}{vs:List Value},Sx.Own V0 V 3 1 s vs->∀c,Blk s c->V c≠none:=λ{s vs} o c w=>by grind[Own.some]
 have r:∀{s:Sl}{vs:List Value},Sx.Own V0 V 3 1 s vs->(∀c,Blk S.p c->¬Blk s c)->Sx.Own V0 V1 3 1 s vs:=λ{s vs} o q=>Own.moveB o z.sub λg Z M w=>by grind
 have u:∀{s:Sl}{vs:List Value},Sx.Own V0 V 3 1 s vs->(∀c,Blk S.p c->¬Blk s c)->∀c,Blk s' c->¬Blk s c:=λ{s vs} o q c w e=>(G c w).elim (λY=>q c Y e) (some o c e);have em:V mb≠none:=by obtain⟨es,c,h1,-⟩:=h.mp.at_;rw[h1];simp
 have v:∀c,Blk S.p c->¬Blk S.b c:=λc h1 h2=>h.bp c h2 h1;have H:∀c,Blk S.p c->¬Blk S.n c:=λc h1 h2=>h.np c h2 h1;exact⟨by rw[l p b3 (by rw[h.at_];simp)];exact h.at_,qFj h.mp (l mb J em),h.p0,h.m0,r h.bo v,r h.no H,z,h.bn,λc h1 h2=>u h.bo v c h2 h1,λc h1 h2=>u h.no H c h2 h1⟩
theorem CaL.fields(h:CaL V0 V p k n mb F S B N P f)(G:Sl3):CaL V0 (V.set p (.cells (crow k n mb G).toArray 134 (0,0))) p k n mb G S B N P f:=by
 obtain⟨⟨b1,b2,b3⟩,-⟩:=h.nB;exact⟨Mem.set_same _ _ _,qFj h.mp (Zm h.pm.symm),h.p0,h.m0,h.bo.put b1 h.p0 _,h.no.put b2 h.p0 _,h.po.put b3 h.p0 _,h.bn,h.bp,h.np⟩
theorem CaL.frame(h:CaL V0 V p k n mb F S B N P f):∃M,(∀b,M b->V0 b=none)/\Owns (λW V=>CaL W V p k n mb F S B N P f) M V:=by
 have own:∀{s:Sl}{vs:List Value},Sx.Own V0 V 3 1 s vs->∀c,Blk s c->V c≠none/\V0 c=none:=λ{s vs} o c u=>⟨by grind[Own.some],Own.none0 o u⟩;have em:V mb≠none:=by obtain⟨es,c,h1,-⟩:=h.mp.at_;rw[h1];simp
 obtain⟨M,e⟩:∃M:Nat->Prop,M=λc=>c=p∨c=mb∨Blk S.b c∨Blk S.n c∨Blk S.p c:=⟨_,rfl⟩;have w:∀c,M c->V c≠none/\V0 c=none:=λc u=>by
  rw[e]at u;rcases u with rfl|rfl|h1|h1|h1;·exact⟨by rw[h.at_];simp,h.p0⟩
  ·exact⟨em,h.m0⟩
  ·exact own h.bo c h1
  ·exact own h.no c h1
  ·exact own h.po c h1
 refine⟨M,λb z=>(w b z).2,λb z=>(w b z).1,λV' l=>?_⟩;have r:∀{s:Sl}{vs:List Value},(∀c,Blk s c->M c)->Sx.Own V0 V 3 1 s vs->Sx.Own (Mem.minus V' M) V' 3 1 s vs:=λ{s vs} hm h=>⟨qCh,h.len,by
  rcases h.cases0 with h1|⟨u,g,cur,h1,h2,h3,h4⟩;·exact .inl h1
  ·exact .inr ⟨g,cur,h1,qBC (hm g ⟨u,h1⟩),l _ _ (hm g ⟨u,h1⟩) h3,h4⟩⟩
 have q:M p:=by simp_all
 have hm:M mb:=by simp_all
 refine⟨l _ _ q h.at_,?_,qBC q,qBC hm,r (λc u=>by grind) h.bo,r (λc u=>by grind) h.no,r (λc u=>by grind) h.po,h.bn,h.bp,h.np⟩;obtain⟨es,c,h1,h2⟩:=h.mp.at_;exact⟨es,c,l _ _ hm h1,h2⟩
def qKg(p:Nat)(k:Nat)(c:List Int)(n:Nat)(V0 V:Mem):Prop:=∃mb S B N P L f,CaL V0 V p k n mb S S B N P f/\CaI k c B N P L f
theorem qKg.framed{c:List Int}{k n:Nat}:qLg (qKg p k c n):=λW V ⟨mb,S,B,N,P,L,f,h,g⟩=>by
 obtain⟨M,h1,h2,h3⟩:=h.frame;exact⟨M,h1,h2,λV' u=>⟨mb,S,B,N,P,L,f,h3 V' u,g⟩⟩
end
end Go.Proofs
namespace Go.Proofs
def tch(k:Nat)(c:List Int)(b:Int):List Int:=if b∈c then b::c.erase b else b::c.take (k-1)
def qKk(k:Nat)(c l:List Int):List Int:=l.foldl (tch k) c
def qIG(k:Nat):List Int->List Int->Nat
 |_,[]=>0
 |c,b::l=>(if b∈c then 0 else 1)+qIG k (tch k c b) l
theorem qJs(k:Nat):∀(l c:List Int)(b:Int),qIG k c (l++[b])=qIG k c l+if b∈qKk k c l then 0 else 1
 |[],c,b=>by
  simp only[List.nil_append,qIG,Nat.add_zero,Nat.zero_add];rfl
 |x::l,c,b=>by
  rw[List.cons_append,qIG,qIG,qJs k l (tch k c x) b,Nat.add_assoc];rfl
theorem tchL_snoc(k:Nat)(c l:List Int)(b:Int):qKk k c (l++[b])=tch k (qKk k c l) b:=by grind[qKk]
theorem tch_len{k:Nat}(g:0<k){c:List Int}(h:c.length<=k)(b:Int):(tch k c b).length<=k:=by
 grind[tch,mtf]
theorem qJt(k:Nat):∀l c:List Int,qIG k c l<=l.length
 |[],_=>yV _
 |b::l,c=>by
  rw[qIG,zy];have:=qJt k l (tch k c b);split<;>omega
end Go.Proofs
namespace Go.Proofs
open Go Go.Sx
attribute [local irreducible] Go.Sx.Tri
section
variable{V0 V:Mem}{p mb:Nat}{k n:Int}{S:Sl3}{B N P:List Int}{f:Int->Option Int}
theorem qCy{s:Sl}{xs:List Int}(h:qAc V s 1 (xs.map qAe)){i:Nat}{x:Int}(g:xs[i]?=some x):¬s.p=none/\(0:Int)<=(i:Int)/\(i:Int)<(s.n:Int)/\V.rowp s.p (i*1) 1=some [.int .i64 x]:=by
 have w:=h.n_eq;have z:=(yv.1 g).1;obtain⟨y,-,u,-,-,h1,h2,h3⟩:=h.get (i:=i) (by omega);rw[g]at u;cases u;exact⟨h1,h2,by omega,h3⟩
theorem c99(h:CaL V0 V p k n mb S S B N P f){s a b:Nat}(q:P[s]?=some (a:Int))(v:N[s]?=some (b:Int))(H:a<N.length)(J:b<P.length):
  Tri xE 99 #[pv p,.int .i64 s] V λe V'=>e=.returned (.tuple #[])/\CaL V0 V' p k n mb S S B (N.set a b) (P.set b a) f:=by
 refine x99 ?_;obtain⟨g,u,w,z⟩:=qCy (h.no.rows (λ_=>rfl) (by decide)) v;obtain⟨p1,l,p3,r⟩:=qCy (h.po.rows (λ_=>rfl) (by decide)) q;have G:=(h.no.rows (row:=qAe) (xs:=N) (λ_=>rfl) (by decide)).n_eq;have Z:=(h.po.rows (row:=qAe) (xs:=P) (λ_=>rfl) (by decide)).n_eq;refine⟨nn,nn,_,h.cell 4 1 (by decide),nn,nn,_,h.cell 5 1 (by decide),p1,l,p3,_,r,nn,nn,_,h.cell 5 1 (by decide),nn,nn,_,h.cell 4 1 (by decide),g,u,w,_,z,nn,nn,_,h.cell 4 1 (by decide),g,u,w,_,z,nn,nn,_,h.cell 5 1 (by decide),p1,l,p3,_,r,g,by omega,by omega,h.setN H λV1 h1=>⟨p1,by omega,by omega,h1.setP J λV2 h2=>⟨rfl,h2⟩⟩⟩
theorem c100(h:CaL V0 V p k n mb S S B N P f){s q:Nat}(h0:N[0]?=some (q:Int))(w:s<N.length)(u:s<P.length)(A:q<P.length)(I:s≠0):
  Tri xE 100 #[pv p,.int .i64 s] V λe V'=>e=.returned (.tuple #[])/\CaL V0 V' p k n mb S S B ((N.set s q).set 0 s) ((P.set s 0).set q s) f:=by
 refine x100 ?_;obtain⟨g,z,l,r⟩:=qCy (h.no.rows (λ_=>rfl) (by decide)) h0;have v:=(h.no.rows (row:=qAe) (xs:=N) (λ_=>rfl) (by decide)).n_eq;have H:=(h.po.rows (row:=qAe) (xs:=P) (λ_=>rfl) (by decide)).n_eq;obtain⟨p1,-⟩:=qCy (h.po.rows (λ_=>rfl) (by decide)) (yu u);refine⟨nn,nn,_,h.cell 4 1 (by decide),nn,nn,_,h.cell 5 1 (by decide),nn,nn,_,h.cell 4 1 (by decide),g,z,l,_,r,g,by omega,by omega,h.setN w λV1 h1=>⟨p1,by omega,by omega,h1.setP u λV2 h2=>?_⟩⟩;obtain⟨J,G,Z,Y⟩:=qCy (h2.no.rows (λ_=>rfl) (by decide)) (i:=0) (x:=q) (by simp_all);refine⟨nn,nn,_,h2.cell 5 1 (by decide),nn,nn,_,h2.cell 4 1 (by decide),J,G,Z,_,Y,nn,nn,_,h2.cell 4 1 (by decide),p1,by omega,by omega,h2.setP (by simp_all) λM h3=>⟨g,by omega,by omega,h3.setN (i:=0) (by simp_all) λR h4=>⟨rfl,h4⟩⟩⟩
end
section
variable{V0 V:Mem}{p k n:Nat}{c:List Int}
theorem c90(h:qKg p k c n V0 V):PP 90 [pv p] V (.int .i64 n):=by
 obtain⟨mb,S,B,N,P,L,f,h,-⟩:=h;refine x90 ?_;exact⟨λh=>absurd h nn,λ_=>⟨nn,nn,_,h.cell 1 1 (by decide),rfl,rfl⟩⟩
theorem c53{m:Int}:Tri xE 53 #[.int .i64 m] V λe V'=>(¬(1<=m/\m<=1000)/\e=.returned (.tuple #[.pointer none,.int .i64 2])/\V'=V)∨((1<=m/\m<=1000)/\∃p,e=.returned (.tuple #[pv p,.int .i64 0])/\qKg p m.toNat [] 0 V V'):=by
 refine x53 ?_;refine⟨λh=>.inl ⟨λX=>by omega,rfl,rfl⟩,λh=>⟨λh2=>.inl ⟨λX=>by omega,rfl,rfl⟩,λh2=>?_⟩⟩;have hm:1<=m/\m<=1000:=by
  omega
 refine GenK.makeMap λmb w=>⟨some mb,rfl,λb1 h1 b2 z b3 h3 p R=>.inr ⟨hm,p,rfl,?_⟩⟩;obtain⟨k,rfl⟩:∃k:Nat,m=(k:Int):=⟨m.toNat,by omega⟩;have v:=Zn w (.map #[] 0);have H:=Zn h1 (.cells #[.int .i64 (-1)] 3 (0,0));have l:=Zn z (.cells #[.int .i64 0] 3 (0,0));have J:=Zn h3 (.cells #[.int .i64 0] 3 (0,0));have none0:∀{A U:Mem}{b:Nat},A.sub U->U b=none->A b=none:=λ{A U b} Z G=>by
  cases e:A b with
  |none=>rfl
  |some o=>rw[Z _ _ e]at G;cases G
 have one:∀{W U:Mem}{b:Nat}{x:Int},W b=none->W.sub U->U b=some (.cells #[.int .i64 x] 3 (0,0))->Sx.Own W U 3 1 ⟨some ⟨b,0,none⟩,1,1⟩ ([x].flatMap qAe):=λ{W U b x} h0 Z G=>⟨Z,rfl,.inr ⟨b,_,rfl,h0,G,yV _,(show 1<=maxLen by decide),rfl,rfl⟩⟩;have sa:V.sub _:=v.trans (H.trans (l.trans J));have u:=Zn R (.cells (crow k 0 mb ⟨⟨some ⟨b1,0,none⟩,1,1⟩,⟨some ⟨b2,0,none⟩,1,1⟩,⟨some ⟨b3,0,none⟩,1,1⟩⟩).toArray 134 (0,0));have g:∀{b c:Nat},Blk ⟨some ⟨b,0,none⟩,1,1⟩ c->c=b:=λ{b c} h=>by
  have:=h.2;grind
 have Y:b1≠b2:=λe=>by grind[Mem.set_same]
 have I:b1≠b3:=λe=>by rw[<-e]at h3;rw[l _ _ mss]at h3;cases h3
 have M:b2≠b3:=λe=>by grind[Mem.set_same]
 refine⟨mb,⟨⟨some ⟨b1,0,none⟩,1,1⟩,⟨some ⟨b2,0,none⟩,1,1⟩,⟨some ⟨b3,0,none⟩,1,1⟩⟩,[-1],[0],[0],[],λ_=>none,⟨Mem.set_same _ _ _,((qGv.made V mb).sub (H.trans (l.trans (J.trans u)))).congr λ_=>rfl,none0 sa R,w,one (none0 v h1) (sa.trans u) ?_,one (none0 (v.trans H) z) (sa.trans u) ?_,one (none0 (v.trans (H.trans l)) h3) (sa.trans u) ?_,λc r q=>Y ((g r).symm.trans (g q)),λc r q=>I ((g r).symm.trans (g q)),λc r q=>M ((g r).symm.trans (g q))⟩,?_⟩;·exact(l.trans (J.trans u)) _ _ mss
 ·exact(J.trans u) _ _ mss
 ·exact u _ _ mss
 grind[Int.toNat_natCast,CaI.new]
end
end Go.Proofs
namespace Go.Proofs
open Go Go.Sx
abbrev Bj:=List (Int×Int)
end Go.Proofs
namespace Go.Proofs
open Go Go.Sx
end Go.Proofs
namespace Go.Proofs
open Go Go.Sx
structure Sr where
 order:List Int
 again:Int
def qCR(x:Fld×Int):Bool:=!qBt x.1.ty&&decide (x.2≠0)
def qLl(l:List Fld)(vs:List Int)(i:Nat):List Int:=(((l.zip vs).take i).filter qCR).map (·.2)
def tgt(l:List Fld)(vs:List Int):List Int:=((l.zip vs).filter qCR).map (·.2)
def qAB(d:Ds)(m:Mm)(n:Int):List Int:=match m.nodes[(n-1).toNat]? with|some x=>tgt (qAt d x.ty) x.f|none=>[]
def qDo(d:Ds)(m:Mm):Nat->Sr->Int->Sr
 |0,st,_=>st
 |f+1,st,n=>if n∈st.order then⟨st.order,if st.again=0 then n else st.again⟩else(qAB d m n).foldl (qDo d m f) ⟨st.order++[n],st.again⟩
def lookP(d:Ds)(m:Mm)(f:Nat)(st:Sr)(l:List Fld)(vs:List Int):Sr:=(tgt l vs).foldl (qDo d m f) st
def qBy(d:Ds)(m:Mm):Sr:=lookP d m (m.nodes.length+1) ⟨[],0⟩ d.globals m.globals
theorem tgtI_zero(l:List Fld)(vs:List Int):qLl l vs 0=[]:=rfl
theorem qEe{l:List Fld}{vs:List Int}{i:Nat}{f:Fld}{v:Int}(g:l[i]?=some f)(hv:vs[i]?=some v):qLl l vs (i+1)=qLl l vs i++if qCR (f,v)=true then[v]else[]:=by
 have u:(l.zip vs)[i]?=some (f,v):=by rw[vh];exact⟨g,hv⟩
 unfold qLl;rw[w8,u,List.filter_append,List.map_append];by_cases h:qCR (f,v)=true;·simp[h]
 ·simp[h]
theorem qIy{l:List Fld}{vs:List Int}{i:Nat}(h:l.length<=i):qLl l vs i=tgt l vs:=by
 unfold qLl tgt;rw[wx];rw[vg];omega
def unS(m:Mm)(st:Sr):Nat:=((List.range m.nodes.length).filter λ(i:Nat)=>!decide (((i:Int)+1)∈st.order)).length
theorem entP_sub(d:Ds)(m:Mm):∀(f:Nat)(st:Sr)(n:Int),∀x∈st.order,x∈(qDo d m f st n).order
 |0,st,n,x,h=>h
 |f+1,st,n,x,h=>by
  unfold qDo;split;·exact h
  ·have:∀(l:List Int)(s:Sr),x∈s.order->x∈(l.foldl (qDo d m f) s).order:=λl=>by
    induction l with
    |nil=>exact λs h=>h
    |cons a l g=>exact λs h=>g _ (entP_sub d m f s a x h)
   exact this _ _ (vf _ h)
theorem foldP_sub(d:Ds)(m:Mm)(f:Nat)(x:Int):∀(l:List Int)(s:Sr),x∈s.order->x∈(l.foldl (qDo d m f) s).order:=λl=>by
 induction l with
 |nil=>exact λs h=>h
 |cons a l g=>exact λs h=>g _ (entP_sub d m f s a x h)
theorem qJN{α:Type}{p q:α->Bool}:∀{l:List α},(∀a∈l,q a=true->p a=true)->(l.filter q).length<=(l.filter p).length
 |[],_=>yV _
 |a::l,h=>by
  have g:=qJN (l:=l) λx u=>h x (zb _ u);have w:=h a zc;rw[z7,z7];cases z:q a with
  |true=>rw[w z];simpa using g
  |false=>
   cases r:p a with
   |true=>simp;omega
   |false=>simpa using g
theorem filter_lt{α:Type}{p q:α->Bool}:∀{l:List α},(∀a∈l,q a=true->p a=true)->∀a∈l,p a=true->q a=false->(l.filter q).length<(l.filter p).length
 |[],_,a,g,_,_=>by cases g
 |b::l,h,a,g,w,z=>by
  have r:∀x∈l,q x=true->p x=true:=λx v=>h x (zb _ v);rw[z7,z7];rcases yD.1 g with rfl|hm
  ·rw[w,z];have:=qJN r;simp;omega
  ·have e:=filter_lt r a hm w z;have H:=h b zc;cases u:q b with
   |true=>rw[H u];simpa using e
   |false=>
    cases J:p b with
    |true=>simp;omega
    |false=>simpa using e
section
variable{d:Ds}{m:Mm}{st:Sr}
theorem unS_le{a b:Sr}(h:∀x∈a.order,x∈b.order):unS m b<=unS m a:=by
 unfold unS;refine qJN λi _ g=>?_;simp only[zU,decide_eq_false_iff_not]at g⊢;exact λk=>g (h _ k)
theorem unS_lt{n:Int}(u:1<=n/\n<=(m.nodes.length:Int))(h:¬n∈st.order){a:Int}:unS m ⟨st.order++[n],a⟩<unS m st:=by
 unfold unS;obtain⟨i,rfl⟩:∃i:Nat,n=(i:Int)+1:=⟨(n-1).toNat,by omega⟩;refine filter_lt (λj _ g=>?_) i (List.mem_range.2 (by omega)) (by simpa using h) (by simp);simp only[zU,decide_eq_false_iff_not]at g⊢;exact λk=>g (vf _ k)
theorem qKI{xs:List Fld}{vs:List Int}(h:qAi d m xs vs=true){i:Nat}{f:Fld}{v:Int}(l:xs[i]?=some f)(w:vs[i]?=some v)(u:qBt f.ty=false)(h0:v≠0):1<=v/\v<=(m.nodes.length:Int):=by
 obtain⟨r,g,z⟩:=qGy h l;rw[w]at g;cases g;unfold qBt at u;simp only[Bool.or_eq_false_iff,decide_eq_false_iff_not]at u;unfold qAA at z;rw[if_neg u.1,if_neg u.2,decide_eq_true_eq]at z;rcases z with h|⟨h1,h2,-⟩;·exact absurd h h0
 ·exact⟨h1,h2⟩
end
section
variable{d:Ds}{m c:Mm}{O:List Int}
structure Cl (d:Ds)(m:Mm)(a b:Sr):Prop where
 sub:∀x∈a.order,x∈b.order
 shut:∀x∈b.order,x∈a.order∨∀y∈qAB d m x,y∈b.order
 dup:a.order.Nodup->b.order.Nodup
 rng:(∀x∈a.order,1<=x/\x<=(m.nodes.length:Int))->∀x∈b.order,1<=x/\x<=(m.nodes.length:Int)
 cap:a.order.length+unS m a<=m.nodes.length->b.order.length+unS m b<=m.nodes.length
theorem Cl.trans{a b e:Sr}(h:Cl d m a b)(k:Cl d m b e):Cl d m a e:=⟨λx g=>k.sub x (h.sub x g),λx g=>by
 rcases k.shut x g with g|g
 ·rcases h.shut x g with g|g;·exact .inl g
  ·exact .inr λy u=>k.sub y (g y u)
 ·exact .inr g,λn=>k.dup (h.dup n),λr=>k.rng (h.rng r),λr=>k.cap (h.cap r)⟩
theorem tgt_mem{l:List Fld}{vs:List Int}{y:Int}:y∈tgt l vs↔∃(i:Nat)(f:Fld),l[i]?=some f/\vs[i]?=some y/\qBt f.ty=false/\y≠0:=by
 unfold tgt qCR;simp only[ve,List.mem_filter,zC,zU,decide_eq_true_eq,Prod.exists,exists_eq_right];constructor
 ·rintro⟨f,h,h1,h2⟩;obtain⟨i,g⟩:=xg.1 h;rw[vh]at g;exact⟨i,f,g.1,g.2,h1,h2⟩
 ·rintro⟨i,f,h,h1,h2,h3⟩;exact⟨f,xg.2 ⟨i,vh.2 ⟨h,h1⟩⟩,h2,h3⟩
theorem qHT(hv:qAy d m=true):(∀y∈tgt d.globals m.globals,1<=y/\y<=(m.nodes.length:Int))/\∀n,∀y∈qAB d m n,1<=y/\y<=(m.nodes.length:Int):=by
 obtain⟨-,-,-,g,u⟩:=qAh hv;refine⟨λy h=>?_,λn y h=>?_⟩
 ·obtain⟨i,f,h1,h2,h3,h4⟩:=tgt_mem.1 h;exact qKI g h1 h2 h3 h4
 ·unfold qAB at h;split at h
  ·rename_i x w;obtain⟨i,f,h1,h2,h3,h4⟩:=tgt_mem.1 h;exact qKI (u x (xp w)) h1 h2 h3 h4
  ·cases h
theorem qLW{f:Nat}(H:∀st n,1<=n/\n<=(m.nodes.length:Int)->unS m st<f->Cl d m st (qDo d m f st n)/\n∈(qDo d m f st n).order):
  ∀(l:List Int)(s:Sr),(∀y∈l,1<=y/\y<=(m.nodes.length:Int))->unS m s<f->Cl d m s (l.foldl (qDo d m f) s)/\∀y∈l,y∈(l.foldl (qDo d m f) s).order
 |[],s,_,_=>⟨⟨λ_ h=>h,λ_ h=>.inl h,λh=>h,λh=>h,λh=>h⟩,λ_ h=>by cases h⟩
 |a::l,s,u,r=>by
  obtain⟨w,q⟩:=H s a (u a zc) r;obtain⟨z,e⟩:=qLW H l (qDo d m f s a) (λy g=>u y (zb _ g)) (by have:=unS_le (m:=m) w.sub;omega);refine⟨w.trans z,λy g=>?_⟩;rcases yD.1 g with rfl|g;·exact z.sub _ q
  ·exact e y g
theorem ent_cl(hv:qAy d m=true):∀(f:Nat)(st:Sr)(n:Int),1<=n/\n<=(m.nodes.length:Int)->unS m st<f->Cl d m st (qDo d m f st n)/\n∈(qDo d m f st n).order
 |0,_,_,_,h=>absurd h (Nat.not_lt_zero _)
 |f+1,st,n,z,J=>by
  rw[qDo];split;·rename_i h;exact⟨⟨λ_ h=>h,λ_ h=>.inl h,λh=>h,λh=>h,λh=>h⟩,h⟩
  ·rename_i w;have l:=unS_lt z w (a:=st.again);obtain⟨u,r⟩:=qLW (ent_cl hv f) (qAB d m n) ⟨st.order++[n],st.again⟩ (λy q=>(qHT hv).2 n y q) (by omega);have hm:n∈(⟨st.order++[n],st.again⟩:Sr).order:=by simp
   refine⟨⟨λx g=>u.sub x (vf _ g),λx g=>?_,λh=>u.dup ?_,λh=>u.rng λx g=>?_,λh=>u.cap ?_⟩,u.sub n hm⟩
   ·rcases u.shut x g with h|h
    ·rcases xd.1 h with h|h;·exact .inl h
     ·rw[zO.1 h];exact .inr r
    ·exact .inr h
   ·show(st.order++[n]).Nodup;rw[vk];refine⟨h,by simp,λa v b H e=>w ?_⟩;rw[<-zO.1 H,<-e];exact v
   ·rcases xd.1 g with g|g;·exact h x g
    ·rw[zO.1 g];exact z
   ·show(st.order++[n]).length+_<=_;rw[zw,xe];omega
structure Rch (d:Ds)(m:Mm)(O:List Int):Prop where
 dup:O.Nodup
 rng:∀x∈O,1<=x/\x<=(m.nodes.length:Int)
 glob:∀y∈tgt d.globals m.globals,y∈O
 shut:∀x∈O,∀y∈qAB d m x,y∈O
 cap:O.length<=m.nodes.length
theorem qLj:unS m ⟨[],0⟩<=m.nodes.length:=by
 unfold unS;have:=List.length_filter_le (λi:Nat=>!decide (((i:Int)+1)∈(⟨[],0⟩:Sr).order)) (List.range m.nodes.length);rw[List.length_range]at this;exact this
theorem qFA(hv:qAy d m=true):Rch d m (qBy d m).order:=by
 have hu:=qLj (m:=m);obtain⟨g,w⟩:=qLW (ent_cl hv (m.nodes.length+1)) (tgt d.globals m.globals) ⟨[],0⟩ (qHT hv).1 (by omega);refine⟨g.dup vp,g.rng (λx u=>by cases u),w,λx u=>?_,?_⟩
 ·rcases g.shut x u with h|h;·cases h
  ·exact h
 ·have:=g.cap (by show 0+_<=_;omega);exact Nat.le_trans (Nat.le_add_right _ _) this
def qHX(l:List Int)(x:Int):Int:=qHG (λy=>decide (y=x)) l
def rho(O:List Int)(x:Int):Int:=if x=0 then 0 else qHX O x+1
def renL(O:List Int)(l:List Fld)(vs:List Int):List Int:=(l.zip vs).map λx=>if qBt x.1.ty=true then x.2 else rho O x.2
structure IsCan (d:Ds)(m c:Mm)(O:List Int):Prop where
 globals:c.globals=renL O d.globals m.globals
 len:c.nodes.length=O.length
 at_:∀(i:Nat) n x,O[i]?=some n->m.nodes[(n-1).toNat]?=some x->∃s,c.nodes[i]?=some ⟨x.ty,s,renL O (qAt d x.ty) x.f⟩
theorem rho_zero:rho O 0=0:=by unfold rho;rw[if_pos rfl]
theorem ren_at{l:List Fld}{vs:List Int}{i:Nat}{f:Fld}{v:Int}(h:l[i]?=some f)(hv:vs[i]?=some v):(renL O l vs)[i]?=some (if qBt f.ty=true then v else rho O v):=by
 have g:(l.zip vs)[i]?=some (f,v):=vh.2 ⟨h,hv⟩;unfold renL;rw[y3,g];rfl
end
end Go.Proofs
namespace Go.Proofs
open Go Go.Sx
section
variable{d:Ds}{B:Bj}{s t:St}
def canP(d:Ds)(m:Mm):List Int×List (Int×List Int):=
 (renL (qBy d m).order d.globals m.globals,(qBy d m).order.map λn=>match m.nodes[(n-1).toNat]? with|some x=>(x.ty,renL (qBy d m).order (qAt d x.ty) x.f)|none=>(0,[]))
end
end Go.Proofs
namespace Go.Proofs
open Go Go.Sx
attribute [local irreducible] Go.Sx.Tri
section
variable{V0 V V1:Mem}{d:Ds}{m:Mm}{p ib:Nat}{st:Sr}{o:Sl}
def srow(d:Ds)(m:Mm)(o:Sl)(ib:Nat)(a:Int):List Value:=[Go.Sx.vS d.name,d.ts.v,d.gs.v,d.ps.v,d.ms.v,d.is.v,d.qs.v,d.bs.v,m.gs.v,m.ns.v,o.v,.map (some ib),.int .i64 a]
def kn(O:List Int)(n:Int):Option Int:=if n∈O then some (qHX O n+1)else none
theorem pos_app{O:List Int}{n x:Int}(g:x∈O):qHX (O++[n]) x=qHX O x:=by
 unfold qHX qHG;rw[vd];cases h:O.findIdx? (λy=>decide (y=x))with
 |none=>exact absurd (decide_eq_true rfl) (by rw[vc.1 h x g];decide)
 |some i=>rfl
theorem pos_new{O:List Int}{n:Int}(g:¬n∈O):qHX (O++[n]) n=(O.length:Int):=by
 unfold qHX qHG;have h:O.findIdx? (λy=>decide (y=n))=none:=vc.2 λx u=>decide_eq_false (by rintro rfl;exact g u);rw[vd,h];simp[List.findIdx?_cons]
theorem kn_new{O:List Int}{n:Int}(g:¬n∈O)(x:Int):kn (O++[n]) x=if x=n then some ((O.length:Int)+1)else kn O x:=by
 unfold kn;by_cases h:x=n
 ·subst h;rw[if_pos (by simp),if_pos rfl,pos_new g]
 ·rw[if_neg h];by_cases hm:x∈O;·rw[if_pos (by simp[hm]),if_pos hm,pos_app hm]
  ·rw[if_neg (by simp[hm,h]),if_neg hm]
structure SrAt (V0:Mem)(d:Ds)(m:Mm)(p ib:Nat)(V:Mem)(st:Sr)(o:Sl):Prop where
 at_:V p=some (.cells (srow d m o ib st.again).toArray 253 (0,0))
 own:Sx.Own V0 V 3 1 o (st.order.flatMap qAe)
 map:qGv (xa .i64) V ib λn=>(kn st.order n).map (xa .i64)
 cap:st.order.length+unS m st<=m.nodes.length
 rng:∀x∈st.order,1<=x/\x<=(m.nodes.length:Int)
structure SrS (V0:Mem)(d:Ds)(m:Mm)(p ib:Nat):Prop where
 mem:qAy d m=true
 ds:Ds.Ok V0 d
 mm:Mm.Ok V0 m
 p0:V0 p=none
 i0:V0 ib=none
 pi:p≠ib
theorem SrAt.cell(h:SrAt V0 d m p ib V st o)(i n:Nat)(hi:i+n<=13):V.rowp (sa p) i n=some (((srow d m o ib st.again).drop i).take n):=qAd h.at_ i n hi
theorem kn_pos{O:List Int}{n:Int}(h:n∈O):∃j,kn O n=some j/\1<=j:=by
 unfold kn;rw[if_pos h];refine⟨_,rfl,?_⟩;unfold qHX;rcases qAL (λy=>decide (y=n)) O with⟨-,-,h1⟩|⟨j,z,h1,-⟩
 ·rw[List.any_eq_false]at h1;exact absurd (decide_eq_true rfl) (h1 n h)
 ·rw[h1];omega
def SrPost(V0:Mem)(d:Ds)(m:Mm)(p ib:Nat)(st:Sr):Ending->Mem->Prop:=λe V'=>e=.returned (.tuple #[])/\∃o,SrAt V0 d m p ib V' st o
variable(V0 d m p ib)in
def EntC(N:Nat):Prop:=∀(st:Sr)(n:Int)(f:Nat) V o,SrAt V0 d m p ib V st o->1<=n/\n<=(m.nodes.length:Int)->unS m st<=N->unS m st<f->
 Tri xE 254 #[pv p,.int .i64 n] V (SrPost V0 d m p ib (qDo d m f st n))
theorem lookC{N:Nat}(U:EntC V0 d m p ib N){l s:Sl}{xs:List Fld}{vs:List Int}(hl:qAc V0 l 2 (xs.map Fld.row))(hs:qAc V0 s 1 (vs.map qAe))(hv:qAi d m xs vs=true){f:Nat}(h:SrAt V0 d m p ib V st o)(hN:unS m st<=N)(hf:unS m st<f):
  Tri xE 209 #[pv p,l.v,s.v] V (SrPost V0 d m p ib ((tgt xs vs).foldl (qDo d m f) st)):=by
 refine Tri.mono (x209 (R:=SrPost V0 d m p ib ((tgt xs vs).foldl (qDo d m f) st)) ?_) λ_ _ h=>h;have T:xs.length=vs.length:=(qAD.1 hv).1;refine qIs xs.length (λi V1=>∃q,SrAt V0 d m p ib V1 ((qLl xs vs i).foldl (qDo d m f) st) q) ⟨o,by rw[tgtI_zero];exact h⟩ ?_;rintro i V1 J hi ⟨q,h1⟩ A;have g:=hl.sub h1.own.sub;have e:=hs.sub h1.own.sub;refine⟨λu=>?_,λI=>?_⟩
 ·obtain⟨x,hxm,M,-,r,hp,X,H⟩:=g.get u;have n1:=g.n_eq;have n2:=e.n_eq;obtain⟨y,hym,C,-,hjl,G,Z,w⟩:=e.get (i:=i) (by omega);have hu:unS m ((qLl xs vs i).foldl (qDo d m f) st)<=unS m st:=unS_le λz X=>foldP_sub d m f z _ _ X;have same:qCR (x,y)=false->∃E,SrAt V0 d m p ib V1 ((qLl xs vs (i+1)).foldl (qDo d m f) st) E:=λK=>by
   rw[qEe M C,K,if_neg (by decide),vn];exact⟨q,h1⟩
  refine⟨hp,X,u,_,_,H,c124.call ⟨_,rfl,λh2=>⟨g.succ u,A r _ (same ?_)⟩,λh2=>⟨G,Z,by omega,_,w,λh3=>⟨g.succ u,A r _ (same ?_)⟩,λh3=>⟨G,Z,by omega,_,w,?_⟩⟩⟩⟩;·unfold qCR;rw[show qBt x.ty=true from h2];rfl
  ·have h3:y=0:=h3;unfold qCR;rw[h3];simp
  ·have Y:qBt x.ty=false:=(Bool.not_eq_true _).mp h2;have h3:¬y=0:=h3;have K:qCR (x,y)=true:=by unfold qCR;rw[Y,decide_eq_true h3];rfl
   refine Tri.mono (U _ y f V1 q h1 (qKI hv M C Y h3) (by omega) (by omega)) ?_;rintro _ V2 ⟨rfl,E,h4⟩;refine⟨rfl,g.succ u,A r _ ⟨E,?_⟩⟩;rw[qEe M C,K,if_pos rfl,vb,uC,uE];exact h4
 ·have hd:=(g.done I).2;rw[qIy hd]at h1;exact⟨rfl,q,h1⟩
theorem enterC(S:SrS V0 d m p ib)(N:Nat)(ih:∀N',N'<N->EntC V0 d m p ib N'):EntC V0 d m p ib N:=by
 intro st n f V o h hn hN hf;obtain⟨f,rfl⟩:∃f',f=f'+1:=⟨f-1,by omega⟩;refine Tri.mono (x254 (R:=SrPost V0 d m p ib (qDo d m (f+1) st n)) ?_) λ_ _ h=>h;have hg:=h.map;refine⟨nn,nn,_,h.cell 11 1 (by decide),qBH.key1 (k:=n) (qGW wi) uF qGa hg ?_⟩;by_cases z:n∈st.order
 ·obtain⟨j,hj,hj1⟩:=kn_pos z;rw[hj];have e:qDo d m (f+1) st n=⟨st.order,if st.again=0 then n else st.again⟩:=by unfold qDo;rw[if_pos z]
  rw[e];refine⟨j,rfl,λh0=>?_,λ_=>⟨nn,nn,_,h.cell 12 1 (by decide),λh0=>⟨nn,nn,?_⟩,λh0=>?_⟩⟩
  ·have h0:j=0:=h0;omega
  ·have h0:st.again=0:=h0;rw[if_pos h0];refine StT.at2 (off:=12) h.at_ (by simp[srow]) ⟨rfl,o,?_,h.own.put (h.own.apart λg w=>?_) S.p0 _,hg.set S.pi.symm,h.cap,h.rng⟩;·rw[Mem.set_same];rfl
   ·rw[h.at_]at w;cases w
  ·have h0:¬st.again=0:=h0;rw[if_neg h0];exact⟨rfl,o,h⟩
 ·have hno:kn st.order n=none:=by unfold kn;rw[if_neg z]
  rw[hno];have hcap:=h.cap;have hlt:=unS_lt (st:=st) hn z (a:=st.again);refine⟨0,rfl,λ_=>⟨nn,nn,o,h.cell 10 1 (by decide),λtb htb=>?_⟩,λh0=>absurd rfl h0⟩;have pne:∀g,V p≠some (.cells g 3 (0,0)):=λg w=>by rw[h.at_]at w;cases w
  have ine:∀g,V ib≠some (.cells g 3 (0,0)):=λg w=>by
   obtain⟨e1,T,U,-⟩:=hg.at_;rw[U]at w;cases w
  have m4:=(qAh S.mem).2.1;have Z:=(h.own.but).new htb (.cells #[.int .i64 n] 3 (0,0));refine qCU (s:=o) (u:=⟨some ⟨tb,0,none⟩,1,1⟩) (xs:=st.order) (ys:=[n]) rfl rfl Z (qJo mss) (by simp;omega) λr V2 ho2=>⟨r,rfl,nn,nn,?_⟩;have J:=ho2.sub;have hp2:V2 p=some (.cells (srow d m o ib st.again).toArray 253 (0,0)):=J _ _ (Mem.but_at h.at_ (h.own.apart pne));have hg2:qGv (xa .i64) V2 ib λn=>(kn st.order n).map (xa .i64):=by
   obtain⟨e1,T,U,k2⟩:=hg.at_;exact⟨e1,T,J _ _ (Mem.but_at U (h.own.apart ine)),k2⟩
  have ho3:Sx.Own V0 V2 3 1 r ((st.order++[n]).flatMap qAe):=ho2.narrow h.own.sub_but;refine StT.at2 (off:=10) hp2 (by simp[srow]) ?_;obtain⟨Y,v⟩:∃Y,Y=V2.set p (.cells (srow d m r ib st.again).toArray 253 (0,0)):=⟨_,rfl⟩;have A:V2.set p (.cells ((srow d m o ib st.again).toArray.toList.take 10++[uL r]++(srow d m o ib st.again).toArray.toList.drop (10+[uL r].length)).toArray 253 (0,0))=Y:=v.symm;have I:Y p=some (.cells (srow d m r ib st.again).toArray 253 (0,0)):=by rw[v,Mem.set_same]
  have hg3:qGv (xa .i64) Y ib λn=>(kn st.order n).map (xa .i64):=by rw[v];exact hg2.set S.pi.symm
  have pne2:∀g,V2 p≠some (.cells g 3 (0,0)):=λg w=>by rw[hp2]at w;cases w
  have M:Sx.Own V0 Y 3 1 r ((st.order++[n]).flatMap qAe):=by rw[v];exact ho3.put (ho3.apart pne2) S.p0 _
  show ¬_/\_;rw[A];refine⟨nn,nn,_,qAd I 11 1 (by simp[srow]),nn,nn,r,qAd I 10 1 (by simp[srow]),qEb.key (k:=n) (qGW wi) uF hg3 λob hob=>?_⟩;have hn2:=M.n_eq (λ_=>rfl) (by decide);rw[zw,xe]at hn2;have h5:SrAt V0 d m p ib (Y.set ib ob) ⟨st.order++[n],st.again⟩ r:=by
   refine⟨by rw[Zm S.pi];exact I,M.put (M.apart λg w=>?_) S.i0 _,hob.congr λx=>?_,?_,λx H=>?_⟩
   ·obtain⟨e1,T,U,-⟩:=hg3.at_;rw[U]at w;cases w
   ·rw[kn_new z,show((st.order.length:Int)+1)=(r.n:Int)by omega];by_cases H:x=n<;>simp[H]
   ·show(st.order++[n]).length+_<=_;rw[zw,xe];omega
   ·rcases xd.1 H with H|H;·exact h.rng x H
    ·rw[zO.1 H];exact hn
  obtain⟨q,rfl⟩:∃q:Nat,n=(q:Int)+1:=⟨(n-1).toNat,by omega⟩;have X:=S.mm.sub h5.own.sub;have hdd:=S.ds.sub h5.own.sub;have hnn:=X.nodes.n_eq;obtain⟨x,C,H,-,hl2,hpx,hzx,E⟩:=X.nodes.get (i:=q) (by omega);have hty:=(qAh S.mem).2.2.1 x C;obtain⟨T,c2⟩:=of_decide_eq_true hty;obtain⟨j,hj⟩:∃j:Nat,x.ty=(j:Int):=⟨_,(uG T).symm⟩;have htn:=hdd.types.n_eq;obtain⟨t,htm,ht,-,hl3,G,hzt,K⟩:=hdd.types.get (i:=j) (by omega);have hI:IR ((q:Int)):=⟨by omega,by have:=(X.nodes.succ (i:=q) (by omega)).2;omega⟩;rw[show((q:Int)+1-1)=(q:Int)by omega];refine⟨nn,nn,pnn,m.ns,h5.cell 9 1 (by decide),hI,hpx,hzx,by omega,_,_,E,nn,nn,pnn,d.ts,h5.cell 1 1 (by decide),?_⟩;rw[hj];have hfo:=qAU ht hj;have l:=(qAh S.mem).2.2.2.2 x C;rw[hfo]at l;refine⟨G,hzt,by omega,qAf G,_,_,K,Tri.mono (lookC (ih (unS m ⟨st.order++[(q:Int)+1],st.again⟩) (by omega)) (S.ds.typesOk t htm).fields (S.mm.nodesOk x C).rows l (f:=f) h5 (yV _) (by omega)) ?_⟩;rintro _ V5 ⟨rfl,o5,h6⟩;refine⟨rfl,rfl,o5,?_⟩;have e:qDo d m (f+1) st ((q:Int)+1)=(tgt t.fields x.f).foldl (qDo d m f) ⟨st.order++[(q:Int)+1],st.again⟩:=by
   rw[qDo,if_neg z];unfold qAB;rw[show((q:Int)+1-1).toNat=q by omega,H];show(tgt (qAt d x.ty) x.f).foldl _ _=_;rw[hfo]
  rw[e];exact h6
theorem entAll(S:SrS V0 d m p ib):∀N,EntC V0 d m p ib N:=λN=>yS N λN h=>enterC S N h
end
section
variable{V:Mem}{d:Ds}{m:Mm}
theorem c176(g:qAy d m=true)(l:Ds.Ok V d)(hm:Mm.Ok V m):Tri xE 176 #[d.v,m.v] V λe V'=>∃p ib o,e=.returned (pv p)/\SrAt V d m p ib V' (qBy d m) o:=by
 refine x176 ?_;refine GenK.makeMap λib u=>⟨some ib,rfl,λp w=>?_⟩;have r:p≠ib:=λe=>by rw[e,Mem.set_same]at w;cases w
 have z:V p=none:=by rw[Zm r]at w;exact w
 have H:=Zn u (.map #[] 0);have q:=Zn w (.cells (srow d m ⟨none,0,0⟩ ib 0).toArray 253 (0,0));have S:SrS V d m p ib:=⟨g,l,hm,z,u,r⟩;have hu:unS m ⟨[],0⟩<=m.nodes.length:=qLj;have h0:SrAt V d m p ib ((V.set ib (.map #[] 0)).set p (.cells (srow d m ⟨none,0,0⟩ ib 0).toArray 253 (0,0))) ⟨[],0⟩ ⟨none,0,0⟩:=
  ⟨Mem.set_same _ _ _,Own.nil (H.trans q) _ _,(((qGv.made V ib).sub q)).congr λ_=>rfl,by show 0+unS m ⟨[],0⟩<=_;omega,λx h=>by simp at h⟩
 refine Tri.mono (lookC (entAll S m.nodes.length) l.globals hm.globals (qAh g).2.2.2.1 (f:=m.nodes.length+1) h0 hu (by omega)) ?_;rintro _ V2 ⟨rfl,o,h⟩;exact⟨rfl,p,ib,o,rfl,h⟩
theorem renL_len{O:List Int}{xs:List Fld}{vs:List Int}(h:xs.length=vs.length):(renL O xs vs).length=xs.length:=by
 unfold renL;rw[x7,vg];omega
end
section
variable{V:Mem}{d:Ds}{m:Mm}
theorem Own.growS{V0 V V':Mem}{e:TypeId}{sz:Nat}{s:Sl}{vs:List Value}(h:Sx.Own V0 V e sz s vs)(g:V.sub V'):Sx.Own V0 V' e sz s vs:=Own.moveB h (h.sub.trans g) λ_ _ _ u=>g _ _ u
theorem qKC(h:qJD d=true):qAG d=true:=by
 unfold qJD at h;simp only[zC]at h;exact h.1.1
structure CanAt (d:Ds)(m:Mm)(V2 V:Mem)(s:Sl)(i:Nat)(nd:List Nd):Prop where
 len:nd.length=i
 at_:∀(j:Nat) n x,j<i->(qBy d m).order[j]?=some n->m.nodes[(n-1).toNat]?=some x->∃s,nd[j]?=some ⟨x.ty,s,renL (qBy d m).order (qAt d x.ty) x.f⟩
 mem:∃W,V2.sub W/\Sx.Own W V 92 2 s (nd.flatMap Nd.row)/\∀n∈nd,Nd.Ok W n
theorem ren_in{O:List Int}{xs:List Fld}{vs:List Int}(w:O.length<=4096)(h:∀v∈vs,inI v):∀v∈renL O xs vs,inI v:=λv hv=>by
 unfold renL at hv;obtain⟨⟨a,b⟩,g,rfl⟩:=ve.1 hv;have u:=h b (List.of_mem_zip g).2;show inI (if _ then b else rho O b);split;·exact u
 ·unfold rho;split;·exact⟨by omega,by omega⟩
  ·unfold qHX;rcases qAL (λz=>decide (z=b)) O with⟨e,-⟩|⟨j,_,e,-,-,e2,-⟩;·rw[e];exact⟨by decide,by decide⟩
   ·rw[e];exact⟨by show(-9223372036854775808:Int)<=(j:Int)+1;omega,by show(j:Int)+1<=(9223372036854775807:Int);omega⟩
theorem c13{s t:Sl}{xs ys:List Int}(h:qAc V s 1 (xs.map qAe))(k:qAc V t 1 (ys.map qAe)):PP 13 [.slice s.p s.n s.c,.slice t.p t.n t.c] V (.bool (decide (xs=ys))):=by
 refine x13 ?_;have A:=h.n_eq;have I:=k.n_eq;refine⟨λZ=>?_,λZ=>?_⟩
 ·refine qAM (mk:=.bool) (b0:=false) xs.length (λi V1=>V=V1/\xs.take i=ys.take i) ⟨rfl,rfl⟩ ?_;rintro i b V1 J U ⟨rfl,z⟩ M;refine⟨λg=>?_,λl=>?_⟩
  ·obtain⟨x,R,r,-,q,X,C,w⟩:=h.get g;obtain⟨y,E,Y,-,K,v,H,u⟩:=k.get (i:=i) (by omega);refine⟨X,C,g,_,w,v,H,by omega,_,u,λG=>⟨h.succ g,M q _ _ ⟨rfl,take_eq z r Y G⟩⟩,λG=>?_⟩;rw[decide_eq_false λe=>?_];·exact⟨rfl,rfl⟩
   ·rw[e,Y]at r;cases r;exact G rfl
  ·have T:=(h.done l).2;rw[wx T,wx (by omega)]at z;rw[decide_eq_true z];exact⟨rfl,rfl⟩
 ·rw[decide_eq_false λe=>Z (by rw[A,I,e])];exact⟨rfl,rfl⟩
theorem canP_of{c:Mm}(g:qAy d m=true)(I:IsCan d m c (qBy d m).order):c.plain=canP d m:=by
 have R:=qFA g;unfold Mm.plain canP;rw[I.globals];refine Prod.ext rfl (List.ext_getElem? λi=>?_);rw[y3,y3];cases h:(qBy d m).order[i]? with
 |none=>
  have:c.nodes[i]?=none:=by
   rw[List.getElem?_eq_none_iff]at h⊢;rw[I.len];exact h
  rw[this];rfl
 |some n=>
  have z:=R.rng n (xp h);have u:=yu (l:=m.nodes) (i:=(n-1).toNat) (by omega);obtain⟨sl,w⟩:=I.at_ i n _ h u;rw[w];simp only[Option.map_some];rw[u]
end
theorem loop3b{V:Mem}{β h:Type}{mk:β->Value}{mc:h->Value}{B:β->h->Int->Mem->(KZ)->Prop}{b0:β}{c0:h}(ib:∀x y,mk x=mk y->x=y)(r:∀x y,mc x=mc y->x=y)(len:Nat)(St:Nat->β->h->Mem->Prop)(h0:St 0 b0 c0 V)
  (step:∀(i:Nat)(b:β)(c:h) V1 J,i<=len->St i b c V1->(i<len->∀g u V2,St (i+1) g u V2->J [mk g,mc u,.int .i64 ((i:Int)+1)] V2)->B b c (i:Int) V1 J):
  ∃(I:Nat->KZ)(q:Nat),I q [mk b0,mc c0,.int .i64 0] V/\∀n V1,∀b:β,∀c:h,∀v:Int,I n [mk b,mc c,.int .i64 v] V1->∀J:KZ,(∀m ys w,m<n->I m ys w->J ys w)->B b c v V1 J:=by
 refine⟨LI len λi xs V=>∃b c,xs=[mk b,mc c,.int .i64 i]/\St i b c V,len,LI.start ⟨b0,c0,rfl,h0⟩,?_⟩;rintro n V1 b c v ⟨i,rfl,e,g,u,l,H⟩ J G;simp only[List.cons.injEq,Value.int.injEq,true_and,and_true]at l;obtain⟨Z,Y,rfl⟩:=l;cases ib _ _ Z;cases r _ _ Y;exact step i b c V1 J e H λz g u V2 h2=>LI.next G z ⟨g,u,rfl,h2⟩
theorem qFC{t:KB}(h:t=qAT∨t=qAz):qBt t=true:=by
 unfold qBt;rcases h with rfl|rfl<;>simp
section
variable{V0 V:Mem}{d:Ds}{m:Mm}
theorem c177{s:Sl}{l:List Int}(h:qAc V s 1 (l.map qAe)){x:Int}:PP 177 [s.v,.int .i64 x] V (.int .i64 (qHX l x)):=by
 refine x177 ?_;refine qAM (mk:=.int .i64) (b0:=0) l.length (λj V1=>V=V1/\qAY (λy:Int=>!decide (y=x)) l j) ⟨rfl,qAY.zero _ _⟩ ?_;rintro j b V1 J I ⟨rfl,r⟩ H;refine⟨λg=>?_,λw=>?_⟩
 ·obtain⟨y,G,Z,-,z,Y,A,u⟩:=h.get g;refine⟨Y,A,g,_,u,λq=>?_,λq=>⟨h.succ g,H z _ _ ⟨rfl,qCm r Z (decide_eq_false q)⟩⟩⟩;have e:qHX l x=(j:Int):=by grind[qHX,qCH,decide_eq_true]
  simp_all
 ·have e:qHX l x=-1:=by unfold qHX;exact qDv r (h.done w).2
  simp_all
theorem pos_neg{l:List Int}{x:Int}:¬(0<=qHX l x)↔¬x∈l:=by
 unfold qHX;rcases qAL (λy=>decide (y=x)) l with⟨h1,-,h2⟩|⟨i,y,h1,h2,-,h3,h4,-⟩;·grind
 grind
theorem tgtI_in{xs:List Fld}{vs:List Int}(h:qAi d m xs vs=true){i:Nat}:∀y∈qLl xs vs i,1<=y/\y<=(m.nodes.length:Int):=λy g=>by
 have:y∈tgt xs vs:=by
  unfold qLl at g;unfold tgt;obtain⟨a,u,rfl⟩:=ve.1 g;grind
 obtain⟨j,f,h1,h2,h3,h4⟩:=tgt_mem.1 this;exact qKI h h1 h2 h3 h4
def LookRP(V0:Mem)(st:Sr):Ending->Mem->Prop:=λe V'=>∃s:Sl,e=.returned (.agg #[s.v,.int .i64 st.again])/\Sx.Own V0 V' 3 1 s (st.order.flatMap qAe)
variable(V0 d m)in
def LookRC(N:Nat):Prop:=∀(st:Sr)(f:Nat) V (s l q:Sl)(xs:List Fld)(vs:List Int),unS m st<=N->unS m st<f->st.order.length+unS m st<=m.nodes.length->qAc V0 l 2 (xs.map Fld.row)->qAc V0 q 1 (vs.map qAe)->qAi d m xs vs=true->Sx.Own V0 V 3 1 s (st.order.flatMap qAe)->
 Tri xE 135 #[d.v,m.v,.agg #[s.v,.int .i64 st.again],l.v,q.v] V (LookRP V0 (lookP d m f st xs vs))
theorem lookRC(Z:qAy d m=true)(hd:Ds.Ok V0 d)(hm:Mm.Ok V0 m)(N:Nat)(ih:∀N',N'<N->LookRC V0 d m N'):LookRC V0 d m N:=by
 intro st f V s l q xs vs hN hf U hl hq hv ho;refine Tri.mono (x135 (R:=LookRP V0 (lookP d m f st xs vs)) ?_) λ_ _ h=>h;have hlen:xs.length=vs.length:=by
  grind[qAi]
 have m4:=(qAh Z).2.1;refine loop3b (mk:=λs:Sl=>.slice s.p s.n s.c) (mc:=.int .i64) (b0:=s) (c0:=st.again) qAH qCZ xs.length (λi A a V1=>a=((qLl xs vs i).foldl (qDo d m f) st).again/\Sx.Own V0 V1 3 1 A (((qLl xs vs i).foldl (qDo d m f) st).order.flatMap qAe)) ⟨rfl,ho⟩ ?_;rintro i A a V1 J hi ⟨rfl,h1⟩ hJ;obtain⟨g,w⟩:∃g,g=(qLl xs vs i).foldl (qDo d m f) st:=⟨_,rfl⟩;rw[<-w]at h1⊢;have hu:unS m g<=unS m st:=by simp_all[unS_le,foldP_sub]
 have hcl:Cl d m st g:=by rw[w];exact(qLW (ent_cl Z f) (qLl xs vs i) st (tgtI_in hv) hf).1
 have hcap1:=hcl.cap U;have r:=hl.sub h1.sub;have hq1:=hq.sub h1.sub;refine⟨λv=>?_,λhge=>?_⟩
 ·obtain⟨x,hxm,hx,-,hil,hp,hz,I⟩:=r.get v;have n1:=r.n_eq;have n2:=hq1.n_eq;obtain⟨y,hym,hy,-,hjl,hpy,hzy,X⟩:=hq1.get (i:=i) (by omega);have same:qCR (x,y)=false->J [.slice A.p A.n A.c,.int .i64 g.again,.int .i64 ((i:Int)+1)] V1:=λhr=>by
   refine hJ hil A g.again V1 ?_;rw[qEe hx hy,hr,if_neg (by decide),vn,<-w];exact⟨rfl,h1⟩
  have pl:qBt x.ty=true->qCR (x,y)=false:=λh=>by grind[qCR,qBt]
  refine⟨hpy,hzy,by omega,_,X,hp,hz,v,qAf hp,_,_,I,λh2=>⟨r.succ v,same (pl ?_)⟩,λh2=>⟨hp,hz,v,qAf hp,_,_,I,λh3=>⟨r.succ v,same (pl ?_)⟩,λh3=>⟨λh4=>⟨r.succ v,same ?_⟩,λh4=>?_⟩⟩⟩;·grind[qAT,qBt]
  ·grind[qAz,qBt]
  ·grind[qCR]
  have hpl:qBt x.ty=false:=by
   grind[qAT,qAz,qBt]
  have h4:¬y=0:=h4;have hr:qCR (x,y)=true:=by grind[qCR]
  have hy1:=qKI hv hx hy hpl h4;have next:∀(s':Sl) V2,Sx.Own V0 V2 3 1 s' ((qDo d m f g y).order.flatMap qAe)->J [.slice s'.p s'.n s'.c,.int .i64 (qDo d m f g y).again,.int .i64 ((i:Int)+1)] V2:=λs' V2 h=>by
   refine hJ hil s' _ V2 ?_;rw[qEe hx hy,hr,if_pos rfl,vb,uC,uE,<-w];exact⟨rfl,h⟩
  obtain⟨f,rfl⟩:∃f',f=f'+1:=⟨f-1,by omega⟩;refine(c177 (h1.rows (λ_=>rfl) (by decide))).call ⟨_,rfl,λh5=>?_,λh5=>?_⟩
  ·have C:y∈g.order:=Classical.not_not.1 λh=>pos_neg.2 h h5;have e:qDo d m (f+1) g y=⟨g.order,if g.again=0 then y else g.again⟩:=by grind[qDo]
   rw[e]at next
   refine⟨λh6=>⟨r.succ v,?_⟩,λh6=>⟨r.succ v,?_⟩⟩;·simp_all
   simp_all
  ·have C:¬y∈g.order:=pos_neg.1 h5;have hlt2:=unS_lt (st:=g) hy1 C (a:=g.again);intro tb htb;refine qCU (s:=A) (u:=⟨some ⟨tb,0,none⟩,1,1⟩) (xs:=g.order) (ys:=[y]) rfl rfl (h1.but.new htb (.cells #[.int .i64 y] 3 (0,0))) (qJo mss) (by simp;omega) λo2 V2 ho2=>⟨o2,rfl,?_⟩;have E:Sx.Own V0 V2 3 1 o2 ((g.order++[y]).flatMap qAe):=ho2.narrow h1.sub_but;obtain⟨k,rfl⟩:∃k:Nat,y=(k:Int)+1:=⟨(y-1).toNat,by omega⟩;have hmm:=hm.sub E.sub;have hdd:=hd.sub E.sub;have hnn:=hmm.nodes.n_eq;obtain⟨z,K,hz',-,hl2,Y,hzx,H⟩:=hmm.nodes.get (i:=k) (by omega);obtain⟨c1,c2⟩:=of_decide_eq_true ((qAh Z).2.2.1 z K);obtain⟨j,hj⟩:∃j:Nat,z.ty=(j:Int):=⟨_,(uG c1).symm⟩;have htn:=hdd.types.n_eq;obtain⟨t,htm,ht,-,hl3,M,hzt,T⟩:=hdd.types.get (i:=j) (by omega);have hI:IR ((k:Int)):=⟨by omega,by omega⟩;have hfo:=qAU ht hj;have G:=(qAh Z).2.2.2.2 z K;rw[hfo]at G;rw[show((k:Int)+1-1)=(k:Int)by omega];refine⟨hI,Y,hzx,by omega,qAf Y,_,_,H,?_⟩;rw[hj];refine⟨M,hzt,by omega,qAf M,_,_,T,hI,Y,hzx,by omega,qAf Y,_,_,H,?_⟩;refine Tri.mono (ih (unS m ⟨g.order++[(k:Int)+1],g.again⟩) (by omega) ⟨g.order++[(k:Int)+1],g.again⟩ f V2 o2 t.fs z.sl t.fields z.f (yV _) (by omega) ?_ (hd.typesOk t htm).fields (hm.nodesOk z K).rows G E) ?_;·grind
   rintro _ V5 ⟨s5,rfl,h6⟩;have e:qDo d m (f+1) g ((k:Int)+1)=lookP d m f ⟨g.order++[(k:Int)+1],g.again⟩ t.fields z.f:=by
    rw[qDo,if_neg C];simp_all[qAB,lookP,Int,tgt,qAt]
   rw[<-e]at h6⊢;exact⟨_,_,rfl,r.succ v,next s5 V5 h6⟩
 ·have hdn:=(r.done hge).2;rw[qIy hdn]at w;have e:lookP d m f st xs vs=g:=w.symm;rw[e];exact⟨A,rfl,h1⟩
theorem c87(g:qAy d m=true)(u:Ds.Ok V d)(hm:Mm.Ok V m):Tri xE 87 #[d.v,m.v] V (LookRP V (qBy d m)):=by
 refine Tri.mono (x87 (R:=LookRP V (qBy d m)) ?_) λ_ _ h=>h;have hu:=qLj (m:=m);have all:∀N,LookRC V d m N:=λN=>yS N λN w=>lookRC g u hm N w;refine Tri.mono (all m.nodes.length ⟨[],0⟩ (m.nodes.length+1) V ⟨none,0,0⟩ d.gs m.gs d.globals m.globals hu (by omega) (by simp_all) u.globals hm.globals (qAh g).2.2.2.1 (Own.nil (Mem.sub.refl V) _ _)) ?_;rintro _ V2 ⟨s,rfl,h⟩;exact⟨_,_,rfl,s,rfl,h⟩
end
section
variable{V:Mem}{d:Ds}{m:Mm}
theorem c142{l q o:Sl}{xs:List Fld}{vs O:List Int}(hl:qAc V l 2 (xs.map Fld.row))(hq:qAc V q 1 (vs.map qAe))(ho:qAc V o 1 (O.map qAe))(hO:O.length<=4096)(he:xs.length=vs.length)(U:xs.length<=4096):
  Tri xE 142 #[l.v,q.v,o.v] V λe V'=>∃s:Sl,e=.returned (.slice s.p s.n s.c)/\Sx.Own V V' 3 1 s ((renL O xs vs).flatMap qAe):=by
 refine x142 ?_;have hrl:=renL_len (O:=O) he;refine qFk (mk:=λs:Sl=>.slice s.p s.n s.c) (b0:=⟨none,0,0⟩) qAH xs.length (λi s V1=>Sx.Own V V1 3 1 s (((renL O xs vs).take i).flatMap qAe)) (Own.nil (Mem.sub.refl _) _ _) ?_;rintro i s V1 J hi h1 hJ;have Z:=hl.sub h1.sub;have A:=hq.sub h1.sub;refine⟨λH=>?_,λR=>?_⟩
 ·obtain⟨x,hxm,hx,-,X,I,M,G⟩:=Z.get H;have n2:=A.n_eq;obtain⟨y,hym,hy,-,hjl,C,E,Y⟩:=A.get (i:=i) (by omega);have K:=ren_at (O:=O) hx hy;have add:∀{w z:Int}{V2:Mem}{ty:Nat}{a b:Operand}{vals:Operand->Value},V1=V2->w=(if qBt x.ty=true then y else rho O y)->z=w->∀r,V2 r=none->vals a=.slice s.p s.n s.c->vals b=.slice (sa r) 1 1 ->
    GenK xE (.call {callee:=.builtin .append,args:=#[a,b],argTypes:=#[31,31]}) ty vals (V2.set r (.cells #[.int .i64 z] 3 (0,0))) λx V3=>∃v9:Sl,x=uL v9/\IR ((i:Int)+1)/\J [uL v9,uI ((i:Int)+1)] V3:=λ{w z V2 ty a b vals} e hw M r g ha U=>by
   subst e;subst M;refine qCU (s:=s) (u:=⟨some ⟨r,0,none⟩,1,1⟩) (xs:=(renL O xs vs).take i) (ys:=[z]) ha U (h1.but.new g (.cells #[.int .i64 z] 3 (0,0))) (qJo mss) (by grind) λo2 V3 T=>⟨o2,rfl,Z.succ H,hJ X _ _ ?_⟩;rw[w8,K,<-hw];exact T.narrow h1.sub_but
  have pl:∀{c:Bool},qBt x.ty=c->(if qBt x.ty=true then y else rho O y)=if c=true then y else rho O y:=λh=>by rw[h]
  refine⟨C,E,by omega,_,Y,I,M,H,qAf I,_,_,G,λh2 r g=>add rfl (by rw[pl (qFC (.inl h2))];rfl) rfl r g rfl rfl,λh2=>⟨I,M,H,qAf I,_,_,G,λh3 r g=>add rfl (by rw[pl (qFC (.inr h3))];rfl) rfl r g rfl rfl,λh3=>?_⟩⟩;have hpl:qBt x.ty=false:=by
   grind[qAT,qAz,qBt]
  refine⟨λh4 r g=>add rfl ?_ rfl r g rfl rfl,λh4=>?_⟩;·grind[rho_zero]
  ·refine(c177 (ho.sub h1.sub)).call ⟨_,rfl,?_,λr g=>add rfl ?_ rfl r g rfl rfl⟩
   ·unfold qHX;rcases qAL (λz=>decide (z=y)) O with⟨e,-⟩|⟨j,_,e,-,-,e2,-⟩;·rw[e];exact⟨by omega,by omega⟩
    ·rw[e];exact⟨by omega,by omega⟩
   grind[rho]
 ·have hd:=(Z.done R).2;grind
theorem qGk(h:qAG d=true):d.globals.length<=8/\∀t∈d.types,t.fields.length<=12:=by
 grind[qAG,qDC,tyB]
theorem qFw{l:List Fld}{vs:List Int}(h:qAi d m l vs=true):l.length=vs.length:=by
 grind[qAi]
theorem c96(G:qAw d m)(hd:Ds.Ok V d)(hm:Mm.Ok V m):Tri xE 96 #[d.v,m.v] V λe V'=>V.sub V'/\∃c:Mm,e=.returned (.agg #[c.gs.v,c.ns.v])/\Mm.Ok V' c/\IsCan d m c (qBy d m).order:=by
 refine x96 ?_;refine Tri.mono (c87 G.mem hd hm) ?_;rintro _ V1 ⟨o,rfl,ho⟩;have R:=qFA G.mem;obtain⟨p1,p2,p3,p4,p5⟩:=qAh G.mem;obtain⟨l1,l2⟩:=qGk G.valid;have hcap:=R.cap;have hoR:=ho.rows (λ_=>rfl) (by decide);refine⟨o,_,rfl,Tri.mono (c142 (hd.globals.sub ho.sub) (hm.globals.sub ho.sub) hoR (by omega) (qFw p4) (by omega)) ?_⟩;rintro _ V2 ⟨gs,rfl,hg⟩;refine⟨gs,rfl,?_⟩;have hgR:=hg.rows (λ_=>rfl) (by decide);refine loop3b (mk:=λs:Sl=>.slice s.p s.n s.c) (mc:=λs:Sl=>.slice s.p s.n s.c) (b0:=gs) (c0:=⟨none,0,0⟩) qAH qAH (qBy d m).order.length (λi b c V3=>b=gs/\∃nd,CanAt d m V2 V3 c i nd) ⟨rfl,[],rfl,(λ_ _ _ h=>by omega),V2,Mem.sub.refl _,Own.nil (Mem.sub.refl _) _ _,(λ_ h=>by cases h)⟩ ?_;rintro i b s V3 J hi ⟨rfl,nd,C⟩ hJ;obtain⟨W,hW,l,hnd⟩:=C.mem;have X:V.sub V3:=((ho.sub.trans hg.sub).trans hW).trans l.sub;have Z:=hd.sub X;have Y:=hm.sub X;have A:=hoR.sub ((hg.sub.trans hW).trans l.sub);refine⟨λE=>?_,λhge=>?_⟩
 ·obtain⟨n,hnm,hn,-,hil,hp,hz,hrow⟩:=A.get E;have hr:=R.rng n hnm;obtain⟨k,rfl⟩:∃k:Nat,n=(k:Int)+1:=⟨(n-1).toNat,by omega⟩;have hnn:=Y.nodes.n_eq;obtain⟨z,I,hz',-,hl2,hpx,hzx,K⟩:=Y.nodes.get (i:=k) (by omega);obtain⟨c1,c2⟩:=of_decide_eq_true (p3 z I);obtain⟨j,hj⟩:∃j:Nat,z.ty=(j:Int):=⟨_,(uG c1).symm⟩;have htn:=Z.types.n_eq;obtain⟨t,htm,ht,-,hl3,M,hzt,T⟩:=Z.types.get (i:=j) (by omega);have hI:IR ((k:Int)):=⟨by omega,by omega⟩;have hfo:=qAU ht hj;have r:=p5 z I;rw[hfo]at r;refine⟨hp,hz,E,_,hrow,?_⟩;rw[show((k:Int)+1-1)=(k:Int)by omega];refine⟨hI,hpx,hzx,by omega,_,_,K,?_⟩;rw[hj];refine⟨M,hzt,by omega,qAf M,_,_,T,Tri.mono (c142 (Z.typesOk t htm).fields (Y.nodesOk z I).rows A (by omega) (qFw r) (by grind)) ?_⟩;rintro _ V4 ⟨fs,rfl,hf⟩;refine⟨fs,rfl,λtb htb=>?_⟩;have U:=Own.growS l hf.sub;have hfR:=hf.rows (λ_=>rfl) (by decide);obtain⟨nn,H⟩:∃nn:Nd,nn=⟨(j:Int),fs,renL (qBy d m).order t.fields z.f⟩:=⟨_,rfl⟩;have hblk:qAc (V4.but s) fs 1 ((renL (qBy d m).order t.fields z.f).map qAe):=by
   have:Sx.Own (λ_=>none) (V4.but s) 3 1 fs ((renL (qBy d m).order t.fields z.f).flatMap qAe):=⟨(λ_ _ h=>by cases h),hf.len,by
    rcases hf.at_ with h|⟨g,cur,a,b,c,dd⟩;·exact .inl h
    ·exact .inr ⟨g,cur,a,rfl,Mem.but_at c (l.apartN b),dd⟩⟩
   exact this.rows (λ_=>rfl) (by decide)
  have hn2:Nd.Ok (V4.but s) nn:=by
   rw[H];exact⟨hblk,⟨by simp_all,by show(j:Int)<=9223372036854775807;have:=(Z.types.succ (i:=j) (by omega)).2;omega⟩,ren_in (by omega) (Y.nodesOk z I).vals⟩
  have hlen:nd.length<=4096:=by rw[C.len];omega
  refine app32 (s:=s) (u:=⟨some ⟨tb,0,none⟩,1,1⟩) (xs:=nd) (ys:=[nn]) rfl rfl (U.but.new htb (.cells #[uI (j:Int),uL fs] 92 (0,0))) (qAc.cells (xs:=[nn]) (row:=Nd.row) mss (by rw[H];rfl) (λ_=>rfl) rfl (by simp)) (by simp;omega) λo2 V5 ho2=>⟨o2,rfl,A.succ E,hJ hil _ _ _ ⟨rfl,nd++[nn],by rw[zw,C.len];rfl,λq w x hq hw hx=>?_,V4.but s,hW.trans U.sub_but,ho2,λw hw=>?_⟩⟩
  ·by_cases hqi:q<i
   ·obtain⟨sl,hs⟩:=C.at_ q w x hqi hw hx;exact⟨sl,by rw[wB (by grind)];exact hs⟩
   ·have:q=i:=by omega
    subst this;rw[hn]at hw;cases hw;rw[show((k:Int)+1-1).toNat=k by omega,hz']at hx;cases hx;refine⟨fs,?_⟩;rw[<-C.len,List.getElem?_concat_length,H,hfo,hj]
  ·rcases xd.1 hw with hw|hw;·exact(hnd w hw).sub U.sub_but
   simp_all
 ·have hdn:=(A.done hge).2;have hi':i=(qBy d m).order.length:=by omega
  refine⟨X,⟨b,renL (qBy d m).order d.globals m.globals,s,nd⟩,rfl,⟨hgR.sub (hW.trans l.sub),ren_in (by omega) hm.gIn,l.rows (λ_=>rfl) (by decide),λn hn=>(hnd n hn).sub l.sub⟩,rfl,by rw[<-hi'];exact C.len,λj n x hj hx=>C.at_ j n x (by grind) hj hx⟩
end
section
variable{V:Mem}{d:Ds}{m:Mm}
theorem c132[Tab V](g:qAy d m=true)(u:Ds.Ok V d)(hm:Mm.Ok V m):Tri xE 132 #[d.v,m.v] V λe V'=>∃o:Sl,e=.returned (.tuple #[.slice o.p o.n o.c,.int .i64 0])/\Sx.Own V V' 3 1 o ((qBy d m).order.flatMap qAe):=by
 refine x132 ?_;refine(c44 u hm).call ⟨_,rfl,λ_=>Tri.mono (c176 g u hm) ?_,λh=>absurd g h⟩;rintro _ V2 ⟨p,ib,o,rfl,h⟩;exact⟨_,rfl,nn,nn,o,h.cell 10 1 (by decide),o,rfl,h.own⟩
end
theorem keys_len:∀(es:List MapEntry)(c:List Int),(∀e∈es,∃a,e.key=xa .i64 a)->es.Pairwise (λe f=>e.key≠f.key)->c.Nodup->(∀a,(qET es (.int .i64 a)).isSome=decide (a∈c))->es.length=c.length:=λes c r v H q=>by
 have h1:∃g:List Int,g.map (xa .i64)=es.map (·.key):=by
  clear v q;induction es with
  |nil=>exact⟨[],rfl⟩
  |cons e es J=>
   obtain⟨g,h⟩:=J λx w=>r x (by simp[w]);obtain⟨a,G⟩:=r e (by simp);exact⟨a::g,by simp_all⟩
 obtain⟨g,z⟩:=h1;have l:g.Nodup:=by
  grind[pair_keys]
 have u:∀a,a∈g↔a∈c:=λa=>by
  have h3:=q a;have h4:a∈g↔∃e∈es,e.key=xa .i64 a:=by
   have:xa .i64 a∈g.map (xa .i64)↔xa .i64 a∈es.map (·.key):=by rw[z]
   grind
  grind[qET]
 have Z:es.length=g.length:=by
  have:=congrArg List.length z;grind
 have a1:=nodup_le g c l λx w=>(u x).1 w;have a2:=nodup_le c g H λx w=>(u x).2 w;omega
theorem GenK.lenMap{P:Program}{V:Mem}{b:Nat}{f:Int->Option Value}{c:List Int}{t kt g ty:TypeId}(u:P.underlying t=some (.map kt g))(hm:qGv (xa .i64) V b f)(z:c.Nodup)(e:∀a,(f a).isSome=decide (a∈c)){x:Operand}{vals:Operand->Value}(l:vals x=.map (some b)){q:Value->Mem->Prop}(r:q (.int .i64 c.length) V):
  GenK P (.call {callee:=.builtin .len,args:=#[x],argTypes:=#[t]}) ty vals V q:=by
 intro w hw;obtain⟨es,cl,h1,h2,h3,h4⟩:=hm.at_;have h:=keys_len es.toList c h2 h3 z λa=>by grind
 refine⟨_,w,V,?_,Frm.refl hw,r⟩;unfold execOp;simp only[resolve,invoke,builtin,Sem.run_bind,Sem.run_pure,zL,List.map_toArray,List.map_cons,List.map_nil,l,Builtin.len_];simp only[List.getElem?_toArray,List.getElem?_cons_zero,Sem.run_bind,run_underlying u,zL,MapKept.run_getObj_map (hw _ _ h1),Sem.run_pure];grind[goInt]
section
variable{V0 V:Mem}{p k n:Nat}{c:List Int}{b:Int}
theorem c63(h:qKg p k c n V0 V)(hk:1<=k/\k<=1000)(hb:0<=b/\b<=1048576)(hn:n<2147483648):Tri xE 63 #[pv p,.int .i64 b] V λe V'=>e=.returned (.tuple #[.bool (decide (b∈c)),.int .i64 0])/\qKg p k (tch k c b) (n+if b∈c then 0 else 1) V0 V':=by
 obtain⟨mb,S,B,N,P,L,f,h,u⟩:=h;obtain⟨R,hR⟩:∃R:Ending->Mem->Prop,R=λe V'=>e=.returned (.tuple #[.bool (decide (b∈c)),.int .i64 0])/\qKg p k (tch k c b) (n+if b∈c then 0 else 1) V0 V':=⟨_,rfl⟩;rw[<-hR];refine x63 ?_;refine⟨λh=>absurd h nn,λ_=>⟨λh=>absurd hb.1 (Int.not_le.2 h),λ_=>⟨λh=>absurd hb.2 (Int.not_le.2 h),λ_=>⟨nn,nn,_,h.cell 2 1 (by decide),?_⟩⟩⟩⟩;refine qBH.key2 (k:=b) (qGW wi) uF qGa h.mp ?_;have hNl:=u.nl;have hPl:=u.pl;have hBl:=u.bl;by_cases w:b∈c
 ·-- a hit
  obtain⟨i,s,hci,l,r⟩:=u.hit w;obtain⟨pr,nx,k1,k2,k3,k4,k5⟩:=u.around l;have hsr:=u.rng s (xp l);rw[r];refine⟨s,true,rfl,λ_=>?_,λh=>absurd rfl h⟩;refine Tri.mono (c99 h k1 k2 (by omega) (by omega)) ?_;rintro _ V1 ⟨rfl,h1⟩;refine⟨rfl,λ_=>?_,λh=>absurd rfl h⟩;obtain⟨q,z,Y⟩:∃q:Nat,(N.set pr nx)[0]?=some (q:Int)/\q<B.length:=by
   by_cases e:pr=0;·grind
   ·obtain⟨q,h1,h2⟩:=u.head;grind
  refine Tri.mono (c100 h1 z (by simp_all) (by simp_all) (by simp_all) (by omega)) ?_;rintro _ V2 ⟨rfl,h2⟩;refine⟨rfl,?_⟩;rw[hR,decide_eq_true w,if_pos w];refine⟨rfl,mb,S,B,_,_,s::(L.take i++L.drop (i+1)),f,h2,?_⟩;unfold tch;rw[if_pos w];exact u.touch hci l k5 z
 ·-- a miss
  have r:=u.no b w;rw[r];refine⟨0,false,rfl,?_⟩;refine⟨λh=>absurd h (by decide),λ_=>⟨nn,nn,_,h.cell 2 1 (by decide),nn,nn,_,h.cell 0 1 (by decide),?_⟩⟩;refine GenK.lenMap uF h.mp u.cn (λa=>by rw[Option.isSome_map];exact u.dec) rfl ?_;have hcap:=u.cap;have A:R=λe V'=>e=.returned (.tuple #[.bool false,.int .i64 0])/\qKg p k (b::c.take (k-1)) (n+1) V0 V':=by
   grind[tch]
  refine⟨_,rfl,qAN h.at_ 0 0 1 (by simp[crow]),nn,nn,λhlt=>?_,λhge=>?_⟩
  ·have v:c.length<k:=by omega
   obtain⟨q,z,Y⟩:=u.head;have hSn:=(h.bo.rows (row:=qAe) (xs:=B) (λ_=>rfl) (by decide)).n_eq;have hB1:B.length<=1001:=by have:=u.cl;omega
   have one:∀{U:Mem}{t:Nat}{x:Int},U t=none->qAc (U.set t (.cells #[.int .i64 x] 3 (0,0))) ⟨some ⟨t,0,none⟩,1,1⟩ 1 ([x].map qAe):=λ{U t x} ht=>qAc.cells (xs:=[x]) (row:=qAe) mss rfl (λ_=>rfl) rfl (by simp);refine⟨nn,nn,_,h.cell 3 1 (by decide),nn,nn,_,h.cell 3 1 (by decide),nn,nn,_,h.cell 4 1 (by decide),nn,nn,_,h.cell 5 1 (by decide),?_⟩;rw[show(S.b.n:Int)=((B.length:Nat):Int)by rw[hSn]]
   repeat' apply xS
   all_goals first
    |exact nn
    |exact qAN h.at_ 3 0 1 (by simp[crow])
    |exact qAN h.at_ 4 0 1 (by simp[crow])
    |exact qAN h.at_ 5 0 1 (by simp[crow])
    |skip
   all_goals
    intro b1 I;refine qCU (s:=S.b) (xs:=B) (ys:=[b]) rfl rfl (h.bo.but.new I _) (one I) (by simp;omega) λM V3 o1=>⟨M,rfl,?_⟩;have h3:=h.pushB o1
    repeat' apply xS
    all_goals first
     |exact nn
     |exact qAN h3.at_ 4 0 1 (by simp[crow])
     |exact qAN h3.at_ 5 0 1 (by simp[crow])
     |skip
    all_goals
     intro b2 X;refine qCU (s:=S.n) (xs:=N) (ys:=[0]) rfl rfl (h3.no.but.new X _) (one X) (by simp;omega) λK V5 o2=>⟨K,rfl,?_⟩;have H:=h3.pushN o2
     repeat' apply xS
     all_goals first
      |exact nn
      |exact qAN H.at_ 5 0 1 (by simp[crow])
      |skip
     intro b3 C;refine qCU (s:=S.p) (xs:=P) (ys:=[0]) rfl rfl (H.po.but.new C _) (one C) (by simp;omega) λs3 V7 o3=>⟨s3,rfl,?_⟩;have T:=H.pushP o3;refine⟨nn,nn,StT.at2 (off:=3) T.at_ (by simp[crow]) ?_⟩;have h8:=T.fields ⟨M,S.n,S.p⟩;refine⟨nn,nn,StT.at2 (off:=4) h8.at_ (by simp[crow]) ?_⟩;have h9:=h8.fields ⟨M,K,S.p⟩;refine⟨nn,nn,StT.at2 (off:=5) h9.at_ (by simp[crow]) ⟨λh=>absurd h (by decide),λ_=>?_⟩⟩;have J:=h9.fields ⟨M,K,s3⟩;refine⟨nn,nn,_,J.cell 1 1 (by decide),⟨by omega,by omega⟩,nn,nn,StT.at2 (off:=1) J.at_ (by simp[crow]) ?_⟩;have G:=J.put ((n:Int)+1);refine⟨nn,nn,_,G.cell 2 1 (by decide),qEb.key (k:=b) (qGW wi) uF G.mp λom Z=>?_⟩;have h12:=G.map (g:=λx=>if x=b then some ((B.length:Nat):Int)else f x) (Z.congr λx=>by by_cases e:x=b<;>simp[e]);refine Tri.mono (c100 h12 (s:=B.length) (q:=q) (by rw[wB (yv.1 z).1];exact z) (by rw[zw,xe];omega) (by rw[zw,xe];omega) (by rw[zw,xe];omega) (by omega)) ?_;rintro _ V13 ⟨rfl,h13⟩;refine⟨rfl,?_⟩;rw[A];refine⟨rfl,mb,⟨M,K,s3⟩,B++[b],_,_,B.length::L,_,h13,?_⟩;rw[wx (by omega)];exact u.room w v (by rw[wB (yv.1 z).1];exact z)
  ·have v:c.length=k:=by omega
   obtain⟨s,pr,nx,o,k1,k2,k3,k4,k5,k6,k7,k8,k9⟩:=u.full w hk.1 v;obtain⟨p1,p2,p3,p4⟩:=qCy (h.po.rows (λ_=>rfl) (by decide)) k1;refine⟨nn,nn,_,h.cell 5 1 (by decide),p1,p2,p3,_,p4,Tri.mono (c99 h k5 k6 (by omega) (by omega)) ?_⟩;rintro _ V2 ⟨rfl,h2⟩;obtain⟨b1,b2,b3,b4⟩:=qCy (h2.bo.rows (λ_=>rfl) (by decide)) k4;refine⟨rfl,nn,nn,_,h2.cell 2 1 (by decide),nn,nn,_,h2.cell 3 1 (by decide),b1,b2,b3,_,b4,GenK.delete (k:=o) (qGW wi) uF h2.mp rfl rfl λom Z=>?_⟩;have h3:=h2.map (g:=λx=>if x=o then none else f x) (Z.congr λx=>by grind);refine⟨rfl,nn,nn,_,h3.cell 3 1 (by decide),b1,b2,b3,h3.setB k3 λV4 h4=>⟨λh=>absurd h (by decide),λ_=>?_⟩⟩;refine⟨nn,nn,_,h4.cell 1 1 (by decide),⟨by omega,by omega⟩,nn,nn,StT.at2 (off:=1) h4.at_ (by simp[crow]) ?_⟩;have H:=h4.put ((n:Int)+1);refine⟨nn,nn,_,H.cell 2 1 (by decide),qEb.key (k:=b) (qGW wi) uF H.mp λom2 E=>?_⟩;have h6:=H.map (g:=λx=>if x=b then some (s:Int)else if x=o then none else f x) (E.congr λx=>by grind);obtain⟨q,z,Y⟩:∃q:Nat,(N.set pr nx)[0]?=some (q:Int)/\q<B.length:=by
    by_cases e:pr=0;·grind
    ·obtain⟨q,h1,h2⟩:=u.head;grind
   refine Tri.mono (c100 h6 z (by simp_all) (by simp_all) (by simp_all) (by omega)) ?_;rintro _ V7 ⟨rfl,T⟩;refine⟨rfl,?_⟩;rw[A];exact⟨rfl,mb,S,_,_,_,s::L.take (k-1),_,T,k9 q z⟩
end
end Go.Proofs
