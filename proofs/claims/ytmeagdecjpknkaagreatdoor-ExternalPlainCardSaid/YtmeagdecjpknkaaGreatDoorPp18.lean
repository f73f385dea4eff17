/- Part 18 of a proof of a law of this seat: no statement of the seat is proved here. -/
import Derived.Test.YtmeagdecjpknkaaGreatDoorPp17
import Derived.Test.YtmeagdecjpknkaaGreatDoorPp16
import Derived.Test.YtmeagdecjpknkaaGreatDoorPp09
import Derived.Test.YtmeagdecjpknkaaGreatDoorPp15
import Derived.Test.YtmeagdecjpknkaaGreatDoorPp12
set_option linter.unusedVariables false
set_option linter.unusedSimpArgs false
namespace Go.Proofs
structure CaI (k:Nat) (c B N P:List Int) (L:List Nat) (f:Int->Option Int):Prop where
 bl:B.length=L.length+1
 nl:N.length=B.length
 pl:P.length=B.length
 ring:chain N P 0 L
 nd:L.Nodup
 rng:∀s∈L,1<=s/\s<B.length
 cl:c.length=L.length
 at_:∀(i:Nat) (s:Nat) (b:Int),L[i]?=some s->c[i]?=some b->B[s]?=some b/\f b=some (s:Int)
 cn:c.Nodup
 no:∀b,b ∉ c->f b=none
 cap:c.length<=k
section
variable{k:Nat}{c B N P:List Int}{L:List Nat}{f:Int->Option Int}{b:Int}
theorem CaI.new(hk:1<=k):CaI k [] [-1] [0] [0] [] fun _=>none:=⟨rfl,rfl,rfl,⟨rfl,rfl⟩,List.nodup_nil,by simp,rfl,by simp,List.nodup_nil,fun _ _=>rfl,by simp⟩
theorem CaI.hit(h:CaI k c B N P L f)(hb:b∈c):∃(i s:Nat),c[i]?=some b/\L[i]?=some s/\f b=some (s:Int):=by
 obtain⟨i,hi⟩:=List.mem_iff_getElem?.1 hb
 have hl:=(List.getElem?_eq_some_iff.1 hi).1
 have hs:=List.getElem?_eq_getElem (l:=L) (i:=i) (by rw[<- h.cl];exact hl)
 exact⟨i,_,hi,hs,(h.at_ i _ b hs hi).2⟩
theorem CaI.dec(h:CaI k c B N P L f):(f b).isSome=decide (b∈c):=by
 by_cases hb:b∈c
 ·obtain⟨i,s,-,-,e⟩:=h.hit hb
  rw[e,decide_eq_true hb];rfl
 ·rw[h.no b hb,decide_eq_false hb];rfl
theorem qFR{α:Type}{l:List α}{i:Nat}{x:α}(h:l[i]?=some x):l=l.take i++x::l.drop (i+1):=by
 obtain⟨hl,rfl⟩:=List.getElem?_eq_some_iff.1 h
 rw[List.getElem_cons_drop,List.take_append_drop]
theorem CaI.zero(h:CaI k c B N P L f):0 ∉ L/\(0::L).Nodup:=by
 have h0:0 ∉ L:=fun h'=>by have:=h.rng 0 h';omega
 exact⟨h0,List.nodup_cons.2 ⟨h0,h.nd⟩⟩
theorem CaI.head(h:CaI k c B N P L f):∃n:Nat,N[0]?=some (n:Int)/\n<B.length:=by
 have hr:=h.ring
 cases hL:L with
 | nil=>rw[hL]at hr;exact⟨0,hr.1,by rw[h.bl];omega⟩
 | cons s L' =>
  rw[hL]at hr
  exact⟨s,hr.1,(h.rng s (by rw[hL];simp)).2⟩
theorem CaI.around(h:CaI k c B N P L f){i s:Nat}(hs:L[i]?=some s):∃p n:Nat,P[s]?=some (p:Int)/\N[s]?=some (n:Int)/\p<B.length/\n<B.length/\chain (N.set p n) (P.set n p) 0 (L.take i++L.drop (i+1)):=by
 have e:=qFR hs
 have hr:=h.ring
 obtain⟨h0,h1⟩:=h.zero
 rw[e]at hr h0 h1
 obtain⟨p,n,k1,k2,k3,k4⟩:=qKW hr
 have hpm:p∈0::L.take i:=by rw[k3];exact List.getLast_mem _
 have hnm:n∈L.drop (i+1)++[0]:=by rw[k4];exact List.head_mem _
 have lt:∀x,x∈L∨x=0->x<B.length:=fun x hx=>by
  rcases hx with hx|rfl
  ·exact(h.rng x hx).2
  ·rw[h.bl];omega
 refine⟨p,n,k1,k2,lt p ?_,lt n ?_,chain_cut hr h1 h0 k1 k2⟩
 ·rcases List.mem_cons.1 hpm with h|h
  ·exact .inr h
  ·exact .inl (List.mem_of_mem_take h)
 ·rcases List.mem_append.1 hnm with h|h
  ·exact .inl (List.mem_of_mem_drop h)
  ·exact .inr (List.mem_singleton.1 h)
theorem erase_at{c:List Int}(hn:c.Nodup){i:Nat}(hi:c[i]?=some b):c.erase b=c.take i++c.drop (i+1):=by
 have e:=qFR hi
 have hn':=hn
 rw[e]at hn'
 have:b ∉ c.take i:=fun h=>by
  rw[List.nodup_append]at hn'
  exact hn'.2.2 b h b (by simp) rfl
 conv=>lhs;rw[e]
 rw[List.erase_append_right _ this,List.erase_cons_head]
theorem get_cut{α:Type}{l:List α}{i j:Nat}(hi:i<l.length):(l.take i++l.drop (i+1))[j]?=if j<i then l[j]? else l[j+1]?:=by
 by_cases h:j<i
 ·rw[if_pos h,List.getElem?_append_left (by rw[List.length_take];omega),List.getElem?_take,if_pos h]
 ·rw[if_neg h,List.getElem?_append_right (by rw[List.length_take];omega),List.length_take,Nat.min_eq_left (by omega),List.getElem?_drop]
  congr 1;omega
theorem CaI.touch(h:CaI k c B N P L f){i s p n q:Nat}(hc:c[i]?=some b)(hs:L[i]?=some s)(hr:chain (N.set p n) (P.set n p) 0 (L.take i++L.drop (i+1)))(h0:(N.set p n)[0]?=some (q:Int)) :
  CaI k (b::c.erase b) B (((N.set p n).set s q).set 0 s) (((P.set n p).set s 0).set q s) (s::(L.take i++L.drop (i+1))) f:=by
 have hil:=(List.getElem?_eq_some_iff.1 hs).1
 have hsm:=List.mem_of_getElem? hs
 have hsr:=h.rng s hsm
 have e:=qFR hs
 obtain⟨z0,z1⟩:=h.zero
 have hnd:=h.nd
 rw[e]at hnd z0 z1
 have hcl:=h.cl
 have ec:=erase_at h.cn hc
 have hsub:∀x∈L.take i++L.drop (i+1),x∈L:=fun x hx=>by
  rcases List.mem_append.1 hx with hx|hx
  ·exact List.mem_of_mem_take hx
  ·exact List.mem_of_mem_drop hx
 have nd2:(s::(L.take i++L.drop (i+1))).Nodup:=by grind
 have len2:(L.take i++L.drop (i+1)).length+1=L.length:=by rw[List.length_append,List.length_take,List.length_drop];omega
 refine⟨by rw[List.length_cons,len2];exact h.bl,by simp[h.nl],by simp[h.pl],qFD hr (by grind) (by grind) h0 (by simp[h.nl];omega) (by simp[h.pl];omega),nd2,fun x hx=>?_,?_,fun j t y hj hy=>?_,?_,fun y hy=>h.no y fun hy'=>hy ?_,?_⟩
 ·rcases List.mem_cons.1 hx with rfl|hx
  ·exact hsr
  ·exact h.rng x (hsub x hx)
 ·rw[ec,List.length_cons,List.length_cons,len2,List.length_append,List.length_take,List.length_drop];omega
 ·cases j with
  | zero=>cases hj;cases hy;exact h.at_ i s b hs hc
  | succ j =>
   rw[List.getElem?_cons_succ,get_cut hil]at hj
   rw[List.getElem?_cons_succ,ec,get_cut (by omega)]at hy
   split at hj
   ·rename_i hji;rw[if_pos hji]at hy;exact h.at_ j t y hj hy
   ·rename_i hji;rw[if_neg hji]at hy;exact h.at_ _ t y hj hy
 ·exact nodup_mtf h.cn
 ·exact(mem_mtf (T:=c)).2 (.inr hy')
 ·have:=mtf_len_mem (List.mem_of_getElem? hc)
  unfold mtf at this
  rw[this];exact h.cap
theorem CaI.room(h:CaI k c B N P L f)(hb:b ∉ c)(hk:c.length<k){q:Nat}(h0:(N++[0])[0]?=some (q:Int)) :
  CaI k (b::c) (B++[b]) (((N++[0]).set B.length q).set 0 (B.length:Nat)) (((P++[0]).set B.length 0).set q (B.length:Nat)) (B.length::L) (fun x=>if x=b then some (B.length:Int) else f x):=by
 obtain⟨z0,z1⟩:=h.zero
 have hbl:=h.bl
 have hx:B.length ∉ 0::L:=fun hm=>by
  rcases List.mem_cons.1 hm with e|e
  ·omega
  ·have:=h.rng _ e;omega
 refine⟨by simp[hbl],by simp[h.nl],by simp[h.pl],qFD (chain_app h.ring) hx z1 h0 (by simp[h.nl]) (by simp[h.pl]),List.nodup_cons.2 ⟨fun h=>hx (by simp[h]),h.nd⟩,fun x hx=>?_,by simp[h.cl],fun j t y hj hy=>?_,List.nodup_cons.2 ⟨hb,h.cn⟩,fun y hy=>?_,by rw[List.length_cons];omega⟩
 ·rw[List.length_append,List.length_singleton]
  rcases List.mem_cons.1 hx with rfl|hx
  ·omega
  ·have:=h.rng x hx;omega
 ·cases j with
  | zero =>
   cases hj;cases hy
   exact⟨by rw[List.getElem?_append_right (Nat.le_refl _),Nat.sub_self];rfl,if_pos rfl⟩
  | succ j =>
   rw[List.getElem?_cons_succ]at hj hy
   obtain⟨k1,k2⟩:=h.at_ j t y hj hy
   refine⟨?_,?_⟩
   ·rw[List.getElem?_append_left (List.getElem?_eq_some_iff.1 k1).1];exact k1
   ·rw[if_neg fun e=>hb (by rw[<- e];exact List.mem_of_getElem? hy)];exact k2
 ·have hy:¬(y=b∨y∈c):=by simpa using hy
  rw[not_or]at hy
  show (if y=b then _ else f y)=none
  rw[if_neg hy.1];exact h.no y hy.2
theorem CaI.full(h:CaI k c B N P L f)(hb:b ∉ c)(hk:1<=k)(hf:c.length=k):∃(s p n:Nat) (o:Int),P[0]?=some (s:Int)/\1<=s/\s<B.length/\B[s]?=some o/\P[s]?=some (p:Int)/\N[s]?=some (n:Int)/\p<B.length/\n<B.length/\∀q:Nat,(N.set p n)[0]?=some (q:Int) ->
  CaI k (b::c.take (k-1)) (B.set s b) (((N.set p n).set s q).set 0 s) (((P.set n p).set s 0).set q s) (s::L.take (k-1)) (fun x=>if x=b then some (s:Int) else if x=o then none else f x):=by
 have hcl:=h.cl
 have hi:k-1<L.length:=by omega
 have hs:=List.getElem?_eq_getElem hi
 obtain⟨s,hsd⟩:∃s,s=L[k-1]:=⟨_,rfl⟩
 rw[<- hsd]at hs
 have hc:=List.getElem?_eq_getElem (l:=c) (i:=k-1) (by omega)
 obtain⟨o,hod⟩:∃o,o=c[k-1]'(by omega):=⟨_,rfl⟩
 rw[<- hod]at hc
 obtain⟨p,n,k1,k2,k3,k4,k5⟩:=h.around hs
 rw[List.drop_of_length_le (by omega),List.append_nil]at k5
 have hsm:=List.mem_of_getElem? hs
 have hsr:=h.rng s hsm
 obtain⟨b1,b2⟩:=h.at_ _ s o hs hc
 obtain⟨z0,z1⟩:=h.zero
 have e:=qFR hs
 rw[List.drop_of_length_le (by omega)]at e
 have ec:=qFR hc
 rw[List.drop_of_length_le (by omega)]at ec
 have hl0:=qJR h.ring
 have hlast:(0::L).getLast (by simp)=s:=by
  conv=>lhs;arg 1;rw[e]
  rw[List.getLast_cons (by simp)];simp
 rw[hlast]at hl0
 have hnd:=h.nd
 rw[e]at hnd
 have cnd:=h.cn
 rw[ec]at cnd
 have hst:s ∉ L.take (k-1):=fun hm=>by
  rw[List.nodup_append]at hnd
  exact hnd.2.2 s hm s (by simp) rfl
 have hot:o ∉ c.take (k-1):=fun hm=>by
  rw[List.nodup_append]at cnd
  exact cnd.2.2 o hm o (by simp) rfl
 have hbt:b ∉ c.take (k-1):=fun hm=>hb (List.mem_of_mem_take hm)
 have hob:o≠b:=fun e=>hb (by rw[<- e];exact List.mem_of_getElem? hc)
 refine⟨s,p,n,o,hl0,hsr.1,hsr.2,b1,k1,k2,k3,k4,fun q hq=>⟨?_,by simp[h.nl],by simp[h.pl],?_,List.nodup_cons.2 ⟨hst,(List.nodup_append.1 hnd).1⟩,fun x hx=>?_,?_,fun j t y hj hy=>?_,List.nodup_cons.2 ⟨hbt,(List.nodup_append.1 cnd).1⟩,fun y hy=>?_,?_⟩⟩
 ·rw[List.length_set,List.length_cons,List.length_take];have:=h.bl;omega
 ·refine qFD k5 (fun hm=>?_) (List.nodup_cons.2 ⟨fun hm=>z0 (List.mem_of_mem_take hm),(List.nodup_append.1 hnd).1⟩) hq (by simp[h.nl];omega) (by simp[h.pl];omega)
  rcases List.mem_cons.1 hm with e|e
  ·omega
  ·exact hst e
 ·rw[List.length_set]
  rcases List.mem_cons.1 hx with rfl|hx
  ·exact hsr
  ·exact h.rng x (List.mem_of_mem_take hx)
 ·rw[List.length_cons,List.length_cons,List.length_take,List.length_take];omega
 ·cases j with
  | zero =>
   cases hj;cases hy
   exact⟨List.getElem?_set_self hsr.2,if_pos rfl⟩
  | succ j =>
   rw[List.getElem?_cons_succ]at hj hy
   have ht:=List.mem_of_getElem? hj
   have hyc:=List.mem_of_getElem? hy
   rw[List.getElem?_take]at hj hy
   split at hj
   ·rename_i hjk
    rw[if_pos hjk]at hy
    obtain⟨r1,r2⟩:=h.at_ j t y hj hy
    refine⟨?_,?_⟩
    ·rw[List.getElem?_set_ne fun e=>hst (by rw[e];exact ht)];exact r1
    ·rw[if_neg fun e=>hbt (by rw[<- e];exact hyc),if_neg fun e=>hot (by rw[<- e];exact hyc)];exact r2
   ·cases hj
 ·have hy:¬(y=b∨y∈c.take (k-1)):=by simpa using hy
  rw[not_or]at hy
  show (if y=b then _ else if y=o then none else f y)=none
  rw[if_neg hy.1]
  split
  ·rfl
  ·rename_i ho
   refine h.no y fun hm=>?_
   rw[ec]at hm
   rcases List.mem_append.1 hm with hm|hm
   ·exact hy.2 hm
   ·exact ho (by simpa using hm)
 ·rw[List.length_cons,List.length_take];omega
end
end Go.Proofs
namespace Go.Proofs
open Go Go.Sx
attribute [local irreducible] Go.Sx.Tri
structure Sl3 where
 b:Sl
 n:Sl
 p:Sl
def crow(k n:Int)(mb:Nat)(F:Sl3):List Value:=[.int .i64 k,.int .i64 n,.map (some mb),F.b.v,F.n.v,F.p.v]
theorem qEW(l:List Int)(i:Nat)(x:Int):(l.flatMap qAe).set i (.int .i64 x)=(l.set i x).flatMap qAe:=by rw[qBe,qBe,List.map_set]
theorem qEX(l:List Int):(l.flatMap qAe).length=l.length:=by rw[qBe,List.length_map]
theorem ntCache:∀(cur:Array Value) (r:Array Value),Obj.cells cur 3 (0,0)≠Obj.cells r 134 (0,0):=fun _ _ h=>by
 have:=Obj.cells.inj h
 exact absurd this.2.1 (by decide)
structure CaL (V0 V:Mem) (p:Nat) (k n:Int) (mb:Nat) (F S:Sl3) (B N P:List Int) (f:Int->Option Int):Prop where
 at_:V p=some (.cells (crow k n mb F).toArray 134 (0,0))
 mp:qFK (Value.int .i64) V mb fun b=>(f b).map (Value.int .i64)
 p0:V0 p=none
 m0:V0 mb=none
 bo:Sx.Own V0 V 3 1 S.b (B.flatMap qAe)
 no:Sx.Own V0 V 3 1 S.n (N.flatMap qAe)
 po:Sx.Own V0 V 3 1 S.p (P.flatMap qAe)
 bn:∀c,Blk S.b c->¬Blk S.n c
 bp:∀c,Blk S.b c->¬Blk S.p c
 np:∀c,Blk S.n c->¬Blk S.p c
section
variable{V0 V V':Mem}{p mb:Nat}{k n:Int}{F S:Sl3}{B N P:List Int}{f:Int->Option Int}
theorem CaL.pm(h:CaL V0 V p k n mb F S B N P f):p≠mb:=fun e=>by
 obtain⟨es,c,h1,-⟩:=h.mp.at_
 rw[<- e,h.at_]at h1;cases h1
theorem CaL.nB(h:CaL V0 V p k n mb F S B N P f):(¬Blk S.b p/\¬Blk S.n p/\¬Blk S.p p)/\(¬Blk S.b mb/\¬Blk S.n mb/\¬Blk S.p mb):=by
 have go:∀{s:Sl} {vs:List Value},Sx.Own V0 V 3 1 s vs->¬Blk s p/\¬Blk s mb:=fun {s vs} o=>by
  refine⟨fun hb=>?_,fun hb=>?_⟩
  ·obtain⟨cur,hc⟩:=Own.some o hb
   rw[h.at_]at hc
   exact ntCache cur _ (Option.some.inj hc).symm
  ·obtain⟨cur,hc⟩:=Own.some o hb
   obtain⟨es,c,h1,-⟩:=h.mp.at_
   rw[h1]at hc;cases hc
 exact⟨⟨(go h.bo).1,(go h.no).1,(go h.po).1⟩,(go h.bo).2,(go h.no).2,(go h.po).2⟩
theorem CaL.sub(h:CaL V0 V p k n mb F S B N P f):V0.sub V:=h.bo.sub
theorem CaL.cell(h:CaL V0 V p k n mb F S B N P f)(i m:Nat)(hi:i+m<=6):V.rowp (sa p) i m=some (((crow k n mb F).drop i).take m):=qAd h.at_ i m hi
theorem qEx{W W':Mem}{b:Nat}{g:Int->Option Value}(h:qFK (Value.int .i64) W b g)(hk:W' b=W b):qFK (Value.int .i64) W' b g:=by
 obtain⟨es,c,h1,h2⟩:=h.at_
 exact⟨es,c,by rw[hk];exact h1,h2⟩
theorem CaL.setN(h:CaL V0 V p k n mb F S B N P f){i:Nat}(hi:i<N.length){x:Int}{q:Mem->Prop}(hq:∀V',CaL V0 V' p k n mb F S B (N.set i x) P f->q V'):StT (qAa S.n.p (i*1)) 0 [.int .i64 x] V q:=by
 rw[Nat.mul_one]
 obtain⟨⟨b1,b2,b3⟩,m1,m2,m3⟩:=h.nB
 refine Own.store h.no (by rw[qEX];exact hi) fun V' ho hk=>hq V' ?_
 rw[qEW]at ho
 exact⟨by rw[hk p b2];exact h.at_,qEx h.mp (hk mb m2),h.p0,h.m0,Own.moveB h.bo ho.sub fun g cur hg hc=>by rw[hk g (h.bn g hg)];exact hc,ho,Own.moveB h.po ho.sub fun g cur hg hc=>by rw[hk g fun hb=>h.np g hb hg];exact hc,h.bn,h.bp,h.np⟩
theorem CaL.setP(h:CaL V0 V p k n mb F S B N P f){i:Nat}(hi:i<P.length){x:Int}{q:Mem->Prop}(hq:∀V',CaL V0 V' p k n mb F S B N (P.set i x) f->q V'):StT (qAa S.p.p (i*1)) 0 [.int .i64 x] V q:=by
 rw[Nat.mul_one]
 obtain⟨⟨b1,b2,b3⟩,m1,m2,m3⟩:=h.nB
 refine Own.store h.po (by rw[qEX];exact hi) fun V' ho hk=>hq V' ?_
 rw[qEW]at ho
 exact⟨by rw[hk p b3];exact h.at_,qEx h.mp (hk mb m3),h.p0,h.m0,Own.moveB h.bo ho.sub fun g cur hg hc=>by rw[hk g (h.bp g hg)];exact hc,Own.moveB h.no ho.sub fun g cur hg hc=>by rw[hk g (h.np g hg)];exact hc,ho,h.bn,h.bp,h.np⟩
theorem CaL.setB(h:CaL V0 V p k n mb F S B N P f){i:Nat}(hi:i<B.length){x:Int}{q:Mem->Prop}(hq:∀V',CaL V0 V' p k n mb F S (B.set i x) N P f->q V'):StT (qAa S.b.p (i*1)) 0 [.int .i64 x] V q:=by
 rw[Nat.mul_one]
 obtain⟨⟨b1,b2,b3⟩,m1,m2,m3⟩:=h.nB
 refine Own.store h.bo (by rw[qEX];exact hi) fun V' ho hk=>hq V' ?_
 rw[qEW]at ho
 exact⟨by rw[hk p b1];exact h.at_,qEx h.mp (hk mb m1),h.p0,h.m0,ho,Own.moveB h.no ho.sub fun g cur hg hc=>by rw[hk g fun hb=>h.bn g hb hg];exact hc,Own.moveB h.po ho.sub fun g cur hg hc=>by rw[hk g fun hb=>h.bp g hb hg];exact hc,h.bn,h.bp,h.np⟩
theorem CaL.put(h:CaL V0 V p k n mb F S B N P f)(n':Int):CaL V0 (V.set p (.cells (crow k n' mb F).toArray 134 (0,0))) p k n' mb F S B N P f:=by
 obtain⟨⟨b1,b2,b3⟩,-⟩:=h.nB
 exact⟨Mem.set_same _ _ _,qEx h.mp (Mem.set_ne h.pm.symm),h.p0,h.m0,h.bo.put b1 h.p0 _,h.no.put b2 h.p0 _,h.po.put b3 h.p0 _,h.bn,h.bp,h.np⟩
theorem CaL.map(h:CaL V0 V p k n mb F S B N P f){o:Obj}{g:Int->Option Int}(hm:qFK (Value.int .i64) (V.set mb o) mb fun b=>(g b).map (Value.int .i64)):CaL V0 (V.set mb o) p k n mb F S B N P g:=by
 obtain⟨-,m1,m2,m3⟩:=h.nB
 exact⟨by rw[Mem.set_ne h.pm];exact h.at_,hm,h.p0,h.m0,h.bo.put m1 h.m0 _,h.no.put m2 h.m0 _,h.po.put m3 h.m0 _,h.bn,h.bp,h.np⟩
theorem qFs{W V V1:Mem}{s s':Sl}{xs:List Value}(o:Sx.Own W V 3 1 s xs){ys:List Value}(h:Sx.Own (V.but s) V1 3 1 s' ys):Sx.Own W V1 3 1 s' ys/\(∀c,¬Blk s c->V c≠none->V1 c=V c)/\∀c,Blk s' c->Blk s c∨V c=none:=by
 refine⟨h.narrow o.sub_but,fun c hc hv=>?_,fun c hc=>?_⟩
 ·cases e:V c with
  | none=>exact absurd e hv
  | some x=>exact h.sub _ _ (Mem.but_at e hc)
 ·have h0:=Own.none0 h hc
  by_cases hb:Blk s c
  ·exact .inl hb
  ·right
   cases hv:V c with
   | none=>rfl
   | some o=>rw[Mem.but_at hv hb]at h0;cases h0
theorem CaL.pushB(h:CaL V0 V p k n mb F S B N P f){V1:Mem}{s':Sl}{x:Int}(o:Sx.Own (V.but S.b) V1 3 1 s' ((B++[x]).flatMap qAe)):CaL V0 V1 p k n mb F ⟨s',S.n,S.p⟩ (B++[x]) N P f:=by
 obtain⟨⟨b1,b2,b3⟩,m1,m2,m3⟩:=h.nB
 obtain⟨o1,hk,hn⟩:=qFs h.bo o
 have some:∀{s:Sl} {vs:List Value},Sx.Own V0 V 3 1 s vs->∀c,Blk s c->V c≠none:=fun {s vs} o c hc=>by obtain⟨cur,h⟩:=Own.some o hc;rw[h];simp
 have mv:∀{s:Sl} {vs:List Value},Sx.Own V0 V 3 1 s vs->(∀c,Blk S.b c->¬Blk s c)->Sx.Own V0 V1 3 1 s vs:=fun {s vs} o hd=>Own.moveB o o1.sub fun g cur hg hc=>by rw[hk g (fun hb=>hd g hb hg) (by rw[hc];simp)];exact hc
 have far:∀{s:Sl} {vs:List Value},Sx.Own V0 V 3 1 s vs->(∀c,Blk S.b c->¬Blk s c)->∀c,Blk s' c->¬Blk s c:=fun {s vs} o hd c hc hs=>(hn c hc).elim (fun hb=>hd c hb hs) (some o c hs)
 have em:V mb≠none:=by obtain⟨es,c,h1,-⟩:=h.mp.at_;rw[h1];simp
 exact⟨by rw[hk p b1 (by rw[h.at_];simp)];exact h.at_,qEx h.mp (hk mb m1 em),h.p0,h.m0,o1,mv h.no h.bn,mv h.po h.bp,far h.no h.bn,far h.po h.bp,h.np⟩
theorem CaL.pushN(h:CaL V0 V p k n mb F S B N P f){V1:Mem}{s':Sl}{x:Int}(o:Sx.Own (V.but S.n) V1 3 1 s' ((N++[x]).flatMap qAe)):CaL V0 V1 p k n mb F ⟨S.b,s',S.p⟩ B (N++[x]) P f:=by
 obtain⟨⟨b1,b2,b3⟩,m1,m2,m3⟩:=h.nB
 obtain⟨o1,hk,hn⟩:=qFs h.no o
 have some:∀{s:Sl} {vs:List Value},Sx.Own V0 V 3 1 s vs->∀c,Blk s c->V c≠none:=fun {s vs} o c hc=>by obtain⟨cur,h⟩:=Own.some o hc;rw[h];simp
 have mv:∀{s:Sl} {vs:List Value},Sx.Own V0 V 3 1 s vs->(∀c,Blk S.n c->¬Blk s c)->Sx.Own V0 V1 3 1 s vs:=fun {s vs} o hd=>Own.moveB o o1.sub fun g cur hg hc=>by rw[hk g (fun hb=>hd g hb hg) (by rw[hc];simp)];exact hc
 have far:∀{s:Sl} {vs:List Value},Sx.Own V0 V 3 1 s vs->(∀c,Blk S.n c->¬Blk s c)->∀c,Blk s' c->¬Blk s c:=fun {s vs} o hd c hc hs=>(hn c hc).elim (fun hb=>hd c hb hs) (some o c hs)
 have em:V mb≠none:=by obtain⟨es,c,h1,-⟩:=h.mp.at_;rw[h1];simp
 have nb:∀c,Blk S.n c->¬Blk S.b c:=fun c h1 h2=>h.bn c h2 h1
 exact⟨by rw[hk p b2 (by rw[h.at_];simp)];exact h.at_,qEx h.mp (hk mb m2 em),h.p0,h.m0,mv h.bo nb,o1,mv h.po h.np,fun c h1 h2=>far h.bo nb c h2 h1,h.bp,far h.po h.np⟩
theorem CaL.pushP(h:CaL V0 V p k n mb F S B N P f){V1:Mem}{s':Sl}{x:Int}(o:Sx.Own (V.but S.p) V1 3 1 s' ((P++[x]).flatMap qAe)):CaL V0 V1 p k n mb F ⟨S.b,S.n,s'⟩ B N (P++[x]) f:=by
 obtain⟨⟨b1,b2,b3⟩,m1,m2,m3⟩:=h.nB
 obtain⟨o1,hk,hn⟩:=qFs h.po o
 have some:∀{s:Sl} {vs:List Value},Sx.Own V0 V 3 1 s vs->∀c,Blk s c->V c≠none:=fun {s vs} o c hc=>by obtain⟨cur,h⟩:=Own.some o hc;rw[h];simp
 have mv:∀{s:Sl} {vs:List Value},Sx.Own V0 V 3 1 s vs->(∀c,Blk S.p c->¬Blk s c)->Sx.Own V0 V1 3 1 s vs:=fun {s vs} o hd=>Own.moveB o o1.sub fun g cur hg hc=>by rw[hk g (fun hb=>hd g hb hg) (by rw[hc];simp)];exact hc
 have far:∀{s:Sl} {vs:List Value},Sx.Own V0 V 3 1 s vs->(∀c,Blk S.p c->¬Blk s c)->∀c,Blk s' c->¬Blk s c:=fun {s vs} o hd c hc hs=>(hn c hc).elim (fun hb=>hd c hb hs) (some o c hs)
 have em:V mb≠none:=by obtain⟨es,c,h1,-⟩:=h.mp.at_;rw[h1];simp
 have pb:∀c,Blk S.p c->¬Blk S.b c:=fun c h1 h2=>h.bp c h2 h1
 have pn:∀c,Blk S.p c->¬Blk S.n c:=fun c h1 h2=>h.np c h2 h1
 exact⟨by rw[hk p b3 (by rw[h.at_];simp)];exact h.at_,qEx h.mp (hk mb m3 em),h.p0,h.m0,mv h.bo pb,mv h.no pn,o1,h.bn,fun c h1 h2=>far h.bo pb c h2 h1,fun c h1 h2=>far h.no pn c h2 h1⟩
theorem CaL.fields(h:CaL V0 V p k n mb F S B N P f)(G:Sl3):CaL V0 (V.set p (.cells (crow k n mb G).toArray 134 (0,0))) p k n mb G S B N P f:=by
 obtain⟨⟨b1,b2,b3⟩,-⟩:=h.nB
 exact⟨Mem.set_same _ _ _,qEx h.mp (Mem.set_ne h.pm.symm),h.p0,h.m0,h.bo.put b1 h.p0 _,h.no.put b2 h.p0 _,h.po.put b3 h.p0 _,h.bn,h.bp,h.np⟩
def CaAt(p:Nat)(k:Nat)(c:List Int)(n:Nat)(V0 V:Mem):Prop:=∃mb S B N P L f,CaL V0 V p k n mb S S B N P f/\CaI k c B N P L f
end
end Go.Proofs
namespace Go.Proofs
def tch(k:Nat)(c:List Int)(b:Int):List Int:=if b∈c then b::c.erase b else b::c.take (k-1)
def tchL(k:Nat)(c l:List Int):List Int:=l.foldl (tch k) c
def qHK(k:Nat):List Int->List Int->Nat
 | _,[]=>0
 | c,b::l=>(if b∈c then 0 else 1)+qHK k (tch k c b) l
theorem tch_take{k:Nat}(hk:0<k)(T:List Int)(b:Int):tch k (T.take k) b=(mtf T b).take k:=by
 unfold tch
 by_cases h:b∈T.take k
 ·rw[if_pos h,take_mtf_hit h]
 ·rw[if_neg h,qKc hk h]
theorem misL_take{k:Nat}(hk:0<k):∀l T:List Int,qHK k (T.take k) l=misN k T l
 | [],_=>rfl
 | b::l,T=>by rw[qHK,misN,tch_take hk,misL_take hk l]
theorem misL_nil{k:Nat}(hk:0<k)(l:List Int):qHK k [] l=misN k [] l:=by
 have:=misL_take hk l []
 rwa [List.take_nil]at this
theorem misL_snoc(k:Nat):∀(l c:List Int) (b:Int),qHK k c (l++[b])=qHK k c l+if b∈tchL k c l then 0 else 1
 | [],c,b=>by
  simp only[List.nil_append,qHK,Nat.add_zero,Nat.zero_add];rfl
 | x::l,c,b=>by
  rw[List.cons_append,qHK,qHK,misL_snoc k l (tch k c x) b,Nat.add_assoc];rfl
theorem tchL_snoc(k:Nat)(c l:List Int)(b:Int):tchL k c (l++[b])=tch k (tchL k c l) b:=by unfold tchL;rw[List.foldl_append];rfl
theorem misL_le(k:Nat):∀l c:List Int,qHK k c l<=l.length
 | [],_=>Nat.le_refl _
 | b::l,c=>by
  rw[qHK,List.length_cons]
  have:=misL_le k l (tch k c b)
  split <;> omega
end Go.Proofs
namespace Go.Proofs
open Go Go.Sx
attribute [local irreducible] Go.Sx.Tri
section
variable{V0 V:Mem}{p mb:Nat}{k n:Int}{S:Sl3}{B N P:List Int}{f:Int->Option Int}
theorem qCy{s:Sl}{xs:List Int}(h:qAc V s 1 (xs.map qAe)){i:Nat}{x:Int}(hx:xs[i]?=some x):¬s.p=none/\(0:Int)<=(i:Int)/\(i:Int)<(s.n:Int)/\V.rowp s.p (i*1) 1=some [.int .i64 x]:=by
 have hn:=h.n_eq
 have hl:=(List.getElem?_eq_some_iff.1 hx).1
 obtain⟨y,-,hy,-,-,h1,h2,h3⟩:=h.get (i:=i) (by omega)
 rw[hx]at hy;cases hy
 exact⟨h1,h2,by omega,h3⟩
theorem c99(h:CaL V0 V p k n mb S S B N P f){s a b:Nat}(hP:P[s]?=some (a:Int))(hN:N[s]?=some (b:Int))(ha:a<N.length)(hb:b<P.length) :
  Tri Tryz.prog 99 #[pv p,.int .i64 s] V fun e V'=>e=.returned (.tuple #[])/\CaL V0 V' p k n mb S S B (N.set a b) (P.set b a) f:=by
 refine x99 ?_
 unfold w99
 obtain⟨n1,n2,n3,n4⟩:=qCy (h.no.rows (fun _=>rfl) (by decide)) hN
 obtain⟨p1,p2,p3,p4⟩:=qCy (h.po.rows (fun _=>rfl) (by decide)) hP
 have hnn:=(h.no.rows (row:=qAe) (xs:=N) (fun _=>rfl) (by decide)).n_eq
 have hpn:=(h.po.rows (row:=qAe) (xs:=P) (fun _=>rfl) (by decide)).n_eq
 refine⟨nn,nn,_,h.cell 4 1 (by decide),nn,nn,_,h.cell 5 1 (by decide),p1,p2,p3,_,p4,nn,nn,_,h.cell 5 1 (by decide),nn,nn,_,h.cell 4 1 (by decide),n1,n2,n3,_,n4,nn,nn,_,h.cell 4 1 (by decide),n1,n2,n3,_,n4,nn,nn,_,h.cell 5 1 (by decide),p1,p2,p3,_,p4,n1,by omega,by omega,h.setN ha fun V1 h1=>⟨p1,by omega,by omega,h1.setP hb fun V2 h2=>⟨rfl,h2⟩⟩⟩
theorem c100(h:CaL V0 V p k n mb S S B N P f){s q:Nat}(h0:N[0]?=some (q:Int))(hN:s<N.length)(hP:s<P.length)(hq:q<P.length)(hs:s≠0) :
  Tri Tryz.prog 100 #[pv p,.int .i64 s] V fun e V'=>e=.returned (.tuple #[])/\CaL V0 V' p k n mb S S B ((N.set s q).set 0 s) ((P.set s 0).set q s) f:=by
 refine x100 ?_
 unfold w100
 obtain⟨n1,n2,n3,n4⟩:=qCy (h.no.rows (fun _=>rfl) (by decide)) h0
 have hnn:=(h.no.rows (row:=qAe) (xs:=N) (fun _=>rfl) (by decide)).n_eq
 have hpn:=(h.po.rows (row:=qAe) (xs:=P) (fun _=>rfl) (by decide)).n_eq
 obtain⟨p1,-⟩:=qCy (h.po.rows (fun _=>rfl) (by decide)) (List.getElem?_eq_getElem hP)
 refine⟨nn,nn,_,h.cell 4 1 (by decide),nn,nn,_,h.cell 5 1 (by decide),nn,nn,_,h.cell 4 1 (by decide),n1,n2,n3,_,n4,n1,by omega,by omega,h.setN hN fun V1 h1=>⟨p1,by omega,by omega,h1.setP hP fun V2 h2=>?_⟩⟩
 obtain⟨m1,m2,m3,m4⟩:=qCy (h2.no.rows (fun _=>rfl) (by decide)) (i:=0) (x:=q) (by rw[List.getElem?_set_ne hs];exact h0)
 refine⟨nn,nn,_,h2.cell 5 1 (by decide),nn,nn,_,h2.cell 4 1 (by decide),m1,m2,m3,_,m4,nn,nn,_,h2.cell 4 1 (by decide),p1,by omega,by omega,h2.setP (by rw[List.length_set];exact hq) fun V3 h3=>⟨n1,by omega,by omega,h3.setN (i:=0) (by rw[List.length_set];omega) fun V4 h4=>⟨rfl,h4⟩⟩⟩
end
section
variable{V0 V:Mem}{p k n:Nat}{c:List Int}
theorem c90(h:CaAt p k c n V0 V):PP 90 [pv p] V (.int .i64 n):=by
 obtain⟨mb,S,B,N,P,L,f,h,-⟩:=h
 refine x90 ?_
 unfold w90
 exact⟨fun h=>absurd h nn,fun _=>⟨nn,nn,_,h.cell 1 1 (by decide),rfl,rfl⟩⟩
theorem c53{m:Int}:Tri Tryz.prog 53 #[.int .i64 m] V fun e V'=>(¬(1<=m/\m<=1000)/\e=.returned (.tuple #[.pointer none,.int .i64 2])/\V'=V)∨((1<=m/\m<=1000)/\∃p,e=.returned (.tuple #[pv p,.int .i64 0])/\CaAt p m.toNat [] 0 V V'):=by
 refine x53 ?_
 unfold w53
 refine⟨fun h=>.inl ⟨fun hh=>by have h:m<1:=h;omega,rfl,rfl⟩,fun h=>⟨fun h2=>.inl ⟨fun hh=>by have h2:1000<m:=h2;omega,rfl,rfl⟩,fun h2=>?_⟩⟩
 have hm:1<=m/\m<=1000:=by
  have h:¬m<1:=h
  have h2:¬1000<m:=h2
  omega
 refine GenK.makeMap fun mb hmb=>⟨some mb,rfl,fun b1 h1 b2 h22 b3 h3 p hp=>.inr ⟨hm,p,rfl,?_⟩⟩
 obtain⟨k,rfl⟩:∃k:Nat,m=(k:Int):=⟨m.toNat,by omega⟩
 have s1:=Mem.sub_new hmb (.map #[] 0)
 have s2:=Mem.sub_new h1 (.cells #[.int .i64 (-1)] 3 (0,0))
 have s3:=Mem.sub_new h22 (.cells #[.int .i64 0] 3 (0,0))
 have s4:=Mem.sub_new h3 (.cells #[.int .i64 0] 3 (0,0))
 have none0:∀{A U:Mem} {b:Nat},A.sub U->U b=none->A b=none:=fun {A U b} hs hb=>by
  cases e:A b with
  | none=>rfl
  | some o=>rw[hs _ _ e]at hb;cases hb
 have one:∀{W U:Mem} {b:Nat} {x:Int},W b=none->W.sub U->U b=some (.cells #[.int .i64 x] 3 (0,0))->Sx.Own W U 3 1 ⟨some ⟨b,0,none⟩,1,1⟩ ([x].flatMap qAe):=fun {W U b x} h0 hs hb=>⟨hs,rfl,.inr ⟨b,_,rfl,h0,hb,Nat.le_refl _,(show 1<=maxLen by decide),rfl,rfl⟩⟩
 have sa:V.sub _:=s1.trans (s2.trans (s3.trans s4))
 have s5:=Mem.sub_new hp (.cells (crow k 0 mb ⟨⟨some ⟨b1,0,none⟩,1,1⟩,⟨some ⟨b2,0,none⟩,1,1⟩,⟨some ⟨b3,0,none⟩,1,1⟩⟩).toArray 134 (0,0))
 have blk:∀{b c:Nat},Blk ⟨some ⟨b,0,none⟩,1,1⟩ c->c=b:=fun {b c} h=>by
  have:=h.2
  simp at this;omega
 have d12:b1≠b2:=fun e=>by rw[e,Mem.set_same]at h22;cases h22
 have d13:b1≠b3:=fun e=>by rw[<- e]at h3;rw[s3 _ _ mss]at h3;cases h3
 have d23:b2≠b3:=fun e=>by rw[e,Mem.set_same]at h3;cases h3
 refine⟨mb,⟨⟨some ⟨b1,0,none⟩,1,1⟩,⟨some ⟨b2,0,none⟩,1,1⟩,⟨some ⟨b3,0,none⟩,1,1⟩⟩,[-1],[0],[0],[],fun _=>none,⟨Mem.set_same _ _ _,((qFK.made V mb).sub (s2.trans (s3.trans (s4.trans s5)))).congr fun _=>rfl,none0 sa hp,hmb,one (none0 s1 h1) (sa.trans s5) ?_,one (none0 (s1.trans s2) h22) (sa.trans s5) ?_,one (none0 (s1.trans (s2.trans s3)) h3) (sa.trans s5) ?_,fun c k1 k2=>d12 ((blk k1).symm.trans (blk k2)),fun c k1 k2=>d13 ((blk k1).symm.trans (blk k2)),fun c k1 k2=>d23 ((blk k1).symm.trans (blk k2))⟩,?_⟩
 ·exact(s3.trans (s4.trans s5)) _ _ mss
 ·exact(s4.trans s5) _ _ mss
 ·exact s5 _ _ mss
 ·rw[Int.toNat_natCast];exact CaI.new (by omega)
end
section
variable{V V0:Mem}{d:Ds}{m:Mm}{F:Nat}{nm:ByteArray}{args:List Int}{l:Sl}
theorem good_lens(G:qAx d m):m.globals.length<=2147483648/\m.nodes.length<=4096/\∀n∈m.nodes,n.f.length<=2147483648:=by
 obtain⟨p1,p2,p3,p4,p5⟩:=qAh G.mem
 have h12:=lens12 G.valid
 refine⟨by grind [qAC],p2,fun n hn=>?_⟩
 have:=(qAC.1 (p5 n hn)).1
 have hty:=of_decide_eq_true (p3 n hn)
 obtain⟨j,hj⟩:∃j:Nat,n.ty=(j:Int):=⟨n.ty.toNat,by omega⟩
 have hjl:j<d.types.length:=by omega
 have hx:=List.getElem?_eq_getElem hjl
 rw[hj,qAO hx rfl]at this
 grind
end
section
variable{V V0:Mem}{d:Ds}{m:Mm}{nm:ByteArray}{args:List Int}{l:Sl}
def RunE(V:Mem)(k:Int):Ending->Mem->Prop:=fun e V'=>V.sub V'/\e=.returned (.tuple #[.agg (qDP 0 0 0 0).toArray,.agg #[qAP.v,qAP.v],.int .i64 k])
theorem startEv[Tab V](hd:Ds.Ok V d)(hm:Mm.Ok V m){F:Int}(hg:qAS d m F≠0):Tri Tryz.prog 61 #[d.v,m.v,.agg #[.string nm,l.v],.int .i64 F] V fun e V'=>V'=V/\e=.returned (.tuple #[.pointer none,.agg (qDP 0 0 0 0).toArray,.int .i64 (qAS d m F)]):=by
 refine x61 ?_
 unfold w61
 exact(c71 hd hm).call ⟨_,rfl,fun h=>absurd h hg,fun _=>⟨rfl,rfl⟩⟩
theorem runEv[Tab V](hd:Ds.Ok V d)(hm:Mm.Ok V m){F:Int}(hg:qAS d m F≠0):Tri Tryz.prog 24 #[d.v,m.v,.agg #[.string nm,l.v],.int .i64 F] V (RunE V (qAS d m F)):=by
 refine x24 (R:=RunE V (qAS d m F)) ?_
 unfold w24
 refine Tri.mono (startEv hd hm hg) ?_
 rintro _ _ ⟨rfl,rfl⟩
 exact⟨_,_,_,_,_,_,_,rfl,fun h=>absurd h hg,fun _=>⟨Mem.sub.refl _,rfl⟩⟩
theorem qET{F:Int}(h:qAS d m F=0):0<=F/\F<=1048576:=by
 grind [qAS]
end
def rsS(s:St):St:=⟨s.g,s.ns,0,0,[]⟩
abbrev O4:=Int×Int×Nat×Nat
def oRow(o:O4):List Value:=qDP o.1 o.2.1 o.2.2.1 o.2.2.2
def outO(r:Rx Int):O4:=(outC r,outV r,r.st.cm,qBa r.st.lg)
structure Cl2 where
 name:ByteArray
 sl:Sl
 args:List Int
def Cl2.row(c:Cl2):List Value:=[.string c.name,c.sl.v]
structure Cls.Ok (V:Mem) (l:Sl) (cs:List Cl2):Prop where
 rows:qAc V l 2 (cs.map Cl2.row)
 args:∀c∈cs,qAc V c.sl 1 (c.args.map qAe)
theorem Cls.Ok.sub{V V':Mem}{l:Sl}{cs:List Cl2}(h:Cls.Ok V l cs)(hs:V.sub V'):Cls.Ok V' l cs:=⟨h.rows.sub hs,fun c hc=>(h.args c hc).sub hs⟩
section
variable(d:Ds)(F:Nat)
def qKg(c:Cl2)(s:St):Rx Int:=qBQ d F (qCP d c.name) c.args s
def scE:St->List Cl2->Int
 | _,[]=>0
 | s,c::cs=>if qDi d s.mm c.name c.args=0 then scE (rsS (qKg d F c s).st) cs else qDi d s.mm c.name c.args
def scO:St->List Cl2->List O4
 | _,[]=>[]
 | s,c::cs=>outO (qKg d F c s)::scO (rsS (qKg d F c s).st) cs
def scS:St->List Cl2->St
 | s,[]=>s
 | s,c::cs=>scS (rsS (qKg d F c s).st) cs
end
noncomputable def scrE(d:Ds)(F:Int)(m:Mm)(cs:List Cl2):Int:=if qAS d m F=0 then (if 2000<cs.length then 4 else scE d F.toNat (qBV m) cs) else qAS d m F
theorem loop6{V:Mem}{B:Sl->Sl->Sl->Int->Sl->Int->Mem->(List Value->Mem->Prop)->Prop}{a0 b0 x0:Sl}{y0:Int}{c0:Sl}(len:Nat)(St:Nat->Sl->Sl->Sl->Mem->Prop)(h0:St 0 a0 b0 c0 V)
  (step:∀(i:Nat) (a b x:Sl) (y:Int) (c:Sl) V1 J,i<=len->St i a b c V1->(i<len->∀(a' b' x':Sl) (y':Int) (c':Sl) V2,St (i+1) a' b' c' V2->J [.slice a'.p a'.n a'.c,.slice b'.p b'.n b'.c,.slice x'.p x'.n x'.c,.int .i64 y',.slice c'.p c'.n c'.c,.int .i64 ((i:Int)+1)] V2)->B a b x y c (i:Int) V1 J) :
  ∃(I:Nat->List Value->Mem->Prop) (n0:Nat),I n0 [.slice a0.p a0.n a0.c,.slice b0.p b0.n b0.c,.slice x0.p x0.n x0.c,.int .i64 y0,.slice c0.p c0.n c0.c,.int .i64 0] V/\∀n V1,∀(a b x:Sl) (y:Int) (c:Sl) (v:Int),I n [.slice a.p a.n a.c,.slice b.p b.n b.c,.slice x.p x.n x.c,.int .i64 y,.slice c.p c.n c.c,.int .i64 v] V1->∀J:List Value->Mem->Prop,(∀m ys V'',m<n->I m ys V''->J ys V'')->B a b x y c v V1 J:=by
 refine⟨LI len fun i xs V=>∃(a b x:Sl) (y:Int) (c:Sl),xs=[.slice a.p a.n a.c,.slice b.p b.n b.c,.slice x.p x.n x.c,.int .i64 y,.slice c.p c.n c.c,.int .i64 i]/\St i a b c V,len,LI.start ⟨a0,b0,x0,y0,c0,rfl,h0⟩,?_⟩
 rintro n V1 a b x y c v ⟨i,rfl,hi,a',b',x',y',c',hx,hs⟩ J hJ
 simp only[List.cons.injEq,Value.int.injEq,true_and,and_true]at hx
 obtain⟨h1,h2,h3,rfl,h5,rfl⟩:=hx
 cases qBA _ _ h1
 cases qBA _ _ h2
 cases qBA _ _ h5
 exact step i _ _ _ _ _ V1 J hi hs fun hlt a' b' x' y' c' V2 h2=>LI.next hJ hlt ⟨a',b',x',y',c',rfl,h2⟩
theorem app73:AppP 73 54 5 oRow:=appG Tryz.underlying73 (by kernel_rfl) (by kernel_rfl) (by kernel_rfl) (by kernel_rfl) (by kernel_rfl) (by decide) (by intro _;rfl) fun x u hu=>by simp only[oRow,qDP,List.mem_cons,List.not_mem_nil,or_false]at hu;rcases hu with rfl|rfl|rfl|rfl|rfl <;> rfl
theorem one_out{V:Mem}{b t:Nat}(o:O4)(h:V b=some (.cells (oRow o).toArray t (0,0))):qAc V ⟨some ⟨b,0,none⟩,1,1⟩ 5 ([o].map oRow) :=
 qAc.cells (xs:=[o]) (row:=oRow) h rfl (fun _=>rfl) rfl (by simp)
section
variable{V V0:Mem}{d:Ds}{F:Nat}{m:Mm}{l:Sl}{cs:List Cl2}
theorem mm_len'{s:St}{a b:Sl}{nd:List Nd}(h:nd.map (fun n=>(n.ty,n.f))=s.ns):(⟨a,s.g,b,nd⟩:Mm).plain=s.mm.plain:=by
 grind [St.plain,Mm.plain]
theorem lay_rs{W V:Mem}{gs ns ls:Sl}{nd:List Nd}{s:St}(L:Lay W V gs ns ls nd s):Lay W V gs ns qAP nd (rsS s):=⟨L.glob,L.nodes,Own.nil L.sub _ _,L.fld,L.eq,L.gf,L.ff⟩
theorem st_eta{s:St}(h:s=rsS s){a b:Sl}{nd:List Nd}(he:nd.map (fun n=>(n.ty,n.f))=s.ns):qBV ⟨a,s.g,b,nd⟩=s:=by
 grind [qBV,rsS]
def ScrP(V:Mem)(d:Ds)(F:Int)(m:Mm)(cs:List Cl2):Ending->Mem->Prop:=fun e V'=>V.sub V' /\
 ((scrE d F m cs≠0/\e=.returned (.tuple #[qAP.v,.agg #[qAP.v,qAP.v],.int .i64 (scrE d F m cs)])) ∨
 (scrE d F m cs=0/\∃(o a b:Sl) (nd:List Nd),qAc V' o 5 ((scO d F.toNat (qBV m) cs).map oRow)/\Mm.Ok V' ⟨a,(scS d F.toNat (qBV m) cs).g,b,nd⟩/\nd.map (fun n=>(n.ty,n.f))=(scS d F.toNat (qBV m) cs).ns/\qAx d (scS d F.toNat (qBV m) cs).mm/\e=.returned (.tuple #[o.v,.agg #[a.v,b.v],.int .i64 0])))
structure At (d:Ds) (F:Nat) (s0:St) (cs:List Cl2) (j:Nat) (outs:List O4) (s:St):Prop where
 err:scE d F s0 cs=scE d F s (cs.drop j)
 out:scO d F s0 cs=outs++scO d F s (cs.drop j)
 st:scS d F s0 cs=scS d F s (cs.drop j)
 len:outs.length=j
 rs:s=rsS s
 good:qAx d s.mm
theorem At.start{s:St}(h:s=rsS s)(G:qAx d s.mm):At d F s cs 0 [] s:=⟨by rfl,by rfl,by rfl,rfl,h,G⟩
theorem At.next{s0 s:St}{j:Nat}{outs:List O4}{c:Cl2}(h:At d F s0 cs j outs s)(hc:cs.drop j=c::cs.drop (j+1))(h0:qDi d s.mm c.name c.args=0)(hg:qAx d (qKg d F c s).st.mm):At d F s0 cs (j+1) (outs++[outO (qKg d F c s)]) (rsS (qKg d F c s).st):=by
 have e1:=h.err
 have e2:=h.out
 have e3:=h.st
 rw[hc]at e1 e2 e3
 refine⟨?_,?_,e3,by rw[List.length_append,h.len];rfl,rfl,⟨hg.valid,hg.chk,hg.mem⟩⟩
 ·grind [scE]
 ·rw[e2,scO];simp
theorem At.stop{s0 s:St}{j:Nat}{outs:List O4}{c:Cl2}(h:At d F s0 cs j outs s)(hc:cs.drop j=c::cs.drop (j+1))(h0:qDi d s.mm c.name c.args≠0):scE d F s0 cs=qDi d s.mm c.name c.args:=by
 rw[h.err,hc,scE,if_neg h0]
theorem c33[Tab V](hd:Ds.Ok V d)(hm:Mm.Ok V m)(hcs:Cls.Ok V l cs){F:Int}(hF:F<=3000∨1048576<F):Tri Tryz.prog 33 #[d.v,m.v,l.v,.int .i64 F] V (ScrP V d F m cs):=by
 refine x33 (R:=ScrP V d F m cs) ?_
 unfold w33
 have hln:=hcs.rows.n_eq
 have bad:∀{k:Int} {V':Mem},scrE d F m cs=k->k≠0->V.sub V'->ScrP V d F m cs (.returned (.tuple #[qAP.v,.agg #[qAP.v,qAP.v],.int .i64 k])) V':=fun h hk hs=>⟨hs,.inl ⟨by rw[h];exact hk,by rw[h]⟩⟩
 refine(c71 hd hm).call ⟨_,rfl,fun h0=>⟨fun hl=>?_,fun hl=>?_⟩,fun h0=>?_⟩
 ·exact bad (by grind [scrE]) (by decide) (Mem.sub.refl _)
 rotate_left
 ·exact bad (by grind [scrE]) h0 (Mem.sub.refl _)
 have hl:¬(2000:Int)<(l.n:Int):=hl
 have G:=qDF h0
 have hf:=qET h0
 obtain⟨n,rfl⟩:∃n:Nat,F=(n:Int):=⟨F.toNat,by omega⟩
 have hsc:scrE d (n:Int) m cs=scE d n (qBV m) cs:=by grind [scrE]
 obtain⟨l1,l2,l3⟩:=good_lens G
 refine Tri.mono (c72 hm l1 l2 l3) ?_
 rintro _ V1 ⟨gs,ns,nd,rfl,L⟩
 refine⟨gs,ns,rfl,loop6 (x0:=qAP) (y0:=0) (c0:=qAP) cs.length (fun j a b o V2=>∃W outs s nd,V.sub W/\Sx.Own V W 54 5 o (outs.flatMap oRow)/\Lay W V2 a b qAP nd s/\At d n (qBV m) cs j outs s) ⟨V,[],qBV m,nd,Mem.sub.refl _,Own.nil (Mem.sub.refl _) _ _,L,.start rfl (qKL G)⟩ ?_⟩
 rintro j a b x y o V2 J hj ⟨W,outs,s,nd,hW,ho,L,A⟩ hJ
 have hc2:=hcs.sub (hW.trans L.sub)
 refine⟨fun hlt=>?_,fun hge=>?_⟩
 ·obtain⟨c,hcm,hc,hdr,hjl,hp,hz,hrow⟩:=hc2.rows.get hlt
  have hst:=st_eta (a:=a) (b:=b) A.rs L.eq
  have Gm:qAx d ⟨a,s.g,b,nd⟩:=⟨A.good.valid,A.good.chk,qDS (mm_len' L.eq).symm A.good.mem⟩
  have hmk:=(qGc (hd.sub hW) L A.good).1
  have hcl:qDi d ⟨a,s.g,b,nd⟩ c.name c.args=qDi d s.mm c.name c.args:=qJQ (mm_len' L.eq)
  refine⟨hp,hz,hlt,_,_,hrow,Tri.mono (c73 (F:=n) (m:=⟨a,s.g,b,nd⟩) ⟨hd.sub hW,G.valid,qHG G.valid G.chk,by omega⟩ (by grind) hmk Gm ((hcs.args c hcm).sub hW)) ?_⟩
  rintro e V3 (⟨hk,s3,rfl⟩|⟨hk,p,cc,r,hr,M,rfl⟩)
  ·rw[hcl]at hk ⊢
   exact⟨_,_,_,_,_,_,_,rfl,fun h=>absurd h hk,fun _=>bad (hsc.trans (A.stop hdr hk)) hk (hW.trans (L.sub.trans s3))⟩
  ·rw[hcl]at hk
   rw[hst]at hr
   have hr:r=qKg d n c s:=hr
   refine⟨_,_,_,_,_,_,_,rfl,fun _ tb htb=>?_,fun h=>absurd rfl h⟩
   have ho3:Sx.Own V V3 54 5 o (outs.flatMap oRow):=Own.moveB ho (hW.trans M.sub) fun g cur _ hg=>M.sub _ _ hg
   refine app73 (s:=o) (u:=⟨some ⟨tb,0,none⟩,1,1⟩) (xs:=outs) (ys:=[outO r]) rfl rfl (ho3.but.new htb (.cells (oRow (outO r)).toArray 54 (0,0))) (one_out (outO r) mss) (by have:=A.len;simp;omega) fun o4 V4 ho4=>⟨o4,rfl,?_⟩
   obtain⟨W',hW',M4,ho5⟩:=M.beside hW ho ho4
   obtain⟨gs4,ns4,ls4,nd4,hat,L4⟩:=M4.ex
   have hgd:qAx d (qKg d n c s).st.mm:=by
    have:=qIn (F:=n) Gm (by rw[hcl];exact hk)
    simp_all
   have A':=A.next hdr hk hgd
   rw[<- hr]at A'
   exact⟨nn,nn,gs4,ns4,qAd hat 8 2 (by simp[qBM]),hc2.rows.succ hlt,hJ hjl _ _ _ _ _ _ ⟨W',_,_,nd4,hW',ho5,lay_rs L4,A'⟩⟩
 ·have hdn:=(hc2.rows.done hge).2
  have e1:=A.err
  have e2:=A.out
  have e3:=A.st
  rw[List.drop_eq_nil_of_le hdn]at e1 e2 e3
  have e1:scE d n (qBV m) cs=0:=e1
  have e2:scO d n (qBV m) cs=outs:=by rw[e2];simp[scO]
  have e3:scS d n (qBV m) cs=s:=e3
  refine⟨hW.trans L.sub,.inr ⟨hsc.trans e1,o,a,b,nd,?_,?_,?_,?_,rfl⟩⟩
  ·show qAc V2 o 5 ((scO d n (qBV m) cs).map oRow)
   rw[e2];exact(ho.rows (fun _=>rfl) (by decide)).sub L.sub
  ·show Mm.Ok V2 ⟨a,(scS d n (qBV m) cs).g,b,nd⟩
   rw[e3];exact(qGc (hd.sub hW) L A.good).1
  ·show _=(scS d n (qBV m) cs).ns
   rw[e3];exact L.eq
  ·show qAx d (scS d n (qBV m) cs).mm
   rw[e3];exact A.good
end
end Go.Proofs
namespace Go.Proofs
open Go Go.Sx
abbrev Bj:=List (Int×Int)
end Go.Proofs
namespace Go.Proofs
open Go Go.Sx
end Go.Proofs
namespace Go.Proofs
open Go Go.Sx
structure Sr where
 order:List Int
 again:Int
def qCZ(x:Fld×Int):Bool:=!qBw x.1.ty&&decide (x.2≠0)
def tgtI(l:List Fld)(vs:List Int)(i:Nat):List Int:=(((l.zip vs).take i).filter qCZ).map (·.2)
def tgt(l:List Fld)(vs:List Int):List Int:=((l.zip vs).filter qCZ).map (·.2)
def qAH(d:Ds)(m:Mm)(n:Int):List Int:=match m.nodes[(n-1).toNat]? with|some x=>tgt (qAo d x.ty) x.f|none=>[]
def qCK(d:Ds)(m:Mm):Nat->Sr->Int->Sr
 | 0,st,_=>st
 | f+1,st,n=>if n∈st.order then ⟨st.order,if st.again=0 then n else st.again⟩ else (qAH d m n).foldl (qCK d m f) ⟨st.order++[n],st.again⟩
def lookP(d:Ds)(m:Mm)(f:Nat)(st:Sr)(l:List Fld)(vs:List Int):Sr:=(tgt l vs).foldl (qCK d m f) st
def qBq(d:Ds)(m:Mm):Sr:=lookP d m (m.nodes.length+1) ⟨[],0⟩ d.globals m.globals
theorem tgtI_zero(l:List Fld)(vs:List Int):tgtI l vs 0=[]:=rfl
theorem qEn{l:List Fld}{vs:List Int}{i:Nat}{f:Fld}{v:Int}(hf:l[i]?=some f)(hv:vs[i]?=some v):tgtI l vs (i+1)=tgtI l vs i++if qCZ (f,v)=true then [v] else []:=by
 have hz:(l.zip vs)[i]?=some (f,v):=by rw[List.getElem?_zip_eq_some];exact⟨hf,hv⟩
 unfold tgtI
 rw[List.take_add_one,hz,List.filter_append,List.map_append]
 by_cases h:qCZ (f,v)=true
 ·simp[h]
 ·simp[h]
theorem qKb{l:List Fld}{vs:List Int}{i:Nat}(h:l.length<=i):tgtI l vs i=tgt l vs:=by
 unfold tgtI tgt
 rw[List.take_of_length_le]
 rw[List.length_zip];omega
def unS(m:Mm)(st:Sr):Nat:=((List.range m.nodes.length).filter fun(i:Nat)=>!decide (((i:Int)+1)∈st.order)).length
theorem entP_sub(d:Ds)(m:Mm):∀(f:Nat) (st:Sr) (n:Int),∀x∈st.order,x∈(qCK d m f st n).order
 | 0,st,n,x,h=>h
 | f+1,st,n,x,h=>by
  unfold qCK
  split
  ·exact h
  ·have:∀(l:List Int) (s:Sr),x∈s.order->x∈(l.foldl (qCK d m f) s).order:=fun l=>by
    induction l with
    | nil=>exact fun s h=>h
    | cons a l ih=>exact fun s h=>ih _ (entP_sub d m f s a x h)
   exact this _ _ (List.mem_append_left _ h)
theorem foldP_sub(d:Ds)(m:Mm)(f:Nat)(x:Int):∀(l:List Int) (s:Sr),x∈s.order->x∈(l.foldl (qCK d m f) s).order:=fun l=>by
 induction l with
 | nil=>exact fun s h=>h
 | cons a l ih=>exact fun s h=>ih _ (entP_sub d m f s a x h)
theorem qIM{α:Type}{p q:α->Bool}:∀{l:List α},(∀a∈l,q a=true->p a=true)->(l.filter q).length<=(l.filter p).length
 | [],_=>Nat.le_refl _
 | a::l,h=>by
  have ih:=qIM (l:=l) fun x hx=>h x (List.mem_cons_of_mem _ hx)
  have ha:=h a List.mem_cons_self
  rw[List.filter_cons,List.filter_cons]
  cases hq:q a with
  | true=>rw[ha hq];simpa using ih
  | false =>
   cases hp:p a with
   | true=>simp;omega
   | false=>simpa using ih
theorem filter_lt{α:Type}{p q:α->Bool}:∀{l:List α},(∀a∈l,q a=true->p a=true)->∀a∈l,p a=true->q a=false->(l.filter q).length<(l.filter p).length
 | [],_,a,ha,_,_=>by cases ha
 | b::l,h,a,ha,hp,hq=>by
  have h':∀x∈l,q x=true->p x=true:=fun x hx=>h x (List.mem_cons_of_mem _ hx)
  rw[List.filter_cons,List.filter_cons]
  rcases List.mem_cons.1 ha with rfl|hm
  ·rw[hp,hq]
   have:=qIM h'
   simp;omega
  ·have ih:=filter_lt h' a hm hp hq
   have hb:=h b List.mem_cons_self
   cases hqb:q b with
   | true=>rw[hb hqb];simpa using ih
   | false =>
    cases hpb:p b with
    | true=>simp;omega
    | false=>simpa using ih
section
variable{d:Ds}{m:Mm}{st:Sr}
theorem unS_le{a b:Sr}(h:∀x∈a.order,x∈b.order):unS m b<=unS m a:=by
 unfold unS
 refine qIM fun i _ hi=>?_
 simp only[Bool.not_eq_true',decide_eq_false_iff_not]at hi ⊢
 exact fun k=>hi (h _ k)
theorem unS_lt{n:Int}(hn:1<=n/\n<=(m.nodes.length:Int))(h:¬n∈st.order){a:Int}:unS m ⟨st.order++[n],a⟩<unS m st:=by
 unfold unS
 obtain⟨i,rfl⟩:∃i:Nat,n=(i:Int)+1:=⟨(n-1).toNat,by omega⟩
 refine filter_lt (fun j _ hj=>?_) i (List.mem_range.2 (by omega)) (by simpa using h) (by simp)
 simp only[Bool.not_eq_true',decide_eq_false_iff_not]at hj ⊢
 exact fun k=>hj (List.mem_append_left _ k)
theorem qJz{xs:List Fld}{vs:List Int}(h:qAg d m xs vs=true){i:Nat}{f:Fld}{v:Int}(hf:xs[i]?=some f)(hvv:vs[i]?=some v)(hp:qBw f.ty=false)(h0:v≠0):1<=v/\v<=(m.nodes.length:Int):=by
 obtain⟨v',hv',hr⟩:=qFN h hf
 rw[hvv]at hv';cases hv'
 unfold qBw at hp
 simp only[Bool.or_eq_false_iff,decide_eq_false_iff_not]at hp
 unfold qAt at hr
 rw[if_neg hp.1,if_neg hp.2,decide_eq_true_eq]at hr
 rcases hr with h|⟨h1,h2,-⟩
 ·exact absurd h h0
 ·exact⟨h1,h2⟩
end
section
variable{d:Ds}{m c:Mm}{O:List Int}
structure Cl (d:Ds) (m:Mm) (a b:Sr):Prop where
 sub:∀x∈a.order,x∈b.order
 shut:∀x∈b.order,x∈a.order∨∀y∈qAH d m x,y∈b.order
 dup:a.order.Nodup->b.order.Nodup
 rng:(∀x∈a.order,1<=x/\x<=(m.nodes.length:Int))->∀x∈b.order,1<=x/\x<=(m.nodes.length:Int)
 cap:a.order.length+unS m a<=m.nodes.length->b.order.length+unS m b<=m.nodes.length
theorem Cl.trans{a b e:Sr}(h:Cl d m a b)(k:Cl d m b e):Cl d m a e:=⟨fun x hx=>k.sub x (h.sub x hx),fun x hx=>by
 rcases k.shut x hx with hx|hx
 ·rcases h.shut x hx with hx|hx
  ·exact .inl hx
  ·exact .inr fun y hy=>k.sub y (hx y hy)
 ·exact .inr hx,fun n=>k.dup (h.dup n),fun r=>k.rng (h.rng r),fun r=>k.cap (h.cap r)⟩
theorem tgt_mem{l:List Fld}{vs:List Int}{y:Int}:y∈tgt l vs↔∃(i:Nat) (f:Fld),l[i]?=some f/\vs[i]?=some y/\qBw f.ty=false/\y≠0:=by
 unfold tgt qCZ
 simp only[List.mem_map,List.mem_filter,Bool.and_eq_true,Bool.not_eq_true',decide_eq_true_eq,Prod.exists,exists_eq_right]
 constructor
 ·rintro ⟨f,h,h1,h2⟩
  obtain⟨i,hi⟩:=List.mem_iff_getElem?.1 h
  rw[List.getElem?_zip_eq_some]at hi
  exact⟨i,f,hi.1,hi.2,h1,h2⟩
 ·rintro ⟨i,f,h,h1,h2,h3⟩
  exact⟨f,List.mem_iff_getElem?.2 ⟨i,List.getElem?_zip_eq_some.2 ⟨h,h1⟩⟩,h2,h3⟩
theorem qJr(hv:qAs d m=true):(∀y∈tgt d.globals m.globals,1<=y/\y<=(m.nodes.length:Int))/\∀n,∀y∈qAH d m n,1<=y/\y<=(m.nodes.length:Int):=by
 obtain⟨-,-,-,p4,p5⟩:=qAh hv
 refine⟨fun y hy=>?_,fun n y hy=>?_⟩
 ·obtain⟨i,f,h1,h2,h3,h4⟩:=tgt_mem.1 hy
  exact qJz p4 h1 h2 h3 h4
 ·unfold qAH at hy
  split at hy
  ·rename_i x hx
   obtain⟨i,f,h1,h2,h3,h4⟩:=tgt_mem.1 hy
   exact qJz (p5 x (List.mem_of_getElem? hx)) h1 h2 h3 h4
  ·cases hy
theorem qKP{f:Nat}(H:∀st n,1<=n/\n<=(m.nodes.length:Int)->unS m st<f->Cl d m st (qCK d m f st n)/\n∈(qCK d m f st n).order) :
  ∀(l:List Int) (s:Sr),(∀y∈l,1<=y/\y<=(m.nodes.length:Int))->unS m s<f->Cl d m s (l.foldl (qCK d m f) s)/\∀y∈l,y∈(l.foldl (qCK d m f) s).order
 | [],s,_,_=>⟨⟨fun _ h=>h,fun _ h=>.inl h,fun h=>h,fun h=>h,fun h=>h⟩,fun _ h=>by cases h⟩
 | a::l,s,hl,hs=>by
  obtain⟨c1,c2⟩:=H s a (hl a List.mem_cons_self) hs
  obtain⟨e1,e2⟩:=qKP H l (qCK d m f s a) (fun y hy=>hl y (List.mem_cons_of_mem _ hy)) (by have:=unS_le (m:=m) c1.sub;omega)
  refine⟨c1.trans e1,fun y hy=>?_⟩
  rcases List.mem_cons.1 hy with rfl|hy
  ·exact e1.sub _ c2
  ·exact e2 y hy
theorem ent_cl(hv:qAs d m=true):∀(f:Nat) (st:Sr) (n:Int),1<=n/\n<=(m.nodes.length:Int)->unS m st<f->Cl d m st (qCK d m f st n)/\n∈(qCK d m f st n).order
 | 0,_,_,_,h=>absurd h (Nat.not_lt_zero _)
 | f+1,st,n,hn,hf=>by
  rw[qCK]
  split
  ·rename_i h;exact⟨⟨fun _ h=>h,fun _ h=>.inl h,fun h=>h,fun h=>h,fun h=>h⟩,h⟩
  ·rename_i hno
   have hlt:=unS_lt hn hno (a:=st.again)
   obtain⟨c1,c2⟩:=qKP (ent_cl hv f) (qAH d m n) ⟨st.order++[n],st.again⟩ (fun y hy=>(qJr hv).2 n y hy) (by omega)
   have hm:n∈(⟨st.order++[n],st.again⟩:Sr).order:=by simp
   refine⟨⟨fun x hx=>c1.sub x (List.mem_append_left _ hx),fun x hx=>?_,fun h=>c1.dup ?_,fun h=>c1.rng fun x hx=>?_,fun h=>c1.cap ?_⟩,c1.sub n hm⟩
   ·rcases c1.shut x hx with h|h
    ·rcases List.mem_append.1 h with h|h
     ·exact .inl h
     ·rw[List.mem_singleton.1 h];exact .inr c2
    ·exact .inr h
   ·show (st.order++[n]).Nodup
    rw[List.nodup_append]
    refine⟨h,by simp,fun a ha b hb e=>hno ?_⟩
    rw[<- List.mem_singleton.1 hb,<- e];exact ha
   ·rcases List.mem_append.1 hx with hx|hx
    ·exact h x hx
    ·rw[List.mem_singleton.1 hx];exact hn
   ·show (st.order++[n]).length+_<=_
    rw[List.length_append,List.length_singleton];omega
structure Rch (d:Ds) (m:Mm) (O:List Int):Prop where
 dup:O.Nodup
 rng:∀x∈O,1<=x/\x<=(m.nodes.length:Int)
 glob:∀y∈tgt d.globals m.globals,y∈O
 shut:∀x∈O,∀y∈qAH d m x,y∈O
 cap:O.length<=m.nodes.length
theorem qJX:unS m ⟨[],0⟩<=m.nodes.length:=by
 unfold unS
 have:=List.length_filter_le (fun i:Nat=>!decide (((i:Int)+1)∈(⟨[],0⟩:Sr).order)) (List.range m.nodes.length)
 rw[List.length_range]at this
 exact this
theorem qFW(hv:qAs d m=true):Rch d m (qBq d m).order:=by
 have hu:=qJX (m:=m)
 obtain⟨c1,c2⟩:=qKP (ent_cl hv (m.nodes.length+1)) (tgt d.globals m.globals) ⟨[],0⟩ (qJr hv).1 (by omega)
 refine⟨c1.dup List.nodup_nil,c1.rng (fun x hx=>by cases hx),c2,fun x hx=>?_,?_⟩
 ·rcases c1.shut x hx with h|h
  ·cases h
  ·exact h
 ·have:=c1.cap (by show 0+_<=_;omega)
  exact Nat.le_trans (Nat.le_add_right _ _) this
def posI(l:List Int)(x:Int):Int:=qJL (fun y=>decide (y=x)) l
def rho(O:List Int)(x:Int):Int:=if x=0 then 0 else posI O x+1
def renL(O:List Int)(l:List Fld)(vs:List Int):List Int:=(l.zip vs).map fun x=>if qBw x.1.ty=true then x.2 else rho O x.2
structure IsCan (d:Ds) (m c:Mm) (O:List Int):Prop where
 globals:c.globals=renL O d.globals m.globals
 len:c.nodes.length=O.length
 at_:∀(i:Nat) n x,O[i]?=some n->m.nodes[(n-1).toNat]?=some x->∃s,c.nodes[i]?=some ⟨x.ty,s,renL O (qAo d x.ty) x.f⟩
theorem rho_zero:rho O 0=0:=by unfold rho;rw[if_pos rfl]
theorem ren_at{l:List Fld}{vs:List Int}{i:Nat}{f:Fld}{v:Int}(hf:l[i]?=some f)(hv:vs[i]?=some v):(renL O l vs)[i]?=some (if qBw f.ty=true then v else rho O v):=by
 have hz:(l.zip vs)[i]?=some (f,v):=List.getElem?_zip_eq_some.2 ⟨hf,hv⟩
 unfold renL
 rw[List.getElem?_map,hz];rfl
end
end Go.Proofs
namespace Go.Proofs
open Go Go.Sx
section
variable{d:Ds}{B:Bj}{s t:St}
def canP(d:Ds)(m:Mm):List Int×List (Int×List Int) :=
 (renL (qBq d m).order d.globals m.globals,(qBq d m).order.map fun n=>match m.nodes[(n-1).toNat]? with|some x=>(x.ty,renL (qBq d m).order (qAo d x.ty) x.f) | none=>(0,[]))
end
end Go.Proofs
namespace Go.Proofs
open Go Go.Sx
attribute [local irreducible] Go.Sx.Tri
section
variable{V0 V V1:Mem}{d:Ds}{m:Mm}{p ib:Nat}{st:Sr}{o:Sl}
def srow(d:Ds)(m:Mm)(o:Sl)(ib:Nat)(a:Int):List Value:=[Go.Sx.vS d.name,d.ts.v,d.gs.v,d.ps.v,d.ms.v,d.is.v,d.qs.v,d.bs.v,m.gs.v,m.ns.v,o.v,.map (some ib),.int .i64 a]
def kn(O:List Int)(n:Int):Option Int:=if n∈O then some (posI O n+1) else none
theorem pos_app{O:List Int}{n x:Int}(hx:x∈O):posI (O++[n]) x=posI O x:=by
 unfold posI qJL
 rw[List.findIdx?_append]
 cases h:O.findIdx? (fun y=>decide (y=x)) with
 | none=>exact absurd (decide_eq_true rfl) (by rw[List.findIdx?_eq_none_iff.1 h x hx];decide)
 | some i=>rfl
theorem pos_new{O:List Int}{n:Int}(hn:¬n∈O):posI (O++[n]) n=(O.length:Int):=by
 unfold posI qJL
 have h:O.findIdx? (fun y=>decide (y=n))=none:=List.findIdx?_eq_none_iff.2 fun x hx=>decide_eq_false (by rintro rfl;exact hn hx)
 rw[List.findIdx?_append,h]
 simp[List.findIdx?_cons]
theorem kn_new{O:List Int}{n:Int}(hn:¬n∈O)(x:Int):kn (O++[n]) x=if x=n then some ((O.length:Int)+1) else kn O x:=by
 unfold kn
 by_cases hx:x=n
 ·subst hx
  rw[if_pos (by simp),if_pos rfl,pos_new hn]
 ·rw[if_neg hx]
  by_cases hm:x∈O
  ·rw[if_pos (by simp[hm]),if_pos hm,pos_app hm]
  ·rw[if_neg (by simp[hm,hx]),if_neg hm]
structure SrAt (V0:Mem) (d:Ds) (m:Mm) (p ib:Nat) (V:Mem) (st:Sr) (o:Sl):Prop where
 at_:V p=some (.cells (srow d m o ib st.again).toArray 253 (0,0))
 own:Sx.Own V0 V 3 1 o (st.order.flatMap qAe)
 map:qFK (Value.int .i64) V ib fun n=>(kn st.order n).map (Value.int .i64)
 cap:st.order.length+unS m st<=m.nodes.length
 rng:∀x∈st.order,1<=x/\x<=(m.nodes.length:Int)
structure SrS (V0:Mem) (d:Ds) (m:Mm) (p ib:Nat):Prop where
 mem:qAs d m=true
 ds:Ds.Ok V0 d
 mm:Mm.Ok V0 m
 p0:V0 p=none
 i0:V0 ib=none
 pi:p≠ib
theorem SrAt.cell(h:SrAt V0 d m p ib V st o)(i n:Nat)(hi:i+n<=13):V.rowp (sa p) i n=some (((srow d m o ib st.again).drop i).take n):=qAd h.at_ i n hi
theorem kn_pos{O:List Int}{n:Int}(h:n∈O):∃j,kn O n=some j/\1<=j:=by
 unfold kn
 rw[if_pos h]
 refine⟨_,rfl,?_⟩
 unfold posI
 rcases qBd (fun y=>decide (y=n)) O with⟨-,-,h1⟩|⟨j,z,h1,-⟩
 ·rw[List.any_eq_false]at h1
  exact absurd (decide_eq_true rfl) (h1 n h)
 ·rw[h1];omega
def SrPost(V0:Mem)(d:Ds)(m:Mm)(p ib:Nat)(st:Sr):Ending->Mem->Prop:=fun e V'=>e=.returned (.tuple #[])/\∃o,SrAt V0 d m p ib V' st o
variable(V0 d m p ib) in
def EntC(N:Nat):Prop:=∀(st:Sr) (n:Int) (f:Nat) V o,SrAt V0 d m p ib V st o->1<=n/\n<=(m.nodes.length:Int)->unS m st<=N->unS m st<f ->
 Tri Tryz.prog 254 #[pv p,.int .i64 n] V (SrPost V0 d m p ib (qCK d m f st n))
theorem lookC{N:Nat}(hE:EntC V0 d m p ib N){l s:Sl}{xs:List Fld}{vs:List Int}(hl:qAc V0 l 2 (xs.map Fld.row))(hs:qAc V0 s 1 (vs.map qAe))(hv:qAg d m xs vs=true){f:Nat}(h:SrAt V0 d m p ib V st o)(hN:unS m st<=N)(hf:unS m st<f) :
  Tri Tryz.prog 209 #[pv p,l.v,s.v] V (SrPost V0 d m p ib ((tgt xs vs).foldl (qCK d m f) st)):=by
 refine Tri.mono (x209 (R:=SrPost V0 d m p ib ((tgt xs vs).foldl (qCK d m f) st)) ?_) fun _ _ h=>h
 unfold w209
 have hlen:xs.length=vs.length:=(qAC.1 hv).1
 refine qJg xs.length (fun i V1=>∃o1,SrAt V0 d m p ib V1 ((tgtI xs vs i).foldl (qCK d m f) st) o1) ⟨o,by rw[tgtI_zero];exact h⟩ ?_
 rintro i V1 J hi ⟨o1,h1⟩ hJ
 have hl1:=hl.sub h1.own.sub
 have hs1:=hs.sub h1.own.sub
 refine⟨fun hlt=>?_,fun hge=>?_⟩
 ·obtain⟨x,hxm,hx,-,hil,hp,hz,hrow⟩:=hl1.get hlt
  have n1:=hl1.n_eq
  have n2:=hs1.n_eq
  obtain⟨y,hym,hy,-,hjl,hpy,hzy,hrowy⟩:=hs1.get (i:=i) (by omega)
  have hu:unS m ((tgtI xs vs i).foldl (qCK d m f) st)<=unS m st:=unS_le fun z hz=>foldP_sub d m f z _ _ hz
  have same:qCZ (x,y)=false->∃o2,SrAt V0 d m p ib V1 ((tgtI xs vs (i+1)).foldl (qCK d m f) st) o2:=fun hr=>by
   rw[qEn hx hy,hr,if_neg (by decide),List.append_nil];exact⟨o1,h1⟩
  refine⟨hp,hz,hlt,_,_,hrow,c124.call ⟨_,rfl,fun h2=>⟨hl1.succ hlt,hJ hil _ (same ?_)⟩,fun h2=>⟨hpy,hzy,by omega,_,hrowy,fun h3=>⟨hl1.succ hlt,hJ hil _ (same ?_)⟩,fun h3=>⟨hpy,hzy,by omega,_,hrowy,?_⟩⟩⟩⟩
  ·unfold qCZ;rw[show qBw x.ty=true from h2];rfl
  ·have h3:y=0:=h3
   unfold qCZ;rw[h3];simp
  ·have hpl:qBw x.ty=false:=(Bool.not_eq_true _).mp h2
   have h3:¬y=0:=h3
   have hr:qCZ (x,y)=true:=by unfold qCZ;rw[hpl,decide_eq_true h3];rfl
   refine Tri.mono (hE _ y f V1 o1 h1 (qJz hv hx hy hpl h3) (by omega) (by omega)) ?_
   rintro _ V2 ⟨rfl,o2,h4⟩
   refine⟨rfl,hl1.succ hlt,hJ hil _ ⟨o2,?_⟩⟩
   rw[qEn hx hy,hr,if_pos rfl,List.foldl_append,List.foldl_cons,List.foldl_nil]
   exact h4
 ·have hd:=(hl1.done hge).2
  rw[qKb hd]at h1
  exact⟨rfl,o1,h1⟩
theorem enterC(S:SrS V0 d m p ib)(N:Nat)(ih:∀N',N'<N->EntC V0 d m p ib N'):EntC V0 d m p ib N:=by
 intro st n f V o h hn hN hf
 obtain⟨f,rfl⟩:∃f',f=f'+1:=⟨f-1,by omega⟩
 refine Tri.mono (x254 (R:=SrPost V0 d m p ib (qCK d m (f+1) st n)) ?_) fun _ _ h=>h
 unfold w254
 have hg:=h.map
 refine⟨nn,nn,_,h.cell 11 1 (by decide),qBv.key1 (k:=n) (qGi Tryz.underlying3) Tryz.underlying132 qFm hg ?_⟩
 by_cases hin:n∈st.order
 ·obtain⟨j,hj,hj1⟩:=kn_pos hin
  rw[hj]
  have e:qCK d m (f+1) st n=⟨st.order,if st.again=0 then n else st.again⟩:=by unfold qCK;rw[if_pos hin]
  rw[e]
  refine⟨j,rfl,fun h0=>?_,fun _=>⟨nn,nn,_,h.cell 12 1 (by decide),fun h0=>⟨nn,nn,?_⟩,fun h0=>?_⟩⟩
  ·have h0:j=0:=h0
   omega
  ·have h0:st.again=0:=h0
   rw[if_pos h0]
   refine StT.at2 (off:=12) h.at_ (by simp[srow]) ⟨rfl,o,?_,h.own.put (h.own.apart fun cur hc=>?_) S.p0 _,hg.set S.pi.symm,h.cap,h.rng⟩
   ·rw[Mem.set_same];rfl
   ·rw[h.at_]at hc;cases hc
  ·have h0:¬st.again=0:=h0
   rw[if_neg h0]
   exact⟨rfl,o,h⟩
 ·have hno:kn st.order n=none:=by unfold kn;rw[if_neg hin]
  rw[hno]
  have hcap:=h.cap
  have hlt:=unS_lt (st:=st) hn hin (a:=st.again)
  refine⟨0,rfl,fun _=>⟨nn,nn,o,h.cell 10 1 (by decide),fun tb htb=>?_⟩,fun h0=>absurd rfl h0⟩
  have pne:∀cur,V p≠some (.cells cur 3 (0,0)):=fun cur hc=>by rw[h.at_]at hc;cases hc
  have ine:∀cur,V ib≠some (.cells cur 3 (0,0)):=fun cur hc=>by
   obtain⟨e1,c1,k1,-⟩:=hg.at_
   rw[k1]at hc;cases hc
  have m4:=(qAh S.mem).2.1
  have hown2:=(h.own.but).new htb (.cells #[.int .i64 n] 3 (0,0))
  refine qFF (s:=o) (u:=⟨some ⟨tb,0,none⟩,1,1⟩) (xs:=st.order) (ys:=[n]) rfl rfl hown2 (qKx mss) (by simp;omega) fun o2 V2 ho2=>⟨o2,rfl,nn,nn,?_⟩
  have hsub:=ho2.sub
  have hp2:V2 p=some (.cells (srow d m o ib st.again).toArray 253 (0,0)):=hsub _ _ (Mem.but_at h.at_ (h.own.apart pne))
  have hg2:qFK (Value.int .i64) V2 ib fun n=>(kn st.order n).map (Value.int .i64):=by
   obtain⟨e1,c1,k1,k2⟩:=hg.at_
   exact⟨e1,c1,hsub _ _ (Mem.but_at k1 (h.own.apart ine)),k2⟩
  have ho3:Sx.Own V0 V2 3 1 o2 ((st.order++[n]).flatMap qAe):=ho2.narrow h.own.sub_but
  refine StT.at2 (off:=10) hp2 (by simp[srow]) ?_
  obtain⟨V3,hV3⟩:∃V3,V3=V2.set p (.cells (srow d m o2 ib st.again).toArray 253 (0,0)):=⟨_,rfl⟩
  have hgoal:V2.set p (.cells ((srow d m o ib st.again).toArray.toList.take 10++[uL o2]++(srow d m o ib st.again).toArray.toList.drop (10+[uL o2].length)).toArray 253 (0,0))=V3:=hV3.symm
  have hp3:V3 p=some (.cells (srow d m o2 ib st.again).toArray 253 (0,0)):=by rw[hV3,Mem.set_same]
  have hg3:qFK (Value.int .i64) V3 ib fun n=>(kn st.order n).map (Value.int .i64):=by rw[hV3];exact hg2.set S.pi.symm
  have pne2:∀cur,V2 p≠some (.cells cur 3 (0,0)):=fun cur hc=>by rw[hp2]at hc;cases hc
  have ho4:Sx.Own V0 V3 3 1 o2 ((st.order++[n]).flatMap qAe):=by rw[hV3];exact ho3.put (ho3.apart pne2) S.p0 _
  show ¬_/\_
  rw[hgoal]
  refine⟨nn,nn,_,qAd hp3 11 1 (by simp[srow]),nn,nn,o2,qAd hp3 10 1 (by simp[srow]),qDu.key (k:=n) (qGi Tryz.underlying3) Tryz.underlying132 hg3 fun ob hob=>?_⟩
  have hn2:=ho4.n_eq (fun _=>rfl) (by decide)
  rw[List.length_append,List.length_singleton]at hn2
  have h5:SrAt V0 d m p ib (V3.set ib ob) ⟨st.order++[n],st.again⟩ o2:=by
   refine⟨by rw[Mem.set_ne S.pi];exact hp3,ho4.put (ho4.apart fun cur hc=>?_) S.i0 _,hob.congr fun x=>?_,?_,fun x hx=>?_⟩
   ·obtain⟨e1,c1,k1,-⟩:=hg3.at_
    rw[k1]at hc;cases hc
   ·rw[kn_new hin,show ((st.order.length:Int)+1)=(o2.n:Int) by omega]
    by_cases hx:x=n <;> simp[hx]
   ·show (st.order++[n]).length+_<=_
    rw[List.length_append,List.length_singleton];omega
   ·rcases List.mem_append.1 hx with hx|hx
    ·exact h.rng x hx
    ·rw[List.mem_singleton.1 hx];exact hn
  obtain⟨q,rfl⟩:∃q:Nat,n=(q:Int)+1:=⟨(n-1).toNat,by omega⟩
  have hmm:=S.mm.sub h5.own.sub
  have hdd:=S.ds.sub h5.own.sub
  have hnn:=hmm.nodes.n_eq
  obtain⟨x,hxm,hx,-,hl2,hpx,hzx,hrowx⟩:=hmm.nodes.get (i:=q) (by omega)
  have hty:=(qAh S.mem).2.2.1 x hxm
  obtain⟨c1,c2⟩:=of_decide_eq_true hty
  obtain⟨j,hj⟩:∃j:Nat,x.ty=(j:Int):=⟨_,(Int.toNat_of_nonneg c1).symm⟩
  have htn:=hdd.types.n_eq
  obtain⟨t,htm,ht,-,hl3,hpt3,hzt,hrowt⟩:=hdd.types.get (i:=j) (by omega)
  have hI:IR ((q:Int)):=⟨by omega,by have:=(hmm.nodes.succ (i:=q) (by omega)).2;omega⟩
  rw[show ((q:Int)+1-1)=(q:Int) by omega]
  refine⟨nn,nn,pnn,m.ns,h5.cell 9 1 (by decide),hI,hpx,hzx,by omega,_,_,hrowx,nn,nn,pnn,d.ts,h5.cell 1 1 (by decide),?_⟩
  rw[hj]
  have hfo:=qAO ht hj
  have hvals:=(qAh S.mem).2.2.2.2 x hxm
  rw[hfo]at hvals
  refine⟨hpt3,hzt,by omega,qAf hpt3,_,_,hrowt,Tri.mono (lookC (ih (unS m ⟨st.order++[(q:Int)+1],st.again⟩) (by omega)) (S.ds.typesOk t htm).fields (S.mm.nodesOk x hxm).rows hvals (f:=f) h5 (Nat.le_refl _) (by omega)) ?_⟩
  rintro _ V5 ⟨rfl,o5,h6⟩
  refine⟨rfl,rfl,o5,?_⟩
  have e:qCK d m (f+1) st ((q:Int)+1)=(tgt t.fields x.f).foldl (qCK d m f) ⟨st.order++[(q:Int)+1],st.again⟩:=by
   rw[qCK,if_neg hin]
   unfold qAH
   rw[show ((q:Int)+1-1).toNat=q by omega,hx]
   show (tgt (qAo d x.ty) x.f).foldl _ _=_
   rw[hfo]
  rw[e];exact h6
theorem entAll(S:SrS V0 d m p ib):∀N,EntC V0 d m p ib N:=fun N=>Nat.strongRecOn N fun N ih=>enterC S N ih
end
section
variable{V:Mem}{d:Ds}{m:Mm}
theorem c176(hmv:qAs d m=true)(hd:Ds.Ok V d)(hm:Mm.Ok V m):Tri Tryz.prog 176 #[d.v,m.v] V fun e V'=>∃p ib o,e=.returned (pv p)/\SrAt V d m p ib V' (qBq d m) o:=by
 refine x176 ?_
 unfold w176
 refine GenK.makeMap fun ib hib=>⟨some ib,rfl,fun p hp=>?_⟩
 have n1:p≠ib:=fun e=>by rw[e,Mem.set_same]at hp;cases hp
 have hp0:V p=none:=by rw[Mem.set_ne n1]at hp;exact hp
 have s1:=Mem.sub_new hib (.map #[] 0)
 have s2:=Mem.sub_new hp (.cells (srow d m ⟨none,0,0⟩ ib 0).toArray 253 (0,0))
 have S:SrS V d m p ib:=⟨hmv,hd,hm,hp0,hib,n1⟩
 have hu:unS m ⟨[],0⟩<=m.nodes.length:=qJX
 have h0:SrAt V d m p ib ((V.set ib (.map #[] 0)).set p (.cells (srow d m ⟨none,0,0⟩ ib 0).toArray 253 (0,0))) ⟨[],0⟩ ⟨none,0,0⟩ :=
  ⟨Mem.set_same _ _ _,Own.nil (s1.trans s2) _ _,(((qFK.made V ib).sub s2)).congr fun _=>rfl,by show 0+unS m ⟨[],0⟩<=_;omega,fun x h=>by simp at h⟩
 refine Tri.mono (lookC (entAll S m.nodes.length) hd.globals hm.globals (qAh hmv).2.2.2.1 (f:=m.nodes.length+1) h0 hu (by omega)) ?_
 rintro _ V2 ⟨rfl,o,h⟩
 exact⟨rfl,p,ib,o,rfl,h⟩
theorem renL_len{O:List Int}{xs:List Fld}{vs:List Int}(h:xs.length=vs.length):(renL O xs vs).length=xs.length:=by
 unfold renL;rw[List.length_map,List.length_zip];omega
end
section
variable{V:Mem}{d:Ds}{m:Mm}
theorem Own.growS{V0 V V':Mem}{e:TypeId}{sz:Nat}{s:Sl}{vs:List Value}(h:Sx.Own V0 V e sz s vs)(hs:V.sub V'):Sx.Own V0 V' e sz s vs:=Own.moveB h (h.sub.trans hs) fun _ _ _ hg=>hs _ _ hg
structure CanAt (d:Ds) (m:Mm) (V2 V:Mem) (s:Sl) (i:Nat) (nd:List Nd):Prop where
 len:nd.length=i
 at_:∀(j:Nat) n x,j<i->(qBq d m).order[j]?=some n->m.nodes[(n-1).toNat]?=some x->∃s,nd[j]?=some ⟨x.ty,s,renL (qBq d m).order (qAo d x.ty) x.f⟩
 mem:∃W,V2.sub W/\Sx.Own W V 92 2 s (nd.flatMap Nd.row)/\∀n∈nd,Nd.Ok W n
theorem ren_in{O:List Int}{xs:List Fld}{vs:List Int}(hO:O.length<=4096)(h:∀v∈vs,inI v):∀v∈renL O xs vs,inI v:=fun v hv=>by
 unfold renL at hv
 obtain⟨⟨a,b⟩,hab,rfl⟩:=List.mem_map.1 hv
 have hb:=h b (List.of_mem_zip hab).2
 show inI (if _ then b else rho O b)
 split
 ·exact hb
 ·unfold rho
  split
  ·exact⟨by omega,by omega⟩
  ·unfold posI
   rcases qBd (fun z=>decide (z=b)) O with⟨e,-⟩|⟨j,_,e,-,-,e2,-⟩
   ·rw[e];exact⟨by decide,by decide⟩
   ·rw[e];exact⟨by show (-9223372036854775808:Int)<=(j:Int)+1;omega,by show (j:Int)+1<=(9223372036854775807:Int);omega⟩
theorem c13{s t:Sl}{xs ys:List Int}(h:qAc V s 1 (xs.map qAe))(k:qAc V t 1 (ys.map qAe)):PP 13 [.slice s.p s.n s.c,.slice t.p t.n t.c] V (.bool (decide (xs=ys))):=by
 refine x13 ?_
 unfold w13
 have n1:=h.n_eq
 have n2:=k.n_eq
 refine⟨fun hl=>?_,fun hl=>?_⟩
 ·refine qAI (mk:=.bool) (b0:=false) xs.length (fun i V1=>V=V1/\xs.take i=ys.take i) ⟨rfl,rfl⟩ ?_
  rintro i b V1 J hi ⟨rfl,he⟩ hJ
  refine⟨fun hlt=>?_,fun hge=>?_⟩
  ·obtain⟨x,hxm,hx,-,hil,hp,hz,hrow⟩:=h.get hlt
   obtain⟨y,hym,hy,-,hjl,hp2,hz2,hrow2⟩:=k.get (i:=i) (by omega)
   refine⟨hp,hz,hlt,_,hrow,hp2,hz2,by omega,_,hrow2,fun hE=>⟨h.succ hlt,hJ hil _ _ ⟨rfl,take_eq he hx hy hE⟩⟩,fun hE=>?_⟩
   rw[decide_eq_false fun e=>?_]
   ·exact⟨rfl,rfl⟩
   ·rw[e,hy]at hx;cases hx;exact hE rfl
  ·have hd:=(h.done hge).2
   rw[List.take_of_length_le hd,List.take_of_length_le (by omega)]at he
   rw[decide_eq_true he];exact⟨rfl,rfl⟩
 ·rw[decide_eq_false fun e=>hl (by rw[n1,n2,e])];exact⟨rfl,rfl⟩
theorem canP_of{c:Mm}(hmv:qAs d m=true)(I:IsCan d m c (qBq d m).order):c.plain=canP d m:=by
 have R:=qFW hmv
 unfold Mm.plain canP
 rw[I.globals]
 refine Prod.ext rfl (List.ext_getElem? fun i=>?_)
 rw[List.getElem?_map,List.getElem?_map]
 cases hn:(qBq d m).order[i]? with
 | none =>
  have:c.nodes[i]?=none:=by
   rw[List.getElem?_eq_none_iff]at hn ⊢
   rw[I.len];exact hn
  rw[this];rfl
 | some n =>
  have hr:=R.rng n (List.mem_of_getElem? hn)
  have hx:=List.getElem?_eq_getElem (l:=m.nodes) (i:=(n-1).toNat) (by omega)
  obtain⟨sl,hs⟩:=I.at_ i n _ hn hx
  rw[hs]
  simp only[Option.map_some]
  rw[hx]
end
end Go.Proofs
