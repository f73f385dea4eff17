/- Part 18 of a proof of a law of this seat: no statement of the seat is proved here. -/
import Derived.Test.YtginfholjbbgeaaGreatDoorPart17
import Derived.Test.YtginfholjbbgeaaGreatDoorPart16
import Derived.Test.YtginfholjbbgeaaGreatDoorPart14
set_option linter.unusedVariables false
set_option linter.unusedSimpArgs false
namespace Go.Proofs
open Go Go.Sx
def qAI(ends:List Nat):Nat->Nat
 | 0=>0
 | i+1=>ends.getD i 0
def qJj(log:List En)(ends:List Nat)(i:Nat):List En:=(log.drop (qAI ends i)).take (qAI ends (i+1)-qAI ends i)
def Way(b a:Gm)(l:List En):Prop:=Chn qGH redoK b l a/\Chn qHY undoK a l.reverse b
structure qGk (Ok:Gm->Prop) (mems:List Gm) (logs:List Nat) (k:Nat) (log:List En) (ends:List Nat):Prop where
 len:mems.length=logs.length+1
 le:k<=logs.length
 elen:ends.length=logs.length
 sum:∀i,i<=ends.length->qAI ends i=(logs.take i).sum
 ll:log.length=qAI ends ends.length
 way:∀i b a,mems[i]?=some b->mems[i+1]?=some a->Way b a (qJj log ends i)
 ok:∀y∈mems,Ok y
theorem qIW{l:List Nat}{i:Nat}(h:i<l.length):(l.take (i+1)).sum=(l.take i).sum+l[i]:=by
 rw[List.take_add_one,List.getElem?_eq_getElem h,List.sum_append]
 rfl
theorem sum_mono(l:List Nat){i j:Nat}(h:i<=j):(l.take i).sum<=(l.take j).sum:=by
 induction j with
 | zero=>rw[show i=0 by omega];exact Nat.le_refl _
 | succ j ih =>
  by_cases e:i=j+1
  ·subst e;exact Nat.le_refl _
  ·refine Nat.le_trans (ih (by omega)) ?_
   by_cases hj:j<l.length
   ·rw[qIW hj];omega
   ·rw[List.take_of_length_le (by omega),List.take_of_length_le (by omega)];exact Nat.le_refl _
theorem qEu{ends:List Nat}{k i v:Nat}(hk:k<=ends.length)(hi:i<=k):qAI (ends.take k++[v]) i=qAI ends i:=by
 cases i with
 | zero=>rfl
 | succ i =>
  show (ends.take k++[v]).getD i 0=ends.getD i 0
  rw[List.getD_eq_getElem?_getD,List.getD_eq_getElem?_getD,List.getElem?_append_left (by rw[List.length_take];omega),List.getElem?_take,if_pos (by omega)]
theorem qGf{ends:List Nat}{k v:Nat}(hk:k<=ends.length):qAI (ends.take k++[v]) (k+1)=v:=by
 show (ends.take k++[v]).getD k 0=v
 have hl:(ends.take k).length=k:=by rw[List.length_take];omega
 rw[List.getD_eq_getElem?_getD,List.getElem?_append_right (by omega),hl,Nat.sub_self];rfl
section
variable{Ok:Gm->Prop}{mems:List Gm}{logs:List Nat}{k:Nat}{log:List En}{ends:List Nat}
theorem qGk.start{x:Gm}(h:Ok x):qGk Ok [x] [] 0 [] []:=⟨rfl,Nat.le_refl _,rfl,fun i hi=>by cases i <;> rfl,rfl,(fun i b a h1 h2=>by
 rw[List.getElem?_eq_none (by simp)]at h2;cases h2),fun y hy=>by rw[List.mem_singleton.1 hy];exact h⟩
theorem qGk.move(h:qGk Ok mems logs k log ends){j:Nat}(hj:j<=logs.length):qGk Ok mems logs j log ends:=⟨h.len,hj,h.elen,h.sum,h.ll,h.way,h.ok⟩
theorem qGk.mono(h:qGk Ok mems logs k log ends){i j:Nat}(hij:i<=j)(hj:j<=logs.length):qAI ends i<=qAI ends j:=by
 rw[h.sum i (by rw[h.elen];omega),h.sum j (by rw[h.elen];omega)]
 exact sum_mono _ hij
theorem qGk.bound(h:qGk Ok mems logs k log ends){i:Nat}(hi:i<=logs.length):qAI ends i<=log.length:=by
 rw[h.ll,h.elen];exact h.mono hi (Nat.le_refl _)
theorem qGk.get(h:qGk Ok mems logs k log ends){i:Nat}(hi:i<=logs.length):∃x,mems[i]?=some x/\Ok x:=by
 have hl:=h.len
 have e:=List.getElem?_eq_getElem (l:=mems) (i:=i) (by omega)
 exact⟨_,e,h.ok _ (List.getElem_mem _)⟩
theorem qGk.step(h:qGk Ok mems logs k log ends){b a:Gm}{es:List En}(hb:mems[k]?=some b)(hw:Way b a es)(ha:Ok a) :
  qGk Ok (mems.take (k+1)++[a]) (logs.take k++[es.length]) (k+1) (log.take (qAI ends k)++es) (ends.take k++[qAI ends k+es.length]):=by
 have hk:=h.le
 have hl:=h.len
 have he:=h.elen
 have hek:=h.bound hk
 have tl:(logs.take k).length=k:=by rw[List.length_take];omega
 have te:(ends.take k).length=k:=by rw[List.length_take];omega
 have tm:(mems.take (k+1)).length=k+1:=by rw[List.length_take];omega
 have tg:(log.take (qAI ends k)).length=qAI ends k:=by rw[List.length_take];omega
 refine⟨by simp only[List.length_append,tm,tl,List.length_singleton],by simp only[List.length_append,tl,List.length_singleton];omega,by simp only[List.length_append,tl,te,List.length_singleton],fun i hi=>?_,?_,fun i x y hx hy=>?_,fun y hy=>?_⟩
 ·rw[List.length_append,te,List.length_singleton]at hi
  by_cases hik:i<=k
  ·rw[qEu (by omega) hik,h.sum i (by omega),List.take_append_of_le_length (by omega),List.take_take,Nat.min_eq_left hik]
  ·obtain rfl:i=k+1:=by omega
   rw[qGf (by omega),List.take_of_length_le (by rw[List.length_append,tl];exact Nat.le_refl _),List.sum_append,h.sum k (by omega)]
   simp
 ·rw[List.length_append,List.length_append,te,tg,List.length_singleton,qGf (by omega)]
 ·by_cases hik:i<k
  ·rw[List.getElem?_append_left (by omega),List.getElem?_take,if_pos (by omega)]at hx hy
   have:=h.way i x y hx hy
   have e:qJj (log.take (qAI ends k)++es) (ends.take k++[qAI ends k+es.length]) i=qJj log ends i:=by
    have m1:=h.mono (i:=i) (j:=k) (by omega) hk
    have m2:=h.mono (i:=i+1) (j:=k) (by omega) hk
    have m3:=h.mono (i:=i) (j:=i+1) (by omega) (by omega)
    unfold qJj
    rw[qEu (by omega) (by omega),qEu (by omega) (by omega),List.drop_append_of_le_length (by omega),List.drop_take,List.take_append_of_le_length (by rw[List.length_take,List.length_drop];omega),List.take_take,Nat.min_eq_left (by omega)]
   rw[e];exact this
  ·have hyl:=(List.getElem?_eq_some_iff.1 hy).1
   rw[List.length_append,tm,List.length_singleton]at hyl
   obtain rfl:i=k:=by omega
   rw[List.getElem?_append_left (by omega),List.getElem?_take,if_pos (by omega),hb]at hx
   rw[List.getElem?_append_right (by omega),tm,Nat.sub_self]at hy
   cases hx;cases hy
   have e:qJj (log.take (qAI ends i)++es) (ends.take i++[qAI ends i+es.length]) i=es:=by
    unfold qJj
    rw[qEu (by omega) (Nat.le_refl _),qGf (by omega),List.drop_append_of_le_length (by omega),List.drop_of_length_le (by omega),Nat.add_sub_cancel_left,List.nil_append,List.take_of_length_le (Nat.le_refl _)]
   rw[e];exact hw
 ·rcases List.mem_append.1 hy with hy|hy
  ·exact h.ok y (List.mem_of_mem_take hy)
  ·rw[List.mem_singleton.1 hy];exact ha
end
end Go.Proofs
namespace Go.Proofs
open Go Go.Sx
def gmM(y:Gm):Mm:=⟨qAv,y.1,qAv,y.2.map fun n=>⟨n.1,qAv,n.2⟩⟩
def OkG(d:Ds)(y:Gm):Prop:=qAo d (gmM y)
theorem qFB(y:Gm):(gmM y).plain=y:=by
 unfold Mm.plain gmM
 simp[Function.comp_def]
section
variable{d:Ds}{m:Mm}{y:Gm}
theorem OkG.of(G:qAo d m):OkG d m.plain:=⟨G.valid,G.chk,qCG (qFB _).symm G.mem⟩
theorem OkG.to(G:OkG d y)(h:m.plain=y):qAo d m:=⟨G.valid,G.chk,qCG (by rw[qFB,h]) G.mem⟩
theorem OkG.sizes(G:OkG d y):SzOk d y/\y.2.length<=4096/\∀t,(qAm d t).length<=12:=by
 obtain⟨p1,p2,p3,p4,p5⟩:=qAt G.mem
 have h12:=lens12 G.valid
 refine⟨fun k t f hk=>?_,by have:(y.2.map fun n=>(⟨n.1,qAv,n.2⟩:Nd)).length<=4096:=p2;rwa [List.length_map]at this,fun t=>?_⟩
 ·have hm:(⟨t,qAv,f⟩:Nd)∈(gmM y).nodes:=List.mem_map.2 ⟨(t,f),List.mem_of_getElem? hk,rfl⟩
  exact(qAz.1 (p5 _ hm)).1.symm
 ·unfold qAm
  cases hx:d.types[t.toNat]? with
  | none=>simp
  | some x=>exact h12.2 x (List.mem_of_getElem? hx)
theorem OkG.type(G:OkG d y){k:Nat}{t:Int}{f:List Int}(hk:y.2[k]?=some (t,f)):0<=t/\t<(d.types.length:Int):=by
 obtain⟨p1,p2,p3,p4,p5⟩:=qAt G.mem
 have hm:(⟨t,qAv,f⟩:Nd)∈(gmM y).nodes:=List.mem_map.2 ⟨(t,f),List.mem_of_getElem? hk,rfl⟩
 exact of_decide_eq_true (p3 _ hm)
structure Did (d:Ds) (F:Nat) (b a:Gm) (l:List (Int×Int×Int)):Prop where
 ok:OkG d a
 tra:Tra b l a
 len:l.length<=4000*F
theorem Did.way{F:Nat}{b a:Gm}{l:List (Int×Int×Int)}(h:Did d F b a l):Way b a (qBF d b a l):=by
 obtain⟨h1,h2,h3⟩:=h.ok.sizes
 exact⟨redo_all h1 h3 h2 h.tra,undo_all h.tra⟩
theorem did_play(F:Nat){nm:ByteArray}{args:List Int}(G:qAo d m)(hc:qCn d m nm args=0){r:Rx Int}(hr:r=qCq d F (qDT d nm) args (qBG m)):Did d F m.plain (r.st.g,r.st.ns) r.st.lg:=by
 subst hr
 obtain⟨i,q,hi,hq,hval⟩:=qHP hc
 have H:=play_snd (F:=F) (qGO G.valid G.chk) hq (qJy G) (qAg (qCH (qEl m).symm) hval)
 rw[hi]
 obtain⟨l,h1,h2⟩:=H.gr.tr
 have h1:(qCq d F (↑i) args (qBG m)).st.lg=l:=by rw[h1];rfl
 refine⟨H.good,by rw[h1];exact h2,?_⟩
 have h3:=H.gr.w
 have h4:=H.gr.fu (Nat.zero_le _)
 have e1:(qBG m).lg.length=0:=rfl
 have e2:(qBG m).cm=0:=rfl
 have e3:(qBG m).tk=0:=rfl
 omega
end
end Go.Proofs
namespace Go.Proofs
open Go Go.Sx
attribute [local irreducible] Go.Sx.Tri
theorem flat_row{α:Type}{row:α->List Value}{sz:Nat}(hr:∀x,(row x).length=sz){x':α}{j:Nat}{vs:List Value}(hj:j+vs.length<=sz):∀{xs:List α} {i:Nat} {x:α},xs[i]?=some x->row x'=(row x).take j++vs++(row x).drop (j+vs.length)->(xs.set i x').flatMap row=(xs.flatMap row).take (i*sz+j)++vs++(xs.flatMap row).drop (i*sz+j+vs.length)
 | [],_,_,h,_=>by simp at h
 | y::ys,0,x,h,e=>by
  simp only[List.getElem?_cons_zero,Option.some.injEq]at h
  subst h
  have hy:=hr y
  rw[List.set_cons_zero,List.flatMap_cons,List.flatMap_cons,e,Nat.zero_mul,Nat.zero_add,List.take_append_of_le_length (by omega),List.drop_append_of_le_length (by omega)]
  simp only[List.append_assoc]
 | y::ys,i+1,x,h,e=>by
  rw[List.getElem?_cons_succ]at h
  have hy:=hr y
  have e1:(i+1)*sz=sz+i*sz:=by rw[Nat.add_mul];omega
  have t1:∀(L:List Value) (k:Nat),(row y++L).take (sz+k)=row y++L.take k:=fun L k=>by
   rw[List.take_append,List.take_of_length_le (by omega),hy,Nat.add_sub_cancel_left]
  have t2:∀(L:List Value) (k:Nat),(row y++L).drop (sz+k)=L.drop k:=fun L k=>by
   rw[List.drop_append,List.drop_of_length_le (by omega),hy,Nat.add_sub_cancel_left,List.nil_append]
  rw[List.set_cons_succ,List.flatMap_cons,List.flatMap_cons,flat_row hr hj h e,e1,show sz+i*sz+j=sz+(i*sz+j) by omega,show sz+(i*sz+j)+vs.length=sz+(i*sz+j+vs.length) by omega,t1,t2]
  simp only[List.append_assoc]
theorem flat_len'{α:Type}{row:α->List Value}{sz:Nat}(hr:∀x,(row x).length=sz)(xs:List α):(xs.flatMap row).length=xs.length*sz:=by
 induction xs with
 | nil=>simp
 | cons x xs ih=>rw[List.flatMap_cons,List.length_append,ih,hr,List.length_cons,Nat.add_mul];omega
section
variable{α:Type}{row:α->List Value}{sz:Nat}{V0 V V':Mem}{e:TypeId}{s:Sl}{xs:List α}
theorem own_row(hr:∀x,(row x).length=sz)(o:Sx.Own V0 V e sz s (xs.flatMap row)){i j k:Nat}{x x':α}{vs:List Value}(hx:xs[i]?=some x)(hj:j+vs.length<=sz)(hv:vs≠[])(hrow:row x'=(row x).take j++vs++(row x).drop (j+vs.length))(hk:k=i*sz+j){q:Mem->Prop}
  (hq:∀V',Sx.Own V0 V' e sz s ((xs.set i x').flatMap row)->(∀c,¬Blk s c->V' c=V c)->q V'):StT (qAa s.p k) 0 vs V q:=by
 subst hk
 have hv0:0<vs.length:=by cases vs with|nil=>exact absurd rfl hv|cons _ _=>simp
 have hn:s.n=xs.length:=o.n_eq hr (by omega)
 have hi:i<xs.length:=(List.getElem?_eq_some_iff.1 hx).1
 rcases o.cases0 with⟨h1,h2,h3⟩|⟨hc,g,cur,h1,h2,h3,h4,h5,h6,h7⟩
 ·omega
 have hlen:=o.len
 have h8:(i+1)*sz<=s.n*sz:=Nat.mul_le_mul_right _ (by omega)
 have h9:s.n*sz<=s.c*sz:=Nat.mul_le_mul_right _ h4
 rw[Nat.add_mul,Nat.one_mul]at h8
 rw[h1]
 have hL:=flat_row hr hj hx hrow
 have hLl:=flat_len' hr (xs.set i x')
 rw[List.length_set]at hLl
 have key:(cur.toList.take (i*sz+j)++vs++cur.toList.drop (i*sz+j+vs.length)).take (s.n*sz)=(xs.set i x').flatMap row:=by
  rw[hL,<- h7,List.take_take,Nat.min_eq_left (by omega),List.drop_take,List.take_append,List.take_of_length_le (by rw[List.length_append,List.length_take,Array.length_toList];omega)]
  congr 2
  rw[List.length_append,List.length_take,Array.length_toList]
  omega
 refine StT.at2 (off:=i*sz+j) h3 (by omega) (hq _ ⟨o.sub.set h2 _,by rw[hLl,hn],.inr ⟨g,_,h1,h2,Mem.set_same _ _ _,h4,h5,?_,by simpa using key⟩⟩ fun c hc'=>?_)
 ·rw[List.size_toArray,List.length_append,List.length_append,List.length_take,List.length_drop,Array.length_toList,Nat.min_eq_left (by omega)];omega
 ·rw[Mem.set_ne]
  rintro rfl
  exact hc' ⟨hc,h1⟩
theorem own_cut(hr:∀x,(row x).length=sz)(o:Sx.Own V0 V e sz s (xs.flatMap row)){k:Nat}(hk:k<=xs.length)(hsz:0<sz):Sx.Own V0 V e sz ⟨s.p,k,s.c⟩ ((xs.take k).flatMap row):=by
 have hn:s.n=xs.length:=o.n_eq hr hsz
 have hl:=flat_len' hr (xs.take k)
 rw[List.length_take,Nat.min_eq_left hk]at hl
 refine⟨o.sub,hl,?_⟩
 rcases o.cases0 with⟨h1,h2,h3⟩|⟨hc,g,cur,h1,h2,h3,h4,h5,h6,h7⟩
 ·have:xs=[]:=List.eq_nil_of_length_eq_zero (by omega)
  subst this
  exact .inl ⟨by show k=0;simpa using hk,h2,by simp⟩
 ·refine .inr ⟨g,cur,h1,h2,h3,by show k<=s.c;omega,h5,h6,?_⟩
  show cur.toList.take (k*sz)=_
  have e1:k*sz<=s.n*sz:=Nat.mul_le_mul_right _ (by omega)
  have e2:cur.toList.take (k*sz)=(cur.toList.take (s.n*sz)).take (k*sz):=by rw[List.take_take,Nat.min_eq_left e1]
  rw[e2,h7]
  have e3:xs.flatMap row=(xs.take k).flatMap row++(xs.drop k).flatMap row:=by rw[<- List.flatMap_append,List.take_append_drop]
  rw[e3,List.take_append_of_le_length (by omega),List.take_of_length_le (by omega)]
theorem own_grow{vs:List Value}(o:Sx.Own V0 V e sz s vs)(h:V.sub V'):Sx.Own V0 V' e sz s vs:=⟨o.sub.trans h,o.len,by
 rcases o.cases0 with h1|⟨hc,g,cur,h1,h2,h3,h4⟩
 ·exact .inl h1
 ·exact .inr ⟨g,cur,h1,h2,h _ _ h3,h4⟩⟩
end
theorem qEs(x:Fld):(Fld.row x).length=2:=rfl
theorem qDM(x:Ty):(Ty.row x).length=2:=rfl
theorem qCk(x:Pr):(Pr.row x).length=5:=rfl
theorem qBT(x:E):(E.row x).length=4:=rfl
theorem qCS(x:S):(S.row x).length=5:=by cases x;rfl
theorem app22:AppP 22 132 2 Ty.row:=appG Tryz.underlying22 (by kernel_rfl) (by kernel_rfl) (by kernel_rfl) (by kernel_rfl) (by kernel_rfl) (by decide) qDM fun x u hu=>by simp only[Ty.row,Go.Sx.vS,Sl.v,List.mem_cons,List.not_mem_nil,or_false]at hu;rcases hu with rfl|rfl <;> rfl
theorem app24:AppP 24 121 5 Pr.row:=appG Tryz.underlying24 (by kernel_rfl) (by kernel_rfl) (by kernel_rfl) (by kernel_rfl) (by kernel_rfl) (by decide) qCk fun x u hu=>by simp only[Pr.row,Go.Sx.vS,Sl.v,List.mem_cons,List.not_mem_nil,or_false]at hu;rcases hu with rfl|rfl|rfl|rfl|rfl <;> rfl
theorem app114:AppP 114 116 4 E.row:=appG Tryz.underlying114 (by kernel_rfl) (by kernel_rfl) (by kernel_rfl) (by kernel_rfl) (by kernel_rfl) (by decide) qBT fun x u hu=>by simp only[E.row,Go.Sx.vS,Go.Sx.vI,Sl.v,List.mem_cons,List.not_mem_nil,or_false]at hu;rcases hu with rfl|rfl|rfl|rfl <;> rfl
theorem app117:AppP 117 119 5 S.row:=appG Tryz.underlying117 (by kernel_rfl) (by kernel_rfl) (by kernel_rfl) (by kernel_rfl) (by kernel_rfl) (by decide) qCS fun x u hu=>by
 cases x
 simp only[S.row,Go.Sx.vS,Go.Sx.vI,Sl.v,List.mem_cons,List.not_mem_nil,or_false]at hu;rcases hu with rfl|rfl|rfl|rfl|rfl <;> rfl
theorem c56{V:Mem}{l:Sl}{xs:List Fld}(h:qAc V l 2 (xs.map Fld.row))(hb:xs.length<=2147483648):Tri Tryz.prog 56 #[l.v] V fun e V'=>∃s:Sl,e=.returned (.slice s.p s.n s.c)/\Sx.Own V V' 113 2 s (xs.flatMap Fld.row):=by
 refine x56 ?_
 unfold w56
 refine⟨fun h0=>⟨⟨none,0,0⟩,rfl,?_⟩,fun h0 tb htb=>?_⟩
 ·have:xs=[]:=by
   cases xs with
   | nil=>rfl
   | cons a l2 =>
    have:=h.base (i:=0) (by simp)
    rw[show l.p=none from h0]at this;cases this
  subst this
  exact Own.nil (Mem.sub.refl _) _ _
 ·have s1:=Mem.sub_new htb (.cells #[] 113 (0,0))
  exact app23 (s:=⟨some ⟨tb,0,none⟩,0,0⟩) (u:=l) (xs:=[]) (ys:=xs) rfl rfl (Own.empty (V0:=V) s1 _ _ _) (h.sub s1) (by simpa using hb) fun s' V' ho=>⟨s',rfl,s',rfl,by simpa using ho⟩
theorem c55{V:Mem}{l:Sl}{xs:List Ty}(h:qAc V l 2 (xs.map Ty.row))(hb:xs.length<=2147483648):Tri Tryz.prog 55 #[l.v] V fun e V'=>∃s:Sl,e=.returned (.slice s.p s.n s.c)/\Sx.Own V V' 132 2 s (xs.flatMap Ty.row):=by
 refine x55 ?_
 unfold w55
 refine⟨fun h0=>⟨⟨none,0,0⟩,rfl,?_⟩,fun h0 tb htb=>?_⟩
 ·have:xs=[]:=by
   cases xs with
   | nil=>rfl
   | cons a l2 =>
    have:=h.base (i:=0) (by simp)
    rw[show l.p=none from h0]at this;cases this
  subst this
  exact Own.nil (Mem.sub.refl _) _ _
 ·have s1:=Mem.sub_new htb (.cells #[] 132 (0,0))
  exact app22 (s:=⟨some ⟨tb,0,none⟩,0,0⟩) (u:=l) (xs:=[]) (ys:=xs) rfl rfl (Own.empty (V0:=V) s1 _ _ _) (h.sub s1) (by simpa using hb) fun s' V' ho=>⟨s',rfl,s',rfl,by simpa using ho⟩
theorem c57{V:Mem}{l:Sl}{xs:List Pr}(h:qAc V l 5 (xs.map Pr.row))(hb:xs.length<=2147483648):Tri Tryz.prog 57 #[l.v] V fun e V'=>∃s:Sl,e=.returned (.slice s.p s.n s.c)/\Sx.Own V V' 121 5 s (xs.flatMap Pr.row):=by
 refine x57 ?_
 unfold w57
 refine⟨fun h0=>⟨⟨none,0,0⟩,rfl,?_⟩,fun h0 tb htb=>?_⟩
 ·have:xs=[]:=by
   cases xs with
   | nil=>rfl
   | cons a l2 =>
    have:=h.base (i:=0) (by simp)
    rw[show l.p=none from h0]at this;cases this
  subst this
  exact Own.nil (Mem.sub.refl _) _ _
 ·have s1:=Mem.sub_new htb (.cells #[] 121 (0,0))
  exact app24 (s:=⟨some ⟨tb,0,none⟩,0,0⟩) (u:=l) (xs:=[]) (ys:=xs) rfl rfl (Own.empty (V0:=V) s1 _ _ _) (h.sub s1) (by simpa using hb) fun s' V' ho=>⟨s',rfl,s',rfl,by simpa using ho⟩
theorem c52{V:Mem}{l:Sl}{xs:List E}(h:qAc V l 4 (xs.map E.row))(hb:xs.length<=2147483648):Tri Tryz.prog 52 #[l.v] V fun e V'=>∃s:Sl,e=.returned (.slice s.p s.n s.c)/\Sx.Own V V' 116 4 s (xs.flatMap E.row):=by
 refine x52 ?_
 unfold w52
 refine⟨fun h0=>⟨⟨none,0,0⟩,rfl,?_⟩,fun h0 tb htb=>?_⟩
 ·have:xs=[]:=by
   cases xs with
   | nil=>rfl
   | cons a l2 =>
    have:=h.base (i:=0) (by simp)
    rw[show l.p=none from h0]at this;cases this
  subst this
  exact Own.nil (Mem.sub.refl _) _ _
 ·have s1:=Mem.sub_new htb (.cells #[] 116 (0,0))
  exact app114 (s:=⟨some ⟨tb,0,none⟩,0,0⟩) (u:=l) (xs:=[]) (ys:=xs) rfl rfl (Own.empty (V0:=V) s1 _ _ _) (h.sub s1) (by simpa using hb) fun s' V' ho=>⟨s',rfl,s',rfl,by simpa using ho⟩
theorem c54{V:Mem}{l:Sl}{xs:List S}(h:qAc V l 5 (xs.map S.row))(hb:xs.length<=2147483648):Tri Tryz.prog 54 #[l.v] V fun e V'=>∃s:Sl,e=.returned (.slice s.p s.n s.c)/\Sx.Own V V' 119 5 s (xs.flatMap S.row):=by
 refine x54 ?_
 unfold w54
 refine⟨fun h0=>⟨⟨none,0,0⟩,rfl,?_⟩,fun h0 tb htb=>?_⟩
 ·have:xs=[]:=by
   cases xs with
   | nil=>rfl
   | cons a l2 =>
    have:=h.base (i:=0) (by simp)
    rw[show l.p=none from h0]at this;cases this
  subst this
  exact Own.nil (Mem.sub.refl _) _ _
 ·have s1:=Mem.sub_new htb (.cells #[] 119 (0,0))
  exact app117 (s:=⟨some ⟨tb,0,none⟩,0,0⟩) (u:=l) (xs:=[]) (ys:=xs) rfl rfl (Own.empty (V0:=V) s1 _ _ _) (h.sub s1) (by simpa using hb) fun s' V' ho=>⟨s',rfl,s',rfl,by simpa using ho⟩
noncomputable def Mem.anew(V V':Mem):Mem:=Mem.minus V' fun c=>V c≠none
theorem anew_at{V V':Mem}{c:Nat}{o:Obj}(h:V c=none)(k:V' c=some o):Mem.anew V V' c=some o:=by
 unfold Mem.anew;rw[qAS (by rw[h];simp)];exact k
theorem qGX{V V':Mem}{c:Nat}{o:Obj}(h:Mem.anew V V' c=some o):V c=none/\V' c=some o:=by
 unfold Mem.anew Mem.minus at h
 split at h
 ·cases h
 ·rename_i hc;exact⟨by simpa using hc,h⟩
def Kept(sl:Sl)(V V':Mem):Prop:=∀c o,V c=some o->¬Blk sl c->V' c=some o
theorem Kept.refl(sl:Sl)(V:Mem):Kept sl V V:=fun _ _ h _=>h
theorem Kept.trans{sl:Sl}{A B C:Mem}(h:Kept sl A B)(k:Kept sl B C):Kept sl A C:=fun c o hc hb=>k c o (h c o hc hb) hb
theorem Kept.of{sl:Sl}{A B:Mem}(h:A.sub B):Kept sl A B:=fun c o hc _=>h c o hc
theorem Kept.st{sl:Sl}{A B:Mem}(h:∀c,¬Blk sl c->B c=A c):Kept sl A B:=fun c o hc hb=>by rw[h c hb];exact hc
structure Prt {α:Type} (row:α->List Value) (e sz:Nat) (ok:Mem->α->Prop) (er:α->α) (V:Mem) (sl:Sl) (k:List α) (i:Nat) (O V2:Mem):Prop where
 ex:∃done:List α,done.length=i/\Sx.Own V V2 e sz sl ((done++k.drop i).flatMap row)/\(∀x∈done,ok (Mem.minus O fun c=>V c≠none∨Blk sl c) x)/\done.map er=(k.take i).map er
 vo:V.sub O
 kept:Kept sl O V2
theorem minus_mono{A B:Mem}{M:Nat->Prop}(h:∀c o,A c=some o->¬M c->B c=some o):(Mem.minus A M).sub (Mem.minus B M):=fun c o hc=>by
 unfold Mem.minus at hc ⊢
 split at hc
 ·cases hc
 ·rename_i hn
  rw[if_neg hn];exact h c o hc hn
section
variable{α:Type}{row:α->List Value}{e sz:Nat}{ok:Mem->α->Prop}{er:α->α}{V O V2 V3 V4:Mem}{sl:Sl}{k:List α}{i:Nat}
theorem Prt.start(h:Sx.Own V V2 e sz sl (k.flatMap row)):Prt row e sz ok er V sl k 0 V2 V2:=⟨⟨[],rfl,h,(fun _ h=>by cases h),rfl⟩,h.sub,Kept.refl _ _⟩
theorem Prt.sub(h:Prt row e sz ok er V sl k i O V2):V.sub V2:=by obtain⟨_,_,o,_⟩:=h.ex;exact o.sub
theorem Prt.blk(h:Prt row e sz ok er V sl k i O V2){c:Nat}(hc:Blk sl c):V c=none/\∃cur,V2 c=some (.cells cur e (0,0)):=by
 obtain⟨_,_,o,_⟩:=h.ex
 exact⟨Own.none0 o hc,Own.some o hc⟩
theorem Prt.get(hr:∀x,(row x).length=sz)(hz:0<sz)(h:Prt row e sz ok er V sl k i O V2){x:α}(hx:k[i]?=some x):¬sl.p=none/\(0:Int)<=(i:Int)/\(i:Int)<(sl.n:Int)/\V2.rowp sl.p (i*sz) sz=some (row x)/\IR ((i:Int)+1):=by
 obtain⟨done,hd,o,-,-⟩:=h.ex
 have R:=o.rows hr hz
 have hl:=(List.getElem?_eq_some_iff.1 hx).1
 have hn:=R.n_eq
 have e1:(done++k.drop i).length=k.length:=by rw[List.length_append,List.length_drop,hd];omega
 have hx':(done++k.drop i)[i]?=some x:=by rw[List.getElem?_append_right (by omega),hd,Nat.sub_self,List.getElem?_drop];exact hx
 obtain⟨y,-,hy,-,-,hp,h0,hrow⟩:=R.get (i:=i) (by omega)
 rw[hx']at hy;cases hy
 exact⟨hp,h0,by omega,hrow,R.succ (by omega)⟩
theorem Prt.n(hr:∀x,(row x).length=sz)(hz:0<sz)(hi:i<=k.length)(h:Prt row e sz ok er V sl k i O V2):sl.n=k.length:=by
 obtain⟨done,hd,o,-,-⟩:=h.ex
 have:=(o.rows hr hz).n_eq
 rw[List.length_append,List.length_drop,hd]at this;omega
theorem Prt.move(h:Prt row e sz ok er V sl k i O V2)(hk:Kept sl O V3)(hb:∀g o,Blk sl g->V2 g=some o->V3 g=some o):Prt row e sz ok er V sl k i O V3:=by
 obtain⟨done,hd,o,h1,h2⟩:=h.ex
 exact⟨⟨done,hd,Own.moveB o (fun c ob hc=>hk _ _ (h.vo _ _ hc) (o.apart0 hc)) fun g cur hg hc=>hb g _ hg hc,h1,h2⟩,h.vo,hk⟩
theorem Prt.grow(h:Prt row e sz ok er V sl k i O V2)(hs:V2.sub V3):Prt row e sz ok er V sl k i O V3:=h.move (h.kept.trans (Kept.of hs)) fun _ _ _ hc=>hs _ _ hc
theorem Prt.rebase(hm:∀{W W' x},ok W x->W.sub W'->ok W' x)(h:Prt row e sz ok er V sl k i O V2):Prt row e sz ok er V sl k i V2 V2:=by
 obtain⟨done,hd,o,h1,h2⟩:=h.ex
 exact⟨⟨done,hd,o,fun x hx=>hm (h1 x hx) (minus_mono fun c ob hc hn=>h.kept _ _ hc fun hb=>hn (.inr hb)),h2⟩,o.sub,Kept.refl _ _⟩
theorem Prt.self(h:Prt row e sz ok er V sl k i O V2){x:α}(hx:k[i]?=some x):Prt row e sz ok er V sl (k.set i x) i O V2:=by
 obtain⟨hl,e⟩:=List.getElem?_eq_some_iff.1 hx
 have:k.set i x=k:=by rw[<- e];exact List.set_getElem_self hl
 rw[this];exact h
theorem Prt.part(hr:∀x,(row x).length=sz){x:α}(x':α)(h:Prt row e sz ok er V sl (k.set i x) i O V2)(hl:i<k.length){j m:Nat}{vs:List Value}(hj:j+vs.length<=sz)(hv:vs≠[])(hrow:row x'=(row x).take j++vs++(row x).drop (j+vs.length))(hp:m=i*sz+j){q:Mem->Prop}
  (hq:∀V',Prt row e sz ok er V sl (k.set i x') i O V'->(∀c,¬Blk sl c->V' c=V2 c)->q V'):StT (qAa sl.p m) 0 vs V2 q:=by
 obtain⟨done,hd,o,h1,h2⟩:=h.ex
 have hx':(done++(k.set i x).drop i)[i]?=some x:=by rw[List.getElem?_append_right (by omega),hd,Nat.sub_self,List.getElem?_drop,Nat.add_zero,List.getElem?_set_self hl]
 have hs:(done++(k.set i x).drop i).set i x'=done++(k.set i x').drop i:=by
  rw[List.set_append_right _ _ (by omega),hd,Nat.sub_self]
  refine congrArg (done++·) (List.ext_getElem? fun n=>?_)
  rw[List.getElem?_set,List.getElem?_drop,List.getElem?_drop,List.getElem?_set,List.getElem?_set,List.length_drop,List.length_set]
  by_cases hn:0=n
  ·subst hn;rw[if_pos rfl,if_pos (by omega),if_pos (by omega),if_pos hl]
  ·rw[if_neg hn,if_neg (by omega),if_neg (by omega)]
 refine own_row hr o hx' hj hv hrow hp fun V' o' hk=>hq V' ⟨⟨done,hd,by rw[hs]at o';exact o',h1,?_⟩,h.vo,h.kept.trans (Kept.st hk)⟩ hk
 rw[h2,List.take_set_of_le (Nat.le_refl _),List.take_set_of_le (Nat.le_refl _)]
theorem Prt.succ(hm:∀{W W' x},ok W x->W.sub W'->ok W' x){x':α}(h:Prt row e sz ok er V sl (k.set i x') i O V2){x:α}(hx:k[i]?=some x)(ho:ok (Mem.minus V2 fun c=>V c≠none∨Blk sl c) x')(he:er x'=er x):Prt row e sz ok er V sl k (i+1) V2 V2:=by
 obtain⟨done,hd,o,h1,h2⟩:=(Prt.rebase (ok:=ok) (fun a b=>hm a b) h).ex
 have hl:=(List.getElem?_eq_some_iff.1 hx).1
 refine⟨⟨done++[x'],by rw[List.length_append,hd];rfl,?_,fun y hy=>?_,?_⟩,o.sub,Kept.refl _ _⟩
 ·have:done++(k.set i x').drop i=done++[x']++k.drop (i+1):=by
   rw[List.append_assoc]
   refine congrArg (done++·) ?_
   rw[List.drop_eq_getElem_cons (by rw[List.length_set];exact hl),List.getElem_set_self,List.drop_set_of_lt (Nat.lt_succ_self i)]
   rfl
  rw[this]at o;exact o
 ·rcases List.mem_append.1 hy with hy|hy
  ·exact h1 y hy
  ·rw[List.mem_singleton.1 hy];exact ho
 ·rw[List.map_append,h2,List.take_set_of_le (Nat.le_refl _),List.take_add_one,hx,List.map_append]
  simp[he]
theorem Prt.fin(hm:∀{W W' x},ok W x->W.sub W'->ok W' x)(hr:∀x,(row x).length=sz)(hz:0<sz)(h:Prt row e sz ok er V sl k i O V2)(hi:k.length<=i):∃k':List α,qAc (Mem.anew V V2) sl sz (k'.map row)/\(∀x∈k',ok (Mem.anew V V2) x)/\k'.map er=k.map er:=by
 obtain⟨done,hd,o,h1,h2⟩:=(Prt.rebase (ok:=ok) (fun a b=>hm a b) h).ex
 rw[List.drop_of_length_le hi,List.append_nil]at o
 rw[List.take_of_length_le hi]at h2
 refine⟨done,?_,fun x hx=>hm (h1 x hx) fun c ob hc=>?_,h2⟩
 ·have o':Sx.Own (fun _=>none) (Mem.anew V V2) e sz sl (done.flatMap row):=⟨(fun _ _ h=>by cases h),o.len,by
   rcases o.cases0 with h'|⟨hc,g,cur,a,b,c,d⟩
   ·exact .inl h'
   ·exact .inr ⟨g,cur,a,rfl,anew_at b c,d⟩⟩
  exact o'.rows hr hz
 ·unfold Mem.minus at hc
  split at hc
  ·cases hc
  ·rename_i hn
   refine anew_at ?_ hc
   cases hv:V c with
   | none=>rfl
   | some y=>exact absurd (.inl (by rw[hv];simp)) hn
theorem Prt.fresh(h:Prt row e sz ok er V sl k i O V2){U:Mem}(hs:V2.sub U∨Kept sl V2 U){U2 U3:Mem}(h2:∀c,Blk sl c->U c≠none)(hk:∀c o,U2 c=some o->¬Blk sl c->U3 c=some o):(Mem.anew U U2).sub (Mem.minus U3 fun c=>V c≠none∨Blk sl c):=fun c o hc=>by
 obtain⟨a,b⟩:=qGX hc
 have hnb:¬Blk sl c:=fun hb=>h2 c hb a
 have hv:V c=none:=by
  cases hx:V c with
  | none=>rfl
  | some y =>
   have:=h.sub _ _ hx
   have:U c=some y:=hs.elim (fun k=>k _ _ this) fun k=>k _ _ this hnb
   rw[a]at this;cases this
 rw[qAS]
 ·exact hk c o b hnb
 ·rintro (h'|h')
  ·exact h' hv
  ·exact hnb h'
end
theorem VE.few{e:E}(h:VE e):e.k.length<=6:=by
 have h:=h.node
 unfold qDY at h
 rw[Bool.and_eq_true,Bool.and_eq_true,decide_eq_true_eq]at h
 obtain⟨a,b,c⟩:=h.1.1
 have hp:qAE e.op=0∨qAE e.op=1∨qAE e.op=-1∨qAE e.op=3∨qAE e.op=2∨qAE e.op=-2:=by
  unfold qAE
  split
  ·simp
  ·split
   ·simp
   ·split
    ·simp
    ·split
     ·simp
     ·split <;> simp
 omega
def FnE(V:Mem)(b:Nat):Prop:=∃t,V b=some (.cells #[.func (.func 51) #[] #[pv b]] t (0,0))
def FnS(V:Mem)(b1 b2:Nat):Prop:=∃t,V b2=some (.cells #[.func (.func 53) #[] #[pv b1,pv b2]] t (0,0))
theorem FnE.sub{V V':Mem}{b:Nat}(h:FnE V b)(hs:V.sub V'):FnE V' b:=by obtain⟨t,h⟩:=h;exact⟨t,hs _ _ h⟩
theorem FnS.sub{V V':Mem}{b1 b2:Nat}(h:FnS V b1 b2)(hs:V.sub V'):FnS V' b1 b2:=by obtain⟨t,h⟩:=h;exact⟨t,hs _ _ h⟩
theorem eOkM{W W':Mem}{x:E}(h:E.Ok W x)(k:W.sub W'):E.Ok W' x:=h.sub k
theorem sOkM{W W':Mem}{x:S}(h:S.Ok W x)(k:W.sub W'):S.Ok W' x:=h.sub k
theorem copyE:∀e:E,VE e->∀{V:Mem} {b:Nat},E.Ok V e->FnE V b->Tri Tryz.prog 51 #[e.v,pv b] V fun r V'=>∃e':E,r=.returned e'.v/\V.sub V'/\E.Ok (Mem.anew V V') e'/\eEr e'=eEr e:=by
 refine E.ind fun e ih hv V b ho hf=>?_
 cases e with
 | mk op n s l k =>
 refine x51 (R:=fun r V'=>∃e':E,r=.returned e'.v/\V.sub V'/\E.Ok (Mem.anew V V') e'/\eEr e'=eEr (.mk op n s l k)) ?_
 unfold w51
 refine Tri.mono (c52 ho.rows (Nat.le_trans hv.few (by decide))) ?_
 rintro _ V1 ⟨sl,rfl,o1⟩
 refine⟨sl,rfl,qHw k.length (fun i V2=>Prt E.row 116 4 E.Ok eEr V sl k i V2 V2) (Prt.start o1) ?_⟩
 rintro i V2 J hi P hJ
 have hn:=P.n qBT (by decide) hi
 refine⟨fun hlt=>?_,fun hge=>?_⟩
 ·have hlt:(i:Int)<(sl.n:Int):=hlt
  have hil:i<k.length:=by omega
  have hx:=List.getElem?_eq_getElem hil
  obtain⟨hp,h0,hl,hrow,hI⟩:=P.get qBT (by decide) hx
  have hf2:=hf.sub P.sub
  obtain⟨t,hft⟩:=hf2
  refine⟨.func (.func 51) #[] #[pv b],rfl,qAd hft 0 1 (by simp),hp,h0,hl,_,_,_,_,hrow,51,#[],#[pv b],rfl,Tryz.call51,?_⟩
  refine Tri.mono (ih _ (List.getElem_mem hil) (hv.kids _ (List.getElem_mem hil)) ((ho.kids _ (List.getElem_mem hil)).sub P.sub) ⟨t,hft⟩) ?_
  rintro _ V3 ⟨e',rfl,s3,o3,he⟩
  refine⟨e'.op,e'.n,e'.s,e'.l,rfl,hp,h0,hl,Prt.part (j:=0) (vs:=e'.row) qBT e' ((P.grow s3).self hx) hil (by rw[qBT];decide) (by simp[E.row]) (by simp[E.row]) rfl fun V4 P4 hk4=>⟨hI,hJ hil _ (Prt.succ (ok:=E.Ok) eOkM P4 hx (o3.sub (P.fresh (.inl (Mem.sub.refl _)) (fun c hc=>by obtain⟨cur,h⟩:=(P.blk hc).2;rw[h];simp) fun c o hc hb=>by rw[hk4 c hb];exact hc)) he)⟩⟩
 ·have hge:¬(i:Int)<(sl.n:Int):=hge
  have hkl:k.length<=i:=by omega
  obtain⟨k',h1,h2,h3⟩:=Prt.fin (ok:=E.Ok) eOkM qBT (by decide) P hkl
  refine⟨.mk op n s sl k',rfl,P.sub,.mk h1 h2 ho.opR ho.nR,?_⟩
  unfold eEr
  rw[qCZ,qCZ,h3]
theorem szSs_len:∀l:List S,l.length<=qDO l
 | []=>Nat.zero_le _
 | x::xs=>by
  have:=szSs_len xs
  have h:1<=szS x:=by cases x;unfold szS;omega
  unfold qDO
  rw[List.length_cons];omega
theorem qIU:∀{l:List S} {x:S},x∈l->szS x<=qDO l
 | y::l,x,h=>by
  unfold qDO
  rcases List.mem_cons.1 h with rfl|h
  ·omega
  ·have:=qIU h;omega
def VSs(l:List S):Prop:=(∃k,qFN k l=true)/\qDO l<=200
theorem VSs.at_{l:List S}(h:VSs l){x:S}(hx:x∈l):VSs x.ls/\VSs x.xs/\x.es.length<=2/\∀e∈x.es,VE e:=by
 obtain⟨⟨k,hk⟩,hs⟩:=h
 have h1:=qFq hk x hx
 have h2:=qIU hx
 rw[szS_eq]at h2
 rw[okS_eq,Bool.and_eq_true,Bool.and_eq_true,Bool.and_eq_true]at h1
 have h3:=h1.1.1.2
 unfold qBO at h3
 rw[Bool.and_eq_true]at h3
 refine⟨⟨⟨_,h1.1.2⟩,by omega⟩,⟨⟨_,h1.2⟩,by omega⟩,?_,fun e he=>VE.of_valid (List.all_eq_true.1 h3.2 e he)⟩
 have h4:=h3.1
 unfold qFj at h4
 repeat' split at h4
 all_goals first | (simp only[Bool.and_eq_true,decide_eq_true_eq]at h4;omega) | (exact absurd h4 (by decide))
theorem qFo{V:Mem}{p:Option Addr}{off n j:Nat}{vs:List Value}{v:Value}(h:V.rowp p off n=some vs)(hj:0<j)(hl:j+1<=n)(hv:(vs.drop j).take 1=[v]):V.rowp (qAa (qAa p off) j) 0 1=some [v]:=by rw[rowp_part h hj hl,hv]
theorem copyS:∀(n:Nat) (l:List S),qDO l=n->VSs l->∀{V:Mem} {b1 b2:Nat} {s0:Sl},qAc V s0 5 (l.map S.row)->(∀x∈l,S.Ok V x)->FnE V b1->FnS V b1 b2 ->
  Tri Tryz.prog 53 #[s0.v,pv b1,pv b2] V fun r V'=>∃(sl:Sl) (l':List S),r=.returned (.slice sl.p sl.n sl.c)/\V.sub V'/\qAc (Mem.anew V V') sl 5 (l'.map S.row)/\(∀x∈l',S.Ok (Mem.anew V V') x)/\l'.map sEr=l.map sEr:=by
 intro n
 induction n using Nat.strongRecOn with
 | _ n ih =>
 intro l hsz hv V b1 b2 s0 hr ho hf1 hf2
 refine x53 (R:=fun r V'=>∃(sl:Sl) (l':List S),r=.returned (.slice sl.p sl.n sl.c)/\V.sub V'/\qAc (Mem.anew V V') sl 5 (l'.map S.row)/\(∀x∈l',S.Ok (Mem.anew V V') x)/\l'.map sEr=l.map sEr) ?_
 unfold w53
 have hll:=szSs_len l
 have hv2:=hv.2
 refine Tri.mono (c54 hr (by omega)) ?_
 rintro _ V1 ⟨sl,rfl,o1⟩
 refine⟨sl,rfl,qHw l.length (fun i V2=>Prt S.row 119 5 S.Ok sEr V sl l i V2 V2) (Prt.start o1) ?_⟩
 rintro i V2 J hi P hJ
 have hn:=P.n qCS (by decide) hi
 refine⟨fun hlt=>?_,fun hge=>?_⟩
 ·have hlt:(i:Int)<(sl.n:Int):=hlt
  have hil:i<l.length:=by omega
  obtain⟨x,hx⟩:∃x,l[i]?=some x:=⟨_,List.getElem?_eq_getElem hil⟩
  have hxm:=List.mem_of_getElem? hx
  obtain⟨hvl,hvx,hel,hve⟩:=hv.at_ hxm
  have hsl:qDO x.ls<n/\qDO x.xs<n:=by have:=qIU hxm;rw[szS_eq]at this;omega
  have hox:=ho x hxm
  obtain⟨hp,h0,hl,hrow,hI⟩:=P.get qCS (by decide) hx
  have hq:=qAe (n:=i*5) hp
  cases x with
  | mk op s el es ll ls xl xs =>
  refine⟨hp,h0,hl,hq,op,s,el,ll,xl,hrow,Tri.mono (c52 (hox.eRows.sub P.sub) (Nat.le_trans hel (by decide))) ?_⟩
  rintro _ V3 ⟨el',rfl,o3⟩
  have s3:=o3.sub
  have hb3:∀c,Blk el' c->V2 c=none:=fun c hc=>Own.none0 o3 hc
  have hbs:∀c,Blk sl c->V2 c≠none:=fun c hc=>by obtain⟨cur,h⟩:=(P.blk hc).2;rw[h];simp
  refine⟨el',rfl,hp,h0,hl,hq,?_⟩
  show StT (qAa (qAa sl.p (i*5)) 2) 0 _ V3 _
  rw[qBy]
  refine Prt.part (j:=2) (vs:=[el'.v]) qCS (.mk op s el' es ll ls xl xs) ((P.grow s3).self hx) hil (by simp) (by simp) rfl rfl fun V4 P4 hk4=>?_
  -- the expressions
  have o4:Sx.Own (V4.but el') V4 116 4 el' (es.flatMap E.row):=by
   refine(Own.moveB (V0:=fun _=>none) (o3.narrow fun _ _ h=>by cases h) (fun _ _ h=>by cases h) fun g cur hg hc=>?_).but
   rw[hk4 g fun hb=>hbs g hb (hb3 g hg)];exact hc
  have get4:∀{V5:Mem},Prt S.row 119 5 S.Ok sEr V sl (l.set i (.mk op s el' es ll ls xl xs)) i V2 V5->V5.rowp sl.p (i*5) 5=some [.int .i64 op,.string s,el'.v,ll.v,xl.v]:=fun P5=>(P5.get qCS (by decide) (x:=.mk op s el' es ll ls xl xs) (by rw[List.getElem?_set_self hil])).2.2.2.1
  refine⟨hp,h0,hl,hq,op,s,el',ll,xl,get4 P4,qHw es.length (fun j V5=>Prt E.row 116 4 E.Ok eEr (V4.but el') el' es j V5 V5/\Prt S.row 119 5 S.Ok sEr V sl (l.set i (.mk op s el' es ll ls xl xs)) i V2 V5) ⟨Prt.start o4,P4⟩ ?_⟩
  rintro j V5 J1 hj ⟨Q,P5⟩ hJ1
  have hn2:=Q.n qBT (by decide) hj
  have s05:=P5.sub
  refine⟨fun hlt2=>?_,fun hge2=>?_⟩
  ·have hlt2:(j:Int)<(el'.n:Int):=hlt2
   have hjl:j<es.length:=by omega
   obtain⟨y,hy⟩:∃y,es[j]?=some y:=⟨_,List.getElem?_eq_getElem hjl⟩
   have hym:=List.mem_of_getElem? hy
   obtain⟨qp,q0,ql,qrow,qI⟩:=Q.get qBT (by decide) hy
   obtain⟨t,hft⟩:=hf1.sub s05
   refine⟨hp,h0,hl,hq,op,s,el',ll,xl,get4 P5,.func (.func 51) #[] #[pv b1],rfl,qAd hft 0 1 (by simp),hp,h0,hl,hq,op,s,el',ll,xl,get4 P5,qp,q0,ql,_,_,_,_,qrow,51,#[],#[pv b1],rfl,Tryz.call51,?_⟩
   refine Tri.mono (copyE y (hve y hym) ((hox.eOk y hym).sub s05) ⟨t,hft⟩) ?_
   rintro _ V6 ⟨e',rfl,s6,o6,he⟩
   have P6:=P5.grow s6
   refine⟨e'.op,e'.n,e'.s,e'.l,rfl,qFo (j:=2) (get4 P6) (by decide) (by decide) rfl,hq,hp,h0,hl,qp,q0,ql,Prt.part (j:=0) (vs:=e'.row) qBT e' ((Q.grow s6).self hy) hjl (by rw[qBT];decide) (by simp[E.row]) (by simp[E.row]) rfl fun V7 Q7 hk7=>⟨qI,hJ1 hjl _ ⟨Prt.succ (ok:=E.Ok) eOkM Q7 hy (o6.sub (Q.fresh (.inl (Mem.sub.refl _)) (fun c hc=>by obtain⟨cur,h⟩:=(Q.blk hc).2;rw[h];simp) fun c o hc hb=>by rw[hk7 c hb];exact hc)) he,P6.move (fun c o hc hb=>?_) fun g o hg hc=>?_⟩⟩⟩
   ·rw[hk7 c fun h=>by rw[hb3 c h]at hc;cases hc];exact P6.kept c o hc hb
   ·rw[hk7 g fun h=>hbs g hg (hb3 g h)];exact hc
  ·have hge2:¬(j:Int)<(el'.n:Int):=hge2
   have hkl:es.length<=j:=by omega
   obtain⟨es',e1,e2,e3⟩:=Prt.fin (ok:=E.Ok) eOkM qBT (by decide) Q hkl
   obtain⟨t,hft⟩:=hf2.sub s05
   refine⟨.func (.func 53) #[] #[pv b1,pv b2],rfl,qAd hft 0 1 (by simp),hp,h0,hl,hq,op,s,el',ll,xl,get4 P5,.func (.func 53) #[] #[pv b1,pv b2],rfl,qAd hft 0 1 (by simp),hp,h0,hl,hq,op,s,el',ll,xl,get4 P5,53,#[],#[pv b1,pv b2],rfl,Tryz.call53,?_⟩
   refine Tri.mono (ih _ hsl.1 ls rfl hvl (hox.lRows.sub s05) (fun y hy=>(hox.lOk y hy).sub s05) (hf1.sub s05) ⟨t,hft⟩) ?_
   rintro _ V6 ⟨ll',ls',rfl,s6,a1,a2,a3⟩
   have P6:=P5.grow s6
   refine⟨ll',rfl,qFo (j:=4) (get4 P6) (by decide) (by decide) rfl,hq,hp,h0,hl,qAd (s6 _ _ hft) 0 1 (by simp),53,#[],#[pv b1,pv b2],rfl,Tryz.call53,?_⟩
   have s06:=s05.trans s6
   refine Tri.mono (ih _ hsl.2 xs rfl hvx (hox.xRows.sub s06) (fun y hy=>(hox.xOk y hy).sub s06) (hf1.sub s06) ⟨t,s6 _ _ hft⟩) ?_
   rintro _ V7 ⟨xl',xs',rfl,s7,b3,b4,b5⟩
   have P7:=P6.grow s7
   refine⟨xl',rfl,hp,h0,hl,hq,?_⟩
   show StT (qAa (qAa sl.p (i*5)) 3) 0 _ V7 _
   rw[qBy]
   refine Prt.part (j:=3) (vs:=[ll'.v]) qCS (.mk op s el' es' ll' ls' xl xs) P7 hil (by simp) (by simp) rfl rfl fun V8 P8 hk8=>⟨hp,h0,hl,hq,?_⟩
   show StT (qAa (qAa sl.p (i*5)) 4) 0 _ V8 _
   rw[qBy]
   refine Prt.part (j:=4) (vs:=[xl'.v]) qCS (.mk op s el' es' ll' ls' xl' xs') P8 hil (by simp) (by simp) rfl rfl fun V9 P9 hk9=>⟨hI,hJ hil _ (Prt.succ (ok:=S.Ok) sOkM P9 hx ?_ ?_)⟩
   ·have k79:∀c o,V7 c=some o->¬Blk sl c->V9 c=some o:=fun c o hc hb=>by rw[hk9 c hb,hk8 c hb];exact hc
    have k59:∀c o,V5 c=some o->¬Blk sl c->V9 c=some o:=fun c o hc hb=>k79 c o (s7 _ _ (s6 _ _ hc)) hb
    have f0:(Mem.anew (V4.but el') V5).sub (Mem.minus V9 fun c=>V c≠none∨Blk sl c):=fun c o hc=>by
     obtain⟨h1,h2⟩:=qGX hc
     have k:V c=none/\¬Blk sl c:=by
      by_cases hb:Blk el' c
      ·exact⟨free P.sub (hb3 c hb),fun h=>hbs c h (hb3 c hb)⟩
      ·have h4:V4 c=none:=by
        cases hx:V4 c with
        | none=>rfl
        | some o'=>rw[Mem.but_at hx hb]at h1;cases h1
       exact⟨free P4.sub h4,fun h=>by obtain⟨cur,hc⟩:=(P4.blk h).2;rw[hc]at h4;cases h4⟩
     rw[qAS fun h=>h.elim (fun h=>h k.1) k.2]
     exact k59 c o h2 k.2
    have f1:∀{A B:Mem},V.sub A->(∀c,Blk sl c->A c≠none)->(∀c o,B c=some o->¬Blk sl c->V9 c=some o)->(Mem.anew A B).sub (Mem.minus V9 fun c=>V c≠none∨Blk sl c):=fun {A B} ha hb hk c o hc=>by
     obtain⟨h1,h2⟩:=qGX hc
     have k2:¬Blk sl c:=fun h=>hb c h h1
     rw[qAS fun h=>h.elim (fun h=>h (free ha h1)) k2]
     exact hk c o h2 k2
    have f5:=f1 (A:=V5) (B:=V6) s05 (fun c hc=>by obtain⟨cur,h⟩:=(P5.blk hc).2;rw[h];simp) fun c o hc hb=>k79 c o (s7 _ _ hc) hb
    have f6:=f1 (A:=V6) (B:=V7) s06 (fun c hc=>by obtain⟨cur,h⟩:=(P6.blk hc).2;rw[h];simp) k79
    have hor:IntKind.i64.min<=op/\op<=IntKind.i64.max:=by cases hox;assumption
    exact .mk (e1.sub f0) (fun y hy=>(e2 y hy).sub f0) (a1.sub f5) (fun y hy=>(a2 y hy).sub f5) (b3.sub f6) (fun y hy=>(b4 y hy).sub f6) hor
   ·unfold sEr
    rw[qCZ,qCZ,qCT,qCT,qCT,qCT,e3]
    have a3:ls'.map sEr=ls.map sEr:=a3
    have b5:xs'.map sEr=xs.map sEr:=b5
    rw[a3,b5]
 ·have hge:¬(i:Int)<(sl.n:Int):=hge
  have hkl:l.length<=i:=by omega
  obtain⟨l',h1,h2,h3⟩:=Prt.fin (ok:=S.Ok) sOkM qCS (by decide) P hkl
  exact⟨sl,l',rfl,P.sub,h1,h2,h3⟩
theorem qGP{α:Type}{row:α->List Value}{sz e:Nat}{V V':Mem}{s:Sl}{xs:List α}(hr:∀x,(row x).length=sz)(hz:0<sz)(o:Sx.Own V V' e sz s (xs.flatMap row)):qAc (Mem.anew V V') s sz (xs.map row):=by
 have o':Sx.Own (fun _=>none) (Mem.anew V V') e sz s (xs.flatMap row):=⟨(fun _ _ h=>by cases h),o.len,by
  rcases o.cases0 with h'|⟨hc,g,cur,a,b,c,d⟩
  ·exact .inl h'
  ·exact .inr ⟨g,cur,a,rfl,anew_at b c,d⟩⟩
 exact o'.rows hr hz
noncomputable def qFP(V:Mem)(p1 p2:Nat):Mem:=Mem.minus V fun c=>c=p1∨c=p2
section
variable{V V':Mem}{p1 p2:Nat}
theorem qFD{c:Nat}{o:Obj}(h:V c=some o)(h1:c≠p1)(h2:c≠p2):qFP V p1 p2 c=some o:=by unfold qFP;rw[qAS fun k=>k.elim h1 h2];exact h
theorem qEf{c:Nat}{o:Obj}(h:qFP V p1 p2 c=some o):V c=some o/\c≠p1/\c≠p2:=by
 unfold qFP Mem.minus at h
 split at h
 ·cases h
 ·rename_i hn;exact⟨h,fun e=>hn (.inl e),fun e=>hn (.inr e)⟩
theorem qJJ:(qFP V p1 p2).sub V:=fun _ _ h=>(qEf h).1
theorem qFC(h:V.sub V'):(qFP V p1 p2).sub (qFP V' p1 p2):=fun c o hc=>by
 obtain⟨a,b,e⟩:=qEf hc
 exact qFD (h _ _ a) b e
theorem qJK{o:Obj}:(qFP V p1 p2).sub (qFP (V.set p1 o) p1 p2):=fun c x hc=>by
 obtain⟨a,b,e⟩:=qEf hc
 exact qFD (by rw[Mem.set_ne b];exact a) b e
theorem duo_new{A B:Mem}(h:B.sub V)(h1:A p1≠none)(h2:A p2≠none):(Mem.anew A B).sub (qFP V p1 p2):=fun c o hc=>by
 obtain⟨a,b⟩:=qGX hc
 exact qFD (h _ _ b) (fun e=>h1 (e ▸ a)) fun e=>h2 (e ▸ a)
end
structure CS (V0:Mem) (p1 p2 p3 p4:Nat) (x:Ds) (V:Mem):Prop where
 base:V0.sub (qFP V p1 p2)
 fe:FnE (qFP V p1 p2) p3
 fs:FnS (qFP V p1 p2) p3 p4
 at1:V p1=some (.cells x.row.toArray 30 (0,0))
 at2:∃y,V p2=some (.cells y 30 (0,0))/\y.size=8
 ne:p1≠p2
section
variable{V0 V V':Mem}{p1 p2 p3 p4:Nat}{x x':Ds}
theorem CS.grow(h:CS V0 p1 p2 p3 p4 x V)(hs:V.sub V'):CS V0 p1 p2 p3 p4 x V':=⟨h.base.trans (qFC hs),h.fe.sub (qFC hs),h.fs.sub (qFC hs),hs _ _ h.at1,(by obtain⟨y,h1,h2⟩:=h.at2;exact⟨y,hs _ _ h1,h2⟩),h.ne⟩
theorem CS.set(h:CS V0 p1 p2 p3 p4 x V){c:Array Value}(hc:c=x'.row.toArray):CS V0 p1 p2 p3 p4 x' (V.set p1 (.cells c 30 (0,0))):=⟨h.base.trans qJK,h.fe.sub qJK,h.fs.sub qJK,by rw[Mem.set_same,hc],(by obtain⟨y,h1,h2⟩:=h.at2;exact⟨y,by rw[Mem.set_ne h.ne.symm];exact h1,h2⟩),h.ne⟩
theorem CS.st(h:CS V0 p1 p2 p3 p4 x V){j:Nat}{s:Sl}(hj:j+1<=8)(x':Ds)(hx:x'.row=x.row.take j++[s.v]++x.row.drop (j+1)){q:Mem->Prop}(hq:∀V',V'=V.set p1 (.cells x'.row.toArray 30 (0,0))->CS V0 p1 p2 p3 p4 x' V'->(qFP V p1 p2).sub (qFP V' p1 p2)->q V'):StT (qAa (sa p1) j) 0 [s.v] V q:=by
 refine StT.at2 (off:=j) h.at1 (by show j+1<=8;exact hj) ?_
 have e:((x.row.toArray.toList.take j++[s.v]++x.row.toArray.toList.drop (j+[s.v].length)).toArray:Array Value)=x'.row.toArray:=by rw[hx];rfl
 rw[e]
 exact hq _ rfl (h.set rfl) qJK
end
theorem own_self{α:Type}{row:α->List Value}{sz e:Nat}{V V1 V':Mem}{s:Sl}{xs:List α}(o:Sx.Own V V1 e sz s (xs.flatMap row))(hk:∀g,Blk s g->V' g=V1 g):Sx.Own (V'.but s) V' e sz s (xs.flatMap row) :=
 (Own.moveB (V0:=fun _=>none) (o.narrow fun _ _ h=>by cases h) (fun _ _ h=>by cases h) fun g cur hg hc=>by rw[hk g hg];exact hc).but
theorem tOkM{W W':Mem}{x:Ty}(h:Ty.Ok W x)(k:W.sub W'):Ty.Ok W' x:=h.sub k
theorem pOkM{W W':Mem}{x:Pr}(h:Pr.Ok W x)(k:W.sub W'):Pr.Ok W' x:=h.sub k
def deskT:Go.Sx.T:=.cons (.var .s 0) (.cons (.var .sl 1) (.cons (.var .sl 2) (.cons (.var .sl 3) (.cons (.var .sl 4) (.cons (.var .sl 5) (.cons (.var .sl 6) (.cons (.var .sl 7) .nil)))))))
theorem results_desc{tmps:Array Value}{b:Nat}{x:Ds}{w:World}(h2:tmps.getD 2 undef=pv b)(hc:w.heap[b]?=some (.cells x.row.toArray 30 (0,0))):(results Tryz.f31 tmps).run Tryz.prog w=.ok x.v w:=by
 have hr:Tryz.f31.results=#[.cell 2 30]:=by kernel_rfl
 unfold results
 rw[hr]
 have e2:asAddr (tmps.getD 2 undef)=pure ⟨b,0,none⟩:=by rw[h2];rfl
 have l2:(loadVar 30 ⟨b,0,none⟩).run Tryz.prog w=.ok x.v w:=run_ldv (cs:=deskT) (y:=.agg deskT) (ρ:=x.row) hc (by kernel_rfl) rfl
 simp only[List.mapM_toArray,List.mapM_cons,List.mapM_nil,Sem.run_bind,Sem.run_map,Sem.run_pure,Result.andThen_ok,e2,l2]
 rfl
theorem valid_small{d:Ds}(h:qAH d=true):d.types.length<=12/\(∀t∈d.types,t.fields.length<=12)/\d.globals.length<=8/\d.procs.length<=40/\∀p∈d.procs,p.params.length<=6/\p.locals.length<=12/\VSs p.body:=by
 have h12:=lens12 h
 unfold qAH at h
 simp only[Bool.and_eq_true,decide_eq_true_eq]at h
 refine⟨by have:=h.1.1.1.1.1.1.2;omega,h12.2,h12.1,by have:=h.1.1.1.1.2;omega,fun p hp=>?_⟩
 have h1:=List.all_eq_true.1 h.1.2 p hp
 unfold prB qDL qEK at h1
 simp only[Bool.and_eq_true,decide_eq_true_eq]at h1
 exact⟨by have:=h1.1.1.1.2.1;omega,by have:=h1.1.1.2.1;omega,⟨1,h1.2.1⟩,h1.2.2⟩
section
variable{V0 V W:Mem}{p1 p2 p3 p4:Nat}{x y d:Ds}
theorem CS.but(h:CS V0 p1 p2 p3 p4 x V)(k:CS V0 p1 p2 p3 p4 y W){s:Sl}(hn:∀c,Blk s c->W c=none):CS V0 p1 p2 p3 p4 x (V.but s):=by
 have nb:∀{c:Nat} {o:Obj},W c=some o->¬Blk s c:=fun hc hb=>by rw[hn _ hb]at hc;cases hc
 have go:∀{c:Nat} {o o':Obj},qFP V p1 p2 c=some o->qFP W p1 p2 c=some o'->qFP (V.but s) p1 p2 c=some o:=fun {c o o'} hc hw=>by
  obtain⟨a,b,e⟩:=qEf hc
  exact qFD (Mem.but_at a (nb (qEf hw).1)) b e
 obtain⟨t1,f1⟩:=h.fe
 obtain⟨t2,f2⟩:=h.fs
 obtain⟨t1',f1'⟩:=k.fe
 obtain⟨t2',f2'⟩:=k.fs
 obtain⟨z,z1,z2⟩:=h.at2
 obtain⟨z',z1',-⟩:=k.at2
 exact⟨fun c o hc=>go (h.base _ _ hc) (k.base _ _ hc),⟨t1,go f1 f1'⟩,⟨t2,go f2 f2'⟩,Mem.but_at h.at1 (nb k.at1),⟨z,Mem.but_at z1 (nb z1'),z2⟩,h.ne⟩
theorem CS.sub(h:CS V0 p1 p2 p3 p4 x V):V0.sub V:=h.base.trans qJJ
theorem CS.p1n(h:CS V0 p1 p2 p3 p4 x V):V p1≠none:=by rw[h.at1];simp
theorem CS.p2n(h:CS V0 p1 p2 p3 p4 x V):V p2≠none:=by obtain⟨y,h1,-⟩:=h.at2;rw[h1];simp
theorem CS.read(h:CS V0 p1 p2 p3 p4 x V){j n:Nat}(hj:j+n<=8):V.rowp (sa p1) j n=some ((x.row.drop j).take n):=qAd h.at1 j n hj
theorem copyC{V:Mem}(hd:Ds.Ok V0 d)(hv:qAH d=true)(hb:V0.sub (qFP V p1 p2))(hf:FnE (qFP V p1 p2) p3){t4:Nat}(h4:V p4=some (cell .nilFunc t4))(h40:V0 p4=none)(n41:p4≠p1)(n42:p4≠p2)(n43:p4≠p3)(h1:V p1=some (.cells d.row.toArray 30 (0,0)))(h2:∃y,V p2=some (.cells y 30 (0,0))/\y.size=8)(ne:p1≠p2) :
  Seg Tryz.prog 82 c31c [(1,pv p1),(2,pv p2),(3,pv p3),(4,pv p4)] [2] V fun vs V'=>vs=[pv p2]/\∃d':Ds,V' p2=some (.cells d'.row.toArray 30 (0,0))/\V0.sub V'/\Ds.Ok V' d'/\qEY d d':=by
 refine s31c ?_
 obtain⟨l1,l2,l3,l4,l5⟩:=valid_small hv
 obtain⟨R,hR⟩:∃R:Ending->Mem->Prop,R=fun e V'=>∃vs:List Value,e=.returned (.tuple vs.toArray)/\vs=[pv p2]/\∃d':Ds,V' p2=some (.cells d'.row.toArray 30 (0,0))/\V0.sub V'/\Ds.Ok V' d'/\qEY d d':=⟨_,rfl⟩
 show w31c _ _ _ _ _ (fun e V'=>∃vs:List Value,e=.returned (.tuple vs.toArray)/\vs=[pv p2]/\∃d':Ds,V' p2=some (.cells d'.row.toArray 30 (0,0))/\V0.sub V'/\Ds.Ok V' d'/\qEY d d')
 rw[<- hR]
 unfold w31c
 refine StT.cell h4 ?_
 have q1:∀{c:Nat} {o:Obj},qFP V p1 p2 c=some o->c≠p4->qFP (V.set p4 (Go.Sx.cell (.func (.func 53) #[] #[pv p3,pv p4]) t4)) p1 p2 c=some o:=fun {c o} hc hn=>by
  obtain⟨a,b,e⟩:=qEf hc
  exact qFD (by rw[Mem.set_ne hn];exact a) b e
 have C3:CS V0 p1 p2 p3 p4 d (V.set p4 (Go.Sx.cell (.func (.func 53) #[] #[pv p3,pv p4]) t4)):=by
  refine⟨fun c o hc=>q1 (hb _ _ hc) fun e=>(by rw[e,h40]at hc;cases hc),?_,⟨t4,qFD mss n41 n42⟩,by rw[Mem.set_ne n41.symm];exact h1,?_,ne⟩
  ·obtain⟨t,hf⟩:=hf;exact⟨t,q1 hf n43.symm⟩
  ·obtain⟨y,y1,y2⟩:=h2;exact⟨y,by rw[Mem.set_ne n42.symm];exact y1,y2⟩
 show ¬_/\_
 generalize V.set p4 _=V3 at C3 ⊢
 -- the types
 refine⟨nn,d.ts,C3.read (j:=1) (n:=1) (by decide),Tri.mono (c55 (hd.types.sub C3.sub) (by omega)) ?_⟩
 rintro _ V4 ⟨ts,rfl,o4⟩
 have C4:=C3.grow o4.sub
 refine⟨ts,rfl,nn,C4.st (j:=1) (by decide) { d with ts:=ts } rfl fun V5 e5 C5 _=>?_⟩
 have hn4:∀c,Blk ts c->V3 c=none:=fun c hc=>Own.none0 o4 hc
 have Cb:=C5.but C3 hn4
 have o5:Sx.Own (V5.but ts) V5 132 2 ts (d.types.flatMap Ty.row):=own_self o4 fun g hg=>by
  rw[e5];exact Mem.set_ne fun e:g=p1=>C3.p1n (by rw[<- e];exact hn4 g hg)
 refine⟨nn,ts,C5.read (j:=1) (n:=1) (by decide),qHw d.types.length (fun i V6=>Prt Ty.row 132 2 Ty.Ok tEr (V5.but ts) ts d.types i V6 V6) (Prt.start o5) ?_⟩
 rintro i V6 J hi P hJ
 have hn:=P.n qDM (by decide) hi
 have C6:=Cb.grow P.sub
 refine⟨fun hlt=>?_,fun hge=>?_⟩
 ·have hlt:(i:Int)<(ts.n:Int):=hlt
  have hil:i<d.types.length:=by omega
  obtain⟨x,hx⟩:∃x,d.types[i]?=some x:=⟨_,List.getElem?_eq_getElem hil⟩
  have hxm:=List.mem_of_getElem? hx
  obtain⟨hp,h0,hl,hrow,hI⟩:=P.get qDM (by decide) hx
  have hq:=qAe (n:=i*2) hp
  refine⟨nn,ts,C6.read (j:=1) (n:=1) (by decide),nn,ts,C6.read (j:=1) (n:=1) (by decide),hp,h0,hl,hq,_,_,hrow,Tri.mono (c56 ((hd.typesOk x hxm).fields.sub C6.sub) (by have:=l2 x hxm;omega)) ?_⟩
  rintro _ V7 ⟨fs',rfl,o7⟩
  have C7:=C6.grow o7.sub
  refine⟨fs',rfl,qAK C7.at1 1 0 1 (by simp[Ds.row]),nn,hp,h0,hl,hq,?_⟩
  show StT (qAa (qAa ts.p (i*2)) 1) 0 _ V7 _
  rw[qBy]
  refine Prt.part (j:=1) (vs:=[fs'.v]) qDM ⟨x.name,fs',x.fields⟩ ((P.grow o7.sub).self hx) hil (by simp) (by simp) rfl rfl fun V8 P8 hk8=>⟨hI,hJ hil _ (Prt.succ (ok:=Ty.Ok) tOkM P8 hx ⟨(qGP qEs (by decide) o7).sub (P.fresh (.inl (Mem.sub.refl _)) (fun c hc=>by obtain⟨cur,h⟩:=(P.blk hc).2;rw[h];simp) fun c o hc hb=>by rw[hk8 c hb];exact hc)⟩ rfl)⟩
 have hge:¬(i:Int)<(ts.n:Int):=hge
 have hkl:d.types.length<=i:=by omega
 obtain⟨types',t1,t2,t3⟩:=Prt.fin (ok:=Ty.Ok) tOkM qDM (by decide) P hkl
 have d6:=duo_new (A:=V5.but ts) (B:=V6) (V:=V6) (Mem.sub.refl _) Cb.p1n Cb.p2n
 have T6:=t1.sub d6
 have U6:=fun t m=>(t2 t m).sub d6
 clear t1 t2 d6 P hJ
 -- the global variables
 refine⟨nn,d.gs,C6.read (j:=2) (n:=1) (by decide),Tri.mono (c56 (hd.globals.sub C6.sub) (by omega)) ?_⟩
 rintro _ V7 ⟨gs,rfl,o7⟩
 have C7:=C6.grow o7.sub
 refine⟨gs,rfl,nn,C7.st (j:=2) (by decide) { d with ts:=ts,gs:=gs } rfl fun V8 e8 C8 m8=>?_⟩
 have G8:=(qGP qEs (by decide) o7).sub ((duo_new (Mem.sub.refl _) C6.p1n C6.p2n).trans m8)
 have s68:=(qFC o7.sub).trans m8
 have T8:=T6.sub s68
 have U8:=fun t m=>(U6 t m).sub s68
 clear T6 U6
 -- the procedures
 refine⟨nn,d.ps,C8.read (j:=3) (n:=1) (by decide),Tri.mono (c57 (hd.procs.sub C8.sub) (by omega)) ?_⟩
 rintro _ V9 ⟨ps,rfl,o9⟩
 have C9:=C8.grow o9.sub
 refine⟨ps,rfl,nn,C9.st (j:=3) (by decide) { d with ts:=ts,gs:=gs,ps:=ps } rfl fun V10 e10 C10 m10=>?_⟩
 have hn9:∀c,Blk ps c->V8 c=none:=fun c hc=>Own.none0 o9 hc
 have Cc:=C10.but C8 hn9
 have o10:Sx.Own (V10.but ps) V10 121 5 ps (d.procs.flatMap Pr.row):=own_self o9 fun g hg=>by
  rw[e10];exact Mem.set_ne fun e:g=p1=>C8.p1n (by rw[<- e];exact hn9 g hg)
 have sB:(qFP V8 p1 p2).sub (qFP (V10.but ps) p1 p2):=fun c o hc=>by
  obtain⟨a,b,e⟩:=qEf hc
  refine qFD (Mem.but_at ?_ fun h=>by rw[hn9 c h]at a;cases a) b e
  rw[e10,Mem.set_ne b];exact o9.sub _ _ a
 have TB:=T8.sub sB
 have GB:=G8.sub sB
 have UB:=fun t m=>(U8 t m).sub sB
 clear T8 G8 U8 sB m10 o9
 refine⟨nn,ps,C10.read (j:=3) (n:=1) (by decide),qHw d.procs.length (fun i V11=>Prt Pr.row 121 5 Pr.Ok pEr (V10.but ps) ps d.procs i V11 V11) (Prt.start o10) ?_⟩
 rintro i V11 J hi P hJ
 have hn:=P.n qCk (by decide) hi
 have C11:=Cc.grow P.sub
 refine⟨fun hlt=>?_,fun hge=>?_⟩
 ·have hlt:(i:Int)<(ps.n:Int):=hlt
  have hil:i<d.procs.length:=by omega
  obtain⟨x,hx⟩:∃x,d.procs[i]?=some x:=⟨_,List.getElem?_eq_getElem hil⟩
  have hxm:=List.mem_of_getElem? hx
  obtain⟨hp,h0,hl,hrow,hI⟩:=P.get qCk (by decide) hx
  have hq:=qAe (n:=i*5) hp
  obtain⟨x1,x2,x3⟩:=l5 x hxm
  have hxo:=hd.procsOk x hxm
  obtain⟨tS,hfS⟩:=C11.fs.sub qJJ
  have gt:∀{U:Mem},V11.sub U->U.rowp ps.p (i*5) 5=some [Go.Sx.vS x.name,x.ps.v,Go.Sx.vS x.result,x.ls.v,x.bs.v]:=fun hs=>((P.grow hs).get qCk (by decide) hx).2.2.2.1
  have fn:∀{U:Mem},V11.sub U->U.rowp (sa p4) 0 1=some [.func (.func 53) #[] #[pv p3,pv p4]]:=fun hs=>qAd (hs _ _ hfS) 0 1 (by simp)
  refine⟨nn,ps,C11.read (j:=3) (n:=1) (by decide),hp,h0,hl,hq,hq,_,_,_,_,_,hrow,hq,hq,_,_,_,_,_,hrow,.func (.func 53) #[] #[pv p3,pv p4],rfl,fn (Mem.sub.refl _),hq,hq,_,_,_,_,_,hrow,Tri.mono (c56 (hxo.params.sub C11.sub) (by omega)) ?_⟩
  rintro _ V12 ⟨pa,rfl,o12⟩
  have s12:=o12.sub
  refine⟨pa,rfl,qFo (j:=4) (gt s12) (by decide) (by decide) rfl,hq,hq,fn s12,qFo (j:=3) (gt s12) (by decide) (by decide) rfl,hq,hq,Tri.mono (c56 (hxo.locals.sub (C11.sub.trans s12)) (by omega)) ?_⟩
  rintro _ V13 ⟨lo,rfl,o13⟩
  have s13:=s12.trans o13.sub
  refine⟨lo,rfl,qFo (j:=4) (gt s13) (by decide) (by decide) rfl,hq,hq,fn s13,53,#[],#[pv p3,pv p4],rfl,Tryz.call53,?_⟩
  have s03:=C11.sub.trans s13
  refine Tri.mono (copyS _ x.body rfl x3 (hxo.body.sub s03) (fun s m=>(hxo.stmts s m).sub s03) ((C11.fe.sub qJJ).sub s13) ((C11.fs.sub qJJ).sub s13)) ?_
  rintro _ V14 ⟨bo,body',rfl,s14,b1,b2,b3⟩
  have P14:=(P.grow (s13.trans s14)).self hx
  refine⟨bo,rfl,hq,hq,?_⟩
  show StT (qAa (qAa ps.p (i*5)) 1) 0 _ V14 _
  rw[qBy]
  refine Prt.part (j:=1) (vs:=[pa.v]) qCk ⟨x.name,pa,x.params,x.result,x.ls,x.locals,x.bs,x.body⟩ P14 hil (by simp) (by simp) rfl rfl fun V15 P15 hk15=>⟨hq,hq,?_⟩
  show StT (qAa (qAa ps.p (i*5)) 3) 0 _ V15 _
  rw[qBy]
  refine Prt.part (j:=3) (vs:=[lo.v]) qCk ⟨x.name,pa,x.params,x.result,lo,x.locals,x.bs,x.body⟩ P15 hil (by simp) (by simp) rfl rfl fun V16 P16 hk16=>⟨hq,hq,?_⟩
  show StT (qAa (qAa ps.p (i*5)) 4) 0 _ V16 _
  rw[qBy]
  refine Prt.part (j:=4) (vs:=[bo.v]) qCk ⟨x.name,pa,x.params,x.result,lo,x.locals,bo,body'⟩ P16 hil (by simp) (by simp) rfl rfl fun V17 P17 hk17=>⟨hI,hJ hil _ (Prt.succ (ok:=Pr.Ok) pOkM P17 hx ?_ ?_)⟩
  ·have k17:∀c o,V14 c=some o->¬Blk ps c->V17 c=some o:=fun c o hc hb=>by rw[hk17 c hb,hk16 c hb,hk15 c hb];exact hc
   have nb:∀c,Blk ps c->V11 c≠none:=fun c hc=>by obtain⟨cur,h⟩:=(P.blk hc).2;rw[h];simp
   have some_up:∀{A:Mem},V11.sub A->∀c,Blk ps c->A c≠none:=fun {A} hs c hc=>by
    obtain⟨cur,h⟩:=(P.blk hc).2
    rw[hs _ _ h];simp
   have f1:=P.fresh (U:=V11) (U2:=V12) (U3:=V17) (.inl (Mem.sub.refl _)) nb fun c o hc hb=>k17 c o (s14 _ _ (o13.sub _ _ hc)) hb
   have f2:=P.fresh (U:=V12) (U2:=V13) (U3:=V17) (.inl s12) (some_up s12) fun c o hc hb=>k17 c o (s14 _ _ hc) hb
   have f3:=P.fresh (U:=V13) (U2:=V14) (U3:=V17) (.inl s13) (some_up s13) k17
   exact⟨(qGP qEs (by decide) o12).sub f1,(qGP qEs (by decide) o13).sub f2,b1.sub f3,fun s m=>(b2 s m).sub f3⟩
  ·unfold pEr
   rw[qCT,qCT]
   have b3:body'.map sEr=x.body.map sEr:=b3
   rw[b3]
 have hge:¬(i:Int)<(ps.n:Int):=hge
 have hkl:d.procs.length<=i:=by omega
 obtain⟨procs',r1,r2,r3⟩:=Prt.fin (ok:=Pr.Ok) pOkM qCk (by decide) P hkl
 have d11:=duo_new (A:=V10.but ps) (B:=V11) (V:=V11) (Mem.sub.refl _) Cc.p1n Cc.p2n
 have sB:=qFC (p1:=p1) (p2:=p2) P.sub
 -- the conditions
 refine⟨nn,C11.st (j:=4) (s:=qAv) (by decide) { d with ts:=ts,gs:=gs,ps:=ps,ms:=qAv } rfl fun V12 _ C12 m12=>⟨nn,C12.st (j:=5) (s:=qAv) (by decide) { d with ts:=ts,gs:=gs,ps:=ps,ms:=qAv,is:=qAv } rfl fun V13 _ C13 m13=>⟨nn,C13.st (j:=6) (s:=qAv) (by decide) { d with ts:=ts,gs:=gs,ps:=ps,ms:=qAv,is:=qAv,qs:=qAv } rfl fun V14 _ C14 m14=>⟨nn,C14.st (j:=7) (s:=qAv) (by decide) { d with ts:=ts,gs:=gs,ps:=ps,ms:=qAv,is:=qAv,qs:=qAv,bs:=qAv } rfl fun V15 _ C15 m15=>⟨_,_,_,_,_,_,_,_,C15.read (j:=0) (n:=8) (by decide),?_⟩⟩⟩⟩⟩
 obtain⟨y,y1,y2⟩:=C15.at2
 refine StT.at_ (off:=0) y1 (by rw[y2];exact Nat.le_refl 8) ?_
 have m115:=m12.trans (m13.trans (m14.trans m15))
 have e0:((y.toList.take 0++[Go.Sx.vS d.name,ts.v,gs.v,ps.v,qAv.v,qAv.v,qAv.v,qAv.v]++y.toList.drop (0+[Go.Sx.vS d.name,ts.v,gs.v,ps.v,qAv.v,qAv.v,qAv.v,qAv.v].length)).toArray:Array Value)=({ d with ts:=ts,gs:=gs,ps:=ps,ms:=qAv,is:=qAv,qs:=qAv,bs:=qAv }:Ds).row.toArray:=by
  have:y.toList.drop 8=[]:=List.drop_of_length_le (by rw[Array.length_toList,y2];exact Nat.le_refl _)
  simp[this,Ds.row]
 have sF:(qFP V15 p1 p2).sub (V15.set p2 (.cells (y.toList.take 0++[Go.Sx.vS d.name,ts.v,gs.v,ps.v,qAv.v,qAv.v,qAv.v,qAv.v]++y.toList.drop (0+[Go.Sx.vS d.name,ts.v,gs.v,ps.v,qAv.v,qAv.v,qAv.v,qAv.v].length)).toArray 30 (0,0))):=fun c o hc=>by
  obtain⟨a,b,e⟩:=qEf hc
  rw[Mem.set_ne e];exact a
 have sB2:=sB.trans (m115.trans sF)
 have d2:=d11.trans (m115.trans sF)
 rw[hR]
 refine⟨_,rfl,rfl,⟨d.name,ts,types',gs,d.globals,ps,procs',qAv,[],qAv,[],qAv,[],qAv,[]⟩,?_,C15.base.trans sF,⟨TB.sub sB2,fun t m=>(UB t m).sub sB2,GB.sub sB2,r1.sub d2,fun t m=>(r2 t m).sub d2,qAc.nil,(fun _ h=>by cases h),qAc.nil,(fun _ h=>by cases h),qAc.nil,(fun _ h=>by cases h),qAc.nil,fun _ h=>by cases h⟩,⟨?_,rfl,rfl,rfl,rfl⟩⟩
 ·show (V15.set p2 _) p2=_
  rw[Mem.set_same]
  exact congrArg (fun c=>some (Obj.cells c 30 (0,0))) e0
 ·unfold dEr
  rw[show types'.map tEr=d.types.map tEr from t3,show procs'.map pEr=d.procs.map pEr from r3]
end
theorem copied_flat:flat (qAj Tryz.f31)=c31a++(c31b++(c31c++[.ret])):=by kernel_rfl
theorem c31{V:Mem}{d:Ds}(hd:Ds.Ok V d)(hv:qAH d=true):Tri Tryz.prog 31 #[d.v] V fun e V'=>∃d':Ds,e=.returned d'.v/\V.sub V'/\Ds.Ok V' d'/\qEY d d':=by
 refine qDN (c:=qAj Tryz.f31) Tryz.func31 (by kernel_rfl) ?_
 intro w hV
 rw[copied_flat]
 have hA:Seg Tryz.prog 82 c31a [(0,d.v)] [1,2,3] V fun vs V1=>∃p1 p2 p3,vs=[pv p1,pv p2,pv p3]/\V p1=none/\V p2=none/\V p3=none/\V.sub V1/\p1≠p2/\p3≠p1/\p3≠p2/\V1 p1=some (.cells d.row.toArray 30 (0,0))/\(∃y,V1 p2=some (.cells y 30 (0,0))/\y.size=8)/\∃t,V1 p3=some (cell .nilFunc t):=by
  refine s31a (a:=d.name) (b:=d.ts) (c:=d.gs) (d:=d.ps) (g:=d.ms) (i:=d.is) (j:=d.qs) (k:=d.bs) ?_
  unfold w31a
  intro p1 h1 p2 h2 p3 h3
  have s1:=Mem.sub_new h1 (.cells #[.string d.name,d.ts.v,d.gs.v,d.ps.v,d.ms.v,d.is.v,d.qs.v,d.bs.v] 30 (0,0))
  have n12:p1≠p2:=fun e=>by rw[<- e]at h2;exact absurd h2 (by erw [Mem.set_same];simp)
  have n23:p3≠p2:=fun e=>by rw[e]at h3;exact absurd h3 (by erw [Mem.set_same];simp)
  have h2':=free s1 h2
  have s2:=Mem.sub_new h2 (.cells #[.string (qAq []),qAv.v,qAv.v,qAv.v,qAv.v,qAv.v,qAv.v,qAv.v] 30 (0,0))
  have h3':=free (s1.trans s2) h3
  have s3:=Mem.sub_new h3 (cell .nilFunc 127)
  have n13:p3≠p1:=fun e=>by
   have:=s2 _ _ (Mem.set_same V p1 (.cells #[.string d.name,d.ts.v,d.gs.v,d.ps.v,d.ms.v,d.is.v,d.qs.v,d.bs.v] 30 (0,0)))
   have h3:=free (Mem.sub.refl _) h3
   rw[e]at h3
   exact absurd (this.symm.trans h3) (by simp)
  exact⟨_,rfl,p1,p2,p3,rfl,h1,h2',h3',s1.trans (s2.trans s3),n12,n13,n23,(s2.trans s3) _ _ mss,⟨_,s3 _ _ mss,rfl⟩,⟨_,Mem.set_same _ _ _⟩⟩
 refine hA.step hV (qFA (args:=[d.v]) (N:=82) (by simp)) ?_
 rintro a1 w1 vs V1 hd1 hH1 ⟨p1,p2,p3,rfl,z1,z2,z3,s1,n12,n31,n32,c1,c2,t3,c3⟩ hF1
 have hB:Seg Tryz.prog 82 c31b [(1,pv p1),(2,pv p2),(3,pv p3)] [1,2,3,4] V1 fun vs V2=>∃p4,vs=[pv p1,pv p2,pv p3,pv p4]/\V.sub (qFP V2 p1 p2)/\FnE (qFP V2 p1 p2) p3/\V2 p1=some (.cells d.row.toArray 30 (0,0))/\(∃y,V2 p2=some (.cells y 30 (0,0))/\y.size=8)/\V p4=none/\p4≠p1/\p4≠p2/\p4≠p3/\∃t,V2 p4=some (cell .nilFunc t):=by
  refine s31b ?_
  unfold w31b
  refine StT.cell c3 fun p4 h4=>?_
  obtain⟨U,hU⟩:∃U,U=V1.set p3 (cell (.func (.func 51) #[] #[pv p3]) t3):=⟨_,rfl⟩
  have h4:U p4=none:=by rw[hU];exact h4
  have e1:U p1=some (.cells d.row.toArray 30 (0,0)):=by rw[hU,Mem.set_ne n31.symm];exact c1
  have e3:U p3=some (cell (.func (.func 51) #[] #[pv p3]) t3):=by rw[hU,Mem.set_same]
  obtain⟨y,y1,y2⟩:=c2
  have e2:U p2=some (.cells y 30 (0,0)):=by rw[hU,Mem.set_ne n32.symm];exact y1
  have eV:V.sub U:=fun c o hc=>by rw[hU,Mem.set_ne fun e=>by rw[e,z3]at hc;cases hc];exact s1 _ _ hc
  have n:∀{c:Nat} {o:Obj},U c=some o->p4≠c:=fun hc e=>by rw[<- e,h4]at hc;cases hc
  refine⟨_,rfl,p4,rfl,?_⟩
  show V.sub (qFP (V1.set p3 _ |>.set p4 _) p1 p2)/\_
  erw [<- hU]
  have s4:=Mem.sub_new h4 (cell .nilFunc 129)
  exact⟨fun c o hc=>qFD (s4 _ _ (eV _ _ hc)) (fun e=>by rw[e,z1]at hc;cases hc) fun e=>(by rw[e,z2]at hc;cases hc),⟨t3,qFD (s4 _ _ e3) n31 n32⟩,s4 _ _ e1,⟨y,s4 _ _ e2,y2⟩,free eV h4,n e1,n e2,n e3,⟨_,Mem.set_same _ _ _⟩⟩
 refine hB.step hF1.le hH1 ?_
 rintro a2 w2 vs V2 hd2 hH2 ⟨p4,rfl,b1,b2,b3,b4,b5,b6,b7,b8,t4,b9⟩ hF2
 refine(copyC hd hv b1 b2 b9 b5 b6 b7 b8 b3 b4 n12).step hF2.le hH2 ?_
 rintro a3 w3 vs V3 hd3 hH3 ⟨rfl,d',g1,g2,g3,g4⟩ hF3
 show Code.wpIn (qAy none) 0 Tryz.prog .ret _ a3 w3
 refine wpIn_ret ?_
 refine⟨.inr rfl,[],by rw[hd3,hd2,hd1];rfl,List.nodup_nil,V3,(hF1.trans hF2).trans hF3,(fun D h=>by cases h),d'.v,fun w6 hw6=>results_desc (hH3.get rfl) (hw6 _ _ g1),d',rfl,g2,g3,g4⟩
theorem c32{V:Mem}{m:Mm}(hm:Mm.Ok V m)(h1:m.globals.length<=2147483648)(h2:m.nodes.length<=4096)(h3:∀n∈m.nodes,n.f.length<=2147483648):Tri Tryz.prog 32 #[m.v] V fun e V'=>∃gs ns nd,e=.returned (.agg #[.slice gs.p gs.n gs.c,.slice ns.p ns.n ns.c])/\Lay V V' gs ns qAv nd (qBG m):=by
 refine x32 ?_
 unfold w32
 refine Tri.mono (c58 hm.globals h1) ?_
 rintro _ V1 ⟨gs,rfl,o1⟩
 refine⟨gs,rfl,loop3u (mk:=fun s:Sl=>.slice s.p s.n s.c) (mc:=fun s:Sl=>.slice s.p s.n s.c) (b0:=gs) (c0:=⟨none,0,0⟩) qCY qCY m.nodes.length (fun i b ns V2=>b=gs/\∃nd,Lay V V2 gs ns qAv nd ⟨m.globals,(m.nodes.take i).map fun n=>(n.ty,n.f),0,0,[]⟩/\nd.length=i) ⟨rfl,[],⟨o1,Own.nil o1.sub _ _,Own.nil o1.sub _ _,(fun n hn=>by cases hn),rfl,(fun n hn=>by cases hn),(fun i j n n' c h=>by cases h)⟩,rfl⟩ ?_⟩
 rintro i b ns V2 J hi ⟨rfl,nd,L,hnl⟩ hJ
 have hr:=hm.nodes.sub L.sub
 refine⟨fun hlt=>?_,fun hge=>?_⟩
 ·obtain⟨x,hxm,hx,-,hil,hp,hz,hrow⟩:=hr.get hlt
  refine⟨hp,hz,hlt,x.ty,x.sl,hrow,Tri.mono (c58 ((hm.nodesOk x hxm).rows.sub L.sub) (h3 x hxm)) ?_⟩
  rintro _ V3 ⟨fs,rfl,o3⟩
  refine⟨fs,rfl,fun tb htb=>L.new (n:=⟨x.ty,fs,x.f⟩) o3 htb rfl rfl (by omega) fun s' V' L' _=>⟨s',rfl,hr.succ hlt,hJ hil _ _ _ ⟨rfl,nd++[⟨x.ty,fs,x.f⟩],?_,by rw[List.length_append,hnl];rfl⟩⟩⟩
  rw[List.take_add_one,hx]
  simpa using L'
 ·have hd:=(hr.done hge).2
  rw[List.take_of_length_le hd]at L
  exact⟨b,ns,nd,rfl,L⟩
def qDK(e:En):List Value:=[.int .i64 e.node,.int .i64 e.field,.int .i64 e.old,.int .i64 e.new,.bool e.al,.int .i64 e.typ,.int .i64 e.size]
def qFt(n:Nat):List Value:=[.int .i64 n]
theorem qCC(e:En):(qDK e).length=7:=rfl
theorem qDm(n:Nat):(qFt n).length=1:=rfl
theorem app86:AppP 86 101 7 qDK:=appG Tryz.underlying86 (by kernel_rfl) (by kernel_rfl) (by kernel_rfl) (by kernel_rfl) (by kernel_rfl) (by decide) qCC fun x u hu=>by simp only[qDK,List.mem_cons,List.not_mem_nil,or_false]at hu;rcases hu with rfl|rfl|rfl|rfl|rfl|rfl|rfl <;> rfl
theorem appN:AppP 31 3 1 qFt:=appG Tryz.underlying31 (by kernel_rfl) (by kernel_rfl) (by kernel_rfl) (by kernel_rfl) (by kernel_rfl) (by decide) qDm fun x u hu=>by simp only[qFt,List.mem_cons,List.not_mem_nil,or_false]at hu;subst hu;rfl
theorem rows_cut{α:Type}{V:Mem}{s:Sl}{sz:Nat}{row:α->List Value}{xs:List α}(h:qAc V s sz (xs.map row)){lo hi:Nat}(h1:lo<=hi)(h2:hi<=xs.length):qAc V ⟨if s.c=lo then s.p else qAa s.p (lo*sz),hi-lo,s.c-lo⟩ sz (((xs.drop lo).take (hi-lo)).map row):=by
 have hn:=h.n_eq
 have hc:=h.cap
 refine⟨?_,?_,?_,fun r hr=>?_,fun i r hr=>?_⟩
 ·show hi-lo=_
  rw[List.length_map,List.length_take,List.length_drop];omega
 ·show hi-lo<=s.c-lo;omega
 ·have:=h.fit;show s.c-lo<=_;omega
 ·obtain⟨x,hx,rfl⟩:=List.mem_map.1 hr
  exact h.size _ (List.mem_map.2 ⟨x,List.mem_of_mem_drop (List.mem_of_mem_take hx),rfl⟩)
 ·rw[List.getElem?_map,List.getElem?_take]at hr
  split at hr
  ·rename_i hi'
   rw[List.getElem?_drop]at hr
   obtain⟨a,ha,hrow⟩:=h.at_ (lo+i) r (by rw[List.getElem?_map];exact hr)
   refine⟨a.add (lo*sz),?_,?_⟩
   ·show (if s.c=lo then s.p else qAa s.p (lo*sz))=_
    rw[if_neg (by omega),ha];rfl
   ·rw[qGj,<- Nat.add_mul];exact hrow
  ·cases hr
def qGo(d:Ds)(gs ns lg en:Sl)(k:Int):List Value:=[Go.Sx.vS d.name,d.ts.v,d.gs.v,d.ps.v,d.ms.v,d.is.v,d.qs.v,d.bs.v,gs.v,ns.v,lg.v,en.v,.int .i64 k]
def gst(x:Gm):St:=⟨x.1,x.2,0,0,[]⟩
structure SAt (V0 V:Mem) (p:Nat) (d:Ds) (x:Gm) (log:List En) (ends:List Nat) (k:Int) (lg en gs ns:Sl) (nd:List Nd):Prop where
 at_:V p=some (.cells (qGo d gs ns lg en k).toArray 88 (0,0))
 lay:Lay V0 V gs ns qAv nd (gst x)
 lgo:Sx.Own V0 V 101 7 lg (log.flatMap qDK)
 eno:Sx.Own V0 V 3 1 en (ends.flatMap qFt)
 eg:∀c,Blk en c->¬Blk gs c
 ef:∀n∈nd,∀c,Blk en c->¬Blk n.sl c
def SA(V0 V:Mem)(p:Nat)(d:Ds)(x:Gm)(log:List En)(ends:List Nat)(k:Int)(lg en:Sl):Prop:=V0 p=none/\∃gs ns nd,SAt V0 V p d x log ends k lg en gs ns nd
theorem qCK:NT 88/\88≠101/\NT 101:=by unfold NT;decide
section
variable{V0 V V':Mem}{p:Nat}{d:Ds}{x x':Gm}{log:List En}{ends:List Nat}{k:Int}{lg en gs ns:Sl}{nd nd':List Nd}
theorem SAt.read(S:SAt V0 V p d x log ends k lg en gs ns nd){j n:Nat}(hj:j+n<=13):V.rowp (sa p) j n=some (((qGo d gs ns lg en k).drop j).take n):=qAd S.at_ j n hj
theorem SAt.alien(S:SAt V0 V p d x log ends k lg en gs ns nd):qIh V p:=qBU S.at_ qCK.1
theorem SAt.notLg(S:SAt V0 V p d x log ends k lg en gs ns nd):¬Blk lg p:=S.lgo.apart fun cur hc=>by
 rw[S.at_]at hc
 simp only[Option.some.injEq,Obj.cells.injEq]at hc
 exact qCK.2.1 hc.2.1
theorem SAt.lgN(S:SAt V0 V p d x log ends k lg en gs ns nd){e sz:Nat}{s:Sl}{vs:List Value}(o:Sx.Own V0 V e sz s vs)(he:e=3∨e=104∨e=98){c:Nat}(hc:Blk lg c):¬Blk s c:=fun hs=>by
 obtain⟨cur,h1⟩:=Own.some S.lgo hc
 exact o.apart (qBU h1 qCK.2.2 · e he) hs
theorem SAt.put(S:SAt V0 V p d x log ends k lg en gs ns nd)(p0:V0 p=none){k':Int}{c:Array Value}(hc:c=(qGo d gs ns lg en k').toArray):SAt V0 (V.set p (.cells c 88 (0,0))) p d x log ends k' lg en gs ns nd :=
 ⟨by rw[Mem.set_same,hc],S.lay.put S.alien p0 _,S.lgo.put S.notLg p0 _,S.eno.put (S.eno.apart fun cur=>S.alien cur _ (.inl rfl)) p0 _,S.eg,S.ef⟩
theorem SAt.via(S:SAt V0 V p d x log ends k lg en gs ns nd){b:Sl}(hb:b=gs∨∃n∈nd,b=n.sl)(hk:∀c,¬Blk b c->V' c=V c)(L:Lay V0 V' gs ns qAv nd' (gst x'))(hn:∀n∈nd',∃m∈nd,m.sl=n.sl):SAt V0 V' p d x' log ends k lg en gs ns nd':=by
 have own:∃vs,Sx.Own V0 V 3 1 b vs:=by
  rcases hb with rfl|⟨n,hm,rfl⟩
  ·exact⟨_,S.lay.glob⟩
  ·exact⟨_,S.lay.fld n hm⟩
 obtain⟨vs,o⟩:=own
 have np:¬Blk b p:=o.apart fun cur=>S.alien cur _ (.inl rfl)
 refine⟨by rw[hk p np];exact S.at_,L,?_,?_,S.eg,fun n hn' c hc hb'=>?_⟩
 ·exact Own.moveB S.lgo L.sub fun g cur hg hc=>by rw[hk g (S.lgN o (.inl rfl) hg)];exact hc
 ·refine Own.moveB S.eno L.sub fun g cur hg hc=>?_
  rw[hk g]
  ·exact hc
  ·rcases hb with rfl|⟨n,hm,rfl⟩
   ·exact S.eg g hg
   ·exact S.ef n hm g hg
 ·obtain⟨m,hm,e⟩:=hn n hn'
  exact S.ef m hm c hc (e ▸ hb')
theorem SA.sub(S:SA V0 V p d x log ends k lg en):V0.sub V:=by obtain⟨-,gs,ns,nd,S⟩:=S;exact S.lay.sub
theorem SA.lgRows(S:SA V0 V p d x log ends k lg en):qAc V lg 7 (log.map qDK):=by obtain⟨-,gs,ns,nd,S⟩:=S;exact S.lgo.rows qCC (by decide)
theorem SA.enRows(S:SA V0 V p d x log ends k lg en):qAc V en 1 (ends.map qFt):=by obtain⟨-,gs,ns,nd,S⟩:=S;exact S.eno.rows qDm (by decide)
theorem c40(S:SA V0 V p d x log ends k lg en){n i:Nat}{v:Int}(h:InP x n i):Tri Tryz.prog 40 #[pv p,.int .i64 n,.int .i64 i,.int .i64 v] V fun e V'=>e=.returned (.tuple #[])/\SA V0 V' p d (qIt x n i v) log ends k lg en:=by
 obtain⟨p0,gs,ns,nd,S⟩:=S
 refine x40 ?_
 unfold w40
 rcases h with⟨rfl,h⟩|⟨m,t,f,rfl,h1,h2⟩
 ·have hg:gs.n=x.1.length:=(S.lay.glob.rows (row:=qAn) (fun _=>rfl) (by decide)).n_eq
  refine⟨fun _=>⟨nn,nn,pnn,gs,S.read (j:=8) (n:=1) (by decide),?_,by omega,by omega,?_⟩,fun h=>absurd rfl h⟩
  ·have R:=S.lay.glob.rows (row:=qAn) (fun _=>rfl) (by decide)
   exact(R.get (i:=i) (by omega)).choose_spec.2.2.2.2.1
  ·refine Lay.setG S.lay (i:=i) h fun V' L hk=>⟨rfl,p0,gs,ns,nd,S.via (x':=qIt x 0 i v) (.inl rfl) hk L fun n hn=>⟨n,hn,rfl⟩⟩
 ·obtain⟨sl,hsl⟩:=S.lay.at_ (i:=m) (x:=(t,f)) h1
  have R:=S.lay.nodes.rows (row:=Nd.row) (fun _=>rfl) (by decide)
  have hml:=(List.getElem?_eq_some_iff.1 hsl).1
  have hRn:=R.n_eq
  have hcap:=R.cap
  have hfit:=R.fit
  obtain⟨y,-,hy,-,-,hp,hz,hrow⟩:=R.get (i:=m) (by omega)
  rw[hsl]at hy;cases hy
  have Rf:=(S.lay.fld _ (List.mem_of_getElem? hsl)).rows (row:=qAn) (fun _=>rfl) (by decide)
  have hfn:=Rf.n_eq
  have hfn:sl.n=f.length:=hfn
  obtain⟨z,-,-,-,-,hp2,-,-⟩:=Rf.get (i:=i) (by show (i:Int)<(sl.n:Int);omega)
  have e1:(((m+1:Nat):Int)-1)=(m:Int):=by omega
  refine⟨fun h=>absurd h (by show ¬((m+1:Nat):Int)=0;omega),fun _=>⟨nn,nn,pnn,ns,S.read (j:=9) (n:=1) (by decide),⟨by omega,by omega⟩,?_⟩⟩
  rw[e1]
  refine⟨hp,by omega,by omega,qAe hp,t,sl,hrow,hp2,by omega,by omega,?_⟩
  refine Lay.setF S.lay (k:=m) (i:=i) hsl h2 fun V' L hk=>⟨rfl,p0,gs,ns,nd.set m ⟨t,sl,f.set i v⟩,S.via (x':=qIt x (m+1) i v) (.inr ⟨_,List.mem_of_getElem? hsl,rfl⟩) hk ?_ fun n hn=>?_⟩
  ·rw[set_n h1];exact L
  ·rcases List.mem_or_eq_of_mem_set hn with h|rfl
   ·exact⟨n,h,rfl⟩
   ·exact⟨_,List.mem_of_getElem? hsl,rfl⟩
end
section
variable{V0 V V':Mem}{p:Nat}{d:Ds}{x x':Gm}{log:List En}{ends logs:List Nat}{mems:List Gm}{Ok:Gm->Prop}{k:Nat}{lg en gs ns:Sl}{nd nd':List Nd}
def qIA(lg:Sl)(a b:Nat):Sl:=⟨if lg.c=a then lg.p else qAa lg.p (a*7),b-a,lg.c-a⟩
theorem part_sl(lg:Sl)(a b:Nat):(.slice (if ((lg.c:Int)=(a:Int)) then lg.p else qAa lg.p ((a:Int).toNat*7)) ((b:Int)-(a:Int)).toNat ((lg.c:Int)-(a:Int)).toNat:Value)=(qIA lg a b).v:=by
 unfold qIA
 rw[Int.toNat_natCast,show ((b:Int)-(a:Int)).toNat=b-a by omega,show ((lg.c:Int)-(a:Int)).toNat=lg.c-a by omega]
 by_cases h:lg.c=a
 ·rw[if_pos (by omega)];show _=Value.slice (if lg.c=a then lg.p else qAa lg.p (a*7)) _ _;rw[if_pos h]
 ·rw[if_neg (by omega)];show _=Value.slice (if lg.c=a then lg.p else qAa lg.p (a*7)) _ _;rw[if_neg h]
theorem en_at(S:SA V0 V p d x log ends k lg en){i:Nat}(hi:i<ends.length):¬en.p=none/\(0:Int)<=(i:Int)/\(i:Int)<(en.n:Int)/\V.rowp en.p ((i:Int).toNat*1) 1=some [.int .i64 ((qAI ends (i+1):Nat):Int)]:=by
 have R:=S.enRows
 have hn:=R.n_eq
 obtain⟨y,-,hy,-,-,hp,hz,hrow⟩:=R.get (i:=i) (by omega)
 refine⟨hp,hz,by omega,?_⟩
 rw[Int.toNat_natCast,hrow]
 show some [Value.int .i64 (y:Int)]=some [.int .i64 ((ends.getD i 0:Nat):Int)]
 rw[List.getD_eq_getElem?_getD,hy];rfl
theorem c39(S:SA V0 V p d x log ends k lg en)(H:qGk Ok mems logs k log ends){i:Nat}(hi:i<logs.length):PP 39 [pv p,.int .i64 i] V (qIA lg (qAI ends i) (qAI ends (i+1))).v:=by
 refine x39 ?_
 unfold w39
 have he:=H.elen
 have hlg:=S.lgRows
 have hb:=H.bound (i:=i+1) hi
 have hm:=H.mono (i:=i) (j:=i+1) (by omega) hi
 have hln:=hlg.n_eq
 have hlc:=hlg.cap
 obtain⟨a1,a2,a3,a4⟩:=en_at S (i:=i) (by omega)
 obtain⟨-,gs,ns,nd,St⟩:=id S
 refine⟨fun h=>?_,fun h=>?_⟩
 ·obtain⟨j,rfl⟩:∃j,i=j+1:=⟨i-1,by have h:(0:Int)<(i:Int):=h;omega⟩
  obtain⟨b1,b2,b3,b4⟩:=en_at S (i:=j) (by omega)
  have e1:(((j+1:Nat):Int)-1)=(j:Int):=by omega
  refine⟨nn,nn,en,St.read (j:=11) (n:=1) (by decide),⟨by omega,?_⟩,?_⟩
  ·have:=S.enRows.fit;have:=S.enRows.cap;omega
  rw[e1]
  refine⟨b1,b2,b3,_,b4,nn,nn,lg,St.read (j:=10) (n:=1) (by decide),nn,nn,en,St.read (j:=11) (n:=1) (by decide),a1,a2,a3,_,a4,⟨by omega,by omega,by omega⟩,?_⟩
  exact⟨congrArg _ (part_sl lg _ _),rfl⟩
 ·obtain rfl:i=0:=by have h:¬(0:Int)<(i:Int):=h;omega
  refine⟨nn,nn,lg,St.read (j:=10) (n:=1) (by decide),nn,nn,en,St.read (j:=11) (n:=1) (by decide),a1,a2,a3,_,a4,⟨by omega,by omega,by omega⟩,?_⟩
  exact⟨congrArg _ (part_sl lg 0 _),rfl⟩
theorem part_rows(S:SA V0 V p d x log ends k lg en)(H:qGk Ok mems logs k log ends){i:Nat}(hi:i<logs.length):qAc V (qIA lg (qAI ends i) (qAI ends (i+1))) 7 ((qJj log ends i).map qDK) :=
 rows_cut S.lgRows (H.mono (i:=i) (j:=i+1) (by omega) hi) (H.bound (i:=i+1) hi)
theorem SA.mark(S:SA V0 V p d x log ends k lg en){k':Int}{q:Mem->Prop}(hq:∀V',SA V0 V' p d x log ends k' lg en->q V'):StT (qAa (sa p) 12) 0 [.int .i64 k'] V q:=by
 obtain⟨p0,gs,ns,nd,S⟩:=S
 exact StT.at2 (off:=12) S.at_ (by simp[qGo]) (hq _ ⟨p0,gs,ns,nd,S.put p0 rfl⟩)
theorem ptr_zero{V0 V:Mem}{e sz:Nat}{s:Sl}{vs:List Value}(o:Sx.Own V0 V e sz s vs)(h:s.c≠0):qAa s.p 0=s.p:=by
 rcases o.cases0 with⟨-,h2,-⟩|⟨-,g,cur,h1,-⟩
 ·exact absurd h2 h
 ·rw[h1];rfl
theorem SA.cut(S:SA V0 V p d x log ends k lg en){n:Nat}(hn:n<=x.2.length):∃c:Sl,V.rowp (sa p) 9 1=some [c.v]/\n<=c.c/\∀{q:Mem->Prop},(∀V',SA V0 V' p d (x.1,x.2.take n) log ends k lg en->q V')->StT (qAa (sa p) 9) 0 [.slice (if (c.c:Int)=(0:Int) then c.p else qAa c.p ((0:Int).toNat*2)) ((n:Int)-0).toNat ((c.c:Int)-0).toNat] V q:=by
 obtain⟨p0,gs,ns,nd,S⟩:=S
 have R:=S.lay.nodes.rows (row:=Nd.row) (fun _=>rfl) (by decide)
 have hnl:=S.lay.len
 have hnl:nd.length=x.2.length:=hnl
 have hRn:=R.n_eq
 have hRc:=R.cap
 refine⟨ns,S.read (j:=9) (n:=1) (by decide),by omega,fun {q} hq=>?_⟩
 have e:(.slice (if (ns.c:Int)=(0:Int) then ns.p else qAa ns.p ((0:Int).toNat*2)) ((n:Int)-0).toNat ((ns.c:Int)-0).toNat:Value)=(⟨ns.p,n,ns.c⟩:Sl).v:=by
  rw[show ((n:Int)-0).toNat=n by omega,show ((ns.c:Int)-0).toNat=ns.c by omega]
  by_cases h:ns.c=0
  ·rw[if_pos (by omega)];rfl
  ·rw[if_neg (by omega)]
   show Value.slice (qAa ns.p 0) _ _=_
   rw[ptr_zero S.lay.nodes h];rfl
 rw[e]
 refine StT.at2 (off:=9) S.at_ (by simp[qGo]) (hq _ ⟨p0,gs,⟨ns.p,n,ns.c⟩,nd.take n,?_⟩)
 have L:Lay V0 V gs ⟨ns.p,n,ns.c⟩ qAv (nd.take n) (gst (x.1,x.2.take n)):=⟨S.lay.glob,own_cut (row:=Nd.row) (fun _=>rfl) S.lay.nodes (by omega) (by decide),S.lay.log,fun m hm=>S.lay.fld m (List.mem_of_mem_take hm),by
  rw[List.map_take,S.lay.eq];rfl,fun m hm=>S.lay.gf m (List.mem_of_mem_take hm),fun i j a b c ha hb=>by
   rw[List.getElem?_take]at ha hb
   split at ha
   ·split at hb
    ·exact S.lay.ff i j a b c ha hb
    ·cases hb
   ·cases ha⟩
 have S':SAt V0 (V.set p (.cells (qGo d gs ⟨ns.p,n,ns.c⟩ lg en k).toArray 88 (0,0))) p d (x.1,x.2.take n) log ends k lg en gs ⟨ns.p,n,ns.c⟩ (nd.take n) :=
  ⟨Mem.set_same _ _ _,L.put S.alien p0 _,S.lgo.put S.notLg p0 _,S.eno.put (S.eno.apart fun cur=>S.alien cur _ (.inl rfl)) p0 _,S.eg,fun m hm=>S.ef m (List.mem_of_mem_take hm)⟩
 exact S'
end
end Go.Proofs
