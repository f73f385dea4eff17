/- Part 13 of a proof of a law of this seat: no statement of the seat is proved here. -/
import Derived.Test.YtmeagdecjpknkaaGreatDoorPp10
import Derived.Test.YtmeagdecjpknkaaGreatDoorPp12
set_option linter.unusedVariables false
set_option linter.unusedSimpArgs false
namespace Go.Proofs
open Go Go.Sx
attribute [local irreducible] Go.Sx.Tri
theorem GenK.makeMap{P:Program}{V:Mem}{t:TypeId}{ty:Nat}{vals:Operand->Value}{q:Value->Mem->Prop}(hq:∀b,V b=none->q (.map (some b)) (V.set b (.map #[] 0))):GenK P (.makeMap t none) ty vals V q:=by
 intro w hw
 have hn:V w.heap.size=none:=by
  cases hc:V w.heap.size with
  | none=>rfl
  | some o=>have:=(Array.getElem?_eq_some_iff.1 (hw _ o hc)).1;omega
 refine⟨_,w.alloc (.map #[] 0),V.set w.heap.size (.map #[] 0),rfl,?_,hq _ hn⟩
 refine⟨by simp,fun b o hb=>?_,fun b hb _=>Go.RowKit.Below.heap_alloc _ _ _ hb,fun b hb=>?_,rfl,rfl⟩
 ·by_cases e:b=w.heap.size
  ·grind [Mem.set_same,World.alloc_heap_new]
  ·rw[Mem.set_ne e]at hb
   have hlt:=(Array.getElem?_eq_some_iff.1 (hw b o hb)).1
   exact(Go.RowKit.Below.heap_alloc _ _ _ hlt).trans (hw b o hb)
 grind [inr,Mem.set_ne]
theorem qJY{α:Type}{V:Mem}{s:Sl}{sz:Nat}{row:α->List Value}{xs:List α}(h:qAc V s sz (xs.map row)):K.inR .i64 ((s.n:Int)-1):=by
 have:=h.cap;have:=h.fit
 exact⟨by omega,by omega⟩
theorem it311{V:Mem}{fn':FuncId}{tmps:Array Value}{ps:Array Tmp}{assign body:Code}{D:Nat}{l:Nat}{bx:Nat}{s:Sl}{xs:List Fld}{J:Nat->Mem->Prop}(hps:ps.size=2)
  (hJ:∀i V2,J i V2->V2 l=none->V2 bx=some (cell (.slice s.p s.n s.c) 23)/\qAc V2 s 2 (xs.map Fld.row))
  (hround:∀k x,xs[k]?=some x->∀V2,J (xs.length-1-k) V2->V2 l=none->∀w,(V2.set l (.loop (qDu fn' tmps ps assign body D))).le w ->
   RoundIn (qAy none) 0 Tryz.prog l fn' ((ps.zip #[.int .i64 k,Fld.v x]).foldl (fun t (p,v)=>t.setIfInBounds p v) tmps) assign body w fun e w' =>
    e=.returned (.bool true)/\∃V3,J (xs.length-k) V3/\V3 l=none/\Frm (V2.set l (.loop (qDu fn' tmps ps assign body D))) w (V3.set l (.loop (qDu fn' tmps ps assign body D))) w')
  (h0:J 0 V) (hl:V l=none) :
  Tri Tryz.prog 311 #[.func (.yield l) #[] #[],pv bx] (V.set l (.loop (qDu fn' tmps ps assign body D))) fun e V'=>(∃v,e=.returned v)/\∃V2,V'=V2.set l (.loop (qDu fn' tmps ps assign body D))/\V2 l=none/\J xs.length V2:=by
 refine qIK (c:=qAm Tryz.f311) (L:=kid ((qCi (qAm Tryz.f311) [1,0]).getD 0 .skip) 0) (B:=kid ((qCi (qAm Tryz.f311) [1,0,0,0]).getD 2 .skip) 0) (cA:=c311a) (cB:=c311b) (cE:=c311e) (ops:=c311c) (b0:=0) (b1:=1) (id:=3)
  (o6:=(c311c)[6]?.getD default) (at6:=#[3,101]) (el:=fun k=>(xs[k]?.map Fld.v).getD undef) (Bk:=fun M=>M bx=some (cell (.slice s.p s.n s.c) 23)/\qAc M s 2 (xs.map Fld.row))
  Tryz.func311 (by kernel_rfl) (by kernel_rfl) (by kernel_rfl) (by kernel_rfl) (by kernel_rfl) (by kernel_rfl) (by kernel_rfl) (by kernel_rfl) (by kernel_rfl) (by kernel_rfl) (by kernel_rfl) hps ?_ ?_ ?_ ?_ ?_ ?_ ?_ h0 hl
 ·rintro M ⟨h1,h2⟩
  refine s311a (a:=.func (.yield l) #[] #[]) (b:=some ⟨bx,0,none⟩) ?_
  unfold w311a
  exact⟨s,qBw h1,qJY h2,_,rfl,rfl,by rw[h2.n_eq];rfl⟩
 ·intro M j
  refine s311b (a:=.func (.yield l) #[] #[]) (b:=some ⟨bx,0,none⟩) ?_
  unfold w311b
  exact⟨_,rfl,rfl,rfl⟩
 ·rintro M k ⟨h1,h2⟩ hk
  refine s311c (a:=.func (.yield l) #[] #[]) (b:=some ⟨bx,0,none⟩) ?_
  unfold w311c
  obtain⟨x,hm,hx,hdr,hlt,hnn,hz,hrow⟩:=h2.get (i:=k) (by rw[h2.n_eq];omega)
  exact⟨s,qBw h1,hnn,hz,by rw[h2.n_eq];omega,x.name,x.ty,hrow,_,rfl,rfl,by rw[hx];rfl⟩
 ·intro M j b
  refine s311d (a:=.func (.yield l) #[] #[]) (b:=some ⟨bx,0,none⟩) ?_
  unfold w311d
  exact⟨_,rfl,rfl,rfl⟩
 ·rintro M j ⟨h1,h2⟩ hj hj2
  have hb1:=h2.cap
  have hb2:=h2.fit
  have hb3:=h2.n_eq
  refine s311e (a:=.func (.yield l) #[] #[]) (b:=some ⟨bx,0,none⟩) ?_
  unfold w311e
  exact⟨⟨by omega,by omega⟩,_,rfl,rfl,rfl⟩
 ·intro i V2 hj hl2
  obtain⟨h1,h2⟩:=hJ i V2 hj hl2
  have e:bx≠l:=fun e=>by simp_all
  exact⟨by rw[Mem.set_ne e];exact h1,h2.sub (Mem.sub_new hl2 _)⟩
 simp_all
theorem it218{V:Mem}{fn':FuncId}{tmps:Array Value}{ps:Array Tmp}{assign body:Code}{D:Nat}{l:Nat}{bx:Nat}{s:Sl}{xs:List Ty}{J:Nat->Mem->Prop}(hps:ps.size=2)
  (hJ:∀i V2,J i V2->V2 l=none->V2 bx=some (cell (.slice s.p s.n s.c) 22)/\qAc V2 s 2 (xs.map Ty.row))
  (hround:∀k x,xs[k]?=some x->∀V2,J (xs.length-1-k) V2->V2 l=none->∀w,(V2.set l (.loop (qDu fn' tmps ps assign body D))).le w ->
   RoundIn (qAy none) 0 Tryz.prog l fn' ((ps.zip #[.int .i64 k,Ty.v x]).foldl (fun t (p,v)=>t.setIfInBounds p v) tmps) assign body w fun e w' =>
    e=.returned (.bool true)/\∃V3,J (xs.length-k) V3/\V3 l=none/\Frm (V2.set l (.loop (qDu fn' tmps ps assign body D))) w (V3.set l (.loop (qDu fn' tmps ps assign body D))) w')
  (h0:J 0 V) (hl:V l=none) :
  Tri Tryz.prog 218 #[.func (.yield l) #[] #[],pv bx] (V.set l (.loop (qDu fn' tmps ps assign body D))) fun e V'=>(∃v,e=.returned v)/\∃V2,V'=V2.set l (.loop (qDu fn' tmps ps assign body D))/\V2 l=none/\J xs.length V2:=by
 refine qIK (c:=qAm Tryz.f218) (L:=kid ((qCi (qAm Tryz.f218) [1,0]).getD 0 .skip) 0) (B:=kid ((qCi (qAm Tryz.f218) [1,0,0,0]).getD 2 .skip) 0) (cA:=c218a) (cB:=c218b) (cE:=c218e) (ops:=c218c) (b0:=0) (b1:=1) (id:=3)
  (o6:=(c218c)[6]?.getD default) (at6:=#[3,98]) (el:=fun k=>(xs[k]?.map Ty.v).getD undef) (Bk:=fun M=>M bx=some (cell (.slice s.p s.n s.c) 22)/\qAc M s 2 (xs.map Ty.row))
  Tryz.func218 (by kernel_rfl) (by kernel_rfl) (by kernel_rfl) (by kernel_rfl) (by kernel_rfl) (by kernel_rfl) (by kernel_rfl) (by kernel_rfl) (by kernel_rfl) (by kernel_rfl) (by kernel_rfl) hps ?_ ?_ ?_ ?_ ?_ ?_ ?_ h0 hl
 ·rintro M ⟨h1,h2⟩
  refine s218a (a:=.func (.yield l) #[] #[]) (b:=some ⟨bx,0,none⟩) ?_
  unfold w218a
  exact⟨s,qBw h1,qJY h2,_,rfl,rfl,by rw[h2.n_eq];rfl⟩
 ·intro M j
  refine s218b (a:=.func (.yield l) #[] #[]) (b:=some ⟨bx,0,none⟩) ?_
  unfold w218b
  exact⟨_,rfl,rfl,rfl⟩
 ·rintro M k ⟨h1,h2⟩ hk
  refine s218c (a:=.func (.yield l) #[] #[]) (b:=some ⟨bx,0,none⟩) ?_
  unfold w218c
  obtain⟨x,hm,hx,hdr,hlt,hnn,hz,hrow⟩:=h2.get (i:=k) (by rw[h2.n_eq];omega)
  exact⟨s,qBw h1,hnn,hz,by rw[h2.n_eq];omega,x.name,x.fs,hrow,_,rfl,rfl,by rw[hx];rfl⟩
 ·intro M j b
  refine s218d (a:=.func (.yield l) #[] #[]) (b:=some ⟨bx,0,none⟩) ?_
  unfold w218d
  exact⟨_,rfl,rfl,rfl⟩
 ·rintro M j ⟨h1,h2⟩ hj hj2
  have hb1:=h2.cap
  have hb2:=h2.fit
  have hb3:=h2.n_eq
  refine s218e (a:=.func (.yield l) #[] #[]) (b:=some ⟨bx,0,none⟩) ?_
  unfold w218e
  exact⟨⟨by omega,by omega⟩,_,rfl,rfl,rfl⟩
 ·intro i V2 hj hl2
  obtain⟨h1,h2⟩:=hJ i V2 hj hl2
  have e:bx≠l:=fun e=>by simp_all
  exact⟨by rw[Mem.set_ne e];exact h1,h2.sub (Mem.sub_new hl2 _)⟩
 simp_all
theorem it219{V:Mem}{fn':FuncId}{tmps:Array Value}{ps:Array Tmp}{assign body:Code}{D:Nat}{l:Nat}{bx:Nat}{s:Sl}{xs:List Pr}{J:Nat->Mem->Prop}(hps:ps.size=2)
  (hJ:∀i V2,J i V2->V2 l=none->V2 bx=some (cell (.slice s.p s.n s.c) 24)/\qAc V2 s 5 (xs.map Pr.row))
  (hround:∀k x,xs[k]?=some x->∀V2,J (xs.length-1-k) V2->V2 l=none->∀w,(V2.set l (.loop (qDu fn' tmps ps assign body D))).le w ->
   RoundIn (qAy none) 0 Tryz.prog l fn' ((ps.zip #[.int .i64 k,Pr.v x]).foldl (fun t (p,v)=>t.setIfInBounds p v) tmps) assign body w fun e w' =>
    e=.returned (.bool true)/\∃V3,J (xs.length-k) V3/\V3 l=none/\Frm (V2.set l (.loop (qDu fn' tmps ps assign body D))) w (V3.set l (.loop (qDu fn' tmps ps assign body D))) w')
  (h0:J 0 V) (hl:V l=none) :
  Tri Tryz.prog 219 #[.func (.yield l) #[] #[],pv bx] (V.set l (.loop (qDu fn' tmps ps assign body D))) fun e V'=>(∃v,e=.returned v)/\∃V2,V'=V2.set l (.loop (qDu fn' tmps ps assign body D))/\V2 l=none/\J xs.length V2:=by
 refine qIK (c:=qAm Tryz.f219) (L:=kid ((qCi (qAm Tryz.f219) [1,0]).getD 0 .skip) 0) (B:=kid ((qCi (qAm Tryz.f219) [1,0,0,0]).getD 2 .skip) 0) (cA:=c219a) (cB:=c219b) (cE:=c219e) (ops:=c219c) (b0:=0) (b1:=1) (id:=3)
  (o6:=(c219c)[6]?.getD default) (at6:=#[3,143]) (el:=fun k=>(xs[k]?.map Pr.v).getD undef) (Bk:=fun M=>M bx=some (cell (.slice s.p s.n s.c) 24)/\qAc M s 5 (xs.map Pr.row))
  Tryz.func219 (by kernel_rfl) (by kernel_rfl) (by kernel_rfl) (by kernel_rfl) (by kernel_rfl) (by kernel_rfl) (by kernel_rfl) (by kernel_rfl) (by kernel_rfl) (by kernel_rfl) (by kernel_rfl) hps ?_ ?_ ?_ ?_ ?_ ?_ ?_ h0 hl
 ·rintro M ⟨h1,h2⟩
  refine s219a (a:=.func (.yield l) #[] #[]) (b:=some ⟨bx,0,none⟩) ?_
  unfold w219a
  exact⟨s,qBw h1,qJY h2,_,rfl,rfl,by rw[h2.n_eq];rfl⟩
 ·intro M j
  refine s219b (a:=.func (.yield l) #[] #[]) (b:=some ⟨bx,0,none⟩) ?_
  unfold w219b
  exact⟨_,rfl,rfl,rfl⟩
 ·rintro M k ⟨h1,h2⟩ hk
  refine s219c (a:=.func (.yield l) #[] #[]) (b:=some ⟨bx,0,none⟩) ?_
  unfold w219c
  obtain⟨x,hm,hx,hdr,hlt,hnn,hz,hrow⟩:=h2.get (i:=k) (by rw[h2.n_eq];omega)
  exact⟨s,qBw h1,hnn,hz,by rw[h2.n_eq];omega,x.name,x.ps,x.result,x.ls,x.bs,hrow,_,rfl,rfl,by rw[hx];rfl⟩
 ·intro M j b
  refine s219d (a:=.func (.yield l) #[] #[]) (b:=some ⟨bx,0,none⟩) ?_
  unfold w219d
  exact⟨_,rfl,rfl,rfl⟩
 ·rintro M j ⟨h1,h2⟩ hj hj2
  have hb1:=h2.cap
  have hb2:=h2.fit
  have hb3:=h2.n_eq
  refine s219e (a:=.func (.yield l) #[] #[]) (b:=some ⟨bx,0,none⟩) ?_
  unfold w219e
  exact⟨⟨by omega,by omega⟩,_,rfl,rfl,rfl⟩
 ·intro i V2 hj hl2
  obtain⟨h1,h2⟩:=hJ i V2 hj hl2
  have e:bx≠l:=fun e=>by simp_all
  exact⟨by rw[Mem.set_ne e];exact h1,h2.sub (Mem.sub_new hl2 _)⟩
 simp_all
theorem c296{V:Mem}{s:Sl}:Tri Tryz.prog 296 #[.slice s.p s.n s.c] V fun e V'=>∃b,V b=none/\e=.returned (.func (.func 311) #[] #[pv b])/\V'=V.set b (cell (.slice s.p s.n s.c) 23):=by
 refine x296 ?_
 unfold w296
 exact fun b hb=>⟨b,hb,rfl,rfl⟩
theorem c189{V:Mem}{s:Sl}:Tri Tryz.prog 189 #[.slice s.p s.n s.c] V fun e V'=>∃b,V b=none/\e=.returned (.func (.func 218) #[] #[pv b])/\V'=V.set b (cell (.slice s.p s.n s.c) 22):=by
 refine x189 ?_
 unfold w189
 exact fun b hb=>⟨b,hb,rfl,rfl⟩
theorem c190{V:Mem}{s:Sl}:Tri Tryz.prog 190 #[.slice s.p s.n s.c] V fun e V'=>∃b,V b=none/\e=.returned (.func (.func 219) #[] #[pv b])/\V'=V.set b (cell (.slice s.p s.n s.c) 24):=by
 refine x190 ?_
 unfold w190
 exact fun b hb=>⟨b,hb,rfl,rfl⟩
theorem qHy{args:List Value}{N:Nat}(h:args.length<=N):Has N { tmps:=args.toArray++Array.replicate (N-args.toArray.size) undef,defers:=[] } ((List.range args.length).zip args):=by
 refine⟨by simp;omega,fun s v hs=>?_⟩
 rw[List.range_eq_range']at hs
 have key:∀(l:List Value) (k:Nat),((List.range' k l.length).zip l).lookup s=some v->k<=s/\l[s-k]?=some v:=by
  intro l
  induction l with
  | nil=>simp_all
  | cons x xs ih =>
   intro k h
   simp only[List.length_cons,List.range'_succ,List.zip_cons_cons,List.lookup_cons]at h
   grind
 obtain⟨-,h1⟩:=key args 0 hs
 have hlt:=(List.getElem?_eq_some_iff.1 h1).1
 simp_all [Nat.sub_zero,Array.getD_eq_getD_getElem?,Array.getElem?_append_left]
theorem qJM{tmps:Array Value}{p q:Nat}{u v:Value}:((#[p,q].zip #[u,v]).foldl (fun t (p,v)=>t.setIfInBounds p v) tmps)=(tmps.setIfInBounds p u).setIfInBounds q v:=by
 simp
theorem qHz{tmps:Array Value}{p s:Nat}{u:Value}(h:s≠p):(tmps.setIfInBounds p u).getD s undef=tmps.getD s undef:=by
 simp[Array.getD_eq_getD_getElem?,Array.getElem?_setIfInBounds_ne (Ne.symm h)]
theorem getD_same{tmps:Array Value}{p:Nat}{u:Value}(h:p<tmps.size):(tmps.setIfInBounds p u).getD p undef=u:=by
 simp_all
theorem qGh(f:Fld)(l:List Fld)(k:ByteArray):qBH (f::l) k=if k=f.name then some f.ty else qBH l k:=by
 grind [qBH]
theorem varOf_app(a b:List Fld)(k:ByteArray):qBH (a++b) k=(qBH a k).or (qBH b k):=by
 grind [qBH]
theorem varOf_any(a:List Fld)(k:ByteArray):(qBH a k).isSome=a.any fun f=>decide (f.name=k):=by
 grind [qBH]
theorem seen_old{a g:List Fld}{f:Fld}(h:(a.any fun x=>decide (x.name=f.name))=true)(k:ByteArray):qBH (a++[f]++g) k=qBH (a++g) k:=by
 simp only[varOf_app,qGh]
 rw[<- varOf_any]at h
 by_cases e:k=f.name
 ·subst e
  rw[if_pos rfl]
  cases hv:qBH a f.name with
  | none=>simp_all
  | some x=>rfl
 grind [qBH]
theorem seen_new{a g:List Fld}{f:Fld}(h:¬(a.any fun x=>decide (x.name=f.name))=true)(k:ByteArray):qBH (a++[f]++g) k=if k=f.name then some f.ty else qBH (a++g) k:=by
 simp only[varOf_app,qGh]
 rw[<- varOf_any]at h
 by_cases e:k=f.name
 ·simp_all
 grind [qBH]
structure SI (V:Mem) (c:Option Addr) (body:Bool) (d:Ds) (mb bx b6 b7:Nat) (m:ByteArray->Option Value) (V1:Mem):Prop where
 sub:V.sub V1
 nm:V mb=none
 n6:V b6=none
 map:qBb V1 mb m
 bx:V1 bx=some (cell (.slice d.gs.p d.gs.n d.gs.c) 23)
 b6:V1 b6=some (.cells #[.pointer none,.map none,.bool false] 314 (0,0))
 b7:V1 b7=some (.cells #[.pointer c,.map (some mb),.bool body] 314 (0,0))
section
variable{V V1:Mem}{c:Option Addr}{body:Bool}{d:Ds}{mb bx b6 b7:Nat}{m m':ByteArray->Option Value}
theorem SI.fresh(h:SI V c body d mb bx b6 b7 m V1){b:Nat}(hb:V1 b=none)(o:Obj):SI V c body d mb bx b6 b7 m (V1.set b o) :=
 have hs:=Mem.sub_new hb o
 ⟨h.sub.trans hs,h.nm,h.n6,h.map.sub hs,hs _ _ h.bx,hs _ _ h.b6,hs _ _ h.b7⟩
theorem SI.up(h:SI V c body d mb bx b6 b7 m V1){o:Obj}(ho:qBb (V1.set mb o) mb m'):SI V c body d mb bx b6 b7 m' (V1.set mb o):=by
 obtain⟨es,cl,hm,-,-⟩:=h.map.at_
 have e1:bx≠mb:=fun e=>by have:=h.bx;simp_all
 have e2:b6≠mb:=fun e=>by have:=h.b6;simp_all
 have e3:b7≠mb:=fun e=>by have:=h.b7;simp_all
 exact⟨h.sub.set h.nm o,h.nm,h.n6,ho,by rw[Mem.set_ne e1];exact h.bx,by rw[Mem.set_ne e2];exact h.b6,by rw[Mem.set_ne e3];exact h.b7⟩
theorem SI.cg(h:SI V c body d mb bx b6 b7 m V1)(e:∀k,m k=m' k):SI V c body d mb bx b6 b7 m' V1:=⟨h.sub,h.nm,h.n6,h.map.congr e,h.bx,h.b6,h.b7⟩
end
section
variable{V V1:Mem}{c:Option Addr}{body:Bool}{d:Ds}{mb bx b6 b7:Nat}{m m':ByteArray->Option Value}
theorem scopeRound{l:Sl}(h:SI V c body d mb bx b6 b7 m V1)(x:Fld)(V2:Mem)(b:Nat)(hb:V1 b=none)(e2:V2=V1.set b (.cells x.row.toArray 101 (0,0))) :
  Seg Tryz.prog 63 c267c [(7,pv b7),(9,pv b)] [] V2 fun _ V3=>SI V c body d mb bx b6 b7 (fun k=>if k=x.name then some (.string x.ty) else m k) V3:=by
 subst e2
 have h2:=h.fresh hb (.cells x.row.toArray 101 (0,0))
 refine s267c ?_
 unfold w267c
 refine⟨by simp,some mb,qAd h2.b7 1 1 (by simp),by simp,x.name,qAd mss 0 1 (by simp[Fld.row]),by simp,x.ty,qAd mss 1 1 (by simp[Fld.row]),?_⟩
 exact qCv.str Tryz.underlying312 Tryz.underlying9 h2.map fun o ho=>⟨_,rfl,h2.up ho⟩
theorem scopeAssign(x:Fld):Seg Tryz.prog 63 c267b [(7,pv b7),(26,Fld.v x)] [7,9] V1 fun vs V2=>∃b,V1 b=none/\V2=V1.set b (.cells x.row.toArray 101 (0,0))/\vs=[pv b7,pv b]:=by
 refine s267b (b:=x.name) (c:=x.ty) ?_
 unfold w267b
 exact fun b hb=>⟨_,rfl,b,hb,rfl,rfl⟩
theorem zero4(w:World):(zeroValue 4).run Tryz.prog w=.ok (.bool false) w:=by kernel_rfl
theorem scopeTail{l:Sl}{ls:List (Sl×List Fld)}(h:SI V c body d mb bx b6 b7 (fun k=>(qBH d.globals k).map Value.string) V1)(hl:qAc V l 1 (ls.map fun x=>[x.1.v]))(hls:∀x∈ls,qAc V x.1 2 (x.2.map Fld.row)) :
  Seg Tryz.prog 63 c267d [(0,.pointer c),(1,.bool body),(2,.slice l.p l.n l.c),(6,pv b6),(7,pv b7)] [6] V1 fun vs V2=>vs=[pv b6] /\
   V.sub V2/\V mb=none/\qBb V2 mb (fun k=>(qBH (ls.flatMap (·.2)++d.globals) k).map Value.string)/\V2 b6=some (.cells #[.pointer c,.map (some mb),.bool body] 314 (0,0)):=by
 refine s267d ?_
 unfold w267d
 refine GenK.makeMap fun sb hsb=>⟨some sb,rfl,?_⟩
 have hsV:V sb=none:=by
  cases hc:V sb with
  | none=>rfl
  | some o=>have:=h.sub _ _ hc;simp_all
 have hne:mb≠sb:=fun e=>by
  obtain⟨es,cl,hm,-,-⟩:=h.map.at_
  simp_all
 let TI (done:List Fld) (V2:Mem):Prop:=SI V c body d mb bx b6 b7 (fun k=>(qBH (done++d.globals) k).map Value.string) V2/\qBb V2 sb (fun k=>if (done.any fun f=>decide (f.name=k))=true then some (.bool true) else none)
 have h0:TI [] (V1.set sb (.map #[] 0)):=⟨h.fresh hsb _,(qBb.made V1 sb).congr fun k=>by simp⟩
 refine qIY ls.length (fun i V2=>TI ((ls.take i).flatMap (·.2)) V2) (by simpa using h0) ?_
 intro i V2 J hi hst hJ
 have hlV:=hl.sub hst.1.sub
 refine⟨fun hlt=>?_,fun hlt=>?_⟩
 ·obtain⟨x,hm,hx,hdr,hlt',hnn,hz,hrow⟩:=hlV.get hlt
  refine⟨hnn,hz,hlt,x.1,hrow,?_⟩
  have htk:(ls.take (i+1)).flatMap (·.2)=(ls.take i).flatMap (·.2)++x.2:=by
   grind
  refine qIY x.2.length (fun j V3=>TI ((ls.take i).flatMap (·.2)++x.2.take j) V3) (by simpa using hst) ?_
  intro j V3 J' hj hst' hJ'
  have hxV:=(hls x hm).sub hst'.1.sub
  refine⟨fun hlt2=>?_,fun hlt2=>?_⟩
  ·obtain⟨f,hmf,hf,hdrf,hltf,hnnf,hzf,hrowf⟩:=hxV.get hlt2
   have htj:(ls.take i).flatMap (·.2)++x.2.take (j+1)=((ls.take i).flatMap (·.2)++x.2.take j)++[f]:=by
    grind
   refine⟨hnnf,hzf,hlt2,f.name,f.ty,hrowf,?_⟩
   refine qBi.str1 Tryz.underlying357 Tryz.underlying9 zero4 hst'.2 ?_
   generalize hdone:(ls.take i).flatMap (·.2)++x.2.take j=done at hst' htj
   refine⟨done.any fun y=>decide (y.name=f.name),?_,fun hs=>?_,fun hs=>?_⟩
   ·grind
   ·refine⟨hxV.succ hlt2,hJ' hltf _ ?_⟩
    rw[htj]
    refine⟨hst'.1.cg fun k=>by rw[seen_old hs],hst'.2.congr fun k=>?_⟩
    grind
   ·refine⟨by simp,some mb,qAd hst'.1.b7 1 1 (by simp),?_⟩
    refine qCv.str Tryz.underlying312 Tryz.underlying9 hst'.1.map fun o ho=>?_
    have hsi:=hst'.1.up ho
    refine qCv.str Tryz.underlying357 Tryz.underlying9 (hst'.2.set (o:=o) (Ne.symm hne)) fun o2 ho2=>?_
    refine⟨hxV.succ hlt2,hJ' hltf _ ?_⟩
    rw[htj]
    have hsb6:b6≠sb:=fun e=>by have:=h.b6;simp_all
    have hsb7:b7≠sb:=fun e=>by have:=h.b7;simp_all
    have hsbx:bx≠sb:=fun e=>by have:=h.bx;simp_all
    refine⟨?_,ho2.congr fun k=>?_⟩
    ·have h3:=hsi.cg (m':=fun k=>(qBH (done++[f]++d.globals) k).map Value.string) fun k=>by
      rw[seen_new hs]
      grind
     exact⟨h3.sub.set hsV _,h3.nm,h3.n6,h3.map.set hne,by rw[Mem.set_ne hsbx];exact h3.bx,by rw[Mem.set_ne hsb6];exact h3.b6,by rw[Mem.set_ne hsb7];exact h3.b7⟩
    grind
  ·obtain⟨hd,hle⟩:=hxV.done hlt2
   refine⟨hlV.succ hlt,hJ hlt' _ ?_⟩
   simp_all [List.take_of_length_le]
 ·obtain⟨hd,hle⟩:=hlV.done hlt
  rw[List.take_of_length_le hle]at hst
  have hcells:=qAd hst.1.b7 0 3 (by simp)
  refine⟨c,some mb,body,hcells,⟨⟨b6,0,none⟩,_,_,rfl,hst.1.b6,rfl,by simp,?_⟩⟩
  have e7:mb≠b6:=fun e=>by
   obtain⟨es,cl,hm,-,-⟩:=hst.1.map.at_
   have:=hst.1.b6;simp_all
  exact⟨_,rfl,rfl,hst.1.sub.set h.n6 _,h.nm,hst.1.map.set e7,by rw[Mem.set_same];rfl⟩
end
theorem cell3{b:Nat}{c:Option Addr}{mb:Option Nat}{body:Bool}{w:World}(h:w.heap[b]?=some (.cells #[.pointer c,.map mb,.bool body] 314 (0,0))):(loadVar 314 ⟨b,0,none⟩).run Tryz.prog w=.ok (.agg #[.pointer c,.map mb,.bool body]) w :=
 qBJ (P:=Tryz.prog) (t:=314) (cs:=.cons (.var .p 0) (.cons (.var .m 1) (.cons (.var .b 2) .nil))) (x:=.agg (.cons (.var .p 0) (.cons (.var .m 1) (.cons (.var .b 2) .nil)))) (ρ:=[.pointer c,.map mb,.bool body]) (β:=id) (o:=0) h (by kernel_rfl)
theorem results113{tmps:Array Value}{b:Nat}{c:Option Addr}{mb:Option Nat}{body:Bool}{w:World}(h6:tmps.getD 6 undef=pv b)(h:w.heap[b]?=some (.cells #[.pointer c,.map mb,.bool body] 314 (0,0))) :
  (results Tryz.f267 tmps).run Tryz.prog w=.ok (.agg #[.pointer c,.map mb,.bool body]) w:=by
 have hr:Tryz.f267.results=#[.cell 6 314]:=by kernel_rfl
 unfold results
 rw[hr]
 have e:asAddr (tmps.getD 6 undef)=pure ⟨b,0,none⟩:=by rw[h6];rfl
 simp only[List.mapM_toArray,List.mapM_cons,List.mapM_nil,Sem.run_bind,Sem.run_map,Sem.run_pure,Result.andThen_ok,e,cell3 h]
 rfl
theorem qFk{V V1 V2 V3:Mem}{w w1 w2 w3:World}{D:Nat}(h1:Frm V w V1 w1)(h2:Frm V1 w1 V2 w2)(hD:w1.heap.size<=D)(hn:V2 D=none)(hW:w2.heap[D]?=some (.deferred (some [])))(h3:Frm V2 w2 V3 w3) :
  Frm V w V3 w3/\w.heap.size<=D/\w3.heap[D]?=some (.deferred (some []))/\V3 D=none:=by
 have hlt:=(Array.getElem?_eq_some_iff.1 hW).1
 refine⟨(h1.trans h2).trans h3,Nat.le_trans h1.size hD,(h3.old D hlt hn).trans hW,?_⟩
 cases hc:V3 D with
 | none=>rfl
 | some o =>
  rcases h3.dom D (by rw[hc];simp) with h|h
  ·grind
  ·omega
theorem scopeC:qHd:=by
 intro V c d body l ls hc hl hls
 refine qGL (c:=qAm Tryz.f267) Tryz.func267 (by kernel_rfl) ?_
 intro w hV
 rw[show flat (qAm Tryz.f267)=c267a++([.block 0 (.rangeFunc (.tmp 24) #[25,26] ((qCi (qAm Tryz.f267) [3,0,0,0]).getD 0 .skip) ((qCi (qAm Tryz.f267) [3,0,0,1]).getD 0 .skip))]++(c267d++[.ret])) from by kernel_rfl]
 have hA:Seg Tryz.prog 63 c267a [(0,.pointer c),(1,.bool body),(2,.slice l.p l.n l.c)] [0,1,2,6,7,24] V fun vs V1=>∃mb bx b6 b7,
   vs=[.pointer c,.bool body,.slice l.p l.n l.c,pv b6,pv b7,.func (.func 311) #[] #[pv bx]]/\SI V c body d mb bx b6 b7 (fun _=>none) V1:=by
  refine s267a ?_
  unfold w267a
  refine GenK.makeMap fun mb hmb=>⟨some mb,rfl,hc.nn,hc.nn,?_,d.gs,?_,?_⟩
  ·obtain⟨cb,mt,mp,t,h1,h2,h3,h4⟩:=hc.at_
   rw[h1];simp[qAa]
  ·exact(hc.sub (Mem.sub_new hmb _)).cell (i:=2) rfl
  refine Tri.mono c296 ?_
  rintro _ V2 ⟨bx,hbx,rfl,rfl⟩
  refine⟨.func (.func 311) #[] #[pv bx],rfl,rfl,fun b6 hb6 b7 hb7=>⟨_,rfl,mb,bx,b6,b7,rfl,?_⟩⟩
  have n1:bx≠mb:=fun e=>by grind [Mem.set_same]
  have n2:b6≠bx:=fun e=>by grind [Mem.set_same]
  have n3:b7≠b6:=fun e=>by grind [Mem.set_same]
  have s1:=Mem.sub_new hmb (.map #[] 0)
  have s2:=Mem.sub_new hbx (cell (.slice d.gs.p d.gs.n d.gs.c) 23)
  have s3:=Mem.sub_new hb6 (.cells #[.pointer none,.map none,.bool false] 314 (0,0))
  have s4:=Mem.sub_new hb7 (.cells #[.pointer c,.map (some mb),.bool body] 314 (0,0))
  refine⟨s1.trans (s2.trans (s3.trans s4)),hmb,?_,(qBb.made V mb).sub (s2.trans (s3.trans s4)),(s3.trans s4) _ _ mss,s4 _ _ mss,Mem.set_same _ _ _⟩
  cases hv:V b6 with
  | none=>rfl
  | some o=>have:=(s1.trans s2) _ _ hv;simp_all
 refine hA.step hV (qHy (args:=[.pointer c,.bool body,.slice l.p l.n l.c]) (N:=63) (by simp)) ?_
 rintro a1 w1 vs V1 hd1 hH1 ⟨mb,bx,b6,b7,rfl,hS1⟩ hF1
 show Code.wpIn (qAy none) 0 Tryz.prog _ _ a1 w1
 refine wpIn_block ?_
 have hit:=fun fn lp D hlp=>it311 (V:=V1) (fn':=fn) (tmps:=a1.tmps) (ps:=#[25,26]) (assign:=(qCi (qAm Tryz.f267) [3,0,0,0]).getD 0 .skip) (body:=(qCi (qAm Tryz.f267) [3,0,0,1]).getD 0 .skip) (D:=D) (l:=lp) (bx:=bx) (s:=d.gs) (xs:=d.globals)
  (J:=fun i V2=>SI V c body d mb bx b6 b7 (fun k=>(qBH (d.globals.drop (d.globals.length-i)) k).map Value.string) V2) rfl (fun i V2 hj _=>⟨hj.bx,hc.ok.globals.sub hj.sub⟩) (fun k x hx V2 hj hl2 w2 hw2=>by
   have hk:=(List.getElem?_eq_some_iff.1 hx).1
   refine qGp (N:=63) (insA:=[(7,pv b7),(26,Fld.v x)]) (outsA:=[7,9]) hl2 hw2 (by rw[qJM];simpa using hH1.1) ?_ (scopeAssign x) (fun vs V3 hvs=>?_)
   ·intro s v hs
    rw[qJM]
    simp only[List.lookup_cons]at hs
    split at hs
    ·rename_i e;simp only[beq_iff_eq]at e;subst e;cases hs
     rw[qHz (by decide),qHz (by decide)];exact hH1.get rfl
    ·split at hs
     ·rename_i e;simp only[beq_iff_eq]at e;subst e;cases hs
      exact getD_same (by simp[hH1.1])
     ·cases hs
   ·obtain⟨b,hb,e2,rfl⟩:=hvs
    refine(scopeRound (l:=l) hj x V3 b hb e2).mono fun _ V4 h4=>h4.cg fun y=>?_
    rw[show d.globals.length-(d.globals.length-1-k)=k+1 by omega,show d.globals.length-(d.globals.length-k)=k by omega]
    have e3:d.globals.drop k=x::d.globals.drop (k+1):=by
     grind [List.drop_eq_getElem_cons,List.getElem?_eq_some_iff]
    rw[e3,qGh]
    grind)
  (by simpa [qBH]using hS1) hlp
 refine qGt (Φ:=fun V2=>SI V c body d mb bx b6 b7 (fun k=>(qBH d.globals k).map Value.string) V2) hF1.le (hH1.get (s:=24) rfl) Tryz.call311 (fun fn lp D hlp=>Tri.mono (hit fn lp D hlp) fun e V' h=>?_) ?_
 ·simp_all
 ·intro D V2 W hD hF2 hn2 hW hS2
  show wpL none 0 Tryz.prog _ (c267d++[.ret]) _ W
  refine(scopeTail hS2 hl hls).step hF2.le ⟨hH1.1,fun s v hs=>hH1.2 s v ?_⟩ ?_
  ·simp only[List.zip_cons_cons,List.lookup_cons]at hs ⊢
   repeat' (split at hs <;> first|exact hs|skip)
   simp_all
  ·rintro a3 w3 vs V3 hd3 hH3 ⟨rfl,h1,h2,h3,h4⟩ hF3
   show Code.wpIn (qAy none) 0 Tryz.prog .ret _ a3 w3
   refine wpIn_ret ?_
   obtain⟨g1,g2,g3,g4⟩:=qFk hF1 hF2 hD hn2 hW hF3
   refine⟨.inr rfl,[D],?_,by simp,V3,g1,fun D' hD'=>?_,_,fun w4 hw4=>results113 (hH3.get rfl) (hw4 _ _ h4),mb,rfl,h1,h2,h3⟩
   ·simp_all
   simp_all
structure NI (V:Mem) (d:Ds) (cb mt mp p1 p3:Nat) (f g:ByteArray->Option Value) (V1:Mem):Prop where
 sub:V.sub V1
 nt:V mt=none
 np:V mp=none
 ne:mt≠mp
 ck:V1 cb=some (.cells (d.row++[Value.map (some mt),Value.map (some mp)]).toArray 272 (0,0))
 b1:V1 p1=some (.cells d.row.toArray 30 (0,0))
 b3:V1 p3=some (cell (pv cb) 234)
 mapT:qBb V1 mt f
 mapP:qBb V1 mp g
section
variable{V V1:Mem}{d:Ds}{cb mt mp p1 p3:Nat}{f g f' g':ByteArray->Option Value}
theorem NI.fresh(h:NI V d cb mt mp p1 p3 f g V1){b:Nat}(hb:V1 b=none)(o:Obj):NI V d cb mt mp p1 p3 f g (V1.set b o) :=
 have hs:=Mem.sub_new hb o
 ⟨h.sub.trans hs,h.nt,h.np,h.ne,hs _ _ h.ck,hs _ _ h.b1,hs _ _ h.b3,h.mapT.sub hs,h.mapP.sub hs⟩
theorem qEn{V:Mem}{b m:Nat}{c:Array Value}{t:Nat}{fr:Nat×Nat}{f:ByteArray->Option Value}(h:V b=some (.cells c t fr))(hm:qBb V m f):b≠m:=fun e=>by
 obtain⟨es,cl,hm,-,-⟩:=hm.at_
 simp_all
theorem NI.upT(h:NI V d cb mt mp p1 p3 f g V1){o:Obj}(ho:qBb (V1.set mt o) mt f'):NI V d cb mt mp p1 p3 f' g (V1.set mt o) :=
 ⟨h.sub.set h.nt o,h.nt,h.np,h.ne,by rw[Mem.set_ne (qEn h.ck h.mapT)];exact h.ck,by rw[Mem.set_ne (qEn h.b1 h.mapT)];exact h.b1,by rw[Mem.set_ne (qEn h.b3 h.mapT)];exact h.b3,ho,h.mapP.set (Ne.symm h.ne)⟩
theorem NI.upP(h:NI V d cb mt mp p1 p3 f g V1){o:Obj}(ho:qBb (V1.set mp o) mp g'):NI V d cb mt mp p1 p3 f g' (V1.set mp o) :=
 ⟨h.sub.set h.np o,h.nt,h.np,h.ne,by rw[Mem.set_ne (qEn h.ck h.mapP)];exact h.ck,by rw[Mem.set_ne (qEn h.b1 h.mapP)];exact h.b1,by rw[Mem.set_ne (qEn h.b3 h.mapP)];exact h.b3,h.mapT.set h.ne,ho⟩
theorem NI.cg(h:NI V d cb mt mp p1 p3 f g V1)(e1:∀k,f k=f' k)(e2:∀k,g k=g' k):NI V d cb mt mp p1 p3 f' g' V1:=⟨h.sub,h.nt,h.np,h.ne,h.ck,h.b1,h.b3,h.mapT.congr e1,h.mapP.congr e2⟩
theorem newRoundT(h:NI V d cb mt mp p1 p3 f g V1){bx:Nat}{v:Value}{ty:Nat}(hbx:V1 bx=some (cell v ty))(x:Ty)(V2:Mem)(b:Nat)(hb:V1 b=none)(e2:V2=V1.set b (.cells x.row.toArray 98 (0,0))) :
  Seg Tryz.prog 38 c158c [(3,pv p3),(5,pv b)] [] V2 fun _ V3=>NI V d cb mt mp p1 p3 (fun k=>if k=x.name then some x.v else f k) g V3/\V3 bx=some (cell v ty):=by
 subst e2
 have h2:=h.fresh hb (.cells x.row.toArray 98 (0,0))
 have hbx2:=Mem.sub_new hb (.cells x.row.toArray 98 (0,0)) _ _ hbx
 refine s158c ?_
 unfold w158c
 refine⟨_,qBw h2.b3,by simp,by simp,some mt,qAd h2.ck 8 1 (by simp[Ds.row]),by simp,x.name,qAd mss 0 1 (by simp[Ty.row]),x.name,x.fs,qAd mss 0 2 (by simp[Ty.row]),?_⟩
 exact qCv.str Tryz.underlying269 Tryz.underlying9 h2.mapT fun o ho=>⟨_,rfl,h2.upT ho,by rw[Mem.set_ne (qEn hbx2 h2.mapT)];exact hbx2⟩
theorem newRoundP(h:NI V d cb mt mp p1 p3 f g V1){bx:Nat}{v:Value}{ty:Nat}(hbx:V1 bx=some (cell v ty))(x:Pr)(V2:Mem)(b:Nat)(hb:V1 b=none)(e2:V2=V1.set b (.cells x.row.toArray 143 (0,0))) :
  Seg Tryz.prog 38 c158f [(3,pv p3),(7,pv b)] [] V2 fun _ V3=>NI V d cb mt mp p1 p3 f (fun k=>if k=x.name then some x.v else g k) V3/\V3 bx=some (cell v ty):=by
 subst e2
 have h2:=h.fresh hb (.cells x.row.toArray 143 (0,0))
 have hbx2:=Mem.sub_new hb (.cells x.row.toArray 143 (0,0)) _ _ hbx
 refine s158f ?_
 unfold w158f
 refine⟨_,qBw h2.b3,by simp,by simp,some mp,qAd h2.ck 9 1 (by simp[Ds.row]),by simp,x.name,qAd mss 0 1 (by simp[Pr.row]),x.name,x.ps,x.result,x.ls,x.bs,qAd mss 0 5 (by simp[Pr.row]),?_⟩
 exact qCv.str Tryz.underlying270 Tryz.underlying9 h2.mapP fun o ho=>⟨_,rfl,h2.upP ho,by rw[Mem.set_ne (qEn hbx2 h2.mapP)];exact hbx2⟩
theorem newAssignT(x:Ty):Seg Tryz.prog 38 c158b [(3,pv p3),(17,Ty.v x)] [3,5] V1 fun vs V2=>∃b,V1 b=none/\V2=V1.set b (.cells x.row.toArray 98 (0,0))/\vs=[pv p3,pv b]:=by
 refine s158b (b:=x.name) (c:=x.fs) ?_
 unfold w158b
 exact fun b hb=>⟨_,rfl,b,hb,rfl,rfl⟩
theorem newAssignP(x:Pr):Seg Tryz.prog 38 c158e [(3,pv p3),(29,Pr.v x)] [3,7] V1 fun vs V2=>∃b,V1 b=none/\V2=V1.set b (.cells x.row.toArray 143 (0,0))/\vs=[pv p3,pv b]:=by
 refine s158e (b:=x.name) (c:=x.ps) (d:=x.result) (g:=x.ls) (i:=x.bs) ?_
 unfold w158e
 exact fun b hb=>⟨_,rfl,b,hb,rfl,rfl⟩
end
theorem qKu{N:Nat}{a:Act}{p q r:Nat}{l:List (Nat×Value)}{vr u z:Value}(hH:Has N a l)(hr:l.lookup r=some vr)(hp:r≠p)(hq:r≠q)(hlt:q<N):Has N { tmps:=(#[p,q].zip #[u,z]).foldl (fun t (p,v)=>t.setIfInBounds p v) a.tmps,defers:=[] } [(r,vr),(q,z)]:=by
 refine⟨by rw[qJM];simpa using hH.1,fun s v hs=>?_⟩
 rw[qJM]
 simp only[List.lookup_cons]at hs
 split at hs
 ·rename_i e;simp only[beq_iff_eq]at e;subst e;cases hs
  rw[qHz hq,qHz hp];exact hH.get hr
 ·split at hs
  ·rename_i e;simp only[beq_iff_eq]at e;subst e;cases hs
   exact getD_same (by simp[hH.1,hlt])
  ·cases hs
theorem mark_keep{V V1:Mem}{w w1:World}{D:Nat}(h:Frm V w V1 w1)(hn:V D=none)(hW:w.heap[D]?=some (.deferred (some []))):w1.heap[D]?=some (.deferred (some []))/\V1 D=none:=by
 have hlt:=(Array.getElem?_eq_some_iff.1 hW).1
 refine⟨(h.old D hlt hn).trans hW,?_⟩
 cases hc:V1 D with
 | none=>rfl
 | some o =>
  rcases h.dom D (by rw[hc];simp) with h|h
  ·grind
  ·omega
theorem find_drop{α:Type}{l:List α}{nm:α->ByteArray}{vv:α->Value}{k:Nat}{x:α}(hx:l[k]?=some x)(y:ByteArray) :
  (if y=nm x then some (vv x) else ((l.drop (l.length-(l.length-1-k))).find? fun t=>decide (nm t=y)).map vv)=((l.drop (l.length-(l.length-k))).find? fun t=>decide (nm t=y)).map vv:=by
 have hk:=(List.getElem?_eq_some_iff.1 hx).1
 rw[show l.length-(l.length-1-k)=k+1 by omega,show l.length-(l.length-k)=k by omega]
 have e3:l.drop k=x::l.drop (k+1):=by
  grind [List.drop_eq_getElem_cons,List.getElem?_eq_some_iff]
 grind
theorem newC:NewC:=by
 intro V d hd
 refine qGL (c:=qAm Tryz.f158) Tryz.func158 (by kernel_rfl) ?_
 intro w hV
 rw[show flat (qAm Tryz.f158)=c158a++([.block 0 (.rangeFunc (.tmp 15) #[16,17] ((qCi (qAm Tryz.f158) [3,0,0,0]).getD 0 .skip) ((qCi (qAm Tryz.f158) [3,0,0,1]).getD 0 .skip))] ++
  (c158d++([.block 2 (.rangeFunc (.tmp 27) #[28,29] ((qCi (qAm Tryz.f158) [5,0,0,0]).getD 0 .skip) ((qCi (qAm Tryz.f158) [5,0,0,1]).getD 0 .skip))]++(c158g++[.ret])))) from by kernel_rfl]
 have hA:Seg Tryz.prog 38 c158a [(0,d.v)] [1,3,15] V fun vs V1=>∃cb mt mp p1 p3 bx,
   vs=[pv p1,pv p3,.func (.func 218) #[] #[pv bx]]/\NI V d cb mt mp p1 p3 (fun _=>none) (fun _=>none) V1/\V1 bx=some (cell (.slice d.ts.p d.ts.n d.ts.c) 22):=by
  refine s158a (a:=d.name) (b:=d.ts) (c:=d.gs) (d:=d.ps) (g:=d.ms) (i:=d.is) (j:=d.qs) (k:=d.bs) ?_
  unfold w158a
  refine GenK.makeMap fun mt hmt=>⟨some mt,rfl,GenK.makeMap fun mp hmp=>⟨some mp,rfl,?_⟩⟩
  refine Tri.mono c189 ?_
  rintro _ V2 ⟨bx,hbx,rfl,rfl⟩
  refine⟨.func (.func 218) #[] #[pv bx],rfl,rfl,fun p1 hp1 cb hcb p3 hp3=>⟨_,rfl,cb,mt,mp,p1,p3,bx,rfl,?_,?_⟩⟩
  all_goals
   have s1:=Mem.sub_new hmt (.map #[] 0)
   have s2:=Mem.sub_new hmp (.map #[] 0)
   have s3:=Mem.sub_new hbx (cell (.slice d.ts.p d.ts.n d.ts.c) 22)
   have s4:=Mem.sub_new hp1 (.cells d.row.toArray 30 (0,0))
   have s5:=Mem.sub_new hcb (.cells (d.row++[Value.map (some mt),Value.map (some mp)]).toArray 272 (0,0))
   have s6:=Mem.sub_new hp3 (cell (pv cb) 234)
  ·have nmp:mt≠mp:=fun e=>by grind [Mem.set_same]
   refine⟨s1.trans (s2.trans (s3.trans (s4.trans (s5.trans s6)))),hmt,?_,nmp,s6 _ _ mss,(s5.trans s6) _ _ mss,Mem.set_same _ _ _,(qBb.made V mt).sub (s2.trans (s3.trans (s4.trans (s5.trans s6)))),(qBb.made (V.set mt (.map #[] 0)) mp).sub (s3.trans (s4.trans (s5.trans s6)))⟩
   cases hv:V mp with
   | none=>rfl
   | some o=>have:=s1 _ _ hv;simp_all
  ·exact(s4.trans (s5.trans s6)) _ _ mss
 refine hA.step hV (qHy (args:=[d.v]) (N:=38) (by simp)) ?_
 rintro a1 w1 vs V1 hd1 hH1 ⟨cb,mt,mp,p1,p3,bx,rfl,hN1,hbx1⟩ hF1
 show Code.wpIn (qAy none) 0 Tryz.prog _ _ a1 w1
 refine wpIn_block ?_
 have hit:=fun fn lp D hlp=>it218 (V:=V1) (fn':=fn) (tmps:=a1.tmps) (ps:=#[16,17]) (assign:=(qCi (qAm Tryz.f158) [3,0,0,0]).getD 0 .skip) (body:=(qCi (qAm Tryz.f158) [3,0,0,1]).getD 0 .skip) (D:=D) (l:=lp) (bx:=bx) (s:=d.ts) (xs:=d.types)
  (J:=fun i V2=>NI V d cb mt mp p1 p3 (fun y=>((d.types.drop (d.types.length-i)).find? fun t=>decide (t.name=y)).map Ty.v) (fun _=>none) V2/\V2 bx=some (cell (.slice d.ts.p d.ts.n d.ts.c) 22)) rfl (fun i V2 hj _=>⟨hj.2,hd.types.sub hj.1.sub⟩) (fun k x hx V2 hj hl2 w2 hw2=>by
   refine qGp (N:=38) (insA:=[(3,pv p3),(17,Ty.v x)]) (outsA:=[3,5]) hl2 hw2 (qKu (u:=.int .i64 k) (z:=Ty.v x) (p:=16) (q:=17) (r:=3) hH1 rfl (by decide) (by decide) (by decide)).1 (qKu (p:=16) (q:=17) (r:=3) hH1 rfl (by decide) (by decide) (by decide)).2 (newAssignT x) (fun vs V3 hvs=>?_)
   obtain⟨b,hb,e2,rfl⟩:=hvs
   exact(newRoundT hj.1 hj.2 x V3 b hb e2).mono fun _ V4 h4=>⟨h4.1.cg (find_drop (nm:=Ty.name) (vv:=Ty.v) hx) fun _=>rfl,h4.2⟩)
  ⟨by simpa using hN1,hbx1⟩ hlp
 refine qGt (Φ:=fun V2=>NI V d cb mt mp p1 p3 (fun y=>(qJh d y).map Ty.v) (fun _=>none) V2) hF1.le (hH1.get (s:=15) rfl) Tryz.call218 (fun fn lp D hlp=>Tri.mono (hit fn lp D hlp) fun e V' h=>?_) ?_
 ·obtain⟨h1,V2,h2,h3,h4⟩:=h
  exact⟨h1,V2,h2,h3,by simpa [qJh]using h4.1⟩
 intro D V2 W hD hF2 hn2 hW hN2
 show wpL none 0 Tryz.prog _ (c158d++_) _ W
 have hS:Seg Tryz.prog 38 c158d [(1,pv p1),(3,pv p3)] [3,27] V2 fun vs V3=>∃bx,vs=[pv p3,.func (.func 219) #[] #[pv bx]]/\NI V d cb mt mp p1 p3 (fun y=>(qJh d y).map Ty.v) (fun _=>none) V3/\V3 bx=some (cell (.slice d.ps.p d.ps.n d.ps.c) 24):=by
  refine s158d ?_
  unfold w158d
  refine⟨by simp,d.ps,qAd hN2.b1 3 1 (by simp[Ds.row]),?_⟩
  refine Tri.mono c190 ?_
  rintro _ V3 ⟨bx,hbx,rfl,rfl⟩
  exact⟨.func (.func 219) #[] #[pv bx],rfl,rfl,_,rfl,bx,rfl,hN2.fresh hbx _,Mem.set_same _ _ _⟩
 refine hS.step hF2.le ⟨hH1.1,fun s v hs=>hH1.2 s v ?_⟩ ?_
 ·grind [List.zip_cons_cons]
 rintro a3 w3 vs V3 hd3 hH3 ⟨bx2,rfl,hN3,hbx3⟩ hF3
 show Code.wpIn (qAy none) 0 Tryz.prog _ _ a3 w3
 refine wpIn_block ?_
 have hit2:=fun fn lp D hlp=>it219 (V:=V3) (fn':=fn) (tmps:=a3.tmps) (ps:=#[28,29]) (assign:=(qCi (qAm Tryz.f158) [5,0,0,0]).getD 0 .skip) (body:=(qCi (qAm Tryz.f158) [5,0,0,1]).getD 0 .skip) (D:=D) (l:=lp) (bx:=bx2) (s:=d.ps) (xs:=d.procs)
  (J:=fun i V2=>NI V d cb mt mp p1 p3 (fun y=>(qJh d y).map Ty.v) (fun y=>((d.procs.drop (d.procs.length-i)).find? fun t=>decide (t.name=y)).map Pr.v) V2/\V2 bx2=some (cell (.slice d.ps.p d.ps.n d.ps.c) 24)) rfl (fun i V2 hj _=>⟨hj.2,hd.procs.sub hj.1.sub⟩) (fun k x hx V2 hj hl2 w2 hw2=>by
   refine qGp (N:=38) (insA:=[(3,pv p3),(29,Pr.v x)]) (outsA:=[3,7]) hl2 hw2 (qKu (u:=.int .i64 k) (z:=Pr.v x) (p:=28) (q:=29) (r:=3) hH3 rfl (by decide) (by decide) (by decide)).1 (qKu (p:=28) (q:=29) (r:=3) hH3 rfl (by decide) (by decide) (by decide)).2 (newAssignP x) (fun vs V3 hvs=>?_)
   obtain⟨b,hb,e2,rfl⟩:=hvs
   exact(newRoundP hj.1 hj.2 x V3 b hb e2).mono fun _ V4 h4=>⟨h4.1.cg (fun _=>rfl) (find_drop (nm:=Pr.name) (vv:=Pr.v) hx),h4.2⟩)
  ⟨by simpa using hN3,hbx3⟩ hlp
 refine qGt (Φ:=fun V2=>NI V d cb mt mp p1 p3 (fun y=>(qJh d y).map Ty.v) (fun y=>(qHZ d y).map Pr.v) V2) hF3.le (hH3.get (s:=27) rfl) Tryz.call219 (fun fn lp D hlp=>Tri.mono (hit2 fn lp D hlp) fun e V' h=>?_) ?_
 ·obtain⟨h1,V2,h2,h3,h4⟩:=h
  exact⟨h1,V2,h2,h3,by simpa [qHZ]using h4.1⟩
 intro D2 V4 W4 hD2 hF4 hn4 hW4 hN4
 show wpL none 0 Tryz.prog _ (c158g++_) _ W4
 have hS2:Seg Tryz.prog 38 c158g [(3,pv p3)] [2] V4 fun vs V5=>V5=V4/\vs=[pv cb]:=by
  refine s158g ?_
  unfold w158g
  exact⟨_,qBw hN4.b3,_,rfl,rfl,rfl⟩
 refine hS2.step hF4.le ⟨hH3.1,fun s v hs=>hH3.2 s v ?_⟩ ?_
 ·grind [List.zip_cons_cons]
 rintro a5 w5 vs V5 hd5 hH5 ⟨rfl,rfl⟩ hF5
 show Code.wpIn (qAy none) 0 Tryz.prog .ret _ a5 w5
 refine wpIn_ret ?_
 obtain⟨g1,g2,g3,g4⟩:=qFk hF1 hF2 hD hn2 hW hF3
 obtain⟨k1,k2,k3,k4⟩:=qFk g1 hF4 hD2 hn4 hW4 hF5
 obtain⟨m1,m2⟩:=mark_keep (hF4.trans hF5) g4 g3
 have hDlt:D<w3.heap.size:=(Array.getElem?_eq_some_iff.1 g3).1
 refine⟨.inr rfl,[D2,D],?_,by simp;omega,_,k1,fun D' hD'=>?_,_,fun w6 hw6=>results_tmp (t:=2) (by kernel_rfl) _ _ _,some ⟨cb,0,none⟩,by rw[hH5.get rfl],hN4.sub,?_⟩
 ·simp_all
 ·grind
 ·exact⟨⟨cb,mt,mp,272,rfl,hN4.ck,hN4.mapT,hN4.mapP⟩,hd.sub hN4.sub⟩
section
variable{P:Program}{V:Mem}{ty:Nat}{vals:Operand->Value}
theorem GenK.shr{t u:TypeId}{x:Operand}{k kk:IntKind}{n c:Int}(hx:vals x=.int k n)(hy:vals (.const (.int kk c))=.int kk c)(hc:¬c<0){q:Value->Mem->Prop}(hq:q (.int k (n.fdiv (2 ^ (min c.toNat k.bits)))) V):GenK P (.binOp .shr t x (.const (.int kk c)) u) ty vals V q:=by
 intro w hw
 refine⟨_,w,V,?_,Frm.refl hw,hq⟩
 unfold execOp
 simp[hx,hy,binOp,Op.shift,hc,eqGuard]
theorem GenK.max2{a b:Operand}{ts:Array TypeId}{n1 n2:Int}(h1:vals a=.int .i64 n1)(h2:vals b=.int .i64 n2){q:Value->Mem->Prop}(hq:q (.int .i64 (if n1<n2 then n2 else n1)) V):GenK P (.call { callee:=.builtin .max,args:=#[a,b],argTypes:=ts }) ty vals V q:=by
 intro w hw
 refine⟨_,w,V,?_,Frm.refl hw,hq⟩
 unfold execOp
 simp only[resolve,invoke,builtin,Sem.run_bind,Sem.run_pure,Result.andThen_ok,List.map_toArray,List.map_cons,List.map_nil,h1,h2]
 rfl
theorem GenK.min2{a b:Operand}{ts:Array TypeId}{n1 n2:Int}(h1:vals a=.int .i64 n1)(h2:vals b=.int .i64 n2){q:Value->Mem->Prop}(hq:q (.int .i64 (if n2<n1 then n2 else n1)) V):GenK P (.call { callee:=.builtin .min,args:=#[a,b],argTypes:=ts }) ty vals V q:=by
 intro w hw
 refine⟨_,w,V,?_,Frm.refl hw,hq⟩
 unfold execOp
 simp only[resolve,invoke,builtin,Sem.run_bind,Sem.run_pure,Result.andThen_ok,List.map_toArray,List.map_cons,List.map_nil,h1,h2]
 rfl
theorem GenK.iface{t:TypeId}{ts:Array Field}{x:Operand}{v:Value}(ht:P.underlying t=some (.struct ts))(hx:vals x=v){q:Value->Mem->Prop}(hq:q (.iface t v) V):GenK P (.makeInterface t x) ty vals V q:=by
 intro w hw
 refine⟨_,w,V,?_,Frm.refl hw,hq⟩
 unfold execOp
 simp[hx,Instr.makeInterface,run_underlying ht,Sem.run_bind]
end
section
variable{V:Mem}
theorem qKC{n:Nat}{k:Nat}:((n:Int)).fdiv (2 ^ k)=((n / 2 ^ k:Nat):Int):=by
 grind
theorem inU(n:Nat)(h:n<18446744073709551616):K.inR .u64 (n:Int):=K.inR_iff.2 (by simp[IntKind.min,IntKind.max,IntKind.signed,IntKind.bits];omega)
end
abbrev qIo:ByteArray:=qAr [0,1,2,2,3,3,3,3,4,4,4,4,4,4,4,4,5,5,5,5,5,5,5,5,5,5,5,5,5,5,5,5,6,6,6,6,6,6,6,6,6,6,6,6,6,6,6,6,6,6,6,6,6,6,6,6,6,6,6,6,6,6,6,6,7,7,7,7,7,7,7,7,7,7,7,7,7,7,7,7,7,7,7,7,7,7,7,7,7,7,7,7,7,7,7,7,7,7,7,7,7,7,7,7,7,7,7,7,7,7,7,7,7,7,7,7,7,7,7,7,7,7,7,7,7,7,7,7,8,8,8,8,8,8,8,8,8,8,8,8,8,8,8,8,8,8,8,8,8,8,8,8,8,8,8,8,8,8,8,8,8,8,8,8,8,8,8,8,8,8,8,8,8,8,8,8,8,8,8,8,8,8,8,8,8,8,8,8,8,8,8,8,8,8,8,8,8,8,8,8,8,8,8,8,8,8,8,8,8,8,8,8,8,8,8,8,8,8,8,8,8,8,8,8,8,8,8,8,8,8,8,8,8,8,8,8,8,8,8,8,8,8,8,8,8,8,8,8,8,8,8,8,8,8,8,8]
def lenN(n:Nat):Int:=if n=0 then 0 else (Nat.log2 n:Int)+1
theorem lenTab_at{n:Nat}(h:n<256):qBj qIo (n:Int)=lenN n:=by
 have:((List.range 256).all fun n=>decide (qBj qIo (n:Int)=lenN n))=true:=by kernel_rfl
 simp_all
theorem log2_shift{n k:Nat}(h:2 ^ k<=n):Nat.log2 n=k+Nat.log2 (n / 2 ^ k):=by
 have hp:0<2 ^ k:=Nat.two_pow_pos k
 have h0:n / 2 ^ k≠0:=by
  simp_all
 have hn:n≠0:=by omega
 have key:∀j,j<=Nat.log2 (n / 2 ^ k)↔k+j<=Nat.log2 n:=fun j=>by
  rw[Nat.le_log2 h0,Nat.le_log2 hn,Nat.le_div_iff_mul_le hp,<- Nat.pow_add,Nat.add_comm]
 have h1:=(key (Nat.log2 (n / 2 ^ k))).1 (Nat.le_refl _)
 have h2:k<=Nat.log2 n:=(Nat.le_log2 hn).2 h
 have h3:=(key (Nat.log2 n-k)).2 (by omega)
 omega
theorem qDw{n k:Nat}(h:2 ^ k<=n):lenN n=k+lenN (n / 2 ^ k):=by
 have hp:0<2 ^ k:=Nat.two_pow_pos k
 have h0:n / 2 ^ k≠0:=by
  simp_all
 unfold lenN
 rw[if_neg (by omega),if_neg h0,log2_shift h]
 omega
theorem lenN_small{n:Nat}(h:n<256):0<=lenN n/\lenN n<=8:=by
 unfold lenN
 split
 ·omega
 ·rename_i h0
  have:Nat.log2 n<8:=(Nat.log2_lt h0).2 h
  omega
section
variable{V:Mem}
theorem c303{n:Nat}(hn:n<=1099511627776):PP 303 [.int .u64 n] V (.int .i64 (lenN n)):=by
 refine x303 ?_
 unfold w303
 have shr:∀(k:Nat) (c:Int),min c.toNat IntKind.u64.bits=k->(n:Int).fdiv (2 ^ (min c.toNat IntKind.u64.bits))=((n / 2 ^ k:Nat):Int):=fun k c h=>by rw[h,qKC]
 have leaf:∀(k c:Nat),k<256->c<=64->lenN n=c+lenN k->∀v:Int,v=(k:Int)->∀c':Int,c'=(c:Int)->K.inR .u8 v/\(0<=v/\v<(qIo.size:Int))/\IR (qBj qIo v)/\IR (c'+qBj qIo v)/\(rV (uI (c'+qBj qIo v))=Ending.returned (.int .i64 (lenN n))/\V=V):=by
  rintro k c h1 h2 h3 _ rfl _ rfl
  have h4:=lenN_small h1
  have hs:qIo.size=256:=by kernel_rfl
  rw[lenTab_at h1,hs,h3]
  exact⟨⟨by omega,by omega⟩,⟨by omega,by omega⟩,⟨by omega,by omega⟩,⟨by omega,by omega⟩,rfl,rfl⟩
 refine⟨fun h1=>GenK.shr rfl rfl (by decide) ⟨_,rfl,?_⟩,fun h1=>⟨fun h2=>GenK.shr rfl rfl (by decide) ⟨_,rfl,⟨by omega,by omega⟩,?_⟩,fun h2=>⟨fun h3=>GenK.shr rfl rfl (by decide) ⟨_,rfl,⟨by omega,by omega⟩,?_⟩,fun h3=>?_⟩⟩⟩
 ·rw[shr 32 _ rfl]
  have e:=qDw (n:=n) (k:=32) (by omega)
  have hb:n / 2 ^ 32<=256:=by omega
  refine⟨fun h=>by omega,fun _=>⟨fun h2=>GenK.shr rfl rfl (by decide) ⟨_,rfl,⟨by omega,by omega⟩,?_⟩,fun h2=>leaf _ 32 (by omega) (by omega) (by omega) _ rfl _ rfl⟩⟩
  have e2:=qDw (n:=n / 2 ^ 32) (k:=8) (by omega)
  have:((n / 2 ^ 32:Nat):Int).fdiv (2 ^ (min (8:Int).toNat IntKind.u64.bits))=((n / 2 ^ 32 / 2 ^ 8:Nat):Int):=by
   rw[show min (8:Int).toNat IntKind.u64.bits=8 from rfl,qKC]
  rw[this]
  exact leaf _ 40 (by omega) (by omega) (by omega) _ rfl _ rfl
 ·rw[shr 16 _ rfl]
  have e:=qDw (n:=n) (k:=16) (by omega)
  refine⟨fun h=>GenK.shr rfl rfl (by decide) ⟨_,rfl,⟨by omega,by omega⟩,?_⟩,fun h=>leaf _ 16 (by omega) (by omega) (by omega) _ rfl _ rfl⟩
  have e2:=qDw (n:=n / 2 ^ 16) (k:=8) (by omega)
  have:((n / 2 ^ 16:Nat):Int).fdiv (2 ^ (min (8:Int).toNat IntKind.u64.bits))=((n / 2 ^ 16 / 2 ^ 8:Nat):Int):=by
   rw[show min (8:Int).toNat IntKind.u64.bits=8 from rfl,qKC]
  rw[this]
  exact leaf _ 24 (by omega) (by omega) (by omega) _ rfl _ rfl
 ·rw[shr 8 _ rfl]
  have e:=qDw (n:=n) (k:=8) (by omega)
  exact leaf _ 8 (by omega) (by omega) (by omega) _ rfl _ rfl
 ·exact leaf _ 0 (by omega) (by omega) (by omega) _ rfl _ rfl
theorem c272{n:Nat}(hn:n<=1099511627776):PP 272 [.int .u64 n] V (.int .i64 (lenN n)):=by
 refine x272 ?_
 unfold w272
 exact(c303 hn).call ⟨_,rfl,rfl,rfl⟩
end
def fltE(e:Int):Ending:=.panicked [{ v:=.iface 201 (.agg #[.int .i64 e]),recovered:=false }]
theorem GenK.panE{ty:Nat}{vals:Operand->Value}{V:Mem}{x:Operand}{e:Int}(hx:vals x=.agg #[.int .i64 e]){R:Ending->Mem->Prop}(h:R (fltE e) V) :
  GenK Tryz.prog (.makeInterface 201 x) ty vals V fun y V1=>∃v,K.r.ok v/\y=v/\∃t x,K.cast .r v=.iface t x/\R (.panicked [{ v:=.iface t x,recovered:=false }]) V1 :=
 GenK.iface Tryz.underlying201 hx ⟨.iface 201 (.agg #[.int .i64 e]),(rfl:K.cast .r (.iface 201 (.agg #[.int .i64 e]))=_),rfl,_,_,rfl,h⟩
def qBG(d:Ds)(F tk c cm:Int)(gs ns ls:Sl):List Value:=[Go.Sx.vS d.name,d.ts.v,d.gs.v,d.ps.v,d.ms.v,d.is.v,d.qs.v,d.bs.v,gs.v,ns.v,.int .i64 F,.int .i64 tk,.int .i64 c,.int .i64 cm,ls.v]
abbrev EM(V0:Mem)(d:Ds)(p F:Nat)(V:Mem)(s:St)(c:Nat):Prop:=MA 128 V0 p (qBG d F s.tk c s.cm) V s
theorem ntE:NT 128:=by unfold NT;decide
structure ES (V0:Mem) (d:Ds) (F:Nat):Prop where
 ds:Ds.Ok V0 d
 valid:qAF d=true
 procs:∀p∈d.procs,qCT d p
 fuel:F<=4000
theorem ES.sub{V0 W:Mem}{d:Ds}{F:Nat}(h:ES V0 d F)(hs:V0.sub W):ES W d F:=⟨h.ds.sub hs,h.valid,h.procs,h.fuel⟩
def PX(V0:Mem)(d:Ds)(p F c:Nat)(r:Rx Int):Ending->Mem->Prop:=fun e V'=>match r with
 | .ok v s=>e=.returned (.int .i64 v)/\EM V0 d p F V' s c
 | .bad k s=>e=fltE k/\∃c',EM V0 d p F V' s c'
def PB(r:Rs)(V:Mem):Ending->Mem->Prop:=fun e V'=>V'=V/\e=match r with | .ok v=>.returned (.int .i64 v) | .bad k=>fltE k
section
variable{V0 V V1:Mem}{d:Ds}{p F c:Nat}{s:St}
theorem c162{k:Int}{a:Option Addr}:Tri Tryz.prog 162 #[.pointer a,.int .i64 k] V fun e V'=>e=fltE k/\V'=V:=by
 refine x162 ?_
 unfold w162
 exact GenK.panE (e:=k) (R:=fun e V'=>e=fltE k/\V'=V) rfl ⟨rfl,rfl⟩
theorem qIZ{k:Int}{a:Option Addr}{K:Mem->Prop}{R:Ending->Mem->Prop}(h:R (fltE k) V):Tri Tryz.prog 162 #[.pointer a,.int .i64 k] V fun e V'=>(e=.returned (.tuple #[])/\K V')∨∃ch,e=.panicked ch/\R e V' :=
 Tri.mono c162 fun _ _ ⟨he,hV⟩=>.inr ⟨_,he,by simp_all⟩
theorem PX.split{f:FuncId}{args:Array Value}{r:Rx Int}{K:Int->Mem->Prop}{R:Ending->Mem->Prop}(H:Tri Tryz.prog f args V (PX V0 d p F c r))(hb:∀k s c' V',r=.bad k s->EM V0 d p F V' s c'->R (fltE k) V')(ho:∀v s V',r=.ok v s->EM V0 d p F V' s c->K v V') :
  Tri Tryz.prog f args V fun e V'=>(∃v,e=.returned (.int .i64 v)/\K v V')∨∃ch,e=.panicked ch/\R e V' :=
 Tri.mono H fun e V' h=>by
  cases r with
  | ok v s=>exact .inl ⟨v,h.1,ho v s V' rfl h.2⟩
  | bad k s =>
   obtain⟨he,c',hm⟩:=h
   subst he
   exact .inr ⟨_,rfl,hb k s c' V' rfl hm⟩
theorem PB.split{f:FuncId}{args:Array Value}{r:Rs}{K:Int->Mem->Prop}{R:Ending->Mem->Prop}(H:Tri Tryz.prog f args V (PB r V))(hb:∀k,r=.bad k->R (fltE k) V)(ho:∀v,r=.ok v->K v V) :
  Tri Tryz.prog f args V fun e V'=>(∃v,e=.returned (.int .i64 v)/\K v V')∨∃ch,e=.panicked ch/\R e V' :=
 Tri.mono H fun e V' ⟨hV,he⟩=>by
  subst hV
  cases r with
  | ok v=>simp_all
  | bad k=>subst he;exact .inr ⟨_,rfl,hb k rfl⟩
theorem PX.bind{f:FuncId}{args:Array Value}{G r:Rx Int}{h:Int->St->Rx Int}{K:Int->Mem->Prop}(hG:G=r.bind h)(H:Tri Tryz.prog f args V (PX V0 d p F c r))(ho:∀v s V',r=.ok v s->EM V0 d p F V' s c->G=h v s->K v V') :
  Tri Tryz.prog f args V fun e V'=>(∃v,e=.returned (.int .i64 v)/\K v V')∨∃ch,e=.panicked ch/\PX V0 d p F c G e V' :=
 PX.split H (fun k s c' V' e hm=>by subst e;rw[hG];exact⟨rfl,c',hm⟩) fun v s V' e hm=>ho v s V' e hm (by rw[hG,e];rfl)
theorem PX.ok{G:Rx Int}{v:Int}(hG:G=.ok v s)(M:EM V0 d p F V s c):PX V0 d p F c G (.returned (.int .i64 v)) V:=by rw[hG];exact⟨rfl,M⟩
theorem PX.bad{G:Rx Int}{k:Int}(hG:G=.bad k s)(M:EM V0 d p F V s c):PX V0 d p F c G (fltE k) V:=by rw[hG];exact⟨rfl,c,M⟩
theorem PX.last{f:FuncId}{args:Array Value}{G r:Rx Int}(hG:G=r)(H:Tri Tryz.prog f args V (PX V0 d p F c r)) :
  Tri Tryz.prog f args V fun e V'=>(∃v,e=.returned (.int .i64 v)/\PX V0 d p F c G (.returned (.int .i64 v)) V')∨∃ch,e=.panicked ch/\PX V0 d p F c G e V':=by
 subst hG
 exact PX.split H (fun k s c' V' e hm=>by rw[e];exact⟨rfl,c',hm⟩) fun v s V' e hm=>by rw[e];exact⟨rfl,hm⟩
theorem PB.last{f:FuncId}{args:Array Value}{G:Rx Int}{r:Rs}(hG:G=liftR r s)(M:EM V0 d p F V s c)(H:Tri Tryz.prog f args V (PB r V)) :
  Tri Tryz.prog f args V fun e V'=>(∃v,e=.returned (.int .i64 v)/\PX V0 d p F c G (.returned (.int .i64 v)) V')∨∃ch,e=.panicked ch/\PX V0 d p F c G e V' :=
 PB.split H (fun k e=>PX.bad (by rw[hG,e];rfl) M) fun v e=>PX.ok (by rw[hG,e];rfl) M
theorem c276{b t:Nat}{s:ByteArray}(hb:V b=some (cell (.string s) t)){x:Fld}:PP 276 [x.v,pv b] V (.bool (decide (x.name=s))):=by
 refine x276 ?_
 unfold w276
 exact⟨_,qBw hb,rfl,rfl⟩
theorem c172:IdC 172 Fld.row Fld.v 2:=idC g172
theorem c173:IdC 173 Ty.row Ty.v 2:=idC g173
theorem c196:IdC 196 Pr.row Pr.v 5:=idC g196
theorem c242{l:Sl}{xs:List Fld}(h:qAc V l 2 (xs.map Fld.row)){s:ByteArray}:PP 242 [l.v,.string s] V (.int .i64 (qGe xs s)):=by
 refine Pur.mk (x242 ?_)
 unfold w242
 intro b hb
 have hs:=Mem.sub_new hb (cell (.string s) 9)
 exact(c172 (first:=[]) (caps:=[pv b]) (h.sub hs) Tryz.call276 (fun t=>decide (t.name=s)) (fun x _=>c276 mss)).call ⟨_,rfl,rfl,hs⟩
theorem c197{b t:Nat}{s:ByteArray}(hb:V b=some (cell (.string s) t)){x:Pr}:PP 197 [x.v,pv b] V (.bool (decide (x.name=s))):=by
 refine x197 ?_
 unfold w197
 exact⟨_,qBw hb,rfl,rfl⟩
theorem c160(h:Ds.Ok V d){s:ByteArray}:PP 160 [d.v,.string s] V (.int .i64 (qCU d s)):=by
 refine Pur.mk (x160 ?_)
 unfold w160
 intro b hb
 have hs:=Mem.sub_new hb (cell (.string s) 9)
 exact(c196 (first:=[]) (caps:=[pv b]) (h.procs.sub hs) Tryz.call197 (fun t=>decide (t.name=s)) (fun x _=>c197 mss)).call ⟨_,rfl,rfl,hs⟩
theorem c301{b t:Nat}{s:ByteArray}(hb:V b=some (cell (.string s) t)){x:Ty}:PP 301 [x.v,pv b] V (.bool (decide (x.name=s))):=by
 refine x301 ?_
 unfold w301
 exact⟨_,qBw hb,rfl,rfl⟩
theorem c270(S:ES V0 d F)(h:EM V0 d p F V s c){nm:ByteArray}:PP 270 [pv p,.string nm] V (.int .i64 (qDQ d nm)):=by
 obtain⟨gs,ns,ls,nd,hat,L⟩:=h.ex
 refine Pur.mk (x270 ?_)
 unfold w270
 refine⟨nn,nn,pnn,d.ts,qAd hat 1 1 (by simp[qBG]),fun b hb=>?_⟩
 have hs:=Mem.sub_new hb (cell (.string nm) 9)
 exact(c173 (first:=[]) (caps:=[pv b]) (S.ds.sub (L.sub.trans hs)).types Tryz.call301 (fun t=>decide (t.name=nm)) (fun x _=>c301 mss)).call ⟨_,rfl,rfl,hs⟩
theorem c274{b:Bool}:PP 274 [.bool b] V (.int .i64 (trI b)):=by
 refine x274 ?_
 unfold w274
 refine⟨fun h=>?_,fun h=>?_⟩
 ·rw[h];exact⟨rfl,rfl⟩
 ·rw[(Bool.not_eq_true b).mp h];exact⟨rfl,rfl⟩
theorem c271{n:Int}{a:Option Addr}:Tri Tryz.prog 271 #[.pointer a,.int .i64 n] V (PB (big n) V):=by
 refine Tri.mono (x271 (R:=PB (big n) V) ?_) fun _ _ h=>h
 unfold w271
 have bad:¬(-1099511627776<=n/\n<=1099511627776)->PB (big n) V (fltE 5) V:=fun h=>⟨rfl,by grind [big]⟩
 refine⟨fun h=>qIZ (bad (by omega)),fun h1=>⟨fun h=>qIZ (bad (by omega)),fun h2=>⟨rfl,?_⟩⟩⟩
 grind [big]
theorem c304{n:Int}(h:-1099511627776<=n/\n<=1099511627776):PP 304 [.int .i64 n] V (.int .i64 (if n<0 then -n else n)):=by
 refine x304 ?_
 unfold w304
 refine⟨⟨by omega,by omega⟩,GenK.max2 rfl rfl ⟨_,rfl,?_⟩⟩
 grind
theorem mul_big{a b:Int}(ha:-1099511627776<=a/\a<=1099511627776)(hb:-1099511627776<=b/\b<=1099511627776)(h0:a≠0):((1099511627776:Int).tdiv (if a<0 then -a else a)<(if b<0 then -b else b))↔¬(-1099511627776<=a*b/\a*b<=1099511627776):=by
 obtain⟨x,hx⟩:∃x:Nat,(if a<0 then -a else a)=(x:Int):=⟨a.natAbs,by split <;> omega⟩
 obtain⟨y,hy⟩:∃y:Nat,(if b<0 then -b else b)=(y:Int):=⟨b.natAbs,by split <;> omega⟩
 have hxa:x=a.natAbs:=by omega
 have hyb:y=b.natAbs:=by omega
 have hx0:0<x:=by omega
 rw[hx,hy]
 have e1:(1099511627776:Int).tdiv (x:Int)=((1099511627776 / x:Nat):Int):=by
  rfl
 rw[e1]
 have e2:(a*b).natAbs=x*y:=by rw[Int.natAbs_mul,hxa,hyb]
 have e3:(-1099511627776<=a*b/\a*b<=1099511627776)↔x*y<=1099511627776:=by omega
 rw[e3]
 have e4:y<=1099511627776 / x↔y*x<=1099511627776:=Nat.le_div_iff_mul_le hx0
 grind
theorem mul_in{a b:Int}(_:-1099511627776<=a/\a<=1099511627776)(_:-1099511627776<=b/\b<=1099511627776)(h:a=0∨(-1099511627776<=a*b/\a*b<=1099511627776)):IR (a*b):=by
 rcases h with rfl|h
 ·rw[Int.zero_mul];exact⟨by omega,by omega⟩
 ·exact⟨by omega,by omega⟩
theorem quo_wrap{a:Int}(h:-1099511627776<=a/\a<=1099511627776){b:Int}:IntKind.wrap .i64 (a.tdiv b)=a.tdiv b:=by
 have:=tdiv_in (b:=b) h
 rw[IntKind.wrap_i64];omega
theorem c275{a:Option Addr}{op v w:Int}(ho:op=9∨op=10∨op=11∨op=12∨op=13∨op=22∨op=23)(hv:-1099511627776<=v/\v<=1099511627776)(hw:-1099511627776<=w/\w<=1099511627776):Tri Tryz.prog 275 #[.pointer a,.int .i64 op,.int .i64 v,.int .i64 w] V (PB (qEV op v w) V):=by
 refine Tri.mono (x275 (R:=PB (qEV op v w) V) ?_) fun _ _ h=>h
 unfold w275
 have sp:∀{n:Int},qEV op v w=big n->Tri Tryz.prog 271 #[.pointer a,.int .i64 n] V fun e V'=>(∃u,e=.returned (.int .i64 u)/\PB (qEV op v w) V (.returned (.int .i64 u)) V')∨∃ch,e=.panicked ch/\PB (qEV op v w) V e V':=fun e=>PB.split c271 (fun k hk=>⟨rfl,by rw[e,hk]⟩) fun n hn=>⟨rfl,by rw[e,hn]⟩
 have good:∀{n:Int},qEV op v w=.ok n->PB (qEV op v w) V (.returned (.int .i64 n)) V:=fun e=>⟨rfl,by rw[e]⟩
 have bad:∀{k:Int},qEV op v w=.bad k->PB (qEV op v w) V (fltE k) V:=fun e=>⟨rfl,by rw[e]⟩
 have hI:∀{n:Int},-2199023255552<=n/\n<=2199023255552->IR n:=fun h=>⟨by omega,by omega⟩
 have wr:=quo_wrap (b:=w) hv
 refine⟨fun h=>⟨hI (by omega),sp (by grind [qEV])⟩,fun h9=>⟨fun h=>⟨hI (by omega),sp (by grind [qEV])⟩,fun h10=>⟨fun h=>?_,fun h11=>⟨fun h=>?_,fun h12=>⟨fun h=>?_,fun h13=>⟨fun h=>?_,fun h22=>?_⟩⟩⟩⟩⟩⟩
 ·have e:qEV op v w=big (v*w):=by grind [qEV]
  have fit:(-1099511627776<=v*w/\v*w<=1099511627776)->PB (qEV op v w) V (.returned (.int .i64 (v*w))) V:=fun k=>good (by grind [big])
  refine⟨fun h0=>⟨mul_in hv hw (.inl h0),fit ?_⟩,fun h0=>?_⟩
  ·simp_all
  have h0:¬v=0:=h0
  have hq:IntKind.wrap .i64 ((1099511627776:Int).tdiv (if v<0 then -v else v))=(1099511627776:Int).tdiv (if v<0 then -v else v):=quo_wrap ⟨by omega,by omega⟩
  refine(c304 hw).call ⟨_,rfl,(c304 hv).call ⟨_,rfl,by split <;> omega,?_⟩⟩
  rw[hq]
  refine⟨fun k=>qIZ (bad ?_),fun k=>?_⟩
  ·simp_all [big,if_neg,mul_big]
  simp_all [Classical.not_not,mul_big,mul_in,inr]
 ·have e:w≠0->qEV op v w=.ok (v.tdiv w):=fun k=>by grind [qEV]
  first|rw[wr] | (unfold w275_0;rw[wr])
  refine⟨fun h0=>qIZ (bad ?_),fun h0=>⟨fun _=>⟨h0,good (e h0)⟩,fun k=>absurd h k⟩⟩
  grind [qEV]
 ·have e:w≠0->qEV op v w=.ok (v.tmod w):=fun k=>by grind [qEV]
  refine⟨fun h0=>qIZ (bad ?_),fun h0=>⟨fun k=>absurd k h12,fun _=>⟨h0,good (e h0)⟩⟩⟩
  grind [qEV]
 ·exact GenK.max2 rfl rfl ⟨_,rfl,good (by grind [qEV])⟩
 ·have h23:op=23:=by
   omega
  exact GenK.min2 rfl rfl ⟨_,rfl,good (by grind [qEV])⟩
end
theorem qAB{c a b:Prop}(h:¬c)(hb:b):Br c a b:=⟨fun k=>absurd k h,fun _=>hb⟩
theorem qAH{c a b:Prop}(h:c)(ha:a):Br c a b:=⟨fun _=>ha,fun k=>absurd h k⟩
structure Fv (V0:Mem) (q:Nat) (pr:Pr) (vals:List Int):Prop where
 ex:∃a b:Sl,V0 q=some (.cells #[a.v,b.v] 243 (0,0))/\qAc V0 a 2 (pr.vars.map Fld.row)/\qAc V0 b 1 (vals.map qAe)
theorem qEs{V:Mem}{e:E}(he:E.Ok V e){i:Nat}{a:E}(h:e.k[i]?=some a):¬e.l.p=none/\(0:Int)<=(i:Int)/\(i:Int)<(e.l.n:Int)/\V.rowp e.l.p (i*4) 4=some [.int .i64 a.op,.int .i64 a.n,.string a.s,.slice a.l.p a.l.n a.l.c]:=by
 have hr:=he.rows
 have hn:=hr.n_eq
 have hl:=(List.getElem?_eq_some_iff.1 h).1
 obtain⟨y,-,hy,-,hl2,hp,hz,hrow⟩:=hr.get (i:=i) (by omega)
 rw[h]at hy;cases hy
 exact⟨hp,hz,by omega,hrow⟩
section
variable{V0 V V1:Mem}{d:Ds}{p F c q:Nat}{s:St}{pr:Pr}{vals:List Int}
theorem fieldT_idx{u nm t:ByteArray}(h:qCc d u nm=(t,0)):∃(j i:Nat) (tt:Ty) (f:Fld),qDQ d u=(j:Int)/\d.types[j]?=some tt/\tt∈d.types/\qGe tt.fields nm=(i:Int)/\tt.fields[i]?=some f/\f.ty=t:=by
 unfold qCc at h
 cases hty:qJh d u with
 | none=>simp_all
 | some tt =>
  rw[hty]at h
  simp only at h
  split at h
  ·simp at h
  ·rename_i hl
   simp only[Prod.mk.injEq,and_true]at h
   grind [tyOf_idx,qEr,absurd,List.mem_of_getElem?]
theorem typC(S:ES V0 d F)(M:EM V0 d p F V s c)(fr:Fv V0 q pr vals)(hpo:qCT d pr)(G:qAz d s.mm)(hvs:qAg d s.mm pr.vars vals=true) :
  ∀(e:E) (t:ByteArray),VE e->E.Ok V0 e->qAo d (qAj d pr) e=(t,0)->PP 273 [pv p,pv q,e.v] V (.string t):=by
 intro e
 induction e using E.ind with
 | h e ih =>
 intro t hv he ht
 obtain⟨gs,ns,ls,nd,hat,L⟩:=M.ex
 obtain⟨fa,fb,hq0,hra0,-⟩:=fr.ex
 have hq:=L.sub _ _ hq0
 have hra:=hra0.sub L.sub
 have hd:=S.ds.sub L.sub
 have heV:=he.sub L.sub
 refine x273 ?_
 unfold w273
 have fin:∀{t':ByteArray},t'=t->(Ending.returned (.string t')=Ending.returned (.string t)/\V=V):=fun h=>⟨by rw[h],rfl⟩
 have I:∀{a:E} {u:ByteArray} {R:Ending->Mem->Prop},a∈e.k->qAo d (qAj d pr) a=(u,0)->R (.returned (.string u)) V->Tri Tryz.prog 273 #[pv p,pv q,a.v] V R:=fun hm ha hR=>(ih _ hm _ (hv.kids _ hm) (he.kids _ hm) ha).call hR
 cases kindX (sc:=qAj d pr) rfl hv ht with
 | int h hn =>
  repeat refine qAB (h ▸ (by decide)) ?_
  exact fin rfl
 | bool h hn =>
  repeat refine qAB (h ▸ (by decide)) ?_
  exact qAH h (fin rfl)
 | nil h hn =>
  repeat refine qAB (h ▸ (by decide)) ?_
  exact qAH h (fin rfl)
 | var h hl hne =>
  refine qAH h ⟨nn,nn,fa,qAd hq 0 1 (by simp),(c242 hra).call ⟨_,rfl,?_⟩⟩
  rcases qHJ G hvs hpo.vars hl hne with⟨i,f,v,h1,h2,h3,h4,-⟩|⟨i,f,v,h0,h1,h2,h3,h4,-⟩
  ·rw[h1]
   have hn:=hra.n_eq
   have hil:=(List.getElem?_eq_some_iff.1 h2).1
   obtain⟨y,-,hy,-,-,hp,hz,hrow⟩:=hra.get (i:=i) (by omega)
   rw[h2]at hy;cases hy
   exact qAH (by omega) ⟨nn,nn,fa,qAd hq 0 1 (by simp),hp,hz,by omega,qAh hp,_,_,hrow,fin h4⟩
  ·rw[h0]
   have hg:=hd.globals
   have hn:=hg.n_eq
   have hil:=(List.getElem?_eq_some_iff.1 h2).1
   obtain⟨y,-,hy,-,-,hp,hz,hrow⟩:=hg.get (i:=i) (by omega)
   rw[h2]at hy;cases hy
   refine qAB (by decide) ⟨nn,nn,pnn,d.gs,qAd hat 2 1 (by simp[qBG]),nn,nn,pnn,d.gs,qAd hat 2 1 (by simp[qBG]),(c242 hg).call ⟨_,rfl,?_⟩⟩
   rw[h1]
   exact⟨qAI hat 2 0 1 (by simp[qBG]),pnn,nn,nn,hp,hz,by omega,qAh hp,_,_,hrow,fin h4⟩
 | @fld _ u a h hk ha hf =>
  have h0:e.k[0]?=some a:=by rw[hk];rfl
  obtain⟨k1,k2,k3,k4⟩:=qEs heV h0
  obtain⟨j,i,tt,f,e1,e2,e3,e4,e5,e6⟩:=fieldT_idx hf
  repeat refine qAB (h ▸ (by decide)) ?_
  refine qAH h ⟨nn,nn,pnn,d.ts,qAd hat 1 1 (by simp[qBG]),k1,by decide,k3,_,_,_,_,k4,I (List.mem_of_getElem? h0) ha ⟨_,rfl,qAI hat 1 0 1 (by simp[qBG]),pnn,nn,nn,(c270 S M).call ⟨_,rfl,qAI hat 1 0 1 (by simp[qBG]),pnn,nn,nn,?_⟩⟩⟩
  rw[e1]
  have hn:=hd.types.n_eq
  have hjl:=(List.getElem?_eq_some_iff.1 e2).1
  obtain⟨y,-,hy,-,-,hp,hz,hrow⟩:=hd.types.get (i:=j) (by omega)
  rw[e2]at hy;cases hy
  have hfs:=(hd.typesOk tt e3).fields
  have hn2:=hfs.n_eq
  have hil:=(List.getElem?_eq_some_iff.1 e5).1
  obtain⟨y,-,hy,-,-,hp2,hz2,hrow2⟩:=hfs.get (i:=i) (by omega)
  rw[e5]at hy;cases hy
  refine⟨hp,hz,by omega,_,_,hrow,(c242 hfs).call ⟨_,rfl,?_⟩⟩
  rw[e4]
  exact⟨hp2,hz2,by omega,qAh hp2,_,_,hrow2,fin e6⟩
 | new h hn =>
  grind
 | @call pr' i h hc hr =>
  repeat refine qAB (h ▸ (by decide)) ?_
  refine qAH h ⟨nn,nn,pnn,d.ps,qAd hat 3 1 (by simp[qBG]),nn,nn,d.name,d.ts,d.gs,d.ps,d.ms,d.is,d.qs,d.bs,qAd hat 0 8 (by simp[qBG]),(c160 hd).call ⟨_,rfl,qAI hat 3 0 1 (by simp[qBG]),pnn,nn,nn,?_⟩⟩
  rw[hc.idx]
  have hn:=hd.procs.n_eq
  have hil:=(List.getElem?_eq_some_iff.1 hc.at_).1
  obtain⟨y,-,hy,-,-,hp,hz,hrow⟩:=hd.procs.get (i:=i) (by omega)
  rw[hc.at_]at hy;cases hy
  exact⟨hp,hz,by omega,qAh hp,_,_,_,_,_,hrow,fin rfl⟩
 | @neg a h hk ha =>
  repeat refine qAB (h ▸ (by decide)) ?_
  exact fin rfl
 | @not a h hk ha =>
  repeat refine qAB (h ▸ (by decide)) ?_
  exact qAH h (fin rfl)
 | @log a h hk ha =>
  repeat refine qAB (h ▸ (by decide)) ?_
  exact fin rfl
 | @and a b h hk ha hb =>
  repeat refine qAB (h ▸ (by decide)) ?_
  exact qAH h (fin rfl)
 | @or a b h hk ha hb =>
  repeat refine qAB (h ▸ (by decide)) ?_
  exact qAH h (fin rfl)
 | @cond a b c _ u w h hk ha hb hc hu hw htt =>
  have h1:e.k[1]?=some b:=by rw[hk];rfl
  have h2:e.k[2]?=some c:=by rw[hk];rfl
  obtain⟨k1,k2,k3,k4⟩:=qEs heV h1
  obtain⟨l1,l2,l3,l4⟩:=qEs heV h2
  repeat refine qAB (h ▸ (by decide)) ?_
  refine qAH h ⟨k1,by decide,k3,_,_,_,_,k4,I (List.mem_of_getElem? h1) hb ⟨_,rfl,fun hE=>⟨l1,by decide,l3,_,_,_,_,l4,I (List.mem_of_getElem? h2) hc ⟨_,rfl,fin ?_⟩⟩,fun hE=>fin ?_⟩⟩
  ·grind [sNil]
  grind [sNil]
 | @eq a b u w h hk ha hb hf =>
  rcases h with h|h
  ·repeat refine qAB (h ▸ (by decide)) ?_
   exact qAH h (fin rfl)
  ·repeat refine qAB (h ▸ (by decide)) ?_
   exact qAH h (fin rfl)
 | @cmp a b h hk ha hb =>
  rcases h with h|h
  ·repeat refine qAB (h ▸ (by decide)) ?_
   exact qAH h (fin rfl)
  ·repeat refine qAB (h ▸ (by decide)) ?_
   exact qAH h (fin rfl)
 | @ari a b h hk ha hb =>
  rcases h with h|h|h|h|h|h|h
  all_goals
   repeat refine qAB (h ▸ (by decide)) ?_
   exact fin rfl
theorem lens12(h:qAF d=true):d.globals.length<=8/\∀t∈d.types,t.fields.length<=12:=by
 grind [qAF,qEv,tyB]
theorem lens_of_args(hp:∀p∈d.procs,qCT d p){i:Nat}(h:d.procs[i]?=some pr):pr.params.length<=6/\pr.locals.length<=12:=(hp pr (List.mem_of_getElem? h)).lens
theorem c243(M:EM V0 d p F V s c){k a f:Int}(hfit:s.lg.length+1<=2147483648):Tri Tryz.prog 243 #[pv p,.int .i64 k,.int .i64 a,.int .i64 f] V fun e V'=>e=.returned (.tuple #[])/\EM V0 d p F V' (s.note (k,a,f)) c:=by
 obtain⟨gs,ns,ls,nd,hat,L⟩:=M.ex
 refine x243 ?_
 unfold w243
 refine⟨nn,nn,ls,qAd hat 14 1 (by simp[qBG]),fun tb htb=>L.note (a:=(k,a,f)) htb rfl rfl hfit fun s' V' L' hk=>⟨s',rfl,nn,nn,?_⟩⟩
 have hat':=hk _ _ hat (notBlk hat ntE L.log (.inr (.inr rfl)))
 refine StT.at2 (off:=14) hat' (by simp[qBG]) ⟨rfl,MA.set (row':=qBG d F s.tk c s.cm) ntE M.p0 hat' L' rfl rfl rfl rfl⟩
theorem c240(hF:F<=4000)(M:EM V0 d p F V s c):Tri Tryz.prog 240 #[pv p] V fun e V'=>(s.tk<F/\e=.returned (.tuple #[])/\EM V0 d p F V' { s with tk:=s.tk+1 } c)∨(F<=s.tk/\e=fltE 20/\V'=V):=by
 obtain⟨gs,ns,ls,nd,hat,L⟩:=M.ex
 refine x240 ?_
 unfold w240
 refine⟨nn,nn,_,qAd hat 11 1 (by simp[qBG]),nn,nn,_,qAd hat 10 1 (by simp[qBG]),fun h=>qIZ (.inr ⟨by omega,rfl,rfl⟩),fun h=>⟨nn,nn,_,qAd hat 11 1 (by simp[qBG]),⟨by omega,by omega⟩,nn,nn,StT.at2 (off:=11) hat (by simp[qBG]) (.inl ⟨by omega,rfl,?_⟩)⟩⟩
 exact MA.set (row':=qBG d F ((s.tk+1:Nat):Int) c s.cm) ntE M.p0 hat L rfl rfl rfl rfl
theorem c244(S:ES V0 d F)(M:EM V0 d p F V s c){k j:Nat}{fs:List Int}{tt:Ty}(hk:s.ns[k]?=some ((j:Int),fs))(hj:d.types[j]?=some tt){nm:ByteArray}:PP 244 [pv p,.int .i64 ((k:Int)+1),.string nm] V (.int .i64 (qGe tt.fields nm)):=by
 obtain⟨gs,ns,ls,nd,hat,L⟩:=M.ex
 refine x244 ?_
 unfold w244
 have hd:=S.ds.sub L.sub
 have hnR:=L.nodes.rows (fun _=>rfl) (by decide)
 have hnn:=hnR.n_eq
 obtain⟨sl,hsl⟩:=L.at_ hk
 have hkl:=(List.getElem?_eq_some_iff.1 hsl).1
 obtain⟨y,-,hy,-,-,hp,hz,hrow⟩:=hnR.get (i:=k) (by omega)
 rw[hsl]at hy;cases hy
 have hI:IR ((k:Int)):=⟨by omega,by have:=(hnR.succ (i:=k) (by omega)).2;omega⟩
 have hn:=hd.types.n_eq
 have hjl:=(List.getElem?_eq_some_iff.1 hj).1
 obtain⟨y,-,hy,-,-,hp2,hz2,hrow2⟩:=hd.types.get (i:=j) (by omega)
 rw[hj]at hy;cases hy
 refine⟨nn,nn,pnn,d.ts,qAd hat 1 1 (by simp[qBG]),nn,nn,pnn,ns,qAd hat 9 1 (by simp[qBG]),?_⟩
 rw[show ((k:Int)+1-1)=(k:Int) by omega]
 exact⟨hI,hp,hz,by omega,qAh hp,_,_,hrow,hp2,hz2,(show (j:Int)<d.ts.n by omega),qAh hp2,_,_,hrow2,(c242 (hd.typesOk tt (List.mem_of_getElem? hj)).fields).call ⟨_,rfl,rfl,rfl⟩⟩
end
section
variable{V0 V V1:Mem}{d:Ds}{p F c q:Nat}{s:St}{pr:Pr}{vals:List Int}
def BW(n:Nat)(s:St):Prop:=s.lg.length+s.cm+n<=4000*s.tk
theorem BW.next{n m:Nat}{s s':St}(h:BW (n+m) s)(g:Gr F n s s'):BW m s':=by have:=g.w;unfold BW at *;omega
theorem BW.le{n m:Nat}{s:St}(h:BW n s)(hn:m<=n):BW m s:=by unfold BW at *;omega
structure Cx (V0:Mem) (d:Ds) (p F c q:Nat) (pr:Pr) (vals:List Int) (n m:Nat) (V:Mem) (s:St):Prop where
 S:ES V0 d F
 fr:Fv V0 q pr vals
 po:qCT d pr
 G:qAz d s.mm
 hv:qAg d s.mm pr.vars vals=true
 M:EM V0 d p F V s c
 tk:s.tk<=F
 n:F<n+s.tk
 w:BW m s
theorem Cx.fit{n m:Nat}(X:Cx V0 d p F c q pr vals n (m+1) V s):s.lg.length+1<=2147483648:=by
 have h1:=X.w;have h2:=X.tk;have h3:=X.S.fuel;grind [BW]
theorem Cx.next{n m k:Nat}{V':Mem}{s':St}(X:Cx V0 d p F c q pr vals n (m+k) V s)(g:Gr F m s s')(G:qAz d s'.mm)(M:EM V0 d p F V' s' c):Cx V0 d p F c q pr vals n k V' s' :=
 ⟨X.S,X.fr,X.po,G,qAk (fun h=>g.right h) X.hv,M,g.fu X.tk,by have:=g.tk;have:=X.n;omega,X.w.next g⟩
theorem Cx.le{n m k:Nat}(X:Cx V0 d p F c q pr vals n m V s)(h:k<=m):Cx V0 d p F c q pr vals n k V s:=⟨X.S,X.fr,X.po,X.G,X.hv,X.M,X.tk,X.n,X.w.le h⟩
variable(d p F) in
def CallC(n:Nat):Prop:=∀(V0 V:Mem) (s:St) (c i:Nat) (pr:Pr) (args:List Int) (l:Sl),ES V0 d F->d.procs[i]?=some pr->qAz d s.mm->qAg d s.mm pr.params args=true->qAc V0 l 1 (args.map qAe)->EM V0 d p F V s c->s.tk<=F->F<n+s.tk->BW 0 s ->
 Tri Tryz.prog 116 #[pv p,pr.v,l.v] V (PX V0 d p F c (qDW d (qFB d F n) c i args s))
variable(d p F) in
def ExprC(n:Nat):Prop:=∀(e:E) (t:ByteArray) (V0 V:Mem) (s:St) (c q:Nat) (pr:Pr) (vals:List Int),Cx V0 d p F c q pr vals n (szE e) V s->VE e->E.Ok V0 e->qAo d (qAj d pr) e=(t,0) ->
 Tri Tryz.prog 241 #[pv p,pv q,e.v] V (PX V0 d p F c (evX d (qDW d (qFB d F n) c) pr vals e s))
theorem qHs{g n:Nat}(hg:V g=none)(hn:n<=2147483648):Sx.Own V (V.set g (.cells (madeCells (Value.int .i64 0).cells (n*1)) 3 (0,0))) 3 1 ⟨some ⟨g,0,none⟩,n,n⟩ ((List.replicate n (0:Int)).flatMap qAe):=by
 have e:(madeCells (Value.int .i64 0).cells (n*1)).toList=(List.replicate n (0:Int)).flatMap qAe:=by rw[Nat.mul_one,qKq,qAW,List.map_replicate]
 refine⟨Mem.sub_new hg _,by rw[qAW];simp,.inr ⟨g,_,rfl,hg,Mem.set_same _ _ _,Nat.le_refl _,by simp only[maxLen];omega,by rw[size_madeCells],?_⟩⟩
 grind [List.take_of_length_le,qAW]
theorem mk31{ty:Nat}{x y:Operand}{vals:Operand->Value}{n:Nat}(hx:vals x=.int .i64 n)(hy:vals y=.int .i64 n)(hn:n<=2147483648){q:Value->Mem->Prop}(hq:∀g,V g=none->q (.slice (sa g) n n) (V.set g (.cells (madeCells (Value.int .i64 0).cells (n*1)) 3 (0,0)))):GenK Tryz.prog (.makeSlice 31 x y) ty vals V q :=
 GenK.make (z:=.int .i64 0) (i:=ti 3) Tryz.underlying31 (by kernel_rfl) (by kernel_rfl) (by kernel_rfl) (of_decide_eq_true (by kernel_rfl)) hx hy hn hq
theorem RxP.got{α:Type}{n:Nat}{s s':St}{r:Rx α}{v:α}{Q:α->St->Prop}(h:RxP d F n s r Q)(e:r=.ok v s'):qAz d s'.mm/\Gr F n s s'/\Q v s':=by
 subst e;exact⟨h.good,h.gr,h.q _ _ rfl⟩
theorem callC{n:Nat}(hR:CallC d p F n){e:E}{pr':Pr}{i:Nat}(X:Cx V0 d p F c q pr vals n (szE e) V s)(he:E.Ok V0 e)(hc:CallK d (qAj d pr) e pr' i)(hv:VE e)
  (hE:∀a∈e.k,∀(u:ByteArray) (W V':Mem) (s':St),V0.sub W->Cx W d p F c q pr vals n (szE a) V' s'->qAo d (qAj d pr) a=(u,0)->Tri Tryz.prog 241 #[pv p,pv q,a.v] V' (PX W d p F c (evX d (qDW d (qFB d F n) c) pr vals a s'))) :
  Tri Tryz.prog 245 #[pv p,pv q,e.v] V (PX V0 d p F c ((seqX (e.k.map (evX d (qDW d (qFB d F n) c) pr vals)) [] s).bind fun l st=>qDW d (qFB d F n) c (i:Int) l st)):=by
 obtain⟨f,hf⟩:∃f,f=evX d (qDW d (qFB d F n) c) pr vals:=⟨_,rfl⟩
 obtain⟨G,hG⟩:∃G:Rx Int,G=(seqX (e.k.map f) [] s).bind fun l st=>qDW d (qFB d F n) c (i:Int) l st:=⟨_,rfl⟩
 rw[<- hf,<- hG]
 have hcs:=qEO X.S.procs (qGl (F:=F) X.S.procs n) c
 have snd:∀{a:E} {u:ByteArray} {s1:St} {m:Nat},a∈e.k->qAo d (qAj d pr) a=(u,0)->qAz d s1.mm->Gr F m s s1->RxP d F (szE a) s1 (f a s1) fun v s'=>qBI d s'.mm u v:=fun hm ha G1 g1=>by
  rw[hf];exact ev_snd X.S.procs hcs X.po _ _ _ (hv.kids _ hm) ha G1 (qAk (fun h=>g1.right h) X.hv)
 have hkn:=qEi X.S.procs hc.at_
 have hsz:=szE_eq e
 refine Tri.mono (x245 (R:=PX V0 d p F c G) ?_) fun _ _ h=>h
 unfold w245
 refine qEX (mk:=fun s:Sl=>.slice s.p s.n s.c) (b0:=⟨none,0,0⟩) qBE e.k.length (fun j sl V1=>∃W acc s1,V0.sub W/\Sx.Own V0 W 3 1 sl (acc.flatMap qAe)/\EM W d p F V1 s1 c/\acc.length=j/\qAz d s1.mm/\Gr F ((e.k.take j).map szE).sum s s1/\qAg d s1.mm (pr'.params.take j) acc=true /\
   seqX (e.k.map f) [] s=seqX ((e.k.drop j).map f) acc s1) ⟨V0,[],s,Mem.sub.refl _,Own.nil (Mem.sub.refl _) _ _,X.M,rfl,X.G,by simpa using Gr.refl s,qAC.2 ⟨rfl,fun j f v h=>by simp at h⟩,rfl⟩ ?_
 rintro j sl V1 J hj ⟨W,acc,s1,hW,ho,M1,hacc,G1,g1,ha1,hseq⟩ hJ
 have heW:=(he.sub hW).sub M1.sub
 refine⟨fun hlt=>?_,fun hge=>?_⟩
 ·obtain⟨a,ham,ha,hdr,hjl,hp,hz,hrow⟩:=heW.rows.get hlt
  have hjp:j<pr'.params.length:=by rw[<- hc.len];exact hjl
  obtain⟨u,hu,hfit⟩:=hc.fit j a _ ha (List.getElem?_eq_getElem hjp)
  have hsum:((e.k.take (j+1)).map szE).sum=((e.k.take j).map szE).sum+szE a:=by grind
  have hall:((e.k.take (j+1)).map szE).sum<=(e.k.map szE).sum:=by
   have:=congrArg (fun l=>(l.map szE).sum) (List.take_append_drop (j+1) e.k)
   grind
  have X1:Cx W d p F c q pr vals n (szE a) V1 s1:=by
   have X':=X.le (k:=((e.k.take j).map szE).sum+szE a) (by omega)
   refine⟨X.S.sub hW,?_,X.po,G1,qAk (fun h=>g1.right h) X.hv,M1,g1.fu X.tk,by have:=g1.tk;have:=X.n;omega,X'.w.next g1⟩
   obtain⟨a',b',h1,h2,h3⟩:=X.fr.ex
   exact⟨a',b',hW _ _ h1,h2.sub hW,h3.sub hW⟩
  rw[hdr,List.map_cons]at hseq
  have hseq':seqX (e.k.map f) [] s=(f a s1).bind fun v st=>seqX ((e.k.drop (j+1)).map f) (acc++[v]) st:=hseq
  refine⟨hp,hz,hlt,_,_,_,_,hrow,?_⟩
  have H:=hE a ham u W V1 s1 hW X1 hu
  rw[<- hf]at H
  refine PX.split H (fun k s2 c' V2 e2 M2=>?_) fun v s2 V2 e2 M2=>fun tb htb=>?_
  ·rw[hG,hseq',e2]
   exact⟨rfl,c',M2.narrow hW⟩
  obtain⟨G2,g2,hv2⟩:=(snd ham hu G1 g1).got e2
  have hlen:acc.length<=2000:=by
   have hl:=lens_of_args X.S.procs hc.at_
   omega
  have ho2:Sx.Own V0 V2 3 1 sl (acc.flatMap qAe):=Own.moveB ho (hW.trans M2.sub) fun g cur _ hg=>M2.sub _ _ hg
  refine qFs (s:=sl) (u:=⟨some ⟨tb,0,none⟩,1,1⟩) (xs:=acc) (ys:=[v]) rfl rfl (ho2.but.new htb (.cells #[.int .i64 v] 3 (0,0))) (one_int mss) (by simp;omega) fun o3 V3 ho3=>⟨o3,rfl,heW.rows.succ hlt,?_⟩
  obtain⟨W',hW',M3,ho4⟩:=M2.beside hW ho ho3
  refine hJ hjl _ _ ⟨W',acc++[v],s2,hW',ho4,M3,by simp_all,G2,by rw[hsum];exact g1.trans g2,?_,by rw[hseq',e2];rfl⟩
  rw[List.take_add_one,List.getElem?_eq_getElem hjp]
  refine qEC (qAk (fun h=>g2.right h) ha1) (qAC.2 ⟨rfl,fun k f w hf hw=>?_⟩)
  cases k with
  | zero =>
   simp at hf hw;subst hf;subst hw
   exact(qBn X.S.valid (hkn _ (List.getElem_mem _))).1 (qCf X.S.valid hfit hv2)
  | succ k=>simp at hf
 ·have hdn:=(heW.rows.done hge).2
  rw[List.take_of_length_le hdn]at g1
  rw[List.take_of_length_le (by rw[<- hc.len];exact hdn)]at ha1
  rw[List.drop_eq_nil_of_le hdn]at hseq
  have hG1:G=qDW d (qFB d F n) c (i:Int) acc s1:=by rw[hG,hseq];rfl
  obtain⟨gs,ns,ls,nd,hat,L⟩:=M1.ex
  have hd:=(X.S.sub hW).ds.sub L.sub
  refine⟨nn,nn,pnn,d.ps,qAd hat 3 1 (by simp[qBG]),nn,nn,d.name,d.ts,d.gs,d.ps,d.ms,d.is,d.qs,d.bs,qAd hat 0 8 (by simp[qBG]),(c160 hd).call ⟨_,rfl,qAI hat 3 0 1 (by simp[qBG]),pnn,nn,nn,?_⟩⟩
  rw[hc.idx]
  have hn:=hd.procs.n_eq
  have hil:=(List.getElem?_eq_some_iff.1 hc.at_).1
  obtain⟨y,-,hy,-,-,hp,hz,hrow⟩:=hd.procs.get (i:=i) (by omega)
  rw[hc.at_]at hy;cases hy
  have X':=X.le (k:=(e.k.map szE).sum+0) (by omega)
  refine⟨hp,hz,by omega,_,_,_,_,_,hrow,PX.split (hR W V1 s1 c i pr' acc sl (X.S.sub hW) hc.at_ G1 ha1 (ho.rows (fun _=>rfl) (by decide)) M1 (g1.fu X.tk) (by have:=g1.tk;have:=X.n;omega) (X'.w.next g1)) (fun k s2 c' V2 e2 M2=>?_) fun v s2 V2 e2 M2=>?_⟩
  ·rw[hG1,e2];exact⟨rfl,c',M2.narrow hW⟩
  ·rw[hG1,e2];exact⟨rfl,M2.narrow hW⟩
end
end Go.Proofs
