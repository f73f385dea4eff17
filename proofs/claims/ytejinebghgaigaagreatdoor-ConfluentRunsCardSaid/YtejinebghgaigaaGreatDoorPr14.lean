/- Part 14: no statement of the seat is proved here. -/
import Derived.Test.YtejinebghgaigaaGreatDoorPr11
import Derived.Test.YtejinebghgaigaaGreatDoorPr13
set_option linter.unusedVariables false
set_option linter.unusedSimpArgs false
open Array renaming getElem?_eq_some_iff->z8,getD_eq_getD_getElem?->wT
open Go.RowKit.Below renaming heap_alloc->xN
open Go.Proofs.Tryz renaming prog->xE,f288->wO,f166->wP,f167->wQ,underlying286->xy,underlying9->xz,underlying354->wU,f228->wR,f73->wS
open List renaming zip_cons_cons->wH,lookup_cons->zd,getElem?_eq_some_iff->yw,take_of_length_le->wW,drop_eq_getElem_cons->wX,map_toArray->y8,map_cons->zG,mem_of_getElem?->xJ,replicate->yI,getElem?_eq_getElem->yv
open Go.Value renaming string->yp,map->zz,int->xe
open Go.Sem renaming run_bind->zK,run_pure->zM
open Go.Result renaming andThen_ok->zL
open Go.Code renaming wpIn->wG
open Nat renaming log2->wY,two_pow_pos->wZ,le_log2->wz,le_div_iff_mul_le->wy
open Go.IntKind renaming u64->wx,wrap->xF
open Go.Ending renaming returned->xG
namespace Go.Proofs
open Go Go.Sx
attribute [local irreducible] Go.Sx.Tri
theorem GenK.makeMap{P:Program}{V:Mem}{t:TypeId}{ty:Nat}{vals:Operand->Value}{q:Value->Mem->Prop}(u:∀b,V b=none->q (.map (some b)) (V.set b (.map #[] 0))):GenK P (.makeMap t none) ty vals V q:=by
 intro w hw;have z:V w.heap.size=none:=by
  cases y:V w.heap.size with
  |none=>rfl
  |some o=>have:=(z8.1 (hw _ o y)).1;omega
 refine⟨_,w.alloc (.map #[] 0),V.set w.heap.size (.map #[] 0),rfl,?_,u _ z⟩;refine⟨by simp,λb o h=>?_,λb h _=>xN _ _ _ h,λb h=>?_,rfl,rfl⟩
 ·by_cases e:b=w.heap.size;·grind[Mem.set_same,World.alloc_heap_new]
  ·rw[Mem.set_ne e]at h;have k:=(z8.1 (hw b o h)).1;exact(xN _ _ _ k).trans (hw b o h)
 grind[inr,Mem.set_ne]
theorem MV{α:Type}{V:Mem}{s:Sl}{sz:Nat}{row:α->List Value}{xs:List α}(h:Ad V s sz (xs.map row)):K.inR .i64 ((s.n:Int)-1):=by
 have:=h.cap;have:=h.fit;exact⟨by omega,by omega⟩
theorem it288{V:Mem}{fn':FuncId}{tmps:Array Value}{ps:Array Tmp}{assign body:Code}{D:Nat}{l:Nat}{bx:Nat}{s:Sl}{xs:List Fld}{J:Nat->Mem->Prop}(y:ps.size=2)
  (N:∀i V2,J i V2->V2 l=none->V2 bx=some (cell (.slice s.p s.n s.c) 28)/\Ad V2 s 2 (xs.map Fld.row))
  (z:∀k x,xs[k]?=some x->∀V2,J (xs.length-1-k) V2->V2 l=none->∀w,(V2.set l (.loop (BG fn' tmps ps assign body D))).le w->
   RoundIn (AM none) 0 xE l fn' ((ps.zip #[.int .i64 k,Fld.v x]).foldl (λt (p,v)=>t.setIfInBounds p v) tmps) assign body w λe w'=>
    e=.returned (.bool true)/\∃r,J (xs.length-k) r/\r l=none/\Ax (V2.set l (.loop (BG fn' tmps ps assign body D))) w (r.set l (.loop (BG fn' tmps ps assign body D))) w')
  (Z:J 0 V) (Y:V l=none):
  Tri xE 288 #[.func (.yield l) #[] #[],pv bx] (V.set l (.loop (BG fn' tmps ps assign body D))) λe V'=>(∃v,e=.returned v)/\∃V2,V'=V2.set l (.loop (BG fn' tmps ps assign body D))/\V2 l=none/\J xs.length V2:=by
 refine MU (c:=AN wO) (L:=kid ((Bi (AN wO) [1,0]).getD 0 .skip) 0) (B:=kid ((Bi (AN wO) [1,0,0,0]).getD 2 .skip) 0) (cA:=c288a) (cB:=c288b) (cE:=c288e) (ops:=c288c) (b0:=0) (b1:=1) (id:=3)
  (o6:=(c288c)[6]?.getD default) (at6:=#[3,112]) (el:=λk=>(xs[k]?.map Fld.v).getD undef) (Bk:=λM=>M bx=some (cell (.slice s.p s.n s.c) 28)/\Ad M s 2 (xs.map Fld.row))
  Tryz.func288 (by kernel_rfl) (by kernel_rfl) (by kernel_rfl) (by kernel_rfl) (by kernel_rfl) (by kernel_rfl) (by kernel_rfl) (by kernel_rfl) (by kernel_rfl) (by kernel_rfl) (by kernel_rfl) y ?_ ?_ ?_ ?_ ?_ ?_ ?_ Z Y
 ·rintro M ⟨h1,h2⟩;refine s288a (a:=.func (.yield l) #[] #[]) (b:=some ⟨bx,0,none⟩) ?_;unfold w288a;exact⟨s,AG h1,MV h2,_,rfl,rfl,by rw[h2.n_eq];rfl⟩
 ·intro M j;refine s288b (a:=.func (.yield l) #[] #[]) (b:=some ⟨bx,0,none⟩) ?_;unfold w288b;exact⟨_,rfl,rfl,rfl⟩
 ·rintro M k ⟨h1,h2⟩ E;refine s288c (a:=.func (.yield l) #[] #[]) (b:=some ⟨bx,0,none⟩) ?_;unfold w288c;obtain⟨x,hm,W,Q,O,o,A,h⟩:=h2.get (i:=k) (by rw[h2.n_eq];omega);exact⟨s,AG h1,o,A,by rw[h2.n_eq];omega,x.name,x.ty,h,_,rfl,rfl,by rw[W];rfl⟩
 ·intro M j b;refine s288d (a:=.func (.yield l) #[] #[]) (b:=some ⟨bx,0,none⟩) ?_;unfold w288d;exact⟨_,rfl,rfl,rfl⟩
 ·rintro M j ⟨h1,h2⟩ H I;have R:=h2.cap;have X:=h2.fit;have C:=h2.n_eq;refine s288e (a:=.func (.yield l) #[] #[]) (b:=some ⟨bx,0,none⟩) ?_;unfold w288e;exact⟨⟨by omega,by omega⟩,_,rfl,rfl,rfl⟩
 ·intro i V2 H u;obtain⟨h1,h2⟩:=N i V2 H u;have e:bx≠l:=λe=>by simp_all
  exact⟨by rw[Mem.set_ne e];exact h1,h2.sub (Mem.sub_new u _)⟩
 simp_all
theorem it166{V:Mem}{fn':FuncId}{tmps:Array Value}{ps:Array Tmp}{assign body:Code}{D:Nat}{l:Nat}{bx:Nat}{s:Sl}{xs:List Ty}{J:Nat->Mem->Prop}(y:ps.size=2)
  (N:∀i V2,J i V2->V2 l=none->V2 bx=some (cell (.slice s.p s.n s.c) 27)/\Ad V2 s 2 (xs.map Ty.row))
  (z:∀k x,xs[k]?=some x->∀V2,J (xs.length-1-k) V2->V2 l=none->∀w,(V2.set l (.loop (BG fn' tmps ps assign body D))).le w->
   RoundIn (AM none) 0 xE l fn' ((ps.zip #[.int .i64 k,Ty.v x]).foldl (λt (p,v)=>t.setIfInBounds p v) tmps) assign body w λe w'=>
    e=.returned (.bool true)/\∃r,J (xs.length-k) r/\r l=none/\Ax (V2.set l (.loop (BG fn' tmps ps assign body D))) w (r.set l (.loop (BG fn' tmps ps assign body D))) w')
  (Z:J 0 V) (Y:V l=none):
  Tri xE 166 #[.func (.yield l) #[] #[],pv bx] (V.set l (.loop (BG fn' tmps ps assign body D))) λe V'=>(∃v,e=.returned v)/\∃V2,V'=V2.set l (.loop (BG fn' tmps ps assign body D))/\V2 l=none/\J xs.length V2:=by
 refine MU (c:=AN wP) (L:=kid ((Bi (AN wP) [1,0]).getD 0 .skip) 0) (B:=kid ((Bi (AN wP) [1,0,0,0]).getD 2 .skip) 0) (cA:=c166a) (cB:=c166b) (cE:=c166e) (ops:=c166c) (b0:=0) (b1:=1) (id:=3)
  (o6:=(c166c)[6]?.getD default) (at6:=#[3,114]) (el:=λk=>(xs[k]?.map Ty.v).getD undef) (Bk:=λM=>M bx=some (cell (.slice s.p s.n s.c) 27)/\Ad M s 2 (xs.map Ty.row))
  Tryz.func166 (by kernel_rfl) (by kernel_rfl) (by kernel_rfl) (by kernel_rfl) (by kernel_rfl) (by kernel_rfl) (by kernel_rfl) (by kernel_rfl) (by kernel_rfl) (by kernel_rfl) (by kernel_rfl) y ?_ ?_ ?_ ?_ ?_ ?_ ?_ Z Y
 ·rintro M ⟨h1,h2⟩;refine s166a (a:=.func (.yield l) #[] #[]) (b:=some ⟨bx,0,none⟩) ?_;unfold w166a;exact⟨s,AG h1,MV h2,_,rfl,rfl,by rw[h2.n_eq];rfl⟩
 ·intro M j;refine s166b (a:=.func (.yield l) #[] #[]) (b:=some ⟨bx,0,none⟩) ?_;unfold w166b;exact⟨_,rfl,rfl,rfl⟩
 ·rintro M k ⟨h1,h2⟩ E;refine s166c (a:=.func (.yield l) #[] #[]) (b:=some ⟨bx,0,none⟩) ?_;unfold w166c;obtain⟨x,hm,W,Q,O,o,A,h⟩:=h2.get (i:=k) (by rw[h2.n_eq];omega);exact⟨s,AG h1,o,A,by rw[h2.n_eq];omega,x.name,x.fs,h,_,rfl,rfl,by rw[W];rfl⟩
 ·intro M j b;refine s166d (a:=.func (.yield l) #[] #[]) (b:=some ⟨bx,0,none⟩) ?_;unfold w166d;exact⟨_,rfl,rfl,rfl⟩
 ·rintro M j ⟨h1,h2⟩ H I;have R:=h2.cap;have X:=h2.fit;have C:=h2.n_eq;refine s166e (a:=.func (.yield l) #[] #[]) (b:=some ⟨bx,0,none⟩) ?_;unfold w166e;exact⟨⟨by omega,by omega⟩,_,rfl,rfl,rfl⟩
 ·intro i V2 H u;obtain⟨h1,h2⟩:=N i V2 H u;have e:bx≠l:=λe=>by simp_all
  exact⟨by rw[Mem.set_ne e];exact h1,h2.sub (Mem.sub_new u _)⟩
 simp_all
theorem it167{V:Mem}{fn':FuncId}{tmps:Array Value}{ps:Array Tmp}{assign body:Code}{D:Nat}{l:Nat}{bx:Nat}{s:Sl}{xs:List Pr}{J:Nat->Mem->Prop}(y:ps.size=2)
  (N:∀i V2,J i V2->V2 l=none->V2 bx=some (cell (.slice s.p s.n s.c) 29)/\Ad V2 s 5 (xs.map Pr.row))
  (z:∀k x,xs[k]?=some x->∀V2,J (xs.length-1-k) V2->V2 l=none->∀w,(V2.set l (.loop (BG fn' tmps ps assign body D))).le w->
   RoundIn (AM none) 0 xE l fn' ((ps.zip #[.int .i64 k,Pr.v x]).foldl (λt (p,v)=>t.setIfInBounds p v) tmps) assign body w λe w'=>
    e=.returned (.bool true)/\∃r,J (xs.length-k) r/\r l=none/\Ax (V2.set l (.loop (BG fn' tmps ps assign body D))) w (r.set l (.loop (BG fn' tmps ps assign body D))) w')
  (Z:J 0 V) (Y:V l=none):
  Tri xE 167 #[.func (.yield l) #[] #[],pv bx] (V.set l (.loop (BG fn' tmps ps assign body D))) λe V'=>(∃v,e=.returned v)/\∃V2,V'=V2.set l (.loop (BG fn' tmps ps assign body D))/\V2 l=none/\J xs.length V2:=by
 refine MU (c:=AN wQ) (L:=kid ((Bi (AN wQ) [1,0]).getD 0 .skip) 0) (B:=kid ((Bi (AN wQ) [1,0,0,0]).getD 2 .skip) 0) (cA:=c167a) (cB:=c167b) (cE:=c167e) (ops:=c167c) (b0:=0) (b1:=1) (id:=3)
  (o6:=(c167c)[6]?.getD default) (at6:=#[3,76]) (el:=λk=>(xs[k]?.map Pr.v).getD undef) (Bk:=λM=>M bx=some (cell (.slice s.p s.n s.c) 29)/\Ad M s 5 (xs.map Pr.row))
  Tryz.func167 (by kernel_rfl) (by kernel_rfl) (by kernel_rfl) (by kernel_rfl) (by kernel_rfl) (by kernel_rfl) (by kernel_rfl) (by kernel_rfl) (by kernel_rfl) (by kernel_rfl) (by kernel_rfl) y ?_ ?_ ?_ ?_ ?_ ?_ ?_ Z Y
 ·rintro M ⟨h1,h2⟩;refine s167a (a:=.func (.yield l) #[] #[]) (b:=some ⟨bx,0,none⟩) ?_;unfold w167a;exact⟨s,AG h1,MV h2,_,rfl,rfl,by rw[h2.n_eq];rfl⟩
 ·intro M j;refine s167b (a:=.func (.yield l) #[] #[]) (b:=some ⟨bx,0,none⟩) ?_;unfold w167b;exact⟨_,rfl,rfl,rfl⟩
 ·rintro M k ⟨h1,h2⟩ E;refine s167c (a:=.func (.yield l) #[] #[]) (b:=some ⟨bx,0,none⟩) ?_;unfold w167c;obtain⟨x,hm,W,Q,O,o,A,h⟩:=h2.get (i:=k) (by rw[h2.n_eq];omega);exact⟨s,AG h1,o,A,by rw[h2.n_eq];omega,x.name,x.ps,x.result,x.ls,x.bs,h,_,rfl,rfl,by rw[W];rfl⟩
 ·intro M j b;refine s167d (a:=.func (.yield l) #[] #[]) (b:=some ⟨bx,0,none⟩) ?_;unfold w167d;exact⟨_,rfl,rfl,rfl⟩
 ·rintro M j ⟨h1,h2⟩ H I;have R:=h2.cap;have X:=h2.fit;have C:=h2.n_eq;refine s167e (a:=.func (.yield l) #[] #[]) (b:=some ⟨bx,0,none⟩) ?_;unfold w167e;exact⟨⟨by omega,by omega⟩,_,rfl,rfl,rfl⟩
 ·intro i V2 H u;obtain⟨h1,h2⟩:=N i V2 H u;have e:bx≠l:=λe=>by simp_all
  exact⟨by rw[Mem.set_ne e];exact h1,h2.sub (Mem.sub_new u _)⟩
 simp_all
theorem c259{V:Mem}{s:Sl}:Tri xE 259 #[.slice s.p s.n s.c] V λe V'=>∃b,V b=none/\e=.returned (.func (.func 288) #[] #[pv b])/\V'=V.set b (cell (.slice s.p s.n s.c) 28):=by
 refine x259 ?_;exact λb h=>⟨b,h,rfl,rfl⟩
theorem c115{V:Mem}{s:Sl}:Tri xE 115 #[.slice s.p s.n s.c] V λe V'=>∃b,V b=none/\e=.returned (.func (.func 166) #[] #[pv b])/\V'=V.set b (cell (.slice s.p s.n s.c) 27):=by
 refine x115 ?_;exact λb h=>⟨b,h,rfl,rfl⟩
theorem c116{V:Mem}{s:Sl}:Tri xE 116 #[.slice s.p s.n s.c] V λe V'=>∃b,V b=none/\e=.returned (.func (.func 167) #[] #[pv b])/\V'=V.set b (cell (.slice s.p s.n s.c) 29):=by
 refine x116 ?_;exact λb h=>⟨b,h,rfl,rfl⟩
theorem K5{args:List Value}{N:Nat}(h:args.length<=N):Has N {tmps:=args.toArray++Array.replicate (N-args.toArray.size) undef,defers:=[]} ((List.range args.length).zip args):=by
 refine⟨by simp;omega,λs v t=>?_⟩;rw[List.range_eq_range']at t;have key:∀(l:List Value)(k:Nat),((List.range' k l.length).zip l).lookup s=some v->k<=s/\l[s-k]?=some v:=by
  intro l;induction l with
  |nil=>simp_all
  |cons x xs z=>
   intro k h;simp only[List.length_cons,List.range'_succ,wH,zd]at h;grind
 obtain⟨-,h1⟩:=key args 0 t;have u:=(yw.1 h1).1;simp_all[Nat.sub_zero,wT,Array.getElem?_append_left]
theorem K6{tmps:Array Value}{p q:Nat}{u v:Value}:((#[p,q].zip #[u,v]).foldl (λt (p,v)=>t.setIfInBounds p v) tmps)=(tmps.setIfInBounds p u).setIfInBounds q v:=by
 simp
theorem K7{tmps:Array Value}{p s:Nat}{u:Value}(h:s≠p):(tmps.setIfInBounds p u).getD s undef=tmps.getD s undef:=by
 simp[wT,Array.getElem?_setIfInBounds_ne (Ne.symm h)]
theorem getD_same{tmps:Array Value}{p:Nat}{u:Value}(h:p<tmps.size):(tmps.setIfInBounds p u).getD p undef=u:=by
 simp_all
theorem MX(f:Fld)(l:List Fld)(k:KB):Cr (f::l) k=if k=f.name then some f.ty else Cr l k:=by
 grind[Cr]
theorem varOf_app(a b:List Fld)(k:KB):Cr (a++b) k=(Cr a k).or (Cr b k):=by
 grind[Cr]
theorem varOf_any(a:List Fld)(k:KB):(Cr a k).isSome=a.any λf=>decide (f.name=k):=by
 grind[Cr]
theorem seen_old{a g:List Fld}{f:Fld}(h:(a.any λx=>decide (x.name=f.name))=true)(k:KB):Cr (a++[f]++g) k=Cr (a++g) k:=by
 simp only[varOf_app,MX];rw[<-varOf_any]at h;by_cases e:k=f.name
 ·subst e;rw[if_pos rfl];cases hv:Cr a f.name with
  |none=>simp_all
  |some x=>rfl
 grind[Cr]
theorem seen_new{a g:List Fld}{f:Fld}(h:¬(a.any λx=>decide (x.name=f.name))=true)(k:KB):Cr (a++[f]++g) k=if k=f.name then some f.ty else Cr (a++g) k:=by
 simp only[varOf_app,MX];rw[<-varOf_any]at h;by_cases e:k=f.name;·simp_all
 grind[Cr]
structure SI (V:Mem)(c:Option Addr)(body:Bool)(d:Ds)(mb bx b6 b7:Nat)(m:KB->Option Value)(V1:Mem):Prop where
 sub:V.sub V1
 nm:V mb=none
 n6:V b6=none
 map:By V1 mb m
 bx:V1 bx=some (cell (.slice d.gs.p d.gs.n d.gs.c) 28)
 b6:V1 b6=some (.cells #[.pointer none,.map none,.bool false] 288 (0,0))
 b7:V1 b7=some (.cells #[.pointer c,.map (some mb),.bool body] 288 (0,0))
section
variable{V V1:Mem}{c:Option Addr}{body:Bool}{d:Ds}{mb bx b6 b7:Nat}{m m':KB->Option Value}
theorem SI.fresh(h:SI V c body d mb bx b6 b7 m V1){b:Nat}(t:V1 b=none)(o:Obj):SI V c body d mb bx b6 b7 m (V1.set b o):=
 have k:=Mem.sub_new t o
 ⟨h.sub.trans k,h.nm,h.n6,h.map.sub k,k _ _ h.bx,k _ _ h.b6,k _ _ h.b7⟩
theorem SI.up(h:SI V c body d mb bx b6 b7 m V1){o:Obj}(k:By (V1.set mb o) mb m'):SI V c body d mb bx b6 b7 m' (V1.set mb o):=by
 obtain⟨es,cl,hm,-,-⟩:=h.map.at_;have t:bx≠mb:=λe=>by have:=h.bx;simp_all
 have u:b6≠mb:=λe=>by have:=h.b6;simp_all
 have z:b7≠mb:=λe=>by have:=h.b7;simp_all
 exact⟨h.sub.set h.nm o,h.nm,h.n6,k,by rw[Mem.set_ne t];exact h.bx,by rw[Mem.set_ne u];exact h.b6,by rw[Mem.set_ne z];exact h.b7⟩
theorem SI.cg(h:SI V c body d mb bx b6 b7 m V1)(e:∀k,m k=m' k):SI V c body d mb bx b6 b7 m' V1:=⟨h.sub,h.nm,h.n6,h.map.congr e,h.bx,h.b6,h.b7⟩
end
section
variable{V V1:Mem}{c:Option Addr}{body:Bool}{d:Ds}{mb bx b6 b7:Nat}{m m':KB->Option Value}
theorem scopeRound{l:Sl}(h:SI V c body d mb bx b6 b7 m V1)(x:Fld)(V2:Mem)(b:Nat)(t:V1 b=none)(u:V2=V1.set b (.cells x.row.toArray 112 (0,0))):
  Bb xE 63 c228c [(7,pv b7),(9,pv b)] [] V2 λ_ z=>SI V c body d mb bx b6 b7 (λk=>if k=x.name then some (.string x.ty)else m k) z:=by
 subst u;have h2:=h.fresh t (.cells x.row.toArray 112 (0,0));refine s228c ?_;unfold w228c;refine⟨by simp,some mb,An h2.b7 1 1 (by simp),by simp,x.name,An Az 0 1 (by simp[Fld.row]),by simp,x.ty,An Az 1 1 (by simp[Fld.row]),?_⟩;exact C3.str xy xz h2.map λo y=>⟨_,rfl,h2.up y⟩
theorem scopeAssign(x:Fld):Bb xE 63 c228b [(7,pv b7),(26,Fld.v x)] [7,9] V1 λvs V2=>∃b,V1 b=none/\V2=V1.set b (.cells x.row.toArray 112 (0,0))/\vs=[pv b7,pv b]:=by
 refine s228b (b:=x.name) (c:=x.ty) ?_;unfold w228b;exact λb h=>⟨_,rfl,b,h,rfl,rfl⟩
theorem zero4(w:World):(zeroValue 4).run xE w=.ok (.bool false) w:=by kernel_rfl
theorem scopeTail{l:Sl}{ls:List (Sl×List Fld)}(h:SI V c body d mb bx b6 b7 (λk=>(Cr d.globals k).map yp) V1)(hl:Ad V l 1 (ls.map λx=>[x.1.v]))(K:∀x∈ls,Ad V x.1 2 (x.2.map Fld.row)):
  Bb xE 63 c228d [(0,.pointer c),(1,.bool body),(2,.slice l.p l.n l.c),(6,pv b6),(7,pv b7)] [6] V1 λvs V2=>vs=[pv b6]/\
   V.sub V2/\V mb=none/\By V2 mb (λk=>(Cr (ls.flatMap (·.2)++d.globals) k).map yp)/\V2 b6=some (.cells #[.pointer c,.map (some mb),.bool body] 288 (0,0)):=by
 refine s228d ?_;unfold w228d;refine GenK.makeMap λH T=>⟨some H,rfl,?_⟩;have U:V H=none:=by
  cases hc:V H with
  |none=>rfl
  |some o=>have:=h.sub _ _ hc;simp_all
 have A:mb≠H:=λe=>by
  obtain⟨es,cl,hm,-,-⟩:=h.map.at_;simp_all
 let TI (done:List Fld) (V2:Mem):Prop:=SI V c body d mb bx b6 b7 (λk=>(Cr (done++d.globals) k).map yp) V2/\By V2 H (λk=>if(done.any λf=>decide (f.name=k))=true then some (.bool true)else none);have h0:TI [] (V1.set H (.map #[] 0)):=⟨h.fresh T _,(By.made V1 H).congr λk=>by simp⟩;refine Fz ls.length (λi V2=>TI ((ls.take i).flatMap (·.2)) V2) (by simpa using h0) ?_;intro i V2 J hi z hJ;have W:=hl.sub z.1.sub;refine⟨λr=>?_,λr=>?_⟩
 ·obtain⟨x,hm,hx,hdr,I,hnn,hz,L⟩:=W.get r;refine⟨hnn,hz,r,x.1,L,?_⟩;have htk:(ls.take (i+1)).flatMap (·.2)=(ls.take i).flatMap (·.2)++x.2:=by
   grind
  refine Fz x.2.length (λj V3=>TI ((ls.take i).flatMap (·.2)++x.2.take j) V3) (by simpa using z) ?_;intro j V3 J' hj t R;have N:=(K x hm).sub t.1.sub;refine⟨λu=>?_,λu=>?_⟩
  ·obtain⟨f,hmf,hf,hdrf,Y,X,hzf,Q⟩:=N.get u;have O:(ls.take i).flatMap (·.2)++x.2.take (j+1)=((ls.take i).flatMap (·.2)++x.2.take j)++[f]:=by
    grind
   refine⟨X,hzf,u,f.name,f.ty,Q,?_⟩;refine BJ.str1 wU xz zero4 t.2 ?_;generalize hdone:(ls.take i).flatMap (·.2)++x.2.take j=done at t O;refine⟨done.any λy=>decide (y.name=f.name),?_,λhs=>?_,λhs=>?_⟩;·grind
   ·refine⟨N.succ u,R Y _ ?_⟩;rw[O];refine⟨t.1.cg λk=>by rw[seen_old hs],t.2.congr λk=>?_⟩;grind
   ·refine⟨by simp,some mb,An t.1.b7 1 1 (by simp),?_⟩;refine C3.str xy xz t.1.map λo ho=>?_;have hsi:=t.1.up ho;refine C3.str wU xz (t.2.set (o:=o) (Ne.symm A)) λo2 ho2=>?_;refine⟨N.succ u,R Y _ ?_⟩;rw[O];have B:b6≠H:=λe=>by have:=h.b6;simp_all
    have C:b7≠H:=λe=>by have:=h.b7;simp_all
    have D:bx≠H:=λe=>by have:=h.bx;simp_all
    refine⟨?_,ho2.congr λk=>?_⟩
    ·have h3:=hsi.cg (m':=λk=>(Cr (done++[f]++d.globals) k).map yp) λk=>by
      rw[seen_new hs];grind
     exact⟨h3.sub.set U _,h3.nm,h3.n6,h3.map.set A,by rw[Mem.set_ne D];exact h3.bx,by rw[Mem.set_ne B];exact h3.b6,by rw[Mem.set_ne C];exact h3.b7⟩
    grind
  ·obtain⟨hd,E⟩:=N.done u;refine⟨W.succ r,hJ I _ ?_⟩;simp_all[wW]
 ·obtain⟨hd,E⟩:=W.done r;rw[wW E]at z;have Z:=An z.1.b7 0 3 (by simp);refine⟨c,some mb,body,Z,⟨⟨b6,0,none⟩,_,_,rfl,z.1.b6,rfl,by simp,?_⟩⟩;have e7:mb≠b6:=λe=>by
   obtain⟨es,cl,hm,-,-⟩:=z.1.map.at_;have:=z.1.b6;simp_all
  exact⟨_,rfl,rfl,z.1.sub.set h.n6 _,h.nm,z.1.map.set e7,by rw[Mem.set_same];rfl⟩
end
theorem cell3{b:Nat}{c:Option Addr}{mb:Option Nat}{body:Bool}{w:World}(h:w.heap[b]?=some (.cells #[.pointer c,.map mb,.bool body] 288 (0,0))):(loadVar 288 ⟨b,0,none⟩).run xE w=.ok (.agg #[.pointer c,.map mb,.bool body]) w:=
 Jv (P:=xE) (t:=288) (cs:=.cons (.var .p 0) (.cons (.var .m 1) (.cons (.var .b 2) .nil))) (x:=.agg (.cons (.var .p 0) (.cons (.var .m 1) (.cons (.var .b 2) .nil)))) (ρ:=[.pointer c,.map mb,.bool body]) (β:=id) (o:=0) h (by kernel_rfl)
theorem results113{tmps:Array Value}{b:Nat}{c:Option Addr}{mb:Option Nat}{body:Bool}{w:World}(k:tmps.getD 6 undef=pv b)(h:w.heap[b]?=some (.cells #[.pointer c,.map mb,.bool body] 288 (0,0))):
  (results wR tmps).run xE w=.ok (.agg #[.pointer c,.map mb,.bool body]) w:=by
 have t:wR.results=#[.cell 6 288]:=by kernel_rfl
 unfold results;rw[t];have e:asAddr (tmps.getD 6 undef)=pure ⟨b,0,none⟩:=by rw[k];rfl
 simp only[List.mapM_toArray,List.mapM_cons,List.mapM_nil,zK,Sem.run_map,zM,zL,e,cell3 h];rfl
theorem MY{V V1 V2 k:Mem}{w t u z:World}{D:Nat}(h1:Ax V w V1 t)(h2:Ax V1 t V2 u)(j:t.heap.size<=D)(i:V2 D=none)(x:u.heap[D]?=some (.deferred (some [])))(h3:Ax V2 u k z):
  Ax V w k z/\w.heap.size<=D/\z.heap[D]?=some (.deferred (some []))/\k D=none:=by
 have y:=(z8.1 x).1;refine⟨(h1.trans h2).trans h3,Nat.le_trans h1.size j,(h3.old D y i).trans x,?_⟩;cases l:k D with
 |none=>rfl
 |some o=>
  rcases h3.dom D (by rw[l];simp)with h|h
  ·grind
  ·omega
theorem scopeC:Hs:=by
 intro V c d body l ls H hl A;refine Oz (c:=AN wR) Tryz.func228 (by kernel_rfl) ?_;intro w hV;rw[show flat (AN wR)=c228a++([.block 0 (.rangeFunc (.tmp 24) #[25,26] ((Bi (AN wR) [3,0,0,0]).getD 0 .skip) ((Bi (AN wR) [3,0,0,1]).getD 0 .skip))]++(c228d++[.ret]))from by kernel_rfl];have hA:Bb xE 63 c228a [(0,.pointer c),(1,.bool body),(2,.slice l.p l.n l.c)] [0,1,2,6,7,24] V λvs V1=>∃mb bx b6 b7,
   vs=[.pointer c,.bool body,.slice l.p l.n l.c,pv b6,pv b7,.func (.func 288) #[] #[pv bx]]/\SI V c body d mb bx b6 b7 (λ_=>none) V1:=by
  refine s228a ?_;unfold w228a;refine GenK.makeMap λmb j=>⟨some mb,rfl,H.nn,H.nn,?_,d.gs,?_,?_⟩
  ·obtain⟨cb,mt,mp,t,h1,h2,h3,h4⟩:=H.at_;rw[h1];simp[Aa]
  ·exact(H.sub (Mem.sub_new j _)).cell (i:=2) rfl
  refine Tri.mono c259 ?_;rintro _ V2 ⟨bx,I,rfl,rfl⟩;refine⟨.func (.func 288) #[] #[pv bx],rfl,rfl,λb6 L b7 R=>⟨_,rfl,mb,bx,b6,b7,rfl,?_⟩⟩;have n1:bx≠mb:=λe=>by grind[Mem.set_same]
  have n2:b6≠bx:=λe=>by grind[Mem.set_same]
  have n3:b7≠b6:=λe=>by grind[Mem.set_same]
  have s1:=Mem.sub_new j (.map #[] 0);have X:=Mem.sub_new I (cell (.slice d.gs.p d.gs.n d.gs.c) 28);have B:=Mem.sub_new L (.cells #[.pointer none,.map none,.bool false] 288 (0,0));have Q:=Mem.sub_new R (.cells #[.pointer c,.map (some mb),.bool body] 288 (0,0));refine⟨s1.trans (X.trans (B.trans Q)),j,?_,(By.made V mb).sub (X.trans (B.trans Q)),(B.trans Q) _ _ Az,Q _ _ Az,Mem.set_same _ _ _⟩;cases hv:V b6 with
  |none=>rfl
  |some o=>have:=(s1.trans X) _ _ hv;simp_all
 refine hA.step hV (K5 (args:=[.pointer c,.bool body,.slice l.p l.n l.c]) (N:=63) (by simp)) ?_;rintro a1 w1 vs V1 hd1 u ⟨mb,bx,b6,b7,rfl,C⟩ Z;show wG (AM none) 0 xE _ _ a1 w1;refine wpIn_block ?_;have E:=λfn K D r=>it288 (V:=V1) (fn':=fn) (tmps:=a1.tmps) (ps:=#[25,26]) (assign:=(Bi (AN wR) [3,0,0,0]).getD 0 .skip) (body:=(Bi (AN wR) [3,0,0,1]).getD 0 .skip) (D:=D) (l:=K) (bx:=bx) (s:=d.gs) (xs:=d.globals)
  (J:=λi V2=>SI V c body d mb bx b6 b7 (λk=>(Cr (d.globals.drop (d.globals.length-i)) k).map yp) V2) rfl (λi V2 O _=>⟨O.bx,H.ok.globals.sub O.sub⟩) (λk x hx V2 O T w2 U=>by
   have hk:=(yw.1 hx).1;refine MT (N:=63) (insA:=[(7,pv b7),(26,Fld.v x)]) (outsA:=[7,9]) T U (by rw[K6];simpa using u.1) ?_ (scopeAssign x) (λvs V3 hvs=>?_)
   ·intro s v z;rw[K6];simp only[zd]at z;split at z
    ·rename_i e;simp only[beq_iff_eq]at e;subst e;cases z;rw[K7 (by decide),K7 (by decide)];exact u.get rfl
    ·split at z
     ·rename_i e;simp only[beq_iff_eq]at e;subst e;cases z;exact getD_same (by simp[u.1])
     ·cases z
   ·obtain⟨b,hb,e2,rfl⟩:=hvs;refine(scopeRound (l:=l) O x V3 b hb e2).mono λ_ V4 h4=>h4.cg λy=>?_;rw[show d.globals.length-(d.globals.length-1-k)=k+1 by omega,show d.globals.length-(d.globals.length-k)=k by omega];have e3:d.globals.drop k=x::d.globals.drop (k+1):=by
     grind[wX,yw]
    rw[e3,MX];grind)
  (by simpa [Cr]using C) r
 refine MS (Φ:=λV2=>SI V c body d mb bx b6 b7 (λk=>(Cr d.globals k).map yp) V2) Z.le (u.get (s:=24) rfl) Tryz.call288 (λfn K D r=>Tri.mono (E fn K D r) λe V' h=>?_) ?_;·simp_all
 ·intro D V2 W hD Y hn2 hW hS2;show C7 none 0 xE _ (c228d++[.ret]) _ W;refine(scopeTail hS2 hl A).step Y.le ⟨u.1,λs v z=>u.2 s v ?_⟩ ?_
  ·simp only[wH,zd]at z⊢
   repeat' (split at z<;>first|exact z|skip)
   simp_all
  ·rintro a3 w3 vs V3 hd3 hH3 ⟨rfl,h1,h2,h3,h4⟩ hF3;show wG (AM none) 0 xE .ret _ a3 w3;refine wpIn_ret ?_;obtain⟨g1,g2,g3,g4⟩:=MY Z Y hD hn2 hW hF3;refine⟨.inr rfl,[D],?_,by simp,V3,g1,λD' hD'=>?_,_,λw4 hw4=>results113 (hH3.get rfl) (hw4 _ _ h4),mb,rfl,h1,h2,h3⟩;·simp_all
   simp_all
structure NI (V:Mem)(d:Ds)(cb mt mp p1 p3:Nat)(f g:KB->Option Value)(V1:Mem):Prop where
 sub:V.sub V1
 nt:V mt=none
 np:V mp=none
 ne:mt≠mp
 ck:V1 cb=some (.cells (d.row++[zz (some mt),zz (some mp)]).toArray 218 (0,0))
 b1:V1 p1=some (.cells d.row.toArray 35 (0,0))
 b3:V1 p3=some (cell (pv cb) 158)
 mapT:By V1 mt f
 mapP:By V1 mp g
section
variable{V V1:Mem}{d:Ds}{cb mt mp p1 p3:Nat}{f g f' g':KB->Option Value}
theorem NI.fresh(h:NI V d cb mt mp p1 p3 f g V1){b:Nat}(t:V1 b=none)(o:Obj):NI V d cb mt mp p1 p3 f g (V1.set b o):=
 have k:=Mem.sub_new t o
 ⟨h.sub.trans k,h.nt,h.np,h.ne,k _ _ h.ck,k _ _ h.b1,k _ _ h.b3,h.mapT.sub k,h.mapP.sub k⟩
theorem Hw{V:Mem}{b m:Nat}{c:Array Value}{t:Nat}{fr:Nat×Nat}{f:KB->Option Value}(h:V b=some (.cells c t fr))(hm:By V m f):b≠m:=λe=>by
 obtain⟨es,cl,hm,-,-⟩:=hm.at_;simp_all
theorem NI.upT(h:NI V d cb mt mp p1 p3 f g V1){o:Obj}(k:By (V1.set mt o) mt f'):NI V d cb mt mp p1 p3 f' g (V1.set mt o):=
 ⟨h.sub.set h.nt o,h.nt,h.np,h.ne,by rw[Mem.set_ne (Hw h.ck h.mapT)];exact h.ck,by rw[Mem.set_ne (Hw h.b1 h.mapT)];exact h.b1,by rw[Mem.set_ne (Hw h.b3 h.mapT)];exact h.b3,k,h.mapP.set (Ne.symm h.ne)⟩
theorem NI.upP(h:NI V d cb mt mp p1 p3 f g V1){o:Obj}(k:By (V1.set mp o) mp g'):NI V d cb mt mp p1 p3 f g' (V1.set mp o):=
 ⟨h.sub.set h.np o,h.nt,h.np,h.ne,by rw[Mem.set_ne (Hw h.ck h.mapP)];exact h.ck,by rw[Mem.set_ne (Hw h.b1 h.mapP)];exact h.b1,by rw[Mem.set_ne (Hw h.b3 h.mapP)];exact h.b3,h.mapT.set h.ne,k⟩
theorem NI.cg(h:NI V d cb mt mp p1 p3 f g V1)(t:∀k,f k=f' k)(u:∀k,g k=g' k):NI V d cb mt mp p1 p3 f' g' V1:=⟨h.sub,h.nt,h.np,h.ne,h.ck,h.b1,h.b3,h.mapT.congr t,h.mapP.congr u⟩
theorem newRoundT(h:NI V d cb mt mp p1 p3 f g V1){bx:Nat}{v:Value}{ty:Nat}(u:V1 bx=some (cell v ty))(x:Ty)(V2:Mem)(b:Nat)(z:V1 b=none)(j:V2=V1.set b (.cells x.row.toArray 114 (0,0))):
  Bb xE 38 c73c [(3,pv p3),(5,pv b)] [] V2 λ_ y=>NI V d cb mt mp p1 p3 (λk=>if k=x.name then some x.v else f k) g y/\y bx=some (cell v ty):=by
 subst j;have h2:=h.fresh z (.cells x.row.toArray 114 (0,0));have t:=Mem.sub_new z (.cells x.row.toArray 114 (0,0)) _ _ u;refine s73c ?_;unfold w73c;refine⟨_,AG h2.b3,by simp,by simp,some mt,An h2.ck 8 1 (by simp[Ds.row]),by simp,x.name,An Az 0 1 (by simp[Ty.row]),x.name,x.fs,An Az 0 2 (by simp[Ty.row]),?_⟩;exact C3.str Tryz.underlying215 xz h2.mapT λo i=>⟨_,rfl,h2.upT i,by rw[Mem.set_ne (Hw t h2.mapT)];exact t⟩
theorem newRoundP(h:NI V d cb mt mp p1 p3 f g V1){bx:Nat}{v:Value}{ty:Nat}(u:V1 bx=some (cell v ty))(x:Pr)(V2:Mem)(b:Nat)(z:V1 b=none)(j:V2=V1.set b (.cells x.row.toArray 76 (0,0))):
  Bb xE 38 c73f [(3,pv p3),(7,pv b)] [] V2 λ_ y=>NI V d cb mt mp p1 p3 f (λk=>if k=x.name then some x.v else g k) y/\y bx=some (cell v ty):=by
 subst j;have h2:=h.fresh z (.cells x.row.toArray 76 (0,0));have t:=Mem.sub_new z (.cells x.row.toArray 76 (0,0)) _ _ u;refine s73f ?_;unfold w73f;refine⟨_,AG h2.b3,by simp,by simp,some mp,An h2.ck 9 1 (by simp[Ds.row]),by simp,x.name,An Az 0 1 (by simp[Pr.row]),x.name,x.ps,x.result,x.ls,x.bs,An Az 0 5 (by simp[Pr.row]),?_⟩;exact C3.str Tryz.underlying216 xz h2.mapP λo i=>⟨_,rfl,h2.upP i,by rw[Mem.set_ne (Hw t h2.mapP)];exact t⟩
theorem newAssignT(x:Ty):Bb xE 38 c73b [(3,pv p3),(17,Ty.v x)] [3,5] V1 λvs V2=>∃b,V1 b=none/\V2=V1.set b (.cells x.row.toArray 114 (0,0))/\vs=[pv p3,pv b]:=by
 refine s73b (b:=x.name) (c:=x.fs) ?_;unfold w73b;exact λb h=>⟨_,rfl,b,h,rfl,rfl⟩
theorem newAssignP(x:Pr):Bb xE 38 c73e [(3,pv p3),(29,Pr.v x)] [3,7] V1 λvs V2=>∃b,V1 b=none/\V2=V1.set b (.cells x.row.toArray 76 (0,0))/\vs=[pv p3,pv b]:=by
 refine s73e (b:=x.name) (c:=x.ps) (d:=x.result) (g:=x.ls) (i:=x.bs) ?_;unfold w73e;exact λb h=>⟨_,rfl,b,h,rfl,rfl⟩
end
theorem K8{N:Nat}{a:Act}{p q r:Nat}{l:List (Nat×Value)}{x u z:Value}(k:Has N a l)(j:l.lookup r=some x)(i:r≠p)(o:r≠q)(y:q<N):Has N {tmps:=(#[p,q].zip #[u,z]).foldl (λt (p,v)=>t.setIfInBounds p v) a.tmps,defers:=[]} [(r,x),(q,z)]:=by
 refine⟨by rw[K6];simpa using k.1,λs v h=>?_⟩;rw[K6];simp only[zd]at h;split at h
 ·rename_i e;simp only[beq_iff_eq]at e;subst e;cases h;rw[K7 o,K7 i];exact k.get j
 ·split at h
  ·rename_i e;simp only[beq_iff_eq]at e;subst e;cases h;exact getD_same (by simp[k.1,y])
  ·cases h
theorem mark_keep{V V1:Mem}{w t:World}{D:Nat}(h:Ax V w V1 t)(z:V D=none)(u:w.heap[D]?=some (.deferred (some []))):t.heap[D]?=some (.deferred (some []))/\V1 D=none:=by
 have k:=(z8.1 u).1;refine⟨(h.old D k z).trans u,?_⟩;cases y:V1 D with
 |none=>rfl
 |some o=>
  rcases h.dom D (by rw[y];simp)with h|h
  ·grind
  ·omega
theorem find_drop{α:Type}{l:List α}{nm:α->KB}{vv:α->Value}{k:Nat}{x:α}(h:l[k]?=some x)(y:KB):
  (if y=nm x then some (vv x)else((l.drop (l.length-(l.length-1-k))).find? λt=>decide (nm t=y)).map vv)=((l.drop (l.length-(l.length-k))).find? λt=>decide (nm t=y)).map vv:=by
 have u:=(yw.1 h).1;rw[show l.length-(l.length-1-k)=k+1 by omega,show l.length-(l.length-k)=k by omega];have z:l.drop k=x::l.drop (k+1):=by
  grind[wX,yw]
 grind
theorem newC:NewC:=by
 intro V d hd;refine Oz (c:=AN wS) Tryz.func73 (by kernel_rfl) ?_;intro w hV;rw[show flat (AN wS)=c73a++([.block 0 (.rangeFunc (.tmp 15) #[16,17] ((Bi (AN wS) [3,0,0,0]).getD 0 .skip) ((Bi (AN wS) [3,0,0,1]).getD 0 .skip))]++
  (c73d++([.block 2 (.rangeFunc (.tmp 27) #[28,29] ((Bi (AN wS) [5,0,0,0]).getD 0 .skip) ((Bi (AN wS) [5,0,0,1]).getD 0 .skip))]++(c73g++[.ret]))))from by kernel_rfl]
 have hA:Bb xE 38 c73a [(0,d.v)] [1,3,15] V λvs V1=>∃cb mt mp p1 p3 bx,
   vs=[pv p1,pv p3,.func (.func 166) #[] #[pv bx]]/\NI V d cb mt mp p1 p3 (λ_=>none) (λ_=>none) V1/\V1 bx=some (cell (.slice d.ts.p d.ts.n d.ts.c) 27):=by
  refine s73a (a:=d.name) (b:=d.ts) (c:=d.gs) (d:=d.ps) (g:=d.ms) (i:=d.is) (j:=d.qs) (k:=d.bs) ?_;unfold w73a;refine GenK.makeMap λmt K=>⟨some mt,rfl,GenK.makeMap λmp hmp=>⟨some mp,rfl,?_⟩⟩;refine Tri.mono c115 ?_;rintro _ V2 ⟨bx,I,rfl,rfl⟩;refine⟨.func (.func 166) #[] #[pv bx],rfl,rfl,λp1 hp1 cb hcb p3 hp3=>⟨_,rfl,cb,mt,mp,p1,p3,bx,rfl,?_,?_⟩⟩;all_goals
   have s1:=Mem.sub_new K (.map #[] 0);have s2:=Mem.sub_new hmp (.map #[] 0);have s3:=Mem.sub_new I (cell (.slice d.ts.p d.ts.n d.ts.c) 27);have s4:=Mem.sub_new hp1 (.cells d.row.toArray 35 (0,0));have T:=Mem.sub_new hcb (.cells (d.row++[zz (some mt),zz (some mp)]).toArray 218 (0,0));have E:=Mem.sub_new hp3 (cell (pv cb) 158)
  ·have nmp:mt≠mp:=λe=>by grind[Mem.set_same]
   refine⟨s1.trans (s2.trans (s3.trans (s4.trans (T.trans E)))),K,?_,nmp,E _ _ Az,(T.trans E) _ _ Az,Mem.set_same _ _ _,(By.made V mt).sub (s2.trans (s3.trans (s4.trans (T.trans E)))),(By.made (V.set mt (.map #[] 0)) mp).sub (s3.trans (s4.trans (T.trans E)))⟩;cases hv:V mp with
   |none=>rfl
   |some o=>have:=s1 _ _ hv;simp_all
  ·exact(s4.trans (T.trans E)) _ _ Az
 refine hA.step hV (K5 (args:=[d.v]) (N:=38) (by simp)) ?_;rintro a1 w1 vs V1 hd1 Y ⟨cb,mt,mp,p1,p3,bx,rfl,hN1,U⟩ hF1;show wG (AM none) 0 xE _ _ a1 w1;refine wpIn_block ?_;have hit:=λfn L D H=>it166 (V:=V1) (fn':=fn) (tmps:=a1.tmps) (ps:=#[16,17]) (assign:=(Bi (AN wS) [3,0,0,0]).getD 0 .skip) (body:=(Bi (AN wS) [3,0,0,1]).getD 0 .skip) (D:=D) (l:=L) (bx:=bx) (s:=d.ts) (xs:=d.types)
  (J:=λi V2=>NI V d cb mt mp p1 p3 (λy=>((d.types.drop (d.types.length-i)).find? λt=>decide (t.name=y)).map Ty.v) (λ_=>none) V2/\V2 bx=some (cell (.slice d.ts.p d.ts.n d.ts.c) 27)) rfl (λi V2 Q _=>⟨Q.2,hd.types.sub Q.1.sub⟩) (λk x hx V2 Q R w2 X=>by
   refine MT (N:=38) (insA:=[(3,pv p3),(17,Ty.v x)]) (outsA:=[3,5]) R X (K8 (u:=.int .i64 k) (z:=Ty.v x) (p:=16) (q:=17) (r:=3) Y rfl (by decide) (by decide) (by decide)).1 (K8 (p:=16) (q:=17) (r:=3) Y rfl (by decide) (by decide) (by decide)).2 (newAssignT x) (λvs A B=>?_);obtain⟨b,hb,e2,rfl⟩:=B;exact(newRoundT Q.1 Q.2 x A b hb e2).mono λ_ V4 h4=>⟨h4.1.cg (find_drop (nm:=Ty.name) (vv:=Ty.v) hx) λ_=>rfl,h4.2⟩)
  ⟨by simpa using hN1,U⟩ H
 refine MS (Φ:=λV2=>NI V d cb mt mp p1 p3 (λy=>(Dy d y).map Ty.v) (λ_=>none) V2) hF1.le (Y.get (s:=15) rfl) Tryz.call166 (λfn L D H=>Tri.mono (hit fn L D H) λe V' h=>?_) ?_
 ·obtain⟨h1,V2,h2,h3,h4⟩:=h;exact⟨h1,V2,h2,h3,by simpa [Dy]using h4.1⟩
 intro D V2 W hD hF2 hn2 hW hN2;show C7 none 0 xE _ (c73d++_) _ W;have hS:Bb xE 38 c73d [(1,pv p1),(3,pv p3)] [3,27] V2 λvs A=>∃bx,vs=[pv p3,.func (.func 167) #[] #[pv bx]]/\NI V d cb mt mp p1 p3 (λy=>(Dy d y).map Ty.v) (λ_=>none) A/\A bx=some (cell (.slice d.ps.p d.ps.n d.ps.c) 29):=by
  refine s73d ?_;unfold w73d;refine⟨by simp,d.ps,An hN2.b1 3 1 (by simp[Ds.row]),?_⟩;refine Tri.mono c116 ?_;rintro _ A ⟨bx,I,rfl,rfl⟩;exact⟨.func (.func 167) #[] #[pv bx],rfl,rfl,_,rfl,bx,rfl,hN2.fresh I _,Mem.set_same _ _ _⟩
 refine hS.step hF2.le ⟨Y.1,λs v hs=>Y.2 s v ?_⟩ ?_;·grind[wH]
 rintro a3 w3 vs A hd3 O ⟨bx2,rfl,hN3,hbx3⟩ hF3;show wG (AM none) 0 xE _ _ a3 w3;refine wpIn_block ?_;have hit2:=λfn L D H=>it167 (V:=A) (fn':=fn) (tmps:=a3.tmps) (ps:=#[28,29]) (assign:=(Bi (AN wS) [5,0,0,0]).getD 0 .skip) (body:=(Bi (AN wS) [5,0,0,1]).getD 0 .skip) (D:=D) (l:=L) (bx:=bx2) (s:=d.ps) (xs:=d.procs)
  (J:=λi V2=>NI V d cb mt mp p1 p3 (λy=>(Dy d y).map Ty.v) (λy=>((d.procs.drop (d.procs.length-i)).find? λt=>decide (t.name=y)).map Pr.v) V2/\V2 bx2=some (cell (.slice d.ps.p d.ps.n d.ps.c) 29)) rfl (λi V2 Q _=>⟨Q.2,hd.procs.sub Q.1.sub⟩) (λk x hx V2 Q R w2 X=>by
   refine MT (N:=38) (insA:=[(3,pv p3),(29,Pr.v x)]) (outsA:=[3,7]) R X (K8 (u:=.int .i64 k) (z:=Pr.v x) (p:=28) (q:=29) (r:=3) O rfl (by decide) (by decide) (by decide)).1 (K8 (p:=28) (q:=29) (r:=3) O rfl (by decide) (by decide) (by decide)).2 (newAssignP x) (λvs A B=>?_);obtain⟨b,hb,e2,rfl⟩:=B;exact(newRoundP Q.1 Q.2 x A b hb e2).mono λ_ V4 h4=>⟨h4.1.cg (λ_=>rfl) (find_drop (nm:=Pr.name) (vv:=Pr.v) hx),h4.2⟩)
  ⟨by simpa using hN3,hbx3⟩ H
 refine MS (Φ:=λV2=>NI V d cb mt mp p1 p3 (λy=>(Dy d y).map Ty.v) (λy=>(Cj d y).map Pr.v) V2) hF3.le (O.get (s:=27) rfl) Tryz.call167 (λfn L D H=>Tri.mono (hit2 fn L D H) λe V' h=>?_) ?_
 ·obtain⟨h1,V2,h2,h3,h4⟩:=h;exact⟨h1,V2,h2,h3,by simpa [Cj]using h4.1⟩
 intro D2 V4 W4 hD2 C hn4 hW4 Z;show C7 none 0 xE _ (c73g++_) _ W4;have hS2:Bb xE 38 c73g [(3,pv p3)] [2] V4 λvs V5=>V5=V4/\vs=[pv cb]:=by
  refine s73g ?_;unfold w73g;exact⟨_,AG Z.b3,_,rfl,rfl,rfl⟩
 refine hS2.step C.le ⟨O.1,λs v hs=>O.2 s v ?_⟩ ?_;·grind[wH]
 rintro a5 w5 vs V5 hd5 hH5 ⟨rfl,rfl⟩ hF5;show wG (AM none) 0 xE .ret _ a5 w5;refine wpIn_ret ?_;obtain⟨g1,g2,g3,g4⟩:=MY hF1 hF2 hD hn2 hW hF3;obtain⟨k1,k2,k3,k4⟩:=MY g1 C hD2 hn4 hW4 hF5;obtain⟨m1,m2⟩:=mark_keep (C.trans hF5) g4 g3;have hDlt:D<w3.heap.size:=(z8.1 g3).1;refine⟨.inr rfl,[D2,D],?_,by simp;omega,_,k1,λD' hD'=>?_,_,λw6 hw6=>results_tmp (t:=2) (by kernel_rfl) _ _ _,some ⟨cb,0,none⟩,by rw[hH5.get rfl],Z.sub,?_⟩;·simp_all
 ·grind
 ·exact⟨⟨cb,mt,mp,218,rfl,Z.ck,Z.mapT,Z.mapP⟩,hd.sub Z.sub⟩
section
variable{P:Program}{V:Mem}{ty:Nat}{vals:Operand->Value}
theorem GenK.shr{t u:TypeId}{x:Operand}{k h:IntKind}{n c:Int}(z:vals x=.int k n)(y:vals (.const (.int h c))=.int h c)(j:¬c<0){q:Value->Mem->Prop}(i:q (.int k (n.fdiv (2^(min c.toNat k.bits)))) V):GenK P (.binOp .shr t x (.const (.int h c)) u) ty vals V q:=by
 intro w hw;refine⟨_,w,V,?_,Ax.refl hw,i⟩;unfold execOp;simp[z,y,binOp,Op.shift,j,eqGuard]
theorem GenK.max2{a b:Operand}{ts:Array TypeId}{n1 n2:Int}(h1:vals a=.int .i64 n1)(h2:vals b=.int .i64 n2){q:Value->Mem->Prop}(h:q (.int .i64 (if n1<n2 then n2 else n1)) V):GenK P (.call {callee:=.builtin .max,args:=#[a,b],argTypes:=ts}) ty vals V q:=by
 intro w hw;refine⟨_,w,V,?_,Ax.refl hw,h⟩;unfold execOp;simp only[resolve,invoke,builtin,zK,zM,zL,y8,zG,List.map_nil,h1,h2];rfl
theorem GenK.min2{a b:Operand}{ts:Array TypeId}{n1 n2:Int}(h1:vals a=.int .i64 n1)(h2:vals b=.int .i64 n2){q:Value->Mem->Prop}(h:q (.int .i64 (if n2<n1 then n2 else n1)) V):GenK P (.call {callee:=.builtin .min,args:=#[a,b],argTypes:=ts}) ty vals V q:=by
 intro w hw;refine⟨_,w,V,?_,Ax.refl hw,h⟩;unfold execOp;simp only[resolve,invoke,builtin,zK,zM,zL,y8,zG,List.map_nil,h1,h2];rfl
theorem GenK.iface{t:TypeId}{ts:Array Field}{x:Operand}{v:Value}(h:P.underlying t=some (.struct ts))(k:vals x=v){q:Value->Mem->Prop}(u:q (.iface t v) V):GenK P (.makeInterface t x) ty vals V q:=by
 intro w hw;refine⟨_,w,V,?_,Ax.refl hw,u⟩;unfold execOp;simp[k,Instr.makeInterface,run_underlying h,zK]
end
section
variable{V:Mem}
theorem MZ{n:Nat}{k:Nat}:((n:Int)).fdiv (2^k)=((n/2^k:Nat):Int):=by
 grind
theorem QS(n:Nat)(h:n<18446744073709551616):K.inR .u64 (n:Int):=K.inR_iff.2 (by simp[IntKind.min,IntKind.max,IntKind.signed,IntKind.bits];omega)
end
abbrev Ia:KB:=Ac [0,1,2,2,3,3,3,3,4,4,4,4,4,4,4,4,5,5,5,5,5,5,5,5,5,5,5,5,5,5,5,5,6,6,6,6,6,6,6,6,6,6,6,6,6,6,6,6,6,6,6,6,6,6,6,6,6,6,6,6,6,6,6,6,7,7,7,7,7,7,7,7,7,7,7,7,7,7,7,7,7,7,7,7,7,7,7,7,7,7,7,7,7,7,7,7,7,7,7,7,7,7,7,7,7,7,7,7,7,7,7,7,7,7,7,7,7,7,7,7,7,7,7,7,7,7,7,7,8,8,8,8,8,8,8,8,8,8,8,8,8,8,8,8,8,8,8,8,8,8,8,8,8,8,8,8,8,8,8,8,8,8,8,8,8,8,8,8,8,8,8,8,8,8,8,8,8,8,8,8,8,8,8,8,8,8,8,8,8,8,8,8,8,8,8,8,8,8,8,8,8,8,8,8,8,8,8,8,8,8,8,8,8,8,8,8,8,8,8,8,8,8,8,8,8,8,8,8,8,8,8,8,8,8,8,8,8,8,8,8,8,8,8,8,8,8,8,8,8,8,8,8,8,8,8,8]
def lenN(n:Nat):Int:=if n=0 then 0 else(wY n:Int)+1
theorem lenTab_at{n:Nat}(h:n<256):Bp Ia (n:Int)=lenN n:=by
 have:((List.range 256).all λn=>decide (Bp Ia (n:Int)=lenN n))=true:=by kernel_rfl
 simp_all
theorem log2_shift{n k:Nat}(h:2^k<=n):wY n=k+wY (n/2^k):=by
 have u:0<2^k:=wZ k;have z:n/2^k≠0:=by
  simp_all
 have t:n≠0:=by omega
 have key:∀j,j<=wY (n/2^k)↔k+j<=wY n:=λj=>by
  rw[wz z,wz t,wy u,<-Nat.pow_add,Nat.add_comm]
 have h1:=(key (wY (n/2^k))).1 (Nat.le_refl _);have h2:k<=wY n:=(wz t).2 h;have h3:=(key (wY n-k)).2 (by omega);omega
theorem JQ{n k:Nat}(h:2^k<=n):lenN n=k+lenN (n/2^k):=by
 have u:0<2^k:=wZ k;have t:n/2^k≠0:=by
  simp_all
 unfold lenN;rw[if_neg (by omega),if_neg t,log2_shift h];omega
theorem lenN_small{n:Nat}(h:n<256):0<=lenN n/\lenN n<=8:=by
 unfold lenN;split;·omega
 ·rename_i k;have:wY n<8:=(Nat.log2_lt k).2 h;omega
section
variable{V:Mem}
theorem c323{n:Nat}(x:n<=1099511627776):PP 323 [.int .u64 n] V (.int .i64 (lenN n)):=by
 refine x323 ?_;have shr:∀(k:Nat)(c:Int),min c.toNat wx.bits=k->(n:Int).fdiv (2^(min c.toNat wx.bits))=((n/2^k:Nat):Int):=λk c h=>by rw[h,MZ]
 have t:∀(k c:Nat),k<256->c<=64->lenN n=c+lenN k->∀v:Int,v=(k:Int)->∀u:Int,u=(c:Int)->K.inR .u8 v/\(0<=v/\v<(Ia.size:Int))/\IR (Bp Ia v)/\IR (u+Bp Ia v)/\(rV (uI (u+Bp Ia v))=xG (.int .i64 (lenN n))/\V=V):=by
  rintro k c h1 h2 h3 _ rfl _ rfl;have h4:=lenN_small h1;have z:Ia.size=256:=by kernel_rfl
  rw[lenTab_at h1,z,h3];exact⟨⟨by omega,by omega⟩,⟨by omega,by omega⟩,⟨by omega,by omega⟩,⟨by omega,by omega⟩,rfl,rfl⟩
 refine⟨λh1=>GenK.shr rfl rfl (by decide) ⟨_,rfl,?_⟩,λh1=>⟨λh2=>GenK.shr rfl rfl (by decide) ⟨_,rfl,⟨by omega,by omega⟩,?_⟩,λh2=>⟨λh3=>GenK.shr rfl rfl (by decide) ⟨_,rfl,⟨by omega,by omega⟩,?_⟩,λh3=>?_⟩⟩⟩
 ·rw[shr 32 _ rfl];have e:=JQ (n:=n) (k:=32) (by omega);have j:n/2^32<=256:=by omega
  refine⟨λh=>by omega,λ_=>⟨λh2=>GenK.shr rfl rfl (by decide) ⟨_,rfl,⟨by omega,by omega⟩,?_⟩,λh2=>t _ 32 (by omega) (by omega) (by omega) _ rfl _ rfl⟩⟩;have y:=JQ (n:=n/2^32) (k:=8) (by omega);have:((n/2^32:Nat):Int).fdiv (2^(min (8:Int).toNat wx.bits))=((n/2^32/2^8:Nat):Int):=by
   rw[show min (8:Int).toNat wx.bits=8 from rfl,MZ]
  rw[this];exact t _ 40 (by omega) (by omega) (by omega) _ rfl _ rfl
 ·rw[shr 16 _ rfl];have e:=JQ (n:=n) (k:=16) (by omega);refine⟨λh=>GenK.shr rfl rfl (by decide) ⟨_,rfl,⟨by omega,by omega⟩,?_⟩,λh=>t _ 16 (by omega) (by omega) (by omega) _ rfl _ rfl⟩;have y:=JQ (n:=n/2^16) (k:=8) (by omega);have:((n/2^16:Nat):Int).fdiv (2^(min (8:Int).toNat wx.bits))=((n/2^16/2^8:Nat):Int):=by
   rw[show min (8:Int).toNat wx.bits=8 from rfl,MZ]
  rw[this];exact t _ 24 (by omega) (by omega) (by omega) _ rfl _ rfl
 ·rw[shr 8 _ rfl];have e:=JQ (n:=n) (k:=8) (by omega);exact t _ 8 (by omega) (by omega) (by omega) _ rfl _ rfl
 ·exact t _ 0 (by omega) (by omega) (by omega) _ rfl _ rfl
theorem c307{n:Nat}(h:n<=1099511627776):PP 307 [.int .u64 n] V (.int .i64 (lenN n)):=by
 refine x307 ?_;exact(c323 h).call ⟨_,rfl,rfl,rfl⟩
end
def fltE(e:Int):Ending:=.panicked [{v:=.iface 253 (.agg #[.int .i64 e]),recovered:=false}]
theorem GenK.panE{ty:Nat}{vals:Operand->Value}{V:Mem}{x:Operand}{e:Int}(k:vals x=.agg #[.int .i64 e]){R:Ending->Mem->Prop}(h:R (fltE e) V):
  GenK xE (.makeInterface 253 x) ty vals V λy V1=>∃v,K.r.ok v/\y=v/\∃t x,K.cast .r v=.iface t x/\R (.panicked [{v:=.iface t x,recovered:=false}]) V1:=
 GenK.iface Tryz.underlying253 k ⟨.iface 253 (.agg #[.int .i64 e]),(rfl:K.cast .r (.iface 253 (.agg #[.int .i64 e]))=_),rfl,_,_,rfl,h⟩
def AY(d:Ds)(F tk c cm:Int)(gs ns ls:Sl):List Value:=[Go.Sx.vS d.name,d.ts.v,d.gs.v,d.ps.v,d.ms.v,d.is.v,d.qs.v,d.bs.v,gs.v,ns.v,.int .i64 F,.int .i64 tk,.int .i64 c,.int .i64 cm,ls.v]
abbrev EM(V0:Mem)(d:Ds)(p F:Nat)(V:Mem)(s:St)(c:Nat):Prop:=MA 140 V0 p (AY d F s.tk c s.cm) V s
theorem Gb:NT 140:=by unfold NT;decide
structure ES (V0:Mem)(d:Ds)(F:Nat):Prop where
 ds:Ds.Ok V0 d
 valid:BC d=true
 procs:∀p∈d.procs,D0 d p
 fuel:F<=4000
theorem ES.sub{V0 W:Mem}{d:Ds}{F:Nat}(h:ES V0 d F)(k:V0.sub W):ES W d F:=⟨h.ds.sub k,h.valid,h.procs,h.fuel⟩
def PX(V0:Mem)(d:Ds)(p F c:Nat)(r:Rx Int):Ending->Mem->Prop:=λe V'=>match r with
 |.ok v s=>e=.returned (.int .i64 v)/\EM V0 d p F V' s c
 |.bad k s=>e=fltE k/\∃h,EM V0 d p F V' s h
def PB(r:Rs)(V:Mem):Ending->Mem->Prop:=λe V'=>V'=V/\e=match r with|.ok v=>.returned (.int .i64 v)|.bad k=>fltE k
section
variable{V0 V V1:Mem}{d:Ds}{p F c:Nat}{s:St}
theorem c207{k:Int}{a:Option Addr}:Tri xE 207 #[.pointer a,.int .i64 k] V λe V'=>e=fltE k/\V'=V:=by
 refine x207 ?_;exact GenK.panE (e:=k) (R:=λe V'=>e=fltE k/\V'=V) rfl ⟨rfl,rfl⟩
theorem Gd{k:Int}{a:Option Addr}{K:Mem->Prop}{R:Ending->Mem->Prop}(h:R (fltE k) V):Tri xE 207 #[.pointer a,.int .i64 k] V λe V'=>(e=.returned (.tuple #[])/\K V')∨∃t,e=.panicked t/\R e V':=
 Tri.mono c207 λ_ _ ⟨u,z⟩=>.inr ⟨_,u,by simp_all⟩
theorem PX.split{f:FuncId}{args:Array Value}{r:Rx Int}{K:Int->Mem->Prop}{R:Ending->Mem->Prop}(H:Tri xE f args V (PX V0 d p F c r))(u:∀k s t V',r=.bad k s->EM V0 d p F V' s t->R (fltE k) V')(z:∀v s V',r=.ok v s->EM V0 d p F V' s c->K v V'):
  Tri xE f args V λe V'=>(∃v,e=.returned (.int .i64 v)/\K v V')∨∃y,e=.panicked y/\R e V':=
 Tri.mono H λe V' h=>by
  cases r with
  |ok v s=>exact .inl ⟨v,h.1,z v s V' rfl h.2⟩
  |bad k s=>
   obtain⟨x,t,hm⟩:=h;subst x;exact .inr ⟨_,rfl,u k s t V' rfl hm⟩
theorem PB.split{f:FuncId}{args:Array Value}{r:Rs}{K:Int->Mem->Prop}{R:Ending->Mem->Prop}(H:Tri xE f args V (PB r V))(h:∀k,r=.bad k->R (fltE k) V)(y:∀v,r=.ok v->K v V):
  Tri xE f args V λe V'=>(∃v,e=.returned (.int .i64 v)/\K v V')∨∃t,e=.panicked t/\R e V':=
 Tri.mono H λe V' ⟨u,z⟩=>by
  subst u;cases r with
  |ok v=>simp_all
  |bad k=>subst z;exact .inr ⟨_,rfl,h k rfl⟩
theorem PX.bind{f:FuncId}{args:Array Value}{G r:Rx Int}{h:Int->St->Rx Int}{K:Int->Mem->Prop}(t:G=r.bind h)(H:Tri xE f args V (PX V0 d p F c r))(u:∀v s V',r=.ok v s->EM V0 d p F V' s c->G=h v s->K v V'):
  Tri xE f args V λe V'=>(∃v,e=.returned (.int .i64 v)/\K v V')∨∃z,e=.panicked z/\PX V0 d p F c G e V':=
 PX.split H (λk s y V' e hm=>by subst e;rw[t];exact⟨rfl,y,hm⟩) λv s V' e hm=>u v s V' e hm (by rw[t,e];rfl)
theorem PX.ok{G:Rx Int}{v:Int}(h:G=.ok v s)(M:EM V0 d p F V s c):PX V0 d p F c G (.returned (.int .i64 v)) V:=by rw[h];exact⟨rfl,M⟩
theorem PX.bad{G:Rx Int}{k:Int}(h:G=.bad k s)(M:EM V0 d p F V s c):PX V0 d p F c G (fltE k) V:=by rw[h];exact⟨rfl,c,M⟩
theorem PX.last{f:FuncId}{args:Array Value}{G r:Rx Int}(h:G=r)(H:Tri xE f args V (PX V0 d p F c r)):
  Tri xE f args V λe V'=>(∃v,e=.returned (.int .i64 v)/\PX V0 d p F c G (.returned (.int .i64 v)) V')∨∃t,e=.panicked t/\PX V0 d p F c G e V':=by
 subst h;exact PX.split H (λk s u V' e hm=>by rw[e];exact⟨rfl,u,hm⟩) λv s V' e hm=>by rw[e];exact⟨rfl,hm⟩
theorem PB.last{f:FuncId}{args:Array Value}{G:Rx Int}{r:Rs}(h:G=DG r s)(M:EM V0 d p F V s c)(H:Tri xE f args V (PB r V)):
  Tri xE f args V λe V'=>(∃v,e=.returned (.int .i64 v)/\PX V0 d p F c G (.returned (.int .i64 v)) V')∨∃t,e=.panicked t/\PX V0 d p F c G e V':=
 PB.split H (λk e=>PX.bad (by rw[h,e];rfl) M) λv e=>PX.ok (by rw[h,e];rfl) M
theorem c311{b t:Nat}{s:KB}(h:V b=some (cell (.string s) t)){x:Fld}:PP 311 [x.v,pv b] V (.bool (decide (x.name=s))):=by
 refine x311 ?_;exact⟨_,AG h,rfl,rfl⟩
theorem QT:JJ 79 Fld.row Fld.v 2:=KJ N7
theorem c164:JJ 164 Ty.row Ty.v 2:=KJ g164
theorem M0:JJ 26 Pr.row Pr.v 5:=KJ N8
theorem c281{l:Sl}{xs:List Fld}(h:Ad V l 2 (xs.map Fld.row)){s:KB}:PP 281 [l.v,.string s] V (.int .i64 (Cs xs s)):=by
 refine Bv.mk (x281 ?_);intro b u;have k:=Mem.sub_new u (cell (.string s) 9);exact(QT (first:=[]) (caps:=[pv b]) (h.sub k) Tryz.call311 (λt=>decide (t.name=s)) (λx _=>c311 Az)).call ⟨_,rfl,rfl,k⟩
theorem c248{b t:Nat}{s:KB}(h:V b=some (cell (.string s) t)){x:Pr}:PP 248 [x.v,pv b] V (.bool (decide (x.name=s))):=by
 refine x248 ?_;exact⟨_,AG h,rfl,rfl⟩
theorem c205(h:Ds.Ok V d){s:KB}:PP 205 [d.v,.string s] V (.int .i64 (AD d s)):=by
 refine Bv.mk (x205 ?_);intro b u;have k:=Mem.sub_new u (cell (.string s) 9);exact(M0 (first:=[]) (caps:=[pv b]) (h.procs.sub k) Tryz.call248 (λt=>decide (t.name=s)) (λx _=>c248 Az)).call ⟨_,rfl,rfl,k⟩
theorem c321{b t:Nat}{s:KB}(h:V b=some (cell (.string s) t)){x:Ty}:PP 321 [x.v,pv b] V (.bool (decide (x.name=s))):=by
 refine x321 ?_;exact⟨_,AG h,rfl,rfl⟩
theorem c305(S:ES V0 d F)(h:EM V0 d p F V s c){nm:KB}:PP 305 [pv p,.string nm] V (.int .i64 (Bx d nm)):=by
 obtain⟨gs,ns,ls,nd,k,L⟩:=h.ex;refine Bv.mk (x305 ?_);refine⟨nn,nn,AX,d.ts,An k 1 1 (by simp[AY]),λb z=>?_⟩;have u:=Mem.sub_new z (cell (.string nm) 9);exact(c164 (first:=[]) (caps:=[pv b]) (S.ds.sub (L.sub.trans u)).types Tryz.call321 (λt=>decide (t.name=nm)) (λx _=>c321 Az)).call ⟨_,rfl,rfl,u⟩
theorem c309{b:Bool}:PP 309 [.bool b] V (.int .i64 (Et b)):=by
 refine x309 ?_;refine⟨λh=>?_,λh=>?_⟩;·rw[h];exact⟨rfl,rfl⟩
 ·rw[(Bool.not_eq_true b).mp h];exact⟨rfl,rfl⟩
theorem c306{n:Int}{a:Option Addr}:Tri xE 306 #[.pointer a,.int .i64 n] V (PB (CK n) V):=by
 refine Tri.mono (x306 (R:=PB (CK n) V) ?_) λ_ _ h=>h;have bad:¬(-1099511627776<=n/\n<=1099511627776)->PB (CK n) V (fltE 5) V:=λh=>⟨rfl,by grind[CK]⟩;refine⟨λh=>Gd (bad (by omega)),λh1=>⟨λh=>Gd (bad (by omega)),λh2=>⟨rfl,?_⟩⟩⟩;grind[CK]
theorem c324{n:Int}(h:-1099511627776<=n/\n<=1099511627776):PP 324 [.int .i64 n] V (.int .i64 (if n<0 then -n else n)):=by
 refine x324 ?_;refine⟨⟨by omega,by omega⟩,GenK.max2 rfl rfl ⟨_,rfl,?_⟩⟩;grind
theorem mul_big{a b:Int}(l:-1099511627776<=a/\a<=1099511627776)(r:-1099511627776<=b/\b<=1099511627776)(o:a≠0):((1099511627776:Int).tdiv (if a<0 then -a else a)<(if b<0 then -b else b))↔¬(-1099511627776<=a*b/\a*b<=1099511627776):=by
 obtain⟨x,u⟩:∃x:Nat,(if a<0 then -a else a)=(x:Int):=⟨a.natAbs,by split<;>omega⟩;obtain⟨y,z⟩:∃y:Nat,(if b<0 then -b else b)=(y:Int):=⟨b.natAbs,by split<;>omega⟩;have h:x=a.natAbs:=by omega
 have k:y=b.natAbs:=by omega
 have t:0<x:=by omega
 rw[u,z];have j:(1099511627776:Int).tdiv (x:Int)=((1099511627776/x:Nat):Int):=by
  rfl
 rw[j];have e:(a*b).natAbs=x*y:=by rw[Int.natAbs_mul,h,k]
 have i:(-1099511627776<=a*b/\a*b<=1099511627776)↔x*y<=1099511627776:=by omega
 rw[i];have H:y<=1099511627776/x↔y*x<=1099511627776:=wy t;grind
theorem mul_in{a b:Int}(_:-1099511627776<=a/\a<=1099511627776)(_:-1099511627776<=b/\b<=1099511627776)(h:a=0∨(-1099511627776<=a*b/\a*b<=1099511627776)):IR (a*b):=by
 rcases h with rfl|h;·rw[Int.zero_mul];exact⟨by omega,by omega⟩
 ·exact⟨by omega,by omega⟩
theorem K9{a:Int}(h:-1099511627776<=a/\a<=1099511627776){b:Int}:xF .i64 (a.tdiv b)=a.tdiv b:=by
 have:=tdiv_in (b:=b) h;rw[IntKind.wrap_i64];omega
theorem c310{a:Option Addr}{op v w:Int}(W:op=9∨op=10∨op=11∨op=12∨op=13∨op=22∨op=23)(hv:-1099511627776<=v/\v<=1099511627776)(hw:-1099511627776<=w/\w<=1099511627776):Tri xE 310 #[.pointer a,.int .i64 op,.int .i64 v,.int .i64 w] V (PB (Bg op v w) V):=by
 refine Tri.mono (x310 (R:=PB (Bg op v w) V) ?_) λ_ _ h=>h;have y:∀{n:Int},Bg op v w=CK n->Tri xE 306 #[.pointer a,.int .i64 n] V λe V'=>(∃u,e=.returned (.int .i64 u)/\PB (Bg op v w) V (.returned (.int .i64 u)) V')∨∃i,e=.panicked i/\PB (Bg op v w) V e V':=λe=>PB.split c306 (λk l=>⟨rfl,by rw[e,l]⟩) λn r=>⟨rfl,by rw[e,r]⟩;have good:∀{n:Int},Bg op v w=.ok n->PB (Bg op v w) V (.returned (.int .i64 n)) V:=λe=>⟨rfl,by rw[e]⟩;have bad:∀{k:Int},Bg op v w=.bad k->PB (Bg op v w) V (fltE k) V:=λe=>⟨rfl,by rw[e]⟩;have x:∀{n:Int},-2199023255552<=n/\n<=2199023255552->IR n:=λh=>⟨by omega,by omega⟩;have j:=K9 (b:=w) hv;refine⟨λh=>⟨x (by omega),y (by grind[Bg])⟩,λQ=>⟨λh=>⟨x (by omega),y (by grind[Bg])⟩,λo=>⟨λh=>?_,λH=>⟨λh=>?_,λz=>⟨λh=>?_,λJ=>⟨λh=>?_,λN=>?_⟩⟩⟩⟩⟩⟩
 ·have e:Bg op v w=CK (v*w):=by grind[Bg]
  have fit:(-1099511627776<=v*w/\v*w<=1099511627776)->PB (Bg op v w) V (.returned (.int .i64 (v*w))) V:=λk=>good (by grind[CK]);refine⟨λt=>⟨mul_in hv hw (.inl t),fit ?_⟩,λt=>?_⟩;·simp_all
  have t:¬v=0:=t;have Z:xF .i64 ((1099511627776:Int).tdiv (if v<0 then -v else v))=(1099511627776:Int).tdiv (if v<0 then -v else v):=K9 ⟨by omega,by omega⟩;refine(c324 hw).call ⟨_,rfl,(c324 hv).call ⟨_,rfl,by split<;>omega,?_⟩⟩;rw[Z];refine⟨λk=>Gd (bad ?_),λk=>?_⟩;·simp_all[CK,if_neg,mul_big]
  simp_all[Classical.not_not,mul_big,mul_in,inr]
 ·have e:w≠0->Bg op v w=.ok (v.tdiv w):=λk=>by grind[Bg]
  first|rw[j]|(unfold w310_0;rw[j])
  refine⟨λt=>Gd (bad ?_),λt=>⟨λ_=>⟨t,good (e t)⟩,λk=>absurd h k⟩⟩;grind[Bg]
 ·have e:w≠0->Bg op v w=.ok (v.tmod w):=λk=>by grind[Bg]
  refine⟨λt=>Gd (bad ?_),λt=>⟨λk=>absurd k z,λ_=>⟨t,good (e t)⟩⟩⟩;grind[Bg]
 ·exact GenK.max2 rfl rfl ⟨_,rfl,good (by grind[Bg])⟩
 ·have Y:op=23:=by
   omega
  exact GenK.min2 rfl rfl ⟨_,rfl,good (by grind[Bg])⟩
end
theorem Ah{c a b:Prop}(h:¬c)(t:b):Br c a b:=⟨λk=>absurd k h,λ_=>t⟩
theorem AV{c a b:Prop}(h:c)(t:a):Br c a b:=⟨λ_=>t,λk=>absurd h k⟩
structure Fv (V0:Mem)(q:Nat)(pr:Pr)(vals:List Int):Prop where
 ex:∃a b:Sl,V0 q=some (.cells #[a.v,b.v] 310 (0,0))/\Ad V0 a 2 (pr.vars.map Fld.row)/\Ad V0 b 1 (vals.map Al)
theorem DD{V:Mem}{e:E}(x:E.Ok V e){i:Nat}{a:E}(h:e.k[i]?=some a):¬e.l.p=none/\(0:Int)<=(i:Int)/\(i:Int)<(e.l.n:Int)/\V.rowp e.l.p (i*4) 4=some [.int .i64 a.op,.int .i64 a.n,.string a.s,.slice a.l.p a.l.n a.l.c]:=by
 have u:=x.rows;have H:=u.n_eq;have J:=(yw.1 h).1;obtain⟨y,-,z,-,j,r,o,t⟩:=u.get (i:=i) (by omega);rw[h]at z;cases z;exact⟨r,o,by omega,t⟩
section
variable{V0 V V1:Mem}{d:Ds}{p F c q:Nat}{s:St}{pr:Pr}{vals:List Int}
theorem fieldT_idx{u nm t:KB}(h:Dz d u nm=(t,0)):∃(j i:Nat)(k:Ty)(f:Fld),Bx d u=(j:Int)/\d.types[j]?=some k/\k∈d.types/\Cs k.fields nm=(i:Int)/\k.fields[i]?=some f/\f.ty=t:=by
 unfold Dz at h;cases z:Dy d u with
 |none=>simp_all
 |some k=>
  rw[z]at h;simp only at h;split at h;·simp at h
  ·rename_i y;simp only[Prod.mk.injEq,and_true]at h;grind[tyOf_idx,JN,absurd,xJ]
theorem typC(S:ES V0 d F)(M:EM V0 d p F V s c)(fr:Fv V0 q pr vals)(U:D0 d pr)(G:Am d s.mm)(hvs:Aw d s.mm pr.vars vals=true):
  ∀(e:E)(t:KB),VE e->E.Ok V0 e->As d (Av d pr) e=(t,0)->PP 308 [pv p,pv q,e.v] V (.string t):=by
 intro e;induction e using E.ind with
 |h e ih=>
 intro t hv he ht;obtain⟨gs,ns,ls,nd,l,L⟩:=M.ex;obtain⟨fa,fb,hq0,C,-⟩:=fr.ex;have hq:=L.sub _ _ hq0;have N:=C.sub L.sub;have Z:=S.ds.sub L.sub;have Y:=he.sub L.sub;refine x308 ?_;have z:∀{t':KB},t'=t->(xG (.string t')=xG (.string t)/\V=V):=λh=>⟨by rw[h],rfl⟩;have I:∀{a:E}{u:KB}{R:Ending->Mem->Prop},a∈e.k->As d (Av d pr) a=(u,0)->R (.returned (.string u)) V->Tri xE 308 #[pv p,pv q,a.v] V R:=λhm o hR=>(ih _ hm _ (hv.kids _ hm) (he.kids _ hm) o).call hR;cases kindX (sc:=Av d pr) rfl hv ht with
 |int h W=>
  repeat refine Ah (h▸(by decide)) ?_
  exact z rfl
 |bool h W=>
  repeat refine Ah (h▸(by decide)) ?_
  exact AV h (z rfl)
 |nil h W=>
  repeat refine Ah (h▸(by decide)) ?_
  exact AV h (z rfl)
 |var h hl hne=>
  refine AV h ⟨nn,nn,fa,An hq 0 1 (by simp),(c281 N).call ⟨_,rfl,?_⟩⟩;rcases H8 G hvs U.vars hl hne with⟨i,f,v,h1,h2,h3,h4,-⟩|⟨i,f,v,T,h1,h2,h3,h4,-⟩
  ·rw[h1];have W:=N.n_eq;have Q:=(yw.1 h2).1;obtain⟨y,-,r,-,-,J,O,x⟩:=N.get (i:=i) (by omega);rw[h2]at r;cases r;exact AV (by omega) ⟨nn,nn,fa,An hq 0 1 (by simp),J,O,by omega,Ak J,_,_,x,z h4⟩
  ·rw[T];have hg:=Z.globals;have W:=hg.n_eq;have Q:=(yw.1 h2).1;obtain⟨y,-,r,-,-,J,O,x⟩:=hg.get (i:=i) (by omega);rw[h2]at r;cases r;refine Ah (by decide) ⟨nn,nn,AX,d.gs,An l 2 1 (by simp[AY]),nn,nn,AX,d.gs,An l 2 1 (by simp[AY]),(c281 hg).call ⟨_,rfl,?_⟩⟩;rw[h1];exact⟨EW l 2 0 1 (by simp[AY]),AX,nn,nn,J,O,by omega,Ak J,_,_,x,z h4⟩
 |@fld _ u a h H o hf=>
  have T:e.k[0]?=some a:=by rw[H];rfl
  obtain⟨k1,k2,k3,k4⟩:=DD Y T;obtain⟨j,i,tt,f,e1,e2,e3,e4,e5,e6⟩:=fieldT_idx hf;repeat refine Ah (h▸(by decide)) ?_
  refine AV h ⟨nn,nn,AX,d.ts,An l 1 1 (by simp[AY]),k1,by decide,k3,_,_,_,_,k4,I (xJ T) o ⟨_,rfl,EW l 1 0 1 (by simp[AY]),AX,nn,nn,(c305 S M).call ⟨_,rfl,EW l 1 0 1 (by simp[AY]),AX,nn,nn,?_⟩⟩⟩;rw[e1];have W:=Z.types.n_eq;have hjl:=(yw.1 e2).1;obtain⟨y,-,r,-,-,J,O,x⟩:=Z.types.get (i:=j) (by omega);rw[e2]at r;cases r;have A:=(Z.typesOk tt e3).fields;have hn2:=A.n_eq;have Q:=(yw.1 e5).1;obtain⟨y,-,r,-,-,D,hz2,X⟩:=A.get (i:=i) (by omega);rw[e5]at r;cases r;refine⟨J,O,by omega,_,_,x,(c281 A).call ⟨_,rfl,?_⟩⟩;rw[e4];exact⟨D,hz2,by omega,Ak D,_,_,X,z e6⟩
 |new h W=>
  grind
 |@call pr' i h K hr=>
  repeat refine Ah (h▸(by decide)) ?_
  refine AV h ⟨nn,nn,AX,d.ps,An l 3 1 (by simp[AY]),nn,nn,d.name,d.ts,d.gs,d.ps,d.ms,d.is,d.qs,d.bs,An l 0 8 (by simp[AY]),(c205 Z).call ⟨_,rfl,EW l 3 0 1 (by simp[AY]),AX,nn,nn,?_⟩⟩;rw[K.idx];have W:=Z.procs.n_eq;have Q:=(yw.1 K.at_).1;obtain⟨y,-,r,-,-,J,O,x⟩:=Z.procs.get (i:=i) (by omega);rw[K.at_]at r;cases r;exact⟨J,O,by omega,Ak J,_,_,_,_,_,x,z rfl⟩
 |@neg a h H o=>
  repeat refine Ah (h▸(by decide)) ?_
  exact z rfl
 |@not a h H o=>
  repeat refine Ah (h▸(by decide)) ?_
  exact AV h (z rfl)
 |@log a h H o=>
  repeat refine Ah (h▸(by decide)) ?_
  exact z rfl
 |@and a b h H o B=>
  repeat refine Ah (h▸(by decide)) ?_
  exact AV h (z rfl)
 |@or a b h H o B=>
  repeat refine Ah (h▸(by decide)) ?_
  exact AV h (z rfl)
 |@cond a b c _ u w h H o B K hu hw htt=>
  have h1:e.k[1]?=some b:=by rw[H];rfl
  have h2:e.k[2]?=some c:=by rw[H];rfl
  obtain⟨k1,k2,k3,k4⟩:=DD Y h1;obtain⟨l1,l2,l3,l4⟩:=DD Y h2;repeat refine Ah (h▸(by decide)) ?_
  refine AV h ⟨k1,by decide,k3,_,_,_,_,k4,I (xJ h1) B ⟨_,rfl,λhE=>⟨l1,by decide,l3,_,_,_,_,l4,I (xJ h2) K ⟨_,rfl,z ?_⟩⟩,λhE=>z ?_⟩⟩;·grind[DP]
  grind[DP]
 |@eq a b u w h H o B hf=>
  rcases h with h|h
  ·repeat refine Ah (h▸(by decide)) ?_
   exact AV h (z rfl)
  ·repeat refine Ah (h▸(by decide)) ?_
   exact AV h (z rfl)
 |@cmp a b h H o B=>
  rcases h with h|h
  ·repeat refine Ah (h▸(by decide)) ?_
   exact AV h (z rfl)
  ·repeat refine Ah (h▸(by decide)) ?_
   exact AV h (z rfl)
 |@ari a b h H o B=>
  rcases h with h|h|h|h|h|h|h;all_goals
   repeat refine Ah (h▸(by decide)) ?_
   exact z rfl
theorem Ja(h:BC d=true):d.globals.length<=8/\∀t∈d.types,t.fields.length<=12:=by
 grind[BC,Dl,ED]
theorem OA(k:∀p∈d.procs,D0 d p){i:Nat}(h:d.procs[i]?=some pr):pr.params.length<=6/\pr.locals.length<=12:=(k pr (xJ h)).lens
theorem c282(M:EM V0 d p F V s c){k a f:Int}(u:s.lg.length+1<=2147483648):Tri xE 282 #[pv p,.int .i64 k,.int .i64 a,.int .i64 f] V λe V'=>e=.returned (.tuple #[])/\EM V0 d p F V' (s.note (k,a,f)) c:=by
 obtain⟨gs,ns,ls,nd,t,L⟩:=M.ex;refine x282 ?_;refine⟨nn,nn,ls,An t 14 1 (by simp[AY]),λj z=>L.note (a:=(k,a,f)) z rfl rfl u λs' V' y x=>⟨s',rfl,nn,nn,?_⟩⟩;have h:=x _ _ t (Hu t Gb L.log (.inr (.inr rfl)));refine Ao.at2 (off:=14) h (by simp[AY]) ⟨rfl,MA.set (row':=AY d F s.tk c s.cm) Gb M.p0 h y rfl rfl rfl rfl⟩
theorem c279(t:F<=4000)(M:EM V0 d p F V s c):Tri xE 279 #[pv p] V λe V'=>(s.tk<F/\e=.returned (.tuple #[])/\EM V0 d p F V' {s with tk:=s.tk+1} c)∨(F<=s.tk/\e=fltE 20/\V'=V):=by
 obtain⟨gs,ns,ls,nd,k,L⟩:=M.ex;refine x279 ?_;refine⟨nn,nn,_,An k 11 1 (by simp[AY]),nn,nn,_,An k 10 1 (by simp[AY]),λh=>Gd (.inr ⟨by omega,rfl,rfl⟩),λh=>⟨nn,nn,_,An k 11 1 (by simp[AY]),⟨by omega,by omega⟩,nn,nn,Ao.at2 (off:=11) k (by simp[AY]) (.inl ⟨by omega,rfl,?_⟩)⟩⟩;exact MA.set (row':=AY d F ((s.tk+1:Nat):Int) c s.cm) Gb M.p0 k L rfl rfl rfl rfl
theorem c283(S:ES V0 d F)(M:EM V0 d p F V s c){k j:Nat}{fs:List Int}{o:Ty}(Z:s.ns[k]?=some ((j:Int),fs))(e:d.types[j]?=some o){nm:KB}:PP 283 [pv p,.int .i64 ((k:Int)+1),.string nm] V (.int .i64 (Cs o.fields nm)):=by
 obtain⟨gs,ns,ls,nd,u,L⟩:=M.ex;refine x283 ?_;have H:=S.ds.sub L.sub;have h:=L.nodes.rows (λ_=>rfl) (by decide);have Y:=h.n_eq;obtain⟨sl,z⟩:=L.at_ Z;have W:=(yw.1 z).1;obtain⟨y,-,x,-,-,N,Q,l⟩:=h.get (i:=k) (by omega);rw[z]at x;cases x;have O:IR ((k:Int)):=⟨by omega,by have:=(h.succ (i:=k) (by omega)).2;omega⟩;have I:=H.types.n_eq;have A:=(yw.1 e).1;obtain⟨y,-,x,-,-,r,J,t⟩:=H.types.get (i:=j) (by omega);rw[e]at x;cases x;refine⟨nn,nn,AX,d.ts,An u 1 1 (by simp[AY]),nn,nn,AX,ns,An u 9 1 (by simp[AY]),?_⟩;rw[show((k:Int)+1-1)=(k:Int)by omega];exact⟨O,N,Q,by omega,Ak N,_,_,l,r,J,(show(j:Int)<d.ts.n by omega),Ak r,_,_,t,(c281 (H.typesOk o (xJ e)).fields).call ⟨_,rfl,rfl,rfl⟩⟩
end
section
variable{V0 V V1:Mem}{d:Ds}{p F c q:Nat}{s:St}{pr:Pr}{vals:List Int}
def BW(n:Nat)(s:St):Prop:=s.lg.length+s.cm+n<=4000*s.tk
theorem BW.next{n m:Nat}{s s':St}(h:BW (n+m) s)(g:Gr F n s s'):BW m s':=by have:=g.w;unfold BW at*;omega
theorem BW.le{n m:Nat}{s:St}(h:BW n s)(k:m<=n):BW m s:=by unfold BW at*;omega
structure Cx (V0:Mem)(d:Ds)(p F c q:Nat)(pr:Pr)(vals:List Int)(n m:Nat)(V:Mem)(s:St):Prop where
 S:ES V0 d F
 fr:Fv V0 q pr vals
 po:D0 d pr
 G:Am d s.mm
 hv:Aw d s.mm pr.vars vals=true
 M:EM V0 d p F V s c
 tk:s.tk<=F
 n:F<n+s.tk
 w:BW m s
theorem Cx.fit{n m:Nat}(X:Cx V0 d p F c q pr vals n (m+1) V s):s.lg.length+1<=2147483648:=by
 have h1:=X.w;have h2:=X.tk;have h3:=X.S.fuel;grind[BW]
theorem Cx.next{n m k:Nat}{V':Mem}{s':St}(X:Cx V0 d p F c q pr vals n (m+k) V s)(g:Gr F m s s')(G:Am d s'.mm)(M:EM V0 d p F V' s' c):Cx V0 d p F c q pr vals n k V' s':=
 ⟨X.S,X.fr,X.po,G,BQ (λh=>g.right h) X.hv,M,g.fu X.tk,by have:=g.tk;have:=X.n;omega,X.w.next g⟩
theorem Cx.le{n m k:Nat}(X:Cx V0 d p F c q pr vals n m V s)(h:k<=m):Cx V0 d p F c q pr vals n k V s:=⟨X.S,X.fr,X.po,X.G,X.hv,X.M,X.tk,X.n,X.w.le h⟩
variable(d p F)in
def CallC(n:Nat):Prop:=∀(V0 V:Mem)(s:St)(c i:Nat)(pr:Pr)(args:List Int)(l:Sl),ES V0 d F->d.procs[i]?=some pr->Am d s.mm->Aw d s.mm pr.params args=true->Ad V0 l 1 (args.map Al)->EM V0 d p F V s c->s.tk<=F->F<n+s.tk->BW 0 s->
 Tri xE 145 #[pv p,pr.v,l.v] V (PX V0 d p F c (CA d (A9 d F n) c i args s))
variable(d p F)in
def ExprC(n:Nat):Prop:=∀(e:E)(t:KB)(V0 V:Mem)(s:St)(c q:Nat)(pr:Pr)(vals:List Int),Cx V0 d p F c q pr vals n (AB e) V s->VE e->E.Ok V0 e->As d (Av d pr) e=(t,0)->
 Tri xE 280 #[pv p,pv q,e.v] V (PX V0 d p F c (C0 d (CA d (A9 d F n) c) pr vals e s))
theorem Jb{g n:Nat}(h:V g=none)(k:n<=2147483648):Sx.Own V (V.set g (.cells (madeCells (xe .i64 0).cells (n*1)) 3 (0,0))) 3 1 ⟨some ⟨g,0,none⟩,n,n⟩ ((yI n (0:Int)).flatMap Al):=by
 have e:(madeCells (xe .i64 0).cells (n*1)).toList=(yI n (0:Int)).flatMap Al:=by rw[Nat.mul_one,QO,CB,List.map_replicate]
 refine⟨Mem.sub_new h _,by rw[CB];simp,.inr ⟨g,_,rfl,h,Mem.set_same _ _ _,Nat.le_refl _,by simp only[maxLen];omega,by rw[size_madeCells],?_⟩⟩;grind[wW,CB]
theorem mk43{ty:Nat}{x y:Operand}{vals:Operand->Value}{n:Nat}(h:vals x=.int .i64 n)(k:vals y=.int .i64 n)(t:n<=2147483648){q:Value->Mem->Prop}(u:∀g,V g=none->q (.slice (sa g) n n) (V.set g (.cells (madeCells (xe .i64 0).cells (n*1)) 3 (0,0)))):GenK xE (.makeSlice 43 x y) ty vals V q:=
 GenK.make (z:=.int .i64 0) (i:=ti 3) Tryz.underlying43 (by kernel_rfl) (by kernel_rfl) (by kernel_rfl) (of_decide_eq_true (by kernel_rfl)) h k t u
theorem AZ.got{α:Type}{n:Nat}{s s':St}{r:Rx α}{v:α}{Q:α->St->Prop}(h:AZ d F n s r Q)(e:r=.ok v s'):Am d s'.mm/\Gr F n s s'/\Q v s':=by
 subst e;exact⟨h.good,h.gr,h.q _ _ rfl⟩
theorem callC{n:Nat}(hR:CallC d p F n){e:E}{Z:Pr}{i:Nat}(X:Cx V0 d p F c q pr vals n (AB e) V s)(he:E.Ok V0 e)(Y:CallK d (Av d pr) e Z i)(hv:VE e)
  (hE:∀a∈e.k,∀(u:KB)(W V':Mem)(s':St),V0.sub W->Cx W d p F c q pr vals n (AB a) V' s'->As d (Av d pr) a=(u,0)->Tri xE 280 #[pv p,pv q,a.v] V' (PX W d p F c (C0 d (CA d (A9 d F n) c) pr vals a s'))):
  Tri xE 284 #[pv p,pv q,e.v] V (PX V0 d p F c ((Dd (e.k.map (C0 d (CA d (A9 d F n) c) pr vals)) [] s).bind λl st=>CA d (A9 d F n) c (i:Int) l st)):=by
 obtain⟨f,A⟩:∃f,f=C0 d (CA d (A9 d F n) c) pr vals:=⟨_,rfl⟩;obtain⟨G,hG⟩:∃G:Rx Int,G=(Dd (e.k.map f) [] s).bind λl st=>CA d (A9 d F n) c (i:Int) l st:=⟨_,rfl⟩;rw[<-A,<-hG];have hcs:=H9 X.S.procs (Ga (F:=F) X.S.procs n) c;have snd:∀{a:E}{u:KB}{t:St}{m:Nat},a∈e.k->As d (Av d pr) a=(u,0)->Am d t.mm->Gr F m s t->AZ d F (AB a) t (f a t) λv s'=>Cb d s'.mm u v:=λhm ha T r=>by
  rw[A];exact I5 X.S.procs hcs X.po _ _ _ (hv.kids _ hm) ha T (BQ (λh=>r.right h) X.hv)
 have hkn:=K1 X.S.procs Y.at_;have hsz:=szE_eq e;refine Tri.mono (x284 (R:=PX V0 d p F c G) ?_) λ_ _ h=>h;refine FA (mk:=λs:Sl=>.slice s.p s.n s.c) (b0:=⟨none,0,0⟩) Bw e.k.length (λj sl V1=>∃W acc t,V0.sub W/\Sx.Own V0 W 3 1 sl (acc.flatMap Al)/\EM W d p F V1 t c/\acc.length=j/\Am d t.mm/\Gr F ((e.k.take j).map AB).sum s t/\Aw d t.mm (Z.params.take j) acc=true/\
   Dd (e.k.map f) [] s=Dd ((e.k.drop j).map f) acc t) ⟨V0,[],s,Mem.sub.refl _,Own.nil (Mem.sub.refl _) _ _,X.M,rfl,X.G,by simpa using Gr.refl s,Cm.2 ⟨rfl,λj f v h=>by simp at h⟩,rfl⟩ ?_
 rintro j sl V1 J hj ⟨W,acc,t,x,ho,M1,hacc,T,r,I,z⟩ hJ;have B:=(he.sub x).sub M1.sub;refine⟨λC=>?_,λhge=>?_⟩
 ·obtain⟨a,U,ha,hdr,hjl,hp,hz,o⟩:=B.rows.get C;have hjp:j<Z.params.length:=by rw[<-Y.len];exact hjl
  obtain⟨u,hu,hfit⟩:=Y.fit j a _ ha (yv hjp);have hsum:((e.k.take (j+1)).map AB).sum=((e.k.take j).map AB).sum+AB a:=by grind
  have hall:((e.k.take (j+1)).map AB).sum<=(e.k.map AB).sum:=by
   have:=congrArg (λl=>(l.map AB).sum) (List.take_append_drop (j+1) e.k);grind
  have X1:Cx W d p F c q pr vals n (AB a) V1 t:=by
   have X':=X.le (k:=((e.k.take j).map AB).sum+AB a) (by omega);refine⟨X.S.sub x,?_,X.po,T,BQ (λh=>r.right h) X.hv,M1,r.fu X.tk,by have:=r.tk;have:=X.n;omega,X'.w.next r⟩;obtain⟨a',b',h1,h2,h3⟩:=X.fr.ex;exact⟨a',b',x _ _ h1,h2.sub x,h3.sub x⟩
  rw[hdr,zG]at z;have N:Dd (e.k.map f) [] s=(f a t).bind λv st=>Dd ((e.k.drop (j+1)).map f) (acc++[v]) st:=z;refine⟨hp,hz,C,_,_,_,_,o,?_⟩;have H:=hE a U u W V1 t x X1 hu;rw[<-A]at H;refine PX.split H (λk s2 c' V2 O Q=>?_) λv s2 V2 O Q=>λtb htb=>?_
  ·rw[hG,N,O];exact⟨rfl,c',Q.narrow x⟩
  obtain⟨G2,g2,hv2⟩:=(snd U hu T r).got O;have hlen:acc.length<=2000:=by
   have hl:=OA X.S.procs Y.at_;omega
  have ho2:Sx.Own V0 V2 3 1 sl (acc.flatMap Al):=Own.moveB ho (x.trans Q.sub) λg cur _ hg=>Q.sub _ _ hg;refine FG (s:=sl) (u:=⟨some ⟨tb,0,none⟩,1,1⟩) (xs:=acc) (ys:=[v]) rfl rfl (ho2.but.new htb (.cells #[.int .i64 v] 3 (0,0))) (I8 Az) (by simp;omega) λo3 V3 ho3=>⟨o3,rfl,B.rows.succ C,?_⟩;obtain⟨W',hW',M3,ho4⟩:=Q.beside x ho ho3;refine hJ hjl _ _ ⟨W',acc++[v],s2,hW',ho4,M3,by simp_all,G2,by rw[hsum];exact r.trans g2,?_,by rw[N,O];rfl⟩;rw[List.take_add_one,yv hjp];refine JO (BQ (λh=>g2.right h) I) (Cm.2 ⟨rfl,λk f w A hw=>?_⟩);cases k with
  |zero=>
   simp at A hw;subst A;subst hw;exact(FZ X.S.valid (hkn _ (List.getElem_mem _))).1 (Ht X.S.valid hfit hv2)
  |succ k=>simp at A
 ·have D:=(B.rows.done hge).2;rw[wW D]at r;rw[wW (by rw[<-Y.len];exact D)]at I;rw[List.drop_eq_nil_of_le D]at z;have hG1:G=CA d (A9 d F n) c (i:Int) acc t:=by rw[hG,z];rfl
  obtain⟨gs,ns,ls,nd,K,L⟩:=M1.ex;have hd:=(X.S.sub x).ds.sub L.sub;refine⟨nn,nn,AX,d.ps,An K 3 1 (by simp[AY]),nn,nn,d.name,d.ts,d.gs,d.ps,d.ms,d.is,d.qs,d.bs,An K 0 8 (by simp[AY]),(c205 hd).call ⟨_,rfl,EW K 3 0 1 (by simp[AY]),AX,nn,nn,?_⟩⟩;rw[Y.idx];have hn:=hd.procs.n_eq;have hil:=(yw.1 Y.at_).1;obtain⟨y,-,hy,-,-,hp,hz,o⟩:=hd.procs.get (i:=i) (by omega);rw[Y.at_]at hy;cases hy;have X':=X.le (k:=(e.k.map AB).sum+0) (by omega);refine⟨hp,hz,by omega,_,_,_,_,_,o,PX.split (hR W V1 t c i Z acc sl (X.S.sub x) Y.at_ T I (ho.rows (λ_=>rfl) (by decide)) M1 (r.fu X.tk) (by have:=r.tk;have:=X.n;omega) (X'.w.next r)) (λk s2 c' V2 O Q=>?_) λv s2 V2 O Q=>?_⟩;·rw[hG1,O];exact⟨rfl,c',Q.narrow x⟩
  ·rw[hG1,O];exact⟨rfl,Q.narrow x⟩
end
end Go.Proofs
