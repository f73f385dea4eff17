/- Part 10: no statement of the seat is proved here. -/
import Derived.Test.YtgdmkmfchcflpaaGreatDoorPe09
import Derived.ProofKit
import Derived.Test.YtgdmkmfchcflpaaGreatDoorRows
import Derived.Lib.LaidIn
import Derived.Lib.LaidTab
import Derived.Handed
import Derived.DefersIn
import Derived.RecoverIn
set_option linter.unusedVariables false
set_option linter.unusedSimpArgs false
open Array renaming getElem?_eq_some_iff->yA,getD_eq_getD_getElem?->wF
open Go.RowKit.Below renaming heap_alloc->xO
open Go.Proofs.Tryz renaming prog->xE,f263->wA,f186->wB,f187->wC,underlying267->xX,underlying9->xW,underlying97->wG,f238->wD,f104->wE,underlying128->wK
open List renaming range->zB,length_cons->zy,zip_cons_cons->xg,lookup_cons->zc,getElem?_eq_some_iff->yv,take_of_length_le->wH,mapM_cons->wI,drop_eq_getElem_cons->xR,getElem?_eq_getElem->yu,all_eq_true->z6,mem_cons_self->zb,mem_cons_of_mem->za,not_mem_nil->xC,foldl->wU,flatMap_cons->yc,length_append->zw,append_assoc->zH,mem_of_mem_drop->wV,mem_of_mem_take->wW,length_take->wX,length_drop->wY,mem_append->wZ,getD_eq_getElem?_getD->wz
open Go.Value renaming string->xN,map->zz
open Go.Result renaming andThen_ok->zL
open Go.Code renaming wpIn->xh
open Prod.mk renaming inj->wJ
open Bool renaming and_eq_true->zC,and_false->wL
open Go.Ending renaming returned->xI
open List.cons renaming injEq->yE
open Option renaming bind_eq_some_iff->wM
open Option.some renaming injEq->zF,inj->wR
open Go.DataW renaming trod->wN,TrodAll->wT
open Go.IntKind renaming i64->yr,wrap->xF
open Nat renaming lt_succ_self->wO
open Go.TypeDesc renaming struct->wP
open Go.Lib renaming TabIs->xK,asciiSpaceTab->xL
open Go.World renaming settled->wQ
open Go.Input renaming okWide_of_okWideB->wS
namespace Go.Proofs
open Go Go.Sx
attribute [local irreducible] Go.Sx.Tri
theorem GenK.makeMap{P:Program}{V:Mem}{t:TypeId}{ty:Nat}{vals:Operand->Value}{q:Value->Mem->Prop}(u:∀b,V b=none->q (.map (some b)) (V.set b (.map #[] 0))):GenK P (.makeMap t none) ty vals V q:=by
 intro w hw;have z:V w.heap.size=none:=by
  cases y:V w.heap.size with
  |none=>rfl
  |some o=>have:=(yA.1 (hw _ o y)).1;omega
 refine⟨_,w.alloc (.map #[] 0),V.set w.heap.size (.map #[] 0),rfl,?_,u _ z⟩;refine⟨by simp,λb o h=>?_,λb h _=>xO _ _ _ h,λb h=>?_,rfl,rfl⟩
 ·by_cases e:b=w.heap.size;·grind[Mem.set_same,World.alloc_heap_new]
  ·rw[Mem.set_ne e]at h;have k:=(yA.1 (hw b o h)).1;exact(xO _ _ _ k).trans (hw b o h)
 grind[inr,Mem.set_ne]
theorem KN{α:Type}{V:Mem}{s:Sl}{sz:Nat}{row:α->List Value}{xs:List α}(h:Ad V s sz (xs.map row)):K.inR .i64 ((s.n:Int)-1):=by
 have:=h.cap;have:=h.fit;exact⟨by omega,by omega⟩
theorem it263{V:Mem}{fn':FuncId}{tmps:Array Value}{ps:Array Tmp}{assign body:Code}{D:Nat}{l:Nat}{bx:Nat}{s:Sl}{xs:List Fld}{J:Nat->Mem->Prop}(o:ps.size=2)
  (Y:∀i V2,J i V2->V2 l=none->V2 bx=some (cell (.slice s.p s.n s.c) 23)/\Ad V2 s 2 (xs.map Fld.row))
  (r:∀k x,xs[k]?=some x->∀V2,J (xs.length-1-k) V2->V2 l=none->∀w,(V2.set l (.loop (AO fn' tmps ps assign body D))).le w->
   RoundIn (AV none) 0 xE l fn' ((ps.zip #[.int .i64 k,Fld.v x]).foldl (λt (p,v)=>t.setIfInBounds p v) tmps) assign body w λe w'=>
    e=.returned (.bool true)/\∃G,J (xs.length-k) G/\G l=none/\Aq (V2.set l (.loop (AO fn' tmps ps assign body D))) w (G.set l (.loop (AO fn' tmps ps assign body D))) w')
  (W:J 0 V) (Q:V l=none):
  Tri xE 263 #[.func (.yield l) #[] #[],pv bx] (V.set l (.loop (AO fn' tmps ps assign body D))) λe V'=>(∃v,e=.returned v)/\∃V2,V'=V2.set l (.loop (AO fn' tmps ps assign body D))/\V2 l=none/\J xs.length V2:=by
 refine KM (c:=Ay wA) (L:=Fw ((AI (Ay wA) [1,0]).getD 0 .skip) 0) (B:=Fw ((AI (Ay wA) [1,0,0,0]).getD 2 .skip) 0) (cA:=c263a) (cB:=c263b) (cE:=c263e) (ops:=c263c) (b0:=0) (b1:=1) (id:=3)
  (o6:=(c263c)[6]?.getD default) (at6:=#[3,108]) (el:=λk=>(xs[k]?.map Fld.v).getD undef) (Bk:=λM=>M bx=some (cell (.slice s.p s.n s.c) 23)/\Ad M s 2 (xs.map Fld.row))
  Tryz.func263 (by kernel_rfl) (by kernel_rfl) (by kernel_rfl) (by kernel_rfl) (by kernel_rfl) (by kernel_rfl) (by kernel_rfl) (by kernel_rfl) (by kernel_rfl) (by kernel_rfl) (by kernel_rfl) o ?_ ?_ ?_ ?_ ?_ ?_ ?_ W Q
 ·rintro M ⟨u,h⟩;refine s263a (a:=.func (.yield l) #[] #[]) (b:=some ⟨bx,0,none⟩) ?_;unfold w263a;exact⟨s,Al u,KN h,_,rfl,rfl,by rw[h.n_eq];rfl⟩
 ·intro M j;refine s263b (a:=.func (.yield l) #[] #[]) (b:=some ⟨bx,0,none⟩) ?_;unfold w263b;exact⟨_,rfl,rfl,rfl⟩
 ·rintro M k ⟨u,h⟩ S;refine s263c (a:=.func (.yield l) #[] #[]) (b:=some ⟨bx,0,none⟩) ?_;unfold w263c;obtain⟨x,hm,O,A,I,N,R,z⟩:=h.get (i:=k) (by rw[h.n_eq];omega);exact⟨s,Al u,N,R,by rw[h.n_eq];omega,x.name,x.ty,z,_,rfl,rfl,by rw[O];rfl⟩
 ·intro M j b;refine s263d (a:=.func (.yield l) #[] #[]) (b:=some ⟨bx,0,none⟩) ?_;unfold w263d;exact⟨_,rfl,rfl,rfl⟩
 ·rintro M j ⟨u,h⟩ Z X;have C:=h.cap;have E:=h.fit;have K:=h.n_eq;refine s263e (a:=.func (.yield l) #[] #[]) (b:=some ⟨bx,0,none⟩) ?_;unfold w263e;exact⟨⟨by omega,by omega⟩,_,rfl,rfl,rfl⟩
 ·intro i V2 Z y;obtain⟨u,h⟩:=Y i V2 Z y;have e:bx≠l:=λe=>by simp_all
  exact⟨by rw[Mem.set_ne e];exact u,h.sub (Mem.sub_new y _)⟩
 simp_all
theorem it186{V:Mem}{fn':FuncId}{tmps:Array Value}{ps:Array Tmp}{assign body:Code}{D:Nat}{l:Nat}{bx:Nat}{s:Sl}{xs:List Ty}{J:Nat->Mem->Prop}(o:ps.size=2)
  (Y:∀i V2,J i V2->V2 l=none->V2 bx=some (cell (.slice s.p s.n s.c) 22)/\Ad V2 s 2 (xs.map Ty.row))
  (r:∀k x,xs[k]?=some x->∀V2,J (xs.length-1-k) V2->V2 l=none->∀w,(V2.set l (.loop (AO fn' tmps ps assign body D))).le w->
   RoundIn (AV none) 0 xE l fn' ((ps.zip #[.int .i64 k,Ty.v x]).foldl (λt (p,v)=>t.setIfInBounds p v) tmps) assign body w λe w'=>
    e=.returned (.bool true)/\∃G,J (xs.length-k) G/\G l=none/\Aq (V2.set l (.loop (AO fn' tmps ps assign body D))) w (G.set l (.loop (AO fn' tmps ps assign body D))) w')
  (W:J 0 V) (Q:V l=none):
  Tri xE 186 #[.func (.yield l) #[] #[],pv bx] (V.set l (.loop (AO fn' tmps ps assign body D))) λe V'=>(∃v,e=.returned v)/\∃V2,V'=V2.set l (.loop (AO fn' tmps ps assign body D))/\V2 l=none/\J xs.length V2:=by
 refine KM (c:=Ay wB) (L:=Fw ((AI (Ay wB) [1,0]).getD 0 .skip) 0) (B:=Fw ((AI (Ay wB) [1,0,0,0]).getD 2 .skip) 0) (cA:=c186a) (cB:=c186b) (cE:=c186e) (ops:=c186c) (b0:=0) (b1:=1) (id:=3)
  (o6:=(c186c)[6]?.getD default) (at6:=#[3,92]) (el:=λk=>(xs[k]?.map Ty.v).getD undef) (Bk:=λM=>M bx=some (cell (.slice s.p s.n s.c) 22)/\Ad M s 2 (xs.map Ty.row))
  Tryz.func186 (by kernel_rfl) (by kernel_rfl) (by kernel_rfl) (by kernel_rfl) (by kernel_rfl) (by kernel_rfl) (by kernel_rfl) (by kernel_rfl) (by kernel_rfl) (by kernel_rfl) (by kernel_rfl) o ?_ ?_ ?_ ?_ ?_ ?_ ?_ W Q
 ·rintro M ⟨u,h⟩;refine s186a (a:=.func (.yield l) #[] #[]) (b:=some ⟨bx,0,none⟩) ?_;unfold w186a;exact⟨s,Al u,KN h,_,rfl,rfl,by rw[h.n_eq];rfl⟩
 ·intro M j;refine s186b (a:=.func (.yield l) #[] #[]) (b:=some ⟨bx,0,none⟩) ?_;unfold w186b;exact⟨_,rfl,rfl,rfl⟩
 ·rintro M k ⟨u,h⟩ S;refine s186c (a:=.func (.yield l) #[] #[]) (b:=some ⟨bx,0,none⟩) ?_;unfold w186c;obtain⟨x,hm,O,A,I,N,R,z⟩:=h.get (i:=k) (by rw[h.n_eq];omega);exact⟨s,Al u,N,R,by rw[h.n_eq];omega,x.name,x.fs,z,_,rfl,rfl,by rw[O];rfl⟩
 ·intro M j b;refine s186d (a:=.func (.yield l) #[] #[]) (b:=some ⟨bx,0,none⟩) ?_;unfold w186d;exact⟨_,rfl,rfl,rfl⟩
 ·rintro M j ⟨u,h⟩ Z X;have C:=h.cap;have E:=h.fit;have K:=h.n_eq;refine s186e (a:=.func (.yield l) #[] #[]) (b:=some ⟨bx,0,none⟩) ?_;unfold w186e;exact⟨⟨by omega,by omega⟩,_,rfl,rfl,rfl⟩
 ·intro i V2 Z y;obtain⟨u,h⟩:=Y i V2 Z y;have e:bx≠l:=λe=>by simp_all
  exact⟨by rw[Mem.set_ne e];exact u,h.sub (Mem.sub_new y _)⟩
 simp_all
theorem it187{V:Mem}{fn':FuncId}{tmps:Array Value}{ps:Array Tmp}{assign body:Code}{D:Nat}{l:Nat}{bx:Nat}{s:Sl}{xs:List Pr}{J:Nat->Mem->Prop}(o:ps.size=2)
  (Y:∀i V2,J i V2->V2 l=none->V2 bx=some (cell (.slice s.p s.n s.c) 24)/\Ad V2 s 5 (xs.map Pr.row))
  (r:∀k x,xs[k]?=some x->∀V2,J (xs.length-1-k) V2->V2 l=none->∀w,(V2.set l (.loop (AO fn' tmps ps assign body D))).le w->
   RoundIn (AV none) 0 xE l fn' ((ps.zip #[.int .i64 k,Pr.v x]).foldl (λt (p,v)=>t.setIfInBounds p v) tmps) assign body w λe w'=>
    e=.returned (.bool true)/\∃G,J (xs.length-k) G/\G l=none/\Aq (V2.set l (.loop (AO fn' tmps ps assign body D))) w (G.set l (.loop (AO fn' tmps ps assign body D))) w')
  (W:J 0 V) (Q:V l=none):
  Tri xE 187 #[.func (.yield l) #[] #[],pv bx] (V.set l (.loop (AO fn' tmps ps assign body D))) λe V'=>(∃v,e=.returned v)/\∃V2,V'=V2.set l (.loop (AO fn' tmps ps assign body D))/\V2 l=none/\J xs.length V2:=by
 refine KM (c:=Ay wC) (L:=Fw ((AI (Ay wC) [1,0]).getD 0 .skip) 0) (B:=Fw ((AI (Ay wC) [1,0,0,0]).getD 2 .skip) 0) (cA:=c187a) (cB:=c187b) (cE:=c187e) (ops:=c187c) (b0:=0) (b1:=1) (id:=3)
  (o6:=(c187c)[6]?.getD default) (at6:=#[3,144]) (el:=λk=>(xs[k]?.map Pr.v).getD undef) (Bk:=λM=>M bx=some (cell (.slice s.p s.n s.c) 24)/\Ad M s 5 (xs.map Pr.row))
  Tryz.func187 (by kernel_rfl) (by kernel_rfl) (by kernel_rfl) (by kernel_rfl) (by kernel_rfl) (by kernel_rfl) (by kernel_rfl) (by kernel_rfl) (by kernel_rfl) (by kernel_rfl) (by kernel_rfl) o ?_ ?_ ?_ ?_ ?_ ?_ ?_ W Q
 ·rintro M ⟨u,h⟩;refine s187a (a:=.func (.yield l) #[] #[]) (b:=some ⟨bx,0,none⟩) ?_;unfold w187a;exact⟨s,Al u,KN h,_,rfl,rfl,by rw[h.n_eq];rfl⟩
 ·intro M j;refine s187b (a:=.func (.yield l) #[] #[]) (b:=some ⟨bx,0,none⟩) ?_;unfold w187b;exact⟨_,rfl,rfl,rfl⟩
 ·rintro M k ⟨u,h⟩ S;refine s187c (a:=.func (.yield l) #[] #[]) (b:=some ⟨bx,0,none⟩) ?_;unfold w187c;obtain⟨x,hm,O,A,I,N,R,z⟩:=h.get (i:=k) (by rw[h.n_eq];omega);exact⟨s,Al u,N,R,by rw[h.n_eq];omega,x.name,x.ps,x.result,x.ls,x.bs,z,_,rfl,rfl,by rw[O];rfl⟩
 ·intro M j b;refine s187d (a:=.func (.yield l) #[] #[]) (b:=some ⟨bx,0,none⟩) ?_;unfold w187d;exact⟨_,rfl,rfl,rfl⟩
 ·rintro M j ⟨u,h⟩ Z X;have C:=h.cap;have E:=h.fit;have K:=h.n_eq;refine s187e (a:=.func (.yield l) #[] #[]) (b:=some ⟨bx,0,none⟩) ?_;unfold w187e;exact⟨⟨by omega,by omega⟩,_,rfl,rfl,rfl⟩
 ·intro i V2 Z y;obtain⟨u,h⟩:=Y i V2 Z y;have e:bx≠l:=λe=>by simp_all
  exact⟨by rw[Mem.set_ne e];exact u,h.sub (Mem.sub_new y _)⟩
 simp_all
theorem c255{V:Mem}{s:Sl}:Tri xE 255 #[.slice s.p s.n s.c] V λe V'=>∃b,V b=none/\e=.returned (.func (.func 263) #[] #[pv b])/\V'=V.set b (cell (.slice s.p s.n s.c) 23):=by
 refine x255 ?_;exact λb h=>⟨b,h,rfl,rfl⟩
theorem c147{V:Mem}{s:Sl}:Tri xE 147 #[.slice s.p s.n s.c] V λe V'=>∃b,V b=none/\e=.returned (.func (.func 186) #[] #[pv b])/\V'=V.set b (cell (.slice s.p s.n s.c) 22):=by
 refine x147 ?_;exact λb h=>⟨b,h,rfl,rfl⟩
theorem c148{V:Mem}{s:Sl}:Tri xE 148 #[.slice s.p s.n s.c] V λe V'=>∃b,V b=none/\e=.returned (.func (.func 187) #[] #[pv b])/\V'=V.set b (cell (.slice s.p s.n s.c) 24):=by
 refine x148 ?_;exact λb h=>⟨b,h,rfl,rfl⟩
theorem Jb{args:List Value}{N:Nat}(h:args.length<=N):Has N {tmps:=args.toArray++Array.replicate (N-args.toArray.size) undef,defers:=[]} ((zB args.length).zip args):=by
 refine⟨by simp;omega,λs v t=>?_⟩;rw[List.range_eq_range']at t;have key:∀(l:List Value)(k:Nat),((List.range' k l.length).zip l).lookup s=some v->k<=s/\l[s-k]?=some v:=by
  intro l;induction l with
  |nil=>simp_all
  |cons x xs y=>
   intro k h;simp only[zy,List.range'_succ,xg,zc]at h;grind
 obtain⟨-,u⟩:=key args 0 t;have z:=(yv.1 u).1;simp_all[Nat.sub_zero,wF,Array.getElem?_append_left]
theorem Jc{tmps:Array Value}{p q:Nat}{u v:Value}:((#[p,q].zip #[u,v]).foldl (λt (p,v)=>t.setIfInBounds p v) tmps)=(tmps.setIfInBounds p u).setIfInBounds q v:=by
 simp
theorem Jd{tmps:Array Value}{p s:Nat}{u:Value}(h:s≠p):(tmps.setIfInBounds p u).getD s undef=tmps.getD s undef:=by
 simp[wF,Array.getElem?_setIfInBounds_ne (Ne.symm h)]
theorem getD_same{tmps:Array Value}{p:Nat}{u:Value}(h:p<tmps.size):(tmps.setIfInBounds p u).getD p undef=u:=by
 simp_all
theorem KO(f:Fld)(l:List Fld)(k:KB):BB (f::l) k=if k=f.name then some f.ty else BB l k:=by
 grind[BB]
theorem varOf_app(a b:List Fld)(k:KB):BB (a++b) k=(BB a k).or (BB b k):=by
 grind[BB]
theorem varOf_any(a:List Fld)(k:KB):(BB a k).isSome=a.any λf=>decide (f.name=k):=by
 grind[BB]
theorem seen_old{a g:List Fld}{f:Fld}(h:(a.any λx=>decide (x.name=f.name))=true)(k:KB):BB (a++[f]++g) k=BB (a++g) k:=by
 simp only[varOf_app,KO];rw[<-varOf_any]at h;by_cases e:k=f.name
 ·subst e;rw[if_pos rfl];cases t:BB a f.name with
  |none=>simp_all
  |some x=>rfl
 grind[BB]
theorem seen_new{a g:List Fld}{f:Fld}(h:¬(a.any λx=>decide (x.name=f.name))=true)(k:KB):BB (a++[f]++g) k=if k=f.name then some f.ty else BB (a++g) k:=by
 simp only[varOf_app,KO];rw[<-varOf_any]at h;by_cases e:k=f.name;·simp_all
 grind[BB]
structure SI (V:Mem)(c:Option Addr)(body:Bool)(d:Ds)(mb bx b6 b7:Nat)(m:KB->Option Value)(V1:Mem):Prop where
 sub:V.sub V1
 nm:V mb=none
 n6:V b6=none
 map:A6 V1 mb m
 bx:V1 bx=some (cell (.slice d.gs.p d.gs.n d.gs.c) 23)
 b6:V1 b6=some (.cells #[.pointer none,.map none,.bool false] 269 (0,0))
 b7:V1 b7=some (.cells #[.pointer c,.map (some mb),.bool body] 269 (0,0))
section
variable{V V1:Mem}{c:Option Addr}{body:Bool}{d:Ds}{mb bx b6 b7:Nat}{m m':KB->Option Value}
theorem SI.fresh(h:SI V c body d mb bx b6 b7 m V1){b:Nat}(t:V1 b=none)(o:Obj):SI V c body d mb bx b6 b7 m (V1.set b o):=
 have k:=Mem.sub_new t o
 ⟨h.sub.trans k,h.nm,h.n6,h.map.sub k,k _ _ h.bx,k _ _ h.b6,k _ _ h.b7⟩
theorem SI.up(h:SI V c body d mb bx b6 b7 m V1){o:Obj}(k:A6 (V1.set mb o) mb m'):SI V c body d mb bx b6 b7 m' (V1.set mb o):=by
 obtain⟨es,y,hm,-,-⟩:=h.map.at_;have t:bx≠mb:=λe=>by have:=h.bx;simp_all
 have u:b6≠mb:=λe=>by have:=h.b6;simp_all
 have z:b7≠mb:=λe=>by have:=h.b7;simp_all
 exact⟨h.sub.set h.nm o,h.nm,h.n6,k,by rw[Mem.set_ne t];exact h.bx,by rw[Mem.set_ne u];exact h.b6,by rw[Mem.set_ne z];exact h.b7⟩
theorem SI.cg(h:SI V c body d mb bx b6 b7 m V1)(e:∀k,m k=m' k):SI V c body d mb bx b6 b7 m' V1:=⟨h.sub,h.nm,h.n6,h.map.congr e,h.bx,h.b6,h.b7⟩
end
section
variable{V V1:Mem}{c:Option Addr}{body:Bool}{d:Ds}{mb bx b6 b7:Nat}{m m':KB->Option Value}
theorem scopeRound{l:Sl}(h:SI V c body d mb bx b6 b7 m V1)(x:Fld)(V2:Mem)(b:Nat)(u:V1 b=none)(z:V2=V1.set b (.cells x.row.toArray 108 (0,0))):
  AH xE 63 c238c [(7,pv b7),(9,pv b)] [] V2 λ_ y=>SI V c body d mb bx b6 b7 (λk=>if k=x.name then some (.string x.ty)else m k) y:=by
 subst z;have t:=h.fresh u (.cells x.row.toArray 108 (0,0));refine s238c ?_;unfold w238c;refine⟨by simp,some mb,At t.b7 1 1 (by simp),by simp,x.name,At As 0 1 (by simp[Fld.row]),by simp,x.ty,At As 1 1 (by simp[Fld.row]),?_⟩;exact BQ.str xX xW t.map λo j=>⟨_,rfl,t.up j⟩
theorem scopeAssign(x:Fld):AH xE 63 c238b [(7,pv b7),(26,Fld.v x)] [7,9] V1 λvs V2=>∃b,V1 b=none/\V2=V1.set b (.cells x.row.toArray 108 (0,0))/\vs=[pv b7,pv b]:=by
 refine s238b (b:=x.name) (c:=x.ty) ?_;unfold w238b;exact λb h=>⟨_,rfl,b,h,rfl,rfl⟩
theorem zero4(w:World):(zeroValue 4).run xE w=.ok (.bool false) w:=by kernel_rfl
theorem scopeTail{l:Sl}{ls:List (Sl×List Fld)}(h:SI V c body d mb bx b6 b7 (λk=>(BB d.globals k).map xN) V1)(hl:Ad V l 1 (ls.map λx=>[x.1.v]))(E:∀x∈ls,Ad V x.1 2 (x.2.map Fld.row)):
  AH xE 63 c238d [(0,.pointer c),(1,.bool body),(2,.slice l.p l.n l.c),(6,pv b6),(7,pv b7)] [6] V1 λvs V2=>vs=[pv b6]/\
   V.sub V2/\V mb=none/\A6 V2 mb (λk=>(BB (ls.flatMap (·.2)++d.globals) k).map xN)/\V2 b6=some (.cells #[.pointer c,.map (some mb),.bool body] 269 (0,0)):=by
 refine s238d ?_;unfold w238d;refine GenK.makeMap λa K=>⟨some a,rfl,?_⟩;have S:V a=none:=by
  cases hc:V a with
  |none=>rfl
  |some o=>have:=h.sub _ _ hc;simp_all
 have A:mb≠a:=λe=>by
  obtain⟨es,cl,hm,-,-⟩:=h.map.at_;simp_all
 let TI (done:List Fld) (V2:Mem):Prop:=SI V c body d mb bx b6 b7 (λk=>(BB (done++d.globals) k).map xN) V2/\A6 V2 a (λk=>if(done.any λf=>decide (f.name=k))=true then some (.bool true)else none);have h0:TI [] (V1.set a (.map #[] 0)):=⟨h.fresh K _,(A6.made V1 a).congr λk=>by simp⟩;refine E3 ls.length (λi V2=>TI ((ls.take i).flatMap (·.2)) V2) (by simpa using h0) ?_;intro i V2 J hi z hJ;have Y:=hl.sub z.1.sub;refine⟨λr=>?_,λr=>?_⟩
 ·obtain⟨x,hm,hx,hdr,I,T,hz,M⟩:=Y.get r;refine⟨T,hz,r,x.1,M,?_⟩;have htk:(ls.take (i+1)).flatMap (·.2)=(ls.take i).flatMap (·.2)++x.2:=by
   grind
  refine E3 x.2.length (λj V3=>TI ((ls.take i).flatMap (·.2)++x.2.take j) V3) (by simpa using z) ?_;intro j V3 J' hj t L;have G:=(E x hm).sub t.1.sub;refine⟨λu=>?_,λu=>?_⟩
  ·obtain⟨f,hmf,hf,hdrf,Z,R,U,W⟩:=G.get u;have Q:(ls.take i).flatMap (·.2)++x.2.take (j+1)=((ls.take i).flatMap (·.2)++x.2.take j)++[f]:=by
    grind
   refine⟨R,U,u,f.name,f.ty,W,?_⟩;refine Bl.str1 wG xW zero4 t.2 ?_;generalize hdone:(ls.take i).flatMap (·.2)++x.2.take j=done at t Q;refine⟨done.any λy=>decide (y.name=f.name),?_,λhs=>?_,λhs=>?_⟩;·grind
   ·refine⟨G.succ u,L Z _ ?_⟩;rw[Q];refine⟨t.1.cg λk=>by rw[seen_old hs],t.2.congr λk=>?_⟩;grind
   ·refine⟨by simp,some mb,At t.1.b7 1 1 (by simp),?_⟩;refine BQ.str xX xW t.1.map λo ho=>?_;have hsi:=t.1.up ho;refine BQ.str wG xW (t.2.set (o:=o) (Ne.symm A)) λo2 ho2=>?_;refine⟨G.succ u,L Z _ ?_⟩;rw[Q];have X:b6≠a:=λe=>by have:=h.b6;simp_all
    have B:b7≠a:=λe=>by have:=h.b7;simp_all
    have C:bx≠a:=λe=>by have:=h.bx;simp_all
    refine⟨?_,ho2.congr λk=>?_⟩
    ·have O:=hsi.cg (m':=λk=>(BB (done++[f]++d.globals) k).map xN) λk=>by
      rw[seen_new hs];grind
     exact⟨O.sub.set S _,O.nm,O.n6,O.map.set A,by rw[Mem.set_ne C];exact O.bx,by rw[Mem.set_ne X];exact O.b6,by rw[Mem.set_ne B];exact O.b7⟩
    grind
  ·obtain⟨hd,D⟩:=G.done u;refine⟨Y.succ r,hJ I _ ?_⟩;simp_all[wH]
 ·obtain⟨hd,D⟩:=Y.done r;rw[wH D]at z;have N:=At z.1.b7 0 3 (by simp);refine⟨c,some mb,body,N,⟨⟨b6,0,none⟩,_,_,rfl,z.1.b6,rfl,by simp,?_⟩⟩;have e7:mb≠b6:=λe=>by
   obtain⟨es,cl,hm,-,-⟩:=z.1.map.at_;have:=z.1.b6;simp_all
  exact⟨_,rfl,rfl,z.1.sub.set h.n6 _,h.nm,z.1.map.set e7,by rw[Mem.set_same];rfl⟩
end
theorem cell3{b:Nat}{c:Option Addr}{mb:Option Nat}{body:Bool}{w:World}(h:w.heap[b]?=some (.cells #[.pointer c,.map mb,.bool body] 269 (0,0))):(loadVar 269 ⟨b,0,none⟩).run xE w=.ok (.agg #[.pointer c,.map mb,.bool body]) w:=
 J7 (P:=xE) (t:=269) (cs:=.cons (.var .p 0) (.cons (.var .m 1) (.cons (.var .b 2) .nil))) (x:=.agg (.cons (.var .p 0) (.cons (.var .m 1) (.cons (.var .b 2) .nil)))) (ρ:=[.pointer c,.map mb,.bool body]) (β:=id) (o:=0) h (by kernel_rfl)
theorem results113{tmps:Array Value}{b:Nat}{c:Option Addr}{mb:Option Nat}{body:Bool}{w:World}(k:tmps.getD 6 undef=pv b)(h:w.heap[b]?=some (.cells #[.pointer c,.map mb,.bool body] 269 (0,0))):
  (results wD tmps).run xE w=.ok (.agg #[.pointer c,.map mb,.bool body]) w:=by
 have t:wD.results=#[.cell 6 269]:=by kernel_rfl
 unfold results;rw[t];have e:asAddr (tmps.getD 6 undef)=pure ⟨b,0,none⟩:=by rw[k];rfl
 simp only[List.mapM_toArray,wI,List.mapM_nil,Sem.run_bind,Sem.run_map,Sem.run_pure,zL,e,cell3 h];rfl
theorem Je{V V1 V2 k:Mem}{w t u w3:World}{D:Nat}(j:Aq V w V1 t)(l:Aq V1 t V2 u)(r:t.heap.size<=D)(a:V2 D=none)(i:u.heap[D]?=some (.deferred (some [])))(z:Aq V2 u k w3):
  Aq V w k w3/\w.heap.size<=D/\w3.heap[D]?=some (.deferred (some []))/\k D=none:=by
 have y:=(yA.1 i).1;refine⟨(j.trans l).trans z,Nat.le_trans j.size r,(z.old D y a).trans i,?_⟩;cases e:k D with
 |none=>rfl
 |some o=>
  rcases z.dom D (by rw[e];simp)with h|h
  ·grind
  ·omega
theorem scopeC:FZ:=by
 intro V c d body l ls a hl A;refine KL (c:=Ay wD) Tryz.func238 (by kernel_rfl) ?_;intro w hV;rw[show flat (Ay wD)=c238a++([.block 0 (.rangeFunc (.tmp 24) #[25,26] ((AI (Ay wD) [3,0,0,0]).getD 0 .skip) ((AI (Ay wD) [3,0,0,1]).getD 0 .skip))]++(c238d++[.ret]))from by kernel_rfl];have hA:AH xE 63 c238a [(0,.pointer c),(1,.bool body),(2,.slice l.p l.n l.c)] [0,1,2,6,7,24] V λvs V1=>∃mb bx b6 b7,
   vs=[.pointer c,.bool body,.slice l.p l.n l.c,pv b6,pv b7,.func (.func 263) #[] #[pv bx]]/\SI V c body d mb bx b6 b7 (λ_=>none) V1:=by
  refine s238a ?_;unfold w238a;refine GenK.makeMap λmb j=>⟨some mb,rfl,a.nn,a.nn,?_,d.gs,?_,?_⟩
  ·obtain⟨cb,mt,mp,t,I,h2,h3,Y⟩:=a.at_;rw[I];simp[Aa]
  ·exact(a.sub (Mem.sub_new j _)).cell (i:=2) rfl
  refine Tri.mono c255 ?_;rintro _ V2 ⟨bx,M,rfl,rfl⟩;refine⟨.func (.func 263) #[] #[pv bx],rfl,rfl,λb6 L b7 R=>⟨_,rfl,mb,bx,b6,b7,rfl,?_⟩⟩;have n1:bx≠mb:=λe=>by grind[Mem.set_same]
  have n2:b6≠bx:=λe=>by grind[Mem.set_same]
  have n3:b7≠b6:=λe=>by grind[Mem.set_same]
  have s1:=Mem.sub_new j (.map #[] 0);have X:=Mem.sub_new M (cell (.slice d.gs.p d.gs.n d.gs.c) 23);have B:=Mem.sub_new L (.cells #[.pointer none,.map none,.bool false] 269 (0,0));have Q:=Mem.sub_new R (.cells #[.pointer c,.map (some mb),.bool body] 269 (0,0));refine⟨s1.trans (X.trans (B.trans Q)),j,?_,(A6.made V mb).sub (X.trans (B.trans Q)),(B.trans Q) _ _ As,Q _ _ As,Mem.set_same _ _ _⟩;cases hv:V b6 with
  |none=>rfl
  |some o=>have:=(s1.trans X) _ _ hv;simp_all
 refine hA.step hV (Jb (args:=[.pointer c,.bool body,.slice l.p l.n l.c]) (N:=63) (by simp)) ?_;rintro a1 w1 vs V1 hd1 u ⟨mb,bx,b6,b7,rfl,C⟩ G;show xh (AV none) 0 xE _ _ a1 w1;refine wpIn_block ?_;have E:=λfn K D r=>it263 (V:=V1) (fn':=fn) (tmps:=a1.tmps) (ps:=#[25,26]) (assign:=(AI (Ay wD) [3,0,0,0]).getD 0 .skip) (body:=(AI (Ay wD) [3,0,0,1]).getD 0 .skip) (D:=D) (l:=K) (bx:=bx) (s:=d.gs) (xs:=d.globals)
  (J:=λi V2=>SI V c body d mb bx b6 b7 (λk=>(BB (d.globals.drop (d.globals.length-i)) k).map xN) V2) rfl (λi V2 O _=>⟨O.bx,a.ok.globals.sub O.sub⟩) (λk x hx V2 O S w2 T=>by
   have hk:=(yv.1 hx).1;refine Ja (N:=63) (insA:=[(7,pv b7),(26,Fld.v x)]) (outsA:=[7,9]) S T (by rw[Jc];simpa using u.1) ?_ (scopeAssign x) (λvs U hvs=>?_)
   ·intro s v z;rw[Jc];simp only[zc]at z;split at z
    ·rename_i e;simp only[beq_iff_eq]at e;subst e;cases z;rw[Jd (by decide),Jd (by decide)];exact u.get rfl
    ·split at z
     ·rename_i e;simp only[beq_iff_eq]at e;subst e;cases z;exact getD_same (by simp[u.1])
     ·cases z
   ·obtain⟨b,hb,e2,rfl⟩:=hvs;refine(scopeRound (l:=l) O x U b hb e2).mono λ_ V4 Y=>Y.cg λy=>?_;rw[show d.globals.length-(d.globals.length-1-k)=k+1 by omega,show d.globals.length-(d.globals.length-k)=k by omega];have e3:d.globals.drop k=x::d.globals.drop (k+1):=by
     grind[xR,yv]
    rw[e3,KO];grind)
  (by simpa [BB]using C) r
 refine I9 (Φ:=λV2=>SI V c body d mb bx b6 b7 (λk=>(BB d.globals k).map xN) V2) G.le (u.get (s:=24) rfl) Tryz.call263 (λfn K D r=>Tri.mono (E fn K D r) λe V' h=>?_) ?_;·simp_all
 ·intro D V2 W hD Z hn2 hW hS2;show Dd none 0 xE _ (c238d++[.ret]) _ W;refine(scopeTail hS2 hl A).step Z.le ⟨u.1,λs v z=>u.2 s v ?_⟩ ?_
  ·simp only[xg,zc]at z⊢
   repeat' (split at z<;>first|exact z|skip)
   simp_all
  ·rintro a3 w3 vs U hd3 hH3 ⟨rfl,I,h2,h3,Y⟩ hF3;show xh (AV none) 0 xE .ret _ a3 w3;refine wpIn_ret ?_;obtain⟨g1,g2,g3,g4⟩:=Je G Z hD hn2 hW hF3;refine⟨.inr rfl,[D],?_,by simp,U,g1,λD' hD'=>?_,_,λw4 hw4=>results113 (hH3.get rfl) (hw4 _ _ Y),mb,rfl,I,h2,h3⟩;·simp_all
   simp_all
structure NI (V:Mem)(d:Ds)(cb mt mp p1 p3:Nat)(f g:KB->Option Value)(V1:Mem):Prop where
 sub:V.sub V1
 nt:V mt=none
 np:V mp=none
 ne:mt≠mp
 ck:V1 cb=some (.cells (d.row++[zz (some mt),zz (some mp)]).toArray 211 (0,0))
 b1:V1 p1=some (.cells d.row.toArray 30 (0,0))
 b3:V1 p3=some (cell (pv cb) 176)
 mapT:A6 V1 mt f
 mapP:A6 V1 mp g
section
variable{V V1:Mem}{d:Ds}{cb mt mp p1 p3:Nat}{f g f' g':KB->Option Value}
theorem NI.fresh(h:NI V d cb mt mp p1 p3 f g V1){b:Nat}(t:V1 b=none)(o:Obj):NI V d cb mt mp p1 p3 f g (V1.set b o):=
 have k:=Mem.sub_new t o
 ⟨h.sub.trans k,h.nt,h.np,h.ne,k _ _ h.ck,k _ _ h.b1,k _ _ h.b3,h.mapT.sub k,h.mapP.sub k⟩
theorem F5{V:Mem}{b m:Nat}{c:Array Value}{t:Nat}{k:Nat×Nat}{f:KB->Option Value}(h:V b=some (.cells c t k))(hm:A6 V m f):b≠m:=λe=>by
 obtain⟨es,u,hm,-,-⟩:=hm.at_;simp_all
theorem NI.upT(h:NI V d cb mt mp p1 p3 f g V1){o:Obj}(k:A6 (V1.set mt o) mt f'):NI V d cb mt mp p1 p3 f' g (V1.set mt o):=
 ⟨h.sub.set h.nt o,h.nt,h.np,h.ne,by rw[Mem.set_ne (F5 h.ck h.mapT)];exact h.ck,by rw[Mem.set_ne (F5 h.b1 h.mapT)];exact h.b1,by rw[Mem.set_ne (F5 h.b3 h.mapT)];exact h.b3,k,h.mapP.set (Ne.symm h.ne)⟩
theorem NI.upP(h:NI V d cb mt mp p1 p3 f g V1){o:Obj}(k:A6 (V1.set mp o) mp g'):NI V d cb mt mp p1 p3 f g' (V1.set mp o):=
 ⟨h.sub.set h.np o,h.nt,h.np,h.ne,by rw[Mem.set_ne (F5 h.ck h.mapP)];exact h.ck,by rw[Mem.set_ne (F5 h.b1 h.mapP)];exact h.b1,by rw[Mem.set_ne (F5 h.b3 h.mapP)];exact h.b3,h.mapT.set h.ne,k⟩
theorem NI.cg(h:NI V d cb mt mp p1 p3 f g V1)(t:∀k,f k=f' k)(u:∀k,g k=g' k):NI V d cb mt mp p1 p3 f' g' V1:=⟨h.sub,h.nt,h.np,h.ne,h.ck,h.b1,h.b3,h.mapT.congr t,h.mapP.congr u⟩
theorem newRoundT(h:NI V d cb mt mp p1 p3 f g V1){bx:Nat}{v:Value}{ty:Nat}(z:V1 bx=some (cell v ty))(x:Ty)(V2:Mem)(b:Nat)(y:V1 b=none)(i:V2=V1.set b (.cells x.row.toArray 92 (0,0))):
  AH xE 38 c104c [(3,pv p3),(5,pv b)] [] V2 λ_ j=>NI V d cb mt mp p1 p3 (λk=>if k=x.name then some x.v else f k) g j/\j bx=some (cell v ty):=by
 subst i;have u:=h.fresh y (.cells x.row.toArray 92 (0,0));have t:=Mem.sub_new y (.cells x.row.toArray 92 (0,0)) _ _ z;refine s104c ?_;unfold w104c;refine⟨_,Al u.b3,by simp,by simp,some mt,At u.ck 8 1 (by simp[Ds.row]),by simp,x.name,At As 0 1 (by simp[Ty.row]),x.name,x.fs,At As 0 2 (by simp[Ty.row]),?_⟩;exact BQ.str Tryz.underlying208 xW u.mapT λo l=>⟨_,rfl,u.upT l,by rw[Mem.set_ne (F5 t u.mapT)];exact t⟩
theorem newRoundP(h:NI V d cb mt mp p1 p3 f g V1){bx:Nat}{v:Value}{ty:Nat}(z:V1 bx=some (cell v ty))(x:Pr)(V2:Mem)(b:Nat)(y:V1 b=none)(i:V2=V1.set b (.cells x.row.toArray 144 (0,0))):
  AH xE 38 c104f [(3,pv p3),(7,pv b)] [] V2 λ_ j=>NI V d cb mt mp p1 p3 f (λk=>if k=x.name then some x.v else g k) j/\j bx=some (cell v ty):=by
 subst i;have u:=h.fresh y (.cells x.row.toArray 144 (0,0));have t:=Mem.sub_new y (.cells x.row.toArray 144 (0,0)) _ _ z;refine s104f ?_;unfold w104f;refine⟨_,Al u.b3,by simp,by simp,some mp,At u.ck 9 1 (by simp[Ds.row]),by simp,x.name,At As 0 1 (by simp[Pr.row]),x.name,x.ps,x.result,x.ls,x.bs,At As 0 5 (by simp[Pr.row]),?_⟩;exact BQ.str Tryz.underlying209 xW u.mapP λo l=>⟨_,rfl,u.upP l,by rw[Mem.set_ne (F5 t u.mapP)];exact t⟩
theorem newAssignT(x:Ty):AH xE 38 c104b [(3,pv p3),(17,Ty.v x)] [3,5] V1 λvs V2=>∃b,V1 b=none/\V2=V1.set b (.cells x.row.toArray 92 (0,0))/\vs=[pv p3,pv b]:=by
 refine s104b (b:=x.name) (c:=x.fs) ?_;unfold w104b;exact λb h=>⟨_,rfl,b,h,rfl,rfl⟩
theorem newAssignP(x:Pr):AH xE 38 c104e [(3,pv p3),(29,Pr.v x)] [3,7] V1 λvs V2=>∃b,V1 b=none/\V2=V1.set b (.cells x.row.toArray 144 (0,0))/\vs=[pv p3,pv b]:=by
 refine s104e (b:=x.name) (c:=x.ps) (d:=x.result) (g:=x.ls) (i:=x.bs) ?_;unfold w104e;exact λb h=>⟨_,rfl,b,h,rfl,rfl⟩
end
theorem Jf{N:Nat}{a:Act}{p q r:Nat}{l:List (Nat×Value)}{vr u z:Value}(k:Has N a l)(j:l.lookup r=some vr)(i:r≠p)(o:r≠q)(y:q<N):Has N {tmps:=(#[p,q].zip #[u,z]).foldl (λt (p,v)=>t.setIfInBounds p v) a.tmps,defers:=[]} [(r,vr),(q,z)]:=by
 refine⟨by rw[Jc];simpa using k.1,λs v h=>?_⟩;rw[Jc];simp only[zc]at h;split at h
 ·rename_i e;simp only[beq_iff_eq]at e;subst e;cases h;rw[Jd o,Jd i];exact k.get j
 ·split at h
  ·rename_i e;simp only[beq_iff_eq]at e;subst e;cases h;exact getD_same (by simp[k.1,y])
  ·cases h
theorem mark_keep{V V1:Mem}{w t:World}{D:Nat}(h:Aq V w V1 t)(z:V D=none)(u:w.heap[D]?=some (.deferred (some []))):t.heap[D]?=some (.deferred (some []))/\V1 D=none:=by
 have k:=(yA.1 u).1;refine⟨(h.old D k z).trans u,?_⟩;cases y:V1 D with
 |none=>rfl
 |some o=>
  rcases h.dom D (by rw[y];simp)with h|h
  ·grind
  ·omega
theorem find_drop{α:Type}{l:List α}{nm:α->KB}{vv:α->Value}{k:Nat}{x:α}(h:l[k]?=some x)(y:KB):
  (if y=nm x then some (vv x)else((l.drop (l.length-(l.length-1-k))).find? λt=>decide (nm t=y)).map vv)=((l.drop (l.length-(l.length-k))).find? λt=>decide (nm t=y)).map vv:=by
 have u:=(yv.1 h).1;rw[show l.length-(l.length-1-k)=k+1 by omega,show l.length-(l.length-k)=k by omega];have z:l.drop k=x::l.drop (k+1):=by
  grind[xR,yv]
 grind
theorem newC:NewC:=by
 intro V d hd;refine KL (c:=Ay wE) Tryz.func104 (by kernel_rfl) ?_;intro w hV;rw[show flat (Ay wE)=c104a++([.block 0 (.rangeFunc (.tmp 15) #[16,17] ((AI (Ay wE) [3,0,0,0]).getD 0 .skip) ((AI (Ay wE) [3,0,0,1]).getD 0 .skip))]++
  (c104d++([.block 2 (.rangeFunc (.tmp 27) #[28,29] ((AI (Ay wE) [5,0,0,0]).getD 0 .skip) ((AI (Ay wE) [5,0,0,1]).getD 0 .skip))]++(c104g++[.ret]))))from by kernel_rfl]
 have hA:AH xE 38 c104a [(0,d.v)] [1,3,15] V λvs V1=>∃cb mt mp p1 p3 bx,
   vs=[pv p1,pv p3,.func (.func 186) #[] #[pv bx]]/\NI V d cb mt mp p1 p3 (λ_=>none) (λ_=>none) V1/\V1 bx=some (cell (.slice d.ts.p d.ts.n d.ts.c) 22):=by
  refine s104a (a:=d.name) (b:=d.ts) (c:=d.gs) (d:=d.ps) (g:=d.ms) (i:=d.is) (j:=d.qs) (k:=d.bs) ?_;unfold w104a;refine GenK.makeMap λmt K=>⟨some mt,rfl,GenK.makeMap λmp hmp=>⟨some mp,rfl,?_⟩⟩;refine Tri.mono c147 ?_;rintro _ V2 ⟨bx,M,rfl,rfl⟩;refine⟨.func (.func 186) #[] #[pv bx],rfl,rfl,λp1 hp1 cb hcb p3 hp3=>⟨_,rfl,cb,mt,mp,p1,p3,bx,rfl,?_,?_⟩⟩;all_goals
   have s1:=Mem.sub_new K (.map #[] 0);have s2:=Mem.sub_new hmp (.map #[] 0);have s3:=Mem.sub_new M (cell (.slice d.ts.p d.ts.n d.ts.c) 22);have s4:=Mem.sub_new hp1 (.cells d.row.toArray 30 (0,0));have S:=Mem.sub_new hcb (.cells (d.row++[zz (some mt),zz (some mp)]).toArray 211 (0,0));have E:=Mem.sub_new hp3 (cell (pv cb) 176)
  ·have nmp:mt≠mp:=λe=>by grind[Mem.set_same]
   refine⟨s1.trans (s2.trans (s3.trans (s4.trans (S.trans E)))),K,?_,nmp,E _ _ As,(S.trans E) _ _ As,Mem.set_same _ _ _,(A6.made V mt).sub (s2.trans (s3.trans (s4.trans (S.trans E)))),(A6.made (V.set mt (.map #[] 0)) mp).sub (s3.trans (s4.trans (S.trans E)))⟩;cases hv:V mp with
   |none=>rfl
   |some o=>have:=s1 _ _ hv;simp_all
  ·exact(s4.trans (S.trans E)) _ _ As
 refine hA.step hV (Jb (args:=[d.v]) (N:=38) (by simp)) ?_;rintro a1 w1 vs V1 hd1 Y ⟨cb,mt,mp,p1,p3,bx,rfl,hN1,T⟩ U;show xh (AV none) 0 xE _ _ a1 w1;refine wpIn_block ?_;have hit:=λfn L D G=>it186 (V:=V1) (fn':=fn) (tmps:=a1.tmps) (ps:=#[16,17]) (assign:=(AI (Ay wE) [3,0,0,0]).getD 0 .skip) (body:=(AI (Ay wE) [3,0,0,1]).getD 0 .skip) (D:=D) (l:=L) (bx:=bx) (s:=d.ts) (xs:=d.types)
  (J:=λi V2=>NI V d cb mt mp p1 p3 (λy=>((d.types.drop (d.types.length-i)).find? λt=>decide (t.name=y)).map Ty.v) (λ_=>none) V2/\V2 bx=some (cell (.slice d.ts.p d.ts.n d.ts.c) 22)) rfl (λi V2 Q _=>⟨Q.2,hd.types.sub Q.1.sub⟩) (λk x hx V2 Q R w2 X=>by
   refine Ja (N:=38) (insA:=[(3,pv p3),(17,Ty.v x)]) (outsA:=[3,5]) R X (Jf (u:=.int .i64 k) (z:=Ty.v x) (p:=16) (q:=17) (r:=3) Y rfl (by decide) (by decide) (by decide)).1 (Jf (p:=16) (q:=17) (r:=3) Y rfl (by decide) (by decide) (by decide)).2 (newAssignT x) (λvs A B=>?_);obtain⟨b,hb,e2,rfl⟩:=B;exact(newRoundT Q.1 Q.2 x A b hb e2).mono λ_ V4 I=>⟨I.1.cg (find_drop (nm:=Ty.name) (vv:=Ty.v) hx) λ_=>rfl,I.2⟩)
  ⟨by simpa using hN1,T⟩ G
 refine I9 (Φ:=λV2=>NI V d cb mt mp p1 p3 (λy=>(tyOf d y).map Ty.v) (λ_=>none) V2) U.le (Y.get (s:=15) rfl) Tryz.call186 (λfn L D G=>Tri.mono (hit fn L D G) λe V' h=>?_) ?_
 ·obtain⟨h1,V2,h2,h3,I⟩:=h;exact⟨h1,V2,h2,h3,by simpa [tyOf]using I.1⟩
 intro D V2 W hD hF2 hn2 hW hN2;show Dd none 0 xE _ (c104d++_) _ W;have hS:AH xE 38 c104d [(1,pv p1),(3,pv p3)] [3,27] V2 λvs A=>∃bx,vs=[pv p3,.func (.func 187) #[] #[pv bx]]/\NI V d cb mt mp p1 p3 (λy=>(tyOf d y).map Ty.v) (λ_=>none) A/\A bx=some (cell (.slice d.ps.p d.ps.n d.ps.c) 24):=by
  refine s104d ?_;unfold w104d;refine⟨by simp,d.ps,At hN2.b1 3 1 (by simp[Ds.row]),?_⟩;refine Tri.mono c148 ?_;rintro _ A ⟨bx,M,rfl,rfl⟩;exact⟨.func (.func 187) #[] #[pv bx],rfl,rfl,_,rfl,bx,rfl,hN2.fresh M _,Mem.set_same _ _ _⟩
 refine hS.step hF2.le ⟨Y.1,λs v hs=>Y.2 s v ?_⟩ ?_;·grind[xg]
 rintro a3 w3 vs A hd3 O ⟨bx2,rfl,hN3,hbx3⟩ hF3;show xh (AV none) 0 xE _ _ a3 w3;refine wpIn_block ?_;have hit2:=λfn L D G=>it187 (V:=A) (fn':=fn) (tmps:=a3.tmps) (ps:=#[28,29]) (assign:=(AI (Ay wE) [5,0,0,0]).getD 0 .skip) (body:=(AI (Ay wE) [5,0,0,1]).getD 0 .skip) (D:=D) (l:=L) (bx:=bx2) (s:=d.ps) (xs:=d.procs)
  (J:=λi V2=>NI V d cb mt mp p1 p3 (λy=>(tyOf d y).map Ty.v) (λy=>((d.procs.drop (d.procs.length-i)).find? λt=>decide (t.name=y)).map Pr.v) V2/\V2 bx2=some (cell (.slice d.ps.p d.ps.n d.ps.c) 24)) rfl (λi V2 Q _=>⟨Q.2,hd.procs.sub Q.1.sub⟩) (λk x hx V2 Q R w2 X=>by
   refine Ja (N:=38) (insA:=[(3,pv p3),(29,Pr.v x)]) (outsA:=[3,7]) R X (Jf (u:=.int .i64 k) (z:=Pr.v x) (p:=28) (q:=29) (r:=3) O rfl (by decide) (by decide) (by decide)).1 (Jf (p:=28) (q:=29) (r:=3) O rfl (by decide) (by decide) (by decide)).2 (newAssignP x) (λvs A B=>?_);obtain⟨b,hb,e2,rfl⟩:=B;exact(newRoundP Q.1 Q.2 x A b hb e2).mono λ_ V4 I=>⟨I.1.cg (λ_=>rfl) (find_drop (nm:=Pr.name) (vv:=Pr.v) hx),I.2⟩)
  ⟨by simpa using hN3,hbx3⟩ G
 refine I9 (Φ:=λV2=>NI V d cb mt mp p1 p3 (λy=>(tyOf d y).map Ty.v) (λy=>(BI d y).map Pr.v) V2) hF3.le (O.get (s:=27) rfl) Tryz.call187 (λfn L D G=>Tri.mono (hit2 fn L D G) λe V' h=>?_) ?_
 ·obtain⟨h1,V2,h2,h3,I⟩:=h;exact⟨h1,V2,h2,h3,by simpa [BI]using I.1⟩
 intro D2 V4 W4 hD2 C hn4 hW4 Z;show Dd none 0 xE _ (c104g++_) _ W4;have hS2:AH xE 38 c104g [(3,pv p3)] [2] V4 λvs V5=>V5=V4/\vs=[pv cb]:=by
  refine s104g ?_;unfold w104g;exact⟨_,Al Z.b3,_,rfl,rfl,rfl⟩
 refine hS2.step C.le ⟨O.1,λs v hs=>O.2 s v ?_⟩ ?_;·grind[xg]
 rintro a5 w5 vs V5 hd5 hH5 ⟨rfl,rfl⟩ hF5;show xh (AV none) 0 xE .ret _ a5 w5;refine wpIn_ret ?_;obtain⟨g1,g2,g3,g4⟩:=Je U hF2 hD hn2 hW hF3;obtain⟨k1,k2,k3,k4⟩:=Je g1 C hD2 hn4 hW4 hF5;obtain⟨m1,m2⟩:=mark_keep (C.trans hF5) g4 g3;have hDlt:D<w3.heap.size:=(yA.1 g3).1;refine⟨.inr rfl,[D2,D],?_,by simp;omega,_,k1,λD' hD'=>?_,_,λw6 hw6=>results_tmp (t:=2) (by kernel_rfl) _ _ _,some ⟨cb,0,none⟩,by rw[hH5.get rfl],Z.sub,?_⟩;·simp_all
 ·grind
 ·exact⟨⟨cb,mt,mp,211,rfl,Z.ck,Z.mapT,Z.mapP⟩,hd.sub Z.sub⟩
section
variable{P:Program}{V:Mem}{ty:Nat}{vals:Operand->Value}
theorem GenK.shr{t u:TypeId}{x:Operand}{k h:IntKind}{n c:Int}(z:vals x=.int k n)(y:vals (.const (.int h c))=.int h c)(j:¬c<0){q:Value->Mem->Prop}(i:q (.int k (n.fdiv (2^(min c.toNat k.bits)))) V):GenK P (.binOp .shr t x (.const (.int h c)) u) ty vals V q:=by
 intro w hw;refine⟨_,w,V,?_,Aq.refl hw,i⟩;unfold execOp;simp[z,y,binOp,Op.shift,j,eqGuard]
theorem GenK.min2{a b:Operand}{ts:Array TypeId}{n1 n2:Int}(h:vals a=.int .i64 n1)(k:vals b=.int .i64 n2){q:Value->Mem->Prop}(t:q (.int .i64 (if n2<n1 then n2 else n1)) V):GenK P (.call {callee:=.builtin .min,args:=#[a,b],argTypes:=ts}) ty vals V q:=by
 intro w hw;refine⟨_,w,V,?_,Aq.refl hw,t⟩;unfold execOp;simp only[resolve,invoke,builtin,Sem.run_bind,Sem.run_pure,zL,List.map_toArray,List.map_cons,List.map_nil,h,k];rfl
end
section
variable{V0 V V1:Mem}{d:Ds}{p F c q:Nat}{s:St}{pr:Pr}{vals:List Int}
theorem lens12(h:BX d=true):d.globals.length<=8/\∀t∈d.types,t.fields.length<=12:=by
 grind[BX,Dm,EI]
end
section
variable{V0 V V1:Mem}{d:Ds}{p F c q:Nat}{s:St}{pr:Pr}{vals:List Int}
theorem Oa{V:Mem}{gs:Sl}{l:List Int}(h:Ad V gs 1 (l.map Am)){i:Nat}{v:Int}(t:l[i]?=some v):¬gs.p=none/\(0:Int)<=(i:Int)/\(i:Int)<(gs.n:Int)/\V.rowp gs.p (i*1) 1=some [.int .i64 v]:=by
 have o:=h.n_eq;have a:=(yv.1 t).1;obtain⟨y,-,u,-,z,j,r,k⟩:=h.get (i:=i) (by omega);rw[t]at u;cases u;exact⟨j,r,by omega,k⟩
end
theorem EO{V0 V k V':Mem}{e:TypeId}{sz:Nat}{s:Sl}{vs:List Value}(h:Sx.Own V0 V e sz s vs)(i:k.sub V')(u:∀g o,Ct s g->V0 g=none->V g=some o->k g=none/\V' g=some o):Sx.Own k V' e sz s vs:=⟨i,h.len,by
 rcases h.cases0 with t|⟨z,g,cur,t,y,j,l⟩;·exact .inl t
 ·exact .inr ⟨g,cur,t,(u g _ ⟨z,t⟩ y j).1,(u g _ ⟨z,t⟩ y j).2,l⟩⟩
end Go.Proofs
namespace Go.Proofs
open Go Go.Sx
section
variable{d:Ds}{F F':Nat}
def Mm.plain(m:Mm):List Int×List (Int×List Int):=(m.globals,m.nodes.map λn=>(n.ty,n.f))
def stOf(m:Mm):St:=⟨m.globals,m.nodes.map λn=>(n.ty,n.f),0,0,[]⟩
theorem St.plain(s:St):s.mm.plain=(s.g,s.ns):=by
 unfold Mm.plain St.mm;simp[Function.comp_def]
theorem Jg{m m':Mm}(h:m.plain=m'.plain){i:Nat}{x:Nd}(k:m.nodes[i]?=some x):∃y,m'.nodes[i]?=some y/\y.ty=x.ty/\y.f=x.f:=by
 have t:(m.nodes.map λn=>(n.ty,n.f))=m'.nodes.map λn=>(n.ty,n.f):=(wJ h).2;have:(m'.nodes.map λn=>(n.ty,n.f))[i]?=some (x.ty,x.f):=by grind
 simp_all
theorem H0{m m':Mm}(h:m.plain=m'.plain):m.nodes.length=m'.nodes.length:=by
 have k:(m.nodes.map λn=>(n.ty,n.f))=m'.nodes.map λn=>(n.ty,n.f):=(wJ h).2;have:=congrArg List.length k;simpa using this
theorem KP{m m':Mm}(h:m.plain=m'.plain)(k:AB d m=true):AB d m'=true:=by
 obtain⟨p1,z,p3,y,j⟩:=DS k;have l:=H0 h;have o:m.globals=m'.globals:=(wJ h).1;have r:∀{t v},Ce d m t v=true->Ce d m' t v=true:=λu=>right_mono (by omega) (λi x a=>by
  grind[Jg]) u
 grind[validM_mk,values_mono,List.mem_iff_getElem?,Jg,List.mem_of_getElem?,DR]
theorem Mq(m:Mm):(stOf m).mm.plain=m.plain:=St.plain _
theorem good_st{m:Mm}(G:BR d m):BR d (stOf m).mm:=⟨G.valid,G.chk,KP (Mq m).symm G.mem⟩
def nodesN(l:List (Int×Int×Int)):Nat:=(l.filter λa=>decide (0<a.2.1)).length
end
end Go.Proofs
namespace Go.Proofs
open Go Go.Sx
attribute [local irreducible] Go.Sx.Tri
theorem g156:IdxP 156 Nd.row Nd.v 2:=by
 intro V l xs g first u G St N k Z Y
 refine x156 (a:=l) (b:=.func (.func g) first.toArray u.toArray) ?_;refine Av xs.length St Z ?_;intro i b V1 J L o W;have h:=k i V1 o;refine⟨λt=>?_,λy=>?_⟩
 ·obtain⟨x,hm,Q,R,O,j,A,z⟩:=h.get t;refine⟨j,A,t,_,_,z,g,_,_,rfl,G,Tri.mono (Y i x V1 Q o) ?_⟩;rintro e V2 ⟨b,rfl,I,M⟩;exact⟨b,rfl,λr=>.inl ⟨i,rfl,I r⟩,λr=>⟨h.succ t,W O _ _ (M (by simpa using r))⟩⟩
 ·have e:i=xs.length:=by have:=(h.done y).2;omega
  simp_all
theorem g113:ConP 113 Nd.row Nd.v 2:=conG g156 x113
theorem c113:ConC 113 Nd.row Nd.v 2:=conC g113
theorem Hl(w:World):(zeroValue 3).run xE w=.ok (.int .i64 0) w:=by kernel_rfl
def pmap(d:Ds)(i:Nat)(k:KB):Option Value:=if 0<=BZ d k/\BZ d k<(i:Int)then some (.int .i64 (BZ d k))else none
def tmap(d:Ds)(k:KB):Option Value:=if Ck d k=true then some (.int .i64 (BZ d k))else none
section
variable{V:Mem}{d:Ds}{m:Mm}{b:Nat}
theorem idxT_le{i:Nat}{x:Ty}(k:d.types[i]?=some x):0<=BZ d x.name/\BZ d x.name<=(i:Int):=by
 unfold BZ;rcases Dn (λt:Ty=>decide (t.name=x.name)) d.types with⟨-,-,h⟩|⟨j,y,u,o,-,a,-,-,-,z⟩;·grind
 ·rw[u];refine⟨by omega,?_⟩;have l:¬i<j:=λr=>by
   have:=List.any_eq_false.1 z x (List.mem_take_iff_getElem.2 ⟨i,by omega,(yv.1 k).2⟩);simp_all
  omega
theorem idxT_at{k:KB}{i:Nat}(h:BZ d k=(i:Int)):∃x,d.types[i]?=some x/\x.name=k:=by
 unfold BZ at h;rcases Dn (λt:Ty=>decide (t.name=k)) d.types with⟨u,-⟩|⟨j,y,u,z,-,l,r,-⟩;·omega
 grind
theorem pmap_all{k:KB}(i:Nat)(hi:d.types.length<=i):pmap d i k=tmap d k:=by
 unfold pmap tmap;rcases KE d k with⟨h,t⟩|⟨h,t⟩;·grind
 ·obtain⟨j,u⟩:∃j:Nat,BZ d k=(j:Int):=⟨(BZ d k).toNat,by omega⟩;obtain⟨x,z,-⟩:=idxT_at u;grind
theorem c109{s:KB}:PP 109 [.string s] V (.bool (decide (s=AD)||decide (s=AR))):=by
 refine x109 ?_;refine⟨λh=>⟨by grind[AD],rfl⟩,λh=>⟨by rw[decide_eq_false (show ¬s=AD from h)];rfl,rfl⟩⟩
theorem c110{s:KB}(h:A6 V b (tmap d)):PP 110 [.map (some b),.string s] V (.bool (Ck d s)):=by
 refine x110 ?_;refine Bl.str wK xW Hl h ?_;unfold tmap;cases k:Ck d s with
 |true=>simp_all
 |false=>simp_all
theorem c108{p t:Nat}(k:V p=some (cell (.map (some b)) t))(h:A6 V b (tmap d)){f:Fld}:PP 108 [f.v,pv p] V (.bool (!Cd d f.ty)):=by
 refine x108 ?_;refine c109.call ⟨_,rfl,λu=>?_,λu=>⟨some b,Al k,(c110 h).call ⟨_,rfl,?_,rfl⟩⟩⟩;·unfold Cd;grind
 grind[Cd,AD,AR]
theorem c106{p t:Nat}(k:V p=some (cell (.map (some b)) t))(h:A6 V b (tmap d)){l:Sl}{xs:List Fld}(u:Ad V l 2 (xs.map Fld.row)):PP 106 [l.v,pv p] V (.bool (Ei d xs)):=by
 refine x106 ?_;refine(c107 (first:=[]) (caps:=[pv p]) u Tryz.call108 (λf=>!Cd d f.ty) (λf _=>c108 k h)).call ⟨_,rfl,?_,rfl⟩;grind[Ei]
theorem c112{p q t k:Nat}(u:V p=some (cell (.map (some b)) t))(z:V q=some (cell (.func (.func 106) #[] #[pv p]) k))(h:A6 V b (tmap d)){y:Ty}(j:Ty.Ok V y):
  PP 112 [y.v,pv q] V (.bool (!Ei d y.fields)):=by
 refine x112 ?_;exact⟨.func (.func 106) #[] #[pv p],rfl,Al z,106,_,_,rfl,Tryz.call106,(c106 u h j.fields).callv (first:=[]) (caps:=[pv p]) ⟨_,rfl,rfl,rfl⟩⟩
theorem GD:hasT d=true↔BX d=true/\Ei d d.globals=true/\(∀(i:Nat)(x:Ty),d.types[i]?=some x->BZ d x.name=(i:Int))/\∀x∈d.types,Ei d x.fields=true:=by
 unfold hasT;rw[zC,zC,Fu,and_assoc];refine and_congr_right λ_=>and_congr_right λ_=>⟨λh=>⟨λi x k=>?_,λx k=>?_⟩,λh i x k=>?_⟩;·grind
 ·obtain⟨i,t,rfl⟩:=List.mem_iff_getElem.1 k;have:=h i _ (yu t);simp_all
 grind
def GF(V':Mem)(d:Ds)(mo:Option Nat):Prop:=(hasT d=true/\∃b,mo=some b/\A6 V' b (tmap d))∨(¬hasT d=true/\mo=none)
theorem Ob[Tab V](h:Ds.Ok V d):Tri xE 74 #[d.v] V λr V'=>∃Z,r=.returned (.map Z)/\V.sub V'/\GF V' d Z:=by
 refine NH ?_;have I:∀{V1:Mem},V.sub V1->¬hasT d=true->(∃Z,xI (.map none)=.returned (.map Z)/\V.sub V1/\GF V1 d Z):=λu k=>⟨none,rfl,u,.inr ⟨k,rfl⟩⟩;refine(c103 h).call ⟨_,rfl,λL=>?_,λL=>I (Mem.sub.refl _) λk=>L (GD.1 k).1⟩;refine GenK.makeMap λb T=>⟨some b,rfl,?_⟩;have u:∀o,V.sub (V.set b o):=λo=>Mem.sub_new T _;refine Av (mk:=.map) (b0:=none) d.types.length (λi V1=>(∃o,V1=V.set b o)/\A6 V1 b (pmap d i)/\∀(j:Nat)(x:Ty),j<i->d.types[j]?=some x->BZ d x.name=(j:Int)) ⟨⟨_,rfl⟩,(A6.made V b).congr λk=>?_,λ_ _ h=>absurd h (Nat.not_lt_zero _)⟩ ?_;·grind[pmap]
 rintro i b1 _ J hi ⟨⟨o,rfl⟩,hm,U⟩ hJ;have t:=h.sub (u o);refine⟨λz=>?_,λR=>?_⟩
 ·obtain⟨x,hxm,M,hdr,hl,X,hz,Y⟩:=t.types.get z;have hle:=idxT_le M;refine⟨X,hz,z,_,_,Y,Bl.str wK xW Hl hm ?_⟩;by_cases hlo:BZ d x.name<(i:Int)
  ·have e:pmap d i x.name=some (.int .i64 (BZ d x.name)):=by grind[pmap]
   rw[e];refine⟨_,_,rfl,λ_=>I (u o) λk=>?_,λk=>absurd rfl k⟩;grind[GD]
  ·have e:pmap d i x.name=none:=by grind[pmap]
   rw[e];refine⟨0,false,rfl,(λk=>by cases k),λ_=>BQ.str wK xW hm λo2 B=>⟨t.types.succ z,hJ hl _ _ ⟨⟨o2,by rw[Mem.set_set]⟩,B.congr λk=>?_,λj y hj K=>?_⟩⟩⟩
   ·by_cases S:k=x.name
    ·subst S;rw[if_pos rfl];grind[pmap,BZ]
    ·rw[if_neg S];unfold pmap;by_cases hki:BZ d k=(i:Int);·grind[idxT_at,absurd]
     grind
   grind
 ·have W:=(t.types.done R).2;have C:A6 (V.set b o) b (tmap d):=hm.congr λk=>pmap_all i W;have l:∀(j:Nat)(x:Ty),d.types[j]?=some x->BZ d x.name=(j:Int):=λj x M=>U j x (by grind) M;intro p X;have Q:=Mem.sub_new X (cell (.map (some b)) 128);have a:=Mem.set_same (V.set b o) p (cell (.map (some b)) 128);have G:=C.sub Q;have O:=t.sub Q;refine(c106 a G O.globals).call ⟨_,rfl,λD=>λq hq=>?_,λD=>I ((u o).trans Q) λk=>D (GD.1 k).2.1⟩;have N:=Mem.sub_new hq (cell (.func (.func 106) #[] #[pv p]) 141);have E:=Mem.set_same ((V.set b o).set p (cell (.map (some b)) 128)) q (cell (.func (.func 106) #[] #[pv p]) 141);have A:=O.sub N;refine(c111 (first:=[]) (caps:=[pv q]) A.types Tryz.call112 (λy=>!Ei d y.fields) (λy K=>c112 (N _ _ a) E (G.sub N) (A.typesOk y K))).call ⟨_,rfl,λha=>I ((u o).trans (Q.trans N)) λk=>?_,λha=>⟨_,Al (N _ _ a),some b,rfl,(u o).trans (Q.trans N),.inl ⟨GD.2 ⟨L,D,l,λx M=>?_⟩,b,rfl,G.sub N⟩⟩⟩;·grind[List.any_eq_true,GD]
  simp_all
theorem c157{mo:Option Nat}(J:GF V d mo)(Q:hasT d=true)(hm:Mm.Ok V m){t:KB}(O:Cd d t=true){v:Int}:PP 157 [.map mo,m.v,.string t,.int .i64 v] V (.bool (Ce d m t v)):=by
 refine x157 ?_;have A:=hm.nodes.n_eq;obtain⟨b,rfl,G⟩:∃b,mo=some b/\A6 V b (tmap d):=by
  rcases J with⟨-,h⟩|⟨h,-⟩;·exact h
  simp_all
 have ret:∀{x y:Bool},x=y->xI (.bool x)=.returned (.bool y)/\V=V:=λh=>by simp_all
 refine⟨λl=>?_,λl=>⟨λr=>?_,λr=>?_⟩⟩;·grind[Ce,AD]
 ·grind[Ce,AD,AR,inr]
 ·unfold Ce;rw[if_neg (show ¬t=AD from l),if_neg (show ¬t=AR from r)];refine⟨λo=>ret (decide_eq_true (.inl o)).symm,λo=>⟨λN=>⟨λZ=>?_,λZ=>ret ?_⟩,λN=>ret ?_⟩⟩
  ·obtain⟨i,rfl⟩:∃i:Nat,v=(i:Int)+1:=⟨(v-1).toNat,by omega⟩;have Y:((i:Int)+1-1).toNat=i:=by omega
   obtain⟨x,W,I,-,M,j,L,u⟩:=hm.nodes.get (i:=i) (by omega);have a:=Ak (n:=i*2) j;have e:IR ((i:Int)+1-1):=⟨by omega,by have:=(hm.nodes.succ (i:=i) (by omega)).2;omega⟩;have z:Ck d t=true:=by
    grind[Cd,AD,AR]
   rw[Y];refine⟨e,j,by omega,by omega,a,_,_,u,Bl.str1 wK xW Hl G ?_⟩;unfold tmap;rw[if_pos z];refine⟨_,rfl,Mg (k:=1) u (by decide),a,j,by omega,by omega,e,ret ?_⟩;grind
  ·grind
  grind
theorem c115{mo:Option Nat}(Z:GF V d mo)(Y:hasT d=true)(hm:Mm.Ok V m){l:Sl}{xs:List Fld}(u:Ad V l 2 (xs.map Fld.row))(W:Ei d xs=true){s:Sl}{vs:List Int}(e:Ad V s 1 (vs.map Am)):PP 115 [.map mo,m.v,l.v,s.v] V (.bool (Bb d m xs vs)):=by
 refine x115 ?_;have B:=u.n_eq;have C:=e.n_eq;refine⟨λQ=>?_,λQ=>?_⟩
 ·refine Av (mk:=.bool) (b0:=false) vs.length (λi V1=>V=V1/\AllI (λi v=>Ce d m (tyAt xs i) v) vs i) ⟨rfl,AllI.zero⟩ ?_;rintro i b V1 J D ⟨rfl,G⟩ O;refine⟨λh=>?_,λA=>?_⟩
  ·obtain⟨x,z,E,-,K,I,M,t⟩:=u.get h;obtain⟨y,L,N,-,j,r,o,k⟩:=e.get (i:=i) (by omega);have R:tyAt xs i=x.ty:=by grind[tyAt]
   have a:Cd d x.ty=true:=z6.1 W x z;refine⟨I,M,h,_,_,t,r,o,by omega,_,k,(c157 Z Y hm a).call ⟨_,rfl,λX=>⟨u.succ h,O j _ _ ⟨rfl,G.succ N (by grind)⟩⟩,λX=>?_⟩⟩;unfold Bb;rw[KD N (by grind),wL];simp_all
  ·unfold Bb;rw[G.all (by omega),decide_eq_true (by omega)];simp_all
 ·unfold Bb;rw[decide_eq_false (by omega)];simp_all
theorem c114(h:Ds.Ok V d){p t:Nat}(k:V p=some (.cells d.row.toArray t (0,0))){n:Nd}:PP 114 [n.v,pv p] V (.bool (!DR d n)):=by
 refine x114 ?_;have z:=h.types.n_eq;refine⟨λu=>?_,λu=>⟨by simp,_,At k 1 1 (by simp[Ds.row]),?_⟩⟩;·unfold DR;rw[decide_eq_false (by omega)];exact⟨rfl,rfl⟩
 ·refine⟨?_,rfl⟩;grind[DR]
theorem c116(h:Ds.Ok V d)(hm:Mm.Ok V m){mo:Option Nat}(a:GF V d mo)(j:hasT d=true){p q r t e J:Nat}(G:V p=some (cell (.map mo) t))(N:V q=some (.cells m.row.toArray e (0,0)))(Z:V r=some (.cells d.row.toArray J (0,0))){n:Nd}(Y:n∈m.nodes)(y:DR d n=true):
  PP 116 [n.v,pv p,pv q,pv r] V (.bool (!Bb d m (Bg d n.ty) n.f)):=by
 refine x116 ?_;obtain⟨W,A⟩:=of_decide_eq_true y;have l:=h.types.n_eq;obtain⟨i,o⟩:∃i:Nat,n.ty=(i:Int):=⟨n.ty.toNat,by omega⟩;obtain⟨x,k,Q,-,I,u,M,z⟩:=h.types.get (i:=i) (by omega);have O:=Fv Q o;rw[O];refine⟨_,Al G,_,_,At N 0 2 (by simp[Mm.row]),by simp,_,At Z 1 1 (by simp[Ds.row]),u,W,by omega,?_⟩;rw[o];refine⟨Ak u,_,_,z,(c115 a j hm (h.typesOk x k).fields ((GD.1 j).2.2.2 x k) (hm.nodesOk n Y).rows).call ⟨_,rfl,rfl,rfl⟩⟩
theorem Oc(h:Ds.Ok V d)(hm:Mm.Ok V m){mo:Option Nat}(G:GF V d mo):AP xE 75 [.map mo,d.v,m.v] V (.bool (AB d m)):=by
 refine AP.mk ?_;refine NJ ?_;have o:=hm.nodes.n_eq;rcases G with⟨z,b,rfl,e⟩|⟨z,rfl⟩;rotate_left
 ·refine⟨λ_=>?_,λk=>absurd rfl k⟩;unfold AB;rw[(Bool.not_eq_true _).mp z];exact⟨rfl,Mem.sub.refl _⟩
 refine⟨(λk=>by cases k),λ_=>⟨λN=>?_,λN=>?_⟩⟩;·unfold AB;rw[decide_eq_false (by omega:¬m.nodes.length<=4096)];simp_all[wL,Bool.false_and,trivial,Mem.sub.refl]
 intro p Z;have j:=Mem.sub_new Z (.cells d.row.toArray 30 (0,0));have y:=Mem.set_same V p (.cells d.row.toArray 30 (0,0));have u:=hm.sub j;refine(c113 (first:=[]) (caps:=[pv p]) u.nodes Tryz.call114 (λn=>!DR d n) (λn o=>c114 (h.sub j) y)).call ⟨_,rfl,λY=>?_,λY=>?_⟩;·grind[AB,DR]
 have i:m.nodes.all (DR d)=true:=by
  simp_all
 have a:GF (V.set p (.cells d.row.toArray 30 (0,0))) d (some b):=.inl ⟨z,b,rfl,e.sub j⟩;have l:=h.sub j;refine⟨nofun,_,At y 2 1 (by simp[Ds.row]),(c115 a z u l.globals (GD.1 z).2.1 u.globals).call ⟨_,rfl,λW=>?_,λW=>?_⟩⟩;rotate_left;·grind[AB]
 intro q Q;have O:=Mem.sub_new Q (cell (.map (some b)) 128);intro r A;have J:=Mem.sub_new A (.cells m.row.toArray 50 (0,0));have t:=O.trans J;refine(c113 (first:=[]) (caps:=[pv q,pv r,pv p]) (u.sub t).nodes Tryz.call116 (λn=>!Bb d m (Bg d n.ty) n.f) (λn o=>?_)).call ⟨_,rfl,?_,j.trans t⟩;·refine c116 (l.sub t) (u.sub t) (mo:=some b) (.inl ⟨z,b,rfl,(e.sub j).sub t⟩) z (J _ _ As) As (t _ _ y) o (z6.1 i n o)
 grind[AB,Bb]
theorem H1[Tab V](h:Ds.Ok V d)(hm:Mm.Ok V m):AP xE 45 [d.v,m.v] V (.bool (AB d m)):=by
 refine AP.mk ?_;refine Nq ?_;refine Tri.mono (Ob h) ?_;rintro _ V' ⟨t,rfl,k,u⟩;exact⟨t,rfl,(Oc (h.sub k) (hm.sub k) u).call ⟨_,rfl,rfl,k⟩⟩
end
theorem chk_none{d:Ds}(h:(fltR (Dc d)).2.2=0):Dc d=none:=by
 have key:∀{a:Option Flt},(∀r,a=some r->r.2.2≠0)->(fltR a).2.2=0->a=none:=λ{a} i h=>by
  cases a with
  |none=>rfl
  |some r=>exact absurd h (i r rfl)
 refine key (λr k=>?_) h;unfold Dc at k;have t:∀{a b:Option Flt} {r},a.or b=some r->a=some r∨b=some r:=λ{a b r} h=>by
  cases a with
  |none=>exact .inr (by simpa using h)
  |some x=>exact .inl (by simpa using h)
 rcases t k with u|k;·exact(Kv d r u).1
 rcases t k with u|k;·exact(Kw d r u).1
 rcases t k with u|k;·exact(Kx d r u).1
 rcases t k with u|k
 ·unfold Ft at u;obtain⟨j,x,-,z⟩:=Hg u;split at z;·rename_i y;cases z;exact y
  ·cases z
 ·exact(Ky d r k).1
theorem loop3u{V:Mem}{β h:Type}{mk:β->Value}{mc:h->Value}{B:β->h->Int->Mem->(KZ)->Prop}{b0:β}{c0:h}(inj:∀x y,mk x=mk y->x=y)(z:∀x y,mc x=mc y->x=y)(len:Nat)(St:Nat->β->h->Mem->Prop)(r:St 0 b0 c0 V)
  (step:∀(i:Nat)(b:β)(c:h) V1 J,i<=len->St i b c V1->(i<len->∀k t V2,St (i+1) k t V2->J [mk k,mc t,.int .i64 ((i:Int)+1)] V2)->B b c (i:Int) V1 J):
  ∃(I:Nat->KZ)(o:Nat),I o [mk b0,mc c0,.int .i64 0] V/\∀n V1,∀b:β,∀c:h,∀v:Int,I n [mk b,mc c,.int .i64 v] V1->∀J:KZ,(∀m ys u,m<n->I m ys u->J ys u)->B b c v V1 J:=by
 refine⟨LI len λi xs V=>∃b c,xs=[mk b,mc c,.int .i64 i]/\St i b c V,len,LI.start ⟨b0,c0,rfl,r⟩,?_⟩;rintro n V1 b c v ⟨i,rfl,a,k,t,l,e⟩ J G;simp only[yE,Value.int.injEq,true_and,and_true]at l;obtain⟨N,Z,rfl⟩:=l;cases inj _ _ N;cases z _ _ Z;exact step i b c V1 J a e λj k t V2 Y=>LI.next G j ⟨k,t,rfl,Y⟩
theorem lookup_mem{s:Nat}{v:Value}:∀{l:List (Nat×Value)},l.lookup s=some v->(s,v)∈l
 |[],h=>by cases h
 |(t,u)::l,h=>by
  rw[zc]at h;split at h
  ·rename_i e;simp only[beq_iff_eq]at e;subst e;cases h;exact zb
  ·exact za _ (lookup_mem h)
theorem free{V U:Mem}(k:V.sub U){b:Nat}(h:U b=none):V b=none:=by
 cases t:V b with
 |none=>rfl
 |some o=>rw[k _ _ t]at h;cases h
section
variable{V:Mem}{d:Ds}{m:Mm}
instance:DecidableEq (List Int×List (Int×List Int)):=inferInstance
end
end Go.Proofs
namespace Go.Proofs
open Go Go.Sx
def A3(w:World):Mem:=λb=>w.heap[b]?
theorem heapM_le(w:World):(A3 w).le w:=λ_ _ h=>h
theorem Jh{α β:Type}{f:α->Option β}:∀{l:List α}{r:List β},l.mapM f=some r->r.length=l.length/\∀(i:Nat)(a:α),l[i]?=some a->∃b,r[i]?=some b/\f a=some b
 |[],r,h=>by simp_all
 |x::l,r,h=>by
  simp only[wI,Option.bind_eq_bind,wM,Option.pure_def,zF]at h;obtain⟨b,t,u,k,rfl⟩:=h;obtain⟨z,y⟩:=Jh k;grind
theorem cells_row{w:World}{a:Addr}{n:Nat}{cs:List Value}(h:w.cells? 0 a n=some cs)(J:0<n):(A3 w).row a n=some cs:=by
 unfold World.cells? at h;rw[if_pos (Nat.zero_le _)]at h;obtain⟨G,N⟩:=Jh h;have u:∀i,i<n->∃v,cs[i]?=some v/\w.cell? (a.add i)=some v:=λi j=>N i i (by simp[j]);obtain⟨M,-,k⟩:=u 0 J;have Z:a.add 0=a:=by rfl
 rw[Z]at k;unfold World.cell? at k;split at k
 ·rename_i c t L Y;split at k;·cases k
  ·rename_i W;have z:a.spot.isNone=true:=by simp_all
   have r:a.spot=none:=by simp_all
   have l:∀i,i<n->∃v,cs[i]?=some v/\c[a.off+i]?=some v:=λi j=>by
    obtain⟨v,Q,O⟩:=u i j;refine⟨v,Q,?_⟩;have e:a.add i=⟨a.block,a.off+i,none⟩:=by
     unfold Addr.add;by_cases A:i=0
     ·subst A;rw[if_pos rfl];cases a with
      |mk b o s=>simp_all
     grind
    grind[World.cell?]
   have y:a.off+n<=c.size:=by
    obtain⟨v,_,O⟩:=l (n-1) (by omega);grind
   have I:cs.length=n:=by rw[G];simp
   unfold Mem.row A3;simp only[Y];rw[if_pos ⟨z,y⟩];congr 1;apply List.ext_getElem?;grind
 ·cases k
section
variable{H:Type}{enc:TypeId×Value->H}{w:World}
noncomputable abbrev TR(enc:TypeId×Value->H)(w:World)(n:Nat)(t:TypeId)(cs:List Value):=wN enc xE w 0 (λ_=>true) true n t cs
theorem rd_int{n:Nat}{t:TypeId}{cs:List Value}{x:DataW H×List MemPlace}(k:xE.underlying t=some (.int .i64))(h:TR enc w n t cs=some x):∃v:Int,cs=[.int .i64 v]/\yr.min<=v/\v<=yr.max:=by
 cases n with
 |zero=>cases h
 |succ n=>
  unfold TR wN at h;grind[Lit.wf]
theorem rd_slice{α:Type}{row:α->List Value}{ok:α->Prop}{sz n:Nat}{t e:TypeId}{cs:List Value}{x:DataW H×List MemPlace}(v:xE.underlying t=some (.slice e))(Q:xE.cellsOf e=sz)(J:0<sz)(r:∀a,(row a).length=sz)
  (G:∀m,m<n->∀cs x,TR enc w m e cs=some x->∃a,row a=cs/\ok a) (h:TR enc w n t cs=some x):∃(s:Sl)(xs:List α),cs=[.slice s.p s.n s.c]/\Ad (A3 w) s sz (xs.map row)/\∀a∈xs,ok a:=by
 cases n with
 |zero=>cases h
 |succ n=>
  have key:∀(a:Addr)(len cap:Nat),TR enc w (n+1) t [.slice (some a) len cap]=some x->∃(xs:List α),Ad (A3 w) ⟨some a,len,cap⟩ sz (xs.map row)/\∀a∈xs,ok a:=by
   intro a len cap h;unfold TR wN at h;rw[v]at h;simp only at h;split at h;case isFalse=>cases h
   rename_i k;simp only[wM]at h;obtain⟨z,hm,-⟩:=h;obtain⟨O,N⟩:=Jh hm;have j:∀i:Fin len,∃y:α,(A3 w).row (a.add (i*sz)) sz=some (row y)/\ok y:=by
    intro i;obtain⟨b,-,o⟩:=N i i (by simp);simp only[wM]at o;obtain⟨Z,Y,l⟩:=o;obtain⟨y,A,W⟩:=G n (wO n) Z _ l;grind[cells_row]
   refine⟨List.ofFn λi=>Classical.choose (j i),⟨by simp,k.2.1,by grind[maxLen],?_,?_⟩,?_⟩;·simp_all
   ·grind
   grind
  have u:cs=[.slice none 0 0]∨∃a len cap,cs=[.slice (some a) len cap]:=by
   unfold TR wN at h;grind
  rcases u with rfl|⟨a,len,cap,rfl⟩;·exact⟨⟨none,0,0⟩,[],rfl,Ad.nil,by simp⟩
  grind
theorem Ej{n:Nat}{t:TypeId}{fs:Array Field}{cs:List Value}{x:DataW H×List MemPlace}(j:xE.underlying t=some (.struct fs))(h:TR enc w n t cs=some x):
  cs.length=xE.cellsOf t/\∃m,m<n/\∀(i:Nat)(f:Field),fs.toList[i]?=some f->∃y,TR enc w m f.type ((cs.drop f.offset).take (xE.cellsOf f.type))=some y:=by
 cases n with
 |zero=>cases h
 |succ n=>
  have key:cs.length=xE.cellsOf t->(∃xs,(fs.toList.mapM λf=>wN enc xE w 0 (λ_=>true) true n f.type ((cs.drop f.offset).take (xE.cellsOf f.type)))=some xs)->
    cs.length=xE.cellsOf t/\∃m,m<n+1/\∀(i:Nat)(f:Field),fs.toList[i]?=some f->∃y,TR enc w m f.type ((cs.drop f.offset).take (xE.cellsOf f.type))=some y:=by
   rintro u ⟨xs,z⟩;refine⟨u,n,wO n,λi f l=>?_⟩;obtain⟨-,r⟩:=Jh z;grind
  unfold TR wN at h;rw[j]at h;split at h;all_goals first|(rename_i e;cases e;done)|(rename_i e _;cases e;done)|(rename_i e _ _;cases e;done)|(exact absurd rfl ((by assumption:∀k:Array Field,some (wP fs)=some (wP k)->False) fs))|skip
  rename_i e;cases e;split at h
  ·rename_i u;simp only[Option.map_eq_some_iff]at h;obtain⟨xs,z,-⟩:=h;simp_all
  simp_all
end
end Go.Proofs
namespace Go.Proofs
open Go Go.Sx
section
variable{H:Type}{enc:TypeId×Value->H}{w:World}
theorem at1{cs:List Value}{v:Value}{off m:Nat}{t:TypeId}(h:∃y,TR enc w m t ((cs.drop off).take (xE.cellsOf t))=some y)(k:xE.cellsOf t=1)(u:cs[off]?=some v):∃y,TR enc w m t [v]=some y:=by
 grind[yv,xR]
theorem Fx:xE.cellsOf 3=1:=by kernel_rfl
theorem gI{m:Nat}{v:Value}(h:∃y,TR enc w m 3 [v]=some y):∃n:Int,v=.int .i64 n/\yr.min<=n/\n<=yr.max:=by
 obtain⟨y,k⟩:=h;obtain⟨s,e,t⟩:=rd_int Tryz.underlying3 k;exact⟨s,by simpa using e,t⟩
theorem DF{α:Type}{row:α->List Value}{ok:α->Prop}{sz m:Nat}{t e:TypeId}{v:Value}(j:xE.underlying t=some (.slice e))(i:xE.cellsOf e=sz)(u:0<sz)(k:∀a,(row a).length=sz)
  (l:∀m',m'<m->∀z x,TR enc w m' e z=some x->∃a,row a=z/\ok a) (h:∃y,TR enc w m t [v]=some y):∃(s:Sl)(xs:List α),v=.slice s.p s.n s.c/\Ad (A3 w) s sz (xs.map row)/\∀a∈xs,ok a:=by
 obtain⟨y,r⟩:=h;obtain⟨s,xs,e,o,J⟩:=rd_slice j i u k l r;grind
theorem len4{cs:List Value}(h:cs.length=4):∃a b c d,cs=[a,b,c,d]:=by
 match cs,h with
 |[a,b,c,d],_=>simp_all
end
end Go.Proofs
namespace Go.Proofs.YtgdmkmfchcflpaaGreatDoor
open Go Go.Sx Go.Proofs Go.ChangeShapes Go.WideShapes Go.ChangeAt Go.RowKit
theorem H2{P:Program}{f:FuncId}{args:List Value}{W:World}{v:Value}(h:AP P f args (A3 W) v):Calls P f args.toArray W λe k=>e=.returned v/\k.os=W.os/\k.output=W.output/\W.heap.size<=k.heap.size/\∀b,b<W.heap.size->k.heap[b]?=W.heap[b]?:=by
 have u:Tri P f args.toArray (A3 W) λe V'=>e=.returned v/\V'=A3 W:=h;unfold Tri at u;refine Fk (u W (heapM_le W)) ?_;rintro e k ⟨V',⟨rfl,rfl⟩,t⟩;refine⟨rfl,t.os,t.out,t.size,λb z=>?_⟩;have:A3 W b=some W.heap[b]:=Array.getElem?_eq_getElem z;rw[t.le b _ this];exact this.symm
theorem Tryz.own:ownKnob xE.godebug=none:=by kernel_rfl
theorem Tryz.laidOut:laidOutB xE=true:=by kernel_rfl
theorem tab_of{W:World}(h:xK xE W "strings.asciiSpace" .u8 xL):Tab (A3 W):=by
 have k:xE.globalNamed "strings.asciiSpace" =some 0:=by kernel_rfl
 unfold xK World.var? at h;rw[k,Option.bind_some]at h;split at h
 ·rename_i y t u z;simp only[zF]at h;exact⟨t,u,by rw[<-h];exact z⟩
 ·cases h
noncomputable def Hm(os:Os):World:=
 let w0:=World.holding xE os ⟨#[.cells #[.int .u16 9,.int .u16 13,.int .u16 1,.int .u16 32,.int .u16 133,.int .u16 101,.int .u16 160,.int .u16 5760,.int .u16 5600,.int .u16 8192,.int .u16 8202,.int .u16 1,.int .u16 8232,.int .u16 8233,.int .u16 1,.int .u16 8239,.int .u16 8287,.int .u16 48,.int .u16 12288,.int .u16 12288,.int .u16 1] 332,
  .cells #[.slice (some ⟨(wQ xE os).heap.size,0,none⟩) 7 7,.slice none 0 0,.int .i64 2] 330],#[],[]⟩
 {w0 with heap:=(w0.heap.modify 0 fun
   |.cells _ t frozen=>.cells (xL.map λz=>Value.int .u8 z).toArray t frozen
   |o=>o).modify 1 fun
   |.cells _ t frozen=>.cells #[.pointer (some ⟨(wQ xE os).heap.size+1,0,none⟩)] t frozen
   |o=>o}
theorem H3(os:Os)(args:Array Value):laidMet xE [("unicode.White_Space",Rows.laid_unicode_White_Space),("strings.asciiSpace",Rows.laid_strings_asciiSpace)] ((Hm os).forCall (λ_ _=>0) ⟨#[],args,[]⟩).memory:=
 (LaidIn.of_run [0,1,(wQ xE os).heap.size,(wQ xE os).heap.size+1] 12 (by kernel_rfl) (by kernel_rfl) (by kernel_rfl) (by kernel_rfl)).met
end Go.Proofs.YtgdmkmfchcflpaaGreatDoor
namespace Go.Proofs.YtgdmkmfchcflpaaGreatDoor
open Go Go.Sx Go.Proofs Go.ChangeShapes Go.WideShapes Go.ChangeAt Go.RowKit
abbrev Dr:List (String×DataW Unit):=[("unicode.White_Space",Rows.laid_unicode_White_Space),("strings.asciiSpace",Rows.laid_strings_asciiSpace)]
theorem E8{w:World}:laidMetH xE Dr w↔laidMet xE Dr w:=by
 rfl
theorem H4{W:World}(h:laidMet xE Dr W):Tab (A3 W):=by
 obtain⟨ps,N,O,A⟩:=h;obtain⟨g,t,I,v,p,q,M,L,J,R,k,Z⟩:=N;obtain⟨g',Y,Q,i,X,B,l,r,u,z,j,G⟩:=k;refine tab_of ?_;unfold xK;rw[u];have o:g'=0:=wR (l.symm.trans (show xE.globalNamed "strings.asciiSpace" =some 0 by kernel_rfl));subst o;have a:Y=315:=wR (r.symm.trans (show(xE.globals[0]?).map (·.type)=some 315 by kernel_rfl));subst a;have y:(Rows.laid_strings_asciiSpace:DataW Unit)=Lib.tabData .u8 xL:=by kernel_rfl
 rw[y]at z;rw[<-Lib.cells_of_tab (n:=256) (e:=5) Tryz.underlying315 Tryz.underlying5 (by kernel_rfl) (by kernel_rfl) z]
theorem kept{W h:World}(u:h.os=W.os)(z:h.output=W.output)(t:∀b,b<W.heap.size->h.heap[b]?=W.heap[b]?)(k:MemPlace->Prop):W.keptBut h k:=by
 refine⟨u,z,λi y=>?_⟩;grind
theorem again_arg{H:Type}{enc:TypeId×Value->H}{t:TypeId}(i:xE.readableRec t=true)(u:t<xE.types.size){W y:World}{v:Value}{d:DataW H}{ps:List MemPlace}(h:DataW.Trod enc xE W 0 (λ_=>true) true t v d ps)
  (k:∀b,b<W.heap.size->y.heap[b]?=W.heap[b]?) (z:∀x∈ps,x.block<W.heap.size):DataW.Trod enc xE y 0 (λb=>decide (b<W.heap.size)) true t v d ps:=
 WideElems.Trod_stays Tryz.laidOut i u h (λx j=>by
  have:=z x j;cases x with
  |cell b o=>exact World.cell?_of_block (w:=W) (k b this)
  |map b=>exact k b this) (λx j=>by simp_all)
theorem H5{C:Checked}{os:Os}{f:FuncId}{fn:Func}{s:ChangeSpec}{k:List PathCond}{apart:Bool}{X:World->Array Value->Prop}{H:Type}{enc:TypeId×Value->H}(w0:World)(args:Array Value)(t:Nat)(y:w0.os=os)
  (l:(w0.forCall (λ_ _=>0) ⟨#[],args,[]⟩).variablesRefB C.prog=true)
  (r:((w0.forCall (λ_ _=>0) ⟨#[],args,[]⟩).heap.toList.drop C.prog.globals.size).take ((begin C.prog (λ_ _=>0) default).world.heap.size-C.prog.globals.size)=
   (begin C.prog (λ_ _=>0) default).world.heap.toList.drop C.prog.globals.size)
  (u:Input.okWideB C.prog (w0.forCall (λ_ _=>0) ⟨#[],args,[]⟩) f ⟨#[],args,[]⟩=true)
  (z:s.preB enc C.prog fn k apart (w0.forCall (λ_ _=>0) ⟨#[],args,[]⟩).memory args t=true)
  (j:s.sizedB enc C.prog fn apart (w0.forCall (λ_ _=>0) ⟨#[],args,[]⟩).memory args t=true)
  (o:X (w0.forCall (λ_ _=>0) ⟨#[],args,[]⟩).memory args):
  ∃(w:World)(h:Tape)(i:Input),w.os=os/\(w.forCall h i).Shaped C.prog/\i.vars=[]/\Input.okWide C.prog (w.forCall h i) .any w.heap.size f i/\
   ((s.pre enc C.prog fn k apart (w.forCall h i).memory i.args/\X (w.forCall h i).memory i.args)/\sizedMet enc C.prog fn (OpenSpec.ofChange s) apart (w.forCall h i).memory i.args)/\({}:Assume).holds C.prog (lone (Frame.enter C.prog f i.args .normal) [] (w.forCall h i)):=
 ⟨w0,λ_ _=>0,⟨#[],args,[]⟩,y,World.shaped_of_RefB l r,(wS (base:=0) u).1,(wS u).2,⟨⟨ChangeSpec.pre_of_preB z,o⟩,sizedMet_of_sizedB j⟩,by
  grind[Assume.holds]⟩
theorem Hn{H:Type}{enc:TypeId×Value->H}{W i:World}(k:∀b,b<W.heap.size->i.heap[b]?=W.heap[b]?):∀{ts:List TypeId}{vs:List Value}{ds:List (DataW H)}{ps:List MemPlace},(∀t∈ts,xE.readableRec t=true/\t<xE.types.size)->
  wT enc xE W 0 (λ_=>true) true ts vs ds ps->(∀x∈ps,x.block<W.heap.size)->wT enc xE i 0 (λb=>decide (b<W.heap.size)) true ts vs ds ps
 |[],_,_,_,_,h,_=>by
  obtain⟨rfl,rfl,rfl⟩:=trodAll_nil h;rfl
 |t::ts,_,_,_,y,h,z=>by
  obtain⟨v,vs,d,ds,p,q,rfl,rfl,rfl,l,r⟩:=trodAll_cons h;exact⟨p,q,again_arg (y t (by simp)).1 (y t (by simp)).2 l k (λx j=>z x (List.mem_append_left _ j)),Hn k (λu o=>y u (by simp[o])) r (λx j=>z x (List.mem_append_right _ j)),rfl⟩
end Go.Proofs.YtgdmkmfchcflpaaGreatDoor
namespace Go.Proofs
open Go Go.Sx
def AA(n:Int):List Int:=[(n+140737488355328)/1099511627776 % 256,(n+140737488355328)/4294967296 % 256,(n+140737488355328)/16777216 % 256,(n+140737488355328)/65536 % 256,(n+140737488355328)/256 % 256,(n+140737488355328) % 256]
def Cu(b:List Int):Int:=b.foldl (λa c=>a*256+c) 0-140737488355328
def CM(n:Int):Prop:=-140737488355328<=n/\n<140737488355328
def An(l:List Int):Prop:=∀x∈l,0<=x/\x<256
theorem De(n:Int):(AA n).length=6:=rfl
theorem cod6_b(n:Int):An (AA n):=λx h=>by
 simp only[AA,List.mem_cons,xC,or_false]at h;rcases h with rfl|rfl|rfl|rfl|rfl|rfl<;>omega
theorem rd_cod{n:Int}(h:CM n):Cu (AA n)=n:=by
 obtain⟨k,t⟩:=h;simp only[Cu,AA,wU];omega
theorem int_rd{b:List Int}(k:b.length=6)(h:An b):AA (Cu b)=b:=by
 match b,k with
 |[t,u,z,x3,x4,x5],_=>
  have y:=h t (by simp);have j:=h u (by simp);have i:=h z (by simp);have l:=h x3 (by simp);have r:=h x4 (by simp);have o:=h x5 (by simp);simp only[Cu,AA,wU,yE,and_true];refine⟨?_,?_,?_,?_,?_,?_⟩<;>omega
theorem Ho{b:List Int}(k:b.length=6)(h:An b):CM (Cu b):=by
 match b,k with
 |[t,u,z,x3,x4,x5],_=>
  have y:=h t (by simp);have j:=h u (by simp);have i:=h z (by simp);have l:=h x3 (by simp);have r:=h x4 (by simp);have o:=h x5 (by simp);simp only[Cu,CM,wU];omega
theorem cod6_inj{x y:Int}(k:CM x)(t:CM y)(h:AA x=AA y):x=y:=by rw[<-rd_cod k,<-rd_cod t,h]
def B1(x:Int×List Int):List Int:=x.1::x.2.flatMap AA
def BK(m:Gm):List Int:=m.1.flatMap AA++AA m.2.length++m.2.flatMap B1
theorem DG(l:List Int):(l.flatMap AA).length=6*l.length:=by
 induction l with
 |nil=>rfl
 |cons a l h=>rw[yc,zw,h,De,zy];omega
theorem ints_b(l:List Int):An (l.flatMap AA):=λx h=>by
 obtain⟨a,-,k⟩:=List.mem_flatMap.1 h;exact cod6_b a x k
theorem app_inj{a b r r':List Int}(k:a.length=b.length)(h:a++r=b++r'):a=b/\r=r':=List.append_inj h k
theorem Ji:∀{xs ys r r':List Int},xs.length=ys.length->(∀x∈xs,CM x)->(∀y∈ys,CM y)->xs.flatMap AA++r=ys.flatMap AA++r'->xs=ys/\r=r'
 |[],[],_,_,_,_,_,h=>⟨rfl,by simpa using h⟩
 |x::xs,y::ys,r,r',z,t,u,h=>by
  rw[yc,yc,zH,zH]at h;obtain⟨j,i⟩:=app_inj (by rw[De,De]) h;obtain⟨l,o⟩:=Ji (by simpa using z) (λa k=>t a (za _ k)) (λa k=>u a (za _ k)) i;exact⟨by rw[cod6_inj (t x zb) (u y zb) j,l],o⟩
def Bu(n:Nat)(b:List Int):List Int:=(zB n).map λk=>Cu ((b.drop (6*k)).take 6)
theorem H6(n:Nat)(b:List Int):(Bu n b).length=n:=by simp[Bu]
theorem H7(n:Nat)(b:List Int):Bu (n+1) b=Bu n b++[Cu ((b.drop (6*n)).take 6)]:=by
 unfold Bu;rw[List.range_succ,List.map_append];rfl
theorem F6{b:List Int}(h:An b)(i n:Nat):An ((b.drop i).take n):=λx k=>h x (wV (wW k))
theorem Jj{b:List Int}(k:An b):∀(n:Nat),6*n<=b.length->(Bu n b).flatMap AA=b.take (6*n)
 |0,_=>by simp[Bu]
 |n+1,h=>by
  rw[H7,List.flatMap_append,Jj k n (by omega),yc,List.flatMap_nil,List.append_nil,int_rd (by rw[wX,wY];omega) (F6 k _ _)];rw[show 6*(n+1)=6*n+6 by omega,List.take_add]
theorem rdN_of{xs:List Int}(h:∀x∈xs,CM x)(r:List Int)(j:An r):Bu xs.length (xs.flatMap AA++r)=xs:=by
 have u:An (xs.flatMap AA++r):=λx t=>by
  rcases wZ.1 t with t|t;·exact ints_b xs x t
  ·exact j x t
 have z:=Jj u xs.length (by rw[zw,DG];omega);rw[List.take_append_of_le_length (by rw[DG];omega),wH (by rw[DG];omega)]at z;have i:=Ji (r:=[]) (r':=[]) (H6 _ _) (λx t=>?_) h (by rw[z]);·exact i.1
 ·unfold Bu at t;obtain⟨k,y,rfl⟩:=List.mem_map.1 t;have y:=List.mem_range.1 y;exact Ho (by rw[wX,wY,zw,DG];omega) (F6 u _ _)
structure Hp (d:Ds)(m:Gm):Prop where
 gl:m.1.length=d.globals.length
 gi:∀x∈m.1,CM x
 ty:∀n∈m.2,0<=n.1/\n.1<(d.types.length:Int)/\n.2.length=(Bg d n.1).length
 fi:∀n∈m.2,∀x∈n.2,CM x
 len:m.2.length<=4096
theorem nodes_inj{d:Ds}:∀{xs ys:List (Int×List Int)},xs.length=ys.length->(∀n∈xs,n.2.length=(Bg d n.1).length/\∀x∈n.2,CM x)->(∀n∈ys,n.2.length=(Bg d n.1).length/\∀x∈n.2,CM x)->xs.flatMap B1=ys.flatMap B1->xs=ys
 |[],[],_,_,_,_=>rfl
 |(t,f)::xs,(u,g)::ys,i,y,j,h=>by
  rw[yc,yc]at h;have h:t::(f.flatMap AA++xs.flatMap B1)=u::(g.flatMap AA++ys.flatMap B1):=h;obtain⟨l,r⟩:=List.cons.inj h;subst l;obtain⟨o,a⟩:=y (t,f) zb;obtain⟨b1,b2⟩:=j (t,g) zb;obtain⟨k,e⟩:=Ji (o.trans b1.symm) a b2 r;have k:f=g:=k;subst k;rw[nodes_inj (by simpa using i) (λn z=>y n (za _ z)) (λn z=>j n (za _ z)) e]
theorem Jk{d:Ds}{x y:Gm}(k:Hp d x)(t:Hp d y)(h:BK x=BK y):x=y:=by
 unfold BK at h;rw[zH,zH]at h;obtain⟨z,j⟩:=Ji (k.gl.trans t.gl.symm) k.gi t.gi h;obtain⟨i,l⟩:=app_inj (by rw[De,De]) j;have r:=k.len;have o:=t.len;have e:=cod6_inj ⟨by omega,by omega⟩ ⟨by omega,by omega⟩ i;have a:=nodes_inj (d:=d) (by omega) (λn u=>⟨(k.ty n u).2.2,k.fi n u⟩) (λn u=>⟨(t.ty n u).2.2,t.fi n u⟩) l;exact Prod.ext z a
end Go.Proofs
namespace Go.Proofs
open Go Go.Sx
def sumF(b:List Int):Int:=b.foldl (λh c=>xF .u32 (Go.bits .xor .u32 h c*16777619)) 2166136261
theorem wrap_u32(n:Int):xF .u32 n=n % 4294967296:=by
 simp[xF,IntKind.signed,IntKind.bits]
theorem sumF_go(b:List Int):∀h:Int,0<=h/\h<4294967296->0<=b.foldl (λh c=>xF .u32 (Go.bits .xor .u32 h c*16777619)) h/\b.foldl (λh c=>xF .u32 (Go.bits .xor .u32 h c*16777619)) h<4294967296:=by
 induction b with
 |nil=>exact λh k=>k
 |cons a b t=>
  intro h k;rw[List.foldl_cons];refine t _ ?_;rw[wrap_u32];omega
theorem sumF_in(b:List Int):0<=sumF b/\sumF b<4294967296:=sumF_go b _ (by decide)
def Co(b:List Int):Int:=b.getD 0 0+b.getD 1 0*256+b.getD 2 0*65536+b.getD 3 0*16777216
def put4(n:Int):List Int:=[n % 256,n/256 % 256,n/65536 % 256,n/16777216 % 256]
theorem DV(n:Int):(put4 n).length=4:=rfl
theorem put4_b(n:Int):An (put4 n):=λx h=>by
 simp only[put4,List.mem_cons,xC,or_false]at h;rcases h with rfl|rfl|rfl|rfl<;>omega
theorem Jl{n:Int}(h:0<=n)(k:n<4294967296)(r:List Int):Co (put4 n++r)=n:=by
 simp only[Co,put4,List.cons_append,List.nil_append,List.getD_cons_zero,List.getD_cons_succ];omega
theorem getD_b{b:List Int}(h:An b)(i:Nat):0<=b.getD i 0/\b.getD i 0<256:=by
 by_cases k:i<b.length
 ·rw[wz,yu k];exact h _ (List.getElem_mem k)
 ·rw[wz,List.getElem?_eq_none (by omega)];decide
theorem num4_in{b:List Int}(h:An b):0<=Co b/\Co b<4294967296:=by
 have k:=getD_b h 0;have t:=getD_b h 1;have u:=getD_b h 2;have z:=getD_b h 3;unfold Co;omega
theorem Jm{a:List Int}(h:4<=a.length)(r:List Int):Co (a++r)=Co a:=by
 match a,h with
 |k::t::u::x3::a,_=>rfl
theorem An.app{a b:List Int}(h:An a)(k:An b):An (a++b):=λx t=>(wZ.1 t).elim (h x) (k x)
theorem An.drop{b:List Int}(h:An b)(i:Nat):An (b.drop i):=λx k=>h x (wV k)
theorem An.take{b:List Int}(h:An b)(i:Nat):An (b.take i):=λx k=>h x (wW k)
def Dt(x:Int×List Int):List Int:=put4 x.1++x.2
def recB(l:List (Int×List Int)):List Int:=put4 l.length++l.flatMap Dt
def AF(l:List (Int×List Int)):List Int:=recB l++put4 (sumF (recB l))
def pgAt(page:Nat)(b:List Int)(i:Nat):Int×List Int:=(Co (b.drop (4+i*(4+page))),(b.drop (4+i*(4+page)+4)).take page)
def okPg(l:List (Int×List Int)):Bool:=l.all (λx=>decide (0<=x.1/\x.1<1000))&&decide (l.map (·.1)).Nodup
def BH(page:Nat)(b:List Int):Option (List (Int×List Int)×Nat):=
 let n:=(Co b).toNat;let size:=4+n*(4+page)
 if b.length<8 then none
 else if 1000<n∨b.length<size+4∨sumF (b.take size)≠Co (b.drop size)then none
 else
  let l:=(zB n).map (pgAt page b)
  if okPg l then some (l,size+4)else none
def recsP(page:Nat):Nat->List Int->List (List (Int×List Int))×Nat
 |0,_=>([],0)
 |f+1,b=>
  match BH page b with
  |none=>([],0)
  |some (l,s)=>(l::(recsP page f (b.drop s)).1,s+(recsP page f (b.drop s)).2)
def Ao(page:Nat)(b:List Int):List (List (Int×List Int))×Nat:=recsP page (b.length+1) b
theorem F7{page:Nat}{b:List Int}{l:List (Int×List Int)}{s:Nat}(h:BH page b=some (l,s)):8<=s/\s<=b.length:=by
 unfold BH at h;simp only at h;split at h;·cases h
 split at h;·cases h
 split at h
 ·rename_i k t u;simp only[zF,Prod.mk.injEq]at h;omega
 ·cases h
theorem recs_fuel{page:Nat}:∀(f g:Nat)(b:List Int),b.length<f->b.length<g->recsP page f b=recsP page g b
 |0,_,_,h,_=>by omega
 |_+1,0,_,_,h=>by omega
 |f+1,g+1,b,t,u=>by
  unfold recsP;cases k:BH page b with
  |none=>rfl
  |some x=>
   obtain⟨l,s⟩:=x;have z:=F7 k;have:=recs_fuel (page:=page) f g (b.drop s) (by rw[wY];omega) (by rw[wY];omega);simp only[this]
theorem Fy(page:Nat)(b:List Int):Ao page b=match BH page b with|none=>([],0)|some (l,s)=>(l::(Ao page (b.drop s)).1,s+(Ao page (b.drop s)).2):=by
 unfold Ao;rw[recsP];cases h:BH page b with
 |none=>rfl
 |some x=>
  obtain⟨l,s⟩:=x;have k:=F7 h;simp only;rw[recs_fuel b.length ((b.drop s).length+1) (b.drop s) (by rw[wY];omega) (by omega)]
theorem Fz(page:Nat):∀(n:Nat)(b:List Int),b.length<=n->(Ao page b).2<=b.length
 |n,b,h=>by
  rw[Fy];cases k:BH page b with
  |none=>simp
  |some x=>
   obtain⟨l,s⟩:=x;have t:=F7 k;cases n with
   |zero=>omega
   |succ n=>
    have:=Fz page n (b.drop s) (by rw[wY];omega);rw[wY]at this;simp only;omega
end Go.Proofs
