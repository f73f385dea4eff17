/- Part 9: no statement of the seat is proved here. -/
import Derived.Test.YtgdmkmfchcflpaaGreatDoorPe08
import Derived.Laws.MakeOwn
import Derived.OrdersIn
import Derived.OwnWalkIn
import Derived.TacticsIn
import Derived.RangeFuncNested
set_option linter.unusedVariables false
set_option linter.unusedSimpArgs false
open Array renaming getElem?_eq_some_iff->yA,length_toList->xu,mem_of_getElem?->xk,replicate->xj,all_eq_true'->xi,getD_eq_getD_getElem?->wF
open Go.Sem renaming run_bind->zK,run_pure->zM
open Go.Result renaming andThen_ok->zL
open Go.Builtin renaming zeroCells->y9,append_->y7,firstCells->xB,nextslicecap->xq
open Go.IntKind renaming i64->yr,wrap_i64->xr
open List renaming map_cons->zG,append_nil->xp,range'->xm,prefix_refl->yw,prefix_append->yC,zip_cons_cons->xg,lookup_cons->zc,nodup_cons->yU
open Nat renaming add_mul->yb,le_refl->yV
open Go.Proofs.Tryz renaming prog->xE,f263->wA,f186->wB,f187->wC,f238->wD,f104->wE
open Go.Fence renaming wide->xn
open Bool renaming and_eq_true->zC
open Option.some renaming injEq->zF
open Go.Code renaming wpIn->xh
open Option renaming map_eq_some_iff->zi
open Go.Ending.returned renaming injEq->xf
open Go.Value.tuple renaming injEq->xe
open Go.World renaming alloc_heap_new->xd,putObj_heap_other->xc,putObj_size->xb,putObj_heap_same->xa
open Go.RowKit.Below renaming heap_alloc->xO
namespace Go.Sx
open Go
section
variable{P:Program}{V0 V:Mem}{t e ty tc:TypeId}{i:TypeInfo}{z:Value}{sz:Nat}{k:IntKind}
theorem Aq.made{V:Mem}{w:World}(hw:V.le w)(o:Obj):V w.heap.size=none/\Aq V w (V.set w.heap.size o) (w.alloc o):=by
 have u:V w.heap.size=none:=by
  cases h:V w.heap.size with
  |none=>rfl
  |some x=>
   have:=(yA.1 (hw _ _ h)).1;omega
 refine⟨u,⟨by simp,λb x g=>?_,λb g _=>(by grind[heap_alloc_old]),λb g=>?_,rfl,rfl⟩⟩
 ·unfold Mem.set at g;split at g;·grind[heap_alloc_new]
  ·have f:=(yA.1 (hw _ _ g)).1;first|exact(heap_alloc_old w o b f).trans (hw _ _ g)|exact(heap_alloc_old w o f).trans (hw _ _ g)
 grind[Mem.set,inr]
theorem GenK.make(u:P.underlying t=some (.slice e))(hi:P.info? e=some i)(j:i.zero=some z)(h:i.size=sz)(f:i.bytes<=65536){x y:Operand}{vals:Operand->Value}{n:Nat}(o:vals x=.int .i64 n)(p:vals y=.int .i64 n)(l:n<=2147483648){q:Value->Mem->Prop}
  (c:∀g,V g=none->q (.slice (some ⟨g,0,none⟩) n n) (V.set g (.cells (madeCells z.cells (n*sz)) e (0,0)))):GenK P (.makeSlice t x y) ty vals V q:=by
 intro w hw;subst h;have m:(i.bytes:Int)*(n:Int)<=281474976710656:=by
  have:i.bytes*n<=65536*2147483648:=Nat.mul_le_mul f l;omega
 have b:=run_make (P:=P) w t e i z u hi j .i64 .i64 n n (by omega) (Int.le_refl _) m (by omega);grind[Int.toNat_natCast,Aq.made,madeCells,execOp,zK,zM,zL]
theorem zeros_one(g:z.cells.size=sz)(f:∀u∈z.cells.toList,u.oneCell'=true)(n:Nat)(w:0<sz):∀u∈(y9 z.cells n).toList,u.oneCell'=true:=λu h=>by
 unfold y9 at h;simp only[Array.toList_map,List.mem_map]at h;obtain⟨j,-,rfl⟩:=h;grind[Nat.mod_lt]
theorem N6{w:World}(o:P.underlying t=some (.slice e))(p:P.underlying tc=some (.int k))(hi:P.info? e=some i)(c:i.zero=some z)(m:0<i.size)(j:z.cells.size=i.size)(b:∀u∈z.cells.toList,u.oneCell'=true)
  (g h f:Nat) (y:Array Value) (a:w.heap[g]?=some (.cells y e (0,0))) (n:Nat) (d:0<n) (N:n*i.bytes<=281474976710656) (s:n<=2147483648) (x:h+n<=f) (q:h*i.size+n*i.size<=y.size):
  (y7 #[t,tc] ty #[.slice (some ⟨g,0,none⟩) h f,.int .i64 n]).run P w=
   .ok (.slice (some ⟨g,0,none⟩) (h+n) f) (w.setRow g (y.toList.take (h*i.size)++(y9 z.cells n).toList++y.toList.drop (h*i.size+(y9 z.cells n).toList.length)).toArray):=by
 have Z:(y9 z.cells n).toList.length=n*i.size:=by rw[xu,size_zeroCells,j]
 have l:=run_storeCells_at P g (h*i.size) e (y9 z.cells n).toList 0 y w a (by omega) (zeros_one j b n m);simp only[Nat.add_zero]at l;have v:yr.wrap (n:Int)=n:=by rw[xr];omega
 have J:¬((n:Int)<0):=by omega
 have G:¬(281474976710656<(n:Int)*(i.bytes:Int)):=by
  omega
 have Y:¬(n*i.size=0):=Nat.ne_of_gt (Nat.mul_pos d m);simp[y7,run_underlying o,run_underlying p,asInt,asIntOf,sizeOf,typeInfo,hi,zeroValue,c,v,J,G,x,Addr.add_lit,l];omega
theorem Mj{w:World}(m:P.underlying t=some (.slice e))(q:P.underlying tc=some (.int k))(hi:P.info? e=some i)(o:i.zero=some z)(s:0<i.size)(base:Option Addr)(h g:Nat)(f:List Value)
  (u:(xB i.size h (.slice base h g)).run P w.drew=.ok f.toArray w.drew) (n:Nat) (v:0<n) (J:n*i.bytes<=281474976710656) (p:n<=2147483648)
  (G:g<h+n) (c:((h+n:Nat):Int)<=9223372036854775807) (l:xq (h+n) g*i.bytes<=281474976710656):
  (y7 #[t,tc] ty #[.slice base h g,.int .i64 n]).run P w=
   .ok (.slice (some ⟨w.heap.size,0,none⟩) (h+n) (grownCap w (h+n) g e))
    (w.drew.alloc (.cells (f.toArray++y9 z.cells n++y9 z.cells (grownCap w (h+n) g e-(h+n))) e)):=by
 have j:¬(h+n<=g):=by omega
 have y:¬(9223372036854775807<((h:Int)+(n:Int))):=by omega
 have x:¬(281474976710656<xq (h+n) g*i.bytes):=by omega
 have b:yr.wrap (n:Int)=n:=by rw[xr];omega
 have a:¬((n:Int)<0):=by omega
 have d:¬(281474976710656<(n:Int)*(i.bytes:Int)):=by
  omega
 simp[y7,run_underlying m,run_underlying q,asInt,asIntOf,sizeOf,typeInfo,zeroValue,hi,o,b,a,d,j,y,x,Question.forced,u,newRow,grownCap];simp_all[absurd,Nat.ne_of_gt,Nat.mul_pos]
theorem GenK.appendZ(C:P.underlying t=some (.slice e))(D:P.underlying tc=some (.int k))(hi:P.info? e=some i)(hz:i.zero=some z)(G:i.size=sz)(N:z.cells.size=sz)(E:0<sz)(K:i.bytes<=65536)(h1:∀u∈z.cells.toList,u.oneCell'=true)
  {x y:Operand} {vals:Operand->Value} {s:Sl} {n:Nat} {vs:List Value} (hx:vals x=.slice s.p s.n s.c) (hy:vals y=.int .i64 n) (own:Own V0 V e sz s vs) (W:s.n+n<=2147483648) {q:Value->Mem->Prop}
  (hq:∀s' V',Own V0 V' e sz s' (vs++(y9 z.cells n).toList)->q (.slice s'.p s'.n s'.c) V'):
  GenK P (.call {callee:=.builtin .append,args:=#[x,y],argTypes:=#[t,tc]}) ty vals V q:=by
 intro w hw;subst G;have m:(s.n+n)*i.bytes<=140737488355328:=Nat.le_trans (Nat.mul_le_mul W K) (by decide);have S:n*i.bytes<=281474976710656:=by
  grind
 have hl:(y9 z.cells n).toList.length=n*i.size:=by rw[xu,size_zeroCells,N]
 have o:∀(s':Sl)(V':Mem)(w':World),(y7 #[t,tc] ty #[.slice s.p s.n s.c,.int .i64 n]).run P w=.ok (.slice s'.p s'.n s'.c) w'->Aq V w V' w'->Own V0 V' e i.size s' (vs++(y9 z.cells n).toList)->
   ∃v w' V',(execOp vals {dst:=none,op:=.call {callee:=.builtin .append,args:=#[x,y],argTypes:=#[t,tc]},type:=ty,pos:= "",after:=#[],guard:=none}).run P w=.ok (.value v) w'/\Aq V w V' w'/\q v V':=by
  intro s' V' w' A T U;refine⟨_,w',V',?_,T,hq s' V' U⟩;unfold execOp;simp only[resolve,invoke,builtin,zK,zM,zL,List.map_toArray,zG,List.map_nil,hx,hy,A]
 by_cases I:n=0
 ·subst I;have hz0:(y9 z.cells 0).toList=[]:=List.eq_nil_of_length_eq_zero (by rw[hl];simp);rw[hz0,xp]at o;have d:s.n<=s.c:=by
   rcases own.at_ with⟨a,b,-⟩|⟨g,cur,-,-,-,h,-⟩;·omega
   ·exact h
  refine o s V w ?_ (Aq.refl hw) own;have wl:yr.wrap 0=0:=by rfl
  cases s.p with
  |none=>simp[y7,run_underlying C,run_underlying D,asInt,asIntOf,sizeOf,typeInfo,hi,wl,d]
  |some a=>simp[y7,run_underlying C,run_underlying D,asInt,asIntOf,sizeOf,typeInfo,hi,wl,d,storeCells]
 have hn:0<n:=Nat.pos_of_ne_zero I;have J:(vs++(y9 z.cells n).toList).length=(s.n+n)*i.size:=by rw[List.length_append,own.len,hl,yb]
 have l:∀old,old<s.n+n->(y7 #[t,tc] ty #[.slice s.p s.n s.c,.int .i64 n]).run P w=
   .ok (.slice (some ⟨w.heap.size,0,none⟩) (s.n+n) (grownCap w (s.n+n) old e)) (w.drew.alloc (.cells (vs.toArray++y9 z.cells n++y9 z.cells (grownCap w (s.n+n) old e-(s.n+n))) e))->
   ∃v w' V',(execOp vals {dst:=none,op:=.call {callee:=.builtin .append,args:=#[x,y],argTypes:=#[t,tc]},type:=ty,pos:= "",after:=#[],guard:=none}).run P w=.ok (.value v) w'/\Aq V w V' w'/\q v V':=by
  intro old U A;obtain⟨Z,T⟩:=Aq.new hw (.cells (vs.toArray++y9 z.cells n++y9 z.cells (grownCap w (s.n+n) old e-(s.n+n))) e);have hge:=grownCap_ge w (s.n+n) old e;refine o ⟨_,_,_⟩ _ _ A T ⟨Mem.sub.new own.sub Z _,J,.inr ⟨w.heap.size,_,rfl,?_,Mem.set_same _ _ _,hge,grownCap_le_maxLen w _ old e (by simp only[maxLen];omega),?_,?_⟩⟩
  ·cases h0:V0 w.heap.size with
   |none=>rfl
   |some x=>rw[own.sub _ _ h0]at Z;cases Z
  ·simp only[Array.size_append,List.size_toArray,size_zeroCells,N,own.len,<-yb];congr 1;show _=grownCap w (s.n+n) old e;omega
  grind
 have hfitN:∀old,old<s.n+n->xq (s.n+n) old*i.bytes<=281474976710656:=λold U=>growslice_fits (by omega) m;rcases own.at_ with⟨hs,hs',hv⟩|⟨g,cur,hp,hg,hV,d,M,hcs,Y⟩
 ·subst hv;refine l s.c (by omega) ?_;have F:(xB i.size s.n (.slice s.p s.n s.c)).run P w.drew=.ok ([]:List Value).toArray w.drew:=by
   rw[hs];cases s.p with
   |none=>rfl
   |some a=>simp[xB,loadCells,loadCellsFrom]
  grind[Mj]
 ·by_cases f:s.n+n<=s.c
  ·have X:w.heap[g]?=some (.cells cur e (0,0)):=hw _ _ hV;have hle:(s.n+n)*i.size<=s.c*i.size:=Nat.mul_le_mul_right _ f;have hmul:(s.n+n)*i.size=s.n*i.size+n*i.size:=yb _ _ _;have A:=N6 (P:=P) (ty:=ty) C D hi hz E N h1 g s.n s.c cur X n hn S (by omega) f (by omega);refine o ⟨some ⟨g,0,none⟩,s.n+n,s.c⟩ _ _ (by rw[hp];exact A) (Aq.row hw hV) ⟨own.sub.set hg _,J,.inr ⟨g,_,rfl,hg,Mem.set_same _ _ _,f,M,?_,?_⟩⟩;·grind
   grind
  ·refine l s.c (by omega) ?_;have B:w.ownsRow 0 e i.size (.slice s.p s.n s.c) s.n vs:=⟨own.len,.inr ⟨g,s.c,cur,by rw[hp],Nat.zero_le _,hw _ _ hV,d,M,hcs,Y⟩⟩;have holds:∀j u,vs[j]?=some u->w.cell? ((⟨g,0,none⟩:Addr).add j)=some u:=B.cells (g:=g) (by rw[hp];rfl);have F:=run_firstCells_some (P:=P) w.drew i.size s.n ⟨g,0,none⟩ s.n s.c vs own.len (by simpa using holds);grind[Mj,xB]
end
end Go.Sx
namespace Go.Proofs
open Go Go.Sx
attribute [local irreducible] Go.Sx.Tri
theorem nn{p:Addr}:¬(some p:Option Addr)=none:=nofun
theorem Hk{p:Addr}{n:Nat}:¬Aa (some p) n=none:=nofun
theorem one_int{V:Mem}{b:Nat}{n:Int}{t:Nat}(h:V b=some (.cells #[.int .i64 n] t (0,0))):Ad V ⟨some ⟨b,0,none⟩,1,1⟩ 1 ([n].map Am):=
 Ad.cells (xs:=[n]) (row:=Am) h rfl (λ_=>rfl) rfl (by simp)
theorem c210{V:Mem}{l:Sl}{xs:List Int}(h:Ad V l 1 (xs.map Am))(w:xs.length<=2147483648):Tri xE 210 #[l.v] V λe V'=>∃s:Sl,e=.returned (.slice s.p s.n s.c)/\Sx.Own V V' 3 1 s (xs.flatMap Am):=by
 refine x210 ?_;refine⟨λy=>⟨⟨none,0,0⟩,rfl,?_⟩,λy x g=>?_⟩
 ·have:xs=[]:=by
   cases xs with
   |nil=>rfl
   |cons a m=>
    have:=h.base (i:=0) (by simp);simp_all
  grind[Own.nil,Mem.sub.refl]
 ·have f:=Mem.sub_new g (.cells #[] 3 (0,0));exact DU (s:=⟨some ⟨x,0,none⟩,0,0⟩) (u:=l) (xs:=[]) (ys:=xs) rfl rfl (Own.empty (V0:=V) f _ _ _) (h.sub f) (by simpa using w) λs' V' j=>⟨s',rfl,s',rfl,by simpa using j⟩
end Go.Proofs
namespace Go.Sx
open Go
def AV(r:Option Nat):Fence:={xn with round:=r}
section
variable{P:Program}{r:Option Nat}{n:Nat}
theorem Mk{f:FuncId}{args:Array Value}{w:World}{R:Ending->World->Prop}:CallsIn (AV r) n P f args w R↔Calls P f args w R:=callsIn_wide (n:=n)
theorem rowsIn_wideR{row:String}{args:Array Value}{w:World}{R:Value->World->Prop}(h:Rows P row args w R):RowsIn (AV r) n P row args w R:=λc g _=>
 let⟨v,w',q,s⟩:=h c g
 ⟨v,w',q,stepsIn_wide.2 s⟩
theorem Ml{o:Oper}{a:Act}{w:World}{next:Act->World->Prop}{Q:Exit->Act->World->Prop}(u:∀c,o.op≠.defer c)(h:o.wp P a w next Q):o.wpIn (AV r) n P a w next Q:=by
 refine⟨λ_ _=>trivial,?_⟩;rw[Oper.semAt_eq _ _ _ u];unfold Oper.wp at h;revert h;generalize(execOp a.eval o).run P w=g;intro h;cases g with
 |ok x w'=>
  cases x with
  |enter f args=>exact⟨λh=>by simp[AV,xn]at h,Mk.2 h⟩
  |row row args=>exact⟨λh=>by simp[AV,xn]at h,rowsIn_wideR h⟩
  |value v=>exact h
  |skip=>exact h
  |defer d=>exact h
  |_=>exact h.elim
 |halt x w'=>cases x<;>first|exact h|exact h.elim
def I6:Op->Bool
 |.defer _=>false
 |_=>true
theorem KG{o:Op}(h:I6 o=true):∀c,o≠.defer c:=λc e=>by subst e;cases h
def EN:Code->Bool
 |.region _ h _=>h.all λo=>I6 o.op
 |.seq x y=>EN x&&EN y
 |.block _ b=>EN b
 |.cond _ x y=>EN x&&EN y
 |.loop b=>EN b
 |_=>true
theorem Mn{ops:Array Oper}{Q:Exit->Act->World->Prop}(u:¬LetsOut Q)(q:∀o∈ops,∀c,o.op≠.defer c)(l:List Oper):∀k,(∀j,j<l.length->l[j]?=ops[k+j]?)->∀a w,wpList P ops Q l a w->
  wpOpsIn (AV r) n P ops Q (xm k l.length) a w:=by
 induction l with
 |nil=>grind[wpOpsIn,wpList]
 |cons o l y=>
  intro k h a w hw;have x:ops[k]?=some o:=by simpa using(h 0 (by simp)).symm
  have g:=y (k+1) (λj m=>by have:=h (j+1) (by simpa using m);grind);simp only[List.length_cons,List.range'_succ,wpOpsIn,x];simp only[wpList]at hw;split
  ·rename_i f;rw[if_pos f]at hw;grind[Ml,xk,Oper.wp_mono]
  ·rename_i f;rw[if_neg f]at hw;exact⟨λ_ _=>trivial,g _ _ hw⟩
theorem N7{ops:Array Oper}{Q:Exit->Act->World->Prop}(u:¬LetsOut Q)(q:∀o∈ops,∀c,o.op≠.defer c){md:Region.Mode}:∀g listed a w,wpAny P md ops Q g listed a w->
  wpAnyIn (AV r) n P md ops Q g listed a w:=by
 intro g;induction g with
 |zero=>exact λ_ _ _ h=>h
 |succ g y=>
  rintro listed a w ⟨x,j⟩;refine⟨x,λi l=>?_⟩;have:=j i l;unfold wpOp at this;unfold wpOpIn;split;·simp_all
  ·rename_i o m;simp only[m]at this;split
   ·rename_i f;rw[if_pos f]at this;grind[Ml,xk,Oper.wp_mono]
   ·rename_i f;rw[if_neg f]at this;exact⟨λ_ _=>trivial,y _ _ _ this⟩
end
open Classical in
theorem KH{P:Program}{F:Fence}{g:Nat}{c:Code}{Q:Exit->Act->World->Prop}{a:Act}{w:World}(Inv:Nat->Act->World->Prop)(y:∃n,Inv n a w)
  (round:∀n a w,Inv n a w->c.wpIn F g P (Exit.then (λf w'=>∃u,u<n/\Inv u f w') Q) a w):(Code.loop c).wpIn F g P Q a w:=by
 let m:Act->World->Nat:=λa w=>if h:∃n,Inv n a w then Classical.choose (Kj _ h)else 0
 have hm:∀a w (h:∃n,Inv n a w),Inv (m a w) a w/\∀k,Inv k a w->m a w<=k:=λa w h=>by
  grind
 refine wpIn_loop (λa w=>∃n,Inv n a w) m y λa w x=>?_;obtain⟨j,l⟩:=hm a w x;refine wpIn_mono (round _ a w j) (λe f w' q=>?_);grind
section
variable{all:Array Oper}{k:St->Tr}{Q:Exit->Act->World->Prop}
variable{P:Program}{R:Ending->Mem->Prop}{V0:Mem}{w0:World}{L:List (KZ)}{ρ0:List Value}{fs:List Nat}{H:BV}
theorem N8(g:DN P fs){st:St}{a:Act}{w:World}(Z:EZ R V0 w0 a.defers Q)(h:AM P R C8 V0 w0 H.N L ρ0 a.tmps w st (HI P fs H all st k))
  (y:LetsOut (λ(_:Exit) (_:Act) (_:World)=>False)->LetsOut Q)
  (Y:∀st' l w',l.defers=a.defers->AM P R C8 V0 w0 H.N L ρ0 l.tmps w' st' (k st')->Q .normal l w'):wpAny P .any all Q all.size (xj all.size false) a {w with drawn:=w.drawn+1}:=by
 unfold HI at h;simp only at h;obtain⟨β,ρ,V,hp,W,m⟩:=h;split at m;case isFalse=>exact m.elim
 rename_i J;simp only[zC,List.all_eq_true]at J;obtain⟨q,p⟩:=J;obtain⟨c,A,G,b,I⟩:=LY q;have u:∀j d,j<all.size->(xj all.size false).getD j d=false:=λj d f=>by simp_all
 refine(any_sound g c (λi o M=>p o (by grind)) Z y Y all.size (List.range all.size) (GV all (BP all.toList []) all.size 0) [] st _ a _ a [] C8 (λx=>x) ?_ rfl List.nodup_range (by simp) λj=>?_)
 ·exact
  {lsize:=by simp
   closed:=λj F f v=>by
    rw[u j _ (yA.1 f).1]at v;cases v
   chain:=I
   nd:=G
   bound:=b
   unl:=λj f _=>.inr (nodup_all G b A f)
   pu:=λj f=>by cases f
   ru:=λj f=>.inl (u j _ (b j f))
   boi:=λi X j f v=>by omega
   fsize:=rfl
   fdef:=rfl
   fill:=λs _=>rfl
   goes:=⟨_,β,ρ,V,hp,W.drawn _,m⟩}
 simp_all
end
section
variable{P:Program}{R:Ending->Mem->Prop}{O V0:Mem}{w0:World}{fs:List Nat}{H:BV}
theorem noOut(Q:Exit->Act->World->Prop):¬LetsOut (λe g w'=>e≠.outgrown/\Q e g w'):=λ⟨_,_,h⟩=>h.1 rfl
theorem I7{x y:Bool}(h:(x&&y)=true):x=true:=by simp_all
theorem I8{x y:Bool}(h:(x&&y)=true):y=true:=by simp_all
theorem ndOps{id:Nat}{ops:Array Oper}{d:Bool}(h:EN (.region id ops d)=true):∀o∈ops,I6 o.op=true:=by
 grind[EN,xi]
theorem ex_sound_in{r:Option Nat}{n₀:Nat}(G:DN P fs)(hm:P.follows .mixedOrders=true):∀(c:Code),EN c=true->∀(L:List (KZ))(ρ0:List Value)(st:St)(k:Ex->St->Tr)(a:Act)(w:World)(Q:Exit->Act->World->Prop),
  EZ R V0 w0 a.defers Q->AM P R C8 V0 w0 H.N L ρ0 a.tmps w st (ex P fs H c st k)->
  (∀e st' f w' A,L<+:A->f.defers=a.defers->AM P R C8 V0 w0 H.N A ρ0 f.tmps w' st' (k e st')->Q e.toExit f w')->c.wpIn (AV r) n₀ P Q a w:=by
 intro c;induction c with
 |skip=>intro nd L ρ0 st k a w Q l h g;exact wpIn_skip (g .normal st a w L (yw _) rfl h)
 |ret=>intro nd L ρ0 st k a w Q l h g;exact wpIn_ret (g .ret st a w L (yw _) rfl h)
 |exit id=>intro nd L ρ0 st k a w Q l h g;exact wpIn_exit (g (.exit id) st a w L (yw _) rfl h)
 |seq x y M F=>
  intro nd L ρ0 st k a w Q l h g;refine wpIn_seq (M (I7 nd) L ρ0 st _ a w _ l h λe st' f w' A S q p=>?_);cases e with
  |normal=>exact F (I8 nd) A ρ0 st' k f w' Q (by grind) p λe st'' a'' w'' L'' hL' hd' hg'=>g e st'' a'' w'' L'' (S.trans hL') (hd'.trans q) hg'
  |exit i=>exact g (.exit i) st' f w' A S q p
  |ret=>exact g .ret st' f w' A S q p
 |block id b ih=>
  intro nd L ρ0 st k a w Q l h g;refine wpIn_block (ih nd L ρ0 st _ a w _ l h λe st' f w' A S q p=>?_);cases e with
  |normal=>exact g .normal st' f w' A S q p
  |exit i=>
   simp only at p;show(if i=id then Q .normal f w' else Q (.exit i) f w');split;·rename_i e;rw[if_pos e]at p;exact g .normal st' f w' A S q p
   ·rename_i e;rw[if_neg e]at p;exact g (.exit i) st' f w' A S q p
  |ret=>exact g .ret st' f w' A S q p
 |cond c x y M F=>
  intro nd L ρ0 st k a w Q l h g;obtain⟨β,ρ,V,W,Z,u⟩:=h;simp only[ex]at u;split at u
  ·rename_i v hv;have U:a.eval c=.bool v:=A5 Z hv;cases v with
   |true=>exact wpIn_cond_true U (M (I7 nd) L ρ0 st k a w Q l ⟨β,ρ,V,W,Z,u⟩ g)
   |false=>exact wpIn_cond_false U (F (I8 nd) L ρ0 st k a w Q l ⟨β,ρ,V,W,Z,u⟩ g)
  ·rename_i t _ ht;split at u
   ·rename_i hc;obtain⟨hc1,hc2⟩:=hc;obtain⟨b,hb⟩:=Fj (ρ:=ρ) (β:=β) hc1;have U:a.eval c=.bool b:=(A5 Z ht).trans hb;have hfr:=(T.ev_free (β:=id) (β':=β) (ρ:=ρ) t hc2).1;split at u
    ·rename_i d;simp only[D,hfr,hb,asB]at u;have Y:Rel C8 V0 w0 H.N β (st.now d (.bool b)) ρ V a.tmps w:=Z.now (t:=t) ht (by rw[hb];rfl);cases b with
     |true=>exact wpIn_cond_true U (M (I7 nd) L ρ0 _ k a w Q l ⟨β,ρ,V,W.now _ _,Y,u.1 rfl⟩ g)
     |false=>exact wpIn_cond_false U (F (I8 nd) L ρ0 _ k a w Q l ⟨β,ρ,V,W.now _ _,Y,u.2 rfl⟩ g)
    ·simp only[D,hfr,hb,asB]at u;cases b with
     |true=>exact wpIn_cond_true U (M (I7 nd) L ρ0 _ k a w Q l ⟨β,ρ,V,W,Z,u.1 rfl⟩ g)
     |false=>exact wpIn_cond_false U (F (I8 nd) L ρ0 _ k a w Q l ⟨β,ρ,V,W,Z,u.2 rfl⟩ g)
   ·exact u.elim
  ·exact u.elim
 |region id ops draw=>
  intro nd L ρ0 st k a w Q l h g;cases draw with
  |true=>
   refine wpIn_mono (wpIn_region_any (Q:=λe f w'=>e≠.outgrown/\Q e f w') hm (N7 (noOut Q) (λo ho=>KG (ndOps nd o ho)) _ _ _ _ (N8 G (λch f w' q hR=>⟨by simp,l ch f w' q hR⟩) h (λ⟨_,_,h⟩=>h.elim) λst' f w' q p=>⟨by simp,g .normal st' f w' L (yw _) q p⟩))) λe a w h=>h.2
  |false=>
   refine wpIn_mono (wpIn_region (Q:=λe f w'=>e≠.outgrown/\Q e f w') ?_) λe a w h=>h.2;rw[List.range_eq_range',<-xu];exact Mn (noOut Q) (λo ho=>KG (ndOps nd o ho)) _ _ (λj _=>by simp) _ _ (HP G ops.toList st a w (λch f w' q hR=>⟨by simp,l ch f w' q hR⟩) h λst' f w' q p=>⟨by simp,g .normal st' f w' L (yw _) q p⟩)
 |loop b ih=>
  intro nd L ρ0 st k a w Q l h g;obtain⟨β,ρ,V,W,Z,u⟩:=h;simp only[ex,exLoop]at u;generalize dedup (FJ b)=ws at u;generalize(((FK b).bind λi=>H.loops.lookup i).getD [])=hint at u;obtain⟨st',t,p,hfree,β',B,V',C,hr',m⟩:=D0 _ _ _ _ ⟨β,ρ,V,W,Z,u⟩;split at m;case isFalse=>exact m.elim
  rename_i hw;split at m;·exact m.elim
  ·rename_i st1 bs hgb;split at m;·exact m.elim
   ·rename_i init hinit;split at m;case isFalse=>exact m.elim
    rename_i hok;simp only[D]at m;obtain⟨I,μ,hI,E⟩:=m;obtain⟨hrh,hsh⟩:=IN hw hr'.nv (yw _) hgb hinit hok hr';let Inv:Nat->Act->World->Prop:=λn f w'=>∃β xs V',Shaped (bs.flatMap (·.2.2)++(Cb ws st1).2.flatMap (·.2.2)) xs/\I xs V'/\μ xs V'=n/\
     Rel C8 V0 w0 H.N β {(Cb ws st1).1 with depth:=st'.depth+1} (B++xs) V' f.tmps w'/\f.defers=a.defers
    refine KH Inv ⟨_,β',init.evs B id,V',hsh,hI,rfl,hrh,rfl⟩ ?_;rintro n a1 w1 ⟨β1,xs,V1,hsh1,hI1,rfl,hr1,K⟩;have hDb:=E xs V1 hsh1 hI1;refine ih nd (L++[λys X=>I ys X/\μ ys X<μ xs V1]) B _ _ a1 w1 _ (by rw[K];exact l) ⟨β1,B++xs,V1,⟨yC _ _,?_⟩,hr1,hDb⟩ ?_;·simp[C.2]
    ·intro e st2 a2 w2 L2 hL2 hd2 hg2;cases e with
     |normal=>
      obtain⟨β2,ρ2,V2,hp2,hr2,s⟩:=hg2;simp only at s;split at s
      ·rename_i vs hvs;split at s
       ·rename_i hok2;simp only[D]at s;obtain⟨J,hJ,hJ2⟩:=s;have hlvl:L2[st'.depth]?=some (λys X=>I ys X/\μ ys X<μ xs V1):=by
         obtain⟨σ,rfl⟩:=hL2;rw[<-C.2,List.getElem?_append_left (by simp),List.getElem?_append_right (yV _)];simp
        rw[hlvl]at hJ;simp only[zF]at hJ;subst hJ;obtain⟨hrh2,hsh2⟩:=IN hw hr'.nv hp2.1 hgb hvs hok2 hr2;exact⟨_,hJ2.2,β2,vs.evs ρ2 id,V2,hsh2,hJ2.1,rfl,hrh2,hd2.trans K⟩
       ·exact s.elim
      ·exact s.elim
     |exit i=>exact g (.exit i) st2 a2 w2 L2 ((yC _ _).trans hL2) (hd2.trans K) (hg2.weak C.1)
     |ret=>exact g .ret st2 a2 w2 L2 ((yC _ _).trans hL2) (hd2.trans K) (hg2.weak C.1)
 |rangeFunc _ _ _ _ _ _=>intro nd L ρ0 st k a w Q l h g;obtain⟨β,ρ,V,W,Z,u⟩:=h;exact u.elim
 |scope _ _=>intro nd L ρ0 st k a w Q l h g;obtain⟨β,ρ,V,W,Z,u⟩:=h;exact u.elim
 |label _=>intro nd L ρ0 st k a w Q l h g;obtain⟨β,ρ,V,W,Z,u⟩:=h;exact u.elim
 |goto _=>intro nd L ρ0 st k a w Q l h g;obtain⟨β,ρ,V,W,Z,u⟩:=h;exact u.elim
 |refuse _=>intro nd L ρ0 st k a w Q l h g;obtain⟨β,ρ,V,W,Z,u⟩:=h;exact u.elim
end
section
variable{P:Program}{fs:List Nat}{H:BV}
def Dd(r:Option Nat)(n:Nat)(P:Program)(Q:Exit->Act->World->Prop):List Code->Act->World->Prop
 |[],a,w=>Q .normal a w
 |c::h,a,w=>c.wpIn (AV r) n P (Exit.then (Dd r n P Q h) Q) a w
def flat:Code->List Code
 |.seq x y=>flat x++flat y
 |c=>[c]
theorem Mo{r:Option Nat}{n:Nat}{Q:Exit->Act->World->Prop}{g:List Code}:∀{f:List Code}{a:Act}{w:World},Dd r n P (Exit.then (Dd r n P Q g) Q) f a w->Dd r n P Q (f++g) a w
 |[],_,_,h=>h
 |c::y,a,w,h=>by
  refine wpIn_mono (show c.wpIn (AV r) n P _ a w from h) λe x w' u=>?_;cases e with
  |normal=>exact Mo u
  |_=>exact u
theorem HZ{r:Option Nat}{n:Nat}{Q Q':Exit->Act->World->Prop}(g:∀e a w,Q e a w->Q' e a w):∀{l:List Code}{a:Act}{w:World},Dd r n P Q l a w->Dd r n P Q' l a w
 |[],_,_,h=>g _ _ _ h
 |c::u,a,w,h=>by
  refine wpIn_mono (show c.wpIn (AV r) n P _ a w from h) λe y w' f=>?_;cases e with
  |normal=>exact HZ g f
  |_=>exact g _ _ _ f
theorem Mp{r:Option Nat}{n:Nat}{Q:Exit->Act->World->Prop}{g:List Code}:∀{f:List Code}{a:Act}{w:World},Dd r n P Q (f++g) a w->Dd r n P (Exit.then (Dd r n P Q g) Q) f a w
 |[],_,_,h=>h
 |c::y,a,w,h=>by
  refine wpIn_mono (show c.wpIn (AV r) n P _ a w from h) λe x w' u=>?_;cases e with
  |normal=>exact Mp u
  |_=>exact u
theorem GC{r:Option Nat}{n:Nat}:∀{c:Code}{Q:Exit->Act->World->Prop}{a:Act}{w:World},Dd r n P Q (flat c) a w->c.wpIn (AV r) n P Q a w:=by
 intro c;induction c with
 |seq x y f u=>
  intro Q a w h;refine wpIn_seq (f ?_);refine HZ (λe a w g=>?_) (Mp h);cases e with
  |normal=>exact u g
  |_=>exact g
 |_=>
  intro Q a w h;refine wpIn_mono (show xh (AV r) n P _ _ a w from h) λe j w' g=>?_;cases e with
  |normal=>exact g
  |_=>exact g
def AH(P:Program)(N:Nat)(cs:List Code)(g:List (Nat×Value))(h:List Nat)(V:Mem)(R:KZ):Prop:=
 ∀r n a w,V.le w->a.tmps.size=N->(∀s v,g.lookup s=some v->a.tmps.getD s undef=v)->
  Dd r n P (λe f w'=>e=.normal/\f.defers=a.defers/\f.tmps.size=N/\∃vs V',(∀s v,(h.zip vs).lookup s=some v->f.tmps.getD s undef=v)/\R vs V'/\Aq V w V' w') cs a w
theorem AH.mono{N:Nat}{cs:List Code}{f:List (Nat×Value)}{g:List Nat}{V:Mem}{R u:KZ}(h:AH P N cs f g V R)(y:∀vs V',R vs V'->u vs V'):AH P N cs f g V u:=
 λr n a w x j l=>HZ (λ_ _ _ ⟨m,q,o,vs,V',p,c,b⟩=>⟨m,q,o,vs,V',p,y _ _ c,b⟩) (h r n a w x j l)
def KI(P:Program)(fs:List Nat)(H:BV):List Code->St->(Ex->St->Tr)->Tr
 |[],st,k=>k .normal st
 |c::h,st,k=>ex P fs H c st λe st=>match e with|.normal=>KI P fs H h st k|e=>k e st
def segT(P:Program)(fs:List Nat)(H:BV)(cs:List Code)(slots:List (Nat×T))(nv:Nat)(h:List Nat):Tr:=
 if(slots.all λx=>x.2.wf nv 0)/\cs.all EN then
  KI P fs H cs {slots,boxes:=[],nv,nb:=0,depth:=0} λe st=>
   match e with
   |.normal=>pubT (st.nb+2) st (λst=>(EC st h).map T.tup) λ_ t=>.ret t
   |_=>.bad 60 0
 else .bad 61 0
theorem exL_sound{R:Ending->Mem->Prop}{V0:Mem}{w0:World}{r:Option Nat}{n:Nat}(g:DN P fs)(hm:P.follows .mixedOrders=true){k:Ex->St->Tr}{Q:Exit->Act->World->Prop}{ρ0:List Value}:∀{cs:List Code}{L:List (KZ)}{st:St}{a:Act}{w:World},
  EZ R V0 w0 a.defers Q->AM P R C8 V0 w0 H.N L ρ0 a.tmps w st (KI P fs H cs st k)->cs.all EN=true->
  (∀e st' u w' y,L<+:y->u.defers=a.defers->AM P R C8 V0 w0 H.N y ρ0 u.tmps w' st' (k e st')->Q e.toExit u w')->Dd r n P Q cs a w
 |[],L,st,a,w,_,h,_,x=>x .normal st a w L (yw _) rfl h
 |c::cs,L,st,a,w,J,h,f,x=>by
  simp only[List.all_cons,zC]at f;refine ex_sound_in g hm c f.1 L ρ0 st _ a w _ J h λe st' u w' y l m q=>?_;cases e with
  |normal=>exact exL_sound g hm (by grind) q f.2 λe j o p b d s v=>x e j o p b (l.trans d) (s.trans m) v
  |exit i=>exact x (.exit i) st' u w' y l m q
  |ret=>exact x .ret st' u w' y l m q
end
section
variable{P:Program}{fs:List Nat}{H:BV}
theorem KJ{f:T->Value}:∀{l:List Nat}{ts:List T}{s:Nat}{v:Value},(l.zip (ts.map f)).lookup s=some v->∃t,(l.zip ts).lookup s=some t/\f t=v/\s∈l
 |[],_,s,v,h=>by simp at h
 |x::xs,[],s,v,h=>by simp at h
 |x::xs,t::ts,s,v,h=>by
  simp only[zG,xg,zc]at h⊢;by_cases e:s=x;·simp_all
  ·have:(s==x)=false:=by simpa using e
   rw[this]at h⊢;obtain⟨g,u,w,y⟩:=KJ h;simp_all
theorem KK{f:T->Value}:∀{l:List (Nat×T)}{s:Nat}{t:T},l.lookup s=some t->(l.map λx=>(x.1,f x.2)).lookup s=some (f t)
 |[],s,t,h=>by simp at h
 |(x,u)::xs,s,t,h=>by
  simp only[zG,zc]at h⊢;split at h;·simp_all
  ·exact KK h
theorem seg_sound(f:DN P fs)(hm:P.follows .mixedOrders=true){N:Nat}{cs:List Code}{slots:List (Nat×T)}{nv:Nat}{u:List Nat}{t:Tr}(C:segT P fs {H with N:=N} cs slots nv u=t)(ρ:List Value)(E:ρ.length=nv)
  {m:List (Nat×Value)} (p:m=slots.map λx=>(x.1,x.2.ev ρ id)) {V:Mem} {R:KZ} {q:Prop} (K:q=DT P {} (λe V'=>∃vs:List Value,e=.returned (.tuple vs.toArray)/\R vs V') t [] ρ V) (h:q):
  AH P N cs m u V R:=by
 intro r n a w S U hs;subst K p C;have g:=Dw _ _ _ _ h;unfold segT at g;split at g;case isFalse=>exact g.elim
 rename_i hw;obtain⟨hwf,Z⟩:=hw;refine exL_sound (L:=[]) (ρ0:=ρ) (V0:=V) (w0:=w) f hm (λ_ _ _ _ h=>by simp_all) ⟨id,ρ,V,⟨yw _,rfl⟩,?_,g⟩ Z ?_
 ·exact
   {nv:=E
    size:=U
    slots:=λs t c=>by
     have hl:=G3 c;simp_all[KK,id]
    frm:=Aq.refl S
    boxes:=λi cs ty I=>by simp[St.box]at I
    hid:=λb o hb=>by cases hb
    inj:=λi j I _ _=>by grind}
 ·intro e st' a' w' L' _ hd c;cases e with
  |exit j=>obtain⟨β,l,V2,M,d,g⟩:=c;exact g.elim
  |ret=>obtain⟨β,l,V2,M,d,g⟩:=c;exact g.elim
  |normal=>
   obtain⟨st2,t2,J,Y,β,l,V2,M,d,g⟩:=D0 _ _ _ _ c;simp only[zi]at J;obtain⟨x,F,rfl⟩:=J;simp only[D]at g;obtain⟨vs,h1,h2⟩:=g;simp only[T.ev,xf,xe]at h1;have W:T.evs l id x=vs:=by simp_all
   refine⟨rfl,hd,d.size,vs,V2,λs v G=>?_,h2,d.frm⟩;rw[<-W,Dj]at G;obtain⟨t,g1,g2,X⟩:=KJ G;obtain⟨y,B,g5⟩:=IH F s X;have A:=IG F s X;rw[g1,B]at A;simp only[zF]at A;subst A;rw[d.slots s t B,<-g2];grind[II,T.firstBox,T.ev_free]
end
section
variable{P:Program}
def AO(fn:FuncId)(tmps:Array Value)(ps:Array Tmp)(assign body:Code)(D:Nat):Loop:={state:=.ready,pending:=none,fn,tmps,params:=ps,assign,body,defers:=D}
theorem I9{g:Operand}{ps:Array Tmp}{assign body:Code}{a:Act}{w:World}{V:Mem}{f:FuncId}{caps:Array Value}{n:Nat}{Q:Exit->Act->World->Prop}{Φ:Mem->Prop}
  (d:V.le w) (M:a.eval g=.func (.func f) #[] caps) (F:∀args w,(callFunc f args).run P w=.ok (.enter f args) w)
  (s:∀fn l D,V l=none->Tri P f (#[.func (.yield l) #[] #[]]++caps) (V.set l (.loop (AO fn a.tmps ps assign body D))) λe V'=>(∃v,e=.returned v)/\∃V2,V'=V2.set l (.loop (AO fn a.tmps ps assign body D))/\V2 l=none/\Φ V2)
  (q:∀D V' W,w.heap.size<=D->Aq V w V' W->V' D=none->W.heap[D]?=some (.deferred (some []))->Φ V'->Q .normal {a with defers:={target:=.collected D,args:=#[]}::a.defers} W):
  (Code.rangeFunc g ps assign body).wpIn (AV none) n P Q a w:=by
 refine wpIn_rangeFunc λfn _=>?_;obtain⟨u,x⟩:∃u,(w.alloc (.deferred (some []))).alloc (.loop (AO fn a.tmps ps assign body w.heap.size))=u:=⟨_,rfl⟩;have X:u.heap.size=w.heap.size+2:=by rw[<-x];simp
 have B:u.heap[w.heap.size+1]?=some (.loop (AO fn a.tmps ps assign body w.heap.size)):=by
  grind[xd,AO,World.size_alloc]
 have J:u.heap[w.heap.size]?=some (.deferred (some [])):=by
  grind[xO,xd]
 have j:∀b,b<w.heap.size->u.heap[b]?=w.heap[b]?:=λb y=>by
  grind[xO]
 have G:∀b,w.heap.size<=b->V b=none:=λb y=>by
  cases I:V b with
  |none=>rfl
  |some o=>have:=(yA.1 (d b o I)).1;omega
 have N:(V.set (w.heap.size+1) (.loop (AO fn a.tmps ps assign body w.heap.size))).le u:=λb o y=>by
  by_cases e:b=w.heap.size+1;·grind[Mem.set_same]
  ·rw[Mem.set_ne e]at y;have:=(yA.1 (d b o y)).1;rw[j b this];exact d b o y
 refine⟨w.heap.size+1,[{target:=.collected w.heap.size,args:=#[]}],u,{target:=.fn (.func f) caps,args:=#[.func (.yield (w.heap.size+1)) #[] #[]]},u,f,
  #[.func (.yield (w.heap.size+1)) #[] #[]]++caps,u,?_,?_,?_,?_,λh=>by simp[AV,xn]at h,?_⟩
 ·rw[<-x];exact run_enterLoop_outer _ _ _ _ _
 ·simp only[resolve,M];simp[go_sem]
 ·intro K C;trivial
 ·simp[invoke,go_sem,F]
 ·refine Mk.2 (Fk (s fn (w.heap.size+1) w.heap.size (G _ (by omega)) u N) ?_);rintro e p ⟨V',⟨⟨v,rfl⟩,V2,rfl,S,Z⟩,m⟩;have c:p.heap[w.heap.size+1]?=some (.loop (AO fn a.tmps ps assign body w.heap.size)):=m.le _ _ (Mem.set_same _ _ _);have E:w.heap.size+1<p.heap.size:=(yA.1 c).1;refine⟨none,_,run_endLoop (P:=P) c (by simp[AO]),?_⟩;have Y:(V.set (w.heap.size+1) (.loop (AO fn a.tmps ps assign body w.heap.size))) w.heap.size=none:=by
   simp_all[Mem.set_ne,yV]
  have A:p.heap[w.heap.size]?=some (.deferred (some [])):=(m.old _ (by omega) Y).trans J;refine q w.heap.size V2 _ (yV _) ?_ ?_ ((xc (by omega)).trans A) Z
  ·refine⟨?_,λb o y=>?_,λb y T=>?_,λb y=>?_,?_,?_⟩;·grind[xb]
   ·have e:b≠w.heap.size+1:=λe=>by simp_all
    refine(xc e).trans (m.le b o ?_);rw[Mem.set_ne e];exact y
   ·refine(xc (by omega)).trans ((m.old b (by omega) ?_).trans (j b y));grind[Mem.set_ne]
   ·have e:b≠w.heap.size+1:=λe=>by simp_all
    rcases m.dom b (by rw[Mem.set_ne e];exact y)with h|h
    ·grind[Mem.set_ne]
    omega
   ·show p.os=w.os;rw[m.os,<-x];rfl
   ·show p.output=w.output;rw[m.out,<-x];rfl
  ·cases I:V2 w.heap.size with
   |none=>rfl
   |some o=>
    rcases m.dom w.heap.size (by grind[Mem.set_ne])with h|h;·grind
    ·omega
theorem Ja{l:Nat}{V:Mem}{w:World}{fn:FuncId}{tmps:Array Value}{ps:Array Tmp}{assign body:Code}{D:Nat}{args:Array Value}{N n:Nat}(U:V l=none)
  (K:(V.set l (.loop (AO fn tmps ps assign body D))).le w) {insA:List (Nat×Value)} {outsA:List Nat} {RA:KZ} {J:Mem->Prop} (hN:((ps.zip args).foldl (λt (p,v)=>t.setIfInBounds p v) tmps).size=N)
  (y:∀s v,insA.lookup s=some v->((ps.zip args).foldl (λt (p,v)=>t.setIfInBounds p v) tmps).getD s undef=v)
  (hA:AH P N [assign] insA outsA V RA) (hB:∀vs V1,RA vs V1->AH P N [body] (outsA.zip vs) [] V1 λ_ V2=>J V2):
  RoundIn (AV none) n P l fn ((ps.zip args).foldl (λt (p,v)=>t.setIfInBounds p v) tmps) assign body w λe w'=>
   e=.returned (.bool true)/\∃V2,J V2/\V2 l=none/\Aq (V.set l (.loop (AO fn tmps ps assign body D))) w (V2.set l (.loop (AO fn tmps ps assign body D))) w':=by
 have x:w.heap[l]?=some (.loop (AO fn tmps ps assign body D)):=K l _ (Mem.set_same _ _ _);have j:l<w.heap.size:=(yA.1 x).1;have m:V.le w:=λb o u=>by
  have e:b≠l:=λe=>by simp_all
  exact K b o (by rw[Mem.set_ne e];exact u)
 refine roundIn_of_wpIn (F:=AV none) trivial ?_;have h1:=hA (some l) n {tmps:=(ps.zip args).foldl (λt (p,v)=>t.setIfInBounds p v) tmps,defers:=[]} w m hN y;refine wpIn_mono (show assign.wpIn (AV (some l)) n P _ _ w from h1) ?_;rintro e a1 I S;cases e with
 |normal=>
  obtain⟨_,hd1,M,vs,V1,X,B,g⟩:=S;have q:I.heap[l]?=some (.loop (AO fn tmps ps assign body D)):=(g.old l j U).trans x;refine⟨_,run_beginRound q rfl,?_⟩;have c:l<I.heap.size:=(yA.1 q).1;have a:V1 l=none:=by
   cases d:V1 l with
   |none=>rfl
   |some o=>
    rcases g.dom l (by rw[d];simp)with h|h
    ·grind
    ·omega
  have C:V1.le (I.putObj l (.loop {AO fn tmps ps assign body D with state:=.busy})):=λb o u=>by
   have e:b≠l:=λe=>by simp_all
   exact(xc e).trans (g.le b o u)
  have h2:=hB vs V1 B (some l) n a1 _ C M X;refine wpIn_mono (show body.wpIn (AV (some l)) n P _ _ _ from h2) ?_;rintro e a2 A G;cases e with
  |normal=>
   obtain⟨_,_,_,_,V2,_,hJ,f⟩:=G;have Z:A.heap[l]?=some (.loop {AO fn tmps ps assign body D with state:=.busy}):=(f.old l (by simp_all) a).trans (xa c);have Y:l<A.heap.size:=(yA.1 Z).1;have W:V2 l=none:=by
    cases d:V2 l with
    |none=>rfl
    |some o=>
     rcases f.dom l (by rw[d];simp)with h|h
     ·grind
     grind[xb]
   refine⟨_,_,run_endRound (P:=P) none Z,rfl,V2,hJ,W,?_⟩;have z2:=f.size;rw[xb]at z2;have z1:=g.size;refine⟨?_,λb o u=>?_,λb u T=>?_,λb u=>?_,?_,?_⟩;·rw[xb];omega
   ·by_cases e:b=l
    ·subst e;rw[Mem.set_same]at u;rw[<-u];exact xa Y
    ·rw[Mem.set_ne e]at u;exact(xc e).trans (f.le b o u)
   ·have e:b≠l:=λe=>by grind[Mem.set_same]
    rw[Mem.set_ne e]at T;have E:V1 b=none:=by
     cases d:V1 b with
     |none=>rfl
     |some o=>
      rcases g.dom b (by rw[d];simp)with h|h
      ·grind
      ·omega
    refine(xc e).trans ((f.old b (by rw[xb];omega) E).trans ((xc e).trans (g.old b u T)))
   ·by_cases e:b=l;·grind[Mem.set_same]
    ·rw[Mem.set_ne e]at u⊢;rcases f.dom b u with h|h
     ·rcases g.dom b h with h|h;·exact .inl h
      ·exact .inr h
     grind[inr,xb]
   ·show A.os=w.os;rw[f.os];exact g.os
   ·show A.output=w.output;rw[f.out];exact g.out
  |_=>exact absurd G.1 (by simp)
 |_=>exact absurd S.1 (by simp)
theorem KL{f:FuncId}{fn:Func}{c:Code}{args:Array Value}{V:Mem}{R:Ending->Mem->Prop}(a:P.funcs[f]?=some fn)(x:fn.body=some c)
  (h:∀w,V.le w->Dd none 0 P (λe u w'=>(e=.normal∨e=.ret)/\∃Ds:List Nat,u.defers=Ds.map (λD=>{target:=.collected D,args:=#[]})/\Ds.Nodup/\∃V',Aq V w V' w'/\
    (∀D∈Ds,w.heap.size<=D/\w'.heap[D]?=some (.deferred (some []))/\V' D=none)/\∃v,(∀g,V'.le g->(results fn u.tmps).run P g=.ok v g)/\R (.returned v) V')
   (flat c) {tmps:=args++xj (fn.ntmps-args.size) undef,defers:=[]} w):Tri P f args V R:=by
 intro w d;have key:∀(Ds:List Nat)(u:Act)(V':Mem)(v:Value)(w':World),Ds.Nodup->Aq V w V' w'->(∀D∈Ds,w.heap.size<=D/\w'.heap[D]?=some (.deferred (some []))/\V' D=none)->
   (∀g,V'.le g->(results fn u.tmps).run P g=.ok v g)->R (.returned v) V'->
   LeavesInM (AV none) 0 P fn u.tmps (λe w'=>∃V',R e V'/\Aq V w V' w') (Ds.map λD=>{target:=.collected D,args:=#[]}) .returning w':=by
  intro Ds u V' v;induction Ds with
  |nil=>intro w' _ y _ m q;exact⟨v,m w' y.le,V',q,y⟩
  |cons D Ds s=>
   intro w' j y p m q;obtain⟨J,l,G⟩:=p D (by simp);have N:=(yA.1 l).1;refine⟨by simp,.inl ⟨D,_,rfl,run_takeDeferred l,s _ (yU.1 j).2 ?_ ?_ m q⟩⟩
   ·refine⟨by grind[xb],λb o x=>?_,λb x Z=>?_,y.dom,y.os,y.out⟩
    ·have e:b≠D:=λe=>by simp_all
     exact(xc e).trans (y.le b o x)
    ·exact(xc (by omega)).trans (y.old b x Z)
   grind[D,yU,xc]
 refine(callsIn_wide (n:=0)).1 (callsIn_of_wp_marks (F:=AV none) a x trivial (GC ?_) rfl);refine HZ ?_ (h w d);rintro e u w' ⟨Y,Ds,W,j,V',y,p,v,m,q⟩;rcases Y with rfl|rfl
 ·show LeavesInM _ _ _ _ _ _ u.defers _ _;grind
 ·show LeavesInM _ _ _ _ _ _ u.defers _ _;grind
end
def Fw:Code->Nat->Code
 |.block _ b,_=>b
 |.loop b,_=>b
 |.cond _ x y,j=>if j=0 then x else y
 |.rangeFunc _ _ x y,j=>if j=0 then x else y
 |c,_=>c
def AI(c:Code):List Nat->List Code
 |i::j::p=>match(flat c)[i]? with|some d=>AI (Fw d j) p|none=>[]
 |_=>flat c
def opsOf:Code->Array Oper
 |.region _ h _=>h
 |_=>#[]
def Ay(f:Func):Code:=f.body.getD .skip
section
variable{P:Program}{fs:List Nat}{H:BV}
def SegO(P:Program)(N:Nat)(ops:Array Oper)(k m:Nat)(g:List (Nat×Value))(h:List Nat)(V:Mem)(R:KZ):Prop:=
 ∀r n a w,V.le w->a.tmps.size=N->(∀s v,g.lookup s=some v->a.tmps.getD s undef=v)->
  wpOpsIn (AV r) n P ops (λe f w'=>e=.normal/\f.defers=a.defers/\f.tmps.size=N/\∃vs V',(∀s v,(h.zip vs).lookup s=some v->f.tmps.getD s undef=v)/\R vs V'/\Aq V w V' w') (xm k m) a w
def segOT(P:Program)(fs:List Nat)(H:BV)(ops:Array Oper)(k m:Nat)(slots:List (Nat×T))(nv:Nat)(h:List Nat):Tr:=
 if(slots.all λx=>x.2.wf nv 0)/\(ops.all λo=>I6 o.op)/\((ops.toList.drop k).take m).length=m then
  Fh P fs H ops ((ops.toList.drop k).take m) {slots,boxes:=[],nv,nb:=0,depth:=0} λst=>
   pubT (st.nb+2) st (λst=>(EC st h).map T.tup) λ_ t=>.ret t
 else .bad 61 0
theorem sego_sound(g:DN P fs){N:Nat}{ops:Array Oper}{k m:Nat}{slots:List (Nat×T)}{nv:Nat}{f:List Nat}{t:Tr}(C:segOT P fs {H with N:=N} ops k m slots nv f=t)(ρ:List Value)(E:ρ.length=nv)
  {l:List (Nat×Value)} (p:l=slots.map λx=>(x.1,x.2.ev ρ id)) {V:Mem} {R:KZ} {q:Prop} (K:q=DT P {} (λe V'=>∃vs:List Value,e=.returned (.tuple vs.toArray)/\R vs V') t [] ρ V) (h:q):
  SegO P N ops k m l f V R:=by
 intro r n a w S U hs;subst K p C;have u:=Dw _ _ _ _ h;unfold segOT at u;split at u;case isFalse=>exact u.elim
 rename_i hw;obtain⟨hwf,hnd,c⟩:=hw;have e1:(xm k m)=xm k ((ops.toList.drop k).take m).length:=by rw[c]
 rw[e1];refine Mn (λh=>by obtain⟨_,_,h,_⟩:=h;cases h) (λo ho=>KG (by grind[xi])) _ _ (λj hj=>?_) a w ?_;·simp_all
 refine HP (L:=[]) (ρ0:=ρ) (V0:=V) (w0:=w) (O:=C8) g _ _ a w (λ_ _ _ _ h=>by simp_all) ⟨id,ρ,V,⟨yw _,rfl⟩,?_,u⟩ ?_
 ·exact
   {nv:=E
    size:=U
    slots:=λs t G=>by
     have hl:=G3 G;simp_all[KK,id]
    frm:=Aq.refl S
    boxes:=λi cs ty M=>by simp[St.box]at M
    hid:=λb o hb=>by cases hb
    inj:=λi j M _ _=>by grind}
 ·intro st' a' w' hd G;obtain⟨st2,t2,d,Z,β,Y,V2,hp,W,u⟩:=D0 _ _ _ _ G;simp only[zi]at d;obtain⟨x,F,rfl⟩:=d;simp only[D]at u;obtain⟨vs,h1,h2⟩:=u;simp only[T.ev,xf,xe]at h1;have A:T.evs Y id x=vs:=by simp_all
  refine⟨rfl,hd,W.size,vs,V2,λs v J=>?_,h2,W.frm⟩;rw[<-A,Dj]at J;obtain⟨t,g1,g2,X⟩:=KJ J;obtain⟨y,B,g5⟩:=IH F s X;have I:=IG F s X;rw[g1,B]at I;simp only[zF]at I;subst I;rw[W.slots s t B,<-g2];grind[II,T.firstBox,T.ev_free]
theorem wpOpIn_monoQ{F:Fence}{n:Nat}{ops:Array Oper}{Q Q':Exit->Act->World->Prop}(l:∀c a w,Q' (.panic c) a w->Q (.panic c) a w)(m:LetsOut Q'->LetsOut Q){i:Nat}{a:Act}{w:World}{K u:Act->World->Prop}(h:∀a w,K a w->u a w)
  (g:wpOpIn F n P ops Q' i K a w):wpOpIn F n P ops Q i u a w:=by
 unfold wpOpIn at*
 split;·simp_all
 ·rename_i o f;simp only[f]at g;split
  ·rename_i hw;simp only[hw,if_true]at g;unfold Oper.wpIn at*
   refine⟨g.1,?_⟩;have g:=g.2;generalize(o.semAt F.round a.eval).run P w=r at*
   cases r with
   |ok x w'=>
    cases x<;>simp only[Oper.uponIn]at g⊢<;>
     first
      |exact h _ _ g
      |exact⟨g.1,CallsIn.mono g.2 (λe j y=>by grind)⟩
      |exact⟨g.1,RowsIn.mono g.2 (λ_ _ y=>h _ _ y)⟩
      |grind[RoundIn.mono]
   |halt x w'=>cases x<;>simp only[Oper.uponIn]at g⊢<;>first|grind|exact g
  simp_all
theorem N9{F:Fence}{n:Nat}{ops:Array Oper}{Q Q':Exit->Act->World->Prop}(y:∀c a w,Q' (.panic c) a w->Q (.panic c) a w)(x:LetsOut Q'->LetsOut Q){f:List Nat}(u:∀a w,Q' .normal a w->wpOpsIn F n P ops Q f a w):∀{g:List Nat}{a:Act}{w:World},
  wpOpsIn F n P ops Q' g a w->wpOpsIn F n P ops Q (g++f) a w:=by
 intro g;induction g with
 |nil=>exact λh=>u _ _ h
 |cons i g j=>
  grind[wpOpsIn_cons,wpOpIn_monoQ]
end
end Go.Sx
namespace Go.Proofs
open Go Go.Sx
set_option maxRecDepth 100000
section
variable{V:Mem}{R:RP}
theorem BS{H:BV}{N:Nat}{cs:List Code}(slots:List (Nat×T)){g:List Nat}(ρ:List Value){f:List (Nat×Value)}(u:f=slots.map λx=>(x.1,x.2.ev ρ id)){V:Mem}{R:KZ}{q:Prop}
  (w:q=DT xE {} (OV R) (segT xE fs {H with N:=N} cs slots ρ.length g) [] ρ V) (h:q):AH xE N cs f g V R:=
 seg_sound (H:=H) I0 Km rfl ρ rfl u w h
theorem F0{H:BV}{N:Nat}{ops:Array Oper}{k m:Nat}(slots:List (Nat×T)){g:List Nat}(ρ:List Value){f:List (Nat×Value)}(u:f=slots.map λx=>(x.1,x.2.ev ρ id)){V:Mem}{R:KZ}{q:Prop}
  (w:q=DT xE {} (OV R) (segOT xE fs {H with N:=N} ops k m slots ρ.length g) [] ρ V) (h:q):SegO xE N ops k m f g V R:=
 sego_sound (H:=H) I0 rfl ρ rfl u w h
noncomputable def c263a:List Code:=((AI (Ay wA) []).drop 0).take 1
def w263a(a:Value)(b:Option Addr):MR:=λV R=>∃c,V.rowp b ((0:Int).toNat*1) 1=some [uL c]/\IR ((c.n:Int)-1)/\R (rT #[K.cast .f a,uP b,uI ((c.n:Int)-1)]) V
theorem s263a{a:Value}{b:Option Addr}{V:Mem}{R:KZ}(h:w263a a b V (OV R)):AH xE 19 c263a [(0,K.cast .f a),(1,uP b)] [0,1,3] V R:=
 BS (H:=hK 19) [(0,(.var .f 0)),(1,(.var .p 1))] [a,uP b] rfl (by kernel_rfl) h
noncomputable def c263b:List Code:=((AI (Ay wA) [1,0,0,0]).drop 0).take 1
def w263b(a:Value)(b:Option Addr)(c:Int):MR:=λV R=>R (rT #[K.cast .f a,uP b,uI c,uB (decide (0<=c))]) V
theorem s263b{a:Value}{b:Option Addr}{c:Int}{V:Mem}{R:KZ}(h:w263b a b c V (OV R)):AH xE 19 c263b [(0,K.cast .f a),(1,uP b),(3,uI c)] [0,1,3,8] V R:=
 BS (H:=hK 19) [(0,(.var .f 0)),(1,(.var .p 1)),(3,(.var (.i .i64) 2))] [a,uP b,uI c] rfl (by kernel_rfl) h
noncomputable def c263c:Array Oper:=opsOf ((AI (Ay wA) [1,0,0,0,2,0]).getD 0 .skip)
def w263c(a:Value)(b:Option Addr)(c:Int):MR:=λV R=>∃d,V.rowp b ((0:Int).toNat*1) 1=some [uL d]/\Ix d c (∃g i,V.rowp d.p (c.toNat*2) 2=some [uS g,uS i]/\R (rT #[K.cast .f a,uP b,uI c,K.cast .f a,uI c,uA #[uS g,uS i]]) V)
theorem s263c{a:Value}{b:Option Addr}{c:Int}{V:Mem}{R:KZ}(h:w263c a b c V (OV R)):SegO xE 19 c263c 0 6 [(0,K.cast .f a),(1,uP b),(3,uI c)] [0,1,3,11,12,16] V R:=
 F0 (H:=hK 19) [(0,(.var .f 0)),(1,(.var .p 1)),(3,(.var (.i .i64) 2))] [a,uP b,uI c] rfl (by kernel_rfl) h
noncomputable def c263d:Array Oper:=opsOf ((AI (Ay wA) [1,0,0,0,2,0]).getD 0 .skip)
def w263d(a:Value)(b:Option Addr)(c:Int)(d:Bool):MR:=λV R=>R (rT #[K.cast .f a,uP b,uI c,uB (!d)]) V
theorem s263d{a:Value}{b:Option Addr}{c:Int}{d:Bool}{V:Mem}{R:KZ}(h:w263d a b c d V (OV R)):SegO xE 19 c263d 7 1 [(0,K.cast .f a),(1,uP b),(3,uI c),(17,uB d)] [0,1,3,18] V R:=
 F0 (H:=hK 19) [(0,(.var .f 0)),(1,(.var .p 1)),(3,(.var (.i .i64) 2)),(17,(.var .b 3))] [a,uP b,uI c,uB d] rfl (by kernel_rfl) h
noncomputable def c263e:List Code:=((AI (Ay wA) [1,0,0,0]).drop 3).take 1
def w263e(a:Value)(b:Option Addr)(c:Int):MR:=λV R=>IR (c-1)/\R (rT #[K.cast .f a,uP b,uI (c-1)]) V
theorem s263e{a:Value}{b:Option Addr}{c:Int}{V:Mem}{R:KZ}(h:w263e a b c V (OV R)):AH xE 19 c263e [(0,K.cast .f a),(1,uP b),(3,uI c)] [0,1,3] V R:=
 BS (H:=hK 19) [(0,(.var .f 0)),(1,(.var .p 1)),(3,(.var (.i .i64) 2))] [a,uP b,uI c] rfl (by kernel_rfl) h
noncomputable def c186a:List Code:=((AI (Ay wB) []).drop 0).take 1
def w186a(a:Value)(b:Option Addr):MR:=λV R=>∃c,V.rowp b ((0:Int).toNat*1) 1=some [uL c]/\IR ((c.n:Int)-1)/\R (rT #[K.cast .f a,uP b,uI ((c.n:Int)-1)]) V
theorem s186a{a:Value}{b:Option Addr}{V:Mem}{R:KZ}(h:w186a a b V (OV R)):AH xE 19 c186a [(0,K.cast .f a),(1,uP b)] [0,1,3] V R:=
 BS (H:=hK 19) [(0,(.var .f 0)),(1,(.var .p 1))] [a,uP b] rfl (by kernel_rfl) h
noncomputable def c186b:List Code:=((AI (Ay wB) [1,0,0,0]).drop 0).take 1
def w186b(a:Value)(b:Option Addr)(c:Int):MR:=λV R=>R (rT #[K.cast .f a,uP b,uI c,uB (decide (0<=c))]) V
theorem s186b{a:Value}{b:Option Addr}{c:Int}{V:Mem}{R:KZ}(h:w186b a b c V (OV R)):AH xE 19 c186b [(0,K.cast .f a),(1,uP b),(3,uI c)] [0,1,3,8] V R:=
 BS (H:=hK 19) [(0,(.var .f 0)),(1,(.var .p 1)),(3,(.var (.i .i64) 2))] [a,uP b,uI c] rfl (by kernel_rfl) h
noncomputable def c186c:Array Oper:=opsOf ((AI (Ay wB) [1,0,0,0,2,0]).getD 0 .skip)
def w186c(a:Value)(b:Option Addr)(c:Int):MR:=λV R=>∃d,V.rowp b ((0:Int).toNat*1) 1=some [uL d]/\Ix d c (∃g i,V.rowp d.p (c.toNat*2) 2=some [uS g,uL i]/\R (rT #[K.cast .f a,uP b,uI c,K.cast .f a,uI c,uA #[uS g,uL i]]) V)
theorem s186c{a:Value}{b:Option Addr}{c:Int}{V:Mem}{R:KZ}(h:w186c a b c V (OV R)):SegO xE 19 c186c 0 6 [(0,K.cast .f a),(1,uP b),(3,uI c)] [0,1,3,11,12,16] V R:=
 F0 (H:=hK 19) [(0,(.var .f 0)),(1,(.var .p 1)),(3,(.var (.i .i64) 2))] [a,uP b,uI c] rfl (by kernel_rfl) h
noncomputable def c186d:Array Oper:=opsOf ((AI (Ay wB) [1,0,0,0,2,0]).getD 0 .skip)
def w186d(a:Value)(b:Option Addr)(c:Int)(d:Bool):MR:=λV R=>R (rT #[K.cast .f a,uP b,uI c,uB (!d)]) V
theorem s186d{a:Value}{b:Option Addr}{c:Int}{d:Bool}{V:Mem}{R:KZ}(h:w186d a b c d V (OV R)):SegO xE 19 c186d 7 1 [(0,K.cast .f a),(1,uP b),(3,uI c),(17,uB d)] [0,1,3,18] V R:=
 F0 (H:=hK 19) [(0,(.var .f 0)),(1,(.var .p 1)),(3,(.var (.i .i64) 2)),(17,(.var .b 3))] [a,uP b,uI c,uB d] rfl (by kernel_rfl) h
noncomputable def c186e:List Code:=((AI (Ay wB) [1,0,0,0]).drop 3).take 1
def w186e(a:Value)(b:Option Addr)(c:Int):MR:=λV R=>IR (c-1)/\R (rT #[K.cast .f a,uP b,uI (c-1)]) V
theorem s186e{a:Value}{b:Option Addr}{c:Int}{V:Mem}{R:KZ}(h:w186e a b c V (OV R)):AH xE 19 c186e [(0,K.cast .f a),(1,uP b),(3,uI c)] [0,1,3] V R:=
 BS (H:=hK 19) [(0,(.var .f 0)),(1,(.var .p 1)),(3,(.var (.i .i64) 2))] [a,uP b,uI c] rfl (by kernel_rfl) h
noncomputable def c187a:List Code:=((AI (Ay wC) []).drop 0).take 1
def w187a(a:Value)(b:Option Addr):MR:=λV R=>∃c,V.rowp b ((0:Int).toNat*1) 1=some [uL c]/\IR ((c.n:Int)-1)/\R (rT #[K.cast .f a,uP b,uI ((c.n:Int)-1)]) V
theorem s187a{a:Value}{b:Option Addr}{V:Mem}{R:KZ}(h:w187a a b V (OV R)):AH xE 19 c187a [(0,K.cast .f a),(1,uP b)] [0,1,3] V R:=
 BS (H:=hK 19) [(0,(.var .f 0)),(1,(.var .p 1))] [a,uP b] rfl (by kernel_rfl) h
noncomputable def c187b:List Code:=((AI (Ay wC) [1,0,0,0]).drop 0).take 1
def w187b(a:Value)(b:Option Addr)(c:Int):MR:=λV R=>R (rT #[K.cast .f a,uP b,uI c,uB (decide (0<=c))]) V
theorem s187b{a:Value}{b:Option Addr}{c:Int}{V:Mem}{R:KZ}(h:w187b a b c V (OV R)):AH xE 19 c187b [(0,K.cast .f a),(1,uP b),(3,uI c)] [0,1,3,8] V R:=
 BS (H:=hK 19) [(0,(.var .f 0)),(1,(.var .p 1)),(3,(.var (.i .i64) 2))] [a,uP b,uI c] rfl (by kernel_rfl) h
noncomputable def c187c:Array Oper:=opsOf ((AI (Ay wC) [1,0,0,0,2,0]).getD 0 .skip)
def w187c(a:Value)(b:Option Addr)(c:Int):MR:=λV R=>∃d,V.rowp b ((0:Int).toNat*1) 1=some [uL d]/\Ix d c (∃g i j k l,V.rowp d.p (c.toNat*5) 5=some [uS g,uL i,uS j,uL k,uL l]/\R (rT #[K.cast .f a,uP b,uI c,K.cast .f a,uI c,uA #[uS g,uL i,uS j,uL k,uL l]]) V)
theorem s187c{a:Value}{b:Option Addr}{c:Int}{V:Mem}{R:KZ}(h:w187c a b c V (OV R)):SegO xE 19 c187c 0 6 [(0,K.cast .f a),(1,uP b),(3,uI c)] [0,1,3,11,12,16] V R:=
 F0 (H:=hK 19) [(0,(.var .f 0)),(1,(.var .p 1)),(3,(.var (.i .i64) 2))] [a,uP b,uI c] rfl (by kernel_rfl) h
noncomputable def c187d:Array Oper:=opsOf ((AI (Ay wC) [1,0,0,0,2,0]).getD 0 .skip)
def w187d(a:Value)(b:Option Addr)(c:Int)(d:Bool):MR:=λV R=>R (rT #[K.cast .f a,uP b,uI c,uB (!d)]) V
theorem s187d{a:Value}{b:Option Addr}{c:Int}{d:Bool}{V:Mem}{R:KZ}(h:w187d a b c d V (OV R)):SegO xE 19 c187d 7 1 [(0,K.cast .f a),(1,uP b),(3,uI c),(17,uB d)] [0,1,3,18] V R:=
 F0 (H:=hK 19) [(0,(.var .f 0)),(1,(.var .p 1)),(3,(.var (.i .i64) 2)),(17,(.var .b 3))] [a,uP b,uI c,uB d] rfl (by kernel_rfl) h
noncomputable def c187e:List Code:=((AI (Ay wC) [1,0,0,0]).drop 3).take 1
def w187e(a:Value)(b:Option Addr)(c:Int):MR:=λV R=>IR (c-1)/\R (rT #[K.cast .f a,uP b,uI (c-1)]) V
theorem s187e{a:Value}{b:Option Addr}{c:Int}{V:Mem}{R:KZ}(h:w187e a b c V (OV R)):AH xE 19 c187e [(0,K.cast .f a),(1,uP b),(3,uI c)] [0,1,3] V R:=
 BS (H:=hK 19) [(0,(.var .f 0)),(1,(.var .p 1)),(3,(.var (.i .i64) 2))] [a,uP b,uI c] rfl (by kernel_rfl) h
noncomputable def c238a:List Code:=((AI (Ay wD) []).drop 0).take 3
def w238a(a:Option Addr)(b:Bool)(c:Sl):MR:=λV R=>GenK xE (.makeMap 267 none) 267 (gv []) V λx V1=>∃d,x=uM d/\N2 a (¬(Aa a 0)=none/\∃g,V1.rowp a 2 1=some [uL g]/\TT 255 #[uL g] V1 λe V2=>∃i,K.f.ok i/\e=rV i/\Af [uP none,uM none,uB false] 269 V2 λj h=>Af [uP a,uM d,uB b] 269 h λk u=>R (rT #[uP a,uB b,uL c,uP (Aa j 0),uP (Aa k 0),K.cast .f i]) u)
theorem s238a{a:Option Addr}{b:Bool}{c:Sl}{V:Mem}{R:KZ}(h:w238a a b c V (OV R)):AH xE 63 c238a [(0,uP a),(1,uB b),(2,uL c)] [0,1,2,6,7,24] V R:=
 BS (H:=hK 63) [(0,(.var .p 0)),(1,(.var .b 1)),(2,(.var .sl 2))] [uP a,uB b,uL c] rfl (by kernel_rfl) h
noncomputable def c238b:List Code:=((AI (Ay wD) [3,0,0,0]).drop 0).take 1
def w238b(a:Option Addr)(b c:KB):MR:=λV R=>Af [uS b,uS c] 108 V λd V1=>R (rT #[uP a,uP (Aa d 0)]) V1
theorem s238b{a:Option Addr}{b c:KB}{V:Mem}{R:KZ}(h:w238b a b c V (OV R)):AH xE 63 c238b [(7,uP a),(26,uA #[uS b,uS c])] [7,9] V R:=
 BS (H:=hK 63) [(7,(.var .p 0)),(26,(.agg (.cons (.var .s 1) (.cons (.var .s 2) .nil))))] [uP a,uS b,uS c] rfl (by kernel_rfl) h
noncomputable def c238c:List Code:=((AI (Ay wD) [3,0,0,1]).drop 0).take 1
def w238c(a b:Option Addr):MR:=λV R=>¬a=none/\∃c,V.rowp a 1 1=some [uM c]/\¬b=none/\∃d,V.rowp b ((0:Int).toNat*1) 1=some [uS d]/\¬b=none/\∃g,V.rowp b 1 1=some [uS g]/\BQ xE 267 (uM c) (uS d) (uS g) V λV1=>R (rT #[]) V1
theorem s238c{a b:Option Addr}{V:Mem}{R:KZ}(h:w238c a b V (OV R)):AH xE 63 c238c [(7,uP a),(9,uP b)] [] V R:=
 BS (H:=hK 63) [(7,(.var .p 0)),(9,(.var .p 1))] [uP a,uP b] rfl (by kernel_rfl) h
noncomputable def c238d:List Code:=((AI (Ay wD) []).drop 4).take 4
def w238d(a:Option Addr)(b:Bool)(c:Sl)(d g:Option Addr):MR:=λV R=>GenK xE (.makeMap 97 none) 97 (gv []) V λx V1=>∃i,x=uM i/\Lp [uI 0] V1 λI n V2=>∀j,I n [uI j] V2->∀u:LMP,Nx I n u->Br (j<(c.n:Int)) (Ix c j (∃k,V2.rowp c.p (j.toNat*1) 1=some [uL k]/\Lp [uI 0] V2 λI n h=>∀l,I n [uI l] h->∀f:LMP,Nx I n f->Br (l<(k.n:Int)) (Ix k l (∃o p,h.rowp k.p (l.toNat*2) 2=some [uS o,uS p]/\Bl xE 97 (uM i) (uS o) false h λx=>∃q,x=uB q/\Br (q=true) (IR (l+1)/\f [uI (l+1)] h) (¬g=none/\∃r,h.rowp g 1 1=some [uM r]/\BQ xE 267 (uM r) (uS o) (uS p) h λw=>BQ xE 97 (uM i) (uS o) (.bool true) w λy=>IR (l+1)/\f [uI (l+1)] y))) (IR (j+1)/\u [uI (j+1)] h))) (∃k l o,V2.rowp g ((0:Int).toNat*1) 3=some [uP k,uM l,uB o]/\AQ d 0 [uP k,uM l,uB o] V2 λh=>R (rT #[uP d]) h)
theorem s238d{a:Option Addr}{b:Bool}{c:Sl}{d g:Option Addr}{V:Mem}{R:KZ}(h:w238d a b c d g V (OV R)):AH xE 63 c238d [(0,uP a),(1,uB b),(2,uL c),(6,uP d),(7,uP g)] [6] V R:=
 BS (H:=hK 63) [(0,(.var .p 0)),(1,(.var .b 1)),(2,(.var .sl 2)),(6,(.var .p 3)),(7,(.var .p 4))] [uP a,uB b,uL c,uP d,uP g] rfl (by kernel_rfl) h
noncomputable def c104a:List Code:=((AI (Ay wE) []).drop 0).take 3
def w104a(a:KB)(b c d g i j k:Sl):MR:=λV R=>GenK xE (.makeMap 208 none) 208 (gv []) V λx V1=>∃l,x=uM l/\GenK xE (.makeMap 209 none) 209 (gv []) V1 λx V2=>∃o,x=uM o/\TT 147 #[uL b] V2 λe h=>∃p,K.f.ok p/\e=rV p/\Af [uS a,uL b,uL c,uL d,uL g,uL i,uL j,uL k] 30 h λq u=>Af [uS a,uL b,uL c,uL d,uL g,uL i,uL j,uL k,uM l,uM o] 211 u λr w=>Af [uP (Aa r 0)] 176 w λs y=>R (rT #[uP (Aa q 0),uP (Aa s 0),K.cast .f p]) y
theorem s104a{a:KB}{b c d g i j k:Sl}{V:Mem}{R:KZ}(h:w104a a b c d g i j k V (OV R)):AH xE 38 c104a [(0,uD a b c d g i j k)] [1,3,15] V R:=
 BS (H:=hK 38) [(0,(.agg (.cons (.var .s 0) (.cons (.var .sl 1) (.cons (.var .sl 2) (.cons (.var .sl 3) (.cons (.var .sl 4) (.cons (.var .sl 5) (.cons (.var .sl 6) (.cons (.var .sl 7) .nil))))))))))] [uS a,uL b,uL c,uL d,uL g,uL i,uL j,uL k] rfl (by kernel_rfl) h
noncomputable def c104b:List Code:=((AI (Ay wE) [3,0,0,0]).drop 0).take 1
def w104b(a:Option Addr)(b:KB)(c:Sl):MR:=λV R=>Af [uS b,uL c] 92 V λd V1=>R (rT #[uP a,uP (Aa d 0)]) V1
theorem s104b{a:Option Addr}{b:KB}{c:Sl}{V:Mem}{R:KZ}(h:w104b a b c V (OV R)):AH xE 38 c104b [(3,uP a),(17,uA #[uS b,uL c])] [3,5] V R:=
 BS (H:=hK 38) [(3,(.var .p 0)),(17,(.agg (.cons (.var .s 1) (.cons (.var .sl 2) .nil))))] [uP a,uS b,uL c] rfl (by kernel_rfl) h
noncomputable def c104c:List Code:=((AI (Ay wE) [3,0,0,1]).drop 0).take 1
def w104c(a b:Option Addr):MR:=λV R=>∃c,V.rowp a ((0:Int).toNat*1) 1=some [uP c]/\N2 c (∃d,V.rowp c 8 1=some [uM d]/\¬b=none/\∃g,V.rowp b ((0:Int).toNat*1) 1=some [uS g]/\∃i j,V.rowp b ((0:Int).toNat*1) 2=some [uS i,uL j]/\BQ xE 208 (uM d) (uS g) (uA #[uS i,uL j]) V λV1=>R (rT #[]) V1)
theorem s104c{a b:Option Addr}{V:Mem}{R:KZ}(h:w104c a b V (OV R)):AH xE 38 c104c [(3,uP a),(5,uP b)] [] V R:=
 BS (H:=hK 38) [(3,(.var .p 0)),(5,(.var .p 1))] [uP a,uP b] rfl (by kernel_rfl) h
noncomputable def c104d:List Code:=((AI (Ay wE) []).drop 4).take 1
def w104d(a b:Option Addr):MR:=λV R=>¬a=none/\∃c,V.rowp a 3 1=some [uL c]/\TT 148 #[uL c] V λe V1=>∃d,K.f.ok d/\e=rV d/\R (rT #[uP b,K.cast .f d]) V1
theorem s104d{a b:Option Addr}{V:Mem}{R:KZ}(h:w104d a b V (OV R)):AH xE 38 c104d [(1,uP a),(3,uP b)] [3,27] V R:=
 BS (H:=hK 38) [(1,(.var .p 0)),(3,(.var .p 1))] [uP a,uP b] rfl (by kernel_rfl) h
noncomputable def c104e:List Code:=((AI (Ay wE) [5,0,0,0]).drop 0).take 1
def w104e(a:Option Addr)(b:KB)(c:Sl)(d:KB)(g i:Sl):MR:=λV R=>Af [uS b,uL c,uS d,uL g,uL i] 144 V λj V1=>R (rT #[uP a,uP (Aa j 0)]) V1
theorem s104e{a:Option Addr}{b:KB}{c:Sl}{d:KB}{g i:Sl}{V:Mem}{R:KZ}(h:w104e a b c d g i V (OV R)):AH xE 38 c104e [(3,uP a),(29,uA #[uS b,uL c,uS d,uL g,uL i])] [3,7] V R:=
 BS (H:=hK 38) [(3,(.var .p 0)),(29,(.agg (.cons (.var .s 1) (.cons (.var .sl 2) (.cons (.var .s 3) (.cons (.var .sl 4) (.cons (.var .sl 5) .nil)))))))] [uP a,uS b,uL c,uS d,uL g,uL i] rfl (by kernel_rfl) h
noncomputable def c104f:List Code:=((AI (Ay wE) [5,0,0,1]).drop 0).take 1
def w104f(a b:Option Addr):MR:=λV R=>∃c,V.rowp a ((0:Int).toNat*1) 1=some [uP c]/\N2 c (∃d,V.rowp c 9 1=some [uM d]/\¬b=none/\∃g,V.rowp b ((0:Int).toNat*1) 1=some [uS g]/\∃i j k l o,V.rowp b ((0:Int).toNat*1) 5=some [uS i,uL j,uS k,uL l,uL o]/\BQ xE 209 (uM d) (uS g) (uA #[uS i,uL j,uS k,uL l,uL o]) V λV1=>R (rT #[]) V1)
theorem s104f{a b:Option Addr}{V:Mem}{R:KZ}(h:w104f a b V (OV R)):AH xE 38 c104f [(3,uP a),(7,uP b)] [] V R:=
 BS (H:=hK 38) [(3,(.var .p 0)),(7,(.var .p 1))] [uP a,uP b] rfl (by kernel_rfl) h
noncomputable def c104g:List Code:=((AI (Ay wE) []).drop 6).take 1
def w104g(a:Option Addr):MR:=λV R=>∃b,V.rowp a ((0:Int).toNat*1) 1=some [uP b]/\R (rT #[uP b]) V
theorem s104g{a:Option Addr}{V:Mem}{R:KZ}(h:w104g a V (OV R)):AH xE 38 c104g [(3,uP a)] [2] V R:=
 BS (H:=hK 38) [(3,(.var .p 0))] [uP a] rfl (by kernel_rfl) h
end
end Go.Proofs
namespace Go.Sx
open Go
section
variable{P:Program}
def Has(N:Nat)(a:Act)(l:List (Nat×Value)):Prop:=a.tmps.size=N/\∀s v,l.lookup s=some v->a.tmps.getD s undef=v
theorem AH.step{r:Option Nat}{n N:Nat}{Q:Exit->Act->World->Prop}{cs rest:List Code}{f:List (Nat×Value)}{g:List Nat}{V:Mem}{R:KZ}{a:Act}{w:World}(h:AH P N cs f g V R)(x:V.le w)(y:Has N a f)
  (k:∀u w' vs V',u.defers=a.defers->Has N u (g.zip vs)->R vs V'->Aq V w V' w'->Dd r n P Q rest u w'):Dd r n P Q (cs++rest) a w:=by
 refine Mo (HZ ?_ (h r n a w x y.1 y.2));rintro e u w' ⟨rfl,j,l,vs,V',m,q,o⟩;exact k u w' vs V' j ⟨l,m⟩ q o
theorem SegO.step{r:Option Nat}{n N k m:Nat}{Q:Exit->Act->World->Prop}{ops:Array Oper}{rest:List Nat}{f:List (Nat×Value)}{g:List Nat}{V:Mem}{R:KZ}{a:Act}{w:World}(h:SegO P N ops k m f g V R)(j:V.le w)(x:Has N a f)
  (l:∀u w' vs V',u.defers=a.defers->Has N u (g.zip vs)->R vs V'->Aq V w V' w'->wpOpsIn (AV r) n P ops Q rest u w'):wpOpsIn (AV r) n P ops Q (xm k m++rest) a w:=by
 refine N9 (λc a w y=>by cases y.1) (λ⟨_,_,y⟩=>by cases y.1) ?_ (h r n a w j x.1 x.2);rintro u w' ⟨_,q,o,vs,V',p,b,d⟩;exact l u w' vs V' q ⟨o,p⟩ b d
theorem yield_op{ops:Array Oper}{i:Nat}{o:Oper}{c:Call}{fv:Operand}{l:Nat}{g:Loop}{args:Array Value}{rest:List Nat}{Q:Exit->Act->World->Prop}{a:Act}{w:World}(x:ops[i]?=some o)(j:o.guard=none)(y:o.op=.call c)(m:c.callee=.value fv)
  (q:a.eval fv=.func (.yield l) #[] #[]) (f:c.args.map a.eval=args) (s:w.heap[l]?=some (.loop g)) (J:args.size=g.params.size)
  (b:RoundIn (AV none) 0 P l g.fn ((g.params.zip args).foldl (λt (p,v)=>t.setIfInBounds p v) g.tmps) g.assign g.body w λe w'=>∃v,e=.returned v/\wpOpsIn (AV none) 0 P ops Q rest (a.put o.dst v) w'):
  wpOpsIn (AV none) 0 P ops Q (i::rest) a w:=by
 rw[wpOpsIn_cons];unfold wpOpIn;simp only[x];rw[if_pos (by simp[Region.wanted,j])];refine⟨λ_ _=>trivial,?_⟩;rw[Oper.semAt_eq _ _ _ (λd=>by simp_all)];have u:(execOp a.eval o).run P w=.ok (.round l g.fn ((g.params.zip args).foldl (λt (p,v)=>t.setIfInBounds p v) g.tmps) g.assign g.body) w:=by
  unfold execOp;simp only[y,resolve,m,q,f,Deferred.ofValue,zK,zM,zL,invoke];grind[run_yield]
 rw[u];refine⟨λh=>by simp[AV,xn]at h,b.mono ?_⟩;simp_all
theorem Has.get{N:Nat}{a:Act}{l:List (Nat×Value)}(h:Has N a l){s:Nat}{v:Value}(g:l.lookup s=some v):a.tmps.getD s undef=v:=h.2 s v g
theorem KM{f:FuncId}{fn:Func}{c L B:Code}{b0 b1 id:Nat}{cA cB cE:List Code}{ops:Array Oper}{o6:Oper}{at6:Array TypeId}{fn':FuncId}{tmps:Array Value}{ps:Array Tmp}{assign body:Code}{D:Nat}{l:Nat}{box:Option Addr}{n:Nat}{el:Nat->Value}{J:Nat->Mem->Prop}{Bk:Mem->Prop}{V:Mem}
  (hf:P.funcs[f]?=some fn) (hb:fn.body=some c) (e1:flat c=cA++[.block b0 (.loop L)]) (e2:flat L=cB++([.cond (.tmp 8) .skip (.exit b0),.block b1 B]++cE)) (e3:flat B=[.region id ops false,.cond (.tmp 18) .ret .skip])
  (ho:ops[6]?=some o6) (U:o6.guard=none) (hop:o6.op=.call {callee:=.value (.tmp 11),args:=#[.tmp 12,.tmp 16],argTypes:=at6}) (W:o6.dst=some 17) (hsz:ops.size=8) (A:fn.results=#[]) (hN:fn.ntmps=19) (hps:ps.size=2)
  (hA:∀M,Bk M->AH P 19 cA [(0,.func (.yield l) #[] #[]),(1,.pointer box)] [0,1,3] M λvs V'=>V'=M/\vs=[.func (.yield l) #[] #[],.pointer box,.int .i64 ((n:Int)-1)])
  (hB:∀M (j:Int),AH P 19 cB [(0,.func (.yield l) #[] #[]),(1,.pointer box),(3,.int .i64 j)] [0,1,3,8] M λvs V'=>V'=M/\vs=[.func (.yield l) #[] #[],.pointer box,.int .i64 j,.bool (decide (0<=j))])
  (hC:∀M (k:Nat),Bk M->k<n->SegO P 19 ops 0 6 [(0,.func (.yield l) #[] #[]),(1,.pointer box),(3,.int .i64 k)] [0,1,3,11,12,16] M λvs V'=>V'=M/\vs=[.func (.yield l) #[] #[],.pointer box,.int .i64 k,.func (.yield l) #[] #[],.int .i64 k,el k])
  (hD:∀M (j:Int) (b:Bool),SegO P 19 ops 7 1 [(0,.func (.yield l) #[] #[]),(1,.pointer box),(3,.int .i64 j),(17,.bool b)] [0,1,3,18] M λvs V'=>V'=M/\vs=[.func (.yield l) #[] #[],.pointer box,.int .i64 j,.bool (!b)])
  (hE:∀M (j:Int),Bk M->0<=j->j<n->AH P 19 cE [(0,.func (.yield l) #[] #[]),(1,.pointer box),(3,.int .i64 j)] [0,1,3] M λvs V'=>V'=M/\vs=[.func (.yield l) #[] #[],.pointer box,.int .i64 (j-1)])
  (hJ:∀i V2,J i V2->V2 l=none->Bk (V2.set l (.loop (AO fn' tmps ps assign body D))))
  (y:∀k,k<n->∀V2,J (n-1-k) V2->V2 l=none->∀w,(V2.set l (.loop (AO fn' tmps ps assign body D))).le w->
   RoundIn (AV none) 0 P l fn' ((ps.zip #[.int .i64 k,el k]).foldl (λt (p,v)=>t.setIfInBounds p v) tmps) assign body w λe w'=>
    e=.returned (.bool true)/\∃S,J (n-k) S/\S l=none/\Aq (V2.set l (.loop (AO fn' tmps ps assign body D))) w (S.set l (.loop (AO fn' tmps ps assign body D))) w')
  (h0:J 0 V) (hl:V l=none):
  Tri P f #[.func (.yield l) #[] #[],.pointer box] (V.set l (.loop (AO fn' tmps ps assign body D))) λe V'=>(∃v,e=.returned v)/\∃V2,V'=V2.set l (.loop (AO fn' tmps ps assign body D))/\V2 l=none/\J n V2:=by
 intro w hV;refine(callsIn_wide (n:=0)).1 (callsIn_of_wp (F:=AV none) hf hb trivial (GC ?_) rfl);rw[e1];have hH0:Has 19 {tmps:=#[.func (.yield l) #[] #[],.pointer box]++xj (fn.ntmps-(#[Value.func (.yield l) #[] #[],.pointer box]).size) undef,defers:=[]} [(0,.func (.yield l) #[] #[]),(1,.pointer box)]:=by
  constructor;·simp[hN]
  ·intro s v h;simp only[zc]at h;split at h;·simp_all
   ·split at h;·simp_all
    ·cases h
 refine(hA _ (hJ 0 V h0 hl)).step hV hH0 ?_;rintro a1 w1 vs V1 hd1 hH1 ⟨rfl,rfl⟩ hF1;refine wpIn_block ?_;refine KH (λm a w'=>∃(i:Nat)(V2:Mem),i<=n/\m=n-i/\J i V2/\V2 l=none/\a.defers=[]/\Has 19 a [(0,.func (.yield l) #[] #[]),(1,.pointer box),(3,.int .i64 ((n:Int)-1-i))]/\
  Aq (V.set l (.loop (AO fn' tmps ps assign body D))) w (V2.set l (.loop (AO fn' tmps ps assign body D))) w') ⟨n,0,V,by omega,rfl,h0,hl,hd1,by simpa using hH1,hF1⟩ ?_
 rintro m a2 w2 ⟨i,V2,hi,rfl,I,x,hd2,hH2,q⟩;refine GC ?_;rw[e2];refine(hB _ _).step q.le hH2 ?_;rintro T w3 vs S hd3 o ⟨rfl,rfl⟩ d;have u:T.eval (.tmp 8)=.bool (decide (0<=(n:Int)-1-i)):=o.get rfl;show xh (AV none) 0 P _ _ T w3;by_cases hlt:i<n
 ·have G:decide (0<=(n:Int)-1-i)=true:=by simp;omega
  rw[G]at u;refine wpIn_cond_true u (wpIn_skip ?_);show xh (AV none) 0 P _ _ T w3;refine wpIn_block (GC ?_);rw[e3];have hk:((n:Int)-1-i)=((n-1-i:Nat):Int):=by omega
  have X:Has 19 T [(0,.func (.yield l) #[] #[]),(1,.pointer box),(3,.int .i64 ((n-1-i:Nat):Int))]:=⟨o.1,λs v h=>o.2 s v (by
   grind[xg])⟩
  refine wpIn_region ?_;rw[hsz,show List.range 8=xm 0 6++[6,7]from rfl];refine(hC _ (n-1-i) (hJ _ _ I x) (by omega)).step d.le X ?_;rintro N w4 vs V4 hd4 g ⟨rfl,rfl⟩ Z;have hl4:w4.heap[l]?=some (.loop (AO fn' tmps ps assign body D)):=Z.le _ _ (Mem.set_same _ _ _);refine yield_op (args:=#[.int .i64 ((n-1-i:Nat):Int),el (n-1-i)]) ho U hop rfl (g.get rfl) ?_ hl4 (by simp[AO,hps]) ?_
  ·have g1:N.eval (.tmp 12)=.int .i64 ((n-1-i:Nat):Int):=g.get rfl;have g2:N.eval (.tmp 16)=el (n-1-i):=g.get rfl;simp[g1,g2]
  refine(y (n-1-i) (by omega) V2 (by grind) x w4 Z.le).mono ?_;rintro e w5 ⟨rfl,V5,hJ5,C,E⟩;refine⟨_,rfl,?_⟩;rw[W];have hlt17:(17:Nat)<N.tmps.size:=by rw[g.1];decide
  have hH5:Has 19 (N.put (some 17) (.bool true)) [(0,.func (.yield l) #[] #[]),(1,.pointer box),(3,.int .i64 ((n-1-i:Nat):Int)),(17,.bool true)]:=by
   refine⟨by simp[Act.put,g.1],λs v h=>?_⟩;have other:∀s,s≠17->(N.put (some 17) (.bool true)).tmps.getD s undef=N.tmps.getD s undef:=λs h=>by
    simp[Act.put,wF,Array.getElem?_setIfInBounds_ne (Ne.symm h)]
   simp only[zc]at h;split at h;·rename_i e;simp only[beq_iff_eq]at e;subst e;cases h;rw[other _ (by decide)];exact g.get rfl
   ·split at h;·rename_i e;simp only[beq_iff_eq]at e;subst e;cases h;rw[other _ (by decide)];exact g.get rfl
    ·split at h;·rename_i e;simp only[beq_iff_eq]at e;subst e;cases h;rw[other _ (by decide)];exact g.get rfl
     ·split at h;·simp_all[beq_iff_eq,Act.put,wF]
      ·cases h
  rw[show[7]=xm 7 1++[]from rfl];refine(hD _ _ true).step E.le hH5 ?_;rintro a6 w6 vs V6 hd6 Y ⟨rfl,rfl⟩ K;show xh (AV none) 0 P (.cond (.tmp 18) .ret .skip) _ a6 w6;refine wpIn_cond_false (Y.get rfl) (wpIn_skip ?_);rw[<-xp cE];refine(hE _ ((n-1-i:Nat):Int) (hJ _ _ hJ5 C) (by omega) (by omega)).step K.le ⟨Y.1,λs v h=>Y.2 s v ?_⟩ ?_;·grind[xg]
  rintro a7 w7 vs V7 hd7 hH7 ⟨rfl,rfl⟩ hF7;refine⟨n-(i+1),by omega,i+1,V5,by omega,rfl,?_,C,?_,?_,?_⟩;·grind
  ·rw[hd7,hd6];show N.defers=[];grind
  ·rw[show(n:Int)-1-((i+1:Nat):Int)=((n-1-i:Nat):Int)-1 by omega];exact hH7
  ·exact((((q.trans d).trans Z).trans E).trans K).trans hF7
 ·have hin:i=n:=by omega
  subst hin;have G:decide (0<=(i:Int)-1-i)=false:=by simp;omega
  rw[G]at u;refine wpIn_cond_false u (wpIn_exit ?_);show(if b0=b0 then _ else _);rw[if_pos rfl];refine⟨?_,_,results_none A _ _ _,_,⟨⟨_,rfl⟩,V2,rfl,x,I⟩,q.trans d⟩;rw[hd3,hd2]
end
end Go.Sx
