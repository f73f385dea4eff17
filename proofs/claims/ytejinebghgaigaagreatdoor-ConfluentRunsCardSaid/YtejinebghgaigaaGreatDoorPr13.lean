/- Part 13: no statement of the seat is proved here. -/
import Derived.Test.YtejinebghgaigaaGreatDoorPr04
import Derived.Laws.MakeOwn
import Derived.Test.YtejinebghgaigaaGreatDoorPr12
import Derived.OrdersIn
import Derived.OwnWalkIn
import Derived.RangeFuncRecord
import Derived.Tactics
import Derived.TacticsIn
import Derived.RangeFuncNested
set_option linter.unusedVariables false
set_option linter.unusedSimpArgs false
open Array renaming getElem?_eq_some_iff->z8,length_toList->xa,mem_of_getElem?->wD,replicate->wE,all_eq_true'->wF,getD_eq_getD_getElem?->wT
open Go.Sem renaming run_bind->zK,run_pure->zM
open Go.Result renaming andThen_ok->zL
open Go.Builtin renaming zeroCells->y9,append_->y7,firstCells->xB,nextslicecap->x8
open Go.IntKind renaming i64->yu,wrap_i64->x7
open List renaming map_cons->zG,append_nil->wA,replicate->yI,ext_getElem?->zx,range'->wC,prefix_refl->yx,prefix_append->yB,zip_cons_cons->wH,lookup_cons->zd,nodup_cons->yT
open Nat renaming add_mul->ya,le_refl->yU
open Go.Value renaming int->xe
open Option.some renaming injEq->zF
open Go.Proofs.Tryz renaming prog->xE,f288->wO,f166->wP,f167->wQ,f228->wR,f73->wS
open Go.Fence renaming wide->wB
open Bool renaming and_eq_true->zC
open Go.Code renaming wpIn->wG
open Option renaming map_eq_some_iff->zj
open Go.Ending.returned renaming injEq->wI
open Go.Value.tuple renaming injEq->wJ
open Go.World renaming alloc_heap_new->wK,putObj_heap_other->wL,putObj_size->wM,putObj_heap_same->wN
open Go.RowKit.Below renaming heap_alloc->xN
namespace Go.Sx
open Go
section
variable{P:Program}{V0 V:Mem}{t e ty tc:TypeId}{i:TypeInfo}{z:Value}{sz:Nat}{k:IntKind}
theorem Ax.made{V:Mem}{w:World}(hw:V.le w)(o:Obj):V w.heap.size=none/\Ax V w (V.set w.heap.size o) (w.alloc o):=by
 have u:V w.heap.size=none:=by
  cases h:V w.heap.size with
  |none=>rfl
  |some x=>
   have:=(z8.1 (hw _ _ h)).1;omega
 refine⟨u,⟨by simp,λb x g=>?_,λb g _=>(by grind[heap_alloc_old]),λb g=>?_,rfl,rfl⟩⟩
 ·unfold Mem.set at g;split at g;·grind[heap_alloc_new]
  ·have f:=(z8.1 (hw _ _ g)).1;first|exact(heap_alloc_old w o b f).trans (hw _ _ g)|exact(heap_alloc_old w o f).trans (hw _ _ g)
 grind[Mem.set,inr]
theorem GenK.make(u:P.underlying t=some (.slice e))(hi:P.info? e=some i)(j:i.zero=some z)(h:i.size=sz)(f:i.bytes<=65536){x y:Operand}{vals:Operand->Value}{n:Nat}(o:vals x=.int .i64 n)(c:vals y=.int .i64 n)(l:n<=2147483648){q:Value->Mem->Prop}
  (b:∀g,V g=none->q (.slice (some ⟨g,0,none⟩) n n) (V.set g (.cells (madeCells z.cells (n*sz)) e (0,0)))):GenK P (.makeSlice t x y) ty vals V q:=by
 intro w hw;subst h;have m:(i.bytes:Int)*(n:Int)<=281474976710656:=by
  have:i.bytes*n<=65536*2147483648:=Nat.mul_le_mul f l;omega
 have a:=run_make (P:=P) w t e i z u hi j .i64 .i64 n n (by omega) (Int.le_refl _) m (by omega);grind[Int.toNat_natCast,Ax.made,madeCells,execOp,zK,zM,zL]
theorem zeros_one(h:z.cells.size=sz)(h1:∀u∈z.cells.toList,u.oneCell'=true)(n:Nat)(g:0<sz):∀u∈(y9 z.cells n).toList,u.oneCell'=true:=λu hu=>by
 unfold y9 at hu;simp only[Array.toList_map,List.mem_map]at hu;obtain⟨j,-,rfl⟩:=hu;grind[Nat.mod_lt]
theorem QM{w:World}(o:P.underlying t=some (.slice e))(c:P.underlying tc=some (.int k))(hi:P.info? e=some i)(b:i.zero=some z)(m:0<i.size)(j:z.cells.size=i.size)(h1:∀u∈z.cells.toList,u.oneCell'=true)
  (g h f:Nat) (y:Array Value) (a:w.heap[g]?=some (.cells y e (0,0))) (n:Nat) (d:0<n) (Z:n*i.bytes<=281474976710656) (v:n<=2147483648) (x:h+n<=f) (q:h*i.size+n*i.size<=y.size):
  (y7 #[t,tc] ty #[.slice (some ⟨g,0,none⟩) h f,.int .i64 n]).run P w=
   .ok (.slice (some ⟨g,0,none⟩) (h+n) f) (w.setRow g (y.toList.take (h*i.size)++(y9 z.cells n).toList++y.toList.drop (h*i.size+(y9 z.cells n).toList.length)).toArray):=by
 have Y:(y9 z.cells n).toList.length=n*i.size:=by rw[xa,size_zeroCells,j]
 have l:=run_storeCells_at P g (h*i.size) e (y9 z.cells n).toList 0 y w a (by omega) (zeros_one j h1 n m);simp only[Nat.add_zero]at l;have J:yu.wrap (n:Int)=n:=by rw[x7];omega
 have G:¬((n:Int)<0):=by omega
 have N:¬(281474976710656<(n:Int)*(i.bytes:Int)):=by
  omega
 have A:¬(n*i.size=0):=Nat.ne_of_gt (Nat.mul_pos d m);simp[y7,run_underlying o,run_underlying c,asInt,asIntOf,sizeOf,typeInfo,hi,zeroValue,b,J,G,N,x,Addr.add_lit,l];omega
theorem Ou{w:World}(m:P.underlying t=some (.slice e))(q:P.underlying tc=some (.int k))(hi:P.info? e=some i)(o:i.zero=some z)(J:0<i.size)(base:Option Addr)(h g:Nat)(f:List Value)
  (u:(xB i.size h (.slice base h g)).run P w.drew=.ok f.toArray w.drew) (n:Nat) (G:0<n) (N:n*i.bytes<=281474976710656) (c:n<=2147483648)
  (Z:g<h+n) (b:((h+n:Nat):Int)<=9223372036854775807) (l:x8 (h+n) g*i.bytes<=281474976710656):
  (y7 #[t,tc] ty #[.slice base h g,.int .i64 n]).run P w=
   .ok (.slice (some ⟨w.heap.size,0,none⟩) (h+n) (grownCap w (h+n) g e))
    (w.drew.alloc (.cells (f.toArray++y9 z.cells n++y9 z.cells (grownCap w (h+n) g e-(h+n))) e)):=by
 have j:¬(h+n<=g):=by omega
 have y:¬(9223372036854775807<((h:Int)+(n:Int))):=by omega
 have x:¬(281474976710656<x8 (h+n) g*i.bytes):=by omega
 have a:yu.wrap (n:Int)=n:=by rw[x7];omega
 have d:¬((n:Int)<0):=by omega
 have v:¬(281474976710656<(n:Int)*(i.bytes:Int)):=by
  omega
 simp[y7,run_underlying m,run_underlying q,asInt,asIntOf,sizeOf,typeInfo,zeroValue,hi,o,a,d,v,j,y,x,Question.forced,u,newRow,grownCap];simp_all[absurd,Nat.ne_of_gt,Nat.mul_pos]
theorem GenK.appendZ(D:P.underlying t=some (.slice e))(E:P.underlying tc=some (.int k))(hi:P.info? e=some i)(hz:i.zero=some z)(G:i.size=sz)(N:z.cells.size=sz)(K:0<sz)(S:i.bytes<=65536)(h1:∀u∈z.cells.toList,u.oneCell'=true)
  {x y:Operand} {vals:Operand->Value} {s:Sl} {n:Nat} {vs:List Value} (hx:vals x=.slice s.p s.n s.c) (hy:vals y=.int .i64 n) (own:Own V0 V e sz s vs) (A:s.n+n<=2147483648) {q:Value->Mem->Prop}
  (hq:∀s' V',Own V0 V' e sz s' (vs++(y9 z.cells n).toList)->q (.slice s'.p s'.n s'.c) V'):
  GenK P (.call {callee:=.builtin .append,args:=#[x,y],argTypes:=#[t,tc]}) ty vals V q:=by
 intro w hw;subst G;have m:(s.n+n)*i.bytes<=140737488355328:=Nat.le_trans (Nat.mul_le_mul A S) (by decide);have T:n*i.bytes<=281474976710656:=by
  grind
 have hl:(y9 z.cells n).toList.length=n*i.size:=by rw[xa,size_zeroCells,N]
 have o:∀(s':Sl)(V':Mem)(w':World),(y7 #[t,tc] ty #[.slice s.p s.n s.c,.int .i64 n]).run P w=.ok (.slice s'.p s'.n s'.c) w'->Ax V w V' w'->Own V0 V' e i.size s' (vs++(y9 z.cells n).toList)->
   ∃v w' V',(execOp vals {dst:=none,op:=.call {callee:=.builtin .append,args:=#[x,y],argTypes:=#[t,tc]},type:=ty,pos:= "",after:=#[],guard:=none}).run P w=.ok (.value v) w'/\Ax V w V' w'/\q v V':=by
  intro s' V' w' I U ho;refine⟨_,w',V',?_,U,hq s' V' ho⟩;unfold execOp;simp only[resolve,invoke,builtin,zK,zM,zL,List.map_toArray,zG,List.map_nil,hx,hy,I]
 by_cases M:n=0
 ·subst M;have hz0:(y9 z.cells 0).toList=[]:=List.eq_nil_of_length_eq_zero (by rw[hl];simp);rw[hz0,wA]at o;have d:s.n<=s.c:=by
   rcases own.at_ with⟨a,b,-⟩|⟨g,cur,-,-,-,h,-⟩;·omega
   ·exact h
  refine o s V w ?_ (Ax.refl hw) own;have wl:yu.wrap 0=0:=by rfl
  cases s.p with
  |none=>simp[y7,run_underlying D,run_underlying E,asInt,asIntOf,sizeOf,typeInfo,hi,wl,d]
  |some a=>simp[y7,run_underlying D,run_underlying E,asInt,asIntOf,sizeOf,typeInfo,hi,wl,d,storeCells]
 have hn:0<n:=Nat.pos_of_ne_zero M;have J:(vs++(y9 z.cells n).toList).length=(s.n+n)*i.size:=by rw[List.length_append,own.len,hl,ya]
 have l:∀old,old<s.n+n->(y7 #[t,tc] ty #[.slice s.p s.n s.c,.int .i64 n]).run P w=
   .ok (.slice (some ⟨w.heap.size,0,none⟩) (s.n+n) (grownCap w (s.n+n) old e)) (w.drew.alloc (.cells (vs.toArray++y9 z.cells n++y9 z.cells (grownCap w (s.n+n) old e-(s.n+n))) e))->
   ∃v w' V',(execOp vals {dst:=none,op:=.call {callee:=.builtin .append,args:=#[x,y],argTypes:=#[t,tc]},type:=ty,pos:= "",after:=#[],guard:=none}).run P w=.ok (.value v) w'/\Ax V w V' w'/\q v V':=by
  intro old ho I;obtain⟨Z,U⟩:=Ax.new hw (.cells (vs.toArray++y9 z.cells n++y9 z.cells (grownCap w (s.n+n) old e-(s.n+n))) e);have hge:=grownCap_ge w (s.n+n) old e;refine o ⟨_,_,_⟩ _ _ I U ⟨Mem.sub.new own.sub Z _,J,.inr ⟨w.heap.size,_,rfl,?_,Mem.set_same _ _ _,hge,grownCap_le_maxLen w _ old e (by simp only[maxLen];omega),?_,?_⟩⟩
  ·cases h0:V0 w.heap.size with
   |none=>rfl
   |some x=>rw[own.sub _ _ h0]at Z;cases Z
  ·simp only[Array.size_append,List.size_toArray,size_zeroCells,N,own.len,<-ya];congr 1;show _=grownCap w (s.n+n) old e;omega
  grind
 have hfitN:∀old,old<s.n+n->x8 (s.n+n) old*i.bytes<=281474976710656:=λold ho=>growslice_fits (by omega) m;rcases own.at_ with⟨hs,hs',hv⟩|⟨g,cur,hp,hg,hV,d,F,hcs,Y⟩
 ·subst hv;refine l s.c (by omega) ?_;have X:(xB i.size s.n (.slice s.p s.n s.c)).run P w.drew=.ok ([]:List Value).toArray w.drew:=by
   rw[hs];cases s.p with
   |none=>rfl
   |some a=>simp[xB,loadCells,loadCellsFrom]
  grind[Ou]
 ·by_cases f:s.n+n<=s.c
  ·have B:w.heap[g]?=some (.cells cur e (0,0)):=hw _ _ hV;have hle:(s.n+n)*i.size<=s.c*i.size:=Nat.mul_le_mul_right _ f;have hmul:(s.n+n)*i.size=s.n*i.size+n*i.size:=ya _ _ _;have I:=QM (P:=P) (ty:=ty) D E hi hz K N h1 g s.n s.c cur B n hn T (by omega) f (by omega);refine o ⟨some ⟨g,0,none⟩,s.n+n,s.c⟩ _ _ (by rw[hp];exact I) (Ax.row hw hV) ⟨own.sub.set hg _,J,.inr ⟨g,_,rfl,hg,Mem.set_same _ _ _,f,F,?_,?_⟩⟩;·grind
   grind
  ·refine l s.c (by omega) ?_;have C:w.ownsRow 0 e i.size (.slice s.p s.n s.c) s.n vs:=⟨own.len,.inr ⟨g,s.c,cur,by rw[hp],Nat.zero_le _,hw _ _ hV,d,F,hcs,Y⟩⟩;have holds:∀j u,vs[j]?=some u->w.cell? ((⟨g,0,none⟩:Addr).add j)=some u:=C.cells (g:=g) (by rw[hp];rfl);have X:=run_firstCells_some (P:=P) w.drew i.size s.n ⟨g,0,none⟩ s.n s.c vs own.len (by simpa using holds);grind[Ou,xB]
end
theorem QN(n:Nat):(y9 (xe .i64 0).cells n).toList=yI n (xe .i64 0):=by
 have h:(xe .i64 0).cells=#[xe .i64 0]:=by rfl
 rw[h];unfold y9;refine zx λj=>?_;grind
theorem QO(n:Nat):(madeCells (xe .i64 0).cells n).toList=yI n (xe .i64 0):=by
 have h:(xe .i64 0).cells=#[xe .i64 0]:=by rfl
 rw[h];unfold madeCells;refine zx λj=>?_;grind
end Go.Sx
namespace Go.Proofs
open Go Go.Sx
attribute [local irreducible] Go.Sx.Tri
def NT(ty:Nat):Prop:=ty≠3/\ty≠55/\ty≠211
theorem nn{p:Addr}:¬(some p:Option Addr)=none:=nofun
theorem AX{p:Addr}{n:Nat}:¬Aa (some p) n=none:=nofun
structure MA (ty:Nat)(V0:Mem)(p:Nat)(row:Sl->Sl->Sl->List Value)(V:Mem)(s:St):Prop where
 p0:V0 p=none
 ex:∃gs ns ls nd,V p=some (.cells (row gs ns ls).toArray ty (0,0))/\AP V0 V gs ns ls nd s
section
variable{ty:Nat}{V0 V V' W:Mem}{p:Nat}{row row':Sl->Sl->Sl->List Value}{s s':St}{gs ns ls:Sl}{nd:List Nd}
theorem JP{x:Array Value}(h:V p=some (.cells x ty (0,0)))(g:NT ty):Alien V p:=λu t w f=>by
 rw[h]at f;simp only[zF,Obj.cells.injEq]at f;obtain⟨-,f,-⟩:=f;rcases w with rfl|rfl|rfl;·exact g.1 f
 ·exact g.2.1 f
 ·exact g.2.2 f
theorem Hu{x:Array Value}(h:V p=some (.cells x ty (0,0)))(g:NT ty){e:TypeId}{sz:Nat}{sl:Sl}{vs:List Value}(u:Sx.Own V0 V e sz sl vs)(w:e=3∨e=55∨e=211):¬Bh sl p:=u.apart λf y=>JP h g f e w y
theorem AP.same(L:AP V0 V gs ns ls nd s)(h1:s'.g=s.g)(h2:s'.ns=s.ns)(h3:s'.lg=s.lg):AP V0 V gs ns ls nd s':=⟨by rw[h1];exact L.glob,L.nodes,by rw[h3];exact L.log,L.fld,by rw[h2];exact L.eq,L.gf,L.ff⟩
theorem MA.sub(h:MA ty V0 p row V s):V0.sub V:=by
 obtain⟨_,_,_,_,_,L⟩:=h.ex;exact L.sub
theorem MA.grow(h:MA ty V0 p row V s)(f:V.sub V'):MA ty V0 p row V' s:=by
 obtain⟨gs,ns,ls,nd,g,L⟩:=h.ex;exact⟨h.p0,gs,ns,ls,nd,f _ _ g,L.grow f⟩
theorem MA.narrow(h:MA ty W p row V s)(f:V0.sub W):MA ty V0 p row V s:=by
 obtain⟨gs,ns,ls,nd,g,L⟩:=h.ex;refine⟨?_,gs,ns,ls,nd,g,L.narrow f⟩;cases u:V0 p with
 |none=>rfl
 |some o=>have:=f _ _ u;rw[h.p0]at this;cases this
theorem MA.set(h:NT ty)(p0:V0 p=none){x:Array Value}(f:V p=some (.cells x ty (0,0)))(L:AP V0 V gs ns ls nd s){c:Array Value}(u:c=(row' gs ns ls).toArray)(h1:s'.g=s.g)(h2:s'.ns=s.ns)(h3:s'.lg=s.lg):MA ty V0 p row' (V.set p (.cells c ty (0,0))) s':=
 ⟨p0,gs,ns,ls,nd,by rw[Mem.set_same,u],(L.put (JP f h) p0 _).same h1 h2 h3⟩
theorem MA.frame(h:MA ty V0 p row V s):∃M:Nat->Prop,(∀b,M b->V b≠none/\V0 b=none)/\∀V',(∀b o,M b->V b=some o->V' b=some o)->MA ty (Mem.minus V' M) p row V' s:=by
 obtain⟨gs,ns,ls,nd,g,L⟩:=h.ex;refine⟨Mine p gs ns ls nd,λb f=>⟨L.mineV (by rw[g];simp) f,L.mine0 h.p0 f⟩,λV' u=>⟨EK (.inl rfl),gs,ns,ls,nd,u _ _ (.inl rfl) g,L.frame u⟩⟩
theorem MA.after(h:MA ty V0 p row V s)(f:V.sub V'):∃W,V0.sub W/\W.sub V'/\MA ty W p row V' s/\∀b o,V b=none->V' b=some o->W b=some o:=by
 obtain⟨M,h1,h2⟩:=h.frame;refine⟨Mem.minus V' M,λb o g=>?_,GW,h2 V' λb o _ g=>f _ _ g,λb o g u=>?_⟩;·rw[C6 λhm=>by simp_all];exact f _ _ (h.sub _ _ g)
 grind[C6]
theorem MA.beside(h:MA ty W p row V s){e:TypeId}{sz:Nat}{sl w:Sl}{vs y:List Value}(x:V0.sub W)(d:Sx.Own V0 W e sz sl vs)(f:Sx.Own (V.but sl) V' e sz w y):∃j,V0.sub j/\MA ty j p row V' s/\Sx.Own V0 j e sz w y:=by
 obtain⟨M,h1,h2⟩:=h.frame;have nb:∀b,M b->¬Bh sl b:=λb hm u=>by
  grind[Own.some]
 have keep:∀b o,V b=some o->¬Bh sl b->V' b=some o:=λb o u v=>f.sub _ _ (Mem.but_at u v);have J:∀b,M b->¬Bh w b:=λb hm u=>by
  have l:=Own.none0 f u;cases m:V b with
  |none=>simp_all
  |some o=>grind[Mem.but_at]
 have q:V0.sub (Mem.minus V' M):=λb o u=>by
  have hw:=x _ _ u;rw[C6 λhm=>by simp_all];exact keep _ _ (h.sub _ _ hw) λG=>by grind[Own.none0]
 refine⟨Mem.minus V' M,q,h2 V' λb o hm u=>keep b o u (nb b hm),q,f.len,?_⟩;rcases f.cases0 with N|⟨m,g,cur,a,b,c,dd⟩;·exact .inl N
 ·refine .inr ⟨g,cur,a,?_,?_,dd⟩
  ·cases l:V0 g with
   |none=>rfl
   |some o=>
    have hw:=h.sub _ _ (x _ _ l);rw[Mem.but_at hw (d.apart0 l)]at b;cases b
  ·rw[C6 λhm=>J g hm ⟨m,a⟩];exact c
end
theorem EW{V:Mem}{b:Nat}{c:Array Value}{t:Nat}{fr:Nat×Nat}(h:V b=some (.cells c t fr))(j off n:Nat)(g:j+off+n<=c.size):V.rowp (Aa (sa b) j) off n=some ((c.toList.drop (j+off)).take n):=by
 have:=An h (j+off) n g;rw[<-this];show V.row (((⟨b,0,none⟩:Addr).add j).add off) n=V.row ((⟨b,0,none⟩:Addr).add (j+off)) n;rw[add_add]
theorem I8{V:Mem}{b:Nat}{n:Int}{t:Nat}(h:V b=some (.cells #[.int .i64 n] t (0,0))):Ad V ⟨some ⟨b,0,none⟩,1,1⟩ 1 ([n].map Al):=
 Ad.cells (xs:=[n]) (row:=Al) h rfl (λ_=>rfl) rfl (by simp)
theorem G4{V:Mem}{l:Sl}{xs:List Int}(h:Ad V l 1 (xs.map Al))(w:xs.length<=2147483648):Tri xE 51 #[l.v] V λe V'=>∃s:Sl,e=.returned (.slice s.p s.n s.c)/\Sx.Own V V' 3 1 s (xs.flatMap Al):=by
 refine PL ?_;refine⟨λy=>⟨⟨none,0,0⟩,rfl,?_⟩,λy x g=>?_⟩
 ·have:xs=[]:=by
   cases xs with
   |nil=>rfl
   |cons a m=>
    have:=h.base (i:=0) (by simp);simp_all
  grind[Own.nil,Mem.sub.refl]
 ·have f:=Mem.sub_new g (.cells #[] 3 (0,0));exact FG (s:=⟨some ⟨x,0,none⟩,0,0⟩) (u:=l) (xs:=[]) (ys:=xs) rfl rfl (Own.empty (V0:=V) f _ _ _) (h.sub f) (by simpa using w) λs' V' j=>⟨s',rfl,s',rfl,by simpa using j⟩
end Go.Proofs
namespace Go.Sx
open Go
def AM(r:Option Nat):Fence:={wB with round:=r}
section
variable{P:Program}{r:Option Nat}{n:Nat}
theorem MJ{f:FuncId}{args:Array Value}{w:World}{R:Ending->World->Prop}:CallsIn (AM r) n P f args w R↔Calls P f args w R:=callsIn_wide (n:=n)
theorem rowsIn_wideR{row:String}{args:Array Value}{w:World}{R:Value->World->Prop}(h:Rows P row args w R):RowsIn (AM r) n P row args w R:=λc cs _=>
 let⟨v,w',q,s⟩:=h c cs
 ⟨v,w',q,stepsIn_wide.2 s⟩
theorem Ov{o:Oper}{a:Act}{w:World}{next:Act->World->Prop}{Q:Exit->Act->World->Prop}(g:∀c,o.op≠.defer c)(h:o.wp P a w next Q):o.wpIn (AM r) n P a w next Q:=by
 refine⟨λ_ _=>trivial,?_⟩;rw[Oper.semAt_eq _ _ _ g];unfold Oper.wp at h;revert h;generalize(execOp a.eval o).run P w=res;intro h;cases res with
 |ok x w'=>
  cases x with
  |enter f args=>exact⟨λh=>by simp[AM,wB]at h,MJ.2 h⟩
  |row row args=>exact⟨λh=>by simp[AM,wB]at h,rowsIn_wideR h⟩
  |value v=>exact h
  |skip=>exact h
  |defer d=>exact h
  |_=>exact h.elim
 |halt x w'=>cases x<;>first|exact h|exact h.elim
def K4:Op->Bool
 |.defer _=>false
 |_=>true
theorem MK{o:Op}(h:K4 o=true):∀c,o≠.defer c:=λc e=>by subst e;cases h
def FH:Code->Bool
 |.region _ h _=>h.all λo=>K4 o.op
 |.seq x y=>FH x&&FH y
 |.block _ b=>FH b
 |.cond _ x y=>FH x&&FH y
 |.loop b=>FH b
 |_=>true
theorem Ow{ops:Array Oper}{Q:Exit->Act->World->Prop}(u:¬LetsOut Q)(q:∀o∈ops,∀c,o.op≠.defer c)(l:List Oper):∀k,(∀j,j<l.length->l[j]?=ops[k+j]?)->∀a w,wpList P ops Q l a w->
  wpOpsIn (AM r) n P ops Q (wC k l.length) a w:=by
 induction l with
 |nil=>grind[wpOpsIn,wpList]
 |cons o l y=>
  intro k h a w hw;have x:ops[k]?=some o:=by simpa using(h 0 (by simp)).symm
  have g:=y (k+1) (λj m=>by have:=h (j+1) (by simpa using m);grind);simp only[List.length_cons,List.range'_succ,wpOpsIn,x];simp only[wpList]at hw;split
  ·rename_i f;rw[if_pos f]at hw;grind[Ov,wD,Oper.wp_mono]
  ·rename_i f;rw[if_neg f]at hw;exact⟨λ_ _=>trivial,g _ _ hw⟩
theorem QP{ops:Array Oper}{Q:Exit->Act->World->Prop}(f:¬LetsOut Q)(x:∀o∈ops,∀c,o.op≠.defer c){md:Region.Mode}:∀fuel listed a w,wpAny P md ops Q fuel listed a w->
  wpAnyIn (AM r) n P md ops Q fuel listed a w:=by
 intro fuel;induction fuel with
 |zero=>exact λ_ _ _ h=>h
 |succ fuel u=>
  rintro listed a w ⟨h1,h2⟩;refine⟨h1,λi hi=>?_⟩;have:=h2 i hi;unfold wpOp at this;unfold wpOpIn;split;·simp_all
  ·rename_i o y;simp only[y]at this;split
   ·rename_i g;rw[if_pos g]at this;grind[Ov,wD,Oper.wp_mono]
   ·rename_i g;rw[if_neg g]at this;exact⟨λ_ _=>trivial,u _ _ _ this⟩
end
open Classical in
theorem Ox{P:Program}{F:Fence}{g:Nat}{c:Code}{Q:Exit->Act->World->Prop}{a:Act}{w:World}(Inv:Nat->Act->World->Prop)(y:∃n,Inv n a w)
  (round:∀n a w,Inv n a w->c.wpIn F g P (Exit.then (λf w'=>∃u,u<n/\Inv u f w') Q) a w):(Code.loop c).wpIn F g P Q a w:=by
 let m:Act->World->Nat:=λa w=>if h:∃n,Inv n a w then Classical.choose (Mb _ h)else 0
 have hm:∀a w (h:∃n,Inv n a w),Inv (m a w) a w/\∀k,Inv k a w->m a w<=k:=λa w h=>by
  grind
 refine wpIn_loop (λa w=>∃n,Inv n a w) m y λa w x=>?_;obtain⟨h1,h2⟩:=hm a w x;refine wpIn_mono (round _ a w h1) (λe f w' q=>?_);grind
section
variable{all:Array Oper}{k:St->Tr}{Q:Exit->Act->World->Prop}
variable{P:Program}{R:Ending->Mem->Prop}{V0:Mem}{w0:World}{L:List (KZ)}{ρ0:List Value}{fs:List Nat}{H:CN}
theorem QQ(g:EA P fs){st:St}{a:Act}{w:World}(Z:FQ R V0 w0 a.defers Q)(h:Bl P R DM V0 w0 H.N L ρ0 a.tmps w st (Jr P fs H all st k))
  (l:LetsOut (λ(_:Exit) (_:Act) (_:World)=>False)->LetsOut Q)
  (Y:∀y m w',m.defers=a.defers->Bl P R DM V0 w0 H.N L ρ0 m.tmps w' y (k y)->Q .normal m w'):wpAny P .any all Q all.size (wE all.size false) a {w with drawn:=w.drawn+1}:=by
 unfold Jr at h;simp only at h;obtain⟨β,ρ,V,hp,A,q⟩:=h;split at q;case isFalse=>exact q.elim
 rename_i G;simp only[zC,List.all_eq_true]at G;obtain⟨c,b⟩:=G;obtain⟨v,h2,h3,h4,I⟩:=NW c;have u:∀j d,j<all.size->(wE all.size false).getD j d=false:=λj d f=>by simp_all
 refine(any_sound g v (λi o M=>b o (by grind)) Z l Y all.size (List.range all.size) (Iz all (CG all.toList []) all.size 0) [] st _ a _ a [] DM (λx=>x) ?_ rfl List.nodup_range (by simp) λj=>?_)
 ·exact
  {lsize:=by simp
   closed:=λj F f J=>by
    rw[u j _ (z8.1 f).1]at J;cases J
   chain:=I
   nd:=h3
   bound:=h4
   unl:=λj f _=>.inr (nodup_all h3 h4 h2 f)
   pu:=λj f=>by cases f
   ru:=λj f=>.inl (u j _ (h4 j f))
   boi:=λi hi j f J=>by omega
   fsize:=rfl
   fdef:=rfl
   fill:=λs _=>rfl
   goes:=⟨_,β,ρ,V,hp,A.drawn _,q⟩}
 simp_all
end
section
variable{P:Program}{R:Ending->Mem->Prop}{O V0:Mem}{w0:World}{fs:List Nat}{H:CN}
theorem noOut(Q:Exit->Act->World->Prop):¬LetsOut (λe g w'=>e≠.outgrown/\Q e g w'):=λ⟨_,_,h⟩=>h.1 rfl
theorem I9{x y:Bool}(h:(x&&y)=true):x=true:=by simp_all
theorem G5{x y:Bool}(h:(x&&y)=true):y=true:=by simp_all
theorem ndOps{id:Nat}{ops:Array Oper}{d:Bool}(h:FH (.region id ops d)=true):∀o∈ops,K4 o.op=true:=by
 grind[FH,wF]
theorem ex_sound_in{r:Option Nat}{n₀:Nat}(A:EA P fs)(hm:P.follows .mixedOrders=true):∀(c:Code),FH c=true->∀(L:List (KZ))(ρ0:List Value)(st:St)(k:Ex->St->Tr)(a:Act)(w:World)(Q:Exit->Act->World->Prop),
  FQ R V0 w0 a.defers Q->Bl P R DM V0 w0 H.N L ρ0 a.tmps w st (ex P fs H c st k)->
  (∀e g u w' B,L<+:B->u.defers=a.defers->Bl P R DM V0 w0 H.N B ρ0 u.tmps w' g (k e g)->Q e.toExit u w')->c.wpIn (AM r) n₀ P Q a w:=by
 intro c;induction c with
 |skip=>intro nd L ρ0 st k a w Q m h f;exact wpIn_skip (f .normal st a w L (yx _) rfl h)
 |ret=>intro nd L ρ0 st k a w Q m h f;exact wpIn_ret (f .ret st a w L (yx _) rfl h)
 |exit id=>intro nd L ρ0 st k a w Q m h f;exact wpIn_exit (f (.exit id) st a w L (yx _) rfl h)
 |seq x y C E=>
  intro nd L ρ0 st k a w Q m h f;refine wpIn_seq (C (I9 nd) L ρ0 st _ a w _ m h λe g u w' B hL G Z=>?_);cases e with
  |normal=>exact E (G5 nd) B ρ0 g k u w' Q (by grind) Z λe st'' a'' w'' L'' hL' hd' hg'=>f e st'' a'' w'' L'' (hL.trans hL') (hd'.trans G) hg'
  |exit i=>exact f (.exit i) g u w' B hL G Z
  |ret=>exact f .ret g u w' B hL G Z
 |block id b ih=>
  intro nd L ρ0 st k a w Q m h f;refine wpIn_block (ih nd L ρ0 st _ a w _ m h λe g u w' B hL G Z=>?_);cases e with
  |normal=>exact f .normal g u w' B hL G Z
  |exit i=>
   simp only at Z;show(if i=id then Q .normal u w' else Q (.exit i) u w');split;·rename_i e;rw[if_pos e]at Z;exact f .normal g u w' B hL G Z
   ·rename_i e;rw[if_neg e]at Z;exact f (.exit i) g u w' B hL G Z
  |ret=>exact f .ret g u w' B hL G Z
 |cond c x y C E=>
  intro nd L ρ0 st k a w Q m h f;obtain⟨β,ρ,V,X,M,l⟩:=h;simp only[ex]at l;split at l
  ·rename_i v hv;have he:a.eval c=.bool v:=BE M hv;cases v with
   |true=>exact wpIn_cond_true he (C (I9 nd) L ρ0 st k a w Q m ⟨β,ρ,V,X,M,l⟩ f)
   |false=>exact wpIn_cond_false he (E (G5 nd) L ρ0 st k a w Q m ⟨β,ρ,V,X,M,l⟩ f)
  ·rename_i t _ ht;split at l
   ·rename_i hc;obtain⟨hc1,hc2⟩:=hc;obtain⟨b,hb⟩:=GG (ρ:=ρ) (β:=β) hc1;have he:a.eval c=.bool b:=(BE M ht).trans hb;have hfr:=(T.ev_free (β:=id) (β':=β) (ρ:=ρ) t hc2).1;split at l
    ·rename_i d;simp only[D,hfr,hb,asB]at l;have F:Rel DM V0 w0 H.N β (st.now d (.bool b)) ρ V a.tmps w:=M.now (t:=t) ht (by rw[hb];rfl);cases b with
     |true=>exact wpIn_cond_true he (C (I9 nd) L ρ0 _ k a w Q m ⟨β,ρ,V,X.now _ _,F,l.1 rfl⟩ f)
     |false=>exact wpIn_cond_false he (E (G5 nd) L ρ0 _ k a w Q m ⟨β,ρ,V,X.now _ _,F,l.2 rfl⟩ f)
    ·simp only[D,hfr,hb,asB]at l;cases b with
     |true=>exact wpIn_cond_true he (C (I9 nd) L ρ0 _ k a w Q m ⟨β,ρ,V,X,M,l.1 rfl⟩ f)
     |false=>exact wpIn_cond_false he (E (G5 nd) L ρ0 _ k a w Q m ⟨β,ρ,V,X,M,l.2 rfl⟩ f)
   ·exact l.elim
  ·exact l.elim
 |region id ops draw=>
  intro nd L ρ0 st k a w Q m h f;cases draw with
  |true=>
   refine wpIn_mono (wpIn_region_any (Q:=λe u w'=>e≠.outgrown/\Q e u w') hm (QP (noOut Q) (λo ho=>MK (ndOps nd o ho)) _ _ _ _ (QQ A (λch u w' G hR=>⟨by simp,m ch u w' G hR⟩) h (λ⟨_,_,h⟩=>h.elim) λg u w' G Z=>⟨by simp,f .normal g u w' L (yx _) G Z⟩))) λe a w h=>h.2
  |false=>
   refine wpIn_mono (wpIn_region (Q:=λe u w'=>e≠.outgrown/\Q e u w') ?_) λe a w h=>h.2;rw[List.range_eq_range',<-xa];exact Ow (noOut Q) (λo ho=>MK (ndOps nd o ho)) _ _ (λj _=>by simp) _ _ (Jy A ops.toList st a w (λch u w' G hR=>⟨by simp,m ch u w' G hR⟩) h λg u w' G Z=>⟨by simp,f .normal g u w' L (yx _) G Z⟩)
 |loop b ih=>
  intro nd L ρ0 st k a w Q m h f;obtain⟨β,ρ,V,X,M,l⟩:=h;simp only[ex,exLoop]at l;generalize dedup (He b)=ws at l;generalize(((Hf b).bind λi=>H.loops.lookup i).getD [])=hint at l;obtain⟨g,t,Z,hfree,β',S,V',U,hr',q⟩:=EP _ _ _ _ ⟨β,ρ,V,X,M,l⟩;split at q;case isFalse=>exact q.elim
  rename_i hw;split at q;·exact q.elim
  ·rename_i st1 bs hgb;split at q;·exact q.elim
   ·rename_i init hinit;split at q;case isFalse=>exact q.elim
    rename_i hok;simp only[D]at q;obtain⟨I,μ,hI,hround⟩:=q;obtain⟨hrh,hsh⟩:=Kt hw hr'.nv (yx _) hgb hinit hok hr';let Inv:Nat->Act->World->Prop:=λn u w'=>∃β xs V',Shaped (bs.flatMap (·.2.2)++(CR ws st1).2.flatMap (·.2.2)) xs/\I xs V'/\μ xs V'=n/\
     Rel DM V0 w0 H.N β {(CR ws st1).1 with depth:=g.depth+1} (S++xs) V' u.tmps w'/\u.defers=a.defers
    refine Ox Inv ⟨_,β',init.evs S id,V',hsh,hI,rfl,hrh,rfl⟩ ?_;rintro n a1 w1 ⟨β1,xs,V1,hsh1,hI1,rfl,hr1,hd1⟩;have hDb:=hround xs V1 hsh1 hI1;refine ih nd (L++[λys K=>I ys K/\μ ys K<μ xs V1]) S _ _ a1 w1 _ (by rw[hd1];exact m) ⟨β1,S++xs,V1,⟨yB _ _,?_⟩,hr1,hDb⟩ ?_;·simp[U.2]
    ·intro e st2 a2 w2 L2 hL2 hd2 hg2;cases e with
     |normal=>
      obtain⟨β2,ρ2,V2,hp2,hr2,Y⟩:=hg2;simp only at Y;split at Y
      ·rename_i vs hvs;split at Y
       ·rename_i hok2;simp only[D]at Y;obtain⟨J,hJ,hJ2⟩:=Y;have hlvl:L2[g.depth]?=some (λys K=>I ys K/\μ ys K<μ xs V1):=by
         obtain⟨σ,rfl⟩:=hL2;rw[<-U.2,List.getElem?_append_left (by simp),List.getElem?_append_right (yU _)];simp
        rw[hlvl]at hJ;simp only[zF]at hJ;subst hJ;obtain⟨hrh2,hsh2⟩:=Kt hw hr'.nv hp2.1 hgb hvs hok2 hr2;exact⟨_,hJ2.2,β2,vs.evs ρ2 id,V2,hsh2,hJ2.1,rfl,hrh2,hd2.trans hd1⟩
       ·exact Y.elim
      ·exact Y.elim
     |exit i=>exact f (.exit i) st2 a2 w2 L2 ((yB _ _).trans hL2) (hd2.trans hd1) (hg2.weak U.1)
     |ret=>exact f .ret st2 a2 w2 L2 ((yB _ _).trans hL2) (hd2.trans hd1) (hg2.weak U.1)
 |rangeFunc _ _ _ _ _ _=>intro nd L ρ0 st k a w Q m h f;obtain⟨β,ρ,V,X,M,l⟩:=h;exact l.elim
 |scope _ _=>intro nd L ρ0 st k a w Q m h f;obtain⟨β,ρ,V,X,M,l⟩:=h;exact l.elim
 |label _=>intro nd L ρ0 st k a w Q m h f;obtain⟨β,ρ,V,X,M,l⟩:=h;exact l.elim
 |goto _=>intro nd L ρ0 st k a w Q m h f;obtain⟨β,ρ,V,X,M,l⟩:=h;exact l.elim
 |refuse _=>intro nd L ρ0 st k a w Q m h f;obtain⟨β,ρ,V,X,M,l⟩:=h;exact l.elim
end
section
variable{P:Program}{fs:List Nat}{H:CN}
def C7(r:Option Nat)(n:Nat)(P:Program)(Q:Exit->Act->World->Prop):List Code->Act->World->Prop
 |[],a,w=>Q .normal a w
 |c::cs,a,w=>c.wpIn (AM r) n P (Exit.then (C7 r n P Q cs) Q) a w
def flat:Code->List Code
 |.seq x y=>flat x++flat y
 |c=>[c]
theorem Oy{r:Option Nat}{n:Nat}{Q:Exit->Act->World->Prop}{g:List Code}:∀{f:List Code}{a:Act}{w:World},C7 r n P (Exit.then (C7 r n P Q g) Q) f a w->C7 r n P Q (f++g) a w
 |[],_,_,h=>h
 |c::cs,a,w,h=>by
  refine wpIn_mono (show c.wpIn (AM r) n P _ a w from h) λe y w' u=>?_;cases e with
  |normal=>exact Oy u
  |_=>exact u
theorem G6{r:Option Nat}{n:Nat}{Q f:Exit->Act->World->Prop}(g:∀e a w,Q e a w->f e a w):∀{l:List Code}{a:Act}{w:World},C7 r n P Q l a w->C7 r n P f l a w
 |[],_,_,h=>g _ _ _ h
 |c::cs,a,w,h=>by
  refine wpIn_mono (show c.wpIn (AM r) n P _ a w from h) λe y w' u=>?_;cases e with
  |normal=>exact G6 g u
  |_=>exact g _ _ _ u
theorem ML{r:Option Nat}{n:Nat}{Q:Exit->Act->World->Prop}{g:List Code}:∀{f:List Code}{a:Act}{w:World},C7 r n P Q (f++g) a w->C7 r n P (Exit.then (C7 r n P Q g) Q) f a w
 |[],_,_,h=>h
 |c::cs,a,w,h=>by
  refine wpIn_mono (show c.wpIn (AM r) n P _ a w from h) λe y w' u=>?_;cases e with
  |normal=>exact ML u
  |_=>exact u
theorem Hv{r:Option Nat}{n:Nat}:∀{c:Code}{Q:Exit->Act->World->Prop}{a:Act}{w:World},C7 r n P Q (flat c) a w->c.wpIn (AM r) n P Q a w:=by
 intro c;induction c with
 |seq x y f u=>
  intro Q a w h;refine wpIn_seq (f ?_);refine G6 (λe a w g=>?_) (ML h);cases e with
  |normal=>exact u g
  |_=>exact g
 |_=>
  intro Q a w h;refine wpIn_mono (show wG (AM r) n P _ _ a w from h) λe j w' g=>?_;cases e with
  |normal=>exact g
  |_=>exact g
def Bb(P:Program)(N:Nat)(cs:List Code)(g:List (Nat×Value))(h:List Nat)(V:Mem)(R:KZ):Prop:=
 ∀r n a w,V.le w->a.tmps.size=N->(∀s v,g.lookup s=some v->a.tmps.getD s undef=v)->
  C7 r n P (λe f w'=>e=.normal/\f.defers=a.defers/\f.tmps.size=N/\∃vs V',(∀s v,(h.zip vs).lookup s=some v->f.tmps.getD s undef=v)/\R vs V'/\Ax V w V' w') cs a w
theorem Bb.mono{N:Nat}{cs:List Code}{f:List (Nat×Value)}{g:List Nat}{V:Mem}{R u:KZ}(h:Bb P N cs f g V R)(y:∀vs V',R vs V'->u vs V'):Bb P N cs f g V u:=
 λr n a w x j l=>G6 (λ_ _ _ ⟨h1,h2,h3,vs,V',h4,m,q⟩=>⟨h1,h2,h3,vs,V',h4,y _ _ m,q⟩) (h r n a w x j l)
def MM(P:Program)(fs:List Nat)(H:CN):List Code->St->(Ex->St->Tr)->Tr
 |[],st,k=>k .normal st
 |c::cs,st,k=>ex P fs H c st λe st=>match e with|.normal=>MM P fs H cs st k|e=>k e st
def segT(P:Program)(fs:List Nat)(H:CN)(cs:List Code)(slots:List (Nat×T))(nv:Nat)(h:List Nat):Tr:=
 if(slots.all λx=>x.2.wf nv 0)/\cs.all FH then
  MM P fs H cs {slots,boxes:=[],nv,nb:=0,depth:=0} λe st=>
   match e with
   |.normal=>pubT (st.nb+2) st (λst=>(Fy st h).map T.tup) λ_ t=>.ret t
   |_=>.bad 60 0
 else .bad 61 0
theorem exL_sound{R:Ending->Mem->Prop}{V0:Mem}{w0:World}{r:Option Nat}{n:Nat}(g:EA P fs)(hm:P.follows .mixedOrders=true){k:Ex->St->Tr}{Q:Exit->Act->World->Prop}{ρ0:List Value}:∀{cs:List Code}{L:List (KZ)}{st:St}{a:Act}{w:World},
  FQ R V0 w0 a.defers Q->Bl P R DM V0 w0 H.N L ρ0 a.tmps w st (MM P fs H cs st k)->cs.all FH=true->
  (∀e f y w' x,L<+:x->y.defers=a.defers->Bl P R DM V0 w0 H.N x ρ0 y.tmps w' f (k e f)->Q e.toExit y w')->C7 r n P Q cs a w
 |[],L,st,a,w,_,h,_,j=>j .normal st a w L (yx _) rfl h
 |c::cs,L,st,a,w,Y,h,u,j=>by
  simp only[List.all_cons,zC]at u;refine ex_sound_in g hm c u.1 L ρ0 st _ a w _ Y h λe f y w' x m q o=>?_;cases e with
  |normal=>exact exL_sound g hm (by grind) o u.2 λe l b d v J G Z=>j e l b d v (m.trans J) (G.trans q) Z
  |exit i=>exact j (.exit i) f y w' x m q o
  |ret=>exact j .ret f y w' x m q o
end
section
variable{P:Program}{fs:List Nat}{H:CN}
theorem MO{f:T->Value}:∀{l:List Nat}{ts:List T}{s:Nat}{v:Value},(l.zip (ts.map f)).lookup s=some v->∃t,(l.zip ts).lookup s=some t/\f t=v/\s∈l
 |[],_,s,v,h=>by simp at h
 |x::xs,[],s,v,h=>by simp at h
 |x::xs,t::ts,s,v,h=>by
  simp only[zG,wH,zd]at h⊢;by_cases e:s=x;·simp_all
  ·have:(s==x)=false:=by simpa using e
   rw[this]at h⊢;obtain⟨g,h1,h2,h3⟩:=MO h;simp_all
theorem MP{f:T->Value}:∀{l:List (Nat×T)}{s:Nat}{t:T},l.lookup s=some t->(l.map λx=>(x.1,f x.2)).lookup s=some (f t)
 |[],s,t,h=>by simp at h
 |(x,u)::xs,s,t,h=>by
  simp only[zG,zd]at h⊢;split at h;·simp_all
  ·exact MP h
theorem seg_sound(f:EA P fs)(hm:P.follows .mixedOrders=true){N:Nat}{cs:List Code}{slots:List (Nat×T)}{nv:Nat}{u:List Nat}{t:Tr}(E:segT P fs {H with N:=N} cs slots nv u=t)(ρ:List Value)(K:ρ.length=nv)
  {m:List (Nat×Value)} (c:m=slots.map λx=>(x.1,x.2.ev ρ id)) {V:Mem} {R:KZ} {q:Prop} (S:q=DT P {} (λe V'=>∃vs:List Value,e=.returned (.tuple vs.toArray)/\R vs V') t [] ρ V) (h:q):
  Bb P N cs m u V R:=by
 intro r n a w U hN hs;subst S c E;have g:=Eb _ _ _ _ h;unfold segT at g;split at g;case isFalse=>exact g.elim
 rename_i hw;obtain⟨hwf,Y⟩:=hw;refine exL_sound (L:=[]) (ρ0:=ρ) (V0:=V) (w0:=w) f hm (λ_ _ _ _ h=>by simp_all) ⟨id,ρ,V,⟨yx _,rfl⟩,?_,g⟩ Y ?_
 ·exact
   {nv:=K
    size:=hN
    slots:=λs t d=>by
     have hl:=IH d;simp_all[MP,id]
    frm:=Ax.refl U
    boxes:=λi cs ty hi=>by simp[St.box]at hi
    hid:=λb o hb=>by cases hb
    inj:=λi j hi _ _=>by grind}
 ·intro e st' a' w' L' _ hd d;cases e with
  |exit j=>obtain⟨β,l,V2,F,J,g⟩:=d;exact g.elim
  |ret=>obtain⟨β,l,V2,F,J,g⟩:=d;exact g.elim
  |normal=>
   obtain⟨st2,t2,G,A,β,l,V2,F,J,g⟩:=EP _ _ _ _ d;simp only[zj]at G;obtain⟨x,X,rfl⟩:=G;simp only[D]at g;obtain⟨vs,h1,h2⟩:=g;simp only[T.ev,wI,wJ]at h1;have I:T.evs l id x=vs:=by simp_all
   refine⟨rfl,hd,J.size,vs,V2,λs v Z=>?_,h2,J.frm⟩;rw[<-I,DV]at Z;obtain⟨t,g1,g2,B⟩:=MO Z;obtain⟨y,C,g5⟩:=Kn X s B;have M:=Km X s B;rw[g1,C]at M;simp only[zF]at M;subst M;rw[J.slots s t C,<-g2];grind[Ko,T.firstBox,T.ev_free]
end
section
variable{P:Program}
def BG(fn:FuncId)(tmps:Array Value)(ps:Array Tmp)(assign body:Code)(D:Nat):Loop:={state:=.ready,pending:=none,fn,tmps,params:=ps,assign,body,defers:=D}
theorem MS{g:Operand}{ps:Array Tmp}{assign body:Code}{a:Act}{w:World}{V:Mem}{f:FuncId}{caps:Array Value}{n:Nat}{Q:Exit->Act->World->Prop}{Φ:Mem->Prop}
  (J:V.le w) (X:a.eval g=.func (.func f) #[] caps) (B:∀args w,(callFunc f args).run P w=.ok (.enter f args) w)
  (G:∀fn l D,V l=none->Tri P f (#[.func (.yield l) #[] #[]]++caps) (V.set l (.loop (BG fn a.tmps ps assign body D))) λe V'=>(∃v,e=.returned v)/\∃V2,V'=V2.set l (.loop (BG fn a.tmps ps assign body D))/\V2 l=none/\Φ V2)
  (q:∀D V' W,w.heap.size<=D->Ax V w V' W->V' D=none->W.heap[D]?=some (.deferred (some []))->Φ V'->Q .normal {a with defers:={target:=.collected D,args:=#[]}::a.defers} W):
  (Code.rangeFunc g ps assign body).wpIn (AM none) n P Q a w:=by
 refine wpIn_rangeFunc λfn _=>?_;obtain⟨u,x⟩:∃u,(w.alloc (.deferred (some []))).alloc (.loop (BG fn a.tmps ps assign body w.heap.size))=u:=⟨_,rfl⟩;have C:u.heap.size=w.heap.size+2:=by rw[<-x];simp
 have E:u.heap[w.heap.size+1]?=some (.loop (BG fn a.tmps ps assign body w.heap.size)):=by
  grind[wK,BG,World.size_alloc]
 have N:u.heap[w.heap.size]?=some (.deferred (some [])):=by
  grind[xN,wK]
 have j:∀b,b<w.heap.size->u.heap[b]?=w.heap[b]?:=λb y=>by
  grind[xN]
 have Z:∀b,w.heap.size<=b->V b=none:=λb y=>by
  cases F:V b with
  |none=>rfl
  |some o=>have:=(z8.1 (J b o F)).1;omega
 have Y:(V.set (w.heap.size+1) (.loop (BG fn a.tmps ps assign body w.heap.size))).le u:=λb o y=>by
  by_cases e:b=w.heap.size+1;·grind[Mem.set_same]
  ·rw[Mem.set_ne e]at y;have:=(z8.1 (J b o y)).1;rw[j b this];exact J b o y
 refine⟨w.heap.size+1,[{target:=.collected w.heap.size,args:=#[]}],u,{target:=.fn (.func f) caps,args:=#[.func (.yield (w.heap.size+1)) #[] #[]]},u,f,
  #[.func (.yield (w.heap.size+1)) #[] #[]]++caps,u,?_,?_,?_,?_,λh=>by simp[AM,wB]at h,?_⟩
 ·rw[<-x];exact run_enterLoop_outer _ _ _ _ _
 ·simp only[resolve,X];simp[go_sem]
 ·intro T K;trivial
 ·simp[invoke,go_sem,B]
 ·refine MJ.2 (IJ (G fn (w.heap.size+1) w.heap.size (Z _ (by omega)) u Y) ?_);rintro e c ⟨V',⟨⟨v,rfl⟩,V2,rfl,h2,A⟩,m⟩;have d:c.heap[w.heap.size+1]?=some (.loop (BG fn a.tmps ps assign body w.heap.size)):=m.le _ _ (Mem.set_same _ _ _);have S:w.heap.size+1<c.heap.size:=(z8.1 d).1;refine⟨none,_,run_endLoop (P:=P) d (by simp[BG]),?_⟩;have I:(V.set (w.heap.size+1) (.loop (BG fn a.tmps ps assign body w.heap.size))) w.heap.size=none:=by
   simp_all[Mem.set_ne,yU]
  have M:c.heap[w.heap.size]?=some (.deferred (some [])):=(m.old _ (by omega) I).trans N;refine q w.heap.size V2 _ (yU _) ?_ ?_ ((wL (by omega)).trans M) A
  ·refine⟨?_,λb o y=>?_,λb y U=>?_,λb y=>?_,?_,?_⟩;·grind[wM]
   ·have e:b≠w.heap.size+1:=λe=>by simp_all
    refine(wL e).trans (m.le b o ?_);rw[Mem.set_ne e];exact y
   ·refine(wL (by omega)).trans ((m.old b (by omega) ?_).trans (j b y));grind[Mem.set_ne]
   ·have e:b≠w.heap.size+1:=λe=>by simp_all
    rcases m.dom b (by rw[Mem.set_ne e];exact y)with h|h
    ·grind[Mem.set_ne]
    omega
   ·show c.os=w.os;rw[m.os,<-x];rfl
   ·show c.output=w.output;rw[m.out,<-x];rfl
  ·cases F:V2 w.heap.size with
   |none=>rfl
   |some o=>
    rcases m.dom w.heap.size (by grind[Mem.set_ne])with h|h;·grind
    ·omega
theorem MT{l:Nat}{V:Mem}{w:World}{fn:FuncId}{tmps:Array Value}{ps:Array Tmp}{assign body:Code}{D:Nat}{args:Array Value}{N n:Nat}(hl:V l=none)
  (S:(V.set l (.loop (BG fn tmps ps assign body D))).le w) {insA:List (Nat×Value)} {outsA:List Nat} {T:KZ} {J:Mem->Prop} (hN:((ps.zip args).foldl (λt (p,v)=>t.setIfInBounds p v) tmps).size=N)
  (y:∀s v,insA.lookup s=some v->((ps.zip args).foldl (λt (p,v)=>t.setIfInBounds p v) tmps).getD s undef=v)
  (hA:Bb P N [assign] insA outsA V T) (hB:∀vs V1,T vs V1->Bb P N [body] (outsA.zip vs) [] V1 λ_ V2=>J V2):
  RoundIn (AM none) n P l fn ((ps.zip args).foldl (λt (p,v)=>t.setIfInBounds p v) tmps) assign body w λe w'=>
   e=.returned (.bool true)/\∃V2,J V2/\V2 l=none/\Ax (V.set l (.loop (BG fn tmps ps assign body D))) w (V2.set l (.loop (BG fn tmps ps assign body D))) w':=by
 have x:w.heap[l]?=some (.loop (BG fn tmps ps assign body D)):=S l _ (Mem.set_same _ _ _);have j:l<w.heap.size:=(z8.1 x).1;have m:V.le w:=λb o u=>by
  have e:b≠l:=λe=>by simp_all
  exact S b o (by rw[Mem.set_ne e];exact u)
 refine roundIn_of_wpIn (F:=AM none) trivial ?_;have h1:=hA (some l) n {tmps:=(ps.zip args).foldl (λt (p,v)=>t.setIfInBounds p v) tmps,defers:=[]} w m hN y;refine wpIn_mono (show assign.wpIn (AM (some l)) n P _ _ w from h1) ?_;rintro e a1 M U;cases e with
 |normal=>
  obtain⟨_,hd1,X,vs,V1,B,C,g⟩:=U;have q:M.heap[l]?=some (.loop (BG fn tmps ps assign body D)):=(g.old l j hl).trans x;refine⟨_,run_beginRound q rfl,?_⟩;have c:l<M.heap.size:=(z8.1 q).1;have a:V1 l=none:=by
   cases d:V1 l with
   |none=>rfl
   |some o=>
    rcases g.dom l (by rw[d];simp)with h|h
    ·grind
    ·omega
  have E:V1.le (M.putObj l (.loop {BG fn tmps ps assign body D with state:=.busy})):=λb o u=>by
   have e:b≠l:=λe=>by simp_all
   exact(wL e).trans (g.le b o u)
  have h2:=hB vs V1 C (some l) n a1 _ E X B;refine wpIn_mono (show body.wpIn (AM (some l)) n P _ _ _ from h2) ?_;rintro e a2 I G;cases e with
  |normal=>
   obtain⟨_,_,_,_,V2,_,hJ,f⟩:=G;have Z:I.heap[l]?=some (.loop {BG fn tmps ps assign body D with state:=.busy}):=(f.old l (by simp_all) a).trans (wN c);have Y:l<I.heap.size:=(z8.1 Z).1;have A:V2 l=none:=by
    cases d:V2 l with
    |none=>rfl
    |some o=>
     rcases f.dom l (by rw[d];simp)with h|h
     ·grind
     grind[wM]
   refine⟨_,_,run_endRound (P:=P) none Z,rfl,V2,hJ,A,?_⟩;have z2:=f.size;rw[wM]at z2;have z1:=g.size;refine⟨?_,λb o u=>?_,λb u hn=>?_,λb u=>?_,?_,?_⟩;·rw[wM];omega
   ·by_cases e:b=l
    ·subst e;rw[Mem.set_same]at u;rw[<-u];exact wN Y
    ·rw[Mem.set_ne e]at u;exact(wL e).trans (f.le b o u)
   ·have e:b≠l:=λe=>by grind[Mem.set_same]
    rw[Mem.set_ne e]at hn;have K:V1 b=none:=by
     cases d:V1 b with
     |none=>rfl
     |some o=>
      rcases g.dom b (by rw[d];simp)with h|h
      ·grind
      ·omega
    refine(wL e).trans ((f.old b (by rw[wM];omega) K).trans ((wL e).trans (g.old b u hn)))
   ·by_cases e:b=l;·grind[Mem.set_same]
    ·rw[Mem.set_ne e]at u⊢;rcases f.dom b u with h|h
     ·rcases g.dom b h with h|h;·exact .inl h
      ·exact .inr h
     grind[inr,wM]
   ·show I.os=w.os;rw[f.os];exact g.os
   ·show I.output=w.output;rw[f.out];exact g.out
  |_=>exact absurd G.1 (by simp)
 |_=>exact absurd U.1 (by simp)
theorem Oz{f:FuncId}{fn:Func}{c:Code}{args:Array Value}{V:Mem}{R:Ending->Mem->Prop}(d:P.funcs[f]?=some fn)(x:fn.body=some c)
  (h:∀w,V.le w->C7 none 0 P (λe u w'=>(e=.normal∨e=.ret)/\∃Ds:List Nat,u.defers=Ds.map (λD=>{target:=.collected D,args:=#[]})/\Ds.Nodup/\∃V',Ax V w V' w'/\
    (∀D∈Ds,w.heap.size<=D/\w'.heap[D]?=some (.deferred (some []))/\V' D=none)/\∃v,(∀g,V'.le g->(results fn u.tmps).run P g=.ok v g)/\R (.returned v) V')
   (flat c) {tmps:=args++wE (fn.ntmps-args.size) undef,defers:=[]} w):Tri P f args V R:=by
 intro w J;have key:∀(Ds:List Nat)(u:Act)(V':Mem)(v:Value)(w':World),Ds.Nodup->Ax V w V' w'->(∀D∈Ds,w.heap.size<=D/\w'.heap[D]?=some (.deferred (some []))/\V' D=none)->
   (∀g,V'.le g->(results fn u.tmps).run P g=.ok v g)->R (.returned v) V'->
   LeavesInM (AM none) 0 P fn u.tmps (λe w'=>∃V',R e V'/\Ax V w V' w') (Ds.map λD=>{target:=.collected D,args:=#[]}) .returning w':=by
  intro Ds u V' v;induction Ds with
  |nil=>intro w' _ y _ m q;exact⟨v,m w' y.le,V',q,y⟩
  |cons D Ds G=>
   intro w' j y a m q;obtain⟨N,l,Z⟩:=a D (by simp);have Y:=(z8.1 l).1;refine⟨by simp,.inl ⟨D,_,rfl,run_takeDeferred l,G _ (yT.1 j).2 ?_ ?_ m q⟩⟩
   ·refine⟨by grind[wM],λb o x=>?_,λb x A=>?_,y.dom,y.os,y.out⟩
    ·have e:b≠D:=λe=>by simp_all
     exact(wL e).trans (y.le b o x)
    ·exact(wL (by omega)).trans (y.old b x A)
   grind[D,yT,wL]
 refine(callsIn_wide (n:=0)).1 (callsIn_of_wp_marks (F:=AM none) d x trivial (Hv ?_) rfl);refine G6 ?_ (h w J);rintro e u w' ⟨I,Ds,M,j,V',y,a,v,m,q⟩;rcases I with rfl|rfl
 ·show LeavesInM _ _ _ _ _ _ u.defers _ _;grind
 ·show LeavesInM _ _ _ _ _ _ u.defers _ _;grind
end
def kid:Code->Nat->Code
 |.block _ b,_=>b
 |.loop b,_=>b
 |.cond _ x y,j=>if j=0 then x else y
 |.rangeFunc _ _ x y,j=>if j=0 then x else y
 |c,_=>c
def Bi(c:Code):List Nat->List Code
 |i::j::p=>match(flat c)[i]? with|some d=>Bi (kid d j) p|none=>[]
 |_=>flat c
def Eg:Code->Array Oper
 |.region _ h _=>h
 |_=>#[]
def AN(f:Func):Code:=f.body.getD .skip
section
variable{P:Program}{fs:List Nat}{H:CN}
def Ay(P:Program)(N:Nat)(ops:Array Oper)(k m:Nat)(g:List (Nat×Value))(h:List Nat)(V:Mem)(R:KZ):Prop:=
 ∀r n a w,V.le w->a.tmps.size=N->(∀s v,g.lookup s=some v->a.tmps.getD s undef=v)->
  wpOpsIn (AM r) n P ops (λe f w'=>e=.normal/\f.defers=a.defers/\f.tmps.size=N/\∃vs V',(∀s v,(h.zip vs).lookup s=some v->f.tmps.getD s undef=v)/\R vs V'/\Ax V w V' w') (wC k m) a w
def segOT(P:Program)(fs:List Nat)(H:CN)(ops:Array Oper)(k m:Nat)(slots:List (Nat×T))(nv:Nat)(h:List Nat):Tr:=
 if(slots.all λx=>x.2.wf nv 0)/\(ops.all λo=>K4 o.op)/\((ops.toList.drop k).take m).length=m then
  GD P fs H ops ((ops.toList.drop k).take m) {slots,boxes:=[],nv,nb:=0,depth:=0} λst=>
   pubT (st.nb+2) st (λst=>(Fy st h).map T.tup) λ_ t=>.ret t
 else .bad 61 0
theorem sego_sound(g:EA P fs){N:Nat}{ops:Array Oper}{k m:Nat}{slots:List (Nat×T)}{nv:Nat}{f:List Nat}{t:Tr}(E:segOT P fs {H with N:=N} ops k m slots nv f=t)(ρ:List Value)(K:ρ.length=nv)
  {l:List (Nat×Value)} (c:l=slots.map λx=>(x.1,x.2.ev ρ id)) {V:Mem} {R:KZ} {q:Prop} (S:q=DT P {} (λe V'=>∃vs:List Value,e=.returned (.tuple vs.toArray)/\R vs V') t [] ρ V) (h:q):
  Ay P N ops k m l f V R:=by
 intro r n a w U hN hs;subst S c E;have u:=Eb _ _ _ _ h;unfold segOT at u;split at u;case isFalse=>exact u.elim
 rename_i hw;obtain⟨hwf,hnd,d⟩:=hw;have e1:(wC k m)=wC k ((ops.toList.drop k).take m).length:=by rw[d]
 rw[e1];refine Ow (λh=>by obtain⟨_,_,h,_⟩:=h;cases h) (λo ho=>MK (by grind[wF])) _ _ (λj hj=>?_) a w ?_;·simp_all
 refine Jy (L:=[]) (ρ0:=ρ) (V0:=V) (w0:=w) (O:=DM) g _ _ a w (λ_ _ _ _ h=>by simp_all) ⟨id,ρ,V,⟨yx _,rfl⟩,?_,u⟩ ?_
 ·exact
   {nv:=K
    size:=hN
    slots:=λs t Z=>by
     have hl:=IH Z;simp_all[MP,id]
    frm:=Ax.refl U
    boxes:=λi cs ty hi=>by simp[St.box]at hi
    hid:=λb o hb=>by cases hb
    inj:=λi j hi _ _=>by grind}
 ·intro st' a' w' hd Z;obtain⟨st2,t2,J,Y,β,A,V2,hp,I,u⟩:=EP _ _ _ _ Z;simp only[zj]at J;obtain⟨x,X,rfl⟩:=J;simp only[D]at u;obtain⟨vs,h1,h2⟩:=u;simp only[T.ev,wI,wJ]at h1;have M:T.evs A id x=vs:=by simp_all
  refine⟨rfl,hd,I.size,vs,V2,λs v G=>?_,h2,I.frm⟩;rw[<-M,DV]at G;obtain⟨t,g1,g2,B⟩:=MO G;obtain⟨y,C,g5⟩:=Kn X s B;have F:=Km X s B;rw[g1,C]at F;simp only[zF]at F;subst F;rw[I.slots s t C,<-g2];grind[Ko,T.firstBox,T.ev_free]
theorem wpOpIn_monoQ{F:Fence}{n:Nat}{ops:Array Oper}{Q f:Exit->Act->World->Prop}(m:∀c a w,f (.panic c) a w->Q (.panic c) a w)(q:LetsOut f->LetsOut Q){i:Nat}{a:Act}{w:World}{K y:Act->World->Prop}(h:∀a w,K a w->y a w)
  (g:wpOpIn F n P ops f i K a w):wpOpIn F n P ops Q i y a w:=by
 unfold wpOpIn at*
 split;·simp_all
 ·rename_i o u;simp only[u]at g;split
  ·rename_i hw;simp only[hw,if_true]at g;unfold Oper.wpIn at*
   refine⟨g.1,?_⟩;have g:=g.2;generalize(o.semAt F.round a.eval).run P w=r at*
   cases r with
   |ok x w'=>
    cases x<;>simp only[Oper.uponIn]at g⊢<;>
     first
      |exact h _ _ g
      |exact⟨g.1,CallsIn.mono g.2 (λe l j=>by grind)⟩
      |exact⟨g.1,RowsIn.mono g.2 (λ_ _ j=>h _ _ j)⟩
      |grind[RoundIn.mono]
   |halt x w'=>cases x<;>simp only[Oper.uponIn]at g⊢<;>first|grind|exact g
  simp_all
theorem QR{F:Fence}{n:Nat}{ops:Array Oper}{Q f:Exit->Act->World->Prop}(x:∀c a w,f (.panic c) a w->Q (.panic c) a w)(j:LetsOut f->LetsOut Q){u:List Nat}(y:∀a w,f .normal a w->wpOpsIn F n P ops Q u a w):∀{g:List Nat}{a:Act}{w:World},
  wpOpsIn F n P ops f g a w->wpOpsIn F n P ops Q (g++u) a w:=by
 intro g;induction g with
 |nil=>exact λh=>y _ _ h
 |cons i g l=>
  grind[wpOpsIn_cons,wpOpIn_monoQ]
end
end Go.Sx
namespace Go.Proofs
open Go Go.Sx
set_option maxRecDepth 100000
section
variable{V:Mem}{R:RP}
theorem CU{H:CN}{N:Nat}{cs:List Code}(slots:List (Nat×T)){g:List Nat}(ρ:List Value){f:List (Nat×Value)}(u:f=slots.map λx=>(x.1,x.2.ev ρ id)){V:Mem}{R:KZ}{q:Prop}
  (w:q=DT xE {} (OV R) (segT xE fs {H with N:=N} cs slots ρ.length g) [] ρ V) (h:q):Bb xE N cs f g V R:=
 seg_sound (H:=H) Kz Mh rfl ρ rfl u w h
theorem AE{H:CN}{N:Nat}{ops:Array Oper}{k m:Nat}(slots:List (Nat×T)){g:List Nat}(ρ:List Value){f:List (Nat×Value)}(u:f=slots.map λx=>(x.1,x.2.ev ρ id)){V:Mem}{R:KZ}{q:Prop}
  (w:q=DT xE {} (OV R) (segOT xE fs {H with N:=N} ops k m slots ρ.length g) [] ρ V) (h:q):Ay xE N ops k m f g V R:=
 sego_sound (H:=H) Kz rfl ρ rfl u w h
noncomputable def c288a:List Code:=((Bi (AN wO) []).drop 0).take 1
def w288a(a:Value)(b:Option Addr):MR:=λV R=>∃c,V.rowp b ((0:Int).toNat*1) 1=some [uL c]/\IR ((c.n:Int)-1)/\R (rT #[K.cast .f a,uP b,uI ((c.n:Int)-1)]) V
theorem s288a{a:Value}{b:Option Addr}{V:Mem}{R:KZ}(h:w288a a b V (OV R)):Bb xE 19 c288a [(0,K.cast .f a),(1,uP b)] [0,1,3] V R:=
 CU (H:=hK 19) [(0,(.var .f 0)),(1,(.var .p 1))] [a,uP b] rfl (by kernel_rfl) h
noncomputable def c288b:List Code:=((Bi (AN wO) [1,0,0,0]).drop 0).take 1
def w288b(a:Value)(b:Option Addr)(c:Int):MR:=λV R=>R (rT #[K.cast .f a,uP b,uI c,uB (decide (0<=c))]) V
theorem s288b{a:Value}{b:Option Addr}{c:Int}{V:Mem}{R:KZ}(h:w288b a b c V (OV R)):Bb xE 19 c288b [(0,K.cast .f a),(1,uP b),(3,uI c)] [0,1,3,8] V R:=
 CU (H:=hK 19) [(0,(.var .f 0)),(1,(.var .p 1)),(3,(.var (.i .i64) 2))] [a,uP b,uI c] rfl (by kernel_rfl) h
noncomputable def c288c:Array Oper:=Eg ((Bi (AN wO) [1,0,0,0,2,0]).getD 0 .skip)
def w288c(a:Value)(b:Option Addr)(c:Int):MR:=λV R=>∃d,V.rowp b ((0:Int).toNat*1) 1=some [uL d]/\Ix d c (∃g i,V.rowp d.p (c.toNat*2) 2=some [uS g,uS i]/\R (rT #[K.cast .f a,uP b,uI c,K.cast .f a,uI c,uA #[uS g,uS i]]) V)
theorem s288c{a:Value}{b:Option Addr}{c:Int}{V:Mem}{R:KZ}(h:w288c a b c V (OV R)):Ay xE 19 c288c 0 6 [(0,K.cast .f a),(1,uP b),(3,uI c)] [0,1,3,11,12,16] V R:=
 AE (H:=hK 19) [(0,(.var .f 0)),(1,(.var .p 1)),(3,(.var (.i .i64) 2))] [a,uP b,uI c] rfl (by kernel_rfl) h
noncomputable def c288d:Array Oper:=Eg ((Bi (AN wO) [1,0,0,0,2,0]).getD 0 .skip)
def w288d(a:Value)(b:Option Addr)(c:Int)(d:Bool):MR:=λV R=>R (rT #[K.cast .f a,uP b,uI c,uB (!d)]) V
theorem s288d{a:Value}{b:Option Addr}{c:Int}{d:Bool}{V:Mem}{R:KZ}(h:w288d a b c d V (OV R)):Ay xE 19 c288d 7 1 [(0,K.cast .f a),(1,uP b),(3,uI c),(17,uB d)] [0,1,3,18] V R:=
 AE (H:=hK 19) [(0,(.var .f 0)),(1,(.var .p 1)),(3,(.var (.i .i64) 2)),(17,(.var .b 3))] [a,uP b,uI c,uB d] rfl (by kernel_rfl) h
noncomputable def c288e:List Code:=((Bi (AN wO) [1,0,0,0]).drop 3).take 1
def w288e(a:Value)(b:Option Addr)(c:Int):MR:=λV R=>IR (c-1)/\R (rT #[K.cast .f a,uP b,uI (c-1)]) V
theorem s288e{a:Value}{b:Option Addr}{c:Int}{V:Mem}{R:KZ}(h:w288e a b c V (OV R)):Bb xE 19 c288e [(0,K.cast .f a),(1,uP b),(3,uI c)] [0,1,3] V R:=
 CU (H:=hK 19) [(0,(.var .f 0)),(1,(.var .p 1)),(3,(.var (.i .i64) 2))] [a,uP b,uI c] rfl (by kernel_rfl) h
noncomputable def c166a:List Code:=((Bi (AN wP) []).drop 0).take 1
def w166a(a:Value)(b:Option Addr):MR:=λV R=>∃c,V.rowp b ((0:Int).toNat*1) 1=some [uL c]/\IR ((c.n:Int)-1)/\R (rT #[K.cast .f a,uP b,uI ((c.n:Int)-1)]) V
theorem s166a{a:Value}{b:Option Addr}{V:Mem}{R:KZ}(h:w166a a b V (OV R)):Bb xE 19 c166a [(0,K.cast .f a),(1,uP b)] [0,1,3] V R:=
 CU (H:=hK 19) [(0,(.var .f 0)),(1,(.var .p 1))] [a,uP b] rfl (by kernel_rfl) h
noncomputable def c166b:List Code:=((Bi (AN wP) [1,0,0,0]).drop 0).take 1
def w166b(a:Value)(b:Option Addr)(c:Int):MR:=λV R=>R (rT #[K.cast .f a,uP b,uI c,uB (decide (0<=c))]) V
theorem s166b{a:Value}{b:Option Addr}{c:Int}{V:Mem}{R:KZ}(h:w166b a b c V (OV R)):Bb xE 19 c166b [(0,K.cast .f a),(1,uP b),(3,uI c)] [0,1,3,8] V R:=
 CU (H:=hK 19) [(0,(.var .f 0)),(1,(.var .p 1)),(3,(.var (.i .i64) 2))] [a,uP b,uI c] rfl (by kernel_rfl) h
noncomputable def c166c:Array Oper:=Eg ((Bi (AN wP) [1,0,0,0,2,0]).getD 0 .skip)
def w166c(a:Value)(b:Option Addr)(c:Int):MR:=λV R=>∃d,V.rowp b ((0:Int).toNat*1) 1=some [uL d]/\Ix d c (∃g i,V.rowp d.p (c.toNat*2) 2=some [uS g,uL i]/\R (rT #[K.cast .f a,uP b,uI c,K.cast .f a,uI c,uA #[uS g,uL i]]) V)
theorem s166c{a:Value}{b:Option Addr}{c:Int}{V:Mem}{R:KZ}(h:w166c a b c V (OV R)):Ay xE 19 c166c 0 6 [(0,K.cast .f a),(1,uP b),(3,uI c)] [0,1,3,11,12,16] V R:=
 AE (H:=hK 19) [(0,(.var .f 0)),(1,(.var .p 1)),(3,(.var (.i .i64) 2))] [a,uP b,uI c] rfl (by kernel_rfl) h
noncomputable def c166d:Array Oper:=Eg ((Bi (AN wP) [1,0,0,0,2,0]).getD 0 .skip)
def w166d(a:Value)(b:Option Addr)(c:Int)(d:Bool):MR:=λV R=>R (rT #[K.cast .f a,uP b,uI c,uB (!d)]) V
theorem s166d{a:Value}{b:Option Addr}{c:Int}{d:Bool}{V:Mem}{R:KZ}(h:w166d a b c d V (OV R)):Ay xE 19 c166d 7 1 [(0,K.cast .f a),(1,uP b),(3,uI c),(17,uB d)] [0,1,3,18] V R:=
 AE (H:=hK 19) [(0,(.var .f 0)),(1,(.var .p 1)),(3,(.var (.i .i64) 2)),(17,(.var .b 3))] [a,uP b,uI c,uB d] rfl (by kernel_rfl) h
noncomputable def c166e:List Code:=((Bi (AN wP) [1,0,0,0]).drop 3).take 1
def w166e(a:Value)(b:Option Addr)(c:Int):MR:=λV R=>IR (c-1)/\R (rT #[K.cast .f a,uP b,uI (c-1)]) V
theorem s166e{a:Value}{b:Option Addr}{c:Int}{V:Mem}{R:KZ}(h:w166e a b c V (OV R)):Bb xE 19 c166e [(0,K.cast .f a),(1,uP b),(3,uI c)] [0,1,3] V R:=
 CU (H:=hK 19) [(0,(.var .f 0)),(1,(.var .p 1)),(3,(.var (.i .i64) 2))] [a,uP b,uI c] rfl (by kernel_rfl) h
noncomputable def c167a:List Code:=((Bi (AN wQ) []).drop 0).take 1
def w167a(a:Value)(b:Option Addr):MR:=λV R=>∃c,V.rowp b ((0:Int).toNat*1) 1=some [uL c]/\IR ((c.n:Int)-1)/\R (rT #[K.cast .f a,uP b,uI ((c.n:Int)-1)]) V
theorem s167a{a:Value}{b:Option Addr}{V:Mem}{R:KZ}(h:w167a a b V (OV R)):Bb xE 19 c167a [(0,K.cast .f a),(1,uP b)] [0,1,3] V R:=
 CU (H:=hK 19) [(0,(.var .f 0)),(1,(.var .p 1))] [a,uP b] rfl (by kernel_rfl) h
noncomputable def c167b:List Code:=((Bi (AN wQ) [1,0,0,0]).drop 0).take 1
def w167b(a:Value)(b:Option Addr)(c:Int):MR:=λV R=>R (rT #[K.cast .f a,uP b,uI c,uB (decide (0<=c))]) V
theorem s167b{a:Value}{b:Option Addr}{c:Int}{V:Mem}{R:KZ}(h:w167b a b c V (OV R)):Bb xE 19 c167b [(0,K.cast .f a),(1,uP b),(3,uI c)] [0,1,3,8] V R:=
 CU (H:=hK 19) [(0,(.var .f 0)),(1,(.var .p 1)),(3,(.var (.i .i64) 2))] [a,uP b,uI c] rfl (by kernel_rfl) h
noncomputable def c167c:Array Oper:=Eg ((Bi (AN wQ) [1,0,0,0,2,0]).getD 0 .skip)
def w167c(a:Value)(b:Option Addr)(c:Int):MR:=λV R=>∃d,V.rowp b ((0:Int).toNat*1) 1=some [uL d]/\Ix d c (∃g i j k l,V.rowp d.p (c.toNat*5) 5=some [uS g,uL i,uS j,uL k,uL l]/\R (rT #[K.cast .f a,uP b,uI c,K.cast .f a,uI c,uA #[uS g,uL i,uS j,uL k,uL l]]) V)
theorem s167c{a:Value}{b:Option Addr}{c:Int}{V:Mem}{R:KZ}(h:w167c a b c V (OV R)):Ay xE 19 c167c 0 6 [(0,K.cast .f a),(1,uP b),(3,uI c)] [0,1,3,11,12,16] V R:=
 AE (H:=hK 19) [(0,(.var .f 0)),(1,(.var .p 1)),(3,(.var (.i .i64) 2))] [a,uP b,uI c] rfl (by kernel_rfl) h
noncomputable def c167d:Array Oper:=Eg ((Bi (AN wQ) [1,0,0,0,2,0]).getD 0 .skip)
def w167d(a:Value)(b:Option Addr)(c:Int)(d:Bool):MR:=λV R=>R (rT #[K.cast .f a,uP b,uI c,uB (!d)]) V
theorem s167d{a:Value}{b:Option Addr}{c:Int}{d:Bool}{V:Mem}{R:KZ}(h:w167d a b c d V (OV R)):Ay xE 19 c167d 7 1 [(0,K.cast .f a),(1,uP b),(3,uI c),(17,uB d)] [0,1,3,18] V R:=
 AE (H:=hK 19) [(0,(.var .f 0)),(1,(.var .p 1)),(3,(.var (.i .i64) 2)),(17,(.var .b 3))] [a,uP b,uI c,uB d] rfl (by kernel_rfl) h
noncomputable def c167e:List Code:=((Bi (AN wQ) [1,0,0,0]).drop 3).take 1
def w167e(a:Value)(b:Option Addr)(c:Int):MR:=λV R=>IR (c-1)/\R (rT #[K.cast .f a,uP b,uI (c-1)]) V
theorem s167e{a:Value}{b:Option Addr}{c:Int}{V:Mem}{R:KZ}(h:w167e a b c V (OV R)):Bb xE 19 c167e [(0,K.cast .f a),(1,uP b),(3,uI c)] [0,1,3] V R:=
 CU (H:=hK 19) [(0,(.var .f 0)),(1,(.var .p 1)),(3,(.var (.i .i64) 2))] [a,uP b,uI c] rfl (by kernel_rfl) h
noncomputable def c228a:List Code:=((Bi (AN wR) []).drop 0).take 3
def w228a(a:Option Addr)(b:Bool)(c:Sl):MR:=λV R=>GenK xE (.makeMap 286 none) 286 (gv []) V λx V1=>∃d,x=uM d/\N2 a (¬(Aa a 0)=none/\∃g,V1.rowp a 2 1=some [uL g]/\TT 259 #[uL g] V1 λe V2=>∃i,K.f.ok i/\e=rV i/\Ag [uP none,uM none,uB false] 288 V2 λj h=>Ag [uP a,uM d,uB b] 288 h λk u=>R (rT #[uP a,uB b,uL c,uP (Aa j 0),uP (Aa k 0),K.cast .f i]) u)
theorem s228a{a:Option Addr}{b:Bool}{c:Sl}{V:Mem}{R:KZ}(h:w228a a b c V (OV R)):Bb xE 63 c228a [(0,uP a),(1,uB b),(2,uL c)] [0,1,2,6,7,24] V R:=
 CU (H:=hK 63) [(0,(.var .p 0)),(1,(.var .b 1)),(2,(.var .sl 2))] [uP a,uB b,uL c] rfl (by kernel_rfl) h
noncomputable def c228b:List Code:=((Bi (AN wR) [3,0,0,0]).drop 0).take 1
def w228b(a:Option Addr)(b c:KB):MR:=λV R=>Ag [uS b,uS c] 112 V λd V1=>R (rT #[uP a,uP (Aa d 0)]) V1
theorem s228b{a:Option Addr}{b c:KB}{V:Mem}{R:KZ}(h:w228b a b c V (OV R)):Bb xE 63 c228b [(7,uP a),(26,uA #[uS b,uS c])] [7,9] V R:=
 CU (H:=hK 63) [(7,(.var .p 0)),(26,(.agg (.cons (.var .s 1) (.cons (.var .s 2) .nil))))] [uP a,uS b,uS c] rfl (by kernel_rfl) h
noncomputable def c228c:List Code:=((Bi (AN wR) [3,0,0,1]).drop 0).take 1
def w228c(a b:Option Addr):MR:=λV R=>¬a=none/\∃c,V.rowp a 1 1=some [uM c]/\¬b=none/\∃d,V.rowp b ((0:Int).toNat*1) 1=some [uS d]/\¬b=none/\∃g,V.rowp b 1 1=some [uS g]/\C3 xE 286 (uM c) (uS d) (uS g) V λV1=>R (rT #[]) V1
theorem s228c{a b:Option Addr}{V:Mem}{R:KZ}(h:w228c a b V (OV R)):Bb xE 63 c228c [(7,uP a),(9,uP b)] [] V R:=
 CU (H:=hK 63) [(7,(.var .p 0)),(9,(.var .p 1))] [uP a,uP b] rfl (by kernel_rfl) h
noncomputable def c228d:List Code:=((Bi (AN wR) []).drop 4).take 4
def w228d(a:Option Addr)(b:Bool)(c:Sl)(d g:Option Addr):MR:=λV R=>GenK xE (.makeMap 354 none) 354 (gv []) V λx V1=>∃i,x=uM i/\Lp [uI 0] V1 λI n V2=>∀j,I n [uI j] V2->∀u:LMP,Nx I n u->Br (j<(c.n:Int)) (Ix c j (∃k,V2.rowp c.p (j.toNat*1) 1=some [uL k]/\Lp [uI 0] V2 λI n h=>∀l,I n [uI l] h->∀f:LMP,Nx I n f->Br (l<(k.n:Int)) (Ix k l (∃o p,h.rowp k.p (l.toNat*2) 2=some [uS o,uS p]/\BJ xE 354 (uM i) (uS o) false h λx=>∃q,x=uB q/\Br (q=true) (IR (l+1)/\f [uI (l+1)] h) (¬g=none/\∃r,h.rowp g 1 1=some [uM r]/\C3 xE 286 (uM r) (uS o) (uS p) h λw=>C3 xE 354 (uM i) (uS o) (.bool true) w λy=>IR (l+1)/\f [uI (l+1)] y))) (IR (j+1)/\u [uI (j+1)] h))) (∃k l o,V2.rowp g ((0:Int).toNat*1) 3=some [uP k,uM l,uB o]/\Ao d 0 [uP k,uM l,uB o] V2 λh=>R (rT #[uP d]) h)
theorem s228d{a:Option Addr}{b:Bool}{c:Sl}{d g:Option Addr}{V:Mem}{R:KZ}(h:w228d a b c d g V (OV R)):Bb xE 63 c228d [(0,uP a),(1,uB b),(2,uL c),(6,uP d),(7,uP g)] [6] V R:=
 CU (H:=hK 63) [(0,(.var .p 0)),(1,(.var .b 1)),(2,(.var .sl 2)),(6,(.var .p 3)),(7,(.var .p 4))] [uP a,uB b,uL c,uP d,uP g] rfl (by kernel_rfl) h
noncomputable def c73a:List Code:=((Bi (AN wS) []).drop 0).take 3
def w73a(a:KB)(b c d g i j k:Sl):MR:=λV R=>GenK xE (.makeMap 215 none) 215 (gv []) V λx V1=>∃l,x=uM l/\GenK xE (.makeMap 216 none) 216 (gv []) V1 λx V2=>∃o,x=uM o/\TT 115 #[uL b] V2 λe h=>∃p,K.f.ok p/\e=rV p/\Ag [uS a,uL b,uL c,uL d,uL g,uL i,uL j,uL k] 35 h λq u=>Ag [uS a,uL b,uL c,uL d,uL g,uL i,uL j,uL k,uM l,uM o] 218 u λr w=>Ag [uP (Aa r 0)] 158 w λs y=>R (rT #[uP (Aa q 0),uP (Aa s 0),K.cast .f p]) y
theorem s73a{a:KB}{b c d g i j k:Sl}{V:Mem}{R:KZ}(h:w73a a b c d g i j k V (OV R)):Bb xE 38 c73a [(0,uD a b c d g i j k)] [1,3,15] V R:=
 CU (H:=hK 38) [(0,(.agg (.cons (.var .s 0) (.cons (.var .sl 1) (.cons (.var .sl 2) (.cons (.var .sl 3) (.cons (.var .sl 4) (.cons (.var .sl 5) (.cons (.var .sl 6) (.cons (.var .sl 7) .nil))))))))))] [uS a,uL b,uL c,uL d,uL g,uL i,uL j,uL k] rfl (by kernel_rfl) h
noncomputable def c73b:List Code:=((Bi (AN wS) [3,0,0,0]).drop 0).take 1
def w73b(a:Option Addr)(b:KB)(c:Sl):MR:=λV R=>Ag [uS b,uL c] 114 V λd V1=>R (rT #[uP a,uP (Aa d 0)]) V1
theorem s73b{a:Option Addr}{b:KB}{c:Sl}{V:Mem}{R:KZ}(h:w73b a b c V (OV R)):Bb xE 38 c73b [(3,uP a),(17,uA #[uS b,uL c])] [3,5] V R:=
 CU (H:=hK 38) [(3,(.var .p 0)),(17,(.agg (.cons (.var .s 1) (.cons (.var .sl 2) .nil))))] [uP a,uS b,uL c] rfl (by kernel_rfl) h
noncomputable def c73c:List Code:=((Bi (AN wS) [3,0,0,1]).drop 0).take 1
def w73c(a b:Option Addr):MR:=λV R=>∃c,V.rowp a ((0:Int).toNat*1) 1=some [uP c]/\N2 c (∃d,V.rowp c 8 1=some [uM d]/\¬b=none/\∃g,V.rowp b ((0:Int).toNat*1) 1=some [uS g]/\∃i j,V.rowp b ((0:Int).toNat*1) 2=some [uS i,uL j]/\C3 xE 215 (uM d) (uS g) (uA #[uS i,uL j]) V λV1=>R (rT #[]) V1)
theorem s73c{a b:Option Addr}{V:Mem}{R:KZ}(h:w73c a b V (OV R)):Bb xE 38 c73c [(3,uP a),(5,uP b)] [] V R:=
 CU (H:=hK 38) [(3,(.var .p 0)),(5,(.var .p 1))] [uP a,uP b] rfl (by kernel_rfl) h
noncomputable def c73d:List Code:=((Bi (AN wS) []).drop 4).take 1
def w73d(a b:Option Addr):MR:=λV R=>¬a=none/\∃c,V.rowp a 3 1=some [uL c]/\TT 116 #[uL c] V λe V1=>∃d,K.f.ok d/\e=rV d/\R (rT #[uP b,K.cast .f d]) V1
theorem s73d{a b:Option Addr}{V:Mem}{R:KZ}(h:w73d a b V (OV R)):Bb xE 38 c73d [(1,uP a),(3,uP b)] [3,27] V R:=
 CU (H:=hK 38) [(1,(.var .p 0)),(3,(.var .p 1))] [uP a,uP b] rfl (by kernel_rfl) h
noncomputable def c73e:List Code:=((Bi (AN wS) [5,0,0,0]).drop 0).take 1
def w73e(a:Option Addr)(b:KB)(c:Sl)(d:KB)(g i:Sl):MR:=λV R=>Ag [uS b,uL c,uS d,uL g,uL i] 76 V λj V1=>R (rT #[uP a,uP (Aa j 0)]) V1
theorem s73e{a:Option Addr}{b:KB}{c:Sl}{d:KB}{g i:Sl}{V:Mem}{R:KZ}(h:w73e a b c d g i V (OV R)):Bb xE 38 c73e [(3,uP a),(29,uA #[uS b,uL c,uS d,uL g,uL i])] [3,7] V R:=
 CU (H:=hK 38) [(3,(.var .p 0)),(29,(.agg (.cons (.var .s 1) (.cons (.var .sl 2) (.cons (.var .s 3) (.cons (.var .sl 4) (.cons (.var .sl 5) .nil)))))))] [uP a,uS b,uL c,uS d,uL g,uL i] rfl (by kernel_rfl) h
noncomputable def c73f:List Code:=((Bi (AN wS) [5,0,0,1]).drop 0).take 1
def w73f(a b:Option Addr):MR:=λV R=>∃c,V.rowp a ((0:Int).toNat*1) 1=some [uP c]/\N2 c (∃d,V.rowp c 9 1=some [uM d]/\¬b=none/\∃g,V.rowp b ((0:Int).toNat*1) 1=some [uS g]/\∃i j k l o,V.rowp b ((0:Int).toNat*1) 5=some [uS i,uL j,uS k,uL l,uL o]/\C3 xE 216 (uM d) (uS g) (uA #[uS i,uL j,uS k,uL l,uL o]) V λV1=>R (rT #[]) V1)
theorem s73f{a b:Option Addr}{V:Mem}{R:KZ}(h:w73f a b V (OV R)):Bb xE 38 c73f [(3,uP a),(7,uP b)] [] V R:=
 CU (H:=hK 38) [(3,(.var .p 0)),(7,(.var .p 1))] [uP a,uP b] rfl (by kernel_rfl) h
noncomputable def c73g:List Code:=((Bi (AN wS) []).drop 6).take 1
def w73g(a:Option Addr):MR:=λV R=>∃b,V.rowp a ((0:Int).toNat*1) 1=some [uP b]/\R (rT #[uP b]) V
theorem s73g{a:Option Addr}{V:Mem}{R:KZ}(h:w73g a V (OV R)):Bb xE 38 c73g [(3,uP a)] [2] V R:=
 CU (H:=hK 38) [(3,(.var .p 0))] [uP a] rfl (by kernel_rfl) h
end
end Go.Proofs
namespace Go.Sx
open Go
section
variable{P:Program}
def Has(N:Nat)(a:Act)(l:List (Nat×Value)):Prop:=a.tmps.size=N/\∀s v,l.lookup s=some v->a.tmps.getD s undef=v
theorem Bb.step{r:Option Nat}{n N:Nat}{Q:Exit->Act->World->Prop}{cs rest:List Code}{f:List (Nat×Value)}{g:List Nat}{V:Mem}{R:KZ}{a:Act}{w:World}(h:Bb P N cs f g V R)(x:V.le w)(y:Has N a f)
  (k:∀u w' vs V',u.defers=a.defers->Has N u (g.zip vs)->R vs V'->Ax V w V' w'->C7 r n P Q rest u w'):C7 r n P Q (cs++rest) a w:=by
 refine Oy (G6 ?_ (h r n a w x y.1 y.2));rintro e u w' ⟨rfl,h1,h2,vs,V',h3,h4,j⟩;exact k u w' vs V' h1 ⟨h2,h3⟩ h4 j
theorem Ay.step{r:Option Nat}{n N k m:Nat}{Q:Exit->Act->World->Prop}{ops:Array Oper}{rest:List Nat}{f:List (Nat×Value)}{g:List Nat}{V:Mem}{R:KZ}{a:Act}{w:World}(h:Ay P N ops k m f g V R)(j:V.le w)(x:Has N a f)
  (l:∀u w' vs V',u.defers=a.defers->Has N u (g.zip vs)->R vs V'->Ax V w V' w'->wpOpsIn (AM r) n P ops Q rest u w'):wpOpsIn (AM r) n P ops Q (wC k m++rest) a w:=by
 refine QR (λc a w y=>by cases y.1) (λ⟨_,_,y⟩=>by cases y.1) ?_ (h r n a w j x.1 x.2);rintro u w' ⟨_,h1,h2,vs,V',h3,h4,q⟩;exact l u w' vs V' h1 ⟨h2,h3⟩ h4 q
theorem yield_op{ops:Array Oper}{i:Nat}{o:Oper}{c:Call}{fv:Operand}{l:Nat}{g:Loop}{args:Array Value}{rest:List Nat}{Q:Exit->Act->World->Prop}{a:Act}{w:World}(x:ops[i]?=some o)(j:o.guard=none)(y:o.op=.call c)(m:c.callee=.value fv)
  (q:a.eval fv=.func (.yield l) #[] #[]) (f:c.args.map a.eval=args) (J:w.heap[l]?=some (.loop g)) (G:args.size=g.params.size)
  (b:RoundIn (AM none) 0 P l g.fn ((g.params.zip args).foldl (λt (p,v)=>t.setIfInBounds p v) g.tmps) g.assign g.body w λe w'=>∃v,e=.returned v/\wpOpsIn (AM none) 0 P ops Q rest (a.put o.dst v) w'):
  wpOpsIn (AM none) 0 P ops Q (i::rest) a w:=by
 rw[wpOpsIn_cons];unfold wpOpIn;simp only[x];rw[if_pos (by simp[Region.wanted,j])];refine⟨λ_ _=>trivial,?_⟩;rw[Oper.semAt_eq _ _ _ (λd=>by simp_all)];have u:(execOp a.eval o).run P w=.ok (.round l g.fn ((g.params.zip args).foldl (λt (p,v)=>t.setIfInBounds p v) g.tmps) g.assign g.body) w:=by
  unfold execOp;simp only[y,resolve,m,q,f,Deferred.ofValue,zK,zM,zL,invoke];grind[run_yield]
 rw[u];refine⟨λh=>by simp[AM,wB]at h,b.mono ?_⟩;simp_all
theorem Has.get{N:Nat}{a:Act}{l:List (Nat×Value)}(h:Has N a l){s:Nat}{v:Value}(g:l.lookup s=some v):a.tmps.getD s undef=v:=h.2 s v g
theorem MU{f:FuncId}{fn:Func}{c L B:Code}{b0 b1 id:Nat}{cA cB cE:List Code}{ops:Array Oper}{o6:Oper}{at6:Array TypeId}{fn':FuncId}{tmps:Array Value}{ps:Array Tmp}{assign body:Code}{D:Nat}{l:Nat}{box:Option Addr}{n:Nat}{el:Nat->Value}{J:Nat->Mem->Prop}{Bk:Mem->Prop}{V:Mem}
  (hf:P.funcs[f]?=some fn) (hb:fn.body=some c) (e1:flat c=cA++[.block b0 (.loop L)]) (e2:flat L=cB++([.cond (.tmp 8) .skip (.exit b0),.block b1 B]++cE)) (e3:flat B=[.region id ops false,.cond (.tmp 18) .ret .skip])
  (ho:ops[6]?=some o6) (U:o6.guard=none) (hop:o6.op=.call {callee:=.value (.tmp 11),args:=#[.tmp 12,.tmp 16],argTypes:=at6}) (A:o6.dst=some 17) (hsz:ops.size=8) (I:fn.results=#[]) (hN:fn.ntmps=19) (hps:ps.size=2)
  (hA:∀M,Bk M->Bb P 19 cA [(0,.func (.yield l) #[] #[]),(1,.pointer box)] [0,1,3] M λvs V'=>V'=M/\vs=[.func (.yield l) #[] #[],.pointer box,.int .i64 ((n:Int)-1)])
  (hB:∀M (j:Int),Bb P 19 cB [(0,.func (.yield l) #[] #[]),(1,.pointer box),(3,.int .i64 j)] [0,1,3,8] M λvs V'=>V'=M/\vs=[.func (.yield l) #[] #[],.pointer box,.int .i64 j,.bool (decide (0<=j))])
  (hC:∀M (k:Nat),Bk M->k<n->Ay P 19 ops 0 6 [(0,.func (.yield l) #[] #[]),(1,.pointer box),(3,.int .i64 k)] [0,1,3,11,12,16] M λvs V'=>V'=M/\vs=[.func (.yield l) #[] #[],.pointer box,.int .i64 k,.func (.yield l) #[] #[],.int .i64 k,el k])
  (hD:∀M (j:Int) (b:Bool),Ay P 19 ops 7 1 [(0,.func (.yield l) #[] #[]),(1,.pointer box),(3,.int .i64 j),(17,.bool b)] [0,1,3,18] M λvs V'=>V'=M/\vs=[.func (.yield l) #[] #[],.pointer box,.int .i64 j,.bool (!b)])
  (hE:∀M (j:Int),Bk M->0<=j->j<n->Bb P 19 cE [(0,.func (.yield l) #[] #[]),(1,.pointer box),(3,.int .i64 j)] [0,1,3] M λvs V'=>V'=M/\vs=[.func (.yield l) #[] #[],.pointer box,.int .i64 (j-1)])
  (hJ:∀i V2,J i V2->V2 l=none->Bk (V2.set l (.loop (BG fn' tmps ps assign body D))))
  (y:∀k,k<n->∀V2,J (n-1-k) V2->V2 l=none->∀w,(V2.set l (.loop (BG fn' tmps ps assign body D))).le w->
   RoundIn (AM none) 0 P l fn' ((ps.zip #[.int .i64 k,el k]).foldl (λt (p,v)=>t.setIfInBounds p v) tmps) assign body w λe w'=>
    e=.returned (.bool true)/\∃T,J (n-k) T/\T l=none/\Ax (V2.set l (.loop (BG fn' tmps ps assign body D))) w (T.set l (.loop (BG fn' tmps ps assign body D))) w')
  (h0:J 0 V) (hl:V l=none):
  Tri P f #[.func (.yield l) #[] #[],.pointer box] (V.set l (.loop (BG fn' tmps ps assign body D))) λe V'=>(∃v,e=.returned v)/\∃V2,V'=V2.set l (.loop (BG fn' tmps ps assign body D))/\V2 l=none/\J n V2:=by
 intro w hV;refine(callsIn_wide (n:=0)).1 (callsIn_of_wp (F:=AM none) hf hb trivial (Hv ?_) rfl);rw[e1];have hH0:Has 19 {tmps:=#[.func (.yield l) #[] #[],.pointer box]++wE (fn.ntmps-(#[Value.func (.yield l) #[] #[],.pointer box]).size) undef,defers:=[]} [(0,.func (.yield l) #[] #[]),(1,.pointer box)]:=by
  constructor;·simp[hN]
  ·intro s v h;simp only[zd]at h;split at h;·simp_all
   ·split at h;·simp_all
    ·cases h
 refine(hA _ (hJ 0 V h0 hl)).step hV hH0 ?_;rintro a1 w1 vs V1 hd1 hH1 ⟨rfl,rfl⟩ hF1;refine wpIn_block ?_;refine Ox (λm a w'=>∃(i:Nat)(V2:Mem),i<=n/\m=n-i/\J i V2/\V2 l=none/\a.defers=[]/\Has 19 a [(0,.func (.yield l) #[] #[]),(1,.pointer box),(3,.int .i64 ((n:Int)-1-i))]/\
  Ax (V.set l (.loop (BG fn' tmps ps assign body D))) w (V2.set l (.loop (BG fn' tmps ps assign body D))) w') ⟨n,0,V,by omega,rfl,h0,hl,hd1,by simpa using hH1,hF1⟩ ?_
 rintro m a2 w2 ⟨i,V2,hi,rfl,X,x,hd2,hH2,q⟩;refine Hv ?_;rw[e2];refine(hB _ _).step q.le hH2 ?_;rintro a3 w3 vs T hd3 o ⟨rfl,rfl⟩ d;have u:a3.eval (.tmp 8)=.bool (decide (0<=(n:Int)-1-i)):=o.get rfl;show wG (AM none) 0 P _ _ a3 w3;by_cases hlt:i<n
 ·have G:decide (0<=(n:Int)-1-i)=true:=by simp;omega
  rw[G]at u;refine wpIn_cond_true u (wpIn_skip ?_);show wG (AM none) 0 P _ _ a3 w3;refine wpIn_block (Hv ?_);rw[e3];have hk:((n:Int)-1-i)=((n-1-i:Nat):Int):=by omega
  have C:Has 19 a3 [(0,.func (.yield l) #[] #[]),(1,.pointer box),(3,.int .i64 ((n-1-i:Nat):Int))]:=⟨o.1,λs v h=>o.2 s v (by
   grind[wH])⟩
  refine wpIn_region ?_;rw[hsz,show List.range 8=wC 0 6++[6,7]from rfl];refine(hC _ (n-1-i) (hJ _ _ X x) (by omega)).step d.le C ?_;rintro N w4 vs V4 hd4 g ⟨rfl,rfl⟩ Z;have hl4:w4.heap[l]?=some (.loop (BG fn' tmps ps assign body D)):=Z.le _ _ (Mem.set_same _ _ _);refine yield_op (args:=#[.int .i64 ((n-1-i:Nat):Int),el (n-1-i)]) ho U hop rfl (g.get rfl) ?_ hl4 (by simp[BG,hps]) ?_
  ·have g1:N.eval (.tmp 12)=.int .i64 ((n-1-i:Nat):Int):=g.get rfl;have g2:N.eval (.tmp 16)=el (n-1-i):=g.get rfl;simp[g1,g2]
  refine(y (n-1-i) (by omega) V2 (by grind) x w4 Z.le).mono ?_;rintro e w5 ⟨rfl,V5,hJ5,E,K⟩;refine⟨_,rfl,?_⟩;rw[A];have hlt17:(17:Nat)<N.tmps.size:=by rw[g.1];decide
  have hH5:Has 19 (N.put (some 17) (.bool true)) [(0,.func (.yield l) #[] #[]),(1,.pointer box),(3,.int .i64 ((n-1-i:Nat):Int)),(17,.bool true)]:=by
   refine⟨by simp[Act.put,g.1],λs v h=>?_⟩;have other:∀s,s≠17->(N.put (some 17) (.bool true)).tmps.getD s undef=N.tmps.getD s undef:=λs h=>by
    simp[Act.put,wT,Array.getElem?_setIfInBounds_ne (Ne.symm h)]
   simp only[zd]at h;split at h;·rename_i e;simp only[beq_iff_eq]at e;subst e;cases h;rw[other _ (by decide)];exact g.get rfl
   ·split at h;·rename_i e;simp only[beq_iff_eq]at e;subst e;cases h;rw[other _ (by decide)];exact g.get rfl
    ·split at h;·rename_i e;simp only[beq_iff_eq]at e;subst e;cases h;rw[other _ (by decide)];exact g.get rfl
     ·split at h;·simp_all[beq_iff_eq,Act.put,wT]
      ·cases h
  rw[show[7]=wC 7 1++[]from rfl];refine(hD _ _ true).step K.le hH5 ?_;rintro a6 w6 vs V6 hd6 Y ⟨rfl,rfl⟩ S;show wG (AM none) 0 P (.cond (.tmp 18) .ret .skip) _ a6 w6;refine wpIn_cond_false (Y.get rfl) (wpIn_skip ?_);rw[<-wA cE];refine(hE _ ((n-1-i:Nat):Int) (hJ _ _ hJ5 E) (by omega) (by omega)).step S.le ⟨Y.1,λs v h=>Y.2 s v ?_⟩ ?_;·grind[wH]
  rintro a7 w7 vs V7 hd7 hH7 ⟨rfl,rfl⟩ hF7;refine⟨n-(i+1),by omega,i+1,V5,by omega,rfl,?_,E,?_,?_,?_⟩;·grind
  ·rw[hd7,hd6];show N.defers=[];grind
  ·rw[show(n:Int)-1-((i+1:Nat):Int)=((n-1-i:Nat):Int)-1 by omega];exact hH7
  ·exact((((q.trans d).trans Z).trans K).trans S).trans hF7
 ·have hin:i=n:=by omega
  subst hin;have G:decide (0<=(i:Int)-1-i)=false:=by simp;omega
  rw[G]at u;refine wpIn_cond_false u (wpIn_exit ?_);show(if b0=b0 then _ else _);rw[if_pos rfl];refine⟨?_,_,results_none I _ _ _,_,⟨⟨_,rfl⟩,V2,rfl,x,X⟩,q.trans d⟩;rw[hd3,hd2]
end
end Go.Sx
