/- Part 12 of a proof of a law of this seat: no statement of the seat is proved here. -/
import Derived.Test.YtmeagdecjpknkaaGreatDoorPp04
import Derived.Laws.MakeOwn
import Derived.Test.YtmeagdecjpknkaaGreatDoorPp11
import Derived.OrdersIn
import Derived.OwnWalkIn
import Derived.RangeFuncRecord
import Derived.Tactics
import Derived.TacticsIn
import Derived.RangeFuncNested
set_option linter.unusedVariables false
set_option linter.unusedSimpArgs false
namespace Go.Sx
open Go
section
variable{P:Program}{V0 V:Mem}{t e ty tc:TypeId}{i:TypeInfo}{z:Value}{sz:Nat}{k:IntKind}
theorem Frm.made{V:Mem}{w:World}(hw:V.le w)(o:Obj):V w.heap.size=none/\Frm V w (V.set w.heap.size o) (w.alloc o):=by
 have hn:V w.heap.size=none:=by
  cases h:V w.heap.size with
  | none=>rfl
  | some x =>
   have:=(Array.getElem?_eq_some_iff.1 (hw _ _ h)).1
   omega
 refine⟨hn,⟨by simp,fun b x hb=>?_,fun b hb _=>(by grind [heap_alloc_old]),fun b hb=>?_,rfl,rfl⟩⟩
 ·unfold Mem.set at hb
  split at hb
  ·grind [heap_alloc_new]
  ·have hlt:=(Array.getElem?_eq_some_iff.1 (hw _ _ hb)).1
   first|exact(heap_alloc_old w o b hlt).trans (hw _ _ hb) | exact(heap_alloc_old w o hlt).trans (hw _ _ hb)
 grind [Mem.set,inr]
theorem GenK.make(ht:P.underlying t=some (.slice e))(hi:P.info? e=some i)(hz:i.zero=some z)(hsize:i.size=sz)(hby:i.bytes<=65536){x y:Operand}{vals:Operand->Value}{n:Nat}(hx:vals x=.int .i64 n)(hy:vals y=.int .i64 n)(hn:n<=2147483648){q:Value->Mem->Prop}
  (hq:∀g,V g=none->q (.slice (some ⟨g,0,none⟩) n n) (V.set g (.cells (madeCells z.cells (n*sz)) e (0,0)))):GenK P (.makeSlice t x y) ty vals V q:=by
 intro w hw
 subst hsize
 have hb:(i.bytes:Int)*(n:Int)<=281474976710656:=by
  have:i.bytes*n<=65536*2147483648:=Nat.mul_le_mul hby hn
  omega
 have hr:=run_make (P:=P) w t e i z ht hi hz .i64 .i64 n n (by omega) (Int.le_refl _) hb (by omega)
 grind [Int.toNat_natCast,Frm.made,madeCells,execOp,Sem.run_bind,Sem.run_pure,Result.andThen_ok]
theorem zeros_one(hz1:z.cells.size=sz)(h1:∀u∈z.cells.toList,u.oneCell'=true)(n:Nat)(h0:0<sz):∀u∈(Builtin.zeroCells z.cells n).toList,u.oneCell'=true:=fun u hu=>by
 unfold Builtin.zeroCells at hu
 simp only[Array.toList_map,List.mem_map]at hu
 obtain⟨j,-,rfl⟩:=hu
 grind [Nat.mod_lt]
theorem qHh{w:World}(ht:P.underlying t=some (.slice e))(hc:P.underlying tc=some (.int k))(hi:P.info? e=some i)(hz:i.zero=some z)(h0:0<i.size)(hzs:z.cells.size=i.size)(h1:∀u∈z.cells.toList,u.oneCell'=true)
  (g sLen sCap:Nat) (cur:Array Value) (hg:w.heap[g]?=some (.cells cur e (0,0))) (n:Nat) (hn:0<n) (hb:n*i.bytes<=281474976710656) (hn2:n<=2147483648) (hroom:sLen+n<=sCap) (hfit:sLen*i.size+n*i.size<=cur.size) :
  (Builtin.append_ #[t,tc] ty #[.slice (some ⟨g,0,none⟩) sLen sCap,.int .i64 n]).run P w =
   .ok (.slice (some ⟨g,0,none⟩) (sLen+n) sCap) (w.setRow g (cur.toList.take (sLen*i.size)++(Builtin.zeroCells z.cells n).toList++cur.toList.drop (sLen*i.size+(Builtin.zeroCells z.cells n).toList.length)).toArray):=by
 have hl:(Builtin.zeroCells z.cells n).toList.length=n*i.size:=by rw[Array.length_toList,size_zeroCells,hzs]
 have hst:=run_storeCells_at P g (sLen*i.size) e (Builtin.zeroCells z.cells n).toList 0 cur w hg (by omega) (zeros_one hzs h1 n h0)
 simp only[Nat.add_zero]at hst
 have wl:IntKind.i64.wrap (n:Int)=n:=by rw[IntKind.wrap_i64];omega
 have n1:¬((n:Int)<0):=by omega
 have n2:¬(281474976710656<(n:Int)*(i.bytes:Int)):=by
  omega
 have n3:¬(n*i.size=0):=Nat.ne_of_gt (Nat.mul_pos hn h0)
 simp[Builtin.append_,run_underlying ht,run_underlying hc,asInt,asIntOf,sizeOf,typeInfo,hi,zeroValue,hz,wl,n1,n2,hroom,Addr.add_lit,hst]
 omega
theorem qDX{w:World}(ht:P.underlying t=some (.slice e))(hc:P.underlying tc=some (.int k))(hi:P.info? e=some i)(hz:i.zero=some z)(h0:0<i.size)(base:Option Addr)(sLen sCap:Nat)(olds:List Value)
  (hold:(Builtin.firstCells i.size sLen (.slice base sLen sCap)).run P w.drew=.ok olds.toArray w.drew) (n:Nat) (hn:0<n) (hb:n*i.bytes<=281474976710656) (hn2:n<=2147483648)
  (hg:sCap<sLen+n) (h63:((sLen+n:Nat):Int)<=9223372036854775807) (hfit:Builtin.nextslicecap (sLen+n) sCap*i.bytes<=281474976710656) :
  (Builtin.append_ #[t,tc] ty #[.slice base sLen sCap,.int .i64 n]).run P w =
   .ok (.slice (some ⟨w.heap.size,0,none⟩) (sLen+n) (grownCap w (sLen+n) sCap e))
    (w.drew.alloc (.cells (olds.toArray++Builtin.zeroCells z.cells n++Builtin.zeroCells z.cells (grownCap w (sLen+n) sCap e-(sLen+n))) e)):=by
 have hno:¬(sLen+n<=sCap):=by omega
 have h63':¬(9223372036854775807<((sLen:Int)+(n:Int))):=by omega
 have h48':¬(281474976710656<Builtin.nextslicecap (sLen+n) sCap*i.bytes):=by omega
 have wl:IntKind.i64.wrap (n:Int)=n:=by rw[IntKind.wrap_i64];omega
 have n1:¬((n:Int)<0):=by omega
 have n2:¬(281474976710656<(n:Int)*(i.bytes:Int)):=by
  omega
 simp[Builtin.append_,run_underlying ht,run_underlying hc,asInt,asIntOf,sizeOf,typeInfo,zeroValue,hi,hz,wl,n1,n2,hno,h63',h48',Question.forced,hold,newRow,grownCap]
 simp_all [absurd,Nat.ne_of_gt,Nat.mul_pos]
theorem GenK.appendZ(ht:P.underlying t=some (.slice e))(hc:P.underlying tc=some (.int k))(hi:P.info? e=some i)(hz:i.zero=some z)(hsize:i.size=sz)(hzs:z.cells.size=sz)(hsz:0<sz)(hby:i.bytes<=65536)(h1:∀u∈z.cells.toList,u.oneCell'=true)
  {x y:Operand} {vals:Operand->Value} {s:Sl} {n:Nat} {vs:List Value} (hx:vals x=.slice s.p s.n s.c) (hy:vals y=.int .i64 n) (own:Own V0 V e sz s vs) (hfit:s.n+n<=2147483648) {q:Value->Mem->Prop}
  (hq:∀s' V',Own V0 V' e sz s' (vs++(Builtin.zeroCells z.cells n).toList)->q (.slice s'.p s'.n s'.c) V') :
  GenK P (.call { callee:=.builtin .append,args:=#[x,y],argTypes:=#[t,tc] }) ty vals V q:=by
 intro w hw
 subst hsize
 have hbytes:(s.n+n)*i.bytes<=140737488355328:=Nat.le_trans (Nat.mul_le_mul hfit hby) (by decide)
 have hbn:n*i.bytes<=281474976710656:=by
  grind
 have hl:(Builtin.zeroCells z.cells n).toList.length=n*i.size:=by rw[Array.length_toList,size_zeroCells,hzs]
 have fin:∀(s':Sl) (V':Mem) (w':World),(Builtin.append_ #[t,tc] ty #[.slice s.p s.n s.c,.int .i64 n]).run P w=.ok (.slice s'.p s'.n s'.c) w'->Frm V w V' w'->Own V0 V' e i.size s' (vs++(Builtin.zeroCells z.cells n).toList) ->
   ∃v w' V',(execOp vals { dst:=none,op:=.call { callee:=.builtin .append,args:=#[x,y],argTypes:=#[t,tc] },type:=ty,pos := "",after:=#[],guard:=none }).run P w=.ok (.value v) w'/\Frm V w V' w'/\q v V':=by
  intro s' V' w' hr hf ho
  refine⟨_,w',V',?_,hf,hq s' V' ho⟩
  unfold execOp
  simp only[resolve,invoke,builtin,Sem.run_bind,Sem.run_pure,Result.andThen_ok,List.map_toArray,List.map_cons,List.map_nil,hx,hy,hr]
 by_cases hn0:n=0
 ·subst hn0
  have hz0:(Builtin.zeroCells z.cells 0).toList=[]:=List.eq_nil_of_length_eq_zero (by rw[hl];simp)
  rw[hz0,List.append_nil]at fin
  have hnc:s.n<=s.c:=by
   rcases own.at_ with⟨a,b,-⟩|⟨g,cur,-,-,-,h,-⟩
   ·omega
   ·exact h
  refine fin s V w ?_ (Frm.refl hw) own
  have wl:IntKind.i64.wrap 0=0:=by rfl
  cases s.p with
  | none=>simp[Builtin.append_,run_underlying ht,run_underlying hc,asInt,asIntOf,sizeOf,typeInfo,hi,wl,hnc]
  | some a=>simp[Builtin.append_,run_underlying ht,run_underlying hc,asInt,asIntOf,sizeOf,typeInfo,hi,wl,hnc,storeCells]
 have hn:0<n:=Nat.pos_of_ne_zero hn0
 have hlen:(vs++(Builtin.zeroCells z.cells n).toList).length=(s.n+n)*i.size:=by rw[List.length_append,own.len,hl,Nat.add_mul]
 have hgrow:∀old,old<s.n+n->(Builtin.append_ #[t,tc] ty #[.slice s.p s.n s.c,.int .i64 n]).run P w =
   .ok (.slice (some ⟨w.heap.size,0,none⟩) (s.n+n) (grownCap w (s.n+n) old e)) (w.drew.alloc (.cells (vs.toArray++Builtin.zeroCells z.cells n++Builtin.zeroCells z.cells (grownCap w (s.n+n) old e-(s.n+n))) e)) ->
   ∃v w' V',(execOp vals { dst:=none,op:=.call { callee:=.builtin .append,args:=#[x,y],argTypes:=#[t,tc] },type:=ty,pos := "",after:=#[],guard:=none }).run P w=.ok (.value v) w'/\Frm V w V' w'/\q v V':=by
  intro old ho hr
  obtain⟨hno,hf⟩:=Frm.new hw (.cells (vs.toArray++Builtin.zeroCells z.cells n++Builtin.zeroCells z.cells (grownCap w (s.n+n) old e-(s.n+n))) e)
  have hge:=grownCap_ge w (s.n+n) old e
  refine fin ⟨_,_,_⟩ _ _ hr hf ⟨Mem.sub.new own.sub hno _,hlen,.inr ⟨w.heap.size,_,rfl,?_,Mem.set_same _ _ _,hge,grownCap_le_maxLen w _ old e (by simp only[maxLen];omega),?_,?_⟩⟩
  ·cases h0:V0 w.heap.size with
   | none=>rfl
   | some x=>rw[own.sub _ _ h0]at hno;cases hno
  ·simp only[Array.size_append,List.size_toArray,size_zeroCells,hzs,own.len,<- Nat.add_mul]
   congr 1
   show _=grownCap w (s.n+n) old e
   omega
  grind
 have hfitN:∀old,old<s.n+n->Builtin.nextslicecap (s.n+n) old*i.bytes<=281474976710656:=fun old ho=>growslice_fits (by omega) hbytes
 rcases own.at_ with⟨hs,hs',hv⟩|⟨g,cur,hp,hg,hV,hnc,hcm,hcs,htake⟩
 ·subst hv
  refine hgrow s.c (by omega) ?_
  have hold:(Builtin.firstCells i.size s.n (.slice s.p s.n s.c)).run P w.drew=.ok ([]:List Value).toArray w.drew:=by
   rw[hs]
   cases s.p with
   | none=>rfl
   | some a=>simp[Builtin.firstCells,loadCells,loadCellsFrom]
  grind [qDX]
 ·by_cases hroom:s.n+n<=s.c
  ·have hcur:w.heap[g]?=some (.cells cur e (0,0)):=hw _ _ hV
   have hle:(s.n+n)*i.size<=s.c*i.size:=Nat.mul_le_mul_right _ hroom
   have hmul:(s.n+n)*i.size=s.n*i.size+n*i.size:=Nat.add_mul _ _ _
   have hr:=qHh (P:=P) (ty:=ty) ht hc hi hz hsz hzs h1 g s.n s.c cur hcur n hn hbn (by omega) hroom (by omega)
   refine fin ⟨some ⟨g,0,none⟩,s.n+n,s.c⟩ _ _ (by rw[hp];exact hr) (Frm.row hw hV) ⟨own.sub.set hg _,hlen,.inr ⟨g,_,rfl,hg,Mem.set_same _ _ _,hroom,hcm,?_,?_⟩⟩
   ·grind
   grind
  ·refine hgrow s.c (by omega) ?_
   have hown:w.ownsRow 0 e i.size (.slice s.p s.n s.c) s.n vs:=⟨own.len,.inr ⟨g,s.c,cur,by rw[hp],Nat.zero_le _,hw _ _ hV,hnc,hcm,hcs,htake⟩⟩
   have holds:∀j u,vs[j]?=some u->w.cell? ((⟨g,0,none⟩:Addr).add j)=some u:=hown.cells (g:=g) (by rw[hp];rfl)
   have hold:=run_firstCells_some (P:=P) w.drew i.size s.n ⟨g,0,none⟩ s.n s.c vs own.len (by simpa using holds)
   grind [qDX,Builtin.firstCells]
end
theorem qJJ(n:Nat):(Builtin.zeroCells (Value.int .i64 0).cells n).toList=List.replicate n (Value.int .i64 0):=by
 have hc:(Value.int .i64 0).cells=#[Value.int .i64 0]:=by rfl
 rw[hc]
 unfold Builtin.zeroCells
 refine List.ext_getElem? fun j=>?_
 grind
theorem qKq(n:Nat):(madeCells (Value.int .i64 0).cells n).toList=List.replicate n (Value.int .i64 0):=by
 have hc:(Value.int .i64 0).cells=#[Value.int .i64 0]:=by rfl
 rw[hc]
 unfold madeCells
 refine List.ext_getElem? fun j=>?_
 grind
end Go.Sx
namespace Go.Proofs
open Go Go.Sx
attribute [local irreducible] Go.Sx.Tri
def NT(ty:Nat):Prop:=ty≠3/\ty≠92/\ty≠89
theorem nn{p:Addr}:¬(some p:Option Addr)=none:=nofun
theorem pnn{p:Addr}{n:Nat}:¬qAa (some p) n=none:=nofun
structure MA (ty:Nat) (V0:Mem) (p:Nat) (row:Sl->Sl->Sl->List Value) (V:Mem) (s:St):Prop where
 p0:V0 p=none
 ex:∃gs ns ls nd,V p=some (.cells (row gs ns ls).toArray ty (0,0))/\Lay V0 V gs ns ls nd s
section
variable{ty:Nat}{V0 V V' W:Mem}{p:Nat}{row row':Sl->Sl->Sl->List Value}{s s':St}{gs ns ls:Sl}{nd:List Nd}
theorem qHE{x:Array Value}(h:V p=some (.cells x ty (0,0)))(hty:NT ty):Alien V p:=fun cur t ht h'=>by
 rw[h]at h'
 simp only[Option.some.injEq,Obj.cells.injEq]at h'
 obtain⟨-,h',-⟩:=h'
 rcases ht with rfl|rfl|rfl
 ·exact hty.1 h'
 ·exact hty.2.1 h'
 ·exact hty.2.2 h'
theorem notBlk{x:Array Value}(h:V p=some (.cells x ty (0,0)))(hty:NT ty){e:TypeId}{sz:Nat}{sl:Sl}{vs:List Value}(ho:Sx.Own V0 V e sz sl vs)(he:e=3∨e=92∨e=89):¬Blk sl p:=ho.apart fun cur hc=>qHE h hty cur e he hc
theorem Lay.same(L:Lay V0 V gs ns ls nd s)(h1:s'.g=s.g)(h2:s'.ns=s.ns)(h3:s'.lg=s.lg):Lay V0 V gs ns ls nd s':=⟨by rw[h1];exact L.glob,L.nodes,by rw[h3];exact L.log,L.fld,by rw[h2];exact L.eq,L.gf,L.ff⟩
theorem MA.sub(h:MA ty V0 p row V s):V0.sub V:=by
 obtain⟨_,_,_,_,_,L⟩:=h.ex;exact L.sub
theorem MA.narrow(h:MA ty W p row V s)(hs:V0.sub W):MA ty V0 p row V s:=by
 obtain⟨gs,ns,ls,nd,hat,L⟩:=h.ex
 refine⟨?_,gs,ns,ls,nd,hat,L.narrow hs⟩
 cases hc:V0 p with
 | none=>rfl
 | some o=>have:=hs _ _ hc;rw[h.p0]at this;cases this
theorem MA.set(hty:NT ty)(p0:V0 p=none){x:Array Value}(hat:V p=some (.cells x ty (0,0)))(L:Lay V0 V gs ns ls nd s){c:Array Value}(hc:c=(row' gs ns ls).toArray)(h1:s'.g=s.g)(h2:s'.ns=s.ns)(h3:s'.lg=s.lg):MA ty V0 p row' (V.set p (.cells c ty (0,0))) s' :=
 ⟨p0,gs,ns,ls,nd,by rw[Mem.set_same,hc],(L.put (qHE hat hty) p0 _).same h1 h2 h3⟩
theorem MA.frame(h:MA ty V0 p row V s):∃M:Nat->Prop,(∀b,M b->V b≠none/\V0 b=none)/\∀V',(∀b o,M b->V b=some o->V' b=some o)->MA ty (Mem.minus V' M) p row V' s:=by
 obtain⟨gs,ns,ls,nd,hat,L⟩:=h.ex
 refine⟨Mine p gs ns ls nd,fun b hb=>⟨L.mineV (by rw[hat];simp) hb,L.mine0 h.p0 hb⟩,fun V' hk=>⟨qFM (.inl rfl),gs,ns,ls,nd,hk _ _ (.inl rfl) hat,L.frame hk⟩⟩
theorem MA.after(h:MA ty V0 p row V s)(hs:V.sub V'):∃W,V0.sub W/\W.sub V'/\MA ty W p row V' s/\∀b o,V b=none->V' b=some o->W b=some o:=by
 obtain⟨M,h1,h2⟩:=h.frame
 refine⟨Mem.minus V' M,fun b o hb=>?_,qEq,h2 V' fun b o _ hb=>hs _ _ hb,fun b o hb hb'=>?_⟩
 ·rw[qCB fun hm=>by simp_all];exact hs _ _ (h.sub _ _ hb)
 grind [qCB]
theorem MA.beside(h:MA ty W p row V s){e:TypeId}{sz:Nat}{sl sl':Sl}{vs vs':List Value}(hV0:V0.sub W)(ho:Sx.Own V0 W e sz sl vs)(ho':Sx.Own (V.but sl) V' e sz sl' vs'):∃W',V0.sub W'/\MA ty W' p row V' s/\Sx.Own V0 W' e sz sl' vs':=by
 obtain⟨M,h1,h2⟩:=h.frame
 have nb:∀b,M b->¬Blk sl b:=fun b hm hb=>by
  grind [Own.some]
 have keep:∀b o,V b=some o->¬Blk sl b->V' b=some o:=fun b o hb hn=>ho'.sub _ _ (Mem.but_at hb hn)
 have hM:∀b,M b->¬Blk sl' b:=fun b hm hb=>by
  have h0:=Own.none0 ho' hb
  cases hc:V b with
  | none=>simp_all
  | some o=>grind [Mem.but_at]
 have hs:V0.sub (Mem.minus V' M):=fun b o hb=>by
  have hw:=hV0 _ _ hb
  rw[qCB fun hm=>by simp_all]
  exact keep _ _ (h.sub _ _ hw) fun hbk=>by grind [Own.none0]
 refine⟨Mem.minus V' M,hs,h2 V' fun b o hm hb=>keep b o hb (nb b hm),hs,ho'.len,?_⟩
 rcases ho'.cases0 with h'|⟨hc,g,cur,a,b,c,dd⟩
 ·exact .inl h'
 ·refine .inr ⟨g,cur,a,?_,?_,dd⟩
  ·cases h0:V0 g with
   | none=>rfl
   | some o =>
    have hw:=h.sub _ _ (hV0 _ _ h0)
    rw[Mem.but_at hw (ho.apart0 h0)]at b;cases b
  ·rw[qCB fun hm=>hM g hm ⟨hc,a⟩];exact c
end
theorem qAI{V:Mem}{b:Nat}{c:Array Value}{t:Nat}{fr:Nat×Nat}(h:V b=some (.cells c t fr))(j off n:Nat)(hl:j+off+n<=c.size):V.rowp (qAa (sa b) j) off n=some ((c.toList.drop (j+off)).take n):=by
 have:=qAd h (j+off) n hl
 rw[<- this]
 show V.row (((⟨b,0,none⟩:Addr).add j).add off) n=V.row ((⟨b,0,none⟩:Addr).add (j+off)) n
 rw[add_add]
theorem one_int{V:Mem}{b:Nat}{n:Int}{t:Nat}(h:V b=some (.cells #[.int .i64 n] t (0,0))):qAc V ⟨some ⟨b,0,none⟩,1,1⟩ 1 ([n].map qAe) :=
 qAc.cells (xs:=[n]) (row:=qAe) h rfl (fun _=>rfl) rfl (by simp)
theorem c42{V:Mem}{l:Sl}{xs:List Int}(h:qAc V l 1 (xs.map qAe))(hb:xs.length<=2147483648):Tri Tryz.prog 42 #[l.v] V fun e V'=>∃s:Sl,e=.returned (.slice s.p s.n s.c)/\Sx.Own V V' 3 1 s (xs.flatMap qAe):=by
 refine x42 ?_
 unfold w42
 refine⟨fun h0=>⟨⟨none,0,0⟩,rfl,?_⟩,fun h0 tb htb=>?_⟩
 ·have:xs=[]:=by
   cases xs with
   | nil=>rfl
   | cons a l2 =>
    have:=h.base (i:=0) (by simp)
    simp_all
  grind [Own.nil,Mem.sub.refl]
 ·have s1:=Mem.sub_new htb (.cells #[] 3 (0,0))
  exact qFs (s:=⟨some ⟨tb,0,none⟩,0,0⟩) (u:=l) (xs:=[]) (ys:=xs) rfl rfl (Own.empty (V0:=V) s1 _ _ _) (h.sub s1) (by simpa using hb) fun s' V' ho=>⟨s',rfl,s',rfl,by simpa using ho⟩
end Go.Proofs
namespace Go.Sx
open Go
def qAy(r:Option Nat):Fence:={ Fence.wide with round:=r }
section
variable{P:Program}{r:Option Nat}{n:Nat}
theorem qDV{f:FuncId}{args:Array Value}{w:World}{R:Ending->World->Prop}:CallsIn (qAy r) n P f args w R↔Calls P f args w R:=callsIn_wide (n:=n)
theorem rowsIn_wideR{row:String}{args:Array Value}{w:World}{R:Value->World->Prop}(h:Rows P row args w R):RowsIn (qAy r) n P row args w R:=fun c cs _ =>
 let ⟨v,w',q,s⟩:=h c cs
 ⟨v,w',q,stepsIn_wide.2 s⟩
theorem qJe{o:Oper}{a:Act}{w:World}{next:Act->World->Prop}{Q:Exit->Act->World->Prop}(hd:∀c,o.op≠.defer c)(h:o.wp P a w next Q):o.wpIn (qAy r) n P a w next Q:=by
 refine⟨fun _ _=>trivial,?_⟩
 rw[Oper.semAt_eq _ _ _ hd]
 unfold Oper.wp at h
 revert h
 generalize (execOp a.eval o).run P w=res
 intro h
 cases res with
 | ok x w' =>
  cases x with
  | enter f args=>exact⟨fun h=>by simp[qAy,Fence.wide]at h,qDV.2 h⟩
  | row row args=>exact⟨fun h=>by simp[qAy,Fence.wide]at h,rowsIn_wideR h⟩
  | value v=>exact h
  | skip=>exact h
  | defer d=>exact h
  | _=>exact h.elim
 | halt x w'=>cases x <;> first|exact h|exact h.elim
def qFJ:Op->Bool
 | .defer _=>false
 | _=>true
theorem qDl{o:Op}(h:qFJ o=true):∀c,o≠.defer c:=fun c e=>by subst e;cases h
def qCM:Code->Bool
 | .region _ ops _=>ops.all fun o=>qFJ o.op
 | .seq x y=>qCM x&&qCM y
 | .block _ b=>qCM b
 | .cond _ x y=>qCM x&&qCM y
 | .loop b=>qCM b
 | _=>true
theorem qDs{ops:Array Oper}{Q:Exit->Act->World->Prop}(hno:¬LetsOut Q)(hd:∀o∈ops,∀c,o.op≠.defer c)(l:List Oper):∀k,(∀j,j<l.length->l[j]?=ops[k+j]?)->∀a w,wpList P ops Q l a w ->
  wpOpsIn (qAy r) n P ops Q (List.range' k l.length) a w:=by
 induction l with
 | nil=>grind [wpOpsIn,wpList]
 | cons o l ih =>
  intro k h a w hw
  have h0:ops[k]?=some o:=by simpa using (h 0 (by simp)).symm
  have ih':=ih (k+1) (fun j hj=>by have:=h (j+1) (by simpa using hj);grind)
  simp only[List.length_cons,List.range'_succ,wpOpsIn,h0]
  simp only[wpList]at hw
  split
  ·rename_i hy
   rw[if_pos hy]at hw
   grind [qJe,Array.mem_of_getElem?,Oper.wp_mono]
  ·rename_i hy
   rw[if_neg hy]at hw
   exact⟨fun _ _=>trivial,ih' _ _ hw⟩
theorem qHe{ops:Array Oper}{Q:Exit->Act->World->Prop}(hno:¬LetsOut Q)(hd:∀o∈ops,∀c,o.op≠.defer c){md:Region.Mode}:∀fuel listed a w,wpAny P md ops Q fuel listed a w ->
  wpAnyIn (qAy r) n P md ops Q fuel listed a w:=by
 intro fuel
 induction fuel with
 | zero=>exact fun _ _ _ h=>h
 | succ fuel ih =>
  rintro listed a w ⟨h1,h2⟩
  refine⟨h1,fun i hi=>?_⟩
  have:=h2 i hi
  unfold wpOp at this
  unfold wpOpIn
  split
  ·simp_all
  ·rename_i o ho
   simp only[ho]at this
   split
   ·rename_i hy
    rw[if_pos hy]at this
    grind [qJe,Array.mem_of_getElem?,Oper.wp_mono]
   ·rename_i hy
    rw[if_neg hy]at this
    exact⟨fun _ _=>trivial,ih _ _ _ this⟩
end
open Classical in
theorem qFx{P:Program}{F:Fence}{n₀:Nat}{c:Code}{Q:Exit->Act->World->Prop}{a:Act}{w:World}(Inv:Nat->Act->World->Prop)(h0:∃n,Inv n a w)
  (round:∀n a w,Inv n a w->c.wpIn F n₀ P (Exit.then (fun a' w'=>∃n',n'<n/\Inv n' a' w') Q) a w):(Code.loop c).wpIn F n₀ P Q a w:=by
 let m:Act->World->Nat:=fun a w=>if h:∃n,Inv n a w then Classical.choose (qGB _ h) else 0
 have hm:∀a w (h:∃n,Inv n a w),Inv (m a w) a w/\∀k,Inv k a w->m a w<=k:=fun a w h=>by
  grind
 refine wpIn_loop (fun a w=>∃n,Inv n a w) m h0 fun a w hI=>?_
 obtain⟨h1,h2⟩:=hm a w hI
 refine wpIn_mono (round _ a w h1) (fun e a' w' q=>?_)
 grind
section
variable{all:Array Oper}{k:St->Tr}{Q:Exit->Act->World->Prop}
variable{P:Program}{R:Ending->Mem->Prop}{V0:Mem}{w0:World}{L:List (List Value->Mem->Prop)}{ρ0:List Value}{fs:List Nat}{H:qGH}
theorem qHW(hcalls:qBN P fs){st:St}{a:Act}{w:World}(hQ:qJb R V0 w0 a.defers Q)(h:qCr P R noO V0 w0 H.N L ρ0 a.tmps w st (qCp P fs H all st k))
  (hlo:LetsOut (fun(_:Exit) (_:Act) (_:World)=>False)->LetsOut Q)
  (hk:∀st' a' w',a'.defers=a.defers->qCr P R noO V0 w0 H.N L ρ0 a'.tmps w' st' (k st')->Q .normal a' w'):wpAny P .any all Q all.size (Array.replicate all.size false) a { w with drawn:=w.drawn+1 }:=by
 unfold qCp at h
 simp only at h
 obtain⟨β,ρ,V,hp,hr,hD⟩:=h
 split at hD
 case isFalse=>exact hD.elim
 rename_i hc
 simp only[Bool.and_eq_true,List.all_eq_true]at hc
 obtain⟨hc1,hc2⟩:=hc
 obtain⟨hok,h2,h3,h4,h5⟩:=qIF hc1
 have hrep:∀j d,j<all.size->(Array.replicate all.size false).getD j d=false:=fun j d hj=>by simp_all
 refine(any_sound hcalls hok (fun i o ho=>hc2 o (by grind)) hQ hlo hk all.size (List.range all.size) (qGv all (qAG all.toList []) all.size 0) [] st _ a _ a [] noO (fun x=>x) ?_ rfl List.nodup_range (by simp) fun j=>?_)
 ·exact
  {lsize:=by simp
   closed:=fun j oj hj hl=>by
    rw[hrep j _ (Array.getElem?_eq_some_iff.1 hj).1]at hl;cases hl
   chain:=h5
   nd:=h3
   bound:=h4
   unl:=fun j hj _=>.inr (nodup_all h3 h4 h2 hj)
   pu:=fun j hj=>by cases hj
   ru:=fun j hj=>.inl (hrep j _ (h4 j hj))
   boi:=fun i hi j hj hl=>by omega
   fsize:=rfl
   fdef:=rfl
   fill:=fun s _=>rfl
   goes:=⟨_,β,ρ,V,hp,hr.drawn _,hD⟩ }
 simp_all
end
section
variable{P:Program}{R:Ending->Mem->Prop}{O V0:Mem}{w0:World}{fs:List Nat}{H:qGH}
theorem noOut(Q:Exit->Act->World->Prop):¬LetsOut (fun e a' w'=>e≠.outgrown/\Q e a' w'):=fun⟨_,_,h⟩=>h.1 rfl
theorem nd1{x y:Bool}(h:(x&&y)=true):x=true:=by simp_all
theorem nd2{x y:Bool}(h:(x&&y)=true):y=true:=by simp_all
theorem ndOps{id:Nat}{ops:Array Oper}{d:Bool}(h:qCM (.region id ops d)=true):∀o∈ops,qFJ o.op=true:=by
 grind [qCM,Array.all_eq_true']
theorem ex_sound_in{r:Option Nat}{n₀:Nat}(hcalls:qBN P fs)(hm:P.follows .mixedOrders=true):∀(c:Code),qCM c=true->∀(L:List (List Value->Mem->Prop)) (ρ0:List Value) (st:St) (k:Ex->St->Tr) (a:Act) (w:World) (Q:Exit->Act->World->Prop),
  qJb R V0 w0 a.defers Q->qCr P R noO V0 w0 H.N L ρ0 a.tmps w st (ex P fs H c st k) ->
  (∀e st' a' w' L',L <+: L'->a'.defers=a.defers->qCr P R noO V0 w0 H.N L' ρ0 a'.tmps w' st' (k e st')->Q e.toExit a' w')->c.wpIn (qAy r) n₀ P Q a w:=by
 intro c
 induction c with
 | skip=>intro nd L ρ0 st k a w Q hQ h hk;exact wpIn_skip (hk .normal st a w L (List.prefix_refl _) rfl h)
 | ret=>intro nd L ρ0 st k a w Q hQ h hk;exact wpIn_ret (hk .ret st a w L (List.prefix_refl _) rfl h)
 | exit id=>intro nd L ρ0 st k a w Q hQ h hk;exact wpIn_exit (hk (.exit id) st a w L (List.prefix_refl _) rfl h)
 | seq x y ihx ihy =>
  intro nd L ρ0 st k a w Q hQ h hk
  refine wpIn_seq (ihx (nd1 nd) L ρ0 st _ a w _ hQ h fun e st' a' w' L' hL hd hg=>?_)
  cases e with
  | normal=>exact ihy (nd2 nd) L' ρ0 st' k a' w' Q (by grind) hg fun e st'' a'' w'' L'' hL' hd' hg'=>hk e st'' a'' w'' L'' (hL.trans hL') (hd'.trans hd) hg'
  | exit i=>exact hk (.exit i) st' a' w' L' hL hd hg
  | ret=>exact hk .ret st' a' w' L' hL hd hg
 | block id b ih =>
  intro nd L ρ0 st k a w Q hQ h hk
  refine wpIn_block (ih nd L ρ0 st _ a w _ hQ h fun e st' a' w' L' hL hd hg=>?_)
  cases e with
  | normal=>exact hk .normal st' a' w' L' hL hd hg
  | exit i =>
   simp only at hg
   show (if i=id then Q .normal a' w' else Q (.exit i) a' w')
   split
   ·rename_i e;rw[if_pos e]at hg;exact hk .normal st' a' w' L' hL hd hg
   ·rename_i e;rw[if_neg e]at hg;exact hk (.exit i) st' a' w' L' hL hd hg
  | ret=>exact hk .ret st' a' w' L' hL hd hg
 | cond c x y ihx ihy =>
  intro nd L ρ0 st k a w Q hQ h hk
  obtain⟨β,ρ,V,hp,hr,hD⟩:=h
  simp only[ex]at hD
  split at hD
  ·rename_i v hv
   have he:a.eval c=.bool v:=qAE hr hv
   cases v with
   | true=>exact wpIn_cond_true he (ihx (nd1 nd) L ρ0 st k a w Q hQ ⟨β,ρ,V,hp,hr,hD⟩ hk)
   | false=>exact wpIn_cond_false he (ihy (nd2 nd) L ρ0 st k a w Q hQ ⟨β,ρ,V,hp,hr,hD⟩ hk)
  ·rename_i t _ ht
   split at hD
   ·rename_i hc
    obtain⟨hc1,hc2⟩:=hc
    obtain⟨b,hb⟩:=qFQ (ρ:=ρ) (β:=β) hc1
    have he:a.eval c=.bool b:=(qAE hr ht).trans hb
    have hfr:=(T.ev_free (β:=id) (β':=β) (ρ:=ρ) t hc2).1
    split at hD
    ·rename_i d
     simp only[D,hfr,hb,asB]at hD
     have hlearn:Rel noO V0 w0 H.N β (st.now d (.bool b)) ρ V a.tmps w:=hr.now (t:=t) ht (by rw[hb];rfl)
     cases b with
     | true=>exact wpIn_cond_true he (ihx (nd1 nd) L ρ0 _ k a w Q hQ ⟨β,ρ,V,hp.now _ _,hlearn,hD.1 rfl⟩ hk)
     | false=>exact wpIn_cond_false he (ihy (nd2 nd) L ρ0 _ k a w Q hQ ⟨β,ρ,V,hp.now _ _,hlearn,hD.2 rfl⟩ hk)
    ·simp only[D,hfr,hb,asB]at hD
     cases b with
     | true=>exact wpIn_cond_true he (ihx (nd1 nd) L ρ0 _ k a w Q hQ ⟨β,ρ,V,hp,hr,hD.1 rfl⟩ hk)
     | false=>exact wpIn_cond_false he (ihy (nd2 nd) L ρ0 _ k a w Q hQ ⟨β,ρ,V,hp,hr,hD.2 rfl⟩ hk)
   ·exact hD.elim
  ·exact hD.elim
 | region id ops draw =>
  intro nd L ρ0 st k a w Q hQ h hk
  cases draw with
  | true =>
   refine wpIn_mono (wpIn_region_any (Q:=fun e a' w'=>e≠.outgrown/\Q e a' w') hm (qHe (noOut Q) (fun o ho=>qDl (ndOps nd o ho)) _ _ _ _ (qHW hcalls (fun ch a' w' hd hR=>⟨by simp,hQ ch a' w' hd hR⟩) h (fun⟨_,_,h⟩=>h.elim) fun st' a' w' hd hg=>⟨by simp,hk .normal st' a' w' L (List.prefix_refl _) hd hg⟩))) fun e a w h=>h.2
  | false =>
   refine wpIn_mono (wpIn_region (Q:=fun e a' w'=>e≠.outgrown/\Q e a' w') ?_) fun e a w h=>h.2
   rw[List.range_eq_range',<- Array.length_toList]
   exact qDs (noOut Q) (fun o ho=>qDl (ndOps nd o ho)) _ _ (fun j _=>by simp) _ _ (qCN hcalls ops.toList st a w (fun ch a' w' hd hR=>⟨by simp,hQ ch a' w' hd hR⟩) h fun st' a' w' hd hg=>⟨by simp,hk .normal st' a' w' L (List.prefix_refl _) hd hg⟩)
 | loop b ih =>
  intro nd L ρ0 st k a w Q hQ h hk
  obtain⟨β,ρ,V,hp,hr,hD⟩:=h
  simp only[ex,exLoop]at hD
  generalize dedup (qGI b)=ws at hD
  generalize (((qBz b).bind fun i=>H.loops.lookup i).getD [])=hint at hD
  obtain⟨st',t,hg,hfree,β',ρ',V',hp',hr',hD'⟩:=qAN _ _ _ _ ⟨β,ρ,V,hp,hr,hD⟩
  split at hD'
  case isFalse=>exact hD'.elim
  rename_i hw
  split at hD'
  ·exact hD'.elim
  ·rename_i st1 bs hgb
   split at hD'
   ·exact hD'.elim
   ·rename_i init hinit
    split at hD'
    case isFalse=>exact hD'.elim
    rename_i hok
    simp only[D]at hD'
    obtain⟨I,μ,hI,hround⟩:=hD'
    obtain⟨hrh,hsh⟩:=qHw hw hr'.nv (List.prefix_refl _) hgb hinit hok hr'
    let Inv:Nat->Act->World->Prop:=fun n a' w'=>∃β xs V',Shaped (bs.flatMap (·.2.2)++(qAA ws st1).2.flatMap (·.2.2)) xs/\I xs V'/\μ xs V'=n /\
     Rel noO V0 w0 H.N β { (qAA ws st1).1 with depth:=st'.depth+1 } (ρ'++xs) V' a'.tmps w'/\a'.defers=a.defers
    refine qFx Inv ⟨_,β',init.evs ρ' id,V',hsh,hI,rfl,hrh,rfl⟩ ?_
    rintro n a1 w1 ⟨β1,xs,V1,hsh1,hI1,rfl,hr1,hd1⟩
    have hDb:=hround xs V1 hsh1 hI1
    refine ih nd (L++[fun ys V''=>I ys V''/\μ ys V''<μ xs V1]) ρ' _ _ a1 w1 _ (by rw[hd1];exact hQ) ⟨β1,ρ'++xs,V1,⟨List.prefix_append _ _,?_⟩,hr1,hDb⟩ ?_
    ·simp[hp'.2]
    ·intro e st2 a2 w2 L2 hL2 hd2 hg2
     cases e with
     | normal =>
      obtain⟨β2,ρ2,V2,hp2,hr2,hD2⟩:=hg2
      simp only at hD2
      split at hD2
      ·rename_i vs hvs
       split at hD2
       ·rename_i hok2
        simp only[D]at hD2
        obtain⟨J,hJ,hJ2⟩:=hD2
        have hlvl:L2[st'.depth]?=some (fun ys V''=>I ys V''/\μ ys V''<μ xs V1):=by
         obtain⟨σ,rfl⟩:=hL2
         rw[<- hp'.2,List.getElem?_append_left (by simp),List.getElem?_append_right (Nat.le_refl _)]
         simp
        rw[hlvl]at hJ
        simp only[Option.some.injEq]at hJ
        subst hJ
        obtain⟨hrh2,hsh2⟩:=qHw hw hr'.nv hp2.1 hgb hvs hok2 hr2
        exact⟨_,hJ2.2,β2,vs.evs ρ2 id,V2,hsh2,hJ2.1,rfl,hrh2,hd2.trans hd1⟩
       ·exact hD2.elim
      ·exact hD2.elim
     | exit i=>exact hk (.exit i) st2 a2 w2 L2 ((List.prefix_append _ _).trans hL2) (hd2.trans hd1) (hg2.weak hp'.1)
     | ret=>exact hk .ret st2 a2 w2 L2 ((List.prefix_append _ _).trans hL2) (hd2.trans hd1) (hg2.weak hp'.1)
 | rangeFunc _ _ _ _ _ _=>intro nd L ρ0 st k a w Q hQ h hk;obtain⟨β,ρ,V,hp,hr,hD⟩:=h;exact hD.elim
 | scope _ _=>intro nd L ρ0 st k a w Q hQ h hk;obtain⟨β,ρ,V,hp,hr,hD⟩:=h;exact hD.elim
 | label _=>intro nd L ρ0 st k a w Q hQ h hk;obtain⟨β,ρ,V,hp,hr,hD⟩:=h;exact hD.elim
 | goto _=>intro nd L ρ0 st k a w Q hQ h hk;obtain⟨β,ρ,V,hp,hr,hD⟩:=h;exact hD.elim
 | refuse _=>intro nd L ρ0 st k a w Q hQ h hk;obtain⟨β,ρ,V,hp,hr,hD⟩:=h;exact hD.elim
end
section
variable{P:Program}{fs:List Nat}{H:qGH}
def wpL(r:Option Nat)(n:Nat)(P:Program)(Q:Exit->Act->World->Prop):List Code->Act->World->Prop
 | [],a,w=>Q .normal a w
 | c::cs,a,w=>c.wpIn (qAy r) n P (Exit.then (wpL r n P Q cs) Q) a w
def flat:Code->List Code
 | .seq x y=>flat x++flat y
 | c=>[c]
theorem qJd{r:Option Nat}{n:Nat}{Q:Exit->Act->World->Prop}{l2:List Code}:∀{l1:List Code} {a:Act} {w:World},wpL r n P (Exit.then (wpL r n P Q l2) Q) l1 a w->wpL r n P Q (l1++l2) a w
 | [],_,_,h=>h
 | c::cs,a,w,h=>by
  refine wpIn_mono (show c.wpIn (qAy r) n P _ a w from h) fun e a' w' he=>?_
  cases e with
  | normal=>exact qJd he
  | _=>exact he
theorem qCx{r:Option Nat}{n:Nat}{Q Q':Exit->Act->World->Prop}(hq:∀e a w,Q e a w->Q' e a w):∀{l:List Code} {a:Act} {w:World},wpL r n P Q l a w->wpL r n P Q' l a w
 | [],_,_,h=>hq _ _ _ h
 | c::cs,a,w,h=>by
  refine wpIn_mono (show c.wpIn (qAy r) n P _ a w from h) fun e a' w' he=>?_
  cases e with
  | normal=>exact qCx hq he
  | _=>exact hq _ _ _ he
theorem qFc{r:Option Nat}{n:Nat}{Q:Exit->Act->World->Prop}{l2:List Code}:∀{l1:List Code} {a:Act} {w:World},wpL r n P Q (l1++l2) a w->wpL r n P (Exit.then (wpL r n P Q l2) Q) l1 a w
 | [],_,_,h=>h
 | c::cs,a,w,h=>by
  refine wpIn_mono (show c.wpIn (qAy r) n P _ a w from h) fun e a' w' he=>?_
  cases e with
  | normal=>exact qFc he
  | _=>exact he
theorem qCm{r:Option Nat}{n:Nat}:∀{c:Code} {Q:Exit->Act->World->Prop} {a:Act} {w:World},wpL r n P Q (flat c) a w->c.wpIn (qAy r) n P Q a w:=by
 intro c
 induction c with
 | seq x y ihx ihy =>
  intro Q a w h
  refine wpIn_seq (ihx ?_)
  refine qCx (fun e a w he=>?_) (qFc h)
  cases e with
  | normal=>exact ihy he
  | _=>exact he
 | _ =>
  intro Q a w h
  refine wpIn_mono (show Code.wpIn (qAy r) n P _ _ a w from h) fun e a' w' he=>?_
  cases e with
  | normal=>exact he
  | _=>exact he
def Seg(P:Program)(N:Nat)(cs:List Code)(ins:List (Nat×Value))(outs:List Nat)(V:Mem)(R:List Value->Mem->Prop):Prop :=
 ∀r n a w,V.le w->a.tmps.size=N->(∀s v,ins.lookup s=some v->a.tmps.getD s undef=v) ->
  wpL r n P (fun e a' w'=>e=.normal/\a'.defers=a.defers/\a'.tmps.size=N/\∃vs V',(∀s v,(outs.zip vs).lookup s=some v->a'.tmps.getD s undef=v)/\R vs V'/\Frm V w V' w') cs a w
theorem Seg.mono{N:Nat}{cs:List Code}{ins:List (Nat×Value)}{outs:List Nat}{V:Mem}{R R':List Value->Mem->Prop}(h:Seg P N cs ins outs V R)(hr:∀vs V',R vs V'->R' vs V'):Seg P N cs ins outs V R' :=
 fun r n a w hV hN hs=>qCx (fun _ _ _ ⟨h1,h2,h3,vs,V',h4,h5,h6⟩=>⟨h1,h2,h3,vs,V',h4,hr _ _ h5,h6⟩) (h r n a w hV hN hs)
def exL(P:Program)(fs:List Nat)(H:qGH):List Code->St->(Ex->St->Tr)->Tr
 | [],st,k=>k .normal st
 | c::cs,st,k=>ex P fs H c st fun e st=>match e with | .normal=>exL P fs H cs st k|e=>k e st
def segT(P:Program)(fs:List Nat)(H:qGH)(cs:List Code)(slots:List (Nat×T))(nv:Nat)(outs:List Nat):Tr :=
 if (slots.all fun x=>x.2.wf nv 0)/\cs.all qCM then
  exL P fs H cs { slots,boxes:=[],nv,nb:=0,depth:=0 } fun e st =>
   match e with
   | .normal=>pubT (st.nb+2) st (fun st=>(qEu st outs).map T.tup) fun _ t=>.ret t
   | _=>.bad 60 0
 else .bad 61 0
theorem exL_sound{R:Ending->Mem->Prop}{V0:Mem}{w0:World}{r:Option Nat}{n:Nat}(hcalls:qBN P fs)(hm:P.follows .mixedOrders=true){k:Ex->St->Tr}{Q:Exit->Act->World->Prop}{ρ0:List Value}:∀{cs:List Code} {L:List (List Value->Mem->Prop)} {st:St} {a:Act} {w:World},
  qJb R V0 w0 a.defers Q->qCr P R noO V0 w0 H.N L ρ0 a.tmps w st (exL P fs H cs st k)->cs.all qCM=true ->
  (∀e st' a' w' L',L <+: L'->a'.defers=a.defers->qCr P R noO V0 w0 H.N L' ρ0 a'.tmps w' st' (k e st')->Q e.toExit a' w')->wpL r n P Q cs a w
 | [],L,st,a,w,_,h,_,hk=>hk .normal st a w L (List.prefix_refl _) rfl h
 | c::cs,L,st,a,w,hQ,h,hnd,hk=>by
  simp only[List.all_cons,Bool.and_eq_true]at hnd
  refine ex_sound_in hcalls hm c hnd.1 L ρ0 st _ a w _ hQ h fun e st' a' w' L' hL hd hg=>?_
  cases e with
  | normal=>exact exL_sound hcalls hm (by grind) hg hnd.2 fun e st'' a'' w'' L'' hL' hd' hg'=>hk e st'' a'' w'' L'' (hL.trans hL') (hd'.trans hd) hg'
  | exit i=>exact hk (.exit i) st' a' w' L' hL hd hg
  | ret=>exact hk .ret st' a' w' L' hL hd hg
end
section
variable{P:Program}{fs:List Nat}{H:qGH}
theorem qDm{f:T->Value}:∀{l:List Nat} {ts:List T} {s:Nat} {v:Value},(l.zip (ts.map f)).lookup s=some v->∃t,(l.zip ts).lookup s=some t/\f t=v/\s∈l
 | [],_,s,v,h=>by simp at h
 | x::xs,[],s,v,h=>by simp at h
 | x::xs,t::ts,s,v,h=>by
  simp only[List.map_cons,List.zip_cons_cons,List.lookup_cons]at h ⊢
  by_cases e:s=x
  ·simp_all
  ·have:(s==x)=false:=by simpa using e
   rw[this]at h ⊢
   obtain⟨t',h1,h2,h3⟩:=qDm h
   simp_all
theorem qDn{f:T->Value}:∀{l:List (Nat×T)} {s:Nat} {t:T},l.lookup s=some t->(l.map fun x=>(x.1,f x.2)).lookup s=some (f t)
 | [],s,t,h=>by simp at h
 | (x,u)::xs,s,t,h=>by
  simp only[List.map_cons,List.lookup_cons]at h ⊢
  split at h
  ·simp_all
  ·exact qDn h
theorem seg_sound(hcalls:qBN P fs)(hm:P.follows .mixedOrders=true){N:Nat}{cs:List Code}{slots:List (Nat×T)}{nv:Nat}{outs:List Nat}{t:Tr}(ht:segT P fs { H with N:=N } cs slots nv outs=t)(ρ:List Value)(hn:ρ.length=nv)
  {ins:List (Nat×Value)} (hins:ins=slots.map fun x=>(x.1,x.2.ev ρ id)) {V:Mem} {R:List Value->Mem->Prop} {q:Prop} (hq:q=DT P {} (fun e V'=>∃vs:List Value,e=.returned (.tuple vs.toArray)/\R vs V') t [] ρ V) (h:q) :
  Seg P N cs ins outs V R:=by
 intro r n a w hV hN hs
 subst hq hins ht
 have hD:=qBA _ _ _ _ h
 unfold segT at hD
 split at hD
 case isFalse=>exact hD.elim
 rename_i hw
 obtain⟨hwf,hnd⟩:=hw
 refine exL_sound (L:=[]) (ρ0:=ρ) (V0:=V) (w0:=w) hcalls hm (fun _ _ _ _ h=>by simp_all) ⟨id,ρ,V,⟨List.prefix_refl _,rfl⟩,?_,hD⟩ hnd ?_
 ·exact
   {nv:=hn
    size:=hN
    slots:=fun s t hg=>by
     have hl:=qCF hg
     simp_all [qDn,id]
    frm:=Frm.refl hV
    boxes:=fun i cs ty hi=>by simp[St.box]at hi
    hid:=fun b o hb=>by cases hb
    inj:=fun i j hi _ _=>by grind }
 ·intro e st' a' w' L' _ hd hg
  cases e with
  | exit j=>obtain⟨β,ρ2,V2,hp,hr,hD⟩:=hg;exact hD.elim
  | ret=>obtain⟨β,ρ2,V2,hp,hr,hD⟩:=hg;exact hD.elim
  | normal =>
   obtain⟨st2,t2,hg2,hfree,β,ρ2,V2,hp,hr,hD⟩:=qAN _ _ _ _ hg
   simp only[Option.map_eq_some_iff]at hg2
   obtain⟨x,hx,rfl⟩:=hg2
   simp only[D]at hD
   obtain⟨vs,h1,h2⟩:=hD
   simp only[T.ev,Ending.returned.injEq,Value.tuple.injEq]at h1
   have h1':T.evs ρ2 id x=vs:=by simp_all
   refine⟨rfl,hd,hr.size,vs,V2,fun s v hsv=>?_,h2,hr.frm⟩
   rw[<- h1',qAD]at hsv
   obtain⟨t,g1,g2,g3⟩:=qDm hsv
   obtain⟨y,g4,g5⟩:=qDR hx s g3
   have g6:=qCD hx s g3
   rw[g1,g4]at g6
   simp only[Option.some.injEq]at g6;subst g6
   rw[hr.slots s t g4,<- g2]
   grind [qHA,T.firstBox,T.ev_free]
end
section
variable{P:Program}
def qDu(fn:FuncId)(tmps:Array Value)(ps:Array Tmp)(assign body:Code)(D:Nat):Loop:={ state:=.ready,pending:=none,fn,tmps,params:=ps,assign,body,defers:=D }
theorem qGt{g:Operand}{ps:Array Tmp}{assign body:Code}{a:Act}{w:World}{V:Mem}{f:FuncId}{caps:Array Value}{n:Nat}{Q:Exit->Act->World->Prop}{Φ:Mem->Prop}
  (hV:V.le w) (hg:a.eval g=.func (.func f) #[] caps) (eg:∀args w,(callFunc f args).run P w=.ok (.enter f args) w)
  (hit:∀fn l D,V l=none->Tri P f (#[.func (.yield l) #[] #[]]++caps) (V.set l (.loop (qDu fn a.tmps ps assign body D))) fun e V'=>(∃v,e=.returned v)/\∃V2,V'=V2.set l (.loop (qDu fn a.tmps ps assign body D))/\V2 l=none/\Φ V2)
  (hdone:∀D V' W,w.heap.size<=D->Frm V w V' W->V' D=none->W.heap[D]?=some (.deferred (some []))->Φ V'->Q .normal { a with defers:={ target:=.collected D,args:=#[] }::a.defers } W) :
  (Code.rangeFunc g ps assign body).wpIn (qAy none) n P Q a w:=by
 refine wpIn_rangeFunc fun fn _=>?_
 obtain⟨W1,hW1⟩:∃W1,(w.alloc (.deferred (some []))).alloc (.loop (qDu fn a.tmps ps assign body w.heap.size))=W1:=⟨_,rfl⟩
 have hs1:W1.heap.size=w.heap.size+2:=by rw[<- hW1];simp
 have hL1:W1.heap[w.heap.size+1]?=some (.loop (qDu fn a.tmps ps assign body w.heap.size)):=by
  grind [World.alloc_heap_new,qDu,World.size_alloc]
 have hK1:W1.heap[w.heap.size]?=some (.deferred (some [])):=by
  grind [Go.RowKit.Below.heap_alloc,World.alloc_heap_new]
 have hold:∀b,b<w.heap.size->W1.heap[b]?=w.heap[b]?:=fun b hb=>by
  grind [Go.RowKit.Below.heap_alloc]
 have hVn:∀b,w.heap.size<=b->V b=none:=fun b hb=>by
  cases hc:V b with
  | none=>rfl
  | some o=>have:=(Array.getElem?_eq_some_iff.1 (hV b o hc)).1;omega
 have hle:(V.set (w.heap.size+1) (.loop (qDu fn a.tmps ps assign body w.heap.size))).le W1:=fun b o hb=>by
  by_cases e:b=w.heap.size+1
  ·grind [Mem.set_same]
  ·rw[Mem.set_ne e]at hb
   have:=(Array.getElem?_eq_some_iff.1 (hV b o hb)).1
   rw[hold b this];exact hV b o hb
 refine⟨w.heap.size+1,[{ target:=.collected w.heap.size,args:=#[] }],W1,{ target:=.fn (.func f) caps,args:=#[.func (.yield (w.heap.size+1)) #[] #[]] },W1,f,
  #[.func (.yield (w.heap.size+1)) #[] #[]]++caps,W1,?_,?_,?_,?_,fun h=>by simp[qAy,Fence.wide]at h,?_⟩
 ·rw[<- hW1];exact run_enterLoop_outer _ _ _ _ _
 ·simp only[resolve,hg]
  simp[go_sem]
 ·intro f' hf';trivial
 ·simp[invoke,go_sem,eg]
 ·refine qDV.2 (qCH (hit fn (w.heap.size+1) w.heap.size (hVn _ (by omega)) W1 hle) ?_)
  rintro e W3 ⟨V',⟨⟨v,rfl⟩,V2,rfl,h2,hΦ⟩,hF⟩
  have hl3:W3.heap[w.heap.size+1]?=some (.loop (qDu fn a.tmps ps assign body w.heap.size)):=hF.le _ _ (Mem.set_same _ _ _)
  have hlt:w.heap.size+1<W3.heap.size:=(Array.getElem?_eq_some_iff.1 hl3).1
  refine⟨none,_,run_endLoop (P:=P) hl3 (by simp[qDu]),?_⟩
  have hD0:(V.set (w.heap.size+1) (.loop (qDu fn a.tmps ps assign body w.heap.size))) w.heap.size=none:=by
   simp_all [Mem.set_ne,Nat.le_refl]
  have hD3:W3.heap[w.heap.size]?=some (.deferred (some [])):=(hF.old _ (by omega) hD0).trans hK1
  refine hdone w.heap.size V2 _ (Nat.le_refl _) ?_ ?_ ((World.putObj_heap_other (by omega)).trans hD3) hΦ
  ·refine⟨?_,fun b o hb=>?_,fun b hb hn=>?_,fun b hb=>?_,?_,?_⟩
   ·grind [World.putObj_size]
   ·have e:b≠w.heap.size+1:=fun e=>by simp_all
    refine(World.putObj_heap_other e).trans (hF.le b o ?_)
    rw[Mem.set_ne e];exact hb
   ·refine(World.putObj_heap_other (by omega)).trans ((hF.old b (by omega) ?_).trans (hold b hb))
    grind [Mem.set_ne]
   ·have e:b≠w.heap.size+1:=fun e=>by simp_all
    rcases hF.dom b (by rw[Mem.set_ne e];exact hb) with h|h
    ·grind [Mem.set_ne]
    omega
   ·show W3.os=w.os;rw[hF.os,<- hW1];rfl
   ·show W3.output=w.output;rw[hF.out,<- hW1];rfl
  ·cases hc:V2 w.heap.size with
   | none=>rfl
   | some o =>
    rcases hF.dom w.heap.size (by grind [Mem.set_ne]) with h|h
    ·grind
    ·omega
theorem qGp{l:Nat}{V:Mem}{w:World}{fn:FuncId}{tmps:Array Value}{ps:Array Tmp}{assign body:Code}{D:Nat}{args:Array Value}{N n:Nat}(hl:V l=none)
  (hV:(V.set l (.loop (qDu fn tmps ps assign body D))).le w) {insA:List (Nat×Value)} {outsA:List Nat} {RA:List Value->Mem->Prop} {J:Mem->Prop} (hN:((ps.zip args).foldl (fun t (p,v)=>t.setIfInBounds p v) tmps).size=N)
  (hins:∀s v,insA.lookup s=some v->((ps.zip args).foldl (fun t (p,v)=>t.setIfInBounds p v) tmps).getD s undef=v)
  (hA:Seg P N [assign] insA outsA V RA) (hB:∀vs V1,RA vs V1->Seg P N [body] (outsA.zip vs) [] V1 fun _ V2=>J V2) :
  RoundIn (qAy none) n P l fn ((ps.zip args).foldl (fun t (p,v)=>t.setIfInBounds p v) tmps) assign body w fun e w' =>
   e=.returned (.bool true)/\∃V2,J V2/\V2 l=none/\Frm (V.set l (.loop (qDu fn tmps ps assign body D))) w (V2.set l (.loop (qDu fn tmps ps assign body D))) w':=by
 have hlw:w.heap[l]?=some (.loop (qDu fn tmps ps assign body D)):=hV l _ (Mem.set_same _ _ _)
 have hllt:l<w.heap.size:=(Array.getElem?_eq_some_iff.1 hlw).1
 have hVle:V.le w:=fun b o hb=>by
  have e:b≠l:=fun e=>by simp_all
  exact hV b o (by rw[Mem.set_ne e];exact hb)
 refine roundIn_of_wpIn (F:=qAy none) trivial ?_
 have h1:=hA (some l) n { tmps:=(ps.zip args).foldl (fun t (p,v)=>t.setIfInBounds p v) tmps,defers:=[] } w hVle hN hins
 refine wpIn_mono (show assign.wpIn (qAy (some l)) n P _ _ w from h1) ?_
 rintro e a1 w1 he
 cases e with
 | normal =>
  obtain⟨_,hd1,hN1,vs,V1,hs1,hR1,hF1⟩:=he
  have hl1:w1.heap[l]?=some (.loop (qDu fn tmps ps assign body D)):=(hF1.old l hllt hl).trans hlw
  refine⟨_,run_beginRound hl1 rfl,?_⟩
  have hlt1:l<w1.heap.size:=(Array.getElem?_eq_some_iff.1 hl1).1
  have hV1l:V1 l=none:=by
   cases hc:V1 l with
   | none=>rfl
   | some o =>
    rcases hF1.dom l (by rw[hc];simp) with h|h
    ·grind
    ·omega
  have hV1:V1.le (w1.putObj l (.loop { qDu fn tmps ps assign body D with state:=.busy })):=fun b o hb=>by
   have e:b≠l:=fun e=>by simp_all
   exact(World.putObj_heap_other e).trans (hF1.le b o hb)
  have h2:=hB vs V1 hR1 (some l) n a1 _ hV1 hN1 hs1
  refine wpIn_mono (show body.wpIn (qAy (some l)) n P _ _ _ from h2) ?_
  rintro e a2 w2 he2
  cases e with
  | normal =>
   obtain⟨_,_,_,_,V2,_,hJ,hF2⟩:=he2
   have hl2:w2.heap[l]?=some (.loop { qDu fn tmps ps assign body D with state:=.busy }):=(hF2.old l (by simp_all) hV1l).trans (World.putObj_heap_same hlt1)
   have hlt2:l<w2.heap.size:=(Array.getElem?_eq_some_iff.1 hl2).1
   have hV2l:V2 l=none:=by
    cases hc:V2 l with
    | none=>rfl
    | some o =>
     rcases hF2.dom l (by rw[hc];simp) with h|h
     ·grind
     grind [World.putObj_size]
   refine⟨_,_,run_endRound (P:=P) none hl2,rfl,V2,hJ,hV2l,?_⟩
   have z2:=hF2.size
   rw[World.putObj_size]at z2
   have z1:=hF1.size
   refine⟨?_,fun b o hb=>?_,fun b hb hn=>?_,fun b hb=>?_,?_,?_⟩
   ·rw[World.putObj_size];omega
   ·by_cases e:b=l
    ·subst e
     rw[Mem.set_same]at hb
     rw[<- hb];exact World.putObj_heap_same hlt2
    ·rw[Mem.set_ne e]at hb
     exact(World.putObj_heap_other e).trans (hF2.le b o hb)
   ·have e:b≠l:=fun e=>by grind [Mem.set_same]
    rw[Mem.set_ne e]at hn
    have hn1:V1 b=none:=by
     cases hc:V1 b with
     | none=>rfl
     | some o =>
      rcases hF1.dom b (by rw[hc];simp) with h|h
      ·grind
      ·omega
    refine(World.putObj_heap_other e).trans ((hF2.old b (by rw[World.putObj_size];omega) hn1).trans ((World.putObj_heap_other e).trans (hF1.old b hb hn)))
   ·by_cases e:b=l
    ·grind [Mem.set_same]
    ·rw[Mem.set_ne e]at hb ⊢
     rcases hF2.dom b hb with h|h
     ·rcases hF1.dom b h with h|h
      ·exact .inl h
      ·exact .inr h
     grind [inr,World.putObj_size]
   ·show w2.os=w.os;rw[hF2.os];exact hF1.os
   ·show w2.output=w.output;rw[hF2.out];exact hF1.out
  | _=>exact absurd he2.1 (by simp)
 | _=>exact absurd he.1 (by simp)
theorem qGL{f:FuncId}{fn:Func}{c:Code}{args:Array Value}{V:Mem}{R:Ending->Mem->Prop}(hf:P.funcs[f]?=some fn)(hb:fn.body=some c)
  (h:∀w,V.le w->wpL none 0 P (fun e a' w'=>(e=.normal∨e=.ret)/\∃Ds:List Nat,a'.defers=Ds.map (fun D=>{ target:=.collected D,args:=#[] })/\Ds.Nodup/\∃V',Frm V w V' w' /\
    (∀D∈Ds,w.heap.size<=D/\w'.heap[D]?=some (.deferred (some []))/\V' D=none)/\∃v,(∀w'',V'.le w''->(results fn a'.tmps).run P w''=.ok v w'')/\R (.returned v) V')
   (flat c) { tmps:=args++Array.replicate (fn.ntmps-args.size) undef,defers:=[] } w):Tri P f args V R:=by
 intro w hV
 have key:∀(Ds:List Nat) (a':Act) (V':Mem) (v:Value) (w':World),Ds.Nodup->Frm V w V' w'->(∀D∈Ds,w.heap.size<=D/\w'.heap[D]?=some (.deferred (some []))/\V' D=none) ->
   (∀w'',V'.le w''->(results fn a'.tmps).run P w''=.ok v w'')->R (.returned v) V' ->
   LeavesInM (qAy none) 0 P fn a'.tmps (fun e w'=>∃V',R e V'/\Frm V w V' w') (Ds.map fun D=>{ target:=.collected D,args:=#[] }) .returning w':=by
  intro Ds a' V' v
  induction Ds with
  | nil=>intro w' _ hF _ hr hR;exact⟨v,hr w' hF.le,V',hR,hF⟩
  | cons D Ds ih =>
   intro w' hnd hF hD hr hR
   obtain⟨hD1,hD2,hD3⟩:=hD D (by simp)
   have hlt:=(Array.getElem?_eq_some_iff.1 hD2).1
   refine⟨by simp,.inl ⟨D,_,rfl,run_takeDeferred hD2,ih _ (List.nodup_cons.1 hnd).2 ?_ ?_ hr hR⟩⟩
   ·refine⟨by grind [World.putObj_size],fun b o hb=>?_,fun b hb hn=>?_,hF.dom,hF.os,hF.out⟩
    ·have e:b≠D:=fun e=>by simp_all
     exact(World.putObj_heap_other e).trans (hF.le b o hb)
    ·exact(World.putObj_heap_other (by omega)).trans (hF.old b hb hn)
   grind [D,List.nodup_cons,World.putObj_heap_other]
 refine(callsIn_wide (n:=0)).1 (callsIn_of_wp_marks (F:=qAy none) hf hb trivial (qCm ?_) rfl)
 refine qCx ?_ (h w hV)
 rintro e a' w' ⟨he,Ds,hd,hnd,V',hF,hD,v,hr,hR⟩
 rcases he with rfl|rfl
 ·show LeavesInM _ _ _ _ _ _ a'.defers _ _
  grind
 ·show LeavesInM _ _ _ _ _ _ a'.defers _ _
  grind
end
def kid:Code->Nat->Code
 | .block _ b,_=>b
 | .loop b,_=>b
 | .cond _ x y,j=>if j=0 then x else y
 | .rangeFunc _ _ x y,j=>if j=0 then x else y
 | c,_=>c
def qCi(c:Code):List Nat->List Code
 | i::j::p=>match (flat c)[i]? with|some d=>qCi (kid d j) p|none=>[]
 | _=>flat c
def qEl:Code->Array Oper
 | .region _ ops _=>ops
 | _=>#[]
def qAm(f:Func):Code:=f.body.getD .skip
section
variable{P:Program}{fs:List Nat}{H:qGH}
def qCS(P:Program)(N:Nat)(ops:Array Oper)(k m:Nat)(ins:List (Nat×Value))(outs:List Nat)(V:Mem)(R:List Value->Mem->Prop):Prop :=
 ∀r n a w,V.le w->a.tmps.size=N->(∀s v,ins.lookup s=some v->a.tmps.getD s undef=v) ->
  wpOpsIn (qAy r) n P ops (fun e a' w'=>e=.normal/\a'.defers=a.defers/\a'.tmps.size=N/\∃vs V',(∀s v,(outs.zip vs).lookup s=some v->a'.tmps.getD s undef=v)/\R vs V'/\Frm V w V' w') (List.range' k m) a w
def segOT(P:Program)(fs:List Nat)(H:qGH)(ops:Array Oper)(k m:Nat)(slots:List (Nat×T))(nv:Nat)(outs:List Nat):Tr :=
 if (slots.all fun x=>x.2.wf nv 0)/\(ops.all fun o=>qFJ o.op)/\((ops.toList.drop k).take m).length=m then
  qKH P fs H ops ((ops.toList.drop k).take m) { slots,boxes:=[],nv,nb:=0,depth:=0 } fun st =>
   pubT (st.nb+2) st (fun st=>(qEu st outs).map T.tup) fun _ t=>.ret t
 else .bad 61 0
theorem sego_sound(hcalls:qBN P fs){N:Nat}{ops:Array Oper}{k m:Nat}{slots:List (Nat×T)}{nv:Nat}{outs:List Nat}{t:Tr}(ht:segOT P fs { H with N:=N } ops k m slots nv outs=t)(ρ:List Value)(hn:ρ.length=nv)
  {ins:List (Nat×Value)} (hins:ins=slots.map fun x=>(x.1,x.2.ev ρ id)) {V:Mem} {R:List Value->Mem->Prop} {q:Prop} (hq:q=DT P {} (fun e V'=>∃vs:List Value,e=.returned (.tuple vs.toArray)/\R vs V') t [] ρ V) (h:q) :
  qCS P N ops k m ins outs V R:=by
 intro r n a w hV hN hs
 subst hq hins ht
 have hD:=qBA _ _ _ _ h
 unfold segOT at hD
 split at hD
 case isFalse=>exact hD.elim
 rename_i hw
 obtain⟨hwf,hnd,hlen⟩:=hw
 have e1:(List.range' k m)=List.range' k ((ops.toList.drop k).take m).length:=by rw[hlen]
 rw[e1]
 refine qDs (fun h=>by obtain⟨_,_,h,_⟩:=h;cases h) (fun o ho=>qDl (by grind [Array.all_eq_true'])) _ _ (fun j hj=>?_) a w ?_
 ·simp_all
 refine qCN (L:=[]) (ρ0:=ρ) (V0:=V) (w0:=w) (O:=noO) hcalls _ _ a w (fun _ _ _ _ h=>by simp_all) ⟨id,ρ,V,⟨List.prefix_refl _,rfl⟩,?_,hD⟩ ?_
 ·exact
   {nv:=hn
    size:=hN
    slots:=fun s t hg=>by
     have hl:=qCF hg
     simp_all [qDn,id]
    frm:=Frm.refl hV
    boxes:=fun i cs ty hi=>by simp[St.box]at hi
    hid:=fun b o hb=>by cases hb
    inj:=fun i j hi _ _=>by grind }
 ·intro st' a' w' hd hg
  obtain⟨st2,t2,hg2,hfree,β,ρ2,V2,hp,hr,hD⟩:=qAN _ _ _ _ hg
  simp only[Option.map_eq_some_iff]at hg2
  obtain⟨x,hx,rfl⟩:=hg2
  simp only[D]at hD
  obtain⟨vs,h1,h2⟩:=hD
  simp only[T.ev,Ending.returned.injEq,Value.tuple.injEq]at h1
  have h1':T.evs ρ2 id x=vs:=by simp_all
  refine⟨rfl,hd,hr.size,vs,V2,fun s v hsv=>?_,h2,hr.frm⟩
  rw[<- h1',qAD]at hsv
  obtain⟨t,g1,g2,g3⟩:=qDm hsv
  obtain⟨y,g4,g5⟩:=qDR hx s g3
  have g6:=qCD hx s g3
  rw[g1,g4]at g6
  simp only[Option.some.injEq]at g6;subst g6
  rw[hr.slots s t g4,<- g2]
  grind [qHA,T.firstBox,T.ev_free]
theorem wpOpIn_monoQ{F:Fence}{n:Nat}{ops:Array Oper}{Q Q':Exit->Act->World->Prop}(hp:∀c a w,Q' (.panic c) a w->Q (.panic c) a w)(ho:LetsOut Q'->LetsOut Q){i:Nat}{a:Act}{w:World}{K K':Act->World->Prop}(h:∀a w,K a w->K' a w)
  (hh:wpOpIn F n P ops Q' i K a w):wpOpIn F n P ops Q i K' a w:=by
 unfold wpOpIn at *
 split
 ·simp_all
 ·rename_i o hoi
  simp only[hoi]at hh
  split
  ·rename_i hw
   simp only[hw,if_true]at hh
   unfold Oper.wpIn at *
   refine⟨hh.1,?_⟩
   have hh:=hh.2
   generalize (o.semAt F.round a.eval).run P w=r at *
   cases r with
   | ok x w' =>
    cases x <;> simp only[Oper.uponIn]at hh ⊢ <;>
     first
      | exact h _ _ hh
      | exact⟨hh.1,CallsIn.mono hh.2 (fun e w'' he=>by grind)⟩
      | exact⟨hh.1,RowsIn.mono hh.2 (fun _ _ he=>h _ _ he)⟩
      | grind [RoundIn.mono]
   | halt x w'=>cases x <;> simp only[Oper.uponIn]at hh ⊢ <;> first|grind|exact hh
  simp_all
theorem qIS{F:Fence}{n:Nat}{ops:Array Oper}{Q Q':Exit->Act->World->Prop}(hp:∀c a w,Q' (.panic c) a w->Q (.panic c) a w)(ho:LetsOut Q'->LetsOut Q){l2:List Nat}(hq:∀a w,Q' .normal a w->wpOpsIn F n P ops Q l2 a w):∀{l1:List Nat} {a:Act} {w:World},
  wpOpsIn F n P ops Q' l1 a w->wpOpsIn F n P ops Q (l1++l2) a w:=by
 intro l1
 induction l1 with
 | nil=>exact fun h=>hq _ _ h
 | cons i l1 ih =>
  grind [wpOpsIn_cons,wpOpIn_monoQ]
end
end Go.Sx
namespace Go.Proofs
open Go Go.Sx
set_option maxRecDepth 100000
set_option linter.unusedVariables false
section
variable{V:Mem}{R:RP}
theorem qBl{H:qGH}{N:Nat}{cs:List Code}(slots:List (Nat×T)){outs:List Nat}(ρ:List Value){ins:List (Nat×Value)}(hins:ins=slots.map fun x=>(x.1,x.2.ev ρ id)){V:Mem}{R:List Value->Mem->Prop}{q:Prop}
  (hq:q=DT Tryz.prog {} (OV R) (segT Tryz.prog fs { H with N:=N } cs slots ρ.length outs) [] ρ V) (h:q):Seg Tryz.prog N cs ins outs V R :=
 seg_sound (H:=H) qHD qKm rfl ρ rfl hins hq h
theorem qAv{H:qGH}{N:Nat}{ops:Array Oper}{k m:Nat}(slots:List (Nat×T)){outs:List Nat}(ρ:List Value){ins:List (Nat×Value)}(hins:ins=slots.map fun x=>(x.1,x.2.ev ρ id)){V:Mem}{R:List Value->Mem->Prop}{q:Prop}
  (hq:q=DT Tryz.prog {} (OV R) (segOT Tryz.prog fs { H with N:=N } ops k m slots ρ.length outs) [] ρ V) (h:q):qCS Tryz.prog N ops k m ins outs V R :=
 sego_sound (H:=H) qHD rfl ρ rfl hins hq h
noncomputable def c311a:List Code:=((qCi (qAm Tryz.f311) []).drop 0).take 1
def w311a(a:Value)(b:Option Addr):MR:=fun V R=>∃c,V.rowp b ((0:Int).toNat*1) 1=some [uL c]/\IR ((c.n:Int)-1)/\R (rT #[K.cast .f a,uP b,uI ((c.n:Int)-1)]) V
theorem s311a{a:Value}{b:Option Addr}{V:Mem}{R:List Value->Mem->Prop}(h:w311a a b V (OV R)):Seg Tryz.prog 19 c311a [(0,K.cast .f a),(1,uP b)] [0,1,3] V R :=
 qBl (H:=hK 19) [(0,(.var .f 0)),(1,(.var .p 1))] [a,uP b] rfl (by kernel_rfl) h
noncomputable def c311b:List Code:=((qCi (qAm Tryz.f311) [1,0,0,0]).drop 0).take 1
def w311b(a:Value)(b:Option Addr)(c:Int):MR:=fun V R=>R (rT #[K.cast .f a,uP b,uI c,uB (decide (0<=c))]) V
theorem s311b{a:Value}{b:Option Addr}{c:Int}{V:Mem}{R:List Value->Mem->Prop}(h:w311b a b c V (OV R)):Seg Tryz.prog 19 c311b [(0,K.cast .f a),(1,uP b),(3,uI c)] [0,1,3,8] V R :=
 qBl (H:=hK 19) [(0,(.var .f 0)),(1,(.var .p 1)),(3,(.var (.i .i64) 2))] [a,uP b,uI c] rfl (by kernel_rfl) h
noncomputable def c311c:Array Oper:=qEl ((qCi (qAm Tryz.f311) [1,0,0,0,2,0]).getD 0 .skip)
def w311c(a:Value)(b:Option Addr)(c:Int):MR:=fun V R=>∃d,V.rowp b ((0:Int).toNat*1) 1=some [uL d]/\Ix d c (∃g i,V.rowp d.p (c.toNat*2) 2=some [uS g,uS i]/\R (rT #[K.cast .f a,uP b,uI c,K.cast .f a,uI c,uA #[uS g,uS i]]) V)
theorem s311c{a:Value}{b:Option Addr}{c:Int}{V:Mem}{R:List Value->Mem->Prop}(h:w311c a b c V (OV R)):qCS Tryz.prog 19 c311c 0 6 [(0,K.cast .f a),(1,uP b),(3,uI c)] [0,1,3,11,12,16] V R :=
 qAv (H:=hK 19) [(0,(.var .f 0)),(1,(.var .p 1)),(3,(.var (.i .i64) 2))] [a,uP b,uI c] rfl (by kernel_rfl) h
noncomputable def c311d:Array Oper:=qEl ((qCi (qAm Tryz.f311) [1,0,0,0,2,0]).getD 0 .skip)
def w311d(a:Value)(b:Option Addr)(c:Int)(d:Bool):MR:=fun V R=>R (rT #[K.cast .f a,uP b,uI c,uB (!d)]) V
theorem s311d{a:Value}{b:Option Addr}{c:Int}{d:Bool}{V:Mem}{R:List Value->Mem->Prop}(h:w311d a b c d V (OV R)):qCS Tryz.prog 19 c311d 7 1 [(0,K.cast .f a),(1,uP b),(3,uI c),(17,uB d)] [0,1,3,18] V R :=
 qAv (H:=hK 19) [(0,(.var .f 0)),(1,(.var .p 1)),(3,(.var (.i .i64) 2)),(17,(.var .b 3))] [a,uP b,uI c,uB d] rfl (by kernel_rfl) h
noncomputable def c311e:List Code:=((qCi (qAm Tryz.f311) [1,0,0,0]).drop 3).take 1
def w311e(a:Value)(b:Option Addr)(c:Int):MR:=fun V R=>IR (c-1)/\R (rT #[K.cast .f a,uP b,uI (c-1)]) V
theorem s311e{a:Value}{b:Option Addr}{c:Int}{V:Mem}{R:List Value->Mem->Prop}(h:w311e a b c V (OV R)):Seg Tryz.prog 19 c311e [(0,K.cast .f a),(1,uP b),(3,uI c)] [0,1,3] V R :=
 qBl (H:=hK 19) [(0,(.var .f 0)),(1,(.var .p 1)),(3,(.var (.i .i64) 2))] [a,uP b,uI c] rfl (by kernel_rfl) h
noncomputable def c218a:List Code:=((qCi (qAm Tryz.f218) []).drop 0).take 1
def w218a(a:Value)(b:Option Addr):MR:=fun V R=>∃c,V.rowp b ((0:Int).toNat*1) 1=some [uL c]/\IR ((c.n:Int)-1)/\R (rT #[K.cast .f a,uP b,uI ((c.n:Int)-1)]) V
theorem s218a{a:Value}{b:Option Addr}{V:Mem}{R:List Value->Mem->Prop}(h:w218a a b V (OV R)):Seg Tryz.prog 19 c218a [(0,K.cast .f a),(1,uP b)] [0,1,3] V R :=
 qBl (H:=hK 19) [(0,(.var .f 0)),(1,(.var .p 1))] [a,uP b] rfl (by kernel_rfl) h
noncomputable def c218b:List Code:=((qCi (qAm Tryz.f218) [1,0,0,0]).drop 0).take 1
def w218b(a:Value)(b:Option Addr)(c:Int):MR:=fun V R=>R (rT #[K.cast .f a,uP b,uI c,uB (decide (0<=c))]) V
theorem s218b{a:Value}{b:Option Addr}{c:Int}{V:Mem}{R:List Value->Mem->Prop}(h:w218b a b c V (OV R)):Seg Tryz.prog 19 c218b [(0,K.cast .f a),(1,uP b),(3,uI c)] [0,1,3,8] V R :=
 qBl (H:=hK 19) [(0,(.var .f 0)),(1,(.var .p 1)),(3,(.var (.i .i64) 2))] [a,uP b,uI c] rfl (by kernel_rfl) h
noncomputable def c218c:Array Oper:=qEl ((qCi (qAm Tryz.f218) [1,0,0,0,2,0]).getD 0 .skip)
def w218c(a:Value)(b:Option Addr)(c:Int):MR:=fun V R=>∃d,V.rowp b ((0:Int).toNat*1) 1=some [uL d]/\Ix d c (∃g i,V.rowp d.p (c.toNat*2) 2=some [uS g,uL i]/\R (rT #[K.cast .f a,uP b,uI c,K.cast .f a,uI c,uA #[uS g,uL i]]) V)
theorem s218c{a:Value}{b:Option Addr}{c:Int}{V:Mem}{R:List Value->Mem->Prop}(h:w218c a b c V (OV R)):qCS Tryz.prog 19 c218c 0 6 [(0,K.cast .f a),(1,uP b),(3,uI c)] [0,1,3,11,12,16] V R :=
 qAv (H:=hK 19) [(0,(.var .f 0)),(1,(.var .p 1)),(3,(.var (.i .i64) 2))] [a,uP b,uI c] rfl (by kernel_rfl) h
noncomputable def c218d:Array Oper:=qEl ((qCi (qAm Tryz.f218) [1,0,0,0,2,0]).getD 0 .skip)
def w218d(a:Value)(b:Option Addr)(c:Int)(d:Bool):MR:=fun V R=>R (rT #[K.cast .f a,uP b,uI c,uB (!d)]) V
theorem s218d{a:Value}{b:Option Addr}{c:Int}{d:Bool}{V:Mem}{R:List Value->Mem->Prop}(h:w218d a b c d V (OV R)):qCS Tryz.prog 19 c218d 7 1 [(0,K.cast .f a),(1,uP b),(3,uI c),(17,uB d)] [0,1,3,18] V R :=
 qAv (H:=hK 19) [(0,(.var .f 0)),(1,(.var .p 1)),(3,(.var (.i .i64) 2)),(17,(.var .b 3))] [a,uP b,uI c,uB d] rfl (by kernel_rfl) h
noncomputable def c218e:List Code:=((qCi (qAm Tryz.f218) [1,0,0,0]).drop 3).take 1
def w218e(a:Value)(b:Option Addr)(c:Int):MR:=fun V R=>IR (c-1)/\R (rT #[K.cast .f a,uP b,uI (c-1)]) V
theorem s218e{a:Value}{b:Option Addr}{c:Int}{V:Mem}{R:List Value->Mem->Prop}(h:w218e a b c V (OV R)):Seg Tryz.prog 19 c218e [(0,K.cast .f a),(1,uP b),(3,uI c)] [0,1,3] V R :=
 qBl (H:=hK 19) [(0,(.var .f 0)),(1,(.var .p 1)),(3,(.var (.i .i64) 2))] [a,uP b,uI c] rfl (by kernel_rfl) h
noncomputable def c219a:List Code:=((qCi (qAm Tryz.f219) []).drop 0).take 1
def w219a(a:Value)(b:Option Addr):MR:=fun V R=>∃c,V.rowp b ((0:Int).toNat*1) 1=some [uL c]/\IR ((c.n:Int)-1)/\R (rT #[K.cast .f a,uP b,uI ((c.n:Int)-1)]) V
theorem s219a{a:Value}{b:Option Addr}{V:Mem}{R:List Value->Mem->Prop}(h:w219a a b V (OV R)):Seg Tryz.prog 19 c219a [(0,K.cast .f a),(1,uP b)] [0,1,3] V R :=
 qBl (H:=hK 19) [(0,(.var .f 0)),(1,(.var .p 1))] [a,uP b] rfl (by kernel_rfl) h
noncomputable def c219b:List Code:=((qCi (qAm Tryz.f219) [1,0,0,0]).drop 0).take 1
def w219b(a:Value)(b:Option Addr)(c:Int):MR:=fun V R=>R (rT #[K.cast .f a,uP b,uI c,uB (decide (0<=c))]) V
theorem s219b{a:Value}{b:Option Addr}{c:Int}{V:Mem}{R:List Value->Mem->Prop}(h:w219b a b c V (OV R)):Seg Tryz.prog 19 c219b [(0,K.cast .f a),(1,uP b),(3,uI c)] [0,1,3,8] V R :=
 qBl (H:=hK 19) [(0,(.var .f 0)),(1,(.var .p 1)),(3,(.var (.i .i64) 2))] [a,uP b,uI c] rfl (by kernel_rfl) h
noncomputable def c219c:Array Oper:=qEl ((qCi (qAm Tryz.f219) [1,0,0,0,2,0]).getD 0 .skip)
def w219c(a:Value)(b:Option Addr)(c:Int):MR:=fun V R=>∃d,V.rowp b ((0:Int).toNat*1) 1=some [uL d]/\Ix d c (∃g i j k l,V.rowp d.p (c.toNat*5) 5=some [uS g,uL i,uS j,uL k,uL l]/\R (rT #[K.cast .f a,uP b,uI c,K.cast .f a,uI c,uA #[uS g,uL i,uS j,uL k,uL l]]) V)
theorem s219c{a:Value}{b:Option Addr}{c:Int}{V:Mem}{R:List Value->Mem->Prop}(h:w219c a b c V (OV R)):qCS Tryz.prog 19 c219c 0 6 [(0,K.cast .f a),(1,uP b),(3,uI c)] [0,1,3,11,12,16] V R :=
 qAv (H:=hK 19) [(0,(.var .f 0)),(1,(.var .p 1)),(3,(.var (.i .i64) 2))] [a,uP b,uI c] rfl (by kernel_rfl) h
noncomputable def c219d:Array Oper:=qEl ((qCi (qAm Tryz.f219) [1,0,0,0,2,0]).getD 0 .skip)
def w219d(a:Value)(b:Option Addr)(c:Int)(d:Bool):MR:=fun V R=>R (rT #[K.cast .f a,uP b,uI c,uB (!d)]) V
theorem s219d{a:Value}{b:Option Addr}{c:Int}{d:Bool}{V:Mem}{R:List Value->Mem->Prop}(h:w219d a b c d V (OV R)):qCS Tryz.prog 19 c219d 7 1 [(0,K.cast .f a),(1,uP b),(3,uI c),(17,uB d)] [0,1,3,18] V R :=
 qAv (H:=hK 19) [(0,(.var .f 0)),(1,(.var .p 1)),(3,(.var (.i .i64) 2)),(17,(.var .b 3))] [a,uP b,uI c,uB d] rfl (by kernel_rfl) h
noncomputable def c219e:List Code:=((qCi (qAm Tryz.f219) [1,0,0,0]).drop 3).take 1
def w219e(a:Value)(b:Option Addr)(c:Int):MR:=fun V R=>IR (c-1)/\R (rT #[K.cast .f a,uP b,uI (c-1)]) V
theorem s219e{a:Value}{b:Option Addr}{c:Int}{V:Mem}{R:List Value->Mem->Prop}(h:w219e a b c V (OV R)):Seg Tryz.prog 19 c219e [(0,K.cast .f a),(1,uP b),(3,uI c)] [0,1,3] V R :=
 qBl (H:=hK 19) [(0,(.var .f 0)),(1,(.var .p 1)),(3,(.var (.i .i64) 2))] [a,uP b,uI c] rfl (by kernel_rfl) h
noncomputable def c267a:List Code:=((qCi (qAm Tryz.f267) []).drop 0).take 3
def w267a(a:Option Addr)(b:Bool)(c:Sl):MR:=fun V R=>GenK Tryz.prog (.makeMap 312 none) 312 (gv []) V fun x V1=>∃d,x=uM d/\¬a=none/\¬a=none/\¬(qAa a 0)=none/\∃g,V1.rowp a 2 1=some [uL g]/\TT 296 #[uL g] V1 fun e V2=>∃i,K.f.ok i/\e=rV i/\qAp [uP none,uM none,uB false] 314 V2 fun j V3=>qAp [uP a,uM d,uB b] 314 V3 fun k V4=>R (rT #[uP a,uB b,uL c,uP (qAa j 0),uP (qAa k 0),K.cast .f i]) V4
theorem s267a{a:Option Addr}{b:Bool}{c:Sl}{V:Mem}{R:List Value->Mem->Prop}(h:w267a a b c V (OV R)):Seg Tryz.prog 63 c267a [(0,uP a),(1,uB b),(2,uL c)] [0,1,2,6,7,24] V R :=
 qBl (H:=hK 63) [(0,(.var .p 0)),(1,(.var .b 1)),(2,(.var .sl 2))] [uP a,uB b,uL c] rfl (by kernel_rfl) h
noncomputable def c267b:List Code:=((qCi (qAm Tryz.f267) [3,0,0,0]).drop 0).take 1
def w267b(a:Option Addr)(b c:ByteArray):MR:=fun V R=>qAp [uS b,uS c] 101 V fun d V1=>R (rT #[uP a,uP (qAa d 0)]) V1
theorem s267b{a:Option Addr}{b c:ByteArray}{V:Mem}{R:List Value->Mem->Prop}(h:w267b a b c V (OV R)):Seg Tryz.prog 63 c267b [(7,uP a),(26,uA #[uS b,uS c])] [7,9] V R :=
 qBl (H:=hK 63) [(7,(.var .p 0)),(26,(.agg (.cons (.var .s 1) (.cons (.var .s 2) .nil))))] [uP a,uS b,uS c] rfl (by kernel_rfl) h
noncomputable def c267c:List Code:=((qCi (qAm Tryz.f267) [3,0,0,1]).drop 0).take 1
def w267c(a b:Option Addr):MR:=fun V R=>¬a=none/\∃c,V.rowp a 1 1=some [uM c]/\¬b=none/\∃d,V.rowp b ((0:Int).toNat*1) 1=some [uS d]/\¬b=none/\∃g,V.rowp b 1 1=some [uS g]/\qCv Tryz.prog 312 (uM c) (uS d) (uS g) V fun V1=>R (rT #[]) V1
theorem s267c{a b:Option Addr}{V:Mem}{R:List Value->Mem->Prop}(h:w267c a b V (OV R)):Seg Tryz.prog 63 c267c [(7,uP a),(9,uP b)] [] V R :=
 qBl (H:=hK 63) [(7,(.var .p 0)),(9,(.var .p 1))] [uP a,uP b] rfl (by kernel_rfl) h
noncomputable def c267d:List Code:=((qCi (qAm Tryz.f267) []).drop 4).take 4
def w267d(a:Option Addr)(b:Bool)(c:Sl)(d g:Option Addr):MR:=fun V R=>GenK Tryz.prog (.makeMap 357 none) 357 (gv []) V fun x V1=>∃i,x=uM i/\Lp [uI 0] V1 fun I n V2=>∀j,I n [uI j] V2->∀J0:LMP,Nx I n J0->Br (j<(c.n:Int)) (Ix c j (∃k,V2.rowp c.p (j.toNat*1) 1=some [uL k]/\Lp [uI 0] V2 fun I n V3=>∀l,I n [uI l] V3->∀J1:LMP,Nx I n J1->Br (l<(k.n:Int)) (Ix k l (∃o p,V3.rowp k.p (l.toNat*2) 2=some [uS o,uS p]/\qBi Tryz.prog 357 (uM i) (uS o) false V3 fun x=>∃q,x=uB q/\Br (q=true) (IR (l+1)/\J1 [uI (l+1)] V3) (¬g=none/\∃r,V3.rowp g 1 1=some [uM r]/\qCv Tryz.prog 312 (uM r) (uS o) (uS p) V3 fun V4=>qCv Tryz.prog 357 (uM i) (uS o) (.bool true) V4 fun V5=>IR (l+1)/\J1 [uI (l+1)] V5))) (IR (j+1)/\J0 [uI (j+1)] V3))) (∃k l o,V2.rowp g ((0:Int).toNat*1) 3=some [uP k,uM l,uB o]/\StT d 0 [uP k,uM l,uB o] V2 fun V3=>R (rT #[uP d]) V3)
theorem s267d{a:Option Addr}{b:Bool}{c:Sl}{d g:Option Addr}{V:Mem}{R:List Value->Mem->Prop}(h:w267d a b c d g V (OV R)):Seg Tryz.prog 63 c267d [(0,uP a),(1,uB b),(2,uL c),(6,uP d),(7,uP g)] [6] V R :=
 qBl (H:=hK 63) [(0,(.var .p 0)),(1,(.var .b 1)),(2,(.var .sl 2)),(6,(.var .p 3)),(7,(.var .p 4))] [uP a,uB b,uL c,uP d,uP g] rfl (by kernel_rfl) h
noncomputable def c158a:List Code:=((qCi (qAm Tryz.f158) []).drop 0).take 3
def w158a(a:ByteArray)(b c d g i j k:Sl):MR:=fun V R=>GenK Tryz.prog (.makeMap 269 none) 269 (gv []) V fun x V1=>∃l,x=uM l/\GenK Tryz.prog (.makeMap 270 none) 270 (gv []) V1 fun x V2=>∃o,x=uM o/\TT 189 #[uL b] V2 fun e V3=>∃p,K.f.ok p/\e=rV p/\qAp [uS a,uL b,uL c,uL d,uL g,uL i,uL j,uL k] 30 V3 fun q V4=>qAp [uS a,uL b,uL c,uL d,uL g,uL i,uL j,uL k,uM l,uM o] 272 V4 fun r V5=>qAp [uP (qAa r 0)] 234 V5 fun s V6=>R (rT #[uP (qAa q 0),uP (qAa s 0),K.cast .f p]) V6
theorem s158a{a:ByteArray}{b c d g i j k:Sl}{V:Mem}{R:List Value->Mem->Prop}(h:w158a a b c d g i j k V (OV R)):Seg Tryz.prog 38 c158a [(0,uD a b c d g i j k)] [1,3,15] V R :=
 qBl (H:=hK 38) [(0,(.agg (.cons (.var .s 0) (.cons (.var .sl 1) (.cons (.var .sl 2) (.cons (.var .sl 3) (.cons (.var .sl 4) (.cons (.var .sl 5) (.cons (.var .sl 6) (.cons (.var .sl 7) .nil))))))))))] [uS a,uL b,uL c,uL d,uL g,uL i,uL j,uL k] rfl (by kernel_rfl) h
noncomputable def c158b:List Code:=((qCi (qAm Tryz.f158) [3,0,0,0]).drop 0).take 1
def w158b(a:Option Addr)(b:ByteArray)(c:Sl):MR:=fun V R=>qAp [uS b,uL c] 98 V fun d V1=>R (rT #[uP a,uP (qAa d 0)]) V1
theorem s158b{a:Option Addr}{b:ByteArray}{c:Sl}{V:Mem}{R:List Value->Mem->Prop}(h:w158b a b c V (OV R)):Seg Tryz.prog 38 c158b [(3,uP a),(17,uA #[uS b,uL c])] [3,5] V R :=
 qBl (H:=hK 38) [(3,(.var .p 0)),(17,(.agg (.cons (.var .s 1) (.cons (.var .sl 2) .nil))))] [uP a,uS b,uL c] rfl (by kernel_rfl) h
noncomputable def c158c:List Code:=((qCi (qAm Tryz.f158) [3,0,0,1]).drop 0).take 1
def w158c(a b:Option Addr):MR:=fun V R=>∃c,V.rowp a ((0:Int).toNat*1) 1=some [uP c]/\¬c=none/\¬c=none/\∃d,V.rowp c 8 1=some [uM d]/\¬b=none/\∃g,V.rowp b ((0:Int).toNat*1) 1=some [uS g]/\∃i j,V.rowp b ((0:Int).toNat*1) 2=some [uS i,uL j]/\qCv Tryz.prog 269 (uM d) (uS g) (uA #[uS i,uL j]) V fun V1=>R (rT #[]) V1
theorem s158c{a b:Option Addr}{V:Mem}{R:List Value->Mem->Prop}(h:w158c a b V (OV R)):Seg Tryz.prog 38 c158c [(3,uP a),(5,uP b)] [] V R :=
 qBl (H:=hK 38) [(3,(.var .p 0)),(5,(.var .p 1))] [uP a,uP b] rfl (by kernel_rfl) h
noncomputable def c158d:List Code:=((qCi (qAm Tryz.f158) []).drop 4).take 1
def w158d(a b:Option Addr):MR:=fun V R=>¬a=none/\∃c,V.rowp a 3 1=some [uL c]/\TT 190 #[uL c] V fun e V1=>∃d,K.f.ok d/\e=rV d/\R (rT #[uP b,K.cast .f d]) V1
theorem s158d{a b:Option Addr}{V:Mem}{R:List Value->Mem->Prop}(h:w158d a b V (OV R)):Seg Tryz.prog 38 c158d [(1,uP a),(3,uP b)] [3,27] V R :=
 qBl (H:=hK 38) [(1,(.var .p 0)),(3,(.var .p 1))] [uP a,uP b] rfl (by kernel_rfl) h
noncomputable def c158e:List Code:=((qCi (qAm Tryz.f158) [5,0,0,0]).drop 0).take 1
def w158e(a:Option Addr)(b:ByteArray)(c:Sl)(d:ByteArray)(g i:Sl):MR:=fun V R=>qAp [uS b,uL c,uS d,uL g,uL i] 143 V fun j V1=>R (rT #[uP a,uP (qAa j 0)]) V1
theorem s158e{a:Option Addr}{b:ByteArray}{c:Sl}{d:ByteArray}{g i:Sl}{V:Mem}{R:List Value->Mem->Prop}(h:w158e a b c d g i V (OV R)):Seg Tryz.prog 38 c158e [(3,uP a),(29,uA #[uS b,uL c,uS d,uL g,uL i])] [3,7] V R :=
 qBl (H:=hK 38) [(3,(.var .p 0)),(29,(.agg (.cons (.var .s 1) (.cons (.var .sl 2) (.cons (.var .s 3) (.cons (.var .sl 4) (.cons (.var .sl 5) .nil)))))))] [uP a,uS b,uL c,uS d,uL g,uL i] rfl (by kernel_rfl) h
noncomputable def c158f:List Code:=((qCi (qAm Tryz.f158) [5,0,0,1]).drop 0).take 1
def w158f(a b:Option Addr):MR:=fun V R=>∃c,V.rowp a ((0:Int).toNat*1) 1=some [uP c]/\¬c=none/\¬c=none/\∃d,V.rowp c 9 1=some [uM d]/\¬b=none/\∃g,V.rowp b ((0:Int).toNat*1) 1=some [uS g]/\∃i j k l o,V.rowp b ((0:Int).toNat*1) 5=some [uS i,uL j,uS k,uL l,uL o]/\qCv Tryz.prog 270 (uM d) (uS g) (uA #[uS i,uL j,uS k,uL l,uL o]) V fun V1=>R (rT #[]) V1
theorem s158f{a b:Option Addr}{V:Mem}{R:List Value->Mem->Prop}(h:w158f a b V (OV R)):Seg Tryz.prog 38 c158f [(3,uP a),(7,uP b)] [] V R :=
 qBl (H:=hK 38) [(3,(.var .p 0)),(7,(.var .p 1))] [uP a,uP b] rfl (by kernel_rfl) h
noncomputable def c158g:List Code:=((qCi (qAm Tryz.f158) []).drop 6).take 1
def w158g(a:Option Addr):MR:=fun V R=>∃b,V.rowp a ((0:Int).toNat*1) 1=some [uP b]/\R (rT #[uP b]) V
theorem s158g{a:Option Addr}{V:Mem}{R:List Value->Mem->Prop}(h:w158g a V (OV R)):Seg Tryz.prog 38 c158g [(3,uP a)] [2] V R :=
 qBl (H:=hK 38) [(3,(.var .p 0))] [uP a] rfl (by kernel_rfl) h
end
end Go.Proofs
namespace Go.Sx
open Go
section
variable{P:Program}
def Has(N:Nat)(a:Act)(l:List (Nat×Value)):Prop:=a.tmps.size=N/\∀s v,l.lookup s=some v->a.tmps.getD s undef=v
theorem Seg.step{r:Option Nat}{n N:Nat}{Q:Exit->Act->World->Prop}{cs rest:List Code}{ins:List (Nat×Value)}{outs:List Nat}{V:Mem}{R:List Value->Mem->Prop}{a:Act}{w:World}(h:Seg P N cs ins outs V R)(hV:V.le w)(ha:Has N a ins)
  (k:∀a' w' vs V',a'.defers=a.defers->Has N a' (outs.zip vs)->R vs V'->Frm V w V' w'->wpL r n P Q rest a' w'):wpL r n P Q (cs++rest) a w:=by
 refine qJd (qCx ?_ (h r n a w hV ha.1 ha.2))
 rintro e a' w' ⟨rfl,h1,h2,vs,V',h3,h4,h5⟩
 exact k a' w' vs V' h1 ⟨h2,h3⟩ h4 h5
theorem qCS.step{r:Option Nat}{n N k m:Nat}{Q:Exit->Act->World->Prop}{ops:Array Oper}{rest:List Nat}{ins:List (Nat×Value)}{outs:List Nat}{V:Mem}{R:List Value->Mem->Prop}{a:Act}{w:World}(h:qCS P N ops k m ins outs V R)(hV:V.le w)(ha:Has N a ins)
  (go:∀a' w' vs V',a'.defers=a.defers->Has N a' (outs.zip vs)->R vs V'->Frm V w V' w'->wpOpsIn (qAy r) n P ops Q rest a' w'):wpOpsIn (qAy r) n P ops Q (List.range' k m++rest) a w:=by
 refine qIS (fun c a w he=>by cases he.1) (fun⟨_,_,he⟩=>by cases he.1) ?_ (h r n a w hV ha.1 ha.2)
 rintro a' w' ⟨_,h1,h2,vs,V',h3,h4,h5⟩
 exact go a' w' vs V' h1 ⟨h2,h3⟩ h4 h5
theorem yield_op{ops:Array Oper}{i:Nat}{o:Oper}{c:Call}{fv:Operand}{l:Nat}{rec:Loop}{args:Array Value}{rest:List Nat}{Q:Exit->Act->World->Prop}{a:Act}{w:World}(ho:ops[i]?=some o)(hg:o.guard=none)(hop:o.op=.call c)(hc:c.callee=.value fv)
  (hf:a.eval fv=.func (.yield l) #[] #[]) (hargs:c.args.map a.eval=args) (hl:w.heap[l]?=some (.loop rec)) (hs:args.size=rec.params.size)
  (hR:RoundIn (qAy none) 0 P l rec.fn ((rec.params.zip args).foldl (fun t (p,v)=>t.setIfInBounds p v) rec.tmps) rec.assign rec.body w fun e w'=>∃v,e=.returned v/\wpOpsIn (qAy none) 0 P ops Q rest (a.put o.dst v) w') :
  wpOpsIn (qAy none) 0 P ops Q (i::rest) a w:=by
 rw[wpOpsIn_cons]
 unfold wpOpIn
 simp only[ho]
 rw[if_pos (by simp[Region.wanted,hg])]
 refine⟨fun _ _=>trivial,?_⟩
 rw[Oper.semAt_eq _ _ _ (fun d=>by simp_all)]
 have hrun:(execOp a.eval o).run P w=.ok (.round l rec.fn ((rec.params.zip args).foldl (fun t (p,v)=>t.setIfInBounds p v) rec.tmps) rec.assign rec.body) w:=by
  unfold execOp
  simp only[hop,resolve,hc,hf,hargs,Deferred.ofValue,Sem.run_bind,Sem.run_pure,Result.andThen_ok,invoke]
  grind [run_yield]
 rw[hrun]
 refine⟨fun h=>by simp[qAy,Fence.wide]at h,hR.mono ?_⟩
 simp_all
theorem Has.get{N:Nat}{a:Act}{l:List (Nat×Value)}(h:Has N a l){s:Nat}{v:Value}(hs:l.lookup s=some v):a.tmps.getD s undef=v:=h.2 s v hs
theorem qIK{f:FuncId}{fn:Func}{c L B:Code}{b0 b1 id:Nat}{cA cB cE:List Code}{ops:Array Oper}{o6:Oper}{at6:Array TypeId}{fn':FuncId}{tmps:Array Value}{ps:Array Tmp}{assign body:Code}{D:Nat}{l:Nat}{box:Option Addr}{n:Nat}{el:Nat->Value}{J:Nat->Mem->Prop}{Bk:Mem->Prop}{V:Mem}
  (hf:P.funcs[f]?=some fn) (hb:fn.body=some c) (e1:flat c=cA++[.block b0 (.loop L)]) (e2:flat L=cB++([.cond (.tmp 8) .skip (.exit b0),.block b1 B]++cE)) (e3:flat B=[.region id ops false,.cond (.tmp 18) .ret .skip])
  (ho:ops[6]?=some o6) (hgd:o6.guard=none) (hop:o6.op=.call { callee:=.value (.tmp 11),args:=#[.tmp 12,.tmp 16],argTypes:=at6 }) (hdst:o6.dst=some 17) (hsz:ops.size=8) (hres:fn.results=#[]) (hN:fn.ntmps=19) (hps:ps.size=2)
  (hA:∀M,Bk M->Seg P 19 cA [(0,.func (.yield l) #[] #[]),(1,.pointer box)] [0,1,3] M fun vs V'=>V'=M/\vs=[.func (.yield l) #[] #[],.pointer box,.int .i64 ((n:Int)-1)])
  (hB:∀M (j:Int),Seg P 19 cB [(0,.func (.yield l) #[] #[]),(1,.pointer box),(3,.int .i64 j)] [0,1,3,8] M fun vs V'=>V'=M/\vs=[.func (.yield l) #[] #[],.pointer box,.int .i64 j,.bool (decide (0<=j))])
  (hC:∀M (k:Nat),Bk M->k<n->qCS P 19 ops 0 6 [(0,.func (.yield l) #[] #[]),(1,.pointer box),(3,.int .i64 k)] [0,1,3,11,12,16] M fun vs V'=>V'=M/\vs=[.func (.yield l) #[] #[],.pointer box,.int .i64 k,.func (.yield l) #[] #[],.int .i64 k,el k])
  (hD:∀M (j:Int) (b:Bool),qCS P 19 ops 7 1 [(0,.func (.yield l) #[] #[]),(1,.pointer box),(3,.int .i64 j),(17,.bool b)] [0,1,3,18] M fun vs V'=>V'=M/\vs=[.func (.yield l) #[] #[],.pointer box,.int .i64 j,.bool (!b)])
  (hE:∀M (j:Int),Bk M->0<=j->j<n->Seg P 19 cE [(0,.func (.yield l) #[] #[]),(1,.pointer box),(3,.int .i64 j)] [0,1,3] M fun vs V'=>V'=M/\vs=[.func (.yield l) #[] #[],.pointer box,.int .i64 (j-1)])
  (hJ:∀i V2,J i V2->V2 l=none->Bk (V2.set l (.loop (qDu fn' tmps ps assign body D))))
  (hround:∀k,k<n->∀V2,J (n-1-k) V2->V2 l=none->∀w,(V2.set l (.loop (qDu fn' tmps ps assign body D))).le w ->
   RoundIn (qAy none) 0 P l fn' ((ps.zip #[.int .i64 k,el k]).foldl (fun t (p,v)=>t.setIfInBounds p v) tmps) assign body w fun e w' =>
    e=.returned (.bool true)/\∃V3,J (n-k) V3/\V3 l=none/\Frm (V2.set l (.loop (qDu fn' tmps ps assign body D))) w (V3.set l (.loop (qDu fn' tmps ps assign body D))) w')
  (h0:J 0 V) (hl:V l=none) :
  Tri P f #[.func (.yield l) #[] #[],.pointer box] (V.set l (.loop (qDu fn' tmps ps assign body D))) fun e V'=>(∃v,e=.returned v)/\∃V2,V'=V2.set l (.loop (qDu fn' tmps ps assign body D))/\V2 l=none/\J n V2:=by
 intro w hV
 refine(callsIn_wide (n:=0)).1 (callsIn_of_wp (F:=qAy none) hf hb trivial (qCm ?_) rfl)
 rw[e1]
 have hH0:Has 19 { tmps:=#[.func (.yield l) #[] #[],.pointer box]++Array.replicate (fn.ntmps-(#[Value.func (.yield l) #[] #[],.pointer box]).size) undef,defers:=[] } [(0,.func (.yield l) #[] #[]),(1,.pointer box)]:=by
  constructor
  ·simp[hN]
  ·intro s v hs
   simp only[List.lookup_cons]at hs
   split at hs
   ·simp_all
   ·split at hs
    ·simp_all
    ·cases hs
 refine(hA _ (hJ 0 V h0 hl)).step hV hH0 ?_
 rintro a1 w1 vs V1 hd1 hH1 ⟨rfl,rfl⟩ hF1
 refine wpIn_block ?_
 refine qFx (fun m a w'=>∃(i:Nat) (V2:Mem),i<=n/\m=n-i/\J i V2/\V2 l=none/\a.defers=[]/\Has 19 a [(0,.func (.yield l) #[] #[]),(1,.pointer box),(3,.int .i64 ((n:Int)-1-i))] /\
  Frm (V.set l (.loop (qDu fn' tmps ps assign body D))) w (V2.set l (.loop (qDu fn' tmps ps assign body D))) w') ⟨n,0,V,by omega,rfl,h0,hl,hd1,by simpa using hH1,hF1⟩ ?_
 rintro m a2 w2 ⟨i,V2,hi,rfl,hJi,hl2,hd2,hH2,hF2⟩
 refine qCm ?_
 rw[e2]
 refine(hB _ _).step hF2.le hH2 ?_
 rintro a3 w3 vs V3 hd3 hH3 ⟨rfl,rfl⟩ hF3
 have hev8:a3.eval (.tmp 8)=.bool (decide (0<=(n:Int)-1-i)):=hH3.get rfl
 show Code.wpIn (qAy none) 0 P _ _ a3 w3
 by_cases hlt:i<n
 ·have hdc:decide (0<=(n:Int)-1-i)=true:=by simp;omega
  rw[hdc]at hev8
  refine wpIn_cond_true hev8 (wpIn_skip ?_)
  show Code.wpIn (qAy none) 0 P _ _ a3 w3
  refine wpIn_block (qCm ?_)
  rw[e3]
  have hk:((n:Int)-1-i)=((n-1-i:Nat):Int):=by omega
  have hH3':Has 19 a3 [(0,.func (.yield l) #[] #[]),(1,.pointer box),(3,.int .i64 ((n-1-i:Nat):Int))]:=⟨hH3.1,fun s v hs=>hH3.2 s v (by
   grind [List.zip_cons_cons])⟩
  refine wpIn_region ?_
  rw[hsz,show List.range 8=List.range' 0 6++[6,7] from rfl]
  refine(hC _ (n-1-i) (hJ _ _ hJi hl2) (by omega)).step hF3.le hH3' ?_
  rintro a4 w4 vs V4 hd4 hH4 ⟨rfl,rfl⟩ hF4
  have hl4:w4.heap[l]?=some (.loop (qDu fn' tmps ps assign body D)):=hF4.le _ _ (Mem.set_same _ _ _)
  refine yield_op (args:=#[.int .i64 ((n-1-i:Nat):Int),el (n-1-i)]) ho hgd hop rfl (hH4.get rfl) ?_ hl4 (by simp[qDu,hps]) ?_
  ·have g1:a4.eval (.tmp 12)=.int .i64 ((n-1-i:Nat):Int):=hH4.get rfl
   have g2:a4.eval (.tmp 16)=el (n-1-i):=hH4.get rfl
   simp[g1,g2]
  refine(hround (n-1-i) (by omega) V2 (by grind) hl2 w4 hF4.le).mono ?_
  rintro e w5 ⟨rfl,V5,hJ5,hl5,hF5⟩
  refine⟨_,rfl,?_⟩
  rw[hdst]
  have hlt17:(17:Nat)<a4.tmps.size:=by rw[hH4.1];decide
  have hH5:Has 19 (a4.put (some 17) (.bool true)) [(0,.func (.yield l) #[] #[]),(1,.pointer box),(3,.int .i64 ((n-1-i:Nat):Int)),(17,.bool true)]:=by
   refine⟨by simp[Act.put,hH4.1],fun s v hs=>?_⟩
   have other:∀s,s≠17->(a4.put (some 17) (.bool true)).tmps.getD s undef=a4.tmps.getD s undef:=fun s hs=>by
    simp[Act.put,Array.getD_eq_getD_getElem?,Array.getElem?_setIfInBounds_ne (Ne.symm hs)]
   simp only[List.lookup_cons]at hs
   split at hs
   ·rename_i e;simp only[beq_iff_eq]at e;subst e;cases hs;rw[other _ (by decide)];exact hH4.get rfl
   ·split at hs
    ·rename_i e;simp only[beq_iff_eq]at e;subst e;cases hs;rw[other _ (by decide)];exact hH4.get rfl
    ·split at hs
     ·rename_i e;simp only[beq_iff_eq]at e;subst e;cases hs;rw[other _ (by decide)];exact hH4.get rfl
     ·split at hs
      ·simp_all [beq_iff_eq,Act.put,Array.getD_eq_getD_getElem?]
      ·cases hs
  rw[show [7]=List.range' 7 1++[] from rfl]
  refine(hD _ _ true).step hF5.le hH5 ?_
  rintro a6 w6 vs V6 hd6 hH6 ⟨rfl,rfl⟩ hF6
  show Code.wpIn (qAy none) 0 P (.cond (.tmp 18) .ret .skip) _ a6 w6
  refine wpIn_cond_false (hH6.get rfl) (wpIn_skip ?_)
  rw[<- List.append_nil cE]
  refine(hE _ ((n-1-i:Nat):Int) (hJ _ _ hJ5 hl5) (by omega) (by omega)).step hF6.le ⟨hH6.1,fun s v hs=>hH6.2 s v ?_⟩ ?_
  ·grind [List.zip_cons_cons]
  rintro a7 w7 vs V7 hd7 hH7 ⟨rfl,rfl⟩ hF7
  refine⟨n-(i+1),by omega,i+1,V5,by omega,rfl,?_,hl5,?_,?_,?_⟩
  ·grind
  ·rw[hd7,hd6]
   show a4.defers=[]
   grind
  ·rw[show (n:Int)-1-((i+1:Nat):Int)=((n-1-i:Nat):Int)-1 by omega]
   exact hH7
  ·exact((((hF2.trans hF3).trans hF4).trans hF5).trans hF6).trans hF7
 ·have hin:i=n:=by omega
  subst hin
  have hdc:decide (0<=(i:Int)-1-i)=false:=by simp;omega
  rw[hdc]at hev8
  refine wpIn_cond_false hev8 (wpIn_exit ?_)
  show (if b0=b0 then _ else _)
  rw[if_pos rfl]
  refine⟨?_,_,results_none hres _ _ _,_,⟨⟨_,rfl⟩,V2,rfl,hl2,hJi⟩,hF2.trans hF3⟩
  rw[hd3,hd2]
end
end Go.Sx
