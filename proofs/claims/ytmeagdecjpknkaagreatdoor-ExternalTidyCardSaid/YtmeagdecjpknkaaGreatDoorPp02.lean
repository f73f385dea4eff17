/- Part 2 of a proof of a law of this seat: no statement of the seat is proved here. -/
import Derived.Test.YtmeagdecjpknkaaGreatDoorPp01
import Derived.MapKept
import Derived.Orders
set_option linter.unusedVariables false
set_option linter.unusedSimpArgs false
namespace Go.Sx
open Go
section
variable{P:Program}{O V0:Mem}{w0:World}{N:Nat}{β:Nat->Nat}{st:St}{ρ:List Value}{V:Mem}{a:Act}{w:World}
theorem qGB{t:T}(h:(qCh t.cellsT).isSome=true):(t.ev ρ β).cells.toList=t.cellsT.evs ρ β:=by
 have key:∀s:T,s.cellsT=.cons s .nil->(qCh s.cellsT).isSome=true->(s.ev ρ β).cells.toList=s.cellsT.evs ρ β:=by
  intro s hs hk
  rw[hs]at hk ⊢
  simp only[qCh]at hk
  cases hq:s.kind with
  | none=>simp[hq]at hk
  | some k =>
   have h1:=K.ok_one (T.kind_ok (ρ:=ρ) (β:=β) s k hq)
   simp only[T.evs]
   generalize s.ev ρ β=v at h1 ⊢
   cases v <;> first|rfl|simp[qEE]at h1
 cases t with
 | agg cs=>rfl
 | _=>exact key _ rfl h
theorem foldl_set:∀(vs:List Value) (k off:Nat) (cs:List Value),off+k+vs.length<=cs.length ->
  (vs.zipIdx k).foldl (fun cs (x:Value×Nat)=>cs.setIfInBounds (off+x.2) x.1) cs.toArray=(cs.take (off+k)++vs++cs.drop (off+k+vs.length)).toArray
 | [],k,off,cs,_=>by simp
 | v::vs,k,off,cs,h=>by
  simp only[List.length_cons]at h
  have ih:=foldl_set vs (k+1) off (cs.set (off+k) v) (by simp;omega)
  simp only[List.zipIdx_cons,List.foldl_cons,List.setIfInBounds_toArray]
  rw[ih]
  congr 1
  apply List.ext_getElem?
  intro j
  simp only[List.getElem?_append,List.length_append,List.length_take,List.length_set,List.getElem?_take,List.getElem?_drop,List.getElem?_set,List.length_cons]
  grind
theorem qLr{place:Nat->Option (Nat×Nat)}:∀{ps:List (Nat×T)} {cells cs:List T},fillT place cells ps=some cs ->
  Instr.fill place (cells.map (·.ev ρ β)).toArray (ps.map fun x=>(x.1,x.2.ev ρ β))=some (cs.map (·.ev ρ β)).toArray
 | [],cells,cs,h=>by simp only[fillT,Option.some.injEq]at h;subst h;rfl
 | (i,t)::ps,cells,cs,h=>by
  simp only[fillT]at h
  split at h
  ·simp at h
  ·rename_i off size hp
   split at h
   ·rename_i hc
    obtain⟨h1,h2,h3⟩:=hc
    have ih:=qLr h
    have hcells:=qGB (ρ:=ρ) (β:=β) h3
    have hl:((t.ev ρ β).cells.toList).length=size:=by grind [qAH]
    have hsz:(t.ev ρ β).cells.size=size:=by simpa using hl
    simp only[List.map_cons,Instr.fill,hp,hsz,ne_eq,not_true_eq_false,List.size_toArray,List.length_map,decide_false,Bool.false_or,gt_iff_lt,decide_eq_true_eq]
    rw[if_neg (by omega)]
    have hf:(t.ev ρ β).cells.zipIdx.foldl (fun cs (x:Value×Nat)=>cs.setIfInBounds (off+x.2) x.1) (cells.map (·.ev ρ β)).toArray =
      ((cells.take off++t.cellsT.toList++cells.drop (off+size)).map (·.ev ρ β)).toArray:=by
     rw[<- Array.foldl_toList,Array.toList_zipIdx,foldl_set _ 0 off _ (by simp_all)]
     grind [qAH,List.map_take,List.map_drop]
    simp_all
   ·simp at h
theorem qII(h:Rel O V0 w0 N β st ρ V a.tmps w):∀{l:List (Nat×Operand)} {ps:List (Nat×T)},partsT st l=some ps->l.map (fun x=>(x.1,a.eval x.2))=ps.map fun x=>(x.1,x.2.ev ρ β)
 | [],ps,ho=>by grind [partsT]
 | (i,o)::l,ps,ho=>by
  simp only[partsT]at ho
  split at ho
  ·rename_i t ts' h1 h2
   simp only[Option.some.injEq]at ho;subst ho
   simp only[List.map_cons,qAK h h1,qII h h2]
  ·simp at ho
theorem places_eq(fs:List Field)(h:fs.all (fun f=>(qBl P f.type).isSome)=true):∃places:List (Nat×Nat),fs.mapM (fun(f:Field)=>(P.info? f.type).map fun i=>(f.offset,i.size))=some places /\
  ∀i:Nat,places[i]?=(fs[i]?).bind fun(f:Field)=>(qBl P f.type).map fun s=>(f.offset,s):=by
 induction fs with
 | nil=>simp_all
 | cons f fs ih =>
  simp only[List.all_cons,Bool.and_eq_true]at h
  obtain⟨pl,h1,h2⟩:=ih h.2
  cases hi:P.info? f.type with
  | none=>simp[qBl,hi]at h
  | some inf =>
   refine⟨(f.offset,inf.size)::pl,by simp_all,fun i=>?_⟩
   grind [qBl]
theorem run_buildT{t:TypeId}{fs:Array Field}{z cs:List T}{parts:Array (Nat×Operand)}{ps:List (Nat×T)}(hr:Rel O V0 w0 N β st ρ V a.tmps w)(hu:P.underlying t=some (.struct fs))
  (hz:qBP P t=some z) (hp:partsT st parts.toList=some ps) (hs:fs.toList.all (fun f=>(qBl P f.type).isSome)=true) (hf:fillT (qEi P fs) z ps=some cs) :
  (Instr.build t (parts.map fun(i,x)=>(i,a.eval x))).run P w=.ok (.agg (cs.map (·.ev ρ β)).toArray) w:=by
 apply run_build
 unfold Program.built
 unfold qBP qFT at hz
 cases hi:P.info? t with
 | none=>simp[hi]at hz
 | some it =>
  simp only[hi,Option.bind_some]at hz
  cases hzv:it.zero with
  | none=>simp[hzv]at hz
  | some zv =>
   simp only[hzv,Option.bind_some]at hz
   obtain⟨pl,h1,h2⟩:=places_eq fs.toList hs
   simp only[hu,hzv,h1]
   have e1:(fun i=>pl.toArray[i]?)=qEi P fs:=by
    grind [qEi]
   have e2:z.map (·.ev ρ β)=zv.cells.toList:=qGf hz
   have e3:=qII hr hp
   have:=qLr (ρ:=ρ) (β:=β) hf
   simp_all
theorem run_indexAtT{t e:TypeId}{s j:T}{k:IntKind}{sz:Nat}(hu:P.underlying t=some (.slice e))(hs:s.kind=some .sl)(hj:j.kind=some (.i k))(hz:qBl P e=some sz)
  (hn:∀z∈nn (qDi s)++[.b2 .le (.int .i64 0) j,.b2 .lt j (slLen s)],asB (z.ev ρ β)=true) :
  (Instr.indexAt t (s.ev ρ β) (j.ev ρ β)).run P w=.ok ((paddT e sz (qDi s) j).ev ρ β) w:=by
 obtain⟨p,n,c,hp⟩:=qHb (ρ:=ρ) (β:=β) hs
 obtain⟨i,hi⟩:=qEo (ρ:=ρ) (β:=β) hj
 have h1:=hn (.b2 .le (.int .i64 0) j) (by simp)
 have h2:=hn (.b2 .lt j (slLen s)) (by simp)
 simp only[T.ev,B.ev,hi,asI,asB,decide_eq_true_eq,qHS,hp,qJv]at h1 h2
 have hb:asP ((qDi s).ev ρ β)=p:=by rw[qJS s hs,hp,asP]
 have hp':∃q,p=some q:=by
  have hk:(qDi s).kind=some .p∨∃a b c,s=.c3 .slc a b c:=by
   unfold qDi;split
   ·simp_all
   ·exact .inl rfl
  have hne:asP ((qDi s).ev ρ β)≠none:=by
   unfold nn at hn
   intro h0
   split at hn
   ·simp[*,T.ev,asP]at h0
   ·simp[*,T.ev,asP]at h0
   ·have h3:=hn _ (List.mem_append_left _ (List.mem_singleton.2 rfl))
    simp[T.ev,U.ev,asB,h0]at h3
  rw[hb]at hne
  cases p with
  | none=>simp_all
  | some q=>grind
 obtain⟨q,rfl⟩:=hp'
 obtain⟨h3,q',h4⟩:=paddT_ev (ρ:=ρ) (β:=β) e sz (qDi s) j
 rw[hb,hi]at h3
 simp only[asI,qAa,Option.map_some]at h3
 rw[h4]at h3 ⊢
 simp only[asP]at h3;subst h3
 rw[hp,hi]
 simp[Instr.indexAt,run_underlying hu,asIntOf,h1,h2,qBm hz]
theorem sbyte_at{s:ByteArray}{i:Int}(h0:0<=i)(h1:i<s.size):∃b,s[i.toNat]?=some b/\qBd s i=b.toNat:=by
 have hlt:i.toNat<s.size:=by omega
 have h2:s.data[i.toNat]?=some (s.data[i.toNat]'(by simpa using hlt)):=Array.getElem?_eq_getElem _
 refine⟨s.data[i.toNat]'(by simpa using hlt),?_,by simp[qBd,h2]⟩
 rw[getElem?_pos s i.toNat hlt];rfl
theorem run_indexT{t:TypeId}{s j:T}{k:IntKind}(hu:P.underlying t=some .string)(hs:s.kind=some .s)(hj:j.kind=some (.i k))(hn:asB ((T.b2 .sidxok s j).ev ρ β)=true) :
  (Instr.index t (s.ev ρ β) (j.ev ρ β)).run P w=.ok ((T.b2 .sidx s j).ev ρ β) w:=by
 obtain⟨b,hb⟩:=qHA (ρ:=ρ) (β:=β) hs
 obtain⟨i,hi⟩:=qEo (ρ:=ρ) (β:=β) hj
 simp only[T.ev,B.ev,hb,hi,asB,asS,asI,decide_eq_true_eq]at hn
 obtain⟨c,h1,h2⟩:=sbyte_at hn.1 hn.2
 simp_all [Instr.index,run_underlying,asIntOf,T.ev,B.ev,asS,asI]
theorem run_sliceS{t:TypeId}{s l h:T}{j k:IntKind}{lo hi:Option Operand}(hu:P.underlying t=some .string)(hs:s.kind=some .s)(hl:l.kind=some (.i j))(hh:h.kind=some (.i k))
  (el:lo.map a.eval=some (l.ev ρ β)∨lo=none/\l=.int .i64 0) (eh:hi.map a.eval=some (h.ev ρ β)∨hi=none/\h=.u .slen s) (hn:asB ((T.c3 .bnd l h (.u .slen s)).ev ρ β)=true) :
  (Instr.sliceAt t (s.ev ρ β) (lo.map a.eval) (hi.map a.eval) none).run P w=.ok ((T.c3 .ssub s l h).ev ρ β) w:=by
 obtain⟨b,hb⟩:=qHA (ρ:=ρ) (β:=β) hs
 obtain⟨x,hx⟩:=qEo (ρ:=ρ) (β:=β) hl
 obtain⟨y,hy⟩:=qEo (ρ:=ρ) (β:=β) hh
 simp only[T.ev,C.ev,U.ev,hb,hx,hy,asB,asS,asI,decide_eq_true_eq]at hn
 obtain⟨h1,h2,h3⟩:=hn
 obtain⟨x,rfl⟩:=Int.eq_ofNat_of_zero_le h1
 obtain⟨y,rfl⟩:=Int.eq_ofNat_of_zero_le (show 0<=y by omega)
 have g2:x<=y:=by omega
 have g3:y<=b.size:=by omega
 rcases el with el|⟨rfl,rfl⟩ <;> rcases eh with eh|⟨rfl,rfl⟩
 ·simp[Instr.sliceAt,run_underlying hu,Instr.slice,Instr.sliceBounds,Instr.sliceBound,asIntOf,el,eh,hb,hx,hy,g2,g3,T.ev,C.ev,asS,asI]
 ·simp only[T.ev,U.ev,hb,asS,Value.int.injEq,Int.natCast_inj]at hy
  obtain⟨-,rfl⟩:=hy
  simp[Instr.sliceAt,run_underlying hu,Instr.slice,Instr.sliceBounds,Instr.sliceBound,asIntOf,el,hb,hx,g2,T.ev,C.ev,U.ev,asS,asI]
 ·simp[Instr.sliceAt,run_underlying hu,Instr.slice,Instr.sliceBounds,Instr.sliceBound,asIntOf,eh,hb,hy,g3,T.ev,C.ev,asS,asI]
 ·simp[Instr.sliceAt,run_underlying hu,Instr.slice,Instr.sliceBounds,hb,T.ev,C.ev,U.ev,asS,asI]
theorem run_sliceL{t e:TypeId}{s l h:T}{j k:IntKind}{sz:Nat}{lo hi:Option Operand}(hu:P.underlying t=some (.slice e))(hz:qBl P e=some sz)(hs:s.kind=some .sl)(hl:l.kind=some (.i j))(hh:h.kind=some (.i k))
  (el:lo.map a.eval=some (l.ev ρ β)∨lo=none/\l=.int .i64 0) (eh:hi.map a.eval=some (h.ev ρ β)∨hi=none/\h=slLen s) (hn:asB ((T.c3 .bnd l h (qIv s)).ev ρ β)=true) :
  (Instr.sliceAt t (s.ev ρ β) (lo.map a.eval) (hi.map a.eval) none).run P w =
   .ok ((T.c3 .slc (.c3 (.slp sz) (qDi s) l (qIv s)) (.b2 (.sub .i64) h l) (.b2 (.sub .i64) (qIv s) l)).ev ρ β) w:=by
 obtain⟨p,n,c,hb⟩:=qHb (ρ:=ρ) (β:=β) hs
 obtain⟨x,hx⟩:=qEo (ρ:=ρ) (β:=β) hl
 obtain⟨y,hy⟩:=qEo (ρ:=ρ) (β:=β) hh
 have hbase:=qJS (ρ:=ρ) (β:=β) s hs
 simp only[T.ev,C.ev,qKI,hb,hx,hy,asB,asI,asCap,decide_eq_true_eq]at hn
 obtain⟨h1,h2,h3⟩:=hn
 obtain⟨x,rfl⟩:=Int.eq_ofNat_of_zero_le h1
 obtain⟨y,rfl⟩:=Int.eq_ofNat_of_zero_le (show 0<=y by omega)
 have g2:x<=y:=by omega
 have g3:y<=c:=by omega
 have hv:(T.c3 .slc (.c3 (.slp sz) (qDi s) l (qIv s)) (.b2 (.sub .i64) h l) (.b2 (.sub .i64) (qIv s) l)).ev ρ β =
   .slice (if c=x then p else qAa p (x*sz)) (y-x) (c-x):=by
  rw[hb]at hbase
  simp only[T.ev,C.ev,B.ev,hbase,qKI,hb,hx,hy]
  grind [asI,asP,asCap]
 have hgen:((Instr.sliceBounds true n c (lo.map a.eval) (hi.map a.eval) none).run P w:Result (Nat×Nat×Nat))=.ok (x,y,c) w:=by
  rcases el with el|⟨rfl,rfl⟩ <;> rcases eh with eh|⟨rfl,rfl⟩
  ·simp[Instr.sliceBounds,Instr.sliceBound,asIntOf,el,eh,hx,hy,g2,g3]
  ·rw[qHS,hb]at hy
   simp only[qJv,Value.int.injEq,Int.natCast_inj]at hy
   obtain⟨-,rfl⟩:=hy
   simp[Instr.sliceBounds,Instr.sliceBound,asIntOf,el,hx,g2]
  ·simp only[T.ev,Value.int.injEq]at hx
   obtain⟨-,hx⟩:=hx
   obtain rfl:x=0:=by omega
   simp[Instr.sliceBounds,Instr.sliceBound,asIntOf,eh,hy,g3]
  ·simp only[T.ev,Value.int.injEq]at hx
   obtain⟨-,hx⟩:=hx
   obtain rfl:x=0:=by omega
   rw[qHS,hb]at hy
   simp only[qJv,Value.int.injEq,Int.natCast_inj]at hy
   obtain⟨-,rfl⟩:=hy
   rfl
 rw[hv,hb]
 simp only[Instr.sliceAt,Sem.run_bind,run_underlying hu,Result.andThen_ok,Instr.slice,hgen,qBm hz,Sem.run_pure]
 rfl
end
section
variable{P:Program}{ρ:List Value}{β:Nat->Nat}{w:World}
theorem run_eqFs{g:TypeId->T->T->Option T}{n:Nat}{cs ds:T}(hg:∀t x y z,g t x y=some z->∃b,z.ev ρ β=.bool b/\(Op.equalIn n t (x.ev ρ β) (y.ev ρ β)).run P w=.ok b w) :
    ∀(fs:List Field) (z:T),eqFs g P cs ds fs=some z->∃b,z.ev ρ β=.bool b /\
      (do for f in fs do
            if f.name ≠ "_" then
              if !(<- Op.equalIn n f.type (<- part f.type (cs.evs ρ β).toArray f.offset) (<- part f.type (ds.evs ρ β).toArray f.offset)) then return false
          pure true:Sem Bool).run P w=.ok b w:=by
  intro fs
  induction fs with
  | nil =>
    intro z h
    simp only[eqFs,Option.some.injEq]at h
    subst h
    exact⟨true,rfl,by simp⟩
  | cons f fs ih =>
    intro z h
    unfold eqFs at h
    split at h
    · cases h
    rename_i hname
    split at h
    case h_2=>cases h
    rename_i x y hx hy
    split at h
    case h_2=>cases h
    rename_i a ha
    obtain⟨b,hb,hr⟩:=hg _ _ _ _ ha
    simp only[List.forIn_cons,hname,ne_eq,not_false_eq_true,if_true,Sem.run_bind,qIB hx,qIB hy,Result.andThen_ok,hr]
    cases b with
    | false =>
      refine⟨false,?_,by simp⟩
      split at h
      · grind
      · rw[Option.map_eq_some_iff]at h
        obtain⟨r,hr',rfl⟩:=h
        grind [T.ev,B.ev,asB]
    | true =>
      split at h
      · simp_all
      · rw[Option.map_eq_some_iff]at h
        obtain⟨r,hr',rfl⟩:=h
        obtain⟨b',hb',hrun⟩:=ih r hr'
        simp_all [T.ev,B.ev,asB,Sem.run_bind]
theorem run_eqT:∀(d n:Nat) (t:TypeId) (x y z:T),eqT P d t x y=some z->∃b,z.ev ρ β=.bool b/\(Op.equalIn (n+d) t (x.ev ρ β) (y.ev ρ β)).run P w=.ok b w
 | 0,_,_,_,_,_,h=>by simp[eqT]at h
 | d+1,n,t,x,y,z,h=>by
  unfold eqT at h
  rw[show n+(d+1)=(n+d)+1 from rfl,Op.equalIn]
  split at h
  ·rename_i k0 k k' hu hx hy
   split at h
   ·rename_i e;subst e;cases h
    obtain⟨a,ha⟩:=qEo (ρ:=ρ) (β:=β) hx
    obtain⟨b,hb⟩:=qEo (ρ:=ρ) (β:=β) hy
    exact⟨decide (a=b),by simp[T.ev,B.ev,ha,hb,asI],by simp[Sem.run_bind,run_underlying hu,ha,hb];rfl⟩
   ·cases h
  ·rename_i hu hx hy
   cases h
   obtain⟨a,ha⟩:=qHA (ρ:=ρ) (β:=β) hx
   obtain⟨b,hb⟩:=qHA (ρ:=ρ) (β:=β) hy
   exact⟨decide (a=b),by simp[T.ev,B.ev,ha,hb,asS],by
    have he:(a==b)=decide (a=b):=by rw[Bool.eq_iff_iff,MapKept.bytes_beq,decide_eq_true_eq]
    simp[Sem.run_bind,run_underlying hu,ha,hb,he]⟩
  ·rename_i hu hx hy
   cases h
   obtain⟨a,ha⟩:=qGs (ρ:=ρ) (β:=β) hx
   obtain⟨b,hb⟩:=qGs (ρ:=ρ) (β:=β) hy
   exact⟨a==b,by simp[T.ev,B.ev,ha,hb,asB],by simp[Sem.run_bind,run_underlying hu,ha,hb]⟩
  ·rename_i fs hu hx hy
   split at h
   case h_2=>cases h
   rename_i cs ds
   split at h
   case isFalse=>cases h
   rename_i hst
   obtain⟨b,hb,hr⟩:=run_eqFs (n:=n+d) (fun t x y z h=>run_eqT d n t x y z h) fs.toList z h
   refine⟨b,hb,?_⟩
   simp only[Sem.run_bind,run_underlying hu,Result.andThen_ok,T.ev,run_program,hst,<- Array.forIn_toList]
   simp_all
  ·cases h
theorem run_eqAgg{op:BinOp}{xt:TypeId}{x y:Operand}{p q t:T}{ns:List T}(h:eqAgg P op xt p q=some (ns,t)) :
  (do eqGuard op xt x y (p.ev ρ β) (q.ev ρ β);binOp op xt (p.ev ρ β) (q.ev ρ β):Sem Value).run P w=.ok (t.ev ρ β) w:=by
 unfold eqAgg at h
 split at h
 case h_2=>cases h
 rename_i cs ds
 split at h
 case isFalse=>cases h
 rename_i hg
 rw[Option.bind_eq_some_iff]at h
 obtain⟨z,hz,ho⟩:=h
 obtain⟨b,hb,hr⟩:=run_eqT (ρ:=ρ) (β:=β) (w:=w) 5 9995 xt _ _ z hz
 have hr:(Op.equal xt (T.ev ρ β (.agg cs)) (T.ev ρ β (.agg ds))).run P w=.ok b w:=hr
 have hgd:(eqGuard op xt x y (T.ev ρ β (.agg cs)) (T.ev ρ β (.agg ds))).run P w=.ok () w:=by
  simp_all [eqGuard,T.ev,Sem.run_bind,run_program]
 grind [Sem.run_bind,Result.andThen_ok,qDj,T.ev]
end
section
variable{P:Program}{O V0:Mem}{w0:World}{N:Nat}{β:Nat->Nat}{st:St}{ρ:List Value}{V:Mem}{a:Act}{w:World}
theorem lohi{st:St}{lo:Option Operand}{d l:T}(hr:Rel O V0 w0 N β st ρ V a.tmps w)(h:(match lo with|some l=>opT st l|none=>some d)=some l) :
  lo.map a.eval=some (l.ev ρ β)∨lo=none/\l=d:=by
 cases lo with
 | some x=>grind [qAK]
 | none=>simp_all
theorem qIG(hr:Rel O V0 w0 N β st ρ V a.tmps w){o:Oper}{ns:List T}{t:T}(h:pur P st o.op=some (ns,t))(hn:∀x∈ns,asB (x.ev ρ β)=true) :
  (execOp a.eval o).run P w=.ok (.value (t.ev ρ β)) w:=by
 unfold execOp
 generalize o.op=op at h ⊢
 cases op with
 | move x =>
  simp only[pur,Option.map_eq_some_iff,Prod.mk.injEq]at h
  obtain⟨t',h1,rfl,rfl⟩:=h
  simp only[Sem.run_pure,qAK hr h1]
 | assign x =>
  simp only[pur,Option.map_eq_some_iff,Prod.mk.injEq]at h
  obtain⟨t',h1,rfl,rfl⟩:=h
  simp only[Sem.run_pure,qAK hr h1]
 | pick c x y =>
  simp only[pur]at h
  split at h
  ·rename_i v p q h1 h2 h3
   simp only[Option.some.injEq,Prod.mk.injEq]at h
   obtain⟨rfl,rfl⟩:=h
   simp only[qAK hr h1,qAK hr h2,qAK hr h3,T.ev,asBool,Sem.run_bind,Sem.run_pure,Result.andThen_ok]
   cases v <;> rfl
  ·simp at h
 | load ty x =>
  simp only[pur]at h
  split at h
  ·rename_i i off h1
   cases hb:st.box i with
   | none=>simp[hb]at h
   | some cs =>
    obtain⟨cs,e⟩:=cs
    simp only[hb,Option.bind_some,Option.map_eq_some_iff,Prod.mk.injEq]at h
    obtain⟨t',h2,rfl,rfl⟩:=h
    have hB:=(hr.boxes i cs e hb).1
    have:=qBW (P:=P) hB h2
    simp only[qAK hr h1,T.ev,Instr.loadAt,Instr.sureAddr,Sem.run_bind,Sem.run_pure,Result.andThen_ok,this]
  ·simp at h
 | fieldAddr s x f =>
  simp only[pur]at h
  split at h
  ·rename_i fs p hu h1
   cases hf:fs[f]? with
   | none=>simp[hf]at h
   | some fd =>
    simp only[hf,Option.bind_some]at h
    split at h
    ·rename_i m hs
     split at h
     ·rename_i hk
      simp only[Option.some.injEq,Prod.mk.injEq]at h
      obtain⟨rfl,rfl⟩:=h
      obtain⟨q,hq⟩:=nn_some hk hn
      rw[poff_ev _ _ ⟨_,hq⟩,hq]
      simp only[qAK hr h1,hq,Instr.fieldAt,Sem.run_bind,run_underlying hu,Result.andThen_ok,hf,Instr.sureAddr,Sem.run_pure,qJE hs,asP,qAa,Option.map_some]
     ·simp at h
    ·simp at h
  ·simp at h
 | indexAddr ty x i =>
  simp only[pur]at h
  split at h
  ·rename_i e s j hu h1 h2
   split at h
   ·rename_i k sz hs hj hz
    simp only[Option.some.injEq,Prod.mk.injEq]at h
    obtain⟨rfl,rfl⟩:=h
    simp only[qAK hr h1,qAK hr h2,Sem.run_bind,run_indexAtT hu hs hj hz hn,Result.andThen_ok,Sem.run_pure]
   ·simp at h
  ·simp at h
 | index ty x i =>
  simp only[pur]at h
  split at h
  ·rename_i s j hu h1 h2
   split at h
   ·rename_i k hs hj
    simp only[Option.some.injEq,Prod.mk.injEq]at h
    obtain⟨rfl,rfl⟩:=h
    simp only[qAK hr h1,qAK hr h2,Sem.run_bind,run_indexT hu hs hj (hn _ (List.mem_singleton.2 rfl)),Result.andThen_ok,Sem.run_pure]
   ·simp at h
  ·simp at h
 | binOp b xt x y yt =>
  simp only[pur]at h
  split at h
  ·rename_i p q h1 h2
   have:=(Option.or_eq_some_iff.1 h).elim (fun h=>run_binOpT (P:=P) (x:=x) (y:=y) (w:=w) h hn) fun h=>run_eqAgg (x:=x) (y:=y) h.2
   simp only[qAK hr h1,qAK hr h2]
   rw[Sem.run_bind,this]
   rfl
  ·simp at h
 | unOp u xt x =>
  simp only[pur]at h
  split at h
  ·rename_i t' h1
   split at h
   ·rename_i hk
    simp only[Option.some.injEq,Prod.mk.injEq]at h
    obtain⟨rfl,rfl⟩:=h
    obtain⟨b,hb⟩:=qGs (ρ:=ρ) (β:=β) hk
    simp[qAK hr h1,hb,Op.unary,notT_ev,asB]
   ·simp at h
  ·rename_i t' h1
   split at h
   ·rename_i k hk
    simp only[inr,Option.some.injEq,Prod.mk.injEq]at h
    obtain⟨rfl,rfl⟩:=h
    obtain⟨m,hm⟩:=qEo (ρ:=ρ) (β:=β) hk
    have h3:=hn _ (List.mem_singleton.2 rfl)
    simp only[T.ev,U.ev,hm,asI,asB,decide_eq_true_eq]at h3
    simp only[qAK hr h1,hm,Op.unary,Op.intArith,Sem.run_bind,Sem.run_pure,Result.andThen_ok,T.ev,U.ev,asI,qHB h3]
   ·simp at h
  ·simp at h
 | convert src dst x =>
  simp only[pur]at h
  split at h
  ·rename_i k0 k t' hu1 hu2 h1
   split at h
   ·rename_i j hk
    obtain⟨m,hm⟩:=qEo (ρ:=ρ) (β:=β) hk
    have key:k.wrap m=m->((do pure (Next.value (<- convert src dst (a.eval x))):Sem Next).run P w)=.ok (.value (.int k m)) w:=fun e=>by
     simp only[qAK hr h1,hm,Sem.run_bind,convert,run_underlying hu1,run_underlying hu2,Result.andThen_ok,Conv.intToInt,Sem.run_pure,e]
    split at h
    ·rename_i e;subst e
     simp only[inr,Option.some.injEq,Prod.mk.injEq]at h
     obtain⟨rfl,rfl⟩:=h
     have h3:=hn _ (List.mem_singleton.2 rfl)
     simp_all [T.ev,U.ev,asI,asB,decide_eq_true_eq,qHB]
    ·simp only[inr,Option.some.injEq,Prod.mk.injEq]at h
     obtain⟨rfl,rfl⟩:=h
     have h3:=hn _ (List.mem_singleton.2 rfl)
     simp_all [T.ev,U.ev,asI,asB,decide_eq_true_eq,qHB]
   ·simp at h
  ·rename_i t' hu1 hu2 h1
   split at h
   ·rename_i hk
    simp only[Option.some.injEq,Prod.mk.injEq]at h
    obtain⟨rfl,rfl⟩:=h
    obtain⟨m,hm⟩:=qHA (ρ:=ρ) (β:=β) hk
    simp only[qAK hr h1,hm,Sem.run_bind,convert,run_underlying hu1,run_underlying hu2,Result.andThen_ok,Sem.run_pure]
   ·simp at h
  ·simp at h
 | build ty parts =>
  simp only[pur]at h
  split at h
  ·rename_i fs z ps hu hz hp
   split at h
   ·rename_i hs
    simp only[Option.map_eq_some_iff,Prod.mk.injEq]at h
    obtain⟨cs,hf,rfl,rfl⟩:=h
    grind [Sem.run_bind,run_buildT,Result.andThen_ok,Sem.run_pure,T.ev,qAy]
   ·simp at h
  ·simp at h
 | field xt x f =>
  simp only[pur]at h
  split at h
  ·rename_i fs cs hu h1
   cases hf:fs[f]? with
   | none=>simp[hf]at h
   | some fd =>
    simp only[hf,Option.bind_some,Option.map_eq_some_iff,Prod.mk.injEq]at h
    obtain⟨t',h2,rfl,rfl⟩:=h
    simp only[qAK hr h1,T.ev,Instr.field,Sem.run_bind,run_underlying hu,Result.andThen_ok,hf,asAgg,Sem.run_pure,qIB h2]
  ·simp at h
 | extract x i =>
  simp only[pur]at h
  split at h
  ·rename_i cs h1
   simp only[Option.map_eq_some_iff,Prod.mk.injEq]at h
   obtain⟨t',h2,rfl,rfl⟩:=h
   have:(cs.evs ρ β).toArray[i]?=some (t'.ev ρ β):=by simp[qAH,h2]
   simp[qAK hr h1,T.ev,Instr.extract,this]
  ·simp at h
 | makeFunc fn first captured =>
  simp only[pur]at h
  split at h
  ·rename_i f ts h1
   split at h
   ·rename_i he
    simp only[Option.some.injEq,Prod.mk.injEq]at h
    obtain⟨rfl,rfl⟩:=h
    have e1:first=#[]:=by simpa using he
    subst e1
    have e2:captured.map a.eval=(ts.map (·.ev ρ β)).toArray:=by
     apply Array.ext';rw[Array.toList_map,qIK hr h1]
    simp[Instr.makeFunc,T.ev,qAy,e2]
   ·simp at h
  ·simp at h
 | nilCheck x =>
  simp only[pur]at h
  split at h
  ·rename_i f cs h1
   simp only[Option.some.injEq,Prod.mk.injEq]at h
   obtain⟨rfl,rfl⟩:=h
   simp only[qAK hr h1,T.ev,Sem.run_pure]
  ·rename_i p _ h1
   split at h
   ·rename_i hk
    simp only[Option.some.injEq,Prod.mk.injEq]at h
    obtain⟨rfl,rfl⟩:=h
    obtain⟨q,hq⟩:=nn_some hk hn
    grind [qAK,Sem.run_pure]
   ·simp at h
  ·simp at h
 | slice ty x lo hi mx =>
  simp only[pur]at h
  split at h
  ·rename_i s hu h1
   split at h
   ·rename_i l hh hs hl hhi
    split at h
    ·rename_i j k hlk hhk
     simp only[Option.some.injEq,Prod.mk.injEq]at h
     obtain⟨rfl,rfl⟩:=h
     simp only[qAK hr h1,Option.map_none,Sem.run_bind,run_sliceS hu hs hlk hhk (lohi hr hl) (lohi hr hhi) (hn _ (List.mem_singleton.2 rfl)),Result.andThen_ok,Sem.run_pure]
    ·simp at h
   ·simp at h
  ·rename_i e s hu h1
   split at h
   ·rename_i sz l hh hs hz hl hhi
    split at h
    ·rename_i j k hlk hhk
     simp only[Option.some.injEq,Prod.mk.injEq]at h
     obtain⟨rfl,rfl⟩:=h
     simp only[qAK hr h1,Option.map_none,Sem.run_bind,run_sliceL hu hz hs hlk hhk (lohi hr hl) (lohi hr hhi) (hn _ (List.mem_singleton.2 rfl)),Result.andThen_ok,Sem.run_pure]
    ·simp at h
   ·simp at h
  ·simp at h
 | call c =>
  simp only[pur]at h
  have hargs:∀{x:T},opTs st c.args.toList=some [x]->c.args.map a.eval=#[x.ev ρ β]:=fun {x} h1=>by
   apply Array.ext';rw[Array.toList_map,qIK hr h1];rfl
  split at h
  ·rename_i x ty hc h1 h2
   have ht:c.argTypes=#[ty]:=by grind
   split at h
   ·rename_i e hk hu
    simp only[Option.some.injEq,Prod.mk.injEq]at h
    obtain⟨rfl,rfl⟩:=h
    obtain⟨p,n,cp,hx⟩:=qHb (ρ:=ρ) (β:=β) hk
    simp only[resolve,hc,hargs h1,ht,Sem.run_bind,Sem.run_pure,Result.andThen_ok,invoke,builtin,hx,qHS,qJv]
    simp[Builtin.len_,run_underlying hu,goInt]
   ·rename_i hk hu
    simp only[Option.some.injEq,Prod.mk.injEq]at h
    obtain⟨rfl,rfl⟩:=h
    obtain⟨s,hx⟩:=qHA (ρ:=ρ) (β:=β) hk
    simp only[resolve,hc,hargs h1,ht,Sem.run_bind,Sem.run_pure,Result.andThen_ok,invoke,builtin,hx,T.ev,U.ev,asS]
    simp[Builtin.len_,run_underlying hu,goInt]
   ·simp at h
  ·rename_i x ty hc h1 h2
   have ht:c.argTypes=#[ty]:=by grind
   split at h
   ·rename_i e hk hu
    simp only[Option.some.injEq,Prod.mk.injEq]at h
    obtain⟨rfl,rfl⟩:=h
    obtain⟨p,n,cp,hx⟩:=qHb (ρ:=ρ) (β:=β) hk
    simp only[resolve,hc,hargs h1,ht,Sem.run_bind,Sem.run_pure,Result.andThen_ok,invoke,builtin,hx,qKI,asCap]
    simp[Builtin.cap_,run_underlying hu,goInt]
   ·simp at h
  ·simp at h
 | _=>simp[pur]at h
end
theorem lookup_mem:∀{l:List (Nat×T)} {s:Nat} {t:T},l.lookup s=some t->(s,t)∈l
 | (s',t')::l,s,t,h=>by
  rw[List.lookup_cons]at h
  split at h
  ·rename_i e;simp only[beq_iff_eq]at e;subst e;simp only[Option.some.injEq]at h;subst h;exact List.mem_cons_self
  ·exact List.mem_cons_of_mem _ (lookup_mem h)
theorem qFF:∀{l:List (Nat×T×Nat)} {s:Nat} {t:T×Nat},l.lookup s=some t->(s,t)∈l
 | (s',t')::l,s,t,h=>by
  rw[List.lookup_cons]at h
  split at h
  ·rename_i e;simp only[beq_iff_eq]at e;subst e;simp only[Option.some.injEq]at h;subst h;exact List.mem_cons_self
  ·exact List.mem_cons_of_mem _ (qFF h)
theorem qCP{st:St}{s:Nat}{t:T}(h:st.get s=some t):st.slots.lookup s=some t:=by
 grind [St.get]
theorem get_ne{st:St}{s:Nat}{t:T}(h:st.get s=some t):t≠.nil:=by
 grind [St.get]
theorem qLn(st:St)(d s:Nat)(t:T):(st.put d t).get s=if s=d then (if t=.nil then none else some t) else st.get s:=by
 grind [St.get,St.put]
theorem wf_get{st:St}(h:st.wf=true){s:Nat}{t:T}(hs:st.get s=some t):t.wf st.nv st.nb=true:=by
 simp only[St.wf,Bool.and_eq_true,List.all_eq_true]at h
 exact h.1 _ (lookup_mem (qCP hs))
theorem qIn{st:St}(h:st.wf=true){i:Nat}{cs:T}{ty:Nat}(hs:st.box i=some (cs,ty)):i<st.nb/\cs.wf st.nv st.nb=true:=by
 simp only[St.wf,Bool.and_eq_true,List.all_eq_true,decide_eq_true_eq]at h
 exact h.2 _ (qFF hs)
section
variable{P:Program}{O V0:Mem}{w0:World}{N:Nat}{β:Nat->Nat}{st:St}{ρ:List Value}{V:Mem}{a:Act}{w:World}{tmps:Array Value}
theorem Rel.put(h:Rel O V0 w0 N β st ρ V tmps w){d:Nat}(hd:d<N)(t:T):Rel O V0 w0 N β (st.put d t) ρ V (tmps.setIfInBounds d (t.ev ρ β)) w :=
 {nv:=h.nv
  size:=by simpa using h.size
  slots:=fun s t' hs=>by
   rw[qLn]at hs
   split at hs
   ·rename_i e;subst e
    split at hs
    ·simp at hs
    ·simp only[Option.some.injEq]at hs;subst hs
     have:s<tmps.size:=by rw[h.size];exact hd
     simp_all
   ·rename_i e
    rw[<- h.slots s t' hs]
    by_cases hlt:s<tmps.size
    ·simp[Array.getD,hlt,show ¬d=s by omega]
    simp_all
  frm:=h.frm
  boxes:=h.boxes
  hid:=h.hid
  inj:=h.inj }
theorem Rel.putO(h:Rel O V0 w0 N β st ρ V a.tmps w){d:Option Nat}(hd:qFo N d=true)(t:T){v:Value}(hv:v=t.ev ρ β) :
  Rel O V0 w0 N β (st.putO d t) ρ V (a.put d v).tmps w:=by
 subst hv
 cases d with
 | none=>exact h
 | some d=>exact h.put (by simpa [qFo]using hd) t
theorem qDb{l:List (Nat×T)}:∀{keep:List Nat} {s:Nat} {t:T},(qFi l keep).lookup s=some t->l.lookup s=some t
 | [],s,t,h=>by simp[qFi]at h
 | k::ks,s,t,h=>by
  simp only[qFi]at h
  split at h
  ·rename_i t' ht
   rw[List.lookup_cons]at h
   split at h
   ·simp_all
   ·exact qDb h
  ·exact qDb h
theorem qEh{d:Nat}:∀{l:List (Nat×T)} {s:Nat} {t:T},(l.filter (fun x=>x.1 != d)).lookup s=some t->l.lookup s=some t
 | [],s,t,h=>by simp at h
 | (k,x)::l,s,t,h=>by
  rw[List.lookup_cons]
  simp only[List.filter_cons]at h
  by_cases e:k=d
  ·subst e
   simp only[bne_self_eq_false,Bool.false_eq_true,if_false]at h
   have hm:=lookup_mem h
   have hne:s≠k:=by simp_all
   have:(s==k)=false:=by simpa using hne
   rw[this];exact qEh h
  ·have e':(k != d)=true:=by simpa using e
   simp only[e',if_true,List.lookup_cons]at h
   split at h
   ·simp_all
   ·simp_all;exact qEh h
theorem Rel.fewer(h:Rel O V0 w0 N β st ρ V tmps w)(l:List (Nat×T))(hl:∀s t,l.lookup s=some t->st.slots.lookup s=some t):Rel O V0 w0 N β { st with slots:=l } ρ V tmps w :=
 {h with
  slots:=fun s t hs=>h.slots s t (by
   grind [St.get,absurd])
  boxes:=h.boxes
  hid:=h.hid
  inj:=h.inj }
theorem Rel.compact(h:Rel O V0 w0 N β st ρ V tmps w)(keep:List Nat):Rel O V0 w0 N β (st.compact keep) ρ V tmps w:=h.fewer _ fun _ _=>qDb
theorem Rel.drop(h:Rel O V0 w0 N β st ρ V tmps w)(d:Nat):Rel O V0 w0 N β (st.drop d) ρ V tmps w:=h.fewer _ fun _ _=>qEh
theorem Rel.now(h:Rel O V0 w0 N β st ρ V tmps w){d:Nat}{t t':T}(hd:st.get d=some t)(he:t.ev ρ β=t'.ev ρ β):Rel O V0 w0 N β (st.now d t') ρ V tmps w :=
 {h.drop d with
  slots:=fun s x hs=>by
   unfold St.now at hs
   rw[qLn]at hs
   split at hs
   ·rename_i e;subst e
    split at hs
    ·simp at hs
    ·simp only[Option.some.injEq]at hs;subst hs
     rw[h.slots s t hd,he]
   ·exact(h.drop d).slots s x hs }
theorem qJd{ρ vs:List Value}{m:Nat}(h:m<ρ.length):ρ.getD m undef=(ρ++vs).getD m undef:=by
 grind
theorem Rel.bind(h:Rel O V0 w0 N β st ρ V tmps w)(hw:st.wf=true)(vs:List Value):Rel O V0 w0 N β (st.more vs.length) (ρ++vs) V tmps w:=by
 have hc:∀t:T,t.wf st.nv st.nb=true->t.ev ρ β=t.ev (ρ++vs) β/\t.evs ρ β=t.evs (ρ++vs) β :=
  T.ev_congr (fun m hm=>qJd (by rw[h.nv];exact hm)) (fun _ _=>rfl)
 exact
 {nv:=by simp[St.more,h.nv]
  size:=h.size
  slots:=fun s t hs=>(h.slots s t hs).trans (hc t (wf_get hw hs)).1
  frm:=h.frm
  boxes:=fun i cs ty hi=>by
   have:=h.boxes i cs ty hi
   rw[<- (hc cs (qIn hw hi).2).2];exact this
  hid:=h.hid
  inj:=h.inj }
theorem Rel.frame(h:Rel O V0 w0 N β st ρ V tmps w){V':Mem}{w':World}(hf:Frm V w V' w'):Rel O V0 w0 N β st ρ V' tmps w' :=
 {nv:=h.nv
  size:=h.size
  slots:=h.slots
  frm:=h.frm.trans hf
  boxes:=fun i cs ty hi=>by
   obtain⟨h1,h2,h3,h4⟩:=h.boxes i cs ty hi
   have hlt:β i<w.heap.size:=(Array.getElem?_eq_some_iff.1 h1).1
   refine⟨(hf.old _ hlt h2).trans h1,?_,h3,h4⟩
   cases hc:V' (β i) with
   | none=>rfl
   | some o =>
    rcases hf.dom (β i) (by simp[hc]) with h5|h5
    ·grind
    ·omega
  hid:=fun b o hb=>by
   obtain⟨h1,h2,h3,h4⟩:=h.hid b o hb
   have hlt:b<w.heap.size:=(Array.getElem?_eq_some_iff.1 h1).1
   refine⟨(hf.old _ hlt h2).trans h1,?_,h3,h4⟩
   cases hc:V' b with
   | none=>rfl
   | some o' =>
    rcases hf.dom b (by simp[hc]) with h5|h5
    ·grind
    ·omega
  inj:=h.inj }
theorem qKs(w:World)(o:Obj):(w.alloc o).heap[w.heap.size]?=some o:=by
 show (w.heap.push o)[w.heap.size]?=some o
 simp
theorem qES(w:World)(o:Obj){b:Nat}(h:b<w.heap.size):(w.alloc o).heap[b]?=w.heap[b]?:=by
 show (w.heap.push o)[b]?=w.heap[b]?
 grind
theorem le_none{V:Mem}{w:World}(h:V.le w){b:Nat}(hb:w.heap.size<=b):V b=none:=by
 cases hc:V b with
 | none=>rfl
 | some o=>have:=h b o hc;simp_all
theorem Frm.alloc{V:Mem}{w:World}(h:V.le w)(o:Obj):Frm V w V (w.alloc o) :=
 ⟨by simp_all,fun b o' hb=>by
   have:=h b o' hb
   grind [qES,Array.getElem?_eq_some_iff],fun b hb _=>qES w o hb,fun _ h=>.inl h,rfl,rfl⟩
def upd(β:Nat->Nat)(i b:Nat):Nat->Nat:=fun j=>if j=i then b else β j
theorem Rel.alloc(h:Rel O V0 w0 N β st ρ V tmps w)(hw:st.wf=true){cs:T}(hc:cs.wf st.nv st.nb=true)(ty:Nat) :
  Rel O V0 w0 N (upd β st.nb w.heap.size) { st with boxes:=(st.nb,cs,ty)::st.boxes,nb:=st.nb+1 } ρ V tmps (w.alloc (.cells (cs.evs ρ β).toArray ty (0,0))):=by
 have hcg:∀t:T,t.wf st.nv st.nb=true->t.ev ρ β=t.ev ρ (upd β st.nb w.heap.size)/\t.evs ρ β=t.evs ρ (upd β st.nb w.heap.size) :=
  T.ev_congr (fun _ _=>rfl) (fun i hi=>by grind [upd])
 have hbox:∀(i:Nat) (x:T×Nat),St.box { st with boxes:=(st.nb,cs,ty)::st.boxes,nb:=st.nb+1 } i=some x->(i=st.nb/\x=(cs,ty))∨(i≠st.nb/\st.box i=some x):=by
  grind [St.box,inr]
 have hsz:∀i,i≠st.nb->(st.box i).isSome=true->upd β st.nb w.heap.size i<w.heap.size:=by
  intro i hi hs
  obtain⟨x,hx⟩:=Option.isSome_iff_exists.1 hs
  have:=(h.boxes i x.1 x.2 hx).1
  grind [upd]
 exact
 {nv:=h.nv
  size:=h.size
  slots:=fun s t hs=>(h.slots s t hs).trans (hcg t (wf_get hw hs)).1
  frm:=h.frm.trans (Frm.alloc h.frm.le _)
  boxes:=fun i cs' ty' hi=>by
   rcases hbox i _ hi with⟨rfl,e⟩|⟨hne,hi'⟩
   ·cases e
    refine⟨?_,?_,?_,Nat.lt_succ_self _⟩
    ·rw[<- (hcg cs hc).2];simp only[upd,if_true];exact qKs w _
    ·simp only[upd,if_true];exact le_none h.frm.le (Nat.le_refl _)
    ·simp only[upd,if_true];exact h.frm.size
   ·obtain⟨h1,h2,h3,h4⟩:=h.boxes i cs' ty' hi'
    grind [upd,qIn,qES,Array.getElem?_eq_some_iff,Nat.lt_succ_of_lt]
  hid:=fun b o hb=>by
   obtain⟨h1,h2,h3,h4⟩:=h.hid b o hb
   have hlt:b<w.heap.size:=(Array.getElem?_eq_some_iff.1 h1).1
   refine⟨(qES w _ hlt).trans h1,h2,h3,fun i hi=>?_⟩
   obtain⟨x,hx⟩:=Option.isSome_iff_exists.1 hi
   rcases hbox i x hx with⟨rfl,_⟩|⟨hne,hi'⟩
   ·grind [upd]
   grind [upd]
  inj:=fun i j hi hj he=>by
   obtain⟨x,hx⟩:=Option.isSome_iff_exists.1 hi
   obtain⟨y,hy⟩:=Option.isSome_iff_exists.1 hj
   rcases hbox i x hx with⟨rfl,_⟩|⟨hne,hi'⟩ <;> rcases hbox j y hy with⟨rfl,_⟩|⟨hne',hj'⟩
   ·rfl
   ·grind [upd]
   ·grind [upd]
   ·simp only[upd,if_neg hne,if_neg hne']at he
    exact h.inj i j (by simp[hi']) (by simp[hj']) he }
theorem qIx(w:World)(g:Nat)(cs:Array Value):(w.setRow g cs).heap.size=w.heap.size:=by simp[World.setRow]
theorem setRow_other(w:World)(g:Nat)(cs:Array Value){b:Nat}(h:b≠g):(w.setRow g cs).heap[b]?=w.heap[b]?:=by
 grind [World.setRow,absurd]
theorem Rel.setBox(h:Rel O V0 w0 N β st ρ V tmps w){i:Nat}{cs cs':T}{ty:Nat}(hi:st.box i=some (cs,ty)) :
    Rel O V0 w0 N β (st.setBox i cs' ty) ρ V tmps (w.setRow (β i) (cs'.evs ρ β).toArray):=by
  obtain⟨h1,h2,h3,h4⟩:=h.boxes i cs ty hi
  have hbox:∀(j:Nat) (x:T×Nat),(st.setBox i cs' ty).box j=some x->(j=i/\x=(cs',ty))∨(j≠i/\st.box j=some x):=by
    grind [St.box,St.setBox,inr]
  have hsome:∀j,((st.setBox i cs' ty).box j).isSome=true->(st.box j).isSome=true:=by
    intro j hj
    obtain⟨x,hx⟩:=Option.isSome_iff_exists.1 hj
    grind
  exact
  { nv:=h.nv
    size:=h.size
    slots:=h.slots
    frm:=⟨by grind [qIx],fun b o hb=>by
              have hne:b≠β i:=by grind
              rw[setRow_other w _ _ hne];exact h.frm.le b o hb,fun b hb hV=>by
              rw[setRow_other w _ _ (by omega)];exact h.frm.old b hb hV,h.frm.dom,h.frm.os,h.frm.out⟩
    boxes:=fun j cs'' ty' hj=>by
      rcases hbox j _ hj with⟨rfl,e⟩|⟨hne,hj'⟩
      · cases e
        exact⟨setRow_heap w _ _ _ ty (0,0) h1,h2,h3,h4⟩
      · obtain⟨g1,g2,g3,g4⟩:=h.boxes j cs'' ty' hj'
        have hn:β j≠β i:=fun e=>hne (h.inj j i (by simp[hj']) (by simp[hi]) e)
        exact⟨(setRow_other w _ _ hn).trans g1,g2,g3,g4⟩
    hid:=fun b o hb=>by
      obtain⟨g1,g2,g3,g4⟩:=h.hid b o hb
      exact⟨(setRow_other w _ _ (Ne.symm (g4 i (by simp[hi])))).trans g1,g2,g3,fun j hj=>g4 j (hsome j hj)⟩
    inj:=fun j k hj hk=>h.inj j k (hsome j hj) (hsome k hk) }
theorem qKj(f:T->T):∀(l:List (Nat×T)) (s:Nat),(l.map (fun x=>(x.1,f x.2))).lookup s=(l.lookup s).map f
 | [],s=>rfl
 | (s',t)::l,s=>by
  simp only[List.map_cons,List.lookup_cons]
  split
  ·rfl
  ·exact qKj f l s
theorem qIT(f:T->T):∀(l:List (Nat×T×Nat)) (s:Nat),(l.map (fun x=>(x.1,f x.2.1,x.2.2))).lookup s=(l.lookup s).map fun y=>(f y.1,y.2)
 | [],s=>rfl
 | (s',t)::l,s=>by
  simp only[List.map_cons,List.lookup_cons]
  split
  ·rfl
  ·exact qIT f l s
theorem qEc(i:Nat):∀(l:List (Nat×T×Nat)) (s:Nat),(l.filter (fun x=>x.1 != i)).lookup s=if s=i then none else l.lookup s
 | [],s=>by simp
 | (s',t)::l,s=>by
  simp only[List.filter_cons]
  by_cases h:s'=i
  ·subst h
   simp only[bne_self_eq_false,Bool.false_eq_true,if_false,qEc s' l s,List.lookup_cons]
   grind
  ·have h':(s' != i)=true:=by simpa using h
   simp only[h',if_true,List.lookup_cons,qEc i l s]
   grind
theorem Rel.pubd(h:Rel O V0 w0 N β st ρ V tmps w)(hw:st.wf=true){i:Nat}{cs:T}{ty:Nat}(hi:st.box i=some (cs,ty)) :
  Rel O V0 w0 N β (st.pubd i) (ρ++[.pointer (some ⟨β i,0,none⟩)]) (V.set (β i) (.cells (cs.evs ρ β).toArray ty (0,0))) tmps w:=by
 obtain⟨h1,h2,h3,h4⟩:=h.boxes i cs ty hi
 have hp:(ρ++[Value.pointer (some ⟨β i,0,none⟩)]).getD st.nv undef=Value.pointer (some ⟨β i,0,none⟩):=by
  rw[<- h.nv];simp[List.getD]
 have hcg:∀t:T,t.wf st.nv st.nb=true->(t.subst i st.nv).ev (ρ++[.pointer (some ⟨β i,0,none⟩)]) β=t.ev ρ β/\(t.subst i st.nv).evs (ρ++[.pointer (some ⟨β i,0,none⟩)]) β=t.evs ρ β:=by
  intro t ht
  have e1:=T.ev_subst hp t
  have e2:=T.ev_congr (ρ:=ρ) (ρ':=ρ++[.pointer (some ⟨β i,0,none⟩)]) (β:=β) (β':=β) (fun m hm=>qJd (by rw[h.nv];exact hm)) (fun _ _=>rfl) t ht
  simp_all
 have hbox:∀(j:Nat) (x:T×Nat),(st.pubd i).box j=some x->j≠i/\∃y,st.box j=some y/\x=(y.1.subst i st.nv,y.2):=by
  intro j x hx
  simp only[St.box,St.pubd,qIT,qEc]at hx
  split at hx
  ·simp at hx
  ·rename_i e
   simp only[Option.map_eq_some_iff]at hx
   obtain⟨y,hy,rfl⟩:=hx
   exact⟨e,y,hy,rfl⟩
 have hsome:∀j,((st.pubd i).box j).isSome=true->(st.box j).isSome=true:=by
  grind [Option.isSome_iff_exists]
 exact
 {nv:=by simp[St.pubd,h.nv]
  size:=h.size
  slots:=fun s t hs=>by
   have hl:=qCP hs
   simp only[St.pubd,qKj,Option.map_eq_some_iff]at hl
   obtain⟨t',ht',rfl⟩:=hl
   have hg:st.get s=some t':=by
    unfold St.get
    have hne:t'≠.nil:=fun e=>get_ne hs (by subst e;rfl)
    simp_all
   rw[(hcg t' (wf_get hw hg)).1];exact h.slots s t' hg
  frm :=
   {size:=h.frm.size
    le:=fun b o hb=>by
     by_cases e:b=β i
     ·grind [Mem.set_same]
     ·rw[Mem.set_ne e]at hb;exact h.frm.le b o hb
    old:=h.frm.old
    dom:=fun b hb=>by
     by_cases e:b=β i
     ·omega
     ·rw[Mem.set_ne e]at hb;exact h.frm.dom b hb
    os:=h.frm.os
    out:=h.frm.out }
  boxes:=fun j cs' ty' hj=>by
   obtain⟨hne,y,hy,e⟩:=hbox j _ hj
   obtain⟨g1,g2,g3,g4⟩:=h.boxes j y.1 y.2 hy
   cases e
   have hn:β j≠β i:=fun e=>hne (h.inj j i (by simp[hy]) (by simp[hi]) e)
   rw[(hcg y.1 (qIn hw hy).2).2]
   exact⟨g1,by rw[Mem.set_ne hn];exact g2,g3,g4⟩
  hid:=fun b o hb=>by
   obtain⟨g1,g2,g3,g4⟩:=h.hid b o hb
   exact⟨g1,by rw[Mem.set_ne (Ne.symm (g4 i (by simp[hi])))];exact g2,g3,fun j hj=>g4 j (hsome j hj)⟩
  inj:=fun j k hj hk=>h.inj j k (hsome j hj) (hsome k hk) }
end
section
variable{P:Program}{R:Ending->Mem->Prop}{O V0:Mem}{w0:World}{N:Nat}{L:List (List Value->Mem->Prop)}{ρ0:List Value}
structure Pre (ρ0:List Value) (L:List (List Value->Mem->Prop)) (ρ:List Value) (st:St):Prop where
 pre:ρ0 <+: ρ
 depth:L.length=st.depth
theorem Pre.putO{ρ0:List Value}{L:List (List Value->Mem->Prop)}{ρ:List Value}{st:St}(h:Pre ρ0 L ρ st)(d:Option Nat)(t:T):Pre ρ0 L ρ (st.putO d t):=by
 cases d <;> exact⟨h.1,h.2⟩
theorem Pre.more{ρ0:List Value}{L:List (List Value->Mem->Prop)}{ρ:List Value}{st:St}(h:Pre ρ0 L ρ st)(n:Nat)(vs:List Value):Pre ρ0 L (ρ++vs) (st.more n):=⟨h.1.trans (List.prefix_append _ _),h.2⟩
theorem Pre.pubd{ρ0:List Value}{L:List (List Value->Mem->Prop)}{ρ:List Value}{st:St}(h:Pre ρ0 L ρ st)(i:Nat)(vs:List Value):Pre ρ0 L (ρ++vs) (st.pubd i):=⟨h.1.trans (List.prefix_append _ _),h.2⟩
theorem Pre.compact{ρ0:List Value}{L:List (List Value->Mem->Prop)}{ρ:List Value}{st:St}(h:Pre ρ0 L ρ st)(keep:List Nat):Pre ρ0 L ρ (st.compact keep):=⟨h.1,h.2⟩
theorem Pre.now{ρ0:List Value}{L:List (List Value->Mem->Prop)}{ρ:List Value}{st:St}(h:Pre ρ0 L ρ st)(d:Nat)(t:T):Pre ρ0 L ρ (st.now d t):=⟨h.1,h.2⟩
theorem Pre.setBox{ρ0:List Value}{L:List (List Value->Mem->Prop)}{ρ:List Value}{st:St}(h:Pre ρ0 L ρ st)(i:Nat)(t:T)(ty:Nat):Pre ρ0 L ρ (st.setBox i t ty):=⟨h.1,h.2⟩
def qCE(P:Program)(R:Ending->Mem->Prop)(O V0:Mem)(w0:World)(N:Nat)(L:List (List Value->Mem->Prop))(ρ0:List Value)(tmps:Array Value)(w:World)(st:St)(t:Tr):Prop :=
 ∃β ρ V,Pre ρ0 L ρ st/\Rel O V0 w0 N β st ρ V tmps w/\D P R t L ρ V
theorem qFE{ns:List T}{k:Tr}{ρ:List Value}{V:Mem}(h:D P R (needs ns k) L ρ V)(β:Nat->Nat):(∀x∈ns,asB (x.ev ρ β)=true)/\D P R k L ρ V:=by
 induction ns with
 | nil=>exact⟨fun x hx=>by (cases hx),h⟩
 | cons n ns ih =>
  simp only[needs]at h
  split at h
  ·rename_i hc
   obtain⟨h1,h2⟩:=h
   obtain⟨h3,h4⟩:=ih h2
   refine⟨fun x hx=>?_,h4⟩
   rcases List.mem_cons.1 hx with rfl|hx
   ·grind [T.ev_free,id]
   ·exact h3 x hx
  ·exact h.elim
theorem qCA:∀(n:Nat) (st:St) (i:Nat) (k:St->Tr) {tmps:Array Value} {w:World},qCE P R O V0 w0 N L ρ0 tmps w st (qKa n st i k)->∃st',qCE P R O V0 w0 N L ρ0 tmps w st' (k st')
 | 0,st,i,k,tmps,w,⟨β,ρ,V,hp,hr,hd⟩=>hd.elim
 | n+1,st,i,k,tmps,w,⟨β,ρ,V,hp,hr,hd⟩=>by
  simp only[qKa]at hd
  split at hd
  ·exact hd.elim
  ·rename_i cs ty hb
   split at hd
   ·rename_i j _
    obtain⟨st',h'⟩:=qCA n st j _ ⟨β,ρ,V,hp,hr,hd⟩
    exact qCA n st' i k h'
   ·rename_i hf
    split at hd
    ·rename_i hw
     have:=hd (β i) (hr.boxes i cs ty hb).2.1
     rw[(T.ev_free (β:=id) (β':=β) (ρ:=ρ) cs hf).2]at this
     exact⟨_,β,_,_,hp.pubd _ _,hr.pubd hw hb,this⟩
    ·exact hd.elim
theorem qAW:∀(n:Nat) (st:St) (get:St->Option T) (k:St->T->Tr) {tmps:Array Value} {w:World},qCE P R O V0 w0 N L ρ0 tmps w st (pubT n st get k) ->
  ∃st' t,get st'=some t/\t.firstBox=none/\qCE P R O V0 w0 N L ρ0 tmps w st' (k st' t)
 | 0,st,get,k,tmps,w,⟨β,ρ,V,hp,hr,hd⟩=>hd.elim
 | n+1,st,get,k,tmps,w,⟨β,ρ,V,hp,hr,hd⟩=>by
  simp only[pubT]at hd
  split at hd
  ·exact hd.elim
  ·rename_i t hg
   split at hd
   ·rename_i hf
    exact⟨st,t,hg,hf,β,ρ,V,hp,hr,hd⟩
   ·rename_i i _
    obtain⟨st',h'⟩:=qCA _ st i _ ⟨β,ρ,V,hp,hr,hd⟩
    exact qAW n st' get k h'
theorem rk_vals{β:Nat->Nat}:∀(rs:List RK) (vs ρ σ:List Value),Shaped (rs.flatMap RK.kinds) vs->(qCT rs ρ.length).map (·.ev (ρ++vs++σ) β)=qFA rs vs
 | [],[],_,_,_=>rfl
 | [],_::_,_,_,h=>h.elim
 | .one k::rs,v::vs,ρ,σ,h=>by
  have ih:=rk_vals (β:=β) rs vs (ρ++[v]) σ h.2
  simp only[List.length_append,List.length_singleton,List.append_assoc,List.cons_append,List.nil_append]at ih
  simp only[qCT,List.map_cons,List.append_assoc,List.cons_append,T.ev,ih,qFA,RK.val,RK.size,List.take_succ_cons,List.take_zero,List.headD_cons,List.drop_succ_cons,List.drop_zero,List.cons.injEq,and_true]
  have:(ρ++v::(vs++σ)).getD ρ.length undef=v:=by simp[List.getD]
  rw[this];exact h.1
 | .one k::rs,[],_,_,h=>h.elim
 | .agg ks::rs,vs,ρ,σ,h=>by
  have hs:=qHp (ks:=ks) (ls:=rs.flatMap RK.kinds) (vs:=vs) h
  have hlen:(vs.take ks.length).length=ks.length:=hs.1.length
  have ih:=rk_vals (β:=β) rs (vs.drop ks.length) (ρ++vs.take ks.length) σ hs.2
  have e:ρ++vs.take ks.length++vs.drop ks.length=ρ++vs:=by simp
  rw[e,List.length_append,hlen]at ih
  have hv:=qGM (β:=β) ks (vs.take ks.length) ρ (vs.drop ks.length++σ) hs.1
  have e2:ρ++vs.take ks.length++(vs.drop ks.length++σ)=ρ++vs++σ:=by grind
  grind [qCT,qFA,RK.val,RK.size,T.ev,qAy]
theorem rk_val{β:Nat->Nat}(rs:List RK)(vs ρ:List Value)(h:Shaped (rs.flatMap RK.kinds) vs):(qJW rs ρ.length).ev (ρ++vs) β=qDF rs vs:=by
 have:=rk_vals (β:=β) rs vs ρ [] h
 rw[List.append_nil]at this
 unfold qJW qDF
 match rs,this,h with
 | [],_,_=>rfl
 | [r],this,h =>
  cases r with
  | one k =>
   simp only[qCT,List.map_cons,List.map_nil,qFA,RK.val,RK.size,List.cons.injEq,and_true]at this
   simp only[qCT]
   rw[this]
   cases vs <;> simp[RK.val]
  | agg ks =>
   have hl:vs.length=ks.length:=by have:=h.length;simpa [RK.kinds]using this
   grind [qCT,qFA,RK.val,RK.size]
 | r::r'::rs,this,_ =>
  have h2:∃t t' ts,qCT (r::r'::rs) ρ.length=t::t'::ts:=by cases r <;> cases r' <;> exact⟨_,_,_,rfl⟩
  grind [T.ev,qAy]
theorem qEZ{V:Mem}{w:World}(hV:V.le w){b:Addr}{n:Nat}{vs:List Value}(h:V.row b n=some vs):vs.length=n/\∀j v,vs[j]?=some v->w.cell? (b.add j)=some v:=by
 unfold Mem.row at h
 split at h
 ·rename_i c e fr hb
  split at h
  ·rename_i hc
   simp only[Option.some.injEq]at h;subst h
   refine⟨by simp;omega,fun j v hj=>?_⟩
   have hsp:b.spot=none:=by simpa using hc.1
   have hadd:(b.add j)=⟨b.block,b.off+j,none⟩:=by
    cases b with
    | mk bl off sp=>grind [qGG]
   rw[hadd]
   simp only[World.cell?,hV _ _ hb,Option.isSome_none,Bool.false_eq_true,if_false]
   grind
  ·simp at h
 ·simp at h
theorem qGg{w:World}{ρ:List Value}{β:Nat->Nat}{t:TypeId}{cs x:T}{off:Nat}{b:Addr}(hc:∀j v,(cs.evs ρ β)[j]?=some v->w.cell? (b.add j)=some v)(h:qFn P t cs off=some x) :
  (loadVar t (b.add off)).run P w=.ok (x.ev ρ β) w:=by
 unfold qFn at h
 split at h
 ·rename_i n h1 h2
  simp only at h
  split at h
  ·rename_i hl
   simp only[Option.some.injEq]at h;subst h
   have e:(takeT cs off n).map (·.ev ρ β)=((cs.evs ρ β).drop off).take n:=qKD cs off n
   have hlen:(((cs.evs ρ β).drop off).take n).length=n:=by grind
   have:=run_loadCells_list (P:=P) w (b.add off) (((cs.evs ρ β).drop off).take n) (fun j v hj=>by
    grind [qHF])
   rw[hlen]at this
   simp only[loadVar,Sem.run_bind,qCc h1,Result.andThen_ok,if_true,qBm h2,this,Sem.run_pure,T.ev,qAy,e]
  ·simp at h
 ·rename_i n h1 h2
  have e:(cs.evs ρ β)[off]?=some (x.ev ρ β):=by simp[qAH,h]
  simp_all [loadVar,Sem.run_bind,qCc,Result.andThen_ok,Bool.false_eq_true,if_false,run_load]
 ·simp at h
end
def qCb(P:Program)(fs:List Nat):Prop:=∀f∈fs,∀args w,(callFunc f args).run P w=.ok (.enter f args) w
section
variable{P:Program}{R:Ending->Mem->Prop}{O V0:Mem}{w0:World}{N:Nat}{L:List (List Value->Mem->Prop)}{ρ0:List Value}{fs:List Nat}{H:qHl}
theorem qCS{f:FuncId}{args:Array Value}{w:World}{R R':Ending->World->Prop}(h:Calls P f args w R)(hr:∀e w',R e w'->R' e w'):Calls P f args w R':=fun cs =>
 let ⟨e,w',fr,hR,rest⟩:=h cs
 ⟨e,w',fr,hr _ _ hR,rest⟩
theorem qCM{st:St}:∀{l:List Nat} {t:T},qEN st l=some t->∀s∈l,(l.zip t.toList).lookup s=st.get s
 | [],t,_,s,hs=>by cases hs
 | x::xs,t,h,s,hs=>by
  simp only[qEN]at h
  split at h
  ·rename_i t1 t2 h1 h2
   simp only[Option.some.injEq]at h;subst h
   simp only[T.toList,List.zip_cons_cons,List.lookup_cons]
   by_cases e:s=x
   ·subst e;simp[h1]
   ·have:(s==x)=false:=by simpa using e
    rw[this]
    exact qCM h2 s (by rcases List.mem_cons.1 hs with h|h;exact absurd h e;exact h)
  ·simp at h
theorem qEg{st:St}:∀{l:List Nat} {t:T},qEN st l=some t->∀s∈l,∃x,st.get s=some x/\x∈t.toList
 | [],t,_,s,hs=>by cases hs
 | x::xs,t,h,s,hs=>by
  simp only[qEN]at h
  split at h
  ·rename_i t1 t2 h1 h2
   simp only[Option.some.injEq]at h;subst h
   rcases List.mem_cons.1 hs with rfl|hs
   ·grind [T.toList]
   ·obtain⟨y,hy,hm⟩:=qEg h2 s hs
    exact⟨y,hy,by simp[T.toList,hm]⟩
  ·simp at h
theorem qIf:∀{t:T} {x:T},t.firstBox=none->x∈t.toList->x.firstBox=none
 | .cons h t,x,hf,hx=>by
  simp only[T.firstBox,Option.or_eq_none_iff]at hf
  simp only[T.toList,List.mem_cons]at hx
  rcases hx with rfl|hx
  ·exact hf.1
  ·exact qIf hf.2 hx
 | .var _ _,x,_,hx=>by simp[T.toList]at hx
 | .int _ _,x,_,hx=>by simp[T.toList]at hx
 | .bool _,x,_,hx=>by simp[T.toList]at hx
 | .str _,x,_,hx=>by simp[T.toList]at hx
 | .und,x,_,hx=>by simp[T.toList]at hx
 | .nilp,x,_,hx=>by simp[T.toList]at hx
 | .nilsl,x,_,hx=>by simp[T.toList]at hx
 | .nilm,x,_,hx=>by simp[T.toList]at hx
 | .nilf,x,_,hx=>by simp[T.toList]at hx
 | .nili,x,_,hx=>by simp[T.toList]at hx
 | .box _ _,x,_,hx=>by simp[T.toList]at hx
 | .glob _,x,_,hx=>by simp[T.toList]at hx
 | .fn _ _,x,_,hx=>by simp[T.toList]at hx
 | .u _ _,x,_,hx=>by simp[T.toList]at hx
 | .b2 _ _ _,x,_,hx=>by simp[T.toList]at hx
 | .c3 _ _ _ _,x,_,hx=>by simp[T.toList]at hx
 | .nil,x,_,hx=>by simp[T.toList]at hx
 | .agg _,x,_,hx=>by simp[T.toList]at hx
 | .tup _,x,_,hx=>by simp[T.toList]at hx
theorem lookup_ev{ρ:List Value}:∀{l:List (Nat×T)} {s:Nat},(l.map fun x=>(x.1,x.2.ev ρ id)).lookup s=(l.lookup s).map (·.ev ρ id)
 | [],_=>rfl
 | (n,t)::l,s=>by
  simp only[List.map_cons,List.lookup_cons]
  split
  ·rfl
  ·exact lookup_ev
theorem gval_eval{st:St}{β:Nat->Nat}{ρ:List Value}{V:Mem}{a:Act}{w:World}(hr:Rel O V0 w0 N β st ρ V a.tmps w){l:List Operand}{t:T}(hg:qEN st (qFs l)=some t)(hf:t.firstBox=none) :
  ∀x∈l,a.eval x=gval ((qFs l).zip t.toList) ρ x:=by
 intro x hx
 cases x with
 | tmp s =>
  have hs:s∈qFs l:=List.mem_filterMap.2 ⟨_,hx,rfl⟩
  obtain⟨y,hy,hm⟩:=qEg hg s hs
  have h1:=qCM hg s hs
  simp only[gval,gv,lookup_ev,h1,hy,Option.map_some,Option.getD_some]
  rw[(T.ev_free (β:=id) (β':=β) (ρ:=ρ) y (qIf hf hm)).1]
  exact hr.slots s y hy
 | const v=>rfl
 | global g=>rfl
 | func f=>rfl
theorem qJl{st:St}{β:Nat->Nat}{ρ:List Value}{V:Mem}{a:Act}{w:World}(hr:Rel O V0 w0 N β st ρ V a.tmps w){o:Oper}(hs:qCw o.op=false){t:T}(hg:qEN st (qFs o.op.operands.toList)=some t)(hf:t.firstBox=none) :
  execOp a.eval o=execOp (gval ((qFs o.op.operands.toList).zip t.toList) ρ) { dst:=none,op:=o.op,type:=o.type,pos := "",after:=#[],guard:=none }:=by
 have h1:=execOp_congr (ρ:=a.eval) (ρ':=gval ((qFs o.op.operands.toList).zip t.toList) ρ) o (fun cs b e=>by grind [qCw])
  (fun x hx=>gval_eval hr hg hf x (by simpa using hx))
 rw[h1];rfl
variable{a:Act}{w:World}{st:St}{o:Oper}{k:St->Tr}{next:Act->World->Prop}{Q:Exit->Act->World->Prop}
def qJL(R:Ending->Mem->Prop)(V0:Mem)(w0:World)(ds:List Deferred)(Q:Exit->Act->World->Prop):Prop:=∀chain a' w',a'.defers=ds->(∃V',R (.panicked chain) V'/\Frm V0 w0 V' w')->Q (.panic chain) a' w'
theorem exCall_sound(hcalls:qCb P fs)(hQ:qJL R V0 w0 a.defers Q){c:Call}{f:Operand}(hop:o.op=.call c)(hcf:c.callee=.value f)(hd:qFo N o.dst=true)
  (h:qCE P R O V0 w0 N L ρ0 a.tmps w st (exCall P fs st o c f k))
  (hk:∀st' a' w',(∃v,a'=a.put o.dst v)->qCE P R O V0 w0 N L ρ0 a'.tmps w' st' (k st')->next a' w'):o.wp P a w next Q:=by
 obtain⟨β,ρ,V,hp,hr,hD⟩:=h
 unfold exCall at hD
 split at hD
 ·exact hD.elim
 ·rename_i rs hrs
  -- what is behind the call
  have after:∀(st:St) (β:Nat->Nat) (ρ:List Value) (V:Mem),Pre ρ0 L ρ st->Rel O V0 w0 N β st ρ V a.tmps w->st.wf=true->∀(g:FuncId) (args:Array Value),
    Tri P g args V (fun e V'=>(∃vs,e=.returned (qDF rs vs)/\Shaped (rs.flatMap RK.kinds) vs/\D P R (k ((st.more (qIC rs)).putO o.dst (qJW rs st.nv))) L (ρ++vs) V')∨∃ch,e=.panicked ch/\R e V') ->
    Calls P g args w fun
     | .returned v,w''=>next (a.put o.dst v) w''
     | .panicked chain,w''=>Q (.panic chain) a w''
     | .outgrown,_=>LetsOut Q:=by
   intro st β ρ V hp hr hw g args ht
   refine qCS (ht w hr.frm.le) ?_
   rintro e w' ⟨V',⟨vs,rfl,hsh,hD'⟩|⟨ch,rfl,hR⟩,hF⟩
   rotate_left
   ·exact hQ ch a w' rfl ⟨V',hR,(hr.frame hF).frm⟩
   refine hk _ _ _ ⟨_,rfl⟩ ⟨β,ρ++vs,V',(hp.more _ _).putO _ _,?_,hD'⟩
   have hl:vs.length=qIC rs:=hsh.length
   have h1:=(hr.frame hF).bind hw vs
   rw[hl]at h1
   exact h1.putO hd _ (by rw[<- hr.nv];grind [rk_val])
  split at hD
  ·rename_i g0 caps0 hf0
   obtain⟨st',t,hg,hfree,β',ρ',V',hp',hr',hD'⟩:=qAW _ _ _ _ ⟨β,ρ,V,hp,hr,hD⟩
   split at hg
   ·rename_i g caps ts hf1 hts
    simp only[Option.some.injEq]at hg;subst hg
    simp only at hD'
    split at hD'
    ·rename_i hmem
     unfold bind at hD'
     split at hD'
     ·rename_i hw
      simp only[D]at hD'
      have e1:a.eval f=.func (.func g) #[] (caps.evs ρ' β').toArray:=qAK hr' hf1
      have e2:c.args.map a.eval=(ts.map (·.ev ρ' β')).toArray:=by apply Array.ext';rw[Array.toList_map,qIK hr' hts]
      have hev:=(T.ev_free (β:=id) (β':=β') (ρ:=ρ') (T.ofList (ts++caps.toList)) (by grind [T.firstBox])).2
      have hargs:(T.evs ρ' id (T.ofList (ts++caps.toList))).toArray=(ts.map (·.ev ρ' β')).toArray++(caps.evs ρ' β').toArray:=by
       grind [qAy,qAH]
      have hrun:(execOp a.eval o).run P w=.ok (.enter g ((ts.map (·.ev ρ' β')).toArray++(caps.evs ρ' β').toArray)) w:=by
       unfold execOp
       simp only[hop,resolve,hcf,e1,e2,Deferred.ofValue,Sem.run_bind,Sem.run_pure,Result.andThen_ok,invoke]
       rw[hcalls g (List.contains_iff_mem.1 hmem)]
       simp
      grind [Oper.wp,Oper.upon]
     ·exact hD'.elim
    ·exact hD'.elim
   ·simp at hg
  ·rename_i t0 hf0 _
   obtain⟨st',t,hg,hfree,β',ρ',V',hp',hr',hD'⟩:=qAW _ _ _ _ ⟨β,ρ,V,hp,hr,hD⟩
   split at hg
   ·rename_i t1 ts hf1 hts
    simp only[Option.some.injEq]at hg;subst hg
    simp only at hD'
    unfold bind at hD'
    split at hD'
    ·rename_i hw
     simp only[D]at hD'
     obtain⟨g,first,caps,hfv,hmem,hD'⟩:=hD'
     simp only[T.firstBox,Option.or_eq_none_iff]at hfree
     rw[(T.ev_free (β:=id) (β':=β') (ρ:=ρ') t1 hfree.1).1]at hfv
     have e1:a.eval f=.func (.func g) first caps:=(qAK hr' hf1).trans hfv
     have e2:c.args.map a.eval=(ts.map (·.ev ρ' β')).toArray:=by apply Array.ext';rw[Array.toList_map,qIK hr' hts]
     have hev:=(T.ev_free (β:=id) (β':=β') (ρ:=ρ') (T.ofList ts) hfree.2).2
     have hrun:(execOp a.eval o).run P w=.ok (.enter g (first++(ts.map (·.ev ρ' β')).toArray++caps)) w:=by
      grind [execOp,resolve,Deferred.ofValue,invoke]
     grind [Oper.wp,Oper.upon,qAy]
    ·exact hD'.elim
   ·simp at hg
  ·exact hD.elim
end
section
variable{P:Program}{R:Ending->Mem->Prop}{O V0:Mem}{w0:World}{N:Nat}{L:List (List Value->Mem->Prop)}{ρ0:List Value}{fs:List Nat}{H:qHl}
variable{a:Act}{w:World}{st:St}{o:Oper}{k:St->Tr}{next:Act->World->Prop}{Q:Exit->Act->World->Prop}
theorem qHQ{v:Value}{w':World}(h:(execOp a.eval o).run P w=.ok (.value v) w')(hn:next (a.put o.dst v) w'):o.wp P a w next Q:=by
 unfold Oper.wp;rw[h];exact hn
theorem qKx{w':World}(h:(execOp a.eval o).run P w=.ok .skip w')(hn:next (a.put o.dst undef) w'):o.wp P a w next Q:=by
 unfold Oper.wp;rw[h];exact hn
theorem qBh(a:Act)(d:Option Nat)(v:Value):(a.put d v).defers=a.defers:=by cases d <;> rfl
theorem qJm(hd:qFo N o.dst=true)
  (h:qCE P R O V0 w0 N L ρ0 a.tmps w st (exGen P st o k))
  (hk:∀st' a' w',(∃v,a'=a.put o.dst v)->qCE P R O V0 w0 N L ρ0 a'.tmps w' st' (k st')->next a' w'):o.wp P a w next Q:=by
 obtain⟨β,ρ,V,hp,hr,hD⟩:=h
 unfold exGen at hD
 simp only at hD
 split at hD
 ·exact hD.elim
 ·rename_i hsel
  have hsel':qCw o.op=false:=by simpa using hsel
  split at hD
  ·obtain⟨st',t,hg,hfree,β',ρ',V',hp',hr',hD'⟩:=qAW _ _ _ _ ⟨β,ρ,V,hp,hr,hD⟩
   simp only[D]at hD'
   obtain⟨w',V'',h1,h2,h3⟩:=hD' w hr'.frm.le
   rw[<- qJl hr' hsel' hg hfree]at h1
   refine qKx h1 (hk _ _ _ ⟨_,rfl⟩ ⟨β',ρ',V'',hp'.putO _ _,?_,h3⟩)
   exact(hr'.frame h2).putO hd .und rfl
  ·split at hD
   ·exact hD.elim
   ·rename_i rs hrs
    obtain⟨st',t,hg,hfree,β',ρ',V',hp',hr',hD'⟩:=qAW _ _ _ _ ⟨β,ρ,V,hp,hr,hD⟩
    unfold bind at hD'
    split at hD'
    ·rename_i hw
     simp only[D]at hD'
     obtain⟨x,w',V'',vs,h1,h2,rfl,h3,h4⟩:=hD' w hr'.frm.le
     rw[<- qJl hr' hsel' hg hfree]at h1
     refine qHQ h1 (hk _ _ _ ⟨_,rfl⟩ ⟨β',ρ'++vs,V'',(hp'.more _ _).putO _ _,?_,h4⟩)
     have hl:vs.length=qIC rs:=h3.length
     have h5:=(hr'.frame h2).bind hw vs
     rw[hl]at h5
     exact h5.putO hd _ (by rw[<- hr'.nv];grind [rk_val])
    ·exact hD'.elim
theorem qGd{p b i:T}{sz off:Nat}{e:Option Nat}{ρ:List Value}{β:Nat->Nat}(h:qIu p=(b,i,sz,off,e))(hp:p.kind=some .p) :
  match e with
  | some _=>asP (p.ev ρ β)=qAa (qAa (asP (b.ev ρ β)) ((asI (i.ev ρ β)).toNat*sz)) off
  | none=>asP (p.ev ρ β)=qAa (asP (b.ev ρ β)) ((asI (i.ev ρ β)).toNat*sz):=by
 unfold qIu at h
 split at h
 ·grind [T.ev,U.ev,B.ev,asP]
 ·cases h
  simp only[T.ev,B.ev,asP,qKb,Nat.add_zero]
 ·grind [T.ev,U.ev,asP,asI]
 ·cases h
  simp_all [T.ev,asI,Int.toNat_zero,Nat.zero_mul,asP,qAa,Addr.add_zero']
theorem exLoad_sound{t:TypeId}{x:Operand}(hop:o.op=.load t x)(hd:qFo N o.dst=true)
  (h:qCE P R O V0 w0 N L ρ0 a.tmps w st (qKo P st o.dst t x k))
  (hk:∀st' a' w',(∃v,a'=a.put o.dst v)->qCE P R O V0 w0 N L ρ0 a'.tmps w' st' (k st')->next a' w'):o.wp P a w next Q:=by
 obtain⟨β,ρ,V,hp,hr,hD⟩:=h
 unfold qKo at hD
 obtain⟨st',p,hg,hfree,β',ρ',V',hp',hr',hD'⟩:=qAW _ _ _ _ ⟨β,ρ,V,hp,hr,hD⟩
 have hx:a.eval x=p.ev ρ' β':=qAK hr' hg
 have hfr:∀{b i sz off e},qIu p=(b,i,sz,off,e)->b.firstBox=none/\i.firstBox=none:=by
  intro b i sz off e hs
  unfold qIu at hs
  grind [T.firstBox]
 -- loading, out of cells that are there
 have go:∀(q:Addr) (ks:List K) (vs:List Value) (off:Nat) (z:T),asP (p.ev ρ' β')=some (q.add off)->p.kind=some .p->Shaped ks vs->st'.wf=true ->
   (∀j v,vs[j]?=some v->w.cell? (q.add j)=some v)->qFn P t (T.ofList (vars ks st'.nv)) off=some z->D P R (k ((st'.more ks.length).putO o.dst z)) L (ρ'++vs) V'->o.wp P a w next Q:=by
  intro q ks vs off z hq hpk hsh hw hc hz hD2
  have hl:vs.length=ks.length:=hsh.length
  have hrb:=hr'.bind hw vs
  rw[hl]at hrb
  have hev:(T.ofList (vars ks st'.nv)).evs (ρ'++vs) β'=vs:=by
   rw[qAy,<- hr'.nv]
   have:=qGM (β:=β') ks vs ρ' [] hsh
   simp_all
  have hrun:=qGg (P:=P) (w:=w) (ρ:=ρ'++vs) (β:=β') (b:=q) (by grind) hz
  obtain⟨p',hpe⟩:=qIZ (ρ:=ρ') (β:=β') hpk
  rw[hpe]at hq
  simp only[asP]at hq;subst hq
  refine qHQ (v:=z.ev (ρ'++vs) β') ?_ (hk _ _ _ ⟨_,rfl⟩ ⟨β',ρ'++vs,V',(hp'.more _ _).putO _ _,hrb.putO hd z rfl,hD2⟩)
  grind [execOp,Instr.loadAt,Instr.sureAddr,Sem.run_bind,Sem.run_pure,Result.andThen_ok]
 split at hD'
 case isFalse=>exact hD'.elim
 rename_i hpk
 split at hD'
 ·rename_i b i sz off e hs
  obtain⟨hb,hi⟩:=hfr hs
  split at hD'
  ·rename_i ks hks
   split at hD'
   ·rename_i hlen
    unfold bind at hD'
    split at hD'
    ·rename_i hw
     split at hD'
     ·rename_i z hz
      simp only[D]at hD'
      obtain⟨vs,h1,h2,h3⟩:=hD'
      have he:=qGd (ρ:=ρ') (β:=β') hs hpk
      simp only at he
      rw[(T.ev_free (β:=id) (β':=β') (ρ:=ρ') b hb).1,(T.ev_free (β:=id) (β':=β') (ρ:=ρ') i hi).1]at h1
      cases hq:asP (b.ev ρ' β') with
      | none=>simp[hq,Mem.rowp]at h1
      | some q =>
       simp only[hq,Mem.rowp]at h1
       obtain⟨_,h4⟩:=qEZ hr'.frm.le h1
       grind [qAa]
     ·exact hD'.elim
    ·exact hD'.elim
   ·exact hD'.elim
  ·exact hD'.elim
 ·rename_i b i sz off hs
  obtain⟨hb,hi⟩:=hfr hs
  split at hD'
  ·rename_i ks hks
   unfold bind at hD'
   split at hD'
   ·rename_i hw
    split at hD'
    ·rename_i z hz
     simp only[D]at hD'
     obtain⟨vs,h1,h2,h3⟩:=hD'
     have he:=qGd (ρ:=ρ') (β:=β') hs hpk
     simp only at he
     rw[(T.ev_free (β:=id) (β':=β') (ρ:=ρ') b hb).1,(T.ev_free (β:=id) (β':=β') (ρ:=ρ') i hi).1]at h1
     cases hq:asP (b.ev ρ' β') with
     | none=>simp[hq,Mem.rowp]at h1
     | some q =>
      simp only[hq,Mem.rowp]at h1
      obtain⟨_,h4⟩:=qEZ hr'.frm.le h1
      rw[hq]at he
      simp only[qAa,Option.map_some]at he
      exact go _ ks vs 0 z (by rw[he,Addr.add_zero']) hpk h2 hw h4 hz h3
    ·exact hD'.elim
   ·exact hD'.elim
  ·exact hD'.elim
end
section
variable{P:Program}{R:Ending->Mem->Prop}{O V0:Mem}{w0:World}{N:Nat}{L:List (List Value->Mem->Prop)}{ρ0:List Value}{fs:List Nat}{H:qHl}
variable{a:Act}{w:World}{st:St}{o:Oper}{k:St->Tr}{next:Act->World->Prop}{Q:Exit->Act->World->Prop}
theorem qEy{t:TypeId}{n g off:Nat}{v:Value}{vs:List Value}{cur:Array Value}{ty:TypeId}(hs:qBl P t=some n)(hv:v.cells.toList=vs)(hn:vs.length=n)
  (hg:w.heap[g]?=some (.cells cur ty (0,0))) (hl:off+n<=cur.size) (h1:∀x∈vs,qEE x=true) :
  (storeVar t ⟨g,off,none⟩ v).run P w=.ok () (w.setRow g (cur.toList.take off++vs++cur.toList.drop (off+n)).toArray):=by
 have hsz:v.cells.size=n:=by grind
 have:=run_storeCells_at (P:=P) g off ty vs 0 cur w hg (by omega) (fun x hx=>by grind [oneCell_eq])
 simp_all [storeVar,Sem.run_bind,qBm,Result.andThen_ok,ne_eq,not_true_eq_false,if_false]
theorem kinds_one{t:T}{ρ:List Value}{β:Nat->Nat}(h:(qCh t).isSome=true):∀x∈t.evs ρ β,qEE x=true:=by
 obtain⟨ks,hk⟩:=Option.isSome_iff_exists.1 h
 exact(qHq (ρ:=ρ) (β:=β) t ks hk).one
theorem qLu{t:TypeId}{x y:Operand}(hop:o.op=.store t x y)(hdst:o.dst=none)
  (h:qCE P R O V0 w0 N L ρ0 a.tmps w st (exStore st t (qBl P t) x y k))
  (hk:∀st' a' w',(∃v,a'=a.put o.dst v)->qCE P R O V0 w0 N L ρ0 a'.tmps w' st' (k st')->next a' w'):o.wp P a w next Q:=by
 obtain⟨β,ρ,V,hp,hr,hD⟩:=h
 have hput:∀v,(a.put o.dst v)=a:=by rw[hdst];intro v;rfl
 unfold exStore at hD
 split at hD
 ·rename_i i off v n hx hy hs
  split at hD
  ·rename_i cs ty hb
   split at hD
   ·rename_i hc
    obtain⟨h1,h2,h3,h4⟩:=hc
    have hB:=(hr.boxes i cs ty hb).1
    have e1:a.eval x=.pointer (some ⟨β i,off,none⟩):=qAK hr hx
    have e2:a.eval y=v.ev ρ β:=qAK hr hy
    have hcells:=qGB (ρ:=ρ) (β:=β) h3
    have hlen:(v.cellsT.evs ρ β).length=n:=by grind [qAH]
    have hrun:=qEy (P:=P) hs hcells hlen hB (by rw[List.size_toArray,qAH];simpa using h2) (kinds_one h3)
    have e3:((cs.evs ρ β).toArray.toList.take off++v.cellsT.evs ρ β++(cs.evs ρ β).toArray.toList.drop (off+n))=(T.ofList (cs.toList.take off++v.cellsT.toList++cs.toList.drop (off+n))).evs ρ β:=by
     rw[qAy];simp[qAH,List.map_take,List.map_drop]
    rw[e3]at hrun
    refine qKx (w':=w.setRow (β i) ((T.ofList (cs.toList.take off++v.cellsT.toList++cs.toList.drop (off+n))).evs ρ β).toArray) ?_ (hk _ _ _ ⟨_,rfl⟩ ⟨β,ρ,V,hp.setBox _ _ _,?_,hD⟩)
    ·grind [execOp,Instr.storeAt,Instr.sureAddr,Sem.run_bind,Sem.run_pure,Result.andThen_ok]
    ·rw[hput];exact hr.setBox hb
   ·exact hD.elim
  ·exact hD.elim
 ·rename_i n _ _ _ hs
  obtain⟨st',q,hg,hfree,β',ρ',V',hp',hr',hD'⟩:=qAW _ _ _ _ ⟨β,ρ,V,hp,hr,hD⟩
  split at hg
  ·rename_i p v hx hy
   simp only[Option.some.injEq]at hg;subst hg
   simp only at hD'
   split at hD'
   ·rename_i hc
    obtain⟨h1,h2,h3,h4⟩:=hc
    simp only[T.firstBox,Option.or_eq_none_iff]at hfree
    simp only[D]at hD'
    obtain⟨b,c,ty,g1,g2,g3,g4,g5⟩:=hD'
    rw[(T.ev_free (β:=id) (β':=β') (ρ:=ρ') p hfree.1).1]at g1
    rw[(T.ev_free (β:=id) (β':=β') (ρ:=ρ') _ hfree.2).2]at g4 g5
    obtain⟨p',hpe⟩:=qIZ (ρ:=ρ') (β:=β') h1
    rw[hpe]at g1
    simp only[asP]at g1;subst g1
    have e1:a.eval x=.pointer (some b):=(qAK hr' hx).trans hpe
    have e2:a.eval y=v.ev ρ' β':=qAK hr' hy
    have hcells:=qGB (ρ:=ρ') (β:=β') h3
    have hlen:(v.cellsT.evs ρ' β').length=n:=by grind [qAH]
    have hb:b=⟨b.block,b.off,none⟩:=by cases b;simp_all
    have hB:=hr'.frm.le _ _ g2
    simp only[Nat.add_zero,hlen]at g4 g5
    have hrun:=qEy (P:=P) (off:=b.off) hs hcells hlen hB g4 (kinds_one h3)
    rw[<- hb]at hrun
    refine qKx (w':=w.setRow b.block (c.toList.take b.off++v.cellsT.evs ρ' β'++c.toList.drop (b.off+n)).toArray) ?_ (hk _ _ _ ⟨_,rfl⟩ ⟨β',ρ',_,hp',?_,g5⟩)
    ·grind [execOp,Instr.storeAt,Instr.sureAddr,Sem.run_bind,Sem.run_pure,Result.andThen_ok]
    ·rw[hput]
     refine hr'.frame ⟨by rw[qIx];omega,fun i obj hi=>?_,fun i hi hV=>?_,fun i hi=>?_,rfl,rfl⟩
     ·by_cases e:i=b.block
      ·grind [Mem.set_same,setRow_heap]
      ·rw[Mem.set_ne e]at hi;rw[setRow_other w _ _ e];exact hr'.frm.le i obj hi
     ·grind [setRow_other]
     grind [Mem.set_ne]
   ·exact hD'.elim
  ·simp at hg
 ·exact hD.elim
theorem qEj{cs:T}{ty:Nat}{v:Nat->T}{x:Nat->Value}(hd:qFo N o.dst=true)
  {β:Nat->Nat} {ρ:List Value} {V:Mem} (hp:Pre ρ0 L ρ st) (hr:Rel O V0 w0 N β st ρ V a.tmps w) (hD:D P R (qHf H st o.dst cs ty v k) L ρ V)
  (hrun:(execOp a.eval o).run P w=.ok (.value (x w.heap.size)) (w.alloc (.cells (cs.evs ρ β).toArray ty (0,0))))
  (hv:∀β':Nat->Nat,(v st.nb).ev ρ β'=x (β' st.nb))
  (hk:∀st' a' w',(∃v,a'=a.put o.dst v)->qCE P R O V0 w0 N L ρ0 a'.tmps w' st' (k st')->next a' w'):o.wp P a w next Q:=by
 unfold qHf at hD
 split at hD
 ·rename_i hw
  simp only[Bool.and_eq_true]at hw
  have hr2:=hr.alloc hw.1 hw.2 ty
  have hx:x w.heap.size=(v st.nb).ev ρ (upd β st.nb w.heap.size):=by rw[hv];simp[upd]
  have hp3:Pre ρ0 L ρ (({ st with boxes:=(st.nb,cs,ty)::st.boxes,nb:=st.nb+1 }:St).putO o.dst (v st.nb)) :=
   Pre.putO (st:={ st with boxes:=(st.nb,cs,ty)::st.boxes,nb:=st.nb+1 }) ⟨hp.1,hp.2⟩ _ _
  have hr3:=hr2.putO hd (v st.nb) hx
  refine qHQ hrun ?_
  simp only at hD
  split at hD
  ·rename_i d hdst
   split at hD
   ·obtain⟨st',h'⟩:=qCA _ _ _ _ ⟨_,_,_,hp3,hr3,by simpa [hdst]using hD⟩
    grind
   ·exact hk _ _ _ ⟨_,rfl⟩ ⟨_,_,_,hp3,hr3,by omega⟩
  ·rename_i hdst
   exact hk _ _ _ ⟨_,rfl⟩ ⟨_,_,_,hp3,hr3,by omega⟩
 ·exact hD.elim
theorem qDh{t:TypeId}{cs:List T}{ρ:List Value}{β:Nat->Nat}(h:qBP P t=some cs):∃z,qFT P t=some z/\z.cells.toList=cs.map (·.ev ρ β):=by
 unfold qBP at h
 cases hz:qFT P t with
 | none=>simp[hz]at h
 | some z=>simp only[hz,Option.bind_some]at h;exact⟨z,rfl,(qGf h).symm⟩
theorem mod_cells(zs:List Value)(m:Nat)(h:zs.length=m+1):∀n,(Array.range (n*(m+1))).map (fun i=>(zs.toArray[i % zs.toArray.size]!))=(List.replicate n zs).flatten.toArray:=by
 intro n
 apply Array.ext'
 simp only[Array.toList_map,Array.toList_range,List.size_toArray,h]
 apply List.ext_getElem?
 intro i
 rw[List.getElem?_map]
 induction n generalizing i with
 | zero=>simp
 | succ n ih =>
  by_cases hi:i<n*(m+1)
  ·have h1:=ih i
   have e:(List.replicate (n+1) zs).flatten=(List.replicate n zs).flatten++zs:=by
    rw[show n+1=n+1 from rfl,List.replicate_succ',List.flatten_append];simp
   grind
  ·have e:(List.replicate (n+1) zs).flatten=(List.replicate n zs).flatten++zs:=by
    rw[show n+1=n+1 from rfl,List.replicate_succ',List.flatten_append];simp
   have hl:((List.replicate n zs).flatten).length=n*(m+1):=by simp[h]
   rw[e,List.getElem?_append_right (by omega),hl]
   by_cases h2:i<(n+1)*(m+1)
   ·have h3:i-n*(m+1)<m+1:=by grind
    have h4:i % (m+1)=i-n*(m+1):=by
     have:i=(i-n*(m+1))+n*(m+1):=by omega
     rw[this,Nat.add_mul_mod_self_right,Nat.mod_eq_of_lt h3];omega
    simp_all
   grind
end
section
variable{P:Program}{R:Ending->Mem->Prop}{O V0:Mem}{w0:World}{N:Nat}{L:List (List Value->Mem->Prop)}{ρ0:List Value}{fs:List Nat}{H:qHl}
theorem qLv{a:Act}{w:World}{st:St}{o:Oper}{x:Operand}{next:Act->World->Prop}{Q:Exit->Act->World->Prop}(hQ:qJL R V0 w0 a.defers Q)(hop:o.op=.panic x)
  (h:qCE P R O V0 w0 N L ρ0 a.tmps w st (exPanic st x)):o.wp P a w next Q:=by
 obtain⟨st2,t,hg,hfree,β,ρ,V,hp,hr,hD⟩:=qAW _ _ _ _ h
 simp only[D]at hD
 obtain⟨ty,v,he,hR⟩:=hD
 rw[(T.ev_free (β:=id) (β':=β) (ρ:=ρ) t hfree).1]at he
 have e1:a.eval x=.iface ty v:=(qAK hr hg).trans he
 have hrun:(execOp a.eval o).run P w=.halt (.panic (.iface ty v)) w:=by
  unfold execOp
  simp only[hop,e1]
  rfl
 unfold Oper.wp
 rw[hrun]
 exact hQ _ a w rfl ⟨V,hR,hr.frm⟩
theorem qKn(hcalls:qCb P fs){a:Act}{w:World}{st:St}{o:Oper}{k:St->Tr}{next:Act->World->Prop}{Q:Exit->Act->World->Prop}(hQ:qJL R V0 w0 a.defers Q)
  (h:qCE P R O V0 w0 H.N L ρ0 a.tmps w st (exOp P fs H st o k))
  (hk:∀st' a' w',(∃v,a'=a.put o.dst v)->qCE P R O V0 w0 H.N L ρ0 a'.tmps w' st' (k st')->next a' w'):o.wp P a w next Q:=by
 obtain⟨β,ρ,V,hp,hr,hD⟩:=h
 unfold exOp at hD
 split at hD
 case isFalse=>exact hD.elim
 rename_i hd
 split at hD
 ·rename_i ns t hpu
  obtain⟨h1,h2⟩:=qFE hD β
  exact qHQ (qIG hr hpu h1) (hk _ _ _ ⟨_,rfl⟩ ⟨β,ρ,V,hp.putO _ _,hr.putO hd t rfl,h2⟩)
 ·split at hD
  ·rename_i e x hop
   split at hD
   ·rename_i v hx
    split at hD
    ·rename_i hks
     have hcells:=qGB (ρ:=ρ) (β:=β) hks
     refine qEj (x:=fun b=>.pointer (some ⟨b,0,none⟩)) hd hp hr hD ?_ (fun _=>rfl) hk
     unfold execOp
     simp only[hop,Instr.box,newVar,newRow,Sem.run_bind,run_newObj,Sem.run_pure,Result.andThen_ok,qAK hr hx,<- hcells,Array.toArray_toList]
     rfl
    ·exact hD.elim
   ·exact hD.elim
  ·rename_i e hop
   split at hD
   ·rename_i cs hz
    obtain⟨z,h1,h2⟩:=qDh (ρ:=ρ) (β:=β) hz
    refine qEj (x:=fun b=>.pointer (some ⟨b,0,none⟩)) hd hp hr hD ?_ (fun _=>rfl) hk
    unfold execOp
    simp only[hop,Instr.alloc,qGR h1,newVar,newRow,Sem.run_bind,run_newObj,Sem.run_pure,Result.andThen_ok,qAy,<- h2,Array.toArray_toList]
    rfl
   ·exact hD.elim
  ·rename_i t n parts hop
   split at hD
   ·rename_i e hu
    split at hD
    ·rename_i sz z ps hs hz hpt
     split at hD
     ·rename_i cs hf
      split at hD
      ·rename_i hc
       obtain⟨zv,h1,h2⟩:=qDh (ρ:=ρ) (β:=β) hz
       have h3:=qLr (ρ:=ρ) (β:=β) hf
       refine qEj (x:=fun b=>.slice (some ⟨b,0,none⟩) n n) hd hp hr hD ?_ (fun β'=>by rfl) hk
       have hps:(parts.map fun(i,x)=>(i,a.eval x)).toList=ps.map (fun x=>(x.1,x.2.ev ρ β)):=by rw[<- qII hr hpt,Array.toList_map]
       unfold execOp
       have hsmall:¬n*(sz+1) > 2 ^ 24:=by omega
       have hzl:zv.cells=(z.map (·.ev ρ β)).toArray:=by grind
       have hrep:(List.replicate n z).flatten.map (·.ev ρ β)=(List.replicate n (z.map (·.ev ρ β))).flatten:=by simp_all
       rw[hrep]at h3
       have hmod:=mod_cells (z.map (·.ev ρ β)) sz (by simpa using hc.2) n
       by_cases h0:n*(sz+1)=0
       ·obtain rfl:n=0:=by grind
        simp only[List.replicate_zero,List.flatten_nil]at h3
        have e0:Array.range (0*(sz+1))=#[]:=by simp
        simp only[hop,Instr.buildSlice,run_underlying hu,qBm hs,Sem.run_bind,Result.andThen_ok,hps,if_neg hsmall,if_pos h0,Sem.run_pure,e0,Array.map_empty,h3]
        simp[qAy,newRow]
       ·simp only[hop,Instr.buildSlice,run_underlying hu,qBm hs,Sem.run_bind,Result.andThen_ok,hps,if_neg hsmall,if_neg h0,qGR h1,Sem.run_pure,hzl,hmod,h3]
        simp[qAy,newRow]
      ·exact hD.elim
     ·exact hD.elim
    ·exact hD.elim
   ·exact hD.elim
  ·rename_i t x hop
   exact exLoad_sound hop hd ⟨β,ρ,V,hp,hr,hD⟩ hk
  ·rename_i t x y hop
   split at hD
   ·rename_i hdst
    exact qLu hop hdst ⟨β,ρ,V,hp,hr,hD⟩ hk
   ·exact hD.elim
  ·rename_i c hop
   split at hD
   ·rename_i f hcf
    exact exCall_sound hcalls hQ hop hcf hd ⟨β,ρ,V,hp,hr,hD⟩ hk
   ·exact qJm hd ⟨β,ρ,V,hp,hr,hD⟩ hk
   ·exact hD.elim
  ·rename_i x hop
   exact qLv hQ hop ⟨β,ρ,V,hp,hr,hD⟩
  ·exact qJm hd ⟨β,ρ,V,hp,hr,hD⟩ hk
theorem Rel.getD_size{O V0:Mem}{w0:World}{N:Nat}{β:Nat->Nat}{st:St}{ρ:List Value}{V:Mem}{tmps:Array Value}{w:World}(hr:Rel O V0 w0 N β st ρ V tmps w){d:Nat}{t:T}(hd:st.get d=some t) :
  tmps.getD d undef=t.ev ρ β:=hr.slots d t hd
theorem qGL{all:Array Oper}{tmps:Array Value}{j d:Nat}(hj:(all[j]?).bind (·.dst)=some d):yielded all tmps j=match tmps.getD d undef with | .bool b=>some b|_=>none:=by
 unfold yielded
 rw[hj]
 by_cases h:d<tmps.size
 ·simp only[Option.bind_some,Array.getD,h,dif_pos,getElem?_pos]
  show _=match tmps[d]with | .bool b=>some b|_=>none
  grind
 ·simp only[Option.bind_some,Array.getD,h,dif_neg,not_false_eq_true]
  rw[getElem?_neg tmps d h]
  rfl
theorem qCY(hcalls:qCb P fs){all:Array Oper}{k:St->Tr}{Q:Exit->Act->World->Prop}:∀(l:List Oper) (st:St) (a:Act) (w:World),
  qJL R V0 w0 a.defers Q->qCE P R O V0 w0 H.N L ρ0 a.tmps w st (qLw P fs H all l st k) ->
  (∀st' a' w',a'.defers=a.defers->qCE P R O V0 w0 H.N L ρ0 a'.tmps w' st' (k st')->Q .normal a' w')->wpList P all Q l a w
 | [],st,a,w,_,⟨β,ρ,V,hp,hr,hD⟩,hk=>hk _ a w rfl ⟨β,ρ,V,hp.compact _,hr.compact _,hD⟩
 | o::rest,st,a,w,hQ,h,hk=>by
  have yes:∀st,Region.wanted o (yielded all a.tmps)=true->qCE P R O V0 w0 H.N L ρ0 a.tmps w st (exOp P fs H st o fun st=>qLw P fs H all rest st k)->wpList P all Q (o::rest) a w:=by
   intro st hw hg
   unfold wpList
   rw[if_pos hw]
   refine .inl (qKn hcalls hQ hg fun st' a' w' hd0 hg'=>?_)
   have hd':a'.defers=a.defers:=by obtain⟨v,rfl⟩:=hd0;exact qBh _ _ _
   exact qCY hcalls rest st' a' w' (by rw[hd'];exact hQ) hg' fun st'' a'' w'' h1 h2=>hk st'' a'' w'' (h1.trans hd') h2
  have no:∀st,Region.wanted o (yielded all a.tmps)=false->qCE P R O V0 w0 H.N L ρ0 a.tmps w st (if qFo H.N o.dst then qLw P fs H all rest (st.putO o.dst .und) k else .bad 35 0)->wpList P all Q (o::rest) a w:=by
   intro st hw hg
   unfold wpList
   rw[if_neg (by rw[hw];simp)]
   obtain⟨β,ρ,V,hp,hr,hD⟩:=hg
   split at hD
   ·rename_i hd
    refine qCY hcalls rest _ _ w (by rw[qBh];exact hQ) ⟨β,ρ,V,hp.putO _ _,hr.putO hd .und rfl,hD⟩ fun st'' a'' w'' h1 h2=>hk st'' a'' w'' (h1.trans (qBh _ _ _)) h2
   ·exact hD.elim
  simp only[qLw]at h
  split at h
  ·grind [Region.wanted]
  ·rename_i j want hg
   split at h
   ·obtain⟨β,ρ,V,hp,hr,hD⟩:=h;exact hD.elim
   ·rename_i d hj
    have hy:=qGL (tmps:=a.tmps) hj
    have hwant:Region.wanted o (yielded all a.tmps)=(yielded all a.tmps j==some want):=by simp[Region.wanted,hg]
    obtain⟨β,ρ,V,hp,hr,hD⟩:=h
    split at hD
    ·rename_i v hv
     rw[hr.getD_size hv]at hy
     simp only[T.ev]at hy
     split at hD
     ·rename_i e;subst e;exact yes st (by simp_all) ⟨β,ρ,V,hp,hr,hD⟩
     ·rename_i e;exact no st (by simp_all) ⟨β,ρ,V,hp,hr,hD⟩
    ·rename_i hv
     rw[hr.getD_size hv]at hy
     have:yielded all a.tmps j=none:=by rw[hy];rfl
     exact no st (by grind) ⟨β,ρ,V,hp,hr,hD⟩
    ·rename_i c _ _ hv
     split at hD
     ·rename_i hc
      obtain⟨hc1,hc2,hc3⟩:=hc
      obtain⟨b,hb⟩:=qGs (ρ:=ρ) (β:=β) hc1
      rw[hr.getD_size hv,hb]at hy
      simp only at hy
      simp only[D]at hD
      have hfr:=(T.ev_free (β:=id) (β':=β) (ρ:=ρ) c hc2).1
      have hlearn:Rel O V0 w0 H.N β (st.now d (.bool b)) ρ V a.tmps w:=hr.now hv (by rw[hb];rfl)
      cases b with
      | true =>
       have hD':=hD.1 (by rw[hfr,hb];rfl)
       split at hD'
       ·rename_i e;exact yes _ (by simp_all) ⟨β,ρ,V,hp.now _ _,hlearn,hD'⟩
       ·rename_i e;exact no _ (by simp_all) ⟨β,ρ,V,hp.now _ _,hlearn,hD'⟩
      | false =>
       have hD':=hD.2 (by rw[hfr,hb];rfl)
       split at hD'
       ·rename_i e;exact no _ (by simp_all) ⟨β,ρ,V,hp.now _ _,hlearn,hD'⟩
       ·rename_i e;exact yes _ (by simp_all) ⟨β,ρ,V,hp.now _ _,hlearn,hD'⟩
     ·exact hD.elim
    ·exact hD.elim
end
end Go.Sx
