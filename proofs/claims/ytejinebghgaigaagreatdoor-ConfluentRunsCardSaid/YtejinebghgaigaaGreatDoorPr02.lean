/- Part 2: no statement of the seat is proved here. -/
import Derived.Test.YtejinebghgaigaaGreatDoorPr01
import Derived.MapKept
import Derived.Orders
set_option linter.unusedVariables false
set_option linter.unusedSimpArgs false
open List renaming length_cons->zy,ext_getElem?->zx,length_append->zw,map_cons->zG,size_toArray->zu,mem_singleton->zO,lookup_cons->zd,mem_cons_self->zc,mem_cons_of_mem->zb,all_eq_true->za,filter_cons->z7,prefix_append->yB,mem_cons->yC,append_assoc->zH,cons_append->zI,replicate->yI,replicate_succ'->yJ,flatten_append->yK
open Option.some renaming injEq->zF
open Bool renaming and_eq_true->zC,false_eq_true->zN
open Option renaming bind_some->zt,map_some->zJ,map_eq_some_iff->zj,map_none->zf,isSome_iff_exists->yA,or_eq_none_iff->zD
open Go.Instr renaming indexAt->zr,sliceAt->zq,slice->zo,sliceBounds->zn,sliceBound->zm,sureAddr->zi,storeAt->yH,buildSlice->yM
open Int renaming eq_ofNat_of_zero_le->zp,natCast_inj->zk
open Go.Value.int renaming injEq->zl
open Go.Sem renaming run_bind->zK,run_pure->zM
open Go.Result renaming andThen_ok->zL
open Go.Op renaming equalIn->zX
open Prod.mk renaming injEq->zS
open Array renaming ext'->zh,toList_map->zg,getD->z6,getElem?_eq_some_iff->z8,toArray_toList->yL
open Go.Builtin renaming len_->ze
open Go.Value renaming pointer->zY
open List.cons renaming injEq->yD
open Go.Deferred renaming ofValue->yE
open Go.Oper renaming wp->yF
open Go.Addr renaming add_zero'->yG
open Go.Region renaming wanted->yN
namespace Go.Sx
open Go
section
variable{P:Program}{O V0:Mem}{w0:World}{N:Nat}{β:Nat->Nat}{st:St}{ρ:List Value}{V:Mem}{a:Act}{w:World}
theorem Kk{t:T}(h:(DL t.cellsT).isSome=true):(t.ev ρ β).cells.toList=t.cellsT.evs ρ β:=by
 have key:∀s:T,s.cellsT=.cons s .nil->(DL s.cellsT).isSome=true->(s.ev ρ β).cells.toList=s.cellsT.evs ρ β:=by
  intro s u g;rw[u]at g⊢;simp only[DL]at g;cases f:s.kind with
  |none=>simp[f]at g
  |some k=>
   have h1:=K.ok_one (T.kind_ok (ρ:=ρ) (β:=β) s k f);simp only[T.evs];generalize s.ev ρ β=v at h1⊢;cases v<;>first|rfl|simp[Hd]at h1
 cases t with
 |agg cs=>rfl
 |_=>exact key _ rfl h
theorem foldl_set:∀(vs:List Value)(k off:Nat)(cs:List Value),off+k+vs.length<=cs.length->
  (vs.zipIdx k).foldl (λcs (x:Value×Nat)=>cs.setIfInBounds (off+x.2) x.1) cs.toArray=(cs.take (off+k)++vs++cs.drop (off+k+vs.length)).toArray
 |[],k,off,cs,_=>by simp
 |v::vs,k,off,cs,h=>by
  simp only[zy]at h;have g:=foldl_set vs (k+1) off (cs.set (off+k) v) (by simp;omega);simp only[List.zipIdx_cons,List.foldl_cons,List.setIfInBounds_toArray];rw[g];congr 1;apply zx;intro j;simp only[List.getElem?_append,zw,List.length_take,List.length_set,List.getElem?_take,List.getElem?_drop,List.getElem?_set,zy];grind
theorem LO{g:Nat->Option (Nat×Nat)}:∀{ps:List (Nat×T)}{cells cs:List T},fillT g cells ps=some cs->
  Instr.fill g (cells.map (·.ev ρ β)).toArray (ps.map λx=>(x.1,x.2.ev ρ β))=some (cs.map (·.ev ρ β)).toArray
 |[],cells,cs,h=>by simp only[fillT,zF]at h;subst h;rfl
 |(i,t)::ps,cells,cs,h=>by
  simp only[fillT]at h;split at h;·simp at h
  ·rename_i f size y;split at h
   ·rename_i j;obtain⟨h1,h2,h3⟩:=j;have n:=LO h;have u:=Kk (ρ:=ρ) (β:=β) h3;have l:((t.ev ρ β).cells.toList).length=size:=by grind[DV]
    have z:(t.ev ρ β).cells.size=size:=by simpa using l
    simp only[zG,Instr.fill,y,z,ne_eq,not_true_eq_false,zu,List.length_map,decide_false,Bool.false_or,gt_iff_lt,decide_eq_true_eq];rw[if_neg (by omega)];have m:(t.ev ρ β).cells.zipIdx.foldl (λcs (x:Value×Nat)=>cs.setIfInBounds (f+x.2) x.1) (cells.map (·.ev ρ β)).toArray=
      ((cells.take f++t.cellsT.toList++cells.drop (f+size)).map (·.ev ρ β)).toArray:=by
     rw[<-Array.foldl_toList,Array.toList_zipIdx,foldl_set _ 0 f _ (by simp_all)];grind[DV,List.map_take,List.map_drop]
    simp_all
   ·simp at h
theorem LP(h:Rel O V0 w0 N β st ρ V a.tmps w):∀{l:List (Nat×Operand)}{ps:List (Nat×T)},partsT st l=some ps->l.map (λx=>(x.1,a.eval x.2))=ps.map λx=>(x.1,x.2.ev ρ β)
 |[],ps,g=>by grind[partsT]
 |(i,o)::l,ps,g=>by
  simp only[partsT]at g;split at g
  ·rename_i t f h1 h2;simp only[zF]at g;subst g;simp only[zG,BE h h1,LP h h2]
  ·simp at g
theorem places_eq(fs:List Field)(h:fs.all (λf=>(Dv P f.type).isSome)=true):∃g:List (Nat×Nat),fs.mapM (λ(f:Field)=>(P.info? f.type).map λi=>(f.offset,i.size))=some g/\
  ∀i:Nat,g[i]?=(fs[i]?).bind λ(f:Field)=>(Dv P f.type).map λs=>(f.offset,s):=by
 induction fs with
 |nil=>simp_all
 |cons f fs u=>
  simp only[List.all_cons,zC]at h;obtain⟨z,h1,h2⟩:=u h.2;cases hi:P.info? f.type with
  |none=>simp[Dv,hi]at h
  |some t=>
   refine⟨(f.offset,t.size)::z,by simp_all,λi=>?_⟩;grind[Dv]
theorem run_buildT{t:TypeId}{fs:Array Field}{z cs:List T}{parts:Array (Nat×Operand)}{ps:List (Nat×T)}(u:Rel O V0 w0 N β st ρ V a.tmps w)(hu:P.underlying t=some (.struct fs))
  (g:GC P t=some z) (y:partsT st parts.toList=some ps) (j:fs.toList.all (λf=>(Dv P f.type).isSome)=true) (l:fillT (Ke P fs) z ps=some cs):
  (Instr.build t (parts.map λ(i,x)=>(i,a.eval x))).run P w=.ok (.agg (cs.map (·.ev ρ β)).toArray) w:=by
 apply run_build;unfold Program.built;unfold GC GB at g;cases hi:P.info? t with
 |none=>simp[hi]at g
 |some n=>
  simp only[hi,zt]at g;cases h:n.zero with
  |none=>simp[h]at g
  |some m=>
   simp only[h,zt]at g;obtain⟨r,h1,h2⟩:=places_eq fs.toList j;simp only[hu,h,h1];have q:(λi=>r.toArray[i]?)=Ke P fs:=by
    grind[Ke]
   have p:z.map (·.ev ρ β)=m.cells.toList:=Kh g;have c:=LP u y;have:=LO (ρ:=ρ) (β:=β) l;simp_all
theorem run_indexAtT{t e:TypeId}{s j:T}{k:IntKind}{sz:Nat}(hu:P.underlying t=some (.slice e))(x:s.kind=some .sl)(m:j.kind=some (.i k))(r:Dv P e=some sz)
  (h:∀z∈nn (EO s)++[.b2 .le (.int .i64 0) j,.b2 .lt j (slLen s)],asB (z.ev ρ β)=true):
  (zr t (s.ev ρ β) (j.ev ρ β)).run P w=.ok ((paddT e sz (EO s) j).ev ρ β) w:=by
 obtain⟨p,n,c,g⟩:=IG (ρ:=ρ) (β:=β) x;obtain⟨i,hi⟩:=Fe (ρ:=ρ) (β:=β) m;have h1:=h (.b2 .le (.int .i64 0) j) (by simp);have h2:=h (.b2 .lt j (slLen s)) (by simp);simp only[T.ev,B.ev,hi,At,asB,decide_eq_true_eq,Ki,g,Fu]at h1 h2;have l:A8 ((EO s).ev ρ β)=p:=by rw[NC s x,g,A8]
 have f:∃q,p=some q:=by
  have d:(EO s).kind=some .p∨∃a b c,s=.c3 .slc a b c:=by
   unfold EO;split;·simp_all
   ·exact .inl rfl
  have u:A8 ((EO s).ev ρ β)≠none:=by
   unfold nn at h;intro y;split at h;·simp[*,T.ev,A8]at y
   ·simp[*,T.ev,A8]at y
   ·have h3:=h _ (List.mem_append_left _ (zO.2 rfl));simp[T.ev,U.ev,asB,y]at h3
  rw[l]at u;cases p with
  |none=>simp_all
  |some q=>grind
 obtain⟨q,rfl⟩:=f;obtain⟨h3,v,h4⟩:=paddT_ev (ρ:=ρ) (β:=β) e sz (EO s) j;rw[l,hi]at h3;simp only[At,Aa,zJ]at h3;rw[h4]at h3⊢;simp only[A8]at h3;subst h3;rw[g,hi];simp[zr,run_underlying hu,asIntOf,h1,h2,FP r]
theorem sbyte_at{s:KB}{i:Int}(g:0<=i)(h1:i<s.size):∃b,s[i.toNat]?=some b/\Bp s i=b.toNat:=by
 have h:i.toNat<s.size:=by omega
 have h2:s.data[i.toNat]?=some (s.data[i.toNat]'(by simpa using h)):=Array.getElem?_eq_getElem _;refine⟨s.data[i.toNat]'(by simpa using h),?_,by simp[Bp,h2]⟩;rw[getElem?_pos s i.toNat h];rfl
theorem run_indexT{t:TypeId}{s j:T}{k:IntKind}(hu:P.underlying t=some .string)(g:s.kind=some .s)(f:j.kind=some (.i k))(h:asB ((T.b2 .sidxok s j).ev ρ β)=true):
  (Instr.index t (s.ev ρ β) (j.ev ρ β)).run P w=.ok ((T.b2 .sidx s j).ev ρ β) w:=by
 obtain⟨b,u⟩:=Hg (ρ:=ρ) (β:=β) g;obtain⟨i,hi⟩:=Fe (ρ:=ρ) (β:=β) f;simp only[T.ev,B.ev,u,hi,asB,Bc,At,decide_eq_true_eq]at h;obtain⟨c,h1,h2⟩:=sbyte_at h.1 h.2;simp_all[Instr.index,run_underlying,asIntOf,T.ev,B.ev,Bc,At]
theorem run_sliceS{t:TypeId}{s l h:T}{j k:IntKind}{lo hi:Option Operand}(hu:P.underlying t=some .string)(p:s.kind=some .s)(c:l.kind=some (.i j))(e:h.kind=some (.i k))
  (el:lo.map a.eval=some (l.ev ρ β)∨lo=none/\l=.int .i64 0) (z:hi.map a.eval=some (h.ev ρ β)∨hi=none/\h=.u .slen s) (m:asB ((T.c3 .bnd l h (.u .slen s)).ev ρ β)=true):
  (zq t (s.ev ρ β) (lo.map a.eval) (hi.map a.eval) none).run P w=.ok ((T.c3 .ssub s l h).ev ρ β) w:=by
 obtain⟨b,g⟩:=Hg (ρ:=ρ) (β:=β) p;obtain⟨x,n⟩:=Fe (ρ:=ρ) (β:=β) c;obtain⟨y,f⟩:=Fe (ρ:=ρ) (β:=β) e;simp only[T.ev,C.ev,U.ev,g,n,f,asB,Bc,At,decide_eq_true_eq]at m;obtain⟨h1,h2,h3⟩:=m;obtain⟨x,rfl⟩:=zp h1;obtain⟨y,rfl⟩:=zp (show 0<=y by omega);have r:x<=y:=by omega
 have q:y<=b.size:=by omega
 rcases el with el|⟨rfl,rfl⟩<;>rcases z with z|⟨rfl,rfl⟩
 ·simp[zq,run_underlying hu,zo,zn,zm,asIntOf,el,z,g,n,f,r,q,T.ev,C.ev,Bc,At]
 ·simp only[T.ev,U.ev,g,Bc,zl,zk]at f;obtain⟨-,rfl⟩:=f;simp[zq,run_underlying hu,zo,zn,zm,asIntOf,el,g,n,r,T.ev,C.ev,U.ev,Bc,At]
 ·simp[zq,run_underlying hu,zo,zn,zm,asIntOf,z,g,f,q,T.ev,C.ev,Bc,At]
 ·simp[zq,run_underlying hu,zo,zn,g,T.ev,C.ev,U.ev,Bc,At]
theorem run_sliceL{t e:TypeId}{s l h:T}{j k:IntKind}{sz:Nat}{lo hi:Option Operand}(hu:P.underlying t=some (.slice e))(J:Dv P e=some sz)(q:s.kind=some .sl)(G:l.kind=some (.i j))(Z:h.kind=some (.i k))
  (el:lo.map a.eval=some (l.ev ρ β)∨lo=none/\l=.int .i64 0) (r:hi.map a.eval=some (h.ev ρ β)∨hi=none/\h=slLen s) (b:asB ((T.c3 .bnd l h (Fx s)).ev ρ β)=true):
  (zq t (s.ev ρ β) (lo.map a.eval) (hi.map a.eval) none).run P w=
   .ok ((T.c3 .slc (.c3 (.slp sz) (EO s) l (Fx s)) (.b2 (.sub .i64) h l) (.b2 (.sub .i64) (Fx s) l)).ev ρ β) w:=by
 obtain⟨p,n,c,z⟩:=IG (ρ:=ρ) (β:=β) q;obtain⟨x,f⟩:=Fe (ρ:=ρ) (β:=β) G;obtain⟨y,u⟩:=Fe (ρ:=ρ) (β:=β) Z;have g:=NC (ρ:=ρ) (β:=β) s q;simp only[T.ev,C.ev,LK,z,f,u,asB,At,asCap,decide_eq_true_eq]at b;obtain⟨h1,h2,h3⟩:=b;obtain⟨x,rfl⟩:=zp h1;obtain⟨y,rfl⟩:=zp (show 0<=y by omega);have d:x<=y:=by omega
 have v:y<=c:=by omega
 have hv:(T.c3 .slc (.c3 (.slp sz) (EO s) l (Fx s)) (.b2 (.sub .i64) h l) (.b2 (.sub .i64) (Fx s) l)).ev ρ β=
   .slice (if c=x then p else Aa p (x*sz)) (y-x) (c-x):=by
  rw[z]at g;simp only[T.ev,C.ev,B.ev,g,LK,z,f,u];grind[At,A8,asCap]
 have m:((zn true n c (lo.map a.eval) (hi.map a.eval) none).run P w:Result (Nat×Nat×Nat))=.ok (x,y,c) w:=by
  rcases el with el|⟨rfl,rfl⟩<;>rcases r with r|⟨rfl,rfl⟩
  ·simp[zn,zm,asIntOf,el,r,f,u,d,v]
  ·rw[Ki,z]at u;simp only[Fu,zl,zk]at u;obtain⟨-,rfl⟩:=u;simp[zn,zm,asIntOf,el,f,d]
  ·simp only[T.ev,zl]at f;obtain⟨-,f⟩:=f;obtain rfl:x=0:=by omega
   simp[zn,zm,asIntOf,r,u,v]
  ·simp only[T.ev,zl]at f;obtain⟨-,f⟩:=f;obtain rfl:x=0:=by omega
   rw[Ki,z]at u;simp only[Fu,zl,zk]at u;obtain⟨-,rfl⟩:=u;rfl
 rw[hv,z];simp only[zq,zK,run_underlying hu,zL,zo,m,FP J,zM];rfl
end
section
variable{P:Program}{ρ:List Value}{β:Nat->Nat}{w:World}
theorem run_eqFs{g:TypeId->T->T->Option T}{n:Nat}{cs ds:T}(l:∀t x y z,g t x y=some z->∃b,z.ev ρ β=.bool b/\(zX n t (x.ev ρ β) (y.ev ρ β)).run P w=.ok b w) :
    ∀(fs:List Field)(z:T),eqFs g P cs ds fs=some z->∃b,z.ev ρ β=.bool b/\
      (do for f in fs do
            if f.name≠ "_" then
              if !(<-zX n f.type (<-part f.type (cs.evs ρ β).toArray f.offset) (<-part f.type (ds.evs ρ β).toArray f.offset))then return false
          pure true:Sem Bool).run P w=.ok b w:=by
  intro fs;induction fs with
  |nil=>
    intro z h;simp only[eqFs,zF]at h;subst h;exact⟨true,rfl,by simp⟩
  |cons f fs m=>
    intro z h;unfold eqFs at h;split at h;· cases h
    rename_i u;split at h;case h_2=>cases h
    rename_i x y q p;split at h;case h_2=>cases h
    rename_i a c;obtain⟨b,s,e⟩:=l _ _ _ _ c;simp only[List.forIn_cons,u,ne_eq,not_false_eq_true,if_true,zK,LN q,LN p,zL,e];cases b with
    |false=>
      refine⟨false,?_,by simp⟩;split at h;· grind
      · rw[zj]at h;obtain⟨r,j,rfl⟩:=h;grind[T.ev,B.ev,asB]
    |true=>
      split at h;· simp_all
      · rw[zj]at h;obtain⟨r,j,rfl⟩:=h;obtain⟨v,d,i⟩:=m r j;simp_all[T.ev,B.ev,asB,zK]
theorem run_eqT:∀(d n:Nat)(t:TypeId)(x y z:T),Jo P d t x y=some z->∃b,z.ev ρ β=.bool b/\(zX (n+d) t (x.ev ρ β) (y.ev ρ β)).run P w=.ok b w
 |0,_,_,_,_,_,h=>by simp[Jo]at h
 |d+1,n,t,x,y,z,h=>by
  unfold Jo at h;rw[show n+(d+1)=(n+d)+1 from rfl,zX];split at h
  ·rename_i k0 k k' hu u j;split at h
   ·rename_i e;subst e;cases h;obtain⟨a,f⟩:=Fe (ρ:=ρ) (β:=β) u;obtain⟨b,g⟩:=Fe (ρ:=ρ) (β:=β) j;exact⟨decide (a=b),by simp[T.ev,B.ev,f,g,At],by simp[zK,run_underlying hu,f,g];rfl⟩
   ·cases h
  ·rename_i hu u j;cases h;obtain⟨a,f⟩:=Hg (ρ:=ρ) (β:=β) u;obtain⟨b,g⟩:=Hg (ρ:=ρ) (β:=β) j;exact⟨decide (a=b),by simp[T.ev,B.ev,f,g,Bc],by
    have l:(a==b)=decide (a=b):=by rw[Bool.eq_iff_iff,MapKept.bytes_beq,decide_eq_true_eq]
    simp[zK,run_underlying hu,f,g,l]⟩
  ·rename_i hu u j;cases h;obtain⟨a,f⟩:=GG (ρ:=ρ) (β:=β) u;obtain⟨b,g⟩:=GG (ρ:=ρ) (β:=β) j;exact⟨a==b,by simp[T.ev,B.ev,f,g,asB],by simp[zK,run_underlying hu,f,g]⟩
  ·rename_i fs hu u j;split at h;case h_2=>cases h
   rename_i cs ds;split at h;case isFalse=>cases h
   rename_i i;obtain⟨b,g,m⟩:=run_eqFs (n:=n+d) (λt x y z h=>run_eqT d n t x y z h) fs.toList z h;refine⟨b,g,?_⟩;simp only[zK,run_underlying hu,zL,T.ev,run_program,i,<-Array.forIn_toList];simp_all
  ·cases h
theorem run_eqAgg{op:BinOp}{g:TypeId}{x y:Operand}{p q t:T}{ns:List T}(h:eqAgg P op g p q=some (ns,t)):
  (do eqGuard op g x y (p.ev ρ β) (q.ev ρ β);binOp op g (p.ev ρ β) (q.ev ρ β):Sem Value).run P w=.ok (t.ev ρ β) w:=by
 unfold eqAgg at h;split at h;case h_2=>cases h
 rename_i cs ds;split at h;case isFalse=>cases h
 rename_i i;rw[Option.bind_eq_some_iff]at h;obtain⟨z,u,l⟩:=h;obtain⟨b,n,f⟩:=run_eqT (ρ:=ρ) (β:=β) (w:=w) 5 9995 g _ _ z u;have f:(Op.equal g (T.ev ρ β (.agg cs)) (T.ev ρ β (.agg ds))).run P w=.ok b w:=f;have j:(eqGuard op g x y (T.ev ρ β (.agg cs)) (T.ev ρ β (.agg ds))).run P w=.ok () w:=by
  simp_all[eqGuard,T.ev,zK,run_program]
 grind[zK,zL,Hj,T.ev]
end
section
variable{P:Program}{O V0:Mem}{w0:World}{N:Nat}{β:Nat->Nat}{st:St}{ρ:List Value}{V:Mem}{a:Act}{w:World}
theorem lohi{st:St}{lo:Option Operand}{d l:T}(g:Rel O V0 w0 N β st ρ V a.tmps w)(h:(match lo with|some l=>BI st l|none=>some d)=some l):
  lo.map a.eval=some (l.ev ρ β)∨lo=none/\l=d:=by
 cases lo with
 |some x=>grind[BE]
 |none=>simp_all
theorem LQ(g:Rel O V0 w0 N β st ρ V a.tmps w){o:Oper}{ns:List T}{t:T}(h:Da P st o.op=some (ns,t))(G:∀x∈ns,asB (x.ev ρ β)=true):
  (execOp a.eval o).run P w=.ok (.value (t.ev ρ β)) w:=by
 unfold execOp;generalize o.op=op at h⊢;cases op with
 |move x=>
  simp only[Da,zj,zS]at h;obtain⟨Y,h1,rfl,rfl⟩:=h;simp only[zM,BE g h1]
 |assign x=>
  simp only[Da,zj,zS]at h;obtain⟨Y,h1,rfl,rfl⟩:=h;simp only[zM,BE g h1]
 |pick c x y=>
  simp only[Da]at h;split at h
  ·rename_i v p q h1 h2 h3;simp only[zF,zS]at h;obtain⟨rfl,rfl⟩:=h;simp only[BE g h1,BE g h2,BE g h3,T.ev,asBool,zK,zM,zL];cases v<;>rfl
  ·simp at h
 |load ty x=>
  simp only[Da]at h;split at h
  ·rename_i i off h1;cases B:st.box i with
   |none=>simp[B]at h
   |some cs=>
    obtain⟨cs,e⟩:=cs;simp only[B,zt,zj,zS]at h;obtain⟨Y,h2,rfl,rfl⟩:=h;have hB:=(g.boxes i cs e B).1;have:=Jv (P:=P) hB h2;simp only[BE g h1,T.ev,Instr.loadAt,zi,zK,zM,zL,this]
  ·simp at h
 |fieldAddr s x f=>
  simp only[Da]at h;split at h
  ·rename_i fs p hu h1;cases W:fs[f]? with
   |none=>simp[W]at h
   |some fd=>
    simp only[W,zt]at h;split at h
    ·rename_i m Z;split at h
     ·rename_i r;simp only[zF,zS]at h;obtain⟨rfl,rfl⟩:=h;obtain⟨q,D⟩:=nn_some r G;rw[poff_ev _ _ ⟨_,D⟩,D];simp only[BE g h1,D,Instr.fieldAt,zK,run_underlying hu,zL,W,zi,zM,O5 Z,A8,Aa,zJ]
     ·simp at h
    ·simp at h
  ·simp at h
 |indexAddr ty x i=>
  simp only[Da]at h;split at h
  ·rename_i e s j hu h1 h2;split at h
   ·rename_i k sz Z hj E;simp only[zF,zS]at h;obtain⟨rfl,rfl⟩:=h;simp only[BE g h1,BE g h2,zK,run_indexAtT hu Z hj E G,zL,zM]
   ·simp at h
  ·simp at h
 |index ty x i=>
  simp only[Da]at h;split at h
  ·rename_i s j hu h1 h2;split at h
   ·rename_i k Z hj;simp only[zF,zS]at h;obtain⟨rfl,rfl⟩:=h;simp only[BE g h1,BE g h2,zK,run_indexT hu Z hj (G _ (zO.2 rfl)),zL,zM]
   ·simp at h
  ·simp at h
 |binOp b xt x y yt=>
  simp only[Da]at h;split at h
  ·rename_i p q h1 h2;have:=(Option.or_eq_some_iff.1 h).elim (λh=>run_binOpT (P:=P) (x:=x) (y:=y) (w:=w) h G) λh=>run_eqAgg (x:=x) (y:=y) h.2;simp only[BE g h1,BE g h2];rw[zK,this];rfl
  ·simp at h
 |unOp u xt x=>
  simp only[Da]at h;split at h
  ·rename_i Y h1;split at h
   ·rename_i r;simp only[zF,zS]at h;obtain⟨rfl,rfl⟩:=h;obtain⟨b,B⟩:=GG (ρ:=ρ) (β:=β) r;simp[BE g h1,B,Op.unary,notT_ev,asB]
   ·simp at h
  ·rename_i Y h1;split at h
   ·rename_i k r;simp only[inr,zF,zS]at h;obtain⟨rfl,rfl⟩:=h;obtain⟨m,hm⟩:=Fe (ρ:=ρ) (β:=β) r;have h3:=G _ (zO.2 rfl);simp only[T.ev,U.ev,hm,At,asB,decide_eq_true_eq]at h3;simp only[BE g h1,hm,Op.unary,Op.intArith,zK,zM,zL,T.ev,U.ev,At,Hi h3]
   ·simp at h
  ·simp at h
 |convert src dst x=>
  simp only[Da]at h;split at h
  ·rename_i k0 k Y A I h1;split at h
   ·rename_i j r;obtain⟨m,hm⟩:=Fe (ρ:=ρ) (β:=β) r;have key:k.wrap m=m->((do pure (Next.value (<-convert src dst (a.eval x))):Sem Next).run P w)=.ok (.value (.int k m)) w:=λe=>by
     simp only[BE g h1,hm,zK,convert,run_underlying A,run_underlying I,zL,Conv.intToInt,zM,e]
    split at h
    ·rename_i e;subst e;simp only[inr,zF,zS]at h;obtain⟨rfl,rfl⟩:=h;have h3:=G _ (zO.2 rfl);simp_all[T.ev,U.ev,At,asB,decide_eq_true_eq,Hi]
    ·simp only[inr,zF,zS]at h;obtain⟨rfl,rfl⟩:=h;have h3:=G _ (zO.2 rfl);simp_all[T.ev,U.ev,At,asB,decide_eq_true_eq,Hi]
   ·simp at h
  ·rename_i Y A I h1;split at h
   ·rename_i r;simp only[zF,zS]at h;obtain⟨rfl,rfl⟩:=h;obtain⟨m,hm⟩:=Hg (ρ:=ρ) (β:=β) r;simp only[BE g h1,hm,zK,convert,run_underlying A,run_underlying I,zL,zM]
   ·simp at h
  ·simp at h
 |build ty parts=>
  simp only[Da]at h;split at h
  ·rename_i fs z ps hu E hp;split at h
   ·rename_i Z;simp only[zj,zS]at h;obtain⟨cs,W,rfl,rfl⟩:=h;grind[zK,run_buildT,zL,zM,T.ev,Di]
   ·simp at h
  ·simp at h
 |field xt x f=>
  simp only[Da]at h;split at h
  ·rename_i fs cs hu h1;cases W:fs[f]? with
   |none=>simp[W]at h
   |some fd=>
    simp only[W,zt,zj,zS]at h;obtain⟨Y,h2,rfl,rfl⟩:=h;simp only[BE g h1,T.ev,Instr.field,zK,run_underlying hu,zL,W,asAgg,zM,LN h2]
  ·simp at h
 |extract x i=>
  simp only[Da]at h;split at h
  ·rename_i cs h1;simp only[zj,zS]at h;obtain⟨Y,h2,rfl,rfl⟩:=h;have:(cs.evs ρ β).toArray[i]?=some (Y.ev ρ β):=by simp[DV,h2]
   simp[BE g h1,T.ev,Instr.extract,this]
  ·simp at h
 |makeFunc fn first J=>
  simp only[Da]at h;split at h
  ·rename_i f ts h1;split at h
   ·rename_i he;simp only[zF,zS]at h;obtain⟨rfl,rfl⟩:=h;have e1:first=#[]:=by simpa using he
    subst e1;have e2:J.map a.eval=(ts.map (·.ev ρ β)).toArray:=by
     apply zh;rw[zg,Ju g h1]
    simp[Instr.makeFunc,T.ev,Di,e2]
   ·simp at h
  ·simp at h
 |nilCheck x=>
  simp only[Da]at h;split at h
  ·rename_i f cs h1;simp only[zF,zS]at h;obtain⟨rfl,rfl⟩:=h;simp only[BE g h1,T.ev,zM]
  ·rename_i p _ h1;split at h
   ·rename_i r;simp only[zF,zS]at h;obtain⟨rfl,rfl⟩:=h;obtain⟨q,D⟩:=nn_some r G;grind[BE,zM]
   ·simp at h
  ·simp at h
 |slice ty x lo hi mx=>
  simp only[Da]at h;split at h
  ·rename_i s hu h1;split at h
   ·rename_i l hh Z hl M;split at h
    ·rename_i j k F X;simp only[zF,zS]at h;obtain⟨rfl,rfl⟩:=h;simp only[BE g h1,zf,zK,run_sliceS hu Z F X (lohi g hl) (lohi g M) (G _ (zO.2 rfl)),zL,zM]
    ·simp at h
   ·simp at h
  ·rename_i e s hu h1;split at h
   ·rename_i sz l hh Z E hl M;split at h
    ·rename_i j k F X;simp only[zF,zS]at h;obtain⟨rfl,rfl⟩:=h;simp only[BE g h1,zf,zK,run_sliceL hu E Z F X (lohi g hl) (lohi g M) (G _ (zO.2 rfl)),zL,zM]
    ·simp at h
   ·simp at h
  ·simp at h
 |call c=>
  simp only[Da]at h;have d:∀{x:T},opTs st c.args.toList=some [x]->c.args.map a.eval=#[x.ev ρ β]:=λ{x} h1=>by
   apply zh;rw[zg,Ju g h1];rfl
  split at h
  ·rename_i x ty K h1 h2;have S:c.argTypes=#[ty]:=by grind
   split at h
   ·rename_i e r hu;simp only[zF,zS]at h;obtain⟨rfl,rfl⟩:=h;obtain⟨p,n,cp,C⟩:=IG (ρ:=ρ) (β:=β) r;simp only[resolve,K,d h1,S,zK,zM,zL,invoke,builtin,C,Ki,Fu];simp[ze,run_underlying hu,goInt]
   ·rename_i r hu;simp only[zF,zS]at h;obtain⟨rfl,rfl⟩:=h;obtain⟨s,C⟩:=Hg (ρ:=ρ) (β:=β) r;simp only[resolve,K,d h1,S,zK,zM,zL,invoke,builtin,C,T.ev,U.ev,Bc];simp[ze,run_underlying hu,goInt]
   ·simp at h
  ·rename_i x ty K h1 h2;have S:c.argTypes=#[ty]:=by grind
   split at h
   ·rename_i e r hu;simp only[zF,zS]at h;obtain⟨rfl,rfl⟩:=h;obtain⟨p,n,cp,C⟩:=IG (ρ:=ρ) (β:=β) r;simp only[resolve,K,d h1,S,zK,zM,zL,invoke,builtin,C,LK,asCap];simp[Builtin.cap_,run_underlying hu,goInt]
   ·simp at h
  ·simp at h
 |_=>simp[Da]at h
end
theorem lookup_mem:∀{l:List (Nat×T)}{s:Nat}{t:T},l.lookup s=some t->(s,t)∈l
 |(s',g)::l,s,t,h=>by
  rw[zd]at h;split at h;·rename_i e;simp only[beq_iff_eq]at e;subst e;simp only[zF]at h;subst h;exact zc
  ·exact zb _ (lookup_mem h)
theorem LR:∀{l:List (Nat×T×Nat)}{s:Nat}{t:T×Nat},l.lookup s=some t->(s,t)∈l
 |(s',g)::l,s,t,h=>by
  rw[zd]at h;split at h;·rename_i e;simp only[beq_iff_eq]at e;subst e;simp only[zF]at h;subst h;exact zc
  ·exact zb _ (LR h)
theorem IH{st:St}{s:Nat}{t:T}(h:st.get s=some t):st.slots.lookup s=some t:=by
 grind[St.get]
theorem get_ne{st:St}{s:Nat}{t:T}(h:st.get s=some t):t≠.nil:=by
 grind[St.get]
theorem Kl(st:St)(d s:Nat)(t:T):(st.put d t).get s=if s=d then(if t=.nil then none else some t)else st.get s:=by
 grind[St.get,St.put]
theorem wf_get{st:St}(h:st.wf=true){s:Nat}{t:T}(g:st.get s=some t):t.wf st.nv st.nb=true:=by
 simp only[St.wf,zC,za]at h;exact h.1 _ (lookup_mem (IH g))
theorem HS{st:St}(h:st.wf=true){i:Nat}{cs:T}{ty:Nat}(g:st.box i=some (cs,ty)):i<st.nb/\cs.wf st.nv st.nb=true:=by
 simp only[St.wf,zC,za,decide_eq_true_eq]at h;exact h.2 _ (LR g)
section
variable{P:Program}{O V0:Mem}{w0:World}{N:Nat}{β:Nat->Nat}{st:St}{ρ:List Value}{V:Mem}{a:Act}{w:World}{tmps:Array Value}
theorem Rel.put(h:Rel O V0 w0 N β st ρ V tmps w){d:Nat}(f:d<N)(t:T):Rel O V0 w0 N β (st.put d t) ρ V (tmps.setIfInBounds d (t.ev ρ β)) w:=
 {nv:=h.nv
  size:=by simpa using h.size
  slots:=λs u g=>by
   rw[Kl]at g;split at g
   ·rename_i e;subst e;split at g;·simp at g
    ·simp only[zF]at g;subst g;have:s<tmps.size:=by rw[h.size];exact f
     simp_all
   ·rename_i e;rw[<-h.slots s u g];by_cases hlt:s<tmps.size;·simp[z6,hlt,show ¬d=s by omega]
    simp_all
  frm:=h.frm
  boxes:=h.boxes
  hid:=h.hid
  inj:=h.inj}
theorem Rel.putO(h:Rel O V0 w0 N β st ρ V a.tmps w){d:Option Nat}(g:Em N d=true)(t:T){v:Value}(hv:v=t.ev ρ β):
  Rel O V0 w0 N β (st.putO d t) ρ V (a.put d v).tmps w:=by
 subst hv;cases d with
 |none=>exact h
 |some d=>exact h.put (by simpa [Em]using g) t
theorem LS{l:List (Nat×T)}:∀{keep:List Nat}{s:Nat}{t:T},(It l keep).lookup s=some t->l.lookup s=some t
 |[],s,t,h=>by simp[It]at h
 |k::g,s,t,h=>by
  simp only[It]at h;split at h
  ·rename_i f u;rw[zd]at h;split at h;·simp_all
   ·exact LS h
  ·exact LS h
theorem LU{d:Nat}:∀{l:List (Nat×T)}{s:Nat}{t:T},(l.filter (λx=>x.1 !=d)).lookup s=some t->l.lookup s=some t
 |[],s,t,h=>by simp at h
 |(k,x)::l,s,t,h=>by
  rw[zd];simp only[z7]at h;by_cases e:k=d
  ·subst e;simp only[bne_self_eq_false,zN,if_false]at h;have hm:=lookup_mem h;have g:s≠k:=by simp_all
   have:(s==k)=false:=by simpa using g
   rw[this];exact LU h
  ·have f:(k !=d)=true:=by simpa using e
   simp only[f,if_true,zd]at h;split at h;·simp_all
   ·simp_all;exact LU h
theorem Rel.fewer(h:Rel O V0 w0 N β st ρ V tmps w)(l:List (Nat×T))(g:∀s t,l.lookup s=some t->st.slots.lookup s=some t):Rel O V0 w0 N β {st with slots:=l} ρ V tmps w:=
 {h with
  slots:=λs t f=>h.slots s t (by
   grind[St.get,absurd])
  boxes:=h.boxes
  hid:=h.hid
  inj:=h.inj}
theorem Rel.compact(h:Rel O V0 w0 N β st ρ V tmps w)(keep:List Nat):Rel O V0 w0 N β (st.compact keep) ρ V tmps w:=h.fewer _ λ_ _=>LS
theorem Rel.drop(h:Rel O V0 w0 N β st ρ V tmps w)(d:Nat):Rel O V0 w0 N β (st.drop d) ρ V tmps w:=h.fewer _ λ_ _=>LU
theorem Rel.now(h:Rel O V0 w0 N β st ρ V tmps w){d:Nat}{t f:T}(u:st.get d=some t)(z:t.ev ρ β=f.ev ρ β):Rel O V0 w0 N β (st.now d f) ρ V tmps w:=
 {h.drop d with
  slots:=λs x g=>by
   unfold St.now at g;rw[Kl]at g;split at g
   ·rename_i e;subst e;split at g;·simp at g
    ·simp only[zF]at g;subst g;rw[h.slots s t u,z]
   ·exact(h.drop d).slots s x g}
theorem ND{ρ vs:List Value}{m:Nat}(h:m<ρ.length):ρ.getD m undef=(ρ++vs).getD m undef:=by
 grind
theorem Rel.bind(h:Rel O V0 w0 N β st ρ V tmps w)(hw:st.wf=true)(vs:List Value):Rel O V0 w0 N β (st.more vs.length) (ρ++vs) V tmps w:=by
 have g:∀t:T,t.wf st.nv st.nb=true->t.ev ρ β=t.ev (ρ++vs) β/\t.evs ρ β=t.evs (ρ++vs) β:=
  T.ev_congr (λm hm=>ND (by rw[h.nv];exact hm)) (λ_ _=>rfl)
 exact
 {nv:=by simp[St.more,h.nv]
  size:=h.size
  slots:=λs t f=>(h.slots s t f).trans (g t (wf_get hw f)).1
  frm:=h.frm
  boxes:=λi cs ty hi=>by
   have:=h.boxes i cs ty hi;rw[<-(g cs (HS hw hi).2).2];exact this
  hid:=h.hid
  inj:=h.inj}
theorem Rel.frame(h:Rel O V0 w0 N β st ρ V tmps w){V':Mem}{w':World}(f:Ax V w V' w'):Rel O V0 w0 N β st ρ V' tmps w':=
 {nv:=h.nv
  size:=h.size
  slots:=h.slots
  frm:=h.frm.trans f
  boxes:=λi cs ty hi=>by
   obtain⟨h1,h2,h3,h4⟩:=h.boxes i cs ty hi;have g:β i<w.heap.size:=(z8.1 h1).1;refine⟨(f.old _ g h2).trans h1,?_,h3,h4⟩;cases t:V' (β i)with
   |none=>rfl
   |some o=>
    rcases f.dom (β i) (by simp[t])with u|u;·grind
    ·omega
  hid:=λb o z=>by
   obtain⟨h1,h2,h3,h4⟩:=h.hid b o z;have g:b<w.heap.size:=(z8.1 h1).1;refine⟨(f.old _ g h2).trans h1,?_,h3,h4⟩;cases t:V' b with
   |none=>rfl
   |some y=>
    rcases f.dom b (by simp[t])with u|u;·grind
    ·omega
  inj:=h.inj}
theorem NF(w:World)(o:Obj):(w.alloc o).heap[w.heap.size]?=some o:=by
 show(w.heap.push o)[w.heap.size]?=some o;simp
theorem Jw(w:World)(o:Obj){b:Nat}(h:b<w.heap.size):(w.alloc o).heap[b]?=w.heap[b]?:=by
 show(w.heap.push o)[b]?=w.heap[b]?;grind
theorem le_none{V:Mem}{w:World}(h:V.le w){b:Nat}(f:w.heap.size<=b):V b=none:=by
 cases g:V b with
 |none=>rfl
 |some o=>have:=h b o g;simp_all
theorem Ax.alloc{V:Mem}{w:World}(h:V.le w)(o:Obj):Ax V w V (w.alloc o):=
 ⟨by simp_all,λb f g=>by
   have:=h b f g;grind[Jw,z8],λb g _=>Jw w o g,λ_ h=>.inl h,rfl,rfl⟩
def upd(β:Nat->Nat)(i b:Nat):Nat->Nat:=λj=>if j=i then b else β j
theorem Rel.alloc(h:Rel O V0 w0 N β st ρ V tmps w)(hw:st.wf=true){cs:T}(v:cs.wf st.nv st.nb=true)(ty:Nat):
  Rel O V0 w0 N (upd β st.nb w.heap.size) {st with boxes:=(st.nb,cs,ty)::st.boxes,nb:=st.nb+1} ρ V tmps (w.alloc (.cells (cs.evs ρ β).toArray ty (0,0))):=by
 have z:∀t:T,t.wf st.nv st.nb=true->t.ev ρ β=t.ev ρ (upd β st.nb w.heap.size)/\t.evs ρ β=t.evs ρ (upd β st.nb w.heap.size):=
  T.ev_congr (λ_ _=>rfl) (λi hi=>by grind[upd])
 have g:∀(i:Nat)(x:T×Nat),St.box {st with boxes:=(st.nb,cs,ty)::st.boxes,nb:=st.nb+1} i=some x->(i=st.nb/\x=(cs,ty))∨(i≠st.nb/\st.box i=some x):=by
  grind[St.box,inr]
 have J:∀i,i≠st.nb->(st.box i).isSome=true->upd β st.nb w.heap.size i<w.heap.size:=by
  intro i hi m;obtain⟨x,l⟩:=yA.1 m;have:=(h.boxes i x.1 x.2 l).1;grind[upd]
 exact
 {nv:=h.nv
  size:=h.size
  slots:=λs t m=>(h.slots s t m).trans (z t (wf_get hw m)).1
  frm:=h.frm.trans (Ax.alloc h.frm.le _)
  boxes:=λi r q hi=>by
   rcases g i _ hi with⟨rfl,e⟩|⟨u,f⟩
   ·cases e;refine⟨?_,?_,?_,Nat.lt_succ_self _⟩;·rw[<-(z cs v).2];simp only[upd,if_true];exact NF w _
    ·simp only[upd,if_true];exact le_none h.frm.le (Nat.le_refl _)
    ·simp only[upd,if_true];exact h.frm.size
   ·obtain⟨h1,h2,h3,h4⟩:=h.boxes i r q f;grind[upd,HS,Jw,z8,Nat.lt_succ_of_lt]
  hid:=λb o G=>by
   obtain⟨h1,h2,h3,h4⟩:=h.hid b o G;have p:b<w.heap.size:=(z8.1 h1).1;refine⟨(Jw w _ p).trans h1,h2,h3,λi hi=>?_⟩;obtain⟨x,l⟩:=yA.1 hi;rcases g i x l with⟨rfl,_⟩|⟨u,f⟩;·grind[upd]
   grind[upd]
  inj:=λi j hi Z d=>by
   obtain⟨x,l⟩:=yA.1 hi;obtain⟨y,Y⟩:=yA.1 Z;rcases g i x l with⟨rfl,_⟩|⟨u,f⟩<;>rcases g j y Y with⟨rfl,_⟩|⟨n,c⟩
   ·rfl
   ·grind[upd]
   ·grind[upd]
   ·simp only[upd,if_neg u,if_neg n]at d;exact h.inj i j (by simp[f]) (by simp[c]) d}
theorem NG(w:World)(g:Nat)(cs:Array Value):(w.setRow g cs).heap.size=w.heap.size:=by simp[World.setRow]
theorem setRow_other(w:World)(g:Nat)(cs:Array Value){b:Nat}(h:b≠g):(w.setRow g cs).heap[b]?=w.heap[b]?:=by
 grind[World.setRow,absurd]
theorem Rel.setBox(h:Rel O V0 w0 N β st ρ V tmps w){i:Nat}{cs f:T}{ty:Nat}(hi:st.box i=some (cs,ty)) :
    Rel O V0 w0 N β (st.setBox i f ty) ρ V tmps (w.setRow (β i) (f.evs ρ β).toArray):=by
  obtain⟨h1,h2,h3,h4⟩:=h.boxes i cs ty hi;have z:∀(j:Nat)(x:T×Nat),(st.setBox i f ty).box j=some x->(j=i/\x=(f,ty))∨(j≠i/\st.box j=some x):=by
    grind[St.box,St.setBox,inr]
  have g:∀j,((st.setBox i f ty).box j).isSome=true->(st.box j).isSome=true:=by
    intro j t;obtain⟨x,s⟩:=yA.1 t;grind
  exact
  { nv:=h.nv
    size:=h.size
    slots:=h.slots
    frm:=⟨by grind [NG],fun b o y=>by
              have u:b≠β i:=by grind
              rw[setRow_other w _ _ u];exact h.frm.le b o y,λb y p=>by
              rw[setRow_other w _ _ (by omega)];exact h.frm.old b y p,h.frm.dom,h.frm.os,h.frm.out⟩
    boxes:=λj l r t=>by
      rcases z j _ t with⟨rfl,e⟩|⟨u,n⟩
      · cases e;exact⟨setRow_heap w _ _ _ ty (0,0) h1,h2,h3,h4⟩
      · obtain⟨q,g2,g3,m⟩:=h.boxes j l r n;have c:β j≠β i:=λe=>u (h.inj j i (by simp[n]) (by simp[hi]) e);exact⟨(setRow_other w _ _ c).trans q,g2,g3,m⟩
    hid:=λb o y=>by
      obtain⟨q,g2,g3,m⟩:=h.hid b o y;exact⟨(setRow_other w _ _ (Ne.symm (m i (by simp[hi])))).trans q,g2,g3,λj t=>m j (g j t)⟩
    inj:=λj k t d=>h.inj j k (g j t) (g k d)}
theorem NH(f:T->T):∀(l:List (Nat×T))(s:Nat),(l.map (λx=>(x.1,f x.2))).lookup s=(l.lookup s).map f
 |[],s=>rfl
 |(s',t)::l,s=>by
  simp only[zG,zd];split;·rfl
  ·exact NH f l s
theorem NJ(f:T->T):∀(l:List (Nat×T×Nat))(s:Nat),(l.map (λx=>(x.1,f x.2.1,x.2.2))).lookup s=(l.lookup s).map λy=>(f y.1,y.2)
 |[],s=>rfl
 |(s',t)::l,s=>by
  simp only[zG,zd];split;·rfl
  ·exact NJ f l s
theorem LV(i:Nat):∀(l:List (Nat×T×Nat))(s:Nat),(l.filter (λx=>x.1 !=i)).lookup s=if s=i then none else l.lookup s
 |[],s=>by simp
 |(s',t)::l,s=>by
  simp only[z7];by_cases h:s'=i
  ·subst h;simp only[bne_self_eq_false,zN,if_false,LV s' l s,zd];grind
  ·have g:(s' !=i)=true:=by simpa using h
   simp only[g,if_true,zd,LV i l s];grind
theorem Rel.pubd(h:Rel O V0 w0 N β st ρ V tmps w)(hw:st.wf=true){i:Nat}{cs:T}{ty:Nat}(hi:st.box i=some (cs,ty)):
  Rel O V0 w0 N β (st.pubd i) (ρ++[.pointer (some ⟨β i,0,none⟩)]) (V.set (β i) (.cells (cs.evs ρ β).toArray ty (0,0))) tmps w:=by
 obtain⟨h1,h2,h3,h4⟩:=h.boxes i cs ty hi;have W:(ρ++[zY (some ⟨β i,0,none⟩)]).getD st.nv undef=zY (some ⟨β i,0,none⟩):=by
  rw[<-h.nv];simp[List.getD]
 have u:∀t:T,t.wf st.nv st.nb=true->(t.subst i st.nv).ev (ρ++[.pointer (some ⟨β i,0,none⟩)]) β=t.ev ρ β/\(t.subst i st.nv).evs (ρ++[.pointer (some ⟨β i,0,none⟩)]) β=t.evs ρ β:=by
  intro t A;have C:=T.ev_subst W t;have D:=T.ev_congr (ρ:=ρ) (ρ':=ρ++[.pointer (some ⟨β i,0,none⟩)]) (β:=β) (β':=β) (λm hm=>ND (by rw[h.nv];exact hm)) (λ_ _=>rfl) t A;simp_all
 have z:∀(j:Nat)(x:T×Nat),(st.pubd i).box j=some x->j≠i/\∃y,st.box j=some y/\x=(y.1.subst i st.nv,y.2):=by
  intro j x l;simp only[St.box,St.pubd,NJ,LV]at l;split at l;·simp at l
  ·rename_i e;simp only[zj]at l;obtain⟨y,n,rfl⟩:=l;exact⟨e,y,n,rfl⟩
 have g:∀j,((st.pubd i).box j).isSome=true->(st.box j).isSome=true:=by
  grind[yA]
 exact
 {nv:=by simp[St.pubd,h.nv]
  size:=h.size
  slots:=λs t G=>by
   have Z:=IH G;simp only[St.pubd,NH,zj]at Z;obtain⟨p,I,rfl⟩:=Z;have Y:st.get s=some p:=by
    unfold St.get;have r:p≠.nil:=λe=>get_ne G (by subst e;rfl);simp_all
   rw[(u p (wf_get hw Y)).1];exact h.slots s p Y
  frm:=
   {size:=h.frm.size
    le:=λb o f=>by
     by_cases e:b=β i;·grind[Mem.set_same]
     ·rw[Mem.set_ne e]at f;exact h.frm.le b o f
    old:=h.frm.old
    dom:=λb f=>by
     by_cases e:b=β i;·omega
     ·rw[Mem.set_ne e]at f;exact h.frm.dom b f
    os:=h.frm.os
    out:=h.frm.out}
  boxes:=λj M F q=>by
   obtain⟨r,y,n,e⟩:=z j _ q;obtain⟨d,v,J,c⟩:=h.boxes j y.1 y.2 n;cases e;have X:β j≠β i:=λe=>r (h.inj j i (by simp[n]) (by simp[hi]) e);rw[(u y.1 (HS hw n).2).2];exact⟨d,by rw[Mem.set_ne X];exact v,J,c⟩
  hid:=λb o f=>by
   obtain⟨d,v,J,c⟩:=h.hid b o f;exact⟨d,by rw[Mem.set_ne (Ne.symm (c i (by simp[hi])))];exact v,J,λj q=>c j (g j q)⟩
  inj:=λj k q B=>h.inj j k (g j q) (g k B)}
end
section
variable{P:Program}{R:Ending->Mem->Prop}{O V0:Mem}{w0:World}{N:Nat}{L:List (List Value->Mem->Prop)}{ρ0:List Value}
structure CX (ρ0:List Value)(L:List (List Value->Mem->Prop))(ρ:List Value)(st:St):Prop where
 pre:ρ0<+:ρ
 depth:L.length=st.depth
theorem CX.putO{ρ0:List Value}{L:List (List Value->Mem->Prop)}{ρ:List Value}{st:St}(h:CX ρ0 L ρ st)(d:Option Nat)(t:T):CX ρ0 L ρ (st.putO d t):=by
 cases d<;>exact⟨h.1,h.2⟩
theorem CX.more{ρ0:List Value}{L:List (List Value->Mem->Prop)}{ρ:List Value}{st:St}(h:CX ρ0 L ρ st)(n:Nat)(vs:List Value):CX ρ0 L (ρ++vs) (st.more n):=⟨h.1.trans (yB _ _),h.2⟩
theorem CX.pubd{ρ0:List Value}{L:List (List Value->Mem->Prop)}{ρ:List Value}{st:St}(h:CX ρ0 L ρ st)(i:Nat)(vs:List Value):CX ρ0 L (ρ++vs) (st.pubd i):=⟨h.1.trans (yB _ _),h.2⟩
theorem CX.compact{ρ0:List Value}{L:List (List Value->Mem->Prop)}{ρ:List Value}{st:St}(h:CX ρ0 L ρ st)(keep:List Nat):CX ρ0 L ρ (st.compact keep):=⟨h.1,h.2⟩
theorem CX.now{ρ0:List Value}{L:List (List Value->Mem->Prop)}{ρ:List Value}{st:St}(h:CX ρ0 L ρ st)(d:Nat)(t:T):CX ρ0 L ρ (st.now d t):=⟨h.1,h.2⟩
theorem CX.setBox{ρ0:List Value}{L:List (List Value->Mem->Prop)}{ρ:List Value}{st:St}(h:CX ρ0 L ρ st)(i:Nat)(t:T)(ty:Nat):CX ρ0 L ρ (st.setBox i t ty):=⟨h.1,h.2⟩
def Bl(P:Program)(R:Ending->Mem->Prop)(O V0:Mem)(w0:World)(N:Nat)(L:List (List Value->Mem->Prop))(ρ0:List Value)(tmps:Array Value)(w:World)(st:St)(t:Tr):Prop:=
 ∃β ρ V,CX ρ0 L ρ st/\Rel O V0 w0 N β st ρ V tmps w/\D P R t L ρ V
theorem LX{ns:List T}{k:Tr}{ρ:List Value}{V:Mem}(h:D P R (needs ns k) L ρ V)(β:Nat->Nat):(∀x∈ns,asB (x.ev ρ β)=true)/\D P R k L ρ V:=by
 induction ns with
 |nil=>exact⟨λx g=>by(cases g),h⟩
 |cons n ns f=>
  simp only[needs]at h;split at h
  ·rename_i t;obtain⟨h1,h2⟩:=h;obtain⟨h3,h4⟩:=f h2;refine⟨λx g=>?_,h4⟩;rcases yC.1 g with rfl|g;·grind[T.ev_free,id]
   ·exact h3 x g
  ·exact h.elim
theorem Jx:∀(n:Nat)(st:St)(i:Nat)(k:St->Tr){tmps:Array Value}{w:World},Bl P R O V0 w0 N L ρ0 tmps w st (Iu n st i k)->∃g,Bl P R O V0 w0 N L ρ0 tmps w g (k g)
 |0,st,i,k,tmps,w,⟨β,ρ,V,t,f,h⟩=>h.elim
 |n+1,st,i,k,tmps,w,⟨β,ρ,V,t,f,h⟩=>by
  simp only[Iu]at h;split at h;·exact h.elim
  ·rename_i cs ty u;split at h
   ·rename_i j _;obtain⟨g,z⟩:=Jx n st j _ ⟨β,ρ,V,t,f,h⟩;exact Jx n g i k z
   ·rename_i y;split at h
    ·rename_i hw;have:=h (β i) (f.boxes i cs ty u).2.1;rw[(T.ev_free (β:=id) (β':=β) (ρ:=ρ) cs y).2]at this;exact⟨_,β,_,_,t.pubd _ _,f.pubd hw u,this⟩
    ·exact h.elim
theorem EP:∀(n:Nat)(st:St)(get:St->Option T)(k:St->T->Tr){tmps:Array Value}{w:World},Bl P R O V0 w0 N L ρ0 tmps w st (pubT n st get k)->
  ∃h t,get h=some t/\t.firstBox=none/\Bl P R O V0 w0 N L ρ0 tmps w h (k h t)
 |0,st,get,k,tmps,w,⟨β,ρ,V,f,u,g⟩=>g.elim
 |n+1,st,get,k,tmps,w,⟨β,ρ,V,f,u,g⟩=>by
  simp only[pubT]at g;split at g;·exact g.elim
  ·rename_i t z;split at g
   ·rename_i y;exact⟨st,t,z,y,β,ρ,V,f,u,g⟩
   ·rename_i i _;obtain⟨h,x⟩:=Jx _ st i _ ⟨β,ρ,V,f,u,g⟩;exact EP n h get k x
theorem rk_vals{β:Nat->Nat}:∀(f:List RK)(vs ρ t:List Value),Shaped (f.flatMap RK.kinds) vs->(Fw f ρ.length).map (·.ev (ρ++vs++t) β)=HJ f vs
 |[],[],_,_,_=>rfl
 |[],_::_,_,_,h=>h.elim
 |.one k::f,v::vs,ρ,t,h=>by
  have z:=rk_vals (β:=β) f vs (ρ++[v]) t h.2;simp only[zw,List.length_singleton,zH,zI,List.nil_append]at z;simp only[Fw,zG,zH,zI,T.ev,z,HJ,RK.val,RK.size,List.take_succ_cons,List.take_zero,List.headD_cons,List.drop_succ_cons,List.drop_zero,yD,and_true];have:(ρ++v::(vs++t)).getD ρ.length undef=v:=by simp[List.getD]
  rw[this];exact h.1
 |.one k::f,[],_,_,h=>h.elim
 |.agg g::f,vs,ρ,t,h=>by
  have y:=NB (ks:=g) (ls:=f.flatMap RK.kinds) (vs:=vs) h;have u:(vs.take g.length).length=g.length:=y.1.length;have z:=rk_vals (β:=β) f (vs.drop g.length) (ρ++vs.take g.length) t y.2;have e:ρ++vs.take g.length++vs.drop g.length=ρ++vs:=by simp
  rw[e,zw,u]at z;have hv:=IF (β:=β) g (vs.take g.length) ρ (vs.drop g.length++t) y.1;have x:ρ++vs.take g.length++(vs.drop g.length++t)=ρ++vs++t:=by grind
  grind[Fw,HJ,RK.val,RK.size,T.ev,Di]
theorem rk_val{β:Nat->Nat}(g:List RK)(vs ρ:List Value)(h:Shaped (g.flatMap RK.kinds) vs):(Is g ρ.length).ev (ρ++vs) β=E3 g vs:=by
 have:=rk_vals (β:=β) g vs ρ [] h;rw[List.append_nil]at this;unfold Is E3
 match g,this,h with
 |[],_,_=>rfl
 |[r],this,h=>
  cases r with
  |one k=>
   simp only[Fw,zG,List.map_nil,HJ,RK.val,RK.size,yD,and_true]at this;simp only[Fw];rw[this];cases vs<;>simp[RK.val]
  |agg u=>
   have y:vs.length=u.length:=by have:=h.length;simpa [RK.kinds]using this
   grind[Fw,HJ,RK.val,RK.size]
 |r::f::g,this,_=>
  have h2:∃t z ts,Fw (r::f::g) ρ.length=t::z::ts:=by cases r<;>cases f<;>exact⟨_,_,_,rfl⟩
  grind[T.ev,Di]
theorem II{V:Mem}{w:World}(f:V.le w){b:Addr}{n:Nat}{vs:List Value}(h:V.row b n=some vs):vs.length=n/\∀j v,vs[j]?=some v->w.cell? (b.add j)=some v:=by
 unfold Mem.row at h;split at h
 ·rename_i c e fr t;split at h
  ·rename_i u;simp only[zF]at h;subst h;refine⟨by simp;omega,λj v x=>?_⟩;have z:b.spot=none:=by simpa using u.1
   have g:(b.add j)=⟨b.block,b.off+j,none⟩:=by
    cases b with
    |mk i y l=>grind[Jt]
   rw[g];simp only[World.cell?,f _ _ t,Option.isSome_none,zN,if_false];grind
  ·simp at h
 ·simp at h
theorem NK{w:World}{ρ:List Value}{β:Nat->Nat}{t:TypeId}{cs x:T}{off:Nat}{b:Addr}(f:∀j v,(cs.evs ρ β)[j]?=some v->w.cell? (b.add j)=some v)(h:El P t cs off=some x):
  (loadVar t (b.add off)).run P w=.ok (x.ev ρ β) w:=by
 unfold El at h;split at h
 ·rename_i n h1 h2;simp only at h;split at h
  ·rename_i u;simp only[zF]at h;subst h;have e:(takeT cs off n).map (·.ev ρ β)=((cs.evs ρ β).drop off).take n:=LM cs off n;have g:(((cs.evs ρ β).drop off).take n).length=n:=by grind
   have:=run_loadCells_list (P:=P) w (b.add off) (((cs.evs ρ β).drop off).take n) (λj v z=>by
    grind[Ny])
   rw[g]at this;simp only[loadVar,zK,Hh h1,zL,if_true,FP h2,this,zM,T.ev,Di,e]
  ·simp at h
 ·rename_i n h1 h2;have e:(cs.evs ρ β)[off]?=some (x.ev ρ β):=by simp[DV,h]
  simp_all[loadVar,zK,Hh,zL,zN,if_false,run_load]
 ·simp at h
end
def EA(P:Program)(fs:List Nat):Prop:=∀f∈fs,∀args w,(callFunc f args).run P w=.ok (.enter f args) w
section
variable{P:Program}{R:Ending->Mem->Prop}{O V0:Mem}{w0:World}{N:Nat}{L:List (List Value->Mem->Prop)}{ρ0:List Value}{fs:List Nat}{H:CN}
theorem IJ{f:FuncId}{args:Array Value}{w:World}{R g:Ending->World->Prop}(h:Calls P f args w R)(t:∀e w',R e w'->g e w'):Calls P f args w g:=λcs=>
 let⟨e,w',fr,u,rest⟩:=h cs
 ⟨e,w',fr,t _ _ u,rest⟩
theorem Km{st:St}:∀{l:List Nat}{t:T},Fy st l=some t->∀s∈l,(l.zip t.toList).lookup s=st.get s
 |[],t,_,s,g=>by cases g
 |x::xs,t,h,s,g=>by
  simp only[Fy]at h;split at h
  ·rename_i f u h1 h2;simp only[zF]at h;subst h;simp only[T.toList,List.zip_cons_cons,zd];by_cases e:s=x;·subst e;simp[h1]
   ·have:(s==x)=false:=by simpa using e
    rw[this];exact Km h2 s (by rcases yC.1 g with h|h;exact absurd h e;exact h)
  ·simp at h
theorem Kn{st:St}:∀{l:List Nat}{t:T},Fy st l=some t->∀s∈l,∃x,st.get s=some x/\x∈t.toList
 |[],t,_,s,g=>by cases g
 |x::xs,t,h,s,g=>by
  simp only[Fy]at h;split at h
  ·rename_i u z h1 h2;simp only[zF]at h;subst h;rcases yC.1 g with rfl|g;·grind[T.toList]
   ·obtain⟨y,f,hm⟩:=Kn h2 s g;exact⟨y,f,by simp[T.toList,hm]⟩
  ·simp at h
theorem Ko:∀{t:T}{x:T},t.firstBox=none->x∈t.toList->x.firstBox=none
 |.cons h t,x,f,g=>by
  simp only[T.firstBox,zD]at f;simp only[T.toList,yC]at g;rcases g with rfl|g;·exact f.1
  ·exact Ko f.2 g
 |.var _ _,x,_,g=>by simp[T.toList]at g
 |.int _ _,x,_,g=>by simp[T.toList]at g
 |.bool _,x,_,g=>by simp[T.toList]at g
 |.str _,x,_,g=>by simp[T.toList]at g
 |.und,x,_,g=>by simp[T.toList]at g
 |.nilp,x,_,g=>by simp[T.toList]at g
 |.nilsl,x,_,g=>by simp[T.toList]at g
 |.nilm,x,_,g=>by simp[T.toList]at g
 |.nilf,x,_,g=>by simp[T.toList]at g
 |.nili,x,_,g=>by simp[T.toList]at g
 |.box _ _,x,_,g=>by simp[T.toList]at g
 |.glob _,x,_,g=>by simp[T.toList]at g
 |.fn _ _,x,_,g=>by simp[T.toList]at g
 |.u _ _,x,_,g=>by simp[T.toList]at g
 |.b2 _ _ _,x,_,g=>by simp[T.toList]at g
 |.c3 _ _ _ _,x,_,g=>by simp[T.toList]at g
 |.nil,x,_,g=>by simp[T.toList]at g
 |.agg _,x,_,g=>by simp[T.toList]at g
 |.tup _,x,_,g=>by simp[T.toList]at g
theorem lookup_ev{ρ:List Value}:∀{l:List (Nat×T)}{s:Nat},(l.map λx=>(x.1,x.2.ev ρ id)).lookup s=(l.lookup s).map (·.ev ρ id)
 |[],_=>rfl
 |(n,t)::l,s=>by
  simp only[zG,zd];split;·rfl
  ·exact lookup_ev
theorem gval_eval{st:St}{β:Nat->Nat}{ρ:List Value}{V:Mem}{a:Act}{w:World}(j:Rel O V0 w0 N β st ρ V a.tmps w){l:List Operand}{t:T}(h:Fy st (FM l)=some t)(i:t.firstBox=none):
  ∀x∈l,a.eval x=gval ((FM l).zip t.toList) ρ x:=by
 intro x n;cases x with
 |tmp s=>
  have u:s∈FM l:=List.mem_filterMap.2 ⟨_,n,rfl⟩;obtain⟨y,z,hm⟩:=Kn h s u;have h1:=Km h s u;simp only[gval,gv,lookup_ev,h1,z,zJ,Option.getD_some];rw[(T.ev_free (β:=id) (β':=β) (ρ:=ρ) y (Ko i hm)).1];exact j.slots s y z
 |const v=>rfl
 |global g=>rfl
 |func f=>rfl
theorem NL{st:St}{β:Nat->Nat}{ρ:List Value}{V:Mem}{a:Act}{w:World}(h:Rel O V0 w0 N β st ρ V a.tmps w){o:Oper}(z:FN o.op=false){t:T}(g:Fy st (FM o.op.operands.toList)=some t)(f:t.firstBox=none):
  execOp a.eval o=execOp (gval ((FM o.op.operands.toList).zip t.toList) ρ) { dst:=none,op:=o.op,type:=o.type,pos:= "",after:=#[],guard:=none}:=by
 have h1:=execOp_congr (ρ:=a.eval) (ρ':=gval ((FM o.op.operands.toList).zip t.toList) ρ) o (λcs b e=>by grind[FN])
  (λx u=>gval_eval h g f x (by simpa using u))
 rw[h1];rfl
variable{a:Act}{w:World}{st:St}{o:Oper}{k:St->Tr}{next:Act->World->Prop}{Q:Exit->Act->World->Prop}
def FQ(R:Ending->Mem->Prop)(V0:Mem)(w0:World)(ds:List Deferred)(Q:Exit->Act->World->Prop):Prop:=∀chain h w',h.defers=ds->(∃V',R (.panicked chain) V'/\Ax V0 w0 V' w')->Q (.panic chain) h w'
theorem exCall_sound(l:EA P fs)(hQ:FQ R V0 w0 a.defers Q){c:Call}{f:Operand}(W:o.op=.call c)(A:c.callee=.value f)(hd:Em N o.dst=true)
  (h:Bl P R O V0 w0 N L ρ0 a.tmps w st (exCall P fs st o c f k))
  (hk:∀n I w',(∃v,I=a.put o.dst v)->Bl P R O V0 w0 N L ρ0 I.tmps w' n (k n)->next I w'):o.wp P a w next Q:=by
 obtain⟨β,ρ,V,Y,q,p⟩:=h;unfold exCall at p;split at p;·exact p.elim
 ·rename_i J hrs;have after:∀(st:St)(β:Nat->Nat)(ρ:List Value)(V:Mem),CX ρ0 L ρ st->Rel O V0 w0 N β st ρ V a.tmps w->st.wf=true->∀(g:FuncId)(args:Array Value),
    Tri P g args V (λe V'=>(∃vs,e=.returned (E3 J vs)/\Shaped (J.flatMap RK.kinds) vs/\D P R (k ((st.more (HM J)).putO o.dst (Is J st.nv))) L (ρ++vs) V')∨∃M,e=.panicked M/\R e V')->
    Calls P g args w fun
     |.returned v,b=>next (a.put o.dst v) b
     |.panicked chain,b=>Q (.panic chain) a b
     |.outgrown,_=>LetsOut Q:=by
   intro st β ρ V Y q hw g args ht;refine IJ (ht w q.frm.le) ?_;rintro e w' ⟨V',⟨vs,rfl,F,u⟩|⟨M,rfl,hR⟩,S⟩;rotate_left;·exact hQ M a w' rfl ⟨V',hR,(q.frame S).frm⟩
   refine hk _ _ _ ⟨_,rfl⟩ ⟨β,ρ++vs,V',(Y.more _ _).putO _ _,?_,u⟩;have hl:vs.length=HM J:=F.length;have h1:=(q.frame S).bind hw vs;rw[hl]at h1;exact h1.putO hd _ (by rw[<-q.nv];grind[rk_val])
  split at p
  ·rename_i g0 X B;obtain⟨n,t,m,j,z,y,V',C,i,u⟩:=EP _ _ _ _ ⟨β,ρ,V,Y,q,p⟩;split at m
   ·rename_i g x ts d s;simp only[zF]at m;subst m;simp only at u;split at u
    ·rename_i r;unfold bind at u;split at u
     ·rename_i hw;simp only[D]at u;have U:a.eval f=.func (.func g) #[] (x.evs y z).toArray:=BE i d;have e2:c.args.map a.eval=(ts.map (·.ev y z)).toArray:=by apply zh;rw[zg,Ju i s]
      have E:=(T.ev_free (β:=id) (β':=z) (ρ:=y) (T.ofList (ts++x.toList)) (by grind[T.firstBox])).2;have K:(T.evs y id (T.ofList (ts++x.toList))).toArray=(ts.map (·.ev y z)).toArray++(x.evs y z).toArray:=by
       grind[Di,DV]
      have G:(execOp a.eval o).run P w=.ok (.enter g ((ts.map (·.ev y z)).toArray++(x.evs y z).toArray)) w:=by
       unfold execOp;simp only[W,resolve,A,U,e2,yE,zK,zM,zL,invoke];rw[l g (List.contains_iff_mem.1 r)];simp
      grind[yF,Oper.upon]
     ·exact u.elim
    ·exact u.elim
   ·simp at m
  ·rename_i t0 B _;obtain⟨n,t,m,j,z,y,V',C,i,u⟩:=EP _ _ _ _ ⟨β,ρ,V,Y,q,p⟩;split at m
   ·rename_i t1 ts d s;simp only[zF]at m;subst m;simp only at u;unfold bind at u;split at u
    ·rename_i hw;simp only[D]at u;obtain⟨g,first,x,Z,r,u⟩:=u;simp only[T.firstBox,zD]at j;rw[(T.ev_free (β:=id) (β':=z) (ρ:=y) t1 j.1).1]at Z;have U:a.eval f=.func (.func g) first x:=(BE i d).trans Z
     have e2:c.args.map a.eval=(ts.map (·.ev y z)).toArray:=by apply zh;rw[zg,Ju i s]
     have E:=(T.ev_free (β:=id) (β':=z) (ρ:=y) (T.ofList ts) j.2).2;have G:(execOp a.eval o).run P w=.ok (.enter g (first++(ts.map (·.ev y z)).toArray++x)) w:=by
      grind[execOp,resolve,yE,invoke]
     grind[yF,Oper.upon,Di]
    ·exact u.elim
   ·simp at m
  ·exact p.elim
end
section
variable{P:Program}{R:Ending->Mem->Prop}{O V0:Mem}{w0:World}{N:Nat}{L:List (List Value->Mem->Prop)}{ρ0:List Value}{fs:List Nat}{H:CN}
variable{a:Act}{w:World}{st:St}{o:Oper}{k:St->Tr}{next:Act->World->Prop}{Q:Exit->Act->World->Prop}
theorem Kp{v:Value}{w':World}(h:(execOp a.eval o).run P w=.ok (.value v) w')(g:next (a.put o.dst v) w'):o.wp P a w next Q:=by
 unfold yF;rw[h];exact g
theorem LY{w':World}(h:(execOp a.eval o).run P w=.ok .skip w')(g:next (a.put o.dst undef) w'):o.wp P a w next Q:=by
 unfold yF;rw[h];exact g
theorem Ff(a:Act)(d:Option Nat)(v:Value):(a.put d v).defers=a.defers:=by cases d<;>rfl
theorem NM(c:Em N o.dst=true)
  (h:Bl P R O V0 w0 N L ρ0 a.tmps w st (exGen P st o k))
  (b:∀y q w',(∃v,q=a.put o.dst v)->Bl P R O V0 w0 N L ρ0 q.tmps w' y (k y)->next q w'):o.wp P a w next Q:=by
 obtain⟨β,ρ,V,e,d,j⟩:=h;unfold exGen at j;simp only at j;split at j;·exact j.elim
 ·rename_i r;have z:FN o.op=false:=by simpa using r
  split at j
  ·obtain⟨y,t,p,u,i,l,V',n,g,f⟩:=EP _ _ _ _ ⟨β,ρ,V,e,d,j⟩;simp only[D]at f;obtain⟨w',m,h1,h2,h3⟩:=f w g.frm.le;rw[<-NL g z p u]at h1;refine LY h1 (b _ _ _ ⟨_,rfl⟩ ⟨i,l,m,n.putO _ _,?_,h3⟩);exact(g.frame h2).putO c .und rfl
  ·split at j;·exact j.elim
   ·rename_i J G;obtain⟨y,t,p,u,i,l,V',n,g,f⟩:=EP _ _ _ _ ⟨β,ρ,V,e,d,j⟩;unfold bind at f;split at f
    ·rename_i hw;simp only[D]at f;obtain⟨x,w',m,vs,h1,h2,rfl,h3,h4⟩:=f w g.frm.le;rw[<-NL g z p u]at h1;refine Kp h1 (b _ _ _ ⟨_,rfl⟩ ⟨i,l++vs,m,(n.more _ _).putO _ _,?_,h4⟩);have Z:vs.length=HM J:=h3.length;have s:=(g.frame h2).bind hw vs;rw[Z]at s;exact s.putO c _ (by rw[<-g.nv];grind[rk_val])
    ·exact f.elim
theorem Kq{p b i:T}{sz off:Nat}{e:Option Nat}{ρ:List Value}{β:Nat->Nat}(h:HN p=(b,i,sz,off,e))(g:p.kind=some .p):
  match e with
  |some _=>A8 (p.ev ρ β)=Aa (Aa (A8 (b.ev ρ β)) ((At (i.ev ρ β)).toNat*sz)) off
  |none=>A8 (p.ev ρ β)=Aa (A8 (b.ev ρ β)) ((At (i.ev ρ β)).toNat*sz):=by
 unfold HN at h;split at h;·grind[T.ev,U.ev,B.ev,A8]
 ·cases h;simp only[T.ev,B.ev,A8,Nz,Nat.add_zero]
 ·grind[T.ev,U.ev,A8,At]
 ·cases h;simp_all[T.ev,At,Int.toNat_zero,Nat.zero_mul,A8,Aa,yG]
theorem exLoad_sound{t:TypeId}{x:Operand}(U:o.op=.load t x)(hd:Em N o.dst=true)
  (h:Bl P R O V0 w0 N L ρ0 a.tmps w st (Iy P st o.dst t x k))
  (hk:∀l W w',(∃v,W=a.put o.dst v)->Bl P R O V0 w0 N L ρ0 W.tmps w' l (k l)->next W w'):o.wp P a w next Q:=by
 obtain⟨β,ρ,V,hp,hr,C⟩:=h;unfold Iy at C;obtain⟨l,p,hg,A,f,u,V',I,n,g⟩:=EP _ _ _ _ ⟨β,ρ,V,hp,hr,C⟩;have hx:a.eval x=p.ev u f:=BE n hg;have J:∀{b i sz y e},HN p=(b,i,sz,y,e)->b.firstBox=none/\i.firstBox=none:=by
  intro b i sz y e d;unfold HN at d;grind[T.firstBox]
 have go:∀(q:Addr)(r:List K)(vs:List Value)(y:Nat)(z:T),A8 (p.ev u f)=some (q.add y)->p.kind=some .p->Shaped r vs->l.wf=true->
   (∀j v,vs[j]?=some v->w.cell? (q.add j)=some v)->El P t (T.ofList (vars r l.nv)) y=some z->D P R (k ((l.more r.length).putO o.dst z)) L (u++vs) V'->o.wp P a w next Q:=by
  intro q r vs y z c m G hw hc Y M;have hl:vs.length=r.length:=G.length;have Z:=n.bind hw vs;rw[hl]at Z;have hev:(T.ofList (vars r l.nv)).evs (u++vs) f=vs:=by
   rw[Di,<-n.nv];have:=IF (β:=f) r vs u [] G;simp_all
  have E:=NK (P:=P) (w:=w) (ρ:=u++vs) (β:=f) (b:=q) (by grind) Y;obtain⟨p',F⟩:=HR (ρ:=u) (β:=f) m;rw[F]at c;simp only[A8]at c;subst c;refine Kp (v:=z.ev (u++vs) f) ?_ (hk _ _ _ ⟨_,rfl⟩ ⟨f,u++vs,V',(I.more _ _).putO _ _,Z.putO hd z rfl,M⟩);grind[execOp,Instr.loadAt,zi,zK,zM,zL]
 split at g;case isFalse=>exact g.elim
 rename_i m;split at g
 ·rename_i b i sz y e d;obtain⟨X,hi⟩:=J d;split at g
  ·rename_i r B;split at g
   ·rename_i S;unfold bind at g;split at g
    ·rename_i hw;split at g
     ·rename_i z Y;simp only[D]at g;obtain⟨vs,h1,h2,h3⟩:=g;have s:=Kq (ρ:=u) (β:=f) d m;simp only at s;rw[(T.ev_free (β:=id) (β':=f) (ρ:=u) b X).1,(T.ev_free (β:=id) (β':=f) (ρ:=u) i hi).1]at h1;cases c:A8 (b.ev u f)with
      |none=>simp[c,Mem.rowp]at h1
      |some q=>
       simp only[c,Mem.rowp]at h1;obtain⟨_,h4⟩:=II n.frm.le h1;grind[Aa]
     ·exact g.elim
    ·exact g.elim
   ·exact g.elim
  ·exact g.elim
 ·rename_i b i sz y d;obtain⟨X,hi⟩:=J d;split at g
  ·rename_i r B;unfold bind at g;split at g
   ·rename_i hw;split at g
    ·rename_i z Y;simp only[D]at g;obtain⟨vs,h1,h2,h3⟩:=g;have s:=Kq (ρ:=u) (β:=f) d m;simp only at s;rw[(T.ev_free (β:=id) (β':=f) (ρ:=u) b X).1,(T.ev_free (β:=id) (β':=f) (ρ:=u) i hi).1]at h1;cases c:A8 (b.ev u f)with
     |none=>simp[c,Mem.rowp]at h1
     |some q=>
      simp only[c,Mem.rowp]at h1;obtain⟨_,h4⟩:=II n.frm.le h1;rw[c]at s;simp only[Aa,zJ]at s;exact go _ r vs 0 z (by rw[s,yG]) m h2 hw h4 Y h3
    ·exact g.elim
   ·exact g.elim
  ·exact g.elim
end
section
variable{P:Program}{R:Ending->Mem->Prop}{O V0:Mem}{w0:World}{N:Nat}{L:List (List Value->Mem->Prop)}{ρ0:List Value}{fs:List Nat}{H:CN}
variable{a:Act}{w:World}{st:St}{o:Oper}{k:St->Tr}{next:Act->World->Prop}{Q:Exit->Act->World->Prop}
theorem NN{t:TypeId}{n g off:Nat}{v:Value}{vs:List Value}{h:Array Value}{ty:TypeId}(z:Dv P t=some n)(hv:v.cells.toList=vs)(y:vs.length=n)
  (f:w.heap[g]?=some (.cells h ty (0,0))) (j:off+n<=h.size) (h1:∀x∈vs,Hd x=true):
  (storeVar t ⟨g,off,none⟩ v).run P w=.ok () (w.setRow g (h.toList.take off++vs++h.toList.drop (off+n)).toArray):=by
 have u:v.cells.size=n:=by grind
 have:=run_storeCells_at (P:=P) g off ty vs 0 h w f (by omega) (λx i=>by grind[oneCell_eq]);simp_all[storeVar,zK,FP,zL,ne_eq,not_true_eq_false,if_false]
theorem kinds_one{t:T}{ρ:List Value}{β:Nat->Nat}(h:(DL t).isSome=true):∀x∈t.evs ρ β,Hd x=true:=by
 obtain⟨g,f⟩:=yA.1 h;exact(NA (ρ:=ρ) (β:=β) t g f).one
theorem O8{t:TypeId}{x y:Operand}(hop:o.op=.store t x y)(Z:o.dst=none)
  (h:Bl P R O V0 w0 N L ρ0 a.tmps w st (exStore st t (Dv P t) x y k))
  (hk:∀G F w',(∃v,F=a.put o.dst v)->Bl P R O V0 w0 N L ρ0 F.tmps w' G (k G)->next F w'):o.wp P a w next Q:=by
 obtain⟨β,ρ,V,hp,Y,s⟩:=h;have J:∀v,(a.put o.dst v)=a:=by rw[Z];intro v;rfl
 unfold exStore at s;split at s
 ·rename_i i u v n X B C;split at s
  ·rename_i cs ty A;split at s
   ·rename_i E;obtain⟨h1,h2,h3,h4⟩:=E;have K:=(Y.boxes i cs ty A).1;have e1:a.eval x=.pointer (some ⟨β i,u,none⟩):=BE Y X;have e2:a.eval y=v.ev ρ β:=BE Y B;have f:=Kk (ρ:=ρ) (β:=β) h3;have l:(v.cellsT.evs ρ β).length=n:=by grind[DV]
    have m:=NN (P:=P) C f l K (by rw[zu,DV];simpa using h2) (kinds_one h3);have e3:((cs.evs ρ β).toArray.toList.take u++v.cellsT.evs ρ β++(cs.evs ρ β).toArray.toList.drop (u+n))=(T.ofList (cs.toList.take u++v.cellsT.toList++cs.toList.drop (u+n))).evs ρ β:=by
     rw[Di];simp[DV,List.map_take,List.map_drop]
    rw[e3]at m;refine LY (w':=w.setRow (β i) ((T.ofList (cs.toList.take u++v.cellsT.toList++cs.toList.drop (u+n))).evs ρ β).toArray) ?_ (hk _ _ _ ⟨_,rfl⟩ ⟨β,ρ,V,hp.setBox _ _ _,?_,s⟩);·grind[execOp,yH,zi,zK,zM,zL]
    ·rw[J];exact Y.setBox A
   ·exact s.elim
  ·exact s.elim
 ·rename_i n _ _ _ C;obtain⟨G,q,I,j,g,z,V',S,r,d⟩:=EP _ _ _ _ ⟨β,ρ,V,hp,Y,s⟩;split at I
  ·rename_i p v X B;simp only[zF]at I;subst I;simp only at d;split at d
   ·rename_i E;obtain⟨h1,h2,h3,h4⟩:=E;simp only[T.firstBox,zD]at j;simp only[D]at d;obtain⟨b,c,ty,M,g2,g3,U,g5⟩:=d;rw[(T.ev_free (β:=id) (β':=g) (ρ:=z) p j.1).1]at M;rw[(T.ev_free (β:=id) (β':=g) (ρ:=z) _ j.2).2]at U g5;obtain⟨p',W⟩:=HR (ρ:=z) (β:=g) h1;rw[W]at M;simp only[A8]at M;subst M;have e1:a.eval x=.pointer (some b):=(BE r X).trans W;have e2:a.eval y=v.ev z g:=BE r B;have f:=Kk (ρ:=z) (β:=g) h3;have l:(v.cellsT.evs z g).length=n:=by grind[DV]
    have A:b=⟨b.block,b.off,none⟩:=by cases b;simp_all
    have K:=r.frm.le _ _ g2;simp only[Nat.add_zero,l]at U g5;have m:=NN (P:=P) (off:=b.off) C f l K U (kinds_one h3);rw[<-A]at m;refine LY (w':=w.setRow b.block (c.toList.take b.off++v.cellsT.evs z g++c.toList.drop (b.off+n)).toArray) ?_ (hk _ _ _ ⟨_,rfl⟩ ⟨g,z,_,S,?_,g5⟩);·grind[execOp,yH,zi,zK,zM,zL]
    ·rw[J];refine r.frame ⟨by rw[NG];omega,λi obj hi=>?_,λi hi hV=>?_,λi hi=>?_,rfl,rfl⟩
     ·by_cases e:i=b.block;·grind[Mem.set_same,setRow_heap]
      ·rw[Mem.set_ne e]at hi;rw[setRow_other w _ _ e];exact r.frm.le i obj hi
     ·grind[setRow_other]
     grind[Mem.set_ne]
   ·exact d.elim
  ·simp at I
 ·exact s.elim
theorem LZ{cs:T}{ty:Nat}{v:Nat->T}{x:Nat->Value}(m:Em N o.dst=true)
  {β:Nat->Nat} {ρ:List Value} {V:Mem} (l:CX ρ0 L ρ st) (r:Rel O V0 w0 N β st ρ V a.tmps w) (g:D P R (Iw H st o.dst cs ty v k) L ρ V)
  (z:(execOp a.eval o).run P w=.ok (.value (x w.heap.size)) (w.alloc (.cells (cs.evs ρ β).toArray ty (0,0))))
  (hv:∀y:Nat->Nat,(v st.nb).ev ρ y=x (y st.nb))
  (n:∀f j w',(∃v,j=a.put o.dst v)->Bl P R O V0 w0 N L ρ0 j.tmps w' f (k f)->next j w'):o.wp P a w next Q:=by
 unfold Iw at g;split at g
 ·rename_i hw;simp only[zC]at hw;have i:=r.alloc hw.1 hw.2 ty;have q:x w.heap.size=(v st.nb).ev ρ (upd β st.nb w.heap.size):=by rw[hv];simp[upd]
  have t:CX ρ0 L ρ (({st with boxes:=(st.nb,cs,ty)::st.boxes,nb:=st.nb+1}:St).putO o.dst (v st.nb)):=
   CX.putO (st:={st with boxes:=(st.nb,cs,ty)::st.boxes,nb:=st.nb+1}) ⟨l.1,l.2⟩ _ _
  have u:=i.putO m (v st.nb) q;refine Kp z ?_;simp only at g;split at g
  ·rename_i d h;split at g
   ·obtain⟨f,p⟩:=Jx _ _ _ _ ⟨_,_,_,t,u,by simpa [h]using g⟩;grind
   ·exact n _ _ _ ⟨_,rfl⟩ ⟨_,_,_,t,u,by omega⟩
  ·rename_i h;exact n _ _ _ ⟨_,rfl⟩ ⟨_,_,_,t,u,by omega⟩
 ·exact g.elim
theorem Kr{t:TypeId}{cs:List T}{ρ:List Value}{β:Nat->Nat}(h:GC P t=some cs):∃z,GB P t=some z/\z.cells.toList=cs.map (·.ev ρ β):=by
 unfold GC at h;cases g:GB P t with
 |none=>simp[g]at h
 |some z=>simp only[g,zt]at h;exact⟨z,rfl,(Kh h).symm⟩
theorem mod_cells(g:List Value)(m:Nat)(h:g.length=m+1):∀n,(Array.range (n*(m+1))).map (λi=>(g.toArray[i % g.toArray.size]!))=(yI n g).flatten.toArray:=by
 intro n;apply zh;simp only[zg,Array.toList_range,zu,h];apply zx;intro i;rw[List.getElem?_map];induction n generalizing i with
 |zero=>simp
 |succ n f=>
  by_cases hi:i<n*(m+1)
  ·have h1:=f i;have e:(yI (n+1) g).flatten=(yI n g).flatten++g:=by
    rw[show n+1=n+1 from rfl,yJ,yK];simp
   grind
  ·have e:(yI (n+1) g).flatten=(yI n g).flatten++g:=by
    rw[show n+1=n+1 from rfl,yJ,yK];simp
   have t:((yI n g).flatten).length=n*(m+1):=by simp[h]
   rw[e,List.getElem?_append_right (by omega),t];by_cases h2:i<(n+1)*(m+1)
   ·have h3:i-n*(m+1)<m+1:=by grind
    have h4:i % (m+1)=i-n*(m+1):=by
     have:i=(i-n*(m+1))+n*(m+1):=by omega
     rw[this,Nat.add_mul_mod_self_right,Nat.mod_eq_of_lt h3];omega
    simp_all
   grind
end
section
variable{P:Program}{R:Ending->Mem->Prop}{O V0:Mem}{w0:World}{N:Nat}{L:List (List Value->Mem->Prop)}{ρ0:List Value}{fs:List Nat}{H:CN}
theorem O9{a:Act}{w:World}{st:St}{o:Oper}{x:Operand}{next:Act->World->Prop}{Q:Exit->Act->World->Prop}(i:FQ R V0 w0 a.defers Q)(u:o.op=.panic x)
  (h:Bl P R O V0 w0 N L ρ0 a.tmps w st (exPanic st x)):o.wp P a w next Q:=by
 obtain⟨l,t,n,g,β,ρ,V,q,z,y⟩:=EP _ _ _ _ h;simp only[D]at y;obtain⟨ty,v,j,m⟩:=y;rw[(T.ev_free (β:=id) (β':=β) (ρ:=ρ) t g).1]at j;have r:a.eval x=.iface ty v:=(BE z n).trans j;have f:(execOp a.eval o).run P w=.halt (.panic (.iface ty v)) w:=by
  unfold execOp;simp only[u,r];rfl
 unfold yF;rw[f];exact i _ a w rfl ⟨V,m,z.frm⟩
theorem NO(r:EA P fs){a:Act}{w:World}{st:St}{o:Oper}{k:St->Tr}{next:Act->World->Prop}{Q:Exit->Act->World->Prop}(C:FQ R V0 w0 a.defers Q)
  (h:Bl P R O V0 w0 H.N L ρ0 a.tmps w st (exOp P fs H st o k))
  (q:∀s W w',(∃v,W=a.put o.dst v)->Bl P R O V0 w0 H.N L ρ0 W.tmps w' s (k s)->next W w'):o.wp P a w next Q:=by
 obtain⟨β,ρ,V,m,l,g⟩:=h;unfold exOp at g;split at g;case isFalse=>exact g.elim
 rename_i d;split at g
 ·rename_i ns t A;obtain⟨h1,h2⟩:=LX g β;exact Kp (LQ l A h1) (q _ _ _ ⟨_,rfl⟩ ⟨β,ρ,V,m.putO _ _,l.putO d t rfl,h2⟩)
 ·split at g
  ·rename_i e x u;split at g
   ·rename_i v K;split at g
    ·rename_i I;have p:=Kk (ρ:=ρ) (β:=β) I;refine LZ (x:=λb=>.pointer (some ⟨b,0,none⟩)) d m l g ?_ (λ_=>rfl) q;unfold execOp;simp only[u,Instr.box,newVar,newRow,zK,run_newObj,zM,zL,BE l K,<-p,yL];rfl
    ·exact g.elim
   ·exact g.elim
  ·rename_i e u;split at g
   ·rename_i cs M;obtain⟨z,h1,h2⟩:=Kr (ρ:=ρ) (β:=β) M;refine LZ (x:=λb=>.pointer (some ⟨b,0,none⟩)) d m l g ?_ (λ_=>rfl) q;unfold execOp;simp only[u,Instr.alloc,LL h1,newVar,newRow,zK,run_newObj,zM,zL,Di,<-h2,yL];rfl
   ·exact g.elim
  ·rename_i t n parts u;split at g
   ·rename_i e hu;split at g
    ·rename_i sz z ps D M F;split at g
     ·rename_i cs S;split at g
      ·rename_i T;obtain⟨U,h1,h2⟩:=Kr (ρ:=ρ) (β:=β) M;have h3:=LO (ρ:=ρ) (β:=β) S;refine LZ (x:=λb=>.slice (some ⟨b,0,none⟩) n n) d m l g ?_ (λβ'=>by rfl) q;have J:(parts.map λ(i,x)=>(i,a.eval x)).toList=ps.map (λx=>(x.1,x.2.ev ρ β)):=by rw[<-LP l F,zg]
       unfold execOp;have j:¬n*(sz+1)>2^24:=by omega
       have X:U.cells=(z.map (·.ev ρ β)).toArray:=by grind
       have G:(yI n z).flatten.map (·.ev ρ β)=(yI n (z.map (·.ev ρ β))).flatten:=by simp_all
       rw[G]at h3;have Z:=mod_cells (z.map (·.ev ρ β)) sz (by simpa using T.2) n;by_cases E:n*(sz+1)=0
       ·obtain rfl:n=0:=by grind
        simp only[List.replicate_zero,List.flatten_nil]at h3;have e0:Array.range (0*(sz+1))=#[]:=by simp
        simp only[u,yM,run_underlying hu,FP D,zK,zL,J,if_neg j,if_pos E,zM,e0,Array.map_empty,h3];simp[Di,newRow]
       ·simp only[u,yM,run_underlying hu,FP D,zK,zL,J,if_neg j,if_neg E,LL h1,zM,X,Z,h3];simp[Di,newRow]
      ·exact g.elim
     ·exact g.elim
    ·exact g.elim
   ·exact g.elim
  ·rename_i t x u;exact exLoad_sound u d ⟨β,ρ,V,m,l,g⟩ q
  ·rename_i t x y u;split at g
   ·rename_i Y;exact O8 u Y ⟨β,ρ,V,m,l,g⟩ q
   ·exact g.elim
  ·rename_i c u;split at g
   ·rename_i f B;exact exCall_sound r C u B d ⟨β,ρ,V,m,l,g⟩ q
   ·exact NM d ⟨β,ρ,V,m,l,g⟩ q
   ·exact g.elim
  ·rename_i x u;exact O9 C u ⟨β,ρ,V,m,l,g⟩
  ·exact NM d ⟨β,ρ,V,m,l,g⟩ q
theorem Rel.getD_size{O V0:Mem}{w0:World}{N:Nat}{β:Nat->Nat}{st:St}{ρ:List Value}{V:Mem}{tmps:Array Value}{w:World}(h:Rel O V0 w0 N β st ρ V tmps w){d:Nat}{t:T}(g:st.get d=some t):
  tmps.getD d undef=t.ev ρ β:=h.slots d t g
theorem L4{all:Array Oper}{tmps:Array Value}{j d:Nat}(g:(all[j]?).bind (·.dst)=some d):yielded all tmps j=match tmps.getD d undef with|.bool b=>some b|_=>none:=by
 unfold yielded;rw[g];by_cases h:d<tmps.size
 ·simp only[zt,z6,h,dif_pos,getElem?_pos];show _=match tmps[d]with|.bool b=>some b|_=>none
  grind
 ·simp only[zt,z6,h,dif_neg,not_false_eq_true];rw[getElem?_neg tmps d h];rfl
theorem Jy(f:EA P fs){all:Array Oper}{k:St->Tr}{Q:Exit->Act->World->Prop}:∀(l:List Oper)(st:St)(a:Act)(w:World),
  FQ R V0 w0 a.defers Q->Bl P R O V0 w0 H.N L ρ0 a.tmps w st (GD P fs H all l st k)->
  (∀i q w',q.defers=a.defers->Bl P R O V0 w0 H.N L ρ0 q.tmps w' i (k i)->Q .normal q w')->wpList P all Q l a w
 |[],st,a,w,_,⟨β,ρ,V,z,y,t⟩,Y=>Y _ a w rfl ⟨β,ρ,V,z.compact _,y.compact _,t⟩
 |o::rest,st,a,w,I,h,Y=>by
  have n:∀st,yN o (yielded all a.tmps)=true->Bl P R O V0 w0 H.N L ρ0 a.tmps w st (exOp P fs H st o λst=>GD P fs H all rest st k)->wpList P all Q (o::rest) a w:=by
   intro st hw s;unfold wpList;rw[if_pos hw];refine .inl (NO f I s λi q w' M F=>?_);have J:q.defers=a.defers:=by obtain⟨v,rfl⟩:=M;exact Ff _ _ _
   exact Jy f rest i q w' (by rw[J];exact I) F λx m r h1 h2=>Y x m r (h1.trans J) h2
  have W:∀st,yN o (yielded all a.tmps)=false->Bl P R O V0 w0 H.N L ρ0 a.tmps w st (if Em H.N o.dst then GD P fs H all rest (st.putO o.dst .und) k else .bad 35 0)->wpList P all Q (o::rest) a w:=by
   intro st hw s;unfold wpList;rw[if_neg (by rw[hw];simp)];obtain⟨β,ρ,V,z,y,t⟩:=s;split at t
   ·rename_i E;refine Jy f rest _ _ w (by rw[Ff];exact I) ⟨β,ρ,V,z.putO _ _,y.putO E .und rfl,t⟩ λx m r h1 h2=>Y x m r (h1.trans (Ff _ _ _)) h2
   ·exact t.elim
  simp only[GD]at h;split at h;·grind[yN]
  ·rename_i j G s;split at h;·obtain⟨β,ρ,V,z,y,t⟩:=h;exact t.elim
   ·rename_i d K;have p:=L4 (tmps:=a.tmps) K;have X:yN o (yielded all a.tmps)=(yielded all a.tmps j==some G):=by simp[yN,s]
    obtain⟨β,ρ,V,z,y,t⟩:=h;split at t
    ·rename_i v hv;rw[y.getD_size hv]at p;simp only[T.ev]at p;split at t;·rename_i e;subst e;exact n st (by simp_all) ⟨β,ρ,V,z,y,t⟩
     ·rename_i e;exact W st (by simp_all) ⟨β,ρ,V,z,y,t⟩
    ·rename_i hv;rw[y.getD_size hv]at p;have:yielded all a.tmps j=none:=by rw[p];rfl
     exact W st (by grind) ⟨β,ρ,V,z,y,t⟩
    ·rename_i c _ _ hv;split at t
     ·rename_i S;obtain⟨B,C,U⟩:=S;obtain⟨b,A⟩:=GG (ρ:=ρ) (β:=β) B;rw[y.getD_size hv,A]at p;simp only at p;simp only[D]at t;have Z:=(T.ev_free (β:=id) (β':=β) (ρ:=ρ) c C).1;have g:Rel O V0 w0 H.N β (st.now d (.bool b)) ρ V a.tmps w:=y.now hv (by rw[A];rfl);cases b with
      |true=>
       have u:=t.1 (by rw[Z,A];rfl);split at u;·rename_i e;exact n _ (by simp_all) ⟨β,ρ,V,z.now _ _,g,u⟩
       ·rename_i e;exact W _ (by simp_all) ⟨β,ρ,V,z.now _ _,g,u⟩
      |false=>
       have u:=t.2 (by rw[Z,A];rfl);split at u;·rename_i e;exact W _ (by simp_all) ⟨β,ρ,V,z.now _ _,g,u⟩
       ·rename_i e;exact n _ (by simp_all) ⟨β,ρ,V,z.now _ _,g,u⟩
     ·exact t.elim
    ·exact t.elim
end
end Go.Sx
