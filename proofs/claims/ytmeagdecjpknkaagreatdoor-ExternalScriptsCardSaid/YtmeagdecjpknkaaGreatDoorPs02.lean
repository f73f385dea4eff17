/- Part 2: no statement of the seat is proved here. -/
import Derived.Test.YtmeagdecjpknkaaGreatDoorPs01
import Derived.MapKept
import Derived.Orders
set_option linter.unusedVariables false
set_option linter.unusedSimpArgs false
open List renaming length_cons->zy,ext_getElem?->zx,length_append->zw,map_cons->zG,size_toArray->zu,mem_singleton->zO,lookup_cons->zd,mem_cons_self->zc,mem_cons_of_mem->zb,all_eq_true->za,filter_cons->z7,prefix_append->yC,mem_cons->yD,append_assoc->zH,cons_append->zI,replicate->yJ,replicate_succ'->yK,flatten_append->yL
open Option.some renaming injEq->zF
open Bool renaming and_eq_true->zC,false_eq_true->zN
open Option renaming bind_some->zt,map_some->zJ,map_eq_some_iff->zj,map_none->zf,isSome_iff_exists->yB,or_eq_none_iff->zD
open Go.Instr renaming indexAt->zr,sliceAt->zq,slice->zo,sliceBounds->zn,sliceBound->zm,sureAddr->zi,storeAt->yI,buildSlice->yN
open Int renaming eq_ofNat_of_zero_le->zp,natCast_inj->zk
open Go.Value.int renaming injEq->zl
open Go.Sem renaming run_bind->zK,run_pure->zM
open Go.Result renaming andThen_ok->zL
open Go.Op renaming equalIn->zX
open Prod.mk renaming injEq->zS
open Array renaming ext'->zh,toList_map->zg,getD->z6,getElem?_eq_some_iff->yA,toArray_toList->yM
open Go.Builtin renaming len_->ze
open Go.Value renaming pointer->zY
open List.cons renaming injEq->yE
open Go.Deferred renaming ofValue->yF
open Go.Oper renaming wp->yG
open Go.Addr renaming add_zero'->yH
open Go.Region renaming wanted->yO
namespace Go.Sx
open Go
section
variable{P:Program}{O V0:Mem}{w0:World}{N:Nat}{β:Nat->Nat}{st:St}{ρ:List Value}{V:Mem}{a:Act}{w:World}
theorem qHe{t:T}(h:(qCw t.cellsT).isSome=true):(t.ev ρ β).cells.toList=t.cellsT.evs ρ β:=by
 have key:∀s:T,s.cellsT=.cons s .nil->(qCw s.cellsT).isSome=true->(s.ev ρ β).cells.toList=s.cellsT.evs ρ β:=by
  intro s u g;rw[u]at g⊢;simp only[qCw]at g;cases f:s.kind with
  |none=>simp[f]at g
  |some k=>
   have h1:=K.ok_one (T.kind_ok (ρ:=ρ) (β:=β) s k f);simp only[T.evs];generalize s.ev ρ β=v at h1⊢;cases v<;>first|rfl|simp[qFg]at h1
 cases t with
 |agg cs=>rfl
 |_=>exact key _ rfl h
theorem foldl_set:∀(vs:List Value)(k off:Nat)(cs:List Value),off+k+vs.length<=cs.length->
  (vs.zipIdx k).foldl (λcs (x:Value×Nat)=>cs.setIfInBounds (off+x.2) x.1) cs.toArray=(cs.take (off+k)++vs++cs.drop (off+k+vs.length)).toArray
 |[],k,off,cs,_=>by simp
 |v::vs,k,off,cs,h=>by
  simp only[zy]at h;have g:=foldl_set vs (k+1) off (cs.set (off+k) v) (by simp;omega);simp only[List.zipIdx_cons,List.foldl_cons,List.setIfInBounds_toArray];rw[g];congr 1;apply zx;intro j;simp only[List.getElem?_append,zw,List.length_take,List.length_set,List.getElem?_take,List.getElem?_drop,List.getElem?_set,zy];grind
theorem qLX{place:Nat->Option (Nat×Nat)}:∀{ps:List (Nat×T)}{cells cs:List T},fillT place cells ps=some cs->
  Instr.fill place (cells.map (·.ev ρ β)).toArray (ps.map λx=>(x.1,x.2.ev ρ β))=some (cs.map (·.ev ρ β)).toArray
 |[],cells,cs,h=>by simp only[fillT,zF]at h;subst h;rfl
 |(i,t)::ps,cells,cs,h=>by
  simp only[fillT]at h;split at h;·simp at h
  ·rename_i g size z;split at h
   ·rename_i y;obtain⟨h1,h2,h3⟩:=y;have l:=qLX h;have f:=qHe (ρ:=ρ) (β:=β) h3;have j:((t.ev ρ β).cells.toList).length=size:=by grind[qAP]
    have u:(t.ev ρ β).cells.size=size:=by simpa using j
    simp only[zG,Instr.fill,z,u,ne_eq,not_true_eq_false,zu,List.length_map,decide_false,Bool.false_or,gt_iff_lt,decide_eq_true_eq];rw[if_neg (by omega)];have n:(t.ev ρ β).cells.zipIdx.foldl (λcs (x:Value×Nat)=>cs.setIfInBounds (g+x.2) x.1) (cells.map (·.ev ρ β)).toArray=
      ((cells.take g++t.cellsT.toList++cells.drop (g+size)).map (·.ev ρ β)).toArray:=by
     rw[<-Array.foldl_toList,Array.toList_zipIdx,foldl_set _ 0 g _ (by simp_all)];grind[qAP,List.map_take,List.map_drop]
    simp_all
   ·simp at h
theorem qJj(h:Rel O V0 w0 N β st ρ V a.tmps w):∀{l:List (Nat×Operand)}{ps:List (Nat×T)},partsT st l=some ps->l.map (λx=>(x.1,a.eval x.2))=ps.map λx=>(x.1,x.2.ev ρ β)
 |[],ps,g=>by grind[partsT]
 |(i,o)::l,ps,g=>by
  simp only[partsT]at g;split at g
  ·rename_i t f h1 h2;simp only[zF]at g;subst g;simp only[zG,qAS h h1,qJj h h2]
  ·simp at g
theorem places_eq(fs:List Field)(h:fs.all (λf=>(qBp P f.type).isSome)=true):∃g:List (Nat×Nat),fs.mapM (λ(f:Field)=>(P.info? f.type).map λi=>(f.offset,i.size))=some g/\
  ∀i:Nat,g[i]?=(fs[i]?).bind λ(f:Field)=>(qBp P f.type).map λs=>(f.offset,s):=by
 induction fs with
 |nil=>simp_all
 |cons f fs u=>
  simp only[List.all_cons,zC]at h;obtain⟨pl,h1,h2⟩:=u h.2;cases z:P.info? f.type with
  |none=>simp[qBp,z]at h
  |some t=>
   refine⟨(f.offset,t.size)::pl,by simp_all,λi=>?_⟩;grind[qBp]
theorem run_buildT{t:TypeId}{fs:Array Field}{z cs:List T}{parts:Array (Nat×Operand)}{ps:List (Nat×T)}(y:Rel O V0 w0 N β st ρ V a.tmps w)(hu:P.underlying t=some (.struct fs))
  (g:qBY P t=some z) (j:partsT st parts.toList=some ps) (l:fs.toList.all (λf=>(qBp P f.type).isSome)=true) (n:fillT (qEH P fs) z ps=some cs):
  (Instr.build t (parts.map λ(i,x)=>(i,a.eval x))).run P w=.ok (.agg (cs.map (·.ev ρ β)).toArray) w:=by
 apply run_build;unfold Program.built;unfold qBY qGw at g;cases u:P.info? t with
 |none=>simp[u]at g
 |some m=>
  simp only[u,zt]at g;cases h:m.zero with
  |none=>simp[h]at g
  |some r=>
   simp only[h,zt]at g;obtain⟨pl,h1,h2⟩:=places_eq fs.toList l;simp only[hu,h,h1];have q:(λi=>pl.toArray[i]?)=qEH P fs:=by
    grind[qEH]
   have p:z.map (·.ev ρ β)=r.cells.toList:=qGH g;have c:=qJj y j;have:=qLX (ρ:=ρ) (β:=β) n;simp_all
theorem run_indexAtT{t e:TypeId}{s j:T}{k:IntKind}{sz:Nat}(hu:P.underlying t=some (.slice e))(x:s.kind=some .sl)(m:j.kind=some (.i k))(r:qBp P e=some sz)
  (h:∀z∈nn (qDE s)++[.b2 .le (.int .i64 0) j,.b2 .lt j (slLen s)],asB (z.ev ρ β)=true):
  (zr t (s.ev ρ β) (j.ev ρ β)).run P w=.ok ((paddT e sz (qDE s) j).ev ρ β) w:=by
 obtain⟨p,n,c,g⟩:=qHE (ρ:=ρ) (β:=β) x;obtain⟨i,f⟩:=qEP (ρ:=ρ) (β:=β) m;have h1:=h (.b2 .le (.int .i64 0) j) (by simp);have h2:=h (.b2 .lt j (slLen s)) (by simp);simp only[T.ev,B.ev,f,asI,asB,decide_eq_true_eq,qIA,g,qJZ]at h1 h2;have l:asP ((qDE s).ev ρ β)=p:=by rw[qKD s x,g,asP]
 have u:∃q,p=some q:=by
  have d:(qDE s).kind=some .p∨∃a b c,s=.c3 .slc a b c:=by
   unfold qDE;split;·simp_all
   ·exact .inl rfl
  have y:asP ((qDE s).ev ρ β)≠none:=by
   unfold nn at h;intro h0;split at h;·simp[*,T.ev,asP]at h0
   ·simp[*,T.ev,asP]at h0
   ·have h3:=h _ (List.mem_append_left _ (zO.2 rfl));simp[T.ev,U.ev,asB,h0]at h3
  rw[l]at y;cases p with
  |none=>simp_all
  |some q=>grind
 obtain⟨q,rfl⟩:=u;obtain⟨h3,v,h4⟩:=paddT_ev (ρ:=ρ) (β:=β) e sz (qDE s) j;rw[l,f]at h3;simp only[asI,qAa,zJ]at h3;rw[h4]at h3⊢;simp only[asP]at h3;subst h3;rw[g,f];simp[zr,run_underlying hu,asIntOf,h1,h2,qBq r]
theorem sbyte_at{s:KB}{i:Int}(h0:0<=i)(h1:i<s.size):∃b,s[i.toNat]?=some b/\qBj s i=b.toNat:=by
 have h:i.toNat<s.size:=by omega
 have h2:s.data[i.toNat]?=some (s.data[i.toNat]'(by simpa using h)):=Array.getElem?_eq_getElem _;refine⟨s.data[i.toNat]'(by simpa using h),?_,by simp[qBj,h2]⟩;rw[getElem?_pos s i.toNat h];rfl
theorem run_indexT{t:TypeId}{s j:T}{k:IntKind}(hu:P.underlying t=some .string)(g:s.kind=some .s)(f:j.kind=some (.i k))(h:asB ((T.b2 .sidxok s j).ev ρ β)=true):
  (Instr.index t (s.ev ρ β) (j.ev ρ β)).run P w=.ok ((T.b2 .sidx s j).ev ρ β) w:=by
 obtain⟨b,u⟩:=qIh (ρ:=ρ) (β:=β) g;obtain⟨i,z⟩:=qEP (ρ:=ρ) (β:=β) f;simp only[T.ev,B.ev,u,z,asB,asS,asI,decide_eq_true_eq]at h;obtain⟨c,h1,h2⟩:=sbyte_at h.1 h.2;simp_all[Instr.index,run_underlying,asIntOf,T.ev,B.ev,asS,asI]
theorem run_sliceS{t:TypeId}{s l h:T}{j k:IntKind}{lo hi:Option Operand}(hu:P.underlying t=some .string)(p:s.kind=some .s)(c:l.kind=some (.i j))(e:h.kind=some (.i k))
  (el:lo.map a.eval=some (l.ev ρ β)∨lo=none/\l=.int .i64 0) (z:hi.map a.eval=some (h.ev ρ β)∨hi=none/\h=.u .slen s) (m:asB ((T.c3 .bnd l h (.u .slen s)).ev ρ β)=true):
  (zq t (s.ev ρ β) (lo.map a.eval) (hi.map a.eval) none).run P w=.ok ((T.c3 .ssub s l h).ev ρ β) w:=by
 obtain⟨b,g⟩:=qIh (ρ:=ρ) (β:=β) p;obtain⟨x,n⟩:=qEP (ρ:=ρ) (β:=β) c;obtain⟨y,f⟩:=qEP (ρ:=ρ) (β:=β) e;simp only[T.ev,C.ev,U.ev,g,n,f,asB,asS,asI,decide_eq_true_eq]at m;obtain⟨h1,h2,h3⟩:=m;obtain⟨x,rfl⟩:=zp h1;obtain⟨y,rfl⟩:=zp (show 0<=y by omega);have r:x<=y:=by omega
 have q:y<=b.size:=by omega
 rcases el with el|⟨rfl,rfl⟩<;>rcases z with z|⟨rfl,rfl⟩
 ·simp[zq,run_underlying hu,zo,zn,zm,asIntOf,el,z,g,n,f,r,q,T.ev,C.ev,asS,asI]
 ·simp only[T.ev,U.ev,g,asS,zl,zk]at f;obtain⟨-,rfl⟩:=f;simp[zq,run_underlying hu,zo,zn,zm,asIntOf,el,g,n,r,T.ev,C.ev,U.ev,asS,asI]
 ·simp[zq,run_underlying hu,zo,zn,zm,asIntOf,z,g,f,q,T.ev,C.ev,asS,asI]
 ·simp[zq,run_underlying hu,zo,zn,g,T.ev,C.ev,U.ev,asS,asI]
theorem run_sliceL{t e:TypeId}{s l h:T}{j k:IntKind}{sz:Nat}{lo hi:Option Operand}(hu:P.underlying t=some (.slice e))(J:qBp P e=some sz)(q:s.kind=some .sl)(G:l.kind=some (.i j))(Z:h.kind=some (.i k))
  (el:lo.map a.eval=some (l.ev ρ β)∨lo=none/\l=.int .i64 0) (r:hi.map a.eval=some (h.ev ρ β)∨hi=none/\h=slLen s) (b:asB ((T.c3 .bnd l h (qIX s)).ev ρ β)=true):
  (zq t (s.ev ρ β) (lo.map a.eval) (hi.map a.eval) none).run P w=
   .ok ((T.c3 .slc (.c3 (.slp sz) (qDE s) l (qIX s)) (.b2 (.sub .i64) h l) (.b2 (.sub .i64) (qIX s) l)).ev ρ β) w:=by
 obtain⟨p,n,c,z⟩:=qHE (ρ:=ρ) (β:=β) q;obtain⟨x,f⟩:=qEP (ρ:=ρ) (β:=β) G;obtain⟨y,u⟩:=qEP (ρ:=ρ) (β:=β) Z;have g:=qKD (ρ:=ρ) (β:=β) s q;simp only[T.ev,C.ev,qLs,z,f,u,asB,asI,asCap,decide_eq_true_eq]at b;obtain⟨h1,h2,h3⟩:=b;obtain⟨x,rfl⟩:=zp h1;obtain⟨y,rfl⟩:=zp (show 0<=y by omega);have d:x<=y:=by omega
 have v:y<=c:=by omega
 have hv:(T.c3 .slc (.c3 (.slp sz) (qDE s) l (qIX s)) (.b2 (.sub .i64) h l) (.b2 (.sub .i64) (qIX s) l)).ev ρ β=
   .slice (if c=x then p else qAa p (x*sz)) (y-x) (c-x):=by
  rw[z]at g;simp only[T.ev,C.ev,B.ev,g,qLs,z,f,u];grind[asI,asP,asCap]
 have m:((zn true n c (lo.map a.eval) (hi.map a.eval) none).run P w:Result (Nat×Nat×Nat))=.ok (x,y,c) w:=by
  rcases el with el|⟨rfl,rfl⟩<;>rcases r with r|⟨rfl,rfl⟩
  ·simp[zn,zm,asIntOf,el,r,f,u,d,v]
  ·rw[qIA,z]at u;simp only[qJZ,zl,zk]at u;obtain⟨-,rfl⟩:=u;simp[zn,zm,asIntOf,el,f,d]
  ·simp only[T.ev,zl]at f;obtain⟨-,f⟩:=f;obtain rfl:x=0:=by omega
   simp[zn,zm,asIntOf,r,u,v]
  ·simp only[T.ev,zl]at f;obtain⟨-,f⟩:=f;obtain rfl:x=0:=by omega
   rw[qIA,z]at u;simp only[qJZ,zl,zk]at u;obtain⟨-,rfl⟩:=u;rfl
 rw[hv,z];simp only[zq,zK,run_underlying hu,zL,zo,m,qBq J,zM];rfl
end
section
variable{P:Program}{ρ:List Value}{β:Nat->Nat}{w:World}
theorem run_eqFs{g:TypeId->T->T->Option T}{n:Nat}{cs ds:T}(l:∀t x y z,g t x y=some z->∃b,z.ev ρ β=.bool b/\(zX n t (x.ev ρ β) (y.ev ρ β)).run P w=.ok b w) :
    ∀(fs:List Field)(z:T),eqFs g P cs ds fs=some z->∃b,z.ev ρ β=.bool b/\
      (do for f in fs do
            if f.name≠ "_" then
              if !(<-zX n f.type (<-part f.type (cs.evs ρ β).toArray f.offset) (<-part f.type (ds.evs ρ β).toArray f.offset))then return false
          pure true:Sem Bool).run P w=.ok b w:=by
  intro fs;induction fs with
  |nil=>
    intro z h;simp only[eqFs,zF]at h;subst h;exact⟨true,rfl,by simp⟩
  |cons f fs m=>
    intro z h;unfold eqFs at h;split at h;· cases h
    rename_i u;split at h;case h_2=>cases h
    rename_i x y q p;split at h;case h_2=>cases h
    rename_i a c;obtain⟨b,s,e⟩:=l _ _ _ _ c;simp only[List.forIn_cons,u,ne_eq,not_false_eq_true,if_true,zK,qJd q,qJd p,zL,e];cases b with
    |false=>
      refine⟨false,?_,by simp⟩;split at h;· grind
      · rw[zj]at h;obtain⟨r,j,rfl⟩:=h;grind[T.ev,B.ev,asB]
    |true=>
      split at h;· simp_all
      · rw[zj]at h;obtain⟨r,j,rfl⟩:=h;obtain⟨v,d,i⟩:=m r j;simp_all[T.ev,B.ev,asB,zK]
theorem run_eqT:∀(d n:Nat)(t:TypeId)(x y z:T),eqT P d t x y=some z->∃b,z.ev ρ β=.bool b/\(zX (n+d) t (x.ev ρ β) (y.ev ρ β)).run P w=.ok b w
 |0,_,_,_,_,_,h=>by simp[eqT]at h
 |d+1,n,t,x,y,z,h=>by
  unfold eqT at h;rw[show n+(d+1)=(n+d)+1 from rfl,zX];split at h
  ·rename_i m k r hu u j;split at h
   ·rename_i e;subst e;cases h;obtain⟨a,f⟩:=qEP (ρ:=ρ) (β:=β) u;obtain⟨b,g⟩:=qEP (ρ:=ρ) (β:=β) j;exact⟨decide (a=b),by simp[T.ev,B.ev,f,g,asI],by simp[zK,run_underlying hu,f,g];rfl⟩
   ·cases h
  ·rename_i hu u j;cases h;obtain⟨a,f⟩:=qIh (ρ:=ρ) (β:=β) u;obtain⟨b,g⟩:=qIh (ρ:=ρ) (β:=β) j;exact⟨decide (a=b),by simp[T.ev,B.ev,f,g,asS],by
    have l:(a==b)=decide (a=b):=by rw[Bool.eq_iff_iff,MapKept.bytes_beq,decide_eq_true_eq]
    simp[zK,run_underlying hu,f,g,l]⟩
  ·rename_i hu u j;cases h;obtain⟨a,f⟩:=qGV (ρ:=ρ) (β:=β) u;obtain⟨b,g⟩:=qGV (ρ:=ρ) (β:=β) j;exact⟨a==b,by simp[T.ev,B.ev,f,g,asB],by simp[zK,run_underlying hu,f,g]⟩
  ·rename_i fs hu u j;split at h;case h_2=>cases h
   rename_i cs ds;split at h;case isFalse=>cases h
   rename_i i;obtain⟨b,g,q⟩:=run_eqFs (n:=n+d) (λt x y z h=>run_eqT d n t x y z h) fs.toList z h;refine⟨b,g,?_⟩;simp only[zK,run_underlying hu,zL,T.ev,run_program,i,<-Array.forIn_toList];simp_all
  ·cases h
theorem run_eqAgg{op:BinOp}{g:TypeId}{x y:Operand}{p q t:T}{ns:List T}(h:eqAgg P op g p q=some (ns,t)):
  (do eqGuard op g x y (p.ev ρ β) (q.ev ρ β);binOp op g (p.ev ρ β) (q.ev ρ β):Sem Value).run P w=.ok (t.ev ρ β) w:=by
 unfold eqAgg at h;split at h;case h_2=>cases h
 rename_i cs ds;split at h;case isFalse=>cases h
 rename_i i;rw[Option.bind_eq_some_iff]at h;obtain⟨z,u,l⟩:=h;obtain⟨b,n,f⟩:=run_eqT (ρ:=ρ) (β:=β) (w:=w) 5 9995 g _ _ z u;have f:(Op.equal g (T.ev ρ β (.agg cs)) (T.ev ρ β (.agg ds))).run P w=.ok b w:=f;have j:(eqGuard op g x y (T.ev ρ β (.agg cs)) (T.ev ρ β (.agg ds))).run P w=.ok () w:=by
  simp_all[eqGuard,T.ev,zK,run_program]
 grind[zK,zL,qDF,T.ev]
end
section
variable{P:Program}{O V0:Mem}{w0:World}{N:Nat}{β:Nat->Nat}{st:St}{ρ:List Value}{V:Mem}{a:Act}{w:World}
theorem lohi{st:St}{lo:Option Operand}{d l:T}(g:Rel O V0 w0 N β st ρ V a.tmps w)(h:(match lo with|some l=>opT st l|none=>some d)=some l):
  lo.map a.eval=some (l.ev ρ β)∨lo=none/\l=d:=by
 cases lo with
 |some x=>grind[qAS]
 |none=>simp_all
theorem qJh(g:Rel O V0 w0 N β st ρ V a.tmps w){o:Oper}{ns:List T}{t:T}(h:pur P st o.op=some (ns,t))(G:∀x∈ns,asB (x.ev ρ β)=true):
  (execOp a.eval o).run P w=.ok (.value (t.ev ρ β)) w:=by
 unfold execOp;generalize o.op=op at h⊢;cases op with
 |move x=>
  simp only[pur,zj,zS]at h;obtain⟨Y,h1,rfl,rfl⟩:=h;simp only[zM,qAS g h1]
 |assign x=>
  simp only[pur,zj,zS]at h;obtain⟨Y,h1,rfl,rfl⟩:=h;simp only[zM,qAS g h1]
 |pick c x y=>
  simp only[pur]at h;split at h
  ·rename_i v p q h1 h2 h3;simp only[zF,zS]at h;obtain⟨rfl,rfl⟩:=h;simp only[qAS g h1,qAS g h2,qAS g h3,T.ev,asBool,zK,zM,zL];cases v<;>rfl
  ·simp at h
 |load ty x=>
  simp only[pur]at h;split at h
  ·rename_i i off h1;cases B:st.box i with
   |none=>simp[B]at h
   |some cs=>
    obtain⟨cs,e⟩:=cs;simp only[B,zt,zj,zS]at h;obtain⟨Y,h2,rfl,rfl⟩:=h;have hB:=(g.boxes i cs e B).1;have:=qCe (P:=P) hB h2;simp only[qAS g h1,T.ev,Instr.loadAt,zi,zK,zM,zL,this]
  ·simp at h
 |fieldAddr s x f=>
  simp only[pur]at h;split at h
  ·rename_i fs p hu h1;cases W:fs[f]? with
   |none=>simp[W]at h
   |some fd=>
    simp only[W,zt]at h;split at h
    ·rename_i m Z;split at h
     ·rename_i r;simp only[zF,zS]at h;obtain⟨rfl,rfl⟩:=h;obtain⟨q,D⟩:=nn_some r G;rw[poff_ev _ _ ⟨_,D⟩,D];simp only[qAS g h1,D,Instr.fieldAt,zK,run_underlying hu,zL,W,zi,zM,qKn Z,asP,qAa,zJ]
     ·simp at h
    ·simp at h
  ·simp at h
 |indexAddr ty x i=>
  simp only[pur]at h;split at h
  ·rename_i e s j hu h1 h2;split at h
   ·rename_i k sz Z hj E;simp only[zF,zS]at h;obtain⟨rfl,rfl⟩:=h;simp only[qAS g h1,qAS g h2,zK,run_indexAtT hu Z hj E G,zL,zM]
   ·simp at h
  ·simp at h
 |index ty x i=>
  simp only[pur]at h;split at h
  ·rename_i s j hu h1 h2;split at h
   ·rename_i k Z hj;simp only[zF,zS]at h;obtain⟨rfl,rfl⟩:=h;simp only[qAS g h1,qAS g h2,zK,run_indexT hu Z hj (G _ (zO.2 rfl)),zL,zM]
   ·simp at h
  ·simp at h
 |binOp b xt x y yt=>
  simp only[pur]at h;split at h
  ·rename_i p q h1 h2;have:=(Option.or_eq_some_iff.1 h).elim (λh=>run_binOpT (P:=P) (x:=x) (y:=y) (w:=w) h G) λh=>run_eqAgg (x:=x) (y:=y) h.2;simp only[qAS g h1,qAS g h2];rw[zK,this];rfl
  ·simp at h
 |unOp u xt x=>
  simp only[pur]at h;split at h
  ·rename_i Y h1;split at h
   ·rename_i r;simp only[zF,zS]at h;obtain⟨rfl,rfl⟩:=h;obtain⟨b,B⟩:=qGV (ρ:=ρ) (β:=β) r;simp[qAS g h1,B,Op.unary,notT_ev,asB]
   ·simp at h
  ·rename_i Y h1;split at h
   ·rename_i k r;simp only[inr,zF,zS]at h;obtain⟨rfl,rfl⟩:=h;obtain⟨m,hm⟩:=qEP (ρ:=ρ) (β:=β) r;have h3:=G _ (zO.2 rfl);simp only[T.ev,U.ev,hm,asI,asB,decide_eq_true_eq]at h3;simp only[qAS g h1,hm,Op.unary,Op.intArith,zK,zM,zL,T.ev,U.ev,asI,qGY h3]
   ·simp at h
  ·simp at h
 |convert src dst x=>
  simp only[pur]at h;split at h
  ·rename_i k0 k Y A I h1;split at h
   ·rename_i j r;obtain⟨m,hm⟩:=qEP (ρ:=ρ) (β:=β) r;have key:k.wrap m=m->((do pure (Next.value (<-convert src dst (a.eval x))):Sem Next).run P w)=.ok (.value (.int k m)) w:=λe=>by
     simp only[qAS g h1,hm,zK,convert,run_underlying A,run_underlying I,zL,Conv.intToInt,zM,e]
    split at h
    ·rename_i e;subst e;simp only[inr,zF,zS]at h;obtain⟨rfl,rfl⟩:=h;have h3:=G _ (zO.2 rfl);simp_all[T.ev,U.ev,asI,asB,decide_eq_true_eq,qGY]
    ·simp only[inr,zF,zS]at h;obtain⟨rfl,rfl⟩:=h;have h3:=G _ (zO.2 rfl);simp_all[T.ev,U.ev,asI,asB,decide_eq_true_eq,qGY]
   ·simp at h
  ·rename_i Y A I h1;split at h
   ·rename_i r;simp only[zF,zS]at h;obtain⟨rfl,rfl⟩:=h;obtain⟨m,hm⟩:=qIh (ρ:=ρ) (β:=β) r;simp only[qAS g h1,hm,zK,convert,run_underlying A,run_underlying I,zL,zM]
   ·simp at h
  ·simp at h
 |build ty parts=>
  simp only[pur]at h;split at h
  ·rename_i fs z ps hu E hp;split at h
   ·rename_i Z;simp only[zj,zS]at h;obtain⟨cs,W,rfl,rfl⟩:=h;grind[zK,run_buildT,zL,zM,T.ev,qAE]
   ·simp at h
  ·simp at h
 |field xt x f=>
  simp only[pur]at h;split at h
  ·rename_i fs cs hu h1;cases W:fs[f]? with
   |none=>simp[W]at h
   |some fd=>
    simp only[W,zt,zj,zS]at h;obtain⟨Y,h2,rfl,rfl⟩:=h;simp only[qAS g h1,T.ev,Instr.field,zK,run_underlying hu,zL,W,asAgg,zM,qJd h2]
  ·simp at h
 |extract x i=>
  simp only[pur]at h;split at h
  ·rename_i cs h1;simp only[zj,zS]at h;obtain⟨Y,h2,rfl,rfl⟩:=h;have:(cs.evs ρ β).toArray[i]?=some (Y.ev ρ β):=by simp[qAP,h2]
   simp[qAS g h1,T.ev,Instr.extract,this]
  ·simp at h
 |makeFunc fn first J=>
  simp only[pur]at h;split at h
  ·rename_i f ts h1;split at h
   ·rename_i he;simp only[zF,zS]at h;obtain⟨rfl,rfl⟩:=h;have e1:first=#[]:=by simpa using he
    subst e1;have e2:J.map a.eval=(ts.map (·.ev ρ β)).toArray:=by
     apply zh;rw[zg,qJm g h1]
    simp[Instr.makeFunc,T.ev,qAE,e2]
   ·simp at h
  ·simp at h
 |nilCheck x=>
  simp only[pur]at h;split at h
  ·rename_i f cs h1;simp only[zF,zS]at h;obtain⟨rfl,rfl⟩:=h;simp only[qAS g h1,T.ev,zM]
  ·rename_i p _ h1;split at h
   ·rename_i r;simp only[zF,zS]at h;obtain⟨rfl,rfl⟩:=h;obtain⟨q,D⟩:=nn_some r G;grind[qAS,zM]
   ·simp at h
  ·simp at h
 |slice ty x lo hi mx=>
  simp only[pur]at h;split at h
  ·rename_i s hu h1;split at h
   ·rename_i l hh Z hl M;split at h
    ·rename_i j k F X;simp only[zF,zS]at h;obtain⟨rfl,rfl⟩:=h;simp only[qAS g h1,zf,zK,run_sliceS hu Z F X (lohi g hl) (lohi g M) (G _ (zO.2 rfl)),zL,zM]
    ·simp at h
   ·simp at h
  ·rename_i e s hu h1;split at h
   ·rename_i sz l hh Z E hl M;split at h
    ·rename_i j k F X;simp only[zF,zS]at h;obtain⟨rfl,rfl⟩:=h;simp only[qAS g h1,zf,zK,run_sliceL hu E Z F X (lohi g hl) (lohi g M) (G _ (zO.2 rfl)),zL,zM]
    ·simp at h
   ·simp at h
  ·simp at h
 |call c=>
  simp only[pur]at h;have d:∀{x:T},opTs st c.args.toList=some [x]->c.args.map a.eval=#[x.ev ρ β]:=λ{x} h1=>by
   apply zh;rw[zg,qJm g h1];rfl
  split at h
  ·rename_i x ty K h1 h2;have S:c.argTypes=#[ty]:=by grind
   split at h
   ·rename_i e r hu;simp only[zF,zS]at h;obtain⟨rfl,rfl⟩:=h;obtain⟨p,n,cp,C⟩:=qHE (ρ:=ρ) (β:=β) r;simp only[resolve,K,d h1,S,zK,zM,zL,invoke,builtin,C,qIA,qJZ];simp[ze,run_underlying hu,goInt]
   ·rename_i r hu;simp only[zF,zS]at h;obtain⟨rfl,rfl⟩:=h;obtain⟨s,C⟩:=qIh (ρ:=ρ) (β:=β) r;simp only[resolve,K,d h1,S,zK,zM,zL,invoke,builtin,C,T.ev,U.ev,asS];simp[ze,run_underlying hu,goInt]
   ·simp at h
  ·rename_i x ty K h1 h2;have S:c.argTypes=#[ty]:=by grind
   split at h
   ·rename_i e r hu;simp only[zF,zS]at h;obtain⟨rfl,rfl⟩:=h;obtain⟨p,n,cp,C⟩:=qHE (ρ:=ρ) (β:=β) r;simp only[resolve,K,d h1,S,zK,zM,zL,invoke,builtin,C,qLs,asCap];simp[Builtin.cap_,run_underlying hu,goInt]
   ·simp at h
  ·simp at h
 |_=>simp[pur]at h
end
theorem lookup_mem:∀{l:List (Nat×T)}{s:Nat}{t:T},l.lookup s=some t->(s,t)∈l
 |(s',g)::l,s,t,h=>by
  rw[zd]at h;split at h;·rename_i e;simp only[beq_iff_eq]at e;subst e;simp only[zF]at h;subst h;exact zc
  ·exact zb _ (lookup_mem h)
theorem qGj:∀{l:List (Nat×T×Nat)}{s:Nat}{t:T×Nat},l.lookup s=some t->(s,t)∈l
 |(s',g)::l,s,t,h=>by
  rw[zd]at h;split at h;·rename_i e;simp only[beq_iff_eq]at e;subst e;simp only[zF]at h;subst h;exact zc
  ·exact zb _ (qGj h)
theorem qDm{st:St}{s:Nat}{t:T}(h:st.get s=some t):st.slots.lookup s=some t:=by
 grind[St.get]
theorem get_ne{st:St}{s:Nat}{t:T}(h:st.get s=some t):t≠.nil:=by
 grind[St.get]
theorem qLT(st:St)(d s:Nat)(t:T):(st.put d t).get s=if s=d then(if t=.nil then none else some t)else st.get s:=by
 grind[St.get,St.put]
theorem wf_get{st:St}(h:st.wf=true){s:Nat}{t:T}(g:st.get s=some t):t.wf st.nv st.nb=true:=by
 simp only[St.wf,zC,za]at h;exact h.1 _ (lookup_mem (qDm g))
theorem qIS{st:St}(h:st.wf=true){i:Nat}{cs:T}{ty:Nat}(g:st.box i=some (cs,ty)):i<st.nb/\cs.wf st.nv st.nb=true:=by
 simp only[St.wf,zC,za,decide_eq_true_eq]at h;exact h.2 _ (qGj g)
section
variable{P:Program}{O V0:Mem}{w0:World}{N:Nat}{β:Nat->Nat}{st:St}{ρ:List Value}{V:Mem}{a:Act}{w:World}{tmps:Array Value}
theorem Rel.put(h:Rel O V0 w0 N β st ρ V tmps w){d:Nat}(f:d<N)(t:T):Rel O V0 w0 N β (st.put d t) ρ V (tmps.setIfInBounds d (t.ev ρ β)) w:=
 {nv:=h.nv
  size:=by simpa using h.size
  slots:=λs u g=>by
   rw[qLT]at g;split at g
   ·rename_i e;subst e;split at g;·simp at g
    ·simp only[zF]at g;subst g;have:s<tmps.size:=by rw[h.size];exact f
     simp_all
   ·rename_i e;rw[<-h.slots s u g];by_cases hlt:s<tmps.size;·simp[z6,hlt,show ¬d=s by omega]
    simp_all
  frm:=h.frm
  boxes:=h.boxes
  hid:=h.hid
  inj:=h.inj}
theorem Rel.putO(h:Rel O V0 w0 N β st ρ V a.tmps w){d:Option Nat}(g:qFR N d=true)(t:T){v:Value}(hv:v=t.ev ρ β):
  Rel O V0 w0 N β (st.putO d t) ρ V (a.put d v).tmps w:=by
 subst hv;cases d with
 |none=>exact h
 |some d=>exact h.put (by simpa [qFR]using g) t
theorem qDy{l:List (Nat×T)}:∀{keep:List Nat}{s:Nat}{t:T},(qFM l keep).lookup s=some t->l.lookup s=some t
 |[],s,t,h=>by simp[qFM]at h
 |k::g,s,t,h=>by
  simp only[qFM]at h;split at h
  ·rename_i f u;rw[zd]at h;split at h;·simp_all
   ·exact qDy h
  ·exact qDy h
theorem qEG{d:Nat}:∀{l:List (Nat×T)}{s:Nat}{t:T},(l.filter (λx=>x.1 !=d)).lookup s=some t->l.lookup s=some t
 |[],s,t,h=>by simp at h
 |(k,x)::l,s,t,h=>by
  rw[zd];simp only[z7]at h;by_cases e:k=d
  ·subst e;simp only[bne_self_eq_false,zN,if_false]at h;have hm:=lookup_mem h;have g:s≠k:=by simp_all
   have:(s==k)=false:=by simpa using g
   rw[this];exact qEG h
  ·have f:(k !=d)=true:=by simpa using e
   simp only[f,if_true,zd]at h;split at h;·simp_all
   ·simp_all;exact qEG h
theorem Rel.fewer(h:Rel O V0 w0 N β st ρ V tmps w)(l:List (Nat×T))(g:∀s t,l.lookup s=some t->st.slots.lookup s=some t):Rel O V0 w0 N β {st with slots:=l} ρ V tmps w:=
 {h with
  slots:=λs t f=>h.slots s t (by
   grind[St.get,absurd])
  boxes:=h.boxes
  hid:=h.hid
  inj:=h.inj}
theorem Rel.compact(h:Rel O V0 w0 N β st ρ V tmps w)(keep:List Nat):Rel O V0 w0 N β (st.compact keep) ρ V tmps w:=h.fewer _ λ_ _=>qDy
theorem Rel.drop(h:Rel O V0 w0 N β st ρ V tmps w)(d:Nat):Rel O V0 w0 N β (st.drop d) ρ V tmps w:=h.fewer _ λ_ _=>qEG
theorem Rel.now(h:Rel O V0 w0 N β st ρ V tmps w){d:Nat}{t f:T}(u:st.get d=some t)(z:t.ev ρ β=f.ev ρ β):Rel O V0 w0 N β (st.now d f) ρ V tmps w:=
 {h.drop d with
  slots:=λs x g=>by
   unfold St.now at g;rw[qLT]at g;split at g
   ·rename_i e;subst e;split at g;·simp at g
    ·simp only[zF]at g;subst g;rw[h.slots s t u,z]
   ·exact(h.drop d).slots s x g}
theorem qJG{ρ vs:List Value}{m:Nat}(h:m<ρ.length):ρ.getD m undef=(ρ++vs).getD m undef:=by
 grind
theorem Rel.bind(h:Rel O V0 w0 N β st ρ V tmps w)(hw:st.wf=true)(vs:List Value):Rel O V0 w0 N β (st.more vs.length) (ρ++vs) V tmps w:=by
 have g:∀t:T,t.wf st.nv st.nb=true->t.ev ρ β=t.ev (ρ++vs) β/\t.evs ρ β=t.evs (ρ++vs) β:=
  T.ev_congr (λm hm=>qJG (by rw[h.nv];exact hm)) (λ_ _=>rfl)
 exact
 {nv:=by simp[St.more,h.nv]
  size:=h.size
  slots:=λs t f=>(h.slots s t f).trans (g t (wf_get hw f)).1
  frm:=h.frm
  boxes:=λi cs ty u=>by
   have:=h.boxes i cs ty u;rw[<-(g cs (qIS hw u).2).2];exact this
  hid:=h.hid
  inj:=h.inj}
theorem Rel.frame(h:Rel O V0 w0 N β st ρ V tmps w){V':Mem}{w':World}(f:Frm V w V' w'):Rel O V0 w0 N β st ρ V' tmps w':=
 {nv:=h.nv
  size:=h.size
  slots:=h.slots
  frm:=h.frm.trans f
  boxes:=λi cs ty z=>by
   obtain⟨h1,h2,h3,h4⟩:=h.boxes i cs ty z;have g:β i<w.heap.size:=(yA.1 h1).1;refine⟨(f.old _ g h2).trans h1,?_,h3,h4⟩;cases t:V' (β i)with
   |none=>rfl
   |some o=>
    rcases f.dom (β i) (by simp[t])with u|u;·grind
    ·omega
  hid:=λb o y=>by
   obtain⟨h1,h2,h3,h4⟩:=h.hid b o y;have g:b<w.heap.size:=(yA.1 h1).1;refine⟨(f.old _ g h2).trans h1,?_,h3,h4⟩;cases t:V' b with
   |none=>rfl
   |some x=>
    rcases f.dom b (by simp[t])with u|u;·grind
    ·omega
  inj:=h.inj}
theorem qLe(w:World)(o:Obj):(w.alloc o).heap[w.heap.size]?=some o:=by
 show(w.heap.push o)[w.heap.size]?=some o;simp
theorem qFu(w:World)(o:Obj){b:Nat}(h:b<w.heap.size):(w.alloc o).heap[b]?=w.heap[b]?:=by
 show(w.heap.push o)[b]?=w.heap[b]?;grind
theorem le_none{V:Mem}{w:World}(h:V.le w){b:Nat}(f:w.heap.size<=b):V b=none:=by
 cases g:V b with
 |none=>rfl
 |some o=>have:=h b o g;simp_all
theorem Frm.alloc{V:Mem}{w:World}(h:V.le w)(o:Obj):Frm V w V (w.alloc o):=
 ⟨by simp_all,λb f g=>by
   have:=h b f g;grind[qFu,yA],λb g _=>qFu w o g,λ_ h=>.inl h,rfl,rfl⟩
def upd(β:Nat->Nat)(i b:Nat):Nat->Nat:=λj=>if j=i then b else β j
theorem Rel.alloc(h:Rel O V0 w0 N β st ρ V tmps w)(hw:st.wf=true){cs:T}(J:cs.wf st.nv st.nb=true)(ty:Nat):
  Rel O V0 w0 N (upd β st.nb w.heap.size) {st with boxes:=(st.nb,cs,ty)::st.boxes,nb:=st.nb+1} ρ V tmps (w.alloc (.cells (cs.evs ρ β).toArray ty (0,0))):=by
 have l:∀t:T,t.wf st.nv st.nb=true->t.ev ρ β=t.ev ρ (upd β st.nb w.heap.size)/\t.evs ρ β=t.evs ρ (upd β st.nb w.heap.size):=
  T.ev_congr (λ_ _=>rfl) (λi u=>by grind[upd])
 have g:∀(i:Nat)(x:T×Nat),St.box {st with boxes:=(st.nb,cs,ty)::st.boxes,nb:=st.nb+1} i=some x->(i=st.nb/\x=(cs,ty))∨(i≠st.nb/\st.box i=some x):=by
  grind[St.box,inr]
 have G:∀i,i≠st.nb->(st.box i).isSome=true->upd β st.nb w.heap.size i<w.heap.size:=by
  intro i u r;obtain⟨x,n⟩:=yB.1 r;have:=(h.boxes i x.1 x.2 n).1;grind[upd]
 exact
 {nv:=h.nv
  size:=h.size
  slots:=λs t r=>(h.slots s t r).trans (l t (wf_get hw r)).1
  frm:=h.frm.trans (Frm.alloc h.frm.le _)
  boxes:=λi q p u=>by
   rcases g i _ u with⟨rfl,e⟩|⟨z,f⟩
   ·cases e;refine⟨?_,?_,?_,Nat.lt_succ_self _⟩;·rw[<-(l cs J).2];simp only[upd,if_true];exact qLe w _
    ·simp only[upd,if_true];exact le_none h.frm.le (Nat.le_refl _)
    ·simp only[upd,if_true];exact h.frm.size
   ·obtain⟨h1,h2,h3,h4⟩:=h.boxes i q p f;grind[upd,qIS,qFu,yA,Nat.lt_succ_of_lt]
  hid:=λb o Z=>by
   obtain⟨h1,h2,h3,h4⟩:=h.hid b o Z;have c:b<w.heap.size:=(yA.1 h1).1;refine⟨(qFu w _ c).trans h1,h2,h3,λi u=>?_⟩;obtain⟨x,n⟩:=yB.1 u;rcases g i x n with⟨rfl,_⟩|⟨z,f⟩;·grind[upd]
   grind[upd]
  inj:=λi j u Y v=>by
   obtain⟨x,n⟩:=yB.1 u;obtain⟨y,W⟩:=yB.1 Y;rcases g i x n with⟨rfl,_⟩|⟨z,f⟩<;>rcases g j y W with⟨rfl,_⟩|⟨m,d⟩
   ·rfl
   ·grind[upd]
   ·grind[upd]
   ·simp only[upd,if_neg z,if_neg m]at v;exact h.inj i j (by simp[f]) (by simp[d]) v}
theorem qIZ(w:World)(g:Nat)(cs:Array Value):(w.setRow g cs).heap.size=w.heap.size:=by simp[World.setRow]
theorem setRow_other(w:World)(g:Nat)(cs:Array Value){b:Nat}(h:b≠g):(w.setRow g cs).heap[b]?=w.heap[b]?:=by
 grind[World.setRow,absurd]
theorem Rel.setBox(h:Rel O V0 w0 N β st ρ V tmps w){i:Nat}{cs f:T}{ty:Nat}(hi:st.box i=some (cs,ty)) :
    Rel O V0 w0 N β (st.setBox i f ty) ρ V tmps (w.setRow (β i) (f.evs ρ β).toArray):=by
  obtain⟨h1,h2,h3,h4⟩:=h.boxes i cs ty hi;have z:∀(j:Nat)(x:T×Nat),(st.setBox i f ty).box j=some x->(j=i/\x=(f,ty))∨(j≠i/\st.box j=some x):=by
    grind[St.box,St.setBox,inr]
  have g:∀j,((st.setBox i f ty).box j).isSome=true->(st.box j).isSome=true:=by
    intro j t;obtain⟨x,s⟩:=yB.1 t;grind
  exact
  { nv:=h.nv
    size:=h.size
    slots:=h.slots
    frm:=⟨by grind [qIZ],fun b o y=>by
              have u:b≠β i:=by grind
              rw[setRow_other w _ _ u];exact h.frm.le b o y,λb y p=>by
              rw[setRow_other w _ _ (by omega)];exact h.frm.old b y p,h.frm.dom,h.frm.os,h.frm.out⟩
    boxes:=λj l r t=>by
      rcases z j _ t with⟨rfl,e⟩|⟨u,n⟩
      · cases e;exact⟨setRow_heap w _ _ _ ty (0,0) h1,h2,h3,h4⟩
      · obtain⟨q,g2,g3,m⟩:=h.boxes j l r n;have c:β j≠β i:=λe=>u (h.inj j i (by simp[n]) (by simp[hi]) e);exact⟨(setRow_other w _ _ c).trans q,g2,g3,m⟩
    hid:=λb o y=>by
      obtain⟨q,g2,g3,m⟩:=h.hid b o y;exact⟨(setRow_other w _ _ (Ne.symm (m i (by simp[hi])))).trans q,g2,g3,λj t=>m j (g j t)⟩
    inj:=λj k t d=>h.inj j k (g j t) (g k d)}
theorem qKT(f:T->T):∀(l:List (Nat×T))(s:Nat),(l.map (λx=>(x.1,f x.2))).lookup s=(l.lookup s).map f
 |[],s=>rfl
 |(s',t)::l,s=>by
  simp only[zG,zd];split;·rfl
  ·exact qKT f l s
theorem qJv(f:T->T):∀(l:List (Nat×T×Nat))(s:Nat),(l.map (λx=>(x.1,f x.2.1,x.2.2))).lookup s=(l.lookup s).map λy=>(f y.1,y.2)
 |[],s=>rfl
 |(s',t)::l,s=>by
  simp only[zG,zd];split;·rfl
  ·exact qJv f l s
theorem qEA(i:Nat):∀(l:List (Nat×T×Nat))(s:Nat),(l.filter (λx=>x.1 !=i)).lookup s=if s=i then none else l.lookup s
 |[],s=>by simp
 |(s',t)::l,s=>by
  simp only[z7];by_cases h:s'=i
  ·subst h;simp only[bne_self_eq_false,zN,if_false,qEA s' l s,zd];grind
  ·have g:(s' !=i)=true:=by simpa using h
   simp only[g,if_true,zd,qEA i l s];grind
theorem Rel.pubd(h:Rel O V0 w0 N β st ρ V tmps w)(hw:st.wf=true){i:Nat}{cs:T}{ty:Nat}(hi:st.box i=some (cs,ty)):
  Rel O V0 w0 N β (st.pubd i) (ρ++[.pointer (some ⟨β i,0,none⟩)]) (V.set (β i) (.cells (cs.evs ρ β).toArray ty (0,0))) tmps w:=by
 obtain⟨h1,h2,h3,h4⟩:=h.boxes i cs ty hi;have W:(ρ++[zY (some ⟨β i,0,none⟩)]).getD st.nv undef=zY (some ⟨β i,0,none⟩):=by
  rw[<-h.nv];simp[List.getD]
 have u:∀t:T,t.wf st.nv st.nb=true->(t.subst i st.nv).ev (ρ++[.pointer (some ⟨β i,0,none⟩)]) β=t.ev ρ β/\(t.subst i st.nv).evs (ρ++[.pointer (some ⟨β i,0,none⟩)]) β=t.evs ρ β:=by
  intro t A;have C:=T.ev_subst W t;have D:=T.ev_congr (ρ:=ρ) (ρ':=ρ++[.pointer (some ⟨β i,0,none⟩)]) (β:=β) (β':=β) (λm hm=>qJG (by rw[h.nv];exact hm)) (λ_ _=>rfl) t A;simp_all
 have z:∀(j:Nat)(x:T×Nat),(st.pubd i).box j=some x->j≠i/\∃y,st.box j=some y/\x=(y.1.subst i st.nv,y.2):=by
  intro j x l;simp only[St.box,St.pubd,qJv,qEA]at l;split at l;·simp at l
  ·rename_i e;simp only[zj]at l;obtain⟨y,n,rfl⟩:=l;exact⟨e,y,n,rfl⟩
 have g:∀j,((st.pubd i).box j).isSome=true->(st.box j).isSome=true:=by
  grind[yB]
 exact
 {nv:=by simp[St.pubd,h.nv]
  size:=h.size
  slots:=λs t G=>by
   have Z:=qDm G;simp only[St.pubd,qKT,zj]at Z;obtain⟨p,I,rfl⟩:=Z;have Y:st.get s=some p:=by
    unfold St.get;have r:p≠.nil:=λe=>get_ne G (by subst e;rfl);simp_all
   rw[(u p (wf_get hw Y)).1];exact h.slots s p Y
  frm:=
   {size:=h.frm.size
    le:=λb o f=>by
     by_cases e:b=β i;·grind[Mem.set_same]
     ·rw[Zm e]at f;exact h.frm.le b o f
    old:=h.frm.old
    dom:=λb f=>by
     by_cases e:b=β i;·omega
     ·rw[Zm e]at f;exact h.frm.dom b f
    os:=h.frm.os
    out:=h.frm.out}
  boxes:=λj M F q=>by
   obtain⟨r,y,n,e⟩:=z j _ q;obtain⟨d,v,J,c⟩:=h.boxes j y.1 y.2 n;cases e;have X:β j≠β i:=λe=>r (h.inj j i (by simp[n]) (by simp[hi]) e);rw[(u y.1 (qIS hw n).2).2];exact⟨d,by rw[Zm X];exact v,J,c⟩
  hid:=λb o f=>by
   obtain⟨d,v,J,c⟩:=h.hid b o f;exact⟨d,by rw[Zm (Ne.symm (c i (by simp[hi])))];exact v,J,λj q=>c j (g j q)⟩
  inj:=λj k q B=>h.inj j k (g j q) (g k B)}
end
section
variable{P:Program}{R:Ending->Mem->Prop}{O V0:Mem}{w0:World}{N:Nat}{L:List (List Value->Mem->Prop)}{ρ0:List Value}
structure Pre (ρ0:List Value)(L:List (List Value->Mem->Prop))(ρ:List Value)(st:St):Prop where
 pre:ρ0<+:ρ
 depth:L.length=st.depth
theorem Pre.putO{ρ0:List Value}{L:List (List Value->Mem->Prop)}{ρ:List Value}{st:St}(h:Pre ρ0 L ρ st)(d:Option Nat)(t:T):Pre ρ0 L ρ (st.putO d t):=by
 cases d<;>exact⟨h.1,h.2⟩
theorem Pre.more{ρ0:List Value}{L:List (List Value->Mem->Prop)}{ρ:List Value}{st:St}(h:Pre ρ0 L ρ st)(n:Nat)(vs:List Value):Pre ρ0 L (ρ++vs) (st.more n):=⟨h.1.trans (yC _ _),h.2⟩
theorem Pre.pubd{ρ0:List Value}{L:List (List Value->Mem->Prop)}{ρ:List Value}{st:St}(h:Pre ρ0 L ρ st)(i:Nat)(vs:List Value):Pre ρ0 L (ρ++vs) (st.pubd i):=⟨h.1.trans (yC _ _),h.2⟩
theorem Pre.compact{ρ0:List Value}{L:List (List Value->Mem->Prop)}{ρ:List Value}{st:St}(h:Pre ρ0 L ρ st)(keep:List Nat):Pre ρ0 L ρ (st.compact keep):=⟨h.1,h.2⟩
theorem Pre.now{ρ0:List Value}{L:List (List Value->Mem->Prop)}{ρ:List Value}{st:St}(h:Pre ρ0 L ρ st)(d:Nat)(t:T):Pre ρ0 L ρ (st.now d t):=⟨h.1,h.2⟩
theorem Pre.setBox{ρ0:List Value}{L:List (List Value->Mem->Prop)}{ρ:List Value}{st:St}(h:Pre ρ0 L ρ st)(i:Nat)(t:T)(ty:Nat):Pre ρ0 L ρ (st.setBox i t ty):=⟨h.1,h.2⟩
def qCW(P:Program)(R:Ending->Mem->Prop)(O V0:Mem)(w0:World)(N:Nat)(L:List (List Value->Mem->Prop))(ρ0:List Value)(tmps:Array Value)(w:World)(st:St)(t:Tr):Prop:=
 ∃β ρ V,Pre ρ0 L ρ st/\Rel O V0 w0 N β st ρ V tmps w/\D P R t L ρ V
theorem qGi{ns:List T}{k:Tr}{ρ:List Value}{V:Mem}(h:D P R (needs ns k) L ρ V)(β:Nat->Nat):(∀x∈ns,asB (x.ev ρ β)=true)/\D P R k L ρ V:=by
 induction ns with
 |nil=>exact⟨λx g=>by(cases g),h⟩
 |cons n ns f=>
  simp only[needs]at h;split at h
  ·rename_i t;obtain⟨h1,h2⟩:=h;obtain⟨h3,h4⟩:=f h2;refine⟨λx g=>?_,h4⟩;rcases yD.1 g with rfl|g;·grind[T.ev_free,id]
   ·exact h3 x g
  ·exact h.elim
theorem qCQ:∀(n:Nat)(st:St)(i:Nat)(k:St->Tr){tmps:Array Value}{w:World},qCW P R O V0 w0 N L ρ0 tmps w st (qKK n st i k)->∃g,qCW P R O V0 w0 N L ρ0 tmps w g (k g)
 |0,st,i,k,tmps,w,⟨β,ρ,V,t,f,h⟩=>h.elim
 |n+1,st,i,k,tmps,w,⟨β,ρ,V,t,f,h⟩=>by
  simp only[qKK]at h;split at h;·exact h.elim
  ·rename_i cs ty u;split at h
   ·rename_i j _;obtain⟨g,z⟩:=qCQ n st j _ ⟨β,ρ,V,t,f,h⟩;exact qCQ n g i k z
   ·rename_i y;split at h
    ·rename_i hw;have:=h (β i) (f.boxes i cs ty u).2.1;rw[(T.ev_free (β:=id) (β':=β) (ρ:=ρ) cs y).2]at this;exact⟨_,β,_,_,t.pubd _ _,f.pubd hw u,this⟩
    ·exact h.elim
theorem qBb:∀(n:Nat)(st:St)(get:St->Option T)(k:St->T->Tr){tmps:Array Value}{w:World},qCW P R O V0 w0 N L ρ0 tmps w st (pubT n st get k)->
  ∃h t,get h=some t/\t.firstBox=none/\qCW P R O V0 w0 N L ρ0 tmps w h (k h t)
 |0,st,get,k,tmps,w,⟨β,ρ,V,f,u,g⟩=>g.elim
 |n+1,st,get,k,tmps,w,⟨β,ρ,V,f,u,g⟩=>by
  simp only[pubT]at g;split at g;·exact g.elim
  ·rename_i t z;split at g
   ·rename_i y;exact⟨st,t,z,y,β,ρ,V,f,u,g⟩
   ·rename_i i _;obtain⟨h,x⟩:=qCQ _ st i _ ⟨β,ρ,V,f,u,g⟩;exact qBb n h get k x
theorem rk_vals{β:Nat->Nat}:∀(rs:List RK)(vs ρ f:List Value),Shaped (rs.flatMap RK.kinds) vs->(qDq rs ρ.length).map (·.ev (ρ++vs++f) β)=qGf rs vs
 |[],[],_,_,_=>rfl
 |[],_::_,_,_,h=>h.elim
 |.one k::rs,v::vs,ρ,f,h=>by
  have u:=rk_vals (β:=β) rs vs (ρ++[v]) f h.2;simp only[zw,List.length_singleton,zH,zI,List.nil_append]at u;simp only[qDq,zG,zH,zI,T.ev,u,qGf,RK.val,RK.size,List.take_succ_cons,List.take_zero,List.headD_cons,List.drop_succ_cons,List.drop_zero,yE,and_true];have:(ρ++v::(vs++f)).getD ρ.length undef=v:=by simp[List.getD]
  rw[this];exact h.1
 |.one k::rs,[],_,_,h=>h.elim
 |.agg g::rs,vs,ρ,f,h=>by
  have z:=qHU (ks:=g) (ls:=rs.flatMap RK.kinds) (vs:=vs) h;have t:(vs.take g.length).length=g.length:=z.1.length;have u:=rk_vals (β:=β) rs (vs.drop g.length) (ρ++vs.take g.length) f z.2;have e:ρ++vs.take g.length++vs.drop g.length=ρ++vs:=by simp
  rw[e,zw,t]at u;have hv:=qHr (β:=β) g (vs.take g.length) ρ (vs.drop g.length++f) z.1;have y:ρ++vs.take g.length++(vs.drop g.length++f)=ρ++vs++f:=by grind
  grind[qDq,qGf,RK.val,RK.size,T.ev,qAE]
theorem rk_val{β:Nat->Nat}(rs:List RK)(vs ρ:List Value)(h:Shaped (rs.flatMap RK.kinds) vs):(qKG rs ρ.length).ev (ρ++vs) β=qEg rs vs:=by
 have:=rk_vals (β:=β) rs vs ρ [] h;rw[List.append_nil]at this;unfold qKG qEg
 match rs,this,h with
 |[],_,_=>rfl
 |[r],this,h=>
  cases r with
  |one k=>
   simp only[qDq,zG,List.map_nil,qGf,RK.val,RK.size,yE,and_true]at this;simp only[qDq];rw[this];cases vs<;>simp[RK.val]
  |agg f=>
   have z:vs.length=f.length:=by have:=h.length;simpa [RK.kinds]using this
   grind[qDq,qGf,RK.val,RK.size]
 |r::g::rs,this,_=>
  have h2:∃t u ts,qDq (r::g::rs) ρ.length=t::u::ts:=by cases r<;>cases g<;>exact⟨_,_,_,rfl⟩
  grind[T.ev,qAE]
theorem qFz{V:Mem}{w:World}(f:V.le w){b:Addr}{n:Nat}{vs:List Value}(h:V.row b n=some vs):vs.length=n/\∀j v,vs[j]?=some v->w.cell? (b.add j)=some v:=by
 unfold Mem.row at h;split at h
 ·rename_i c e fr t;split at h
  ·rename_i u;simp only[zF]at h;subst h;refine⟨by simp;omega,λj v x=>?_⟩;have z:b.spot=none:=by simpa using u.1
   have g:(b.add j)=⟨b.block,b.off+j,none⟩:=by
    cases b with
    |mk bl y i=>grind[qHl]
   rw[g];simp only[World.cell?,f _ _ t,Option.isSome_none,zN,if_false];grind
  ·simp at h
 ·simp at h
theorem qGI{w:World}{ρ:List Value}{β:Nat->Nat}{t:TypeId}{cs x:T}{off:Nat}{b:Addr}(f:∀j v,(cs.evs ρ β)[j]?=some v->w.cell? (b.add j)=some v)(h:qFQ P t cs off=some x):
  (loadVar t (b.add off)).run P w=.ok (x.ev ρ β) w:=by
 unfold qFQ at h;split at h
 ·rename_i n h1 h2;simp only at h;split at h
  ·rename_i u;simp only[zF]at h;subst h;have e:(takeT cs off n).map (·.ev ρ β)=((cs.evs ρ β).drop off).take n:=qLm cs off n;have g:(((cs.evs ρ β).drop off).take n).length=n:=by grind
   have:=run_loadCells_list (P:=P) w (b.add off) (((cs.evs ρ β).drop off).take n) (λj v z=>by
    grind[qIl])
   rw[g]at this;simp only[loadVar,zK,qCq h1,zL,if_true,qBq h2,this,zM,T.ev,qAE,e]
  ·simp at h
 ·rename_i n h1 h2;have e:(cs.evs ρ β)[off]?=some (x.ev ρ β):=by simp[qAP,h]
  simp_all[loadVar,zK,qCq,zL,zN,if_false,run_load]
 ·simp at h
end
def qCn(P:Program)(fs:List Nat):Prop:=∀f∈fs,∀args w,(callFunc f args).run P w=.ok (.enter f args) w
section
variable{P:Program}{R:Ending->Mem->Prop}{O V0:Mem}{w0:World}{N:Nat}{L:List (List Value->Mem->Prop)}{ρ0:List Value}{fs:List Nat}{H:qHO}
theorem qDp{f:FuncId}{args:Array Value}{w:World}{R g:Ending->World->Prop}(h:Calls P f args w R)(t:∀e w',R e w'->g e w'):Calls P f args w g:=λcs=>
 let⟨e,w',fr,u,rest⟩:=h cs
 ⟨e,w',fr,t _ _ u,rest⟩
theorem qDh{st:St}:∀{l:List Nat}{t:T},qFp st l=some t->∀s∈l,(l.zip t.toList).lookup s=st.get s
 |[],t,_,s,g=>by cases g
 |x::xs,t,h,s,g=>by
  simp only[qFp]at h;split at h
  ·rename_i f u h1 h2;simp only[zF]at h;subst h;simp only[T.toList,List.zip_cons_cons,zd];by_cases e:s=x;·subst e;simp[h1]
   ·have:(s==x)=false:=by simpa using e
    rw[this];exact qDh h2 s (by rcases yD.1 g with h|h;exact absurd h e;exact h)
  ·simp at h
theorem qED{st:St}:∀{l:List Nat}{t:T},qFp st l=some t->∀s∈l,∃x,st.get s=some x/\x∈t.toList
 |[],t,_,s,g=>by cases g
 |x::xs,t,h,s,g=>by
  simp only[qFp]at h;split at h
  ·rename_i u z h1 h2;simp only[zF]at h;subst h;rcases yD.1 g with rfl|g;·grind[T.toList]
   ·obtain⟨y,f,hm⟩:=qED h2 s g;exact⟨y,f,by simp[T.toList,hm]⟩
  ·simp at h
theorem qIL:∀{t:T}{x:T},t.firstBox=none->x∈t.toList->x.firstBox=none
 |.cons h t,x,f,g=>by
  simp only[T.firstBox,zD]at f;simp only[T.toList,yD]at g;rcases g with rfl|g;·exact f.1
  ·exact qIL f.2 g
 |.var _ _,x,_,g=>by simp[T.toList]at g
 |.int _ _,x,_,g=>by simp[T.toList]at g
 |.bool _,x,_,g=>by simp[T.toList]at g
 |.str _,x,_,g=>by simp[T.toList]at g
 |.und,x,_,g=>by simp[T.toList]at g
 |.nilp,x,_,g=>by simp[T.toList]at g
 |.nilsl,x,_,g=>by simp[T.toList]at g
 |.nilm,x,_,g=>by simp[T.toList]at g
 |.nilf,x,_,g=>by simp[T.toList]at g
 |.nili,x,_,g=>by simp[T.toList]at g
 |.box _ _,x,_,g=>by simp[T.toList]at g
 |.glob _,x,_,g=>by simp[T.toList]at g
 |.fn _ _,x,_,g=>by simp[T.toList]at g
 |.u _ _,x,_,g=>by simp[T.toList]at g
 |.b2 _ _ _,x,_,g=>by simp[T.toList]at g
 |.c3 _ _ _ _,x,_,g=>by simp[T.toList]at g
 |.nil,x,_,g=>by simp[T.toList]at g
 |.agg _,x,_,g=>by simp[T.toList]at g
 |.tup _,x,_,g=>by simp[T.toList]at g
theorem lookup_ev{ρ:List Value}:∀{l:List (Nat×T)}{s:Nat},(l.map λx=>(x.1,x.2.ev ρ id)).lookup s=(l.lookup s).map (·.ev ρ id)
 |[],_=>rfl
 |(n,t)::l,s=>by
  simp only[zG,zd];split;·rfl
  ·exact lookup_ev
theorem gval_eval{st:St}{β:Nat->Nat}{ρ:List Value}{V:Mem}{a:Act}{w:World}(j:Rel O V0 w0 N β st ρ V a.tmps w){l:List Operand}{t:T}(h:qFp st (qFU l)=some t)(i:t.firstBox=none):
  ∀x∈l,a.eval x=gval ((qFU l).zip t.toList) ρ x:=by
 intro x n;cases x with
 |tmp s=>
  have u:s∈qFU l:=List.mem_filterMap.2 ⟨_,n,rfl⟩;obtain⟨y,z,hm⟩:=qED h s u;have h1:=qDh h s u;simp only[gval,gv,lookup_ev,h1,z,zJ,Option.getD_some];rw[(T.ev_free (β:=id) (β':=β) (ρ:=ρ) y (qIL i hm)).1];exact j.slots s y z
 |const v=>rfl
 |global g=>rfl
 |func f=>rfl
theorem qJP{st:St}{β:Nat->Nat}{ρ:List Value}{V:Mem}{a:Act}{w:World}(h:Rel O V0 w0 N β st ρ V a.tmps w){o:Oper}(z:qCM o.op=false){t:T}(g:qFp st (qFU o.op.operands.toList)=some t)(f:t.firstBox=none):
  execOp a.eval o=execOp (gval ((qFU o.op.operands.toList).zip t.toList) ρ) { dst:=none,op:=o.op,type:=o.type,pos:= "",after:=#[],guard:=none}:=by
 have h1:=execOp_congr (ρ:=a.eval) (ρ':=gval ((qFU o.op.operands.toList).zip t.toList) ρ) o (λcs b e=>by grind[qCM])
  (λx u=>gval_eval h g f x (by simpa using u))
 rw[h1];rfl
variable{a:Act}{w:World}{st:St}{o:Oper}{k:St->Tr}{next:Act->World->Prop}{Q:Exit->Act->World->Prop}
def qKw(R:Ending->Mem->Prop)(V0:Mem)(w0:World)(ds:List Deferred)(Q:Exit->Act->World->Prop):Prop:=∀chain h w',h.defers=ds->(∃V',R (.panicked chain) V'/\Frm V0 w0 V' w')->Q (.panic chain) h w'
theorem exCall_sound(l:qCn P fs)(hQ:qKw R V0 w0 a.defers Q){c:Call}{f:Operand}(Y:o.op=.call c)(W:c.callee=.value f)(hd:qFR N o.dst=true)
  (h:qCW P R O V0 w0 N L ρ0 a.tmps w st (exCall P fs st o c f k))
  (hk:∀n A w',(∃v,A=a.put o.dst v)->qCW P R O V0 w0 N L ρ0 A.tmps w' n (k n)->next A w'):o.wp P a w next Q:=by
 obtain⟨β,ρ,V,Z,q,p⟩:=h;unfold exCall at p;split at p;·exact p.elim
 ·rename_i rs hrs;have after:∀(st:St)(β:Nat->Nat)(ρ:List Value)(V:Mem),Pre ρ0 L ρ st->Rel O V0 w0 N β st ρ V a.tmps w->st.wf=true->∀(g:FuncId)(args:Array Value),
    Tri P g args V (λe V'=>(∃vs,e=.returned (qEg rs vs)/\Shaped (rs.flatMap RK.kinds) vs/\D P R (k ((st.more (qJe rs)).putO o.dst (qKG rs st.nv))) L (ρ++vs) V')∨∃I,e=.panicked I/\R e V')->
    Calls P g args w fun
     |.returned v,b=>next (a.put o.dst v) b
     |.panicked chain,b=>Q (.panic chain) a b
     |.outgrown,_=>LetsOut Q:=by
   intro st β ρ V Z q hw g args ht;refine qDp (ht w q.frm.le) ?_;rintro e w' ⟨V',⟨vs,rfl,M,u⟩|⟨I,rfl,hR⟩,K⟩;rotate_left;·exact hQ I a w' rfl ⟨V',hR,(q.frame K).frm⟩
   refine hk _ _ _ ⟨_,rfl⟩ ⟨β,ρ++vs,V',(Z.more _ _).putO _ _,?_,u⟩;have hl:vs.length=qJe rs:=M.length;have h1:=(q.frame K).bind hw vs;rw[hl]at h1;exact h1.putO hd _ (by rw[<-q.nv];grind[rk_val])
  split at p
  ·rename_i g0 F X;obtain⟨n,t,m,j,z,y,V',B,i,u⟩:=qBb _ _ _ _ ⟨β,ρ,V,Z,q,p⟩;split at m
   ·rename_i g x ts d s;simp only[zF]at m;subst m;simp only at u;split at u
    ·rename_i r;unfold bind at u;split at u
     ·rename_i hw;simp only[D]at u;have S:a.eval f=.func (.func g) #[] (x.evs y z).toArray:=qAS i d;have U:c.args.map a.eval=(ts.map (·.ev y z)).toArray:=by apply zh;rw[zg,qJm i s]
      have C:=(T.ev_free (β:=id) (β':=z) (ρ:=y) (T.ofList (ts++x.toList)) (by grind[T.firstBox])).2;have E:(T.evs y id (T.ofList (ts++x.toList))).toArray=(ts.map (·.ev y z)).toArray++(x.evs y z).toArray:=by
       grind[qAE,qAP]
      have J:(execOp a.eval o).run P w=.ok (.enter g ((ts.map (·.ev y z)).toArray++(x.evs y z).toArray)) w:=by
       unfold execOp;simp only[Y,resolve,W,S,U,yF,zK,zM,zL,invoke];rw[l g (List.contains_iff_mem.1 r)];simp
      grind[yG,Oper.upon]
     ·exact u.elim
    ·exact u.elim
   ·simp at m
  ·rename_i t0 X _;obtain⟨n,t,m,j,z,y,V',B,i,u⟩:=qBb _ _ _ _ ⟨β,ρ,V,Z,q,p⟩;split at m
   ·rename_i t1 ts d s;simp only[zF]at m;subst m;simp only at u;unfold bind at u;split at u
    ·rename_i hw;simp only[D]at u;obtain⟨g,first,x,G,r,u⟩:=u;simp only[T.firstBox,zD]at j;rw[(T.ev_free (β:=id) (β':=z) (ρ:=y) t1 j.1).1]at G;have S:a.eval f=.func (.func g) first x:=(qAS i d).trans G
     have U:c.args.map a.eval=(ts.map (·.ev y z)).toArray:=by apply zh;rw[zg,qJm i s]
     have C:=(T.ev_free (β:=id) (β':=z) (ρ:=y) (T.ofList ts) j.2).2;have J:(execOp a.eval o).run P w=.ok (.enter g (first++(ts.map (·.ev y z)).toArray++x)) w:=by
      grind[execOp,resolve,yF,invoke]
     grind[yG,Oper.upon,qAE]
    ·exact u.elim
   ·simp at m
  ·exact p.elim
end
section
variable{P:Program}{R:Ending->Mem->Prop}{O V0:Mem}{w0:World}{N:Nat}{L:List (List Value->Mem->Prop)}{ρ0:List Value}{fs:List Nat}{H:qHO}
variable{a:Act}{w:World}{st:St}{o:Oper}{k:St->Tr}{next:Act->World->Prop}{Q:Exit->Act->World->Prop}
theorem qIv{v:Value}{w':World}(h:(execOp a.eval o).run P w=.ok (.value v) w')(g:next (a.put o.dst v) w'):o.wp P a w next Q:=by
 unfold yG;rw[h];exact g
theorem qLi{w':World}(h:(execOp a.eval o).run P w=.ok .skip w')(g:next (a.put o.dst undef) w'):o.wp P a w next Q:=by
 unfold yG;rw[h];exact g
theorem qBm(a:Act)(d:Option Nat)(v:Value):(a.put d v).defers=a.defers:=by cases d<;>rfl
theorem qJQ(c:qFR N o.dst=true)
  (h:qCW P R O V0 w0 N L ρ0 a.tmps w st (exGen P st o k))
  (b:∀y q w',(∃v,q=a.put o.dst v)->qCW P R O V0 w0 N L ρ0 q.tmps w' y (k y)->next q w'):o.wp P a w next Q:=by
 obtain⟨β,ρ,V,e,d,j⟩:=h;unfold exGen at j;simp only at j;split at j;·exact j.elim
 ·rename_i r;have z:qCM o.op=false:=by simpa using r
  split at j
  ·obtain⟨y,t,p,u,i,l,V',n,g,f⟩:=qBb _ _ _ _ ⟨β,ρ,V,e,d,j⟩;simp only[D]at f;obtain⟨w',m,h1,h2,h3⟩:=f w g.frm.le;rw[<-qJP g z p u]at h1;refine qLi h1 (b _ _ _ ⟨_,rfl⟩ ⟨i,l,m,n.putO _ _,?_,h3⟩);exact(g.frame h2).putO c .und rfl
  ·split at j;·exact j.elim
   ·rename_i rs J;obtain⟨y,t,p,u,i,l,V',n,g,f⟩:=qBb _ _ _ _ ⟨β,ρ,V,e,d,j⟩;unfold bind at f;split at f
    ·rename_i hw;simp only[D]at f;obtain⟨x,w',m,vs,h1,h2,rfl,h3,h4⟩:=f w g.frm.le;rw[<-qJP g z p u]at h1;refine qIv h1 (b _ _ _ ⟨_,rfl⟩ ⟨i,l++vs,m,(n.more _ _).putO _ _,?_,h4⟩);have G:vs.length=qJe rs:=h3.length;have s:=(g.frame h2).bind hw vs;rw[G]at s;exact s.putO c _ (by rw[<-g.nv];grind[rk_val])
    ·exact f.elim
theorem qGF{p b i:T}{sz off:Nat}{e:Option Nat}{ρ:List Value}{β:Nat->Nat}(h:qIW p=(b,i,sz,off,e))(g:p.kind=some .p):
  match e with
  |some _=>asP (p.ev ρ β)=qAa (qAa (asP (b.ev ρ β)) ((asI (i.ev ρ β)).toNat*sz)) off
  |none=>asP (p.ev ρ β)=qAa (asP (b.ev ρ β)) ((asI (i.ev ρ β)).toNat*sz):=by
 unfold qIW at h;split at h;·grind[T.ev,U.ev,B.ev,asP]
 ·cases h;simp only[T.ev,B.ev,asP,qKL,Nat.add_zero]
 ·grind[T.ev,U.ev,asP,asI]
 ·cases h;simp_all[T.ev,asI,Int.toNat_zero,Nat.zero_mul,asP,qAa,yH]
theorem exLoad_sound{t:TypeId}{x:Operand}(hop:o.op=.load t x)(hd:qFR N o.dst=true)
  (h:qCW P R O V0 w0 N L ρ0 a.tmps w st (qKZ P st o.dst t x k))
  (hk:∀l W w',(∃v,W=a.put o.dst v)->qCW P R O V0 w0 N L ρ0 W.tmps w' l (k l)->next W w'):o.wp P a w next Q:=by
 obtain⟨β,ρ,V,hp,hr,E⟩:=h;unfold qKZ at E;obtain⟨l,p,hg,A,f,u,V',I,n,g⟩:=qBb _ _ _ _ ⟨β,ρ,V,hp,hr,E⟩;have hx:a.eval x=p.ev u f:=qAS n hg;have J:∀{b i sz y e},qIW p=(b,i,sz,y,e)->b.firstBox=none/\i.firstBox=none:=by
  intro b i sz y e d;unfold qIW at d;grind[T.firstBox]
 have go:∀(q:Addr)(r:List K)(vs:List Value)(y:Nat)(z:T),asP (p.ev u f)=some (q.add y)->p.kind=some .p->Shaped r vs->l.wf=true->
   (∀j v,vs[j]?=some v->w.cell? (q.add j)=some v)->qFQ P t (T.ofList (vars r l.nv)) y=some z->D P R (k ((l.more r.length).putO o.dst z)) L (u++vs) V'->o.wp P a w next Q:=by
  intro q r vs y z c m G hw hc Y M;have hl:vs.length=r.length:=G.length;have Z:=n.bind hw vs;rw[hl]at Z;have hev:(T.ofList (vars r l.nv)).evs (u++vs) f=vs:=by
   rw[qAE,<-n.nv];have:=qHr (β:=f) r vs u [] G;simp_all
  have S:=qGI (P:=P) (w:=w) (ρ:=u++vs) (β:=f) (b:=q) (by grind) Y;obtain⟨p',F⟩:=qJA (ρ:=u) (β:=f) m;rw[F]at c;simp only[asP]at c;subst c;refine qIv (v:=z.ev (u++vs) f) ?_ (hk _ _ _ ⟨_,rfl⟩ ⟨f,u++vs,V',(I.more _ _).putO _ _,Z.putO hd z rfl,M⟩);grind[execOp,Instr.loadAt,zi,zK,zM,zL]
 split at g;case isFalse=>exact g.elim
 rename_i m;split at g
 ·rename_i b i sz y e d;obtain⟨X,B⟩:=J d;split at g
  ·rename_i r C;split at g
   ·rename_i U;unfold bind at g;split at g
    ·rename_i hw;split at g
     ·rename_i z Y;simp only[D]at g;obtain⟨vs,h1,h2,h3⟩:=g;have s:=qGF (ρ:=u) (β:=f) d m;simp only at s;rw[(T.ev_free (β:=id) (β':=f) (ρ:=u) b X).1,(T.ev_free (β:=id) (β':=f) (ρ:=u) i B).1]at h1;cases c:asP (b.ev u f)with
      |none=>simp[c,Mem.rowp]at h1
      |some q=>
       simp only[c,Mem.rowp]at h1;obtain⟨_,h4⟩:=qFz n.frm.le h1;grind[qAa]
     ·exact g.elim
    ·exact g.elim
   ·exact g.elim
  ·exact g.elim
 ·rename_i b i sz y d;obtain⟨X,B⟩:=J d;split at g
  ·rename_i r C;unfold bind at g;split at g
   ·rename_i hw;split at g
    ·rename_i z Y;simp only[D]at g;obtain⟨vs,h1,h2,h3⟩:=g;have s:=qGF (ρ:=u) (β:=f) d m;simp only at s;rw[(T.ev_free (β:=id) (β':=f) (ρ:=u) b X).1,(T.ev_free (β:=id) (β':=f) (ρ:=u) i B).1]at h1;cases c:asP (b.ev u f)with
     |none=>simp[c,Mem.rowp]at h1
     |some q=>
      simp only[c,Mem.rowp]at h1;obtain⟨_,h4⟩:=qFz n.frm.le h1;rw[c]at s;simp only[qAa,zJ]at s;exact go _ r vs 0 z (by rw[s,yH]) m h2 hw h4 Y h3
    ·exact g.elim
   ·exact g.elim
  ·exact g.elim
end
section
variable{P:Program}{R:Ending->Mem->Prop}{O V0:Mem}{w0:World}{N:Nat}{L:List (List Value->Mem->Prop)}{ρ0:List Value}{fs:List Nat}{H:qHO}
variable{a:Act}{w:World}{st:St}{o:Oper}{k:St->Tr}{next:Act->World->Prop}{Q:Exit->Act->World->Prop}
theorem qFb{t:TypeId}{n g off:Nat}{v:Value}{vs:List Value}{h:Array Value}{ty:TypeId}(z:qBp P t=some n)(hv:v.cells.toList=vs)(y:vs.length=n)
  (f:w.heap[g]?=some (.cells h ty (0,0))) (j:off+n<=h.size) (h1:∀x∈vs,qFg x=true):
  (storeVar t ⟨g,off,none⟩ v).run P w=.ok () (w.setRow g (h.toList.take off++vs++h.toList.drop (off+n)).toArray):=by
 have u:v.cells.size=n:=by grind
 have:=run_storeCells_at (P:=P) g off ty vs 0 h w f (by omega) (λx i=>by grind[oneCell_eq]);simp_all[storeVar,zK,qBq,zL,ne_eq,not_true_eq_false,if_false]
theorem kinds_one{t:T}{ρ:List Value}{β:Nat->Nat}(h:(qCw t).isSome=true):∀x∈t.evs ρ β,qFg x=true:=by
 obtain⟨g,f⟩:=yB.1 h;exact(qHV (ρ:=ρ) (β:=β) t g f).one
theorem qMa{t:TypeId}{x y:Operand}(hop:o.op=.store t x y)(Z:o.dst=none)
  (h:qCW P R O V0 w0 N L ρ0 a.tmps w st (exStore st t (qBp P t) x y k))
  (hk:∀G X w',(∃v,X=a.put o.dst v)->qCW P R O V0 w0 N L ρ0 X.tmps w' G (k G)->next X w'):o.wp P a w next Q:=by
 obtain⟨β,ρ,V,hp,Y,s⟩:=h;have J:∀v,(a.put o.dst v)=a:=by rw[Z];intro v;rfl
 unfold exStore at s;split at s
 ·rename_i i u v n B C E;split at s
  ·rename_i cs ty A;split at s
   ·rename_i K;obtain⟨h1,h2,h3,h4⟩:=K;have S:=(Y.boxes i cs ty A).1;have e1:a.eval x=.pointer (some ⟨β i,u,none⟩):=qAS Y B;have e2:a.eval y=v.ev ρ β:=qAS Y C;have f:=qHe (ρ:=ρ) (β:=β) h3;have l:(v.cellsT.evs ρ β).length=n:=by grind[qAP]
    have m:=qFb (P:=P) E f l S (by rw[zu,qAP];simpa using h2) (kinds_one h3);have e3:((cs.evs ρ β).toArray.toList.take u++v.cellsT.evs ρ β++(cs.evs ρ β).toArray.toList.drop (u+n))=(T.ofList (cs.toList.take u++v.cellsT.toList++cs.toList.drop (u+n))).evs ρ β:=by
     rw[qAE];simp[qAP,List.map_take,List.map_drop]
    rw[e3]at m;refine qLi (w':=w.setRow (β i) ((T.ofList (cs.toList.take u++v.cellsT.toList++cs.toList.drop (u+n))).evs ρ β).toArray) ?_ (hk _ _ _ ⟨_,rfl⟩ ⟨β,ρ,V,hp.setBox _ _ _,?_,s⟩);·grind[execOp,yI,zi,zK,zM,zL]
    ·rw[J];exact Y.setBox A
   ·exact s.elim
  ·exact s.elim
 ·rename_i n _ _ _ E;obtain⟨G,q,I,j,g,z,V',U,r,d⟩:=qBb _ _ _ _ ⟨β,ρ,V,hp,Y,s⟩;split at I
  ·rename_i p v B C;simp only[zF]at I;subst I;simp only at d;split at d
   ·rename_i K;obtain⟨h1,h2,h3,h4⟩:=K;simp only[T.firstBox,zD]at j;simp only[D]at d;obtain⟨b,c,ty,M,g2,g3,g4,g5⟩:=d;rw[(T.ev_free (β:=id) (β':=g) (ρ:=z) p j.1).1]at M;rw[(T.ev_free (β:=id) (β':=g) (ρ:=z) _ j.2).2]at g4 g5;obtain⟨p',W⟩:=qJA (ρ:=z) (β:=g) h1;rw[W]at M;simp only[asP]at M;subst M;have e1:a.eval x=.pointer (some b):=(qAS r B).trans W;have e2:a.eval y=v.ev z g:=qAS r C;have f:=qHe (ρ:=z) (β:=g) h3;have l:(v.cellsT.evs z g).length=n:=by grind[qAP]
    have A:b=⟨b.block,b.off,none⟩:=by cases b;simp_all
    have S:=r.frm.le _ _ g2;simp only[Nat.add_zero,l]at g4 g5;have m:=qFb (P:=P) (off:=b.off) E f l S g4 (kinds_one h3);rw[<-A]at m;refine qLi (w':=w.setRow b.block (c.toList.take b.off++v.cellsT.evs z g++c.toList.drop (b.off+n)).toArray) ?_ (hk _ _ _ ⟨_,rfl⟩ ⟨g,z,_,U,?_,g5⟩);·grind[execOp,yI,zi,zK,zM,zL]
    ·rw[J];refine r.frame ⟨by rw[qIZ];omega,λi obj F=>?_,λi F hV=>?_,λi F=>?_,rfl,rfl⟩
     ·by_cases e:i=b.block;·grind[Mem.set_same,setRow_heap]
      ·rw[Zm e]at F;rw[setRow_other w _ _ e];exact r.frm.le i obj F
     ·grind[setRow_other]
     grind[Zm]
   ·exact d.elim
  ·simp at I
 ·exact s.elim
theorem qEI{cs:T}{ty:Nat}{v:Nat->T}{x:Nat->Value}(m:qFR N o.dst=true)
  {β:Nat->Nat} {ρ:List Value} {V:Mem} (l:Pre ρ0 L ρ st) (r:Rel O V0 w0 N β st ρ V a.tmps w) (g:D P R (qHK H st o.dst cs ty v k) L ρ V)
  (z:(execOp a.eval o).run P w=.ok (.value (x w.heap.size)) (w.alloc (.cells (cs.evs ρ β).toArray ty (0,0))))
  (hv:∀y:Nat->Nat,(v st.nb).ev ρ y=x (y st.nb))
  (n:∀f j w',(∃v,j=a.put o.dst v)->qCW P R O V0 w0 N L ρ0 j.tmps w' f (k f)->next j w'):o.wp P a w next Q:=by
 unfold qHK at g;split at g
 ·rename_i hw;simp only[zC]at hw;have i:=r.alloc hw.1 hw.2 ty;have q:x w.heap.size=(v st.nb).ev ρ (upd β st.nb w.heap.size):=by rw[hv];simp[upd]
  have t:Pre ρ0 L ρ (({st with boxes:=(st.nb,cs,ty)::st.boxes,nb:=st.nb+1}:St).putO o.dst (v st.nb)):=
   Pre.putO (st:={st with boxes:=(st.nb,cs,ty)::st.boxes,nb:=st.nb+1}) ⟨l.1,l.2⟩ _ _
  have u:=i.putO m (v st.nb) q;refine qIv z ?_;simp only at g;split at g
  ·rename_i d h;split at g
   ·obtain⟨f,p⟩:=qCQ _ _ _ _ ⟨_,_,_,t,u,by simpa [h]using g⟩;grind
   ·exact n _ _ _ ⟨_,rfl⟩ ⟨_,_,_,t,u,by omega⟩
  ·rename_i h;exact n _ _ _ ⟨_,rfl⟩ ⟨_,_,_,t,u,by omega⟩
 ·exact g.elim
theorem qDD{t:TypeId}{cs:List T}{ρ:List Value}{β:Nat->Nat}(h:qBY P t=some cs):∃z,qGw P t=some z/\z.cells.toList=cs.map (·.ev ρ β):=by
 unfold qBY at h;cases g:qGw P t with
 |none=>simp[g]at h
 |some z=>simp only[g,zt]at h;exact⟨z,rfl,(qGH h).symm⟩
theorem mod_cells(zs:List Value)(m:Nat)(h:zs.length=m+1):∀n,(Array.range (n*(m+1))).map (λi=>(zs.toArray[i % zs.toArray.size]!))=(yJ n zs).flatten.toArray:=by
 intro n;apply zh;simp only[zg,Array.toList_range,zu,h];apply zx;intro i;rw[List.getElem?_map];induction n generalizing i with
 |zero=>simp
 |succ n g=>
  by_cases t:i<n*(m+1)
  ·have h1:=g i;have e:(yJ (n+1) zs).flatten=(yJ n zs).flatten++zs:=by
    rw[show n+1=n+1 from rfl,yK,yL];simp
   grind
  ·have e:(yJ (n+1) zs).flatten=(yJ n zs).flatten++zs:=by
    rw[show n+1=n+1 from rfl,yK,yL];simp
   have f:((yJ n zs).flatten).length=n*(m+1):=by simp[h]
   rw[e,List.getElem?_append_right (by omega),f];by_cases h2:i<(n+1)*(m+1)
   ·have h3:i-n*(m+1)<m+1:=by grind
    have h4:i % (m+1)=i-n*(m+1):=by
     have:i=(i-n*(m+1))+n*(m+1):=by omega
     rw[this,Nat.add_mul_mod_self_right,Nat.mod_eq_of_lt h3];omega
    simp_all
   grind
end
section
variable{P:Program}{R:Ending->Mem->Prop}{O V0:Mem}{w0:World}{N:Nat}{L:List (List Value->Mem->Prop)}{ρ0:List Value}{fs:List Nat}{H:qHO}
theorem qMb{a:Act}{w:World}{st:St}{o:Oper}{x:Operand}{next:Act->World->Prop}{Q:Exit->Act->World->Prop}(i:qKw R V0 w0 a.defers Q)(u:o.op=.panic x)
  (h:qCW P R O V0 w0 N L ρ0 a.tmps w st (exPanic st x)):o.wp P a w next Q:=by
 obtain⟨st2,t,l,g,β,ρ,V,r,z,y⟩:=qBb _ _ _ _ h;simp only[D]at y;obtain⟨ty,v,j,n⟩:=y;rw[(T.ev_free (β:=id) (β':=β) (ρ:=ρ) t g).1]at j;have m:a.eval x=.iface ty v:=(qAS z l).trans j;have f:(execOp a.eval o).run P w=.halt (.panic (.iface ty v)) w:=by
  unfold execOp;simp only[u,m];rfl
 unfold yG;rw[f];exact i _ a w rfl ⟨V,n,z.frm⟩
theorem qKY(r:qCn P fs){a:Act}{w:World}{st:St}{o:Oper}{k:St->Tr}{next:Act->World->Prop}{Q:Exit->Act->World->Prop}(C:qKw R V0 w0 a.defers Q)
  (h:qCW P R O V0 w0 H.N L ρ0 a.tmps w st (exOp P fs H st o k))
  (q:∀s W w',(∃v,W=a.put o.dst v)->qCW P R O V0 w0 H.N L ρ0 W.tmps w' s (k s)->next W w'):o.wp P a w next Q:=by
 obtain⟨β,ρ,V,m,l,g⟩:=h;unfold exOp at g;split at g;case isFalse=>exact g.elim
 rename_i d;split at g
 ·rename_i ns t A;obtain⟨h1,h2⟩:=qGi g β;exact qIv (qJh l A h1) (q _ _ _ ⟨_,rfl⟩ ⟨β,ρ,V,m.putO _ _,l.putO d t rfl,h2⟩)
 ·split at g
  ·rename_i e x u;split at g
   ·rename_i v E;split at g
    ·rename_i I;have p:=qHe (ρ:=ρ) (β:=β) I;refine qEI (x:=λb=>.pointer (some ⟨b,0,none⟩)) d m l g ?_ (λ_=>rfl) q;unfold execOp;simp only[u,Instr.box,newVar,newRow,zK,run_newObj,zM,zL,qAS l E,<-p,yM];rfl
    ·exact g.elim
   ·exact g.elim
  ·rename_i e u;split at g
   ·rename_i cs M;obtain⟨z,h1,h2⟩:=qDD (ρ:=ρ) (β:=β) M;refine qEI (x:=λb=>.pointer (some ⟨b,0,none⟩)) d m l g ?_ (λ_=>rfl) q;unfold execOp;simp only[u,Instr.alloc,qHu h1,newVar,newRow,zK,run_newObj,zM,zL,qAE,<-h2,yM];rfl
   ·exact g.elim
  ·rename_i t n parts u;split at g
   ·rename_i e hu;split at g
    ·rename_i sz z ps D M F;split at g
     ·rename_i cs K;split at g
      ·rename_i S;obtain⟨T,h1,h2⟩:=qDD (ρ:=ρ) (β:=β) M;have h3:=qLX (ρ:=ρ) (β:=β) K;refine qEI (x:=λb=>.slice (some ⟨b,0,none⟩) n n) d m l g ?_ (λU=>by rfl) q;have J:(parts.map λ(i,x)=>(i,a.eval x)).toList=ps.map (λx=>(x.1,x.2.ev ρ β)):=by rw[<-qJj l F,zg]
       unfold execOp;have j:¬n*(sz+1)>2^24:=by omega
       have X:T.cells=(z.map (·.ev ρ β)).toArray:=by grind
       have G:(yJ n z).flatten.map (·.ev ρ β)=(yJ n (z.map (·.ev ρ β))).flatten:=by simp_all
       rw[G]at h3;have Z:=mod_cells (z.map (·.ev ρ β)) sz (by simpa using S.2) n;by_cases h0:n*(sz+1)=0
       ·obtain rfl:n=0:=by grind
        simp only[List.replicate_zero,List.flatten_nil]at h3;have e0:Array.range (0*(sz+1))=#[]:=by simp
        simp only[u,yN,run_underlying hu,qBq D,zK,zL,J,if_neg j,if_pos h0,zM,e0,Array.map_empty,h3];simp[qAE,newRow]
       ·simp only[u,yN,run_underlying hu,qBq D,zK,zL,J,if_neg j,if_neg h0,qHu h1,zM,X,Z,h3];simp[qAE,newRow]
      ·exact g.elim
     ·exact g.elim
    ·exact g.elim
   ·exact g.elim
  ·rename_i t x u;exact exLoad_sound u d ⟨β,ρ,V,m,l,g⟩ q
  ·rename_i t x y u;split at g
   ·rename_i Y;exact qMa u Y ⟨β,ρ,V,m,l,g⟩ q
   ·exact g.elim
  ·rename_i c u;split at g
   ·rename_i f B;exact exCall_sound r C u B d ⟨β,ρ,V,m,l,g⟩ q
   ·exact qJQ d ⟨β,ρ,V,m,l,g⟩ q
   ·exact g.elim
  ·rename_i x u;exact qMb C u ⟨β,ρ,V,m,l,g⟩
  ·exact qJQ d ⟨β,ρ,V,m,l,g⟩ q
theorem Rel.getD_size{O V0:Mem}{w0:World}{N:Nat}{β:Nat->Nat}{st:St}{ρ:List Value}{V:Mem}{tmps:Array Value}{w:World}(h:Rel O V0 w0 N β st ρ V tmps w){d:Nat}{t:T}(g:st.get d=some t):
  tmps.getD d undef=t.ev ρ β:=h.slots d t g
theorem qHq{all:Array Oper}{tmps:Array Value}{j d:Nat}(g:(all[j]?).bind (·.dst)=some d):yielded all tmps j=match tmps.getD d undef with|.bool b=>some b|_=>none:=by
 unfold yielded;rw[g];by_cases h:d<tmps.size
 ·simp only[zt,z6,h,dif_pos,getElem?_pos];show _=match tmps[d]with|.bool b=>some b|_=>none
  grind
 ·simp only[zt,z6,h,dif_neg,not_false_eq_true];rw[getElem?_neg tmps d h];rfl
theorem qDw(f:qCn P fs){all:Array Oper}{k:St->Tr}{Q:Exit->Act->World->Prop}:∀(l:List Oper)(st:St)(a:Act)(w:World),
  qKw R V0 w0 a.defers Q->qCW P R O V0 w0 H.N L ρ0 a.tmps w st (qMc P fs H all l st k)->
  (∀i q w',q.defers=a.defers->qCW P R O V0 w0 H.N L ρ0 q.tmps w' i (k i)->Q .normal q w')->wpList P all Q l a w
 |[],st,a,w,_,⟨β,ρ,V,z,y,t⟩,Y=>Y _ a w rfl ⟨β,ρ,V,z.compact _,y.compact _,t⟩
 |o::rest,st,a,w,A,h,Y=>by
  have n:∀st,yO o (yielded all a.tmps)=true->qCW P R O V0 w0 H.N L ρ0 a.tmps w st (exOp P fs H st o λst=>qMc P fs H all rest st k)->wpList P all Q (o::rest) a w:=by
   intro st hw s;unfold wpList;rw[if_pos hw];refine .inl (qKY f A s λi q w' I M=>?_);have J:q.defers=a.defers:=by obtain⟨v,rfl⟩:=I;exact qBm _ _ _
   exact qDw f rest i q w' (by rw[J];exact A) M λx m r h1 h2=>Y x m r (h1.trans J) h2
  have no:∀st,yO o (yielded all a.tmps)=false->qCW P R O V0 w0 H.N L ρ0 a.tmps w st (if qFR H.N o.dst then qMc P fs H all rest (st.putO o.dst .und) k else .bad 35 0)->wpList P all Q (o::rest) a w:=by
   intro st hw s;unfold wpList;rw[if_neg (by rw[hw];simp)];obtain⟨β,ρ,V,z,y,t⟩:=s;split at t
   ·rename_i C;refine qDw f rest _ _ w (by rw[qBm];exact A) ⟨β,ρ,V,z.putO _ _,y.putO C .und rfl,t⟩ λx m r h1 h2=>Y x m r (h1.trans (qBm _ _ _)) h2
   ·exact t.elim
  simp only[qMc]at h;split at h;·grind[yO]
  ·rename_i j G s;split at h;·obtain⟨β,ρ,V,z,y,t⟩:=h;exact t.elim
   ·rename_i d E;have p:=qHq (tmps:=a.tmps) E;have F:yO o (yielded all a.tmps)=(yielded all a.tmps j==some G):=by simp[yO,s]
    obtain⟨β,ρ,V,z,y,t⟩:=h;split at t
    ·rename_i v hv;rw[y.getD_size hv]at p;simp only[T.ev]at p;split at t;·rename_i e;subst e;exact n st (by simp_all) ⟨β,ρ,V,z,y,t⟩
     ·rename_i e;exact no st (by simp_all) ⟨β,ρ,V,z,y,t⟩
    ·rename_i hv;rw[y.getD_size hv]at p;have:yielded all a.tmps j=none:=by rw[p];rfl
     exact no st (by grind) ⟨β,ρ,V,z,y,t⟩
    ·rename_i c _ _ hv;split at t
     ·rename_i K;obtain⟨X,B,S⟩:=K;obtain⟨b,W⟩:=qGV (ρ:=ρ) (β:=β) X;rw[y.getD_size hv,W]at p;simp only at p;simp only[D]at t;have Z:=(T.ev_free (β:=id) (β':=β) (ρ:=ρ) c B).1;have g:Rel O V0 w0 H.N β (st.now d (.bool b)) ρ V a.tmps w:=y.now hv (by rw[W];rfl);cases b with
      |true=>
       have u:=t.1 (by rw[Z,W];rfl);split at u;·rename_i e;exact n _ (by simp_all) ⟨β,ρ,V,z.now _ _,g,u⟩
       ·rename_i e;exact no _ (by simp_all) ⟨β,ρ,V,z.now _ _,g,u⟩
      |false=>
       have u:=t.2 (by rw[Z,W];rfl);split at u;·rename_i e;exact no _ (by simp_all) ⟨β,ρ,V,z.now _ _,g,u⟩
       ·rename_i e;exact n _ (by simp_all) ⟨β,ρ,V,z.now _ _,g,u⟩
     ·exact t.elim
    ·exact t.elim
end
end Go.Sx
