/- Part 2: no statement of the seat is proved here. -/
import Derived.Test.YtcebnmieadkjfaaGreatDoorPg01
import Derived.MapKept
set_option linter.unusedVariables false
set_option linter.unusedSimpArgs false
open List renaming length_cons->zy,ext_getElem?->zx,length_append->zw,map_cons->zG,size_toArray->zu,mem_singleton->zO,lookup_cons->zc,mem_cons_self->zb,mem_cons_of_mem->za,all_eq_true->z6,filter_cons->z8,prefix_append->yC,mem_cons->yD,append_assoc->zH,cons_append->zI,replicate->yJ,replicate_succ'->yK,flatten_append->yL
open Option.some renaming injEq->zF
open Bool renaming and_eq_true->zC,false_eq_true->zN
open Go.Instr renaming build->zt,indexAt->zq,sliceAt->zp,slice->zn,sliceBounds->zm,sliceBound->zl,sureAddr->zh,storeAt->yI,buildSlice->yN
open Option renaming bind_some->zr,map_some->zJ,map_eq_some_iff->zi,map_none->ze,isSome_iff_exists->yB,or_eq_none_iff->zD
open Go.Sem renaming run_bind->zK,run_pure->zM
open Go.Result renaming andThen_ok->zL
open Int renaming eq_ofNat_of_zero_le->zo,natCast_inj->zj
open Go.Value.int renaming injEq->zk
open Go.Op renaming equalIn->zX
open Prod.mk renaming injEq->zS
open Array renaming ext'->zg,toList_map->zf,getD->z7,getElem?_eq_some_iff->yA,toArray_toList->yM
open Go.Builtin renaming len_->zd
open Go.Value renaming pointer->zY
open List.cons renaming injEq->yE
open Go.Deferred renaming ofValue->yF
open Go.Oper renaming wp->yG
open Go.Addr renaming add_zero'->yH
open Go.Region renaming wanted->yO
namespace Go.Sx
open Go
section
variable{P:Program}{O V0:Mem}{w0:World}{N:Nat}{β:Nat->Nat}{st:St}{ρ:List Value}{V:Mem}{a:Act}{w:World}
theorem Io{t:T}(h:(CY t.cellsT).isSome=true):(t.ev ρ β).cells.toList=t.cellsT.evs ρ β:=by
 have key:∀s:T,s.cellsT=.cons s .nil->(CY s.cellsT).isSome=true->(s.ev ρ β).cells.toList=s.cellsT.evs ρ β:=by
  intro s z g;rw[z]at g⊢;simp only[CY]at g;cases f:s.kind with
  |none=>simp[f]at g
  |some k=>
   have u:=K.ok_one (T.kind_ok (ρ:=ρ) (β:=β) s k f);simp only[T.evs];generalize s.ev ρ β=v at u⊢;cases v<;>first|rfl|simp[FG]at u
 cases t with
 |agg cs=>rfl
 |_=>exact key _ rfl h
theorem foldl_set:∀(vs:List Value)(k off:Nat)(cs:List Value),off+k+vs.length<=cs.length->
  (vs.zipIdx k).foldl (λcs (x:Value×Nat)=>cs.setIfInBounds (off+x.2) x.1) cs.toArray=(cs.take (off+k)++vs++cs.drop (off+k+vs.length)).toArray
 |[],k,off,cs,_=>by simp
 |v::vs,k,off,cs,h=>by
  simp only[zy]at h;have g:=foldl_set vs (k+1) off (cs.set (off+k) v) (by simp;omega);simp only[List.zipIdx_cons,List.foldl_cons,List.setIfInBounds_toArray];rw[g];congr 1;apply zx;intro j;simp only[List.getElem?_append,zw,List.length_take,List.length_set,List.getElem?_take,List.getElem?_drop,List.getElem?_set,zy];grind
theorem Ip{g:Nat->Option (Nat×Nat)}:∀{ps:List (Nat×T)}{cells cs:List T},Fm g cells ps=some cs->
  Instr.fill g (cells.map (·.ev ρ β)).toArray (ps.map λx=>(x.1,x.2.ev ρ β))=some (cs.map (·.ev ρ β)).toArray
 |[],cells,cs,h=>by simp only[Fm,zF]at h;subst h;rfl
 |(i,t)::ps,cells,cs,h=>by
  simp only[Fm]at h;split at h;·simp at h
  ·rename_i f size y;split at h
   ·rename_i j;obtain⟨m,r,l⟩:=j;have q:=Ip h;have u:=Io (ρ:=ρ) (β:=β) l;have n:((t.ev ρ β).cells.toList).length=size:=by grind[C9]
    have z:(t.ev ρ β).cells.size=size:=by simpa using n
    simp only[zG,Instr.fill,y,z,ne_eq,not_true_eq_false,zu,List.length_map,decide_false,Bool.false_or,gt_iff_lt,decide_eq_true_eq];rw[if_neg (by omega)];have p:(t.ev ρ β).cells.zipIdx.foldl (λcs (x:Value×Nat)=>cs.setIfInBounds (f+x.2) x.1) (cells.map (·.ev ρ β)).toArray=
      ((cells.take f++t.cellsT.toList++cells.drop (f+size)).map (·.ev ρ β)).toArray:=by
     rw[<-Array.foldl_toList,Array.toList_zipIdx,foldl_set _ 0 f _ (by simp_all)];grind[C9,List.map_take,List.map_drop]
    simp_all
   ·simp at h
theorem Iq(h:Rel O V0 w0 N β st ρ V a.tmps w):∀{l:List (Nat×Operand)}{ps:List (Nat×T)},partsT st l=some ps->l.map (λx=>(x.1,a.eval x.2))=ps.map λx=>(x.1,x.2.ev ρ β)
 |[],ps,g=>by grind[partsT]
 |(i,o)::l,ps,g=>by
  simp only[partsT]at g;split at g
  ·rename_i t f u z;simp only[zF]at g;subst g;simp only[zG,A3 h u,Iq h z]
  ·simp at g
theorem places_eq(fs:List Field)(h:fs.all (λf=>(Cs P f.type).isSome)=true):∃g:List (Nat×Nat),fs.mapM (λ(f:Field)=>(P.info? f.type).map λi=>(f.offset,i.size))=some g/\
  ∀i:Nat,g[i]?=(fs[i]?).bind λ(f:Field)=>(Cs P f.type).map λs=>(f.offset,s):=by
 induction fs with
 |nil=>simp_all
 |cons f fs u=>
  simp only[List.all_cons,zC]at h;obtain⟨z,x,j⟩:=u h.2;cases y:P.info? f.type with
  |none=>simp[Cs,y]at h
  |some t=>
   refine⟨(f.offset,t.size)::z,by simp_all,λi=>?_⟩;grind[Cs]
theorem run_buildT{t:TypeId}{fs:Array Field}{z cs:List T}{parts:Array (Nat×Operand)}{ps:List (Nat×T)}(y:Rel O V0 w0 N β st ρ V a.tmps w)(hu:P.underlying t=some (.struct fs))
  (g:Et P t=some z) (j:partsT st parts.toList=some ps) (l:fs.toList.all (λf=>(Cs P f.type).isSome)=true) (n:Fm (Ih P fs) z ps=some cs):
  (zt t (parts.map λ(i,x)=>(i,a.eval x))).run P w=.ok (.agg (cs.map (·.ev ρ β)).toArray) w:=by
 apply run_build;unfold Program.built;unfold Et Ef at g;cases u:P.info? t with
 |none=>simp[u]at g
 |some m=>
  simp only[u,zr]at g;cases h:m.zero with
  |none=>simp[h]at g
  |some r=>
   simp only[h,zr]at g;obtain⟨q,p,c⟩:=places_eq fs.toList l;simp only[hu,h,p];have b:(λi=>q.toArray[i]?)=Ih P fs:=by
    grind[Ih]
   have e:z.map (·.ev ρ β)=r.cells.toList:=HH g;have d:=Iq y j;have:=Ip (ρ:=ρ) (β:=β) n;simp_all
theorem run_buildA{t e:TypeId}{n:Nat}{sz:Nat}{z cs:List T}{parts:Array (Nat×Operand)}{ps:List (Nat×T)}(y:Rel O V0 w0 N β st ρ V a.tmps w)(hu:P.underlying t=some (.array n e))
  (g:Et P t=some z) (j:partsT st parts.toList=some ps) (l:Cs P e=some sz) (m:Fm (λi=>some (i*sz,sz)) z ps=some cs):
  (zt t (parts.map λ(i,x)=>(i,a.eval x))).run P w=.ok (.agg (cs.map (·.ev ρ β)).toArray) w:=by
 unfold Et Ef at g;cases f:P.info? t with
 |none=>simp[f]at g
 |some r=>
  simp only[f,zr]at g;cases h:r.zero with
  |none=>simp[h]at g
  |some u=>
   simp only[h,zr]at g;have q:Ef P t=some u:=by unfold Ef;rw[f];exact h
   have p:z.map (·.ev ρ β)=u.cells.toList:=HH g;have d:=Iq y j;have c:=Ip (ρ:=ρ) (β:=β) m;rw[p]at c;have b:(parts.map λ(x:Nat×Operand)=>(x.1,a.eval x.2)).toList=ps.map λx=>(x.1,x.2.ev ρ β):=by simp_all
   unfold zt;simp only[zK,Il q,zL,run_underlying hu,DY l,b];simp_all[zM]
theorem run_indexAtT{t e:TypeId}{s j:T}{k:IntKind}{sz:Nat}(hu:P.underlying t=some (.slice e))(m:s.kind=some .sl)(J:j.kind=some (.i k))(G:Cs P e=some sz)
  (g:∀z∈nn (DJ s)++[.b2 .le (.int .i64 0) j,.b2 .lt j (slLen s)],asB (z.ev ρ β)=true):
  (zq t (s.ev ρ β) (j.ev ρ β)).run P w=.ok ((paddT e sz (DJ s) j).ev ρ β) w:=by
 obtain⟨p,n,c,f⟩:=GX (ρ:=ρ) (β:=β) m;obtain⟨i,u⟩:=DX (ρ:=ρ) (β:=β) J;have r:=g (.b2 .le (.int .i64 0) j) (by simp);have d:=g (.b2 .lt j (slLen s)) (by simp);simp only[T.ev,B.ev,u,Aj,asB,decide_eq_true_eq,Ik,f,Es]at r d;have v:AN ((DJ s).ev ρ β)=p:=by rw[K8 s m,f,AN]
 have y:∃q,p=some q:=by
  have Y:(DJ s).kind=some .p∨∃a b c,s=.c3 .slc a b c:=by
   unfold DJ;split;·simp_all
   ·exact .inl rfl
  have x:AN ((DJ s).ev ρ β)≠none:=by
   unfold nn at g;intro l;split at g;·simp[*,T.ev,AN]at l
   ·simp[*,T.ev,AN]at l
   ·have h:=g _ (List.mem_append_left _ (zO.2 rfl));simp[T.ev,U.ev,asB,l]at h
  rw[v]at x;cases p with
  |none=>simp_all
  |some q=>grind
 obtain⟨q,rfl⟩:=y;obtain⟨h,W,Z⟩:=paddT_ev (ρ:=ρ) (β:=β) e sz (DJ s) j;rw[v,u]at h;simp only[Aj,Aa,zJ]at h;rw[Z]at h⊢;simp only[AN]at h;subst h;rw[f,u];simp[zq,run_underlying hu,asIntOf,r,d,DY G]
theorem sbyte_at{s:KB}{i:Int}(f:0<=i)(t:i<s.size):∃b,s[i.toNat]?=some b/\A0 s i=b.toNat:=by
 have h:i.toNat<s.size:=by omega
 have g:s.data[i.toNat]?=some (s.data[i.toNat]'(by simpa using h)):=Array.getElem?_eq_getElem _;refine⟨s.data[i.toNat]'(by simpa using h),?_,by simp[A0,g]⟩;rw[getElem?_pos s i.toNat h];rfl
theorem run_indexT{t:TypeId}{s j:T}{k:IntKind}(hu:P.underlying t=some .string)(g:s.kind=some .s)(f:j.kind=some (.i k))(h:asB ((T.b2 .sidxok s j).ev ρ β)=true):
  (Instr.index t (s.ev ρ β) (j.ev ρ β)).run P w=.ok ((T.b2 .sidx s j).ev ρ β) w:=by
 obtain⟨b,u⟩:=FJ (ρ:=ρ) (β:=β) g;obtain⟨i,z⟩:=DX (ρ:=ρ) (β:=β) f;simp only[T.ev,B.ev,u,z,asB,AS,Aj,decide_eq_true_eq]at h;obtain⟨c,y,x⟩:=sbyte_at h.1 h.2;simp_all[Instr.index,run_underlying,asIntOf,T.ev,B.ev,AS,Aj]
theorem run_sliceS{t:TypeId}{s l h:T}{j k:IntKind}{lo hi:Option Operand}(hu:P.underlying t=some .string)(p:s.kind=some .s)(c:l.kind=some (.i j))(e:h.kind=some (.i k))
  (el:lo.map a.eval=some (l.ev ρ β)∨lo=none/\l=.int .i64 0) (z:hi.map a.eval=some (h.ev ρ β)∨hi=none/\h=.u .slen s) (m:asB ((T.c3 .bnd l h (.u .slen s)).ev ρ β)=true):
  (zp t (s.ev ρ β) (lo.map a.eval) (hi.map a.eval) none).run P w=.ok ((T.c3 .ssub s l h).ev ρ β) w:=by
 obtain⟨b,g⟩:=FJ (ρ:=ρ) (β:=β) p;obtain⟨x,n⟩:=DX (ρ:=ρ) (β:=β) c;obtain⟨y,f⟩:=DX (ρ:=ρ) (β:=β) e;simp only[T.ev,C.ev,U.ev,g,n,f,asB,AS,Aj,decide_eq_true_eq]at m;obtain⟨d,v,J⟩:=m;obtain⟨x,rfl⟩:=zo d;obtain⟨y,rfl⟩:=zo (show 0<=y by omega);have r:x<=y:=by omega
 have q:y<=b.size:=by omega
 rcases el with el|⟨rfl,rfl⟩<;>rcases z with z|⟨rfl,rfl⟩
 ·simp[zp,run_underlying hu,zn,zm,zl,asIntOf,el,z,g,n,f,r,q,T.ev,C.ev,AS,Aj]
 ·simp only[T.ev,U.ev,g,AS,zk,zj]at f;obtain⟨-,rfl⟩:=f;simp[zp,run_underlying hu,zn,zm,zl,asIntOf,el,g,n,r,T.ev,C.ev,U.ev,AS,Aj]
 ·simp[zp,run_underlying hu,zn,zm,zl,asIntOf,z,g,f,q,T.ev,C.ev,AS,Aj]
 ·simp[zp,run_underlying hu,zn,zm,g,T.ev,C.ev,U.ev,AS,Aj]
theorem run_sliceL{t e:TypeId}{s l h:T}{j k:IntKind}{sz:Nat}{lo hi:Option Operand}(hu:P.underlying t=some (.slice e))(J:Cs P e=some sz)(q:s.kind=some .sl)(G:l.kind=some (.i j))(Z:h.kind=some (.i k))
  (el:lo.map a.eval=some (l.ev ρ β)∨lo=none/\l=.int .i64 0) (r:hi.map a.eval=some (h.ev ρ β)∨hi=none/\h=slLen s) (b:asB ((T.c3 .bnd l h (Ev s)).ev ρ β)=true):
  (zp t (s.ev ρ β) (lo.map a.eval) (hi.map a.eval) none).run P w=
   .ok ((T.c3 .slc (.c3 (.slp sz) (DJ s) l (Ev s)) (.b2 (.sub .i64) h l) (.b2 (.sub .i64) (Ev s) l)).ev ρ β) w:=by
 obtain⟨p,n,c,z⟩:=GX (ρ:=ρ) (β:=β) q;obtain⟨x,f⟩:=DX (ρ:=ρ) (β:=β) G;obtain⟨y,u⟩:=DX (ρ:=ρ) (β:=β) Z;have g:=K8 (ρ:=ρ) (β:=β) s q;simp only[T.ev,C.ev,Jw,z,f,u,asB,Aj,asCap,decide_eq_true_eq]at b;obtain⟨Y,W,A⟩:=b;obtain⟨x,rfl⟩:=zo Y;obtain⟨y,rfl⟩:=zo (show 0<=y by omega);have d:x<=y:=by omega
 have v:y<=c:=by omega
 have hv:(T.c3 .slc (.c3 (.slp sz) (DJ s) l (Ev s)) (.b2 (.sub .i64) h l) (.b2 (.sub .i64) (Ev s) l)).ev ρ β=
   .slice (if c=x then p else Aa p (x*sz)) (y-x) (c-x):=by
  rw[z]at g;simp only[T.ev,C.ev,B.ev,g,Jw,z,f,u];grind[Aj,AN,asCap]
 have m:((zm true n c (lo.map a.eval) (hi.map a.eval) none).run P w:Result (Nat×Nat×Nat))=.ok (x,y,c) w:=by
  rcases el with el|⟨rfl,rfl⟩<;>rcases r with r|⟨rfl,rfl⟩
  ·simp[zm,zl,asIntOf,el,r,f,u,d,v]
  ·rw[Ik,z]at u;simp only[Es,zk,zj]at u;obtain⟨-,rfl⟩:=u;simp[zm,zl,asIntOf,el,f,d]
  ·simp only[T.ev,zk]at f;obtain⟨-,f⟩:=f;obtain rfl:x=0:=by omega
   simp[zm,zl,asIntOf,r,u,v]
  ·simp only[T.ev,zk]at f;obtain⟨-,f⟩:=f;obtain rfl:x=0:=by omega
   rw[Ik,z]at u;simp only[Es,zk,zj]at u;obtain⟨-,rfl⟩:=u;rfl
 rw[hv,z];simp only[zp,zK,run_underlying hu,zL,zn,m,DY J,zM];rfl
end
section
variable{P:Program}{ρ:List Value}{β:Nat->Nat}{w:World}
theorem run_eqFs{g:TypeId->T->T->Option T}{n:Nat}{cs ds:T}(l:∀t x y z,g t x y=some z->∃b,z.ev ρ β=.bool b/\(zX n t (x.ev ρ β) (y.ev ρ β)).run P w=.ok b w) :
    ∀(fs:List Field)(z:T),eqFs g P cs ds fs=some z->∃b,z.ev ρ β=.bool b/\
      (do for f in fs do
            if f.name≠ "_" then
              if !(<-zX n f.type (<-part f.type (cs.evs ρ β).toArray f.offset) (<-part f.type (ds.evs ρ β).toArray f.offset))then return false
          pure true:Sem Bool).run P w=.ok b w:=by
  intro fs;induction fs with
  |nil=>
    intro z h;simp only[eqFs,zF]at h;subst h;exact⟨true,rfl,by simp⟩
  |cons f fs m=>
    intro z h;unfold eqFs at h;split at h;· cases h
    rename_i u;split at h;case h_2=>cases h
    rename_i x y q p;split at h;case h_2=>cases h
    rename_i a c;obtain⟨b,s,e⟩:=l _ _ _ _ c;simp only[List.forIn_cons,u,ne_eq,not_false_eq_true,if_true,zK,Jy q,Jy p,zL,e];cases b with
    |false=>
      refine⟨false,?_,by simp⟩;split at h;· grind
      · rw[zi]at h;obtain⟨r,j,rfl⟩:=h;grind[T.ev,B.ev,asB]
    |true=>
      split at h;· simp_all
      · rw[zi]at h;obtain⟨r,j,rfl⟩:=h;obtain⟨v,d,i⟩:=m r j;simp_all[T.ev,B.ev,asB,zK]
theorem run_eqT:∀(d n:Nat)(t:TypeId)(x y z:T),HA P d t x y=some z->∃b,z.ev ρ β=.bool b/\(zX (n+d) t (x.ev ρ β) (y.ev ρ β)).run P w=.ok b w
 |0,_,_,_,_,_,h=>by simp[HA]at h
 |d+1,n,t,x,y,z,h=>by
  unfold HA at h;rw[show n+(d+1)=(n+d)+1 from rfl,zX];split at h
  ·rename_i k0 k m hu u j;split at h
   ·rename_i e;subst e;cases h;obtain⟨a,f⟩:=DX (ρ:=ρ) (β:=β) u;obtain⟨b,g⟩:=DX (ρ:=ρ) (β:=β) j;exact⟨decide (a=b),by simp[T.ev,B.ev,f,g,Aj],by simp[zK,run_underlying hu,f,g];rfl⟩
   ·cases h
  ·rename_i hu u j;cases h;obtain⟨a,f⟩:=FJ (ρ:=ρ) (β:=β) u;obtain⟨b,g⟩:=FJ (ρ:=ρ) (β:=β) j;exact⟨decide (a=b),by simp[T.ev,B.ev,f,g,AS],by
    have l:(a==b)=decide (a=b):=by rw[Bool.eq_iff_iff,MapKept.bytes_beq,decide_eq_true_eq]
    simp[zK,run_underlying hu,f,g,l]⟩
  ·rename_i hu u j;cases h;obtain⟨a,f⟩:=Fq (ρ:=ρ) (β:=β) u;obtain⟨b,g⟩:=Fq (ρ:=ρ) (β:=β) j;exact⟨a==b,by simp[T.ev,B.ev,f,g,asB],by simp[zK,run_underlying hu,f,g]⟩
  ·rename_i fs hu u j;split at h;case h_2=>cases h
   rename_i cs ds;split at h;case isFalse=>cases h
   rename_i i;obtain⟨b,g,r⟩:=run_eqFs (n:=n+d) (λt x y z h=>run_eqT d n t x y z h) fs.toList z h;refine⟨b,g,?_⟩;simp only[zK,run_underlying hu,zL,T.ev,run_program,i,<-Array.forIn_toList];simp_all
  ·cases h
theorem run_eqAgg{op:BinOp}{g:TypeId}{x y:Operand}{p q t:T}{ns:List T}(h:eqAgg P op g p q=some (ns,t)):
  (do eqGuard op g x y (p.ev ρ β) (q.ev ρ β);binOp op g (p.ev ρ β) (q.ev ρ β):Sem Value).run P w=.ok (t.ev ρ β) w:=by
 unfold eqAgg at h;split at h;case h_2=>cases h
 rename_i cs ds;split at h;case isFalse=>cases h
 rename_i i;rw[Option.bind_eq_some_iff]at h;obtain⟨z,u,l⟩:=h;obtain⟨b,n,f⟩:=run_eqT (ρ:=ρ) (β:=β) (w:=w) 5 9995 g _ _ z u;have f:(Op.equal g (T.ev ρ β (.agg cs)) (T.ev ρ β (.agg ds))).run P w=.ok b w:=f;have j:(eqGuard op g x y (T.ev ρ β (.agg cs)) (T.ev ρ β (.agg ds))).run P w=.ok () w:=by
  simp_all[eqGuard,T.ev,zK,run_program]
 grind[zK,zL,FM,T.ev]
end
section
variable{P:Program}{O V0:Mem}{w0:World}{N:Nat}{β:Nat->Nat}{st:St}{ρ:List Value}{V:Mem}{a:Act}{w:World}
theorem lohi{st:St}{lo:Option Operand}{d l:T}(g:Rel O V0 w0 N β st ρ V a.tmps w)(h:(match lo with|some l=>Bh st l|none=>some d)=some l):
  lo.map a.eval=some (l.ev ρ β)∨lo=none/\l=d:=by
 cases lo with
 |some x=>grind[A3]
 |none=>simp_all
theorem Jz(r:Rel O V0 w0 N β st ρ V a.tmps w){o:Oper}{ns:List T}{t:T}(h:CC P st o.op=some (ns,t))(Y:∀x∈ns,asB (x.ev ρ β)=true):
  (execOp a.eval o).run P w=.ok (.value (t.ev ρ β)) w:=by
 unfold execOp;generalize o.op=op at h⊢;cases op with
 |move x=>
  simp only[CC,zi,zS]at h;obtain⟨A,g,rfl,rfl⟩:=h;simp only[zM,A3 r g]
 |assign x=>
  simp only[CC,zi,zS]at h;obtain⟨A,g,rfl,rfl⟩:=h;simp only[zM,A3 r g]
 |pick c x y=>
  simp only[CC]at h;split at h
  ·rename_i v p q g J K;simp only[zF,zS]at h;obtain⟨rfl,rfl⟩:=h;simp only[A3 r g,A3 r J,A3 r K,T.ev,asBool,zK,zM,zL];cases v<;>rfl
  ·simp at h
 |load ty x=>
  simp only[CC]at h;split at h
  ·rename_i i off g;cases S:st.box i with
   |none=>simp[S]at h
   |some cs=>
    obtain⟨cs,e⟩:=cs;simp only[S,zr,zi,zS]at h;obtain⟨A,J,rfl,rfl⟩:=h;have hB:=(r.boxes i cs e S).1;have:=GY (P:=P) hB J;simp only[A3 r g,T.ev,Instr.loadAt,zh,zK,zM,zL,this]
  ·simp at h
 |fieldAddr s x f=>
  simp only[CC]at h;split at h
  ·rename_i fs p hu g;cases I:fs[f]? with
   |none=>simp[I]at h
   |some fd=>
    simp only[I,zr]at h;split at h
    ·rename_i m W;split at h
     ·rename_i d;simp only[zF,zS]at h;obtain⟨rfl,rfl⟩:=h;obtain⟨q,X⟩:=nn_some d Y;rw[poff_ev _ _ ⟨_,X⟩,X];simp only[A3 r g,X,Instr.fieldAt,zK,run_underlying hu,zL,I,zh,zM,M6 W,AN,Aa,zJ]
     ·simp at h
    ·simp at h
  ·simp at h
 |indexAddr ty x i=>
  simp only[CC]at h;split at h
  ·rename_i e s j hu g J;split at h
   ·rename_i k sz W hj B;simp only[zF,zS]at h;obtain⟨rfl,rfl⟩:=h;simp only[A3 r g,A3 r J,zK,run_indexAtT hu W hj B Y,zL,zM]
   ·simp at h
  ·rename_i len e p kk k hu g J;split at h
   ·rename_i sz B;split at h
    ·rename_i d;obtain⟨d,hk0,hk1⟩:=d;simp only[zF,zS]at h;obtain⟨rfl,rfl⟩:=h;obtain⟨q,X⟩:=nn_some d Y;rw[poff_ev _ _ ⟨_,X⟩,X];simp only[A3 r g,A3 r J,X,T.ev,zq,asIntOf,zK,run_underlying hu,zL,zh,zM,DY B,AN,Aa,zJ];simp[hk0,hk1,DY B,zK,zL,zM]
    ·simp at h
   ·simp at h
  ·simp at h
 |index ty x i=>
  simp only[CC]at h;split at h
  ·rename_i s j hu g J;split at h
   ·rename_i k W hj;simp only[zF,zS]at h;obtain⟨rfl,rfl⟩:=h;simp only[A3 r g,A3 r J,zK,run_indexT hu W hj (Y _ (zO.2 rfl)),zL,zM]
   ·simp at h
  ·simp at h
 |binOp b xt x y yt=>
  simp only[CC]at h;split at h
  ·rename_i p q g J;have:=(Option.or_eq_some_iff.1 h).elim (λh=>run_binOpT (P:=P) (x:=x) (y:=y) (w:=w) h Y) λh=>run_eqAgg (x:=x) (y:=y) h.2;simp only[A3 r g,A3 r J];rw[zK,this];rfl
  ·simp at h
 |unOp u xt x=>
  simp only[CC]at h;split at h
  ·rename_i A g;split at h
   ·rename_i d;simp only[zF,zS]at h;obtain⟨rfl,rfl⟩:=h;obtain⟨b,S⟩:=Fq (ρ:=ρ) (β:=β) d;simp[A3 r g,S,Op.unary,notT_ev,asB]
   ·simp at h
  ·rename_i A g;split at h
   ·rename_i k d;simp only[inr,zF,zS]at h;obtain⟨rfl,rfl⟩:=h;obtain⟨m,hm⟩:=DX (ρ:=ρ) (β:=β) d;have K:=Y _ (zO.2 rfl);simp only[T.ev,U.ev,hm,Aj,asB,decide_eq_true_eq]at K;simp only[A3 r g,hm,Op.unary,Op.intArith,zK,zM,zL,T.ev,U.ev,Aj,FL K]
   ·simp at h
  ·simp at h
 |convert src dst x=>
  simp only[CC]at h;split at h
  ·rename_i k0 k A M F g;split at h
   ·rename_i j d;obtain⟨m,hm⟩:=DX (ρ:=ρ) (β:=β) d;have key:k.wrap m=m->((do pure (Next.value (<-convert src dst (a.eval x))):Sem Next).run P w)=.ok (.value (.int k m)) w:=λe=>by
     simp only[A3 r g,hm,zK,convert,run_underlying M,run_underlying F,zL,Conv.intToInt,zM,e]
    split at h
    ·rename_i e;subst e;simp only[inr,zF,zS]at h;obtain⟨rfl,rfl⟩:=h;have K:=Y _ (zO.2 rfl);simp_all[T.ev,U.ev,Aj,asB,decide_eq_true_eq,FL]
    split at h
    ·rename_i e;subst e;simp only[zF,zS]at h;obtain⟨rfl,rfl⟩:=h;simp only[A3 r g,hm,zK,convert,run_underlying M,run_underlying F,zL,Conv.intToInt,zM,T.ev,U.ev,Aj]
    ·simp only[inr,zF,zS]at h;obtain⟨rfl,rfl⟩:=h;have K:=Y _ (zO.2 rfl);simp_all[T.ev,U.ev,Aj,asB,decide_eq_true_eq,FL]
   ·simp at h
  ·rename_i A M F g;split at h
   ·rename_i d;simp only[zF,zS]at h;obtain⟨rfl,rfl⟩:=h;obtain⟨m,hm⟩:=FJ (ρ:=ρ) (β:=β) d;simp only[A3 r g,hm,zK,convert,run_underlying M,run_underlying F,zL,zM]
   ·simp at h
  ·simp at h
 |build ty parts=>
  simp only[CC]at h;split at h
  ·rename_i fs z ps hu B hp;split at h
   ·rename_i W;simp only[zi,zS]at h;obtain⟨cs,I,rfl,rfl⟩:=h;grind[zK,run_buildT,zL,zM,T.ev,CE]
   ·simp at h
  ·rename_i n e z ps hu B hp;split at h
   ·rename_i sz W;simp only[zi,zS]at h;obtain⟨cs,I,rfl,rfl⟩:=h;grind[zK,run_buildA,zL,zM,T.ev,CE]
   ·simp at h
  ·simp at h
 |field xt x f=>
  simp only[CC]at h;split at h
  ·rename_i fs cs hu g;cases I:fs[f]? with
   |none=>simp[I]at h
   |some fd=>
    simp only[I,zr,zi,zS]at h;obtain⟨A,J,rfl,rfl⟩:=h;simp only[A3 r g,T.ev,Instr.field,zK,run_underlying hu,zL,I,asAgg,zM,Jy J]
  ·simp at h
 |extract x i=>
  simp only[CC]at h;split at h
  ·rename_i cs g;simp only[zi,zS]at h;obtain⟨A,J,rfl,rfl⟩:=h;have:(cs.evs ρ β).toArray[i]?=some (A.ev ρ β):=by simp[C9,J]
   simp[A3 r g,T.ev,Instr.extract,this]
  ·simp at h
 |makeFunc fn first Z=>
  simp only[CC]at h;split at h
  ·rename_i f ts g;split at h
   ·rename_i he;simp only[zF,zS]at h;obtain⟨rfl,rfl⟩:=h;have e1:first=#[]:=by simpa using he
    subst e1;have e2:Z.map a.eval=(ts.map (·.ev ρ β)).toArray:=by
     apply zg;rw[zf,HI r g]
    simp[Instr.makeFunc,T.ev,CE,e2]
   ·simp at h
  ·simp at h
 |nilCheck x=>
  simp only[CC]at h;split at h
  ·rename_i f cs g;simp only[zF,zS]at h;obtain⟨rfl,rfl⟩:=h;simp only[A3 r g,T.ev,zM]
  ·rename_i p _ g;split at h
   ·rename_i d;simp only[zF,zS]at h;obtain⟨rfl,rfl⟩:=h;obtain⟨q,X⟩:=nn_some d Y;grind[A3,zM]
   ·simp at h
  ·simp at h
 |slice ty x lo hi mx=>
  simp only[CC]at h;split at h
  ·rename_i s hu g;split at h
   ·rename_i l hh W hl C;split at h
    ·rename_i j k D E;simp only[zF,zS]at h;obtain⟨rfl,rfl⟩:=h;simp only[A3 r g,ze,zK,run_sliceS hu W D E (lohi r hl) (lohi r C) (Y _ (zO.2 rfl)),zL,zM]
    ·simp at h
   ·simp at h
  ·rename_i e s hu g;split at h
   ·rename_i sz l hh W B hl C;split at h
    ·rename_i j k D E;simp only[zF,zS]at h;obtain⟨rfl,rfl⟩:=h;simp only[A3 r g,ze,zK,run_sliceL hu B W D E (lohi r hl) (lohi r C) (Y _ (zO.2 rfl)),zL,zM]
    ·simp at h
   ·simp at h
  ·simp at h
 |call c=>
  simp only[CC]at h;have G:∀{x:T},opTs st c.args.toList=some [x]->c.args.map a.eval=#[x.ev ρ β]:=λ{x} g=>by
   apply zg;rw[zf,HI r g];rfl
  split at h
  ·rename_i x ty hc g J;have ht:c.argTypes=#[ty]:=by grind
   split at h
   ·rename_i e d hu;simp only[zF,zS]at h;obtain⟨rfl,rfl⟩:=h;obtain⟨p,n,cp,hx⟩:=GX (ρ:=ρ) (β:=β) d;simp only[resolve,hc,G g,ht,zK,zM,zL,invoke,builtin,hx,Ik,Es];simp[zd,run_underlying hu,goInt]
   ·rename_i d hu;simp only[zF,zS]at h;obtain⟨rfl,rfl⟩:=h;obtain⟨s,hx⟩:=FJ (ρ:=ρ) (β:=β) d;simp only[resolve,hc,G g,ht,zK,zM,zL,invoke,builtin,hx,T.ev,U.ev,AS];simp[zd,run_underlying hu,goInt]
   ·simp at h
  ·rename_i x ty hc g J;have ht:c.argTypes=#[ty]:=by grind
   split at h
   ·rename_i e d hu;simp only[zF,zS]at h;obtain⟨rfl,rfl⟩:=h;obtain⟨p,n,cp,hx⟩:=GX (ρ:=ρ) (β:=β) d;simp only[resolve,hc,G g,ht,zK,zM,zL,invoke,builtin,hx,Jw,asCap];simp[Builtin.cap_,run_underlying hu,goInt]
   ·simp at h
  ·simp at h
 |_=>simp[CC]at h
end
theorem lookup_mem:∀{l:List (Nat×T)}{s:Nat}{t:T},l.lookup s=some t->(s,t)∈l
 |(s',g)::l,s,t,h=>by
  rw[zc]at h;split at h;·rename_i e;simp only[beq_iff_eq]at e;subst e;simp only[zF]at h;subst h;exact zb
  ·exact za _ (lookup_mem h)
theorem JA:∀{l:List (Nat×T×Nat)}{s:Nat}{t:T×Nat},l.lookup s=some t->(s,t)∈l
 |(s',g)::l,s,t,h=>by
  rw[zc]at h;split at h;·rename_i e;simp only[beq_iff_eq]at e;subst e;simp only[zF]at h;subst h;exact zb
  ·exact za _ (JA h)
theorem GZ{st:St}{s:Nat}{t:T}(h:st.get s=some t):st.slots.lookup s=some t:=by
 grind[St.get]
theorem get_ne{st:St}{s:Nat}{t:T}(h:st.get s=some t):t≠.nil:=by
 grind[St.get]
theorem Ir(st:St)(d s:Nat)(t:T):(st.put d t).get s=if s=d then(if t=.nil then none else some t)else st.get s:=by
 grind[St.get,St.put]
theorem wf_get{st:St}(h:st.wf=true){s:Nat}{t:T}(g:st.get s=some t):t.wf st.nv st.nb=true:=by
 simp only[St.wf,zC,z6]at h;exact h.1 _ (lookup_mem (GZ g))
theorem Gl{st:St}(h:st.wf=true){i:Nat}{cs:T}{ty:Nat}(g:st.box i=some (cs,ty)):i<st.nb/\cs.wf st.nv st.nb=true:=by
 simp only[St.wf,zC,z6,decide_eq_true_eq]at h;exact h.2 _ (JA g)
section
variable{P:Program}{O V0:Mem}{w0:World}{N:Nat}{β:Nat->Nat}{st:St}{ρ:List Value}{V:Mem}{a:Act}{w:World}{tmps:Array Value}
theorem Rel.put(h:Rel O V0 w0 N β st ρ V tmps w){d:Nat}(f:d<N)(t:T):Rel O V0 w0 N β (st.put d t) ρ V (tmps.setIfInBounds d (t.ev ρ β)) w:=
 {nv:=h.nv
  size:=by simpa using h.size
  slots:=λs u g=>by
   rw[Ir]at g;split at g
   ·rename_i e;subst e;split at g;·simp at g
    ·simp only[zF]at g;subst g;have:s<tmps.size:=by rw[h.size];exact f
     simp_all
   ·rename_i e;rw[<-h.slots s u g];by_cases hlt:s<tmps.size;·simp[z7,hlt,show ¬d=s by omega]
    simp_all
  frm:=h.frm
  boxes:=h.boxes
  hid:=h.hid
  inj:=h.inj}
theorem Rel.putO(h:Rel O V0 w0 N β st ρ V a.tmps w){d:Option Nat}(g:Dm N d=true)(t:T){v:Value}(hv:v=t.ev ρ β):
  Rel O V0 w0 N β (st.putO d t) ρ V (a.put d v).tmps w:=by
 subst hv;cases d with
 |none=>exact h
 |some d=>exact h.put (by simpa [Dm]using g) t
theorem JB{l:List (Nat×T)}:∀{keep:List Nat}{s:Nat}{t:T},(GL l keep).lookup s=some t->l.lookup s=some t
 |[],s,t,h=>by simp[GL]at h
 |k::g,s,t,h=>by
  simp only[GL]at h;split at h
  ·rename_i f u;rw[zc]at h;split at h;·simp_all
   ·exact JB h
  ·exact JB h
theorem JC{d:Nat}:∀{l:List (Nat×T)}{s:Nat}{t:T},(l.filter (λx=>x.1 !=d)).lookup s=some t->l.lookup s=some t
 |[],s,t,h=>by simp at h
 |(k,x)::l,s,t,h=>by
  rw[zc];simp only[z8]at h;by_cases e:k=d
  ·subst e;simp only[bne_self_eq_false,zN,if_false]at h;have hm:=lookup_mem h;have g:s≠k:=by simp_all
   have:(s==k)=false:=by simpa using g
   rw[this];exact JC h
  ·have f:(k !=d)=true:=by simpa using e
   simp only[f,if_true,zc]at h;split at h;·simp_all
   ·simp_all;exact JC h
theorem Rel.fewer(h:Rel O V0 w0 N β st ρ V tmps w)(l:List (Nat×T))(g:∀s t,l.lookup s=some t->st.slots.lookup s=some t):Rel O V0 w0 N β {st with slots:=l} ρ V tmps w:=
 {h with
  slots:=λs t f=>h.slots s t (by
   grind[St.get,absurd])
  boxes:=h.boxes
  hid:=h.hid
  inj:=h.inj}
theorem Rel.compact(h:Rel O V0 w0 N β st ρ V tmps w)(keep:List Nat):Rel O V0 w0 N β (st.compact keep) ρ V tmps w:=h.fewer _ λ_ _=>JB
theorem Rel.drop(h:Rel O V0 w0 N β st ρ V tmps w)(d:Nat):Rel O V0 w0 N β (st.drop d) ρ V tmps w:=h.fewer _ λ_ _=>JC
theorem Rel.now(h:Rel O V0 w0 N β st ρ V tmps w){d:Nat}{t f:T}(u:st.get d=some t)(z:t.ev ρ β=f.ev ρ β):Rel O V0 w0 N β (st.now d f) ρ V tmps w:=
 {h.drop d with
  slots:=λs x g=>by
   unfold St.now at g;rw[Ir]at g;split at g
   ·rename_i e;subst e;split at g;·simp at g
    ·simp only[zF]at g;subst g;rw[h.slots s t u,z]
   ·exact(h.drop d).slots s x g}
theorem K9{ρ vs:List Value}{m:Nat}(h:m<ρ.length):ρ.getD m undef=(ρ++vs).getD m undef:=by
 grind
theorem Rel.bind(h:Rel O V0 w0 N β st ρ V tmps w)(hw:st.wf=true)(vs:List Value):Rel O V0 w0 N β (st.more vs.length) (ρ++vs) V tmps w:=by
 have g:∀t:T,t.wf st.nv st.nb=true->t.ev ρ β=t.ev (ρ++vs) β/\t.evs ρ β=t.evs (ρ++vs) β:=
  T.ev_congr (λm hm=>K9 (by rw[h.nv];exact hm)) (λ_ _=>rfl)
 exact
 {nv:=by simp[St.more,h.nv]
  size:=h.size
  slots:=λs t f=>(h.slots s t f).trans (g t (wf_get hw f)).1
  frm:=h.frm
  boxes:=λi cs ty u=>by
   have:=h.boxes i cs ty u;rw[<-(g cs (Gl hw u).2).2];exact this
  hid:=h.hid
  inj:=h.inj}
theorem Rel.frame(h:Rel O V0 w0 N β st ρ V tmps w){V':Mem}{w':World}(f:Aq V w V' w'):Rel O V0 w0 N β st ρ V' tmps w':=
 {nv:=h.nv
  size:=h.size
  slots:=h.slots
  frm:=h.frm.trans f
  boxes:=λi cs ty x=>by
   obtain⟨t,h2,h3,u⟩:=h.boxes i cs ty x;have g:β i<w.heap.size:=(yA.1 t).1;refine⟨(f.old _ g h2).trans t,?_,h3,u⟩;cases z:V' (β i)with
   |none=>rfl
   |some o=>
    rcases f.dom (β i) (by simp[z])with y|y;·grind
    ·omega
  hid:=λb o j=>by
   obtain⟨t,h2,h3,u⟩:=h.hid b o j;have g:b<w.heap.size:=(yA.1 t).1;refine⟨(f.old _ g h2).trans t,?_,h3,u⟩;cases z:V' b with
   |none=>rfl
   |some l=>
    rcases f.dom b (by simp[z])with y|y;·grind
    ·omega
  inj:=h.inj}
theorem La(w:World)(o:Obj):(w.alloc o).heap[w.heap.size]?=some o:=by
 show(w.heap.push o)[w.heap.size]?=some o;simp
theorem HJ(w:World)(o:Obj){b:Nat}(h:b<w.heap.size):(w.alloc o).heap[b]?=w.heap[b]?:=by
 show(w.heap.push o)[b]?=w.heap[b]?;grind
theorem le_none{V:Mem}{w:World}(h:V.le w){b:Nat}(f:w.heap.size<=b):V b=none:=by
 cases g:V b with
 |none=>rfl
 |some o=>have:=h b o g;simp_all
theorem Aq.alloc{V:Mem}{w:World}(h:V.le w)(o:Obj):Aq V w V (w.alloc o):=
 ⟨by simp_all,λb f g=>by
   have:=h b f g;grind[HJ,yA],λb g _=>HJ w o g,λ_ h=>.inl h,rfl,rfl⟩
def upd(β:Nat->Nat)(i b:Nat):Nat->Nat:=λj=>if j=i then b else β j
theorem Rel.alloc(h:Rel O V0 w0 N β st ρ V tmps w)(hw:st.wf=true){cs:T}(G:cs.wf st.nv st.nb=true)(ty:Nat):
  Rel O V0 w0 N (upd β st.nb w.heap.size) {st with boxes:=(st.nb,cs,ty)::st.boxes,nb:=st.nb+1} ρ V tmps (w.alloc (.cells (cs.evs ρ β).toArray ty (0,0))):=by
 have l:∀t:T,t.wf st.nv st.nb=true->t.ev ρ β=t.ev ρ (upd β st.nb w.heap.size)/\t.evs ρ β=t.evs ρ (upd β st.nb w.heap.size):=
  T.ev_congr (λ_ _=>rfl) (λi u=>by grind[upd])
 have g:∀(i:Nat)(x:T×Nat),St.box {st with boxes:=(st.nb,cs,ty)::st.boxes,nb:=st.nb+1} i=some x->(i=st.nb/\x=(cs,ty))∨(i≠st.nb/\st.box i=some x):=by
  grind[St.box,inr]
 have Z:∀i,i≠st.nb->(st.box i).isSome=true->upd β st.nb w.heap.size i<w.heap.size:=by
  intro i u r;obtain⟨x,n⟩:=yB.1 r;have:=(h.boxes i x.1 x.2 n).1;grind[upd]
 exact
 {nv:=h.nv
  size:=h.size
  slots:=λs t r=>(h.slots s t r).trans (l t (wf_get hw r)).1
  frm:=h.frm.trans (Aq.alloc h.frm.le _)
  boxes:=λi q p u=>by
   rcases g i _ u with⟨rfl,e⟩|⟨z,f⟩
   ·cases e;refine⟨?_,?_,?_,Nat.lt_succ_self _⟩;·rw[<-(l cs G).2];simp only[upd,if_true];exact La w _
    ·simp only[upd,if_true];exact le_none h.frm.le (Nat.le_refl _)
    ·simp only[upd,if_true];exact h.frm.size
   ·obtain⟨c,h2,h3,Y⟩:=h.boxes i q p f;grind[upd,Gl,HJ,yA,Nat.lt_succ_of_lt]
  hid:=λb o W=>by
   obtain⟨c,h2,h3,Y⟩:=h.hid b o W;have d:b<w.heap.size:=(yA.1 c).1;refine⟨(HJ w _ d).trans c,h2,h3,λi u=>?_⟩;obtain⟨x,n⟩:=yB.1 u;rcases g i x n with⟨rfl,_⟩|⟨z,f⟩;·grind[upd]
   grind[upd]
  inj:=λi j u A J=>by
   obtain⟨x,n⟩:=yB.1 u;obtain⟨y,I⟩:=yB.1 A;rcases g i x n with⟨rfl,_⟩|⟨z,f⟩<;>rcases g j y I with⟨rfl,_⟩|⟨m,v⟩
   ·rfl
   ·grind[upd]
   ·grind[upd]
   ·simp only[upd,if_neg z,if_neg m]at J;exact h.inj i j (by simp[f]) (by simp[v]) J}
theorem Lb(w:World)(g:Nat)(cs:Array Value):(w.setRow g cs).heap.size=w.heap.size:=by simp[World.setRow]
theorem setRow_other(w:World)(g:Nat)(cs:Array Value){b:Nat}(h:b≠g):(w.setRow g cs).heap[b]?=w.heap[b]?:=by
 grind[World.setRow,absurd]
theorem Rel.setBox(h:Rel O V0 w0 N β st ρ V tmps w){i:Nat}{cs f:T}{ty:Nat}(hi:st.box i=some (cs,ty)) :
    Rel O V0 w0 N β (st.setBox i f ty) ρ V tmps (w.setRow (β i) (f.evs ρ β).toArray):=by
  obtain⟨p,h2,h3,c⟩:=h.boxes i cs ty hi;have z:∀(j:Nat)(x:T×Nat),(st.setBox i f ty).box j=some x->(j=i/\x=(f,ty))∨(j≠i/\st.box j=some x):=by
    grind[St.box,St.setBox,inr]
  have g:∀j,((st.setBox i f ty).box j).isSome=true->(st.box j).isSome=true:=by
    intro j t;obtain⟨x,J⟩:=yB.1 t;grind
  exact
  { nv:=h.nv
    size:=h.size
    slots:=h.slots
    frm:=⟨by grind [Lb],fun b o y=>by
              have u:b≠β i:=by grind
              rw[setRow_other w _ _ u];exact h.frm.le b o y,λb y d=>by
              rw[setRow_other w _ _ (by omega)];exact h.frm.old b y d,h.frm.dom,h.frm.os,h.frm.out⟩
    boxes:=λj l r t=>by
      rcases z j _ t with⟨rfl,e⟩|⟨u,n⟩
      · cases e;exact⟨setRow_heap w _ _ _ ty (0,0) p,h2,h3,c⟩
      · obtain⟨q,g2,g3,m⟩:=h.boxes j l r n;have s:β j≠β i:=λe=>u (h.inj j i (by simp[n]) (by simp[hi]) e);exact⟨(setRow_other w _ _ s).trans q,g2,g3,m⟩
    hid:=λb o y=>by
      obtain⟨q,g2,g3,m⟩:=h.hid b o y;exact⟨(setRow_other w _ _ (Ne.symm (m i (by simp[hi])))).trans q,g2,g3,λj t=>m j (g j t)⟩
    inj:=λj k t v=>h.inj j k (g j t) (g k v)}
theorem Lc(f:T->T):∀(l:List (Nat×T))(s:Nat),(l.map (λx=>(x.1,f x.2))).lookup s=(l.lookup s).map f
 |[],s=>rfl
 |(s',t)::l,s=>by
  simp only[zG,zc];split;·rfl
  ·exact Lc f l s
theorem Ld(f:T->T):∀(l:List (Nat×T×Nat))(s:Nat),(l.map (λx=>(x.1,f x.2.1,x.2.2))).lookup s=(l.lookup s).map λy=>(f y.1,y.2)
 |[],s=>rfl
 |(s',t)::l,s=>by
  simp only[zG,zc];split;·rfl
  ·exact Ld f l s
theorem JD(i:Nat):∀(l:List (Nat×T×Nat))(s:Nat),(l.filter (λx=>x.1 !=i)).lookup s=if s=i then none else l.lookup s
 |[],s=>by simp
 |(s',t)::l,s=>by
  simp only[z8];by_cases h:s'=i
  ·subst h;simp only[bne_self_eq_false,zN,if_false,JD s' l s,zc];grind
  ·have g:(s' !=i)=true:=by simpa using h
   simp only[g,if_true,zc,JD i l s];grind
theorem Rel.pubd(h:Rel O V0 w0 N β st ρ V tmps w)(hw:st.wf=true){i:Nat}{cs:T}{ty:Nat}(hi:st.box i=some (cs,ty)):
  Rel O V0 w0 N β (st.pubd i) (ρ++[.pointer (some ⟨β i,0,none⟩)]) (V.set (β i) (.cells (cs.evs ρ β).toArray ty (0,0))) tmps w:=by
 obtain⟨C,D,E,K⟩:=h.boxes i cs ty hi;have W:(ρ++[zY (some ⟨β i,0,none⟩)]).getD st.nv undef=zY (some ⟨β i,0,none⟩):=by
  rw[<-h.nv];simp[List.getD]
 have u:∀t:T,t.wf st.nv st.nb=true->(t.subst i st.nv).ev (ρ++[.pointer (some ⟨β i,0,none⟩)]) β=t.ev ρ β/\(t.subst i st.nv).evs (ρ++[.pointer (some ⟨β i,0,none⟩)]) β=t.evs ρ β:=by
  intro t A;have S:=T.ev_subst W t;have U:=T.ev_congr (ρ:=ρ) (ρ':=ρ++[.pointer (some ⟨β i,0,none⟩)]) (β:=β) (β':=β) (λm hm=>K9 (by rw[h.nv];exact hm)) (λ_ _=>rfl) t A;simp_all
 have z:∀(j:Nat)(x:T×Nat),(st.pubd i).box j=some x->j≠i/\∃y,st.box j=some y/\x=(y.1.subst i st.nv,y.2):=by
  intro j x l;simp only[St.box,St.pubd,Ld,JD]at l;split at l;·simp at l
  ·rename_i e;simp only[zi]at l;obtain⟨y,n,rfl⟩:=l;exact⟨e,y,n,rfl⟩
 have g:∀j,((st.pubd i).box j).isSome=true->(st.box j).isSome=true:=by
  grind[yB]
 exact
 {nv:=by simp[St.pubd,h.nv]
  size:=h.size
  slots:=λs t G=>by
   have Z:=GZ G;simp only[St.pubd,Lc,zi]at Z;obtain⟨p,I,rfl⟩:=Z;have Y:st.get s=some p:=by
    unfold St.get;have r:p≠.nil:=λe=>get_ne G (by subst e;rfl);simp_all
   rw[(u p (wf_get hw Y)).1];exact h.slots s p Y
  frm:=
   {size:=h.frm.size
    le:=λb o f=>by
     by_cases e:b=β i;·grind[Mem.set_same]
     ·rw[Mem.set_ne e]at f;exact h.frm.le b o f
    old:=h.frm.old
    dom:=λb f=>by
     by_cases e:b=β i;·omega
     ·rw[Mem.set_ne e]at f;exact h.frm.dom b f
    os:=h.frm.os
    out:=h.frm.out}
  boxes:=λj M F q=>by
   obtain⟨r,y,n,e⟩:=z j _ q;obtain⟨d,v,J,c⟩:=h.boxes j y.1 y.2 n;cases e;have X:β j≠β i:=λe=>r (h.inj j i (by simp[n]) (by simp[hi]) e);rw[(u y.1 (Gl hw n).2).2];exact⟨d,by rw[Mem.set_ne X];exact v,J,c⟩
  hid:=λb o f=>by
   obtain⟨d,v,J,c⟩:=h.hid b o f;exact⟨d,by rw[Mem.set_ne (Ne.symm (c i (by simp[hi])))];exact v,J,λj q=>c j (g j q)⟩
  inj:=λj k q B=>h.inj j k (g j q) (g k B)}
end
section
variable{P:Program}{R:Ending->Mem->Prop}{O V0:Mem}{w0:World}{N:Nat}{L:List (List Value->Mem->Prop)}{ρ0:List Value}
structure Cn (ρ0:List Value)(L:List (List Value->Mem->Prop))(ρ:List Value)(st:St):Prop where
 pre:ρ0<+:ρ
 depth:L.length=st.depth
theorem Cn.putO{ρ0:List Value}{L:List (List Value->Mem->Prop)}{ρ:List Value}{st:St}(h:Cn ρ0 L ρ st)(d:Option Nat)(t:T):Cn ρ0 L ρ (st.putO d t):=by
 cases d<;>exact⟨h.1,h.2⟩
theorem Cn.more{ρ0:List Value}{L:List (List Value->Mem->Prop)}{ρ:List Value}{st:St}(h:Cn ρ0 L ρ st)(n:Nat)(vs:List Value):Cn ρ0 L (ρ++vs) (st.more n):=⟨h.1.trans (yC _ _),h.2⟩
theorem Cn.pubd{ρ0:List Value}{L:List (List Value->Mem->Prop)}{ρ:List Value}{st:St}(h:Cn ρ0 L ρ st)(i:Nat)(vs:List Value):Cn ρ0 L (ρ++vs) (st.pubd i):=⟨h.1.trans (yC _ _),h.2⟩
theorem Cn.compact{ρ0:List Value}{L:List (List Value->Mem->Prop)}{ρ:List Value}{st:St}(h:Cn ρ0 L ρ st)(keep:List Nat):Cn ρ0 L ρ (st.compact keep):=⟨h.1,h.2⟩
theorem Cn.now{ρ0:List Value}{L:List (List Value->Mem->Prop)}{ρ:List Value}{st:St}(h:Cn ρ0 L ρ st)(d:Nat)(t:T):Cn ρ0 L ρ (st.now d t):=⟨h.1,h.2⟩
theorem Cn.setBox{ρ0:List Value}{L:List (List Value->Mem->Prop)}{ρ:List Value}{st:St}(h:Cn ρ0 L ρ st)(i:Nat)(t:T)(ty:Nat):Cn ρ0 L ρ (st.setBox i t ty):=⟨h.1,h.2⟩
def AV(P:Program)(R:Ending->Mem->Prop)(O V0:Mem)(w0:World)(N:Nat)(L:List (List Value->Mem->Prop))(ρ0:List Value)(tmps:Array Value)(w:World)(st:St)(t:Tr):Prop:=
 ∃β ρ V,Cn ρ0 L ρ st/\Rel O V0 w0 N β st ρ V tmps w/\D P R t L ρ V
theorem JE{ns:List T}{k:Tr}{ρ:List Value}{V:Mem}(h:D P R (needs ns k) L ρ V)(β:Nat->Nat):(∀x∈ns,asB (x.ev ρ β)=true)/\D P R k L ρ V:=by
 induction ns with
 |nil=>exact⟨λx g=>by(cases g),h⟩
 |cons n ns f=>
  simp only[needs]at h;split at h
  ·rename_i y;obtain⟨j,t⟩:=h;obtain⟨u,z⟩:=f t;refine⟨λx g=>?_,z⟩;rcases yD.1 g with rfl|g;·grind[T.ev_free,id]
   ·exact u x g
  ·exact h.elim
theorem HK:∀(n:Nat)(st:St)(i:Nat)(k:St->Tr){tmps:Array Value}{w:World},AV P R O V0 w0 N L ρ0 tmps w st (GM n st i k)->∃g,AV P R O V0 w0 N L ρ0 tmps w g (k g)
 |0,st,i,k,tmps,w,⟨β,ρ,V,t,f,h⟩=>h.elim
 |n+1,st,i,k,tmps,w,⟨β,ρ,V,t,f,h⟩=>by
  simp only[GM]at h;split at h;·exact h.elim
  ·rename_i cs ty u;split at h
   ·rename_i j _;obtain⟨g,z⟩:=HK n st j _ ⟨β,ρ,V,t,f,h⟩;exact HK n g i k z
   ·rename_i y;split at h
    ·rename_i hw;have:=h (β i) (f.boxes i cs ty u).2.1;rw[(T.ev_free (β:=id) (β':=β) (ρ:=ρ) cs y).2]at this;exact⟨_,β,_,_,t.pubd _ _,f.pubd hw u,this⟩
    ·exact h.elim
theorem DK:∀(n:Nat)(st:St)(get:St->Option T)(k:St->T->Tr){tmps:Array Value}{w:World},AV P R O V0 w0 N L ρ0 tmps w st (pubT n st get k)->
  ∃h t,get h=some t/\t.firstBox=none/\AV P R O V0 w0 N L ρ0 tmps w h (k h t)
 |0,st,get,k,tmps,w,⟨β,ρ,V,f,u,g⟩=>g.elim
 |n+1,st,get,k,tmps,w,⟨β,ρ,V,f,u,g⟩=>by
  simp only[pubT]at g;split at g;·exact g.elim
  ·rename_i t z;split at g
   ·rename_i y;exact⟨st,t,z,y,β,ρ,V,f,u,g⟩
   ·rename_i i _;obtain⟨h,x⟩:=HK _ st i _ ⟨β,ρ,V,f,u,g⟩;exact DK n h get k x
theorem rk_vals{β:Nat->Nat}:∀(rs:List RK)(vs ρ σ:List Value),Shaped (rs.flatMap RK.kinds) vs->(Eu rs ρ.length).map (·.ev (ρ++vs++σ) β)=Gd rs vs
 |[],[],_,_,_=>rfl
 |[],_::_,_,_,h=>h.elim
 |.one k::rs,v::vs,ρ,σ,h=>by
  have t:=rk_vals (β:=β) rs vs (ρ++[v]) σ h.2;simp only[zw,List.length_singleton,zH,zI,List.nil_append]at t;simp only[Eu,zG,zH,zI,T.ev,t,Gd,RK.val,RK.size,List.take_succ_cons,List.take_zero,List.headD_cons,List.drop_succ_cons,List.drop_zero,yE,and_true];have:(ρ++v::(vs++σ)).getD ρ.length undef=v:=by simp[List.getD]
  rw[this];exact h.1
 |.one k::rs,[],_,_,h=>h.elim
 |.agg g::rs,vs,ρ,σ,h=>by
  have u:=K7 (ks:=g) (ls:=rs.flatMap RK.kinds) (vs:=vs) h;have f:(vs.take g.length).length=g.length:=u.1.length;have t:=rk_vals (β:=β) rs (vs.drop g.length) (ρ++vs.take g.length) σ u.2;have e:ρ++vs.take g.length++vs.drop g.length=ρ++vs:=by simp
  rw[e,zw,f]at t;have hv:=GW (β:=β) g (vs.take g.length) ρ (vs.drop g.length++σ) u.1;have z:ρ++vs.take g.length++(vs.drop g.length++σ)=ρ++vs++σ:=by grind
  grind[Eu,Gd,RK.val,RK.size,T.ev,CE]
theorem rk_val{β:Nat->Nat}(rs:List RK)(vs ρ:List Value)(h:Shaped (rs.flatMap RK.kinds) vs):(GK rs ρ.length).ev (ρ++vs) β=DW rs vs:=by
 have:=rk_vals (β:=β) rs vs ρ [] h;rw[List.append_nil]at this;unfold GK DW
 match rs,this,h with
 |[],_,_=>rfl
 |[r],this,h=>
  cases r with
  |one k=>
   simp only[Eu,zG,List.map_nil,Gd,RK.val,RK.size,yE,and_true]at this;simp only[Eu];rw[this];cases vs<;>simp[RK.val]
  |agg f=>
   have z:vs.length=f.length:=by have:=h.length;simpa [RK.kinds]using this
   grind[Eu,Gd,RK.val,RK.size]
 |r::g::rs,this,_=>
  have y:∃t u ts,Eu (r::g::rs) ρ.length=t::u::ts:=by cases r<;>cases g<;>exact⟨_,_,_,rfl⟩
  grind[T.ev,CE]
theorem G4{V:Mem}{w:World}(f:V.le w){b:Addr}{n:Nat}{vs:List Value}(h:V.row b n=some vs):vs.length=n/\∀j v,vs[j]?=some v->w.cell? (b.add j)=some v:=by
 unfold Mem.row at h;split at h
 ·rename_i c e fr t;split at h
  ·rename_i u;simp only[zF]at h;subst h;refine⟨by simp;omega,λj v x=>?_⟩;have z:b.spot=none:=by simpa using u.1
   have g:(b.add j)=⟨b.block,b.off+j,none⟩:=by
    cases b with
    |mk i y l=>grind[HF]
   rw[g];simp only[World.cell?,f _ _ t,Option.isSome_none,zN,if_false];grind
  ·simp at h
 ·simp at h
theorem Le{w:World}{ρ:List Value}{β:Nat->Nat}{t:TypeId}{cs x:T}{off:Nat}{b:Addr}(z:∀j v,(cs.evs ρ β)[j]?=some v->w.cell? (b.add j)=some v)(h:Dd P t cs off=some x):
  (loadVar t (b.add off)).run P w=.ok (x.ev ρ β) w:=by
 unfold Dd at h;split at h
 ·rename_i n f u;simp only at h;split at h
  ·rename_i y;simp only[zF]at h;subst h;have e:(takeT cs off n).map (·.ev ρ β)=((cs.evs ρ β).drop off).take n:=Jx cs off n;have g:(((cs.evs ρ β).drop off).take n).length=n:=by grind
   have:=run_loadCells_list (P:=P) w (b.add off) (((cs.evs ρ β).drop off).take n) (λj v i=>by
    grind[K4])
   rw[g]at this;simp only[loadVar,zK,FK f,zL,if_true,DY u,this,zM,T.ev,CE,e]
  ·simp at h
 ·rename_i n f u;have e:(cs.evs ρ β)[off]?=some (x.ev ρ β):=by simp[C9,h]
  simp_all[loadVar,zK,FK,zL,zN,if_false,run_load]
 ·simp at h
end
def Dz(P:Program)(fs:List Nat):Prop:=∀f∈fs,∀args w,(callFunc f args).run P w=.ok (.enter f args) w
section
variable{P:Program}{R:Ending->Mem->Prop}{O V0:Mem}{w0:World}{N:Nat}{L:List (List Value->Mem->Prop)}{ρ0:List Value}{fs:List Nat}{H:Ca}
theorem Gn{f:FuncId}{args:Array Value}{w:World}{R g:Ending->World->Prop}(h:Calls P f args w R)(t:∀e w',R e w'->g e w'):Calls P f args w g:=λcs=>
 let⟨e,w',fr,u,rest⟩:=h cs
 ⟨e,w',fr,t _ _ u,rest⟩
theorem Is{st:St}:∀{l:List Nat}{t:T},Ew st l=some t->∀s∈l,(l.zip t.toList).lookup s=st.get s
 |[],t,_,s,g=>by cases g
 |x::xs,t,h,s,g=>by
  simp only[Ew]at h;split at h
  ·rename_i z y f u;simp only[zF]at h;subst h;simp only[T.toList,List.zip_cons_cons,zc];by_cases e:s=x;·subst e;simp[f]
   ·have:(s==x)=false:=by simpa using e
    rw[this];exact Is u s (by rcases yD.1 g with h|h;exact absurd h e;exact h)
  ·simp at h
theorem It{st:St}:∀{l:List Nat}{t:T},Ew st l=some t->∀s∈l,∃x,st.get s=some x/\x∈t.toList
 |[],t,_,s,g=>by cases g
 |x::xs,t,h,s,g=>by
  simp only[Ew]at h;split at h
  ·rename_i z j i f;simp only[zF]at h;subst h;rcases yD.1 g with rfl|g;·grind[T.toList]
   ·obtain⟨y,u,hm⟩:=It f s g;exact⟨y,u,by simp[T.toList,hm]⟩
  ·simp at h
theorem Iu:∀{t:T}{x:T},t.firstBox=none->x∈t.toList->x.firstBox=none
 |.cons h t,x,f,g=>by
  simp only[T.firstBox,zD]at f;simp only[T.toList,yD]at g;rcases g with rfl|g;·exact f.1
  ·exact Iu f.2 g
 |.var _ _,x,_,g=>by simp[T.toList]at g
 |.int _ _,x,_,g=>by simp[T.toList]at g
 |.bool _,x,_,g=>by simp[T.toList]at g
 |.str _,x,_,g=>by simp[T.toList]at g
 |.und,x,_,g=>by simp[T.toList]at g
 |.nilp,x,_,g=>by simp[T.toList]at g
 |.nilsl,x,_,g=>by simp[T.toList]at g
 |.nilm,x,_,g=>by simp[T.toList]at g
 |.nilf,x,_,g=>by simp[T.toList]at g
 |.nili,x,_,g=>by simp[T.toList]at g
 |.box _ _,x,_,g=>by simp[T.toList]at g
 |.glob _,x,_,g=>by simp[T.toList]at g
 |.fn _ _,x,_,g=>by simp[T.toList]at g
 |.u _ _,x,_,g=>by simp[T.toList]at g
 |.b2 _ _ _,x,_,g=>by simp[T.toList]at g
 |.c3 _ _ _ _,x,_,g=>by simp[T.toList]at g
 |.nil,x,_,g=>by simp[T.toList]at g
 |.agg _,x,_,g=>by simp[T.toList]at g
 |.tup _,x,_,g=>by simp[T.toList]at g
theorem lookup_ev{ρ:List Value}:∀{l:List (Nat×T)}{s:Nat},(l.map λx=>(x.1,x.2.ev ρ id)).lookup s=(l.lookup s).map (·.ev ρ id)
 |[],_=>rfl
 |(n,t)::l,s=>by
  simp only[zG,zc];split;·rfl
  ·exact lookup_ev
theorem gval_eval{st:St}{β:Nat->Nat}{ρ:List Value}{V:Mem}{a:Act}{w:World}(j:Rel O V0 w0 N β st ρ V a.tmps w){l:List Operand}{t:T}(h:Ew st (ER l)=some t)(i:t.firstBox=none):
  ∀x∈l,a.eval x=gval ((ER l).zip t.toList) ρ x:=by
 intro x n;cases x with
 |tmp s=>
  have u:s∈ER l:=List.mem_filterMap.2 ⟨_,n,rfl⟩;obtain⟨y,z,hm⟩:=It h s u;have m:=Is h s u;simp only[gval,gv,lookup_ev,m,z,zJ,Option.getD_some];rw[(T.ev_free (β:=id) (β':=β) (ρ:=ρ) y (Iu i hm)).1];exact j.slots s y z
 |const v=>rfl
 |global g=>rfl
 |func f=>rfl
theorem Lf{st:St}{β:Nat->Nat}{ρ:List Value}{V:Mem}{a:Act}{w:World}(h:Rel O V0 w0 N β st ρ V a.tmps w){o:Oper}(y:ET o.op=false){t:T}(g:Ew st (ER o.op.operands.toList)=some t)(f:t.firstBox=none):
  execOp a.eval o=execOp (gval ((ER o.op.operands.toList).zip t.toList) ρ) { dst:=none,op:=o.op,type:=o.type,pos:= "",after:=#[],guard:=none}:=by
 have u:=execOp_congr (ρ:=a.eval) (ρ':=gval ((ER o.op.operands.toList).zip t.toList) ρ) o (λcs b e=>by grind[ET])
  (λx z=>gval_eval h g f x (by simpa using z))
 rw[u];rfl
variable{a:Act}{w:World}{st:St}{o:Oper}{k:St->Tr}{next:Act->World->Prop}{Q:Exit->Act->World->Prop}
def EY(R:Ending->Mem->Prop)(V0:Mem)(w0:World)(ds:List Deferred)(Q:Exit->Act->World->Prop):Prop:=∀chain h w',h.defers=ds->(∃V',R (.panicked chain) V'/\Aq V0 w0 V' w')->Q (.panic chain) h w'
theorem exCall_sound(l:Dz P fs)(hQ:EY R V0 w0 a.defers Q){c:Call}{f:Operand}(Y:o.op=.call c)(W:c.callee=.value f)(hd:Dm N o.dst=true)
  (h:AV P R O V0 w0 N L ρ0 a.tmps w st (exCall P fs st o c f k))
  (hk:∀n A w',(∃v,A=a.put o.dst v)->AV P R O V0 w0 N L ρ0 A.tmps w' n (k n)->next A w'):o.wp P a w next Q:=by
 obtain⟨β,ρ,V,Z,q,p⟩:=h;unfold exCall at p;split at p;·exact p.elim
 ·rename_i rs hrs;have after:∀(st:St)(β:Nat->Nat)(ρ:List Value)(V:Mem),Cn ρ0 L ρ st->Rel O V0 w0 N β st ρ V a.tmps w->st.wf=true->∀(g:FuncId)(args:Array Value),
    Tri P g args V (λe V'=>(∃vs,e=.returned (DW rs vs)/\Shaped (rs.flatMap RK.kinds) vs/\D P R (k ((st.more (Gf rs)).putO o.dst (GK rs st.nv))) L (ρ++vs) V')∨∃I,e=.panicked I/\R e V')->
    Calls P g args w fun
     |.returned v,b=>next (a.put o.dst v) b
     |.panicked chain,b=>Q (.panic chain) a b
     |.outgrown,_=>LetsOut Q:=by
   intro st β ρ V Z q hw g args ht;refine Gn (ht w q.frm.le) ?_;rintro e w' ⟨V',⟨vs,rfl,M,u⟩|⟨I,rfl,hR⟩,K⟩;rotate_left;·exact hQ I a w' rfl ⟨V',hR,(q.frame K).frm⟩
   refine hk _ _ _ ⟨_,rfl⟩ ⟨β,ρ++vs,V',(Z.more _ _).putO _ _,?_,u⟩;have hl:vs.length=Gf rs:=M.length;have S:=(q.frame K).bind hw vs;rw[hl]at S;exact S.putO hd _ (by rw[<-q.nv];grind[rk_val])
  split at p
  ·rename_i g0 F X;obtain⟨n,t,m,j,z,y,V',B,i,u⟩:=DK _ _ _ _ ⟨β,ρ,V,Z,q,p⟩;split at m
   ·rename_i g x ts d s;simp only[zF]at m;subst m;simp only at u;split at u
    ·rename_i r;unfold bind at u;split at u
     ·rename_i hw;simp only[D]at u;have U:a.eval f=.func (.func g) #[] (x.evs y z).toArray:=A3 i d;have e2:c.args.map a.eval=(ts.map (·.ev y z)).toArray:=by apply zg;rw[zf,HI i s]
      have C:=(T.ev_free (β:=id) (β':=z) (ρ:=y) (T.ofList (ts++x.toList)) (by grind[T.firstBox])).2;have E:(T.evs y id (T.ofList (ts++x.toList))).toArray=(ts.map (·.ev y z)).toArray++(x.evs y z).toArray:=by
       grind[CE,C9]
      have J:(execOp a.eval o).run P w=.ok (.enter g ((ts.map (·.ev y z)).toArray++(x.evs y z).toArray)) w:=by
       unfold execOp;simp only[Y,resolve,W,U,e2,yF,zK,zM,zL,invoke];rw[l g (List.contains_iff_mem.1 r)];simp
      grind[yG,Oper.upon]
     ·exact u.elim
    ·exact u.elim
   ·simp at m
  ·rename_i t0 X _;obtain⟨n,t,m,j,z,y,V',B,i,u⟩:=DK _ _ _ _ ⟨β,ρ,V,Z,q,p⟩;split at m
   ·rename_i t1 ts d s;simp only[zF]at m;subst m;simp only at u;unfold bind at u;split at u
    ·rename_i hw;simp only[D]at u;obtain⟨g,first,x,G,r,u⟩:=u;simp only[T.firstBox,zD]at j;rw[(T.ev_free (β:=id) (β':=z) (ρ:=y) t1 j.1).1]at G;have U:a.eval f=.func (.func g) first x:=(A3 i d).trans G
     have e2:c.args.map a.eval=(ts.map (·.ev y z)).toArray:=by apply zg;rw[zf,HI i s]
     have C:=(T.ev_free (β:=id) (β':=z) (ρ:=y) (T.ofList ts) j.2).2;have J:(execOp a.eval o).run P w=.ok (.enter g (first++(ts.map (·.ev y z)).toArray++x)) w:=by
      grind[execOp,resolve,yF,invoke]
     grind[yG,Oper.upon,CE]
    ·exact u.elim
   ·simp at m
  ·exact p.elim
end
section
variable{P:Program}{R:Ending->Mem->Prop}{O V0:Mem}{w0:World}{N:Nat}{L:List (List Value->Mem->Prop)}{ρ0:List Value}{fs:List Nat}{H:Ca}
variable{a:Act}{w:World}{st:St}{o:Oper}{k:St->Tr}{next:Act->World->Prop}{Q:Exit->Act->World->Prop}
theorem Iw{v:Value}{w':World}(h:(execOp a.eval o).run P w=.ok (.value v) w')(g:next (a.put o.dst v) w'):o.wp P a w next Q:=by
 unfold yG;rw[h];exact g
theorem JF{w':World}(h:(execOp a.eval o).run P w=.ok .skip w')(g:next (a.put o.dst undef) w'):o.wp P a w next Q:=by
 unfold yG;rw[h];exact g
theorem Eg(a:Act)(d:Option Nat)(v:Value):(a.put d v).defers=a.defers:=by cases d<;>rfl
theorem Lg(d:Dm N o.dst=true)
  (h:AV P R O V0 w0 N L ρ0 a.tmps w st (exGen P st o k))
  (s:∀y p w',(∃v,p=a.put o.dst v)->AV P R O V0 w0 N L ρ0 p.tmps w' y (k y)->next p w'):o.wp P a w next Q:=by
 obtain⟨β,ρ,V,J,G,j⟩:=h;unfold exGen at j;simp only at j;split at j;·exact j.elim
 ·rename_i r;have z:ET o.op=false:=by simpa using r
  split at j
  ·obtain⟨y,t,c,u,i,l,V',n,g,f⟩:=DK _ _ _ _ ⟨β,ρ,V,J,G,j⟩;simp only[D]at f;obtain⟨w',m,q,b,e⟩:=f w g.frm.le;rw[<-Lf g z c u]at q;refine JF q (s _ _ _ ⟨_,rfl⟩ ⟨i,l,m,n.putO _ _,?_,e⟩);exact(g.frame b).putO d .und rfl
  ·split at j;·exact j.elim
   ·rename_i rs Y;obtain⟨y,t,c,u,i,l,V',n,g,f⟩:=DK _ _ _ _ ⟨β,ρ,V,J,G,j⟩;unfold bind at f;split at f
    ·rename_i hw;simp only[D]at f;obtain⟨x,w',m,vs,q,b,rfl,e,W⟩:=f w g.frm.le;rw[<-Lf g z c u]at q;refine Iw q (s _ _ _ ⟨_,rfl⟩ ⟨i,l++vs,m,(n.more _ _).putO _ _,?_,W⟩);have A:vs.length=Gf rs:=e.length;have Z:=(g.frame b).bind hw vs;rw[A]at Z;exact Z.putO d _ (by rw[<-g.nv];grind[rk_val])
    ·exact f.elim
theorem Iy{p b i:T}{sz off:Nat}{e:Option Nat}{ρ:List Value}{β:Nat->Nat}(h:Gg p=(b,i,sz,off,e))(g:p.kind=some .p):
  match e with
  |some _=>AN (p.ev ρ β)=Aa (Aa (AN (b.ev ρ β)) ((Aj (i.ev ρ β)).toNat*sz)) off
  |none=>AN (p.ev ρ β)=Aa (AN (b.ev ρ β)) ((Aj (i.ev ρ β)).toNat*sz):=by
 unfold Gg at h;split at h;·grind[T.ev,U.ev,B.ev,AN]
 ·cases h;simp only[T.ev,B.ev,AN,HG,Nat.add_zero]
 ·grind[T.ev,U.ev,AN,Aj]
 ·cases h;simp_all[T.ev,Aj,Int.toNat_zero,Nat.zero_mul,AN,Aa,yH]
theorem exLoad_sound{t:TypeId}{x:Operand}(hop:o.op=.load t x)(hd:Dm N o.dst=true)
  (h:AV P R O V0 w0 N L ρ0 a.tmps w st (GO P st o.dst t x k))
  (hk:∀l A w',(∃v,A=a.put o.dst v)->AV P R O V0 w0 N L ρ0 A.tmps w' l (k l)->next A w'):o.wp P a w next Q:=by
 obtain⟨β,ρ,V,hp,hr,S⟩:=h;unfold GO at S;obtain⟨l,p,hg,I,f,u,V',M,n,g⟩:=DK _ _ _ _ ⟨β,ρ,V,hp,hr,S⟩;have hx:a.eval x=p.ev u f:=A3 n hg;have G:∀{b i sz y e},Gg p=(b,i,sz,y,e)->b.firstBox=none/\i.firstBox=none:=by
  intro b i sz y e s;unfold Gg at s;grind[T.firstBox]
 have go:∀(q:Addr)(r:List K)(vs:List Value)(y:Nat)(z:T),AN (p.ev u f)=some (q.add y)->p.kind=some .p->Shaped r vs->l.wf=true->
   (∀j v,vs[j]?=some v->w.cell? (q.add j)=some v)->Dd P t (T.ofList (vars r l.nv)) y=some z->D P R (k ((l.more r.length).putO o.dst z)) L (u++vs) V'->o.wp P a w next Q:=by
  intro q r vs y z c m Z hw hc W F;have hl:vs.length=r.length:=Z.length;have Y:=n.bind hw vs;rw[hl]at Y;have hev:(T.ofList (vars r l.nv)).evs (u++vs) f=vs:=by
   rw[CE,<-n.nv];have:=GW (β:=f) r vs u [] Z;simp_all
  have U:=Le (P:=P) (w:=w) (ρ:=u++vs) (β:=f) (b:=q) (by grind) W;obtain⟨p',X⟩:=Gk (ρ:=u) (β:=f) m;rw[X]at c;simp only[AN]at c;subst c;refine Iw (v:=z.ev (u++vs) f) ?_ (hk _ _ _ ⟨_,rfl⟩ ⟨f,u++vs,V',(M.more _ _).putO _ _,Y.putO hd z rfl,F⟩);grind[execOp,Instr.loadAt,zh,zK,zM,zL]
 split at g;case isFalse=>exact g.elim
 rename_i m;split at g
 ·rename_i b i sz y e s;obtain⟨B,C⟩:=G s;split at g
  ·rename_i r E;split at g
   ·rename_i hlen;unfold bind at g;split at g
    ·rename_i hw;split at g
     ·rename_i z W;simp only[D]at g;obtain⟨vs,d,h2,h3⟩:=g;have J:=Iy (ρ:=u) (β:=f) s m;simp only at J;rw[(T.ev_free (β:=id) (β':=f) (ρ:=u) b B).1,(T.ev_free (β:=id) (β':=f) (ρ:=u) i C).1]at d;cases c:AN (b.ev u f)with
      |none=>simp[c,Mem.rowp]at d
      |some q=>
       simp only[c,Mem.rowp]at d;obtain⟨_,h4⟩:=G4 n.frm.le d;grind[Aa]
     ·exact g.elim
    ·exact g.elim
   ·exact g.elim
  ·exact g.elim
 ·rename_i b i sz y s;obtain⟨B,C⟩:=G s;split at g
  ·rename_i r E;unfold bind at g;split at g
   ·rename_i hw;split at g
    ·rename_i z W;simp only[D]at g;obtain⟨vs,d,h2,h3⟩:=g;have J:=Iy (ρ:=u) (β:=f) s m;simp only at J;rw[(T.ev_free (β:=id) (β':=f) (ρ:=u) b B).1,(T.ev_free (β:=id) (β':=f) (ρ:=u) i C).1]at d;cases c:AN (b.ev u f)with
     |none=>simp[c,Mem.rowp]at d
     |some q=>
      simp only[c,Mem.rowp]at d;obtain⟨_,h4⟩:=G4 n.frm.le d;rw[c]at J;simp only[Aa,zJ]at J;exact go _ r vs 0 z (by rw[J,yH]) m h2 hw h4 W h3
    ·exact g.elim
   ·exact g.elim
  ·exact g.elim
end
section
variable{P:Program}{R:Ending->Mem->Prop}{O V0:Mem}{w0:World}{N:Nat}{L:List (List Value->Mem->Prop)}{ρ0:List Value}{fs:List Nat}{H:Ca}
variable{a:Act}{w:World}{st:St}{o:Oper}{k:St->Tr}{next:Act->World->Prop}{Q:Exit->Act->World->Prop}
theorem Lh{t:TypeId}{n g off:Nat}{v:Value}{vs:List Value}{h:Array Value}{ty:TypeId}(z:Cs P t=some n)(hv:v.cells.toList=vs)(y:vs.length=n)
  (f:w.heap[g]?=some (.cells h ty (0,0))) (j:off+n<=h.size) (i:∀x∈vs,FG x=true):
  (storeVar t ⟨g,off,none⟩ v).run P w=.ok () (w.setRow g (h.toList.take off++vs++h.toList.drop (off+n)).toArray):=by
 have u:v.cells.size=n:=by grind
 have:=run_storeCells_at (P:=P) g off ty vs 0 h w f (by omega) (λx l=>by grind[oneCell_eq]);simp_all[storeVar,zK,DY,zL,ne_eq,not_true_eq_false,if_false]
theorem kinds_one{t:T}{ρ:List Value}{β:Nat->Nat}(h:(CY t).isSome=true):∀x∈t.evs ρ β,FG x=true:=by
 obtain⟨g,f⟩:=yB.1 h;exact(K6 (ρ:=ρ) (β:=β) t g f).one
theorem Nc{t:TypeId}{x y:Operand}(hop:o.op=.store t x y)(Z:o.dst=none)
  (h:AV P R O V0 w0 N L ρ0 a.tmps w st (exStore st t (Cs P t) x y k))
  (hk:∀G B w',(∃v,B=a.put o.dst v)->AV P R O V0 w0 N L ρ0 B.tmps w' G (k G)->next B w'):o.wp P a w next Q:=by
 obtain⟨β,ρ,V,hp,Y,s⟩:=h;have J:∀v,(a.put o.dst v)=a:=by rw[Z];intro v;rfl
 unfold exStore at s;split at s
 ·rename_i i u v n C E K;split at s
  ·rename_i cs ty I;split at s
   ·rename_i S;obtain⟨h1,h2,W,h4⟩:=S;have U:=(Y.boxes i cs ty I).1;have e1:a.eval x=.pointer (some ⟨β i,u,none⟩):=A3 Y C;have e2:a.eval y=v.ev ρ β:=A3 Y E;have f:=Io (ρ:=ρ) (β:=β) W;have l:(v.cellsT.evs ρ β).length=n:=by grind[C9]
    have m:=Lh (P:=P) K f l U (by rw[zu,C9];simpa using h2) (kinds_one W);have e3:((cs.evs ρ β).toArray.toList.take u++v.cellsT.evs ρ β++(cs.evs ρ β).toArray.toList.drop (u+n))=(T.ofList (cs.toList.take u++v.cellsT.toList++cs.toList.drop (u+n))).evs ρ β:=by
     rw[CE];simp[C9,List.map_take,List.map_drop]
    rw[e3]at m;refine JF (w':=w.setRow (β i) ((T.ofList (cs.toList.take u++v.cellsT.toList++cs.toList.drop (u+n))).evs ρ β).toArray) ?_ (hk _ _ _ ⟨_,rfl⟩ ⟨β,ρ,V,hp.setBox _ _ _,?_,s⟩);·grind[execOp,yI,zh,zK,zM,zL]
    ·rw[J];exact Y.setBox I
   ·exact s.elim
  ·exact s.elim
 ·rename_i n _ _ _ K;obtain⟨G,q,M,j,g,z,V',hp',r,d⟩:=DK _ _ _ _ ⟨β,ρ,V,hp,Y,s⟩;split at M
  ·rename_i p v C E;simp only[zF]at M;subst M;simp only at d;split at d
   ·rename_i S;obtain⟨h1,h2,W,h4⟩:=S;simp only[T.firstBox,zD]at j;simp only[D]at d;obtain⟨b,c,ty,F,g2,g3,g4,g5⟩:=d;rw[(T.ev_free (β:=id) (β':=g) (ρ:=z) p j.1).1]at F;rw[(T.ev_free (β:=id) (β':=g) (ρ:=z) _ j.2).2]at g4 g5;obtain⟨p',A⟩:=Gk (ρ:=z) (β:=g) h1;rw[A]at F;simp only[AN]at F;subst F;have e1:a.eval x=.pointer (some b):=(A3 r C).trans A;have e2:a.eval y=v.ev z g:=A3 r E;have f:=Io (ρ:=z) (β:=g) W;have l:(v.cellsT.evs z g).length=n:=by grind[C9]
    have I:b=⟨b.block,b.off,none⟩:=by cases b;simp_all
    have U:=r.frm.le _ _ g2;simp only[Nat.add_zero,l]at g4 g5;have m:=Lh (P:=P) (off:=b.off) K f l U g4 (kinds_one W);rw[<-I]at m;refine JF (w':=w.setRow b.block (c.toList.take b.off++v.cellsT.evs z g++c.toList.drop (b.off+n)).toArray) ?_ (hk _ _ _ ⟨_,rfl⟩ ⟨g,z,_,hp',?_,g5⟩);·grind[execOp,yI,zh,zK,zM,zL]
    ·rw[J];refine r.frame ⟨by rw[Lb];omega,λi obj X=>?_,λi X hV=>?_,λi X=>?_,rfl,rfl⟩
     ·by_cases e:i=b.block;·grind[Mem.set_same,setRow_heap]
      ·rw[Mem.set_ne e]at X;rw[setRow_other w _ _ e];exact r.frm.le i obj X
     ·grind[setRow_other]
     grind[Mem.set_ne]
   ·exact d.elim
  ·simp at M
 ·exact s.elim
theorem JG{cs:T}{ty:Nat}{v:Nat->T}{x:Nat->Value}(m:Dm N o.dst=true)
  {β:Nat->Nat} {ρ:List Value} {V:Mem} (l:Cn ρ0 L ρ st) (r:Rel O V0 w0 N β st ρ V a.tmps w) (g:D P R (GN H st o.dst cs ty v k) L ρ V)
  (z:(execOp a.eval o).run P w=.ok (.value (x w.heap.size)) (w.alloc (.cells (cs.evs ρ β).toArray ty (0,0))))
  (hv:∀y:Nat->Nat,(v st.nb).ev ρ y=x (y st.nb))
  (n:∀f j w',(∃v,j=a.put o.dst v)->AV P R O V0 w0 N L ρ0 j.tmps w' f (k f)->next j w'):o.wp P a w next Q:=by
 unfold GN at g;split at g
 ·rename_i hw;simp only[zC]at hw;have i:=r.alloc hw.1 hw.2 ty;have q:x w.heap.size=(v st.nb).ev ρ (upd β st.nb w.heap.size):=by rw[hv];simp[upd]
  have t:Cn ρ0 L ρ (({st with boxes:=(st.nb,cs,ty)::st.boxes,nb:=st.nb+1}:St).putO o.dst (v st.nb)):=
   Cn.putO (st:={st with boxes:=(st.nb,cs,ty)::st.boxes,nb:=st.nb+1}) ⟨l.1,l.2⟩ _ _
  have u:=i.putO m (v st.nb) q;refine Iw z ?_;simp only at g;split at g
  ·rename_i d h;split at g
   ·obtain⟨f,p⟩:=HK _ _ _ _ ⟨_,_,_,t,u,by simpa [h]using g⟩;grind
   ·exact n _ _ _ ⟨_,rfl⟩ ⟨_,_,_,t,u,by omega⟩
  ·rename_i h;exact n _ _ _ ⟨_,rfl⟩ ⟨_,_,_,t,u,by omega⟩
 ·exact g.elim
theorem Iz{t:TypeId}{cs:List T}{ρ:List Value}{β:Nat->Nat}(h:Et P t=some cs):∃z,Ef P t=some z/\z.cells.toList=cs.map (·.ev ρ β):=by
 unfold Et at h;cases g:Ef P t with
 |none=>simp[g]at h
 |some z=>simp only[g,zr]at h;exact⟨z,rfl,(HH h).symm⟩
theorem mod_cells(g:List Value)(m:Nat)(h:g.length=m+1):∀n,(Array.range (n*(m+1))).map (λi=>(g.toArray[i % g.toArray.size]!))=(yJ n g).flatten.toArray:=by
 intro n;apply zg;simp only[zf,Array.toList_range,zu,h];apply zx;intro i;rw[List.getElem?_map];induction n generalizing i with
 |zero=>simp
 |succ n f=>
  by_cases z:i<n*(m+1)
  ·have y:=f i;have e:(yJ (n+1) g).flatten=(yJ n g).flatten++g:=by
    rw[show n+1=n+1 from rfl,yK,yL];simp
   grind
  ·have e:(yJ (n+1) g).flatten=(yJ n g).flatten++g:=by
    rw[show n+1=n+1 from rfl,yK,yL];simp
   have t:((yJ n g).flatten).length=n*(m+1):=by simp[h]
   rw[e,List.getElem?_append_right (by omega),t];by_cases x:i<(n+1)*(m+1)
   ·have u:i-n*(m+1)<m+1:=by grind
    have j:i % (m+1)=i-n*(m+1):=by
     have:i=(i-n*(m+1))+n*(m+1):=by omega
     rw[this,Nat.add_mul_mod_self_right,Nat.mod_eq_of_lt u];omega
    simp_all
   grind
end
section
variable{P:Program}{R:Ending->Mem->Prop}{O V0:Mem}{w0:World}{N:Nat}{L:List (List Value->Mem->Prop)}{ρ0:List Value}{fs:List Nat}{H:Ca}
theorem Nf{a:Act}{w:World}{st:St}{o:Oper}{x:Operand}{next:Act->World->Prop}{Q:Exit->Act->World->Prop}(i:EY R V0 w0 a.defers Q)(u:o.op=.panic x)
  (h:AV P R O V0 w0 N L ρ0 a.tmps w st (exPanic st x)):o.wp P a w next Q:=by
 obtain⟨l,t,n,g,β,ρ,V,q,z,y⟩:=DK _ _ _ _ h;simp only[D]at y;obtain⟨ty,v,j,m⟩:=y;rw[(T.ev_free (β:=id) (β':=β) (ρ:=ρ) t g).1]at j;have r:a.eval x=.iface ty v:=(A3 z n).trans j;have f:(execOp a.eval o).run P w=.halt (.panic (.iface ty v)) w:=by
  unfold execOp;simp only[u,r];rfl
 unfold yG;rw[f];exact i _ a w rfl ⟨V,m,z.frm⟩
theorem Li(r:Dz P fs){a:Act}{w:World}{st:St}{o:Oper}{k:St->Tr}{next:Act->World->Prop}{Q:Exit->Act->World->Prop}(K:EY R V0 w0 a.defers Q)
  (h:AV P R O V0 w0 H.N L ρ0 a.tmps w st (exOp P fs H st o k))
  (q:∀s M w',(∃v,M=a.put o.dst v)->AV P R O V0 w0 H.N L ρ0 M.tmps w' s (k s)->next M w'):o.wp P a w next Q:=by
 obtain⟨β,ρ,V,m,l,g⟩:=h;unfold exOp at g;split at g;case isFalse=>exact g.elim
 rename_i d;split at g
 ·rename_i ns t F;obtain⟨J,A⟩:=JE g β;exact Iw (Jz l F J) (q _ _ _ ⟨_,rfl⟩ ⟨β,ρ,V,m.putO _ _,l.putO d t rfl,A⟩)
 ·split at g
  ·rename_i e x u;split at g
   ·rename_i v U;split at g
    ·rename_i X;have p:=Io (ρ:=ρ) (β:=β) X;refine JG (x:=λb=>.pointer (some ⟨b,0,none⟩)) d m l g ?_ (λ_=>rfl) q;unfold execOp;simp only[u,Instr.box,newVar,newRow,zK,run_newObj,zM,zL,A3 l U,<-p,yM];rfl
    ·exact g.elim
   ·exact g.elim
  ·rename_i e u;split at g
   ·rename_i cs B;obtain⟨z,J,A⟩:=Iz (ρ:=ρ) (β:=β) B;refine JG (x:=λb=>.pointer (some ⟨b,0,none⟩)) d m l g ?_ (λ_=>rfl) q;unfold execOp;simp only[u,Instr.alloc,Il J,newVar,newRow,zK,run_newObj,zM,zL,CE,<-A,yM];rfl
   ·exact g.elim
  ·rename_i t n parts u;split at g
   ·rename_i e hu;split at g
    ·rename_i sz z ps S B C;split at g
     ·rename_i cs hf;split at g
      ·rename_i hc;obtain⟨zv,J,A⟩:=Iz (ρ:=ρ) (β:=β) B;have I:=Ip (ρ:=ρ) (β:=β) hf;refine JG (x:=λb=>.slice (some ⟨b,0,none⟩) n n) d m l g ?_ (λβ'=>by rfl) q;have G:(parts.map λ(i,x)=>(i,a.eval x)).toList=ps.map (λx=>(x.1,x.2.ev ρ β)):=by rw[<-Iq l C,zf]
       unfold execOp;have j:¬n*(sz+1)>2^24:=by omega
       have D:zv.cells=(z.map (·.ev ρ β)).toArray:=by grind
       have Z:(yJ n z).flatten.map (·.ev ρ β)=(yJ n (z.map (·.ev ρ β))).flatten:=by simp_all
       rw[Z]at I;have Y:=mod_cells (z.map (·.ev ρ β)) sz (by simpa using hc.2) n;by_cases T:n*(sz+1)=0
       ·obtain rfl:n=0:=by grind
        simp only[List.replicate_zero,List.flatten_nil]at I;have e0:Array.range (0*(sz+1))=#[]:=by simp
        simp only[u,yN,run_underlying hu,DY S,zK,zL,G,if_neg j,if_pos T,zM,e0,Array.map_empty,I];simp[CE,newRow]
       ·simp only[u,yN,run_underlying hu,DY S,zK,zL,G,if_neg j,if_neg T,Il J,zM,D,Y,I];simp[CE,newRow]
      ·exact g.elim
     ·exact g.elim
    ·exact g.elim
   ·exact g.elim
  ·rename_i t x u;exact exLoad_sound u d ⟨β,ρ,V,m,l,g⟩ q
  ·rename_i t x y u;split at g
   ·rename_i W;exact Nc u W ⟨β,ρ,V,m,l,g⟩ q
   ·exact g.elim
  ·rename_i c u;split at g
   ·rename_i f E;exact exCall_sound r K u E d ⟨β,ρ,V,m,l,g⟩ q
   ·exact Lg d ⟨β,ρ,V,m,l,g⟩ q
   ·exact g.elim
  ·rename_i x u;exact Nf K u ⟨β,ρ,V,m,l,g⟩
  ·exact Lg d ⟨β,ρ,V,m,l,g⟩ q
theorem Rel.getD_size{O V0:Mem}{w0:World}{N:Nat}{β:Nat->Nat}{st:St}{ρ:List Value}{V:Mem}{tmps:Array Value}{w:World}(h:Rel O V0 w0 N β st ρ V tmps w){d:Nat}{t:T}(g:st.get d=some t):
  tmps.getD d undef=t.ev ρ β:=h.slots d t g
theorem JH{all:Array Oper}{tmps:Array Value}{j d:Nat}(g:(all[j]?).bind (·.dst)=some d):yielded all tmps j=match tmps.getD d undef with|.bool b=>some b|_=>none:=by
 unfold yielded;rw[g];by_cases h:d<tmps.size
 ·simp only[zr,z7,h,dif_pos,getElem?_pos];show _=match tmps[d]with|.bool b=>some b|_=>none
  grind
 ·simp only[zr,z7,h,dif_neg,not_false_eq_true];rw[getElem?_neg tmps d h];rfl
theorem HL(f:Dz P fs){all:Array Oper}{k:St->Tr}{Q:Exit->Act->World->Prop}:∀(l:List Oper)(st:St)(a:Act)(w:World),
  EY R V0 w0 a.defers Q->AV P R O V0 w0 H.N L ρ0 a.tmps w st (Fo P fs H all l st k)->
  (∀i q w',q.defers=a.defers->AV P R O V0 w0 H.N L ρ0 q.tmps w' i (k i)->Q .normal q w')->wpList P all Q l a w
 |[],st,a,w,_,⟨β,ρ,V,z,y,t⟩,Y=>Y _ a w rfl ⟨β,ρ,V,z.compact _,y.compact _,t⟩
 |o::rest,st,a,w,I,h,Y=>by
  have n:∀st,yO o (yielded all a.tmps)=true->AV P R O V0 w0 H.N L ρ0 a.tmps w st (exOp P fs H st o λst=>Fo P fs H all rest st k)->wpList P all Q (o::rest) a w:=by
   intro st hw s;unfold wpList;rw[if_pos hw];refine .inl (Li f I s λi q w' M F=>?_);have J:q.defers=a.defers:=by obtain⟨v,rfl⟩:=M;exact Eg _ _ _
   exact HL f rest i q w' (by rw[J];exact I) F λx m r X B=>Y x m r (X.trans J) B
  have W:∀st,yO o (yielded all a.tmps)=false->AV P R O V0 w0 H.N L ρ0 a.tmps w st (if Dm H.N o.dst then Fo P fs H all rest (st.putO o.dst .und) k else .bad 35 0)->wpList P all Q (o::rest) a w:=by
   intro st hw s;unfold wpList;rw[if_neg (by rw[hw];simp)];obtain⟨β,ρ,V,z,y,t⟩:=s;split at t
   ·rename_i S;refine HL f rest _ _ w (by rw[Eg];exact I) ⟨β,ρ,V,z.putO _ _,y.putO S .und rfl,t⟩ λx m r X B=>Y x m r (X.trans (Eg _ _ _)) B
   ·exact t.elim
  simp only[Fo]at h;split at h;·grind[yO]
  ·rename_i j G s;split at h;·obtain⟨β,ρ,V,z,y,t⟩:=h;exact t.elim
   ·rename_i d U;have p:=JH (tmps:=a.tmps) U;have C:yO o (yielded all a.tmps)=(yielded all a.tmps j==some G):=by simp[yO,s]
    obtain⟨β,ρ,V,z,y,t⟩:=h;split at t
    ·rename_i v hv;rw[y.getD_size hv]at p;simp only[T.ev]at p;split at t;·rename_i e;subst e;exact n st (by simp_all) ⟨β,ρ,V,z,y,t⟩
     ·rename_i e;exact W st (by simp_all) ⟨β,ρ,V,z,y,t⟩
    ·rename_i hv;rw[y.getD_size hv]at p;have:yielded all a.tmps j=none:=by rw[p];rfl
     exact W st (by grind) ⟨β,ρ,V,z,y,t⟩
    ·rename_i c _ _ hv;split at t
     ·rename_i hc;obtain⟨E,K,hc3⟩:=hc;obtain⟨b,A⟩:=Fq (ρ:=ρ) (β:=β) E;rw[y.getD_size hv,A]at p;simp only at p;simp only[D]at t;have Z:=(T.ev_free (β:=id) (β':=β) (ρ:=ρ) c K).1;have g:Rel O V0 w0 H.N β (st.now d (.bool b)) ρ V a.tmps w:=y.now hv (by rw[A];rfl);cases b with
      |true=>
       have u:=t.1 (by rw[Z,A];rfl);split at u;·rename_i e;exact n _ (by simp_all) ⟨β,ρ,V,z.now _ _,g,u⟩
       ·rename_i e;exact W _ (by simp_all) ⟨β,ρ,V,z.now _ _,g,u⟩
      |false=>
       have u:=t.2 (by rw[Z,A];rfl);split at u;·rename_i e;exact W _ (by simp_all) ⟨β,ρ,V,z.now _ _,g,u⟩
       ·rename_i e;exact n _ (by simp_all) ⟨β,ρ,V,z.now _ _,g,u⟩
     ·exact t.elim
    ·exact t.elim
end
end Go.Sx
