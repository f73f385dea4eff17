/- Part 2: no statement of the seat is proved here. -/
import Derived.Test.YtgdmkmfchcflpaaGreatDoorPe01
import Derived.MapKept
set_option linter.unusedVariables false
set_option linter.unusedSimpArgs false
open List renaming length_cons->zy,ext_getElem?->zx,length_append->zw,map_cons->zG,size_toArray->zu,mem_singleton->zO,lookup_cons->zc,mem_cons_self->zb,mem_cons_of_mem->za,all_eq_true->z6,filter_cons->z8,prefix_append->yC,mem_cons->yD,append_assoc->zH,cons_append->zI,replicate->yJ,replicate_succ'->yK,flatten_append->yL
open Option.some renaming injEq->zF
open Bool renaming and_eq_true->zC,false_eq_true->zN
open Go.Instr renaming build->zt,indexAt->zq,sliceAt->zp,slice->zn,sliceBounds->zm,sliceBound->zl,sureAddr->zh,storeAt->yI,buildSlice->yN
open Option renaming bind_some->zr,map_some->zJ,map_eq_some_iff->zi,map_none->ze,isSome_iff_exists->yB,or_eq_none_iff->zD
open Go.Sem renaming run_bind->zK,run_pure->zM
open Go.Result renaming andThen_ok->zL
open Int renaming eq_ofNat_of_zero_le->zo,natCast_inj->zj
open Go.Value.int renaming injEq->zk
open Go.Op renaming equalIn->zX
open Prod.mk renaming injEq->zS
open Array renaming ext'->zg,toList_map->zf,getD->z7,getElem?_eq_some_iff->yA,toArray_toList->yM
open Go.Builtin renaming len_->zd
open Go.Value renaming pointer->zY
open List.cons renaming injEq->yE
open Go.Deferred renaming ofValue->yF
open Go.Oper renaming wp->yG
open Go.Addr renaming add_zero'->yH
open Go.Region renaming wanted->yO
namespace Go.Sx
open Go
section
variable{P:Program}{O V0:Mem}{w0:World}{N:Nat}{β:Nat->Nat}{st:St}{ρ:List Value}{V:Mem}{a:Act}{w:World}
theorem IC{t:T}(h:(C6 t.cellsT).isSome=true):(t.ev ρ β).cells.toList=t.cellsT.evs ρ β:=by
 have key:∀s:T,s.cellsT=.cons s .nil->(C6 s.cellsT).isSome=true->(s.ev ρ β).cells.toList=s.cellsT.evs ρ β:=by
  intro s z g;rw[z]at g⊢;simp only[C6]at g;cases f:s.kind with
  |none=>simp[f]at g
  |some k=>
   have u:=K.ok_one (T.kind_ok (ρ:=ρ) (β:=β) s k f);simp only[T.evs];generalize s.ev ρ β=v at u⊢;cases v<;>first|rfl|simp[FI]at u
 cases t with
 |agg y=>rfl
 |_=>exact key _ rfl h
theorem foldl_set:∀(vs:List Value)(k off:Nat)(cs:List Value),off+k+vs.length<=cs.length->
  (vs.zipIdx k).foldl (λcs (x:Value×Nat)=>cs.setIfInBounds (off+x.2) x.1) cs.toArray=(cs.take (off+k)++vs++cs.drop (off+k+vs.length)).toArray
 |[],k,off,cs,_=>by simp
 |v::vs,k,off,cs,h=>by
  simp only[zy]at h;have g:=foldl_set vs (k+1) off (cs.set (off+k) v) (by simp;omega);simp only[List.zipIdx_cons,List.foldl_cons,List.setIfInBounds_toArray];rw[g];congr 1;apply zx;intro j;simp only[List.getElem?_append,zw,List.length_take,List.length_set,List.getElem?_take,List.getElem?_drop,List.getElem?_set,zy];grind
theorem ID{g:Nat->Option (Nat×Nat)}:∀{ps:List (Nat×T)}{cells cs:List T},Fg g cells ps=some cs->
  Instr.fill g (cells.map (·.ev ρ β)).toArray (ps.map λx=>(x.1,x.2.ev ρ β))=some (cs.map (·.ev ρ β)).toArray
 |[],cells,cs,h=>by simp only[Fg,zF]at h;subst h;rfl
 |(i,t)::ps,cells,cs,h=>by
  simp only[Fg]at h;split at h;·simp at h
  ·rename_i f size y;split at h
   ·rename_i j;obtain⟨m,r,l⟩:=j;have q:=ID h;have u:=IC (ρ:=ρ) (β:=β) l;have n:((t.ev ρ β).cells.toList).length=size:=by grind[Dj]
    have z:(t.ev ρ β).cells.size=size:=by simpa using n
    simp only[zG,Instr.fill,y,z,ne_eq,not_true_eq_false,zu,List.length_map,decide_false,Bool.false_or,gt_iff_lt,decide_eq_true_eq];rw[if_neg (by omega)];have p:(t.ev ρ β).cells.zipIdx.foldl (λcs (x:Value×Nat)=>cs.setIfInBounds (f+x.2) x.1) (cells.map (·.ev ρ β)).toArray=
      ((cells.take f++t.cellsT.toList++cells.drop (f+size)).map (·.ev ρ β)).toArray:=by
     rw[<-Array.foldl_toList,Array.toList_zipIdx,foldl_set _ 0 f _ (by simp_all)];grind[Dj,List.map_take,List.map_drop]
    simp_all
   ·simp at h
theorem IE(h:Rel O V0 w0 N β st ρ V a.tmps w):∀{l:List (Nat×Operand)}{ps:List (Nat×T)},partsT st l=some ps->l.map (λx=>(x.1,a.eval x.2))=ps.map λx=>(x.1,x.2.ev ρ β)
 |[],ps,g=>by grind[partsT]
 |(i,o)::l,ps,g=>by
  simp only[partsT]at g;split at g
  ·rename_i t f u z;simp only[zF]at g;subst g;simp only[zG,A5 h u,IE h z]
  ·simp at g
theorem places_eq(fs:List Field)(h:fs.all (λf=>(Ch P f.type).isSome)=true):∃g:List (Nat×Nat),fs.mapM (λ(f:Field)=>(P.info? f.type).map λi=>(f.offset,i.size))=some g/\
  ∀i:Nat,g[i]?=(fs[i]?).bind λ(f:Field)=>(Ch P f.type).map λs=>(f.offset,s):=by
 induction fs with
 |nil=>simp_all
 |cons f fs u=>
  simp only[List.all_cons,zC]at h;obtain⟨z,x,j⟩:=u h.2;cases y:P.info? f.type with
  |none=>simp[Ch,y]at h
  |some t=>
   refine⟨(f.offset,t.size)::z,by simp_all,λi=>?_⟩;grind[Ch]
theorem run_buildT{t:TypeId}{fs:Array Field}{z cs:List T}{parts:Array (Nat×Operand)}{ps:List (Nat×T)}(y:Rel O V0 w0 N β st ρ V a.tmps w)(j:P.underlying t=some (.struct fs))
  (g:Ez P t=some z) (l:partsT st parts.toList=some ps) (n:fs.toList.all (λf=>(Ch P f.type).isSome)=true) (m:Fg (Iu P fs) z ps=some cs):
  (zt t (parts.map λ(i,x)=>(i,a.eval x))).run P w=.ok (.agg (cs.map (·.ev ρ β)).toArray) w:=by
 apply run_build;unfold Program.built;unfold Ez Eo at g;cases u:P.info? t with
 |none=>simp[u]at g
 |some r=>
  simp only[u,zr]at g;cases h:r.zero with
  |none=>simp[h]at g
  |some q=>
   simp only[h,zr]at g;obtain⟨p,c,b⟩:=places_eq fs.toList n;simp only[j,h,c];have e:(λi=>p.toArray[i]?)=Iu P fs:=by
    grind[Iu]
   have d:z.map (·.ev ρ β)=q.cells.toList:=HL g;have s:=IE y l;have:=ID (ρ:=ρ) (β:=β) m;simp_all
theorem run_buildA{t e:TypeId}{n:Nat}{sz:Nat}{z cs:List T}{parts:Array (Nat×Operand)}{ps:List (Nat×T)}(y:Rel O V0 w0 N β st ρ V a.tmps w)(j:P.underlying t=some (.array n e))
  (g:Ez P t=some z) (l:partsT st parts.toList=some ps) (m:Ch P e=some sz) (r:Fg (λi=>some (i*sz,sz)) z ps=some cs):
  (zt t (parts.map λ(i,x)=>(i,a.eval x))).run P w=.ok (.agg (cs.map (·.ev ρ β)).toArray) w:=by
 unfold Ez Eo at g;cases f:P.info? t with
 |none=>simp[f]at g
 |some q=>
  simp only[f,zr]at g;cases h:q.zero with
  |none=>simp[h]at g
  |some u=>
   simp only[h,zr]at g;have p:Eo P t=some u:=by unfold Eo;rw[f];exact h
   have c:z.map (·.ev ρ β)=u.cells.toList:=HL g;have s:=IE y l;have b:=ID (ρ:=ρ) (β:=β) r;rw[c]at b;have d:(parts.map λ(x:Nat×Operand)=>(x.1,a.eval x.2)).toList=ps.map λx=>(x.1,x.2.ev ρ β):=by simp_all
   unfold zt;simp only[zK,IA p,zL,run_underlying j,DZ m,d];simp_all[zM]
theorem run_indexAtT{t e:TypeId}{s j:T}{k:IntKind}{sz:Nat}(J:P.underlying t=some (.slice e))(m:s.kind=some .sl)(G:j.kind=some (.i k))(Z:Ch P e=some sz)
  (g:∀z∈nn (DY s)++[.b2 .le (.int .i64 0) j,.b2 .lt j (slLen s)],asB (z.ev ρ β)=true):
  (zq t (s.ev ρ β) (j.ev ρ β)).run P w=.ok ((paddT e sz (DY s) j).ev ρ β) w:=by
 obtain⟨p,n,c,f⟩:=G2 (ρ:=ρ) (β:=β) m;obtain⟨i,u⟩:=Eg (ρ:=ρ) (β:=β) G;have r:=g (.b2 .le (.int .i64 0) j) (by simp);have d:=g (.b2 .lt j (slLen s)) (by simp);simp only[T.ev,B.ev,u,Ag,asB,decide_eq_true_eq,Iz,f,Ey]at r d;have v:AC ((DY s).ev ρ β)=p:=by rw[LF s m,f,AC]
 have y:∃q,p=some q:=by
  have W:(DY s).kind=some .p∨∃a b c,s=.c3 .slc a b c:=by
   unfold DY;split;·simp_all
   ·exact .inl rfl
  have x:AC ((DY s).ev ρ β)≠none:=by
   unfold nn at g;intro l;split at g;·simp[*,T.ev,AC]at l
   ·simp[*,T.ev,AC]at l
   ·have h:=g _ (List.mem_append_left _ (zO.2 rfl));simp[T.ev,U.ev,asB,l]at h
  rw[v]at x;cases p with
  |none=>simp_all
  |some q=>grind
 obtain⟨q,rfl⟩:=y;obtain⟨h,A,Y⟩:=paddT_ev (ρ:=ρ) (β:=β) e sz (DY s) j;rw[v,u]at h;simp only[Ag,Aa,zJ]at h;rw[Y]at h⊢;simp only[AC]at h;subst h;rw[f,u];simp[zq,run_underlying J,asIntOf,r,d,DZ Z]
theorem sbyte_at{s:KB}{i:Int}(f:0<=i)(t:i<s.size):∃b,s[i.toNat]?=some b/\Du s i=b.toNat:=by
 have h:i.toNat<s.size:=by omega
 have g:s.data[i.toNat]?=some (s.data[i.toNat]'(by simpa using h)):=Array.getElem?_eq_getElem _;refine⟨s.data[i.toNat]'(by simpa using h),?_,by simp[Du,g]⟩;rw[getElem?_pos s i.toNat h];rfl
theorem run_indexT{t:TypeId}{s j:T}{k:IntKind}(y:P.underlying t=some .string)(g:s.kind=some .s)(f:j.kind=some (.i k))(h:asB ((T.b2 .sidxok s j).ev ρ β)=true):
  (Instr.index t (s.ev ρ β) (j.ev ρ β)).run P w=.ok ((T.b2 .sidx s j).ev ρ β) w:=by
 obtain⟨b,u⟩:=FL (ρ:=ρ) (β:=β) g;obtain⟨i,z⟩:=Eg (ρ:=ρ) (β:=β) f;simp only[T.ev,B.ev,u,z,asB,AE,Ag,decide_eq_true_eq]at h;obtain⟨c,x,l⟩:=sbyte_at h.1 h.2;simp_all[Instr.index,run_underlying,asIntOf,T.ev,B.ev,AE,Ag]
theorem run_sliceS{t:TypeId}{s l h:T}{j k:IntKind}{lo hi:Option Operand}(z:P.underlying t=some .string)(c:s.kind=some .s)(e:l.kind=some (.i j))(d:h.kind=some (.i k))
  (el:lo.map a.eval=some (l.ev ρ β)∨lo=none/\l=.int .i64 0) (n:hi.map a.eval=some (h.ev ρ β)∨hi=none/\h=.u .slen s) (r:asB ((T.c3 .bnd l h (.u .slen s)).ev ρ β)=true):
  (zp t (s.ev ρ β) (lo.map a.eval) (hi.map a.eval) none).run P w=.ok ((T.c3 .ssub s l h).ev ρ β) w:=by
 obtain⟨b,g⟩:=FL (ρ:=ρ) (β:=β) c;obtain⟨x,m⟩:=Eg (ρ:=ρ) (β:=β) e;obtain⟨y,f⟩:=Eg (ρ:=ρ) (β:=β) d;simp only[T.ev,C.ev,U.ev,g,m,f,asB,AE,Ag,decide_eq_true_eq]at r;obtain⟨v,J,G⟩:=r;obtain⟨x,rfl⟩:=zo v;obtain⟨y,rfl⟩:=zo (show 0<=y by omega);have q:x<=y:=by omega
 have p:y<=b.size:=by omega
 rcases el with el|⟨rfl,rfl⟩<;>rcases n with n|⟨rfl,rfl⟩
 ·simp[zp,run_underlying z,zn,zm,zl,asIntOf,el,n,g,m,f,q,p,T.ev,C.ev,AE,Ag]
 ·simp only[T.ev,U.ev,g,AE,zk,zj]at f;obtain⟨-,rfl⟩:=f;simp[zp,run_underlying z,zn,zm,zl,asIntOf,el,g,m,q,T.ev,C.ev,U.ev,AE,Ag]
 ·simp[zp,run_underlying z,zn,zm,zl,asIntOf,n,g,f,p,T.ev,C.ev,AE,Ag]
 ·simp[zp,run_underlying z,zn,zm,g,T.ev,C.ev,U.ev,AE,Ag]
theorem run_sliceL{t e:TypeId}{s l h:T}{j k:IntKind}{sz:Nat}{lo hi:Option Operand}(J:P.underlying t=some (.slice e))(G:Ch P e=some sz)(q:s.kind=some .sl)(Z:l.kind=some (.i j))(Y:h.kind=some (.i k))
  (el:lo.map a.eval=some (l.ev ρ β)∨lo=none/\l=.int .i64 0) (r:hi.map a.eval=some (h.ev ρ β)∨hi=none/\h=slLen s) (b:asB ((T.c3 .bnd l h (EB s)).ev ρ β)=true):
  (zp t (s.ev ρ β) (lo.map a.eval) (hi.map a.eval) none).run P w=
   .ok ((T.c3 .slc (.c3 (.slp sz) (DY s) l (EB s)) (.b2 (.sub .i64) h l) (.b2 (.sub .i64) (EB s) l)).ev ρ β) w:=by
 obtain⟨p,n,c,z⟩:=G2 (ρ:=ρ) (β:=β) q;obtain⟨x,f⟩:=Eg (ρ:=ρ) (β:=β) Z;obtain⟨y,u⟩:=Eg (ρ:=ρ) (β:=β) Y;have g:=LF (ρ:=ρ) (β:=β) s q;simp only[T.ev,C.ev,J4,z,f,u,asB,Ag,asCap,decide_eq_true_eq]at b;obtain⟨W,I,M⟩:=b;obtain⟨x,rfl⟩:=zo W;obtain⟨y,rfl⟩:=zo (show 0<=y by omega);have d:x<=y:=by omega
 have v:y<=c:=by omega
 have A:(T.c3 .slc (.c3 (.slp sz) (DY s) l (EB s)) (.b2 (.sub .i64) h l) (.b2 (.sub .i64) (EB s) l)).ev ρ β=
   .slice (if c=x then p else Aa p (x*sz)) (y-x) (c-x):=by
  rw[z]at g;simp only[T.ev,C.ev,B.ev,g,J4,z,f,u];grind[Ag,AC,asCap]
 have m:((zm true n c (lo.map a.eval) (hi.map a.eval) none).run P w:Result (Nat×Nat×Nat))=.ok (x,y,c) w:=by
  rcases el with el|⟨rfl,rfl⟩<;>rcases r with r|⟨rfl,rfl⟩
  ·simp[zm,zl,asIntOf,el,r,f,u,d,v]
  ·rw[Iz,z]at u;simp only[Ey,zk,zj]at u;obtain⟨-,rfl⟩:=u;simp[zm,zl,asIntOf,el,f,d]
  ·simp only[T.ev,zk]at f;obtain⟨-,f⟩:=f;obtain rfl:x=0:=by omega
   simp[zm,zl,asIntOf,r,u,v]
  ·simp only[T.ev,zk]at f;obtain⟨-,f⟩:=f;obtain rfl:x=0:=by omega
   rw[Iz,z]at u;simp only[Ey,zk,zj]at u;obtain⟨-,rfl⟩:=u;rfl
 rw[A,z];simp only[zp,zK,run_underlying J,zL,zn,m,DZ G,zM];rfl
end
section
variable{P:Program}{ρ:List Value}{β:Nat->Nat}{w:World}
theorem run_eqFs{g:TypeId->T->T->Option T}{n:Nat}{cs ds:T}(l:∀t x y z,g t x y=some z->∃b,z.ev ρ β=.bool b/\(zX n t (x.ev ρ β) (y.ev ρ β)).run P w=.ok b w) :
    ∀(fs:List Field)(z:T),eqFs g P cs ds fs=some z->∃b,z.ev ρ β=.bool b/\
      (do for f in fs do
            if f.name≠ "_" then
              if !(<-zX n f.type (<-part f.type (cs.evs ρ β).toArray f.offset) (<-part f.type (ds.evs ρ β).toArray f.offset))then return false
          pure true:Sem Bool).run P w=.ok b w:=by
  intro fs;induction fs with
  |nil=>
    intro z h;simp only[eqFs,zF]at h;subst h;exact⟨true,rfl,by simp⟩
  |cons f fs m=>
    intro z h;unfold eqFs at h;split at h;· cases h
    rename_i u;split at h;case h_2=>cases h
    rename_i x y q p;split at h;case h_2=>cases h
    rename_i a c;obtain⟨b,s,e⟩:=l _ _ _ _ c;simp only[List.forIn_cons,u,ne_eq,not_false_eq_true,if_true,zK,J6 q,J6 p,zL,e];cases b with
    |false=>
      refine⟨false,?_,by simp⟩;split at h;· grind
      · rw[zi]at h;obtain⟨r,j,rfl⟩:=h;grind[T.ev,B.ev,asB]
    |true=>
      split at h;· simp_all
      · rw[zi]at h;obtain⟨r,j,rfl⟩:=h;obtain⟨v,d,i⟩:=m r j;simp_all[T.ev,B.ev,asB,zK]
theorem run_eqT:∀(d n:Nat)(t:TypeId)(x y z:T),HF P d t x y=some z->∃b,z.ev ρ β=.bool b/\(zX (n+d) t (x.ev ρ β) (y.ev ρ β)).run P w=.ok b w
 |0,_,_,_,_,_,h=>by simp[HF]at h
 |d+1,n,t,x,y,z,h=>by
  unfold HF at h;rw[show n+(d+1)=(n+d)+1 from rfl,zX];split at h
  ·rename_i r k q u j i;split at h
   ·rename_i e;subst e;cases h;obtain⟨a,f⟩:=Eg (ρ:=ρ) (β:=β) j;obtain⟨b,g⟩:=Eg (ρ:=ρ) (β:=β) i;exact⟨decide (a=b),by simp[T.ev,B.ev,f,g,Ag],by simp[zK,run_underlying u,f,g];rfl⟩
   ·cases h
  ·rename_i u j i;cases h;obtain⟨a,f⟩:=FL (ρ:=ρ) (β:=β) j;obtain⟨b,g⟩:=FL (ρ:=ρ) (β:=β) i;exact⟨decide (a=b),by simp[T.ev,B.ev,f,g,AE],by
    have m:(a==b)=decide (a=b):=by rw[Bool.eq_iff_iff,MapKept.bytes_beq,decide_eq_true_eq]
    simp[zK,run_underlying u,f,g,m]⟩
  ·rename_i u j i;cases h;obtain⟨a,f⟩:=Fj (ρ:=ρ) (β:=β) j;obtain⟨b,g⟩:=Fj (ρ:=ρ) (β:=β) i;exact⟨a==b,by simp[T.ev,B.ev,f,g,asB],by simp[zK,run_underlying u,f,g]⟩
  ·rename_i fs u j i;split at h;case h_2=>cases h
   rename_i p ds;split at h;case isFalse=>cases h
   rename_i l;obtain⟨b,g,c⟩:=run_eqFs (n:=n+d) (λt x y z h=>run_eqT d n t x y z h) fs.toList z h;refine⟨b,g,?_⟩;simp only[zK,run_underlying u,zL,T.ev,run_program,l,<-Array.forIn_toList];simp_all
  ·cases h
theorem run_eqAgg{op:BinOp}{g:TypeId}{x y:Operand}{p q t:T}{ns:List T}(h:eqAgg P op g p q=some (ns,t)):
  (do eqGuard op g x y (p.ev ρ β) (q.ev ρ β);binOp op g (p.ev ρ β) (q.ev ρ β):Sem Value).run P w=.ok (t.ev ρ β) w:=by
 unfold eqAgg at h;split at h;case h_2=>cases h
 rename_i f ds;split at h;case isFalse=>cases h
 rename_i l;rw[Option.bind_eq_some_iff]at h;obtain⟨z,j,n⟩:=h;obtain⟨b,m,u⟩:=run_eqT (ρ:=ρ) (β:=β) (w:=w) 5 9995 g _ _ z j;have u:(Op.equal g (T.ev ρ β (.agg f)) (T.ev ρ β (.agg ds))).run P w=.ok b w:=u;have i:(eqGuard op g x y (T.ev ρ β (.agg f)) (T.ev ρ β (.agg ds))).run P w=.ok () w:=by
  simp_all[eqGuard,T.ev,zK,run_program]
 grind[zK,zL,FN,T.ev]
end
section
variable{P:Program}{O V0:Mem}{w0:World}{N:Nat}{β:Nat->Nat}{st:St}{ρ:List Value}{V:Mem}{a:Act}{w:World}
theorem lohi{st:St}{lo:Option Operand}{d l:T}(g:Rel O V0 w0 N β st ρ V a.tmps w)(h:(match lo with|some l=>Be st l|none=>some d)=some l):
  lo.map a.eval=some (l.ev ρ β)∨lo=none/\l=d:=by
 cases lo with
 |some x=>grind[A5]
 |none=>simp_all
theorem J8(r:Rel O V0 w0 N β st ρ V a.tmps w){o:Oper}{ns:List T}{t:T}(h:Cw P st o.op=some (ns,t))(W:∀x∈ns,asB (x.ev ρ β)=true):
  (execOp a.eval o).run P w=.ok (.value (t.ev ρ β)) w:=by
 unfold execOp;generalize o.op=op at h⊢;cases op with
 |move x=>
  simp only[Cw,zi,zS]at h;obtain⟨I,g,rfl,rfl⟩:=h;simp only[zM,A5 r g]
 |assign x=>
  simp only[Cw,zi,zS]at h;obtain⟨I,g,rfl,rfl⟩:=h;simp only[zM,A5 r g]
 |pick c x y=>
  simp only[Cw]at h;split at h
  ·rename_i v p q g G h3;simp only[zF,zS]at h;obtain⟨rfl,rfl⟩:=h;simp only[A5 r g,A5 r G,A5 r h3,T.ev,asBool,zK,zM,zL];cases v<;>rfl
  ·simp at h
 |load ty x=>
  simp only[Cw]at h;split at h
  ·rename_i i off g;cases hb:st.box i with
   |none=>simp[hb]at h
   |some M=>
    obtain⟨M,e⟩:=M;simp only[hb,zr,zi,zS]at h;obtain⟨I,G,rfl,rfl⟩:=h;have hB:=(r.boxes i M e hb).1;have:=J7 (P:=P) hB G;simp only[A5 r g,T.ev,Instr.loadAt,zh,zK,zM,zL,this]
  ·simp at h
 |fieldAddr s x f=>
  simp only[Cw]at h;split at h
  ·rename_i fs p d g;cases F:fs[f]? with
   |none=>simp[F]at h
   |some fd=>
    simp only[F,zr]at h;split at h
    ·rename_i m A;split at h
     ·rename_i J;simp only[zF,zS]at h;obtain⟨rfl,rfl⟩:=h;obtain⟨q,C⟩:=nn_some J W;rw[poff_ev _ _ ⟨_,C⟩,C];simp only[A5 r g,C,Instr.fieldAt,zK,run_underlying d,zL,F,zh,zM,M5 A,AC,Aa,zJ]
     ·simp at h
    ·simp at h
  ·simp at h
 |indexAddr ty x i=>
  simp only[Cw]at h;split at h
  ·rename_i e s j d g G;split at h
   ·rename_i k sz A hj D;simp only[zF,zS]at h;obtain⟨rfl,rfl⟩:=h;simp only[A5 r g,A5 r G,zK,run_indexAtT d A hj D W,zL,zM]
   ·simp at h
  ·rename_i len e p kk k d g G;split at h
   ·rename_i sz D;split at h
    ·rename_i J;obtain⟨J,hk0,hk1⟩:=J;simp only[zF,zS]at h;obtain⟨rfl,rfl⟩:=h;obtain⟨q,C⟩:=nn_some J W;rw[poff_ev _ _ ⟨_,C⟩,C];simp only[A5 r g,A5 r G,C,T.ev,zq,asIntOf,zK,run_underlying d,zL,zh,zM,DZ D,AC,Aa,zJ];simp[hk0,hk1,DZ D,zK,zL,zM]
    ·simp at h
   ·simp at h
  ·simp at h
 |index ty x i=>
  simp only[Cw]at h;split at h
  ·rename_i s j d g G;split at h
   ·rename_i k A hj;simp only[zF,zS]at h;obtain⟨rfl,rfl⟩:=h;simp only[A5 r g,A5 r G,zK,run_indexT d A hj (W _ (zO.2 rfl)),zL,zM]
   ·simp at h
  ·simp at h
 |binOp b xt x y yt=>
  simp only[Cw]at h;split at h
  ·rename_i p q g G;have:=(Option.or_eq_some_iff.1 h).elim (λh=>run_binOpT (P:=P) (x:=x) (y:=y) (w:=w) h W) λh=>run_eqAgg (x:=x) (y:=y) h.2;simp only[A5 r g,A5 r G];rw[zK,this];rfl
  ·simp at h
 |unOp u xt x=>
  simp only[Cw]at h;split at h
  ·rename_i I g;split at h
   ·rename_i J;simp only[zF,zS]at h;obtain⟨rfl,rfl⟩:=h;obtain⟨b,hb⟩:=Fj (ρ:=ρ) (β:=β) J;simp[A5 r g,hb,Op.unary,notT_ev,asB]
   ·simp at h
  ·rename_i I g;split at h
   ·rename_i k J;simp only[inr,zF,zS]at h;obtain⟨rfl,rfl⟩:=h;obtain⟨m,hm⟩:=Eg (ρ:=ρ) (β:=β) J;have h3:=W _ (zO.2 rfl);simp only[T.ev,U.ev,hm,Ag,asB,decide_eq_true_eq]at h3;simp only[A5 r g,hm,Op.unary,Op.intArith,zK,zM,zL,T.ev,U.ev,Ag,Eh h3]
   ·simp at h
  ·simp at h
 |convert src dst x=>
  simp only[Cw]at h;split at h
  ·rename_i k0 k I X B g;split at h
   ·rename_i j J;obtain⟨m,hm⟩:=Eg (ρ:=ρ) (β:=β) J;have key:k.wrap m=m->((do pure (Next.value (<-convert src dst (a.eval x))):Sem Next).run P w)=.ok (.value (.int k m)) w:=λe=>by
     simp only[A5 r g,hm,zK,convert,run_underlying X,run_underlying B,zL,Conv.intToInt,zM,e]
    split at h
    ·rename_i e;subst e;simp only[inr,zF,zS]at h;obtain⟨rfl,rfl⟩:=h;have h3:=W _ (zO.2 rfl);simp_all[T.ev,U.ev,Ag,asB,decide_eq_true_eq,Eh]
    split at h
    ·rename_i e;subst e;simp only[zF,zS]at h;obtain⟨rfl,rfl⟩:=h;simp only[A5 r g,hm,zK,convert,run_underlying X,run_underlying B,zL,Conv.intToInt,zM,T.ev,U.ev,Ag]
    ·simp only[inr,zF,zS]at h;obtain⟨rfl,rfl⟩:=h;have h3:=W _ (zO.2 rfl);simp_all[T.ev,U.ev,Ag,asB,decide_eq_true_eq,Eh]
   ·simp at h
  ·rename_i I X B g;split at h
   ·rename_i J;simp only[zF,zS]at h;obtain⟨rfl,rfl⟩:=h;obtain⟨m,hm⟩:=FL (ρ:=ρ) (β:=β) J;simp only[A5 r g,hm,zK,convert,run_underlying X,run_underlying B,zL,zM]
   ·simp at h
  ·simp at h
 |build ty parts=>
  simp only[Cw]at h;split at h
  ·rename_i fs z ps d D hp;split at h
   ·rename_i A;simp only[zi,zS]at h;obtain⟨M,F,rfl,rfl⟩:=h;grind[zK,run_buildT,zL,zM,T.ev,Cy]
   ·simp at h
  ·rename_i n e z ps d D hp;split at h
   ·rename_i sz A;simp only[zi,zS]at h;obtain⟨M,F,rfl,rfl⟩:=h;grind[zK,run_buildA,zL,zM,T.ev,Cy]
   ·simp at h
  ·simp at h
 |field xt x f=>
  simp only[Cw]at h;split at h
  ·rename_i fs M d g;cases F:fs[f]? with
   |none=>simp[F]at h
   |some fd=>
    simp only[F,zr,zi,zS]at h;obtain⟨I,G,rfl,rfl⟩:=h;simp only[A5 r g,T.ev,Instr.field,zK,run_underlying d,zL,F,asAgg,zM,J6 G]
  ·simp at h
 |extract x i=>
  simp only[Cw]at h;split at h
  ·rename_i M g;simp only[zi,zS]at h;obtain⟨I,G,rfl,rfl⟩:=h;have:(M.evs ρ β).toArray[i]?=some (I.ev ρ β):=by simp[Dj,G]
   simp[A5 r g,T.ev,Instr.extract,this]
  ·simp at h
 |makeFunc fn first Y=>
  simp only[Cw]at h;split at h
  ·rename_i f ts g;split at h
   ·rename_i he;simp only[zF,zS]at h;obtain⟨rfl,rfl⟩:=h;have e1:first=#[]:=by simpa using he
    subst e1;have e2:Y.map a.eval=(ts.map (·.ev ρ β)).toArray:=by
     apply zg;rw[zf,HM r g]
    simp[Instr.makeFunc,T.ev,Cy,e2]
   ·simp at h
  ·simp at h
 |nilCheck x=>
  simp only[Cw]at h;split at h
  ·rename_i f M g;simp only[zF,zS]at h;obtain⟨rfl,rfl⟩:=h;simp only[A5 r g,T.ev,zM]
  ·rename_i p _ g;split at h
   ·rename_i J;simp only[zF,zS]at h;obtain⟨rfl,rfl⟩:=h;obtain⟨q,C⟩:=nn_some J W;grind[A5,zM]
   ·simp at h
  ·simp at h
 |slice ty x lo hi mx=>
  simp only[Cw]at h;split at h
  ·rename_i s d g;split at h
   ·rename_i l hh A hl E;split at h
    ·rename_i j k K S;simp only[zF,zS]at h;obtain⟨rfl,rfl⟩:=h;simp only[A5 r g,ze,zK,run_sliceS d A K S (lohi r hl) (lohi r E) (W _ (zO.2 rfl)),zL,zM]
    ·simp at h
   ·simp at h
  ·rename_i e s d g;split at h
   ·rename_i sz l hh A D hl E;split at h
    ·rename_i j k K S;simp only[zF,zS]at h;obtain⟨rfl,rfl⟩:=h;simp only[A5 r g,ze,zK,run_sliceL d D A K S (lohi r hl) (lohi r E) (W _ (zO.2 rfl)),zL,zM]
    ·simp at h
   ·simp at h
  ·simp at h
 |call c=>
  simp only[Cw]at h;have Z:∀{x:T},opTs st c.args.toList=some [x]->c.args.map a.eval=#[x.ev ρ β]:=λ{x} g=>by
   apply zg;rw[zf,HM r g];rfl
  split at h
  ·rename_i x ty hc g G;have ht:c.argTypes=#[ty]:=by grind
   split at h
   ·rename_i e J d;simp only[zF,zS]at h;obtain⟨rfl,rfl⟩:=h;obtain⟨p,n,cp,hx⟩:=G2 (ρ:=ρ) (β:=β) J;simp only[resolve,hc,Z g,ht,zK,zM,zL,invoke,builtin,hx,Iz,Ey];simp[zd,run_underlying d,goInt]
   ·rename_i J d;simp only[zF,zS]at h;obtain⟨rfl,rfl⟩:=h;obtain⟨s,hx⟩:=FL (ρ:=ρ) (β:=β) J;simp only[resolve,hc,Z g,ht,zK,zM,zL,invoke,builtin,hx,T.ev,U.ev,AE];simp[zd,run_underlying d,goInt]
   ·simp at h
  ·rename_i x ty hc g G;have ht:c.argTypes=#[ty]:=by grind
   split at h
   ·rename_i e J d;simp only[zF,zS]at h;obtain⟨rfl,rfl⟩:=h;obtain⟨p,n,cp,hx⟩:=G2 (ρ:=ρ) (β:=β) J;simp only[resolve,hc,Z g,ht,zK,zM,zL,invoke,builtin,hx,J4,asCap];simp[Builtin.cap_,run_underlying d,goInt]
   ·simp at h
  ·simp at h
 |_=>simp[Cw]at h
end
theorem lookup_mem:∀{l:List (Nat×T)}{s:Nat}{t:T},l.lookup s=some t->(s,t)∈l
 |(s',g)::l,s,t,h=>by
  rw[zc]at h;split at h;·rename_i e;simp only[beq_iff_eq]at e;subst e;simp only[zF]at h;subst h;exact zb
  ·exact za _ (lookup_mem h)
theorem J9:∀{l:List (Nat×T×Nat)}{s:Nat}{t:T×Nat},l.lookup s=some t->(s,t)∈l
 |(s',g)::l,s,t,h=>by
  rw[zc]at h;split at h;·rename_i e;simp only[beq_iff_eq]at e;subst e;simp only[zF]at h;subst h;exact zb
  ·exact za _ (J9 h)
theorem G3{st:St}{s:Nat}{t:T}(h:st.get s=some t):st.slots.lookup s=some t:=by
 grind[St.get]
theorem get_ne{st:St}{s:Nat}{t:T}(h:st.get s=some t):t≠.nil:=by
 grind[St.get]
theorem IF(st:St)(d s:Nat)(t:T):(st.put d t).get s=if s=d then(if t=.nil then none else some t)else st.get s:=by
 grind[St.get,St.put]
theorem wf_get{st:St}(h:st.wf=true){s:Nat}{t:T}(g:st.get s=some t):t.wf st.nv st.nb=true:=by
 simp only[St.wf,zC,z6]at h;exact h.1 _ (lookup_mem (G3 g))
theorem Gs{st:St}(h:st.wf=true){i:Nat}{cs:T}{ty:Nat}(g:st.box i=some (cs,ty)):i<st.nb/\cs.wf st.nv st.nb=true:=by
 simp only[St.wf,zC,z6,decide_eq_true_eq]at h;exact h.2 _ (J9 g)
section
variable{P:Program}{O V0:Mem}{w0:World}{N:Nat}{β:Nat->Nat}{st:St}{ρ:List Value}{V:Mem}{a:Act}{w:World}{tmps:Array Value}
theorem Rel.put(h:Rel O V0 w0 N β st ρ V tmps w){d:Nat}(f:d<N)(t:T):Rel O V0 w0 N β (st.put d t) ρ V (tmps.setIfInBounds d (t.ev ρ β)) w:=
 {nv:=h.nv
  size:=by simpa using h.size
  slots:=λs u g=>by
   rw[IF]at g;split at g
   ·rename_i e;subst e;split at g;·simp at g
    ·simp only[zF]at g;subst g;have:s<tmps.size:=by rw[h.size];exact f
     simp_all
   ·rename_i e;rw[<-h.slots s u g];by_cases hlt:s<tmps.size;·simp[z7,hlt,show ¬d=s by omega]
    simp_all
  frm:=h.frm
  boxes:=h.boxes
  hid:=h.hid
  inj:=h.inj}
theorem Rel.putO(h:Rel O V0 w0 N β st ρ V a.tmps w){d:Option Nat}(g:DA N d=true)(t:T){v:Value}(f:v=t.ev ρ β):
  Rel O V0 w0 N β (st.putO d t) ρ V (a.put d v).tmps w:=by
 subst f;cases d with
 |none=>exact h
 |some d=>exact h.put (by simpa [DA]using g) t
theorem Ka{l:List (Nat×T)}:∀{keep:List Nat}{s:Nat}{t:T},(GQ l keep).lookup s=some t->l.lookup s=some t
 |[],s,t,h=>by simp[GQ]at h
 |k::g,s,t,h=>by
  simp only[GQ]at h;split at h
  ·rename_i f u;rw[zc]at h;split at h;·simp_all
   ·exact Ka h
  ·exact Ka h
theorem Kb{d:Nat}:∀{l:List (Nat×T)}{s:Nat}{t:T},(l.filter (λx=>x.1 !=d)).lookup s=some t->l.lookup s=some t
 |[],s,t,h=>by simp at h
 |(k,x)::l,s,t,h=>by
  rw[zc];simp only[z8]at h;by_cases e:k=d
  ·subst e;simp only[bne_self_eq_false,zN,if_false]at h;have hm:=lookup_mem h;have g:s≠k:=by simp_all
   have:(s==k)=false:=by simpa using g
   rw[this];exact Kb h
  ·have f:(k !=d)=true:=by simpa using e
   simp only[f,if_true,zc]at h;split at h;·simp_all
   ·simp_all;exact Kb h
theorem Rel.fewer(h:Rel O V0 w0 N β st ρ V tmps w)(l:List (Nat×T))(g:∀s t,l.lookup s=some t->st.slots.lookup s=some t):Rel O V0 w0 N β {st with slots:=l} ρ V tmps w:=
 {h with
  slots:=λs t f=>h.slots s t (by
   grind[St.get,absurd])
  boxes:=h.boxes
  hid:=h.hid
  inj:=h.inj}
theorem Rel.compact(h:Rel O V0 w0 N β st ρ V tmps w)(keep:List Nat):Rel O V0 w0 N β (st.compact keep) ρ V tmps w:=h.fewer _ λ_ _=>Ka
theorem Rel.drop(h:Rel O V0 w0 N β st ρ V tmps w)(d:Nat):Rel O V0 w0 N β (st.drop d) ρ V tmps w:=h.fewer _ λ_ _=>Kb
theorem Rel.now(h:Rel O V0 w0 N β st ρ V tmps w){d:Nat}{t f:T}(u:st.get d=some t)(z:t.ev ρ β=f.ev ρ β):Rel O V0 w0 N β (st.now d f) ρ V tmps w:=
 {h.drop d with
  slots:=λs x g=>by
   unfold St.now at g;rw[IF]at g;split at g
   ·rename_i e;subst e;split at g;·simp at g
    ·simp only[zF]at g;subst g;rw[h.slots s t u,z]
   ·exact(h.drop d).slots s x g}
theorem LG{ρ vs:List Value}{m:Nat}(h:m<ρ.length):ρ.getD m undef=(ρ++vs).getD m undef:=by
 grind
theorem Rel.bind(h:Rel O V0 w0 N β st ρ V tmps w)(hw:st.wf=true)(vs:List Value):Rel O V0 w0 N β (st.more vs.length) (ρ++vs) V tmps w:=by
 have g:∀t:T,t.wf st.nv st.nb=true->t.ev ρ β=t.ev (ρ++vs) β/\t.evs ρ β=t.evs (ρ++vs) β:=
  T.ev_congr (λm hm=>LG (by rw[h.nv];exact hm)) (λ_ _=>rfl)
 exact
 {nv:=by simp[St.more,h.nv]
  size:=h.size
  slots:=λs t f=>(h.slots s t f).trans (g t (wf_get hw f)).1
  frm:=h.frm
  boxes:=λi u ty z=>by
   have:=h.boxes i u ty z;rw[<-(g u (Gs hw z).2).2];exact this
  hid:=h.hid
  inj:=h.inj}
theorem Rel.frame(h:Rel O V0 w0 N β st ρ V tmps w){V':Mem}{w':World}(f:Aq V w V' w'):Rel O V0 w0 N β st ρ V' tmps w':=
 {nv:=h.nv
  size:=h.size
  slots:=h.slots
  frm:=h.frm.trans f
  boxes:=λi x ty j=>by
   obtain⟨t,h2,h3,u⟩:=h.boxes i x ty j;have g:β i<w.heap.size:=(yA.1 t).1;refine⟨(f.old _ g h2).trans t,?_,h3,u⟩;cases z:V' (β i)with
   |none=>rfl
   |some o=>
    rcases f.dom (β i) (by simp[z])with y|y;·grind
    ·omega
  hid:=λb o l=>by
   obtain⟨t,h2,h3,u⟩:=h.hid b o l;have g:b<w.heap.size:=(yA.1 t).1;refine⟨(f.old _ g h2).trans t,?_,h3,u⟩;cases z:V' b with
   |none=>rfl
   |some n=>
    rcases f.dom b (by simp[z])with y|y;·grind
    ·omega
  inj:=h.inj}
theorem LH(w:World)(o:Obj):(w.alloc o).heap[w.heap.size]?=some o:=by
 show(w.heap.push o)[w.heap.size]?=some o;simp
theorem HN(w:World)(o:Obj){b:Nat}(h:b<w.heap.size):(w.alloc o).heap[b]?=w.heap[b]?:=by
 show(w.heap.push o)[b]?=w.heap[b]?;grind
theorem le_none{V:Mem}{w:World}(h:V.le w){b:Nat}(f:w.heap.size<=b):V b=none:=by
 cases g:V b with
 |none=>rfl
 |some o=>have:=h b o g;simp_all
theorem Aq.alloc{V:Mem}{w:World}(h:V.le w)(o:Obj):Aq V w V (w.alloc o):=
 ⟨by simp_all,λb f g=>by
   have:=h b f g;grind[HN,yA],λb g _=>HN w o g,λ_ h=>.inl h,rfl,rfl⟩
def upd(β:Nat->Nat)(i b:Nat):Nat->Nat:=λj=>if j=i then b else β j
theorem Rel.alloc(h:Rel O V0 w0 N β st ρ V tmps w)(hw:st.wf=true){cs:T}(G:cs.wf st.nv st.nb=true)(ty:Nat):
  Rel O V0 w0 N (upd β st.nb w.heap.size) {st with boxes:=(st.nb,cs,ty)::st.boxes,nb:=st.nb+1} ρ V tmps (w.alloc (.cells (cs.evs ρ β).toArray ty (0,0))):=by
 have l:∀t:T,t.wf st.nv st.nb=true->t.ev ρ β=t.ev ρ (upd β st.nb w.heap.size)/\t.evs ρ β=t.evs ρ (upd β st.nb w.heap.size):=
  T.ev_congr (λ_ _=>rfl) (λi u=>by grind[upd])
 have g:∀(i:Nat)(x:T×Nat),St.box {st with boxes:=(st.nb,cs,ty)::st.boxes,nb:=st.nb+1} i=some x->(i=st.nb/\x=(cs,ty))∨(i≠st.nb/\st.box i=some x):=by
  grind[St.box,inr]
 have Z:∀i,i≠st.nb->(st.box i).isSome=true->upd β st.nb w.heap.size i<w.heap.size:=by
  intro i u r;obtain⟨x,n⟩:=yB.1 r;have:=(h.boxes i x.1 x.2 n).1;grind[upd]
 exact
 {nv:=h.nv
  size:=h.size
  slots:=λs t r=>(h.slots s t r).trans (l t (wf_get hw r)).1
  frm:=h.frm.trans (Aq.alloc h.frm.le _)
  boxes:=λi q p u=>by
   rcases g i _ u with⟨rfl,e⟩|⟨z,f⟩
   ·cases e;refine⟨?_,?_,?_,Nat.lt_succ_self _⟩;·rw[<-(l cs G).2];simp only[upd,if_true];exact LH w _
    ·simp only[upd,if_true];exact le_none h.frm.le (Nat.le_refl _)
    ·simp only[upd,if_true];exact h.frm.size
   ·obtain⟨c,h2,h3,Y⟩:=h.boxes i q p f;grind[upd,Gs,HN,yA,Nat.lt_succ_of_lt]
  hid:=λb o W=>by
   obtain⟨c,h2,h3,Y⟩:=h.hid b o W;have d:b<w.heap.size:=(yA.1 c).1;refine⟨(HN w _ d).trans c,h2,h3,λi u=>?_⟩;obtain⟨x,n⟩:=yB.1 u;rcases g i x n with⟨rfl,_⟩|⟨z,f⟩;·grind[upd]
   grind[upd]
  inj:=λi j u A J=>by
   obtain⟨x,n⟩:=yB.1 u;obtain⟨y,I⟩:=yB.1 A;rcases g i x n with⟨rfl,_⟩|⟨z,f⟩<;>rcases g j y I with⟨rfl,_⟩|⟨m,v⟩
   ·rfl
   ·grind[upd]
   ·grind[upd]
   ·simp only[upd,if_neg z,if_neg m]at J;exact h.inj i j (by simp[f]) (by simp[v]) J}
theorem LJ(w:World)(g:Nat)(cs:Array Value):(w.setRow g cs).heap.size=w.heap.size:=by simp[World.setRow]
theorem setRow_other(w:World)(g:Nat)(cs:Array Value){b:Nat}(h:b≠g):(w.setRow g cs).heap[b]?=w.heap[b]?:=by
 grind[World.setRow,absurd]
theorem Rel.setBox(h:Rel O V0 w0 N β st ρ V tmps w){i:Nat}{cs f:T}{ty:Nat}(hi:st.box i=some (cs,ty)) :
    Rel O V0 w0 N β (st.setBox i f ty) ρ V tmps (w.setRow (β i) (f.evs ρ β).toArray):=by
  obtain⟨p,h2,h3,c⟩:=h.boxes i cs ty hi;have z:∀(j:Nat)(x:T×Nat),(st.setBox i f ty).box j=some x->(j=i/\x=(f,ty))∨(j≠i/\st.box j=some x):=by
    grind[St.box,St.setBox,inr]
  have g:∀j,((st.setBox i f ty).box j).isSome=true->(st.box j).isSome=true:=by
    intro j t;obtain⟨x,J⟩:=yB.1 t;grind
  exact
  { nv:=h.nv
    size:=h.size
    slots:=h.slots
    frm:=⟨by grind [LJ],fun b o y=>by
              have u:b≠β i:=by grind
              rw[setRow_other w _ _ u];exact h.frm.le b o y,λb y d=>by
              rw[setRow_other w _ _ (by omega)];exact h.frm.old b y d,h.frm.dom,h.frm.os,h.frm.out⟩
    boxes:=λj l r t=>by
      rcases z j _ t with⟨rfl,e⟩|⟨u,n⟩
      · cases e;exact⟨setRow_heap w _ _ _ ty (0,0) p,h2,h3,c⟩
      · obtain⟨q,g2,g3,m⟩:=h.boxes j l r n;have s:β j≠β i:=λe=>u (h.inj j i (by simp[n]) (by simp[hi]) e);exact⟨(setRow_other w _ _ s).trans q,g2,g3,m⟩
    hid:=λb o y=>by
      obtain⟨q,g2,g3,m⟩:=h.hid b o y;exact⟨(setRow_other w _ _ (Ne.symm (m i (by simp[hi])))).trans q,g2,g3,λj t=>m j (g j t)⟩
    inj:=λj k t v=>h.inj j k (g j t) (g k v)}
theorem LK(f:T->T):∀(l:List (Nat×T))(s:Nat),(l.map (λx=>(x.1,f x.2))).lookup s=(l.lookup s).map f
 |[],s=>rfl
 |(s',t)::l,s=>by
  simp only[zG,zc];split;·rfl
  ·exact LK f l s
theorem LL(f:T->T):∀(l:List (Nat×T×Nat))(s:Nat),(l.map (λx=>(x.1,f x.2.1,x.2.2))).lookup s=(l.lookup s).map λy=>(f y.1,y.2)
 |[],s=>rfl
 |(s',t)::l,s=>by
  simp only[zG,zc];split;·rfl
  ·exact LL f l s
theorem Kc(i:Nat):∀(l:List (Nat×T×Nat))(s:Nat),(l.filter (λx=>x.1 !=i)).lookup s=if s=i then none else l.lookup s
 |[],s=>by simp
 |(s',t)::l,s=>by
  simp only[z8];by_cases h:s'=i
  ·subst h;simp only[bne_self_eq_false,zN,if_false,Kc s' l s,zc];grind
  ·have g:(s' !=i)=true:=by simpa using h
   simp only[g,if_true,zc,Kc i l s];grind
theorem Rel.pubd(h:Rel O V0 w0 N β st ρ V tmps w)(hw:st.wf=true){i:Nat}{cs:T}{ty:Nat}(hi:st.box i=some (cs,ty)):
  Rel O V0 w0 N β (st.pubd i) (ρ++[.pointer (some ⟨β i,0,none⟩)]) (V.set (β i) (.cells (cs.evs ρ β).toArray ty (0,0))) tmps w:=by
 obtain⟨C,D,E,K⟩:=h.boxes i cs ty hi;have W:(ρ++[zY (some ⟨β i,0,none⟩)]).getD st.nv undef=zY (some ⟨β i,0,none⟩):=by
  rw[<-h.nv];simp[List.getD]
 have u:∀t:T,t.wf st.nv st.nb=true->(t.subst i st.nv).ev (ρ++[.pointer (some ⟨β i,0,none⟩)]) β=t.ev ρ β/\(t.subst i st.nv).evs (ρ++[.pointer (some ⟨β i,0,none⟩)]) β=t.evs ρ β:=by
  intro t A;have S:=T.ev_subst W t;have U:=T.ev_congr (ρ:=ρ) (ρ':=ρ++[.pointer (some ⟨β i,0,none⟩)]) (β:=β) (β':=β) (λm hm=>LG (by rw[h.nv];exact hm)) (λ_ _=>rfl) t A;simp_all
 have z:∀(j:Nat)(x:T×Nat),(st.pubd i).box j=some x->j≠i/\∃y,st.box j=some y/\x=(y.1.subst i st.nv,y.2):=by
  intro j x l;simp only[St.box,St.pubd,LL,Kc]at l;split at l;·simp at l
  ·rename_i e;simp only[zi]at l;obtain⟨y,n,rfl⟩:=l;exact⟨e,y,n,rfl⟩
 have g:∀j,((st.pubd i).box j).isSome=true->(st.box j).isSome=true:=by
  grind[yB]
 exact
 {nv:=by simp[St.pubd,h.nv]
  size:=h.size
  slots:=λs t G=>by
   have Z:=G3 G;simp only[St.pubd,LK,zi]at Z;obtain⟨p,I,rfl⟩:=Z;have Y:st.get s=some p:=by
    unfold St.get;have r:p≠.nil:=λe=>get_ne G (by subst e;rfl);simp_all
   rw[(u p (wf_get hw Y)).1];exact h.slots s p Y
  frm:=
   {size:=h.frm.size
    le:=λb o f=>by
     by_cases e:b=β i;·grind[Mem.set_same]
     ·rw[Mem.set_ne e]at f;exact h.frm.le b o f
    old:=h.frm.old
    dom:=λb f=>by
     by_cases e:b=β i;·omega
     ·rw[Mem.set_ne e]at f;exact h.frm.dom b f
    os:=h.frm.os
    out:=h.frm.out}
  boxes:=λj M F q=>by
   obtain⟨r,y,n,e⟩:=z j _ q;obtain⟨d,v,J,c⟩:=h.boxes j y.1 y.2 n;cases e;have X:β j≠β i:=λe=>r (h.inj j i (by simp[n]) (by simp[hi]) e);rw[(u y.1 (Gs hw n).2).2];exact⟨d,by rw[Mem.set_ne X];exact v,J,c⟩
  hid:=λb o f=>by
   obtain⟨d,v,J,c⟩:=h.hid b o f;exact⟨d,by rw[Mem.set_ne (Ne.symm (c i (by simp[hi])))];exact v,J,λj q=>c j (g j q)⟩
  inj:=λj k q B=>h.inj j k (g j q) (g k B)}
end
section
variable{P:Program}{R:Ending->Mem->Prop}{O V0:Mem}{w0:World}{N:Nat}{L:List (List Value->Mem->Prop)}{ρ0:List Value}
structure Ci (ρ0:List Value)(L:List (List Value->Mem->Prop))(ρ:List Value)(st:St):Prop where
 pre:ρ0<+:ρ
 depth:L.length=st.depth
theorem Ci.putO{ρ0:List Value}{L:List (List Value->Mem->Prop)}{ρ:List Value}{st:St}(h:Ci ρ0 L ρ st)(d:Option Nat)(t:T):Ci ρ0 L ρ (st.putO d t):=by
 cases d<;>exact⟨h.1,h.2⟩
theorem Ci.more{ρ0:List Value}{L:List (List Value->Mem->Prop)}{ρ:List Value}{st:St}(h:Ci ρ0 L ρ st)(n:Nat)(vs:List Value):Ci ρ0 L (ρ++vs) (st.more n):=⟨h.1.trans (yC _ _),h.2⟩
theorem Ci.pubd{ρ0:List Value}{L:List (List Value->Mem->Prop)}{ρ:List Value}{st:St}(h:Ci ρ0 L ρ st)(i:Nat)(vs:List Value):Ci ρ0 L (ρ++vs) (st.pubd i):=⟨h.1.trans (yC _ _),h.2⟩
theorem Ci.compact{ρ0:List Value}{L:List (List Value->Mem->Prop)}{ρ:List Value}{st:St}(h:Ci ρ0 L ρ st)(keep:List Nat):Ci ρ0 L ρ (st.compact keep):=⟨h.1,h.2⟩
theorem Ci.now{ρ0:List Value}{L:List (List Value->Mem->Prop)}{ρ:List Value}{st:St}(h:Ci ρ0 L ρ st)(d:Nat)(t:T):Ci ρ0 L ρ (st.now d t):=⟨h.1,h.2⟩
theorem Ci.setBox{ρ0:List Value}{L:List (List Value->Mem->Prop)}{ρ:List Value}{st:St}(h:Ci ρ0 L ρ st)(i:Nat)(t:T)(ty:Nat):Ci ρ0 L ρ (st.setBox i t ty):=⟨h.1,h.2⟩
def AM(P:Program)(R:Ending->Mem->Prop)(O V0:Mem)(w0:World)(N:Nat)(L:List (List Value->Mem->Prop))(ρ0:List Value)(tmps:Array Value)(w:World)(st:St)(t:Tr):Prop:=
 ∃β ρ V,Ci ρ0 L ρ st/\Rel O V0 w0 N β st ρ V tmps w/\D P R t L ρ V
theorem Kd{ns:List T}{k:Tr}{ρ:List Value}{V:Mem}(h:D P R (needs ns k) L ρ V)(β:Nat->Nat):(∀x∈ns,asB (x.ev ρ β)=true)/\D P R k L ρ V:=by
 induction ns with
 |nil=>exact⟨λx g=>by(cases g),h⟩
 |cons n ns f=>
  simp only[needs]at h;split at h
  ·rename_i y;obtain⟨j,t⟩:=h;obtain⟨u,z⟩:=f t;refine⟨λx g=>?_,z⟩;rcases yD.1 g with rfl|g;·grind[T.ev_free,id]
   ·exact u x g
  ·exact h.elim
theorem HO:∀(n:Nat)(st:St)(i:Nat)(k:St->Tr){tmps:Array Value}{w:World},AM P R O V0 w0 N L ρ0 tmps w st (GR n st i k)->∃st',AM P R O V0 w0 N L ρ0 tmps w st' (k st')
 |0,st,i,k,tmps,w,⟨β,ρ,V,f,g,h⟩=>h.elim
 |n+1,st,i,k,tmps,w,⟨β,ρ,V,f,g,h⟩=>by
  simp only[GR]at h;split at h;·exact h.elim
  ·rename_i t ty u;split at h
   ·rename_i j _;obtain⟨st',z⟩:=HO n st j _ ⟨β,ρ,V,f,g,h⟩;exact HO n st' i k z
   ·rename_i y;split at h
    ·rename_i hw;have:=h (β i) (g.boxes i t ty u).2.1;rw[(T.ev_free (β:=id) (β':=β) (ρ:=ρ) t y).2]at this;exact⟨_,β,_,_,f.pubd _ _,g.pubd hw u,this⟩
    ·exact h.elim
theorem D0:∀(n:Nat)(st:St)(get:St->Option T)(k:St->T->Tr){tmps:Array Value}{w:World},AM P R O V0 w0 N L ρ0 tmps w st (pubT n st get k)->
  ∃st' t,get st'=some t/\t.firstBox=none/\AM P R O V0 w0 N L ρ0 tmps w st' (k st' t)
 |0,st,get,k,tmps,w,⟨β,ρ,V,g,f,h⟩=>h.elim
 |n+1,st,get,k,tmps,w,⟨β,ρ,V,g,f,h⟩=>by
  simp only[pubT]at h;split at h;·exact h.elim
  ·rename_i t u;split at h
   ·rename_i z;exact⟨st,t,u,z,β,ρ,V,g,f,h⟩
   ·rename_i i _;obtain⟨st',y⟩:=HO _ st i _ ⟨β,ρ,V,g,f,h⟩;exact D0 n st' get k y
theorem rk_vals{β:Nat->Nat}:∀(rs:List RK)(vs ρ f:List Value),Shaped (rs.flatMap RK.kinds) vs->(EA rs ρ.length).map (·.ev (ρ++vs++f) β)=Gh rs vs
 |[],[],_,_,_=>rfl
 |[],_::_,_,_,h=>h.elim
 |.one k::rs,v::vs,ρ,f,h=>by
  have u:=rk_vals (β:=β) rs vs (ρ++[v]) f h.2;simp only[zw,List.length_singleton,zH,zI,List.nil_append]at u;simp only[EA,zG,zH,zI,T.ev,u,Gh,RK.val,RK.size,List.take_succ_cons,List.take_zero,List.headD_cons,List.drop_succ_cons,List.drop_zero,yE,and_true];have:(ρ++v::(vs++f)).getD ρ.length undef=v:=by simp[List.getD]
  rw[this];exact h.1
 |.one k::rs,[],_,_,h=>h.elim
 |.agg g::rs,vs,ρ,f,h=>by
  have z:=LD (ks:=g) (ls:=rs.flatMap RK.kinds) (vs:=vs) h;have t:(vs.take g.length).length=g.length:=z.1.length;have u:=rk_vals (β:=β) rs (vs.drop g.length) (ρ++vs.take g.length) f z.2;have e:ρ++vs.take g.length++vs.drop g.length=ρ++vs:=by simp
  rw[e,zw,t]at u;have y:=G1 (β:=β) g (vs.take g.length) ρ (vs.drop g.length++f) z.1;have x:ρ++vs.take g.length++(vs.drop g.length++f)=ρ++vs++f:=by grind
  grind[EA,Gh,RK.val,RK.size,T.ev,Cy]
theorem rk_val{β:Nat->Nat}(rs:List RK)(vs ρ:List Value)(h:Shaped (rs.flatMap RK.kinds) vs):(GP rs ρ.length).ev (ρ++vs) β=Ef rs vs:=by
 have:=rk_vals (β:=β) rs vs ρ [] h;rw[List.append_nil]at this;unfold GP Ef
 match rs,this,h with
 |[],_,_=>rfl
 |[r],this,h=>
  cases r with
  |one k=>
   simp only[EA,zG,List.map_nil,Gh,RK.val,RK.size,yE,and_true]at this;simp only[EA];rw[this];cases vs<;>simp[RK.val]
  |agg f=>
   have z:vs.length=f.length:=by have:=h.length;simpa [RK.kinds]using this
   grind[EA,Gh,RK.val,RK.size]
 |r::g::rs,this,_=>
  have y:∃t u ts,EA (r::g::rs) ρ.length=t::u::ts:=by cases r<;>cases g<;>exact⟨_,_,_,rfl⟩
  grind[T.ev,Cy]
theorem G4{V:Mem}{w:World}(f:V.le w){b:Addr}{n:Nat}{vs:List Value}(h:V.row b n=some vs):vs.length=n/\∀j v,vs[j]?=some v->w.cell? (b.add j)=some v:=by
 unfold Mem.row at h;split at h
 ·rename_i c e x t;split at h
  ·rename_i u;simp only[zF]at h;subst h;refine⟨by simp;omega,λj v i=>?_⟩;have z:b.spot=none:=by simpa using u.1
   have g:(b.add j)=⟨b.block,b.off+j,none⟩:=by
    cases b with
    |mk l y sp=>grind[HK]
   rw[g];simp only[World.cell?,f _ _ t,Option.isSome_none,zN,if_false];grind
  ·simp at h
 ·simp at h
theorem LM{w:World}{ρ:List Value}{β:Nat->Nat}{t:TypeId}{cs x:T}{off:Nat}{b:Addr}(z:∀j v,(cs.evs ρ β)[j]?=some v->w.cell? (b.add j)=some v)(h:DL P t cs off=some x):
  (loadVar t (b.add off)).run P w=.ok (x.ev ρ β) w:=by
 unfold DL at h;split at h
 ·rename_i n f u;simp only at h;split at h
  ·rename_i y;simp only[zF]at h;subst h;have e:(takeT cs off n).map (·.ev ρ β)=((cs.evs ρ β).drop off).take n:=J5 cs off n;have g:(((cs.evs ρ β).drop off).take n).length=n:=by grind
   have:=run_loadCells_list (P:=P) w (b.add off) (((cs.evs ρ β).drop off).take n) (λj v i=>by
    grind[LA])
   rw[g]at this;simp only[loadVar,zK,FM f,zL,if_true,DZ u,this,zM,T.ev,Cy,e]
  ·simp at h
 ·rename_i n f u;have e:(cs.evs ρ β)[off]?=some (x.ev ρ β):=by simp[Dj,h]
  simp_all[loadVar,zK,FM,zL,zN,if_false,run_load]
 ·simp at h
end
def DN(P:Program)(fs:List Nat):Prop:=∀f∈fs,∀args w,(callFunc f args).run P w=.ok (.enter f args) w
section
variable{P:Program}{R:Ending->Mem->Prop}{O V0:Mem}{w0:World}{N:Nat}{L:List (List Value->Mem->Prop)}{ρ0:List Value}{fs:List Nat}{H:BV}
theorem Fk{f:FuncId}{args:Array Value}{w:World}{R g:Ending->World->Prop}(h:Calls P f args w R)(t:∀e w',R e w'->g e w'):Calls P f args w g:=λu=>
 let⟨e,w',z,y,rest⟩:=h u
 ⟨e,w',z,t _ _ y,rest⟩
theorem IG{st:St}:∀{l:List Nat}{t:T},EC st l=some t->∀s∈l,(l.zip t.toList).lookup s=st.get s
 |[],t,_,s,g=>by cases g
 |x::xs,t,h,s,g=>by
  simp only[EC]at h;split at h
  ·rename_i z y f u;simp only[zF]at h;subst h;simp only[T.toList,List.zip_cons_cons,zc];by_cases e:s=x;·subst e;simp[f]
   ·have:(s==x)=false:=by simpa using e
    rw[this];exact IG u s (by rcases yD.1 g with h|h;exact absurd h e;exact h)
  ·simp at h
theorem IH{st:St}:∀{l:List Nat}{t:T},EC st l=some t->∀s∈l,∃x,st.get s=some x/\x∈t.toList
 |[],t,_,s,g=>by cases g
 |x::xs,t,h,s,g=>by
  simp only[EC]at h;split at h
  ·rename_i z j i f;simp only[zF]at h;subst h;rcases yD.1 g with rfl|g;·grind[T.toList]
   ·obtain⟨y,u,hm⟩:=IH f s g;exact⟨y,u,by simp[T.toList,hm]⟩
  ·simp at h
theorem II:∀{t:T}{x:T},t.firstBox=none->x∈t.toList->x.firstBox=none
 |.cons h t,x,f,g=>by
  simp only[T.firstBox,zD]at f;simp only[T.toList,yD]at g;rcases g with rfl|g;·exact f.1
  ·exact II f.2 g
 |.var _ _,x,_,g=>by simp[T.toList]at g
 |.int _ _,x,_,g=>by simp[T.toList]at g
 |.bool _,x,_,g=>by simp[T.toList]at g
 |.str _,x,_,g=>by simp[T.toList]at g
 |.und,x,_,g=>by simp[T.toList]at g
 |.nilp,x,_,g=>by simp[T.toList]at g
 |.nilsl,x,_,g=>by simp[T.toList]at g
 |.nilm,x,_,g=>by simp[T.toList]at g
 |.nilf,x,_,g=>by simp[T.toList]at g
 |.nili,x,_,g=>by simp[T.toList]at g
 |.box _ _,x,_,g=>by simp[T.toList]at g
 |.glob _,x,_,g=>by simp[T.toList]at g
 |.fn _ _,x,_,g=>by simp[T.toList]at g
 |.u _ _,x,_,g=>by simp[T.toList]at g
 |.b2 _ _ _,x,_,g=>by simp[T.toList]at g
 |.c3 _ _ _ _,x,_,g=>by simp[T.toList]at g
 |.nil,x,_,g=>by simp[T.toList]at g
 |.agg _,x,_,g=>by simp[T.toList]at g
 |.tup _,x,_,g=>by simp[T.toList]at g
theorem lookup_ev{ρ:List Value}:∀{l:List (Nat×T)}{s:Nat},(l.map λx=>(x.1,x.2.ev ρ id)).lookup s=(l.lookup s).map (·.ev ρ id)
 |[],_=>rfl
 |(n,t)::l,s=>by
  simp only[zG,zc];split;·rfl
  ·exact lookup_ev
theorem gval_eval{st:St}{β:Nat->Nat}{ρ:List Value}{V:Mem}{a:Act}{w:World}(j:Rel O V0 w0 N β st ρ V a.tmps w){l:List Operand}{t:T}(h:EC st (EV l)=some t)(i:t.firstBox=none):
  ∀x∈l,a.eval x=gval ((EV l).zip t.toList) ρ x:=by
 intro x n;cases x with
 |tmp s=>
  have u:s∈EV l:=List.mem_filterMap.2 ⟨_,n,rfl⟩;obtain⟨y,z,hm⟩:=IH h s u;have m:=IG h s u;simp only[gval,gv,lookup_ev,m,z,zJ,Option.getD_some];rw[(T.ev_free (β:=id) (β':=β) (ρ:=ρ) y (II i hm)).1];exact j.slots s y z
 |const v=>rfl
 |global g=>rfl
 |func f=>rfl
theorem LN{st:St}{β:Nat->Nat}{ρ:List Value}{V:Mem}{a:Act}{w:World}(h:Rel O V0 w0 N β st ρ V a.tmps w){o:Oper}(y:EW o.op=false){t:T}(g:EC st (EV o.op.operands.toList)=some t)(f:t.firstBox=none):
  execOp a.eval o=execOp (gval ((EV o.op.operands.toList).zip t.toList) ρ) { dst:=none,op:=o.op,type:=o.type,pos:= "",after:=#[],guard:=none}:=by
 have u:=execOp_congr (ρ:=a.eval) (ρ':=gval ((EV o.op.operands.toList).zip t.toList) ρ) o (λj b e=>by grind[EW])
  (λx z=>gval_eval h g f x (by simpa using z))
 rw[u];rfl
variable{a:Act}{w:World}{st:St}{o:Oper}{k:St->Tr}{next:Act->World->Prop}{Q:Exit->Act->World->Prop}
def EZ(R:Ending->Mem->Prop)(V0:Mem)(w0:World)(ds:List Deferred)(Q:Exit->Act->World->Prop):Prop:=∀chain h w',h.defers=ds->(∃V',R (.panicked chain) V'/\Aq V0 w0 V' w')->Q (.panic chain) h w'
theorem exCall_sound(l:DN P fs)(hQ:EZ R V0 w0 a.defers Q){c:Call}{f:Operand}(Z:o.op=.call c)(Y:c.callee=.value f)(hd:DA N o.dst=true)
  (h:AM P R O V0 w0 N L ρ0 a.tmps w st (exCall P fs st o c f k))
  (hk:∀st' W w',(∃v,W=a.put o.dst v)->AM P R O V0 w0 N L ρ0 W.tmps w' st' (k st')->next W w'):o.wp P a w next Q:=by
 obtain⟨β,ρ,V,G,r,q⟩:=h;unfold exCall at q;split at q;·exact q.elim
 ·rename_i rs hrs;have after:∀(st:St)(β:Nat->Nat)(ρ:List Value)(V:Mem),Ci ρ0 L ρ st->Rel O V0 w0 N β st ρ V a.tmps w->st.wf=true->∀(g:FuncId)(args:Array Value),
    Tri P g args V (λe V'=>(∃vs,e=.returned (Ef rs vs)/\Shaped (rs.flatMap RK.kinds) vs/\D P R (k ((st.more (Gj rs)).putO o.dst (GP rs st.nv))) L (ρ++vs) V')∨∃A,e=.panicked A/\R e V')->
    Calls P g args w fun
     |.returned v,p=>next (a.put o.dst v) p
     |.panicked chain,p=>Q (.panic chain) a p
     |.outgrown,_=>LetsOut Q:=by
   intro st β ρ V G r hw g args ht;refine Fk (ht w r.frm.le) ?_;rintro e w' ⟨V',⟨vs,rfl,I,u⟩|⟨A,rfl,hR⟩,E⟩;rotate_left;·exact hQ A a w' rfl ⟨V',hR,(r.frame E).frm⟩
   refine hk _ _ _ ⟨_,rfl⟩ ⟨β,ρ++vs,V',(G.more _ _).putO _ _,?_,u⟩;have hl:vs.length=Gj rs:=I.length;have K:=(r.frame E).bind hw vs;rw[hl]at K;exact K.putO hd _ (by rw[<-r.nv];grind[rk_val])
  split at q
  ·rename_i g0 M F;obtain⟨st',t,n,j,z,y,V',X,i,u⟩:=D0 _ _ _ _ ⟨β,ρ,V,G,r,q⟩;split at n
   ·rename_i g x ts b d;simp only[zF]at n;subst n;simp only at u;split at u
    ·rename_i m;unfold bind at u;split at u
     ·rename_i hw;simp only[D]at u;have S:a.eval f=.func (.func g) #[] (x.evs y z).toArray:=A5 i b;have U:c.args.map a.eval=(ts.map (·.ev y z)).toArray:=by apply zg;rw[zf,HM i d]
      have B:=(T.ev_free (β:=id) (β':=z) (ρ:=y) (T.ofList (ts++x.toList)) (by grind[T.firstBox])).2;have C:(T.evs y id (T.ofList (ts++x.toList))).toArray=(ts.map (·.ev y z)).toArray++(x.evs y z).toArray:=by
       grind[Cy,Dj]
      have s:(execOp a.eval o).run P w=.ok (.enter g ((ts.map (·.ev y z)).toArray++(x.evs y z).toArray)) w:=by
       unfold execOp;simp only[Z,resolve,Y,S,U,yF,zK,zM,zL,invoke];rw[l g (List.contains_iff_mem.1 m)];simp
      grind[yG,Oper.upon]
     ·exact u.elim
    ·exact u.elim
   ·simp at n
  ·rename_i t0 F _;obtain⟨st',t,n,j,z,y,V',X,i,u⟩:=D0 _ _ _ _ ⟨β,ρ,V,G,r,q⟩;split at n
   ·rename_i t1 ts b d;simp only[zF]at n;subst n;simp only at u;unfold bind at u;split at u
    ·rename_i hw;simp only[D]at u;obtain⟨g,first,x,J,m,u⟩:=u;simp only[T.firstBox,zD]at j;rw[(T.ev_free (β:=id) (β':=z) (ρ:=y) t1 j.1).1]at J;have S:a.eval f=.func (.func g) first x:=(A5 i b).trans J
     have U:c.args.map a.eval=(ts.map (·.ev y z)).toArray:=by apply zg;rw[zf,HM i d]
     have B:=(T.ev_free (β:=id) (β':=z) (ρ:=y) (T.ofList ts) j.2).2;have s:(execOp a.eval o).run P w=.ok (.enter g (first++(ts.map (·.ev y z)).toArray++x)) w:=by
      grind[execOp,resolve,yF,invoke]
     grind[yG,Oper.upon,Cy]
    ·exact u.elim
   ·simp at n
  ·exact q.elim
end
section
variable{P:Program}{R:Ending->Mem->Prop}{O V0:Mem}{w0:World}{N:Nat}{L:List (List Value->Mem->Prop)}{ρ0:List Value}{fs:List Nat}{H:BV}
variable{a:Act}{w:World}{st:St}{o:Oper}{k:St->Tr}{next:Act->World->Prop}{Q:Exit->Act->World->Prop}
theorem IJ{v:Value}{w':World}(h:(execOp a.eval o).run P w=.ok (.value v) w')(g:next (a.put o.dst v) w'):o.wp P a w next Q:=by
 unfold yG;rw[h];exact g
theorem Ke{w':World}(h:(execOp a.eval o).run P w=.ok .skip w')(g:next (a.put o.dst undef) w'):o.wp P a w next Q:=by
 unfold yG;rw[h];exact g
theorem Ep(a:Act)(d:Option Nat)(v:Value):(a.put d v).defers=a.defers:=by cases d<;>rfl
theorem LO(e:DA N o.dst=true)
  (h:AM P R O V0 w0 N L ρ0 a.tmps w st (exGen P st o k))
  (d:∀st' q w',(∃v,q=a.put o.dst v)->AM P R O V0 w0 N L ρ0 q.tmps w' st' (k st')->next q w'):o.wp P a w next Q:=by
 obtain⟨β,ρ,V,s,J,y⟩:=h;unfold exGen at y;simp only at y;split at y;·exact y.elim
 ·rename_i m;have z:EW o.op=false:=by simpa using m
  split at y
  ·obtain⟨st',t,p,u,j,i,V',l,g,f⟩:=D0 _ _ _ _ ⟨β,ρ,V,s,J,y⟩;simp only[D]at f;obtain⟨w',n,r,c,b⟩:=f w g.frm.le;rw[<-LN g z p u]at r;refine Ke r (d _ _ _ ⟨_,rfl⟩ ⟨j,i,n,l.putO _ _,?_,b⟩);exact(g.frame c).putO e .und rfl
  ·split at y;·exact y.elim
   ·rename_i rs Z;obtain⟨st',t,p,u,j,i,V',l,g,f⟩:=D0 _ _ _ _ ⟨β,ρ,V,s,J,y⟩;unfold bind at f;split at f
    ·rename_i hw;simp only[D]at f;obtain⟨x,w',n,vs,r,c,rfl,b,Y⟩:=f w g.frm.le;rw[<-LN g z p u]at r;refine IJ r (d _ _ _ ⟨_,rfl⟩ ⟨j,i++vs,n,(l.more _ _).putO _ _,?_,Y⟩);have W:vs.length=Gj rs:=b.length;have G:=(g.frame c).bind hw vs;rw[W]at G;exact G.putO e _ (by rw[<-g.nv];grind[rk_val])
    ·exact f.elim
theorem IK{p b i:T}{sz off:Nat}{e:Option Nat}{ρ:List Value}{β:Nat->Nat}(h:Gk p=(b,i,sz,off,e))(g:p.kind=some .p):
  match e with
  |some _=>AC (p.ev ρ β)=Aa (Aa (AC (b.ev ρ β)) ((Ag (i.ev ρ β)).toNat*sz)) off
  |none=>AC (p.ev ρ β)=Aa (AC (b.ev ρ β)) ((Ag (i.ev ρ β)).toNat*sz):=by
 unfold Gk at h;split at h;·grind[T.ev,U.ev,B.ev,AC]
 ·cases h;simp only[T.ev,B.ev,AC,LB,Nat.add_zero]
 ·grind[T.ev,U.ev,AC,Ag]
 ·cases h;simp_all[T.ev,Ag,Int.toNat_zero,Nat.zero_mul,AC,Aa,yH]
theorem exLoad_sound{t:TypeId}{x:Operand}(hop:o.op=.load t x)(hd:DA N o.dst=true)
  (h:AM P R O V0 w0 N L ρ0 a.tmps w st (GU P st o.dst t x k))
  (hk:∀st' W w',(∃v,W=a.put o.dst v)->AM P R O V0 w0 N L ρ0 W.tmps w' st' (k st')->next W w'):o.wp P a w next Q:=by
 obtain⟨β,ρ,V,hp,hr,E⟩:=h;unfold GU at E;obtain⟨st',p,hg,A,f,u,V',I,l,g⟩:=D0 _ _ _ _ ⟨β,ρ,V,hp,hr,E⟩;have hx:a.eval x=p.ev u f:=A5 l hg;have J:∀{b i sz y e},Gk p=(b,i,sz,y,e)->b.firstBox=none/\i.firstBox=none:=by
  intro b i sz y e d;unfold Gk at d;grind[T.firstBox]
 have go:∀(q:Addr)(m:List K)(vs:List Value)(y:Nat)(z:T),AC (p.ev u f)=some (q.add y)->p.kind=some .p->Shaped m vs->st'.wf=true->
   (∀j v,vs[j]?=some v->w.cell? (q.add j)=some v)->DL P t (T.ofList (vars m st'.nv)) y=some z->D P R (k ((st'.more m.length).putO o.dst z)) L (u++vs) V'->o.wp P a w next Q:=by
  intro q m vs y z r n G hw hc Y M;have hl:vs.length=m.length:=G.length;have Z:=l.bind hw vs;rw[hl]at Z;have hev:(T.ofList (vars m st'.nv)).evs (u++vs) f=vs:=by
   rw[Cy,<-l.nv];have:=G1 (β:=f) m vs u [] G;simp_all
  have S:=LM (P:=P) (w:=w) (ρ:=u++vs) (β:=f) (b:=q) (by grind) Y;obtain⟨p',F⟩:=Gq (ρ:=u) (β:=f) n;rw[F]at r;simp only[AC]at r;subst r;refine IJ (v:=z.ev (u++vs) f) ?_ (hk _ _ _ ⟨_,rfl⟩ ⟨f,u++vs,V',(I.more _ _).putO _ _,Z.putO hd z rfl,M⟩);grind[execOp,Instr.loadAt,zh,zK,zM,zL]
 split at g;case isFalse=>exact g.elim
 rename_i n;split at g
 ·rename_i b i sz y e d;obtain⟨X,B⟩:=J d;split at g
  ·rename_i m C;split at g
   ·rename_i U;unfold bind at g;split at g
    ·rename_i hw;split at g
     ·rename_i z Y;simp only[D]at g;obtain⟨vs,c,h2,h3⟩:=g;have s:=IK (ρ:=u) (β:=f) d n;simp only at s;rw[(T.ev_free (β:=id) (β':=f) (ρ:=u) b X).1,(T.ev_free (β:=id) (β':=f) (ρ:=u) i B).1]at c;cases r:AC (b.ev u f)with
      |none=>simp[r,Mem.rowp]at c
      |some q=>
       simp only[r,Mem.rowp]at c;obtain⟨_,h4⟩:=G4 l.frm.le c;grind[Aa]
     ·exact g.elim
    ·exact g.elim
   ·exact g.elim
  ·exact g.elim
 ·rename_i b i sz y d;obtain⟨X,B⟩:=J d;split at g
  ·rename_i m C;unfold bind at g;split at g
   ·rename_i hw;split at g
    ·rename_i z Y;simp only[D]at g;obtain⟨vs,c,h2,h3⟩:=g;have s:=IK (ρ:=u) (β:=f) d n;simp only at s;rw[(T.ev_free (β:=id) (β':=f) (ρ:=u) b X).1,(T.ev_free (β:=id) (β':=f) (ρ:=u) i B).1]at c;cases r:AC (b.ev u f)with
     |none=>simp[r,Mem.rowp]at c
     |some q=>
      simp only[r,Mem.rowp]at c;obtain⟨_,h4⟩:=G4 l.frm.le c;rw[r]at s;simp only[Aa,zJ]at s;exact go _ m vs 0 z (by rw[s,yH]) n h2 hw h4 Y h3
    ·exact g.elim
   ·exact g.elim
  ·exact g.elim
end
section
variable{P:Program}{R:Ending->Mem->Prop}{O V0:Mem}{w0:World}{N:Nat}{L:List (List Value->Mem->Prop)}{ρ0:List Value}{fs:List Nat}{H:BV}
variable{a:Act}{w:World}{st:St}{o:Oper}{k:St->Tr}{next:Act->World->Prop}{Q:Exit->Act->World->Prop}
theorem LP{t:TypeId}{n g off:Nat}{v:Value}{vs:List Value}{h:Array Value}{ty:TypeId}(z:Ch P t=some n)(y:v.cells.toList=vs)(j:vs.length=n)
  (f:w.heap[g]?=some (.cells h ty (0,0))) (i:off+n<=h.size) (l:∀x∈vs,FI x=true):
  (storeVar t ⟨g,off,none⟩ v).run P w=.ok () (w.setRow g (h.toList.take off++vs++h.toList.drop (off+n)).toArray):=by
 have u:v.cells.size=n:=by grind
 have:=run_storeCells_at (P:=P) g off ty vs 0 h w f (by omega) (λx m=>by grind[oneCell_eq]);simp_all[storeVar,zK,DZ,zL,ne_eq,not_true_eq_false,if_false]
theorem kinds_one{t:T}{ρ:List Value}{β:Nat->Nat}(h:(C6 t).isSome=true):∀x∈t.evs ρ β,FI x=true:=by
 obtain⟨g,f⟩:=yB.1 h;exact(LC (ρ:=ρ) (β:=β) t g f).one
theorem M8{t:TypeId}{x y:Operand}(hop:o.op=.store t x y)(Z:o.dst=none)
  (h:AM P R O V0 w0 N L ρ0 a.tmps w st (exStore st t (Ch P t) x y k))
  (hk:∀st' B w',(∃v,B=a.put o.dst v)->AM P R O V0 w0 N L ρ0 B.tmps w' st' (k st')->next B w'):o.wp P a w next Q:=by
 obtain⟨β,ρ,V,hp,Y,s⟩:=h;have J:∀v,(a.put o.dst v)=a:=by rw[Z];intro v;rfl
 unfold exStore at s;split at s
 ·rename_i i u v n C E K;split at s
  ·rename_i G ty I;split at s
   ·rename_i S;obtain⟨h1,h2,W,h4⟩:=S;have U:=(Y.boxes i G ty I).1;have e1:a.eval x=.pointer (some ⟨β i,u,none⟩):=A5 Y C;have e2:a.eval y=v.ev ρ β:=A5 Y E;have f:=IC (ρ:=ρ) (β:=β) W;have l:(v.cellsT.evs ρ β).length=n:=by grind[Dj]
    have m:=LP (P:=P) K f l U (by rw[zu,Dj];simpa using h2) (kinds_one W);have e3:((G.evs ρ β).toArray.toList.take u++v.cellsT.evs ρ β++(G.evs ρ β).toArray.toList.drop (u+n))=(T.ofList (G.toList.take u++v.cellsT.toList++G.toList.drop (u+n))).evs ρ β:=by
     rw[Cy];simp[Dj,List.map_take,List.map_drop]
    rw[e3]at m;refine Ke (w':=w.setRow (β i) ((T.ofList (G.toList.take u++v.cellsT.toList++G.toList.drop (u+n))).evs ρ β).toArray) ?_ (hk _ _ _ ⟨_,rfl⟩ ⟨β,ρ,V,hp.setBox _ _ _,?_,s⟩);·grind[execOp,yI,zh,zK,zM,zL]
    ·rw[J];exact Y.setBox I
   ·exact s.elim
  ·exact s.elim
 ·rename_i n _ _ _ K;obtain⟨st',q,M,j,g,z,V',hp',r,d⟩:=D0 _ _ _ _ ⟨β,ρ,V,hp,Y,s⟩;split at M
  ·rename_i p v C E;simp only[zF]at M;subst M;simp only at d;split at d
   ·rename_i S;obtain⟨h1,h2,W,h4⟩:=S;simp only[T.firstBox,zD]at j;simp only[D]at d;obtain⟨b,c,ty,F,g2,g3,g4,g5⟩:=d;rw[(T.ev_free (β:=id) (β':=g) (ρ:=z) p j.1).1]at F;rw[(T.ev_free (β:=id) (β':=g) (ρ:=z) _ j.2).2]at g4 g5;obtain⟨p',A⟩:=Gq (ρ:=z) (β:=g) h1;rw[A]at F;simp only[AC]at F;subst F;have e1:a.eval x=.pointer (some b):=(A5 r C).trans A;have e2:a.eval y=v.ev z g:=A5 r E;have f:=IC (ρ:=z) (β:=g) W;have l:(v.cellsT.evs z g).length=n:=by grind[Dj]
    have I:b=⟨b.block,b.off,none⟩:=by cases b;simp_all
    have U:=r.frm.le _ _ g2;simp only[Nat.add_zero,l]at g4 g5;have m:=LP (P:=P) (off:=b.off) K f l U g4 (kinds_one W);rw[<-I]at m;refine Ke (w':=w.setRow b.block (c.toList.take b.off++v.cellsT.evs z g++c.toList.drop (b.off+n)).toArray) ?_ (hk _ _ _ ⟨_,rfl⟩ ⟨g,z,_,hp',?_,g5⟩);·grind[execOp,yI,zh,zK,zM,zL]
    ·rw[J];refine r.frame ⟨by rw[LJ];omega,λi obj X=>?_,λi X hV=>?_,λi X=>?_,rfl,rfl⟩
     ·by_cases e:i=b.block;·grind[Mem.set_same,setRow_heap]
      ·rw[Mem.set_ne e]at X;rw[setRow_other w _ _ e];exact r.frm.le i obj X
     ·grind[setRow_other]
     grind[Mem.set_ne]
   ·exact d.elim
  ·simp at M
 ·exact s.elim
theorem Kf{cs:T}{ty:Nat}{v:Nat->T}{x:Nat->Value}(n:DA N o.dst=true)
  {β:Nat->Nat} {ρ:List Value} {V:Mem} (i:Ci ρ0 L ρ st) (m:Rel O V0 w0 N β st ρ V a.tmps w) (g:D P R (GS H st o.dst cs ty v k) L ρ V)
  (u:(execOp a.eval o).run P w=.ok (.value (x w.heap.size)) (w.alloc (.cells (cs.evs ρ β).toArray ty (0,0))))
  (r:∀z:Nat->Nat,(v st.nb).ev ρ z=x (z st.nb))
  (l:∀st' y w',(∃v,y=a.put o.dst v)->AM P R O V0 w0 N L ρ0 y.tmps w' st' (k st')->next y w'):o.wp P a w next Q:=by
 unfold GS at g;split at g
 ·rename_i hw;simp only[zC]at hw;have j:=m.alloc hw.1 hw.2 ty;have q:x w.heap.size=(v st.nb).ev ρ (upd β st.nb w.heap.size):=by rw[r];simp[upd]
  have f:Ci ρ0 L ρ (({st with boxes:=(st.nb,cs,ty)::st.boxes,nb:=st.nb+1}:St).putO o.dst (v st.nb)):=
   Ci.putO (st:={st with boxes:=(st.nb,cs,ty)::st.boxes,nb:=st.nb+1}) ⟨i.1,i.2⟩ _ _
  have t:=j.putO n (v st.nb) q;refine IJ u ?_;simp only at g;split at g
  ·rename_i d h;split at g
   ·obtain⟨st',p⟩:=HO _ _ _ _ ⟨_,_,_,f,t,by simpa [h]using g⟩;grind
   ·exact l _ _ _ ⟨_,rfl⟩ ⟨_,_,_,f,t,by omega⟩
  ·rename_i h;exact l _ _ _ ⟨_,rfl⟩ ⟨_,_,_,f,t,by omega⟩
 ·exact g.elim
theorem IL{t:TypeId}{cs:List T}{ρ:List Value}{β:Nat->Nat}(h:Ez P t=some cs):∃z,Eo P t=some z/\z.cells.toList=cs.map (·.ev ρ β):=by
 unfold Ez at h;cases g:Eo P t with
 |none=>simp[g]at h
 |some z=>simp only[g,zr]at h;exact⟨z,rfl,(HL h).symm⟩
theorem mod_cells(g:List Value)(m:Nat)(h:g.length=m+1):∀n,(Array.range (n*(m+1))).map (λi=>(g.toArray[i % g.toArray.size]!))=(yJ n g).flatten.toArray:=by
 intro n;apply zg;simp only[zf,Array.toList_range,zu,h];apply zx;intro i;rw[List.getElem?_map];induction n generalizing i with
 |zero=>simp
 |succ n f=>
  by_cases z:i<n*(m+1)
  ·have y:=f i;have e:(yJ (n+1) g).flatten=(yJ n g).flatten++g:=by
    rw[show n+1=n+1 from rfl,yK,yL];simp
   grind
  ·have e:(yJ (n+1) g).flatten=(yJ n g).flatten++g:=by
    rw[show n+1=n+1 from rfl,yK,yL];simp
   have t:((yJ n g).flatten).length=n*(m+1):=by simp[h]
   rw[e,List.getElem?_append_right (by omega),t];by_cases x:i<(n+1)*(m+1)
   ·have u:i-n*(m+1)<m+1:=by grind
    have j:i % (m+1)=i-n*(m+1):=by
     have:i=(i-n*(m+1))+n*(m+1):=by omega
     rw[this,Nat.add_mul_mod_self_right,Nat.mod_eq_of_lt u];omega
    simp_all
   grind
end
section
variable{P:Program}{R:Ending->Mem->Prop}{O V0:Mem}{w0:World}{N:Nat}{L:List (List Value->Mem->Prop)}{ρ0:List Value}{fs:List Nat}{H:BV}
theorem M9{a:Act}{w:World}{st:St}{o:Oper}{x:Operand}{next:Act->World->Prop}{Q:Exit->Act->World->Prop}(i:EZ R V0 w0 a.defers Q)(u:o.op=.panic x)
  (h:AM P R O V0 w0 N L ρ0 a.tmps w st (exPanic st x)):o.wp P a w next Q:=by
 obtain⟨l,t,n,g,β,ρ,V,q,z,y⟩:=D0 _ _ _ _ h;simp only[D]at y;obtain⟨ty,v,j,m⟩:=y;rw[(T.ev_free (β:=id) (β':=β) (ρ:=ρ) t g).1]at j;have r:a.eval x=.iface ty v:=(A5 z n).trans j;have f:(execOp a.eval o).run P w=.halt (.panic (.iface ty v)) w:=by
  unfold execOp;simp only[u,r];rfl
 unfold yG;rw[f];exact i _ a w rfl ⟨V,m,z.frm⟩
theorem LQ(r:DN P fs){a:Act}{w:World}{st:St}{o:Oper}{k:St->Tr}{next:Act->World->Prop}{Q:Exit->Act->World->Prop}(E:EZ R V0 w0 a.defers Q)
  (h:AM P R O V0 w0 H.N L ρ0 a.tmps w st (exOp P fs H st o k))
  (q:∀st' I w',(∃v,I=a.put o.dst v)->AM P R O V0 w0 H.N L ρ0 I.tmps w' st' (k st')->next I w'):o.wp P a w next Q:=by
 obtain⟨β,ρ,V,m,l,g⟩:=h;unfold exOp at g;split at g;case isFalse=>exact g.elim
 rename_i d;split at g
 ·rename_i ns t M;obtain⟨s,W⟩:=Kd g β;exact IJ (J8 l M s) (q _ _ _ ⟨_,rfl⟩ ⟨β,ρ,V,m.putO _ _,l.putO d t rfl,W⟩)
 ·split at g
  ·rename_i e x u;split at g
   ·rename_i v U;split at g
    ·rename_i F;have p:=IC (ρ:=ρ) (β:=β) F;refine Kf (x:=λb=>.pointer (some ⟨b,0,none⟩)) d m l g ?_ (λ_=>rfl) q;unfold execOp;simp only[u,Instr.box,newVar,newRow,zK,run_newObj,zM,zL,A5 l U,<-p,yM];rfl
    ·exact g.elim
   ·exact g.elim
  ·rename_i e u;split at g
   ·rename_i cs X;obtain⟨z,s,W⟩:=IL (ρ:=ρ) (β:=β) X;refine Kf (x:=λb=>.pointer (some ⟨b,0,none⟩)) d m l g ?_ (λ_=>rfl) q;unfold execOp;simp only[u,Instr.alloc,IA s,newVar,newRow,zK,run_newObj,zM,zL,Cy,<-W,yM];rfl
   ·exact g.elim
  ·rename_i t n parts u;split at g
   ·rename_i e K;split at g
    ·rename_i sz z ps S X B;split at g
     ·rename_i cs hf;split at g
      ·rename_i hc;obtain⟨zv,s,W⟩:=IL (ρ:=ρ) (β:=β) X;have A:=ID (ρ:=ρ) (β:=β) hf;refine Kf (x:=λb=>.slice (some ⟨b,0,none⟩) n n) d m l g ?_ (λβ'=>by rfl) q;have J:(parts.map λ(i,x)=>(i,a.eval x)).toList=ps.map (λx=>(x.1,x.2.ev ρ β)):=by rw[<-IE l B,zf]
       unfold execOp;have j:¬n*(sz+1)>2^24:=by omega
       have C:zv.cells=(z.map (·.ev ρ β)).toArray:=by grind
       have G:(yJ n z).flatten.map (·.ev ρ β)=(yJ n (z.map (·.ev ρ β))).flatten:=by simp_all
       rw[G]at A;have Z:=mod_cells (z.map (·.ev ρ β)) sz (by simpa using hc.2) n;by_cases T:n*(sz+1)=0
       ·obtain rfl:n=0:=by grind
        simp only[List.replicate_zero,List.flatten_nil]at A;have e0:Array.range (0*(sz+1))=#[]:=by simp
        simp only[u,yN,run_underlying K,DZ S,zK,zL,J,if_neg j,if_pos T,zM,e0,Array.map_empty,A];simp[Cy,newRow]
       ·simp only[u,yN,run_underlying K,DZ S,zK,zL,J,if_neg j,if_neg T,IA s,zM,C,Z,A];simp[Cy,newRow]
      ·exact g.elim
     ·exact g.elim
    ·exact g.elim
   ·exact g.elim
  ·rename_i t x u;exact exLoad_sound u d ⟨β,ρ,V,m,l,g⟩ q
  ·rename_i t x y u;split at g
   ·rename_i Y;exact M8 u Y ⟨β,ρ,V,m,l,g⟩ q
   ·exact g.elim
  ·rename_i c u;split at g
   ·rename_i f D;exact exCall_sound r E u D d ⟨β,ρ,V,m,l,g⟩ q
   ·exact LO d ⟨β,ρ,V,m,l,g⟩ q
   ·exact g.elim
  ·rename_i x u;exact M9 E u ⟨β,ρ,V,m,l,g⟩
  ·exact LO d ⟨β,ρ,V,m,l,g⟩ q
theorem Rel.getD_size{O V0:Mem}{w0:World}{N:Nat}{β:Nat->Nat}{st:St}{ρ:List Value}{V:Mem}{tmps:Array Value}{w:World}(h:Rel O V0 w0 N β st ρ V tmps w){d:Nat}{t:T}(g:st.get d=some t):
  tmps.getD d undef=t.ev ρ β:=h.slots d t g
theorem Kg{all:Array Oper}{tmps:Array Value}{j d:Nat}(g:(all[j]?).bind (·.dst)=some d):yielded all tmps j=match tmps.getD d undef with|.bool b=>some b|_=>none:=by
 unfold yielded;rw[g];by_cases h:d<tmps.size
 ·simp only[zr,z7,h,dif_pos,getElem?_pos];show _=match tmps[d]with|.bool b=>some b|_=>none
  grind
 ·simp only[zr,z7,h,dif_neg,not_false_eq_true];rw[getElem?_neg tmps d h];rfl
theorem HP(f:DN P fs){all:Array Oper}{k:St->Tr}{Q:Exit->Act->World->Prop}:∀(l:List Oper)(st:St)(a:Act)(w:World),
  EZ R V0 w0 a.defers Q->AM P R O V0 w0 H.N L ρ0 a.tmps w st (Fh P fs H all l st k)->
  (∀st' r w',r.defers=a.defers->AM P R O V0 w0 H.N L ρ0 r.tmps w' st' (k st')->Q .normal r w')->wpList P all Q l a w
 |[],st,a,w,_,⟨β,ρ,V,z,y,t⟩,Y=>Y _ a w rfl ⟨β,ρ,V,z.compact _,y.compact _,t⟩
 |o::rest,st,a,w,I,h,Y=>by
  have i:∀st,yO o (yielded all a.tmps)=true->AM P R O V0 w0 H.N L ρ0 a.tmps w st (exOp P fs H st o λst=>Fh P fs H all rest st k)->wpList P all Q (o::rest) a w:=by
   intro st hw s;unfold wpList;rw[if_pos hw];refine .inl (LQ f I s λst' r w' M F=>?_);have J:r.defers=a.defers:=by obtain⟨v,rfl⟩:=M;exact Ep _ _ _
   exact HP f rest st' r w' (by rw[J];exact I) F λx n m X B=>Y x n m (X.trans J) B
  have W:∀st,yO o (yielded all a.tmps)=false->AM P R O V0 w0 H.N L ρ0 a.tmps w st (if DA H.N o.dst then Fh P fs H all rest (st.putO o.dst .und) k else .bad 35 0)->wpList P all Q (o::rest) a w:=by
   intro st hw s;unfold wpList;rw[if_neg (by rw[hw];simp)];obtain⟨β,ρ,V,z,y,t⟩:=s;split at t
   ·rename_i S;refine HP f rest _ _ w (by rw[Ep];exact I) ⟨β,ρ,V,z.putO _ _,y.putO S .und rfl,t⟩ λx n m X B=>Y x n m (X.trans (Ep _ _ _)) B
   ·exact t.elim
  simp only[Fh]at h;split at h;·grind[yO]
  ·rename_i j G s;split at h;·obtain⟨β,ρ,V,z,y,t⟩:=h;exact t.elim
   ·rename_i d U;have q:=Kg (tmps:=a.tmps) U;have C:yO o (yielded all a.tmps)=(yielded all a.tmps j==some G):=by simp[yO,s]
    obtain⟨β,ρ,V,z,y,t⟩:=h;split at t
    ·rename_i v p;rw[y.getD_size p]at q;simp only[T.ev]at q;split at t;·rename_i e;subst e;exact i st (by simp_all) ⟨β,ρ,V,z,y,t⟩
     ·rename_i e;exact W st (by simp_all) ⟨β,ρ,V,z,y,t⟩
    ·rename_i p;rw[y.getD_size p]at q;have:yielded all a.tmps j=none:=by rw[q];rfl
     exact W st (by grind) ⟨β,ρ,V,z,y,t⟩
    ·rename_i c _ _ p;split at t
     ·rename_i hc;obtain⟨E,K,hc3⟩:=hc;obtain⟨b,A⟩:=Fj (ρ:=ρ) (β:=β) E;rw[y.getD_size p,A]at q;simp only at q;simp only[D]at t;have Z:=(T.ev_free (β:=id) (β':=β) (ρ:=ρ) c K).1;have g:Rel O V0 w0 H.N β (st.now d (.bool b)) ρ V a.tmps w:=y.now p (by rw[A];rfl);cases b with
      |true=>
       have u:=t.1 (by rw[Z,A];rfl);split at u;·rename_i e;exact i _ (by simp_all) ⟨β,ρ,V,z.now _ _,g,u⟩
       ·rename_i e;exact W _ (by simp_all) ⟨β,ρ,V,z.now _ _,g,u⟩
      |false=>
       have u:=t.2 (by rw[Z,A];rfl);split at u;·rename_i e;exact W _ (by simp_all) ⟨β,ρ,V,z.now _ _,g,u⟩
       ·rename_i e;exact i _ (by simp_all) ⟨β,ρ,V,z.now _ _,g,u⟩
     ·exact t.elim
    ·exact t.elim
end
end Go.Sx
