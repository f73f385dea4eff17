/- Part 3: no statement of the seat is proved here. -/
import Derived.Test.YtejinebghgaigaaGreatDoorPr02
import Derived.Orders
set_option linter.unusedVariables false
set_option linter.unusedSimpArgs false
open Option.some renaming injEq->zF
open List renaming length_append->zw,map_append->yO,mem_cons_self->zc,append_assoc->zH,mem_cons_of_mem->zb,mem_cons->yC,all_eq_true->za,nodup_cons->yT,mem_filterMap->yV,mem_range->yX,mem_filter->yZ,prefix_refl->yx,prefix_append->yB
open Bool renaming false_eq_true->zN,and_eq_true->zC,or_eq_true->yP,not_eq_true'->zU
open Prod.mk renaming injEq->zS
open Option renaming isSome_iff_exists->yA,bind_some->zt
open Go.Region renaming binds->yQ,wanted->yN,ready->yY
open Nat renaming strongRecOn->yR,le_refl->yU
open Array renaming getElem?_eq_some_iff->z8,getElem?_eq_getElem->yS,all_eq_true_iff_forall_mem->yW,size_setIfInBounds->yy
open Go.Instr renaming sureAddr->zi
open Go.Sem renaming run_bind->zK,run_pure->zM
open Go.Result renaming andThen_ok->zL
open Go.Addr renaming add_zero'->yG
open Go.Oper renaming upon->yz
namespace Go.Sx
open Go
section
variable{P:Program}{R:Ending->Mem->Prop}{O V0:Mem}{w0:World}{N:Nat}{β:Nat->Nat}{ρ:List Value}{V:Mem}{w:World}{tmps:Array Value}
theorem NP{ρ:List Value}{β:Nat->Nat}{t:T}{ks:List K}(h:DL t=some ks):Shaped ks (t.toList.map (·.ev ρ β)):=by
 rw[<-DV];exact NA t ks h
theorem Ks:∀(ws:List Nat)(h:St)(f:List Value),f.length=h.nv->∀(z:St)(g:List Value)(β:Nat->Nat)(ts:List T),IC z (CR ws h).2=some ts->
  (∀s t,z.get s=some t->tmps.getD s undef=t.ev g β)->
  Shaped ((CR ws h).2.flatMap (·.2.2)) (ts.map (·.ev g β))/\(CR ws h).1.nv=h.nv+ts.length/\
  (CR ws h).1.boxes=h.boxes/\(CR ws h).1.nb=h.nb/\(CR ws h).1.depth=h.depth/\
  ∀s t,(CR ws h).1.get s=some t->(s∉ws/\h.get s=some t)∨(s∈ws/\tmps.getD s undef=t.ev (f++ts.map (·.ev g β)) β)
 |[],h,f,h1,z,g,β,ts,u,v=>by
  simp only[CR,IC,zF]at u;subst u;exact⟨trivial,by simp[CR],rfl,rfl,rfl,λs t Y=>.inl ⟨by simp,Y⟩⟩
 |W::ws,h,f,h1,z,g,β,ts,u,v=>by
  cases hm:((h.get W).bind λt=>(genKinds t).map λl=>(Gw t,l))with
  |some p=>
   obtain⟨b,l⟩:=p;simp only[CR,hm]at u⊢;simp only[IC]at u;split at u
   ·rename_i x J X B;split at u
    ·rename_i U;obtain⟨C,D⟩:=U;simp only[zF]at u;subst u;have y:Shaped l (x.cellsT.toList.map (·.ev g β)):=NP D;have G:(x.cellsT.toList.map (·.ev g β)).length=l.length:=y.length;obtain⟨A,E,I,M,F,K⟩:=Ks ws ({h with nv:=h.nv+l.length}.put W (genTerm b l h.nv)) (f++x.cellsT.toList.map (·.ev g β)) (by simp only[zw,G,h1];rfl) z g β J B v;refine⟨?_,?_,I,M,F,λs t Y=>?_⟩;·rw[yO];exact Kg y A
     ·grind[St.put]
     ·rcases K s t Y with⟨S,m⟩|⟨S,m⟩
      ·rw[Kl]at m;split at m
       ·rename_i e;subst e;right;refine⟨zc,?_⟩;split at m;·simp at m
        ·simp only[zF]at m;subst m;rw[v s x X];have hv:=IF (β:=β) l (x.cellsT.toList.map (·.ev g β)) f (J.map (·.ev g β)) y;rw[h1]at hv;rw[yO,<-zH];unfold genTerm;cases b with
         |true=>
          simp only[if_true,T.ev,Di,hv];cases x<;>simp[Gw]at C;simp[T.ev,T.cellsT,DV]
         |false=>
          simp only[zN,if_false];have q:x.cellsT=.cons x .nil:=by cases x<;>simp_all[Gw,T.cellsT]
          rw[q]at hv y;simp only[T.toList,List.map_cons,List.map_nil]at hv y
          match l,y,hv with
          |[k],y,hv=>
           grind[vars,T.toList]
       ·rename_i e;exact .inl ⟨by simp[e,S],m⟩
      simp_all
    ·simp at u
   ·simp at u
  |none=>
   simp only[CR,hm]at u⊢;cases Z:h.get W with
   |none=>
    simp only[Z]at u⊢;obtain⟨A,E,I,M,F,K⟩:=Ks ws h f h1 z g β ts u v;grind
   |some t0=>
   simp only[Z]at u⊢;obtain⟨A,E,I,M,F,K⟩:=Ks ws (h.put W .nil) f h1 z g β ts u v;refine⟨A,E,I,M,F,λs t Y=>?_⟩;grind[Kl,inr,zb]
theorem NQ(st:St)(i j:Nat)(cs:T)(ty:Nat):(st.setBox i cs ty).box j=if j=i then some (cs,ty)else st.box j:=by
 grind[St.box,St.setBox]
theorem NR:∀(hint:List Nat)(st:St)(y:List Value),y.length=st.nv->∀(f:St)(bs:List (Nat×Nat×List K)),IB hint st=some (f,bs)->∀(x:St)(g:List Value)(β:Nat->Nat)(ts:List T),ID x bs=some ts->
  Shaped (bs.flatMap (·.2.2)) (ts.map (·.ev g β))/\f.nv=st.nv+ts.length/\f.slots=st.slots/\f.nb=st.nb/\f.depth=st.depth/\
  (∀i,i∈bs.map (·.1)->(st.box i).isSome=true)/\
  ∀i cs ty,f.box i=some (cs,ty)->(i∉bs.map (·.1)/\st.box i=some (cs,ty))∨(i∈bs.map (·.1)/\∃u,x.box i=some (u,ty)/\∀F,cs.evs (y++ts.map (·.ev g β)++F) β=u.evs g β)
 |[],st,y,h1,f,bs,z,x,g,β,ts,l=>by
  simp only[IB,zF,zS]at z;obtain⟨rfl,rfl⟩:=z;simp only[ID,zF]at l;subst l;exact⟨trivial,by simp,rfl,rfl,rfl,by simp,λi cs ty h=>.inl ⟨by simp,h⟩⟩
 |s::hint,st,y,h1,f,bs,z,x,g,β,ts,l=>by
  simp only[IB]at z;split at z
  ·rename_i i X hs;split at z
   ·rename_i cs ty J;split at z
    ·rename_i M B;simp only[Option.map_eq_some_iff,zS]at z;obtain⟨⟨r1,r2⟩,C,rfl,rfl⟩:=z;simp only[ID]at l;split at l
     ·rename_i u D G E Z;split at l
      ·rename_i S;obtain⟨rfl,Y⟩:=S;simp only[zF]at l;subst l;have W:Shaped M (u.toList.map (·.ev g β)):=NP Y;have v:(u.toList.map (·.ev g β)).length=M.length:=W.length;obtain⟨g1,g2,U,g4,g5,g7,g6⟩:=NR hint _ (y++u.toList.map (·.ev g β)) (by simp only[zw,v,h1];rfl) _ _ C x g β G Z;refine⟨?_,?_,U,g4,g5,λj m=>?_,λj A I m=>?_⟩;·grind[Kg]
       ·grind[St.setBox]
       ·simp only[List.map_cons,yC]at m;rcases m with rfl|m;·simp[J]
        ·have:=g7 j m;rw[NQ]at this;by_cases e:j=i;·grind
         ·rw[if_neg e]at this;exact this
       ·rcases g6 j A I m with⟨e1,q⟩|⟨e1,cs2,q,e3⟩
        ·rw[NQ]at q;split at q
         ·rename_i e;subst e;simp only[zF,zS]at q;obtain⟨rfl,rfl⟩:=q;grind[inr,IF,Di,DV,zH]
         ·rename_i e;exact .inl ⟨by simp_all,q⟩
        simp_all
      ·simp at l
     ·simp at l
    ·simp at z
   ·simp at z
  ·simp at z
theorem Pa{st:St}{bs:List (Nat×Nat×List K)}{ss:List (Nat×Bool×List K)}{t:T}(h:Js st bs ss=some t):
  ∃l m,ID st bs=some l/\IC st ss=some m/\t=T.ofList (l++m)/\t.firstBox=none:=by
 unfold Js at h;grind
theorem Kt{ws hint:List Nat}{st g f:St}{bs:List (Nat×Nat×List K)}{vs:T}{ρ':List Value}(hw:st.wf=true)(D:ρ.length=st.nv)(E:ρ<+:ρ')
  (S:IB hint st=some (g,bs)) (G:Js f bs (CR ws g).2=some vs) (y:backOk {(CR ws g).1 with depth:=st.depth+1} f bs ws=true)
  (z:Rel O V0 w0 N β f ρ' V tmps w):
  Rel O V0 w0 N β {(CR ws g).1 with depth:=st.depth+1} (ρ++vs.evs ρ' id) V tmps w/\Shaped (bs.flatMap (·.2.2)++(CR ws g).2.flatMap (·.2.2)) (vs.evs ρ' id):=by
 obtain⟨l,m,h1,h2,rfl,h3⟩:=Pa G;rw[(T.ev_free (β:=id) (β':=β) (ρ:=ρ') _ h3).2,Di,yO];obtain⟨a1,a2,a3,F,a5,U,a7⟩:=NR hint st ρ D g bs S f ρ' β l h1;obtain⟨b1,b2,b3,X,b5,b6⟩:=Ks (tmps:=tmps) ws g (ρ++l.map (·.ev ρ' β)) (by grind) f ρ' β m h2 z.slots;simp only[backOk,zC,za,yP,decide_eq_true_eq]at y;have Y:∀t:T,t.wf st.nv st.nb=true->t.ev ρ' β=t.ev (ρ++(l.map (·.ev ρ' β)++m.map (·.ev ρ' β))) β/\t.evs ρ' β=t.evs (ρ++(l.map (·.ev ρ' β)++m.map (·.ev ρ' β))) β:=by
  refine T.ev_congr (λi hi=>?_) (λ_ _=>rfl);obtain⟨σ,rfl⟩:=E;grind
 have q:∀s,g.get s=st.get s:=λs=>by unfold St.get;rw[a3]
 have v:∀i,St.box {(CR ws g).1 with depth:=st.depth+1} i=g.box i:=λi=>by grind[St.box]
 have u:∀i,(St.box {(CR ws g).1 with depth:=st.depth+1} i).isSome=true->(f.box i).isSome=true:=by
  intro i hi;obtain⟨⟨cs,ty⟩,W⟩:=yA.1 hi;rcases y.2 _ (LR W)with h|h;·grind
  grind
 refine⟨
 {nv:=?_
  size:=z.size
  slots:=λs t B=>?_
  frm:=z.frm
  boxes:=λi cs ty hi=>?_
  hid:=λb o G=>⟨(z.hid b o G).1,(z.hid b o G).2.1,(z.hid b o G).2.2.1,λi hi=>(z.hid b o G).2.2.2 i (u i hi)⟩
  inj:=λi j hi hj=>z.inj i j (u i hi) (u j hj)},Kg a1 b1⟩
 ·grind
 ·rcases b6 s t B with⟨A,J⟩|⟨_,J⟩
  ·have Z:f.get s=some t:=by
    rcases y.1 _ (lookup_mem (IH B))with h|h;·simp_all
    grind
   rw[q]at J;rw[z.slots s t Z];grind[wf_get]
  simp_all
 ·rw[v]at hi;rcases a7 i cs ty hi with⟨A,J⟩|⟨A,cs',J,Z⟩
  ·have Z:f.box i=some (cs,ty):=by
    grind[St.box,CR,absurd]
   obtain⟨I,M,c3,_⟩:=z.boxes i cs ty Z;rw[<-(Y cs (HS hw J).2).2];exact⟨I,M,c3,by simp only[X,F];exact(HS hw J).1⟩
  ·obtain⟨I,M,c3,_⟩:=z.boxes i cs' ty J;have C:=Z (m.map (·.ev ρ' β));rw[zH]at C;rw[C];obtain⟨x,W⟩:=yA.1 (U i A);exact⟨I,M,c3,by simp only[X,F];exact(HS hw W).1⟩
end
def Jz(acc:List Nat)(o:Oper):Nat:=o.after.toList.foldl (λs e=>if yQ .any e then s|||(1<<<e.on)|||acc.getD e.on 0 else s) 0
theorem NS:∀(os:List Oper)(acc:List Nat),(∃g,CG os acc=acc++g/\g.length=os.length)/\
  ∀k o,os[k]?=some o->(CG os acc).getD (acc.length+k) 0=Jz ((CG os acc).take (acc.length+k)) o
 |[],acc=>⟨⟨[],by simp[CG]⟩,λk o h=>by simp at h⟩
 |o::os,acc=>by
  have e:CG (o::os) acc=CG os (acc++[Jz acc o]):=rfl;obtain⟨⟨g,h1,h2⟩,h3⟩:=NS os (acc++[Jz acc o]);rw[e];refine⟨⟨Jz acc o::g,by rw[h1];simp,by simp[h2]⟩,λk f h=>?_⟩;cases k with
  |zero=>
   simp_all
  |succ k=>
   have:=h3 k f (by simpa using h);simp only[zw,List.length_singleton]at this;grind
theorem fold_bits(acc:List Nat):∀(es:List Edge)(s j:Nat),(es.foldl (λs e=>if yQ .any e then s|||(1<<<e.on)|||acc.getD e.on 0 else s) s).testBit j=true->
  s.testBit j=true∨∃e∈es,yQ .any e=true/\(j=e.on∨(acc.getD e.on 0).testBit j=true)
 |[],s,j,h=>.inl h
 |e::es,s,j,h=>by
  simp only[List.foldl_cons]at h;rcases fold_bits acc es _ j h with h1|⟨e',h2,h3⟩
  ·by_cases g:yQ .any e=true
   ·rw[if_pos g]at h1;simp only[Nat.testBit_or,yP]at h1;rcases h1 with(h1|h1)|h1;·exact .inl h1
    ·right;refine⟨e,zc,g,.inl ?_⟩;rw[Nat.testBit_shiftLeft]at h1;simp only[zC,decide_eq_true_eq]at h1;have h4:=h1.2;rcases Nat.eq_or_lt_of_le h1.1 with f|f;·exact f.symm
     ·have:(1:Nat).testBit (j-e.on)=false:=by
       obtain⟨m,hm⟩:∃m,j-e.on=m+1:=⟨j-e.on-1,by omega⟩;rw[hm,Nat.testBit_succ];simp
      rw[this]at h4;cases h4
    ·exact .inr ⟨e,zc,g,.inr h1⟩
   ·rw[if_neg g]at h1;exact .inl h1
  ·exact .inr ⟨e',zb _ h2,h3⟩
def JA(all:Array Oper)(listed:Array Bool):Prop:=∀j oj,all[j]?=some oj->listed.getD j false=true->∀e∈oj.after,yQ .any e=true->listed.getD e.on false=true
def Ku(all:Array Oper):Prop:=∀i o,all[i]?=some o->∀e∈o.after,yQ .any e=true->e.on<i
theorem mask_listed{all:Array Oper}(l:Ku all){listed:Array Bool}(m:JA all listed):∀(i:Nat)(o:Oper),all[i]?=some o->
  (∀e∈o.after,yQ .any e=true->listed.getD e.on false=true)->∀j,(C2 (CG all.toList []) i).testBit j=true->listed.getD j false=true:=by
 intro i;induction i using yR with
 |_ i q=>
  intro o y v j z;have h1:=(NS all.toList []).2 i o (by simpa using y);simp only[List.length_nil,Nat.zero_add]at h1;unfold C2 at z;rw[h1]at z;unfold Jz at z;rcases fold_bits _ _ _ _ z with h2|⟨e,h2,h3,h4⟩;·simp at h2
  ·have h:e∈o.after:=by simpa using h2
   have g:=l i o y e h h3;have x:=v e h h3;rcases h4 with rfl|h4;·exact x
   ·have f:((CG all.toList []).take i).getD e.on 0=(CG all.toList []).getD e.on 0:=by
     simp[List.getD,g]
    rw[f]at h4;have hi:i<all.size:=(z8.1 y).1;have u:all[e.on]?=some (all[e.on]'(by omega)):=yS _;exact q e.on g _ u (m e.on _ u x) j h4
theorem Kv:∀{l:List Nat},IA l=true->l.Nodup
 |[],_=>List.nodup_nil
 |x::xs,h=>by
  simp only[IA,zC,zU]at h;exact yT.2 ⟨by simpa using h.1,Kv h.2⟩
structure Dw (w w':World):Prop where
 heap:∀(b:Nat)(o:Obj),w.heap[b]?=some o->w'.heap[b]?=some o
 size:w.heap.size<=w'.heap.size
 os:w'.os=w.os
 out:w'.output=w.output
theorem Dw.refl(w:World):Dw w w:=⟨λ_ _ h=>h,yU _,rfl,rfl⟩
theorem Dw.trans{a b c:World}(h:Dw a b)(k:Dw b c):Dw a c:=⟨λi o hi=>k.heap i o (h.heap i o hi),Nat.le_trans h.size k.size,k.os.trans h.os,k.out.trans h.out⟩
theorem Dw.alloc(w:World)(o:Obj):Dw w (w.alloc o):=
 ⟨λb g h=>(Jw w o (z8.1 h).1).trans h,by simp_all,rfl,rfl⟩
section
variable{P:Program}{O V0:Mem}{w0:World}{N:Nat}{β:Nat->Nat}{st:St}{ρ:List Value}{V:Mem}{w:World}{tmps:Array Value}
theorem Rel.ext(h:Rel O V0 w0 N β st ρ V tmps w){w':World}(e:Dw w w'):Rel O V0 w0 N β st ρ V tmps w':=
 {h with
  frm:=
   {size:=Nat.le_trans h.frm.size e.size
    le:=λb o g=>e.heap b o (h.frm.le b o g)
    old:=λb g u=>by
     have h1:=h.frm.old b g u;rw[<-h1];have f:b<w.heap.size:=Nat.lt_of_lt_of_le g h.frm.size;exact(e.heap b _ (yS f)).trans (yS f).symm
    dom:=h.frm.dom
    os:=e.os.trans h.frm.os
    out:=e.out.trans h.frm.out}
  boxes:=λi cs ty hi=>⟨e.heap _ _ (h.boxes i cs ty hi).1,(h.boxes i cs ty hi).2⟩
  hid:=λb o g=>⟨e.heap _ _ (h.hid b o g).1,(h.hid b o g).2⟩}
theorem Rel.less(h:Rel O V0 w0 N β st ρ V tmps w){g:Mem}(f:∀b o,g b=some o->O b=some o):Rel g V0 w0 N β st ρ V tmps w:=
 {h with hid:=λb o u=>h.hid b o (f b o u)}
theorem Rel.orphan(h:Rel O V0 w0 N β st ρ V tmps w)(o:Obj):Rel (O.set w.heap.size o) V0 w0 N β st ρ V tmps (w.alloc o):=
 {h.ext (Dw.alloc w o)with
  hid:=λb f g=>by
   by_cases e:b=w.heap.size
   ·subst e;rw[Mem.set_same]at g;cases g;refine⟨NF w o,le_none h.frm.le (yU _),h.frm.size,λi hi=>?_⟩;obtain⟨x,u⟩:=yA.1 hi;have:=(h.boxes i x.1 x.2 u).1;grind
   ·rw[Mem.set_ne e]at g;exact(h.ext (Dw.alloc w o)).hid b f g}
theorem Rel.adopt(h:Rel O V0 w0 N β st ρ V tmps w)(hw:st.wf=true){cs:T}(F:cs.wf st.nv st.nb=true){ty b:Nat}(W:O b=some (.cells (cs.evs ρ β).toArray ty (0,0))):
  Rel (λc=>if c=b then none else O c) V0 w0 N (upd β st.nb b) {st with boxes:=(st.nb,cs,ty)::st.boxes,nb:=st.nb+1} ρ V tmps w:=by
 have l:∀t:T,t.wf st.nv st.nb=true->t.ev ρ β=t.ev ρ (upd β st.nb b)/\t.evs ρ β=t.evs ρ (upd β st.nb b):=
  T.ev_congr (λ_ _=>rfl) (λi hi=>by grind[upd])
 have g:∀(i:Nat)(x:T×Nat),St.box {st with boxes:=(st.nb,cs,ty)::st.boxes,nb:=st.nb+1} i=some x->(i=st.nb/\x=(cs,ty))∨(i≠st.nb/\st.box i=some x):=by
  grind[St.box,inr]
 obtain⟨X,B,C,D⟩:=h.hid b _ W;exact
 {nv:=h.nv
  size:=h.size
  slots:=λs t Z=>(h.slots s t Z).trans (l t (wf_get hw Z)).1
  frm:=h.frm
  boxes:=λi m q hi=>by
   rcases g i _ hi with⟨rfl,e⟩|⟨z,f⟩;·grind[upd]
   ·obtain⟨h1,h2,h3,h4⟩:=h.boxes i m q f;grind[upd,HS,Nat.lt_succ_of_lt]
  hid:=λc o v=>by
   split at v;·cases v
   ·rename_i z;obtain⟨A,k2,k3,E⟩:=h.hid c o v;refine⟨A,k2,k3,λi hi=>?_⟩;obtain⟨x,J⟩:=yA.1 hi;rcases g i x J with⟨rfl,_⟩|⟨u,f⟩;·grind[upd]
    grind[upd]
  inj:=λi j hi I Y=>by
   obtain⟨x,J⟩:=yA.1 hi;obtain⟨y,M⟩:=yA.1 I;rcases g i x J with⟨rfl,_⟩|⟨z,f⟩<;>rcases g j y M with⟨rfl,_⟩|⟨u,G⟩
   ·rfl
   ·grind[upd,absurd]
   ·grind[upd,absurd]
   ·simp only[upd,if_neg z,if_neg u]at Y;exact h.inj i j (by simp[f]) (by simp[G]) Y}
end
section
variable{P:Program}{R:Ending->Mem->Prop}{O V0:Mem}{w0:World}{N:Nat}{L:List (List Value->Mem->Prop)}{ρ0:List Value}{fs:List Nat}{H:CN}
variable{all:Array Oper}
def GJ(P:Program)(all:Array Oper)(j:Nat)(h:Bool)(as:Act)(w:World):Prop:=
 ∃o d,all[j]?=some o/\o.dst=some d/\d<as.tmps.size/\yN o (yielded all as.tmps)=h/\
  (h=true->∀w',Dw w w'->(execOp as.eval o).run P w'=.ok (.value (as.tmps.getD d undef)) w')/\(h=false->as.tmps.getD d undef=undef)
theorem GJ.ext{j:Nat}{f:Bool}{as:Act}{w w':World}(h:GJ P all j f as w)(e:Dw w w'):GJ P all j f as w':=by
 obtain⟨o,d,h1,h2,h3,h4,u,z⟩:=h;exact⟨o,d,h1,h2,h3,h4,λhw g y=>u hw g (e.trans y),z⟩
theorem FS{a:Act}{dst:Option Nat}{v:Value}{d:Nat}(h:dst≠some d):(a.put dst v).tmps.getD d undef=a.tmps.getD d undef:=by
 cases dst with
 |none=>rfl
 |some e=>
  simp_all[Act.put,Array.getD]
theorem GK{a:Act}{v:Value}{d:Nat}(h:d<a.tmps.size):(a.put (some d) v).tmps.getD d undef=v:=by
 simp[Act.put,Array.getD,h]
theorem FT(a:Act)(dst:Option Nat)(v:Value):(a.put dst v).tmps.size=a.tmps.size:=by cases dst<;>simp[Act.put]
theorem noSel{all:Array Oper}(h:∀o,o∈all.toList->FN o.op=false){j:Nat}{o:Oper}(g:all[j]?=some o):∀cs b,o.op≠.select cs b:=by
 grind[FN]
theorem GJ.put(y:∀o,o∈all.toList->FN o.op=false){j:Nat}{u:Bool}{as:Act}{w:World}(h:GJ P all j u as w){dst:Option Nat}{v:Value}
  (z:∀o,all[j]?=some o->∀d',dst=some d'->d'∉o.looksAt all/\o.dst≠some d'):GJ P all j u (as.put dst v) w:=by
 obtain⟨o,d,h1,h2,h3,h4,x,m⟩:=h;have g:∀d',dst=some d'->d'∉o.looksAt all:=λd' l=>(z o h1 d' l).1;have f:dst≠some d:=λe=>(z o h1 d e).2 h2;refine⟨o,d,h1,h2,by rw[FT];exact h3,?_,λhw w' e=>?_,λhw=>?_⟩;·grind[wanted_put]
 ·rw[execOp_put o (noSel y h1) as dst v g,FS f];exact x hw w' e
 grind[FS]
theorem Kw{fl:List (Nat×Bool)}{dst:Option Nat}(h:HP all fl dst=true){j:Nat}{b:Bool}(g:(j,b)∈fl):∀o,all[j]?=some o->∀d',dst=some d'->d'∉o.looksAt all:=by
 intro o f d' u;have:=za.1 h _ g;simp_all
theorem exLoad_run{a:Act}{w:World}{st:St}{o:Oper}{k:St->Tr}{t:TypeId}{x:Operand}(hop:o.op=.load t x)(hd:Em N o.dst=true)
  (h:Bl P R O V0 w0 N L ρ0 a.tmps w st (Iy P st o.dst t x k)):
  ∃v y,(∀w',Dw w w'->(execOp a.eval o).run P w'=.ok (.value v) w')/\Bl P R O V0 w0 N L ρ0 (a.put o.dst v).tmps w y (k y):=by
 obtain⟨β,ρ,V,hp,hr,hD⟩:=h;unfold Iy at hD;obtain⟨y,p,hg,F,f,u,V',X,G,g⟩:=EP _ _ _ _ ⟨β,ρ,V,hp,hr,hD⟩;have hx:a.eval x=p.ev u f:=BE G hg;have A:∀{b i sz l e},HN p=(b,i,sz,l,e)->b.firstBox=none/\i.firstBox=none:=by
  intro b i sz l e Y;unfold HN at Y;grind[T.firstBox]
 have go:∀(q:Addr)(J:List K)(vs:List Value)(l:Nat)(z:T),A8 (p.ev u f)=some (q.add l)->p.kind=some .p->Shaped J vs->y.wf=true->
   (∀w',Dw w w'->∀j v,vs[j]?=some v->w'.cell? (q.add j)=some v)->El P t (T.ofList (vars J y.nv)) l=some z->D P R (k ((y.more J.length).putO o.dst z)) L (u++vs) V'->
   ∃v y,(∀w',Dw w w'->(execOp a.eval o).run P w'=.ok (.value v) w')/\Bl P R O V0 w0 N L ρ0 (a.put o.dst v).tmps w y (k y):=by
  intro q J vs l z Z m I hw hc B C;have hl:vs.length=J.length:=I.length;have M:=G.bind hw vs;rw[hl]at M;have hev:(T.ofList (vars J y.nv)).evs (u++vs) f=vs:=by
   rw[Di,<-G.nv];have:=IF (β:=f) J vs u [] I;simp_all
  obtain⟨p',E⟩:=HR (ρ:=u) (β:=f) m;rw[E]at Z;simp only[A8]at Z;subst Z;refine⟨z.ev (u++vs) f,_,λw' e=>?_,f,u++vs,V',(X.more _ _).putO _ _,M.putO hd z rfl,C⟩;grind[NK,execOp,Instr.loadAt,zi,zK,zM,zL]
 have S:∀w',Dw w w'->V'.le w':=λw' e=>(G.ext e).frm.le;split at g;case isFalse=>exact g.elim
 rename_i m;split at g
 ·rename_i b i sz l e Y;obtain⟨U,hi⟩:=A Y;split at g
  ·rename_i J hks;split at g
   ·rename_i hlen;unfold bind at g;split at g
    ·rename_i hw;split at g
     ·rename_i z B;simp only[D]at g;obtain⟨vs,h1,h2,h3⟩:=g;have W:=Kq (ρ:=u) (β:=f) Y m;simp only at W;rw[(T.ev_free (β:=id) (β':=f) (ρ:=u) b U).1,(T.ev_free (β:=id) (β':=f) (ρ:=u) i hi).1]at h1;cases Z:A8 (b.ev u f)with
      |none=>simp[Z,Mem.rowp]at h1
      |some q=>
       grind[Mem.rowp,Aa,II]
     ·exact g.elim
    ·exact g.elim
   ·exact g.elim
  ·exact g.elim
 ·rename_i b i sz l Y;obtain⟨U,hi⟩:=A Y;split at g
  ·rename_i J hks;unfold bind at g;split at g
   ·rename_i hw;split at g
    ·rename_i z B;simp only[D]at g;obtain⟨vs,h1,h2,h3⟩:=g;have W:=Kq (ρ:=u) (β:=f) Y m;simp only at W;rw[(T.ev_free (β:=id) (β':=f) (ρ:=u) b U).1,(T.ev_free (β:=id) (β':=f) (ρ:=u) i hi).1]at h1;cases Z:A8 (b.ev u f)with
     |none=>simp[Z,Mem.rowp]at h1
     |some q=>
      simp only[Z,Mem.rowp]at h1;rw[Z]at W;simp only[Aa,Option.map_some]at W;exact go _ J vs 0 z (by rw[W,yG]) m h2 hw (λw' e=>(II (S w' e) h1).2) B h3
    ·exact g.elim
   ·exact g.elim
  ·exact g.elim
theorem Kx{as:Act}{w:World}{st:St}:∀{fl:List (Nat×Bool)}{t:Tr}{β:Nat->Nat}{ρ:List Value}{V:Mem},Rel O V0 w0 N β st ρ V as.tmps w->D P R (HO P all fl st t) L ρ V->
  D P R t L ρ V/\∀j,(j,true)∈fl->∃o d,all[j]?=some o/\o.dst=some d/\∀w',Dw w w'->(execOp as.eval o).run P w'=.ok (.value (as.tmps.getD d undef)) w'
 |[],t,β,ρ,V,f,h=>⟨h,λj g=>by cases g⟩
 |(i,false)::fl,t,β,ρ,V,f,h=>by
  obtain⟨h1,h2⟩:=Kx (fl:=fl) f h;exact⟨h1,λj g=>h2 j (by simpa using g)⟩
 |(i,true)::fl,t,β,ρ,V,f,h=>by
  simp only[HO]at h;split at h;·exact h.elim
  ·rename_i o I;split at h
   ·rename_i ns x y v u;split at h
    ·rename_i e;subst e;obtain⟨z,Z⟩:=LX h β;obtain⟨h1,h2⟩:=Kx (fl:=fl) f Z;refine⟨h1,λj g=>?_⟩;rcases yC.1 g with e|g
     ·cases e;cases l:o.dst with
      |none=>simp[l]at u
      |some d=>
       simp only[l,zt]at u;refine⟨o,d,I,l,λw' Y=>?_⟩;rw[f.slots d _ u];exact LQ (f.ext Y) v z
     ·exact h2 j g
    ·exact h.elim
   ·rename_i y v u;split at h
    ·rename_i ty x C;split at h
     ·rename_i p n E K S J;split at h
      ·rename_i U;obtain⟨c1,c2,c3,c4,c5,c6,c7⟩:=U;simp only[D]at h;obtain⟨z,Z⟩:=h;obtain⟨h1,h2⟩:=Kx (fl:=fl) f Z;refine⟨h1,λj g=>?_⟩;rcases yC.1 g with e|g
       ·cases e;cases l:o.dst with
        |none=>simp[l]at u
        |some d=>
         simp only[l,zt]at u;refine⟨o,d,I,l,λw' Y=>?_⟩;rw[f.slots d _ u];have W:y.cellsT.firstBox=none:=by cases y<;>simp_all[T.cellsT,T.firstBox]
         rw[(T.ev_free (β:=id) (β':=β) (ρ:=ρ) p c2).1,(T.ev_free (β:=id) (β':=β) (ρ:=ρ) _ W).2]at z;obtain⟨q,M⟩:=HR (ρ:=ρ) (β:=β) c1;rw[M]at z;have hx:as.eval x=.pointer q:=(BE f K).trans M;cases q with
         |none=>simp[A8,Mem.rowp]at z
         |some q=>
          simp only[A8,Mem.rowp,yG]at z;obtain⟨_,F⟩:=II (f.ext Y).frm.le z;have G:(y.cellsT.evs ρ β).length=n:=by grind[DV]
          have X:(loadVar ty q).run P w'=.ok (y.ev ρ β) w':=by
           cases E with
           |true=>
            have A:=run_loadCells_list (P:=P) w' q (y.cellsT.evs ρ β) F;rw[G]at A;cases y<;>simp[Gw]at c7;simp only[loadVar,zK,Hh J,zL,if_true,FP S,T.cellsT]at A⊢;rw[A];simp[T.ev]
           |false=>
            have m:y.cellsT=.cons y .nil:=by cases y<;>simp_all[Gw,T.cellsT]
            have B:=F 0 (y.ev ρ β) (by rw[m];rfl);rw[yG]at B;simp only[loadVar,zK,Hh J,zL,zN,if_false,run_load,B]
          grind[execOp,Instr.loadAt,zi,zK,zM,zL]
       ·exact h2 j g
      ·exact h.elim
     ·exact h.elim
    ·exact h.elim
   ·exact h.elim
end
def DM:Mem:=λ_=>none
structure FU (P:Program)(all:Array Oper)(ms:List Nat):Prop where
 edges:Ku all
 dsts:∀(i j:Nat)(oi oj:Oper)(d:Nat),all[i]?=some oi->all[j]?=some oj->oi.dst=some d->oj.dst=some d->i=j
 sel:∀o,o∈all.toList->FN o.op=false
 look:∀(i:Nat)(o:Oper)(p:Nat)(op:Oper)(t:Nat),all[i]?=some o->t∈o.looksAt all->(Db all p=true∨DU all p=true)->all[p]?=some op->op.dst=some t->(C2 ms i).testBit p=true/\p≠i
 allocs:∀(i:Nat)(o:Oper)(e:Nat),all[i]?=some o->o.op=.alloc e->(GC P e).isSome=true
theorem NU:∀{l:List Oper},(l.filterMap (·.dst)).Nodup->∀(i j:Nat)(oi oj:Oper)(d:Nat),l[i]?=some oi->l[j]?=some oj->oi.dst=some d->oj.dst=some d->i=j
 |[],_,i,j,oi,oj,d,h1,_,_,_=>by simp at h1
 |o::l,y,i,j,oi,oj,d,h1,h2,h3,h4=>by
  have g:∀(k:Nat) ok,l[k]?=some ok->ok.dst=some d->d∈l.filterMap (·.dst):=λk ok f u=>yV.2 ⟨ok,List.mem_of_getElem? f,u⟩;have h:(l.filterMap (·.dst)).Nodup:=by
   grind
  have z:∀d,o.dst=some d->d∉l.filterMap (·.dst):=by
   grind
  cases i with
  |zero=>
   grind
  |succ i=>
   cases j with
   |zero=>
    grind
   |succ j=>exact congrArg (·+1) (NU h i j oi oj d (by simpa using h1) (by simpa using h2) h3 h4)
theorem NV{all:Array Oper}{i:Nat}{o:Oper}(h:all[i]?=some o):(o,i)∈all.toList.zipIdx:=by
 grind
theorem NW{P:Program}{all:Array Oper}{ms order:List Nat}(h:drawOk P all ms order=true):
  FU P all ms/\order.length=all.size/\order.Nodup/\(∀i∈order,i<all.size)/\FO all ms order=true:=by
 simp only[drawOk,zC,za,beq_iff_eq,decide_eq_true_eq,zU]at h;obtain⟨⟨⟨⟨⟨⟨⟨⟨h1,h2⟩,h3⟩,h4⟩,z⟩,y⟩,x⟩,l⟩,v⟩:=h;refine⟨⟨λi o g e J G=>?_,λi j oi oj d hi m=>?_,λo g=>y o g,λi o p op t g q Z f Y=>?_,λi o e g f=>?_⟩,h2,Kv h3,h4,l⟩
 ·have:=h1 _ (NV g);simp only[yW,yP,zU,decide_eq_true_eq]at this;grind
 ·exact NU (Kv z) i j oi oj d (by simpa using hi) (by simpa using m)
 ·have u:p<all.size:=(z8.1 f).1;have:=x _ (NV g) t q p (yX.2 u);grind
 grind
def Orph(P:Program)(all:Array Oper)(O:Mem)(j b:Nat)(a:Act):Prop:=
 ∃o d e z,all[j]?=some o/\o.dst=some d/\o.op=.alloc e/\GB P e=some z/\O b=some (.cells z.cells e (0,0))/\a.tmps.getD d undef=.pointer (some ⟨b,0,none⟩)
structure Inv (c:Bool)(P:Program)(R:Ending->Mem->Prop)(V0:Mem)(w0:World)(L:List (List Value->Mem->Prop))(ρ0:List Value)(fs:List Nat)(H:CN)(all:Array Oper)(ms:List Nat)(k:St->Tr)
  (rest:List Nat) (fl:List (Nat×Bool)) (st:St) (listed:Array Bool) (a:Act) (w:World) (as:Act) (pend:List Nat) (O:Mem) (bo:Nat->Nat):Prop where
 lsize:listed.size=all.size
 closed:JA all listed
 chain:FO all ms rest=true
 nd:rest.Nodup
 bound:∀j∈rest,j<all.size
 unl:∀j,j<all.size->listed.getD j true=false->j∈pend∨j∈rest
 pu:∀j∈pend,listed.getD j true=false/\Db all j=true/\j∉rest/\(∀r∈rest,(C2 ms j).testBit r=false)/\∃b,(j,b)∈fl/\GJ P all j b as w
 ru:∀j∈rest,listed.getD j true=false∨(DU all j=true/\Orph P all O j (bo j) a)
 boi:∀i∈rest,∀j∈rest,listed.getD i true=true->listed.getD j true=true->bo i=bo j->i=j
 fsize:as.tmps.size=a.tmps.size
 fdef:as.defers=a.defers
 fill:∀s,(∀j o,(j∈pend∨(j∈rest/\listed.getD j true=true))->all[j]?=some o->o.dst≠some s)->as.tmps.getD s undef=a.tmps.getD s undef
 goes:∃n,Bl P R O V0 w0 H.N L ρ0 as.tmps w st (Ez P fs H all ms c n rest fl st k)
theorem Pb{all:Array Oper}{i:Nat}(h:Db all i=true):DU all i=false:=by
 unfold Db at h;grind[DU,floatOp]
theorem JB{all:Array Oper}{ms:List Nat}{r:Nat}{g:List Nat}(h:FO all ms (r::g)=true):
  (Db all r=true∨∀j∈g,(((C2 ms j).testBit r=true∨DU all j=true)∨(Db all j=false/\∀q∈g,(C2 ms j).testBit q=false))∨∃q∈g,(C2 ms j).testBit q=true/\DU all q=false)/\(∀j∈g,(C2 ms r).testBit j=false)/\FO all ms g=true:=by
 simp_all[FO,zC,yP,za,List.any_eq_true,zU]
theorem sameSet_spec{l m:List Nat}(h:Jp l m=true):l.length=m.length/\l.Nodup/\∀x∈l,x∈m:=by
 simp_all[Jp,zC,za,decide_eq_true_eq,Kv]
section
variable{P:Program}{R:Ending->Mem->Prop}{O V0:Mem}{w0:World}{L:List (List Value->Mem->Prop)}{ρ0:List Value}{fs:List Nat}{H:CN}
variable{all:Array Oper}{ms:List Nat}{k:St->Tr}{rest:List Nat}{fl:List (Nat×Bool)}{st:St}{listed:Array Bool}{a as:Act}{w:World}{pend:List Nat}{bo:Nat->Nat}
theorem NX{N:Nat}{f:Nat->Tr}{t:Tr}:∀{l:List Nat},Bl P R O V0 w0 N L ρ0 as.tmps w st (forks f t l)->Bl P R O V0 w0 N L ρ0 as.tmps w st t/\∀j∈l,Bl P R O V0 w0 N L ρ0 as.tmps w st (f j)
 |[],h=>⟨h,λj y=>by cases y⟩
 |j::x,⟨β,ρ,V,g,u,z⟩=>by
  obtain⟨h1,h2⟩:=NX (l:=x) ⟨β,ρ,V,g,u,z.2⟩;refine⟨h1,λi hi=>?_⟩;rcases yC.1 hi with rfl|hi;·exact⟨β,ρ,V,g,u,z.1⟩
  ·exact h2 i hi
theorem Ky{N:Nat}{c:Bool}{n r:Nat}{g:List Nat}{o:Oper}(u:all[r]?=some o)(h:Bl P R O V0 w0 N L ρ0 as.tmps w st (Ez P fs H all ms c n (r::g) fl st k)):
  ∃m,Bl P R O V0 w0 N L ρ0 as.tmps w st (guardD all o st (Jq P fs H all ms r o fl λfl st=>Ez P fs H all ms true m g fl st k) (drawNo H all ms r o fl λfl st=>Ez P fs H all ms true m g fl st k))/\
   (c=true->∀j∈altsOf all ms r g,∃l,Jp (j::l) (r::g)=true/\FO all ms (j::l)=true/\Bl P R O V0 w0 N L ρ0 as.tmps w st (Ez P fs H all ms false m (j::l) fl st k)):=by
 cases n with
 |zero=>obtain⟨β,ρ,V,z,y,f⟩:=h;exact f.elim
 |succ m=>
  unfold Ez at h;rw[u]at h;simp only at h;obtain⟨h1,h2⟩:=NX h;refine⟨m,h1,λx j q=>?_⟩;subst x;have h3:=h2 j q;split at h3;·grind
  ·obtain⟨β,ρ,V,z,y,f⟩:=h3;exact f.elim
theorem NY{N:Nat}{o:Oper}{m A:St->Tr}(h:Bl P R O V0 w0 N L ρ0 as.tmps w st (guardD all o st m A)):
  (yN o (yielded all as.tmps)=true/\∃z,Bl P R O V0 w0 N L ρ0 as.tmps w z (m z))∨
  (yN o (yielded all as.tmps)=false/\∃z,Bl P R O V0 w0 N L ρ0 as.tmps w z (A z)):=by
 unfold guardD at h;split at h;·grind[yN]
 ·rename_i j q I;split at h;·obtain⟨β,ρ,V,y,x,u⟩:=h;exact u.elim
  ·rename_i d M;have l:=L4 (tmps:=as.tmps) M;have Z:yN o (yielded all as.tmps)=(yielded all as.tmps j==some q):=by simp[yN,I]
   obtain⟨β,ρ,V,y,x,u⟩:=h;split at u
   ·rename_i v hv;rw[x.getD_size hv]at l;simp only[T.ev]at l;split at u;·rename_i e;subst e;exact .inl ⟨by simp_all,st,β,ρ,V,y,x,u⟩
    ·rename_i e;exact .inr ⟨by simp_all,st,β,ρ,V,y,x,u⟩
   ·rename_i hv;rw[x.getD_size hv]at l;have:yielded all as.tmps j=none:=by rw[l];rfl
    exact .inr ⟨by grind,st,β,ρ,V,y,x,u⟩
   ·rename_i c _ _ hv;split at u
    ·rename_i F;obtain⟨Y,W,X⟩:=F;obtain⟨b,G⟩:=GG (ρ:=ρ) (β:=β) Y;rw[x.getD_size hv,G]at l;simp only at l;simp only[D]at u;have J:=(T.ev_free (β:=id) (β':=β) (ρ:=ρ) c W).1;have g:Rel O V0 w0 N β (st.now d (.bool b)) ρ V as.tmps w:=x.now hv (by rw[G];rfl);cases b with
     |true=>
      have f:=u.1 (by rw[J,G];rfl);split at f;·rename_i e;exact .inl ⟨by simp_all,_,β,ρ,V,y.now _ _,g,f⟩
      ·rename_i e;exact .inr ⟨by simp_all,_,β,ρ,V,y.now _ _,g,f⟩
     |false=>
      have f:=u.2 (by rw[J,G];rfl);split at f;·rename_i e;exact .inr ⟨by simp_all,_,β,ρ,V,y.now _ _,g,f⟩
      ·rename_i e;exact .inl ⟨by simp_all,_,β,ρ,V,y.now _ _,g,f⟩
    ·exact u.elim
   ·exact u.elim
end
section
variable{P:Program}{R:Ending->Mem->Prop}{O V0:Mem}{w0:World}{L:List (List Value->Mem->Prop)}{ρ0:List Value}{fs:List Nat}{H:CN}
variable{all:Array Oper}{ms:List Nat}{k:St->Tr}{rest:List Nat}{fl:List (Nat×Bool)}{st:St}{listed:Array Bool}{a as:Act}{w:World}{pend:List Nat}{bo:Nat->Nat}
theorem isFloat_dst{i:Nat}{o:Oper}(h:Db all i=true)(g:all[i]?=some o):∃d,o.dst=some d:=by
 simp_all[Db,zC,yA]
theorem JC{N d:Nat}{o:Oper}(h:Em N o.dst=true)(g:o.dst=some d):d<N:=by
 grind[Em]
theorem Inv.float(l:FU P all ms){r:Nat}{B:List Nat}(h:Inv true P R V0 w0 L ρ0 fs H all ms k (r::B) fl st listed a w as pend O bo)(K:Db all r=true):
  ∃Z g Y,Inv true P R V0 w0 L ρ0 fs H all ms k B Z g listed a w Y (r::pend) O bo:=by
 obtain⟨hnr,S⟩:=yT.1 h.nd;obtain⟨_,hc2,T⟩:=JB h.chain;have hrl:listed.getD r true=false:=by
  rcases h.ru r zc with h1|h1;·exact h1
  grind[Pb]
 have I:=h.bound r zc;obtain⟨o,J⟩:∃o,all[r]?=some o:=⟨_,yS I⟩;obtain⟨d,C⟩:=isFloat_dst K J;have W:∀d',o.dst=some d'->d'∉o.looksAt all:=λd' q hm=>(l.look r o r o d' J hm (.inl K) J q).2 rfl;obtain⟨n0,M⟩:=h.goes;obtain⟨m,hg,_⟩:=Ky J M;clear M;have F:∀(b:Bool)(v:Value)(g:St),d<H.N->HP all fl o.dst=true->yN o (yielded all as.tmps)=b->
   (b=true->∀w',Dw w w'->(execOp as.eval o).run P w'=.ok (.value v) w')->(b=false->v=undef)->
   Bl P R O V0 w0 H.N L ρ0 (as.put o.dst v).tmps w g (Ez P fs H all ms true m B ((r,b)::fl) g k)->
   ∃Z g Y,Inv true P R V0 w0 L ρ0 fs H all ms k B Z g listed a w Y (r::pend) O bo:=by
  intro b v g hdlt U hw h1 h2 hG;have G:d<as.tmps.size:=by
   obtain⟨β,ρ,V,X,f,_⟩:=hG;have h5:as.tmps.size=H.N:=by have:=f.size;rwa [FT]at this
   grind
  have hPr:GJ P all r b (as.put o.dst v) w:=by
   refine⟨o,d,J,C,by rw[FT];exact G,by grind[wanted_put],λhb w' e=>?_,λhb=>?_⟩;·rw[execOp_put o (noSel l.sel J) as o.dst v W,h1 hb w' e,C,GK G]
   grind[GK]
  refine⟨(r,b)::fl,g,as.put o.dst v,
   {lsize:=h.lsize,closed:=h.closed,chain:=T,nd:=S,bound:=λj u=>h.bound j (zb _ u),unl:=λj u hl=>?_,pu:=λj u=>?_,ru:=λj u=>h.ru j (zb _ u)
    boi:=λi hi j u=>h.boi i (zb _ hi) j (zb _ u),fsize:=by rw[FT];exact h.fsize,fdef:=by rw[Ff];exact h.fdef,fill:=λs hs=>?_,goes:=⟨_,hG⟩}⟩
  ·rcases h.unl j u hl with h3|h3;·simp_all
   grind
  ·rcases yC.1 u with rfl|u;·simp_all
   ·obtain⟨D,E,g3,g4,b',g5,g6⟩:=h.pu j u;refine⟨D,E,λhm=>g3 (zb _ hm),λr' hr'=>g4 r' (zb _ hr'),b',zb _ g5,g6.put l.sel λo' A d' q=>?_⟩;refine⟨Kw U g5 o' A d' q,λe=>?_⟩;have:=l.dsts j r o' o d' A J e q;simp_all
  ·have hne:o.dst≠some s:=hs r o (.inl zc) J;rw[FS hne];refine h.fill s λj o' u A=>?_;grind
 rcases NY hg with⟨hw,g,hy⟩|⟨hw,g,hn⟩
 ·unfold Jq at hy;rw[if_pos K]at hy;obtain⟨β,ρ,V,X,f,z⟩:=hy;split at z;case isFalse=>exact z.elim
  rename_i y;simp only[zC]at y;split at z
  ·rename_i ns t hpu;obtain⟨D,E⟩:=LX z β;exact F true (t.ev ρ β) _ (JC y.1 C) y.2 hw (λ_ w' e=>LQ (f.ext e) hpu D) (λh=>by cases h) ⟨β,ρ,V,X.putO _ _,f.putO y.1 t rfl,E⟩
  ·split at z
   ·rename_i ty x hop;obtain⟨v,st2,D,E⟩:=exLoad_run hop y.1 ⟨β,ρ,V,X,f,z⟩;grind[JC]
   ·exact z.elim
 ·unfold drawNo at hn;obtain⟨β,ρ,V,X,f,z⟩:=hn;split at z;case isFalse=>exact z.elim
  rename_i y;simp only[zC]at y;exact F false undef _ (JC y.1 C) y.2 hw (λh=>by cases h) (λ_=>rfl) ⟨β,ρ,V,X.putO _ _,f.putO y.1 .und rfl,z⟩
theorem Inv.commit(x:FU P all ms){r:Nat}{D:List Nat}(h:Inv true P R V0 w0 L ρ0 fs H all ms k (r::D) fl st listed a w as pend O bo)(hr:Db all r=false)(hl:listed.getD r true=true):
  ∃f E O',Inv true P R V0 w0 L ρ0 fs H all ms k D fl f listed a w E pend O' bo:=by
 obtain⟨hnr,K⟩:=yT.1 h.nd;obtain⟨_,hc2,S⟩:=JB h.chain;obtain⟨U,o,d,e,z,ho,hd,l,hz,hO,hv⟩:DU all r=true/\Orph P all O r (bo r) a:=by
  rcases h.ru r zc with h1|h1;·simp_all
  ·exact h1
 obtain⟨n0,W⟩:=h.goes;obtain⟨m,Y,_⟩:=Ky ho W;clear W;have y:o.guard=none:=by
  simp_all[DU,zC]
 unfold guardD at Y;rw[y]at Y;simp only at Y;unfold Jq at Y;rw[if_neg (by rw[hr];simp),if_pos U]at Y;obtain⟨β,ρ,V,hp,A,g⟩:=Y;split at g;case isFalse=>exact g.elim
 rename_i hap;unfold exOp at g;split at g;case isFalse=>exact g.elim
 rename_i I;have hpu:Da P st o.op=none:=by rw[l];rfl
 rw[hpu]at g;simp only[l]at g;obtain⟨cs,M⟩:=yA.1 (x.allocs r o e ho l);rw[M]at g;simp only at g;obtain⟨z',F,hzc⟩:=Kr (ρ:=ρ) (β:=β) M;rw[hz]at F;cases F;have C:((T.ofList cs).evs ρ β).toArray=z.cells:=by rw[Di,<-hzc,Array.toArray_toList]
 unfold Iw at g;split at g;case isFalse=>exact g.elim
 rename_i q;simp only[zC]at q;have hr2:=A.adopt q.1 q.2 (ty:=e) (b:=bo r) (by simp_all);have hx:Value.pointer (some ⟨bo r,0,none⟩)=(T.box st.nb 0).ev ρ (upd β st.nb (bo r)):=by simp[T.ev,upd]
 have v:=hr2.putO I (T.box st.nb 0) hx;have J:CX ρ0 L ρ (({st with boxes:=(st.nb,T.ofList cs,e)::st.boxes,nb:=st.nb+1}:St).putO o.dst (T.box st.nb 0)):=CX.putO (st:={st with boxes:=(st.nb,T.ofList cs,e)::st.boxes,nb:=st.nb+1}) ⟨hp.1,hp.2⟩ _ _;simp only[hd]at g v J;have hdsz:d<as.tmps.size:=by rw[A.size];exact JC I hd
 obtain⟨f,hG⟩:∃f,Bl P R (λc=>if c=bo r then none else O c) V0 w0 H.N L ρ0 (as.put (some d) (.pointer (some ⟨bo r,0,none⟩))).tmps w f (Ez P fs H all ms true m D fl f k):=by
  split at g;·exact Jx _ _ _ _ ⟨_,_,_,J,v,g⟩
  ·exact⟨_,_,_,_,J,v,g⟩
 refine⟨f,as.put (some d) (.pointer (some ⟨bo r,0,none⟩)),_,
  {lsize:=h.lsize,closed:=h.closed,chain:=S,nd:=K,bound:=λj u=>h.bound j (zb _ u),unl:=λj u hl'=>?_,pu:=λj u=>?_,ru:=λj u=>?_
   boi:=λi hi j u=>h.boi i (zb _ hi) j (zb _ u),fsize:=by rw[FT];exact h.fsize,fdef:=by rw[Ff];exact h.fdef,fill:=λs hs=>?_,goes:=⟨_,hG⟩}⟩
 ·rcases h.unl j u hl' with h3|h3;·exact .inl h3
  grind
 ·obtain⟨g1,g2,g3,g4,b',g5,g6⟩:=h.pu j u;refine⟨g1,g2,λhm=>g3 (zb _ hm),λr' hr'=>g4 r' (zb _ hr'),b',g5,g6.put x.sel λX G d' Z=>?_⟩;rw[<-hd]at Z;refine⟨Kw hap g5 X G d' Z,λe=>?_⟩;have:=x.dsts j r X o d' G ho e Z;simp_all
 ·rcases h.ru j (zb _ u)with h1|⟨h1,X,d',e',z',k1,k2,k3,k4,k5,k6⟩;·exact .inl h1
  ·by_cases B:listed.getD j true=false;·exact .inl B
   ·refine .inr ⟨h1,X,d',e',z',k1,k2,k3,k4,?_,k6⟩;have hne:bo j≠bo r:=λe=>by
     have:=h.boi j (zb _ u) r zc (by simpa using B) hl e;simp_all
    simp_all
 ·by_cases hsd:s=d;·grind[GK]
  ·rw[FS (by grind)];refine h.fill s λj X u G=>?_;grind
theorem Inv.advance(f:FU P all ms):∀(rest:List Nat){fl:List (Nat×Bool)}{st:St}{as:Act}{pend:List Nat}{O:Mem},Inv true P R V0 w0 L ρ0 fs H all ms k rest fl st listed a w as pend O bo->
  ∃g l u z y v,Inv true P R V0 w0 L ρ0 fs H all ms k g l u listed a w z y v bo/\(∀r x,g=r::x->Db all r=false/\listed.getD r true=false)
 |[],fl,st,as,pend,O,h=>⟨[],fl,st,as,pend,O,h,λr x e=>by cases e⟩
 |r::x,fl,st,as,pend,O,h=>by
  by_cases J:Db all r=true
  ·obtain⟨l,u,z,q⟩:=h.float f J;exact Inv.advance f x q
  ·have m:Db all r=false:=by simpa using J
   by_cases G:listed.getD r true=true
   ·obtain⟨u,z,v,q⟩:=h.commit f m G;exact Inv.advance f x q
   ·exact⟨r::x,fl,st,as,pend,O,h,λY Z e=>by cases e;exact⟨m,by simpa using G⟩⟩
end
theorem NZ{all:Array Oper}(z:∀o,o∈all.toList->FN o.op=false){i:Nat}{o:Oper}(y:all[i]?=some o){a as:Act}
  (h:∀t∈o.looksAt all,as.tmps.getD t undef=a.tmps.getD t undef):
  execOp a.eval o=execOp as.eval o/\yN o (yielded all a.tmps)=yN o (yielded all as.tmps):=by
 constructor
 ·refine execOp_congr o (noSel z y) λx l=>?_;cases x with
  |tmp t=>
   have:=h t (List.mem_append_left _ (yV.2 ⟨.tmp t,by simpa using l,rfl⟩));grind[Act.eval,undef]
  |_=>rfl
 ·unfold yN;cases m:o.guard with
  |none=>rfl
  |some q=>
   obtain⟨g,f⟩:=q;simp only;cases u:(all[g]?).bind (·.dst)with
   |none=>simp[yielded,u]
   |some d=>
    have:=h d (List.mem_append_right _ (by simp[m,u]));grind[L4]
theorem nodup_sub:∀{l m:List Nat},l.Nodup->(∀x∈l,x∈m)->l.length<=m.length
 |[],m,_,_=>Nat.zero_le _
 |x::l,m,g,h=>by
  obtain⟨h1,h2⟩:=yT.1 g;have hm:=h x zc;have:=nodup_sub (m:=m.erase x) h2 λy f=>by
   grind
  grind
theorem Hk{l:List Nat}{i x:Nat}(h:i∉l)(g:x∈l):i≠x:=λe=>h (e▸g)
theorem set_same{l:Array Bool}{i:Nat}(h:i<l.size)(d:Bool):(l.setIfInBounds i true).getD i d=true:=by
 simp_all
theorem Ea{l:Array Bool}{i j:Nat}(h:i≠j)(d:Bool):(l.setIfInBounds i true).getD j d=l.getD j d:=by
 simp_all
theorem getD_any{l:Array Bool}{j:Nat}(h:l.getD j true=false):l.getD j false=false:=by
 grind
theorem ready_mem{all:Array Oper}{listed:Array Bool}{i:Nat}(h:i∈yY .any all listed):
  i<all.size/\listed.getD i true=false/\∃o,all[i]?=some o/\∀e∈o.after,yQ .any e=true->listed.getD e.on false=true:=by
 simp only[yY,yZ,yX,zC,zU]at h;grind[yS,yW]
theorem ready_ne{all:Array Oper}{listed:Array Bool}(g:Ku all)(y:listed.size=all.size):∀j,j<all.size->listed.getD j true=false->yY .any all listed≠[]:=by
 intro j;induction j using yR with
 |_ j x=>
  intro f l;have u:=yS f;by_cases h:∃e∈all[j].after,yQ .any e=true/\listed.getD e.on false=false
  ·obtain⟨e,h1,h2,h3⟩:=h;have z:=g j _ u e h1 h2;grind
  ·intro m;have:j∈yY .any all listed:=by
    grind[yY,yQ,absurd]
   simp_all
theorem wp_transfer{P:Program}{o:Oper}{a as:Act}{w:World}{K:Act->World->Prop}{Q:Exit->Act->World->Prop}(z:execOp a.eval o=execOp as.eval o)(q:∀d,o.dst=some d->d<as.tmps.size)
  (h:o.wp P as w (λy w'=>∃v,y=as.put o.dst v/\K (a.put o.dst v) w') (λe _ w'=>match e with|.panic ch=>Q (.panic ch) a w'|_=>False)) (l:LetsOut (λ(_:Exit) (_:Act) (_:World)=>False)->LetsOut Q):o.wp P a w K Q:=by
 have m:∀v u w',as.put o.dst v=as.put o.dst u->K (a.put o.dst u) w'->K (a.put o.dst v) w':=by
  intro v u w' e hK;cases g:o.dst with
  |none=>rw[g]at hK;exact hK
  |some d=>
   have h1:=q d g;rw[g]at e hK;have:v=u:=by
    have G:=congrArg (λx:Act=>x.tmps.getD d undef) e;grind[GK]
   simp_all
 unfold Oper.wp at*
 rw[z];generalize(execOp as.eval o).run P w=r at*
 cases r with
 |ok n w'=>
  cases n with
  |value v=>grind[yz]
  |skip=>grind[yz,undef]
  |defer d=>
   simp only[yz]at h⊢;obtain⟨u,h1,h2⟩:=h;have e:=congrArg (λx:Act=>x.defers) h1;simp only[Ff]at e;simp_all
  |enter f args=>
   simp only[yz]at h⊢;refine Calls.mono h λe J z=>?_;cases e with
   |returned v=>grind
   |panicked c=>exact z
   |outgrown=>exact l (by obtain⟨Z,w',h⟩:=z;exact h.elim)
  |row nm args=>
   grind[yz]
  |_=>simp only[yz]at h⊢
 |halt x w'=>cases x<;>simp only[yz]at h⊢<;>exact h
section
variable{P:Program}{R:Ending->Mem->Prop}{O V0:Mem}{w0:World}{L:List (List Value->Mem->Prop)}{ρ0:List Value}{fs:List Nat}{H:CN}
variable{all:Array Oper}{k:St->Tr}{rest:List Nat}{fl:List (Nat×Bool)}{st:St}{listed:Array Bool}{a as:Act}{w:World}{pend:List Nat}{bo:Nat->Nat}
theorem L8(x:listed.size=all.size)(h:JA all listed){i:Nat}{o:Oper}(l:all[i]?=some o)(hi:∀e∈o.after,yQ .any e=true->listed.getD e.on false=true):
  JA all (listed.setIfInBounds i true):=by
 have up:∀j,listed.getD j false=true->(listed.setIfInBounds i true).getD j false=true:=by
  intro j g;by_cases e:i=j;·subst e;exact set_same (by grind) _
  simp_all
 intro j oj g f e u z;by_cases y:i=j;·simp_all
 ·rw[Ea y]at f;exact up _ (h j oj g f e u z)
theorem N0{c:Bool}{ms:List Nat}(f:FU P all ms)(h:Inv c P R V0 w0 L ρ0 fs H all ms k rest fl st listed a w as pend O bo){i:Nat}{o:Oper}(x:all[i]?=some o)
  (hm:∀j,(C2 ms i).testBit j=true->listed.getD j false=true) (y:∀j∈rest,j≠i->(C2 ms i).testBit j=false):∀t∈o.looksAt all,as.tmps.getD t undef=a.tmps.getD t undef:=by
 intro t l;refine h.fill t λj oj u z m=>?_;rcases u with u|⟨u,J⟩
 ·obtain⟨v,q,_⟩:=h.pu j u;have:=hm j (f.look i o j oj t x l (.inl q) z m).1;grind
 ·rcases h.ru j u with g|⟨g,_⟩;·simp_all
  ·obtain⟨v,q⟩:=f.look i o j oj t x l (.inr g) z m;simp_all
theorem Orph.put{ms:List Nat}(g:FU P all ms){i j b:Nat}{o:Oper}(x:all[i]?=some o)(f:i≠j)(h:Orph P all O j b a)(v:Value):Orph P all O j b (a.put o.dst v):=by
 obtain⟨u,d',l,m,z,y,q,J,G,Z⟩:=h;exact⟨u,d',l,m,z,y,q,J,G,by rw[FS λe=>f (g.dsts i j o u d' x z e y)];exact Z⟩
theorem Inv.carry{ms:List Nat}(q:FU P all ms)(h:Inv true P R V0 w0 L ρ0 fs H all ms k rest fl st listed a w as pend O bo){i:Nat}(hi:i∈pend){o:Oper}(G:all[i]?=some o){d:Nat}(A:o.dst=some d)(Z:d<a.tmps.size)
  (v:∀e∈o.after,yQ .any e=true->listed.getD e.on false=true):
  Inv true P R V0 w0 L ρ0 fs H all ms k rest fl st (listed.setIfInBounds i true) (a.put o.dst (as.tmps.getD d undef)) w as (pend.filter (·≠i)) O bo:=by
 have f:i∉rest:=(h.pu i hi).2.2.1;have I:i<listed.size:=by rw[h.lsize];grind
 exact
 {lsize:=by rw[yy];exact h.lsize
  closed:=L8 h.lsize h.closed G v
  chain:=h.chain,nd:=h.nd,bound:=h.bound
  unl:=λj g m=>by
   by_cases e:i=j;·simp_all
   ·rw[Ea e]at m;rcases h.unl j g m with h1|h1;·grind
    ·exact .inr h1
  pu:=λj g=>by
   obtain⟨h1,h2⟩:=yZ.1 g;have u:i≠j:=λe=>by simp[e]at h2
   rw[Ea u];exact h.pu j h1
  ru:=λj g=>by
   have u:i≠j:=Hk f g;rw[Ea u];exact(h.ru j g).imp id λ⟨M,F⟩=>⟨M,F.put q G u _⟩
  boi:=λx Y y W z l=>by
   rw[Ea (Hk f Y)]at z;rw[Ea (Hk f W)]at l;exact h.boi x Y y W z l
  fsize:=by rw[FT];exact h.fsize
  fdef:=by rw[Ff];exact h.fdef
  fill:=λs X=>by
   by_cases e:d=s;·grind[GK]
   ·rw[A,FS (by simpa using e)];refine h.fill s λj B g J=>?_;rcases g with g|⟨g,m⟩;·grind
    ·exact X j B (.inr ⟨g,by rw[Ea (Hk f g)];exact m⟩) J
  goes:=h.goes}
theorem Inv.make{ms:List Nat}(W:FU P all ms)(h:Inv true P R V0 w0 L ρ0 fs H all ms k rest fl st listed a w as pend O bo){i:Nat}(hi:i∈rest)(A:i∉pend){o:Oper}(ho:all[i]?=some o){d:Nat}(hd:o.dst=some d)(J:d<a.tmps.size)
  (I:DU all i=true) {e:TypeId} (hop:o.op=.alloc e) {z:Value} (hz:GB P e=some z)
  (M:∀e∈o.after,yQ .any e=true->listed.getD e.on false=true):
  Inv true P R V0 w0 L ρ0 fs H all ms k rest fl st (listed.setIfInBounds i true) (a.put o.dst (.pointer (some ⟨w.heap.size,0,none⟩))) (w.alloc (.cells z.cells e (0,0))) as pend (O.set w.heap.size (.cells z.cells e (0,0))) (upd bo i w.heap.size):=by
 have F:i<listed.size:=by rw[h.lsize];grind
 obtain⟨T,β,ρ,V,hp,D,U⟩:=h.goes;have hO:∀b o,O b=some o->b<w.heap.size:=λb o hb=>(z8.1 (D.hid b o hb).1).1;have f:∀j∈rest,j≠i->(listed.setIfInBounds i true).getD j true=true->DU all j=true/\Orph P all O j (bo j) a:=by
  intro j u l m;rw[Ea (λe=>l e.symm)]at m;rcases h.ru j u with g|g;·simp_all
  ·exact g
 exact
 {lsize:=by rw[yy];exact h.lsize
  closed:=L8 h.lsize h.closed ho M
  chain:=h.chain,nd:=h.nd,bound:=h.bound
  unl:=λj u m=>by
   by_cases e:i=j;·simp_all
   ·rw[Ea e]at m;exact h.unl j u m
  pu:=λj u=>by
   have l:i≠j:=Hk A u;rw[Ea l];obtain⟨X,g2,g3,g4,b,g5,g6⟩:=h.pu j u;exact⟨X,g2,g3,g4,b,g5,g6.ext (Dw.alloc _ _)⟩
  ru:=λj u=>by
   by_cases G:i=j
   ·subst G;exact .inr ⟨I,o,d,e,z,ho,hd,hop,hz,by simp only[upd,if_true,Mem.set_same],by simp only[upd,if_true];rw[hd,GK J]⟩
   ·cases m:(listed.setIfInBounds i true).getD j true with
    |false=>exact .inl rfl
    |true=>
     obtain⟨X,g2⟩:=f j u (λe=>G e.symm) m;obtain⟨o',d',e'',z',k1,k2,k3,k4,k5,k6⟩:=g2.put W ho G (.pointer (some ⟨w.heap.size,0,none⟩));have B:¬j=i:=λe=>G e.symm;refine .inr ⟨X,o',d',e'',z',k1,k2,k3,k4,?_,?_⟩
     ·simp only[upd,if_neg B];grind[Mem.set_ne,Nat.ne_of_lt]
     grind[upd]
  boi:=λx E y K q v Z=>by
   by_cases ex:x=i<;>by_cases Y:y=i;·rw[ex,Y]
   ·subst ex;obtain⟨_,_,_,_,_,_,_,_,_,k5,_⟩:=f y K Y v;grind[upd]
   ·subst Y;obtain⟨_,_,_,_,_,_,_,_,_,k5,_⟩:=f x E ex q;grind[upd,ex]
   ·simp only[upd,if_neg ex,if_neg Y]at Z;rw[Ea (λe=>ex e.symm)]at q;rw[Ea (λe=>Y e.symm)]at v;exact h.boi x E y K q v Z
  fsize:=by rw[FT];exact h.fsize
  fdef:=by rw[Ff];exact h.fdef
  fill:=λs S=>by
   rw[FS (S i o (.inr ⟨hi,set_same F _⟩) ho)];refine h.fill s λj o' u C=>?_;rcases u with u|⟨u,m⟩;·grind
   ·refine S j o' (.inr ⟨u,?_⟩) C;by_cases G:i=j;·simp_all
    simp_all
  goes:=⟨T,β,ρ,V,hp,D.orphan _,U⟩}
theorem Inv.lock{c:Bool}{ms:List Nat}(J:FU P all ms){r:Nat}{G:List Nat}(h:Inv c P R V0 w0 L ρ0 fs H all ms k (r::G) fl st listed a w as pend O bo){o:Oper}(F:all[r]?=some o)(D:listed.getD r true=false)
  (Z:∀d,o.dst=some d->d<a.tmps.size) (Y:∀e∈o.after,yQ .any e=true->listed.getD e.on false=true) {v:Value} {w':World} {u:St} {z:List (Nat×Bool)} {n:Nat}
  (U:∀j∈pend,∃b,(j,b)∈z/\GJ P all j b (as.put o.dst v) w') (E:Bl P R O V0 w0 H.N L ρ0 (as.put o.dst v).tmps w' u (Ez P fs H all ms true n G z u k)):
  Inv true P R V0 w0 L ρ0 fs H all ms k G z u (listed.setIfInBounds r true) (a.put o.dst v) w' (as.put o.dst v) pend O bo:=by
 obtain⟨l,W⟩:=yT.1 h.nd;obtain⟨_,_,A⟩:=JB h.chain;have K:r<listed.size:=by grind
 exact
 {lsize:=by rw[yy];exact h.lsize
  closed:=L8 h.lsize h.closed F Y
  chain:=A,nd:=W,bound:=λj g=>h.bound j (zb _ g)
  unl:=λj g I=>by
   by_cases e:r=j;·simp_all
   ·rw[Ea e]at I;rcases h.unl j g I with h1|h1;·exact .inl h1
    grind
  pu:=λj g=>by
   obtain⟨X,g2,g3,g4,_⟩:=h.pu j g;have f:r≠j:=λe=>g3 (e▸zc);simp_all
  ru:=λj g=>by
   have f:r≠j:=Hk l g;rw[Ea f];exact(h.ru j (zb _ g)).imp id λ⟨X,g2⟩=>⟨X,g2.put J F f _⟩
  boi:=λx B y C m q=>by
   rw[Ea (Hk l B)]at m;rw[Ea (Hk l C)]at q;exact h.boi x (zb _ B) y (zb _ C) m q
  fsize:=by rw[FT,FT];exact h.fsize
  fdef:=by rw[Ff,Ff];exact h.fdef
  fill:=λs S=>by
   by_cases e:o.dst=some s
   ·have h1:=Z s e;rw[e,GK h1,GK (by rw[h.fsize];exact h1)]
   ·rw[FS e,FS e];refine h.fill s λj T g M=>?_;rcases g with g|⟨g,I⟩;·grind
    ·rcases yC.1 g with rfl|g;·simp_all
     ·have f:r≠j:=λe'=>by simp_all
      exact S j T (.inr ⟨g,by simp_all⟩) M
  goes:=⟨n,E⟩}
theorem Inv.reorder{ms:List Nat}(h:Inv true P R V0 w0 L ρ0 fs H all ms k rest fl st listed a w as pend O bo){g:List Nat}(u:Jp g rest=true)(z:FO all ms g=true){n:Nat}
  (l:Bl P R O V0 w0 H.N L ρ0 as.tmps w st (Ez P fs H all ms false n g fl st k)):Inv false P R V0 w0 L ρ0 fs H all ms k g fl st listed a w as pend O bo:=by
 obtain⟨h1,h2,h3⟩:=sameSet_spec u;have h4:∀x∈rest,x∈g:=λx v=>by
  by_cases hm:x∈g;·exact hm
  ·exfalso;have m:(x::g).length<=rest.length:=nodup_sub (yT.2 ⟨hm,h2⟩) λy J=>by
    grind
   grind
 exact
 {lsize:=h.lsize,closed:=h.closed,chain:=z,nd:=h2,bound:=λj f=>h.bound j (h3 j f),unl:=λj f q=>(h.unl j f q).imp id (h4 j)
  pu:=λj f=>by
   obtain⟨G,g2,g3,g4,Z⟩:=h.pu j f;grind
  ru:=λj f=>h.ru j (h3 j f),boi:=λi hi j f=>h.boi i (h3 i hi) j (h3 j f),fsize:=h.fsize,fdef:=h.fdef
  fill:=λs u=>h.fill s λj o f=>u j o (f.imp id λx=>⟨h4 j x.1,x.2⟩),goes:=⟨n,l⟩}
end
section
variable{P:Program}{R:Ending->Mem->Prop}{V0:Mem}{w0:World}{L:List (List Value->Mem->Prop)}{ρ0:List Value}{fs:List Nat}{H:CN}
variable{all:Array Oper}{k:St->Tr}{Q:Exit->Act->World->Prop}
theorem Ma:∀(n:Nat)(l:List Nat),l.Nodup->(∀x∈l,x<n)->l.length<=n
 |0,l,_,h=>by
  cases l with
  |nil=>exact yU _
  |cons x l=>exact absurd (h x zc) (Nat.not_lt_zero _)
 |n+1,l,f,h=>by
  by_cases hm:n∈l
  ·have h1:=Ma n (l.erase n) (f.erase n) λx g=>by
    obtain⟨h2,h3⟩:=f.mem_erase_iff.1 g;have:=h x h3;omega
   rw[List.length_erase_of_mem hm]at h1;omega
  ·have h1:=Ma n l f λx g=>by
    have:=h x g;have u:x≠n:=λe=>hm (e▸g);omega
   omega
theorem nodup_all{l:List Nat}{n:Nat}(g:l.Nodup)(h:∀x∈l,x<n)(f:l.length=n){j:Nat}(u:j<n):j∈l:=by
 by_cases hm:j∈l;·exact hm
 ·have:=Ma n (j::l) (yT.2 ⟨hm,g⟩) λx z=>by
   grind
  grind
theorem Pc{listed:Array Bool}(g:Ku all)(f:JA all listed){i:Nat}{o:Oper}(u:all[i]?=some o)(h:∀e∈o.after,yQ .any e=true->listed.getD e.on false=true):
  ∀j,(C2 (CG all.toList []) i).testBit j=true->listed.getD j false=true:=mask_listed g f i o u h
theorem any_sound(U:EA P fs)(u:FU P all (CG all.toList []))(hdst:∀(i:Nat)(o:Oper),all[i]?=some o->Em H.N o.dst=true){a0:Act}(hQ:FQ R V0 w0 a0.defers Q)(hlo:LetsOut (λ(_:Exit)(_:Act)(_:World)=>False)->LetsOut Q)
  (hk:∀y a' w',a'.defers=a0.defers->Bl P R DM V0 w0 H.N L ρ0 a'.tmps w' y (k y)->Q .normal a' w'):
  ∀(fuel:Nat)(rem:List Nat)(rest:List Nat)(fl:List (Nat×Bool))(st:St)(listed:Array Bool)(a:Act)(w:World)(as:Act)(pend:List Nat)(O:Mem)(bo:Nat->Nat),
   Inv true P R V0 w0 L ρ0 fs H all (CG all.toList []) k rest fl st listed a w as pend O bo->as.defers=a0.defers->rem.Nodup->rem.length=fuel->(∀j,j∈rem↔(j<all.size/\listed.getD j true=false))->
   wpAny P .any all Q fuel listed a w:=by
 intro fuel;induction fuel with
 |zero=>
  intro rem rest fl st listed a w as pend O bo h f hnd F A;have hnil:rem=[]:=List.length_eq_zero_iff.1 F;subst hnil;obtain⟨X,fl',y,as',B,O',h',x⟩:=h.advance u;have hnone:∀j,j<all.size->listed.getD j true=false->False:=λj h1 h2=>by simp_all
  have hr:X=[]:=by
   cases X with
   |nil=>rfl
   |cons r T=>exact(hnone r (h'.bound r zc) (x r T rfl).2).elim
  subst hr;have hp:B=[]:=by
   cases B with
   |nil=>rfl
   |cons j T=>
    obtain⟨g1,_,_,_,b,_,o,d,g2,_⟩:=h'.pu j zc;grind
  subst hp;refine⟨?_,?_⟩
  ·cases hrd:yY .any all listed with
   |nil=>rfl
   |cons i T=>
    obtain⟨g1,g2,_⟩:=ready_mem (all:=all) (listed:=listed) (i:=i) (by simp_all);simp_all
  ·have htm:as'.tmps=a.tmps:=by
    refine Array.ext h'.fsize λi h1 h2=>?_;have:=h'.fill i λj o M=>by simp_all
    simp_all
   obtain⟨n0,β,ρ,V,hp,hr,C⟩:=h'.goes;have C:D P R (k (y.compact H.keep)) L ρ V:=by cases n0<;>exact C
   refine hk (y.compact H.keep) a w (by rw[<-h.fdef];exact f) ⟨β,ρ,V,hp.compact _,?_,C⟩;rw[<-htm];exact(hr.compact _).less λb o hb=>by cases hb
 |succ fuel ih=>
  intro rem rest0 fl0 st0 listed a w as0 pend0 O0 bo h0 hdef0 hnd F A;obtain⟨rest,fl,st,as,pend,O,h,x⟩:=h0.advance u;have f:as.defers=a0.defers:=by rw[h.fdef,<-h0.fdef];exact hdef0
  have next:∀{i:Nat}{rest:List Nat}{fl:List (Nat×Bool)}{st:St}{a:Act}{w:World}{as:Act}{pend:List Nat}{O:Mem}{bo:Nat->Nat},i<all.size->listed.getD i true=false->
    Inv true P R V0 w0 L ρ0 fs H all (CG all.toList []) k rest fl st (listed.setIfInBounds i true) a w as pend O bo->as.defers=a0.defers->wpAny P .any all Q fuel (listed.setIfInBounds i true) a w:=by
   intro i rest fl st a w as pend O bo hi J hI hd;have him:i∈rem:=(A i).2 ⟨hi,J⟩;refine ih (rem.erase i) rest fl st _ a w as pend O bo hI hd (hnd.erase i) (by simp_all) λj=>?_;rw[hnd.mem_erase_iff,A j];by_cases e:i=j;·simp_all
   ·rw[Ea e];grind
  refine⟨λhn=>?_,λi hi=>?_⟩
  ·obtain⟨j,M⟩:∃j,j∈rem:=by
    cases rem with
    |nil=>cases F
    |cons j _=>grind
   obtain⟨h1,h2⟩:=(A j).1 M;exact absurd hn (ready_ne u.edges h.lsize j h1 h2)
  ·obtain⟨Z,J,o,Y,E⟩:=ready_mem hi;have G:=Pc u.edges h.closed Y E;have K:as.tmps.size=H.N:=by obtain⟨_,β,ρ,V,_,hr,_⟩:=h.goes;exact hr.size
   have S:∀d,o.dst=some d->d<a.tmps.size:=λd hd=>by
    rw[<-h.fsize,K];exact JC (hdst i o Y) hd
   unfold wpOp;simp only[Y];by_cases W:i∈pend
   ·-- it floats and stands out
    obtain⟨g1,g2,g3,g4,b,g5,o',d,k1,k2,k3,k4,k5,k6⟩:=h.pu i W;rw[Y]at k1;cases k1;obtain⟨e1,e2⟩:=NZ u.sel Y (N0 u h Y G λj M _=>g4 j M);rw[e2,k4];have hI:=h.carry u W Y k2 (S d k2) E;cases b with
    |true=>
     rw[if_pos rfl];refine .inl ?_;unfold Oper.wp;rw[e1,k5 rfl w (Dw.refl w)];exact next Z J hI f
    |false=>
     grind
   ·have hir:i∈rest:=(h.unl i Z J).resolve_left W;by_cases hal:DU all i=true
    ·-- a block is made
     have I:=hal;unfold DU at I;rw[Y]at I;simp only[zC]at I;obtain⟨⟨⟨q1,q2⟩,q3⟩,q4⟩:=I;obtain⟨d,hd⟩:=yA.1 q4;cases hop:o.op with
     |alloc e=>
      obtain⟨cs,hcs⟩:=yA.1 (u.allocs i o e Y hop);obtain⟨z,hz,hzc⟩:=Kr (ρ:=[]) (β:=id) hcs;have hI:=h.make u hir W Y hd (S d hd) hal hop hz E;have hg:o.guard=none:=by simpa using q2
      rw[show yN o (yielded all a.tmps)=true by simp[yN,hg],if_pos rfl];refine .inl ?_;have hrun:(execOp a.eval o).run P w=.ok (.value (.pointer (some ⟨w.heap.size,0,none⟩))) (w.alloc (.cells z.cells e (0,0))):=by
       unfold execOp;simp only[hop,Instr.alloc,LL hz,newVar,newRow,zK,run_newObj,zM,zL];rfl
      unfold Oper.wp;rw[hrun];exact next Z J hI f
     |_=>simp[hop]at q1
    ·-- both go on
     have go:∀{c:Bool}{T:List Nat}{fl:List (Nat×Bool)}{st:St}{as:Act}{pend:List Nat}{O:Mem}{bo:Nat->Nat},Inv c P R V0 w0 L ρ0 fs H all (CG all.toList []) k (i::T) fl st listed a w as pend O bo->i∉pend->as.defers=a0.defers->Db all i=false->
       (if yN o (yielded all a.tmps)then o.wp P a w (wpAny P .any all Q fuel (listed.setIfInBounds i true)) Q∨(o.asks P a w/\LetsOut Q)else wpAny P .any all Q fuel (listed.setIfInBounds i true) (a.put o.dst undef) w):=by
      clear h f K W hir x;intro c T fl st as pend O bo h W f hrf;obtain⟨_,hc2,hc3⟩:=JB h.chain;have hnotin:∀j∈pend,(C2 (CG all.toList []) i).testBit j=false:=λj M=>by
       cases hb:(C2 (CG all.toList []) i).testBit j with
       |false=>rfl
       |true=>
        have:=G j hb;rw[getD_any (h.pu j M).1]at this;cases this
      obtain⟨e1,e2⟩:=NZ u.sel Y (N0 u h Y G λj M hne=>by
       simp_all)
      rw[e2];obtain⟨n0,hg0⟩:=h.goes;obtain⟨m,hg,_⟩:=Ky Y hg0;have hneq:∀j∈pend,∀oj,all[j]?=some oj->∀d',o.dst=some d'->oj.dst≠some d':=λj M oj hoj d' hd' e=>by
       have:=u.dsts j i oj o d' hoj Y e hd';simp_all
      rcases NY hg with⟨hw,y,hy⟩|⟨hw,y,hn⟩
      ·rw[hw,if_pos rfl];refine .inl ?_;unfold Jq at hy;rw[if_neg (by rw[hrf];simp),if_neg hal]at hy;have hy':HP all (GF (CG all.toList []) i fl) o.dst=true/\Bl P R O V0 w0 H.N L ρ0 as.tmps w y (exOp P fs H y o λst=>HO P all (GF (CG all.toList []) i fl) st (Ez P fs H all (CG all.toList []) true m T (GF (CG all.toList []) i fl) st k)):=by
        split at hy;·simp_all
        ·obtain⟨β,ρ,V,_,_,C⟩:=hy;exact C.elim
       obtain⟨hap,hy2⟩:=hy';refine wp_transfer e1 (λd hd=>by rw[h.fsize];exact S d hd) ?_ hlo;refine NO U (λch a' w' _ hR=>hQ ch a w' (by rw[<-h.fdef];exact f) hR) hy2 λst2 as2 w2 ⟨v,hv⟩ hG=>⟨v,hv,?_⟩;subst hv;obtain⟨β,ρ,V,hp2,hr2,hD2⟩:=hG;obtain⟨hD3,hrec⟩:=Kx hr2 hD2;refine next Z J (h.lock u Y J S E (λj M=>?_) ⟨β,ρ,V,hp2,hr2,hD3⟩) (by rw[Ff];exact f)
       obtain⟨_,_,_,_,b,g5,oj,d,k1,k2,k3,k4,k5,k6⟩:=h.pu j M;have hst:(j,b)∈GF (CG all.toList []) i fl:=yZ.2 ⟨g5,by simp_all⟩;refine⟨b,hst,oj,d,k1,k2,by rw[FT];exact k3,?_,λhb w' ew=>?_,λhb=>?_⟩;·grind[wanted_put,Kw]
       ·grind
       grind[FS]
      ·rw[hw,if_neg (by simp)];unfold drawNo at hn;obtain⟨β,ρ,V,hp,hr,C⟩:=hn;split at C;case isFalse=>exact C.elim
       rename_i hc;simp only[zC]at hc;rw[hrf]at C;simp only[zN,if_false]at C;refine next Z J (h.lock u Y J S E (v:=undef) (λj M=>?_) ⟨β,ρ,V,hp.putO _ _,hr.putO hc.1 .und rfl,C⟩) (by rw[Ff];exact f)
       obtain⟨_,_,_,_,b,g5,g6⟩:=h.pu j M;have hst:(j,b)∈GF (CG all.toList []) i fl:=yZ.2 ⟨g5,by simp_all⟩;exact⟨b,hst,g6.put u.sel λoj hoj d' hd'=>⟨Kw hc.2 g5 oj hoj d' hd',hneq j M oj hoj d' hd'⟩⟩
     cases rest with
     |nil=>cases hir
     |cons r T=>
      obtain⟨hrf,hrl⟩:=x r T rfl;rcases yC.1 hir with e|e;·grind
      ·obtain⟨hc1,hc2,hc3⟩:=JB h.chain;have hnr:(C2 (CG all.toList []) i).testBit r=false:=by
        grind
       rcases hc1 with hc1|hc1;·simp_all
       ·rcases hc1 i e with((q|q)|⟨hif,hall⟩)|⟨q,q1,q2,q3⟩;·simp_all
        ·grind
        ·obtain⟨or',hor⟩:∃or',all[r]?=some or':=⟨_,yS (h.bound r zc)⟩;obtain⟨n0,hg0⟩:=h.goes;obtain⟨m,_,hfork⟩:=Ky hor hg0;have hmem:i∈altsOf all (CG all.toList []) r T:=by
          grind[altsOf]
         obtain⟨l,f1,f2,f3⟩:=hfork rfl i hmem;exact go (h.reorder f1 f2 f3) W f hif
        ·exfalso;have hql:=G q q2;rcases h.ru q (zb _ q1)with g|⟨g,_⟩;·grind
         simp_all
theorem Rel.drawn{O V0:Mem}{w0:World}{N:Nat}{β:Nat->Nat}{st:St}{ρ:List Value}{V:Mem}{w:World}{tmps:Array Value}(h:Rel O V0 w0 N β st ρ V tmps w)(n:Nat):Rel O V0 w0 N β st ρ V tmps {w with drawn:=n}:=
 h.ext ⟨λ_ _ h=>h,yU _,rfl,rfl⟩
theorem Pd(g:EA P fs)(hm:P.follows .mixedOrders=true){id:Nat}{st:St}{a:Act}{w:World}(Y:FQ R V0 w0 a.defers Q)(h:Bl P R DM V0 w0 H.N L ρ0 a.tmps w st (Jr P fs H all st k))
  (y:LetsOut (λ(_:Exit) (_:Act) (_:World)=>False)->LetsOut Q)
  (W:∀z l w',l.defers=a.defers->Bl P R DM V0 w0 H.N L ρ0 l.tmps w' z (k z)->Q .normal l w'):(Code.region id all true).wp P Q a w:=by
 unfold Jr at h;simp only at h;obtain⟨β,ρ,V,hp,A,m⟩:=h;split at m;case isFalse=>exact m.elim
 rename_i Z;simp only[zC,za]at Z;obtain⟨q,v⟩:=Z;obtain⟨J,h2,h3,h4,I⟩:=NW q;have u:∀j d,j<all.size->(Array.replicate all.size false).getD j d=false:=λj d f=>by simp_all
 refine wp_region_any hm (any_sound g J (λi o M=>v o (by grind)) Y y W all.size (List.range all.size) (Iz all (CG all.toList []) all.size 0) [] st _ a _ a [] DM (λx=>x) ?_ rfl List.nodup_range (by simp) λj=>?_)
 ·exact
  {lsize:=by simp
   closed:=λj oj f G=>by
    rw[u j _ (z8.1 f).1]at G;cases G
   chain:=I
   nd:=h3
   bound:=h4
   unl:=λj f _=>.inr (nodup_all h3 h4 h2 f)
   pu:=λj f=>by cases f
   ru:=λj f=>.inl (u j _ (h4 j f))
   boi:=λi hi j f G=>by omega
   fsize:=rfl
   fdef:=rfl
   fill:=λs _=>rfl
   goes:=⟨_,β,ρ,V,hp,A.drawn _,m⟩}
 simp_all
end
def Ex.toExit:Ex->Exit
 |.normal=>.normal
 |.exit i=>.exit i
 |.ret=>.ret
theorem Mb(p:Nat->Prop)(h:∃n,p n):∃n,p n/\∀m,p m->n<=m:=by
 obtain⟨n,g⟩:=h;induction n using yR with
 |_ n f=>
  grind
open Classical in
theorem wp_loop_rel{P:Program}{c:Code}{Q:Exit->Act->World->Prop}{a:Act}{w:World}(Inv:Nat->Act->World->Prop)(u:∃n,Inv n a w)
  (round:∀n a w,Inv n a w->c.wp P (Exit.then (λg w'=>∃f,f<n/\Inv f g w') Q) a w):(Code.loop c).wp P Q a w:=by
 let m:Act->World->Nat:=λa w=>if h:∃n,Inv n a w then Classical.choose (Mb _ h)else 0
 have hm:∀a w (h:∃n,Inv n a w),Inv (m a w) a w/\∀k,Inv k a w->m a w<=k:=λa w h=>by
  grind
 refine wp_loop (λa w=>∃n,Inv n a w) m u λa w z=>?_;obtain⟨h1,h2⟩:=hm a w z;refine Code.wp_mono (λe g w' q=>?_) (round _ a w h1);grind
section
variable{P:Program}{R:Ending->Mem->Prop}{O V0:Mem}{w0:World}{fs:List Nat}{H:CN}
theorem Bl.weak{L:List (List Value->Mem->Prop)}{ρ0 f:List Value}{N:Nat}{tmps:Array Value}{w:World}{st:St}{t:Tr}(h:Bl P R O V0 w0 N L f tmps w st t)(u:ρ0<+:f):Bl P R O V0 w0 N L ρ0 tmps w st t:=by
 obtain⟨β,ρ,V,g,z,y⟩:=h;exact⟨β,ρ,V,⟨u.trans g.1,g.2⟩,z,y⟩
theorem ex_sound(Z:EA P fs)(hm:P.follows .mixedOrders=true):∀(c:Code)(L:List (List Value->Mem->Prop))(ρ0:List Value)(st:St)(k:Ex->St->Tr)(a:Act)(w:World)(Q:Exit->Act->World->Prop),
  FQ R V0 w0 a.defers Q->Bl P R DM V0 w0 H.N L ρ0 a.tmps w st (ex P fs H c st k)->
  (∀e g l w' F,L<+:F->l.defers=a.defers->Bl P R DM V0 w0 H.N F ρ0 l.tmps w' g (k e g)->Q e.toExit l w')->c.wp P Q a w:=by
 intro c;induction c with
 |skip=>intro L ρ0 st k a w Q z h f;exact wp_skip (f .normal st a w L (yx _) rfl h)
 |ret=>intro L ρ0 st k a w Q z h f;exact wp_ret (f .ret st a w L (yx _) rfl h)
 |exit id=>intro L ρ0 st k a w Q z h f;exact wp_exit (f (.exit id) st a w L (yx _) rfl h)
 |seq x y X B=>
  intro L ρ0 st k a w Q z h f;refine wp_seq (X L ρ0 st _ a w _ z h λe g l w' F hL M q=>?_);cases e with
  |normal=>exact B F ρ0 g k l w' Q (by grind) q λe st'' a'' w'' L'' hL' hd' hg'=>f e st'' a'' w'' L'' (hL.trans hL') (hd'.trans M) hg'
  |exit i=>exact f (.exit i) g l w' F hL M q
  |ret=>exact f .ret g l w' F hL M q
 |block id b ih=>
  intro L ρ0 st k a w Q z h f;refine wp_block (ih L ρ0 st _ a w _ z h λe g l w' F hL M q=>?_);cases e with
  |normal=>exact f .normal g l w' F hL M q
  |exit i=>
   simp only at q;show(if i=id then Q .normal l w' else Q (.exit i) l w');split;·rename_i e;rw[if_pos e]at q;exact f .normal g l w' F hL M q
   ·rename_i e;rw[if_neg e]at q;exact f (.exit i) g l w' F hL M q
  |ret=>exact f .ret g l w' F hL M q
 |cond c x y X B=>
  intro L ρ0 st k a w Q z h f;obtain⟨β,ρ,V,A,Y,u⟩:=h;simp only[ex]at u;split at u
  ·rename_i v hv;have he:a.eval c=.bool v:=BE Y hv;cases v with
   |true=>exact wp_cond_true he (X L ρ0 st k a w Q z ⟨β,ρ,V,A,Y,u⟩ f)
   |false=>exact wp_cond_false he (B L ρ0 st k a w Q z ⟨β,ρ,V,A,Y,u⟩ f)
  ·rename_i t _ ht;split at u
   ·rename_i hc;obtain⟨hc1,hc2⟩:=hc;obtain⟨b,hb⟩:=GG (ρ:=ρ) (β:=β) hc1;have he:a.eval c=.bool b:=(BE Y ht).trans hb;have hfr:=(T.ev_free (β:=id) (β':=β) (ρ:=ρ) t hc2).1;split at u
    ·rename_i d;simp only[D,hfr,hb,asB]at u;have W:Rel DM V0 w0 H.N β (st.now d (.bool b)) ρ V a.tmps w:=Y.now (t:=t) ht (by rw[hb];rfl);cases b with
     |true=>exact wp_cond_true he (X L ρ0 _ k a w Q z ⟨β,ρ,V,A.now _ _,W,u.1 rfl⟩ f)
     |false=>exact wp_cond_false he (B L ρ0 _ k a w Q z ⟨β,ρ,V,A.now _ _,W,u.2 rfl⟩ f)
    ·simp only[D,hfr,hb,asB]at u;cases b with
     |true=>exact wp_cond_true he (X L ρ0 _ k a w Q z ⟨β,ρ,V,A,Y,u.1 rfl⟩ f)
     |false=>exact wp_cond_false he (B L ρ0 _ k a w Q z ⟨β,ρ,V,A,Y,u.2 rfl⟩ f)
   ·exact u.elim
  ·exact u.elim
 |region id ops draw=>
  intro L ρ0 st k a w Q z h f;cases draw with
  |true=>exact Pd Z hm z h (λ⟨_,_,h⟩=>h.elim) λg l w' M q=>f .normal g l w' L (yx _) M q
  |false=>
   refine wp_region_list (Jy Z ops.toList st a w z h λg l w' M q=>f .normal g l w' L (yx _) M q)
 |loop b ih=>
  intro L ρ0 st k a w Q z h f;obtain⟨β,ρ,V,A,Y,u⟩:=h;simp only[ex,exLoop]at u;generalize dedup (He b)=ws at u;generalize(((Hf b).bind λi=>H.loops.lookup i).getD [])=hint at u;obtain⟨g,t,q,hfree,β',E,V',K,hr',m⟩:=EP _ _ _ _ ⟨β,ρ,V,A,Y,u⟩;split at m;case isFalse=>exact m.elim
  rename_i hw;split at m;·exact m.elim
  ·rename_i st1 bs hgb;split at m;·exact m.elim
   ·rename_i init hinit;split at m;case isFalse=>exact m.elim
    rename_i hok;simp only[D]at m;obtain⟨I,μ,hI,S⟩:=m;obtain⟨hrh,hsh⟩:=Kt hw hr'.nv (yx _) hgb hinit hok hr';let Inv:Nat->Act->World->Prop:=λn l w'=>∃β xs V',Shaped (bs.flatMap (·.2.2)++(CR ws st1).2.flatMap (·.2.2)) xs/\I xs V'/\μ xs V'=n/\
     Rel DM V0 w0 H.N β {(CR ws st1).1 with depth:=g.depth+1} (E++xs) V' l.tmps w'/\l.defers=a.defers
    refine wp_loop_rel Inv ⟨_,β',init.evs E id,V',hsh,hI,rfl,hrh,rfl⟩ ?_;rintro n a1 w1 ⟨β1,xs,V1,hsh1,hI1,rfl,hr1,U⟩;have hDb:=S xs V1 hsh1 hI1;refine ih (L++[λys C=>I ys C/\μ ys C<μ xs V1]) E _ _ a1 w1 _ (by rw[U];exact z) ⟨β1,E++xs,V1,⟨yB _ _,?_⟩,hr1,hDb⟩ ?_;·simp[K.2]
    ·intro e st2 a2 w2 L2 hL2 hd2 hg2;cases e with
     |normal=>
      obtain⟨β2,ρ2,V2,hp2,hr2,G⟩:=hg2;simp only at G;split at G
      ·rename_i vs hvs;split at G
       ·rename_i hok2;simp only[D]at G;obtain⟨J,hJ,hJ2⟩:=G;have hlvl:L2[g.depth]?=some (λys C=>I ys C/\μ ys C<μ xs V1):=by
         obtain⟨σ,rfl⟩:=hL2;rw[<-K.2,List.getElem?_append_left (by simp),List.getElem?_append_right (yU _)];simp
        rw[hlvl]at hJ;simp only[zF]at hJ;subst hJ;obtain⟨hrh2,hsh2⟩:=Kt hw hr'.nv hp2.1 hgb hvs hok2 hr2;exact⟨_,hJ2.2,β2,vs.evs ρ2 id,V2,hsh2,hJ2.1,rfl,hrh2,hd2.trans U⟩
       ·exact G.elim
      ·exact G.elim
     |exit i=>exact f (.exit i) st2 a2 w2 L2 ((yB _ _).trans hL2) (hd2.trans U) (hg2.weak K.1)
     |ret=>exact f .ret st2 a2 w2 L2 ((yB _ _).trans hL2) (hd2.trans U) (hg2.weak K.1)
 |rangeFunc _ _ _ _ _ _=>intro L ρ0 st k a w Q z h f;obtain⟨β,ρ,V,A,Y,u⟩:=h;exact u.elim
 |scope _ _=>intro L ρ0 st k a w Q z h f;obtain⟨β,ρ,V,A,Y,u⟩:=h;exact u.elim
 |label _=>intro L ρ0 st k a w Q z h f;obtain⟨β,ρ,V,A,Y,u⟩:=h;exact u.elim
 |goto _=>intro L ρ0 st k a w Q z h f;obtain⟨β,ρ,V,A,Y,u⟩:=h;exact u.elim
 |refuse _=>intro L ρ0 st k a w Q z h f;obtain⟨β,ρ,V,A,Y,u⟩:=h;exact u.elim
end
end Go.Sx
