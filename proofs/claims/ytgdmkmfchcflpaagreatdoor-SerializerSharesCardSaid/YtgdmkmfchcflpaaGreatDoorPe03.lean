/- Part 3: no statement of the seat is proved here. -/
import Derived.Test.YtgdmkmfchcflpaaGreatDoorPe02
set_option linter.unusedVariables false
set_option linter.unusedSimpArgs false
open Option.some renaming injEq->zF
open List renaming length_append->zw,map_append->yP,mem_cons_self->zb,append_assoc->zH,mem_cons_of_mem->za,mem_cons->yD,all_eq_true->z6,nodup_cons->yU,mem_filterMap->yW,mem_range->yY,mem_filter->yz,prefix_refl->yw,prefix_append->yC
open Bool renaming false_eq_true->zN,and_eq_true->zC,or_eq_true->yQ,not_eq_true'->zU
open Prod.mk renaming injEq->zS
open Option renaming isSome_iff_exists->yB,bind_some->zr
open Go.Region renaming binds->yR,wanted->yO,ready->yZ
open Nat renaming strongRecOn->yS,le_refl->yV
open Array renaming getElem?_eq_some_iff->yA,getElem?_eq_getElem->yT,all_eq_true_iff_forall_mem->yX,size_setIfInBounds->yx
open Go.Instr renaming sureAddr->zh
open Go.Sem renaming run_bind->zK,run_pure->zM
open Go.Result renaming andThen_ok->zL
open Go.Addr renaming add_zero'->yH
open Go.Oper renaming upon->yy
namespace Go.Sx
open Go
section
variable{P:Program}{R:Ending->Mem->Prop}{O V0:Mem}{w0:World}{N:Nat}{β:Nat->Nat}{ρ:List Value}{V:Mem}{w:World}{tmps:Array Value}
theorem LR{ρ:List Value}{β:Nat->Nat}{t:T}{ks:List K}(h:C6 t=some ks):Shaped ks (t.toList.map (·.ev ρ β)):=by
 rw[<-Dj];exact LC t ks h
theorem IM:∀(y:List Nat)(h:St)(f:List Value),f.length=h.nv->∀(st':St)(g:List Value)(β:Nat->Nat)(ts:List T),GY st' (Cb y h).2=some ts->
  (∀s t,st'.get s=some t->tmps.getD s undef=t.ev g β)->
  Shaped ((Cb y h).2.flatMap (·.2.2)) (ts.map (·.ev g β))/\(Cb y h).1.nv=h.nv+ts.length/\
  (Cb y h).1.boxes=h.boxes/\(Cb y h).1.nb=h.nb/\(Cb y h).1.depth=h.depth/\
  ∀s t,(Cb y h).1.get s=some t->(s∉y/\h.get s=some t)∨(s∈y/\tmps.getD s undef=t.ev (f++ts.map (·.ev g β)) β)
 |[],h,f,J,st',g,β,ts,u,G=>by
  simp only[Cb,GY,zF]at u;subst u;exact⟨trivial,by simp[Cb],rfl,rfl,rfl,λs t A=>.inl ⟨by simp,A⟩⟩
 |s0::y,h,f,J,st',g,β,ts,u,G=>by
  cases hm:((h.get s0).bind λt=>(genKinds t).map λl=>(Ff t,l))with
  |some p=>
   obtain⟨b,l⟩:=p;simp only[Cb,hm]at u⊢;simp only[GY]at u;split at u
   ·rename_i x Z B C;split at u
    ·rename_i hc;obtain⟨D,E⟩:=hc;simp only[zF]at u;subst u;have z:Shaped l (x.cellsT.toList.map (·.ev g β)):=LR E;have Y:(x.cellsT.toList.map (·.ev g β)).length=l.length:=z.length;obtain⟨I,K,M,F,X,S⟩:=IM y ({h with nv:=h.nv+l.length}.put s0 (genTerm b l h.nv)) (f++x.cellsT.toList.map (·.ev g β)) (by simp only[zw,Y,J];rfl) st' g β Z C G;refine⟨?_,?_,M,F,X,λs t A=>?_⟩;·rw[yP];exact Iy z I
     ·grind[St.put]
     ·rcases S s t A with⟨U,m⟩|⟨U,m⟩
      ·rw[IF]at m;split at m
       ·rename_i e;subst e;right;refine⟨zb,?_⟩;split at m;·simp at m
        ·simp only[zF]at m;subst m;rw[G s x B];have v:=G1 (β:=β) l (x.cellsT.toList.map (·.ev g β)) f (Z.map (·.ev g β)) z;rw[J]at v;rw[yP,<-zH];unfold genTerm;cases b with
         |true=>
          simp only[if_true,T.ev,Cy,v];cases x<;>simp[Ff]at D;simp[T.ev,T.cellsT,Dj]
         |false=>
          simp only[zN,if_false];have q:x.cellsT=.cons x .nil:=by cases x<;>simp_all[Ff,T.cellsT]
          rw[q]at v z;simp only[T.toList,List.map_cons,List.map_nil]at v z
          match l,z,v with
          |[k],z,v=>
           grind[vars,T.toList]
       ·rename_i e;exact .inl ⟨by simp[e,U],m⟩
      simp_all
    ·simp at u
   ·simp at u
  |none=>
   simp only[Cb,hm]at u⊢;cases W:h.get s0 with
   |none=>
    simp only[W]at u⊢;obtain⟨I,K,M,F,X,S⟩:=IM y h f J st' g β ts u G;grind
   |some t0=>
   simp only[W]at u⊢;obtain⟨I,K,M,F,X,S⟩:=IM y (h.put s0 .nil) f J st' g β ts u G;refine⟨I,K,M,F,X,λs t A=>?_⟩;grind[IF,inr,za]
theorem LS(st:St)(i j:Nat)(cs:T)(ty:Nat):(st.setBox i cs ty).box j=if j=i then some (cs,ty)else st.box j:=by
 grind[St.box,St.setBox]
theorem LU:∀(hint:List Nat)(st:St)(y:List Value),y.length=st.nv->∀(f:St)(bs:List (Nat×Nat×List K)),GX hint st=some (f,bs)->∀(st':St)(g:List Value)(β:Nat->Nat)(ts:List T),GZ st' bs=some ts->
  Shaped (bs.flatMap (·.2.2)) (ts.map (·.ev g β))/\f.nv=st.nv+ts.length/\f.slots=st.slots/\f.nb=st.nb/\f.depth=st.depth/\
  (∀i,i∈bs.map (·.1)->(st.box i).isSome=true)/\
  ∀i cs ty,f.box i=some (cs,ty)->(i∉bs.map (·.1)/\st.box i=some (cs,ty))∨(i∈bs.map (·.1)/\∃u,st'.box i=some (u,ty)/\∀F,cs.evs (y++ts.map (·.ev g β)++F) β=u.evs g β)
 |[],st,y,I,f,bs,z,st',g,β,ts,x=>by
  simp only[GX,zF,zS]at z;obtain⟨rfl,rfl⟩:=z;simp only[GZ,zF]at x;subst x;exact⟨trivial,by simp,rfl,rfl,rfl,by simp,λi cs ty h=>.inl ⟨by simp,h⟩⟩
 |s::hint,st,y,I,f,bs,z,st',g,β,ts,x=>by
  simp only[GX]at z;split at z
  ·rename_i i X hs;split at z
   ·rename_i cs ty v;split at z
    ·rename_i M B;simp only[Option.map_eq_some_iff,zS]at z;obtain⟨⟨r1,r2⟩,C,rfl,rfl⟩:=z;simp only[GZ]at x;split at x
     ·rename_i u D J E G;split at x
      ·rename_i S;obtain⟨rfl,Z⟩:=S;simp only[zF]at x;subst x;have Y:Shaped M (u.toList.map (·.ev g β)):=LR Z;have q:(u.toList.map (·.ev g β)).length=M.length:=Y.length;obtain⟨g1,g2,U,g4,g5,g7,g6⟩:=LU hint _ (y++u.toList.map (·.ev g β)) (by simp only[zw,q,I];rfl) _ _ C st' g β J G;refine⟨?_,?_,U,g4,g5,λj l=>?_,λj W A l=>?_⟩;·grind[Iy]
       ·grind[St.setBox]
       ·simp only[List.map_cons,yD]at l;rcases l with rfl|l;·simp[v]
        ·have:=g7 j l;rw[LS]at this;by_cases e:j=i;·grind
         ·rw[if_neg e]at this;exact this
       ·rcases g6 j W A l with⟨e1,m⟩|⟨e1,cs2,m,e3⟩
        ·rw[LS]at m;split at m
         ·rename_i e;subst e;simp only[zF,zS]at m;obtain⟨rfl,rfl⟩:=m;grind[inr,G1,Cy,Dj,zH]
         ·rename_i e;exact .inl ⟨by simp_all,m⟩
        simp_all
      ·simp at x
     ·simp at x
    ·simp at z
   ·simp at z
  ·simp at z
theorem Na{st:St}{bs:List (Nat×Nat×List K)}{ss:List (Nat×Bool×List K)}{t:T}(h:HJ st bs ss=some t):
  ∃l m,GZ st bs=some l/\GY st ss=some m/\t=T.ofList (l++m)/\t.firstBox=none:=by
 unfold HJ at h;grind
theorem IN{y hint:List Nat}{st g st':St}{bs:List (Nat×Nat×List K)}{vs:T}{ρ':List Value}(hw:st.wf=true)(S:ρ.length=st.nv)(U:ρ<+:ρ')
  (hg:GX hint st=some (g,bs)) (Z:HJ st' bs (Cb y g).2=some vs) (q:backOk {(Cb y g).1 with depth:=st.depth+1} st' bs y=true)
  (u:Rel O V0 w0 N β st' ρ' V tmps w):
  Rel O V0 w0 N β {(Cb y g).1 with depth:=st.depth+1} (ρ++vs.evs ρ' id) V tmps w/\Shaped (bs.flatMap (·.2.2)++(Cb y g).2.flatMap (·.2.2)) (vs.evs ρ' id):=by
 obtain⟨l,m,h1,h2,rfl,h3⟩:=Na Z;rw[(T.ev_free (β:=id) (β':=β) (ρ:=ρ') _ h3).2,Cy,yP];obtain⟨a1,a2,a3,B,a5,a6,a7⟩:=LU hint st ρ S g bs hg st' ρ' β l h1;obtain⟨b1,b2,b3,C,b5,b6⟩:=IM (tmps:=tmps) y g (ρ++l.map (·.ev ρ' β)) (by grind) st' ρ' β m h2 u.slots;simp only[backOk,zC,z6,yQ,decide_eq_true_eq]at q;have A:∀t:T,t.wf st.nv st.nb=true->t.ev ρ' β=t.ev (ρ++(l.map (·.ev ρ' β)++m.map (·.ev ρ' β))) β/\t.evs ρ' β=t.evs (ρ++(l.map (·.ev ρ' β)++m.map (·.ev ρ' β))) β:=by
  refine T.ev_congr (λi z=>?_) (λ_ _=>rfl);obtain⟨σ,rfl⟩:=U;grind
 have v:∀s,g.get s=st.get s:=λs=>by unfold St.get;rw[a3]
 have J:∀i,St.box {(Cb y g).1 with depth:=st.depth+1} i=g.box i:=λi=>by grind[St.box]
 have f:∀i,(St.box {(Cb y g).1 with depth:=st.depth+1} i).isSome=true->(st'.box i).isSome=true:=by
  intro i z;obtain⟨⟨Y,ty⟩,I⟩:=yB.1 z;rcases q.2 _ (J9 I)with h|h;·grind
  grind
 refine⟨
 {nv:=?_
  size:=u.size
  slots:=λs t D=>?_
  frm:=u.frm
  boxes:=λi Y ty z=>?_
  hid:=λb o Z=>⟨(u.hid b o Z).1,(u.hid b o Z).2.1,(u.hid b o Z).2.2.1,λi z=>(u.hid b o Z).2.2.2 i (f i z)⟩
  inj:=λi j z hj=>u.inj i j (f i z) (f j hj)},Iy a1 b1⟩
 ·grind
 ·rcases b6 s t D with⟨M,G⟩|⟨_,G⟩
  ·have W:st'.get s=some t:=by
    rcases q.1 _ (lookup_mem (G3 D))with h|h;·simp_all
    grind
   rw[v]at G;rw[u.slots s t W];grind[wf_get]
  simp_all
 ·rw[J]at z;rcases a7 i Y ty z with⟨M,G⟩|⟨M,cs',G,W⟩
  ·have W:st'.box i=some (Y,ty):=by
    grind[St.box,Cb,absurd]
   obtain⟨F,X,c3,_⟩:=u.boxes i Y ty W;rw[<-(A Y (Gs hw G).2).2];exact⟨F,X,c3,by simp only[C,B];exact(Gs hw G).1⟩
  ·obtain⟨F,X,c3,_⟩:=u.boxes i cs' ty G;have E:=W (m.map (·.ev ρ' β));rw[zH]at E;rw[E];obtain⟨x,I⟩:=yB.1 (a6 i M);exact⟨F,X,c3,by simp only[C,B];exact(Gs hw I).1⟩
end
def HQ(acc:List Nat)(o:Oper):Nat:=o.after.toList.foldl (λs e=>if yR .any e then s|||(1<<<e.on)|||acc.getD e.on 0 else s) 0
theorem LV:∀(os:List Oper)(acc:List Nat),(∃g,BP os acc=acc++g/\g.length=os.length)/\
  ∀k o,os[k]?=some o->(BP os acc).getD (acc.length+k) 0=HQ ((BP os acc).take (acc.length+k)) o
 |[],acc=>⟨⟨[],by simp[BP]⟩,λk o h=>by simp at h⟩
 |o::os,acc=>by
  have e:BP (o::os) acc=BP os (acc++[HQ acc o]):=rfl;obtain⟨⟨g,f,u⟩,z⟩:=LV os (acc++[HQ acc o]);rw[e];refine⟨⟨HQ acc o::g,by rw[f];simp,by simp[u]⟩,λk y h=>?_⟩;cases k with
  |zero=>
   simp_all
  |succ k=>
   have:=z k y (by simpa using h);simp only[zw,List.length_singleton]at this;grind
theorem fold_bits(acc:List Nat):∀(es:List Edge)(s j:Nat),(es.foldl (λs e=>if yR .any e then s|||(1<<<e.on)|||acc.getD e.on 0 else s) s).testBit j=true->
  s.testBit j=true∨∃e∈es,yR .any e=true/\(j=e.on∨(acc.getD e.on 0).testBit j=true)
 |[],s,j,h=>.inl h
 |e::es,s,j,h=>by
  simp only[List.foldl_cons]at h;rcases fold_bits acc es _ j h with g|⟨e',y,x⟩
  ·by_cases f:yR .any e=true
   ·rw[if_pos f]at g;simp only[Nat.testBit_or,yQ]at g;rcases g with(g|g)|g;·exact .inl g
    ·right;refine⟨e,zb,f,.inl ?_⟩;rw[Nat.testBit_shiftLeft]at g;simp only[zC,decide_eq_true_eq]at g;have u:=g.2;rcases Nat.eq_or_lt_of_le g.1 with z|z;·exact z.symm
     ·have:(1:Nat).testBit (j-e.on)=false:=by
       obtain⟨m,hm⟩:∃m,j-e.on=m+1:=⟨j-e.on-1,by omega⟩;rw[hm,Nat.testBit_succ];simp
      rw[this]at u;cases u
    ·exact .inr ⟨e,zb,f,.inr g⟩
   ·rw[if_neg f]at g;exact .inl g
  ·exact .inr ⟨e',za _ y,x⟩
def HR(all:Array Oper)(listed:Array Bool):Prop:=∀j oj,all[j]?=some oj->listed.getD j false=true->∀e∈oj.after,yR .any e=true->listed.getD e.on false=true
def IP(all:Array Oper):Prop:=∀i o,all[i]?=some o->∀e∈o.after,yR .any e=true->e.on<i
theorem mask_listed{all:Array Oper}(J:IP all){listed:Array Bool}(G:HR all listed):∀(i:Nat)(o:Oper),all[i]?=some o->
  (∀e∈o.after,yR .any e=true->listed.getD e.on false=true)->∀j,(Cs (BP all.toList []) i).testBit j=true->listed.getD j false=true:=by
 intro i;induction i using yS with
 |_ i Z=>
  intro o x Y j z;have m:=(LV all.toList []).2 i o (by simpa using x);simp only[List.length_nil,Nat.zero_add]at m;unfold Cs at z;rw[m]at z;unfold HQ at z;rcases fold_bits _ _ _ _ z with l|⟨e,l,q,y⟩;·simp at l
  ·have h:e∈o.after:=by simpa using l
   have g:=J i o x e h q;have v:=Y e h q;rcases y with rfl|y;·exact v
   ·have f:((BP all.toList []).take i).getD e.on 0=(BP all.toList []).getD e.on 0:=by
     simp[List.getD,g]
    rw[f]at y;have W:i<all.size:=(yA.1 x).1;have u:all[e.on]?=some (all[e.on]'(by omega)):=yT _;exact Z e.on g _ u (G e.on _ u v) j y
theorem IQ:∀{l:List Nat},GW l=true->l.Nodup
 |[],_=>List.nodup_nil
 |x::xs,h=>by
  simp only[GW,zC,zU]at h;exact yU.2 ⟨by simpa using h.1,IQ h.2⟩
structure CK (w w':World):Prop where
 heap:∀(b:Nat)(o:Obj),w.heap[b]?=some o->w'.heap[b]?=some o
 size:w.heap.size<=w'.heap.size
 os:w'.os=w.os
 out:w'.output=w.output
theorem CK.refl(w:World):CK w w:=⟨λ_ _ h=>h,yV _,rfl,rfl⟩
theorem CK.trans{a b c:World}(h:CK a b)(k:CK b c):CK a c:=⟨λi o g=>k.heap i o (h.heap i o g),Nat.le_trans h.size k.size,k.os.trans h.os,k.out.trans h.out⟩
theorem CK.alloc(w:World)(o:Obj):CK w (w.alloc o):=
 ⟨λb g h=>(HN w o (yA.1 h).1).trans h,by simp_all,rfl,rfl⟩
section
variable{P:Program}{O V0:Mem}{w0:World}{N:Nat}{β:Nat->Nat}{st:St}{ρ:List Value}{V:Mem}{w:World}{tmps:Array Value}
theorem Rel.ext(h:Rel O V0 w0 N β st ρ V tmps w){w':World}(e:CK w w'):Rel O V0 w0 N β st ρ V tmps w':=
 {h with
  frm:=
   {size:=Nat.le_trans h.frm.size e.size
    le:=λb o g=>e.heap b o (h.frm.le b o g)
    old:=λb g y=>by
     have x:=h.frm.old b g y;rw[<-x];have f:b<w.heap.size:=Nat.lt_of_lt_of_le g h.frm.size;exact(e.heap b _ (yT f)).trans (yT f).symm
    dom:=h.frm.dom
    os:=e.os.trans h.frm.os
    out:=e.out.trans h.frm.out}
  boxes:=λi u ty z=>⟨e.heap _ _ (h.boxes i u ty z).1,(h.boxes i u ty z).2⟩
  hid:=λb o g=>⟨e.heap _ _ (h.hid b o g).1,(h.hid b o g).2⟩}
theorem Rel.less(h:Rel O V0 w0 N β st ρ V tmps w){g:Mem}(f:∀b o,g b=some o->O b=some o):Rel g V0 w0 N β st ρ V tmps w:=
 {h with hid:=λb o u=>h.hid b o (f b o u)}
theorem Rel.orphan(h:Rel O V0 w0 N β st ρ V tmps w)(o:Obj):Rel (O.set w.heap.size o) V0 w0 N β st ρ V tmps (w.alloc o):=
 {h.ext (CK.alloc w o)with
  hid:=λb f g=>by
   by_cases e:b=w.heap.size
   ·subst e;rw[Mem.set_same]at g;cases g;refine⟨LH w o,le_none h.frm.le (yV _),h.frm.size,λi u=>?_⟩;obtain⟨x,z⟩:=yB.1 u;have:=(h.boxes i x.1 x.2 z).1;grind
   ·rw[Mem.set_ne e]at g;exact(h.ext (CK.alloc w o)).hid b f g}
theorem Rel.adopt(h:Rel O V0 w0 N β st ρ V tmps w)(hw:st.wf=true){cs:T}(X:cs.wf st.nv st.nb=true){ty b:Nat}(A:O b=some (.cells (cs.evs ρ β).toArray ty (0,0))):
  Rel (λc=>if c=b then none else O c) V0 w0 N (upd β st.nb b) {st with boxes:=(st.nb,cs,ty)::st.boxes,nb:=st.nb+1} ρ V tmps w:=by
 have m:∀t:T,t.wf st.nv st.nb=true->t.ev ρ β=t.ev ρ (upd β st.nb b)/\t.evs ρ β=t.evs ρ (upd β st.nb b):=
  T.ev_congr (λ_ _=>rfl) (λi l=>by grind[upd])
 have g:∀(i:Nat)(x:T×Nat),St.box {st with boxes:=(st.nb,cs,ty)::st.boxes,nb:=st.nb+1} i=some x->(i=st.nb/\x=(cs,ty))∨(i≠st.nb/\st.box i=some x):=by
  grind[St.box,inr]
 obtain⟨B,C,D,E⟩:=h.hid b _ A;exact
 {nv:=h.nv
  size:=h.size
  slots:=λs t Y=>(h.slots s t Y).trans (m t (wf_get hw Y)).1
  frm:=h.frm
  boxes:=λi q v l=>by
   rcases g i _ l with⟨rfl,e⟩|⟨z,f⟩;·grind[upd]
   ·obtain⟨K,h2,h3,S⟩:=h.boxes i q v f;grind[upd,Gs,Nat.lt_succ_of_lt]
  hid:=λc o J=>by
   split at J;·cases J
   ·rename_i z;obtain⟨I,k2,k3,U⟩:=h.hid c o J;refine⟨I,k2,k3,λi l=>?_⟩;obtain⟨x,G⟩:=yB.1 l;rcases g i x G with⟨rfl,_⟩|⟨u,f⟩;·grind[upd]
    grind[upd]
  inj:=λi j l M W=>by
   obtain⟨x,G⟩:=yB.1 l;obtain⟨y,F⟩:=yB.1 M;rcases g i x G with⟨rfl,_⟩|⟨z,f⟩<;>rcases g j y F with⟨rfl,_⟩|⟨u,Z⟩
   ·rfl
   ·grind[upd,absurd]
   ·grind[upd,absurd]
   ·simp only[upd,if_neg z,if_neg u]at W;exact h.inj i j (by simp[f]) (by simp[Z]) W}
end
section
variable{P:Program}{R:Ending->Mem->Prop}{O V0:Mem}{w0:World}{N:Nat}{L:List (List Value->Mem->Prop)}{ρ0:List Value}{fs:List Nat}{H:BV}
variable{all:Array Oper}
def Fl(P:Program)(all:Array Oper)(j:Nat)(h:Bool)(as:Act)(w:World):Prop:=
 ∃o d,all[j]?=some o/\o.dst=some d/\d<as.tmps.size/\yO o (yielded all as.tmps)=h/\
  (h=true->∀w',CK w w'->(execOp as.eval o).run P w'=.ok (.value (as.tmps.getD d undef)) w')/\(h=false->as.tmps.getD d undef=undef)
theorem Fl.ext{j:Nat}{f:Bool}{as:Act}{w w':World}(h:Fl P all j f as w)(e:CK w w'):Fl P all j f as w':=by
 obtain⟨o,d,u,z,y,x,l,m⟩:=h;exact⟨o,d,u,z,y,x,λhw g q=>l hw g (e.trans q),m⟩
theorem E0{a:Act}{dst:Option Nat}{v:Value}{d:Nat}(h:dst≠some d):(a.put dst v).tmps.getD d undef=a.tmps.getD d undef:=by
 cases dst with
 |none=>rfl
 |some e=>
  simp_all[Act.put,Array.getD]
theorem FO{a:Act}{v:Value}{d:Nat}(h:d<a.tmps.size):(a.put (some d) v).tmps.getD d undef=v:=by
 simp[Act.put,Array.getD,h]
theorem E1(a:Act)(dst:Option Nat)(v:Value):(a.put dst v).tmps.size=a.tmps.size:=by cases dst<;>simp[Act.put]
theorem noSel{all:Array Oper}(h:∀o,o∈all.toList->EW o.op=false){j:Nat}{o:Oper}(g:all[j]?=some o):∀cs b,o.op≠.select cs b:=by
 grind[EW]
theorem Fl.put(m:∀o,o∈all.toList->EW o.op=false){j:Nat}{y:Bool}{as:Act}{w:World}(h:Fl P all j y as w){dst:Option Nat}{v:Value}
  (x:∀o,all[j]?=some o->∀g,dst=some g->g∉o.looksAt all/\o.dst≠some g):Fl P all j y (as.put dst v) w:=by
 obtain⟨o,d,u,l,q,Z,J,Y⟩:=h;have f:∀g,dst=some g->g∉o.looksAt all:=λg G=>(x o u g G).1;have z:dst≠some d:=λe=>(x o u d e).2 l;refine⟨o,d,u,l,by rw[E1];exact q,?_,λhw w' e=>?_,λhw=>?_⟩;·grind[wanted_put]
 ·rw[execOp_put o (noSel m u) as dst v f,E0 z];exact J hw w' e
 grind[E0]
theorem IS{fl:List (Nat×Bool)}{dst:Option Nat}(h:Gn all fl dst=true){j:Nat}{b:Bool}(f:(j,b)∈fl):∀o,all[j]?=some o->∀g,dst=some g->g∉o.looksAt all:=by
 intro o u g z;have:=z6.1 h _ f;simp_all
theorem exLoad_run{a:Act}{w:World}{st:St}{o:Oper}{k:St->Tr}{t:TypeId}{x:Operand}(hop:o.op=.load t x)(hd:DA N o.dst=true)
  (h:AM P R O V0 w0 N L ρ0 a.tmps w st (GU P st o.dst t x k)):
  ∃v st',(∀w',CK w w'->(execOp a.eval o).run P w'=.ok (.value v) w')/\AM P R O V0 w0 N L ρ0 (a.put o.dst v).tmps w st' (k st'):=by
 obtain⟨β,ρ,V,hp,hr,hD⟩:=h;unfold GU at hD;obtain⟨st',p,hg,F,f,u,V',X,J,g⟩:=D0 _ _ _ _ ⟨β,ρ,V,hp,hr,hD⟩;have hx:a.eval x=p.ev u f:=A5 J hg;have A:∀{b i sz y e},Gk p=(b,i,sz,y,e)->b.firstBox=none/\i.firstBox=none:=by
  intro b i sz y e Z;unfold Gk at Z;grind[T.firstBox]
 have go:∀(q:Addr)(m:List K)(vs:List Value)(y:Nat)(z:T),AC (p.ev u f)=some (q.add y)->p.kind=some .p->Shaped m vs->st'.wf=true->
   (∀w',CK w w'->∀j v,vs[j]?=some v->w'.cell? (q.add j)=some v)->DL P t (T.ofList (vars m st'.nv)) y=some z->D P R (k ((st'.more m.length).putO o.dst z)) L (u++vs) V'->
   ∃v st',(∀w',CK w w'->(execOp a.eval o).run P w'=.ok (.value v) w')/\AM P R O V0 w0 N L ρ0 (a.put o.dst v).tmps w st' (k st'):=by
  intro q m vs y z G l I hw hc B C;have hl:vs.length=m.length:=I.length;have M:=J.bind hw vs;rw[hl]at M;have hev:(T.ofList (vars m st'.nv)).evs (u++vs) f=vs:=by
   rw[Cy,<-J.nv];have:=G1 (β:=f) m vs u [] I;simp_all
  obtain⟨p',E⟩:=Gq (ρ:=u) (β:=f) l;rw[E]at G;simp only[AC]at G;subst G;refine⟨z.ev (u++vs) f,_,λw' e=>?_,f,u++vs,V',(X.more _ _).putO _ _,M.putO hd z rfl,C⟩;grind[LM,execOp,Instr.loadAt,zh,zK,zM,zL]
 have S:∀w',CK w w'->V'.le w':=λw' e=>(J.ext e).frm.le;split at g;case isFalse=>exact g.elim
 rename_i l;split at g
 ·rename_i b i sz y e Z;obtain⟨U,hi⟩:=A Z;split at g
  ·rename_i m hks;split at g
   ·rename_i hlen;unfold bind at g;split at g
    ·rename_i hw;split at g
     ·rename_i z B;simp only[D]at g;obtain⟨vs,Y,h2,h3⟩:=g;have W:=IK (ρ:=u) (β:=f) Z l;simp only at W;rw[(T.ev_free (β:=id) (β':=f) (ρ:=u) b U).1,(T.ev_free (β:=id) (β':=f) (ρ:=u) i hi).1]at Y;cases G:AC (b.ev u f)with
      |none=>simp[G,Mem.rowp]at Y
      |some q=>
       grind[Mem.rowp,Aa,G4]
     ·exact g.elim
    ·exact g.elim
   ·exact g.elim
  ·exact g.elim
 ·rename_i b i sz y Z;obtain⟨U,hi⟩:=A Z;split at g
  ·rename_i m hks;unfold bind at g;split at g
   ·rename_i hw;split at g
    ·rename_i z B;simp only[D]at g;obtain⟨vs,Y,h2,h3⟩:=g;have W:=IK (ρ:=u) (β:=f) Z l;simp only at W;rw[(T.ev_free (β:=id) (β':=f) (ρ:=u) b U).1,(T.ev_free (β:=id) (β':=f) (ρ:=u) i hi).1]at Y;cases G:AC (b.ev u f)with
     |none=>simp[G,Mem.rowp]at Y
     |some q=>
      simp only[G,Mem.rowp]at Y;rw[G]at W;simp only[Aa,Option.map_some]at W;exact go _ m vs 0 z (by rw[W,yH]) l h2 hw (λw' e=>(G4 (S w' e) Y).2) B h3
    ·exact g.elim
   ·exact g.elim
  ·exact g.elim
theorem IT{as:Act}{w:World}{st:St}:∀{fl:List (Nat×Bool)}{t:Tr}{β:Nat->Nat}{ρ:List Value}{V:Mem},Rel O V0 w0 N β st ρ V as.tmps w->D P R (Gl P all fl st t) L ρ V->
  D P R t L ρ V/\∀j,(j,true)∈fl->∃o d,all[j]?=some o/\o.dst=some d/\∀w',CK w w'->(execOp as.eval o).run P w'=.ok (.value (as.tmps.getD d undef)) w'
 |[],t,β,ρ,V,f,h=>⟨h,λj g=>by cases g⟩
 |(i,false)::fl,t,β,ρ,V,f,h=>by
  obtain⟨v,J⟩:=IT (fl:=fl) f h;exact⟨v,λj g=>J j (by simpa using g)⟩
 |(i,true)::fl,t,β,ρ,V,f,h=>by
  simp only[Gl]at h;split at h;·exact h.elim
  ·rename_i o F;split at h
   ·rename_i ns x y G u;split at h
    ·rename_i e;subst e;obtain⟨z,W⟩:=Kd h β;obtain⟨v,J⟩:=IT (fl:=fl) f W;refine⟨v,λj g=>?_⟩;rcases yD.1 g with e|g
     ·cases e;cases l:o.dst with
      |none=>simp[l]at u
      |some d=>
       simp only[l,zr]at u;refine⟨o,d,F,l,λw' A=>?_⟩;rw[f.slots d _ u];exact J8 (f.ext A) G z
     ·exact J j g
    ·exact h.elim
   ·rename_i y G u;split at h
    ·rename_i ty x K;split at h
     ·rename_i p n S U hn Z;split at h
      ·rename_i hc;obtain⟨c1,c2,c3,c4,c5,c6,c7⟩:=hc;simp only[D]at h;obtain⟨z,W⟩:=h;obtain⟨v,J⟩:=IT (fl:=fl) f W;refine⟨v,λj g=>?_⟩;rcases yD.1 g with e|g
       ·cases e;cases l:o.dst with
        |none=>simp[l]at u
        |some d=>
         simp only[l,zr]at u;refine⟨o,d,F,l,λw' A=>?_⟩;rw[f.slots d _ u];have I:y.cellsT.firstBox=none:=by cases y<;>simp_all[T.cellsT,T.firstBox]
         rw[(T.ev_free (β:=id) (β':=β) (ρ:=ρ) p c2).1,(T.ev_free (β:=id) (β':=β) (ρ:=ρ) _ I).2]at z;obtain⟨q,X⟩:=Gq (ρ:=ρ) (β:=β) c1;rw[X]at z;have hx:as.eval x=.pointer q:=(A5 f U).trans X;cases q with
         |none=>simp[AC,Mem.rowp]at z
         |some q=>
          simp only[AC,Mem.rowp,yH]at z;obtain⟨_,B⟩:=G4 (f.ext A).frm.le z;have Y:(y.cellsT.evs ρ β).length=n:=by grind[Dj]
          have C:(loadVar ty q).run P w'=.ok (y.ev ρ β) w':=by
           cases S with
           |true=>
            have M:=run_loadCells_list (P:=P) w' q (y.cellsT.evs ρ β) B;rw[Y]at M;cases y<;>simp[Ff]at c7;simp only[loadVar,zK,FM Z,zL,if_true,DZ hn,T.cellsT]at M⊢;rw[M];simp[T.ev]
           |false=>
            have m:y.cellsT=.cons y .nil:=by cases y<;>simp_all[Ff,T.cellsT]
            have E:=B 0 (y.ev ρ β) (by rw[m];rfl);rw[yH]at E;simp only[loadVar,zK,FM Z,zL,zN,if_false,run_load,E]
          grind[execOp,Instr.loadAt,zh,zK,zM,zL]
       ·exact J j g
      ·exact h.elim
     ·exact h.elim
    ·exact h.elim
   ·exact h.elim
end
def C8:Mem:=λ_=>none
structure E2 (P:Program)(all:Array Oper)(ms:List Nat):Prop where
 edges:IP all
 dsts:∀(i j:Nat)(oi oj:Oper)(d:Nat),all[i]?=some oi->all[j]?=some oj->oi.dst=some d->oj.dst=some d->i=j
 sel:∀o,o∈all.toList->EW o.op=false
 look:∀(i:Nat)(o:Oper)(p:Nat)(op:Oper)(t:Nat),all[i]?=some o->t∈o.looksAt all->(Cx all p=true∨Di all p=true)->all[p]?=some op->op.dst=some t->(Cs ms i).testBit p=true/\p≠i
 allocs:∀(i:Nat)(o:Oper)(e:Nat),all[i]?=some o->o.op=.alloc e->(Ez P e).isSome=true
theorem LW:∀{l:List Oper},(l.filterMap (·.dst)).Nodup->∀(i j:Nat)(oi oj:Oper)(d:Nat),l[i]?=some oi->l[j]?=some oj->oi.dst=some d->oj.dst=some d->i=j
 |[],_,i,j,oi,oj,d,h,_,_,_=>by simp at h
 |o::l,v,i,j,oi,oj,d,h,u,z,y=>by
  have f:∀(k:Nat) ok,l[k]?=some ok->ok.dst=some d->d∈l.filterMap (·.dst):=λk ok x m=>yW.2 ⟨ok,List.mem_of_getElem? x,m⟩;have g:(l.filterMap (·.dst)).Nodup:=by
   grind
  have q:∀d,o.dst=some d->d∉l.filterMap (·.dst):=by
   grind
  cases i with
  |zero=>
   grind
  |succ i=>
   cases j with
   |zero=>
    grind
   |succ j=>exact congrArg (·+1) (LW g i j oi oj d (by simpa using h) (by simpa using u) z y)
theorem LX{all:Array Oper}{i:Nat}{o:Oper}(h:all[i]?=some o):(o,i)∈all.toList.zipIdx:=by
 grind
theorem LY{P:Program}{all:Array Oper}{ms order:List Nat}(h:drawOk P all ms order=true):
  E2 P all ms/\order.length=all.size/\order.Nodup/\(∀i∈order,i<all.size)/\EX all ms order=true:=by
 simp only[drawOk,zC,z6,beq_iff_eq,decide_eq_true_eq,zU]at h;obtain⟨⟨⟨⟨⟨⟨⟨⟨z,y⟩,x⟩,l⟩,m⟩,q⟩,v⟩,J⟩,W⟩:=h;refine⟨⟨λi o g e A I=>?_,λi j oi oj d G Z=>?_,λo g=>q o g,λi o p op t g Y M f F=>?_,λi o e g f=>?_⟩,y,IQ x,l,J⟩
 ·have:=z _ (LX g);simp only[yX,yQ,zU,decide_eq_true_eq]at this;grind
 ·exact LW (IQ m) i j oi oj d (by simpa using G) (by simpa using Z)
 ·have u:p<all.size:=(yA.1 f).1;have:=v _ (LX g) t Y p (yY.2 u);grind
 grind
def Orph(P:Program)(all:Array Oper)(O:Mem)(j b:Nat)(a:Act):Prop:=
 ∃o d e z,all[j]?=some o/\o.dst=some d/\o.op=.alloc e/\Eo P e=some z/\O b=some (.cells z.cells e (0,0))/\a.tmps.getD d undef=.pointer (some ⟨b,0,none⟩)
structure Inv (c:Bool)(P:Program)(R:Ending->Mem->Prop)(V0:Mem)(w0:World)(L:List (List Value->Mem->Prop))(ρ0:List Value)(fs:List Nat)(H:BV)(all:Array Oper)(ms:List Nat)(k:St->Tr)
  (rest:List Nat) (fl:List (Nat×Bool)) (st:St) (listed:Array Bool) (a:Act) (w:World) (as:Act) (pend:List Nat) (O:Mem) (bo:Nat->Nat):Prop where
 lsize:listed.size=all.size
 closed:HR all listed
 chain:EX all ms rest=true
 nd:rest.Nodup
 bound:∀j∈rest,j<all.size
 unl:∀j,j<all.size->listed.getD j true=false->j∈pend∨j∈rest
 pu:∀j∈pend,listed.getD j true=false/\Cx all j=true/\j∉rest/\(∀r∈rest,(Cs ms j).testBit r=false)/\∃b,(j,b)∈fl/\Fl P all j b as w
 ru:∀j∈rest,listed.getD j true=false∨(Di all j=true/\Orph P all O j (bo j) a)
 boi:∀i∈rest,∀j∈rest,listed.getD i true=true->listed.getD j true=true->bo i=bo j->i=j
 fsize:as.tmps.size=a.tmps.size
 fdef:as.defers=a.defers
 fill:∀s,(∀j o,(j∈pend∨(j∈rest/\listed.getD j true=true))->all[j]?=some o->o.dst≠some s)->as.tmps.getD s undef=a.tmps.getD s undef
 goes:∃n,AM P R O V0 w0 H.N L ρ0 as.tmps w st (DM P fs H all ms c n rest fl st k)
theorem Nb{all:Array Oper}{i:Nat}(h:Cx all i=true):Di all i=false:=by
 unfold Cx at h;grind[Di,floatOp]
theorem HS{all:Array Oper}{ms:List Nat}{r:Nat}{g:List Nat}(h:EX all ms (r::g)=true):
  (Cx all r=true∨∀j∈g,(((Cs ms j).testBit r=true∨Di all j=true)∨(Cx all j=false/\∀q∈g,(Cs ms j).testBit q=false))∨∃q∈g,(Cs ms j).testBit q=true/\Di all q=false)/\(∀j∈g,(Cs ms r).testBit j=false)/\EX all ms g=true:=by
 simp_all[EX,zC,yQ,z6,List.any_eq_true,zU]
theorem sameSet_spec{l m:List Nat}(h:HG l m=true):l.length=m.length/\l.Nodup/\∀x∈l,x∈m:=by
 simp_all[HG,zC,z6,decide_eq_true_eq,IQ]
section
variable{P:Program}{R:Ending->Mem->Prop}{O V0:Mem}{w0:World}{L:List (List Value->Mem->Prop)}{ρ0:List Value}{fs:List Nat}{H:BV}
variable{all:Array Oper}{ms:List Nat}{k:St->Tr}{rest:List Nat}{fl:List (Nat×Bool)}{st:St}{listed:Array Bool}{a as:Act}{w:World}{pend:List Nat}{bo:Nat->Nat}
theorem LZ{N:Nat}{f:Nat->Tr}{t:Tr}:∀{l:List Nat},AM P R O V0 w0 N L ρ0 as.tmps w st (forks f t l)->AM P R O V0 w0 N L ρ0 as.tmps w st t/\∀j∈l,AM P R O V0 w0 N L ρ0 as.tmps w st (f j)
 |[],h=>⟨h,λj x=>by cases x⟩
 |j::m,⟨β,ρ,V,u,z,y⟩=>by
  obtain⟨q,v⟩:=LZ (l:=m) ⟨β,ρ,V,u,z,y.2⟩;refine⟨q,λi g=>?_⟩;rcases yD.1 g with rfl|g;·exact⟨β,ρ,V,u,z,y.1⟩
  ·exact v i g
theorem IU{N:Nat}{c:Bool}{n r:Nat}{g:List Nat}{o:Oper}(z:all[r]?=some o)(h:AM P R O V0 w0 N L ρ0 as.tmps w st (DM P fs H all ms c n (r::g) fl st k)):
  ∃m,AM P R O V0 w0 N L ρ0 as.tmps w st (guardD all o st (HH P fs H all ms r o fl λfl st=>DM P fs H all ms true m g fl st k) (drawNo H all ms r o fl λfl st=>DM P fs H all ms true m g fl st k))/\
   (c=true->∀j∈altsOf all ms r g,∃l,HG (j::l) (r::g)=true/\EX all ms (j::l)=true/\AM P R O V0 w0 N L ρ0 as.tmps w st (DM P fs H all ms false m (j::l) fl st k)):=by
 cases n with
 |zero=>obtain⟨β,ρ,V,y,x,f⟩:=h;exact f.elim
 |succ m=>
  unfold DM at h;rw[z]at h;simp only at h;obtain⟨q,v⟩:=LZ h;refine⟨m,q,λJ j G=>?_⟩;subst J;have u:=v j G;split at u;·grind
  ·obtain⟨β,ρ,V,y,x,f⟩:=u;exact f.elim
theorem L0{N:Nat}{o:Oper}{m A:St->Tr}(h:AM P R O V0 w0 N L ρ0 as.tmps w st (guardD all o st m A)):
  (yO o (yielded all as.tmps)=true/\∃st',AM P R O V0 w0 N L ρ0 as.tmps w st' (m st'))∨
  (yO o (yielded all as.tmps)=false/\∃st',AM P R O V0 w0 N L ρ0 as.tmps w st' (A st')):=by
 unfold guardD at h;split at h;·grind[yO]
 ·rename_i j q I;split at h;·obtain⟨β,ρ,V,z,y,u⟩:=h;exact u.elim
  ·rename_i d M;have x:=Kg (tmps:=as.tmps) M;have Z:yO o (yielded all as.tmps)=(yielded all as.tmps j==some q):=by simp[yO,I]
   obtain⟨β,ρ,V,z,y,u⟩:=h;split at u
   ·rename_i v l;rw[y.getD_size l]at x;simp only[T.ev]at x;split at u;·rename_i e;subst e;exact .inl ⟨by simp_all,st,β,ρ,V,z,y,u⟩
    ·rename_i e;exact .inr ⟨by simp_all,st,β,ρ,V,z,y,u⟩
   ·rename_i l;rw[y.getD_size l]at x;have:yielded all as.tmps j=none:=by rw[x];rfl
    exact .inr ⟨by grind,st,β,ρ,V,z,y,u⟩
   ·rename_i c _ _ l;split at u
    ·rename_i F;obtain⟨Y,W,X⟩:=F;obtain⟨b,G⟩:=Fj (ρ:=ρ) (β:=β) Y;rw[y.getD_size l,G]at x;simp only at x;simp only[D]at u;have J:=(T.ev_free (β:=id) (β':=β) (ρ:=ρ) c W).1;have g:Rel O V0 w0 N β (st.now d (.bool b)) ρ V as.tmps w:=y.now l (by rw[G];rfl);cases b with
     |true=>
      have f:=u.1 (by rw[J,G];rfl);split at f;·rename_i e;exact .inl ⟨by simp_all,_,β,ρ,V,z.now _ _,g,f⟩
      ·rename_i e;exact .inr ⟨by simp_all,_,β,ρ,V,z.now _ _,g,f⟩
     |false=>
      have f:=u.2 (by rw[J,G];rfl);split at f;·rename_i e;exact .inr ⟨by simp_all,_,β,ρ,V,z.now _ _,g,f⟩
      ·rename_i e;exact .inl ⟨by simp_all,_,β,ρ,V,z.now _ _,g,f⟩
    ·exact u.elim
   ·exact u.elim
end
section
variable{P:Program}{R:Ending->Mem->Prop}{O V0:Mem}{w0:World}{L:List (List Value->Mem->Prop)}{ρ0:List Value}{fs:List Nat}{H:BV}
variable{all:Array Oper}{ms:List Nat}{k:St->Tr}{rest:List Nat}{fl:List (Nat×Bool)}{st:St}{listed:Array Bool}{a as:Act}{w:World}{pend:List Nat}{bo:Nat->Nat}
theorem isFloat_dst{i:Nat}{o:Oper}(h:Cx all i=true)(g:all[i]?=some o):∃d,o.dst=some d:=by
 simp_all[Cx,zC,yB]
theorem HT{N d:Nat}{o:Oper}(h:DA N o.dst=true)(g:o.dst=some d):d<N:=by
 grind[DA]
theorem Inv.float(y:E2 P all ms){r:Nat}{B:List Nat}(h:Inv true P R V0 w0 L ρ0 fs H all ms k (r::B) fl st listed a w as pend O bo)(S:Cx all r=true):
  ∃G st' Z,Inv true P R V0 w0 L ρ0 fs H all ms k B G st' listed a w Z (r::pend) O bo:=by
 obtain⟨hnr,T⟩:=yU.1 h.nd;obtain⟨_,hc2,U⟩:=HS h.chain;have hrl:listed.getD r true=false:=by
  rcases h.ru r zb with C|C;·exact C
  grind[Nb]
 have I:=h.bound r zb;obtain⟨o,q⟩:∃o,all[r]?=some o:=⟨_,yT I⟩;obtain⟨d,D⟩:=isFloat_dst S q;have Y:∀W,o.dst=some W->W∉o.looksAt all:=λW l hm=>(y.look r o r o W q hm (.inl S) q l).2 rfl;obtain⟨n0,M⟩:=h.goes;obtain⟨m,hg,_⟩:=IU q M;clear M;have F:∀(b:Bool)(v:Value)(st':St),d<H.N->Gn all fl o.dst=true->yO o (yielded all as.tmps)=b->
   (b=true->∀w',CK w w'->(execOp as.eval o).run P w'=.ok (.value v) w')->(b=false->v=undef)->
   AM P R O V0 w0 H.N L ρ0 (as.put o.dst v).tmps w st' (DM P fs H all ms true m B ((r,b)::fl) st' k)->
   ∃G st' Z,Inv true P R V0 w0 L ρ0 fs H all ms k B G st' listed a w Z (r::pend) O bo:=by
  intro b v st' hdlt hap hw C h2 hG;have J:d<as.tmps.size:=by
   obtain⟨β,ρ,V,X,g,_⟩:=hG;have h5:as.tmps.size=H.N:=by have:=g.size;rwa [E1]at this
   grind
  have hPr:Fl P all r b (as.put o.dst v) w:=by
   refine⟨o,d,q,D,by rw[E1];exact J,by grind[wanted_put],λhb w' e=>?_,λhb=>?_⟩;·rw[execOp_put o (noSel y.sel q) as o.dst v Y,C hb w' e,D,FO J]
   grind[FO]
  refine⟨(r,b)::fl,st',as.put o.dst v,
   {lsize:=h.lsize,closed:=h.closed,chain:=U,nd:=T,bound:=λj f=>h.bound j (za _ f),unl:=λj f hl=>?_,pu:=λj f=>?_,ru:=λj f=>h.ru j (za _ f)
    boi:=λi hi j f=>h.boi i (za _ hi) j (za _ f),fsize:=by rw[E1];exact h.fsize,fdef:=by rw[Ep];exact h.fdef,fill:=λs hs=>?_,goes:=⟨_,hG⟩}⟩
  ·rcases h.unl j f hl with h3|h3;·simp_all
   grind
  ·rcases yD.1 f with rfl|f;·simp_all
   ·obtain⟨E,K,g3,g4,b',g5,g6⟩:=h.pu j f;refine⟨E,K,λhm=>g3 (za _ hm),λr' hr'=>g4 r' (za _ hr'),b',za _ g5,g6.put y.sel λo' A W l=>?_⟩;refine⟨IS hap g5 o' A W l,λe=>?_⟩;have:=y.dsts j r o' o W A q e l;simp_all
  ·have hne:o.dst≠some s:=hs r o (.inl zb) q;rw[E0 hne];refine h.fill s λj o' f A=>?_;grind
 rcases L0 hg with⟨hw,st',hy⟩|⟨hw,st',hn⟩
 ·unfold HH at hy;rw[if_pos S]at hy;obtain⟨β,ρ,V,X,g,u⟩:=hy;split at u;case isFalse=>exact u.elim
  rename_i z;simp only[zC]at z;split at u
  ·rename_i ns t hpu;obtain⟨E,K⟩:=Kd u β;exact F true (t.ev ρ β) _ (HT z.1 D) z.2 hw (λ_ w' e=>J8 (g.ext e) hpu E) (λh=>by cases h) ⟨β,ρ,V,X.putO _ _,g.putO z.1 t rfl,K⟩
  ·split at u
   ·rename_i ty x hop;obtain⟨v,st2,E,K⟩:=exLoad_run hop z.1 ⟨β,ρ,V,X,g,u⟩;grind[HT]
   ·exact u.elim
 ·unfold drawNo at hn;obtain⟨β,ρ,V,X,g,u⟩:=hn;split at u;case isFalse=>exact u.elim
  rename_i z;simp only[zC]at z;exact F false undef _ (HT z.1 D) z.2 hw (λh=>by cases h) (λ_=>rfl) ⟨β,ρ,V,X.putO _ _,g.putO z.1 .und rfl,u⟩
theorem Inv.commit(y:E2 P all ms){r:Nat}{E:List Nat}(h:Inv true P R V0 w0 L ρ0 fs H all ms k (r::E) fl st listed a w as pend O bo)(hr:Cx all r=false)(hl:listed.getD r true=true):
  ∃st' K O',Inv true P R V0 w0 L ρ0 fs H all ms k E fl st' listed a w K pend O' bo:=by
 obtain⟨hnr,S⟩:=yU.1 h.nd;obtain⟨_,hc2,U⟩:=HS h.chain;obtain⟨hal,o,d,e,z,ho,hd,x,hz,hO,hv⟩:Di all r=true/\Orph P all O r (bo r) a:=by
  rcases h.ru r zb with Z|Z;·simp_all
  ·exact Z
 obtain⟨n0,W⟩:=h.goes;obtain⟨m,Y,_⟩:=IU ho W;clear W;have u:o.guard=none:=by
  simp_all[Di,zC]
 unfold guardD at Y;rw[u]at Y;simp only at Y;unfold HH at Y;rw[if_neg (by rw[hr];simp),if_pos hal]at Y;obtain⟨β,ρ,V,hp,A,g⟩:=Y;split at g;case isFalse=>exact g.elim
 rename_i hap;unfold exOp at g;split at g;case isFalse=>exact g.elim
 rename_i I;have hpu:Cw P st o.op=none:=by rw[x];rfl
 rw[hpu]at g;simp only[x]at g;obtain⟨cs,M⟩:=yB.1 (y.allocs r o e ho x);rw[M]at g;simp only at g;obtain⟨z',F,hzc⟩:=IL (ρ:=ρ) (β:=β) M;rw[hz]at F;cases F;have C:((T.ofList cs).evs ρ β).toArray=z.cells:=by rw[Cy,<-hzc,Array.toArray_toList]
 unfold GS at g;split at g;case isFalse=>exact g.elim
 rename_i l;simp only[zC]at l;have hr2:=A.adopt l.1 l.2 (ty:=e) (b:=bo r) (by simp_all);have hx:Value.pointer (some ⟨bo r,0,none⟩)=(T.box st.nb 0).ev ρ (upd β st.nb (bo r)):=by simp[T.ev,upd]
 have q:=hr2.putO I (T.box st.nb 0) hx;have v:Ci ρ0 L ρ (({st with boxes:=(st.nb,T.ofList cs,e)::st.boxes,nb:=st.nb+1}:St).putO o.dst (T.box st.nb 0)):=Ci.putO (st:={st with boxes:=(st.nb,T.ofList cs,e)::st.boxes,nb:=st.nb+1}) ⟨hp.1,hp.2⟩ _ _;simp only[hd]at g q v;have hdsz:d<as.tmps.size:=by rw[A.size];exact HT I hd
 obtain⟨st',hG⟩:∃st',AM P R (λc=>if c=bo r then none else O c) V0 w0 H.N L ρ0 (as.put (some d) (.pointer (some ⟨bo r,0,none⟩))).tmps w st' (DM P fs H all ms true m E fl st' k):=by
  split at g;·exact HO _ _ _ _ ⟨_,_,_,v,q,g⟩
  ·exact⟨_,_,_,_,v,q,g⟩
 refine⟨st',as.put (some d) (.pointer (some ⟨bo r,0,none⟩)),_,
  {lsize:=h.lsize,closed:=h.closed,chain:=U,nd:=S,bound:=λj f=>h.bound j (za _ f),unl:=λj f hl'=>?_,pu:=λj f=>?_,ru:=λj f=>?_
   boi:=λi hi j f=>h.boi i (za _ hi) j (za _ f),fsize:=by rw[E1];exact h.fsize,fdef:=by rw[Ep];exact h.fdef,fill:=λs hs=>?_,goes:=⟨_,hG⟩}⟩
 ·rcases h.unl j f hl' with h3|h3;·exact .inl h3
  grind
 ·obtain⟨g1,g2,g3,g4,b',g5,g6⟩:=h.pu j f;refine⟨g1,g2,λhm=>g3 (za _ hm),λr' hr'=>g4 r' (za _ hr'),b',g5,g6.put y.sel λX J D G=>?_⟩;rw[<-hd]at G;refine⟨IS hap g5 X J D G,λe=>?_⟩;have:=y.dsts j r X o D J ho e G;simp_all
 ·rcases h.ru j (za _ f)with Z|⟨Z,X,D,e',z',k1,k2,k3,k4,k5,k6⟩;·exact .inl Z
  ·by_cases B:listed.getD j true=false;·exact .inl B
   ·refine .inr ⟨Z,X,D,e',z',k1,k2,k3,k4,?_,k6⟩;have hne:bo j≠bo r:=λe=>by
     have:=h.boi j (za _ f) r zb (by simpa using B) hl e;simp_all
    simp_all
 ·by_cases hsd:s=d;·grind[FO]
  ·rw[E0 (by grind)];refine h.fill s λj X f J=>?_;grind
theorem Inv.advance(f:E2 P all ms):∀(rest:List Nat){fl:List (Nat×Bool)}{st:St}{as:Act}{pend:List Nat}{O:Mem},Inv true P R V0 w0 L ρ0 fs H all ms k rest fl st listed a w as pend O bo->
  ∃g x st' u z q,Inv true P R V0 w0 L ρ0 fs H all ms k g x st' listed a w u z q bo/\(∀r y,g=r::y->Cx all r=false/\listed.getD r true=false)
 |[],fl,st,as,pend,O,h=>⟨[],fl,st,as,pend,O,h,λr y e=>by cases e⟩
 |r::y,fl,st,as,pend,O,h=>by
  by_cases v:Cx all r=true
  ·obtain⟨x,st',u,m⟩:=h.float f v;exact Inv.advance f y m
  ·have l:Cx all r=false:=by simpa using v
   by_cases J:listed.getD r true=true
   ·obtain⟨st',u,q,m⟩:=h.commit f l J;exact Inv.advance f y m
   ·exact⟨r::y,fl,st,as,pend,O,h,λZ G e=>by cases e;exact⟨l,by simpa using J⟩⟩
end
theorem L1{all:Array Oper}(z:∀o,o∈all.toList->EW o.op=false){i:Nat}{o:Oper}(y:all[i]?=some o){a as:Act}
  (h:∀t∈o.looksAt all,as.tmps.getD t undef=a.tmps.getD t undef):
  execOp a.eval o=execOp as.eval o/\yO o (yielded all a.tmps)=yO o (yielded all as.tmps):=by
 constructor
 ·refine execOp_congr o (noSel z y) λx l=>?_;cases x with
  |tmp t=>
   have:=h t (List.mem_append_left _ (yW.2 ⟨.tmp t,by simpa using l,rfl⟩));grind[Act.eval,undef]
  |_=>rfl
 ·unfold yO;cases m:o.guard with
  |none=>rfl
  |some q=>
   obtain⟨g,f⟩:=q;simp only;cases u:(all[g]?).bind (·.dst)with
   |none=>simp[yielded,u]
   |some d=>
    have:=h d (List.mem_append_right _ (by simp[m,u]));grind[Kg]
theorem nodup_sub:∀{l m:List Nat},l.Nodup->(∀x∈l,x∈m)->l.length<=m.length
 |[],m,_,_=>Nat.zero_le _
 |x::l,m,g,h=>by
  obtain⟨u,f⟩:=yU.1 g;have hm:=h x zb;have:=nodup_sub (m:=m.erase x) f λy z=>by
   grind
  grind
theorem FP{l:List Nat}{i x:Nat}(h:i∉l)(g:x∈l):i≠x:=λe=>h (e▸g)
theorem set_same{l:Array Bool}{i:Nat}(h:i<l.size)(d:Bool):(l.setIfInBounds i true).getD i d=true:=by
 simp_all
theorem Dv{l:Array Bool}{i j:Nat}(h:i≠j)(d:Bool):(l.setIfInBounds i true).getD j d=l.getD j d:=by
 simp_all
theorem getD_any{l:Array Bool}{j:Nat}(h:l.getD j true=false):l.getD j false=false:=by
 grind
theorem ready_mem{all:Array Oper}{listed:Array Bool}{i:Nat}(h:i∈yZ .any all listed):
  i<all.size/\listed.getD i true=false/\∃o,all[i]?=some o/\∀e∈o.after,yR .any e=true->listed.getD e.on false=true:=by
 simp only[yZ,yz,yY,zC,zU]at h;grind[yT,yX]
theorem ready_ne{all:Array Oper}{listed:Array Bool}(g:IP all)(l:listed.size=all.size):∀j,j<all.size->listed.getD j true=false->yZ .any all listed≠[]:=by
 intro j;induction j using yS with
 |_ j m=>
  intro f q;have u:=yT f;by_cases h:∃e∈all[j].after,yR .any e=true/\listed.getD e.on false=false
  ·obtain⟨e,z,y,v⟩:=h;have x:=g j _ u e z y;grind
  ·intro J;have:j∈yZ .any all listed:=by
    grind[yZ,yR,absurd]
   simp_all
theorem wp_transfer{P:Program}{o:Oper}{a as:Act}{w:World}{K:Act->World->Prop}{Q:Exit->Act->World->Prop}(z:execOp a.eval o=execOp as.eval o)(J:∀d,o.dst=some d->d<as.tmps.size)
  (h:o.wp P as w (λy w'=>∃v,y=as.put o.dst v/\K (a.put o.dst v) w') (λe _ w'=>match e with|.panic ch=>Q (.panic ch) a w'|_=>False)) (l:LetsOut (λ(_:Exit) (_:Act) (_:World)=>False)->LetsOut Q):o.wp P a w K Q:=by
 have m:∀v u w',as.put o.dst v=as.put o.dst u->K (a.put o.dst u) w'->K (a.put o.dst v) w':=by
  intro v u w' e hK;cases g:o.dst with
  |none=>rw[g]at hK;exact hK
  |some d=>
   have q:=J d g;rw[g]at e hK;have:v=u:=by
    have Z:=congrArg (λx:Act=>x.tmps.getD d undef) e;grind[FO]
   simp_all
 unfold Oper.wp at*
 rw[z];generalize(execOp as.eval o).run P w=r at*
 cases r with
 |ok n w'=>
  cases n with
  |value v=>grind[yy]
  |skip=>grind[yy,undef]
  |defer d=>
   simp only[yy]at h⊢;obtain⟨u,q,Y⟩:=h;have e:=congrArg (λx:Act=>x.defers) q;simp only[Ep]at e;simp_all
  |enter f args=>
   simp only[yy]at h⊢;refine Calls.mono h λe G z=>?_;cases e with
   |returned v=>grind
   |panicked c=>exact z
   |outgrown=>exact l (by obtain⟨W,w',h⟩:=z;exact h.elim)
  |row nm args=>
   grind[yy]
  |_=>simp only[yy]at h⊢
 |halt x w'=>cases x<;>simp only[yy]at h⊢<;>exact h
section
variable{P:Program}{R:Ending->Mem->Prop}{O V0:Mem}{w0:World}{L:List (List Value->Mem->Prop)}{ρ0:List Value}{fs:List Nat}{H:BV}
variable{all:Array Oper}{k:St->Tr}{rest:List Nat}{fl:List (Nat×Bool)}{st:St}{listed:Array Bool}{a as:Act}{w:World}{pend:List Nat}{bo:Nat->Nat}
theorem Kh(x:listed.size=all.size)(h:HR all listed){i:Nat}{o:Oper}(l:all[i]?=some o)(hi:∀e∈o.after,yR .any e=true->listed.getD e.on false=true):
  HR all (listed.setIfInBounds i true):=by
 have up:∀j,listed.getD j false=true->(listed.setIfInBounds i true).getD j false=true:=by
  intro j g;by_cases e:i=j;·subst e;exact set_same (by grind) _
  simp_all
 intro j oj g f e u z;by_cases y:i=j;·simp_all
 ·rw[Dv y]at f;exact up _ (h j oj g f e u z)
theorem L3{c:Bool}{ms:List Nat}(f:E2 P all ms)(h:Inv c P R V0 w0 L ρ0 fs H all ms k rest fl st listed a w as pend O bo){i:Nat}{o:Oper}(x:all[i]?=some o)
  (hm:∀j,(Cs ms i).testBit j=true->listed.getD j false=true) (y:∀j∈rest,j≠i->(Cs ms i).testBit j=false):∀t∈o.looksAt all,as.tmps.getD t undef=a.tmps.getD t undef:=by
 intro t l;refine h.fill t λj oj u z m=>?_;rcases u with u|⟨u,J⟩
 ·obtain⟨v,q,_⟩:=h.pu j u;have:=hm j (f.look i o j oj t x l (.inl q) z m).1;grind
 ·rcases h.ru j u with g|⟨g,_⟩;·simp_all
  ·obtain⟨v,q⟩:=f.look i o j oj t x l (.inr g) z m;simp_all
theorem Orph.put{ms:List Nat}(g:E2 P all ms){i j b:Nat}{o:Oper}(l:all[i]?=some o)(f:i≠j)(h:Orph P all O j b a)(v:Value):Orph P all O j b (a.put o.dst v):=by
 obtain⟨u,z,m,q,y,x,J,G,Z,Y⟩:=h;exact⟨u,z,m,q,y,x,J,G,Z,by rw[E0 λe=>f (g.dsts i j o u z l y e x)];exact Y⟩
theorem Inv.carry{ms:List Nat}(v:E2 P all ms)(h:Inv true P R V0 w0 L ρ0 fs H all ms k rest fl st listed a w as pend O bo){i:Nat}(hi:i∈pend){o:Oper}(Z:all[i]?=some o){d:Nat}(I:o.dst=some d)(Y:d<a.tmps.size)
  (J:∀e∈o.after,yR .any e=true->listed.getD e.on false=true):
  Inv true P R V0 w0 L ρ0 fs H all ms k rest fl st (listed.setIfInBounds i true) (a.put o.dst (as.tmps.getD d undef)) w as (pend.filter (·≠i)) O bo:=by
 have f:i∉rest:=(h.pu i hi).2.2.1;have M:i<listed.size:=by rw[h.lsize];grind
 exact
 {lsize:=by rw[yx];exact h.lsize
  closed:=Kh h.lsize h.closed Z J
  chain:=h.chain,nd:=h.nd,bound:=h.bound
  unl:=λj g m=>by
   by_cases e:i=j;·simp_all
   ·rw[Dv e]at m;rcases h.unl j g m with q|q;·grind
    ·exact .inr q
  pu:=λj g=>by
   obtain⟨q,F⟩:=yz.1 g;have u:i≠j:=λe=>by simp[e]at F
   rw[Dv u];exact h.pu j q
  ru:=λj g=>by
   have u:i≠j:=FP f g;rw[Dv u];exact(h.ru j g).imp id λ⟨X,B⟩=>⟨X,B.put v Z u _⟩
  boi:=λx W y A z l=>by
   rw[Dv (FP f W)]at z;rw[Dv (FP f A)]at l;exact h.boi x W y A z l
  fsize:=by rw[E1];exact h.fsize
  fdef:=by rw[Ep];exact h.fdef
  fill:=λs C=>by
   by_cases e:d=s;·grind[FO]
   ·rw[I,E0 (by simpa using e)];refine h.fill s λj D g G=>?_;rcases g with g|⟨g,m⟩;·grind
    ·exact C j D (.inr ⟨g,by rw[Dv (FP f g)];exact m⟩) G
  goes:=h.goes}
theorem Inv.make{ms:List Nat}(W:E2 P all ms)(h:Inv true P R V0 w0 L ρ0 fs H all ms k rest fl st listed a w as pend O bo){i:Nat}(hi:i∈rest)(A:i∉pend){o:Oper}(ho:all[i]?=some o){d:Nat}(hd:o.dst=some d)(J:d<a.tmps.size)
  (I:Di all i=true) {e:TypeId} (hop:o.op=.alloc e) {z:Value} (hz:Eo P e=some z)
  (M:∀e∈o.after,yR .any e=true->listed.getD e.on false=true):
  Inv true P R V0 w0 L ρ0 fs H all ms k rest fl st (listed.setIfInBounds i true) (a.put o.dst (.pointer (some ⟨w.heap.size,0,none⟩))) (w.alloc (.cells z.cells e (0,0))) as pend (O.set w.heap.size (.cells z.cells e (0,0))) (upd bo i w.heap.size):=by
 have F:i<listed.size:=by rw[h.lsize];grind
 obtain⟨T,β,ρ,V,hp,D,U⟩:=h.goes;have hO:∀b o,O b=some o->b<w.heap.size:=λb o hb=>(yA.1 (D.hid b o hb).1).1;have f:∀j∈rest,j≠i->(listed.setIfInBounds i true).getD j true=true->Di all j=true/\Orph P all O j (bo j) a:=by
  intro j u l m;rw[Dv (λe=>l e.symm)]at m;rcases h.ru j u with g|g;·simp_all
  ·exact g
 exact
 {lsize:=by rw[yx];exact h.lsize
  closed:=Kh h.lsize h.closed ho M
  chain:=h.chain,nd:=h.nd,bound:=h.bound
  unl:=λj u m=>by
   by_cases e:i=j;·simp_all
   ·rw[Dv e]at m;exact h.unl j u m
  pu:=λj u=>by
   have l:i≠j:=FP A u;rw[Dv l];obtain⟨X,g2,g3,g4,b,g5,g6⟩:=h.pu j u;exact⟨X,g2,g3,g4,b,g5,g6.ext (CK.alloc _ _)⟩
  ru:=λj u=>by
   by_cases G:i=j
   ·subst G;exact .inr ⟨I,o,d,e,z,ho,hd,hop,hz,by simp only[upd,if_true,Mem.set_same],by simp only[upd,if_true];rw[hd,FO J]⟩
   ·cases m:(listed.setIfInBounds i true).getD j true with
    |false=>exact .inl rfl
    |true=>
     obtain⟨X,g2⟩:=f j u (λe=>G e.symm) m;obtain⟨o',d',e'',z',k1,k2,k3,k4,k5,k6⟩:=g2.put W ho G (.pointer (some ⟨w.heap.size,0,none⟩));have B:¬j=i:=λe=>G e.symm;refine .inr ⟨X,o',d',e'',z',k1,k2,k3,k4,?_,?_⟩
     ·simp only[upd,if_neg B];grind[Mem.set_ne,Nat.ne_of_lt]
     grind[upd]
  boi:=λx E y K q v Z=>by
   by_cases ex:x=i<;>by_cases Y:y=i;·rw[ex,Y]
   ·subst ex;obtain⟨_,_,_,_,_,_,_,_,_,k5,_⟩:=f y K Y v;grind[upd]
   ·subst Y;obtain⟨_,_,_,_,_,_,_,_,_,k5,_⟩:=f x E ex q;grind[upd,ex]
   ·simp only[upd,if_neg ex,if_neg Y]at Z;rw[Dv (λe=>ex e.symm)]at q;rw[Dv (λe=>Y e.symm)]at v;exact h.boi x E y K q v Z
  fsize:=by rw[E1];exact h.fsize
  fdef:=by rw[Ep];exact h.fdef
  fill:=λs S=>by
   rw[E0 (S i o (.inr ⟨hi,set_same F _⟩) ho)];refine h.fill s λj o' u C=>?_;rcases u with u|⟨u,m⟩;·grind
   ·refine S j o' (.inr ⟨u,?_⟩) C;by_cases G:i=j;·simp_all
    simp_all
  goes:=⟨T,β,ρ,V,hp,D.orphan _,U⟩}
theorem Inv.lock{c:Bool}{ms:List Nat}(J:E2 P all ms){r:Nat}{G:List Nat}(h:Inv c P R V0 w0 L ρ0 fs H all ms k (r::G) fl st listed a w as pend O bo){o:Oper}(F:all[r]?=some o)(D:listed.getD r true=false)
  (Z:∀d,o.dst=some d->d<a.tmps.size) (Y:∀e∈o.after,yR .any e=true->listed.getD e.on false=true) {v:Value} {w':World} {st':St} {u:List (Nat×Bool)} {n:Nat}
  (U:∀j∈pend,∃b,(j,b)∈u/\Fl P all j b (as.put o.dst v) w') (E:AM P R O V0 w0 H.N L ρ0 (as.put o.dst v).tmps w' st' (DM P fs H all ms true n G u st' k)):
  Inv true P R V0 w0 L ρ0 fs H all ms k G u st' (listed.setIfInBounds r true) (a.put o.dst v) w' (as.put o.dst v) pend O bo:=by
 obtain⟨z,W⟩:=yU.1 h.nd;obtain⟨_,_,A⟩:=HS h.chain;have K:r<listed.size:=by grind
 exact
 {lsize:=by rw[yx];exact h.lsize
  closed:=Kh h.lsize h.closed F Y
  chain:=A,nd:=W,bound:=λj g=>h.bound j (za _ g)
  unl:=λj g I=>by
   by_cases e:r=j;·simp_all
   ·rw[Dv e]at I;rcases h.unl j g I with l|l;·exact .inl l
    grind
  pu:=λj g=>by
   obtain⟨X,g2,g3,g4,_⟩:=h.pu j g;have f:r≠j:=λe=>g3 (e▸zb);simp_all
  ru:=λj g=>by
   have f:r≠j:=FP z g;rw[Dv f];exact(h.ru j (za _ g)).imp id λ⟨X,g2⟩=>⟨X,g2.put J F f _⟩
  boi:=λx B y C m q=>by
   rw[Dv (FP z B)]at m;rw[Dv (FP z C)]at q;exact h.boi x (za _ B) y (za _ C) m q
  fsize:=by rw[E1,E1];exact h.fsize
  fdef:=by rw[Ep,Ep];exact h.fdef
  fill:=λs S=>by
   by_cases e:o.dst=some s
   ·have l:=Z s e;rw[e,FO l,FO (by rw[h.fsize];exact l)]
   ·rw[E0 e,E0 e];refine h.fill s λj T g M=>?_;rcases g with g|⟨g,I⟩;·grind
    ·rcases yD.1 g with rfl|g;·simp_all
     ·have f:r≠j:=λe'=>by simp_all
      exact S j T (.inr ⟨g,by simp_all⟩) M
  goes:=⟨n,E⟩}
theorem Inv.reorder{ms:List Nat}(h:Inv true P R V0 w0 L ρ0 fs H all ms k rest fl st listed a w as pend O bo){g:List Nat}(z:HG g rest=true)(q:EX all ms g=true){n:Nat}
  (v:AM P R O V0 w0 H.N L ρ0 as.tmps w st (DM P fs H all ms false n g fl st k)):Inv false P R V0 w0 L ρ0 fs H all ms k g fl st listed a w as pend O bo:=by
 obtain⟨Y,l,u⟩:=sameSet_spec z;have m:∀x∈rest,x∈g:=λx W=>by
  by_cases hm:x∈g;·exact hm
  ·exfalso;have J:(x::g).length<=rest.length:=nodup_sub (yU.2 ⟨hm,l⟩) λy A=>by
    grind
   grind
 exact
 {lsize:=h.lsize,closed:=h.closed,chain:=q,nd:=l,bound:=λj f=>h.bound j (u j f),unl:=λj f G=>(h.unl j f G).imp id (m j)
  pu:=λj f=>by
   obtain⟨I,g2,g3,g4,M⟩:=h.pu j f;grind
  ru:=λj f=>h.ru j (u j f),boi:=λi Z j f=>h.boi i (u i Z) j (u j f),fsize:=h.fsize,fdef:=h.fdef
  fill:=λs z=>h.fill s λj o f=>z j o (f.imp id λx=>⟨m j x.1,x.2⟩),goes:=⟨n,v⟩}
end
section
variable{P:Program}{R:Ending->Mem->Prop}{V0:Mem}{w0:World}{L:List (List Value->Mem->Prop)}{ρ0:List Value}{fs:List Nat}{H:BV}
variable{all:Array Oper}{k:St->Tr}{Q:Exit->Act->World->Prop}
theorem Ki:∀(n:Nat)(l:List Nat),l.Nodup->(∀x∈l,x<n)->l.length<=n
 |0,l,_,h=>by
  cases l with
  |nil=>exact yV _
  |cons x l=>exact absurd (h x zb) (Nat.not_lt_zero _)
 |n+1,l,f,h=>by
  by_cases hm:n∈l
  ·have u:=Ki n (l.erase n) (f.erase n) λx g=>by
    obtain⟨m,z⟩:=f.mem_erase_iff.1 g;have:=h x z;omega
   rw[List.length_erase_of_mem hm]at u;omega
  ·have u:=Ki n l f λx g=>by
    have:=h x g;have y:x≠n:=λe=>hm (e▸g);omega
   omega
theorem nodup_all{l:List Nat}{n:Nat}(g:l.Nodup)(h:∀x∈l,x<n)(f:l.length=n){j:Nat}(u:j<n):j∈l:=by
 by_cases hm:j∈l;·exact hm
 ·have:=Ki n (j::l) (yU.2 ⟨hm,g⟩) λx z=>by
   grind
  grind
theorem Nc{listed:Array Bool}(g:IP all)(f:HR all listed){i:Nat}{o:Oper}(u:all[i]?=some o)(h:∀e∈o.after,yR .any e=true->listed.getD e.on false=true):
  ∀j,(Cs (BP all.toList []) i).testBit j=true->listed.getD j false=true:=mask_listed g f i o u h
theorem any_sound(U:DN P fs)(u:E2 P all (BP all.toList []))(hdst:∀(i:Nat)(o:Oper),all[i]?=some o->DA H.N o.dst=true){a0:Act}(hQ:EZ R V0 w0 a0.defers Q)(hlo:LetsOut (λ(_:Exit)(_:Act)(_:World)=>False)->LetsOut Q)
  (hk:∀st' a' w',a'.defers=a0.defers->AM P R C8 V0 w0 H.N L ρ0 a'.tmps w' st' (k st')->Q .normal a' w'):
  ∀(y:Nat)(rem:List Nat)(rest:List Nat)(fl:List (Nat×Bool))(st:St)(listed:Array Bool)(a:Act)(w:World)(as:Act)(pend:List Nat)(O:Mem)(bo:Nat->Nat),
   Inv true P R V0 w0 L ρ0 fs H all (BP all.toList []) k rest fl st listed a w as pend O bo->as.defers=a0.defers->rem.Nodup->rem.length=y->(∀j,j∈rem↔(j<all.size/\listed.getD j true=false))->
   wpAny P .any all Q y listed a w:=by
 intro y;induction y with
 |zero=>
  intro rem rest fl st listed a w as pend O bo h f hnd F A;have hnil:rem=[]:=List.length_eq_zero_iff.1 F;subst hnil;obtain⟨X,fl',st',as',B,O',h',x⟩:=h.advance u;have hnone:∀j,j<all.size->listed.getD j true=false->False:=λj h1 h2=>by simp_all
  have hr:X=[]:=by
   cases X with
   |nil=>rfl
   |cons r T=>exact(hnone r (h'.bound r zb) (x r T rfl).2).elim
  subst hr;have hp:B=[]:=by
   cases B with
   |nil=>rfl
   |cons j T=>
    obtain⟨g1,_,_,_,b,_,o,d,g2,_⟩:=h'.pu j zb;grind
  subst hp;refine⟨?_,?_⟩
  ·cases hrd:yZ .any all listed with
   |nil=>rfl
   |cons i T=>
    obtain⟨g1,g2,_⟩:=ready_mem (all:=all) (listed:=listed) (i:=i) (by simp_all);simp_all
  ·have htm:as'.tmps=a.tmps:=by
    refine Array.ext h'.fsize λi h1 h2=>?_;have:=h'.fill i λj o M=>by simp_all
    simp_all
   obtain⟨n0,β,ρ,V,hp,hr,C⟩:=h'.goes;have C:D P R (k (st'.compact H.keep)) L ρ V:=by cases n0<;>exact C
   refine hk (st'.compact H.keep) a w (by rw[<-h.fdef];exact f) ⟨β,ρ,V,hp.compact _,?_,C⟩;rw[<-htm];exact(hr.compact _).less λb o hb=>by cases hb
 |succ y ih=>
  intro rem rest0 fl0 st0 listed a w as0 pend0 O0 bo h0 hdef0 hnd F A;obtain⟨rest,fl,st,as,pend,O,h,x⟩:=h0.advance u;have f:as.defers=a0.defers:=by rw[h.fdef,<-h0.fdef];exact hdef0
  have next:∀{i:Nat}{rest:List Nat}{fl:List (Nat×Bool)}{st:St}{a:Act}{w:World}{as:Act}{pend:List Nat}{O:Mem}{bo:Nat->Nat},i<all.size->listed.getD i true=false->
    Inv true P R V0 w0 L ρ0 fs H all (BP all.toList []) k rest fl st (listed.setIfInBounds i true) a w as pend O bo->as.defers=a0.defers->wpAny P .any all Q y (listed.setIfInBounds i true) a w:=by
   intro i rest fl st a w as pend O bo hi J hI hd;have him:i∈rem:=(A i).2 ⟨hi,J⟩;refine ih (rem.erase i) rest fl st _ a w as pend O bo hI hd (hnd.erase i) (by simp_all) λj=>?_;rw[hnd.mem_erase_iff,A j];by_cases e:i=j;·simp_all
   ·rw[Dv e];grind
  refine⟨λhn=>?_,λi hi=>?_⟩
  ·obtain⟨j,M⟩:∃j,j∈rem:=by
    cases rem with
    |nil=>cases F
    |cons j _=>grind
   obtain⟨h1,h2⟩:=(A j).1 M;exact absurd hn (ready_ne u.edges h.lsize j h1 h2)
  ·obtain⟨Z,J,o,Y,E⟩:=ready_mem hi;have G:=Nc u.edges h.closed Y E;have K:as.tmps.size=H.N:=by obtain⟨_,β,ρ,V,_,hr,_⟩:=h.goes;exact hr.size
   have S:∀d,o.dst=some d->d<a.tmps.size:=λd hd=>by
    rw[<-h.fsize,K];exact HT (hdst i o Y) hd
   unfold wpOp;simp only[Y];by_cases W:i∈pend
   ·-- it floats and stands out
    obtain⟨g1,g2,g3,g4,b,g5,o',d,k1,k2,k3,k4,k5,k6⟩:=h.pu i W;rw[Y]at k1;cases k1;obtain⟨e1,e2⟩:=L1 u.sel Y (L3 u h Y G λj M _=>g4 j M);rw[e2,k4];have hI:=h.carry u W Y k2 (S d k2) E;cases b with
    |true=>
     rw[if_pos rfl];refine .inl ?_;unfold Oper.wp;rw[e1,k5 rfl w (CK.refl w)];exact next Z J hI f
    |false=>
     grind
   ·have hir:i∈rest:=(h.unl i Z J).resolve_left W;by_cases hal:Di all i=true
    ·-- a block is made
     have I:=hal;unfold Di at I;rw[Y]at I;simp only[zC]at I;obtain⟨⟨⟨q1,q2⟩,q3⟩,q4⟩:=I;obtain⟨d,hd⟩:=yB.1 q4;cases hop:o.op with
     |alloc e=>
      obtain⟨cs,hcs⟩:=yB.1 (u.allocs i o e Y hop);obtain⟨z,hz,hzc⟩:=IL (ρ:=[]) (β:=id) hcs;have hI:=h.make u hir W Y hd (S d hd) hal hop hz E;have hg:o.guard=none:=by simpa using q2
      rw[show yO o (yielded all a.tmps)=true by simp[yO,hg],if_pos rfl];refine .inl ?_;have hrun:(execOp a.eval o).run P w=.ok (.value (.pointer (some ⟨w.heap.size,0,none⟩))) (w.alloc (.cells z.cells e (0,0))):=by
       unfold execOp;simp only[hop,Instr.alloc,IA hz,newVar,newRow,zK,run_newObj,zM,zL];rfl
      unfold Oper.wp;rw[hrun];exact next Z J hI f
     |_=>simp[hop]at q1
    ·-- both go on
     have go:∀{c:Bool}{T:List Nat}{fl:List (Nat×Bool)}{st:St}{as:Act}{pend:List Nat}{O:Mem}{bo:Nat->Nat},Inv c P R V0 w0 L ρ0 fs H all (BP all.toList []) k (i::T) fl st listed a w as pend O bo->i∉pend->as.defers=a0.defers->Cx all i=false->
       (if yO o (yielded all a.tmps)then o.wp P a w (wpAny P .any all Q y (listed.setIfInBounds i true)) Q∨(o.asks P a w/\LetsOut Q)else wpAny P .any all Q y (listed.setIfInBounds i true) (a.put o.dst undef) w):=by
      clear h f K W hir x;intro c T fl st as pend O bo h W f hrf;obtain⟨_,hc2,hc3⟩:=HS h.chain;have hnotin:∀j∈pend,(Cs (BP all.toList []) i).testBit j=false:=λj M=>by
       cases hb:(Cs (BP all.toList []) i).testBit j with
       |false=>rfl
       |true=>
        have:=G j hb;rw[getD_any (h.pu j M).1]at this;cases this
      obtain⟨e1,e2⟩:=L1 u.sel Y (L3 u h Y G λj M hne=>by
       simp_all)
      rw[e2];obtain⟨n0,hg0⟩:=h.goes;obtain⟨m,hg,_⟩:=IU Y hg0;have hneq:∀j∈pend,∀oj,all[j]?=some oj->∀d',o.dst=some d'->oj.dst≠some d':=λj M oj hoj d' hd' e=>by
       have:=u.dsts j i oj o d' hoj Y e hd';simp_all
      rcases L0 hg with⟨hw,st',hy⟩|⟨hw,st',hn⟩
      ·rw[hw,if_pos rfl];refine .inl ?_;unfold HH at hy;rw[if_neg (by rw[hrf];simp),if_neg hal]at hy;have hy':Gn all (Fi (BP all.toList []) i fl) o.dst=true/\AM P R O V0 w0 H.N L ρ0 as.tmps w st' (exOp P fs H st' o λst=>Gl P all (Fi (BP all.toList []) i fl) st (DM P fs H all (BP all.toList []) true m T (Fi (BP all.toList []) i fl) st k)):=by
        split at hy;·simp_all
        ·obtain⟨β,ρ,V,_,_,C⟩:=hy;exact C.elim
       obtain⟨hap,hy2⟩:=hy';refine wp_transfer e1 (λd hd=>by rw[h.fsize];exact S d hd) ?_ hlo;refine LQ U (λch a' w' _ hR=>hQ ch a w' (by rw[<-h.fdef];exact f) hR) hy2 λst2 as2 w2 ⟨v,hv⟩ hG=>⟨v,hv,?_⟩;subst hv;obtain⟨β,ρ,V,hp2,hr2,hD2⟩:=hG;obtain⟨hD3,hrec⟩:=IT hr2 hD2;refine next Z J (h.lock u Y J S E (λj M=>?_) ⟨β,ρ,V,hp2,hr2,hD3⟩) (by rw[Ep];exact f)
       obtain⟨_,_,_,_,b,g5,oj,d,k1,k2,k3,k4,k5,k6⟩:=h.pu j M;have hst:(j,b)∈Fi (BP all.toList []) i fl:=yz.2 ⟨g5,by simp_all⟩;refine⟨b,hst,oj,d,k1,k2,by rw[E1];exact k3,?_,λhb w' ew=>?_,λhb=>?_⟩;·grind[wanted_put,IS]
       ·grind
       grind[E0]
      ·rw[hw,if_neg (by simp)];unfold drawNo at hn;obtain⟨β,ρ,V,hp,hr,C⟩:=hn;split at C;case isFalse=>exact C.elim
       rename_i hc;simp only[zC]at hc;rw[hrf]at C;simp only[zN,if_false]at C;refine next Z J (h.lock u Y J S E (v:=undef) (λj M=>?_) ⟨β,ρ,V,hp.putO _ _,hr.putO hc.1 .und rfl,C⟩) (by rw[Ep];exact f)
       obtain⟨_,_,_,_,b,g5,g6⟩:=h.pu j M;have hst:(j,b)∈Fi (BP all.toList []) i fl:=yz.2 ⟨g5,by simp_all⟩;exact⟨b,hst,g6.put u.sel λoj hoj d' hd'=>⟨IS hc.2 g5 oj hoj d' hd',hneq j M oj hoj d' hd'⟩⟩
     cases rest with
     |nil=>cases hir
     |cons r T=>
      obtain⟨hrf,hrl⟩:=x r T rfl;rcases yD.1 hir with e|e;·grind
      ·obtain⟨hc1,hc2,hc3⟩:=HS h.chain;have hnr:(Cs (BP all.toList []) i).testBit r=false:=by
        grind
       rcases hc1 with hc1|hc1;·simp_all
       ·rcases hc1 i e with((q|q)|⟨hif,hall⟩)|⟨q,q1,q2,q3⟩;·simp_all
        ·grind
        ·obtain⟨or',hor⟩:∃or',all[r]?=some or':=⟨_,yT (h.bound r zb)⟩;obtain⟨n0,hg0⟩:=h.goes;obtain⟨m,_,hfork⟩:=IU hor hg0;have hmem:i∈altsOf all (BP all.toList []) r T:=by
          grind[altsOf]
         obtain⟨l,f1,f2,f3⟩:=hfork rfl i hmem;exact go (h.reorder f1 f2 f3) W f hif
        ·exfalso;have hql:=G q q2;rcases h.ru q (za _ q1)with g|⟨g,_⟩;·grind
         simp_all
theorem Rel.drawn{O V0:Mem}{w0:World}{N:Nat}{β:Nat->Nat}{st:St}{ρ:List Value}{V:Mem}{w:World}{tmps:Array Value}(h:Rel O V0 w0 N β st ρ V tmps w)(n:Nat):Rel O V0 w0 N β st ρ V tmps {w with drawn:=n}:=
 h.ext ⟨λ_ _ h=>h,yV _,rfl,rfl⟩
theorem Nf(g:DN P fs)(hm:P.follows .mixedOrders=true){id:Nat}{st:St}{a:Act}{w:World}(W:EZ R V0 w0 a.defers Q)(h:AM P R C8 V0 w0 H.N L ρ0 a.tmps w st (HI P fs H all st k))
  (z:LetsOut (λ(_:Exit) (_:Act) (_:World)=>False)->LetsOut Q)
  (A:∀st' y w',y.defers=a.defers->AM P R C8 V0 w0 H.N L ρ0 y.tmps w' st' (k st')->Q .normal y w'):(Code.region id all true).wp P Q a w:=by
 unfold HI at h;simp only at h;obtain⟨β,ρ,V,hp,I,l⟩:=h;split at l;case isFalse=>exact l.elim
 rename_i Z;simp only[zC,z6]at Z;obtain⟨m,q⟩:=Z;obtain⟨v,M,Y,J,F⟩:=LY m;have u:∀j d,j<all.size->(Array.replicate all.size false).getD j d=false:=λj d f=>by simp_all
 refine wp_region_any hm (any_sound g v (λi o X=>q o (by grind)) W z A all.size (List.range all.size) (GV all (BP all.toList []) all.size 0) [] st _ a _ a [] C8 (λx=>x) ?_ rfl List.nodup_range (by simp) λj=>?_)
 ·exact
  {lsize:=by simp
   closed:=λj oj f G=>by
    rw[u j _ (yA.1 f).1]at G;cases G
   chain:=F
   nd:=Y
   bound:=J
   unl:=λj f _=>.inr (nodup_all Y J M f)
   pu:=λj f=>by cases f
   ru:=λj f=>.inl (u j _ (J j f))
   boi:=λi B j f G=>by omega
   fsize:=rfl
   fdef:=rfl
   fill:=λs _=>rfl
   goes:=⟨_,β,ρ,V,hp,I.drawn _,l⟩}
 simp_all
end
def Ex.toExit:Ex->Exit
 |.normal=>.normal
 |.exit i=>.exit i
 |.ret=>.ret
theorem Kj(p:Nat->Prop)(h:∃n,p n):∃n,p n/\∀m,p m->n<=m:=by
 obtain⟨n,g⟩:=h;induction n using yS with
 |_ n f=>
  grind
open Classical in
theorem wp_loop_rel{P:Program}{c:Code}{Q:Exit->Act->World->Prop}{a:Act}{w:World}(Inv:Nat->Act->World->Prop)(u:∃n,Inv n a w)
  (round:∀n a w,Inv n a w->c.wp P (Exit.then (λg w'=>∃f,f<n/\Inv f g w') Q) a w):(Code.loop c).wp P Q a w:=by
 let m:Act->World->Nat:=λa w=>if h:∃n,Inv n a w then Classical.choose (Kj _ h)else 0
 have hm:∀a w (h:∃n,Inv n a w),Inv (m a w) a w/\∀k,Inv k a w->m a w<=k:=λa w h=>by
  grind
 refine wp_loop (λa w=>∃n,Inv n a w) m u λa w z=>?_;obtain⟨y,x⟩:=hm a w z;refine Code.wp_mono (λe g w' q=>?_) (round _ a w y);grind
section
variable{P:Program}{R:Ending->Mem->Prop}{O V0:Mem}{w0:World}{fs:List Nat}{H:BV}
theorem AM.weak{L:List (List Value->Mem->Prop)}{ρ0 f:List Value}{N:Nat}{tmps:Array Value}{w:World}{st:St}{t:Tr}(h:AM P R O V0 w0 N L f tmps w st t)(u:ρ0<+:f):AM P R O V0 w0 N L ρ0 tmps w st t:=by
 obtain⟨β,ρ,V,g,z,y⟩:=h;exact⟨β,ρ,V,⟨u.trans g.1,g.2⟩,z,y⟩
theorem ex_sound(G:DN P fs)(hm:P.follows .mixedOrders=true):∀(c:Code)(L:List (List Value->Mem->Prop))(ρ0:List Value)(st:St)(k:Ex->St->Tr)(a:Act)(w:World)(Q:Exit->Act->World->Prop),
  EZ R V0 w0 a.defers Q->AM P R C8 V0 w0 H.N L ρ0 a.tmps w st (ex P fs H c st k)->
  (∀e st' z w' M,L<+:M->z.defers=a.defers->AM P R C8 V0 w0 H.N M ρ0 z.tmps w' st' (k e st')->Q e.toExit z w')->c.wp P Q a w:=by
 intro c;induction c with
 |skip=>intro L ρ0 st k a w Q u h g;exact wp_skip (g .normal st a w L (yw _) rfl h)
 |ret=>intro L ρ0 st k a w Q u h g;exact wp_ret (g .ret st a w L (yw _) rfl h)
 |exit id=>intro L ρ0 st k a w Q u h g;exact wp_exit (g (.exit id) st a w L (yw _) rfl h)
 |seq x y F X=>
  intro L ρ0 st k a w Q u h g;refine wp_seq (F L ρ0 st _ a w _ u h λe st' z w' M U A m=>?_);cases e with
  |normal=>exact X M ρ0 st' k z w' Q (by grind) m λe st'' a'' w'' L'' hL' hd' hg'=>g e st'' a'' w'' L'' (U.trans hL') (hd'.trans A) hg'
  |exit i=>exact g (.exit i) st' z w' M U A m
  |ret=>exact g .ret st' z w' M U A m
 |block id b ih=>
  intro L ρ0 st k a w Q u h g;refine wp_block (ih L ρ0 st _ a w _ u h λe st' z w' M U A m=>?_);cases e with
  |normal=>exact g .normal st' z w' M U A m
  |exit i=>
   simp only at m;show(if i=id then Q .normal z w' else Q (.exit i) z w');split;·rename_i e;rw[if_pos e]at m;exact g .normal st' z w' M U A m
   ·rename_i e;rw[if_neg e]at m;exact g (.exit i) st' z w' M U A m
  |ret=>exact g .ret st' z w' M U A m
 |cond c x y F X=>
  intro L ρ0 st k a w Q u h g;obtain⟨β,ρ,V,W,Z,f⟩:=h;simp only[ex]at f;split at f
  ·rename_i v hv;have he:a.eval c=.bool v:=A5 Z hv;cases v with
   |true=>exact wp_cond_true he (F L ρ0 st k a w Q u ⟨β,ρ,V,W,Z,f⟩ g)
   |false=>exact wp_cond_false he (X L ρ0 st k a w Q u ⟨β,ρ,V,W,Z,f⟩ g)
  ·rename_i t _ ht;split at f
   ·rename_i hc;obtain⟨hc1,hc2⟩:=hc;obtain⟨b,hb⟩:=Fj (ρ:=ρ) (β:=β) hc1;have he:a.eval c=.bool b:=(A5 Z ht).trans hb;have hfr:=(T.ev_free (β:=id) (β':=β) (ρ:=ρ) t hc2).1;split at f
    ·rename_i d;simp only[D,hfr,hb,asB]at f;have Y:Rel C8 V0 w0 H.N β (st.now d (.bool b)) ρ V a.tmps w:=Z.now (t:=t) ht (by rw[hb];rfl);cases b with
     |true=>exact wp_cond_true he (F L ρ0 _ k a w Q u ⟨β,ρ,V,W.now _ _,Y,f.1 rfl⟩ g)
     |false=>exact wp_cond_false he (X L ρ0 _ k a w Q u ⟨β,ρ,V,W.now _ _,Y,f.2 rfl⟩ g)
    ·simp only[D,hfr,hb,asB]at f;cases b with
     |true=>exact wp_cond_true he (F L ρ0 _ k a w Q u ⟨β,ρ,V,W,Z,f.1 rfl⟩ g)
     |false=>exact wp_cond_false he (X L ρ0 _ k a w Q u ⟨β,ρ,V,W,Z,f.2 rfl⟩ g)
   ·exact f.elim
  ·exact f.elim
 |region id ops draw=>
  intro L ρ0 st k a w Q u h g;cases draw with
  |true=>exact Nf G hm u h (λ⟨_,_,h⟩=>h.elim) λst' z w' A m=>g .normal st' z w' L (yw _) A m
  |false=>
   refine wp_region_list (HP G ops.toList st a w u h λst' z w' A m=>g .normal st' z w' L (yw _) A m)
 |loop b ih=>
  intro L ρ0 st k a w Q u h g;obtain⟨β,ρ,V,W,Z,f⟩:=h;simp only[ex,exLoop]at f;generalize dedup (FJ b)=ws at f;generalize(((FK b).bind λi=>H.loops.lookup i).getD [])=hint at f;obtain⟨st',t,m,hfree,β',C,V',E,hr',l⟩:=D0 _ _ _ _ ⟨β,ρ,V,W,Z,f⟩;split at l;case isFalse=>exact l.elim
  rename_i hw;split at l;·exact l.elim
  ·rename_i st1 bs hgb;split at l;·exact l.elim
   ·rename_i init hinit;split at l;case isFalse=>exact l.elim
    rename_i hok;simp only[D]at l;obtain⟨I,μ,hI,K⟩:=l;obtain⟨hrh,hsh⟩:=IN hw hr'.nv (yw _) hgb hinit hok hr';let Inv:Nat->Act->World->Prop:=λn z w'=>∃β xs V',Shaped (bs.flatMap (·.2.2)++(Cb ws st1).2.flatMap (·.2.2)) xs/\I xs V'/\μ xs V'=n/\
     Rel C8 V0 w0 H.N β {(Cb ws st1).1 with depth:=st'.depth+1} (C++xs) V' z.tmps w'/\z.defers=a.defers
    refine wp_loop_rel Inv ⟨_,β',init.evs C id,V',hsh,hI,rfl,hrh,rfl⟩ ?_;rintro n a1 w1 ⟨β1,xs,V1,hsh1,hI1,rfl,hr1,S⟩;have hDb:=K xs V1 hsh1 hI1;refine ih (L++[λys B=>I ys B/\μ ys B<μ xs V1]) C _ _ a1 w1 _ (by rw[S];exact u) ⟨β1,C++xs,V1,⟨yC _ _,?_⟩,hr1,hDb⟩ ?_;·simp[E.2]
    ·intro e st2 a2 w2 L2 hL2 hd2 hg2;cases e with
     |normal=>
      obtain⟨β2,ρ2,V2,hp2,hr2,q⟩:=hg2;simp only at q;split at q
      ·rename_i vs hvs;split at q
       ·rename_i hok2;simp only[D]at q;obtain⟨J,hJ,hJ2⟩:=q;have hlvl:L2[st'.depth]?=some (λys B=>I ys B/\μ ys B<μ xs V1):=by
         obtain⟨σ,rfl⟩:=hL2;rw[<-E.2,List.getElem?_append_left (by simp),List.getElem?_append_right (yV _)];simp
        rw[hlvl]at hJ;simp only[zF]at hJ;subst hJ;obtain⟨hrh2,hsh2⟩:=IN hw hr'.nv hp2.1 hgb hvs hok2 hr2;exact⟨_,hJ2.2,β2,vs.evs ρ2 id,V2,hsh2,hJ2.1,rfl,hrh2,hd2.trans S⟩
       ·exact q.elim
      ·exact q.elim
     |exit i=>exact g (.exit i) st2 a2 w2 L2 ((yC _ _).trans hL2) (hd2.trans S) (hg2.weak E.1)
     |ret=>exact g .ret st2 a2 w2 L2 ((yC _ _).trans hL2) (hd2.trans S) (hg2.weak E.1)
 |rangeFunc _ _ _ _ _ _=>intro L ρ0 st k a w Q u h g;obtain⟨β,ρ,V,W,Z,f⟩:=h;exact f.elim
 |scope _ _=>intro L ρ0 st k a w Q u h g;obtain⟨β,ρ,V,W,Z,f⟩:=h;exact f.elim
 |label _=>intro L ρ0 st k a w Q u h g;obtain⟨β,ρ,V,W,Z,f⟩:=h;exact f.elim
 |goto _=>intro L ρ0 st k a w Q u h g;obtain⟨β,ρ,V,W,Z,f⟩:=h;exact f.elim
 |refuse _=>intro L ρ0 st k a w Q u h g;obtain⟨β,ρ,V,W,Z,f⟩:=h;exact f.elim
end
end Go.Sx
