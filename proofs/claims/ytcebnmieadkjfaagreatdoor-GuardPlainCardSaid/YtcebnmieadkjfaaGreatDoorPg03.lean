/- Part 3: no statement of the seat is proved here. -/
import Derived.Test.YtcebnmieadkjfaaGreatDoorPg02
set_option linter.unusedVariables false
set_option linter.unusedSimpArgs false
open Option.some renaming injEq->zF
open List renaming length_append->zw,map_append->yP,mem_cons_self->zb,append_assoc->zH,mem_cons_of_mem->za,mem_cons->yD,all_eq_true->z6,nodup_cons->yU,mem_filterMap->yW,mem_range->yY,mem_filter->yz,prefix_refl->yw,prefix_append->yC
open Bool renaming false_eq_true->zN,and_eq_true->zC,or_eq_true->yQ,not_eq_true'->zU
open Prod.mk renaming injEq->zS
open Option renaming isSome_iff_exists->yB,bind_some->zr
open Go.Region renaming binds->yR,wanted->yO,ready->yZ
open Nat renaming strongRecOn->yS,le_refl->yV
open Array renaming getElem?_eq_some_iff->yA,getElem?_eq_getElem->yT,all_eq_true_iff_forall_mem->yX,size_setIfInBounds->yx
open Go.Instr renaming sureAddr->zh
open Go.Sem renaming run_bind->zK,run_pure->zM
open Go.Result renaming andThen_ok->zL
open Go.Addr renaming add_zero'->yH
open Go.Oper renaming upon->yy
namespace Go.Sx
open Go
section
variable{P:Program}{R:Ending->Mem->Prop}{O V0:Mem}{w0:World}{N:Nat}{β:Nat->Nat}{ρ:List Value}{V:Mem}{w:World}{tmps:Array Value}
theorem Lj{ρ:List Value}{β:Nat->Nat}{t:T}{ks:List K}(h:CY t=some ks):Shaped ks (t.toList.map (·.ev ρ β)):=by
 rw[<-C9];exact K6 t ks h
theorem IA:∀(x:List Nat)(h:St)(f:List Value),f.length=h.nv->∀(z:St)(g:List Value)(β:Nat->Nat)(ts:List T),GS z (Ce x h).2=some ts->
  (∀s t,z.get s=some t->tmps.getD s undef=t.ev g β)->
  Shaped ((Ce x h).2.flatMap (·.2.2)) (ts.map (·.ev g β))/\(Ce x h).1.nv=h.nv+ts.length/\
  (Ce x h).1.boxes=h.boxes/\(Ce x h).1.nb=h.nb/\(Ce x h).1.depth=h.depth/\
  ∀s t,(Ce x h).1.get s=some t->(s∉x/\h.get s=some t)∨(s∈x/\tmps.getD s undef=t.ev (f++ts.map (·.ev g β)) β)
 |[],h,f,J,z,g,β,ts,u,G=>by
  simp only[Ce,GS,zF]at u;subst u;exact⟨trivial,by simp[Ce],rfl,rfl,rfl,λs t A=>.inl ⟨by simp,A⟩⟩
 |s0::x,h,f,J,z,g,β,ts,u,G=>by
  cases hm:((h.get s0).bind λt=>(genKinds t).map λm=>(Fl t,m))with
  |some p=>
   obtain⟨b,m⟩:=p;simp only[Ce,hm]at u⊢;simp only[GS]at u;split at u
   ·rename_i l Z B C;split at u
    ·rename_i hc;obtain⟨D,E⟩:=hc;simp only[zF]at u;subst u;have y:Shaped m (l.cellsT.toList.map (·.ev g β)):=Lj E;have Y:(l.cellsT.toList.map (·.ev g β)).length=m.length:=y.length;obtain⟨I,K,M,F,X,S⟩:=IA x ({h with nv:=h.nv+m.length}.put s0 (genTerm b m h.nv)) (f++l.cellsT.toList.map (·.ev g β)) (by simp only[zw,Y,J];rfl) z g β Z C G;refine⟨?_,?_,M,F,X,λs t A=>?_⟩;·rw[yP];exact Ij y I
     ·grind[St.put]
     ·rcases S s t A with⟨U,q⟩|⟨U,q⟩
      ·rw[Ir]at q;split at q
       ·rename_i e;subst e;right;refine⟨zb,?_⟩;split at q;·simp at q
        ·simp only[zF]at q;subst q;rw[G s l B];have hv:=GW (β:=β) m (l.cellsT.toList.map (·.ev g β)) f (Z.map (·.ev g β)) y;rw[J]at hv;rw[yP,<-zH];unfold genTerm;cases b with
         |true=>
          simp only[if_true,T.ev,CE,hv];cases l<;>simp[Fl]at D;simp[T.ev,T.cellsT,C9]
         |false=>
          simp only[zN,if_false];have v:l.cellsT=.cons l .nil:=by cases l<;>simp_all[Fl,T.cellsT]
          rw[v]at hv y;simp only[T.toList,List.map_cons,List.map_nil]at hv y
          match m,y,hv with
          |[k],y,hv=>
           grind[vars,T.toList]
       ·rename_i e;exact .inl ⟨by simp[e,U],q⟩
      simp_all
    ·simp at u
   ·simp at u
  |none=>
   simp only[Ce,hm]at u⊢;cases W:h.get s0 with
   |none=>
    simp only[W]at u⊢;obtain⟨I,K,M,F,X,S⟩:=IA x h f J z g β ts u G;grind
   |some t0=>
   simp only[W]at u⊢;obtain⟨I,K,M,F,X,S⟩:=IA x (h.put s0 .nil) f J z g β ts u G;refine⟨I,K,M,F,X,λs t A=>?_⟩;grind[Ir,inr,za]
theorem Lk(st:St)(i j:Nat)(cs:T)(ty:Nat):(st.setBox i cs ty).box j=if j=i then some (cs,ty)else st.box j:=by
 grind[St.box,St.setBox]
theorem Ll:∀(hint:List Nat)(st:St)(y:List Value),y.length=st.nv->∀(f:St)(bs:List (Nat×Nat×List K)),GR hint st=some (f,bs)->∀(x:St)(g:List Value)(β:Nat->Nat)(ts:List T),GU x bs=some ts->
  Shaped (bs.flatMap (·.2.2)) (ts.map (·.ev g β))/\f.nv=st.nv+ts.length/\f.slots=st.slots/\f.nb=st.nb/\f.depth=st.depth/\
  (∀i,i∈bs.map (·.1)->(st.box i).isSome=true)/\
  ∀i cs ty,f.box i=some (cs,ty)->(i∉bs.map (·.1)/\st.box i=some (cs,ty))∨(i∈bs.map (·.1)/\∃u,x.box i=some (u,ty)/\∀σ,cs.evs (y++ts.map (·.ev g β)++σ) β=u.evs g β)
 |[],st,y,M,f,bs,z,x,g,β,ts,l=>by
  simp only[GR,zF,zS]at z;obtain⟨rfl,rfl⟩:=z;simp only[GU,zF]at l;subst l;exact⟨trivial,by simp,rfl,rfl,rfl,by simp,λi cs ty h=>.inl ⟨by simp,h⟩⟩
 |s::hint,st,y,M,f,bs,z,x,g,β,ts,l=>by
  simp only[GR]at z;split at z
  ·rename_i i X hs;split at z
   ·rename_i cs ty J;split at z
    ·rename_i F B;simp only[Option.map_eq_some_iff,zS]at z;obtain⟨⟨r1,r2⟩,C,rfl,rfl⟩:=z;simp only[GU]at l;split at l
     ·rename_i u D G E Z;split at l
      ·rename_i S;obtain⟨rfl,Y⟩:=S;simp only[zF]at l;subst l;have W:Shaped F (u.toList.map (·.ev g β)):=Lj Y;have v:(u.toList.map (·.ev g β)).length=F.length:=W.length;obtain⟨g1,g2,U,g4,g5,g7,g6⟩:=Ll hint _ (y++u.toList.map (·.ev g β)) (by simp only[zw,v,M];rfl) _ _ C x g β G Z;refine⟨?_,?_,U,g4,g5,λj m=>?_,λj A I m=>?_⟩;·grind[Ij]
       ·grind[St.setBox]
       ·simp only[List.map_cons,yD]at m;rcases m with rfl|m;·simp[J]
        ·have:=g7 j m;rw[Lk]at this;by_cases e:j=i;·grind
         ·rw[if_neg e]at this;exact this
       ·rcases g6 j A I m with⟨e1,q⟩|⟨e1,cs2,q,e3⟩
        ·rw[Lk]at q;split at q
         ·rename_i e;subst e;simp only[zF,zS]at q;obtain⟨rfl,rfl⟩:=q;grind[inr,GW,CE,C9,zH]
         ·rename_i e;exact .inl ⟨by simp_all,q⟩
        simp_all
      ·simp at l
     ·simp at l
    ·simp at z
   ·simp at z
  ·simp at z
theorem Ng{st:St}{bs:List (Nat×Nat×List K)}{g:List (Nat×Bool×List K)}{t:T}(h:HE st bs g=some t):
  ∃l m,GU st bs=some l/\GS st g=some m/\t=T.ofList (l++m)/\t.firstBox=none:=by
 unfold HE at h;grind
theorem IB{q hint:List Nat}{st g f:St}{bs:List (Nat×Nat×List K)}{vs:T}{ρ':List Value}(hw:st.wf=true)(D:ρ.length=st.nv)(E:ρ<+:ρ')
  (S:GR hint st=some (g,bs)) (Y:HE f bs (Ce q g).2=some vs) (v:backOk {(Ce q g).1 with depth:=st.depth+1} f bs q=true)
  (z:Rel O V0 w0 N β f ρ' V tmps w):
  Rel O V0 w0 N β {(Ce q g).1 with depth:=st.depth+1} (ρ++vs.evs ρ' id) V tmps w/\Shaped (bs.flatMap (·.2.2)++(Ce q g).2.flatMap (·.2.2)) (vs.evs ρ' id):=by
 obtain⟨l,m,U,h2,rfl,h3⟩:=Ng Y;rw[(T.ev_free (β:=id) (β':=β) (ρ:=ρ') _ h3).2,CE,yP];obtain⟨a1,a2,a3,X,a5,a6,a7⟩:=Ll hint st ρ D g bs S f ρ' β l U;obtain⟨b1,b2,b3,b4,b5,b6⟩:=IA (tmps:=tmps) q g (ρ++l.map (·.ev ρ' β)) (by grind) f ρ' β m h2 z.slots;simp only[backOk,zC,z6,yQ,decide_eq_true_eq]at v;have A:∀t:T,t.wf st.nv st.nb=true->t.ev ρ' β=t.ev (ρ++(l.map (·.ev ρ' β)++m.map (·.ev ρ' β))) β/\t.evs ρ' β=t.evs (ρ++(l.map (·.ev ρ' β)++m.map (·.ev ρ' β))) β:=by
  refine T.ev_congr (λi y=>?_) (λ_ _=>rfl);obtain⟨σ,rfl⟩:=E;grind
 have J:∀s,g.get s=st.get s:=λs=>by unfold St.get;rw[a3]
 have G:∀i,St.box {(Ce q g).1 with depth:=st.depth+1} i=g.box i:=λi=>by grind[St.box]
 have u:∀i,(St.box {(Ce q g).1 with depth:=st.depth+1} i).isSome=true->(f.box i).isSome=true:=by
  intro i y;obtain⟨⟨cs,ty⟩,I⟩:=yB.1 y;rcases v.2 _ (JA I)with h|h;·grind
  grind
 refine⟨
 {nv:=?_
  size:=z.size
  slots:=λs t B=>?_
  frm:=z.frm
  boxes:=λi cs ty y=>?_
  hid:=λb o Y=>⟨(z.hid b o Y).1,(z.hid b o Y).2.1,(z.hid b o Y).2.2.1,λi y=>(z.hid b o Y).2.2.2 i (u i y)⟩
  inj:=λi j y hj=>z.inj i j (u i y) (u j hj)},Ij a1 b1⟩
 ·grind
 ·rcases b6 s t B with⟨M,Z⟩|⟨_,Z⟩
  ·have W:f.get s=some t:=by
    rcases v.1 _ (lookup_mem (GZ B))with h|h;·simp_all
    grind
   rw[J]at Z;rw[z.slots s t W];grind[wf_get]
  simp_all
 ·rw[G]at y;rcases a7 i cs ty y with⟨M,Z⟩|⟨M,cs',Z,W⟩
  ·have W:f.box i=some (cs,ty):=by
    grind[St.box,Ce,absurd]
   obtain⟨F,c2,c3,_⟩:=z.boxes i cs ty W;rw[<-(A cs (Gl hw Z).2).2];exact⟨F,c2,c3,by simp only[b4,X];exact(Gl hw Z).1⟩
  ·obtain⟨F,c2,c3,_⟩:=z.boxes i cs' ty Z;have C:=W (m.map (·.ev ρ' β));rw[zH]at C;rw[C];obtain⟨x,I⟩:=yB.1 (a6 i M);exact⟨F,c2,c3,by simp only[b4,X];exact(Gl hw I).1⟩
end
def HM(acc:List Nat)(o:Oper):Nat:=o.after.toList.foldl (λs e=>if yR .any e then s|||(1<<<e.on)|||acc.getD e.on 0 else s) 0
theorem Lm:∀(os:List Oper)(acc:List Nat),(∃g,B5 os acc=acc++g/\g.length=os.length)/\
  ∀k o,os[k]?=some o->(B5 os acc).getD (acc.length+k) 0=HM ((B5 os acc).take (acc.length+k)) o
 |[],acc=>⟨⟨[],by simp[B5]⟩,λk o h=>by simp at h⟩
 |o::os,acc=>by
  have e:B5 (o::os) acc=B5 os (acc++[HM acc o]):=rfl;obtain⟨⟨g,f,u⟩,z⟩:=Lm os (acc++[HM acc o]);rw[e];refine⟨⟨HM acc o::g,by rw[f];simp,by simp[u]⟩,λk y h=>?_⟩;cases k with
  |zero=>
   simp_all
  |succ k=>
   have:=z k y (by simpa using h);simp only[zw,List.length_singleton]at this;grind
theorem fold_bits(acc:List Nat):∀(es:List Edge)(s j:Nat),(es.foldl (λs e=>if yR .any e then s|||(1<<<e.on)|||acc.getD e.on 0 else s) s).testBit j=true->
  s.testBit j=true∨∃e∈es,yR .any e=true/\(j=e.on∨(acc.getD e.on 0).testBit j=true)
 |[],s,j,h=>.inl h
 |e::es,s,j,h=>by
  simp only[List.foldl_cons]at h;rcases fold_bits acc es _ j h with g|⟨e',y,x⟩
  ·by_cases f:yR .any e=true
   ·rw[if_pos f]at g;simp only[Nat.testBit_or,yQ]at g;rcases g with(g|g)|g;·exact .inl g
    ·right;refine⟨e,zb,f,.inl ?_⟩;rw[Nat.testBit_shiftLeft]at g;simp only[zC,decide_eq_true_eq]at g;have u:=g.2;rcases Nat.eq_or_lt_of_le g.1 with z|z;·exact z.symm
     ·have:(1:Nat).testBit (j-e.on)=false:=by
       obtain⟨m,hm⟩:∃m,j-e.on=m+1:=⟨j-e.on-1,by omega⟩;rw[hm,Nat.testBit_succ];simp
      rw[this]at u;cases u
    ·exact .inr ⟨e,zb,f,.inr g⟩
   ·rw[if_neg f]at g;exact .inl g
  ·exact .inr ⟨e',za _ y,x⟩
def HN(all:Array Oper)(listed:Array Bool):Prop:=∀j oj,all[j]?=some oj->listed.getD j false=true->∀e∈oj.after,yR .any e=true->listed.getD e.on false=true
def IC(all:Array Oper):Prop:=∀i o,all[i]?=some o->∀e∈o.after,yR .any e=true->e.on<i
theorem mask_listed{all:Array Oper}(J:IC all){listed:Array Bool}(G:HN all listed):∀(i:Nat)(o:Oper),all[i]?=some o->
  (∀e∈o.after,yR .any e=true->listed.getD e.on false=true)->∀j,(Ct (B5 all.toList []) i).testBit j=true->listed.getD j false=true:=by
 intro i;induction i using yS with
 |_ i Z=>
  intro o x Y j z;have m:=(Lm all.toList []).2 i o (by simpa using x);simp only[List.length_nil,Nat.zero_add]at m;unfold Ct at z;rw[m]at z;unfold HM at z;rcases fold_bits _ _ _ _ z with l|⟨e,l,q,y⟩;·simp at l
  ·have h:e∈o.after:=by simpa using l
   have g:=J i o x e h q;have v:=Y e h q;rcases y with rfl|y;·exact v
   ·have f:((B5 all.toList []).take i).getD e.on 0=(B5 all.toList []).getD e.on 0:=by
     simp[List.getD,g]
    rw[f]at y;have W:i<all.size:=(yA.1 x).1;have u:all[e.on]?=some (all[e.on]'(by omega)):=yT _;exact Z e.on g _ u (G e.on _ u v) j y
theorem ID:∀{l:List Nat},GQ l=true->l.Nodup
 |[],_=>List.nodup_nil
 |x::xs,h=>by
  simp only[GQ,zC,zU]at h;exact yU.2 ⟨by simpa using h.1,ID h.2⟩
structure CN (w w':World):Prop where
 heap:∀(b:Nat)(o:Obj),w.heap[b]?=some o->w'.heap[b]?=some o
 size:w.heap.size<=w'.heap.size
 os:w'.os=w.os
 out:w'.output=w.output
theorem CN.refl(w:World):CN w w:=⟨λ_ _ h=>h,yV _,rfl,rfl⟩
theorem CN.trans{a b c:World}(h:CN a b)(k:CN b c):CN a c:=⟨λi o g=>k.heap i o (h.heap i o g),Nat.le_trans h.size k.size,k.os.trans h.os,k.out.trans h.out⟩
theorem CN.alloc(w:World)(o:Obj):CN w (w.alloc o):=
 ⟨λb g h=>(HJ w o (yA.1 h).1).trans h,by simp_all,rfl,rfl⟩
section
variable{P:Program}{O V0:Mem}{w0:World}{N:Nat}{β:Nat->Nat}{st:St}{ρ:List Value}{V:Mem}{w:World}{tmps:Array Value}
theorem Rel.ext(h:Rel O V0 w0 N β st ρ V tmps w){w':World}(e:CN w w'):Rel O V0 w0 N β st ρ V tmps w':=
 {h with
  frm:=
   {size:=Nat.le_trans h.frm.size e.size
    le:=λb o g=>e.heap b o (h.frm.le b o g)
    old:=λb g z=>by
     have y:=h.frm.old b g z;rw[<-y];have f:b<w.heap.size:=Nat.lt_of_lt_of_le g h.frm.size;exact(e.heap b _ (yT f)).trans (yT f).symm
    dom:=h.frm.dom
    os:=e.os.trans h.frm.os
    out:=e.out.trans h.frm.out}
  boxes:=λi cs ty u=>⟨e.heap _ _ (h.boxes i cs ty u).1,(h.boxes i cs ty u).2⟩
  hid:=λb o g=>⟨e.heap _ _ (h.hid b o g).1,(h.hid b o g).2⟩}
theorem Rel.less(h:Rel O V0 w0 N β st ρ V tmps w){g:Mem}(f:∀b o,g b=some o->O b=some o):Rel g V0 w0 N β st ρ V tmps w:=
 {h with hid:=λb o u=>h.hid b o (f b o u)}
theorem Rel.orphan(h:Rel O V0 w0 N β st ρ V tmps w)(o:Obj):Rel (O.set w.heap.size o) V0 w0 N β st ρ V tmps (w.alloc o):=
 {h.ext (CN.alloc w o)with
  hid:=λb f g=>by
   by_cases e:b=w.heap.size
   ·subst e;rw[Mem.set_same]at g;cases g;refine⟨La w o,le_none h.frm.le (yV _),h.frm.size,λi u=>?_⟩;obtain⟨x,z⟩:=yB.1 u;have:=(h.boxes i x.1 x.2 z).1;grind
   ·rw[Mem.set_ne e]at g;exact(h.ext (CN.alloc w o)).hid b f g}
theorem Rel.adopt(h:Rel O V0 w0 N β st ρ V tmps w)(hw:st.wf=true){cs:T}(X:cs.wf st.nv st.nb=true){ty b:Nat}(A:O b=some (.cells (cs.evs ρ β).toArray ty (0,0))):
  Rel (λc=>if c=b then none else O c) V0 w0 N (upd β st.nb b) {st with boxes:=(st.nb,cs,ty)::st.boxes,nb:=st.nb+1} ρ V tmps w:=by
 have m:∀t:T,t.wf st.nv st.nb=true->t.ev ρ β=t.ev ρ (upd β st.nb b)/\t.evs ρ β=t.evs ρ (upd β st.nb b):=
  T.ev_congr (λ_ _=>rfl) (λi l=>by grind[upd])
 have g:∀(i:Nat)(x:T×Nat),St.box {st with boxes:=(st.nb,cs,ty)::st.boxes,nb:=st.nb+1} i=some x->(i=st.nb/\x=(cs,ty))∨(i≠st.nb/\st.box i=some x):=by
  grind[St.box,inr]
 obtain⟨B,C,D,E⟩:=h.hid b _ A;exact
 {nv:=h.nv
  size:=h.size
  slots:=λs t Y=>(h.slots s t Y).trans (m t (wf_get hw Y)).1
  frm:=h.frm
  boxes:=λi q v l=>by
   rcases g i _ l with⟨rfl,e⟩|⟨z,f⟩;·grind[upd]
   ·obtain⟨K,h2,h3,S⟩:=h.boxes i q v f;grind[upd,Gl,Nat.lt_succ_of_lt]
  hid:=λc o J=>by
   split at J;·cases J
   ·rename_i z;obtain⟨I,k2,k3,U⟩:=h.hid c o J;refine⟨I,k2,k3,λi l=>?_⟩;obtain⟨x,G⟩:=yB.1 l;rcases g i x G with⟨rfl,_⟩|⟨u,f⟩;·grind[upd]
    grind[upd]
  inj:=λi j l M W=>by
   obtain⟨x,G⟩:=yB.1 l;obtain⟨y,F⟩:=yB.1 M;rcases g i x G with⟨rfl,_⟩|⟨z,f⟩<;>rcases g j y F with⟨rfl,_⟩|⟨u,Z⟩
   ·rfl
   ·grind[upd,absurd]
   ·grind[upd,absurd]
   ·simp only[upd,if_neg z,if_neg u]at W;exact h.inj i j (by simp[f]) (by simp[Z]) W}
end
section
variable{P:Program}{R:Ending->Mem->Prop}{O V0:Mem}{w0:World}{N:Nat}{L:List (List Value->Mem->Prop)}{ρ0:List Value}{fs:List Nat}{H:Ca}
variable{all:Array Oper}
def Fs(P:Program)(all:Array Oper)(j:Nat)(h:Bool)(as:Act)(w:World):Prop:=
 ∃o d,all[j]?=some o/\o.dst=some d/\d<as.tmps.size/\yO o (yielded all as.tmps)=h/\
  (h=true->∀w',CN w w'->(execOp as.eval o).run P w'=.ok (.value (as.tmps.getD d undef)) w')/\(h=false->as.tmps.getD d undef=undef)
theorem Fs.ext{j:Nat}{f:Bool}{as:Act}{w w':World}(h:Fs P all j f as w)(e:CN w w'):Fs P all j f as w':=by
 obtain⟨o,d,u,z,y,x,l,h6⟩:=h;exact⟨o,d,u,z,y,x,λhw g m=>l hw g (e.trans m),h6⟩
theorem EZ{a:Act}{dst:Option Nat}{v:Value}{d:Nat}(h:dst≠some d):(a.put dst v).tmps.getD d undef=a.tmps.getD d undef:=by
 cases dst with
 |none=>rfl
 |some e=>
  simp_all[Act.put,Array.getD]
theorem E0{a:Act}{v:Value}{d:Nat}(h:d<a.tmps.size):(a.put (some d) v).tmps.getD d undef=v:=by
 simp[Act.put,Array.getD,h]
theorem E1(a:Act)(dst:Option Nat)(v:Value):(a.put dst v).tmps.size=a.tmps.size:=by cases dst<;>simp[Act.put]
theorem noSel{all:Array Oper}(h:∀o,o∈all.toList->ET o.op=false){j:Nat}{o:Oper}(g:all[j]?=some o):∀cs b,o.op≠.select cs b:=by
 grind[ET]
theorem Fs.put(m:∀o,o∈all.toList->ET o.op=false){j:Nat}{y:Bool}{as:Act}{w:World}(h:Fs P all j y as w){dst:Option Nat}{v:Value}
  (x:∀o,all[j]?=some o->∀g,dst=some g->g∉o.looksAt all/\o.dst≠some g):Fs P all j y (as.put dst v) w:=by
 obtain⟨o,d,u,l,q,Z,J,h6⟩:=h;have f:∀g,dst=some g->g∉o.looksAt all:=λg G=>(x o u g G).1;have z:dst≠some d:=λe=>(x o u d e).2 l;refine⟨o,d,u,l,by rw[E1];exact q,?_,λhw w' e=>?_,λhw=>?_⟩;·grind[wanted_put]
 ·rw[execOp_put o (noSel m u) as dst v f,EZ z];exact J hw w' e
 grind[EZ]
theorem IE{fl:List (Nat×Bool)}{dst:Option Nat}(h:Gi all fl dst=true){j:Nat}{b:Bool}(f:(j,b)∈fl):∀o,all[j]?=some o->∀g,dst=some g->g∉o.looksAt all:=by
 intro o u g z;have:=z6.1 h _ f;simp_all
theorem exLoad_run{a:Act}{w:World}{st:St}{o:Oper}{k:St->Tr}{t:TypeId}{x:Operand}(hop:o.op=.load t x)(hd:Dm N o.dst=true)
  (h:AV P R O V0 w0 N L ρ0 a.tmps w st (GO P st o.dst t x k)):
  ∃v y,(∀w',CN w w'->(execOp a.eval o).run P w'=.ok (.value v) w')/\AV P R O V0 w0 N L ρ0 (a.put o.dst v).tmps w y (k y):=by
 obtain⟨β,ρ,V,hp,hr,hD⟩:=h;unfold GO at hD;obtain⟨y,p,hg,X,f,u,V',B,G,g⟩:=DK _ _ _ _ ⟨β,ρ,V,hp,hr,hD⟩;have hx:a.eval x=p.ev u f:=A3 G hg;have I:∀{b i sz l e},Gg p=(b,i,sz,l,e)->b.firstBox=none/\i.firstBox=none:=by
  intro b i sz l e Y;unfold Gg at Y;grind[T.firstBox]
 have go:∀(q:Addr)(J:List K)(vs:List Value)(l:Nat)(z:T),AN (p.ev u f)=some (q.add l)->p.kind=some .p->Shaped J vs->y.wf=true->
   (∀w',CN w w'->∀j v,vs[j]?=some v->w'.cell? (q.add j)=some v)->Dd P t (T.ofList (vars J y.nv)) l=some z->D P R (k ((y.more J.length).putO o.dst z)) L (u++vs) V'->
   ∃v y,(∀w',CN w w'->(execOp a.eval o).run P w'=.ok (.value v) w')/\AV P R O V0 w0 N L ρ0 (a.put o.dst v).tmps w y (k y):=by
  intro q J vs l z Z m M hw hc C E;have hl:vs.length=J.length:=M.length;have F:=G.bind hw vs;rw[hl]at F;have hev:(T.ofList (vars J y.nv)).evs (u++vs) f=vs:=by
   rw[CE,<-G.nv];have:=GW (β:=f) J vs u [] M;simp_all
  obtain⟨p',S⟩:=Gk (ρ:=u) (β:=f) m;rw[S]at Z;simp only[AN]at Z;subst Z;refine⟨z.ev (u++vs) f,_,λw' e=>?_,f,u++vs,V',(B.more _ _).putO _ _,F.putO hd z rfl,E⟩;grind[Le,execOp,Instr.loadAt,zh,zK,zM,zL]
 have U:∀w',CN w w'->V'.le w':=λw' e=>(G.ext e).frm.le;split at g;case isFalse=>exact g.elim
 rename_i m;split at g
 ·rename_i b i sz l e Y;obtain⟨hb,hi⟩:=I Y;split at g
  ·rename_i J hks;split at g
   ·rename_i hlen;unfold bind at g;split at g
    ·rename_i hw;split at g
     ·rename_i z C;simp only[D]at g;obtain⟨vs,W,h2,h3⟩:=g;have A:=Iy (ρ:=u) (β:=f) Y m;simp only at A;rw[(T.ev_free (β:=id) (β':=f) (ρ:=u) b hb).1,(T.ev_free (β:=id) (β':=f) (ρ:=u) i hi).1]at W;cases Z:AN (b.ev u f)with
      |none=>simp[Z,Mem.rowp]at W
      |some q=>
       grind[Mem.rowp,Aa,G4]
     ·exact g.elim
    ·exact g.elim
   ·exact g.elim
  ·exact g.elim
 ·rename_i b i sz l Y;obtain⟨hb,hi⟩:=I Y;split at g
  ·rename_i J hks;unfold bind at g;split at g
   ·rename_i hw;split at g
    ·rename_i z C;simp only[D]at g;obtain⟨vs,W,h2,h3⟩:=g;have A:=Iy (ρ:=u) (β:=f) Y m;simp only at A;rw[(T.ev_free (β:=id) (β':=f) (ρ:=u) b hb).1,(T.ev_free (β:=id) (β':=f) (ρ:=u) i hi).1]at W;cases Z:AN (b.ev u f)with
     |none=>simp[Z,Mem.rowp]at W
     |some q=>
      simp only[Z,Mem.rowp]at W;rw[Z]at A;simp only[Aa,Option.map_some]at A;exact go _ J vs 0 z (by rw[A,yH]) m h2 hw (λw' e=>(G4 (U w' e) W).2) C h3
    ·exact g.elim
   ·exact g.elim
  ·exact g.elim
theorem IF{as:Act}{w:World}{st:St}:∀{fl:List (Nat×Bool)}{t:Tr}{β:Nat->Nat}{ρ:List Value}{V:Mem},Rel O V0 w0 N β st ρ V as.tmps w->D P R (Gh P all fl st t) L ρ V->
  D P R t L ρ V/\∀j,(j,true)∈fl->∃o d,all[j]?=some o/\o.dst=some d/\∀w',CN w w'->(execOp as.eval o).run P w'=.ok (.value (as.tmps.getD d undef)) w'
 |[],t,β,ρ,V,f,h=>⟨h,λj g=>by cases g⟩
 |(i,false)::fl,t,β,ρ,V,f,h=>by
  obtain⟨v,J⟩:=IF (fl:=fl) f h;exact⟨v,λj g=>J j (by simpa using g)⟩
 |(i,true)::fl,t,β,ρ,V,f,h=>by
  simp only[Gh]at h;split at h;·exact h.elim
  ·rename_i o F;split at h
   ·rename_i ns x y G u;split at h
    ·rename_i e;subst e;obtain⟨z,W⟩:=JE h β;obtain⟨v,J⟩:=IF (fl:=fl) f W;refine⟨v,λj g=>?_⟩;rcases yD.1 g with e|g
     ·cases e;cases l:o.dst with
      |none=>simp[l]at u
      |some d=>
       simp only[l,zr]at u;refine⟨o,d,F,l,λw' A=>?_⟩;rw[f.slots d _ u];exact Jz (f.ext A) G z
     ·exact J j g
    ·exact h.elim
   ·rename_i y G u;split at h
    ·rename_i ty x K;split at h
     ·rename_i p n S U hn Z;split at h
      ·rename_i hc;obtain⟨c1,c2,c3,c4,c5,c6,c7⟩:=hc;simp only[D]at h;obtain⟨z,W⟩:=h;obtain⟨v,J⟩:=IF (fl:=fl) f W;refine⟨v,λj g=>?_⟩;rcases yD.1 g with e|g
       ·cases e;cases l:o.dst with
        |none=>simp[l]at u
        |some d=>
         simp only[l,zr]at u;refine⟨o,d,F,l,λw' A=>?_⟩;rw[f.slots d _ u];have I:y.cellsT.firstBox=none:=by cases y<;>simp_all[T.cellsT,T.firstBox]
         rw[(T.ev_free (β:=id) (β':=β) (ρ:=ρ) p c2).1,(T.ev_free (β:=id) (β':=β) (ρ:=ρ) _ I).2]at z;obtain⟨q,X⟩:=Gk (ρ:=ρ) (β:=β) c1;rw[X]at z;have hx:as.eval x=.pointer q:=(A3 f U).trans X;cases q with
         |none=>simp[AN,Mem.rowp]at z
         |some q=>
          simp only[AN,Mem.rowp,yH]at z;obtain⟨_,B⟩:=G4 (f.ext A).frm.le z;have Y:(y.cellsT.evs ρ β).length=n:=by grind[C9]
          have C:(loadVar ty q).run P w'=.ok (y.ev ρ β) w':=by
           cases S with
           |true=>
            have M:=run_loadCells_list (P:=P) w' q (y.cellsT.evs ρ β) B;rw[Y]at M;cases y<;>simp[Fl]at c7;simp only[loadVar,zK,FK Z,zL,if_true,DY hn,T.cellsT]at M⊢;rw[M];simp[T.ev]
           |false=>
            have m:y.cellsT=.cons y .nil:=by cases y<;>simp_all[Fl,T.cellsT]
            have E:=B 0 (y.ev ρ β) (by rw[m];rfl);rw[yH]at E;simp only[loadVar,zK,FK Z,zL,zN,if_false,run_load,E]
          grind[execOp,Instr.loadAt,zh,zK,zM,zL]
       ·exact J j g
      ·exact h.elim
     ·exact h.elim
    ·exact h.elim
   ·exact h.elim
end
def CZ:Mem:=λ_=>none
structure E2 (P:Program)(all:Array Oper)(ms:List Nat):Prop where
 edges:IC all
 dsts:∀(i j:Nat)(oi oj:Oper)(d:Nat),all[i]?=some oi->all[j]?=some oj->oi.dst=some d->oj.dst=some d->i=j
 sel:∀o,o∈all.toList->ET o.op=false
 look:∀(i:Nat)(o:Oper)(p:Nat)(op:Oper)(t:Nat),all[i]?=some o->t∈o.looksAt all->(CD all p=true∨C8 all p=true)->all[p]?=some op->op.dst=some t->(Ct ms i).testBit p=true/\p≠i
 allocs:∀(i:Nat)(o:Oper)(e:Nat),all[i]?=some o->o.op=.alloc e->(Et P e).isSome=true
theorem Ln:∀{l:List Oper},(l.filterMap (·.dst)).Nodup->∀(i j:Nat)(oi oj:Oper)(d:Nat),l[i]?=some oi->l[j]?=some oj->oi.dst=some d->oj.dst=some d->i=j
 |[],_,i,j,oi,oj,d,h,_,_,_=>by simp at h
 |o::l,v,i,j,oi,oj,d,h,u,z,y=>by
  have f:∀(k:Nat) ok,l[k]?=some ok->ok.dst=some d->d∈l.filterMap (·.dst):=λk ok x m=>yW.2 ⟨ok,List.mem_of_getElem? x,m⟩;have g:(l.filterMap (·.dst)).Nodup:=by
   grind
  have q:∀d,o.dst=some d->d∉l.filterMap (·.dst):=by
   grind
  cases i with
  |zero=>
   grind
  |succ i=>
   cases j with
   |zero=>
    grind
   |succ j=>exact congrArg (·+1) (Ln g i j oi oj d (by simpa using h) (by simpa using u) z y)
theorem Lo{all:Array Oper}{i:Nat}{o:Oper}(h:all[i]?=some o):(o,i)∈all.toList.zipIdx:=by
 grind
theorem Lq{P:Program}{all:Array Oper}{ms order:List Nat}(h:drawOk P all ms order=true):
  E2 P all ms/\order.length=all.size/\order.Nodup/\(∀i∈order,i<all.size)/\EU all ms order=true:=by
 simp only[drawOk,zC,z6,beq_iff_eq,decide_eq_true_eq,zU]at h;obtain⟨⟨⟨⟨⟨⟨⟨⟨z,y⟩,x⟩,l⟩,m⟩,h6⟩,h7⟩,h8⟩,G⟩:=h;refine⟨⟨λi o g e Z Y=>?_,λi j oi oj d q v=>?_,λo g=>h6 o g,λi o p op t g J W f A=>?_,λi o e g f=>?_⟩,y,ID x,l,h8⟩
 ·have:=z _ (Lo g);simp only[yX,yQ,zU,decide_eq_true_eq]at this;grind
 ·exact Ln (ID m) i j oi oj d (by simpa using q) (by simpa using v)
 ·have u:p<all.size:=(yA.1 f).1;have:=h7 _ (Lo g) t J p (yY.2 u);grind
 grind
def Orph(P:Program)(all:Array Oper)(O:Mem)(j b:Nat)(a:Act):Prop:=
 ∃o d e z,all[j]?=some o/\o.dst=some d/\o.op=.alloc e/\Ef P e=some z/\O b=some (.cells z.cells e (0,0))/\a.tmps.getD d undef=.pointer (some ⟨b,0,none⟩)
structure Inv (c:Bool)(P:Program)(R:Ending->Mem->Prop)(V0:Mem)(w0:World)(L:List (List Value->Mem->Prop))(ρ0:List Value)(fs:List Nat)(H:Ca)(all:Array Oper)(ms:List Nat)(k:St->Tr)
  (rest:List Nat) (fl:List (Nat×Bool)) (st:St) (listed:Array Bool) (a:Act) (w:World) (as:Act) (pend:List Nat) (O:Mem) (bo:Nat->Nat):Prop where
 lsize:listed.size=all.size
 closed:HN all listed
 chain:EU all ms rest=true
 nd:rest.Nodup
 bound:∀j∈rest,j<all.size
 unl:∀j,j<all.size->listed.getD j true=false->j∈pend∨j∈rest
 pu:∀j∈pend,listed.getD j true=false/\CD all j=true/\j∉rest/\(∀r∈rest,(Ct ms j).testBit r=false)/\∃b,(j,b)∈fl/\Fs P all j b as w
 ru:∀j∈rest,listed.getD j true=false∨(C8 all j=true/\Orph P all O j (bo j) a)
 boi:∀i∈rest,∀j∈rest,listed.getD i true=true->listed.getD j true=true->bo i=bo j->i=j
 fsize:as.tmps.size=a.tmps.size
 fdef:as.defers=a.defers
 fill:∀s,(∀j o,(j∈pend∨(j∈rest/\listed.getD j true=true))->all[j]?=some o->o.dst≠some s)->as.tmps.getD s undef=a.tmps.getD s undef
 goes:∃n,AV P R O V0 w0 H.N L ρ0 as.tmps w st (Dy P fs H all ms c n rest fl st k)
theorem Nh{all:Array Oper}{i:Nat}(h:CD all i=true):C8 all i=false:=by
 unfold CD at h;grind[C8,floatOp]
theorem HO{all:Array Oper}{ms:List Nat}{r:Nat}{g:List Nat}(h:EU all ms (r::g)=true):
  (CD all r=true∨∀j∈g,(((Ct ms j).testBit r=true∨C8 all j=true)∨(CD all j=false/\∀q∈g,(Ct ms j).testBit q=false))∨∃q∈g,(Ct ms j).testBit q=true/\C8 all q=false)/\(∀j∈g,(Ct ms r).testBit j=false)/\EU all ms g=true:=by
 simp_all[EU,zC,yQ,z6,List.any_eq_true,zU]
theorem sameSet_spec{l m:List Nat}(h:HB l m=true):l.length=m.length/\l.Nodup/\∀x∈l,x∈m:=by
 simp_all[HB,zC,z6,decide_eq_true_eq,ID]
section
variable{P:Program}{R:Ending->Mem->Prop}{O V0:Mem}{w0:World}{L:List (List Value->Mem->Prop)}{ρ0:List Value}{fs:List Nat}{H:Ca}
variable{all:Array Oper}{ms:List Nat}{k:St->Tr}{rest:List Nat}{fl:List (Nat×Bool)}{st:St}{listed:Array Bool}{a as:Act}{w:World}{pend:List Nat}{bo:Nat->Nat}
theorem Lr{N:Nat}{f:Nat->Tr}{t:Tr}:∀{l:List Nat},AV P R O V0 w0 N L ρ0 as.tmps w st (forks f t l)->AV P R O V0 w0 N L ρ0 as.tmps w st t/\∀j∈l,AV P R O V0 w0 N L ρ0 as.tmps w st (f j)
 |[],h=>⟨h,λj x=>by cases x⟩
 |j::m,⟨β,ρ,V,u,z,y⟩=>by
  obtain⟨q,v⟩:=Lr (l:=m) ⟨β,ρ,V,u,z,y.2⟩;refine⟨q,λi g=>?_⟩;rcases yD.1 g with rfl|g;·exact⟨β,ρ,V,u,z,y.1⟩
  ·exact v i g
theorem IG{N:Nat}{c:Bool}{n r:Nat}{g:List Nat}{o:Oper}(z:all[r]?=some o)(h:AV P R O V0 w0 N L ρ0 as.tmps w st (Dy P fs H all ms c n (r::g) fl st k)):
  ∃m,AV P R O V0 w0 N L ρ0 as.tmps w st (guardD all o st (HC P fs H all ms r o fl λfl st=>Dy P fs H all ms true m g fl st k) (drawNo H all ms r o fl λfl st=>Dy P fs H all ms true m g fl st k))/\
   (c=true->∀j∈altsOf all ms r g,∃l,HB (j::l) (r::g)=true/\EU all ms (j::l)=true/\AV P R O V0 w0 N L ρ0 as.tmps w st (Dy P fs H all ms false m (j::l) fl st k)):=by
 cases n with
 |zero=>obtain⟨β,ρ,V,y,x,f⟩:=h;exact f.elim
 |succ m=>
  unfold Dy at h;rw[z]at h;simp only at h;obtain⟨q,v⟩:=Lr h;refine⟨m,q,λJ j G=>?_⟩;subst J;have u:=v j G;split at u;·grind
  ·obtain⟨β,ρ,V,y,x,f⟩:=u;exact f.elim
theorem Ls{N:Nat}{o:Oper}{m A:St->Tr}(h:AV P R O V0 w0 N L ρ0 as.tmps w st (guardD all o st m A)):
  (yO o (yielded all as.tmps)=true/\∃z,AV P R O V0 w0 N L ρ0 as.tmps w z (m z))∨
  (yO o (yielded all as.tmps)=false/\∃z,AV P R O V0 w0 N L ρ0 as.tmps w z (A z)):=by
 unfold guardD at h;split at h;·grind[yO]
 ·rename_i j q I;split at h;·obtain⟨β,ρ,V,y,x,u⟩:=h;exact u.elim
  ·rename_i d M;have l:=JH (tmps:=as.tmps) M;have Z:yO o (yielded all as.tmps)=(yielded all as.tmps j==some q):=by simp[yO,I]
   obtain⟨β,ρ,V,y,x,u⟩:=h;split at u
   ·rename_i v hv;rw[x.getD_size hv]at l;simp only[T.ev]at l;split at u;·rename_i e;subst e;exact .inl ⟨by simp_all,st,β,ρ,V,y,x,u⟩
    ·rename_i e;exact .inr ⟨by simp_all,st,β,ρ,V,y,x,u⟩
   ·rename_i hv;rw[x.getD_size hv]at l;have:yielded all as.tmps j=none:=by rw[l];rfl
    exact .inr ⟨by grind,st,β,ρ,V,y,x,u⟩
   ·rename_i c _ _ hv;split at u
    ·rename_i F;obtain⟨Y,W,X⟩:=F;obtain⟨b,G⟩:=Fq (ρ:=ρ) (β:=β) Y;rw[x.getD_size hv,G]at l;simp only at l;simp only[D]at u;have J:=(T.ev_free (β:=id) (β':=β) (ρ:=ρ) c W).1;have g:Rel O V0 w0 N β (st.now d (.bool b)) ρ V as.tmps w:=x.now hv (by rw[G];rfl);cases b with
     |true=>
      have f:=u.1 (by rw[J,G];rfl);split at f;·rename_i e;exact .inl ⟨by simp_all,_,β,ρ,V,y.now _ _,g,f⟩
      ·rename_i e;exact .inr ⟨by simp_all,_,β,ρ,V,y.now _ _,g,f⟩
     |false=>
      have f:=u.2 (by rw[J,G];rfl);split at f;·rename_i e;exact .inr ⟨by simp_all,_,β,ρ,V,y.now _ _,g,f⟩
      ·rename_i e;exact .inl ⟨by simp_all,_,β,ρ,V,y.now _ _,g,f⟩
    ·exact u.elim
   ·exact u.elim
end
section
variable{P:Program}{R:Ending->Mem->Prop}{O V0:Mem}{w0:World}{L:List (List Value->Mem->Prop)}{ρ0:List Value}{fs:List Nat}{H:Ca}
variable{all:Array Oper}{ms:List Nat}{k:St->Tr}{rest:List Nat}{fl:List (Nat×Bool)}{st:St}{listed:Array Bool}{a as:Act}{w:World}{pend:List Nat}{bo:Nat->Nat}
theorem isFloat_dst{i:Nat}{o:Oper}(h:CD all i=true)(g:all[i]?=some o):∃d,o.dst=some d:=by
 simp_all[CD,zC,yB]
theorem HP{N d:Nat}{o:Oper}(h:Dm N o.dst=true)(g:o.dst=some d):d<N:=by
 grind[Dm]
theorem Inv.float(l:E2 P all ms){r:Nat}{C:List Nat}(h:Inv true P R V0 w0 L ρ0 fs H all ms k (r::C) fl st listed a w as pend O bo)(T:CD all r=true):
  ∃Z g Y,Inv true P R V0 w0 L ρ0 fs H all ms k C Z g listed a w Y (r::pend) O bo:=by
 obtain⟨hnr,U⟩:=yU.1 h.nd;obtain⟨_,hc2,hc3⟩:=HO h.chain;have hrl:listed.getD r true=false:=by
  rcases h.ru r zb with D|D;·exact D
  grind[Nh]
 have M:=h.bound r zb;obtain⟨o,J⟩:∃o,all[r]?=some o:=⟨_,yT M⟩;obtain⟨d,E⟩:=isFloat_dst T J;have W:∀A,o.dst=some A->A∉o.looksAt all:=λA q hm=>(l.look r o r o A J hm (.inl T) J q).2 rfl;obtain⟨n0,F⟩:=h.goes;obtain⟨m,hg,_⟩:=IG J F;clear F;have X:∀(b:Bool)(v:Value)(g:St),d<H.N->Gi all fl o.dst=true->yO o (yielded all as.tmps)=b->
   (b=true->∀w',CN w w'->(execOp as.eval o).run P w'=.ok (.value v) w')->(b=false->v=undef)->
   AV P R O V0 w0 H.N L ρ0 (as.put o.dst v).tmps w g (Dy P fs H all ms true m C ((r,b)::fl) g k)->
   ∃Z g Y,Inv true P R V0 w0 L ρ0 fs H all ms k C Z g listed a w Y (r::pend) O bo:=by
  intro b v g hdlt hap hw D h2 hG;have G:d<as.tmps.size:=by
   obtain⟨β,ρ,V,B,f,_⟩:=hG;have h5:as.tmps.size=H.N:=by have:=f.size;rwa [E1]at this
   grind
  have hPr:Fs P all r b (as.put o.dst v) w:=by
   refine⟨o,d,J,E,by rw[E1];exact G,by grind[wanted_put],λhb w' e=>?_,λhb=>?_⟩;·rw[execOp_put o (noSel l.sel J) as o.dst v W,D hb w' e,E,E0 G]
   grind[E0]
  refine⟨(r,b)::fl,g,as.put o.dst v,
   {lsize:=h.lsize,closed:=h.closed,chain:=hc3,nd:=U,bound:=λj u=>h.bound j (za _ u),unl:=λj u hl=>?_,pu:=λj u=>?_,ru:=λj u=>h.ru j (za _ u)
    boi:=λi hi j u=>h.boi i (za _ hi) j (za _ u),fsize:=by rw[E1];exact h.fsize,fdef:=by rw[Eg];exact h.fdef,fill:=λs hs=>?_,goes:=⟨_,hG⟩}⟩
  ·rcases h.unl j u hl with h3|h3;·simp_all
   grind
  ·rcases yD.1 u with rfl|u;·simp_all
   ·obtain⟨K,S,g3,g4,b',g5,g6⟩:=h.pu j u;refine⟨K,S,λhm=>g3 (za _ hm),λr' hr'=>g4 r' (za _ hr'),b',za _ g5,g6.put l.sel λo' I A q=>?_⟩;refine⟨IE hap g5 o' I A q,λe=>?_⟩;have:=l.dsts j r o' o A I J e q;simp_all
  ·have hne:o.dst≠some s:=hs r o (.inl zb) J;rw[EZ hne];refine h.fill s λj o' u I=>?_;grind
 rcases Ls hg with⟨hw,g,hy⟩|⟨hw,g,hn⟩
 ·unfold HC at hy;rw[if_pos T]at hy;obtain⟨β,ρ,V,B,f,z⟩:=hy;split at z;case isFalse=>exact z.elim
  rename_i y;simp only[zC]at y;split at z
  ·rename_i ns t hpu;obtain⟨K,S⟩:=JE z β;exact X true (t.ev ρ β) _ (HP y.1 E) y.2 hw (λ_ w' e=>Jz (f.ext e) hpu K) (λh=>by cases h) ⟨β,ρ,V,B.putO _ _,f.putO y.1 t rfl,S⟩
  ·split at z
   ·rename_i ty x hop;obtain⟨v,st2,K,S⟩:=exLoad_run hop y.1 ⟨β,ρ,V,B,f,z⟩;grind[HP]
   ·exact z.elim
 ·unfold drawNo at hn;obtain⟨β,ρ,V,B,f,z⟩:=hn;split at z;case isFalse=>exact z.elim
  rename_i y;simp only[zC]at y;exact X false undef _ (HP y.1 E) y.2 hw (λh=>by cases h) (λ_=>rfl) ⟨β,ρ,V,B.putO _ _,f.putO y.1 .und rfl,z⟩
theorem Inv.commit(x:E2 P all ms){r:Nat}{K:List Nat}(h:Inv true P R V0 w0 L ρ0 fs H all ms k (r::K) fl st listed a w as pend O bo)(hr:CD all r=false)(hl:listed.getD r true=true):
  ∃f S O',Inv true P R V0 w0 L ρ0 fs H all ms k K fl f listed a w S pend O' bo:=by
 obtain⟨hnr,U⟩:=yU.1 h.nd;obtain⟨_,hc2,hc3⟩:=HO h.chain;obtain⟨hal,o,d,e,z,ho,hd,l,hz,hO,hv⟩:C8 all r=true/\Orph P all O r (bo r) a:=by
  rcases h.ru r zb with Y|Y;·simp_all
  ·exact Y
 obtain⟨n0,A⟩:=h.goes;obtain⟨m,W,_⟩:=IG ho A;clear A;have y:o.guard=none:=by
  simp_all[C8,zC]
 unfold guardD at W;rw[y]at W;simp only at W;unfold HC at W;rw[if_neg (by rw[hr];simp),if_pos hal]at W;obtain⟨β,ρ,V,hp,I,g⟩:=W;split at g;case isFalse=>exact g.elim
 rename_i hap;unfold exOp at g;split at g;case isFalse=>exact g.elim
 rename_i M;have hpu:CC P st o.op=none:=by rw[l];rfl
 rw[hpu]at g;simp only[l]at g;obtain⟨cs,F⟩:=yB.1 (x.allocs r o e ho l);rw[F]at g;simp only at g;obtain⟨z',X,hzc⟩:=Iz (ρ:=ρ) (β:=β) F;rw[hz]at X;cases X;have D:((T.ofList cs).evs ρ β).toArray=z.cells:=by rw[CE,<-hzc,Array.toArray_toList]
 unfold GN at g;split at g;case isFalse=>exact g.elim
 rename_i q;simp only[zC]at q;have hr2:=I.adopt q.1 q.2 (ty:=e) (b:=bo r) (by simp_all);have hx:Value.pointer (some ⟨bo r,0,none⟩)=(T.box st.nb 0).ev ρ (upd β st.nb (bo r)):=by simp[T.ev,upd]
 have v:=hr2.putO M (T.box st.nb 0) hx;have J:Cn ρ0 L ρ (({st with boxes:=(st.nb,T.ofList cs,e)::st.boxes,nb:=st.nb+1}:St).putO o.dst (T.box st.nb 0)):=Cn.putO (st:={st with boxes:=(st.nb,T.ofList cs,e)::st.boxes,nb:=st.nb+1}) ⟨hp.1,hp.2⟩ _ _;simp only[hd]at g v J;have hdsz:d<as.tmps.size:=by rw[I.size];exact HP M hd
 obtain⟨f,hG⟩:∃f,AV P R (λc=>if c=bo r then none else O c) V0 w0 H.N L ρ0 (as.put (some d) (.pointer (some ⟨bo r,0,none⟩))).tmps w f (Dy P fs H all ms true m K fl f k):=by
  split at g;·exact HK _ _ _ _ ⟨_,_,_,J,v,g⟩
  ·exact⟨_,_,_,_,J,v,g⟩
 refine⟨f,as.put (some d) (.pointer (some ⟨bo r,0,none⟩)),_,
  {lsize:=h.lsize,closed:=h.closed,chain:=hc3,nd:=U,bound:=λj u=>h.bound j (za _ u),unl:=λj u hl'=>?_,pu:=λj u=>?_,ru:=λj u=>?_
   boi:=λi hi j u=>h.boi i (za _ hi) j (za _ u),fsize:=by rw[E1];exact h.fsize,fdef:=by rw[Eg];exact h.fdef,fill:=λs hs=>?_,goes:=⟨_,hG⟩}⟩
 ·rcases h.unl j u hl' with h3|h3;·exact .inl h3
  grind
 ·obtain⟨g1,g2,g3,g4,b',g5,g6⟩:=h.pu j u;refine⟨g1,g2,λhm=>g3 (za _ hm),λr' hr'=>g4 r' (za _ hr'),b',g5,g6.put x.sel λB G E Z=>?_⟩;rw[<-hd]at Z;refine⟨IE hap g5 B G E Z,λe=>?_⟩;have:=x.dsts j r B o E G ho e Z;simp_all
 ·rcases h.ru j (za _ u)with Y|⟨Y,B,E,e',z',k1,k2,k3,k4,k5,k6⟩;·exact .inl Y
  ·by_cases C:listed.getD j true=false;·exact .inl C
   ·refine .inr ⟨Y,B,E,e',z',k1,k2,k3,k4,?_,k6⟩;have hne:bo j≠bo r:=λe=>by
     have:=h.boi j (za _ u) r zb (by simpa using C) hl e;simp_all
    simp_all
 ·by_cases hsd:s=d;·grind[E0]
  ·rw[EZ (by grind)];refine h.fill s λj B u G=>?_;grind
theorem Inv.advance(f:E2 P all ms):∀(rest:List Nat){fl:List (Nat×Bool)}{st:St}{as:Act}{pend:List Nat}{O:Mem},Inv true P R V0 w0 L ρ0 fs H all ms k rest fl st listed a w as pend O bo->
  ∃g l u z y v,Inv true P R V0 w0 L ρ0 fs H all ms k g l u listed a w z y v bo/\(∀r x,g=r::x->CD all r=false/\listed.getD r true=false)
 |[],fl,st,as,pend,O,h=>⟨[],fl,st,as,pend,O,h,λr x e=>by cases e⟩
 |r::x,fl,st,as,pend,O,h=>by
  by_cases J:CD all r=true
  ·obtain⟨l,u,z,q⟩:=h.float f J;exact Inv.advance f x q
  ·have m:CD all r=false:=by simpa using J
   by_cases G:listed.getD r true=true
   ·obtain⟨u,z,v,q⟩:=h.commit f m G;exact Inv.advance f x q
   ·exact⟨r::x,fl,st,as,pend,O,h,λY Z e=>by cases e;exact⟨m,by simpa using G⟩⟩
end
theorem Lt{all:Array Oper}(z:∀o,o∈all.toList->ET o.op=false){i:Nat}{o:Oper}(y:all[i]?=some o){a as:Act}
  (h:∀t∈o.looksAt all,as.tmps.getD t undef=a.tmps.getD t undef):
  execOp a.eval o=execOp as.eval o/\yO o (yielded all a.tmps)=yO o (yielded all as.tmps):=by
 constructor
 ·refine execOp_congr o (noSel z y) λx l=>?_;cases x with
  |tmp t=>
   have:=h t (List.mem_append_left _ (yW.2 ⟨.tmp t,by simpa using l,rfl⟩));grind[Act.eval,undef]
  |_=>rfl
 ·unfold yO;cases m:o.guard with
  |none=>rfl
  |some q=>
   obtain⟨g,f⟩:=q;simp only;cases u:(all[g]?).bind (·.dst)with
   |none=>simp[yielded,u]
   |some d=>
    have:=h d (List.mem_append_right _ (by simp[m,u]));grind[JH]
theorem nodup_sub:∀{l m:List Nat},l.Nodup->(∀x∈l,x∈m)->l.length<=m.length
 |[],m,_,_=>Nat.zero_le _
 |x::l,m,g,h=>by
  obtain⟨u,f⟩:=yU.1 g;have hm:=h x zb;have:=nodup_sub (m:=m.erase x) f λy z=>by
   grind
  grind
theorem FN{l:List Nat}{i x:Nat}(h:i∉l)(g:x∈l):i≠x:=λe=>h (e▸g)
theorem set_same{l:Array Bool}{i:Nat}(h:i<l.size)(d:Bool):(l.setIfInBounds i true).getD i d=true:=by
 simp_all
theorem De{l:Array Bool}{i j:Nat}(h:i≠j)(d:Bool):(l.setIfInBounds i true).getD j d=l.getD j d:=by
 simp_all
theorem getD_any{l:Array Bool}{j:Nat}(h:l.getD j true=false):l.getD j false=false:=by
 grind
theorem ready_mem{all:Array Oper}{listed:Array Bool}{i:Nat}(h:i∈yZ .any all listed):
  i<all.size/\listed.getD i true=false/\∃o,all[i]?=some o/\∀e∈o.after,yR .any e=true->listed.getD e.on false=true:=by
 simp only[yZ,yz,yY,zC,zU]at h;grind[yT,yX]
theorem ready_ne{all:Array Oper}{listed:Array Bool}(g:IC all)(l:listed.size=all.size):∀j,j<all.size->listed.getD j true=false->yZ .any all listed≠[]:=by
 intro j;induction j using yS with
 |_ j m=>
  intro f q;have u:=yT f;by_cases h:∃e∈all[j].after,yR .any e=true/\listed.getD e.on false=false
  ·obtain⟨e,z,y,v⟩:=h;have x:=g j _ u e z y;grind
  ·intro J;have:j∈yZ .any all listed:=by
    grind[yZ,yR,absurd]
   simp_all
theorem wp_transfer{P:Program}{o:Oper}{a as:Act}{w:World}{K:Act->World->Prop}{Q:Exit->Act->World->Prop}(z:execOp a.eval o=execOp as.eval o)(J:∀d,o.dst=some d->d<as.tmps.size)
  (h:o.wp P as w (λy w'=>∃v,y=as.put o.dst v/\K (a.put o.dst v) w') (λe _ w'=>match e with|.panic ch=>Q (.panic ch) a w'|_=>False)) (l:LetsOut (λ(_:Exit) (_:Act) (_:World)=>False)->LetsOut Q):o.wp P a w K Q:=by
 have m:∀v u w',as.put o.dst v=as.put o.dst u->K (a.put o.dst u) w'->K (a.put o.dst v) w':=by
  intro v u w' e hK;cases g:o.dst with
  |none=>rw[g]at hK;exact hK
  |some d=>
   have q:=J d g;rw[g]at e hK;have:v=u:=by
    have Z:=congrArg (λx:Act=>x.tmps.getD d undef) e;grind[E0]
   simp_all
 unfold Oper.wp at*
 rw[z];generalize(execOp as.eval o).run P w=r at*
 cases r with
 |ok n w'=>
  cases n with
  |value v=>grind[yy]
  |skip=>grind[yy,undef]
  |defer d=>
   simp only[yy]at h⊢;obtain⟨u,q,Y⟩:=h;have e:=congrArg (λx:Act=>x.defers) q;simp only[Eg]at e;simp_all
  |enter f args=>
   simp only[yy]at h⊢;refine Calls.mono h λe G z=>?_;cases e with
   |returned v=>grind
   |panicked c=>exact z
   |outgrown=>exact l (by obtain⟨W,w',h⟩:=z;exact h.elim)
  |row nm args=>
   grind[yy]
  |_=>simp only[yy]at h⊢
 |halt x w'=>cases x<;>simp only[yy]at h⊢<;>exact h
section
variable{P:Program}{R:Ending->Mem->Prop}{O V0:Mem}{w0:World}{L:List (List Value->Mem->Prop)}{ρ0:List Value}{fs:List Nat}{H:Ca}
variable{all:Array Oper}{k:St->Tr}{rest:List Nat}{fl:List (Nat×Bool)}{st:St}{listed:Array Bool}{a as:Act}{w:World}{pend:List Nat}{bo:Nat->Nat}
theorem JI(x:listed.size=all.size)(h:HN all listed){i:Nat}{o:Oper}(l:all[i]?=some o)(hi:∀e∈o.after,yR .any e=true->listed.getD e.on false=true):
  HN all (listed.setIfInBounds i true):=by
 have up:∀j,listed.getD j false=true->(listed.setIfInBounds i true).getD j false=true:=by
  intro j g;by_cases e:i=j;·subst e;exact set_same (by grind) _
  simp_all
 intro j oj g f e u z;by_cases y:i=j;·simp_all
 ·rw[De y]at f;exact up _ (h j oj g f e u z)
theorem Lu{c:Bool}{ms:List Nat}(f:E2 P all ms)(h:Inv c P R V0 w0 L ρ0 fs H all ms k rest fl st listed a w as pend O bo){i:Nat}{o:Oper}(x:all[i]?=some o)
  (hm:∀j,(Ct ms i).testBit j=true->listed.getD j false=true) (y:∀j∈rest,j≠i->(Ct ms i).testBit j=false):∀t∈o.looksAt all,as.tmps.getD t undef=a.tmps.getD t undef:=by
 intro t l;refine h.fill t λj oj u z m=>?_;rcases u with u|⟨u,J⟩
 ·obtain⟨v,q,_⟩:=h.pu j u;have:=hm j (f.look i o j oj t x l (.inl q) z m).1;grind
 ·rcases h.ru j u with g|⟨g,_⟩;·simp_all
  ·obtain⟨v,q⟩:=f.look i o j oj t x l (.inr g) z m;simp_all
theorem Orph.put{ms:List Nat}(g:E2 P all ms){i j b:Nat}{o:Oper}(l:all[i]?=some o)(f:i≠j)(h:Orph P all O j b a)(v:Value):Orph P all O j b (a.put o.dst v):=by
 obtain⟨u,z,m,q,y,x,J,G,Z,Y⟩:=h;exact⟨u,z,m,q,y,x,J,G,Z,by rw[EZ λe=>f (g.dsts i j o u z l y e x)];exact Y⟩
theorem Inv.carry{ms:List Nat}(v:E2 P all ms)(h:Inv true P R V0 w0 L ρ0 fs H all ms k rest fl st listed a w as pend O bo){i:Nat}(hi:i∈pend){o:Oper}(Z:all[i]?=some o){d:Nat}(I:o.dst=some d)(Y:d<a.tmps.size)
  (J:∀e∈o.after,yR .any e=true->listed.getD e.on false=true):
  Inv true P R V0 w0 L ρ0 fs H all ms k rest fl st (listed.setIfInBounds i true) (a.put o.dst (as.tmps.getD d undef)) w as (pend.filter (·≠i)) O bo:=by
 have f:i∉rest:=(h.pu i hi).2.2.1;have M:i<listed.size:=by rw[h.lsize];grind
 exact
 {lsize:=by rw[yx];exact h.lsize
  closed:=JI h.lsize h.closed Z J
  chain:=h.chain,nd:=h.nd,bound:=h.bound
  unl:=λj g m=>by
   by_cases e:i=j;·simp_all
   ·rw[De e]at m;rcases h.unl j g m with q|q;·grind
    ·exact .inr q
  pu:=λj g=>by
   obtain⟨q,F⟩:=yz.1 g;have u:i≠j:=λe=>by simp[e]at F
   rw[De u];exact h.pu j q
  ru:=λj g=>by
   have u:i≠j:=FN f g;rw[De u];exact(h.ru j g).imp id λ⟨X,B⟩=>⟨X,B.put v Z u _⟩
  boi:=λx W y A z l=>by
   rw[De (FN f W)]at z;rw[De (FN f A)]at l;exact h.boi x W y A z l
  fsize:=by rw[E1];exact h.fsize
  fdef:=by rw[Eg];exact h.fdef
  fill:=λs C=>by
   by_cases e:d=s;·grind[E0]
   ·rw[I,EZ (by simpa using e)];refine h.fill s λj D g G=>?_;rcases g with g|⟨g,m⟩;·grind
    ·exact C j D (.inr ⟨g,by rw[De (FN f g)];exact m⟩) G
  goes:=h.goes}
theorem Inv.make{ms:List Nat}(W:E2 P all ms)(h:Inv true P R V0 w0 L ρ0 fs H all ms k rest fl st listed a w as pend O bo){i:Nat}(hi:i∈rest)(A:i∉pend){o:Oper}(ho:all[i]?=some o){d:Nat}(hd:o.dst=some d)(J:d<a.tmps.size)
  (I:C8 all i=true) {e:TypeId} (hop:o.op=.alloc e) {z:Value} (hz:Ef P e=some z)
  (M:∀e∈o.after,yR .any e=true->listed.getD e.on false=true):
  Inv true P R V0 w0 L ρ0 fs H all ms k rest fl st (listed.setIfInBounds i true) (a.put o.dst (.pointer (some ⟨w.heap.size,0,none⟩))) (w.alloc (.cells z.cells e (0,0))) as pend (O.set w.heap.size (.cells z.cells e (0,0))) (upd bo i w.heap.size):=by
 have F:i<listed.size:=by rw[h.lsize];grind
 obtain⟨T,β,ρ,V,hp,D,U⟩:=h.goes;have hO:∀b o,O b=some o->b<w.heap.size:=λb o hb=>(yA.1 (D.hid b o hb).1).1;have f:∀j∈rest,j≠i->(listed.setIfInBounds i true).getD j true=true->C8 all j=true/\Orph P all O j (bo j) a:=by
  intro j u l m;rw[De (λe=>l e.symm)]at m;rcases h.ru j u with g|g;·simp_all
  ·exact g
 exact
 {lsize:=by rw[yx];exact h.lsize
  closed:=JI h.lsize h.closed ho M
  chain:=h.chain,nd:=h.nd,bound:=h.bound
  unl:=λj u m=>by
   by_cases e:i=j;·simp_all
   ·rw[De e]at m;exact h.unl j u m
  pu:=λj u=>by
   have l:i≠j:=FN A u;rw[De l];obtain⟨X,g2,g3,g4,b,g5,g6⟩:=h.pu j u;exact⟨X,g2,g3,g4,b,g5,g6.ext (CN.alloc _ _)⟩
  ru:=λj u=>by
   by_cases G:i=j
   ·subst G;exact .inr ⟨I,o,d,e,z,ho,hd,hop,hz,by simp only[upd,if_true,Mem.set_same],by simp only[upd,if_true];rw[hd,E0 J]⟩
   ·cases m:(listed.setIfInBounds i true).getD j true with
    |false=>exact .inl rfl
    |true=>
     obtain⟨X,g2⟩:=f j u (λe=>G e.symm) m;obtain⟨o',d',e'',z',k1,k2,k3,k4,k5,k6⟩:=g2.put W ho G (.pointer (some ⟨w.heap.size,0,none⟩));have B:¬j=i:=λe=>G e.symm;refine .inr ⟨X,o',d',e'',z',k1,k2,k3,k4,?_,?_⟩
     ·simp only[upd,if_neg B];grind[Mem.set_ne,Nat.ne_of_lt]
     grind[upd]
  boi:=λx E y K q v Z=>by
   by_cases ex:x=i<;>by_cases Y:y=i;·rw[ex,Y]
   ·subst ex;obtain⟨_,_,_,_,_,_,_,_,_,k5,_⟩:=f y K Y v;grind[upd]
   ·subst Y;obtain⟨_,_,_,_,_,_,_,_,_,k5,_⟩:=f x E ex q;grind[upd,ex]
   ·simp only[upd,if_neg ex,if_neg Y]at Z;rw[De (λe=>ex e.symm)]at q;rw[De (λe=>Y e.symm)]at v;exact h.boi x E y K q v Z
  fsize:=by rw[E1];exact h.fsize
  fdef:=by rw[Eg];exact h.fdef
  fill:=λs S=>by
   rw[EZ (S i o (.inr ⟨hi,set_same F _⟩) ho)];refine h.fill s λj o' u C=>?_;rcases u with u|⟨u,m⟩;·grind
   ·refine S j o' (.inr ⟨u,?_⟩) C;by_cases G:i=j;·simp_all
    simp_all
  goes:=⟨T,β,ρ,V,hp,D.orphan _,U⟩}
theorem Inv.lock{c:Bool}{ms:List Nat}(G:E2 P all ms){r:Nat}{Z:List Nat}(h:Inv c P R V0 w0 L ρ0 fs H all ms k (r::Z) fl st listed a w as pend O bo){o:Oper}(X:all[r]?=some o)(E:listed.getD r true=false)
  (Y:∀d,o.dst=some d->d<a.tmps.size) (W:∀e∈o.after,yR .any e=true->listed.getD e.on false=true) {v:Value} {w':World} {u:St} {z:List (Nat×Bool)} {n:Nat}
  (hp:∀j∈pend,∃b,(j,b)∈z/\Fs P all j b (as.put o.dst v) w') (K:AV P R O V0 w0 H.N L ρ0 (as.put o.dst v).tmps w' u (Dy P fs H all ms true n Z z u k)):
  Inv true P R V0 w0 L ρ0 fs H all ms k Z z u (listed.setIfInBounds r true) (a.put o.dst v) w' (as.put o.dst v) pend O bo:=by
 obtain⟨l,A⟩:=yU.1 h.nd;obtain⟨_,_,I⟩:=HO h.chain;have S:r<listed.size:=by grind
 exact
 {lsize:=by rw[yx];exact h.lsize
  closed:=JI h.lsize h.closed X W
  chain:=I,nd:=A,bound:=λj g=>h.bound j (za _ g)
  unl:=λj g M=>by
   by_cases e:r=j;·simp_all
   ·rw[De e]at M;rcases h.unl j g M with m|m;·exact .inl m
    grind
  pu:=λj g=>by
   obtain⟨B,g2,g3,g4,_⟩:=h.pu j g;have f:r≠j:=λe=>g3 (e▸zb);simp_all
  ru:=λj g=>by
   have f:r≠j:=FN l g;rw[De f];exact(h.ru j (za _ g)).imp id λ⟨B,g2⟩=>⟨B,g2.put G X f _⟩
  boi:=λx C y D q J=>by
   rw[De (FN l C)]at q;rw[De (FN l D)]at J;exact h.boi x (za _ C) y (za _ D) q J
  fsize:=by rw[E1,E1];exact h.fsize
  fdef:=by rw[Eg,Eg];exact h.fdef
  fill:=λs T=>by
   by_cases e:o.dst=some s
   ·have m:=Y s e;rw[e,E0 m,E0 (by rw[h.fsize];exact m)]
   ·rw[EZ e,EZ e];refine h.fill s λj U g F=>?_;rcases g with g|⟨g,M⟩;·grind
    ·rcases yD.1 g with rfl|g;·simp_all
     ·have f:r≠j:=λe'=>by simp_all
      exact T j U (.inr ⟨g,by simp_all⟩) F
  goes:=⟨n,K⟩}
theorem Inv.reorder{ms:List Nat}(h:Inv true P R V0 w0 L ρ0 fs H all ms k rest fl st listed a w as pend O bo){g:List Nat}(z:HB g rest=true)(q:EU all ms g=true){n:Nat}
  (v:AV P R O V0 w0 H.N L ρ0 as.tmps w st (Dy P fs H all ms false n g fl st k)):Inv false P R V0 w0 L ρ0 fs H all ms k g fl st listed a w as pend O bo:=by
 obtain⟨Y,l,u⟩:=sameSet_spec z;have m:∀x∈rest,x∈g:=λx W=>by
  by_cases hm:x∈g;·exact hm
  ·exfalso;have J:(x::g).length<=rest.length:=nodup_sub (yU.2 ⟨hm,l⟩) λy A=>by
    grind
   grind
 exact
 {lsize:=h.lsize,closed:=h.closed,chain:=q,nd:=l,bound:=λj f=>h.bound j (u j f),unl:=λj f G=>(h.unl j f G).imp id (m j)
  pu:=λj f=>by
   obtain⟨I,g2,g3,g4,M⟩:=h.pu j f;grind
  ru:=λj f=>h.ru j (u j f),boi:=λi Z j f=>h.boi i (u i Z) j (u j f),fsize:=h.fsize,fdef:=h.fdef
  fill:=λs z=>h.fill s λj o f=>z j o (f.imp id λx=>⟨m j x.1,x.2⟩),goes:=⟨n,v⟩}
end
section
variable{P:Program}{R:Ending->Mem->Prop}{V0:Mem}{w0:World}{L:List (List Value->Mem->Prop)}{ρ0:List Value}{fs:List Nat}{H:Ca}
variable{all:Array Oper}{k:St->Tr}{Q:Exit->Act->World->Prop}
theorem JJ:∀(n:Nat)(l:List Nat),l.Nodup->(∀x∈l,x<n)->l.length<=n
 |0,l,_,h=>by
  cases l with
  |nil=>exact yV _
  |cons x l=>exact absurd (h x zb) (Nat.not_lt_zero _)
 |n+1,l,f,h=>by
  by_cases hm:n∈l
  ·have u:=JJ n (l.erase n) (f.erase n) λx g=>by
    obtain⟨m,z⟩:=f.mem_erase_iff.1 g;have:=h x z;omega
   rw[List.length_erase_of_mem hm]at u;omega
  ·have u:=JJ n l f λx g=>by
    have:=h x g;have y:x≠n:=λe=>hm (e▸g);omega
   omega
theorem nodup_all{l:List Nat}{n:Nat}(g:l.Nodup)(h:∀x∈l,x<n)(f:l.length=n){j:Nat}(u:j<n):j∈l:=by
 by_cases hm:j∈l;·exact hm
 ·have:=JJ n (j::l) (yU.2 ⟨hm,g⟩) λx z=>by
   grind
  grind
theorem Ni{listed:Array Bool}(g:IC all)(f:HN all listed){i:Nat}{o:Oper}(u:all[i]?=some o)(h:∀e∈o.after,yR .any e=true->listed.getD e.on false=true):
  ∀j,(Ct (B5 all.toList []) i).testBit j=true->listed.getD j false=true:=mask_listed g f i o u h
theorem any_sound(U:Dz P fs)(u:E2 P all (B5 all.toList []))(hdst:∀(i:Nat)(o:Oper),all[i]?=some o->Dm H.N o.dst=true){a0:Act}(hQ:EY R V0 w0 a0.defers Q)(hlo:LetsOut (λ(_:Exit)(_:Act)(_:World)=>False)->LetsOut Q)
  (hk:∀y a' w',a'.defers=a0.defers->AV P R CZ V0 w0 H.N L ρ0 a'.tmps w' y (k y)->Q .normal a' w'):
  ∀(fuel:Nat)(rem:List Nat)(rest:List Nat)(fl:List (Nat×Bool))(st:St)(listed:Array Bool)(a:Act)(w:World)(as:Act)(pend:List Nat)(O:Mem)(bo:Nat->Nat),
   Inv true P R V0 w0 L ρ0 fs H all (B5 all.toList []) k rest fl st listed a w as pend O bo->as.defers=a0.defers->rem.Nodup->rem.length=fuel->(∀j,j∈rem↔(j<all.size/\listed.getD j true=false))->
   wpAny P .any all Q fuel listed a w:=by
 intro fuel;induction fuel with
 |zero=>
  intro rem rest fl st listed a w as pend O bo h f hnd F A;have hnil:rem=[]:=List.length_eq_zero_iff.1 F;subst hnil;obtain⟨X,fl',y,as',B,O',h',x⟩:=h.advance u;have hnone:∀j,j<all.size->listed.getD j true=false->False:=λj h1 h2=>by simp_all
  have hr:X=[]:=by
   cases X with
   |nil=>rfl
   |cons r T=>exact(hnone r (h'.bound r zb) (x r T rfl).2).elim
  subst hr;have hp:B=[]:=by
   cases B with
   |nil=>rfl
   |cons j T=>
    obtain⟨g1,_,_,_,b,_,o,d,g2,_⟩:=h'.pu j zb;grind
  subst hp;refine⟨?_,?_⟩
  ·cases hrd:yZ .any all listed with
   |nil=>rfl
   |cons i T=>
    obtain⟨g1,g2,_⟩:=ready_mem (all:=all) (listed:=listed) (i:=i) (by simp_all);simp_all
  ·have htm:as'.tmps=a.tmps:=by
    refine Array.ext h'.fsize λi h1 h2=>?_;have:=h'.fill i λj o M=>by simp_all
    simp_all
   obtain⟨n0,β,ρ,V,hp,hr,C⟩:=h'.goes;have C:D P R (k (y.compact H.keep)) L ρ V:=by cases n0<;>exact C
   refine hk (y.compact H.keep) a w (by rw[<-h.fdef];exact f) ⟨β,ρ,V,hp.compact _,?_,C⟩;rw[<-htm];exact(hr.compact _).less λb o hb=>by cases hb
 |succ fuel ih=>
  intro rem rest0 fl0 st0 listed a w as0 pend0 O0 bo h0 hdef0 hnd F A;obtain⟨rest,fl,st,as,pend,O,h,x⟩:=h0.advance u;have f:as.defers=a0.defers:=by rw[h.fdef,<-h0.fdef];exact hdef0
  have next:∀{i:Nat}{rest:List Nat}{fl:List (Nat×Bool)}{st:St}{a:Act}{w:World}{as:Act}{pend:List Nat}{O:Mem}{bo:Nat->Nat},i<all.size->listed.getD i true=false->
    Inv true P R V0 w0 L ρ0 fs H all (B5 all.toList []) k rest fl st (listed.setIfInBounds i true) a w as pend O bo->as.defers=a0.defers->wpAny P .any all Q fuel (listed.setIfInBounds i true) a w:=by
   intro i rest fl st a w as pend O bo hi J hI hd;have him:i∈rem:=(A i).2 ⟨hi,J⟩;refine ih (rem.erase i) rest fl st _ a w as pend O bo hI hd (hnd.erase i) (by simp_all) λj=>?_;rw[hnd.mem_erase_iff,A j];by_cases e:i=j;·simp_all
   ·rw[De e];grind
  refine⟨λhn=>?_,λi hi=>?_⟩
  ·obtain⟨j,M⟩:∃j,j∈rem:=by
    cases rem with
    |nil=>cases F
    |cons j _=>grind
   obtain⟨h1,h2⟩:=(A j).1 M;exact absurd hn (ready_ne u.edges h.lsize j h1 h2)
  ·obtain⟨Z,J,o,Y,E⟩:=ready_mem hi;have G:=Ni u.edges h.closed Y E;have K:as.tmps.size=H.N:=by obtain⟨_,β,ρ,V,_,hr,_⟩:=h.goes;exact hr.size
   have S:∀d,o.dst=some d->d<a.tmps.size:=λd hd=>by
    rw[<-h.fsize,K];exact HP (hdst i o Y) hd
   unfold wpOp;simp only[Y];by_cases W:i∈pend
   ·-- it floats and stands out
    obtain⟨g1,g2,g3,g4,b,g5,o',d,k1,k2,k3,k4,k5,k6⟩:=h.pu i W;rw[Y]at k1;cases k1;obtain⟨e1,e2⟩:=Lt u.sel Y (Lu u h Y G λj M _=>g4 j M);rw[e2,k4];have hI:=h.carry u W Y k2 (S d k2) E;cases b with
    |true=>
     rw[if_pos rfl];refine .inl ?_;unfold Oper.wp;rw[e1,k5 rfl w (CN.refl w)];exact next Z J hI f
    |false=>
     grind
   ·have hir:i∈rest:=(h.unl i Z J).resolve_left W;by_cases hal:C8 all i=true
    ·-- a block is made
     have I:=hal;unfold C8 at I;rw[Y]at I;simp only[zC]at I;obtain⟨⟨⟨q1,q2⟩,q3⟩,q4⟩:=I;obtain⟨d,hd⟩:=yB.1 q4;cases hop:o.op with
     |alloc e=>
      obtain⟨cs,hcs⟩:=yB.1 (u.allocs i o e Y hop);obtain⟨z,hz,hzc⟩:=Iz (ρ:=[]) (β:=id) hcs;have hI:=h.make u hir W Y hd (S d hd) hal hop hz E;have hg:o.guard=none:=by simpa using q2
      rw[show yO o (yielded all a.tmps)=true by simp[yO,hg],if_pos rfl];refine .inl ?_;have hrun:(execOp a.eval o).run P w=.ok (.value (.pointer (some ⟨w.heap.size,0,none⟩))) (w.alloc (.cells z.cells e (0,0))):=by
       unfold execOp;simp only[hop,Instr.alloc,Il hz,newVar,newRow,zK,run_newObj,zM,zL];rfl
      unfold Oper.wp;rw[hrun];exact next Z J hI f
     |_=>simp[hop]at q1
    ·-- both go on
     have go:∀{c:Bool}{T:List Nat}{fl:List (Nat×Bool)}{st:St}{as:Act}{pend:List Nat}{O:Mem}{bo:Nat->Nat},Inv c P R V0 w0 L ρ0 fs H all (B5 all.toList []) k (i::T) fl st listed a w as pend O bo->i∉pend->as.defers=a0.defers->CD all i=false->
       (if yO o (yielded all a.tmps)then o.wp P a w (wpAny P .any all Q fuel (listed.setIfInBounds i true)) Q∨(o.asks P a w/\LetsOut Q)else wpAny P .any all Q fuel (listed.setIfInBounds i true) (a.put o.dst undef) w):=by
      clear h f K W hir x;intro c T fl st as pend O bo h W f hrf;obtain⟨_,hc2,hc3⟩:=HO h.chain;have hnotin:∀j∈pend,(Ct (B5 all.toList []) i).testBit j=false:=λj M=>by
       cases hb:(Ct (B5 all.toList []) i).testBit j with
       |false=>rfl
       |true=>
        have:=G j hb;rw[getD_any (h.pu j M).1]at this;cases this
      obtain⟨e1,e2⟩:=Lt u.sel Y (Lu u h Y G λj M hne=>by
       simp_all)
      rw[e2];obtain⟨n0,hg0⟩:=h.goes;obtain⟨m,hg,_⟩:=IG Y hg0;have hneq:∀j∈pend,∀oj,all[j]?=some oj->∀d',o.dst=some d'->oj.dst≠some d':=λj M oj hoj d' hd' e=>by
       have:=u.dsts j i oj o d' hoj Y e hd';simp_all
      rcases Ls hg with⟨hw,y,hy⟩|⟨hw,y,hn⟩
      ·rw[hw,if_pos rfl];refine .inl ?_;unfold HC at hy;rw[if_neg (by rw[hrf];simp),if_neg hal]at hy;have hy':Gi all (Fp (B5 all.toList []) i fl) o.dst=true/\AV P R O V0 w0 H.N L ρ0 as.tmps w y (exOp P fs H y o λst=>Gh P all (Fp (B5 all.toList []) i fl) st (Dy P fs H all (B5 all.toList []) true m T (Fp (B5 all.toList []) i fl) st k)):=by
        split at hy;·simp_all
        ·obtain⟨β,ρ,V,_,_,C⟩:=hy;exact C.elim
       obtain⟨hap,hy2⟩:=hy';refine wp_transfer e1 (λd hd=>by rw[h.fsize];exact S d hd) ?_ hlo;refine Li U (λch a' w' _ hR=>hQ ch a w' (by rw[<-h.fdef];exact f) hR) hy2 λst2 as2 w2 ⟨v,hv⟩ hG=>⟨v,hv,?_⟩;subst hv;obtain⟨β,ρ,V,hp2,hr2,hD2⟩:=hG;obtain⟨hD3,hrec⟩:=IF hr2 hD2;refine next Z J (h.lock u Y J S E (λj M=>?_) ⟨β,ρ,V,hp2,hr2,hD3⟩) (by rw[Eg];exact f)
       obtain⟨_,_,_,_,b,g5,oj,d,k1,k2,k3,k4,k5,k6⟩:=h.pu j M;have hst:(j,b)∈Fp (B5 all.toList []) i fl:=yz.2 ⟨g5,by simp_all⟩;refine⟨b,hst,oj,d,k1,k2,by rw[E1];exact k3,?_,λhb w' ew=>?_,λhb=>?_⟩;·grind[wanted_put,IE]
       ·grind
       grind[EZ]
      ·rw[hw,if_neg (by simp)];unfold drawNo at hn;obtain⟨β,ρ,V,hp,hr,C⟩:=hn;split at C;case isFalse=>exact C.elim
       rename_i hc;simp only[zC]at hc;rw[hrf]at C;simp only[zN,if_false]at C;refine next Z J (h.lock u Y J S E (v:=undef) (λj M=>?_) ⟨β,ρ,V,hp.putO _ _,hr.putO hc.1 .und rfl,C⟩) (by rw[Eg];exact f)
       obtain⟨_,_,_,_,b,g5,g6⟩:=h.pu j M;have hst:(j,b)∈Fp (B5 all.toList []) i fl:=yz.2 ⟨g5,by simp_all⟩;exact⟨b,hst,g6.put u.sel λoj hoj d' hd'=>⟨IE hc.2 g5 oj hoj d' hd',hneq j M oj hoj d' hd'⟩⟩
     cases rest with
     |nil=>cases hir
     |cons r T=>
      obtain⟨hrf,hrl⟩:=x r T rfl;rcases yD.1 hir with e|e;·grind
      ·obtain⟨hc1,hc2,hc3⟩:=HO h.chain;have hnr:(Ct (B5 all.toList []) i).testBit r=false:=by
        grind
       rcases hc1 with hc1|hc1;·simp_all
       ·rcases hc1 i e with((q|q)|⟨hif,hall⟩)|⟨q,q1,q2,q3⟩;·simp_all
        ·grind
        ·obtain⟨or',hor⟩:∃or',all[r]?=some or':=⟨_,yT (h.bound r zb)⟩;obtain⟨n0,hg0⟩:=h.goes;obtain⟨m,_,hfork⟩:=IG hor hg0;have hmem:i∈altsOf all (B5 all.toList []) r T:=by
          grind[altsOf]
         obtain⟨l,f1,f2,f3⟩:=hfork rfl i hmem;exact go (h.reorder f1 f2 f3) W f hif
        ·exfalso;have hql:=G q q2;rcases h.ru q (za _ q1)with g|⟨g,_⟩;·grind
         simp_all
theorem Rel.drawn{O V0:Mem}{w0:World}{N:Nat}{β:Nat->Nat}{st:St}{ρ:List Value}{V:Mem}{w:World}{tmps:Array Value}(h:Rel O V0 w0 N β st ρ V tmps w)(n:Nat):Rel O V0 w0 N β st ρ V tmps {w with drawn:=n}:=
 h.ext ⟨λ_ _ h=>h,yV _,rfl,rfl⟩
theorem Nj(g:Dz P fs)(hm:P.follows .mixedOrders=true){id:Nat}{st:St}{a:Act}{w:World}(A:EY R V0 w0 a.defers Q)(h:AV P R CZ V0 w0 H.N L ρ0 a.tmps w st (HD P fs H all st k))
  (y:LetsOut (λ(_:Exit) (_:Act) (_:World)=>False)->LetsOut Q)
  (I:∀z l w',l.defers=a.defers->AV P R CZ V0 w0 H.N L ρ0 l.tmps w' z (k z)->Q .normal l w'):(Code.region id all true).wp P Q a w:=by
 unfold HD at h;simp only at h;obtain⟨β,ρ,V,hp,M,m⟩:=h;split at m;case isFalse=>exact m.elim
 rename_i Y;simp only[zC,z6]at Y;obtain⟨q,v⟩:=Y;obtain⟨J,F,W,G,X⟩:=Lq q;have u:∀j d,j<all.size->(Array.replicate all.size false).getD j d=false:=λj d f=>by simp_all
 refine wp_region_any hm (any_sound g J (λi o B=>v o (by grind)) A y I all.size (List.range all.size) (GP all (B5 all.toList []) all.size 0) [] st _ a _ a [] CZ (λx=>x) ?_ rfl List.nodup_range (by simp) λj=>?_)
 ·exact
  {lsize:=by simp
   closed:=λj oj f Z=>by
    rw[u j _ (yA.1 f).1]at Z;cases Z
   chain:=X
   nd:=W
   bound:=G
   unl:=λj f _=>.inr (nodup_all W G F f)
   pu:=λj f=>by cases f
   ru:=λj f=>.inl (u j _ (G j f))
   boi:=λi C j f Z=>by omega
   fsize:=rfl
   fdef:=rfl
   fill:=λs _=>rfl
   goes:=⟨_,β,ρ,V,hp,M.drawn _,m⟩}
 simp_all
end
def Ex.toExit:Ex->Exit
 |.normal=>.normal
 |.exit i=>.exit i
 |.ret=>.ret
theorem JK(p:Nat->Prop)(h:∃n,p n):∃n,p n/\∀m,p m->n<=m:=by
 obtain⟨n,g⟩:=h;induction n using yS with
 |_ n f=>
  grind
open Classical in
theorem wp_loop_rel{P:Program}{c:Code}{Q:Exit->Act->World->Prop}{a:Act}{w:World}(Inv:Nat->Act->World->Prop)(u:∃n,Inv n a w)
  (round:∀n a w,Inv n a w->c.wp P (Exit.then (λg w'=>∃f,f<n/\Inv f g w') Q) a w):(Code.loop c).wp P Q a w:=by
 let m:Act->World->Nat:=λa w=>if h:∃n,Inv n a w then Classical.choose (JK _ h)else 0
 have hm:∀a w (h:∃n,Inv n a w),Inv (m a w) a w/\∀k,Inv k a w->m a w<=k:=λa w h=>by
  grind
 refine wp_loop (λa w=>∃n,Inv n a w) m u λa w z=>?_;obtain⟨y,x⟩:=hm a w z;refine Code.wp_mono (λe g w' q=>?_) (round _ a w y);grind
section
variable{P:Program}{R:Ending->Mem->Prop}{O V0:Mem}{w0:World}{fs:List Nat}{H:Ca}
theorem AV.weak{L:List (List Value->Mem->Prop)}{ρ0 f:List Value}{N:Nat}{tmps:Array Value}{w:World}{st:St}{t:Tr}(h:AV P R O V0 w0 N L f tmps w st t)(u:ρ0<+:f):AV P R O V0 w0 N L ρ0 tmps w st t:=by
 obtain⟨β,ρ,V,g,z,y⟩:=h;exact⟨β,ρ,V,⟨u.trans g.1,g.2⟩,z,y⟩
theorem ex_sound(Z:Dz P fs)(hm:P.follows .mixedOrders=true):∀(c:Code)(L:List (List Value->Mem->Prop))(ρ0:List Value)(st:St)(k:Ex->St->Tr)(a:Act)(w:World)(Q:Exit->Act->World->Prop),
  EY R V0 w0 a.defers Q->AV P R CZ V0 w0 H.N L ρ0 a.tmps w st (ex P fs H c st k)->
  (∀e g l w' F,L<+:F->l.defers=a.defers->AV P R CZ V0 w0 H.N F ρ0 l.tmps w' g (k e g)->Q e.toExit l w')->c.wp P Q a w:=by
 intro c;induction c with
 |skip=>intro L ρ0 st k a w Q z h f;exact wp_skip (f .normal st a w L (yw _) rfl h)
 |ret=>intro L ρ0 st k a w Q z h f;exact wp_ret (f .ret st a w L (yw _) rfl h)
 |exit id=>intro L ρ0 st k a w Q z h f;exact wp_exit (f (.exit id) st a w L (yw _) rfl h)
 |seq x y X B=>
  intro L ρ0 st k a w Q z h f;refine wp_seq (X L ρ0 st _ a w _ z h λe g l w' F hL M q=>?_);cases e with
  |normal=>exact B F ρ0 g k l w' Q (by grind) q λe st'' a'' w'' L'' hL' hd' hg'=>f e st'' a'' w'' L'' (hL.trans hL') (hd'.trans M) hg'
  |exit i=>exact f (.exit i) g l w' F hL M q
  |ret=>exact f .ret g l w' F hL M q
 |block id b ih=>
  intro L ρ0 st k a w Q z h f;refine wp_block (ih L ρ0 st _ a w _ z h λe g l w' F hL M q=>?_);cases e with
  |normal=>exact f .normal g l w' F hL M q
  |exit i=>
   simp only at q;show(if i=id then Q .normal l w' else Q (.exit i) l w');split;·rename_i e;rw[if_pos e]at q;exact f .normal g l w' F hL M q
   ·rename_i e;rw[if_neg e]at q;exact f (.exit i) g l w' F hL M q
  |ret=>exact f .ret g l w' F hL M q
 |cond c x y X B=>
  intro L ρ0 st k a w Q z h f;obtain⟨β,ρ,V,A,Y,u⟩:=h;simp only[ex]at u;split at u
  ·rename_i v hv;have he:a.eval c=.bool v:=A3 Y hv;cases v with
   |true=>exact wp_cond_true he (X L ρ0 st k a w Q z ⟨β,ρ,V,A,Y,u⟩ f)
   |false=>exact wp_cond_false he (B L ρ0 st k a w Q z ⟨β,ρ,V,A,Y,u⟩ f)
  ·rename_i t _ ht;split at u
   ·rename_i hc;obtain⟨hc1,hc2⟩:=hc;obtain⟨b,hb⟩:=Fq (ρ:=ρ) (β:=β) hc1;have he:a.eval c=.bool b:=(A3 Y ht).trans hb;have hfr:=(T.ev_free (β:=id) (β':=β) (ρ:=ρ) t hc2).1;split at u
    ·rename_i d;simp only[D,hfr,hb,asB]at u;have W:Rel CZ V0 w0 H.N β (st.now d (.bool b)) ρ V a.tmps w:=Y.now (t:=t) ht (by rw[hb];rfl);cases b with
     |true=>exact wp_cond_true he (X L ρ0 _ k a w Q z ⟨β,ρ,V,A.now _ _,W,u.1 rfl⟩ f)
     |false=>exact wp_cond_false he (B L ρ0 _ k a w Q z ⟨β,ρ,V,A.now _ _,W,u.2 rfl⟩ f)
    ·simp only[D,hfr,hb,asB]at u;cases b with
     |true=>exact wp_cond_true he (X L ρ0 _ k a w Q z ⟨β,ρ,V,A,Y,u.1 rfl⟩ f)
     |false=>exact wp_cond_false he (B L ρ0 _ k a w Q z ⟨β,ρ,V,A,Y,u.2 rfl⟩ f)
   ·exact u.elim
  ·exact u.elim
 |region id ops draw=>
  intro L ρ0 st k a w Q z h f;cases draw with
  |true=>exact Nj Z hm z h (λ⟨_,_,h⟩=>h.elim) λg l w' M q=>f .normal g l w' L (yw _) M q
  |false=>
   refine wp_region_list (HL Z ops.toList st a w z h λg l w' M q=>f .normal g l w' L (yw _) M q)
 |loop b ih=>
  intro L ρ0 st k a w Q z h f;obtain⟨β,ρ,V,A,Y,u⟩:=h;simp only[ex,exLoop]at u;generalize dedup (FH b)=ws at u;generalize(((FI b).bind λi=>H.loops.lookup i).getD [])=hint at u;obtain⟨g,t,q,hfree,β',E,V',K,hr',m⟩:=DK _ _ _ _ ⟨β,ρ,V,A,Y,u⟩;split at m;case isFalse=>exact m.elim
  rename_i hw;split at m;·exact m.elim
  ·rename_i st1 bs hgb;split at m;·exact m.elim
   ·rename_i init hinit;split at m;case isFalse=>exact m.elim
    rename_i hok;simp only[D]at m;obtain⟨I,μ,hI,S⟩:=m;obtain⟨hrh,hsh⟩:=IB hw hr'.nv (yw _) hgb hinit hok hr';let Inv:Nat->Act->World->Prop:=λn l w'=>∃β xs V',Shaped (bs.flatMap (·.2.2)++(Ce ws st1).2.flatMap (·.2.2)) xs/\I xs V'/\μ xs V'=n/\
     Rel CZ V0 w0 H.N β {(Ce ws st1).1 with depth:=g.depth+1} (E++xs) V' l.tmps w'/\l.defers=a.defers
    refine wp_loop_rel Inv ⟨_,β',init.evs E id,V',hsh,hI,rfl,hrh,rfl⟩ ?_;rintro n a1 w1 ⟨β1,xs,V1,hsh1,hI1,rfl,hr1,U⟩;have hDb:=S xs V1 hsh1 hI1;refine ih (L++[λys C=>I ys C/\μ ys C<μ xs V1]) E _ _ a1 w1 _ (by rw[U];exact z) ⟨β1,E++xs,V1,⟨yC _ _,?_⟩,hr1,hDb⟩ ?_;·simp[K.2]
    ·intro e st2 a2 w2 L2 hL2 hd2 hg2;cases e with
     |normal=>
      obtain⟨β2,ρ2,V2,hp2,hr2,G⟩:=hg2;simp only at G;split at G
      ·rename_i vs hvs;split at G
       ·rename_i hok2;simp only[D]at G;obtain⟨J,hJ,hJ2⟩:=G;have hlvl:L2[g.depth]?=some (λys C=>I ys C/\μ ys C<μ xs V1):=by
         obtain⟨σ,rfl⟩:=hL2;rw[<-K.2,List.getElem?_append_left (by simp),List.getElem?_append_right (yV _)];simp
        rw[hlvl]at hJ;simp only[zF]at hJ;subst hJ;obtain⟨hrh2,hsh2⟩:=IB hw hr'.nv hp2.1 hgb hvs hok2 hr2;exact⟨_,hJ2.2,β2,vs.evs ρ2 id,V2,hsh2,hJ2.1,rfl,hrh2,hd2.trans U⟩
       ·exact G.elim
      ·exact G.elim
     |exit i=>exact f (.exit i) st2 a2 w2 L2 ((yC _ _).trans hL2) (hd2.trans U) (hg2.weak K.1)
     |ret=>exact f .ret st2 a2 w2 L2 ((yC _ _).trans hL2) (hd2.trans U) (hg2.weak K.1)
 |rangeFunc _ _ _ _ _ _=>intro L ρ0 st k a w Q z h f;obtain⟨β,ρ,V,A,Y,u⟩:=h;exact u.elim
 |scope _ _=>intro L ρ0 st k a w Q z h f;obtain⟨β,ρ,V,A,Y,u⟩:=h;exact u.elim
 |label _=>intro L ρ0 st k a w Q z h f;obtain⟨β,ρ,V,A,Y,u⟩:=h;exact u.elim
 |goto _=>intro L ρ0 st k a w Q z h f;obtain⟨β,ρ,V,A,Y,u⟩:=h;exact u.elim
 |refuse _=>intro L ρ0 st k a w Q z h f;obtain⟨β,ρ,V,A,Y,u⟩:=h;exact u.elim
end
end Go.Sx
