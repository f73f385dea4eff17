/- Part 2: no statement of the seat is proved here. -/
import Derived.Test.YtkebnkjegieagaaGreatDoorPq01
import Derived.Laws.AppendOwn
import Derived.Test.YtkebnkjegieagaaGreatDoorProg
import Derived.KernelRfl
set_option linter.unusedVariables false
set_option linter.unusedSimpArgs false
open Option.some renaming injEq->zH
open List renaming length_append->zK,map_append->yY,mem_cons_self->yI,append_assoc->zM,map_cons->zI,map_nil->yZ,mem_cons_of_mem->yJ,mem_cons->zJ,all_eq_true->yK,nodup_cons->yv,mem_filterMap->yq,mem_range->yo,mem_filter->yl,prefix_refl->yh,prefix_append->yP,length_cons->zg,getElem?_eq_some_iff->yg,getElem?_eq_getElem->yf,getElem_mem->ya,findIdx?_cons->y5,findIdx?->y7,findIdx?_eq_some_iff_getElem->xB,mem_iff_getElem->xE,flatMap_cons->xG,eq_nil_of_length_eq_zero->xI,getElem?_map->xJ,map_toArray->xP,not_mem_nil->xT,forall_mem_cons->xU
open Bool renaming false_eq_true->zY,and_eq_true->zD,or_eq_true->yz,not_eq_true'->zo
open Prod.mk renaming injEq->zq
open Option renaming map_eq_some_iff->zn,isSome_iff_exists->yO,bind_some->zS
open Go.Region renaming binds->yy,wanted->yX,ready->ym
open Nat renaming strongRecOn->yx,le_refl->yu,le_trans->yr,zero_le->yn,add_mul->xH,mul_le_mul_right->xK,one_mul->xL
open Array renaming getElem?_eq_some_iff->yN,getElem?_eq_getElem->yw,getD->yL,all_eq_true_iff_forall_mem->yp,size_setIfInBounds->yj,toList_modify->xD
open Go.Instr renaming sureAddr->yC,lookup->yd,mapUpdate->yc,findNow->y4,findKey->y8,checkKey->y9
open Go.Sem renaming run_bind->zV,run_pure->zX
open Go.Result renaming andThen_ok->zW
open Go.Addr renaming add_zero'->zF,add->zG
open Go.Oper renaming upon->yk
open Classical renaming choose->yi
open Go.IntKind renaming i64->ye
open List.cons renaming injEq->zP
open Go.Value.int renaming injEq->yA
open Go.Value renaming string->yb
open Go.MapKept renaming bytes_beq->y6,run_getObj_map->xA,run_setObj_map->xC
open Go.Builtin renaming append_->xM,zeroCells->xQ,lenOf->xR,firstCells->xS
open Go.Proofs.Tryz renaming prog->xV
namespace Go.Sx
open Go
section
variable{P:Program}{R:Ending->Mem->Prop}{O V0:Mem}{w0:World}{N:Nat}{β:Nat->Nat}{ρ:XV}{V:Mem}{w:World}{tmps:XQ}
theorem MM{ρ:XV}{β:Nat->Nat}{t:T}{ks:List K}(h:Di t=some ks):Shaped ks (t.toList.map (·.ev ρ β)):=by
 rw[<-Dv];exact My t ks h
theorem JB:∀(G:XA)(f:St)(z:XV),z.length=f.nv->∀(q:St)(u:XV)(β:Nat->Nat)(ts:XJ),HJ q (Cn G f).2=some ts->
  (∀s t,q.get s=some t->tmps.getD s undef=t.ev u β)->
  Shaped ((Cn G f).2.flatMap (·.2.2)) (ts.map (·.ev u β))/\(Cn G f).1.nv=f.nv+ts.length/\
  (Cn G f).1.boxes=f.boxes/\(Cn G f).1.nb=f.nb/\(Cn G f).1.depth=f.depth/\
  ∀s t,(Cn G f).1.get s=some t->(s∉G/\f.get s=some t)∨(s∈G/\tmps.getD s undef=t.ev (z++ts.map (·.ev u β)) β)
 |[],f,z,I,q,u,β,ts,y,M=>by
  simp only[Cn,HJ,zH]at y;subst y;exact⟨trivial,by simp[Cn],rfl,rfl,rfl,λs t C=>.inl ⟨by simp,C⟩⟩
 |s0::G,f,z,I,q,u,β,ts,y,M=>by
  cases hm:((f.get s0).bind λt=>(genKinds t).map λY=>(FU t,Y))with
  |some p=>
   obtain⟨b,Y⟩:=p;simp only[Cn,hm]at y⊢;simp only[HJ]at y;split at y
   .rename_i Z F hg' hb';split at y
    .rename_i hc;obtain⟨hc1,hc2⟩:=hc;simp only[zH]at y;subst y;have J:Shaped Y (Z.cellsT.toList.map (·.ev u β)):=MM hc2;have X:(Z.cellsT.toList.map (·.ev u β)).length=Y.length:=J.length;obtain⟨D,g2,K,U,g5,g6⟩:=JB G ({f with nv:=f.nv+Y.length}.put s0 (genTerm b Y f.nv)) (z++Z.cellsT.toList.map (·.ev u β)) (by simp only[zK,X,I];rfl) q u β F hb' M;refine⟨?_,?_,K,U,g5,λs t C=>?_⟩;.rw[yY];exact Jn J D
     .grind[St.put]
     .rcases g6 s t C with⟨e1,W⟩|⟨e1,W⟩
      .rw[Ju]at W;split at W
       .rename_i e;subst e;right;refine⟨yI,?_⟩;split at W;.simp at W
        .simp only[zH]at W;subst W;rw[M s Z hg'];have hv:=HN (β:=β) Y (Z.cellsT.toList.map (·.ev u β)) z (F.map (·.ev u β)) J;rw[I]at hv;rw[yY,<-zM];unfold genTerm;cases b with
         |true=>
          simp only[if_true,T.ev,CK,hv];cases Z<;>simp[FU]at hc1;simp[T.ev,T.cellsT,Dv]
         |false=>
          simp only[zY,if_false];have A:Z.cellsT=.cons Z .nil:=by cases Z<;>simp_all[FU,T.cellsT]
          rw[A]at hv J;simp only[T.toList,zI,yZ]at hv J
          match Y,J,hv with
          |[k],J,hv=>
           grind[vars,T.toList]
       .rename_i e;exact .inl ⟨by simp[e,e1],W⟩
      simp_all
    .simp at y
   .simp at y
  |none=>
   simp only[Cn,hm]at y⊢;cases B:f.get s0 with
   |none=>
    simp only[B]at y⊢;obtain⟨D,g2,K,U,g5,g6⟩:=JB G f z I q u β ts y M;grind
   |some t0=>
   simp only[B]at y⊢;obtain⟨D,g2,K,U,g5,g6⟩:=JB G (f.put s0 .nil) z I q u β ts y M;refine⟨D,g2,K,U,g5,λs t C=>?_⟩;grind[Ju,inr,yJ]
theorem MO(st:St)(i j:Nat)(cs:T)(ty:Nat):(st.setBox i cs ty).box j=if j=i then some (cs,ty)else st.box j:=by
 grind[St.box,St.setBox]
theorem MP:∀(hint:XA)(st:St)(q:XV),q.length=st.nv->∀(u:St)(bs:List (Nat×Nat×List K)),HI hint st=some (u,bs)->∀(J:St)(f:XV)(β:Nat->Nat)(ts:XJ),HK J bs=some ts->
  Shaped (bs.flatMap (·.2.2)) (ts.map (·.ev f β))/\u.nv=st.nv+ts.length/\u.slots=st.slots/\u.nb=st.nb/\u.depth=st.depth/\
  (∀i,i∈bs.map (·.1)->(st.box i).isSome=true)/\
  ∀i cs ty,u.box i=some (cs,ty)->(i∉bs.map (·.1)/\st.box i=some (cs,ty))∨(i∈bs.map (·.1)/\∃z,J.box i=some (z,ty)/\∀σ,cs.evs (q++ts.map (·.ev f β)++σ) β=z.evs f β)
 |[],st,q,D,u,bs,y,J,f,β,ts,G=>by
  simp only[HI,zH,zq]at y;obtain⟨rfl,rfl⟩:=y;simp only[HK,zH]at G;subst G;exact⟨trivial,by simp,rfl,rfl,rfl,by simp,λi cs ty h=>.inl ⟨by simp,h⟩⟩
 |s::hint,st,q,D,u,bs,y,J,f,β,ts,G=>by
  simp only[HI]at y;split at y
  .rename_i i off hs;split at y
   .rename_i cs ty A;split at y
    .rename_i U hks;simp only[zn,zq]at y;obtain⟨⟨r1,r2⟩,hr,rfl,rfl⟩:=y;simp only[HK]at G;split at G
     .rename_i z ty' I hb1 M;split at G
      .rename_i hc;obtain⟨rfl,F⟩:=hc;simp only[zH]at G;subst G;have X:Shaped U (z.toList.map (·.ev f β)):=MM F;have W:(z.toList.map (·.ev f β)).length=U.length:=X.length;obtain⟨g1,g2,g3,g4,g5,g7,g6⟩:=MP hint _ (q++z.toList.map (·.ev f β)) (by simp only[zK,W,D];rfl) _ _ hr J f β I M;refine⟨?_,?_,g3,g4,g5,λj Z=>?_,λj B C Z=>?_⟩;.grind[Jn]
       .grind[St.setBox]
       .simp only[zI,zJ]at Z;rcases Z with rfl|Z;.simp[A]
        .have:=g7 j Z;rw[MO]at this;by_cases e:j=i;.grind
         .rw[if_neg e]at this;exact this
       .rcases g6 j B C Z with⟨e1,Y⟩|⟨e1,cs2,Y,e3⟩
        .rw[MO]at Y;split at Y
         .rename_i e;subst e;simp only[zH,zq]at Y;obtain⟨rfl,rfl⟩:=Y;grind[inr,HN,CK,Dv,zM]
         .rename_i e;exact .inl ⟨by simp_all,Y⟩
        simp_all
      .simp at G
     .simp at G
    .simp at y
   .simp at y
  .simp at y
theorem OD{st:St}{bs:List (Nat×Nat×List K)}{f:List (Nat×Bool×List K)}{t:T}(h:It st bs f=some t):
  ∃l m,HK st bs=some l/\HJ st f=some m/\t=T.ofList (l++m)/\t.firstBox=none:=by
 unfold It at h;grind
theorem JC{J hint:XA}{st f u:St}{bs:List (Nat×Nat×List K)}{vs:T}{ρ':XV}(hw:st.wf=true)(hl:ρ.length=st.nv)(U:ρ<+:ρ')
  (hg:HI hint st=some (f,bs)) (A:It u bs (Cn J f).2=some vs) (G:backOk {(Cn J f).1 with depth:=st.depth+1} u bs J=true)
  (y:Rel O V0 w0 N β u ρ' V tmps w):
  Rel O V0 w0 N β {(Cn J f).1 with depth:=st.depth+1} (ρ++vs.evs ρ' id) V tmps w/\Shaped (bs.flatMap (·.2.2)++(Cn J f).2.flatMap (·.2.2)) (vs.evs ρ' id):=by
 obtain⟨l,m,h1,h2,rfl,h3⟩:=OD A;rw[(T.ev_free (β:=id) (β':=β) (ρ:=ρ') _ h3).2,CK,yY];obtain⟨a1,a2,a3,B,a5,a6,a7⟩:=MP hint st ρ hl f bs hg u ρ' β l h1;obtain⟨b1,b2,b3,b4,b5,b6⟩:=JB (tmps:=tmps) J f (ρ++l.map (·.ev ρ' β)) (by grind) u ρ' β m h2 y.slots;simp only[backOk,zD,yK,yz,decide_eq_true_eq]at G;have M:∀t:T,t.wf st.nv st.nb=true->t.ev ρ' β=t.ev (ρ++(l.map (·.ev ρ' β)++m.map (·.ev ρ' β))) β/\t.evs ρ' β=t.evs (ρ++(l.map (·.ev ρ' β)++m.map (·.ev ρ' β))) β:=by
  refine T.ev_congr (λi q=>?_) (λ_ _=>rfl);obtain⟨σ,rfl⟩:=U;grind
 have Z:∀s,f.get s=st.get s:=λs=>by unfold St.get;rw[a3]
 have Y:∀i,St.box {(Cn J f).1 with depth:=st.depth+1} i=f.box i:=λi=>by grind[St.box]
 have z:∀i,(St.box {(Cn J f).1 with depth:=st.depth+1} i).isSome=true->(u.box i).isSome=true:=by
  intro i q;obtain⟨⟨cs,ty⟩,hx⟩:=yO.1 q;rcases G.2 _ (KY hx)with h|h;.grind
  grind
 refine⟨
 {nv:=?_
  size:=y.size
  slots:=λs t C=>?_
  frm:=y.frm
  boxes:=λi cs ty q=>?_
  hid:=λb o A=>⟨(y.hid b o A).1,(y.hid b o A).2.1,(y.hid b o A).2.2.1,λi q=>(y.hid b o A).2.2.2 i (z i q)⟩
  inj:=λi j q hj=>y.inj i j (z i q) (z j hj)},Jn a1 b1⟩
 .grind
 .rcases b6 s t C with⟨F,W⟩|⟨_,W⟩
  .have I:u.get s=some t:=by
    rcases G.1 _ (lookup_mem (HQ C))with h|h;.simp_all
    grind
   rw[Z]at W;rw[y.slots s t I];grind[wf_get]
  simp_all
 .rw[Y]at q;rcases a7 i cs ty q with⟨F,W⟩|⟨F,cs',W,I⟩
  .have I:u.box i=some (cs,ty):=by
    grind[St.box,Cn,absurd]
   obtain⟨X,c2,c3,_⟩:=y.boxes i cs ty I;rw[<-(M cs (Ha hw W).2).2];exact⟨X,c2,c3,by simp only[b4,B];exact(Ha hw W).1⟩
  .obtain⟨X,c2,c3,_⟩:=y.boxes i cs' ty W;have D:=I (m.map (·.ev ρ' β));rw[zM]at D;rw[D];obtain⟨x,hx⟩:=yO.1 (a6 i F);exact⟨X,c2,c3,by simp only[b4,B];exact(Ha hw hx).1⟩
end
def ID(acc:XA)(o:Oper):Nat:=o.after.toList.foldl (λs e=>if yy .any e then s|||(1<<<e.on)|||acc.getD e.on 0 else s) 0
theorem MQ:∀(os:List Oper)(acc:XA),(∃f,Cb os acc=acc++f/\f.length=os.length)/\
  ∀k o,os[k]?=some o->(Cb os acc).getD (acc.length+k) 0=ID ((Cb os acc).take (acc.length+k)) o
 |[],acc=>⟨⟨[],by simp[Cb]⟩,λk o h=>by simp at h⟩
 |o::os,acc=>by
  have e:Cb (o::os) acc=Cb os (acc++[ID acc o]):=rfl;obtain⟨⟨f,u,z⟩,y⟩:=MQ os (acc++[ID acc o]);rw[e];refine⟨⟨ID acc o::f,by rw[u];simp,by simp[z]⟩,λk q h=>?_⟩;cases k with
  |zero=>
   simp_all
  |succ k=>
   have:=y k q (by simpa using h);simp only[zK,List.length_singleton]at this;grind
theorem fold_bits(acc:XA):∀(es:List Edge)(s j:Nat),(es.foldl (λs e=>if yy .any e then s|||(1<<<e.on)|||acc.getD e.on 0 else s) s).testBit j=true->
  s.testBit j=true∨∃e∈es,yy .any e=true/\(j=e.on∨(acc.getD e.on 0).testBit j=true)
 |[],s,j,h=>.inl h
 |e::es,s,j,h=>by
  simp only[List.foldl_cons]at h;rcases fold_bits acc es _ j h with f|⟨e',q,J⟩
  .by_cases u:yy .any e=true
   .rw[if_pos u]at f;simp only[Nat.testBit_or,yz]at f;rcases f with(f|f)|f;.exact .inl f
    .right;refine⟨e,yI,u,.inl ?_⟩;rw[Nat.testBit_shiftLeft]at f;simp only[zD,decide_eq_true_eq]at f;have z:=f.2;rcases Nat.eq_or_lt_of_le f.1 with y|y;.exact y.symm
     .have:(1:Nat).testBit (j-e.on)=false:=by
       obtain⟨m,hm⟩:∃m,j-e.on=m+1:=⟨j-e.on-1,by omega⟩;rw[hm,Nat.testBit_succ];simp
      rw[this]at z;cases z
    .exact .inr ⟨e,yI,u,.inr f⟩
   .rw[if_neg u]at f;exact .inl f
  .exact .inr ⟨e',yJ _ q,J⟩
def IE(all:XW)(listed:Array Bool):Prop:=∀j oj,all[j]?=some oj->listed.getD j false=true->∀e∈oj.after,yy .any e=true->listed.getD e.on false=true
def JD(all:XW):Prop:=∀i o,all[i]?=some o->∀e∈o.after,yy .any e=true->e.on<i
theorem mask_listed{all:XW}(he:JD all){listed:Array Bool}(hc:IE all listed):∀(i:Nat)(o:Oper),all[i]?=some o->
  (∀e∈o.after,yy .any e=true->listed.getD e.on false=true)->∀j,(CD (Cb all.toList []) i).testBit j=true->listed.getD j false=true:=by
 intro i;induction i using yx with
 |_ i W=>
  intro o ho A j q;have Z:=(MQ all.toList []).2 i o (by simpa using ho);simp only[List.length_nil,Nat.zero_add]at Z;unfold CD at q;rw[Z]at q;unfold ID at q;rcases fold_bits _ _ _ _ q with G|⟨e,G,Y,J⟩;.simp at G
  .have f:e∈o.after:=by simpa using G
   have u:=he i o ho e f Y;have hl:=A e f Y;rcases J with rfl|J;.exact hl
   .have z:((Cb all.toList []).take i).getD e.on 0=(Cb all.toList []).getD e.on 0:=by
     simp[List.getD,u]
    rw[z]at J;have I:i<all.size:=(yN.1 ho).1;have y:all[e.on]?=some (all[e.on]'(by omega)):=yw _;exact W e.on u _ y (hc e.on _ y hl) j J
theorem JE:∀{l:XA},HH l=true->l.Nodup
 |[],_=>List.nodup_nil
 |x::xs,h=>by
  simp only[HH,zD,zo]at h;exact yv.2 ⟨by simpa using h.1,JE h.2⟩
structure C1 (w w':World):Prop where
 heap:∀(b:Nat)(o:Obj),w.heap[b]?=some o->w'.heap[b]?=some o
 size:w.heap.size<=w'.heap.size
 os:w'.os=w.os
 out:w'.output=w.output
theorem C1.refl(w:World):C1 w w:=⟨λ_ _ h=>h,yu _,rfl,rfl⟩
theorem C1.trans{a b c:World}(h:C1 a b)(k:C1 b c):C1 a c:=⟨λi o f=>k.heap i o (h.heap i o f),yr h.size k.size,k.os.trans h.os,k.out.trans h.out⟩
theorem C1.alloc(w:World)(o:Obj):C1 w (w.alloc o):=
 ⟨λb f h=>(IA w o (yN.1 h).1).trans h,by simp_all,rfl,rfl⟩
section
variable{P:Program}{O V0:Mem}{w0:World}{N:Nat}{β:Nat->Nat}{st:St}{ρ:XV}{V:Mem}{w:World}{tmps:XQ}
theorem Rel.ext(h:Rel O V0 w0 N β st ρ V tmps w){w':World}(e:C1 w w'):Rel O V0 w0 N β st ρ V tmps w':=
 {h with
  frm:=
   {size:=yr h.frm.size e.size
    le:=λb o f=>e.heap b o (h.frm.le b o f)
    old:=λb f y=>by
     have q:=h.frm.old b f y;rw[<-q];have u:b<w.heap.size:=Nat.lt_of_lt_of_le f h.frm.size;exact(e.heap b _ (yw u)).trans (yw u).symm
    dom:=h.frm.dom
    os:=e.os.trans h.frm.os
    out:=e.out.trans h.frm.out}
  boxes:=λi cs ty z=>⟨e.heap _ _ (h.boxes i cs ty z).1,(h.boxes i cs ty z).2⟩
  hid:=λb o f=>⟨e.heap _ _ (h.hid b o f).1,(h.hid b o f).2⟩}
theorem Rel.less(h:Rel O V0 w0 N β st ρ V tmps w){f:Mem}(ho:∀b o,f b=some o->O b=some o):Rel f V0 w0 N β st ρ V tmps w:=
 {h with hid:=λb o u=>h.hid b o (ho b o u)}
theorem Rel.orphan(h:Rel O V0 w0 N β st ρ V tmps w)(o:Obj):Rel (O.set w.heap.size o) V0 w0 N β st ρ V tmps (w.alloc o):=
 {h.ext (C1.alloc w o)with
  hid:=λb u f=>by
   by_cases e:b=w.heap.size
   .subst e;rw[Mem.set_same]at f;cases f;refine⟨MD w o,le_none h.frm.le (yu _),h.frm.size,λi z=>?_⟩;obtain⟨x,hx⟩:=yO.1 z;have:=(h.boxes i x.1 x.2 hx).1;grind
   .rw[Mem.set_ne e]at f;exact(h.ext (C1.alloc w o)).hid b u f}
theorem Rel.adopt(h:Rel O V0 w0 N β st ρ V tmps w)(hw:st.wf=true){cs:T}(hc:cs.wf st.nv st.nb=true){ty b:Nat}(M:O b=some (.cells (cs.evs ρ β).toArray ty (0,0))):
  Rel (λc=>if c=b then none else O c) V0 w0 N (upd β st.nb b) {st with boxes:=(st.nb,cs,ty)::st.boxes,nb:=st.nb+1} ρ V tmps w:=by
 have G:∀t:T,t.wf st.nv st.nb=true->t.ev ρ β=t.ev ρ (upd β st.nb b)/\t.evs ρ β=t.evs ρ (upd β st.nb b):=
  T.ev_congr (λ_ _=>rfl) (λi J=>by grind[upd])
 have f:∀(i:Nat)(x:T×Nat),St.box {st with boxes:=(st.nb,cs,ty)::st.boxes,nb:=st.nb+1} i=some x->(i=st.nb/\x=(cs,ty))∨(i≠st.nb/\st.box i=some x):=by
  grind[St.box,inr]
 obtain⟨C,D,K,U⟩:=h.hid b _ M;exact
 {nv:=h.nv
  size:=h.size
  slots:=λs t I=>(h.slots s t I).trans (G t (wf_get hw I)).1
  frm:=h.frm
  boxes:=λi Z Y J=>by
   rcases f i _ J with⟨rfl,e⟩|⟨q,u⟩;.grind[upd]
   .obtain⟨h1,h2,h3,h4⟩:=h.boxes i Z Y u;grind[upd,Ha,Nat.lt_succ_of_lt]
  hid:=λc o W=>by
   split at W;.cases W
   .rename_i q;obtain⟨F,k2,k3,k4⟩:=h.hid c o W;refine⟨F,k2,k3,λi J=>?_⟩;obtain⟨x,hx⟩:=yO.1 J;rcases f i x hx with⟨rfl,_⟩|⟨z,u⟩;.grind[upd]
    grind[upd]
  inj:=λi j J X he=>by
   obtain⟨x,hx⟩:=yO.1 J;obtain⟨y,B⟩:=yO.1 X;rcases f i x hx with⟨rfl,_⟩|⟨q,u⟩<;>rcases f j y B with⟨rfl,_⟩|⟨z,A⟩
   .rfl
   .grind[upd,absurd]
   .grind[upd,absurd]
   .simp only[upd,if_neg q,if_neg z]at he;exact h.inj i j (by simp[u]) (by simp[A]) he}
end
section
variable{P:Program}{R:Ending->Mem->Prop}{O V0:Mem}{w0:World}{N:Nat}{L:List (XV->Mem->Prop)}{ρ0:XV}{fs:XA}{H:Cj}
variable{all:XW}
def FZ(P:Program)(all:XW)(j:Nat)(f:Bool)(aq:Act)(w:World):Prop:=
 ∃o d,all[j]?=some o/\o.dst=some d/\d<aq.tmps.size/\yX o (yielded all aq.tmps)=f/\
  (f=true->∀w',C1 w w'->(execOp aq.eval o).run P w'=.ok (.value (aq.tmps.getD d undef)) w')/\(f=false->aq.tmps.getD d undef=undef)
theorem FZ.ext{j:Nat}{u:Bool}{aq:Act}{w w':World}(h:FZ P all j u aq w)(e:C1 w w'):FZ P all j u aq w':=by
 obtain⟨o,d,z,y,q,J,G,h6⟩:=h;exact⟨o,d,z,y,q,J,λhw f Z=>G hw f (e.trans Z),h6⟩
theorem Fw{a:Act}{dst:XU}{v:Value}{d:Nat}(h:dst≠some d):(a.put dst v).tmps.getD d undef=a.tmps.getD d undef:=by
 cases dst with
 |none=>rfl
 |some e=>
  simp_all[Act.put,yL]
theorem Fx{a:Act}{v:Value}{d:Nat}(h:d<a.tmps.size):(a.put (some d) v).tmps.getD d undef=v:=by
 simp[Act.put,yL,h]
theorem Fy(a:Act)(dst:XU)(v:Value):(a.put dst v).tmps.size=a.tmps.size:=by cases dst<;>simp[Act.put]
theorem noSel{all:XW}(h:∀o,o∈all.toList->Fp o.op=false){j:Nat}{o:Oper}(ho:all[j]?=some o):∀cs b,o.op≠.select cs b:=by
 grind[Fp]
theorem FZ.put(G:∀o,o∈all.toList->Fp o.op=false){j:Nat}{q:Bool}{aq:Act}{w:World}(h:FZ P all j q aq w){dst:XU}{v:Value}
  (hl:∀o,all[j]?=some o->∀f,dst=some f->f∉o.looksAt all/\o.dst≠some f):FZ P all j q (aq.put dst v) w:=by
 obtain⟨o,d,z,J,Z,A,Y,h6⟩:=h;have u:∀f,dst=some f->f∉o.looksAt all:=λf W=>(hl o z f W).1;have y:dst≠some d:=λe=>(hl o z d e).2 J;refine⟨o,d,z,J,by rw[Fy];exact Z,?_,λhw w' e=>?_,λhw=>?_⟩;.grind[wanted_put]
 .rw[execOp_put o (noSel G z) aq dst v u,Fw y];exact Y hw w' e
 grind[Fw]
theorem JF{fl:List (Nat×Bool)}{dst:XU}(h:G7 all fl dst=true){j:Nat}{b:Bool}(u:(j,b)∈fl):∀o,all[j]?=some o->∀f,dst=some f->f∉o.looksAt all:=by
 intro o ho f z;have:=yK.1 h _ u;simp_all
theorem exLoad_run{a:Act}{w:World}{st:St}{o:Oper}{k:St->Tr}{t:TypeId}{x:Operand}(hop:o.op=.load t x)(hd:DI N o.dst=true)
  (h:A2 P R O V0 w0 N L ρ0 a.tmps w st (HF P st o.dst t x k)):
  ∃v J,(∀w',C1 w w'->(execOp a.eval o).run P w'=.ok (.value v) w')/\A2 P R O V0 w0 N L ρ0 (a.put o.dst v).tmps w J (k J):=by
 obtain⟨β,ρ,V,hp,hr,hD⟩:=h;unfold HF at hD;obtain⟨J,p,hg,C,u,y,V',U,W,f⟩:=Ea _ _ _ _ ⟨β,ρ,V,hp,hr,hD⟩;have hx:a.eval x=p.ev y u:=Bc W hg;have F:∀{b i sz G e},G5 p=(b,i,sz,G,e)->b.firstBox=none/\i.firstBox=none:=by
  intro b i sz G e I;unfold G5 at I;grind[T.firstBox]
 have go:∀(q:Addr)(Y:List K)(vs:XV)(G:Nat)(z:T),AP (p.ev y u)=some (q.add G)->p.kind=some .p->Shaped Y vs->J.wf=true->
   (∀w',C1 w w'->∀j v,vs[j]?=some v->w'.cell? (q.add j)=some v)->DA P t (T.ofList (vars Y J.nv)) G=some z->D P R (k ((J.more Y.length).putO o.dst z)) L (y++vs) V'->
   ∃v J,(∀w',C1 w w'->(execOp a.eval o).run P w'=.ok (.value v) w')/\A2 P R O V0 w0 N L ρ0 (a.put o.dst v).tmps w J (k J):=by
  intro q Y vs G z A Z X hw hc hz hD2;have hl:vs.length=Y.length:=X.length;have B:=W.bind hw vs;rw[hl]at B;have hev:(T.ofList (vars Y J.nv)).evs (y++vs) u=vs:=by
   rw[CK,<-W.nv];have:=HN (β:=u) Y vs y [] X;simp_all
  obtain⟨p',hpe⟩:=G9 (ρ:=y) (β:=u) Z;rw[hpe]at A;simp only[AP]at A;subst A;refine⟨z.ev (y++vs) u,_,λw' e=>?_,u,y++vs,V',(U.more _ _).putO _ _,B.putO hd z rfl,hD2⟩;grind[MH,execOp,Instr.loadAt,yC,zV,zX,zW]
 have hle:∀w',C1 w w'->V'.le w':=λw' e=>(W.ext e).frm.le;split at f;case isFalse=>exact f.elim
 rename_i Z;split at f
 .rename_i b i sz G e I;obtain⟨hb,hi⟩:=F I;split at f
  .rename_i Y hks;split at f
   .rename_i hlen;unfold bind at f;split at f
    .rename_i hw;split at f
     .rename_i z hz;simp only[D]at f;obtain⟨vs,M,h2,h3⟩:=f;have he:=Jz (ρ:=y) (β:=u) I Z;simp only at he;rw[(T.ev_free (β:=id) (β':=u) (ρ:=y) b hb).1,(T.ev_free (β:=id) (β':=u) (ρ:=y) i hi).1]at M;cases A:AP (b.ev y u)with
      |none=>simp[A,Mem.rowp]at M
      |some q=>
       grind[Mem.rowp,Aa,HR]
     .exact f.elim
    .exact f.elim
   .exact f.elim
  .exact f.elim
 .rename_i b i sz G I;obtain⟨hb,hi⟩:=F I;split at f
  .rename_i Y hks;unfold bind at f;split at f
   .rename_i hw;split at f
    .rename_i z hz;simp only[D]at f;obtain⟨vs,M,h2,h3⟩:=f;have he:=Jz (ρ:=y) (β:=u) I Z;simp only at he;rw[(T.ev_free (β:=id) (β':=u) (ρ:=y) b hb).1,(T.ev_free (β:=id) (β':=u) (ρ:=y) i hi).1]at M;cases A:AP (b.ev y u)with
     |none=>simp[A,Mem.rowp]at M
     |some q=>
      simp only[A,Mem.rowp]at M;rw[A]at he;simp only[Aa,Option.map_some]at he;exact go _ Y vs 0 z (by rw[he,zF]) Z h2 hw (λw' e=>(HR (hle w' e) M).2) hz h3
    .exact f.elim
   .exact f.elim
  .exact f.elim
theorem JG{aq:Act}{w:World}{st:St}:∀{fl:List (Nat×Bool)}{t:Tr}{β:Nat->Nat}{ρ:XV}{V:Mem},Rel O V0 w0 N β st ρ V aq.tmps w->D P R (G6 P all fl st t) L ρ V->
  D P R t L ρ V/\∀j,(j,true)∈fl->∃o d,all[j]?=some o/\o.dst=some d/\∀w',C1 w w'->(execOp aq.eval o).run P w'=.ok (.value (aq.tmps.getD d undef)) w'
 |[],t,β,ρ,V,z,f=>⟨f,λj u=>by cases u⟩
 |(i,false)::fl,t,β,ρ,V,z,f=>by
  obtain⟨W,A⟩:=JG (fl:=fl) z f;exact⟨W,λj u=>A j (by simpa using u)⟩
 |(i,true)::fl,t,β,ρ,V,z,f=>by
  simp only[G6]at f;split at f;.exact f.elim
  .rename_i o ho;split at f
   .rename_i ns x y I J;split at f
    .rename_i e;subst e;obtain⟨G,X⟩:=K7 f β;obtain⟨W,A⟩:=JG (fl:=fl) z X;refine⟨W,λj u=>?_⟩;rcases zJ.1 u with e|u
     .cases e;cases Z:o.dst with
      |none=>simp[Z]at J
      |some d=>
       simp only[Z,zS]at J;refine⟨o,d,ho,Z,λw' B=>?_⟩;rw[z.slots d _ J];exact KW (z.ext B) I G
     .exact A j u
    .exact f.elim
   .rename_i y I J;split at f
    .rename_i ty x hop;split at f
     .rename_i p n ag hp hn M;split at f
      .rename_i hc;obtain⟨c1,c2,c3,c4,c5,c6,c7⟩:=hc;simp only[D]at f;obtain⟨G,X⟩:=f;obtain⟨W,A⟩:=JG (fl:=fl) z X;refine⟨W,λj u=>?_⟩;rcases zJ.1 u with e|u
       .cases e;cases Z:o.dst with
        |none=>simp[Z]at J
        |some d=>
         simp only[Z,zS]at J;refine⟨o,d,ho,Z,λw' B=>?_⟩;rw[z.slots d _ J];have C:y.cellsT.firstBox=none:=by cases y<;>simp_all[T.cellsT,T.firstBox]
         rw[(T.ev_free (β:=id) (β':=β) (ρ:=ρ) p c2).1,(T.ev_free (β:=id) (β':=β) (ρ:=ρ) _ C).2]at G;obtain⟨q,K⟩:=G9 (ρ:=ρ) (β:=β) c1;rw[K]at G;have hx:aq.eval x=.pointer q:=(Bc z hp).trans K;cases q with
         |none=>simp[AP,Mem.rowp]at G
         |some q=>
          simp only[AP,Mem.rowp,zF]at G;obtain⟨_,U⟩:=HR (z.ext B).frm.le G;have F:(y.cellsT.evs ρ β).length=n:=by grind[Dv]
          have hrun:(loadVar ty q).run P w'=.ok (y.ev ρ β) w':=by
           cases ag with
           |true=>
            have hl:=run_loadCells_list (P:=P) w' q (y.cellsT.evs ρ β) U;rw[F]at hl;cases y<;>simp[FU]at c7;simp only[loadVar,zV,Gs M,zW,if_true,En hn,T.cellsT]at hl⊢;rw[hl];simp[T.ev]
           |false=>
            have Y:y.cellsT=.cons y .nil:=by cases y<;>simp_all[FU,T.cellsT]
            have g4:=U 0 (y.ev ρ β) (by rw[Y];rfl);rw[zF]at g4;simp only[loadVar,zV,Gs M,zW,zY,if_false,run_load,g4]
          grind[execOp,Instr.loadAt,yC,zV,zX,zW]
       .exact A j u
      .exact f.elim
     .exact f.elim
    .exact f.elim
   .exact f.elim
end
def Dj:Mem:=λ_=>none
structure Fz (P:Program)(all:XW)(ms:XA):Prop where
 edges:JD all
 dsts:∀(i j:Nat)(oi oj:Oper)(d:Nat),all[i]?=some oi->all[j]?=some oj->oi.dst=some d->oj.dst=some d->i=j
 sel:∀o,o∈all.toList->Fp o.op=false
 look:∀(i:Nat)(o:Oper)(p:Nat)(op:Oper)(t:Nat),all[i]?=some o->t∈o.looksAt all->(CJ all p=true∨Du all p=true)->all[p]?=some op->op.dst=some t->(CD ms i).testBit p=true/\p≠i
 allocs:∀(i:Nat)(o:Oper)(e:Nat),all[i]?=some o->o.op=.alloc e->(EX P e).isSome=true
theorem MS:∀{l:List Oper},(l.filterMap (·.dst)).Nodup->∀(i j:Nat)(oi oj:Oper)(d:Nat),l[i]?=some oi->l[j]?=some oj->oi.dst=some d->oj.dst=some d->i=j
 |[],_,i,j,oi,oj,d,f,_,_,_=>by simp at f
 |o::l,hn,i,j,oi,oj,d,f,y,q,J=>by
  have z:∀(k:Nat) ok,l[k]?=some ok->ok.dst=some d->d∈l.filterMap (·.dst):=λk ok hk G=>yq.2 ⟨ok,List.mem_of_getElem? hk,G⟩;have u:(l.filterMap (·.dst)).Nodup:=by
   grind
  have Z:∀d,o.dst=some d->d∉l.filterMap (·.dst):=by
   grind
  cases i with
  |zero=>
   grind
  |succ i=>
   cases j with
   |zero=>
    grind
   |succ j=>exact congrArg (·+1) (MS u i j oi oj d (by simpa using f) (by simpa using y) q J)
theorem MT{all:XW}{i:Nat}{o:Oper}(h:all[i]?=some o):(o,i)∈all.toList.zipIdx:=by
 grind
theorem MU{P:Program}{all:XW}{ms order:XA}(h:drawOk P all ms order=true):
  Fz P all ms/\order.length=all.size/\order.Nodup/\(∀i∈order,i<all.size)/\Fq all ms order=true:=by
 simp only[drawOk,zD,yK,beq_iff_eq,decide_eq_true_eq,zo]at h;obtain⟨⟨⟨⟨⟨⟨⟨⟨z,y⟩,q⟩,J⟩,G⟩,h6⟩,h7⟩,h8⟩,A⟩:=h;refine⟨⟨λi o ho e he I=>?_,λi j oi oj d Z Y=>?_,λo ho=>h6 o ho,λi o p op t ho W M f F=>?_,λi o e ho f=>?_⟩,y,JE q,J,h8⟩
 .have:=z _ (MT ho);simp only[yp,yz,zo,decide_eq_true_eq]at this;grind
 .exact MS (JE G) i j oi oj d (by simpa using Z) (by simpa using Y)
 .have u:p<all.size:=(yN.1 f).1;have:=h7 _ (MT ho) t W p (yo.2 u);grind
 grind
def Orph(P:Program)(all:XW)(O:Mem)(j b:Nat)(a:Act):Prop:=
 ∃o d e z,all[j]?=some o/\o.dst=some d/\o.op=.alloc e/\EG P e=some z/\O b=some (.cells z.cells e (0,0))/\a.tmps.getD d undef=.pointer (some ⟨b,0,none⟩)
structure Inv (c:Bool)(P:Program)(R:Ending->Mem->Prop)(V0:Mem)(w0:World)(L:List (XV->Mem->Prop))(ρ0:XV)(fs:XA)(H:Cj)(all:XW)(ms:XA)(k:St->Tr)
  (rest:XA) (fl:List (Nat×Bool)) (st:St) (listed:Array Bool) (a:Act) (w:World) (aq:Act) (pend:XA) (O:Mem) (bo:Nat->Nat):Prop where
 lsize:listed.size=all.size
 closed:IE all listed
 chain:Fq all ms rest=true
 nd:rest.Nodup
 bound:∀j∈rest,j<all.size
 unl:∀j,j<all.size->listed.getD j true=false->j∈pend∨j∈rest
 pu:∀j∈pend,listed.getD j true=false/\CJ all j=true/\j∉rest/\(∀r∈rest,(CD ms j).testBit r=false)/\∃b,(j,b)∈fl/\FZ P all j b aq w
 ru:∀j∈rest,listed.getD j true=false∨(Du all j=true/\Orph P all O j (bo j) a)
 boi:∀i∈rest,∀j∈rest,listed.getD i true=true->listed.getD j true=true->bo i=bo j->i=j
 fsize:aq.tmps.size=a.tmps.size
 fdef:aq.defers=a.defers
 fill:∀s,(∀j o,(j∈pend∨(j∈rest/\listed.getD j true=true))->all[j]?=some o->o.dst≠some s)->aq.tmps.getD s undef=a.tmps.getD s undef
 goes:∃n,A2 P R O V0 w0 H.N L ρ0 aq.tmps w st (DU P fs H all ms c n rest fl st k)
theorem OE{all:XW}{i:Nat}(h:CJ all i=true):Du all i=false:=by
 unfold CJ at h;grind[Du,floatOp]
theorem IF{all:XW}{ms:XA}{r:Nat}{f:XA}(h:Fq all ms (r::f)=true):
  (CJ all r=true∨∀j∈f,(((CD ms j).testBit r=true∨Du all j=true)∨(CJ all j=false/\∀q∈f,(CD ms j).testBit q=false))∨∃q∈f,(CD ms j).testBit q=true/\Du all q=false)/\(∀j∈f,(CD ms r).testBit j=false)/\Fq all ms f=true:=by
 simp_all[Fq,zD,yz,yK,List.any_eq_true,zo]
theorem sameSet_spec{l m:XA}(h:Iq l m=true):l.length=m.length/\l.Nodup/\∀x∈l,x∈m:=by
 simp_all[Iq,zD,yK,decide_eq_true_eq,JE]
section
variable{P:Program}{R:Ending->Mem->Prop}{O V0:Mem}{w0:World}{L:List (XV->Mem->Prop)}{ρ0:XV}{fs:XA}{H:Cj}
variable{all:XW}{ms:XA}{k:St->Tr}{rest:XA}{fl:List (Nat×Bool)}{st:St}{listed:Array Bool}{a aq:Act}{w:World}{pend:XA}{bo:Nat->Nat}
theorem MV{N:Nat}{f:Nat->Tr}{t:Tr}:∀{l:XA},A2 P R O V0 w0 N L ρ0 aq.tmps w st (forks f t l)->A2 P R O V0 w0 N L ρ0 aq.tmps w st t/\∀j∈l,A2 P R O V0 w0 N L ρ0 aq.tmps w st (f j)
 |[],h=>⟨h,λj J=>by cases J⟩
 |j::G,⟨β,ρ,V,z,y,q⟩=>by
  obtain⟨Z,Y⟩:=MV (l:=G) ⟨β,ρ,V,z,y,q.2⟩;refine⟨Z,λi u=>?_⟩;rcases zJ.1 u with rfl|u;.exact⟨β,ρ,V,z,y,q.1⟩
  .exact Y i u
theorem JH{N:Nat}{c:Bool}{n r:Nat}{f:XA}{o:Oper}(ho:all[r]?=some o)(h:A2 P R O V0 w0 N L ρ0 aq.tmps w st (DU P fs H all ms c n (r::f) fl st k)):
  ∃m,A2 P R O V0 w0 N L ρ0 aq.tmps w st (guardD all o st (Ir P fs H all ms r o fl λfl st=>DU P fs H all ms true m f fl st k) (drawNo H all ms r o fl λfl st=>DU P fs H all ms true m f fl st k))/\
   (c=true->∀j∈altsOf all ms r f,∃l,Iq (j::l) (r::f)=true/\Fq all ms (j::l)=true/\A2 P R O V0 w0 N L ρ0 aq.tmps w st (DU P fs H all ms false m (j::l) fl st k)):=by
 cases n with
 |zero=>obtain⟨β,ρ,V,y,q,u⟩:=h;exact u.elim
 |succ m=>
  unfold DU at h;rw[ho]at h;simp only at h;obtain⟨J,G⟩:=MV h;refine⟨m,J,λZ j Y=>?_⟩;subst Z;have z:=G j Y;split at z;.grind
  .obtain⟨β,ρ,V,y,q,u⟩:=z;exact u.elim
theorem MX{N:Nat}{o:Oper}{Z X:St->Tr}(h:A2 P R O V0 w0 N L ρ0 aq.tmps w st (guardD all o st Z X)):
  (yX o (yielded all aq.tmps)=true/\∃y,A2 P R O V0 w0 N L ρ0 aq.tmps w y (Z y))∨
  (yX o (yielded all aq.tmps)=false/\∃y,A2 P R O V0 w0 N L ρ0 aq.tmps w y (X y)):=by
 unfold guardD at h;split at h;.grind[yX]
 .rename_i j Y B;split at h;.obtain⟨β,ρ,V,q,J,z⟩:=h;exact z.elim
  .rename_i d C;have G:=La (tmps:=aq.tmps) C;have I:yX o (yielded all aq.tmps)=(yielded all aq.tmps j==some Y):=by simp[yX,B]
   obtain⟨β,ρ,V,q,J,z⟩:=h;split at z
   .rename_i v hv;rw[J.getD_size hv]at G;simp only[T.ev]at G;split at z;.rename_i e;subst e;exact .inl ⟨by simp_all,st,β,ρ,V,q,J,z⟩
    .rename_i e;exact .inr ⟨by simp_all,st,β,ρ,V,q,J,z⟩
   .rename_i hv;rw[J.getD_size hv]at G;have:yielded all aq.tmps j=none:=by rw[G];rfl
    exact .inr ⟨by grind,st,β,ρ,V,q,J,z⟩
   .rename_i c _ _ hv;split at z
    .rename_i K;obtain⟨M,F,U⟩:=K;obtain⟨b,A⟩:=FY (ρ:=ρ) (β:=β) M;rw[J.getD_size hv,A]at G;simp only at G;simp only[D]at z;have W:=(T.ev_free (β:=id) (β':=β) (ρ:=ρ) c F).1;have f:Rel O V0 w0 N β (st.now d (.bool b)) ρ V aq.tmps w:=J.now hv (by rw[A];rfl);cases b with
     |true=>
      have u:=z.1 (by rw[W,A];rfl);split at u;.rename_i e;exact .inl ⟨by simp_all,_,β,ρ,V,q.now _ _,f,u⟩
      .rename_i e;exact .inr ⟨by simp_all,_,β,ρ,V,q.now _ _,f,u⟩
     |false=>
      have u:=z.2 (by rw[W,A];rfl);split at u;.rename_i e;exact .inr ⟨by simp_all,_,β,ρ,V,q.now _ _,f,u⟩
      .rename_i e;exact .inl ⟨by simp_all,_,β,ρ,V,q.now _ _,f,u⟩
    .exact z.elim
   .exact z.elim
end
section
variable{P:Program}{R:Ending->Mem->Prop}{O V0:Mem}{w0:World}{L:List (XV->Mem->Prop)}{ρ0:XV}{fs:XA}{H:Cj}
variable{all:XW}{ms:XA}{k:St->Tr}{rest:XA}{fl:List (Nat×Bool)}{st:St}{listed:Array Bool}{a aq:Act}{w:World}{pend:XA}{bo:Nat->Nat}
theorem isFloat_dst{i:Nat}{o:Oper}(h:CJ all i=true)(ho:all[i]?=some o):∃d,o.dst=some d:=by
 simp_all[CJ,zD,yO]
theorem IG{N d:Nat}{o:Oper}(h:DI N o.dst=true)(f:o.dst=some d):d<N:=by
 grind[DI]
theorem Inv.float(J:Fz P all ms){r:Nat}{C:XA}(h:Inv true P R V0 w0 L ρ0 fs H all ms k (r::C) fl st listed a w aq pend O bo)(hr:CJ all r=true):
  ∃Y f W,Inv true P R V0 w0 L ρ0 fs H all ms k C Y f listed a w W (r::pend) O bo:=by
 obtain⟨hnr,hnd⟩:=yv.1 h.nd;obtain⟨_,hc2,hc3⟩:=IF h.chain;have hrl:listed.getD r true=false:=by
  rcases h.ru r yI with D|D;.exact D
  grind[OE]
 have F:=h.bound r yI;obtain⟨o,ho⟩:∃o,all[r]?=some o:=⟨_,yw F⟩;obtain⟨d,K⟩:=isFloat_dst hr ho;have A:∀I,o.dst=some I->I∉o.looksAt all:=λI G hm=>(J.look r o r o I ho hm (.inl hr) ho G).2 rfl;obtain⟨n0,X⟩:=h.goes;obtain⟨m,hg,_⟩:=JH ho X;clear X;have fin:∀(b:Bool)(v:Value)(f:St),d<H.N->G7 all fl o.dst=true->yX o (yielded all aq.tmps)=b->
   (b=true->∀w',C1 w w'->(execOp aq.eval o).run P w'=.ok (.value v) w')->(b=false->v=undef)->
   A2 P R O V0 w0 H.N L ρ0 (aq.put o.dst v).tmps w f (DU P fs H all ms true m C ((r,b)::fl) f k)->
   ∃Y f W,Inv true P R V0 w0 L ρ0 fs H all ms k C Y f listed a w W (r::pend) O bo:=by
  intro b v f hdlt hap hw D h2 hG;have Z:d<aq.tmps.size:=by
   obtain⟨β,ρ,V,B,u,_⟩:=hG;have h5:aq.tmps.size=H.N:=by have:=u.size;rwa [Fy]at this
   grind
  have hPr:FZ P all r b (aq.put o.dst v) w:=by
   refine⟨o,d,ho,K,by rw[Fy];exact Z,by grind[wanted_put],λhb w' e=>?_,λhb=>?_⟩;.rw[execOp_put o (noSel J.sel ho) aq o.dst v A,D hb w' e,K,Fx Z]
   grind[Fx]
  refine⟨(r,b)::fl,f,aq.put o.dst v,
   {lsize:=h.lsize,closed:=h.closed,chain:=hc3,nd:=hnd,bound:=λj z=>h.bound j (yJ _ z),unl:=λj z hl=>?_,pu:=λj z=>?_,ru:=λj z=>h.ru j (yJ _ z)
    boi:=λi hi j z=>h.boi i (yJ _ hi) j (yJ _ z),fsize:=by rw[Fy];exact h.fsize,fdef:=by rw[EI];exact h.fdef,fill:=λs hs=>?_,goes:=⟨_,hG⟩}⟩
  .rcases h.unl j z hl with h3|h3;.simp_all
   grind
  .rcases zJ.1 z with rfl|z;.simp_all
   .obtain⟨T,U,g3,g4,b',g5,g6⟩:=h.pu j z;refine⟨T,U,λhm=>g3 (yJ _ hm),λr' hr'=>g4 r' (yJ _ hr'),b',yJ _ g5,g6.put J.sel λo' M I G=>?_⟩;refine⟨JF hap g5 o' M I G,λe=>?_⟩;have:=J.dsts j r o' o I M ho e G;simp_all
  .have hne:o.dst≠some s:=hs r o (.inl yI) ho;rw[Fw hne];refine h.fill s λj o' z M=>?_;grind
 rcases MX hg with⟨hw,f,hy⟩|⟨hw,f,hn⟩
 .unfold Ir at hy;rw[if_pos hr]at hy;obtain⟨β,ρ,V,B,u,y⟩:=hy;split at y;case isFalse=>exact y.elim
  rename_i q;simp only[zD]at q;split at y
  .rename_i ns t hpu;obtain⟨T,U⟩:=K7 y β;exact fin true (t.ev ρ β) _ (IG q.1 K) q.2 hw (λ_ w' e=>KW (u.ext e) hpu T) (λh=>by cases h) ⟨β,ρ,V,B.putO _ _,u.putO q.1 t rfl,U⟩
  .split at y
   .rename_i ty x hop;obtain⟨v,st2,T,U⟩:=exLoad_run hop q.1 ⟨β,ρ,V,B,u,y⟩;grind[IG]
   .exact y.elim
 .unfold drawNo at hn;obtain⟨β,ρ,V,B,u,y⟩:=hn;split at y;case isFalse=>exact y.elim
  rename_i q;simp only[zD]at q;exact fin false undef _ (IG q.1 K) q.2 hw (λh=>by cases h) (λ_=>rfl) ⟨β,ρ,V,B.putO _ _,u.putO q.1 .und rfl,y⟩
theorem Inv.commit(J:Fz P all ms){r:Nat}{tl:XA}(h:Inv true P R V0 w0 L ρ0 fs H all ms k (r::tl) fl st listed a w aq pend O bo)(hr:CJ all r=false)(hl:listed.getD r true=true):
  ∃u as' O',Inv true P R V0 w0 L ρ0 fs H all ms k tl fl u listed a w as' pend O' bo:=by
 obtain⟨hnr,hnd⟩:=yv.1 h.nd;obtain⟨_,hc2,hc3⟩:=IF h.chain;obtain⟨hal,o,d,e,z,ho,hd,G,hz,hO,hv⟩:Du all r=true/\Orph P all O r (bo r) a:=by
  rcases h.ru r yI with M|M;.simp_all
  .exact M
 obtain⟨n0,X⟩:=h.goes;obtain⟨m,F,_⟩:=JH ho X;clear X;have q:o.guard=none:=by
  simp_all[Du,zD]
 unfold guardD at F;rw[q]at F;simp only at F;unfold Ir at F;rw[if_neg (by rw[hr];simp),if_pos hal]at F;obtain⟨β,ρ,V,hp,B,f⟩:=F;split at f;case isFalse=>exact f.elim
 rename_i hap;unfold exOp at f;split at f;case isFalse=>exact f.elim
 rename_i C;have hpu:CI P st o.op=none:=by rw[G];rfl
 rw[hpu]at f;simp only[G]at f;obtain⟨cs,D⟩:=yO.1 (J.allocs r o e ho G);rw[D]at f;simp only at f;obtain⟨z',K,hzc⟩:=JA (ρ:=ρ) (β:=β) D;rw[hz]at K;cases K;have hcells:((T.ofList cs).evs ρ β).toArray=z.cells:=by rw[CK,<-hzc,Array.toArray_toList]
 unfold HD at f;split at f;case isFalse=>exact f.elim
 rename_i Z;simp only[zD]at Z;have hr2:=B.adopt Z.1 Z.2 (ty:=e) (b:=bo r) (by simp_all);have hx:Value.pointer (some ⟨bo r,0,none⟩)=(T.box st.nb 0).ev ρ (upd β st.nb (bo r)):=by simp[T.ev,upd]
 have Y:=hr2.putO C (T.box st.nb 0) hx;have W:Cs ρ0 L ρ (({st with boxes:=(st.nb,T.ofList cs,e)::st.boxes,nb:=st.nb+1}:St).putO o.dst (T.box st.nb 0)):=Cs.putO (st:={st with boxes:=(st.nb,T.ofList cs,e)::st.boxes,nb:=st.nb+1}) ⟨hp.1,hp.2⟩ _ _;simp only[hd]at f Y W;have hdsz:d<aq.tmps.size:=by rw[B.size];exact IG C hd
 obtain⟨u,hG⟩:∃u,A2 P R (λc=>if c=bo r then none else O c) V0 w0 H.N L ρ0 (aq.put (some d) (.pointer (some ⟨bo r,0,none⟩))).tmps w u (DU P fs H all ms true m tl fl u k):=by
  split at f;.exact IB _ _ _ _ ⟨_,_,_,W,Y,f⟩
  .exact⟨_,_,_,_,W,Y,f⟩
 refine⟨u,aq.put (some d) (.pointer (some ⟨bo r,0,none⟩)),_,
  {lsize:=h.lsize,closed:=h.closed,chain:=hc3,nd:=hnd,bound:=λj y=>h.bound j (yJ _ y),unl:=λj y hl'=>?_,pu:=λj y=>?_,ru:=λj y=>?_
   boi:=λi hi j y=>h.boi i (yJ _ hi) j (yJ _ y),fsize:=by rw[Fy];exact h.fsize,fdef:=by rw[EI];exact h.fdef,fill:=λs hs=>?_,goes:=⟨_,hG⟩}⟩
 .rcases h.unl j y hl' with h3|h3;.exact .inl h3
  grind
 .obtain⟨g1,g2,g3,g4,b',g5,g6⟩:=h.pu j y;refine⟨g1,g2,λhm=>g3 (yJ _ hm),λr' hr'=>g4 r' (yJ _ hr'),b',g5,g6.put J.sel λU A d' I=>?_⟩;rw[<-hd]at I;refine⟨JF hap g5 U A d' I,λe=>?_⟩;have:=J.dsts j r U o d' A ho e I;simp_all
 .rcases h.ru j (yJ _ y)with M|⟨M,U,d',e',z',k1,k2,k3,k4,k5,k6⟩;.exact .inl M
  .by_cases hlj:listed.getD j true=false;.exact .inl hlj
   .refine .inr ⟨M,U,d',e',z',k1,k2,k3,k4,?_,k6⟩;have hne:bo j≠bo r:=λe=>by
     have:=h.boi j (yJ _ y) r yI (by simpa using hlj) hl e;simp_all
    simp_all
 .by_cases hsd:s=d;.grind[Fx]
  .rw[Fw (by grind)];refine h.fill s λj U y A=>?_;grind
theorem Inv.advance(u:Fz P all ms):∀(rest:XA){fl:List (Nat×Bool)}{st:St}{aq:Act}{pend:XA}{O:Mem},Inv true P R V0 w0 L ρ0 fs H all ms k rest fl st listed a w aq pend O bo->
  ∃f G z y q W,Inv true P R V0 w0 L ρ0 fs H all ms k f G z listed a w y q W bo/\(∀r J,f=r::J->CJ all r=false/\listed.getD r true=false)
 |[],fl,st,aq,pend,O,h=>⟨[],fl,st,aq,pend,O,h,λr J e=>by cases e⟩
 |r::J,fl,st,aq,pend,O,h=>by
  by_cases A:CJ all r=true
  .obtain⟨G,z,y,Y⟩:=h.float u A;exact Inv.advance u J Y
  .have Z:CJ all r=false:=by simpa using A
   by_cases hl:listed.getD r true=true
   .obtain⟨z,y,W,Y⟩:=h.commit u Z hl;exact Inv.advance u J Y
   .exact⟨r::J,fl,st,aq,pend,O,h,λM I e=>by cases e;exact⟨Z,by simpa using hl⟩⟩
end
theorem MY{all:XW}(z:∀o,o∈all.toList->Fp o.op=false){i:Nat}{o:Oper}(ho:all[i]?=some o){a aq:Act}
  (h:∀t∈o.looksAt all,aq.tmps.getD t undef=a.tmps.getD t undef):
  execOp a.eval o=execOp aq.eval o/\yX o (yielded all a.tmps)=yX o (yielded all aq.tmps):=by
 constructor
 .refine execOp_congr o (noSel z ho) λx hx=>?_;cases x with
  |tmp t=>
   have:=h t (List.mem_append_left _ (yq.2 ⟨.tmp t,by simpa using hx,rfl⟩));grind[Act.eval,undef]
  |_=>rfl
 .unfold yX;cases y:o.guard with
  |none=>rfl
  |some q=>
   obtain⟨g,f⟩:=q;simp only;cases u:(all[g]?).bind (·.dst)with
   |none=>simp[yielded,u]
   |some d=>
    have:=h d (List.mem_append_right _ (by simp[y,u]));grind[La]
theorem nodup_sub:∀{l m:XA},l.Nodup->(∀x∈l,x∈m)->l.length<=m.length
 |[],m,_,_=>yn _
 |x::l,m,hn,h=>by
  obtain⟨u,f⟩:=yv.1 hn;have hm:=h x yI;have:=nodup_sub (m:=m.erase x) f λy z=>by
   grind
  grind
theorem Gw{l:XA}{i x:Nat}(h:i∉l)(hx:x∈l):i≠x:=λe=>h (e▸hx)
theorem set_same{l:Array Bool}{i:Nat}(h:i<l.size)(d:Bool):(l.setIfInBounds i true).getD i d=true:=by
 simp_all
theorem DB{l:Array Bool}{i j:Nat}(h:i≠j)(d:Bool):(l.setIfInBounds i true).getD j d=l.getD j d:=by
 simp_all
theorem getD_any{l:Array Bool}{j:Nat}(h:l.getD j true=false):l.getD j false=false:=by
 grind
theorem ready_mem{all:XW}{listed:Array Bool}{i:Nat}(h:i∈ym .any all listed):
  i<all.size/\listed.getD i true=false/\∃o,all[i]?=some o/\∀e∈o.after,yy .any e=true->listed.getD e.on false=true:=by
 simp only[ym,yl,yo,zD,zo]at h;grind[yw,yp]
theorem ready_ne{all:XW}{listed:Array Bool}(he:JD all)(q:listed.size=all.size):∀j,j<all.size->listed.getD j true=false->ym .any all listed≠[]:=by
 intro j;induction j using yx with
 |_ j J=>
  intro f hl;have ho:=yw f;by_cases h:∃e∈all[j].after,yy .any e=true/\listed.getD e.on false=false
  .obtain⟨e,u,z,G⟩:=h;have y:=he j _ ho e u z;grind
  .intro hn;have:j∈ym .any all listed:=by
    grind[ym,yy,absurd]
   simp_all
theorem wp_transfer{P:Program}{o:Oper}{a aq:Act}{w:World}{K:Act->World->Prop}{Q:Exit->Act->World->Prop}(he:execOp a.eval o=execOp aq.eval o)(Z:∀d,o.dst=some d->d<aq.tmps.size)
  (h:o.wp P aq w (λy w'=>∃v,y=aq.put o.dst v/\K (a.put o.dst v) w') (λe _ w'=>match e with|.panic ch=>Q (.panic ch) a w'|_=>False)) (q:LetsOut (λ(_:Exit) (_:Act) (_:World)=>False)->LetsOut Q):o.wp P a w K Q:=by
 have J:∀v z w',aq.put o.dst v=aq.put o.dst z->K (a.put o.dst z) w'->K (a.put o.dst v) w':=by
  intro v z w' e hK;cases u:o.dst with
  |none=>rw[u]at hK;exact hK
  |some d=>
   have G:=Z d u;rw[u]at e hK;have:v=z:=by
    have W:=congrArg (λx:Act=>x.tmps.getD d undef) e;grind[Fx]
   simp_all
 unfold Oper.wp at*
 rw[he];generalize(execOp aq.eval o).run P w=r at*
 cases r with
 |ok n w'=>
  cases n with
  |value v=>grind[yk]
  |skip=>grind[yk,undef]
  |defer d=>
   simp only[yk]at h⊢;obtain⟨z,G,A⟩:=h;have e:=congrArg (λx:Act=>x.defers) G;simp only[EI]at e;simp_all
  |enter f args=>
   simp only[yk]at h⊢;refine Calls.mono h λe Y he=>?_;cases e with
   |returned v=>grind
   |panicked c=>exact he
   |outgrown=>exact q (by obtain⟨I,w',h⟩:=he;exact h.elim)
  |row nm args=>
   grind[yk]
  |_=>simp only[yk]at h⊢
 |halt x w'=>cases x<;>simp only[yk]at h⊢<;>exact h
section
variable{P:Program}{R:Ending->Mem->Prop}{O V0:Mem}{w0:World}{L:List (XV->Mem->Prop)}{ρ0:XV}{fs:XA}{H:Cj}
variable{all:XW}{k:St->Tr}{rest:XA}{fl:List (Nat×Bool)}{st:St}{listed:Array Bool}{a aq:Act}{w:World}{pend:XA}{bo:Nat->Nat}
theorem Lb(y:listed.size=all.size)(h:IE all listed){i:Nat}{o:Oper}(ho:all[i]?=some o)(hi:∀e∈o.after,yy .any e=true->listed.getD e.on false=true):
  IE all (listed.setIfInBounds i true):=by
 have up:∀j,listed.getD j false=true->(listed.setIfInBounds i true).getD j false=true:=by
  intro j f;by_cases e:i=j;.subst e;exact set_same (by grind) _
  simp_all
 intro j oj f hl e he u;by_cases z:i=j;.simp_all
 .rw[DB z]at hl;exact up _ (h j oj f hl e he u)
theorem MZ{c:Bool}{ms:XA}(f:Fz P all ms)(h:Inv c P R V0 w0 L ρ0 fs H all ms k rest fl st listed a w aq pend O bo){i:Nat}{o:Oper}(ho:all[i]?=some o)
  (hm:∀j,(CD ms i).testBit j=true->listed.getD j false=true) (y:∀j∈rest,j≠i->(CD ms i).testBit j=false):∀t∈o.looksAt all,aq.tmps.getD t undef=a.tmps.getD t undef:=by
 intro t q;refine h.fill t λj oj u z J=>?_;rcases u with u|⟨u,hl⟩
 .obtain⟨Z,G,_⟩:=h.pu j u;have:=hm j (f.look i o j oj t ho q (.inl G) z J).1;grind
 .rcases h.ru j u with g|⟨g,_⟩;.simp_all
  .obtain⟨Z,G⟩:=f.look i o j oj t ho q (.inr g) z J;simp_all
theorem Orph.put{ms:XA}(f:Fz P all ms){i j b:Nat}{o:Oper}(ho:all[i]?=some o)(u:i≠j)(h:Orph P all O j b a)(v:Value):Orph P all O j b (a.put o.dst v):=by
 obtain⟨z,y,G,Z,q,J,Y,W,A,I⟩:=h;exact⟨z,y,G,Z,q,J,Y,W,A,by rw[Fw λe=>u (f.dsts i j o z y ho q e J)];exact I⟩
theorem Inv.carry{ms:XA}(Z:Fz P all ms)(h:Inv true P R V0 w0 L ρ0 fs H all ms k rest fl st listed a w aq pend O bo){i:Nat}(hi:i∈pend){o:Oper}(ho:all[i]?=some o){d:Nat}(M:o.dst=some d)(A:d<a.tmps.size)
  (Y:∀e∈o.after,yy .any e=true->listed.getD e.on false=true):
  Inv true P R V0 w0 L ρ0 fs H all ms k rest fl st (listed.setIfInBounds i true) (a.put o.dst (aq.tmps.getD d undef)) w aq (pend.filter (·≠i)) O bo:=by
 have u:i∉rest:=(h.pu i hi).2.2.1;have F:i<listed.size:=by rw[h.lsize];grind
 exact
 {lsize:=by rw[yj];exact h.lsize
  closed:=Lb h.lsize h.closed ho Y
  chain:=h.chain,nd:=h.nd,bound:=h.bound
  unl:=λj f hl=>by
   by_cases e:i=j;.simp_all
   .rw[DB e]at hl;rcases h.unl j f hl with G|G;.grind
    .exact .inr G
  pu:=λj f=>by
   obtain⟨G,X⟩:=yl.1 f;have z:i≠j:=λe=>by simp[e]at X
   rw[DB z];exact h.pu j G
  ru:=λj f=>by
   have z:i≠j:=Gw u f;rw[DB z];exact(h.ru j f).imp id λ⟨B,C⟩=>⟨B,C.put Z ho z _⟩
  boi:=λx hx y I q J=>by
   rw[DB (Gw u hx)]at q;rw[DB (Gw u I)]at J;exact h.boi x hx y I q J
  fsize:=by rw[Fy];exact h.fsize
  fdef:=by rw[EI];exact h.fdef
  fill:=λs D=>by
   by_cases e:d=s;.grind[Fx]
   .rw[M,Fw (by simpa using e)];refine h.fill s λj K f W=>?_;rcases f with f|⟨f,hl⟩;.grind
    .exact D j K (.inr ⟨f,by rw[DB (Gw u f)];exact hl⟩) W
  goes:=h.goes}
theorem Inv.make{ms:XA}(I:Fz P all ms)(h:Inv true P R V0 w0 L ρ0 fs H all ms k rest fl st listed a w aq pend O bo){i:Nat}(hi:i∈rest)(M:i∉pend){o:Oper}(ho:all[i]?=some o){d:Nat}(hd:o.dst=some d)(Z:d<a.tmps.size)
  (F:Du all i=true) {e:TypeId} (hop:o.op=.alloc e) {z:Value} (hz:EG P e=some z)
  (X:∀e∈o.after,yy .any e=true->listed.getD e.on false=true):
  Inv true P R V0 w0 L ρ0 fs H all ms k rest fl st (listed.setIfInBounds i true) (a.put o.dst (.pointer (some ⟨w.heap.size,0,none⟩))) (w.alloc (.cells z.cells e (0,0))) aq pend (O.set w.heap.size (.cells z.cells e (0,0))) (upd bo i w.heap.size):=by
 have B:i<listed.size:=by rw[h.lsize];grind
 obtain⟨n0,β,ρ,V,hp,T,hD⟩:=h.goes;have hO:∀b o,O b=some o->b<w.heap.size:=λb o hb=>(yN.1 (T.hid b o hb).1).1;have f:∀j∈rest,j≠i->(listed.setIfInBounds i true).getD j true=true->Du all j=true/\Orph P all O j (bo j) a:=by
  intro j u q hl;rw[DB (λe=>q e.symm)]at hl;rcases h.ru j u with g|g;.simp_all
  .exact g
 exact
 {lsize:=by rw[yj];exact h.lsize
  closed:=Lb h.lsize h.closed ho X
  chain:=h.chain,nd:=h.nd,bound:=h.bound
  unl:=λj u hl=>by
   by_cases e:i=j;.simp_all
   .rw[DB e]at hl;exact h.unl j u hl
  pu:=λj u=>by
   have q:i≠j:=Gw M u;rw[DB q];obtain⟨C,g2,g3,g4,b,g5,g6⟩:=h.pu j u;exact⟨C,g2,g3,g4,b,g5,g6.ext (C1.alloc _ _)⟩
  ru:=λj u=>by
   by_cases Y:i=j
   .subst Y;exact .inr ⟨F,o,d,e,z,ho,hd,hop,hz,by simp only[upd,if_true,Mem.set_same],by simp only[upd,if_true];rw[hd,Fx Z]⟩
   .cases hl:(listed.setIfInBounds i true).getD j true with
    |false=>exact .inl rfl
    |true=>
     obtain⟨C,g2⟩:=f j u (λe=>Y e.symm) hl;obtain⟨o',d',e'',z',k1,k2,k3,k4,k5,k6⟩:=g2.put I ho Y (.pointer (some ⟨w.heap.size,0,none⟩));have D:¬j=i:=λe=>Y e.symm;refine .inr ⟨C,o',d',e'',z',k1,k2,k3,k4,?_,?_⟩
     .simp only[upd,if_neg D];grind[Mem.set_ne,Nat.ne_of_lt]
     grind[upd]
  boi:=λx hx y U J G W=>by
   by_cases ex:x=i<;>by_cases A:y=i;.rw[ex,A]
   .subst ex;obtain⟨_,_,_,_,_,_,_,_,_,k5,_⟩:=f y U A G;grind[upd]
   .subst A;obtain⟨_,_,_,_,_,_,_,_,_,k5,_⟩:=f x hx ex J;grind[upd,ex]
   .simp only[upd,if_neg ex,if_neg A]at W;rw[DB (λe=>ex e.symm)]at J;rw[DB (λe=>A e.symm)]at G;exact h.boi x hx y U J G W
  fsize:=by rw[Fy];exact h.fsize
  fdef:=by rw[EI];exact h.fdef
  fill:=λs hs=>by
   rw[Fw (hs i o (.inr ⟨hi,set_same B _⟩) ho)];refine h.fill s λj o' u K=>?_;rcases u with u|⟨u,hl⟩;.grind
   .refine hs j o' (.inr ⟨u,?_⟩) K;by_cases Y:i=j;.simp_all
    simp_all
  goes:=⟨n0,β,ρ,V,hp,T.orphan _,hD⟩}
theorem Inv.lock{c:Bool}{ms:XA}(W:Fz P all ms){r:Nat}{A:XA}(h:Inv c P R V0 w0 L ρ0 fs H all ms k (r::A) fl st listed a w aq pend O bo){o:Oper}(ho:all[r]?=some o)(K:listed.getD r true=false)
  (I:∀d,o.dst=some d->d<a.tmps.size) (M:∀e∈o.after,yy .any e=true->listed.getD e.on false=true) {v:Value} {w':World} {z:St} {q:List (Nat×Bool)} {n:Nat}
  (hp:∀j∈pend,∃b,(j,b)∈q/\FZ P all j b (aq.put o.dst v) w') (T:A2 P R O V0 w0 H.N L ρ0 (aq.put o.dst v).tmps w' z (DU P fs H all ms true n A q z k)):
  Inv true P R V0 w0 L ρ0 fs H all ms k A q z (listed.setIfInBounds r true) (a.put o.dst v) w' (aq.put o.dst v) pend O bo:=by
 obtain⟨J,F⟩:=yv.1 h.nd;obtain⟨_,_,X⟩:=IF h.chain;have U:r<listed.size:=by grind
 exact
 {lsize:=by rw[yj];exact h.lsize
  closed:=Lb h.lsize h.closed ho M
  chain:=X,nd:=F,bound:=λj f=>h.bound j (yJ _ f)
  unl:=λj f hl=>by
   by_cases e:r=j;.simp_all
   .rw[DB e]at hl;rcases h.unl j f hl with G|G;.exact .inl G
    grind
  pu:=λj f=>by
   obtain⟨C,g2,g3,g4,_⟩:=h.pu j f;have u:r≠j:=λe=>g3 (e▸yI);simp_all
  ru:=λj f=>by
   have u:r≠j:=Gw J f;rw[DB u];exact(h.ru j (yJ _ f)).imp id λ⟨C,g2⟩=>⟨C,g2.put W ho u _⟩
  boi:=λx hx y D Z Y=>by
   rw[DB (Gw J hx)]at Z;rw[DB (Gw J D)]at Y;exact h.boi x (yJ _ hx) y (yJ _ D) Z Y
  fsize:=by rw[Fy,Fy];exact h.fsize
  fdef:=by rw[EI,EI];exact h.fdef
  fill:=λs hs=>by
   by_cases e:o.dst=some s
   .have G:=I s e;rw[e,Fx G,Fx (by rw[h.fsize];exact G)]
   .rw[Fw e,Fw e];refine h.fill s λj o' f B=>?_;rcases f with f|⟨f,hl⟩;.grind
    .rcases zJ.1 f with rfl|f;.simp_all
     .have u:r≠j:=λe'=>by simp_all
      exact hs j o' (.inr ⟨f,by simp_all⟩) B
  goes:=⟨n,T⟩}
theorem Inv.reorder{ms:XA}(h:Inv true P R V0 w0 L ρ0 fs H all ms k rest fl st listed a w aq pend O bo){f:XA}(q:Iq f rest=true)(hc:Fq all ms f=true){n:Nat}
  (Z:A2 P R O V0 w0 H.N L ρ0 aq.tmps w st (DU P fs H all ms false n f fl st k)):Inv false P R V0 w0 L ρ0 fs H all ms k f fl st listed a w aq pend O bo:=by
 obtain⟨A,J,z⟩:=sameSet_spec q;have G:∀x∈rest,x∈f:=λx hx=>by
  by_cases hm:x∈f;.exact hm
  .exfalso;have Y:(x::f).length<=rest.length:=nodup_sub (yv.2 ⟨hm,J⟩) λy I=>by
    grind
   grind
 exact
 {lsize:=h.lsize,closed:=h.closed,chain:=hc,nd:=J,bound:=λj u=>h.bound j (z j u),unl:=λj u hl=>(h.unl j u hl).imp id (G j)
  pu:=λj u=>by
   obtain⟨M,g2,g3,g4,F⟩:=h.pu j u;grind
  ru:=λj u=>h.ru j (z j u),boi:=λi W j u=>h.boi i (z i W) j (z j u),fsize:=h.fsize,fdef:=h.fdef
  fill:=λs q=>h.fill s λj o u=>q j o (u.imp id λx=>⟨G j x.1,x.2⟩),goes:=⟨n,Z⟩}
end
section
variable{P:Program}{R:Ending->Mem->Prop}{V0:Mem}{w0:World}{L:List (XV->Mem->Prop)}{ρ0:XV}{fs:XA}{H:Cj}
variable{all:XW}{k:St->Tr}{Q:Exit->Act->World->Prop}
theorem Lc:∀(n:Nat)(l:XA),l.Nodup->(∀x∈l,x<n)->l.length<=n
 |0,l,_,h=>by
  cases l with
  |nil=>exact yu _
  |cons x l=>exact absurd (h x yI) (Nat.not_lt_zero _)
 |n+1,l,hn,h=>by
  by_cases hm:n∈l
  .have f:=Lc n (l.erase n) (hn.erase n) λx hx=>by
    obtain⟨y,u⟩:=hn.mem_erase_iff.1 hx;have:=h x u;omega
   rw[List.length_erase_of_mem hm]at f;omega
  .have f:=Lc n l hn λx hx=>by
    have:=h x hx;have z:x≠n:=λe=>hm (e▸hx);omega
   omega
theorem nodup_all{l:XA}{n:Nat}(hn:l.Nodup)(h:∀x∈l,x<n)(hl:l.length=n){j:Nat}(f:j<n):j∈l:=by
 by_cases hm:j∈l;.exact hm
 .have:=Lc n (j::l) (yv.2 ⟨hm,hn⟩) λx hx=>by
   grind
  grind
theorem OF{listed:Array Bool}(he:JD all)(hc:IE all listed){i:Nat}{o:Oper}(ho:all[i]?=some o)(f:∀e∈o.after,yy .any e=true->listed.getD e.on false=true):
  ∀j,(CD (Cb all.toList []) i).testBit j=true->listed.getD j false=true:=mask_listed he hc i o ho f
theorem any_sound(hcalls:DV P fs)(u:Fz P all (Cb all.toList []))(hdst:∀(i:Nat)(o:Oper),all[i]?=some o->DI H.N o.dst=true){a0:Act}(hQ:Fu R V0 w0 a0.defers Q)(hlo:LetsOut (λ(_:Exit)(_:Act)(_:World)=>False)->LetsOut Q)
  (hk:∀y a' w',a'.defers=a0.defers->A2 P R Dj V0 w0 H.N L ρ0 a'.tmps w' y (k y)->Q .normal a' w'):
  ∀(fuel:Nat)(rem:XA)(rest:XA)(fl:List (Nat×Bool))(st:St)(listed:Array Bool)(a:Act)(w:World)(aq:Act)(pend:XA)(O:Mem)(bo:Nat->Nat),
   Inv true P R V0 w0 L ρ0 fs H all (Cb all.toList []) k rest fl st listed a w aq pend O bo->aq.defers=a0.defers->rem.Nodup->rem.length=fuel->(∀j,j∈rem↔(j<all.size/\listed.getD j true=false))->
   wpAny P .any all Q fuel listed a w:=by
 intro fuel;induction fuel with
 |zero=>
  intro rem rest fl st listed a w aq pend O bo h f hnd F A;have hnil:rem=[]:=List.length_eq_zero_iff.1 F;subst hnil;obtain⟨X,fl',y,as',B,O',h',J⟩:=h.advance u;have hnone:∀j,j<all.size->listed.getD j true=false->False:=λj h1 h2=>by simp_all
  have hr:X=[]:=by
   cases X with
   |nil=>rfl
   |cons r tl=>exact(hnone r (h'.bound r yI) (J r tl rfl).2).elim
  subst hr;have hp:B=[]:=by
   cases B with
   |nil=>rfl
   |cons j tl=>
    obtain⟨g1,_,_,_,b,_,o,d,g2,_⟩:=h'.pu j yI;grind
  subst hp;refine⟨?_,?_⟩
  .cases hrd:ym .any all listed with
   |nil=>rfl
   |cons i tl=>
    obtain⟨g1,g2,_⟩:=ready_mem (all:=all) (listed:=listed) (i:=i) (by simp_all);simp_all
  .have htm:as'.tmps=a.tmps:=by
    refine Array.ext h'.fsize λi h1 h2=>?_;have:=h'.fill i λj o M=>by simp_all
    simp_all
   obtain⟨n0,β,ρ,V,hp,hr,C⟩:=h'.goes;have C:D P R (k (y.compact H.keep)) L ρ V:=by cases n0<;>exact C
   refine hk (y.compact H.keep) a w (by rw[<-h.fdef];exact f) ⟨β,ρ,V,hp.compact _,?_,C⟩;rw[<-htm];exact(hr.compact _).less λb o hb=>by cases hb
 |succ fuel ih=>
  intro rem rest0 fl0 st0 listed a w as0 pend0 O0 bo h0 hdef0 hnd F A;obtain⟨rest,fl,st,aq,pend,O,h,J⟩:=h0.advance u;have f:aq.defers=a0.defers:=by rw[h.fdef,<-h0.fdef];exact hdef0
  have next:∀{i:Nat}{rest:XA}{fl:List (Nat×Bool)}{st:St}{a:Act}{w:World}{aq:Act}{pend:XA}{O:Mem}{bo:Nat->Nat},i<all.size->listed.getD i true=false->
    Inv true P R V0 w0 L ρ0 fs H all (Cb all.toList []) k rest fl st (listed.setIfInBounds i true) a w aq pend O bo->aq.defers=a0.defers->wpAny P .any all Q fuel (listed.setIfInBounds i true) a w:=by
   intro i rest fl st a w aq pend O bo hi G hI hd;have him:i∈rem:=(A i).2 ⟨hi,G⟩;refine ih (rem.erase i) rest fl st _ a w aq pend O bo hI hd (hnd.erase i) (by simp_all) λj=>?_;rw[hnd.mem_erase_iff,A j];by_cases e:i=j;.simp_all
   .rw[DB e];grind
  refine⟨λhn=>?_,λi hi=>?_⟩
  .obtain⟨j,M⟩:∃j,j∈rem:=by
    cases rem with
    |nil=>cases F
    |cons j _=>grind
   obtain⟨h1,h2⟩:=(A j).1 M;exact absurd hn (ready_ne u.edges h.lsize j h1 h2)
  .obtain⟨Y,G,o,ho,K⟩:=ready_mem hi;have Z:=OF u.edges h.closed ho K;have T:aq.tmps.size=H.N:=by obtain⟨_,β,ρ,V,_,hr,_⟩:=h.goes;exact hr.size
   have U:∀d,o.dst=some d->d<a.tmps.size:=λd hd=>by
    rw[<-h.fsize,T];exact IG (hdst i o ho) hd
   unfold wpOp;simp only[ho];by_cases W:i∈pend
   ·-- it floats and stands out
    obtain⟨g1,g2,g3,g4,b,g5,o',d,k1,k2,k3,k4,k5,k6⟩:=h.pu i W;rw[ho]at k1;cases k1;obtain⟨e1,e2⟩:=MY u.sel ho (MZ u h ho Z λj M _=>g4 j M);rw[e2,k4];have hI:=h.carry u W ho k2 (U d k2) K;cases b with
    |true=>
     rw[if_pos rfl];refine .inl ?_;unfold Oper.wp;rw[e1,k5 rfl w (C1.refl w)];exact next Y G hI f
    |false=>
     grind
   .have hir:i∈rest:=(h.unl i Y G).resolve_left W;by_cases hal:Du all i=true
    ·-- a block is made
     have I:=hal;unfold Du at I;rw[ho]at I;simp only[zD]at I;obtain⟨⟨⟨q1,q2⟩,q3⟩,q4⟩:=I;obtain⟨d,hd⟩:=yO.1 q4;cases hop:o.op with
     |alloc e=>
      obtain⟨cs,hcs⟩:=yO.1 (u.allocs i o e ho hop);obtain⟨z,hz,hzc⟩:=JA (ρ:=[]) (β:=id) hcs;have hI:=h.make u hir W ho hd (U d hd) hal hop hz K;have hg:o.guard=none:=by simpa using q2
      rw[show yX o (yielded all a.tmps)=true by simp[yX,hg],if_pos rfl];refine .inl ?_;have hrun:(execOp a.eval o).run P w=.ok (.value (.pointer (some ⟨w.heap.size,0,none⟩))) (w.alloc (.cells z.cells e (0,0))):=by
       unfold execOp;simp only[hop,Instr.alloc,Jp hz,newVar,newRow,zV,run_newObj,zX,zW];rfl
      unfold Oper.wp;rw[hrun];exact next Y G hI f
     |_=>simp[hop]at q1
    ·-- both go on
     have go:∀{c:Bool}{tl:XA}{fl:List (Nat×Bool)}{st:St}{aq:Act}{pend:XA}{O:Mem}{bo:Nat->Nat},Inv c P R V0 w0 L ρ0 fs H all (Cb all.toList []) k (i::tl) fl st listed a w aq pend O bo->i∉pend->aq.defers=a0.defers->CJ all i=false->
       (if yX o (yielded all a.tmps)then o.wp P a w (wpAny P .any all Q fuel (listed.setIfInBounds i true)) Q∨(o.asks P a w/\LetsOut Q)else wpAny P .any all Q fuel (listed.setIfInBounds i true) (a.put o.dst undef) w):=by
      clear h f T W hir J;intro c tl fl st aq pend O bo h W f hrf;obtain⟨_,hc2,hc3⟩:=IF h.chain;have hnotin:∀j∈pend,(CD (Cb all.toList []) i).testBit j=false:=λj M=>by
       cases hb:(CD (Cb all.toList []) i).testBit j with
       |false=>rfl
       |true=>
        have:=Z j hb;rw[getD_any (h.pu j M).1]at this;cases this
      obtain⟨e1,e2⟩:=MY u.sel ho (MZ u h ho Z λj M hne=>by
       simp_all)
      rw[e2];obtain⟨n0,hg0⟩:=h.goes;obtain⟨m,hg,_⟩:=JH ho hg0;have hneq:∀j∈pend,∀oj,all[j]?=some oj->∀d',o.dst=some d'->oj.dst≠some d':=λj M oj hoj d' hd' e=>by
       have:=u.dsts j i oj o d' hoj ho e hd';simp_all
      rcases MX hg with⟨hw,y,hy⟩|⟨hw,y,hn⟩
      .rw[hw,if_pos rfl];refine .inl ?_;unfold Ir at hy;rw[if_neg (by rw[hrf];simp),if_neg hal]at hy;have hy':G7 all (FX (Cb all.toList []) i fl) o.dst=true/\A2 P R O V0 w0 H.N L ρ0 aq.tmps w y (exOp P fs H y o λst=>G6 P all (FX (Cb all.toList []) i fl) st (DU P fs H all (Cb all.toList []) true m tl (FX (Cb all.toList []) i fl) st k)):=by
        split at hy;.simp_all
        .obtain⟨β,ρ,V,_,_,C⟩:=hy;exact C.elim
       obtain⟨hap,hy2⟩:=hy';refine wp_transfer e1 (λd hd=>by rw[h.fsize];exact U d hd) ?_ hlo;refine ML hcalls (λch a' w' _ hR=>hQ ch a w' (by rw[<-h.fdef];exact f) hR) hy2 λst2 as2 w2 ⟨v,hv⟩ hG=>⟨v,hv,?_⟩;subst hv;obtain⟨β,ρ,V,hp2,hr2,hD2⟩:=hG;obtain⟨hD3,hrec⟩:=JG hr2 hD2;refine next Y G (h.lock u ho G U K (λj M=>?_) ⟨β,ρ,V,hp2,hr2,hD3⟩) (by rw[EI];exact f)
       obtain⟨_,_,_,_,b,g5,oj,d,k1,k2,k3,k4,k5,k6⟩:=h.pu j M;have hst:(j,b)∈FX (Cb all.toList []) i fl:=yl.2 ⟨g5,by simp_all⟩;refine⟨b,hst,oj,d,k1,k2,by rw[Fy];exact k3,?_,λhb w' ew=>?_,λhb=>?_⟩;.grind[wanted_put,JF]
       .grind
       grind[Fw]
      .rw[hw,if_neg (by simp)];unfold drawNo at hn;obtain⟨β,ρ,V,hp,hr,C⟩:=hn;split at C;case isFalse=>exact C.elim
       rename_i hc;simp only[zD]at hc;rw[hrf]at C;simp only[zY,if_false]at C;refine next Y G (h.lock u ho G U K (v:=undef) (λj M=>?_) ⟨β,ρ,V,hp.putO _ _,hr.putO hc.1 .und rfl,C⟩) (by rw[EI];exact f)
       obtain⟨_,_,_,_,b,g5,g6⟩:=h.pu j M;have hst:(j,b)∈FX (Cb all.toList []) i fl:=yl.2 ⟨g5,by simp_all⟩;exact⟨b,hst,g6.put u.sel λoj hoj d' hd'=>⟨JF hc.2 g5 oj hoj d' hd',hneq j M oj hoj d' hd'⟩⟩
     cases rest with
     |nil=>cases hir
     |cons r tl=>
      obtain⟨hrf,hrl⟩:=J r tl rfl;rcases zJ.1 hir with e|e;.grind
      .obtain⟨hc1,hc2,hc3⟩:=IF h.chain;have hnr:(CD (Cb all.toList []) i).testBit r=false:=by
        grind
       rcases hc1 with hc1|hc1;.simp_all
       .rcases hc1 i e with((q|q)|⟨hif,hall⟩)|⟨q,q1,q2,q3⟩;.simp_all
        .grind
        .obtain⟨or',hor⟩:∃or',all[r]?=some or':=⟨_,yw (h.bound r yI)⟩;obtain⟨n0,hg0⟩:=h.goes;obtain⟨m,_,hfork⟩:=JH hor hg0;have hmem:i∈altsOf all (Cb all.toList []) r tl:=by
          grind[altsOf]
         obtain⟨l,f1,f2,f3⟩:=hfork rfl i hmem;exact go (h.reorder f1 f2 f3) W f hif
        .exfalso;have hql:=Z q q2;rcases h.ru q (yJ _ q1)with g|⟨g,_⟩;.grind
         simp_all
theorem Rel.drawn{O V0:Mem}{w0:World}{N:Nat}{β:Nat->Nat}{st:St}{ρ:XV}{V:Mem}{w:World}{tmps:XQ}(h:Rel O V0 w0 N β st ρ V tmps w)(n:Nat):Rel O V0 w0 N β st ρ V tmps {w with drawn:=n}:=
 h.ext ⟨λ_ _ h=>h,yu _,rfl,rfl⟩
theorem OG(f:DV P fs)(hm:P.follows .mixedOrders=true){id:Nat}{st:St}{a:Act}{w:World}(F:Fu R V0 w0 a.defers Q)(h:A2 P R Dj V0 w0 H.N L ρ0 a.tmps w st (Is P fs H all st k))
  (q:LetsOut (λ(_:Exit) (_:Act) (_:World)=>False)->LetsOut Q)
  (hk:∀y J w',J.defers=a.defers->A2 P R Dj V0 w0 H.N L ρ0 J.tmps w' y (k y)->Q .normal J w'):(Code.region id all true).wp P Q a w:=by
 unfold Is at h;simp only at h;obtain⟨β,ρ,V,hp,X,G⟩:=h;split at G;case isFalse=>exact G.elim
 rename_i I;simp only[zD,yK]at I;obtain⟨Z,Y⟩:=I;obtain⟨W,B,M,A,C⟩:=MU Z;have z:∀j d,j<all.size->(Array.replicate all.size false).getD j d=false:=λj d u=>by simp_all
 refine wp_region_any hm (any_sound f W (λi o ho=>Y o (by grind)) F q hk all.size (List.range all.size) (HG all (Cb all.toList []) all.size 0) [] st _ a _ a [] Dj (λx=>x) ?_ rfl List.nodup_range (by simp) λj=>?_)
 .exact
  {lsize:=by simp
   closed:=λj oj u hl=>by
    rw[z j _ (yN.1 u).1]at hl;cases hl
   chain:=C
   nd:=M
   bound:=A
   unl:=λj u _=>.inr (nodup_all M A B u)
   pu:=λj u=>by cases u
   ru:=λj u=>.inl (z j _ (A j u))
   boi:=λi D j u hl=>by omega
   fsize:=rfl
   fdef:=rfl
   fill:=λs _=>rfl
   goes:=⟨_,β,ρ,V,hp,X.drawn _,G⟩}
 simp_all
end
def Ex.toExit:Ex->Exit
 |.normal=>.normal
 |.exit i=>.exit i
 |.ret=>.ret
theorem Ld(p:Nat->Prop)(h:∃n,p n):∃n,p n/\∀m,p m->n<=m:=by
 obtain⟨n,hn⟩:=h;induction n using yx with
 |_ n f=>
  grind
open Classical in
theorem wp_loop_rel{P:Program}{c:Code}{Q:Exit->Act->World->Prop}{a:Act}{w:World}(Inv:Nat->Act->World->Prop)(z:∃n,Inv n a w)
  (round:∀n a w,Inv n a w->c.wp P (Exit.then (λf w'=>∃u,u<n/\Inv u f w') Q) a w):(Code.loop c).wp P Q a w:=by
 let m:Act->World->Nat:=λa w=>if h:∃n,Inv n a w then yi (Ld _ h)else 0
 have hm:∀a w (h:∃n,Inv n a w),Inv (m a w) a w/\∀k,Inv k a w->m a w<=k:=λa w h=>by
  grind
 refine wp_loop (λa w=>∃n,Inv n a w) m z λa w y=>?_;obtain⟨J,G⟩:=hm a w y;refine Code.wp_mono (λe f w' q=>?_) (round _ a w J);grind
section
variable{P:Program}{R:Ending->Mem->Prop}{O V0:Mem}{w0:World}{fs:XA}{H:Cj}
theorem A2.weak{L:List (XV->Mem->Prop)}{ρ0 u:XV}{N:Nat}{tmps:XQ}{w:World}{st:St}{t:Tr}(h:A2 P R O V0 w0 N L u tmps w st t)(z:ρ0<+:u):A2 P R O V0 w0 N L ρ0 tmps w st t:=by
 obtain⟨β,ρ,V,f,y,q⟩:=h;exact⟨β,ρ,V,⟨z.trans f.1,f.2⟩,y,q⟩
theorem ex_sound(W:DV P fs)(hm:P.follows .mixedOrders=true):∀(c:Code)(L:List (XV->Mem->Prop))(ρ0:XV)(st:St)(k:Ex->St->Tr)(a:Act)(w:World)(Q:Exit->Act->World->Prop),
  Fu R V0 w0 a.defers Q->A2 P R Dj V0 w0 H.N L ρ0 a.tmps w st (ex P fs H c st k)->
  (∀e f q w' B,L<+:B->q.defers=a.defers->A2 P R Dj V0 w0 H.N B ρ0 q.tmps w' f (k e f)->Q e.toExit q w')->c.wp P Q a w:=by
 intro c;induction c with
 |skip=>intro L ρ0 st k a w Q z h hk;exact wp_skip (hk .normal st a w L (yh _) rfl h)
 |ret=>intro L ρ0 st k a w Q z h hk;exact wp_ret (hk .ret st a w L (yh _) rfl h)
 |exit id=>intro L ρ0 st k a w Q z h hk;exact wp_exit (hk (.exit id) st a w L (yh _) rfl h)
 |seq x y C K=>
  intro L ρ0 st k a w Q z h hk;refine wp_seq (C L ρ0 st _ a w _ z h λe f q w' B hL X Z=>?_);cases e with
  |normal=>exact K B ρ0 f k q w' Q (by grind) Z λe st'' a'' w'' L'' hL' hd' hg'=>hk e st'' a'' w'' L'' (hL.trans hL') (hd'.trans X) hg'
  |exit i=>exact hk (.exit i) f q w' B hL X Z
  |ret=>exact hk .ret f q w' B hL X Z
 |block id b ih=>
  intro L ρ0 st k a w Q z h hk;refine wp_block (ih L ρ0 st _ a w _ z h λe f q w' B hL X Z=>?_);cases e with
  |normal=>exact hk .normal f q w' B hL X Z
  |exit i=>
   simp only at Z;show(if i=id then Q .normal q w' else Q (.exit i) q w');split;.rename_i e;rw[if_pos e]at Z;exact hk .normal f q w' B hL X Z
   .rename_i e;rw[if_neg e]at Z;exact hk (.exit i) f q w' B hL X Z
  |ret=>exact hk .ret f q w' B hL X Z
 |cond c x y C K=>
  intro L ρ0 st k a w Q z h hk;obtain⟨β,ρ,V,F,A,u⟩:=h;simp only[ex]at u;split at u
  .rename_i v hv;have he:a.eval c=.bool v:=Bc A hv;cases v with
   |true=>exact wp_cond_true he (C L ρ0 st k a w Q z ⟨β,ρ,V,F,A,u⟩ hk)
   |false=>exact wp_cond_false he (K L ρ0 st k a w Q z ⟨β,ρ,V,F,A,u⟩ hk)
  .rename_i t _ ht;split at u
   .rename_i hc;obtain⟨hc1,hc2⟩:=hc;obtain⟨b,hb⟩:=FY (ρ:=ρ) (β:=β) hc1;have he:a.eval c=.bool b:=(Bc A ht).trans hb;have hfr:=(T.ev_free (β:=id) (β':=β) (ρ:=ρ) t hc2).1;split at u
    .rename_i d;simp only[D,hfr,hb,asB]at u;have M:Rel Dj V0 w0 H.N β (st.now d (.bool b)) ρ V a.tmps w:=A.now (t:=t) ht (by rw[hb];rfl);cases b with
     |true=>exact wp_cond_true he (C L ρ0 _ k a w Q z ⟨β,ρ,V,F.now _ _,M,u.1 rfl⟩ hk)
     |false=>exact wp_cond_false he (K L ρ0 _ k a w Q z ⟨β,ρ,V,F.now _ _,M,u.2 rfl⟩ hk)
    .simp only[D,hfr,hb,asB]at u;cases b with
     |true=>exact wp_cond_true he (C L ρ0 _ k a w Q z ⟨β,ρ,V,F,A,u.1 rfl⟩ hk)
     |false=>exact wp_cond_false he (K L ρ0 _ k a w Q z ⟨β,ρ,V,F,A,u.2 rfl⟩ hk)
   .exact u.elim
  .exact u.elim
 |region id ops draw=>
  intro L ρ0 st k a w Q z h hk;cases draw with
  |true=>exact OG W hm z h (λ⟨_,_,h⟩=>h.elim) λf q w' X Z=>hk .normal f q w' L (yh _) X Z
  |false=>
   refine wp_region_list (IC W ops.toList st a w z h λf q w' X Z=>hk .normal f q w' L (yh _) X Z)
 |loop b ih=>
  intro L ρ0 st k a w Q z h hk;obtain⟨β,ρ,V,F,A,u⟩:=h;simp only[ex,exLoop]at u;generalize dedup (Gn b)=ws at u;generalize(((Gp b).bind λi=>H.loops.lookup i).getD [])=hint at u;obtain⟨f,t,Z,hfree,β',ρ',V',hp',hr',G⟩:=Ea _ _ _ _ ⟨β,ρ,V,F,A,u⟩;split at G;case isFalse=>exact G.elim
  rename_i hw;split at G;.exact G.elim
  .rename_i st1 bs hgb;split at G;.exact G.elim
   .rename_i init hinit;split at G;case isFalse=>exact G.elim
    rename_i hok;simp only[D]at G;obtain⟨I,μ,hI,hround⟩:=G;obtain⟨hrh,hsh⟩:=JC hw hr'.nv (yh _) hgb hinit hok hr';let Inv:Nat->Act->World->Prop:=λn q w'=>∃β xs V',Shaped (bs.flatMap (·.2.2)++(Cn ws st1).2.flatMap (·.2.2)) xs/\I xs V'/\μ xs V'=n/\
     Rel Dj V0 w0 H.N β {(Cn ws st1).1 with depth:=f.depth+1} (ρ'++xs) V' q.tmps w'/\q.defers=a.defers
    refine wp_loop_rel Inv ⟨_,β',init.evs ρ' id,V',hsh,hI,rfl,hrh,rfl⟩ ?_;rintro n a1 w1 ⟨β1,xs,V1,hsh1,hI1,rfl,hr1,hd1⟩;have hDb:=hround xs V1 hsh1 hI1;refine ih (L++[λys U=>I ys U/\μ ys U<μ xs V1]) ρ' _ _ a1 w1 _ (by rw[hd1];exact z) ⟨β1,ρ'++xs,V1,⟨yP _ _,?_⟩,hr1,hDb⟩ ?_;.simp[hp'.2]
    .intro e st2 a2 w2 L2 hL2 hd2 hg2;cases e with
     |normal=>
      obtain⟨β2,ρ2,V2,hp2,hr2,Y⟩:=hg2;simp only at Y;split at Y
      .rename_i vs hvs;split at Y
       .rename_i hok2;simp only[D]at Y;obtain⟨J,hJ,hJ2⟩:=Y;have hlvl:L2[f.depth]?=some (λys U=>I ys U/\μ ys U<μ xs V1):=by
         obtain⟨σ,rfl⟩:=hL2;rw[<-hp'.2,List.getElem?_append_left (by simp),List.getElem?_append_right (yu _)];simp
        rw[hlvl]at hJ;simp only[zH]at hJ;subst hJ;obtain⟨hrh2,hsh2⟩:=JC hw hr'.nv hp2.1 hgb hvs hok2 hr2;exact⟨_,hJ2.2,β2,vs.evs ρ2 id,V2,hsh2,hJ2.1,rfl,hrh2,hd2.trans hd1⟩
       .exact Y.elim
      .exact Y.elim
     |exit i=>exact hk (.exit i) st2 a2 w2 L2 ((yP _ _).trans hL2) (hd2.trans hd1) (hg2.weak hp'.1)
     |ret=>exact hk .ret st2 a2 w2 L2 ((yP _ _).trans hL2) (hd2.trans hd1) (hg2.weak hp'.1)
 |rangeFunc _ _ _ _ _ _=>intro L ρ0 st k a w Q z h hk;obtain⟨β,ρ,V,F,A,u⟩:=h;exact u.elim
 |scope _ _=>intro L ρ0 st k a w Q z h hk;obtain⟨β,ρ,V,F,A,u⟩:=h;exact u.elim
 |label _=>intro L ρ0 st k a w Q z h hk;obtain⟨β,ρ,V,F,A,u⟩:=h;exact u.elim
 |goto _=>intro L ρ0 st k a w Q z h hk;obtain⟨β,ρ,V,F,A,u⟩:=h;exact u.elim
 |refuse _=>intro L ρ0 st k a w Q z h hk;obtain⟨β,ρ,V,F,A,u⟩:=h;exact u.elim
end
section
variable{P:Program}{R:Ending->Mem->Prop}{fs:XA}{H:Cj}
theorem Le{O V0:Mem}{w0:World}{N:Nat}{β:Nat->Nat}{st:St}{ρ:XV}{V:Mem}{tmps:XQ}{w:World}(f:Rel O V0 w0 N β st ρ V tmps w):
  ∀(rs:List ResultVar)(ts:XJ),resT P st rs=some ts->
   (rs.mapM λ|.tmp t=>pure (tmps.getD t undef)|.cell a t=>do loadVar t (<-asAddr (tmps.getD a undef)):Sem (XV)).run P w=.ok (ts.map (·.ev ρ β)) w
 |[],ts,h=>by simp_all[resT,zH]
 |.tmp t::rs,ts,h=>by
  simp only[resT]at h;split at h
  .rename_i x xs u z;simp only[zH]at h;subst h;have q:=Le f rs xs z;simp only[List.mapM_cons,zV,zX,zW,f.slots t x u,zI];rw[q];rfl
  .simp at h
 |.cell c t::rs,ts,h=>by
  simp only[resT]at h;split at h
  .rename_i i o xs u z;cases y:st.box i with
   |none=>simp[y]at h
   |some cs=>
    obtain⟨cs,ty⟩:=cs;simp only[y,zS,zn]at h;obtain⟨x,J,rfl⟩:=h;have q:=Le f rs xs z;have hl:=HP (P:=P) (f.boxes i cs ty y).1 J;have e:asAddr (tmps.getD c undef)=pure ⟨β i,o,none⟩:=by rw[f.slots c _ u];rfl
    simp_all
  .simp at h
theorem OH{O V0:Mem}{w0:World}{N:Nat}{β:Nat->Nat}{st:St}{ρ:XV}{V:Mem}{tmps:XQ}{w:World}(z:Rel O V0 w0 N β st ρ V tmps w){fn:Func}{t:T}
  (h:Jm P st fn.results.toList=some t):(results fn tmps).run P w=.ok (t.ev ρ β) w:=by
 unfold Jm at h;have key:∀ts,resT P st fn.results.toList=some ts->(results fn tmps).run P w=.ok (if h:(ts.map (·.ev ρ β)).toArray.size=1 then(ts.map (·.ev ρ β)).toArray[0]else .tuple (ts.map (·.ev ρ β)).toArray) w:=by
  intro ts f;have y:=Le (P:=P) z _ ts f;unfold results;rw[Array.mapM_eq_mapM_toList];rw[zV,Sem.run_map]
  erw [y]
  rfl
 split at h;.simp_all
 .rename_i ts u f;simp only[zH]at h;subst h;rw[key _ f];have:¬(ts.map (·.ev ρ β)).toArray.size=1:=by
   intro e
   match ts,e with
   |[x],_=>exact u x rfl
  rw[dif_neg this];simp only[T.ev,CK]
 .simp at h
theorem M0:∀(ps:XJ)(n s:Nat)(t:T),((List.range' n ps.length).zip ps).lookup s=some t->∃i,s=n+i/\ps[i]?=some t
 |[],n,s,t,h=>by simp at h
 |p::ps,n,s,t,h=>by
  simp only[zg,List.range'_succ,List.zip_cons_cons,List.lookup_cons]at h;split at h
  .rename_i e;simp only[beq_iff_eq]at e;subst e;exact⟨0,rfl,by simpa using h⟩
  .obtain⟨i,u,f⟩:=M0 ps (n+1) s t h;exact⟨i+1,by omega,by simpa using f⟩
theorem tri_of_tree(u:DV P fs)(hm:P.follows .mixedOrders=true){f:FuncId}{fn:Func}(X:P.funcs[f]?=some fn){ps:XJ}{ρ:XV}{t:Tr}(B:G8 P fs H fn ps ρ.length=t){args:XQ}(hargs:args=(ps.map (·.ev ρ id)).toArray)
  {V:Mem} (h:D P R t [] ρ V):Tri P f args V R:=by
 intro w C;subst B;unfold G8 at h;split at h;.exact h.elim
 .rename_i c K;split at h;case isFalse=>exact h.elim
  rename_i z;obtain⟨h1,h2,U⟩:=z;rw[wf_ofList]at U;have hsz:args.size=ps.length:=by rw[hargs];simp
  refine calls_of_wp X K (ex_sound (V0:=V) (w0:=w) (H:=H) (R:=R) u hm c [] ρ _ _ _ w _ (λch W w' A hR=>⟨A,hR⟩) ⟨id,ρ,V,⟨yh _,rfl⟩,?_,h⟩ ?_)
  .exact
   {nv:=rfl
    size:=by simp_all
    slots:=λs t hs=>by
     have hl:=HQ hs;simp only at hl;rw[List.range_eq_range']at hl;obtain⟨i,rfl,J⟩:=M0 ps 0 s t hl;have hlt:i<ps.length:=(yg.1 J).1;have I:ps[i]=t:=(yg.1 J).2;simp[yL,show i<ps.length+(fn.ntmps-ps.length)by omega,hlt,hargs,I]
    frm:=Ax.refl C
    boxes:=λi cs ty J=>by simp[St.box]at J
    hid:=λb o hb=>by cases hb
    inj:=λi j J _ _=>by grind}
  .intro e y W w' L' _ A G;have fin:A2 P R Dj V w H.N L' ρ W.tmps w' y (pubT (y.nb+2) y (fun st=>Jm P st fn.results.toList) fun _ t=>.ret t) ->
     W.defers=[]/\∃v,(results fn W.tmps).run P w'=.ok v w'/\∃V',R (.returned v) V'/\Ax V w V' w':=by
    intro G;obtain⟨st2,t2,M,q,β,Z,V2,hp,F,Y⟩:=Ea _ _ _ _ G;simp only[D]at Y;rw[(T.ev_free (β:=id) (β':=β) (ρ:=Z) t2 q).1]at Y;exact⟨A,_,OH F M,V2,Y,F.frm⟩
   cases e with
   |normal=>exact fin G
   |ret=>exact fin G
   |exit j=>obtain⟨β,Z,V2,hp,F,Y⟩:=G;exact Y.elim
end
def Mem.sub(V V':Mem):Prop:=∀b o,V b=some o->V' b=some o
theorem Mem.sub.refl(V:Mem):V.sub V:=λ_ _ h=>h
theorem Mem.sub.trans{A B C:Mem}(h:A.sub B)(k:B.sub C):A.sub C:=λb o x=>k b o (h b o x)
theorem Mem.sub.set{V V':Mem}(h:V.sub V'){b:Nat}(z:V b=none)(o:Obj):V.sub (V'.set b o):=λc f u=>by
 by_cases e:c=b;.simp_all
 .rw[Mem.set_ne e];exact h c f u
theorem Mem.sub.new{V V':Mem}(h:V.sub V'){b:Nat}(f:V' b=none)(o:Obj):V.sub (V'.set b o):=
 h.set (by cases hv:V b with|none=>rfl|some x=>rw[h b x hv]at f;cases f) o
theorem Mem.sub.row{V V':Mem}(h:V.sub V'){a:Addr}{n:Nat}{vs:XV}(f:V.row a n=some vs):V'.row a n=some vs:=by
 unfold Mem.row at f⊢;split at f;.rename_i c x y u;rw[h _ _ u];exact f
 .cases f
theorem Mem.sub.rowp{V V':Mem}(h:V.sub V'){p:XI}{off n:Nat}{vs:XV}(f:V.rowp p off n=some vs):V'.rowp p off n=some vs:=by
 cases p with
 |none=>cases f
 |some a=>exact h.row f
def A6(P:Program)(f:FuncId)(args:XV)(V:Mem)(v:Value):Prop:=Tri P f args.toArray V λe V'=>e=.returned v/\V'=V
theorem Ax.less{V V' f:Mem}{w w':World}(h:Ax V w V' w')(z:f.sub V'):Ax V w f w':=
 {h with
  le:=λb o u=>h.le b o (z b o u)
  dom:=λb u=>h.dom b λe=>by
   cases hv:f b with
   |none=>exact u hv
   |some o=>rw[z b o hv]at e;cases e}
theorem Tri.forget{P:Program}{f:FuncId}{args:XQ}{V:Mem}{v:Value}(h:Tri P f args V λe V'=>e=.returned v/\V.sub V'):Tri P f args V λe V'=>e=.returned v/\V'=V:=by
 intro w hw cs;obtain⟨e,w',fr,⟨V',⟨u,z⟩,y⟩,rest⟩:=h w hw cs;exact⟨e,w',fr,⟨V,⟨u,rfl⟩,y.less z⟩,rest⟩
structure Sl where
 p:XI
 n:Nat
 c:Nat
def Sl.v(s:Sl):Value:=.slice s.p s.n s.c
structure Ae (V:Mem)(s:Sl)(sz:Nat)(rows:List (XV)):Prop where
 len:s.n=rows.length
 cap:s.n<=s.c
 fit:s.c<=9223372036854775807
 size:∀r∈rows,r.length=sz
 at_:∀i r,rows[i]?=some r->∃a,s.p=some a/\V.row (a.add (i*sz)) sz=some r
theorem Ae.sub{V V':Mem}{s:Sl}{sz:Nat}{rows:List (XV)}(h:Ae V s sz rows)(f:V.sub V'):Ae V' s sz rows:=
 ⟨h.len,h.cap,h.fit,h.size,λi r u=>let⟨a,z,y⟩:=h.at_ i r u;⟨a,z,f.row y⟩⟩
theorem Ae.rowp{V:Mem}{s:Sl}{sz:Nat}{rows:List (XV)}(h:Ae V s sz rows){i:Nat}{r:XV}(f:rows[i]?=some r):V.rowp s.p (i*sz) sz=some r:=by
 obtain⟨a,u,z⟩:=h.at_ i r f;rw[u];exact z
theorem Ae.base{V:Mem}{s:Sl}{sz:Nat}{rows:List (XV)}(h:Ae V s sz rows){i:Nat}(hi:i<rows.length):s.p.isNone=false:=by
 obtain⟨a,f,_⟩:=h.at_ i _ (yf hi);rw[f];rfl
def vI(n:Int):Value:=.int .i64 n
def vS(s:KB):Value:=.string s
inductive E where
 |mk (op n:Int) (s:KB) (l:Sl) (k:List E)
abbrev _root_.Go.XY:=List E
def E.op:E->Int|.mk o _ _ _ _=>o
def E.n:E->Int|.mk _ n _ _ _=>n
def E.s:E->KB|.mk _ _ s _ _=>s
def E.l:E->Sl|.mk _ _ _ l _=>l
def E.k:E->XY|.mk _ _ _ _ k=>k
def E.row(e:E):XV:=[vI e.op,vI e.n,vS e.s,e.l.v]
def E.v(e:E):Value:=.agg e.row.toArray
inductive E.Ok (V:Mem):E->Prop where
 |mk {op n:Int} {s:KB} {l:Sl} {k:XY} (h:Ae V l 4 (k.map E.row)) (hk:∀x∈k,E.Ok V x) (ho:ye.min<=op/\op<=ye.max) (hn:ye.min<=n/\n<=ye.max):E.Ok V (.mk op n s l k)
theorem E.Ok.sub{V V':Mem}(f:V.sub V'):∀{e:E},E.Ok V e->E.Ok V' e:=by
 intro e h;induction h with
 |mk h hk ho hn u=>exact .mk (h.sub f) (λx hx=>u x hx) ho hn
structure Fld where
 name:KB
 ty:KB
abbrev _root_.Go.XX:=List Fld
def Fld.row(f:Fld):XV:=[vS f.name,vS f.ty]
structure Ty where
 name:KB
 fs:Sl
 fields:XX
def Ty.row(t:Ty):XV:=[vS t.name,t.fs.v]
structure Ty.Ok (V:Mem)(t:Ty):Prop where
 fields:Ae V t.fs 2 (t.fields.map Fld.row)
inductive S where
 |mk (op:Int) (s:KB) (el:Sl) (es:XY) (ll:Sl) (ls:List S) (xl:Sl) (xs:List S)
abbrev _root_.Go.XK:=List S
def S.row:S->XV|.mk op s el _ ll _ xl _=>[vI op,vS s,el.v,ll.v,xl.v]
inductive S.Ok (V:Mem):S->Prop where
 |mk {op:Int} {s:KB} {el:Sl} {es:XY} {ll:Sl} {ls:XK} {xl:Sl} {xs:XK} (he:Ae V el 4 (es.map E.row)) (hes:∀x∈es,E.Ok V x)
   (hl:Ae V ll 5 (ls.map S.row)) (hls:∀x∈ls,S.Ok V x) (hx:Ae V xl 5 (xs.map S.row)) (hxs:∀x∈xs,S.Ok V x) (ho:ye.min<=op/\op<=ye.max):S.Ok V (.mk op s el es ll ls xl xs)
theorem S.Ok.sub{V V':Mem}(f:V.sub V'):∀{e:S},S.Ok V e->S.Ok V' e:=by
 intro e h;induction h with
 |mk he hes hl hls hx hxs ho u z=>exact .mk (he.sub f) (λx hx=>(hes x hx).sub f) (hl.sub f) u (hx.sub f) z ho
section
variable(P:Program)(R:Ending->Mem->Prop)
def LoopK(f:XV)(ks:List K)(body:Tr)(L:List (XV->Mem->Prop))(ρ:XV)(V:Mem):Prop:=
 ∃(I:XV->Mem->Prop)(z:XV->Mem->Nat),I f V/\∀xs V',Shaped ks xs->I xs V'->D P R body (L++[λy u=>I y u/\z y u<z xs V']) (ρ++xs) V'
variable{P R}
variable{L:List (XV->Mem->Prop)}{ρ:XV}{V:Mem}
theorem ok_int{k:IntKind}{n:Int}:(K.i k).ok (.int k n)=True:=by simp[K.ok,K.cast,Ar]
theorem ok_b{b:Bool}:K.b.ok (.bool b)=True:=by simp[K.ok,K.cast,asB]
theorem ok_s{b:KB}:K.s.ok (.string b)=True:=by simp[K.ok,K.cast,A0]
theorem ok_p{b:XI}:K.p.ok (.pointer b)=True:=by simp[K.ok,K.cast,AP]
theorem ok_sl{b:XI}{n c:Nat}:K.sl.ok (.slice b n c)=True:=by simp[K.ok,K.cast,AP,EW,asCap]
theorem ok_m{b:XU}:K.m.ok (.map b)=True:=by simp[K.ok,K.cast,GX]
open Classical in
theorem LoopK.rel{f:XV}{ks:List K}{body:Tr}(I:Nat->XV->Mem->Prop)(z:Nat)(q:I z f V)
  (round:∀n xs V',Shaped ks xs->I n xs V'->∀J:XV->Mem->Prop,(∀m y u,m<n->I m y u->J y u)->D P R body (L++[J]) (ρ++xs) V'):LoopK P R f ks body L ρ V:=by
 let m:XV->Mem->Nat:=λxs V'=>if h:∃n,I n xs V' then yi (Ld _ h)else 0
 have hm:∀xs V' (h:∃n,I n xs V'),I (m xs V') xs V'/\∀k,I k xs V'->m xs V'<=k:=λxs V' h=>by
  grind
 refine⟨λxs V'=>∃n,I n xs V',m,⟨z,q⟩,λxs V' G Z=>?_⟩;grind
theorem row_cell1{b:Nat}{v:Value}{ty:Nat}(h:V b=some (.cells #[v] ty (0,0))):V.rowp (some ⟨b,0,none⟩) 0 1=some [v]:=by
 simp[Mem.rowp,Mem.row,h,zG]
theorem tri_of{fs:XA}{H:Cj}(u:DV P fs)(hm:P.follows .mixedOrders=true){f:FuncId}{fn:Func}(y:P.funcs[f]?=some fn){ps:XJ}{nv:Nat}{t:Tr}(q:G8 P fs H fn ps nv=t)
  (ρ:XV) (hn:ρ.length=nv) {args:XQ} (z:args=(ps.map (·.ev ρ id)).toArray) (h:D P R t [] ρ V):Tri P f args V R:=by
 subst hn;exact tri_of_tree u hm y q z h
end
def K.ex:K->(Value->Prop)->Prop
 |.i k,q=>∃n:Int,q (.int k n)
 |.b,q=>∃b:Bool,q (.bool b)
 |.s,q=>∃s:KB,q (.string s)
 |.sl,q=>∃s:Sl,q (.slice s.p s.n s.c)
 |.p,q=>∃a:XI,q (.pointer a)
 |.m,q=>∃m:XU,q (.map m)
 |.f,q=>∃v,K.f.ok v/\q v
 |.r,q=>∃v,K.r.ok v/\q v
def K.al:K->(Value->Prop)->Prop
 |.i k,q=>∀n:Int,q (.int k n)
 |.b,q=>∀b:Bool,q (.bool b)
 |.s,q=>∀s:KB,q (.string s)
 |.sl,q=>∀s:Sl,q (.slice s.p s.n s.c)
 |.p,q=>∀a:XI,q (.pointer a)
 |.m,q=>∀m:XU,q (.map m)
 |.f,q=>∀v,K.f.ok v->q v
 |.r,q=>∀v,K.r.ok v->q v
def DW:List K->(XV->Prop)->Prop
 |[],p=>p []
 |k::f,p=>k.ex λv=>DW f λvs=>p (v::vs)
def HS:List K->(XV->Prop)->Prop
 |[],p=>p []
 |k::f,p=>k.al λv=>HS f λvs=>p (v::vs)
theorem K.ex_ok{k:K}{q:Value->Prop}(h:k.ex q):∃v,k.ok v/\q v:=by
 cases k<;>simp only[K.ex]at h;.grind[ok_int]
 .grind[ok_b]
 .grind[ok_s]
 .grind[ok_sl]
 .grind[ok_p]
 .grind[ok_m]
 .exact h
 .exact h
theorem K.al_ok{k:K}{q:Value->Prop}(h:k.al q){v:Value}(hv:k.ok v):q v:=by
 unfold K.ok at hv;cases k<;>simp only[K.al]at h<;>simp only[K.cast]at hv;.grind
 .grind
 .grind
 .rw[<-hv];exact h ⟨_,_,_⟩
 .grind
 .grind
 .exact h _ hv
 .exact h _ hv
theorem DW.shaped:∀{ks:List K}{p:XV->Prop},DW ks p->∃vs,Shaped ks vs/\p vs
 |[],_,h=>⟨[],trivial,h⟩
 |_::_,_,h=>by
  obtain⟨v,hv,h⟩:=K.ex_ok h;obtain⟨vs,f,h⟩:=DW.shaped h;exact⟨v::vs,⟨hv,f⟩,h⟩
theorem HS.shaped:∀{ks:List K}{p:XV->Prop},HS ks p->∀{vs},Shaped ks vs->p vs
 |[],_,h,[],_=>h
 |[],_,_,_::_,f=>f.elim
 |_::_,_,_,[],f=>f.elim
 |_::_,_,h,_::_,f=>HS.shaped (K.al_ok h f.1) f.2
def K.inR:IntKind->Int->Prop
 |.i64,x=>-9223372036854775808<=x/\x<=9223372036854775807
 |.u8,x=>0<=x/\x<=255
 |k,x=>k.min<=x/\x<=k.max
theorem K.inR_iff{k:IntKind}{x:Int}:K.inR k x↔(k.min<=x/\x<=k.max):=by
 cases k<;>exact Iff.rfl
def T.holds(ρ:XV):T->Prop
 |.u .not x=>¬x.holds ρ
 |.u (.inr k) x=>K.inR k (Ar (x.ev ρ id))
 |.u .pnil x=>AP (x.ev ρ id)=none
 |.u .slnil x=>AP (x.ev ρ id)=none
 |.u .mnil x=>GX (x.ev ρ id)=none
 |.u .szero x=>A0 (x.ev ρ id)=ByteArray.empty
 |.b2 .lt x y=>Ar (x.ev ρ id)<Ar (y.ev ρ id)
 |.b2 .le x y=>Ar (x.ev ρ id)<=Ar (y.ev ρ id)
 |.b2 .eqi x y=>Ar (x.ev ρ id)=Ar (y.ev ρ id)
 |.b2 .eqs x y=>A0 (x.ev ρ id)=A0 (y.ev ρ id)
 |.b2 .and x y=>x.holds ρ/\y.holds ρ
 |.b2 .or x y=>x.holds ρ∨y.holds ρ
 |.b2 .idxok x y=>0<=Ar (y.ev ρ id)/\Ar (y.ev ρ id)<(EW (x.ev ρ id):Int)
 |.b2 .sidxok x y=>0<=Ar (y.ev ρ id)/\Ar (y.ev ρ id)<((A0 (x.ev ρ id)).size:Int)
 |.c3 .bnd l h m=>0<=Ar (l.ev ρ id)/\Ar (l.ev ρ id)<=Ar (h.ev ρ id)/\Ar (h.ev ρ id)<=Ar (m.ev ρ id)
 |c=>asB (c.ev ρ id)=true
theorem T.holds_iff{ρ:XV}:∀c:T,c.holds ρ↔asB (c.ev ρ id)=true
 |.u o x=>by
  cases o<;>simp only[T.holds,T.ev,U.ev,asB,zo,decide_eq_true_eq,T.holds_iff x,K.inR_iff,Option.isNone_iff_eq_none,<-Bool.not_eq_true]
 |.b2 o x y=>by
  cases o<;>simp only[T.holds,T.ev,B.ev,asB,decide_eq_true_eq,T.holds_iff x,T.holds_iff y,zD,yz,beq_iff_eq]
 |.c3 o x y z=>by
  cases o<;>simp only[T.holds,T.ev,C.ev,asB,decide_eq_true_eq]
 |.var _ _|.int _ _|.bool _|.str _|.und|.nilp|.nilsl|.nilm|.nilf|.nili|.box _ _|.glob _|.fn _ _|.nil|.cons _ _|.agg _|.tup _=>Iff.rfl
section
variable(P:Program)
def BE(t:TypeId)(m key:Value)(ok:Bool)(V:Mem)(q:Value->Prop):Prop:=∀w,V.le w->∃x,(yd t m key ok).run P w=.ok x w/\q x
def Co(t:TypeId)(m key val:Value)(V:Mem)(q:Mem->Prop):Prop:=∀w,V.le w->∃w' V',(yc t m key val).run P w=.ok () w'/\Ax V w V' w'/\q V'
def GenK(o:Op)(ty:Nat)(vals:Operand->Value)(V:Mem)(q:Value->Mem->Prop):Prop:=∀w,V.le w->∃x w' V',(execOp vals { dst:=none,op:=o,type:=ty,pos:= "",after:=#[],guard:=none}).run P w=.ok (.value x) w'/\Ax V w V' w'/\q x V'
def M6(o:Option (XV))(ks:List K)(q:XV->Prop):Prop:=DW ks λvs=>o=some vs/\q vs
def Am(p:XI)(off:Nat)(cs:XV)(V:Mem)(q:Mem->Prop):Prop:=
 ∃a c ty,p=some a/\V a.block=some (.cells c ty (0,0))/\a.spot=none/\a.off+off+cs.length<=c.size/\
  q (V.set a.block (.cells (c.toList.take (a.off+off)++cs++c.toList.drop (a.off+off+cs.length)).toArray ty (0,0)))
def Af(cs:XV)(ty:Nat)(V:Mem)(q:XI->Mem->Prop):Prop:=∀b,V b=none->q (some ⟨b,0,none⟩) (V.set b (.cells cs.toArray ty (0,0)))
def PanC(b:Bool)(R f:Ending->Mem->Prop):Ending->Mem->Prop:=
 match b with
 |false=>f
 |true=>λe V'=>f e V'∨∃u,e=.panicked u/\R e V'
theorem PanC.out{b:Bool}{R f:Ending->Mem->Prop}{e:Ending}{V':Mem}(h:PanC b R f e V'):f e V'∨∃u,e=.panicked u/\R e V':=by
 cases b with
 |false=>exact .inl h
 |true=>exact h
def CallT(b:Bool)(R:Ending->Mem->Prop)(f:Nat)(args:XV)(rs:List RK)(V:Mem)(q:XV->Mem->Prop):Prop:=
 Tri P f args.toArray V (PanC b R λe V'=>DW (rs.flatMap RK.kinds) λvs=>e=.returned (El rs vs)/\q vs V')
def CallvT(b:Bool)(R:Ending->Mem->Prop)(fv:Value)(args:XV)(rs:List RK)(V:Mem)(q:XV->Mem->Prop):Prop:=
 ∃f first u,fv=.func (.func f) first u/\(∀args w,(callFunc f args).run P w=.ok (.enter f args) w)/\
   Tri P f (first++args.toArray++u) V (PanC b R λe V'=>DW (rs.flatMap RK.kinds) λvs=>e=.returned (El rs vs)/\q vs V')
def LoopT(f:XV)(ks:List K)(V:Mem)(q:(XV->Mem->Prop)->XV->Mem->Prop):Prop:=
 ∃(I:Nat->XV->Mem->Prop)(z:Nat),I z f V/\∀n V',HS ks λxs=>I n xs V'->∀J:XV->Mem->Prop,(∀m ys u,m<n->I m ys u->J ys u)->q J xs V'
end
structure M9 where
 fs:XA:=[]
 v:Bool:=false
def DT(P:Program)(pn:M9)(R:Ending->Mem->Prop):Tr->List (XV->Mem->Prop)->XV->Mem->Prop
 |.bad _ _,_,_,_=>False
 |.ret v,_,ρ,V=>R (.returned (v.ev ρ id)) V
 |.br c a b,L,ρ,V=>
  match c with
  |.u .not d=>(d.holds ρ->DT P pn R b L ρ V)/\(¬d.holds ρ->DT P pn R a L ρ V)
  |c=>(c.holds ρ->DT P pn R a L ρ V)/\(¬c.holds ρ->DT P pn R b L ρ V)
 |.need c k,L,ρ,V=>c.holds ρ/\DT P pn R k L ρ V
 |.ld base idx sz n q k,L,ρ,V=>M6 (V.rowp (AP (base.ev ρ id)) ((Ar (idx.ev ρ id)).toNat*sz) n) q λvs=>DT P pn R k L (ρ++vs) V
 |.st p G cs k,L,ρ,V=>Am (AP (p.ev ρ id)) G (cs.evs ρ id) V λV'=>DT P pn R k L ρ V'
 |.pub cs ty k,L,ρ,V=>Af (cs.evs ρ id) ty V λp V'=>DT P pn R k L (ρ++[.pointer p]) V'
 |.call f args rs k,L,ρ,V=>CallT P (pn.fs.contains f) R f (args.evs ρ id) rs V λvs V'=>DT P pn R k L (ρ++vs) V'
 |.callv fv args rs k,L,ρ,V=>CallvT P pn.v R (fv.ev ρ id) (args.evs ρ id) rs V λvs V'=>DT P pn R k L (ρ++vs) V'
 |.loop z q body,L,ρ,V=>LoopT (z.evs ρ id) q V λJ xs V'=>DT P pn R body (L++[J]) (ρ++xs) V'
 |.cont Z vals,L,ρ,V=>L.getD Z (λ_ _=>False) (vals.evs ρ id) V
 |.gen o ty ts rs k,L,ρ,V=>
  match o with
  |.lookup t x i ok=>BE P t (gval ts ρ x) (gval ts ρ i) ok V λx=>DW (rs.flatMap RK.kinds) λvs=>x=El rs vs/\DT P pn R k L (ρ++vs) V
  |o=>GenK P o ty (gval ts ρ) V λx V'=>DW (rs.flatMap RK.kinds) λvs=>x=El rs vs/\DT P pn R k L (ρ++vs) V'
 |.again p cs k,L,ρ,V=>V.rowp (AP (p.ev ρ id)) 0 (cs.evs ρ id).length=some (cs.evs ρ id)/\DT P pn R k L ρ V
 |.both a b,L,ρ,V=>DT P pn R a L ρ V/\DT P pn R b L ρ V
 |.pan v,_,ρ,V=>∃t x,v.ev ρ id=.iface t x/\R (.panicked [{v:=.iface t x,recovered:=false}]) V
 |.gens o ty ts k,L,ρ,V=>
  match o with
  |.mapUpdate t m x y|.insert t m x y=>Co P t (gval ts ρ m) (gval ts ρ x) (gval ts ρ y) V λV'=>DT P pn R k L ρ V'
  |o=>∀w,V.le w->∃w' V',(execOp (gval ts ρ) { dst:=none,op:=o,type:=ty,pos:= "",after:=#[],guard:=none}).run P w=.ok .skip w'/\Ax V w V' w'/\DT P pn R k L ρ V'
section
variable{P:Program}{pn:M9}{R:Ending->Mem->Prop}
theorem DC:∀(t:Tr)(L:List (XV->Mem->Prop))(ρ:XV)(V:Mem),DT P pn R t L ρ V->D P R t L ρ V
 |.bad _ _,_,_,_,h=>h
 |.ret v,_,ρ,V,h=>h
 |.br c a b,L,ρ,V,h=>by
  have h:(c.holds ρ->DT P pn R a L ρ V)/\(¬c.holds ρ->DT P pn R b L ρ V):=by
   simp only[DT]at h;split at h;.exact⟨λZ=>h.2 Z,λZ=>h.1 (Classical.byContradiction λx=>Z x)⟩
   .exact h
  refine⟨λZ=>DC a L ρ V (h.1 ((T.holds_iff c).2 Z)),λZ=>DC b L ρ V (h.2 λx=>?_)⟩;rw[T.holds_iff,Z]at x;exact absurd x (by simp)
 |.need c k,L,ρ,V,h=>⟨(T.holds_iff c).1 h.1,DC k L ρ V h.2⟩
 |.ld base idx sz n X k,L,ρ,V,h=>by
  obtain⟨vs,q,u,z⟩:=DW.shaped h;exact⟨vs,u,q,DC k L _ V z⟩
 |.st p B cs k,L,ρ,V,h=>by
  obtain⟨a,c,ty,u,z,G,W,A⟩:=h;exact⟨a,c,ty,u,z,G,W,DC k L ρ _ A⟩
 |.pub cs ty k,L,ρ,V,h=>λb C=>DC k L _ _ (h b C)
 |.call f args rs k,L,ρ,V,h=>by
  refine Tri.mono h λe V' h=>?_;rcases h.out with h|h
  .obtain⟨vs,q,u,z⟩:=DW.shaped h;exact .inl ⟨vs,u,q,DC k L _ _ z⟩
  .exact .inr h
 |.callv fv args rs k,L,ρ,V,h=>by
  obtain⟨f,first,Y,u,z,h⟩:=h;refine⟨f,first,Y,u,z,Tri.mono h λe V' h=>?_⟩;rcases h.out with h|h
  .obtain⟨vs,q,u,z⟩:=DW.shaped h;exact .inl ⟨vs,u,q,DC k L _ _ z⟩
  .exact .inr h
 |.loop F X body,L,ρ,V,h=>by
  obtain⟨I,K,U,h⟩:=h;exact LoopK.rel I K U λn xs V' q hI J hJ=>DC body _ _ _ (HS.shaped (h n V') q hI J hJ)
 |.cont M vals,L,ρ,V,h=>by
  simp only[DT,List.getD_eq_getElem?_getD]at h;cases hl:L[M]? with
  |none=>simp_all
  |some J=>rw[hl]at h;exact⟨J,hl,h⟩
 |.gen o ty ts rs k,L,ρ,V,h=>by
  have key:∀(x:Value)(V':Mem),(DW (rs.flatMap RK.kinds) λvs=>x=El rs vs/\DT P pn R k L (ρ++vs) V')->∃vs,x=El rs vs/\Shaped (rs.flatMap RK.kinds) vs/\D P R k L (ρ++vs) V':=by
   intro x V' h;obtain⟨vs,q,u,z⟩:=DW.shaped h;exact⟨vs,u,q,DC k L _ _ z⟩
  have fin:(GenK P o ty (gval ts ρ) V λx V'=>DW (rs.flatMap RK.kinds) λvs=>x=El rs vs/\DT P pn R k L (ρ++vs) V')->D P R (.gen o ty ts rs k) L ρ V:=by
   intro h w hw;obtain⟨x,w',V',u,z,G⟩:=h w hw;obtain⟨vs,W,A,h6⟩:=key x V' G;grind
  cases o;case lookup t x i ok=>
   intro w hw;obtain⟨x,u,G⟩:=h w hw;obtain⟨vs,W,A,h6⟩:=key x V G;refine⟨x,w,V,vs,?_,Ax.refl hw,W,A,h6⟩;simp only[execOp,zV,u,zX,zW]
  all_goals exact fin h
 |.again p cs k,L,ρ,V,h=>⟨h.1,DC k L ρ V h.2⟩
 |.both a b,L,ρ,V,h=>⟨DC a L ρ V h.1,DC b L ρ V h.2⟩
 |.pan _,_,_,_,h=>h
 |.gens o ty ts k,L,ρ,V,h=>by
  have fin:(∀w,V.le w->∃w' V',(execOp (gval ts ρ) { dst:=none,op:=o,type:=ty,pos:= "",after:=#[],guard:=none}).run P w=.ok .skip w'/\Ax V w V' w'/\DT P pn R k L ρ V')->D P R (.gens o ty ts k) L ρ V:=by
   intro h w hw;obtain⟨w',V',u,z,G⟩:=h w hw;exact⟨w',V',u,z,DC k L ρ V' G⟩
  have upd:∀(t:TypeId)(m x y:Value),Co P t m x y V (λV'=>DT P pn R k L ρ V')->∀w,V.le w->∃w' V',(do yc t m x y;pure .skip:Sem Next).run P w=.ok .skip w'/\Ax V w V' w'/\DT P pn R k L ρ V':=by
   intro t m x y h w hw;obtain⟨w',V',u,z,G⟩:=h w hw;grind[zV,zX,zW]
  cases o;case mapUpdate t m x y=>exact fin (upd _ _ _ _ h)
  case insert t m x y=>exact fin (upd _ _ _ _ h)
  all_goals exact fin h
theorem tri_dt{fs:XA}{H:Cj}(u:DV P fs)(hm:P.follows .mixedOrders=true){f:FuncId}{fn:Func}(y:P.funcs[f]?=some fn){ps:XJ}{nv:Nat}{t:Tr}(J:G8 P fs H fn ps nv=t)
  (ρ:XV) (hn:ρ.length=nv) {args:XV} (z:args=ps.map (·.ev ρ id)) {V:Mem} {q:Prop} (G:q=DT P pn R t [] ρ V) (h:q):Tri P f args.toArray V R:=by
 subst G;exact tri_of u hm y J ρ hn (by rw[z]) (DC _ _ _ _ h)
end
theorem A6.call{P:Program}{f:FuncId}{args:XV}{V:Mem}{v:Value}(h:A6 P f args V v){q:Ending->Mem->Prop}(u:q (.returned v) V):Tri P f args.toArray V q:=
 Tri.mono h λ_ _ ⟨z,y⟩=>by simp_all
theorem A6.callv{P:Program}{f:FuncId}{first args caps:XV}{V:Mem}{v:Value}(h:A6 P f (first++args++caps) V v){q:Ending->Mem->Prop}(u:q (.returned v) V):Tri P f (first.toArray++args.toArray++caps.toArray) V q:=by
 have e:first.toArray++args.toArray++caps.toArray=(first++args++caps).toArray:=by simp
 rw[e];exact h.call u
theorem A6.mk{P:Program}{f:FuncId}{args:XV}{V:Mem}{v:Value}(h:Tri P f args.toArray V λe V'=>e=.returned v/\V.sub V'):A6 P f args V v:=h.forget
def LI(len:Nat)(St:Nat->XV->Mem->Prop)(n:Nat)(xs:XV)(V:Mem):Prop:=∃i,n=len-i/\i<=len/\St i xs V
theorem LI.next{len:Nat}{St:Nat->XV->Mem->Prop}{J:XV->Mem->Prop}{i:Nat}(u:∀m ys f,m<len-i->LI len St m ys f->J ys f)(hi:i<len){ys:XV}{V:Mem}(h:St (i+1) ys V):J ys V:=
 u (len-(i+1)) ys V (by omega) ⟨i+1,rfl,hi,h⟩
theorem LI.start{len:Nat}{St:Nat->XV->Mem->Prop}{xs:XV}{V:Mem}(h:St 0 xs V):LI len St len xs V:=⟨0,rfl,yn _,h⟩
section
variable{V:Mem}
theorem EJ{B:Int->Mem->(XV->Mem->Prop)->Prop}(len:Nat)(St:Nat->Mem->Prop)(z:St 0 V)
  (step:∀(i:Nat) V1 J,i<=len->St i V1->(i<len->∀V2,St (i+1) V2->J [.int .i64 ((i:Int)+1)] V2)->B (i:Int) V1 J):
  ∃(I:Nat->XV->Mem->Prop)(y:Nat),I y [.int .i64 0] V/\∀n V1,∀v:Int,I n [.int .i64 v] V1->∀J:XV->Mem->Prop,(∀m ys f,m<n->I m ys f->J ys f)->B v V1 J:=by
 refine⟨LI len λi xs V=>xs=[.int .i64 i]/\St i V,len,LI.start ⟨rfl,z⟩,?_⟩;rintro n V1 v ⟨i,rfl,q,⟨⟩,G⟩ J Z;exact step i V1 J q G λu V2 Y=>LI.next Z u ⟨rfl,Y⟩
theorem AG{β:Type}{mk:β->Value}{B:β->Int->Mem->(XV->Mem->Prop)->Prop}{b0:β}(len:Nat)(St:Nat->Mem->Prop)(y:St 0 V)
  (step:∀(i:Nat)(b:β) V1 J,i<=len->St i V1->(i<len->∀u V2,St (i+1) V2->J [mk u,.int .i64 ((i:Int)+1)] V2)->B b (i:Int) V1 J):
  ∃(I:Nat->XV->Mem->Prop)(q:Nat),I q [mk b0,.int .i64 0] V/\∀n V1,∀b:β,∀v:Int,I n [mk b,.int .i64 v] V1->∀J:XV->Mem->Prop,(∀m ys f,m<n->I m ys f->J ys f)->B b v V1 J:=by
 refine⟨LI len λi xs V=>∃b,xs=[mk b,.int .i64 i]/\St i V,len,LI.start ⟨b0,rfl,y⟩,?_⟩;rintro n V1 b v ⟨i,rfl,G,u,hx,Z⟩ J Y;simp only[zP,yA,true_and,and_true]at hx;obtain⟨-,rfl⟩:=hx;exact step i b V1 J G Z λz u V2 W=>LI.next Y z ⟨u,rfl,W⟩
theorem Dk{β f:Type}{mk:β->Value}{mc:f->Value}{B:β->f->Int->Mem->(XV->Mem->Prop)->Prop}{b0:β}{c0:f}(len:Nat)(St:Nat->Mem->Prop)(G:St 0 V)
  (step:∀(i:Nat)(b:β)(c:f) V1 J,i<=len->St i V1->(i<len->∀z y V2,St (i+1) V2->J [mk z,mc y,.int .i64 ((i:Int)+1)] V2)->B b c (i:Int) V1 J):
  ∃(I:Nat->XV->Mem->Prop)(Z:Nat),I Z [mk b0,mc c0,.int .i64 0] V/\∀n V1,∀b:β,∀c:f,∀v:Int,I n [mk b,mc c,.int .i64 v] V1->∀J:XV->Mem->Prop,(∀m ys u,m<n->I m ys u->J ys u)->B b c v V1 J:=by
 refine⟨LI len λi xs V=>∃b c,xs=[mk b,mc c,.int .i64 i]/\St i V,len,LI.start ⟨b0,c0,rfl,G⟩,?_⟩;rintro n V1 b c v ⟨i,rfl,Y,z,y,hx,W⟩ J A;simp only[zP,yA,true_and,and_true]at hx;obtain⟨-,-,rfl⟩:=hx;exact step i b c V1 J Y W λq z y V2 M=>LI.next A q ⟨z,y,rfl,M⟩
theorem DJ{β:Type}{mk:β->Value}{B:β->Int->Mem->(XV->Mem->Prop)->Prop}{b0:β}(inj:∀x y,mk x=mk y->x=y)(len:Nat)(St:Nat->β->Mem->Prop)(q:St 0 b0 V)
  (step:∀(i:Nat)(b:β) V1 J,i<=len->St i b V1->(i<len->∀f V2,St (i+1) f V2->J [mk f,.int .i64 ((i:Int)+1)] V2)->B b (i:Int) V1 J):
  ∃(I:Nat->XV->Mem->Prop)(G:Nat),I G [mk b0,.int .i64 0] V/\∀n V1,∀b:β,∀v:Int,I n [mk b,.int .i64 v] V1->∀J:XV->Mem->Prop,(∀m ys u,m<n->I m ys u->J ys u)->B b v V1 J:=by
 refine⟨LI len λi xs V=>∃b,xs=[mk b,.int .i64 i]/\St i b V,len,LI.start ⟨b0,rfl,q⟩,?_⟩;rintro n V1 b v ⟨i,rfl,Z,f,hx,Y⟩ J W;simp only[zP,yA,true_and,and_true]at hx;obtain⟨A,rfl⟩:=hx;cases inj _ _ A;exact step i b V1 J Z Y λz f V2 M=>LI.next W z ⟨f,rfl,M⟩
theorem loop3s{β f:Type}{mk:β->Value}{mc:f->Value}{B:β->f->Int->Mem->(XV->Mem->Prop)->Prop}{b0:β}{c0:f}(inj:∀x y,mk x=mk y->x=y)(len:Nat)(St:Nat->β->Mem->Prop)(Z:St 0 b0 V)
  (step:∀(i:Nat)(b:β)(c:f) V1 J,i<=len->St i b V1->(i<len->∀u q V2,St (i+1) u V2->J [mk u,mc q,.int .i64 ((i:Int)+1)] V2)->B b c (i:Int) V1 J):
  ∃(I:Nat->XV->Mem->Prop)(Y:Nat),I Y [mk b0,mc c0,.int .i64 0] V/\∀n V1,∀b:β,∀c:f,∀v:Int,I n [mk b,mc c,.int .i64 v] V1->∀J:XV->Mem->Prop,(∀m ys z,m<n->I m ys z->J ys z)->B b c v V1 J:=by
 refine⟨LI len λi xs V=>∃b c,xs=[mk b,mc c,.int .i64 i]/\St i b V,len,LI.start ⟨b0,c0,rfl,Z⟩,?_⟩;rintro n V1 b c v ⟨i,rfl,W,u,q,hx,A⟩ J M;simp only[zP,yA,true_and,and_true]at hx;obtain⟨F,-,rfl⟩:=hx;cases inj _ _ F;exact step i b c V1 J W A λG u q V2 X=>LI.next M G ⟨u,q,rfl,X⟩
theorem AT:∀x y:Sl,Value.slice x.p x.n x.c=Value.slice y.p y.n y.c->x=y:=by
 rintro⟨_,_,_⟩ ⟨_,_,_⟩ h;cases h;rfl
theorem BJ:∀x y:Int,Value.int .i64 x=Value.int .i64 y->x=y:=by simp_all
theorem F0:∀x y:KB,yb x=yb y->x=y:=by simp_all
end
section
variable{α:Type}{V:Mem}{s:Sl}{sz:Nat}{row:α->XV}{xs:List α}
theorem Ae.n_eq(h:Ae V s sz (xs.map row)):s.n=xs.length:=by simpa using h.len
theorem Ae.get(h:Ae V s sz (xs.map row)){i:Nat}(hi:(i:Int)<(s.n:Int)):
  ∃x,x∈xs/\xs[i]?=some x/\xs.drop i=x::xs.drop (i+1)/\i<xs.length/\¬(s.p=none)/\(0:Int)<=(i:Int)/\V.rowp s.p (i*sz) sz=some (row x):=by
 have hn:=h.n_eq;have f:i<xs.length:=by omega
 have u:(xs.map row)[i]?=some (row xs[i]):=by simp[f]
 refine⟨xs[i],ya _,yf f,by simp,f,λe=>?_,by omega,h.rowp u⟩;have:=h.base (i:=i) (by simpa using f);simp_all
theorem Ae.at_get(h:Ae V s sz (xs.map row)){i:Nat}{x:α}(hx:xs[i]?=some x):V.rowp s.p (i*sz) sz=some (row x):=h.rowp (by simp[hx])
theorem Ae.done(h:Ae V s sz (xs.map row)){i:Nat}(hi:¬((i:Int)<(s.n:Int))):xs.drop i=[]/\xs.length<=i:=by
 have hn:=h.n_eq;simp_all
theorem Ae.succ(h:Ae V s sz (xs.map row)){i:Nat}(hi:(i:Int)<(s.n:Int)):K.inR .i64 ((i:Int)+1):=by
 have:=h.cap;have:=h.fit;exact⟨by omega,by omega⟩
theorem Ae.nil{V:Mem}{sz:Nat}:Ae V ⟨none,0,0⟩ sz []:=⟨rfl,yu _,by simp,by simp,by simp⟩
end
theorem Mem.sub_new{V:Mem}{b:Nat}(f:V b=none)(o:Obj):V.sub (V.set b o):=(Mem.sub.refl V).set f o
theorem Mem.set_set(V:Mem)(b:Nat)(x y:Obj):(V.set b x).set b y=V.set b y:=by grind[Mem.set]
theorem Mem.set_comm(V:Mem){b c:Nat}(h:b≠c)(x y:Obj):(V.set b x).set c y=(V.set c y).set b x:=by
 grind[Mem.set]
theorem Mem.set_eq{V:Mem}{b:Nat}{o:Obj}(h:V b=some o):V.set b o=V:=by
 grind[Mem.set]
abbrev cell(v:Value)(t:Nat):Obj:=.cells #[v] t (0,0)
theorem Am.cell{V:Mem}{b:Nat}{v f:Value}{t:Nat}{q:Mem->Prop}(h:V b=some (cell f t))(u:q (V.set b (Sx.cell v t))):Am (some ⟨b,0,none⟩) 0 [v] V q:=
 ⟨⟨b,0,none⟩,#[f],t,rfl,h,rfl,by simp,by simpa using u⟩
theorem Am.at_{V:Mem}{b:Nat}{c:XQ}{t off:Nat}{vs:XV}{q:Mem->Prop}(h:V b=some (.cells c t (0,0)))(hl:off+vs.length<=c.size)
  (f:q (V.set b (.cells (c.toList.take off++vs++c.toList.drop (off+vs.length)).toArray t (0,0)))):Am (some ⟨b,0,none⟩) off vs V q:=
 ⟨⟨b,0,none⟩,c,t,rfl,h,rfl,by simpa using hl,by simpa using f⟩
theorem Aj{V:Mem}{b:Nat}{c:XQ}{t:Nat}{fr:Nat×Nat}(h:V b=some (.cells c t fr))(off n:Nat)(hl:off+n<=c.size):V.rowp (some ⟨b,0,none⟩) off n=some ((c.toList.drop off).take n):=by
 have e:(⟨b,0,none⟩:Addr).add off=⟨b,off,none⟩:=by grind[zG]
 simp only[Mem.rowp,Mem.row,e,h];rw[if_pos ⟨rfl,hl⟩]
theorem AD{V:Mem}{b:Nat}{v:Value}{t:Nat}(h:V b=some (cell v t)):V.rowp (some ⟨b,0,none⟩) 0 1=some [v]:=row_cell1 h
/-! Maps with strings as keys. -/
def E1(es:List MapEntry)(k:KB):Option Value:=(es.find? λe=>decide (A0 e.key=k)).map (·.val)
structure Bf (V:Mem)(b:Nat)(m:KB->Option Value):Prop where
 at_:∃es clock,V b=some (.map es clock)/\(∀e∈es.toList,∃s,e.key=.string s)/\∀k,E1 es.toList k=m k
theorem Bf.sub{V V':Mem}{b:Nat}{m:KB->Option Value}(h:Bf V b m)(f:V.sub V'):Bf V' b m:=by
 obtain⟨es,c,u,z,y⟩:=h.at_;exact⟨es,c,f _ _ u,z,y⟩
theorem Bf.set{V:Mem}{b c:Nat}{o:Obj}{m:KB->Option Value}(h:Bf V b m)(hn:b≠c):Bf (V.set c o) b m:=by
 obtain⟨es,c,f,u,z⟩:=h.at_;exact⟨es,c,by rw[Mem.set_ne hn];exact f,u,z⟩
theorem Bf.made(V:Mem)(b:Nat):Bf (V.set b (.map #[] 0)) b λ_=>none:=
 ⟨#[],0,Mem.set_same _ _ _,by simp,by simp[E1]⟩
theorem Bf.congr{V:Mem}{b:Nat}{m m':KB->Option Value}(h:Bf V b m)(e:∀k,m k=m' k):Bf V b m':=by
 obtain⟨es,c,f,u,z⟩:=h.at_;exact⟨es,c,f,u,λk=>(z k).trans (e k)⟩
theorem Na(k:KB):∀(es:List MapEntry)(i:Nat),(∀e∈es,∃s,e.key=.string s)->
  y4 .string (.string k) es i=some ((es.findIdx? λe=>decide (A0 e.key=k)).bind λj=>(es[j]?).map λe=>(i+j,e.val))
 |[],_,_=>rfl
 |e::es,i,h=>by
  obtain⟨s,q⟩:=h e (by simp);have y:=Na k es (i+1) λx hx=>h x (by simp[hx]);unfold y4;simp only[q,Instr.sameNow,y5];generalize G:(λe:MapEntry=>decide (A0 e.key=k))=f at y⊢;have J:f e=decide (s=k):=by grind[A0]
  rw[show(decide (A0 (yb s)=k))=decide (s=k)from rfl];by_cases hk:k=s
  .subst hk;have u:(k==k)=true:=(y6 _ _).2 rfl;simp[u]
  .have z:¬s=k:=λe=>hk e.symm;have u:(k==s)=false:=by
    grind[absurd,y6]
   simp only[u,z,decide_false,zY,if_false,y];cases Z:y7 f es with
   |none=>simp
   |some j=>grind
theorem Lf(k:KB):∀es:List MapEntry,E1 es k=(es.findIdx? λe=>decide (A0 e.key=k)).bind λj=>(es[j]?).map (·.val)
 |[]=>rfl
 |e::es=>by
  have f:=Lf k es;unfold E1 at f⊢;simp only[List.find?_cons,y5];by_cases hk:A0 e.key=k;.simp[hk]
  .simp only[hk,decide_false,zY,if_false,f];cases u:y7 (λe=>decide (A0 e.key=k)) es<;>simp
theorem Lg{P:Program}{kt:TypeId}(hk:P.underlying kt=some .string)(k:KB)(es:List MapEntry)(h:∀e∈es,∃s,e.key=.string s)(w:World):
  (y8 kt (.string k) es).run P w=.ok ((es.findIdx? λe=>decide (A0 e.key=k)).bind λj=>(es[j]?).map λe=>(j,e.val)) w:=by
 simp_all[y8,zV,run_underlying,zW,Na,Nat.zero_add]
theorem Lh{P:Program}{kt:TypeId}(hk:P.underlying kt=some .string)(b:Bool)(k:KB)(w:World):(y9 b 10000 kt (.string k)).run P w=.ok () w:=by
 unfold y9;simp only[zV,run_underlying hk,zW];rfl
section
variable{P:Program}{t kt et:TypeId}
theorem BE.str{V:Mem}{b:Nat}{m:KB->Option Value}(f:P.underlying t=some (.map kt et))(hk:P.underlying kt=some .string){z:Value}(Z:∀w,(zeroValue et).run P w=.ok z w)
  (hm:Bf V b m) {k:KB} {q:Value->Prop} (u:q (.tuple #[(m k).getD z,.bool (m k).isSome])):BE P t (.map (some b)) (.string k) true V q:=by
 intro w hw;obtain⟨es,c,y,J,G⟩:=hm.at_;refine⟨_,?_,u⟩;unfold yd;simp only[zV,run_underlying f,zW,xA (hw _ _ y),zX,Lh hk,Lg hk k _ J];rw[<-G k,Lf];cases Y:y7 (λe=>decide (A0 e.key=k)) es.toList with
 |none=>simp_all
 |some j=>
  grind[xB,zX,yf,yw]
theorem BE.str1{V:Mem}{b:Nat}{m:KB->Option Value}(f:P.underlying t=some (.map kt et))(hk:P.underlying kt=some .string){z:Value}(Z:∀w,(zeroValue et).run P w=.ok z w)
  (hm:Bf V b m) {k:KB} {q:Value->Prop} (u:q ((m k).getD z)):BE P t (.map (some b)) (.string k) false V q:=by
 intro w hw;obtain⟨es,c,y,J,G⟩:=hm.at_;refine⟨_,?_,u⟩;unfold yd;simp only[zV,run_underlying f,zW,xA (hw _ _ y),zX,Lh hk,Lg hk k _ J];rw[<-G k,Lf];cases Y:y7 (λe=>decide (A0 e.key=k)) es.toList with
 |none=>simp_all
 |some j=>
  grind[xB,zX,yf,yw]
end
theorem Ax.put{V:Mem}{w:World}(hw:V.le w){b:Nat}{o u:Obj}(z:V b=some o):Ax V w (V.set b u) {w with heap:=w.heap.setIfInBounds b u}:=by
 have y:b<w.heap.size:=(yN.1 (hw b o z)).1;refine⟨by simp,λc x f=>?_,λc f hn=>?_,λc f=>?_,rfl,rfl⟩
 .unfold Mem.set at f;split at f;.simp_all
  .rename_i e;rw[Array.getElem?_setIfInBounds_ne (λh=>e h.symm)];exact hw c x f
 .grind
 grind[Mem.set]
theorem asS_string(k:KB):A0 (.string k)=k:=rfl
theorem lookE_push(es:List MapEntry)(k:KB)(val:Value)(c:Nat)(h:es.findIdx? (λe=>decide (A0 e.key=k))=none)(x:KB):E1 (es++[{key:=.string k,val:=val,born:=c}]) x=if x=k then some val else E1 es x:=by
 grind[E1,A0]
theorem Nc(k:KB)(val:Value):∀(es:List MapEntry)(i:Nat) (h:es.findIdx? (λe=>decide (A0 e.key=k))=some i) (x:KB),E1 (es.modify i λe=>{e with key:=.string k,val:=val}) x=if x=k then some val else E1 es x
 |[],_,h,_=>by simp at h
 |e::es,i,h,x=>by
  rw[y5]at h;by_cases hk:A0 e.key=k
  .simp only[hk,decide_true,if_true,zH]at h;grind[E1,asS_string]
  .simp only[hk,decide_false,zY,if_false,zn]at h;obtain⟨j,f,rfl⟩:=h;have u:=Nc k val es j f x;grind[E1,A0]
theorem Co.str{P:Program}{t kt et:TypeId}{V:Mem}{b:Nat}{m:KB->Option Value}(A:P.underlying t=some (.map kt et))(hk:P.underlying kt=some .string)
  (hm:Bf V b m) {k:KB} {val:Value} {q:Mem->Prop} (Z:∀o,Bf (V.set b o) b (λx=>if x=k then some val else m x)->q (V.set b o)):Co P t (.map (some b)) (.string k) val V q:=by
 intro w hw;obtain⟨es,c,u,Y,X⟩:=hm.at_;have f:(yc t (.map (some b)) (.string k) val).run P w=
   (match es.toList.findIdx? (λe=>decide (A0 e.key=k))with
   |some i=>(setObj b (.map (es.modify i λe=>{e with key:=.string k,val:=val}) c)).run P w
   |none=>(setObj b (.map (es.push {key:=.string k,val:=val,born:=c}) (c+1))).run P w):=by
  unfold yc;simp only[zV,run_underlying A,zW,xA (hw _ _ u),Lh hk,Lg hk k _ Y];cases y:y7 (λe=>decide (A0 e.key=k)) es.toList with
  |none=>rfl
  |some j=>
   have I:=(xB.1 y);obtain⟨J,z,_⟩:=I;obtain⟨s,M⟩:=Y es.toList[j] (ya _);have G:s=k:=of_decide_eq_true (by rw[M]at z;exact z);subst G;have F:j<es.size:=by simpa using J
   have W:(es[j]?).map (·.key)=some (.string s):=by
    simp_all
   have B:(s==s)=true:=(y6 _ _).2 rfl;grind[Instr.keyThatStays,Instr.sameBits]
 cases y:y7 (λe=>decide (A0 e.key=k)) es.toList with
 |none=>
  rw[y]at f;refine⟨_,V.set b (.map (es.push {key:=.string k,val:=val,born:=c}) (c+1)),f.trans (xC _ (hw _ _ u)),Ax.put hw u,Z _ ⟨_,_,Mem.set_same _ _ _,?_,λx=>?_⟩⟩;.grind
  grind[Array.toList_push,lookE_push]
 |some j=>
  rw[y]at f;refine⟨_,V.set b (.map (es.modify j λe=>{e with key:=.string k,val:=val}) c),f.trans (xC _ (hw _ _ u)),Ax.put hw u,Z _ ⟨_,_,Mem.set_same _ _ _,?_,λx=>?_⟩⟩
  .intro e he;rw[xD]at he;obtain⟨i,C,rfl⟩:=xE.1 he;rw[List.getElem_modify];split;.grind
   simp_all
  simp_all[xD,Nc]
/-! Appends. -/
structure Own (V0 V:Mem)(e:TypeId)(sz:Nat)(s:Sl)(vs:XV):Prop where
 sub:V0.sub V
 len:vs.length=s.n*sz
 at_:(s.n=0/\s.c=0/\vs=[])∨∃g cur,s.p=some ⟨g,0,none⟩/\V0 g=none/\V g=some (.cells cur e (0,0))/\s.n<=s.c/\s.c<=maxLen/\cur.size=s.c*sz/\cur.toList.take (s.n*sz)=vs
theorem Own.nil{V0 V:Mem}(h:V0.sub V)(e:TypeId)(sz:Nat):Own V0 V e sz ⟨none,0,0⟩ []:=⟨h,by simp,.inl ⟨rfl,rfl,rfl⟩⟩
theorem Own.empty{V0 V:Mem}(h:V0.sub V)(e:TypeId)(sz:Nat)(p:XI):Own V0 V e sz ⟨p,0,0⟩ []:=⟨h,by simp,.inl ⟨rfl,rfl,rfl⟩⟩
theorem Own.new{V0 V:Mem}{e:TypeId}{sz:Nat}{s:Sl}{vs:XV}(h:Own V0 V e sz s vs){b:Nat}(u:V b=none)(o:Obj):Own V0 (V.set b o) e sz s vs:=by
 refine⟨Mem.sub.new h.sub u o,h.len,?_⟩;rcases h.at_ with f|⟨g,cur,f,z,y,q⟩;.exact .inl f
 grind[inr,Mem.set_ne]
theorem IH{α:Type}{sz:Nat}{row:α->XV}(f:∀x,(row x).length=sz):∀xs:List α,(xs.flatMap row).length=xs.length*sz
 |[]=>by simp
 |x::xs=>by rw[xG,zK,f,IH f xs,zg,xH];omega
theorem Li{α:Type}{sz:Nat}{row:α->XV}(f:∀x,(row x).length=sz):∀(xs:List α)(i:Nat)(x:α),xs[i]?=some x->((xs.flatMap row).drop (i*sz)).take sz=row x
 |[],_,_,h=>by simp at h
 |y::xs,0,x,h=>by
  simp_all
 |y::xs,i+1,x,h=>by
  rw[List.getElem?_cons_succ]at h;rw[xG,show(i+1)*sz=(row y).length+i*sz by rw[f,xH];omega,List.drop_append,Nat.add_sub_cancel_left,List.drop_eq_nil_of_le (by omega),List.nil_append];exact Li f xs i x h
theorem Own.n_eq{α:Type}{V0 V:Mem}{e:TypeId}{sz:Nat}{s:Sl}{row:α->XV}{xs:List α}(h:Own V0 V e sz s (xs.flatMap row))(f:∀x,(row x).length=sz)(u:0<sz):s.n=xs.length:=by
 have:=h.len;rw[IH f]at this;grind[Nat.eq_of_mul_eq_mul_right]
theorem Own.rows{α:Type}{V0 V:Mem}{e:TypeId}{sz:Nat}{s:Sl}{row:α->XV}{xs:List α}(h:Own V0 V e sz s (xs.flatMap row))(J:∀x,(row x).length=sz)(u:0<sz):Ae V s sz (xs.map row):=by
 have hl:=h.n_eq J u;rcases h.at_ with⟨Y,X,B⟩|⟨g,cur,W,C,A,f,z,I,y⟩
 .have:xs=[]:=xI (by omega);subst this;exact⟨Y,by omega,by omega,by simp,by simp⟩
 .refine⟨by simpa using hl,f,z,?_,λi r G=>⟨_,W,?_⟩⟩;.simp_all
  .rw[xJ,zn]at G;obtain⟨x,hx,rfl⟩:=G;have M:i<xs.length:=(yg.1 hx).1;have q:(i+1)*sz<=s.n*sz:=xK _ (by omega);have Z:s.n*sz<=s.c*sz:=xK _ f;have F:(⟨g,0,none⟩:Addr).add (i*sz)=⟨g,i*sz,none⟩:=by grind[zG]
   rw[xH,xL]at q;unfold Mem.row;simp only[F,A];rw[if_pos ⟨rfl,by omega⟩];have D:=Li J xs i x hx;grind[List.drop_take,Nat.min_eq_left]
theorem Ae.cells{α:Type}{V:Mem}{b:Nat}{c:XQ}{t:Nat}{fr:Nat×Nat}{sz:Nat}{row:α->XV}{xs:List α}(h:V b=some (.cells c t fr))(hc:c.toList=xs.flatMap row)(u:∀x,(row x).length=sz){n:Nat}(hn:n=xs.length)(y:xs.length<=9223372036854775807):
  Ae V ⟨some ⟨b,0,none⟩,n,n⟩ sz (xs.map row):=by
 subst hn;refine⟨by simp,yu _,y,?_,λi r z=>⟨_,rfl,?_⟩⟩;.simp_all
 .rw[xJ,zn]at z;obtain⟨x,hx,rfl⟩:=z;have q:i<xs.length:=(yg.1 hx).1;have J:(⟨b,0,none⟩:Addr).add (i*sz)=⟨b,i*sz,none⟩:=by grind[zG]
  have hl:c.size=xs.length*sz:=by rw[<-Array.length_toList,hc,IH u]
  have f:(i+1)*sz<=xs.length*sz:=xK _ (by omega);rw[xH,xL]at f;unfold Mem.row;simp only[J,h];rw[if_pos ⟨rfl,by omega⟩,hc,Li u xs i x hx]
theorem row_le{V:Mem}{w:World}(f:V.le w){a:Addr}{n:Nat}{vs:XV}(h:V.row a n=some vs):vs.length=n/\∀j v,vs[j]?=some v->w.cell? (a.add j)=some v:=HR f h
theorem Ax.new{V:Mem}{w:World}(hw:V.le w)(o:Obj):V w.heap.size=none/\Ax V w (V.set w.heap.size o) (w.drew.alloc o):=by
 have hn:V w.heap.size=none:=by
  cases h:V w.heap.size with
  |none=>rfl
  |some x=>
   have:=(yN.1 (hw _ _ h)).1;omega
 refine⟨hn,⟨by simp,λb x f=>?_,λb f _=>heap_alloc_old w.drew o b f,λb f=>?_,rfl,rfl⟩⟩
 .unfold Mem.set at f;split at f;.rename_i e;subst e;cases f;exact heap_alloc_new w.drew o
  .have u:=(yN.1 (hw _ _ f)).1;exact(heap_alloc_old w.drew o b u).trans (hw _ _ f)
 grind[Mem.set,inr]
theorem Ax.row{V:Mem}{w:World}(hw:V.le w){g:Nat}{cur new:XQ}{e:TypeId}(z:V g=some (.cells cur e (0,0))):Ax V w (V.set g (.cells new e (0,0))) (w.setRow g new):=by
 have y:=hw _ _ z;refine⟨by simp,λb x f=>?_,λb f hn=>?_,λb f=>?_,rfl,rfl⟩
 .unfold Mem.set at f;split at f;.rename_i u;subst u;cases f;exact _root_.Go.setRow_heap w b cur new e _ y
  .rename_i u;exact(_root_.Go.setRow_other w g b _ u).trans (hw _ _ f)
 .refine _root_.Go.setRow_other w g b _ ?_;grind
 grind[Mem.set]
theorem GenK.append{P:Program}{V0 V:Mem}{t e ty:TypeId}{i:TypeInfo}{z:Value}{sz:Nat}(D:P.underlying t=some (.slice e))(hi:P.info? e=some i)(hz:i.zero=some z)(Z:i.size=sz)(T:z.cells.size=sz)(hsz:0<sz)(U:i.bytes<=65536)
  {x y:Operand} {vals:Operand->Value} {s:Sl} {a:Addr} {m c:Nat} {vs f:XV} (hx:vals x=.slice s.p s.n s.c) (hy:vals y=.slice (some a) m c) (own:Own V0 V e sz s vs) (I:V.row a (m*sz)=some f)
  (h1:∀u∈f,u.oneCell'=true) (M:s.n+m<=2147483648) {q:Value->Mem->Prop}
  (hq:∀s' V',Own V0 V' e sz s' (vs++f)->s'.n=s.n+m->q (.slice s'.p s'.n s'.c) V'):
  GenK P (.call {callee:=.builtin .append,args:=#[x,y],argTypes:=#[t,t]}) ty vals V q:=by
 intro w hw;subst Z;obtain⟨hl,hc⟩:=row_le hw I;have K:(s.n+m)*i.bytes<=140737488355328:=yr (Nat.mul_le_mul M U) (by decide);have fin:∀(s':Sl)(V':Mem)(w':World),(xM #[t,t] ty #[.slice s.p s.n s.c,.slice (some a) m c]).run P w=.ok (.slice s'.p s'.n s'.c) w'->Ax V w V' w'->Own V0 V' e i.size s' (vs++f)->s'.n=s.n+m->
   ∃v w' V',(execOp vals {dst:=none,op:=.call {callee:=.builtin .append,args:=#[x,y],argTypes:=#[t,t]},type:=ty,pos:= "",after:=#[],guard:=none}).run P w=.ok (.value v) w'/\Ax V w V' w'/\q v V':=by
  intro s' V' w' Y hf ho hn;refine⟨_,w',V',?_,hf,hq s' V' ho hn⟩;unfold execOp;simp only[resolve,invoke,builtin,zV,zX,zW,xP,zI,yZ,hx,hy,Y]
 have G:(vs++f).length=(s.n+m)*i.size:=by rw[zK,own.len,hl,xH]
 have W:∀old,old<s.n+m->(xM #[t,t] ty #[.slice s.p s.n s.c,.slice (some a) m c]).run P w=
   .ok (.slice (some ⟨w.heap.size,0,none⟩) (s.n+m) (grownCap w (s.n+m) old e)) (w.drew.alloc (.cells (vs.toArray++f.toArray++xQ z.cells (grownCap w (s.n+m) old e-(s.n+m))) e))->
   ∃v w' V',(execOp vals {dst:=none,op:=.call {callee:=.builtin .append,args:=#[x,y],argTypes:=#[t,t]},type:=ty,pos:= "",after:=#[],guard:=none}).run P w=.ok (.value v) w'/\Ax V w V' w'/\q v V':=by
  intro old ho Y;obtain⟨hn,hf⟩:=Ax.new hw (.cells (vs.toArray++f.toArray++xQ z.cells (grownCap w (s.n+m) old e-(s.n+m))) e);have hge:=grownCap_ge w (s.n+m) old e;refine fin ⟨_,_,_⟩ _ _ Y hf ⟨Mem.sub.new own.sub hn _,G,.inr ⟨w.heap.size,_,rfl,?_,Mem.set_same _ _ _,hge,grownCap_le_maxLen w _ old e (by simp only[maxLen];omega),?_,?_⟩⟩ rfl
  .cases h0:V0 w.heap.size with
   |none=>rfl
   |some x=>rw[own.sub _ _ h0]at hn;cases hn
  .simp only[Array.size_append,List.size_toArray,size_zeroCells,T,own.len,hl,<-xH];congr 1;show _=grownCap w (s.n+m) old e;omega
  grind
 rcases own.at_ with⟨hs,F,hv⟩|⟨g,cur,hp,hg,hV,hnc,X,hcs,A⟩
 .subst hv;by_cases hm:m=0
  .subst hm;have hn:f=[]:=xI (by simpa using hl);subst hn;refine fin s V w ?_ (Ax.refl hw) own rfl;rw[hs,F];cases s.p with
   |none=>simp[xM,run_underlying D,sizeOf,typeInfo,hi,xR,xS,loadCells,loadCellsFrom]
   |some a'=>simp[xM,run_underlying D,sizeOf,typeInfo,hi,xR,xS,loadCells,loadCellsFrom,storeCells]
  .refine W 0 (by omega) ?_;rw[hs,F];cases s.p with
   |none=>
    have Y:=run_append_nil (P:=P) w t ty e i z D hi hz a m c f hl hc (by omega) (by omega) (by grind);simpa using Y
   |some a'=>
    grind[run_append_grow,growslice_fits]
 .by_cases J:s.n+m<=s.c
  .have B:w.heap[g]?=some (.cells cur e (0,0)):=hw _ _ hV;have hle:(s.n+m)*i.size<=s.c*i.size:=xK _ J;have hmul:(s.n+m)*i.size=s.n*i.size+m*i.size:=xH _ _ _;have Y:=run_append_room (P:=P) w t ty e i D hi g s.n s.c cur B a m c f hl hc h1 J (by omega);refine fin ⟨some ⟨g,0,none⟩,s.n+m,s.c⟩ _ _ (by rw[hp];exact Y) (Ax.row hw hV) ⟨own.sub.set hg _,G,.inr ⟨g,_,rfl,hg,Mem.set_same _ _ _,J,X,?_,?_⟩⟩ rfl;.grind
   grind
  .have C:w.ownsRow 0 e i.size (.slice s.p s.n s.c) s.n vs:=⟨own.len,.inr ⟨g,s.c,cur,by rw[hp],yn _,hw _ _ hV,hnc,X,hcs,A⟩⟩;have holds:∀j u,vs[j]?=some u->w.cell? ((⟨g,0,none⟩:Addr).add j)=some u:=C.cells (g:=g) (by rw[hp];rfl);grind[run_append_grow,growslice_fits]
theorem GenK.append_none{P:Program}{V:Mem}{t e ty:TypeId}{i:TypeInfo}(u:P.underlying t=some (.slice e))(hi:P.info? e=some i)
  {x y:Operand} {vals:Operand->Value} {s:Sl} {p:XI} {c:Nat} (hx:vals x=.slice s.p s.n s.c) (z:vals y=.slice p 0 c) (f:s.n<=s.c) {q:Value->Mem->Prop} (J:q (.slice s.p s.n s.c) V):
  GenK P (.call {callee:=.builtin .append,args:=#[x,y],argTypes:=#[t,t]}) ty vals V q:=by
 intro w hw;refine⟨_,w,V,?_,Ax.refl hw,J⟩;unfold execOp;simp only[resolve,invoke,builtin,zV,zX,zW,xP,zI,yZ,hx,z];cases G:s.p with
 |none=>cases p with
  |none=>simp[xM,run_underlying u,sizeOf,typeInfo,hi,xR,xS,f]
  |some b=>simp[xM,run_underlying u,sizeOf,typeInfo,hi,xR,xS,f,loadCells,loadCellsFrom]
 |some a=>cases p with
  |none=>simp[xM,run_underlying u,sizeOf,typeInfo,hi,xR,xS,f,storeCells]
  |some b=>simp[xM,run_underlying u,sizeOf,typeInfo,hi,xR,xS,f,storeCells,loadCells,loadCellsFrom]
theorem JI(a:Addr)(m n:Nat):(a.add m).add n=a.add (m+n):=by
 grind[zG]
theorem row_append{V:Mem}{a:Addr}{m n:Nat}{z q:XV}(u:V.row a m=some z)(f:V.row (a.add m) n=some q)(hm:0<m):V.row a (m+n)=some (z++q):=by
 have e:a.add m=⟨a.block,a.off+m,none⟩:=by grind[zG]
 rw[e]at f;unfold Mem.row at u f⊢;simp only at f;split at u
 .rename_i c x y J;simp only[J]at f;split at u
  .rename_i G;split at f
   .rename_i Z;simp only[zH]at u f;rw[if_pos ⟨G.1,by omega⟩,<-u,<-f,zH,List.take_add,List.drop_drop]
   .cases f
  .cases u
 .cases u
theorem Ae.flat{α:Type}{V:Mem}{sz:Nat}(f:0<sz){row:α->XV}:∀(xs:List α)(a:Addr),xs≠[]->(∀i x,xs[i]?=some x->V.row (a.add (i*sz)) sz=some (row x))->V.row a (xs.length*sz)=some (xs.flatMap row)
 |[],_,h,_=>absurd rfl h
 |x::xs,a,_,h=>by
  have u:=h 0 x rfl;rw[Nat.zero_mul,show a.add 0=a by rfl]at u;by_cases hx:xs=[];.simp_all
  .have q:=Ae.flat f xs (a.add sz) hx λi y z=>by
    rw[JI,show sz+i*sz=(i+1)*sz by grind];exact h (i+1) y (by simpa using z)
   simp_all[zg,xH,xL,Nat.add_comm,xG,row_append]
theorem GenK.appendS{α:Type}{P:Program}{V0 V:Mem}{t e ty:TypeId}{i:TypeInfo}{z:Value}{sz:Nat}(C:P.underlying t=some (.slice e))(hi:P.info? e=some i)(T:i.zero=some z)(G:i.size=sz)(I:z.cells.size=sz)(Z:0<sz)(M:i.bytes<=65536)
  {x y:Operand} {vals:Operand->Value} {s u:Sl} {row:α->XV} {xs ys:List α} (hx:vals x=.slice s.p s.n s.c) (W:vals y=.slice u.p u.n u.c) (own:Own V0 V e sz s (xs.flatMap row)) (U:∀x,(row x).length=sz) (f:Ae V u sz (ys.map row))
  (h1:∀x,∀u∈row x,u.oneCell'=true) (D:xs.length+ys.length<=2147483648) {q:Value->Mem->Prop}
  (K:∀s' V',Own V0 V' e sz s' ((xs++ys).flatMap row)->q (.slice s'.p s'.n s'.c) V'):
  GenK P (.call {callee:=.builtin .append,args:=#[x,y],argTypes:=#[t,t]}) ty vals V q:=by
 have hn:=f.n_eq;have hsn:=own.n_eq U Z;by_cases Y:ys=[]
 .subst Y;rw[hn]at W;refine GenK.append_none C hi hx W ?_ (K s V (by simpa using own));rcases own.at_ with⟨h1,h2,h3⟩|⟨g,cur,A,hg,hV,F,_⟩;.omega
  .exact F
 .obtain⟨y0,X⟩:=List.exists_mem_of_ne_nil _ Y;cases A:u.p with
  |none=>
   obtain⟨j,hj,rfl⟩:=xE.1 X;have:=f.base (i:=j) (by simpa using hj);rw[A]at this;cases this
  |some a=>
   rw[A]at W;have J:=Ae.flat (V:=V) Z ys a Y λi x B=>by
    have:=f.at_get B;rw[A]at this;exact this
   rw[<-hn]at J;refine GenK.append C hi T G I Z M hx W own J ?_ (by omega) λs' V' ho hn'=>K s' V' (by simp_all);grind
theorem Tri.less{P:Program}{f:FuncId}{args:XQ}{V:Mem}{R:Ending->Mem->Prop}(h:Tri P f args V λe V'=>∃W,R e W/\W.sub V'):Tri P f args V R:=by
 intro w hw cs;obtain⟨e,w',fr,⟨V',⟨W,u,z⟩,y⟩,rest⟩:=h w hw cs;exact⟨e,w',fr,⟨W,u,y.less z⟩,rest⟩
section
variable{V:Mem}
theorem loop4s{β u f:Type}{mk:β->Value}{mc:u->Value}{md:f->Value}{B:β->u->f->Int->Mem->(XV->Mem->Prop)->Prop}(b0:β)(c0:u)(Y:f)(inj:∀x y,md x=md y->x=y)(len:Nat)(St:Nat->f->Mem->Prop)(A:St 0 Y V)
  (step:∀(i:Nat)(b:β)(c:u)(d:f) V1 J,i<=len->St i d V1->(i<len->∀G Z z V2,St (i+1) z V2->J [mk G,mc Z,md z,.int .i64 ((i:Int)+1)] V2)->B b c d (i:Int) V1 J):
  ∃(I:Nat->XV->Mem->Prop)(M:Nat),I M [mk b0,mc c0,md Y,.int .i64 0] V/\∀n V1,∀b:β,∀c:u,∀d:f,∀v:Int,I n [mk b,mc c,md d,.int .i64 v] V1->∀J:XV->Mem->Prop,(∀m ys q,m<n->I m ys q->J ys q)->B b c d v V1 J:=by
 refine⟨LI len λi xs V=>∃b c d,xs=[mk b,mc c,md d,.int .i64 i]/\St i d V,len,LI.start ⟨b0,c0,Y,rfl,A⟩,?_⟩;rintro n V1 b c d v ⟨i,rfl,F,G,Z,z,hx,X⟩ J C;simp only[zP,yA,true_and,and_true]at hx;obtain⟨-,-,D,rfl⟩:=hx;cases inj _ _ D;exact step i b c d V1 J F X λW G Z z V2 K=>LI.next C W ⟨G,Z,z,rfl,K⟩
theorem Gx{β f:Type}{mk:β->Value}{mc:f->Value}{B:β->f->Int->Mem->(XV->Mem->Prop)->Prop}(b0:β)(c0:f)(inj:∀x y,mc x=mc y->x=y)(len:Nat)(St:Nat->f->Mem->Prop)(Z:St 0 c0 V)
  (step:∀(i:Nat)(b:β)(c:f) V1 J,i<=len->St i c V1->(i<len->∀q u V2,St (i+1) u V2->J [mk q,mc u,.int .i64 ((i:Int)+1)] V2)->B b c (i:Int) V1 J):
  ∃(I:Nat->XV->Mem->Prop)(Y:Nat),I Y [mk b0,mc c0,.int .i64 0] V/\∀n V1,∀b:β,∀c:f,∀v:Int,I n [mk b,mc c,.int .i64 v] V1->∀J:XV->Mem->Prop,(∀m ys z,m<n->I m ys z->J ys z)->B b c v V1 J:=by
 refine⟨LI len λi xs V=>∃b c,xs=[mk b,mc c,.int .i64 i]/\St i c V,len,LI.start ⟨b0,c0,rfl,Z⟩,?_⟩;rintro n V1 b c v ⟨i,rfl,W,q,u,hx,A⟩ J M;simp only[zP,yA,true_and,and_true]at hx;obtain⟨-,F,rfl⟩:=hx;cases inj _ _ F;exact step i b c V1 J W A λG q u V2 X=>LI.next M G ⟨q,u,rfl,X⟩
end
def Fld.v(f:Fld):Value:=.agg f.row.toArray
def Ty.v(f:Ty):Value:=.agg f.row.toArray
def S.op:S->Int|.mk o _ _ _ _ _ _ _=>o
def S.s:S->KB|.mk _ s _ _ _ _ _ _=>s
def S.el:S->Sl|.mk _ _ l _ _ _ _ _=>l
def S.es:S->XY|.mk _ _ _ l _ _ _ _=>l
def S.ll:S->Sl|.mk _ _ _ _ l _ _ _=>l
def S.ls:S->XK|.mk _ _ _ _ _ l _ _=>l
def S.xl:S->Sl|.mk _ _ _ _ _ _ l _=>l
def S.xs:S->XK|.mk _ _ _ _ _ _ _ l=>l
def S.v(f:S):Value:=.agg f.row.toArray
structure Pr where
 name:KB
 ps:Sl
 params:XX
 result:KB
 ls:Sl
 locals:XX
 bs:Sl
 body:XK
def Pr.row(p:Pr):XV:=[vS p.name,p.ps.v,vS p.result,p.ls.v,p.bs.v]
def Pr.v(f:Pr):Value:=.agg f.row.toArray
structure Pr.Ok (V:Mem)(p:Pr):Prop where
 params:Ae V p.ps 2 (p.params.map Fld.row)
 locals:Ae V p.ls 2 (p.locals.map Fld.row)
 body:Ae V p.bs 5 (p.body.map S.row)
 stmts:∀s∈p.body,S.Ok V s
structure Ms where
 name:KB
 ty:KB
 nil:Int
 x:E
def Ms.row(p:Ms):XV:=[vS p.name,vS p.ty,vI p.nil,vI p.x.op,vI p.x.n,vS p.x.s,p.x.l.v]
def Ms.v(f:Ms):Value:=.agg f.row.toArray
structure Ms.Ok (V:Mem)(p:Ms):Prop where
 x:E.Ok V p.x
 nil:ye.min<=p.nil/\p.nil<=ye.max
structure Iv where
 name:KB
 ty:KB
 x:E
def Iv.row(p:Iv):XV:=[vS p.name,vS p.ty,vI p.x.op,vI p.x.n,vS p.x.s,p.x.l.v]
def Iv.v(f:Iv):Value:=.agg f.row.toArray
structure Po where
 ty:KB
 x:E
def Po.row(p:Po):XV:=[vS p.ty,vI p.x.op,vI p.x.n,vS p.x.s,p.x.l.v]
structure Bd where
 proc:KB
 x:E
def Bd.row(p:Bd):XV:=[vS p.proc,vI p.x.op,vI p.x.n,vS p.x.s,p.x.l.v]
def Bd.v(f:Bd):Value:=.agg f.row.toArray
structure Ds where
 name:KB
 ts:Sl
 types:List Ty
 gs:Sl
 globals:XX
 ps:Sl
 procs:List Pr
 ms:Sl
 measures:List Ms
 is:Sl
 invs:List Iv
 qs:Sl
 pots:List Po
 bs:Sl
 bounds:List Bd
def Ds.row(d:Ds):XV:=[vS d.name,d.ts.v,d.gs.v,d.ps.v,d.ms.v,d.is.v,d.qs.v,d.bs.v]
def Ds.v(d:Ds):Value:=.agg d.row.toArray
structure Ds.Ok (V:Mem)(d:Ds):Prop where
 types:Ae V d.ts 2 (d.types.map Ty.row)
 typesOk:∀t∈d.types,Ty.Ok V t
 globals:Ae V d.gs 2 (d.globals.map Fld.row)
 procs:Ae V d.ps 5 (d.procs.map Pr.row)
 procsOk:∀p∈d.procs,Pr.Ok V p
 measures:Ae V d.ms 7 (d.measures.map Ms.row)
 measuresOk:∀p∈d.measures,Ms.Ok V p
 invs:Ae V d.is 6 (d.invs.map Iv.row)
 invsOk:∀p∈d.invs,E.Ok V p.x
 pots:Ae V d.qs 5 (d.pots.map Po.row)
 potsOk:∀p∈d.pots,E.Ok V p.x
 bounds:Ae V d.bs 5 (d.bounds.map Bd.row)
 boundsOk:∀p∈d.bounds,E.Ok V p.x
theorem Ty.Ok.sub{V V':Mem}{t:Ty}(h:Ty.Ok V t)(f:V.sub V'):Ty.Ok V' t:=⟨h.fields.sub f⟩
theorem Pr.Ok.sub{V V':Mem}{t:Pr}(h:Pr.Ok V t)(f:V.sub V'):Pr.Ok V' t:=⟨h.params.sub f,h.locals.sub f,h.body.sub f,λs m=>S.Ok.sub f (h.stmts s m)⟩
theorem Ms.Ok.sub{V V':Mem}{t:Ms}(h:Ms.Ok V t)(f:V.sub V'):Ms.Ok V' t:=⟨h.x.sub f,h.nil⟩
theorem Ds.Ok.sub{V V':Mem}{d:Ds}(h:Ds.Ok V d)(f:V.sub V'):Ds.Ok V' d:=
 ⟨h.types.sub f,λt m=>(h.typesOk t m).sub f,h.globals.sub f,h.procs.sub f,λt m=>(h.procsOk t m).sub f,h.measures.sub f,λt m=>(h.measuresOk t m).sub f,h.invs.sub f,λt m=>(h.invsOk t m).sub f,h.pots.sub f,λt m=>(h.potsOk t m).sub f,h.bounds.sub f,λt m=>(h.boundsOk t m).sub f⟩
theorem E.Ok.rows{V:Mem}{e:E}(h:E.Ok V e):Ae V e.l 4 (e.k.map E.row):=by cases h;assumption
theorem E.Ok.kids{V:Mem}{e:E}(h:E.Ok V e):∀x∈e.k,E.Ok V x:=by cases h;assumption
theorem E.Ok.opR{V:Mem}{e:E}(h:E.Ok V e):-9223372036854775808<=e.op/\e.op<=9223372036854775807:=by cases h;assumption
theorem E.Ok.nR{V:Mem}{e:E}(h:E.Ok V e):-9223372036854775808<=e.n/\e.n<=9223372036854775807:=by cases h;assumption
theorem S.Ok.eRows{V:Mem}{e:S}(h:S.Ok V e):Ae V e.el 4 (e.es.map E.row):=by cases h;assumption
theorem S.Ok.eOk{V:Mem}{e:S}(h:S.Ok V e):∀x∈e.es,E.Ok V x:=by cases h;assumption
theorem S.Ok.lRows{V:Mem}{e:S}(h:S.Ok V e):Ae V e.ll 5 (e.ls.map S.row):=by cases h;assumption
theorem S.Ok.lOk{V:Mem}{e:S}(h:S.Ok V e):∀x∈e.ls,S.Ok V x:=by cases h;assumption
theorem S.Ok.xRows{V:Mem}{e:S}(h:S.Ok V e):Ae V e.xl 5 (e.xs.map S.row):=by cases h;assumption
theorem S.Ok.xOk{V:Mem}{e:S}(h:S.Ok V e):∀x∈e.xs,S.Ok V x:=by cases h;assumption
theorem S.row_eq(s:S):s.row=[vI s.op,vS s.s,s.el.v,s.ll.v,s.xl.v]:=by cases s;rfl
theorem E.ind{p:E->Prop}(h:∀e:E,(∀x∈e.k,p x)->p e):∀e,p e:=λe=>
 E.rec (motive_1:=p) (motive_2:=λl=>∀x∈l,p x) (λ_ _ _ _ _ f=>h _ f) (λ_ hx=>absurd hx xT) (λ_ _ u hl=>xU.2 ⟨u,hl⟩) e
theorem S.ind{p:S->Prop}(h:∀e:S,(∀x∈e.ls,p x)->(∀x∈e.xs,p x)->p e):∀e,p e:=λe=>
 S.rec (motive_1:=p) (motive_2:=λl=>∀x∈l,p x) (λ_ _ _ _ _ _ _ _ f u=>h _ f u) (λ_ hx=>absurd hx xT) (λ_ _ z hl=>xU.2 ⟨z,hl⟩) e
end Go.Sx
namespace Go.Proofs
open Go Go.Sx
abbrev uB(b:Bool):Value:=.bool b
abbrev uL(s:Sl):Value:=.slice s.p s.n s.c
abbrev uP(p:XI):Value:=.pointer p
abbrev uM(m:XU):Value:=.map m
abbrev uA(l:XQ):Value:=.agg l
abbrev uI(n:Int):Value:=.int .i64 n
abbrev uS(s:KB):Value:=.string s
abbrev rV(v:Value):Ending:=.returned v
@[simp] abbrev KQ:=rV (uB false)
@[simp] abbrev KX:=rV (uB true)
abbrev rT(l:XQ):Ending:=.returned (.tuple l)
abbrev RP:=Ending->Mem->Prop
abbrev TT:=Tri xV
abbrev Br(c a b:Prop):Prop:=(c->a)/\(¬c->b)
abbrev IR(x:Int):Prop:=K.inR .i64 x
def flatV(args:XV):XV:=args.flatMap λ|.agg cs=>cs.toList|v=>[v]
def Ab(l:List UInt8):KB:=⟨l.toArray⟩
def fs:XA:=[3,4,5,6,7,8,9,10,11,12,13,14,15,16,17,18,19,20,21,22,23,24,25,26,27,28,29,30,31,32,33,34,35,36,37,38,39,40,41,42,43,44,45,46,47,48,49,50,51,52,53,54,55,56,57,58,59,60,61,62,63,64,65,66,67,68,69,70,71,72,73,74,75,76,77,78,79,80,81,82,83,84,85,86,87,88,89,90,91,92,93,94,95,96,97,98,99,100,101,102,103,104,105,106,107,108,109,110,111,112,113,114,115,116,117,118,119,120,121,122,123,124,125,126,127,128,129,130,131,132,133,134,135,136,137,138,139,140,141,142,143,144,145,146,147,148,149,150,151,152,153,154,155,156,157,158,159,160,161,162,163,164,165,166,167,168,169,170,171,172,173,174,175,176,177,178,179,180,181,182,183,184,185,186,187,188,189,190,191,192,193,194,195,196,197,198,199,200,201,202,203,204,205,206,207,208,209,210,211,212,213,214,215,216,217,218,219,220,221,222,223,224,225,226,227,228,229,230,231,232,233,234,235,236,237,238,239,240,241,242,243,244,245,246,247,248,249,250,251,252,253,254,255,256,257,258,259,260,261,262,263,264,265,266,267,268,269,270,271,272,273,274,275,276,277,278,279,280,281,282,283,284,285,286,287,288,289,290,291,292,293,294,295,296,297,298,299,300,301,302,303,304,305,306,307,308,309,310,311,312,313,314,315,316,317,318,319,320,321,322,323,324,325,326,327,328,329,330,331,332,333,334,335,336,337,338,339,340,341,342,343,344,345,346,347,348,349,350,351,352,353,354,355,356,357,358,383]
def pans:XA:=[106,140,142,192,251,250,255,303,306,261,196,195,258,260,263,265,315]
theorem Lj:xV.follows .mixedOrders=true:=rfl
def Gy(f:Nat):Prop:=∀args w,(callFunc f args).run xV w=.ok (.enter f args) w
set_option maxRecDepth 100000 in
theorem II:DV xV fs:=λg z w v=>by
 have h:=List.all_eq_true.1 (show fs.all (λf=>match xV.funcs[f]? with|some n=>!(n.name=="runtime.NumGoroutine")&&n.body.isSome|none=>false)=true by kernel_rfl) g z;split at h
 .rename_i n y;simp only[Bool.and_eq_true,Bool.not_eq_true']at h;cases k:n.body with
  |none=>rw[k]at h;cases h.2
  |some c=>have u:n.name≠"runtime.NumGoroutine":=by simpa using h.1
           simp[callFunc,y,u,k]
 .cases h
theorem Dl{f:FuncId}{fn:Func}(z:xV.funcs[f]?=some fn)(early:XA)(loops:List (Nat×XA))(pv:Bool){args:XV}(u:args=(HM xV fn).map (·.ev (flatV args) id)){V:Mem}{R:Ending->Mem->Prop}{q:Prop}
  (y:q=DT xV ⟨pans,pv⟩ R (G8 xV fs (hintF fn early loops) fn (HM xV fn) (flatV args).length) [] (flatV args) V) (h:q):Tri xV f args.toArray V R:=
 tri_dt II Lj z rfl (flatV args) rfl u y h
theorem Cp{f:FuncId}{fn:Func}(z:xV.funcs[f]?=some fn)(early:XA)(loops:List (Nat×XA))(pv:Bool){args:XV}(ρ:XV)(u:args=(HM xV fn).map (·.ev ρ id)){V:Mem}{R:Ending->Mem->Prop}{q:Prop}
  (y:q=DT xV ⟨pans,pv⟩ R (G8 xV fs (hintF fn early loops) fn (HM xV fn) ρ.length) [] ρ V) (h:q):Tri xV f args.toArray V R:=
 tri_dt II Lj z rfl ρ rfl u y h
def hK(n:Nat):Cj:={N:=0,early:=[],loops:=[],keep:=List.range n}
abbrev Ix(s:Sl)(i:Int)(q:Prop):Prop:=¬s.p=none/\0<=i/\i<(s.n:Int)/\q
abbrev TI(f:FuncId)(a:XQ)(V:Mem)(F:Int->Mem->Prop):Prop:=TT f a V λe V1=>∃v,e=rV (uI v)/\F v V1
abbrev TB(f:FuncId)(a:XQ)(V:Mem)(F:Bool->Mem->Prop):Prop:=TT f a V λe V1=>∃v,e=rV (uB v)/\F v V1
abbrev TS(f:FuncId)(a:XQ)(V:Mem)(F:KB->Mem->Prop):Prop:=TT f a V λe V1=>∃v,e=rV (uS v)/\F v V1
abbrev TL(f:FuncId)(a:XQ)(V:Mem)(F:Sl->Mem->Prop):Prop:=TT f a V λe V1=>∃v,e=rV (uL v)/\F v V1
abbrev TP(f:FuncId)(a:XQ)(V:Mem)(F:XI->Mem->Prop):Prop:=TT f a V λe V1=>∃v,e=rV (uP v)/\F v V1
abbrev LMP:=XV->Mem->Prop
abbrev _root_.Go.KZ:=List Value->Mem->Prop
abbrev Nx(I:Nat->LMP)(n:Nat)(J:LMP):Prop:=∀m ys f,m<n->I m ys f->J ys f
abbrev Lp(a:XV)(V:Mem)(F:(Nat->LMP)->Nat->Mem->Prop):Prop:=∃(I:Nat->LMP)(f:Nat),I f a V/\∀n V1,F I n V1
abbrev uD(a:KB)(b c d e f g h:Sl):Value:=uA #[uS a,uL b,uL c,uL d,uL e,uL f,uL g,uL h]
abbrev Ac(b:Bool)(p q:Prop):Prop:=Br (b=true) p q
abbrev EQ(n:Bool):Ending:=rV (uB n)
abbrev Fd(V:Mem)(x:Sl)(t:Int)(F:Int->Int->Int->Int->Int->Prop):Prop:=Ix x t (¬(Aa x.p (t.toNat*5))=none/\∃a b c d g,V.rowp x.p (t.toNat*5) 5=some [uI a,uI b,uI c,uI d,uI g]/\F a b c d g)
abbrev Fr(V:Mem)(x:Sl)(t:Int)(F:KB->Sl->KB->Sl->Sl->Prop):Prop:=Ix x t (¬(Aa x.p (t.toNat*5))=none/\∃a b c d g,V.rowp x.p (t.toNat*5) 5=some [uS a,uL b,uS c,uL d,uL g]/\F a b c d g)
abbrev GE(f:FuncId)(x:XQ)(V:Mem)(F:KB->Sl->Mem->Prop):Prop:=TT f x V λe t=>∃a b,e=rV (uA #[uS a,uL b])/\F a b t
abbrev GT(f:FuncId)(x:XQ)(V:Mem)(F:Sl->Int->Mem->Prop):Prop:=TT f x V λe t=>∃a b,e=rV (uA #[uL a,uI b])/\F a b t
abbrev Id(n:Int):Ending:=rV (uI n)
abbrev In(V:Mem)(x:Sl)(t:Int)(F:Int->Sl->Prop):Prop:=Ix x t (¬(Aa x.p (t.toNat*2))=none/\∃a b,V.rowp x.p (t.toNat*2) 2=some [uI a,uL b]/\F a b)
abbrev LE(x:XV)(V:Mem)(F:Bool->Int->LMP->Mem->Prop):Prop:=Lp x V λI n t=>∀a b,I n [uB a,uI b] t->∀f:LMP,Nx I n f->F a b f t
abbrev LT{α:Type}(m:α->Value)(c:α)(d:Int)(f:LMP)(V:Mem):Prop:=IR (d+1)/\f [m c,uI (d+1)] V
abbrev Or(V:Mem)(x:Sl)(t:Int)(F:KB->Prop):Prop:=Ix x t (∃a,V.rowp x.p (t.toNat*1) 1=some [uS a]/\F a)
abbrev Pi(x:XV)(V:Mem)(F:Int->Int->LMP->Mem->Prop):Prop:=Lp x V λI n t=>∀a b,I n [uI a,uI b] t->∀f:LMP,Nx I n f->F a b f t
abbrev Rk(f:FuncId)(x:XQ)(V:Mem)(F:XI->Int->Mem->Prop):Prop:=TT f x V λe t=>∃a b,e=rT #[uP a,uI b]/\F a b t
abbrev Rl(f:FuncId)(x:XQ)(V:Mem)(F:Int->Int->Int->Int->Int->Mem->Prop):Prop:=TT f x V λe t=>∃a b c d g,e=rV (uA #[uI a,uI b,uI c,uI d,uI g])/\F a b c d g t
abbrev Rm(V:Mem)(x:Sl)(t:Int)(F:KB->Sl->Prop):Prop:=Ix x t (¬(Aa x.p (t.toNat*2))=none/\∃a b,V.rowp x.p (t.toNat*2) 2=some [uS a,uL b]/\F a b)
abbrev Rn(V:Mem)(x:Sl)(t:Int)(F:KB->KB->Prop):Prop:=Ix x t (¬(Aa x.p (t.toNat*2))=none/\∃a b,V.rowp x.p (t.toNat*2) 2=some [uS a,uS b]/\F a b)
abbrev Ro(f:FuncId)(x:XQ)(V:Mem)(F:Sl->Sl->Mem->Prop):Prop:=TT f x V λe t=>∃a b,e=rV (uA #[uL a,uL b])/\F a b t
abbrev Rp(a b:Int)(c:KB)(d:Sl):Value:=uA #[uI a,uI b,uS c,uL d]
abbrev Rq(f:FuncId)(x:XQ)(V:Mem)(F:KB->Int->Int->Mem->Prop):Prop:=TT f x V λe t=>∃a b c,e=rT #[uS a,uI b,uI c]/\F a b c t
abbrev Rr(V:Mem)(x:Sl)(t:Int)(F:KB->Int->Int->KB->Sl->Prop):Prop:=Ix x t (¬(Aa x.p (t.toNat*5))=none/\∃a b c d g,V.rowp x.p (t.toNat*5) 5=some [uS a,uI b,uI c,uS d,uL g]/\F a b c d g)
abbrev Ru{α β:Type}(m:α->Value)(n:β->Value)(b:α)(c:β)(d:Int)(f:LMP)(V:Mem):Prop:=IR (d+1)/\f [m b,n c,uI (d+1)] V
abbrev Rv(x:XV)(V:Mem)(F:Bool->Int->Int->LMP->Mem->Prop):Prop:=Lp x V λI n t=>∀a b c,I n [uB a,uI b,uI c] t->∀f:LMP,Nx I n f->F a b c f t
abbrev Rw(V:Mem)(x:Sl)(t:Int)(F:KB->KB->Int->Int->KB->Sl->Prop):Prop:=Ix x t (¬(Aa x.p (t.toNat*6))=none/\∃a b c d g h,V.rowp x.p (t.toNat*6) 6=some [uS a,uS b,uI c,uI d,uS g,uL h]/\F a b c d g h)
abbrev Ry(V:Mem)(x:Sl)(t:Int)(F:KB->KB->Int->Int->Int->KB->Sl->Prop):Prop:=Ix x t (¬(Aa x.p (t.toNat*7))=none/\∃a b c d g h i,V.rowp x.p (t.toNat*7) 7=some [uS a,uS b,uI c,uI d,uI g,uS h,uL i]/\F a b c d g h i)
abbrev Rz(V:Mem)(x:Sl)(t:Int)(F:KB->Sl->KB->Sl->Sl->Prop):Prop:=Ix x t (∃a b c d g,V.rowp x.p (t.toNat*5) 5=some [uS a,uL b,uS c,uL d,uL g]/\F a b c d g)
abbrev RC(V:Mem)(x:Sl)(t:Int)(F:KB->Int->Prop):Prop:=Ix x t (∃a b,V.rowp x.p (t.toNat*2) 2=some [uS a,uI b]/\F a b)
abbrev RD(f:FuncId)(x:XQ)(V:Mem)(F:Sl->Int->Mem->Prop):Prop:=TT f x V λe t=>∃a b,e=rT #[uL a,uI b]/\F a b t
abbrev RF(V:Mem)(x:Sl)(t:Int)(F:KB->KB->Int->Int->KB->Sl->Prop):Prop:=Ix x t (∃a b c d g h,V.rowp x.p (t.toNat*6) 6=some [uS a,uS b,uI c,uI d,uS g,uL h]/\F a b c d g h)
abbrev RG:KB:=Ab [98,111,111,108]
abbrev RH:KB:=Ab [105,110,116]
abbrev RJ(f:FuncId)(x:XQ)(V:Mem)(F:Int->KB->Sl->Sl->Sl->Mem->Prop):Prop:=TT f x V λe t=>∃a b c d g,e=rV (uA #[uI a,uS b,uL c,uL d,uL g])/\F a b c d g t
abbrev RL(f:FuncId)(x:XQ)(V:Mem)(F:Int->Int->KB->Sl->Mem->Prop):Prop:=TT f x V λe t=>∃a b c d,e=rV (uA #[uI a,uI b,uS c,uL d])/\F a b c d t
abbrev RN(a:Int)(b:KB)(c d g:Sl):Value:=uA #[uI a,uS b,uL c,uL d,uL g]
abbrev RO(f:FuncId)(x:XQ)(V:Mem)(F:Int->Bool->Mem->Prop):Prop:=TT f x V λe t=>∃a b,e=rT #[uI a,uB b]/\F a b t
abbrev RQ(f:FuncId)(x:XQ)(V:Mem)(F:KB->Sl->KB->Sl->Sl->Mem->Prop):Prop:=TT f x V λe t=>∃a b c d g,e=rV (uA #[uS a,uL b,uS c,uL d,uL g])/\F a b c d g t
abbrev RR(V:Mem)(x:Sl)(t:Int)(F:Int->KB->Sl->Sl->Sl->Prop):Prop:=Ix x t (¬(Aa x.p (t.toNat*5))=none/\∃a b c d g,V.rowp x.p (t.toNat*5) 5=some [uI a,uS b,uL c,uL d,uL g]/\F a b c d g)
abbrev RS(V:Mem)(x:Sl)(t:Int)(F:Int->Int->KB->Sl->Prop):Prop:=Ix x t (∃a b c d,V.rowp x.p (t.toNat*4) 4=some [uI a,uI b,uS c,uL d]/\F a b c d)
abbrev RT(x:XV)(V:Mem)(F:Int->Int->Int->LMP->Mem->Prop):Prop:=Lp x V λI n t=>∀a b c,I n [uI a,uI b,uI c] t->∀f:LMP,Nx I n f->F a b c f t
abbrev RU(V:Mem)(x:Sl)(t:Int)(F:KB->KB->Int->Int->Int->KB->Sl->Prop):Prop:=Ix x t (∃a b c d g h i,V.rowp x.p (t.toNat*7) 7=some [uS a,uS b,uI c,uI d,uI g,uS h,uL i]/\F a b c d g h i)
abbrev RV(f:FuncId)(x:XQ)(V:Mem)(F:KB->Int->Mem->Prop):Prop:=TT f x V λe t=>∃a b,e=rT #[uS a,uI b]/\F a b t
abbrev RW(f:FuncId)(x:XQ)(V:Mem)(F:Int->Int->Mem->Prop):Prop:=TT f x V λe t=>∃a b,e=rT #[uI a,uI b]/\F a b t
abbrev RX(x:XV)(V:Mem)(F:Sl->Int->LMP->Mem->Prop):Prop:=Lp x V λI n t=>∀a b,I n [uL a,uI b] t->∀f:LMP,Nx I n f->F a b f t
abbrev RZ(V:Mem)(x:Sl)(t:Int)(F:KB->Sl->Prop):Prop:=Ix x t (∃a b,V.rowp x.p (t.toNat*2) 2=some [uS a,uL b]/\F a b)
abbrev R0(x:XV)(V:Mem)(F:XU->Int->LMP->Mem->Prop):Prop:=Lp x V λI n t=>∀a b,I n [uM a,uI b] t->∀f:LMP,Nx I n f->F a b f t
abbrev R1(V:Mem)(x:Sl)(t:Int)(F:Sl->Prop):Prop:=Ix x t (∃a,V.rowp x.p (t.toNat*1) 1=some [uL a]/\F a)
abbrev R2(V:Mem)(x:Sl)(t:Int)(F:Int->KB->Sl->Sl->Sl->Prop):Prop:=Ix x t (∃a b c d g,V.rowp x.p (t.toNat*5) 5=some [uI a,uS b,uL c,uL d,uL g]/\F a b c d g)
abbrev R3(x:XV)(V:Mem)(F:Int->LMP->Mem->Prop):Prop:=Lp x V λI n t=>∀a,I n [uI a] t->∀f:LMP,Nx I n f->F a f t
abbrev R4(d:Int)(f:LMP)(V:Mem):Prop:=IR (d+1)/\f [uI (d+1)] V
abbrev R5(x:XV)(V:Mem)(F:KB->Int->Int->LMP->Mem->Prop):Prop:=Lp x V λI n t=>∀a b c,I n [uS a,uI b,uI c] t->∀f:LMP,Nx I n f->F a b c f t
abbrev R6(x:XV)(V:Mem)(F:Int->Int->Int->Int->LMP->Mem->Prop):Prop:=Lp x V λI n t=>∀a b c d,I n [uI a,uI b,uI c,uI d] t->∀f:LMP,Nx I n f->F a b c d f t
abbrev R7(f:FuncId)(x:XQ)(V:Mem)(F:Sl->Bool->Mem->Prop):Prop:=TT f x V λe t=>∃a b,e=rV (uA #[uL a,uB b])/\F a b t
abbrev R8(V:Mem)(x:Sl)(t:Int)(F:KB->Int->Int->KB->Sl->Prop):Prop:=Ix x t (∃a b c d g,V.rowp x.p (t.toNat*5) 5=some [uS a,uI b,uI c,uS d,uL g]/\F a b c d g)
abbrev R9(V:Mem)(x:Sl)(t:Int)(F:KB->KB->Prop):Prop:=Ix x t (∃a b,V.rowp x.p (t.toNat*2) 2=some [uS a,uS b]/\F a b)
abbrev Sa(x:XV)(V:Mem)(F:XI->Int->LMP->Mem->Prop):Prop:=Lp x V λI n t=>∀a b,I n [uP a,uI b] t->∀f:LMP,Nx I n f->F a b f t
abbrev Sb(f:FuncId)(x:XQ)(V:Mem)(F:XI->XU->Bool->Mem->Prop):Prop:=TT f x V λe t=>∃a b c,e=rV (uA #[uP a,uM b,uB c])/\F a b c t
abbrev Sd(V:Mem)(x:Sl)(t:Int)(F:Int->Int->KB->Sl->Prop):Prop:=Ix x t (¬(Aa x.p (t.toNat*4))=none/\∃a b c d,V.rowp x.p (t.toNat*4) 4=some [uI a,uI b,uS c,uL d]/\F a b c d)
abbrev Se(x:XV)(V:Mem)(F:Int->Sl->Int->LMP->Mem->Prop):Prop:=Lp x V λI n t=>∀a b c,I n [uI a,uL b,uI c] t->∀f:LMP,Nx I n f->F a b c f t
abbrev Sg(V:Mem)(x:Sl)(t:Int)(F:Int->Prop):Prop:=Ix x t (∃a,V.rowp x.p (t.toNat*1) 1=some [uI a]/\F a)
abbrev Sh(x:XV)(V:Mem)(F:Sl->Int->Sl->Int->LMP->Mem->Prop):Prop:=Lp x V λI n t=>∀a b c d,I n [uL a,uI b,uL c,uI d] t->∀f:LMP,Nx I n f->F a b c d f t
abbrev Si(V:Mem)(x:Sl)(t:Int)(F:Int->Int->Int->Bool->Prop):Prop:=Ix x t (¬(Aa x.p (t.toNat*4))=none/\∃a b c d,V.rowp x.p (t.toNat*4) 4=some [uI a,uI b,uI c,uB d]/\F a b c d)
abbrev Sj(x:XV)(V:Mem)(F:Sl->Int->Int->LMP->Mem->Prop):Prop:=Lp x V λI n t=>∀a b c,I n [uL a,uI b,uI c] t->∀f:LMP,Nx I n f->F a b c f t
abbrev Sk(x:XV)(V:Mem)(F:Sl->Sl->Sl->Sl->Int->Int->LMP->Mem->Prop):Prop:=Lp x V λI n t=>∀a b c d g h,I n [uL a,uL b,uL c,uL d,uI g,uI h] t->∀f:LMP,Nx I n f->F a b c d g h f t
abbrev Sm(V:Mem)(x:Sl)(t:Int)(F:Int->Int->Int->Prop):Prop:=Ix x t (∃a b c,V.rowp x.p (t.toNat*3) 3=some [uI a,uI b,uI c]/\F a b c)
abbrev So(V:Mem)(x:Sl)(t:Int)(F:Int->Int->Int->Int->Int->Prop):Prop:=Ix x t (∃a b c d g,V.rowp x.p (t.toNat*5) 5=some [uI a,uI b,uI c,uI d,uI g]/\F a b c d g)
theorem Ad{f:FuncId}{fn:Func}{V:Mem}{R:RP}{args:XV}(z:xV.funcs[f]?=some fn){q:Prop}(h:q)(u:args=(HM xV fn).map (·.ev (flatV args) id):=by kernel_rfl)
 (y:q=DT xV ⟨pans,false⟩ R (G8 xV fs (hintF fn [] []) fn (HM xV fn) (flatV args).length) [] (flatV args) V:=by kernel_rfl):Tri xV f args.toArray V R:=Dl z [] [] false u y h
@[simp] abbrev z0:Value:=.slice none 0 0
@[simp] abbrev Ap (i j t:Nat) (X Y:Value) (V:Mem) (F:Sl->Mem->Prop):Prop:=GenK xV (.call {callee:=(.builtin .append),args:=#[(.tmp i),(.tmp j)],argTypes:=#[t,t]}) t (gv [(i,X),(j,Y)]) V λx V2=>∃v,x=uL v/\F v V2
@[simp] abbrev N2 (a:XI) (q:Prop):Prop:=¬a=none/\¬a=none/\q
@[simp] abbrev IY (V:Mem) (s:Sl) (i:Int) (F:Int->Prop):Prop:=∃v,V.rowp s.p (i.toNat*1) 1=some [uI v]/\F v
abbrev pv(b:Nat):Value:=.pointer (some ⟨b,0,none⟩)
abbrev sa(b:Nat):XI:=some ⟨b,0,none⟩
abbrev OV(R:KZ):RP:=λe V'=>∃vs:XV,e=.returned (.tuple vs.toArray)/\R vs V'
abbrev CO(f:Nat):Prop:=∀args w,(callFunc f args).run xV w=.ok (.enter f args) w
abbrev MR:=Mem->RP->Prop
theorem Av{V:Mem}{b:Nat}{o:Obj}:(V.set b o) b=some o:=Mem.set_same _ _ _
end Go.Proofs
