/- Part 2: no statement of the seat is proved here. -/
import Derived.Test.YtmdkfdmecbimcaaGreatDoorPd01
set_option linter.unusedVariables false
set_option linter.unusedSimpArgs false
open List renaming prefix_append->yG,mem_cons->yH,length_append->zI,length_singleton->yI,append_assoc->zJ,cons_append->zK,map_cons->zH,lookup_cons->z7,mem_filterMap->yK,size_toArray->yR,replicate->yT,replicate_succ'->yU,flatten_append->yV,getElem?_append_right->yW,map_append->yy,mem_cons_self->yA,mem_cons_of_mem->yB,all_eq_true->yC,nodup_cons->yr,mem_range->yo,mem_filter->ym,prefix_refl->yk
open List.cons renaming injEq->yJ
open Option.some renaming injEq->zG
open Bool renaming false_eq_true->zQ,and_eq_true->zC,or_eq_true->yx,not_eq_true'->zz
open Go.Sem renaming run_bind->zN,run_pure->zP
open Go.Result renaming andThen_ok->zO
open Option renaming or_eq_none_iff->zE,map_some->zL,isSome_iff_exists->yF,bind_some->zM
open Array renaming ext'->yL,toList_map->zc,toArray_toList->yX,getD->yZ,getElem?_eq_some_iff->yE,getElem?_eq_getElem->yu,all_eq_true_iff_forall_mem->yp,size_setIfInBounds->yl
open Go.Deferred renaming ofValue->yM
open Go.Oper renaming wp->yN,upon->yO
open Go.Addr renaming add_zero'->yP
open Go.Instr renaming loadAt->yQ,sureAddr->zd,storeAt->yS,buildSlice->yY
open Go.Region renaming wanted->yz,binds->yw,ready->yn
open Prod.mk renaming injEq->zY
open Nat renaming strongRecOn->yv,le_refl->yq
namespace Go.Sx
open Go
section
variable{P:Program}{R:Ending->Mem->Prop}{O V0:Mem}{w0:World}{N:Nat}{L:List (List Value->Mem->Prop)}{ρ0:List Value}
structure B9 (ρ0:List Value)(L:List (List Value->Mem->Prop))(ρ:List Value)(st:St):Prop where
 pre:ρ0<+:ρ
 depth:L.length=st.depth
theorem B9.putO{ρ0:List Value}{L:List (List Value->Mem->Prop)}{ρ:List Value}{st:St}(h:B9 ρ0 L ρ st)(d:Option Nat)(t:T):B9 ρ0 L ρ (st.putO d t):=by
 cases d<;>exact⟨h.1,h.2⟩
theorem B9.more{ρ0:List Value}{L:List (List Value->Mem->Prop)}{ρ:List Value}{st:St}(h:B9 ρ0 L ρ st)(n:Nat)(vs:List Value):B9 ρ0 L (ρ++vs) (st.more n):=⟨h.1.trans (yG _ _),h.2⟩
theorem B9.pubd{ρ0:List Value}{L:List (List Value->Mem->Prop)}{ρ:List Value}{st:St}(h:B9 ρ0 L ρ st)(i:Nat)(vs:List Value):B9 ρ0 L (ρ++vs) (st.pubd i):=⟨h.1.trans (yG _ _),h.2⟩
theorem B9.compact{ρ0:List Value}{L:List (List Value->Mem->Prop)}{ρ:List Value}{st:St}(h:B9 ρ0 L ρ st)(keep:List Nat):B9 ρ0 L ρ (st.compact keep):=⟨h.1,h.2⟩
theorem B9.now{ρ0:List Value}{L:List (List Value->Mem->Prop)}{ρ:List Value}{st:St}(h:B9 ρ0 L ρ st)(d:Nat)(t:T):B9 ρ0 L ρ (st.now d t):=⟨h.1,h.2⟩
theorem B9.setBox{ρ0:List Value}{L:List (List Value->Mem->Prop)}{ρ:List Value}{st:St}(h:B9 ρ0 L ρ st)(i:Nat)(t:T)(ty:Nat):B9 ρ0 L ρ (st.setBox i t ty):=⟨h.1,h.2⟩
def Bg(P:Program)(R:Ending->Mem->Prop)(O V0:Mem)(w0:World)(N:Nat)(L:List (List Value->Mem->Prop))(ρ0:List Value)(tmps:Array Value)(w:World)(st:St)(t:Tr):Prop:=
 ∃β ρ V,B9 ρ0 L ρ st/\Rel O V0 w0 N β st ρ V tmps w/\D P R t L ρ V
theorem LX{ns:List T}{k:Tr}{ρ:List Value}{V:Mem}(h:D P R (needs ns k) L ρ V)(β:Nat->Nat):(∀x∈ns,asB (x.ev ρ β)=true)/\D P R k L ρ V:=by
 induction ns with
 |nil=>exact⟨λx g=>by(cases g),h⟩
 |cons n ns f=>
  simp only[needs]at h;split at h
  ·rename_i u;obtain⟨h1,h2⟩:=h;obtain⟨h3,h4⟩:=f h2;refine⟨λx g=>?_,h4⟩;rcases yH.1 g with rfl|g;·grind[T.ev_free,id]
   ·exact h3 x g
  ·exact h.elim
theorem Jr:∀(n:Nat)(st:St)(i:Nat)(k:St->Tr){tmps:Array Value}{w:World},Bg P R O V0 w0 N L ρ0 tmps w st (Ii n st i k)->∃g,Bg P R O V0 w0 N L ρ0 tmps w g (k g)
 |0,st,i,k,tmps,w,⟨β,ρ,V,u,f,h⟩=>h.elim
 |n+1,st,i,k,tmps,w,⟨β,ρ,V,u,f,h⟩=>by
  simp only[Ii]at h;split at h;·exact h.elim
  ·rename_i z ty y;split at h
   ·rename_i j _;obtain⟨g,x⟩:=Jr n st j _ ⟨β,ρ,V,u,f,h⟩;exact Jr n g i k x
   ·rename_i l;split at h
    ·rename_i hw;have:=h (β i) (f.boxes i z ty y).2.1;rw[(T.ev_free (β:=id) (β':=β) (ρ:=ρ) z l).2]at this;exact⟨_,β,_,_,u.pubd _ _,f.pubd hw y,this⟩
    ·exact h.elim
theorem ER:∀(n:Nat)(st:St)(get:St->Option T)(k:St->T->Tr){tmps:Array Value}{w:World},Bg P R O V0 w0 N L ρ0 tmps w st (pubT n st get k)->
  ∃h t,get h=some t/\t.firstBox=none/\Bg P R O V0 w0 N L ρ0 tmps w h (k h t)
 |0,st,get,k,tmps,w,⟨β,ρ,V,f,u,g⟩=>g.elim
 |n+1,st,get,k,tmps,w,⟨β,ρ,V,f,u,g⟩=>by
  simp only[pubT]at g;split at g;·exact g.elim
  ·rename_i t z;split at g
   ·rename_i y;exact⟨st,t,z,y,β,ρ,V,f,u,g⟩
   ·rename_i i _;obtain⟨h,x⟩:=Jr _ st i _ ⟨β,ρ,V,f,u,g⟩;exact ER n h get k x
theorem rk_vals{β:Nat->Nat}:∀(rs:List RK)(vs ρ σ:List Value),Shaped (rs.flatMap RK.kinds) vs->(FF rs ρ.length).map (·.ev (ρ++vs++σ) β)=HJ rs vs
 |[],[],_,_,_=>rfl
 |[],_::_,_,_,h=>h.elim
 |.one k::rs,v::vs,ρ,σ,h=>by
  have u:=rk_vals (β:=β) rs vs (ρ++[v]) σ h.2;simp only[zI,yI,zJ,zK,List.nil_append]at u;simp only[FF,zH,zJ,zK,T.ev,u,HJ,RK.val,RK.size,List.take_succ_cons,List.take_zero,List.headD_cons,List.drop_succ_cons,List.drop_zero,yJ,and_true];have:(ρ++v::(vs++σ)).getD ρ.length undef=v:=by simp[List.getD]
  rw[this];exact h.1
 |.one k::rs,[],_,_,h=>h.elim
 |.agg g::rs,vs,ρ,σ,h=>by
  have z:=NM (ks:=g) (ls:=rs.flatMap RK.kinds) (vs:=vs) h;have f:(vs.take g.length).length=g.length:=z.1.length;have u:=rk_vals (β:=β) rs (vs.drop g.length) (ρ++vs.take g.length) σ z.2;have e:ρ++vs.take g.length++vs.drop g.length=ρ++vs:=by simp
  rw[e,zI,f]at u;have hv:=Is (β:=β) g (vs.take g.length) ρ (vs.drop g.length++σ) z.1;have y:ρ++vs.take g.length++(vs.drop g.length++σ)=ρ++vs++σ:=by grind
  grind[FF,HJ,RK.val,RK.size,T.ev,Da]
theorem rk_val{β:Nat->Nat}(rs:List RK)(vs ρ:List Value)(h:Shaped (rs.flatMap RK.kinds) vs):(Ig rs ρ.length).ev (ρ++vs) β=E1 rs vs:=by
 have:=rk_vals (β:=β) rs vs ρ [] h;rw[List.append_nil]at this;unfold Ig E1
 match rs,this,h with
 |[],_,_=>rfl
 |[r],this,h=>
  cases r with
  |one k=>
   simp only[FF,zH,List.map_nil,HJ,RK.val,RK.size,yJ,and_true]at this;simp only[FF];rw[this];cases vs<;>simp[RK.val]
  |agg f=>
   have z:vs.length=f.length:=by have:=h.length;simpa [RK.kinds]using this
   grind[FF,HJ,RK.val,RK.size]
 |r::g::rs,this,_=>
  have h2:∃t u ts,FF (r::g::rs) ρ.length=t::u::ts:=by cases r<;>cases g<;>exact⟨_,_,_,rfl⟩
  grind[T.ev,Da]
theorem Iw{V:Mem}{w:World}(f:V.le w){b:Addr}{n:Nat}{vs:List Value}(h:V.row b n=some vs):vs.length=n/\∀j v,vs[j]?=some v->w.cell? (b.add j)=some v:=by
 unfold Mem.row at h;split at h
 ·rename_i c e fr u;split at h
  ·rename_i z;simp only[zG]at h;subst h;refine⟨by simp;omega,λj v l=>?_⟩;have y:b.spot=none:=by simpa using z.1
   have g:(b.add j)=⟨b.block,b.off+j,none⟩:=by
    cases b with
    |mk m x q=>grind[Jl]
   rw[g];simp only[World.cell?,f _ _ u,Option.isSome_none,zQ,if_false];grind
  ·simp at h
 ·simp at h
theorem NU{w:World}{ρ:List Value}{β:Nat->Nat}{t:TypeId}{cs x:T}{off:Nat}{b:Addr}(f:∀j v,(cs.evs ρ β)[j]?=some v->w.cell? (b.add j)=some v)(h:Eh P t cs off=some x):
  (loadVar t (b.add off)).run P w=.ok (x.ev ρ β) w:=by
 unfold Eh at h;split at h
 ·rename_i n h1 h2;simp only at h;split at h
  ·rename_i u;simp only[zG]at h;subst h;have e:(takeT cs off n).map (·.ev ρ β)=((cs.evs ρ β).drop off).take n:=LO cs off n;have g:(((cs.evs ρ β).drop off).take n).length=n:=by grind
   have:=run_loadCells_list (P:=P) w (b.add off) (((cs.evs ρ β).drop off).take n) (λj v z=>by
    grind[NK])
   rw[g]at this;simp only[loadVar,zN,Hc h1,zO,if_true,E3 h2,this,zP,T.ev,Da,e]
  ·simp at h
 ·rename_i n h1 h2;have e:(cs.evs ρ β)[off]?=some (x.ev ρ β):=by simp[DR,h]
  simp_all[loadVar,zN,Hc,zO,zQ,if_false,run_load]
 ·simp at h
end
def Ez(P:Program)(fs:List Nat):Prop:=∀f∈fs,∀args w,(callFunc f args).run P w=.ok (.enter f args) w
section
variable{P:Program}{R:Ending->Mem->Prop}{O V0:Mem}{w0:World}{N:Nat}{L:List (List Value->Mem->Prop)}{ρ0:List Value}{fs:List Nat}{H:CJ}
theorem F6{f:FuncId}{args:Array Value}{w:World}{R g:Ending->World->Prop}(h:Calls P f args w R)(u:∀e w',R e w'->g e w'):Calls P f args w g:=λz=>
 let⟨e,w',fr,y,rest⟩:=h z
 ⟨e,w',fr,u _ _ y,rest⟩
theorem Kn{st:St}:∀{l:List Nat}{t:T},FH st l=some t->∀s∈l,(l.zip t.toList).lookup s=st.get s
 |[],t,_,s,g=>by cases g
 |x::xs,t,h,s,g=>by
  simp only[FH]at h;split at h
  ·rename_i f u h1 h2;simp only[zG]at h;subst h;simp only[T.toList,List.zip_cons_cons,z7];by_cases e:s=x;·subst e;simp[h1]
   ·have:(s==x)=false:=by simpa using e
    rw[this];exact Kn h2 s (by rcases yH.1 g with h|h;exact absurd h e;exact h)
  ·simp at h
theorem Ko{st:St}:∀{l:List Nat}{t:T},FH st l=some t->∀s∈l,∃x,st.get s=some x/\x∈t.toList
 |[],t,_,s,g=>by cases g
 |x::xs,t,h,s,g=>by
  simp only[FH]at h;split at h
  ·rename_i u z h1 h2;simp only[zG]at h;subst h;rcases yH.1 g with rfl|g;·grind[T.toList]
   ·obtain⟨y,f,hm⟩:=Ko h2 s g;exact⟨y,f,by simp[T.toList,hm]⟩
  ·simp at h
theorem Kp:∀{t:T}{x:T},t.firstBox=none->x∈t.toList->x.firstBox=none
 |.cons h t,x,f,g=>by
  simp only[T.firstBox,zE]at f;simp only[T.toList,yH]at g;rcases g with rfl|g;·exact f.1
  ·exact Kp f.2 g
 |.var _ _,x,_,g=>by simp[T.toList]at g
 |.int _ _,x,_,g=>by simp[T.toList]at g
 |.bool _,x,_,g=>by simp[T.toList]at g
 |.str _,x,_,g=>by simp[T.toList]at g
 |.und,x,_,g=>by simp[T.toList]at g
 |.nilp,x,_,g=>by simp[T.toList]at g
 |.nilsl,x,_,g=>by simp[T.toList]at g
 |.nilm,x,_,g=>by simp[T.toList]at g
 |.nilf,x,_,g=>by simp[T.toList]at g
 |.nili,x,_,g=>by simp[T.toList]at g
 |.box _ _,x,_,g=>by simp[T.toList]at g
 |.glob _,x,_,g=>by simp[T.toList]at g
 |.fn _ _,x,_,g=>by simp[T.toList]at g
 |.u _ _,x,_,g=>by simp[T.toList]at g
 |.b2 _ _ _,x,_,g=>by simp[T.toList]at g
 |.c3 _ _ _ _,x,_,g=>by simp[T.toList]at g
 |.nil,x,_,g=>by simp[T.toList]at g
 |.agg _,x,_,g=>by simp[T.toList]at g
 |.tup _,x,_,g=>by simp[T.toList]at g
theorem lookup_ev{ρ:List Value}:∀{l:List (Nat×T)}{s:Nat},(l.map λx=>(x.1,x.2.ev ρ id)).lookup s=(l.lookup s).map (·.ev ρ id)
 |[],_=>rfl
 |(n,t)::l,s=>by
  simp only[zH,z7];split;·rfl
  ·exact lookup_ev
theorem gval_eval{st:St}{β:Nat->Nat}{ρ:List Value}{V:Mem}{a:Act}{w:World}(m:Rel O V0 w0 N β st ρ V a.tmps w){l:List Operand}{t:T}(h:FH st (FZ l)=some t)(q:t.firstBox=none):
  ∀x∈l,a.eval x=gval ((FZ l).zip t.toList) ρ x:=by
 intro x J;cases x with
 |tmp s=>
  have u:s∈FZ l:=yK.2 ⟨_,J,rfl⟩;obtain⟨y,z,hm⟩:=Ko h s u;have h1:=Kn h s u;simp only[gval,gv,lookup_ev,h1,z,zL,Option.getD_some];rw[(T.ev_free (β:=id) (β':=β) (ρ:=ρ) y (Kp q hm)).1];exact m.slots s y z
 |const v=>rfl
 |global g=>rfl
 |func f=>rfl
theorem NV{st:St}{β:Nat->Nat}{ρ:List Value}{V:Mem}{a:Act}{w:World}(h:Rel O V0 w0 N β st ρ V a.tmps w){o:Oper}(z:F0 o.op=false){t:T}(g:FH st (FZ o.op.operands.toList)=some t)(f:t.firstBox=none):
  execOp a.eval o=execOp (gval ((FZ o.op.operands.toList).zip t.toList) ρ) { dst:=none,op:=o.op,type:=o.type,pos:= "",after:=#[],guard:=none}:=by
 have h1:=execOp_congr (ρ:=a.eval) (ρ':=gval ((FZ o.op.operands.toList).zip t.toList) ρ) o (λy b e=>by grind[F0])
  (λx u=>gval_eval h g f x (by simpa using u))
 rw[h1];rfl
variable{a:Act}{w:World}{st:St}{o:Oper}{k:St->Tr}{next:Act->World->Prop}{Q:Exit->Act->World->Prop}
def F7(R:Ending->Mem->Prop)(V0:Mem)(w0:World)(ds:List Deferred)(Q:Exit->Act->World->Prop):Prop:=∀chain h w',h.defers=ds->(∃V',R (.panicked chain) V'/\As V0 w0 V' w')->Q (.panic chain) h w'
theorem exCall_sound(q:Ez P fs)(hQ:F7 R V0 w0 a.defers Q){c:Call}{f:Operand}(E:o.op=.call c)(K:c.callee=.value f)(hd:Ei N o.dst=true)
  (h:Bg P R O V0 w0 N L ρ0 a.tmps w st (exCall P fs st o c f k))
  (hk:∀J S w',(∃v,S=a.put o.dst v)->Bg P R O V0 w0 N L ρ0 S.tmps w' J (k J)->next S w'):o.wp P a w next Q:=by
 obtain⟨β,ρ,V,C,Y,W⟩:=h;unfold exCall at W;split at W;·exact W.elim
 ·rename_i F hrs;have after:∀(st:St)(β:Nat->Nat)(ρ:List Value)(V:Mem),B9 ρ0 L ρ st->Rel O V0 w0 N β st ρ V a.tmps w->st.wf=true->∀(g:FuncId)(args:Array Value),
    Tri P g args V (λe V'=>(∃vs,e=.returned (E1 F vs)/\Shaped (F.flatMap RK.kinds) vs/\D P R (k ((st.more (HM F)).putO o.dst (Ig F st.nv))) L (ρ++vs) V')∨∃U,e=.panicked U/\R e V')->
    Calls P g args w fun
     |.returned v,A=>next (a.put o.dst v) A
     |.panicked chain,A=>Q (.panic chain) a A
     |.outgrown,_=>LetsOut Q:=by
   intro st β ρ V C Y hw g args ht;refine F6 (ht w Y.frm.le) ?_;rintro e w' ⟨V',⟨vs,rfl,hsh,u⟩|⟨U,rfl,hR⟩,hF⟩;rotate_left;·exact hQ U a w' rfl ⟨V',hR,(Y.frame hF).frm⟩
   refine hk _ _ _ ⟨_,rfl⟩ ⟨β,ρ++vs,V',(C.more _ _).putO _ _,?_,u⟩;have hl:vs.length=HM F:=hsh.length;have h1:=(Y.frame hF).bind hw vs;rw[hl]at h1;exact h1.putO hd _ (by rw[<-Y.nv];grind[rk_val])
  split at W
  ·rename_i g0 caps0 hf0;obtain⟨J,t,G,l,z,y,V',hp',m,u⟩:=ER _ _ _ _ ⟨β,ρ,V,C,Y,W⟩;split at G
   ·rename_i g x ts I M;simp only[zG]at G;subst G;simp only at u;split at u
    ·rename_i Z;unfold bind at u;split at u
     ·rename_i hw;simp only[D]at u;have e1:a.eval f=.func (.func g) #[] (x.evs y z).toArray:=Bx m I;have e2:c.args.map a.eval=(ts.map (·.ev y z)).toArray:=by apply yL;rw[zc,Jn m M]
      have hev:=(T.ev_free (β:=id) (β':=z) (ρ:=y) (T.ofList (ts++x.toList)) (by grind[T.firstBox])).2;have hargs:(T.evs y id (T.ofList (ts++x.toList))).toArray=(ts.map (·.ev y z)).toArray++(x.evs y z).toArray:=by
       grind[Da,DR]
      have X:(execOp a.eval o).run P w=.ok (.enter g ((ts.map (·.ev y z)).toArray++(x.evs y z).toArray)) w:=by
       unfold execOp;simp only[E,resolve,K,e1,e2,yM,zN,zP,zO,invoke];rw[q g (List.contains_iff_mem.1 Z)];simp
      grind[yN,yO]
     ·exact u.elim
    ·exact u.elim
   ·simp at G
  ·rename_i t0 hf0 _;obtain⟨J,t,G,l,z,y,V',hp',m,u⟩:=ER _ _ _ _ ⟨β,ρ,V,C,Y,W⟩;split at G
   ·rename_i t1 ts I M;simp only[zG]at G;subst G;simp only at u;unfold bind at u;split at u
    ·rename_i hw;simp only[D]at u;obtain⟨g,first,x,B,Z,u⟩:=u;simp only[T.firstBox,zE]at l;rw[(T.ev_free (β:=id) (β':=z) (ρ:=y) t1 l.1).1]at B;have e1:a.eval f=.func (.func g) first x:=(Bx m I).trans B
     have e2:c.args.map a.eval=(ts.map (·.ev y z)).toArray:=by apply yL;rw[zc,Jn m M]
     have hev:=(T.ev_free (β:=id) (β':=z) (ρ:=y) (T.ofList ts) l.2).2;have X:(execOp a.eval o).run P w=.ok (.enter g (first++(ts.map (·.ev y z)).toArray++x)) w:=by
      grind[execOp,resolve,yM,invoke]
     grind[yN,yO,Da]
    ·exact u.elim
   ·simp at G
  ·exact W.elim
end
section
variable{P:Program}{R:Ending->Mem->Prop}{O V0:Mem}{w0:World}{N:Nat}{L:List (List Value->Mem->Prop)}{ρ0:List Value}{fs:List Nat}{H:CJ}
variable{a:Act}{w:World}{st:St}{o:Oper}{k:St->Tr}{next:Act->World->Prop}{Q:Exit->Act->World->Prop}
theorem Kq{v:Value}{w':World}(h:(execOp a.eval o).run P w=.ok (.value v) w')(g:next (a.put o.dst v) w'):o.wp P a w next Q:=by
 unfold yN;rw[h];exact g
theorem LY{w':World}(h:(execOp a.eval o).run P w=.ok .skip w')(g:next (a.put o.dst undef) w'):o.wp P a w next Q:=by
 unfold yN;rw[h];exact g
theorem Fk(a:Act)(d:Option Nat)(v:Value):(a.put d v).defers=a.defers:=by cases d<;>rfl
theorem NW(A:Ei N o.dst=true)
  (h:Bg P R O V0 w0 N L ρ0 a.tmps w st (exGen P st o k))
  (I:∀y Y w',(∃v,Y=a.put o.dst v)->Bg P R O V0 w0 N L ρ0 Y.tmps w' y (k y)->next Y w'):o.wp P a w next Q:=by
 obtain⟨β,ρ,V,M,F,l⟩:=h;unfold exGen at l;simp only at l;split at l;·exact l.elim
 ·rename_i Z;have z:F0 o.op=false:=by simpa using Z
  split at l
  ·obtain⟨y,t,W,u,m,q,V',J,g,f⟩:=ER _ _ _ _ ⟨β,ρ,V,M,F,l⟩;simp only[D]at f;obtain⟨w',G,h1,h2,h3⟩:=f w g.frm.le;rw[<-NV g z W u]at h1;refine LY h1 (I _ _ _ ⟨_,rfl⟩ ⟨m,q,G,J.putO _ _,?_,h3⟩);exact(g.frame h2).putO A .und rfl
  ·split at l;·exact l.elim
   ·rename_i B C;obtain⟨y,t,W,u,m,q,V',J,g,f⟩:=ER _ _ _ _ ⟨β,ρ,V,M,F,l⟩;unfold bind at f;split at f
    ·rename_i hw;simp only[D]at f;obtain⟨x,w',G,vs,h1,h2,rfl,h3,h4⟩:=f w g.frm.le;rw[<-NV g z W u]at h1;refine Kq h1 (I _ _ _ ⟨_,rfl⟩ ⟨m,q++vs,G,(J.more _ _).putO _ _,?_,h4⟩);have E:vs.length=HM B:=h3.length;have X:=(g.frame h2).bind hw vs;rw[E]at X;exact X.putO A _ (by rw[<-g.nv];grind[rk_val])
    ·exact f.elim
theorem Kr{p b i:T}{sz off:Nat}{e:Option Nat}{ρ:List Value}{β:Nat->Nat}(h:HN p=(b,i,sz,off,e))(g:p.kind=some .p):
  match e with
  |some _=>AT (p.ev ρ β)=Aa (Aa (AT (b.ev ρ β)) ((Aq (i.ev ρ β)).toNat*sz)) off
  |none=>AT (p.ev ρ β)=Aa (AT (b.ev ρ β)) ((Aq (i.ev ρ β)).toNat*sz):=by
 unfold HN at h;split at h;·grind[T.ev,U.ev,B.ev,AT]
 ·cases h;simp only[T.ev,B.ev,AT,ptrAdd_add,Nat.add_zero]
 ·grind[T.ev,U.ev,AT,Aq]
 ·cases h;simp_all[T.ev,Aq,Int.toNat_zero,Nat.zero_mul,AT,Aa,yP]
theorem exLoad_sound{t:TypeId}{x:Operand}(hop:o.op=.load t x)(hd:Ei N o.dst=true)
  (h:Bg P R O V0 w0 N L ρ0 a.tmps w st (Ik P st o.dst t x k))
  (hk:∀l X w',(∃v,X=a.put o.dst v)->Bg P R O V0 w0 N L ρ0 X.tmps w' l (k l)->next X w'):o.wp P a w next Q:=by
 obtain⟨β,ρ,V,hp,hr,hD⟩:=h;unfold Ik at hD;obtain⟨l,p,hg,B,f,u,V',C,m,g⟩:=ER _ _ _ _ ⟨β,ρ,V,hp,hr,hD⟩;have hx:a.eval x=p.ev u f:=Bx m hg;have A:∀{b i sz y e},HN p=(b,i,sz,y,e)->b.firstBox=none/\i.firstBox=none:=by
  intro b i sz y e Y;unfold HN at Y;grind[T.firstBox]
 have go:∀(q:Addr)(G:List K)(vs:List Value)(y:Nat)(z:T),AT (p.ev u f)=some (q.add y)->p.kind=some .p->Shaped G vs->l.wf=true->
   (∀j v,vs[j]?=some v->w.cell? (q.add j)=some v)->Eh P t (T.ofList (vars G l.nv)) y=some z->D P R (k ((l.more G.length).putO o.dst z)) L (u++vs) V'->o.wp P a w next Q:=by
  intro q G vs y z Z J I hw hc F E;have hl:vs.length=G.length:=I.length;have M:=m.bind hw vs;rw[hl]at M;have hev:(T.ofList (vars G l.nv)).evs (u++vs) f=vs:=by
   rw[Da,<-m.nv];have:=Is (β:=f) G vs u [] I;simp_all
  have hrun:=NU (P:=P) (w:=w) (ρ:=u++vs) (β:=f) (b:=q) (by grind) F;obtain⟨p',S⟩:=HR (ρ:=u) (β:=f) J;rw[S]at Z;simp only[AT]at Z;subst Z;refine Kq (v:=z.ev (u++vs) f) ?_ (hk _ _ _ ⟨_,rfl⟩ ⟨f,u++vs,V',(C.more _ _).putO _ _,M.putO hd z rfl,E⟩);grind[execOp,yQ,zd,zN,zP,zO]
 split at g;case isFalse=>exact g.elim
 rename_i J;split at g
 ·rename_i b i sz y e Y;obtain⟨U,hi⟩:=A Y;split at g
  ·rename_i G hks;split at g
   ·rename_i hlen;unfold bind at g;split at g
    ·rename_i hw;split at g
     ·rename_i z F;simp only[D]at g;obtain⟨vs,h1,h2,h3⟩:=g;have W:=Kr (ρ:=u) (β:=f) Y J;simp only at W;rw[(T.ev_free (β:=id) (β':=f) (ρ:=u) b U).1,(T.ev_free (β:=id) (β':=f) (ρ:=u) i hi).1]at h1;cases Z:AT (b.ev u f)with
      |none=>simp[Z,Mem.rowp]at h1
      |some q=>
       simp only[Z,Mem.rowp]at h1;obtain⟨_,h4⟩:=Iw m.frm.le h1;grind[Aa]
     ·exact g.elim
    ·exact g.elim
   ·exact g.elim
  ·exact g.elim
 ·rename_i b i sz y Y;obtain⟨U,hi⟩:=A Y;split at g
  ·rename_i G hks;unfold bind at g;split at g
   ·rename_i hw;split at g
    ·rename_i z F;simp only[D]at g;obtain⟨vs,h1,h2,h3⟩:=g;have W:=Kr (ρ:=u) (β:=f) Y J;simp only at W;rw[(T.ev_free (β:=id) (β':=f) (ρ:=u) b U).1,(T.ev_free (β:=id) (β':=f) (ρ:=u) i hi).1]at h1;cases Z:AT (b.ev u f)with
     |none=>simp[Z,Mem.rowp]at h1
     |some q=>
      simp only[Z,Mem.rowp]at h1;obtain⟨_,h4⟩:=Iw m.frm.le h1;rw[Z]at W;simp only[Aa,zL]at W;exact go _ G vs 0 z (by rw[W,yP]) J h2 hw h4 F h3
    ·exact g.elim
   ·exact g.elim
  ·exact g.elim
end
section
variable{P:Program}{R:Ending->Mem->Prop}{O V0:Mem}{w0:World}{N:Nat}{L:List (List Value->Mem->Prop)}{ρ0:List Value}{fs:List Nat}{H:CJ}
variable{a:Act}{w:World}{st:St}{o:Oper}{k:St->Tr}{next:Act->World->Prop}{Q:Exit->Act->World->Prop}
theorem NX{t:TypeId}{n g off:Nat}{v:Value}{vs:List Value}{cur:Array Value}{ty:TypeId}(u:CY P t=some n)(hv:v.cells.toList=vs)(z:vs.length=n)
  (h:w.heap[g]?=some (.cells cur ty (0,0))) (y:off+n<=cur.size) (h1:∀x∈vs,G8 x=true):
  (storeVar t ⟨g,off,none⟩ v).run P w=.ok () (w.setRow g (cur.toList.take off++vs++cur.toList.drop (off+n)).toArray):=by
 have f:v.cells.size=n:=by grind
 have:=run_storeCells_at (P:=P) g off ty vs 0 cur w h (by omega) (λx l=>by grind[oneCell_eq]);simp_all[storeVar,zN,E3,zO,ne_eq,not_true_eq_false,if_false]
theorem kinds_one{t:T}{ρ:List Value}{β:Nat->Nat}(h:(DH t).isSome=true):∀x∈t.evs ρ β,G8 x=true:=by
 obtain⟨g,f⟩:=yF.1 h;exact(NL (ρ:=ρ) (β:=β) t g f).one
theorem PI{t:TypeId}{x y:Operand}(hop:o.op=.store t x y)(M:o.dst=none)
  (h:Bg P R O V0 w0 N L ρ0 a.tmps w st (exStore st t (CY P t) x y k))
  (hk:∀A S w',(∃v,S=a.put o.dst v)->Bg P R O V0 w0 N L ρ0 S.tmps w' A (k A)->next S w'):o.wp P a w next Q:=by
 obtain⟨β,ρ,V,hp,F,Y⟩:=h;have W:∀v,(a.put o.dst v)=a:=by rw[M];intro v;rfl
 unfold exStore at Y;split at Y
 ·rename_i i u v n U hy hs;split at Y
  ·rename_i I ty B;split at Y
   ·rename_i hc;obtain⟨h1,h2,h3,h4⟩:=hc;have hB:=(F.boxes i I ty B).1;have e1:a.eval x=.pointer (some ⟨β i,u,none⟩):=Bx F U;have e2:a.eval y=v.ev ρ β:=Bx F hy;have f:=Kj (ρ:=ρ) (β:=β) h3;have m:(v.cellsT.evs ρ β).length=n:=by grind[DR]
    have J:=NX (P:=P) hs f m hB (by rw[yR,DR];simpa using h2) (kinds_one h3);have e3:((I.evs ρ β).toArray.toList.take u++v.cellsT.evs ρ β++(I.evs ρ β).toArray.toList.drop (u+n))=(T.ofList (I.toList.take u++v.cellsT.toList++I.toList.drop (u+n))).evs ρ β:=by
     rw[Da];simp[DR,List.map_take,List.map_drop]
    rw[e3]at J;refine LY (w':=w.setRow (β i) ((T.ofList (I.toList.take u++v.cellsT.toList++I.toList.drop (u+n))).evs ρ β).toArray) ?_ (hk _ _ _ ⟨_,rfl⟩ ⟨β,ρ,V,hp.setBox _ _ _,?_,Y⟩);·grind[execOp,yS,zd,zN,zP,zO]
    ·rw[W];exact F.setBox B
   ·exact Y.elim
  ·exact Y.elim
 ·rename_i n _ _ _ hs;obtain⟨A,q,C,l,g,z,V',hp',G,Z⟩:=ER _ _ _ _ ⟨β,ρ,V,hp,F,Y⟩;split at C
  ·rename_i p v U hy;simp only[zG]at C;subst C;simp only at Z;split at Z
   ·rename_i hc;obtain⟨h1,h2,h3,h4⟩:=hc;simp only[T.firstBox,zE]at l;simp only[D]at Z;obtain⟨b,c,ty,E,g2,g3,g4,g5⟩:=Z;rw[(T.ev_free (β:=id) (β':=g) (ρ:=z) p l.1).1]at E;rw[(T.ev_free (β:=id) (β':=g) (ρ:=z) _ l.2).2]at g4 g5;obtain⟨p',X⟩:=HR (ρ:=z) (β:=g) h1;rw[X]at E;simp only[AT]at E;subst E;have e1:a.eval x=.pointer (some b):=(Bx G U).trans X;have e2:a.eval y=v.ev z g:=Bx G hy;have f:=Kj (ρ:=z) (β:=g) h3;have m:(v.cellsT.evs z g).length=n:=by grind[DR]
    have B:b=⟨b.block,b.off,none⟩:=by cases b;simp_all
    have hB:=G.frm.le _ _ g2;simp only[Nat.add_zero,m]at g4 g5;have J:=NX (P:=P) (off:=b.off) hs f m hB g4 (kinds_one h3);rw[<-B]at J;refine LY (w':=w.setRow b.block (c.toList.take b.off++v.cellsT.evs z g++c.toList.drop (b.off+n)).toArray) ?_ (hk _ _ _ ⟨_,rfl⟩ ⟨g,z,_,hp',?_,g5⟩);·grind[execOp,yS,zd,zN,zP,zO]
    ·rw[W];refine G.frame ⟨by rw[NQ];omega,λi obj K=>?_,λi K hV=>?_,λi K=>?_,rfl,rfl⟩
     ·by_cases e:i=b.block;·grind[Mem.set_same,setRow_heap]
      ·rw[Mem.set_ne e]at K;rw[setRow_other w _ _ e];exact G.frm.le i obj K
     ·grind[setRow_other]
     grind[Mem.set_ne]
   ·exact Z.elim
  ·simp at C
 ·exact Y.elim
theorem LZ{cs:T}{ty:Nat}{v:Nat->T}{x:Nat->Value}(Z:Ei N o.dst=true)
  {β:Nat->Nat} {ρ:List Value} {V:Mem} (J:B9 ρ0 L ρ st) (Y:Rel O V0 w0 N β st ρ V a.tmps w) (g:D P R (Ij H st o.dst cs ty v k) L ρ V)
  (y:(execOp a.eval o).run P w=.ok (.value (x w.heap.size)) (w.alloc (.cells (cs.evs ρ β).toArray ty (0,0))))
  (hv:∀l:Nat->Nat,(v st.nb).ev ρ l=x (l st.nb))
  (G:∀f m w',(∃v,m=a.put o.dst v)->Bg P R O V0 w0 N L ρ0 m.tmps w' f (k f)->next m w'):o.wp P a w next Q:=by
 unfold Ij at g;split at g
 ·rename_i hw;simp only[zC]at hw;have q:=Y.alloc hw.1 hw.2 ty;have W:x w.heap.size=(v st.nb).ev ρ (upd β st.nb w.heap.size):=by rw[hv];simp[upd]
  have u:B9 ρ0 L ρ (({st with boxes:=(st.nb,cs,ty)::st.boxes,nb:=st.nb+1}:St).putO o.dst (v st.nb)):=
   B9.putO (st:={st with boxes:=(st.nb,cs,ty)::st.boxes,nb:=st.nb+1}) ⟨J.1,J.2⟩ _ _
  have z:=q.putO Z (v st.nb) W;refine Kq y ?_;simp only at g;split at g
  ·rename_i d h;split at g
   ·obtain⟨f,A⟩:=Jr _ _ _ _ ⟨_,_,_,u,z,by simpa [h]using g⟩;grind
   ·exact G _ _ _ ⟨_,rfl⟩ ⟨_,_,_,u,z,by omega⟩
  ·rename_i h;exact G _ _ _ ⟨_,rfl⟩ ⟨_,_,_,u,z,by omega⟩
 ·exact g.elim
theorem Ks{t:TypeId}{cs:List T}{ρ:List Value}{β:Nat->Nat}(h:FE P t=some cs):∃z,E2 P t=some z/\z.cells.toList=cs.map (·.ev ρ β):=by
 unfold FE at h;cases g:E2 P t with
 |none=>simp[g]at h
 |some z=>simp only[g,zM]at h;exact⟨z,rfl,(Jm h).symm⟩
theorem mod_cells(zs:List Value)(m:Nat)(h:zs.length=m+1):∀n,(Array.range (n*(m+1))).map (λi=>(zs.toArray[i % zs.toArray.size]!))=(yT n zs).flatten.toArray:=by
 intro n;apply yL;simp only[zc,Array.toList_range,yR,h];apply List.ext_getElem?;intro i;rw[List.getElem?_map];induction n generalizing i with
 |zero=>simp
 |succ n g=>
  by_cases u:i<n*(m+1)
  ·have h1:=g i;have e:(yT (n+1) zs).flatten=(yT n zs).flatten++zs:=by
    rw[show n+1=n+1 from rfl,yU,yV];simp
   grind
  ·have e:(yT (n+1) zs).flatten=(yT n zs).flatten++zs:=by
    rw[show n+1=n+1 from rfl,yU,yV];simp
   have f:((yT n zs).flatten).length=n*(m+1):=by simp[h]
   rw[e,yW (by omega),f];by_cases h2:i<(n+1)*(m+1)
   ·have h3:i-n*(m+1)<m+1:=by grind
    have h4:i % (m+1)=i-n*(m+1):=by
     have:i=(i-n*(m+1))+n*(m+1):=by omega
     rw[this,Nat.add_mul_mod_self_right,Nat.mod_eq_of_lt h3];omega
    simp_all
   grind
end
section
variable{P:Program}{R:Ending->Mem->Prop}{O V0:Mem}{w0:World}{N:Nat}{L:List (List Value->Mem->Prop)}{ρ0:List Value}{fs:List Nat}{H:CJ}
theorem PJ{a:Act}{w:World}{st:St}{o:Oper}{x:Operand}{next:Act->World->Prop}{Q:Exit->Act->World->Prop}(m:F7 R V0 w0 a.defers Q)(u:o.op=.panic x)
  (h:Bg P R O V0 w0 N L ρ0 a.tmps w st (exPanic st x)):o.wp P a w next Q:=by
 obtain⟨q,t,J,g,β,ρ,V,Y,z,y⟩:=ER _ _ _ _ h;simp only[D]at y;obtain⟨ty,v,l,G⟩:=y;rw[(T.ev_free (β:=id) (β':=β) (ρ:=ρ) t g).1]at l;have Z:a.eval x=.iface ty v:=(Bx z J).trans l;have f:(execOp a.eval o).run P w=.halt (.panic (.iface ty v)) w:=by
  unfold execOp;simp only[u,Z];rfl
 unfold yN;rw[f];exact m _ a w rfl ⟨V,G,z.frm⟩
theorem NY(J:Ez P fs){a:Act}{w:World}{st:St}{o:Oper}{k:St->Tr}{next:Act->World->Prop}{Q:Exit->Act->World->Prop}(T:F7 R V0 w0 a.defers Q)
  (h:Bg P R O V0 w0 H.N L ρ0 a.tmps w st (exOp P fs H st o k))
  (G:∀W X w',(∃v,X=a.put o.dst v)->Bg P R O V0 w0 H.N L ρ0 X.tmps w' W (k W)->next X w'):o.wp P a w next Q:=by
 obtain⟨β,ρ,V,q,m,g⟩:=h;unfold exOp at g;split at g;case isFalse=>exact g.elim
 rename_i Y;split at g
 ·rename_i ns t B;obtain⟨h1,h2⟩:=LX g β;exact Kq (LQ m B h1) (G _ _ _ ⟨_,rfl⟩ ⟨β,ρ,V,q.putO _ _,m.putO Y t rfl,h2⟩)
 ·split at g
  ·rename_i e x u;split at g
   ·rename_i v hx;split at g
    ·rename_i C;have Z:=Kj (ρ:=ρ) (β:=β) C;refine LZ (x:=λb=>.pointer (some ⟨b,0,none⟩)) Y q m g ?_ (λ_=>rfl) G;unfold execOp;simp only[u,Instr.box,newVar,newRow,zN,run_newObj,zP,zO,Bx m hx,<-Z,yX];rfl
    ·exact g.elim
   ·exact g.elim
  ·rename_i e u;split at g
   ·rename_i cs D;obtain⟨z,h1,h2⟩:=Ks (ρ:=ρ) (β:=β) D;refine LZ (x:=λb=>.pointer (some ⟨b,0,none⟩)) Y q m g ?_ (λ_=>rfl) G;unfold execOp;simp only[u,Instr.alloc,Jo h1,newVar,newRow,zN,run_newObj,zP,zO,Da,<-h2,yX];rfl
   ·exact g.elim
  ·rename_i t n parts u;split at g
   ·rename_i e hu;split at g
    ·rename_i sz z ps U D E;split at g
     ·rename_i cs hf;split at g
      ·rename_i hc;obtain⟨zv,h1,h2⟩:=Ks (ρ:=ρ) (β:=β) D;have h3:=Kk (ρ:=ρ) (β:=β) hf;refine LZ (x:=λb=>.slice (some ⟨b,0,none⟩) n n) Y q m g ?_ (λβ'=>by rfl) G;have A:(parts.map λ(i,x)=>(i,a.eval x)).toList=ps.map (λx=>(x.1,x.2.ev ρ β)):=by rw[<-Kl m E,zc]
       unfold execOp;have l:¬n*(sz+1)>2^24:=by omega
       have K:zv.cells=(z.map (·.ev ρ β)).toArray:=by grind
       have I:(yT n z).flatten.map (·.ev ρ β)=(yT n (z.map (·.ev ρ β))).flatten:=by simp_all
       rw[I]at h3;have M:=mod_cells (z.map (·.ev ρ β)) sz (by simpa using hc.2) n;by_cases h0:n*(sz+1)=0
       ·obtain rfl:n=0:=by grind
        simp only[List.replicate_zero,List.flatten_nil]at h3;have e0:Array.range (0*(sz+1))=#[]:=by simp
        simp only[u,yY,run_underlying hu,E3 U,zN,zO,A,if_neg l,if_pos h0,zP,e0,Array.map_empty,h3];simp[Da,newRow]
       ·simp only[u,yY,run_underlying hu,E3 U,zN,zO,A,if_neg l,if_neg h0,Jo h1,zP,K,M,h3];simp[Da,newRow]
      ·exact g.elim
     ·exact g.elim
    ·exact g.elim
   ·exact g.elim
  ·rename_i t x u;exact exLoad_sound u Y ⟨β,ρ,V,q,m,g⟩ G
  ·rename_i t x y u;split at g
   ·rename_i F;exact PI u F ⟨β,ρ,V,q,m,g⟩ G
   ·exact g.elim
  ·rename_i c u;split at g
   ·rename_i f S;exact exCall_sound J T u S Y ⟨β,ρ,V,q,m,g⟩ G
   ·exact NW Y ⟨β,ρ,V,q,m,g⟩ G
   ·exact g.elim
  ·rename_i x u;exact PJ T u ⟨β,ρ,V,q,m,g⟩
  ·exact NW Y ⟨β,ρ,V,q,m,g⟩ G
theorem Rel.getD_size{O V0:Mem}{w0:World}{N:Nat}{β:Nat->Nat}{st:St}{ρ:List Value}{V:Mem}{tmps:Array Value}{w:World}(h:Rel O V0 w0 N β st ρ V tmps w){d:Nat}{t:T}(g:st.get d=some t):
  tmps.getD d undef=t.ev ρ β:=h.slots d t g
theorem L4{all:Array Oper}{tmps:Array Value}{j d:Nat}(g:(all[j]?).bind (·.dst)=some d):yielded all tmps j=match tmps.getD d undef with|.bool b=>some b|_=>none:=by
 unfold yielded;rw[g];by_cases h:d<tmps.size
 ·simp only[zM,yZ,h,dif_pos,getElem?_pos];show _=match tmps[d]with|.bool b=>some b|_=>none
  grind
 ·simp only[zM,yZ,h,dif_neg,not_false_eq_true];rw[getElem?_neg tmps d h];rfl
theorem Js(f:Ez P fs){all:Array Oper}{k:St->Tr}{Q:Exit->Act->World->Prop}:∀(l:List Oper)(st:St)(a:Act)(w:World),
  F7 R V0 w0 a.defers Q->Bg P R O V0 w0 H.N L ρ0 a.tmps w st (GC P fs H all l st k)->
  (∀q Y w',Y.defers=a.defers->Bg P R O V0 w0 H.N L ρ0 Y.tmps w' q (k q)->Q .normal Y w')->wpList P all Q l a w
 |[],st,a,w,_,⟨β,ρ,V,y,x,u⟩,X=>X _ a w rfl ⟨β,ρ,V,y.compact _,x.compact _,u⟩
 |o::rest,st,a,w,E,h,X=>by
  have J:∀st,yz o (yielded all a.tmps)=true->Bg P R O V0 w0 H.N L ρ0 a.tmps w st (exOp P fs H st o λst=>GC P fs H all rest st k)->wpList P all Q (o::rest) a w:=by
   intro st hw A;unfold wpList;rw[if_pos hw];refine .inl (NY f E A λq Y w' K S=>?_);have I:Y.defers=a.defers:=by obtain⟨v,rfl⟩:=K;exact Fk _ _ _
   exact Js f rest q Y w' (by rw[I];exact E) S λm G Z h1 h2=>X m G Z (h1.trans I) h2
  have B:∀st,yz o (yielded all a.tmps)=false->Bg P R O V0 w0 H.N L ρ0 a.tmps w st (if Ei H.N o.dst then GC P fs H all rest (st.putO o.dst .und) k else .bad 35 0)->wpList P all Q (o::rest) a w:=by
   intro st hw A;unfold wpList;rw[if_neg (by rw[hw];simp)];obtain⟨β,ρ,V,y,x,u⟩:=A;split at u
   ·rename_i hd;refine Js f rest _ _ w (by rw[Fk];exact E) ⟨β,ρ,V,y.putO _ _,x.putO hd .und rfl,u⟩ λm G Z h1 h2=>X m G Z (h1.trans (Fk _ _ _)) h2
   ·exact u.elim
  simp only[GC]at h;split at h;·grind[yz]
  ·rename_i j M A;split at h;·obtain⟨β,ρ,V,y,x,u⟩:=h;exact u.elim
   ·rename_i d hj;have W:=L4 (tmps:=a.tmps) hj;have U:yz o (yielded all a.tmps)=(yielded all a.tmps j==some M):=by simp[yz,A]
    obtain⟨β,ρ,V,y,x,u⟩:=h;split at u
    ·rename_i v hv;rw[x.getD_size hv]at W;simp only[T.ev]at W;split at u;·rename_i e;subst e;exact J st (by simp_all) ⟨β,ρ,V,y,x,u⟩
     ·rename_i e;exact B st (by simp_all) ⟨β,ρ,V,y,x,u⟩
    ·rename_i hv;rw[x.getD_size hv]at W;have:yielded all a.tmps j=none:=by rw[W];rfl
     exact B st (by grind) ⟨β,ρ,V,y,x,u⟩
    ·rename_i c _ _ hv;split at u
     ·rename_i hc;obtain⟨hc1,hc2,hc3⟩:=hc;obtain⟨b,C⟩:=GF (ρ:=ρ) (β:=β) hc1;rw[x.getD_size hv,C]at W;simp only at W;simp only[D]at u;have F:=(T.ev_free (β:=id) (β':=β) (ρ:=ρ) c hc2).1;have g:Rel O V0 w0 H.N β (st.now d (.bool b)) ρ V a.tmps w:=x.now hv (by rw[C];rfl);cases b with
      |true=>
       have z:=u.1 (by rw[F,C];rfl);split at z;·rename_i e;exact J _ (by simp_all) ⟨β,ρ,V,y.now _ _,g,z⟩
       ·rename_i e;exact B _ (by simp_all) ⟨β,ρ,V,y.now _ _,g,z⟩
      |false=>
       have z:=u.2 (by rw[F,C];rfl);split at z;·rename_i e;exact B _ (by simp_all) ⟨β,ρ,V,y.now _ _,g,z⟩
       ·rename_i e;exact J _ (by simp_all) ⟨β,ρ,V,y.now _ _,g,z⟩
     ·exact u.elim
    ·exact u.elim
end
section
variable{P:Program}{R:Ending->Mem->Prop}{O V0:Mem}{w0:World}{N:Nat}{β:Nat->Nat}{ρ:List Value}{V:Mem}{w:World}{tmps:Array Value}
theorem NZ{ρ:List Value}{β:Nat->Nat}{t:T}{ks:List K}(h:DH t=some ks):Shaped ks (t.toList.map (·.ev ρ β)):=by
 rw[<-DR];exact NL t ks h
theorem Kt:∀(ws:List Nat)(h:St)(f:List Value),f.length=h.nv->∀(z:St)(g:List Value)(β:Nat->Nat)(ts:List T),Ip z (CN ws h).2=some ts->
  (∀s t,z.get s=some t->tmps.getD s undef=t.ev g β)->
  Shaped ((CN ws h).2.flatMap (·.2.2)) (ts.map (·.ev g β))/\(CN ws h).1.nv=h.nv+ts.length/\
  (CN ws h).1.boxes=h.boxes/\(CN ws h).1.nb=h.nb/\(CN ws h).1.depth=h.depth/\
  ∀s t,(CN ws h).1.get s=some t->(s∉ws/\h.get s=some t)∨(s∈ws/\tmps.getD s undef=t.ev (f++ts.map (·.ev g β)) β)
 |[],h,f,h1,z,g,β,ts,u,v=>by
  simp only[CN,Ip,zG]at u;subst u;exact⟨trivial,by simp[CN],rfl,rfl,rfl,λs t Y=>.inl ⟨by simp,Y⟩⟩
 |W::ws,h,f,h1,z,g,β,ts,u,v=>by
  cases hm:((h.get W).bind λt=>(genKinds t).map λl=>(GA t,l))with
  |some p=>
   obtain⟨b,l⟩:=p;simp only[CN,hm]at u⊢;simp only[Ip]at u;split at u
   ·rename_i x J X B;split at u
    ·rename_i U;obtain⟨C,D⟩:=U;simp only[zG]at u;subst u;have y:Shaped l (x.cellsT.toList.map (·.ev g β)):=NZ D;have G:(x.cellsT.toList.map (·.ev g β)).length=l.length:=y.length;obtain⟨A,E,I,M,F,K⟩:=Kt ws ({h with nv:=h.nv+l.length}.put W (genTerm b l h.nv)) (f++x.cellsT.toList.map (·.ev g β)) (by simp only[zI,G,h1];rfl) z g β J B v;refine⟨?_,?_,I,M,F,λs t Y=>?_⟩;·rw[yy];exact Kg y A
     ·grind[St.put]
     ·rcases K s t Y with⟨S,m⟩|⟨S,m⟩
      ·rw[Km]at m;split at m
       ·rename_i e;subst e;right;refine⟨yA,?_⟩;split at m;·simp at m
        ·simp only[zG]at m;subst m;rw[v s x X];have hv:=Is (β:=β) l (x.cellsT.toList.map (·.ev g β)) f (J.map (·.ev g β)) y;rw[h1]at hv;rw[yy,<-zJ];unfold genTerm;cases b with
         |true=>
          simp only[if_true,T.ev,Da,hv];cases x<;>simp[GA]at C;simp[T.ev,T.cellsT,DR]
         |false=>
          simp only[zQ,if_false];have q:x.cellsT=.cons x .nil:=by cases x<;>simp_all[GA,T.cellsT]
          rw[q]at hv y;simp only[T.toList,zH,List.map_nil]at hv y
          match l,y,hv with
          |[k],y,hv=>
           grind[vars,T.toList]
       ·rename_i e;exact .inl ⟨by simp[e,S],m⟩
      simp_all
    ·simp at u
   ·simp at u
  |none=>
   simp only[CN,hm]at u⊢;cases Z:h.get W with
   |none=>
    simp only[Z]at u⊢;obtain⟨A,E,I,M,F,K⟩:=Kt ws h f h1 z g β ts u v;grind
   |some t0=>
   simp only[Z]at u⊢;obtain⟨A,E,I,M,F,K⟩:=Kt ws (h.put W .nil) f h1 z g β ts u v;refine⟨A,E,I,M,F,λs t Y=>?_⟩;grind[Km,inr,yB]
theorem N0(st:St)(i j:Nat)(cs:T)(ty:Nat):(st.setBox i cs ty).box j=if j=i then some (cs,ty)else st.box j:=by
 grind[St.box,St.setBox]
theorem N1:∀(hint:List Nat)(st:St)(y:List Value),y.length=st.nv->∀(f:St)(bs:List (Nat×Nat×List K)),Io hint st=some (f,bs)->∀(x:St)(g:List Value)(β:Nat->Nat)(ts:List T),Iq x bs=some ts->
  Shaped (bs.flatMap (·.2.2)) (ts.map (·.ev g β))/\f.nv=st.nv+ts.length/\f.slots=st.slots/\f.nb=st.nb/\f.depth=st.depth/\
  (∀i,i∈bs.map (·.1)->(st.box i).isSome=true)/\
  ∀i cs ty,f.box i=some (cs,ty)->(i∉bs.map (·.1)/\st.box i=some (cs,ty))∨(i∈bs.map (·.1)/\∃u,x.box i=some (u,ty)/\∀σ,cs.evs (y++ts.map (·.ev g β)++σ) β=u.evs g β)
 |[],st,y,h1,f,bs,z,x,g,β,ts,l=>by
  simp only[Io,zG,zY]at z;obtain⟨rfl,rfl⟩:=z;simp only[Iq,zG]at l;subst l;exact⟨trivial,by simp,rfl,rfl,rfl,by simp,λi cs ty h=>.inl ⟨by simp,h⟩⟩
 |s::hint,st,y,h1,f,bs,z,x,g,β,ts,l=>by
  simp only[Io]at z;split at z
  ·rename_i i F hs;split at z
   ·rename_i cs ty J;split at z
    ·rename_i M X;simp only[Option.map_eq_some_iff,zY]at z;obtain⟨⟨r1,r2⟩,B,rfl,rfl⟩:=z;simp only[Iq]at l;split at l
     ·rename_i u C G D Z;split at l
      ·rename_i E;obtain⟨rfl,Y⟩:=E;simp only[zG]at l;subst l;have W:Shaped M (u.toList.map (·.ev g β)):=NZ Y;have v:(u.toList.map (·.ev g β)).length=M.length:=W.length;obtain⟨g1,g2,S,U,g5,g7,g6⟩:=N1 hint _ (y++u.toList.map (·.ev g β)) (by simp only[zI,v,h1];rfl) _ _ B x g β G Z;refine⟨?_,?_,S,U,g5,λj m=>?_,λj A I m=>?_⟩;·grind[Kg]
       ·grind[St.setBox]
       ·simp only[zH,yH]at m;rcases m with rfl|m;·simp[J]
        ·have:=g7 j m;rw[N0]at this;by_cases e:j=i;·grind
         ·rw[if_neg e]at this;exact this
       ·rcases g6 j A I m with⟨e1,q⟩|⟨e1,cs2,q,e3⟩
        ·rw[N0]at q;split at q
         ·rename_i e;subst e;simp only[zG,zY]at q;obtain⟨rfl,rfl⟩:=q;grind[inr,Is,Da,DR,zJ]
         ·rename_i e;exact .inl ⟨by simp_all,q⟩
        simp_all
      ·simp at l
     ·simp at l
    ·simp at z
   ·simp at z
  ·simp at z
theorem PK{st:St}{bs:List (Nat×Nat×List K)}{g:List (Nat×Bool×List K)}{t:T}(h:Jk st bs g=some t):
  ∃l m,Iq st bs=some l/\Ip st g=some m/\t=T.ofList (l++m)/\t.firstBox=none:=by
 unfold Jk at h;grind
theorem Ku{ws hint:List Nat}{st g f:St}{bs:List (Nat×Nat×List K)}{vs:T}{ρ':List Value}(hw:st.wf=true)(S:ρ.length=st.nv)(U:ρ<+:ρ')
  (hg:Io hint st=some (g,bs)) (Z:Jk f bs (CN ws g).2=some vs) (q:backOk {(CN ws g).1 with depth:=st.depth+1} f bs ws=true)
  (z:Rel O V0 w0 N β f ρ' V tmps w):
  Rel O V0 w0 N β {(CN ws g).1 with depth:=st.depth+1} (ρ++vs.evs ρ' id) V tmps w/\Shaped (bs.flatMap (·.2.2)++(CN ws g).2.flatMap (·.2.2)) (vs.evs ρ' id):=by
 obtain⟨l,m,h1,h2,rfl,h3⟩:=PK Z;rw[(T.ev_free (β:=id) (β':=β) (ρ:=ρ') _ h3).2,Da,yy];obtain⟨a1,a2,a3,B,a5,a6,a7⟩:=N1 hint st ρ S g bs hg f ρ' β l h1;obtain⟨b1,b2,b3,C,b5,b6⟩:=Kt (tmps:=tmps) ws g (ρ++l.map (·.ev ρ' β)) (by grind) f ρ' β m h2 z.slots;simp only[backOk,zC,yC,yx,decide_eq_true_eq]at q;have A:∀t:T,t.wf st.nv st.nb=true->t.ev ρ' β=t.ev (ρ++(l.map (·.ev ρ' β)++m.map (·.ev ρ' β))) β/\t.evs ρ' β=t.evs (ρ++(l.map (·.ev ρ' β)++m.map (·.ev ρ' β))) β:=by
  refine T.ev_congr (λi y=>?_) (λ_ _=>rfl);obtain⟨σ,rfl⟩:=U;grind
 have v:∀s,g.get s=st.get s:=λs=>by unfold St.get;rw[a3]
 have J:∀i,St.box {(CN ws g).1 with depth:=st.depth+1} i=g.box i:=λi=>by grind[St.box]
 have u:∀i,(St.box {(CN ws g).1 with depth:=st.depth+1} i).isSome=true->(f.box i).isSome=true:=by
  intro i y;obtain⟨⟨Y,ty⟩,I⟩:=yF.1 y;rcases q.2 _ (LR I)with h|h;·grind
  grind
 refine⟨
 {nv:=?_
  size:=z.size
  slots:=λs t D=>?_
  frm:=z.frm
  boxes:=λi Y ty y=>?_
  hid:=λb o Z=>⟨(z.hid b o Z).1,(z.hid b o Z).2.1,(z.hid b o Z).2.2.1,λi y=>(z.hid b o Z).2.2.2 i (u i y)⟩
  inj:=λi j y hj=>z.inj i j (u i y) (u j hj)},Kg a1 b1⟩
 ·grind
 ·rcases b6 s t D with⟨M,G⟩|⟨_,G⟩
  ·have W:f.get s=some t:=by
    rcases q.1 _ (lookup_mem (Iu D))with h|h;·simp_all
    grind
   rw[v]at G;rw[z.slots s t W];grind[wf_get]
  simp_all
 ·rw[J]at y;rcases a7 i Y ty y with⟨M,G⟩|⟨M,cs',G,W⟩
  ·have W:f.box i=some (Y,ty):=by
    grind[St.box,CN,absurd]
   obtain⟨F,X,c3,_⟩:=z.boxes i Y ty W;rw[<-(A Y (HS hw G).2).2];exact⟨F,X,c3,by simp only[C,B];exact(HS hw G).1⟩
  ·obtain⟨F,X,c3,_⟩:=z.boxes i cs' ty G;have E:=W (m.map (·.ev ρ' β));rw[zJ]at E;rw[E];obtain⟨x,I⟩:=yF.1 (a6 i M);exact⟨F,X,c3,by simp only[C,B];exact(HS hw I).1⟩
end
def Jt(acc:List Nat)(o:Oper):Nat:=o.after.toList.foldl (λs e=>if yw .any e then s|||(1<<<e.on)|||acc.getD e.on 0 else s) 0
theorem N3:∀(os:List Oper)(acc:List Nat),(∃g,CB os acc=acc++g/\g.length=os.length)/\
  ∀k o,os[k]?=some o->(CB os acc).getD (acc.length+k) 0=Jt ((CB os acc).take (acc.length+k)) o
 |[],acc=>⟨⟨[],by simp[CB]⟩,λk o h=>by simp at h⟩
 |o::os,acc=>by
  have e:CB (o::os) acc=CB os (acc++[Jt acc o]):=rfl;obtain⟨⟨g,h1,h2⟩,h3⟩:=N3 os (acc++[Jt acc o]);rw[e];refine⟨⟨Jt acc o::g,by rw[h1];simp,by simp[h2]⟩,λk f h=>?_⟩;cases k with
  |zero=>
   simp_all
  |succ k=>
   have:=h3 k f (by simpa using h);simp only[zI,yI]at this;grind
theorem fold_bits(acc:List Nat):∀(es:List Edge)(s j:Nat),(es.foldl (λs e=>if yw .any e then s|||(1<<<e.on)|||acc.getD e.on 0 else s) s).testBit j=true->
  s.testBit j=true∨∃e∈es,yw .any e=true/\(j=e.on∨(acc.getD e.on 0).testBit j=true)
 |[],s,j,h=>.inl h
 |e::es,s,j,h=>by
  simp only[List.foldl_cons]at h;rcases fold_bits acc es _ j h with h1|⟨e',h2,h3⟩
  ·by_cases g:yw .any e=true
   ·rw[if_pos g]at h1;simp only[Nat.testBit_or,yx]at h1;rcases h1 with(h1|h1)|h1;·exact .inl h1
    ·right;refine⟨e,yA,g,.inl ?_⟩;rw[Nat.testBit_shiftLeft]at h1;simp only[zC,decide_eq_true_eq]at h1;have h4:=h1.2;rcases Nat.eq_or_lt_of_le h1.1 with f|f;·exact f.symm
     ·have:(1:Nat).testBit (j-e.on)=false:=by
       obtain⟨m,hm⟩:∃m,j-e.on=m+1:=⟨j-e.on-1,by omega⟩;rw[hm,Nat.testBit_succ];simp
      rw[this]at h4;cases h4
    ·exact .inr ⟨e,yA,g,.inr h1⟩
   ·rw[if_neg g]at h1;exact .inl h1
  ·exact .inr ⟨e',yB _ h2,h3⟩
def Ju(all:Array Oper)(listed:Array Bool):Prop:=∀j oj,all[j]?=some oj->listed.getD j false=true->∀e∈oj.after,yw .any e=true->listed.getD e.on false=true
def Kv(all:Array Oper):Prop:=∀i o,all[i]?=some o->∀e∈o.after,yw .any e=true->e.on<i
theorem mask_listed{all:Array Oper}(l:Kv all){listed:Array Bool}(m:Ju all listed):∀(i:Nat)(o:Oper),all[i]?=some o->
  (∀e∈o.after,yw .any e=true->listed.getD e.on false=true)->∀j,(CZ (CB all.toList []) i).testBit j=true->listed.getD j false=true:=by
 intro i;induction i using yv with
 |_ i q=>
  intro o y v j z;have h1:=(N3 all.toList []).2 i o (by simpa using y);simp only[List.length_nil,Nat.zero_add]at h1;unfold CZ at z;rw[h1]at z;unfold Jt at z;rcases fold_bits _ _ _ _ z with h2|⟨e,h2,h3,h4⟩;·simp at h2
  ·have h:e∈o.after:=by simpa using h2
   have g:=l i o y e h h3;have x:=v e h h3;rcases h4 with rfl|h4;·exact x
   ·have f:((CB all.toList []).take i).getD e.on 0=(CB all.toList []).getD e.on 0:=by
     simp[List.getD,g]
    rw[f]at h4;have J:i<all.size:=(yE.1 y).1;have u:all[e.on]?=some (all[e.on]'(by omega)):=yu _;exact q e.on g _ u (m e.on _ u x) j h4
theorem Kw:∀{l:List Nat},Im l=true->l.Nodup
 |[],_=>List.nodup_nil
 |x::xs,h=>by
  simp only[Im,zC,zz]at h;exact yr.2 ⟨by simpa using h.1,Kw h.2⟩
structure Do (w w':World):Prop where
 heap:∀(b:Nat)(o:Obj),w.heap[b]?=some o->w'.heap[b]?=some o
 size:w.heap.size<=w'.heap.size
 os:w'.os=w.os
 out:w'.output=w.output
theorem Do.refl(w:World):Do w w:=⟨λ_ _ h=>h,yq _,rfl,rfl⟩
theorem Do.trans{a b c:World}(h:Do a b)(k:Do b c):Do a c:=⟨λi o g=>k.heap i o (h.heap i o g),Nat.le_trans h.size k.size,k.os.trans h.os,k.out.trans h.out⟩
theorem Do.alloc(w:World)(o:Obj):Do w (w.alloc o):=
 ⟨λb g h=>(Jq w o (yE.1 h).1).trans h,by simp_all,rfl,rfl⟩
section
variable{P:Program}{O V0:Mem}{w0:World}{N:Nat}{β:Nat->Nat}{st:St}{ρ:List Value}{V:Mem}{w:World}{tmps:Array Value}
theorem Rel.ext(h:Rel O V0 w0 N β st ρ V tmps w){w':World}(e:Do w w'):Rel O V0 w0 N β st ρ V tmps w':=
 {h with
  frm:=
   {size:=Nat.le_trans h.frm.size e.size
    le:=λb o g=>e.heap b o (h.frm.le b o g)
    old:=λb g y=>by
     have h1:=h.frm.old b g y;rw[<-h1];have f:b<w.heap.size:=Nat.lt_of_lt_of_le g h.frm.size;exact(e.heap b _ (yu f)).trans (yu f).symm
    dom:=h.frm.dom
    os:=e.os.trans h.frm.os
    out:=e.out.trans h.frm.out}
  boxes:=λi u ty z=>⟨e.heap _ _ (h.boxes i u ty z).1,(h.boxes i u ty z).2⟩
  hid:=λb o g=>⟨e.heap _ _ (h.hid b o g).1,(h.hid b o g).2⟩}
theorem Rel.less(h:Rel O V0 w0 N β st ρ V tmps w){g:Mem}(f:∀b o,g b=some o->O b=some o):Rel g V0 w0 N β st ρ V tmps w:=
 {h with hid:=λb o u=>h.hid b o (f b o u)}
theorem Rel.orphan(h:Rel O V0 w0 N β st ρ V tmps w)(o:Obj):Rel (O.set w.heap.size o) V0 w0 N β st ρ V tmps (w.alloc o):=
 {h.ext (Do.alloc w o)with
  hid:=λb f g=>by
   by_cases e:b=w.heap.size
   ·subst e;rw[Mem.set_same]at g;cases g;refine⟨NP w o,le_none h.frm.le (yq _),h.frm.size,λi u=>?_⟩;obtain⟨x,z⟩:=yF.1 u;have:=(h.boxes i x.1 x.2 z).1;grind
   ·rw[Mem.set_ne e]at g;exact(h.ext (Do.alloc w o)).hid b f g}
theorem Rel.adopt(h:Rel O V0 w0 N β st ρ V tmps w)(hw:st.wf=true){cs:T}(X:cs.wf st.nv st.nb=true){ty b:Nat}(A:O b=some (.cells (cs.evs ρ β).toArray ty (0,0))):
  Rel (λc=>if c=b then none else O c) V0 w0 N (upd β st.nb b) {st with boxes:=(st.nb,cs,ty)::st.boxes,nb:=st.nb+1} ρ V tmps w:=by
 have m:∀t:T,t.wf st.nv st.nb=true->t.ev ρ β=t.ev ρ (upd β st.nb b)/\t.evs ρ β=t.evs ρ (upd β st.nb b):=
  T.ev_congr (λ_ _=>rfl) (λi l=>by grind[upd])
 have g:∀(i:Nat)(x:T×Nat),St.box {st with boxes:=(st.nb,cs,ty)::st.boxes,nb:=st.nb+1} i=some x->(i=st.nb/\x=(cs,ty))∨(i≠st.nb/\st.box i=some x):=by
  grind[St.box,inr]
 obtain⟨B,C,D,E⟩:=h.hid b _ A;exact
 {nv:=h.nv
  size:=h.size
  slots:=λs t Y=>(h.slots s t Y).trans (m t (wf_get hw Y)).1
  frm:=h.frm
  boxes:=λi q v l=>by
   rcases g i _ l with⟨rfl,e⟩|⟨z,f⟩;·grind[upd]
   ·obtain⟨h1,h2,h3,h4⟩:=h.boxes i q v f;grind[upd,HS,Nat.lt_succ_of_lt]
  hid:=λc o J=>by
   split at J;·cases J
   ·rename_i z;obtain⟨I,k2,k3,K⟩:=h.hid c o J;refine⟨I,k2,k3,λi l=>?_⟩;obtain⟨x,G⟩:=yF.1 l;rcases g i x G with⟨rfl,_⟩|⟨u,f⟩;·grind[upd]
    grind[upd]
  inj:=λi j l M W=>by
   obtain⟨x,G⟩:=yF.1 l;obtain⟨y,F⟩:=yF.1 M;rcases g i x G with⟨rfl,_⟩|⟨z,f⟩<;>rcases g j y F with⟨rfl,_⟩|⟨u,Z⟩
   ·rfl
   ·grind[upd,absurd]
   ·grind[upd,absurd]
   ·simp only[upd,if_neg z,if_neg u]at W;exact h.inj i j (by simp[f]) (by simp[Z]) W}
end
section
variable{P:Program}{R:Ending->Mem->Prop}{O V0:Mem}{w0:World}{N:Nat}{L:List (List Value->Mem->Prop)}{ρ0:List Value}{fs:List Nat}{H:CJ}
variable{all:Array Oper}
def GI(P:Program)(all:Array Oper)(j:Nat)(h:Bool)(as:Act)(w:World):Prop:=
 ∃o d,all[j]?=some o/\o.dst=some d/\d<as.tmps.size/\yz o (yielded all as.tmps)=h/\
  (h=true->∀w',Do w w'->(execOp as.eval o).run P w'=.ok (.value (as.tmps.getD d undef)) w')/\(h=false->as.tmps.getD d undef=undef)
theorem GI.ext{j:Nat}{f:Bool}{as:Act}{w w':World}(h:GI P all j f as w)(e:Do w w'):GI P all j f as w':=by
 obtain⟨o,d,h1,h2,h3,h4,u,z⟩:=h;exact⟨o,d,h1,h2,h3,h4,λhw g y=>u hw g (e.trans y),z⟩
theorem F8{a:Act}{dst:Option Nat}{v:Value}{d:Nat}(h:dst≠some d):(a.put dst v).tmps.getD d undef=a.tmps.getD d undef:=by
 cases dst with
 |none=>rfl
 |some e=>
  simp_all[Act.put,yZ]
theorem GJ{a:Act}{v:Value}{d:Nat}(h:d<a.tmps.size):(a.put (some d) v).tmps.getD d undef=v:=by
 simp[Act.put,yZ,h]
theorem F9(a:Act)(dst:Option Nat)(v:Value):(a.put dst v).tmps.size=a.tmps.size:=by cases dst<;>simp[Act.put]
theorem noSel{all:Array Oper}(h:∀o,o∈all.toList->F0 o.op=false){j:Nat}{o:Oper}(g:all[j]?=some o):∀cs b,o.op≠.select cs b:=by
 grind[F0]
theorem GI.put(y:∀o,o∈all.toList->F0 o.op=false){j:Nat}{u:Bool}{as:Act}{w:World}(h:GI P all j u as w){dst:Option Nat}{v:Value}
  (z:∀o,all[j]?=some o->∀d',dst=some d'->d'∉o.looksAt all/\o.dst≠some d'):GI P all j u (as.put dst v) w:=by
 obtain⟨o,d,h1,h2,h3,h4,x,m⟩:=h;have g:∀d',dst=some d'->d'∉o.looksAt all:=λd' l=>(z o h1 d' l).1;have f:dst≠some d:=λe=>(z o h1 d e).2 h2;refine⟨o,d,h1,h2,by rw[F9];exact h3,?_,λhw w' e=>?_,λhw=>?_⟩;·grind[wanted_put]
 ·rw[execOp_put o (noSel y h1) as dst v g,F8 f];exact x hw w' e
 grind[F8]
theorem Kx{fl:List (Nat×Bool)}{dst:Option Nat}(h:HP all fl dst=true){j:Nat}{b:Bool}(g:(j,b)∈fl):∀o,all[j]?=some o->∀d',dst=some d'->d'∉o.looksAt all:=by
 intro o f d' u;have:=yC.1 h _ g;simp_all
theorem exLoad_run{a:Act}{w:World}{st:St}{o:Oper}{k:St->Tr}{t:TypeId}{x:Operand}(hop:o.op=.load t x)(hd:Ei N o.dst=true)
  (h:Bg P R O V0 w0 N L ρ0 a.tmps w st (Ik P st o.dst t x k)):
  ∃v y,(∀w',Do w w'->(execOp a.eval o).run P w'=.ok (.value v) w')/\Bg P R O V0 w0 N L ρ0 (a.put o.dst v).tmps w y (k y):=by
 obtain⟨β,ρ,V,hp,hr,hD⟩:=h;unfold Ik at hD;obtain⟨y,p,hg,F,f,u,V',X,G,g⟩:=ER _ _ _ _ ⟨β,ρ,V,hp,hr,hD⟩;have hx:a.eval x=p.ev u f:=Bx G hg;have A:∀{b i sz l e},HN p=(b,i,sz,l,e)->b.firstBox=none/\i.firstBox=none:=by
  intro b i sz l e Y;unfold HN at Y;grind[T.firstBox]
 have go:∀(q:Addr)(J:List K)(vs:List Value)(l:Nat)(z:T),AT (p.ev u f)=some (q.add l)->p.kind=some .p->Shaped J vs->y.wf=true->
   (∀w',Do w w'->∀j v,vs[j]?=some v->w'.cell? (q.add j)=some v)->Eh P t (T.ofList (vars J y.nv)) l=some z->D P R (k ((y.more J.length).putO o.dst z)) L (u++vs) V'->
   ∃v y,(∀w',Do w w'->(execOp a.eval o).run P w'=.ok (.value v) w')/\Bg P R O V0 w0 N L ρ0 (a.put o.dst v).tmps w y (k y):=by
  intro q J vs l z Z m I hw hc B C;have hl:vs.length=J.length:=I.length;have M:=G.bind hw vs;rw[hl]at M;have hev:(T.ofList (vars J y.nv)).evs (u++vs) f=vs:=by
   rw[Da,<-G.nv];have:=Is (β:=f) J vs u [] I;simp_all
  obtain⟨p',E⟩:=HR (ρ:=u) (β:=f) m;rw[E]at Z;simp only[AT]at Z;subst Z;refine⟨z.ev (u++vs) f,_,λw' e=>?_,f,u++vs,V',(X.more _ _).putO _ _,M.putO hd z rfl,C⟩;grind[NU,execOp,yQ,zd,zN,zP,zO]
 have S:∀w',Do w w'->V'.le w':=λw' e=>(G.ext e).frm.le;split at g;case isFalse=>exact g.elim
 rename_i m;split at g
 ·rename_i b i sz l e Y;obtain⟨U,hi⟩:=A Y;split at g
  ·rename_i J hks;split at g
   ·rename_i hlen;unfold bind at g;split at g
    ·rename_i hw;split at g
     ·rename_i z B;simp only[D]at g;obtain⟨vs,h1,h2,h3⟩:=g;have W:=Kr (ρ:=u) (β:=f) Y m;simp only at W;rw[(T.ev_free (β:=id) (β':=f) (ρ:=u) b U).1,(T.ev_free (β:=id) (β':=f) (ρ:=u) i hi).1]at h1;cases Z:AT (b.ev u f)with
      |none=>simp[Z,Mem.rowp]at h1
      |some q=>
       grind[Mem.rowp,Aa,Iw]
     ·exact g.elim
    ·exact g.elim
   ·exact g.elim
  ·exact g.elim
 ·rename_i b i sz l Y;obtain⟨U,hi⟩:=A Y;split at g
  ·rename_i J hks;unfold bind at g;split at g
   ·rename_i hw;split at g
    ·rename_i z B;simp only[D]at g;obtain⟨vs,h1,h2,h3⟩:=g;have W:=Kr (ρ:=u) (β:=f) Y m;simp only at W;rw[(T.ev_free (β:=id) (β':=f) (ρ:=u) b U).1,(T.ev_free (β:=id) (β':=f) (ρ:=u) i hi).1]at h1;cases Z:AT (b.ev u f)with
     |none=>simp[Z,Mem.rowp]at h1
     |some q=>
      simp only[Z,Mem.rowp]at h1;rw[Z]at W;simp only[Aa,zL]at W;exact go _ J vs 0 z (by rw[W,yP]) m h2 hw (λw' e=>(Iw (S w' e) h1).2) B h3
    ·exact g.elim
   ·exact g.elim
  ·exact g.elim
theorem Ky{as:Act}{w:World}{st:St}:∀{fl:List (Nat×Bool)}{t:Tr}{β:Nat->Nat}{ρ:List Value}{V:Mem},Rel O V0 w0 N β st ρ V as.tmps w->D P R (HO P all fl st t) L ρ V->
  D P R t L ρ V/\∀j,(j,true)∈fl->∃o d,all[j]?=some o/\o.dst=some d/\∀w',Do w w'->(execOp as.eval o).run P w'=.ok (.value (as.tmps.getD d undef)) w'
 |[],t,β,ρ,V,f,h=>⟨h,λj g=>by cases g⟩
 |(i,false)::fl,t,β,ρ,V,f,h=>by
  obtain⟨h1,h2⟩:=Ky (fl:=fl) f h;exact⟨h1,λj g=>h2 j (by simpa using g)⟩
 |(i,true)::fl,t,β,ρ,V,f,h=>by
  simp only[HO]at h;split at h;·exact h.elim
  ·rename_i o I;split at h
   ·rename_i ns x y v u;split at h
    ·rename_i e;subst e;obtain⟨z,Z⟩:=LX h β;obtain⟨h1,h2⟩:=Ky (fl:=fl) f Z;refine⟨h1,λj g=>?_⟩;rcases yH.1 g with e|g
     ·cases e;cases l:o.dst with
      |none=>simp[l]at u
      |some d=>
       simp only[l,zM]at u;refine⟨o,d,I,l,λw' Y=>?_⟩;rw[f.slots d _ u];exact LQ (f.ext Y) v z
     ·exact h2 j g
    ·exact h.elim
   ·rename_i y v u;split at h
    ·rename_i ty x C;split at h
     ·rename_i p n E K S J;split at h
      ·rename_i U;obtain⟨c1,c2,c3,c4,c5,c6,c7⟩:=U;simp only[D]at h;obtain⟨z,Z⟩:=h;obtain⟨h1,h2⟩:=Ky (fl:=fl) f Z;refine⟨h1,λj g=>?_⟩;rcases yH.1 g with e|g
       ·cases e;cases l:o.dst with
        |none=>simp[l]at u
        |some d=>
         simp only[l,zM]at u;refine⟨o,d,I,l,λw' Y=>?_⟩;rw[f.slots d _ u];have W:y.cellsT.firstBox=none:=by cases y<;>simp_all[T.cellsT,T.firstBox]
         rw[(T.ev_free (β:=id) (β':=β) (ρ:=ρ) p c2).1,(T.ev_free (β:=id) (β':=β) (ρ:=ρ) _ W).2]at z;obtain⟨q,M⟩:=HR (ρ:=ρ) (β:=β) c1;rw[M]at z;have hx:as.eval x=.pointer q:=(Bx f K).trans M;cases q with
         |none=>simp[AT,Mem.rowp]at z
         |some q=>
          simp only[AT,Mem.rowp,yP]at z;obtain⟨_,F⟩:=Iw (f.ext Y).frm.le z;have G:(y.cellsT.evs ρ β).length=n:=by grind[DR]
          have X:(loadVar ty q).run P w'=.ok (y.ev ρ β) w':=by
           cases E with
           |true=>
            have A:=run_loadCells_list (P:=P) w' q (y.cellsT.evs ρ β) F;rw[G]at A;cases y<;>simp[GA]at c7;simp only[loadVar,zN,Hc J,zO,if_true,E3 S,T.cellsT]at A⊢;rw[A];simp[T.ev]
           |false=>
            have m:y.cellsT=.cons y .nil:=by cases y<;>simp_all[GA,T.cellsT]
            have B:=F 0 (y.ev ρ β) (by rw[m];rfl);rw[yP]at B;simp only[loadVar,zN,Hc J,zO,zQ,if_false,run_load,B]
          grind[execOp,yQ,zd,zN,zP,zO]
       ·exact h2 j g
      ·exact h.elim
     ·exact h.elim
    ·exact h.elim
   ·exact h.elim
end
def DI:Mem:=λ_=>none
structure Ga (P:Program)(all:Array Oper)(ms:List Nat):Prop where
 edges:Kv all
 dsts:∀(i j:Nat)(oi oj:Oper)(d:Nat),all[i]?=some oi->all[j]?=some oj->oi.dst=some d->oj.dst=some d->i=j
 sel:∀o,o∈all.toList->F0 o.op=false
 look:∀(i:Nat)(o:Oper)(p:Nat)(op:Oper)(t:Nat),all[i]?=some o->t∈o.looksAt all->(C7 all p=true∨DQ all p=true)->all[p]?=some op->op.dst=some t->(CZ ms i).testBit p=true/\p≠i
 allocs:∀(i:Nat)(o:Oper)(e:Nat),all[i]?=some o->o.op=.alloc e->(FE P e).isSome=true
theorem N4:∀{l:List Oper},(l.filterMap (·.dst)).Nodup->∀(i j:Nat)(oi oj:Oper)(d:Nat),l[i]?=some oi->l[j]?=some oj->oi.dst=some d->oj.dst=some d->i=j
 |[],_,i,j,oi,oj,d,h1,_,_,_=>by simp at h1
 |o::l,y,i,j,oi,oj,d,h1,h2,h3,h4=>by
  have g:∀(k:Nat) ok,l[k]?=some ok->ok.dst=some d->d∈l.filterMap (·.dst):=λk ok f u=>yK.2 ⟨ok,List.mem_of_getElem? f,u⟩;have h:(l.filterMap (·.dst)).Nodup:=by
   grind
  have z:∀d,o.dst=some d->d∉l.filterMap (·.dst):=by
   grind
  cases i with
  |zero=>
   grind
  |succ i=>
   cases j with
   |zero=>
    grind
   |succ j=>exact congrArg (·+1) (N4 h i j oi oj d (by simpa using h1) (by simpa using h2) h3 h4)
theorem N5{all:Array Oper}{i:Nat}{o:Oper}(h:all[i]?=some o):(o,i)∈all.toList.zipIdx:=by
 grind
theorem N6{P:Program}{all:Array Oper}{ms order:List Nat}(h:drawOk P all ms order=true):
  Ga P all ms/\order.length=all.size/\order.Nodup/\(∀i∈order,i<all.size)/\F5 all ms order=true:=by
 simp only[drawOk,zC,yC,beq_iff_eq,decide_eq_true_eq,zz]at h;obtain⟨⟨⟨⟨⟨⟨⟨⟨h1,h2⟩,h3⟩,h4⟩,z⟩,y⟩,x⟩,l⟩,J⟩:=h;refine⟨⟨λi o g e G Z=>?_,λi j oi oj d m q=>?_,λo g=>y o g,λi o p op t g v Y f W=>?_,λi o e g f=>?_⟩,h2,Kw h3,h4,l⟩
 ·have:=h1 _ (N5 g);simp only[yp,yx,zz,decide_eq_true_eq]at this;grind
 ·exact N4 (Kw z) i j oi oj d (by simpa using m) (by simpa using q)
 ·have u:p<all.size:=(yE.1 f).1;have:=x _ (N5 g) t v p (yo.2 u);grind
 grind
def Orph(P:Program)(all:Array Oper)(O:Mem)(j b:Nat)(a:Act):Prop:=
 ∃o d e z,all[j]?=some o/\o.dst=some d/\o.op=.alloc e/\E2 P e=some z/\O b=some (.cells z.cells e (0,0))/\a.tmps.getD d undef=.pointer (some ⟨b,0,none⟩)
structure Inv (c:Bool)(P:Program)(R:Ending->Mem->Prop)(V0:Mem)(w0:World)(L:List (List Value->Mem->Prop))(ρ0:List Value)(fs:List Nat)(H:CJ)(all:Array Oper)(ms:List Nat)(k:St->Tr)
  (rest:List Nat) (fl:List (Nat×Bool)) (st:St) (listed:Array Bool) (a:Act) (w:World) (as:Act) (pend:List Nat) (O:Mem) (bo:Nat->Nat):Prop where
 lsize:listed.size=all.size
 closed:Ju all listed
 chain:F5 all ms rest=true
 nd:rest.Nodup
 bound:∀j∈rest,j<all.size
 unl:∀j,j<all.size->listed.getD j true=false->j∈pend∨j∈rest
 pu:∀j∈pend,listed.getD j true=false/\C7 all j=true/\j∉rest/\(∀r∈rest,(CZ ms j).testBit r=false)/\∃b,(j,b)∈fl/\GI P all j b as w
 ru:∀j∈rest,listed.getD j true=false∨(DQ all j=true/\Orph P all O j (bo j) a)
 boi:∀i∈rest,∀j∈rest,listed.getD i true=true->listed.getD j true=true->bo i=bo j->i=j
 fsize:as.tmps.size=a.tmps.size
 fdef:as.defers=a.defers
 fill:∀s,(∀j o,(j∈pend∨(j∈rest/\listed.getD j true=true))->all[j]?=some o->o.dst≠some s)->as.tmps.getD s undef=a.tmps.getD s undef
 goes:∃n,Bg P R O V0 w0 H.N L ρ0 as.tmps w st (Ey P fs H all ms c n rest fl st k)
theorem PL{all:Array Oper}{i:Nat}(h:C7 all i=true):DQ all i=false:=by
 unfold C7 at h;grind[DQ,floatOp]
theorem Jv{all:Array Oper}{ms:List Nat}{r:Nat}{g:List Nat}(h:F5 all ms (r::g)=true):
  (C7 all r=true∨∀j∈g,(((CZ ms j).testBit r=true∨DQ all j=true)∨(C7 all j=false/\∀q∈g,(CZ ms j).testBit q=false))∨∃q∈g,(CZ ms j).testBit q=true/\DQ all q=false)/\(∀j∈g,(CZ ms r).testBit j=false)/\F5 all ms g=true:=by
 simp_all[F5,zC,yx,yC,List.any_eq_true,zz]
theorem sameSet_spec{l m:List Nat}(h:Jh l m=true):l.length=m.length/\l.Nodup/\∀x∈l,x∈m:=by
 simp_all[Jh,zC,yC,decide_eq_true_eq,Kw]
section
variable{P:Program}{R:Ending->Mem->Prop}{O V0:Mem}{w0:World}{L:List (List Value->Mem->Prop)}{ρ0:List Value}{fs:List Nat}{H:CJ}
variable{all:Array Oper}{ms:List Nat}{k:St->Tr}{rest:List Nat}{fl:List (Nat×Bool)}{st:St}{listed:Array Bool}{a as:Act}{w:World}{pend:List Nat}{bo:Nat->Nat}
theorem N7{N:Nat}{f:Nat->Tr}{t:Tr}:∀{l:List Nat},Bg P R O V0 w0 N L ρ0 as.tmps w st (forks f t l)->Bg P R O V0 w0 N L ρ0 as.tmps w st t/\∀j∈l,Bg P R O V0 w0 N L ρ0 as.tmps w st (f j)
 |[],h=>⟨h,λj x=>by cases x⟩
 |j::m,⟨β,ρ,V,u,z,y⟩=>by
  obtain⟨h1,h2⟩:=N7 (l:=m) ⟨β,ρ,V,u,z,y.2⟩;refine⟨h1,λi g=>?_⟩;rcases yH.1 g with rfl|g;·exact⟨β,ρ,V,u,z,y.1⟩
  ·exact h2 i g
theorem Kz{N:Nat}{c:Bool}{n r:Nat}{g:List Nat}{o:Oper}(u:all[r]?=some o)(h:Bg P R O V0 w0 N L ρ0 as.tmps w st (Ey P fs H all ms c n (r::g) fl st k)):
  ∃m,Bg P R O V0 w0 N L ρ0 as.tmps w st (guardD all o st (Ji P fs H all ms r o fl λfl st=>Ey P fs H all ms true m g fl st k) (drawNo H all ms r o fl λfl st=>Ey P fs H all ms true m g fl st k))/\
   (c=true->∀j∈altsOf all ms r g,∃l,Jh (j::l) (r::g)=true/\F5 all ms (j::l)=true/\Bg P R O V0 w0 N L ρ0 as.tmps w st (Ey P fs H all ms false m (j::l) fl st k)):=by
 cases n with
 |zero=>obtain⟨β,ρ,V,z,y,f⟩:=h;exact f.elim
 |succ m=>
  unfold Ey at h;rw[u]at h;simp only at h;obtain⟨h1,h2⟩:=N7 h;refine⟨m,h1,λx j q=>?_⟩;subst x;have h3:=h2 j q;split at h3;·grind
  ·obtain⟨β,ρ,V,z,y,f⟩:=h3;exact f.elim
theorem N8{N:Nat}{o:Oper}{m A:St->Tr}(h:Bg P R O V0 w0 N L ρ0 as.tmps w st (guardD all o st m A)):
  (yz o (yielded all as.tmps)=true/\∃z,Bg P R O V0 w0 N L ρ0 as.tmps w z (m z))∨
  (yz o (yielded all as.tmps)=false/\∃z,Bg P R O V0 w0 N L ρ0 as.tmps w z (A z)):=by
 unfold guardD at h;split at h;·grind[yz]
 ·rename_i j q I;split at h;·obtain⟨β,ρ,V,y,x,u⟩:=h;exact u.elim
  ·rename_i d M;have l:=L4 (tmps:=as.tmps) M;have Z:yz o (yielded all as.tmps)=(yielded all as.tmps j==some q):=by simp[yz,I]
   obtain⟨β,ρ,V,y,x,u⟩:=h;split at u
   ·rename_i v hv;rw[x.getD_size hv]at l;simp only[T.ev]at l;split at u;·rename_i e;subst e;exact .inl ⟨by simp_all,st,β,ρ,V,y,x,u⟩
    ·rename_i e;exact .inr ⟨by simp_all,st,β,ρ,V,y,x,u⟩
   ·rename_i hv;rw[x.getD_size hv]at l;have:yielded all as.tmps j=none:=by rw[l];rfl
    exact .inr ⟨by grind,st,β,ρ,V,y,x,u⟩
   ·rename_i c _ _ hv;split at u
    ·rename_i F;obtain⟨Y,W,X⟩:=F;obtain⟨b,G⟩:=GF (ρ:=ρ) (β:=β) Y;rw[x.getD_size hv,G]at l;simp only at l;simp only[D]at u;have J:=(T.ev_free (β:=id) (β':=β) (ρ:=ρ) c W).1;have g:Rel O V0 w0 N β (st.now d (.bool b)) ρ V as.tmps w:=x.now hv (by rw[G];rfl);cases b with
     |true=>
      have f:=u.1 (by rw[J,G];rfl);split at f;·rename_i e;exact .inl ⟨by simp_all,_,β,ρ,V,y.now _ _,g,f⟩
      ·rename_i e;exact .inr ⟨by simp_all,_,β,ρ,V,y.now _ _,g,f⟩
     |false=>
      have f:=u.2 (by rw[J,G];rfl);split at f;·rename_i e;exact .inr ⟨by simp_all,_,β,ρ,V,y.now _ _,g,f⟩
      ·rename_i e;exact .inl ⟨by simp_all,_,β,ρ,V,y.now _ _,g,f⟩
    ·exact u.elim
   ·exact u.elim
end
section
variable{P:Program}{R:Ending->Mem->Prop}{O V0:Mem}{w0:World}{L:List (List Value->Mem->Prop)}{ρ0:List Value}{fs:List Nat}{H:CJ}
variable{all:Array Oper}{ms:List Nat}{k:St->Tr}{rest:List Nat}{fl:List (Nat×Bool)}{st:St}{listed:Array Bool}{a as:Act}{w:World}{pend:List Nat}{bo:Nat->Nat}
theorem isFloat_dst{i:Nat}{o:Oper}(h:C7 all i=true)(g:all[i]?=some o):∃d,o.dst=some d:=by
 simp_all[C7,zC,yF]
theorem Jw{N d:Nat}{o:Oper}(h:Ei N o.dst=true)(g:o.dst=some d):d<N:=by
 grind[Ei]
theorem Inv.float(l:Ga P all ms){r:Nat}{B:List Nat}(h:Inv true P R V0 w0 L ρ0 fs H all ms k (r::B) fl st listed a w as pend O bo)(K:C7 all r=true):
  ∃Z g Y,Inv true P R V0 w0 L ρ0 fs H all ms k B Z g listed a w Y (r::pend) O bo:=by
 obtain⟨hnr,S⟩:=yr.1 h.nd;obtain⟨_,hc2,T⟩:=Jv h.chain;have hrl:listed.getD r true=false:=by
  rcases h.ru r yA with h1|h1;·exact h1
  grind[PL]
 have I:=h.bound r yA;obtain⟨o,J⟩:∃o,all[r]?=some o:=⟨_,yu I⟩;obtain⟨d,C⟩:=isFloat_dst K J;have W:∀d',o.dst=some d'->d'∉o.looksAt all:=λd' q hm=>(l.look r o r o d' J hm (.inl K) J q).2 rfl;obtain⟨n0,M⟩:=h.goes;obtain⟨m,hg,_⟩:=Kz J M;clear M;have F:∀(b:Bool)(v:Value)(g:St),d<H.N->HP all fl o.dst=true->yz o (yielded all as.tmps)=b->
   (b=true->∀w',Do w w'->(execOp as.eval o).run P w'=.ok (.value v) w')->(b=false->v=undef)->
   Bg P R O V0 w0 H.N L ρ0 (as.put o.dst v).tmps w g (Ey P fs H all ms true m B ((r,b)::fl) g k)->
   ∃Z g Y,Inv true P R V0 w0 L ρ0 fs H all ms k B Z g listed a w Y (r::pend) O bo:=by
  intro b v g hdlt U hw h1 h2 hG;have G:d<as.tmps.size:=by
   obtain⟨β,ρ,V,X,f,_⟩:=hG;have h5:as.tmps.size=H.N:=by have:=f.size;rwa [F9]at this
   grind
  have hPr:GI P all r b (as.put o.dst v) w:=by
   refine⟨o,d,J,C,by rw[F9];exact G,by grind[wanted_put],λhb w' e=>?_,λhb=>?_⟩;·rw[execOp_put o (noSel l.sel J) as o.dst v W,h1 hb w' e,C,GJ G]
   grind[GJ]
  refine⟨(r,b)::fl,g,as.put o.dst v,
   {lsize:=h.lsize,closed:=h.closed,chain:=T,nd:=S,bound:=λj u=>h.bound j (yB _ u),unl:=λj u hl=>?_,pu:=λj u=>?_,ru:=λj u=>h.ru j (yB _ u)
    boi:=λi hi j u=>h.boi i (yB _ hi) j (yB _ u),fsize:=by rw[F9];exact h.fsize,fdef:=by rw[Fk];exact h.fdef,fill:=λs hs=>?_,goes:=⟨_,hG⟩}⟩
  ·rcases h.unl j u hl with h3|h3;·simp_all
   grind
  ·rcases yH.1 u with rfl|u;·simp_all
   ·obtain⟨D,E,g3,g4,b',g5,g6⟩:=h.pu j u;refine⟨D,E,λhm=>g3 (yB _ hm),λr' hr'=>g4 r' (yB _ hr'),b',yB _ g5,g6.put l.sel λo' A d' q=>?_⟩;refine⟨Kx U g5 o' A d' q,λe=>?_⟩;have:=l.dsts j r o' o d' A J e q;simp_all
  ·have hne:o.dst≠some s:=hs r o (.inl yA) J;rw[F8 hne];refine h.fill s λj o' u A=>?_;grind
 rcases N8 hg with⟨hw,g,hy⟩|⟨hw,g,hn⟩
 ·unfold Ji at hy;rw[if_pos K]at hy;obtain⟨β,ρ,V,X,f,z⟩:=hy;split at z;case isFalse=>exact z.elim
  rename_i y;simp only[zC]at y;split at z
  ·rename_i ns t hpu;obtain⟨D,E⟩:=LX z β;exact F true (t.ev ρ β) _ (Jw y.1 C) y.2 hw (λ_ w' e=>LQ (f.ext e) hpu D) (λh=>by cases h) ⟨β,ρ,V,X.putO _ _,f.putO y.1 t rfl,E⟩
  ·split at z
   ·rename_i ty x hop;obtain⟨v,st2,D,E⟩:=exLoad_run hop y.1 ⟨β,ρ,V,X,f,z⟩;grind[Jw]
   ·exact z.elim
 ·unfold drawNo at hn;obtain⟨β,ρ,V,X,f,z⟩:=hn;split at z;case isFalse=>exact z.elim
  rename_i y;simp only[zC]at y;exact F false undef _ (Jw y.1 C) y.2 hw (λh=>by cases h) (λ_=>rfl) ⟨β,ρ,V,X.putO _ _,f.putO y.1 .und rfl,z⟩
theorem Inv.commit(x:Ga P all ms){r:Nat}{D:List Nat}(h:Inv true P R V0 w0 L ρ0 fs H all ms k (r::D) fl st listed a w as pend O bo)(hr:C7 all r=false)(hl:listed.getD r true=true):
  ∃f E O',Inv true P R V0 w0 L ρ0 fs H all ms k D fl f listed a w E pend O' bo:=by
 obtain⟨hnr,K⟩:=yr.1 h.nd;obtain⟨_,hc2,S⟩:=Jv h.chain;obtain⟨U,o,d,e,z,ho,hd,l,hz,hO,hv⟩:DQ all r=true/\Orph P all O r (bo r) a:=by
  rcases h.ru r yA with h1|h1;·simp_all
  ·exact h1
 obtain⟨n0,W⟩:=h.goes;obtain⟨m,Y,_⟩:=Kz ho W;clear W;have y:o.guard=none:=by
  simp_all[DQ,zC]
 unfold guardD at Y;rw[y]at Y;simp only at Y;unfold Ji at Y;rw[if_neg (by rw[hr];simp),if_pos U]at Y;obtain⟨β,ρ,V,hp,A,g⟩:=Y;split at g;case isFalse=>exact g.elim
 rename_i hap;unfold exOp at g;split at g;case isFalse=>exact g.elim
 rename_i I;have hpu:C6 P st o.op=none:=by rw[l];rfl
 rw[hpu]at g;simp only[l]at g;obtain⟨cs,M⟩:=yF.1 (x.allocs r o e ho l);rw[M]at g;simp only at g;obtain⟨z',F,hzc⟩:=Ks (ρ:=ρ) (β:=β) M;rw[hz]at F;cases F;have C:((T.ofList cs).evs ρ β).toArray=z.cells:=by rw[Da,<-hzc,yX]
 unfold Ij at g;split at g;case isFalse=>exact g.elim
 rename_i q;simp only[zC]at q;have hr2:=A.adopt q.1 q.2 (ty:=e) (b:=bo r) (by simp_all);have hx:Value.pointer (some ⟨bo r,0,none⟩)=(T.box st.nb 0).ev ρ (upd β st.nb (bo r)):=by simp[T.ev,upd]
 have v:=hr2.putO I (T.box st.nb 0) hx;have J:B9 ρ0 L ρ (({st with boxes:=(st.nb,T.ofList cs,e)::st.boxes,nb:=st.nb+1}:St).putO o.dst (T.box st.nb 0)):=B9.putO (st:={st with boxes:=(st.nb,T.ofList cs,e)::st.boxes,nb:=st.nb+1}) ⟨hp.1,hp.2⟩ _ _;simp only[hd]at g v J;have hdsz:d<as.tmps.size:=by rw[A.size];exact Jw I hd
 obtain⟨f,hG⟩:∃f,Bg P R (λc=>if c=bo r then none else O c) V0 w0 H.N L ρ0 (as.put (some d) (.pointer (some ⟨bo r,0,none⟩))).tmps w f (Ey P fs H all ms true m D fl f k):=by
  split at g;·exact Jr _ _ _ _ ⟨_,_,_,J,v,g⟩
  ·exact⟨_,_,_,_,J,v,g⟩
 refine⟨f,as.put (some d) (.pointer (some ⟨bo r,0,none⟩)),_,
  {lsize:=h.lsize,closed:=h.closed,chain:=S,nd:=K,bound:=λj u=>h.bound j (yB _ u),unl:=λj u hl'=>?_,pu:=λj u=>?_,ru:=λj u=>?_
   boi:=λi hi j u=>h.boi i (yB _ hi) j (yB _ u),fsize:=by rw[F9];exact h.fsize,fdef:=by rw[Fk];exact h.fdef,fill:=λs hs=>?_,goes:=⟨_,hG⟩}⟩
 ·rcases h.unl j u hl' with h3|h3;·exact .inl h3
  grind
 ·obtain⟨g1,g2,g3,g4,b',g5,g6⟩:=h.pu j u;refine⟨g1,g2,λhm=>g3 (yB _ hm),λr' hr'=>g4 r' (yB _ hr'),b',g5,g6.put x.sel λX G d' Z=>?_⟩;rw[<-hd]at Z;refine⟨Kx hap g5 X G d' Z,λe=>?_⟩;have:=x.dsts j r X o d' G ho e Z;simp_all
 ·rcases h.ru j (yB _ u)with h1|⟨h1,X,d',e',z',k1,k2,k3,k4,k5,k6⟩;·exact .inl h1
  ·by_cases B:listed.getD j true=false;·exact .inl B
   ·refine .inr ⟨h1,X,d',e',z',k1,k2,k3,k4,?_,k6⟩;have hne:bo j≠bo r:=λe=>by
     have:=h.boi j (yB _ u) r yA (by simpa using B) hl e;simp_all
    simp_all
 ·by_cases hsd:s=d;·grind[GJ]
  ·rw[F8 (by grind)];refine h.fill s λj X u G=>?_;grind
theorem Inv.advance(f:Ga P all ms):∀(rest:List Nat){fl:List (Nat×Bool)}{st:St}{as:Act}{pend:List Nat}{O:Mem},Inv true P R V0 w0 L ρ0 fs H all ms k rest fl st listed a w as pend O bo->
  ∃g l u z y v,Inv true P R V0 w0 L ρ0 fs H all ms k g l u listed a w z y v bo/\(∀r x,g=r::x->C7 all r=false/\listed.getD r true=false)
 |[],fl,st,as,pend,O,h=>⟨[],fl,st,as,pend,O,h,λr x e=>by cases e⟩
 |r::x,fl,st,as,pend,O,h=>by
  by_cases J:C7 all r=true
  ·obtain⟨l,u,z,q⟩:=h.float f J;exact Inv.advance f x q
  ·have m:C7 all r=false:=by simpa using J
   by_cases G:listed.getD r true=true
   ·obtain⟨u,z,v,q⟩:=h.commit f m G;exact Inv.advance f x q
   ·exact⟨r::x,fl,st,as,pend,O,h,λY Z e=>by cases e;exact⟨m,by simpa using G⟩⟩
end
theorem N9{all:Array Oper}(z:∀o,o∈all.toList->F0 o.op=false){i:Nat}{o:Oper}(y:all[i]?=some o){a as:Act}
  (h:∀t∈o.looksAt all,as.tmps.getD t undef=a.tmps.getD t undef):
  execOp a.eval o=execOp as.eval o/\yz o (yielded all a.tmps)=yz o (yielded all as.tmps):=by
 constructor
 ·refine execOp_congr o (noSel z y) λx l=>?_;cases x with
  |tmp t=>
   have:=h t (List.mem_append_left _ (yK.2 ⟨.tmp t,by simpa using l,rfl⟩));grind[Act.eval,undef]
  |_=>rfl
 ·unfold yz;cases m:o.guard with
  |none=>rfl
  |some q=>
   obtain⟨g,f⟩:=q;simp only;cases u:(all[g]?).bind (·.dst)with
   |none=>simp[yielded,u]
   |some d=>
    have:=h d (List.mem_append_right _ (by simp[m,u]));grind[L4]
theorem nodup_sub:∀{l m:List Nat},l.Nodup->(∀x∈l,x∈m)->l.length<=m.length
 |[],m,_,_=>Nat.zero_le _
 |x::l,m,g,h=>by
  obtain⟨h1,h2⟩:=yr.1 g;have hm:=h x yA;have:=nodup_sub (m:=m.erase x) h2 λy f=>by
   grind
  grind
theorem Hf{l:List Nat}{i x:Nat}(h:i∉l)(g:x∈l):i≠x:=λe=>h (e▸g)
theorem set_same{l:Array Bool}{i:Nat}(h:i<l.size)(d:Bool):(l.setIfInBounds i true).getD i d=true:=by
 simp_all
theorem DY{l:Array Bool}{i j:Nat}(h:i≠j)(d:Bool):(l.setIfInBounds i true).getD j d=l.getD j d:=by
 simp_all
theorem getD_any{l:Array Bool}{j:Nat}(h:l.getD j true=false):l.getD j false=false:=by
 grind
theorem ready_mem{all:Array Oper}{listed:Array Bool}{i:Nat}(h:i∈yn .any all listed):
  i<all.size/\listed.getD i true=false/\∃o,all[i]?=some o/\∀e∈o.after,yw .any e=true->listed.getD e.on false=true:=by
 simp only[yn,ym,yo,zC,zz]at h;grind[yu,yp]
theorem ready_ne{all:Array Oper}{listed:Array Bool}(g:Kv all)(y:listed.size=all.size):∀j,j<all.size->listed.getD j true=false->yn .any all listed≠[]:=by
 intro j;induction j using yv with
 |_ j x=>
  intro f l;have u:=yu f;by_cases h:∃e∈all[j].after,yw .any e=true/\listed.getD e.on false=false
  ·obtain⟨e,h1,h2,h3⟩:=h;have z:=g j _ u e h1 h2;grind
  ·intro m;have:j∈yn .any all listed:=by
    grind[yn,yw,absurd]
   simp_all
theorem wp_transfer{P:Program}{o:Oper}{a as:Act}{w:World}{K:Act->World->Prop}{Q:Exit->Act->World->Prop}(z:execOp a.eval o=execOp as.eval o)(q:∀d,o.dst=some d->d<as.tmps.size)
  (h:o.wp P as w (λy w'=>∃v,y=as.put o.dst v/\K (a.put o.dst v) w') (λe _ w'=>match e with|.panic ch=>Q (.panic ch) a w'|_=>False)) (l:LetsOut (λ(_:Exit) (_:Act) (_:World)=>False)->LetsOut Q):o.wp P a w K Q:=by
 have m:∀v u w',as.put o.dst v=as.put o.dst u->K (a.put o.dst u) w'->K (a.put o.dst v) w':=by
  intro v u w' e hK;cases g:o.dst with
  |none=>rw[g]at hK;exact hK
  |some d=>
   have h1:=q d g;rw[g]at e hK;have:v=u:=by
    have G:=congrArg (λx:Act=>x.tmps.getD d undef) e;grind[GJ]
   simp_all
 unfold yN at*
 rw[z];generalize(execOp as.eval o).run P w=r at*
 cases r with
 |ok n w'=>
  cases n with
  |value v=>grind[yO]
  |skip=>grind[yO,undef]
  |defer d=>
   simp only[yO]at h⊢;obtain⟨u,h1,h2⟩:=h;have e:=congrArg (λx:Act=>x.defers) h1;simp only[Fk]at e;simp_all
  |enter f args=>
   simp only[yO]at h⊢;refine Calls.mono h λe J z=>?_;cases e with
   |returned v=>grind
   |panicked c=>exact z
   |outgrown=>exact l (by obtain⟨Z,w',h⟩:=z;exact h.elim)
  |row nm args=>
   grind[yO]
  |_=>simp only[yO]at h⊢
 |halt x w'=>cases x<;>simp only[yO]at h⊢<;>exact h
section
variable{P:Program}{R:Ending->Mem->Prop}{O V0:Mem}{w0:World}{L:List (List Value->Mem->Prop)}{ρ0:List Value}{fs:List Nat}{H:CJ}
variable{all:Array Oper}{k:St->Tr}{rest:List Nat}{fl:List (Nat×Bool)}{st:St}{listed:Array Bool}{a as:Act}{w:World}{pend:List Nat}{bo:Nat->Nat}
theorem L8(x:listed.size=all.size)(h:Ju all listed){i:Nat}{o:Oper}(l:all[i]?=some o)(hi:∀e∈o.after,yw .any e=true->listed.getD e.on false=true):
  Ju all (listed.setIfInBounds i true):=by
 have up:∀j,listed.getD j false=true->(listed.setIfInBounds i true).getD j false=true:=by
  intro j g;by_cases e:i=j;·subst e;exact set_same (by grind) _
  simp_all
 intro j oj g f e u z;by_cases y:i=j;·simp_all
 ·rw[DY y]at f;exact up _ (h j oj g f e u z)
theorem Oa{c:Bool}{ms:List Nat}(f:Ga P all ms)(h:Inv c P R V0 w0 L ρ0 fs H all ms k rest fl st listed a w as pend O bo){i:Nat}{o:Oper}(x:all[i]?=some o)
  (hm:∀j,(CZ ms i).testBit j=true->listed.getD j false=true) (y:∀j∈rest,j≠i->(CZ ms i).testBit j=false):∀t∈o.looksAt all,as.tmps.getD t undef=a.tmps.getD t undef:=by
 intro t l;refine h.fill t λj oj u z m=>?_;rcases u with u|⟨u,J⟩
 ·obtain⟨v,q,_⟩:=h.pu j u;have:=hm j (f.look i o j oj t x l (.inl q) z m).1;grind
 ·rcases h.ru j u with g|⟨g,_⟩;·simp_all
  ·obtain⟨v,q⟩:=f.look i o j oj t x l (.inr g) z m;simp_all
theorem Orph.put{ms:List Nat}(g:Ga P all ms){i j b:Nat}{o:Oper}(x:all[i]?=some o)(f:i≠j)(h:Orph P all O j b a)(v:Value):Orph P all O j b (a.put o.dst v):=by
 obtain⟨u,d',l,m,z,y,q,J,G,Z⟩:=h;exact⟨u,d',l,m,z,y,q,J,G,by rw[F8 λe=>f (g.dsts i j o u d' x z e y)];exact Z⟩
theorem Inv.carry{ms:List Nat}(q:Ga P all ms)(h:Inv true P R V0 w0 L ρ0 fs H all ms k rest fl st listed a w as pend O bo){i:Nat}(hi:i∈pend){o:Oper}(G:all[i]?=some o){d:Nat}(A:o.dst=some d)(Z:d<a.tmps.size)
  (v:∀e∈o.after,yw .any e=true->listed.getD e.on false=true):
  Inv true P R V0 w0 L ρ0 fs H all ms k rest fl st (listed.setIfInBounds i true) (a.put o.dst (as.tmps.getD d undef)) w as (pend.filter (·≠i)) O bo:=by
 have f:i∉rest:=(h.pu i hi).2.2.1;have I:i<listed.size:=by rw[h.lsize];grind
 exact
 {lsize:=by rw[yl];exact h.lsize
  closed:=L8 h.lsize h.closed G v
  chain:=h.chain,nd:=h.nd,bound:=h.bound
  unl:=λj g m=>by
   by_cases e:i=j;·simp_all
   ·rw[DY e]at m;rcases h.unl j g m with h1|h1;·grind
    ·exact .inr h1
  pu:=λj g=>by
   obtain⟨h1,h2⟩:=ym.1 g;have u:i≠j:=λe=>by simp[e]at h2
   rw[DY u];exact h.pu j h1
  ru:=λj g=>by
   have u:i≠j:=Hf f g;rw[DY u];exact(h.ru j g).imp id λ⟨M,F⟩=>⟨M,F.put q G u _⟩
  boi:=λx Y y W z l=>by
   rw[DY (Hf f Y)]at z;rw[DY (Hf f W)]at l;exact h.boi x Y y W z l
  fsize:=by rw[F9];exact h.fsize
  fdef:=by rw[Fk];exact h.fdef
  fill:=λs X=>by
   by_cases e:d=s;·grind[GJ]
   ·rw[A,F8 (by simpa using e)];refine h.fill s λj B g J=>?_;rcases g with g|⟨g,m⟩;·grind
    ·exact X j B (.inr ⟨g,by rw[DY (Hf f g)];exact m⟩) J
  goes:=h.goes}
theorem Inv.make{ms:List Nat}(W:Ga P all ms)(h:Inv true P R V0 w0 L ρ0 fs H all ms k rest fl st listed a w as pend O bo){i:Nat}(hi:i∈rest)(A:i∉pend){o:Oper}(ho:all[i]?=some o){d:Nat}(hd:o.dst=some d)(J:d<a.tmps.size)
  (I:DQ all i=true) {e:TypeId} (hop:o.op=.alloc e) {z:Value} (hz:E2 P e=some z)
  (M:∀e∈o.after,yw .any e=true->listed.getD e.on false=true):
  Inv true P R V0 w0 L ρ0 fs H all ms k rest fl st (listed.setIfInBounds i true) (a.put o.dst (.pointer (some ⟨w.heap.size,0,none⟩))) (w.alloc (.cells z.cells e (0,0))) as pend (O.set w.heap.size (.cells z.cells e (0,0))) (upd bo i w.heap.size):=by
 have F:i<listed.size:=by rw[h.lsize];grind
 obtain⟨T,β,ρ,V,hp,D,U⟩:=h.goes;have hO:∀b o,O b=some o->b<w.heap.size:=λb o hb=>(yE.1 (D.hid b o hb).1).1;have f:∀j∈rest,j≠i->(listed.setIfInBounds i true).getD j true=true->DQ all j=true/\Orph P all O j (bo j) a:=by
  intro j u l m;rw[DY (λe=>l e.symm)]at m;rcases h.ru j u with g|g;·simp_all
  ·exact g
 exact
 {lsize:=by rw[yl];exact h.lsize
  closed:=L8 h.lsize h.closed ho M
  chain:=h.chain,nd:=h.nd,bound:=h.bound
  unl:=λj u m=>by
   by_cases e:i=j;·simp_all
   ·rw[DY e]at m;exact h.unl j u m
  pu:=λj u=>by
   have l:i≠j:=Hf A u;rw[DY l];obtain⟨X,g2,g3,g4,b,g5,g6⟩:=h.pu j u;exact⟨X,g2,g3,g4,b,g5,g6.ext (Do.alloc _ _)⟩
  ru:=λj u=>by
   by_cases G:i=j
   ·subst G;exact .inr ⟨I,o,d,e,z,ho,hd,hop,hz,by simp only[upd,if_true,Mem.set_same],by simp only[upd,if_true];rw[hd,GJ J]⟩
   ·cases m:(listed.setIfInBounds i true).getD j true with
    |false=>exact .inl rfl
    |true=>
     obtain⟨X,g2⟩:=f j u (λe=>G e.symm) m;obtain⟨o',d',e'',z',k1,k2,k3,k4,k5,k6⟩:=g2.put W ho G (.pointer (some ⟨w.heap.size,0,none⟩));have B:¬j=i:=λe=>G e.symm;refine .inr ⟨X,o',d',e'',z',k1,k2,k3,k4,?_,?_⟩
     ·simp only[upd,if_neg B];grind[Mem.set_ne,Nat.ne_of_lt]
     grind[upd]
  boi:=λx E y K q v Z=>by
   by_cases ex:x=i<;>by_cases Y:y=i;·rw[ex,Y]
   ·subst ex;obtain⟨_,_,_,_,_,_,_,_,_,k5,_⟩:=f y K Y v;grind[upd]
   ·subst Y;obtain⟨_,_,_,_,_,_,_,_,_,k5,_⟩:=f x E ex q;grind[upd,ex]
   ·simp only[upd,if_neg ex,if_neg Y]at Z;rw[DY (λe=>ex e.symm)]at q;rw[DY (λe=>Y e.symm)]at v;exact h.boi x E y K q v Z
  fsize:=by rw[F9];exact h.fsize
  fdef:=by rw[Fk];exact h.fdef
  fill:=λs S=>by
   rw[F8 (S i o (.inr ⟨hi,set_same F _⟩) ho)];refine h.fill s λj o' u C=>?_;rcases u with u|⟨u,m⟩;·grind
   ·refine S j o' (.inr ⟨u,?_⟩) C;by_cases G:i=j;·simp_all
    simp_all
  goes:=⟨T,β,ρ,V,hp,D.orphan _,U⟩}
theorem Inv.lock{c:Bool}{ms:List Nat}(J:Ga P all ms){r:Nat}{G:List Nat}(h:Inv c P R V0 w0 L ρ0 fs H all ms k (r::G) fl st listed a w as pend O bo){o:Oper}(F:all[r]?=some o)(D:listed.getD r true=false)
  (Z:∀d,o.dst=some d->d<a.tmps.size) (Y:∀e∈o.after,yw .any e=true->listed.getD e.on false=true) {v:Value} {w':World} {u:St} {z:List (Nat×Bool)} {n:Nat}
  (U:∀j∈pend,∃b,(j,b)∈z/\GI P all j b (as.put o.dst v) w') (E:Bg P R O V0 w0 H.N L ρ0 (as.put o.dst v).tmps w' u (Ey P fs H all ms true n G z u k)):
  Inv true P R V0 w0 L ρ0 fs H all ms k G z u (listed.setIfInBounds r true) (a.put o.dst v) w' (as.put o.dst v) pend O bo:=by
 obtain⟨l,W⟩:=yr.1 h.nd;obtain⟨_,_,A⟩:=Jv h.chain;have K:r<listed.size:=by grind
 exact
 {lsize:=by rw[yl];exact h.lsize
  closed:=L8 h.lsize h.closed F Y
  chain:=A,nd:=W,bound:=λj g=>h.bound j (yB _ g)
  unl:=λj g I=>by
   by_cases e:r=j;·simp_all
   ·rw[DY e]at I;rcases h.unl j g I with h1|h1;·exact .inl h1
    grind
  pu:=λj g=>by
   obtain⟨X,g2,g3,g4,_⟩:=h.pu j g;have f:r≠j:=λe=>g3 (e▸yA);simp_all
  ru:=λj g=>by
   have f:r≠j:=Hf l g;rw[DY f];exact(h.ru j (yB _ g)).imp id λ⟨X,g2⟩=>⟨X,g2.put J F f _⟩
  boi:=λx B y C m q=>by
   rw[DY (Hf l B)]at m;rw[DY (Hf l C)]at q;exact h.boi x (yB _ B) y (yB _ C) m q
  fsize:=by rw[F9,F9];exact h.fsize
  fdef:=by rw[Fk,Fk];exact h.fdef
  fill:=λs S=>by
   by_cases e:o.dst=some s
   ·have h1:=Z s e;rw[e,GJ h1,GJ (by rw[h.fsize];exact h1)]
   ·rw[F8 e,F8 e];refine h.fill s λj T g M=>?_;rcases g with g|⟨g,I⟩;·grind
    ·rcases yH.1 g with rfl|g;·simp_all
     ·have f:r≠j:=λe'=>by simp_all
      exact S j T (.inr ⟨g,by simp_all⟩) M
  goes:=⟨n,E⟩}
theorem Inv.reorder{ms:List Nat}(h:Inv true P R V0 w0 L ρ0 fs H all ms k rest fl st listed a w as pend O bo){g:List Nat}(u:Jh g rest=true)(z:F5 all ms g=true){n:Nat}
  (l:Bg P R O V0 w0 H.N L ρ0 as.tmps w st (Ey P fs H all ms false n g fl st k)):Inv false P R V0 w0 L ρ0 fs H all ms k g fl st listed a w as pend O bo:=by
 obtain⟨h1,h2,h3⟩:=sameSet_spec u;have h4:∀x∈rest,x∈g:=λx J=>by
  by_cases hm:x∈g;·exact hm
  ·exfalso;have m:(x::g).length<=rest.length:=nodup_sub (yr.2 ⟨hm,h2⟩) λy G=>by
    grind
   grind
 exact
 {lsize:=h.lsize,closed:=h.closed,chain:=z,nd:=h2,bound:=λj f=>h.bound j (h3 j f),unl:=λj f q=>(h.unl j f q).imp id (h4 j)
  pu:=λj f=>by
   obtain⟨Z,g2,g3,g4,Y⟩:=h.pu j f;grind
  ru:=λj f=>h.ru j (h3 j f),boi:=λi v j f=>h.boi i (h3 i v) j (h3 j f),fsize:=h.fsize,fdef:=h.fdef
  fill:=λs u=>h.fill s λj o f=>u j o (f.imp id λx=>⟨h4 j x.1,x.2⟩),goes:=⟨n,l⟩}
end
section
variable{P:Program}{R:Ending->Mem->Prop}{V0:Mem}{w0:World}{L:List (List Value->Mem->Prop)}{ρ0:List Value}{fs:List Nat}{H:CJ}
variable{all:Array Oper}{k:St->Tr}{Q:Exit->Act->World->Prop}
theorem L9:∀(n:Nat)(l:List Nat),l.Nodup->(∀x∈l,x<n)->l.length<=n
 |0,l,_,h=>by
  cases l with
  |nil=>exact yq _
  |cons x l=>exact absurd (h x yA) (Nat.not_lt_zero _)
 |n+1,l,f,h=>by
  by_cases hm:n∈l
  ·have h1:=L9 n (l.erase n) (f.erase n) λx g=>by
    obtain⟨h2,h3⟩:=f.mem_erase_iff.1 g;have:=h x h3;omega
   rw[List.length_erase_of_mem hm]at h1;omega
  ·have h1:=L9 n l f λx g=>by
    have:=h x g;have u:x≠n:=λe=>hm (e▸g);omega
   omega
theorem nodup_all{l:List Nat}{n:Nat}(g:l.Nodup)(h:∀x∈l,x<n)(f:l.length=n){j:Nat}(u:j<n):j∈l:=by
 by_cases hm:j∈l;·exact hm
 ·have:=L9 n (j::l) (yr.2 ⟨hm,g⟩) λx z=>by
   grind
  grind
theorem PN{listed:Array Bool}(g:Kv all)(f:Ju all listed){i:Nat}{o:Oper}(u:all[i]?=some o)(h:∀e∈o.after,yw .any e=true->listed.getD e.on false=true):
  ∀j,(CZ (CB all.toList []) i).testBit j=true->listed.getD j false=true:=mask_listed g f i o u h
theorem any_sound(U:Ez P fs)(u:Ga P all (CB all.toList []))(hdst:∀(i:Nat)(o:Oper),all[i]?=some o->Ei H.N o.dst=true){a0:Act}(hQ:F7 R V0 w0 a0.defers Q)(hlo:LetsOut (λ(_:Exit)(_:Act)(_:World)=>False)->LetsOut Q)
  (hk:∀y a' w',a'.defers=a0.defers->Bg P R DI V0 w0 H.N L ρ0 a'.tmps w' y (k y)->Q .normal a' w'):
  ∀(fuel:Nat)(rem:List Nat)(rest:List Nat)(fl:List (Nat×Bool))(st:St)(listed:Array Bool)(a:Act)(w:World)(as:Act)(pend:List Nat)(O:Mem)(bo:Nat->Nat),
   Inv true P R V0 w0 L ρ0 fs H all (CB all.toList []) k rest fl st listed a w as pend O bo->as.defers=a0.defers->rem.Nodup->rem.length=fuel->(∀j,j∈rem↔(j<all.size/\listed.getD j true=false))->
   wpAny P .any all Q fuel listed a w:=by
 intro fuel;induction fuel with
 |zero=>
  intro rem rest fl st listed a w as pend O bo h f hnd F A;have hnil:rem=[]:=List.length_eq_zero_iff.1 F;subst hnil;obtain⟨X,fl',y,as',B,O',h',x⟩:=h.advance u;have hnone:∀j,j<all.size->listed.getD j true=false->False:=λj h1 h2=>by simp_all
  have hr:X=[]:=by
   cases X with
   |nil=>rfl
   |cons r T=>exact(hnone r (h'.bound r yA) (x r T rfl).2).elim
  subst hr;have hp:B=[]:=by
   cases B with
   |nil=>rfl
   |cons j T=>
    obtain⟨g1,_,_,_,b,_,o,d,g2,_⟩:=h'.pu j yA;grind
  subst hp;refine⟨?_,?_⟩
  ·cases hrd:yn .any all listed with
   |nil=>rfl
   |cons i T=>
    obtain⟨g1,g2,_⟩:=ready_mem (all:=all) (listed:=listed) (i:=i) (by simp_all);simp_all
  ·have htm:as'.tmps=a.tmps:=by
    refine Array.ext h'.fsize λi h1 h2=>?_;have:=h'.fill i λj o M=>by simp_all
    simp_all
   obtain⟨n0,β,ρ,V,hp,hr,C⟩:=h'.goes;have C:D P R (k (y.compact H.keep)) L ρ V:=by cases n0<;>exact C
   refine hk (y.compact H.keep) a w (by rw[<-h.fdef];exact f) ⟨β,ρ,V,hp.compact _,?_,C⟩;rw[<-htm];exact(hr.compact _).less λb o hb=>by cases hb
 |succ fuel ih=>
  intro rem rest0 fl0 st0 listed a w as0 pend0 O0 bo h0 hdef0 hnd F A;obtain⟨rest,fl,st,as,pend,O,h,x⟩:=h0.advance u;have f:as.defers=a0.defers:=by rw[h.fdef,<-h0.fdef];exact hdef0
  have next:∀{i:Nat}{rest:List Nat}{fl:List (Nat×Bool)}{st:St}{a:Act}{w:World}{as:Act}{pend:List Nat}{O:Mem}{bo:Nat->Nat},i<all.size->listed.getD i true=false->
    Inv true P R V0 w0 L ρ0 fs H all (CB all.toList []) k rest fl st (listed.setIfInBounds i true) a w as pend O bo->as.defers=a0.defers->wpAny P .any all Q fuel (listed.setIfInBounds i true) a w:=by
   intro i rest fl st a w as pend O bo hi J hI hd;have him:i∈rem:=(A i).2 ⟨hi,J⟩;refine ih (rem.erase i) rest fl st _ a w as pend O bo hI hd (hnd.erase i) (by simp_all) λj=>?_;rw[hnd.mem_erase_iff,A j];by_cases e:i=j;·simp_all
   ·rw[DY e];grind
  refine⟨λhn=>?_,λi hi=>?_⟩
  ·obtain⟨j,M⟩:∃j,j∈rem:=by
    cases rem with
    |nil=>cases F
    |cons j _=>grind
   obtain⟨h1,h2⟩:=(A j).1 M;exact absurd hn (ready_ne u.edges h.lsize j h1 h2)
  ·obtain⟨Z,J,o,Y,E⟩:=ready_mem hi;have G:=PN u.edges h.closed Y E;have K:as.tmps.size=H.N:=by obtain⟨_,β,ρ,V,_,hr,_⟩:=h.goes;exact hr.size
   have S:∀d,o.dst=some d->d<a.tmps.size:=λd hd=>by
    rw[<-h.fsize,K];exact Jw (hdst i o Y) hd
   unfold wpOp;simp only[Y];by_cases W:i∈pend
   ·-- it floats and stands out
    obtain⟨g1,g2,g3,g4,b,g5,o',d,k1,k2,k3,k4,k5,k6⟩:=h.pu i W;rw[Y]at k1;cases k1;obtain⟨e1,e2⟩:=N9 u.sel Y (Oa u h Y G λj M _=>g4 j M);rw[e2,k4];have hI:=h.carry u W Y k2 (S d k2) E;cases b with
    |true=>
     rw[if_pos rfl];refine .inl ?_;unfold yN;rw[e1,k5 rfl w (Do.refl w)];exact next Z J hI f
    |false=>
     grind
   ·have hir:i∈rest:=(h.unl i Z J).resolve_left W;by_cases hal:DQ all i=true
    ·-- a block is made
     have I:=hal;unfold DQ at I;rw[Y]at I;simp only[zC]at I;obtain⟨⟨⟨q1,q2⟩,q3⟩,q4⟩:=I;obtain⟨d,hd⟩:=yF.1 q4;cases hop:o.op with
     |alloc e=>
      obtain⟨cs,hcs⟩:=yF.1 (u.allocs i o e Y hop);obtain⟨z,hz,hzc⟩:=Ks (ρ:=[]) (β:=id) hcs;have hI:=h.make u hir W Y hd (S d hd) hal hop hz E;have hg:o.guard=none:=by simpa using q2
      rw[show yz o (yielded all a.tmps)=true by simp[yz,hg],if_pos rfl];refine .inl ?_;have hrun:(execOp a.eval o).run P w=.ok (.value (.pointer (some ⟨w.heap.size,0,none⟩))) (w.alloc (.cells z.cells e (0,0))):=by
       unfold execOp;simp only[hop,Instr.alloc,Jo hz,newVar,newRow,zN,run_newObj,zP,zO];rfl
      unfold yN;rw[hrun];exact next Z J hI f
     |_=>simp[hop]at q1
    ·-- both go on
     have go:∀{c:Bool}{T:List Nat}{fl:List (Nat×Bool)}{st:St}{as:Act}{pend:List Nat}{O:Mem}{bo:Nat->Nat},Inv c P R V0 w0 L ρ0 fs H all (CB all.toList []) k (i::T) fl st listed a w as pend O bo->i∉pend->as.defers=a0.defers->C7 all i=false->
       (if yz o (yielded all a.tmps)then o.wp P a w (wpAny P .any all Q fuel (listed.setIfInBounds i true)) Q∨(o.asks P a w/\LetsOut Q)else wpAny P .any all Q fuel (listed.setIfInBounds i true) (a.put o.dst undef) w):=by
      clear h f K W hir x;intro c T fl st as pend O bo h W f hrf;obtain⟨_,hc2,hc3⟩:=Jv h.chain;have hnotin:∀j∈pend,(CZ (CB all.toList []) i).testBit j=false:=λj M=>by
       cases hb:(CZ (CB all.toList []) i).testBit j with
       |false=>rfl
       |true=>
        have:=G j hb;rw[getD_any (h.pu j M).1]at this;cases this
      obtain⟨e1,e2⟩:=N9 u.sel Y (Oa u h Y G λj M hne=>by
       simp_all)
      rw[e2];obtain⟨n0,hg0⟩:=h.goes;obtain⟨m,hg,_⟩:=Kz Y hg0;have hneq:∀j∈pend,∀oj,all[j]?=some oj->∀d',o.dst=some d'->oj.dst≠some d':=λj M oj hoj d' hd' e=>by
       have:=u.dsts j i oj o d' hoj Y e hd';simp_all
      rcases N8 hg with⟨hw,y,hy⟩|⟨hw,y,hn⟩
      ·rw[hw,if_pos rfl];refine .inl ?_;unfold Ji at hy;rw[if_neg (by rw[hrf];simp),if_neg hal]at hy;have hy':HP all (GD (CB all.toList []) i fl) o.dst=true/\Bg P R O V0 w0 H.N L ρ0 as.tmps w y (exOp P fs H y o λst=>HO P all (GD (CB all.toList []) i fl) st (Ey P fs H all (CB all.toList []) true m T (GD (CB all.toList []) i fl) st k)):=by
        split at hy;·simp_all
        ·obtain⟨β,ρ,V,_,_,C⟩:=hy;exact C.elim
       obtain⟨hap,hy2⟩:=hy';refine wp_transfer e1 (λd hd=>by rw[h.fsize];exact S d hd) ?_ hlo;refine NY U (λch a' w' _ hR=>hQ ch a w' (by rw[<-h.fdef];exact f) hR) hy2 λst2 as2 w2 ⟨v,hv⟩ hG=>⟨v,hv,?_⟩;subst hv;obtain⟨β,ρ,V,hp2,hr2,hD2⟩:=hG;obtain⟨hD3,hrec⟩:=Ky hr2 hD2;refine next Z J (h.lock u Y J S E (λj M=>?_) ⟨β,ρ,V,hp2,hr2,hD3⟩) (by rw[Fk];exact f)
       obtain⟨_,_,_,_,b,g5,oj,d,k1,k2,k3,k4,k5,k6⟩:=h.pu j M;have hst:(j,b)∈GD (CB all.toList []) i fl:=ym.2 ⟨g5,by simp_all⟩;refine⟨b,hst,oj,d,k1,k2,by rw[F9];exact k3,?_,λhb w' ew=>?_,λhb=>?_⟩;·grind[wanted_put,Kx]
       ·grind
       grind[F8]
      ·rw[hw,if_neg (by simp)];unfold drawNo at hn;obtain⟨β,ρ,V,hp,hr,C⟩:=hn;split at C;case isFalse=>exact C.elim
       rename_i hc;simp only[zC]at hc;rw[hrf]at C;simp only[zQ,if_false]at C;refine next Z J (h.lock u Y J S E (v:=undef) (λj M=>?_) ⟨β,ρ,V,hp.putO _ _,hr.putO hc.1 .und rfl,C⟩) (by rw[Fk];exact f)
       obtain⟨_,_,_,_,b,g5,g6⟩:=h.pu j M;have hst:(j,b)∈GD (CB all.toList []) i fl:=ym.2 ⟨g5,by simp_all⟩;exact⟨b,hst,g6.put u.sel λoj hoj d' hd'=>⟨Kx hc.2 g5 oj hoj d' hd',hneq j M oj hoj d' hd'⟩⟩
     cases rest with
     |nil=>cases hir
     |cons r T=>
      obtain⟨hrf,hrl⟩:=x r T rfl;rcases yH.1 hir with e|e;·grind
      ·obtain⟨hc1,hc2,hc3⟩:=Jv h.chain;have hnr:(CZ (CB all.toList []) i).testBit r=false:=by
        grind
       rcases hc1 with hc1|hc1;·simp_all
       ·rcases hc1 i e with((q|q)|⟨hif,hall⟩)|⟨q,q1,q2,q3⟩;·simp_all
        ·grind
        ·obtain⟨or',hor⟩:∃or',all[r]?=some or':=⟨_,yu (h.bound r yA)⟩;obtain⟨n0,hg0⟩:=h.goes;obtain⟨m,_,hfork⟩:=Kz hor hg0;have hmem:i∈altsOf all (CB all.toList []) r T:=by
          grind[altsOf]
         obtain⟨l,f1,f2,f3⟩:=hfork rfl i hmem;exact go (h.reorder f1 f2 f3) W f hif
        ·exfalso;have hql:=G q q2;rcases h.ru q (yB _ q1)with g|⟨g,_⟩;·grind
         simp_all
theorem Rel.drawn{O V0:Mem}{w0:World}{N:Nat}{β:Nat->Nat}{st:St}{ρ:List Value}{V:Mem}{w:World}{tmps:Array Value}(h:Rel O V0 w0 N β st ρ V tmps w)(n:Nat):Rel O V0 w0 N β st ρ V tmps {w with drawn:=n}:=
 h.ext ⟨λ_ _ h=>h,yq _,rfl,rfl⟩
theorem PO(g:Ez P fs)(hm:P.follows .mixedOrders=true){id:Nat}{st:St}{a:Act}{w:World}(Y:F7 R V0 w0 a.defers Q)(h:Bg P R DI V0 w0 H.N L ρ0 a.tmps w st (Jj P fs H all st k))
  (y:LetsOut (λ(_:Exit) (_:Act) (_:World)=>False)->LetsOut Q)
  (W:∀z l w',l.defers=a.defers->Bg P R DI V0 w0 H.N L ρ0 l.tmps w' z (k z)->Q .normal l w'):(Code.region id all true).wp P Q a w:=by
 unfold Jj at h;simp only at h;obtain⟨β,ρ,V,hp,A,m⟩:=h;split at m;case isFalse=>exact m.elim
 rename_i Z;simp only[zC,yC]at Z;obtain⟨q,v⟩:=Z;obtain⟨J,h2,h3,h4,I⟩:=N6 q;have u:∀j d,j<all.size->(Array.replicate all.size false).getD j d=false:=λj d f=>by simp_all
 refine wp_region_any hm (any_sound g J (λi o M=>v o (by grind)) Y y W all.size (List.range all.size) (Il all (CB all.toList []) all.size 0) [] st _ a _ a [] DI (λx=>x) ?_ rfl List.nodup_range (by simp) λj=>?_)
 ·exact
  {lsize:=by simp
   closed:=λj oj f G=>by
    rw[u j _ (yE.1 f).1]at G;cases G
   chain:=I
   nd:=h3
   bound:=h4
   unl:=λj f _=>.inr (nodup_all h3 h4 h2 f)
   pu:=λj f=>by cases f
   ru:=λj f=>.inl (u j _ (h4 j f))
   boi:=λi F j f G=>by omega
   fsize:=rfl
   fdef:=rfl
   fill:=λs _=>rfl
   goes:=⟨_,β,ρ,V,hp,A.drawn _,m⟩}
 simp_all
end
def Ex.toExit:Ex->Exit
 |.normal=>.normal
 |.exit i=>.exit i
 |.ret=>.ret
theorem Ma(p:Nat->Prop)(h:∃n,p n):∃n,p n/\∀m,p m->n<=m:=by
 obtain⟨n,g⟩:=h;induction n using yv with
 |_ n f=>
  grind
open Classical in
theorem wp_loop_rel{P:Program}{c:Code}{Q:Exit->Act->World->Prop}{a:Act}{w:World}(Inv:Nat->Act->World->Prop)(u:∃n,Inv n a w)
  (round:∀n a w,Inv n a w->c.wp P (Exit.then (λg w'=>∃f,f<n/\Inv f g w') Q) a w):(Code.loop c).wp P Q a w:=by
 let m:Act->World->Nat:=λa w=>if h:∃n,Inv n a w then Classical.choose (Ma _ h)else 0
 have hm:∀a w (h:∃n,Inv n a w),Inv (m a w) a w/\∀k,Inv k a w->m a w<=k:=λa w h=>by
  grind
 refine wp_loop (λa w=>∃n,Inv n a w) m u λa w z=>?_;obtain⟨h1,h2⟩:=hm a w z;refine Code.wp_mono (λe g w' q=>?_) (round _ a w h1);grind
section
variable{P:Program}{R:Ending->Mem->Prop}{O V0:Mem}{w0:World}{fs:List Nat}{H:CJ}
theorem Bg.weak{L:List (List Value->Mem->Prop)}{ρ0 f:List Value}{N:Nat}{tmps:Array Value}{w:World}{st:St}{t:Tr}(h:Bg P R O V0 w0 N L f tmps w st t)(u:ρ0<+:f):Bg P R O V0 w0 N L ρ0 tmps w st t:=by
 obtain⟨β,ρ,V,g,z,y⟩:=h;exact⟨β,ρ,V,⟨u.trans g.1,g.2⟩,z,y⟩
theorem ex_sound(Z:Ez P fs)(hm:P.follows .mixedOrders=true):∀(c:Code)(L:List (List Value->Mem->Prop))(ρ0:List Value)(st:St)(k:Ex->St->Tr)(a:Act)(w:World)(Q:Exit->Act->World->Prop),
  F7 R V0 w0 a.defers Q->Bg P R DI V0 w0 H.N L ρ0 a.tmps w st (ex P fs H c st k)->
  (∀e g l w' F,L<+:F->l.defers=a.defers->Bg P R DI V0 w0 H.N F ρ0 l.tmps w' g (k e g)->Q e.toExit l w')->c.wp P Q a w:=by
 intro c;induction c with
 |skip=>intro L ρ0 st k a w Q z h f;exact wp_skip (f .normal st a w L (yk _) rfl h)
 |ret=>intro L ρ0 st k a w Q z h f;exact wp_ret (f .ret st a w L (yk _) rfl h)
 |exit id=>intro L ρ0 st k a w Q z h f;exact wp_exit (f (.exit id) st a w L (yk _) rfl h)
 |seq x y X B=>
  intro L ρ0 st k a w Q z h f;refine wp_seq (X L ρ0 st _ a w _ z h λe g l w' F hL M q=>?_);cases e with
  |normal=>exact B F ρ0 g k l w' Q (by grind) q λe st'' a'' w'' L'' hL' hd' hg'=>f e st'' a'' w'' L'' (hL.trans hL') (hd'.trans M) hg'
  |exit i=>exact f (.exit i) g l w' F hL M q
  |ret=>exact f .ret g l w' F hL M q
 |block id b ih=>
  intro L ρ0 st k a w Q z h f;refine wp_block (ih L ρ0 st _ a w _ z h λe g l w' F hL M q=>?_);cases e with
  |normal=>exact f .normal g l w' F hL M q
  |exit i=>
   simp only at q;show(if i=id then Q .normal l w' else Q (.exit i) l w');split;·rename_i e;rw[if_pos e]at q;exact f .normal g l w' F hL M q
   ·rename_i e;rw[if_neg e]at q;exact f (.exit i) g l w' F hL M q
  |ret=>exact f .ret g l w' F hL M q
 |cond c x y X B=>
  intro L ρ0 st k a w Q z h f;obtain⟨β,ρ,V,A,Y,u⟩:=h;simp only[ex]at u;split at u
  ·rename_i v hv;have he:a.eval c=.bool v:=Bx Y hv;cases v with
   |true=>exact wp_cond_true he (X L ρ0 st k a w Q z ⟨β,ρ,V,A,Y,u⟩ f)
   |false=>exact wp_cond_false he (B L ρ0 st k a w Q z ⟨β,ρ,V,A,Y,u⟩ f)
  ·rename_i t _ ht;split at u
   ·rename_i hc;obtain⟨hc1,hc2⟩:=hc;obtain⟨b,hb⟩:=GF (ρ:=ρ) (β:=β) hc1;have he:a.eval c=.bool b:=(Bx Y ht).trans hb;have hfr:=(T.ev_free (β:=id) (β':=β) (ρ:=ρ) t hc2).1;split at u
    ·rename_i d;simp only[D,hfr,hb,asB]at u;have W:Rel DI V0 w0 H.N β (st.now d (.bool b)) ρ V a.tmps w:=Y.now (t:=t) ht (by rw[hb];rfl);cases b with
     |true=>exact wp_cond_true he (X L ρ0 _ k a w Q z ⟨β,ρ,V,A.now _ _,W,u.1 rfl⟩ f)
     |false=>exact wp_cond_false he (B L ρ0 _ k a w Q z ⟨β,ρ,V,A.now _ _,W,u.2 rfl⟩ f)
    ·simp only[D,hfr,hb,asB]at u;cases b with
     |true=>exact wp_cond_true he (X L ρ0 _ k a w Q z ⟨β,ρ,V,A,Y,u.1 rfl⟩ f)
     |false=>exact wp_cond_false he (B L ρ0 _ k a w Q z ⟨β,ρ,V,A,Y,u.2 rfl⟩ f)
   ·exact u.elim
  ·exact u.elim
 |region id ops draw=>
  intro L ρ0 st k a w Q z h f;cases draw with
  |true=>exact PO Z hm z h (λ⟨_,_,h⟩=>h.elim) λg l w' M q=>f .normal g l w' L (yk _) M q
  |false=>
   refine wp_region_list (Js Z ops.toList st a w z h λg l w' M q=>f .normal g l w' L (yk _) M q)
 |loop b ih=>
  intro L ρ0 st k a w Q z h f;obtain⟨β,ρ,V,A,Y,u⟩:=h;simp only[ex,exLoop]at u;generalize dedup (G9 b)=ws at u;generalize(((Ha b).bind λi=>H.loops.lookup i).getD [])=hint at u;obtain⟨g,t,q,hfree,β',E,V',K,hr',m⟩:=ER _ _ _ _ ⟨β,ρ,V,A,Y,u⟩;split at m;case isFalse=>exact m.elim
  rename_i hw;split at m;·exact m.elim
  ·rename_i st1 bs hgb;split at m;·exact m.elim
   ·rename_i init hinit;split at m;case isFalse=>exact m.elim
    rename_i hok;simp only[D]at m;obtain⟨I,μ,hI,S⟩:=m;obtain⟨hrh,hsh⟩:=Ku hw hr'.nv (yk _) hgb hinit hok hr';let Inv:Nat->Act->World->Prop:=λn l w'=>∃β xs V',Shaped (bs.flatMap (·.2.2)++(CN ws st1).2.flatMap (·.2.2)) xs/\I xs V'/\μ xs V'=n/\
     Rel DI V0 w0 H.N β {(CN ws st1).1 with depth:=g.depth+1} (E++xs) V' l.tmps w'/\l.defers=a.defers
    refine wp_loop_rel Inv ⟨_,β',init.evs E id,V',hsh,hI,rfl,hrh,rfl⟩ ?_;rintro n a1 w1 ⟨β1,xs,V1,hsh1,hI1,rfl,hr1,U⟩;have hDb:=S xs V1 hsh1 hI1;refine ih (L++[λys C=>I ys C/\μ ys C<μ xs V1]) E _ _ a1 w1 _ (by rw[U];exact z) ⟨β1,E++xs,V1,⟨yG _ _,?_⟩,hr1,hDb⟩ ?_;·simp[K.2]
    ·intro e st2 a2 w2 L2 hL2 hd2 hg2;cases e with
     |normal=>
      obtain⟨β2,ρ2,V2,hp2,hr2,G⟩:=hg2;simp only at G;split at G
      ·rename_i vs hvs;split at G
       ·rename_i hok2;simp only[D]at G;obtain⟨J,hJ,hJ2⟩:=G;have hlvl:L2[g.depth]?=some (λys C=>I ys C/\μ ys C<μ xs V1):=by
         obtain⟨σ,rfl⟩:=hL2;rw[<-K.2,List.getElem?_append_left (by simp),yW (yq _)];simp
        rw[hlvl]at hJ;simp only[zG]at hJ;subst hJ;obtain⟨hrh2,hsh2⟩:=Ku hw hr'.nv hp2.1 hgb hvs hok2 hr2;exact⟨_,hJ2.2,β2,vs.evs ρ2 id,V2,hsh2,hJ2.1,rfl,hrh2,hd2.trans U⟩
       ·exact G.elim
      ·exact G.elim
     |exit i=>exact f (.exit i) st2 a2 w2 L2 ((yG _ _).trans hL2) (hd2.trans U) (hg2.weak K.1)
     |ret=>exact f .ret st2 a2 w2 L2 ((yG _ _).trans hL2) (hd2.trans U) (hg2.weak K.1)
 |rangeFunc _ _ _ _ _ _=>intro L ρ0 st k a w Q z h f;obtain⟨β,ρ,V,A,Y,u⟩:=h;exact u.elim
 |scope _ _=>intro L ρ0 st k a w Q z h f;obtain⟨β,ρ,V,A,Y,u⟩:=h;exact u.elim
 |label _=>intro L ρ0 st k a w Q z h f;obtain⟨β,ρ,V,A,Y,u⟩:=h;exact u.elim
 |goto _=>intro L ρ0 st k a w Q z h f;obtain⟨β,ρ,V,A,Y,u⟩:=h;exact u.elim
 |refuse _=>intro L ρ0 st k a w Q z h f;obtain⟨β,ρ,V,A,Y,u⟩:=h;exact u.elim
end
end Go.Sx
