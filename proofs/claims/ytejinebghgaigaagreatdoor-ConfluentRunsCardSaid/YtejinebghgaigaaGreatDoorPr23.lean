/- Part 23: no statement of the seat is proved here. -/
import Derived.Test.YtejinebghgaigaaGreatDoorPr19
import Derived.Test.YtejinebghgaigaaGreatDoorPr22
set_option linter.unusedVariables false
set_option linter.unusedSimpArgs false
open Nat renaming le_add_right->uN,zero_le->vj
open List renaming getD_eq_getElem?_getD->vp,getElem?_map->y4,mem_of_getElem?->xJ,mem_cons_self->zc,mem_cons_of_mem->zb,length_cons->zy,length_map->xm,mem_append->xh
open Option.some renaming inj->vK
namespace Go.Proofs
open Go Go.Sx
def DF(l:List (Int×Int×Int)):Nat:=(l.filter λa=>decide (a.1=2)).length
theorem LG(l k:List (Int×Int×Int)):DF (l++k)=DF l+DF k:=by simp[DF]
theorem LH(a:Int×Int×Int)(l:List (Int×Int×Int)):DF (a::l)=(if a.1=2 then 1 else 0)+DF l:=by
 grind[DF]
def Wk(k:Nat)(s s':St):Prop:=DF s'.lg+s.tk<=DF s.lg+s'.tk+k
section
variable{α β:Type}{k n:Nat}{s t u:St}
theorem Wk.refl:Wk k s s:=uN _ _
theorem Wk.le(h:Wk k s t)(g:k<=n):Wk n s t:=by unfold Wk at*;omega
theorem Wk.trans(h:Wk k s t)(g:Wk n t u):Wk (k+n) s u:=by unfold Wk at*;omega
theorem Wk.bind{r:Rx α}{f:α->St->Rx β}(h:Wk k s r.st)(g:∀v t,Wk n t (f v t).st):Wk (k+n) s (r.bind f).st:=by
 cases r with
 |ok v t=>exact h.trans (g v t)
 |bad c t=>exact Wk.le h (uN _ _)
theorem Wk.bind0{r:Rx α}{f:α->St->Rx β}(h:Wk 0 s r.st)(g:∀v t,Wk 0 t (f v t).st):Wk 0 s (r.bind f).st:=h.bind (n:=0) g
theorem Ft{c:Prop}[Decidable c]{a b:Rx α}(h:Wk k s a.st)(g:Wk k s b.st):Wk k s (if c then a else b).st:=by
 grind
theorem lift_wk{r:Rs}:Wk k s (DG r s).st:=by cases r<;>exact Wk.refl
theorem note_wk{a f:Int}:Wk k s (s.note (1,a,f)):=by
 unfold Wk;show DF (s.lg++[(1,a,f)])+s.tk<=_;rw[LG];exact uN _ _
theorem cnt_wk{b:Bool}{op:Int}:Wk k s (DC b op s):=by
 unfold DC;split<;>exact Wk.refl
end
section
variable{d:Ds}{F:Nat}{s:St}
theorem kid_wk{f:E->St->Rx Int}{l:List E}(h:∀e∈l,∀s,Wk 0 s (f e s).st)(i:Nat):Wk 0 s (BL (l.map f) i s).st:=by
 unfold BL;rw[vp,y4];cases g:l[i]? with
 |none=>exact Wk.refl
 |some e=>exact h e (xJ g) s
theorem seq_wk{f:E->St->Rx Int}:∀(l:List E)(acc:List Int)(s:St),(∀e∈l,∀s,Wk 0 s (f e s).st)->Wk 0 s (Dd (l.map f) acc s).st
 |[],_,_,_=>Wk.refl
 |e::l,acc,s,h=>by
  rw[List.map_cons,Dd];exact(h e zc s).bind0 λv t=>seq_wk l _ t λe g=>h e (zb _ g)
theorem ev_wk{C:Cf}(z:∀i args s,Wk 0 s (C i args s).st){p:Pr}{vals:List Int}:∀(e:E)(s:St),Wk 0 s (C0 d C p vals e s).st:=by
 intro e;induction e using E.ind with
 |h e f=>
 intro s;rw[IX];have K:∀(i:Nat)(s:St),Wk 0 s (BL (e.k.map (C0 d C p vals)) i s).st:=λi s=>kid_wk (λe g s=>f e g s) i;unfold C5;refine Ft ?_ ?_;·exact Wk.refl
 refine Ft ?_ ?_;·exact Wk.refl
 refine Ft ?_ ?_
 ·unfold varX;split;·exact Wk.refl
  ·exact note_wk
 refine Ft ?_ ?_
 ·refine(K 0 s).bind0 λv t=>?_;unfold fldX;split;·exact Wk.refl
  split;·exact Wk.refl
  ·exact note_wk
 refine Ft ?_ ?_
 ·unfold newX;split;·exact Wk.refl
  ·unfold Wk;show DF (s.lg++[_])+s.tk<=_;rw[LG];exact Nat.le_refl _
 refine Ft ?_ ?_;·exact(seq_wk _ _ s λe g s=>f e g s).bind0 λl t=>z _ l t
 refine Ft ?_ ?_;·exact(K 0 s).bind0 λv t=>lift_wk
 refine Ft ?_ ?_;·exact(K 0 s).bind0 λv t=>Wk.refl
 refine Ft ?_ ?_;·exact(K 0 s).bind0 λv t=>Wk.refl
 refine Ft ?_ ?_
 ·refine(K 0 s).bind0 λv t=>?_;split;·exact Wk.refl
  ·exact K 1 t
 refine Ft ?_ ?_
 ·refine(K 0 s).bind0 λv t=>?_;split;·exact K 1 t
  ·exact Wk.refl
 refine Ft ?_ ?_
 ·refine(K 0 s).bind0 λv t=>?_;grind
 ·exact(K 0 s).bind0 λv t=>(K 1 t).bind0 λw u=>by
   have:=cnt_wk (k:=0) (s:=u) (b:=intB d (Av d p) e.k) (op:=e.op);cases Bg e.op v w<;>exact this
theorem call_wk{Sn:Sf}(hS:∀c p l vals s,Wk 0 s (Sn c p l vals s).st)(c:Nat)(i:Int)(args:List Int)(s:St):Wk 0 s (CA d Sn c i args s).st:=by
 unfold CA;split;·exact Wk.refl
 split;·exact Wk.refl
 ·exact(hS _ _ _ _ _).bind0 λv t=>Wk.refl
theorem tick_wk{α:Type}{f:Unit->St->Rx α}(h:∀t,Wk 1 t (f () t).st):Wk 0 s ((EV F s).bind f).st:=by
 unfold EV;split;·exact Wk.refl
 ·have:=h {s with tk:=s.tk+1};unfold Wk at*
  show DF (f () {s with tk:=s.tk+1}).st.lg+s.tk<=_;have e:({s with tk:=s.tk+1}:St).lg=s.lg:=rfl;have g:({s with tk:=s.tk+1}:St).tk=s.tk+1:=rfl;rw[e,g]at this;show _<=DF s.lg+(f () {s with tk:=s.tk+1}).st.tk+0;omega
section
variable{Sn:Sf}(hS:∀c p l vals s,Wk 0 s (Sn c p l vals s).st){c:Nat}{p:Pr}
include hS
theorem Ir{vals:List Int}{e:E}:Wk 0 s (CT d Sn c p vals e s).st:=ev_wk (call_wk hS c) e s
theorem wh_wk{cond:E}{body:List S}:∀(n:Nat)(vals:List Int)(s:St),Wk 0 s (DY d F Sn c p cond body n vals s).st
 |0,_,_=>Wk.refl
 |n+1,vals,s=>by
  rw[DY];refine(Ir hS).bind0 λv t=>?_;split;·exact Wk.refl
  ·refine(hS c p body vals t).bind0 λr u=>?_;split;·exact Wk.refl
   ·exact tick_wk λt=>(wh_wk n r.1 t).le (vj _)
theorem body_wk{n:Nat}{x:S}{vals:List Int}:Wk 1 s (EJ d F Sn c p n x vals s).st:=by
 unfold EJ;split
 ·refine Wk.bind (k:=0) (n:=1) (Ir hS) λv t=>?_;unfold setX;split;·exact Wk.refl
  ·unfold Wk;show DF (t.lg++[_])+t.tk<=DF t.lg+t.tk+1;grind[DF]
 split
 ·refine Wk.bind (k:=0) (n:=1) (Ir hS) λv t=>Wk.bind (k:=0) (n:=1) (Ir hS) λw u=>?_;refine Wk.bind (k:=1) (n:=0) ?_ λ_ _=>Wk.refl;unfold putX;split;·exact Wk.refl
  split;·exact Wk.refl
  ·unfold Wk;show DF (u.lg++[_])+u.tk<=DF u.lg+u.tk+1;rw[LG];show DF u.lg+1+u.tk<=_;omega
 split
 ·refine((Ir hS).bind0 λv t=>?_).le (vj _);grind
 split;·exact(wh_wk hS n vals s).le (vj _)
 split
 ·split;·exact Wk.refl
  ·exact((Ir hS).bind0 λ_ _=>Wk.refl).le (vj _)
 split;·exact((Ir hS).bind0 λ_ _=>Wk.refl).le (vj _)
 ·exact Wk.refl
theorem st_wk{n:Nat}{x:S}{vals:List Int}:Wk 0 s (DH d F Sn c p n x vals s).st:=tick_wk λ_=>body_wk hS
end
theorem list_wk{f:S->List Int->St->Rx Rt}(h:∀x vals s,Wk 0 s (f x vals s).st):∀(l:List S)(vals:List Int)(s:St),Wk 0 s (DR f l vals s).st
 |[],_,_=>Wk.refl
 |x::l,vals,s=>by
  rw[DR];refine(h x vals s).bind0 λr t=>?_;split;·exact Wk.refl
  ·exact list_wk h l r.1 t
theorem sts_wk:∀n c p l vals s,Wk 0 s (A9 d F n c p l vals s).st
 |0,_,_,_,_,_=>Wk.refl
 |n+1,_,_,l,vals,s=>list_wk (λ_ _ _=>st_wk (sts_wk n)) l vals s
theorem play_wk{i:Int}{args:List Int}:Wk 0 s (BP d F i args s).st:=call_wk (sts_wk (F+1)) 0 i args s
end
theorem tra_w{x y:Gm}{l:List (Int×Int×Int)}(h:Ev x l y):∃W:List Int,W.length=DF l/\(∀(i:Nat) v,y.1[i]?=some v->x.1[i]?=some v∨v∈W)/\∀(k i:Nat) t f v,y.2[k]?=some (t,f)->f[i]?=some v->v=0∨v∈W∨∃r,x.2[k]?=some (t,r)/\r[i]?=some v:=by
 induction h with
 |nil=>exact⟨[],rfl,λi v h=>.inl h,λk i t f v h e=>.inr (.inr ⟨f,h,e⟩)⟩
 |rd _ z=>
  grind[LH]
 |@wg g ns y l i v hi _ z=>
  obtain⟨W,h1,h2,h3⟩:=z;refine⟨v::W,by grind[zy,LH],λj w hw=>?_,λk j t f w o hw=>?_⟩;·grind
  grind
 |@wf g ns y l k i ty v f H hi _ z=>
  obtain⟨W,h1,h2,h3⟩:=z;refine⟨v::W,by grind[zy,LH],λj w hw=>?_,λq j t r w o hw=>?_⟩;·grind
  grind
 |@al g ns y l ty n _ z=>
  obtain⟨W,h1,h2,h3⟩:=z;refine⟨W,by rw[h1,LH];simp,h2,λq j t r w o hw=>?_⟩;grind
section
variable{d:Ds}{m m':Mm}
theorem Nw{P:Int->Prop}{g:Sr->Int->Sr}(f:∀st n,P n->(∀x∈st.order,P x)->∀x∈(g st n).order,P x):∀(l:List Int)(st:Sr),(∀y∈l,P y)->(∀x∈st.order,P x)->∀x∈(l.foldl g st).order,P x
 |[],_,_,h=>h
 |y::l,st,w,h=>Nw f l _ (λz j=>w z (zb _ j)) (f st y (w y zc) h)
theorem ent_from{P:Int->Prop}(g:∀n y,y∈nodeTgt d m n->P y):∀(f:Nat)(st:Sr)(n:Int),P n->(∀x∈st.order,P x)->∀x∈(Ba d m f st n).order,P x
 |0,_,_,_,h=>h
 |f+1,st,n,z,h=>by
  rw[Ba];split;·exact h
  ·refine Nw (λst n=>ent_from g f st n) _ _ (λy w=>g n y w) λx j=>?_;grind
theorem reach_from{P:Int->Prop}(h:∀y∈CV d.globals m.globals,P y)(g:∀n y,y∈nodeTgt d m n->P y):∀x∈(AS d m).order,P x:=
 Nw (λst n=>ent_from g _ st n) _ ⟨[],0⟩ h λx f=>by cases f
theorem sub_len:∀(l c:List Int),l.Nodup->(∀x∈l,x∈c)->l.length<=c.length
 |[],_,_,_=>vj _
 |a::l,c,g,h=>by
  have f:a∈c:=h a zc;have w:=sub_len l (c.erase a) (List.nodup_cons.1 g).2 λx z=>by
   grind
  grind
theorem right_rng{t:KB}{v:Int}(h:AJ d m t v=true)(g:AC t=false)(f:v≠0):1<=v/\v<=(m.nodes.length:Int):=by
 simp_all[Nl,AJ,if_neg,decide_eq_true_eq,absurd]
theorem can_len{l:List (Int×Int×Int)}(G:Bs d m=true)(q:Bs d m'=true)(h:Ev m.plain l m'.plain):(Cn d m').2.length<=m.nodes.length+DF l:=by
 obtain⟨W,Q,o,e⟩:=tra_w h;obtain⟨p1,P,p3,v,H⟩:=BD G;have R:=FI q;show((AS d m').order.map _).length<=_;rw[xm];have key:∀x∈(AS d m').order,x∈(List.range m.nodes.length).map (λi:Nat=>(i:Int)+1)++W:=by
  have j:∀y:Int,1<=y/\y<=(m.nodes.length:Int)->y∈(List.range m.nodes.length).map (λi:Nat=>(i:Int)+1)++W:=λy g=>List.mem_append_left _ (List.mem_map.2 ⟨(y-1).toNat,List.mem_range.2 (by omega),by omega⟩);refine reach_from (λy g=>?_) λn y g=>?_
  ·obtain⟨i,f,h1,h2,h3,h4⟩:=Gi.1 g;rcases o i y h2 with h|h;·exact j y (right_rng ((Cm.1 v).2 i f y h1 h) h3 h4)
   simp_all
  ·unfold nodeTgt at g;cases J:m'.nodes[(n-1).toNat]? with
   |none=>simp_all
   |some x=>
    rw[J]at g;obtain⟨i,f,h1,h2,h3,h4⟩:=Gi.1 g;rcases e (n-1).toNat i x.ty x.f y (by show(m'.nodes.map _)[_]?=_;simp_all) h2 with h|h|⟨f',w,e2⟩
    ·omega
    ·simp_all
    ·have w:(m.nodes.map λn=>(n.ty,n.f))[(n-1).toNat]?=some (x.ty,f'):=w;rw[y4]at w;cases r:m.nodes[(n-1).toNat]? with
     |none=>simp_all
     |some z=>
      rw[r]at w;have Z:z.ty=x.ty:=congrArg Prod.fst (vK w);have Y:z.f=f':=congrArg Prod.snd (vK w);exact j y (right_rng ((Cm.1 (H z (xJ r))).2 i f y (Z▸h1) (Y▸e2)) h3 h4)
 have:=sub_len _ _ R.dup key;simp_all
theorem run_len{F:Nat}{i:Nat}{pr:Pr}{args:List Int}(f:∀p∈d.procs,D0 d p)(h:d.procs[i]?=some pr)(G:Am d m)(z:Aw d m pr.params args=true):(Cn d (BP d F i args (AR m)).st.mm).2.length<=m.nodes.length+F:=by
 have g:Aw d (AR m).mm pr.params args=true:=BQ (λh=>Ie (Ge m).symm h) z;have S:=K2 (F:=F) f h (Hz G) g;obtain⟨l,y,j⟩:=S.gr.tr;have w:=play_wk (d:=d) (F:=F) (i:=i) (args:=args) (s:=AR m);have fu:=S.gr.fu (vj _);unfold Wk at w;rw[y,LG]at w;have r:=can_len (m:=m) (m':=(BP d F i args (AR m)).st.mm) (l:=l) G.mem S.good.mem (by
  rw[St.plain];exact j)
 omega
end
end Go.Proofs
namespace Go.Proofs
open Go Go.Sx
attribute [local irreducible] Go.Sx.Tri
def Sm(N:Nat)(ps:List PV):Prop:=∀v∈ps,v.m.2.length<=N
section
variable{d:Ds}{ps:List PV}{N K:Nat}{x:Sp}
theorem Sm.le(h:Sm N ps)(g:N<=K):Sm K ps:=λv hv=>Nat.le_trans (h v hv) g
theorem Sm.start{m:List Int}{n:Int}{l:List Int}:Sm 200 [⟨(m,[]),l,n⟩]:=λv hv=>by simp_all
theorem Sm.at_(h:Sm N ps)(v:Int):(A4 ps v).nodes.length<=N:=by
 unfold A4;rw[vp];cases e:ps[v.toNat]? with
 |none=>exact vj _
 |some x=>
  show(x.m.2.map _).length<=N;rw[xm];exact h x (xJ e)
theorem uni_len{x y:Mm}(h:Am d y):(BR d x y).2.length<=x.nodes.length+y.nodes.length:=by
 have g:=(FI (J7 h).mem).cap;grind[C1,AS,BU,Cn,BR]
theorem stM_len{F:Nat}(G:Ew d ps)(g:Sm N ps)(h:BV d F ps x=0):(stM d ps x).nodes.length<=2*N:=by
 obtain⟨-,-,hv⟩:=st_zero (F:=F) G h;unfold stM;split
 ·rename_i hm;have f:BZ ps x.b:=hv x.b (by grind[Fa]);have h1:=uni_len (x:=A4 ps x.a) (G.mem f);have h2:=g.at_ x.a;have h3:=g.at_ x.b;show((BR d (A4 ps x.a) (A4 ps x.b)).2.map _).length<=_;grind
 ·have:=g.at_ x.a;omega
theorem step_len{F:Nat}{F':Nat}(G:Ew d ps)(f:Sm N ps)(h:BV d F ps x=0):(Cn d (Cp d F' ps x).st.mm).2.length<=2*N+F':=by
 obtain⟨g,w,-⟩:=st_zero (F:=F) G h;obtain⟨i,pr,h1,h2,h3⟩:=Je w;have h4:=stM_len (F:=F) G f h;have z:=run_len (F:=F') (I1 g.valid g.chk) h2 g h3;grind[Cp]
theorem Sm.next{r:Rx Int}{par:List Int}{er:Int}(g:Sm N ps)(f:N<=K)(h:er=0->(Cn d r.st.mm).2.length<=K):Sm K (Cg d r ps par er):=by
 unfold Cg runV;split
 ·rename_i w;split
  ·intro v hv;rcases xh.1 hv with hv|hv;·exact Nat.le_trans (g v hv) f
   ·rw[List.mem_singleton.1 hv];exact h w
  ·exact g.le f
 ·exact g.le f
theorem Sm.last{r:Rx Int}{par:List Int}{er:Int}{m:Mm}{v:Int}(h:Sm N ps)(hm:m.plain=((Cg d r ps par er).getD v.toNat Fs).m)(y:m.nodes.length<=N)(hv:v=((Cg d r ps par er).length:Int)-1):Sm N (Cg d r ps par er):=by
 have g:m.nodes.length=((Cg d r ps par er).getD v.toNat Fs).m.2.length:=by
  grind[Mm.plain]
 unfold Cg runV at g hv⊢;split
 ·rename_i f;rw[if_pos f]at g hv;split
  ·rename_i z;rw[if_pos z]at g hv;intro w hw;rcases xh.1 hw with hw|hw;·exact h w hw
   simp_all
  ·exact h
 ·exact h
end
def PlayS(V:Mem)(d:Ds)(n:Nat):Ending->Mem->Prop:=λe V'=>V.sub V'/\
 ((¬Am d (Ch d Aj)/\e=.returned (.tuple #[.pointer none,RB,.bool true]))∨
 (Am d (Ch d Aj)/\∃(p:Nat)(D:Mem)(P M:Sl)(ps:List PV),e=.returned (.tuple #[pv p,Fb d P M,.bool true])/\V.sub D/\CF D V' p d ps/\Dg D P M ps/\ps.length<=1+n/\Sm 520 ps))
section
variable{V D:Mem}{d:Ds}{p:Nat}{ps:List PV}
theorem cS19[Tab V](q:Ds.Ok V d){l:Sl}{xs:List Sp}(hl:HH V l xs)(hxs:xs.length<=800):Tri Tryz.prog 19 #[d.v,l.v] V (PlayS V d xs.length):=by
 obtain⟨R,hR⟩:∃R,R=PlayS V d xs.length:=⟨_,rfl⟩;rw[<-hR];refine Qy ?_;refine Tri.mono (OU q) ?_;rintro _ V1 ⟨s1,⟨hG,rfl⟩|⟨G,p,D,v,rfl,hD,hv,hpv,hcl,B⟩⟩
 ·refine⟨_,_,rfl,(OS (q.sub s1)).call ⟨_,rfl,λh=>absurd (good_iff.1 h) hG,λ_=>⟨λ_=>?_,λh=>absurd rfl h⟩⟩⟩;rw[hR];exact⟨s1,.inl ⟨hG,rfl⟩⟩
 refine⟨_,_,rfl,(OS (q.sub s1)).call ⟨_,rfl,λ_=>?_,λh=>absurd (good_iff.2 G) h⟩⟩;have A1:=CF.new G hv hpv hcl B;refine Tri.mono (A1.run (R:=λe U'=>∃P M:Sl,e=.returned (Fb d P M)/\Dg U' P M [⟨(Ch d Aj).plain,[],1⟩]) λU Z=>RA (q.sub (hD.trans Z)) (JX G.valid).1) ?_;rintro _ V3 ⟨D3,hD3,⟨P,M,rfl,hRf⟩,A3⟩;refine⟨_,_,_,_,_,_,_,_,_,_,rfl,λ_=>⟨λh=>absurd h nn,λ_=>?_⟩,λh=>absurd rfl h⟩;have d3:=hD.trans hD3;refine⟨λr ys V4=>∃(j:Nat)(P M:Sl)(Y:Mem)(ps:List PV),r=xs.length-j/\j<=xs.length/\ys=[.string d.name,d.ts.v,d.gs.v,d.ps.v,d.ms.v,d.is.v,d.qs.v,d.bs.v,.slice P.p P.n P.c,.slice M.p M.n M.c,.pointer none,.bool false,.int .i64 j]/\D3.sub Y/\CF Y V4 p d ps/\Dg Y P M ps/\ps.length<=1+j/\Sm 200 ps,xs.length,⟨0,P,M,D3,_,rfl,vj _,rfl,Mem.sub.refl _,A3,hRf,by simp,Sm.start⟩,?_⟩;rintro r V4 v22 v23 v24 v25 v26 v27 v28 v29 P4 M4 v32 v33 v34 ⟨j,P',M',Y,ps,rfl,hj,W,Q,T,w,hpl,f⟩ J hJ;simp only[List.cons.injEq,and_true]at W;obtain⟨q1,q2,q3,q4,q5,q6,q7,q8,q9,q10,q11,q12,q13⟩:=W;cases inj_s _ _ q1;cases Bw _ _ q2;cases Bw _ _ q3;cases Bw _ _ q4;cases Bw _ _ q5;cases Bw _ _ q6;cases Bw _ _ q7;cases Bw _ _ q8;cases Bw _ _ q9;cases Bw _ _ q10;cases inj_p _ _ q11;cases inj_b _ _ q12;cases CY _ _ q13;have o:=d3.trans Q;have e4:=T.sub;have O:∀{D' V':Mem}{P M:Sl}{ps:List PV},V.sub D'->CF D' V' p d ps->Dg D' P M ps->ps.length<=1+xs.length->Sm 520 ps->R (.returned (.tuple #[pv p,Fb d P M,.bool true])) V':=λh1 h2 h3 h4 h5=>by
  rw[hR];exact⟨h1.trans h2.sub,.inr ⟨G,p,_,_,_,_,rfl,h1,h2,h3,h4,h5⟩⟩
 have A:=hl.sub (o.trans e4);refine⟨λz=>?_,λhge=>O o T w (by omega) (f.le (by decide))⟩;obtain⟨x,I,hx,-,hjl,hp,hz,L⟩:=A.rows.get z;have GV:=T.gv;obtain⟨vs,k,rfl,H⟩:=T;rw[xm]at hpl;haveI:Tab Y:=Tab.sub (V:=V) inferInstance o;refine⟨hp,hz,z,_,_,_,_,_,L,Tri.mono (Rq H (q.sub o) ((hl.args x I).sub o) (by omega)) ?_⟩;rintro _ V5 ⟨D5,y,A5,rfl⟩;obtain⟨a1,a2,a3,a4,a5,eo⟩:=resO_form (BV d 120 (vs.map Vr.pv) x) (Cp d (120:Int).toNat (vs.map Vr.pv) x);rw[resV_eq,eo];refine⟨_,_,_,_,_,_,_,rfl,?_⟩;have d5:=o.trans y;refine Tri.mono (A5.run (R:=λe U'=>∃P' M':Sl,Dg U' P' M' (Cg d (Cp d (120:Int).toNat (vs.map Vr.pv) x) (vs.map Vr.pv) (Fa x) (BV d 120 (vs.map Vr.pv) x))/\e=.returned (.tuple #[Fb d P' M',.int .i64 (resA (vs.map Vr.pv).length (BV d 120 (vs.map Vr.pv) x) (Cp d (120:Int).toNat (vs.map Vr.pv) x)),resO (BV d 120 (vs.map Vr.pv) x) (Cp d (120:Int).toNat (vs.map Vr.pv) x),.int .i64 (BV d 120 (vs.map Vr.pv) x)])) λU Z=>Rz (F:=120) (w.sub (y.trans Z)) GV (q.sub (d5.trans Z)) ((hl.args x I).sub (d5.trans Z)) (.inl (by decide)) (by grind)) ?_;rintro _ V6 ⟨D6,X,⟨P6,M6,g,rfl⟩,A6⟩;rw[eo];have C:=next_ne (d:=d) (r:=Cp d (120:Int).toNat (vs.map Vr.pv) x) (par:=Fa x) (er:=BV d 120 (vs.map Vr.pv) x) GV.ne;rw[xm]at C;have hM6:=g.lens.2;have i:=step_len (d:=d) (x:=x) (F:=120) (F':=(120:Int).toNat) GV f;have E:Sm 520 (Cg d (Cp d (120:Int).toNat (vs.map Vr.pv) x) (vs.map Vr.pv) (Fa x) (BV d 120 (vs.map Vr.pv) x)):=f.next (by decide) i;have hnz:0<(Cg d (Cp d (120:Int).toNat (vs.map Vr.pv) x) (vs.map Vr.pv) (Fa x) (BV d 120 (vs.map Vr.pv) x)).length:=List.length_pos_iff.2 C.1;obtain⟨m,S,hm2,hm3,hm4,hm5,hm6⟩:=(g.sub A6.sub).mem (v:=(M6.n:Int)-1) ⟨by omega,by omega⟩;have d6:=d5.trans X;refine⟨_,_,_,_,_,_,_,_,_,_,_,_,_,_,_,_,_,rfl,λ_=>⟨λ_=>⟨λ_=>⟨⟨by omega,by omega⟩,S,hm2,hm3,Ak S,_,_,hm4,λ_=>O d6 A6 g (by omega) E,λhle=>⟨A.rows.succ z,hJ _ _ _ (show xs.length-(j+1)<xs.length-j by omega) ⟨j+1,P6,M6,D6,_,rfl,hjl,rfl,Q.trans (y.trans X),A6,g,by omega,f.last hm6 (by rw[<-hm5.nodes.n_eq];omega) (by omega)⟩⟩⟩,λh=>absurd rfl h⟩,λh=>absurd ⟨rfl,rfl,rfl,rfl,rfl⟩ h⟩,λh=>absurd rfl h⟩
end
theorem LJ{V V' D f:Mem}{e sz:Nat}{s:Sl}{vs:List Value}(o:Sx.Own V V' e sz s vs)(w:D.sub f)(z:∀b,V b=none->D b=none/\f b=V' b):Sx.Own D f e sz s vs:=⟨w,o.len,by
 rcases o.at_ with h|⟨g,cur,a,b,c,dd⟩;·exact .inl h
 simp_all⟩
theorem lay_catch{V V' D f:Mem}{gs ns ls:Sl}{nd:List Nd}{st:St}(L:AP V V' gs ns ls nd st)(h:D.sub f)(g:∀b,V b=none->D b=none/\f b=V' b):AP D f gs ns ls nd st:=
 ⟨LJ L.glob h g,LJ L.nodes h g,LJ L.log h g,λn w=>LJ (L.fld n w) h g,L.eq,L.gf,L.ff⟩
theorem can_idem{d:Ds}{m:Mm}(G:Am d m):Cn d (Cd (Cn d m))=Cn d m:=by
 have h:Am d (Cd (Cn d m)):=Lk G Ls;have:=can_sim (sim_start G.mem Ls) (Hz G).mem (Hz h).mem;grind[Ji,Ge]
section
variable{V:Mem}{d:Ds}{l:Sl}{xs:List Sp}{nm:KB}{a b:Int}
theorem cG32{x y:Mm}(f:Ds.Ok V d)(w:Am d x)(z:Am d y)(i:Mm.Ok V x)(r:Mm.Ok V y)(h:Cn d x=Cn d y):PP 32 [d.v,x.v,y.v] V (.bool true):=by
 refine Bv.mk (Py ?_);refine Tri.mono (Ll w f i) ?_;rintro _ V1 ⟨g,a,rfl,q,o⟩;refine⟨_,_,rfl,Tri.mono (Ll z (f.sub g) (r.sub g)) ?_⟩;rintro _ V2 ⟨j,b,rfl,H,J⟩;have e:a.plain=b.plain:=by rw[JW w.mem o,JW z.mem J,h]
 refine⟨_,_,rfl,(Q1 (q.sub j) H).call ⟨_,rfl,?_⟩⟩;rw[decide_eq_true e];exact⟨rfl,g.trans j⟩
theorem RO{b t:Nat}{s:KB}(h:V b=some (cell (.string s) t)){x:Pr}:PP 27 [x.v,pv b] V (.bool (decide (x.name=s))):=by
 refine Pu ?_;exact⟨_,AG h,rfl,rfl⟩
theorem c6[Tab V](Q:Ds.Ok V d)(hl:HH V l xs):PP 6 [d.v,l.v,.int .i64 a,.int .i64 b,.string nm] V (.bool true):=by
 obtain⟨R,hR⟩:∃R:Ending->Mem->Prop,R=λe V'=>e=.returned (.bool true)/\V.sub V':=⟨_,rfl⟩;refine Bv.mk ?_;rw[<-hR];refine x6 ?_;unfold w6;have w:∀{V'},V.sub V'->R (.returned (.bool true)) V':=λh=>by simp_all
 refine c9.call ⟨_,rfl,λ_=>?_,λh=>absurd rfl h⟩;refine Tri.mono (RN Q hl) ?_;rintro _ _ ⟨rfl,bb,rfl,h10⟩;refine⟨_,rfl,λ_=>w (Mem.sub.refl _),λhbb=>⟨λ_=>w (Mem.sub.refl _),λ_=>?_⟩⟩;have h10:=h10 ((Bool.not_eq_true _).mp hbb);refine Tri.mono (cS19 Q hl (by omega)) ?_;rintro _ V3 ⟨O,⟨hG,rfl⟩|⟨G,p,D,P,M,ps,rfl,hD,A,hRf,hpl,hSm⟩⟩;·exact⟨_,_,_,_,_,_,_,_,_,_,_,_,rfl,λ_=>⟨λ_=>w O,λh=>absurd rfl h⟩,λh=>absurd rfl h⟩
 refine⟨_,_,_,_,_,_,_,_,_,_,_,_,rfl,λ_=>⟨λh=>absurd h nn,λ_=>?_⟩,λh=>absurd rfl h⟩;have GV:=A.gv;obtain⟨vs,k,rfl,H⟩:=A;have e3:=H.bs.sub;have T:=hRf.sub e3;rw[xm]at hpl;have hPn:P.n=vs.length:=by rw[hRf.lens.1,xm]
 have hvi:∀{v},BZ (vs.map Vr.pv) v->0<=v/\v<(vs.length:Int):=λh=>by grind[BZ]
 refine(c22 T).call ⟨_,rfl,λha=>(c22 T).call ⟨_,rfl,λhb b8 h8=>?_,λ_=>w O⟩,λ_=>w O⟩;have ha:BZ (vs.map Vr.pv) a:=of_decide_eq_true ha;have hb:BZ (vs.map Vr.pv) b:=of_decide_eq_true hb;have s6:=Mem.sub_new h8 (cell (.string nm) 9);have hc8:(V3.set b8 (cell (.string nm) 9)) b8=some (cell (.string nm) 9):=Mem.set_same _ _ _;obtain⟨V6,hV6⟩:∃V6,V6=V3.set b8 (cell (.string nm) 9):=⟨_,rfl⟩;show Tri _ _ _ (V3.set b8 (cell (.string nm) 9)) _;rw[<-hV6]at s6 hc8⊢;have I:=Q.sub (O.trans s6);refine(M0 (first:=[]) (caps:=[pv b8]) I.procs Tryz.call27 (λt=>decide (t.name=nm)) (λx _=>RO hc8)).call ⟨_,rfl,λ_=>w (O.trans s6),λhk=>?_⟩;have hk:¬AD d nm<0:=hk;obtain⟨i,hi,hpr⟩:=Im hk;have hn:=Q.procs.n_eq;have hil:=(List.getElem?_eq_some_iff.1 hpr).1;obtain⟨y,X,hy,-,-,hp,hz,hrow⟩:=I.procs.get (i:=i) (by omega);rw[hpr]at hy;cases hy;have hI:Ck (λt:Pr=>decide (t.name=nm)) d.procs=(i:Int):=hi;rw[hI];refine⟨hp,hz,by omega,_,_,_,_,_,hrow,(OY I (I.procsOk _ X)).call ⟨_,rfl,λhm=>?_,λ_=>w (O.trans s6)⟩⟩;have hm:CE d (Ct d nm)=true:=hm;obtain⟨f,g,gl,-,q2,q3,q4⟩:=Lv hm;obtain⟨W,hDW,hWV,L,S⟩:=H.bs.use;have B:∀{U:Mem},V3.sub U->∀x∈vs,Vr.Ok U x:=λh x hx=>((H.ok x hx).sub e3).sub h;refine Tri.mono (Nr (S.grow s6) (v:=a) (B s6) H.inv.good) ?_;rintro _ V7 ⟨s7,⟨o,-⟩|⟨-,x,gs,ns,nd,hx,rfl,Lx⟩⟩;·exact absurd (hvi ha) o
 have t7:=s6.trans s7;refine⟨_,_,_,rfl,Tri.mono (Nr (S.grow t7) (v:=b) (B t7) H.inv.good) ?_⟩;rintro _ V8 ⟨s8,⟨o,-⟩|⟨-,y,gs2,ns2,G5,hy,rfl,Ly⟩⟩;·exact absurd (hvi hb) o
 have hxm:=xJ hx;have X:=xJ hy;obtain⟨ax,px⟩:=Lf (B s6 x hxm).mem Lx;obtain⟨ay,py⟩:=Lf (B t7 y X).mem Ly;have GX:=(H.inv.good x hxm).plain px.symm;have GY:=(H.inv.good y X).plain py.symm;have t8:=t7.trans s8;have hd8:=Q.sub (O.trans t8);have cv:∀{U:Mem}{z:Mm},Ds.Ok U d->Mm.Ok U z->Am d z->PP 29 [d.v,z.v] U (.bool true):=λh1 h2 h3=>by
  have:=Oo h1 h2;rw[h3.mem]at this;exact this
 refine⟨_,_,_,rfl,λ_=>⟨λ_=>(cv hd8 (ax.sub s8) GX).call ⟨_,rfl,λ_=>(cv hd8 ay GY).call ⟨_,rfl,λ_=>?_,λh=>absurd rfl h⟩,λh=>absurd rfl h⟩,λh=>absurd rfl h⟩,λh=>absurd rfl h⟩;refine Tri.mono (O1 hd8 (ax.sub s8) ay GX GY q2 (by simp_all)) ?_;rintro _ V9 ⟨s9,u,rfl,hu,pu⟩;obtain⟨c,hc⟩:∃c,c=Co d ⟨gs,x.m.globals,ns,nd⟩ ⟨gs2,y.m.globals,ns2,G5⟩:=⟨_,rfl⟩;rw[<-hc];have c9:=s9 _ _ (s8 _ _ (s7 _ _ hc8));refine⟨_,_,_,rfl,nm,AG c9,λb9 h9=>?_⟩;have s10:=Mem.sub_new h9 (.cells #[.int .i64 c] 3 (0,0));have t9:=t8.trans s9;have J:=t9.trans s10;haveI:Tab (V9.set b9 (.cells #[.int .i64 c] 3 (0,0))):=Tab.sub (V:=V) inferInstance (O.trans J);obtain⟨e1,e2⟩:=Nt (d:=d) (x:=⟨gs,x.m.globals,ns,nd⟩) (y:=⟨gs2,y.m.globals,ns2,G5⟩) (x':=A4 (vs.map Vr.pv) a) (y':=A4 (vs.map Vr.pv) b) (by rw[Kb hx,EZ];exact px) (by rw[Kb hy,EZ];exact py);rw[e1]at pu;rw[e2]at hc;have hlen:=uni_len (d:=d) (x:=A4 (vs.map Vr.pv) a) (GV.mem hb);have hsa:=hSm.at_ a;have hsb:=hSm.at_ b;have hvm:DS d ((120:Nat):Int) (vs.map Vr.pv) a b nm=0:=by
  grind[DS]
 obtain⟨-,-,GU,hcl,-,-⟩:=Lw GV hvm;have pg:u.plain=(Cd (BR d (A4 (vs.map Vr.pv) a) (A4 (vs.map Vr.pv) b))).plain:=by rw[EZ,pu]
 have Gu:Am d u:=GU.plain pg.symm;have hcu:AQ d u nm [c]=0:=by grind[Ij]
 have hst:EX d u nm [c] ((120:Nat):Int)=0:=by grind[start_ok]
 refine Tri.mono (OH (F:=120) (Q.sub (O.trans J)) (hu.sub s10) (Gl (V:=V9) (b:=b9) c) (by decide)) ?_;rintro _ V11 (⟨hne,-⟩|⟨-,r,gs3,ns3,Ib,nd3,hr,L3,rfl⟩);·exact absurd hst hne
 have s11:=L3.sub;refine⟨_,_,_,_,_,_,_,_,rfl,nm,AG (s11 _ _ (s10 _ _ c9)),?_⟩;have t11:=J.trans s11;obtain⟨D',Z,B',hk'⟩:=H.bs.catch t11;have H':Ei D' V11 p d vs k:=⟨λv hv=>(H.ok v hv).sub Z,H.inv,B'⟩;haveI:Tab D':=Tab.sub (V:=V) inferInstance (hD.trans Z);have hvlen:vs.length<=900:=by omega
 refine Tri.mono (Nv (a:=a) (b:=b) H' (Q.sub (hD.trans Z)) (F:=120) (.inl (by decide)) (nm:=nm) (l:=Aj) (args:=[]) hvlen) ?_;rintro _ V12 ⟨D2,hD2,A2,rfl⟩;have e3':BV d 120 (vs.map Vr.pv) ⟨true,a,b,nm,Aj,[]⟩=0:=hvm;have e4:Cp d (120:Int).toNat (vs.map Vr.pv) ⟨true,a,b,nm,Aj,[]⟩=r:=by
  unfold Cp Ha stM;rw[hr,hc];show BP d 120 (AD d nm) [Co d (A4 (vs.map Vr.pv) a) (A4 (vs.map Vr.pv) b)] (AR (Cd (BR d (A4 (vs.map Vr.pv) a) (A4 (vs.map Vr.pv) b))))=_;rw[Ka pg]
 rw[e3',e4]at A2⊢;unfold resV;rw[if_pos rfl,xm];have t12:=(hD.trans Z).trans (hD2.trans A2.sub);refine⟨_,_,_,_,_,_,_,rfl,λ_=>⟨λ_=>⟨λ_=>⟨λho=>?_,λho=>?_⟩,λh=>absurd ⟨rfl,rfl,rfl,rfl,rfl⟩ h⟩,λh=>absurd rfl h⟩,λh=>absurd rfl h⟩
 ·have ho:DI r=0:=ho;rw[if_pos ho];have hnum:((vs.length:Nat):Int)=(P.n:Int):=by omega
  refine⟨λ_=>⟨λ_=>?_,λ_=>?_⟩,λh=>absurd hnum h⟩;·simp_all
  have e5:Cg d r (vs.map Vr.pv) (Fa ⟨true,a,b,nm,Aj,[]⟩) 0=vs.map Vr.pv++[newV d r (vs.map Vr.pv) [a,b]]:=by
   unfold Cg runV;rw[if_pos rfl,if_pos ho];rfl
  rw[e5]at A2;obtain⟨C,k2,E,H2⟩:=A2;have hl2:C.length=vs.length+1:=by
   have:=congrArg List.length E;simpa using this
  obtain⟨W2,hDW2,hWV2,L2,S2⟩:=H2.bs.use;have e12:=H2.bs.sub;refine Tri.mono (Nr S2 (v:=(vs.length:Int)) (λx hx=>(H2.ok x hx).sub e12) H2.inv.good) ?_;rintro _ V13 ⟨s13,⟨o,-⟩|⟨-,z,gs4,ns4,nd4,hz,rfl,Lz⟩⟩;·exact absurd ⟨by omega,by omega⟩ o
  have hzm:=xJ hz;obtain⟨az,pz⟩:=Lf ((H2.ok z hzm).sub e12).mem Lz;have GZ:=(H2.inv.good z hzm).plain pz.symm;have ez:z.m.plain=Cn d r.st.mm:=by
   have h1:(C.map Vr.pv)[vs.length]?=some z.pv:=by grind
   rw[E,List.getElem?_append_right (by simp)]at h1;simp only[xm,Nat.sub_self,List.getElem?_cons_zero,Option.some.injEq]at h1;exact(congrArg PV.m h1).symm
  obtain⟨j,q,hj,hq,hval⟩:=Je hcu;have Gr:Am d r.st.mm:=by
   rw[hr,hj];exact(K2 (F:=120) (I1 Gu.valid Gu.chk) hq (Hz Gu) (BQ (Ie (Ge u).symm) hval)).good
  have Y:=Q.sub (t12.trans s13);have L13:=((lay_catch L3 Z λb hb=>⟨free e3 (free J hb),hk' b (free J hb)⟩).grow (hD2.trans e12)).grow s13;obtain⟨aa,pa⟩:=JS (Q.sub hD) L13 Gr;have pa':(⟨gs3,r.st.g,ns3,nd3⟩:Mm).plain=r.st.mm.plain:=pa.trans (St.plain _).symm;have GA:=Gr.plain pa'.symm;refine⟨_,_,_,rfl,λ_=>(cv Y az GZ).call ⟨_,rfl,λ_=>(cv Y aa GA).call ⟨_,rfl,λ_=>(cG32 Y GZ GA az aa ?_).call ⟨_,rfl,w (t12.trans s13)⟩,λh=>absurd rfl h⟩,λh=>absurd rfl h⟩,λh=>absurd rfl h⟩;grind[Mm,Cd,Cn,EZ,Ji,can_idem,Gr]
 ·have ho:¬DI r=0:=ho;rw[if_neg ho];have e5:Cg d r (vs.map Vr.pv) (Fa ⟨true,a,b,nm,Aj,[]⟩) 0=vs.map Vr.pv:=by
   unfold Cg runV;simp_all
  rw[e5]at A2;obtain⟨C,k2,E,H2⟩:=A2;have hl2:C.length=vs.length:=by
   have:=congrArg List.length E;simpa using this
  obtain⟨W2,hDW2,hWV2,L2,S2⟩:=H2.bs.use;refine⟨λ_=>(Re S2).call ⟨_,rfl,?_⟩,λh=>absurd rfl h⟩;simp_all
end
end Go.Proofs
