/- Part 19: no statement of the seat is proved here. -/
import Derived.Test.YtejinebghgaigaaGreatDoorPc18
import Derived.Test.YtejinebghgaigaaGreatDoorPc16
import Derived.Test.YtejinebghgaigaaGreatDoorPc15
set_option linter.unusedVariables false
set_option linter.unusedSimpArgs false
open List renaming mem_map->vq,take_add_one->w8,length_append->zw,getElem?_append_left->xg,mem_append->xe,length_map->xi,getElem?_map->y6,getD_eq_getElem?_getD->vo,replicate->yK,getElem?_eq_some_iff->yu,mem_replicate->vn,take_of_length_le->wZ,all_eq_true->z7,mem_of_getElem?->xr,mem_singleton->zO
open Go.Proofs.Tryz renaming prog->xG
open Int renaming toNat_of_nonneg->vw,toNat_natCast->xu
open Nat renaming le_refl->yW
open Bool renaming and_eq_true->zC
open Option renaming map_map->vp
open Go.Value renaming int->xa,bool->vm
open Function renaming comp_def->vl
namespace Go.Proofs
open Go Go.Sx
attribute [local irreducible] Go.Sx.Tri
theorem loop3b{V:Mem}{β g:Type}{mk:β->Value}{mc:g->Value}{B:β->g->Int->Mem->(KZ)->Prop}{b0:β}{c0:g}(ib:∀x y,mk x=mk y->x=y)(j:∀x y,mc x=mc y->x=y)(len:Nat)(St:Nat->β->g->Mem->Prop)(r:St 0 b0 c0 V)
  (step:∀(i:Nat)(b:β)(c:g) V1 J,i<=len->St i b c V1->(i<len->∀f t V2,St (i+1) f t V2->J [mk f,mc t,.int .i64 ((i:Int)+1)] V2)->B b c (i:Int) V1 J):
  ∃(I:Nat->KZ)(q:Nat),I q [mk b0,mc c0,.int .i64 0] V/\∀n V1,∀b:β,∀c:g,∀v:Int,I n [mk b,mc c,.int .i64 v] V1->∀J:KZ,(∀m ys u,m<n->I m ys u->J ys u)->B b c v V1 J:=by
 refine⟨LI len λi xs V=>∃b c,xs=[mk b,mc c,.int .i64 i]/\St i b c V,len,LI.start ⟨b0,c0,rfl,r⟩,?_⟩;rintro n V1 b c v ⟨i,rfl,hi,f,t,z,s⟩ J H;simp only[List.cons.injEq,Value.int.injEq,true_and,and_true]at z;obtain⟨G,N,rfl⟩:=z;cases ib _ _ G;cases j _ _ N;exact step i b c V1 J hi s λw f t V2 h2=>LI.next H w ⟨f,t,rfl,h2⟩
theorem Ij{t:KB}(h:t=Aj∨t=Au):AF t=true:=by
 unfold AF;rcases h with rfl|rfl<;>simp
section
variable{V0 V:Mem}{d:Ds}{m:Mm}
theorem c147{s:Sl}{l:List Int}(h:Ad V s 1 (l.map Ak)){x:Int}:PP 147 [s.v,.int .i64 x] V (.int .i64 (CQ l x)):=by
 refine x147 ?_;refine AR (mk:=.int .i64) (b0:=0) l.length (λj V1=>V=V1/\Bb (λy:Int=>!decide (y=x)) l j) ⟨rfl,Bb.zero _ _⟩ ?_;rintro j b V1 J G ⟨rfl,w⟩ i;refine⟨λg=>?_,λt=>?_⟩
 ·obtain⟨y,n,r,-,u,q,H,f⟩:=h.get g;refine⟨q,H,g,_,f,λz=>?_,λz=>⟨h.succ g,i u _ _ ⟨rfl,H0 w r (decide_eq_false z)⟩⟩⟩;have e:CQ l x=(j:Int):=by grind[CQ,HY,decide_eq_true]
  simp_all
 ·have e:CQ l x=-1:=by unfold CQ;exact HZ w (h.done t).2
  simp_all
theorem pos_neg{l:List Int}{x:Int}:¬(0<=CQ l x)↔¬x∈l:=by
 unfold CQ;rcases CP (λy=>decide (y=x)) l with⟨h1,-,h2⟩|⟨i,y,h1,h2,-,h3,h4,-⟩;·grind
 grind
theorem tgtI_in{xs:List Fld}{vs:List Int}(h:Ax d m xs vs=true){i:Nat}:∀y∈tgtI xs vs i,1<=y/\y<=(m.nodes.length:Int):=λy g=>by
 have:y∈DV xs vs:=by
  unfold tgtI at g;unfold DV;obtain⟨a,t,rfl⟩:=vq.1 g;grind
 obtain⟨j,f,h1,h2,h3,h4⟩:=Jb.1 this;exact Hb h h1 h2 h3 h4
def LookRP(V0:Mem)(st:Sr):Ending->Mem->Prop:=λe V'=>∃s:Sl,e=.returned (.agg #[s.v,.int .i64 st.again])/\Sx.Own V0 V' 3 1 s (st.order.flatMap Ak)
variable(V0 d m)in
def LookRC(N:Nat):Prop:=∀(st:Sr)(f:Nat) V (s l q:Sl)(xs:List Fld)(vs:List Int),CC m st<=N->CC m st<f->st.order.length+CC m st<=m.nodes.length->Ad V0 l 2 (xs.map Fld.row)->Ad V0 q 1 (vs.map Ak)->Ax d m xs vs=true->Sx.Own V0 V 3 1 s (st.order.flatMap Ak)->
 Tri xG 146 #[d.v,m.v,.agg #[s.v,.int .i64 st.again],l.v,q.v] V (LookRP V0 (lookP d m f st xs vs))
theorem lookRC(Y:BF d m=true)(hd:Ds.Ok V0 d)(hm:Mm.Ok V0 m)(N:Nat)(ih:∀N',N'<N->LookRC V0 d m N'):LookRC V0 d m N:=by
 intro st f V s l q xs vs hN hf K hl hq hv ho;refine Tri.mono (x146 (R:=LookRP V0 (lookP d m f st xs vs)) ?_) λ_ _ h=>h;have hlen:xs.length=vs.length:=by
  grind[Ax]
 have m4:=(BG Y).2.1;refine loop3b (mk:=λs:Sl=>.slice s.p s.n s.c) (mc:=.int .i64) (b0:=s) (c0:=st.again) Bv Cu xs.length (λi O a V1=>a=((tgtI xs vs i).foldl (Bp d m f) st).again/\Sx.Own V0 V1 3 1 O (((tgtI xs vs i).foldl (Bp d m f) st).order.flatMap Ak)) ⟨rfl,ho⟩ ?_;rintro i O a V1 J hi ⟨rfl,h1⟩ hJ;obtain⟨g,w⟩:∃g,g=(tgtI xs vs i).foldl (Bp d m f) st:=⟨_,rfl⟩;rw[<-w]at h1⊢;have hu:CC m g<=CC m st:=by simp_all[unS_le,foldP_sub]
 have hcl:Cl d m st g:=by rw[w];exact(Ll (ent_cl Y f) (tgtI xs vs i) st (tgtI_in hv) hf).1
 have hcap1:=hcl.cap K;have r:=hl.sub h1.sub;have S:=hq.sub h1.sub;refine⟨λH=>?_,λhge=>?_⟩
 ·obtain⟨x,hxm,hx,-,T,hp,hz,A⟩:=r.get H;have n1:=r.n_eq;have n2:=S.n_eq;obtain⟨y,hym,hy,-,hjl,hpy,hzy,M⟩:=S.get (i:=i) (by omega);have same:Ez (x,y)=false->J [.slice O.p O.n O.c,.int .i64 g.again,.int .i64 ((i:Int)+1)] V1:=λhr=>by
   refine hJ T O g.again V1 ?_;rw[Lk hx hy,hr,if_neg (by decide),List.append_nil,<-w];exact⟨rfl,h1⟩
  have pl:AF x.ty=true->Ez (x,y)=false:=λh=>by grind[Ez,AF]
  refine⟨hpy,hzy,by omega,_,M,hp,hz,H,Al hp,_,_,A,λh2=>⟨r.succ H,same (pl ?_)⟩,λh2=>⟨hp,hz,H,Al hp,_,_,A,λh3=>⟨r.succ H,same (pl ?_)⟩,λh3=>⟨λh4=>⟨r.succ H,same ?_⟩,λh4=>?_⟩⟩⟩;·grind[Aj,AF]
  ·grind[Au,AF]
  ·grind[Ez]
  have hpl:AF x.ty=false:=by
   grind[Aj,Au,AF]
  have h4:¬y=0:=h4;have hr:Ez (x,y)=true:=by grind[Ez]
  have hy1:=Hb hv hx hy hpl h4;have next:∀(s':Sl) V2,Sx.Own V0 V2 3 1 s' ((Bp d m f g y).order.flatMap Ak)->J [.slice s'.p s'.n s'.c,.int .i64 (Bp d m f g y).again,.int .i64 ((i:Int)+1)] V2:=λs' V2 h=>by
   refine hJ T s' _ V2 ?_;rw[Lk hx hy,hr,if_pos rfl,List.foldl_append,List.foldl_cons,List.foldl_nil,<-w];exact⟨rfl,h⟩
  obtain⟨f,rfl⟩:∃f',f=f'+1:=⟨f-1,by omega⟩;refine(c147 (h1.rows (λ_=>rfl) (by decide))).call ⟨_,rfl,λh5=>?_,λh5=>?_⟩
  ·have X:y∈g.order:=Classical.not_not.1 λh=>pos_neg.2 h h5;have e:Bp d m (f+1) g y=⟨g.order,if g.again=0 then y else g.again⟩:=by grind[Bp]
   rw[e]at next
   refine⟨λh6=>⟨r.succ H,?_⟩,λh6=>⟨r.succ H,?_⟩⟩;·simp_all
   simp_all
  ·have X:¬y∈g.order:=pos_neg.1 h5;have hlt2:=unS_lt (st:=g) hy1 X (a:=g.again);intro tb htb;refine Fy (s:=O) (u:=⟨some ⟨tb,0,none⟩,1,1⟩) (xs:=g.order) (ys:=[y]) rfl rfl (h1.but.new htb (.cells #[.int .i64 y] 3 (0,0))) (I0 Az) (by simp;omega) λo2 V2 ho2=>⟨o2,rfl,?_⟩;have B:Sx.Own V0 V2 3 1 o2 ((g.order++[y]).flatMap Ak):=ho2.narrow h1.sub_but;obtain⟨k,rfl⟩:∃k:Nat,y=(k:Int)+1:=⟨(y-1).toNat,by omega⟩;have U:=hm.sub B.sub;have hdd:=hd.sub B.sub;have hnn:=U.nodes.n_eq;obtain⟨z,C,hz',-,hl2,P,hzx,G⟩:=U.nodes.get (i:=k) (by omega);obtain⟨c1,c2⟩:=of_decide_eq_true ((BG Y).2.2.1 z C);obtain⟨j,hj⟩:∃j:Nat,z.ty=(j:Int):=⟨_,(vw c1).symm⟩;have htn:=hdd.types.n_eq;obtain⟨t,htm,ht,-,hl3,I,hzt,E⟩:=hdd.types.get (i:=j) (by omega);have hI:IR ((k:Int)):=⟨by omega,by omega⟩;have hfo:=Ef ht hj;have Z:=(BG Y).2.2.2.2 z C;rw[hfo]at Z;rw[show((k:Int)+1-1)=(k:Int)by omega];refine⟨hI,P,hzx,by omega,Al P,_,_,G,?_⟩;rw[hj];refine⟨I,hzt,by omega,Al I,_,_,E,hI,P,hzx,by omega,Al P,_,_,G,?_⟩;refine Tri.mono (ih (CC m ⟨g.order++[(k:Int)+1],g.again⟩) (by omega) ⟨g.order++[(k:Int)+1],g.again⟩ f V2 o2 t.fs z.sl t.fields z.f (yW _) (by omega) ?_ (hd.typesOk t htm).fields (hm.nodesOk z C).rows Z B) ?_;·grind
   rintro _ V5 ⟨s5,rfl,h6⟩;have e:Bp d m (f+1) g ((k:Int)+1)=lookP d m f ⟨g.order++[(k:Int)+1],g.again⟩ t.fields z.f:=by
    rw[Bp,if_neg X];simp_all[nodeTgt,lookP,Int,DV,Bi]
   rw[<-e]at h6⊢;exact⟨_,_,rfl,r.succ H,next s5 V5 h6⟩
 ·have hdn:=(r.done hge).2;rw[tgtI_all hdn]at w;have e:lookP d m f st xs vs=g:=w.symm;rw[e];exact⟨O,rfl,h1⟩
theorem Rc(g:BF d m=true)(f:Ds.Ok V d)(hm:Mm.Ok V m):Tri xG 97 #[d.v,m.v] V (LookRP V (Bn d m)):=by
 refine Tri.mono (Qy (R:=LookRP V (Bn d m)) ?_) λ_ _ h=>h;have hu:=Nf (m:=m);have all:∀N,LookRC V d m N:=λN=>Nat.strongRecOn N λN t=>lookRC g f hm N t;refine Tri.mono (all m.nodes.length ⟨[],0⟩ (m.nodes.length+1) V ⟨none,0,0⟩ d.gs m.gs d.globals m.globals hu (by omega) (by simp_all) f.globals hm.globals (BG g).2.2.2.1 (Own.nil (Mem.sub.refl V) _ _)) ?_;rintro _ V2 ⟨s,rfl,h⟩;exact⟨_,_,rfl,s,rfl,h⟩
end
section
variable{V:Mem}{d:Ds}{m:Mm}
theorem OX{l q o:Sl}{xs:List Fld}{vs O:List Int}(S:Ad V l 2 (xs.map Fld.row))(T:Ad V q 1 (vs.map Ak))(U:Ad V o 1 (O.map Ak))(hO:O.length<=4096)(he:xs.length=vs.length)(B:xs.length<=4096):
  Tri xG 98 #[l.v,q.v,o.v] V λe V'=>∃s:Sl,e=.returned (.slice s.p s.n s.c)/\Sx.Own V V' 3 1 s ((Cm O xs vs).flatMap Ak):=by
 refine Qz ?_;have hrl:=renL_len (O:=O) he;refine Fo (mk:=λs:Sl=>.slice s.p s.n s.c) (b0:=⟨none,0,0⟩) Bv xs.length (λi s V1=>Sx.Own V V1 3 1 s (((Cm O xs vs).take i).flatMap Ak)) (Own.nil (Mem.sub.refl _) _ _) ?_;rintro i s V1 J hi h1 hJ;have H:=S.sub h1.sub;have N:=T.sub h1.sub;refine⟨λt=>?_,λP=>?_⟩
 ·obtain⟨x,hxm,hx,-,A,Z,Y,r⟩:=H.get t;have n2:=N.n_eq;obtain⟨y,hym,hy,-,hjl,I,M,G⟩:=N.get (i:=i) (by omega);have R:=ren_at (O:=O) hx hy;have add:∀{w z:Int}{V2:Mem}{ty:Nat}{a b:Operand}{vals:Operand->Value},V1=V2->w=(if AF x.ty=true then y else Da O y)->z=w->∀f,V2 f=none->vals a=.slice s.p s.n s.c->vals b=.slice (sa f) 1 1 ->
    GenK xG (.call {callee:=.builtin .append,args:=#[a,b],argTypes:=#[43,43]}) ty vals (V2.set f (.cells #[.int .i64 z] 3 (0,0))) λx C=>∃E:Sl,x=uL E/\IR ((i:Int)+1)/\J [uL E,uI ((i:Int)+1)] C:=λ{w z V2 ty a b vals} e hw Y f g ha B=>by
   subst e;subst Y;refine Fy (s:=s) (u:=⟨some ⟨f,0,none⟩,1,1⟩) (xs:=(Cm O xs vs).take i) (ys:=[z]) ha B (h1.but.new g (.cells #[.int .i64 z] 3 (0,0))) (I0 Az) (by grind) λo2 C X=>⟨o2,rfl,H.succ t,hJ A _ _ ?_⟩;rw[w8,R,<-hw];exact X.narrow h1.sub_but
  have K:∀{c:Bool},AF x.ty=c->(if AF x.ty=true then y else Da O y)=if c=true then y else Da O y:=λh=>by rw[h]
  refine⟨I,M,by omega,_,G,Z,Y,t,Al Z,_,_,r,λh2 f g=>add rfl (by rw[K (Ij (.inl h2))];rfl) rfl f g rfl rfl,λh2=>⟨Z,Y,t,Al Z,_,_,r,λh3 f g=>add rfl (by rw[K (Ij (.inr h3))];rfl) rfl f g rfl rfl,λh3=>?_⟩⟩;have hpl:AF x.ty=false:=by
   grind[Aj,Au,AF]
  refine⟨λh4 f g=>add rfl ?_ rfl f g rfl rfl,λh4=>?_⟩;·grind[Ng]
  ·refine(c147 (U.sub h1.sub)).call ⟨_,rfl,?_,λf g=>add rfl ?_ rfl f g rfl rfl⟩
   ·unfold CQ;rcases CP (λz=>decide (z=y)) O with⟨e,-⟩|⟨j,_,e,-,-,e2,-⟩;·rw[e];exact⟨by omega,by omega⟩
    ·rw[e];exact⟨by omega,by omega⟩
   grind[Da]
 ·have hd:=(H.done P).2;grind
theorem JX(h:BB d=true):d.globals.length<=8/\∀t∈d.types,t.fields.length<=12:=by
 grind[BB,Do,EH]
theorem HG{l:List Fld}{vs:List Int}(h:Ax d m l vs=true):l.length=vs.length:=by
 grind[Ax]
theorem OY(G:Ao d m)(hd:Ds.Ok V d)(hm:Mm.Ok V m):Tri xG 65 #[d.v,m.v] V λe V'=>V.sub V'/\∃c:Mm,e=.returned (.agg #[c.gs.v,c.ns.v])/\Mm.Ok V' c/\Hc d m c (Bn d m).order:=by
 refine QG ?_;refine Tri.mono (Rc G.mem hd hm) ?_;rintro _ V1 ⟨o,rfl,ho⟩;have R:=Jc G.mem;obtain⟨p1,p2,p3,p4,p5⟩:=BG G.mem;obtain⟨l1,l2⟩:=JX G.valid;have hcap:=R.cap;have K:=ho.rows (λ_=>rfl) (by decide);refine⟨o,_,rfl,Tri.mono (OX (hd.globals.sub ho.sub) (hm.globals.sub ho.sub) K (by omega) (HG p4) (by omega)) ?_⟩;rintro _ V2 ⟨gs,rfl,hg⟩;refine⟨gs,rfl,?_⟩;have hgR:=hg.rows (λ_=>rfl) (by decide);refine loop3b (mk:=λs:Sl=>.slice s.p s.n s.c) (mc:=λs:Sl=>.slice s.p s.n s.c) (b0:=gs) (c0:=⟨none,0,0⟩) Bv Bv (Bn d m).order.length (λi b c V3=>b=gs/\∃nd,CanAt d m V2 V3 c i nd) ⟨rfl,[],rfl,(λ_ _ _ h=>by omega),V2,Mem.sub.refl _,Own.nil (Mem.sub.refl _) _ _,(λ_ h=>by cases h)⟩ ?_;rintro i b s V3 J hi ⟨rfl,nd,C⟩ hJ;obtain⟨W,hW,r,S⟩:=C.mem;have I:V.sub V3:=((ho.sub.trans hg.sub).trans hW).trans r.sub;have Z:=hd.sub I;have Y:=hm.sub I;have P:=K.sub ((hg.sub.trans hW).trans r.sub);refine⟨λM=>?_,λhge=>?_⟩
 ·obtain⟨n,hnm,hn,-,hil,hp,hz,T⟩:=P.get M;have hr:=R.rng n hnm;obtain⟨k,rfl⟩:∃k:Nat,n=(k:Int)+1:=⟨(n-1).toNat,by omega⟩;have hnn:=Y.nodes.n_eq;obtain⟨z,O,hz',-,hl2,hpx,hzx,X⟩:=Y.nodes.get (i:=k) (by omega);obtain⟨c1,c2⟩:=of_decide_eq_true (p3 z O);obtain⟨j,U⟩:∃j:Nat,z.ty=(j:Int):=⟨_,(vw c1).symm⟩;have htn:=Z.types.n_eq;obtain⟨t,htm,ht,-,hl3,A,hzt,B⟩:=Z.types.get (i:=j) (by omega);have hI:IR ((k:Int)):=⟨by omega,by omega⟩;have hfo:=Ef ht U;have H:=p5 z O;rw[hfo]at H;refine⟨hp,hz,M,_,T,?_⟩;rw[show((k:Int)+1-1)=(k:Int)by omega];refine⟨hI,hpx,hzx,by omega,_,_,X,?_⟩;rw[U];refine⟨A,hzt,by omega,Al A,_,_,B,Tri.mono (OX (Z.typesOk t htm).fields (Y.nodesOk z O).rows P (by omega) (HG H) (by grind)) ?_⟩;rintro _ V4 ⟨fs,rfl,hf⟩;refine⟨fs,rfl,λtb htb=>?_⟩;have E:=Own.growS r hf.sub;have hfR:=hf.rows (λ_=>rfl) (by decide);obtain⟨nn,N⟩:∃nn:Nd,nn=⟨(j:Int),fs,Cm (Bn d m).order t.fields z.f⟩:=⟨_,rfl⟩;have hblk:Ad (V4.but s) fs 1 ((Cm (Bn d m).order t.fields z.f).map Ak):=by
   have:Sx.Own (λ_=>none) (V4.but s) 3 1 fs ((Cm (Bn d m).order t.fields z.f).flatMap Ak):=⟨(λ_ _ h=>by cases h),hf.len,by
    rcases hf.at_ with h|⟨g,cur,a,b,c,dd⟩;·exact .inl h
    ·exact .inr ⟨g,cur,a,rfl,Mem.but_at c (r.apartN b),dd⟩⟩
   exact this.rows (λ_=>rfl) (by decide)
  have hn2:Nd.Ok (V4.but s) nn:=by
   rw[N];exact⟨hblk,⟨by simp_all,by show(j:Int)<=9223372036854775807;have:=(Z.types.succ (i:=j) (by omega)).2;omega⟩,ren_in (by omega) (Y.nodesOk z O).vals⟩
  have hlen:nd.length<=4096:=by rw[C.len];omega
  refine app47 (s:=s) (u:=⟨some ⟨tb,0,none⟩,1,1⟩) (xs:=nd) (ys:=[nn]) rfl rfl (E.but.new htb (.cells #[uI (j:Int),uL fs] 55 (0,0))) (Ad.cells (xs:=[nn]) (row:=Nd.row) Az (by rw[N];rfl) (λ_=>rfl) rfl (by simp)) (by simp;omega) λo2 V5 ho2=>⟨o2,rfl,P.succ M,hJ hil _ _ _ ⟨rfl,nd++[nn],by rw[zw,C.len];rfl,λq w x hq hw hx=>?_,V4.but s,hW.trans E.sub_but,ho2,λw hw=>?_⟩⟩
  ·by_cases hqi:q<i
   ·obtain⟨sl,hs⟩:=C.at_ q w x hqi hw hx;exact⟨sl,by rw[xg (by grind)];exact hs⟩
   ·have:q=i:=by omega
    subst this;rw[hn]at hw;cases hw;rw[show((k:Int)+1-1).toNat=k by omega,hz']at hx;cases hx;refine⟨fs,?_⟩;rw[<-C.len,List.getElem?_concat_length,N,hfo,U]
  ·rcases xe.1 hw with hw|hw;·exact(S w hw).sub E.sub_but
   simp_all
 ·have hdn:=(P.done hge).2;have hi':i=(Bn d m).order.length:=by omega
  refine⟨I,⟨b,Cm (Bn d m).order d.globals m.globals,s,nd⟩,rfl,⟨hgR.sub (hW.trans r.sub),ren_in (by omega) hm.gIn,r.rows (λ_=>rfl) (by decide),λn hn=>(S n hn).sub r.sub⟩,rfl,by rw[<-hi'];exact C.len,λj n x U hx=>C.at_ j n x (by grind) U hx⟩
end
section
variable{V:Mem}{d:Ds}{m:Mm}
theorem OZ[Tab V](g:BF d m=true)(f:Ds.Ok V d)(hm:Mm.Ok V m):Tri xG 80 #[d.v,m.v] V λe V'=>∃o:Sl,e=.returned (.tuple #[.slice o.p o.n o.c,.int .i64 0])/\Sx.Own V V' 3 1 o ((Bn d m).order.flatMap Ak):=by
 refine Qj ?_;refine(c128 f hm).call ⟨_,rfl,λ_=>Tri.mono (c129 g f hm) ?_,λh=>absurd g h⟩;rintro _ V2 ⟨p,ib,o,rfl,h⟩;exact⟨_,rfl,nn,nn,o,h.cell 10 1 (by decide),o,rfl,h.own⟩
end
theorem tri_frame{P:Program}{f:FuncId}{args:Array Value}{U:Mem}{M:Nat->Prop}{R:Ending->Mem->Prop}(i:∀b,M b->U b≠none)(h:Tri P f args (Mem.minus U M) R):
  Tri P f args U λe V2=>∃V',R e V'/\V'.sub V2/\(∀b o,M b->U b=some o->V2 b=some o)/\∀b,M b->V' b=none:=by
 unfold Tri at h⊢;intro w hw;have u:∀b,M b->b<w.heap.size:=λb g=>by
  cases hu:U b with
  |none=>simp_all
  |some o=>exact(Array.getElem?_eq_some_iff.1 (hw b o hu)).1
 intro cs;obtain⟨e,w',fr,⟨V',j,t⟩,rest⟩:=h w (λb o g=>hw b o (G6 b o g)) cs;have z:∀b,M b->V' b=none:=λb g=>by
  cases hv:V' b with
  |none=>rfl
  |some o=>
   rcases t.dom b (by rw[hv];simp)with h1|h1
   ·exact absurd (EO g) h1
   grind
 classical
 refine⟨e,w',fr,⟨λb=>if M b then U b else V' b,⟨V',j,λb o g=>?_,λb o hm g=>?_,z⟩,⟨t.size,λb o g=>?_,λb g hu=>?_,λb g=>?_,t.os,t.out⟩⟩,rest⟩;·grind
 ·simp_all
 ·have g:(if M b then U b else V' b)=some o:=g;by_cases hm:M b
  ·rw[if_pos hm]at g;rw[t.old b (u b hm) (EO hm)];exact hw b o g
  ·rw[if_neg hm]at g;exact t.le b o g
 ·refine t.old b g ?_;grind[EO,C4]
 ·have g:(if M b then U b else V' b)≠none:=g;by_cases hm:M b;·simp_all
  ·rw[if_neg hm]at g;rcases t.dom b g with h1|h1;·grind[C4]
   ·exact .inr h1
def Owns(Q:Mem->Mem->Prop)(M:Nat->Prop)(V:Mem):Prop:=(∀b,M b->V b≠none)/\∀V',(∀b o,M b->V b=some o->V' b=some o)->Q (Mem.minus V' M) V'
def Framed(Q:Mem->Mem->Prop):Prop:=∀W V,Q W V->∃M,(∀b,M b->W b=none)/\Owns Q M V
def AZ(D V:Mem)(Q:Mem->Mem->Prop):Prop:=∃M,Owns Q M V/\D.sub V/\∀b,D b≠none->¬M b
section
variable{D D' V V' W:Mem}{Q:Mem->Mem->Prop}
theorem Owns.keep{M:Nat->Prop}(h:Owns Q M V)(f:∀b o,M b->V b=some o->V' b=some o):Owns Q M V':=⟨λb g=>by
 cases hv:V b with
 |none=>exact absurd hv (h.1 b g)
 |some o=>simp_all,λV2 h2=>h.2 V2 λb o g hv=>h2 b o g (f b o g hv)⟩
theorem AZ.sub(h:AZ D V Q):D.sub V:=by obtain⟨M,-,h,-⟩:=h;exact h
theorem AZ.new(t:Framed Q)(S:Q W V)(u:W.sub V)(g:D.sub W):AZ D V Q:=by
 obtain⟨M,h1,h2⟩:=t W V S;refine⟨M,h2,g.trans u,λb w hm=>?_⟩;cases f:D b with
 |none=>exact w f
 |some o=>
  have:=g _ _ f;simp_all
theorem AZ.use(h:AZ D V Q):∃W,D.sub W/\W.sub V/\Q W V:=by
 obtain⟨M,f,t,u⟩:=h;exact⟨Mem.minus V M,λb o g=>by
  rw[C4 (u b (by rw[g];simp))];exact t _ _ g,G6,f.2 V λ_ _ _ h=>h⟩
theorem AZ.run{P:Program}{f:FuncId}{args:Array Value}{R:Ending->Mem->Prop}(h:AZ D V Q)(H:∀U,D.sub U->Tri P f args U λe g=>U.sub g/\R e g):
  Tri P f args V λe V'=>∃D',D.sub D'/\R e D'/\AZ D' V' Q:=by
 obtain⟨M,f,w,z⟩:=h;have t:D.sub (Mem.minus V M):=λb o u=>by
  rw[C4 (z b (by rw[u];simp))];exact w _ _ u
 refine Tri.mono (tri_frame f.1 (H _ t)) ?_;rintro e V2 ⟨j,⟨h1,h2⟩,i,n,r⟩;exact⟨j,t.trans h1,h2,M,f.keep λb o hm hv=>n b o hm hv,i,λb hv hm=>hv (r b hm)⟩
theorem AZ.grow(h:AZ D V Q)(g:V.sub V'):AZ D V' Q:=by
 obtain⟨M,f,t,u⟩:=h;exact⟨M,f.keep λb o _ hv=>g _ _ hv,t.trans g,u⟩
theorem AZ.pub(h:AZ D V Q){b:Nat}(hv:V b=none)(o:Obj):AZ (D.set b o) (V.set b o) Q:=by
 obtain⟨M,f,t,w⟩:=h;have ne:∀c,V c≠none->c≠b:=λc g e=>g (by rw[e];exact hv);refine⟨M,f.keep λc u hm g=>by grind[Mem.set_ne],λc u g=>?_,λc g=>?_⟩
 ·by_cases e:c=b;·grind[Mem.set_same]
  ·rw[Mem.set_ne e]at g⊢;exact t _ _ g
 ·by_cases e:c=b;·subst e;exact λhm=>f.1 c hm hv
  grind[Mem.set_ne]
end
end Go.Proofs
namespace Go.Proofs
open Go Go.Sx
end Go.Proofs
namespace Go.Proofs
open Go Go.Sx
mutual
def Dj:E->E|.mk o n s _ k=>.mk o n s Ai (Co k)
def Co:List E->List E|[]=>[]|x::xs=>Dj x::Co xs
end
mutual
def Dv:S->S|.mk o s _ es _ ls _ xs=>.mk o s Ai (Co es) Ai (CK ls) Ai (CK xs)
def CK:List S->List S|[]=>[]|x::xs=>Dv x::CK xs
end
def tEr(t:Ty):Ty:=⟨t.name,Ai,t.fields⟩
def pEr(p:Pr):Pr:=⟨p.name,Ai,p.params,p.result,Ai,p.locals,Ai,CK p.body⟩
def AA(d:Ds):Ds:=⟨d.name,Ai,d.types.map tEr,Ai,d.globals,Ai,d.procs.map pEr,Ai,[],Ai,[],Ai,[],Ai,[]⟩
theorem ET:∀l:List E,Co l=l.map Dj
 |[]=>by unfold Co;rfl
 |x::xs=>by unfold Co;rw[ET xs];rfl
theorem JY:∀l:List S,CK l=l.map Dv
 |[]=>by unfold CK;rfl
 |x::xs=>by unfold CK;rw[JY xs];rfl
theorem eErs_len(l:List E):(Co l).length=l.length:=by rw[ET,xi]
theorem sErs_len(l:List S):(CK l).length=l.length:=by rw[JY,xi]
mutual
theorem okE_er:∀(k:Int)(e:E),Cv k (Dj e)=Cv k e
 |k,.mk o n s _ l=>by unfold Dj Cv;rw[eErs_len,okEs_er]
theorem okEs_er:∀(k:Int)(l:List E),okEs k (Co l)=okEs k l
 |_,[]=>by unfold Co;rfl
 |k,x::xs=>by unfold Co okEs;rw[okE_er,okEs_er]
end
mutual
theorem szE_er:∀e:E,AB (Dj e)=AB e
 |.mk o n s _ l=>by unfold Dj AB;rw[szEs_er]
theorem szEs_er:∀l:List E,szEs (Co l)=szEs l
 |[]=>by unfold Co;rfl
 |x::xs=>by unfold Co szEs;rw[szE_er,szEs_er]
end
theorem validE_er(e:E):By (Dj e)=By e:=by unfold By;rw[okE_er,szE_er]
theorem fop_er:∀l:List E,JD (Co l)=JD l
 |[]=>by unfold Co;rfl
 |.mk o n s _ l::xs=>by rfl
theorem shapeR_er(op:Int)(s:KB)(es:List E)(g f:Int):Dg op s (Co es) g f=Dg op s es g f:=by
 unfold Dg GR;have:(Co es).all By=es.all By:=by
  rw[ET,List.all_map];simp_all[congrArg,funext,validE_er]
 rw[eErs_len,fop_er,this]
mutual
theorem okS_er:∀(k:Int)(e:S),Er k (Dv e)=Er k e
 |k,.mk o s _ es _ ls _ xs=>by unfold Dv Er;rw[sErs_len,sErs_len,shapeR_er,Ln,Ln]
theorem Ln:∀(k:Int)(l:List S),CG k (CK l)=CG k l
 |_,[]=>by unfold CK;rfl
 |k,x::xs=>by unfold CK CG;rw[okS_er,Ln]
end
mutual
theorem szS_er:∀e:S,EG (Dv e)=EG e
 |.mk o s _ es _ ls _ xs=>by unfold Dv EG;rw[Lo,Lo]
theorem Lo:∀l:List S,CA (CK l)=CA l
 |[]=>by unfold CK;rfl
 |x::xs=>by unfold CK CA;rw[szS_er,Lo]
end
theorem JZ{α β:Type}{f:α->β}{p:β->Bool}{q:α->Bool}(l:List α)(h:∀x,p (f x)=q x):(l.map f).all p=l.all q:=by
 grind
theorem Nk{α β:Type}{f:α->β}{p:β->Bool}{q:α->Bool}(l:List α)(h:∀x,p (f x)=q x):(l.map f).any p=l.any q:=by
 grind
theorem idx_map{α β:Type}{f:α->β}{p:β->Bool}{q:α->Bool}(l:List α)(h:∀x,p (f x)=q x):Ci p (l.map f)=Ci q l:=by
 unfold Ci;have e:p∘f=q:=funext h;simp_all
theorem find_map'{α β:Type}{f:α->β}{p:β->Bool}{q:α->Bool}(l:List α)(h:∀x,p (f x)=q x):(l.map f).find? p=(l.find? q).map f:=by
 rw[List.find?_map];have e:p∘f=q:=funext h;rw[e]
theorem J6{α β g:Type}{f:α->β}{p:Nat->β->Option g}{q:Nat->α->Option g}:∀(l:List α)(i:Nat),(∀j x,p j (f x)=q j x)->Ar p i (l.map f)=Ar q i l
 |[],_,_=>rfl
 |x::l,i,h=>by
  unfold List.map Ar;rw[h,J6 l (i+1) h]
theorem tyB_er(t:Ty):EH (tEr t)=EH t:=rfl
theorem prB_er(p:Pr):DO (pEr p)=DO p:=by
 unfold DO Hq;show(BT p.name&&Do p.params 6&&Do p.locals 12&&(decide (p.result=Ac [])||typB p.result)&&decide (CG 1 (CK p.body)=true/\CA (CK p.body)<=200))=_;rw[Ln,Lo]
section
variable(d:Ds)
theorem valid_er(h:BB d=true):BB (AA d)=true:=by
 unfold BB at h⊢;simp only[zC,decide_eq_true_eq]at h⊢;refine⟨⟨⟨⟨⟨⟨⟨h.1.1.1.1.1.1.1,?_⟩,h.1.1.1.1.1.2⟩,?_⟩,rfl⟩,?_⟩,?_⟩,rfl⟩
 ·have:=h.1.1.1.1.1.1.2;show((d.types.map tEr).length:Int)<=12;simp_all
 ·have:=h.1.1.1.1.2;show((d.procs.map pEr).length:Int)<=40;simp_all
 ·show(d.types.map tEr).all EH=true;grind[JZ,tyB_er]
 ·show(d.procs.map pEr).all DO=true;rw[JZ _ prB_er];exact h.1.2
theorem valid_re(h:BB (AA d)=true)(h1:d.measures=[])(h2:d.invs=[])(h3:d.pots=[])(h4:d.bounds=[]):BB d=true:=by
 unfold BB at h⊢;simp only[zC,decide_eq_true_eq]at h⊢;refine⟨⟨⟨⟨⟨⟨⟨h.1.1.1.1.1.1.1,?_⟩,h.1.1.1.1.1.2⟩,?_⟩,?_⟩,?_⟩,?_⟩,?_⟩;·grind[AA,tEr]
 ·grind[AA,pEr]
 ·grind[lensB]
 ·have:=h.1.1.2;rw[show(AA d).types=d.types.map tEr from rfl,JZ _ tyB_er]at this;exact this
 ·have:=h.1.2;rw[show(AA d).procs=d.procs.map pEr from rfl,JZ _ prB_er]at this;exact this
 grind[Gd]
theorem Nl(s:KB):Cd (AA d) s=Cd d s:=Nk (f:=tEr) _ λ_=>rfl
theorem Nm(s:KB):Bs (AA d) s=Bs d s:=by unfold Bs;rw[Nl]
theorem fits_er(a b:KB):Bz (AA d) a b=Bz d a b:=by unfold Bz;rw[Nl]
theorem tyOf_er(s:KB):DC (AA d) s=(DC d s).map tEr:=find_map' (f:=tEr) _ λ_=>rfl
theorem prOf_er(s:KB):Ce (AA d) s=(Ce d s).map pEr:=find_map' (f:=pEr) _ λ_=>rfl
theorem fieldT_er(t n:KB):DD (AA d) t n=DD d t n:=by
 unfold DD;rw[tyOf_er];cases DC d t<;>rfl
theorem fitAll_er:∀(l:List KB)(fs:List Fld),DQ (AA d) l fs=DQ d l fs
 |a::l,f::fs=>by unfold DQ;rw[fits_er,fitAll_er]
 |[],_=>by simp[DQ]
 |_::_,[]=>by simp[DQ]
theorem callT_er(n:KB)(l:List KB):Et (AA d) n l=Et d n l:=by
 unfold Et;rw[prOf_er];cases Ce d n with
 |none=>rfl
 |some p=>
  show(if l.length≠p.params.length then _ else if DQ (AA d) l p.params=true then _ else _)=_;rw[fitAll_er];rfl
theorem nodeT_er{sc:Sc}(g:sc.body=true)(op:Int)(s:KB)(l:List KB):EJ (AA d) sc op s l=EJ d sc op s l:=by
 unfold EJ Fq;rw[if_pos g,if_pos g];simp only[fieldT_er,Nl,callT_er,fits_er]
mutual
theorem exprT_er{sc:Sc}(g:sc.body=true):∀e:E,As (AA d) sc (Dj e)=As d sc e
 |.mk o n s _ k=>by unfold Dj As;rw[Lq g,nodeT_er d g]
theorem Lq{sc:Sc}(g:sc.body=true):∀(acc:List KB)(l:List E),partsT (AA d) sc acc (Co l)=partsT d sc acc l
 |_,[]=>by rfl
 |acc,x::xs=>by unfold Co partsT;rw[exprT_er g,Lq g]
end
theorem stmtT_er{sc:Sc}(g:sc.body=true)(r:KB)(op:Int)(s:KB)(es:List E):Ed (AA d) sc r op s (Co es)=Ed d sc r op s es:=by
 unfold Ed;rw[Lq d g];simp only[fits_er,fieldT_er];congr 1
 match es with
 |[]=>unfold Co;rfl
 |.mk o n s _ k::es=>
  grind[Co,Dj,E.k,E.s,Lq,callT_er]
mutual
theorem stT_er{sc:Sc}(g:sc.body=true)(r:KB):∀(n:Int)(e:S),Ee (AA d) sc r n (Dv e)=Ee d sc r n e
 |n,.mk o s _ es _ ls _ xs=>by
  unfold Dv Ee;rw[stmtT_er d g,Lr g r (n+1) ls,Lr g r _ xs]
theorem Lr{sc:Sc}(g:sc.body=true)(r:KB):∀(n:Int)(l:List S),AK (AA d) sc r n (CK l)=AK d sc r n l
 |_,[]=>by rfl
 |n,x::xs=>by unfold CK AK;rw[stT_er g,Lr g]
end
theorem oneT_er(l:List Fld)(i:Nat)(f:Fld):BP (AA d) l i f=BP d l i f:=by unfold BP;rw[Nm]
theorem declT_er(l:List Fld):CB (AA d) l=CB d l:=by
 grind[CB,oneT_er]
theorem types_er:Gg (AA d)=Gg d:=by
 unfold Gg;congr 1
 ·unfold types1;refine J6 (f:=tEr) d.types 0 λj x=>?_;rw[show(AA d).types=d.types.map tEr from rfl,<-List.map_take,Nk (f:=tEr) (q:=λg=>decide (g.name=x.name)) _ λ_=>rfl];rfl
 congr 1;·grind[types2,J6,tEr,CB,AA,Int,declT_er]
 ·unfold types3;simp only[oneT_er];rfl
theorem heads_er:Fs (AA d)=Fs d:=by
 unfold Fs;refine J6 (f:=pEr) d.procs 0 λj x=>?_;rw[show(AA d).procs=d.procs.map pEr from rfl,<-List.map_take,Nk (f:=pEr) (q:=λg=>decide (g.name=x.name)) _ λ_=>rfl,declT_er,Nm];rfl
theorem bodies_er:E9 (AA d)=E9 d:=by
 unfold E9;refine J6 (f:=pEr) d.procs 0 λj x=>?_;show(if(AK (AA d) (Av d x) x.result 0 (CK x.body)).2≠0 then some (x.name,(AK (AA d) (Av d x) x.result 0 (CK x.body)).1,(AK (AA d) (Av d x) x.result 0 (CK x.body)).2)else none)=_;rw[Lr d rfl]
theorem HH{α:Type}{a b:Option α}:a.or b=none↔a=none/\b=none:=by cases a<;>simp
theorem chk_er(h:CT d=none):CT (AA d)=none:=by
 unfold CT at h⊢;rw[HH,HH,HH,HH]at h;rw[types_er,heads_er,bodies_er,h.1,h.2.1,h.2.2.2.1];rfl
theorem chk_re(h:CT (AA d)=none)(h1:d.measures=[])(h2:d.invs=[])(h3:d.pots=[])(h4:d.bounds=[]):CT d=none:=by
 unfold CT at h⊢;rw[HH,HH,HH,HH,types_er,heads_er,bodies_er]at h;rw[h.1,h.2.1,h.2.2.2.1];have g:DY d=none:=by unfold DY form1 form2 form3 form4;rw[h1,h2,h3,h4];rfl
 have f:Fa d=none:=by unfold Fa exp1 exp2 exp3 exp4;rw[h1,h2,h3,h4];rfl
 rw[g,f];rfl
theorem idxT_er(s:KB):Bw (AA d) s=Bw d s:=idx_map (f:=tEr) _ λ_=>rfl
theorem Jd(t:Int):Bi (AA d) t=Bi d t:=by
 unfold Bi;rw[show(AA d).types=d.types.map tEr from rfl,y6,vp];rfl
theorem right_er(m:Mm)(t:KB)(v:Int):AL (AA d) m t v=AL d m t v:=by unfold AL;rw[idxT_er]
theorem values_er(m:Mm)(l:List Fld)(vs:List Int):Ax (AA d) m l vs=Ax d m l vs:=by unfold Ax;simp only[right_er]
theorem typed_er(l:List Fld):C3 (AA d) l=C3 d l:=by unfold C3;simp only[Nm]
theorem has_er:(C3 (AA d) (AA d).globals&&allI (λi t=>decide (Bw (AA d) t.name=(i:Int))&&C3 (AA d) t.fields) (AA d).types)=(C3 d d.globals&&allI (λi t=>decide (Bw d t.name=(i:Int))&&C3 d t.fields) d.types):=by
 simp only[idxT_er,typed_er];congr 1;unfold allI;rw[show(AA d).types=d.types.map tEr from rfl,List.zipIdx_map];exact JZ _ λ_=>rfl
theorem mem_er{d':Ds}(g:AA d=AA d')(hv:BB d'=true){m:Mm}(h:BF d m=true):BF d' m=true:=by
 have key:∀x:Ds,BF x m=(BB x&&(C3 (AA x) (AA x).globals&&allI (λi t=>decide (Bw (AA x) t.name=(i:Int))&&C3 (AA x) t.fields) (AA x).types)&&(decide (m.nodes.length<=4096)&&m.nodes.all (λn=>decide (0<=n.ty/\n.ty<((AA x).types.length:Int)))&&Ax (AA x) m (AA x).globals m.globals&&m.nodes.all λn=>Ax (AA x) m (Bi (AA x) n.ty) n.f)):=λx=>by
  rw[has_er];simp only[values_er,Jd];rw[show(AA x).types=x.types.map tEr from rfl,xi];unfold BF Dq;simp only[Bool.and_assoc];rfl
 simp_all
end
structure FC (d d':Ds):Prop where
 er:AA d=AA d'
 h1:d'.measures=[]
 h2:d'.invs=[]
 h3:d'.pots=[]
 h4:d'.bounds=[]
theorem Ao.same{d d':Ds}{m:Mm}(G:Ao d m)(h:FC d d'):Ao d' m:=by
 have hv:=valid_re d' (h.er▸valid_er d G.valid) h.h1 h.h2 h.h3 h.h4;exact⟨hv,chk_re d' (h.er▸chk_er d G.chk) h.h1 h.h2 h.h3 h.h4,mem_er d h.er hv G.mem⟩
section
variable(d:Ds)
theorem Ls(s:KB):AC (AA d) s=AC d s:=idx_map (f:=pEr) _ λ_=>rfl
theorem cllE_er(m:Mm)(nm:KB)(l:List Int):AQ (AA d) m nm l=AQ d m nm l:=by
 unfold AQ;rw[Ls,show(AA d).procs=d.procs.map pEr from rfl,y6];cases d.procs[(AC d nm).toNat]? with
 |none=>rfl
 |some p=>
  show(if AC d nm<0 then _ else if l.length=p.params.length then(if Ax (AA d) m p.params l=true then _ else _)else _)=_;rw[values_er]
theorem fldX_er(a:Int)(s:KB)(st:St):fldX (AA d) a s st=fldX d a s st:=by unfold fldX;simp only[Jd]
theorem newX_er(s:KB)(st:St):newX (AA d) s st=newX d s st:=by unfold newX;simp only[Jd,idxT_er]
theorem putX_er(a v:Int)(s:KB)(st:St):putX (AA d) a v s st=putX d a v s st:=by unfold putX;simp only[Jd]
theorem intB_er{sc:Sc}(g:sc.body=true):∀l:List E,intB (AA d) sc (Co l)=intB d sc l
 |[]=>by unfold Co;rfl
 |x::xs=>by
  unfold Co;show decide ((As (AA d) sc (Dj x)).1=Aj)=decide ((As d sc x).1=Aj);rw[exprT_er d g]
theorem combX_er(C:Cf)(p:Pr)(vals:List Int)(b:Bool)(op n:Int)(s:KB)(ks:List (St->Rx Int))(st:St):Dh (AA d) C (pEr p) vals b op n s ks st=Dh d C p vals b op n s ks st:=by
 unfold Dh;simp only[fldX_er,newX_er,Ls];rfl
mutual
theorem evX_er(C:Cf)(p:Pr)(vals:List Int):∀e:E,Di (AA d) C (pEr p) vals (Dj e)=Di d C p vals e
 |.mk o n s _ k=>by
  unfold Dj Di;funext st;rw[combX_er,evXs_er C p vals k];show Dh d C p vals (intB (AA d) (Av d p) (Co k)) o n s _ st=_;rw[intB_er d rfl]
theorem evXs_er(C:Cf)(p:Pr)(vals:List Int):∀l:List E,evXs (AA d) C (pEr p) vals (Co l)=evXs d C p vals l
 |[]=>by rfl
 |x::xs=>by unfold Co evXs;rw[evX_er C p vals x,evXs_er C p vals xs]
end
theorem evX_er'(C:Cf)(p:Pr)(vals:List Int)(e:E)(st:St):Di (AA d) C (pEr p) vals (Dj e) st=Di d C p vals e st:=congrFun (evX_er d C p vals e) st
theorem getD_er(l:List E)(i:Nat):(Co l).getD i GZ=Dj (l.getD i GZ):=by
 rw[ET,vo,vo,y6];grind[GZ,Dj,Co]
section
variable{Sn Sn':Sf}(hS:∀c p l vals st,Sn' c (pEr p) (CK l) vals st=Sn c p l vals st)
include hS
theorem callX_er(c:Nat):CJ (AA d) Sn' c=CJ d Sn c:=by
 funext i l st;unfold CJ;rw[show(AA d).procs=d.procs.map pEr from rfl,y6];cases d.procs[i.toNat]? with
 |none=>rfl
 |some p=>
  show(if 200<=c then _ else(Sn' (c+1) (pEr p) (CK p.body) _ st).bind _)=_;rw[hS];rfl
theorem evS_er(c:Nat)(p:Pr)(vals:List Int)(e:E)(st:St):CZ (AA d) Sn' c (pEr p) vals (Dj e) st=CZ d Sn c p vals e st:=by
 unfold CZ;rw[callX_er d hS,evX_er']
theorem whX_er(F c:Nat)(p:Pr)(e:E)(b:List S):∀(n:Nat)(vals:List Int)(st:St),Ew (AA d) F Sn' c (pEr p) (Dj e) (CK b) n vals st=Ew d F Sn c p e b n vals st
 |0,_,_=>rfl
 |n+1,vals,st=>by
  unfold Ew;simp only[evS_er d hS,hS,whX_er F c p e b n]
theorem bodyX_er(F c:Nat)(p:Pr)(n:Nat)(s:S)(vals:List Int)(st:St):Fe (AA d) F Sn' c (pEr p) n (Dv s) vals st=Fe d F Sn c p n s vals st:=by
 match s with
 |.mk o s _ es _ ls _ xs=>
  unfold Dv Fe;simp only[S.op,S.s,S.es,S.ls,S.xs,getD_er,evS_er d hS,hS,whX_er d hS,putX_er];cases es<;>simp only[Co,evS_er d hS]<;>rfl
end
theorem stX_er{Sn Sn':Sf}(hS:∀c p l vals st,Sn' c (pEr p) (CK l) vals st=Sn c p l vals st)(F c:Nat)(p:Pr)(n:Nat)(s:S)(vals:List Int)(st:St):DU (AA d) F Sn' c (pEr p) n (Dv s) vals st=DU d F Sn c p n s vals st:=by
 grind[DU,bodyX_er]
theorem listX_er{f g:S->List Int->St->Rx Rt}(h:∀s vals st,g (Dv s) vals st=f s vals st):∀(l:List S)(vals:List Int)(st:St),Eg g (CK l) vals st=Eg f l vals st
 |[],_,_=>by rfl
 |s::l,vals,st=>by
  unfold CK Eg;rw[h];simp only[listX_er h l]
theorem stsX_er(F:Nat):∀(n c:Nat)(p:Pr)(l:List S)(vals:List Int)(st:St),A4 (AA d) F n c (pEr p) (CK l) vals st=A4 d F n c p l vals st
 |0,_,_,_,_,_=>rfl
 |n+1,c,p,l,vals,st=>listX_er (λs vals st=>stX_er d (stsX_er F n) F c p (n+1) s vals st) l vals st
theorem playX_er(F:Nat)(i:Int)(l:List Int)(st:St):Cc (AA d) F i l st=Cc d F i l st:=by
 simp_all[Cc,callX_er,stsX_er]
end
section
variable{d d':Ds}(h:FC d d')
include h
theorem FC.play(F:Nat)(i:Int)(l:List Int)(st:St):Cc d' F i l st=Cc d F i l st:=by rw[<-playX_er d,h.er,playX_er]
theorem FC.cll(m:Mm)(nm:KB)(l:List Int):AQ d' m nm l=AQ d m nm l:=by rw[<-cllE_er d,h.er,cllE_er]
theorem FC.idx(s:KB):AC d' s=AC d s:=by rw[<-Ls d,h.er,Ls]
theorem FC.fields(t:Int):Bi d' t=Bi d t:=by rw[<-Jd d,h.er,Jd]
end
end Go.Proofs
namespace Go.Proofs
open Go Go.Sx
attribute [local irreducible] Go.Sx.Tri
def BX(d:Ds)(s:Sl):Mm:=⟨s,yK d.globals.length 0,Ai,[]⟩
theorem new_valid{d:Ds}{s:Sl}(h:Dq d=true):BF d (BX d s)=true:=by
 grind[Ax,BX,Cw,yu,AL,BF]
theorem Ao.plain{d:Ds}{x y:Mm}(G:Ao d x)(h:x.plain=y.plain):Ao d y:=⟨G.valid,G.chk,MV h G.mem⟩
section
variable{V:Mem}{d:Ds}
theorem given_plain{m m':Mm}(h:m.plain=m'.plain){F:Int}:C8 d m F=C8 d m' F:=by
 have:Ao d m↔Ao d m':=⟨λG=>G.plain h,λG=>G.plain h.symm⟩;grind[C8]
theorem Rd[Tab V](f:Ds.Ok V d):Tri xG 38 #[d.v] V λe V'=>V.sub V'/\((Dq d=false/\e=.returned (.tuple #[.agg #[Ai.v,Ai.v],.int .i64 1]))∨(Dq d=true/\∃s:Sl,e=.returned (.tuple #[.agg #[s.v,Ai.v],.int .i64 0])/\Mm.Ok V' (BX d s))):=by
 refine PH ?_;have u:=f.globals.n_eq;have i:=f.globals.cap;have r:=f.globals.fit;refine Tri.mono (OM f) ?_;rintro _ V1 ⟨q,rfl,z,⟨t,b,rfl,-⟩|⟨t,rfl⟩⟩
 ·have w:=(JX (Ni t)).1;refine⟨_,rfl,λh=>absurd h (by intro h;cases h),λ_=>mk43 (n:=d.gs.n) rfl rfl (by omega) λg w=>⟨⟨some ⟨g,0,none⟩,d.gs.n,d.gs.n⟩,rfl,z.trans (Mem.sub_new w _),.inr ⟨t,_,rfl,?_⟩⟩⟩;have o:=I4 w (n:=d.gs.n) (by omega);rw[u]at o⊢;exact⟨o.rows (λ_=>rfl) (by decide),λx j=>by rw[(vn.1 j).2];unfold DZ;decide,Ad.nil,λn u=>by cases u⟩
 ·exact⟨_,rfl,λ_=>⟨z,.inl ⟨by simpa using t,rfl⟩⟩,λh=>absurd rfl h⟩
theorem Nn(u:Ds.Ok V d)(w:d.globals.length<=8):Tri xG 88 #[d.v] V λe V'=>V.sub V'/\∃s:Sl,e=.returned (.agg #[s.v,Ai.v])/\Mm.Ok V' (BX d s):=by
 refine Qr ?_;have f:=u.globals.n_eq;refine mk43 (n:=d.gs.n) rfl rfl (by omega) λg t=>⟨⟨some ⟨g,0,none⟩,d.gs.n,d.gs.n⟩,rfl,Mem.sub_new t _,_,rfl,?_⟩;have o:=I4 t (n:=d.gs.n) (by omega);rw[f]at o⊢;exact⟨o.rows (λ_=>rfl) (by decide),λx z=>by rw[(vn.1 z).2];unfold DZ;decide,Ad.nil,λn f=>by cases f⟩
end
theorem oneG{α:Type}{t e sz:Nat}{row:α->List Value}(A:AppP t e sz row){V0 V:Mem}{b:Nat}{s:Sl}{xs:List α}{x:α}(o:Sx.Own V0 V e sz s (xs.flatMap row))(g:V b=none)(f:xs.length+1<=2147483648){ty:Nat}{y z:Operand}{vals:Operand->Value}(w:vals y=.slice s.p s.n s.c)(j:vals z=.slice (sa b) 1 1)(i:∀x,(row x).length=sz){Q:Value->Mem->Prop}(r:∀s' V',Sx.Own V0 V' e sz s' ((xs++[x]).flatMap row)->Q (.slice s'.p s'.n s'.c) V'):
  GenK xG (.call {callee:=.builtin .append,args:=#[y,z],argTypes:=#[t,t]}) ty vals (V.set b (.cells (row x).toArray e (0,0))) Q:=
 A (s:=s) (u:=⟨some ⟨b,0,none⟩,1,1⟩) (xs:=xs) (ys:=[x]) w j (o.new g _) (Ad.cells (xs:=[x]) (row:=row) Az (by simp) i (by simp) (by simp)) (by simpa using f) r
theorem pushG{W V V1:Mem}{e sz:Nat}{s s':Sl}{xs ys:List Value}(o:Sx.Own W V e sz s xs)(h:Sx.Own (V.but s) V1 e sz s' ys):Sx.Own W V1 e sz s' ys/\(∀c,¬A8 s c->V c≠none->V1 c=V c)/\∀c,A8 s' c->A8 s c∨V c=none:=by
 refine⟨h.narrow o.sub_but,λc g hv=>?_,λc g=>?_⟩
 ·cases e:V c with
  |none=>grind
  |some x=>exact h.sub _ _ (Mem.but_at e g)
 ·have t:=Own.none0 h g;by_cases f:A8 s c;·exact .inl f
  ·right;cases hv:V c with
   |none=>rfl
   |some o=>grind[Mem.but_at]
theorem g127:IdxP 127 Ak (xa .i64) 1:=by
 intro V l xs g first u q St s f H G
 refine x127 (a:=l) (b:=.func (.func g) first.toArray u.toArray) ?_;refine AR xs.length St H ?_;intro i b V1 J hi r N;have h:=f i V1 r;refine⟨λt=>?_,λz=>?_⟩
 ·obtain⟨x,hm,Z,O,Y,j,P,w⟩:=h.get t;refine⟨j,P,t,_,w,g,_,_,rfl,q,Tri.mono (G i x V1 Z r) ?_⟩;rintro e V2 ⟨b,rfl,h1,h2⟩;exact⟨b,rfl,λn=>.inl ⟨i,rfl,h1 n⟩,λn=>⟨h.succ t,N Y _ _ (h2 (by simpa using n))⟩⟩
 ·have e:i=xs.length:=by have:=(h.done z).2;omega
  simp_all
theorem Re:ConP 76 Ak (xa .i64) 1:=conG g127 Qf
theorem Rf:ConC 76 Ak (xa .i64) 1:=conC Re
def Gw(b:Bool):List Value:=[.bool b]
theorem Je(l:List Bool):l.flatMap Gw=l.map vm:=by
 induction l with
 |nil=>rfl
 |cons a l g=>rw[List.flatMap_cons,g];rfl
theorem flat_setB(l:List Bool)(i:Nat)(x:Bool):(l.flatMap Gw).set i (.bool x)=(l.set i x).flatMap Gw:=by rw[Je,Je,List.map_set]
theorem flat_lenB(l:List Bool):(l.flatMap Gw).length=l.length:=by rw[Je,xi]
theorem bool_at{V:Mem}{s:Sl}{xs:List Bool}(h:Ad V s 1 (xs.map Gw)){i:Nat}{x:Bool}(g:xs[i]?=some x):¬s.p=none/\(0:Int)<=(i:Int)/\(i:Int)<(s.n:Int)/\V.rowp s.p (i*1) 1=some [.bool x]:=by
 have t:=h.n_eq;have u:=(yu.1 g).1;obtain⟨y,-,f,-,-,h1,h2,h3⟩:=h.get (i:=i) (by omega);rw[g]at f;cases f;exact⟨h1,h2,by omega,h3⟩
section
variable{V:Mem}
theorem madeB(n:Nat):(madeCells (vm false).cells n).toList=(yK n false).map vm:=by
 have g:(vm false).cells=#[vm false]:=by rfl
 rw[g,List.map_replicate];unfold madeCells;refine List.ext_getElem? λj=>?_;grind
theorem own_madeB{g n:Nat}(f:V g=none)(t:n<=2147483648):Sx.Own V (V.set g (.cells (madeCells (vm false).cells (n*1)) 4 (0,0))) 4 1 ⟨some ⟨g,0,none⟩,n,n⟩ ((yK n false).flatMap Gw):=by
 have e:(madeCells (vm false).cells (n*1)).toList=(yK n false).flatMap Gw:=by rw[Nat.mul_one,madeB,Je]
 refine⟨Mem.sub_new f _,by rw[Je];simp,.inr ⟨g,_,rfl,f,Mem.set_same _ _ _,yW _,by simp only[maxLen];omega,by rw[size_madeCells],?_⟩⟩;grind[wZ,Je]
theorem mk171{ty:Nat}{x y:Operand}{vals:Operand->Value}{n:Nat}(f:vals x=.int .i64 n)(t:vals y=.int .i64 n)(u:n<=2147483648){q:Value->Mem->Prop}(w:∀g,V g=none->q (.slice (sa g) n n) (V.set g (.cells (madeCells (vm false).cells (n*1)) 4 (0,0)))):GenK xG (.makeSlice 171 x y) ty vals V q:=
 GenK.make (z:=.bool false) (i:=ti 4) Tryz.underlying171 (by kernel_rfl) (by kernel_rfl) (by kernel_rfl) (of_decide_eq_true (by kernel_rfl)) f t u w
theorem c131{s:Sl}{l:List Int}(h:Ad V s 1 (l.map Ak)){x:Int}:PP 131 [s.v,.int .i64 x] V (.int .i64 (Ci (λy=>decide (x=y)) l)):=by
 refine x131 ?_;refine AR (mk:=.int .i64) (b0:=0) l.length (λj V1=>V=V1/\Bb (λy:Int=>!decide (x=y)) l j) ⟨rfl,Bb.zero _ _⟩ ?_;rintro j b V1 J G ⟨rfl,w⟩ i;refine⟨λg=>?_,λt=>?_⟩
 ·obtain⟨y,n,r,-,u,q,H,f⟩:=h.get g;refine⟨q,H,g,_,f,λz=>?_,λz=>⟨h.succ g,i u _ _ ⟨rfl,H0 w r (decide_eq_false z)⟩⟩⟩;grind[HY,decide_eq_true]
 ·rw[HZ w (h.done t).2];simp_all
end
end Go.Proofs
namespace Go.Proofs
open Go Go.Sx
def Cz(x:List Int×List (Int×List Int)):Mm:=⟨Ai,x.1,Ai,x.2.map λn=>⟨n.1,Ai,n.2⟩⟩
theorem GA(x:List Int×List (Int×List Int)):(Cz x).plain=x:=by
 unfold Mm.plain Cz;simp[vl]
def BY(m:Mm):Mm:=⟨Ai,match m.globals with|[]=>[]|g::l=>g::yK l.length 0,m.ns,m.nodes⟩
def Fh(l:List Fld)(vs:List Int)(n:Nat):List Int:=(l.zip vs).map λx=>if AF x.1.ty=true∨x.2=0 then x.2 else x.2+n
def Db(d:Ds)(y:Mm):List Int×List (Int×List Int):=canP d (BY y)
def Cg(d:Ds)(x y:Mm):List Int×List (Int×List Int):=(x.globals,(x.nodes.map λn=>(n.ty,n.f))++(Db d y).2.map λn=>(n.1,Fh (Bi d n.1) n.2 x.nodes.length))
def Cp(d:Ds)(x y:Mm):Int:=if(Db d y).1.headD 0=0 then 0 else x.nodes.length+(Db d y).1.headD 0
section
variable{d:Ds}{m x y:Mm}
theorem isCan_gmm:Hc d m (Cz (canP d m)) (Bn d m).order:=by
 refine⟨rfl,?_,λi n z g f=>⟨Ai,?_⟩⟩;·simp[Cz,canP]
 simp_all[Cz,canP,y6,Option.map_some]
theorem Lt(G:Ao d m):Ao d (BY m):=by
 refine⟨G.valid,G.chk,?_⟩;obtain⟨p1,w,p3,u,z⟩:=BG G.mem;have r:∀{t v},AL d m t v=true->AL d (BY m) t v=true:=λh=>h;refine IU p1 w p3 ?_ z;rw[Cw]at u⊢;obtain⟨h1,h2⟩:=u;have i:∀v∈d.globals,Bs d v.ty=true:=λv hv=>z7.1 (Gi p1).1 v hv;cases e:m.globals with
 |nil=>
  grind[BY]
 |cons g l=>
  have n:(BY m).globals=g::yK l.length 0:=by simp[BY,e]
  rw[e]at h1 h2;rw[n];refine⟨by simpa using h1,λj f v q hv=>?_⟩;cases j with
  |zero=>grind
  |succ j=>
   rw[List.getElem?_cons_succ]at hv;obtain rfl:v=0:=(vn.1 (xr hv)).2;exact MD G.valid (i f (xr q))
theorem No(G:Ao d y):Ao d (Cz (Db d y)):=Nj (Lt G) isCan_gmm
theorem Lu{l:List Fld}{vs:List Int}{n:Nat}(h:l.length=vs.length):(Fh l vs n).length=vs.length:=by
 grind[Fh]
theorem Lv{l:List Fld}{vs:List Int}{n i:Nat}{f:Fld}{v:Int}(g:l[i]?=some f)(hv:vs[i]?=some v):(Fh l vs n)[i]?=some (if AF f.ty=true∨v=0 then v else v+n):=by
 grind[Fh]
theorem O1{t:KB}{v:Int}(h:AL d (Cz (Db d y)) t v=true):AL d (Cz (Cg d x y)) t (if AF t=true∨v=0 then v else v+x.nodes.length)=true:=by
 cases g:AF t with
 |true=>
  rw[if_pos (.inl rfl)];grind[AF,AL,Aj,Au]
 |false=>
  obtain⟨h1,h2⟩:=plain_not g;unfold AL at h⊢;rw[if_neg h1,if_neg h2,decide_eq_true_eq]at h⊢;by_cases f:v=0;·omega
  ·rw[if_neg (by simp[f])];rcases h with h|⟨a,b,c⟩;·omega
   ·refine .inr ⟨by omega,?_,?_⟩;·simp only[Cz,Cg,xi,zw]at b⊢;omega
    ·rw[<-c];have e:(v+(x.nodes.length:Int)-1).toNat=x.nodes.length+(v-1).toNat:=by omega
     simp_all[Cz,Cg,y6,vp,List.getElem?_append_right,vl]
theorem O2{t:KB}{v:Int}(h:AL d x t v=true):AL d (Cz (Cg d x y)) t v=true:=by
 refine KU (by simp[Cz,Cg]) (λi n g=>?_) h;refine⟨⟨n.ty,Ai,n.f⟩,?_,rfl⟩;grind[Cz,Cg,xg,yu]
theorem uni_good(t:Ao d x)(w:Ao d y)(j:(Cg d x y).2.length<=4096):Ao d (Cz (Cg d x y)):=by
 refine⟨t.valid,t.chk,?_⟩;obtain⟨p1,H,p3,i,J⟩:=BG t.mem;obtain⟨-,-,G,-,N⟩:=BG (No w).mem;have nd:∀n∈(Cz (Cg d x y)).nodes,(∃z∈x.nodes,n.ty=z.ty/\n.f=z.f)∨∃z∈(Cz (Db d y)).nodes,n.ty=z.ty/\n.f=Fh (Bi d z.ty) z.f x.nodes.length:=λn g=>by
  obtain⟨q,r,rfl⟩:=vq.1 g;rcases xe.1 r with h|h;·grind
  ·obtain⟨z,u,rfl⟩:=vq.1 h;exact .inr ⟨_,vq.2 ⟨z,u,rfl⟩,rfl,rfl⟩
 refine IU p1 (by simpa [Cz]using j) (λn g=>?_) (BV O2 i) λn g=>?_;·grind[Eu]
 ·rcases nd n g with⟨z,u,e,s⟩|⟨z,u,e,s⟩;·grind[BV,O2]
  grind[Cw,Lu,yu,List.getElem?_eq_getElem,Lv,O1]
theorem uni_ref{g:Fld}{l:List Fld}(t:Ao d y)(u:d.globals=g::l)(z:AF g.ty=false):AL d (Cz (Cg d x y)) g.ty (Cp d x y)=true:=by
 obtain⟨-,-,-,f,-⟩:=BG (No t).mem;rw[u,Cw]at f;obtain⟨h1,h2⟩:=f;cases e:(Db d y).1 with
 |nil=>simp[Cz,e]at h1
 |cons v vs=>
  have w:=h2 0 g v rfl (by show(Db d y).1[0]?=some v;rw[e];rfl);have:=O1 (x:=x) w;grind[Cp,inr]
end
end Go.Proofs
namespace Go.Proofs
open Go Go.Sx
def entB(p:Pr):Bool:=p.params.all (λf=>AF f.ty)&&(decide (p.result=sE)||AF p.result)
def CL(d:Ds)(p:Pr):Bool:=match p.params,d.globals with
 |[f],g::_=>decide (f.ty=g.ty)&&!AF f.ty&&(decide (p.result=sE)||AF p.result)
 |_,_=>false
structure PV where
 m:List Int×List (Int×List Int)
 par:List Int
 paths:Int
def pv0:PV:=⟨([],[]),[],0⟩
def BR:Int:=1099511627776
def DJ(vs:List PV)(par:List Int):Int:=par.foldl (λa p=>min BR (a+(vs.getD p.toNat pv0).paths)) 0
def Bl(vs:List PV)(v:Int):Mm:=Cz (vs.getD v.toNat pv0).m
def Cq(d:Ds)(nm:KB):Pr:=(d.procs[(AC d nm).toNat]?).getD noPr
def BC(vs:List PV)(v:Int):Prop:=0<=v/\v<(vs.length:Int)
instance (vs:List PV) (v:Int):Decidable (BC vs v):=by unfold BC;infer_instance
def Dw(d:Ds)(F:Int)(vs:List PV)(v:Int)(nm:KB)(args:List Int):Int:=
 if F<0∨1048576<F then 2 else if BC vs v then(if AC d nm<0 then 9 else if entB (Cq d nm)=true then AQ d (Bl vs v) nm args else 30)else 24
def Ek(d:Ds)(F:Int)(vs:List PV)(a b:Int)(nm:KB):Int:=
 if F<0∨1048576<F then 2 else if BC vs a/\BC vs b then(if AC d nm<0 then 9 else if CL d (Cq d nm)=true then(if 4096<(Cg d (Bl vs a) (Bl vs b)).2.length then 4 else 0)else 30)else 24
structure Sp where
 meld:Bool
 a:Int
 b:Int
 nm:KB
 sl:Sl
 args:List Int
def Cb(d:Ds)(F:Int)(vs:List PV)(x:Sp):Int:=if x.meld=true then Ek d F vs x.a x.b x.nm else Dw d F vs x.a x.nm x.args
def stM(d:Ds)(vs:List PV)(x:Sp):Mm:=if x.meld=true then Cz (Cg d (Bl vs x.a) (Bl vs x.b))else Bl vs x.a
def HI(d:Ds)(vs:List PV)(x:Sp):List Int:=if x.meld=true then[Cp d (Bl vs x.a) (Bl vs x.b)]else x.args
def FD(x:Sp):List Int:=if x.meld=true then[x.a,x.b]else[x.a]
def Cr(d:Ds)(F:Nat)(vs:List PV)(x:Sp):Rx Int:=Cc d F (AC d x.nm) (HI d vs x) (AY (stM d vs x))
def newV(d:Ds)(r:Rx Int)(vs:List PV)(par:List Int):PV:=⟨canP d r.st.mm,par,DJ vs par⟩
def runV(d:Ds)(r:Rx Int)(vs:List PV)(par:List Int):List PV:=if DI r=0 then vs++[newV d r vs par]else vs
structure E2 (d:Ds)(vs:List PV):Prop where
 good:∀v∈vs,Ao d (Cz v.m)
 pth:∀v∈vs,0<=v.paths/\v.paths<=BR
 par:∀v∈vs,∀p∈v.par,BC vs p
 ne:vs≠[]
theorem isV_mem{vs:List PV}{v:Int}(h:BC vs v):∃x,vs[v.toNat]?=some x/\x∈vs/\vs.getD v.toNat pv0=x:=by
 have g:v.toNat<vs.length:=by have:=h.1;have:=h.2;omega
 simp_all
section
variable{d:Ds}{vs:List PV}{v a b:Int}{x:Sp}{F:Nat}{nm:KB}{args:List Int}
theorem E2.mem(G:E2 d vs)(h:BC vs v):Ao d (Bl vs v):=by
 obtain⟨x,h1,h2,h3⟩:=isV_mem h;unfold Bl;rw[h3];exact G.good x h2
theorem pth_in:∀(par:List Int)(a:Int),0<=a/\a<=BR->(∀v∈vs,0<=v.paths/\v.paths<=BR)->0<=par.foldl (λa p=>min BR (a+(vs.getD p.toNat pv0).paths)) a/\par.foldl (λa p=>min BR (a+(vs.getD p.toNat pv0).paths)) a<=BR
 |[],_,h,_=>h
 |p::par,a,h,hv=>by
  refine pth_in par _ ?_ hv;grind[pv0,BR]
theorem Np(h:CL d (Cq d nm)=true):∃f g l,(Cq d nm).params=[f]/\d.globals=g::l/\f.ty=g.ty/\AF f.ty=false:=by
 grind[CL]
theorem Jf(h:¬AC d nm<0):∃i:Nat,AC d nm=(i:Int)/\d.procs[i]?=some (Cq d nm):=by
 grind[CP,Pr,absurd,AC,Int,Cq,xu]
theorem Nq(G:E2 d vs)(h:Ek d F vs a b nm=0):BC vs a/\BC vs b/\Ao d (Cz (Cg d (Bl vs a) (Bl vs b)))/\AQ d (Cz (Cg d (Bl vs a) (Bl vs b))) nm [Cp d (Bl vs a) (Bl vs b)]=0/\CL d (Cq d nm)=true/\¬AC d nm<0:=by
 unfold Ek at h;split at h;·cases h
 split at h;rotate_left;·cases h
 rename_i hv;split at h;·cases h
 rename_i t;split at h;rotate_left;·cases h
 rename_i hm;split at h;·cases h
 rename_i r;have w:=G.mem hv.1;have u:=G.mem hv.2;have z:=uni_good w u (by omega);refine⟨hv.1,hv.2,z,?_,hm,t⟩;obtain⟨f,g,l,h1,h2,h3,h4⟩:=Np hm;obtain⟨i,hi,j⟩:=Jf t;have q:=uni_ref (x:=Bl vs a) u h2 (by simp_all);have n:Ax d (Cz (Cg d (Bl vs a) (Bl vs b))) (Cq d nm).params [Cp d (Bl vs a) (Bl vs b)]=true:=by
  rw[h1,Cw];grind
 grind[AQ]
theorem vc_zero(h:Dw d F vs v nm args=0):BC vs v/\¬AC d nm<0/\entB (Cq d nm)=true/\AQ d (Bl vs v) nm args=0:=by
 grind[Dw]
theorem st_zero(G:E2 d vs)(h:Cb d F vs x=0):Ao d (stM d vs x)/\AQ d (stM d vs x) x.nm (HI d vs x)=0/\∀p∈FD x,BC vs p:=by
 unfold Cb at h;unfold stM HI FD;split at h
 ·rename_i hm;rw[if_pos hm,if_pos hm,if_pos hm];obtain⟨h1,h2,h3,h4,-⟩:=Nq G h;simp_all
 ·rename_i hm;rw[if_neg hm,if_neg hm,if_neg hm];obtain⟨h1,-,-,h4⟩:=vc_zero h;exact⟨G.mem h1,h4,λp g=>by simp_all⟩
theorem isV_mono{ws:List PV}(h:BC vs v)(g:vs.length<=ws.length):BC ws v:=⟨h.1,by have:=h.2;omega⟩
theorem E2.run(G:E2 d vs){m:Mm}(Gm:Ao d m)(h:AQ d m nm args=0){par:List Int}(f:∀p∈par,BC vs p):E2 d (runV d (Cc d F (AC d nm) args (AY m)) vs par):=by
 unfold runV;split;rotate_left;·exact G
 have Gr:=M0 (F:=F) Gm h;have t:Ao d (Cz (canP d (Cc d F (AC d nm) args (AY m)).st.mm)):=Nj Gr isCan_gmm;refine⟨λv hv=>?_,λv hv=>?_,λv hv p g=>?_,by simp⟩
 ·rcases xe.1 hv with hv|hv;·exact G.good v hv
  ·rw[zO.1 hv];exact t
 ·rcases xe.1 hv with hv|hv;·exact G.pth v hv
  ·rw[zO.1 hv];exact pth_in par 0 (by unfold BR;omega) G.pth
 ·rcases xe.1 hv with hv|hv;·exact isV_mono (G.par v hv p g) (by simp)
  ·rw[zO.1 hv]at g;exact isV_mono (f p g) (by simp)
end
end Go.Proofs
namespace Go.Proofs
open Go Go.Sx
attribute [local irreducible] Go.Sx.Tri
section
variable{V:Mem}{d:Ds}
theorem Jg{t:KB}:PP 45 [.string t] V (.bool (!AF t)):=by
 refine PL ?_;have g:Ac [105,110,116]=Aj:=rfl;have f:Ac [98,111,111,108]=Au:=rfl;rw[g,f];unfold AF;refine⟨λh=>?_,λh=>?_⟩;·simp_all
 simp_all
theorem c242{t:KB}:PP 242 [.string t] V (.bool (AF t)):=by
 refine x242 ?_;have g:Ac [105,110,116]=Aj:=rfl;have f:Ac [98,111,111,108]=Au:=rfl;rw[g,f];unfold AF;refine⟨λh=>?_,λh=>?_⟩;·simp_all
 simp_all
theorem c196{p:Pr}(h:Pr.Ok V p):PP 196 [p.v] V (.bool (entB p)):=by
 refine x196 ?_;have z:=h.params;refine AR (mk:=.bool) (b0:=false) p.params.length (λi V1=>V1=V/\∀j f,j<i->p.params[j]?=some f->AF f.ty=true) ⟨rfl,λj f q=>absurd q (Nat.not_lt_zero _)⟩ ?_;rintro i b V1 J hi ⟨rfl,s⟩ H;refine⟨λt=>?_,λn=>?_⟩
 ·obtain⟨f,G,N,-,r,u,Z,w⟩:=z.get t;refine⟨u,Z,t,Al u,_,_,w,c242.call ⟨_,rfl,λc=>⟨z.succ t,H r _ _ ⟨rfl,λj g q P=>?_⟩⟩,λc=>?_⟩⟩;·grind
  ·have:entB p=false:=by
    grind[entB]
   simp_all
 ·have O:=(z.done n).2;have Y:p.params.all (λf=>AF f.ty)=true:=z7.2 λf N=>by
   grind[List.mem_iff_getElem?,Nat.lt_of_lt_of_le,yu]
  unfold entB;rw[Y,Bool.true_and];refine⟨λh=>?_,λh=>c242.call ⟨_,rfl,?_⟩⟩
  ·have h:p.result=sE:=h;rw[decide_eq_true h];exact⟨rfl,rfl⟩
  ·have h:¬p.result=sE:=h;rw[decide_eq_false h];exact⟨rfl,rfl⟩
theorem O3(g:Ds.Ok V d):PP 55 [d.v] V (.bool (decide (C8 d (BX d Ai) 0=0))):=by
 refine Bf.mk (PZ ?_);refine(OA g).call ⟨_,rfl,λf=>?_,λf=>?_⟩
 ·refine Tri.mono (Nn g (JX (Ni f)).1) ?_;rintro _ V2 ⟨u,w,rfl,t⟩;refine⟨_,_,rfl,(Q8 (g.sub u) t).call ⟨_,rfl,?_⟩⟩;rw[given_plain (m:=BX d w) (m':=BX d Ai) rfl];grind
 ·rw[decide_eq_false λh=>f (BG (OQ h).mem).1];exact⟨rfl,Mem.sub.refl _⟩
end
def QL(e sz:Nat)(Q:Mem->Mem->Prop)(o:Sl)(vs:List Value):Mem->Mem->Prop:=λW V=>∃g,Sx.Own W g e sz o vs/\Q g V
def Dx(Q:Mem->Mem->Prop):Prop:=Framed Q/\∀W V,Q W V->W.sub V
section
variable{Q:Mem->Mem->Prop}{D V V' W:Mem}{o:Sl}{e sz:Nat}{vs:List Value}
theorem QL.over(h:Dx Q):Dx (QL e sz Q o vs):=by
 obtain⟨i,hS⟩:=h;refine⟨λW V ⟨z,t,w⟩=>?_,λW V ⟨z,t,w⟩=>t.sub.trans (hS _ _ w)⟩;obtain⟨M,q,j⟩:=i z V w;have h1:=hS _ _ w;have s:∀b,A8 o b->∃x,z b=some x/\V b=some x/\¬M b:=λb f=>by
  obtain⟨x,u⟩:=Own.some t f;exact⟨_,u,h1 _ _ u,λhm=>by simp_all⟩
 refine⟨λb=>M b∨A8 o b,λb f=>?_,λb f=>?_,λV' n=>?_⟩
 ·rcases f with f|f
  ·cases e:W b with
   |none=>rfl
   |some x=>
    have:=t.sub _ _ e;simp_all
  ·exact Own.none0 t f
 ·rcases f with f|f;·exact j.1 b f
  grind
 ·refine⟨Mem.minus V' M,I6 t (λc x H=>?_) (λg x r J u=>⟨EO (.inr r),?_⟩),j.2 V' λb x f u=>n b x (.inl f) u⟩;·grind[EO,A8,inr,C4]
  grind[C4,inr]
theorem AZ.mk(h:Dx Q)(S:Q W V)(g:D.sub W):AZ D V Q:=AZ.new h.1 S (h.2 _ _ S) g
theorem QL.start(g:Dx Q)(h:AZ D V Q):AZ D V (QL e sz Q Ai []):=by
 obtain⟨W,f,u,t⟩:=h.use;exact AZ.mk (QL.over g) ⟨W,Own.nil (Mem.sub.refl _) _ _,t⟩ f
theorem QL.pub{α:Type}{row:α->List Value}{xs:List α}(f:Dx Q)(t:∀x,(row x).length=sz)(u:0<sz)(h:AZ D V (QL e sz Q o (xs.flatMap row))):∃D',D.sub D'/\Ad D' o sz (xs.map row)/\AZ D' V Q:=by
 obtain⟨W,w,i,z,g,j⟩:=h.use;exact⟨z,w.trans g.sub,g.rows t u,AZ.mk f j (Mem.sub.refl _)⟩
theorem pushW{α:Type}{t:Nat}{row:α->List Value}{xs:List α}{x:α}(A:AppP t e sz row)(Z:∀x,(row x).length=sz)(r:Dx Q)(h:QL e sz Q o (xs.flatMap row) W V){b:Nat}(q:V b=none)(Y:xs.length+1<=2147483648){ty:Nat}{y z:Operand}{vals:Operand->Value}(s:vals y=.slice o.p o.n o.c)(P:vals z=.slice (sa b) 1 1){c:Array Value}(f:c=(row x).toArray){K:Value->Mem->Prop}(hK:∀u V',QL e sz Q u ((xs++[x]).flatMap row) W V'->K (.slice u.p u.n u.c) V'):
  GenK xG (.call {callee:=.builtin .append,args:=#[y,z],argTypes:=#[t,t]}) ty vals (V.set b (.cells c e (0,0))) K:=by
 subst f;obtain⟨O,H,J⟩:=h;have h1:=r.2 _ _ J;have w:=Own.growS H h1;refine oneG A w.but q Y s P Z λu V' j=>hK u V' ?_;obtain⟨G,R,X⟩:=pushG w j;obtain⟨M,B,N⟩:=r.1 O V J;have C:∀c,M c->V c≠none/\¬A8 o c:=λc f=>⟨N.1 c f,λq=>by
  grind[Own.some]⟩
 have i:W.sub (Mem.minus V' M):=λc x f=>by
  have:¬M c:=λhm=>by
   have:=H.sub _ _ f;simp_all
  rw[C4 this];exact G.sub _ _ f
 exact⟨Mem.minus V' M,I6 G i (λg x E I s=>⟨I,by
  grind[C4]⟩),N.2 V' λc x hm f=>by simp_all⟩
theorem pushL{α:Type}{t:Nat}{row:α->List Value}{xs:List α}{x:α}(A:AppP t e sz row)(u:∀x,(row x).length=sz)(f:Dx Q)(h:AZ D V (QL e sz Q o (xs.flatMap row))){b:Nat}(w:V b=none)(j:xs.length+1<=2147483648){ty:Nat}{y z:Operand}{vals:Operand->Value}(i:vals y=.slice o.p o.n o.c)(r:vals z=.slice (sa b) 1 1){c:Array Value}(s:c=(row x).toArray){K:Value->Mem->Prop}(hK:∀g V',AZ D V' (QL e sz Q g ((xs++[x]).flatMap row))->K (.slice g.p g.n g.c) V'):
  GenK xG (.call {callee:=.builtin .append,args:=#[y,z],argTypes:=#[t,t]}) ty vals (V.set b (.cells c e (0,0))) K:=by
 obtain⟨W,H,-,q⟩:=h.use;exact pushW A u f q w j i r s λg V' J=>hK g V' (AZ.mk (QL.over f) J H)
end
structure Vr where
 m:Mm
 cs:Sl
 cells:List Int
 ps:Sl
 par:List Int
 paths:Int
def Vr.row(v:Vr):List Value:=[v.m.gs.v,v.m.ns.v,v.cs.v,v.ps.v,.int .i64 v.paths]
structure Vr.Ok (D:Mem)(v:Vr):Prop where
 mem:Mm.Ok D v.m
 cs:Ad D v.cs 1 (v.cells.map Ak)
 ps:Ad D v.ps 1 (v.par.map Ak)
theorem Vr.Ok.sub{D D':Mem}{v:Vr}(h:Vr.Ok D v)(s:D.sub D'):Vr.Ok D' v:=⟨h.mem.sub s,h.cs.sub s,h.ps.sub s⟩
def csrow(d:Ds)(L:Sl)(k:Int):List Value:=[Go.Sx.vS d.name,d.ts.v,d.gs.v,d.ps.v,d.ms.v,d.is.v,d.qs.v,d.bs.v,L.v,.int .i64 k]
structure BS (p:Nat)(d:Ds)(L:Sl)(vs:List Vr)(k:Int)(W V:Mem):Prop where
 at_:V p=some (.cells (csrow d L k).toArray 101 (0,0))
 p0:W p=none
 own:Sx.Own W V 98 5 L (vs.flatMap Vr.row)
def Cn(p:Nat)(d:Ds)(vs:List Vr)(k:Int)(W V:Mem):Prop:=∃L,BS p d L vs k W V
section
variable{p:Nat}{d:Ds}{L:Sl}{vs:List Vr}{k:Int}{W V V' D:Mem}
theorem BS.nB(h:BS p d L vs k W V):¬A8 L p:=λg=>by
 obtain⟨f,t⟩:=Own.some h.own g;rw[h.at_]at t;simp_all
theorem BS.cell(h:BS p d L vs k W V)(i n:Nat)(hi:i+n<=10):V.rowp (sa p) i n=some (((csrow d L k).drop i).take n):=Am h.at_ i n hi
theorem BS.cell'(h:BS p d L vs k W V)(j i n:Nat)(hi:j+i+n<=10):V.rowp (Aa (sa p) j) i n=some (((csrow d L k).drop (j+i)).take n):=E0 h.at_ j i n hi
theorem BS.rows(h:BS p d L vs k W V):Ad V L 5 (vs.map Vr.row):=h.own.rows (λ_=>rfl) (by decide)
theorem BS.grow(h:BS p d L vs k W V)(g:V.sub V'):BS p d L vs k W V':=⟨g _ _ h.at_,h.p0,Own.growS h.own g⟩
theorem Cn.over:Dx (Cn p d vs k):=by
 refine⟨λW V ⟨L,h⟩=>?_,λW V ⟨L,h⟩=>h.own.sub⟩;obtain⟨M,w⟩:∃M:Nat->Prop,M=λc=>c=p∨A8 L c:=⟨_,rfl⟩;have z:M p:=by simp_all
 have f:∀c,A8 L c->M c:=λc t=>by simp_all
 refine⟨M,λb f=>?_,λb f=>?_,λV' j=>⟨L,j _ _ z h.at_,EO z,G6,h.own.len,?_⟩⟩
 ·rw[w]at f;rcases f with rfl|f;·exact h.p0
  ·exact Own.none0 h.own f
 ·rw[w]at f;rcases f with rfl|f;·rw[h.at_];simp
  ·obtain⟨u,t⟩:=Own.some h.own f;rw[t];simp
 ·rcases h.own.cases0 with h1|⟨t,g,u,h1,h2,h3,h4⟩;·exact .inl h1
  ·exact .inr ⟨g,u,h1,EO (f g ⟨t,h1⟩),j _ _ (f g ⟨t,h1⟩) h3,h4⟩
theorem BS.setK(h:BS p d L vs k W V)(k':Int):BS p d L vs k' W (V.set p (.cells (csrow d L k').toArray 101 (0,0))):=⟨Mem.set_same _ _ _,h.p0,h.own.put h.nB h.p0 _⟩
theorem BS.count(h:BS p d L vs k W V)(k':Int){q:Mem->Prop}(g:∀V',BS p d L vs k' W V'->q V'):An (Aa (sa p) 9) 0 [.int .i64 k'] V q:=
 An.at2 (off:=9) h.at_ (by simp[csrow]) (g _ (h.setK k'))
theorem appV:AppP 99 98 5 Vr.row:=appG Tryz.underlying99 (by kernel_rfl) (by kernel_rfl) (by kernel_rfl) (by kernel_rfl) (by kernel_rfl) (by decide) (by intro _;rfl) λx u hu=>by simp only[Vr.row,Sl.v,List.mem_cons,List.not_mem_nil,or_false]at hu;rcases hu with rfl|rfl|rfl|rfl|rfl<;>rfl
theorem BS.push(h:BS p d L vs k W V){v:Vr}{b:Nat}(t:V b=none)(J:vs.length<=100000){ty:Nat}{y z:Operand}{vals:Operand->Value}(w:vals y=.slice L.p L.n L.c)(j:vals z=.slice (sa b) 1 1){K:Value->Mem->Prop}(hK:∀g V',V' p=some (.cells (csrow d L k).toArray 101 (0,0))->(∀q:Mem->Prop,(∀V2,BS p d g (vs++[v]) k W V2->q V2)->An (Aa (sa p) 8) 0 [.slice g.p g.n g.c] V' q)->K (.slice g.p g.n g.c) V'):
  GenK xG (.call {callee:=.builtin .append,args:=#[y,z],argTypes:=#[99,99]}) ty vals (V.set b (.cells v.row.toArray 98 (0,0))) K:=by
 refine oneG appV h.own.but t (by omega) w j (λ_=>rfl) λg V' u=>?_;obtain⟨i,r,s⟩:=pushG h.own u;have f:V' p=some (.cells (csrow d L k).toArray 101 (0,0)):=by rw[r p h.nB (by rw[h.at_];simp)];exact h.at_
 refine hK g V' f λq H=>An.at2 (off:=8) f (by simp[csrow]) (H _ ⟨Mem.set_same _ _ _,h.p0,i.put (λt=>?_) h.p0 _⟩);rcases s p t with h1|h1;·exact h.nB h1
 ·rw[h.at_]at h1;cases h1
end
def CD(F:Int)(n:Nat)(ws:List Int):Int:=if F<0∨1048576<F then 2 else if ws.any (λx=>decide (x<0)||decide ((n:Int)<=x))=true then 24 else 0
section
variable{V W:Mem}{p:Nat}{d:Ds}{L:Sl}{vs:List Vr}{k F:Int}
theorem BS.dat(S:BS p d L vs k W V){b:Nat}(g:V b=none)(o:Obj):BS p d L vs k W (V.set b o):=S.grow (Mem.sub_new g o)
theorem O4(S:BS p d L vs k W V):PP 21 [pv p] V (.int .i64 vs.length):=by
 refine Od ?_;have g:=S.rows.n_eq;exact⟨λh=>absurd h nn,λ_=>⟨nn,nn,L,S.cell 8 1 (by decide),by simp_all⟩⟩
theorem O5(S:BS p d L vs k W V):PP 24 [pv p] V (.int .i64 k):=by
 refine Oe ?_;exact⟨λh=>absurd h nn,λ_=>⟨nn,nn,k,S.cell 9 1 (by decide),rfl,rfl⟩⟩
theorem Rg{b t:Nat}(g:V b=some (cell (pv p) t))(S:BS p d L vs k W V){x:Int}:PP 77 [.int .i64 x,pv b] V (.bool (decide (x<0)||decide ((vs.length:Int)<=x))):=by
 refine Qg ?_;have f:=S.rows.n_eq;refine⟨λh=>?_,λh=>⟨_,AG g,nn,nn,L,S.cell 8 1 (by decide),?_⟩⟩;·simp_all
 grind
theorem Jh(S:BS p d L vs k W V){l:Sl}{ws:List Int}(t:Ad V l 1 (ws.map Ak)):PP 43 [pv p,.int .i64 F,l.v] V (.int .i64 (CD F vs.length ws)):=by
 refine Bf.mk (Of ?_);have out:F<0∨1048576<F->CD F vs.length ws=2:=λh=>by grind[CD]
 refine⟨λh=>absurd h nn,λ_=>⟨λh=>⟨by grind,Mem.sub.refl _⟩,λh1=>⟨λh=>⟨by grind,Mem.sub.refl _⟩,λh2=>?_⟩⟩⟩;have h1:¬F<0:=h1;have h2:¬1048576<F:=h2;intro b f;have g:=Mem.sub_new f (cell (pv p) 23);have u:=S.dat f (cell (pv p) 23);refine(Rf (l:=l) (first:=[]) (caps:=[pv b]) (t.sub g) Tryz.call77 (λx=>decide (x<0)||decide ((vs.length:Int)<=x)) (λx _=>Rg Az u)).call ⟨_,rfl,λh=>⟨?_,g⟩,λh=>⟨?_,g⟩⟩;·grind[CD]
 grind[CD]
theorem Rh{b t:Nat}{s:KB}(g:V b=some (cell (.string s) t)){x:Pr}:PP 78 [x.v,pv b] V (.bool (decide (x.name=s))):=by
 refine Qh ?_;exact⟨_,AG g,rfl,rfl⟩
theorem O6(S:BS p d L vs k W V)(w:Ds.Ok V d){nm:KB}:PP 44 [pv p,.string nm] V (.tuple #[(if AC d nm<0 then noPr else Cq d nm).v,.bool (decide (¬AC d nm<0))]):=by
 refine Bf.mk (PK ?_);refine⟨nn,nn,AV,d.ps,S.cell 3 1 (by decide),λb z=>?_⟩;have u:=Mem.sub_new z (cell (.string nm) 9);have n:=S.dat z (cell (.string nm) 9);refine(OJ (first:=[]) (caps:=[pv b]) (w.procs.sub u) Tryz.call78 (λt=>decide (t.name=nm)) (λx _=>Rh Az)).call ⟨_,rfl,λh=>?_,λh=>⟨nn,nn,AV,d.ps,n.cell 3 1 (by decide),?_⟩⟩
 ·have h:AC d nm<0:=h;rw[if_pos h,decide_eq_false (by omega)];exact⟨rfl,u⟩
 ·have h:¬AC d nm<0:=h;obtain⟨i,hi,g⟩:=Jf h;have G:=w.procs.n_eq;have r:=(yu.1 g).1;obtain⟨y,q,j,-,-,s,H,f⟩:=(w.procs.sub u).get (i:=i) (by omega);rw[g]at j;cases j;rw[if_neg h,decide_eq_true h];have J:Ci (λt:Pr=>decide (t.name=nm)) d.procs=(i:Int):=hi;rw[J];exact⟨s,H,by omega,_,_,_,_,_,f,rfl,u⟩
theorem Ri(S:BS p d L vs k W V)(N:Ds.Ok V d){r:Pr}(Z:Pr.Ok V r):PP 49 [pv p,r.v] V (.bool (CL d r)):=by
 refine PQ ?_;have M:=Z.params.n_eq;have R:=N.globals.n_eq;have q:∀{V':Mem},CL d r=false->V=V'->(Ending.returned (.bool false)=.returned (.bool (CL d r))/\V=V'):=λh e=>⟨by rw[h],e⟩;refine⟨λh1=>?_,λh1=>q ?_ rfl⟩;rotate_left;·grind[CL,absurd]
 have h1:(r.ps.n:Int)=1:=h1;obtain⟨f,A⟩:∃f,r.params=[f]:=List.length_eq_one_iff.1 (by omega);obtain⟨y,I,z,-,-,s,Y,t⟩:=Z.params.get (i:=0) (by omega);rw[A]at z;cases z;have P:=Al (n:=0*2) s;refine⟨s,Y,by omega,P,_,_,t,Jg.call ⟨_,rfl,λh2=>⟨nn,nn,AV,d.gs,S.cell 2 1 (by decide),λh3=>?_,λh3=>q ?_ rfl⟩,λh2=>q ?_ rfl⟩⟩;rotate_left;·grind[CL,absurd]
 ·grind[CL,AF]
 have h3:(0:Int)<(d.gs.n:Int):=h3;obtain⟨g,l,H⟩:∃g l,d.globals=g::l:=by
  cases e:d.globals with
  |nil=>simp_all
  |cons g l=>simp_all
 obtain⟨y,-,z,-,-,j,J,u⟩:=N.globals.get (i:=0) (by omega);rw[H]at z;cases z;have G:=Al (n:=0*2) j;have O:CL d r=(decide (f.ty=g.ty)&&!AF f.ty&&(decide (r.result=sE)||AF r.result)):=by grind[CL]
 have h2:(!AF f.ty)=true:=h2;refine⟨nn,nn,AV,d.gs,S.cell 2 1 (by decide),j,J,h3,G,_,_,u,s,Y,by omega,P,_,_,t,λh4=>⟨λw=>?_,λw=>Jg.call ⟨_,rfl,?_⟩⟩,λh4=>q ?_ rfl⟩
 ·have h4:g.ty=f.ty:=h4;have w:r.result=sE:=w;rw[O,decide_eq_true h4.symm,h2,decide_eq_true w];exact⟨rfl,rfl⟩
 ·have h4:g.ty=f.ty:=h4;have w:¬r.result=sE:=w;exact⟨by rw[O,decide_eq_true h4.symm,h2,decide_eq_false w];simp,rfl⟩
 grind
theorem BS.get(S:BS p d L vs k W V){v:Int}(t:0<=v)(h1:v<(vs.length:Int)):∃x,vs[v.toNat]?=some x/\x∈vs/\¬L.p=none/\0<=v/\v<(L.n:Int)/\V.rowp L.p (v.toNat*5) 5=some [x.m.gs.v,x.m.ns.v,x.cs.v,x.ps.v,.int .i64 x.paths]:=by
 have u:=S.rows.n_eq;obtain⟨i,rfl⟩:∃i:Nat,v=(i:Int):=⟨v.toNat,by omega⟩;obtain⟨x,hm,w,-,-,f,z,g⟩:=S.rows.get (i:=i) (by omega);exact⟨x,by simp_all,hm,f,by omega,by omega,by rw[xu];exact g⟩
theorem ck_one{v:Int}{n:Nat}(h:CD F n [v]=0):(0<=F/\F<=1048576)/\0<=v/\v<(n:Int):=by
 grind[CD]
theorem FP{b:Nat}(x:Int):Ad (V.set b (.cells #[.int .i64 x] 3 (0,0))) ⟨some ⟨b,0,none⟩,1,1⟩ 1 ([x].map Ak):=I0 Az
theorem GB{n:Nat}{v:Int}:CD 0 n [v]=if 0<=v/\v<(n:Int)then 0 else 24:=by
 grind[CD]
def Fi(vs:List Vr)(v:Int):Int:=if 0<=v/\v<(vs.length:Int)then(match vs[v.toNat]? with|some x=>(x.m.ns.n:Int)|none=>0)else 0
def Fj(vs:List Vr)(v:Int):Int:=if 0<=v/\v<(vs.length:Int)then(match vs[v.toNat]? with|some x=>x.paths|none=>0)else 0
theorem Nr(S:BS p d L vs k W V){v:Int}:PP 15 [pv p,.int .i64 v] V (.tuple #[.int .i64 (Fi vs v),.int .i64 (CD 0 vs.length [v])]):=by
 refine Bf.mk (Oa ?_);intro b z;have j:=Mem.sub_new z (.cells #[.int .i64 v] 3 (0,0));have t:=S.dat z (.cells #[.int .i64 v] 3 (0,0));refine(Jh t (F:=0) (FP (V:=V) (b:=b) v)).call ⟨_,rfl,λg=>?_,λg=>?_⟩
 ·obtain⟨-,h1,h2⟩:=ck_one g;obtain⟨x,r,hm,u,i,w,f⟩:=t.get h1 h2;have e:Fi vs v=x.m.ns.n:=by grind[Fi]
  rw[e,show CD 0 vs.length [v]=0 from g];exact⟨nn,nn,L,t.cell 8 1 (by decide),u,i,w,Al u,Al (Al u),_,_,_,_,_,f,rfl,j⟩
 ·have g:¬CD 0 vs.length [v]=0:=g;have e:Fi vs v=0:=by unfold Fi;rw[GB]at g;rw[if_neg λh=>g (if_pos h)]
  rw[e];exact⟨rfl,j⟩
theorem Ns(S:BS p d L vs k W V){v:Int}:PP 16 [pv p,.int .i64 v] V (.tuple #[.int .i64 (Fj vs v),.int .i64 (CD 0 vs.length [v])]):=by
 refine Bf.mk (Ob ?_);intro b w;have z:=Mem.sub_new w (.cells #[.int .i64 v] 3 (0,0));have t:=S.dat w (.cells #[.int .i64 v] 3 (0,0));refine(Jh t (F:=0) (FP (V:=V) (b:=b) v)).call ⟨_,rfl,λg=>?_,λg=>?_⟩
 ·obtain⟨-,h1,h2⟩:=ck_one g;obtain⟨x,n,hm,j,i,u,f⟩:=t.get h1 h2;have e:Fj vs v=x.paths:=by grind[Fj]
  rw[e,show CD 0 vs.length [v]=0 from g];exact⟨nn,nn,L,t.cell 8 1 (by decide),j,i,u,Al j,_,_,_,_,_,f,rfl,z⟩
 ·have g:¬CD 0 vs.length [v]=0:=g;have e:Fj vs v=0:=by unfold Fj;rw[GB]at g;rw[if_neg λh=>g (if_pos h)]
  rw[e];exact⟨rfl,z⟩
theorem Nt(S:BS p d L vs k W V)(w:∀x∈vs,Vr.Ok V x)(z:∀x∈vs,x.par.length<=2147483648){v:Int}:Tri xG 20 #[pv p,.int .i64 v] V λe V'=>V.sub V'/\
  ((¬(0<=v/\v<(vs.length:Int))/\e=.returned (.tuple #[Ai.v,.int .i64 24]))∨((0<=v/\v<(vs.length:Int))/\∃x s,vs[v.toNat]?=some x/\e=.returned (.tuple #[s.v,.int .i64 0])/\Sx.Own V V' 3 1 s (x.par.flatMap Ak))):=by
 refine Oc ?_;intro b n;have u:=Mem.sub_new n (.cells #[.int .i64 v] 3 (0,0));have j:=S.dat n (.cells #[.int .i64 v] 3 (0,0));refine(Jh j (F:=0) (FP (V:=V) (b:=b) v)).call ⟨_,rfl,λg=>?_,λg=>?_⟩
 ·obtain⟨-,h1,h2⟩:=ck_one g;obtain⟨x,q,hm,r,H,i,f⟩:=j.get h1 h2;refine⟨nn,nn,L,j.cell 8 1 (by decide),r,H,i,Al r,_,_,_,_,_,f,Tri.mono (Gl ((w x hm).ps.sub u) (z x hm)) ?_⟩;rintro _ J ⟨s,rfl,o⟩;exact⟨s,rfl,u.trans o.sub,.inr ⟨⟨h1,h2⟩,x,s,q,rfl,o.narrow u⟩⟩
 ·have g:¬CD 0 vs.length [v]=0:=g;rw[GB]at g⊢;have t:¬(0<=v/\v<(vs.length:Int)):=λh=>g (if_pos h);exact⟨u,.inl ⟨t,by rw[if_neg t];rfl⟩⟩
theorem Lw(S:BS p d L vs k W V)(N:∀x∈vs,Vr.Ok V x)(B:∀x∈vs,Ao d x.m){v:Int}:Tri xG 14 #[pv p,.int .i64 v] V λe V'=>V.sub V'/\
  ((¬(0<=v/\v<(vs.length:Int))/\e=.returned (.tuple #[.agg #[Ai.v,Ai.v],.int .i64 24]))∨((0<=v/\v<(vs.length:Int))/\∃x gs ns nd,vs[v.toNat]?=some x/\e=.returned (.tuple #[.agg #[gs.v,ns.v],.int .i64 0])/\AM V V' gs ns Ai nd (AY x.m))):=by
 refine Og ?_;intro b X;have Z:=Mem.sub_new X (.cells #[.int .i64 v] 3 (0,0));have Y:=S.dat X (.cells #[.int .i64 v] 3 (0,0));refine(Jh Y (F:=0) (FP (V:=V) (b:=b) v)).call ⟨_,rfl,λw=>?_,λw=>?_⟩
 ·obtain⟨-,h1,h2⟩:=ck_one w;obtain⟨x,C,hm,G,P,g,t⟩:=Y.get h1 h2;have u:=(N x hm).mem;obtain⟨E,l2,K⟩:=Ja (B x hm);refine⟨nn,nn,L,Y.cell 8 1 (by decide),G,P,g,Al G,_,_,_,_,_,t,Tri.mono (Gl (u.globals.sub Z) E) ?_⟩;rintro _ V1 ⟨gs,rfl,r⟩;have r:=r.narrow Z;refine⟨gs,rfl,loop3b (mk:=λs:Sl=>.slice s.p s.n s.c) (mc:=λs:Sl=>.slice s.p s.n s.c) (b0:=gs) (c0:=⟨none,0,0⟩) Bv Bv x.m.nodes.length (λi b ns V2=>b=gs/\∃nd,AM V V2 gs ns Ai nd ⟨x.m.globals,(x.m.nodes.take i).map λn=>(n.ty,n.f),0,0,[]⟩/\nd.length=i) ⟨rfl,[],⟨r,Own.nil r.sub _ _,Own.nil r.sub _ _,(λn O=>by cases O),rfl,(λn O=>by cases O),(λi j n n' c h=>by cases h)⟩,rfl⟩ ?_⟩;rintro i b ns V2 J hi ⟨rfl,nd,z,T⟩ U;have A:=u.nodes.sub z.sub;refine⟨λg=>?_,λI=>?_⟩
  ·obtain⟨y,q,hy,-,M,G,P,t⟩:=A.get g;refine⟨G,P,g,y.ty,y.sl,t,Tri.mono (Gl ((u.nodesOk y q).rows.sub z.sub) (K y q)) ?_⟩;rintro _ V3 ⟨fs,rfl,o3⟩;refine⟨fs,rfl,λtb R=>z.new (n:=⟨y.ty,fs,y.f⟩) o3 R rfl rfl (by omega) λs' V' L' _=>⟨s',rfl,A.succ g,U M _ _ _ ⟨rfl,nd++[⟨y.ty,fs,y.f⟩],?_,by simp_all⟩⟩⟩;grind[w8]
  ·have hd:=(A.done I).2;rw[wZ hd]at z;exact⟨z.sub,.inr ⟨⟨h1,h2⟩,x,_,_,nd,C,rfl,z⟩⟩
 ·have w:¬CD 0 vs.length [v]=0:=w;rw[GB]at w⊢;have H:¬(0<=v/\v<(vs.length:Int)):=λh=>w (if_pos h);exact⟨Z,.inl ⟨H,by rw[if_neg H];rfl⟩⟩
end
def Vr.pv(v:Vr):PV:=⟨v.m.plain,v.par,v.paths⟩
section
variable{V W:Mem}{p:Nat}{d:Ds}{L:Sl}{vs:List Vr}{k F:Int}
theorem own_blk{α:Type}{row:α->List Value}{sz e b:Nat}{xs:List α}(g:∀x,(row x).length=sz)(f:W b=none){A:Mem}(t:W.sub A)(u:A b=some (.cells (xs.flatMap row).toArray e (0,0)))(w:xs.length<=1000000):Sx.Own W A e sz ⟨some ⟨b,0,none⟩,xs.length,xs.length⟩ (xs.flatMap row):=
 ⟨t,IG g xs,.inr ⟨b,_,rfl,f,u,yW _,by simp only[maxLen];omega,by rw[List.size_toArray,IG g],by rw[wZ];rw[IG g];grind⟩⟩
theorem Nu[Tab V](z:Ds.Ok V d):Tri xG 10 #[d.v] V λe V'=>V.sub V'/\
  ((¬Ao d (BX d Ai)/\e=.returned (.tuple #[.pointer none,.int .i64 1]))∨
  (Ao d (BX d Ai)/\∃p D v,e=.returned (.tuple #[pv p,.int .i64 0])/\V.sub D/\Vr.Ok D v/\v.pv=⟨(BX d Ai).plain,[],1⟩/\v.cells=[]/\AZ D V' (Cn p d [v] 0))):=by
 refine Pt ?_;refine(Ow scopeC newC z).call ?_;by_cases hv:BB d=true;rotate_left
 ·rw[if_neg hv];exact⟨_,_,_,rfl,λh=>absurd h (by decide),λ_=>⟨Mem.sub.refl _,.inl ⟨λG=>hv G.valid,rfl⟩⟩⟩
 rw[if_pos hv];refine⟨_,_,_,rfl,λf=>Tri.mono (Rd z) ?_,λf=>⟨Mem.sub.refl _,.inl ⟨λG=>f (by rw[G.chk];rfl),rfl⟩⟩⟩;rintro _ V2 ⟨t,⟨j,rfl⟩|⟨j,i,rfl,u⟩⟩;·exact⟨_,_,_,rfl,λh=>absurd h (by decide),λ_=>⟨t,.inl ⟨λG=>by have:=(BG G.mem).1;simp_all,rfl⟩⟩⟩
 have G:Ao d (BX d Ai):=⟨hv,MX f,new_valid j⟩;refine⟨_,_,_,rfl,λ_ b n c r=>?_,λh=>absurd rfl h⟩;have w:=Mem.sub_new n (.cells #[i.v,Ai.v,Ai.v,Ai.v,.int .i64 1] 98 (0,0));have q:=Mem.sub_new r (.cells #[Go.Sx.vS d.name,d.ts.v,d.gs.v,d.ps.v,d.ms.v,d.is.v,d.qs.v,d.bs.v,(⟨some ⟨b,0,none⟩,1,1⟩:Sl).v,.int .i64 0] 101 (0,0));obtain⟨v,g⟩:∃v:Vr,v=⟨BX d i,Ai,[],Ai,[],1⟩:=⟨_,rfl⟩;have s:V2 c=none:=free w r;have nb:b≠c:=λe=>by grind[Mem.set_same]
 refine⟨t.trans (w.trans q),.inr ⟨G,c,V2,v,rfl,t,by rw[g];exact⟨u,Ad.nil,Ad.nil⟩,by rw[g];rfl,by rw[g],?_⟩⟩;refine AZ.mk Cn.over (W:=V2) ⟨⟨some ⟨b,0,none⟩,1,1⟩,Mem.set_same _ _ _,s,?_⟩ (Mem.sub.refl _);exact own_blk (xs:=[v]) (row:=Vr.row) (λ_=>rfl) n (w.trans q) (by rw[Mem.set_ne nb,Mem.set_same,g];rfl) (by simp)
end
end Go.Proofs
