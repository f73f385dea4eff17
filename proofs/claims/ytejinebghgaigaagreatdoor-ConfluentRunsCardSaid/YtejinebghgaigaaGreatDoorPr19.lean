/- Part 19: no statement of the seat is proved here. -/
import Derived.Test.YtejinebghgaigaaGreatDoorPr18
import Derived.Test.YtejinebghgaigaaGreatDoorPr16
import Derived.Test.YtejinebghgaigaaGreatDoorPr15
set_option linter.unusedVariables false
set_option linter.unusedSimpArgs false
open List renaming getElem?_eq_getElem->yv,getElem_mem->yo,length_map->xm,length_zip->vT,getElem?_eq_some_iff->yw,mem_iff_getElem?->xn,mem_of_getElem?->xJ,all_eq_true->za,mem_map->vV,take_add_one->wc,length_append->zw,getElem?_append_left->xj,mem_append->xh,getElem?_map->y4,getD_eq_getElem?_getD->vp,replicate->yI,mem_replicate->vo,take_of_length_le->wW,mem_singleton->zO
open Bool renaming and_eq_true->zC
open Go.Proofs.Tryz renaming prog->xE
open Int renaming toNat_of_nonneg->vu,toNat_natCast->xv
open Nat renaming le_refl->yU
open Option renaming map_map->vq
open Go.Value renaming int->xe,bool->vn
open Function renaming comp_def->vm
namespace Go.Proofs
open Go Go.Sx
attribute [local irreducible] Go.Sx.Tri
section
variable{d:Ds}{m c:Mm}{O:List Int}
structure Ren (d:Ds)(m c:Mm)(O:List Int):Prop where
 good:Am d m
 rch:Rch d m O
 can:Gj d m c O
theorem Ren.node(H:Ren d m c O){x:Int}(g:x∈O):∃(i:Nat)(n:Nd)(s:Sl),O[i]?=some x/\Cv O x=(i:Int)+1/\i<O.length/\m.nodes[(x-1).toNat]?=some n/\n∈m.nodes/\c.nodes[(Cv O x-1).toNat]?=some ⟨n.ty,s,BH O (Bm d n.ty) n.f⟩:=by
 obtain⟨i,h1,h2,h3⟩:=Jh H.rch g;have w:=H.rch.rng x g;have t:(x-1).toNat<m.nodes.length:=by omega
 obtain⟨s,u⟩:=H.can.at_ i x _ h1 (yv t);refine⟨i,_,s,h1,h2,h3,yv t,yo _,?_⟩;rw[h2,show((i:Int)+1-1).toNat=i by omega];exact u
theorem Nl{t:KB}(h:AC t=false):t≠Ai/\t≠Au:=by
 unfold AC at h;simpa using h
theorem ren_right(H:Ren d m c O){t:KB}{v:Int}(h:AJ d m t v=true)(hv:AC t=false->v=0∨v∈O):AJ d c t (if AC t=true then v else Cv O v)=true:=by
 cases g:AC t with
 |true=>
  rw[if_pos rfl];unfold AC at g;unfold AJ at h⊢;by_cases h1:t=Ai;·rw[if_pos h1]at h⊢;exact h
  ·rw[if_neg h1]at h⊢;have h2:t=Au:=by simpa [h1]using g
   rw[if_pos h2]at h⊢;exact h
 |false=>
  rw[if_neg (by decide)];obtain⟨h1,h2⟩:=Nl g;unfold AJ at h⊢;rw[if_neg h1,if_neg h2,decide_eq_true_eq]at h⊢;rcases hv g with rfl|hm;·exact .inl HC
  ·obtain⟨i,n,s,-,w,z,f,-,u⟩:=H.node hm;have j:=H.rch.rng v hm;rw[u];rw[f]at h;have r:=H.can.len;refine .inr ⟨by omega,by omega,?_⟩;rcases h with h|h;·omega
   ·exact h.2.2
theorem ON(H:Ren d m c O){l:List Fld}{vs:List Int}(h:Aw d m l vs=true)(r:∀y∈CV l vs,y∈O):Aw d c l (BH O l vs)=true:=by
 unfold Aw at h⊢;rw[zC,decide_eq_true_eq,GO]at h⊢;obtain⟨h1,h2⟩:=h;refine⟨by unfold BH;rw[xm,vT];omega,λj x g=>?_⟩;have z:=(yw.1 g).1;have t:j<vs.length:=by unfold BH at z;rw[xm,vT]at z;omega
 obtain⟨v,hv⟩:∃v,vs[j]?=some v:=⟨_,yv t⟩;obtain⟨f,u⟩:∃f,l[j]?=some f:=⟨_,yv (by omega)⟩;rw[HD u hv]at g;have i:=h2 j v hv;have w:tyAt l j=f.ty:=by unfold tyAt;rw[u];rfl
 rw[w]at i⊢;rw[<-Option.some.inj g];refine ren_right H i λq=>?_;by_cases n:v=0;·exact .inl n
 ·exact .inr (r v (Gi.2 ⟨j,f,u,hv,q,n⟩))
theorem ren_tgtN(H:Ren d m c O){x:Int}(g:x∈O){n:Nd}(t:m.nodes[(x-1).toNat]?=some n):∀y∈CV (Bm d n.ty) n.f,y∈O:=by
 have:=H.rch.shut x g;unfold Proofs.nodeTgt at this;rw[t]at this;exact this
theorem ren_good(H:Ren d m c O):Am d c:=by
 refine⟨H.good.valid,H.good.chk,?_⟩;obtain⟨p1,q,p3,z,j⟩:=BD H.good.mem;have J:=H.can.len;have G:=H.rch.cap;have nd:∀n∈c.nodes,∃x∈m.nodes,n.ty=x.ty/\Aw d c (Bm d n.ty) n.f=true:=λn g=>by
  obtain⟨i,hi⟩:=xn.1 g;have r:=(yw.1 hi).1;have t:O[i]?=some (O[i]'(by omega)):=yv _;have hm:=xJ t;have N:=H.rch.rng _ hm;have u:=yv (l:=m.nodes) (i:=((O[i]'(by omega))-1).toNat) (by omega);obtain⟨s,w⟩:=H.can.at_ i _ _ t u;rw[hi]at w;cases w;exact⟨_,yo _,rfl,ON H (j _ (yo _)) (ren_tgtN H hm u)⟩
 unfold Bs;simp only[zC,za,decide_eq_true_eq];refine⟨⟨⟨⟨p1,by omega⟩,λn g=>?_⟩,?_⟩,λn g=>?_⟩
 ·obtain⟨x,t,e,-⟩:=nd n g;have:=p3 x t;unfold Es at this⊢;rw[e];exact this
 ·rw[H.can.globals];exact ON H z H.rch.glob
 ·obtain⟨x,t,e,h⟩:=nd n g;exact h
end
section
variable{V V0:Mem}{d:Ds}{F:Nat}{m:Mm}{l:Sl}{cs:List Q6}
theorem Lk{c:Mm}(G:Am d m)(I:Gj d m c (AS d m).order):Am d c:=ren_good ⟨G,FI G.mem,I⟩
end
theorem loop3b{V:Mem}{β g:Type}{mk:β->Value}{mc:g->Value}{B:β->g->Int->Mem->(KZ)->Prop}{b0:β}{c0:g}(ib:∀x y,mk x=mk y->x=y)(j:∀x y,mc x=mc y->x=y)(len:Nat)(St:Nat->β->g->Mem->Prop)(r:St 0 b0 c0 V)
  (step:∀(i:Nat)(b:β)(c:g) V1 J,i<=len->St i b c V1->(i<len->∀f t V2,St (i+1) f t V2->J [mk f,mc t,.int .i64 ((i:Int)+1)] V2)->B b c (i:Int) V1 J):
  ∃(I:Nat->KZ)(q:Nat),I q [mk b0,mc c0,.int .i64 0] V/\∀n V1,∀b:β,∀c:g,∀v:Int,I n [mk b,mc c,.int .i64 v] V1->∀J:KZ,(∀m ys u,m<n->I m ys u->J ys u)->B b c v V1 J:=by
 refine⟨LI len λi xs V=>∃b c,xs=[mk b,mc c,.int .i64 i]/\St i b c V,len,LI.start ⟨b0,c0,rfl,r⟩,?_⟩;rintro n V1 b c v ⟨i,rfl,hi,f,t,z,s⟩ J H;simp only[List.cons.injEq,Value.int.injEq,true_and,and_true]at z;obtain⟨G,N,rfl⟩:=z;cases ib _ _ G;cases j _ _ N;exact step i b c V1 J hi s λw f t V2 h2=>LI.next H w ⟨f,t,rfl,h2⟩
theorem Il{t:KB}(h:t=Ai∨t=Au):AC t=true:=by
 unfold AC;rcases h with rfl|rfl<;>simp
section
variable{V0 V:Mem}{d:Ds}{m:Mm}
theorem c147{s:Sl}{l:List Int}(h:Ad V s 1 (l.map Al)){x:Int}:PP 147 [s.v,.int .i64 x] V (.int .i64 (CQ l x)):=by
 refine x147 ?_;refine AU (mk:=.int .i64) (b0:=0) l.length (λj V1=>V=V1/\Bf (λy:Int=>!decide (y=x)) l j) ⟨rfl,Bf.zero _ _⟩ ?_;rintro j b V1 J G ⟨rfl,w⟩ i;refine⟨λg=>?_,λt=>?_⟩
 ·obtain⟨y,n,r,-,u,q,H,f⟩:=h.get g;refine⟨q,H,g,_,f,λz=>?_,λz=>⟨h.succ g,i u _ _ ⟨rfl,HZ w r (decide_eq_false z)⟩⟩⟩;have e:CQ l x=(j:Int):=by grind[CQ,HX,decide_eq_true]
  simp_all
 ·have e:CQ l x=-1:=by unfold CQ;exact HY w (h.done t).2
  simp_all
theorem pos_neg{l:List Int}{x:Int}:¬(0<=CQ l x)↔¬x∈l:=by
 unfold CQ;rcases CP (λy=>decide (y=x)) l with⟨h1,-,h2⟩|⟨i,y,h1,h2,-,h3,h4,-⟩;·grind
 grind
theorem tgtI_in{xs:List Fld}{vs:List Int}(h:Aw d m xs vs=true){i:Nat}:∀y∈tgtI xs vs i,1<=y/\y<=(m.nodes.length:Int):=λy g=>by
 have:y∈CV xs vs:=by
  unfold tgtI at g;unfold CV;obtain⟨a,t,rfl⟩:=vV.1 g;grind
 obtain⟨j,f,h1,h2,h3,h4⟩:=Gi.1 this;exact G9 h h1 h2 h3 h4
def LookRP(V0:Mem)(st:Sr):Ending->Mem->Prop:=λe V'=>∃s:Sl,e=.returned (.agg #[s.v,.int .i64 st.again])/\Sx.Own V0 V' 3 1 s (st.order.flatMap Al)
variable(V0 d m)in
def LookRC(N:Nat):Prop:=∀(st:Sr)(f:Nat) V (s l q:Sl)(xs:List Fld)(vs:List Int),Cc m st<=N->Cc m st<f->st.order.length+Cc m st<=m.nodes.length->Ad V0 l 2 (xs.map Fld.row)->Ad V0 q 1 (vs.map Al)->Aw d m xs vs=true->Sx.Own V0 V 3 1 s (st.order.flatMap Al)->
 Tri xE 146 #[d.v,m.v,.agg #[s.v,.int .i64 st.again],l.v,q.v] V (LookRP V0 (lookP d m f st xs vs))
theorem lookRC(Y:Bs d m=true)(hd:Ds.Ok V0 d)(hm:Mm.Ok V0 m)(N:Nat)(ih:∀N',N'<N->LookRC V0 d m N'):LookRC V0 d m N:=by
 intro st f V s l q xs vs hN hf S hl hq hv ho;refine Tri.mono (x146 (R:=LookRP V0 (lookP d m f st xs vs)) ?_) λ_ _ h=>h;have hlen:xs.length=vs.length:=by
  grind[Aw]
 have m4:=(BD Y).2.1;refine loop3b (mk:=λs:Sl=>.slice s.p s.n s.c) (mc:=.int .i64) (b0:=s) (c0:=st.again) Bw CY xs.length (λi A a V1=>a=((tgtI xs vs i).foldl (Ba d m f) st).again/\Sx.Own V0 V1 3 1 A (((tgtI xs vs i).foldl (Ba d m f) st).order.flatMap Al)) ⟨rfl,ho⟩ ?_;rintro i A a V1 J hi ⟨rfl,h1⟩ hJ;obtain⟨g,w⟩:∃g,g=(tgtI xs vs i).foldl (Ba d m f) st:=⟨_,rfl⟩;rw[<-w]at h1⊢;have hu:Cc m g<=Cc m st:=by simp_all[unS_le,foldP_sub]
 have hcl:Cl d m st g:=by rw[w];exact(Lj (ent_cl Y f) (tgtI xs vs i) st (tgtI_in hv) hf).1
 have hcap1:=hcl.cap S;have r:=hl.sub h1.sub;have T:=hq.sub h1.sub;refine⟨λH=>?_,λhge=>?_⟩
 ·obtain⟨x,hxm,hx,-,U,hp,hz,I⟩:=r.get H;have n1:=r.n_eq;have n2:=T.n_eq;obtain⟨y,hym,hy,-,hjl,hpy,hzy,X⟩:=T.get (i:=i) (by omega);have same:DE (x,y)=false->J [.slice A.p A.n A.c,.int .i64 g.again,.int .i64 ((i:Int)+1)] V1:=λhr=>by
   refine hJ U A g.again V1 ?_;rw[Lh hx hy,hr,if_neg (by decide),List.append_nil,<-w];exact⟨rfl,h1⟩
  have pl:AC x.ty=true->DE (x,y)=false:=λh=>by grind[DE,AC]
  refine⟨hpy,hzy,by omega,_,X,hp,hz,H,Ak hp,_,_,I,λh2=>⟨r.succ H,same (pl ?_)⟩,λh2=>⟨hp,hz,H,Ak hp,_,_,I,λh3=>⟨r.succ H,same (pl ?_)⟩,λh3=>⟨λh4=>⟨r.succ H,same ?_⟩,λh4=>?_⟩⟩⟩;·grind[Ai,AC]
  ·grind[Au,AC]
  ·grind[DE]
  have hpl:AC x.ty=false:=by
   grind[Ai,Au,AC]
  have h4:¬y=0:=h4;have hr:DE (x,y)=true:=by grind[DE]
  have hy1:=G9 hv hx hy hpl h4;have next:∀(s':Sl) V2,Sx.Own V0 V2 3 1 s' ((Ba d m f g y).order.flatMap Al)->J [.slice s'.p s'.n s'.c,.int .i64 (Ba d m f g y).again,.int .i64 ((i:Int)+1)] V2:=λs' V2 h=>by
   refine hJ U s' _ V2 ?_;rw[Lh hx hy,hr,if_pos rfl,List.foldl_append,List.foldl_cons,List.foldl_nil,<-w];exact⟨rfl,h⟩
  obtain⟨f,rfl⟩:∃f',f=f'+1:=⟨f-1,by omega⟩;refine(c147 (h1.rows (λ_=>rfl) (by decide))).call ⟨_,rfl,λh5=>?_,λh5=>?_⟩
  ·have B:y∈g.order:=Classical.not_not.1 λh=>pos_neg.2 h h5;have e:Ba d m (f+1) g y=⟨g.order,if g.again=0 then y else g.again⟩:=by grind[Ba]
   rw[e]at next
   refine⟨λh6=>⟨r.succ H,?_⟩,λh6=>⟨r.succ H,?_⟩⟩;·simp_all
   simp_all
  ·have B:¬y∈g.order:=pos_neg.1 h5;have hlt2:=unS_lt (st:=g) hy1 B (a:=g.again);intro tb htb;refine FG (s:=A) (u:=⟨some ⟨tb,0,none⟩,1,1⟩) (xs:=g.order) (ys:=[y]) rfl rfl (h1.but.new htb (.cells #[.int .i64 y] 3 (0,0))) (I8 Az) (by simp;omega) λo2 V2 ho2=>⟨o2,rfl,?_⟩;have C:Sx.Own V0 V2 3 1 o2 ((g.order++[y]).flatMap Al):=ho2.narrow h1.sub_but;obtain⟨k,rfl⟩:∃k:Nat,y=(k:Int)+1:=⟨(y-1).toNat,by omega⟩;have hmm:=hm.sub C.sub;have hdd:=hd.sub C.sub;have hnn:=hmm.nodes.n_eq;obtain⟨z,E,hz',-,hl2,P,hzx,G⟩:=hmm.nodes.get (i:=k) (by omega);obtain⟨c1,c2⟩:=of_decide_eq_true ((BD Y).2.2.1 z E);obtain⟨j,hj⟩:∃j:Nat,z.ty=(j:Int):=⟨_,(vu c1).symm⟩;have htn:=hdd.types.n_eq;obtain⟨t,htm,ht,-,hl3,M,hzt,K⟩:=hdd.types.get (i:=j) (by omega);have hI:IR ((k:Int)):=⟨by omega,by omega⟩;have hfo:=Ef ht hj;have Z:=(BD Y).2.2.2.2 z E;rw[hfo]at Z;rw[show((k:Int)+1-1)=(k:Int)by omega];refine⟨hI,P,hzx,by omega,Ak P,_,_,G,?_⟩;rw[hj];refine⟨M,hzt,by omega,Ak M,_,_,K,hI,P,hzx,by omega,Ak P,_,_,G,?_⟩;refine Tri.mono (ih (Cc m ⟨g.order++[(k:Int)+1],g.again⟩) (by omega) ⟨g.order++[(k:Int)+1],g.again⟩ f V2 o2 t.fs z.sl t.fields z.f (yU _) (by omega) ?_ (hd.typesOk t htm).fields (hm.nodesOk z E).rows Z C) ?_;·grind
   rintro _ V5 ⟨s5,rfl,h6⟩;have e:Ba d m (f+1) g ((k:Int)+1)=lookP d m f ⟨g.order++[(k:Int)+1],g.again⟩ t.fields z.f:=by
    rw[Ba,if_neg B];simp_all[nodeTgt,lookP,Int,CV,Bm]
   rw[<-e]at h6⊢;exact⟨_,_,rfl,r.succ H,next s5 V5 h6⟩
 ·have hdn:=(r.done hge).2;rw[tgtI_all hdn]at w;have e:lookP d m f st xs vs=g:=w.symm;rw[e];exact⟨A,rfl,h1⟩
theorem Ra(g:Bs d m=true)(f:Ds.Ok V d)(hm:Mm.Ok V m):Tri xE 97 #[d.v,m.v] V (LookRP V (AS d m)):=by
 refine Tri.mono (Qu (R:=LookRP V (AS d m)) ?_) λ_ _ h=>h;have hu:=JV (m:=m);have all:∀N,LookRC V d m N:=λN=>Nat.strongRecOn N λN t=>lookRC g f hm N t;refine Tri.mono (all m.nodes.length ⟨[],0⟩ (m.nodes.length+1) V ⟨none,0,0⟩ d.gs m.gs d.globals m.globals hu (by omega) (by simp_all) f.globals hm.globals (BD g).2.2.2.1 (Own.nil (Mem.sub.refl V) _ _)) ?_;rintro _ V2 ⟨s,rfl,h⟩;exact⟨_,_,rfl,s,rfl,h⟩
end
section
variable{V:Mem}{d:Ds}{m:Mm}
theorem OO{l q o:Sl}{xs:List Fld}{vs O:List Int}(S:Ad V l 2 (xs.map Fld.row))(T:Ad V q 1 (vs.map Al))(U:Ad V o 1 (O.map Al))(hO:O.length<=4096)(he:xs.length=vs.length)(B:xs.length<=4096):
  Tri xE 98 #[l.v,q.v,o.v] V λe V'=>∃s:Sl,e=.returned (.slice s.p s.n s.c)/\Sx.Own V V' 3 1 s ((BH O xs vs).flatMap Al):=by
 refine Qv ?_;have hrl:=renL_len (O:=O) he;refine FA (mk:=λs:Sl=>.slice s.p s.n s.c) (b0:=⟨none,0,0⟩) Bw xs.length (λi s V1=>Sx.Own V V1 3 1 s (((BH O xs vs).take i).flatMap Al)) (Own.nil (Mem.sub.refl _) _ _) ?_;rintro i s V1 J hi h1 hJ;have H:=S.sub h1.sub;have N:=T.sub h1.sub;refine⟨λt=>?_,λP=>?_⟩
 ·obtain⟨x,hxm,hx,-,A,Z,Y,r⟩:=H.get t;have n2:=N.n_eq;obtain⟨y,hym,hy,-,hjl,I,M,G⟩:=N.get (i:=i) (by omega);have R:=HD (O:=O) hx hy;have add:∀{w z:Int}{V2:Mem}{ty:Nat}{a b:Operand}{vals:Operand->Value},V1=V2->w=(if AC x.ty=true then y else Cv O y)->z=w->∀f,V2 f=none->vals a=.slice s.p s.n s.c->vals b=.slice (sa f) 1 1 ->
    GenK xE (.call {callee:=.builtin .append,args:=#[a,b],argTypes:=#[43,43]}) ty vals (V2.set f (.cells #[.int .i64 z] 3 (0,0))) λx C=>∃E:Sl,x=uL E/\IR ((i:Int)+1)/\J [uL E,uI ((i:Int)+1)] C:=λ{w z V2 ty a b vals} e hw Y f g ha B=>by
   subst e;subst Y;refine FG (s:=s) (u:=⟨some ⟨f,0,none⟩,1,1⟩) (xs:=(BH O xs vs).take i) (ys:=[z]) ha B (h1.but.new g (.cells #[.int .i64 z] 3 (0,0))) (I8 Az) (by grind) λo2 C X=>⟨o2,rfl,H.succ t,hJ A _ _ ?_⟩;rw[wc,R,<-hw];exact X.narrow h1.sub_but
  have K:∀{c:Bool},AC x.ty=c->(if AC x.ty=true then y else Cv O y)=if c=true then y else Cv O y:=λh=>by rw[h]
  refine⟨I,M,by omega,_,G,Z,Y,t,Ak Z,_,_,r,λh2 f g=>add rfl (by rw[K (Il (.inl h2))];rfl) rfl f g rfl rfl,λh2=>⟨Z,Y,t,Ak Z,_,_,r,λh3 f g=>add rfl (by rw[K (Il (.inr h3))];rfl) rfl f g rfl rfl,λh3=>?_⟩⟩;have hpl:AC x.ty=false:=by
   grind[Ai,Au,AC]
  refine⟨λh4 f g=>add rfl ?_ rfl f g rfl rfl,λh4=>?_⟩;·grind[HC]
  ·refine(c147 (U.sub h1.sub)).call ⟨_,rfl,?_,λf g=>add rfl ?_ rfl f g rfl rfl⟩
   ·unfold CQ;rcases CP (λz=>decide (z=y)) O with⟨e,-⟩|⟨j,_,e,-,-,e2,-⟩;·rw[e];exact⟨by omega,by omega⟩
    ·rw[e];exact⟨by omega,by omega⟩
   grind[Cv]
 ·have hd:=(H.done P).2;grind
theorem JX(h:BC d=true):d.globals.length<=8/\∀t∈d.types,t.fields.length<=12:=by
 grind[BC,Dl,ED]
theorem HF{l:List Fld}{vs:List Int}(h:Aw d m l vs=true):l.length=vs.length:=by
 grind[Aw]
theorem Ll(G:Am d m)(hd:Ds.Ok V d)(hm:Mm.Ok V m):Tri xE 65 #[d.v,m.v] V λe V'=>V.sub V'/\∃c:Mm,e=.returned (.agg #[c.gs.v,c.ns.v])/\Mm.Ok V' c/\Gj d m c (AS d m).order:=by
 refine QD ?_;refine Tri.mono (Ra G.mem hd hm) ?_;rintro _ V1 ⟨o,rfl,ho⟩;have R:=FI G.mem;obtain⟨p1,p2,p3,p4,p5⟩:=BD G.mem;obtain⟨l1,l2⟩:=JX G.valid;have hcap:=R.cap;have S:=ho.rows (λ_=>rfl) (by decide);refine⟨o,_,rfl,Tri.mono (OO (hd.globals.sub ho.sub) (hm.globals.sub ho.sub) S (by omega) (HF p4) (by omega)) ?_⟩;rintro _ V2 ⟨gs,rfl,hg⟩;refine⟨gs,rfl,?_⟩;have hgR:=hg.rows (λ_=>rfl) (by decide);refine loop3b (mk:=λs:Sl=>.slice s.p s.n s.c) (mc:=λs:Sl=>.slice s.p s.n s.c) (b0:=gs) (c0:=⟨none,0,0⟩) Bw Bw (AS d m).order.length (λi b c V3=>b=gs/\∃nd,CanAt d m V2 V3 c i nd) ⟨rfl,[],rfl,(λ_ _ _ h=>by omega),V2,Mem.sub.refl _,Own.nil (Mem.sub.refl _) _ _,(λ_ h=>by cases h)⟩ ?_;rintro i b s V3 J hi ⟨rfl,nd,C⟩ hJ;obtain⟨W,hW,r,T⟩:=C.mem;have M:V.sub V3:=((ho.sub.trans hg.sub).trans hW).trans r.sub;have Z:=hd.sub M;have Y:=hm.sub M;have P:=S.sub ((hg.sub.trans hW).trans r.sub);refine⟨λX=>?_,λhge=>?_⟩
 ·obtain⟨n,hnm,hn,-,hil,hp,hz,U⟩:=P.get X;have hr:=R.rng n hnm;obtain⟨k,rfl⟩:∃k:Nat,n=(k:Int)+1:=⟨(n-1).toNat,by omega⟩;have hnn:=Y.nodes.n_eq;obtain⟨z,A,hz',-,hl2,hpx,hzx,B⟩:=Y.nodes.get (i:=k) (by omega);obtain⟨c1,c2⟩:=of_decide_eq_true (p3 z A);obtain⟨j,hj⟩:∃j:Nat,z.ty=(j:Int):=⟨_,(vu c1).symm⟩;have htn:=Z.types.n_eq;obtain⟨t,htm,ht,-,hl3,I,hzt,E⟩:=Z.types.get (i:=j) (by omega);have hI:IR ((k:Int)):=⟨by omega,by omega⟩;have hfo:=Ef ht hj;have H:=p5 z A;rw[hfo]at H;refine⟨hp,hz,X,_,U,?_⟩;rw[show((k:Int)+1-1)=(k:Int)by omega];refine⟨hI,hpx,hzx,by omega,_,_,B,?_⟩;rw[hj];refine⟨I,hzt,by omega,Ak I,_,_,E,Tri.mono (OO (Z.typesOk t htm).fields (Y.nodesOk z A).rows P (by omega) (HF H) (by grind)) ?_⟩;rintro _ V4 ⟨fs,rfl,hf⟩;refine⟨fs,rfl,λtb htb=>?_⟩;have K:=Own.growS r hf.sub;have hfR:=hf.rows (λ_=>rfl) (by decide);obtain⟨nn,N⟩:∃nn:Nd,nn=⟨(j:Int),fs,BH (AS d m).order t.fields z.f⟩:=⟨_,rfl⟩;have hblk:Ad (V4.but s) fs 1 ((BH (AS d m).order t.fields z.f).map Al):=by
   have:Sx.Own (λ_=>none) (V4.but s) 3 1 fs ((BH (AS d m).order t.fields z.f).flatMap Al):=⟨(λ_ _ h=>by cases h),hf.len,by
    rcases hf.at_ with h|⟨g,cur,a,b,c,dd⟩;·exact .inl h
    ·exact .inr ⟨g,cur,a,rfl,Mem.but_at c (r.apartN b),dd⟩⟩
   exact this.rows (λ_=>rfl) (by decide)
  have hn2:Nd.Ok (V4.but s) nn:=by
   rw[N];exact⟨hblk,⟨by simp_all,by show(j:Int)<=9223372036854775807;have:=(Z.types.succ (i:=j) (by omega)).2;omega⟩,ren_in (by omega) (Y.nodesOk z A).vals⟩
  have hlen:nd.length<=4096:=by rw[C.len];omega
  refine app47 (s:=s) (u:=⟨some ⟨tb,0,none⟩,1,1⟩) (xs:=nd) (ys:=[nn]) rfl rfl (K.but.new htb (.cells #[uI (j:Int),uL fs] 55 (0,0))) (Ad.cells (xs:=[nn]) (row:=Nd.row) Az (by rw[N];rfl) (λ_=>rfl) rfl (by simp)) (by simp;omega) λo2 V5 ho2=>⟨o2,rfl,P.succ X,hJ hil _ _ _ ⟨rfl,nd++[nn],by rw[zw,C.len];rfl,λq w x hq hw hx=>?_,V4.but s,hW.trans K.sub_but,ho2,λw hw=>?_⟩⟩
  ·by_cases hqi:q<i
   ·obtain⟨sl,hs⟩:=C.at_ q w x hqi hw hx;exact⟨sl,by rw[xj (by grind)];exact hs⟩
   ·have:q=i:=by omega
    subst this;rw[hn]at hw;cases hw;rw[show((k:Int)+1-1).toNat=k by omega,hz']at hx;cases hx;refine⟨fs,?_⟩;rw[<-C.len,List.getElem?_concat_length,N,hfo,hj]
  ·rcases xh.1 hw with hw|hw;·exact(T w hw).sub K.sub_but
   simp_all
 ·have hdn:=(P.done hge).2;have hi':i=(AS d m).order.length:=by omega
  refine⟨M,⟨b,BH (AS d m).order d.globals m.globals,s,nd⟩,rfl,⟨hgR.sub (hW.trans r.sub),ren_in (by omega) hm.gIn,r.rows (λ_=>rfl) (by decide),λn hn=>(T n hn).sub r.sub⟩,rfl,by rw[<-hi'];exact C.len,λj n x hj hx=>C.at_ j n x (by grind) hj hx⟩
end
section
variable{V:Mem}{d:Ds}{m:Mm}
theorem OP[Tab V](g:Bs d m=true)(f:Ds.Ok V d)(hm:Mm.Ok V m):Tri xE 80 #[d.v,m.v] V λe V'=>∃o:Sl,e=.returned (.tuple #[.slice o.p o.n o.c,.int .i64 0])/\Sx.Own V V' 3 1 o ((AS d m).order.flatMap Al):=by
 refine Qf ?_;refine(c128 f hm).call ⟨_,rfl,λ_=>Tri.mono (c129 g f hm) ?_,λh=>absurd g h⟩;rintro _ V2 ⟨p,ib,o,rfl,h⟩;exact⟨_,rfl,nn,nn,o,h.cell 10 1 (by decide),o,rfl,h.own⟩
end
theorem tri_frame{P:Program}{f:FuncId}{args:Array Value}{U:Mem}{M:Nat->Prop}{R:Ending->Mem->Prop}(i:∀b,M b->U b≠none)(h:Tri P f args (Mem.minus U M) R):
  Tri P f args U λe V2=>∃V',R e V'/\V'.sub V2/\(∀b o,M b->U b=some o->V2 b=some o)/\∀b,M b->V' b=none:=by
 unfold Tri at h⊢;intro w hw;have u:∀b,M b->b<w.heap.size:=λb g=>by
  cases hu:U b with
  |none=>simp_all
  |some o=>exact(Array.getElem?_eq_some_iff.1 (hw b o hu)).1
 intro cs;obtain⟨e,w',fr,⟨V',j,t⟩,rest⟩:=h w (λb o g=>hw b o (GW b o g)) cs;have z:∀b,M b->V' b=none:=λb g=>by
  cases hv:V' b with
  |none=>rfl
  |some o=>
   rcases t.dom b (by rw[hv];simp)with h1|h1
   ·exact absurd (EK g) h1
   grind
 classical
 refine⟨e,w',fr,⟨λb=>if M b then U b else V' b,⟨V',j,λb o g=>?_,λb o hm g=>?_,z⟩,⟨t.size,λb o g=>?_,λb g hu=>?_,λb g=>?_,t.os,t.out⟩⟩,rest⟩;·grind
 ·simp_all
 ·have g:(if M b then U b else V' b)=some o:=g;by_cases hm:M b
  ·rw[if_pos hm]at g;rw[t.old b (u b hm) (EK hm)];exact hw b o g
  ·rw[if_neg hm]at g;exact t.le b o g
 ·refine t.old b g ?_;grind[EK,C6]
 ·have g:(if M b then U b else V' b)≠none:=g;by_cases hm:M b;·simp_all
  ·rw[if_neg hm]at g;rcases t.dom b g with h1|h1;·grind[C6]
   ·exact .inr h1
def Owns(Q:Mem->Mem->Prop)(M:Nat->Prop)(V:Mem):Prop:=(∀b,M b->V b≠none)/\∀V',(∀b o,M b->V b=some o->V' b=some o)->Q (Mem.minus V' M) V'
def Framed(Q:Mem->Mem->Prop):Prop:=∀W V,Q W V->∃M,(∀b,M b->W b=none)/\Owns Q M V
def A0(D V:Mem)(Q:Mem->Mem->Prop):Prop:=∃M,Owns Q M V/\D.sub V/\∀b,D b≠none->¬M b
section
variable{D D' V V' W:Mem}{Q:Mem->Mem->Prop}
theorem Owns.keep{M:Nat->Prop}(h:Owns Q M V)(f:∀b o,M b->V b=some o->V' b=some o):Owns Q M V':=⟨λb g=>by
 cases hv:V b with
 |none=>exact absurd hv (h.1 b g)
 |some o=>simp_all,λV2 h2=>h.2 V2 λb o g hv=>h2 b o g (f b o g hv)⟩
theorem A0.sub(h:A0 D V Q):D.sub V:=by obtain⟨M,-,h,-⟩:=h;exact h
theorem A0.new(t:Framed Q)(S:Q W V)(u:W.sub V)(g:D.sub W):A0 D V Q:=by
 obtain⟨M,h1,h2⟩:=t W V S;refine⟨M,h2,g.trans u,λb w hm=>?_⟩;cases f:D b with
 |none=>exact w f
 |some o=>
  have:=g _ _ f;simp_all
theorem A0.use(h:A0 D V Q):∃W,D.sub W/\W.sub V/\Q W V:=by
 obtain⟨M,f,t,u⟩:=h;exact⟨Mem.minus V M,λb o g=>by
  rw[C6 (u b (by rw[g];simp))];exact t _ _ g,GW,f.2 V λ_ _ _ h=>h⟩
theorem A0.run{P:Program}{f:FuncId}{args:Array Value}{R:Ending->Mem->Prop}(h:A0 D V Q)(H:∀U,D.sub U->Tri P f args U λe g=>U.sub g/\R e g):
  Tri P f args V λe V'=>∃D',D.sub D'/\R e D'/\A0 D' V' Q:=by
 obtain⟨M,f,w,z⟩:=h;have t:D.sub (Mem.minus V M):=λb o u=>by
  rw[C6 (z b (by rw[u];simp))];exact w _ _ u
 refine Tri.mono (tri_frame f.1 (H _ t)) ?_;rintro e V2 ⟨j,⟨h1,h2⟩,i,n,r⟩;exact⟨j,t.trans h1,h2,M,f.keep λb o hm hv=>n b o hm hv,i,λb hv hm=>hv (r b hm)⟩
theorem A0.grow(h:A0 D V Q)(g:V.sub V'):A0 D V' Q:=by
 obtain⟨M,f,t,u⟩:=h;exact⟨M,f.keep λb o _ hv=>g _ _ hv,t.trans g,u⟩
theorem A0.pub(h:A0 D V Q){b:Nat}(hv:V b=none)(o:Obj):A0 (D.set b o) (V.set b o) Q:=by
 obtain⟨M,f,t,w⟩:=h;have ne:∀c,V c≠none->c≠b:=λc g e=>g (by rw[e];exact hv);refine⟨M,f.keep λc u hm g=>by grind[Mem.set_ne],λc u g=>?_,λc g=>?_⟩
 ·by_cases e:c=b;·grind[Mem.set_same]
  ·rw[Mem.set_ne e]at g⊢;exact t _ _ g
 ·by_cases e:c=b;·subst e;exact λhm=>f.1 c hm hv
  grind[Mem.set_ne]
end
end Go.Proofs
namespace Go.Proofs
open Go Go.Sx
end Go.Proofs
namespace Go.Proofs
open Go Go.Sx
mutual
def De:E->E|.mk o n s _ k=>.mk o n s Aj (Cw k)
def Cw:List E->List E|[]=>[]|x::xs=>De x::Cw xs
end
mutual
def Dr:S->S|.mk o s _ es _ ls _ xs=>.mk o s Aj (Cw es) Aj (CL ls) Aj (CL xs)
def CL:List S->List S|[]=>[]|x::xs=>Dr x::CL xs
end
def tEr(t:Ty):Ty:=⟨t.name,Aj,t.fields⟩
def pEr(p:Pr):Pr:=⟨p.name,Aj,p.params,p.result,Aj,p.locals,Aj,CL p.body⟩
def AA(d:Ds):Ds:=⟨d.name,Aj,d.types.map tEr,Aj,d.globals,Aj,d.procs.map pEr,Aj,[],Aj,[],Aj,[],Aj,[]⟩
theorem EN:∀l:List E,Cw l=l.map De
 |[]=>by unfold Cw;rfl
 |x::xs=>by unfold Cw;rw[EN xs];rfl
theorem JY:∀l:List S,CL l=l.map Dr
 |[]=>by unfold CL;rfl
 |x::xs=>by unfold CL;rw[JY xs];rfl
theorem eErs_len(l:List E):(Cw l).length=l.length:=by rw[EN,xm]
theorem sErs_len(l:List S):(CL l).length=l.length:=by rw[JY,xm]
mutual
theorem okE_er:∀(k:Int)(e:E),Cz k (De e)=Cz k e
 |k,.mk o n s _ l=>by unfold De Cz;rw[eErs_len,okEs_er]
theorem okEs_er:∀(k:Int)(l:List E),okEs k (Cw l)=okEs k l
 |_,[]=>by unfold Cw;rfl
 |k,x::xs=>by unfold Cw okEs;rw[okE_er,okEs_er]
end
mutual
theorem szE_er:∀e:E,AB (De e)=AB e
 |.mk o n s _ l=>by unfold De AB;rw[szEs_er]
theorem szEs_er:∀l:List E,szEs (Cw l)=szEs l
 |[]=>by unfold Cw;rfl
 |x::xs=>by unfold Cw szEs;rw[szE_er,szEs_er]
end
theorem validE_er(e:E):Bz (De e)=Bz e:=by unfold Bz;rw[okE_er,szE_er]
theorem fop_er:∀l:List E,JF (Cw l)=JF l
 |[]=>by unfold Cw;rfl
 |.mk o n s _ l::xs=>by rfl
theorem shapeR_er(op:Int)(s:KB)(es:List E)(g f:Int):Dc op s (Cw es) g f=Dc op s es g f:=by
 unfold Dc GL;have:(Cw es).all Bz=es.all Bz:=by
  rw[EN,List.all_map];simp_all[congrArg,funext,validE_er]
 rw[eErs_len,fop_er,this]
mutual
theorem okS_er:∀(k:Int)(e:S),Eo k (Dr e)=Eo k e
 |k,.mk o s _ es _ ls _ xs=>by unfold Dr Eo;rw[sErs_len,sErs_len,shapeR_er,Lm,Lm]
theorem Lm:∀(k:Int)(l:List S),CI k (CL l)=CI k l
 |_,[]=>by unfold CL;rfl
 |k,x::xs=>by unfold CL CI;rw[okS_er,Lm]
end
mutual
theorem szS_er:∀e:S,EC (Dr e)=EC e
 |.mk o s _ es _ ls _ xs=>by unfold Dr EC;rw[Ln,Ln]
theorem Ln:∀l:List S,CC (CL l)=CC l
 |[]=>by unfold CL;rfl
 |x::xs=>by unfold CL CC;rw[szS_er,Ln]
end
theorem JZ{α β:Type}{f:α->β}{p:β->Bool}{q:α->Bool}(l:List α)(h:∀x,p (f x)=q x):(l.map f).all p=l.all q:=by
 grind
theorem Nm{α β:Type}{f:α->β}{p:β->Bool}{q:α->Bool}(l:List α)(h:∀x,p (f x)=q x):(l.map f).any p=l.any q:=by
 grind
theorem idx_map{α β:Type}{f:α->β}{p:β->Bool}{q:α->Bool}(l:List α)(h:∀x,p (f x)=q x):Ck p (l.map f)=Ck q l:=by
 unfold Ck;have e:p∘f=q:=funext h;simp_all
theorem find_map'{α β:Type}{f:α->β}{p:β->Bool}{q:α->Bool}(l:List α)(h:∀x,p (f x)=q x):(l.map f).find? p=(l.find? q).map f:=by
 rw[List.find?_map];have e:p∘f=q:=funext h;rw[e]
theorem J6{α β g:Type}{f:α->β}{p:Nat->β->Option g}{q:Nat->α->Option g}:∀(l:List α)(i:Nat),(∀j x,p j (f x)=q j x)->Ar p i (l.map f)=Ar q i l
 |[],_,_=>rfl
 |x::l,i,h=>by
  unfold List.map Ar;rw[h,J6 l (i+1) h]
theorem tyB_er(t:Ty):ED (tEr t)=ED t:=rfl
theorem prB_er(p:Pr):DO (pEr p)=DO p:=by
 unfold DO Hn;show(BX p.name&&Dl p.params 6&&Dl p.locals 12&&(decide (p.result=Ac [])||typB p.result)&&decide (CI 1 (CL p.body)=true/\CC (CL p.body)<=200))=_;rw[Lm,Ln]
section
variable(d:Ds)
theorem valid_er(h:BC d=true):BC (AA d)=true:=by
 unfold BC at h⊢;simp only[zC,decide_eq_true_eq]at h⊢;refine⟨⟨⟨⟨⟨⟨⟨h.1.1.1.1.1.1.1,?_⟩,h.1.1.1.1.1.2⟩,?_⟩,rfl⟩,?_⟩,?_⟩,rfl⟩
 ·have:=h.1.1.1.1.1.1.2;show((d.types.map tEr).length:Int)<=12;simp_all
 ·have:=h.1.1.1.1.2;show((d.procs.map pEr).length:Int)<=40;simp_all
 ·show(d.types.map tEr).all ED=true;grind[JZ,tyB_er]
 ·show(d.procs.map pEr).all DO=true;rw[JZ _ prB_er];exact h.1.2
theorem valid_re(h:BC (AA d)=true)(h1:d.measures=[])(h2:d.invs=[])(h3:d.pots=[])(h4:d.bounds=[]):BC d=true:=by
 unfold BC at h⊢;simp only[zC,decide_eq_true_eq]at h⊢;refine⟨⟨⟨⟨⟨⟨⟨h.1.1.1.1.1.1.1,?_⟩,h.1.1.1.1.1.2⟩,?_⟩,?_⟩,?_⟩,?_⟩,?_⟩;·grind[AA,tEr]
 ·grind[AA,pEr]
 ·grind[lensB]
 ·have:=h.1.1.2;rw[show(AA d).types=d.types.map tEr from rfl,JZ _ tyB_er]at this;exact this
 ·have:=h.1.2;rw[show(AA d).procs=d.procs.map pEr from rfl,JZ _ prB_er]at this;exact this
 grind[FW]
theorem Nn(s:KB):Ci (AA d) s=Ci d s:=Nm (f:=tEr) _ λ_=>rfl
theorem No(s:KB):Bq (AA d) s=Bq d s:=by unfold Bq;rw[Nn]
theorem fits_er(a b:KB):BA (AA d) a b=BA d a b:=by unfold BA;rw[Nn]
theorem tyOf_er(s:KB):Dy (AA d) s=(Dy d s).map tEr:=find_map' (f:=tEr) _ λ_=>rfl
theorem prOf_er(s:KB):Cj (AA d) s=(Cj d s).map pEr:=find_map' (f:=pEr) _ λ_=>rfl
theorem fieldT_er(t n:KB):Dz (AA d) t n=Dz d t n:=by
 unfold Dz;rw[tyOf_er];cases Dy d t<;>rfl
theorem fitAll_er:∀(l:List KB)(fs:List Fld),DQ (AA d) l fs=DQ d l fs
 |a::l,f::fs=>by unfold DQ;rw[fits_er,fitAll_er]
 |[],_=>by simp[DQ]
 |_::_,[]=>by simp[DQ]
theorem callT_er(n:KB)(l:List KB):Er (AA d) n l=Er d n l:=by
 unfold Er;rw[prOf_er];cases Cj d n with
 |none=>rfl
 |some p=>
  show(if l.length≠p.params.length then _ else if DQ (AA d) l p.params=true then _ else _)=_;rw[fitAll_er];rfl
theorem nodeT_er{sc:Sc}(g:sc.body=true)(op:Int)(s:KB)(l:List KB):EF (AA d) sc op s l=EF d sc op s l:=by
 unfold EF Fh;rw[if_pos g,if_pos g];simp only[fieldT_er,Nn,callT_er,fits_er]
mutual
theorem exprT_er{sc:Sc}(g:sc.body=true):∀e:E,As (AA d) sc (De e)=As d sc e
 |.mk o n s _ k=>by unfold De As;rw[Lo g,nodeT_er d g]
theorem Lo{sc:Sc}(g:sc.body=true):∀(acc:List KB)(l:List E),partsT (AA d) sc acc (Cw l)=partsT d sc acc l
 |_,[]=>by rfl
 |acc,x::xs=>by unfold Cw partsT;rw[exprT_er g,Lo g]
end
theorem stmtT_er{sc:Sc}(g:sc.body=true)(r:KB)(op:Int)(s:KB)(es:List E):Ed (AA d) sc r op s (Cw es)=Ed d sc r op s es:=by
 unfold Ed;rw[Lo d g];simp only[fits_er,fieldT_er];congr 1
 match es with
 |[]=>unfold Cw;rfl
 |.mk o n s _ k::es=>
  grind[Cw,De,E.k,E.s,Lo,callT_er]
mutual
theorem stT_er{sc:Sc}(g:sc.body=true)(r:KB):∀(n:Int)(e:S),Ee (AA d) sc r n (Dr e)=Ee d sc r n e
 |n,.mk o s _ es _ ls _ xs=>by
  unfold Dr Ee;rw[stmtT_er d g,Lq g r (n+1) ls,Lq g r _ xs]
theorem Lq{sc:Sc}(g:sc.body=true)(r:KB):∀(n:Int)(l:List S),AL (AA d) sc r n (CL l)=AL d sc r n l
 |_,[]=>by rfl
 |n,x::xs=>by unfold CL AL;rw[stT_er g,Lq g]
end
theorem oneT_er(l:List Fld)(i:Nat)(f:Fld):BT (AA d) l i f=BT d l i f:=by unfold BT;rw[No]
theorem declT_er(l:List Fld):CD (AA d) l=CD d l:=by
 grind[CD,oneT_er]
theorem types_er:FY (AA d)=FY d:=by
 unfold FY;congr 1
 ·unfold types1;refine J6 (f:=tEr) d.types 0 λj x=>?_;rw[show(AA d).types=d.types.map tEr from rfl,<-List.map_take,Nm (f:=tEr) (q:=λg=>decide (g.name=x.name)) _ λ_=>rfl];rfl
 congr 1;·grind[types2,J6,tEr,CD,AA,Int,declT_er]
 ·unfold types3;simp only[oneT_er];rfl
theorem heads_er:Fi (AA d)=Fi d:=by
 unfold Fi;refine J6 (f:=pEr) d.procs 0 λj x=>?_;rw[show(AA d).procs=d.procs.map pEr from rfl,<-List.map_take,Nm (f:=pEr) (q:=λg=>decide (g.name=x.name)) _ λ_=>rfl,declT_er,No];rfl
theorem bodies_er:E4 (AA d)=E4 d:=by
 unfold E4;refine J6 (f:=pEr) d.procs 0 λj x=>?_;show(if(AL (AA d) (Av d x) x.result 0 (CL x.body)).2≠0 then some (x.name,(AL (AA d) (Av d x) x.result 0 (CL x.body)).1,(AL (AA d) (Av d x) x.result 0 (CL x.body)).2)else none)=_;rw[Lq d rfl]
theorem HG{α:Type}{a b:Option α}:a.or b=none↔a=none/\b=none:=by cases a<;>simp
theorem chk_er(h:CS d=none):CS (AA d)=none:=by
 unfold CS at h⊢;rw[HG,HG,HG,HG]at h;rw[types_er,heads_er,bodies_er,h.1,h.2.1,h.2.2.2.1];rfl
theorem chk_re(h:CS (AA d)=none)(h1:d.measures=[])(h2:d.invs=[])(h3:d.pots=[])(h4:d.bounds=[]):CS d=none:=by
 unfold CS at h⊢;rw[HG,HG,HG,HG,types_er,heads_er,bodies_er]at h;rw[h.1,h.2.1,h.2.2.2.1];have g:DW d=none:=by unfold DW form1 form2 form3 form4;rw[h1,h2,h3,h4];rfl
 have f:E5 d=none:=by unfold E5 exp1 exp2 exp3 exp4;rw[h1,h2,h3,h4];rfl
 rw[g,f];rfl
theorem idxT_er(s:KB):Bx (AA d) s=Bx d s:=idx_map (f:=tEr) _ λ_=>rfl
theorem Jj(t:Int):Bm (AA d) t=Bm d t:=by
 unfold Bm;rw[show(AA d).types=d.types.map tEr from rfl,y4,vq];rfl
theorem right_er(m:Mm)(t:KB)(v:Int):AJ (AA d) m t v=AJ d m t v:=by unfold AJ;rw[idxT_er]
theorem values_er(m:Mm)(l:List Fld)(vs:List Int):Aw (AA d) m l vs=Aw d m l vs:=by unfold Aw;simp only[right_er]
theorem typed_er(l:List Fld):C4 (AA d) l=C4 d l:=by unfold C4;simp only[No]
theorem has_er:(C4 (AA d) (AA d).globals&&allI (λi t=>decide (Bx (AA d) t.name=(i:Int))&&C4 (AA d) t.fields) (AA d).types)=(C4 d d.globals&&allI (λi t=>decide (Bx d t.name=(i:Int))&&C4 d t.fields) d.types):=by
 simp only[idxT_er,typed_er];congr 1;unfold allI;rw[show(AA d).types=d.types.map tEr from rfl,List.zipIdx_map];exact JZ _ λ_=>rfl
theorem mem_er{d':Ds}(g:AA d=AA d')(hv:BC d'=true){m:Mm}(h:Bs d m=true):Bs d' m=true:=by
 have key:∀x:Ds,Bs x m=(BC x&&(C4 (AA x) (AA x).globals&&allI (λi t=>decide (Bx (AA x) t.name=(i:Int))&&C4 (AA x) t.fields) (AA x).types)&&(decide (m.nodes.length<=4096)&&m.nodes.all (λn=>decide (0<=n.ty/\n.ty<((AA x).types.length:Int)))&&Aw (AA x) m (AA x).globals m.globals&&m.nodes.all λn=>Aw (AA x) m (Bm (AA x) n.ty) n.f)):=λx=>by
  rw[has_er];simp only[values_er,Jj];rw[show(AA x).types=x.types.map tEr from rfl,xm];unfold Bs Dn;simp only[Bool.and_assoc];rfl
 simp_all
end
structure Fq (d d':Ds):Prop where
 er:AA d=AA d'
 h1:d'.measures=[]
 h2:d'.invs=[]
 h3:d'.pots=[]
 h4:d'.bounds=[]
theorem Am.same{d d':Ds}{m:Mm}(G:Am d m)(h:Fq d d'):Am d' m:=by
 have hv:=valid_re d' (h.er▸valid_er d G.valid) h.h1 h.h2 h.h3 h.h4;exact⟨hv,chk_re d' (h.er▸chk_er d G.chk) h.h1 h.h2 h.h3 h.h4,mem_er d h.er hv G.mem⟩
section
variable(d:Ds)
theorem Lr(s:KB):AD (AA d) s=AD d s:=idx_map (f:=pEr) _ λ_=>rfl
theorem cllE_er(m:Mm)(nm:KB)(l:List Int):AQ (AA d) m nm l=AQ d m nm l:=by
 unfold AQ;rw[Lr,show(AA d).procs=d.procs.map pEr from rfl,y4];cases d.procs[(AD d nm).toNat]? with
 |none=>rfl
 |some p=>
  show(if AD d nm<0 then _ else if l.length=p.params.length then(if Aw (AA d) m p.params l=true then _ else _)else _)=_;rw[values_er]
theorem fldX_er(a:Int)(s:KB)(st:St):fldX (AA d) a s st=fldX d a s st:=by unfold fldX;simp only[Jj]
theorem newX_er(s:KB)(st:St):newX (AA d) s st=newX d s st:=by unfold newX;simp only[Jj,idxT_er]
theorem putX_er(a v:Int)(s:KB)(st:St):putX (AA d) a v s st=putX d a v s st:=by unfold putX;simp only[Jj]
theorem intB_er{sc:Sc}(g:sc.body=true):∀l:List E,intB (AA d) sc (Cw l)=intB d sc l
 |[]=>by unfold Cw;rfl
 |x::xs=>by
  unfold Cw;show decide ((As (AA d) sc (De x)).1=Ai)=decide ((As d sc x).1=Ai);rw[exprT_er d g]
theorem combX_er(C:Cf)(p:Pr)(vals:List Int)(b:Bool)(op n:Int)(s:KB)(ks:List (St->Rx Int))(st:St):C5 (AA d) C (pEr p) vals b op n s ks st=C5 d C p vals b op n s ks st:=by
 unfold C5;simp only[fldX_er,newX_er,Lr];rfl
mutual
theorem evX_er(C:Cf)(p:Pr)(vals:List Int):∀e:E,C0 (AA d) C (pEr p) vals (De e)=C0 d C p vals e
 |.mk o n s _ k=>by
  unfold De C0;funext st;rw[combX_er,evXs_er C p vals k];show C5 d C p vals (intB (AA d) (Av d p) (Cw k)) o n s _ st=_;rw[intB_er d rfl]
theorem evXs_er(C:Cf)(p:Pr)(vals:List Int):∀l:List E,evXs (AA d) C (pEr p) vals (Cw l)=evXs d C p vals l
 |[]=>by rfl
 |x::xs=>by unfold Cw evXs;rw[evX_er C p vals x,evXs_er C p vals xs]
end
theorem evX_er'(C:Cf)(p:Pr)(vals:List Int)(e:E)(st:St):C0 (AA d) C (pEr p) vals (De e) st=C0 d C p vals e st:=congrFun (evX_er d C p vals e) st
theorem getD_er(l:List E)(i:Nat):(Cw l).getD i GQ=De (l.getD i GQ):=by
 rw[EN,vp,vp,y4];grind[GQ,De,Cw]
section
variable{Sn Sn':Sf}(hS:∀c p l vals st,Sn' c (pEr p) (CL l) vals st=Sn c p l vals st)
include hS
theorem callX_er(c:Nat):CA (AA d) Sn' c=CA d Sn c:=by
 funext i l st;unfold CA;rw[show(AA d).procs=d.procs.map pEr from rfl,y4];cases d.procs[i.toNat]? with
 |none=>rfl
 |some p=>
  show(if 200<=c then _ else(Sn' (c+1) (pEr p) (CL p.body) _ st).bind _)=_;rw[hS];rfl
theorem evS_er(c:Nat)(p:Pr)(vals:List Int)(e:E)(st:St):CT (AA d) Sn' c (pEr p) vals (De e) st=CT d Sn c p vals e st:=by
 unfold CT;rw[callX_er d hS,evX_er']
theorem whX_er(F c:Nat)(p:Pr)(e:E)(b:List S):∀(n:Nat)(vals:List Int)(st:St),DY (AA d) F Sn' c (pEr p) (De e) (CL b) n vals st=DY d F Sn c p e b n vals st
 |0,_,_=>rfl
 |n+1,vals,st=>by
  unfold DY;simp only[evS_er d hS,hS,whX_er F c p e b n]
theorem bodyX_er(F c:Nat)(p:Pr)(n:Nat)(s:S)(vals:List Int)(st:St):EJ (AA d) F Sn' c (pEr p) n (Dr s) vals st=EJ d F Sn c p n s vals st:=by
 match s with
 |.mk o s _ es _ ls _ xs=>
  unfold Dr EJ;simp only[S.op,S.s,S.es,S.ls,S.xs,getD_er,evS_er d hS,hS,whX_er d hS,putX_er];cases es<;>simp only[Cw,evS_er d hS]<;>rfl
end
theorem stX_er{Sn Sn':Sf}(hS:∀c p l vals st,Sn' c (pEr p) (CL l) vals st=Sn c p l vals st)(F c:Nat)(p:Pr)(n:Nat)(s:S)(vals:List Int)(st:St):DH (AA d) F Sn' c (pEr p) n (Dr s) vals st=DH d F Sn c p n s vals st:=by
 grind[DH,bodyX_er]
theorem listX_er{f g:S->List Int->St->Rx Rt}(h:∀s vals st,g (Dr s) vals st=f s vals st):∀(l:List S)(vals:List Int)(st:St),DR g (CL l) vals st=DR f l vals st
 |[],_,_=>by rfl
 |s::l,vals,st=>by
  unfold CL DR;rw[h];simp only[listX_er h l]
theorem stsX_er(F:Nat):∀(n c:Nat)(p:Pr)(l:List S)(vals:List Int)(st:St),A9 (AA d) F n c (pEr p) (CL l) vals st=A9 d F n c p l vals st
 |0,_,_,_,_,_=>rfl
 |n+1,c,p,l,vals,st=>listX_er (λs vals st=>stX_er d (stsX_er F n) F c p (n+1) s vals st) l vals st
theorem playX_er(F:Nat)(i:Int)(l:List Int)(st:St):BP (AA d) F i l st=BP d F i l st:=by
 simp_all[BP,callX_er,stsX_er]
end
section
variable{d d':Ds}(h:Fq d d')
include h
theorem Fq.play(F:Nat)(i:Int)(l:List Int)(st:St):BP d' F i l st=BP d F i l st:=by rw[<-playX_er d,h.er,playX_er]
theorem Fq.cll(m:Mm)(nm:KB)(l:List Int):AQ d' m nm l=AQ d m nm l:=by rw[<-cllE_er d,h.er,cllE_er]
theorem Fq.idx(s:KB):AD d' s=AD d s:=by rw[<-Lr d,h.er,Lr]
theorem Fq.fields(t:Int):Bm d' t=Bm d t:=by rw[<-Jj d,h.er,Jj]
end
end Go.Proofs
namespace Go.Proofs
open Go Go.Sx
attribute [local irreducible] Go.Sx.Tri
def Ch(d:Ds)(s:Sl):Mm:=⟨s,yI d.globals.length 0,Aj,[]⟩
theorem new_valid{d:Ds}{s:Sl}(h:Dn d=true):Bs d (Ch d s)=true:=by
 grind[Aw,Ch,Cm,yw,AJ,Bs]
theorem Am.plain{d:Ds}{x y:Mm}(G:Am d x)(h:x.plain=y.plain):Am d y:=⟨G.valid,G.chk,M9 h G.mem⟩
section
variable{V:Mem}{d:Ds}
theorem given_plain{m m':Mm}(h:m.plain=m'.plain){F:Int}:C8 d m F=C8 d m' F:=by
 have:Am d m↔Am d m':=⟨λG=>G.plain h,λG=>G.plain h.symm⟩;grind[C8]
theorem Rb[Tab V](f:Ds.Ok V d):Tri xE 38 #[d.v] V λe V'=>V.sub V'/\((Dn d=false/\e=.returned (.tuple #[.agg #[Aj.v,Aj.v],.int .i64 1]))∨(Dn d=true/\∃s:Sl,e=.returned (.tuple #[.agg #[s.v,Aj.v],.int .i64 0])/\Mm.Ok V' (Ch d s))):=by
 refine PD ?_;have u:=f.globals.n_eq;have i:=f.globals.cap;have r:=f.globals.fit;refine Tri.mono (OC f) ?_;rintro _ V1 ⟨q,rfl,z,⟨t,b,rfl,-⟩|⟨t,rfl⟩⟩
 ·have w:=(JX (Nk t)).1;refine⟨_,rfl,λh=>absurd h (by intro h;cases h),λ_=>mk43 (n:=d.gs.n) rfl rfl (by omega) λg w=>⟨⟨some ⟨g,0,none⟩,d.gs.n,d.gs.n⟩,rfl,z.trans (Mem.sub_new w _),.inr ⟨t,_,rfl,?_⟩⟩⟩;have o:=Jb w (n:=d.gs.n) (by omega);rw[u]at o⊢;exact⟨o.rows (λ_=>rfl) (by decide),λx j=>by rw[(vo.1 j).2];unfold DX;decide,Ad.nil,λn u=>by cases u⟩
 ·exact⟨_,rfl,λ_=>⟨z,.inl ⟨by simpa using t,rfl⟩⟩,λh=>absurd rfl h⟩
theorem Np(u:Ds.Ok V d)(w:d.globals.length<=8):Tri xE 88 #[d.v] V λe V'=>V.sub V'/\∃s:Sl,e=.returned (.agg #[s.v,Aj.v])/\Mm.Ok V' (Ch d s):=by
 refine Qn ?_;have f:=u.globals.n_eq;refine mk43 (n:=d.gs.n) rfl rfl (by omega) λg t=>⟨⟨some ⟨g,0,none⟩,d.gs.n,d.gs.n⟩,rfl,Mem.sub_new t _,_,rfl,?_⟩;have o:=Jb t (n:=d.gs.n) (by omega);rw[f]at o⊢;exact⟨o.rows (λ_=>rfl) (by decide),λx z=>by rw[(vo.1 z).2];unfold DX;decide,Ad.nil,λn f=>by cases f⟩
end
theorem oneG{α:Type}{t e sz:Nat}{row:α->List Value}(A:AppP t e sz row){V0 V:Mem}{b:Nat}{s:Sl}{xs:List α}{x:α}(o:Sx.Own V0 V e sz s (xs.flatMap row))(g:V b=none)(f:xs.length+1<=2147483648){ty:Nat}{y z:Operand}{vals:Operand->Value}(w:vals y=.slice s.p s.n s.c)(j:vals z=.slice (sa b) 1 1)(i:∀x,(row x).length=sz){Q:Value->Mem->Prop}(r:∀s' V',Sx.Own V0 V' e sz s' ((xs++[x]).flatMap row)->Q (.slice s'.p s'.n s'.c) V'):
  GenK xE (.call {callee:=.builtin .append,args:=#[y,z],argTypes:=#[t,t]}) ty vals (V.set b (.cells (row x).toArray e (0,0))) Q:=
 A (s:=s) (u:=⟨some ⟨b,0,none⟩,1,1⟩) (xs:=xs) (ys:=[x]) w j (o.new g _) (Ad.cells (xs:=[x]) (row:=row) Az (by simp) i (by simp) (by simp)) (by simpa using f) r
theorem pushG{W V V1:Mem}{e sz:Nat}{s s':Sl}{xs ys:List Value}(o:Sx.Own W V e sz s xs)(h:Sx.Own (V.but s) V1 e sz s' ys):Sx.Own W V1 e sz s' ys/\(∀c,¬Bh s c->V c≠none->V1 c=V c)/\∀c,Bh s' c->Bh s c∨V c=none:=by
 refine⟨h.narrow o.sub_but,λc g hv=>?_,λc g=>?_⟩
 ·cases e:V c with
  |none=>grind
  |some x=>exact h.sub _ _ (Mem.but_at e g)
 ·have t:=Own.none0 h g;by_cases f:Bh s c;·exact .inl f
  ·right;cases hv:V c with
   |none=>rfl
   |some o=>grind[Mem.but_at]
theorem g127:IdxP 127 Al (xe .i64) 1:=by
 intro V l xs g first u q St s f H G
 refine x127 (a:=l) (b:=.func (.func g) first.toArray u.toArray) ?_;refine AU xs.length St H ?_;intro i b V1 J hi r N;have h:=f i V1 r;refine⟨λt=>?_,λz=>?_⟩
 ·obtain⟨x,hm,Z,A,Y,j,P,w⟩:=h.get t;refine⟨j,P,t,_,w,g,_,_,rfl,q,Tri.mono (G i x V1 Z r) ?_⟩;rintro e V2 ⟨b,rfl,h1,h2⟩;exact⟨b,rfl,λn=>.inl ⟨i,rfl,h1 n⟩,λn=>⟨h.succ t,N Y _ _ (h2 (by simpa using n))⟩⟩
 ·have e:i=xs.length:=by have:=(h.done z).2;omega
  simp_all
theorem Rc:ConP 76 Al (xe .i64) 1:=conG g127 Qb
theorem Rd:ConC 76 Al (xe .i64) 1:=conC Rc
def Gk(b:Bool):List Value:=[.bool b]
theorem Jk(l:List Bool):l.flatMap Gk=l.map vn:=by
 induction l with
 |nil=>rfl
 |cons a l g=>rw[List.flatMap_cons,g];rfl
theorem flat_setB(l:List Bool)(i:Nat)(x:Bool):(l.flatMap Gk).set i (.bool x)=(l.set i x).flatMap Gk:=by rw[Jk,Jk,List.map_set]
theorem flat_lenB(l:List Bool):(l.flatMap Gk).length=l.length:=by rw[Jk,xm]
theorem bool_at{V:Mem}{s:Sl}{xs:List Bool}(h:Ad V s 1 (xs.map Gk)){i:Nat}{x:Bool}(g:xs[i]?=some x):¬s.p=none/\(0:Int)<=(i:Int)/\(i:Int)<(s.n:Int)/\V.rowp s.p (i*1) 1=some [.bool x]:=by
 have t:=h.n_eq;have u:=(yw.1 g).1;obtain⟨y,-,f,-,-,h1,h2,h3⟩:=h.get (i:=i) (by omega);rw[g]at f;cases f;exact⟨h1,h2,by omega,h3⟩
section
variable{V:Mem}
theorem madeB(n:Nat):(madeCells (vn false).cells n).toList=(yI n false).map vn:=by
 have g:(vn false).cells=#[vn false]:=by rfl
 rw[g,List.map_replicate];unfold madeCells;refine List.ext_getElem? λj=>?_;grind
theorem own_madeB{g n:Nat}(f:V g=none)(t:n<=2147483648):Sx.Own V (V.set g (.cells (madeCells (vn false).cells (n*1)) 4 (0,0))) 4 1 ⟨some ⟨g,0,none⟩,n,n⟩ ((yI n false).flatMap Gk):=by
 have e:(madeCells (vn false).cells (n*1)).toList=(yI n false).flatMap Gk:=by rw[Nat.mul_one,madeB,Jk]
 refine⟨Mem.sub_new f _,by rw[Jk];simp,.inr ⟨g,_,rfl,f,Mem.set_same _ _ _,yU _,by simp only[maxLen];omega,by rw[size_madeCells],?_⟩⟩;grind[wW,Jk]
theorem mk171{ty:Nat}{x y:Operand}{vals:Operand->Value}{n:Nat}(f:vals x=.int .i64 n)(t:vals y=.int .i64 n)(u:n<=2147483648){q:Value->Mem->Prop}(w:∀g,V g=none->q (.slice (sa g) n n) (V.set g (.cells (madeCells (vn false).cells (n*1)) 4 (0,0)))):GenK xE (.makeSlice 171 x y) ty vals V q:=
 GenK.make (z:=.bool false) (i:=ti 4) Tryz.underlying171 (by kernel_rfl) (by kernel_rfl) (by kernel_rfl) (of_decide_eq_true (by kernel_rfl)) f t u w
theorem c131{s:Sl}{l:List Int}(h:Ad V s 1 (l.map Al)){x:Int}:PP 131 [s.v,.int .i64 x] V (.int .i64 (Ck (λy=>decide (x=y)) l)):=by
 refine x131 ?_;refine AU (mk:=.int .i64) (b0:=0) l.length (λj V1=>V=V1/\Bf (λy:Int=>!decide (x=y)) l j) ⟨rfl,Bf.zero _ _⟩ ?_;rintro j b V1 J G ⟨rfl,w⟩ i;refine⟨λg=>?_,λt=>?_⟩
 ·obtain⟨y,n,r,-,u,q,H,f⟩:=h.get g;refine⟨q,H,g,_,f,λz=>?_,λz=>⟨h.succ g,i u _ _ ⟨rfl,HZ w r (decide_eq_false z)⟩⟩⟩;grind[HX,decide_eq_true]
 ·rw[HY w (h.done t).2];simp_all
end
end Go.Proofs
namespace Go.Proofs
open Go Go.Sx
def Cd(x:List Int×List (Int×List Int)):Mm:=⟨Aj,x.1,Aj,x.2.map λn=>⟨n.1,Aj,n.2⟩⟩
theorem EZ(x:List Int×List (Int×List Int)):(Cd x).plain=x:=by
 unfold Mm.plain Cd;simp[vm]
def BU(m:Mm):Mm:=⟨Aj,match m.globals with|[]=>[]|g::l=>g::yI l.length 0,m.ns,m.nodes⟩
def E9(l:List Fld)(vs:List Int)(n:Nat):List Int:=(l.zip vs).map λx=>if AC x.1.ty=true∨x.2=0 then x.2 else x.2+n
def C1(d:Ds)(y:Mm):List Int×List (Int×List Int):=Cn d (BU y)
def BR(d:Ds)(x y:Mm):List Int×List (Int×List Int):=(x.globals,(x.nodes.map λn=>(n.ty,n.f))++(C1 d y).2.map λn=>(n.1,E9 (Bm d n.1) n.2 x.nodes.length))
def Co(d:Ds)(x y:Mm):Int:=if(C1 d y).1.headD 0=0 then 0 else x.nodes.length+(C1 d y).1.headD 0
section
variable{d:Ds}{m x y:Mm}
theorem Ls:Gj d m (Cd (Cn d m)) (AS d m).order:=by
 refine⟨rfl,?_,λi n z g f=>⟨Aj,?_⟩⟩;·simp[Cd,Cn]
 simp_all[Cd,Cn,y4,Option.map_some]
theorem J7(G:Am d m):Am d (BU m):=by
 refine⟨G.valid,G.chk,?_⟩;obtain⟨p1,w,p3,u,z⟩:=BD G.mem;have r:∀{t v},AJ d m t v=true->AJ d (BU m) t v=true:=λh=>h;refine I3 p1 w p3 ?_ z;rw[Cm]at u⊢;obtain⟨h1,h2⟩:=u;have i:∀v∈d.globals,Bq d v.ty=true:=λv hv=>za.1 (F7 p1).1 v hv;cases e:m.globals with
 |nil=>
  grind[BU]
 |cons g l=>
  have n:(BU m).globals=g::yI l.length 0:=by simp[BU,e]
  rw[e]at h1 h2;rw[n];refine⟨by simpa using h1,λj f v q hv=>?_⟩;cases j with
  |zero=>grind
  |succ j=>
   rw[List.getElem?_cons_succ]at hv;obtain rfl:v=0:=(vo.1 (xJ hv)).2;exact MH G.valid (i f (xJ q))
theorem Nq(G:Am d y):Am d (Cd (C1 d y)):=Lk (J7 G) Ls
theorem Lt{l:List Fld}{vs:List Int}{n:Nat}(h:l.length=vs.length):(E9 l vs n).length=vs.length:=by
 grind[E9]
theorem Lu{l:List Fld}{vs:List Int}{n i:Nat}{f:Fld}{v:Int}(g:l[i]?=some f)(hv:vs[i]?=some v):(E9 l vs n)[i]?=some (if AC f.ty=true∨v=0 then v else v+n):=by
 grind[E9]
theorem OQ{t:KB}{v:Int}(h:AJ d (Cd (C1 d y)) t v=true):AJ d (Cd (BR d x y)) t (if AC t=true∨v=0 then v else v+x.nodes.length)=true:=by
 cases g:AC t with
 |true=>
  rw[if_pos (.inl rfl)];grind[AC,AJ,Ai,Au]
 |false=>
  obtain⟨h1,h2⟩:=Nl g;unfold AJ at h⊢;rw[if_neg h1,if_neg h2,decide_eq_true_eq]at h⊢;by_cases f:v=0;·omega
  ·rw[if_neg (by simp[f])];rcases h with h|⟨a,b,c⟩;·omega
   ·refine .inr ⟨by omega,?_,?_⟩;·simp only[Cd,BR,xm,zw]at b⊢;omega
    ·rw[<-c];have e:(v+(x.nodes.length:Int)-1).toNat=x.nodes.length+(v-1).toNat:=by omega
     simp_all[Cd,BR,y4,vq,List.getElem?_append_right,vm]
theorem OR{t:KB}{v:Int}(h:AJ d x t v=true):AJ d (Cd (BR d x y)) t v=true:=by
 refine KW (by simp[Cd,BR]) (λi n g=>?_) h;refine⟨⟨n.ty,Aj,n.f⟩,?_,rfl⟩;grind[Cd,BR,xj,yw]
theorem uni_good(t:Am d x)(w:Am d y)(j:(BR d x y).2.length<=4096):Am d (Cd (BR d x y)):=by
 refine⟨t.valid,t.chk,?_⟩;obtain⟨p1,H,p3,i,J⟩:=BD t.mem;obtain⟨-,-,G,-,N⟩:=BD (Nq w).mem;have nd:∀n∈(Cd (BR d x y)).nodes,(∃z∈x.nodes,n.ty=z.ty/\n.f=z.f)∨∃z∈(Cd (C1 d y)).nodes,n.ty=z.ty/\n.f=E9 (Bm d z.ty) z.f x.nodes.length:=λn g=>by
  obtain⟨q,r,rfl⟩:=vV.1 g;rcases xh.1 r with h|h;·grind
  ·obtain⟨z,u,rfl⟩:=vV.1 h;exact .inr ⟨_,vV.2 ⟨z,u,rfl⟩,rfl,rfl⟩
 refine I3 p1 (by simpa [Cd]using j) (λn g=>?_) (BQ OR i) λn g=>?_;·grind[Es]
 ·rcases nd n g with⟨z,u,e,s⟩|⟨z,u,e,s⟩;·grind[BQ,OR]
  grind[Cm,Lt,yw,yv,Lu,OQ]
theorem uni_ref{g:Fld}{l:List Fld}(t:Am d y)(u:d.globals=g::l)(z:AC g.ty=false):AJ d (Cd (BR d x y)) g.ty (Co d x y)=true:=by
 obtain⟨-,-,-,f,-⟩:=BD (Nq t).mem;rw[u,Cm]at f;obtain⟨h1,h2⟩:=f;cases e:(C1 d y).1 with
 |nil=>simp[Cd,e]at h1
 |cons v vs=>
  have w:=h2 0 g v rfl (by show(C1 d y).1[0]?=some v;rw[e];rfl);have:=OQ (x:=x) w;grind[Co,inr]
end
end Go.Proofs
namespace Go.Proofs
open Go Go.Sx
def entB(p:Pr):Bool:=p.params.all (λf=>AC f.ty)&&(decide (p.result=sE)||AC p.result)
def CE(d:Ds)(p:Pr):Bool:=match p.params,d.globals with
 |[f],g::_=>decide (f.ty=g.ty)&&!AC f.ty&&(decide (p.result=sE)||AC p.result)
 |_,_=>false
structure PV where
 m:List Int×List (Int×List Int)
 par:List Int
 paths:Int
def Fs:PV:=⟨([],[]),[],0⟩
def maxI:Int:=1099511627776
def pthS(vs:List PV)(par:List Int):Int:=par.foldl (λa p=>min maxI (a+(vs.getD p.toNat Fs).paths)) 0
def A4(vs:List PV)(v:Int):Mm:=Cd (vs.getD v.toNat Fs).m
def Ct(d:Ds)(nm:KB):Pr:=(d.procs[(AD d nm).toNat]?).getD noPr
def BZ(vs:List PV)(v:Int):Prop:=0<=v/\v<(vs.length:Int)
instance (vs:List PV) (v:Int):Decidable (BZ vs v):=by unfold BZ;infer_instance
def DJ(d:Ds)(F:Int)(vs:List PV)(v:Int)(nm:KB)(args:List Int):Int:=
 if F<0∨1048576<F then 2 else if BZ vs v then(if AD d nm<0 then 9 else if entB (Ct d nm)=true then AQ d (A4 vs v) nm args else 30)else 24
def DS(d:Ds)(F:Int)(vs:List PV)(a b:Int)(nm:KB):Int:=
 if F<0∨1048576<F then 2 else if BZ vs a/\BZ vs b then(if AD d nm<0 then 9 else if CE d (Ct d nm)=true then(if 4096<(BR d (A4 vs a) (A4 vs b)).2.length then 4 else 0)else 30)else 24
structure Sp where
 meld:Bool
 a:Int
 b:Int
 nm:KB
 sl:Sl
 args:List Int
def BV(d:Ds)(F:Int)(vs:List PV)(x:Sp):Int:=if x.meld=true then DS d F vs x.a x.b x.nm else DJ d F vs x.a x.nm x.args
def stM(d:Ds)(vs:List PV)(x:Sp):Mm:=if x.meld=true then Cd (BR d (A4 vs x.a) (A4 vs x.b))else A4 vs x.a
def Ha(d:Ds)(vs:List PV)(x:Sp):List Int:=if x.meld=true then[Co d (A4 vs x.a) (A4 vs x.b)]else x.args
def Fa(x:Sp):List Int:=if x.meld=true then[x.a,x.b]else[x.a]
def Cp(d:Ds)(F:Nat)(vs:List PV)(x:Sp):Rx Int:=BP d F (AD d x.nm) (Ha d vs x) (AR (stM d vs x))
def newV(d:Ds)(r:Rx Int)(vs:List PV)(par:List Int):PV:=⟨Cn d r.st.mm,par,pthS vs par⟩
def runV(d:Ds)(r:Rx Int)(vs:List PV)(par:List Int):List PV:=if DI r=0 then vs++[newV d r vs par]else vs
structure Ew (d:Ds)(vs:List PV):Prop where
 good:∀v∈vs,Am d (Cd v.m)
 pth:∀v∈vs,0<=v.paths/\v.paths<=maxI
 par:∀v∈vs,∀p∈v.par,BZ vs p
 ne:vs≠[]
theorem isV_mem{vs:List PV}{v:Int}(h:BZ vs v):∃x,vs[v.toNat]?=some x/\x∈vs/\vs.getD v.toNat Fs=x:=by
 have g:v.toNat<vs.length:=by have:=h.1;have:=h.2;omega
 simp_all
section
variable{d:Ds}{vs:List PV}{v a b:Int}{x:Sp}{F:Nat}{nm:KB}{args:List Int}
theorem Ew.mem(G:Ew d vs)(h:BZ vs v):Am d (A4 vs v):=by
 obtain⟨x,h1,h2,h3⟩:=isV_mem h;unfold A4;rw[h3];exact G.good x h2
theorem pth_in:∀(par:List Int)(a:Int),0<=a/\a<=maxI->(∀v∈vs,0<=v.paths/\v.paths<=maxI)->0<=par.foldl (λa p=>min maxI (a+(vs.getD p.toNat Fs).paths)) a/\par.foldl (λa p=>min maxI (a+(vs.getD p.toNat Fs).paths)) a<=maxI
 |[],_,h,_=>h
 |p::par,a,h,hv=>by
  refine pth_in par _ ?_ hv;grind[Fs,maxI]
theorem Lv(h:CE d (Ct d nm)=true):∃f g l,(Ct d nm).params=[f]/\d.globals=g::l/\f.ty=g.ty/\AC f.ty=false:=by
 grind[CE]
theorem Im(h:¬AD d nm<0):∃i:Nat,AD d nm=(i:Int)/\d.procs[i]?=some (Ct d nm):=by
 grind[CP,Pr,absurd,AD,Int,Ct,xv]
theorem Lw(G:Ew d vs)(h:DS d F vs a b nm=0):BZ vs a/\BZ vs b/\Am d (Cd (BR d (A4 vs a) (A4 vs b)))/\AQ d (Cd (BR d (A4 vs a) (A4 vs b))) nm [Co d (A4 vs a) (A4 vs b)]=0/\CE d (Ct d nm)=true/\¬AD d nm<0:=by
 unfold DS at h;split at h;·cases h
 split at h;rotate_left;·cases h
 rename_i hv;split at h;·cases h
 rename_i t;split at h;rotate_left;·cases h
 rename_i hm;split at h;·cases h
 rename_i r;have w:=G.mem hv.1;have u:=G.mem hv.2;have z:=uni_good w u (by omega);refine⟨hv.1,hv.2,z,?_,hm,t⟩;obtain⟨f,g,l,h1,h2,h3,h4⟩:=Lv hm;obtain⟨i,hi,j⟩:=Im t;have q:=uni_ref (x:=A4 vs a) u h2 (by simp_all);have n:Aw d (Cd (BR d (A4 vs a) (A4 vs b))) (Ct d nm).params [Co d (A4 vs a) (A4 vs b)]=true:=by
  rw[h1,Cm];grind
 grind[AQ]
theorem vc_zero(h:DJ d F vs v nm args=0):BZ vs v/\¬AD d nm<0/\entB (Ct d nm)=true/\AQ d (A4 vs v) nm args=0:=by
 grind[DJ]
theorem st_zero(G:Ew d vs)(h:BV d F vs x=0):Am d (stM d vs x)/\AQ d (stM d vs x) x.nm (Ha d vs x)=0/\∀p∈Fa x,BZ vs p:=by
 unfold BV at h;unfold stM Ha Fa;split at h
 ·rename_i hm;rw[if_pos hm,if_pos hm,if_pos hm];obtain⟨h1,h2,h3,h4,-⟩:=Lw G h;simp_all
 ·rename_i hm;rw[if_neg hm,if_neg hm,if_neg hm];obtain⟨h1,-,-,h4⟩:=vc_zero h;exact⟨G.mem h1,h4,λp g=>by simp_all⟩
theorem isV_mono{ws:List PV}(h:BZ vs v)(g:vs.length<=ws.length):BZ ws v:=⟨h.1,by have:=h.2;omega⟩
theorem Ew.run(G:Ew d vs){m:Mm}(Gm:Am d m)(h:AQ d m nm args=0){par:List Int}(f:∀p∈par,BZ vs p):Ew d (runV d (BP d F (AD d nm) args (AR m)) vs par):=by
 unfold runV;split;rotate_left;·exact G
 have Gr:=Nc (F:=F) Gm h;have t:Am d (Cd (Cn d (BP d F (AD d nm) args (AR m)).st.mm)):=Lk Gr Ls;refine⟨λv hv=>?_,λv hv=>?_,λv hv p g=>?_,by simp⟩
 ·rcases xh.1 hv with hv|hv;·exact G.good v hv
  ·rw[zO.1 hv];exact t
 ·rcases xh.1 hv with hv|hv;·exact G.pth v hv
  ·rw[zO.1 hv];exact pth_in par 0 (by unfold maxI;omega) G.pth
 ·rcases xh.1 hv with hv|hv;·exact isV_mono (G.par v hv p g) (by simp)
  ·rw[zO.1 hv]at g;exact isV_mono (f p g) (by simp)
end
end Go.Proofs
namespace Go.Proofs
open Go Go.Sx
attribute [local irreducible] Go.Sx.Tri
section
variable{V:Mem}{d:Ds}
theorem Jl{t:KB}:PP 45 [.string t] V (.bool (!AC t)):=by
 refine PH ?_;have g:Ac [105,110,116]=Ai:=rfl;have f:Ac [98,111,111,108]=Au:=rfl;rw[g,f];unfold AC;refine⟨λh=>?_,λh=>?_⟩;·simp_all
 simp_all
theorem c242{t:KB}:PP 242 [.string t] V (.bool (AC t)):=by
 refine x242 ?_;have g:Ac [105,110,116]=Ai:=rfl;have f:Ac [98,111,111,108]=Au:=rfl;rw[g,f];unfold AC;refine⟨λh=>?_,λh=>?_⟩;·simp_all
 simp_all
theorem c196{p:Pr}(h:Pr.Ok V p):PP 196 [p.v] V (.bool (entB p)):=by
 refine x196 ?_;have z:=h.params;refine AU (mk:=.bool) (b0:=false) p.params.length (λi V1=>V1=V/\∀j f,j<i->p.params[j]?=some f->AC f.ty=true) ⟨rfl,λj f q=>absurd q (Nat.not_lt_zero _)⟩ ?_;rintro i b V1 J hi ⟨rfl,s⟩ H;refine⟨λt=>?_,λn=>?_⟩
 ·obtain⟨f,G,N,-,r,u,Z,w⟩:=z.get t;refine⟨u,Z,t,Ak u,_,_,w,c242.call ⟨_,rfl,λc=>⟨z.succ t,H r _ _ ⟨rfl,λj g q P=>?_⟩⟩,λc=>?_⟩⟩;·grind
  ·have:entB p=false:=by
    grind[entB]
   simp_all
 ·have A:=(z.done n).2;have Y:p.params.all (λf=>AC f.ty)=true:=za.2 λf N=>by
   grind[xn,Nat.lt_of_lt_of_le,yw]
  unfold entB;rw[Y,Bool.true_and];refine⟨λh=>?_,λh=>c242.call ⟨_,rfl,?_⟩⟩
  ·have h:p.result=sE:=h;rw[decide_eq_true h];exact⟨rfl,rfl⟩
  ·have h:¬p.result=sE:=h;rw[decide_eq_false h];exact⟨rfl,rfl⟩
theorem OS(g:Ds.Ok V d):PP 55 [d.v] V (.bool (decide (C8 d (Ch d Aj) 0=0))):=by
 refine Bv.mk (PR ?_);refine(On g).call ⟨_,rfl,λf=>?_,λf=>?_⟩
 ·refine Tri.mono (Np g (JX (Nk f)).1) ?_;rintro _ V2 ⟨u,w,rfl,t⟩;refine⟨_,_,rfl,(Q5 (g.sub u) t).call ⟨_,rfl,?_⟩⟩;rw[given_plain (m:=Ch d w) (m':=Ch d Aj) rfl];grind
 ·rw[decide_eq_false λh=>f (BD (OG h).mem).1];exact⟨rfl,Mem.sub.refl _⟩
end
def QL(e sz:Nat)(Q:Mem->Mem->Prop)(o:Sl)(vs:List Value):Mem->Mem->Prop:=λW V=>∃g,Sx.Own W g e sz o vs/\Q g V
def Dt(Q:Mem->Mem->Prop):Prop:=Framed Q/\∀W V,Q W V->W.sub V
section
variable{Q:Mem->Mem->Prop}{D V V' W:Mem}{o:Sl}{e sz:Nat}{vs:List Value}
theorem QL.over(h:Dt Q):Dt (QL e sz Q o vs):=by
 obtain⟨i,hS⟩:=h;refine⟨λW V ⟨z,t,w⟩=>?_,λW V ⟨z,t,w⟩=>t.sub.trans (hS _ _ w)⟩;obtain⟨M,q,j⟩:=i z V w;have h1:=hS _ _ w;have s:∀b,Bh o b->∃x,z b=some x/\V b=some x/\¬M b:=λb f=>by
  obtain⟨x,u⟩:=Own.some t f;exact⟨_,u,h1 _ _ u,λhm=>by simp_all⟩
 refine⟨λb=>M b∨Bh o b,λb f=>?_,λb f=>?_,λV' n=>?_⟩
 ·rcases f with f|f
  ·cases e:W b with
   |none=>rfl
   |some x=>
    have:=t.sub _ _ e;simp_all
  ·exact Own.none0 t f
 ·rcases f with f|f;·exact j.1 b f
  grind
 ·refine⟨Mem.minus V' M,Jc t (λc x H=>?_) (λg x r J u=>⟨EK (.inr r),?_⟩),j.2 V' λb x f u=>n b x (.inl f) u⟩;·grind[EK,Bh,inr,C6]
  grind[C6,inr]
theorem A0.mk(h:Dt Q)(S:Q W V)(g:D.sub W):A0 D V Q:=A0.new h.1 S (h.2 _ _ S) g
theorem QL.start(g:Dt Q)(h:A0 D V Q):A0 D V (QL e sz Q Aj []):=by
 obtain⟨W,f,u,t⟩:=h.use;exact A0.mk (QL.over g) ⟨W,Own.nil (Mem.sub.refl _) _ _,t⟩ f
theorem QL.pub{α:Type}{row:α->List Value}{xs:List α}(f:Dt Q)(t:∀x,(row x).length=sz)(u:0<sz)(h:A0 D V (QL e sz Q o (xs.flatMap row))):∃D',D.sub D'/\Ad D' o sz (xs.map row)/\A0 D' V Q:=by
 obtain⟨W,w,i,z,g,j⟩:=h.use;exact⟨z,w.trans g.sub,g.rows t u,A0.mk f j (Mem.sub.refl _)⟩
theorem pushW{α:Type}{t:Nat}{row:α->List Value}{xs:List α}{x:α}(A:AppP t e sz row)(Z:∀x,(row x).length=sz)(r:Dt Q)(h:QL e sz Q o (xs.flatMap row) W V){b:Nat}(q:V b=none)(Y:xs.length+1<=2147483648){ty:Nat}{y z:Operand}{vals:Operand->Value}(s:vals y=.slice o.p o.n o.c)(P:vals z=.slice (sa b) 1 1){c:Array Value}(f:c=(row x).toArray){K:Value->Mem->Prop}(hK:∀u V',QL e sz Q u ((xs++[x]).flatMap row) W V'->K (.slice u.p u.n u.c) V'):
  GenK xE (.call {callee:=.builtin .append,args:=#[y,z],argTypes:=#[t,t]}) ty vals (V.set b (.cells c e (0,0))) K:=by
 subst f;obtain⟨I,H,J⟩:=h;have h1:=r.2 _ _ J;have w:=Own.growS H h1;refine oneG A w.but q Y s P Z λu V' j=>hK u V' ?_;obtain⟨G,X,B⟩:=pushG w j;obtain⟨M,C,N⟩:=r.1 I V J;have E:∀c,M c->V c≠none/\¬Bh o c:=λc f=>⟨N.1 c f,λq=>by
  grind[Own.some]⟩
 have i:W.sub (Mem.minus V' M):=λc x f=>by
  have:¬M c:=λhm=>by
   have:=H.sub _ _ f;simp_all
  rw[C6 this];exact G.sub _ _ f
 exact⟨Mem.minus V' M,Jc G i (λg x S R s=>⟨R,by
  grind[C6]⟩),N.2 V' λc x hm f=>by simp_all⟩
theorem pushL{α:Type}{t:Nat}{row:α->List Value}{xs:List α}{x:α}(A:AppP t e sz row)(u:∀x,(row x).length=sz)(f:Dt Q)(h:A0 D V (QL e sz Q o (xs.flatMap row))){b:Nat}(w:V b=none)(j:xs.length+1<=2147483648){ty:Nat}{y z:Operand}{vals:Operand->Value}(i:vals y=.slice o.p o.n o.c)(r:vals z=.slice (sa b) 1 1){c:Array Value}(s:c=(row x).toArray){K:Value->Mem->Prop}(hK:∀g V',A0 D V' (QL e sz Q g ((xs++[x]).flatMap row))->K (.slice g.p g.n g.c) V'):
  GenK xE (.call {callee:=.builtin .append,args:=#[y,z],argTypes:=#[t,t]}) ty vals (V.set b (.cells c e (0,0))) K:=by
 obtain⟨W,H,-,q⟩:=h.use;exact pushW A u f q w j i r s λg V' J=>hK g V' (A0.mk (QL.over f) J H)
end
structure Vr where
 m:Mm
 cs:Sl
 cells:List Int
 ps:Sl
 par:List Int
 paths:Int
def Vr.row(v:Vr):List Value:=[v.m.gs.v,v.m.ns.v,v.cs.v,v.ps.v,.int .i64 v.paths]
structure Vr.Ok (D:Mem)(v:Vr):Prop where
 mem:Mm.Ok D v.m
 cs:Ad D v.cs 1 (v.cells.map Al)
 ps:Ad D v.ps 1 (v.par.map Al)
theorem Vr.Ok.sub{D D':Mem}{v:Vr}(h:Vr.Ok D v)(s:D.sub D'):Vr.Ok D' v:=⟨h.mem.sub s,h.cs.sub s,h.ps.sub s⟩
def csrow(d:Ds)(L:Sl)(k:Int):List Value:=[Go.Sx.vS d.name,d.ts.v,d.gs.v,d.ps.v,d.ms.v,d.is.v,d.qs.v,d.bs.v,L.v,.int .i64 k]
structure Ce (p:Nat)(d:Ds)(L:Sl)(vs:List Vr)(k:Int)(W V:Mem):Prop where
 at_:V p=some (.cells (csrow d L k).toArray 101 (0,0))
 p0:W p=none
 own:Sx.Own W V 98 5 L (vs.flatMap Vr.row)
def Cu(p:Nat)(d:Ds)(vs:List Vr)(k:Int)(W V:Mem):Prop:=∃L,Ce p d L vs k W V
section
variable{p:Nat}{d:Ds}{L:Sl}{vs:List Vr}{k:Int}{W V V' D:Mem}
theorem Ce.nB(h:Ce p d L vs k W V):¬Bh L p:=λg=>by
 obtain⟨f,t⟩:=Own.some h.own g;rw[h.at_]at t;simp_all
theorem Ce.cell(h:Ce p d L vs k W V)(i n:Nat)(hi:i+n<=10):V.rowp (sa p) i n=some (((csrow d L k).drop i).take n):=An h.at_ i n hi
theorem Ce.cell'(h:Ce p d L vs k W V)(j i n:Nat)(hi:j+i+n<=10):V.rowp (Aa (sa p) j) i n=some (((csrow d L k).drop (j+i)).take n):=EW h.at_ j i n hi
theorem Ce.rows(h:Ce p d L vs k W V):Ad V L 5 (vs.map Vr.row):=h.own.rows (λ_=>rfl) (by decide)
theorem Ce.grow(h:Ce p d L vs k W V)(g:V.sub V'):Ce p d L vs k W V':=⟨g _ _ h.at_,h.p0,Own.growS h.own g⟩
theorem Cu.over:Dt (Cu p d vs k):=by
 refine⟨λW V ⟨L,h⟩=>?_,λW V ⟨L,h⟩=>h.own.sub⟩;obtain⟨M,w⟩:∃M:Nat->Prop,M=λc=>c=p∨Bh L c:=⟨_,rfl⟩;have z:M p:=by simp_all
 have f:∀c,Bh L c->M c:=λc t=>by simp_all
 refine⟨M,λb f=>?_,λb f=>?_,λV' j=>⟨L,j _ _ z h.at_,EK z,GW,h.own.len,?_⟩⟩
 ·rw[w]at f;rcases f with rfl|f;·exact h.p0
  ·exact Own.none0 h.own f
 ·rw[w]at f;rcases f with rfl|f;·rw[h.at_];simp
  ·obtain⟨u,t⟩:=Own.some h.own f;rw[t];simp
 ·rcases h.own.cases0 with h1|⟨t,g,u,h1,h2,h3,h4⟩;·exact .inl h1
  ·exact .inr ⟨g,u,h1,EK (f g ⟨t,h1⟩),j _ _ (f g ⟨t,h1⟩) h3,h4⟩
theorem Ce.setK(h:Ce p d L vs k W V)(k':Int):Ce p d L vs k' W (V.set p (.cells (csrow d L k').toArray 101 (0,0))):=⟨Mem.set_same _ _ _,h.p0,h.own.put h.nB h.p0 _⟩
theorem Ce.count(h:Ce p d L vs k W V)(k':Int){q:Mem->Prop}(g:∀V',Ce p d L vs k' W V'->q V'):Ao (Aa (sa p) 9) 0 [.int .i64 k'] V q:=
 Ao.at2 (off:=9) h.at_ (by simp[csrow]) (g _ (h.setK k'))
theorem appV:AppP 99 98 5 Vr.row:=appG Tryz.underlying99 (by kernel_rfl) (by kernel_rfl) (by kernel_rfl) (by kernel_rfl) (by kernel_rfl) (by decide) (by intro _;rfl) λx u hu=>by simp only[Vr.row,Sl.v,List.mem_cons,List.not_mem_nil,or_false]at hu;rcases hu with rfl|rfl|rfl|rfl|rfl<;>rfl
theorem Ce.push(h:Ce p d L vs k W V){v:Vr}{b:Nat}(t:V b=none)(J:vs.length<=100000){ty:Nat}{y z:Operand}{vals:Operand->Value}(w:vals y=.slice L.p L.n L.c)(j:vals z=.slice (sa b) 1 1){K:Value->Mem->Prop}(hK:∀g V',V' p=some (.cells (csrow d L k).toArray 101 (0,0))->(∀q:Mem->Prop,(∀V2,Ce p d g (vs++[v]) k W V2->q V2)->Ao (Aa (sa p) 8) 0 [.slice g.p g.n g.c] V' q)->K (.slice g.p g.n g.c) V'):
  GenK xE (.call {callee:=.builtin .append,args:=#[y,z],argTypes:=#[99,99]}) ty vals (V.set b (.cells v.row.toArray 98 (0,0))) K:=by
 refine oneG appV h.own.but t (by omega) w j (λ_=>rfl) λg V' u=>?_;obtain⟨i,r,s⟩:=pushG h.own u;have f:V' p=some (.cells (csrow d L k).toArray 101 (0,0)):=by rw[r p h.nB (by rw[h.at_];simp)];exact h.at_
 refine hK g V' f λq H=>Ao.at2 (off:=8) f (by simp[csrow]) (H _ ⟨Mem.set_same _ _ _,h.p0,i.put (λt=>?_) h.p0 _⟩);rcases s p t with h1|h1;·exact h.nB h1
 ·rw[h.at_]at h1;cases h1
end
def Df(F:Int)(n:Nat)(ws:List Int):Int:=if F<0∨1048576<F then 2 else if ws.any (λx=>decide (x<0)||decide ((n:Int)<=x))=true then 24 else 0
section
variable{V W:Mem}{p:Nat}{d:Ds}{L:Sl}{vs:List Vr}{k F:Int}
theorem Ce.dat(S:Ce p d L vs k W V){b:Nat}(g:V b=none)(o:Obj):Ce p d L vs k W (V.set b o):=S.grow (Mem.sub_new g o)
theorem Re(S:Ce p d L vs k W V):PP 21 [pv p] V (.int .i64 vs.length):=by
 refine Pp ?_;have g:=S.rows.n_eq;exact⟨λh=>absurd h nn,λ_=>⟨nn,nn,L,S.cell 8 1 (by decide),by simp_all⟩⟩
theorem Rf{b t:Nat}(g:V b=some (cell (pv p) t))(S:Ce p d L vs k W V){x:Int}:PP 77 [.int .i64 x,pv b] V (.bool (decide (x<0)||decide ((vs.length:Int)<=x))):=by
 refine Qc ?_;have f:=S.rows.n_eq;refine⟨λh=>?_,λh=>⟨_,AG g,nn,nn,L,S.cell 8 1 (by decide),?_⟩⟩;·simp_all
 grind
theorem J8(S:Ce p d L vs k W V){l:Sl}{ws:List Int}(t:Ad V l 1 (ws.map Al)):PP 43 [pv p,.int .i64 F,l.v] V (.int .i64 (Df F vs.length ws)):=by
 refine Bv.mk (N6 ?_);have out:F<0∨1048576<F->Df F vs.length ws=2:=λh=>by grind[Df]
 refine⟨λh=>absurd h nn,λ_=>⟨λh=>⟨by grind,Mem.sub.refl _⟩,λh1=>⟨λh=>⟨by grind,Mem.sub.refl _⟩,λh2=>?_⟩⟩⟩;have h1:¬F<0:=h1;have h2:¬1048576<F:=h2;intro b f;have g:=Mem.sub_new f (cell (pv p) 23);have u:=S.dat f (cell (pv p) 23);refine(Rd (l:=l) (first:=[]) (caps:=[pv b]) (t.sub g) Tryz.call77 (λx=>decide (x<0)||decide ((vs.length:Int)<=x)) (λx _=>Rf Az u)).call ⟨_,rfl,λh=>⟨?_,g⟩,λh=>⟨?_,g⟩⟩;·grind[Df]
 grind[Df]
theorem Rg{b t:Nat}{s:KB}(g:V b=some (cell (.string s) t)){x:Pr}:PP 78 [x.v,pv b] V (.bool (decide (x.name=s))):=by
 refine Qd ?_;exact⟨_,AG g,rfl,rfl⟩
theorem OT(S:Ce p d L vs k W V)(w:Ds.Ok V d){nm:KB}:PP 44 [pv p,.string nm] V (.tuple #[(if AD d nm<0 then noPr else Ct d nm).v,.bool (decide (¬AD d nm<0))]):=by
 refine Bv.mk (PG ?_);refine⟨nn,nn,AX,d.ps,S.cell 3 1 (by decide),λb z=>?_⟩;have u:=Mem.sub_new z (cell (.string nm) 9);have n:=S.dat z (cell (.string nm) 9);refine(M0 (first:=[]) (caps:=[pv b]) (w.procs.sub u) Tryz.call78 (λt=>decide (t.name=nm)) (λx _=>Rg Az)).call ⟨_,rfl,λh=>?_,λh=>⟨nn,nn,AX,d.ps,n.cell 3 1 (by decide),?_⟩⟩
 ·have h:AD d nm<0:=h;rw[if_pos h,decide_eq_false (by omega)];exact⟨rfl,u⟩
 ·have h:¬AD d nm<0:=h;obtain⟨i,hi,g⟩:=Im h;have G:=w.procs.n_eq;have r:=(yw.1 g).1;obtain⟨y,q,j,-,-,s,H,f⟩:=(w.procs.sub u).get (i:=i) (by omega);rw[g]at j;cases j;rw[if_neg h,decide_eq_true h];have J:Ck (λt:Pr=>decide (t.name=nm)) d.procs=(i:Int):=hi;rw[J];exact⟨s,H,by omega,_,_,_,_,_,f,rfl,u⟩
theorem Rh(S:Ce p d L vs k W V)(N:Ds.Ok V d){r:Pr}(Z:Pr.Ok V r):PP 49 [pv p,r.v] V (.bool (CE d r)):=by
 refine PK ?_;have R:=Z.params.n_eq;have X:=N.globals.n_eq;have q:∀{V':Mem},CE d r=false->V=V'->(Ending.returned (.bool false)=.returned (.bool (CE d r))/\V=V'):=λh e=>⟨by rw[h],e⟩;refine⟨λh1=>?_,λh1=>q ?_ rfl⟩;rotate_left;·grind[CE,absurd]
 have h1:(r.ps.n:Int)=1:=h1;obtain⟨f,I⟩:∃f,r.params=[f]:=List.length_eq_one_iff.1 (by omega);obtain⟨y,M,z,-,-,s,Y,t⟩:=Z.params.get (i:=0) (by omega);rw[I]at z;cases z;have P:=Ak (n:=0*2) s;refine⟨s,Y,by omega,P,_,_,t,Jl.call ⟨_,rfl,λh2=>⟨nn,nn,AX,d.gs,S.cell 2 1 (by decide),λh3=>?_,λh3=>q ?_ rfl⟩,λh2=>q ?_ rfl⟩⟩;rotate_left;·grind[CE,absurd]
 ·grind[CE,AC]
 have h3:(0:Int)<(d.gs.n:Int):=h3;obtain⟨g,l,H⟩:∃g l,d.globals=g::l:=by
  cases e:d.globals with
  |nil=>simp_all
  |cons g l=>simp_all
 obtain⟨y,-,z,-,-,j,J,u⟩:=N.globals.get (i:=0) (by omega);rw[H]at z;cases z;have G:=Ak (n:=0*2) j;have A:CE d r=(decide (f.ty=g.ty)&&!AC f.ty&&(decide (r.result=sE)||AC r.result)):=by grind[CE]
 have h2:(!AC f.ty)=true:=h2;refine⟨nn,nn,AX,d.gs,S.cell 2 1 (by decide),j,J,h3,G,_,_,u,s,Y,by omega,P,_,_,t,λh4=>⟨λw=>?_,λw=>Jl.call ⟨_,rfl,?_⟩⟩,λh4=>q ?_ rfl⟩
 ·have h4:g.ty=f.ty:=h4;have w:r.result=sE:=w;rw[A,decide_eq_true h4.symm,h2,decide_eq_true w];exact⟨rfl,rfl⟩
 ·have h4:g.ty=f.ty:=h4;have w:¬r.result=sE:=w;exact⟨by rw[A,decide_eq_true h4.symm,h2,decide_eq_false w];simp,rfl⟩
 grind
theorem Ce.get(S:Ce p d L vs k W V){v:Int}(t:0<=v)(h1:v<(vs.length:Int)):∃x,vs[v.toNat]?=some x/\x∈vs/\¬L.p=none/\0<=v/\v<(L.n:Int)/\V.rowp L.p (v.toNat*5) 5=some [x.m.gs.v,x.m.ns.v,x.cs.v,x.ps.v,.int .i64 x.paths]:=by
 have u:=S.rows.n_eq;obtain⟨i,rfl⟩:∃i:Nat,v=(i:Int):=⟨v.toNat,by omega⟩;obtain⟨x,hm,w,-,-,f,z,g⟩:=S.rows.get (i:=i) (by omega);exact⟨x,by simp_all,hm,f,by omega,by omega,by rw[xv];exact g⟩
theorem ck_one{v:Int}{n:Nat}(h:Df F n [v]=0):(0<=F/\F<=1048576)/\0<=v/\v<(n:Int):=by
 grind[Df]
theorem Gl{b:Nat}(x:Int):Ad (V.set b (.cells #[.int .i64 x] 3 (0,0))) ⟨some ⟨b,0,none⟩,1,1⟩ 1 ([x].map Al):=I8 Az
theorem LA{n:Nat}{v:Int}:Df 0 n [v]=if 0<=v/\v<(n:Int)then 0 else 24:=by
 grind[Df]
def Io(vs:List Vr)(v:Int):Int:=if 0<=v/\v<(vs.length:Int)then(match vs[v.toNat]? with|some x=>(x.m.ns.n:Int)|none=>0)else 0
def Ip(vs:List Vr)(v:Int):Int:=if 0<=v/\v<(vs.length:Int)then(match vs[v.toNat]? with|some x=>x.paths|none=>0)else 0
theorem Ri(S:Ce p d L vs k W V){v:Int}:PP 15 [pv p,.int .i64 v] V (.tuple #[.int .i64 (Io vs v),.int .i64 (Df 0 vs.length [v])]):=by
 refine Bv.mk (Pk ?_);intro b z;have j:=Mem.sub_new z (.cells #[.int .i64 v] 3 (0,0));have t:=S.dat z (.cells #[.int .i64 v] 3 (0,0));refine(J8 t (F:=0) (Gl (V:=V) (b:=b) v)).call ⟨_,rfl,λg=>?_,λg=>?_⟩
 ·obtain⟨-,h1,h2⟩:=ck_one g;obtain⟨x,r,hm,u,i,w,f⟩:=t.get h1 h2;have e:Io vs v=x.m.ns.n:=by grind[Io]
  rw[e,show Df 0 vs.length [v]=0 from g];exact⟨nn,nn,L,t.cell 8 1 (by decide),u,i,w,Ak u,Ak (Ak u),_,_,_,_,_,f,rfl,j⟩
 ·have g:¬Df 0 vs.length [v]=0:=g;have e:Io vs v=0:=by unfold Io;rw[LA]at g;rw[if_neg λh=>g (if_pos h)]
  rw[e];exact⟨rfl,j⟩
theorem Rj(S:Ce p d L vs k W V){v:Int}:PP 16 [pv p,.int .i64 v] V (.tuple #[.int .i64 (Ip vs v),.int .i64 (Df 0 vs.length [v])]):=by
 refine Bv.mk (Pl ?_);intro b w;have z:=Mem.sub_new w (.cells #[.int .i64 v] 3 (0,0));have t:=S.dat w (.cells #[.int .i64 v] 3 (0,0));refine(J8 t (F:=0) (Gl (V:=V) (b:=b) v)).call ⟨_,rfl,λg=>?_,λg=>?_⟩
 ·obtain⟨-,h1,h2⟩:=ck_one g;obtain⟨x,n,hm,j,i,u,f⟩:=t.get h1 h2;have e:Ip vs v=x.paths:=by grind[Ip]
  rw[e,show Df 0 vs.length [v]=0 from g];exact⟨nn,nn,L,t.cell 8 1 (by decide),j,i,u,Ak j,_,_,_,_,_,f,rfl,z⟩
 ·have g:¬Df 0 vs.length [v]=0:=g;have e:Ip vs v=0:=by unfold Ip;rw[LA]at g;rw[if_neg λh=>g (if_pos h)]
  rw[e];exact⟨rfl,z⟩
theorem Nr(S:Ce p d L vs k W V)(N:∀x∈vs,Vr.Ok V x)(C:∀x∈vs,Am d x.m){v:Int}:Tri xE 14 #[pv p,.int .i64 v] V λe V'=>V.sub V'/\
  ((¬(0<=v/\v<(vs.length:Int))/\e=.returned (.tuple #[.agg #[Aj.v,Aj.v],.int .i64 24]))∨((0<=v/\v<(vs.length:Int))/\∃x gs ns nd,vs[v.toNat]?=some x/\e=.returned (.tuple #[.agg #[gs.v,ns.v],.int .i64 0])/\AP V V' gs ns Aj nd (AR x.m))):=by
 refine Qx ?_;intro b B;have Z:=Mem.sub_new B (.cells #[.int .i64 v] 3 (0,0));have Y:=S.dat B (.cells #[.int .i64 v] 3 (0,0));refine(J8 Y (F:=0) (Gl (V:=V) (b:=b) v)).call ⟨_,rfl,λw=>?_,λw=>?_⟩
 ·obtain⟨-,h1,h2⟩:=ck_one w;obtain⟨x,E,hm,G,P,g,t⟩:=Y.get h1 h2;have u:=(N x hm).mem;obtain⟨K,l2,T⟩:=Jg (C x hm);refine⟨nn,nn,L,Y.cell 8 1 (by decide),G,P,g,Ak G,_,_,_,_,_,t,Tri.mono (G4 (u.globals.sub Z) K) ?_⟩;rintro _ V1 ⟨gs,rfl,r⟩;have r:=r.narrow Z;refine⟨gs,rfl,loop3b (mk:=λs:Sl=>.slice s.p s.n s.c) (mc:=λs:Sl=>.slice s.p s.n s.c) (b0:=gs) (c0:=⟨none,0,0⟩) Bw Bw x.m.nodes.length (λi b ns V2=>b=gs/\∃nd,AP V V2 gs ns Aj nd ⟨x.m.globals,(x.m.nodes.take i).map λn=>(n.ty,n.f),0,0,[]⟩/\nd.length=i) ⟨rfl,[],⟨r,Own.nil r.sub _ _,Own.nil r.sub _ _,(λn A=>by cases A),rfl,(λn A=>by cases A),(λi j n n' c h=>by cases h)⟩,rfl⟩ ?_⟩;rintro i b ns V2 J hi ⟨rfl,nd,z,U⟩ hJ;have I:=u.nodes.sub z.sub;refine⟨λg=>?_,λM=>?_⟩
  ·obtain⟨y,q,hy,-,R,G,P,t⟩:=I.get g;refine⟨G,P,g,y.ty,y.sl,t,Tri.mono (G4 ((u.nodesOk y q).rows.sub z.sub) (T y q)) ?_⟩;rintro _ V3 ⟨fs,rfl,o3⟩;refine⟨fs,rfl,λtb X=>z.new (n:=⟨y.ty,fs,y.f⟩) o3 X rfl rfl (by omega) λs' V' L' _=>⟨s',rfl,I.succ g,hJ R _ _ _ ⟨rfl,nd++[⟨y.ty,fs,y.f⟩],?_,by simp_all⟩⟩⟩;grind[wc]
  ·have hd:=(I.done M).2;rw[wW hd]at z;exact⟨z.sub,.inr ⟨⟨h1,h2⟩,x,_,_,nd,E,rfl,z⟩⟩
 ·have w:¬Df 0 vs.length [v]=0:=w;rw[LA]at w⊢;have H:¬(0<=v/\v<(vs.length:Int)):=λh=>w (if_pos h);exact⟨Z,.inl ⟨H,by rw[if_neg H];rfl⟩⟩
end
def Vr.pv(v:Vr):PV:=⟨v.m.plain,v.par,v.paths⟩
section
variable{V W:Mem}{p:Nat}{d:Ds}{L:Sl}{vs:List Vr}{k F:Int}
theorem own_blk{α:Type}{row:α->List Value}{sz e b:Nat}{xs:List α}(g:∀x,(row x).length=sz)(f:W b=none){A:Mem}(t:W.sub A)(u:A b=some (.cells (xs.flatMap row).toArray e (0,0)))(w:xs.length<=1000000):Sx.Own W A e sz ⟨some ⟨b,0,none⟩,xs.length,xs.length⟩ (xs.flatMap row):=
 ⟨t,IL g xs,.inr ⟨b,_,rfl,f,u,yU _,by simp only[maxLen];omega,by rw[List.size_toArray,IL g],by rw[wW];rw[IL g];grind⟩⟩
theorem OU[Tab V](z:Ds.Ok V d):Tri xE 10 #[d.v] V λe V'=>V.sub V'/\
  ((¬Am d (Ch d Aj)/\e=.returned (.tuple #[.pointer none,.int .i64 1]))∨
  (Am d (Ch d Aj)/\∃p D v,e=.returned (.tuple #[pv p,.int .i64 0])/\V.sub D/\Vr.Ok D v/\v.pv=⟨(Ch d Aj).plain,[],1⟩/\v.cells=[]/\A0 D V' (Cu p d [v] 0))):=by
 refine Pg ?_;refine(Oi scopeC newC z).call ?_;by_cases hv:BC d=true;rotate_left
 ·rw[if_neg hv];exact⟨_,_,_,rfl,λh=>absurd h (by decide),λ_=>⟨Mem.sub.refl _,.inl ⟨λG=>hv G.valid,rfl⟩⟩⟩
 rw[if_pos hv];refine⟨_,_,_,rfl,λf=>Tri.mono (Rb z) ?_,λf=>⟨Mem.sub.refl _,.inl ⟨λG=>f (by rw[G.chk];rfl),rfl⟩⟩⟩;rintro _ V2 ⟨t,⟨j,rfl⟩|⟨j,i,rfl,u⟩⟩;·exact⟨_,_,_,rfl,λh=>absurd h (by decide),λ_=>⟨t,.inl ⟨λG=>by have:=(BD G.mem).1;simp_all,rfl⟩⟩⟩
 have G:Am d (Ch d Aj):=⟨hv,Na f,new_valid j⟩;refine⟨_,_,_,rfl,λ_ b n c r=>?_,λh=>absurd rfl h⟩;have w:=Mem.sub_new n (.cells #[i.v,Aj.v,Aj.v,Aj.v,.int .i64 1] 98 (0,0));have q:=Mem.sub_new r (.cells #[Go.Sx.vS d.name,d.ts.v,d.gs.v,d.ps.v,d.ms.v,d.is.v,d.qs.v,d.bs.v,(⟨some ⟨b,0,none⟩,1,1⟩:Sl).v,.int .i64 0] 101 (0,0));obtain⟨v,g⟩:∃v:Vr,v=⟨Ch d i,Aj,[],Aj,[],1⟩:=⟨_,rfl⟩;have s:V2 c=none:=free w r;have nb:b≠c:=λe=>by grind[Mem.set_same]
 refine⟨t.trans (w.trans q),.inr ⟨G,c,V2,v,rfl,t,by rw[g];exact⟨u,Ad.nil,Ad.nil⟩,by rw[g];rfl,by rw[g],?_⟩⟩;refine A0.mk Cu.over (W:=V2) ⟨⟨some ⟨b,0,none⟩,1,1⟩,Mem.set_same _ _ _,s,?_⟩ (Mem.sub.refl _);exact own_blk (xs:=[v]) (row:=Vr.row) (λ_=>rfl) n (w.trans q) (by rw[Mem.set_ne nb,Mem.set_same,g];rfl) (by simp)
end
end Go.Proofs
