/- Part 21: no statement of the seat is proved here. -/
import Derived.Test.YtejinebghgaigaaGreatDoorPr20
import Derived.Test.YtejinebghgaigaaGreatDoorPr17
import Derived.Test.YtejinebghgaigaaGreatDoorPr15
import Derived.Test.YtejinebghgaigaaGreatDoorPr13
set_option linter.unusedVariables false
set_option linter.unusedSimpArgs false
open Go.Ending renaming returned->xG
open Go.Proofs.Tryz renaming prog->xE,underlying58->vd
open List renaming take_add_one->wc,take_of_length_le->wW,append_nil->wA,take_zero->vG,map_singleton->ve,mem_singleton->zO,getElem?_eq_some_iff->yw,getElem?_eq_getElem->yv,range->zB,mem_filter->yZ,mem_range->yX,mem_cons_of_mem->zb,mem_cons_self->zc,filter_cons->z7
open Nat renaming le_refl->yU
open List.cons renaming injEq->yD
open Prod.mk renaming inj->wu
open Option.some renaming inj->vK
open Bool renaming not_eq_true->vx,and_eq_true->zC
open Go.Value renaming int->xe
open Int renaming toNat_natCast->xv
open Go.Oper renaming uponIn->wm
open Go.CallsIn renaming mono->vc
open Go.RoundIn renaming mono->vb
open Go.Region renaming binds->yQ,ready->yY
open Option renaming map_some->zJ,getD_some->xX
open Array renaming mem_toList_iff->uC,all_eq_true'->wF,getD->z6,getD_eq_getD_getElem?->wT,getElem?_setIfInBounds_ne->uE
namespace Go.Proofs
open Go Go.Sx
attribute [local irreducible] Go.Sx.Tri
section
variable{V:Mem}{d:Ds}
theorem OY(A:Ds.Ok V d){r:Pr}(I:Pr.Ok V r):PP 28 [d.v,r.v] V (.bool (CE d r)):=by
 refine Pv ?_;have L:Ac [105,110,116]=Ai:=rfl;have X:Ac [98,111,111,108]=Au:=rfl;rw[L,X];have K:=I.params.n_eq;have S:=A.globals.n_eq;have u:CE d r=false->(xG (.bool false)=.returned (.bool (CE d r))/\V=V):=λh=>⟨by rw[h],rfl⟩;have z:CE d r=true->(xG (.bool true)=.returned (.bool (CE d r))/\V=V):=λh=>⟨by rw[h],rfl⟩;refine⟨λh1=>⟨λh2=>u ?_,λh2=>?_⟩,λh1=>u ?_⟩;rotate_right;·grind[CE,absurd]
 ·grind[CE]
 have h1:(r.ps.n:Int)=1:=h1;have h2:¬(d.gs.n:Int)=0:=h2;obtain⟨f,B⟩:∃f,r.params=[f]:=List.length_eq_one_iff.1 (by omega);obtain⟨g,l,s⟩:∃g l,d.globals=g::l:=by
  cases e:d.globals with
  |nil=>simp_all
  |cons g l=>simp_all
 obtain⟨y,C,j,-,-,q,J,k⟩:=I.params.get (i:=0) (by omega);rw[B]at j;cases j;obtain⟨y,-,j,-,-,m,G,t⟩:=A.globals.get (i:=0) (by omega);rw[s]at j;cases j;have Z:=Ak (n:=0*2) q;have Y:=Ak (n:=0*2) m;have T:CE d r=(decide (f.ty=g.ty)&&!AC f.ty&&(decide (r.result=sE)||AC r.result)):=by grind[CE]
 refine⟨q,J,by omega,Z,_,_,k,m,G,by omega,Y,_,_,t,λh4=>⟨q,J,by omega,Z,_,_,k,λo=>u ?_,λo=>⟨q,J,by omega,Z,_,_,k,λc=>u ?_,λc=>⟨λW=>z ?_,λW=>⟨λO=>z ?_,λO=>?_⟩⟩⟩⟩,λh4=>u ?_⟩;·grind[Ai,Il]
 ·grind[Au,Il,inr]
 rotate_right;·simp_all
 all_goals
  have h4:f.ty=g.ty:=h4;have o:¬f.ty=Ai:=o;have c:¬f.ty=Au:=c;have E:AC f.ty=false:=by
   unfold AC;rw[decide_eq_false o,decide_eq_false c];rfl
 ·grind[sE]
 ·grind[Ai,decide_eq_true,Il]
 ·have W:¬r.result=sE:=W;have O:¬r.result=Ai:=O;have e:AC r.result=decide (r.result=Au):=by
   grind[AC]
  simp_all
theorem Ru{l q:Sl}{xs:List Fld}{vs:List Int}{n:Nat}(K:Ad V l 2 (xs.map Fld.row))(S:Ad V q 1 (vs.map Al))(T:xs.length=vs.length)(G:∀(i:Nat) f v,xs[i]?=some f->vs[i]?=some v->AC f.ty=false->0<=v/\v<=4096)(hn:n<=4096)(U:xs.length<=4096):
  Tri xE 63 #[l.v,q.v,.int .i64 n] V λe V'=>∃s:Sl,e=.returned (.slice s.p s.n s.c)/\Sx.Own V V' 3 1 s ((E9 xs vs n).flatMap Al):=by
 refine P3 ?_;have e1:Ac [105,110,116]=Ai:=rfl;have e2:Ac [98,111,111,108]=Au:=rfl;rw[e1,e2];have hsl:=Lt (n:=n) T;refine FA (mk:=λs:Sl=>.slice s.p s.n s.c) (b0:=⟨none,0,0⟩) Bw xs.length (λi s V1=>Sx.Own V V1 3 1 s (((E9 xs vs n).take i).flatMap Al)) (Own.nil (Mem.sub.refl _) _ _) ?_;rintro i s V1 J hi h1 hJ;have j:=K.sub h1.sub;have g:=S.sub h1.sub;have hqn:=g.n_eq;have hqc:=g.cap;have hqf:=g.fit;refine⟨λt=>?_,λZ=>?_⟩
 ·obtain⟨x,hxm,X,-,Y,r,o,u⟩:=j.get t;obtain⟨y,hym,B,-,hjl,W,O,m⟩:=g.get (i:=i) (by omega);have A:=Lu (n:=n) X B;have add:∀{z:Int},(if AC x.ty=true∨y=0 then y else y+n)=z->∀{a b:Operand}{vals:Operand->Value},vals a=.slice s.p s.n s.c->∀k,V1 k=none->vals b=.slice (sa k) 1 1 ->
    GenK xE (.call {callee:=.builtin .append,args:=#[a,b],argTypes:=#[43,43]}) 43 vals (V1.set k (.cells #[.int .i64 z] 3 (0,0))) λx C=>∃E:Sl,x=uL E/\IR ((i:Int)+1)/\J [uL E,uI ((i:Int)+1)] C:=λ{z} o {a b vals} ha k h G=>by
   refine oneG FG (x:=z) h1 h (by grind) ha G (λ_=>rfl) λo2 C I=>⟨o2,rfl,j.succ t,hJ Y _ _ ?_⟩;rw[wc,A,o];exact I
  refine⟨W,O,by omega,_,m,r,o,t,Ak r,_,_,u,λh2 k h=>add (if_pos (.inl (Il (.inl h2)))) rfl k h rfl,λh2=>⟨r,o,t,Ak r,_,_,u,λh3 k h=>add (if_pos (.inl (Il (.inr h3)))) rfl k h rfl,λh3=>⟨λh4 k h=>add (if_pos (.inr h4)) rfl k h rfl,λh4=>?_⟩⟩⟩;have h2:¬x.ty=Ai:=h2;have h3:¬x.ty=Au:=h3;have h4:¬y=0:=h4;have L:AC x.ty=false:=by
   grind[AC]
  have hyb:=G i x y X B L;exact⟨⟨by omega,by omega⟩,λk h=>add (if_neg (by grind)) rfl k h rfl⟩
 ·have hd:=(j.done Z).2;grind
theorem OZ{α:Type}{V V' D:Mem}{e sz:Nat}{s:Sl}{row:α->List Value}{xs:List α}(o:Sx.Own V V' e sz s (xs.flatMap row))(k:∀x,(row x).length=sz)(f:0<sz)(t:∀b x,Bh s b->V' b=some x->D b=some x):Ad D s sz (xs.map row):=by
 have:Sx.Own (λ_=>none) D e sz s (xs.flatMap row):=⟨(λ_ _ h=>by cases h),o.len,by
  rcases o.cases0 with h|⟨u,g,cur,a,b,c,dd⟩;·exact .inl h
  ·exact .inr ⟨g,cur,a,rfl,t g _ ⟨u,a⟩ c,dd⟩⟩
 exact this.rows k f
theorem AP.pub{V V':Mem}{gs ns:Sl}{nd:List Nd}{st:St}(k:Ds.Ok V d)(L:AP V V' gs ns Aj nd st)(f:Am d st.mm):Ad (V'.but ns) gs 1 (st.g.map Al)/\(∀v∈st.g,DX v)/\∀n∈nd,Nd.Ok (V'.but ns) n:=by
 obtain⟨hm,-⟩:=JS k L f;have ne:∀{s:Sl}{vs:List Value},Sx.Own V V' 3 1 s vs->∀b x,Bh s b->V' b=some x->V'.but ns b=some x:=λ{s vs} o b x t u=>Mem.but_at u λh=>by
  obtain⟨z,h1⟩:=Own.some o t;obtain⟨y,h2⟩:=Own.some L.nodes h;grind
 refine⟨OZ L.glob (λ_=>rfl) (by decide) (ne L.glob),hm.gIn,λn h=>?_⟩;have:=hm.nodesOk n h;exact⟨OZ (L.fld n h) (λ_=>rfl) (by decide) (ne (L.fld n h)),this.tyIn,this.vals⟩
theorem Rv{y:Mm}(Y:Ds.Ok V d)(A:Mm.Ok V y)(G:Am d y):Tri xE 62 #[d.v,y.v] V λe V'=>V.sub V'/\∃c:Mm,e=.returned (.agg #[c.gs.v,c.ns.v])/\Mm.Ok V' c/\c.plain=C1 d y:=by
 obtain⟨R,W⟩:∃R:Ending->Mem->Prop,R=λe V'=>V.sub V'/\∃c:Mm,e=.returned (.agg #[c.gs.v,c.ns.v])/\Mm.Ok V' c/\c.plain=C1 d y:=⟨_,rfl⟩;rw[<-W];refine P2 ?_;obtain⟨L,X,B⟩:=Jg G;refine Tri.mono (Nh A L X B) ?_;rintro _ V1 ⟨gs,ns,nd,rfl,C⟩;refine⟨gs,ns,rfl,λr E V2=>∃j:Nat,r=y.globals.length+1-j/\1<=j/\E=[.int .i64 j]/\AP V V2 gs ns Aj nd ⟨(BU y).globals.take j++y.globals.drop j,(AR y).ns,0,0,[]⟩,y.globals.length,⟨1,by omega,yU _,rfl,?_⟩,?_⟩
 ·have e:(BU y).globals.take 1++y.globals.drop 1=y.globals:=by
   grind[BU]
  rw[e];exact C
 rintro r V2 K ⟨j,rfl,hj,f,h⟩ J S;simp only[yD,and_true]at f;cases CY _ _ f;have q:(BU y).globals.length=y.globals.length:=by
  grind[BU]
 have t:=h.glob.rows (row:=Al) (λ_=>rfl) (by decide);have o:=t.n_eq;rw[List.length_append,List.length_take,List.length_drop,q]at o;refine⟨λk=>?_,λu=>?_⟩
 ·have k:(j:Int)<(gs.n:Int):=k;have T:j<y.globals.length:=by omega
  obtain⟨w,-,hw,-,-,U,hz,-⟩:=t.get (i:=j) (by omega);have h0:(BU y).globals[j]?=some 0:=by
   unfold BU;grind
  refine⟨U,hz,k,?_⟩;rw[show((j:Int).toNat*1)=j*1 by rfl];refine AP.setG h (i:=j) (by grind) λV3 L3 _=>⟨⟨by omega,by omega⟩,S _ _ _ (show y.globals.length+1-(j+1)<y.globals.length+1-j by omega) ⟨j+1,rfl,by omega,rfl,?_⟩⟩;grind[take_set]
 ·have u:¬(j:Int)<(gs.n:Int):=u;have e:(BU y).globals.take j++y.globals.drop j=(BU y).globals:=by
   grind[wW,List.drop_eq_nil_of_le]
  rw[e]at h;have O:=J7 G;have s:(⟨(BU y).globals,(AR y).ns,0,0,[]⟩:St)=AR (BU y):=rfl;rw[s]at h;have Gs:Am d (AR (BU y)).mm:=O.plain (Ge _).symm;obtain⟨hm,Z⟩:=JS Y h Gs;have z:(⟨gs,(AR (BU y)).g,ns,nd⟩:Mm).plain=(BU y).plain:=Z;have Gm:=O.plain z.symm;refine Tri.mono (Ll (m:=⟨gs,(AR (BU y)).g,ns,nd⟩) Gm (Y.sub h.sub) hm) ?_;rintro _ V3 ⟨s3,c,rfl,hc,I⟩;refine⟨_,_,rfl,?_⟩;rw[W];refine⟨h.sub.trans s3,c,rfl,hc,?_⟩;rw[JW Gm.mem I];exact Ji z
theorem O1{x y:Mm}(T:Ds.Ok V d)(hx:Mm.Ok V x)(hy:Mm.Ok V y)(Gx:Am d x)(Gy:Am d y){g:Fld}{gl:List Fld}(hgl:d.globals=g::gl)(hgp:AC g.ty=false):Tri xE 30 #[d.v,x.v,y.v] V λe V'=>V.sub V'/\∃u:Mm,e=.returned (.tuple #[.agg #[u.gs.v,u.ns.v],.int .i64 (Co d x y)])/\Mm.Ok V' u/\u.plain=BR d x y:=by
 obtain⟨R,hR⟩:∃R:Ending->Mem->Prop,R=λe V'=>V.sub V'/\∃u:Mm,e=.returned (.tuple #[.agg #[u.gs.v,u.ns.v],.int .i64 (Co d x y)])/\Mm.Ok V' u/\u.plain=BR d x y:=⟨_,rfl⟩;rw[<-hR];refine Qz ?_;obtain⟨l1,l2,l3⟩:=Jg Gx;refine Tri.mono (Nh hx l1 l2 l3) ?_;rintro _ V1 ⟨gs,ns,nd,rfl,L1⟩;have Gs:Am d (AR x).mm:=Gx.plain (Ge _).symm;obtain⟨hg1,hg2,hnd⟩:=AP.pub T L1 Gs;have I:V.sub (V1.but ns):=L1.nodes.sub_but;have B1:A0 (V1.but ns) V1 (QL 55 2 subV ns (nd.flatMap Nd.row)):=A0.mk (QL.over Iq) ⟨V1,L1.nodes.but,Mem.sub.refl _⟩ (Mem.sub.refl _);refine⟨gs,ns,rfl,Tri.mono (B1.run (R:=λe U'=>∃c:Mm,e=.returned (.agg #[c.gs.v,c.ns.v])/\Mm.Ok U' c/\c.plain=C1 d y) λU L=>Rv (T.sub (I.trans L)) (hy.sub (I.trans L)) Gy) ?_⟩;rintro _ V2 ⟨D2,X,⟨c,rfl,hc,B⟩,B2⟩;have Gp:=Nq Gy;have Gc:Am d c:=Gp.plain ((EZ _).trans B.symm);obtain⟨p1,p2,p3,p4,p5⟩:=BD Gc.mem;obtain⟨hg8,hf12⟩:=JX Gc.valid;have hcn:c.nodes.map (λn=>(n.ty,n.f))=(C1 d y).2:=(wu B).2;have hcg:c.globals=(C1 d y).1:=(wu B).1;have hnl:nd.length=x.nodes.length:=by
  have:=congrArg List.length L1.eq;simpa [AR]using this
 have hxn:=hx.nodes.n_eq;have dV:=I.trans X;refine⟨_,_,rfl,λr ys V3=>∃(j:Nat)(h:Sl)(D3:Mem)(nodes:List Nd),r=c.nodes.length-j/\j<=c.nodes.length/\ys=[gs.v,.slice h.p h.n h.c,.int .i64 j]/\D2.sub D3/\A0 D3 V3 (QL 55 2 subV h (nodes.flatMap Nd.row))/\(nodes.map λn=>(n.ty,n.f))=(x.nodes.map λn=>(n.ty,n.f))++((C1 d y).2.take j).map (λn=>(n.1,E9 (Bm d n.1) n.2 x.nodes.length))/\∀n∈nodes,Nd.Ok D3 n,
  c.nodes.length,⟨0,ns,D2,nd,rfl,Nat.zero_le _,rfl,Mem.sub.refl _,B2,?_,λn hn=>(hnd n hn).sub X⟩,?_⟩
 ·rw[vG,List.map_nil,wA];exact L1.eq
 rintro r V3 v16 h v18 ⟨j,ns'',D3,nodes,rfl,hj,hys,q,B3,hnp,O⟩ J hJ;simp only[yD,and_true]at hys;obtain⟨q1,q2,q3⟩:=hys;cases Bw _ _ q1;cases Bw _ _ q2;cases CY _ _ q3;have e3:=B3.sub;have d3:=dV.trans (q.trans e3);have G:=hc.nodes.sub (q.trans e3);have hccn:=G.n_eq;have hpl:(C1 d y).2.length=c.nodes.length:=by grind
 have hnl3:nodes.length=x.nodes.length+j:=by
  have:=congrArg List.length hnp;grind
 refine⟨λZ=>?_,λhge=>?_⟩
 ·have Z:(j:Int)<(c.ns.n:Int):=Z;obtain⟨z,Y,hz,-,hjl,hpz,hzz,hrz⟩:=G.get Z;obtain⟨c1,c2⟩:=of_decide_eq_true (p3 z Y);obtain⟨tj,C⟩:∃tj:Nat,z.ty=(tj:Int):=⟨_,(Int.toNat_of_nonneg c1).symm⟩;have htn:=T.types.n_eq;obtain⟨t,htm,ht,-,htl,hpt,hzt,hrt⟩:=(T.types.sub d3).get (i:=tj) (by omega);have hfo:=Ef ht C;have k:=p5 z Y;rw[hfo]at k;have hln:=HF k;have h12:=hf12 t htm;refine⟨hpz,hzz,Z,_,_,hrz,?_⟩;rw[C];refine⟨hpt,hzt,by omega,Ak hpt,_,_,hrt,?_⟩;rw[hxn];refine Tri.mono (B3.run (R:=λe U'=>∃s:Sl,e=.returned (.slice s.p s.n s.c)/\Ad U' s 1 ((E9 t.fields z.f x.nodes.length).map Al)) λU L=>Tri.mono (Ru (n:=x.nodes.length) ((T.typesOk t htm).fields.sub (dV.trans (q.trans L))) ((hc.nodesOk z Y).rows.sub (q.trans L)) hln (λi f v hf hv hp=>?_) (by omega) (by omega)) ?_) ?_
  ·by_cases W:v=0;·subst W;omega
   ·have:=G9 k hf hv hp W;omega
  ·rintro _ U' ⟨s,rfl,o⟩;exact⟨o.sub,s,rfl,o.rows (λ_=>rfl) (by decide)⟩
  rintro _ V4 ⟨D4,E,⟨s,rfl,hs⟩,B4⟩;refine⟨s,rfl,λtb htb=>?_⟩;obtain⟨nw,hnw⟩:∃nw:Nd,nw=⟨z.ty,s,E9 t.fields z.f x.nodes.length⟩:=⟨_,rfl⟩;refine pushL (x:=nw) app47 (λ_=>rfl) Iq B4 htb (by omega) rfl rfl (by rw[hnw,C];rfl) λns3 V6 B6=>⟨ns3,rfl,G.succ Z,hJ _ _ _ (show c.nodes.length-(j+1)<c.nodes.length-j by omega) ⟨j+1,ns3,D4,nodes++[nw],rfl,by omega,rfl,q.trans E,B6,?_,λm hm=>?_⟩⟩;·grind[C1,wc,Option.toList_some,ve,List.append_assoc]
  ·rcases List.mem_append.1 hm with hm|hm;·exact(O m hm).sub E
   ·rw[zO.1 hm,hnw];refine⟨hs,(hc.nodesOk z Y).tyIn,λv hv=>?_⟩;obtain⟨i,hi⟩:=List.mem_iff_getElem?.1 hv;have hil:i<(E9 t.fields z.f x.nodes.length).length:=(yw.1 hi).1;rw[Lt hln]at hil;have hfi:=yv (l:=t.fields) (i:=i) (by omega);have hvi:=yv (l:=z.f) (i:=i) (by omega);rw[Lu hfi hvi]at hi;split at hi;·rw[<-vK hi];exact(hc.nodesOk z Y).vals _ (List.getElem_mem _)
    ·rename_i hno;rw[<-vK hi];have W:z.f[i]'(by omega)≠0:=λe=>hno (.inr e);have hp:AC (t.fields[i]'(by omega)).ty=false:=(vx _).mp λe=>hno (.inl e);have:=G9 k hfi hvi hp W;unfold DX;omega
 ·have hge:¬(j:Int)<(c.ns.n:Int):=hge;have hjl:j=c.nodes.length:=by omega
  subst hjl;rw[wW (by omega)]at hnp;obtain⟨D4,E,hns,B4⟩:=QL.pub (row:=Nd.row) Iq (λ_=>rfl) (by decide) B3;have e4:=B4.sub;have hgl8:=HF p4;have A:=hc.globals.sub (q.trans e3);have hcgn:=A.n_eq;have hl0:0<c.globals.length:=by grind
  obtain⟨v,hvm,hv,-,-,K,hzg,S⟩:=A.get (i:=0) (by omega);have hvd:(C1 d y).1.headD 0=v:=by
   rw[<-hcg];cases e:c.globals with
   |nil=>simp_all
   |cons a l=>grind
  have fin:R (.returned (.tuple #[.agg #[gs.v,.slice h.p h.n h.c],.int .i64 (Co d x y)])) V3:=by
   rw[hR];refine⟨d3,⟨gs,x.globals,h,nodes⟩,rfl,⟨(hg1.sub X).sub (q.trans e3),hg2,hns.sub e4,λn hn=>(O n hn).sub e3⟩,?_⟩;unfold Mm.plain BR;simp_all
  have L:Co d x y=if v=0 then 0 else(x.nodes.length:Int)+v:=by unfold Co;rw[hvd]
  refine⟨K,by omega,by omega,v,S,λW=>?_,λW=>⟨K,by omega,by omega,v,S,?_⟩⟩;·simp_all
  ·have W:¬v=0:=W;rw[if_neg W]at L;have hvI:0<=v/\v<=1099511627776:=by
    have:=G9 p4 (by rw[hgl];rfl) hv hgp W;omega
   rw[hxn];refine⟨⟨by omega,by omega⟩,⟨by omega,by omega⟩,LB S,K,by omega,by omega,?_⟩;simp_all
end
def resA(n:Nat)(er:Int)(r:Rx Int):Int:=if er=0 then(if DI r=0 then(n:Int)else -1)else 0
def resO(er:Int)(r:Rx Int):Value:=if er=0 then .agg (Bo (DI r) (outV r) r.st.cm (Be r.st.lg)).toArray else .agg (Bo 0 0 0 0).toArray
theorem resV_eq(n:Nat)(er:Int)(r:Rx Int):resV n er r=.tuple #[.int .i64 (resA n er r),resO er r,.int .i64 er]:=by
 grind[resV,resA,resO]
theorem resO_form(er:Int)(r:Rx Int):∃a1 a2 a3 h k:Int,resO er r=.agg #[.int .i64 a1,.int .i64 a2,.int .i64 a3,.int .i64 h,.int .i64 k]:=by
 unfold resO;split;·exact⟨_,_,_,_,_,rfl⟩
 ·exact⟨_,_,_,_,_,rfl⟩
def Fb(d:Ds)(P M:Sl):Value:=.agg #[Go.Sx.vS d.name,d.ts.v,d.gs.v,d.ps.v,d.ms.v,d.is.v,d.qs.v,d.bs.v,P.v,M.v]
def RefP(V:Mem)(d:Ds)(ps:List PV)(F:Int)(x:Sp):Ending->Mem->Prop:=λe V'=>V.sub V'/\∃h k:Sl,Dg V' h k (Cg d (Cp d F.toNat ps x) ps (Fa x) (BV d F ps x))/\e=.returned (.tuple #[Fb d h k,.int .i64 (resA ps.length (BV d F ps x) (Cp d F.toNat ps x)),resO (BV d F ps x) (Cp d F.toNat ps x),.int .i64 (BV d F ps x)])
section
variable{V:Mem}{P M:Sl}{ps:List PV}{d:Ds}{a b F:Int}{nm:KB}{args:List Int}{l:Sl}
theorem RefP.bad{V':Mem}{er:Int}{x:Sp}{e:Ending}(h:Dg V P M ps)(k:V.sub V')(g:BV d F ps x=er)(f:er≠0)(t:e=.returned (.tuple #[Fb d P M,.int .i64 0,.agg (Bo 0 0 0 0).toArray,.int .i64 er])):RefP V d ps F x e V':=by
 refine⟨k,P,M,?_,?_⟩;·rw[g];unfold Cg;rw[if_neg f];exact h.sub k
 grind[resA,resO]
theorem memS_pl{m:Mm}{v:Int}(h:m.plain=(ps.getD v.toNat Fs).m):(A4 ps v).plain=m.plain:=by
 unfold A4;rw[EZ,h]
theorem Rw(h:Dg V P M ps)(X:Ew d ps)(Y:Ds.Ok V d)(W:Ad V l 1 (args.map Al))(T:F<=4000∨1048576<F)(t:ps.length<=900):
  Tri xE 90 #[Fb d P M,.int .i64 a,.agg #[.string nm,l.v],.int .i64 F] V (RefP V d ps F ⟨false,a,b,nm,l,args⟩):=by
 obtain⟨R,q⟩:∃R,R=RefP V d ps F ⟨false,a,b,nm,l,args⟩:=⟨_,rfl⟩;rw[<-q];refine Qp ?_;obtain⟨o,B⟩:=h.lens;have c:BV d F ps ⟨false,a,b,nm,l,args⟩=DJ d F ps a nm args:=rfl;refine mk43 (n:=P.n) rfl rfl (by omega) λg C=>⟨⟨some ⟨g,0,none⟩,P.n,P.n⟩,rfl,?_⟩;have f:=Mem.sub_new C (.cells (madeCells (xe .i64 0).cells (P.n*1)) 3 (0,0));refine(c138 (P':=⟨some ⟨g,0,none⟩,P.n,P.n⟩) (I:=Aj) (a:=0) (b:=0) (nm:=nm) (F:=F) (h.sub f) (Y.sub f) o (W.sub f)).call ⟨_,rfl,λk=>⟨λh=>absurd (show(1000:Int)<=(P.n:Int)from h) (by omega),λ_=>⟨λ_=>?_,λh=>absurd k h⟩⟩,λk=>⟨λh=>absurd h k,λ_=>?_⟩⟩;rotate_left;·rw[q];exact RefP.bad h f c k rfl
 have k:DJ d F ps a nm args=0:=k;have U:0<=F/\F<=1048576:=by
  grind[DJ]
 obtain⟨n,rfl⟩:∃n:Nat,F=(n:Int):=⟨F.toNat,by omega⟩;obtain⟨hv,hi,-,hc⟩:=vc_zero k;obtain⟨m,u,z,y,j,e,s⟩:=(h.sub f).mem hv;have i:=memS_pl s;have Gm:Am d m:=(X.mem hv).plain i;have J:AQ d m nm args=0:=by grind[Ij]
 refine⟨u,z,y,_,_,j,LB j,u,z,y,λE G=>?_⟩;have A:=Mem.sub_new G (.cells #[.int .i64 a] 3 (0,0));have r:=f.trans A;refine Tri.mono (c137 (F:=n) (pl:=⟨some ⟨E,0,none⟩,1,1⟩) (par:=[a]) (h.sub r) (Y.sub r) (e.sub A) Gm (W.sub r) J (by omega) (Gl _) t) ?_;rintro _ V4 ⟨K,O,S,Z,rfl⟩;refine⟨_,_,_,_,_,_,_,_,_,_,_,_,_,_,_,_,rfl,?_⟩;have L:Cp d (n:Int).toNat ps ⟨false,a,b,nm,l,args⟩=BP d n (AD d nm) args (AR m):=by
  unfold Cp Ha stM;simp only[Bool.false_eq_true,if_false,xv];rw[Ka i]
 rw[q];refine⟨r.trans K,O,S,?_,?_⟩;·rw[c,k,L];unfold Cg;rw[if_pos rfl];exact Z
 ·rw[c,k,L];rfl
theorem Ry(h:Dg V P M ps)(A:Ew d ps)(j:Ds.Ok V d)(hF:F<=4000∨1048576<F)(s:ps.length<=900):
  Tri xE 89 #[Fb d P M,.int .i64 a,.int .i64 b,.string nm,.int .i64 F] V (RefP V d ps F ⟨true,a,b,nm,l,args⟩):=by
 obtain⟨R,I⟩:∃R,R=RefP V d ps F ⟨true,a,b,nm,l,args⟩:=⟨_,rfl⟩;rw[<-I];refine Qo ?_;obtain⟨hPn,hMn⟩:=h.lens;have L:=h;have hs:BV d F ps ⟨true,a,b,nm,l,args⟩=DS d F ps a b nm:=rfl;have bad:∀{V':Mem}{er:Int}{e:Ending},V.sub V'->DS d F ps a b nm=er->er≠0->e=.returned (.tuple #[Fb d P M,.int .i64 0,.agg (Bo 0 0 0 0).toArray,.int .i64 er])->R e V':=λhs1 he h0 hh=>by
  rw[I];grind[RefP.bad]
 refine⟨λh1=>bad (Mem.sub.refl _) (by grind[DS]) (by decide) rfl,λh1=>⟨λh2=>bad (Mem.sub.refl _) (by grind[DS,inr]) (by decide) rfl,λh2=>?_⟩⟩;have h1:¬F<0:=h1;have h2:¬1048576<F:=h2;have hf:¬(F<0∨1048576<F):=by omega
 have nv:¬(BZ ps a/\BZ ps b)->DS d F ps a b nm=24:=λk=>by grind[DS]
 refine(c22 h).call ⟨_,rfl,λo=>(c22 h).call ⟨_,rfl,λc=>?_,λc=>bad (Mem.sub.refl _) (nv λk=>c (decide_eq_true k.2)) (by decide) rfl⟩,λo=>bad (Mem.sub.refl _) (nv λk=>o (decide_eq_true k.1)) (by decide) rfl⟩;have o:=of_decide_eq_true o;have c:=of_decide_eq_true c;have r:DS d F ps a b nm=if AD d nm<0 then 9 else if CE d (Ct d nm)=true then(if 4096<(BR d (A4 ps a) (A4 ps b)).2.length then 4 else 0)else 30:=by
  grind[DS]
 refine(c136 j).call ⟨_,rfl,λh3=>bad (Mem.sub.refl _) ?_ (by decide) rfl,λh3=>?_⟩;·grind[AD]
 have h3:¬AD d nm<0:=h3;rw[if_neg h3]at r;obtain⟨i,hi,v⟩:=Im h3;have hpn:=j.procs.n_eq;have hil:=(yw.1 v).1;obtain⟨y,X,hy,-,-,hp,hz,J⟩:=j.procs.get (i:=i) (by omega);rw[v]at hy;cases hy;have hI:Ck (λt:Pr=>decide (t.name=nm)) d.procs=(i:Int):=hi;rw[hI];refine⟨hp,hz,by omega,_,_,_,_,_,J,(OY j (j.procsOk _ X)).call ⟨_,rfl,λhm=>?_,λhm=>bad (Mem.sub.refl _) (by grind) (by decide) rfl⟩⟩;have hm:CE d (Ct d nm)=true:=hm;rw[if_pos hm]at r;obtain⟨f,g,gl,hm1,B,C,G⟩:=Lv hm;rw[C]at G;obtain⟨x,E,K,S,T,U,hx6⟩:=h.mem o;obtain⟨z,hz1,hz2,hz3,hz4,hz5,hz6⟩:=h.mem c;have Z:=memS_pl hx6;have Y:=memS_pl hz6;obtain⟨u1,u2⟩:=Nt (d:=d) Z Y;have Gx:=(A.mem o).plain Z;have Gz:=(A.mem c).plain Y;refine⟨E,K,S,_,_,T,hz1,hz2,hz3,_,_,hz4,Tri.mono (O1 j U hz5 Gx Gz B G) ?_⟩;rintro _ V5 ⟨s5,u,rfl,hu,W⟩;have hun:=hu.nodes.n_eq;have hul:(BR d (A4 ps a) (A4 ps b)).2.length=u.nodes.length:=by
  rw[u1,<-W];exact List.length_map ..
 rw[hul]at r;refine⟨_,_,_,rfl,λh=>absurd (show(1000:Int)<=(P.n:Int)from h) (by omega),λ_=>⟨λh=>bad s5 ?_ (by decide) rfl,λh=>?_⟩⟩;·omega
 have h4:¬(4096:Int)<(u.ns.n:Int):=h;rw[if_neg (by omega)]at r;obtain⟨n,rfl⟩:∃n:Nat,F=(n:Int):=⟨F.toNat,by omega⟩;obtain⟨-,-,GU,O,-,-⟩:=Lw A r;have q:(Cd (BR d (A4 ps a) (A4 ps b))).plain=u.plain:=by rw[EZ,W,u1]
 have Gu:=GU.plain q;rw[u2,Ij q]at O;intro tc htc te hte;have t1:=Mem.sub_new htc (.cells #[.int .i64 (Co d x z)] 3 (0,0));have t2:=Mem.sub_new hte (.cells #[.int .i64 a,.int .i64 b] 3 (0,0));have s7:=s5.trans (t1.trans t2);refine Tri.mono (c137 (m:=u) (nm:=nm) (args:=[Co d x z]) (l:=⟨some ⟨tc,0,none⟩,1,1⟩) (F:=n) (pl:=⟨some ⟨te,0,none⟩,2,2⟩) (par:=[a,b]) (L.sub s7) (j.sub s7) (hu.sub (t1.trans t2)) Gu ((Gl (V:=V5) (b:=tc) _).sub t2) O (by omega) (two_at a b) s) ?_;rintro _ V8 ⟨s8,P',M',hR',rfl⟩;refine⟨_,_,_,_,_,_,_,_,_,_,_,_,_,_,_,_,rfl,?_⟩;have e2:Cp d (n:Int).toNat ps ⟨true,a,b,nm,l,args⟩=BP d n (AD d nm) [Co d x z] (AR u):=by
  unfold Cp Ha stM;simp only[if_true,xv];rw[u2,Ka q]
 rw[I];refine⟨s7.trans s8,P',M',?_,?_⟩;·rw[hs,r,e2];unfold Cg;rw[if_pos rfl];exact hR'
 ·rw[hs,r,e2];rfl
theorem Rz{x:Sp}(h:Dg V P M ps)(O:Ew d ps)(A:Ds.Ok V d)(X:Ad V x.sl 1 (x.args.map Al))(I:F<=4000∨1048576<F)(g:ps.length<=900):
  Tri xE 57 #[Fb d P M,.agg #[.bool x.meld,.int .i64 x.a,.int .i64 x.b,.string x.nm,x.sl.v],.int .i64 F] V (RefP V d ps F x):=by
 obtain⟨mb,a,b,nm,l,args⟩:=x;obtain⟨R,L⟩:∃R,R=RefP V d ps F ⟨mb,a,b,nm,l,args⟩:=⟨_,rfl⟩;rw[<-L];refine PU ?_;have f:∀{e:Ending}{V':Mem},RefP V d ps F ⟨mb,a,b,nm,l,args⟩ e V'->∃(t:KB)(u z y j i m r q o:Sl)(c s J G Z Y W:Int),e=rT #[uA #[uS t,uL u,uL z,uL y,uL j,uL i,uL m,uL r,uL q,uL o],uI c,uA #[uI s,uI J,uI G,uI Z,uI Y],uI W]/\R (rT #[uA #[uS t,uL u,uL z,uL y,uL j,uL i,uL m,uL r,uL q,uL o],uI c,uA #[uI s,uI J,uI G,uI Z,uI Y],uI W]) V':=λk=>by
  obtain⟨B,C,E,K,rfl⟩:=k;obtain⟨a1,a2,a3,S,T,e⟩:=resO_form (BV d F ps ⟨mb,a,b,nm,l,args⟩) (Cp d F.toNat ps ⟨mb,a,b,nm,l,args⟩);rw[e];refine⟨_,_,_,_,_,_,_,_,_,_,_,_,_,_,_,_,_,rfl,?_⟩;rw[L];exact⟨B,C,E,K,by rw[e];rfl⟩
 refine⟨λh1=>?_,λh1=>?_⟩
 ·obtain rfl:mb=true:=h1;exact Tri.mono (Ry (l:=l) (args:=args) h O A I g) λe V' h=>f h
 ·obtain rfl:mb=false:=(vx _).mp h1;exact Tri.mono (Rw (b:=b) h O A X I g) λe V' h=>f h
theorem RA(t:Ds.Ok V d)(g:d.globals.length<=8):Tri xE 56 #[d.v] V λe V'=>V.sub V'/\∃P M:Sl,e=.returned (Fb d P M)/\Dg V' P M [⟨(Ch d Aj).plain,[],1⟩]:=by
 obtain⟨R,u⟩:∃R:Ending->Mem->Prop,R=λe V'=>V.sub V'/\∃P M:Sl,e=.returned (Fb d P M)/\Dg V' P M [⟨(Ch d Aj).plain,[],1⟩]:=⟨_,rfl⟩;rw[<-u];refine PT ?_;have one:∀{V1:Mem}{s:Sl},V.sub V1->Mm.Ok V1 (Ch d s)->∀b1,V1 b1=none->∀b2,(V1.set b1 (.cells #[.slice none 0 0] 43 (0,0))) b2=none->R (.returned (Fb d ⟨some ⟨b1,0,none⟩,1,1⟩ ⟨some ⟨b2,0,none⟩,1,1⟩)) ((V1.set b1 (.cells #[.slice none 0 0] 43 (0,0))).set b2 (.cells #[s.v,Aj.v] 49 (0,0))):=λ{V1 s} k hm b1 h1 b2 h2=>by
  have z:=Mem.sub_new h1 (.cells #[.slice none 0 0] 43 (0,0));have f:=Mem.sub_new h2 (.cells #[s.v,Aj.v] 49 (0,0));rw[u];refine⟨k.trans (z.trans f),_,_,rfl,[Aj],[Ch d s],?_,?_,rfl,rfl,λi q v h hv=>?_,λi q v h hv=>?_⟩;·exact(Ad.cells (xs:=[Aj]) (row:=slRow) Az rfl (λ_=>rfl) rfl (by simp)).sub f
  ·exact Ad.cells (xs:=[Ch d s]) (row:=Mm.row) Az rfl (λ_=>rfl) rfl (by simp)
  ·match i,h,hv with
   |0,h,hv=>cases h;cases hv;exact Ad.nil
   |i+1,h,hv=>cases h
  ·match i,h,hv with
   |0,h,hv=>cases h;cases hv;exact⟨hm.sub (z.trans f),rfl⟩
   |i+1,h,hv=>cases h
 refine⟨Tri.mono (Np t g) ?_,Tri.mono (Np t g) ?_⟩
 ·rintro _ V1 ⟨k,s,rfl,hm⟩;exact⟨_,_,rfl,λb1 h1 b2 h2=>one k hm b1 h1 b2 h2,λb1 h1 b2 h2=>one k hm b1 h1 b2 h2⟩
 ·rintro _ V1 ⟨k,s,rfl,hm⟩;exact⟨_,_,rfl,λb1 h1 b2 h2=>one k hm b1 h1 b2 h2⟩
end
def Sp.row(x:Sp):List Value:=[.bool x.meld,.int .i64 x.a,.int .i64 x.b,.string x.nm,x.sl.v]
structure HH (V:Mem)(l:Sl)(xs:List Sp):Prop where
 rows:Ad V l 5 (xs.map Sp.row)
 args:∀x∈xs,Ad V x.sl 1 (x.args.map Al)
theorem HH.sub{V V':Mem}{l:Sl}{xs:List Sp}(h:HH V l xs)(s:V.sub V'):HH V' l xs:=⟨h.rows.sub s,λx k=>(h.args x k).sub s⟩
def RB:Value:=.agg #[Go.Sx.vS (Ac []),Aj.v,Aj.v,Aj.v,Aj.v,Aj.v,Aj.v,Aj.v,Aj.v,Aj.v]
section
variable{V D:Mem}{d:Ds}{p:Nat}{ps:List PV}
theorem CF.gv(h:CF D V p d ps):Ew d ps:=by
 obtain⟨vs,k,rfl,H⟩:=h;exact H.inv.gv
theorem CF.sub(h:CF D V p d ps):D.sub V:=by
 obtain⟨vs,k,rfl,H⟩:=h;exact H.bs.sub
theorem CF.run{P:Program}{f:FuncId}{args:Array Value}{R:Ending->Mem->Prop}(h:CF D V p d ps)(H:∀U,D.sub U->Tri P f args U λe t=>U.sub t/\R e t):
  Tri P f args V λe V'=>∃g,D.sub g/\R e g/\CF g V' p d ps:=by
 obtain⟨vs,k,rfl,K⟩:=h;refine Tri.mono (K.bs.run H) ?_;rintro e V' ⟨g,h1,h2,h3⟩;exact⟨g,h1,h2,vs,k,rfl,λv hv=>(K.ok v hv).sub h1,K.inv,h3⟩
theorem CF.new{D V:Mem}{v:Vr}(G:Am d (Ch d Aj))(hv:Vr.Ok D v)(h:v.pv=⟨(Ch d Aj).plain,[],1⟩)(g:v.cells=[])(B:A0 D V (Cu p d [v] 0)):CF D V p d [⟨(Ch d Aj).plain,[],1⟩]:=by
 have h1:v.m.plain=(Ch d Aj).plain:=congrArg PV.m h;have h2:v.m.nodes.length=0:=by
  simp_all[congrArg,List,Int,Mm.plain,Ch]
 refine⟨[v],0,by simp_all,λw hw=>by simp_all,⟨⟨λw hw=>?_,λw hw=>?_,λw hw q f=>?_,by simp⟩,λw hw=>?_,λw hw=>?_,λw hw=>?_,λw hw c k=>?_,Int.le_refl _,by simp⟩,B⟩
 ·rw[ve,h]at hw;rw[zO.1 hw];exact G.plain (EZ _).symm
 ·grind[maxI]
 ·simp_all
 ·rw[zO.1 hw];exact G.plain h1.symm
 ·simp_all
 ·simp_all
 simp_all
theorem next_ne{r:Rx Int}{par:List Int}{er:Int}(h:ps≠[]):Cg d r ps par er≠[]/\ps.length<=(Cg d r ps par er).length/\(Cg d r ps par er).length<=ps.length+1:=by
 grind[Cg,runV]
theorem good_iff:decide (C8 d (Ch d Aj) 0=0)=true↔Am d (Ch d Aj):=by
 grind[C8]
end
end Go.Proofs
namespace Go.Proofs.YtejinebghgaigaaGreatDoor
open Go Go.Sx Go.Proofs Go.ChangeShapes Go.WideShapes Go.ChangeAt Go.RowKit
section
variable{H:Type}{enc:TypeId×Value->H}{w:World}
theorem clB1:xE.cellsOf 4=1:=by kernel_rfl
theorem gB{m:Nat}{v:Value}(h:∃y,TR enc w m 4 [v]=some y):∃b:Bool,v=.bool b:=by
 obtain⟨y,k⟩:=h;have k:DataW.trod enc xE w 0 (λ_=>true) true m 4 [v]=some y:=k;obtain⟨b,e,-⟩:=DataW.trod_bool Tryz.underlying4 k;exact⟨b,by simpa using e⟩
theorem clSp:xE.cellsOf 88=5:=by kernel_rfl
theorem rdSp{n:Nat}{cs:List Value}{x:DataW H×List MemPlace}(h:TR enc w n 88 cs=some x):∃f:Sp,Sp.row f=cs/\Ad (BM w) f.sl 1 (f.args.map Al):=by
 obtain⟨q,m,-,k⟩:=Fp Tryz.underlying88 h;obtain⟨a,d,e,f,g,rfl⟩:=len5 (q.trans clSp);obtain⟨t,rfl⟩:=gB (at1 (k 0 _ rfl) clB1 rfl);obtain⟨i,rfl,-⟩:=gI (at1 (k 1 _ rfl) Ik rfl);obtain⟨j,rfl,-⟩:=gI (at1 (k 2 _ rfl) Ik rfl);obtain⟨y,u⟩:=k 3 _ rfl;change TR enc w m 45 (([Value.bool t,xe .i64 i,xe .i64 j,f,g].drop 3).take (xE.cellsOf 45))=some y at u;rw[clCl]at u;obtain⟨nm,l,xs,r,z⟩:=rdCl u;simp only[List.drop_succ_cons,List.drop_zero,List.take_succ_cons,vG,yD,and_true]at r;obtain⟨rfl,rfl⟩:=r;exact⟨⟨t,i,j,nm,l,xs⟩,rfl,z⟩
end
set_option maxRecDepth 100000 in
theorem sps_of{H:Type}{enc:TypeId×Value->H}{W g:World}{r:Reach}{b0:Nat}{v:Value}{f:DataW H}{p:List MemPlace}(k:Value.okWide xE g r b0 58 v)(h:DataW.Trod enc xE W 0 (λ_=>true) true 58 v f p):∃(l:Sl)(cs:List Sp),v=l.v/\HH (BM W) l cs:=by
 obtain⟨a,len,cap,rfl⟩:=okWide_slice vd k;obtain⟨fuel,h⟩:=h;have h:∃y,TR enc W fuel 58 [.slice a len cap]=some y:=⟨_,h⟩;obtain⟨s,cs,t,u,z⟩:=EY (row:=Sp.row) (ok:=λc:Sp=>Ad (BM W) c.sl 1 (c.args.map Al)) vd clSp (by decide) (λ_=>rfl) (λi _ cs x j=>rdSp j) h;exact⟨s,cs,t,u,z⟩
end Go.Proofs.YtejinebghgaigaaGreatDoor
namespace Go.Sx
open Go
section
variable{P:Program}{n:Nat}{ops:Array Oper}{Q:Exit->Act->World->Prop}
theorem O2{F:Fence}{i:Nat}{o:Oper}{a:Act}{w:World}{K:Act->World->Prop}(u:ops[i]?=some o)(z:o.guard=none)(h:wpOpIn F n P ops Q i K a w):wpOpIn F n P ops Q i (λt w'=>(∃v,t.tmps=(a.put o.dst v).tmps)/\K t w') a w:=by
 unfold wpOpIn at*
 simp only[u]at*
 have hw:=Ii (ops:=ops) (a:=a) z;rw[if_pos hw]at h⊢;unfold Oper.wpIn at*
 refine⟨h.1,?_⟩;have h:=h.2;generalize(o.semAt F.round a.eval).run P w=r at*
 have k:∀(ds:List Deferred)(v:Value),(({a with defers:=ds}:Act).put o.dst v).tmps=(a.put o.dst v).tmps:=λds v=>by
  cases o.dst<;>rfl
 cases r with
 |ok x w'=>
  cases x<;>simp only[wm]at h⊢<;>
   first
    |exact⟨⟨_,rfl⟩,h⟩
    |exact⟨⟨_,k _ _⟩,h⟩
    |exact⟨h.1,vc h.2 (λe f g=>by cases e<;>first|exact⟨⟨_,rfl⟩,g⟩|exact g)⟩
    |exact⟨h.1,RowsIn.mono h.2 (λ_ _ g=>⟨⟨_,rfl⟩,g⟩)⟩
    |exact⟨h.1,vb h.2 (λe f g=>by cases e<;>first|exact⟨⟨_,rfl⟩,g⟩|exact g)⟩
    |exact h
 |halt x w'=>cases x<;>simp only[wm]at h⊢<;>exact h
theorem O3{F:Fence}{i:Nat}{o:Oper}{a:Act}{w:World}{K u:Act->World->Prop}{g:Exit->Act->World->Prop}(y:ops[i]?=some o)(j:o.guard=none)(h:wpOpIn F n P ops g i K a w)(f:∀m a w,¬g (.panic m) a w)(z:¬LetsOut g)(hK:∀a w,K a w->u a w):
  wpOpIn F n P ops Q i u a w:=by
 unfold wpOpIn at*
 simp only[y]at*
 have hw:=Ii (ops:=ops) (a:=a) j;rw[if_pos hw]at h⊢;unfold Oper.wpIn at*
 refine⟨h.1,?_⟩;have h:=h.2;generalize(o.semAt F.round a.eval).run P w=r at*
 cases r with
 |ok x w'=>
  cases x<;>simp only[wm]at h⊢<;>
   first
    |exact hK _ _ h
    |exact⟨h.1,vc h.2 (λe t k=>by cases e<;>first|exact hK _ _ k|exact(f _ _ _ k).elim|exact(z k).elim)⟩
    |exact⟨h.1,RowsIn.mono h.2 (λ_ _ k=>hK _ _ k)⟩
    |exact⟨h.1,vb h.2 (λe t k=>by cases e<;>first|exact hK _ _ k|exact(f _ _ _ k).elim|exact(z k).elim)⟩
    |exact h
 |halt x w'=>
  cases x<;>simp only[wm]at h⊢;all_goals first|exact(f _ _ _ h).elim|exact h
def HI(ops:Array Oper)(i:Nat):List Nat:=((ops[i]?).map λo=>(o.after.toList.filter (yQ .any)).map (·.on)).getD []
def anyOk(ops:Array Oper)(M k0:Nat)(deps:Nat->List Nat):Bool:=
 decide (ops.size=M+1)&&decide ((ops[M]?).map (·.dst)=some none)&&(zB M).all (λi=>decide ((ops[i]?).map (·.dst)=some (some (k0+i))))&&(zB (M+1)).all (λi=>((ops[i]?).map λo=>o.guard.isNone).getD false&&(HI ops i).all (λj=>decide (j<i))&&(deps i).all λj=>decide (j∈HI ops i)) &&
  (zB M).all λj=>(zB (M+1)).any λi=>decide (j<i)&&decide (j∈HI ops i)
theorem O4{ops:Array Oper}{listed:Array Bool}{i:Nat}(h:i∈yY .any ops listed):i<ops.size/\listed.getD i true=false/\∀j∈HI ops i,listed.getD j false=true:=by
 unfold yY at h;rw[yZ,yX,zC]at h;refine⟨h.1,by simpa using h.2.1,λj k=>?_⟩;unfold HI at k;have h2:=h.2.2;cases g:ops[i]? with
 |none=>rw[g]at k;simp at k
 |some o=>
  rw[g]at k h2;simp only[zJ,xX,List.mem_map,yZ,uC,wF]at k h2;obtain⟨e,⟨f,t⟩,rfl⟩:=k;have:=h2 e f;rw[t]at this;simpa using this
theorem ready_in{ops:Array Oper}{listed:Array Bool}{i:Nat}(hi:i<ops.size)(h1:listed.getD i true=false)(h2:∀j∈HI ops i,listed.getD j false=true):i∈yY .any ops listed:=by
 unfold yY;rw[yZ,yX,zC];refine⟨hi,by simp[h1],?_⟩;have h:ops[i]?=some ops[i]:=Array.getElem?_eq_getElem hi;unfold HI at h2;rw[h]at h2⊢;simp only[zJ,xX,List.mem_map,yZ,uC,wF]at h2⊢;intro e k;cases g:yQ .any e with
 |false=>rfl
 |true=>simpa using h2 e.on ⟨e,⟨k,g⟩,rfl⟩
theorem LD{l:Array Bool}{i:Nat}(hi:i<l.size)(a b:Bool):l.getD i a=l.getD i b:=by simp[z6,hi]
def unl(listed:Array Bool)(M:Nat):Nat:=((zB M).filter λi=>!listed.getD i true).length
theorem filt_le{α:Type}{p q:α->Bool}:∀{l:List α},(∀a∈l,q a=true->p a=true)->(l.filter q).length<=(l.filter p).length
 |[],_=>yU _
 |a::l,h=>by
  have k:=filt_le (l:=l) λx g=>h x (zb _ g);have f:=h a zc;rw[z7,z7];cases t:q a with
  |true=>rw[f t];simpa using k
  |false=>
   cases u:p a with
   |true=>simp;omega
   |false=>simpa using k
theorem filt_lt{α:Type}{p q:α->Bool}:∀{l:List α},(∀a∈l,q a=true->p a=true)->∀a∈l,p a=true->q a=false->(l.filter q).length<(l.filter p).length
 |[],_,a,k,_,_=>by cases k
 |b::l,h,a,k,f,t=>by
  have u:∀x∈l,q x=true->p x=true:=λx y=>h x (zb _ y);rw[z7,z7];rcases List.mem_cons.1 k with rfl|hm
  ·rw[f,t];have:=filt_le u;simp;omega
  ·have z:=filt_lt u a hm f t;have j:=h b zc;cases g:q b with
   |true=>rw[j g];simpa using z
   |false=>
    cases i:p b with
    |true=>simp;omega
    |false=>simpa using z
theorem unl_set{listed:Array Bool}{M i:Nat}(hi:i<M)(f:listed.size=M)(h:listed.getD i true=false):unl (listed.setIfInBounds i true) M<unl listed M:=by
 have h1:(listed.setIfInBounds i true).getD i true=true:=by simp[z6,f,hi]
 refine filt_lt (λj _ k=>?_) i (yX.2 hi) (by rw[h];rfl) (by rw[h1];rfl);by_cases g:j=i;·subst g;rw[h1]at k;cases k
 ·have:(listed.setIfInBounds i true).getD j true=listed.getD j true:=by
   simp[wT,uE (Ne.symm g)]
  rw[this]at k;exact k
theorem unl_zero{listed:Array Bool}{M:Nat}(k:listed.size=M)(h:unl listed M=0):∀i,i<M->listed.getD i false=true:=λi hi=>by
 unfold unl at h;have:=List.eq_nil_of_length_eq_zero h;rw[List.filter_eq_nil_iff]at this;have:=this i (yX.2 hi);rw[LD (by omega) false true];simpa using this
section
variable{M k0 N:Nat}{deps:Nat->List Nat}{Pr:Nat->Value->Mem->Prop}{Φ:Mem->Prop}{V:Mem}{base:List (Nat×Value)}{a0:Act}{w0:World}
theorem anyR_sound(chk:anyOk ops M k0 deps=true)(mono:∀i v V1 V2,V1.sub V2->Pr i v V1->Pr i v V2)(C:∀s v,base.lookup s=some v->s<k0)
  (hN:k0+M<=N)
  (E:∀i,i<M->∀V1,V.sub V1->∀val:Nat->Value,(∀j∈deps i,Pr j (val j) V1)->∃t,(∀s v,t.lookup s=some v->base.lookup s=some v∨∃j∈deps i,s=k0+j/\v=val j)/\Ay P N ops i 1 t [k0+i] V1 λvs V2=>∃v,vs=[v]/\V1.sub V2/\Pr i v V2)
  (K:∀V1,V.sub V1->∀val:Nat->Value,(∀j∈deps M,Pr j (val j) V1)->∃t,(∀s v,t.lookup s=some v->base.lookup s=some v∨∃j∈deps M,s=k0+j/\v=val j)/\Ay P N ops M 1 t [] V1 λ_ V2=>Φ V2)
  (hQ:∀W w' V',W.defers=a0.defers->Has N W base->Φ V'->Ax V w0 V' w'->Q .normal W w'):
  ∀(fuel:Nat)(listed:Array Bool)(a:Act)(w:World),listed.size=M+1->unl listed (M+1)<=fuel->
   ((∃V1,V.sub V1/\Ax V w0 V1 w/\a.defers=a0.defers/\Has N a base/\listed.getD M false=false/\(∀i,i<M->listed.getD i false=true->Pr i (a.tmps.getD (k0+i) undef) V1)/\∀i,i<M->listed.getD i false=true->∀j∈HI ops i,listed.getD j false=true)∨((∀i,i<M+1->listed.getD i false=true)/\Q .normal a w))->
   wpAnyIn (AM none) n P .any ops Q fuel listed a w:=by
 unfold anyOk at chk;simp only[zC,decide_eq_true_eq,List.all_eq_true,yX,List.any_eq_true]at chk;obtain⟨⟨⟨⟨c1,c0⟩,c2⟩,c3⟩,c4⟩:=chk;have op:∀i,i<M+1->∃o,ops[i]?=some o/\o.guard=none:=λi hi=>by
  have:=(c3 i hi).1.1;cases O:ops[i]? with
  |none=>rw[O]at this;cases this
  |some o=>
   rw[O]at this;refine⟨o,rfl,?_⟩;cases hg:o.guard with
   |none=>rfl
   |some g=>simp[hg]at this
 have m:∀listed:Array Bool,listed.size=M+1->yY .any ops listed=[]->∀i,i<M+1->listed.getD i false=true:=λlisted S hr i=>by
  induction i using Nat.strongRecOn with
  |ind i ih=>
   intro hi;cases h:listed.getD i false with
   |true=>rfl
   |false=>
    have:i∈yY .any ops listed:=ready_in (by omega) (by rw[LD (by omega) true false];exact h) λj c=>by
     have z:=(c3 i hi).1.2 j c;exact ih j z (by omega)
    rw[hr]at this;cases this
 intro fuel;induction fuel with
 |zero=>
  intro listed a w S hu hI;have y:=unl_zero S (by omega);rw[wpAnyIn];rcases hI with⟨V1,-,-,-,-,T,-⟩|⟨-,hq⟩;·rw[y M (by omega)]at T;cases T
  ·refine⟨?_,hq⟩;cases hr:yY .any ops listed with
   |nil=>rfl
   |cons i l=>
    obtain⟨h1,h2,-⟩:=O4 (hr▸zc:i∈yY .any ops listed);rw[LD (by omega) true false,y i (by omega)]at h2;cases h2
 |succ fuel ih=>
  intro listed a w S hu hI;rw[wpAnyIn];refine⟨λhr=>?_,λi hi=>?_⟩
  ·rcases hI with⟨V1,-,-,-,-,T,-⟩|⟨-,hq⟩;·rw[m listed S hr M (by omega)]at T;cases T
   ·exact hq
  ·obtain⟨h1,h2,h3⟩:=O4 hi;have r:i<M+1:=by omega
   rcases hI with⟨V1,e,hF,hdf,hH,T,hP,hC⟩|⟨y,-⟩;rotate_left;·rw[LD (by omega) true false,y i r]at h2;cases h2
   obtain⟨o,O,hg⟩:=op i r;have hs':(listed.setIfInBounds i true).size=M+1:=by simp[S]
   have hu':unl (listed.setIfInBounds i true) (M+1)<=fuel:=by have:=unl_set r S h2;omega
   have q:(listed.setIfInBounds i true).getD i false=true:=by simp[z6,S,r]
   have f:∀j,j≠i->(listed.setIfInBounds i true).getD j false=listed.getD j false:=λj c=>by
    simp[wT,uE (Ne.symm c)]
   have U:∀j∈deps i,j<i/\listed.getD j false=true:=λj c=>⟨(c3 i r).1.2 j ((c3 i r).2 j c),h3 j ((c3 i r).2 j c)⟩;have L:∀j∈deps i,Pr j (a.tmps.getD (k0+j) undef) V1:=λj c=>by
    have:=U j c;exact hP j (by omega) this.2
   have hin:∀(t:List (Nat×Value)),(∀s v,t.lookup s=some v->base.lookup s=some v∨∃j∈deps i,s=k0+j/\v=a.tmps.getD (k0+j) undef)->∀s v,t.lookup s=some v->a.tmps.getD s undef=v:=λt h s v hl=>by
    rcases h s v hl with h|⟨j,-,rfl,rfl⟩;·exact hH.2 s v h
    ·rfl
   by_cases A:i<M
   ·obtain⟨t,J,G⟩:=E i A V1 e (λj=>a.tmps.getD (k0+j) undef) L;have hw:=G none n a w hF.le hH.1 (hin t J);rw[show List.range' i 1=[i]from rfl,wpOpsIn_cons]at hw;have Z:o.dst=some (k0+i):=by have:=c2 i A;rw[O]at this;simpa using this
    have hfin:wpOpIn (AM none) n P ops Q i (wpAnyIn (AM none) n P .any ops Q fuel (listed.setIfInBounds i true)) a w:=by
     refine O3 O hg (O2 O hg hw) (λ_ _ _ h=>by cases h.1) (λh=>by obtain⟨_,_,h,_⟩:=h;cases h) ?_;rintro W w' ⟨⟨v,hv⟩,-,hd',hs2,vs,V2,hlook,⟨u,rfl,Y,hPu⟩,hF2⟩;rw[Z]at hv;have X:∀s,s≠k0+i->W.tmps.getD s undef=a.tmps.getD s undef:=λs hne=>by
      rw[hv];simp[Act.put,wT,uE (Ne.symm hne)]
     refine ih _ W w' hs' hu' (.inl ⟨V2,e.trans Y,hF.trans hF2,hd'.trans hdf,⟨hs2,λs v I=>?_⟩,?_,λj c hl=>?_,λj c hl k hk=>?_⟩);·rw[X s (by have:=C s v I;omega)];exact hH.2 s v I
     ·rw[f M (by omega)];exact T
     ·by_cases z:j=i
      ·subst z;have:=hlook (k0+j) u (by simp);rw[this];exact hPu
      ·rw[X (k0+j) (by omega)];rw[f j z]at hl;exact mono _ _ _ _ Y (hP j c hl)
     ·by_cases z:j=i
      ·subst z;by_cases hkj:k=j;·rw[hkj];exact q
       ·rw[f k hkj];exact h3 k hk
      ·rw[f j z]at hl;by_cases hki:k=i;·rw[hki];exact q
       ·rw[f k hki];exact hC j c hl k hk
    exact hfin
   ·have A:i=M:=by omega
    subst A;have y:∀k,k<=i->∀j,i-k<=j->j<i->listed.getD j false=true:=λk=>by
     induction k with
     |zero=>intro _ j h4 h5;omega
     |succ k ihk=>
      intro hk j h4 h5;obtain⟨b,hb1,hb2,hb3⟩:=c4 j h5;by_cases hbi:b=i;·subst hbi;exact h3 j hb3
      ·exact hC b (by omega) (ihk (by omega) b (by omega) (by omega)) j hb3
    obtain⟨t,J,G⟩:=K V1 e (λj=>a.tmps.getD (k0+j) undef) L;have hw:=G none n a w hF.le hH.1 (hin t J);rw[show List.range' i 1=[i]from rfl,wpOpsIn_cons]at hw;have Z:o.dst=none:=by rw[O]at c0;simpa using c0
    refine O3 O hg (O2 O hg hw) (λ_ _ _ h=>by cases h.1) (λh=>by obtain⟨_,_,h,_⟩:=h;cases h) ?_;rintro W w' ⟨⟨u,B⟩,-,hd',hs2,vs,V2,-,hΦ,hF2⟩;rw[Z]at B;have hu3:W.tmps=a.tmps:=B;refine ih _ W w' hs' hu' (.inr ⟨λj c=>?_,hQ W w' V2 (hd'.trans hdf) ⟨by rw[hu3];exact hH.1,λs v I=>by rw[hu3];exact hH.2 s v I⟩ hΦ (hF.trans hF2)⟩);by_cases z:j=i;·rw[z];exact q
    ·rw[f j z];exact y i (yU _) j (by omega) (by omega)
end
end
end Go.Sx
namespace Go.Proofs
open Go Go.Sx
set_option maxRecDepth 100000
section
variable{V:Mem}{R:RP}
noncomputable def c11a:List Code:=((Bi (AN Tryz.f11) []).drop 0).take 6
def w11a:MR:=λV R=>Ag [uS (Ac []),z0,z0,z0,z0,z0,z0,z0] 35 V λa V1=>Ag [.func (.func 39) #[] #[]] 105 V1 λb V2=>Ag [uS (Ac [99]),uS (Ac [67])] 112 V2 λc h=>R (rT #[uP (Aa a 0),uP (Aa b 0),.func (.func 40) #[] #[uP (Aa b 0)],.func (.func 41) #[] #[],.func (.func 42) #[] #[],.slice (Aa c 0) 1 1]) h
theorem s11a{V:Mem}{R:KZ}(h:w11a V (OV R)):Bb xE 77 c11a [] [0,1,2,3,4,5] V R:=
 CU (H:=hK 77) [] [] rfl (by kernel_rfl) h
noncomputable def AH:Array Oper:=Eg ((Bi (AN Tryz.f11) []).getD 6 .skip)
def w11o0:MR:=λV R=>R (rT #[uA #[uS (Ac [110]),uS (Ac [105,110,116])]]) V
theorem s11o0{V:Mem}{R:KZ}(h:w11o0 V (OV R)):Ay xE 77 AH 0 1 [] [9] V R:=
 AE (H:=hK 77) [] [] rfl (by kernel_rfl) h
def w11o1:MR:=λV R=>R (rT #[uA #[uS (Ac [110,101,120,116]),uS (Ac [67])]]) V
theorem s11o1{V:Mem}{R:KZ}(h:w11o1 V (OV R)):Ay xE 77 AH 1 1 [] [10] V R:=
 AE (H:=hK 77) [] [] rfl (by kernel_rfl) h
def w11o2(a b c d:KB):MR:=λV R=>Ag [uS a,uS b,uS c,uS d] 112 V λg V1=>R (rT #[.slice (Aa g 0) 2 2]) V1
theorem s11o2{a b c d:KB}{V:Mem}{R:KZ}(h:w11o2 a b c d V (OV R)):Ay xE 77 AH 2 1 [(9,uA #[uS a,uS b]),(10,uA #[uS c,uS d])] [11] V R:=
 AE (H:=hK 77) [(9,(.agg (.cons (.var .s 0) (.cons (.var .s 1) .nil)))),(10,(.agg (.cons (.var .s 2) (.cons (.var .s 3) .nil))))] [uS a,uS b,uS c,uS d] rfl (by kernel_rfl) h
def w11o3(a:Sl):MR:=λV R=>R (rT #[uA #[uS (Ac [67]),uL a]]) V
theorem s11o3{a:Sl}{V:Mem}{R:KZ}(h:w11o3 a V (OV R)):Ay xE 77 AH 3 1 [(11,uL a)] [12] V R:=
 AE (H:=hK 77) [(11,(.var .sl 0))] [uL a] rfl (by kernel_rfl) h
def w11o4(a:KB)(b:Sl):MR:=λV R=>Ag [uS a,uL b] 114 V λc V1=>R (rT #[.slice (Aa c 0) 1 1]) V1
theorem s11o4{a:KB}{b:Sl}{V:Mem}{R:KZ}(h:w11o4 a b V (OV R)):Ay xE 77 AH 4 1 [(12,uA #[uS a,uL b])] [13] V R:=
 AE (H:=hK 77) [(12,(.agg (.cons (.var .s 0) (.cons (.var .sl 1) .nil))))] [uS a,uL b] rfl (by kernel_rfl) h
def w11o5:MR:=λV R=>R (rT #[uA #[uS (Ac [102,105,114,115,116]),uS (Ac [67])]]) V
theorem s11o5{V:Mem}{R:KZ}(h:w11o5 V (OV R)):Ay xE 77 AH 5 1 [] [14] V R:=
 AE (H:=hK 77) [] [] rfl (by kernel_rfl) h
def w11o6(a b:KB):MR:=λV R=>Ag [uS a,uS b] 112 V λc V1=>R (rT #[.slice (Aa c 0) 1 1]) V1
theorem s11o6{a b:KB}{V:Mem}{R:KZ}(h:w11o6 a b V (OV R)):Ay xE 77 AH 6 1 [(14,uA #[uS a,uS b])] [15] V R:=
 AE (H:=hK 77) [(14,(.agg (.cons (.var .s 0) (.cons (.var .s 1) .nil))))] [uS a,uS b] rfl (by kernel_rfl) h
def w11o7:MR:=λV R=>R (rT #[uA #[uS (Ac [107]),uS (Ac [105,110,116])]]) V
theorem s11o7{V:Mem}{R:KZ}(h:w11o7 V (OV R)):Ay xE 77 AH 7 1 [] [16] V R:=
 AE (H:=hK 77) [] [] rfl (by kernel_rfl) h
def w11o8(a b:KB):MR:=λV R=>Ag [uS a,uS b] 112 V λc V1=>R (rT #[.slice (Aa c 0) 1 1]) V1
theorem s11o8{a b:KB}{V:Mem}{R:KZ}(h:w11o8 a b V (OV R)):Ay xE 77 AH 8 1 [(16,uA #[uS a,uS b])] [17] V R:=
 AE (H:=hK 77) [(16,(.agg (.cons (.var .s 0) (.cons (.var .s 1) .nil))))] [uS a,uS b] rfl (by kernel_rfl) h
def w11o9(a:Sl):MR:=λV R=>R (rT #[uL a]) V
theorem s11o9{a:Sl}{V:Mem}{R:KZ}(h:w11o9 a V (OV R)):Ay xE 77 AH 9 1 [(5,uL a)] [18] V R:=
 AE (H:=hK 77) [(5,(.var .sl 0))] [uL a] rfl (by kernel_rfl) h
def w11o10(a:Value):MR:=λV R=>R (rT #[K.cast .f a]) V
theorem s11o10{a:Value}{V:Mem}{R:KZ}(h:w11o10 a V (OV R)):Ay xE 77 AH 10 1 [(3,K.cast .f a)] [19] V R:=
 AE (H:=hK 77) [(3,(.var .f 0))] [a] rfl (by kernel_rfl) h
def w11o11(a:Option Addr):MR:=λV R=>∃b,K.f.ok b/\V.rowp a ((0:Int).toNat*1) 1=some [b]/\R (rT #[K.cast .f b]) V
theorem s11o11{a:Option Addr}{V:Mem}{R:KZ}(h:w11o11 a V (OV R)):Ay xE 77 AH 11 1 [(1,uP a)] [20] V R:=
 AE (H:=hK 77) [(1,(.var .p 0))] [uP a] rfl (by kernel_rfl) h
def w11o12(a:Value):MR:=λV R=>∃f first h,K.cast .f a=.func (.func f) first h/\CO f/\TT f (first++#[uI 6,uS (Ac [67]),z0]++h) V λe V1=>∃b c d g,e=rV (uA #[uI b,uI c,uS d,uL g])/\R (rT #[uA #[uI b,uI c,uS d,uL g]]) V1
theorem s11o12{a:Value}{V:Mem}{R:KZ}(h:w11o12 a V (OV R)):Ay xE 77 AH 12 1 [(20,K.cast .f a)] [21] V R:=
 AE (H:=hK 77) [(20,(.var .f 0))] [a] rfl (by kernel_rfl) h
def w11o13(a:Value)(b c:Int)(d:KB)(g:Sl):MR:=λV R=>∃f first h,K.cast .f a=.func (.func f) first h/\CO f/\TT f (first++#[uS (Ac [99]),uA #[uI b,uI c,uS d,uL g]]++h) V λe V1=>∃i j k l o,e=rV (uA #[uI i,uS j,uL k,uL l,uL o])/\R (rT #[uA #[uI i,uS j,uL k,uL l,uL o]]) V1
theorem s11o13{a:Value}{b c:Int}{d:KB}{g:Sl}{V:Mem}{R:KZ}(h:w11o13 a b c d g V (OV R)):Ay xE 77 AH 13 1 [(19,K.cast .f a),(21,uA #[uI b,uI c,uS d,uL g])] [22] V R:=
 AE (H:=hK 77) [(19,(.var .f 0)),(21,(.agg (.cons (.var (.i .i64) 1) (.cons (.var (.i .i64) 2) (.cons (.var .s 3) (.cons (.var .sl 4) .nil))))))] [a,uI b,uI c,uS d,uL g] rfl (by kernel_rfl) h
def w11o14(a:Value):MR:=λV R=>R (rT #[K.cast .f a]) V
theorem s11o14{a:Value}{V:Mem}{R:KZ}(h:w11o14 a V (OV R)):Ay xE 77 AH 14 1 [(4,K.cast .f a)] [23] V R:=
 AE (H:=hK 77) [(4,(.var .f 0))] [a] rfl (by kernel_rfl) h
def w11o15(a:Value):MR:=λV R=>R (rT #[K.cast .f a]) V
theorem s11o15{a:Value}{V:Mem}{R:KZ}(h:w11o15 a V (OV R)):Ay xE 77 AH 15 1 [(2,K.cast .f a)] [24] V R:=
 AE (H:=hK 77) [(2,(.var .f 0))] [a] rfl (by kernel_rfl) h
def w11o16(a:Value):MR:=λV R=>∃f first h,K.cast .f a=.func (.func f) first h/\CO f/\TT f (first++#[uS (Ac [99])]++h) V λe V1=>∃b c d g,e=rV (uA #[uI b,uI c,uS d,uL g])/\R (rT #[uA #[uI b,uI c,uS d,uL g]]) V1
theorem s11o16{a:Value}{V:Mem}{R:KZ}(h:w11o16 a V (OV R)):Ay xE 77 AH 16 1 [(24,K.cast .f a)] [25] V R:=
 AE (H:=hK 77) [(24,(.var .f 0))] [a] rfl (by kernel_rfl) h
def w11o17(a:Value):MR:=λV R=>R (rT #[K.cast .f a]) V
theorem s11o17{a:Value}{V:Mem}{R:KZ}(h:w11o17 a V (OV R)):Ay xE 77 AH 17 1 [(2,K.cast .f a)] [26] V R:=
 AE (H:=hK 77) [(2,(.var .f 0))] [a] rfl (by kernel_rfl) h
def w11o18(a:Value):MR:=λV R=>∃f first h,K.cast .f a=.func (.func f) first h/\CO f/\TT f (first++#[uS (Ac [107])]++h) V λe V1=>∃b c d g,e=rV (uA #[uI b,uI c,uS d,uL g])/\R (rT #[uA #[uI b,uI c,uS d,uL g]]) V1
theorem s11o18{a:Value}{V:Mem}{R:KZ}(h:w11o18 a V (OV R)):Ay xE 77 AH 18 1 [(26,K.cast .f a)] [27] V R:=
 AE (H:=hK 77) [(26,(.var .f 0))] [a] rfl (by kernel_rfl) h
def w11o19(a:Value)(b c:Int)(d:KB)(g:Sl)(i j:Int)(k:KB)(l:Sl):MR:=λV R=>∃f first h,K.cast .f a=.func (.func f) first h/\CO f/\TT f (first++#[uS (Ac [110]),uA #[uI b,uI c,uS d,uL g],uA #[uI i,uI j,uS k,uL l]]++h) V λe V1=>∃o p q r s,e=rV (uA #[uI o,uS p,uL q,uL r,uL s])/\R (rT #[uA #[uI o,uS p,uL q,uL r,uL s]]) V1
theorem s11o19{a:Value}{b c:Int}{d:KB}{g:Sl}{i j:Int}{k:KB}{l:Sl}{V:Mem}{R:KZ}(h:w11o19 a b c d g i j k l V (OV R)):Ay xE 77 AH 19 1 [(23,K.cast .f a),(25,uA #[uI b,uI c,uS d,uL g]),(27,uA #[uI i,uI j,uS k,uL l])] [28] V R:=
 AE (H:=hK 77) [(23,(.var .f 0)),(25,(.agg (.cons (.var (.i .i64) 1) (.cons (.var (.i .i64) 2) (.cons (.var .s 3) (.cons (.var .sl 4) .nil)))))),(27,(.agg (.cons (.var (.i .i64) 5) (.cons (.var (.i .i64) 6) (.cons (.var .s 7) (.cons (.var .sl 8) .nil))))))] [a,uI b,uI c,uS d,uL g,uI i,uI j,uS k,uL l] rfl (by kernel_rfl) h
def w11o20(a:Value):MR:=λV R=>R (rT #[K.cast .f a]) V
theorem s11o20{a:Value}{V:Mem}{R:KZ}(h:w11o20 a V (OV R)):Ay xE 77 AH 20 1 [(4,K.cast .f a)] [29] V R:=
 AE (H:=hK 77) [(4,(.var .f 0))] [a] rfl (by kernel_rfl) h
def w11o21(a:Value):MR:=λV R=>R (rT #[K.cast .f a]) V
theorem s11o21{a:Value}{V:Mem}{R:KZ}(h:w11o21 a V (OV R)):Ay xE 77 AH 21 1 [(2,K.cast .f a)] [30] V R:=
 AE (H:=hK 77) [(2,(.var .f 0))] [a] rfl (by kernel_rfl) h
def w11o22(a:Value):MR:=λV R=>∃f first h,K.cast .f a=.func (.func f) first h/\CO f/\TT f (first++#[uS (Ac [99])]++h) V λe V1=>∃b c d g,e=rV (uA #[uI b,uI c,uS d,uL g])/\R (rT #[uA #[uI b,uI c,uS d,uL g]]) V1
theorem s11o22{a:Value}{V:Mem}{R:KZ}(h:w11o22 a V (OV R)):Ay xE 77 AH 22 1 [(30,K.cast .f a)] [31] V R:=
 AE (H:=hK 77) [(30,(.var .f 0))] [a] rfl (by kernel_rfl) h
def w11o23(a:Value):MR:=λV R=>R (rT #[K.cast .f a]) V
theorem s11o23{a:Value}{V:Mem}{R:KZ}(h:w11o23 a V (OV R)):Ay xE 77 AH 23 1 [(2,K.cast .f a)] [32] V R:=
 AE (H:=hK 77) [(2,(.var .f 0))] [a] rfl (by kernel_rfl) h
def w11o24(a:Value):MR:=λV R=>∃f first h,K.cast .f a=.func (.func f) first h/\CO f/\TT f (first++#[uS (Ac [102,105,114,115,116])]++h) V λe V1=>∃b c d g,e=rV (uA #[uI b,uI c,uS d,uL g])/\R (rT #[uA #[uI b,uI c,uS d,uL g]]) V1
theorem s11o24{a:Value}{V:Mem}{R:KZ}(h:w11o24 a V (OV R)):Ay xE 77 AH 24 1 [(32,K.cast .f a)] [33] V R:=
 AE (H:=hK 77) [(32,(.var .f 0))] [a] rfl (by kernel_rfl) h
def w11o25(a:Value)(b c:Int)(d:KB)(g:Sl)(i j:Int)(k:KB)(l:Sl):MR:=λV R=>∃f first h,K.cast .f a=.func (.func f) first h/\CO f/\TT f (first++#[uS (Ac [110,101,120,116]),uA #[uI b,uI c,uS d,uL g],uA #[uI i,uI j,uS k,uL l]]++h) V λe V1=>∃o p q r s,e=rV (uA #[uI o,uS p,uL q,uL r,uL s])/\R (rT #[uA #[uI o,uS p,uL q,uL r,uL s]]) V1
theorem s11o25{a:Value}{b c:Int}{d:KB}{g:Sl}{i j:Int}{k:KB}{l:Sl}{V:Mem}{R:KZ}(h:w11o25 a b c d g i j k l V (OV R)):Ay xE 77 AH 25 1 [(29,K.cast .f a),(31,uA #[uI b,uI c,uS d,uL g]),(33,uA #[uI i,uI j,uS k,uL l])] [34] V R:=
 AE (H:=hK 77) [(29,(.var .f 0)),(31,(.agg (.cons (.var (.i .i64) 1) (.cons (.var (.i .i64) 2) (.cons (.var .s 3) (.cons (.var .sl 4) .nil)))))),(33,(.agg (.cons (.var (.i .i64) 5) (.cons (.var (.i .i64) 6) (.cons (.var .s 7) (.cons (.var .sl 8) .nil))))))] [a,uI b,uI c,uS d,uL g,uI i,uI j,uS k,uL l] rfl (by kernel_rfl) h
def w11o26(a:Value):MR:=λV R=>R (rT #[K.cast .f a]) V
theorem s11o26{a:Value}{V:Mem}{R:KZ}(h:w11o26 a V (OV R)):Ay xE 77 AH 26 1 [(3,K.cast .f a)] [35] V R:=
 AE (H:=hK 77) [(3,(.var .f 0))] [a] rfl (by kernel_rfl) h
def w11o27(a:Value):MR:=λV R=>R (rT #[K.cast .f a]) V
theorem s11o27{a:Value}{V:Mem}{R:KZ}(h:w11o27 a V (OV R)):Ay xE 77 AH 27 1 [(2,K.cast .f a)] [36] V R:=
 AE (H:=hK 77) [(2,(.var .f 0))] [a] rfl (by kernel_rfl) h
def w11o28(a:Value):MR:=λV R=>∃f first h,K.cast .f a=.func (.func f) first h/\CO f/\TT f (first++#[uS (Ac [99])]++h) V λe V1=>∃b c d g,e=rV (uA #[uI b,uI c,uS d,uL g])/\R (rT #[uA #[uI b,uI c,uS d,uL g]]) V1
theorem s11o28{a:Value}{V:Mem}{R:KZ}(h:w11o28 a V (OV R)):Ay xE 77 AH 28 1 [(36,K.cast .f a)] [37] V R:=
 AE (H:=hK 77) [(36,(.var .f 0))] [a] rfl (by kernel_rfl) h
def w11o29(a:Value)(b c:Int)(d:KB)(g:Sl):MR:=λV R=>∃f first h,K.cast .f a=.func (.func f) first h/\CO f/\TT f (first++#[uS (Ac [102,105,114,115,116]),uA #[uI b,uI c,uS d,uL g]]++h) V λe V1=>∃i j k l o,e=rV (uA #[uI i,uS j,uL k,uL l,uL o])/\R (rT #[uA #[uI i,uS j,uL k,uL l,uL o]]) V1
theorem s11o29{a:Value}{b c:Int}{d:KB}{g:Sl}{V:Mem}{R:KZ}(h:w11o29 a b c d g V (OV R)):Ay xE 77 AH 29 1 [(35,K.cast .f a),(37,uA #[uI b,uI c,uS d,uL g])] [38] V R:=
 AE (H:=hK 77) [(35,(.var .f 0)),(37,(.agg (.cons (.var (.i .i64) 1) (.cons (.var (.i .i64) 2) (.cons (.var .s 3) (.cons (.var .sl 4) .nil))))))] [a,uI b,uI c,uS d,uL g] rfl (by kernel_rfl) h
def w11o30(a:Int)(b:KB)(c d g:Sl)(i:Int)(j:KB)(k l o:Sl)(p:Int)(q:KB)(r s u:Sl)(y:Int)(z:KB)(A B C:Sl):MR:=λV R=>Ag [uI a,uS b,uL c,uL d,uL g,uI i,uS j,uL k,uL l,uL o,uI p,uS q,uL r,uL s,uL u,uI y,uS z,uL A,uL B,uL C] 108 V λD V1=>R (rT #[.slice (Aa D 0) 4 4]) V1
theorem s11o30{a:Int}{b:KB}{c d g:Sl}{i:Int}{j:KB}{k l o:Sl}{p:Int}{q:KB}{r s u:Sl}{y:Int}{z:KB}{A B C:Sl}{V:Mem}{R:KZ}(h:w11o30 a b c d g i j k l o p q r s u y z A B C V (OV R)):Ay xE 77 AH 30 1 [(22,uA #[uI a,uS b,uL c,uL d,uL g]),(28,uA #[uI i,uS j,uL k,uL l,uL o]),(34,uA #[uI p,uS q,uL r,uL s,uL u]),(38,uA #[uI y,uS z,uL A,uL B,uL C])] [39] V R:=
 AE (H:=hK 77) [(22,(.agg (.cons (.var (.i .i64) 0) (.cons (.var .s 1) (.cons (.var .sl 2) (.cons (.var .sl 3) (.cons (.var .sl 4) .nil))))))),(28,(.agg (.cons (.var (.i .i64) 5) (.cons (.var .s 6) (.cons (.var .sl 7) (.cons (.var .sl 8) (.cons (.var .sl 9) .nil))))))),(34,(.agg (.cons (.var (.i .i64) 10) (.cons (.var .s 11) (.cons (.var .sl 12) (.cons (.var .sl 13) (.cons (.var .sl 14) .nil))))))),(38,(.agg (.cons (.var (.i .i64) 15) (.cons (.var .s 16) (.cons (.var .sl 17) (.cons (.var .sl 18) (.cons (.var .sl 19) .nil)))))))] [uI a,uS b,uL c,uL d,uL g,uI i,uS j,uL k,uL l,uL o,uI p,uS q,uL r,uL s,uL u,uI y,uS z,uL A,uL B,uL C] rfl (by kernel_rfl) h
def w11o31(a b c:Sl):MR:=λV R=>R (rT #[uA #[uS (Ac [112,117,115,104]),uL a,uS (Ac []),uL b,uL c]]) V
theorem s11o31{a b c:Sl}{V:Mem}{R:KZ}(h:w11o31 a b c V (OV R)):Ay xE 77 AH 31 1 [(17,uL a),(18,uL b),(39,uL c)] [40] V R:=
 AE (H:=hK 77) [(17,(.var .sl 0)),(18,(.var .sl 1)),(39,(.var .sl 2))] [uL a,uL b,uL c] rfl (by kernel_rfl) h
def w11o32:MR:=λV R=>R (rT #[uA #[uS (Ac [108]),uS (Ac [67])]]) V
theorem s11o32{V:Mem}{R:KZ}(h:w11o32 V (OV R)):Ay xE 77 AH 32 1 [] [41] V R:=
 AE (H:=hK 77) [] [] rfl (by kernel_rfl) h
def w11o33(a b:KB):MR:=λV R=>Ag [uS a,uS b] 112 V λc V1=>R (rT #[.slice (Aa c 0) 1 1]) V1
theorem s11o33{a b:KB}{V:Mem}{R:KZ}(h:w11o33 a b V (OV R)):Ay xE 77 AH 33 1 [(41,uA #[uS a,uS b])] [42] V R:=
 AE (H:=hK 77) [(41,(.agg (.cons (.var .s 0) (.cons (.var .s 1) .nil))))] [uS a,uS b] rfl (by kernel_rfl) h
def w11o34(a:Sl):MR:=λV R=>R (rT #[uL a]) V
theorem s11o34{a:Sl}{V:Mem}{R:KZ}(h:w11o34 a V (OV R)):Ay xE 77 AH 34 1 [(5,uL a)] [43] V R:=
 AE (H:=hK 77) [(5,(.var .sl 0))] [uL a] rfl (by kernel_rfl) h
def w11o35(a:Value):MR:=λV R=>R (rT #[K.cast .f a]) V
theorem s11o35{a:Value}{V:Mem}{R:KZ}(h:w11o35 a V (OV R)):Ay xE 77 AH 35 1 [(3,K.cast .f a)] [44] V R:=
 AE (H:=hK 77) [(3,(.var .f 0))] [a] rfl (by kernel_rfl) h
def w11o36(a:Value):MR:=λV R=>R (rT #[K.cast .f a]) V
theorem s11o36{a:Value}{V:Mem}{R:KZ}(h:w11o36 a V (OV R)):Ay xE 77 AH 36 1 [(2,K.cast .f a)] [45] V R:=
 AE (H:=hK 77) [(2,(.var .f 0))] [a] rfl (by kernel_rfl) h
def w11o37(a:Value):MR:=λV R=>∃f first h,K.cast .f a=.func (.func f) first h/\CO f/\TT f (first++#[uS (Ac [102,105,114,115,116])]++h) V λe V1=>∃b c d g,e=rV (uA #[uI b,uI c,uS d,uL g])/\R (rT #[uA #[uI b,uI c,uS d,uL g]]) V1
theorem s11o37{a:Value}{V:Mem}{R:KZ}(h:w11o37 a V (OV R)):Ay xE 77 AH 37 1 [(45,K.cast .f a)] [46] V R:=
 AE (H:=hK 77) [(45,(.var .f 0))] [a] rfl (by kernel_rfl) h
def w11o38(a:Value)(b c:Int)(d:KB)(g:Sl):MR:=λV R=>∃f first h,K.cast .f a=.func (.func f) first h/\CO f/\TT f (first++#[uS (Ac [99]),uA #[uI b,uI c,uS d,uL g]]++h) V λe V1=>∃i j k l o,e=rV (uA #[uI i,uS j,uL k,uL l,uL o])/\R (rT #[uA #[uI i,uS j,uL k,uL l,uL o]]) V1
theorem s11o38{a:Value}{b c:Int}{d:KB}{g:Sl}{V:Mem}{R:KZ}(h:w11o38 a b c d g V (OV R)):Ay xE 77 AH 38 1 [(44,K.cast .f a),(46,uA #[uI b,uI c,uS d,uL g])] [47] V R:=
 AE (H:=hK 77) [(44,(.var .f 0)),(46,(.agg (.cons (.var (.i .i64) 1) (.cons (.var (.i .i64) 2) (.cons (.var .s 3) (.cons (.var .sl 4) .nil))))))] [a,uI b,uI c,uS d,uL g] rfl (by kernel_rfl) h
def w11o39(a:Option Addr):MR:=λV R=>∃b,K.f.ok b/\V.rowp a ((0:Int).toNat*1) 1=some [b]/\R (rT #[K.cast .f b]) V
theorem s11o39{a:Option Addr}{V:Mem}{R:KZ}(h:w11o39 a V (OV R)):Ay xE 77 AH 39 1 [(1,uP a)] [48] V R:=
 AE (H:=hK 77) [(1,(.var .p 0))] [uP a] rfl (by kernel_rfl) h
def w11o40(a:Option Addr):MR:=λV R=>∃b,K.f.ok b/\V.rowp a ((0:Int).toNat*1) 1=some [b]/\R (rT #[K.cast .f b]) V
theorem s11o40{a:Option Addr}{V:Mem}{R:KZ}(h:w11o40 a V (OV R)):Ay xE 77 AH 40 1 [(1,uP a)] [49] V R:=
 AE (H:=hK 77) [(1,(.var .p 0))] [uP a] rfl (by kernel_rfl) h
def w11o41(a:Value):MR:=λV R=>R (rT #[K.cast .f a]) V
theorem s11o41{a:Value}{V:Mem}{R:KZ}(h:w11o41 a V (OV R)):Ay xE 77 AH 41 1 [(2,K.cast .f a)] [50] V R:=
 AE (H:=hK 77) [(2,(.var .f 0))] [a] rfl (by kernel_rfl) h
def w11o42(a:Value):MR:=λV R=>∃f first h,K.cast .f a=.func (.func f) first h/\CO f/\TT f (first++#[uS (Ac [99])]++h) V λe V1=>∃b c d g,e=rV (uA #[uI b,uI c,uS d,uL g])/\R (rT #[uA #[uI b,uI c,uS d,uL g]]) V1
theorem s11o42{a:Value}{V:Mem}{R:KZ}(h:w11o42 a V (OV R)):Ay xE 77 AH 42 1 [(50,K.cast .f a)] [51] V R:=
 AE (H:=hK 77) [(50,(.var .f 0))] [a] rfl (by kernel_rfl) h
def w11o43(a b:Int)(c:KB)(d:Sl):MR:=λV R=>Ag [uI a,uI b,uS c,uL d] 104 V λg V1=>R (rT #[.slice (Aa g 0) 1 1]) V1
theorem s11o43{a b:Int}{c:KB}{d:Sl}{V:Mem}{R:KZ}(h:w11o43 a b c d V (OV R)):Ay xE 77 AH 43 1 [(51,uA #[uI a,uI b,uS c,uL d])] [52] V R:=
 AE (H:=hK 77) [(51,(.agg (.cons (.var (.i .i64) 0) (.cons (.var (.i .i64) 1) (.cons (.var .s 2) (.cons (.var .sl 3) .nil))))))] [uI a,uI b,uS c,uL d] rfl (by kernel_rfl) h
def w11o44(a:Value)(b:Sl):MR:=λV R=>∃f first h,K.cast .f a=.func (.func f) first h/\CO f/\TT f (first++#[uI 5,uS (Ac [110,101,120,116]),uL b]++h) V λe V1=>∃c d g i,e=rV (uA #[uI c,uI d,uS g,uL i])/\R (rT #[uA #[uI c,uI d,uS g,uL i]]) V1
theorem s11o44{a:Value}{b:Sl}{V:Mem}{R:KZ}(h:w11o44 a b V (OV R)):Ay xE 77 AH 44 1 [(49,K.cast .f a),(52,uL b)] [53] V R:=
 AE (H:=hK 77) [(49,(.var .f 0)),(52,(.var .sl 1))] [a,uL b] rfl (by kernel_rfl) h
def w11o45:MR:=λV R=>R (rT #[uA #[uI 3,uI 0,uS (Ac []),z0]]) V
theorem s11o45{V:Mem}{R:KZ}(h:w11o45 V (OV R)):Ay xE 77 AH 45 1 [] [54] V R:=
 AE (H:=hK 77) [] [] rfl (by kernel_rfl) h
def w11o46(a b:Int)(c:KB)(d:Sl)(g i:Int)(j:KB)(k:Sl):MR:=λV R=>Ag [uI a,uI b,uS c,uL d,uI g,uI i,uS j,uL k] 104 V λl V1=>R (rT #[.slice (Aa l 0) 2 2]) V1
theorem s11o46{a b:Int}{c:KB}{d:Sl}{g i:Int}{j:KB}{k:Sl}{V:Mem}{R:KZ}(h:w11o46 a b c d g i j k V (OV R)):Ay xE 77 AH 46 1 [(53,uA #[uI a,uI b,uS c,uL d]),(54,uA #[uI g,uI i,uS j,uL k])] [55] V R:=
 AE (H:=hK 77) [(53,(.agg (.cons (.var (.i .i64) 0) (.cons (.var (.i .i64) 1) (.cons (.var .s 2) (.cons (.var .sl 3) .nil)))))),(54,(.agg (.cons (.var (.i .i64) 4) (.cons (.var (.i .i64) 5) (.cons (.var .s 6) (.cons (.var .sl 7) .nil))))))] [uI a,uI b,uS c,uL d,uI g,uI i,uS j,uL k] rfl (by kernel_rfl) h
def w11o47(a:Value)(b:Sl):MR:=λV R=>∃f first h,K.cast .f a=.func (.func f) first h/\CO f/\TT f (first++#[uI 15,uS (Ac []),uL b]++h) V λe V1=>∃c d g i,e=rV (uA #[uI c,uI d,uS g,uL i])/\R (rT #[uA #[uI c,uI d,uS g,uL i]]) V1
theorem s11o47{a:Value}{b:Sl}{V:Mem}{R:KZ}(h:w11o47 a b V (OV R)):Ay xE 77 AH 47 1 [(48,K.cast .f a),(55,uL b)] [56] V R:=
 AE (H:=hK 77) [(48,(.var .f 0)),(55,(.var .sl 1))] [a,uL b] rfl (by kernel_rfl) h
def w11o48(a b:Int)(c:KB)(d:Sl):MR:=λV R=>Ag [uI a,uI b,uS c,uL d] 104 V λg V1=>R (rT #[.slice (Aa g 0) 1 1]) V1
theorem s11o48{a b:Int}{c:KB}{d:Sl}{V:Mem}{R:KZ}(h:w11o48 a b c d V (OV R)):Ay xE 77 AH 48 1 [(56,uA #[uI a,uI b,uS c,uL d])] [57] V R:=
 AE (H:=hK 77) [(56,(.agg (.cons (.var (.i .i64) 0) (.cons (.var (.i .i64) 1) (.cons (.var .s 2) (.cons (.var .sl 3) .nil))))))] [uI a,uI b,uS c,uL d] rfl (by kernel_rfl) h
def w11o49(a:Value):MR:=λV R=>R (rT #[K.cast .f a]) V
theorem s11o49{a:Value}{V:Mem}{R:KZ}(h:w11o49 a V (OV R)):Ay xE 77 AH 49 1 [(3,K.cast .f a)] [58] V R:=
 AE (H:=hK 77) [(3,(.var .f 0))] [a] rfl (by kernel_rfl) h
def w11o50(a:Option Addr):MR:=λV R=>∃b,K.f.ok b/\V.rowp a ((0:Int).toNat*1) 1=some [b]/\R (rT #[K.cast .f b]) V
theorem s11o50{a:Option Addr}{V:Mem}{R:KZ}(h:w11o50 a V (OV R)):Ay xE 77 AH 50 1 [(1,uP a)] [59] V R:=
 AE (H:=hK 77) [(1,(.var .p 0))] [uP a] rfl (by kernel_rfl) h
def w11o51(a:Value):MR:=λV R=>R (rT #[K.cast .f a]) V
theorem s11o51{a:Value}{V:Mem}{R:KZ}(h:w11o51 a V (OV R)):Ay xE 77 AH 51 1 [(2,K.cast .f a)] [60] V R:=
 AE (H:=hK 77) [(2,(.var .f 0))] [a] rfl (by kernel_rfl) h
def w11o52(a:Value):MR:=λV R=>∃f first h,K.cast .f a=.func (.func f) first h/\CO f/\TT f (first++#[uS (Ac [99])]++h) V λe V1=>∃b c d g,e=rV (uA #[uI b,uI c,uS d,uL g])/\R (rT #[uA #[uI b,uI c,uS d,uL g]]) V1
theorem s11o52{a:Value}{V:Mem}{R:KZ}(h:w11o52 a V (OV R)):Ay xE 77 AH 52 1 [(60,K.cast .f a)] [61] V R:=
 AE (H:=hK 77) [(60,(.var .f 0))] [a] rfl (by kernel_rfl) h
def w11o53(a b:Int)(c:KB)(d:Sl):MR:=λV R=>Ag [uI a,uI b,uS c,uL d] 104 V λg V1=>R (rT #[.slice (Aa g 0) 1 1]) V1
theorem s11o53{a b:Int}{c:KB}{d:Sl}{V:Mem}{R:KZ}(h:w11o53 a b c d V (OV R)):Ay xE 77 AH 53 1 [(61,uA #[uI a,uI b,uS c,uL d])] [62] V R:=
 AE (H:=hK 77) [(61,(.agg (.cons (.var (.i .i64) 0) (.cons (.var (.i .i64) 1) (.cons (.var .s 2) (.cons (.var .sl 3) .nil))))))] [uI a,uI b,uS c,uL d] rfl (by kernel_rfl) h
def w11o54(a:Value)(b:Sl):MR:=λV R=>∃f first h,K.cast .f a=.func (.func f) first h/\CO f/\TT f (first++#[uI 5,uS (Ac [110,101,120,116]),uL b]++h) V λe V1=>∃c d g i,e=rV (uA #[uI c,uI d,uS g,uL i])/\R (rT #[uA #[uI c,uI d,uS g,uL i]]) V1
theorem s11o54{a:Value}{b:Sl}{V:Mem}{R:KZ}(h:w11o54 a b V (OV R)):Ay xE 77 AH 54 1 [(59,K.cast .f a),(62,uL b)] [63] V R:=
 AE (H:=hK 77) [(59,(.var .f 0)),(62,(.var .sl 1))] [a,uL b] rfl (by kernel_rfl) h
def w11o55(a:Value)(b c:Int)(d:KB)(g:Sl):MR:=λV R=>∃f first h,K.cast .f a=.func (.func f) first h/\CO f/\TT f (first++#[uS (Ac [99]),uA #[uI b,uI c,uS d,uL g]]++h) V λe V1=>∃i j k l o,e=rV (uA #[uI i,uS j,uL k,uL l,uL o])/\R (rT #[uA #[uI i,uS j,uL k,uL l,uL o]]) V1
theorem s11o55{a:Value}{b c:Int}{d:KB}{g:Sl}{V:Mem}{R:KZ}(h:w11o55 a b c d g V (OV R)):Ay xE 77 AH 55 1 [(58,K.cast .f a),(63,uA #[uI b,uI c,uS d,uL g])] [64] V R:=
 AE (H:=hK 77) [(58,(.var .f 0)),(63,(.agg (.cons (.var (.i .i64) 1) (.cons (.var (.i .i64) 2) (.cons (.var .s 3) (.cons (.var .sl 4) .nil))))))] [a,uI b,uI c,uS d,uL g] rfl (by kernel_rfl) h
def w11o56(a:Int)(b:KB)(c d g:Sl):MR:=λV R=>Ag [uI a,uS b,uL c,uL d,uL g] 108 V λi V1=>R (rT #[.slice (Aa i 0) 1 1]) V1
theorem s11o56{a:Int}{b:KB}{c d g:Sl}{V:Mem}{R:KZ}(h:w11o56 a b c d g V (OV R)):Ay xE 77 AH 56 1 [(64,uA #[uI a,uS b,uL c,uL d,uL g])] [65] V R:=
 AE (H:=hK 77) [(64,(.agg (.cons (.var (.i .i64) 0) (.cons (.var .s 1) (.cons (.var .sl 2) (.cons (.var .sl 3) (.cons (.var .sl 4) .nil)))))))] [uI a,uS b,uL c,uL d,uL g] rfl (by kernel_rfl) h
def w11o57(a b:Sl):MR:=λV R=>R (rT #[uA #[uI 4,uS (Ac []),uL a,uL b,z0]]) V
theorem s11o57{a b:Sl}{V:Mem}{R:KZ}(h:w11o57 a b V (OV R)):Ay xE 77 AH 57 1 [(57,uL a),(65,uL b)] [66] V R:=
 AE (H:=hK 77) [(57,(.var .sl 0)),(65,(.var .sl 1))] [uL a,uL b] rfl (by kernel_rfl) h
def w11o58(a:Value):MR:=λV R=>R (rT #[K.cast .f a]) V
theorem s11o58{a:Value}{V:Mem}{R:KZ}(h:w11o58 a V (OV R)):Ay xE 77 AH 58 1 [(4,K.cast .f a)] [67] V R:=
 AE (H:=hK 77) [(4,(.var .f 0))] [a] rfl (by kernel_rfl) h
def w11o59(a:Value):MR:=λV R=>R (rT #[K.cast .f a]) V
theorem s11o59{a:Value}{V:Mem}{R:KZ}(h:w11o59 a V (OV R)):Ay xE 77 AH 59 1 [(2,K.cast .f a)] [68] V R:=
 AE (H:=hK 77) [(2,(.var .f 0))] [a] rfl (by kernel_rfl) h
def w11o60(a:Value):MR:=λV R=>∃f first h,K.cast .f a=.func (.func f) first h/\CO f/\TT f (first++#[uS (Ac [99])]++h) V λe V1=>∃b c d g,e=rV (uA #[uI b,uI c,uS d,uL g])/\R (rT #[uA #[uI b,uI c,uS d,uL g]]) V1
theorem s11o60{a:Value}{V:Mem}{R:KZ}(h:w11o60 a V (OV R)):Ay xE 77 AH 60 1 [(68,K.cast .f a)] [69] V R:=
 AE (H:=hK 77) [(68,(.var .f 0))] [a] rfl (by kernel_rfl) h
def w11o61(a:Value):MR:=λV R=>R (rT #[K.cast .f a]) V
theorem s11o61{a:Value}{V:Mem}{R:KZ}(h:w11o61 a V (OV R)):Ay xE 77 AH 61 1 [(2,K.cast .f a)] [70] V R:=
 AE (H:=hK 77) [(2,(.var .f 0))] [a] rfl (by kernel_rfl) h
def w11o62(a:Value):MR:=λV R=>∃f first h,K.cast .f a=.func (.func f) first h/\CO f/\TT f (first++#[uS (Ac [108])]++h) V λe V1=>∃b c d g,e=rV (uA #[uI b,uI c,uS d,uL g])/\R (rT #[uA #[uI b,uI c,uS d,uL g]]) V1
theorem s11o62{a:Value}{V:Mem}{R:KZ}(h:w11o62 a V (OV R)):Ay xE 77 AH 62 1 [(70,K.cast .f a)] [71] V R:=
 AE (H:=hK 77) [(70,(.var .f 0))] [a] rfl (by kernel_rfl) h
def w11o63(a:Value)(b c:Int)(d:KB)(g:Sl)(i j:Int)(k:KB)(l:Sl):MR:=λV R=>∃f first h,K.cast .f a=.func (.func f) first h/\CO f/\TT f (first++#[uS (Ac [110,101,120,116]),uA #[uI b,uI c,uS d,uL g],uA #[uI i,uI j,uS k,uL l]]++h) V λe V1=>∃o p q r s,e=rV (uA #[uI o,uS p,uL q,uL r,uL s])/\R (rT #[uA #[uI o,uS p,uL q,uL r,uL s]]) V1
theorem s11o63{a:Value}{b c:Int}{d:KB}{g:Sl}{i j:Int}{k:KB}{l:Sl}{V:Mem}{R:KZ}(h:w11o63 a b c d g i j k l V (OV R)):Ay xE 77 AH 63 1 [(67,K.cast .f a),(69,uA #[uI b,uI c,uS d,uL g]),(71,uA #[uI i,uI j,uS k,uL l])] [72] V R:=
 AE (H:=hK 77) [(67,(.var .f 0)),(69,(.agg (.cons (.var (.i .i64) 1) (.cons (.var (.i .i64) 2) (.cons (.var .s 3) (.cons (.var .sl 4) .nil)))))),(71,(.agg (.cons (.var (.i .i64) 5) (.cons (.var (.i .i64) 6) (.cons (.var .s 7) (.cons (.var .sl 8) .nil))))))] [a,uI b,uI c,uS d,uL g,uI i,uI j,uS k,uL l] rfl (by kernel_rfl) h
def w11o64(a:Int)(b:KB)(c d g:Sl)(i:Int)(j:KB)(k l o:Sl)(p:Int)(q:KB)(r s u:Sl):MR:=λV R=>Ag [uI a,uS b,uL c,uL d,uL g,uI i,uS j,uL k,uL l,uL o,uI p,uS q,uL r,uL s,uL u] 108 V λy V1=>R (rT #[.slice (Aa y 0) 3 3]) V1
theorem s11o64{a:Int}{b:KB}{c d g:Sl}{i:Int}{j:KB}{k l o:Sl}{p:Int}{q:KB}{r s u:Sl}{V:Mem}{R:KZ}(h:w11o64 a b c d g i j k l o p q r s u V (OV R)):Ay xE 77 AH 64 1 [(47,uA #[uI a,uS b,uL c,uL d,uL g]),(66,uA #[uI i,uS j,uL k,uL l,uL o]),(72,uA #[uI p,uS q,uL r,uL s,uL u])] [73] V R:=
 AE (H:=hK 77) [(47,(.agg (.cons (.var (.i .i64) 0) (.cons (.var .s 1) (.cons (.var .sl 2) (.cons (.var .sl 3) (.cons (.var .sl 4) .nil))))))),(66,(.agg (.cons (.var (.i .i64) 5) (.cons (.var .s 6) (.cons (.var .sl 7) (.cons (.var .sl 8) (.cons (.var .sl 9) .nil))))))),(72,(.agg (.cons (.var (.i .i64) 10) (.cons (.var .s 11) (.cons (.var .sl 12) (.cons (.var .sl 13) (.cons (.var .sl 14) .nil)))))))] [uI a,uS b,uL c,uL d,uL g,uI i,uS j,uL k,uL l,uL o,uI p,uS q,uL r,uL s,uL u] rfl (by kernel_rfl) h
def w11o65(a b c:Sl):MR:=λV R=>R (rT #[uA #[uS (Ac [97,112,112,101,110,100]),uL a,uS (Ac []),uL b,uL c]]) V
theorem s11o65{a b c:Sl}{V:Mem}{R:KZ}(h:w11o65 a b c V (OV R)):Ay xE 77 AH 65 1 [(42,uL a),(43,uL b),(73,uL c)] [74] V R:=
 AE (H:=hK 77) [(42,(.var .sl 0)),(43,(.var .sl 1)),(73,(.var .sl 2))] [uL a,uL b,uL c] rfl (by kernel_rfl) h
def w11o66(a:KB)(b:Sl)(c:KB)(d g:Sl)(i:KB)(j:Sl)(k:KB)(l o:Sl):MR:=λV R=>Ag [uS a,uL b,uS c,uL d,uL g,uS i,uL j,uS k,uL l,uL o] 76 V λp V1=>R (rT #[.slice (Aa p 0) 2 2]) V1
theorem s11o66{a:KB}{b:Sl}{c:KB}{d g:Sl}{i:KB}{j:Sl}{k:KB}{l o:Sl}{V:Mem}{R:KZ}(h:w11o66 a b c d g i j k l o V (OV R)):Ay xE 77 AH 66 1 [(40,uA #[uS a,uL b,uS c,uL d,uL g]),(74,uA #[uS i,uL j,uS k,uL l,uL o])] [75] V R:=
 AE (H:=hK 77) [(40,(.agg (.cons (.var .s 0) (.cons (.var .sl 1) (.cons (.var .s 2) (.cons (.var .sl 3) (.cons (.var .sl 4) .nil))))))),(74,(.agg (.cons (.var .s 5) (.cons (.var .sl 6) (.cons (.var .s 7) (.cons (.var .sl 8) (.cons (.var .sl 9) .nil)))))))] [uS a,uL b,uS c,uL d,uL g,uS i,uL j,uS k,uL l,uL o] rfl (by kernel_rfl) h
def w11o67(a b c:Sl):MR:=λV R=>R (rT #[uA #[uS (Ac [108,105,115,116,115]),uL a,uL b,uL c,z0,z0,z0,z0]]) V
theorem s11o67{a b c:Sl}{V:Mem}{R:KZ}(h:w11o67 a b c V (OV R)):Ay xE 77 AH 67 1 [(13,uL a),(15,uL b),(75,uL c)] [76] V R:=
 AE (H:=hK 77) [(13,(.var .sl 0)),(15,(.var .sl 1)),(75,(.var .sl 2))] [uL a,uL b,uL c] rfl (by kernel_rfl) h
def w11o68(a:Option Addr)(b:KB)(c d g i j k l:Sl):MR:=λV R=>Ao a 0 [uS b,uL c,uL d,uL g,uL i,uL j,uL k,uL l] V λV1=>R (rT #[]) V1
theorem s11o68{a:Option Addr}{b:KB}{c d g i j k l:Sl}{V:Mem}{R:KZ}(h:w11o68 a b c d g i j k l V (OV R)):Ay xE 77 AH 68 1 [(0,uP a),(76,uD b c d g i j k l)] [] V R:=
 AE (H:=hK 77) [(0,(.var .p 0)),(76,(.agg (.cons (.var .s 1) (.cons (.var .sl 2) (.cons (.var .sl 3) (.cons (.var .sl 4) (.cons (.var .sl 5) (.cons (.var .sl 6) (.cons (.var .sl 7) (.cons (.var .sl 8) .nil))))))))))] [uP a,uS b,uL c,uL d,uL g,uL i,uL j,uL k,uL l] rfl (by kernel_rfl) h
end
end Go.Proofs
