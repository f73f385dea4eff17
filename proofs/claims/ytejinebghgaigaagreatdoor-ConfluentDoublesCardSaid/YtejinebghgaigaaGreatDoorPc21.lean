/- Part 21: no statement of the seat is proved here. -/
import Derived.Test.YtejinebghgaigaaGreatDoorPc20
import Derived.Test.YtejinebghgaigaaGreatDoorPc15
import Derived.Test.YtejinebghgaigaaGreatDoorPc13
set_option linter.unusedVariables false
set_option linter.unusedSimpArgs false
open Go.Ending renaming returned->xI
open Go.Proofs.Tryz renaming prog->xG
open List renaming take_add_one->w8,take_of_length_le->wZ,append_nil->wD,map_singleton->vd,mem_singleton->zO,getElem?_eq_some_iff->yu,getElem?_eq_getElem->yr,length_map->xi,range->zB,mem_filter->yy,mem_range->yZ,mem_cons_of_mem->z6,mem_cons_self->za,filter_cons->yA
open Nat renaming le_refl->yW
open List.cons renaming injEq->yF
open Prod.mk renaming inj->wm
open Option.some renaming inj->vN
open Bool renaming not_eq_true->vy,and_eq_true->zC
open Int renaming toNat_natCast->xu
open Go.Oper renaming uponIn->wi
open Go.CallsIn renaming mono->vc
open Go.RoundIn renaming mono->vb
open Go.Region renaming binds->yS,ready->yz
open Option renaming map_some->zJ,getD_some->xY
open Array renaming mem_toList_iff->uC,all_eq_true'->wI,getD->z8,getD_eq_getD_getElem?->wX,getElem?_setIfInBounds_ne->uE
namespace Go.Proofs
open Go Go.Sx
attribute [local irreducible] Go.Sx.Tri
section
variable{V:Mem}{d:Ds}
theorem Rr(O:Ds.Ok V d){r:Pr}(A:Pr.Ok V r):PP 28 [d.v,r.v] V (.bool (CL d r)):=by
 refine PC ?_;have I:Ac [105,110,116]=Aj:=rfl;have L:Ac [98,111,111,108]=Au:=rfl;rw[I,L];have E:=A.params.n_eq;have K:=O.globals.n_eq;have u:CL d r=false->(xI (.bool false)=.returned (.bool (CL d r))/\V=V):=λh=>⟨by rw[h],rfl⟩;have w:CL d r=true->(xI (.bool true)=.returned (.bool (CL d r))/\V=V):=λh=>⟨by rw[h],rfl⟩;refine⟨λh1=>⟨λh2=>u ?_,λh2=>?_⟩,λh1=>u ?_⟩;rotate_right;·grind[CL,absurd]
 ·grind[CL]
 have h1:(r.ps.n:Int)=1:=h1;have h2:¬(d.gs.n:Int)=0:=h2;obtain⟨f,X⟩:∃f,r.params=[f]:=List.length_eq_one_iff.1 (by omega);obtain⟨g,l,s⟩:∃g l,d.globals=g::l:=by
  cases e:d.globals with
  |nil=>simp_all
  |cons g l=>simp_all
 obtain⟨y,B,j,-,-,q,H,k⟩:=A.params.get (i:=0) (by omega);rw[X]at j;cases j;obtain⟨y,-,j,-,-,m,J,t⟩:=O.globals.get (i:=0) (by omega);rw[s]at j;cases j;have G:=Al (n:=0*2) q;have Z:=Al (n:=0*2) m;have S:CL d r=(decide (f.ty=g.ty)&&!AF f.ty&&(decide (r.result=sE)||AF r.result)):=by grind[CL]
 refine⟨q,H,by omega,G,_,_,k,m,J,by omega,Z,_,_,t,λh4=>⟨q,H,by omega,G,_,_,k,λo=>u ?_,λo=>⟨q,H,by omega,G,_,_,k,λc=>u ?_,λc=>⟨λY=>w ?_,λY=>⟨λW=>w ?_,λW=>?_⟩⟩⟩⟩,λh4=>u ?_⟩;·grind[Aj,Ij]
 ·grind[Au,Ij,inr]
 rotate_right;·simp_all
 all_goals
  have h4:f.ty=g.ty:=h4;have o:¬f.ty=Aj:=o;have c:¬f.ty=Au:=c;have C:AF f.ty=false:=by
   unfold AF;rw[decide_eq_false o,decide_eq_false c];rfl
 ·grind[sE]
 ·grind[Aj,decide_eq_true,Ij]
 ·have Y:¬r.result=sE:=Y;have W:¬r.result=Aj:=W;have e:AF r.result=decide (r.result=Au):=by
   grind[AF]
  simp_all
theorem Ru{l q:Sl}{xs:List Fld}{vs:List Int}{n:Nat}(C:Ad V l 2 (xs.map Fld.row))(E:Ad V q 1 (vs.map Ak))(K:xs.length=vs.length)(o:∀(i:Nat) f v,xs[i]?=some f->vs[i]?=some v->AF f.ty=false->0<=v/\v<=4096)(hn:n<=4096)(S:xs.length<=4096):
  Tri xG 63 #[l.v,q.v,.int .i64 n] V λe V'=>∃s:Sl,e=.returned (.slice s.p s.n s.c)/\Sx.Own V V' 3 1 s ((Fh xs vs n).flatMap Ak):=by
 refine Qb ?_;have T:Ac [105,110,116]=Aj:=rfl;have U:Ac [98,111,111,108]=Au:=rfl;rw[T,U];have hsl:=Lu (n:=n) K;refine Fo (mk:=λs:Sl=>.slice s.p s.n s.c) (b0:=⟨none,0,0⟩) Bv xs.length (λi s V1=>Sx.Own V V1 3 1 s (((Fh xs vs n).take i).flatMap Ak)) (Own.nil (Mem.sub.refl _) _ _) ?_;rintro i s V1 J hi h1 hJ;have w:=C.sub h1.sub;have g:=E.sub h1.sub;have hqn:=g.n_eq;have hqc:=g.cap;have hqf:=g.fit;refine⟨λt=>?_,λH=>?_⟩
 ·obtain⟨x,hxm,I,-,G,m,r,u⟩:=w.get t;obtain⟨y,hym,L,-,hjl,Z,Y,j⟩:=g.get (i:=i) (by omega);have W:=Lv (n:=n) I L;have add:∀{z:Int},(if AF x.ty=true∨y=0 then y else y+n)=z->∀{a b:Operand}{vals:Operand->Value},vals a=.slice s.p s.n s.c->∀k,V1 k=none->vals b=.slice (sa k) 1 1 ->
    GenK xG (.call {callee:=.builtin .append,args:=#[a,b],argTypes:=#[43,43]}) 43 vals (V1.set k (.cells #[.int .i64 z] 3 (0,0))) λx X=>∃B:Sl,x=uL B/\IR ((i:Int)+1)/\J [uL B,uI ((i:Int)+1)] X:=λ{z} r {a b vals} ha k h o=>by
   refine oneG Fy (x:=z) h1 h (by grind) ha o (λ_=>rfl) λo2 X O=>⟨o2,rfl,w.succ t,hJ G _ _ ?_⟩;rw[w8,W,r];exact O
  refine⟨Z,Y,by omega,_,j,m,r,t,Al m,_,_,u,λh2 k h=>add (if_pos (.inl (Ij (.inl h2)))) rfl k h rfl,λh2=>⟨m,r,t,Al m,_,_,u,λh3 k h=>add (if_pos (.inl (Ij (.inr h3)))) rfl k h rfl,λh3=>⟨λh4 k h=>add (if_pos (.inr h4)) rfl k h rfl,λh4=>?_⟩⟩⟩;have h2:¬x.ty=Aj:=h2;have h3:¬x.ty=Au:=h3;have h4:¬y=0:=h4;have A:AF x.ty=false:=by
   grind[AF]
  have hyb:=o i x y I L A;exact⟨⟨by omega,by omega⟩,λk h=>add (if_neg (by grind)) rfl k h rfl⟩
 ·have hd:=(w.done H).2;grind
theorem Pb{α:Type}{V V' D:Mem}{e sz:Nat}{s:Sl}{row:α->List Value}{xs:List α}(o:Sx.Own V V' e sz s (xs.flatMap row))(k:∀x,(row x).length=sz)(f:0<sz)(t:∀b x,A8 s b->V' b=some x->D b=some x):Ad D s sz (xs.map row):=by
 have:Sx.Own (λ_=>none) D e sz s (xs.flatMap row):=⟨(λ_ _ h=>by cases h),o.len,by
  rcases o.cases0 with h|⟨u,g,cur,a,b,c,dd⟩;·exact .inl h
  ·exact .inr ⟨g,cur,a,rfl,t g _ ⟨u,a⟩ c,dd⟩⟩
 exact this.rows k f
theorem AM.pub{V V':Mem}{gs ns:Sl}{nd:List Nd}{st:St}(k:Ds.Ok V d)(L:AM V V' gs ns Ai nd st)(f:Ao d st.mm):Ad (V'.but ns) gs 1 (st.g.map Ak)/\(∀v∈st.g,DZ v)/\∀n∈nd,Nd.Ok (V'.but ns) n:=by
 obtain⟨hm,-⟩:=Le k L f;have ne:∀{s:Sl}{vs:List Value},Sx.Own V V' 3 1 s vs->∀b x,A8 s b->V' b=some x->V'.but ns b=some x:=λ{s vs} o b x t u=>Mem.but_at u λh=>by
  obtain⟨w,h1⟩:=Own.some o t;obtain⟨y,h2⟩:=Own.some L.nodes h;grind
 refine⟨Pb L.glob (λ_=>rfl) (by decide) (ne L.glob),hm.gIn,λn h=>?_⟩;have:=hm.nodesOk n h;exact⟨Pb (L.fld n h) (λ_=>rfl) (by decide) (ne (L.fld n h)),this.tyIn,this.vals⟩
theorem Rv{y:Mm}(Y:Ds.Ok V d)(A:Mm.Ok V y)(G:Ao d y):Tri xG 62 #[d.v,y.v] V λe V'=>V.sub V'/\∃c:Mm,e=.returned (.agg #[c.gs.v,c.ns.v])/\Mm.Ok V' c/\c.plain=Db d y:=by
 obtain⟨R,W⟩:∃R:Ending->Mem->Prop,R=λe V'=>V.sub V'/\∃c:Mm,e=.returned (.agg #[c.gs.v,c.ns.v])/\Mm.Ok V' c/\c.plain=Db d y:=⟨_,rfl⟩;rw[<-W];refine Qa ?_;obtain⟨L,X,B⟩:=Ja G;refine Tri.mono (Nb A L X B) ?_;rintro _ V1 ⟨gs,ns,nd,rfl,C⟩;refine⟨gs,ns,rfl,λr E V2=>∃j:Nat,r=y.globals.length+1-j/\1<=j/\E=[.int .i64 j]/\AM V V2 gs ns Ai nd ⟨(BY y).globals.take j++y.globals.drop j,(AY y).ns,0,0,[]⟩,y.globals.length,⟨1,by omega,yW _,rfl,?_⟩,?_⟩
 ·have e:(BY y).globals.take 1++y.globals.drop 1=y.globals:=by
   grind[BY]
  rw[e];exact C
 rintro r V2 K ⟨j,rfl,hj,f,h⟩ J S;simp only[yF,and_true]at f;cases Cu _ _ f;have o:(BY y).globals.length=y.globals.length:=by
  grind[BY]
 have t:=h.glob.rows (row:=Ak) (λ_=>rfl) (by decide);have s:=t.n_eq;rw[List.length_append,List.length_take,List.length_drop,o]at s;refine⟨λk=>?_,λu=>?_⟩
 ·have k:(j:Int)<(gs.n:Int):=k;have T:j<y.globals.length:=by omega
  obtain⟨w,-,hw,-,-,U,hz,-⟩:=t.get (i:=j) (by omega);have h0:(BY y).globals[j]?=some 0:=by
   unfold BY;grind
  refine⟨U,hz,k,?_⟩;rw[show((j:Int).toNat*1)=j*1 by rfl];refine AM.setG h (i:=j) (by grind) λV3 L3 _=>⟨⟨by omega,by omega⟩,S _ _ _ (show y.globals.length+1-(j+1)<y.globals.length+1-j by omega) ⟨j+1,rfl,by omega,rfl,?_⟩⟩;grind[take_set]
 ·have u:¬(j:Int)<(gs.n:Int):=u;have e:(BY y).globals.take j++y.globals.drop j=(BY y).globals:=by
   grind[wZ,List.drop_eq_nil_of_le]
  rw[e]at h;have O:=Lt G;have H:(⟨(BY y).globals,(AY y).ns,0,0,[]⟩:St)=AY (BY y):=rfl;rw[H]at h;have Gs:Ao d (AY (BY y)).mm:=O.plain (Ic _).symm;obtain⟨hm,Z⟩:=Le Y h Gs;have q:(⟨gs,(AY (BY y)).g,ns,nd⟩:Mm).plain=(BY y).plain:=Z;have Gm:=O.plain q.symm;refine Tri.mono (OY (m:=⟨gs,(AY (BY y)).g,ns,nd⟩) Gm (Y.sub h.sub) hm) ?_;rintro _ V3 ⟨s3,c,rfl,hc,I⟩;refine⟨_,_,rfl,?_⟩;rw[W];refine⟨h.sub.trans s3,c,rfl,hc,?_⟩;rw[canP_of Gm.mem I];exact Lm q
theorem Rw{x y:Mm}(K:Ds.Ok V d)(hx:Mm.Ok V x)(hy:Mm.Ok V y)(Gx:Ao d x)(Gy:Ao d y){g:Fld}{gl:List Fld}(hgl:d.globals=g::gl)(hgp:AF g.ty=false):Tri xG 30 #[d.v,x.v,y.v] V λe V'=>V.sub V'/\∃u:Mm,e=.returned (.tuple #[.agg #[u.gs.v,u.ns.v],.int .i64 (Cp d x y)])/\Mm.Ok V' u/\u.plain=Cg d x y:=by
 obtain⟨R,hR⟩:∃R:Ending->Mem->Prop,R=λe V'=>V.sub V'/\∃u:Mm,e=.returned (.tuple #[.agg #[u.gs.v,u.ns.v],.int .i64 (Cp d x y)])/\Mm.Ok V' u/\u.plain=Cg d x y:=⟨_,rfl⟩;rw[<-hR];refine QC ?_;obtain⟨l1,l2,l3⟩:=Ja Gx;refine Tri.mono (Nb hx l1 l2 l3) ?_;rintro _ V1 ⟨gs,ns,nd,rfl,S⟩;have Gs:Ao d (AY x).mm:=Gx.plain (Ic _).symm;obtain⟨hg1,hg2,hnd⟩:=AM.pub K S Gs;have O:V.sub (V1.but ns):=S.nodes.sub_but;have B1:AZ (V1.but ns) V1 (QL 55 2 subV ns (nd.flatMap Nd.row)):=AZ.mk (QL.over Ik) ⟨V1,S.nodes.but,Mem.sub.refl _⟩ (Mem.sub.refl _);refine⟨gs,ns,rfl,Tri.mono (B1.run (R:=λe U'=>∃c:Mm,e=.returned (.agg #[c.gs.v,c.ns.v])/\Mm.Ok U' c/\c.plain=Db d y) λU A=>Rv (K.sub (O.trans A)) (hy.sub (O.trans A)) Gy) ?_⟩;rintro _ V2 ⟨D2,I,⟨c,rfl,T,L⟩,B2⟩;have Gp:=No Gy;have Gc:Ao d c:=Gp.plain ((GA _).trans L.symm);obtain⟨p1,p2,p3,p4,p5⟩:=BG Gc.mem;obtain⟨hg8,hf12⟩:=JX Gc.valid;have hcn:c.nodes.map (λn=>(n.ty,n.f))=(Db d y).2:=(wm L).2;have hcg:c.globals=(Db d y).1:=(wm L).1;have hnl:nd.length=x.nodes.length:=by
  have:=congrArg List.length S.eq;simpa [AY]using this
 have hxn:=hx.nodes.n_eq;have dV:=O.trans I;refine⟨_,_,rfl,λr ys V3=>∃(j:Nat)(h:Sl)(D3:Mem)(nodes:List Nd),r=c.nodes.length-j/\j<=c.nodes.length/\ys=[gs.v,.slice h.p h.n h.c,.int .i64 j]/\D2.sub D3/\AZ D3 V3 (QL 55 2 subV h (nodes.flatMap Nd.row))/\(nodes.map λn=>(n.ty,n.f))=(x.nodes.map λn=>(n.ty,n.f))++((Db d y).2.take j).map (λn=>(n.1,Fh (Bi d n.1) n.2 x.nodes.length))/\∀n∈nodes,Nd.Ok D3 n,
  c.nodes.length,⟨0,ns,D2,nd,rfl,Nat.zero_le _,rfl,Mem.sub.refl _,B2,?_,λn hn=>(hnd n hn).sub I⟩,?_⟩
 ·rw[List.take_zero,List.map_nil,wD];exact S.eq
 rintro r V3 v16 h v18 ⟨j,ns'',D3,nodes,rfl,hj,hys,w,B3,hnp,Y⟩ J hJ;simp only[yF,and_true]at hys;obtain⟨q1,q2,q3⟩:=hys;cases Bv _ _ q1;cases Bv _ _ q2;cases Cu _ _ q3;have e3:=B3.sub;have d3:=dV.trans (w.trans e3);have q:=T.nodes.sub (w.trans e3);have hccn:=q.n_eq;have hpl:(Db d y).2.length=c.nodes.length:=by grind
 have hnl3:nodes.length=x.nodes.length+j:=by
  have:=congrArg List.length hnp;grind
 refine⟨λH=>?_,λhge=>?_⟩
 ·have H:(j:Int)<(c.ns.n:Int):=H;obtain⟨z,G,hz,-,hjl,hpz,hzz,hrz⟩:=q.get H;obtain⟨c1,c2⟩:=of_decide_eq_true (p3 z G);obtain⟨tj,X⟩:∃tj:Nat,z.ty=(tj:Int):=⟨_,(Int.toNat_of_nonneg c1).symm⟩;have htn:=K.types.n_eq;obtain⟨t,htm,ht,-,htl,hpt,hzt,hrt⟩:=(K.types.sub d3).get (i:=tj) (by omega);have hfo:=Ef ht X;have k:=p5 z G;rw[hfo]at k;have hln:=HG k;have h12:=hf12 t htm;refine⟨hpz,hzz,H,_,_,hrz,?_⟩;rw[X];refine⟨hpt,hzt,by omega,Al hpt,_,_,hrt,?_⟩;rw[hxn];refine Tri.mono (B3.run (R:=λe U'=>∃s:Sl,e=.returned (.slice s.p s.n s.c)/\Ad U' s 1 ((Fh t.fields z.f x.nodes.length).map Ak)) λU A=>Tri.mono (Ru (n:=x.nodes.length) ((K.typesOk t htm).fields.sub (dV.trans (w.trans A))) ((T.nodesOk z G).rows.sub (w.trans A)) hln (λi f v hf hv hp=>?_) (by omega) (by omega)) ?_) ?_
  ·by_cases Z:v=0;·subst Z;omega
   ·have:=Hb k hf hv hp Z;omega
  ·rintro _ U' ⟨s,rfl,o⟩;exact⟨o.sub,s,rfl,o.rows (λ_=>rfl) (by decide)⟩
  rintro _ V4 ⟨D4,B,⟨s,rfl,hs⟩,B4⟩;refine⟨s,rfl,λtb htb=>?_⟩;obtain⟨nw,hnw⟩:∃nw:Nd,nw=⟨z.ty,s,Fh t.fields z.f x.nodes.length⟩:=⟨_,rfl⟩;refine pushL (x:=nw) app47 (λ_=>rfl) Ik B4 htb (by omega) rfl rfl (by rw[hnw,X];rfl) λns3 V6 B6=>⟨ns3,rfl,q.succ H,hJ _ _ _ (show c.nodes.length-(j+1)<c.nodes.length-j by omega) ⟨j+1,ns3,D4,nodes++[nw],rfl,by omega,rfl,w.trans B,B6,?_,λm hm=>?_⟩⟩;·grind[Db,w8,Option.toList_some,vd,List.append_assoc]
  ·rcases List.mem_append.1 hm with hm|hm;·exact(Y m hm).sub B
   ·rw[zO.1 hm,hnw];refine⟨hs,(T.nodesOk z G).tyIn,λv hv=>?_⟩;obtain⟨i,hi⟩:=List.mem_iff_getElem?.1 hv;have hil:i<(Fh t.fields z.f x.nodes.length).length:=(yu.1 hi).1;rw[Lu hln]at hil;have hfi:=yr (l:=t.fields) (i:=i) (by omega);have hvi:=yr (l:=z.f) (i:=i) (by omega);rw[Lv hfi hvi]at hi;split at hi;·rw[<-vN hi];exact(T.nodesOk z G).vals _ (List.getElem_mem _)
    ·rename_i hno;rw[<-vN hi];have Z:z.f[i]'(by omega)≠0:=λe=>hno (.inr e);have hp:AF (t.fields[i]'(by omega)).ty=false:=(vy _).mp λe=>hno (.inl e);have:=Hb k hfi hvi hp Z;unfold DZ;omega
 ·have hge:¬(j:Int)<(c.ns.n:Int):=hge;have hjl:j=c.nodes.length:=by omega
  subst hjl;rw[wZ (by omega)]at hnp;obtain⟨D4,B,hns,B4⟩:=QL.pub (row:=Nd.row) Ik (λ_=>rfl) (by decide) B3;have e4:=B4.sub;have hgl8:=HG p4;have W:=T.globals.sub (w.trans e3);have hcgn:=W.n_eq;have hl0:0<c.globals.length:=by grind
  obtain⟨v,hvm,hv,-,-,C,hzg,E⟩:=W.get (i:=0) (by omega);have hvd:(Db d y).1.headD 0=v:=by
   rw[<-hcg];cases e:c.globals with
   |nil=>simp_all
   |cons a l=>grind
  have fin:R (.returned (.tuple #[.agg #[gs.v,.slice h.p h.n h.c],.int .i64 (Cp d x y)])) V3:=by
   rw[hR];refine⟨d3,⟨gs,x.globals,h,nodes⟩,rfl,⟨(hg1.sub I).sub (w.trans e3),hg2,hns.sub e4,λn hn=>(Y n hn).sub e3⟩,?_⟩;unfold Mm.plain Cg;simp_all
  have A:Cp d x y=if v=0 then 0 else(x.nodes.length:Int)+v:=by unfold Cp;rw[hvd]
  refine⟨C,by omega,by omega,v,E,λZ=>?_,λZ=>⟨C,by omega,by omega,v,E,?_⟩⟩;·simp_all
  ·have Z:¬v=0:=Z;rw[if_neg Z]at A;have hvI:0<=v/\v<=1099511627776:=by
    have:=Hb p4 (by rw[hgl];rfl) hv hgp Z;omega
   rw[hxn];refine⟨⟨by omega,by omega⟩,⟨by omega,by omega⟩,Lx E,C,by omega,by omega,?_⟩;simp_all
end
def resA(n:Nat)(er:Int)(r:Rx Int):Int:=if er=0 then(if DI r=0 then(n:Int)else -1)else 0
def resO(er:Int)(r:Rx Int):Value:=if er=0 then .agg (Bo (DI r) (outV r) r.st.cm (Bh r.st.lg)).toArray else .agg (Bo 0 0 0 0).toArray
theorem resV_eq(n:Nat)(er:Int)(r:Rx Int):resV n er r=.tuple #[.int .i64 (resA n er r),resO er r,.int .i64 er]:=by
 grind[resV,resA,resO]
theorem resO_form(er:Int)(r:Rx Int):∃a1 a2 a3 h k:Int,resO er r=.agg #[.int .i64 a1,.int .i64 a2,.int .i64 a3,.int .i64 h,.int .i64 k]:=by
 unfold resO;split;·exact⟨_,_,_,_,_,rfl⟩
 ·exact⟨_,_,_,_,_,rfl⟩
def E4(d:Ds)(P M:Sl):Value:=.agg #[Go.Sx.vS d.name,d.ts.v,d.gs.v,d.ps.v,d.ms.v,d.is.v,d.qs.v,d.bs.v,P.v,M.v]
def RefP(V:Mem)(d:Ds)(ps:List PV)(F:Int)(x:Sp):Ending->Mem->Prop:=λe V'=>V.sub V'/\∃h k:Sl,CR V' h k (CV d (Cr d F.toNat ps x) ps (FD x) (Cb d F ps x))/\e=.returned (.tuple #[E4 d h k,.int .i64 (resA ps.length (Cb d F ps x) (Cr d F.toNat ps x)),resO (Cb d F ps x) (Cr d F.toNat ps x),.int .i64 (Cb d F ps x)])
section
variable{V:Mem}{P M:Sl}{ps:List PV}{d:Ds}{a b F:Int}{nm:KB}{args:List Int}{l:Sl}
theorem RefP.bad{V':Mem}{er:Int}{x:Sp}{e:Ending}(h:CR V P M ps)(k:V.sub V')(g:Cb d F ps x=er)(f:er≠0)(t:e=.returned (.tuple #[E4 d P M,.int .i64 0,.agg (Bo 0 0 0 0).toArray,.int .i64 er])):RefP V d ps F x e V':=by
 refine⟨k,P,M,?_,?_⟩;·rw[g];unfold CV;rw[if_neg f];exact h.sub k
 grind[resA,resO]
theorem memS_pl{m:Mm}{v:Int}(h:m.plain=(ps.getD v.toNat pv0).m):(Bl ps v).plain=m.plain:=by
 unfold Bl;rw[GA,h]
theorem Ry(h:CR V P M ps)(X:E2 d ps)(Y:Ds.Ok V d)(W:Ad V l 1 (args.map Ak))(T:F<=4000∨1048576<F)(t:ps.length<=900):
  Tri xG 90 #[E4 d P M,.int .i64 a,.agg #[.string nm,l.v],.int .i64 F] V (RefP V d ps F ⟨false,a,b,nm,l,args⟩):=by
 obtain⟨R,o⟩:∃R,R=RefP V d ps F ⟨false,a,b,nm,l,args⟩:=⟨_,rfl⟩;rw[<-o];refine Qt ?_;obtain⟨c,B⟩:=h.lens;have e:Cb d F ps ⟨false,a,b,nm,l,args⟩=Dw d F ps a nm args:=rfl;refine mk43 (n:=P.n) rfl rfl (by omega) λg C=>⟨⟨some ⟨g,0,none⟩,P.n,P.n⟩,rfl,?_⟩;have f:=Mem.sub_new C (.cells (madeCells (Value.int .i64 0).cells (P.n*1)) 3 (0,0));refine(c138 (P':=⟨some ⟨g,0,none⟩,P.n,P.n⟩) (I:=Ai) (a:=0) (b:=0) (nm:=nm) (F:=F) (h.sub f) (Y.sub f) c (W.sub f)).call ⟨_,rfl,λk=>⟨λh=>absurd (show(1000:Int)<=(P.n:Int)from h) (by omega),λ_=>⟨λ_=>?_,λh=>absurd k h⟩⟩,λk=>⟨λh=>absurd h k,λ_=>?_⟩⟩;rotate_left;·rw[o];exact RefP.bad h f e k rfl
 have k:Dw d F ps a nm args=0:=k;have U:0<=F/\F<=1048576:=by
  grind[Dw]
 obtain⟨n,rfl⟩:∃n:Nat,F=(n:Int):=⟨F.toNat,by omega⟩;obtain⟨hv,hi,-,hc⟩:=vc_zero k;obtain⟨m,u,w,y,j,s,H⟩:=(h.sub f).mem hv;have r:=memS_pl H;have Gm:Ao d m:=(X.mem hv).plain r;have J:AQ d m nm args=0:=by grind[I9]
 refine⟨u,w,y,_,_,j,Lx j,u,w,y,λE G=>?_⟩;have A:=Mem.sub_new G (.cells #[.int .i64 a] 3 (0,0));have q:=f.trans A;refine Tri.mono (c137 (F:=n) (pl:=⟨some ⟨E,0,none⟩,1,1⟩) (par:=[a]) (h.sub q) (Y.sub q) (s.sub A) Gm (W.sub q) J (by omega) (FP _) t) ?_;rintro _ V4 ⟨K,O,S,Z,rfl⟩;refine⟨_,_,_,_,_,_,_,_,_,_,_,_,_,_,_,_,rfl,?_⟩;have L:Cr d (n:Int).toNat ps ⟨false,a,b,nm,l,args⟩=Cc d n (AC d nm) args (AY m):=by
  unfold Cr HI stM;simp only[Bool.false_eq_true,if_false,xu];rw[LB r]
 rw[o];refine⟨q.trans K,O,S,?_,?_⟩;·rw[e,k,L];unfold CV;rw[if_pos rfl];exact Z
 ·rw[e,k,L];rfl
theorem Rz(h:CR V P M ps)(O:E2 d ps)(w:Ds.Ok V d)(hF:F<=4000∨1048576<F)(c:ps.length<=900):
  Tri xG 89 #[E4 d P M,.int .i64 a,.int .i64 b,.string nm,.int .i64 F] V (RefP V d ps F ⟨true,a,b,nm,l,args⟩):=by
 obtain⟨R,A⟩:∃R,R=RefP V d ps F ⟨true,a,b,nm,l,args⟩:=⟨_,rfl⟩;rw[<-A];refine Qs ?_;obtain⟨hPn,hMn⟩:=h.lens;have I:=h;have hs:Cb d F ps ⟨true,a,b,nm,l,args⟩=Ek d F ps a b nm:=rfl;have bad:∀{V':Mem}{er:Int}{e:Ending},V.sub V'->Ek d F ps a b nm=er->er≠0->e=.returned (.tuple #[E4 d P M,.int .i64 0,.agg (Bo 0 0 0 0).toArray,.int .i64 er])->R e V':=λhs1 he h0 hh=>by
  rw[A];grind[RefP.bad]
 refine⟨λh1=>bad (Mem.sub.refl _) (by grind[Ek]) (by decide) rfl,λh1=>⟨λh2=>bad (Mem.sub.refl _) (by grind[Ek,inr]) (by decide) rfl,λh2=>?_⟩⟩;have h1:¬F<0:=h1;have h2:¬1048576<F:=h2;have hf:¬(F<0∨1048576<F):=by omega
 have nv:¬(BC ps a/\BC ps b)->Ek d F ps a b nm=24:=λk=>by grind[Ek]
 refine(c22 h).call ⟨_,rfl,λq=>(c22 h).call ⟨_,rfl,λo=>?_,λo=>bad (Mem.sub.refl _) (nv λk=>o (decide_eq_true k.2)) (by decide) rfl⟩,λq=>bad (Mem.sub.refl _) (nv λk=>q (decide_eq_true k.1)) (by decide) rfl⟩;have q:=of_decide_eq_true q;have o:=of_decide_eq_true o;have j:Ek d F ps a b nm=if AC d nm<0 then 9 else if CL d (Cq d nm)=true then(if 4096<(Cg d (Bl ps a) (Bl ps b)).2.length then 4 else 0)else 30:=by
  grind[Ek]
 refine(c136 w).call ⟨_,rfl,λh3=>bad (Mem.sub.refl _) ?_ (by decide) rfl,λh3=>?_⟩;·grind[AC]
 have h3:¬AC d nm<0:=h3;rw[if_neg h3]at j;obtain⟨i,hi,s⟩:=Jf h3;have hpn:=w.procs.n_eq;have hil:=(yu.1 s).1;obtain⟨y,L,hy,-,-,hp,hz,H⟩:=w.procs.get (i:=i) (by omega);rw[s]at hy;cases hy;have hI:Ci (λt:Pr=>decide (t.name=nm)) d.procs=(i:Int):=hi;rw[hI];refine⟨hp,hz,by omega,_,_,_,_,_,H,(Rr w (w.procsOk _ L)).call ⟨_,rfl,λhm=>?_,λhm=>bad (Mem.sub.refl _) (by grind) (by decide) rfl⟩⟩;have hm:CL d (Cq d nm)=true:=hm;rw[if_pos hm]at j;obtain⟨f,g,gl,hm1,X,B,J⟩:=Np hm;rw[B]at J;obtain⟨x,C,E,K,S,T,U⟩:=h.mem q;obtain⟨z,hz1,hz2,hz3,hz4,hz5,hz6⟩:=h.mem o;have G:=memS_pl U;have Z:=memS_pl hz6;obtain⟨u1,u2⟩:=O8 (d:=d) G Z;have Gx:=(O.mem q).plain G;have Gz:=(O.mem o).plain Z;refine⟨C,E,K,_,_,S,hz1,hz2,hz3,_,_,hz4,Tri.mono (Rw w T hz5 Gx Gz X J) ?_⟩;rintro _ V5 ⟨s5,u,rfl,hu,Y⟩;have hun:=hu.nodes.n_eq;have hul:(Cg d (Bl ps a) (Bl ps b)).2.length=u.nodes.length:=by
  rw[u1,<-Y];exact xi ..
 rw[hul]at j;refine⟨_,_,_,rfl,λh=>absurd (show(1000:Int)<=(P.n:Int)from h) (by omega),λ_=>⟨λh=>bad s5 ?_ (by decide) rfl,λh=>?_⟩⟩;·omega
 have h4:¬(4096:Int)<(u.ns.n:Int):=h;rw[if_neg (by omega)]at j;obtain⟨n,rfl⟩:∃n:Nat,F=(n:Int):=⟨F.toNat,by omega⟩;obtain⟨-,-,GU,W,-,-⟩:=Nq O j;have r:(Cz (Cg d (Bl ps a) (Bl ps b))).plain=u.plain:=by rw[GA,Y,u1]
 have Gu:=GU.plain r;rw[u2,I9 r]at W;intro tc htc te hte;have t1:=Mem.sub_new htc (.cells #[.int .i64 (Cp d x z)] 3 (0,0));have t2:=Mem.sub_new hte (.cells #[.int .i64 a,.int .i64 b] 3 (0,0));have s7:=s5.trans (t1.trans t2);refine Tri.mono (c137 (m:=u) (nm:=nm) (args:=[Cp d x z]) (l:=⟨some ⟨tc,0,none⟩,1,1⟩) (F:=n) (pl:=⟨some ⟨te,0,none⟩,2,2⟩) (par:=[a,b]) (I.sub s7) (w.sub s7) (hu.sub (t1.trans t2)) Gu ((FP (V:=V5) (b:=tc) _).sub t2) W (by omega) (Ji a b) c) ?_;rintro _ V8 ⟨s8,P',M',hR',rfl⟩;refine⟨_,_,_,_,_,_,_,_,_,_,_,_,_,_,_,_,rfl,?_⟩;have e2:Cr d (n:Int).toNat ps ⟨true,a,b,nm,l,args⟩=Cc d n (AC d nm) [Cp d x z] (AY u):=by
  unfold Cr HI stM;simp only[if_true,xu];rw[u2,LB r]
 rw[A];refine⟨s7.trans s8,P',M',?_,?_⟩;·rw[hs,j,e2];unfold CV;rw[if_pos rfl];exact hR'
 ·rw[hs,j,e2];rfl
theorem RA{x:Sp}(h:CR V P M ps)(O:E2 d ps)(A:Ds.Ok V d)(X:Ad V x.sl 1 (x.args.map Ak))(I:F<=4000∨1048576<F)(g:ps.length<=900):
  Tri xG 57 #[E4 d P M,.agg #[.bool x.meld,.int .i64 x.a,.int .i64 x.b,.string x.nm,x.sl.v],.int .i64 F] V (RefP V d ps F x):=by
 obtain⟨mb,a,b,nm,l,args⟩:=x;obtain⟨R,L⟩:∃R,R=RefP V d ps F ⟨mb,a,b,nm,l,args⟩:=⟨_,rfl⟩;rw[<-L];refine P2 ?_;have f:∀{e:Ending}{V':Mem},RefP V d ps F ⟨mb,a,b,nm,l,args⟩ e V'->∃(t:KB)(u w y j m r q o c:Sl)(s H J G Z Y W:Int),e=rT #[uA #[uS t,uL u,uL w,uL y,uL j,uL m,uL r,uL q,uL o,uL c],uI s,uA #[uI H,uI J,uI G,uI Z,uI Y],uI W]/\R (rT #[uA #[uS t,uL u,uL w,uL y,uL j,uL m,uL r,uL q,uL o,uL c],uI s,uA #[uI H,uI J,uI G,uI Z,uI Y],uI W]) V':=λk=>by
  obtain⟨B,C,E,K,rfl⟩:=k;obtain⟨a1,a2,a3,S,T,e⟩:=resO_form (Cb d F ps ⟨mb,a,b,nm,l,args⟩) (Cr d F.toNat ps ⟨mb,a,b,nm,l,args⟩);rw[e];refine⟨_,_,_,_,_,_,_,_,_,_,_,_,_,_,_,_,_,rfl,?_⟩;rw[L];exact⟨B,C,E,K,by rw[e];rfl⟩
 refine⟨λh1=>?_,λh1=>?_⟩
 ·obtain rfl:mb=true:=h1;exact Tri.mono (Rz (l:=l) (args:=args) h O A I g) λe V' h=>f h
 ·obtain rfl:mb=false:=(vy _).mp h1;exact Tri.mono (Ry (b:=b) h O A X I g) λe V' h=>f h
theorem RB(t:Ds.Ok V d)(g:d.globals.length<=8):Tri xG 56 #[d.v] V λe V'=>V.sub V'/\∃P M:Sl,e=.returned (E4 d P M)/\CR V' P M [⟨(BX d Ai).plain,[],1⟩]:=by
 obtain⟨R,u⟩:∃R:Ending->Mem->Prop,R=λe V'=>V.sub V'/\∃P M:Sl,e=.returned (E4 d P M)/\CR V' P M [⟨(BX d Ai).plain,[],1⟩]:=⟨_,rfl⟩;rw[<-u];refine P0 ?_;have one:∀{V1:Mem}{s:Sl},V.sub V1->Mm.Ok V1 (BX d s)->∀b1,V1 b1=none->∀b2,(V1.set b1 (.cells #[.slice none 0 0] 43 (0,0))) b2=none->R (.returned (E4 d ⟨some ⟨b1,0,none⟩,1,1⟩ ⟨some ⟨b2,0,none⟩,1,1⟩)) ((V1.set b1 (.cells #[.slice none 0 0] 43 (0,0))).set b2 (.cells #[s.v,Ai.v] 49 (0,0))):=λ{V1 s} k hm b1 h1 b2 h2=>by
  have w:=Mem.sub_new h1 (.cells #[.slice none 0 0] 43 (0,0));have f:=Mem.sub_new h2 (.cells #[s.v,Ai.v] 49 (0,0));rw[u];refine⟨k.trans (w.trans f),_,_,rfl,[Ai],[BX d s],?_,?_,rfl,rfl,λi q v h hv=>?_,λi q v h hv=>?_⟩;·exact(Ad.cells (xs:=[Ai]) (row:=slRow) Az rfl (λ_=>rfl) rfl (by simp)).sub f
  ·exact Ad.cells (xs:=[BX d s]) (row:=Mm.row) Az rfl (λ_=>rfl) rfl (by simp)
  ·match i,h,hv with
   |0,h,hv=>cases h;cases hv;exact Ad.nil
   |i+1,h,hv=>cases h
  ·match i,h,hv with
   |0,h,hv=>cases h;cases hv;exact⟨hm.sub (w.trans f),rfl⟩
   |i+1,h,hv=>cases h
 refine⟨Tri.mono (Nn t g) ?_,Tri.mono (Nn t g) ?_⟩
 ·rintro _ V1 ⟨k,s,rfl,hm⟩;exact⟨_,_,rfl,λb1 h1 b2 h2=>one k hm b1 h1 b2 h2,λb1 h1 b2 h2=>one k hm b1 h1 b2 h2⟩
 ·rintro _ V1 ⟨k,s,rfl,hm⟩;exact⟨_,_,rfl,λb1 h1 b2 h2=>one k hm b1 h1 b2 h2⟩
end
def Sp.row(x:Sp):List Value:=[.bool x.meld,.int .i64 x.a,.int .i64 x.b,.string x.nm,x.sl.v]
structure GF (V:Mem)(l:Sl)(xs:List Sp):Prop where
 rows:Ad V l 5 (xs.map Sp.row)
 args:∀x∈xs,Ad V x.sl 1 (x.args.map Ak)
theorem GF.sub{V V':Mem}{l:Sl}{xs:List Sp}(h:GF V l xs)(s:V.sub V'):GF V' l xs:=⟨h.rows.sub s,λx k=>(h.args x k).sub s⟩
def RC:Value:=.agg #[Go.Sx.vS (Ac []),Ai.v,Ai.v,Ai.v,Ai.v,Ai.v,Ai.v,Ai.v,Ai.v,Ai.v]
structure FT (ps:List PV):Prop where
 z:∃v l,ps=v::l/\v.paths=1/\v.par=[]
 st:∀(i:Nat) v,1<=i->ps[i]?=some v->v.paths=DJ (ps.take i) v.par/\v.par.length<=2/\∀p∈v.par,BC (ps.take i) p
theorem FT.start{m:List Int×List (Int×List Int)}:FT [⟨m,[],1⟩]:=⟨⟨_,[],rfl,rfl,rfl⟩,λi v hi h=>by
 grind⟩
theorem FT.next{d:Ds}{r:Rx Int}{ps:List PV}{par:List Int}{er:Int}(h:FT ps)(f:er=0->∀q∈par,BC ps q)(h2:par.length<=2):FT (CV d r ps par er):=by
 unfold CV runV;by_cases g:er=0;rotate_left;·simp_all
 rw[if_pos g];by_cases t:DI r=0;rotate_left;·simp_all
 rw[if_pos t];refine⟨?_,λi v hi hv=>?_⟩
 ·obtain⟨v,l,e,hv⟩:=h.z;simp_all
 ·by_cases u:i<ps.length
  ·rw[List.getElem?_append_left u]at hv;rw[List.take_append_of_le_length (by omega)];exact h.st i v hi hv
  ·have w:=(yu.1 hv).1;have k:i=ps.length:=by grind
   subst k;rw[List.getElem?_append_right (yW _),Nat.sub_self]at hv;cases hv;rw[List.take_left'];·exact⟨rfl,h2,f g⟩
   ·rfl
theorem stP_len(x:Sp):(FD x).length<=2:=by
 grind[FD]
def PlayQ(V:Mem)(d:Ds)(n:Nat):Ending->Mem->Prop:=λe V'=>V.sub V'/\
 ((¬Ao d (BX d Ai)/\e=.returned (.tuple #[.pointer none,RC,.bool true]))∨
 (Ao d (BX d Ai)/\∃(p:Nat)(D:Mem)(P M:Sl)(ps:List PV),e=.returned (.tuple #[pv p,E4 d P M,.bool true])/\V.sub D/\Cs D V' p d ps/\CR D P M ps/\ps.length<=1+n/\FT ps))
section
variable{V D:Mem}{d:Ds}{p:Nat}{ps:List PV}
theorem Cs.gv(h:Cs D V p d ps):E2 d ps:=by
 obtain⟨vs,k,rfl,H⟩:=h;exact H.inv.gv
theorem Cs.sub(h:Cs D V p d ps):D.sub V:=by
 obtain⟨vs,k,rfl,H⟩:=h;exact H.bs.sub
theorem Cs.run{P:Program}{f:FuncId}{args:Array Value}{R:Ending->Mem->Prop}(h:Cs D V p d ps)(H:∀U,D.sub U->Tri P f args U λe t=>U.sub t/\R e t):
  Tri P f args V λe V'=>∃g,D.sub g/\R e g/\Cs g V' p d ps:=by
 obtain⟨vs,k,rfl,K⟩:=h;refine Tri.mono (K.bs.run H) ?_;rintro e V' ⟨g,h1,h2,h3⟩;exact⟨g,h1,h2,vs,k,rfl,λv hv=>(K.ok v hv).sub h1,K.inv,h3⟩
theorem Cs.new{D V:Mem}{v:Vr}(G:Ao d (BX d Ai))(hv:Vr.Ok D v)(h:v.pv=⟨(BX d Ai).plain,[],1⟩)(g:v.cells=[])(B:AZ D V (Cn p d [v] 0)):Cs D V p d [⟨(BX d Ai).plain,[],1⟩]:=by
 have h1:v.m.plain=(BX d Ai).plain:=congrArg PV.m h;have h2:v.m.nodes.length=0:=by
  simp_all[congrArg,List,Int,Mm.plain,BX]
 refine⟨[v],0,by simp_all,λw hw=>by simp_all,⟨⟨λw hw=>?_,λw hw=>?_,λw hw q f=>?_,by simp⟩,λw hw=>?_,λw hw=>?_,λw hw=>?_,λw hw c k=>?_,Int.le_refl _,by simp⟩,B⟩
 ·rw[vd,h]at hw;rw[zO.1 hw];exact G.plain (GA _).symm
 ·grind[BR]
 ·simp_all
 ·rw[zO.1 hw];exact G.plain h1.symm
 ·simp_all
 ·simp_all
 simp_all
theorem next_ne{r:Rx Int}{par:List Int}{er:Int}(h:ps≠[]):CV d r ps par er≠[]/\ps.length<=(CV d r ps par er).length/\(CV d r ps par er).length<=ps.length+1:=by
 grind[CV,runV]
theorem good_iff:decide (C8 d (BX d Ai) 0=0)=true↔Ao d (BX d Ai):=by
 grind[C8]
theorem Ny[Tab V](y:Ds.Ok V d){l:Sl}{xs:List Sp}(S:GF V l xs)(hxs:xs.length<=800):Tri xG 19 #[d.v,l.v] V (PlayQ V d xs.length):=by
 obtain⟨R,T⟩:∃R,R=PlayQ V d xs.length:=⟨_,rfl⟩;rw[<-T];refine QB ?_;refine Tri.mono (Nu y) ?_;rintro _ V1 ⟨s1,⟨hG,rfl⟩|⟨G,p,D,v,rfl,hD,hv,hpv,hcl,B⟩⟩
 ·refine⟨_,_,rfl,(O3 (y.sub s1)).call ⟨_,rfl,λh=>absurd (good_iff.1 h) hG,λ_=>⟨λ_=>?_,λh=>absurd rfl h⟩⟩⟩;rw[T];exact⟨s1,.inl ⟨hG,rfl⟩⟩
 refine⟨_,_,rfl,(O3 (y.sub s1)).call ⟨_,rfl,λ_=>?_,λh=>absurd (good_iff.2 G) h⟩⟩;have A1:=Cs.new G hv hpv hcl B;refine Tri.mono (A1.run (R:=λe U'=>∃P M:Sl,e=.returned (E4 d P M)/\CR U' P M [⟨(BX d Ai).plain,[],1⟩]) λU o=>RB (y.sub (hD.trans o)) (JX G.valid).1) ?_;rintro _ V3 ⟨D3,hD3,⟨P,M,rfl,hRf⟩,A3⟩;refine⟨_,_,_,_,_,_,_,_,_,_,rfl,λ_=>⟨λh=>absurd h nn,λ_=>?_⟩,λh=>absurd rfl h⟩;have d3:=hD.trans hD3;refine⟨λr ys V4=>∃(j:Nat)(P M:Sl)(s:Mem)(ps:List PV),r=xs.length-j/\j<=xs.length/\ys=[.string d.name,d.ts.v,d.gs.v,d.ps.v,d.ms.v,d.is.v,d.qs.v,d.bs.v,.slice P.p P.n P.c,.slice M.p M.n M.c,.pointer none,.bool false,.int .i64 j]/\D3.sub s/\Cs s V4 p d ps/\CR s P M ps/\ps.length<=1+j/\FT ps,xs.length,⟨0,P,M,D3,_,rfl,Nat.zero_le _,rfl,Mem.sub.refl _,A3,hRf,by simp,.start⟩,?_⟩;rintro r V4 v22 v23 v24 v25 v26 v27 v28 v29 P4 M4 v32 v33 v34 ⟨j,P',M',s,ps,rfl,hj,Z,Y,K,f,hpl,W⟩ J hJ;simp only[yF,and_true]at Z;obtain⟨q1,q2,q3,q4,q5,q6,q7,q8,q9,q10,q11,q12,q13⟩:=Z;cases inj_s _ _ q1;cases Bv _ _ q2;cases Bv _ _ q3;cases Bv _ _ q4;cases Bv _ _ q5;cases Bv _ _ q6;cases Bv _ _ q7;cases Bv _ _ q8;cases Bv _ _ q9;cases Bv _ _ q10;cases inj_p _ _ q11;cases inj_b _ _ q12;cases Cu _ _ q13;have q:=d3.trans Y;have e4:=K.sub;have O:∀{D' V':Mem}{P M:Sl}{ps:List PV},V.sub D'->Cs D' V' p d ps->CR D' P M ps->ps.length<=1+xs.length->FT ps->R (.returned (.tuple #[pv p,E4 d P M,.bool true])) V':=λh1 h2 h3 h4 h5=>by
  rw[T];exact⟨h1.trans h2.sub,.inr ⟨G,p,_,_,_,_,rfl,h1,h2,h3,h4,h5⟩⟩
 have A:=S.sub (q.trans e4);refine⟨λu=>?_,λhge=>O q K f (by omega) W⟩;obtain⟨x,I,hx,-,hjl,hp,hz,L⟩:=A.rows.get u;have GV:=K.gv;obtain⟨vs,k,rfl,H⟩:=K;rw[xi]at hpl;haveI:Tab s:=Tab.sub (V:=V) inferInstance q;refine⟨hp,hz,u,_,_,_,_,_,L,Tri.mono (Rp H (y.sub q) ((S.args x I).sub q) (by omega)) ?_⟩;rintro _ V5 ⟨D5,w,A5,rfl⟩;obtain⟨a1,a2,a3,a4,a5,eo⟩:=resO_form (Cb d 120 (vs.map Vr.pv) x) (Cr d (120:Int).toNat (vs.map Vr.pv) x);rw[resV_eq,eo];refine⟨_,_,_,_,_,_,_,rfl,?_⟩;have d5:=q.trans w;refine Tri.mono (A5.run (R:=λe U'=>∃P' M':Sl,CR U' P' M' (CV d (Cr d (120:Int).toNat (vs.map Vr.pv) x) (vs.map Vr.pv) (FD x) (Cb d 120 (vs.map Vr.pv) x))/\e=.returned (.tuple #[E4 d P' M',.int .i64 (resA (vs.map Vr.pv).length (Cb d 120 (vs.map Vr.pv) x) (Cr d (120:Int).toNat (vs.map Vr.pv) x)),resO (Cb d 120 (vs.map Vr.pv) x) (Cr d (120:Int).toNat (vs.map Vr.pv) x),.int .i64 (Cb d 120 (vs.map Vr.pv) x)])) λU o=>RA (F:=120) (f.sub (w.trans o)) GV (y.sub (d5.trans o)) ((S.args x I).sub (d5.trans o)) (.inl (by decide)) (by grind)) ?_;rintro _ V6 ⟨D6,X,⟨P6,M6,g,rfl⟩,A6⟩;rw[eo];have C:=next_ne (d:=d) (r:=Cr d (120:Int).toNat (vs.map Vr.pv) x) (par:=FD x) (er:=Cb d 120 (vs.map Vr.pv) x) GV.ne;rw[xi]at C;have hM6:=g.lens.2;have t:=W.next (d:=d) (r:=Cr d (120:Int).toNat (vs.map Vr.pv) x) (par:=FD x) (er:=Cb d 120 (vs.map Vr.pv) x) (λh=>(st_zero (F:=120) GV h).2.2) (stP_len x);have hnz:0<(CV d (Cr d (120:Int).toNat (vs.map Vr.pv) x) (vs.map Vr.pv) (FD x) (Cb d 120 (vs.map Vr.pv) x)).length:=List.length_pos_iff.2 C.1;obtain⟨m,E,hm2,hm3,hm4,hm5,hm6⟩:=(g.sub A6.sub).mem (v:=(M6.n:Int)-1) ⟨by omega,by omega⟩;have d6:=d5.trans X;refine⟨_,_,_,_,_,_,_,_,_,_,_,_,_,_,_,_,_,rfl,λ_=>⟨λ_=>⟨λ_=>⟨⟨by omega,by omega⟩,E,hm2,hm3,Al E,_,_,hm4,λ_=>O d6 A6 g (by omega) t,λ_=>⟨A.rows.succ u,hJ _ _ _ (show xs.length-(j+1)<xs.length-j by omega) ⟨j+1,P6,M6,D6,_,rfl,hjl,rfl,Y.trans (w.trans X),A6,g,by omega,t⟩⟩⟩,λh=>absurd rfl h⟩,λh=>absurd ⟨rfl,rfl,rfl,rfl,rfl⟩ h⟩,λh=>absurd rfl h⟩
end
end Go.Proofs
namespace Go.Sx
open Go
section
variable{P:Program}{n:Nat}{ops:Array Oper}{Q:Exit->Act->World->Prop}
theorem Pc{F:Fence}{i:Nat}{o:Oper}{a:Act}{w:World}{K:Act->World->Prop}(u:ops[i]?=some o)(y:o.guard=none)(h:wpOpIn F n P ops Q i K a w):wpOpIn F n P ops Q i (λt w'=>(∃v,t.tmps=(a.put o.dst v).tmps)/\K t w') a w:=by
 unfold wpOpIn at*
 simp only[u]at*
 have hw:=Ih (ops:=ops) (a:=a) y;rw[if_pos hw]at h⊢;unfold Oper.wpIn at*
 refine⟨h.1,?_⟩;have h:=h.2;generalize(o.semAt F.round a.eval).run P w=r at*
 have k:∀(ds:List Deferred)(v:Value),(({a with defers:=ds}:Act).put o.dst v).tmps=(a.put o.dst v).tmps:=λds v=>by
  cases o.dst<;>rfl
 cases r with
 |ok x w'=>
  cases x<;>simp only[wi]at h⊢<;>
   first
    |exact⟨⟨_,rfl⟩,h⟩
    |exact⟨⟨_,k _ _⟩,h⟩
    |exact⟨h.1,vc h.2 (λe f g=>by cases e<;>first|exact⟨⟨_,rfl⟩,g⟩|exact g)⟩
    |exact⟨h.1,RowsIn.mono h.2 (λ_ _ g=>⟨⟨_,rfl⟩,g⟩)⟩
    |exact⟨h.1,vb h.2 (λe f g=>by cases e<;>first|exact⟨⟨_,rfl⟩,g⟩|exact g)⟩
    |exact h
 |halt x w'=>cases x<;>simp only[wi]at h⊢<;>exact h
theorem Pd{F:Fence}{i:Nat}{o:Oper}{a:Act}{w:World}{K u:Act->World->Prop}{g:Exit->Act->World->Prop}(j:ops[i]?=some o)(m:o.guard=none)(h:wpOpIn F n P ops g i K a w)(f:∀q a w,¬g (.panic q) a w)(y:¬LetsOut g)(hK:∀a w,K a w->u a w):
  wpOpIn F n P ops Q i u a w:=by
 unfold wpOpIn at*
 simp only[j]at*
 have hw:=Ih (ops:=ops) (a:=a) m;rw[if_pos hw]at h⊢;unfold Oper.wpIn at*
 refine⟨h.1,?_⟩;have h:=h.2;generalize(o.semAt F.round a.eval).run P w=r at*
 cases r with
 |ok x w'=>
  cases x<;>simp only[wi]at h⊢<;>
   first
    |exact hK _ _ h
    |exact⟨h.1,vc h.2 (λe t k=>by cases e<;>first|exact hK _ _ k|exact(f _ _ _ k).elim|exact(y k).elim)⟩
    |exact⟨h.1,RowsIn.mono h.2 (λ_ _ k=>hK _ _ k)⟩
    |exact⟨h.1,vb h.2 (λe t k=>by cases e<;>first|exact hK _ _ k|exact(f _ _ _ k).elim|exact(y k).elim)⟩
    |exact h
 |halt x w'=>
  cases x<;>simp only[wi]at h⊢;all_goals first|exact(f _ _ _ h).elim|exact h
def HJ(ops:Array Oper)(i:Nat):List Nat:=((ops[i]?).map λo=>(o.after.toList.filter (yS .any)).map (·.on)).getD []
def anyOk(ops:Array Oper)(M k0:Nat)(deps:Nat->List Nat):Bool:=
 decide (ops.size=M+1)&&decide ((ops[M]?).map (·.dst)=some none)&&(zB M).all (λi=>decide ((ops[i]?).map (·.dst)=some (some (k0+i))))&&(zB (M+1)).all (λi=>((ops[i]?).map λo=>o.guard.isNone).getD false&&(HJ ops i).all (λj=>decide (j<i))&&(deps i).all λj=>decide (j∈HJ ops i)) &&
  (zB M).all λj=>(zB (M+1)).any λi=>decide (j<i)&&decide (j∈HJ ops i)
theorem Pe{ops:Array Oper}{listed:Array Bool}{i:Nat}(h:i∈yz .any ops listed):i<ops.size/\listed.getD i true=false/\∀j∈HJ ops i,listed.getD j false=true:=by
 unfold yz at h;rw[yy,yZ,zC]at h;refine⟨h.1,by simpa using h.2.1,λj k=>?_⟩;unfold HJ at k;have h2:=h.2.2;cases g:ops[i]? with
 |none=>rw[g]at k;simp at k
 |some o=>
  rw[g]at k h2;simp only[zJ,xY,List.mem_map,yy,uC,wI]at k h2;obtain⟨e,⟨f,t⟩,rfl⟩:=k;have:=h2 e f;rw[t]at this;simpa using this
theorem ready_in{ops:Array Oper}{listed:Array Bool}{i:Nat}(hi:i<ops.size)(h1:listed.getD i true=false)(h2:∀j∈HJ ops i,listed.getD j false=true):i∈yz .any ops listed:=by
 unfold yz;rw[yy,yZ,zC];refine⟨hi,by simp[h1],?_⟩;have h:ops[i]?=some ops[i]:=Array.getElem?_eq_getElem hi;unfold HJ at h2;rw[h]at h2⊢;simp only[zJ,xY,List.mem_map,yy,uC,wI]at h2⊢;intro e k;cases g:yS .any e with
 |false=>rfl
 |true=>simpa using h2 e.on ⟨e,⟨k,g⟩,rfl⟩
theorem LC{l:Array Bool}{i:Nat}(hi:i<l.size)(a b:Bool):l.getD i a=l.getD i b:=by simp[z8,hi]
def unl(listed:Array Bool)(M:Nat):Nat:=((zB M).filter λi=>!listed.getD i true).length
theorem filt_le{α:Type}{p q:α->Bool}:∀{l:List α},(∀a∈l,q a=true->p a=true)->(l.filter q).length<=(l.filter p).length
 |[],_=>yW _
 |a::l,h=>by
  have k:=filt_le (l:=l) λx g=>h x (z6 _ g);have f:=h a za;rw[yA,yA];cases t:q a with
  |true=>rw[f t];simpa using k
  |false=>
   cases u:p a with
   |true=>simp;omega
   |false=>simpa using k
theorem filt_lt{α:Type}{p q:α->Bool}:∀{l:List α},(∀a∈l,q a=true->p a=true)->∀a∈l,p a=true->q a=false->(l.filter q).length<(l.filter p).length
 |[],_,a,k,_,_=>by cases k
 |b::l,h,a,k,f,t=>by
  have u:∀x∈l,q x=true->p x=true:=λx y=>h x (z6 _ y);rw[yA,yA];rcases List.mem_cons.1 k with rfl|hm
  ·rw[f,t];have:=filt_le u;simp;omega
  ·have w:=filt_lt u a hm f t;have j:=h b za;cases g:q b with
   |true=>rw[j g];simpa using w
   |false=>
    cases m:p b with
    |true=>simp;omega
    |false=>simpa using w
theorem unl_set{listed:Array Bool}{M i:Nat}(hi:i<M)(f:listed.size=M)(h:listed.getD i true=false):unl (listed.setIfInBounds i true) M<unl listed M:=by
 have h1:(listed.setIfInBounds i true).getD i true=true:=by simp[z8,f,hi]
 refine filt_lt (λj _ k=>?_) i (yZ.2 hi) (by rw[h];rfl) (by rw[h1];rfl);by_cases g:j=i;·subst g;rw[h1]at k;cases k
 ·have:(listed.setIfInBounds i true).getD j true=listed.getD j true:=by
   simp[wX,uE (Ne.symm g)]
  rw[this]at k;exact k
theorem unl_zero{listed:Array Bool}{M:Nat}(k:listed.size=M)(h:unl listed M=0):∀i,i<M->listed.getD i false=true:=λi hi=>by
 unfold unl at h;have:=List.eq_nil_of_length_eq_zero h;rw[List.filter_eq_nil_iff]at this;have:=this i (yZ.2 hi);rw[LC (by omega) false true];simpa using this
section
variable{M k0 N:Nat}{deps:Nat->List Nat}{Pr:Nat->Value->Mem->Prop}{Φ:Mem->Prop}{V:Mem}{base:List (Nat×Value)}{a0:Act}{w0:World}
theorem anyR_sound(chk:anyOk ops M k0 deps=true)(mono:∀i v V1 V2,V1.sub V2->Pr i v V1->Pr i v V2)(C:∀s v,base.lookup s=some v->s<k0)
  (hN:k0+M<=N)
  (E:∀i,i<M->∀V1,V.sub V1->∀val:Nat->Value,(∀j∈deps i,Pr j (val j) V1)->∃t,(∀s v,t.lookup s=some v->base.lookup s=some v∨∃j∈deps i,s=k0+j/\v=val j)/\Ay P N ops i 1 t [k0+i] V1 λvs V2=>∃v,vs=[v]/\V1.sub V2/\Pr i v V2)
  (K:∀V1,V.sub V1->∀val:Nat->Value,(∀j∈deps M,Pr j (val j) V1)->∃t,(∀s v,t.lookup s=some v->base.lookup s=some v∨∃j∈deps M,s=k0+j/\v=val j)/\Ay P N ops M 1 t [] V1 λ_ V2=>Φ V2)
  (hQ:∀W w' V',W.defers=a0.defers->Has N W base->Φ V'->Aw V w0 V' w'->Q .normal W w'):
  ∀(fuel:Nat)(listed:Array Bool)(a:Act)(w:World),listed.size=M+1->unl listed (M+1)<=fuel->
   ((∃V1,V.sub V1/\Aw V w0 V1 w/\a.defers=a0.defers/\Has N a base/\listed.getD M false=false/\(∀i,i<M->listed.getD i false=true->Pr i (a.tmps.getD (k0+i) undef) V1)/\∀i,i<M->listed.getD i false=true->∀j∈HJ ops i,listed.getD j false=true)∨((∀i,i<M+1->listed.getD i false=true)/\Q .normal a w))->
   wpAnyIn (AN none) n P .any ops Q fuel listed a w:=by
 unfold anyOk at chk;simp only[zC,decide_eq_true_eq,List.all_eq_true,yZ,List.any_eq_true]at chk;obtain⟨⟨⟨⟨c1,c0⟩,c2⟩,c3⟩,c4⟩:=chk;have op:∀i,i<M+1->∃o,ops[i]?=some o/\o.guard=none:=λi hi=>by
  have:=(c3 i hi).1.1;cases O:ops[i]? with
  |none=>rw[O]at this;cases this
  |some o=>
   rw[O]at this;refine⟨o,rfl,?_⟩;cases hg:o.guard with
   |none=>rfl
   |some g=>simp[hg]at this
 have r:∀listed:Array Bool,listed.size=M+1->yz .any ops listed=[]->∀i,i<M+1->listed.getD i false=true:=λlisted S hr i=>by
  induction i using Nat.strongRecOn with
  |ind i ih=>
   intro hi;cases h:listed.getD i false with
   |true=>rfl
   |false=>
    have:i∈yz .any ops listed:=ready_in (by omega) (by rw[LC (by omega) true false];exact h) λj e=>by
     have y:=(c3 i hi).1.2 j e;exact ih j y (by omega)
    rw[hr]at this;cases this
 intro fuel;induction fuel with
 |zero=>
  intro listed a w S hu hI;have m:=unl_zero S (by omega);rw[wpAnyIn];rcases hI with⟨V1,-,-,-,-,T,-⟩|⟨-,hq⟩;·rw[m M (by omega)]at T;cases T
  ·refine⟨?_,hq⟩;cases hr:yz .any ops listed with
   |nil=>rfl
   |cons i l=>
    obtain⟨h1,h2,-⟩:=Pe (hr▸za:i∈yz .any ops listed);rw[LC (by omega) true false,m i (by omega)]at h2;cases h2
 |succ fuel ih=>
  intro listed a w S hu hI;rw[wpAnyIn];refine⟨λhr=>?_,λi hi=>?_⟩
  ·rcases hI with⟨V1,-,-,-,-,T,-⟩|⟨-,hq⟩;·rw[r listed S hr M (by omega)]at T;cases T
   ·exact hq
  ·obtain⟨h1,h2,h3⟩:=Pe hi;have q:i<M+1:=by omega
   rcases hI with⟨V1,H,hF,hdf,hH,T,hP,hC⟩|⟨m,-⟩;rotate_left;·rw[LC (by omega) true false,m i q]at h2;cases h2
   obtain⟨o,O,hg⟩:=op i q;have hs':(listed.setIfInBounds i true).size=M+1:=by simp[S]
   have hu':unl (listed.setIfInBounds i true) (M+1)<=fuel:=by have:=unl_set q S h2;omega
   have c:(listed.setIfInBounds i true).getD i false=true:=by simp[z8,S,q]
   have f:∀j,j≠i->(listed.setIfInBounds i true).getD j false=listed.getD j false:=λj e=>by
    simp[wX,uE (Ne.symm e)]
   have U:∀j∈deps i,j<i/\listed.getD j false=true:=λj e=>⟨(c3 i q).1.2 j ((c3 i q).2 j e),h3 j ((c3 i q).2 j e)⟩;have L:∀j∈deps i,Pr j (a.tmps.getD (k0+j) undef) V1:=λj e=>by
    have:=U j e;exact hP j (by omega) this.2
   have hin:∀(t:List (Nat×Value)),(∀s v,t.lookup s=some v->base.lookup s=some v∨∃j∈deps i,s=k0+j/\v=a.tmps.getD (k0+j) undef)->∀s v,t.lookup s=some v->a.tmps.getD s undef=v:=λt h s v hl=>by
    rcases h s v hl with h|⟨j,-,rfl,rfl⟩;·exact hH.2 s v h
    ·rfl
   by_cases A:i<M
   ·obtain⟨t,J,G⟩:=E i A V1 H (λj=>a.tmps.getD (k0+j) undef) L;have hw:=G none n a w hF.le hH.1 (hin t J);rw[show List.range' i 1=[i]from rfl,wpOpsIn_cons]at hw;have Z:o.dst=some (k0+i):=by have:=c2 i A;rw[O]at this;simpa using this
    have hfin:wpOpIn (AN none) n P ops Q i (wpAnyIn (AN none) n P .any ops Q fuel (listed.setIfInBounds i true)) a w:=by
     refine Pd O hg (Pc O hg hw) (λ_ _ _ h=>by cases h.1) (λh=>by obtain⟨_,_,h,_⟩:=h;cases h) ?_;rintro W w' ⟨⟨v,hv⟩,-,hd',hs2,vs,V2,hlook,⟨u,rfl,Y,hPu⟩,hF2⟩;rw[Z]at hv;have X:∀s,s≠k0+i->W.tmps.getD s undef=a.tmps.getD s undef:=λs hne=>by
      rw[hv];simp[Act.put,wX,uE (Ne.symm hne)]
     refine ih _ W w' hs' hu' (.inl ⟨V2,H.trans Y,hF.trans hF2,hd'.trans hdf,⟨hs2,λs v I=>?_⟩,?_,λj e hl=>?_,λj e hl k hk=>?_⟩);·rw[X s (by have:=C s v I;omega)];exact hH.2 s v I
     ·rw[f M (by omega)];exact T
     ·by_cases y:j=i
      ·subst y;have:=hlook (k0+j) u (by simp);rw[this];exact hPu
      ·rw[X (k0+j) (by omega)];rw[f j y]at hl;exact mono _ _ _ _ Y (hP j e hl)
     ·by_cases y:j=i
      ·subst y;by_cases hkj:k=j;·rw[hkj];exact c
       ·rw[f k hkj];exact h3 k hk
      ·rw[f j y]at hl;by_cases hki:k=i;·rw[hki];exact c
       ·rw[f k hki];exact hC j e hl k hk
    exact hfin
   ·have A:i=M:=by omega
    subst A;have m:∀k,k<=i->∀j,i-k<=j->j<i->listed.getD j false=true:=λk=>by
     induction k with
     |zero=>intro _ j h4 h5;omega
     |succ k ihk=>
      intro hk j h4 h5;obtain⟨b,hb1,hb2,hb3⟩:=c4 j h5;by_cases hbi:b=i;·subst hbi;exact h3 j hb3
      ·exact hC b (by omega) (ihk (by omega) b (by omega) (by omega)) j hb3
    obtain⟨t,J,G⟩:=K V1 H (λj=>a.tmps.getD (k0+j) undef) L;have hw:=G none n a w hF.le hH.1 (hin t J);rw[show List.range' i 1=[i]from rfl,wpOpsIn_cons]at hw;have Z:o.dst=none:=by rw[O]at c0;simpa using c0
    refine Pd O hg (Pc O hg hw) (λ_ _ _ h=>by cases h.1) (λh=>by obtain⟨_,_,h,_⟩:=h;cases h) ?_;rintro W w' ⟨⟨u,B⟩,-,hd',hs2,vs,V2,-,hΦ,hF2⟩;rw[Z]at B;have hu3:W.tmps=a.tmps:=B;refine ih _ W w' hs' hu' (.inr ⟨λj e=>?_,hQ W w' V2 (hd'.trans hdf) ⟨by rw[hu3];exact hH.1,λs v I=>by rw[hu3];exact hH.2 s v I⟩ hΦ (hF.trans hF2)⟩);by_cases y:j=i;·rw[y];exact c
    ·rw[f j y];exact m i (yW _) j (by omega) (by omega)
end
end
end Go.Sx
namespace Go.Proofs
open Go Go.Sx
set_option maxRecDepth 100000
section
variable{V:Mem}{R:RP}
noncomputable def c11a:List Code:=((Bc (AO Tryz.f11) []).drop 0).take 6
def w11a:MR:=λV R=>Ag [uS (Ac []),z0,z0,z0,z0,z0,z0,z0] 35 V λa V1=>Ag [.func (.func 39) #[] #[]] 105 V1 λb V2=>Ag [uS (Ac [99]),uS (Ac [67])] 112 V2 λc h=>R (rT #[uP (Aa a 0),uP (Aa b 0),.func (.func 40) #[] #[uP (Aa b 0)],.func (.func 41) #[] #[],.func (.func 42) #[] #[],.slice (Aa c 0) 1 1]) h
theorem s11a{V:Mem}{R:KZ}(h:w11a V (OV R)):A9 xG 77 c11a [] [0,1,2,3,4,5] V R:=
 CU (H:=hK 77) [] [] rfl (by kernel_rfl) h
noncomputable def AH:Array Oper:=Ei ((Bc (AO Tryz.f11) []).getD 6 .skip)
def w11o0:MR:=λV R=>R (rT #[uA #[uS (Ac [110]),uS (Ac [105,110,116])]]) V
theorem s11o0{V:Mem}{R:KZ}(h:w11o0 V (OV R)):Ay xG 77 AH 0 1 [] [9] V R:=
 AD (H:=hK 77) [] [] rfl (by kernel_rfl) h
def w11o1:MR:=λV R=>R (rT #[uA #[uS (Ac [110,101,120,116]),uS (Ac [67])]]) V
theorem s11o1{V:Mem}{R:KZ}(h:w11o1 V (OV R)):Ay xG 77 AH 1 1 [] [10] V R:=
 AD (H:=hK 77) [] [] rfl (by kernel_rfl) h
def w11o2(a b c d:KB):MR:=λV R=>Ag [uS a,uS b,uS c,uS d] 112 V λg V1=>R (rT #[.slice (Aa g 0) 2 2]) V1
theorem s11o2{a b c d:KB}{V:Mem}{R:KZ}(h:w11o2 a b c d V (OV R)):Ay xG 77 AH 2 1 [(9,uA #[uS a,uS b]),(10,uA #[uS c,uS d])] [11] V R:=
 AD (H:=hK 77) [(9,(.agg (.cons (.var .s 0) (.cons (.var .s 1) .nil)))),(10,(.agg (.cons (.var .s 2) (.cons (.var .s 3) .nil))))] [uS a,uS b,uS c,uS d] rfl (by kernel_rfl) h
def w11o3(a:Sl):MR:=λV R=>R (rT #[uA #[uS (Ac [67]),uL a]]) V
theorem s11o3{a:Sl}{V:Mem}{R:KZ}(h:w11o3 a V (OV R)):Ay xG 77 AH 3 1 [(11,uL a)] [12] V R:=
 AD (H:=hK 77) [(11,(.var .sl 0))] [uL a] rfl (by kernel_rfl) h
def w11o4(a:KB)(b:Sl):MR:=λV R=>Ag [uS a,uL b] 114 V λc V1=>R (rT #[.slice (Aa c 0) 1 1]) V1
theorem s11o4{a:KB}{b:Sl}{V:Mem}{R:KZ}(h:w11o4 a b V (OV R)):Ay xG 77 AH 4 1 [(12,uA #[uS a,uL b])] [13] V R:=
 AD (H:=hK 77) [(12,(.agg (.cons (.var .s 0) (.cons (.var .sl 1) .nil))))] [uS a,uL b] rfl (by kernel_rfl) h
def w11o5:MR:=λV R=>R (rT #[uA #[uS (Ac [102,105,114,115,116]),uS (Ac [67])]]) V
theorem s11o5{V:Mem}{R:KZ}(h:w11o5 V (OV R)):Ay xG 77 AH 5 1 [] [14] V R:=
 AD (H:=hK 77) [] [] rfl (by kernel_rfl) h
def w11o6(a b:KB):MR:=λV R=>Ag [uS a,uS b] 112 V λc V1=>R (rT #[.slice (Aa c 0) 1 1]) V1
theorem s11o6{a b:KB}{V:Mem}{R:KZ}(h:w11o6 a b V (OV R)):Ay xG 77 AH 6 1 [(14,uA #[uS a,uS b])] [15] V R:=
 AD (H:=hK 77) [(14,(.agg (.cons (.var .s 0) (.cons (.var .s 1) .nil))))] [uS a,uS b] rfl (by kernel_rfl) h
def w11o7:MR:=λV R=>R (rT #[uA #[uS (Ac [107]),uS (Ac [105,110,116])]]) V
theorem s11o7{V:Mem}{R:KZ}(h:w11o7 V (OV R)):Ay xG 77 AH 7 1 [] [16] V R:=
 AD (H:=hK 77) [] [] rfl (by kernel_rfl) h
def w11o8(a b:KB):MR:=λV R=>Ag [uS a,uS b] 112 V λc V1=>R (rT #[.slice (Aa c 0) 1 1]) V1
theorem s11o8{a b:KB}{V:Mem}{R:KZ}(h:w11o8 a b V (OV R)):Ay xG 77 AH 8 1 [(16,uA #[uS a,uS b])] [17] V R:=
 AD (H:=hK 77) [(16,(.agg (.cons (.var .s 0) (.cons (.var .s 1) .nil))))] [uS a,uS b] rfl (by kernel_rfl) h
def w11o9(a:Sl):MR:=λV R=>R (rT #[uL a]) V
theorem s11o9{a:Sl}{V:Mem}{R:KZ}(h:w11o9 a V (OV R)):Ay xG 77 AH 9 1 [(5,uL a)] [18] V R:=
 AD (H:=hK 77) [(5,(.var .sl 0))] [uL a] rfl (by kernel_rfl) h
def w11o10(a:Value):MR:=λV R=>R (rT #[K.cast .f a]) V
theorem s11o10{a:Value}{V:Mem}{R:KZ}(h:w11o10 a V (OV R)):Ay xG 77 AH 10 1 [(3,K.cast .f a)] [19] V R:=
 AD (H:=hK 77) [(3,(.var .f 0))] [a] rfl (by kernel_rfl) h
def w11o11(a:Option Addr):MR:=λV R=>∃b,K.f.ok b/\V.rowp a ((0:Int).toNat*1) 1=some [b]/\R (rT #[K.cast .f b]) V
theorem s11o11{a:Option Addr}{V:Mem}{R:KZ}(h:w11o11 a V (OV R)):Ay xG 77 AH 11 1 [(1,uP a)] [20] V R:=
 AD (H:=hK 77) [(1,(.var .p 0))] [uP a] rfl (by kernel_rfl) h
def w11o12(a:Value):MR:=λV R=>∃f first h,K.cast .f a=.func (.func f) first h/\CO f/\TT f (first++#[uI 6,uS (Ac [67]),z0]++h) V λe V1=>∃b c d g,e=rV (uA #[uI b,uI c,uS d,uL g])/\R (rT #[uA #[uI b,uI c,uS d,uL g]]) V1
theorem s11o12{a:Value}{V:Mem}{R:KZ}(h:w11o12 a V (OV R)):Ay xG 77 AH 12 1 [(20,K.cast .f a)] [21] V R:=
 AD (H:=hK 77) [(20,(.var .f 0))] [a] rfl (by kernel_rfl) h
def w11o13(a:Value)(b c:Int)(d:KB)(g:Sl):MR:=λV R=>∃f first h,K.cast .f a=.func (.func f) first h/\CO f/\TT f (first++#[uS (Ac [99]),uA #[uI b,uI c,uS d,uL g]]++h) V λe V1=>∃i j k l o,e=rV (uA #[uI i,uS j,uL k,uL l,uL o])/\R (rT #[uA #[uI i,uS j,uL k,uL l,uL o]]) V1
theorem s11o13{a:Value}{b c:Int}{d:KB}{g:Sl}{V:Mem}{R:KZ}(h:w11o13 a b c d g V (OV R)):Ay xG 77 AH 13 1 [(19,K.cast .f a),(21,uA #[uI b,uI c,uS d,uL g])] [22] V R:=
 AD (H:=hK 77) [(19,(.var .f 0)),(21,(.agg (.cons (.var (.i .i64) 1) (.cons (.var (.i .i64) 2) (.cons (.var .s 3) (.cons (.var .sl 4) .nil))))))] [a,uI b,uI c,uS d,uL g] rfl (by kernel_rfl) h
def w11o14(a:Value):MR:=λV R=>R (rT #[K.cast .f a]) V
theorem s11o14{a:Value}{V:Mem}{R:KZ}(h:w11o14 a V (OV R)):Ay xG 77 AH 14 1 [(4,K.cast .f a)] [23] V R:=
 AD (H:=hK 77) [(4,(.var .f 0))] [a] rfl (by kernel_rfl) h
def w11o15(a:Value):MR:=λV R=>R (rT #[K.cast .f a]) V
theorem s11o15{a:Value}{V:Mem}{R:KZ}(h:w11o15 a V (OV R)):Ay xG 77 AH 15 1 [(2,K.cast .f a)] [24] V R:=
 AD (H:=hK 77) [(2,(.var .f 0))] [a] rfl (by kernel_rfl) h
def w11o16(a:Value):MR:=λV R=>∃f first h,K.cast .f a=.func (.func f) first h/\CO f/\TT f (first++#[uS (Ac [99])]++h) V λe V1=>∃b c d g,e=rV (uA #[uI b,uI c,uS d,uL g])/\R (rT #[uA #[uI b,uI c,uS d,uL g]]) V1
theorem s11o16{a:Value}{V:Mem}{R:KZ}(h:w11o16 a V (OV R)):Ay xG 77 AH 16 1 [(24,K.cast .f a)] [25] V R:=
 AD (H:=hK 77) [(24,(.var .f 0))] [a] rfl (by kernel_rfl) h
def w11o17(a:Value):MR:=λV R=>R (rT #[K.cast .f a]) V
theorem s11o17{a:Value}{V:Mem}{R:KZ}(h:w11o17 a V (OV R)):Ay xG 77 AH 17 1 [(2,K.cast .f a)] [26] V R:=
 AD (H:=hK 77) [(2,(.var .f 0))] [a] rfl (by kernel_rfl) h
def w11o18(a:Value):MR:=λV R=>∃f first h,K.cast .f a=.func (.func f) first h/\CO f/\TT f (first++#[uS (Ac [107])]++h) V λe V1=>∃b c d g,e=rV (uA #[uI b,uI c,uS d,uL g])/\R (rT #[uA #[uI b,uI c,uS d,uL g]]) V1
theorem s11o18{a:Value}{V:Mem}{R:KZ}(h:w11o18 a V (OV R)):Ay xG 77 AH 18 1 [(26,K.cast .f a)] [27] V R:=
 AD (H:=hK 77) [(26,(.var .f 0))] [a] rfl (by kernel_rfl) h
def w11o19(a:Value)(b c:Int)(d:KB)(g:Sl)(i j:Int)(k:KB)(l:Sl):MR:=λV R=>∃f first h,K.cast .f a=.func (.func f) first h/\CO f/\TT f (first++#[uS (Ac [110]),uA #[uI b,uI c,uS d,uL g],uA #[uI i,uI j,uS k,uL l]]++h) V λe V1=>∃o p q r s,e=rV (uA #[uI o,uS p,uL q,uL r,uL s])/\R (rT #[uA #[uI o,uS p,uL q,uL r,uL s]]) V1
theorem s11o19{a:Value}{b c:Int}{d:KB}{g:Sl}{i j:Int}{k:KB}{l:Sl}{V:Mem}{R:KZ}(h:w11o19 a b c d g i j k l V (OV R)):Ay xG 77 AH 19 1 [(23,K.cast .f a),(25,uA #[uI b,uI c,uS d,uL g]),(27,uA #[uI i,uI j,uS k,uL l])] [28] V R:=
 AD (H:=hK 77) [(23,(.var .f 0)),(25,(.agg (.cons (.var (.i .i64) 1) (.cons (.var (.i .i64) 2) (.cons (.var .s 3) (.cons (.var .sl 4) .nil)))))),(27,(.agg (.cons (.var (.i .i64) 5) (.cons (.var (.i .i64) 6) (.cons (.var .s 7) (.cons (.var .sl 8) .nil))))))] [a,uI b,uI c,uS d,uL g,uI i,uI j,uS k,uL l] rfl (by kernel_rfl) h
def w11o20(a:Value):MR:=λV R=>R (rT #[K.cast .f a]) V
theorem s11o20{a:Value}{V:Mem}{R:KZ}(h:w11o20 a V (OV R)):Ay xG 77 AH 20 1 [(4,K.cast .f a)] [29] V R:=
 AD (H:=hK 77) [(4,(.var .f 0))] [a] rfl (by kernel_rfl) h
def w11o21(a:Value):MR:=λV R=>R (rT #[K.cast .f a]) V
theorem s11o21{a:Value}{V:Mem}{R:KZ}(h:w11o21 a V (OV R)):Ay xG 77 AH 21 1 [(2,K.cast .f a)] [30] V R:=
 AD (H:=hK 77) [(2,(.var .f 0))] [a] rfl (by kernel_rfl) h
def w11o22(a:Value):MR:=λV R=>∃f first h,K.cast .f a=.func (.func f) first h/\CO f/\TT f (first++#[uS (Ac [99])]++h) V λe V1=>∃b c d g,e=rV (uA #[uI b,uI c,uS d,uL g])/\R (rT #[uA #[uI b,uI c,uS d,uL g]]) V1
theorem s11o22{a:Value}{V:Mem}{R:KZ}(h:w11o22 a V (OV R)):Ay xG 77 AH 22 1 [(30,K.cast .f a)] [31] V R:=
 AD (H:=hK 77) [(30,(.var .f 0))] [a] rfl (by kernel_rfl) h
def w11o23(a:Value):MR:=λV R=>R (rT #[K.cast .f a]) V
theorem s11o23{a:Value}{V:Mem}{R:KZ}(h:w11o23 a V (OV R)):Ay xG 77 AH 23 1 [(2,K.cast .f a)] [32] V R:=
 AD (H:=hK 77) [(2,(.var .f 0))] [a] rfl (by kernel_rfl) h
def w11o24(a:Value):MR:=λV R=>∃f first h,K.cast .f a=.func (.func f) first h/\CO f/\TT f (first++#[uS (Ac [102,105,114,115,116])]++h) V λe V1=>∃b c d g,e=rV (uA #[uI b,uI c,uS d,uL g])/\R (rT #[uA #[uI b,uI c,uS d,uL g]]) V1
theorem s11o24{a:Value}{V:Mem}{R:KZ}(h:w11o24 a V (OV R)):Ay xG 77 AH 24 1 [(32,K.cast .f a)] [33] V R:=
 AD (H:=hK 77) [(32,(.var .f 0))] [a] rfl (by kernel_rfl) h
def w11o25(a:Value)(b c:Int)(d:KB)(g:Sl)(i j:Int)(k:KB)(l:Sl):MR:=λV R=>∃f first h,K.cast .f a=.func (.func f) first h/\CO f/\TT f (first++#[uS (Ac [110,101,120,116]),uA #[uI b,uI c,uS d,uL g],uA #[uI i,uI j,uS k,uL l]]++h) V λe V1=>∃o p q r s,e=rV (uA #[uI o,uS p,uL q,uL r,uL s])/\R (rT #[uA #[uI o,uS p,uL q,uL r,uL s]]) V1
theorem s11o25{a:Value}{b c:Int}{d:KB}{g:Sl}{i j:Int}{k:KB}{l:Sl}{V:Mem}{R:KZ}(h:w11o25 a b c d g i j k l V (OV R)):Ay xG 77 AH 25 1 [(29,K.cast .f a),(31,uA #[uI b,uI c,uS d,uL g]),(33,uA #[uI i,uI j,uS k,uL l])] [34] V R:=
 AD (H:=hK 77) [(29,(.var .f 0)),(31,(.agg (.cons (.var (.i .i64) 1) (.cons (.var (.i .i64) 2) (.cons (.var .s 3) (.cons (.var .sl 4) .nil)))))),(33,(.agg (.cons (.var (.i .i64) 5) (.cons (.var (.i .i64) 6) (.cons (.var .s 7) (.cons (.var .sl 8) .nil))))))] [a,uI b,uI c,uS d,uL g,uI i,uI j,uS k,uL l] rfl (by kernel_rfl) h
def w11o26(a:Value):MR:=λV R=>R (rT #[K.cast .f a]) V
theorem s11o26{a:Value}{V:Mem}{R:KZ}(h:w11o26 a V (OV R)):Ay xG 77 AH 26 1 [(3,K.cast .f a)] [35] V R:=
 AD (H:=hK 77) [(3,(.var .f 0))] [a] rfl (by kernel_rfl) h
def w11o27(a:Value):MR:=λV R=>R (rT #[K.cast .f a]) V
theorem s11o27{a:Value}{V:Mem}{R:KZ}(h:w11o27 a V (OV R)):Ay xG 77 AH 27 1 [(2,K.cast .f a)] [36] V R:=
 AD (H:=hK 77) [(2,(.var .f 0))] [a] rfl (by kernel_rfl) h
def w11o28(a:Value):MR:=λV R=>∃f first h,K.cast .f a=.func (.func f) first h/\CO f/\TT f (first++#[uS (Ac [99])]++h) V λe V1=>∃b c d g,e=rV (uA #[uI b,uI c,uS d,uL g])/\R (rT #[uA #[uI b,uI c,uS d,uL g]]) V1
theorem s11o28{a:Value}{V:Mem}{R:KZ}(h:w11o28 a V (OV R)):Ay xG 77 AH 28 1 [(36,K.cast .f a)] [37] V R:=
 AD (H:=hK 77) [(36,(.var .f 0))] [a] rfl (by kernel_rfl) h
def w11o29(a:Value)(b c:Int)(d:KB)(g:Sl):MR:=λV R=>∃f first h,K.cast .f a=.func (.func f) first h/\CO f/\TT f (first++#[uS (Ac [102,105,114,115,116]),uA #[uI b,uI c,uS d,uL g]]++h) V λe V1=>∃i j k l o,e=rV (uA #[uI i,uS j,uL k,uL l,uL o])/\R (rT #[uA #[uI i,uS j,uL k,uL l,uL o]]) V1
theorem s11o29{a:Value}{b c:Int}{d:KB}{g:Sl}{V:Mem}{R:KZ}(h:w11o29 a b c d g V (OV R)):Ay xG 77 AH 29 1 [(35,K.cast .f a),(37,uA #[uI b,uI c,uS d,uL g])] [38] V R:=
 AD (H:=hK 77) [(35,(.var .f 0)),(37,(.agg (.cons (.var (.i .i64) 1) (.cons (.var (.i .i64) 2) (.cons (.var .s 3) (.cons (.var .sl 4) .nil))))))] [a,uI b,uI c,uS d,uL g] rfl (by kernel_rfl) h
def w11o30(a:Int)(b:KB)(c d g:Sl)(i:Int)(j:KB)(k l o:Sl)(p:Int)(q:KB)(r s u:Sl)(y:Int)(z:KB)(A B C:Sl):MR:=λV R=>Ag [uI a,uS b,uL c,uL d,uL g,uI i,uS j,uL k,uL l,uL o,uI p,uS q,uL r,uL s,uL u,uI y,uS z,uL A,uL B,uL C] 108 V λD V1=>R (rT #[.slice (Aa D 0) 4 4]) V1
theorem s11o30{a:Int}{b:KB}{c d g:Sl}{i:Int}{j:KB}{k l o:Sl}{p:Int}{q:KB}{r s u:Sl}{y:Int}{z:KB}{A B C:Sl}{V:Mem}{R:KZ}(h:w11o30 a b c d g i j k l o p q r s u y z A B C V (OV R)):Ay xG 77 AH 30 1 [(22,uA #[uI a,uS b,uL c,uL d,uL g]),(28,uA #[uI i,uS j,uL k,uL l,uL o]),(34,uA #[uI p,uS q,uL r,uL s,uL u]),(38,uA #[uI y,uS z,uL A,uL B,uL C])] [39] V R:=
 AD (H:=hK 77) [(22,(.agg (.cons (.var (.i .i64) 0) (.cons (.var .s 1) (.cons (.var .sl 2) (.cons (.var .sl 3) (.cons (.var .sl 4) .nil))))))),(28,(.agg (.cons (.var (.i .i64) 5) (.cons (.var .s 6) (.cons (.var .sl 7) (.cons (.var .sl 8) (.cons (.var .sl 9) .nil))))))),(34,(.agg (.cons (.var (.i .i64) 10) (.cons (.var .s 11) (.cons (.var .sl 12) (.cons (.var .sl 13) (.cons (.var .sl 14) .nil))))))),(38,(.agg (.cons (.var (.i .i64) 15) (.cons (.var .s 16) (.cons (.var .sl 17) (.cons (.var .sl 18) (.cons (.var .sl 19) .nil)))))))] [uI a,uS b,uL c,uL d,uL g,uI i,uS j,uL k,uL l,uL o,uI p,uS q,uL r,uL s,uL u,uI y,uS z,uL A,uL B,uL C] rfl (by kernel_rfl) h
def w11o31(a b c:Sl):MR:=λV R=>R (rT #[uA #[uS (Ac [112,117,115,104]),uL a,uS (Ac []),uL b,uL c]]) V
theorem s11o31{a b c:Sl}{V:Mem}{R:KZ}(h:w11o31 a b c V (OV R)):Ay xG 77 AH 31 1 [(17,uL a),(18,uL b),(39,uL c)] [40] V R:=
 AD (H:=hK 77) [(17,(.var .sl 0)),(18,(.var .sl 1)),(39,(.var .sl 2))] [uL a,uL b,uL c] rfl (by kernel_rfl) h
def w11o32:MR:=λV R=>R (rT #[uA #[uS (Ac [108]),uS (Ac [67])]]) V
theorem s11o32{V:Mem}{R:KZ}(h:w11o32 V (OV R)):Ay xG 77 AH 32 1 [] [41] V R:=
 AD (H:=hK 77) [] [] rfl (by kernel_rfl) h
def w11o33(a b:KB):MR:=λV R=>Ag [uS a,uS b] 112 V λc V1=>R (rT #[.slice (Aa c 0) 1 1]) V1
theorem s11o33{a b:KB}{V:Mem}{R:KZ}(h:w11o33 a b V (OV R)):Ay xG 77 AH 33 1 [(41,uA #[uS a,uS b])] [42] V R:=
 AD (H:=hK 77) [(41,(.agg (.cons (.var .s 0) (.cons (.var .s 1) .nil))))] [uS a,uS b] rfl (by kernel_rfl) h
def w11o34(a:Sl):MR:=λV R=>R (rT #[uL a]) V
theorem s11o34{a:Sl}{V:Mem}{R:KZ}(h:w11o34 a V (OV R)):Ay xG 77 AH 34 1 [(5,uL a)] [43] V R:=
 AD (H:=hK 77) [(5,(.var .sl 0))] [uL a] rfl (by kernel_rfl) h
def w11o35(a:Value):MR:=λV R=>R (rT #[K.cast .f a]) V
theorem s11o35{a:Value}{V:Mem}{R:KZ}(h:w11o35 a V (OV R)):Ay xG 77 AH 35 1 [(3,K.cast .f a)] [44] V R:=
 AD (H:=hK 77) [(3,(.var .f 0))] [a] rfl (by kernel_rfl) h
def w11o36(a:Value):MR:=λV R=>R (rT #[K.cast .f a]) V
theorem s11o36{a:Value}{V:Mem}{R:KZ}(h:w11o36 a V (OV R)):Ay xG 77 AH 36 1 [(2,K.cast .f a)] [45] V R:=
 AD (H:=hK 77) [(2,(.var .f 0))] [a] rfl (by kernel_rfl) h
def w11o37(a:Value):MR:=λV R=>∃f first h,K.cast .f a=.func (.func f) first h/\CO f/\TT f (first++#[uS (Ac [102,105,114,115,116])]++h) V λe V1=>∃b c d g,e=rV (uA #[uI b,uI c,uS d,uL g])/\R (rT #[uA #[uI b,uI c,uS d,uL g]]) V1
theorem s11o37{a:Value}{V:Mem}{R:KZ}(h:w11o37 a V (OV R)):Ay xG 77 AH 37 1 [(45,K.cast .f a)] [46] V R:=
 AD (H:=hK 77) [(45,(.var .f 0))] [a] rfl (by kernel_rfl) h
def w11o38(a:Value)(b c:Int)(d:KB)(g:Sl):MR:=λV R=>∃f first h,K.cast .f a=.func (.func f) first h/\CO f/\TT f (first++#[uS (Ac [99]),uA #[uI b,uI c,uS d,uL g]]++h) V λe V1=>∃i j k l o,e=rV (uA #[uI i,uS j,uL k,uL l,uL o])/\R (rT #[uA #[uI i,uS j,uL k,uL l,uL o]]) V1
theorem s11o38{a:Value}{b c:Int}{d:KB}{g:Sl}{V:Mem}{R:KZ}(h:w11o38 a b c d g V (OV R)):Ay xG 77 AH 38 1 [(44,K.cast .f a),(46,uA #[uI b,uI c,uS d,uL g])] [47] V R:=
 AD (H:=hK 77) [(44,(.var .f 0)),(46,(.agg (.cons (.var (.i .i64) 1) (.cons (.var (.i .i64) 2) (.cons (.var .s 3) (.cons (.var .sl 4) .nil))))))] [a,uI b,uI c,uS d,uL g] rfl (by kernel_rfl) h
def w11o39(a:Option Addr):MR:=λV R=>∃b,K.f.ok b/\V.rowp a ((0:Int).toNat*1) 1=some [b]/\R (rT #[K.cast .f b]) V
theorem s11o39{a:Option Addr}{V:Mem}{R:KZ}(h:w11o39 a V (OV R)):Ay xG 77 AH 39 1 [(1,uP a)] [48] V R:=
 AD (H:=hK 77) [(1,(.var .p 0))] [uP a] rfl (by kernel_rfl) h
def w11o40(a:Option Addr):MR:=λV R=>∃b,K.f.ok b/\V.rowp a ((0:Int).toNat*1) 1=some [b]/\R (rT #[K.cast .f b]) V
theorem s11o40{a:Option Addr}{V:Mem}{R:KZ}(h:w11o40 a V (OV R)):Ay xG 77 AH 40 1 [(1,uP a)] [49] V R:=
 AD (H:=hK 77) [(1,(.var .p 0))] [uP a] rfl (by kernel_rfl) h
def w11o41(a:Value):MR:=λV R=>R (rT #[K.cast .f a]) V
theorem s11o41{a:Value}{V:Mem}{R:KZ}(h:w11o41 a V (OV R)):Ay xG 77 AH 41 1 [(2,K.cast .f a)] [50] V R:=
 AD (H:=hK 77) [(2,(.var .f 0))] [a] rfl (by kernel_rfl) h
def w11o42(a:Value):MR:=λV R=>∃f first h,K.cast .f a=.func (.func f) first h/\CO f/\TT f (first++#[uS (Ac [99])]++h) V λe V1=>∃b c d g,e=rV (uA #[uI b,uI c,uS d,uL g])/\R (rT #[uA #[uI b,uI c,uS d,uL g]]) V1
theorem s11o42{a:Value}{V:Mem}{R:KZ}(h:w11o42 a V (OV R)):Ay xG 77 AH 42 1 [(50,K.cast .f a)] [51] V R:=
 AD (H:=hK 77) [(50,(.var .f 0))] [a] rfl (by kernel_rfl) h
def w11o43(a b:Int)(c:KB)(d:Sl):MR:=λV R=>Ag [uI a,uI b,uS c,uL d] 104 V λg V1=>R (rT #[.slice (Aa g 0) 1 1]) V1
theorem s11o43{a b:Int}{c:KB}{d:Sl}{V:Mem}{R:KZ}(h:w11o43 a b c d V (OV R)):Ay xG 77 AH 43 1 [(51,uA #[uI a,uI b,uS c,uL d])] [52] V R:=
 AD (H:=hK 77) [(51,(.agg (.cons (.var (.i .i64) 0) (.cons (.var (.i .i64) 1) (.cons (.var .s 2) (.cons (.var .sl 3) .nil))))))] [uI a,uI b,uS c,uL d] rfl (by kernel_rfl) h
def w11o44(a:Value)(b:Sl):MR:=λV R=>∃f first h,K.cast .f a=.func (.func f) first h/\CO f/\TT f (first++#[uI 5,uS (Ac [110,101,120,116]),uL b]++h) V λe V1=>∃c d g i,e=rV (uA #[uI c,uI d,uS g,uL i])/\R (rT #[uA #[uI c,uI d,uS g,uL i]]) V1
theorem s11o44{a:Value}{b:Sl}{V:Mem}{R:KZ}(h:w11o44 a b V (OV R)):Ay xG 77 AH 44 1 [(49,K.cast .f a),(52,uL b)] [53] V R:=
 AD (H:=hK 77) [(49,(.var .f 0)),(52,(.var .sl 1))] [a,uL b] rfl (by kernel_rfl) h
def w11o45:MR:=λV R=>R (rT #[uA #[uI 3,uI 0,uS (Ac []),z0]]) V
theorem s11o45{V:Mem}{R:KZ}(h:w11o45 V (OV R)):Ay xG 77 AH 45 1 [] [54] V R:=
 AD (H:=hK 77) [] [] rfl (by kernel_rfl) h
def w11o46(a b:Int)(c:KB)(d:Sl)(g i:Int)(j:KB)(k:Sl):MR:=λV R=>Ag [uI a,uI b,uS c,uL d,uI g,uI i,uS j,uL k] 104 V λl V1=>R (rT #[.slice (Aa l 0) 2 2]) V1
theorem s11o46{a b:Int}{c:KB}{d:Sl}{g i:Int}{j:KB}{k:Sl}{V:Mem}{R:KZ}(h:w11o46 a b c d g i j k V (OV R)):Ay xG 77 AH 46 1 [(53,uA #[uI a,uI b,uS c,uL d]),(54,uA #[uI g,uI i,uS j,uL k])] [55] V R:=
 AD (H:=hK 77) [(53,(.agg (.cons (.var (.i .i64) 0) (.cons (.var (.i .i64) 1) (.cons (.var .s 2) (.cons (.var .sl 3) .nil)))))),(54,(.agg (.cons (.var (.i .i64) 4) (.cons (.var (.i .i64) 5) (.cons (.var .s 6) (.cons (.var .sl 7) .nil))))))] [uI a,uI b,uS c,uL d,uI g,uI i,uS j,uL k] rfl (by kernel_rfl) h
def w11o47(a:Value)(b:Sl):MR:=λV R=>∃f first h,K.cast .f a=.func (.func f) first h/\CO f/\TT f (first++#[uI 15,uS (Ac []),uL b]++h) V λe V1=>∃c d g i,e=rV (uA #[uI c,uI d,uS g,uL i])/\R (rT #[uA #[uI c,uI d,uS g,uL i]]) V1
theorem s11o47{a:Value}{b:Sl}{V:Mem}{R:KZ}(h:w11o47 a b V (OV R)):Ay xG 77 AH 47 1 [(48,K.cast .f a),(55,uL b)] [56] V R:=
 AD (H:=hK 77) [(48,(.var .f 0)),(55,(.var .sl 1))] [a,uL b] rfl (by kernel_rfl) h
def w11o48(a b:Int)(c:KB)(d:Sl):MR:=λV R=>Ag [uI a,uI b,uS c,uL d] 104 V λg V1=>R (rT #[.slice (Aa g 0) 1 1]) V1
theorem s11o48{a b:Int}{c:KB}{d:Sl}{V:Mem}{R:KZ}(h:w11o48 a b c d V (OV R)):Ay xG 77 AH 48 1 [(56,uA #[uI a,uI b,uS c,uL d])] [57] V R:=
 AD (H:=hK 77) [(56,(.agg (.cons (.var (.i .i64) 0) (.cons (.var (.i .i64) 1) (.cons (.var .s 2) (.cons (.var .sl 3) .nil))))))] [uI a,uI b,uS c,uL d] rfl (by kernel_rfl) h
def w11o49(a:Value):MR:=λV R=>R (rT #[K.cast .f a]) V
theorem s11o49{a:Value}{V:Mem}{R:KZ}(h:w11o49 a V (OV R)):Ay xG 77 AH 49 1 [(3,K.cast .f a)] [58] V R:=
 AD (H:=hK 77) [(3,(.var .f 0))] [a] rfl (by kernel_rfl) h
def w11o50(a:Option Addr):MR:=λV R=>∃b,K.f.ok b/\V.rowp a ((0:Int).toNat*1) 1=some [b]/\R (rT #[K.cast .f b]) V
theorem s11o50{a:Option Addr}{V:Mem}{R:KZ}(h:w11o50 a V (OV R)):Ay xG 77 AH 50 1 [(1,uP a)] [59] V R:=
 AD (H:=hK 77) [(1,(.var .p 0))] [uP a] rfl (by kernel_rfl) h
def w11o51(a:Value):MR:=λV R=>R (rT #[K.cast .f a]) V
theorem s11o51{a:Value}{V:Mem}{R:KZ}(h:w11o51 a V (OV R)):Ay xG 77 AH 51 1 [(2,K.cast .f a)] [60] V R:=
 AD (H:=hK 77) [(2,(.var .f 0))] [a] rfl (by kernel_rfl) h
def w11o52(a:Value):MR:=λV R=>∃f first h,K.cast .f a=.func (.func f) first h/\CO f/\TT f (first++#[uS (Ac [99])]++h) V λe V1=>∃b c d g,e=rV (uA #[uI b,uI c,uS d,uL g])/\R (rT #[uA #[uI b,uI c,uS d,uL g]]) V1
theorem s11o52{a:Value}{V:Mem}{R:KZ}(h:w11o52 a V (OV R)):Ay xG 77 AH 52 1 [(60,K.cast .f a)] [61] V R:=
 AD (H:=hK 77) [(60,(.var .f 0))] [a] rfl (by kernel_rfl) h
def w11o53(a b:Int)(c:KB)(d:Sl):MR:=λV R=>Ag [uI a,uI b,uS c,uL d] 104 V λg V1=>R (rT #[.slice (Aa g 0) 1 1]) V1
theorem s11o53{a b:Int}{c:KB}{d:Sl}{V:Mem}{R:KZ}(h:w11o53 a b c d V (OV R)):Ay xG 77 AH 53 1 [(61,uA #[uI a,uI b,uS c,uL d])] [62] V R:=
 AD (H:=hK 77) [(61,(.agg (.cons (.var (.i .i64) 0) (.cons (.var (.i .i64) 1) (.cons (.var .s 2) (.cons (.var .sl 3) .nil))))))] [uI a,uI b,uS c,uL d] rfl (by kernel_rfl) h
def w11o54(a:Value)(b:Sl):MR:=λV R=>∃f first h,K.cast .f a=.func (.func f) first h/\CO f/\TT f (first++#[uI 5,uS (Ac [110,101,120,116]),uL b]++h) V λe V1=>∃c d g i,e=rV (uA #[uI c,uI d,uS g,uL i])/\R (rT #[uA #[uI c,uI d,uS g,uL i]]) V1
theorem s11o54{a:Value}{b:Sl}{V:Mem}{R:KZ}(h:w11o54 a b V (OV R)):Ay xG 77 AH 54 1 [(59,K.cast .f a),(62,uL b)] [63] V R:=
 AD (H:=hK 77) [(59,(.var .f 0)),(62,(.var .sl 1))] [a,uL b] rfl (by kernel_rfl) h
def w11o55(a:Value)(b c:Int)(d:KB)(g:Sl):MR:=λV R=>∃f first h,K.cast .f a=.func (.func f) first h/\CO f/\TT f (first++#[uS (Ac [99]),uA #[uI b,uI c,uS d,uL g]]++h) V λe V1=>∃i j k l o,e=rV (uA #[uI i,uS j,uL k,uL l,uL o])/\R (rT #[uA #[uI i,uS j,uL k,uL l,uL o]]) V1
theorem s11o55{a:Value}{b c:Int}{d:KB}{g:Sl}{V:Mem}{R:KZ}(h:w11o55 a b c d g V (OV R)):Ay xG 77 AH 55 1 [(58,K.cast .f a),(63,uA #[uI b,uI c,uS d,uL g])] [64] V R:=
 AD (H:=hK 77) [(58,(.var .f 0)),(63,(.agg (.cons (.var (.i .i64) 1) (.cons (.var (.i .i64) 2) (.cons (.var .s 3) (.cons (.var .sl 4) .nil))))))] [a,uI b,uI c,uS d,uL g] rfl (by kernel_rfl) h
def w11o56(a:Int)(b:KB)(c d g:Sl):MR:=λV R=>Ag [uI a,uS b,uL c,uL d,uL g] 108 V λi V1=>R (rT #[.slice (Aa i 0) 1 1]) V1
theorem s11o56{a:Int}{b:KB}{c d g:Sl}{V:Mem}{R:KZ}(h:w11o56 a b c d g V (OV R)):Ay xG 77 AH 56 1 [(64,uA #[uI a,uS b,uL c,uL d,uL g])] [65] V R:=
 AD (H:=hK 77) [(64,(.agg (.cons (.var (.i .i64) 0) (.cons (.var .s 1) (.cons (.var .sl 2) (.cons (.var .sl 3) (.cons (.var .sl 4) .nil)))))))] [uI a,uS b,uL c,uL d,uL g] rfl (by kernel_rfl) h
def w11o57(a b:Sl):MR:=λV R=>R (rT #[uA #[uI 4,uS (Ac []),uL a,uL b,z0]]) V
theorem s11o57{a b:Sl}{V:Mem}{R:KZ}(h:w11o57 a b V (OV R)):Ay xG 77 AH 57 1 [(57,uL a),(65,uL b)] [66] V R:=
 AD (H:=hK 77) [(57,(.var .sl 0)),(65,(.var .sl 1))] [uL a,uL b] rfl (by kernel_rfl) h
def w11o58(a:Value):MR:=λV R=>R (rT #[K.cast .f a]) V
theorem s11o58{a:Value}{V:Mem}{R:KZ}(h:w11o58 a V (OV R)):Ay xG 77 AH 58 1 [(4,K.cast .f a)] [67] V R:=
 AD (H:=hK 77) [(4,(.var .f 0))] [a] rfl (by kernel_rfl) h
def w11o59(a:Value):MR:=λV R=>R (rT #[K.cast .f a]) V
theorem s11o59{a:Value}{V:Mem}{R:KZ}(h:w11o59 a V (OV R)):Ay xG 77 AH 59 1 [(2,K.cast .f a)] [68] V R:=
 AD (H:=hK 77) [(2,(.var .f 0))] [a] rfl (by kernel_rfl) h
def w11o60(a:Value):MR:=λV R=>∃f first h,K.cast .f a=.func (.func f) first h/\CO f/\TT f (first++#[uS (Ac [99])]++h) V λe V1=>∃b c d g,e=rV (uA #[uI b,uI c,uS d,uL g])/\R (rT #[uA #[uI b,uI c,uS d,uL g]]) V1
theorem s11o60{a:Value}{V:Mem}{R:KZ}(h:w11o60 a V (OV R)):Ay xG 77 AH 60 1 [(68,K.cast .f a)] [69] V R:=
 AD (H:=hK 77) [(68,(.var .f 0))] [a] rfl (by kernel_rfl) h
def w11o61(a:Value):MR:=λV R=>R (rT #[K.cast .f a]) V
theorem s11o61{a:Value}{V:Mem}{R:KZ}(h:w11o61 a V (OV R)):Ay xG 77 AH 61 1 [(2,K.cast .f a)] [70] V R:=
 AD (H:=hK 77) [(2,(.var .f 0))] [a] rfl (by kernel_rfl) h
def w11o62(a:Value):MR:=λV R=>∃f first h,K.cast .f a=.func (.func f) first h/\CO f/\TT f (first++#[uS (Ac [108])]++h) V λe V1=>∃b c d g,e=rV (uA #[uI b,uI c,uS d,uL g])/\R (rT #[uA #[uI b,uI c,uS d,uL g]]) V1
theorem s11o62{a:Value}{V:Mem}{R:KZ}(h:w11o62 a V (OV R)):Ay xG 77 AH 62 1 [(70,K.cast .f a)] [71] V R:=
 AD (H:=hK 77) [(70,(.var .f 0))] [a] rfl (by kernel_rfl) h
def w11o63(a:Value)(b c:Int)(d:KB)(g:Sl)(i j:Int)(k:KB)(l:Sl):MR:=λV R=>∃f first h,K.cast .f a=.func (.func f) first h/\CO f/\TT f (first++#[uS (Ac [110,101,120,116]),uA #[uI b,uI c,uS d,uL g],uA #[uI i,uI j,uS k,uL l]]++h) V λe V1=>∃o p q r s,e=rV (uA #[uI o,uS p,uL q,uL r,uL s])/\R (rT #[uA #[uI o,uS p,uL q,uL r,uL s]]) V1
theorem s11o63{a:Value}{b c:Int}{d:KB}{g:Sl}{i j:Int}{k:KB}{l:Sl}{V:Mem}{R:KZ}(h:w11o63 a b c d g i j k l V (OV R)):Ay xG 77 AH 63 1 [(67,K.cast .f a),(69,uA #[uI b,uI c,uS d,uL g]),(71,uA #[uI i,uI j,uS k,uL l])] [72] V R:=
 AD (H:=hK 77) [(67,(.var .f 0)),(69,(.agg (.cons (.var (.i .i64) 1) (.cons (.var (.i .i64) 2) (.cons (.var .s 3) (.cons (.var .sl 4) .nil)))))),(71,(.agg (.cons (.var (.i .i64) 5) (.cons (.var (.i .i64) 6) (.cons (.var .s 7) (.cons (.var .sl 8) .nil))))))] [a,uI b,uI c,uS d,uL g,uI i,uI j,uS k,uL l] rfl (by kernel_rfl) h
def w11o64(a:Int)(b:KB)(c d g:Sl)(i:Int)(j:KB)(k l o:Sl)(p:Int)(q:KB)(r s u:Sl):MR:=λV R=>Ag [uI a,uS b,uL c,uL d,uL g,uI i,uS j,uL k,uL l,uL o,uI p,uS q,uL r,uL s,uL u] 108 V λy V1=>R (rT #[.slice (Aa y 0) 3 3]) V1
theorem s11o64{a:Int}{b:KB}{c d g:Sl}{i:Int}{j:KB}{k l o:Sl}{p:Int}{q:KB}{r s u:Sl}{V:Mem}{R:KZ}(h:w11o64 a b c d g i j k l o p q r s u V (OV R)):Ay xG 77 AH 64 1 [(47,uA #[uI a,uS b,uL c,uL d,uL g]),(66,uA #[uI i,uS j,uL k,uL l,uL o]),(72,uA #[uI p,uS q,uL r,uL s,uL u])] [73] V R:=
 AD (H:=hK 77) [(47,(.agg (.cons (.var (.i .i64) 0) (.cons (.var .s 1) (.cons (.var .sl 2) (.cons (.var .sl 3) (.cons (.var .sl 4) .nil))))))),(66,(.agg (.cons (.var (.i .i64) 5) (.cons (.var .s 6) (.cons (.var .sl 7) (.cons (.var .sl 8) (.cons (.var .sl 9) .nil))))))),(72,(.agg (.cons (.var (.i .i64) 10) (.cons (.var .s 11) (.cons (.var .sl 12) (.cons (.var .sl 13) (.cons (.var .sl 14) .nil)))))))] [uI a,uS b,uL c,uL d,uL g,uI i,uS j,uL k,uL l,uL o,uI p,uS q,uL r,uL s,uL u] rfl (by kernel_rfl) h
def w11o65(a b c:Sl):MR:=λV R=>R (rT #[uA #[uS (Ac [97,112,112,101,110,100]),uL a,uS (Ac []),uL b,uL c]]) V
theorem s11o65{a b c:Sl}{V:Mem}{R:KZ}(h:w11o65 a b c V (OV R)):Ay xG 77 AH 65 1 [(42,uL a),(43,uL b),(73,uL c)] [74] V R:=
 AD (H:=hK 77) [(42,(.var .sl 0)),(43,(.var .sl 1)),(73,(.var .sl 2))] [uL a,uL b,uL c] rfl (by kernel_rfl) h
def w11o66(a:KB)(b:Sl)(c:KB)(d g:Sl)(i:KB)(j:Sl)(k:KB)(l o:Sl):MR:=λV R=>Ag [uS a,uL b,uS c,uL d,uL g,uS i,uL j,uS k,uL l,uL o] 76 V λp V1=>R (rT #[.slice (Aa p 0) 2 2]) V1
theorem s11o66{a:KB}{b:Sl}{c:KB}{d g:Sl}{i:KB}{j:Sl}{k:KB}{l o:Sl}{V:Mem}{R:KZ}(h:w11o66 a b c d g i j k l o V (OV R)):Ay xG 77 AH 66 1 [(40,uA #[uS a,uL b,uS c,uL d,uL g]),(74,uA #[uS i,uL j,uS k,uL l,uL o])] [75] V R:=
 AD (H:=hK 77) [(40,(.agg (.cons (.var .s 0) (.cons (.var .sl 1) (.cons (.var .s 2) (.cons (.var .sl 3) (.cons (.var .sl 4) .nil))))))),(74,(.agg (.cons (.var .s 5) (.cons (.var .sl 6) (.cons (.var .s 7) (.cons (.var .sl 8) (.cons (.var .sl 9) .nil)))))))] [uS a,uL b,uS c,uL d,uL g,uS i,uL j,uS k,uL l,uL o] rfl (by kernel_rfl) h
def w11o67(a b c:Sl):MR:=λV R=>R (rT #[uA #[uS (Ac [108,105,115,116,115]),uL a,uL b,uL c,z0,z0,z0,z0]]) V
theorem s11o67{a b c:Sl}{V:Mem}{R:KZ}(h:w11o67 a b c V (OV R)):Ay xG 77 AH 67 1 [(13,uL a),(15,uL b),(75,uL c)] [76] V R:=
 AD (H:=hK 77) [(13,(.var .sl 0)),(15,(.var .sl 1)),(75,(.var .sl 2))] [uL a,uL b,uL c] rfl (by kernel_rfl) h
def w11o68(a:Option Addr)(b:KB)(c d g i j k l:Sl):MR:=λV R=>An a 0 [uS b,uL c,uL d,uL g,uL i,uL j,uL k,uL l] V λV1=>R (rT #[]) V1
theorem s11o68{a:Option Addr}{b:KB}{c d g i j k l:Sl}{V:Mem}{R:KZ}(h:w11o68 a b c d g i j k l V (OV R)):Ay xG 77 AH 68 1 [(0,uP a),(76,uD b c d g i j k l)] [] V R:=
 AD (H:=hK 77) [(0,(.var .p 0)),(76,(.agg (.cons (.var .s 1) (.cons (.var .sl 2) (.cons (.var .sl 3) (.cons (.var .sl 4) (.cons (.var .sl 5) (.cons (.var .sl 6) (.cons (.var .sl 7) (.cons (.var .sl 8) .nil))))))))))] [uP a,uS b,uL c,uL d,uL g,uL i,uL j,uL k,uL l] rfl (by kernel_rfl) h
end
end Go.Proofs
