/- Part 15: no statement of the seat is proved here. -/
import Derived.Test.YtmdkfdmecbimcaaGreatDoorPd14
set_option linter.unusedVariables false
set_option linter.unusedSimpArgs false
open Go.Proofs.Tryz renaming f64->uw,prog->xS,underlying37->uq,underlying31->uo
open Go.Value renaming int->wP
open List renaming getElem?_eq_some_iff->yj,getElem?_eq_getElem->yi,ext_getElem?->wR,getElem?_map->xI,mem_of_getElem?->x8,nodup_nil->uu,mem_cons->yH,not_mem_nil->xQ,mem_iff_getElem?->wG,getElem?_set_ne->uU,getElem?_eq_none->uV,length_append->zI,length_singleton->yI,getD_eq_getElem?_getD->uN,getElem?_inj->uW,getElem?_append_left->wK,take_add_one->vM,take_of_length_le->xc,mem_filter->ym,any_eq_true->xp,mem_singleton->zR,map_append->yy,length_map->wI,getElem?_concat_length->uZ
open Option.some renaming injEq->zG
open Nat renaming zero_le->uv
open Option renaming map_some->zL,toList_some->uT
open Prod.mk renaming inj->vO
open Int renaming toNat_natCast->xa,toNat_of_nonneg->uK
open List.cons renaming injEq->yJ
namespace Go.Proofs
open Go Go.Sx
attribute [local irreducible] Go.Sx.Tri
theorem view_flat:flat (Az uw)=c64a++(c64b++[.ret]):=by kernel_rfl
theorem results_view{tmps:Array Value}{x:Value}{w:World}(h:tmps.getD 4 undef=x):(results uw tmps).run xS w=.ok x w:=by
 simp_all[results]
def ViewP(V:Mem)(m:Mm)(ids:List Int):Ending->Mem->Prop:=λe V'=>∃(vb mb:Nat)(gs nsl isl:Sl)(nd:List Nd),e=.returned (pv vb)/\QL 3 1 (AO vb mb gs nsl isl ids isl nsl ids nd) gs (m.globals.flatMap Ah) V V'/\(nd.map λn=>(n.ty,n.f))=m.nodes.map λn=>(n.ty,n.f)
section
variable{V:Mem}{p q:Nat}{d:Ds}{vl gl nl:Sl}{tr:List Tv}{gs:List Gl}{ns:List Nn}{wr v:Int}{m:Mm}{ids:List Int}{g:Gl}
theorem Pf(hd:Ds.Ok V d)(P:PsAt V p q d vl gl nl tr gs ns wr)(hT:C4 tr)(hln:tr.length<=1000)(hv0:0<=v)(hv1:v<(tr.length:Int))(G:Ar d m)(hcan:(AX d m).order=rngL m.nodes.length)(N:EN d tr ns v m ids)(hg:gs[v.toNat]?=some g)(hgv:g.v=BK ids d.globals m.globals):
  Tri xS 64 #[pv p,.int .i64 v] V (ViewP V m ids):=by
 refine MU (c:=Az uw) Tryz.func64 (by kernel_rfl) ?_;intro w X;rw[view_flat];have hA:AI xS 30 c64a [(0,pv p),(1,.int .i64 v)] [2,3,5,6] V λvs V1=>∃bs be bv bf vb mb t,vs=[pv bs,pv be,pv bv,pv bf]/\V.sub V1/\V vb=none/\V mb=none/\V1 bs=some (cell (pv p) 34)/\V1 be=some (cell (.int .i64 v) 3)/\V1 vb=some (.cells #[.slice none 0 0,.slice none 0 0,.slice none 0 0,.map (some mb)] 105 (0,0))/\V1 bv=some (cell (pv vb) 101)/\V1 bf=some (cell .nilFunc t)/\t=177/\V bf=none/\Dt (wP .i64) V1 mb (λ_=>none):=by
  refine s64a (a:=some ⟨p,0,none⟩) (b:=v) ?_;unfold w64a;refine GenK.makeMap λmb hmb=>⟨some mb,rfl,λbs hbs be hbe vb hvb bv hbv bf hbf=>?_⟩;have s1:=Mem.sub_new hmb (.map #[] 0);have s2:=Mem.sub_new hbs (.cells #[pv p] 34 (0,0));have s3:=Mem.sub_new hbe (.cells #[.int .i64 v] 3 (0,0));have s4:=Mem.sub_new hvb (.cells #[.slice none 0 0,.slice none 0 0,.slice none 0 0,.map (some mb)] 105 (0,0));have s5:=Mem.sub_new hbv (.cells #[pv vb] 101 (0,0));have s6:=Mem.sub_new hbf (.cells #[.nilFunc] 177 (0,0));have s46:=s4.trans (s5.trans s6);have s26:=s2.trans (s3.trans s46);exact⟨_,rfl,bs,be,bv,bf,vb,mb,_,rfl,s1.trans s26,Cz (s1.trans (s2.trans s3)) hvb,hmb,(s3.trans s46) _ _ Au,s46 _ _ Au,(s5.trans s6) _ _ Au,s6 _ _ Au,Mem.set_same _ _ _,rfl,Cz (s1.trans (s2.trans (s3.trans (s4.trans s5)))) hbf,(Dt.made V mb).sub s26⟩
 refine hA.step X (JI (args:=[pv p,.int .i64 v]) (N:=30) (by simp)) ?_;rintro a1 w1 vs V1 hd1 hH1 ⟨bs,be,bv,bf,vb,mb,t,rfl,s1,nvb,nmb,c1,c2,c3,c4,c5,ht,nbf,C⟩ hF1;have hB:AI xS 30 c64b [(2,pv bs),(3,pv be),(5,pv bv),(6,pv bf)] [4] V1 λvs V2=>vs=[pv vb]/\ViewP V m ids (.returned (pv vb)) V2:=by
  refine s64b (a:=some ⟨bs,0,none⟩) (b:=some ⟨be,0,none⟩) (c:=some ⟨bv,0,none⟩) (d:=some ⟨bf,0,none⟩) ?_;obtain⟨R,hR⟩:∃R:Ending->Mem->Prop,R=λe V'=>∃vs:List Value,e=.returned (.tuple vs.toArray)/\vs=[pv vb]/\ViewP V m ids (.returned (pv vb)) V':=⟨_,rfl⟩;show w64b _ _ _ _ _ (λe V'=>∃vs:List Value,e=.returned (.tuple vs.toArray)/\vs=[pv vb]/\ViewP V m ids (.returned (pv vb)) V');rw[<-hR];unfold w64b;refine Ak.cell c5 ?_;obtain⟨U,hU⟩:∃U,U=V1.set bf (cell (.func (.func 93) #[] #[pv bv,pv bs,pv be,pv bf]) t):=⟨_,rfl⟩;rw[<-hU];have keep:∀{c:Nat}{o:Obj},V1 c=some o->c≠bf->U c=some o:=λh1 h2=>by rw[hU,Mem.set_ne h2];exact h1
  have n1:bs≠bf:=λe=>by simp_all
  have n2:be≠bf:=λe=>by simp_all
  have n3:vb≠bf:=λe=>by simp_all
  have n4:bv≠bf:=λe=>by simp_all
  obtain⟨om,hom⟩:=mpv_some C;have n5:mb≠bf:=λe=>by
   obtain⟨es,c,h1,-⟩:=C.at_;simp_all
  have n6:∀{c:Nat}{x:Array Value} {t},V1 c=some (.cells x t (0,0))->c≠mb:=λB e=>by
   obtain⟨es,c,h1,-⟩:=C.at_;simp_all
  have n7:∀{c:Nat}{x:Value} {t},V1 c=some (cell x t)->c≠vb:=λB e=>by
   simp_all
  have sU:V.sub U:=λc o B=>keep (s1 _ _ B) λe=>by simp_all
  obtain⟨W,hW⟩:∃W,W=Mem.minus U (λc=>c=vb∨c=mb):=⟨_,rfl⟩;have J:∀{c:Nat}{o:Obj},U c=some o->c≠vb->c≠mb->W c=some o:=λh1 h2 h3=>by
   simp_all[Cy]
  have sW:V.sub W:=λc o B=>J (sU _ _ B) (λe=>by simp_all) λe=>by simp_all
  have S:J4 W bv bs be bf vb p q d vl gl nl tr gs ns wr v:=⟨hd.sub sW,P.sub sW,J (keep c4 n4) (n7 c4) (n6 c4),J (keep c1 n1) (n7 c1) (n6 c1),J (keep c2 n2) (n7 c2) (n6 c2),J (by rw[hU,ht,Mem.set_same]) n3.symm n5.symm⟩;have hmU:Dt (wP .i64) U mb (kV []):=by
   have:Dt (wP .i64) U mb (λ_=>none):=Nq C (by simp_all);exact this
  have C0:Cc vb mb Af Af Af [] W U:=⟨keep c3 n3,hmU,by rw[hW];exact DV (.inl rfl),by rw[hW];exact DV (.inr rfl),by rw[hW];exact Ft⟩;have hq0:FW vb mb Af (idf ids) ((⟨[],0⟩:Sr),[]) W U:=⟨Af,Af,QL.nil (QL.nil C0 none) none⟩;have E:=S.sub (FW.over.2 _ _ hq0);have hgn:=E.ps.g.n_eq;have hgl:=(yj.1 hg).1;obtain⟨y,hym,hy,-,-,hp,hz,hrow⟩:=E.ps.g.get (i:=v.toNat) (by omega);rw[hg]at hy;cases hy;obtain⟨p1,p2,p3,p4,p5⟩:=BO G.mem;have hgl8:=(JW G.valid).1;have Z:=(Ci.1 p4).1;have Y:(BK ids d.globals m.globals).length=m.globals.length:=J3 Z;have hgvW:Ab W g.sl 1 ((BK ids d.globals m.globals).map Ah):=by rw[<-hgv];exact S.ps.gv g hym
  have hu0:=JU (m:=m);refine⟨_,An E.bV,_,An E.bS,nn,nn,AM,d.gs,E.ps.cell 2 1 (by decide),_,An E.bS,nn,nn,gl,E.ps.cell 9 1 (by decide),v,An E.bE,hp,hv0,by omega,g.sl,hrow,_,?_,An E.bF,?_⟩;·rfl
  refine Tri.mono (mappedC (σ:=Sr×List Nd) (Qs:=FW vb mb Af (idf ids)) (W:=W) (V:=U) (caps:=[pv bv,pv bs,pv be,pv bf]) (λ_=>FW.over) S.ds.globals hgvW (by omega) (by rw[Y];omega) Tryz.call93
   (λi s o=>Vf d m (m.nodes.length+1) ⟨[],0⟩ [] d.globals m.globals (BK ids d.globals m.globals) i s o/\s.1.order.length+B0 m s.1<=m.nodes.length/\(∀z∈s.1.order,1<=z/\z<=(m.nodes.length:Int))/\B0 m s.1<=m.nodes.length) ⟨.start rfl Y,by simp_all,(λz hz=>by cases hz),hu0⟩ hq0 (λi fl w s o hf hw hst hk=>?_) (λi fl w s o W1 V2 sW1 hqs hf hw u hw0 hst=>?_)) ?_
  ·obtain⟨X,B,hr,hu⟩:=hst;have Q:=yi (l:=m.globals) (i:=i) (by grind);refine⟨X.skip hf Q ?_,B,hr,hu⟩;rw[FX hf Q]at hw;rcases hk with hk|hk;·exact .inl hk
   ·by_cases u:AG fl.ty=true;·exact .inl u
    ·rw[if_neg u]at hw;refine .inr (Classical.byContradiction λh0=>?_);have hg:=HA p4 hf Q (by simpa using u) h0;have:=(N.at_ hg.1 hg.2).2.2.1;simp_all
  ·obtain⟨X,B,hr,hu⟩:=hst;have Q:=yi (l:=m.globals) (i:=i) (by grind);obtain⟨z,hz⟩:∃z,m.globals[i]?=some z:=⟨_,Q⟩;rw[FX hf hz,if_neg (by simp[u]),zG]at hw;subst hw;have hz0:z≠0:=λh=>hw0 (by rw[h];rfl);have hg:=HA p4 hf hz u hz0;refine Tri.mono (enterV hT hln hv0 hv1 G N (m.nodes.length+1) W1 V2 s.1 s.2 z (S.sub sW1) hqs X.vx.len hg (by omega) B hr) ?_;rintro _ V3 ⟨s',rfl,hq',he',hv',hm'⟩;have K:=(ent_cl G.mem (m.nodes.length+1) s.1 z hg (by omega)).1;rw[<-he']at K;exact⟨_,s',rfl,hq',X.next rfl hf hz u hz0 he' hv' hm',K.cap B,K.rng hr,Nat.le_trans (I5 K.sub) hu⟩
  ·rintro _ V9 ⟨out,s,o,rfl,hq9,⟨X,hc9,hr9,hu9⟩,hol⟩;obtain⟨e1,e2,e3⟩:=X.done Z Y λj' fl x' w' hf' hx' hw' T=>by
    rw[FX hf' hx',zG]at hw';rcases T with T|T;·simp_all
    ·subst T;rw[<-hw'];split;·rfl
     ·rfl
   have hso:s.1=AX d m:=e3;have O:s.1.order=rngL m.nodes.length:=by grind
   have hids:s.1.order.map (idf ids)=ids:=by rw[O,<-N.len];exact map_idf
   have ho:o=m.globals:=by rw[e1,O,renL_rng p4 rfl]
   obtain⟨W2,ho2,A,L,h9⟩:=hq9;have S9:=(S.sub ho2.sub).sub h9.sub;have h9':AO vb mb Af L A (s.1.order.map (idf ids)) A L (s.1.order.map (idf ids)) s.2 W2 V9:=h9;rw[hids]at h9';refine⟨out,rfl,An S9.bV,nn,nn,AM,?_⟩;refine h9'.setG λV10 h10=>?_;have S10:=(S.sub ho2.sub).sub h10.sub;refine⟨_,An S10.bV,?_⟩;rw[hR];refine⟨_,rfl,rfl,vb,mb,out,L,A,s.2,rfl,⟨W2,?_,h10⟩,?_⟩
   ·have:=ho2.narrow sW;grind
   ·have hlen:=X.vx.len;rw[O,Nt]at hlen;refine wR λi=>?_;rw[xI,xI];by_cases hi:i<m.nodes.length
    ·obtain⟨x,z,q1,q2,q3,q4,-⟩:=X.vx.new i ((i:Int)+1) (uv _) (by rw[O];exact Lv hi);rw[show((i:Int)+1-1).toNat=i by omega]at q2;rw[q1,q2,zL,zL,q3,q4,O,renL_rng (p5 x (x8 q2)) rfl]
    grind
 refine hB.step hF1.le hH1 ?_;rintro a2 w2 vs V2 hd2 hH2 ⟨rfl,hP⟩ hF2;show Code.wpIn (Ay none) 0 xS .ret _ a2 w2;refine wpIn_ret ?_;refine⟨.inr rfl,[],by simp_all,uu,V2,hF1.trans hF2,(λD h=>by cases h),pv vb,λw6 hw6=>results_view (hH2.get rfl),hP⟩
end
theorem Lw{m m':Mm}(h:m.plain=m'.plain):Bf m=Bf m':=by
 have h1:=(vO h).1;have h2:=(vO h).2;grind[Bf]
theorem takeW{α:Type}{t e sz:Nat}{row:α->List Value}{xs ys:List α}(A:AppP t e sz row){Q:Mem->Mem->Prop}{W V:Mem}{o u:Sl}(O:BV Q)(h:QL e sz Q o (xs.flatMap row) W V)(hu:Ab V u sz (ys.map row))(E:xs.length+ys.length<=2147483648){ty:Nat}{y z:Operand}{vals:Operand->Value}(L:vals y=.slice o.p o.n o.c)(S:vals z=.slice u.p u.n u.c){K:Value->Mem->Prop}(hK:∀J V',QL e sz Q J ((xs++ys).flatMap row) W V'->K (.slice J.p J.n J.c) V'):
  GenK xS (.call {callee:=.builtin .append,args:=#[y,z],argTypes:=#[t,t]}) ty vals V K:=by
 obtain⟨W1,R,X⟩:=h;have h1:=O.2 _ _ X;have G:=Own.growS R h1;refine A L S G.but hu E λJ V' Z=>hK J V' ?_;obtain⟨B,U,g3⟩:=pushG G Z;obtain⟨M,hM,C⟩:=O.1 W1 V X;have hB:∀c,M c->V c≠none/\¬AP o c:=λc N=>⟨C.1 c N,λhb=>by
  grind[Own.some]⟩
 have Y:W.sub (Mem.minus V' M):=λc x N=>by
  have:¬M c:=λhm=>by
   have:=R.sub _ _ N;simp_all
  rw[Cy this];exact B.sub _ _ N
 exact⟨Mem.minus V' M,FT B Y (λg x hg T L=>⟨T,by
  grind[Cy]⟩),C.2 V' λc x hm N=>by simp_all⟩
structure CM (p q:Nat)(d:Ds)(vlC glC nlC:Sl)(wr:Int)(W V:Mem):Prop where
 at_:V p=some (.cells (FV d q glC nlC wr).toArray 109 (0,0))
 tat:V q=some (.cells #[vlC.v] 173 (0,0))
 ne:p≠q
 p0:W p=none
 q0:W q=none
 sub:W.sub V
theorem CM.over{p q:Nat}{d:Ds}{vlC glC nlC:Sl}{wr:Int}:BV (CM p q d vlC glC nlC wr):=by
 refine⟨λW V h=>?_,λW V h=>h.sub⟩;refine⟨λb=>b=p∨b=q,λb t=>?_,λb t=>?_,λV' u=>⟨u _ _ (.inl rfl) h.at_,u _ _ (.inr rfl) h.tat,h.ne,DV (.inl rfl),DV (.inr rfl),Ft⟩⟩
 ·rcases t with rfl|rfl;·exact h.p0
  ·exact h.q0
 ·rcases t with rfl|rfl;·rw[h.at_];simp
  ·rw[h.tat];simp
def At(p q:Nat)(d:Ds)(vlC glC nlC:Sl)(wr:Int)(vl:Sl)(tr:List Tv)(gl:Sl)(gs:List Gl)(nl:Sl)(ns zs:List Nn):Mem->Mem->Prop:=
 QL 175 3 (QL 35 1 (QL 121 2 (QF 180 2 Nn.rsl (λn=>n.recs.flatMap Rc.row) zs (CM p q d vlC glC nlC wr)) nl (ns.flatMap Nn.row)) gl (gs.flatMap Gl.row)) vl (tr.flatMap Fb)
theorem appTv:AppP 171 175 3 Fb:=appG Tryz.underlying171 (by kernel_rfl) (by kernel_rfl) (by kernel_rfl) (by kernel_rfl) (by kernel_rfl) (by decide) (by intro _;rfl) λx u hu=>by simp only[Fb,yH,xQ,or_false]at hu;rcases hu with rfl|rfl|rfl<;>rfl
theorem appGl:AppP 37 35 1 Gl.row:=appG uq (by kernel_rfl) (by kernel_rfl) (by kernel_rfl) (by kernel_rfl) (by kernel_rfl) (by decide) (by intro _;rfl) λx u hu=>by simp only[Gl.row,Sl.v,yH,xQ,or_false]at hu;subst hu;rfl
theorem appNn:AppP 107 121 2 Nn.row:=appG Tryz.underlying107 (by kernel_rfl) (by kernel_rfl) (by kernel_rfl) (by kernel_rfl) (by kernel_rfl) (by decide) (by intro _;rfl) λx u hu=>by simp only[Nn.row,Sl.v,yH,xQ,or_false]at hu;rcases hu with rfl|rfl<;>rfl
theorem appRc:AppP 119 180 2 Rc.row:=appG Tryz.underlying119 (by kernel_rfl) (by kernel_rfl) (by kernel_rfl) (by kernel_rfl) (by kernel_rfl) (by decide) (by intro _;rfl) λx u hu=>by simp only[Rc.row,Sl.v,yH,xQ,or_false]at hu;rcases hu with rfl|rfl<;>rfl
section
variable{p q:Nat}{d:Ds}{vlC glC nlC vl gl nl:Sl}{wr:Int}{tr:List Tv}{gs:List Gl}{ns zs:List Nn}{W V V' W1:Mem}
theorem At.over:BV (At p q d vlC glC nlC wr vl tr gl gs nl ns zs):=QL.over (QL.over (QL.over (QF.over CM.over zs)))
theorem At.low:Gu (At p q d vlC glC nlC wr vl tr gl gs nl ns zs):=QL.low
theorem At.sub(h:At p q d vlC glC nlC wr vl tr gl gs nl ns zs W V):W.sub V:=At.over.2 _ _ h
theorem At.base{t u o:Sl}{c:Int}(h:At p q d vlC glC nlC wr vl tr gl gs nl ns zs W V)(e:∀W1,W.sub W1->CM p q d vlC glC nlC wr W1 V->CM p q d t u o c W1 V'):At p q d t u o c vl tr gl gs nl ns zs W V':=
 QL.map h λ_ J h1=>QL.map h1 λ_ G h2=>QL.map h2 λ_ N h3=>QF.map zs h3 λZ Y h4=>e Z (J.trans (G.trans (N.trans Y))) h4
theorem At.c(h:At p q d vlC glC nlC wr vl tr gl gs nl ns zs W V):∃W1,W.sub W1/\CM p q d vlC glC nlC wr W1 V:=by
 obtain⟨W1,t,-,h1⟩:=QL.below (QL.over (QL.over (QF.over CM.over zs))) h;obtain⟨G,u,-,h2⟩:=QL.below (QL.over (QF.over CM.over zs)) h1;obtain⟨N,o,-,h3⟩:=QL.below (QF.over CM.over zs) h2;obtain⟨e,J,-,h4⟩:=QF.below CM.over zs h3;exact⟨e,t.trans (u.trans (o.trans J)),h4⟩
theorem At.at_(h:At p q d vlC glC nlC wr vl tr gl gs nl ns zs W V):V p=some (.cells (FV d q glC nlC wr).toArray 109 (0,0)):=by
 obtain⟨_,_,h1⟩:=h.c;exact h1.at_
theorem At.tat(h:At p q d vlC glC nlC wr vl tr gl gs nl ns zs W V):V q=some (.cells #[vlC.v] 173 (0,0)):=by
 obtain⟨_,_,h1⟩:=h.c;exact h1.tat
theorem At.cell(h:At p q d vlC glC nlC wr vl tr gl gs nl ns zs W V)(i n:Nat)(hi:i+n<=12):V.rowp (sa p) i n=some (((FV d q glC nlC wr).drop i).take n):=Aj h.at_ i n hi
theorem At.cell'(h:At p q d vlC glC nlC wr vl tr gl gs nl ns zs W V)(j i n:Nat)(hi:j+i+n<=12):V.rowp (Aa (sa p) j) i n=some (((FV d q glC nlC wr).drop (j+i)).take n):=Ev h.at_ j i n hi
theorem At.trRows(h:At p q d vlC glC nlC wr vl tr gl gs nl ns zs W V):Ab V vl 3 (tr.map Fb):=QL.rows (row:=Fb) (QL.over (QL.over (QF.over CM.over zs))) (λ_=>rfl) (by decide) h
theorem At.glRows(h:At p q d vlC glC nlC wr vl tr gl gs nl ns zs W V):Ab V gl 1 (gs.map Gl.row):=QL.rows (row:=Gl.row) (QL.over (QL.over (QF.over CM.over zs))) (λ_=>rfl) (by decide) (QL.swap h)
theorem At.nlRows(h:At p q d vlC glC nlC wr vl tr gl gs nl ns zs W V):Ab V nl 2 (ns.map Nn.row):=by
 obtain⟨W1,t,h1⟩:=h;exact QL.rows (row:=Nn.row) (QL.over (QF.over CM.over zs)) (λ_=>rfl) (by decide) (QL.swap h1)
theorem At.rcRows(h:At p q d vlC glC nlC wr vl tr gl gs nl ns zs W V){z:Nn}(t:z∈zs):Ab V z.rsl 2 (z.recs.map Rc.row):=by
 obtain⟨W1,o,-,h1⟩:=QL.below (QL.over (QL.over (QF.over CM.over zs))) h;obtain⟨c,e,-,h2⟩:=QL.below (QL.over (QF.over CM.over zs)) h1;obtain⟨J,G,-,h3⟩:=QL.below (QF.over CM.over zs) h2;obtain⟨i,u⟩:=wG.1 t;exact(QF.own CM.over u h3).rows (λ_=>rfl) (by decide)
theorem At.setP(h:At p q d vlC glC nlC wr vl tr gl gs nl ns zs W V)(t u:Sl)(o:Int):At p q d vlC t u o vl tr gl gs nl ns zs W (V.set p (.cells (FV d q t u o).toArray 109 (0,0))):=
 h.base λ_ _ h1=>⟨Mem.set_same _ _ _,by rw[Mem.set_ne h1.ne.symm];exact h1.tat,h1.ne,h1.p0,h1.q0,h1.sub.set h1.p0 _⟩
theorem At.setT(h:At p q d vlC glC nlC wr vl tr gl gs nl ns zs W V)(t:Sl):At p q d t glC nlC wr vl tr gl gs nl ns zs W (V.set q (.cells #[t.v] 173 (0,0))):=
 h.base λ_ _ h1=>⟨by rw[Mem.set_ne h1.ne];exact h1.at_,Mem.set_same _ _ _,h1.ne,h1.p0,h1.q0,h1.sub.set h1.q0 _⟩
theorem At.stT(h:At p q d vlC glC nlC wr vl tr gl gs nl ns zs W V){t:Sl}{k:Mem->Prop}(u:∀V',At p q d t glC nlC wr vl tr gl gs nl ns zs W V'->k V'):Ak (Aa (sa q) 0) 0 [t.v] V k:=
 Ak.at2 (off:=0) h.tat (by simp) (u _ (h.setT t))
theorem At.stG(h:At p q d vlC glC nlC wr vl tr gl gs nl ns zs W V){t:Sl}{k:Mem->Prop}(u:∀V',At p q d vlC t nlC wr vl tr gl gs nl ns zs W V'->k V'):Ak (Aa (sa p) 9) 0 [t.v] V k:=
 Ak.at2 (off:=9) h.at_ (by simp[FV]) (u _ (h.setP t nlC wr))
theorem At.stN(h:At p q d vlC glC nlC wr vl tr gl gs nl ns zs W V){t:Sl}{k:Mem->Prop}(u:∀V',At p q d vlC glC t wr vl tr gl gs nl ns zs W V'->k V'):Ak (Aa (sa p) 10) 0 [t.v] V k:=
 Ak.at2 (off:=10) h.at_ (by simp[FV]) (u _ (h.setP glC t wr))
theorem At.stW(h:At p q d vlC glC nlC wr vl tr gl gs nl ns zs W V){t:Int}{k:Mem->Prop}(u:∀V',At p q d vlC glC nlC t vl tr gl gs nl ns zs W V'->k V'):Ak (Aa (sa p) 11) 0 [.int .i64 t] V k:=
 Ak.at2 (off:=11) h.at_ (by simp[FV]) (u _ (h.setP glC nlC t))
theorem At.pushT(h:At p q d vlC glC nlC wr vl tr gl gs nl ns zs W V){x:Tv}{b:Nat}(u:V b=none)(o:tr.length+1<=2147483648){ty:Nat}{y z:Operand}{vals:Operand->Value}(e:vals y=.slice vl.p vl.n vl.c)(J:vals z=.slice (sa b) 1 1){K:Value->Mem->Prop}(hK:∀t V',At p q d vlC glC nlC wr t (tr++[x]) gl gs nl ns zs W V'->K (.slice t.p t.n t.c) V'):
  GenK xS (.call {callee:=.builtin .append,args:=#[y,z],argTypes:=#[171,171]}) ty vals (V.set b (.cells #[.int .i64 x.1,.int .i64 x.2.1,.int .i64 x.2.2] 175 (0,0))) K:=
 pushW (row:=Fb) (x:=x) appTv (λ_=>rfl) (QL.over (QL.over (QF.over CM.over zs))) h u o e J rfl hK
theorem At.pushG(h:At p q d vlC glC nlC wr vl tr gl gs nl ns zs W V){x:Gl}{b:Nat}(u:V b=none)(o:gs.length+1<=2147483648){ty:Nat}{y z:Operand}{vals:Operand->Value}(e:vals y=.slice gl.p gl.n gl.c)(J:vals z=.slice (sa b) 1 1){K:Value->Mem->Prop}(hK:∀t V',At p q d vlC glC nlC wr vl tr t (gs++[x]) nl ns zs W V'->K (.slice t.p t.n t.c) V'):
  GenK xS (.call {callee:=.builtin .append,args:=#[y,z],argTypes:=#[37,37]}) ty vals (V.set b (.cells #[x.sl.v] 35 (0,0))) K:=
 pushW (row:=Gl.row) (x:=x) appGl (λ_=>rfl) (QL.over (QL.over (QF.over CM.over zs))) (QL.swap h) u o e J rfl λt V' G=>hK t V' (QL.swap G)
theorem At.pushR(h:At p q d vlC glC nlC wr vl tr gl gs nl ns zs W V){j:Nat}{a:Nn}(u:zs[j]?=some a){x:Rc}{b:Nat}(o:V b=none)(e:a.recs.length+1<=2147483648){ty:Nat}{y z:Operand}{vals:Operand->Value}(J:vals y=.slice a.rsl.p a.rsl.n a.rsl.c)(G:vals z=.slice (sa b) 1 1){K:Value->Mem->Prop}(hK:∀(t:Sl) V',At p q d vlC glC nlC wr vl tr gl gs nl ns (zs.set j ⟨a.ty,t,a.recs++[x]⟩) W V'->K (.slice t.p t.n t.c) V'):
  GenK xS (.call {callee:=.builtin .append,args:=#[y,z],argTypes:=#[119,119]}) ty vals (V.set b (.cells #[.int .i64 x.ver,x.sl.v] 180 (0,0))) K:=by
 have N:=(yj.1 u).1;have h1:QL 175 3 (QL 35 1 (QL 121 2 (QL 180 2 (QF 180 2 Nn.rsl (λn=>n.recs.flatMap Rc.row) (zs.eraseIdx j) (CM p q d vlC glC nlC wr)) a.rsl (a.recs.flatMap Rc.row)) nl (ns.flatMap Nn.row)) gl (gs.flatMap Gl.row)) vl (tr.flatMap Fb) W V:=QL.map h λ_ _ h1=>QL.map h1 λ_ _ h2=>QL.map h2 λ_ _ h3=>QF.pick zs u h3;have h2:QL 180 2 (QL 175 3 (QL 35 1 (QL 121 2 (QF 180 2 Nn.rsl (λn=>n.recs.flatMap Rc.row) (zs.eraseIdx j) (CM p q d vlC glC nlC wr)) nl (ns.flatMap Nn.row)) gl (gs.flatMap Gl.row)) vl (tr.flatMap Fb)) a.rsl (a.recs.flatMap Rc.row) W V:=QL.swap (QL.map h1 λ_ _ h1=>QL.swap (QL.map h1 λ_ _ h2=>QL.swap h2));refine pushW (row:=Rc.row) (x:=x) appRc (λ_=>rfl) (QL.over (QL.over (QL.over (QF.over CM.over _)))) h2 o e J G rfl λt V' h3=>hK t V' ?_;have h4:=QL.swap h3;exact QL.map h4 λ_ _ Z=>QL.map (QL.swap Z) λ_ _ Y=>QL.map (QL.swap Y) λ_ _ Q=>QF.back (a:=⟨a.ty,t,a.recs++[x]⟩) zs N Q
theorem At.stR(h:At p q d vlC glC nlC wr vl tr gl gs nl ns zs W V){j:Nat}{a:Nn}(u:ns[j]?=some a){r':Sl}{rs:List Rc}{k:Mem->Prop}(o:∀V',At p q d vlC glC nlC wr vl tr gl gs nl (ns.set j ⟨a.ty,r',rs⟩) zs W V'->k V'):Ak (Aa (Aa nl.p (j*2)) 1) 0 [r'.v] V k:=by
 have c:=(yj.1 u).1;have h1:QL 121 2 (QL 175 3 (QL 35 1 (QF 180 2 Nn.rsl (λn=>n.recs.flatMap Rc.row) zs (CM p q d vlC glC nlC wr)) gl (gs.flatMap Gl.row)) vl (tr.flatMap Fb)) nl (ns.flatMap Nn.row) W V:=QL.swap (QL.map h λ_ _ h1=>QL.swap h1);have t:(ns.flatMap Nn.row).length=ns.length*2:=GK (row:=Nn.row) (λ_=>rfl) _;rw[ptrAdd_add];refine h1.store (QL.over (QL.over (QF.over CM.over _))) (i:=j*2+1) (by rw[t];omega) λV' h2 _=>o V' ?_;rw[<-Nr (row:=Nn.row) (x':=⟨a.ty,r',rs⟩) (sz:=2) (λ_=>rfl) (by decide) u rfl]at h2;exact QL.map (QL.swap h2) λ_ _ h3=>QL.swap h3
theorem At.pushN(h:At p q d vlC glC nlC wr vl tr gl gs nl ns zs W V){fl:Sl}{fr:List Nn}(u:Ab V fl 2 (fr.map Nn.row))(J:ns.length+fr.length<=2147483648){ty:Nat}{y z:Operand}{vals:Operand->Value}(G:vals y=.slice nl.p nl.n nl.c)(N:vals z=.slice fl.p fl.n fl.c){K:Value->Mem->Prop}(hK:∀t V',At p q d vlC glC nlC wr vl tr gl gs t (ns++fr) zs W V'->K (.slice t.p t.n t.c) V'):
  GenK xS (.call {callee:=.builtin .append,args:=#[y,z],argTypes:=#[107,107]}) ty vals V K:=by
 have h1:QL 121 2 (QL 175 3 (QL 35 1 (QF 180 2 Nn.rsl (λn=>n.recs.flatMap Rc.row) zs (CM p q d vlC glC nlC wr)) gl (gs.flatMap Gl.row)) vl (tr.flatMap Fb)) nl (ns.flatMap Nn.row) W V:=QL.swap (QL.map h λ_ _ h1=>QL.swap h1);have Z:=QL.over (e:=175) (sz:=3) (o:=vl) (vs:=tr.flatMap Fb) (QL.over (e:=35) (sz:=1) (o:=gl) (vs:=gs.flatMap Gl.row) (QF.over (e:=180) (sz:=2) (sl:=Nn.rsl) (vs:=λn=>n.recs.flatMap Rc.row) (CM.over (p:=p) (q:=q) (d:=d) (vlC:=vlC) (glC:=glC) (nlC:=nlC) (wr:=wr)) zs));refine takeW appNn Z h1 u J G N λt V' h2=>hK t V' ?_;exact QL.map (QL.swap h2) λ_ _ h3=>QL.swap h3
end
def mapL(F:Int->Int)(l:List Fld)(vs:List Int):List Int:=(l.zip vs).map λx=>if AG x.1.ty=true then x.2 else F x.2
theorem mapL_at{F:Int->Int}{l:List Fld}{vs:List Int}{i:Nat}{f:Fld}{v:Int}(h:l[i]?=some f)(hv:vs[i]?=some v):(mapL F l vs)[i]?=some (if AG f.ty=true then v else F v):=by
 grind[mapL]
theorem mapL_len{F:Int->Int}{l:List Fld}{vs:List Int}(h:l.length=vs.length):(mapL F l vs).length=vs.length:=by
 grind[mapL]
section
variable{V W:Mem}
theorem mappedP{Q:Mem->Mem->Prop}(X:BV Q){l v:Sl}{fs:List Fld}{vs:List Int}{g:Nat}{caps:List Value}(F:Int->Int)(hF:F 0=0)
  (B:Ab W l 2 (fs.map Fld.row)) (hv:Ab W v 1 (vs.map Ah)) (N:fs.length=vs.length) (A:vs.length<=2147483648) (C:GL g) (O:Q W V)
  (E:∀x W1 V1,W.sub W1->Q W1 V1->x∈CG fs vs->Tri xS g (#[]++#[.int .i64 x]++caps.toArray) V1 λe V2=>e=.returned (.int .i64 (F x))/\V1=V2):
  Tri xS 78 #[l.v,v.v,.func (.func g) #[] caps.toArray] V λe V'=>∃out:Sl,e=.returned (.slice out.p out.n out.c)/\QL 3 1 Q out ((mapL F fs vs).flatMap Ah) W V':=by
 refine Tri.mono (mappedC (σ:=Unit) (Qs:=λ_=>Q) (W:=W) (V:=V) (λ_=>X) B hv N A C
  (λi _ o=>∀(j:Nat) f x,fs[j]?=some f->vs[j]?=some x->o[j]?=some (if j<i/\¬AG f.ty=true then F x else x)) (s0:=()) (λj f x _ G=>by simp_all) O (λi f x _ o Z G t hk j L R u J=>?_) (λi f x _ o W1 V1 K O Z G S T t=>?_)) ?_
 ·have h1:=t j L R u J;rw[h1];by_cases e:j=i;·grind
  ·by_cases Y:j<i;·simp[Y,show j<i+1 by omega]
   grind
 ·refine Tri.mono (E x W1 V1 K O (GZ.2 ⟨i,f,Z,G,S,T⟩)) ?_;rintro _ V2 ⟨rfl,rfl⟩;refine⟨F x,(),rfl,O,λj L R u J=>?_⟩;have h1:=t j L R u J;by_cases e:j=i;·grind
  ·rw[uU (λh=>e h.symm),h1];by_cases Y:j<i;·simp[Y,show j<i+1 by omega]
   grind
 ·rintro _ V' ⟨out,_,o,rfl,U,t,hol⟩;refine⟨out,rfl,?_⟩;have e:o=mapL F fs vs:=wR λj=>by
   by_cases Y:j<fs.length
   ·have Z:=yi Y;have G:=yi (l:=vs) (i:=j) (by omega);rw[t j _ _ Z G,mapL_at Z G];grind
   grind[uV,mapL_len]
  simp_all
theorem RB:Tri xS 52 #[] V λe V'=>∃b q,V b=none/\(V.set b (.cells #[.int .i64 (-1),.int .i64 0,.int .i64 0] 175 (0,0))) q=none/\V'=(V.set b (.cells #[.int .i64 (-1),.int .i64 0,.int .i64 0] 175 (0,0))).set q (.cells #[(⟨some ⟨b,0,none⟩,1,1⟩:Sl).v] 173 (0,0))/\e=.returned (pv q):=by
 refine Qk ?_;exact λb h q t=>⟨b,q,h,t,rfl,rfl⟩
theorem RC{p q:Nat}{d:Ds}{glC nlC vl gl nl:Sl}{wr v:Int}{tr:List Tv}{gs:List Gl}{ns zs:List Nn}(h:At p q d vl glC nlC wr vl tr gl gs nl ns zs W V)(A:C4 tr)(h0:0<=v)(hv:v<(tr.length:Int))(hln:tr.length<1000):
  Tri xS 47 #[pv q,.int .i64 v] V λe V'=>∃u J o,e=.returned (.tuple #[.int .i64 tr.length,.int .i64 0])/\(0<=J/\J<=(tr.length:Int))/\(0<=o/\o<=(tr.length:Int))/\At p q d u glC nlC wr u (tr++[(v,J,o)]) gl gs nl ns zs W V':=by
 obtain⟨R,hR⟩:∃R:Ending->Mem->Prop,R=λe V'=>∃u J o,e=.returned (.tuple #[.int .i64 tr.length,.int .i64 0])/\(0<=J/\J<=(tr.length:Int))/\(0<=o/\o<=(tr.length:Int))/\At p q d u glC nlC wr u (tr++[(v,J,o)]) gl gs nl ns zs W V':=⟨_,rfl⟩;rw[<-hR];refine Qf ?_;intro b hb;obtain⟨W1,s1,h1,-⟩:=BV.grow At.over h (Mem.sub_new hb (.cells #[.int .i64 v] 3 (0,0)));have h1:=At.low _ _ _ s1 h1;have Q:TrAt (V.set b (.cells #[.int .i64 v] 3 (0,0))) q vl tr:=⟨h1.tat,h1.trRows⟩;have hk:tckE tr.length [v]=0:=tck_ok λx C=>by simp_all
 refine(Pc Q (one_at (V:=V) (b:=b) v)).call ⟨_,rfl,λ_=>?_,λG=>absurd hk G⟩;have hvn:=Q.rows.n_eq;obtain⟨i,rfl⟩:∃i:Nat,v=(i:Int):=⟨v.toNat,by omega⟩;obtain⟨x,hxm,C,-,-,hp,hz,L⟩:=Q.rows.get (i:=i) (by omega);have hd:=A.dep _ _ C;have hj:=A.jmp _ _ C;obtain⟨j,E⟩:∃j:Nat,x.2.2=(j:Int):=⟨x.2.2.toNat,by omega⟩;obtain⟨y,hym,U,-,-,K,hz2,N⟩:=Q.rows.get (i:=j) (by omega);have hd2:=A.dep _ _ U;have hj2:=A.jmp _ _ U;obtain⟨k,S⟩:∃k:Nat,y.2.2=(k:Int):=⟨y.2.2.toNat,by omega⟩;obtain⟨z,hzm,T,-,-,X,hz3,Z⟩:=Q.rows.get (i:=k) (by omega);have hd3:=A.dep _ _ T;have B:∀{o:Int}{u:Sl}{O:Mem},0<=o/\o<=(tr.length:Int)->At p q d u glC nlC wr u (tr++[((i:Int),x.2.1+1,o)]) gl gs nl ns zs W O->¬(some (⟨q,0,none⟩:Addr))=none/\¬(some (⟨q,0,none⟩:Addr))=none/\∃Y:Sl,O.rowp (sa q) ((0:Int).toNat*1) 1=some [Y.v]/\IR ((Y.n:Int)-1)/\R (.returned (.tuple #[.int .i64 ((Y.n:Int)-1),.int .i64 0])) O:=λ{o u O} hjp h3=>by
  have hn:=h3.trRows.n_eq;rw[zI,yI]at hn;refine⟨nn,nn,u,Aj h3.tat 0 1 (by simp),⟨by omega,by omega⟩,?_⟩;grind
 have t:=Q.cell;refine⟨nn,nn,vl,t,λG=>absurd (show(1000:Int)<=(vl.n:Int)from G) (by omega),λ_=>⟨nn,nn,vl,t,hp,by omega,by omega,x.1,x.2.1,x.2.2,by rw[xa];exact L,nn,nn,vl,t,K,by omega,by omega,y.1,y.2.1,y.2.2,by rw[E,xa];exact N,⟨by omega,by omega⟩,⟨by omega,by omega⟩,nn,nn,vl,t,X,by omega,by omega,Al X,z.1,z.2.1,z.2.2,by rw[S,xa];exact Z,⟨by omega,by omega⟩,λ_=>?_,λ_=>?_⟩⟩;·exact⟨nn,nn,vl,t,t,nn,nn,λc G=>h1.pushT (x:=((i:Int),x.2.1+1,y.2.2)) G (by omega) rfl rfl λu V2 h2=>⟨u,rfl,nn,nn,h2.stT λO h3=>B ⟨by omega,by omega⟩ h3⟩⟩
 ·exact⟨nn,nn,vl,t,t,nn,nn,λc G=>h1.pushT (x:=((i:Int),x.2.1+1,(i:Int))) G (by omega) rfl rfl λu V2 h2=>⟨u,rfl,nn,nn,h2.stT λO h3=>B ⟨by omega,by omega⟩ h3⟩⟩
end
section
variable{V W:Mem}{br bs vb mb p:Nat}{nl isl gsl nsl:Sl}{ids:List Int}{n len:Nat}
theorem RD(u:V.rowp (sa br) 0 1=some [pv vb])(c:V bs=some (cell (pv p) 34))(hv:V.rowp (sa vb) 2 1=some [isl.v])(e:V.rowp (sa p) 10 1=some [nl.v])(hi:Ab V isl 1 (ids.map Ah))(Z:nl.n=n)(Y:ids.length<=len)(Q:n<=100000000)(J:len<=100000000){x:Int}(h1:1<=x)(h2:x<=(len:Int)):
  PP 77 [.int .i64 x,pv br,pv bs] V (.int .i64 (idf (Bu ids n len) x)):=by
 refine QE ?_;have G:=hi.n_eq;refine⟨nn,_,u,nn,nn,isl,hv,λh=>?_,λh=>?_⟩
 ·have h:x<=(isl.n:Int):=h;obtain⟨k,rfl⟩:∃k:Nat,x=(k:Int)+1:=⟨(x-1).toNat,by omega⟩;obtain⟨z,-,O,-,-,o,N,t⟩:=hi.get (i:=k) (by omega);rw[show((k:Int)+1-1)=(k:Int)by omega];refine⟨nn,_,u,nn,nn,isl,hv,⟨by omega,by omega⟩,o,by omega,by omega,z,t,?_,rfl⟩;grind[idf,Bu]
 ·have h:¬x<=(isl.n:Int):=h;refine⟨_,An c,nn,nn,nl,e,⟨by omega,by omega⟩,nn,_,u,nn,nn,isl,hv,⟨by omega,by omega⟩,?_,rfl⟩;have:idf (Bu ids n len) x=(nl.n:Int)+x-(isl.n:Int):=by
   unfold idf;rw[if_neg (by omega),uN,extI_new (by omega) (by omega)];grind
  rw[this]
end
structure EY (d:Ds)(w:Int)(ns:List Nn)(ids:List Int)(m y:Mm)(i:Nat)(cur fr:List Nn):Prop where
 len:cur.length=ns.length
 at_:∀(j:Nat) z,ns[j]?=some z->∃z',cur[j]?=some z'/\z'.ty=z.ty/\((z'.recs=z.recs/\∀(k:Nat) a b,k<i->ids[k]?=some ((j:Int)+1)->m.nodes[k]?=some a->y.nodes[k]?=some b->a.f=b.f)∨∃(k:Nat)(a b:Nd)(r:Rc),k<i/\ids[k]?=some ((j:Int)+1)/\m.nodes[k]?=some a/\y.nodes[k]?=some b/\a.f≠b.f/\r.ver=w/\z'.recs=z.recs++[r]/\r.f=BK (Bu ids ns.length y.nodes.length) (AL d b.ty) b.f)
 frl:fr.length=i-ids.length
 fr_:∀(k:Nat) b,ids.length+k<i->y.nodes[ids.length+k]?=some b->∃z r,fr[k]?=some z/\z.ty=b.ty/\z.recs=[r]/\r.ver=w/\r.f=BK (Bu ids ns.length y.nodes.length) (AL d b.ty) b.f
 sum:DB cur+DB fr<=DB ns+(i-ids.length)+chgN (min i ids.length) m y
section
variable{d:Ds}{w:Int}{ns cur fr:List Nn}{ids:List Int}{m y:Mm}{i j:Nat}{a b:Nd}{z':Nn}{r:Rc}
theorem EY.start:EY d w ns ids m y 0 ns []:=⟨rfl,λj z h=>⟨z,h,rfl,.inl ⟨rfl,λk _ _ t=>by omega⟩⟩,by simp,λk b h=>by omega,by simp[DB]⟩
theorem EY.same(h:EY d w ns ids m y i cur fr)(hi:i<ids.length)(u:m.nodes[i]?=some a)(o:y.nodes[i]?=some b)(e:a.f=b.f):EY d w ns ids m y (i+1) cur fr:=by
 refine⟨h.len,λj z t=>?_,by have:=h.frl;omega,λk b c=>by omega,?_⟩
 ·obtain⟨z',h1,h2,h3⟩:=h.at_ j z t;grind
 ·have:=h.sum;grind[chgN_succ]
theorem EY.chg(h:EY d w ns ids m y i cur fr)(N:ids.Nodup)(hi:i<ids.length)(hid:ids[i]?=some ((j:Int)+1))(o:cur[j]?=some z')(Z:m.nodes[i]?=some a)(Y:y.nodes[i]?=some b)(e:a.f≠b.f){sl:Sl}(Q:r.ver=w)(O:r.f=BK (Bu ids ns.length y.nodes.length) (AL d b.ty) b.f):EY d w ns ids m y (i+1) (cur.set j ⟨z'.ty,sl,z'.recs++[r]⟩) fr:=by
 have c:=(yj.1 o).1;refine⟨by rw[List.length_set];exact h.len,λq z J=>?_,by have:=h.frl;omega,λk b A=>by omega,?_⟩
 ·obtain⟨u,h1,h2,h3⟩:=h.at_ q z J;by_cases G:q=j;·grind[List.getElem?_set_self,inr,uW]
  ·rw[uU λe=>G e.symm];refine⟨u,h1,h2,?_⟩;grind
 ·have h1:=h.sum;have h2:=recN_set (ns:=cur) (j:=j) (z:=z') (z':=⟨z'.ty,sl,z'.recs++[r]⟩) o;have h3:(z'.recs++[r]).length=z'.recs.length+1:=by simp
  have t:chgB m y i=true:=by
   grind[chgB]
  rw[show min (i+1) ids.length=i+1 by omega,chgN_succ,if_pos t];grind
theorem EY.new(h:EY d w ns ids m y i cur fr)(hi:ids.length<=i)(Z:y.nodes[i]?=some b){z:Nn}(h1:z.ty=b.ty)(h2:z.recs=[r])(Y:r.ver=w)(Q:r.f=BK (Bu ids ns.length y.nodes.length) (AL d b.ty) b.f)(hm:∀(k:Nat),ids.length<=k->ids[k]?=none):EY d w ns ids m y (i+1) cur (fr++[z]):=by
 have t:=h.frl;refine⟨h.len,λj q o=>?_,by simp;omega,λk c O e=>?_,?_⟩
 ·obtain⟨u,J,G,A⟩:=h.at_ j q o;grind
 ·by_cases N:ids.length+k=i;·grind
  ·obtain⟨u,L,J,G⟩:=h.fr_ k c (by omega) e;grind
 ·have h4:=h.sum;grind[DB]
theorem EY.done(h:EY d w ns ids m y y.nodes.length cur fr)(O:ids.Nodup)(R:ids.length<=y.nodes.length)(hm:m.nodes.length=ids.length):NsAdd d w ns ids m y (cur++fr)/\DB (cur++fr)<=DB ns+(y.nodes.length-ids.length)+chgN ids.length m y:=by
 have Y:=h.len;refine⟨⟨by rw[zI,Y,h.frl],λj z J=>?_,λj k z z' a b J t Q A G e=>?_,λj k z z' a b J t Q A G e=>?_,λk b G=>?_⟩,?_⟩
 ·obtain⟨u,c,N,o⟩:=h.at_ j z J;refine⟨u,by grind,N,?_⟩;rcases o with⟨o,-⟩|⟨k,a',b',Z,-,-,-,-,-,q1,q2,-⟩;·exact .inl o
  ·exact .inr ⟨Z,q1,q2⟩
 ·obtain⟨u,c,N,o⟩:=h.at_ j z J;rw[wK (yj.1 c).1,c]at t;cases t;rcases o with⟨o,-⟩|⟨k',a',b',Z,q1,q2,q3,q4,q5,-⟩;·exact o
  grind[uW,yj,absurd]
 ·obtain⟨u,c,N,o⟩:=h.at_ j z J;rw[wK (yj.1 c).1,c]at t;cases t;rcases o with⟨o,L⟩|⟨k',a',b',Z,q1,q2,q3,q4,q5,q6,q7,q8⟩;·grind
  ·have:=(uW (yj.1 Q).1 O).1 (Q.trans q2.symm);grind
 ·obtain⟨u,Z,c,N,o,L,X⟩:=h.fr_ k b (yj.1 G).1 G;grind
 ·have:=h.sum;grind[recN_app]
end
section
variable{p q vb mb:Nat}{d:Ds}{vlC glC nlC vl gl nl fl isl nsl gsl ll:Sl}{wr w:Int}{tr:List Tv}{gs:List Gl}{ns zs fr:List Nn}{W V D:Mem}{ids:List Int}{m y:Mm}{lg:List (Int×Int×Int)}
theorem At.snocZ{z:Nn}(h:QL 180 2 (At p q d vlC glC nlC wr vl tr gl gs nl ns zs) z.rsl (z.recs.flatMap Rc.row) W V):At p q d vlC glC nlC wr vl tr gl gs nl ns (zs++[z]) W V:=
 QL.map (QL.swap h) λ_ _ h1=>QL.map (QL.swap h1) λ_ _ h2=>QL.map (QL.swap h2) λ_ _ h3=>QF.snoc zs h3
theorem idf_zero{e:List Int}:idf e 0=0:=rfl
def StoreR(D:Mem)(p q:Nat)(d:Ds)(vl:Sl)(wr w:Int)(tr:List Tv)(gs:List Gl)(ns:List Nn)(ids:List Int)(m y:Mm)(lg:List (Int×Int×Int)):Ending->Mem->Prop:=λe V'=>e=.returned (.tuple #[])/\∃(u:Mem)(h t:Sl)(g:Gl)(ns':List Nn),D.sub u/\Bi u V' (At p q d vl h t (wr+Dl lg) vl tr h (gs++[g]) t ns' ns')/\g.v=BK (Bu ids ns.length y.nodes.length) d.globals y.globals/\Ab u g.sl 1 (g.v.map Ah)/\NsAdd d w ns ids m y ns'/\DB ns'<=DB ns+(y.nodes.length-ids.length)+chgN ids.length m y/\∀z∈ns',∀r∈z.recs,Ab u r.sl 1 (r.f.map Ah)
theorem wrL_succ{i:Nat}{a:Int×Int×Int}(h:lg[i]?=some a):Dl (lg.take (i+1))=Dl (lg.take i)+if a.1=2/\a.2.1≠0 then 1 else 0:=by
 rw[vM,h,uT,wrL_app,wrL_cons];have:Dl []=0:=rfl;omega
theorem wrL_le(l:List (Int×Int×Int)):0<=Dl l/\Dl l<=(l.length:Int):=by
 grind[Dl]
theorem RF{o1 o2 o3 o4 o5:Int}{mp:Option Nat}(hB:Bi D V (At p q d vl gl nl wr vl tr gl gs nl ns ns))(hd:Ds.Ok D d)(hvw:D vb=some (.cells #[gsl.v,nsl.v,isl.v,.map mp] 105 (0,0)))(hid:Ab D isl 1 (ids.map Ah))(hmn:Ab D nsl 2 (m.nodes.map Nd.row))(hmf:∀n∈m.nodes,Ab D n.sl 1 (n.f.map Ah))(hy:Mm.Ok D y)(Gy:Ar d y)(hl:Ab D ll 3 (lg.map FO))(hnn:∀a∈lg,0<=a.2.1)
  (hml:m.nodes.length=ids.length) (hle:ids.length<=y.nodes.length) (hdup:ids.Nodup) (hrng:∀x∈ids,1<=x/\x<=(ns.length:Int)) (hrl:∀z∈ns,z.recs.length<=1000) (hrf:∀z∈ns,∀r∈z.recs,Ab D r.sl 1 (r.f.map Ah)) (hnl:ns.length<=5000000) (hgl:gs.length<=1000) (hw0:0<=wr) (hw1:wr<=1099511627776) (hll:lg.length<=1073741824):
  Tri xS 48 #[pv p,.agg #[pv vb,.int .i64 o1,.int .i64 o2,.int .i64 o3,.int .i64 o4,.int .i64 o5,y.gs.v,y.ns.v,ll.v],.int .i64 w] V (StoreR D p q d vl wr w tr gs ns ids m y lg):=by
 obtain⟨R,hR⟩:∃R,R=StoreR D p q d vl wr w tr gs ns ids m y lg:=⟨_,rfl⟩;rw[<-hR];refine Qg ?_;obtain⟨p1,p2,p3,p4,p5⟩:=BO Gy.mem;obtain⟨l1,l2,l3⟩:=Ng Gy;obtain⟨W0,-,-,h0⟩:=hB.use;refine⟨nn,nn,gl,h0.cell 9 1 (by decide),nn,nn,AM,d.gs,h0.cell 2 1 (by decide),λbr hbr bs hbs=>?_⟩;obtain⟨B1,t1⟩:Bi (D.set br (.cells #[pv vb,.int .i64 o1,.int .i64 o2,.int .i64 o3,.int .i64 o4,.int .i64 o5,y.gs.v,y.ns.v,ll.v] 112 (0,0))) (V.set br (.cells #[pv vb,.int .i64 o1,.int .i64 o2,.int .i64 o3,.int .i64 o4,.int .i64 o5,y.gs.v,y.ns.v,ll.v] 112 (0,0))) (At p q d vl gl nl wr vl tr gl gs nl ns ns)/\D.sub (D.set br (.cells #[pv vb,.int .i64 o1,.int .i64 o2,.int .i64 o3,.int .i64 o4,.int .i64 o5,y.gs.v,y.ns.v,ll.v] 112 (0,0))):=⟨hB.pub hbr _,Mem.sub_new (Cz hB.sub hbr) _⟩;obtain⟨D1,hD1⟩:∃D1,D1=D.set br (.cells #[pv vb,.int .i64 o1,.int .i64 o2,.int .i64 o3,.int .i64 o4,.int .i64 o5,y.gs.v,y.ns.v,ll.v] 112 (0,0)):=⟨_,rfl⟩;have hbr1:D1 br=some (.cells #[pv vb,.int .i64 o1,.int .i64 o2,.int .i64 o3,.int .i64 o4,.int .i64 o5,y.gs.v,y.ns.v,ll.v] 112 (0,0)):=by rw[hD1,Mem.set_same]
 rw[<-hD1]at B1 t1;have B2:=B1.pub hbs (cell (pv p) 34);have t2:=Mem.sub_new (Cz B1.sub hbs) (cell (pv p) 34);obtain⟨D2,hD2⟩:∃D2,D2=D1.set bs (cell (pv p) 34):=⟨_,rfl⟩;have Z:D2 bs=some (cell (pv p) 34):=by rw[hD2,Mem.set_same]
 rw[<-hD2]at B2 t2;have G:=t1.trans t2;have C:=t2 _ _ hbr1;clear hD1 hD2 B1;have idC:∀{W1 V1:Mem}{Q:Mem->Mem->Prop}{nlx:Sl}{zx nx:List Nn}{glx glc:Sl}{gx:List Gl},D2.sub W1->At p q d vl glc nl wr vl tr glx gx nlx nx zx W1 V1->nl.n=ns.length->∀x,1<=x->x<=(y.nodes.length:Int)->Tri xS 77 (#[]++#[.int .i64 x]++#[pv br,pv bs]) V1 λe V2=>e=.returned (.int .i64 (idf (Bu ids ns.length y.nodes.length) x))/\V1=V2:=λ{W1 V1 Q nlx zx nx glx glc gx} hs h hn x hx1 hx2=>by
  have s:=hs.trans h.sub;have:=RD (V:=V1) (n:=ns.length) (len:=y.nodes.length) (Aj (s _ _ C) 0 1 (by simp)) (s _ _ Z) (Aj ((G.trans s) _ _ hvw) 2 1 (by simp)) (h.cell 10 1 (by decide)) (hid.sub (G.trans s)) hn hle (by omega) (by omega) hx1 hx2;exact Tri.mono this λ_ _ h=>⟨h.1,h.2.symm⟩
 have hnln:nl.n=ns.length:=by
  have:=h0.nlRows.n_eq;exact this
 obtain⟨W2,E,-,h2⟩:=B2.use;have hgvl:=(Ci.1 p4).1;refine Tri.mono (mappedP (W:=W2) At.over (idf (Bu ids ns.length y.nodes.length)) idf_zero (hd.globals.sub (G.trans E)) (hy.globals.sub (G.trans E)) hgvl (by omega) Tryz.call77 h2 λx W3 V3 s3 h3 hx=>?_) ?_
 ·have:=(tgt_in Gy.mem).1 x hx;exact idC (Q:=λ_ _=>True) (E.trans s3) h3 hnln x this.1 this.2
 rintro _ V3 ⟨K,rfl,W3,ho3,h3⟩;have hD3:D2.sub W3:=E.trans ho3.sub;have s3:=hD3.trans h3.sub;have hgr:Ab W3 K 1 ((BK (Bu ids ns.length y.nodes.length) d.globals y.globals).map Ah):=ho3.rows (row:=Ah) (λ_=>rfl) (by decide);have bsC:=An (s3 _ _ Z);refine⟨K,rfl,h3.cell' 9 0 1 (by decide),nn,nn,bsC,bsC,h3.cell' 9 0 1 (by decide),nn,nn,bsC,bsC,λb4 hb4=>?_⟩;refine h3.pushG (x:=⟨K,BK (Bu ids ns.length y.nodes.length) d.globals y.globals⟩) hb4 (by omega) rfl rfl λY V5 h5=>⟨Y,rfl,An ((hD3.trans h5.sub) _ _ Z),nn,nn,h5.stG λV6 h6=>?_⟩;obtain⟨g,hg⟩:∃g:Gl,g=⟨K,BK (Bu ids ns.length y.nodes.length) d.globals y.globals⟩:=⟨_,rfl⟩;have hgv:g.v=BK (Bu ids ns.length y.nodes.length) d.globals y.globals:=by rw[hg]
 have hgr:Ab W3 g.sl 1 (g.v.map Ah):=by grind
 rw[<-hg]at h6;clear hg h5 h3 h2 ho3;have s6:=hD3.trans h6.sub;refine⟨nn,nn,y.ns,Aj (s6 _ _ C) 7 1 (by simp),?_⟩;refine Ej (mk:=λs:Sl=>.slice s.p s.n s.c) (b0:=Af) Bb y.nodes.length (λi fl V7=>∃(W7:Mem)(cur fr:List Nn),W3.sub W7/\QL 121 2 (At p q d vl Y nl wr vl tr Y (gs++[g]) nl cur (cur++fr)) fl (fr.flatMap Nn.row) W7 V7/\EY d w ns ids m y i cur fr/\∀z∈cur++fr,∀r∈z.recs,Ab W7 r.sl 1 (r.f.map Ah)) ⟨W3,ns,[],Mem.sub.refl _,QL.nil (by simp_all) none,.start,λz hz r hr=>(hrf z (by simp_all) r hr).sub (G.trans hD3)⟩ ?_;rintro i fl V7 J hi ⟨W7,cur,fr,hW7,hq,N,hrr⟩ hJ;have hQ7:=QL.over (e:=121) (sz:=2) (o:=fl) (vs:=fr.flatMap Nn.row) (At.over (p:=p) (q:=q) (d:=d) (vlC:=vl) (glC:=Y) (nlC:=nl) (wr:=wr) (vl:=vl) (tr:=tr) (gl:=Y) (gs:=gs++[g]) (nl:=nl) (ns:=cur) (zs:=cur++fr));have hD7:D2.sub W7:=hD3.trans hW7;have hdW7:D.sub W7:=G.trans hD7;have s7:W7.sub V7:=hQ7.2 _ _ hq;have e7:=hD7.trans s7;have hyr:=(hy.nodes.sub (G.trans e7));refine⟨λhlt=>?_,λhge=>?_⟩
 ·obtain⟨x,hxm,hx,-,L,hp,hz,hrow⟩:=hyr.get hlt;obtain⟨c1,c2⟩:=of_decide_eq_true (p3 x hxm);obtain⟨j,hj⟩:∃j:Nat,x.ty=(j:Int):=⟨_,(uK c1).symm⟩;have htn:=hd.types.n_eq;obtain⟨t,htm,ht2,-,-,hpt,hzt,hrowt⟩:=(hd.types.sub (G.trans e7)).get (i:=j) (by omega);have hfo:AL d x.ty=t.fields:=EW ht2 hj;have X:=p5 x hxm;rw[hfo]at X;have hlen:t.fields.length=x.f.length:=Ll X;obtain⟨W8,hq8,h8⟩:=hq;refine⟨hp,hz,hlt,x.ty,x.sl,hrow,_,An (e7 _ _ Z),nn,nn,AM,d.ts,h8.cell 1 1 (by decide),?_⟩;rw[hj];refine⟨hpt,hzt,by omega,Al hpt,t.name,t.fs,hrowt,?_⟩;refine Tri.mono (mappedP (W:=W7) (V:=V7) hQ7 (idf (Bu ids ns.length y.nodes.length)) idf_zero ((hd.typesOk t htm).fields.sub hdW7) ((hy.nodesOk x hxm).rows.sub hdW7) hlen (l3 x hxm) Tryz.call77 ⟨W8,hq8,h8⟩ λz W9 V9 s9 h9 hz=>?_) ?_
  ·obtain⟨W10,S,O⟩:=h9;obtain⟨i',f',q1,q2,q3,q4⟩:=GZ.1 hz;have:=Ns ((Ci.1 X).2 i' f' z q1 q2) q3 q4;exact idC (Q:=λ_ _=>True) (hD7.trans (s9.trans S.sub)) O hnln z this.1 this.2
  rintro _ V8 ⟨out,rfl,W9,T,hq9⟩;have hD9:D2.sub W9:=hD7.trans T.sub;have s9:W9.sub V8:=hQ7.2 _ _ hq9;have e9:=hD9.trans s9;have hout:Ab W9 out 1 ((BK (Bu ids ns.length y.nodes.length) t.fields x.f).map Ah):=T.rows (row:=Ah) (λ_=>rfl) (by decide);have hrr9:∀z∈cur++fr,∀r∈z.recs,Ab W9 r.sl 1 (r.f.map Ah):=λz hz r hr=>(hrr z hz r hr).sub T.sub;have hin:=hid.n_eq;have hI:IR ((i:Int)+1):=⟨by omega,by omega⟩;have hfl:=N.frl;have hcl:=N.len;have hbr9:=e9 _ _ C;have hvw9:=(G.trans e9) _ _ hvw;refine⟨out,rfl,nn,_,Aj hbr9 0 1 (by simp),nn,nn,isl,Aj hvw9 2 1 (by simp),λhc b5 hb5 b6 hb6=>?_,λhc=>?_⟩
  ·have hc:(isl.n:Int)<=(i:Int):=hc;obtain⟨rc,U⟩:∃rc:Rc,rc=⟨w,out,BK (Bu ids ns.length y.nodes.length) t.fields x.f⟩:=⟨_,rfl⟩;obtain⟨z,hz⟩:∃z:Nn,z=⟨(j:Int),⟨some ⟨b5,0,none⟩,1,1⟩,[rc]⟩:=⟨_,rfl⟩;have ho:=own_blk (W:=V8) (row:=Rc.row) (e:=180) (sz:=2) (xs:=[rc]) (λ_=>rfl) hb5 (Mem.sub_new hb5 (.cells #[.int .i64 w,out.v] 180 (0,0))) (by rw[Mem.set_same,U];rfl) (by simp);have O:=QL.put hQ7 hq9 ho;have A:=QL.map (QL.swap O) λ_ _ h=>At.snocZ (z:=z) (by rw[hz];exact h);refine pushW appNn (x:=z) (λ_=>rfl) At.over A hb6 (by omega) rfl rfl (by rw[hz];rfl) λfl' V11 h12=>⟨fl',rfl,hI,hJ L fl' V11 ⟨W9,cur,fr++[z],hW7.trans T.sub,by simp_all,?_,λu hu r hr=>?_⟩⟩;·exact N.new (r:=rc) (by omega) hx (by simp_all) (by rw[hz]) (by rw[U]) (by rw[U,hfo]) λk hk=>uV hk
   grind
  ·have hc:¬(isl.n:Int)<=(i:Int):=hc;obtain⟨W10,S,O⟩:=hq9;obtain⟨id,hidm,hidx,-,-,hpi,hzi,hrowi⟩:=(hid.sub (G.trans e9)).get (i:=i) (by omega);have hmna:=(hmn.sub (G.trans e9)).n_eq;obtain⟨a,ham,hax,-,-,hpa,hza,B⟩:=(hmn.sub (G.trans e9)).get (i:=i) (by omega);have hidr:=hrng id hidm;have hnr:=O.nlRows;have hnn9:=hnr.n_eq;have hnc:=hnr.cap;have hnf:=hnr.fit;obtain⟨k,rfl⟩:∃k:Nat,id=(k:Int)+1:=⟨(id-1).toNat,by omega⟩;obtain⟨z,hzm,hzx,-,-,hpz,hzz,hrowz⟩:=hnr.get (i:=k) (by omega);refine⟨_,An (e9 _ _ Z),nn,nn,nl,O.cell 10 1 (by decide),nn,_,Aj hbr9 0 1 (by simp),nn,nn,isl,Aj hvw9 2 1 (by simp),hpi,hzi,by omega,_,hrowi,?_⟩;dsimp only;rw[show((k:Int)+1-1)=(k:Int)by omega];refine⟨⟨by omega,by omega⟩,hpz,hzz,by omega,nn,_,Aj hbr9 0 1 (by simp),nn,nn,AM,nsl,Aj hvw9 1 1 (by simp),hpa,hza,by omega,Al hpa,a.ty,a.sl,B,(c22 ((hmf a ham).sub (G.trans e9)) ((hy.nodesOk x hxm).rows.sub (G.trans e9))).call ⟨_,rfl,λhe=>⟨hI,hJ L _ _ ⟨W9,cur,fr,hW7.trans T.sub,⟨W10,S,O⟩,N.same (by omega) hax hx (of_decide_eq_true he),hrr9⟩⟩,λhe=>?_⟩⟩;have he:¬a.f=x.f:=λe=>he (decide_eq_true e);have hzl:z.recs.length<=1001:=by
    obtain⟨z0,hz0⟩:∃z0,ns[k]?=some z0:=⟨_,yi (by omega)⟩;obtain⟨u,g1,-,g3⟩:=N.at_ k z0 hz0;grind
   refine⟨Al hpz,Al hpz,z.ty,z.rsl,hrowz,λb5 hb5=>?_⟩;obtain⟨rc,U⟩:∃rc:Rc,rc=⟨w,out,BK (Bu ids ns.length y.nodes.length) t.fields x.f⟩:=⟨_,rfl⟩;have hkl:=(yj.1 hzx).1;have hP:∀{rs:Sl}{V11:Mem},At p q d vl Y nl wr vl tr Y (gs++[g]) nl cur ((cur++fr).set k ⟨z.ty,rs,z.recs++[⟨w,out,BK (Bu ids ns.length y.nodes.length) t.fields x.f⟩]⟩) W10 V11->At p q d vl Y nl wr vl tr Y (gs++[g]) nl cur (cur.set k ⟨z.ty,rs,z.recs++[rc]⟩++fr) W10 V11:=λh=>by
    simp_all
   refine O.pushR (j:=k) (a:=z) (x:=⟨w,out,BK (Bu ids ns.length y.nodes.length) t.fields x.f⟩) (by grind) hb5 (by omega) rfl rfl λr' V11 A=>⟨r',rfl,Al hpz,Al hpz,(hP A).stR (j:=k) (a:=z) hzx (r':=r') (rs:=z.recs++[rc]) λV12 h12=>⟨hI,hJ L _ _ ⟨W9,cur.set k ⟨z.ty,r',z.recs++[rc]⟩,fr,hW7.trans T.sub,⟨W10,S,h12⟩,N.chg (sl:=r') hdup (by omega) hidx hzx hax hx he (by rw[U]) (by rw[U,hfo]),λu hu r hr=>?_⟩⟩⟩;grind
 ·have hge:¬(i:Int)<(y.ns.n:Int):=hge;have hyn:=hyr.n_eq;have hie:i=y.nodes.length:=by omega
  subst hie;have hfr:=QL.rows (row:=Nn.row) At.over (λ_=>rfl) (by decide) hq;obtain⟨W8,hq8,h8⟩:=hq;have hD8:D2.sub W8:=hD7.trans hq8.sub;have hcl:=N.len;have hfl:=N.frl;refine⟨_,An (e7 _ _ Z),_,An (e7 _ _ Z),nn,nn,nl,h8.cell 10 1 (by decide),?_⟩;refine h8.pushN hfr (by omega) rfl rfl λnl' V8 h9=>⟨nl',rfl,An ((hD8.trans h9.sub) _ _ Z),nn,nn,h9.stN λV9 O=>⟨nn,ll,Aj ((hD8.trans O.sub) _ _ C) 8 1 (by simp),?_⟩⟩;have hW0:Dl (lg.take 0)=0:=rfl;refine E4 lg.length (λi V10=>At p q d vl Y nl' (wr+Dl (lg.take i)) vl tr Y (gs++[g]) nl' (cur++fr) (cur++fr) W8 V10) (by simp_all) ?_;rintro i V10 J hi A hJ;have e11:=hD8.trans A.sub;have hlr:=hl.sub (G.trans e11);refine⟨λhlt=>?_,λhge=>?_⟩
  ·obtain⟨a,ham,hax,-,L,hpa,hza,B⟩:=hlr.get hlt;have hI:IR ((i:Int)+1):=⟨by omega,by omega⟩;have ha0:=hnn a ham;have hws:=wrL_succ hax;have hwl:=wrL_le (lg.take i);have htl:(lg.take i).length<=lg.length:=by simp_all
   refine⟨hpa,hza,hlt,a.1,a.2.1,a.2.2,B,λh2=>⟨λh3=>?_,λh3=>⟨hI,hJ L _ ?_⟩⟩,λh2=>⟨hI,hJ L _ ?_⟩⟩
   ·have h2:a.1=2:=h2;have h3:0<a.2.1:=h3;rw[if_pos ⟨h2,by omega⟩]at hws;refine⟨_,An (e11 _ _ Z),nn,nn,_,A.cell 11 1 (by decide),⟨by omega,by omega⟩,nn,nn,A.stW λV12 h12=>⟨hI,hJ L _ ?_⟩⟩;grind
   ·grind
   simp_all
  ·have hge:¬(i:Int)<(ll.n:Int):=hge;have hlr':=hlr.n_eq;rw[xc (by omega)]at A;obtain⟨k1,k2⟩:=N.done hdup hle hml;rw[hR];exact⟨rfl,W8,Y,nl',g,cur++fr,G.trans hD8,Bi.mk At.over A (Mem.sub.refl _),hgv,hgr.sub (hW7.trans hq8.sub),k1,k2,λz hz r hr=>(hrr z hz r hr).sub hq8.sub⟩
end
theorem c100{V:Mem}{s:Sl}{l:List KB}(h:Ab V s 1 (l.map CC)){x:KB}:PP 100 [s.v,.string x] V (.int .i64 (BH (λy=>decide (x=y)) l)):=by
 refine x100 ?_;refine AE (mk:=.int .i64) (b0:=0) l.length (λj V1=>V=V1/\A0 (λy:KB=>!decide (x=y)) l j) ⟨rfl,A0.zero _ _⟩ ?_;rintro j b V1 J A ⟨rfl,e⟩ N;refine⟨λt=>?_,λo=>?_⟩
 ·obtain⟨y,Z,Y,-,c,Q,O,u⟩:=h.get t;refine⟨Q,O,t,_,u,λG=>?_,λG=>⟨h.succ t,N c _ _ ⟨rfl,Hn e Y (decide_eq_false G)⟩⟩⟩;grind[Hl,decide_eq_true]
 ·rw[Hm e (h.done o).2];simp_all
theorem RG{V:Mem}{s:Sl}{l:List KB}(h:Ab V s 1 (l.map CC)){x:KB}:PP 68 [s.v,.string x] V (.bool (l.any λy=>decide (x=y))):=by
 refine Qw ?_;refine(c100 h).call ⟨_,rfl,?_⟩;have e:decide (0<=BH (λy=>decide (x=y)) l)=l.any λy=>decide (x=y):=by
  grind[Cu,decide_eq_true]
 simp_all
theorem ents_iff{d:Ds}{nm:KB}(Y:Ct d=none)(h:¬AV d nm<0):nm∈entsT d↔entB (DA d nm)=true:=by
 obtain⟨i,R,u⟩:=vPr_at h;have J:=x8 u;unfold Ct at Y;obtain⟨-,h1⟩:=IL Y;obtain⟨Q,-⟩:=IL h1;unfold E5 at Q;rcases Cu (λt:Pr=>decide (t.name=nm)) d.procs with⟨O,-⟩|⟨j,x,O,g2,-,g3,g4,g5,g6,g7⟩;·grind[AV]
 have X:AV d nm=(j:Int):=O;obtain rfl:i=j:=by omega
 rw[u]at g2;cases g2;have o:(DA d nm).name=nm:=of_decide_eq_true g4;unfold entsT;rw[List.mem_map];refine⟨λ⟨p,G,e⟩=>?_,λA=>⟨DA d nm,ym.2 ⟨J,A⟩,o⟩⟩;obtain⟨G,c⟩:=ym.1 G;obtain⟨k,N⟩:=wG.1 G;by_cases Z:k=i
 ·subst Z;rw[u]at N;cases N;exact c
 ·have a1:=JF Q k p N;by_cases L:k<i
  ·have:(d.procs.take i).any (λt:Pr=>decide (t.name=nm))=true:=xp.2 ⟨p,x8 (i:=k) (by simp_all),decide_eq_true e⟩;simp_all
  ·rw[if_pos]at a1;·cases a1
   ·rw[Nat.zero_add];exact xp.2 ⟨DA d nm,x8 (i:=i) (by grind),decide_eq_true (o.trans e.symm)⟩
structure Fc (D V:Mem)(p q:Nat)(d:Ds)(vl gl nl:Sl)(tr:List Tv)(gs:List Gl)(ns:List Nn)(s:PsS):Prop where
 inv:If d tr gs ns s.vs
 gv:∀g∈gs,Ab D g.sl 1 (g.v.map Ah)
 rf:∀z∈ns,∀r∈z.recs,Ab D r.sl 1 (r.f.map Ah)
 n:s.n=ns.length
 recs:(DB ns:Int)<=s.n+s.wr
 small:s.n<=4096*s.vs.length
 wr0:0<=s.wr
 wr1:s.wr<=16100000*(s.vs.length:Int)
 bs:Bi D V (At p q d vl gl nl s.wr vl tr gl gs nl ns ns)
def BI(D V:Mem)(p:Nat)(d:Ds)(s:PsS):Prop:=∃q vl gl nl tr gs ns,Fc D V p q d vl gl nl tr gs ns s
def Eg(d:Ds):PsS:=⟨[⟨(BM d Af).plain,[],-1⟩],0,0⟩
section
variable{D V V':Mem}{p q:Nat}{d:Ds}{vl gl nl:Sl}{tr:List Tv}{gs:List Gl}{ns:List Nn}{s:PsS}
theorem Fc.at_(h:Fc D V p q d vl gl nl tr gs ns s):PsAt V p q d vl gl nl tr gs ns s.wr:=by
 obtain⟨W,e,J,t⟩:=h.bs.use;have o:=h.bs.sub;exact⟨t.at_,⟨t.tat,t.trRows⟩,t.glRows,t.nlRows,λx u=>t.rcRows u,λx u=>(h.gv x u).sub o,λx u r c=>(h.rf x u r c).sub o⟩
theorem Fc.grow(h:Fc D V p q d vl gl nl tr gs ns s)(t:V.sub V'):Fc D V' p q d vl gl nl tr gs ns s:={h with bs:=h.bs.grow t}
theorem Fc.more{t:Mem}(h:Fc D V p q d vl gl nl tr gs ns s)(u:D.sub t)(B:Bi t V' (At p q d vl gl nl s.wr vl tr gl gs nl ns ns)):Fc t V' p q d vl gl nl tr gs ns s:={h with gv:=λg o=>(h.gv g o).sub u,rf:=λz c r e=>(h.rf z c r e).sub u,bs:=B}
theorem If.start(G:Ar d (BM d Af))(g:Gl)(e:g.v=(BM d Af).globals):If d [(-1,0,0)] [g] [] (Eg d).vs:=by
 have O:(BM d Af).plain.2=[]:=rfl;have c:Ar d (AY (BM d Af).plain):=G.plain (Ja _).symm;have J:(AY (BM d Af).plain).nodes=[]:=rfl;have N:=G0 c.mem;have Z:(AX d (AY (BM d Af).plain)).order=[]:=by
  have:=N.cap;simp_all
 refine⟨⟨⟨0,0,[],rfl⟩,λi x h=>?_,λi x h=>?_,λi x h=>?_⟩,rfl,rfl,rfl,λv hv=>?_,λv hv=>?_,λi v hv=>?_,λi v A hv t=>?_,⟨(λz u=>by cases u),(λz u=>by cases u),(λz u=>by cases u)⟩⟩;·grind
 ·grind
 ·match i,h with
  |0,h=>cases h;exact⟨by decide,by decide⟩
  |i+1,h=>cases h
 ·rw[zR.1 hv];exact c
 ·rw[zR.1 hv];exact Z
 ·match i,hv with
  |0,hv=>cases hv;exact⟨rfl,uu,(λx h=>by cases h),λk x id o=>by cases o⟩
  |i+1,hv=>cases hv
 ·match i,hv,t with
  |0,hv,t=>
   cases hv;cases t;rw[e];show _=BK [] d.globals (BM d Af).globals;refine wR λj=>?_;have L:=(Ci.1 (BO G.mem).2.2.2.1).1;by_cases Y:j<d.globals.length
   ·have Q:=yi Y;have o:=yi (l:=(BM d Af).globals) (i:=j) (by omega);rw[FX Q o,o];grind[BM,Af,idf]
   grind[uV,J3]
  |i+1,hv,t=>cases hv
theorem Pg[Tab V](K:Ds.Ok V d):Tri xS 29 #[d.v] V λe V'=>V.sub V'/\
  ((¬Ar d (BM d Af)/\e=.returned (.tuple #[.pointer none,.int .i64 1]))∨
  (Ar d (BM d Af)/\∃p D,e=.returned (.tuple #[pv p,.int .i64 0])/\V.sub D/\BI D V' p d (Eg d))):=by
 refine PZ ?_;refine(OC scopeC newC K).call ?_;by_cases hv:Bv d=true;rotate_left
 ·rw[if_neg hv];exact⟨_,_,_,rfl,λh=>absurd h (by decide),λ_=>⟨Mem.sub.refl _,.inl ⟨λG=>hv G.valid,rfl⟩⟩⟩
 rw[if_pos hv];refine⟨_,_,_,rfl,λY=>Tri.mono (Ry K) ?_,λY=>⟨Mem.sub.refl _,.inl ⟨λG=>Y (by rw[G.chk];rfl),rfl⟩⟩⟩;rintro _ V2 ⟨Q,⟨S,rfl⟩|⟨S,u,rfl,O⟩⟩;·exact⟨_,_,_,rfl,λh=>absurd h (by decide),λ_=>⟨Q,.inl ⟨λG=>by have:=(BO G.mem).1;simp_all,rfl⟩⟩⟩
 have G:Ar d (BM d Af):=⟨hv,Na Y,new_valid S⟩;have key:∀{R:Ending->Mem->Prop},(∀e V',(V.sub V'/\((¬Ar d (BM d Af)/\e=.returned (.tuple #[.pointer none,.int .i64 1]))∨(Ar d (BM d Af)/\∃p D,e=.returned (.tuple #[pv p,.int .i64 0])/\V.sub D/\BI D V' p d (Eg d))))->R e V')->Tri xS 52 #[] V2 λe Z=>∃J,e=.returned (.pointer J)/\∀b,Z b=none->∀c,(Z.set b (.cells #[u.v] 35 (0,0))) c=none->R (.returned (.tuple #[pv c,.int .i64 0])) ((Z.set b (.cells #[u.v] 35 (0,0))).set c (.cells #[Go.Sx.vS d.name,d.ts.v,d.gs.v,d.ps.v,d.ms.v,d.is.v,d.qs.v,d.bs.v,.pointer J,.slice (sa b) 1 1,.slice none 0 0,.int .i64 0] 109 (0,0))):=λ{R} hR=>by
  refine Tri.mono RB ?_;rintro _ Z ⟨t,q,T,hq,rfl,rfl⟩;refine⟨_,rfl,λb L c U=>hR _ _ ?_⟩;have t1:=Mem.sub_new T (.cells #[.int .i64 (-1),.int .i64 0,.int .i64 0] 175 (0,0));have X:=Mem.sub_new hq (.cells #[(⟨some ⟨t,0,none⟩,1,1⟩:Sl).v] 173 (0,0));have t3:=Mem.sub_new L (.cells #[u.v] 35 (0,0));have B:=Mem.sub_new U (.cells #[Go.Sx.vS d.name,d.ts.v,d.gs.v,d.ps.v,d.ms.v,d.is.v,d.qs.v,d.bs.v,pv q,.slice (sa b) 1 1,.slice none 0 0,.int .i64 0] 109 (0,0));have C:=X.trans (t3.trans B);have nc:∀{x:Nat}{o:Obj},((V2.set t (.cells #[.int .i64 (-1),.int .i64 0,.int .i64 0] 175 (0,0))).set q (.cells #[(⟨some ⟨t,0,none⟩,1,1⟩:Sl).v] 173 (0,0))).set b (.cells #[u.v] 35 (0,0)) x=some o->x≠c:=λhx e=>by simp_all
  refine⟨Q.trans (t1.trans C),.inr ⟨G,c,V2,rfl,Q,q,⟨some ⟨t,0,none⟩,1,1⟩,⟨some ⟨b,0,none⟩,1,1⟩,Af,[(-1,0,0)],[⟨u,(BM d Af).globals⟩],[],If.start G _ rfl,λg hg=>?_,(λz hz=>by cases hz),rfl,by simp[Eg,DB],by simp[Eg],by simp[Eg],by simp[Eg],?_⟩⟩;·rw[zR.1 hg];exact O.globals
  ·have o1:=own_blk (W:=V2) (row:=Fb) (e:=175) (sz:=3) (xs:=[((-1:Int),(0:Int),(0:Int))]) (λ_=>rfl) T t1 Au (by simp);have o2:=own_blk (W:=V2.set t (.cells #[.int .i64 (-1),.int .i64 0,.int .i64 0] 175 (0,0))) (row:=Gl.row) (e:=35) (sz:=1) (xs:=[(⟨u,(BM d Af).globals⟩:Gl)]) (b:=b) (A:=(V2.set t (.cells #[.int .i64 (-1),.int .i64 0,.int .i64 0] 175 (0,0))).set b (.cells #[u.v] 35 (0,0))) (λ_=>rfl) (Cz X L) (Mem.sub_new (Cz X L) _) Au (by simp);refine Bi.mk At.over (W:=V2) ⟨_,o1,_,o2,_,Own.nil (Mem.sub.refl _) _ _,?_⟩ (Mem.sub.refl _);have nb:b≠q:=λe=>by
    grind[Mem.set_same]
   have E:((V2.set t (.cells #[.int .i64 (-1),.int .i64 0,.int .i64 0] 175 (0,0))).set b (.cells #[u.v] 35 (0,0))) q=none:=by grind[Mem.set_ne]
   have hs:((V2.set t (.cells #[.int .i64 (-1),.int .i64 0,.int .i64 0] 175 (0,0))).set b (.cells #[u.v] 35 (0,0))).sub (((V2.set t (.cells #[.int .i64 (-1),.int .i64 0,.int .i64 0] 175 (0,0))).set q (.cells #[(⟨some ⟨t,0,none⟩,1,1⟩:Sl).v] 173 (0,0))).set b (.cells #[u.v] 35 (0,0))):=λx o hx=>by
    grind[Mem.set_same,Mem.set_ne]
   have N:=t3 q _ (Mem.set_same (V2.set t (.cells #[.int .i64 (-1),.int .i64 0,.int .i64 0] 175 (0,0))) q (.cells #[(⟨some ⟨t,0,none⟩,1,1⟩:Sl).v] 173 (0,0)));exact⟨Mem.set_same _ _ _,B _ _ N,(nc N).symm,Cz hs U,E,hs.trans B⟩
 exact⟨_,_,_,rfl,λ_=>⟨key λ_ _ h=>h,key λ_ _ h=>h⟩,λh=>absurd rfl h⟩
end
theorem QL.catch{α:Type}{row:α->List Value}{xs:List α}{sz e:Nat}{Q:Mem->Mem->Prop}{o:Sl}{W V D:Mem}(t:BV Q)(h:QL e sz Q o (xs.flatMap row) W V)(u:∀x,(row x).length=sz)(c:0<sz)(J:∀b,W b=none->D b=V b):Ab D o sz (xs.map row):=Pd (h.own t) u c J
structure J6 (D:Mem)(vb mb:Nat)(gs nsl isl:Sl)(m:Mm)(ids:List Int):Prop where
 at_:D vb=some (.cells #[gs.v,nsl.v,isl.v,.map (some mb)] 105 (0,0))
 ids:Ab D isl 1 (ids.map Ah)
 g:m.gs=gs
 n:m.ns=nsl
 gl:Ab D gs 1 (m.globals.map Ah)
 nl:Ab D nsl 2 (m.nodes.map Nd.row)
 f:∀n∈m.nodes,Ab D n.sl 1 (n.f.map Ah)
theorem J6.sub{D t:Mem}{vb mb:Nat}{gs nsl isl:Sl}{m:Mm}{ids:List Int}(h:J6 D vb mb gs nsl isl m ids)(s:D.sub t):J6 t vb mb gs nsl isl m ids:=⟨s _ _ h.at_,h.ids.sub s,h.g,h.n,h.gl.sub s,h.nl.sub s,λn u=>(h.f n u).sub s⟩
theorem view_catch{V V' D:Mem}{m:Mm}{ids:List Int}{vb mb:Nat}{gs nsl isl:Sl}{nd:List Nd}(h:QL 3 1 (AO vb mb gs nsl isl ids isl nsl ids nd) gs (m.globals.flatMap Ah) V V')(t:∀b,V b=none->D b=V' b):J6 D vb mb gs nsl isl ⟨gs,m.globals,nsl,nd⟩ ids:=by
 have o:=QL.catch (row:=Ah) AO.over h (λ_=>rfl) (by decide) t;have low:Gu (AO vb mb gs nsl isl ids isl nsl ids nd):=QL.low;have h1:AO vb mb gs nsl isl ids isl nsl ids nd V V':=QL.drop low h;have u:=QL.catch (row:=Ah) (QL.over (QF.over Cc.over nd)) h1 (λ_=>rfl) (by decide) t;have e:=QL.catch (row:=Nd.row) (QL.over (QF.over Cc.over nd)) (QL.swap h1) (λ_=>rfl) (by decide) t;obtain⟨W1,J,-,h2⟩:=QL.below (QL.over (QF.over Cc.over nd)) h1;obtain⟨Z,G,-,h3⟩:=QL.below (QF.over Cc.over nd) h2;obtain⟨Y,N,h4⟩:=h1.c;refine⟨?_,u,rfl,rfl,o,e,λn hm=>?_⟩;·rw[t vb (Cz N h4.v0)];exact h4.at_
 ·obtain⟨i,u⟩:=wG.1 hm;exact Pd ((QF.own Cc.over u h3).narrow (J.trans G)) (λ_=>rfl) (by decide) t
def runZ:Value:=.agg #[.pointer none,.int .i64 0,.int .i64 0,.int .i64 0,.int .i64 0,.int .i64 0,.slice none 0 0,.slice none 0 0,.slice none 0 0]
section
variable{V D:Mem}{p q:Nat}{d:Ds}{vl gl nl:Sl}{tr:List Tv}{gs:List Gl}{ns:List Nn}{s:PsS}{v:Int}{nm:KB}{args:List Int}{l:Sl}{m:Mm}{F:Nat}
theorem traceU[Tab V](t:Ds.Ok V d)(hm:Mm.Ok V m)(G:Ar d m)(u:Ab V l 1 (args.map Ah))(c:F<=4000)(J:Be d m nm args=0):Tri xS 70 #[d.v,m.v,.agg #[.string nm,l.v],.int .i64 F] V λe V'=>V.sub V'/\∃ls:Sl,e=.returned (.tuple #[ls.v,.int .i64 0])/\Ab V' ls 3 ((Dw d F (AV d nm) args (Bf m)).st.lg.map FO):=by
 have es:Ed d m nm args F=0:=(start_ok G (by omega)).trans J;refine Tri.mono (Rn (nm:=nm) t hm u c) ?_;rintro _ V1 (⟨h,-⟩|⟨-,r,ls,rfl,o,rfl⟩);·omega
 ·exact⟨o.sub,ls,rfl,o.rows (λ_=>rfl) (by decide)⟩
theorem RH{b t:Nat}(h:V b=some (.cells #[.string nm,l.v] t (0,0))){x:Pr}:PP 66 [x.v,pv b] V (.bool (decide (x.name=nm))):=by
 refine Qu ?_;exact⟨nn,nm,Aj h 0 1 (by simp),rfl,rfl⟩
def StartR(D:Mem)(p q:Nat)(d:Ds)(vl gl nl:Sl)(tr:List Tv)(gs:List Gl)(ns:List Nn)(s:PsS)(v:Int)(nm:KB)(args:List Int)(F:Int):Ending->Mem->Prop:=λe V'=>∃h,D.sub h/\Bi h V' (At p q d vl gl nl s.wr vl tr gl gs nl ns ns)/\
 ((AH d F s v nm args≠0/\e=.returned (.tuple #[runZ,.int .i64 (AH d F s v nm args)]))∨
 (AH d F s v nm args=0/\∃(vb mb:Nat)(gsl nsl isl ll:Sl)(m y:Mm)(r:Rx Int),r=AZ d F.toNat s v nm args/\J6 h vb mb gsl nsl isl m (Bo s v).ids/\m.plain=(psMem s v).plain/\Ar d m/\Ar d y/\Mm.Ok h y/\y.plain=(r.st.g,r.st.ns)/\m.nodes.length<=y.nodes.length/\Ab h ll 3 (r.st.lg.map FO)/\
  e=.returned (.tuple #[.agg #[pv vb,.int .i64 (CV r),.int .i64 (outV r),.int .i64 r.st.cm,.int .i64 (Bc r.st.lg),.int .i64 0,y.gs.v,y.ns.v,ll.v],.int .i64 0])))
theorem psE_eq{F:Int}(h1:¬F<0)(h2:¬1048576<F)(h:0<=v)(hv:v<(s.vs.length:Int)):AH d F s v nm args=if AV d nm<0 then 9 else if entB (DA d nm)=true then Be d (psMem s v) nm args else 30:=by
 unfold AH CR;rw[if_neg (by omega),if_pos ⟨h,by simp_all⟩];rfl
theorem Gw{x:PsV}(h:s.vs[v.toNat]?=some x):Bo s v=x/\psMem s v=AY x.m:=by
 unfold Bo psMem memS;rw[uN,uN,xI,h];exact⟨rfl,rfl⟩
theorem Nv[Tab D](H:Fc D V p q d vl gl nl tr gs ns s)(hd:Ds.Ok D d)(ha:Ab D l 1 (args.map Ah)){F:Int}(hF:F<=4000∨1048576<F)(hlen:s.vs.length<=900):
  Tri xS 41 #[pv p,.int .i64 v,.agg #[.string nm,l.v],.int .i64 F] V (StartR D p q d vl gl nl tr gs ns s v nm args F):=by
 obtain⟨R,hR⟩:∃R,R=StartR D p q d vl gl nl tr gs ns s v nm args F:=⟨_,rfl⟩;rw[<-hR];refine Ol ?_;have I:=H.inv;have htl:=I.len;have bad:∀{D' V':Mem}{er:Int}{e:Ending},D.sub D'->Bi D' V' (At p q d vl gl nl s.wr vl tr gl gs nl ns ns)->AH d F s v nm args=er->er≠0->e=.returned (.tuple #[runZ,.int .i64 er])->R e V':=λ{D' V' er e} h1 h2 h3 h4 A=>by
  rw[hR];exact⟨D',h1,h2,.inl ⟨by omega,by grind⟩⟩
 have P:=H.at_;have refl:=Mem.sub.refl D;refine⟨λh=>absurd h nn,λ_=>⟨λh1=>bad refl H.bs (er:=2) ?_ (by decide) rfl,λh1=>⟨λh2=>bad refl H.bs (er:=2) ?_ (by decide) rfl,λh2=>⟨λh3=>bad refl H.bs (er:=24) ?_ (by decide) rfl,λh3=>⟨nn,nn,_,P.cell 8 1 (by decide),(No P.tr).call ⟨_,rfl,λh4=>bad refl H.bs (er:=24) ?_ (by decide) rfl,λh4=>?_⟩⟩⟩⟩⟩⟩;·grind[AH,CR]
 ·grind[AH,CR,inr]
 ·have h1:¬F<0:=h1;have h2:¬1048576<F:=h2;have h3:v<0:=h3;unfold AH CR;rw[if_neg (by omega),if_neg λh=>by have:=h.1;omega]
 ·have h1:¬F<0:=h1;have h2:¬1048576<F:=h2;have h4:(tr.length:Int)<=v:=h4;unfold AH CR;rw[if_neg (by omega),if_neg λh=>by have:=h.2;grind]
 have h1:¬F<0:=h1;have h2:¬1048576<F:=h2;have h3:¬v<0:=h3;have h4:¬(tr.length:Int)<=v:=h4;have hE:=psE_eq (d:=d) (nm:=nm) (args:=args) h1 h2 (by omega) (show v<(s.vs.length:Int)by omega);refine⟨nn,nn,AM,d.ps,P.cell 3 1 (by decide),λtb htb=>?_⟩;have B1:=H.bs.pub htb (.cells #[.string nm,l.v] 57 (0,0));have L:=Mem.sub_new (Cz H.bs.sub htb) (.cells #[.string nm,l.v] 57 (0,0));obtain⟨D1,Z⟩:∃D1,D1=D.set tb (.cells #[.string nm,l.v] 57 (0,0)):=⟨_,rfl⟩;obtain⟨V1,S⟩:∃V1,V1=V.set tb (.cells #[.string nm,l.v] 57 (0,0)):=⟨_,rfl⟩;have u:D1 tb=some (.cells #[.string nm,l.v] 57 (0,0)):=by rw[Z,Mem.set_same]
 have X:V.set tb (.cells (#[uS nm,uL l]) 57 (0,0))=V1:=by rw[S];rfl
 rw[<-Z,<-S]at B1;rw[<-Z]at L;show Tri _ _ _ (V.set tb (.cells #[uS nm,uL l] 57 (0,0))) _;rw[X];clear Z S X;have H1:=H.more L B1;have P1:=H1.at_;have s1:=B1.sub;have hd1:=hd.sub (L.trans s1);have ho:=hd1.procs;have hany:(d.procs.any λx=>decide (x.name=nm))=decide (¬AV d nm<0):=by
  grind[Cu,Pr,AV,decide_eq_false,Int,decide_eq_true]
 refine(Mj (first:=[]) (caps:=[pv tb]) ho Tryz.call66 (λx=>decide (x.name=nm)) (λx _=>RH (s1 _ _ u))).call ⟨_,rfl,λA=>?_,λA=>bad L B1 (er:=9) ?_ (by decide) rfl⟩;rotate_left;·simp_all
 have A:(d.procs.any λx=>decide (x.name=nm))=true:=A;rw[hany,decide_eq_true_eq]at A;rw[if_neg A]at hE;obtain⟨x,hx⟩:∃x,s.vs[v.toNat]?=some x:=⟨_,yi (by omega)⟩;have hxm:=x8 hx;have G:=I.good x hxm;obtain⟨hA,hM⟩:=Gw hx;haveI T1:Tab V1:=Tab.sub (V:=D) inferInstance (L.trans s1);have hw:Eo d true=0:=by unfold Eo;rw[if_pos ⟨G.valid,rfl⟩,if_pos G.chk]
 refine⟨nn,nn,_,_,_,_,_,_,_,_,P1.cell 0 8 (by decide),Tri.mono (Q8 scopeC newC hd1) ?_⟩;rintro _ V4 ⟨es,rfl,s4,T⟩;rw[hw]at T⊢;rw[if_pos rfl]at T;have B4:=B1.grow s4;refine⟨es,0,rfl,λ_=>⟨nn,nm,Aj ((s1.trans s4) _ _ u) 0 1 (by simp),(RG T).call ⟨_,rfl,λh6=>?_,λh6=>bad L B4 (er:=30) ?_ (by decide) rfl⟩⟩,λh=>absurd rfl h⟩;rotate_left
 ·have h6:¬((entsT d).any λy=>decide (nm=y))=true:=h6;rw[hE,if_neg λhe=>h6 (xp.2 ⟨nm,(ents_iff G.chk A).2 he,decide_eq_true rfl⟩)]
 have h6:((entsT d).any λy=>decide (nm=y))=true:=h6;have hent:entB (DA d nm)=true:=by
  obtain⟨y,hy,e⟩:=xp.1 h6;rw[<-of_decide_eq_true e]at hy;exact(ents_iff G.chk A).1 hy
 rw[if_pos hent,hM]at hE;have H4:=H1.grow s4;obtain⟨g,hg⟩:∃g,gs[v.toNat]?=some g:=⟨_,yi (by have:=I.gl;omega)⟩;have hgl:=I.glob _ x g hx hg;have N:=I.nod _ x hx;rw[uK (by omega)]at N;have B:=I.can x hxm;have hnl:(AY x.m).nodes.length=x.m.2.length:=by simp[AY]
 rw[<-hnl]at B;have hs4:=s1.trans s4;refine Tri.mono (Pf (hd.sub (L.trans hs4)) H4.at_ I.trok (by omega) (by omega) (by omega) G B N hg hgl) ?_;rintro _ V6 ⟨vb,mb,o,nsl,isl,nd,rfl,hq,hnd⟩;have s6:=(QL.over AO.over).2 _ _ hq;obtain⟨D6,Y,B6,hk6⟩:=B4.catch s6;have C:=view_catch hq hk6;obtain⟨c,J⟩:∃c:Mm,c=⟨o,(AY x.m).globals,nsl,nd⟩:=⟨_,rfl⟩;rw[<-J]at C;have Q:c.plain=(AY x.m).plain:=by rw[J];exact Prod.ext rfl hnd
 have Gm:Ar d c:=G.plain Q.symm;have t6:=L.trans Y;have hmm:Mm.Ok D6 c:=by
  rw[J]at C⊢;exact mm_ok (hd.sub t6) G (J▸Q.symm) C.gl C.nl C.f
 have E:=B6.sub;obtain⟨n,rfl⟩:∃n:Nat,F=(n:Int):=⟨F.toNat,by omega⟩;have hcl:Be d (AY x.m) nm args=Be d c nm args:=IX Q.symm;have hst:Bf (AY x.m)=Bf c:=Lw Q.symm;rw[hcl]at hE;have H6:=H1.more Y B6;have P6:=H6.at_;have hvb6:V6 vb=some (.cells #[o.v,nsl.v,isl.v,.map (some mb)] 105 (0,0)):=E _ _ C.at_;have htb6:=(Y.trans E) _ _ u;have mv:c.v=.agg #[o.v,nsl.v]:=by rw[J];rfl
 have K:=B6.run λU O=>@runU U d n c nm args l (Tab.sub (V:=D) inferInstance (t6.trans O)) (hd.sub (t6.trans O)) (hmm.sub O) Gm (ha.sub (t6.trans O)) (by omega);rw[mv]at K;refine⟨_,rfl,nn,nn,_,_,_,_,_,_,_,_,P6.cell 0 8 (by decide),nn,nn,o,nsl,Aj hvb6 0 2 (by simp),nm,l,Aj htb6 0 2 (by simp),Tri.mono K ?_⟩;rintro _ V7 ⟨D7,t,⟨h0,rfl⟩|⟨h0,r,y,hr,Gy,hy,hyp,hle,rfl⟩,B7⟩;·exact⟨_,_,_,_,_,_,_,_,rfl,λh=>absurd h h0,λ_=>bad (t6.trans t) B7 hE h0 rfl⟩
 have H7:=H6.more t B7;have P7:=H7.at_;have hvb7:=(t.trans B7.sub) _ _ C.at_;have htb7:=(Y.trans (t.trans B7.sub)) _ _ u;have t7:=t6.trans t;have htr:=B7.run λU O=>@traceU U d nm args l c n (Tab.sub (V:=D) inferInstance (t7.trans O)) (hd.sub (t7.trans O)) (hmm.sub (t.trans O)) Gm (ha.sub (t7.trans O)) (by omega) h0;rw[mv]at htr;refine⟨_,_,_,_,_,_,_,_,rfl,λ_=>⟨nn,nn,_,_,_,_,_,_,_,_,P7.cell 0 8 (by decide),nn,nn,o,nsl,Aj hvb7 0 2 (by simp),nm,l,Aj htb7 0 2 (by simp),Tri.mono htr ?_⟩,λh=>absurd rfl h⟩;rintro _ V8 ⟨D8,hD8,⟨ls,rfl,hls⟩,B8⟩;refine⟨ls,0,rfl,λ_=>?_,λh=>absurd rfl h⟩;rw[hR];refine⟨D8,t7.trans hD8,B8,.inr ⟨by omega,vb,mb,o,nsl,isl,ls,c,y,r,?_,?_,?_,Gm,Gy,hy.sub hD8,hyp,hle,?_,rfl⟩⟩;·grind[AZ]
 ·rw[hA];exact C.sub (t.trans hD8)
 ·grind
 simp_all
end
theorem lg_nn{n m:Nat}{l:List (Int×Int×Int)}(h:LgOk n l m):∀a∈l,0<=a.2.1:=by
 induction h with
 |nil=>simp_all
 |acc _ u _ _ _ t=>
  grind
 |alloc _ _ t=>
  grind
theorem Ph{m m':Mm}(h:m.plain=m'.plain){k:Nat}{a b:Nd}(t:m.nodes[k]?=some a)(u:m'.nodes[k]?=some b):a.ty=b.ty/\a.f=b.f:=by
 have h2:(m.nodes.map λn=>(n.ty,n.f))=m'.nodes.map λn=>(n.ty,n.f):=(vO h).2;have:=congrArg (λl:List (Int×List Int)=>l[k]?) h2;grind
theorem NsAdd.plain{d:Ds}{w:Int}{ns ns':List Nn}{ids:List Int}{m m' y:Mm}(h:NsAdd d w ns ids m y ns')(e:m.plain=m'.plain):NsAdd d w ns ids m' y ns':=by
 have key:∀{k:Nat}{a:Nd},m'.nodes[k]?=some a->∃b,m.nodes[k]?=some b/\b.f=a.f:=λ{k a} u=>by
  have N:=FU e;have Z:=(yj.1 u).1;have o:=yi (l:=m.nodes) (i:=k) (by omega);exact⟨_,o,(Ph e o u).2⟩
 refine⟨h.len,h.old,λj k z z' a b h1 h2 h3 u o c=>?_,λj k z z' a b h1 h2 h3 u o c=>?_,h.fresh⟩
 ·obtain⟨J,t,G⟩:=key u;exact h.same j k z z' J b h1 h2 h3 t o (G.trans c)
 ·obtain⟨J,t,G⟩:=key u;exact h.chg j k z z' J b h1 h2 h3 t o (λh=>c (G.symm.trans h))
def PCallR(D:Mem)(p:Nat)(d:Ds)(s:PsS)(v:Int)(nm:KB)(args:List Int)(F:Int):Ending->Mem->Prop:=λe V'=>∃h,D.sub h/\BI h V' p d (CL d s v (AZ d F.toNat s v nm args) (AH d F s v nm args))/\e=.returned (resV s.vs.length (AH d F s v nm args) (AZ d F.toNat s v nm args))
section
variable{V D:Mem}{p q:Nat}{d:Ds}{vl gl nl:Sl}{tr:List Tv}{gs:List Gl}{ns:List Nn}{s:PsS}{v:Int}{nm:KB}{args:List Int}{l:Sl}{F:Int}
theorem Nw[Tab D](H:BI D V p d s)(hd:Ds.Ok D d)(S:Ab D l 1 (args.map Ah))(hF:F<=4000∨1048576<F)(Y:s.vs.length<=900):
  Tri xS 26 #[pv p,.int .i64 v,.agg #[.string nm,l.v],.int .i64 F] V (PCallR D p d s v nm args F):=by
 obtain⟨q,vl,gl,nl,tr,gs,ns,H⟩:=H;obtain⟨R,T⟩:∃R,R=PCallR D p d s v nm args F:=⟨_,rfl⟩;rw[<-T];refine Oi ?_;refine Tri.mono (Nv H hd S hF Y) ?_;rintro _ V1 ⟨D1,t,B1,⟨J,rfl⟩|⟨J,vb,mb,gsl,nsl,isl,ll,m,y,r,hr,Q,u,Gm,Gy,hy,Z,hle,hll,rfl⟩⟩
 ·refine⟨none,0,0,0,0,0,Af,Af,Af,_,rfl,λh=>absurd h J,λ_=>?_⟩;rw[T];refine⟨D1,t,⟨q,vl,gl,nl,tr,gs,ns,?_⟩,?_⟩;·unfold CL;rw[if_neg J];exact H.more t B1
  ·unfold resV;rw[if_neg J];rfl
 have I:=H.inv;have htl:=I.len;have H1:=H.more t B1;have P1:=H1.at_;refine⟨_,_,_,_,_,_,_,_,_,_,rfl,λ_=>⟨nn,nn,_,P1.cell 8 1 (by decide),(No P1.tr).call ⟨_,rfl,λh=>absurd (show(1000:Int)<=(tr.length:Int)from h) (by omega),λ_=>⟨λG=>?_,λG=>?_⟩⟩⟩,λh=>absurd rfl h⟩;rotate_left
 ·have G:¬CV r=0:=G;rw[T];refine⟨D1,t,⟨q,vl,gl,nl,tr,gs,ns,?_⟩,?_⟩;·grind[CL,G5]
  ·unfold resV;rw[if_pos J,<-hr,if_neg G];rfl
 have G:CV r=0:=G;unfold AH at J;have hF1:0<=F/\F<=1048576:=by
  grind[CR]
 obtain⟨n,rfl⟩:∃n:Nat,F=(n:Int):=⟨F.toNat,by omega⟩;obtain⟨hv,hpi,hent,hcl⟩:=vc_zero J;have O:=hv.1;have hv1:v<(s.vs.length:Int):=by have:=hv.2;simp_all
 obtain⟨x,U⟩:∃x,s.vs[v.toNat]?=some x:=⟨_,yi (by omega)⟩;have hxm:=x8 U;obtain⟨hA,hM⟩:=Gw U;rw[hA]at Q;rw[hM]at u;have A:Be d m nm args=0:=by rw[IX u,<-hM];exact hcl
 have hrm:r=Dw d n (AV d nm) args (Bf m):=by
  grind[AZ,Lw]
 have g:=play_gr (F:=n) Gm A;rw[<-hrm]at g;have hyl:y.nodes.length=r.st.ns.length:=by
  grind[Mm.plain]
 have N:=I.nod _ x U;have hil:=N.len;have hml:=FU u;have hlg:=g.lg;obtain⟨lg,o,L,-⟩:=hlg;have o:r.st.lg=lg:=by rw[o];rfl
 subst o;obtain⟨lg,c,e⟩:=g.tr;have c:r.st.lg=lg:=by rw[c];rfl
 subst c;have e:Ec m.plain r.st.lg y.plain:=by rw[Z];exact e
 have hgw:=g.w;have hgf:=g.fu (uv _);have hgl:r.st.lg.length<=16000000:=by
  have e1:(Bf m).lg.length=0:=rfl;have e2:(Bf m).tk=0:=rfl;have e3:(Bf m).cm=0:=rfl;omega
 have hy4:=(BO Gy.mem).2.1;obtain⟨W,hDW,-,hq⟩:=B1.use;refine⟨nn,nn,_,P1.cell 8 1 (by decide),Tri.mono (RC hq I.trok O (by omega) (by omega)) ?_⟩;rintro _ V3 ⟨vl',dp,jp,rfl,hdp,hjp,h3⟩;have hsm:=H.small;have hsn:=H.n;have hw0:=H.wr0;have hw1:=H.wr1;have hgsl:=I.gl;refine⟨_,_,rfl,λ_=>Tri.mono (RF (w:=(tr.length:Int)) (m:=m) (lg:=r.st.lg) (Bi.mk At.over h3 hDW) (hd.sub t) Q.at_ Q.ids Q.nl Q.f hy Gy hll (lg_nn L) (by omega) (by omega) N.dup N.rng (λz hz=>by have:=I.rcs.len hz;omega) (λz hz rc X=>(H.rf z hz rc X).sub t) (by omega) (by omega) hw0 (by omega) (by omega)) ?_,λh=>absurd rfl h⟩;rintro _ V4 ⟨rfl,D4,gl',nl',g',ns',B,B4,hgv,hgr,C,hrec,hrf⟩;refine⟨rfl,?_⟩;rw[T];have hE:AH d (n:Int) s v nm args=0:=J;have hmm:r.st.mm.plain=y.plain:=by rw[Z];exact St.plain _
 have E:=FU hmm;have hchg:=chg_wr (k:=x.ids.length) e (by omega) hle;have hwl:=wrL_le r.st.lg;have K:Fx d ns.length x y v=Fx d s.n (Bo s v) r.st.mm v:=by grind[Pe]
 have X:=H.recs;refine⟨D4,t.trans B,⟨q,vl',gl',nl',tr++[(v,dp,jp)],gs++[g'],ns',?_⟩,?_⟩;rotate_left
 ·rw[hE,<-hr];unfold resV;rw[if_pos rfl,if_pos G,htl];rfl
 have hps:CL d s v (AZ d (n:Int).toNat s v nm args) (AH d (n:Int) s v nm args)=⟨s.vs++[Fx d ns.length x y v],s.n+(y.nodes.length-x.ids.length),s.wr+Dl r.st.lg⟩:=by
  rw[hE,<-hr];unfold CL G5;rw[if_pos rfl,if_pos G,K,hA,E]
 rw[hps];refine⟨I.add O U Gy (λk a b S hb=>?_) (by omega) (C.plain u) hdp hjp hgv (by omega),λg hg=>?_,hrf,?_,?_,?_,?_,?_,B4⟩
 ·have hk:=(yj.1 S).1;have hk2:=yi (l:=m.nodes) (i:=k) (by omega);obtain⟨e1,-⟩:=Ph u hk2 S;obtain⟨z,hz,hz1⟩:=g.ty k (m.nodes[k].ty,m.nodes[k].f) (by show(m.nodes.map _)[k]?=_;simp_all);have hb2:(y.nodes.map λn=>(n.ty,n.f))[k]?=some (b.ty,b.f):=by simp_all
  have hb3:(y.nodes.map λn=>(n.ty,n.f))=r.st.ns:=(vO Z).2;simp_all
 ·rcases List.mem_append.1 hg with hg|hg;·exact(H.gv g hg).sub (t.trans B)
  simp_all
 ·show s.n+(y.nodes.length-x.ids.length)=ns'.length;rw[C.len,hsn]
 ·grind
 ·grind
 ·grind
 grind
end
section
variable{V D:Mem}{p:Nat}{d:Ds}{s:PsS}{v:Int}
def Bm(s:PsS)(v:Int):Prop:=0<=v/\v<(s.vs.length:Int)
instance (s:PsS) (v:Int):Decidable (Bm s v):=by unfold Bm;infer_instance
theorem Ny(H:BI D V p d s)(O:Ds.Ok D d)(Z:s.vs.length<=1000):Tri xS 39 #[pv p,.int .i64 v] V λe V'=>V.sub V'/\
  ((¬Bm s v/\e=.returned (.tuple #[.pointer none,.int .i64 24]))∨(Bm s v/\∃x vb,s.vs[v.toNat]?=some x/\e=.returned (.tuple #[pv vb,.int .i64 0])/\∃(mb:Nat)(gs nsl isl:Sl)(nd:List Nd),QL 3 1 (AO vb mb gs nsl isl x.ids isl nsl x.ids nd) gs ((AY x.m).globals.flatMap Ah) V V'/\(nd.map λn=>(n.ty,n.f))=(AY x.m).nodes.map λn=>(n.ty,n.f))):=by
 obtain⟨q,vl,gl,nl,tr,gs,ns,H⟩:=H;have I:=H.inv;have A:=I.len;have P:=H.at_;refine Oj ?_;refine⟨λh=>absurd h nn,λ_=>⟨λh1=>⟨Mem.sub.refl _,.inl ⟨λh=>absurd h.1 (Int.not_le.2 h1),rfl⟩⟩,λh1=>⟨nn,nn,_,P.cell 8 1 (by decide),(No P.tr).call ⟨_,rfl,λh2=>⟨Mem.sub.refl _,.inl ⟨λh=>?_,rfl⟩⟩,λh2=>?_⟩⟩⟩⟩
 ·have h2:(tr.length:Int)<=v:=h2;have:=h.2;omega
 have h1:¬v<0:=h1;have h2:¬(tr.length:Int)<=v:=h2;obtain⟨x,o⟩:∃x,s.vs[v.toNat]?=some x:=⟨_,yi (by omega)⟩;have u:=x8 o;obtain⟨g,Y⟩:∃g,gs[v.toNat]?=some g:=⟨_,yi (by have:=I.gl;omega)⟩;have N:=I.nod _ x o;rw[uK (by omega)]at N;have t:=I.can x u;have c:(AY x.m).nodes.length=x.m.2.length:=by simp[AY]
 rw[<-c]at t;refine Tri.mono (Pf (O.sub H.bs.sub) P I.trok (by omega) (by omega) (by omega) (I.good x u) t N Y (I.glob _ x g o Y)) ?_;rintro _ L ⟨vb,mb,J,nsl,isl,nd,rfl,Q,G⟩;exact⟨_,rfl,(QL.over AO.over).2 _ _ Q,.inr ⟨⟨by omega,by omega⟩,x,vb,o,rfl,mb,J,nsl,isl,nd,Q,G⟩⟩
end
end Go.Proofs
namespace Go.Proofs
open Go Go.Sx
theorem extI_succ{ids:List Int}{n k:Nat}(h:ids.length<=k):Bu ids n (k+1)=Bu ids n k++[(n:Int)+((k-ids.length:Nat):Int)+1]:=by
 unfold Bu;rw[show k+1-ids.length=(k-ids.length)+1 by omega,List.range_succ,yy,List.append_assoc];rfl
theorem extI_self{ids:List Int}{n:Nat}:Bu ids n ids.length=ids:=by
 unfold Bu;rw[Nat.sub_self];simp
def Dm(x y:PsV):Nat:=(x.ids.filter λz=>decide (z∈y.ids)).length
theorem Nz{α:Type}{p:α->Bool}{l:List α}{i:Nat}{a:α}(h:l[i]?=some a):((l.take (i+1)).filter p).length=((l.take i).filter p).length+if p a=true then 1 else 0:=by
 rw[vM,h,uT,List.filter_append,zI];by_cases t:p a=true<;>simp[t]
end Go.Proofs
namespace Go.Proofs
open Go Go.Sx
attribute [local irreducible] Go.Sx.Tri
def slRow(s:Sl):List Value:=[s.v]
theorem appSS:AppP 37 35 1 slRow:=appG uq (by kernel_rfl) (by kernel_rfl) (by kernel_rfl) (by kernel_rfl) (by kernel_rfl) (by decide) (by intro _;rfl) λx u hu=>by simp only[slRow,Sl.v,yH,xQ,or_false]at hu;subst hu;rfl
theorem appMm:AppP 36 45 2 Mm.row:=appG Tryz.underlying36 (by kernel_rfl) (by kernel_rfl) (by kernel_rfl) (by kernel_rfl) (by kernel_rfl) (by decide) (by intro _;rfl) λx u hu=>by simp only[Mm.row,Sl.v,yH,xQ,or_false]at hu;rcases hu with rfl|rfl<;>rfl
theorem copyG{α:Type}{t e sz:Nat}{row:α->List Value}(A:AppP t e sz row){V:Mem}{b:Nat}{l:Sl}{xs:List α}(J:V b=none)(h:Ab V l sz (xs.map row))(G:xs.length<=2147483648){ty:Nat}{x y:Operand}{vals:Operand->Value}(N:vals x=.slice (sa b) 0 0)(Z:vals y=.slice l.p l.n l.c){Q:Value->Mem->Prop}(Y:∀s V',Sx.Own V V' e sz s (xs.flatMap row)->Q (.slice s.p s.n s.c) V'):
  GenK xS (.call {callee:=.builtin .append,args:=#[x,y],argTypes:=#[t,t]}) ty vals (V.set b (.cells #[] e (0,0))) Q:=by
 have o:=Mem.sub_new J (.cells #[] e (0,0));exact A (s:=⟨some ⟨b,0,none⟩,0,0⟩) (u:=l) (xs:=[]) (ys:=xs) N Z (Own.empty (V0:=V) o _ _ _) (h.sub o) (by simpa using G) λs' V' O=>Y s' V' (by simpa using O)
def subV:Mem->Mem->Prop:=λW V=>W.sub V
theorem Lx:BV subV:=⟨λW V h=>⟨λ_=>False,λb h=>h.elim,λb h=>h.elim,λV' _=>Ft⟩,λ_ _ h=>h⟩
def HF(V:Mem)(M:Sl)(ps:List PV):Prop:=∃ms:List Mm,Ab V M 2 (ms.map Mm.row)/\ms.length=ps.length/\∀(i:Nat) m v,ms[i]?=some m->ps[i]?=some v->Mm.Ok V m/\m.plain=v.m
theorem HF.sub{V V':Mem}{M:Sl}{ps:List PV}(h:HF V M ps)(s:V.sub V'):HF V' M ps:=by
 obtain⟨ms,h1,h2,h3⟩:=h;exact⟨ms,h1.sub s,h2,λi m v a b=>⟨(h3 i m v a b).1.sub s,(h3 i m v a b).2⟩⟩
theorem HF.mem{V:Mem}{M:Sl}{ps:List PV}{v:Int}(h:HF V M ps)(J:EL ps v):∃m,¬M.p=none/\0<=v/\v<(M.n:Int)/\V.rowp M.p (v.toNat*2) 2=some [m.gs.v,m.ns.v]/\Mm.Ok V m/\m.plain=(ps.getD v.toNat JZ).m:=by
 obtain⟨ms,G,N,u⟩:=h;obtain⟨x,o,Z,e⟩:=isV_mem J;have Q:=G.n_eq;obtain⟨i,rfl⟩:∃i:Nat,v=(i:Int):=⟨v.toNat,by have:=J.1;omega⟩;rw[xa]at o e⊢;have O:=(yj.1 o).1;obtain⟨m,hm,c,-,-,Y,A,t⟩:=G.get (i:=i) (by omega);have:=u i m x c o;exact⟨m,Y,by omega,by omega,t,this.1,by simp_all⟩
section
variable{V:Mem}{P M:Sl}{ps:List PV}{d:Ds}{v:Int}{F:Nat}{m:Mm}{nm:KB}{args par:List Int}{l pl:Sl}
theorem LA{I:Sl}{a b:Int}(t:P.n=ps.length):PP 16 [.agg #[Go.Sx.vS d.name,d.ts.v,d.gs.v,d.ps.v,d.ms.v,d.is.v,d.qs.v,d.bs.v,P.v,M.v,I.v,.int .i64 a,.int .i64 b],.int .i64 v] V (.bool (decide (EL ps v))):=by
 refine PT ?_;refine⟨λh1=>?_,λh1=>?_⟩
 ·have h1:0<=v:=h1;have e:decide (EL ps v)=decide (v<(P.n:Int)):=by
   rw[t];exact decide_eq_decide.2 ⟨λh=>h.2,λh=>⟨h1,h⟩⟩
  rw[e];exact⟨rfl,rfl⟩
 grind[EL]
theorem Pj{A I:Sl}{a b F:Int}(h:HF V M ps)(o:Ds.Ok V d)(X:A.n=ps.length)(B:Ab V l 1 (args.map Ah)):PP 42 [.agg #[Go.Sx.vS d.name,d.ts.v,d.gs.v,d.ps.v,d.ms.v,d.is.v,d.qs.v,d.bs.v,A.v,M.v,I.v,.int .i64 a,.int .i64 b],.int .i64 v,.agg #[.string nm,l.v],.int .i64 F] V (.int .i64 (CR d F ps v nm args)):=by
 refine Qb ?_;have u:∀{e:Int},CR d F ps v nm args=e->(Ending.returned (.int .i64 e)=.returned (.int .i64 (CR d F ps v nm args))/\V=V):=λe=>⟨by rw[e],rfl⟩;refine⟨λh1=>u ?_,λh1=>⟨λh2=>u ?_,λh2=>(LA X).call ⟨_,rfl,λhv=>?_,λhv=>u ?_⟩⟩⟩;·grind[CR]
 ·grind[CR,inr]
 rotate_left;·grind[CR]
 have h1:¬F<0:=h1;have h2:¬1048576<F:=h2;have hv:=of_decide_eq_true hv;have L:CR d F ps v nm args=if AV d nm<0 then 9 else if entB (DA d nm)=true then Be d (memS ps v) nm args else 30:=by
  grind[CR]
 refine(Ho o).call ⟨_,rfl,λh3=>u ?_,λh3=>?_⟩;·grind[AV]
 have h3:¬AV d nm<0:=h3;rw[if_neg h3]at L;obtain⟨i,C,c⟩:=vPr_at h3;have E:=o.procs.n_eq;have K:=(yj.1 c).1;obtain⟨y,G,R,-,-,S,T,J⟩:=o.procs.get (i:=i) (by omega);rw[c]at R;cases R;have U:BH (λt:Pr=>decide (t.name=nm)) d.procs=(i:Int):=C;rw[U];refine⟨S,T,by omega,_,_,_,_,_,J,(Rz (o.procsOk _ G)).call ⟨_,rfl,λh4=>?_,λh4=>u ?_⟩⟩;rotate_left;·grind
 rw[if_pos h4]at L;obtain⟨m,N,Z,Y,Q,O,hm6⟩:=h.mem hv;refine⟨N,Z,Y,_,_,Q,(Rr o O B).call ⟨_,rfl,u ?_⟩⟩;grind[memS,IX,Ja]
end
def resA(n:Nat)(er:Int)(r:Rx Int):Int:=if er=0 then(if CV r=0 then(n:Int)else -1)else 0
def Dn(er:Int)(r:Rx Int):Value:=if er=0 then .agg (BD (CV r) (outV r) r.st.cm (Bc r.st.lg)).toArray else .agg (BD 0 0 0 0).toArray
theorem resV_eq(n:Nat)(er:Int)(r:Rx Int):resV n er r=.tuple #[.int .i64 (resA n er r),Dn er r,.int .i64 er]:=by
 grind[resV,resA,Dn]
theorem LB(er:Int)(r:Rx Int):∃a1 a2 a3 h t:Int,Dn er r=.agg #[.int .i64 a1,.int .i64 a2,.int .i64 a3,.int .i64 h,.int .i64 t]:=by
 unfold Dn;split;·exact⟨_,_,_,_,_,rfl⟩
 ·exact⟨_,_,_,_,_,rfl⟩
section
variable{V D:Mem}{p:Nat}{d:Ds}{s:PsS}{v a b:Int}{nm:KB}{args:List Int}{l:Sl}{F:Int}
theorem NA(H:BI D V p d s):PP 14 [pv p] V (.int .i64 s.n):=by
 obtain⟨q,vl,gl,nl,tr,gs,ns,H⟩:=H;have P:=H.at_;refine Oh ?_;have t:=P.n.n_eq;exact⟨λh=>absurd h nn,λ_=>⟨nn,nn,nl,P.cell 10 1 (by decide),by rw[t,H.n];simp_all⟩⟩
theorem kn_mem{O:List Int}{n:Int}(h:n∈O):∃j:Int,kn O n=some j/\j≠0:=by
 grind[kn_pos]
theorem Jb(H:BI D V p d s)(hd:Ds.Ok D d)(o:s.vs.length<=1000):Tri xS 13 #[pv p,.int .i64 a,.int .i64 b] V λe V'=>V.sub V'/\e=.returned (.tuple #[.int .i64 (if Bm s a/\Bm s b then(Dm (Bo s a) (Bo s b):Int)else 0),.int .i64 (if Bm s a/\Bm s b then 0 else 24)]):=by
 obtain⟨R,X⟩:∃R:Ending->Mem->Prop,R=λe V'=>V.sub V'/\e=.returned (.tuple #[.int .i64 (if Bm s a/\Bm s b then(Dm (Bo s a) (Bo s b):Int)else 0),.int .i64 (if Bm s a/\Bm s b then 0 else 24)]):=⟨_,rfl⟩;rw[<-X];refine Og ?_;refine Tri.mono (Ny H hd o) ?_;rintro _ V1 ⟨E,⟨K,rfl⟩|⟨K,x,vb,hx,rfl,mb,S,c,t,nd1,T,-⟩⟩
 ·refine⟨_,_,rfl,λh=>absurd h (by decide),λ_=>?_⟩;simp_all
 obtain⟨q,vl,gl,nl,tr,gs,ns,H⟩:=H;refine⟨_,_,rfl,λ_=>Tri.mono (Ny (V:=V1) ⟨q,vl,gl,nl,tr,gs,ns,H.grow E⟩ hd o) ?_,λh=>absurd rfl h⟩;rintro _ V2 ⟨B,⟨Z,rfl⟩|⟨Z,y,vc,hy,rfl,mc,U,G,N,Ht,hq2,-⟩⟩
 ·refine⟨_,_,rfl,λh=>absurd h (by decide),λ_=>?_⟩;rw[X,if_neg λh=>Z h.2,if_neg λh=>Z h.2];exact⟨E.trans B,rfl⟩
 rw[if_pos ⟨K,Z⟩,if_pos ⟨K,Z⟩,(Gw hx).1,(Gw hy).1]at X;have Y:Gu (AO vb mb S c t x.ids t c x.ids nd1):=QL.low;have Q:Gu (AO vc mc U G N y.ids N G y.ids Ht):=QL.low;have h1:=QL.drop Y T;have h2:=QL.drop Q hq2;have u:=h1.ids.sub B;have hin:=u.n_eq;have hb1:=B _ _ h1.at_;refine⟨_,_,rfl,λ_=>⟨nn,nn,t,Aj hb1 2 1 (by simp),?_⟩,λh=>absurd rfl h⟩;refine Ej (mk:=λk:Int=>.int .i64 k) (b0:=0) BX x.ids.length (λi k V3=>V3=V2/\k=(((x.ids.take i).filter λz=>decide (z∈y.ids)).length:Int)) ⟨rfl,rfl⟩ ?_;rintro i k V3 J hi ⟨rfl,rfl⟩ hJ;have hfl:=List.length_filter_le (λz:Int=>decide (z∈y.ids)) (x.ids.take i);rw[List.length_take]at hfl;have hic:=u.cap;have hif:=u.fit;refine⟨λO=>?_,λhge=>?_⟩
 ·obtain⟨z,hzm,hz,-,A,hp,hz0,L⟩:=u.get O;have C:=Nz (p:=λz:Int=>decide (z∈y.ids)) hz;have hI:IR ((i:Int)+1):=⟨by omega,by omega⟩;refine⟨hp,hz0,O,z,L,nn,nn,_,h2.cell 3 1 (by decide),Cd.key1 (k:=z) (keyInt Tryz.underlying3) Tryz.underlying92 JM h2.map ?_⟩;show ∃v12,(kV y.ids z).getD (.int .i64 0)=.int .i64 v12/\_;by_cases hm:z∈y.ids
  ·obtain⟨j,hj,hj0⟩:=kn_mem hm;have hk:kV y.ids z=some (.int .i64 j):=by grind[kV]
   rw[hk];rw[if_pos (decide_eq_true hm)]at C;exact⟨j,rfl,λh=>absurd h hj0,λ_=>⟨⟨by omega,by omega⟩,hI,hJ A _ _ ⟨rfl,by rw[C];rfl⟩⟩⟩
  ·have hk:kV y.ids z=none:=by grind[kV,kn]
   rw[hk];rw[if_neg (by simp[hm])]at C;exact⟨0,rfl,λ_=>⟨hI,hJ A _ _ ⟨rfl,by rw[C];rfl⟩⟩,λh=>absurd rfl h⟩
 ·have hd':=(u.done hge).2;rw[xc (by omega)];rw[X];exact⟨E.trans B,rfl⟩
end
def rf3V(d:Ds)(P M I:Sl)(n wr:Int):Value:=.agg #[Go.Sx.vS d.name,d.ts.v,d.gs.v,d.ps.v,d.ms.v,d.is.v,d.qs.v,d.bs.v,P.v,M.v,I.v,.int .i64 n,.int .i64 wr]
def rIds(l:List Int):List Int:=l.map λz=>z-1
structure DX (V:Mem)(P M I:Sl)(s:PsS):Prop where
 pr:Ab V P 1 ((s.vs.map PsV.par).map Ah)
 mr:HF V M (s.vs.map PsV.pv)
 ir:∃is:List Sl,Ab V I 1 (is.map slRow)/\is.length=s.vs.length/\∀(i:Nat) sl x,is[i]?=some sl->s.vs[i]?=some x->Ab V sl 1 ((rIds x.ids).map Ah)
section
variable{V:Mem}{P M I:Sl}{s:PsS}{d:Ds}{v a b:Int}{F:Int}{nm:KB}{args:List Int}{l:Sl}
theorem DX.sub{V':Mem}(h:DX V P M I s)(t:V.sub V'):DX V' P M I s:=⟨h.pr.sub t,h.mr.sub t,by
 obtain⟨is,h1,h2,h3⟩:=h.ir;exact⟨is,h1.sub t,h2,λi sl x a b=>(h3 i sl x a b).sub t⟩⟩
theorem DX.pn(h:DX V P M I s):P.n=s.vs.length:=by have:=h.pr.n_eq;simp_all
theorem DX.ids(h:DX V P M I s)(u:Bm s v):∃(x:PsV)(sl:Sl),s.vs[v.toNat]?=some x/\¬I.p=none/\0<=v/\v<(I.n:Int)/\V.rowp I.p (v.toNat*1) 1=some [sl.v]/\Ab V sl 1 ((rIds x.ids).map Ah):=by
 obtain⟨is,h1,h2,h3⟩:=h.ir;obtain⟨i,rfl⟩:∃i:Nat,v=(i:Int):=⟨v.toNat,by have:=u.1;omega⟩;have o:=u.2;have G:=h1.n_eq;obtain⟨sl,hm,c,-,-,e,N,t⟩:=h1.get (i:=i) (by omega);have J:=yi (l:=s.vs) (i:=i) (by omega);exact⟨_,sl,by simp_all,e,by omega,by omega,by rw[xa];exact t,h3 i sl _ c J⟩
theorem Gx:EL (s.vs.map PsV.pv) v↔Bm s v:=by grind[EL,Bm]
theorem NB{x y:List Int}{i:Nat}{z:Int}(h:(rIds x)[i]?=some z):x[i]?=some (z+1):=by
 grind[rIds]
theorem HG(x:List Int):(rIds x).length=x.length:=by simp[rIds]
end
def Ref3P(V:Mem)(d:Ds)(s:PsS)(v:Int)(nm:KB)(args:List Int)(F:Int):Ending->Mem->Prop:=λe V'=>V.sub V'/\∃h t u:Sl,DX V' h t u (CL d s v (AZ d F.toNat s v nm args) (AH d F s v nm args))/\
 e=.returned (.tuple #[rf3V d h t u (CL d s v (AZ d F.toNat s v nm args) (AH d F s v nm args)).n (CL d s v (AZ d F.toNat s v nm args) (AH d F s v nm args)).wr,.int .i64 (resA s.vs.length (AH d F s v nm args) (AZ d F.toNat s v nm args)),Dn (AH d F s v nm args) (AZ d F.toNat s v nm args),.int .i64 (AH d F s v nm args)])
theorem rIds_app(a b:List Int):rIds (a++b)=rIds a++rIds b:=by simp[rIds]
section
variable{V:Mem}{P M I:Sl}{s:PsS}{d:Ds}{v:Int}{F:Int}{nm:KB}{args:List Int}{l:Sl}
theorem RJ(Z:Ds.Ok V d)(o:d.globals.length<=8):Tri xS 35 #[d.v] V λe V'=>V.sub V'/\∃P M I:Sl,e=.returned (rf3V d P M I 0 0)/\DX V' P M I (Eg d):=by
 obtain⟨R,G⟩:∃R:Ending->Mem->Prop,R=λe V'=>V.sub V'/\∃P M I:Sl,e=.returned (rf3V d P M I 0 0)/\DX V' P M I (Eg d):=⟨_,rfl⟩;rw[<-G];refine Qa ?_;have one:∀{V1:Mem}{t:Sl},V.sub V1->Mm.Ok V1 (BM d t)->∀b1,V1 b1=none->∀b2,(V1.set b1 (.cells #[.int .i64 (-1)] 3 (0,0))) b2=none->∀b3,((V1.set b1 (.cells #[.int .i64 (-1)] 3 (0,0))).set b2 (.cells #[t.v,Af.v] 45 (0,0))) b3=none->R (.returned (rf3V d ⟨some ⟨b1,0,none⟩,1,1⟩ ⟨some ⟨b2,0,none⟩,1,1⟩ ⟨some ⟨b3,0,none⟩,1,1⟩ 0 0)) (((V1.set b1 (.cells #[.int .i64 (-1)] 3 (0,0))).set b2 (.cells #[t.v,Af.v] 45 (0,0))).set b3 (.cells #[.slice none 0 0] 35 (0,0))):=λ{V1 t} c hm b1 h1 b2 h2 b3 h3=>by
  have N:=Mem.sub_new h1 (.cells #[.int .i64 (-1)] 3 (0,0));have J:=Mem.sub_new h2 (.cells #[t.v,Af.v] 45 (0,0));have u:=Mem.sub_new h3 (.cells #[.slice none 0 0] 35 (0,0));rw[G];refine⟨c.trans (N.trans (J.trans u)),_,_,_,rfl,?_,⟨[BM d t],?_,rfl,λi q v h hv=>?_⟩,[Af],?_,rfl,λi q v h hv=>?_⟩;·exact(IU (n:=-1) (Mem.set_same V1 b1 _)).sub (J.trans u)
  ·exact(Ab.cells (xs:=[BM d t]) (row:=Mm.row) Au rfl (λ_=>rfl) rfl (by simp)).sub u
  ·match i,h,hv with
   |0,h,hv=>cases h;cases hv;exact⟨hm.sub (N.trans (J.trans u)),rfl⟩
   |i+1,h,hv=>cases h
  ·exact Ab.cells (xs:=[Af]) (row:=slRow) Au rfl (λ_=>rfl) rfl (by simp)
  ·match i,h,hv with
   |0,h,hv=>cases h;cases hv;exact Ab.nil
   |i+1,h,hv=>cases h
 repeat' apply And.intro
 all_goals
  refine Tri.mono (O8 Z o) ?_;rintro _ V1 ⟨c,t,rfl,hm⟩;refine⟨_,_,rfl,?_⟩
  repeat' apply And.intro
  all_goals exact λb1 h1 b2 h2 b3 h3=>one c hm b1 h1 b2 h2 b3 h3
theorem RM(h:DX V P M I s)(hg:∀x∈s.vs,Ar d (AY x.m))(hil:∀x∈s.vs,x.ids.length=x.m.2.length)(hd:Ds.Ok V d)(ha:Ab V l 1 (args.map Ah))(hF:F<=4000∨1048576<F)(hlen:s.vs.length<=900)(hsn:s.n<=4096*s.vs.length)(hw0:0<=s.wr)(hw1:s.wr<=16100000*(s.vs.length:Int)):
  Tri xS 36 #[rf3V d P M I s.n s.wr,.int .i64 v,.agg #[.string nm,l.v],.int .i64 F] V (Ref3P V d s v nm args F):=by
 obtain⟨R,hR⟩:∃R,R=Ref3P V d s v nm args F:=⟨_,rfl⟩;rw[<-hR];refine QZ ?_;have hpn:=h.pn;refine(Pj h.mr hd (by simp_all) ha).call ⟨_,rfl,λh0=>⟨λhc=>absurd (show(1000:Int)<=(P.n:Int)from hc) (by omega),λ_=>?_⟩,λh0=>?_⟩;rotate_left
 ·have h0:¬CR d F (s.vs.map PsV.pv) v nm args=0:=h0;have h1:¬AH d F s v nm args=0:=h0;rw[hR];refine⟨Mem.sub.refl _,P,M,I,?_,?_⟩;·grind[CL]
  ·unfold CL resA Dn;rw[if_neg h1,if_neg h1,if_neg h1];rfl
 have h0:CR d F (s.vs.map PsV.pv) v nm args=0:=h0;have hF1:0<=F/\F<=1048576:=by
  grind[CR]
 obtain⟨n,rfl⟩:∃n:Nat,F=(n:Int):=⟨F.toNat,by omega⟩;obtain⟨hv,-,-,hcl⟩:=vc_zero h0;obtain⟨m,m1,m2,m3,m4,m5,m6⟩:=h.mr.mem hv;obtain⟨x,-,hx,-⟩:=h.ids (Gx.1 hv);have hxm:=x8 hx;obtain⟨hA,hM⟩:=Gw hx;have hpl:(AY x.m).plain=m.plain:=by
  rw[Ja,m6,uN,xI,hx];rfl
 have Gm:=(hg x hxm).plain hpl;have hmm:memS (s.vs.map PsV.pv) v=AY x.m:=hM;rw[hmm,IX hpl]at hcl;refine⟨m1,m2,m3,_,_,m4,Tri.mono (O1 hd m5 Gm ha hcl (by omega)) ?_⟩;rintro _ V1 ⟨q,r,hr,X,rfl⟩;refine⟨_,rfl,(O2 X).call ?_⟩;obtain⟨gs,ns,ls,nd,hat,Ly⟩:=X.ex;have s1:=Ly.sub;have hE:AH d (n:Int) s v nm args=0:=h0;have hRr:AZ d (n:Int).toNat s v nm args=r:=by
  grind[AZ,Lw]
 have hgd:Ar d r.st.mm:=by simp_all[play_good,Gm]
 have g:=play_gr (F:=n) Gm hcl;rw[<-hr]at g;refine⟨_,_,_,_,_,rfl,λho=>?_,λho=>?_⟩;rotate_left
 ·have ho:¬CV r=0:=ho;rw[hR];refine⟨s1,P,M,I,?_,?_⟩;·unfold CL G5;rw[hE,hRr,if_pos rfl,if_neg ho];exact h.sub s1
  ·unfold CL G5 resA Dn;rw[hE,hRr,if_pos rfl,if_pos rfl,if_pos rfl,if_neg ho,if_neg ho];rfl
 have ho:CV r=0:=ho;have hh1:=h.sub s1;have hxl:=hil x hxm;have hx4:=(BO (hg x hxm).mem).2.1;have hgl:(AY x.m).nodes.length=x.m.2.length:=by simp[AY]
 obtain⟨Q,hypn⟩:=Nc hd Ly hgd;obtain⟨y,hy⟩:∃y:Mm,y=⟨gs,r.st.g,ns,nd⟩:=⟨_,rfl⟩;rw[<-hy]at Q hypn;have B:r.st.mm.plain=y.plain:=(St.plain _).trans hypn.symm;have Gy:Ar d y:=hgd.plain B;have hy4:=(BO Gy.mem).2.1;have hmyl:m.nodes.length<=y.nodes.length:=by
  have h1:=play_len (F:=n) Gm hcl;grind[Mm.plain]
 have hle:x.ids.length<=y.nodes.length:=by
  grind[FU]
 have hnsn:=Q.nodes.n_eq;have hns:y.ns=ns:=by rw[hy]
 rw[hns]at hnsn;obtain⟨x',y0,hx',i1,i2,i3,i4,hxr⟩:=hh1.ids (Gx.1 hv);rw[hx]at hx';cases hx';obtain⟨e,he⟩:∃e,e=Bu x.ids s.n y.nodes.length:=⟨_,rfl⟩;have hel:e.length=y.nodes.length:=by rw[he];exact J5 hle
 have hrx:(rIds x.ids).length=x.ids.length:=HG _;refine⟨i1,i2,i3,y0,i4,λb1 hb1=>?_⟩;refine copyG Eu hb1 hxr (by omega) rfl rfl λids0 V4 o4=>⟨ids0,rfl,?_⟩;refine⟨λk ys V6=>∃(j:Nat)(o:Sl)(c:Int),k=y.nodes.length-(x.ids.length+j)/\x.ids.length+j<=y.nodes.length/\c=(s.n:Int)+j/\ys=[.string d.name,d.ts.v,d.gs.v,d.ps.v,d.ms.v,d.is.v,d.qs.v,d.bs.v,.slice P.p P.n P.c,.slice M.p M.n M.c,.slice I.p I.n I.c,.int .i64 c,.int .i64 s.wr,.slice o.p o.n o.c]/\Sx.Own V1 V6 3 1 o ((rIds (Bu x.ids s.n (x.ids.length+j))).flatMap Ah),y.nodes.length-x.ids.length,⟨0,ids0,_,rfl,hle,by simp,rfl,by rw[Nat.add_zero,extI_self];exact o4⟩,?_⟩;rintro k V6 v29 v30 v31 v32 v33 v34 v35 v36 v37 v38 v39 v40 v41 v42 ⟨j,o,c,rfl,hj,hc,C,o6⟩ J hJ;simp only[yJ,and_true]at C;obtain⟨q1,q2,q3,q4,q5,q6,q7,q8,q9,q10,q11,q12,q13,q14⟩:=C;cases inj_s _ _ q1;cases Bb _ _ q2;cases Bb _ _ q3;cases Bb _ _ q4;cases Bb _ _ q5;cases Bb _ _ q6;cases Bb _ _ q7;cases Bb _ _ q8;cases Bb _ _ q9;cases Bb _ _ q10;cases Bb _ _ q11;cases BX _ _ q12;cases BX _ _ q13;cases Bb _ _ q14;have E:=o6.sub _ _ hat;have hol:=o6.len;rw[CP,wI,HG,J5 (by omega),Nat.mul_one]at hol;refine⟨nn,nn,AM,ns,Aj E 9 1 (by simp[AD]),λN=>?_,λZ=>?_⟩
 ·have N:(v42.n:Int)<(ns.n:Int):=N;intro tb htb;refine oneG Eu (x:=v40) o6 htb (by grind[HG,J5]) rfl rfl (λ_=>rfl) λo2 V8 o8=>⟨o2,rfl,⟨by omega,by omega⟩,hJ _ _ _ (show y.nodes.length-(x.ids.length+(j+1))<y.nodes.length-(x.ids.length+j)by omega) ⟨j+1,o2,v40+1,rfl,by omega,by omega,rfl,?_⟩⟩;grind[Nat.add_assoc,extI_succ,rIds_app,rIds,Int,Nat]
 have Z:¬(v42.n:Int)<(ns.n:Int):=Z;have hjl:x.ids.length+j=y.nodes.length:=by omega
 rw[hjl,<-he]at o6;have hids:=o6.rows (row:=Ah) (λ_=>rfl) (by decide);have A:=(Ly.log.rows (row:=FO) (λ_=>rfl) (by decide)).sub o6.sub;have hll:=A.n_eq;have hlc:=A.cap;have hlf:=A.fit;refine⟨λk ys V7=>∃(i:Nat)(c2:Int),k=r.st.lg.length-i/\i<=r.st.lg.length/\c2=s.wr+Dl (r.st.lg.take i)/\ys=[.string d.name,d.ts.v,d.gs.v,d.ps.v,d.ms.v,d.is.v,d.qs.v,d.bs.v,.slice P.p P.n P.c,.slice M.p M.n M.c,.slice I.p I.n I.c,.int .i64 v40,.int .i64 c2,.int .i64 (i:Int)]/\V7=V6,r.st.lg.length,⟨0,s.wr,rfl,uv _,by show s.wr=s.wr+0;omega,rfl,rfl⟩,?_⟩;rintro k V7 v44 v45 v46 v47 v48 v49 v50 v51 v52 v53 v54 v55 v56 v57 ⟨i,c2,rfl,hi,hc2,C,rfl⟩ J1 hJ1;simp only[yJ,and_true]at C;obtain⟨q1,q2,q3,q4,q5,q6,q7,q8,q9,q10,q11,q12,q13,q14⟩:=C;cases inj_s _ _ q1;cases Bb _ _ q2;cases Bb _ _ q3;cases Bb _ _ q4;cases Bb _ _ q5;cases Bb _ _ q6;cases Bb _ _ q7;cases Bb _ _ q8;cases Bb _ _ q9;cases Bb _ _ q10;cases Bb _ _ q11;cases BX _ _ q12;cases BX _ _ q13;cases BX _ _ q14;have hlr:V7.rowp (sa q) 17 1=some [ls.v]:=Aj E 17 1 (by simp[AD]);have hwl:=wrL_le (r.st.lg.take i);have htl:(r.st.lg.take i).length<=r.st.lg.length:=by grind
 have hI:i<r.st.lg.length->IR ((i:Int)+1):=λ_=>⟨by omega,by omega⟩;have hgw:=g.w;have hgf:=g.fu (uv _);have hglen:r.st.lg.length<=16000000:=by
  have e1:(Bf m).lg.length=0:=rfl;have e2:(Bf m).tk=0:=rfl;have e3:(Bf m).cm=0:=rfl;omega
 refine⟨nn,nn,ls,hlr,λN=>?_,λZ=>?_⟩
 ·obtain⟨a,ham,hax,-,G,hpa,hza,K⟩:=A.get N;have hws:=wrL_succ hax;refine⟨nn,nn,ls,hlr,hpa,hza,N,Al hpa,a.1,a.2.1,a.2.2,K,λh2=>⟨nn,nn,ls,hlr,hpa,hza,N,Al hpa,a.1,a.2.1,a.2.2,K,λh3=>⟨hI G,hJ1 _ _ _ (show r.st.lg.length-(i+1)<r.st.lg.length-i by omega) ⟨i+1,v56,rfl,G,?_,rfl,rfl⟩⟩,λh3=>⟨⟨by omega,by omega⟩,hI G,hJ1 _ _ _ (show r.st.lg.length-(i+1)<r.st.lg.length-i by omega) ⟨i+1,v56+1,rfl,G,?_,rfl,rfl⟩⟩⟩,λh2=>⟨hI G,hJ1 _ _ _ (show r.st.lg.length-(i+1)<r.st.lg.length-i by omega) ⟨i+1,v56,rfl,G,?_,rfl,rfl⟩⟩⟩;·omega
  ·omega
  omega
 have Z:¬(i:Int)<(ls.n:Int):=Z;rw[xc (by omega)]at hc2;have s6:V1.sub V7:=o6.sub;have hyv:y.v=.agg #[gs.v,ns.v]:=by rw[hy];rfl
 have hRe:=O6 Gy.mem (hd.sub (s1.trans s6)) (Q.sub s6);rw[hyv]at hRe;refine⟨nn,nn,gs,ns,Aj E 8 2 (by simp[AD]),Tri.mono hRe ?_⟩;rintro _ V8 ⟨os,rfl,o8⟩;have Rc:=G0 Gy.mem;obtain⟨O,hO⟩:∃O,O=(AX d y).order:=⟨_,rfl⟩;rw[<-hO]at o8;have hor:=o8.rows (row:=Ah) (λ_=>rfl) (by decide);have hOn:=hor.n_eq;have hOl:O.length<=4096:=by have:=Rc.cap;rw[hO];omega
 refine⟨os,_,rfl,Ej (mk:=λs:Sl=>.slice s.p s.n s.c) (b0:=Af) Bb O.length (λi w V9=>Sx.Own V8 V9 3 1 w (((rIds (O.map (idf e))).take i).flatMap Ah)) (Own.nil (Mem.sub.refl _) _ _) ?_⟩;rintro t w V9 J2 ht o9 hJ2;have hor9:=hor.sub o9.sub;have S:=hids.sub (o8.sub.trans o9.sub);refine⟨λN=>?_,λZ=>?_⟩
 ·obtain⟨z,hzm,hz,-,htl',hp,hz0,hrow⟩:=hor9.get N;have hzr:=Rc.rng z (by grind);obtain⟨u,rfl⟩:∃u:Nat,z=(u:Int)+1:=⟨(z-1).toNat,by omega⟩;have hin:=S.n_eq;rw[HG,hel]at hin;obtain⟨f,hfm,hf,-,-,hp2,hz2,hrow2⟩:=S.get (i:=u) (by omega);have hfe:=NB (y:=[]) hf;have hidf:idf e ((u:Int)+1)=f+1:=by
   unfold idf;rw[if_neg (by omega),show((u:Int)+1-1).toNat=u by omega,uN,hfe];rfl
  refine⟨hp,hz0,N,_,hrow,⟨by omega,by omega⟩,hp2,by omega,by omega,f,by rw[show((u:Int)+1-1).toNat=u by omega];exact hrow2,λtb htb=>?_⟩;refine oneG Eu (x:=f) o9 htb (by grind) rfl rfl (λ_=>rfl) λo2 V11 o11=>⟨o2,rfl,⟨by omega,by omega⟩,hJ2 htl' _ _ ?_⟩;grind[vM,rIds,idf,Int]
 have Z:¬(t:Int)<(os.n:Int):=Z;rw[xc (by rw[HG,wI];omega)]at o9;have s9:V1.sub V9:=s6.trans (o8.sub.trans o9.sub);have hown:=o9.rows (row:=Ah) (λ_=>rfl) (by decide);have hh9:=hh1.sub s9;obtain⟨ms,hmr,hml,hmok⟩:=hh9.mr;obtain⟨is,hir,hisl,hiok⟩:=hh9.ir;have hml':ms.length=s.vs.length:=by grind
 intro b2 hb2;refine copyG Eu hb2 hh9.pr (by grind) rfl rfl λP1 V11 o11=>⟨P1,rfl,λb3 hb3=>?_⟩;refine oneG Eu (x:=v) o11 hb3 (by grind) rfl rfl (λ_=>rfl) λP2 L Y=>⟨P2,rfl,?_⟩;have T:V1.sub L:=s9.trans Y.sub;have hat13:=T _ _ hat;refine⟨nn,nn,gs,ns,Aj hat13 8 2 (by simp[AD]),Ev hat13 8 0 2 (by simp[AD]),nn,nn,λb4 hb4=>?_⟩;refine copyG appMm hb4 (hmr.sub Y.sub) (by omega) rfl rfl λM1 V15 o15=>⟨M1,rfl,?_⟩;have s15:=T.trans o15.sub;have hat15:=s15 _ _ hat;have B13:Bi L L subV:=Bi.mk Lx (Mem.sub.refl _) (Mem.sub.refl _);have B15:=QL.take Lx B13 o15;have hCan:∀U,L.sub U->Tri xS 62 #[d.v,.agg #[gs.v,ns.v]] U λe V'=>U.sub V'/\∃c:Mm,e=.returned (.agg #[c.gs.v,c.ns.v])/\Mm.Ok V' c/\IsCan d y c O:=λU hU=>by
  have:=Rw (V:=U) Gy (hd.sub (s1.trans (T.trans hU))) (Q.sub (T.trans hU));rw[hyv,<-hO]at this;exact this
 refine⟨Ev hat15 8 0 2 (by simp[AD]),nn,nn,Tri.mono (B15.run hCan) ?_⟩;rintro _ V16 ⟨D16,hD16,⟨c0,rfl,hcm,hI0⟩,B16⟩;refine⟨_,_,rfl,λb5 hb5=>?_⟩;refine pushL (x:=c0) appMm (λ_=>rfl) Lx B16 hb5 (by omega) rfl rfl rfl λM2 V18 B18=>⟨M2,rfl,?_⟩;obtain⟨D18,hD18,hM2,B18'⟩:=QL.pub (row:=Mm.row) Lx (λ_=>rfl) (by decide) B18;have z18:L.sub V18:=hD16.trans (hD18.trans B18'.sub);intro b6 hb6;refine copyG appSS hb6 (hir.sub (Y.sub.trans z18)) (by omega) rfl rfl λI1 V20 o20=>⟨I1,rfl,λb7 hb7=>?_⟩;refine oneG appSS (x:=w) o20 hb7 (by omega) rfl rfl (λ_=>rfl) λI2 V22 o22=>⟨I2,rfl,?_⟩;have z22:L.sub V22:=z18.trans o22.sub;have hP2:=Y.rows (row:=Ah) (λ_=>rfl) (by decide);have hPn:=hP2.n_eq;rw[zI,wI,yI]at hPn;have hIR:IR ((P2.n:Int)-1):=⟨by omega,by omega⟩;refine⟨hIR,hIR,?_⟩;rw[hR];have hps:CL d s v (AZ d (n:Int).toNat s v nm args) (AH d (n:Int) s v nm args)=⟨s.vs++[Fx d s.n x y v],s.n+(y.nodes.length-x.ids.length),s.wr+Dl r.st.lg⟩:=by
  rw[hE,hRr];unfold CL G5;rw[if_pos rfl,if_pos ho,hA,Pe B,FU B]
 refine⟨s1.trans (T.trans z22),P2,M2,I2,?_,?_⟩
 ·rw[hps];refine⟨?_,?_,?_⟩
  ·show Ab V22 P2 1 (((s.vs++[Fx d s.n x y v]).map PsV.par).map Ah);rw[yy];exact hP2.sub z22
  ·refine⟨ms++[c0],hM2.sub (B18'.sub.trans o22.sub),by simp[hml'],λi m' v' h1 h2=>?_⟩;rw[yy]at h2;by_cases hi:i<ms.length
   ·rw[wK hi]at h1;rw[wK (by omega)]at h2;have:=hmok i m' v' h1 h2;exact⟨this.1.sub (Y.sub.trans z22),this.2⟩
   ·have hl1:=(yj.1 h1).1;rw[zI,yI]at hl1;obtain rfl:i=ms.length:=by omega
    rw[uZ]at h1;rw[hml,List.map_singleton,uZ]at h2;cases h1;cases h2;refine⟨hcm.sub (hD18.trans (B18'.sub.trans o22.sub)),?_⟩;rw[hO]at hI0;exact canP_of Gy.mem hI0
  ·refine⟨is++[w],o22.rows (row:=slRow) (λ_=>rfl) (by decide),by simp[hisl],λi sl' x' h1 h2=>?_⟩;have h2:(s.vs++[Fx d s.n x y v])[i]?=some x':=h2;by_cases hi:i<is.length
   ·rw[wK hi]at h1;rw[wK (by omega)]at h2;exact(hiok i sl' x' h1 h2).sub (Y.sub.trans z22)
   ·have hl1:=(yj.1 h1).1;rw[zI,yI]at hl1;obtain rfl:i=is.length:=by omega
    rw[uZ]at h1;rw[hisl,uZ]at h2;cases h1;cases h2;have:=hown.sub (Y.sub.trans z22);rw[hO,he]at this;exact this
 ·rw[hps,hE,hRr];unfold resA Dn;rw[if_pos rfl,if_pos rfl,if_pos ho,show((P2.n:Int)-1)=(s.vs.length:Int)by omega];have e1:v40=((s.n+(y.nodes.length-x.ids.length):Nat):Int):=by omega
  rw[<-hc2,<-e1];rfl
end
section
variable{V D:Mem}{d:Ds}{p:Nat}{ps:List PV}
theorem good_iff:decide (C2 d (BM d Af) 0=0)=true↔Ar d (BM d Af):=by
 grind[C2]
end
structure Sq where
 ver:Int
 nm:KB
 sl:Sl
 args:List Int
def Sq.row(x:Sq):List Value:=[.int .i64 x.ver,.string x.nm,x.sl.v]
structure Fe (V:Mem)(l:Sl)(xs:List Sq):Prop where
 rows:Ab V l 3 (xs.map Sq.row)
 args:∀x∈xs,Ab V x.sl 1 (x.args.map Ah)
theorem Fe.sub{V V':Mem}{l:Sl}{xs:List Sq}(h:Fe V l xs)(s:V.sub V'):Fe V' l xs:=⟨h.rows.sub s,λx t=>(h.args x t).sub s⟩
def rf3Z:Value:=.agg #[Go.Sx.vS (Ad []),Af.v,Af.v,Af.v,Af.v,Af.v,Af.v,Af.v,Af.v,Af.v,Af.v,.int .i64 0,.int .i64 0]
def PlayQ3(V:Mem)(d:Ds)(n:Nat):Ending->Mem->Prop:=λe V'=>V.sub V'/\
 ((¬Ar d (BM d Af)/\e=.returned (.tuple #[.pointer none,rf3Z,.bool true]))∨
 (Ar d (BM d Af)/\∃(p:Nat)(D:Mem)(P M I:Sl)(s:PsS),e=.returned (.tuple #[pv p,rf3V d P M I s.n s.wr,.bool true])/\V.sub D/\BI D V' p d s/\DX D P M I s/\1<=s.vs.length/\s.vs.length<=1+n))
section
variable{V D:Mem}{d:Ds}{p:Nat}{s:PsS}
theorem BI.sub(h:BI D V p d s):D.sub V:=by
 obtain⟨q,vl,gl,nl,tr,gs,ns,H⟩:=h;exact H.bs.sub
theorem BI.grow{V':Mem}(h:BI D V p d s)(t:V.sub V'):BI D V' p d s:=by
 obtain⟨q,vl,gl,nl,tr,gs,ns,H⟩:=h;exact⟨q,vl,gl,nl,tr,gs,ns,H.grow t⟩
theorem BI.run{P:Program}{f:FuncId}{args:Array Value}{R:Ending->Mem->Prop}(h:BI D V p d s)(H:∀U,D.sub U->Tri P f args U λe u=>U.sub u/\R e u):
  Tri P f args V λe V'=>∃t,D.sub t/\R e t/\BI t V' p d s:=by
 obtain⟨q,vl,gl,nl,tr,gs,ns,K⟩:=h;refine Tri.mono (K.bs.run H) ?_;rintro e V' ⟨t,h1,h2,h3⟩;exact⟨t,h1,h2,q,vl,gl,nl,tr,gs,ns,K.more h1 h3⟩
structure PsOk (d:Ds)(s:PsS):Prop where
 good:∀x∈s.vs,Ar d (AY x.m)
 ids:∀x∈s.vs,x.ids.length=x.m.2.length
 dup:∀x∈s.vs,x.ids.Nodup
 len:∀x∈s.vs,x.ids.length<=4096
 small:s.n<=4096*s.vs.length
 wr0:0<=s.wr
 wr1:s.wr<=16100000*(s.vs.length:Int)
theorem BI.ok(h:BI D V p d s):PsOk d s:=by
 obtain⟨q,vl,gl,nl,tr,gs,ns,H⟩:=h;have I:=H.inv;have key:∀x∈s.vs,x.ids.length=x.m.2.length/\x.ids.Nodup:=λx t=>by
  obtain⟨i,u⟩:=wG.1 t;have N:=I.nod i x u;have o:(AY x.m).nodes.length=x.m.2.length:=by simp[AY]
  exact⟨by rw[N.len,o],N.dup⟩
 refine⟨I.good,λx t=>(key x t).1,λx t=>(key x t).2,λx t=>?_,H.small,H.wr0,H.wr1⟩;have h1:=(BO (I.good x t).mem).2.1;grind[AY]
theorem Pk{v:Int}{r:Rx Int}{er:Int}:s.vs.length<=(CL d s v r er).vs.length/\(CL d s v r er).vs.length<=s.vs.length+1:=by
 grind[CL,G5]
theorem J7[Tab V](Z:Ds.Ok V d){l:Sl}{xs:List Sq}(hl:Fe V l xs)(hxs:xs.length<=800):Tri xS 10 #[d.v,l.v] V (PlayQ3 V d xs.length):=by
 obtain⟨R,hR⟩:∃R,R=PlayQ3 V d xs.length:=⟨_,rfl⟩;rw[<-hR];refine QY ?_;unfold Mi;refine Tri.mono (Pg Z) ?_;rintro _ V1 ⟨s1,⟨hG,rfl⟩|⟨G,p,D,rfl,hD,A1⟩⟩
 ·refine⟨_,_,rfl,(Pb (Z.sub s1)).call ⟨_,rfl,λh=>absurd (good_iff.1 h) hG,λ_=>⟨λ_=>?_,λh=>absurd rfl h⟩⟩⟩;rw[hR];exact⟨s1,.inl ⟨hG,rfl⟩⟩
 refine⟨_,_,rfl,(Pb (Z.sub s1)).call ⟨_,rfl,λ_=>?_,λh=>absurd (good_iff.2 G) h⟩⟩;refine Tri.mono (A1.run (R:=λe U'=>∃P M I:Sl,e=.returned (rf3V d P M I 0 0)/\DX U' P M I (Eg d)) λU Q=>RJ (Z.sub (hD.trans Q)) (JW G.valid).1) ?_;rintro _ V3 ⟨D3,hD3,⟨P,M,I,rfl,hRf⟩,A3⟩;refine⟨_,_,_,_,_,_,_,_,_,_,_,_,_,rfl,λ_=>⟨λh=>absurd h nn,λ_=>?_⟩,λh=>absurd rfl h⟩;have d3:=hD.trans hD3;refine⟨λr ys V4=>∃(j:Nat)(P M I:Sl)(Y:Mem)(s:PsS)(n:Int),r=xs.length-j/\j<=xs.length/\n=(s.n:Int)/\ys=[.string d.name,d.ts.v,d.gs.v,d.ps.v,d.ms.v,d.is.v,d.qs.v,d.bs.v,.slice P.p P.n P.c,.slice M.p M.n M.c,.slice I.p I.n I.c,.int .i64 n,.int .i64 s.wr,.pointer none,.bool false,.int .i64 j]/\D3.sub Y/\BI Y V4 p d s/\DX Y P M I s/\1<=s.vs.length/\s.vs.length<=1+j,xs.length,⟨0,P,M,I,D3,Eg d,0,rfl,uv _,rfl,rfl,Mem.sub.refl _,A3,hRf,by simp[Eg],by simp[Eg]⟩,?_⟩;rintro r V4 v25 v26 v27 v28 v29 v30 v31 v32 P4 M4 I4 n4 w4 v38 v39 v40 ⟨j,P',M',I',Y,s,n',rfl,hj,hn',O,A,T,t,L,hpl⟩ J hJ;simp only[yJ,and_true]at O;obtain⟨q1,q2,q3,q4,q5,q6,q7,q8,q9,q10,q11,q12,q13,q14,q15,q16⟩:=O;cases inj_s _ _ q1;cases Bb _ _ q2;cases Bb _ _ q3;cases Bb _ _ q4;cases Bb _ _ q5;cases Bb _ _ q6;cases Bb _ _ q7;cases Bb _ _ q8;cases Bb _ _ q9;cases Bb _ _ q10;cases Bb _ _ q11;cases BX _ _ q12;cases BX _ _ q13;cases inj_p _ _ q14;cases inj_b _ _ q15;cases BX _ _ q16;have u:=d3.trans A;have e4:=T.sub;have X:=hl.sub (u.trans e4);subst hn';refine⟨λo=>?_,λhge=>?_⟩;rotate_left;·rw[hR];exact⟨u.trans e4,.inr ⟨G,p,Y,_,_,_,s,rfl,u,T,t,L,by omega⟩⟩
 obtain⟨x,B,hx,-,hjl,hp,hz,C⟩:=X.rows.get o;haveI:Tab Y:=Tab.sub (V:=V) inferInstance u;have K:=T.ok;refine⟨hp,hz,o,_,_,_,C,Tri.mono (Nw (v:=x.ver) T (Z.sub u) ((hl.args x B).sub u) (F:=120) (.inl (by decide)) (by omega)) ?_⟩;rintro _ V5 ⟨D5,N,A5,rfl⟩;obtain⟨a1,a2,a3,a4,a5,eo⟩:=LB (AH d 120 s x.ver x.nm x.args) (AZ d (120:Int).toNat s x.ver x.nm x.args);rw[resV_eq,eo];refine⟨_,_,_,_,_,_,_,rfl,?_⟩;have d5:=u.trans N;refine Tri.mono (A5.run (R:=λe U'=>∃P' M' I':Sl,DX U' P' M' I' (CL d s x.ver (AZ d (120:Int).toNat s x.ver x.nm x.args) (AH d 120 s x.ver x.nm x.args))/\e=.returned (.tuple #[rf3V d P' M' I' (CL d s x.ver (AZ d (120:Int).toNat s x.ver x.nm x.args) (AH d 120 s x.ver x.nm x.args)).n (CL d s x.ver (AZ d (120:Int).toNat s x.ver x.nm x.args) (AH d 120 s x.ver x.nm x.args)).wr,.int .i64 (resA s.vs.length (AH d 120 s x.ver x.nm x.args) (AZ d (120:Int).toNat s x.ver x.nm x.args)),Dn (AH d 120 s x.ver x.nm x.args) (AZ d (120:Int).toNat s x.ver x.nm x.args),.int .i64 (AH d 120 s x.ver x.nm x.args)])) λU Q=>RM (F:=120) (t.sub (N.trans Q)) K.good K.ids (Z.sub (d5.trans Q)) ((hl.args x B).sub (d5.trans Q)) (.inl (by decide)) (by omega) K.small K.wr0 K.wr1) ?_;rintro _ V6 ⟨D6,E,⟨P6,M6,I6,S,rfl⟩,A6⟩;rw[eo];have hne:=Pk (d:=d) (s:=s) (v:=x.ver) (r:=AZ d (120:Int).toNat s x.ver x.nm x.args) (er:=AH d 120 s x.ver x.nm x.args);have d6:=d5.trans E;refine⟨_,_,_,_,_,_,_,_,_,_,_,_,_,_,_,_,_,_,_,_,rfl,λ_=>⟨λ_=>⟨λ_=>⟨X.rows.succ o,hJ _ _ _ (show xs.length-(j+1)<xs.length-j by omega) ⟨j+1,P6,M6,I6,D6,_,_,rfl,hjl,rfl,rfl,A.trans (N.trans E),A6,S,by omega,by omega⟩⟩,λh=>absurd rfl h⟩,λh=>absurd ⟨rfl,rfl,rfl,rfl,rfl⟩ h⟩,λh=>absurd rfl h⟩
end
end Go.Proofs
namespace Go.Proofs.YtmdkfdmecbimcaaGreatDoor
open Go Go.Sx Go.Proofs Go.ChangeShapes Go.WideShapes Go.ChangeAt Go.RowKit
section
variable{H:Type}{enc:TypeId×Value->H}{w:World}
theorem len3{cs:List Value}(h:cs.length=3):∃a b c,cs=[a,b,c]:=by
 match cs,h with
 |[a,b,c],_=>exact⟨a,b,c,rfl⟩
theorem clSq:xS.cellsOf 79=3:=by kernel_rfl
theorem rdSq{n:Nat}{cs:List Value}{x:DataW H×List MemPlace}(h:TR enc w n 79 cs=some x):∃f:Sq,Sq.row f=cs/\Ab (BE w) f.sl 1 (f.args.map Ah):=by
 obtain⟨e,m,-,o⟩:=Fw Tryz.underlying79 h;obtain⟨a,f,g,rfl⟩:=len3 (e.trans clSq);obtain⟨i,rfl,-⟩:=gI (at1 (o 0 _ rfl) IZ rfl);obtain⟨y,t⟩:=o 1 _ rfl;change TR enc w m 57 (([wP .i64 i,f,g].drop 1).take (xS.cellsOf 57))=some y at t;rw[clCl]at t;obtain⟨nm,l,xs,c,u⟩:=rdCl t;simp only[List.drop_succ_cons,List.drop_zero,List.take_succ_cons,List.take_zero,yJ,and_true]at c;obtain⟨rfl,rfl⟩:=c;exact⟨⟨i,nm,l,xs⟩,rfl,u⟩
end
set_option maxRecDepth 100000 in
theorem Jc{H:Type}{enc:TypeId×Value->H}{W o:World}{r:Reach}{b0:Nat}{v:Value}{e:DataW H}{p:List MemPlace}(t:Value.okWide xS o r b0 31 v)(h:DataW.Trod enc xS W 0 (λ_=>true) true 31 v e p):∃(l:Sl)(u:List Sq),v=l.v/\Fe (BE W) l u:=by
 obtain⟨a,len,cap,rfl⟩:=okWide_slice uo t;obtain⟨fuel,h⟩:=h;have h:∃y,TR enc W fuel 31 [.slice a len cap]=some y:=⟨_,h⟩;obtain⟨s,u,J,G,N⟩:=EX (row:=Sq.row) (ok:=λc:Sq=>Ab (BE W) c.sl 1 (c.args.map Ah)) uo clSq (by decide) (λ_=>rfl) (λY _ u x Z=>rdSq Z) h;exact⟨s,u,J,G,N⟩
end Go.Proofs.YtmdkfdmecbimcaaGreatDoor
