/- Part 11: no statement of the seat is proved here. -/
import Derived.Test.YtkebnkjegieagaaGreatDoorPq10
import Derived.Shelf.Strconv.Clone
set_option linter.unusedVariables false
set_option linter.unusedSimpArgs false
open List renaming mem_cons->zJ,not_mem_nil->xT,take_add_one->vq,filterMap_append->ub,nodup_append->ua,mem_singleton->zZ,mem_iff_getElem?->uJ,getElem?_take->zx,getElem?_eq_some_iff->yg,all_eq_true->yK,length_take->vo,all_append->u0,take_of_length_le->wm,nodup_nil->u1,any_eq_true->xg,mem_map->vk,getElem?_zip_eq_some->u3,mem_of_getElem?->xw,mem_cons_self->yI,mem_cons_of_mem->yJ,mem_append->vc,length_append->zK,range->zC,getElem?_map->xJ,length_map->vp,getElem?_eq_none_iff->u6,map_congr_left->u7,append_nil->vn,take_append_drop->u9,flatMap_append->tA,flatMap_cons->xG,filter_append->tB,filter_cons->yM,length->tC,map_append->yY,nil_append->zO,length_set->uK,length_cons->zg
open Go.Proofs.Tryz renaming prog->xV,underlying37->u2,underlying9->wB
open Nat renaming zero_le->yn,le_refl->yu,mul_le_mul_right->xK,min_eq_left->tD
open List.cons renaming injEq->zP
open Bool renaming and_eq_true->zD
open Prod.mk renaming inj->uZ
open Int renaming toNat_of_nonneg->vQ
open Go.Ending renaming returned->xY
open Array renaming length_toList->uT
open Go.IntKind renaming i64->ye
namespace Go.Proofs
open Go Go.Sx
attribute [local irreducible] Go.Sx.Tri
theorem c107{V:Mem}{s:Sl}{l:XN}(h:Ae V s 1 (l.map Bs)){x:KB}:PP 107 [s.v,uS x] V (uI (B1 (λy=>decide (x=y)) l)):=by
 refine x107 ?_;refine AG (mk:=.int .i64) (b0:=0) l.length (λj V1=>V=V1/\AQ (λy:KB=>!decide (x=y)) l j) ⟨rfl,AQ.zero _ _⟩ ?_;rintro j b V1 J P ⟨rfl,q⟩ G;refine⟨λk=>?_,λw=>?_⟩
 .obtain⟨y,N,Z,-,r,Y,Q,u⟩:=h.get k;refine⟨Y,Q,k,_,u,λH=>?_,λH=>⟨h.succ k,G r _ _ ⟨rfl,E9 q Z (decide_eq_false H)⟩⟩⟩;grind[E7,decide_eq_true]
 .rw[E8 q (h.done w).2];simp_all
theorem QO{V:Mem}{s:Sl}{l:XN}(h:Ae V s 1 (l.map Bs)){x:KB}:PP 60 [s.v,uS x] V (uB (l.any λy=>decide (x=y))):=by
 refine Pl ?_;refine(c107 h).call ⟨_,rfl,?_⟩;have e:decide (0<=B1 (λy=>decide (x=y)) l)=l.any λy=>decide (x=y):=by
  grind[Cv,decide_eq_true]
 simp_all
theorem app26:AppP 26 105 6 Iv.row:=appG Tryz.underlying26 (by kernel_rfl) (by kernel_rfl) (by kernel_rfl) (by kernel_rfl) (by kernel_rfl) (by decide) (by intro _;rfl) λx u hu=>by simp only[Iv.row,Go.Sx.vS,Go.Sx.vI,Sl.v,zJ,xT,or_false]at hu;rcases hu with rfl|rfl|rfl|rfl|rfl|rfl<;>rfl
section
variable{V:Mem}{d:Ds}{F:Nat}{m:Mm}{nm:KB}{args:XZ}{l ns:Sl}{nms:XN}
theorem QP{b t:Nat}(k:V b=some (cell (uS nm) t)){v:Iv}:PP 59 [v.v,pv b] V (uB (decide (v.name=nm))):=by
 refine Pk ?_;exact⟨_,AD k,rfl,rfl⟩
def zeroDs:Ds:=⟨sE,Ah,[],Ah,[],Ah,[],Ah,[],Ah,[],Ah,[],Ah,[]⟩
theorem Mk{i:Nat}{n:KB}{v:Iv}(h:nms[i]?=some n)(hv:d.invs[(BP d n).toNat]?=some v):B9 d (nms.take (i+1))=B9 d (nms.take i)++[v]:=by
 unfold B9;rw[vq,h,ub];simp[hv]
theorem N7{α:Type}{l:List α}{x:α}(h:l.Nodup)(u:x∉l):(l++(some x).toList).Nodup:=by
 show(l++[x]).Nodup;rw[ua];exact⟨h,by simp,λa w b k e=>u (by rw[zZ]at k;rw[<-k,<-e];exact w)⟩
theorem N8{α:Type}{l:List α}{j:Nat}{x:α}(h:l.Nodup)(r:l[j]?=some x)(hm:x∈l.take j):False:=by
 obtain⟨k,w⟩:=uJ.1 hm;rw[zx]at w;by_cases u:k<j
 .rw[if_pos u]at w;obtain⟨q,H⟩:=yg.1 w;obtain⟨J,G⟩:=yg.1 r;exact List.pairwise_iff_getElem.1 (List.nodup_iff_pairwise_ne.1 h) k j q J u (by rw[H,G])
 .rw[if_neg u]at w;cases w
theorem pick_len:(B9 d nms).length<=nms.length:=by
 unfold B9;exact List.length_filterMap_le _ _
def ChoP(V:Mem)(d:Ds)(nms:XN):RP:=λe V'=>V.sub V'/\
 ((Ch d nms≠0/\e=rT #[zeroDs.v,uI (Ch d nms)])∨
 (Ch d nms=0/\∃s:Sl,Ae V' s 6 ((B9 d nms).map Iv.row)/\e=rT #[(B5 d s (B9 d nms)).v,uI 0]))
theorem N9(hd:Ds.Ok V d)(S:Ae V ns 1 (nms.map Bs))(hl:nms.length<=2147483647):Tri xV 26 #[d.v,ns.v] V (ChoP V d nms):=by
 obtain⟨R,T⟩:∃R,R=ChoP V d nms:=⟨_,rfl⟩;rw[<-T];refine Qb ?_;have hnn:=S.n_eq;have hnc:=S.cap;have bad:∀{k:Int}{V':Mem},Ch d nms=k->k≠0->V.sub V'->R (rT #[zeroDs.v,uI k]) V':=λh hk hs=>by
  rw[T];exact⟨hs,.inl ⟨by rw[h];exact hk,by rw[h]⟩⟩
 refine⟨λmm xs V1=>∃(i:Nat)(o:Sl),mm=nms.length-i/\i<=nms.length/\xs=[uS d.name,uL d.ts,uL d.gs,uL d.ps,uL d.ms,uL o,uL d.qs,uL d.bs,uI 0,uI i]/\Sx.Own V V1 105 6 o ((B9 d (nms.take i)).flatMap Iv.row)/\(nms.take i).all (λn=>decide (0<=BP d n))=true,nms.length,
  ⟨0,Ah,rfl,yn _,rfl,Own.nil (Mem.sub.refl _) _ _,rfl⟩,?_⟩
 rintro mm V1 v9 v10 v11 v12 v13 I v15 v16 v17 v18 ⟨i,o,rfl,hi,M,G,w⟩ J hJ;simp only[zP,and_true]at M;obtain⟨q1,q2,q3,q4,q5,q6,q7,q8,q9,U⟩:=M;cases F0 _ _ q1;cases AT _ _ q2;cases AT _ _ q3;cases AT _ _ q4;cases AT _ _ q5;cases AT _ _ q6;cases AT _ _ q7;cases AT _ _ q8;cases BJ _ _ q9;cases BJ _ _ U;have r:=S.sub G.sub;have hd1:=hd.sub G.sub;refine⟨λq=>?_,λZ=>?_⟩
 .obtain⟨x,L,X,hdr,hxl,hp,hz,H⟩:=r.get q;refine⟨hp,hz,q,x,H,λb hb=>?_⟩;have s2:=Mem.sub_new hb (cell (uS x) 9);have Y:=hd1.sub s2;refine(NG (first:=[]) (caps:=[pv b]) Y.invs Tryz.call59 (λt=>decide (t.name=x)) (λv _=>QP Av)).call ⟨_,rfl,λN=>?_,λN=>?_⟩
  .have N:BP d x<0:=N;refine bad (k:=9) ?_ (by decide) (G.sub.trans s2);unfold Ch;rw[if_neg λh=>absurd (of_decide_eq_true (yK.1 h x L)) (by omega)]
  .have N:0<=BP d x:=by
    have N:¬BP d x<0:=N;omega
   obtain⟨v,hv,hvn,hvm⟩:=pick_at N;have hdl:=(yg.1 hv).1;have hdn:=Y.invs.n_eq;obtain⟨y,-,K,-,hyl,hp2,hz2,Q⟩:=Y.invs.get (i:=(BP d x).toNat) (by omega);rw[hv]at K;cases K;have he:B1 (λt:Iv=>decide (t.name=x)) d.invs=(((BP d x).toNat:Nat):Int):=by
    show BP d x=_;omega
   rw[he];refine⟨hp2,by omega,by omega,_,_,_,_,_,_,Q,λtb htb=>?_⟩;have o2:=G.new hb (cell (uS x) 9);have hpl:=pick_len (d:=d) (nms:=nms.take i);have htl:(nms.take i).length<=nms.length:=by rw[vo];omega
   refine app26 (s:=I) (u:=⟨some ⟨tb,0,none⟩,1,1⟩) (xs:=B9 d (nms.take i)) (ys:=[v]) rfl rfl (o2.new htb _) (Ae.cells (xs:=[v]) (row:=Iv.row) Av (by simp;rfl) (λ_=>rfl) rfl (by simp)) (by simp;omega) λs5 V5 o5=>⟨s5,rfl,⟨by omega,by omega⟩,hJ _ _ _ (show nms.length-(i+1)<nms.length-i by omega) ⟨i+1,s5,rfl,by omega,rfl,?_,?_⟩⟩;.rw[Mk X hv];exact o5
   .rw[vq,X,u0,w];simpa using N
 .have hd0:nms.length<=i:=(r.done Z).2;have hti:nms.take i=nms:=wm hd0;rw[hti]at w G;refine⟨λmm xs V2=>∃j:Nat,mm=nms.length-j/\j<=nms.length/\xs=[uI 0,uI j]/\V2=V1/\(nms.take j).Nodup,nms.length,⟨0,rfl,yn _,rfl,rfl,u1⟩,?_⟩;rintro mm V2 v19 v20 ⟨j,rfl,hj,C,rfl,P⟩ J1 hJ1;simp only[zP,and_true]at C;obtain⟨r1,r2⟩:=C;cases BJ _ _ r1;cases BJ _ _ r2;refine⟨λq=>?_,λZ=>?_⟩
  .obtain⟨x,L,X,hdr,hxl,hp,hz,H⟩:=r.get q;refine⟨hp,hz,q,x,H,⟨by omega,by omega,by omega⟩,?_⟩;rw[F8,sub0,sub0];refine(QO (s:=⟨ns.p,j,ns.c⟩) (l:=nms.take j) (Ae.pre r (by omega))).call ⟨_,rfl,λhc=>?_,λhc=>⟨⟨by omega,by omega⟩,hJ1 _ _ _ (show nms.length-(j+1)<nms.length-j by omega) ⟨j+1,rfl,by omega,rfl,rfl,?_⟩⟩⟩
   .refine bad (k:=10) ?_ (by decide) G.sub;unfold Ch;rw[if_pos w,if_neg λD=>?_];obtain⟨y,K,hxy⟩:=xg.1 hc;obtain rfl:=of_decide_eq_true hxy;exact N8 D X K
   .rw[vq,X];exact N7 P λhm=>hc (xg.2 ⟨x,hm,decide_eq_true rfl⟩)
  .have hj0:nms.length<=j:=(r.done Z).2;rw[wm hj0]at P;rw[T];refine⟨G.sub,.inr ⟨by unfold Ch;rw[if_pos w,if_pos P],I,G.rows (λ_=>rfl) (by decide),rfl⟩⟩
noncomputable def CA(d:Ds)(m:Mm)(nms:XN):Option (KB×Int):=(allP (B5 d Ah (B9 d nms)) m).head?
theorem firstV_eq{s:Sl}:CA d m nms=(allP (B5 d s (B9 d nms)) m).head?:=by
 unfold CA;rw[Il,Il]
noncomputable def Cm(d:Ds)(nms:XN)(r:Rx Int)(x:Mm):Option (KB×Int):=if outC r=0 then CA d x nms else none
def grdO(r:Rx Int):Option (KB×Int)->XV|none=>Bz (outC r) (outV r) r.st.cm (AZ r.st.lg)|some _=>Bz 22 0 r.st.cm (AZ r.st.lg)
def grdX:Option (KB×Int)->XV|none=>[uS sE,uI 0]|some x=>[uS x.1,uI x.2]
def zeroG(k:Int):Value:=.tuple #[.agg (Bz 0 0 0 0).toArray,.agg #[Ah.v,Ah.v],.agg #[uS sE,uI 0],uI k]
def GrdP(V:Mem)(d:Ds)(F:Nat)(m:Mm)(nm:KB)(args:XZ)(nms:XN)(k:Int):RP:=λe V'=>
 (k≠0/\V.sub V'/\e=.returned (zeroG k))∨
 (k=0/\∃r:Rx Int,∃gs ns ls nd,r=CX d F (BG d nm) args (AV m)/\AK V V' gs ns ls nd r.st/\e=rT #[.agg (grdO r (Cm d nms r ⟨gs,r.st.g,ns,nd⟩)).toArray,.agg #[gs.v,ns.v],.agg (grdX (Cm d nms r ⟨gs,r.st.g,ns,nd⟩)).toArray,uI 0])
end
end Go.Proofs
namespace Go.Proofs.YtkebnkjegieagaaGreatDoor
open Go Go.Sx Go.Proofs Go.ChangeShapes Go.WideShapes Go.ChangeAt Go.RowKit
set_option maxRecDepth 100000 in
theorem strs_of{H:Type}{enc:TypeId×Value->H}{W w:World}{r:Reach}{b0:Nat}{v:Value}{q:DataW H}{p:List MemPlace}(u:Value.okWide xV w r b0 37 v)(h:DataW.Trod enc xV W 0 (λ_=>true) true 37 v q p):∃(l:Sl)(xs:XN),v=l.v/\Ae (Bb W) l 1 (xs.map Bs):=by
 obtain⟨a,len,cap,rfl⟩:=okWide_slice u2 u;obtain⟨fuel,h⟩:=h;have h:∃y,TR enc W fuel 37 [.slice a len cap]=some y:=⟨_,h⟩;obtain⟨l,k,hs,J,-⟩:=DQ (row:=Bs) (ok:=λ_:KB=>True) u2 DP (by decide) (λ_=>rfl) (λm' _ cs x G=>by
  obtain⟨n,rfl⟩:=rd_str wB G;exact⟨n,rfl,trivial⟩) h
 exact⟨l,k,hs,J⟩
end Go.Proofs.YtkebnkjegieagaaGreatDoor
namespace Go.Proofs
open Go Go.Sx
attribute [local irreducible] Go.Sx.Tri
section
variable{V:Mem}{d:Ds}{F:Nat}{m:Mm}{nm:KB}{args:XZ}{l ns s:Sl}{nms:XN}
theorem withOk(k:Ds.Ok V d)(u:Ch d nms=0)(hs:Ae V s 6 ((B9 d nms).map Iv.row)):Ds.Ok V (B5 d s (B9 d nms)):={k with invs:=hs,invsOk:=λv hv=>k.invsOk v ((pick_ok u).1 v hv)}
theorem Oa[Tab V](Z:Ds.Ok V d)(hm:Mm.Ok V m)(K:Ae V l 1 (args.map Aw))(S:F<=4000)(Y:Ch d nms=0)(hs:Ae V s 6 ((B9 d nms).map Iv.row)):
  Tri xV 27 #[d.v,(B5 d s (B9 d nms)).v,m.v,.agg #[uS nm,l.v],uI F] V (GrdP V d F m nm args nms (Cg d m nm args F)):=by
 obtain⟨R,Q⟩:∃R,R=GrdP V d F m nm args nms (Cg d m nm args F):=⟨_,rfl⟩;rw[<-Q];refine OR ?_;refine Tri.mono (QH Z hm K S) ?_;rintro e V1 (⟨J,N,rfl⟩|⟨J,r,gs,ns,ls,nd,D,L,rfl⟩);.exact⟨_,_,_,_,_,_,_,_,rfl,λh=>absurd h J,λ_=>by rw[Q];exact .inl ⟨J,N,rfl⟩⟩
 have N:=L.sub;obtain⟨G,P⟩:=I7 J;have k:=I8 (F:=F) G P;rw[<-D]at k;obtain⟨I,M⟩:=Hq Z L k;have T:An d ⟨gs,r.st.g,ns,nd⟩:=⟨k.valid,k.chk,Gh ((St.plain r.st).trans M.symm) k.mem⟩;obtain⟨x,w⟩:∃x,x=Cm d nms r ⟨gs,r.st.g,ns,nd⟩:=⟨_,rfl⟩;have fin:∀{e:Ending},e=rT #[.agg (grdO r x).toArray,.agg #[gs.v,ns.v],.agg (grdX x).toArray,uI 0]->R e V1:=λh=>by
  rw[Q];exact .inr ⟨J,r,gs,ns,ls,nd,D,L,by rw[h,w]⟩
 have fv:=firstV_eq (d:=d) (m:=⟨gs,r.st.g,ns,nd⟩) (nms:=nms) (s:=s);refine⟨_,_,_,_,_,_,_,_,rfl,λ_=>⟨λq=>⟨λX=>?_,λX=>?_⟩,λq=>?_⟩,λh=>absurd rfl h⟩
 .have q:outC r=0:=q;have X:(s.n:Int)=0:=X;have Y:=hs.n_eq;have e:B9 d nms=[]:=List.eq_nil_of_length_eq_zero (by omega);have w:x=none:=by rw[w];unfold Cm;rw[if_pos q,fv,e];rfl
  exact fin (by rw[w];rfl)
 .have q:outC r=0:=q;haveI:Tab V1:=Tab.sub (V:=V) inferInstance N;refine Tri.mono (Qy (withOk (Z.sub N) Y (hs.sub N)) I) ?_;rintro _ _ ⟨rfl,b,u,y,f,rfl,H⟩;have w:x=(allP (B5 d s (B9 d nms)) ⟨gs,r.st.g,ns,nd⟩).head?:=by rw[w];unfold Cm;rw[if_pos q,fv]
  cases H with
  |arg h=>exact absurd (pick_good Y T) h
  |ok h C=>exact⟨_,_,_,_,rfl,λ_=>⟨λ_=>fin (by rw[w,C];rfl),λh=>absurd rfl h⟩,λh=>absurd rfl h⟩
  |bad h C=>exact⟨_,_,_,_,rfl,λ_=>⟨λh=>(by cases h),λ_=>fin (by rw[w,C];rfl)⟩,λh=>absurd rfl h⟩
 .have q:¬outC r=0:=q;have w:x=none:=by rw[w];unfold Cm;rw[if_neg q]
  exact fin (by rw[w];rfl)
noncomputable def runE(d:Ds)(m:Mm)(nm:KB)(args:XZ)(nms:XN)(F:Int):Int:=if BT d m F=0 then(if Ch d nms=0 then Cg d m nm args F else Ch d nms)else BT d m F
end
end Go.Proofs
namespace Go.Proofs
open Go Go.Sx
abbrev Bj:=List (Int×Int)
section
variable{d:Ds}{m c:Mm}{O:XZ}
structure Cl (d:Ds)(m:Mm)(a b:Sr):Prop where
 sub:∀x∈a.order,x∈b.order
 shut:∀x∈b.order,x∈a.order∨∀y∈Fi d m x,y∈b.order
 dup:a.order.Nodup->b.order.Nodup
 rng:(∀x∈a.order,1<=x/\x<=(m.nodes.length:Int))->∀x∈b.order,1<=x/\x<=(m.nodes.length:Int)
 cap:a.order.length+B7 m a<=m.nodes.length->b.order.length+B7 m b<=m.nodes.length
theorem Cl.trans{a b e:Sr}(h:Cl d m a b)(k:Cl d m b e):Cl d m a e:=⟨λx u=>k.sub x (h.sub x u),λx u=>by
 rcases k.shut x u with u|u
 .rcases h.shut x u with u|u;.exact .inl u
  .exact .inr λy w=>k.sub y (u y w)
 .exact .inr u,λn=>k.dup (h.dup n),λr=>k.rng (h.rng r),λr=>k.cap (h.cap r)⟩
theorem tgt_mem{l:XX}{vs:XZ}{y:Int}:y∈DN l vs↔∃(i:Nat)(f:Fld),l[i]?=some f/\vs[i]?=some y/\C4 f.ty=false/\y≠0:=by
 unfold DN DM;simp only[vk,List.mem_filter,zD,Bool.not_eq_true',decide_eq_true_eq,Prod.exists,exists_eq_right];constructor
 .rintro⟨f,h,k,u⟩;obtain⟨i,w⟩:=uJ.1 h;rw[u3]at w;exact⟨i,f,w.1,w.2,k,u⟩
 .rintro⟨i,f,h,k,u,r⟩;exact⟨f,uJ.2 ⟨i,u3.2 ⟨h,k⟩⟩,u,r⟩
theorem tgt_in(hv:BX d m=true):(∀y∈DN d.globals m.globals,1<=y/\y<=(m.nodes.length:Int))/\∀n,∀y∈Fi d m n,1<=y/\y<=(m.nodes.length:Int):=by
 obtain⟨-,-,-,H,J⟩:=BR hv;refine⟨λy k=>?_,λn y k=>?_⟩
 .obtain⟨i,f,u,w,r,q⟩:=tgt_mem.1 k;exact ref_in H u w r q
 .unfold Fi at k;split at k
  .rename_i x G;obtain⟨i,f,u,w,r,q⟩:=tgt_mem.1 k;exact ref_in (J x (xw G)) u w r q
  .cases k
theorem KH{f:Nat}(H:∀st n,1<=n/\n<=(m.nodes.length:Int)->B7 m st<f->Cl d m st (Bl d m f st n)/\n∈(Bl d m f st n).order):
  ∀(l:XZ)(s:Sr),(∀y∈l,1<=y/\y<=(m.nodes.length:Int))->B7 m s<f->Cl d m s (l.foldl (Bl d m f) s)/\∀y∈l,y∈(l.foldl (Bl d m f) s).order
 |[],s,_,_=>⟨⟨λ_ h=>h,λ_ h=>.inl h,λh=>h,λh=>h,λh=>h⟩,λ_ h=>by cases h⟩
 |a::l,s,u,hs=>by
  obtain⟨w,c2⟩:=H s a (u a yI) hs;obtain⟨r,q⟩:=KH H l (Bl d m f s a) (λy k=>u y (yJ _ k)) (by have:=unS_le (m:=m) w.sub;omega);refine⟨w.trans r,λy k=>?_⟩;rcases zJ.1 k with rfl|k;.exact r.sub _ c2
  .exact q y k
theorem ent_cl(hv:BX d m=true):∀(f:Nat)(st:Sr)(n:Int),1<=n/\n<=(m.nodes.length:Int)->B7 m st<f->Cl d m st (Bl d m f st n)/\n∈(Bl d m f st n).order
 |0,_,_,_,h=>absurd h (Nat.not_lt_zero _)
 |f+1,st,n,r,N=>by
  rw[Bl];split;.rename_i h;exact⟨⟨λ_ h=>h,λ_ h=>.inl h,λh=>h,λh=>h,λh=>h⟩,h⟩
  .rename_i w;have q:=unS_lt r w (a:=st.again);obtain⟨u,c2⟩:=KH (ent_cl hv f) (Fi d m n) ⟨st.order++[n],st.again⟩ (λy H=>(tgt_in hv).2 n y H) (by omega);have hm:n∈(⟨st.order++[n],st.again⟩:Sr).order:=by simp
   refine⟨⟨λx k=>u.sub x (List.mem_append_left _ k),λx k=>?_,λh=>u.dup ?_,λh=>u.rng λx k=>?_,λh=>u.cap ?_⟩,u.sub n hm⟩
   .rcases u.shut x k with h|h
    .rcases vc.1 h with h|h;.exact .inl h
     .rw[zZ.1 h];exact .inr c2
    .exact .inr h
   .show(st.order++[n]).Nodup;rw[ua];refine⟨h,by simp,λa J b G e=>w ?_⟩;rw[<-zZ.1 G,<-e];exact J
   .rcases vc.1 k with k|k;.exact h x k
    .rw[zZ.1 k];exact r
   .show(st.order++[n]).length+_<=_;rw[zK,List.length_singleton];omega
structure QQ (d:Ds)(m:Mm)(O:XZ):Prop where
 dup:O.Nodup
 rng:∀x∈O,1<=x/\x<=(m.nodes.length:Int)
 glob:∀y∈DN d.globals m.globals,y∈O
 shut:∀x∈O,∀y∈Fi d m x,y∈O
 cap:O.length<=m.nodes.length
theorem unS_zero:B7 m ⟨[],0⟩<=m.nodes.length:=by
 unfold B7;have:=List.length_filter_le (λi:Nat=>!decide (((i:Int)+1)∈(⟨[],0⟩:Sr).order)) (zC m.nodes.length);rw[List.length_range]at this;exact this
theorem Jc(hv:BX d m=true):QQ d m (BN d m).order:=by
 have hu:=unS_zero (m:=m);obtain⟨k,c2⟩:=KH (ent_cl hv (m.nodes.length+1)) (DN d.globals m.globals) ⟨[],0⟩ (tgt_in hv).1 (by omega);refine⟨k.dup u1,k.rng (λx u=>by cases u),c2,λx u=>?_,?_⟩
 .rcases k.shut x u with h|h;.cases h
  .exact h
 .have:=k.cap (by show 0+_<=_;omega);exact Nat.le_trans (Nat.le_add_right _ _) this
def posI(l:XZ)(x:Int):Int:=B1 (λy=>decide (y=x)) l
def FM(O:XZ)(x:Int):Int:=if x=0 then 0 else posI O x+1
def renL(O:XZ)(l:XX)(vs:XZ):XZ:=(l.zip vs).map λx=>if C4 x.1.ty=true then x.2 else FM O x.2
structure IsCan (d:Ds)(m c:Mm)(O:XZ):Prop where
 globals:c.globals=renL O d.globals m.globals
 len:c.nodes.length=O.length
 at_:∀(i:Nat) n x,O[i]?=some n->m.nodes[(n-1).toNat]?=some x->∃s,c.nodes[i]?=some ⟨x.ty,s,renL O (B3 d x.ty) x.f⟩
theorem rho_zero:FM O 0=0:=by unfold FM;rw[if_pos rfl]
theorem ren_at{l:XX}{vs:XZ}{i:Nat}{f:Fld}{v:Int}(k:l[i]?=some f)(hv:vs[i]?=some v):(renL O l vs)[i]?=some (if C4 f.ty=true then v else FM O v):=by
 have u:(l.zip vs)[i]?=some (f,v):=u3.2 ⟨k,hv⟩;unfold renL;rw[xJ,u];rfl
end
section
variable{d:Ds}{B:Bj}{s t:St}
def canP(d:Ds)(m:Mm):XZ×List (Int×XZ):=
 (renL (BN d m).order d.globals m.globals,(BN d m).order.map λn=>match m.nodes[(n-1).toNat]? with|some x=>(x.ty,renL (BN d m).order (B3 d x.ty) x.f)|none=>(0,[]))
end
attribute [local irreducible] Go.Sx.Tri
section
variable{V:Mem}{d:Ds}{m:Mm}
theorem renL_len{O:XZ}{xs:XX}{vs:XZ}(h:xs.length=vs.length):(renL O xs vs).length=xs.length:=by
 unfold renL;rw[vp,List.length_zip];omega
end
section
variable{V:Mem}{d:Ds}{m:Mm}
theorem Own.growS{V0 V V':Mem}{e:TypeId}{sz:Nat}{s:Sl}{vs:XV}(h:Sx.Own V0 V e sz s vs)(hs:V.sub V'):Sx.Own V0 V' e sz s vs:=Own.moveB h (h.sub.trans hs) λ_ _ _ k=>hs _ _ k
structure CanAt (d:Ds)(m:Mm)(V2 V:Mem)(s:Sl)(i:Nat)(nd:XH):Prop where
 len:nd.length=i
 at_:∀(j:Nat) n x,j<i->(BN d m).order[j]?=some n->m.nodes[(n-1).toNat]?=some x->∃s,nd[j]?=some ⟨x.ty,s,renL (BN d m).order (B3 d x.ty) x.f⟩
 mem:∃W,V2.sub W/\Sx.Own W V 121 2 s (nd.flatMap Nd.row)/\∀n∈nd,Nd.Ok W n
theorem ren_in{O:XZ}{xs:XX}{vs:XZ}(w:O.length<=4096)(h:∀v∈vs,Ev v):∀v∈renL O xs vs,Ev v:=λv hv=>by
 unfold renL at hv;obtain⟨⟨a,b⟩,k,rfl⟩:=vk.1 hv;have u:=h b (List.of_mem_zip k).2;show Ev (if _ then b else FM O b);split;.exact u
 .unfold FM;split;.exact⟨by omega,by omega⟩
  .unfold posI;rcases Cv (λz=>decide (z=b)) O with⟨e,-⟩|⟨j,_,e,-,-,e2,-⟩;.rw[e];exact⟨by decide,by decide⟩
   .rw[e];exact⟨by show(-9223372036854775808:Int)<=(j:Int)+1;omega,by show(j:Int)+1<=(9223372036854775807:Int);omega⟩
theorem canP_of{c:Mm}(u:BX d m=true)(I:IsCan d m c (BN d m).order):c.plain=canP d m:=by
 have R:=Jc u;unfold Mm.plain canP;rw[I.globals];refine Prod.ext rfl (List.ext_getElem? λi=>?_);rw[xJ,xJ];cases k:(BN d m).order[i]? with
 |none=>
  have:c.nodes[i]?=none:=by
   rw[u6]at k⊢;rw[I.len];exact k
  rw[this];rfl
 |some n=>
  have r:=R.rng n (xw k);have w:=List.getElem?_eq_getElem (l:=m.nodes) (i:=(n-1).toNat) (by omega);obtain⟨sl,hs⟩:=I.at_ i n _ k w;rw[hs];simp only[Option.map_some];rw[w]
end
section
variable{d:Ds}{F:Nat}{m m':Mm}
theorem QR(h:m.plain=m'.plain)(n:Int):Fi d m n=Fi d m' n:=by
 unfold Fi;cases k:m.nodes[(n-1).toNat]? with
 |some x=>
  obtain⟨y,u,w,r⟩:=Ih h k;rw[u];simp only[w,r]
 |none=>
  have:m'.nodes[(n-1).toNat]?=none:=by
   rw[u6]at k⊢;rw[<-Ii h];exact k
  rw[this]
theorem Ob(h:m.plain=m'.plain):∀f:Nat,Bl d m f=Bl d m' f
 |0=>by funext st n;rw[Bl,Bl]
 |f+1=>by
  funext st n;rw[Bl,Bl,QR h,Ob h f]
theorem Ml(h:m.plain=m'.plain):BN d m=BN d m':=by
 have k:m.globals=m'.globals:=(uZ h).1;unfold BN lookP;rw[Ii h,Ob h,k]
theorem canP_plain(h:m.plain=m'.plain):canP d m=canP d m':=by
 have u:m.globals=m'.globals:=(uZ h).1;unfold canP;rw[Ml h,u];refine Prod.ext rfl (u7 λn _=>?_);cases k:m.nodes[(n-1).toNat]? with
 |some x=>
  obtain⟨y,w,r,q⟩:=Ih h k;rw[w];simp only[r,q]
 |none=>
  have:m'.nodes[(n-1).toNat]?=none:=by
   rw[u6]at k⊢;rw[<-Ii h];exact k
  rw[this]
end
end Go.Proofs
namespace Go.Proofs
open Go Go.Sx
section
variable{d:Ds}{m m':Mm}
theorem typV_plain(h:m.plain=m'.plain):Dg d m=Dg d m':=by
 funext x;unfold Dg;have:=congrArg (λl:List (Int×XZ)=>l[(x-1).toNat]?) (uZ h).2;simp only[xJ]at this;cases k:m.nodes[(x-1).toNat]?<;>cases u:m'.nodes[(x-1).toNat]?<;>rw[k,u]at this<;>simp_all
theorem fldV_plain(h:m.plain=m'.plain):fldV d m=fldV d m':=by
 funext x s;unfold fldV;have:=congrArg (λl:List (Int×XZ)=>l[(x-1).toNat]?) (uZ h).2;simp only[xJ]at this;cases k:m.nodes[(x-1).toNat]?<;>cases u:m'.nodes[(x-1).toNat]?<;>rw[k,u]at this<;>simp_all
theorem varV_plain(h:m.plain=m'.plain):varV d m=varV d m':=by
 funext x s;unfold varV;rw[show m.globals=m'.globals from(uZ h).1]
theorem evE_plain(h:m.plain=m'.plain){F:Int->Int->Rs}{x:Int}(e:E):Au d m F x e=Au d m' F x e:=by
 induction e using E.ind with
 |h e k=>
 rw[GH,GH,u7 k];unfold C5;rw[varV_plain h,fldV_plain h]
theorem evM_plain(h:m.plain=m'.plain):∀n,Al d m n=Al d m' n
 |0=>rfl
 |n+1=>by
  funext k x;unfold Al;rw[evM_plain h n];simp only[evE_plain h]
theorem holdB_plain(h:m.plain=m'.plain):D3 d m=D3 d m':=by
 funext e x;unfold D3;have:∀n,Au d m (Al d m n) x e=Au d m' (Al d m' n) x e:=λn=>by rw[evM_plain h,evE_plain h]
 exact decide_eq_decide.2 (exists_congr λn=>by rw[this n])
theorem allP_plain(h:m.plain=m'.plain):allP d m=allP d m':=by
 have k:B8 d m=B8 d m':=by
  funext v x;unfold B8;rw[typV_plain h,holdB_plain h]
 unfold allP BQ A9;rw[k,Ml h]
theorem KI{nms:XN}(h:m.plain=m'.plain):CA d m nms=CA d m' nms:=by
 unfold CA;rw[allP_plain h]
end
attribute [local irreducible] Go.Sx.Tri
theorem loop3b{V:Mem}{β k:Type}{mk:β->Value}{mc:k->Value}{B:β->k->Int->Mem->(KZ)->Prop}{b0:β}{c0:k}(ib:∀x y,mk x=mk y->x=y)(G:∀x y,mc x=mc y->x=y)(len:Nat)(St:Nat->β->k->Mem->Prop)(N:St 0 b0 c0 V)
  (step:∀(i:Nat)(b:β)(c:k) V1 J,i<=len->St i b c V1->(i<len->∀u w V2,St (i+1) u w V2->J [mk u,mc w,uI ((i:Int)+1)] V2)->B b c (i:Int) V1 J):
  ∃(I:Nat->KZ)(Z:Nat),I Z [mk b0,mc c0,uI 0] V/\∀n V1,∀b:β,∀c:k,∀v:Int,I n [mk b,mc c,uI v] V1->∀J:KZ,(∀m ys r,m<n->I m ys r->J ys r)->B b c v V1 J:=by
 refine⟨LI len λi xs V=>∃b c,xs=[mk b,mc c,uI i]/\St i b c V,len,LI.start ⟨b0,c0,rfl,N⟩,?_⟩;rintro n V1 b c v ⟨i,rfl,Y,u,w,H,hs⟩ J Q;simp only[zP,Value.int.injEq,true_and,and_true]at H;obtain⟨P,hc,rfl⟩:=H;cases ib _ _ P;cases G _ _ hc;exact step i b c V1 J Y hs λq u w V2 M=>LI.next Q q ⟨u,w,rfl,M⟩
theorem plain_eq{t:KB}(h:t=Ak∨t=Ay):C4 t=true:=by
 unfold C4;rcases h with rfl|rfl<;>simp
section
variable{V0 V:Mem}{d:Ds}{m:Mm}
theorem c123{s:Sl}{l:XZ}(h:Ae V s 1 (l.map Aw)){x:Int}:PP 123 [s.v,uI x] V (uI (posI l x)):=by
 refine x123 ?_;refine AG (mk:=.int .i64) (b0:=0) l.length (λj V1=>V=V1/\AQ (λy:Int=>!decide (y=x)) l j) ⟨rfl,AQ.zero _ _⟩ ?_;rintro j b V1 J P ⟨rfl,q⟩ G;refine⟨λk=>?_,λw=>?_⟩
 .obtain⟨y,N,Z,-,r,Y,Q,u⟩:=h.get k;refine⟨Y,Q,k,_,u,λH=>?_,λH=>⟨h.succ k,G r _ _ ⟨rfl,E9 q Z (decide_eq_false H)⟩⟩⟩;have e:posI l x=(j:Int):=by grind[posI,E7,decide_eq_true]
  simp_all
 .have e:posI l x=-1:=by unfold posI;exact E8 q (h.done w).2
  simp_all
theorem pos_neg{l:XZ}{x:Int}:¬(0<=posI l x)↔¬x∈l:=by
 unfold posI;rcases Cv (λy=>decide (y=x)) l with⟨k,-,u⟩|⟨i,y,k,u,-,w,r,-⟩;.grind
 grind
theorem tgtI_in{xs:XX}{vs:XZ}(h:AE d m xs vs=true){i:Nat}:∀y∈tgtI xs vs i,1<=y/\y<=(m.nodes.length:Int):=λy k=>by
 have:y∈DN xs vs:=by
  unfold tgtI at k;unfold DN;obtain⟨a,H,rfl⟩:=vk.1 k;grind
 obtain⟨j,f,u,w,r,q⟩:=tgt_mem.1 this;exact ref_in h u w r q
def LookRP(V0:Mem)(st:Sr):RP:=λe V'=>∃s:Sl,e=.returned (.agg #[s.v,uI st.again])/\Sx.Own V0 V' 3 1 s (st.order.flatMap Aw)
variable(V0 d m)in
def LookRC(N:Nat):Prop:=∀(st:Sr)(f:Nat) V (s l q:Sl)(xs:XX)(vs:XZ),B7 m st<=N->B7 m st<f->st.order.length+B7 m st<=m.nodes.length->Ae V0 l 2 (xs.map Fld.row)->Ae V0 q 1 (vs.map Aw)->AE d m xs vs=true->Sx.Own V0 V 3 1 s (st.order.flatMap Aw)->
 Tri xV 74 #[d.v,m.v,.agg #[s.v,uI st.again],l.v,q.v] V (LookRP V0 (lookP d m f st xs vs))
theorem lookRC(Q:BX d m=true)(hd:Ds.Ok V0 d)(hm:Mm.Ok V0 m)(N:Nat)(ih:∀N',N'<N->LookRC V0 d m N'):LookRC V0 d m N:=by
 intro st f V s l q xs vs hN hf U hl hq hv ho;refine Tri.mono (Qi (R:=LookRP V0 (lookP d m f st xs vs)) ?_) λ_ _ h=>h;have hlen:xs.length=vs.length:=by
  grind[AE]
 have m4:=(BR Q).2.1;refine loop3b (mk:=uL) (mc:=.int .i64) (b0:=s) (c0:=st.again) AT BJ xs.length (λi I a V1=>a=((tgtI xs vs i).foldl (Bl d m f) st).again/\Sx.Own V0 V1 3 1 I (((tgtI xs vs i).foldl (Bl d m f) st).order.flatMap Aw)) ⟨rfl,ho⟩ ?_;rintro i I a V1 J hi ⟨rfl,M⟩ hJ;obtain⟨w,r⟩:∃w,w=(tgtI xs vs i).foldl (Bl d m f) st:=⟨_,rfl⟩;rw[<-r]at M⊢;have hu:B7 m w<=B7 m st:=by simp_all[unS_le,foldP_sub]
 have hcl:Cl d m st w:=by rw[r];exact(KH (ent_cl Q f) (tgtI xs vs i) st (tgtI_in hv) hf).1
 have hcap1:=hcl.cap U;have H:=hl.sub M.sub;have hq1:=hq.sub M.sub;refine⟨λG=>?_,λhge=>?_⟩
 .obtain⟨x,hxm,hx,-,hil,hp,hz,L⟩:=H.get G;have n1:=H.n_eq;have n2:=hq1.n_eq;obtain⟨y,hym,hy,-,hjl,hpy,hzy,C⟩:=hq1.get (i:=i) (by omega);have same:DM (x,y)=false->J [uL I,uI w.again,uI ((i:Int)+1)] V1:=λhr=>by
   refine hJ hil I w.again V1 ?_;rw[Ki hx hy,hr,if_neg (by decide),vn,<-r];exact⟨rfl,M⟩
  have pl:C4 x.ty=true->DM (x,y)=false:=λh=>by grind[DM,C4]
  refine⟨hpy,hzy,by omega,_,C,hp,hz,G,Ai hp,_,_,L,λh2=>⟨H.succ G,same (pl ?_)⟩,λh2=>⟨hp,hz,G,Ai hp,_,_,L,λh3=>⟨H.succ G,same (pl ?_)⟩,λh3=>⟨λh4=>⟨H.succ G,same ?_⟩,λh4=>?_⟩⟩⟩;.grind[Ak,C4]
  .grind[Ay,C4]
  .grind[DM]
  have hpl:C4 x.ty=false:=by
   grind[Ak,Ay,C4]
  have h4:¬y=0:=h4;have hr:DM (x,y)=true:=by grind[DM]
  have hy1:=ref_in hv hx hy hpl h4;have next:∀(s':Sl) V2,Sx.Own V0 V2 3 1 s' ((Bl d m f w y).order.flatMap Aw)->J [.slice s'.p s'.n s'.c,uI (Bl d m f w y).again,uI ((i:Int)+1)] V2:=λs' V2 h=>by
   refine hJ hil s' _ V2 ?_;rw[Ki hx hy,hr,if_pos rfl,List.foldl_append,List.foldl_cons,List.foldl_nil,<-r];exact⟨rfl,h⟩
  obtain⟨f,rfl⟩:∃f',f=f'+1:=⟨f-1,by omega⟩;refine(c123 (M.rows (λ_=>rfl) (by decide))).call ⟨_,rfl,λh5=>?_,λh5=>?_⟩
  .have D:y∈w.order:=Classical.not_not.1 λh=>pos_neg.2 h h5;have e:Bl d m (f+1) w y=⟨w.order,if w.again=0 then y else w.again⟩:=by grind[Bl]
   rw[e]at next
   refine⟨λh6=>⟨H.succ G,?_⟩,λh6=>⟨H.succ G,?_⟩⟩;.simp_all
   simp_all
  .have D:¬y∈w.order:=pos_neg.1 h5;have hlt2:=unS_lt (st:=w) hy1 D (a:=w.again);intro tb htb;refine app31 (s:=I) (u:=⟨some ⟨tb,0,none⟩,1,1⟩) (xs:=w.order) (ys:=[y]) rfl rfl (M.but.new htb (.cells #[uI y] 3 (0,0))) (Hn Av) (by simp;omega) λo2 V2 ho2=>⟨o2,rfl,?_⟩;have K:Sx.Own V0 V2 3 1 o2 ((w.order++[y]).flatMap Aw):=ho2.narrow M.sub_but;obtain⟨k,rfl⟩:∃k:Nat,y=(k:Int)+1:=⟨(y-1).toNat,by omega⟩;have hmm:=hm.sub K.sub;have hdd:=hd.sub K.sub;have hnn:=hmm.nodes.n_eq;obtain⟨z,S,hz',-,hl2,P,hzx,Z⟩:=hmm.nodes.get (i:=k) (by omega);obtain⟨c1,c2⟩:=of_decide_eq_true ((BR Q).2.2.1 z S);obtain⟨j,hj⟩:∃j:Nat,z.ty=(j:Int):=⟨_,(vQ c1).symm⟩;have htn:=hdd.types.n_eq;obtain⟨t,htm,ht,-,hl3,X,hzt,T⟩:=hdd.types.get (i:=j) (by omega);have hI:IR ((k:Int)):=⟨by omega,by omega⟩;have hfo:=Ew ht hj;have Y:=(BR Q).2.2.2.2 z S;rw[hfo]at Y;rw[show((k:Int)+1-1)=(k:Int)by omega];refine⟨hI,P,hzx,by omega,Ai P,_,_,Z,?_⟩;rw[hj];refine⟨X,hzt,by omega,Ai X,_,_,T,hI,P,hzx,by omega,Ai P,_,_,Z,?_⟩;refine Tri.mono (ih (B7 m ⟨w.order++[(k:Int)+1],w.again⟩) (by omega) ⟨w.order++[(k:Int)+1],w.again⟩ f V2 o2 t.fs z.sl t.fields z.f (yu _) (by omega) ?_ (hd.typesOk t htm).fields (hm.nodesOk z S).rows Y K) ?_;.grind
   rintro _ V5 ⟨s5,rfl,h6⟩;have e:Bl d m (f+1) w ((k:Int)+1)=lookP d m f ⟨w.order++[(k:Int)+1],w.again⟩ t.fields z.f:=by
    rw[Bl,if_neg D];simp_all[Fi,lookP,Int,DN,B3]
   rw[<-e]at h6⊢;exact⟨_,_,rfl,H.succ G,next s5 V5 h6⟩
 .have hdn:=(H.done hge).2;rw[tgtI_all hdn]at r;have e:lookP d m f st xs vs=w:=r.symm;rw[e];exact⟨I,rfl,M⟩
theorem Mn(k:BX d m=true)(u:Ds.Ok V d)(hm:Mm.Ok V m):Tri xV 35 #[d.v,m.v] V (LookRP V (BN d m)):=by
 refine Tri.mono (OZ (R:=LookRP V (BN d m)) ?_) λ_ _ h=>h;have hu:=unS_zero (m:=m);have all:∀N,LookRC V d m N:=λN=>Nat.strongRecOn N λN w=>lookRC k u hm N w;refine Tri.mono (all m.nodes.length ⟨[],0⟩ (m.nodes.length+1) V ⟨none,0,0⟩ d.gs m.gs d.globals m.globals hu (by omega) (by simp_all) u.globals hm.globals (BR k).2.2.2.1 (Own.nil (Mem.sub.refl V) _ _)) ?_;rintro _ V2 ⟨s,rfl,h⟩;exact⟨_,_,rfl,s,rfl,h⟩
end
section
variable{V:Mem}{d:Ds}{m:Mm}
theorem c122{l q o:Sl}{xs:XX}{vs O:XZ}(hl:Ae V l 2 (xs.map Fld.row))(hq:Ae V q 1 (vs.map Aw))(ho:Ae V o 1 (O.map Aw))(hO:O.length<=4096)(he:xs.length=vs.length)(K:xs.length<=4096):
  Tri xV 122 #[l.v,q.v,o.v] V λe V'=>∃s:Sl,e=.returned (uL s)/\Sx.Own V V' 3 1 s ((renL O xs vs).flatMap Aw):=by
 refine x122 ?_;have hrl:=renL_len (O:=O) he;refine DJ (mk:=uL) (b0:=⟨none,0,0⟩) AT xs.length (λi s V1=>Sx.Own V V1 3 1 s (((renL O xs vs).take i).flatMap Aw)) (Own.nil (Mem.sub.refl _) _ _) ?_;rintro i s V1 J hi Y hJ;have N:=hl.sub Y.sub;have Q:=hq.sub Y.sub;refine⟨λH=>?_,λM=>?_⟩
 .obtain⟨x,hxm,hx,-,L,P,I,G⟩:=N.get H;have n2:=Q.n_eq;obtain⟨y,hym,hy,-,hjl,R,X,Z⟩:=Q.get (i:=i) (by omega);have C:=ren_at (O:=O) hx hy;have add:∀{w z:Int}{V2:Mem}{ty:Nat}{a b:Operand}{vals:Operand->Value},V1=V2->w=(if C4 x.ty=true then y else FM O y)->z=w->∀r,V2 r=none->vals a=uL s->vals b=.slice (sa r) 1 1 ->
    GenK xV (.call {callee:=.builtin .append,args:=#[a,b],argTypes:=#[31,31]}) ty vals (V2.set r (.cells #[uI z] 3 (0,0))) λx S=>∃T:Sl,x=uL T/\IR ((i:Int)+1)/\J [uL T,uI ((i:Int)+1)] S:=λ{w z V2 ty a b vals} e hw I r k ha K=>by
   subst e;subst I;refine app31 (s:=s) (u:=⟨some ⟨r,0,none⟩,1,1⟩) (xs:=(renL O xs vs).take i) (ys:=[z]) ha K (Y.but.new k (.cells #[uI z] 3 (0,0))) (Hn Av) (by grind) λo2 S D=>⟨o2,rfl,N.succ H,hJ L _ _ ?_⟩;rw[vq,C,<-hw];exact D.narrow Y.sub_but
  have U:∀{c:Bool},C4 x.ty=c->(if C4 x.ty=true then y else FM O y)=if c=true then y else FM O y:=λh=>by rw[h]
  refine⟨R,X,by omega,_,Z,P,I,H,Ai P,_,_,G,λh2 r k=>add rfl (by rw[U (plain_eq (.inl h2))];rfl) rfl r k rfl rfl,λh2=>⟨P,I,H,Ai P,_,_,G,λh3 r k=>add rfl (by rw[U (plain_eq (.inr h3))];rfl) rfl r k rfl rfl,λh3=>?_⟩⟩;have hpl:C4 x.ty=false:=by
   grind[Ak,Ay,C4]
  refine⟨λh4 r k=>add rfl ?_ rfl r k rfl rfl,λh4=>?_⟩;.grind[rho_zero]
  .refine(c123 (ho.sub Y.sub)).call ⟨_,rfl,?_,λr k=>add rfl ?_ rfl r k rfl rfl⟩
   .unfold posI;rcases Cv (λz=>decide (z=y)) O with⟨e,-⟩|⟨j,_,e,-,-,e2,-⟩;.rw[e];exact⟨by omega,by omega⟩
    .rw[e];exact⟨by omega,by omega⟩
   grind[FM]
 .have hd:=(N.done M).2;grind
theorem lens_of(h:A8 d=true):d.globals.length<=8/\∀t∈d.types,t.fields.length<=12:=by
 grind[A8,Dc,EL]
theorem Oc{l:XX}{vs:XZ}(h:AE d m l vs=true):l.length=vs.length:=by
 grind[AE]
theorem Od(G:An d m)(hd:Ds.Ok V d)(hm:Mm.Ok V m):Tri xV 73 #[d.v,m.v] V λe V'=>V.sub V'/\∃c:Mm,e=.returned (.agg #[c.gs.v,c.ns.v])/\Mm.Ok V' c/\IsCan d m c (BN d m).order:=by
 refine Qh ?_;refine Tri.mono (Mn G.mem hd hm) ?_;rintro _ V1 ⟨o,rfl,ho⟩;have R:=Jc G.mem;obtain⟨p1,p2,p3,p4,p5⟩:=BR G.mem;obtain⟨l1,l2⟩:=lens_of G.valid;have hcap:=R.cap;have S:=ho.rows (λ_=>rfl) (by decide);refine⟨o,_,rfl,Tri.mono (c122 (hd.globals.sub ho.sub) (hm.globals.sub ho.sub) S (by omega) (Oc p4) (by omega)) ?_⟩;rintro _ V2 ⟨gs,rfl,hg⟩;refine⟨gs,rfl,?_⟩;have hgR:=hg.rows (λ_=>rfl) (by decide);refine loop3b (mk:=uL) (mc:=uL) (b0:=gs) (c0:=⟨none,0,0⟩) AT AT (BN d m).order.length (λi b c V3=>b=gs/\∃nd,CanAt d m V2 V3 c i nd) ⟨rfl,[],rfl,(λ_ _ _ h=>by omega),V2,Mem.sub.refl _,Own.nil (Mem.sub.refl _) _ _,(λ_ h=>by cases h)⟩ ?_;rintro i b s V3 J hi ⟨rfl,nd,C⟩ hJ;obtain⟨W,hW,r,T⟩:=C.mem;have M:V.sub V3:=((ho.sub.trans hg.sub).trans hW).trans r.sub;have Z:=hd.sub M;have Y:=hm.sub M;have Q:=S.sub ((hg.sub.trans hW).trans r.sub);refine⟨λL=>?_,λhge=>?_⟩
 .obtain⟨n,hnm,hn,-,hil,hp,hz,U⟩:=Q.get L;have hr:=R.rng n hnm;obtain⟨k,rfl⟩:∃k:Nat,n=(k:Int)+1:=⟨(n-1).toNat,by omega⟩;have hnn:=Y.nodes.n_eq;obtain⟨z,P,hz',-,hl2,hpx,hzx,X⟩:=Y.nodes.get (i:=k) (by omega);obtain⟨c1,c2⟩:=of_decide_eq_true (p3 z P);obtain⟨j,hj⟩:∃j:Nat,z.ty=(j:Int):=⟨_,(vQ c1).symm⟩;have htn:=Z.types.n_eq;obtain⟨t,htm,ht,-,hl3,I,hzt,D⟩:=Z.types.get (i:=j) (by omega);have hI:IR ((k:Int)):=⟨by omega,by omega⟩;have hfo:=Ew ht hj;have H:=p5 z P;rw[hfo]at H;refine⟨hp,hz,L,_,U,?_⟩;rw[show((k:Int)+1-1)=(k:Int)by omega];refine⟨hI,hpx,hzx,by omega,_,_,X,?_⟩;rw[hj];refine⟨I,hzt,by omega,Ai I,_,_,D,Tri.mono (c122 (Z.typesOk t htm).fields (Y.nodesOk z P).rows Q (by omega) (Oc H) (by grind)) ?_⟩;rintro _ V4 ⟨fs,rfl,hf⟩;refine⟨fs,rfl,λtb htb=>?_⟩;have K:=Own.growS r hf.sub;have hfR:=hf.rows (λ_=>rfl) (by decide);obtain⟨nn,N⟩:∃nn:Nd,nn=⟨(j:Int),fs,renL (BN d m).order t.fields z.f⟩:=⟨_,rfl⟩;have hblk:Ae (V4.but s) fs 1 ((renL (BN d m).order t.fields z.f).map Aw):=by
   have:Sx.Own (λ_=>none) (V4.but s) 3 1 fs ((renL (BN d m).order t.fields z.f).flatMap Aw):=⟨(λ_ _ h=>by cases h),hf.len,by
    rcases hf.at_ with h|⟨g,cur,a,b,c,dd⟩;.exact .inl h
    .exact .inr ⟨g,cur,a,rfl,Mem.but_at c (r.apartN b),dd⟩⟩
   exact this.rows (λ_=>rfl) (by decide)
  have hn2:Nd.Ok (V4.but s) nn:=by
   rw[N];exact⟨hblk,⟨by simp_all,by show(j:Int)<=9223372036854775807;have:=(Z.types.succ (i:=j) (by omega)).2;omega⟩,ren_in (by omega) (Y.nodesOk z P).vals⟩
  have hlen:nd.length<=4096:=by rw[C.len];omega
  refine app32 (s:=s) (u:=⟨some ⟨tb,0,none⟩,1,1⟩) (xs:=nd) (ys:=[nn]) rfl rfl (K.but.new htb (.cells #[uI (j:Int),uL fs] 121 (0,0))) (Ae.cells (xs:=[nn]) (row:=Nd.row) Av (by rw[N];rfl) (λ_=>rfl) rfl (by simp)) (by simp;omega) λo2 V5 ho2=>⟨o2,rfl,Q.succ L,hJ hil _ _ _ ⟨rfl,nd++[nn],by rw[zK,C.len];rfl,λq w x hq hw hx=>?_,V4.but s,hW.trans K.sub_but,ho2,λw hw=>?_⟩⟩
  .by_cases hqi:q<i
   .obtain⟨sl,hs⟩:=C.at_ q w x hqi hw hx;exact⟨sl,by rw[List.getElem?_append_left (by grind)];exact hs⟩
   .have:q=i:=by omega
    subst this;rw[hn]at hw;cases hw;rw[show((k:Int)+1-1).toNat=k by omega,hz']at hx;cases hx;refine⟨fs,?_⟩;rw[<-C.len,List.getElem?_concat_length,N,hfo,hj]
  .rcases vc.1 hw with hw|hw;.exact(T w hw).sub K.sub_but
   simp_all
 .have hdn:=(Q.done hge).2;have hi':i=(BN d m).order.length:=by omega
  refine⟨M,⟨b,renL (BN d m).order d.globals m.globals,s,nd⟩,rfl,⟨hgR.sub (hW.trans r.sub),ren_in (by omega) hm.gIn,r.rows (λ_=>rfl) (by decide),λn hn=>(T n hn).sub r.sub⟩,rfl,by rw[<-hi'];exact C.len,λj n x hj hx=>C.at_ j n x (by grind) hj hx⟩
end
section
variable{V:Mem}{d:Ds}{m:Mm}{nm:KB}{args:XZ}{l ns:Sl}{nms:XN}
theorem nodes_rng(G:An d m){v:Iv}{x:Int}(h:x∈A9 d m v):0<=x/\x<=(m.nodes.length:Int):=by
 unfold A9 at h;split at h;.rw[zZ.1 h];exact⟨by omega,by omega⟩
 .have:=(Jc G.mem).rng x h;omega
theorem Oe(hd:Ds.Ok V d)(q:Ae V ns 1 (nms.map Bs)):PP 29 [d.v,ns.v] V (uI (Ch d nms)):=by
 refine OT ?_;have fin:∀{k:Int},Ch d nms=k->(xY (uI k)=Id (Ch d nms)/\V=V):=λh=>⟨by rw[h],rfl⟩;refine AG (mk:=λk:Int=>uI k) (b0:=0) nms.length (λi V1=>V=V1/\(nms.take i).all (λn=>decide (0<=BP d n))=true) ⟨rfl,rfl⟩ ?_;rintro i b V1 J hi ⟨rfl,w⟩ hJ;refine⟨λu=>?_,λN=>?_⟩
 .obtain⟨x,I,R,-,X,C,D,r⟩:=q.get u;refine⟨C,D,u,x,r,(LX hd).call ⟨_,rfl,λh=>fin ?_,λh=>⟨q.succ u,hJ X _ _ ⟨rfl,?_⟩⟩⟩⟩
  .have h:BP d x<0:=h;unfold Ch;rw[if_neg λk=>absurd (of_decide_eq_true (yK.1 k x I)) (by omega)]
  .have h:¬BP d x<0:=h;rw[vq,R,u0,w];simpa using h
 .have K:=(q.done N).2;rw[wm K]at w;refine AG (mk:=λk:Int=>uI k) (b0:=b) nms.length (λi V1=>V=V1/\(nms.take i).Nodup) ⟨rfl,u1⟩ ?_;rintro j b V1 J1 hj ⟨rfl,Z⟩ S;refine⟨λu=>?_,λN=>fin ?_⟩
  .obtain⟨x,I,R,-,T,C,D,r⟩:=q.get u;refine AG (mk:=λk:Int=>uI k) (b0:=b) j (λk V1=>V=V1/\x∉nms.take k) ⟨rfl,by simp⟩ ?_;rintro k b V1 J2 hk ⟨rfl,Y⟩ U;refine⟨λH=>?_,λG=>⟨q.succ u,S T _ _ ⟨rfl,?_⟩⟩⟩
   .have H:(k:Int)<(j:Int):=H;have Q:(k:Int)<(ns.n:Int):=by omega
    obtain⟨y,hym,hy,-,hkl,hp2,hz2,P⟩:=q.get Q;refine⟨hp2,hz2,Q,y,P,C,D,u,x,r,λM=>fin ?_,λM=>⟨q.succ Q,U (by omega) _ _ ⟨rfl,?_⟩⟩⟩
    .have M:y=x:=M;unfold Ch;rw[if_pos w,if_neg λL=>N8 L R (uJ.2 ⟨k,by rw[zx,if_pos (by omega),hy,M]⟩)]
    .rw[vq,hy,vc];rintro(h|h);.exact Y h
     .exact M (zZ.1 h).symm
   .have G:¬(k:Int)<(j:Int):=G;rw[show k=j by omega]at Y;rw[vq,R];exact N7 Z Y
  .rw[wm (q.done N).2]at Z;unfold Ch;rw[if_pos w,if_pos Z]
theorem first_at{i k:Nat}{n:KB}{v:Iv}{x:Int}(hi:nms[i]?=some n)(hv:d.invs[(BP d n).toNat]?=some v)(w:((B9 d (nms.take i)).flatMap λv=>BQ d m v (A9 d m v))=[])(u:(A9 d m v)[k]?=some x)(r:((A9 d m v).take k).filter (B8 d m v)=[])(q:B8 d m v x=true):CA d m nms=some (v.name,x):=by
 have G:=(yg.1 hi).1;have H:B9 d nms=B9 d (nms.take (i+1))++B9 d (nms.drop (i+1)):=by
  unfold B9;rw[<-ub,u9]
 have J:A9 d m v=(A9 d m v).take k++x::(A9 d m v).drop (k+1):=by
  conv=>lhs;rw[<-u9 k (A9 d m v)]
  rw[List.drop_eq_getElem_cons (yg.1 u).1,(yg.1 u).2]
 unfold CA;rw[Il,H,Mk hi hv,tA,tA,w,xG];unfold BQ;rw[J,tB,r,yM,if_pos q];rfl
theorem QS(G:An d m)(hd:Ds.Ok V d)(hm:Mm.Ok V m)(M:Ae V ns 1 (nms.map Bs))(hN:Ch d nms=0):
  Tri xV 31 #[d.v,m.v,ns.v] V λe V'=>V.sub V'/\e=rT #[.agg (grdX (CA d m nms)).toArray,.bool (CA d m nms).isSome]:=by
 obtain⟨R,hR⟩:∃R:RP,R=λe V'=>V.sub V'/\e=rT #[.agg (grdX (CA d m nms)).toArray,.bool (CA d m nms).isSome]:=⟨_,rfl⟩;rw[<-hR];refine Qc ?_;obtain⟨f,hf⟩:∃f,f=λv=>BQ d m v (A9 d m v):=⟨_,rfl⟩;refine Tri.mono (Mn G.mem hd hm) ?_;rintro _ V1 ⟨o,rfl,ho⟩;have hor:=ho.rows (λ_=>rfl) (by decide);refine⟨_,_,rfl,AG (mk:=.bool) (b0:=false) nms.length (λi V2=>V1.sub V2/\(B9 d (nms.take i)).flatMap f=[]) ⟨Mem.sub.refl _,rfl⟩ ?_⟩;rintro i b V2 J hi ⟨s2,h0⟩ hJ;have r:=ho.sub.trans s2;refine⟨λL=>?_,λhge=>?_⟩
 .obtain⟨n,hnm,hn,-,hil,hp,hz,hrow⟩:=(M.sub r).get L;have hix:0<=BP d n:=by
   unfold Ch at hN;split at hN;.rename_i ha;exact of_decide_eq_true (yK.1 ha n hnm)
   .cases hN
  obtain⟨v,hv,hvn,hvm⟩:=pick_at hix;have hil2:=(yg.1 hv).1;have X:=hd.sub r;have hdn:=X.invs.n_eq;obtain⟨y,-,hy,-,-,hp2,hz2,C⟩:=X.invs.get (i:=(BP d n).toNat) (by omega);rw[hv]at hy;cases hy;refine⟨hp,hz,L,n,hrow,(LX X).call ⟨_,rfl,?_⟩⟩;rw[show BP d n=(((BP d n).toNat:Nat):Int)by omega];refine⟨hp2,by omega,by omega,_,_,_,_,_,_,C,?_⟩;have N:∀{V3:Mem}{sl:Sl},V2.sub V3->Ae V3 sl 1 ((A9 d m v).map Aw)->∃(I:Nat->KZ)(n0:Nat),I n0 [uB b,uI 0] V3/\∀n D,∀(z:Bool)(w:Int),I n [uB z,uI w] D->∀J1:KZ,(∀m ys V'',m<n->I m ys V''->J1 ys V'')->
    Br (w<(sl.n:Int)) (¬sl.p=none/\0<=w/\w<(sl.n:Int)/\∃q,D.rowp sl.p (w.toNat*1) 1=some [uI q]/\
    TT 68 #[d.v,m.v,uI q] D λe V6=>∃ty,e=rV (uS ty)/\
    Br (ty=v.ty) (¬sl.p=none/\0<=w/\w<(sl.n:Int)/\∃q,V6.rowp sl.p (w.toNat*1) 1=some [uI q]/\
    TT 69 #[d.v,m.v,uS v.name,uI q] V6 λe V7=>∃ok z2,e=rT #[uB ok,uI z2]/\
    Br (ok=true) (IR (w+1)/\J1 [uB z,uI (w+1)] V7)
    (¬sl.p=none/\0<=w/\w<(sl.n:Int)/\∃q,V7.rowp sl.p (w.toNat*1) 1=some [uI q]/\R (rT #[uA #[uS v.name,uI q],uB true]) V7))
    (IR (w+1)/\J1 [uB z,uI (w+1)] V6)) (IR ((i:Int)+1)/\J [uB z,uI ((i:Int)+1)] D):=λ{V3 sl} s3 Z=>by
   refine AG (mk:=.bool) (b0:=b) (A9 d m v).length (λk D=>V3.sub D/\((A9 d m v).take k).filter (B8 d m v)=[]) ⟨Mem.sub.refl _,rfl⟩ ?_;rintro k z D J1 hk ⟨P,hb⟩ hJ1;have Y:=r.trans (s3.trans P);refine⟨λu=>?_,λhge2=>⟨(M.sub r).succ L,hJ hil _ _ ⟨s2.trans (s3.trans P),?_⟩⟩⟩
   .obtain⟨q,hqm,hq,-,hkl,hp3,hz3,Q⟩:=(Z.sub P).get u;have hr:=nodes_rng G hqm;have nxt:B8 d m v q=false->((A9 d m v).take (k+1)).filter (B8 d m v)=[]:=λh=>by
     rw[vq,hq,tB,hb];simp[h]
    refine⟨hp3,hz3,u,q,Q,(NQ G (hd.sub Y) (hm.sub Y) hr).call ⟨_,rfl,λU=>⟨hp3,hz3,u,q,Q,Tri.mono (QK (hd.sub Y) (hm.sub Y)) ?_⟩,λU=>⟨(Z.sub P).succ u,hJ1 hkl _ _ ⟨P,nxt ?_⟩⟩⟩⟩
    .have U:Dg d m q=v.ty:=U;rintro _ V7 ⟨s7,ok,e7,rfl,H⟩;have hij:BP d v.name=(((BP d n).toNat:Nat):Int):=by rw[hvn];omega
     obtain⟨rfl,-⟩:=H.eq (.val G hr _ v hij hv U);refine⟨_,_,rfl,λK=>⟨(Z.sub P).succ u,hJ1 hkl _ _ ⟨P.trans s7,nxt ?_⟩⟩,λK=>?_⟩
     .unfold B8;rw[show D3 d m v.x q=true from K];simp
     .obtain⟨q2,-,hq2,-,-,hp5,hz5,S⟩:=((Z.sub P).sub s7).get u;rw[hq]at hq2;cases hq2;refine⟨hp5,hz5,u,q,S,?_⟩;rw[hR,first_at hn hv (by rw[<-hf];exact h0) hq hb (by unfold B8;rw[decide_eq_true U,Bool.eq_false_iff.2 K];rfl)];exact⟨Y.trans s7,rfl⟩
    .unfold B8;rw[decide_eq_false U];rfl
   .rw[wm (Z.done hge2).2]at hb;rw[Mk hn hv,tA,h0,xG,hf];unfold BQ;dsimp only;rw[hb];rfl
  refine⟨λT b2 hb2=>?_,λT=>N (sl:=o) (Mem.sub.refl _) ?_⟩
  .have T:v.ty=sE:=T;refine N (sl:=⟨some ⟨b2,0,none⟩,1,1⟩) (Mem.sub_new hb2 _) ?_;unfold A9;rw[if_pos T];exact Ae.cells (xs:=[(0:Int)]) (row:=Aw) Av rfl (λ_=>rfl) rfl (by simp)
  .have T:¬v.ty=sE:=T;unfold A9;rw[if_neg T];exact hor.sub s2
 .rw[wm ((M.sub r).done hge).2]at h0;have:CA d m nms=none:=by
   unfold CA;rw[Il,<-hf,h0];rfl
  rw[hR,this];exact⟨r,rfl⟩
theorem Mo(N:Ds.Ok V d)(hm:Mm.Ok V m)(U:Ae V l 1 (args.map Aw))(Z:Ae V ns 1 (nms.map Bs)){F:Int}(hF:F<=3000∨1048576<F):
  Tri xV 10 #[d.v,m.v,.agg #[uS nm,l.v],ns.v,uI F] V (GrdP V d F.toNat m nm args nms (runE d m nm args nms F)):=by
 obtain⟨R,I⟩:∃R,R=GrdP V d F.toNat m nm args nms (runE d m nm args nms F):=⟨_,rfl⟩;rw[<-I];refine OI ?_;have bad:∀{k:Int}{V':Mem},runE d m nm args nms F=k->k≠0->V.sub V'->R (.returned (zeroG k)) V':=λh H hs=>by
  rw[I];exact .inl ⟨by rw[h];exact H,hs,by rw[h]⟩
 have D:=Mem.sub.refl V;refine(Mj N hm).call ⟨_,rfl,λq=>?_,λq=>⟨λh=>absurd h q,λ_=>bad (by unfold runE;rw[if_neg q]) q D⟩⟩;have q:BT d m F=0:=q;have hf:=Jb q;obtain⟨n,rfl⟩:∃n:Nat,F=(n:Int):=⟨F.toNat,by omega⟩;refine(Oe N Z).call ⟨_,rfl,λJ=>?_,λJ=>bad (by unfold runE;rw[if_pos q,if_neg J]) J D⟩;have J:Ch d nms=0:=J;have Y:runE d m nm args nms n=Cg d m nm args n:=by unfold runE;rw[if_pos q,if_pos J]
 refine Tri.mono (QN (F:=n) N hm U (by omega)) ?_;rintro e V1 (⟨H,s1,rfl⟩|⟨H,r,gs,u,ls,nd,K,L,rfl⟩);.exact⟨_,_,_,_,_,_,_,_,rfl,λh=>absurd h H,λ_=>bad Y H s1⟩
 have fin:∀{V2:Mem}{x:Option (KB×Int)},V1.sub V2->Cm d nms r ⟨gs,r.st.g,u,nd⟩=x->R (rT #[.agg (grdO r x).toArray,.agg #[gs.v,u.v],.agg (grdX x).toArray,uI 0]) V2:=λh e=>by
  rw[I,<-e];exact .inr ⟨Y.trans H,r,gs,u,ls,nd,K,L.grow h,rfl⟩
 refine⟨_,_,_,_,_,_,_,_,rfl,λ_=>⟨λQ=>?_,λQ=>fin (x:=none) (Mem.sub.refl _) (by unfold Cm;rw[if_neg Q])⟩,λh=>absurd rfl h⟩;have Q:outC r=0:=Q;obtain⟨G,M⟩:=I7 H;have w:=I8 (F:=n) G M;rw[show CX d n (BG d nm) args (AV m)=r from K.symm]at w;obtain⟨X,C⟩:=Hq N L w;refine Tri.mono (QS ⟨w.valid,w.chk,Gh ((St.plain r.st).trans C.symm) w.mem⟩ (N.sub L.sub) X (Z.sub L.sub) J) ?_;rintro _ V2 ⟨S,rfl⟩;have T:Cm d nms r ⟨gs,r.st.g,u,nd⟩=CA d ⟨gs,r.st.g,u,nd⟩ nms:=by unfold Cm;rw[if_pos Q]
 cases P:CA d ⟨gs,r.st.g,u,nd⟩ nms with
 |none=>exact⟨_,_,_,rfl,λh=>(by cases h),λ_=>fin (x:=none) S (T.trans P)⟩
 |some y=>exact⟨_,_,_,rfl,λ_=>fin (x:=some y) S (T.trans P),λh=>absurd rfl h⟩
end
theorem An.plain{d:Ds}{x y:Mm}(G:An d x)(h:x.plain=y.plain):An d y:=⟨G.valid,G.chk,Gh h G.mem⟩
section
variable{V:Mem}{d:Ds}{x y:Mm}
theorem QT(u:Ds.Ok V d)(G:An d x)(q:Mm.Ok V x)(H:Mm.Ok V y)(h:x.plain=y.plain):PP 33 [d.v,x.v,y.v] V (uB true):=by
 refine A6.mk (OX ?_);have w:=G.plain h;refine Tri.mono (Od G u q) ?_;rintro _ V1 ⟨k,a,rfl,J,N⟩;refine⟨_,_,rfl,Tri.mono (Od w (u.sub k) (H.sub k)) ?_⟩;rintro _ V2 ⟨r,b,rfl,Z,Y⟩;have e:a.plain=b.plain:=by rw[canP_of G.mem N,canP_of w.mem Y,canP_plain h]
 refine⟨_,_,rfl,(QI (J.sub r) Z).call ⟨_,rfl,?_⟩⟩;rw[decide_eq_true e];exact⟨rfl,k.trans r⟩
theorem QU(u:Ds.Ok V d)(G:An d x)(k:Mm.Ok V x)(w:Mm.Ok V y)(h:x.plain=y.plain):PP 12 [d.v,x.v,y.v] V (uB true):=by
 refine A6.mk (OK ?_);have r:=(BR G.mem).2.1;have q:=k.nodes.n_eq;refine⟨λ_=>(Ly u k).call ⟨_,rfl,λ_=>(QT u G k w h).call ⟨_,rfl,rfl,Mem.sub.refl _⟩,λhv=>absurd G.mem hv⟩,λhc=>absurd (by omega) hc⟩
end
end Go.Proofs
namespace Go.Proofs
open Go Go.Sx
def Nb{α:Type}(r:Rx α):Prop:=∀c s,r=.bad c s->c<=21
section
variable{α β:Type}{d:Ds}{F:Nat}{s:St}
theorem Nb.ok{v:α}:Nb (.ok v s):=λ_ _ e=>by cases e
theorem Nb.bad{c:Int}(h:c<=21):Nb (.bad c s:Rx α):=λ_ _ e=>by cases e;exact h
theorem Nb.bind{r:Rx α}{f:α->St->Rx β}(h:Nb r)(k:∀v s,Nb (f v s)):Nb (r.bind f):=by
 cases r with
 |ok v s=>exact k v s
 |bad c s=>exact .bad (h _ _ rfl)
theorem nb_lift{r:Rs}(h:∀c,r=.bad c->c<=21):Nb (CV r s):=by
 cases r with
 |ok v=>exact .ok
 |bad c=>exact .bad (h c rfl)
theorem nb_big{n:Int}:Nb (CV (AR n) s):=nb_lift λc h=>by unfold AR at h;grind
theorem nb_two{op v w:Int}:Nb (CV (AC op v w) s):=nb_lift λc h=>by
 unfold AC AR at h
 repeat' split at h
 all_goals first|cases h;done|(cases h;decide)
theorem nb_kid{ks:List (St->Rx Int)}(h:∀f∈ks,∀s,Nb (f s))(i:Nat)(s:St):Nb (BC ks i s):=by
 unfold BC;rw[List.getD_eq_getElem?_getD];cases k:ks[i]? with
 |none=>exact .bad (by decide)
 |some f=>exact h f (xw k) s
theorem nb_seq:∀{ks:List (St->Rx Int)}(_:∀f∈ks,∀s,Nb (f s))(acc:XZ)(s:St),Nb (CW ks acc s)
 |[],_,acc,s=>.ok
 |f::fs,h,acc,s=>(h f yI s).bind λv s=>nb_seq (λg k=>h g (yJ _ k)) _ _
theorem nb_comb{C:Cf}(Q:∀i l s,Nb (C i l s)){p:Pr}{vals:XZ}{b:Bool}{op n:Int}{nm:KB}{ks:List (St->Rx Int)}(r:∀f∈ks,∀s,Nb (f s)):Nb (C7 d C p vals b op n nm ks s):=by
 have k:=λi s=>nb_kid r i s;have var:∀s,Nb (varX d p vals nm s):=λs=>by unfold varX;split<;>exact .ok
 have fld:∀a s,Nb (fldX d a nm s):=λa s=>by
  unfold fldX;split;.exact .bad (by decide)
  .split;.exact .bad (by decide)
   .exact .ok
 have new:∀s,Nb (newX d nm s):=λs=>by
  unfold newX;split;.exact .bad (by decide)
  .exact .ok
 have ite:∀(a:Int)(x y:Rx Int),Nb x->Nb y->Nb (if a=0 then x else y):=λa x y P I=>by
  split<;>assumption
 unfold C7;by_cases q:op=1∨op=2;.rw[if_pos q];exact .ok
 rw[if_neg q];by_cases H:op=3;.rw[if_pos H];exact .ok
 rw[if_neg H];by_cases J:op=4;.rw[if_pos J];exact var _
 rw[if_neg J];by_cases G:op=5;.rw[if_pos G];exact(k _ _).bind λ_ _=>fld _ _
 rw[if_neg G];by_cases N:op=6;.rw[if_pos N];exact new _
 rw[if_neg N];by_cases Z:op=7;.rw[if_pos Z];exact(nb_seq r _ _).bind λ_ _=>Q _ _ _
 rw[if_neg Z];by_cases h6:op=8;.rw[if_pos h6];exact(k _ _).bind λ_ _=>nb_big
 rw[if_neg h6];by_cases h7:op=18;.rw[if_pos h7];exact(k _ _).bind λ_ _=>.ok
 rw[if_neg h7];by_cases h8:op=24;.rw[if_pos h8];exact(k _ _).bind λ_ _=>.ok
 rw[if_neg h8];by_cases Y:op=19;.rw[if_pos Y];exact(k _ _).bind λ_ _=>ite _ _ _ .ok (k _ _)
 rw[if_neg Y];by_cases u:op=20;.rw[if_pos u];exact(k _ _).bind λ_ _=>ite _ _ _ (k _ _) .ok
 rw[if_neg u];by_cases w:op=21;.rw[if_pos w];exact(k _ _).bind λ_ _=>ite _ _ _ (k _ _) (k _ _)
 rw[if_neg w];exact(k _ _).bind λ_ _=>(k _ _).bind λ_ _=>nb_two
theorem nb_ev{C:Cf}(k:∀i l s,Nb (C i l s)){p:Pr}{vals:XZ}(e:E):∀s,Nb (Dt d C p vals e s):=by
 induction e using E.ind with
 |h e u=>
 intro s;rw[Ia];refine nb_comb k λf w=>?_;obtain⟨x,r,rfl⟩:=vk.1 w;exact u x r
theorem nb_tick:Nb (Eh F s):=by
 unfold Eh;split;.exact .bad (by decide)
 .exact .ok
theorem nb_list{f:S->XZ->St->Rx Rt}(k:∀x v s,Nb (f x v s)):∀(l:XK)(v:XZ)(s:St),Nb (D5 f l v s)
 |[],v,s=>.ok
 |x::l,v,s=>(k x v s).bind λr s=>by
  split;.exact .ok
  .exact nb_list k l _ s
section
variable{Sn:Sf}(hS:∀c p l v s,Nb (Sn c p l v s))
include hS
theorem nb_call{c:Nat}{i:Int}{l:XZ}:Nb (Ck d Sn c i l s):=by
 unfold Ck;split;.exact .bad (by decide)
 .split;.exact .bad (by decide)
  .exact(hS _ _ _ _ _).bind λ_ _=>.ok
theorem nb_evS{c:Nat}{p:Pr}{vals:XZ}{e:E}:Nb (CH d Sn c p vals e s):=nb_ev (λ_ _ _=>nb_call hS) e s
theorem nb_wh{c:Nat}{p:Pr}{e:E}{l:XK}:∀(n:Nat)(v:XZ)(s:St),Nb (Ei d F Sn c p e l n v s)
 |0,v,s=>.bad (by decide)
 |n+1,v,s=>(nb_evS hS).bind λa s=>by
  split;.exact .ok
  .refine(hS _ _ _ _ _).bind λr s=>?_;split;.exact .ok
   .exact nb_tick.bind λ_ s=>nb_wh n _ s
theorem nb_st{c n:Nat}{p:Pr}{x:S}{v:XZ}{s:St}:Nb (Dx d F Sn c p n x v s):=by
 have ev:∀{e:E}{s:St},Nb (CH d Sn c p v e s):=nb_evS hS;unfold Dx Fj;refine nb_tick.bind λ_ s=>?_;split
 .refine ev.bind λa s=>?_;unfold setX;split<;>exact .ok
 split
 .refine ev.bind λa s=>ev.bind λv s=>Nb.bind ?_ λ_ s=>.ok;unfold putX;split;.exact .bad (by decide)
  .split;.exact .bad (by decide)
   .exact .ok
 split
 .refine ev.bind λa s=>?_;split<;>exact hS _ _ _ _ _
 split;.exact nb_wh hS _ _ _
 split
 .split;.exact .ok
  .exact ev.bind λ_ _=>.ok
 split;.exact ev.bind λ_ _=>.ok
 .exact .ok
end
theorem nb_sts:∀(n c:Nat)(p:Pr)(l:XK)(v:XZ)(s:St),Nb (AU d F n c p l v s)
 |0,_,_,_,_,_=>.bad (by decide)
 |n+1,c,p,l,v,s=>nb_list (λx v s=>nb_st (nb_sts n)) l v s
theorem no22{i:Int}{l:XZ}:outC (CX d F i l s)≠22:=by
 have h:Nb (CX d F i l s):=nb_call (nb_sts _);cases k:CX d F i l s with
 |ok v s=>show(0:Int)≠22;decide
 |bad c s=>have:=h c s k;show c≠22;omega
end
attribute [local irreducible] Go.Sx.Tri
section
variable{V:Mem}{d:Ds}{m:Mm}{nm:KB}{args:XZ}{l ns:Sl}{nms:XN}
theorem largeF(u:Ds.Ok V d)(hm:Mm.Ok V m){F:Int}:Tri xV 6 #[d.v,m.v,uI F] V λe V'=>V=V'/\∃b:Bool,e=EQ b/\(b=false->F<=3000∨1048576<F):=by
 refine x6 ?_;unfold w6;refine Tri.mono (greatC u) ?_;rintro _ _ ⟨rfl,b,rfl⟩;refine⟨_,rfl,λ_=>⟨rfl,_,rfl,λh=>by cases h⟩,λ_=>Tri.mono (manyC hm) ?_⟩;rintro _ _ ⟨rfl,b,rfl⟩;exact⟨_,rfl,λ_=>⟨rfl,_,rfl,λh=>by cases h⟩,λ_=>⟨λk=>⟨rfl,_,rfl,λh=>.inr (by have:=of_decide_eq_false h;omega)⟩,λk=>⟨rfl,_,rfl,λ_=>.inl (by have k:¬(3000:Int)<F:=k;omega)⟩⟩⟩
theorem manyF(h:Ae V ns 1 (nms.map Bs)):Tri xV 8 #[ns.v] V λe V'=>V=V'/\∃b:Bool,e=EQ b/\(b=false->nms.length<=30):=by
 refine x8 ?_;have u:=h.n_eq;refine⟨λ_=>⟨rfl,_,rfl,λh=>by cases h⟩,λk=>(Nj (first:=[]) (caps:=[]) h Tryz.call24 (λs=>decide (100<(s.size:Int))) (λs _=>?_)).call ⟨_,rfl,rfl,_,rfl,λ_=>by have k:¬(30:Int)<(ns.n:Int):=k;omega⟩⟩;refine OQ ?_;exact⟨rfl,rfl⟩
end
section
variable{V:Mem}{d:Ds}{m x y:Mm}{nm:KB}{args:XZ}{l ns:Sl}{nms:XN}
theorem QV{s:Sl}{k:XZ}(h:Ae V s 1 (k.map Aw)){x:Int}:PP 34 [s.v,uI x] V (uI (B1 (λy=>decide (x=y)) k)):=by
 refine OY ?_;refine AG (mk:=.int .i64) (b0:=0) k.length (λj V1=>V=V1/\AQ (λy:Int=>!decide (x=y)) k j) ⟨rfl,AQ.zero _ _⟩ ?_;rintro j b V1 J I ⟨rfl,H⟩ N;refine⟨λu=>?_,λr=>?_⟩
 .obtain⟨y,Z,Y,-,q,Q,P,w⟩:=h.get u;refine⟨Q,P,u,_,w,λG=>?_,λG=>⟨h.succ u,N q _ _ ⟨rfl,E9 H Y (decide_eq_false G)⟩⟩⟩;grind[E7,decide_eq_true]
 .rw[E8 H (h.done r).2];simp_all
theorem c11{a b:Sl}:PP 11 [.agg #[a.v,b.v]] V (uB (decide (a.n=0)&&decide (b.n=0))):=by
 refine OJ ?_;refine⟨λh=>⟨?_,rfl⟩,λh=>⟨?_,rfl⟩⟩
 .have h:(a.n:Int)=0:=h;rw[decide_eq_true (show a.n=0 by omega),Bool.true_and];show xY (.bool (decide ((b.n:Int)=0)))=_;simp
 .have h:¬(a.n:Int)=0:=h;rw[decide_eq_false (show ¬a.n=0 by omega)];rfl
def Jd(d:Ds)(m:Mm)(x:Int):Int:=if x=0 then 0 else if 0<=B1 (λy=>decide (x=y)) (BN d m).order then B1 (λy=>decide (x=y)) (BN d m).order+1 else -1
theorem Of(G:An d m)(w:Ds.Ok V d)(hm:Mm.Ok V m){x:Int}:PP 13 [d.v,m.v,uI x] V (uI (Jd d m x)):=by
 refine A6.mk (OL ?_);unfold Jd;refine⟨λh=>?_,λh=>Tri.mono (Mn G.mem w hm) ?_⟩;.rw[if_pos h];exact⟨rfl,Mem.sub.refl _⟩
 .rw[if_neg h];rintro _ V1 ⟨o,rfl,u⟩;have k:=u.rows (λ_=>rfl) (by decide);refine⟨_,_,rfl,(QV k).call ⟨_,rfl,λh=>⟨?_,?_⟩,λh=>?_⟩⟩
  .have hc:=k.cap;have r:=k.n_eq;rcases Cv (λy=>decide (x=y)) (BN d m).order with⟨e,-⟩|⟨j,_,e,e2,-⟩;.rw[e];exact⟨by omega,by omega⟩
   .have:=(yg.1 e2).1;have:=(Jc G.mem).cap;have:=(BR G.mem).2.1;rw[e];exact⟨by omega,by omega⟩
  .rw[if_pos h];exact⟨rfl,u.sub⟩
  .rw[if_neg h];exact⟨rfl,u.sub⟩
theorem whr_plain(h:x.plain=y.plain){z:Int}:Jd d x z=Jd d y z:=by
 unfold Jd;rw[Ml h]
theorem tailG{R:RP}(k:Ds.Ok V d)(G:An d x)(w:Mm.Ok V x)(r:Mm.Ok V y)(h:x.plain=y.plain){z:Int}(q:0<=z)(H:R (EQ true) V):
  TT 12 #[d.v,x.v,y.v] V λe u=>∃a,e=rV (uB a)/\Br (a=true) (Br (0<=z) (TT 13 #[d.v,x.v,uI z] u λe J=>∃b,e=rV (uI b)/\TT 13 #[d.v,y.v,uI z] J λe N=>∃c,e=rV (uI c)/\R (rV (uB (decide (b=c)))) N) (R KQ u)) (R KQ u):=by
 refine(QU k G w r h).call ⟨_,rfl,λ_=>⟨λ_=>(Of G k w).call ⟨_,rfl,(Of (G.plain h) k r).call ⟨_,rfl,?_⟩⟩,λh=>absurd q h⟩,λh=>absurd rfl h⟩;rw[decide_eq_true (whr_plain h)];exact H
theorem vioNode(G:An d x):0<=((CA d x nms).getD (sE,0)).2:=by
 unfold CA;rw[Il];cases h:((B9 d nms).flatMap λv=>BQ d x v (A9 d x v))with
 |nil=>exact Int.le_refl _
 |cons y k=>
  obtain⟨v,-,-,u,-⟩:=all_mem (y:=y) (by rw[h];exact yI);exact(nodes_rng G u).1
end
end Go.Proofs
namespace Go.Proofs
open Go Go.Sx
def A3:KB:=Ab [76]
def Ci:KB:=Ab [107]
def Fm:KB:=Ab [110,101,120,116]
def DR:KB:=Ab [104,101,97,100]
def Bm:KB:=Ab [112,117,115,104]
def CB:KB:=Ab [120]
def ET:KB:=Ab [108,101,110,103,116,104]
def Bp:KB:=Ab [115,111,114,116,101,100]
def exList:KB:=Ab [108,105,115,116]
def Je(es:XY):Prop:=es=[]
def GU(P:E->Prop)(es:XY):Prop:=∃a,P a/\es=[a]
def EC(P Q:E->Prop)(es:XY):Prop:=∃a b,P a/\Q b/\es=[a,b]
def nE(op n:Int)(s:KB)(Q:XY->Prop)(e:E):Prop:=∃l es,Q es/\e=.mk op n s l es
def nS(op:Int)(s:KB)(Q:XY->Prop)(x:S):Prop:=∃l es,Q es/\x=.mk op s l es Ah [] Ah []
def xN(s:KB):E->Prop:=nE 4 0 s Je
def xF(P:E->Prop)(s:KB):E->Prop:=nE 5 0 s (GU P)
def xThis:E->Prop:=xN C3
def FN:E->Prop:=xF xThis Fm
def xOne:E->Prop:=nE 1 1 sE Je
def xNil:E->Prop:=nE 3 0 sE Je
def xCall:E->Prop:=nE 7 0 ET (GU FN)
def xPlus:E->Prop:=nE 9 0 sE (EC xOne xCall)
def Mp:E->Prop:=nE 14 0 sE (EC FN xNil)
def xLess:E->Prop:=nE 17 0 sE (EC (xF xThis Ci) (xF FN Ci))
def xSort:E->Prop:=nE 20 0 sE (EC Mp xLess)
def xNew:E->Prop:=nE 6 0 A3 Je
def Og:S->Prop:=nS 1 CB (GU xNew)
def Oh:S->Prop:=nS 2 Ci (EC (xN CB) (xN Ci))
def Oi:S->Prop:=nS 2 Fm (EC (xN CB) (xN DR))
def Oj:S->Prop:=nS 1 DR (GU (xN CB))
def xBody(l:XK):Prop:=∃a b c d,Og a/\Oh b/\Oi c/\Oj d/\l=[a,b,c,d]
def xTF:XX:=[⟨Ci,Ak⟩,⟨Fm,A3⟩]
def Mq(p:Pr):Prop:=∃ps ls bs l,xBody l/\p=⟨Bm,ps,[⟨Ci,Ak⟩],sE,ls,[⟨CB,A3⟩],bs,l⟩
def IsEx(d:Ds):Prop:=∃ts fs gs ps p ms m is v,Mq p/\xPlus m/\xSort v/\d=⟨exList,ts,[⟨A3,fs,xTF⟩],gs,[⟨DR,A3⟩],ps,[p],ms,[⟨ET,A3,0,m⟩],is,[⟨Bp,A3,v⟩],Ah,[],Ah,[]⟩
def AI(σ:Nat->Sl):Ds:=
  have this:E:=.mk 4 0 C3 (σ 0) [];have k:Nat->E:=λi=>.mk 5 0 Fm (σ i) [.mk 4 0 C3 (σ (i+1)) []]
  ⟨exList,σ 1,[⟨A3,σ 2,xTF⟩],σ 3,[⟨DR,A3⟩],σ 4,[⟨Bm,σ 5,[⟨Ci,Ak⟩],sE,σ 6,[⟨CB,A3⟩],σ 7,
    [.mk 1 CB (σ 8) [.mk 6 0 A3 (σ 9) []] Ah [] Ah [],.mk 2 Ci (σ 10) [.mk 4 0 CB (σ 11) [],.mk 4 0 Ci (σ 12) []] Ah [] Ah [],
     .mk 2 Fm (σ 13) [.mk 4 0 CB (σ 14) [],.mk 4 0 DR (σ 15) []] Ah [] Ah [],.mk 1 DR (σ 16) [.mk 4 0 CB (σ 17) []] Ah [] Ah []]⟩],
    σ 18,[⟨ET,A3,0,.mk 9 0 sE (σ 19) [.mk 1 1 sE (σ 20) [],.mk 7 0 ET (σ 21) [k 22]]⟩],
    σ 24,[⟨Bp,A3,.mk 20 0 sE (σ 25) [.mk 14 0 sE (σ 26) [k 27,.mk 3 0 sE (σ 29) []],.mk 17 0 sE (σ 30) [.mk 5 0 Ci (σ 31) [this],.mk 5 0 Ci (σ 32) [k 33]]]⟩],Ah,[],Ah,[]⟩
theorem ex_form{d:Ds}(h:IsEx d):∃σ,d=AI σ:=by
 obtain⟨ts,fs,gs,ps,p,ms,m,is,v,⟨U,a6,a7,l,⟨x0,x1,x2,x3,⟨a8,_,⟨_,⟨a9,_,rfl,rfl⟩,rfl⟩,rfl⟩,⟨k,_,⟨_,_,⟨u,_,rfl,rfl⟩,⟨w,_,rfl,rfl⟩,rfl⟩,rfl⟩,⟨r,_,⟨_,_,⟨q,_,rfl,rfl⟩,⟨H,_,rfl,rfl⟩,rfl⟩,rfl⟩,⟨J,_,⟨_,⟨G,_,rfl,rfl⟩,rfl⟩,rfl⟩,rfl⟩,rfl⟩,h1,h2,rfl⟩:=h;obtain⟨N,_,⟨_,_,⟨Z,_,rfl,rfl⟩,⟨Y,_,⟨_,⟨Q,_,⟨_,⟨P,_,rfl,rfl⟩,rfl⟩,rfl⟩,rfl⟩,rfl⟩,rfl⟩,rfl⟩:=h1;obtain⟨I,_,⟨_,_,⟨M,_,⟨_,_,⟨L,_,⟨_,⟨R,_,rfl,rfl⟩,rfl⟩,rfl⟩,⟨X,_,rfl,rfl⟩,rfl⟩,rfl⟩,⟨C,_,⟨_,_,⟨D,_,⟨_,⟨a0,_,rfl,rfl⟩,rfl⟩,rfl⟩,⟨K,_,⟨_,⟨S,_,⟨_,⟨T,_,rfl,rfl⟩,rfl⟩,rfl⟩,rfl⟩,rfl⟩,rfl⟩,rfl⟩,rfl⟩,rfl⟩:=h2;exact⟨λi=>[a0,ts,fs,gs,ps,U,a6,a7,a8,a9,k,u,w,r,q,H,J,G,ms,N,Z,Y,Q,P,is,I,M,L,R,X,C,D,K,S,T].getD i Ah,rfl⟩
def Dz(i:Nat):St:=if i=0 then⟨[0],[],0,0,[]⟩else if i=1 then⟨[1],[(0,[3,0])],0,0,[]⟩else⟨[2],[(0,[3,0]),(0,[5,1])],0,0,[]⟩
def Io(i:Nat):XZ:=if i=0 then[3]else[5]
section
variable{σ:Nat->Sl}
theorem Mr:A8 (AI σ)=true:=by kernel_rfl
theorem ex_chk:B0 (AI σ)=none:=by kernel_rfl
theorem ex_names:Ch (AI σ) [Bp]=0:=by kernel_rfl
theorem ex_c0:A1 (AI σ) (Dz 0).mm Bm (Io 0)=0:=by kernel_rfl
theorem ex_c1:A1 (AI σ) (Dz 1).mm Bm (Io 1)=0:=by kernel_rfl
theorem ex_r0:(λr:Rx Int=>(outC r,r.st.g,r.st.ns)) (CX (AI σ) 50 (BG (AI σ) Bm) (Io 0) (Dz 0))=(0,(Dz 1).g,(Dz 1).ns):=by kernel_rfl
theorem ex_r1:(λr:Rx Int=>(outC r,r.st.g,r.st.ns)) (CX (AI σ) 50 (BG (AI σ) Bm) (Io 1) (Dz 1))=(0,(Dz 2).g,(Dz 2).ns):=by kernel_rfl
def DS(σ:Nat->Sl):Iv:=(AI σ).invs.getD 0 ⟨sE,sE,Ge⟩
theorem ex_pick:B9 (AI σ) [Bp]=[DS σ]:=by kernel_rfl
theorem ex_all{m:Mm}:allP (B5 (AI σ) Ah (B9 (AI σ) [Bp])) m=BQ (AI σ) m (DS σ) (A9 (AI σ) m (DS σ)):=by
 rw[Il,ex_pick];show _++[]=_;rw[vn]
def exM1(a b s:Sl):Mm:=⟨a,[1],b,[⟨0,s,[3,0]⟩]⟩
def exM2(a b s t:Sl):Mm:=⟨a,[2],b,[⟨0,s,[3,0]⟩,⟨0,t,[5,1]⟩]⟩
section
variable{a b s t:Sl}
theorem ex_n1:A9 (AI σ) (exM1 a b s) (DS σ)=[1]:=by kernel_rfl
theorem ex_n2:A9 (AI σ) (exM2 a b s t) (DS σ)=[2,1]:=by kernel_rfl
theorem ex_b1:B8 (AI σ) (exM1 a b s) (DS σ) 1=false:=by
 unfold B8;rw[Kj (rs:=.ok 1) ⟨5,by kernel_rfl⟩];simp
theorem ex_b2:B8 (AI σ) (exM2 a b s t) (DS σ) 2=true:=by
 unfold B8;rw[Kj (rs:=.ok 0) ⟨5,by kernel_rfl⟩,show Dg (AI σ) (exM2 a b s t) 2=(DS σ).ty by kernel_rfl];simp
theorem ex_v1:CA (AI σ) (exM1 a b s) [Bp]=none:=by
 unfold CA;rw[ex_all,ex_n1];unfold BQ;rw[yM,ex_b1];rfl
theorem ex_v2:CA (AI σ) (exM2 a b s t) [Bp]=some (Bp,2):=by
 unfold CA;rw[ex_all,ex_n2];unfold BQ;rw[yM,ex_b2];rfl
end
end
attribute [local irreducible] Go.Sx.Tri
section
variable(d:Ds)(F:Nat)(nms:XN)
noncomputable def D6(c:Be)(s:St):Option (KB×Int):=Cm d nms (CP d F c s) (CP d F c s).st.mm
def grdQ(r:Rx Int):Option (KB×Int)->O4|none=>outO r|some _=>(22,0,r.st.cm,AZ r.st.lg)
noncomputable def FO(c:Be)(s:St):O4:=grdQ (CP d F c s) (D6 d F nms c s)
noncomputable def Cr:St->List Be->Int×List O4×St×Option (KB×Int)
 |s,[]=>(0,[],s,none)
 |s,c::cs=>if A1 d s.mm c.name c.args=0 then
   (if(D6 d F nms c s).isSome=true then(0,[FO d F nms c s],CN (CP d F c s).st,D6 d F nms c s)
   else((Cr (CN (CP d F c s).st) cs).1,FO d F nms c s::(Cr (CN (CP d F c s).st) cs).2.1,(Cr (CN (CP d F c s).st) cs).2.2))
  else(A1 d s.mm c.name c.args,[],s,none)
end
section
variable{V W V':Mem}{d:Ds}{F:Nat}{m:Mm}{l ns o:Sl}{nms:XN}{cs:List Be}
theorem AK.butO{gs n ls:Sl}{nd:XH}{s:St}(L:AK V V' gs n ls nd s){e:TypeId}{sz:Nat}{vs:XV}(w:Sx.Own W V e sz o vs):AK (V.but o) (V'.but o) gs n ls nd s:=by
 have hs:(V.but o).sub (V'.but o):=λc x h=>by
  have:=L.sub _ _ (Mem.but_sub V o _ _ h);unfold Mem.but at h⊢;split at h;.cases h
  .rename_i hc;rw[if_neg hc];exact this
 have k:∀{e sz s vs},Sx.Own V V' e sz s vs->Sx.Own (V.but o) (V'.but o) e sz s vs:=λ{e sz s vs} h=>Own.moveB (h.narrow (Mem.but_sub _ _)) hs λg r q H=>Mem.but_at H λJ=>by
  obtain⟨_,u⟩:=Own.some w J;rw[Own.none0 h q]at u;cases u
 exact⟨k L.glob,k L.nodes,k L.log,λn G=>k (L.fld n G),L.eq,L.gf,L.ff⟩
theorem Own.growE{e:TypeId}{sz:Nat}{vs:XV}(h:Sx.Own W V e sz o vs)(hs:V.sub V'):Sx.Own W V' e sz o vs:=Own.moveB h (h.sub.trans hs) λ_ _ _ k=>hs _ _ k
structure GV (d:Ds)(F:Nat)(nms:XN)(s0:St)(cs:List Be)(j:Nat)(outs:List O4)(s:St):Prop where
 eq:Cr d F nms s0 cs=((Cr d F nms s (cs.drop j)).1,outs++(Cr d F nms s (cs.drop j)).2.1,(Cr d F nms s (cs.drop j)).2.2)
 len:outs.length=j
 rs:s=CN s
 good:An d s.mm
section
variable{s0 s:St}{j:Nat}{outs:List O4}{c:Be}
theorem GV.start(h:s=CN s)(G:An d s.mm):GV d F nms s cs 0 [] s:=⟨rfl,rfl,h,G⟩
variable(h:GV d F nms s0 cs j outs s)(hc:cs.drop j=c::cs.drop (j+1))
include h hc
theorem GV.stop(k:A1 d s.mm c.name c.args≠0):(Cr d F nms s0 cs).1=A1 d s.mm c.name c.args:=by
 rw[h.eq,hc,Cr,if_neg k]
theorem GV.hit(k:A1 d s.mm c.name c.args=0){x:KB×Int}(u:D6 d F nms c s=some x):Cr d F nms s0 cs=(0,outs++[FO d F nms c s],CN (CP d F c s).st,some x):=by
 rw[h.eq,hc,Cr,if_pos k,u];rfl
theorem GV.next(u:A1 d s.mm c.name c.args=0)(w:D6 d F nms c s=none)(k:An d (CP d F c s).st.mm):GV d F nms s0 cs (j+1) (outs++[FO d F nms c s]) (CN (CP d F c s).st):=by
 refine⟨?_,by rw[zK,h.len];rfl,rfl,⟨k.valid,k.chk,k.mem⟩⟩;rw[h.eq,hc,Cr,if_pos u,w];simp
end
noncomputable def gscE(d:Ds)(F:Int)(m:Mm)(nms:XN)(cs:List Be):Int:=if BT d m F=0 then(if 2000<cs.length then 4 else if Ch d nms=0 then(Cr d F.toNat nms (AV m) cs).1 else Ch d nms)else BT d m F
def GscP(V:Mem)(d:Ds)(F:Int)(m:Mm)(nms:XN)(cs:List Be):RP:=λe V'=>V.sub V'/\
 ((gscE d F m nms cs≠0/\e=rT #[Ah.v,.agg #[Ah.v,Ah.v],.agg #[uS sE,uI 0],uI (gscE d F m nms cs)])∨
 (gscE d F m nms cs=0/\∃(o a b:Sl)(nd:XH)(t:Int×List O4×St×Option (KB×Int)),t=Cr d F.toNat nms (AV m) cs/\Ae V' o 5 (t.2.1.map oRow)/\Mm.Ok V' ⟨a,t.2.2.1.g,b,nd⟩/\nd.map (λn=>(n.ty,n.f))=t.2.2.1.ns/\An d t.2.2.1.mm/\e=rT #[o.v,.agg #[a.v,b.v],.agg (grdX t.2.2.2).toArray,uI 0]))
def GFin(V k:Mem)(d:Ds)(F:Nat)(nms:XN)(s0:St)(cs:List Be)(a b o:Sl)(nd:XH)(y:Option (KB×Int)):Prop:=
 V.sub k/\∃t,t=Cr d F nms s0 cs/\t.1=0/\t.2.2.2=y/\Ae k o 5 (t.2.1.map oRow)/\Mm.Ok k ⟨a,t.2.2.1.g,b,nd⟩/\nd.map (λn=>(n.ty,n.f))=t.2.2.1.ns/\An d t.2.2.1.mm
theorem GFin.fin{V1 k:Mem}{F:Nat}{a b:Sl}{nd:XH}{y:Option (KB×Int)}(h:GFin V1 k d F nms (AV m) cs a b o nd y)(hs:V.sub V1)(w:gscE d F m nms cs=(Cr d F nms (AV m) cs).1):GscP V d F m nms cs (rT #[o.v,.agg #[a.v,b.v],.agg (grdX y).toArray,uI 0]) k:=by
 obtain⟨r,t,u,q,H,J,h6,h7,h8⟩:=h;exact⟨hs.trans r,.inr ⟨by rw[w,<-u,q],o,a,b,nd,t,u,J,h6,h7,h8,by rw[H]⟩⟩
structure ED (V:Mem)(d:Ds)(F:Nat)(nms:XN)(s0:St)(cs:List Be)(V1:Mem)(j:Nat)(a b o:Sl)(s:St)(nd:XH):Prop where
 ex:∃W outs,V.sub W/\Sx.Own W V1 46 5 o (outs.flatMap oRow)/\Mm.Ok W ⟨a,s.g,b,nd⟩/\GV d F nms s0 cs j outs s
 eq:nd.map (λn=>(n.ty,n.f))=s.ns
section
variable{s0 s:St}{V1 V2:Mem}{j:Nat}{a b:Sl}{nd:XH}{c:Be}
theorem ED.sub(S:ED V d F nms s0 cs V1 j a b o s nd):V.sub V1/\Mm.Ok V1 ⟨a,s.g,b,nd⟩:=by
 obtain⟨W,outs,u,k,w,-⟩:=S.ex;exact⟨u.trans k.sub,w.sub k.sub⟩
theorem ED.step(S:ED V d F nms s0 cs V1 j a b o s nd)(hd:Ds.Ok V d)(hc:cs.drop j=c::cs.drop (j+1))(hj:j<=2000){r:Rx Int}(k:r=CX d F (BG d c.name) c.args (AV ⟨a,s.g,b,nd⟩))(P:A1 d ⟨a,s.g,b,nd⟩ c.name c.args=0)
  {gs n ls:Sl} {nd2:XH} (L:AK V1 V2 gs n ls nd2 r.st):
  ∃x,Cm d nms r ⟨gs,r.st.g,n,nd2⟩=x/\
  ∀{J ty:Nat}{p q:Operand}{vals:Operand->Value}{Q:Value->Mem->Prop},V2 J=none->vals p=uL o->vals q=.slice (sa J) 1 1->
   (∀H G,(x=none->ED V d F nms s0 cs G (j+1) gs n H (CN r.st) nd2)->(∀y,x=some y->GFin V G d F nms s0 cs gs n H nd2 (some y))->Q (uL H) G)->
   GenK xV (.call {callee:=.builtin .append,args:=#[p,q],argTypes:=#[59,59]}) ty vals (V2.set J (.cells (oRow (grdQ r x)).toArray 46 (0,0))) Q:=by
 obtain⟨W,outs,K,I,hm,A⟩:=S.ex;have T:(⟨a,s.g,b,nd⟩:Mm).plain=s.mm.plain:=Hs S.eq;have Gm:An d ⟨a,s.g,b,nd⟩:=⟨A.good.valid,A.good.chk,Gh T.symm A.good.mem⟩;have N:An d r.st.mm:=by rw[k];exact I8 (F:=F) Gm P
 rw[KE T]at P;rw[st_eta A.rs S.eq]at k;have k:r=CP d F c s:=k;obtain⟨Z,M⟩:=Hq ((hd.sub K).sub I.sub_but) (L.butO I) N;have hx:Cm d nms r ⟨gs,r.st.g,n,nd2⟩=D6 d F nms c s:=by
  unfold D6 Cm;rw[<-k,KI (M.trans (St.plain r.st).symm)]
 refine⟨_,rfl,λ{J ty p q vals Q} R X C U=>?_⟩;rw[hx]at U⊢;have hq:grdQ r (D6 d F nms c s)=FO d F nms c s:=by unfold FO;rw[k]
 rw[hq];have Y:=Own.growE I L.sub;have hs:V.sub (V2.but o):=K.trans Y.sub_but;refine app59 (s:=o) (u:=⟨some ⟨J,0,none⟩,1,1⟩) (xs:=outs) (ys:=[FO d F nms c s]) X C (Y.but.new R (.cells (oRow (FO d F nms c s)).toArray 46 (0,0))) (one_out (FO d F nms c s) Av) (by have:=A.len;simp;omega) λH G w=>U H G (λD=>?_) λy D=>?_
 .have A':=A.next hc P D (by rw[<-k];exact N);rw[<-k]at A';exact⟨⟨V2.but o,_,hs,w,Z,A'⟩,L.eq⟩
 .have e:=A.hit hc P D;rw[<-k]at e;exact⟨hs.trans w.sub,_,e.symm,rfl,rfl,w.rows (λ_=>rfl) (by decide),Z.sub w.sub,L.eq,⟨N.valid,N.chk,N.mem⟩⟩
theorem ED.given(S:ED V d F nms s0 cs V1 j a b o s nd)(k:F<=4000):BT d ⟨a,s.g,b,nd⟩ F=0:=by
 obtain⟨W,outs,u,w,hm,A⟩:=S.ex;have Gm:An d ⟨a,s.g,b,nd⟩:=⟨A.good.valid,A.good.chk,Gh (Hs S.eq).symm A.good.mem⟩;grind[BT]
theorem ED.stop(S:ED V d F nms s0 cs V1 j a b o s nd)(hc:cs.drop j=c::cs.drop (j+1))(u:F<=4000)(k:Cg d ⟨a,s.g,b,nd⟩ c.name c.args F≠0):(Cr d F nms s0 cs).1=Cg d ⟨a,s.g,b,nd⟩ c.name c.args F:=by
 unfold Cg at k⊢;rw[if_pos (S.given u),KE (Hs S.eq)]at k⊢;obtain⟨W,outs,w,r,hm,A⟩:=S.ex;exact A.stop hc k
theorem ED.done(S:ED V d F nms s0 cs V1 j a b o s nd)(u:cs.length<=j):GFin V V1 d F nms s0 cs a b o nd none:=by
 obtain⟨W,outs,w,k,hm,A⟩:=S.ex;have e:=A.eq;rw[List.drop_eq_nil_of_le u]at e;refine⟨w.trans k.sub,_,e.symm,rfl,rfl,?_,hm.sub k.sub,S.eq,A.good⟩;simp only[Cr,vn];exact k.rows (λ_=>rfl) (by decide)
end
theorem gsc_of{F:Int}(k:BT d m F=0)(u:¬2000<cs.length)(w:Ch d nms=0):gscE d F m nms cs=(Cr d F.toNat nms (AV m) cs).1:=by
 unfold gscE;rw[if_pos k,if_neg u,if_pos w]
theorem Ol[Tab V](hd:Ds.Ok V d)(hm:Mm.Ok V m)(I:Cls.Ok V l cs)(hns:Ae V ns 1 (nms.map Bs))(hnl:nms.length<=2147483647){F:Int}(hF:F<=3000∨1048576<F):
  Tri xV 15 #[d.v,m.v,l.v,ns.v,uI F] V (GscP V d F m nms cs):=by
 obtain⟨R,hR⟩:∃R,R=GscP V d F m nms cs:=⟨_,rfl⟩;rw[<-hR];refine P5 ?_;have hln:=I.rows.n_eq;have bad:∀{k:Int}{V':Mem},gscE d F m nms cs=k->k≠0->V.sub V'->R (rT #[Ah.v,.agg #[Ah.v,Ah.v],.agg #[uS sE,uI 0],uI k]) V':=λh u hs=>by
  rw[hR];exact⟨hs,.inl ⟨by rw[h];exact u,by rw[h]⟩⟩
 refine Tri.mono (N6 (l:=Ah) (cs:=[]) hd hm ⟨Ae.nil,λ_ h=>by cases h⟩ hF) ?_;have M:scrE d F m []=BT d m F:=by
  unfold scrE Fl;split;.rename_i h;rw[h];rfl
  .rfl
 rintro _ V1 ⟨Q,⟨u,rfl⟩|⟨u,o,a,b,nd,-,hma,hnd,hgd,rfl⟩⟩
 .rw[M]at u⊢;exact⟨_,_,_,_,rfl,λh=>absurd h u,λ_=>⟨λh=>absurd h u,λ_=>bad (by unfold gscE;rw[if_neg u]) u Q⟩⟩
 rw[M]at u;have hf:=Jb u;obtain⟨n,rfl⟩:∃n:Nat,F=(n:Int):=⟨F.toNat,by omega⟩;refine⟨_,_,_,_,rfl,λ_=>⟨λh=>?_,λh=>⟨λ_=>Tri.mono (N9 (nms:=nms) (hd.sub Q) (hns.sub Q) hnl) ?_,λh=>absurd rfl h⟩⟩,λh=>absurd rfl h⟩
 .have h:(2000:Int)<(l.n:Int):=h;exact bad (by unfold gscE;rw[if_pos u,if_pos (by omega)]) (by decide) Q
 have hl:¬2000<cs.length:=by
  have h:¬(2000:Int)<(l.n:Int):=h;omega
 rintro _ V2 ⟨s2,⟨P,rfl⟩|⟨P,q,hq,rfl⟩⟩;.exact⟨_,_,_,_,_,_,_,_,_,rfl,λh=>absurd h P,λ_=>bad (by unfold gscE;rw[if_pos u,if_neg hl,if_neg P]) P (Q.trans s2)⟩
 have w:=Q.trans s2;have hE:=gsc_of (F:=(n:Int)) u hl P;rw[Int.toNat_natCast]at hE;have X:=hd.sub w;refine⟨_,_,_,_,_,_,_,_,_,rfl,λ_=>⟨λmm xs V3=>∃(i:Nat)(a b o:Sl)(s:St)(nd:XH),mm=cs.length-i/\i<=cs.length/\xs=[uL a,uL b,uL o,uL Ah,uI 0,uI i]/\ED V2 d n nms (AV m) cs V3 i a b o s nd,cs.length,⟨0,a,b,Ah,AV m,nd,rfl,yn _,rfl,⟨V2,[],Mem.sub.refl _,Own.nil (Mem.sub.refl _) _ _,hma.sub s2,.start rfl hgd⟩,hnd⟩,?_⟩,λh=>absurd rfl h⟩;rintro mm V3 v26 v27 v28 v29 v30 v31 ⟨i,a,b,o,s,nd,rfl,hi,hx,S⟩ J hJ;simp only[zP,and_true]at hx;obtain⟨q1,q2,q3,q4,q5,q6⟩:=hx;cases AT _ _ q1;cases AT _ _ q2;cases AT _ _ q3;cases AT _ _ q4;cases BJ _ _ q5;cases BJ _ _ q6;obtain⟨C,hm3⟩:=S.sub;have Z:=I.sub (w.trans C);haveI:Tab V3:=Tab.sub (V:=V) inferInstance (w.trans C);have fin:∀{V4:Mem}{N a4 b4:Sl}{G:XH}{y:Option (KB×Int)},GFin V2 V4 d n nms (AV m) cs a4 b4 N G y->R (rT #[N.v,.agg #[a4.v,b4.v],.agg (grdX y).toArray,uI 0]) V4:=λ{V4 N a4 b4 G y} h=>by
  rw[hR];exact h.fin w hE
 refine⟨λD=>?_,λhge=>?_⟩
 .obtain⟨c,hcm,hcc,T,hil,hp,hz,U⟩:=Z.rows.get D;refine⟨hp,hz,D,_,_,U,Tri.mono (Oa (F:=n) (nms:=nms) (m:=⟨v26,s.g,v27,nd⟩) (args:=c.args) (X.sub C) hm3 (Z.args _ hcm) (by omega) P (hq.sub C)) ?_⟩;rintro e V4 (⟨H,s4,rfl⟩|⟨H,r,gs,ns4,ls,G,hr,L,rfl⟩);.exact⟨_,_,_,_,_,_,_,_,_,_,rfl,λh=>absurd h H,λ_=>bad (hE.trans (S.stop T (by omega) H)) H ((w.trans C).trans s4)⟩
  .obtain⟨x,hx,K⟩:=S.step X T (by omega) hr (I7 H).2 L;rw[hx];cases x with
   |none=>exact⟨_,_,_,_,_,_,_,_,_,_,rfl,λ_ tb Y=>K Y rfl rfl λN V5 u _=>⟨N,rfl,λh=>absurd (hr▸h) no22,λ_=>⟨⟨by omega,by omega⟩,hJ _ _ _ (show cs.length-(i+1)<cs.length-i by omega) ⟨i+1,gs,ns4,N,CN r.st,G,rfl,by omega,rfl,u rfl⟩⟩⟩,λh=>absurd rfl h⟩
   |some y=>exact⟨_,_,_,_,_,_,_,_,_,_,rfl,λ_ tb Y=>K Y rfl rfl λN V5 _ u=>⟨N,rfl,λ_=>fin (u _ rfl),λh=>absurd rfl h⟩,λh=>absurd rfl h⟩
 .exact fin (y:=none) (S.done (Z.rows.done hge).2)
end
section
variable{V:Mem}{σ:Nat->Sl}{g l ns l0 l1 l2:Sl}
theorem exScript[Tab V](X:Ds.Ok V (AI σ))(C:Ae V g 1 (([0]:XZ).map Aw))(hc:Cls.Ok V l [⟨Bm,l0,[3]⟩,⟨Bm,l1,[5]⟩,⟨Bm,l2,[1]⟩])(D:Ae V ns 1 ([Bp].map Bs)):
  Tri xV 15 #[(AI σ).v,.agg #[g.v,Ah.v],l.v,ns.v,uI 50] V λe V'=>V.sub V'/\∃(o a b:Sl)(P I:O4),e=rT #[o.v,.agg #[a.v,b.v],.agg #[uS Bp,uI 2],uI 0]/\Ae V' o 5 ([P,I].map oRow)/\P.1=0/\I.1=22/\b.n=2:=by
 have hm:Mm.Ok V ⟨g,[0],Ah,[]⟩:=⟨C,(λx K=>by rw[zZ.1 K];exact⟨by decide,by decide⟩),Ae.nil,λ_ h=>by cases h⟩;have G0:An (AI σ) ⟨g,[0],Ah,[]⟩:=⟨Mr,ex_chk,by kernel_rfl⟩;refine Tri.mono (Ol (nms:=[Bp]) (F:=50) X hm hc D (by decide) (.inl (by decide))) ?_;have G:=ex_r0 (σ:=σ);have N:=ex_r1 (σ:=σ);obtain⟨q,u⟩:∃r,r=CX (AI σ) 50 (BG (AI σ) Bm) (Io 0) (Dz 0):=⟨_,rfl⟩;obtain⟨k,w⟩:∃r,r=CX (AI σ) 50 (BG (AI σ) Bm) (Io 1) (Dz 1):=⟨_,rfl⟩;rw[<-u]at G;rw[<-w]at N;simp only[Prod.mk.injEq]at G N;obtain⟨a1,a2,a3⟩:=G;obtain⟨b1,b2,b3⟩:=N;have Z:CP (AI σ) 50 ⟨Bm,l0,[3]⟩ (Dz 0)=q:=u.symm;have Y:CP (AI σ) 50 ⟨Bm,l1,[5]⟩ (Dz 1)=k:=w.symm;have S:CN q.st=Dz 1:=by unfold CN;rw[a2,a3];rfl
 have M:D6 (AI σ) 50 [Bp] ⟨Bm,l0,[3]⟩ (Dz 0)=none:=by
  unfold D6 Cm;rw[Z,if_pos a1,KI (m':=exM1 Ah Ah Ah) ((St.plain _).trans (by rw[a2,a3];rfl))];exact ex_v1
 have L:D6 (AI σ) 50 [Bp] ⟨Bm,l1,[5]⟩ (Dz 1)=some (Bp,2):=by
  unfold D6 Cm;rw[Y,if_pos b1,KI (m':=exM2 Ah Ah Ah Ah) ((St.plain _).trans (by rw[b2,b3];rfl))];exact ex_v2
 have R:Cr (AI σ) 50 [Bp] (Dz 0) [⟨Bm,l0,[3]⟩,⟨Bm,l1,[5]⟩,⟨Bm,l2,[1]⟩]=(0,[outO q,(22,0,k.st.cm,AZ k.st.lg)],CN k.st,some (Bp,2)):=by
  have T:A1 (AI σ) (Dz 0).mm (⟨Bm,l0,[3]⟩:Be).name (⟨Bm,l0,[3]⟩:Be).args=0:=ex_c0;have U:A1 (AI σ) (Dz 1).mm (⟨Bm,l1,[5]⟩:Be).name (⟨Bm,l1,[5]⟩:Be).args=0:=ex_c1;rw[Cr,if_pos T,M,Z,S,Cr,if_pos U,L,Y];unfold FO;rw[M,L,Z,Y];rfl
 have hE:gscE (AI σ) 50 ⟨g,[0],Ah,[]⟩ [Bp] [⟨Bm,l0,[3]⟩,⟨Bm,l1,[5]⟩,⟨Bm,l2,[1]⟩]=0:=by
  rw[gsc_of (by grind[BT]) (by simp) ex_names];exact congrArg Prod.fst R
 rintro e V' ⟨hs,⟨h,-⟩|⟨-,o,a,b,nd,t,ht,h1,h2,H,-,rfl⟩⟩;.exact absurd hE h
 obtain rfl:t=_:=ht.trans R;have Q:=h2.nodes.n_eq;have H:nd.map (λn=>(n.ty,n.f))=k.st.ns:=H;rw[b3]at H;have J:=congrArg tC H;rw[vp]at J;have J:nd.length=2:=J;have Q:b.n=nd.length:=Q;exact⟨hs,o,a,b,outO q,(22,0,k.st.cm,AZ k.st.lg),rfl,h1,a1,rfl,Q.trans J⟩
end
end Go.Proofs
namespace Go.Proofs
open Go Go.Sx
mutual
def EE:E->E|.mk o n s _ k=>.mk o n s Ah (eErs k)
def eErs:XY->XY|[]=>[]|x::xs=>EE x::eErs xs
end
theorem KJ:∀l:XY,eErs l=l.map EE
 |[]=>by unfold eErs;rfl
 |x::xs=>by unfold eErs;rw[KJ xs];rfl
theorem eErs_len(l:XY):(eErs l).length=l.length:=by rw[KJ,vp]
mutual
theorem okE_er:∀(k:Int)(e:E),BF k (EE e)=BF k e
 |k,.mk o n s _ l=>by unfold EE BF;rw[eErs_len,okEs_er]
theorem okEs_er:∀(k:Int)(l:XY),okEs k (eErs l)=okEs k l
 |_,[]=>by unfold eErs;rfl
 |k,x::xs=>by unfold eErs okEs;rw[okE_er,okEs_er]
end
mutual
theorem szE_er:∀e:E,Az (EE e)=Az e
 |.mk o n s _ l=>by unfold EE Az;rw[szEs_er]
theorem szEs_er:∀l:XY,CE (eErs l)=CE l
 |[]=>by unfold eErs;rfl
 |x::xs=>by unfold eErs CE;rw[szE_er,szEs_er]
end
theorem validE_er(e:E):Bh (EE e)=Bh e:=by unfold Bh;rw[okE_er,szE_er]
attribute [local irreducible] Go.Sx.Tri
def sMeas:KB:=Ab [109,101,97,115,117,114,101,95]
def Ht:KB:=Ab [118,105,115,105,116,95]
def Hu:KB:=Ab [99,104,101,99,107,95]
def Gj:KB:=Ab [110]
def EV(V:Mem):RP:=λr V'=>V.sub V'/\∃e:E,r=.returned e.v
def SV(V:Mem):RP:=λr V'=>V.sub V'/\∃e:S,r=.returned e.v
def KP(V:Mem)(p:Nat)(d:Ds):Prop:=V p=some (.cells (d.row++[Value.string Gj]).toArray 110 (0,0))
def carS(op:Int)(s:KB):KB:=if op=4/\s=C3 then Gj else if op=7 then sMeas++s else s
mutual
def carE:E->E|.mk op n s _ k=>.mk op n (carS op s) Ah (carEs k)
def carEs:XY->XY|[]=>[]|x::xs=>carE x::carEs xs
end
theorem carEs_map:∀l:XY,carEs l=l.map carE
 |[]=>by unfold carEs;rfl
 |x::xs=>by unfold carEs;rw[carEs_map xs];rfl
theorem carE_eq(e:E):carE e=.mk e.op e.n (carS e.op e.s) Ah (e.k.map carE):=by
 cases e;unfold carE;rw[carEs_map];rfl
theorem okE_sz{k:Int}{e:E}(h:BF k e=true):(e.op=7->e.s.size<=40)/\e.k.length<=6/\∀x∈e.k,BF (k+1) x=true:=by
 cases e with
 |mk op n s l es=>
  unfold BF at h;rw[zD,zD]at h;refine⟨λh7=>?_,?_,LA h.2⟩;rotate_left
  .have u:=h.1.2;unfold CL at u;rw[zD,zD]at u;have u:=of_decide_eq_true u.1.1;unfold BD at u;show es.length<=6;grind
  have h7:op=7:=h7;have u:=h.1.2;unfold CL Eo at u;rw[zD,zD,if_neg (by omega),if_pos (by omega)]at u;have u:=u.1.2;unfold Bg at u;rw[zD]at u;exact(of_decide_eq_true u.1).2.1
def nw(V V':Mem):Mem:=λc=>match V c with|none=>V' c|some _=>none
theorem nw_at{V V':Mem}{c:Nat}(h:V c=none):nw V V' c=V' c:=by unfold nw;rw[h]
theorem nw_inv{V V':Mem}{c:Nat}{o:Obj}(h:nw V V' c=some o):V c=none/\V' c=some o:=by
 unfold nw at h;cases hc:V c with
 |none=>rw[hc]at h;exact⟨rfl,h⟩
 |some x=>rw[hc]at h;cases h
theorem nw_le{V V':Mem}:(nw V V').sub V':=λ_ _ h=>(nw_inv h).2
theorem sub_none{V W:Mem}(h:V.sub W){c:Nat}(hc:W c=none):V c=none:=by
 cases k:V c with
 |none=>rfl
 |some x=>rw[h _ _ k]at hc;cases hc
theorem nw_up{V A B C:Mem}(h:V.sub A)(k:∀c o,A c=none->B c=some o->C c=some o):(nw A B).sub (nw V C):=λc o hc=>by
 obtain⟨a,b⟩:=nw_inv hc;rw[nw_at (sub_none h a)];exact k c o a b
theorem nw_mono{V A B:Mem}(h:A.sub B):(nw V A).sub (nw V B):=nw_up (Mem.sub.refl V) λ_ _ _ k=>h _ _ k
theorem own_nw{W V V1:Mem}{e:TypeId}{sz:Nat}{s:Sl}{vs:XV}(h:Sx.Own W V1 e sz s vs)(hs:V.sub W):Sx.Own (λ_=>none) (nw V V1) e sz s vs:=⟨(λ_ _ h=>by cases h),h.len,by
 rcases h.at_ with k|⟨g,cur,a,b,c,dd⟩;.exact .inl k
 .exact .inr ⟨g,cur,a,rfl,by rw[nw_at (sub_none hs b)];exact c,dd⟩⟩
theorem ap91:AppP 91 93 4 E.row:=appG Tryz.underlying91 (by kernel_rfl) (by kernel_rfl) (by kernel_rfl) (by kernel_rfl) (by kernel_rfl) (by decide) (by intro _;rfl) λx u hu=>by simp only[E.row,Go.Sx.vS,Go.Sx.vI,Sl.v,zJ,xT,or_false]at hu;rcases hu with rfl|rfl|rfl|rfl<;>rfl
theorem ap70:AppP 70 101 5 S.row:=appG Tryz.underlying70 (by kernel_rfl) (by kernel_rfl) (by kernel_rfl) (by kernel_rfl) (by kernel_rfl) (by decide) (λx=>by cases x;rfl) λx u hu=>by cases x;simp only[S.row,Go.Sx.vS,Go.Sx.vI,Sl.v,zJ,xT,or_false]at hu;rcases hu with rfl|rfl|rfl|rfl|rfl<;>rfl
theorem ap24:AppP 24 72 5 Pr.row:=appG Tryz.underlying24 (by kernel_rfl) (by kernel_rfl) (by kernel_rfl) (by kernel_rfl) (by kernel_rfl) (by decide) (by intro _;rfl) λx u hu=>by simp only[Pr.row,Go.Sx.vS,Go.Sx.vI,Sl.v,zJ,xT,or_false]at hu;rcases hu with rfl|rfl|rfl|rfl|rfl<;>rfl
theorem ap22:AppP 22 99 2 Ty.row:=appG Tryz.underlying22 (by kernel_rfl) (by kernel_rfl) (by kernel_rfl) (by kernel_rfl) (by kernel_rfl) (by decide) (by intro _;rfl) λx u hu=>by simp only[Ty.row,Go.Sx.vS,Go.Sx.vI,Sl.v,zJ,xT,or_false]at hu;rcases hu with rfl|rfl<;>rfl
theorem ap23:AppP 23 97 2 Fld.row:=appG Tryz.underlying23 (by kernel_rfl) (by kernel_rfl) (by kernel_rfl) (by kernel_rfl) (by kernel_rfl) (by decide) (by intro _;rfl) λx u hu=>by simp only[Fld.row,Go.Sx.vS,Go.Sx.vI,Sl.v,zJ,xT,or_false]at hu;rcases hu with rfl|rfl<;>rfl
theorem ap25:AppP 25 103 7 Ms.row:=appG Tryz.underlying25 (by kernel_rfl) (by kernel_rfl) (by kernel_rfl) (by kernel_rfl) (by kernel_rfl) (by decide) (by intro _;rfl) λx u hu=>by simp only[Ms.row,Go.Sx.vS,Go.Sx.vI,Sl.v,zJ,xT,or_false]at hu;rcases hu with rfl|rfl|rfl|rfl|rfl|rfl|rfl<;>rfl
theorem ap27:AppP 27 175 5 Po.row:=appG Tryz.underlying27 (by kernel_rfl) (by kernel_rfl) (by kernel_rfl) (by kernel_rfl) (by kernel_rfl) (by decide) (by intro _;rfl) λx u hu=>by simp only[Po.row,Go.Sx.vS,Go.Sx.vI,Sl.v,zJ,xT,or_false]at hu;rcases hu with rfl|rfl|rfl|rfl|rfl<;>rfl
theorem ap28:AppP 28 178 5 Bd.row:=appG Tryz.underlying28 (by kernel_rfl) (by kernel_rfl) (by kernel_rfl) (by kernel_rfl) (by kernel_rfl) (by decide) (by intro _;rfl) λx u hu=>by simp only[Bd.row,Go.Sx.vS,Go.Sx.vI,Sl.v,zJ,xT,or_false]at hu;rcases hu with rfl|rfl|rfl|rfl|rfl<;>rfl
section
variable{V:Mem}{e f:E}{s:KB}{p:Nat}{d:Ds}
theorem KP.sub{V':Mem}(h:KP V p d)(hs:V.sub V'):KP V' p d:=hs _ _ h
theorem KP.param(h:KP V p d):V.rowp (sa p) 8 1=some [uS Gj]:=Aj h 8 1 (by simp[Ds.row])
theorem KP.cell(h:KP V p d)(i:Nat)(hi:i<8):V.rowp (sa p) i 1=some ((d.row.drop i).take 1):=by
 have:=Aj h i 1 (by simp[Ds.row];omega);rw[this,List.drop_append_of_le_length (by simp[Ds.row];omega),List.take_append_of_le_length (by simp[Ds.row];omega)]
theorem Mt:PP 84 [uS s] V (E.mk 4 0 s Ah []).v:=by
 refine PK ?_;exact⟨rfl,rfl⟩
theorem Jf{b:Bool}:Tri xV 85 #[.bool b] V (EV V):=by
 refine PL ?_;exact⟨λ_=>⟨Mem.sub.refl _,.mk 2 1 sE Ah [],rfl⟩,λ_=>⟨Mem.sub.refl _,.mk 2 0 sE Ah [],rfl⟩⟩
theorem KK:Tri xV 80 #[e.v] V (SV V):=by
 refine PH ?_;exact λb k=>⟨Mem.sub_new k _,.mk 5 sE ⟨some ⟨b,0,none⟩,1,1⟩ [] Ah [] Ah [],rfl⟩
theorem Mu:Tri xV 51 #[e.v] V λr V'=>V.sub V'/\∃l,r=.returned (E.mk 18 0 sE l [e]).v/\Ae V' l 4 ([e].map E.row):=by
 refine Pf ?_;exact λb k=>⟨Mem.sub_new k _,⟨some ⟨b,0,none⟩,1,1⟩,rfl,Ae.cells (xs:=[e]) (row:=E.row) Av rfl (λ_=>rfl) rfl (by simp)⟩
theorem QW{n:Int}(u:-1099511627776<=n/\n<=1099511627776):Tri xV 79 #[uI n] V (EV V):=by
 refine PG ?_;exact⟨λ_=>⟨⟨by omega,by omega⟩,λb k=>⟨Mem.sub_new k _,.mk 8 0 sE ⟨some ⟨b,0,none⟩,1,1⟩ [],rfl⟩⟩,λ_=>⟨Mem.sub.refl _,.mk 1 n sE Ah [],rfl⟩⟩
theorem KL:Tri xV 77 #[e.v,f.v] V (SV V):=by
 refine PE ?_;refine⟨Tri.mono KK ?_,Tri.mono KK ?_⟩;all_goals
  rintro _ V1 ⟨u,⟨o,s,l,es,k,ls,x,xs⟩,rfl⟩;refine⟨_,_,_,_,_,rfl,?_⟩
  repeat' apply And.intro
  all_goals exact λb w c hc=>⟨u.trans ((Mem.sub_new w _).trans (Mem.sub_new hc _)),.mk 3 sE ⟨some ⟨b,0,none⟩,1,1⟩ [] ⟨some ⟨c,0,none⟩,1,1⟩ [] Ah [],rfl⟩
theorem Om(k:KP V p d):Tri xV 78 #[pv p] V (EV V):=by
 refine PF ?_;exact⟨nn,nn,_,k.param,Mt.call ⟨_,_,_,_,rfl,λb u=>⟨Mem.sub_new u _,.mk 14 0 sE ⟨some ⟨b,0,none⟩,2,2⟩ [],rfl⟩⟩⟩
theorem On{q:XI}:Tri xV 82 #[.pointer q,uS s] V λr V'=>V'=V/\∃b:Bool,r=EQ b:=by
 refine PI ?_;exact⟨λ_=>⟨rfl,_,rfl⟩,λ_=>⟨rfl,_,rfl⟩⟩
theorem Oo(hs:s.size<=40):Tri xV 83 #[uS s,e.v] V (SV V):=by
 refine PJ ?_;refine⟨⟨by have:(Ab [118,105,115,105,116,95]).size=6:=rfl;omega,by have:(Ab [118,105,115,105,116,95]).size=6:=rfl;omega⟩,λb u=>Tri.mono (Mu (e:=.mk 7 0 (Ht++s) ⟨some ⟨b,0,none⟩,1,1⟩ [])) ?_⟩;rintro _ V1 ⟨w,l,rfl,-⟩;refine⟨_,_,_,_,rfl,Tri.mono Jf ?_⟩;rintro _ V2 ⟨r,⟨o,n,s,q,k⟩,rfl⟩;refine⟨_,_,_,_,rfl,Tri.mono (KL (e:=.mk 18 0 sE l []) (f:=.mk o n s q [])) ?_⟩;rintro _ J ⟨H,⟨o,s,l,es,k,ls,x,xs⟩,rfl⟩;exact⟨_,_,_,_,_,rfl,(Mem.sub_new u _).trans (w.trans (r.trans H)),.mk o s l es k ls x xs,rfl⟩
theorem Mv:∀(e:E)(V:Mem),KP V p d->E.Ok V e->∀k,BF k e=true->Tri xV 52 #[pv p,e.v] V λr V'=>V.sub V'/\∃N:E,r=.returned N.v/\EE N=carE e/\E.Ok (nw V V') N:=by
 intro e;induction e using E.ind with
 |h e ih=>
 intro V hk ho k hok;obtain⟨R,hR⟩:∃R:RP,R=λr V'=>V.sub V'/\∃N:E,r=.returned N.v/\EE N=carE e/\E.Ok (nw V V') N:=⟨_,rfl⟩;rw[<-hR];obtain⟨hsz,hlen,hkk⟩:=okE_sz hok;have hop:=ho.opR;have hnr:=ho.nR;have hr:=ho.rows;refine Qe ?_;refine⟨λmm xs V1=>∃(i:Nat)(o:Sl)(W:Mem)(es:XY),mm=e.k.length-i/\i<=e.k.length/\xs=[uI e.op,uI e.n,uS e.s,uL o,uI i]/\V.sub W/\Sx.Own W V1 93 4 o (es.flatMap E.row)/\es.map EE=(e.k.take i).map carE/\∀x∈es,E.Ok (nw V W) x,e.k.length,⟨0,Ah,V,[],rfl,yn _,rfl,Mem.sub.refl _,Own.nil (Mem.sub.refl _) _ _,rfl,λ_ h=>by cases h⟩,?_⟩;rintro mm V1 v5 v6 v7 P v9 ⟨i,o,W,es,rfl,hi,I,hW,own,H,G⟩ J hJ;simp only[zP,and_true]at I;obtain⟨q1,q2,q3,q4,q5⟩:=I;cases BJ _ _ q1;cases BJ _ _ q2;cases F0 _ _ q3;cases AT _ _ q4;cases BJ _ _ q5;have w:=hW.trans own.sub;have Z:=hr.sub w;have hel:es.length=i:=by have:=congrArg tC H;rw[vp,vp,vo]at this;omega
 refine⟨λY=>?_,λhge=>?_⟩
 .obtain⟨x,Q,I,-,hxl,hp,hz,L⟩:=Z.get Y;refine⟨hp,hz,Y,_,_,_,_,L,Tri.mono (ih x Q V1 (hk.sub w) ((ho.kids x Q).sub w) _ (hkk x Q)) ?_⟩;rintro _ V2 ⟨s2,⟨X,C,s',D,K⟩,rfl,he',S⟩;refine⟨_,_,_,_,rfl,λtb htb=>?_⟩;have q:=Own.growE own s2;refine ap91 (s:=P) (u:=⟨some ⟨tb,0,none⟩,1,1⟩) (xs:=es) (ys:=[.mk X C s' D K]) rfl rfl (q.but.new htb (.cells (E.row (.mk X C s' D K)).toArray 93 (0,0))) (Ae.cells (xs:=[E.mk X C s' D K]) (row:=E.row) Av rfl (λ_=>rfl) rfl (by simp)) (by simp;omega) λo3 V3 T=>⟨o3,rfl,Z.succ Y,hJ _ _ _ (show e.k.length-(i+1)<e.k.length-i by omega) ⟨i+1,o3,V2.but P,es++[.mk X C s' D K],rfl,by omega,rfl,hW.trans q.sub_but,T,?_,λy U=>?_⟩⟩
  .rw[yY,H,vq,I,yY];show _++[EE (E.mk X C s' D K)]=_;rw[he'];rfl
  .rcases vc.1 U with U|U;.exact(G y U).sub (nw_mono q.sub_but)
   .rw[zZ.1 U];exact S.sub (nw_up w λc o h1 h2=>Mem.but_at h2 (own.apartN h1))
 .have hdn:=(Z.done hge).2;rw[wm hdn]at H;have fin:∀s',s'=carS e.op e.s->R (.returned (.agg #[uI e.op,uI e.n,uS s',uL P])) V1:=λs' hs'=>by
   rw[hR];refine⟨w,.mk e.op e.n s' P es,rfl,?_,.mk ((own_nw own hW).rows (λ_=>rfl) (by decide)) (λx I=>(G x I).sub (nw_mono own.sub)) hop hnr⟩;rw[carE_eq,hs',<-H];unfold EE;rw[KJ]
  have m8:sMeas.size=8:=rfl;refine⟨λM=>⟨λht=>⟨nn,nn,_,(hk.sub w).param,fin _ ?_⟩,λht=>⟨λh7=>?_,λh7=>fin _ ?_⟩⟩,λM=>⟨λh7=>?_,λh7=>fin _ ?_⟩⟩;.unfold carS;rw[if_pos ⟨M,ht⟩]
  .have M:e.op=4:=M;have h7:e.op=7:=h7;omega
  .unfold carS;rw[if_neg λh=>ht h.2,if_neg h7]
  .have hz:=hsz h7;refine⟨⟨by show(-9223372036854775808:Int)<=(sMeas.size:Int)+e.s.size;omega,by show(sMeas.size:Int)+e.s.size<=9223372036854775807;omega⟩,fin _ ?_⟩;unfold carS;rw[if_neg λh=>M h.1,if_pos h7];rfl
  .unfold carS;rw[if_neg λh=>M h.1,if_neg h7]
end
def PV(V:Mem)(nm:KB):RP:=λr V'=>V.sub V'/\∃q:Pr,r=.returned q.v/\q.name=nm
section
variable{V W V1:Mem}{p:Nat}{d:Ds}
theorem moreS{o:Sl}{es:XK}(own:Sx.Own W V1 101 5 o (es.flatMap S.row))(Z:es.length<=1000000){w:Int}{x2:KB}{x3 x4 x5:Sl}{r:Nat}(H:V1 r=none){ty:Nat}{y z:Operand}{vals:Operand->Value}(J:vals y=uL o)(G:vals z=.slice (sa r) 1 1){q:Value->Mem->Prop}
  (N:∀k V',Sx.Own W V' 101 5 k ((es++[S.mk w x2 x3 [] x4 [] x5 []]).flatMap S.row)->q (uL k) V'):GenK xV (.call {callee:=.builtin .append,args:=#[y,z],argTypes:=#[70,70]}) ty vals (V1.set r (.cells #[uI w,uS x2,uL x3,uL x4,uL x5] 101 (0,0))) q:=
 ap70 (s:=o) (u:=⟨some ⟨r,0,none⟩,1,1⟩) (xs:=es) (ys:=[.mk w x2 x3 [] x4 [] x5 []]) J G (own.new H _) (Ae.cells (xs:=[S.mk w x2 x3 [] x4 [] x5 []]) (row:=S.row) Av rfl (λx=>by cases x;rfl) rfl (by simp)) (by simp;omega) λk V' h=>N k V' h
theorem QX{t:Ty}{v:Iv}(P:KP V p d)(hn:t.name.size<=40)(hf:Ae V t.fs 2 (t.fields.map Fld.row))(hl:t.fields.length<=1000)(I:∀f∈t.fields,f.ty.size<=40)(hx:E.Ok V v.x){k:Int}(M:BF k v.x=true):
  Tri xV 81 #[pv p,.agg #[uS t.name,t.fs.v],v.v] V (PV V (Ht++t.name)):=by
 obtain⟨R,hR⟩:∃R,R=PV V (Ht++t.name):=⟨_,rfl⟩;rw[<-hR];refine Qj ?_;have hi:IR (((Ab [118,105,115,105,116,95]).size:Int)+(t.name.size:Int)):=⟨by have:(Ab [118,105,115,105,116,95]).size=6:=rfl;omega,by have:(Ab [118,105,115,105,116,95]).size=6:=rfl;omega⟩;refine⟨hi,nn,nn,_,P.param,λb hb=>⟨hi,?_⟩⟩;have L:=Mem.sub_new hb (.cells #[uS Gj,uS t.name] 97 (0,0));refine Tri.mono (Om (P.sub L)) ?_;rintro _ V2 ⟨s2,⟨o,n,s,l',k'⟩,rfl⟩;refine⟨_,_,_,_,rfl,Tri.mono Jf ?_⟩;rintro _ V3 ⟨s3,⟨o3,n3,x3,l3,k3⟩,rfl⟩;refine⟨_,_,_,_,rfl,Tri.mono (KL (e:=.mk o n s l' k') (f:=.mk o3 n3 x3 l3 k3)) ?_⟩;rintro _ V4 ⟨s4,⟨o4,n4,l4,es4,k4,ls4,x4,xs4⟩,rfl⟩;refine⟨_,_,_,_,_,rfl,λtb X=>?_⟩;have H:V.sub V4:=L.trans (s2.trans (s3.trans s4));clear L s2 s3 s4;obtain⟨W,G⟩:∃W,W=V4:=⟨_,rfl⟩;rw[<-G]at H;refine moreS (W:=W) (o:=Ah) (es:=[]) (Own.nil (by rw[G];exact Mem.sub.refl _) _ _) (by simp) X rfl rfl λo5 V5 own=>⟨o5,rfl,?_⟩;refine⟨λ_=>Tri.mono (Mv v.x V5 (P.sub (H.trans own.sub)) (hx.sub (H.trans own.sub)) k M) ?_,λ_=>?_⟩;rintro _ V6 ⟨s6,⟨o6,n6,x6,l6,k6⟩,rfl,-,-⟩;refine⟨_,_,_,_,rfl,Tri.mono (Mu (e:=.mk o6 n6 x6 l6 k6)) ?_⟩;rintro _ V7 ⟨s7,l7,rfl,-⟩;refine⟨_,_,_,_,rfl,Tri.mono Jf ?_⟩;rintro _ V8 ⟨s8,⟨o8,n8,x8,l8,k8⟩,rfl⟩;refine⟨_,_,_,_,rfl,Tri.mono (KL (e:=.mk 18 0 sE l7 []) (f:=.mk o8 n8 x8 l8 k8)) ?_⟩;rintro _ V9 ⟨s9,⟨o9,n9,l9,es9,k9,ls9,x9,xs9⟩,rfl⟩;refine⟨_,_,_,_,_,rfl,λtb2 N=>?_⟩;refine moreS (Own.growE own (s6.trans (s7.trans (s8.trans s9)))) (by simp) N rfl rfl λC V10 own=>⟨C,rfl,?_⟩;all_goals
  obtain⟨es,D,own⟩:∃es:XK,es.length<=2/\Sx.Own W _ 101 5 _ (es.flatMap S.row):=⟨_,by simp,own⟩;refine⟨λmm xs V'=>∃(i:Nat)(o:Sl)(es:XK),mm=t.fields.length-i/\i<=t.fields.length/\xs=[uS (Ht++t.name),uL ⟨some ⟨b,0,none⟩,1,1⟩,uS (Ab [98,111,111,108]),uL Ah,uL o,uI i]/\Sx.Own W V' 101 5 o (es.flatMap S.row)/\es.length<=i+2,t.fields.length,⟨0,_,es,rfl,yn _,rfl,own,by omega⟩,?_⟩;rintro mm V11 a1 a2 a3 a4 a5 a6 ⟨i,o,es,rfl,hi',Z,own,D⟩ J hJ;simp only[zP,and_true]at Z;obtain⟨q1,q2,q3,q4,q5,q6⟩:=Z;cases F0 _ _ q1;cases AT _ _ q2;cases F0 _ _ q3;cases AT _ _ q4;cases AT _ _ q5;cases BJ _ _ q6;have hV:=H.trans own.sub;have r:=hf.sub hV;refine⟨λw=>?_,λhge=>?_⟩
  .obtain⟨f,K,hff,-,hfi,hp,hz,Y⟩:=r.get w;refine⟨hp,hz,w,_,_,Y,Tri.mono On ?_⟩;rintro _ _ ⟨rfl,bb,rfl⟩;refine⟨_,rfl,λ_=>⟨nn,nn,_,(P.sub hV).param,Mt.call ⟨_,_,_,_,rfl,λc hc=>Tri.mono (Oo (e:=.mk 5 0 f.name ⟨some ⟨c,0,none⟩,1,1⟩ []) (I f K)) ?_⟩⟩,λ_=>⟨r.succ w,hJ _ _ _ (show t.fields.length-(i+1)<t.fields.length-i by omega) ⟨i+1,_,es,rfl,by omega,rfl,own,by omega⟩⟩⟩;rintro _ T ⟨q,⟨ox,nx,lx,ex,kx,lsx,xx,xsx⟩,rfl⟩;refine⟨_,_,_,_,_,rfl,λU u=>?_⟩;refine moreS (Own.growE own ((Mem.sub_new hc _).trans q)) (by omega) u rfl rfl λo14 V14 own=>⟨o14,rfl,r.succ w,hJ _ _ _ (show t.fields.length-(i+1)<t.fields.length-i by omega) ⟨i+1,_,_,rfl,by omega,rfl,own,by simp;omega⟩⟩
  .refine Tri.mono Jf ?_;rintro _ T ⟨q,⟨ox,nx,lx,ex,kx⟩,rfl⟩;refine⟨_,_,_,_,rfl,Tri.mono (KK (e:=.mk ox nx lx ex kx)) ?_⟩;rintro _ V14 ⟨s14,⟨oy,ny,ly,ey,ky,lsy,xy,xsy⟩,rfl⟩;refine⟨_,_,_,_,_,rfl,λU u=>?_⟩;refine moreS (Own.growE own (q.trans s14)) (by omega) u rfl rfl λQ V15 own=>⟨Q,rfl,?_⟩;rw[hR];exact⟨H.trans own.sub,⟨_,_,[],_,_,[],Q,[]⟩,rfl,rfl⟩
end
def ProcsP(V:Mem)(d:Ds)(v:Iv):RP:=λr V'=>V.sub V'/\∃(s:Sl)(l:List Pr),r=.returned s.v/\Ae V' s 5 (l.map Pr.row)/\l.map (·.name)=d.measures.map (λm=>sMeas++m.name)++d.types.map (λt=>Ht++t.name)++[Hu++v.name]
structure Mild (d:Ds):Prop where
 ms:∀m∈d.measures,m.name.size<=40/\(-1099511627776<=m.nil/\m.nil<=1099511627776)/\BF 1 m.x=true
 ts:∀t∈d.types,t.name.size<=40/\t.fields.length<=1000/\∀f∈t.fields,f.ty.size<=40
 gs:∀g∈d.globals,g.ty.size<=40
 lm:d.measures.length<=1000
 lt:d.types.length<=1000
 lg:d.globals.length<=1000
section
variable{V W V1:Mem}{p:Nat}{d:Ds}
theorem KP.param8(h:KP V p d):V.rowp (Aa (sa p) 8) 0 1=some [uS Gj]:=Do h 8 0 1 (by simp[Ds.row])
theorem whenV{a b k u:Int}{s s':KB}{l w:Sl}:Tri xV 77 #[uA #[uI a,uI b,uS s,uL l],uA #[uI k,uI u,uS s',uL w]] V (SV V):=KL (e:=.mk a b s l []) (f:=.mk k u s' w [])
theorem giveV{a b:Int}{s:KB}{l:Sl}:Tri xV 80 #[uA #[uI a,uI b,uS s,uL l]] V (SV V):=KK (e:=.mk a b s l [])
theorem moreP{o:Sl}{ps:List Pr}(own:Sx.Own W V1 72 5 o (ps.flatMap Pr.row))(Z:ps.length<=1000000){w x3:KB}{x2 x4 x5:Sl}{r:Nat}(H:V1 r=none){ty:Nat}{y z:Operand}{vals:Operand->Value}(J:vals y=uL o)(G:vals z=.slice (sa r) 1 1){q:Value->Mem->Prop}
  (N:∀k V',Sx.Own W V' 72 5 k ((ps++[(⟨w,x2,[],x3,x4,[],x5,[]⟩:Pr)]).flatMap Pr.row)->q (uL k) V'):GenK xV (.call {callee:=.builtin .append,args:=#[y,z],argTypes:=#[24,24]}) ty vals (V1.set r (.cells #[uS w,uL x2,uS x3,uL x4,uL x5] 72 (0,0))) q:=
 ap24 (s:=o) (u:=⟨some ⟨r,0,none⟩,1,1⟩) (xs:=ps) (ys:=[⟨w,x2,[],x3,x4,[],x5,[]⟩]) J G (own.new H _) (Ae.cells (xs:=[(⟨w,x2,[],x3,x4,[],x5,[]⟩:Pr)]) (row:=Pr.row) Av rfl (λ_=>rfl) rfl (by simp)) (by simp;omega) λk V' h=>N k V' h
theorem name_more{ps:List Pr}{α:Type}{l:List α}{i:Nat}{x:α}{nm:α->KB}{A:XN}(h:ps.map (·.name)=A++(l.take i).map nm)(k:l[i]?=some x){q:Pr}(u:q.name=nm x):(ps++[q]).map (·.name)=A++(l.take (i+1)).map nm:=by
 rw[yY,h,vq,k,yY,List.append_assoc,List.map_singleton,u];rfl
theorem QY{v:Iv}(hk:KP V p d)(hd:Ds.Ok V d)(hm:Mild d)(hvt:v.ty≠sE)(hvn:v.name.size<=40)(hx:E.Ok V v.x){k:Int}(hok:BF k v.x=true):
  Tri xV 44 #[pv p,v.v] V (ProcsP V d v):=by
 obtain⟨R,hR⟩:∃R,R=ProcsP V d v:=⟨_,rfl⟩;rw[<-hR];refine Qd ?_;have lm:=hm.lm;have lt:=hm.lt;have lg:=hm.lg;refine⟨nn,nn,nn,d.ms,hk.cell 4 (by decide),DJ (mk:=uL) (b0:=Ah) AT d.measures.length (λi o V1=>∃ps:List Pr,Sx.Own V V1 72 5 o (ps.flatMap Pr.row)/\ps.map (·.name)=[]++(d.measures.take i).map λm=>sMeas++m.name) ⟨[],Own.nil (Mem.sub.refl _) _ _,rfl⟩ ?_⟩;rintro i o V1 J hi ⟨ps,own,w⟩ hJ;have Q:=congrArg tC w;rw[vp,zO,vp,vo]at Q;have G:=hk.sub own.sub;have N:=hd.sub own.sub;refine⟨λu=>?_,λP=>?_⟩
 .obtain⟨m,D,hmx,-,hml,X,C,r⟩:=N.measures.get u;obtain⟨hm1,hm2,hm3⟩:=hm.ms m D;have hI:IR (((Ab [109,101,97,115,117,114,101,95]).size:Int)+(m.name.size:Int)):=⟨by have:(Ab [109,101,97,115,117,114,101,95]).size=8:=rfl;omega,by have:(Ab [109,101,97,115,117,114,101,95]).size=8:=rfl;omega⟩;have hi1:=N.measures.succ u;have hmo:=(N.measuresOk m D).x;refine⟨X,C,u,_,_,_,_,_,_,_,r,hI,nn,nn,_,G.param,?_⟩;have s:=Mem.sub.refl V1;clear X C r
  repeat' first
   |exact hI
   |exact nn
   |exact(G.sub s).param8
   |apply And.intro
   |(refine Tri.mono (Om (G.sub s)) ?_;rintro _ _ ⟨s',⟨_,_,_,_,_⟩,rfl⟩;replace s:=s.trans s';refine⟨_,_,_,_,rfl,?_⟩)
   |(refine Tri.mono (QW hm2) ?_;rintro _ _ ⟨s',⟨_,_,_,_,_⟩,rfl⟩;replace s:=s.trans s';refine⟨_,_,_,_,rfl,?_⟩)
   |(refine Tri.mono whenV ?_;rintro _ _ ⟨s',⟨_,_,_,_,_,_,_,_⟩,rfl⟩;replace s:=s.trans s';refine⟨_,_,_,_,_,rfl,?_⟩)
   |(refine Tri.mono giveV ?_;rintro _ _ ⟨s',⟨_,_,_,_,_,_,_,_⟩,rfl⟩;replace s:=s.trans s';refine⟨_,_,_,_,_,rfl,?_⟩)
   |(refine Tri.mono (Mv m.x _ (G.sub s) (hmo.sub s) _ hm3) ?_;rintro _ _ ⟨s',⟨_,_,_,_,_⟩,rfl,-,-⟩;replace s:=s.trans s';refine⟨_,_,_,_,rfl,?_⟩)
  all_goals
   intro b1 hb1 b2 hb2 tb q;exact moreP (x2:=⟨some ⟨b1,0,none⟩,1,1⟩) (x4:=Ah) (x5:=⟨some ⟨b2,0,none⟩,2,2⟩) (Own.growE own (s.trans ((Mem.sub_new hb1 _).trans (Mem.sub_new hb2 _)))) (by omega) q rfl rfl λo' V' Z=>⟨o',rfl,hi1,hJ (by omega) _ _ ⟨_,Z,name_more w hmx rfl⟩⟩
 .have M:=(N.measures.done P).2;rw[wm M,zO]at w;have hI:IR (((Ab [99,104,101,99,107,95]).size:Int)+(v.name.size:Int)):=⟨by have:(Ab [99,104,101,99,107,95]).size=6:=rfl;omega,by have:(Ab [99,104,101,99,107,95]).size=6:=rfl;omega⟩;refine⟨hI,λh=>absurd h hvt,λ_=>⟨nn,nn,nn,d.ts,G.cell 1 (by decide),DJ (mk:=uL) (b0:=o) AT d.types.length (λi o V1=>∃ps:List Pr,Sx.Own V V1 72 5 o (ps.flatMap Pr.row)/\ps.map (·.name)=d.measures.map (λm=>sMeas++m.name)++(d.types.take i).map λt=>Ht++t.name) ⟨ps,own,by rw[w];simp⟩ ?_⟩⟩;clear G N own w Q hJ;rintro j o2 V2 J hj ⟨ps2,own,w⟩ hJ;have Q:=congrArg tC w;rw[vp,zK,vp,vp,vo]at Q;have K:=hk.sub own.sub;have Y:=hd.sub own.sub;refine⟨λu=>?_,λP=>?_⟩
  .obtain⟨t,T,htx,-,htl,X,C,r⟩:=Y.types.get u;obtain⟨t1,t2,t3⟩:=hm.ts t T;refine⟨X,C,u,_,_,r,Tri.mono (QX (t:=t) K t1 (Y.typesOk t T).fields t2 t3 (hx.sub own.sub) hok) ?_⟩;rintro _ V3 ⟨s3,⟨q1,q2,q3,q4,q5,q6,q7,q8⟩,rfl,hq⟩;exact⟨_,_,_,_,_,rfl,λtb q=>moreP (Own.growE own s3) (by omega) q rfl rfl λo' V' Z=>⟨o',rfl,Y.types.succ u,hJ (by omega) _ _ ⟨_,Z,name_more w htx hq⟩⟩⟩
  .have M:=(Y.types.done P).2;rw[wm M]at w;refine⟨nn,nn,nn,d.gs,K.cell 2 (by decide),⟨λmm xs V'=>∃(i:Nat)(o:Sl)(es:XK),mm=d.globals.length-i/\i<=d.globals.length/\xs=[uS (Hu++v.name),uL Ah,uS (Ab [98,111,111,108]),uL Ah,uL o,uI i]/\Sx.Own V2 V' 101 5 o (es.flatMap S.row)/\es.length<=i,d.globals.length,⟨0,Ah,[],rfl,yn _,rfl,Own.nil (Mem.sub.refl _) _ _,yn _⟩,?_⟩⟩;rintro mm V3 a1 a2 a3 a4 a5 a6 ⟨n,ob,es,rfl,hn,U,H,hes⟩ J2 hJ2;simp only[zP,and_true]at U;obtain⟨q1,q2,q3,q4,q5,q6⟩:=U;cases F0 _ _ q1;cases AT _ _ q2;cases F0 _ _ q3;cases AT _ _ q4;cases AT _ _ q5;cases BJ _ _ q6;have L:=Y.sub H.sub;refine⟨λu=>?_,λP=>?_⟩
   .obtain⟨g,hgm,hgx,-,hgl,X,C,r⟩:=L.globals.get u;refine⟨X,C,u,_,_,r,Tri.mono On ?_⟩;rintro _ _ ⟨rfl,bb,rfl⟩;refine⟨_,rfl,λ_=>Mt.call ⟨_,_,_,_,rfl,Tri.mono (Oo (e:=.mk 4 0 g.name Ah []) (hm.gs g hgm)) ?_⟩,λ_=>⟨L.globals.succ u,hJ2 _ _ _ (show d.globals.length-(n+1)<d.globals.length-n by omega) ⟨n+1,_,es,rfl,by omega,rfl,H,by omega⟩⟩⟩;rintro _ V4 ⟨s4,⟨ox,nx,lx,ex,kx,lsx,xx,xsx⟩,rfl⟩;exact⟨_,_,_,_,_,rfl,λtb q=>moreS (Own.growE H s4) (by omega) q rfl rfl λo5 V5 own5=>⟨o5,rfl,L.globals.succ u,hJ2 _ _ _ (show d.globals.length-(n+1)<d.globals.length-n by omega) ⟨n+1,_,_,rfl,by omega,rfl,own5,by simp;omega⟩⟩⟩
   .refine Tri.mono Jf ?_;rintro _ V4 ⟨s4,⟨ox,nx,lx,ex,kx⟩,rfl⟩;refine⟨_,_,_,_,rfl,Tri.mono giveV ?_⟩;rintro _ V5 ⟨s5,⟨oy,ny,ly,ey,ky,lsy,xy,xsy⟩,rfl⟩;refine⟨_,_,_,_,_,rfl,λtb q=>?_⟩;refine moreS (Own.growE H (s4.trans s5)) (by omega) q rfl rfl λo6 V6 own6=>⟨o6,rfl,λtb2 htb2=>?_⟩;refine moreP (Own.growE own (own6.sub)) (by omega) htb2 rfl rfl λo7 V7 I=>⟨o7,rfl,?_⟩;rw[hR];exact⟨I.sub,o7,_,rfl,I.rows (λ_=>rfl) (by decide),by rw[yY,w];rfl⟩
end
theorem flat_row{α:Type}{row:α->XV}{sz:Nat}(u:∀x,(row x).length=sz){x':α}{j:Nat}{vs:XV}(w:j+vs.length<=sz):∀{xs:List α}{i:Nat}{x:α},xs[i]?=some x->row x'=(row x).take j++vs++(row x).drop (j+vs.length)->(xs.set i x').flatMap row=(xs.flatMap row).take (i*sz+j)++vs++(xs.flatMap row).drop (i*sz+j+vs.length)
 |[],_,_,h,_=>by simp at h
 |y::r,0,x,h,e=>by
  grind
 |y::r,i+1,x,h,e=>by
  rw[List.getElem?_cons_succ]at h;have q:=u y;have H:(i+1)*sz=sz+i*sz:=by grind
  have J:∀(L:XV)(k:Nat),(row y++L).take (sz+k)=row y++L.take k:=λL k=>by
   grind
  have t2:∀(L:XV)(k:Nat),(row y++L).drop (sz+k)=L.drop k:=λL k=>by
   rw[List.drop_append,List.drop_of_length_le (by omega),q,Nat.add_sub_cancel_left,zO]
  rw[List.set_cons_succ,xG,xG,flat_row u w h e,H,show sz+i*sz+j=sz+(i*sz+j)by omega,show sz+(i*sz+j)+vs.length=sz+(i*sz+j+vs.length)by omega,J,t2];simp_all
theorem flat_len'{α:Type}{row:α->XV}{sz:Nat}(k:∀x,(row x).length=sz)(xs:List α):(xs.flatMap row).length=xs.length*sz:=by
 induction xs with
 |nil=>simp
 |cons x xs u=>grind
section
variable{α:Type}{row:α->XV}{sz:Nat}{V0 V V':Mem}{e:TypeId}{s:Sl}{xs:List α}
theorem own_row(H:∀x,(row x).length=sz)(o:Sx.Own V0 V e sz s (xs.flatMap row)){i j k:Nat}{x x':α}{vs:XV}(N:xs[i]?=some x)(P:j+vs.length<=sz)(hv:vs≠[])(u:row x'=(row x).take j++vs++(row x).drop (j+vs.length))(I:k=i*sz+j){q:Mem->Prop}
  (M:∀V',Sx.Own V0 V' e sz s ((xs.set i x').flatMap row)->(∀c,¬A4 s c->V' c=V c)->q V'):Am (Aa s.p k) 0 vs V q:=by
 subst I;have L:0<vs.length:=by grind
 have R:s.n=xs.length:=o.n_eq H (by omega);have D:i<xs.length:=(yg.1 N).1;rcases o.cases0 with⟨r,J,Z⟩|⟨hc,g,cur,r,J,Z,Y,X,h6,h7⟩;.omega
 have Q:=o.len;have h8:(i+1)*sz<=s.n*sz:=xK _ (by omega);have K:s.n*sz<=s.c*sz:=xK _ Y;rw[Nat.add_mul,Nat.one_mul]at h8;rw[r];have C:=flat_row H P N u;have w:=flat_len' H (xs.set i x');rw[uK]at w;have key:(cur.toList.take (i*sz+j)++vs++cur.toList.drop (i*sz+j+vs.length)).take (s.n*sz)=(xs.set i x').flatMap row:=by
  rw[C,<-h7,List.take_take,tD (by omega),List.drop_take,List.take_append,wm (by rw[zK,vo,uT];omega)];congr 2;rw[zK,vo,uT];omega
 refine Am.at2 (off:=i*sz+j) Z (by omega) (M _ ⟨o.sub.set J _,by rw[w,R],.inr ⟨g,_,r,J,Mem.set_same _ _ _,Y,X,?_,by simpa using key⟩⟩ λc G=>?_);.rw[List.size_toArray,zK,zK,vo,List.length_drop,uT,tD (by omega)];omega
 .rw[Mem.set_ne];rintro rfl;exact G ⟨hc,r⟩
end
theorem KM{V:Mem}{l:Sl}{xs:XX}(h:Ae V l 2 (xs.map Fld.row))(r:xs.length<=2147483648):Tri xV 91 #[l.v] V λe V'=>∃s:Sl,e=.returned (uL s)/\Sx.Own V V' 97 2 s (xs.flatMap Fld.row):=by
 refine PU ?_;refine⟨λq=>⟨⟨none,0,0⟩,rfl,?_⟩,λq H k=>?_⟩
 .have:xs=[]:=by
   cases xs with
   |nil=>rfl
   |cons a l2=>
    have:=h.base (i:=0) (by simp);simp_all
  grind[Own.nil,Mem.sub.refl]
 .have w:=Mem.sub_new k (.cells #[] 97 (0,0));exact ap23 (s:=⟨some ⟨H,0,none⟩,0,0⟩) (u:=l) (xs:=[]) (ys:=xs) rfl rfl (Own.empty (V0:=V) w _ _ _) (h.sub w) (by simpa using r) λs' V' J=>⟨s',rfl,s',rfl,by simpa using J⟩
theorem QZ{V:Mem}{l:Sl}{xs:List Ty}(h:Ae V l 2 (xs.map Ty.row))(r:xs.length<=2147483648):Tri xV 90 #[l.v] V λe V'=>∃s:Sl,e=.returned (uL s)/\Sx.Own V V' 99 2 s (xs.flatMap Ty.row):=by
 refine PT ?_;refine⟨λq=>⟨⟨none,0,0⟩,rfl,?_⟩,λq H k=>?_⟩
 .have:xs=[]:=by
   cases xs with
   |nil=>rfl
   |cons a l2=>
    have:=h.base (i:=0) (by simp);simp_all
  grind[Own.nil,Mem.sub.refl]
 .have w:=Mem.sub_new k (.cells #[] 99 (0,0));exact ap22 (s:=⟨some ⟨H,0,none⟩,0,0⟩) (u:=l) (xs:=[]) (ys:=xs) rfl rfl (Own.empty (V0:=V) w _ _ _) (h.sub w) (by simpa using r) λs' V' J=>⟨s',rfl,s',rfl,by simpa using J⟩
theorem Q0{V:Mem}{l:Sl}{xs:List Ms}(h:Ae V l 7 (xs.map Ms.row))(r:xs.length<=2147483648):Tri xV 94 #[l.v] V λe V'=>∃s:Sl,e=.returned (uL s)/\Sx.Own V V' 103 7 s (xs.flatMap Ms.row):=by
 refine P0 ?_;refine⟨λq=>⟨⟨none,0,0⟩,rfl,?_⟩,λq H k=>?_⟩
 .have:xs=[]:=by
   cases xs with
   |nil=>rfl
   |cons a l2=>
    have:=h.base (i:=0) (by simp);simp_all
  grind[Own.nil,Mem.sub.refl]
 .have w:=Mem.sub_new k (.cells #[] 103 (0,0));exact ap25 (s:=⟨some ⟨H,0,none⟩,0,0⟩) (u:=l) (xs:=[]) (ys:=xs) rfl rfl (Own.empty (V0:=V) w _ _ _) (h.sub w) (by simpa using r) λs' V' J=>⟨s',rfl,s',rfl,by simpa using J⟩
theorem Q1{V:Mem}{l:Sl}{xs:List Iv}(h:Ae V l 6 (xs.map Iv.row))(r:xs.length<=2147483648):Tri xV 95 #[l.v] V λe V'=>∃s:Sl,e=.returned (uL s)/\Sx.Own V V' 105 6 s (xs.flatMap Iv.row):=by
 refine P1 ?_;refine⟨λq=>⟨⟨none,0,0⟩,rfl,?_⟩,λq H k=>?_⟩
 .have:xs=[]:=by
   cases xs with
   |nil=>rfl
   |cons a l2=>
    have:=h.base (i:=0) (by simp);simp_all
  grind[Own.nil,Mem.sub.refl]
 .have w:=Mem.sub_new k (.cells #[] 105 (0,0));exact app26 (s:=⟨some ⟨H,0,none⟩,0,0⟩) (u:=l) (xs:=[]) (ys:=xs) rfl rfl (Own.empty (V0:=V) w _ _ _) (h.sub w) (by simpa using r) λs' V' J=>⟨s',rfl,s',rfl,by simpa using J⟩
theorem Q2{V:Mem}{l:Sl}{xs:List Po}(h:Ae V l 5 (xs.map Po.row))(r:xs.length<=2147483648):Tri xV 96 #[l.v] V λe V'=>∃s:Sl,e=.returned (uL s)/\Sx.Own V V' 175 5 s (xs.flatMap Po.row):=by
 refine P2 ?_;refine⟨λq=>⟨⟨none,0,0⟩,rfl,?_⟩,λq H k=>?_⟩
 .have:xs=[]:=by
   cases xs with
   |nil=>rfl
   |cons a l2=>
    have:=h.base (i:=0) (by simp);simp_all
  grind[Own.nil,Mem.sub.refl]
 .have w:=Mem.sub_new k (.cells #[] 175 (0,0));exact ap27 (s:=⟨some ⟨H,0,none⟩,0,0⟩) (u:=l) (xs:=[]) (ys:=xs) rfl rfl (Own.empty (V0:=V) w _ _ _) (h.sub w) (by simpa using r) λs' V' J=>⟨s',rfl,s',rfl,by simpa using J⟩
theorem Q3{V:Mem}{l:Sl}{xs:List Bd}(h:Ae V l 5 (xs.map Bd.row))(r:xs.length<=2147483648):Tri xV 97 #[l.v] V λe V'=>∃s:Sl,e=.returned (uL s)/\Sx.Own V V' 178 5 s (xs.flatMap Bd.row):=by
 refine P3 ?_;refine⟨λq=>⟨⟨none,0,0⟩,rfl,?_⟩,λq H k=>?_⟩
 .have:xs=[]:=by
   cases xs with
   |nil=>rfl
   |cons a l2=>
    have:=h.base (i:=0) (by simp);simp_all
  grind[Own.nil,Mem.sub.refl]
 .have w:=Mem.sub_new k (.cells #[] 178 (0,0));exact ap28 (s:=⟨some ⟨H,0,none⟩,0,0⟩) (u:=l) (xs:=[]) (ys:=xs) rfl rfl (Own.empty (V0:=V) w _ _ _) (h.sub w) (by simpa using r) λs' V' J=>⟨s',rfl,s',rfl,by simpa using J⟩
def LV(V:Mem):RP:=λr V'=>V.sub V'/\∃l:Sl,r=.returned l.v
theorem szEs_in:∀{l:XY}{x:E},x∈l->Az x<=CE l
 |y::k,x,h=>by
  unfold CE;rcases zJ.1 h with rfl|h;.omega
  .have:=szEs_in h;omega
theorem szEs_ge:∀l:XY,l.length<=CE l
 |[]=>yn _
 |x::xs=>by
  have:=szEs_ge xs;cases x with
  |mk=>unfold CE Az;simp only[zg];omega
theorem szE_k(e:E):Az e=1+CE e.k:=by cases e;unfold Az;rfl
mutual
def Hv:S->Nat|.mk _ _ _ es _ ls _ xs=>1+CE es+szTs ls+szTs xs
def szTs:XK->Nat|[]=>0|x::xs=>Hv x+szTs xs
end
theorem szTs_in:∀{l:XK}{x:S},x∈l->Hv x<=szTs l
 |y::k,x,h=>by
  unfold szTs;rcases zJ.1 h with rfl|h;.omega
  .have:=szTs_in h;omega
theorem szTs_ge:∀l:XK,l.length<=szTs l
 |[]=>yn _
 |x::xs=>by
  have:=szTs_ge xs;cases x with
  |mk=>unfold szTs Hv;simp only[zg];omega
theorem szT_k(s:S):Hv s=1+CE s.es+szTs s.ls+szTs s.xs:=by cases s;unfold Hv;rfl
section
variable{W V1:Mem}
theorem moreE{o:Sl}{es:XY}(own:Sx.Own W V1 93 4 o (es.flatMap E.row))(Z:es.length<=1000000){w x2:Int}{x3:KB}{x4:Sl}{r:Nat}(H:V1 r=none){ty:Nat}{y z:Operand}{vals:Operand->Value}(J:vals y=uL o)(G:vals z=.slice (sa r) 1 1){q:Value->Mem->Prop}
  (N:∀k V',Sx.Own W V' 93 4 k ((es++[E.mk w x2 x3 x4 []]).flatMap E.row)->q (uL k) V'):GenK xV (.call {callee:=.builtin .append,args:=#[y,z],argTypes:=#[91,91]}) ty vals (V1.set r (.cells #[uI w,uI x2,uS x3,uL x4] 93 (0,0))) q:=
 ap91 (s:=o) (u:=⟨some ⟨r,0,none⟩,1,1⟩) (xs:=es) (ys:=[.mk w x2 x3 x4 []]) J G (own.new H _) (Ae.cells (xs:=[E.mk w x2 x3 x4 []]) (row:=E.row) Av rfl (λ_=>rfl) rfl (by simp)) (by simp;omega) λk V' h=>N k V' h
end
theorem exprsL{l:XY}(Y:∀x∈l,∀V,E.Ok V x->Az x<=1000->Tri xV 247 #[x.l.v] V (LV V)){V:Mem}{s:Sl}(Q:Ae V s 4 (l.map E.row))(P:∀x∈l,E.Ok V x)(D:CE l<=1000):Tri xV 247 #[s.v] V (LV V):=by
 refine x247 ?_;have Z:=szEs_ge l;refine DJ (mk:=uL) (b0:=Ah) AT l.length (λi o V1=>∃es:XY,es.length=i/\Sx.Own V V1 93 4 o (es.flatMap E.row)) ⟨[],rfl,Own.nil (Mem.sub.refl _) _ _⟩ ?_;rintro i o V1 J K ⟨es,H,own⟩ I;have w:=Q.sub own.sub;refine⟨λk=>?_,λM=>⟨own.sub,o,rfl⟩⟩;obtain⟨x,u,S,-,G,L,R,r⟩:=w.get k;refine⟨L,R,k,_,_,_,_,r,Tri.mono (Y x u V1 ((P x u).sub own.sub) (by have:=szEs_in u;omega)) ?_⟩;rintro _ V2 ⟨X,l2,rfl⟩;exact⟨_,rfl,λT N=>moreE (Own.growE own X) (by omega) N rfl rfl λC V' q=>⟨C,rfl,w.succ k,I G _ _ ⟨_,by simp[H],q⟩⟩⟩
theorem c247:∀(e:E)(V:Mem),E.Ok V e->Az e<=1000->Tri xV 247 #[e.l.v] V (LV V):=by
 intro e;induction e using E.ind with
 |h e u=>exact λV k w=>exprsL (λx r V=>u x r V) k.rows k.kids (by rw[szE_k]at w;omega)
def Oq(x:S):Prop:=∀V,S.Ok V x->Hv x<=1000->Tri xV 180 #[x.ll.v] V (LV V)/\Tri xV 180 #[x.xl.v] V (LV V)
theorem stmtsL{l:XK}(P:∀x∈l,Oq x){V:Mem}{s:Sl}(L:Ae V s 5 (l.map S.row))(R:∀x∈l,S.Ok V x)(hz:szTs l<=1000):Tri xV 180 #[s.v] V (LV V):=by
 refine x180 ?_;have I:=szTs_ge l;refine DJ (mk:=uL) (b0:=Ah) AT l.length (λi o V1=>∃es:XK,es.length=i/\Sx.Own V V1 101 5 o (es.flatMap S.row)) ⟨[],rfl,Own.nil (Mem.sub.refl _) _ _⟩ ?_;rintro i o V1 J hi ⟨es,N,own⟩ X;have q:=L.sub own.sub;refine⟨λr=>?_,λC=>⟨own.sub,o,rfl⟩⟩;obtain⟨x,k,hx,-,Z,D,K,w⟩:=q.get r;rw[S.row_eq]at w;have H:Hv x<=1000:=by have:=szTs_in k;omega
 have T:=szT_k x;have u:=(R x k).sub own.sub;refine⟨D,K,r,_,_,_,_,_,w,Tri.mono (exprsL (l:=x.es) (λy _ V=>c247 y V) u.eRows u.eOk (by omega)) ?_⟩;rintro _ V2 ⟨Y,l2,rfl⟩;refine⟨_,rfl,Tri.mono (P x k V2 (u.sub Y) H).1 ?_⟩;rintro _ U ⟨M,l3,rfl⟩;refine⟨_,rfl,Tri.mono (P x k U (u.sub (Y.trans M)) H).2 ?_⟩;rintro _ V4 ⟨s4,l4,rfl⟩;exact⟨_,rfl,λtb Q=>moreS (Own.growE own (Y.trans (M.trans s4))) (by omega) Q rfl rfl λo' V' G=>⟨o',rfl,q.succ r,X Z _ _ ⟨_,by simp[N],G⟩⟩⟩
theorem Q4:∀x:S,Oq x:=by
 intro x;induction x using S.ind with
 |h x u w=>
  intro V k r;have:=szT_k x;exact⟨stmtsL u k.lRows k.lOk (by omega),stmtsL w k.xRows k.xOk (by omega)⟩
theorem Ot:∀(e:E)(V:Mem),E.Ok V e->Az e<=1000->Tri xV 98 #[e.v] V (EV V):=by
 intro e;induction e using E.ind with
 |h e I=>
 intro V Y hz;have M:=Y.rows;have Q:=szEs_ge e.k;have L:=szE_k e;refine Qk ?_;refine⟨λmm xs V1=>∃(i:Nat)(o:Sl)(es:XY),mm=e.k.length-i/\i<=e.k.length/\xs=[uI e.op,uI e.n,uS e.s,uL o,uI i]/\Sx.Own V V1 93 4 o (es.flatMap E.row)/\es.length=i,e.k.length,⟨0,Ah,[],rfl,yn _,rfl,Own.nil (Mem.sub.refl _) _ _,rfl⟩,?_⟩;rintro mm V1 v5 v6 v7 R v9 ⟨i,o,es,rfl,hi,G,own,N⟩ J X;simp only[zP,and_true]at G;obtain⟨C,D,K,S,T⟩:=G;cases BJ _ _ C;cases BJ _ _ D;cases F0 _ _ K;cases AT _ _ S;cases BJ _ _ T;have r:=M.sub own.sub;refine⟨λu=>?_,λU=>⟨own.sub,.mk e.op e.n e.s R [],rfl⟩⟩;obtain⟨x,w,G,-,hxl,hp,h0,q⟩:=r.get u;refine⟨hp,h0,u,_,_,_,_,q,Tri.mono (I x w V1 ((Y.kids x w).sub own.sub) (by have:=szEs_in w;omega)) ?_⟩;rintro _ V2 ⟨s2,⟨P,n',s',l',k'⟩,rfl⟩;exact⟨_,_,_,_,rfl,λtb Z=>moreE (Own.growE own s2) (by omega) Z rfl rfl λP V' H=>⟨P,rfl,r.succ u,X _ _ _ (show e.k.length-(i+1)<e.k.length-i by omega) ⟨i+1,_,_,rfl,by omega,rfl,H,by simp[N]⟩⟩⟩
section
variable{V:Mem}{d:Ds}
theorem c134{p:Pr}(k:Pr.Ok V p)(G:p.params.length<=1000)(N:p.locals.length<=1000)(r:szTs p.body<=1000):Tri xV 134 #[p.v] V (PV V p.name):=by
 refine x134 ?_;refine Tri.mono (KM k.params (by omega)) ?_;rintro _ V1 ⟨a,rfl,w⟩;refine⟨_,rfl,Tri.mono (KM (k.locals.sub w.sub) (by omega)) ?_⟩;rintro _ V2 ⟨b,rfl,q⟩;have u:=w.sub.trans q.sub;refine⟨_,rfl,Tri.mono (stmtsL (λx _=>Q4 x) (k.body.sub u) (λx H=>(k.stmts x H).sub u) r) ?_⟩;rintro _ Z ⟨J,l,rfl⟩;exact⟨_,rfl,u.trans J,⟨p.name,a,[],p.result,b,[],l,[]⟩,rfl,rfl⟩
structure Mild2 (d:Ds):Prop where
 ps:∀p∈d.procs,p.params.length<=1000/\p.locals.length<=1000/\szTs p.body<=1000
 ms:∀m∈d.measures,Az m.x<=1000
 vs:∀m∈d.invs,Az m.x<=1000
 lp:d.procs.length<=1000
 lv:d.invs.length<=1000
 qs:d.pots=[]
 bs:d.bounds=[]
theorem Q5[Tab V](u:Ds.Ok V d)(hv:A8 d=true)(hm:Mild2 d){nm:KB}(L:∃q∈d.procs,q.name=nm):Tri xV 92 #[d.v,uS nm] V λr V'=>V.sub V'/\∃q:Pr,r=rT #[q.v,uI 0]:=by
 refine PW ?_;refine(c124 u).call ⟨_,rfl,λ_=>?_,λh=>absurd hv h⟩;refine AG (mk:=.int .i64) (b0:=0) d.procs.length (λi V1=>V1=V/\∀j q,j<i->d.procs[j]?=some q->q.name≠nm) ⟨rfl,λj q h=>by omega⟩ ?_;rintro i b _ J hi ⟨rfl,M⟩ R;refine⟨λk=>?_,λZ=>?_⟩
 .obtain⟨x,w,X,-,Y,C,D,H⟩:=u.procs.get k;obtain⟨K,S,T⟩:=hm.ps x w;refine⟨C,D,k,_,_,_,_,_,H,λ_=>Tri.mono (c134 (u.procsOk x w) K S T) ?_,λQ=>⟨u.procs.succ k,R Y _ _ ⟨rfl,λj q P G=>?_⟩⟩⟩
  .rintro _ V2 ⟨U,⟨q1,q2,q3,q4,q5,q6,q7,q8⟩,rfl,-⟩;exact⟨_,_,_,_,_,rfl,U,⟨q1,q2,q3,q4,q5,q6,q7,q8⟩,rfl⟩
  .rcases Nat.lt_succ_iff_lt_or_eq.1 P with h|rfl;.exact M j q h G
   .rw[X]at G;cases G;exact Q
 .obtain⟨q,G,I⟩:=L;obtain⟨j,N⟩:=uJ.1 G;have:=(yg.1 N).1;exact absurd I (M j q (by have:=(u.procs.done Z).2;omega) N)
end
def Tryz.ren316:Go.Shelf.Ren:=⟨λ|316=>135|n=>n,λ|9=>9|3=>3|5=>5|4=>4|0=>0|37=>260|127=>261|n=>n,λn=>n⟩
theorem Tryz.lays316:Go.Proofs.LaysM.n316 xV Tryz.ren316:={
 mixed:=by kernel_rfl
 f316:=Tryz.func135.trans (congrArg some (by kernel_rfl))
 t0:=Tryz.underlying0
 a0:=Tryz.isAgg0
 z0:=Tryz.sizeOf0
 v0:=Tryz.zeroValue0
 i0:=by kernel_rfl
 t3:=Tryz.underlying3
 a3:=Tryz.isAgg3
 z3:=Tryz.sizeOf3
 v3:=Tryz.zeroValue3
 i3:=by kernel_rfl
 t4:=Tryz.underlying4
 a4:=Tryz.isAgg4
 z4:=Tryz.sizeOf4
 v4:=Tryz.zeroValue4
 i4:=by kernel_rfl
 t9:=wB
 a9:=Tryz.isAgg9
 z9:=Tryz.sizeOf9
 v9:=Tryz.zeroValue9
 i9:=by kernel_rfl
 t37:=Tryz.underlying260
 a37:=Tryz.isAgg260
 z37:=Tryz.sizeOf260
 v37:=Tryz.zeroValue260
 i37:=by kernel_rfl
 t127:=Tryz.underlying261
 a127:=Tryz.isAgg261
 z127:=Tryz.sizeOf261
 v127:=Tryz.zeroValue261
 i127:=by kernel_rfl
 t5:=Tryz.underlying5
 a5:=Tryz.isAgg5
 z5:=Tryz.sizeOf5
 v5:=Tryz.zeroValue5
 i5:=by kernel_rfl
}
theorem frm_below{V:Mem}{w w':World}(hw:V.le w)(h:Go.RowKit.Below w.heap.size w w'):Ax V w V w':=by
 refine⟨h.size,λb o k=>?_,λb k _=>h.block b k,λb k=>.inl k,h.os,h.output⟩;have u:=(Array.getElem?_eq_some_iff.1 (hw b o k)).1;exact(h.block b u).trans (hw b o k)
theorem Q6{V:Mem}{s:KB}(hs:s.size<=1000):Tri xV 93 #[uS s] V λr V'=>r=.returned (uS s)/\V'=V:=by
 refine PZ ?_;refine Tri.mono (R:=λr V'=>r=.returned (uS s)/\V'=V) ?_ ?_
 .unfold Tri;intro w hw;refine Gu (Any.stringslite_Clone Tryz.lays316 s w (by omega)) ?_;rintro e w' ⟨rfl,k⟩;exact⟨V,⟨rfl,rfl⟩,frm_below hw k⟩
 .rintro _ _ ⟨rfl,rfl⟩;exact⟨_,rfl,rfl,rfl⟩
section
variable{V:Mem}{d:Ds}
theorem ms_part{x:Ms}{o n:Int}{s:KB}{l:Sl}:Ms.row ⟨x.name,x.ty,x.nil,.mk o n s l []⟩=(Ms.row x).take 3++[uI o,uI n,uS s,uL l]++(Ms.row x).drop (3+4):=rfl
theorem iv_part{x:Iv}{o n:Int}{s:KB}{l:Sl}:Iv.row ⟨x.name,x.ty,.mk o n s l []⟩=(Iv.row x).take 2++[uI o,uI n,uS s,uL l]++(Iv.row x).drop (2+4):=rfl
theorem set_tail{α:Type}{l k:List α}{i:Nat}{x:α}(u:l.length=k.length)(h:∀j,i<=j->l[j]?=k[j]?):(l.set i x).length=k.length/\∀j,i+1<=j->(l.set i x)[j]?=k[j]?:=
 ⟨by rw[uK,u],λj w=>by rw[List.getElem?_set_ne (by omega)];exact h j (by omega)⟩
theorem Q7[Tab V](hd:Ds.Ok V d)(hv:A8 d=true)(hm:Mild d)(L:Mild2 d)(hnm:∀p∈d.procs,p.name.size<=40):Tri xV 53 #[d.v] V λr V'=>V.sub V'/\∃(o:Ds)(ps:List Pr),r=rT #[o.v,uI 0]/\(∃W,V.sub W/\Sx.Own W V' 72 5 o.ps (ps.flatMap Pr.row))/\ps.length=d.procs.length:=by
 obtain⟨R,hR⟩:∃R:RP,R=λr V'=>V.sub V'/\∃(o:Ds)(ps:List Pr),r=rT #[o.v,uI 0]/\(∃W,V.sub W/\Sx.Own W V' 72 5 o.ps (ps.flatMap Pr.row))/\ps.length=d.procs.length:=⟨_,rfl⟩;rw[<-hR];refine Qf ?_;have lt:=hm.lt;have lg:=hm.lg;have lm:=hm.lm;have lp:=L.lp;have lv:=L.lv;refine Tri.mono (QZ hd.types (by omega)) ?_;rintro _ V1 ⟨t8,rfl,o8⟩;refine⟨t8,rfl,EJ d.types.length (λi V2=>∃ts:List Ty,ts.length=d.types.length/\Sx.Own V V2 99 2 t8 (ts.flatMap Ty.row)) ⟨_,rfl,o8⟩ ?_⟩;rintro i V2 J hi ⟨ts,hts,o2⟩ Q;have C:=hd.sub o2.sub;refine⟨λu=>?_,λD=>?_⟩
 .obtain⟨t,htm,htx,-,htl,Z,K,w⟩:=C.types.get u;refine⟨Z,K,u,_,_,w,Tri.mono (KM (C.typesOk t htm).fields (by have:=(hm.ts t htm).2.1;omega)) ?_⟩;rintro _ V3 ⟨f,rfl,o3⟩;have o4:=Own.growE o2 o3.sub;obtain⟨y,-,hy,-,-,hp8,hz8,-⟩:=(o4.rows (row:=Ty.row) (λ_=>rfl) (by decide)).get (i:=i) (by rw[o4.n_eq (λ_=>rfl) (by decide)];omega);refine⟨f,rfl,hp8,hz8,by rw[o4.n_eq (row:=Ty.row) (λ_=>rfl) (by decide)];omega,Ai hp8,?_⟩;rw[Iw];exact own_row (row:=Ty.row) (λ_=>rfl) o4 (i:=i) (j:=1) (x:=y) (x':=⟨y.name,f,[]⟩) hy (by simp) (by simp) rfl rfl λV' S _=>⟨C.types.succ u,Q htl _ ⟨_,by rw[uK,hts],S⟩⟩
 have s2:=o2.sub;refine Tri.mono (KM C.globals (by omega)) ?_;rintro _ U ⟨gg,rfl,o3⟩;have sU:=s2.trans o3.sub;clear o3 o2 Q;refine⟨gg,rfl,⟨λmm xs V4=>∃(i:Nat)(o:Sl)(ps:List Pr),mm=d.procs.length-i/\i<=d.procs.length/\xs=[uS d.name,uL t8,uL gg,uL o,uL d.ms,uL d.is,uL d.qs,uL d.bs,uI 0,uI i]/\Sx.Own U V4 72 5 o (ps.flatMap Pr.row)/\ps.length=i,d.procs.length,⟨0,Ah,[],rfl,yn _,rfl,Own.nil (Mem.sub.refl _) _ _,rfl⟩,?_⟩⟩;rintro mm V4 a1 a2 a3 a4 a5 a6 a7 a8 a9 a10 ⟨i,o,ps,rfl,hi,G,own,hps⟩ J Q;simp only[zP,and_true]at G;obtain⟨q1,q2,q3,q4,q5,q6,q7,q8,q9,q10⟩:=G;cases F0 _ _ q1;cases AT _ _ q2;cases AT _ _ q3;cases AT _ _ q4;cases AT _ _ q5;cases AT _ _ q6;cases AT _ _ q7;cases AT _ _ q8;cases BJ _ _ q9;cases BJ _ _ q10;have s4:=sU.trans own.sub;have H:=hd.sub s4;haveI:Tab V4:=Tab.sub (V:=V) inferInstance s4;refine⟨λu=>?_,λD=>?_⟩
 .obtain⟨q,hqm,hqx,-,hql,Z,K,w⟩:=H.procs.get u;refine⟨Z,K,u,_,_,_,_,_,w,Tri.mono (Q6 (by have:=hnm q hqm;omega)) ?_⟩;rintro _ _ ⟨rfl,rfl⟩;refine⟨_,rfl,Tri.mono (Q5 H hv L ⟨q,hqm,rfl⟩) ?_⟩;rintro _ V6 ⟨s6,⟨q1,q2,q3,q4,q5,q6,q7,q8⟩,rfl⟩;exact⟨_,_,_,_,_,_,rfl,λ_ tb htb=>moreP (Own.growE own s6) (by omega) htb rfl rfl λS V' own'=>⟨S,rfl,H.procs.succ u,Q _ _ _ (show d.procs.length-(i+1)<d.procs.length-i by omega) ⟨i+1,_,_,rfl,by omega,rfl,own',by simp[hps]⟩⟩,λh=>absurd rfl h⟩
 have hdn:=(H.procs.done D).2;have hpl:ps.length=d.procs.length:=by omega
 have ownP:=own;clear own Q;refine Tri.mono (Q0 H.measures (by omega)) ?_;rintro _ V5 ⟨m5,rfl,o5⟩;refine⟨m5,rfl,Tri.mono (Q1 (H.invs.sub o5.sub) (by omega)) ?_⟩;rintro _ V6 ⟨v6,rfl,o6⟩;have T:=o5.sub.trans o6.sub;refine⟨v6,rfl,Tri.mono (Q2 (H.pots.sub T) (by rw[L.qs];simp)) ?_⟩;rintro _ V7 ⟨p7,rfl,o7⟩;refine⟨p7,rfl,Tri.mono (Q3 (H.bounds.sub (T.trans o7.sub)) (by rw[L.bs];simp)) ?_⟩;rintro _ V8 ⟨b8,rfl,o8⟩;have n7:p7.n=0:=by rw[o7.n_eq (row:=Po.row) (λ_=>rfl) (by decide),L.qs];rfl
 have n8:b8.n=0:=by rw[o8.n_eq (row:=Bd.row) (λ_=>rfl) (by decide),L.bs];rfl
 have s68:=o7.sub.trans o8.sub;have dj:∀c,A4 v6 c->¬A4 m5 c:=λc h6 h5=>by
  obtain⟨cur,hc⟩:=Own.some o5 h5;have:=Own.none0 o6 h6;rw[hc]at this;cases this
 refine⟨b8,rfl,EJ d.measures.length (λi V9=>∃ms:List Ms,(ms.length=d.measures.length/\∀j,i<=j->ms[j]?=d.measures[j]?)/\Sx.Own V4 V9 103 7 m5 (ms.flatMap Ms.row)/\Sx.Own V4 V9 105 6 v6 (d.invs.flatMap Iv.row)) ⟨_,⟨rfl,λ_ _=>rfl⟩,Own.growE o5 (o6.sub.trans s68),Own.growE (o6.narrow o5.sub) s68⟩ ?_⟩;clear o5 o6 o7 o8 T s68;rintro i V9 J hi ⟨ms,⟨hl9,P⟩,M,o9v⟩ Q;have r9:=M.rows (row:=Ms.row) (λ_=>rfl) (by decide);have n9:=r9.n_eq;refine⟨λu=>?_,λD=>?_⟩
 .obtain⟨x,N,G,-,hxl,Z,K,w⟩:=r9.get u;have hxd:d.measures[i]?=some x:=by rw[<-P i (yu _)];exact G
  have N:=xw hxd;refine⟨Z,K,u,Ai Z,_,_,_,_,_,_,_,w,Tri.mono (Ot x.x V9 ((H.measuresOk x N).x.sub M.sub) (L.ms x N)) ?_⟩;rintro _ I ⟨s10,⟨o,n,s,l,k⟩,rfl⟩;refine⟨_,_,_,_,rfl,Z,K,u,Ai Z,?_⟩;rw[Iw];refine own_row (row:=Ms.row) (λ_=>rfl) (Own.growE M s10) (i:=i) (j:=3) (x:=x) (x':=⟨x.name,x.ty,x.nil,.mk o n s l []⟩) G (by simp) (by simp) ms_part rfl λV' S hk'=>⟨r9.succ u,Q (by omega) _ ⟨_,set_tail hl9 P,S,?_⟩⟩;exact Own.moveB (Own.growE o9v s10) S.sub λg cur hg hc=>(hk' g (dj g hg)).trans hc
 clear Q r9 n9 M;refine EJ d.invs.length (λi I=>∃ms:List Iv,(ms.length=d.invs.length/\∀j,i<=j->ms[j]?=d.invs[j]?)/\Sx.Own V4 I 105 6 v6 (ms.flatMap Iv.row)) ⟨_,⟨rfl,λ_ _=>rfl⟩,o9v⟩ ?_;rintro i I J hi ⟨ms,⟨hl9,P⟩,M⟩ Q;have r9:=M.rows (row:=Iv.row) (λ_=>rfl) (by decide);refine⟨λu=>?_,λD=>?_⟩
 .obtain⟨x,N,G,-,hxl,Z,K,w⟩:=r9.get u;have hxd:d.invs[i]?=some x:=by rw[<-P i (yu _)];exact G
  have N:=xw hxd;refine⟨Z,K,u,Ai Z,_,_,_,_,_,_,w,Tri.mono (Ot x.x I ((H.invsOk x N).sub M.sub) (L.vs x N)) ?_⟩;rintro _ V11 ⟨s11,⟨o,n,s,l,k⟩,rfl⟩;refine⟨_,_,_,_,rfl,Z,K,u,Ai Z,?_⟩;rw[Iw];exact own_row (row:=Iv.row) (λ_=>rfl) (Own.growE M s11) (i:=i) (j:=2) (x:=x) (x':=⟨x.name,x.ty,.mk o n s l []⟩) G (by simp) (by simp) iv_part rfl λV' S _=>⟨r9.succ u,Q (by omega) _ ⟨_,set_tail hl9 P,S⟩⟩
 refine EJ 0 (λ_ V11=>V11=I) rfl ?_;rintro i X J hi rfl Q;refine⟨λu=>absurd u (by rw[n7];omega),λ_=>EJ 0 (λ_ V12=>V12=X) rfl ?_⟩;rintro i2 Y J hi2 rfl Q;refine⟨λu=>absurd u (by rw[n8];omega),λ_=>?_⟩;rw[hR];exact⟨s4.trans M.sub,⟨d.name,t8,[],gg,[],a4,[],m5,[],v6,[],p7,[],b8,[]⟩,ps,rfl,⟨U,sU,Own.growE ownP M.sub⟩,hpl⟩
end
end Go.Proofs
namespace Go.Proofs
open Go Go.Sx
set_option maxRecDepth 100000
noncomputable def c19a:XB:=((AY (AF Tryz.f19) []).drop 0).take 4
def w19a(V:Mem)(R:RP):Prop:=RL 37 #[uS (Ab [116,104,105,115])] V λa b c d V1=>Af [uS (Ab []),z0,z0,z0,z0,z0,z0,z0] 30 V1 λg V2=>Af [uI a,uI b,uS c,uL d] 93 V2 λi k=>R (rT #[uP (Aa g 0),.func (.func 37) #[] #[],.func (.func 38) #[] #[],uP (Aa i 0)]) k
theorem s19a{V:Mem}{R:KZ}(h:w19a V (OV R)):AS xV 70 c19a [] [0,1,2,3] V R:=
 Cd (H:=hK 70) [] [] rfl (by kernel_rfl) h
noncomputable def c19o0:XW:=Cq ((AY (AF Tryz.f19) []).getD 4 .skip)
def w19o64(a:XI)(b:KB)(c d g i j k l:Sl)(V:Mem)(R:RP):Prop:=Am a 0 [uS b,uL c,uL d,uL g,uL i,uL j,uL k,uL l] V λV1=>R (rT #[]) V1
theorem s19o64{a:XI}{b:KB}{c d g i j k l:Sl}{V:Mem}{R:KZ}(h:w19o64 a b c d g i j k l V (OV R)):CS xV 70 c19o0 64 1 [(0,uP a),(69,uA #[uS b,uL c,uL d,uL g,uL i,uL j,uL k,uL l])] [] V R:=
 FF (H:=hK 70) [(0,(.var .p 0)),(69,(.agg (.cons (.var .s 1) (.cons (.var .sl 2) (.cons (.var .sl 3) (.cons (.var .sl 4) (.cons (.var .sl 5) (.cons (.var .sl 6) (.cons (.var .sl 7) (.cons (.var .sl 8) .nil))))))))))] [uP a,uS b,uL c,uL d,uL g,uL i,uL j,uL k,uL l] rfl (by kernel_rfl) h
attribute [local irreducible] Go.Sx.Tri
def D7:Value:=.func (.func 37) #[] #[]
def xfF:Value:=.func (.func 38) #[] #[]
def qE(P:E->Prop)(v:Value)(A:Mem):Prop:=∃e,v=e.v/\P e/\E.Ok A e
def qL(Q:XY->Prop)(v:Value)(A:Mem):Prop:=∃(s:Sl)(es:XY),v=s.v/\Q es/\Ae A s 4 (es.map E.row)/\∀e∈es,E.Ok A e
def qS(P:S->Prop)(v:Value)(A:Mem):Prop:=∃(op:Int)(s:KB)(l:Sl)(es:XY),v=.agg #[uI op,uS s,uL l,z0,z0]/\P (.mk op s l es Ah [] Ah [])/\S.Ok A (.mk op s l es Ah [] Ah [])
def qB(v:Value)(A:Mem):Prop:=∃(s:Sl)(es:XK),v=s.v/\xBody es/\Ae A s 5 (es.map S.row)/\∀e∈es,S.Ok A e
def qF(fs:XX)(v:Value)(A:Mem):Prop:=∃s:Sl,v=s.v/\Ae A s 2 (fs.map Fld.row)
def qT(v:Value)(A:Mem):Prop:=∃fs:Sl,v=.agg #[uS A3,uL fs]/\Ae A fs 2 (xTF.map Fld.row)
def Jg(v:Value)(A:Mem):Prop:=∃s fs:Sl,v=s.v/\Ae A s 2 ([(⟨A3,fs,xTF⟩:Ty)].map Ty.row)/\Ae A fs 2 (xTF.map Fld.row)
def qP(v:Value)(A:Mem):Prop:=∃p:Pr,v=p.v/\Mq p/\Pr.Ok A p
def Jh(v:Value)(A:Mem):Prop:=∃(s:Sl)(p:Pr),v=s.v/\Mq p/\Ae A s 5 ([p].map Pr.row)/\Pr.Ok A p
def qM(v:Value)(A:Mem):Prop:=∃e,v=.agg #[uS ET,uS A3,uI 0,uI e.op,uI e.n,uS e.s,uL e.l]/\xPlus e/\E.Ok A e
def Ji(v:Value)(A:Mem):Prop:=∃(s:Sl)(e:E),v=s.v/\xPlus e/\Ae A s 7 ([(⟨ET,A3,0,e⟩:Ms)].map Ms.row)/\E.Ok A e
def qI(v:Value)(A:Mem):Prop:=∃e,v=.agg #[uS Bp,uS A3,uI e.op,uI e.n,uS e.s,uL e.l]/\xSort e/\E.Ok A e
def Jj(v:Value)(A:Mem):Prop:=∃(s:Sl)(e:E),v=s.v/\xSort e/\Ae A s 6 ([(⟨Bp,A3,e⟩:Iv)].map Iv.row)/\E.Ok A e
def qD(v:Value)(A:Mem):Prop:=∃d:Ds,v=d.v/\IsEx d/\Ds.Ok A d
section
variable{A B:Mem}{v:Value}(hs:A.sub B)
include hs
theorem qE.mono{P:E->Prop}(h:qE P v A):qE P v B:=by obtain⟨e,a,b,c⟩:=h;exact⟨e,a,b,c.sub hs⟩
theorem qL.mono{Q:XY->Prop}(h:qL Q v A):qL Q v B:=by obtain⟨s,es,a,b,c,d⟩:=h;exact⟨s,es,a,b,c.sub hs,λe k=>(d e k).sub hs⟩
theorem qS.mono{P:S->Prop}(h:qS P v A):qS P v B:=by obtain⟨o,s,l,es,a,b,c⟩:=h;exact⟨o,s,l,es,a,b,c.sub hs⟩
theorem qB.mono(h:qB v A):qB v B:=by obtain⟨s,es,a,b,c,d⟩:=h;exact⟨s,es,a,b,c.sub hs,λe k=>(d e k).sub hs⟩
theorem qF.mono{f:XX}(h:qF f v A):qF f v B:=by obtain⟨s,a,b⟩:=h;exact⟨s,a,b.sub hs⟩
theorem qT.mono(h:qT v A):qT v B:=by obtain⟨s,a,b⟩:=h;exact⟨s,a,b.sub hs⟩
theorem Jg.mono(h:Jg v A):Jg v B:=by obtain⟨s,f,a,b,c⟩:=h;exact⟨s,f,a,b.sub hs,c.sub hs⟩
theorem xpr_sub{p:Pr}(h:Pr.Ok A p):Pr.Ok B p:=⟨h.params.sub hs,h.locals.sub hs,h.body.sub hs,λs k=>(h.stmts s k).sub hs⟩
theorem qP.mono(h:qP v A):qP v B:=by obtain⟨p,a,b,c⟩:=h;exact⟨p,a,b,xpr_sub hs c⟩
theorem Jh.mono(h:Jh v A):Jh v B:=by obtain⟨s,p,a,b,c,d⟩:=h;exact⟨s,p,a,b,c.sub hs,xpr_sub hs d⟩
theorem qM.mono(h:qM v A):qM v B:=by obtain⟨e,a,b,c⟩:=h;exact⟨e,a,b,c.sub hs⟩
theorem Ji.mono(h:Ji v A):Ji v B:=by obtain⟨s,e,a,b,c,d⟩:=h;exact⟨s,e,a,b,c.sub hs,d.sub hs⟩
theorem qI.mono(h:qI v A):qI v B:=by obtain⟨e,a,b,c⟩:=h;exact⟨e,a,b,c.sub hs⟩
theorem Jj.mono(h:Jj v A):Jj v B:=by obtain⟨s,e,a,b,c,d⟩:=h;exact⟨s,e,a,b,c.sub hs,d.sub hs⟩
theorem qD.mono(h:qD v A):qD v B:=by obtain⟨d,a,b,c⟩:=h;exact⟨d,a,b,c.sub hs⟩
end
def BY:Nat->XA
 |2=>[0,1]
 |3=>[2]
 |4=>[3]
 |6=>[5]
 |8=>[7]
 |10=>[9]
 |12=>[11]
 |13=>[12]
 |15=>[14]
 |17=>[16]
 |18=>[15,17]
 |19=>[18]
 |21=>[20]
 |23=>[22]
 |24=>[21,23]
 |25=>[24]
 |27=>[26]
 |28=>[27]
 |29=>[28]
 |30=>[13,19,25,29]
 |31=>[8,10,30]
 |32=>[31]
 |36=>[34,35]
 |37=>[36]
 |38=>[37]
 |39=>[33,38]
 |40=>[39]
 |41=>[40]
 |42=>[41]
 |45=>[43,44]
 |47=>[45,46]
 |48=>[47]
 |51=>[49,50]
 |55=>[53,54]
 |56=>[52,55]
 |57=>[51,56]
 |58=>[57]
 |59=>[48,58]
 |60=>[59]
 |61=>[60]
 |62=>[61]
 |63=>[4,6,32,42,62]
 |64=>[63]
 |_=>[]
def BZ(A:Mem):Nat->Value->Prop
 |0,v=>v=.agg #[uS Ci,uS Ak]
 |1,v=>v=.agg #[uS Fm,uS A3]
 |2,v=>qF xTF v A
 |3,v=>qT v A
 |4,v=>Jg v A
 |5,v=>v=.agg #[uS DR,uS A3]
 |6,v=>qF [⟨DR,A3⟩] v A
 |7,v=>v=.agg #[uS Ci,uS Ak]
 |8,v=>qF [⟨Ci,Ak⟩] v A
 |9,v=>v=.agg #[uS CB,uS A3]
 |10,v=>qF [⟨CB,A3⟩] v A
 |11,v=>qE xNew v A
 |12,v=>qL (GU xNew) v A
 |13,v=>qS Og v A
 |14,v=>v=D7
 |15,v=>qE (xN CB) v A
 |16,v=>v=D7
 |17,v=>qE (xN Ci) v A
 |18,v=>qL (EC (xN CB) (xN Ci)) v A
 |19,v=>qS Oh v A
 |20,v=>v=D7
 |21,v=>qE (xN CB) v A
 |22,v=>v=D7
 |23,v=>qE (xN DR) v A
 |24,v=>qL (EC (xN CB) (xN DR)) v A
 |25,v=>qS Oi v A
 |26,v=>v=D7
 |27,v=>qE (xN CB) v A
 |28,v=>qL (GU (xN CB)) v A
 |29,v=>qS Oj v A
 |30,v=>qB v A
 |31,v=>qP v A
 |32,v=>Jh v A
 |33,v=>qE xOne v A
 |34,v=>v=xfF
 |35,v=>qE xThis v A
 |36,v=>qE FN v A
 |37,v=>qL (GU FN) v A
 |38,v=>qE xCall v A
 |39,v=>qL (EC xOne xCall) v A
 |40,v=>qE xPlus v A
 |41,v=>qM v A
 |42,v=>Ji v A
 |43,v=>v=xfF
 |44,v=>qE xThis v A
 |45,v=>qE FN v A
 |46,v=>qE xNil v A
 |47,v=>qL (EC FN xNil) v A
 |48,v=>qE Mp v A
 |49,v=>v=xfF
 |50,v=>qE xThis v A
 |51,v=>qE (xF xThis Ci) v A
 |52,v=>v=xfF
 |53,v=>v=xfF
 |54,v=>qE xThis v A
 |55,v=>qE FN v A
 |56,v=>qE (xF FN Ci) v A
 |57,v=>qL (EC (xF xThis Ci) (xF FN Ci)) v A
 |58,v=>qE xLess v A
 |59,v=>qL (EC Mp xLess) v A
 |60,v=>qE xSort v A
 |61,v=>qI v A
 |62,v=>Jj v A
 |63,v=>qD v A
 |_,_=>True
theorem xlQ_mono{A B:Mem}(hs:A.sub B):∀(i:Nat)(v:Value),BZ A i v->BZ B i v
 |0,_,h=>h
 |1,_,h=>h
 |2,_,h=>qF.mono hs h
 |3,_,h=>qT.mono hs h
 |4,_,h=>Jg.mono hs h
 |5,_,h=>h
 |6,_,h=>qF.mono hs h
 |7,_,h=>h
 |8,_,h=>qF.mono hs h
 |9,_,h=>h
 |10,_,h=>qF.mono hs h
 |11,_,h=>qE.mono hs h
 |12,_,h=>qL.mono hs h
 |13,_,h=>qS.mono hs h
 |14,_,h=>h
 |15,_,h=>qE.mono hs h
 |16,_,h=>h
 |17,_,h=>qE.mono hs h
 |18,_,h=>qL.mono hs h
 |19,_,h=>qS.mono hs h
 |20,_,h=>h
 |21,_,h=>qE.mono hs h
 |22,_,h=>h
 |23,_,h=>qE.mono hs h
 |24,_,h=>qL.mono hs h
 |25,_,h=>qS.mono hs h
 |26,_,h=>h
 |27,_,h=>qE.mono hs h
 |28,_,h=>qL.mono hs h
 |29,_,h=>qS.mono hs h
 |30,_,h=>qB.mono hs h
 |31,_,h=>qP.mono hs h
 |32,_,h=>Jh.mono hs h
 |33,_,h=>qE.mono hs h
 |34,_,h=>h
 |35,_,h=>qE.mono hs h
 |36,_,h=>qE.mono hs h
 |37,_,h=>qL.mono hs h
 |38,_,h=>qE.mono hs h
 |39,_,h=>qL.mono hs h
 |40,_,h=>qE.mono hs h
 |41,_,h=>qM.mono hs h
 |42,_,h=>Ji.mono hs h
 |43,_,h=>h
 |44,_,h=>qE.mono hs h
 |45,_,h=>qE.mono hs h
 |46,_,h=>qE.mono hs h
 |47,_,h=>qL.mono hs h
 |48,_,h=>qE.mono hs h
 |49,_,h=>h
 |50,_,h=>qE.mono hs h
 |51,_,h=>qE.mono hs h
 |52,_,h=>h
 |53,_,h=>h
 |54,_,h=>qE.mono hs h
 |55,_,h=>qE.mono hs h
 |56,_,h=>qE.mono hs h
 |57,_,h=>qL.mono hs h
 |58,_,h=>qE.mono hs h
 |59,_,h=>qL.mono hs h
 |60,_,h=>qE.mono hs h
 |61,_,h=>qI.mono hs h
 |62,_,h=>Jj.mono hs h
 |63,_,h=>qD.mono hs h
 |_+64,_,_=>trivial
def xO(b0:Nat)(V:Mem):Mem:=λc=>if c=b0 then none else V c
theorem xO_ne{b0 c:Nat}{A:Mem}(h:c≠b0):xO b0 A c=A c:=if_neg h
theorem xO_no{b0 c:Nat}{A:Mem}(h:c=b0):xO b0 A c=none:=if_pos h
theorem xO_sub{b0:Nat}{A B:Mem}(h:A.sub B):(xO b0 A).sub (xO b0 B):=λc o hc=>by
 by_cases e:c=b0;.grind[xO_no]
 .rw[xO_ne e]at hc⊢;exact h _ _ hc
theorem xO_le{b0:Nat}{A:Mem}:(xO b0 A).sub A:=λc o hc=>by
 grind[xO_no,xO_ne]
def xlBase(b0 b3:Nat):List (Nat×Value):=[(0,pv b0),(1,D7),(2,xfF),(3,pv b3)]
structure KN (V:Mem)(b0 b3:Nat):Prop where
 z:∃o,V b0=some o
 this:V b3=some (.cells (E.mk 4 0 C3 Ah []).row.toArray 93 (0,0))
def D8(i:Nat)(b0 b3:Nat)(V1:Mem)(val:Nat->Value):Prop:=∃k,(∀s v,k.lookup s=some v->(xlBase b0 b3).lookup s=some v∨∃j∈BY i,s=6+j/\v=val j)/\CS xV 70 c19o0 i 1 k [6+i] V1 λvs V2=>∃v,vs=[v]/\V1.sub V2/\BZ (xO b0 V2) i v
theorem xlIns{val:Nat->Value}:∀{l:XA}{s:Nat}{v:Value},(l.map λj=>(6+j,val j)).lookup s=some v->∃j∈l,s=6+j/\v=val j
 |[],_,_,h=>by cases h
 |j::l,s,v,h=>by
  rw[List.map_cons,List.lookup_cons]at h;split at h;.simp_all
  .obtain⟨k,u,w⟩:=xlIns h;grind
theorem xlIn1{k s:Nat}{x v:Value}(h:[(k,x)].lookup s=some v):s=k/\v=x:=by
 grind
theorem xlIn0{s:Nat}{v:Value}{Q:Prop}(h:([]:List (Nat×Value)).lookup s=some v):Q:=by cases h
section
variable{V V1:Mem}{b0 b3:Nat}{val:Nat->Value}
theorem xO_at(u:KN V b0 b3)(hs:V.sub V1){b:Nat}(k:V1 b=none)(o:Obj):xO b0 (V1.set b o) b=some o:=by
 have h:b≠b0:=λe=>by
  obtain⟨o,w⟩:=u.z;rw[e,hs _ _ w]at k;cases k
 rw[xO_ne h];exact Mem.set_same _ _ _
theorem EU{b:Nat}(k:V1 b=none)(o:Obj):(xO b0 V1).sub (xO b0 (V1.set b o)):=xO_sub (Mem.sub_new k o)
theorem xEmp{α:Type}{row:α->XV}{sz:Nat}:Ae V Ah sz (([]:List α).map row):=Ae.nil
theorem xLeaf{op n:Int}{s:KB}(h:ye.min<=op/\op<=ye.max)(k:ye.min<=n/\n<=ye.max):E.Ok V (.mk op n s Ah []):=.mk xEmp (λ_ h=>by simp at h) h k
theorem Ou{s:KB}:PP 37 [uS s] V (E.mk 4 0 s Ah []).v:=by
 refine O1 ?_;exact⟨rfl,rfl⟩
end
end Go.Proofs
