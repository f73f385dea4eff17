/- Part 20 of a proof of a law of this seat: no statement of the seat is proved here. -/
import Derived.Test.YtmeagdecjpknkaaGreatDoorPr19
import Derived.Test.YtmeagdecjpknkaaGreatDoorPr17
import Derived.Test.YtmeagdecjpknkaaGreatDoorPr16
import Derived.Test.YtmeagdecjpknkaaGreatDoorPr12
import Derived.Test.YtmeagdecjpknkaaGreatDoorPr18
set_option linter.unusedVariables false
set_option linter.unusedSimpArgs false
open List renaming replicate->yI,getElem?_eq_some_iff->yw,take_add_one->we,mem_of_getElem?->xv,length_append->zw,length_map->xd,take_of_length_le->wY,getElem?_eq_getElem->yv,mem_cons->yC,getElem?_zip_eq_some->vo,length_zip->vn,mem_append_left->vm,mem_cons_of_mem->zb,mem_cons_self->zc,filter_cons->z7,mem_map->vk,mem_iff_getElem?->xk,mem_append->xh,mem_singleton->zO,length_singleton->xi,getElem?_map->ya,findIdx?_append->vj,findIdx?_eq_none_iff->vh,append_nil->vg,foldl_append->vf,foldl_cons->ve,foldl_nil->vd,getElem?_append_left->xa
open Go.Value renaming int->xe
open Go.Proofs.Tryz renaming prog->xD,underlying3->wo,underlying132->vc
open Go.Ending renaming returned->xG
open Bool renaming and_eq_true->zC,not_eq_true'->zU
open List.cons renaming injEq->yD
open Go.Value.int renaming injEq->zl
open Nat renaming le_refl->yU,strongRecOn->yR
open Int renaming toNat_of_nonneg->vb
open Go.Result renaming andThen_ok->zL
open And renaming intro->xH
namespace Go.Proofs
open Go Go.Sx
attribute [local irreducible] Go.Sx.Tri
theorem set_fill{args:List Int}{n i:Nat}{v:Int}(hi:args[i]?=some v)(g:i<n):(args.take i++yI (n-i) 0).set i v=args.take (i+1)++yI (n-(i+1)) 0:=by
 have u:=(yw.1 hi).1;have h:(args.take i).length=i:=by grind
 rw[List.set_append_right _ _ (by omega),h,Nat.sub_self];obtain⟨m,hm⟩:∃m,n-i=m+1:=⟨n-i-1,by omega⟩;grind[we]
section
variable{V0 V:Mem}{d:Ds}{p F:Nat}{s:St}
theorem callY{n:Nat}(H:XSC d p F n):XCallC d p F n:=by
 intro V0 V s c i pr args l hS q G ha hl M htk hn hw;obtain⟨G',hG⟩:∃G':Rx Int,G'=qCs d (qCg d F n) c i args s:=⟨_,rfl⟩;rw[<-hG];have N:=xv q;have X:=hS.procs pr N;refine Tri.mono (x138 (R:=XR V0 d p F c G') ?_) λ_ _ h=>h;obtain⟨gs,ns,ls,nd,Z,L⟩:=M.ex;unfold qCs at hG;refine⟨nn,nn,_,qAd Z 12 1 (by simp[qBC]),λh2=>failX M (by decide) (by grind),λh2=>?_⟩;rw[if_neg (by omega),Int.toNat_natCast,q]at hG;refine⟨nn,nn,_,qAd Z 12 1 (by simp[qBC]),⟨by omega,by omega⟩,nn,nn,StT.at2 (off:=12) Z (by simp[qBC]) ?_⟩;have M1:XM V0 d p F (V.set p (.cells (qBC d F s.tk ((c+1:Nat):Int) 0 s.cm (qAv s.lg) gs ns ls).toArray 119 (0,0))) s ((c+1:Nat):Int) 0:=MA.set (row':=qBC d F s.tk ((c+1:Nat):Int) 0 s.cm (qAv s.lg)) ntX M.p0 Z L rfl rfl rfl rfl;obtain⟨V1,hV1⟩:∃V1,V1=V.set p (.cells (qBC d F s.tk ((c+1:Nat):Int) 0 s.cm (qAv s.lg) gs ns ls).toArray 119 (0,0)):=⟨_,rfl⟩;rw[<-hV1]at M1;have e1:V.set p (.cells ((qBC d F s.tk c 0 s.cm (qAv s.lg) gs ns ls).toArray.toList.take 12++[xe .i64 ((c:Int)+1)]++(qBC d F s.tk c 0 s.cm (qAv s.lg) gs ns ls).toArray.toList.drop (12+[xe .i64 ((c:Int)+1)].length)).toArray 119 (0,0))=V1:=by rw[hV1];rfl
 erw [e1]
 obtain⟨gs1,ns1,ls1,nd1,hat1,L1⟩:=M1.ex;have C:=hS.ds.sub L1.sub;have hn1:=C.procs.n_eq;have hil:=(yw.1 q).1;obtain⟨y,-,hy,-,-,hp1,hz1,D⟩:=C.procs.get (i:=i) (by omega);rw[q]at hy;cases hy;refine⟨nn,nn,pnn,d.ps,qAd hat1 3 1 (by simp[qBC]),hp1,hz1,by omega,_,_,_,_,_,D,λb0 hb0=>?_⟩;have hok:=C.procsOk pr N;have hln:=X.lens;have s0:=Mem.sub_new hb0 (.cells #[] 101 (0,0));refine qGU (s:=⟨some ⟨b0,0,none⟩,0,0⟩) (u:=pr.ps) (xs:=[]) (ys:=pr.params) rfl rfl (Own.empty s0 _ _ _) (hok.params.sub s0) (by simp;omega) λs2 V2 o2=>⟨s2,rfl,?_⟩;refine qGU (s:=s2) (u:=pr.ls) (xs:=pr.params) (ys:=pr.locals) rfl rfl o2 (hok.locals.sub o2.sub) (by omega) λw V3 o3=>⟨w,rfl,?_⟩;have h3n:=o3.n_eq (λ_=>rfl) (by decide);rw[zw]at h3n;refine mk31 (n:=w.n) rfl rfl (by omega) λg hg=>⟨⟨some ⟨g,0,none⟩,w.n,w.n⟩,rfl,?_⟩;have hown:=qGB hg (n:=w.n) (by omega);have hal:=(qAB.1 ha).1;obtain⟨V4,hV4⟩:∃V4,V4=V3.set g (.cells (madeCells (xe .i64 0).cells (w.n*1)) 3 (0,0)):=⟨_,rfl⟩;rw[<-hV4]at hown⊢;refine qJe args.length (λj E=>Sx.Own V3 E 3 1 ⟨some ⟨g,0,none⟩,w.n,w.n⟩ ((args.take j++yI (w.n-j) 0).flatMap qAf)) (by simp_all) ?_;rintro j E J hj o5 hJ;have K:=o5.sub;have S:=hl.sub ((M1.sub.trans o3.sub).trans K);refine⟨λT=>?_,λhge=>?_⟩
 ·obtain⟨v,-,hv,-,hjl,hp,hz,hrow⟩:=S.get T;refine⟨hp,hz,T,v,hrow,nn,by omega,(show(j:Int)<(w.n:Int)by omega),?_⟩;show StT (qAa (sa g) (j*1)) 0 [.int .i64 v] E _;rw[Nat.mul_one];refine Own.store o5 (i:=j) (by rw[qAN,xd,zw,List.length_take,List.length_replicate];omega) λV6 o6 _=>⟨S.succ T,hJ hjl _ ?_⟩;have e:((args.take j++yI (w.n-j) 0).flatMap qAf).set j (xe .i64 v)=(args.take (j+1)++yI (w.n-(j+1)) 0).flatMap qAf:=by
   rw[qAN,qAN,<-set_fill hv (by omega),List.map_set]
  simp_all
 ·have hdn:=(S.done hge).2;have hja:j=args.length:=by omega
  subst hja;rw[List.take_length,show w.n-args.length=pr.locals.length by omega]at o5;intro b2 hb2;obtain⟨V6,Y⟩:∃V6,V6=E.set b2 (.cells (qJJ pr w ⟨some ⟨g,0,none⟩,w.n,w.n⟩ none).toArray 259 (0,0)):=⟨_,rfl⟩;have e6:E.set b2 (.cells #[uS pr.name,uL pr.ps,uS pr.result,uL pr.ls,uL pr.bs,uL w,uL ⟨some ⟨g,0,none⟩,w.n,w.n⟩,uB false,uI 0] 259 (0,0))=V6:=by rw[Y];rfl
  show Tri _ _ #[pv p,pv b2,.slice pr.bs.p pr.bs.n pr.bs.c] (E.set b2 (.cells #[uS pr.name,uL pr.ps,uS pr.result,uL pr.ls,uL pr.bs,uL w,uL ⟨some ⟨g,0,none⟩,w.n,w.n⟩,uB false,uI 0] 259 (0,0))) _;rw[e6];have s56:E.sub V6:=Y▸Mem.sub_new hb2 _;have s36:=K.trans s56;have s16:=o3.sub.trans s36;obtain⟨W0,w0,w6,MW,U⟩:=M1.after s16;have n1:∀{b:Nat},V3 b=none->V1 b=none:=λ{b} h=>free o3.sub h;have n5:V3 b2=none:=free K hb2;obtain⟨b,hb⟩:∃b:Sl,b=⟨some ⟨g,0,none⟩,w.n,w.n⟩:=⟨_,rfl⟩;rw[<-hb]at o5 Y;have hbk:∀{x:Nat},Blk b x->V3 x=none:=λh=>Own.none0 o5 h;have nb2:¬Blk b b2:=λhk=>by
   grind[Own.some]
  obtain⟨W,hW⟩:∃W,W=Mem.minus W0 (λx=>x=b2∨Blk b x):=⟨_,rfl⟩;have hWW:W.sub W0:=by rw[hW];exact qDU
  have V03:V0.sub V3:=M1.sub.trans o3.sub;have hws:V0.sub W:=λx o hx=>by
   rw[hW,qCi];·exact w0 _ _ hx
   ·rintro(rfl|hk);·have:=V03 _ _ hx;simp_all
    ·have:=V03 _ _ hx;simp_all
  have o5':Sx.Own W W0 3 1 b ((args++yI pr.locals.length (0:Int)).flatMap qAf):=own_to o5 hWW λx o hk h0 h1=>⟨by rw[hW];exact qEn (.inr hk),U _ _ (n1 h0) (s56 _ _ h1)⟩;have hs3:Sx.Own (λ_=>none) W 101 2 w ((pr.params++pr.locals).flatMap Fld.row):=own_to o3 (λ_ _ h=>by cases h) λx o hk h0 h1=>⟨rfl,by
   rw[hW,qCi];·exact U _ _ h0 (s36 _ _ h1)
   grind⟩
  have hfr:W0 b2=some (.cells (qJJ pr w b none).toArray 259 (0,0)):=U _ _ (n1 n5) (by rw[Y];exact Mem.set_same _ _ _);have FR:FrX W W0 b2 pr (args++yI pr.locals.length 0) none:=⟨hWW,by rw[hW];exact qEn (.inl rfl),w,b,hfr,hs3.rows (λ_=>rfl) (by decide),o5'⟩;have hv:=qDO ha (qEj G.valid λf hf=>X.vars f (List.mem_append_right _ hf));have I:=(hS.ds.sub hws).procsOk pr N;refine PY.any (H pr.body W W0 V6 s (c+1) b2 pr _ pr.bs ⟨hS.sub hws,FR,N,G,hv,MW,htk,hn,hw⟩ X.body (λx hx=>I.stmts x hx) I.body) λW7 vals7 rv kf z V7 f7 M7 hc=>?_;obtain⟨Q,P,A,nd7,r,L7⟩:=M7.ex;refine⟨nn,nn,_,qAd r 12 1 (by simp[qBC]),⟨by omega,by omega⟩,nn,nn,StT.at2 (off:=12) r (by simp[qBC]) ?_⟩;have M8:XM W7 d p F (V7.set p (.cells (qBC d F z.tk c kf z.cm (qAv z.lg) Q P A).toArray 119 (0,0))) z c kf:=MA.set (row':=qBC d F z.tk c kf z.cm (qAv z.lg)) ntX M7.p0 r L7 rfl rfl rfl rfl;obtain⟨V8,hV8⟩:∃V8,V8=V7.set p (.cells (qBC d F z.tk c kf z.cm (qAv z.lg) Q P A).toArray 119 (0,0)):=⟨_,rfl⟩;rw[<-hV8]at M8;have e8:V7.set p (.cells ((qBC d F z.tk ((c+1:Nat):Int) kf z.cm (qAv z.lg) Q P A).toArray.toList.take 12++[xe .i64 (((c+1:Nat):Int)-1)]++(qBC d F z.tk ((c+1:Nat):Int) kf z.cm (qAv z.lg) Q P A).toArray.toList.drop (12+[xe .i64 (((c+1:Nat):Int)-1)].length)).toArray 119 (0,0))=V8:=by
   rw[hV8,show(((c+1:Nat):Int)-1)=(c:Int)by omega];rfl
  erw [e8]
  obtain⟨fa,fb,hq7,-,-⟩:=f7.ex;have MN:=M8.narrow (hws.trans f7.sub);refine⟨nn,nn,_,M8.fault,λhz=>⟨nn,nn,_,qAd (M8.sub _ _ hq7) 8 1 (by simp[qJJ]),?_⟩,λhz=>?_⟩
  ·have hz:kf=0:=hz;rcases hc with⟨-,e⟩|⟨hk,-⟩
   ·subst hz;exact XR.ok (by rw[hG];show((qCg d F n (c+1) pr pr.body _ s).bind _)=_;rw[e];rfl) MN
   omega
  ·rcases hc with⟨h,-⟩|⟨hk,e⟩;·omega
   ·exact XR.bad (by rw[hG];show((qCg d F n (c+1) pr pr.body _ s).bind _)=_;rw[e];rfl) hk MN
theorem allY(d:Ds)(p F:Nat):∀n,XSC d p F n
 |0=>λl W V0 V s c q pr vals sl X _ _ _=>absurd X.n (by have:=X.tk;omega)
 |n+1=>stsY (loopY (exprX (callY (allY d p F n))) (allY d p F n)) (bodyY (exprX (callY (allY d p F n))) (callY (allY d p F n)) (allY d p F n))
end
theorem qLF{V:Mem}{b:Nat}{l:Sl}{xs:List Int}(w:V b=none)(h:qAc V l 1 (xs.map qAf))(z:xs.length<=2147483648){ty:Nat}{x y:Operand}{vals:Operand->Value}(r:vals x=.slice (sa b) 0 0)(q:vals y=.slice l.p l.n l.c){Q:Value->Mem->Prop}(e:∀s V',Sx.Own V V' 3 1 s (xs.flatMap qAf)->Q (.slice s.p s.n s.c) V'):
  GenK xD (.call {callee:=.builtin .append,args:=#[x,y],argTypes:=#[31,31]}) ty vals (V.set b (.cells #[] 3 (0,0))) Q:=by
 have g:=Mem.sub_new w (.cells #[] 3 (0,0));exact qDL (s:=⟨some ⟨b,0,none⟩,0,0⟩) (u:=l) (xs:=[]) (ys:=xs) r q (Own.empty (V0:=V) g _ _ _) (h.sub g) (by simpa using z) λs' V' v=>e s' V' (by simpa using v)
theorem c137{V:Mem}{m:Mm}(hm:Mm.Ok V m)(h1:m.globals.length<=2147483648)(h2:m.nodes.length<=4096)(h3:∀n∈m.nodes,n.f.length<=2147483648):Tri xD 137 #[m.v] V λe V'=>∃gs ns nd,e=.returned (.agg #[.slice gs.p gs.n gs.c,.slice ns.p ns.n ns.c])/\Lay V V' gs ns qAD nd (qBU m):=by
 refine x137 ?_;intro b0 N;refine qLF N hm.globals h1 rfl rfl λgs V1 Z=>?_;refine⟨gs,rfl,loop3u (mk:=λs:Sl=>.slice s.p s.n s.c) (mc:=λs:Sl=>.slice s.p s.n s.c) (b0:=gs) (c0:=⟨none,0,0⟩) qBc qBc m.nodes.length (λi b ns V2=>b=gs/\∃nd,Lay V V2 gs ns qAD nd ⟨m.globals,(m.nodes.take i).map λn=>(n.ty,n.f),0,0,[]⟩/\nd.length=i) ⟨rfl,[],⟨Z,Own.nil Z.sub _ _,Own.nil Z.sub _ _,(λn Y=>by cases Y),rfl,(λn Y=>by cases Y),(λi j n S c h=>by cases h)⟩,rfl⟩ ?_⟩;rintro i b ns V2 J T ⟨rfl,nd,L,C⟩ D;have G:=hm.nodes.sub L.sub;refine⟨λg=>?_,λQ=>?_⟩
 ·obtain⟨x,r,E,-,P,z,q,w⟩:=G.get g;have H:=qAe (n:=i*2) z;have M:(i:Int)<(m.ns.n:Int):=g;refine⟨z,q,g,H,x.ty,x.sl,w,z,q,g,H,x.ty,x.sl,w,qEO (j:=1) (m:=1) w (by decide) (by decide),H,z,q,g,qFi (k:=1) w (by decide),H,z,q,g,λb1 A=>?_⟩;refine qLF A ((hm.nodesOk x r).rows.sub L.sub) (h3 x r) rfl rfl λfs U R=>?_;have u:=(G.sub R.sub).get g;obtain⟨y,-,X,-,-,-,-,u⟩:=u;rw[E]at X;cases X;refine⟨fs,rfl,qFi (k:=1) u (by decide),H,z,q,g,λtb I=>L.new (n:=⟨x.ty,fs,x.f⟩) R I rfl rfl (by omega) λs' V' L' _=>⟨s',rfl,G.succ g,D P _ _ _ ⟨rfl,nd++[⟨x.ty,fs,x.f⟩],?_,by simp_all⟩⟩⟩;grind[we]
 ·have K:=(G.done Q).2;rw[wY K]at L;exact⟨b,ns,nd,rfl,L⟩
section
variable{V V0:Mem}{d:Ds}{m:Mm}{F:Nat}{nm:ByteArray}{args:List Int}{l:Sl}
theorem c91(g:Ds.Ok V d)(hm:Mm.Ok V m){F:Int}:PP 91 [d.v,m.v,.int .i64 F] V (.int .i64 (qAZ d m F)):=by
 refine x91 ?_;have bad:¬qAz d m->(xG (.int .i64 1)=.returned (.int .i64 (qAZ d m F))/\V=V):=λh=>⟨by grind[qAZ],rfl⟩;refine(c31 g).call ⟨_,rfl,λh1=>(c32 g).call ⟨_,rfl,λh2=>(c15 g hm).call ⟨_,rfl,λh3=>?_,λh3=>bad λG=>h3 G.mem⟩,λh2=>bad λG=>h2 ?_⟩,λh1=>bad λG=>h1 G.valid⟩
 ·have h2:wellT d=true:=h2;unfold wellT at h2;rw[zC,decide_eq_true_eq]at h2;have G:qAz d m:=⟨h1,chk_none h2.2,h3⟩;refine⟨λh=>⟨?_,rfl⟩,λh=>⟨λh2=>⟨?_,rfl⟩,λh2=>⟨?_,rfl⟩⟩⟩;·grind[qAZ]
  ·grind[qAZ]
  grind[qAZ]
 ·show wellT d=true;unfold wellT;rw[G.chk,G.valid];rfl
theorem c92(r:Ds.Ok V d)(hm:Mm.Ok V m)(Y:qAc V l 1 (args.map qAf)):
  PP 92 [d.v,m.v,.agg #[.string nm,l.v]] V (.int .i64 (qCK d m nm args)):=by
 refine x92 ?_;have Q:∀{e:Int},qCK d m nm args=e->(xG (.int .i64 e)=.returned (.int .i64 (qCK d m nm args))/\V=V):=λe=>⟨by rw[e],rfl⟩;refine(c136 r).call ⟨_,rfl,λh=>?_,λh=>?_⟩;·grind[qCK,qCJ]
 ·have h:¬qCJ d nm<0:=h;rcases qAG (λt:Pr=>decide (t.name=nm)) d.procs with⟨h1,-⟩|⟨i,pr,h1,h2,-⟩;·omega
  have hi:qCJ d nm=(i:Int):=h1;have hn:=r.procs.n_eq;have U:=(yw.1 h2).1;obtain⟨y,P,E,-,-,hp,hz,q⟩:=r.procs.get (i:=i) (by omega);rw[h2]at E;cases E;have K:qCK d m nm args=if args.length=pr.params.length then(if qAh d m pr.params args=true then 0 else 11)else 3:=by grind[qCK]
  have H:=(r.procsOk pr P).params;have hln:=H.n_eq;have han:=Y.n_eq;rw[h1];refine⟨hp,hz,by omega,_,_,_,_,_,q,λu=>?_,λu=>?_⟩
  ·have u:(l.n:Int)=(pr.ps.n:Int):=u;have G:args.length=pr.params.length:=by omega
   rw[if_pos G]at K;refine qAI (mk:=λk:Int=>.int .i64 k) (b0:=0) args.length (λj V1=>V1=V/\∀(i:Nat) f v,i<j->pr.params[i]?=some f->args[i]?=some v->qAy d m f.ty v=true) ⟨rfl,λi f v h=>by omega⟩ ?_;rintro j b V1 J hj ⟨rfl,N⟩ hJ;refine⟨λz=>?_,λA=>?_⟩
   ·obtain⟨v,hvm,hv,-,I,M,L,R⟩:=Y.get z;obtain⟨f,hfm,X,-,-,Z,C,D⟩:=H.get (i:=j) (by omega);refine⟨Z,C,by omega,qAe Z,_,_,D,M,L,z,v,R,(c47 r hm).call ⟨_,rfl,λS=>⟨Y.succ z,hJ I _ _ ⟨rfl,λi g w hi' hg hw=>?_⟩⟩,λS=>Q ?_⟩⟩;·grind
    ·rw[K,if_neg λk=>S ((qAB.1 k).2 j f v X hv)]
   ·have hd2:=(Y.done A).2;have T:qAh d m pr.params args=true:=qAB.2 ⟨G.symm,λi f v X hv=>N i f v (by grind) X hv⟩;simp_all
  grind
theorem good_lens(G:qAz d m):m.globals.length<=2147483648/\m.nodes.length<=4096/\∀n∈m.nodes,n.f.length<=2147483648:=by
 obtain⟨p1,u,p3,v,w⟩:=qAl G.mem;have z:=lens12 G.valid;refine⟨by grind[qAB],u,λn g=>?_⟩;have:=(qAB.1 (w n g)).1;have r:=of_decide_eq_true (p3 n g);obtain⟨j,q⟩:∃j:Nat,n.ty=(j:Int):=⟨n.ty.toNat,by omega⟩;have h:j<d.types.length:=by omega
 have e:=yv h;rw[q,qAR e rfl]at this;grind
def PlayX(V0:Mem)(d:Ds)(F:Nat)(m:Mm)(nm:ByteArray)(args:List Int):Ending->Mem->Prop:=λe V'=>
 ∃p,∃r:Rx Int,r=qBS d F (qCJ d nm) args (qBU m)/\XM V0 d p F V' r.st (outV r) (outC r)/\e=.returned (pv p)
theorem c93(J:Ds.Ok V d)(hm:Mm.Ok V m)(G:qAz d m)(A:qAc V l 1 (args.map qAf))(I:qCK d m nm args=0)(M:F<=4000):
  Tri xD 93 #[d.v,m.v,.agg #[.string nm,l.v],.int .i64 F] V (PlayX V d F m nm args):=by
 refine x93 (R:=PlayX V d F m nm args) ?_;obtain⟨i,pr,N,z,u⟩:=qGR I;obtain⟨X,C,D⟩:=good_lens G;refine Tri.mono (c137 hm X C D) ?_;rintro _ V1 ⟨gs,ns,nd,rfl,L⟩;refine⟨gs,ns,rfl,(c136 (J.sub L.sub)).call ⟨_,rfl,?_⟩⟩;rw[show qHu (λt:Pr=>decide (t.name=nm)) d.procs=(i:Int)from N];intro p Z;have p0:V p=none:=free L.sub Z;have E:=Mem.sub_new Z (.cells (qBC d F 0 0 0 0 0 gs ns qAD).toArray 119 (0,0));have K:XM V d p F (V1.set p (.cells (qBC d F 0 0 0 0 0 gs ns qAD).toArray 119 (0,0))) (qBU m) ((0:Nat):Int) 0:=⟨p0,gs,ns,qAD,nd,by rw[Mem.set_same];rfl,L.grow E⟩;have S:=callY (allY d p F (F+1)) V (V1.set p (.cells (qBC d F 0 0 0 0 0 gs ns qAD).toArray 119 (0,0))) (qBU m) 0 i pr args l ⟨J,G.valid,qGy G.valid G.chk,M⟩ z (qJn G) (qAp (qCZ (qDP m).symm) u) A K (by show 0<=F;omega) (by omega) (by unfold BW;simp[qBU]);refine XR.any S λv w h V2 Y T=>?_;obtain⟨r,q,H,nd2,g,U⟩:=Y.ex;refine⟨pnn,pnn,StT.at2 (off:=12) g (by simp[qBC]) ?_⟩;have Q:XM V d p F (V2.set p (.cells (qBC d F h.tk v w h.cm (qAv h.lg) r q H).toArray 119 (0,0))) h v w:=MA.set (row':=qBC d F h.tk v w h.cm (qAv h.lg)) ntX Y.p0 g U rfl rfl rfl rfl;have P:qBS d F (qCJ d nm) args (qBU m)=qCs d (qCg d F (F+1)) 0 i args (qBU m):=by rw[N];rfl
 rcases T with⟨rfl,e⟩|⟨hk0,rfl,e⟩;·exact⟨p,.ok v h,by rw[P,e],Q,rfl⟩
 ·exact⟨p,.bad w h,by rw[P,e],Q,rfl⟩
theorem c57{p:Nat}{s:St}{c k:Int}(M:XM V0 d p F V s c k):PP 57 [pv p] V (.agg (qED k c s.cm (qAv s.lg)).toArray):=by
 obtain⟨gs,ns,ls,nd,h,L⟩:=M.ex;refine x57 ?_;exact⟨nn,nn,_,qAd h 13 1 (by simp[qBC]),nn,nn,_,qAd h 12 1 (by simp[qBC]),nn,nn,_,_,_,qAd h 14 3 (by simp[qBC]),rfl,rfl⟩
def StartX(V:Mem)(d:Ds)(F:Nat)(m:Mm)(nm:ByteArray)(args:List Int):Ending->Mem->Prop:=λe V'=>
 (qAU d m nm args F≠0/\V.sub V'/\∃q,V' q=some (.cells ([Go.Sx.vS (qAo []),qAD.v,qAD.v,qAD.v,qAD.v,qAD.v,qAD.v,qAD.v,qAD.v,qAD.v,.int .i64 0,.int .i64 0,.int .i64 0,.int .i64 0,.int .i64 0,.int .i64 0,.int .i64 0,qAD.v]:List Value).toArray 119 (0,0))/\e=.returned (.tuple #[pv q,.int .i64 (qAU d m nm args F)]))∨
 (qAU d m nm args F=0/\∃p,∃r:Rx Int,r=qBS d F (qCJ d nm) args (qBU m)/\XM V d p F V' r.st (outV r) (outC r)/\e=.returned (.tuple #[pv p,.int .i64 0]))
theorem c56(u:Ds.Ok V d)(hm:Mm.Ok V m)(w:qAc V l 1 (args.map qAf))(z:F<=4000):Tri xD 56 #[d.v,m.v,.agg #[.string nm,l.v],.int .i64 F] V (StartX V d F m nm args):=by
 refine x56 (R:=StartX V d F m nm args) ?_;have bad:∀{e:Int},qAU d m nm args F=e->e≠0->∀b,V b=none->StartX V d F m nm args (.returned (.tuple #[pv b,.int .i64 e])) (V.set b (.cells ([Go.Sx.vS (qAo []),qAD.v,qAD.v,qAD.v,qAD.v,qAD.v,qAD.v,qAD.v,qAD.v,qAD.v,.int .i64 0,.int .i64 0,.int .i64 0,.int .i64 0,.int .i64 0,.int .i64 0,.int .i64 0,qAD.v]:List Value).toArray 119 (0,0))):=λh q b g=>.inl ⟨by rw[h];exact q,Mem.sub_new g _,b,Mem.set_same _ _ _,by rw[h]⟩;refine(c91 u hm).call ⟨_,rfl,λh0=>?_,λh0=>⟨λh=>absurd h h0,λ_ b g=>?_⟩⟩
 ·have G:=qFr h0;have H:qAU d m nm args F=qCK d m nm args:=by grind[qAU]
  refine(c92 u hm w).call ⟨_,rfl,λh1=>?_,λh1 b g=>bad H h1 b g⟩;refine Tri.mono (c93 u hm G w h1 z) ?_;rintro _ V1 ⟨p,r,J,M,rfl⟩;exact⟨_,rfl,.inr ⟨by omega,p,r,J,M,rfl⟩⟩
 ·exact bad (by grind[qAU]) h0 b g
end
section
variable{V V0:Mem}{d:Ds}{m:Mm}{nm:ByteArray}{args:List Int}{l:Sl}
theorem given_fuel{F:Int}(h:qAZ d m F=0):0<=F/\F<=1048576:=by
 grind[qAZ]
end
def rsS(s:St):St:=⟨s.g,s.ns,0,0,[]⟩
abbrev O4:=Int×Int×Nat×Nat
def oRow(o:O4):List Value:=qED o.1 o.2.1 o.2.2.1 o.2.2.2
def outO(r:Rx Int):O4:=(outC r,outV r,r.st.cm,qAv r.st.lg)
structure Cl2 where
 name:ByteArray
 sl:Sl
 args:List Int
def Cl2.row(c:Cl2):List Value:=[.string c.name,c.sl.v]
structure Cls.Ok (V:Mem)(l:Sl)(cs:List Cl2):Prop where
 rows:qAc V l 2 (cs.map Cl2.row)
 args:∀c∈cs,qAc V c.sl 1 (c.args.map qAf)
theorem Cls.Ok.sub{V V':Mem}{l:Sl}{cs:List Cl2}(h:Cls.Ok V l cs)(g:V.sub V'):Cls.Ok V' l cs:=⟨h.rows.sub g,λc u=>(h.args c u).sub g⟩
section
variable(d:Ds)(F:Nat)
def qKP(c:Cl2)(s:St):Rx Int:=qBS d F (qCJ d c.name) c.args s
def scE:St->List Cl2->Int
 |_,[]=>0
 |s,c::cs=>if qCK d s.mm c.name c.args=0 then scE (rsS (qKP d F c s).st) cs else qCK d s.mm c.name c.args
def scO:St->List Cl2->List O4
 |_,[]=>[]
 |s,c::cs=>outO (qKP d F c s)::scO (rsS (qKP d F c s).st) cs
def scS:St->List Cl2->St
 |s,[]=>s
 |s,c::cs=>scS (rsS (qKP d F c s).st) cs
end
noncomputable def scrE(d:Ds)(F:Int)(m:Mm)(cs:List Cl2):Int:=if qAZ d m F=0 then(if 2000<cs.length then 4 else scE d F.toNat (qBU m) cs)else qAZ d m F
theorem loop6{V:Mem}{B:Sl->Sl->Sl->Int->Sl->Int->Mem->(List Value->Mem->Prop)->Prop}{a0 b0 x0:Sl}{y0:Int}{c0:Sl}(len:Nat)(St:Nat->Sl->Sl->Sl->Mem->Prop)(h0:St 0 a0 b0 c0 V)
  (step:∀(i:Nat)(a b x:Sl)(y:Int)(c:Sl) V1 J,i<=len->St i a b c V1->(i<len->∀(h g w:Sl)(r:Int)(u:Sl) V2,St (i+1) h g u V2->J [.slice h.p h.n h.c,.slice g.p g.n g.c,.slice w.p w.n w.c,.int .i64 r,.slice u.p u.n u.c,.int .i64 ((i:Int)+1)] V2)->B a b x y c (i:Int) V1 J):
  ∃(I:Nat->List Value->Mem->Prop)(H:Nat),I H [.slice a0.p a0.n a0.c,.slice b0.p b0.n b0.c,.slice x0.p x0.n x0.c,.int .i64 y0,.slice c0.p c0.n c0.c,.int .i64 0] V/\∀n V1,∀(a b x:Sl)(y:Int)(c:Sl)(v:Int),I n [.slice a.p a.n a.c,.slice b.p b.n b.c,.slice x.p x.n x.c,.int .i64 y,.slice c.p c.n c.c,.int .i64 v] V1->∀J:List Value->Mem->Prop,(∀m ys z,m<n->I m ys z->J ys z)->B a b x y c v V1 J:=by
 refine⟨LI len λi xs V=>∃(a b x:Sl)(y:Int)(c:Sl),xs=[.slice a.p a.n a.c,.slice b.p b.n b.c,.slice x.p x.n x.c,.int .i64 y,.slice c.p c.n c.c,.int .i64 i]/\St i a b c V,len,LI.start ⟨a0,b0,x0,y0,c0,rfl,h0⟩,?_⟩;rintro n V1 a b x y c v ⟨i,rfl,G,h,g,w,r,u,e,N⟩ J Z;simp only[yD,zl,true_and,and_true]at e;obtain⟨h1,h2,h3,rfl,Y,rfl⟩:=e;cases qBc _ _ h1;cases qBc _ _ h2;cases qBc _ _ Y;exact step i _ _ _ _ _ V1 J G N λq h g w r u V2 h2=>LI.next Z q ⟨h,g,w,r,u,rfl,h2⟩
theorem app73:AppP 73 54 5 oRow:=appG Tryz.underlying73 (by kernel_rfl) (by kernel_rfl) (by kernel_rfl) (by kernel_rfl) (by kernel_rfl) (by decide) (by intro _;rfl) λx u hu=>by simp only[oRow,qED,yC,List.not_mem_nil,or_false]at hu;rcases hu with rfl|rfl|rfl|rfl|rfl<;>rfl
theorem one_out{V:Mem}{b t:Nat}(o:O4)(h:V b=some (.cells (oRow o).toArray t (0,0))):qAc V ⟨some ⟨b,0,none⟩,1,1⟩ 5 ([o].map oRow):=
 qAc.cells (xs:=[o]) (row:=oRow) h rfl (λ_=>rfl) rfl (by simp)
section
variable{V V0:Mem}{d:Ds}{F:Nat}{m:Mm}{l:Sl}{cs:List Cl2}
theorem mm_len'{s:St}{a b:Sl}{nd:List Nd}(h:nd.map (λn=>(n.ty,n.f))=s.ns):(⟨a,s.g,b,nd⟩:Mm).plain=s.mm.plain:=by
 grind[St.plain,Mm.plain]
theorem lay_rs{W V:Mem}{gs ns ls:Sl}{nd:List Nd}{s:St}(L:Lay W V gs ns ls nd s):Lay W V gs ns qAD nd (rsS s):=⟨L.glob,L.nodes,Own.nil L.sub _ _,L.fld,L.eq,L.gf,L.ff⟩
theorem st_eta{s:St}(h:s=rsS s){a b:Sl}{nd:List Nd}(u:nd.map (λn=>(n.ty,n.f))=s.ns):qBU ⟨a,s.g,b,nd⟩=s:=by
 grind[qBU,rsS]
def ScrP(V:Mem)(d:Ds)(F:Int)(m:Mm)(cs:List Cl2):Ending->Mem->Prop:=λe V'=>V.sub V'/\
 ((scrE d F m cs≠0/\e=.returned (.tuple #[qAD.v,.agg #[qAD.v,qAD.v],.int .i64 (scrE d F m cs)]))∨
 (scrE d F m cs=0/\∃(o a b:Sl)(nd:List Nd),qAc V' o 5 ((scO d F.toNat (qBU m) cs).map oRow)/\Mm.Ok V' ⟨a,(scS d F.toNat (qBU m) cs).g,b,nd⟩/\nd.map (λn=>(n.ty,n.f))=(scS d F.toNat (qBU m) cs).ns/\qAz d (scS d F.toNat (qBU m) cs).mm/\e=.returned (.tuple #[o.v,.agg #[a.v,b.v],.int .i64 0])))
structure At (d:Ds)(F:Nat)(s0:St)(cs:List Cl2)(j:Nat)(outs:List O4)(s:St):Prop where
 err:scE d F s0 cs=scE d F s (cs.drop j)
 out:scO d F s0 cs=outs++scO d F s (cs.drop j)
 st:scS d F s0 cs=scS d F s (cs.drop j)
 len:outs.length=j
 rs:s=rsS s
 good:qAz d s.mm
theorem At.start{s:St}(h:s=rsS s)(G:qAz d s.mm):At d F s cs 0 [] s:=⟨by rfl,by rfl,by rfl,rfl,h,G⟩
theorem At.next{s0 s:St}{j:Nat}{outs:List O4}{c:Cl2}(h:At d F s0 cs j outs s)(z:cs.drop j=c::cs.drop (j+1))(h0:qCK d s.mm c.name c.args=0)(g:qAz d (qKP d F c s).st.mm):At d F s0 cs (j+1) (outs++[outO (qKP d F c s)]) (rsS (qKP d F c s).st):=by
 have r:=h.err;have u:=h.out;have w:=h.st;rw[z]at r u w;refine⟨?_,?_,w,by rw[zw,h.len];rfl,rfl,⟨g.valid,g.chk,g.mem⟩⟩;·grind[scE]
 ·rw[u,scO];simp
theorem At.stop{s0 s:St}{j:Nat}{outs:List O4}{c:Cl2}(h:At d F s0 cs j outs s)(g:cs.drop j=c::cs.drop (j+1))(h0:qCK d s.mm c.name c.args≠0):scE d F s0 cs=qCK d s.mm c.name c.args:=by
 rw[h.err,g,scE,if_neg h0]
theorem c33[Tab V](X:Ds.Ok V d)(hm:Mm.Ok V m)(q:Cls.Ok V l cs){F:Int}(hF:F<=3000∨1048576<F):Tri xD 33 #[d.v,m.v,l.v,.int .i64 F] V (ScrP V d F m cs):=by
 refine x33 (R:=ScrP V d F m cs) ?_;have hln:=q.rows.n_eq;have bad:∀{k:Int}{V':Mem},scrE d F m cs=k->k≠0->V.sub V'->ScrP V d F m cs (.returned (.tuple #[qAD.v,.agg #[qAD.v,qAD.v],.int .i64 k])) V':=λh w hs=>⟨hs,.inl ⟨by rw[h];exact w,by rw[h]⟩⟩;refine(c71 X hm).call ⟨_,rfl,λh0=>⟨λK=>?_,λK=>?_⟩,λh0=>?_⟩;·exact bad (by grind[scrE]) (by decide) (Mem.sub.refl _)
 rotate_left;·exact bad (by grind[scrE]) h0 (Mem.sub.refl _)
 have K:¬(2000:Int)<(l.n:Int):=K;have G:=qFr h0;have hf:=given_fuel h0;obtain⟨n,rfl⟩:∃n:Nat,F=(n:Int):=⟨F.toNat,by omega⟩;have Q:scrE d (n:Int) m cs=scE d n (qBU m) cs:=by grind[scrE]
 obtain⟨l1,l2,l3⟩:=good_lens G;refine Tri.mono (c72 hm l1 l2 l3) ?_;rintro _ V1 ⟨gs,ns,nd,rfl,L⟩;refine⟨gs,ns,rfl,loop6 (x0:=qAD) (y0:=0) (c0:=qAD) cs.length (λj a b o V2=>∃W outs s nd,V.sub W/\Sx.Own V W 54 5 o (outs.flatMap oRow)/\Lay W V2 a b qAD nd s/\At d n (qBU m) cs j outs s) ⟨V,[],qBU m,nd,Mem.sub.refl _,Own.nil (Mem.sub.refl _) _ _,L,.start rfl (qJn G)⟩ ?_⟩;rintro j a b x y o V2 J hj ⟨W,outs,s,nd,z,S,L,A⟩ hJ;have H:=q.sub (z.trans L.sub);refine⟨λN=>?_,λT=>?_⟩
 ·obtain⟨c,U,hc,P,hjl,hp,hz,I⟩:=H.rows.get N;have hst:=st_eta (a:=a) (b:=b) A.rs L.eq;have Gm:qAz d ⟨a,s.g,b,nd⟩:=⟨A.good.valid,A.good.chk,qEk (mm_len' L.eq).symm A.good.mem⟩;have hmk:=(qGF (X.sub z) L A.good).1;have Z:qCK d ⟨a,s.g,b,nd⟩ c.name c.args=qCK d s.mm c.name c.args:=qKA (mm_len' L.eq);refine⟨hp,hz,N,_,_,I,Tri.mono (c73 (F:=n) (m:=⟨a,s.g,b,nd⟩) ⟨X.sub z,G.valid,qGy G.valid G.chk,by omega⟩ (by grind) hmk Gm ((q.args c U).sub z)) ?_⟩;rintro e V3 (⟨w,s3,rfl⟩|⟨w,p,cc,r,C,M,rfl⟩)
  ·rw[Z]at w⊢;exact⟨_,_,_,_,_,_,_,rfl,λh=>absurd h w,λ_=>bad (Q.trans (A.stop P w)) w (z.trans (L.sub.trans s3))⟩
  ·rw[Z]at w;rw[hst]at C;have C:r=qKP d n c s:=C;refine⟨_,_,_,_,_,_,_,rfl,λ_ tb htb=>?_,λh=>absurd rfl h⟩;have ho3:Sx.Own V V3 54 5 o (outs.flatMap oRow):=Own.moveB S (z.trans M.sub) λg cur _ hg=>M.sub _ _ hg;refine app73 (s:=o) (u:=⟨some ⟨tb,0,none⟩,1,1⟩) (xs:=outs) (ys:=[outO r]) rfl rfl (ho3.but.new htb (.cells (oRow (outO r)).toArray 54 (0,0))) (one_out (outO r) mss) (by have:=A.len;simp;omega) λo4 V4 ho4=>⟨o4,rfl,?_⟩;obtain⟨W',hW',M4,ho5⟩:=M.beside z S ho4;obtain⟨gs4,ns4,ls4,nd4,hat,L4⟩:=M4.ex;have hgd:qAz d (qKP d n c s).st.mm:=by
    have:=qGz (F:=n) Gm (by rw[Z];exact w);simp_all
   have A':=A.next P w hgd;rw[<-C]at A';exact⟨nn,nn,gs4,ns4,qAd hat 8 2 (by simp[qBV]),H.rows.succ N,hJ hjl _ _ _ _ _ _ ⟨W',_,_,nd4,hW',ho5,lay_rs L4,A'⟩⟩
 ·have hdn:=(H.rows.done T).2;have D:=A.err;have E:=A.out;have Y:=A.st;rw[List.drop_eq_nil_of_le hdn]at D E Y;have D:scE d n (qBU m) cs=0:=D;have E:scO d n (qBU m) cs=outs:=by rw[E];simp[scO]
  have Y:scS d n (qBU m) cs=s:=Y;refine⟨z.trans L.sub,.inr ⟨Q.trans D,o,a,b,nd,?_,?_,?_,?_,rfl⟩⟩
  ·show qAc V2 o 5 ((scO d n (qBU m) cs).map oRow);rw[E];exact(S.rows (λ_=>rfl) (by decide)).sub L.sub
  ·show Mm.Ok V2 ⟨a,(scS d n (qBU m) cs).g,b,nd⟩;rw[Y];exact(qGF (X.sub z) L A.good).1
  ·show _=(scS d n (qBU m) cs).ns;rw[Y];exact L.eq
  ·show qAz d (scS d n (qBU m) cs).mm;rw[Y];exact A.good
end
end Go.Proofs
namespace Go.Proofs
open Go Go.Sx
abbrev Bj:=List (Int×Int)
end Go.Proofs
namespace Go.Proofs
open Go Go.Sx
end Go.Proofs
namespace Go.Proofs
open Go Go.Sx
structure Sr where
 order:List Int
 again:Int
def qDl(x:Fld×Int):Bool:=!qBD x.1.ty&&decide (x.2≠0)
def tgtI(l:List Fld)(vs:List Int)(i:Nat):List Int:=(((l.zip vs).take i).filter qDl).map (·.2)
def tgt(l:List Fld)(vs:List Int):List Int:=((l.zip vs).filter qDl).map (·.2)
def qAQ(d:Ds)(m:Mm)(n:Int):List Int:=match m.nodes[(n-1).toNat]? with|some x=>tgt (qAs d x.ty) x.f|none=>[]
def qCW(d:Ds)(m:Mm):Nat->Sr->Int->Sr
 |0,st,_=>st
 |f+1,st,n=>if n∈st.order then⟨st.order,if st.again=0 then n else st.again⟩else(qAQ d m n).foldl (qCW d m f) ⟨st.order++[n],st.again⟩
def lookP(d:Ds)(m:Mm)(f:Nat)(st:Sr)(l:List Fld)(vs:List Int):Sr:=(tgt l vs).foldl (qCW d m f) st
def qBv(d:Ds)(m:Mm):Sr:=lookP d m (m.nodes.length+1) ⟨[],0⟩ d.globals m.globals
theorem tgtI_zero(l:List Fld)(vs:List Int):tgtI l vs 0=[]:=rfl
theorem qEK{l:List Fld}{vs:List Int}{i:Nat}{f:Fld}{v:Int}(g:l[i]?=some f)(hv:vs[i]?=some v):tgtI l vs (i+1)=tgtI l vs i++if qDl (f,v)=true then[v]else[]:=by
 have u:(l.zip vs)[i]?=some (f,v):=by rw[vo];exact⟨g,hv⟩
 unfold tgtI;rw[we,u,List.filter_append,List.map_append];by_cases h:qDl (f,v)=true;·simp[h]
 ·simp[h]
theorem qKL{l:List Fld}{vs:List Int}{i:Nat}(h:l.length<=i):tgtI l vs i=tgt l vs:=by
 unfold tgtI tgt;rw[wY];rw[vn];omega
def unS(m:Mm)(st:Sr):Nat:=((List.range m.nodes.length).filter λ(i:Nat)=>!decide (((i:Int)+1)∈st.order)).length
theorem entP_sub(d:Ds)(m:Mm):∀(f:Nat)(st:Sr)(n:Int),∀x∈st.order,x∈(qCW d m f st n).order
 |0,st,n,x,h=>h
 |f+1,st,n,x,h=>by
  unfold qCW;split;·exact h
  ·have:∀(l:List Int)(s:Sr),x∈s.order->x∈(l.foldl (qCW d m f) s).order:=λl=>by
    induction l with
    |nil=>exact λs h=>h
    |cons a l g=>exact λs h=>g _ (entP_sub d m f s a x h)
   exact this _ _ (vm _ h)
theorem foldP_sub(d:Ds)(m:Mm)(f:Nat)(x:Int):∀(l:List Int)(s:Sr),x∈s.order->x∈(l.foldl (qCW d m f) s).order:=λl=>by
 induction l with
 |nil=>exact λs h=>h
 |cons a l g=>exact λs h=>g _ (entP_sub d m f s a x h)
theorem qJv{α:Type}{p q:α->Bool}:∀{l:List α},(∀a∈l,q a=true->p a=true)->(l.filter q).length<=(l.filter p).length
 |[],_=>yU _
 |a::l,h=>by
  have g:=qJv (l:=l) λx u=>h x (zb _ u);have w:=h a zc;rw[z7,z7];cases z:q a with
  |true=>rw[w z];simpa using g
  |false=>
   cases r:p a with
   |true=>simp;omega
   |false=>simpa using g
theorem filter_lt{α:Type}{p q:α->Bool}:∀{l:List α},(∀a∈l,q a=true->p a=true)->∀a∈l,p a=true->q a=false->(l.filter q).length<(l.filter p).length
 |[],_,a,g,_,_=>by cases g
 |b::l,h,a,g,w,z=>by
  have r:∀x∈l,q x=true->p x=true:=λx v=>h x (zb _ v);rw[z7,z7];rcases yC.1 g with rfl|hm
  ·rw[w,z];have:=qJv r;simp;omega
  ·have e:=filter_lt r a hm w z;have H:=h b zc;cases u:q b with
   |true=>rw[H u];simpa using e
   |false=>
    cases J:p b with
    |true=>simp;omega
    |false=>simpa using e
section
variable{d:Ds}{m:Mm}{st:Sr}
theorem unS_le{a b:Sr}(h:∀x∈a.order,x∈b.order):unS m b<=unS m a:=by
 unfold unS;refine qJv λi _ g=>?_;simp only[zU,decide_eq_false_iff_not]at g⊢;exact λk=>g (h _ k)
theorem unS_lt{n:Int}(u:1<=n/\n<=(m.nodes.length:Int))(h:¬n∈st.order){a:Int}:unS m ⟨st.order++[n],a⟩<unS m st:=by
 unfold unS;obtain⟨i,rfl⟩:∃i:Nat,n=(i:Int)+1:=⟨(n-1).toNat,by omega⟩;refine filter_lt (λj _ g=>?_) i (List.mem_range.2 (by omega)) (by simpa using h) (by simp);simp only[zU,decide_eq_false_iff_not]at g⊢;exact λk=>g (vm _ k)
theorem qKi{xs:List Fld}{vs:List Int}(h:qAh d m xs vs=true){i:Nat}{f:Fld}{v:Int}(r:xs[i]?=some f)(w:vs[i]?=some v)(u:qBD f.ty=false)(h0:v≠0):1<=v/\v<=(m.nodes.length:Int):=by
 obtain⟨q,g,z⟩:=qGk h r;rw[w]at g;cases g;unfold qBD at u;simp only[Bool.or_eq_false_iff,decide_eq_false_iff_not]at u;unfold qAy at z;rw[if_neg u.1,if_neg u.2,decide_eq_true_eq]at z;rcases z with h|⟨h1,h2,-⟩;·exact absurd h h0
 ·exact⟨h1,h2⟩
end
section
variable{d:Ds}{m c:Mm}{O:List Int}
structure Cl (d:Ds)(m:Mm)(a b:Sr):Prop where
 sub:∀x∈a.order,x∈b.order
 shut:∀x∈b.order,x∈a.order∨∀y∈qAQ d m x,y∈b.order
 dup:a.order.Nodup->b.order.Nodup
 rng:(∀x∈a.order,1<=x/\x<=(m.nodes.length:Int))->∀x∈b.order,1<=x/\x<=(m.nodes.length:Int)
 cap:a.order.length+unS m a<=m.nodes.length->b.order.length+unS m b<=m.nodes.length
theorem Cl.trans{a b e:Sr}(h:Cl d m a b)(k:Cl d m b e):Cl d m a e:=⟨λx g=>k.sub x (h.sub x g),λx g=>by
 rcases k.shut x g with g|g
 ·rcases h.shut x g with g|g;·exact .inl g
  ·exact .inr λy u=>k.sub y (g y u)
 ·exact .inr g,λn=>k.dup (h.dup n),λr=>k.rng (h.rng r),λr=>k.cap (h.cap r)⟩
theorem tgt_mem{l:List Fld}{vs:List Int}{y:Int}:y∈tgt l vs↔∃(i:Nat)(f:Fld),l[i]?=some f/\vs[i]?=some y/\qBD f.ty=false/\y≠0:=by
 unfold tgt qDl;simp only[vk,List.mem_filter,zC,zU,decide_eq_true_eq,Prod.exists,exists_eq_right];constructor
 ·rintro⟨f,h,h1,h2⟩;obtain⟨i,g⟩:=xk.1 h;rw[vo]at g;exact⟨i,f,g.1,g.2,h1,h2⟩
 ·rintro⟨i,f,h,h1,h2,h3⟩;exact⟨f,xk.2 ⟨i,vo.2 ⟨h,h1⟩⟩,h2,h3⟩
theorem qKc(hv:qAx d m=true):(∀y∈tgt d.globals m.globals,1<=y/\y<=(m.nodes.length:Int))/\∀n,∀y∈qAQ d m n,1<=y/\y<=(m.nodes.length:Int):=by
 obtain⟨-,-,-,g,u⟩:=qAl hv;refine⟨λy h=>?_,λn y h=>?_⟩
 ·obtain⟨i,f,h1,h2,h3,h4⟩:=tgt_mem.1 h;exact qKi g h1 h2 h3 h4
 ·unfold qAQ at h;split at h
  ·rename_i x w;obtain⟨i,f,h1,h2,h3,h4⟩:=tgt_mem.1 h;exact qKi (u x (xv w)) h1 h2 h3 h4
  ·cases h
theorem qLy{f:Nat}(H:∀st n,1<=n/\n<=(m.nodes.length:Int)->unS m st<f->Cl d m st (qCW d m f st n)/\n∈(qCW d m f st n).order):
  ∀(l:List Int)(s:Sr),(∀y∈l,1<=y/\y<=(m.nodes.length:Int))->unS m s<f->Cl d m s (l.foldl (qCW d m f) s)/\∀y∈l,y∈(l.foldl (qCW d m f) s).order
 |[],s,_,_=>⟨⟨λ_ h=>h,λ_ h=>.inl h,λh=>h,λh=>h,λh=>h⟩,λ_ h=>by cases h⟩
 |a::l,s,u,r=>by
  obtain⟨w,q⟩:=H s a (u a zc) r;obtain⟨z,e⟩:=qLy H l (qCW d m f s a) (λy g=>u y (zb _ g)) (by have:=unS_le (m:=m) w.sub;omega);refine⟨w.trans z,λy g=>?_⟩;rcases yC.1 g with rfl|g;·exact z.sub _ q
  ·exact e y g
theorem ent_cl(hv:qAx d m=true):∀(f:Nat)(st:Sr)(n:Int),1<=n/\n<=(m.nodes.length:Int)->unS m st<f->Cl d m st (qCW d m f st n)/\n∈(qCW d m f st n).order
 |0,_,_,_,h=>absurd h (Nat.not_lt_zero _)
 |f+1,st,n,z,G=>by
  rw[qCW];split;·rename_i h;exact⟨⟨λ_ h=>h,λ_ h=>.inl h,λh=>h,λh=>h,λh=>h⟩,h⟩
  ·rename_i w;have r:=unS_lt z w (a:=st.again);obtain⟨u,q⟩:=qLy (ent_cl hv f) (qAQ d m n) ⟨st.order++[n],st.again⟩ (λy v=>(qKc hv).2 n y v) (by omega);have hm:n∈(⟨st.order++[n],st.again⟩:Sr).order:=by simp
   refine⟨⟨λx g=>u.sub x (vm _ g),λx g=>?_,λh=>u.dup ?_,λh=>u.rng λx g=>?_,λh=>u.cap ?_⟩,u.sub n hm⟩
   ·rcases u.shut x g with h|h
    ·rcases xh.1 h with h|h;·exact .inl h
     ·rw[zO.1 h];exact .inr q
    ·exact .inr h
   ·show(st.order++[n]).Nodup;rw[List.nodup_append];refine⟨h,by simp,λa H b J e=>w ?_⟩;rw[<-zO.1 J,<-e];exact H
   ·rcases xh.1 g with g|g;·exact h x g
    ·rw[zO.1 g];exact z
   ·show(st.order++[n]).length+_<=_;rw[zw,xi];omega
structure Rch (d:Ds)(m:Mm)(O:List Int):Prop where
 dup:O.Nodup
 rng:∀x∈O,1<=x/\x<=(m.nodes.length:Int)
 glob:∀y∈tgt d.globals m.globals,y∈O
 shut:∀x∈O,∀y∈qAQ d m x,y∈O
 cap:O.length<=m.nodes.length
theorem qKI:unS m ⟨[],0⟩<=m.nodes.length:=by
 unfold unS;have:=List.length_filter_le (λi:Nat=>!decide (((i:Int)+1)∈(⟨[],0⟩:Sr).order)) (List.range m.nodes.length);rw[List.length_range]at this;exact this
theorem qGx(hv:qAx d m=true):Rch d m (qBv d m).order:=by
 have hu:=qKI (m:=m);obtain⟨g,w⟩:=qLy (ent_cl hv (m.nodes.length+1)) (tgt d.globals m.globals) ⟨[],0⟩ (qKc hv).1 (by omega);refine⟨g.dup List.nodup_nil,g.rng (λx u=>by cases u),w,λx u=>?_,?_⟩
 ·rcases g.shut x u with h|h;·cases h
  ·exact h
 ·have:=g.cap (by show 0+_<=_;omega);exact Nat.le_trans (Nat.le_add_right _ _) this
def qHK(l:List Int)(x:Int):Int:=qHu (λy=>decide (y=x)) l
def rho(O:List Int)(x:Int):Int:=if x=0 then 0 else qHK O x+1
def renL(O:List Int)(l:List Fld)(vs:List Int):List Int:=(l.zip vs).map λx=>if qBD x.1.ty=true then x.2 else rho O x.2
structure IsCan (d:Ds)(m c:Mm)(O:List Int):Prop where
 globals:c.globals=renL O d.globals m.globals
 len:c.nodes.length=O.length
 at_:∀(i:Nat) n x,O[i]?=some n->m.nodes[(n-1).toNat]?=some x->∃s,c.nodes[i]?=some ⟨x.ty,s,renL O (qAs d x.ty) x.f⟩
theorem rho_zero:rho O 0=0:=by unfold rho;rw[if_pos rfl]
theorem ren_at{l:List Fld}{vs:List Int}{i:Nat}{f:Fld}{v:Int}(h:l[i]?=some f)(hv:vs[i]?=some v):(renL O l vs)[i]?=some (if qBD f.ty=true then v else rho O v):=by
 have g:(l.zip vs)[i]?=some (f,v):=vo.2 ⟨h,hv⟩;unfold renL;rw[ya,g];rfl
end
end Go.Proofs
namespace Go.Proofs
open Go Go.Sx
section
variable{d:Ds}{B:Bj}{s t:St}
def canP(d:Ds)(m:Mm):List Int×List (Int×List Int):=
 (renL (qBv d m).order d.globals m.globals,(qBv d m).order.map λn=>match m.nodes[(n-1).toNat]? with|some x=>(x.ty,renL (qBv d m).order (qAs d x.ty) x.f)|none=>(0,[]))
end
end Go.Proofs
namespace Go.Proofs
open Go Go.Sx
attribute [local irreducible] Go.Sx.Tri
section
variable{V0 V V1:Mem}{d:Ds}{m:Mm}{p ib:Nat}{st:Sr}{o:Sl}
def srow(d:Ds)(m:Mm)(o:Sl)(ib:Nat)(a:Int):List Value:=[Go.Sx.vS d.name,d.ts.v,d.gs.v,d.ps.v,d.ms.v,d.is.v,d.qs.v,d.bs.v,m.gs.v,m.ns.v,o.v,.map (some ib),.int .i64 a]
def kn(O:List Int)(n:Int):Option Int:=if n∈O then some (qHK O n+1)else none
theorem pos_app{O:List Int}{n x:Int}(g:x∈O):qHK (O++[n]) x=qHK O x:=by
 unfold qHK qHu;rw[vj];cases h:O.findIdx? (λy=>decide (y=x))with
 |none=>exact absurd (decide_eq_true rfl) (by rw[vh.1 h x g];decide)
 |some i=>rfl
theorem pos_new{O:List Int}{n:Int}(g:¬n∈O):qHK (O++[n]) n=(O.length:Int):=by
 unfold qHK qHu;have h:O.findIdx? (λy=>decide (y=n))=none:=vh.2 λx u=>decide_eq_false (by rintro rfl;exact g u);rw[vj,h];simp[List.findIdx?_cons]
theorem kn_new{O:List Int}{n:Int}(g:¬n∈O)(x:Int):kn (O++[n]) x=if x=n then some ((O.length:Int)+1)else kn O x:=by
 unfold kn;by_cases h:x=n
 ·subst h;rw[if_pos (by simp),if_pos rfl,pos_new g]
 ·rw[if_neg h];by_cases hm:x∈O;·rw[if_pos (by simp[hm]),if_pos hm,pos_app hm]
  ·rw[if_neg (by simp[hm,h]),if_neg hm]
structure SrAt (V0:Mem)(d:Ds)(m:Mm)(p ib:Nat)(V:Mem)(st:Sr)(o:Sl):Prop where
 at_:V p=some (.cells (srow d m o ib st.again).toArray 253 (0,0))
 own:Sx.Own V0 V 3 1 o (st.order.flatMap qAf)
 map:qGh (xe .i64) V ib λn=>(kn st.order n).map (xe .i64)
 cap:st.order.length+unS m st<=m.nodes.length
 rng:∀x∈st.order,1<=x/\x<=(m.nodes.length:Int)
structure SrS (V0:Mem)(d:Ds)(m:Mm)(p ib:Nat):Prop where
 mem:qAx d m=true
 ds:Ds.Ok V0 d
 mm:Mm.Ok V0 m
 p0:V0 p=none
 i0:V0 ib=none
 pi:p≠ib
theorem SrAt.cell(h:SrAt V0 d m p ib V st o)(i n:Nat)(hi:i+n<=13):V.rowp (sa p) i n=some (((srow d m o ib st.again).drop i).take n):=qAd h.at_ i n hi
theorem kn_pos{O:List Int}{n:Int}(h:n∈O):∃j,kn O n=some j/\1<=j:=by
 unfold kn;rw[if_pos h];refine⟨_,rfl,?_⟩;unfold qHK;rcases qAG (λy=>decide (y=n)) O with⟨-,-,h1⟩|⟨j,z,h1,-⟩
 ·rw[List.any_eq_false]at h1;exact absurd (decide_eq_true rfl) (h1 n h)
 ·rw[h1];omega
def SrPost(V0:Mem)(d:Ds)(m:Mm)(p ib:Nat)(st:Sr):Ending->Mem->Prop:=λe V'=>e=.returned (.tuple #[])/\∃o,SrAt V0 d m p ib V' st o
variable(V0 d m p ib)in
def EntC(N:Nat):Prop:=∀(st:Sr)(n:Int)(f:Nat) V o,SrAt V0 d m p ib V st o->1<=n/\n<=(m.nodes.length:Int)->unS m st<=N->unS m st<f->
 Tri xD 254 #[pv p,.int .i64 n] V (SrPost V0 d m p ib (qCW d m f st n))
theorem lookC{N:Nat}(D:EntC V0 d m p ib N){l s:Sl}{xs:List Fld}{vs:List Int}(E:qAc V0 l 2 (xs.map Fld.row))(K:qAc V0 s 1 (vs.map qAf))(hv:qAh d m xs vs=true){f:Nat}(h:SrAt V0 d m p ib V st o)(hN:unS m st<=N)(hf:unS m st<f):
  Tri xD 209 #[pv p,l.v,s.v] V (SrPost V0 d m p ib ((tgt xs vs).foldl (qCW d m f) st)):=by
 refine Tri.mono (x209 (R:=SrPost V0 d m p ib ((tgt xs vs).foldl (qCW d m f) st)) ?_) λ_ _ h=>h;have C:xs.length=vs.length:=(qAB.1 hv).1;refine qJe xs.length (λi V1=>∃q,SrAt V0 d m p ib V1 ((tgtI xs vs i).foldl (qCW d m f) st) q) ⟨o,by rw[tgtI_zero];exact h⟩ ?_;rintro i V1 J hi ⟨q,h1⟩ Q;have g:=E.sub h1.own.sub;have e:=K.sub h1.own.sub;refine⟨λu=>?_,λP=>?_⟩
 ·obtain⟨x,S,A,-,r,T,I,H⟩:=g.get u;have n1:=g.n_eq;have n2:=e.n_eq;obtain⟨y,U,M,-,hjl,G,Z,w⟩:=e.get (i:=i) (by omega);have hu:unS m ((tgtI xs vs i).foldl (qCW d m f) st)<=unS m st:=unS_le λz I=>foldP_sub d m f z _ _ I;have same:qDl (x,y)=false->∃L,SrAt V0 d m p ib V1 ((tgtI xs vs (i+1)).foldl (qCW d m f) st) L:=λX=>by
   rw[qEK A M,X,if_neg (by decide),vg];exact⟨q,h1⟩
  refine⟨T,I,u,_,_,H,c124.call ⟨_,rfl,λh2=>⟨g.succ u,Q r _ (same ?_)⟩,λh2=>⟨G,Z,by omega,_,w,λh3=>⟨g.succ u,Q r _ (same ?_)⟩,λh3=>⟨G,Z,by omega,_,w,?_⟩⟩⟩⟩;·unfold qDl;rw[show qBD x.ty=true from h2];rfl
  ·have h3:y=0:=h3;unfold qDl;rw[h3];simp
  ·have Y:qBD x.ty=false:=(Bool.not_eq_true _).mp h2;have h3:¬y=0:=h3;have X:qDl (x,y)=true:=by unfold qDl;rw[Y,decide_eq_true h3];rfl
   refine Tri.mono (D _ y f V1 q h1 (qKi hv A M Y h3) (by omega) (by omega)) ?_;rintro _ V2 ⟨rfl,L,h4⟩;refine⟨rfl,g.succ u,Q r _ ⟨L,?_⟩⟩;rw[qEK A M,X,if_pos rfl,vf,ve,vd];exact h4
 ·have hd:=(g.done P).2;rw[qKL hd]at h1;exact⟨rfl,q,h1⟩
theorem enterC(S:SrS V0 d m p ib)(N:Nat)(ih:∀N',N'<N->EntC V0 d m p ib N'):EntC V0 d m p ib N:=by
 intro st n f V o h hn hN hf;obtain⟨f,rfl⟩:∃f',f=f'+1:=⟨f-1,by omega⟩;refine Tri.mono (x254 (R:=SrPost V0 d m p ib (qCW d m (f+1) st n)) ?_) λ_ _ h=>h;have hg:=h.map;refine⟨nn,nn,_,h.cell 11 1 (by decide),qBB.key1 (k:=n) (qGK wo) vc qFM hg ?_⟩;by_cases z:n∈st.order
 ·obtain⟨j,hj,hj1⟩:=kn_pos z;rw[hj];have e:qCW d m (f+1) st n=⟨st.order,if st.again=0 then n else st.again⟩:=by unfold qCW;rw[if_pos z]
  rw[e];refine⟨j,rfl,λh0=>?_,λ_=>⟨nn,nn,_,h.cell 12 1 (by decide),λh0=>⟨nn,nn,?_⟩,λh0=>?_⟩⟩
  ·have h0:j=0:=h0;omega
  ·have h0:st.again=0:=h0;rw[if_pos h0];refine StT.at2 (off:=12) h.at_ (by simp[srow]) ⟨rfl,o,?_,h.own.put (h.own.apart λg w=>?_) S.p0 _,hg.set S.pi.symm,h.cap,h.rng⟩;·rw[Mem.set_same];rfl
   ·rw[h.at_]at w;cases w
  ·have h0:¬st.again=0:=h0;rw[if_neg h0];exact⟨rfl,o,h⟩
 ·have hno:kn st.order n=none:=by unfold kn;rw[if_neg z]
  rw[hno];have hcap:=h.cap;have hlt:=unS_lt (st:=st) hn z (a:=st.again);refine⟨0,rfl,λ_=>⟨nn,nn,o,h.cell 10 1 (by decide),λtb htb=>?_⟩,λh0=>absurd rfl h0⟩;have pne:∀g,V p≠some (.cells g 3 (0,0)):=λg w=>by rw[h.at_]at w;cases w
  have ine:∀g,V ib≠some (.cells g 3 (0,0)):=λg w=>by
   obtain⟨e1,D,E,-⟩:=hg.at_;rw[E]at w;cases w
  have m4:=(qAl S.mem).2.1;have Y:=(h.own.but).new htb (.cells #[.int .i64 n] 3 (0,0));refine qDL (s:=o) (u:=⟨some ⟨tb,0,none⟩,1,1⟩) (xs:=st.order) (ys:=[n]) rfl rfl Y (qIY mss) (by simp;omega) λv V2 K=>⟨v,rfl,nn,nn,?_⟩;have G:=K.sub;have T:V2 p=some (.cells (srow d m o ib st.again).toArray 253 (0,0)):=G _ _ (Mem.but_at h.at_ (h.own.apart pne));have hg2:qGh (xe .i64) V2 ib λn=>(kn st.order n).map (xe .i64):=by
   obtain⟨e1,D,E,k2⟩:=hg.at_;exact⟨e1,D,G _ _ (Mem.but_at E (h.own.apart ine)),k2⟩
  have U:Sx.Own V0 V2 3 1 v ((st.order++[n]).flatMap qAf):=K.narrow h.own.sub_but;refine StT.at2 (off:=10) T (by simp[srow]) ?_;obtain⟨Q,H⟩:∃Q,Q=V2.set p (.cells (srow d m v ib st.again).toArray 253 (0,0)):=⟨_,rfl⟩;have P:V2.set p (.cells ((srow d m o ib st.again).toArray.toList.take 10++[uL v]++(srow d m o ib st.again).toArray.toList.drop (10+[uL v].length)).toArray 253 (0,0))=Q:=H.symm;have A:Q p=some (.cells (srow d m v ib st.again).toArray 253 (0,0)):=by rw[H,Mem.set_same]
  have hg3:qGh (xe .i64) Q ib λn=>(kn st.order n).map (xe .i64):=by rw[H];exact hg2.set S.pi.symm
  have pne2:∀g,V2 p≠some (.cells g 3 (0,0)):=λg w=>by rw[T]at w;cases w
  have I:Sx.Own V0 Q 3 1 v ((st.order++[n]).flatMap qAf):=by rw[H];exact U.put (U.apart pne2) S.p0 _
  show ¬_/\_;rw[P];refine⟨nn,nn,_,qAd A 11 1 (by simp[srow]),nn,nn,v,qAd A 10 1 (by simp[srow]),qDM.key (k:=n) (qGK wo) vc hg3 λob hob=>?_⟩;have hn2:=I.n_eq (λ_=>rfl) (by decide);rw[zw,xi]at hn2;have h5:SrAt V0 d m p ib (Q.set ib ob) ⟨st.order++[n],st.again⟩ v:=by
   refine⟨by rw[Mem.set_ne S.pi];exact A,I.put (I.apart λg w=>?_) S.i0 _,hob.congr λx=>?_,?_,λx J=>?_⟩
   ·obtain⟨e1,D,E,-⟩:=hg3.at_;rw[E]at w;cases w
   ·rw[kn_new z,show((st.order.length:Int)+1)=(v.n:Int)by omega];by_cases J:x=n<;>simp[J]
   ·show(st.order++[n]).length+_<=_;rw[zw,xi];omega
   ·rcases xh.1 J with J|J;·exact h.rng x J
    ·rw[zO.1 J];exact hn
  obtain⟨q,rfl⟩:∃q:Nat,n=(q:Int)+1:=⟨(n-1).toNat,by omega⟩;have M:=S.mm.sub h5.own.sub;have hdd:=S.ds.sub h5.own.sub;have hnn:=M.nodes.n_eq;obtain⟨x,L,J,-,hl2,hpx,hzx,X⟩:=M.nodes.get (i:=q) (by omega);have hty:=(qAl S.mem).2.2.1 x L;obtain⟨D,c2⟩:=of_decide_eq_true hty;obtain⟨j,hj⟩:∃j:Nat,x.ty=(j:Int):=⟨_,(vb D).symm⟩;have htn:=hdd.types.n_eq;obtain⟨t,htm,ht,-,hl3,Z,hzt,C⟩:=hdd.types.get (i:=j) (by omega);have hI:IR ((q:Int)):=⟨by omega,by have:=(M.nodes.succ (i:=q) (by omega)).2;omega⟩;rw[show((q:Int)+1-1)=(q:Int)by omega];refine⟨nn,nn,pnn,m.ns,h5.cell 9 1 (by decide),hI,hpx,hzx,by omega,_,_,X,nn,nn,pnn,d.ts,h5.cell 1 1 (by decide),?_⟩;rw[hj];have hfo:=qAR ht hj;have r:=(qAl S.mem).2.2.2.2 x L;rw[hfo]at r;refine⟨Z,hzt,by omega,qAe Z,_,_,C,Tri.mono (lookC (ih (unS m ⟨st.order++[(q:Int)+1],st.again⟩) (by omega)) (S.ds.typesOk t htm).fields (S.mm.nodesOk x L).rows r (f:=f) h5 (yU _) (by omega)) ?_⟩;rintro _ V5 ⟨rfl,o5,h6⟩;refine⟨rfl,rfl,o5,?_⟩;have e:qCW d m (f+1) st ((q:Int)+1)=(tgt t.fields x.f).foldl (qCW d m f) ⟨st.order++[(q:Int)+1],st.again⟩:=by
   rw[qCW,if_neg z];unfold qAQ;rw[show((q:Int)+1-1).toNat=q by omega,J];show(tgt (qAs d x.ty) x.f).foldl _ _=_;rw[hfo]
  rw[e];exact h6
theorem entAll(S:SrS V0 d m p ib):∀N,EntC V0 d m p ib N:=λN=>yR N λN h=>enterC S N h
end
section
variable{V:Mem}{d:Ds}{m:Mm}
theorem c176(g:qAx d m=true)(r:Ds.Ok V d)(hm:Mm.Ok V m):Tri xD 176 #[d.v,m.v] V λe V'=>∃p ib o,e=.returned (pv p)/\SrAt V d m p ib V' (qBv d m) o:=by
 refine x176 ?_;refine GenK.makeMap λib u=>⟨some ib,rfl,λp w=>?_⟩;have q:p≠ib:=λe=>by rw[e,Mem.set_same]at w;cases w
 have z:V p=none:=by rw[Mem.set_ne q]at w;exact w
 have J:=Mem.sub_new u (.map #[] 0);have H:=Mem.sub_new w (.cells (srow d m ⟨none,0,0⟩ ib 0).toArray 253 (0,0));have S:SrS V d m p ib:=⟨g,r,hm,z,u,q⟩;have hu:unS m ⟨[],0⟩<=m.nodes.length:=qKI;have h0:SrAt V d m p ib ((V.set ib (.map #[] 0)).set p (.cells (srow d m ⟨none,0,0⟩ ib 0).toArray 253 (0,0))) ⟨[],0⟩ ⟨none,0,0⟩:=
  ⟨Mem.set_same _ _ _,Own.nil (J.trans H) _ _,(((qGh.made V ib).sub H)).congr λ_=>rfl,by show 0+unS m ⟨[],0⟩<=_;omega,λx h=>by simp at h⟩
 refine Tri.mono (lookC (entAll S m.nodes.length) r.globals hm.globals (qAl g).2.2.2.1 (f:=m.nodes.length+1) h0 hu (by omega)) ?_;rintro _ V2 ⟨rfl,o,h⟩;exact⟨rfl,p,ib,o,rfl,h⟩
theorem renL_len{O:List Int}{xs:List Fld}{vs:List Int}(h:xs.length=vs.length):(renL O xs vs).length=xs.length:=by
 unfold renL;rw[xd,vn];omega
end
section
variable{V:Mem}{d:Ds}{m:Mm}
theorem Own.growS{V0 V V':Mem}{e:TypeId}{sz:Nat}{s:Sl}{vs:List Value}(h:Sx.Own V0 V e sz s vs)(g:V.sub V'):Sx.Own V0 V' e sz s vs:=Own.moveB h (h.sub.trans g) λ_ _ _ u=>g _ _ u
structure CanAt (d:Ds)(m:Mm)(V2 V:Mem)(s:Sl)(i:Nat)(nd:List Nd):Prop where
 len:nd.length=i
 at_:∀(j:Nat) n x,j<i->(qBv d m).order[j]?=some n->m.nodes[(n-1).toNat]?=some x->∃s,nd[j]?=some ⟨x.ty,s,renL (qBv d m).order (qAs d x.ty) x.f⟩
 mem:∃W,V2.sub W/\Sx.Own W V 92 2 s (nd.flatMap Nd.row)/\∀n∈nd,Nd.Ok W n
theorem ren_in{O:List Int}{xs:List Fld}{vs:List Int}(w:O.length<=4096)(h:∀v∈vs,inI v):∀v∈renL O xs vs,inI v:=λv hv=>by
 unfold renL at hv;obtain⟨⟨a,b⟩,g,rfl⟩:=vk.1 hv;have u:=h b (List.of_mem_zip g).2;show inI (if _ then b else rho O b);split;·exact u
 ·unfold rho;split;·exact⟨by omega,by omega⟩
  ·unfold qHK;rcases qAG (λz=>decide (z=b)) O with⟨e,-⟩|⟨j,_,e,-,-,e2,-⟩;·rw[e];exact⟨by decide,by decide⟩
   ·rw[e];exact⟨by show(-9223372036854775808:Int)<=(j:Int)+1;omega,by show(j:Int)+1<=(9223372036854775807:Int);omega⟩
theorem c13{s t:Sl}{xs ys:List Int}(h:qAc V s 1 (xs.map qAf))(k:qAc V t 1 (ys.map qAf)):PP 13 [.slice s.p s.n s.c,.slice t.p t.n t.c] V (.bool (decide (xs=ys))):=by
 refine x13 ?_;have Q:=h.n_eq;have P:=k.n_eq;refine⟨λZ=>?_,λZ=>?_⟩
 ·refine qAI (mk:=.bool) (b0:=false) xs.length (λi V1=>V=V1/\xs.take i=ys.take i) ⟨rfl,rfl⟩ ?_;rintro i b V1 J D ⟨rfl,z⟩ A;refine⟨λg=>?_,λr=>?_⟩
  ·obtain⟨x,I,q,-,v,M,L,w⟩:=h.get g;obtain⟨y,R,Y,-,X,H,G,u⟩:=k.get (i:=i) (by omega);refine⟨M,L,g,_,w,H,G,by omega,_,u,λN=>⟨h.succ g,A v _ _ ⟨rfl,take_eq z q Y N⟩⟩,λN=>?_⟩;rw[decide_eq_false λe=>?_];·exact⟨rfl,rfl⟩
   ·rw[e,Y]at q;cases q;exact N rfl
  ·have C:=(h.done r).2;rw[wY C,wY (by omega)]at z;rw[decide_eq_true z];exact⟨rfl,rfl⟩
 ·rw[decide_eq_false λe=>Z (by rw[Q,P,e])];exact⟨rfl,rfl⟩
theorem canP_of{c:Mm}(g:qAx d m=true)(I:IsCan d m c (qBv d m).order):c.plain=canP d m:=by
 have R:=qGx g;unfold Mm.plain canP;rw[I.globals];refine Prod.ext rfl (List.ext_getElem? λi=>?_);rw[ya,ya];cases h:(qBv d m).order[i]? with
 |none=>
  have:c.nodes[i]?=none:=by
   rw[List.getElem?_eq_none_iff]at h⊢;rw[I.len];exact h
  rw[this];rfl
 |some n=>
  have z:=R.rng n (xv h);have u:=yv (l:=m.nodes) (i:=(n-1).toNat) (by omega);obtain⟨sl,w⟩:=I.at_ i n _ h u;rw[w];simp only[Option.map_some];rw[u]
end
theorem loop3b{V:Mem}{β h:Type}{mk:β->Value}{mc:h->Value}{B:β->h->Int->Mem->(List Value->Mem->Prop)->Prop}{b0:β}{c0:h}(ib:∀x y,mk x=mk y->x=y)(q:∀x y,mc x=mc y->x=y)(len:Nat)(St:Nat->β->h->Mem->Prop)(h0:St 0 b0 c0 V)
  (step:∀(i:Nat)(b:β)(c:h) V1 J,i<=len->St i b c V1->(i<len->∀g u V2,St (i+1) g u V2->J [mk g,mc u,.int .i64 ((i:Int)+1)] V2)->B b c (i:Int) V1 J):
  ∃(I:Nat->List Value->Mem->Prop)(e:Nat),I e [mk b0,mc c0,.int .i64 0] V/\∀n V1,∀b:β,∀c:h,∀v:Int,I n [mk b,mc c,.int .i64 v] V1->∀J:List Value->Mem->Prop,(∀m ys w,m<n->I m ys w->J ys w)->B b c v V1 J:=by
 refine⟨LI len λi xs V=>∃b c,xs=[mk b,mc c,.int .i64 i]/\St i b c V,len,LI.start ⟨b0,c0,rfl,h0⟩,?_⟩;rintro n V1 b c v ⟨i,rfl,H,g,u,r,G⟩ J N;simp only[yD,zl,true_and,and_true]at r;obtain⟨Z,Y,rfl⟩:=r;cases ib _ _ Z;cases q _ _ Y;exact step i b c V1 J H G λz g u V2 h2=>LI.next N z ⟨g,u,rfl,h2⟩
theorem qIo{t:ByteArray}(h:t=qAP∨t=qAw):qBD t=true:=by
 unfold qBD;rcases h with rfl|rfl<;>simp
section
variable{V0 V:Mem}{d:Ds}{m:Mm}
theorem c177{s:Sl}{l:List Int}(h:qAc V s 1 (l.map qAf)){x:Int}:PP 177 [s.v,.int .i64 x] V (.int .i64 (qHK l x)):=by
 refine x177 ?_;refine qAI (mk:=.int .i64) (b0:=0) l.length (λj V1=>V=V1/\qAW (λy:Int=>!decide (y=x)) l j) ⟨rfl,qAW.zero _ _⟩ ?_;rintro j b V1 J Q ⟨rfl,r⟩ H;refine⟨λg=>?_,λw=>?_⟩
 ·obtain⟨y,G,N,-,z,Z,Y,u⟩:=h.get g;refine⟨Z,Y,g,_,u,λq=>?_,λq=>⟨h.succ g,H z _ _ ⟨rfl,qCc r N (decide_eq_false q)⟩⟩⟩;have e:qHK l x=(j:Int):=by grind[qHK,qCt,decide_eq_true]
  simp_all
 ·have e:qHK l x=-1:=by unfold qHK;exact qDd r (h.done w).2
  simp_all
theorem pos_neg{l:List Int}{x:Int}:¬(0<=qHK l x)↔¬x∈l:=by
 unfold qHK;rcases qAG (λy=>decide (y=x)) l with⟨h1,-,h2⟩|⟨i,y,h1,h2,-,h3,h4,-⟩;·grind
 grind
theorem tgtI_in{xs:List Fld}{vs:List Int}(h:qAh d m xs vs=true){i:Nat}:∀y∈tgtI xs vs i,1<=y/\y<=(m.nodes.length:Int):=λy g=>by
 have:y∈tgt xs vs:=by
  unfold tgtI at g;unfold tgt;obtain⟨a,u,rfl⟩:=vk.1 g;grind
 obtain⟨j,f,h1,h2,h3,h4⟩:=tgt_mem.1 this;exact qKi h h1 h2 h3 h4
def LookRP(V0:Mem)(st:Sr):Ending->Mem->Prop:=λe V'=>∃s:Sl,e=.returned (.agg #[s.v,.int .i64 st.again])/\Sx.Own V0 V' 3 1 s (st.order.flatMap qAf)
variable(V0 d m)in
def LookRC(N:Nat):Prop:=∀(st:Sr)(f:Nat) V (s l q:Sl)(xs:List Fld)(vs:List Int),unS m st<=N->unS m st<f->st.order.length+unS m st<=m.nodes.length->qAc V0 l 2 (xs.map Fld.row)->qAc V0 q 1 (vs.map qAf)->qAh d m xs vs=true->Sx.Own V0 V 3 1 s (st.order.flatMap qAf)->
 Tri xD 135 #[d.v,m.v,.agg #[s.v,.int .i64 st.again],l.v,q.v] V (LookRP V0 (lookP d m f st xs vs))
theorem lookRC(Z:qAx d m=true)(hd:Ds.Ok V0 d)(hm:Mm.Ok V0 m)(N:Nat)(ih:∀N',N'<N->LookRC V0 d m N'):LookRC V0 d m N:=by
 intro st f V s l q xs vs hN hf D hl hq hv ho;refine Tri.mono (x135 (R:=LookRP V0 (lookP d m f st xs vs)) ?_) λ_ _ h=>h;have hlen:xs.length=vs.length:=by
  grind[qAh]
 have m4:=(qAl Z).2.1;refine loop3b (mk:=λs:Sl=>.slice s.p s.n s.c) (mc:=.int .i64) (b0:=s) (c0:=st.again) qBc qDY xs.length (λi Q a V1=>a=((tgtI xs vs i).foldl (qCW d m f) st).again/\Sx.Own V0 V1 3 1 Q (((tgtI xs vs i).foldl (qCW d m f) st).order.flatMap qAf)) ⟨rfl,ho⟩ ?_;rintro i Q a V1 J hi ⟨rfl,h1⟩ hJ;obtain⟨g,w⟩:∃g,g=(tgtI xs vs i).foldl (qCW d m f) st:=⟨_,rfl⟩;rw[<-w]at h1⊢;have hu:unS m g<=unS m st:=by simp_all[unS_le,foldP_sub]
 have hcl:Cl d m st g:=by rw[w];exact(qLy (ent_cl Z f) (tgtI xs vs i) st (tgtI_in hv) hf).1
 have hcap1:=hcl.cap D;have r:=hl.sub h1.sub;have E:=hq.sub h1.sub;refine⟨λv=>?_,λhge=>?_⟩
 ·obtain⟨x,hxm,hx,-,K,hp,hz,P⟩:=r.get v;have n1:=r.n_eq;have n2:=E.n_eq;obtain⟨y,hym,hy,-,hjl,hpy,hzy,I⟩:=E.get (i:=i) (by omega);have same:qDl (x,y)=false->J [.slice Q.p Q.n Q.c,.int .i64 g.again,.int .i64 ((i:Int)+1)] V1:=λhr=>by
   refine hJ K Q g.again V1 ?_;rw[qEK hx hy,hr,if_neg (by decide),vg,<-w];exact⟨rfl,h1⟩
  have pl:qBD x.ty=true->qDl (x,y)=false:=λh=>by grind[qDl,qBD]
  refine⟨hpy,hzy,by omega,_,I,hp,hz,v,qAe hp,_,_,P,λh2=>⟨r.succ v,same (pl ?_)⟩,λh2=>⟨hp,hz,v,qAe hp,_,_,P,λh3=>⟨r.succ v,same (pl ?_)⟩,λh3=>⟨λh4=>⟨r.succ v,same ?_⟩,λh4=>?_⟩⟩⟩;·grind[qAP,qBD]
  ·grind[qAw,qBD]
  ·grind[qDl]
  have hpl:qBD x.ty=false:=by
   grind[qAP,qAw,qBD]
  have h4:¬y=0:=h4;have hr:qDl (x,y)=true:=by grind[qDl]
  have hy1:=qKi hv hx hy hpl h4;have next:∀(s':Sl) V2,Sx.Own V0 V2 3 1 s' ((qCW d m f g y).order.flatMap qAf)->J [.slice s'.p s'.n s'.c,.int .i64 (qCW d m f g y).again,.int .i64 ((i:Int)+1)] V2:=λs' V2 h=>by
   refine hJ K s' _ V2 ?_;rw[qEK hx hy,hr,if_pos rfl,vf,ve,vd,<-w];exact⟨rfl,h⟩
  obtain⟨f,rfl⟩:∃f',f=f'+1:=⟨f-1,by omega⟩;refine(c177 (h1.rows (λ_=>rfl) (by decide))).call ⟨_,rfl,λh5=>?_,λh5=>?_⟩
  ·have M:y∈g.order:=Classical.not_not.1 λh=>pos_neg.2 h h5;have e:qCW d m (f+1) g y=⟨g.order,if g.again=0 then y else g.again⟩:=by grind[qCW]
   rw[e]at next
   refine⟨λh6=>⟨r.succ v,?_⟩,λh6=>⟨r.succ v,?_⟩⟩;·simp_all
   simp_all
  ·have M:¬y∈g.order:=pos_neg.1 h5;have hlt2:=unS_lt (st:=g) hy1 M (a:=g.again);intro tb htb;refine qDL (s:=Q) (u:=⟨some ⟨tb,0,none⟩,1,1⟩) (xs:=g.order) (ys:=[y]) rfl rfl (h1.but.new htb (.cells #[.int .i64 y] 3 (0,0))) (qIY mss) (by simp;omega) λo2 V2 ho2=>⟨o2,rfl,?_⟩;have L:Sx.Own V0 V2 3 1 o2 ((g.order++[y]).flatMap qAf):=ho2.narrow h1.sub_but;obtain⟨k,rfl⟩:∃k:Nat,y=(k:Int)+1:=⟨(y-1).toNat,by omega⟩;have S:=hm.sub L.sub;have T:=hd.sub L.sub;have hnn:=S.nodes.n_eq;obtain⟨z,X,hz',-,hl2,Y,U,H⟩:=S.nodes.get (i:=k) (by omega);obtain⟨c1,c2⟩:=of_decide_eq_true ((qAl Z).2.2.1 z X);obtain⟨j,hj⟩:∃j:Nat,z.ty=(j:Int):=⟨_,(vb c1).symm⟩;have htn:=T.types.n_eq;obtain⟨t,htm,ht,-,hl3,A,hzt,C⟩:=T.types.get (i:=j) (by omega);have hI:IR ((k:Int)):=⟨by omega,by omega⟩;have hfo:=qAR ht hj;have G:=(qAl Z).2.2.2.2 z X;rw[hfo]at G;rw[show((k:Int)+1-1)=(k:Int)by omega];refine⟨hI,Y,U,by omega,qAe Y,_,_,H,?_⟩;rw[hj];refine⟨A,hzt,by omega,qAe A,_,_,C,hI,Y,U,by omega,qAe Y,_,_,H,?_⟩;refine Tri.mono (ih (unS m ⟨g.order++[(k:Int)+1],g.again⟩) (by omega) ⟨g.order++[(k:Int)+1],g.again⟩ f V2 o2 t.fs z.sl t.fields z.f (yU _) (by omega) ?_ (hd.typesOk t htm).fields (hm.nodesOk z X).rows G L) ?_;·grind
   rintro _ V5 ⟨s5,rfl,h6⟩;have e:qCW d m (f+1) g ((k:Int)+1)=lookP d m f ⟨g.order++[(k:Int)+1],g.again⟩ t.fields z.f:=by
    rw[qCW,if_neg M];simp_all[qAQ,lookP,Int,tgt,qAs]
   rw[<-e]at h6⊢;exact⟨_,_,rfl,r.succ v,next s5 V5 h6⟩
 ·have hdn:=(r.done hge).2;rw[qKL hdn]at w;have e:lookP d m f st xs vs=g:=w.symm;rw[e];exact⟨Q,rfl,h1⟩
theorem c87(g:qAx d m=true)(u:Ds.Ok V d)(hm:Mm.Ok V m):Tri xD 87 #[d.v,m.v] V (LookRP V (qBv d m)):=by
 refine Tri.mono (x87 (R:=LookRP V (qBv d m)) ?_) λ_ _ h=>h;have hu:=qKI (m:=m);have all:∀N,LookRC V d m N:=λN=>yR N λN w=>lookRC g u hm N w;refine Tri.mono (all m.nodes.length ⟨[],0⟩ (m.nodes.length+1) V ⟨none,0,0⟩ d.gs m.gs d.globals m.globals hu (by omega) (by simp_all) u.globals hm.globals (qAl g).2.2.2.1 (Own.nil (Mem.sub.refl V) _ _)) ?_;rintro _ V2 ⟨s,rfl,h⟩;exact⟨_,_,rfl,s,rfl,h⟩
end
section
variable{V:Mem}{d:Ds}{m:Mm}
theorem c142{l q o:Sl}{xs:List Fld}{vs O:List Int}(K:qAc V l 2 (xs.map Fld.row))(S:qAc V q 1 (vs.map qAf))(T:qAc V o 1 (O.map qAf))(hO:O.length<=4096)(U:xs.length=vs.length)(C:xs.length<=4096):
  Tri xD 142 #[l.v,q.v,o.v] V λe V'=>∃s:Sl,e=.returned (.slice s.p s.n s.c)/\Sx.Own V V' 3 1 s ((renL O xs vs).flatMap qAf):=by
 refine x142 ?_;have hrl:=renL_len (O:=O) U;refine qFH (mk:=λs:Sl=>.slice s.p s.n s.c) (b0:=⟨none,0,0⟩) qBc xs.length (λi s V1=>Sx.Own V V1 3 1 s (((renL O xs vs).take i).flatMap qAf)) (Own.nil (Mem.sub.refl _) _ _) ?_;rintro i s V1 J hi h1 hJ;have N:=K.sub h1.sub;have Y:=S.sub h1.sub;refine⟨λH=>?_,λA=>?_⟩
 ·obtain⟨x,hxm,hx,-,I,Q,P,G⟩:=N.get H;have n2:=Y.n_eq;obtain⟨y,hym,hy,-,hjl,M,L,Z⟩:=Y.get (i:=i) (by omega);have R:=ren_at (O:=O) hx hy;have add:∀{w z:Int}{V2:Mem}{ty:Nat}{a b:Operand}{vals:Operand->Value},V1=V2->w=(if qBD x.ty=true then y else rho O y)->z=w->∀r,V2 r=none->vals a=.slice s.p s.n s.c->vals b=.slice (sa r) 1 1 ->
    GenK xD (.call {callee:=.builtin .append,args:=#[a,b],argTypes:=#[31,31]}) ty vals (V2.set r (.cells #[.int .i64 z] 3 (0,0))) λx D=>∃E:Sl,x=uL E/\IR ((i:Int)+1)/\J [uL E,uI ((i:Int)+1)] D:=λ{w z V2 ty a b vals} e hw P r g ha C=>by
   subst e;subst P;refine qDL (s:=s) (u:=⟨some ⟨r,0,none⟩,1,1⟩) (xs:=(renL O xs vs).take i) (ys:=[z]) ha C (h1.but.new g (.cells #[.int .i64 z] 3 (0,0))) (qIY mss) (by grind) λo2 D X=>⟨o2,rfl,N.succ H,hJ I _ _ ?_⟩;rw[we,R,<-hw];exact X.narrow h1.sub_but
  have pl:∀{c:Bool},qBD x.ty=c->(if qBD x.ty=true then y else rho O y)=if c=true then y else rho O y:=λh=>by rw[h]
  refine⟨M,L,by omega,_,Z,Q,P,H,qAe Q,_,_,G,λh2 r g=>add rfl (by rw[pl (qIo (.inl h2))];rfl) rfl r g rfl rfl,λh2=>⟨Q,P,H,qAe Q,_,_,G,λh3 r g=>add rfl (by rw[pl (qIo (.inr h3))];rfl) rfl r g rfl rfl,λh3=>?_⟩⟩;have hpl:qBD x.ty=false:=by
   grind[qAP,qAw,qBD]
  refine⟨λh4 r g=>add rfl ?_ rfl r g rfl rfl,λh4=>?_⟩;·grind[rho_zero]
  ·refine(c177 (T.sub h1.sub)).call ⟨_,rfl,?_,λr g=>add rfl ?_ rfl r g rfl rfl⟩
   ·unfold qHK;rcases qAG (λz=>decide (z=y)) O with⟨e,-⟩|⟨j,_,e,-,-,e2,-⟩;·rw[e];exact⟨by omega,by omega⟩
    ·rw[e];exact⟨by omega,by omega⟩
   grind[rho]
 ·have hd:=(N.done A).2;grind
theorem lens_of(h:qAJ d=true):d.globals.length<=8/\∀t∈d.types,t.fields.length<=12:=by
 grind[qAJ,qDn,tyB]
theorem qHh{l:List Fld}{vs:List Int}(h:qAh d m l vs=true):l.length=vs.length:=by
 grind[qAh]
theorem c96(G:qAz d m)(hd:Ds.Ok V d)(hm:Mm.Ok V m):Tri xD 96 #[d.v,m.v] V λe V'=>V.sub V'/\∃c:Mm,e=.returned (.agg #[c.gs.v,c.ns.v])/\Mm.Ok V' c/\IsCan d m c (qBv d m).order:=by
 refine x96 ?_;refine Tri.mono (c87 G.mem hd hm) ?_;rintro _ V1 ⟨o,rfl,ho⟩;have R:=qGx G.mem;obtain⟨p1,p2,p3,p4,p5⟩:=qAl G.mem;obtain⟨l1,l2⟩:=lens_of G.valid;have hcap:=R.cap;have E:=ho.rows (λ_=>rfl) (by decide);refine⟨o,_,rfl,Tri.mono (c142 (hd.globals.sub ho.sub) (hm.globals.sub ho.sub) E (by omega) (qHh p4) (by omega)) ?_⟩;rintro _ V2 ⟨gs,rfl,hg⟩;refine⟨gs,rfl,?_⟩;have hgR:=hg.rows (λ_=>rfl) (by decide);refine loop3b (mk:=λs:Sl=>.slice s.p s.n s.c) (mc:=λs:Sl=>.slice s.p s.n s.c) (b0:=gs) (c0:=⟨none,0,0⟩) qBc qBc (qBv d m).order.length (λi b c V3=>b=gs/\∃nd,CanAt d m V2 V3 c i nd) ⟨rfl,[],rfl,(λ_ _ _ h=>by omega),V2,Mem.sub.refl _,Own.nil (Mem.sub.refl _) _ _,(λ_ h=>by cases h)⟩ ?_;rintro i b s V3 J hi ⟨rfl,nd,C⟩ hJ;obtain⟨W,hW,r,K⟩:=C.mem;have I:V.sub V3:=((ho.sub.trans hg.sub).trans hW).trans r.sub;have Z:=hd.sub I;have Y:=hm.sub I;have Q:=E.sub ((hg.sub.trans hW).trans r.sub);refine⟨λM=>?_,λhge=>?_⟩
 ·obtain⟨n,hnm,hn,-,hil,hp,hz,S⟩:=Q.get M;have hr:=R.rng n hnm;obtain⟨k,rfl⟩:∃k:Nat,n=(k:Int)+1:=⟨(n-1).toNat,by omega⟩;have hnn:=Y.nodes.n_eq;obtain⟨z,P,hz',-,hl2,hpx,hzx,L⟩:=Y.nodes.get (i:=k) (by omega);obtain⟨c1,c2⟩:=of_decide_eq_true (p3 z P);obtain⟨j,T⟩:∃j:Nat,z.ty=(j:Int):=⟨_,(vb c1).symm⟩;have htn:=Z.types.n_eq;obtain⟨t,htm,ht,-,hl3,A,hzt,X⟩:=Z.types.get (i:=j) (by omega);have hI:IR ((k:Int)):=⟨by omega,by omega⟩;have U:=qAR ht T;have H:=p5 z P;rw[U]at H;refine⟨hp,hz,M,_,S,?_⟩;rw[show((k:Int)+1-1)=(k:Int)by omega];refine⟨hI,hpx,hzx,by omega,_,_,L,?_⟩;rw[T];refine⟨A,hzt,by omega,qAe A,_,_,X,Tri.mono (c142 (Z.typesOk t htm).fields (Y.nodesOk z P).rows Q (by omega) (qHh H) (by grind)) ?_⟩;rintro _ V4 ⟨fs,rfl,hf⟩;refine⟨fs,rfl,λtb htb=>?_⟩;have D:=Own.growS r hf.sub;have hfR:=hf.rows (λ_=>rfl) (by decide);obtain⟨nn,N⟩:∃nn:Nd,nn=⟨(j:Int),fs,renL (qBv d m).order t.fields z.f⟩:=⟨_,rfl⟩;have hblk:qAc (V4.but s) fs 1 ((renL (qBv d m).order t.fields z.f).map qAf):=by
   have:Sx.Own (λ_=>none) (V4.but s) 3 1 fs ((renL (qBv d m).order t.fields z.f).flatMap qAf):=⟨(λ_ _ h=>by cases h),hf.len,by
    rcases hf.at_ with h|⟨g,cur,a,b,c,dd⟩;·exact .inl h
    ·exact .inr ⟨g,cur,a,rfl,Mem.but_at c (r.apartN b),dd⟩⟩
   exact this.rows (λ_=>rfl) (by decide)
  have hn2:Nd.Ok (V4.but s) nn:=by
   rw[N];exact⟨hblk,⟨by simp_all,by show(j:Int)<=9223372036854775807;have:=(Z.types.succ (i:=j) (by omega)).2;omega⟩,ren_in (by omega) (Y.nodesOk z P).vals⟩
  have hlen:nd.length<=4096:=by rw[C.len];omega
  refine app32 (s:=s) (u:=⟨some ⟨tb,0,none⟩,1,1⟩) (xs:=nd) (ys:=[nn]) rfl rfl (D.but.new htb (.cells #[uI (j:Int),uL fs] 92 (0,0))) (qAc.cells (xs:=[nn]) (row:=Nd.row) mss (by rw[N];rfl) (λ_=>rfl) rfl (by simp)) (by simp;omega) λo2 V5 ho2=>⟨o2,rfl,Q.succ M,hJ hil _ _ _ ⟨rfl,nd++[nn],by rw[zw,C.len];rfl,λq w x hq hw hx=>?_,V4.but s,hW.trans D.sub_but,ho2,λw hw=>?_⟩⟩
  ·by_cases hqi:q<i
   ·obtain⟨sl,hs⟩:=C.at_ q w x hqi hw hx;exact⟨sl,by rw[xa (by grind)];exact hs⟩
   ·have:q=i:=by omega
    subst this;rw[hn]at hw;cases hw;rw[show((k:Int)+1-1).toNat=k by omega,hz']at hx;cases hx;refine⟨fs,?_⟩;rw[<-C.len,List.getElem?_concat_length,N,U,T]
  ·rcases xh.1 hw with hw|hw;·exact(K w hw).sub D.sub_but
   simp_all
 ·have hdn:=(Q.done hge).2;have hi':i=(qBv d m).order.length:=by omega
  refine⟨I,⟨b,renL (qBv d m).order d.globals m.globals,s,nd⟩,rfl,⟨hgR.sub (hW.trans r.sub),ren_in (by omega) hm.gIn,r.rows (λ_=>rfl) (by decide),λn hn=>(K n hn).sub r.sub⟩,rfl,by rw[<-hi'];exact C.len,λj n x T hx=>C.at_ j n x (by grind) T hx⟩
end
section
variable{V:Mem}{d:Ds}{m:Mm}
theorem c132[Tab V](g:qAx d m=true)(u:Ds.Ok V d)(hm:Mm.Ok V m):Tri xD 132 #[d.v,m.v] V λe V'=>∃o:Sl,e=.returned (.tuple #[.slice o.p o.n o.c,.int .i64 0])/\Sx.Own V V' 3 1 o ((qBv d m).order.flatMap qAf):=by
 refine x132 ?_;refine(c44 u hm).call ⟨_,rfl,λ_=>Tri.mono (c176 g u hm) ?_,λh=>absurd g h⟩;rintro _ V2 ⟨p,ib,o,rfl,h⟩;exact⟨_,rfl,nn,nn,o,h.cell 10 1 (by decide),o,rfl,h.own⟩
end
theorem keys_len:∀(es:List MapEntry)(c:List Int),(∀e∈es,∃a,e.key=xe .i64 a)->es.Pairwise (λe f=>e.key≠f.key)->c.Nodup->(∀a,(qEF es (.int .i64 a)).isSome=decide (a∈c))->es.length=c.length:=λes c q H J v=>by
 have h1:∃g:List Int,g.map (xe .i64)=es.map (·.key):=by
  clear H v;induction es with
  |nil=>exact⟨[],rfl⟩
  |cons e es G=>
   obtain⟨g,h⟩:=G λx w=>q x (by simp[w]);obtain⟨a,N⟩:=q e (by simp);exact⟨a::g,by simp_all⟩
 obtain⟨g,z⟩:=h1;have r:g.Nodup:=by
  grind[pair_keys]
 have u:∀a,a∈g↔a∈c:=λa=>by
  have h3:=v a;have h4:a∈g↔∃e∈es,e.key=xe .i64 a:=by
   have:xe .i64 a∈g.map (xe .i64)↔xe .i64 a∈es.map (·.key):=by rw[z]
   grind
  grind[qEF]
 have Z:es.length=g.length:=by
  have:=congrArg List.length z;grind
 have a1:=nodup_le g c r λx w=>(u x).1 w;have a2:=nodup_le c g J λx w=>(u x).2 w;omega
theorem GenK.lenMap{P:Program}{V:Mem}{b:Nat}{f:Int->Option Value}{c:List Int}{t kt g ty:TypeId}(u:P.underlying t=some (.map kt g))(hm:qGh (xe .i64) V b f)(z:c.Nodup)(v:∀a,(f a).isSome=decide (a∈c)){x:Operand}{vals:Operand->Value}(r:vals x=.map (some b)){q:Value->Mem->Prop}(e:q (.int .i64 c.length) V):
  GenK P (.call {callee:=.builtin .len,args:=#[x],argTypes:=#[t]}) ty vals V q:=by
 intro w hw;obtain⟨es,cl,h1,h2,h3,h4⟩:=hm.at_;have h:=keys_len es.toList c h2 h3 z λa=>by grind
 refine⟨_,w,V,?_,Frm.refl hw,e⟩;unfold execOp;simp only[resolve,invoke,builtin,Sem.run_bind,Sem.run_pure,zL,List.map_toArray,List.map_cons,List.map_nil,r,Builtin.len_];simp only[List.getElem?_toArray,List.getElem?_cons_zero,Sem.run_bind,run_underlying u,zL,MapKept.run_getObj_map (hw _ _ h1),Sem.run_pure];grind[goInt]
section
variable{V0 V:Mem}{p k n:Nat}{c:List Int}{b:Int}
theorem c63(h:CaAt p k c n V0 V)(hk:1<=k/\k<=1000)(hb:0<=b/\b<=1048576)(hn:n<2147483648):Tri xD 63 #[pv p,.int .i64 b] V λe V'=>e=.returned (.tuple #[.bool (decide (b∈c)),.int .i64 0])/\CaAt p k (tch k c b) (n+if b∈c then 0 else 1) V0 V':=by
 obtain⟨mb,S,B,N,P,L,f,h,u⟩:=h;obtain⟨R,hR⟩:∃R:Ending->Mem->Prop,R=λe V'=>e=.returned (.tuple #[.bool (decide (b∈c)),.int .i64 0])/\CaAt p k (tch k c b) (n+if b∈c then 0 else 1) V0 V':=⟨_,rfl⟩;rw[<-hR];refine x63 ?_;refine⟨λh=>absurd h nn,λ_=>⟨λh=>absurd hb.1 (Int.not_le.2 h),λ_=>⟨λh=>absurd hb.2 (Int.not_le.2 h),λ_=>⟨nn,nn,_,h.cell 2 1 (by decide),?_⟩⟩⟩⟩;refine qBB.key2 (k:=b) (qGK wo) vc qFM h.mp ?_;have hNl:=u.nl;have hPl:=u.pl;have hBl:=u.bl;by_cases w:b∈c
 ·-- a hit
  obtain⟨i,s,T,r,v⟩:=u.hit w;obtain⟨pr,nx,k1,k2,k3,k4,k5⟩:=u.around r;have hsr:=u.rng s (xv r);rw[v];refine⟨s,true,rfl,λ_=>?_,λh=>absurd rfl h⟩;refine Tri.mono (c99 h k1 k2 (by omega) (by omega)) ?_;rintro _ V1 ⟨rfl,h1⟩;refine⟨rfl,λ_=>?_,λh=>absurd rfl h⟩;obtain⟨q,z,Q⟩:∃q:Nat,(N.set pr nx)[0]?=some (q:Int)/\q<B.length:=by
   by_cases e:pr=0;·grind
   ·obtain⟨q,h1,h2⟩:=u.head;grind
  refine Tri.mono (c100 h1 z (by simp_all) (by simp_all) (by simp_all) (by omega)) ?_;rintro _ V2 ⟨rfl,h2⟩;refine⟨rfl,?_⟩;rw[hR,decide_eq_true w,if_pos w];refine⟨rfl,mb,S,B,_,_,s::(L.take i++L.drop (i+1)),f,h2,?_⟩;unfold tch;rw[if_pos w];exact u.touch T r k5 z
 ·-- a miss
  have v:=u.no b w;rw[v];refine⟨0,false,rfl,?_⟩;refine⟨λh=>absurd h (by decide),λ_=>⟨nn,nn,_,h.cell 2 1 (by decide),nn,nn,_,h.cell 0 1 (by decide),?_⟩⟩;refine GenK.lenMap vc h.mp u.cn (λa=>by rw[Option.isSome_map];exact u.dec) rfl ?_;have hcap:=u.cap;have A:R=λe V'=>e=.returned (.tuple #[.bool false,.int .i64 0])/\CaAt p k (b::c.take (k-1)) (n+1) V0 V':=by
   grind[tch]
  refine⟨_,rfl,qAH h.at_ 0 0 1 (by simp[crow]),nn,nn,λhlt=>?_,λhge=>?_⟩
  ·have H:c.length<k:=by omega
   obtain⟨q,z,Q⟩:=u.head;have hSn:=(h.bo.rows (row:=qAf) (xs:=B) (λ_=>rfl) (by decide)).n_eq;have hB1:B.length<=1001:=by have:=u.cl;omega
   have one:∀{U:Mem}{t:Nat}{x:Int},U t=none->qAc (U.set t (.cells #[.int .i64 x] 3 (0,0))) ⟨some ⟨t,0,none⟩,1,1⟩ 1 ([x].map qAf):=λ{U t x} ht=>qAc.cells (xs:=[x]) (row:=qAf) mss rfl (λ_=>rfl) rfl (by simp);refine⟨nn,nn,_,h.cell 3 1 (by decide),nn,nn,_,h.cell 3 1 (by decide),nn,nn,_,h.cell 4 1 (by decide),nn,nn,_,h.cell 5 1 (by decide),?_⟩;rw[show(S.b.n:Int)=((B.length:Nat):Int)by rw[hSn]]
   repeat' apply xH
   all_goals first
    |exact nn
    |exact qAH h.at_ 3 0 1 (by simp[crow])
    |exact qAH h.at_ 4 0 1 (by simp[crow])
    |exact qAH h.at_ 5 0 1 (by simp[crow])
    |skip
   all_goals
    intro b1 I;refine qDL (s:=S.b) (xs:=B) (ys:=[b]) rfl rfl (h.bo.but.new I _) (one I) (by simp;omega) λM V3 o1=>⟨M,rfl,?_⟩;have h3:=h.pushB o1
    repeat' apply xH
    all_goals first
     |exact nn
     |exact qAH h3.at_ 4 0 1 (by simp[crow])
     |exact qAH h3.at_ 5 0 1 (by simp[crow])
     |skip
    all_goals
     intro b2 X;refine qDL (s:=S.n) (xs:=N) (ys:=[0]) rfl rfl (h3.no.but.new X _) (one X) (by simp;omega) λE V5 o2=>⟨E,rfl,?_⟩;have J:=h3.pushN o2
     repeat' apply xH
     all_goals first
      |exact nn
      |exact qAH J.at_ 5 0 1 (by simp[crow])
      |skip
     intro b3 C;refine qDL (s:=S.p) (xs:=P) (ys:=[0]) rfl rfl (J.po.but.new C _) (one C) (by simp;omega) λs3 V7 o3=>⟨s3,rfl,?_⟩;have K:=J.pushP o3;refine⟨nn,nn,StT.at2 (off:=3) K.at_ (by simp[crow]) ?_⟩;have h8:=K.fields ⟨M,S.n,S.p⟩;refine⟨nn,nn,StT.at2 (off:=4) h8.at_ (by simp[crow]) ?_⟩;have h9:=h8.fields ⟨M,E,S.p⟩;refine⟨nn,nn,StT.at2 (off:=5) h9.at_ (by simp[crow]) ⟨λh=>absurd h (by decide),λ_=>?_⟩⟩;have G:=h9.fields ⟨M,E,s3⟩;refine⟨nn,nn,_,G.cell 1 1 (by decide),⟨by omega,by omega⟩,nn,nn,StT.at2 (off:=1) G.at_ (by simp[crow]) ?_⟩;have Z:=G.put ((n:Int)+1);refine⟨nn,nn,_,Z.cell 2 1 (by decide),qDM.key (k:=b) (qGK wo) vc Z.mp λom Y=>?_⟩;have h12:=Z.map (g:=λx=>if x=b then some ((B.length:Nat):Int)else f x) (Y.congr λx=>by by_cases e:x=b<;>simp[e]);refine Tri.mono (c100 h12 (s:=B.length) (q:=q) (by rw[xa (yw.1 z).1];exact z) (by rw[zw,xi];omega) (by rw[zw,xi];omega) (by rw[zw,xi];omega) (by omega)) ?_;rintro _ V13 ⟨rfl,h13⟩;refine⟨rfl,?_⟩;rw[A];refine⟨rfl,mb,⟨M,E,s3⟩,B++[b],_,_,B.length::L,_,h13,?_⟩;rw[wY (by omega)];exact u.room w H (by rw[xa (yw.1 z).1];exact z)
  ·have H:c.length=k:=by omega
   obtain⟨s,pr,nx,o,k1,k2,k3,k4,k5,k6,k7,k8,k9⟩:=u.full w hk.1 H;obtain⟨p1,p2,p3,p4⟩:=qCD (h.po.rows (λ_=>rfl) (by decide)) k1;refine⟨nn,nn,_,h.cell 5 1 (by decide),p1,p2,p3,_,p4,Tri.mono (c99 h k5 k6 (by omega) (by omega)) ?_⟩;rintro _ V2 ⟨rfl,h2⟩;obtain⟨b1,b2,b3,b4⟩:=qCD (h2.bo.rows (λ_=>rfl) (by decide)) k4;refine⟨rfl,nn,nn,_,h2.cell 2 1 (by decide),nn,nn,_,h2.cell 3 1 (by decide),b1,b2,b3,_,b4,GenK.delete (k:=o) (qGK wo) vc h2.mp rfl rfl λom Y=>?_⟩;have h3:=h2.map (g:=λx=>if x=o then none else f x) (Y.congr λx=>by grind);refine⟨rfl,nn,nn,_,h3.cell 3 1 (by decide),b1,b2,b3,h3.setB k3 λV4 h4=>⟨λh=>absurd h (by decide),λ_=>?_⟩⟩;refine⟨nn,nn,_,h4.cell 1 1 (by decide),⟨by omega,by omega⟩,nn,nn,StT.at2 (off:=1) h4.at_ (by simp[crow]) ?_⟩;have J:=h4.put ((n:Int)+1);refine⟨nn,nn,_,J.cell 2 1 (by decide),qDM.key (k:=b) (qGK wo) vc J.mp λom2 D=>?_⟩;have h6:=J.map (g:=λx=>if x=b then some (s:Int)else if x=o then none else f x) (D.congr λx=>by grind);obtain⟨q,z,Q⟩:∃q:Nat,(N.set pr nx)[0]?=some (q:Int)/\q<B.length:=by
    by_cases e:pr=0;·grind
    ·obtain⟨q,h1,h2⟩:=u.head;grind
   refine Tri.mono (c100 h6 z (by simp_all) (by simp_all) (by simp_all) (by omega)) ?_;rintro _ V7 ⟨rfl,K⟩;refine⟨rfl,?_⟩;rw[A];exact⟨rfl,mb,S,_,_,_,s::L.take (k-1),_,K,k9 q z⟩
end
end Go.Proofs
