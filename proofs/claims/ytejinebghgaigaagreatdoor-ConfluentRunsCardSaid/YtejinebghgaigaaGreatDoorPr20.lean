/- Part 20: no statement of the seat is proved here. -/
import Derived.Test.YtejinebghgaigaaGreatDoorPr19
set_option linter.unusedVariables false
set_option linter.unusedSimpArgs false
open Go.Value renaming bool->vn,int->xe
open List.cons renaming injEq->yD
open Go.Proofs.Tryz renaming prog->xE,underlying3->wv,underlying154->vw
open List renaming replicate->yI,getElem?_eq_getElem->yv,ext_getElem?->zx,getElem?_inj->vl,getElem?_eq_some_iff->yw,mem_of_getElem?->xJ,mem_iff_getElem?->xn,nodup_append->vk,mem_singleton->zO,mem_append->xh,take_add_one->wc,length_map->xm,take_length->vg,length_append->zw,getElem_mem->yo,getElem?_append_right->vf,getElem?_map->y4,mem_cons->yC,length_take->vQ,length_drop->vt,map_append->yO,map_singleton->ve,append_assoc->zH,not_mem_nil->xC,getElem?_append_left->xj
open Int renaming toNat_of_nonneg->vu,toNat_natCast->xv
open Nat renaming zero_le->vj
open Option renaming toList_some->vh
open Prod.mk renaming inj->wu
open Option.some renaming inj->vK
open Go.Ending renaming returned->xG
namespace Go.Proofs
open Go Go.Sx
attribute [local irreducible] Go.Sx.Tri
theorem inj_b:∀x y:Bool,vn x=vn y->x=y:=by simp_all
def cntB(l:List Bool):Nat:=(l.filter id).length
theorem cnt_set:∀{l:List Bool}{i:Nat},l[i]?=some true->cntB (l.set i false)+1=cntB l
 |[],i,h=>by simp at h
 |b::l,0,h=>by
  grind[cntB]
 |b::l,i+1,h=>by
  have:=cnt_set (l:=l) (i:=i) (by simpa using h);grind[cntB]
theorem loopW{V:Mem}{B:Bool->Mem->(KZ)->Prop}(St:Nat->Mem->Prop){N:Nat}(z:St N V)
  (step:∀(b:Bool)(n:Nat) V1 (J:KZ),St n V1->(∀(t:Bool)(h:Nat) V2,b=true->h<=n->(t=true->h<n)->St h V2->J [.bool t] V2)->B b V1 J):
  ∃(I:Nat->KZ)(r:Nat),I r [.bool true] V/\∀n V1,∀v:Bool,I n [.bool v] V1->∀J:KZ,(∀m ys u,m<n->I m ys u->J ys u)->B v V1 J:=by
 refine⟨λk ys W=>∃(b:Bool)(n:Nat),ys=[.bool b]/\k=2*n+(if b=true then 1 else 0)/\St n W,2*N+1,⟨true,N,rfl,rfl,z⟩,?_⟩;rintro k V1 v ⟨b,n,w,rfl,q⟩ J o;simp only[yD,Value.bool.injEq,and_true]at w;subst w;refine step v n V1 J q λt h V2 hv H G h2=>o (2*h+(if t=true then 1 else 0)) _ _ ?_ ⟨t,h,rfl,rfl,h2⟩;grind
section
variable{V W:Mem}{p:Nat}{d:Ds}{L:Sl}{vs:List Vr}{k F:Int}{m y:Mm}
structure FJ (V V':Mem)(g N:Nat)(cells:List Int)(bs:List Bool):Prop where
 own:Sx.Own V V' 4 1 ⟨some ⟨g,0,none⟩,N,N⟩ (bs.flatMap Gk)
 len:bs.length=N
 ok:∀i:Nat,bs[i]?=some true->∃c,cells[i]?=some c/\c≠0
theorem FJ.rows{g N:Nat}{cells:List Int}{bs:List Bool}{V':Mem}(h:FJ V V' g N cells bs):Ad V' ⟨some ⟨g,0,none⟩,N,N⟩ 1 (bs.map Gk):=h.own.rows (λ_=>rfl) (by decide)
theorem FJ.put{g N:Nat}{cells:List Int}{bs:List Bool}{V':Mem}(h:FJ V V' g N cells bs){i:Nat}(hi:i<N){x:Bool}(z:x=true->∃c,cells[i]?=some c/\c≠0){q:Mem->Prop}(w:∀V2,FJ V V2 g N cells (bs.set i x)->q V2):Ao (Aa (sa g) (i*1)) 0 [.bool x] V' q:=by
 rw[Nat.mul_one];refine Own.store h.own (by rw[flat_lenB,h.len];exact hi) λV2 u _=>w V2 ?_;rw[flat_setB]at u;refine⟨u,by rw[List.length_set];exact h.len,λj t=>?_⟩;rw[List.getElem?_set]at t;split at t;·simp_all
 ·exact h.ok j t
theorem Rk(S:Ce p d L vs k W V)(hd:Ds.Ok V d)(hm:Mm.Ok V m)(hy:Mm.Ok V y)(G:Am d y)(hle:m.nodes.length<=y.nodes.length){cs:Sl}{cells:List Int}(hc:Ad V cs 1 (cells.map Al))(hcl:cells.length=m.nodes.length):
  Tri xE 82 #[pv p,m.v,y.v,cs.v] V λe V'=>∃(g:Nat)(bs:List Bool),e=.returned (.slice (sa g) y.nodes.length y.nodes.length)/\FJ V V' g y.nodes.length cells bs:=by
 refine Qh ?_;obtain⟨p1,p2,p3,p4,p5⟩:=BD G.mem;have hyn:=hy.nodes.n_eq;have hmn:=hm.nodes.n_eq;have hcn:=hc.n_eq;refine mk171 (n:=y.ns.n) rfl rfl (by omega) λg hg=>⟨⟨some ⟨g,0,none⟩,y.ns.n,y.ns.n⟩,rfl,?_⟩;rw[hyn];have F0:FJ V (V.set g (.cells (madeCells (vn false).cells (y.nodes.length*1)) 4 (0,0))) g y.nodes.length cells (yI y.nodes.length false):=⟨own_madeB hg (by omega),List.length_replicate,λi hi=>by
  grind⟩
 refine Fz m.nodes.length (λi V2=>∃bs,FJ V V2 g y.nodes.length cells bs) ⟨_,F0⟩ ?_;rintro i V2 J hi ⟨bs,F2⟩ hJ;have sV:=F2.own.sub;refine⟨λY=>?_,λhge=>?_⟩
 ·have Y:(i:Int)<(m.ns.n:Int):=Y;obtain⟨c,hcm,hcx,-,hil,hp,hz,hrow⟩:=(hc.sub sV).get (i:=i) (by omega);refine⟨hp,hz,by omega,c,hrow,λc0=>⟨nn,by omega,(by show(i:Int)<(y.nodes.length:Int);omega),F2.put (by omega) (λh=>by cases h) λV3 F3=>⟨⟨by omega,by omega⟩,hJ (by omega) _ ⟨_,F3⟩⟩⟩,λc0=>?_⟩;have c0:¬c=0:=c0;obtain⟨x,hxm,hx,-,hil2,hp2,hz2,B⟩:=(hm.nodes.sub sV).get (i:=i) (by omega);obtain⟨z,A,hzz,-,hil3,R,C,o⟩:=(hy.nodes.sub sV).get (i:=i) (by omega);refine⟨hp2,hz2,by omega,Ak hp2,_,_,B,R,C,by omega,Ak R,_,_,o,(Q8 ((hm.nodesOk x hxm).rows.sub sV) ((hy.nodesOk z A).rows.sub sV)).call ⟨_,rfl,nn,by omega,(by show(i:Int)<(y.nodes.length:Int);omega),F2.put (by omega) (λ_=>⟨c,hcx,c0⟩) λV3 F3=>⟨⟨by omega,by omega⟩,hJ (by omega) _ ⟨_,F3⟩⟩⟩⟩
 refine loopW (λn V3=>∃bs,FJ V V3 g y.nodes.length cells bs/\cntB bs=n) (N:=cntB bs) ⟨bs,F2,rfl⟩ ?_;rintro b n V3 J3 ⟨bs3,F3,hn3⟩ hJ3;refine⟨λhb=>?_,λhb=>⟨g,bs3,rfl,F3⟩⟩;have hb:b=true:=hb;refine FA (mk:=.bool) (b0:=false) inj_b y.nodes.length (λi b V4=>∃bs,FJ V V4 g y.nodes.length cells bs/\cntB bs<=n/\(b=true->cntB bs<n)) ⟨bs3,F3,by omega,λh=>by cases h⟩ ?_;rintro i b4 V4 J4 hi4 ⟨X,F4,E,K⟩ hJ4;have s4:=F4.own.sub;refine⟨λY=>?_,λhge=>hJ3 _ _ _ hb E K ⟨X,F4,rfl⟩⟩;have Y:(i:Int)<(y.nodes.length:Int):=Y;obtain⟨z,A,hzz,-,hil3,R,C,o⟩:=(hy.nodes.sub s4).get (i:=i) (by omega);obtain⟨x4,hx4⟩:∃x,X[i]?=some x:=⟨_,yv (by rw[F4.len];omega)⟩;obtain⟨a1,a2,a3,a4⟩:=bool_at F4.rows hx4;refine⟨R,C,by omega,_,_,o,a1,a2,a3,_,a4,λht=>?_,λ_=>⟨⟨by omega,by omega⟩,hJ4 (by omega) _ _ ⟨X,F4,E,K⟩⟩⟩;obtain⟨c1,c2⟩:=of_decide_eq_true (p3 z A);obtain⟨j,hj⟩:∃j:Nat,z.ty=(j:Int):=⟨_,(vu c1).symm⟩;have htn:=hd.types.n_eq;obtain⟨t,htm,ht2,-,hl5,hpt,hzt,T⟩:=(hd.types.sub s4).get (i:=j) (by omega);have H:=p5 z A;rw[Ef ht2 hj]at H;rw[hj];refine⟨nn,nn,AX,d.ts,(S.grow s4).cell 1 1 (by decide),hpt,hzt,by omega,Ak hpt,_,_,T,?_⟩;have U:=(hd.typesOk t htm).fields;have hzr:=(hy.nodesOk z A).rows;have hfn:=U.n_eq;have hzn:=hzr.n_eq;have hln:=HF H;refine FA (mk:=.bool) (b0:=b4) inj_b t.fields.length (λ_ b V5=>∃bs,FJ V V5 g y.nodes.length cells bs/\cntB bs<=n/\(b=true->cntB bs<n)/\(bs[i]?=some true∨cntB bs<n)) ⟨X,F4,E,K,.inl (by simp_all)⟩ ?_;rintro q b5 V5 J5 hi5 ⟨r,F5,hn5,hb5,hk5⟩ hJ5;have s5:=F5.own.sub;refine⟨λZ=>?_,λ_=>⟨⟨by omega,by omega⟩,hJ4 (by omega) _ _ ⟨r,F5,hn5,hb5⟩⟩⟩;have Z:(q:Int)<(t.fs.n:Int):=Z;obtain⟨f,hfm,hf,-,hql,hpf,hzf,hrowf⟩:=(U.sub s5).get (i:=q) (by omega);obtain⟨v,hvm,hv,-,hvl,hpv,hzv,I⟩:=(hzr.sub s5).get (i:=q) (by omega);have same:J5 [.bool b5,.int .i64 ((q:Int)+1)] V5:=hJ5 (by omega) _ _ ⟨r,F5,hn5,hb5,hk5⟩;have hI:IR ((q:Int)+1):=(U.sub s5).succ Z;refine⟨hpf,hzf,Z,_,_,hrowf,Jl.call ⟨_,rfl,λhp=>⟨hpv,hzv,by omega,v,I,λ_=>⟨hI,same⟩,λh0=>?_⟩,λ_=>⟨hI,same⟩⟩⟩;have hp:AC f.ty=false:=by
  simp_all
 have h0:¬v=0:=h0;have hr:=G9 H hf hv hp h0;obtain⟨u,rfl⟩:∃u:Nat,v=(u:Int)+1:=⟨(v-1).toNat,by omega⟩;obtain⟨x5,hx5⟩:∃x,r[u]?=some x:=⟨_,yv (by rw[F5.len];omega)⟩;obtain⟨d1,d2,d3,d4⟩:=bool_at F5.rows hx5;refine⟨hpv,hzv,by omega,_,I,⟨by omega,by omega⟩,?_⟩;rw[show((u:Int)+1-1)=(u:Int)by omega];refine⟨d1,d2,d3,_,d4,λ_=>⟨hI,same⟩,λ_=>⟨nn,by omega,by omega,F5.put (i:=i) (by omega) (λh=>by cases h) λV6 F6=>⟨hI,hJ5 (by omega) _ _ ⟨_,F6,?_⟩⟩⟩⟩;have hlti:i<r.length:=by rw[F5.len];omega
 have hdec:cntB (r.set i false)<n:=by
  cases e:r[i]? with
  |none=>simp_all
  |some w=>
   cases w with
   |true=>have:=cnt_set e;omega
   |false=>
    have e2:r.set i false=r:=zx λj=>by
     grind
    grind
 omega
end
structure CellOk (k:Int)(l:List Int):Prop where
 rng:∀c∈l,c=0∨(1<=c/\c<=k)
 dup:∀(i j:Nat)(c:Int),l[i]?=some c->l[j]?=some c->c≠0->i=j
structure CInv (d:Ds)(vs:List Vr)(k:Int):Prop where
 gv:Ew d (vs.map Vr.pv)
 good:∀v∈vs,Am d v.m
 cl:∀v∈vs,v.cells.length=v.m.nodes.length
 dup:∀v∈vs,v.cells.Nodup
 rng:∀v∈vs,∀c∈v.cells,1<=c/\c<=k
 k0:0<=k
 km:k<=((vs.map λv=>v.m.nodes.length).sum:Nat)
theorem CInv.cok{d:Ds}{vs:List Vr}{k:Int}(I:CInv d vs k){v:Vr}(hv:v∈vs):CellOk k v.cells:=⟨λc h=>.inr (I.rng v hv c h),λ_ _ _ hi t _=>(vl (yw.1 hi).1 (I.dup v hv)).1 (hi.trans t.symm)⟩
structure Gn (k:Int)(cells:List Int)(O:List Int)(i:Nat)(ws:List Int)(k':Int):Prop where
 len:ws.length=i
 dup:ws.Nodup
 rng:∀c∈ws,1<=c/\c<=k'
 lo:k<=k'
 hi:k'<=k+i
 old:∀c∈ws,c<=k->∃n∈O.take i,cells[(n-1).toNat]?=some c
section
variable{k k':Int}{cells O ws:List Int}{i:Nat}{n c:Int}
theorem Gn.start(h:0<=k):Gn k cells O 0 [] k:=⟨rfl,List.nodup_nil,(λc h=>by cases h),Int.le_refl _,by omega,λc h=>by cases h⟩
theorem Gn.keep(h:Gn k cells O i ws k')(C:CellOk k cells)(Z:O.Nodup)(H:∀x∈O,1<=x)(z:O[i]?=some n)(J:cells[(n-1).toNat]?=some c)(G:c≠0):Gn k cells O (i+1) (ws++[c]) k':=by
 have r:1<=c/\c<=k:=(C.rng c (xJ J)).resolve_left G;have Y:¬c∈ws:=λhm=>by
  obtain⟨m,u,q⟩:=h.old c hm r.2;have e:=C.dup _ _ c q J G;have o:m∈O:=List.mem_of_mem_take u;have:=H m o;have:=H n (xJ z);have A:m=n:=by omega
  subst A;obtain⟨j,w⟩:=xn.1 u;rw[List.getElem?_take]at w;split at w
  ·rename_i I;have:=(vl (by grind) Z).1 (w.trans z.symm);omega
  ·cases w
 refine⟨by simp[h.len],?_,λx t=>?_,h.lo,by have:=h.hi;omega,λx t R=>?_⟩
 ·rw[vk];exact⟨h.dup,by simp,λa B b X=>by rw[zO.1 X];grind⟩
 ·rcases xh.1 t with t|t;·exact h.rng x t
  ·rw[zO.1 t];have:=h.lo;omega
 ·rw[wc,z];rcases xh.1 t with t|t
  ·obtain⟨m,h1,h2⟩:=h.old x t R;exact⟨m,List.mem_append_left _ h1,h2⟩
  simp_all
theorem Gn.fresh(h:Gn k cells O i ws k')(u:0<=k):Gn k cells O (i+1) (ws++[k'+1]) (k'+1):=by
 have r:=h.lo;refine⟨by simp[h.len],?_,λx t=>?_,by omega,by have:=h.hi;omega,λx t u=>?_⟩
 ·rw[vk];exact⟨h.dup,by simp,λa w b z=>by rw[zO.1 z];rintro rfl;have:=(h.rng _ w).2;omega⟩
 ·rcases xh.1 t with t|t;·have:=h.rng x t;omega
  grind
 ·rcases xh.1 t with t|t
  ·obtain⟨m,h1,h2⟩:=h.old x t u;exact⟨m,by rw[wc];simp_all,h2⟩
  grind
end
theorem CInv.add{d:Ds}{vs:List Vr}{k k':Int}{v:Vr}(I:CInv d vs k)(gv:Ew d (vs.map Vr.pv++[v.pv]))(good:Am d v.m){cells O:List Int}(h:Gn k cells O v.m.nodes.length v.cells k'):CInv d (vs++[v]) k':=by
 have u:=h.lo;have z:=h.hi;have r:=I.k0;have hm:=I.km;refine⟨by simp_all,λw hw=>?_,λw hw=>?_,λw hw=>?_,λw hw c t=>?_,by omega,?_⟩;·grind[zO,good]
 ·rcases xh.1 hw with hw|hw;·exact I.cl w hw
  ·rw[zO.1 hw];exact h.len
 ·rcases xh.1 hw with hw|hw;·exact I.dup w hw
  ·rw[zO.1 hw];exact h.dup
 ·rcases xh.1 hw with hw|hw;·have:=I.rng w hw c t;omega
  ·rw[zO.1 hw]at t;exact h.rng c t
 grind
theorem CInv.small{d:Ds}{vs:List Vr}{k:Int}(I:CInv d vs k):k<=4096*(vs.length:Int):=by
 have h:∀l:List Vr,(∀v∈l,v.m.nodes.length<=4096)->(l.map λv=>v.m.nodes.length).sum<=4096*l.length:=by
  intro l;induction l with
  |nil=>intro _;simp
  |cons v l t=>
   grind
 have h1:=h vs λv hv=>(BD (I.good v hv).mem).2.1;have:=I.km;omega
theorem A0.catch{D V V':Mem}{Q:Mem->Mem->Prop}(h:A0 D V Q)(w:V.sub V'):∃u,D.sub u/\A0 u V' Q/\∀b,V b=none->u b=V' b:=by
 obtain⟨M,f,z,r⟩:=h;refine⟨Mem.minus V' M,λb o t=>?_,⟨M,f.keep λb o _ hv=>w _ _ hv,GW,λb t hm=>t (EK hm)⟩,λb t=>C6 λhm=>f.1 b hm t⟩;rw[C6 (r b (by rw[t];simp))];exact w _ _ (z _ _ t)
theorem J9{α:Type}{V V' D:Mem}{e sz:Nat}{s:Sl}{row:α->List Value}{xs:List α}(o:Sx.Own V V' e sz s (xs.flatMap row))(t:∀x,(row x).length=sz)(u:0<sz)(w:∀b,V b=none->D b=V' b):Ad D s sz (xs.map row):=by
 have:Sx.Own (λ_=>none) D e sz s (xs.flatMap row):=⟨(λ_ _ h=>by cases h),o.len,by
  rcases o.at_ with h|⟨g,cur,a,b,c,dd⟩;·exact .inl h
  simp_all⟩
 exact this.rows t u
structure Ei (D V:Mem)(p:Nat)(d:Ds)(vs:List Vr)(k:Int):Prop where
 ok:∀v∈vs,Vr.Ok D v
 inv:CInv d vs k
 bs:A0 D V (Cu p d vs k)
def CF(D V:Mem)(p:Nat)(d:Ds)(ps:List PV):Prop:=∃vs k,vs.map Vr.pv=ps/\Ei D V p d vs k
def resV(n:Nat)(er:Int)(r:Rx Int):Value:=if er=0 then .tuple #[.int .i64 (if DI r=0 then(n:Int)else -1),.agg (Bo (DI r) (outV r) r.st.cm (Be r.st.lg)).toArray,.int .i64 0]else .tuple #[.int .i64 0,.agg (Bo 0 0 0 0).toArray,.int .i64 er]
def Cg(d:Ds)(r:Rx Int)(vs:List PV)(par:List Int)(er:Int):List PV:=if er=0 then runV d r vs par else vs
def RunU(d:Ds)(F:Nat)(m:Mm)(nm:KB)(args:List Int):Ending->Mem->Prop:=λe h=>
 (AQ d m nm args≠0/\e=.returned (.tuple #[.agg (Bo 0 0 0 0).toArray,.agg #[Aj.v,Aj.v],.int .i64 (AQ d m nm args)]))∨
 (AQ d m nm args=0/\∃(r:Rx Int)(y:Mm),r=BP d F (AD d nm) args (AR m)/\Am d y/\Mm.Ok h y/\y.plain=(r.st.g,r.st.ns)/\m.nodes.length<=y.nodes.length/\e=.returned (.tuple #[.agg (Bo (DI r) (outV r) r.st.cm (Be r.st.lg)).toArray,.agg #[y.gs.v,y.ns.v],.int .i64 0]))
theorem play_gr{d:Ds}{F:Nat}{m:Mm}{nm:KB}{args:List Int}(G:Am d m)(t:AQ d m nm args=0):Gr F 0 (AR m) (BP d F (AD d nm) args (AR m)).st:=by
 obtain⟨i,q,hi,u,h⟩:=Je t;rw[hi];exact(K2 (F:=F) (I1 G.valid G.chk) u (Hz G) (BQ (Ie (Ge m).symm) h)).gr
theorem play_len{d:Ds}{F:Nat}{m:Mm}{nm:KB}{args:List Int}(G:Am d m)(t:AQ d m nm args=0):m.nodes.length<=(BP d F (AD d nm) args (AR m)).st.ns.length:=by
 have g:=play_gr (F:=F) G t;have e:(AR m).ns.length=m.nodes.length:=xm ..;rcases Nat.eq_zero_or_pos m.nodes.length with h|h;·omega
 ·obtain⟨y,u,-⟩:=g.ty (m.nodes.length-1) _ (yv (by omega));grind
section
variable{V D:Mem}{p:Nat}{d:Ds}{vs:List Vr}{k:Int}{F:Nat}{m:Mm}{nm:KB}{args par cells:List Int}{l cs ps:Sl}
theorem runU[Tab V](w:Ds.Ok V d)(hm:Mm.Ok V m)(G:Am d m)(q:Ad V l 1 (args.map Al))(o:F<=4000):Tri xE 31 #[d.v,m.v,.agg #[.string nm,l.v],.int .i64 F] V λe V'=>V.sub V'/\RunU d F m nm args e V':=by
 have es:EX d m nm args F=AQ d m nm args:=start_ok G (by omega);refine Tri.mono (OH (nm:=nm) w hm q o) ?_;rintro _ V1 (⟨h,H,rfl⟩|⟨h,r,gs,ns,ls,nd,z,L,rfl⟩)
 ·rw[es]at h⊢;exact⟨H,.inl ⟨h,rfl⟩⟩
 ·rw[es]at h;have t:Am d r.st.mm:=by grind[Nc]
  obtain⟨h1,h2⟩:=JS w L t;have u:=play_len (F:=F) G h;rw[<-z]at u;have J:nd.length=r.st.ns.length:=by
   grind[Mm.plain]
  exact⟨L.sub,.inr ⟨h,r,⟨gs,r.st.g,ns,nd⟩,z,t.plain ((St.plain _).trans h2.symm),h1,h2,by simp_all,rfl⟩⟩
theorem QL.cell{e sz:Nat}{o:Sl}{xs:List Value}(h:A0 D V (QL e sz (Cu p d vs k) o xs)):V.rowp (sa p) 9 1=some [.int .i64 k]:=by
 obtain⟨W,-,-,t,-,L,S⟩:=h.use;exact S.cell 9 1 (by decide)
theorem QL.count{e sz:Nat}{o:Sl}{xs:List Value}(h:A0 D V (QL e sz (Cu p d vs k) o xs))(k':Int){q:Mem->Prop}(t:∀V',A0 D V' (QL e sz (Cu p d vs k') o xs)->q V'):Ao (Aa (sa p) 9) 0 [.int .i64 k'] V q:=by
 obtain⟨W,u,-,w,z,L,S⟩:=h.use;exact S.count k' λV' r=>t V' (A0.mk (QL.over Cu.over) ⟨w,z,L,r⟩ u)
theorem OW[Tab D](H:Ei D V p d vs k)(hd:Ds.Ok D d)(hm:Mm.Ok D m)(G:Am d m)(hc:Ad D cs 1 (cells.map Al))(hcl:cells.length=m.nodes.length)(C:CellOk k cells)(ha:Ad D l 1 (args.map Al))(hF:F<=4000)(hp:Ad D ps 1 (par.map Al))(hpar:∀q∈par,BZ (vs.map Vr.pv) q)(hlen:vs.length<=900):
  Tri xE 48 #[pv p,m.v,cs.v,.agg #[.string nm,l.v],.int .i64 F,ps.v] V λe V'=>∃D',D.sub D'/\CF D' V' p d (Cg d (BP d F (AD d nm) args (AR m)) (vs.map Vr.pv) par (AQ d m nm args))/\e=.returned (resV vs.length (AQ d m nm args) (BP d F (AD d nm) args (AR m))):=by
 obtain⟨R,hR⟩:∃R:Ending->Mem->Prop,R=λe V'=>∃D',D.sub D'/\CF D' V' p d (Cg d (BP d F (AD d nm) args (AR m)) (vs.map Vr.pv) par (AQ d m nm args))/\e=.returned (resV vs.length (AQ d m nm args) (BP d F (AD d nm) args (AR m))):=⟨_,rfl⟩;rw[<-hR];obtain⟨W,hDW,hWV,L,S⟩:=H.bs.use;refine QA ?_;refine⟨nn,nn,_,_,_,_,_,_,_,_,S.cell 0 8 (by decide),?_⟩;refine Tri.mono (H.bs.run λU E=>@runU U d F m nm args l (Tab.sub inferInstance E) (hd.sub E) (hm.sub E) G (ha.sub E) hF) ?_;have keep:∀{D' V':Mem},D.sub D'->A0 D' V' (Cu p d vs k)->CF D' V' p d (vs.map Vr.pv):=λhs B=>⟨vs,k,rfl,λv hv=>(H.ok v hv).sub hs,H.inv,B⟩;rintro _ V1 ⟨D1,X,⟨h0,rfl⟩|⟨h0,r,y,hr,Gy,hy,hyp,hle,rfl⟩,B1⟩
 ·refine⟨_,_,_,_,_,_,_,_,rfl,λh=>absurd h h0,λ_=>?_⟩;rw[hR];refine⟨D1,X,?_,?_⟩;·grind[Cg]
  ·unfold resV;rw[if_neg h0];rfl
 rw[<-hr,h0]at hR;obtain⟨W1,hDW1,-,L1,S1⟩:=B1.use;have hn1:=S1.rows.n_eq;refine⟨_,_,_,_,_,_,_,_,rfl,λ_=>⟨nn,nn,L1,S1.cell 8 1 (by decide),λh=>absurd (show(1000:Int)<=(L1.n:Int)from h) (by omega),λ_=>⟨λho=>?_,λho=>?_⟩⟩,λh=>absurd rfl h⟩;rotate_left
 ·have ho:¬DI r=0:=ho;rw[hR];refine⟨D1,X,?_,?_⟩;·unfold Cg runV;rw[if_pos rfl,if_neg ho];exact keep X B1
  ·unfold resV;rw[if_pos rfl,if_neg ho];rfl
 have ho:DI r=0:=ho;have Rch:=FI Gy.mem;have hcap:=Rch.cap;have hy4:=(BD Gy.mem).2.1;obtain⟨O,hO⟩:∃O,O=(AS d y).order:=⟨_,rfl⟩;refine⟨nn,nn,_,_,_,_,_,_,_,_,S1.cell 0 8 (by decide),Tri.mono (B1.run (R:=λe U'=>∃o:Sl,e=.returned (.tuple #[.slice o.p o.n o.c,.int .i64 0])/\Ad U' o 1 (O.map Al)) λU E=>Tri.mono (@OP U d y (Tab.sub inferInstance (X.trans E)) Gy.mem (hd.sub (X.trans E)) (hy.sub E)) ?_) ?_⟩
 ·rintro _ U' ⟨o,rfl,ow⟩;exact⟨ow.sub,o,rfl,by rw[hO];exact ow.rows (λ_=>rfl) (by decide)⟩
 rintro _ V2 ⟨D2,hD2,⟨o,rfl,hord⟩,B2⟩;obtain⟨W2,hDW2,-,L2,S2⟩:=B2.use;have d12:=X.trans hD2;refine⟨_,_,rfl,λ_=>⟨nn,nn,_,_,_,_,_,_,_,_,S2.cell 0 8 (by decide),Tri.mono (B2.run (R:=λe U'=>∃c:Mm,e=.returned (.tuple #[.agg #[c.gs.v,c.ns.v],.int .i64 0])/\Mm.Ok U' c/\Gj d y c O) λU E=>Tri.mono (@Q7 U d y (Tab.sub inferInstance (d12.trans E)) (hd.sub (d12.trans E)) (hy.sub (hD2.trans E))) ?_) ?_⟩,λh=>absurd rfl h⟩
 ·rintro _ U' ⟨s',⟨hv,-⟩|⟨-,c,rfl,hcm,I⟩⟩;·have:=Gy.mem;simp_all
  grind
 rintro _ V3 ⟨D3,hD3,⟨c,rfl,hcm,I⟩,B3⟩;have d13:=d12.trans hD3;obtain⟨W3,hDW3,hWV3,L3,S3⟩:=B3.use;have e3:=B3.sub;refine⟨_,_,_,rfl,λ_=>Tri.mono (Rk S3 (hd.sub (d13.trans e3)) (hm.sub (d13.trans e3)) (hy.sub ((hD2.trans hD3).trans e3)) Gy hle (hc.sub (d13.trans e3)) hcl) ?_,λh=>absurd rfl h⟩;rintro _ V4 ⟨g,bs,rfl,FK⟩;obtain⟨D4,hD4,B4,hk4⟩:=B3.catch FK.own.sub;have fl:Ad D4 ⟨some ⟨g,0,none⟩,y.nodes.length,y.nodes.length⟩ 1 (bs.map Gk):=J9 FK.own (λ_=>rfl) (by decide) hk4;have d14:=d13.trans hD4;have K:=hord.sub (hD3.trans hD4);have hc4:=hc.sub d14;have hon:=K.n_eq;have hcln:=hc4.n_eq;have hsm:=H.inv.small;have hk0:=H.inv.k0;refine⟨⟨some ⟨g,0,none⟩,y.nodes.length,y.nodes.length⟩,rfl,λn ys V5=>∃(j:Nat)(Y:Sl)(ws:List Int)(k':Int),n=O.length-j/\j<=O.length/\ys=[c.gs.v,c.ns.v,.slice Y.p Y.n Y.c,ps.v,.int .i64 0,.int .i64 j]/\Gn k cells O j ws k'/\A0 D4 V5 (QL 3 1 (Cu p d vs k') Y (ws.flatMap Al)),O.length,⟨0,Aj,[],k,rfl,vj _,rfl,.start hk0,QL.start Cu.over B4⟩,?_⟩;rintro n V5 v47 v48 Y v50 v51 v52 ⟨j,o2',ws,k',rfl,hj,T,A,B5⟩ J hJ;simp only[yD,and_true]at T;obtain⟨q1,q2,q3,q4,q5,q6⟩:=T;cases Bw _ _ q1;cases Bw _ _ q2;cases Bw _ _ q3;cases Bw _ _ q4;cases CY _ _ q5;cases CY _ _ q6;have e5:=B5.sub;have hwl:=A.len;have hOl:O.length<=4096:=by rw[hO];omega
 have hin:(j:Int)<(o.n:Int)->IR ((j:Int)+1):=λ_=>⟨by omega,by omega⟩;refine⟨λt=>?_,λhge=>?_⟩
 ·have t:(j:Int)<(o.n:Int):=t;obtain⟨x,hxm,hx,-,hil,hpx,hzx,Z⟩:=(K.sub e5).get (i:=j) (by omega);have hr1:=Rch.rng x (by simp_all);obtain⟨u,rfl⟩:∃u:Nat,x=(u:Int)+1:=⟨(x-1).toNat,by omega⟩;obtain⟨b,hb⟩:∃b,bs[u]?=some b:=⟨_,yv (by rw[FK.len];omega)⟩;obtain⟨a1,a2,a3,a4⟩:=bool_at (fl.sub e5) hb;have hI1:IR ((u:Int)+1-1):=⟨by omega,by omega⟩;refine⟨hpx,hzx,t,_,Z,hI1,?_⟩;rw[show((u:Int)+1-1)=(u:Int)by omega];rw[show((u:Int)+1-1)=(u:Int)by omega]at hI1;refine⟨a1,a2,a3,b,a4,λhbt=>?_,λhbf=>?_⟩
  ·have hbt:b=true:=hbt;subst hbt;obtain⟨c0,hc0,hc1⟩:=FK.ok u hb;have hul:=(yw.1 hc0).1;obtain⟨z,-,hz,-,-,hpz,hzz,hrz⟩:=(hc4.sub e5).get (i:=u) (by omega);rw[hc0]at hz;cases hz;refine⟨hI1,hpz,hzz,by omega,_,hrz,λtb htb=>?_⟩;refine pushL (x:=c0) FG (λ_=>rfl) Cu.over B5 htb (by omega) rfl rfl rfl λo3 V7 B7=>⟨o3,rfl,hin t,hJ _ _ _ (show O.length-(j+1)<O.length-j by omega) ⟨j+1,o3,_,k',rfl,by omega,rfl,A.keep C (by rw[hO];exact Rch.dup) (λx hx=>(Rch.rng x (by grind)).1) hx (by simpa using hc0) hc1,B7⟩⟩
  ·have hhi:=A.hi;have hlo:=A.lo;have hI2:IR (k'+1):=⟨by omega,by omega⟩;refine⟨nn,nn,k',QL.cell B5,hI2,nn,nn,QL.count B5 (k'+1) λV6 B6=>⟨nn,nn,k'+1,QL.cell B6,λtb htb=>?_⟩⟩;refine pushL (x:=k'+1) FG (λ_=>rfl) Cu.over B6 htb (by omega) rfl rfl rfl λo3 V7 B7=>⟨o3,rfl,hin t,hJ _ _ _ (show O.length-(j+1)<O.length-j by omega) ⟨j+1,o3,_,k'+1,rfl,by omega,rfl,A.fresh hk0,B7⟩⟩
 ·have hge:¬(j:Int)<(o.n:Int):=hge;have hjO:j=O.length:=by omega
  subst hjO;obtain⟨D5,hD5,hcs5,B5'⟩:=QL.pub (row:=Al) Cu.over (λ_=>rfl) (by decide) B5;have d15:=d14.trans hD5;have e5':=B5'.sub;obtain⟨W5,hDW5,hWV5,L5,S5⟩:=B5'.use;have hp5:=(hp.sub d15).sub e5';have hpn:=hp5.n_eq;have hpc:=hp5.cap;have hpf:=hp5.fit;refine⟨λn ys V6=>∃j:Nat,n=par.length-j/\j<=par.length/\ys=[c.gs.v,c.ns.v,.slice Y.p Y.n Y.c,ps.v,.int .i64 (pthS (vs.map Vr.pv) (par.take j)),.int .i64 j]/\V6=V5,par.length,⟨0,rfl,vj _,rfl,rfl⟩,?_⟩;rintro n V6 v53 v54 v55 v56 v57 v58 ⟨j,rfl,hj,T,rfl⟩ J1 hJ1;simp only[yD,and_true]at T;obtain⟨q1,q2,q3,q4,q5,q6⟩:=T;cases Bw _ _ q1;cases Bw _ _ q2;cases Bw _ _ q3;cases Bw _ _ q4;cases CY _ _ q5;cases CY _ _ q6;have hpt:=pth_in (vs:=vs.map Vr.pv) (par.take j) 0 (by unfold maxI;omega) H.inv.gv.pth;have hpt:0<=pthS (vs.map Vr.pv) (par.take j)/\pthS (vs.map Vr.pv) (par.take j)<=maxI:=hpt;unfold maxI at hpt;refine⟨λt=>?_,λhge=>?_⟩
  ·have t:(j:Int)<(ps.n:Int):=t;obtain⟨x,hxm,hx,-,hil,hpx,hzx,Z⟩:=hp5.get (i:=j) (by omega);have hv:=hpar x hxm;obtain⟨w,hw1,hwm,hw3,hw4,hw5,hw6⟩:=S5.get hv.1 (by have:=hv.2;simpa using this);have hwp:=H.inv.gv.pth w.pv (List.mem_map.2 ⟨w,hwm,rfl⟩);have hwp:0<=w.paths/\w.paths<=maxI:=hwp;unfold maxI at hwp;refine⟨hpx,hzx,t,x,Z,nn,nn,L5,S5.cell 8 1 (by decide),hw3,hw4,hw5,Ak hw3,_,_,_,_,_,hw6,⟨by omega,by omega⟩,GenK.min2 (n1:=1099511627776) (n2:=pthS (vs.map Vr.pv) (par.take j)+w.paths) rfl rfl ⟨_,rfl,hp5.succ t,hJ1 _ _ _ (show par.length-(j+1)<par.length-j by omega) ⟨j+1,rfl,by omega,?_,rfl⟩⟩⟩;have e:pthS (vs.map Vr.pv) (par.take (j+1))=if pthS (vs.map Vr.pv) (par.take j)+w.paths<1099511627776 then pthS (vs.map Vr.pv) (par.take j)+w.paths else 1099511627776:=by
    have e1:pthS (vs.map Vr.pv) (par.take (j+1))=min maxI (pthS (vs.map Vr.pv) (par.take j)+((vs.map Vr.pv).getD x.toNat Fs).paths):=by
     unfold pthS;grind[wc,vh]
    grind[Vr.pv,Fs,maxI]
   rw[e];rfl
  ·have hge:¬(j:Int)<(ps.n:Int):=hge;have hjl:j=par.length:=by omega
   subst hjl;rw[vg]at hpt⊢;obtain⟨v,hv⟩:∃v:Vr,v=⟨c,Y,ws,ps,par,pthS (vs.map Vr.pv) par⟩:=⟨_,rfl⟩;refine⟨nn,nn,L5,S5.cell 8 1 (by decide),S5.cell' 8 0 1 (by decide),nn,nn,λtb htb=>?_⟩;have Z:V6.set tb (.cells #[c.gs.v,c.ns.v,.slice Y.p Y.n Y.c,ps.v,.int .i64 (pthS (vs.map Vr.pv) par)] 98 (0,0))=V6.set tb (.cells v.row.toArray 98 (0,0)):=by rw[hv];rfl
   show GenK _ _ _ _ (V6.set tb (.cells #[c.gs.v,c.ns.v,.slice Y.p Y.n Y.c,ps.v,.int .i64 (pthS (vs.map Vr.pv) par)] 98 (0,0))) _;rw[Z];refine S5.push htb (by omega) rfl rfl λL' V8 _ hst=>⟨L',rfl,nn,nn,hst _ λV9 S9=>⟨nn,nn,L',S9.cell 8 1 (by decide),?_⟩⟩;have hn9:=S9.rows.n_eq;rw[zw]at hn9;have hn9:L'.n=vs.length+1:=hn9;refine⟨⟨by omega,by omega⟩,?_⟩;rw[hR,show((L'.n:Int)-1)=(vs.length:Int)by omega];have hpv:v.pv=newV d r (vs.map Vr.pv) par:=by
    rw[hv];have e1:c.plain=Cn d r.st.mm:=by
     rw[JW Gy.mem (hO▸I)];grind[Ji,St.plain]
    show PV.mk c.plain par _=PV.mk _ par _;rw[e1]
   have hgv:Ew d (vs.map Vr.pv++[v.pv]):=by
    have:=H.inv.gv.run (F:=F) G h0 hpar;grind[runV]
   have hcl2:c.nodes.length=O.length:=I.len;refine⟨D5,d15,⟨vs++[v],k',?_,?_,?_,?_⟩,?_⟩
   ·unfold Cg runV;grind
   ·intro w hw;rcases xh.1 hw with hw|hw;·exact(H.ok w hw).sub d15
    ·rw[zO.1 hw,hv];exact⟨hcm.sub (hD4.trans hD5),hcs5,hp.sub d15⟩
   ·refine H.inv.add hgv (by grind[Lk]) (cells:=cells) (O:=O) ?_;simp_all
   ·exact A0.mk Cu.over ⟨L',S9⟩ hDW5
   ·unfold resV;rw[if_pos rfl,if_pos ho];rfl
end
theorem Ns{W t:Mem}{b:Nat}{g:Int->Option Value}(h:CZ (xe .i64) W b g)(u:t b=W b):CZ (xe .i64) t b g:=by
 obtain⟨es,c,h1,h2⟩:=h.at_;exact⟨es,c,by grind,h2⟩
theorem mpv_some{W:Mem}{b:Nat}{g:Int->Option Value}(h:CZ (xe .i64) W b g):∃o,W b=some o:=by
 obtain⟨es,c,h1,-⟩:=h.at_;grind
def MQ(mb:Nat)(f:Int->Option Value)(Q:Mem->Mem->Prop):Mem->Mem->Prop:=λW V=>∃h,W.sub h/\W mb=none/\CZ (xe .i64) h mb f/\Q h V
section
variable{Q:Mem->Mem->Prop}{D V V' W:Mem}{mb:Nat}{f f':Int->Option Value}{e sz:Nat}
theorem Dt.grow(w:Dt Q)(h:Q W V)(z:V.sub V'):∃t,W.sub t/\Q t V'/\∀b,V b=none->t b=V' b:=by
 obtain⟨M,q,r⟩:=w.1 W V h;have h1:=w.2 _ _ h;refine⟨Mem.minus V' M,λb o u=>?_,r.2 V' λb o _ hv=>z _ _ hv,λb u=>C6 λhm=>r.1 b hm u⟩;rw[C6 λhm=>by simp_all];exact z _ _ (h1 _ _ u)
theorem MQ.over(w:Dt Q):Dt (MQ mb f Q):=by
 refine⟨λW V ⟨r,z,q,hm,u⟩=>?_,λW V ⟨r,z,q,hm,u⟩=>z.trans (w.2 _ _ u)⟩;obtain⟨M,Y,H⟩:=w.1 r V u;obtain⟨o,J⟩:=mpv_some hm;have G:=w.2 _ _ u _ _ J;have A:¬M mb:=λh=>by simp_all
 refine⟨λb=>M b∨b=mb,λb t=>?_,λb t=>?_,λV' Z=>⟨Mem.minus V' M,λc x R=>?_,EK (.inr rfl),Ns hm ?_,H.2 V' λb x t I=>Z b x (.inl t) I⟩⟩
 ·rcases t with t|rfl
  ·cases hw:W b with
   |none=>rfl
   |some x=>
    have h1:=Y b t;rw[z _ _ hw]at h1;cases h1
  ·exact q
 ·rcases t with t|rfl;·exact H.1 b t
  ·rw[G];simp
 ·grind[EK,inr,C6]
 ·rw[C6 A,Z mb o (.inr rfl) G,J]
theorem MQ.start(u:Dt Q)(h:A0 D V Q)(t:V mb=none):A0 D (V.set mb (.map #[] 0)) (MQ mb (λ_=>none) Q):=by
 obtain⟨W,w,z,r⟩:=h.use;obtain⟨q,h1,h2,h3⟩:=Dt.grow u r (Mem.sub_new t (.map #[] 0));exact A0.mk (MQ.over u) (W:=W) ⟨q,h1,free z t,Ns (CZ.made V mb) (h3 mb t),h2⟩ w
theorem MQ.get(t:Dt Q)(h:A0 D V (MQ mb f Q)):CZ (xe .i64) V mb f:=by
 obtain⟨W,w,z,r,q,o,hm,u⟩:=h.use;exact hm.sub (t.2 _ _ u)
theorem MQ.upd(u:Dt Q)(h:A0 D V (MQ mb f Q)){w:Obj}(z:CZ (xe .i64) (V.set mb w) mb f'):A0 D (V.set mb w) (MQ mb f' Q):=by
 obtain⟨W,J,X,G,Z,Y,hm,q⟩:=h.use;obtain⟨M,B,A⟩:=u.1 G V q;obtain⟨o,C⟩:=mpv_some hm;have H:¬M mb:=λh=>by simp_all
 have ne:∀{b},M b->b≠mb:=λt e=>H (e▸t);refine A0.mk (MQ.over u) (W:=W) ⟨Mem.minus (V.set mb w) M,λb x t=>?_,Y,Ns z (C6 H),A.2 _ λb x t hv=>by grind[Mem.set_ne]⟩ J;have r:=Z _ _ t;have I:¬M b:=λh=>by simp_all
 have R:b≠mb:=λe=>by simp_all
 rw[C6 I,Mem.set_ne R];exact u.2 _ _ q _ _ r
theorem QL.take{s:Sl}{vs:List Value}(t:Dt Q)(h:A0 D V Q)(o:Sx.Own V V' e sz s vs):A0 D V' (QL e sz Q s vs):=by
 obtain⟨W,u,w,z⟩:=h.use;obtain⟨r,h1,h2,h3⟩:=Dt.grow t z o.sub;refine A0.mk (QL.over t) (W:=W) ⟨r,⟨h1,o.len,?_⟩,h2⟩ u;rcases o.at_ with h|⟨g,cur,a,b,c,dd⟩;·exact .inl h
 ·exact .inr ⟨g,cur,a,free w b,by simp_all,dd⟩
end
theorem Rl{V:Mem}{l:Sl}{xs:List Nd}(h:Ad V l 2 (xs.map Nd.row))(z:xs.length<=2147483648):Tri xE 83 #[l.v] V λe V'=>∃s:Sl,e=.returned (.slice s.p s.n s.c)/\Sx.Own V V' 55 2 s (xs.flatMap Nd.row):=by
 refine Qi ?_;refine⟨λr=>⟨⟨none,0,0⟩,rfl,?_⟩,λr q t=>?_⟩
 ·have:xs=[]:=by
   cases xs with
   |nil=>rfl
   |cons a H=>
    have:=h.base (i:=0) (by simp);simp_all
  grind[Own.nil,Mem.sub.refl]
 ·have w:=Mem.sub_new t (.cells #[] 55 (0,0));exact app47 (s:=⟨some ⟨q,0,none⟩,0,0⟩) (u:=l) (xs:=[]) (ys:=xs) rfl rfl (Own.empty (V0:=V) w _ _ _) (h.sub w) (by simpa using z) λs' V' o=>⟨s',rfl,s',rfl,by simpa using o⟩
theorem Rm{V:Mem}{s:Sl}{l:List Int}(h:Ad V s 1 (l.map Al)){x:Int}:PP 84 [s.v,.int .i64 x] V (.bool (decide (x∈l))):=by
 refine Qj ?_;refine(c131 h).call ⟨_,rfl,?_⟩;have e:decide (0<=Ck (λy=>decide (x=y)) l)=decide (x∈l):=by
  rcases CP (λy=>decide (x=y)) l with⟨h1,-,h2⟩|⟨i,y,h1,h2,-,h3,h4,-⟩;·grind
  grind
 simp_all
theorem LB{V:Mem}{p:Option Addr}{off n:Nat}{vs:List Value}(h:V.rowp p off n=some vs):V.rowp (Aa p off) 0 n=some vs:=by
 cases p with
 |none=>cases h
 |some a=>
  have t:(a.add off).add 0=a.add off:=by rfl
  show V.row ((a.add off).add 0) n=_;rw[t];exact h
def Gq(O:List Int)(n:Nat)(v:Int):Int:=if v∈O then(n:Int)+CQ O v+1 else 0
def uniF(O:List Int)(n:Nat)(l:List Fld)(vs:List Int):List Int:=(l.zip vs).map λx=>if AC x.1.ty=true then x.2 else Gq O n x.2
section
variable{O vs:List Int}{n:Nat}{l:List Fld}{v:Int}
theorem uniF_len(h:l.length=vs.length):(uniF O n l vs).length=vs.length:=by
 grind[uniF]
theorem uniF_at{i:Nat}{f:Fld}(h:l[i]?=some f)(hv:vs[i]?=some v):(uniF O n l vs)[i]?=some (if AC f.ty=true then v else Gq O n v):=by
 grind[uniF]
theorem pos_in(h:v∈O):0<=CQ O v/\CQ O v<(O.length:Int):=by
 grind[CQ,CP,List.any_eq_false]
theorem toV_shift(t:¬(0:Int)∈O)(h:v=0∨v∈O):Gq O n v=if Cv O v=0 then Cv O v else Cv O v+n:=by
 rcases h with rfl|h
 ·rw[HC];unfold Gq;rw[if_neg t,if_pos rfl]
 ·have u:v≠0:=λe=>t (e▸h);have:=pos_in h;grind[Gq,Cv]
theorem uniF_shift(u:¬(0:Int)∈O)(w:l.length=vs.length)(h:∀y∈CV l vs,y∈O):uniF O n l vs=E9 l (BH O l vs) n:=by
 refine zx λi=>?_;cases t:l[i]? with
 |none=>
  grind[List.getElem?_eq_none_iff,BH,xm,List.length_zip,List.getElem?_eq_none,uniF_len,Lt]
 |some f=>
  have hi:=(yw.1 t).1;have hv:=yv (l:=vs) (i:=i) (by omega);rw[uniF_at t hv,Lu t (HD t hv)];cases z:AC f.ty with
  |true=>simp
  |false=>
   simp only[Bool.false_eq_true,if_false,false_or,Option.some.injEq];grind[toV_shift,inr,Gi]
end
theorem Nt{d:Ds}{x x' y y':Mm}(h:x.plain=x'.plain)(t:y.plain=y'.plain):BR d x y=BR d x' y'/\Co d x y=Co d x' y':=by
 have u:x.globals=x'.globals:=(wu h).1;have w:(x.nodes.map λn=>(n.ty,n.f))=x'.nodes.map λn=>(n.ty,n.f):=(wu h).2;have z:=Ic h;have r:(BU y).plain=(BU y').plain:=by
  have h1:y.globals=y'.globals:=(wu t).1;have h2:(y.nodes.map λn=>(n.ty,n.f))=y'.nodes.map λn=>(n.ty,n.f):=(wu t).2;unfold Mm.plain BU;rw[h1];exact Prod.ext rfl h2
 have q:C1 d y=C1 d y':=Ji r;unfold BR Co;rw[u,w,z,q];exact⟨rfl,rfl⟩
def Bt(d:Ds)(y:Mm):List Int:=(AS d (BU y)).order
def newN(d:Ds)(y:Mm)(k:Nat)(n:Int):Int×List Int:=match y.nodes[(n-1).toNat]? with|some z=>(z.ty,uniF (Bt d y) k (Bm d z.ty) z.f)|none=>(0,[])
def FL(t h:List Int)(n:Int):Int:=if(h[(n-1).toNat]?).getD 0∈t then 0 else(h[(n-1).toNat]?).getD 0
section
variable{d:Ds}{x y:Mm}
theorem LC(G:Am d y):Rch d (BU y) (Bt d y):=FI (J7 G).mem
theorem no_zero(G:Am d y):¬(0:Int)∈Bt d y:=λh=>by have:=(LC G).rng 0 h;omega
theorem uni_nodes(G:Am d y):(BR d x y).2=(x.nodes.map λn=>(n.ty,n.f))++(Bt d y).map (newN d y x.nodes.length):=by
 have R:=LC G;have z:=(BD G.mem).2.2.2.2;show(x.nodes.map λn=>(n.ty,n.f))++(C1 d y).2.map _=_;congr 1;show((Bt d y).map _).map _=_;rw[List.map_map];refine List.map_congr_left λn u=>?_;have r:=R.rng n u;have t:(BU y).nodes=y.nodes:=rfl;rw[t]at r;have w:=yv (l:=y.nodes) (i:=(n-1).toNat) (by omega);have h:=R.shut n u;unfold nodeTgt at h;rw[t,w]at h;simp only[Function.comp_apply,newN];rw[t,w];simp only;rw[uniF_shift (no_zero G) (HF (z _ (yo _))) h];rfl
theorem uni_copy(G:Am d y){g:Fld}{h:List Fld}(u:d.globals=g::h)(w:AC g.ty=false){v:Int}(hv:y.globals[0]?=some v):Co d x y=Gq (Bt d y) x.nodes.length v:=by
 have R:=LC G;have z:(BU y).globals[0]?=some v:=by
  grind[BU]
 have t:=R.glob;have hm:v=0∨v∈Bt d y:=by
  grind[inr,Gi]
 have e:(C1 d y).1.headD 0=Cv (Bt d y) v:=by
  have h1:(C1 d y).1[0]?=some (Cv (Bt d y) v):=by
   show(BH (Bt d y) d.globals (BU y).globals)[0]?=_;grind[HD]
  cases e:(C1 d y).1 with
  |nil=>simp_all
  |cons a l=>simp_all
 grind[Co,toV_shift,no_zero]
theorem ucell_ok{k:Int}{t u O:List Int}(A:t.Nodup)(o:∀c∈t,1<=c/\c<=k)(H:u.Nodup)(J:∀c∈u,1<=c/\c<=k)(G:O.Nodup)(r:∀n∈O,1<=n/\n<=(u.length:Int)):CellOk k (t++O.map (FL t u)):=by
 have one:∀n∈O,∃c,u[(n-1).toNat]?=some c/\c∈u/\FL t u n=if c∈t then 0 else c:=λn w=>by
  have:=r n w;have q:=yv (l:=u) (i:=(n-1).toNat) (by omega);exact⟨_,q,yo _,by unfold FL;rw[q];rfl⟩
 refine⟨λc z=>?_,λi j c hi Z I=>?_⟩
 ·rcases xh.1 z with z|z;·simp_all
  ·obtain⟨n,w,rfl⟩:=List.mem_map.1 z;obtain⟨c,-,h2,h3⟩:=one n w;grind
 ·have at_:∀{i:Nat},(t++O.map (FL t u))[i]?=some c->(i<t.length/\t[i]?=some c)∨(t.length<=i/\∃n,O[i-t.length]?=some n/\u[(n-1).toNat]?=some c/\¬c∈t):=λ{i} h=>by
   by_cases R:i<t.length;·grind
   ·rw[vf (by omega),y4,Option.map_eq_some_iff]at h;obtain⟨n,w,e⟩:=h;obtain⟨X,h1,-,h3⟩:=one n (xJ w);rw[h3]at e;split at e;·omega
    simp_all
  rcases at_ hi with⟨a1,a2⟩|⟨a1,n,a2,a3,a4⟩<;>rcases at_ Z with⟨b1,b2⟩|⟨b1,m,b2,b3,b4⟩
  ·grind[vl]
  ·exact absurd (xJ a2) b4
  ·exact absurd (xJ b2) a4
  ·have B:=(vl (yw.1 a3).1 H).1 (a3.trans b3.symm);have:=r n (xJ a2);have:=r m (xJ b2);have Y:n=m:=by omega
   subst Y;have:=(vl (yw.1 a2).1 G).1 (a2.trans b2.symm);omega
theorem take_set{A B:List Int}{q:Nat}{v:Int}(h:A.length=B.length)(hv:A[q]?=some v):(A.take q++B.drop q).set q v=A.take (q+1)++B.drop (q+1):=by
 have t:=(yw.1 hv).1;refine zx λi=>?_;grind
theorem take_skip{A B:List Int}{q:Nat}{v:Int}(h:A.length=B.length)(hv:A[q]?=some v)(hw:B[q]?=some v):A.take q++B.drop q=A.take (q+1)++B.drop (q+1):=by
 rw[<-take_set h hv];refine zx λi=>?_;grind
end
section
variable{V D:Mem}{p:Nat}{d:Ds}{vs:List Vr}{k:Int}
def UniQ(D:Mem)(p:Nat)(d:Ds)(vs:List Vr)(k:Int)(x y:Mm):Ending->Mem->Prop:=λe V'=>∃h u cs cells,e=.returned (.tuple #[.agg #[u.gs.v,u.ns.v],.slice cs.p cs.n cs.c,.int .i64 (Co d x y)])/\D.sub h/\A0 h V' (Cu p d vs k)/\Mm.Ok h u/\u.plain=BR d x y/\Ad h cs 1 (cells.map Al)/\cells.length=u.nodes.length/\CellOk k cells
theorem Rn[Tab D](H:Ei D V p d vs k)(hd:Ds.Ok D d){a b:Int}{x y:Vr}(ha0:0<=a)(ha1:a<(vs.length:Int))(hxv:vs[a.toNat]?=some x)(hb0:0<=b)(hb1:b<(vs.length:Int))(hyv:vs[b.toNat]?=some y){g:Fld}{gl:List Fld}(hg:d.globals=g::gl)(hpl:AC g.ty=false):
  Tri xE 50 #[pv p,.int .i64 a,.int .i64 b] V (UniQ D p d vs k x.m y.m):=by
 obtain⟨R,hR⟩:∃R,R=UniQ D p d vs k x.m y.m:=⟨_,rfl⟩;rw[<-hR];obtain⟨W,hDW,hWV,L,S⟩:=H.bs.use;have hDV:=H.bs.sub;obtain⟨x',hx1,T,hx2,hx3,hx4,hx5⟩:=S.get ha0 ha1;rw[hxv]at hx1;cases hx1;obtain⟨y',hy1,U,hy2,hy3,hy4,hy5⟩:=S.get hb0 hb1;rw[hyv]at hy1;cases hy1;have hx:=H.ok x T;have C:=H.ok y U;have Gx:=H.inv.good x T;have Gy:=H.inv.good y U;obtain⟨lx1,lx2,lx3⟩:=Jg Gx;obtain⟨ly1,ly2,ly3⟩:=Jg Gy;obtain⟨p1,p2,p3,p4,p5⟩:=BD Gy.mem;have hgl:=HF p4;have hcx:=H.inv.cl x T;have hcy:=H.inv.cl y U;have Rch:=LC Gy;have hcap:(Bt d y.m).length<=y.m.nodes.length:=Rch.cap;have hrng:∀n∈Bt d y.m,1<=n/\n<=(y.m.nodes.length:Int):=Rch.rng;obtain⟨v0,hv0⟩:∃v0,y.m.globals[0]?=some v0:=⟨_,yv (by grind)⟩;refine QB ?_;refine⟨nn,nn,L,S.cell 8 1 (by decide),hx2,hx3,hx4,_,_,_,_,_,hx5,nn,nn,L,S.cell 8 1 (by decide),hy2,hy3,hy4,_,_,_,_,_,hy5,LB hy5,hy2,hy3,hy4,S.cell' 8 0 1 (by decide),nn,nn,?_⟩;refine Tri.mono (G4 (hx.mem.globals.sub hDV) lx1) ?_;rintro _ V1 ⟨Z,rfl,o1⟩;obtain⟨D1,hD1,B1,k1⟩:=H.bs.catch o1.sub;have r1:Ad D1 Z 1 (x.m.globals.map Al):=J9 o1 (λ_=>rfl) (by decide) k1;refine⟨Z,rfl,Tri.mono (Rl (hx.mem.nodes.sub (hDV.trans o1.sub)) (by omega)) ?_⟩;rintro _ V2 ⟨ns2,rfl,o2⟩;have B2:=QL.take Cu.over B1 o2;have oN:Dt (QL 55 2 (Cu p d vs k) ns2 (x.m.nodes.flatMap Nd.row)):=QL.over Cu.over;refine⟨ns2,rfl,Tri.mono (G4 (hx.cs.sub (hDV.trans (o1.sub.trans o2.sub))) (by omega)) ?_⟩;rintro _ V3 ⟨A,rfl,o3⟩;have B3:=QL.take oN B2 o3;have oC:Dt (QL 3 1 (QL 55 2 (Cu p d vs k) ns2 (x.m.nodes.flatMap Nd.row)) A (x.cells.flatMap Al)):=QL.over oN;have s03:=o1.sub.trans (o2.sub.trans o3.sub);have hyg:=C.mem.globals.n_eq;refine⟨A,rfl,mk43 (n:=y.m.gs.n) rfl rfl (by omega) λg' hg'=>⟨⟨some ⟨g',0,none⟩,y.m.gs.n,y.m.gs.n⟩,rfl,?_⟩⟩;have o4:=Jb hg' (n:=y.m.gs.n) (by omega);have s34:=Mem.sub_new hg' (.cells (madeCells (xe .i64 0).cells (y.m.gs.n*1)) 3 (0,0));have hl0:0<y.m.globals.length:=(yw.1 hv0).1;obtain⟨w0,-,hw0,-,-,hpg,hzg,hrg⟩:=(C.mem.globals.sub (hDV.trans (s03.trans s34))).get (i:=0) (by omega);rw[hv0]at hw0;cases hw0;refine⟨hpg,by omega,by omega,v0,hrg,nn,by omega,by simp_all,?_⟩;rw[show((0:Int).toNat*1)=0 by rfl];refine Own.store o4 (i:=0) (by rw[CB];simp;omega) λV5 o5 _=>?_;have e5:((yI y.m.gs.n (0:Int)).flatMap Al).set 0 (.int .i64 v0)=(BU y.m).globals.flatMap Al:=by
  rw[CB,CB];unfold BU;grind
 rw[e5]at o5;obtain⟨D5,hD5,B5,k5⟩:=B3.catch o5.sub;have r5:Ad D5 ⟨some ⟨g',0,none⟩,y.m.gs.n,y.m.gs.n⟩ 1 ((BU y.m).globals.map Al):=J9 o5 (λ_=>rfl) (by decide) k5;have s05:=s03.trans o5.sub;have d5:=hD1.trans hD5;have S5:=S.grow s05;haveI:Tab V5:=Tab.sub (V:=D) inferInstance (d5.trans B5.sub);obtain⟨fm,hfm⟩:∃fm:Mm,fm=⟨⟨some ⟨g',0,none⟩,y.m.gs.n,y.m.gs.n⟩,(BU y.m).globals,y.m.ns,y.m.nodes⟩:=⟨_,rfl⟩;have hfp:(BU y.m).plain=fm.plain:=by rw[hfm];rfl
 have Gf:Am d fm:=(J7 Gy).plain hfp;have hfo:(AS d fm).order=Bt d y.m:=by
  unfold Bt;rw[OM hfp]
 have hfok:Mm.Ok D5 fm:=by
  rw[hfm];refine⟨r5,λv hv=>?_,C.mem.nodes.sub d5,λn hn=>(C.mem.nodesOk n hn).sub d5⟩;unfold BU at hv;cases e:y.m.globals with
  |nil=>simp_all
  |cons q l=>
   rw[e]at hv;rcases yC.1 hv with rfl|hv;·exact C.mem.gIn _ (by simp_all)
   grind[DX]
 refine⟨nn,nn,_,_,_,_,_,_,_,_,S5.cell 0 8 (by decide),?_⟩;have I:=OP (V:=V5) Gf.mem (hd.sub (d5.trans B5.sub)) (hfok.sub B5.sub);rw[hfo]at I;have hfv:fm.v=.agg #[(⟨some ⟨g',0,none⟩,y.m.gs.n,y.m.gs.n⟩:Sl).v,y.m.ns.v]:=by rw[hfm];rfl
 rw[hfv]at I;refine Tri.mono I ?_;rintro _ V6 ⟨o,rfl,o6⟩;obtain⟨D6,hD6,B6,k6⟩:=B5.catch o6.sub;have hord:Ad D6 o 1 ((Bt d y.m).map Al):=J9 o6 (λ_=>rfl) (by decide) k6;have d6:=d5.trans hD6;have hon:=hord.n_eq;have hxn:=hx.mem.nodes.n_eq;refine⟨_,_,rfl,λ_=>GenK.makeMap λmb hmb=>⟨some mb,rfl,?_⟩,λh=>absurd rfl h⟩;have B7:=MQ.start oC B6 hmb;have hlenO:(Bt d y.m).length<=4096:=by omega
 refine Fz (Bt d y.m).length (λi V8=>A0 D6 V8 (MQ mb (λv=>if v∈(Bt d y.m).take i then some (.int .i64 ((x.m.nodes.length:Int)+CQ (Bt d y.m) v+1))else none) (QL 3 1 (QL 55 2 (Cu p d vs k) ns2 (x.m.nodes.flatMap Nd.row)) A (x.cells.flatMap Al)))) (by simpa using B7) ?_;rintro i V8 J hi B8 hJ;refine⟨λX=>?_,λhge=>?_⟩
 ·have X:(i:Int)<(o.n:Int):=X;obtain⟨n,hnm,hn,-,hil,hpn,hzn,hrn⟩:=(hord.sub B8.sub).get (i:=i) (by omega);have hpos:=pos_at Rch.dup hn;rw[hxn];refine⟨hpn,hzn,X,n,hrn,⟨by omega,by omega⟩,⟨by omega,by omega⟩,C3.key (k:=n) (I6 wv) vw (MQ.get oC B8) λob M'=>⟨⟨by omega,by omega⟩,hJ (by omega) _ (MQ.upd oC B8 (M'.congr λv=>?_))⟩⟩;rw[wc,hn];by_cases e:v=n;·simp_all
  simp_all
 have hge:¬(i:Int)<(o.n:Int):=hge;have hil:i=(Bt d y.m).length:=by omega
 subst hil;rw[vg]at B8;obtain⟨F,hF⟩:∃F:Int->Option Value,F=λv=>if v∈Bt d y.m then some (.int .i64 ((x.m.nodes.length:Int)+CQ (Bt d y.m) v+1))else none:=⟨_,rfl⟩
 rw[<-hF]at B8;have hFv:∀v,(F v).getD (.int .i64 0)=.int .i64 (Gq (Bt d y.m) x.m.nodes.length v):=λv=>by
  grind[Gq,Bt]
 refine⟨λr ys V9=>∃(j:Nat)(Y G:Sl)(D8:Mem)(nodes:List Nd),r=(Bt d y.m).length-j/\j<=(Bt d y.m).length/\ys=[.slice Z.p Z.n Z.c,.slice Y.p Y.n Y.c,.slice G.p G.n G.c,.int .i64 j]/\D6.sub D8/\
  A0 D8 V9 (MQ mb F (QL 3 1 (QL 55 2 (Cu p d vs k) Y (nodes.flatMap Nd.row)) G ((x.cells++((Bt d y.m).take j).map (FL x.cells y.cells)).flatMap Al)))/\(nodes.map λn=>(n.ty,n.f))=(x.m.nodes.map λn=>(n.ty,n.f))++((Bt d y.m).take j).map (newN d y.m x.m.nodes.length)/\∀n∈nodes,Nd.Ok D8 n,
  (Bt d y.m).length,⟨0,ns2,A,D6,x.m.nodes,rfl,vj _,rfl,Mem.sub.refl _,by simpa using B8,by simp,λn hn=>(hx.mem.nodesOk n hn).sub d6⟩,?_⟩
 rintro r V9 v32 Y G v35 ⟨j,ns'',cs'',D8,nodes,rfl,hj,hys,hD8,B9,hnp,hnok⟩ J1 hJ1;simp only[yD,and_true]at hys;obtain⟨q1,q2,q3,q4⟩:=hys;cases Bw _ _ q1;cases Bw _ _ q2;cases Bw _ _ q3;cases CY _ _ q4;have e9:=B9.sub;have d8:=d6.trans hD8;have d9:=d8.trans e9;have oN9:Dt (QL 55 2 (Cu p d vs k) Y (nodes.flatMap Nd.row)):=QL.over Cu.over;obtain⟨W9,hDW9,hWV9,Wa,hsa,h0a,hma,Wb,hob,Wc,hoc,L9,S9⟩:=B9.use;have hnl:nodes.length=x.m.nodes.length+j:=by
  have:=congrArg List.length hnp;grind
 have hcl:(x.cells++((Bt d y.m).take j).map (FL x.cells y.cells)).length=x.m.nodes.length+j:=by
  grind
 refine⟨λX=>?_,λhge=>?_⟩
 ·have X:(j:Int)<(o.n:Int):=X;obtain⟨n,hnm,hn,-,hjl,hpn,hzn,hrn⟩:=(hord.sub (hD8.trans e9)).get (i:=j) (by omega);have hr1:=hrng n hnm;obtain⟨u,rfl⟩:∃u:Nat,n=(u:Int)+1:=⟨(n-1).toNat,by omega⟩;have hyn:=C.mem.nodes.n_eq;obtain⟨z,K,hz,-,hul,hpz,hzz,hrz⟩:=(C.mem.nodes.sub d9).get (i:=u) (by omega);have hI:IR ((u:Int)+1-1):=⟨by omega,by omega⟩;have hIj:IR ((j:Int)+1):=⟨by omega,by omega⟩;refine⟨hpn,hzn,X,_,hrn,hI,?_⟩;rw[show((u:Int)+1-1)=(u:Int)by omega]at hI⊢;refine⟨hpz,hzz,by omega,_,_,hrz,Tri.mono (G4 ((C.mem.nodesOk z K).rows.sub d9) (ly3 z K)) ?_⟩;rintro _ V10 ⟨f1,rfl,o10⟩;obtain⟨c1,c2⟩:=of_decide_eq_true (p3 z K);obtain⟨tj,htj⟩:∃tj:Nat,z.ty=(tj:Int):=⟨_,(vu c1).symm⟩;have htn:=hd.types.n_eq;have dV10:=d9.trans o10.sub;obtain⟨t,htm,ht,-,htl,hpt,hzt,hrt⟩:=(hd.types.sub dV10).get (i:=tj) (by omega);have hvals:=p5 z K;have hfo:=Ef ht htj;rw[hfo]at hvals;have hln:=HF hvals;have hUl:=uniF_len (O:=Bt d y.m) (n:=x.m.nodes.length) hln;rw[htj];refine⟨f1,rfl,nn,nn,AX,d.ts,(S9.grow o10.sub).cell 1 1 (by decide),hpt,hzt,by omega,Ak hpt,_,_,hrt,?_⟩;have hM9:=MQ.get (QL.over oN9) B9;have hfr:=(hd.typesOk t htm).fields;have hfn:=hfr.n_eq;refine Fz t.fields.length (λq V11=>Sx.Own V9 V11 3 1 f1 (((uniF (Bt d y.m) x.m.nodes.length t.fields z.f).take q++z.f.drop q).flatMap Al)) (by simpa using o10) ?_;rintro q V11 J2 hq B hJ2;have r11:=B.rows (row:=Al) (λ_=>rfl) (by decide);have h11:=r11.n_eq;rw[zw,vQ,vt,hUl]at h11;have d11:=d9.trans B.sub;refine⟨λE=>?_,λhge2=>?_⟩
  ·have E:(q:Int)<(t.fs.n:Int):=E;obtain⟨f,hfm,hf,-,hql,hpf,hzf,hrf⟩:=(hfr.sub d11).get (i:=q) (by omega);have hIq:IR ((q:Int)+1):=(hfr.sub d11).succ E;obtain⟨fv,hfv⟩:∃fv,z.f[q]?=some fv:=⟨_,yv (by omega)⟩;have hU:=uniF_at (O:=Bt d y.m) (n:=x.m.nodes.length) hf hfv;obtain⟨w,-,hw,-,-,hpw,hzw,hrw⟩:=r11.get (i:=q) (by omega);have hwe:w=fv:=by
    rw[vf (by grind),List.getElem?_drop,vQ,hUl]at hw;rw[show q+(q-min q z.f.length)=q by omega,hfv]at hw;grind
   subst hwe;refine⟨hpf,hzf,E,_,_,hrf,Jl.call ⟨_,rfl,λhp=>⟨hpw,hzw,by omega,w,hrw,BJ.key1 (k:=w) (I6 wv) vw If (hM9.sub B.sub) ?_⟩,λhp=>⟨hIq,hJ2 (by omega) _ ?_⟩⟩⟩
   ·have hp:AC f.ty=false:=by
     grind
    rw[hp]at hU;rw[hFv];refine⟨_,rfl,hpw,hzw,by omega,?_⟩;rw[show((q:Int).toNat*1)=q by omega];refine Own.store B (i:=q) (by rw[CB,xm,zw,vQ,vt,hUl];omega) λV12 o12 _=>⟨hIq,hJ2 (by omega) _ ?_⟩;have e:(((uniF (Bt d y.m) x.m.nodes.length t.fields z.f).take q++z.f.drop q).flatMap Al).set q (.int .i64 (Gq (Bt d y.m) x.m.nodes.length w))=((uniF (Bt d y.m) x.m.nodes.length t.fields z.f).take (q+1)++z.f.drop (q+1)).flatMap Al:=by
     rw[<-take_set hUl hU,CB,CB,List.map_set];rfl
    grind
   ·have hp:AC f.ty=true:=by
     grind
    rw[hp,if_pos rfl]at hU;grind[take_skip]
  ·have hge2:¬(q:Int)<(t.fs.n:Int):=hge2;have hqe:q=t.fields.length:=by omega
   have eF:(uniF (Bt d y.m) x.m.nodes.length t.fields z.f).take q++z.f.drop q=uniF (Bt d y.m) x.m.nodes.length t.fields z.f:=by
    grind
   rw[eF]at B;obtain⟨D11,hD11,B11,k11⟩:=B9.catch B.sub;have r12:Ad D11 f1 1 ((uniF (Bt d y.m) x.m.nodes.length t.fields z.f).map Al):=J9 B (λ_=>rfl) (by decide) k11;obtain⟨nw,hnw⟩:∃nw:Nd,nw=⟨z.ty,f1,uniF (Bt d y.m) x.m.nodes.length t.fields z.f⟩:=⟨_,rfl⟩;have hnwp:(nw.ty,nw.f)=newN d y.m x.m.nodes.length ((u:Int)+1):=by
    unfold newN;rw[show((u:Int)+1-1).toNat=u by omega,hz];grind
   have hnwo:Nd.Ok D11 nw:=by
    rw[hnw];refine⟨r12,(C.mem.nodesOk z K).tyIn,λv hv=>?_⟩;obtain⟨i,hi⟩:=xn.1 hv;have hil:i<(uniF (Bt d y.m) x.m.nodes.length t.fields z.f).length:=(yw.1 hi).1;rw[hUl]at hil;have hfi:=yv (l:=t.fields) (i:=i) (by omega);have hvi:=yv (l:=z.f) (i:=i) (by omega);rw[uniF_at hfi hvi]at hi;split at hi;·rw[<-vK hi];exact(C.mem.nodesOk z K).vals _ (yo _)
    ·rw[<-vK hi];unfold Gq;split
     ·rename_i hm;have:=pos_in hm;unfold DX;omega
     ·unfold DX;decide
   intro tb htb;show GenK _ _ _ _ (V11.set tb (.cells #[.int .i64 (tj:Int),.slice f1.p f1.n f1.c] 55 (0,0))) _;obtain⟨W1,hDW1,hWV1,Wd,hsd,h0d,hmd,We,hoe,hqn⟩:=B11.use;refine pushW (x:=nw) app47 (λ_=>rfl) Cu.over hqn htb (by omega) rfl rfl (by rw[hnw,htj];rfl) λns3 V13 hqn3=>⟨ns3,rfl,hI,?_⟩;have B13:A0 D11 V13 (MQ mb F (QL 3 1 (QL 55 2 (Cu p d vs k) ns3 ((nodes++[nw]).flatMap Nd.row)) G ((x.cells++((Bt d y.m).take j).map (FL x.cells y.cells)).flatMap Al))):=A0.mk (MQ.over (QL.over (QL.over Cu.over))) ⟨Wd,hsd,h0d,hmd,We,hoe,hqn3⟩ hDW1;have d13:=(d8.trans hD11).trans B13.sub;obtain⟨cy,hcym,hcyx,-,-,hpc,hzc,hrc⟩:=(C.cs.sub d13).get (i:=u) (by have:=C.cs.n_eq;omega);refine⟨hpc,hzc,by have:=C.cs.n_eq;omega,cy,hrc,(Rm (hx.cs.sub d13)).call ⟨_,rfl,?_⟩⟩;have huc:FL x.cells y.cells ((u:Int)+1)=if cy∈x.cells then 0 else cy:=by
    unfold FL;rw[show((u:Int)+1-1).toNat=u by omega,hcyx];rfl
   have next:∀{c:Int},FL x.cells y.cells ((u:Int)+1)=c->∀(tc:Nat),V13 tc=none->GenK xE (.call {callee:=(.builtin .append),args:=#[(.tmp 164),(.tmp 166)],argTypes:=#[43,43]}) 43 (gv [(164,uL G),(166,.slice (Aa (sa tc) 0) (1:Int).toNat (1:Int).toNat)]) (V13.set tc (.cells #[.int .i64 c] 3 (0,0))) λx V16=>∃v49:Sl,x=uL v49/\IR ((j:Int)+1)/\J1 [uL Z,uL ns3,uL v49,uI ((j:Int)+1)] V16:=λ{c} hc tc htc=>by
    obtain⟨W2,hDW2,hWV2,Wf,hsf,h0f,hmf,hqc⟩:=B13.use;refine pushW (x:=c) FG (λ_=>rfl) (QL.over Cu.over) hqc htc (by omega) rfl rfl rfl λA V16 hqc3=>⟨A,rfl,hIj,hJ1 _ _ _ (show(Bt d y.m).length-(j+1)<(Bt d y.m).length-j by omega) ⟨j+1,ns3,A,D11,nodes++[nw],rfl,by omega,rfl,hD8.trans hD11,A0.mk (MQ.over (QL.over (QL.over Cu.over))) ⟨Wf,hsf,h0f,hmf,?_⟩ hDW2,?_,λm hm=>?_⟩⟩;·grind[wc,vh,ve,zH]
    ·grind[wc,vh,ve,zH]
    ·rcases xh.1 hm with hm|hm;·exact(hnok m hm).sub hD11
     grind
   refine⟨λhin tc htc=>next ?_ tc htc,λhin tc htc=>next ?_ tc htc⟩;·grind
   grind
 ·have hge:¬(j:Int)<(o.n:Int):=hge;have hjl:j=(Bt d y.m).length:=by omega
  subst hjl;rw[vg]at hnp hob;obtain⟨w1,-,hw1,-,-,hpg1,hzg1,hrg1⟩:=(C.mem.globals.sub d9).get (i:=0) (by omega);rw[hv0]at hw1;cases hw1;have hM9:=MQ.get (QL.over oN9) B9;have ra:=LB hrg1;have hsN:D8.sub Wc:=hDW9.trans (hsa.trans (hob.sub.trans hoc.sub));have last:BJ xE 154 (uM (some mb)) (uI v0) false V9 λx_1=>∃v37,x_1=uI v37/\R (rT #[uA #[uL Z,uL Y],uL G,uI v37]) V9:=by
   refine BJ.key1 (k:=v0) (I6 wv) vw If hM9 ?_;rw[hFv];refine⟨_,rfl,?_⟩;rw[hR];refine⟨Wc,⟨Z,x.m.globals,Y,nodes⟩,G,x.cells++(Bt d y.m).map (FL x.cells y.cells),?_,d8.trans hsN,A0.mk Cu.over ⟨L9,S9⟩ (Mem.sub.refl _),⟨(r1.sub (hD5.trans (hD6.trans hD8))).sub hsN,hx.mem.gIn,hoc.rows (λ_=>rfl) (by decide),λn hn=>(hnok n hn).sub hsN⟩,?_,(hob.rows (row:=Al) (λ_=>rfl) (by decide)).sub hoc.sub,?_,?_⟩;·rw[uni_copy (x:=x.m) Gy hg hpl hv0];rfl
   ·unfold Mm.plain;exact Prod.ext rfl (hnp.trans (uni_nodes Gy).symm)
   ·grind
   ·exact ucell_ok (H.inv.dup x T) (H.inv.rng x T) (H.inv.dup y U) (H.inv.rng y U) Rch.dup λn hn=>by grind
  exact⟨hpg1,by omega,by omega,v0,hrg1,⟨ra,hpg1,by omega,by omega,⟨ra,hpg1,by omega,by omega,last⟩,last⟩,last⟩
end
theorem Ka{m m':Mm}(h:m.plain=m'.plain):AR m=AR m':=by
 have h1:=(wu h).1;have h2:=(wu h).2;grind[AR]
theorem Ro{a b X Y:Prop}(z:a->¬b->Y)(w:(a->b)->X):Br a (Br b X Y) X:=⟨λt=>⟨λu=>w λ_=>u,λu=>z t u⟩,λt=>w λh=>absurd h t⟩
theorem Nu(n:Nat)(er:Int)(r:Rx Int):∃a0 a1 a2 a3 t u:Int,resV n er r=.tuple #[.int .i64 a0,.agg #[.int .i64 a1,.int .i64 a2,.int .i64 a3,.int .i64 t,.int .i64 u],.int .i64 er]:=by
 unfold resV;split;·rename_i h;subst h;exact⟨_,_,_,_,_,_,rfl⟩
 ·exact⟨_,_,_,_,_,_,rfl⟩
theorem ck_eq{F:Int}{n:Nat}{ws:List Int}:Df F n ws=if F<0∨1048576<F then 2 else if ∀x∈ws,0<=x/\x<(n:Int)then 0 else 24:=by
 grind[Df]
theorem two_at{V:Mem}{b:Nat}(x y:Int):Ad (V.set b (.cells #[.int .i64 x,.int .i64 y] 3 (0,0))) ⟨some ⟨b,0,none⟩,2,2⟩ 1 ([x,y].map Al):=
 Ad.cells (xs:=[x,y]) (row:=Al) Az rfl (λ_=>rfl) rfl (by simp)
section
variable{V D:Mem}{p:Nat}{d:Ds}{vs:List Vr}{k:Int}{x y:Vr}{a b:Int}
theorem Kb(h:vs[a.toNat]?=some x):A4 (vs.map Vr.pv) a=Cd x.m.plain:=by
 unfold A4;rw[List.getD_eq_getElem?_getD,y4,h];rfl
theorem Ei.pub(H:Ei D V p d vs k){b:Nat}(h:V b=none)(o:Obj):Ei (D.set b o) (V.set b o) p d vs k/\D.sub (D.set b o):=by
 have t:=Mem.sub_new (free H.bs.sub h) o;exact⟨⟨λv hv=>(H.ok v hv).sub t,H.inv,H.bs.pub h o⟩,t⟩
theorem Ei.grow{V':Mem}(H:Ei D V p d vs k)(h:V.sub V'):Ei D V' p d vs k:=⟨H.ok,H.inv,H.bs.grow h⟩
theorem Ei.sta(H:Ei D V p d vs k):CF D V p d (vs.map Vr.pv):=⟨vs,k,rfl,H⟩
theorem Rp{f:Fld}:PP 47 [f.v] V (.bool (!AC f.ty)):=by
 refine PJ ?_;exact Jl.call ⟨_,rfl,rfl,rfl⟩
def E0(D:Mem)(p:Nat)(d:Ds)(ps:List PV)(F:Int)(x:Sp):Ending->Mem->Prop:=λe V'=>∃h,D.sub h/\CF h V' p d (Cg d (Cp d F.toNat ps x) ps (Fa x) (BV d F ps x))/\e=.returned (resV ps.length (BV d F ps x) (Cp d F.toNat ps x))
theorem E0.bad{F er:Int}{x:Sp}{e:Ending}{V':Mem}(H:Ei D V' p d vs k)(h:BV d F (vs.map Vr.pv) x=er)(t:er≠0)(u:e=.returned (.tuple #[.int .i64 0,.agg (Bo 0 0 0 0).toArray,.int .i64 er])):E0 D p d (vs.map Vr.pv) F x e V':=by
 refine⟨D,Mem.sub.refl _,?_,?_⟩;·rw[h];unfold Cg;rw[if_neg t];exact H.sta
 grind[resV]
theorem OX[Tab D](H:Ei D V p d vs k)(hd:Ds.Ok D d){F:Int}(hF:F<=4000∨1048576<F){nm:KB}{l:Sl}{args:List Int}(ha:Ad D l 1 (args.map Al))(r:vs.length<=900):
  Tri xE 12 #[pv p,.int .i64 a,.agg #[.string nm,l.v],.int .i64 F] V (E0 D p d (vs.map Vr.pv) F ⟨false,a,b,nm,l,args⟩):=by
 obtain⟨R,A⟩:∃R,R=E0 D p d (vs.map Vr.pv) F ⟨false,a,b,nm,l,args⟩:=⟨_,rfl⟩;rw[<-A];refine Ph ?_;have hs:BV d F (vs.map Vr.pv) ⟨false,a,b,nm,l,args⟩=DJ d F (vs.map Vr.pv) a nm args:=rfl;have bad:∀{V':Mem}{er:Int}{e:Ending},V.sub V'->DJ d F (vs.map Vr.pv) a nm args=er->er≠0->e=.returned (.tuple #[.int .i64 0,.agg (Bo 0 0 0 0).toArray,.int .i64 er])->R e V':=λI h w he=>by
  rw[A];exact E0.bad (H.grow I) (hs.trans h) w he
 intro tb X;have z:=Mem.sub_new X (.cells #[.int .i64 a] 3 (0,0));obtain⟨W,hDW,hWV,L,S⟩:=(H.grow z).bs.use;have o:=hd.sub (H.grow z).bs.sub;have J:=ck_eq (F:=F) (n:=vs.length) (ws:=[a]);simp only[zO,forall_eq]at J;refine(J8 S (F:=F) (Gl (V:=V) (b:=tb) a)).call ⟨_,rfl,λw=>?_,λw=>?_⟩;rotate_left
 ·have w:¬Df F vs.length [a]=0:=w;refine bad z ?_ w rfl;rw[J]at w⊢;have hvi:BZ (vs.map Vr.pv) a↔0<=a/\a<(vs.length:Int):=by grind[BZ]
  unfold DJ;grind
 have w:Df F vs.length [a]=0:=w;obtain⟨hf,G,B⟩:=ck_one w;have hv:BZ (vs.map Vr.pv) a:=⟨G,by simp_all⟩;have C:DJ d F (vs.map Vr.pv) a nm args=if AD d nm<0 then 9 else if entB (Ct d nm)=true then AQ d (A4 (vs.map Vr.pv) a) nm args else 30:=by
  grind[DJ]
 refine(OT S o).call ?_;by_cases hi:AD d nm<0
 ·rw[if_pos hi,decide_eq_false (by omega)];exact⟨_,_,_,_,_,_,rfl,λh=>absurd h (by decide),λ_=>bad z (by omega) (by decide) rfl⟩
 rw[if_neg hi,decide_eq_true hi];rw[if_neg hi]at C;obtain⟨i,hpi,E⟩:=Im hi;have K:=o.procsOk _ (xJ E);refine⟨_,_,_,_,_,_,rfl,λ_=>Jl.call ⟨_,rfl,Ro (λh1 h2=>?_) λh12=>?_⟩,λh=>absurd rfl h⟩
 ·have h1:(!AC (Ct d nm).result)=true:=h1;have h2:¬(Ct d nm).result=sE:=h2;refine bad z ?_ (by decide) rfl;grind[entB]
 have hres:(decide ((Ct d nm).result=sE)||AC (Ct d nm).result)=true:=by
  grind[AC,Ct,sE]
 refine(JD (first:=[]) (caps:=[]) K.params Tryz.call47 (λf=>!AC f.ty) (λf _=>Rp)).call ⟨_,rfl,λh=>?_,λh=>?_⟩
 ·refine bad z ?_ (by decide) rfl;grind[entB]
 have Z:entB (Ct d nm)=true:=by
  grind[entB]
 rw[if_pos Z]at C;obtain⟨x,hx,u,T,U,hx4,hx5⟩:=S.get G B;refine⟨nn,nn,L,S.cell 8 1 (by decide),T,U,hx4,_,_,_,_,_,hx5,λtc htc=>?_⟩;obtain⟨H2,t⟩:=(H.grow z).pub htc (.cells #[.int .i64 a] 3 (0,0));obtain⟨n,rfl⟩:∃n:Nat,F=(n:Int):=⟨F.toNat,by omega⟩;have Y:=Kb hx;have hcl:AQ d (A4 (vs.map Vr.pv) a) nm args=AQ d x.m nm args:=by rw[Y];exact Ij (EZ _)
 have hst:AR (A4 (vs.map Vr.pv) a)=AR x.m:=by rw[Y];exact Ka (EZ _)
 haveI:Tab (D.set tc (.cells #[.int .i64 a] 3 (0,0))):=Tab.sub (V:=D) inferInstance t;refine Tri.mono (OW (m:=x.m) (cs:=x.cs) (cells:=x.cells) (par:=[a]) (ps:=⟨some ⟨tc,0,none⟩,1,1⟩) (F:=n) H2 (hd.sub t) ((H.ok x u).mem.sub t) (H.inv.good x u) ((H.ok x u).cs.sub t) (H.inv.cl x u) (H.inv.cok u) (ha.sub t) (by omega) (Gl (V:=D) (b:=tc) a) (λq hq=>by simp_all) r) ?_;rintro _ V7 ⟨D7,hD7,A7,rfl⟩;obtain⟨a0,a1,a2,a3,a4,a5,er⟩:=Nu vs.length (AQ d x.m nm args) (BP d n (AD d nm) args (AR x.m));rw[er];refine⟨_,_,_,_,_,_,_,rfl,?_⟩;show R (.returned (.tuple #[.int .i64 a0,.agg #[.int .i64 a1,.int .i64 a2,.int .i64 a3,.int .i64 a4,.int .i64 a5],.int .i64 (AQ d x.m nm args)])) V7;rw[<-er,A];have e1:BV d (n:Int) (vs.map Vr.pv) ⟨false,a,b,nm,l,args⟩=AQ d x.m nm args:=C.trans hcl;have e2:Cp d (n:Int).toNat (vs.map Vr.pv) ⟨false,a,b,nm,l,args⟩=BP d n (AD d nm) args (AR x.m):=by
  grind[Cp,Ha,stM,BP,AD,AR,A4,Vr.pv]
 refine⟨D7,t.trans hD7,?_,?_⟩;·rw[e1,e2];exact A7
 simp_all
end
section
variable{V D:Mem}{p:Nat}{d:Ds}{vs:List Vr}{k:Int}{x y:Vr}{a b:Int}
theorem Nv[Tab D](H:Ei D V p d vs k)(hd:Ds.Ok D d){F:Int}(hF:F<=4000∨1048576<F){nm:KB}{l:Sl}{args:List Int}(X:vs.length<=900):
  Tri xE 13 #[pv p,.int .i64 a,.int .i64 b,.string nm,.int .i64 F] V (E0 D p d (vs.map Vr.pv) F ⟨true,a,b,nm,l,args⟩):=by
 obtain⟨R,K⟩:∃R,R=E0 D p d (vs.map Vr.pv) F ⟨true,a,b,nm,l,args⟩:=⟨_,rfl⟩;rw[<-K];refine Pj ?_;have hs:BV d F (vs.map Vr.pv) ⟨true,a,b,nm,l,args⟩=DS d F (vs.map Vr.pv) a b nm:=rfl;have bad:∀{V':Mem}{er:Int}{e:Ending},V.sub V'->DS d F (vs.map Vr.pv) a b nm=er->er≠0->e=.returned (.tuple #[.int .i64 0,.agg (Bo 0 0 0 0).toArray,.int .i64 er])->R e V':=λhs1 h w he=>by
  rw[K];exact E0.bad (H.grow hs1) (hs.trans h) w he
 intro tb htb;have T:=Mem.sub_new htb (.cells #[.int .i64 a,.int .i64 b] 3 (0,0));have H1:=H.grow T;obtain⟨W,hDW,hWV,L,S⟩:=H1.bs.use;have r:=hd.sub H1.bs.sub;have o:=ck_eq (F:=F) (n:=vs.length) (ws:=[a,b]);simp only[yC,xC,or_false,forall_eq_or_imp,forall_eq]at o;have hvi:(BZ (vs.map Vr.pv) a/\BZ (vs.map Vr.pv) b)↔(0<=a/\a<(vs.length:Int))/\0<=b/\b<(vs.length:Int):=by grind[BZ]
 refine(J8 S (F:=F) (two_at (V:=V) (b:=tb) a b)).call ⟨_,rfl,λw=>?_,λw=>?_⟩;rotate_left
 ·have w:¬Df F vs.length [a,b]=0:=w;refine bad T ?_ w rfl;rw[o]at w⊢;unfold DS;grind
 have w:Df F vs.length [a,b]=0:=w;rw[o]at w;have hf:¬(F<0∨1048576<F):=λh=>by omega
 rw[if_neg hf]at w;have hab:(0<=a/\a<(vs.length:Int))/\0<=b/\b<(vs.length:Int):=Classical.byContradiction λh=>by omega
 obtain⟨⟨J,G⟩,Z,Y⟩:=hab;have hv:=hvi.2 ⟨⟨J,G⟩,Z,Y⟩;have A:DS d F (vs.map Vr.pv) a b nm=if AD d nm<0 then 9 else if CE d (Ct d nm)=true then(if 4096<(BR d (A4 (vs.map Vr.pv) a) (A4 (vs.map Vr.pv) b)).2.length then 4 else 0)else 30:=by
  grind[DS]
 refine(OT S r).call ?_;by_cases hi:AD d nm<0
 ·rw[if_pos hi,decide_eq_false (by omega)];exact⟨_,_,_,_,_,_,rfl,λh=>absurd h (by decide),λ_=>bad T (by omega) (by decide) rfl⟩
 rw[if_neg hi,decide_eq_true hi];rw[if_neg hi]at A;obtain⟨i,hpi,hpr⟩:=Im hi;have hok:=r.procsOk _ (xJ hpr);refine⟨_,_,_,_,_,_,rfl,λ_=>(Rh S r hok).call ⟨_,rfl,λhm=>?_,λhm=>bad T ?_ (by decide) rfl⟩,λh=>absurd rfl h⟩;rotate_left;·simp_all
 have hm:CE d (Ct d nm)=true:=hm;rw[if_pos hm]at A;obtain⟨f,g,gl,hm1,hm2,hm3,B⟩:=Lv hm;rw[hm3]at B;obtain⟨x,hx,hxm,-⟩:=S.get J G;obtain⟨y,hy,hym,-⟩:=S.get Z Y;obtain⟨u1,u2⟩:=Nt (d:=d) (EZ x.m.plain) (EZ y.m.plain);rw[<-Kb hx,<-Kb hy]at u1 u2;refine Tri.mono (Rn H1 hd J G hx Z Y hy hm2 B) ?_;rintro _ V5 ⟨U,u,cs,cells,rfl,z,B5,hu,C,hcs,hcl,hC⟩;have hun:=hu.nodes.n_eq;have hul:(BR d (A4 (vs.map Vr.pv) a) (A4 (vs.map Vr.pv) b)).2.length=u.nodes.length:=by
  rw[u1,<-C];exact xm ..
 rw[hul]at A;have H5:Ei U V5 p d vs k:=⟨λv hv=>(H.ok v hv).sub z,H.inv,B5⟩;refine⟨_,_,_,_,rfl,λh=>?_,λh=>?_⟩
 ·have h:(4096:Int)<(u.ns.n:Int):=h;rw[if_pos (by omega)]at A;rw[K];have e:BV d F (vs.map Vr.pv) ⟨true,a,b,nm,l,args⟩=4:=A;refine⟨U,z,?_,?_⟩;·rw[e];unfold Cg;rw[if_neg (by decide)];exact H5.sta
  ·rw[e];rfl
 have h:¬(4096:Int)<(u.ns.n:Int):=h;rw[if_neg (by omega)]at A;obtain⟨n,rfl⟩:∃n:Nat,F=(n:Int):=⟨F.toNat,by omega⟩;obtain⟨-,-,GU,hcU,-,-⟩:=Lw H.inv.gv A;have I:(Cd (BR d (A4 (vs.map Vr.pv) a) (A4 (vs.map Vr.pv) b))).plain=u.plain:=by rw[EZ,C,u1]
 have Gu:=GU.plain I;rw[u2,Ij I]at hcU;intro tc htc te hte;obtain⟨H6,hs6⟩:=H5.pub htc (.cells #[.int .i64 (Co d x.m y.m)] 3 (0,0));obtain⟨H7,E⟩:=H6.pub hte (.cells #[.int .i64 a,.int .i64 b] 3 (0,0));have t:=hs6.trans E;haveI:Tab ((U.set tc (.cells #[.int .i64 (Co d x.m y.m)] 3 (0,0))).set te (.cells #[.int .i64 a,.int .i64 b] 3 (0,0))):=Tab.sub (V:=D) inferInstance (z.trans t);refine Tri.mono (OW (m:=u) (cs:=cs) (cells:=cells) (par:=[a,b]) (ps:=⟨some ⟨te,0,none⟩,2,2⟩) (F:=n) (nm:=nm) (l:=⟨some ⟨tc,0,none⟩,1,1⟩) (args:=[Co d x.m y.m]) H7 (hd.sub (z.trans t)) (hu.sub t) Gu (hcs.sub t) hcl hC ((Gl (V:=U) (b:=tc) _).sub E) (by omega) (two_at a b) (λq hq=>by grind) X) ?_;rintro _ V7 ⟨D7,hD7,A7,rfl⟩;obtain⟨a0,a1,a2,a3,a4,a5,er⟩:=Nu vs.length (AQ d u nm [Co d x.m y.m]) (BP d n (AD d nm) [Co d x.m y.m] (AR u));rw[er];refine⟨_,_,_,_,_,_,_,rfl,?_⟩;show R (.returned (.tuple #[.int .i64 a0,.agg #[.int .i64 a1,.int .i64 a2,.int .i64 a3,.int .i64 a4,.int .i64 a5],.int .i64 (AQ d u nm [Co d x.m y.m])])) V7;rw[<-er,K];have e1:BV d (n:Int) (vs.map Vr.pv) ⟨true,a,b,nm,l,args⟩=AQ d u nm [Co d x.m y.m]:=by omega
 have e2:Cp d (n:Int).toNat (vs.map Vr.pv) ⟨true,a,b,nm,l,args⟩=BP d n (AD d nm) [Co d x.m y.m] (AR u):=by
  unfold Cp Ha stM;simp only[if_true,xv];show BP d n (AD d nm) [Co d (A4 (vs.map Vr.pv) a) (A4 (vs.map Vr.pv) b)] (AR (Cd (BR d (A4 (vs.map Vr.pv) a) (A4 (vs.map Vr.pv) b))))=_;rw[u2,Ka I]
 refine⟨D7,z.trans (t.trans hD7),?_,?_⟩;·rw[e1,e2];exact A7
 simp_all
theorem Rq[Tab D](H:Ei D V p d vs k)(q:Ds.Ok D d){x:Sp}(A:Ad D x.sl 1 (x.args.map Al))(t:vs.length<=900):
  Tri xE 33 #[pv p,.agg #[.bool x.meld,.int .i64 x.a,.int .i64 x.b,.string x.nm,x.sl.v]] V (E0 D p d (vs.map Vr.pv) 120 x):=by
 obtain⟨mb,a,b,nm,l,args⟩:=x;obtain⟨R,o⟩:∃R,R=E0 D p d (vs.map Vr.pv) 120 ⟨mb,a,b,nm,l,args⟩:=⟨_,rfl⟩;rw[<-o];refine Pz ?_;have u:∀{e:Ending}{V':Mem},E0 D p d (vs.map Vr.pv) 120 ⟨mb,a,b,nm,l,args⟩ e V'->∃J G Z Y w z r:Int,e=rT #[uI J,uA #[uI G,uI Z,uI Y,uI w,uI z],uI r]/\R (rT #[uI J,uA #[uI G,uI Z,uI Y,uI w,uI z],uI r]) V':=λh=>by
  obtain⟨I,h1,h2,rfl⟩:=h;obtain⟨a0,a1,a2,a3,X,B,er⟩:=Nu (vs.map Vr.pv).length (BV d 120 (vs.map Vr.pv) ⟨mb,a,b,nm,l,args⟩) (Cp d (120:Int).toNat (vs.map Vr.pv) ⟨mb,a,b,nm,l,args⟩);rw[er];refine⟨_,_,_,_,_,_,_,rfl,?_⟩;rw[o];exact⟨I,h1,h2,congrArg xG er.symm⟩
 refine⟨λh=>?_,λh=>?_⟩
 ·obtain rfl:mb=true:=h;exact Tri.mono (Nv (F:=120) (l:=l) (args:=args) H q (.inl (by decide)) t) λe V' h=>u h
 ·obtain rfl:mb=false:=(Bool.not_eq_true _).mp h;exact Tri.mono (OX (F:=120) (b:=b) H q (.inl (by decide)) A t) λe V' h=>u h
end
def slRow(s:Sl):List Value:=[s.v]
theorem appSS:AppP 60 43 1 slRow:=appG Tryz.underlying60 (by kernel_rfl) (by kernel_rfl) (by kernel_rfl) (by kernel_rfl) (by kernel_rfl) (by decide) (by intro _;rfl) λx u hu=>by simp only[slRow,Sl.v,yC,xC,or_false]at hu;subst hu;rfl
theorem appMm:AppP 61 49 2 Mm.row:=appG Tryz.underlying61 (by kernel_rfl) (by kernel_rfl) (by kernel_rfl) (by kernel_rfl) (by kernel_rfl) (by decide) (by intro _;rfl) λx u hu=>by simp only[Mm.row,Sl.v,yC,xC,or_false]at hu;rcases hu with rfl|rfl<;>rfl
theorem copyG{α:Type}{t e sz:Nat}{row:α->List Value}(A:AppP t e sz row){V:Mem}{b:Nat}{l:Sl}{xs:List α}(z:V b=none)(h:Ad V l sz (xs.map row))(r:xs.length<=2147483648){ty:Nat}{x y:Operand}{vals:Operand->Value}(q:vals x=.slice (sa b) 0 0)(o:vals y=.slice l.p l.n l.c){Q:Value->Mem->Prop}(H:∀s V',Sx.Own V V' e sz s (xs.flatMap row)->Q (.slice s.p s.n s.c) V'):
  GenK xE (.call {callee:=.builtin .append,args:=#[x,y],argTypes:=#[t,t]}) ty vals (V.set b (.cells #[] e (0,0))) Q:=by
 have w:=Mem.sub_new z (.cells #[] e (0,0));exact A (s:=⟨some ⟨b,0,none⟩,0,0⟩) (u:=l) (xs:=[]) (ys:=xs) q o (Own.empty (V0:=V) w _ _ _) (h.sub w) (by simpa using r) λs' V' J=>H s' V' (by simpa using J)
def subV:Mem->Mem->Prop:=λW V=>W.sub V
theorem Iq:Dt subV:=⟨λW V h=>⟨λ_=>False,λb h=>h.elim,λb h=>h.elim,λV' _=>GW⟩,λ_ _ h=>h⟩
structure Rr (V:Mem)(P M:Sl)(ps:List PV)(ss:List Sl)(ms:List Mm):Prop where
 pr:Ad V P 1 (ss.map slRow)
 mr:Ad V M 2 (ms.map Mm.row)
 sl:ss.length=ps.length
 ml:ms.length=ps.length
 ok:∀(i:Nat) s v,ss[i]?=some s->ps[i]?=some v->Ad V s 1 (v.par.map Al)
 mok:∀(i:Nat) m v,ms[i]?=some m->ps[i]?=some v->Mm.Ok V m/\m.plain=v.m
def Dg(V:Mem)(P M:Sl)(ps:List PV):Prop:=∃ss ms,Rr V P M ps ss ms
theorem Dg.sub{V V':Mem}{P M:Sl}{ps:List PV}(h:Dg V P M ps)(s:V.sub V'):Dg V' P M ps:=by
 obtain⟨ss,ms,h⟩:=h;exact⟨ss,ms,h.pr.sub s,h.mr.sub s,h.sl,h.ml,λi a v h1 h2=>(h.ok i a v h1 h2).sub s,λi m v h1 h2=>⟨(h.mok i m v h1 h2).1.sub s,(h.mok i m v h1 h2).2⟩⟩
theorem Dg.lens{V:Mem}{P M:Sl}{ps:List PV}(h:Dg V P M ps):P.n=ps.length/\M.n=ps.length:=by
 obtain⟨ss,ms,h⟩:=h;exact⟨h.pr.n_eq.trans h.sl,h.mr.n_eq.trans h.ml⟩
section
variable{V:Mem}{P M:Sl}{ps:List PV}{d:Ds}{v:Int}{F:Nat}{m:Mm}{nm:KB}{args par:List Int}{l pl:Sl}
theorem Dg.mem(h:Dg V P M ps)(z:BZ ps v):∃m,¬M.p=none/\0<=v/\v<(M.n:Int)/\V.rowp M.p (v.toNat*2) 2=some [m.gs.v,m.ns.v]/\Mm.Ok V m/\m.plain=(ps.getD v.toNat Fs).m:=by
 obtain⟨ss,ms,h⟩:=h;obtain⟨x,u,r,e⟩:=isV_mem z;have H:=h.mr.n_eq;have q:=h.ml;obtain⟨i,rfl⟩:∃i:Nat,v=(i:Int):=⟨v.toNat,by have:=z.1;omega⟩;rw[xv]at u e⊢;have hi:=(yw.1 u).1;obtain⟨m,hm,w,-,-,o,J,t⟩:=h.mr.get (i:=i) (by omega);have:=h.mok i m x w u;exact⟨m,o,by omega,by omega,t,this.1,by simp_all⟩
theorem c22(h:Dg V P M ps):PP 22 [.agg #[Go.Sx.vS d.name,d.ts.v,d.gs.v,d.ps.v,d.ms.v,d.is.v,d.qs.v,d.bs.v,P.v,M.v],.int .i64 v] V (.bool (decide (BZ ps v))):=by
 refine Pq ?_;have t:=h.lens.1;refine⟨λh1=>?_,λh1=>?_⟩
 ·have h1:0<=v:=h1;have e:decide (BZ ps v)=decide (v<(P.n:Int)):=by
   rw[t];exact decide_eq_decide.2 ⟨λh=>h.2,λh=>⟨h1,h⟩⟩
  rw[e];exact⟨rfl,rfl⟩
 ·have h1:¬0<=v:=h1;rw[decide_eq_false (show ¬BZ ps v from λh=>h1 h.1)];simp_all
theorem c195{I:Sl}{a b:Int}(t:P.n=ps.length):PP 195 [.agg #[Go.Sx.vS d.name,d.ts.v,d.gs.v,d.ps.v,d.ms.v,d.is.v,d.qs.v,d.bs.v,P.v,M.v,I.v,.int .i64 a,.int .i64 b],.int .i64 v] V (.bool (decide (BZ ps v))):=by
 refine x195 ?_;refine⟨λh1=>?_,λh1=>?_⟩
 ·have h1:0<=v:=h1;have e:decide (BZ ps v)=decide (v<(P.n:Int)):=by
   rw[t];exact decide_eq_decide.2 ⟨λh=>h.2,λh=>⟨h1,h⟩⟩
  rw[e];exact⟨rfl,rfl⟩
 ·have h1:¬0<=v:=h1;rw[decide_eq_false (show ¬BZ ps v from λh=>h1 h.1)];simp_all
theorem c138{P' I:Sl}{a b F:Int}(h:Dg V P M ps)(w:Ds.Ok V d)(R:P'.n=ps.length)(X:Ad V l 1 (args.map Al)):PP 138 [.agg #[Go.Sx.vS d.name,d.ts.v,d.gs.v,d.ps.v,d.ms.v,d.is.v,d.qs.v,d.bs.v,P'.v,M.v,I.v,.int .i64 a,.int .i64 b],.int .i64 v,.agg #[.string nm,l.v],.int .i64 F] V (.int .i64 (DJ d F ps v nm args)):=by
 refine x138 ?_;have u:∀{e:Int},DJ d F ps v nm args=e->(xG (.int .i64 e)=.returned (.int .i64 (DJ d F ps v nm args))/\V=V):=λe=>⟨by rw[e],rfl⟩;refine⟨λh1=>u ?_,λh1=>⟨λh2=>u ?_,λh2=>(c195 R).call ⟨_,rfl,λhv=>?_,λhv=>u ?_⟩⟩⟩;·grind[DJ]
 ·grind[DJ,inr]
 rotate_left;·grind[DJ]
 have h1:¬F<0:=h1;have h2:¬1048576<F:=h2;have hv:=of_decide_eq_true hv;have Y:DJ d F ps v nm args=if AD d nm<0 then 9 else if entB (Ct d nm)=true then AQ d (A4 ps v) nm args else 30:=by
  grind[DJ]
 refine(c136 w).call ⟨_,rfl,λh3=>u ?_,λh3=>?_⟩;·grind[AD]
 have h3:¬AD d nm<0:=h3;rw[if_neg h3]at Y;obtain⟨i,hi,z⟩:=Im h3;have B:=w.procs.n_eq;have C:=(yw.1 z).1;obtain⟨y,q,A,-,-,E,K,r⟩:=w.procs.get (i:=i) (by omega);rw[z]at A;cases A;have S:Ck (λt:Pr=>decide (t.name=nm)) d.procs=(i:Int):=hi;rw[S];refine⟨E,K,by omega,_,_,_,_,_,r,(c196 (w.procsOk _ q)).call ⟨_,rfl,λh4=>?_,λh4=>u ?_⟩⟩;rotate_left;·grind
 rw[if_pos h4]at Y;obtain⟨m,o,H,J,G,Z,T⟩:=h.mem hv;refine⟨o,H,J,_,_,G,(c197 w Z X).call ⟨_,rfl,u ?_⟩⟩;grind[A4,Ij,EZ]
def GrowP(V:Mem)(d:Ds)(ps:List PV)(r:Rx Int)(par:List Int):Ending->Mem->Prop:=λe V'=>V.sub V'/\∃h t:Sl,Dg V' h t (runV d r ps par)/\e=.returned (.tuple #[.agg #[Go.Sx.vS d.name,d.ts.v,d.gs.v,d.ps.v,d.ms.v,d.is.v,d.qs.v,d.bs.v,h.v,t.v],.int .i64 (if DI r=0 then(ps.length:Int)else -1),.agg (Bo (DI r) (outV r) r.st.cm (Be r.st.lg)).toArray])
theorem c137(h:Dg V P M ps)(hd:Ds.Ok V d)(hm:Mm.Ok V m)(G:Am d m)(ha:Ad V l 1 (args.map Al))(hc:AQ d m nm args=0)(hF:F<=4000)(hp:Ad V pl 1 (par.map Al))(hlen:ps.length<=900):
  Tri xE 137 #[.agg #[Go.Sx.vS d.name,d.ts.v,d.gs.v,d.ps.v,d.ms.v,d.is.v,d.qs.v,d.bs.v,P.v,M.v],m.v,.agg #[.string nm,l.v],.int .i64 F,pl.v] V (GrowP V d ps (BP d F (AD d nm) args (AR m)) par):=by
 refine Tri.mono (x137 (R:=GrowP V d ps (BP d F (AD d nm) args (AR m)) par) ?_) λ_ _ h=>h;refine Tri.mono (c193 hd hm G ha hc hF) ?_;rintro _ V1 ⟨q,r,hr,X,rfl⟩;rw[<-hr];have C:Am d r.st.mm:=by grind[Nc]
 refine⟨_,rfl,(c194 X).call ?_⟩;obtain⟨gs,ns,ls,nd,E,Ly⟩:=X.ex;have A:=Ly.sub;refine⟨_,_,_,_,_,rfl,λu=>?_,λu=>?_⟩;rotate_left
 ·have u:¬DI r=0:=u;refine⟨A,P,M,?_,?_⟩;·unfold runV;rw[if_neg u];exact h.sub A
  ·rw[if_neg u];rfl
 have u:DI r=0:=u;obtain⟨ss,ms,B⟩:=h.sub A;have hsl:=B.sl;have hml:=B.ml;intro b1 hb1;refine copyG appSS hb1 B.pr (by omega) rfl rfl λP1 V4 o4=>⟨P1,rfl,λb2 hb2=>?_⟩;refine oneG appSS (x:=pl) o4 hb2 (by omega) rfl rfl (λ_=>rfl) λK V6 o6=>⟨K,rfl,?_⟩;have H:V1.sub V6:=o6.sub;have w:=H _ _ E;refine⟨nn,nn,gs,ns,An w 8 2 (by simp[AF]),EW w 8 0 2 (by simp[AF]),nn,nn,λb3 hb3=>?_⟩;refine copyG appMm hb3 (B.mr.sub H) (by omega) rfl rfl λM1 V8 o8=>⟨M1,rfl,?_⟩;have s8:=H.trans o8.sub;have S:=s8 _ _ E;obtain⟨hmm,T⟩:=JS hd Ly C;have Gy:Am d ⟨gs,r.st.g,ns,nd⟩:=C.plain ((St.plain _).trans T.symm);have B6:A0 V6 V6 subV:=A0.mk Iq (Mem.sub.refl _) (Mem.sub.refl _);have B8:=QL.take Iq B6 o8;refine⟨EW S 8 0 2 (by simp[AF]),nn,nn,Tri.mono (B8.run (R:=λe U'=>∃c:Mm,e=.returned (.agg #[c.gs.v,c.ns.v])/\Mm.Ok U' c/\Gj d ⟨gs,r.st.g,ns,nd⟩ c (AS d ⟨gs,r.st.g,ns,nd⟩).order) λU hU=>Tri.mono (Ll (m:=⟨gs,r.st.g,ns,nd⟩) Gy (hd.sub (A.trans (H.trans hU))) (hmm.sub (H.trans hU))) ?_) ?_⟩;·simp_all
 rintro _ V9 ⟨D9,hD9,⟨c,rfl,hcm,I⟩,B9⟩;refine⟨_,_,rfl,λb4 hb4=>?_⟩;refine pushL (x:=c) appMm (λ_=>rfl) Iq B9 hb4 (by omega) rfl rfl rfl λM2 V11 B11=>⟨M2,rfl,?_⟩;obtain⟨D11,o,hM2,t⟩:=QL.pub (row:=Mm.row) Iq (λ_=>rfl) (by decide) B11;have z:=hD9.trans (o.trans t.sub);have hP2:=o6.rows (row:=slRow) (λ_=>rfl) (by decide);have J:=hP2.n_eq;rw[zw]at J;have J:K.n=ss.length+1:=J;have hI:IR ((K.n:Int)-1):=⟨by omega,by omega⟩;refine⟨hI,hI,A.trans (H.trans z),K,M2,?_,?_⟩;rotate_left;·rw[if_pos u,show((K.n:Int)-1)=(ps.length:Int)by omega];rfl
 unfold runV;rw[if_pos u];have Z:=H.trans z;refine⟨ss++[pl],ms++[c],hP2.sub z,hM2.sub t.sub,by simp[hsl],by simp[hml],λi s x h1 h2=>?_,λi y x h1 h2=>?_⟩
 ·by_cases hi:i<ss.length
  ·rw[xj hi]at h1;rw[xj (by omega)]at h2;exact(B.ok i s x h1 h2).sub Z
  ·have hl1:=(yw.1 h1).1;have Y:i=ss.length:=by grind
   subst Y;rw[vf (Nat.le_refl _),Nat.sub_self]at h1;rw[vf (by omega),show ss.length-ps.length=0 by omega]at h2;cases h1;cases h2;exact hp.sub (A.trans Z)
 ·by_cases hi:i<ms.length
  ·rw[xj hi]at h1;rw[xj (by omega)]at h2;have:=B.mok i y x h1 h2;exact⟨this.1.sub Z,this.2⟩
  ·have hl1:=(yw.1 h1).1;have Y:i=ms.length:=by grind
   subst Y;rw[vf (Nat.le_refl _),Nat.sub_self]at h1;rw[vf (by omega),show ms.length-ps.length=0 by omega]at h2;cases h1;cases h2;refine⟨hcm.sub (o.trans t.sub),?_⟩;rw[JW Gy.mem I];exact Ji (T.trans (St.plain _).symm)
end
end Go.Proofs
