/- Part 19: no statement of the seat is proved here. -/
import Derived.Test.YtcebnmieadkjfaaGreatDoorPg18
set_option linter.unusedVariables false
set_option linter.unusedSimpArgs false
open List renaming mem_of_getElem?->xM,mem_flatMap->uR,mem_map->uT,mem_filter->yz,mem_iff_getElem?->vV,mem_cons_self->zb,getElem?_eq_some_iff->yv,getElem?_eq_getElem->yu,mem_cons->yD,not_mem_nil->xD,length_append->zw,take_add_one->vJ,nodup_append->uU,mem_singleton->zO,take_of_length_le->wR,nodup_nil->uV,any_eq_true->xZ,getElem?_zip_eq_some->uX,mem_cons_of_mem->za,mem_append->vz,getElem?_map->y5,getElem?_eq_none_iff->uY,any_eq_false->xz
open Bool renaming and_eq_true->zC
open Go.Proofs.Tryz renaming prog->xG,underlying37->uW
open Go.Ending renaming returned->xJ
open List.cons renaming injEq->yE
open Go.Value.int renaming injEq->zk
open Int renaming toNat_of_nonneg->uZ
open Prod.mk renaming inj->vn
open Go.Value.string renaming injEq->uz
namespace Go.Proofs
open Go Go.Sx
section
variable{d:Ds}{s:Sl}{l:List Iv}{m:Mm}
theorem reach_with:BM (Bz d s l) m=BM d m:=by kernel_rfl
theorem holdB_with{e:E}{x:Int}:EK (Bz d s l) m e x=EK d m e x:=by
 have h:∀n,AD (Bz d s l) m (Ay (Bz d s l) m n) x e=AD d m (Ay d m n) x e:=λn=>by
  rw[evE_with];exact congrArg (λF=>AD d m F x e) (funext λk=>funext λx=>evM_with d s l m n k x)
 unfold EK;exact decide_eq_decide.2 ⟨λ⟨n,g⟩=>⟨n,(h n).symm.trans g⟩,λ⟨n,g⟩=>⟨n,(h n).trans g⟩⟩
theorem badB_with{v:Iv}{x:Int}:CW (Bz d s l) m v x=CW d m v x:=by
 unfold CW;rw[holdB_with];rfl
theorem allOf_with{v:Iv}{k:List Int}:BZ (Bz d s l) m v k=BZ d m v k:=by
 unfold BZ;rw[show CW (Bz d s l) m v=CW d m v from funext λx=>badB_with]
theorem nodesOf_with{v:Iv}:B0 (Bz d s l) m v=B0 d m v:=by
 unfold B0;rw[reach_with]
theorem Hv:allP (Bz d s l) m=l.flatMap λv=>BZ d m v (B0 d m v):=by
 unfold allP;simp only[allOf_with,nodesOf_with];rfl
def CB(d:Ds)(nms:List KB):Int:=if nms.all (λn=>decide (0<=Cy d n))=true then(if nms.Nodup then 0 else 10)else 9
def B1(d:Ds)(nms:List KB):List Iv:=nms.filterMap λn=>d.invs[(Cy d n).toNat]?
theorem pick_at{n:KB}(h:0<=Cy d n):∃v,d.invs[(Cy d n).toNat]?=some v/\v.name=n/\v∈d.invs:=by
 unfold Cy at h⊢;rcases Cw (λt:Iv=>decide (t.name=n)) d.invs with⟨h1,-,-⟩|⟨i,x,h1,h2,h3,h4,k,h6,-⟩;·rw[h1]at h;exact absurd h (by decide)
 ·exact⟨x,by rw[h1];exact h2,of_decide_eq_true k,h6⟩
theorem Jp{nms:List KB}(h:CB d nms=0):(∀v∈B1 d nms,v∈d.invs)/\(B1 d nms).map (·.name)=nms/\nms.Nodup:=by
 unfold CB at h;split at h
 ·rename_i g;split at h
  ·rename_i k;refine⟨λv hv=>?_,?_,k⟩
   ·obtain⟨n,-,hv⟩:=List.mem_filterMap.1 hv;exact xM hv
   ·clear k h;induction nms with
    |nil=>rfl
    |cons n l u=>
     rw[List.all_cons,zC]at g;obtain⟨v,hv,k,-⟩:=pick_at (of_decide_eq_true g.1);unfold B1 at u⊢;rw[List.filterMap_cons,hv,List.map_cons,u g.2,k]
  ·cases h
 ·cases h
theorem pick_good{nms:List KB}(h:CB d nms=0)(G:Am d m):Am (Bz d s (B1 d nms)) m:=by
 obtain⟨h1,h2,h3⟩:=Jp h;exact good_with G h1 (by rw[h2];exact h3)
theorem all_mem{y:KB×Int}{k:List Iv}(h:y∈k.flatMap λv=>BZ d m v (B0 d m v)):∃v∈k,v.name=y.1/\y.2∈B0 d m v/\CW d m v y.2=true:=by
 obtain⟨v,hv,h⟩:=uR.1 h;unfold BZ at h;obtain⟨n,g,rfl⟩:=uT.1 h;obtain⟨h1,h2⟩:=yz.1 g;exact⟨v,hv,rfl,h1,h2⟩
theorem pick_none{nms:List KB}(h:CB d nms=0)(z:BJ d=none)(r:allP (Bz d s (B1 d nms)) m=[]){y:KB×Int}(q:y∈allP d m):y.1∉nms:=λhm=>by
 obtain⟨v,hv,g,o,e⟩:=all_mem q;obtain⟨h1,h2,-⟩:=Jp h;rw[<-h2]at hm;obtain⟨w,hw,H⟩:=uT.1 hm;obtain⟨i,u⟩:=vV.1 hv;obtain⟨j,k⟩:=vV.1 (h1 w hw);obtain rfl:=names_inj z u k (g.trans H.symm);rw[u]at k;cases k;have:y∈allP (Bz d s (B1 d nms)) m:=by
  rw[Hv];refine uR.2 ⟨v,hw,?_⟩;unfold BZ;exact uT.2 ⟨y.2,yz.2 ⟨o,e⟩,by rw[g]⟩
 rw[r]at this;cases this
theorem pick_some{nms:List KB}(h:CB d nms=0){x:KB×Int}{k:List (KB×Int)}(z:allP (Bz d s (B1 d nms)) m=x::k):x.1∈nms/\∃v∈d.invs,v.name=x.1/\x.2∈B0 d m v/\typV d m x.2=v.ty/\EK d m v.x x.2=false:=by
 have u:x∈allP (Bz d s (B1 d nms)) m:=by rw[z];exact zb
 rw[Hv]at u;obtain⟨v,hv,w,r,g⟩:=all_mem u;obtain⟨h1,h2,-⟩:=Jp h;unfold CW at g;rw[zC]at g;refine⟨?_,v,h1 v hv,w,r,of_decide_eq_true g.1,by simpa using g.2⟩;rw[<-h2,<-w];exact uT.2 ⟨v,hv,rfl⟩
end
end Go.Proofs
namespace Go.Proofs
open Go Go.Sx
attribute [local irreducible] Go.Sx.Tri
section
variable{V0 V V1 V2 V':Mem}{d:Ds}{m:Mm}{x:Int}{nm:KB}
inductive HolP (d:Ds)(m:Mm)(nm:KB)(x:Int):Bool->Int->Prop where
 |arg (h:¬Am d m):HolP d m nm x false 1
 |range (h:Am d m) (h1:¬(0<=x/\x<=(m.nodes.length:Int))):HolP d m nm x false 2
 |name (h:Am d m) (h1:0<=x/\x<=(m.nodes.length:Int)) (h2:Cy d nm<0):HolP d m nm x false 9
 |type (h:Am d m) (h1:0<=x/\x<=(m.nodes.length:Int)) (i:Nat) (v:Iv) (h2:Cy d nm=i) (h3:d.invs[i]?=some v) (h4:¬typV d m x=v.ty):HolP d m nm x false 11
 |val (h:Am d m) (h1:0<=x/\x<=(m.nodes.length:Int)) (i:Nat) (v:Iv) (h2:Cy d nm=i) (h3:d.invs[i]?=some v) (h4:typV d m x=v.ty):HolP d m nm x (EK d m v.x x) 0
theorem HolP.eq{b o:Bool}{f e:Int}(H:HolP d m nm x b f)(r:HolP d m nm x o e):b=o/\f=e:=by
 have same:∀{i j:Nat}{v w:Iv},Cy d nm=i->d.invs[i]?=some v->Cy d nm=j->d.invs[j]?=some w->v=w:=λ{i j v w} h1 h2 h3 h4=>by
  have:i=j:=by omega
  subst this;rw[h2]at h4;cases h4;rfl
 cases H with
 |arg h=>cases r with
  |arg k=>exact⟨rfl,rfl⟩
  |_ k=>exact absurd k h
 |range h h1=>cases r with
  |arg k=>exact absurd h k
  |range k g=>exact⟨rfl,rfl⟩
  |name k g=>exact absurd g h1
  |type k g=>exact absurd g h1
  |val k g=>exact absurd g h1
 |name h h1 h2=>cases r with
  |arg k=>exact absurd h k
  |range k g=>exact absurd h1 g
  |name k g=>exact⟨rfl,rfl⟩
  |type k g i v u=>omega
  |val k g i v u=>omega
 |type h h1 i v h2 h3 h4=>cases r with
  |arg k=>exact absurd h k
  |range k g=>exact absurd h1 g
  |name k g u=>omega
  |type k g j w u z q=>exact⟨rfl,rfl⟩
  |val k g j w u z q=>obtain rfl:=same h2 h3 u z;exact absurd q h4
 |val h h1 i v h2 h3 h4=>cases r with
  |arg k=>exact absurd h k
  |range k g=>exact absurd h1 g
  |name k g u=>omega
  |type k g j w u z q=>obtain rfl:=same h2 h3 u z;exact absurd h4 q
  |val k g j w u z q=>obtain rfl:=same h2 h3 u z;exact⟨rfl,rfl⟩
theorem iIdx_at(h:¬Cy d nm<0):∃(i:Nat)(v:Iv),Cy d nm=i/\d.invs[i]?=some v/\v∈d.invs:=by
 unfold Cy at h⊢;rcases Cw (λt:Iv=>decide (t.name=nm)) d.invs with⟨h1,-,-⟩|⟨i,x,h1,h2,h3,h4,k,-⟩;·rw[h1]at h;exact absurd (by decide) h
 ·exact⟨i,x,h1,h2,xM h2⟩
theorem Px{b t:Nat}(k:V b=some (cell (.string nm) t)){v:Iv}:PP 41 [v.v,pv b] V (.bool (decide (v.name=nm))):=by
 refine NO ?_;exact⟨_,Ax k,rfl,rfl⟩
theorem Py[Tab V](G:Ds.Ok V d)(hm:Mm.Ok V m):Tri xG 16 #[d.v,m.v,.string nm,.int .i64 x] V λe V'=>V'=V/\∃b f,e=.returned (.tuple #[.bool b,.int .i64 f])/\HolP d m nm x b f:=by
 refine Tri.less ?_;refine Nr ?_;have ret:∀{V1:Mem}{b:Bool}{f:Int},V.sub V1->HolP d m nm x b f->∃W,(W=V/\∃N Z,xJ (.tuple #[.bool b,.int .i64 f])=.returned (.tuple #[.bool N,.int .i64 Z])/\HolP d m nm x N Z)/\W.sub V1:=λq u=>⟨V,⟨rfl,_,_,rfl,u⟩,q⟩;refine Tri.mono (Mk G hm) ?_;rintro _ V1 (⟨p,kb,bb,rfl,S,M⟩|⟨Q,rfl,q⟩);rotate_left;·exact⟨_,_,rfl,λh=>absurd h (by decide),λ_=>ret q (.arg Q)⟩
 refine⟨_,_,rfl,λ_=>(Pc S M).call ⟨_,rfl,λh1 b P=>?_,λh1=>ret M.sub (.range S.good λk=>h1 (decide_eq_true k))⟩,λh=>absurd rfl h⟩;have h1:0<=x/\x<=(m.nodes.length:Int):=of_decide_eq_true h1;have A:=Mem.sub_new P (cell (.string nm) 9);have z:=M.grow A;have w:=G.sub z.sub;refine(Kq (first:=[]) (caps:=[pv b]) w.invs Tryz.call41 (λt=>decide (t.name=nm)) (λv _=>Px Ao)).call ⟨_,rfl,λh2=>ret z.sub (.name S.good h1 h2),λh2=>?_⟩;obtain⟨i,v,o,hv,r⟩:=iIdx_at h2;have H:Ci (λt:Iv=>decide (t.name=nm)) d.invs=(i:Int):=o;rw[H];have I:=(yv.1 hv).1;have X:=w.invs.n_eq;obtain⟨y,-,Y,-,C,u,J,g⟩:=w.invs.get (i:=i) (by omega);rw[hv]at Y;cases Y;refine⟨u,J,by omega,Ah u,_,_,_,_,_,_,g,(Me S z h1).call ⟨_,rfl,HW (j:=1) (m:=1) g (by decide) (by decide),Ah u,u,J,by omega,λh3=>?_,λh3=>ret z.sub (.type S.good h1 i v o hv h3)⟩⟩;have h3:typV d m x=v.ty:=h3;refine⟨u,J,by omega,_,_,_,_,_,_,g,Tri.mono (Ml S z (λ_ _ h=>by cases h) r (nodes_ty S.good h1 h3)) ?_⟩;rintro _ D ⟨rfl,-,L,R,-⟩;exact⟨_,rfl,ret R.sub (.val S.good h1 i v o hv h3)⟩
end
section
variable{V V0:Mem}{d:Ds}{m:Mm}{F:Nat}{nm:KB}{args:List Int}{l:Sl}
theorem c8(k:Ds.Ok V d)(hm:Mm.Ok V m){F:Int}:PP 8 [d.v,m.v,.int .i64 F] V (.int .i64 (Cb d m F)):=by
 refine x8 ?_;have bad:¬Am d m->(xJ (.int .i64 1)=.returned (.int .i64 (Cb d m F))/\V=V):=λh=>⟨by grind[Cb],rfl⟩;refine(JV k).call ⟨_,rfl,λh1=>(O3 k).call ⟨_,rfl,λh2=>(LS k hm).call ⟨_,rfl,λh3=>?_,λh3=>bad λG=>h3 G.mem⟩,λh2=>bad λG=>h2 ?_⟩,λh1=>bad λG=>h1 G.valid⟩
 ·have h2:wellT d=true:=h2;unfold wellT at h2;rw[zC,decide_eq_true_eq]at h2;have G:Am d m:=⟨h1,chk_none h2.2,h3⟩;refine⟨λh=>⟨?_,rfl⟩,λh=>⟨λh2=>⟨?_,rfl⟩,λh2=>⟨?_,rfl⟩⟩⟩;·grind[Cb]
  ·grind[Cb]
  grind[Cb]
 ·show wellT d=true;unfold wellT;rw[G.chk,G.valid];rfl
theorem good_lens(G:Am d m):m.globals.length<=2147483648/\m.nodes.length<=4096/\∀n∈m.nodes,n.f.length<=2147483648:=by
 obtain⟨p1,u,p3,e,w⟩:=BX G.mem;have z:=lens12 G.valid;refine⟨by grind[Dk],u,λn g=>?_⟩;have:=(Dk.1 (w n g)).1;have r:=of_decide_eq_true (p3 n g);obtain⟨j,q⟩:∃j:Nat,n.ty=(j:Int):=⟨n.ty.toNat,by omega⟩;have k:j<d.types.length:=by omega
 have o:=yu k;rw[q,En o rfl]at this;grind
end
section
variable{V V0:Mem}{d:Ds}{m:Mm}{nm:KB}{args:List Int}{l:Sl}
theorem KM{F:Int}(h:Cb d m F=0):0<=F/\F<=1048576:=by
 grind[Cb]
end
def FD(s:St):St:=⟨s.g,s.ns,0,0,[]⟩
abbrev O4:=Int×Int×Nat×Nat
def oRow(o:O4):List Value:=Ba o.1 o.2.1 o.2.2.1 o.2.2.2
def outO(r:Rx Int):O4:=(outC r,outV r,r.st.cm,Cm r.st.lg)
structure Dw where
 name:KB
 sl:Sl
 args:List Int
def Dw.row(c:Dw):List Value:=[.string c.name,c.sl.v]
structure Cls.Ok (V:Mem)(l:Sl)(cs:List Dw):Prop where
 rows:Ad V l 2 (cs.map Dw.row)
 args:∀c∈cs,Ad V c.sl 1 (c.args.map AE)
theorem Cls.Ok.sub{V V':Mem}{l:Sl}{cs:List Dw}(h:Cls.Ok V l cs)(k:V.sub V'):Cls.Ok V' l cs:=⟨h.rows.sub k,λc g=>(h.args c g).sub k⟩
section
variable(d:Ds)(F:Nat)
def FE(c:Dw)(s:St):Rx Int:=C7 d F (BR d c.name) c.args s
def Fg:St->List Dw->Int
 |_,[]=>0
 |s,c::cs=>if By d s.mm c.name c.args=0 then Fg (FD (FE d F c s).st) cs else By d s.mm c.name c.args
def Ga:St->List Dw->List O4
 |_,[]=>[]
 |s,c::cs=>outO (FE d F c s)::Ga (FD (FE d F c s).st) cs
def Fh:St->List Dw->St
 |s,[]=>s
 |s,c::cs=>Fh (FD (FE d F c s).st) cs
end
noncomputable def scrE(d:Ds)(F:Int)(m:Mm)(cs:List Dw):Int:=if Cb d m F=0 then(if 2000<cs.length then 4 else Fg d F.toNat (Bm m) cs)else Cb d m F
theorem loop6{V:Mem}{B:Sl->Sl->Sl->Int->Sl->Int->Mem->(KZ)->Prop}{a0 b0 x0:Sl}{y0:Int}{c0:Sl}(len:Nat)(St:Nat->Sl->Sl->Sl->Mem->Prop)(e:St 0 a0 b0 c0 V)
  (step:∀(i:Nat)(a b x:Sl)(y:Int)(c:Sl) V1 J,i<=len->St i a b c V1->(i<len->∀(k g w:Sl)(r:Int)(u:Sl) V2,St (i+1) k g u V2->J [.slice k.p k.n k.c,.slice g.p g.n g.c,.slice w.p w.n w.c,.int .i64 r,.slice u.p u.n u.c,.int .i64 ((i:Int)+1)] V2)->B a b x y c (i:Int) V1 J):
  ∃(I:Nat->KZ)(H:Nat),I H [.slice a0.p a0.n a0.c,.slice b0.p b0.n b0.c,.slice x0.p x0.n x0.c,.int .i64 y0,.slice c0.p c0.n c0.c,.int .i64 0] V/\∀n V1,∀(a b x:Sl)(y:Int)(c:Sl)(v:Int),I n [.slice a.p a.n a.c,.slice b.p b.n b.c,.slice x.p x.n x.c,.int .i64 y,.slice c.p c.n c.c,.int .i64 v] V1->∀J:KZ,(∀m ys z,m<n->I m ys z->J ys z)->B a b x y c v V1 J:=by
 refine⟨LI len λi xs V=>∃(a b x:Sl)(y:Int)(c:Sl),xs=[.slice a.p a.n a.c,.slice b.p b.n b.c,.slice x.p x.n x.c,.int .i64 y,.slice c.p c.n c.c,.int .i64 i]/\St i a b c V,len,LI.start ⟨a0,b0,x0,y0,c0,rfl,e⟩,?_⟩;rintro n V1 a b x y c v ⟨i,rfl,G,k,g,w,r,u,o,N⟩ J Z;simp only[yE,zk,true_and,and_true]at o;obtain⟨h1,h2,h3,rfl,Y,rfl⟩:=o;cases AT _ _ h1;cases AT _ _ h2;cases AT _ _ Y;exact step i _ _ _ _ _ V1 J G N λq k g w r u V2 h2=>LI.next Z q ⟨k,g,w,r,u,rfl,h2⟩
theorem app65:AppP 65 47 5 oRow:=appG Tryz.underlying65 (by kernel_rfl) (by kernel_rfl) (by kernel_rfl) (by kernel_rfl) (by kernel_rfl) (by decide) (by intro _;rfl) λx u hu=>by simp only[oRow,Ba,yD,xD,or_false]at hu;rcases hu with rfl|rfl|rfl|rfl|rfl<;>rfl
theorem one_out{V:Mem}{b t:Nat}(o:O4)(h:V b=some (.cells (oRow o).toArray t (0,0))):Ad V ⟨some ⟨b,0,none⟩,1,1⟩ 5 ([o].map oRow):=
 Ad.cells (xs:=[o]) (row:=oRow) h rfl (λ_=>rfl) rfl (by simp)
section
variable{V V0:Mem}{d:Ds}{F:Nat}{m:Mm}{l:Sl}{cs:List Dw}
theorem mm_len'{s:St}{a b:Sl}{nd:List Nd}(h:nd.map (λn=>(n.ty,n.f))=s.ns):(⟨a,s.g,b,nd⟩:Mm).plain=s.mm.plain:=by
 grind[St.plain,Mm.plain]
theorem lay_rs{W V:Mem}{gs ns ls:Sl}{nd:List Nd}{s:St}(L:AL W V gs ns ls nd s):AL W V gs ns Ag nd (FD s):=⟨L.glob,L.nodes,Own.nil L.sub _ _,L.fld,L.eq,L.gf,L.ff⟩
theorem st_eta{s:St}(h:s=FD s){a b:Sl}{nd:List Nd}(k:nd.map (λn=>(n.ty,n.f))=s.ns):Bm ⟨a,s.g,b,nd⟩=s:=by
 grind[Bm,FD]
def ScrP(V:Mem)(d:Ds)(F:Int)(m:Mm)(cs:List Dw):Ending->Mem->Prop:=λe V'=>V.sub V'/\
 ((scrE d F m cs≠0/\e=.returned (.tuple #[Ag.v,.agg #[Ag.v,Ag.v],.int .i64 (scrE d F m cs)]))∨
 (scrE d F m cs=0/\∃(o a b:Sl)(nd:List Nd),Ad V' o 5 ((Ga d F.toNat (Bm m) cs).map oRow)/\Mm.Ok V' ⟨a,(Fh d F.toNat (Bm m) cs).g,b,nd⟩/\nd.map (λn=>(n.ty,n.f))=(Fh d F.toNat (Bm m) cs).ns/\Am d (Fh d F.toNat (Bm m) cs).mm/\e=.returned (.tuple #[o.v,.agg #[a.v,b.v],.int .i64 0])))
structure At (d:Ds)(F:Nat)(s0:St)(cs:List Dw)(j:Nat)(outs:List O4)(s:St):Prop where
 err:Fg d F s0 cs=Fg d F s (cs.drop j)
 out:Ga d F s0 cs=outs++Ga d F s (cs.drop j)
 st:Fh d F s0 cs=Fh d F s (cs.drop j)
 len:outs.length=j
 rs:s=FD s
 good:Am d s.mm
theorem At.start{s:St}(h:s=FD s)(G:Am d s.mm):At d F s cs 0 [] s:=⟨by rfl,by rfl,by rfl,rfl,h,G⟩
theorem At.next{s0 s:St}{j:Nat}{outs:List O4}{c:Dw}(h:At d F s0 cs j outs s)(w:cs.drop j=c::cs.drop (j+1))(r:By d s.mm c.name c.args=0)(k:Am d (FE d F c s).st.mm):At d F s0 cs (j+1) (outs++[outO (FE d F c s)]) (FD (FE d F c s).st):=by
 have z:=h.err;have g:=h.out;have u:=h.st;rw[w]at z g u;refine⟨?_,?_,u,by rw[zw,h.len];rfl,rfl,⟨k.valid,k.chk,k.mem⟩⟩;·grind[Fg]
 ·rw[g,Ga];simp
theorem At.stop{s0 s:St}{j:Nat}{outs:List O4}{c:Dw}(h:At d F s0 cs j outs s)(k:cs.drop j=c::cs.drop (j+1))(g:By d s.mm c.name c.args≠0):Fg d F s0 cs=By d s.mm c.name c.args:=by
 rw[h.err,k,Fg,if_neg g]
theorem MK[Tab V](X:Ds.Ok V d)(hm:Mm.Ok V m)(q:Cls.Ok V l cs){F:Int}(hF:F<=3000∨1048576<F):Tri xG 28 #[d.v,m.v,l.v,.int .i64 F] V (ScrP V d F m cs):=by
 refine OL (R:=ScrP V d F m cs) ?_;have hln:=q.rows.n_eq;have bad:∀{k:Int}{V':Mem},scrE d F m cs=k->k≠0->V.sub V'->ScrP V d F m cs (.returned (.tuple #[Ag.v,.agg #[Ag.v,Ag.v],.int .i64 k])) V':=λh w hs=>⟨hs,.inl ⟨by rw[h];exact w,by rw[h]⟩⟩;refine(MC X hm).call ⟨_,rfl,λC=>⟨λS=>?_,λS=>?_⟩,λC=>?_⟩;·exact bad (by grind[scrE]) (by decide) (Mem.sub.refl _)
 rotate_left;·exact bad (by grind[scrE]) C (Mem.sub.refl _)
 have S:¬(2000:Int)<(l.n:Int):=S;have G:=Jn C;have hf:=KM C;obtain⟨n,rfl⟩:∃n:Nat,F=(n:Int):=⟨F.toNat,by omega⟩;have Q:scrE d (n:Int) m cs=Fg d n (Bm m) cs:=by grind[scrE]
 obtain⟨l1,l2,l3⟩:=good_lens G;refine Tri.mono (MD hm l1 l2 l3) ?_;rintro _ V1 ⟨gs,ns,nd,rfl,L⟩;refine⟨gs,ns,rfl,loop6 (x0:=Ag) (y0:=0) (c0:=Ag) cs.length (λj a b o V2=>∃W outs s nd,V.sub W/\Sx.Own V W 47 5 o (outs.flatMap oRow)/\AL W V2 a b Ag nd s/\At d n (Bm m) cs j outs s) ⟨V,[],Bm m,nd,Mem.sub.refl _,Own.nil (Mem.sub.refl _) _ _,L,.start rfl (good_st G)⟩ ?_⟩;rintro j a b x y o V2 J hj ⟨W,outs,s,nd,z,T,L,A⟩ hJ;have H:=q.sub (z.trans L.sub);refine⟨λN=>?_,λU=>?_⟩
 ·obtain⟨c,hcm,hc,P,hjl,hp,hz,I⟩:=H.rows.get N;have hst:=st_eta (a:=a) (b:=b) A.rs L.eq;have Gm:Am d ⟨a,s.g,b,nd⟩:=⟨A.good.valid,A.good.chk,F9 (mm_len' L.eq).symm A.good.mem⟩;have hmk:=(Ff (X.sub z) L A.good).1;have Z:By d ⟨a,s.g,b,nd⟩ c.name c.args=By d s.mm c.name c.args:=MH (mm_len' L.eq);refine⟨hp,hz,N,_,_,I,Tri.mono (MG (F:=n) (m:=⟨a,s.g,b,nd⟩) ⟨X.sub z,G.valid,Kz G.valid G.chk,by omega⟩ (by grind) hmk Gm ((q.args c hcm).sub z)) ?_⟩;rintro e V3 (⟨w,s3,rfl⟩|⟨w,p,cc,r,D,M,rfl⟩)
  ·rw[Z]at w⊢;exact⟨_,_,_,_,_,_,_,rfl,λh=>absurd h w,λ_=>bad (Q.trans (A.stop P w)) w (z.trans (L.sub.trans s3))⟩
  ·rw[Z]at w;rw[hst]at D;have D:r=FE d n c s:=D;refine⟨_,_,_,_,_,_,_,rfl,λ_ tb htb=>?_,λh=>absurd rfl h⟩;have ho3:Sx.Own V V3 47 5 o (outs.flatMap oRow):=Own.moveB T (z.trans M.sub) λg cur _ hg=>M.sub _ _ hg;refine app65 (s:=o) (u:=⟨some ⟨tb,0,none⟩,1,1⟩) (xs:=outs) (ys:=[outO r]) rfl rfl (ho3.but.new htb (.cells (oRow (outO r)).toArray 47 (0,0))) (one_out (outO r) Ao) (by have:=A.len;simp;omega) λo4 V4 ho4=>⟨o4,rfl,?_⟩;obtain⟨W',hW',M4,ho5⟩:=M.beside z T ho4;obtain⟨gs4,ns4,ls4,nd4,hat,L4⟩:=M4.ex;have hgd:Am d (FE d n c s).st.mm:=by
    have:=H8 (F:=n) Gm (by rw[Z];exact w);simp_all
   have A':=A.next P w hgd;rw[<-D]at A';exact⟨nn,nn,gs4,ns4,An hat 8 2 (by simp[AH]),H.rows.succ N,hJ hjl _ _ _ _ _ _ ⟨W',_,_,nd4,hW',ho5,lay_rs L4,A'⟩⟩
 ·have hdn:=(H.rows.done U).2;have E:=A.err;have K:=A.out;have Y:=A.st;rw[List.drop_eq_nil_of_le hdn]at E K Y;have E:Fg d n (Bm m) cs=0:=E;have K:Ga d n (Bm m) cs=outs:=by rw[K];simp[Ga]
  have Y:Fh d n (Bm m) cs=s:=Y;refine⟨z.trans L.sub,.inr ⟨Q.trans E,o,a,b,nd,?_,?_,?_,?_,rfl⟩⟩
  ·show Ad V2 o 5 ((Ga d n (Bm m) cs).map oRow);rw[K];exact(T.rows (λ_=>rfl) (by decide)).sub L.sub
  ·show Mm.Ok V2 ⟨a,(Fh d n (Bm m) cs).g,b,nd⟩;rw[Y];exact(Ff (X.sub z) L A.good).1
  ·show _=(Fh d n (Bm m) cs).ns;rw[Y];exact L.eq
  ·show Am d (Fh d n (Bm m) cs).mm;rw[Y];exact A.good
end
theorem Pz{V:Mem}{s:Sl}{l:List KB}(h:Ad V s 1 (l.map BD)){x:KB}:PP 38 [s.v,.string x] V (.int .i64 (Ci (λy=>decide (x=y)) l)):=by
 refine NL ?_;refine AK (mk:=.int .i64) (b0:=0) l.length (λj V1=>V=V1/\AW (λy:KB=>!decide (x=y)) l j) ⟨rfl,AW.zero _ _⟩ ?_;rintro j b V1 J N ⟨rfl,z⟩ q;refine⟨λk=>?_,λu=>?_⟩
 ·obtain⟨y,o,e,-,w,H,G,g⟩:=h.get k;refine⟨H,G,k,_,g,λr=>?_,λr=>⟨h.succ k,q w _ _ ⟨rfl,Hd z e (decide_eq_false r)⟩⟩⟩;grind[Hb,decide_eq_true]
 ·rw[Hc z (h.done u).2];simp_all
theorem KN{V:Mem}{s:Sl}{l:List KB}(h:Ad V s 1 (l.map BD)){x:KB}:PP 15 [s.v,.string x] V (.bool (l.any λy=>decide (x=y))):=by
 refine Nq ?_;refine(Pz h).call ⟨_,rfl,?_⟩;have e:decide (0<=Ci (λy=>decide (x=y)) l)=l.any λy=>decide (x=y):=by
  grind[Cw,decide_eq_true]
 simp_all
theorem app26:AppP 26 99 6 Iv.row:=appG Tryz.underlying26 (by kernel_rfl) (by kernel_rfl) (by kernel_rfl) (by kernel_rfl) (by kernel_rfl) (by decide) (by intro _;rfl) λx u hu=>by simp only[Iv.row,Go.Sx.vS,Go.Sx.vI,Sl.v,yD,xD,or_false]at hu;rcases hu with rfl|rfl|rfl|rfl|rfl|rfl<;>rfl
section
variable{V:Mem}{d:Ds}{F:Nat}{m:Mm}{nm:KB}{args:List Int}{l ns:Sl}{nms:List KB}
theorem PC{b t:Nat}(k:V b=some (cell (.string nm) t)){v:Iv}:PP 70 [v.v,pv b] V (.bool (decide (v.name=nm))):=by
 refine Od ?_;exact⟨_,Ax k,rfl,rfl⟩
def zeroDs:Ds:=⟨sE,Ag,[],Ag,[],Ag,[],Ag,[],Ag,[],Ag,[],Ag,[]⟩
theorem pick_take{i:Nat}{n:KB}{v:Iv}(h:nms[i]?=some n)(hv:d.invs[(Cy d n).toNat]?=some v):B1 d (nms.take (i+1))=B1 d (nms.take i)++[v]:=by
 unfold B1;rw[vJ,h,List.filterMap_append];simp[hv]
theorem nodup_snoc{α:Type}{l:List α}{x:α}(h:l.Nodup)(g:x∉l):(l++(some x).toList).Nodup:=by
 show(l++[x]).Nodup;rw[uU];exact⟨h,by simp,λa u b k e=>g (by rw[zO]at k;rw[<-k,<-e];exact u)⟩
theorem nodup_take{α:Type}{l:List α}{j:Nat}{x:α}(h:l.Nodup)(w:l[j]?=some x)(hm:x∈l.take j):False:=by
 obtain⟨k,u⟩:=vV.1 hm;rw[List.getElem?_take]at u;by_cases g:k<j
 ·rw[if_pos g]at u;obtain⟨z,r⟩:=yv.1 u;obtain⟨q,o⟩:=yv.1 w;exact List.pairwise_iff_getElem.1 (List.nodup_iff_pairwise_ne.1 h) k j z q g (by rw[r,o])
 ·rw[if_neg g]at u;cases u
theorem pick_len:(B1 d nms).length<=nms.length:=by
 unfold B1;exact List.length_filterMap_le _ _
def ChoP(V:Mem)(d:Ds)(nms:List KB):Ending->Mem->Prop:=λe V'=>V.sub V'/\
 ((CB d nms≠0/\e=.returned (.tuple #[zeroDs.v,.int .i64 (CB d nms)]))∨
 (CB d nms=0/\∃s:Sl,Ad V' s 6 ((B1 d nms).map Iv.row)/\e=.returned (.tuple #[(Bz d s (B1 d nms)).v,.int .i64 0])))
theorem ML(hd:Ds.Ok V d)(L:Ad V ns 1 (nms.map BD))(hl:nms.length<=2147483647):Tri xG 29 #[d.v,ns.v] V (ChoP V d nms):=by
 obtain⟨R,X⟩:∃R,R=ChoP V d nms:=⟨_,rfl⟩;rw[<-X];refine OM ?_;have hnn:=L.n_eq;have hnc:=L.cap;have bad:∀{k:Int}{V':Mem},CB d nms=k->k≠0->V.sub V'->R (.returned (.tuple #[zeroDs.v,.int .i64 k])) V':=λh hk hs=>by
  rw[X];exact⟨hs,.inl ⟨by rw[h];exact hk,by rw[h]⟩⟩
 refine⟨λmm xs V1=>∃(i:Nat)(o:Sl),mm=nms.length-i/\i<=nms.length/\xs=[uS d.name,uL d.ts,uL d.gs,uL d.ps,uL d.ms,uL o,uL d.qs,uL d.bs,uI 0,uI i]/\Sx.Own V V1 99 6 o ((B1 d (nms.take i)).flatMap Iv.row)/\(nms.take i).all (λn=>decide (0<=Cy d n))=true,nms.length,
  ⟨0,Ag,rfl,Nat.zero_le _,rfl,Own.nil (Mem.sub.refl _) _ _,rfl⟩,?_⟩
 rintro mm V1 v9 v10 v11 v12 v13 Z v15 v16 v17 v18 ⟨i,o,rfl,hi,Y,q,g⟩ J hJ;simp only[yE,and_true]at Y;obtain⟨q1,q2,q3,q4,q5,q6,q7,q8,q9,C⟩:=Y;cases inj_s _ _ q1;cases AT _ _ q2;cases AT _ _ q3;cases AT _ _ q4;cases AT _ _ q5;cases AT _ _ q6;cases AT _ _ q7;cases AT _ _ q8;cases BG _ _ q9;cases BG _ _ C;have w:=L.sub q.sub;have D:=hd.sub q.sub;refine⟨λz=>?_,λe=>?_⟩
 ·obtain⟨x,Q,P,E,K,S,T,r⟩:=w.get z;refine⟨S,T,z,x,r,λb hb=>?_⟩;have s2:=Mem.sub_new hb (cell (.string x) 9);have H:=D.sub s2;refine(Kq (first:=[]) (caps:=[pv b]) H.invs Tryz.call70 (λt=>decide (t.name=x)) (λv _=>PC Ao)).call ⟨_,rfl,λh2=>?_,λh2=>?_⟩
  ·have h2:Cy d x<0:=h2;refine bad (k:=9) ?_ (by decide) (q.sub.trans s2);unfold CB;rw[if_neg λh=>absurd (of_decide_eq_true (List.all_eq_true.1 h x Q)) (by omega)]
  ·have h2:0<=Cy d x:=by
    have h2:¬Cy d x<0:=h2;omega
   obtain⟨v,hv,hvn,hvm⟩:=pick_at h2;have hdl:=(yv.1 hv).1;have hdn:=H.invs.n_eq;obtain⟨y,-,M,-,hyl,U,hz2,G⟩:=H.invs.get (i:=(Cy d x).toNat) (by omega);rw[hv]at M;cases M;have he:Ci (λt:Iv=>decide (t.name=x)) d.invs=(((Cy d x).toNat:Nat):Int):=by
    show Cy d x=_;omega
   rw[he];refine⟨U,by omega,by omega,_,_,_,_,_,_,G,λtb htb=>?_⟩;have o2:=q.new hb (cell (.string x) 9);have hpl:=pick_len (d:=d) (nms:=nms.take i);have htl:(nms.take i).length<=nms.length:=by rw[List.length_take];omega
   refine app26 (s:=Z) (u:=⟨some ⟨tb,0,none⟩,1,1⟩) (xs:=B1 d (nms.take i)) (ys:=[v]) rfl rfl (o2.new htb _) (Ad.cells (xs:=[v]) (row:=Iv.row) Ao (by simp;rfl) (λ_=>rfl) rfl (by simp)) (by simp;omega) λs5 V5 o5=>⟨s5,rfl,⟨by omega,by omega⟩,hJ _ _ _ (show nms.length-(i+1)<nms.length-i by omega) ⟨i+1,s5,rfl,by omega,rfl,?_,?_⟩⟩;·rw[pick_take P hv];exact o5
   ·rw[vJ,P,List.all_append,g];simpa using h2
 ·have hd0:nms.length<=i:=(w.done e).2;have hti:nms.take i=nms:=wR hd0;rw[hti]at g q;refine⟨λmm xs V2=>∃j:Nat,mm=nms.length-j/\j<=nms.length/\xs=[uI 0,uI j]/\V2=V1/\(nms.take j).Nodup,nms.length,⟨0,rfl,Nat.zero_le _,rfl,rfl,uV⟩,?_⟩;rintro mm V2 v19 v20 ⟨j,rfl,hj,A,rfl,N⟩ J1 hJ1;simp only[yE,and_true]at A;obtain⟨r1,r2⟩:=A;cases BG _ _ r1;cases BG _ _ r2;refine⟨λz=>?_,λe=>?_⟩
  ·obtain⟨x,Q,P,E,K,S,T,r⟩:=w.get z;refine⟨S,T,z,x,r,⟨by omega,by omega,by omega⟩,?_⟩;rw[Fu,sub0,sub0];refine(KN (s:=⟨ns.p,j,ns.c⟩) (l:=nms.take j) (Ad.pre w (by omega))).call ⟨_,rfl,λhc=>?_,λhc=>⟨⟨by omega,by omega⟩,hJ1 _ _ _ (show nms.length-(j+1)<nms.length-j by omega) ⟨j+1,rfl,by omega,rfl,rfl,?_⟩⟩⟩
   ·refine bad (k:=10) ?_ (by decide) q.sub;unfold CB;rw[if_pos g,if_neg λI=>?_];obtain⟨y,M,hxy⟩:=xZ.1 hc;obtain rfl:=of_decide_eq_true hxy;exact nodup_take I P M
   ·rw[vJ,P];exact nodup_snoc N λhm=>hc (xZ.2 ⟨x,hm,decide_eq_true rfl⟩)
  ·have hj0:nms.length<=j:=(w.done e).2;rw[wR hj0]at N;rw[X];refine⟨q.sub,.inr ⟨by unfold CB;rw[if_pos g,if_pos N],Z,q.rows (λ_=>rfl) (by decide),rfl⟩⟩
noncomputable def Fi(d:Ds)(m:Mm)(nms:List KB):Option (KB×Int):=(allP (Bz d Ag (B1 d nms)) m).head?
theorem firstV_eq{s:Sl}:Fi d m nms=(allP (Bz d s (B1 d nms)) m).head?:=by
 unfold Fi;rw[Hv,Hv]
noncomputable def B2(d:Ds)(nms:List KB)(r:Rx Int)(x:Mm):Option (KB×Int):=if outC r=0 then Fi d x nms else none
def grdO(r:Rx Int):Option (KB×Int)->List Value|none=>Ba (outC r) (outV r) r.st.cm (Cm r.st.lg)|some _=>Ba 22 0 r.st.cm (Cm r.st.lg)
def grdX:Option (KB×Int)->List Value|none=>[.string sE,.int .i64 0]|some x=>[.string x.1,.int .i64 x.2]
def zeroG(k:Int):Value:=.tuple #[.agg (Ba 0 0 0 0).toArray,.agg #[Ag.v,Ag.v],.agg #[.string sE,.int .i64 0],.int .i64 k]
def GrdP(V:Mem)(d:Ds)(F:Nat)(m:Mm)(nm:KB)(args:List Int)(nms:List KB)(k:Int):Ending->Mem->Prop:=λe V'=>
 (k≠0/\V.sub V'/\e=.returned (zeroG k))∨
 (k=0/\∃r:Rx Int,∃gs ns ls nd,r=C7 d F (BR d nm) args (Bm m)/\AL V V' gs ns ls nd r.st/\e=.returned (.tuple #[.agg (grdO r (B2 d nms r ⟨gs,r.st.g,ns,nd⟩)).toArray,.agg #[gs.v,ns.v],.agg (grdX (B2 d nms r ⟨gs,r.st.g,ns,nd⟩)).toArray,.int .i64 0]))
end
end Go.Proofs
namespace Go.Proofs.YtcebnmieadkjfaaGreatDoor
open Go Go.Sx Go.Proofs Go.ChangeShapes Go.WideShapes Go.ChangeAt Go.RowKit
set_option maxRecDepth 100000 in
theorem strs_of{H:Type}{enc:TypeId×Value->H}{W u:World}{r:Reach}{b0:Nat}{v:Value}{w:DataW H}{p:List MemPlace}(g:Value.okWide xG u r b0 37 v)(h:DataW.Trod enc xG W 0 (λ_=>true) true 37 v w p):∃(l:Sl)(xs:List KB),v=l.v/\Ad (Bb W) l 1 (xs.map BD):=by
 obtain⟨a,len,cap,rfl⟩:=okWide_slice uW g;obtain⟨fuel,h⟩:=h;have h:∃y,TR enc W fuel 37 [.slice a len cap]=some y:=⟨_,h⟩;obtain⟨l,k,z,q,-⟩:=DH (row:=BD) (ok:=λ_:KB=>True) uW Dv (by decide) (λ_=>rfl) (λm' _ cs x o=>by
  obtain⟨n,rfl⟩:=rd_str Tryz.underlying9 o;exact⟨n,rfl,trivial⟩) h
 exact⟨l,k,z,q⟩
end Go.Proofs.YtcebnmieadkjfaaGreatDoor
namespace Go.Proofs
open Go Go.Sx
attribute [local irreducible] Go.Sx.Tri
section
variable{V:Mem}{d:Ds}{F:Nat}{m:Mm}{nm:KB}{args:List Int}{l ns s:Sl}{nms:List KB}
theorem withOk(k:Ds.Ok V d)(g:CB d nms=0)(u:Ad V s 6 ((B1 d nms).map Iv.row)):Ds.Ok V (Bz d s (B1 d nms)):={k with invs:=u,invsOk:=λv hv=>k.invsOk v ((Jp g).1 v hv)}
theorem KO[Tab V](N:Ds.Ok V d)(hm:Mm.Ok V m)(C:Ad V l 1 (args.map AE))(D:F<=4000)(Z:CB d nms=0)(M:Ad V s 6 ((B1 d nms).map Iv.row)):
  Tri xG 30 #[d.v,(Bz d s (B1 d nms)).v,m.v,.agg #[.string nm,l.v],.int .i64 F] V (GrdP V d F m nm args nms (CA d m nm args F)):=by
 obtain⟨R,Y⟩:∃R,R=GrdP V d F m nm args nms (CA d m nm args F):=⟨_,rfl⟩;rw[<-Y];refine NB ?_;refine Tri.mono (KL N hm C D) ?_;rintro e V1 (⟨o,J,rfl⟩|⟨o,r,gs,ns,ls,nd,X,L,rfl⟩);·exact⟨_,_,_,_,_,_,_,_,rfl,λh=>absurd h o,λ_=>by rw[Y];exact .inl ⟨o,J,rfl⟩⟩
 have J:=L.sub;obtain⟨G,Q⟩:=MI o;have k:=H8 (F:=F) G Q;rw[<-X]at k;obtain⟨P,A⟩:=Ff N L k;have E:Am d ⟨gs,r.st.g,ns,nd⟩:=⟨k.valid,k.chk,F9 ((St.plain r.st).trans A.symm) k.mem⟩;obtain⟨x,w⟩:∃x,x=B2 d nms r ⟨gs,r.st.g,ns,nd⟩:=⟨_,rfl⟩;have q:∀{e:Ending},e=.returned (.tuple #[.agg (grdO r x).toArray,.agg #[gs.v,ns.v],.agg (grdX x).toArray,.int .i64 0])->R e V1:=λh=>by
  rw[Y];exact .inr ⟨o,r,gs,ns,ls,nd,X,L,by rw[h,w]⟩
 have fv:=firstV_eq (d:=d) (m:=⟨gs,r.st.g,ns,nd⟩) (nms:=nms) (s:=s);refine⟨_,_,_,_,_,_,_,_,rfl,λ_=>⟨λz=>⟨λI=>?_,λI=>?_⟩,λz=>?_⟩,λh=>absurd rfl h⟩
 ·have z:outC r=0:=z;have I:(s.n:Int)=0:=I;have Z:=M.n_eq;have e:B1 d nms=[]:=List.eq_nil_of_length_eq_zero (by omega);have w:x=none:=by rw[w];unfold B2;rw[if_pos z,fv,e];rfl
  exact q (by rw[w];rfl)
 ·have z:outC r=0:=z;haveI:Tab V1:=Tab.sub (V:=V) inferInstance J;refine Tri.mono (Ph (withOk (N.sub J) Z (M.sub J)) P) ?_;rintro _ _ ⟨rfl,b,u,y,f,rfl,H⟩;have w:x=(allP (Bz d s (B1 d nms)) ⟨gs,r.st.g,ns,nd⟩).head?:=by rw[w];unfold B2;rw[if_pos z,fv]
  cases H with
  |arg h=>exact absurd (pick_good Z E) h
  |ok h h1=>exact⟨_,_,_,_,rfl,λ_=>⟨λ_=>q (by rw[w,h1];rfl),λh=>absurd rfl h⟩,λh=>absurd rfl h⟩
  |bad h h1=>exact⟨_,_,_,_,rfl,λ_=>⟨λh=>(by cases h),λ_=>q (by rw[w,h1];rfl)⟩,λh=>absurd rfl h⟩
 ·have z:¬outC r=0:=z;have w:x=none:=by rw[w];unfold B2;rw[if_neg z]
  exact q (by rw[w];rfl)
noncomputable def runE(d:Ds)(m:Mm)(nm:KB)(args:List Int)(nms:List KB)(F:Int):Int:=if Cb d m F=0 then(if CB d nms=0 then CA d m nm args F else CB d nms)else Cb d m F
theorem c9[Tab V](N:Ds.Ok V d)(hm:Mm.Ok V m)(P:Ad V l 1 (args.map AE))(Z:Ad V ns 1 (nms.map BD))(A:nms.length<=2147483647){F:Int}(I:F<=3000∨1048576<F):
  Tri xG 9 #[d.v,m.v,.agg #[.string nm,l.v],ns.v,.int .i64 F] V (GrdP V d F.toNat m nm args nms (runE d m nm args nms F)):=by
 obtain⟨R,Y⟩:∃R,R=GrdP V d F.toNat m nm args nms (runE d m nm args nms F):=⟨_,rfl⟩;rw[<-Y];refine x9 ?_;have bad:∀{k:Int}{V':Mem},runE d m nm args nms F=k->k≠0->V.sub V'->R (.returned (zeroG k)) V':=λh w M=>by
  rw[Y];exact .inl ⟨by rw[h];exact w,M,by rw[h]⟩
 refine Tri.mono (MK (l:=Ag) (cs:=[]) N hm ⟨Ad.nil,λ_ h=>by cases h⟩ I) ?_;have H:scrE d F m []=Cb d m F:=by
  unfold scrE Fg;split;·rename_i h;rw[h];rfl
  ·rfl
 rintro _ V1 ⟨J,⟨w,rfl⟩|⟨w,o,a,b,nd,-,-,-,-,rfl⟩⟩
 ·rw[H]at w⊢;exact⟨_,_,_,_,rfl,λh=>absurd h w,λ_=>bad (by unfold runE;rw[if_neg w]) w J⟩
 rw[H]at w;have E:=KM w;obtain⟨n,rfl⟩:∃n:Nat,F=(n:Int):=⟨F.toNat,by omega⟩;refine⟨_,_,_,_,rfl,λ_=>Tri.mono (ML (N.sub J) (Z.sub J) A) ?_,λh=>absurd rfl h⟩;rintro _ V2 ⟨Q,⟨e,rfl⟩|⟨e,q,X,rfl⟩⟩;·exact⟨_,_,_,_,_,_,_,_,_,rfl,λh=>absurd h e,λ_=>bad (by unfold runE;rw[if_pos w,if_neg e]) e (J.trans Q)⟩
 have u:=J.trans Q;haveI:Tab V2:=Tab.sub (V:=V) inferInstance u;refine⟨_,_,_,_,_,_,_,_,_,rfl,λ_=>Tri.mono (KO (F:=n) (N.sub u) (hm.sub u) (P.sub u) (by omega) e X) ?_,λh=>absurd rfl h⟩;have G:runE d m nm args nms n=CA d m nm args n:=by unfold runE;rw[if_pos w,if_pos e]
 rintro _ K (⟨z,C,rfl⟩|⟨z,r,gs,ns,ls,nd,D,L,rfl⟩);·exact⟨_,_,_,_,_,_,_,_,_,_,rfl,bad G z (u.trans C)⟩
 ·refine⟨(if(B2 d nms r ⟨gs,r.st.g,ns,nd⟩).isSome then 22 else outC r),(if(B2 d nms r ⟨gs,r.st.g,ns,nd⟩).isSome then 0 else outV r),r.st.cm,Cm r.st.lg,0,gs,ns,((B2 d nms r ⟨gs,r.st.g,ns,nd⟩).getD (sE,0)).1,((B2 d nms r ⟨gs,r.st.g,ns,nd⟩).getD (sE,0)).2,0,?_,?_⟩;rotate_left
  ·rw[Y];refine .inr ⟨G.trans z,r,gs,ns,ls,nd,D,L.narrow u,?_⟩;cases B2 d nms r ⟨gs,r.st.g,ns,nd⟩<;>rfl
  ·cases B2 d nms r ⟨gs,r.st.g,ns,nd⟩<;>rfl
end
end Go.Proofs
namespace Go.Proofs
open Go Go.Sx
abbrev Bj:=List (Int×Int)
end Go.Proofs
namespace Go.Proofs
open Go Go.Sx
section
variable{d:Ds}{m c:Mm}{O:List Int}
structure Cl (d:Ds)(m:Mm)(a b:Sr):Prop where
 sub:∀x∈a.order,x∈b.order
 shut:∀x∈b.order,x∈a.order∨∀y∈EJ d m x,y∈b.order
 dup:a.order.Nodup->b.order.Nodup
 rng:(∀x∈a.order,1<=x/\x<=(m.nodes.length:Int))->∀x∈b.order,1<=x/\x<=(m.nodes.length:Int)
 cap:a.order.length+BY m a<=m.nodes.length->b.order.length+BY m b<=m.nodes.length
theorem Cl.trans{a b e:Sr}(h:Cl d m a b)(k:Cl d m b e):Cl d m a e:=⟨λx g=>k.sub x (h.sub x g),λx g=>by
 rcases k.shut x g with g|g
 ·rcases h.shut x g with g|g;·exact .inl g
  ·exact .inr λy u=>k.sub y (g y u)
 ·exact .inr g,λn=>k.dup (h.dup n),λr=>k.rng (h.rng r),λr=>k.cap (h.cap r)⟩
theorem tgt_mem{l:List Fld}{vs:List Int}{y:Int}:y∈Dt l vs↔∃(i:Nat)(f:Fld),l[i]?=some f/\vs[i]?=some y/\CQ f.ty=false/\y≠0:=by
 unfold Dt Dr;simp only[uT,yz,zC,Bool.not_eq_true',decide_eq_true_eq,Prod.exists,exists_eq_right];constructor
 ·rintro⟨f,h,h1,h2⟩;obtain⟨i,k⟩:=vV.1 h;rw[uX]at k;exact⟨i,f,k.1,k.2,h1,h2⟩
 ·rintro⟨i,f,h,h1,h2,h3⟩;exact⟨f,vV.2 ⟨i,uX.2 ⟨h,h1⟩⟩,h2,h3⟩
theorem tgt_in(hv:BQ d m=true):(∀y∈Dt d.globals m.globals,1<=y/\y<=(m.nodes.length:Int))/\∀n,∀y∈EJ d m n,1<=y/\y<=(m.nodes.length:Int):=by
 obtain⟨-,-,-,g,u⟩:=BX hv;refine⟨λy k=>?_,λn y k=>?_⟩
 ·obtain⟨i,f,h1,h2,h3,h4⟩:=tgt_mem.1 k;exact ref_in g h1 h2 h3 h4
 ·unfold EJ at k;split at k
  ·rename_i x w;obtain⟨i,f,h1,h2,h3,h4⟩:=tgt_mem.1 k;exact ref_in (u x (xM w)) h1 h2 h3 h4
  ·cases k
theorem Jq{f:Nat}(H:∀st n,1<=n/\n<=(m.nodes.length:Int)->BY m st<f->Cl d m st (A9 d m f st n)/\n∈(A9 d m f st n).order):
  ∀(l:List Int)(s:Sr),(∀y∈l,1<=y/\y<=(m.nodes.length:Int))->BY m s<f->Cl d m s (l.foldl (A9 d m f) s)/\∀y∈l,y∈(l.foldl (A9 d m f) s).order
 |[],s,_,_=>⟨⟨λ_ h=>h,λ_ h=>.inl h,λh=>h,λh=>h,λh=>h⟩,λ_ h=>by cases h⟩
 |a::l,s,g,z=>by
  obtain⟨u,c2⟩:=H s a (g a zb) z;obtain⟨w,r⟩:=Jq H l (A9 d m f s a) (λy k=>g y (za _ k)) (by have:=unS_le (m:=m) u.sub;omega);refine⟨u.trans w,λy k=>?_⟩;rcases yD.1 k with rfl|k;·exact w.sub _ c2
  ·exact r y k
theorem ent_cl(hv:BQ d m=true):∀(f:Nat)(st:Sr)(n:Int),1<=n/\n<=(m.nodes.length:Int)->BY m st<f->Cl d m st (A9 d m f st n)/\n∈(A9 d m f st n).order
 |0,_,_,_,h=>absurd h (Nat.not_lt_zero _)
 |f+1,st,n,w,H=>by
  rw[A9];split;·rename_i h;exact⟨⟨λ_ h=>h,λ_ h=>.inl h,λh=>h,λh=>h,λh=>h⟩,h⟩
  ·rename_i u;have z:=unS_lt w u (a:=st.again);obtain⟨g,c2⟩:=Jq (ent_cl hv f) (EJ d m n) ⟨st.order++[n],st.again⟩ (λy r=>(tgt_in hv).2 n y r) (by omega);have hm:n∈(⟨st.order++[n],st.again⟩:Sr).order:=by simp
   refine⟨⟨λx k=>g.sub x (List.mem_append_left _ k),λx k=>?_,λh=>g.dup ?_,λh=>g.rng λx k=>?_,λh=>g.cap ?_⟩,g.sub n hm⟩
   ·rcases g.shut x k with h|h
    ·rcases vz.1 h with h|h;·exact .inl h
     ·rw[zO.1 h];exact .inr c2
    ·exact .inr h
   ·show(st.order++[n]).Nodup;rw[uU];refine⟨h,by simp,λa q b o e=>u ?_⟩;rw[<-zO.1 o,<-e];exact q
   ·rcases vz.1 k with k|k;·exact h x k
    ·rw[zO.1 k];exact w
   ·show(st.order++[n]).length+_<=_;rw[zw,List.length_singleton];omega
structure PD (d:Ds)(m:Mm)(O:List Int):Prop where
 dup:O.Nodup
 rng:∀x∈O,1<=x/\x<=(m.nodes.length:Int)
 glob:∀y∈Dt d.globals m.globals,y∈O
 shut:∀x∈O,∀y∈EJ d m x,y∈O
 cap:O.length<=m.nodes.length
theorem unS_zero:BY m ⟨[],0⟩<=m.nodes.length:=by
 unfold BY;have:=List.length_filter_le (λi:Nat=>!decide (((i:Int)+1)∈(⟨[],0⟩:Sr).order)) (List.range m.nodes.length);rw[List.length_range]at this;exact this
theorem KR(hv:BQ d m=true):PD d m (BM d m).order:=by
 have hu:=unS_zero (m:=m);obtain⟨k,c2⟩:=Jq (ent_cl hv (m.nodes.length+1)) (Dt d.globals m.globals) ⟨[],0⟩ (tgt_in hv).1 (by omega);refine⟨k.dup uV,k.rng (λx g=>by cases g),c2,λx g=>?_,?_⟩
 ·rcases k.shut x g with h|h;·cases h
  ·exact h
 ·have:=k.cap (by show 0+_<=_;omega);exact Nat.le_trans (Nat.le_add_right _ _) this
def posI(l:List Int)(x:Int):Int:=Ci (λy=>decide (y=x)) l
def Fj(O:List Int)(x:Int):Int:=if x=0 then 0 else posI O x+1
def renL(O:List Int)(l:List Fld)(vs:List Int):List Int:=(l.zip vs).map λx=>if CQ x.1.ty=true then x.2 else Fj O x.2
structure IsCan (d:Ds)(m c:Mm)(O:List Int):Prop where
 globals:c.globals=renL O d.globals m.globals
 len:c.nodes.length=O.length
 at_:∀(i:Nat) n x,O[i]?=some n->m.nodes[(n-1).toNat]?=some x->∃s,c.nodes[i]?=some ⟨x.ty,s,renL O (BV d x.ty) x.f⟩
theorem rho_zero:Fj O 0=0:=by unfold Fj;rw[if_pos rfl]
theorem ren_at{l:List Fld}{vs:List Int}{i:Nat}{f:Fld}{v:Int}(k:l[i]?=some f)(hv:vs[i]?=some v):(renL O l vs)[i]?=some (if CQ f.ty=true then v else Fj O v):=by
 have g:(l.zip vs)[i]?=some (f,v):=uX.2 ⟨k,hv⟩;unfold renL;rw[y5,g];rfl
end
end Go.Proofs
namespace Go.Proofs
open Go Go.Sx
section
variable{d:Ds}{B:Bj}{s t:St}
def canP(d:Ds)(m:Mm):List Int×List (Int×List Int):=
 (renL (BM d m).order d.globals m.globals,(BM d m).order.map λn=>match m.nodes[(n-1).toNat]? with|some x=>(x.ty,renL (BM d m).order (BV d x.ty) x.f)|none=>(0,[]))
end
end Go.Proofs
namespace Go.Proofs
open Go Go.Sx
attribute [local irreducible] Go.Sx.Tri
section
variable{V:Mem}{d:Ds}{m:Mm}
theorem renL_len{O:List Int}{xs:List Fld}{vs:List Int}(h:xs.length=vs.length):(renL O xs vs).length=xs.length:=by
 unfold renL;rw[List.length_map,List.length_zip];omega
end
section
variable{V:Mem}{d:Ds}{m:Mm}
theorem Own.growS{V0 V V':Mem}{e:TypeId}{sz:Nat}{s:Sl}{vs:List Value}(h:Sx.Own V0 V e sz s vs)(k:V.sub V'):Sx.Own V0 V' e sz s vs:=Own.moveB h (h.sub.trans k) λ_ _ _ g=>k _ _ g
structure CanAt (d:Ds)(m:Mm)(V2 V:Mem)(s:Sl)(i:Nat)(nd:List Nd):Prop where
 len:nd.length=i
 at_:∀(j:Nat) n x,j<i->(BM d m).order[j]?=some n->m.nodes[(n-1).toNat]?=some x->∃s,nd[j]?=some ⟨x.ty,s,renL (BM d m).order (BV d x.ty) x.f⟩
 mem:∃W,V2.sub W/\Sx.Own W V 130 2 s (nd.flatMap Nd.row)/\∀n∈nd,Nd.Ok W n
theorem ren_in{O:List Int}{xs:List Fld}{vs:List Int}(u:O.length<=4096)(h:∀v∈vs,D7 v):∀v∈renL O xs vs,D7 v:=λv hv=>by
 unfold renL at hv;obtain⟨⟨a,b⟩,k,rfl⟩:=uT.1 hv;have g:=h b (List.of_mem_zip k).2;show D7 (if _ then b else Fj O b);split;·exact g
 ·unfold Fj;split;·exact⟨by omega,by omega⟩
  ·unfold posI;rcases Cw (λz=>decide (z=b)) O with⟨e,-⟩|⟨j,_,e,-,-,e2,-⟩;·rw[e];exact⟨by decide,by decide⟩
   ·rw[e];exact⟨by show(-9223372036854775808:Int)<=(j:Int)+1;omega,by show(j:Int)+1<=(9223372036854775807:Int);omega⟩
theorem canP_of{c:Mm}(g:BQ d m=true)(I:IsCan d m c (BM d m).order):c.plain=canP d m:=by
 have R:=KR g;unfold Mm.plain canP;rw[I.globals];refine Prod.ext rfl (List.ext_getElem? λi=>?_);rw[y5,y5];cases k:(BM d m).order[i]? with
 |none=>
  have:c.nodes[i]?=none:=by
   rw[uY]at k⊢;rw[I.len];exact k
  rw[this];rfl
 |some n=>
  have z:=R.rng n (xM k);have u:=yu (l:=m.nodes) (i:=(n-1).toNat) (by omega);obtain⟨sl,w⟩:=I.at_ i n _ k u;rw[w];simp only[Option.map_some];rw[u]
end
theorem loop3b{V:Mem}{β k:Type}{mk:β->Value}{mc:k->Value}{B:β->k->Int->Mem->(KZ)->Prop}{b0:β}{c0:k}(ib:∀x y,mk x=mk y->x=y)(q:∀x y,mc x=mc y->x=y)(len:Nat)(St:Nat->β->k->Mem->Prop)(o:St 0 b0 c0 V)
  (step:∀(i:Nat)(b:β)(c:k) V1 J,i<=len->St i b c V1->(i<len->∀g u V2,St (i+1) g u V2->J [mk g,mc u,.int .i64 ((i:Int)+1)] V2)->B b c (i:Int) V1 J):
  ∃(I:Nat->KZ)(e:Nat),I e [mk b0,mc c0,.int .i64 0] V/\∀n V1,∀b:β,∀c:k,∀v:Int,I n [mk b,mc c,.int .i64 v] V1->∀J:KZ,(∀m ys w,m<n->I m ys w->J ys w)->B b c v V1 J:=by
 refine⟨LI len λi xs V=>∃b c,xs=[mk b,mc c,.int .i64 i]/\St i b c V,len,LI.start ⟨b0,c0,rfl,o⟩,?_⟩;rintro n V1 b c v ⟨i,rfl,H,g,u,r,G⟩ J N;simp only[yE,zk,true_and,and_true]at r;obtain⟨Z,Y,rfl⟩:=r;cases ib _ _ Z;cases q _ _ Y;exact step i b c V1 J H G λz g u V2 h2=>LI.next N z ⟨g,u,rfl,h2⟩
theorem plain_eq{t:KB}(h:t=Ai∨t=Ar):CQ t=true:=by
 unfold CQ;rcases h with rfl|rfl<;>simp
section
variable{V0 V:Mem}{d:Ds}{m:Mm}
theorem c172{s:Sl}{l:List Int}(h:Ad V s 1 (l.map AE)){x:Int}:PP 172 [s.v,.int .i64 x] V (.int .i64 (posI l x)):=by
 refine x172 ?_;refine AK (mk:=.int .i64) (b0:=0) l.length (λj V1=>V=V1/\AW (λy:Int=>!decide (y=x)) l j) ⟨rfl,AW.zero _ _⟩ ?_;rintro j b V1 J Z ⟨rfl,z⟩ q;refine⟨λk=>?_,λu=>?_⟩
 ·obtain⟨y,o,H,-,w,G,N,g⟩:=h.get k;refine⟨G,N,k,_,g,λr=>?_,λr=>⟨h.succ k,q w _ _ ⟨rfl,Hd z H (decide_eq_false r)⟩⟩⟩;have e:posI l x=(j:Int):=by grind[posI,Hb,decide_eq_true]
  simp_all
 ·have e:posI l x=-1:=by unfold posI;exact Hc z (h.done u).2
  simp_all
theorem pos_neg{l:List Int}{x:Int}:¬(0<=posI l x)↔¬x∈l:=by
 unfold posI;rcases Cw (λy=>decide (y=x)) l with⟨h1,-,h2⟩|⟨i,y,h1,h2,-,h3,h4,-⟩;·grind
 grind
theorem tgtI_in{xs:List Fld}{vs:List Int}(h:AB d m xs vs=true){i:Nat}:∀y∈tgtI xs vs i,1<=y/\y<=(m.nodes.length:Int):=λy k=>by
 have:y∈Dt xs vs:=by
  unfold tgtI at k;unfold Dt;obtain⟨a,g,rfl⟩:=uT.1 k;grind
 obtain⟨j,f,h1,h2,h3,h4⟩:=tgt_mem.1 this;exact ref_in h h1 h2 h3 h4
def LookRP(V0:Mem)(st:Sr):Ending->Mem->Prop:=λe V'=>∃s:Sl,e=.returned (.agg #[s.v,.int .i64 st.again])/\Sx.Own V0 V' 3 1 s (st.order.flatMap AE)
variable(V0 d m)in
def LookRC(N:Nat):Prop:=∀(st:Sr)(f:Nat) V (s l q:Sl)(xs:List Fld)(vs:List Int),BY m st<=N->BY m st<f->st.order.length+BY m st<=m.nodes.length->Ad V0 l 2 (xs.map Fld.row)->Ad V0 q 1 (vs.map AE)->AB d m xs vs=true->Sx.Own V0 V 3 1 s (st.order.flatMap AE)->
 Tri xG 171 #[d.v,m.v,.agg #[s.v,.int .i64 st.again],l.v,q.v] V (LookRP V0 (lookP d m f st xs vs))
theorem lookRC(Z:BQ d m=true)(hd:Ds.Ok V0 d)(hm:Mm.Ok V0 m)(N:Nat)(ih:∀N',N'<N->LookRC V0 d m N'):LookRC V0 d m N:=by
 intro st f V s l q xs vs hN hf D hl hq hv ho;refine Tri.mono (x171 (R:=LookRP V0 (lookP d m f st xs vs)) ?_) λ_ _ h=>h;have hlen:xs.length=vs.length:=by
  grind[AB]
 have m4:=(BX Z).2.1;refine loop3b (mk:=λs:Sl=>.slice s.p s.n s.c) (mc:=.int .i64) (b0:=s) (c0:=st.again) AT BG xs.length (λi Q a V1=>a=((tgtI xs vs i).foldl (A9 d m f) st).again/\Sx.Own V0 V1 3 1 Q (((tgtI xs vs i).foldl (A9 d m f) st).order.flatMap AE)) ⟨rfl,ho⟩ ?_;rintro i Q a V1 J hi ⟨rfl,h1⟩ hJ;obtain⟨g,w⟩:∃g,g=(tgtI xs vs i).foldl (A9 d m f) st:=⟨_,rfl⟩;rw[<-w]at h1⊢;have hu:BY m g<=BY m st:=by simp_all[unS_le,foldP_sub]
 have hcl:Cl d m st g:=by rw[w];exact(Jq (ent_cl Z f) (tgtI xs vs i) st (tgtI_in hv) hf).1
 have hcap1:=hcl.cap D;have r:=hl.sub h1.sub;have E:=hq.sub h1.sub;refine⟨λo=>?_,λhge=>?_⟩
 ·obtain⟨x,hxm,hx,-,K,hp,hz,P⟩:=r.get o;have n1:=r.n_eq;have n2:=E.n_eq;obtain⟨y,hym,hy,-,hjl,hpy,hzy,I⟩:=E.get (i:=i) (by omega);have same:Dr (x,y)=false->J [.slice Q.p Q.n Q.c,.int .i64 g.again,.int .i64 ((i:Int)+1)] V1:=λhr=>by
   refine hJ K Q g.again V1 ?_;rw[Ja hx hy,hr,if_neg (by decide),List.append_nil,<-w];exact⟨rfl,h1⟩
  have pl:CQ x.ty=true->Dr (x,y)=false:=λh=>by grind[Dr,CQ]
  refine⟨hpy,hzy,by omega,_,I,hp,hz,o,Ah hp,_,_,P,λh2=>⟨r.succ o,same (pl ?_)⟩,λh2=>⟨hp,hz,o,Ah hp,_,_,P,λh3=>⟨r.succ o,same (pl ?_)⟩,λh3=>⟨λh4=>⟨r.succ o,same ?_⟩,λh4=>?_⟩⟩⟩;·grind[Ai,CQ]
  ·grind[Ar,CQ]
  ·grind[Dr]
  have hpl:CQ x.ty=false:=by
   grind[Ai,Ar,CQ]
  have h4:¬y=0:=h4;have hr:Dr (x,y)=true:=by grind[Dr]
  have hy1:=ref_in hv hx hy hpl h4;have next:∀(s':Sl) V2,Sx.Own V0 V2 3 1 s' ((A9 d m f g y).order.flatMap AE)->J [.slice s'.p s'.n s'.c,.int .i64 (A9 d m f g y).again,.int .i64 ((i:Int)+1)] V2:=λs' V2 h=>by
   refine hJ K s' _ V2 ?_;rw[Ja hx hy,hr,if_pos rfl,List.foldl_append,List.foldl_cons,List.foldl_nil,<-w];exact⟨rfl,h⟩
  obtain⟨f,rfl⟩:∃f',f=f'+1:=⟨f-1,by omega⟩;refine(c172 (h1.rows (λ_=>rfl) (by decide))).call ⟨_,rfl,λh5=>?_,λh5=>?_⟩
  ·have M:y∈g.order:=Classical.not_not.1 λh=>pos_neg.2 h h5;have e:A9 d m (f+1) g y=⟨g.order,if g.again=0 then y else g.again⟩:=by grind[A9]
   rw[e]at next
   refine⟨λh6=>⟨r.succ o,?_⟩,λh6=>⟨r.succ o,?_⟩⟩;·simp_all
   simp_all
  ·have M:¬y∈g.order:=pos_neg.1 h5;have hlt2:=unS_lt (st:=g) hy1 M (a:=g.again);intro tb htb;refine app31 (s:=Q) (u:=⟨some ⟨tb,0,none⟩,1,1⟩) (xs:=g.order) (ys:=[y]) rfl rfl (h1.but.new htb (.cells #[.int .i64 y] 3 (0,0))) (H4 Ao) (by simp;omega) λo2 V2 ho2=>⟨o2,rfl,?_⟩;have L:Sx.Own V0 V2 3 1 o2 ((g.order++[y]).flatMap AE):=ho2.narrow h1.sub_but;obtain⟨k,rfl⟩:∃k:Nat,y=(k:Int)+1:=⟨(y-1).toNat,by omega⟩;have S:=hm.sub L.sub;have T:=hd.sub L.sub;have hnn:=S.nodes.n_eq;obtain⟨z,X,hz',-,hl2,Y,U,H⟩:=S.nodes.get (i:=k) (by omega);obtain⟨c1,c2⟩:=of_decide_eq_true ((BX Z).2.2.1 z X);obtain⟨j,hj⟩:∃j:Nat,z.ty=(j:Int):=⟨_,(uZ c1).symm⟩;have htn:=T.types.n_eq;obtain⟨t,htm,ht,-,hl3,A,hzt,C⟩:=T.types.get (i:=j) (by omega);have hI:IR ((k:Int)):=⟨by omega,by omega⟩;have hfo:=En ht hj;have G:=(BX Z).2.2.2.2 z X;rw[hfo]at G;rw[show((k:Int)+1-1)=(k:Int)by omega];refine⟨hI,Y,U,by omega,Ah Y,_,_,H,?_⟩;rw[hj];refine⟨A,hzt,by omega,Ah A,_,_,C,hI,Y,U,by omega,Ah Y,_,_,H,?_⟩;refine Tri.mono (ih (BY m ⟨g.order++[(k:Int)+1],g.again⟩) (by omega) ⟨g.order++[(k:Int)+1],g.again⟩ f V2 o2 t.fs z.sl t.fields z.f (Nat.le_refl _) (by omega) ?_ (hd.typesOk t htm).fields (hm.nodesOk z X).rows G L) ?_;·grind
   rintro _ V5 ⟨s5,rfl,h6⟩;have e:A9 d m (f+1) g ((k:Int)+1)=lookP d m f ⟨g.order++[(k:Int)+1],g.again⟩ t.fields z.f:=by
    rw[A9,if_neg M];simp_all[EJ,lookP,Int,Dt,BV]
   rw[<-e]at h6⊢;exact⟨_,_,rfl,r.succ o,next s5 V5 h6⟩
 ·have hdn:=(r.done hge).2;rw[tgtI_all hdn]at w;have e:lookP d m f st xs vs=g:=w.symm;rw[e];exact⟨Q,rfl,h1⟩
theorem c125(k:BQ d m=true)(g:Ds.Ok V d)(hm:Mm.Ok V m):Tri xG 125 #[d.v,m.v] V (LookRP V (BM d m)):=by
 refine Tri.mono (x125 (R:=LookRP V (BM d m)) ?_) λ_ _ h=>h;have hu:=unS_zero (m:=m);have all:∀N,LookRC V d m N:=λN=>Nat.strongRecOn N λN u=>lookRC k g hm N u;refine Tri.mono (all m.nodes.length ⟨[],0⟩ (m.nodes.length+1) V ⟨none,0,0⟩ d.gs m.gs d.globals m.globals hu (by omega) (by simp_all) g.globals hm.globals (BX k).2.2.2.1 (Own.nil (Mem.sub.refl V) _ _)) ?_;rintro _ V2 ⟨s,rfl,h⟩;exact⟨_,_,rfl,s,rfl,h⟩
end
section
variable{V:Mem}{d:Ds}{m:Mm}
theorem c126{l q o:Sl}{xs:List Fld}{vs O:List Int}(K:Ad V l 2 (xs.map Fld.row))(S:Ad V q 1 (vs.map AE))(T:Ad V o 1 (O.map AE))(hO:O.length<=4096)(U:xs.length=vs.length)(X:xs.length<=4096):
  Tri xG 126 #[l.v,q.v,o.v] V λe V'=>∃s:Sl,e=.returned (.slice s.p s.n s.c)/\Sx.Own V V' 3 1 s ((renL O xs vs).flatMap AE):=by
 refine x126 ?_;have hrl:=renL_len (O:=O) U;refine DB (mk:=λs:Sl=>.slice s.p s.n s.c) (b0:=⟨none,0,0⟩) AT xs.length (λi s V1=>Sx.Own V V1 3 1 s (((renL O xs vs).take i).flatMap AE)) (Own.nil (Mem.sub.refl _) _ _) ?_;rintro i s V1 J hi h1 hJ;have G:=K.sub h1.sub;have Z:=S.sub h1.sub;refine⟨λr=>?_,λP=>?_⟩
 ·obtain⟨x,hxm,hx,-,A,Y,Q,H⟩:=G.get r;have n2:=Z.n_eq;obtain⟨y,hym,hy,-,hjl,I,M,N⟩:=Z.get (i:=i) (by omega);have L:=ren_at (O:=O) hx hy;have add:∀{w z:Int}{V2:Mem}{ty:Nat}{a b:Operand}{vals:Operand->Value},V1=V2->w=(if CQ x.ty=true then y else Fj O y)->z=w->∀g,V2 g=none->vals a=.slice s.p s.n s.c->vals b=.slice (sa g) 1 1 ->
    GenK xG (.call {callee:=.builtin .append,args:=#[a,b],argTypes:=#[31,31]}) ty vals (V2.set g (.cells #[.int .i64 z] 3 (0,0))) λx C=>∃D:Sl,x=uL D/\IR ((i:Int)+1)/\J [uL D,uI ((i:Int)+1)] C:=λ{w z V2 ty a b vals} e hw Q g k ha X=>by
   subst e;subst Q;refine app31 (s:=s) (u:=⟨some ⟨g,0,none⟩,1,1⟩) (xs:=(renL O xs vs).take i) (ys:=[z]) ha X (h1.but.new k (.cells #[.int .i64 z] 3 (0,0))) (H4 Ao) (by grind) λo2 C R=>⟨o2,rfl,G.succ r,hJ A _ _ ?_⟩;rw[vJ,L,<-hw];exact R.narrow h1.sub_but
  have E:∀{c:Bool},CQ x.ty=c->(if CQ x.ty=true then y else Fj O y)=if c=true then y else Fj O y:=λh=>by rw[h]
  refine⟨I,M,by omega,_,N,Y,Q,r,Ah Y,_,_,H,λh2 g k=>add rfl (by rw[E (plain_eq (.inl h2))];rfl) rfl g k rfl rfl,λh2=>⟨Y,Q,r,Ah Y,_,_,H,λh3 g k=>add rfl (by rw[E (plain_eq (.inr h3))];rfl) rfl g k rfl rfl,λh3=>?_⟩⟩;have hpl:CQ x.ty=false:=by
   grind[Ai,Ar,CQ]
  refine⟨λh4 g k=>add rfl ?_ rfl g k rfl rfl,λh4=>?_⟩;·grind[rho_zero]
  ·refine(c172 (T.sub h1.sub)).call ⟨_,rfl,?_,λg k=>add rfl ?_ rfl g k rfl rfl⟩
   ·unfold posI;rcases Cw (λz=>decide (z=y)) O with⟨e,-⟩|⟨j,_,e,-,-,e2,-⟩;·rw[e];exact⟨by omega,by omega⟩
    ·rw[e];exact⟨by omega,by omega⟩
   grind[Fj]
 ·have hd:=(G.done P).2;grind
theorem lens_of(h:A7 d=true):d.globals.length<=8/\∀t∈d.types,t.fields.length<=12:=by
 grind[A7,CT,Ei]
theorem MM{l:List Fld}{vs:List Int}(h:AB d m l vs=true):l.length=vs.length:=by
 grind[AB]
theorem MN(G:Am d m)(hd:Ds.Ok V d)(hm:Mm.Ok V m):Tri xG 73 #[d.v,m.v] V λe V'=>V.sub V'/\∃c:Mm,e=.returned (.agg #[c.gs.v,c.ns.v])/\Mm.Ok V' c/\IsCan d m c (BM d m).order:=by
 refine OR ?_;refine Tri.mono (c125 G.mem hd hm) ?_;rintro _ V1 ⟨o,rfl,ho⟩;have R:=KR G.mem;obtain⟨p1,p2,p3,p4,p5⟩:=BX G.mem;obtain⟨l1,l2⟩:=lens_of G.valid;have hcap:=R.cap;have E:=ho.rows (λ_=>rfl) (by decide);refine⟨o,_,rfl,Tri.mono (c126 (hd.globals.sub ho.sub) (hm.globals.sub ho.sub) E (by omega) (MM p4) (by omega)) ?_⟩;rintro _ V2 ⟨gs,rfl,hg⟩;refine⟨gs,rfl,?_⟩;have hgR:=hg.rows (λ_=>rfl) (by decide);refine loop3b (mk:=λs:Sl=>.slice s.p s.n s.c) (mc:=λs:Sl=>.slice s.p s.n s.c) (b0:=gs) (c0:=⟨none,0,0⟩) AT AT (BM d m).order.length (λi b c V3=>b=gs/\∃nd,CanAt d m V2 V3 c i nd) ⟨rfl,[],rfl,(λ_ _ _ h=>by omega),V2,Mem.sub.refl _,Own.nil (Mem.sub.refl _) _ _,(λ_ h=>by cases h)⟩ ?_;rintro i b s V3 J hi ⟨rfl,nd,C⟩ hJ;obtain⟨W,hW,r,K⟩:=C.mem;have I:V.sub V3:=((ho.sub.trans hg.sub).trans hW).trans r.sub;have Z:=hd.sub I;have Y:=hm.sub I;have Q:=E.sub ((hg.sub.trans hW).trans r.sub);refine⟨λM=>?_,λhge=>?_⟩
 ·obtain⟨n,hnm,hn,-,hil,hp,hz,S⟩:=Q.get M;have hr:=R.rng n hnm;obtain⟨k,rfl⟩:∃k:Nat,n=(k:Int)+1:=⟨(n-1).toNat,by omega⟩;have hnn:=Y.nodes.n_eq;obtain⟨z,P,hz',-,hl2,hpx,hzx,L⟩:=Y.nodes.get (i:=k) (by omega);obtain⟨c1,c2⟩:=of_decide_eq_true (p3 z P);obtain⟨j,T⟩:∃j:Nat,z.ty=(j:Int):=⟨_,(uZ c1).symm⟩;have htn:=Z.types.n_eq;obtain⟨t,htm,ht,-,hl3,A,hzt,X⟩:=Z.types.get (i:=j) (by omega);have hI:IR ((k:Int)):=⟨by omega,by omega⟩;have U:=En ht T;have H:=p5 z P;rw[U]at H;refine⟨hp,hz,M,_,S,?_⟩;rw[show((k:Int)+1-1)=(k:Int)by omega];refine⟨hI,hpx,hzx,by omega,_,_,L,?_⟩;rw[T];refine⟨A,hzt,by omega,Ah A,_,_,X,Tri.mono (c126 (Z.typesOk t htm).fields (Y.nodesOk z P).rows Q (by omega) (MM H) (by grind)) ?_⟩;rintro _ V4 ⟨fs,rfl,hf⟩;refine⟨fs,rfl,λtb htb=>?_⟩;have D:=Own.growS r hf.sub;have hfR:=hf.rows (λ_=>rfl) (by decide);obtain⟨nn,N⟩:∃nn:Nd,nn=⟨(j:Int),fs,renL (BM d m).order t.fields z.f⟩:=⟨_,rfl⟩;have hblk:Ad (V4.but s) fs 1 ((renL (BM d m).order t.fields z.f).map AE):=by
   have:Sx.Own (λ_=>none) (V4.but s) 3 1 fs ((renL (BM d m).order t.fields z.f).flatMap AE):=⟨(λ_ _ h=>by cases h),hf.len,by
    rcases hf.at_ with h|⟨g,cur,a,b,c,dd⟩;·exact .inl h
    ·exact .inr ⟨g,cur,a,rfl,Mem.but_at c (r.apartN b),dd⟩⟩
   exact this.rows (λ_=>rfl) (by decide)
  have hn2:Nd.Ok (V4.but s) nn:=by
   rw[N];exact⟨hblk,⟨by simp_all,by show(j:Int)<=9223372036854775807;have:=(Z.types.succ (i:=j) (by omega)).2;omega⟩,ren_in (by omega) (Y.nodesOk z P).vals⟩
  have hlen:nd.length<=4096:=by rw[C.len];omega
  refine app32 (s:=s) (u:=⟨some ⟨tb,0,none⟩,1,1⟩) (xs:=nd) (ys:=[nn]) rfl rfl (D.but.new htb (.cells #[uI (j:Int),uL fs] 130 (0,0))) (Ad.cells (xs:=[nn]) (row:=Nd.row) Ao (by rw[N];rfl) (λ_=>rfl) rfl (by simp)) (by simp;omega) λo2 V5 ho2=>⟨o2,rfl,Q.succ M,hJ hil _ _ _ ⟨rfl,nd++[nn],by rw[zw,C.len];rfl,λq w x hq hw hx=>?_,V4.but s,hW.trans D.sub_but,ho2,λw hw=>?_⟩⟩
  ·by_cases hqi:q<i
   ·obtain⟨sl,hs⟩:=C.at_ q w x hqi hw hx;exact⟨sl,by rw[List.getElem?_append_left (by grind)];exact hs⟩
   ·have:q=i:=by omega
    subst this;rw[hn]at hw;cases hw;rw[show((k:Int)+1-1).toNat=k by omega,hz']at hx;cases hx;refine⟨fs,?_⟩;rw[<-C.len,List.getElem?_concat_length,N,U,T]
  ·rcases vz.1 hw with hw|hw;·exact(K w hw).sub D.sub_but
   simp_all
 ·have hdn:=(Q.done hge).2;have hi':i=(BM d m).order.length:=by omega
  refine⟨I,⟨b,renL (BM d m).order d.globals m.globals,s,nd⟩,rfl,⟨hgR.sub (hW.trans r.sub),ren_in (by omega) hm.gIn,r.rows (λ_=>rfl) (by decide),λn hn=>(K n hn).sub r.sub⟩,rfl,by rw[<-hi'];exact C.len,λj n x T hx=>C.at_ j n x (by grind) T hx⟩
end
section
variable{d:Ds}{F:Nat}{m m':Mm}
theorem PE(h:m.plain=m'.plain)(n:Int):EJ d m n=EJ d m' n:=by
 unfold EJ;cases k:m.nodes[(n-1).toNat]? with
 |some x=>
  obtain⟨y,h1,h2,h3⟩:=Hr h k;rw[h1];simp only[h2,h3]
 |none=>
  have:m'.nodes[(n-1).toNat]?=none:=by
   rw[uY]at k⊢;rw[<-Hs h];exact k
  rw[this]
theorem MO(h:m.plain=m'.plain):∀f:Nat,A9 d m f=A9 d m' f
 |0=>by funext st n;rw[A9,A9]
 |f+1=>by
  funext st n;rw[A9,A9,PE h,MO h f]
theorem reachP_plain(h:m.plain=m'.plain):BM d m=BM d m':=by
 have k:m.globals=m'.globals:=(vn h).1;unfold BM lookP;rw[Hs h,MO h,k]
theorem canP_plain(h:m.plain=m'.plain):canP d m=canP d m':=by
 have g:m.globals=m'.globals:=(vn h).1;unfold canP;rw[reachP_plain h,g];refine Prod.ext rfl (List.map_congr_left λn _=>?_);cases k:m.nodes[(n-1).toNat]? with
 |some x=>
  obtain⟨y,h1,h2,h3⟩:=Hr h k;rw[h1];simp only[h2,h3]
 |none=>
  have:m'.nodes[(n-1).toNat]?=none:=by
   rw[uY]at k⊢;rw[<-Hs h];exact k
  rw[this]
end
theorem Am.plain{d:Ds}{x y:Mm}(G:Am d x)(h:x.plain=y.plain):Am d y:=⟨G.valid,G.chk,F9 h G.mem⟩
section
variable{V:Mem}{d:Ds}{x y:Mm}
theorem PF(g:Ds.Ok V d)(G:Am d x)(z:Mm.Ok V x)(r:Mm.Ok V y)(h:x.plain=y.plain):PP 32 [d.v,x.v,y.v] V (.bool true):=by
 refine A1.mk (ND ?_);have u:=G.plain h;refine Tri.mono (MN G g z) ?_;rintro _ V1 ⟨k,a,rfl,q,o⟩;refine⟨_,_,rfl,Tri.mono (MN u (g.sub k) (r.sub k)) ?_⟩;rintro _ V2 ⟨w,b,rfl,H,J⟩;have e:a.plain=b.plain:=by rw[canP_of G.mem o,canP_of u.mem J,canP_plain h]
 refine⟨_,_,rfl,(Pt (q.sub w) H).call ⟨_,rfl,?_⟩⟩;rw[decide_eq_true e];exact⟨rfl,k.trans w⟩
theorem c11(g:Ds.Ok V d)(G:Am d x)(k:Mm.Ok V x)(u:Mm.Ok V y)(h:x.plain=y.plain):PP 11 [d.v,x.v,y.v] V (.bool true):=by
 refine A1.mk (Nn ?_);have z:=(BX G.mem).2.1;have r:=k.nodes.n_eq;refine⟨λ_=>(LS g k).call ⟨_,rfl,λ_=>(PF g G k u h).call ⟨_,rfl,rfl,Mem.sub.refl _⟩,λhv=>absurd G.mem hv⟩,λw=>absurd (by omega) w⟩
end
end Go.Proofs
namespace Go.Proofs
open Go Go.Sx
def Nb{α:Type}(r:Rx α):Prop:=∀c s,r=.bad c s->c<=21
section
variable{α β:Type}{d:Ds}{F:Nat}{s:St}
theorem Nb.ok{v:α}:Nb (.ok v s):=λ_ _ e=>by cases e
theorem Nb.bad{c:Int}(h:c<=21):Nb (.bad c s:Rx α):=λ_ _ e=>by cases e;exact h
theorem Nb.bind{r:Rx α}{f:α->St->Rx β}(h:Nb r)(k:∀v s,Nb (f v s)):Nb (r.bind f):=by
 cases r with
 |ok v s=>exact k v s
 |bad c s=>exact .bad (h _ _ rfl)
theorem nb_lift{r:Rs}(h:∀c,r=.bad c->c<=21):Nb (FB r s):=by
 cases r with
 |ok v=>exact .ok
 |bad c=>exact .bad (h c rfl)
theorem nb_big{n:Int}:Nb (FB (BH n) s):=nb_lift λc h=>by unfold BH at h;grind
theorem nb_two{op v w:Int}:Nb (FB (A4 op v w) s):=nb_lift λc h=>by
 unfold A4 BH at h
 repeat' split at h
 all_goals first|cases h;done|(cases h;decide)
theorem nb_kid{ks:List (St->Rx Int)}(h:∀f∈ks,∀s,Nb (f s))(i:Nat)(s:St):Nb (BN ks i s):=by
 unfold BN;rw[List.getD_eq_getElem?_getD];cases k:ks[i]? with
 |none=>exact .bad (by decide)
 |some f=>exact h f (xM k) s
theorem nb_seq:∀{ks:List (St->Rx Int)}(_:∀f∈ks,∀s,Nb (f s))(acc:List Int)(s:St),Nb (seqX ks acc s)
 |[],_,acc,s=>.ok
 |f::fs,h,acc,s=>(h f zb s).bind λv s=>nb_seq (λg k=>h g (za _ k)) _ _
theorem nb_comb{C:Cf}(o:∀i l s,Nb (C i l s)){p:Pr}{vals:List Int}{b:Bool}{op n:Int}{nm:KB}{ks:List (St->Rx Int)}(w:∀f∈ks,∀s,Nb (f s)):Nb (C6 d C p vals b op n nm ks s):=by
 have k:=λi s=>nb_kid w i s;have var:∀s,Nb (varX d p vals nm s):=λs=>by unfold varX;split<;>exact .ok
 have fld:∀a s,Nb (fldX d a nm s):=λa s=>by
  unfold fldX;split;·exact .bad (by decide)
  ·split;·exact .bad (by decide)
   ·exact .ok
 have new:∀s,Nb (newX d nm s):=λs=>by
  unfold newX;split;·exact .bad (by decide)
  ·exact .ok
 have ite:∀(a:Int)(x y:Rx Int),Nb x->Nb y->Nb (if a=0 then x else y):=λa x y e H=>by
  split<;>assumption
 unfold C6;by_cases z:op=1∨op=2;·rw[if_pos z];exact .ok
 rw[if_neg z];by_cases h1:op=3;·rw[if_pos h1];exact .ok
 rw[if_neg h1];by_cases h2:op=4;·rw[if_pos h2];exact var _
 rw[if_neg h2];by_cases h3:op=5;·rw[if_pos h3];exact(k _ _).bind λ_ _=>fld _ _
 rw[if_neg h3];by_cases h4:op=6;·rw[if_pos h4];exact new _
 rw[if_neg h4];by_cases r:op=7;·rw[if_pos r];exact(nb_seq w _ _).bind λ_ _=>o _ _ _
 rw[if_neg r];by_cases h6:op=8;·rw[if_pos h6];exact(k _ _).bind λ_ _=>nb_big
 rw[if_neg h6];by_cases h7:op=18;·rw[if_pos h7];exact(k _ _).bind λ_ _=>.ok
 rw[if_neg h7];by_cases h8:op=24;·rw[if_pos h8];exact(k _ _).bind λ_ _=>.ok
 rw[if_neg h8];by_cases q:op=19;·rw[if_pos q];exact(k _ _).bind λ_ _=>ite _ _ _ .ok (k _ _)
 rw[if_neg q];by_cases g:op=20;·rw[if_pos g];exact(k _ _).bind λ_ _=>ite _ _ _ (k _ _) .ok
 rw[if_neg g];by_cases u:op=21;·rw[if_pos u];exact(k _ _).bind λ_ _=>ite _ _ _ (k _ _) (k _ _)
 rw[if_neg u];exact(k _ _).bind λ_ _=>(k _ _).bind λ_ _=>nb_two
theorem nb_ev{C:Cf}(k:∀i l s,Nb (C i l s)){p:Pr}{vals:List Int}(e:E):∀s,Nb (Du d C p vals e s):=by
 induction e using E.ind with
 |h e g=>
 intro s;rw[evX_eq];refine nb_comb k λf u=>?_;obtain⟨x,w,rfl⟩:=uT.1 u;exact g x w
theorem nb_tick:Nb (EL F s):=by
 unfold EL;split;·exact .bad (by decide)
 ·exact .ok
theorem nb_list{f:S->List Int->St->Rx Rt}(k:∀x v s,Nb (f x v s)):∀(l:List S)(v:List Int)(s:St),Nb (EO f l v s)
 |[],v,s=>.ok
 |x::l,v,s=>(k x v s).bind λr s=>by
  split;·exact .ok
  ·exact nb_list k l _ s
section
variable{Sn:Sf}(hS:∀c p l v s,Nb (Sn c p l v s))
include hS
theorem nb_call{c:Nat}{i:Int}{l:List Int}:Nb (Db d Sn c i l s):=by
 unfold Db;split;·exact .bad (by decide)
 ·split;·exact .bad (by decide)
  ·exact(hS _ _ _ _ _).bind λ_ _=>.ok
theorem nb_evS{c:Nat}{p:Pr}{vals:List Int}{e:E}:Nb (DU d Sn c p vals e s):=nb_ev (λ_ _ _=>nb_call hS) e s
theorem nb_wh{c:Nat}{p:Pr}{e:E}{l:List S}:∀(n:Nat)(v:List Int)(s:St),Nb (FC d F Sn c p e l n v s)
 |0,v,s=>.bad (by decide)
 |n+1,v,s=>(nb_evS hS).bind λa s=>by
  split;·exact .ok
  ·refine(hS _ _ _ _ _).bind λr s=>?_;split;·exact .ok
   ·exact nb_tick.bind λ_ s=>nb_wh n _ s
theorem nb_st{c n:Nat}{p:Pr}{x:S}{v:List Int}{s:St}:Nb (EN d F Sn c p n x v s):=by
 have ev:∀{e:E}{s:St},Nb (DU d Sn c p v e s):=nb_evS hS;unfold EN bodyX;refine nb_tick.bind λ_ s=>?_;split
 ·refine ev.bind λa s=>?_;unfold setX;split<;>exact .ok
 split
 ·refine ev.bind λa s=>ev.bind λv s=>Nb.bind ?_ λ_ s=>.ok;unfold putX;split;·exact .bad (by decide)
  ·split;·exact .bad (by decide)
   ·exact .ok
 split
 ·refine ev.bind λa s=>?_;split<;>exact hS _ _ _ _ _
 split;·exact nb_wh hS _ _ _
 split
 ·split;·exact .ok
  ·exact ev.bind λ_ _=>.ok
 split;·exact ev.bind λ_ _=>.ok
 ·exact .ok
end
theorem nb_sts:∀(n c:Nat)(p:Pr)(l:List S)(v:List Int)(s:St),Nb (B8 d F n c p l v s)
 |0,_,_,_,_,_=>.bad (by decide)
 |n+1,c,p,l,v,s=>nb_list (λx v s=>nb_st (nb_sts n)) l v s
theorem no22{i:Int}{l:List Int}:outC (C7 d F i l s)≠22:=by
 have h:Nb (C7 d F i l s):=nb_call (nb_sts _);cases k:C7 d F i l s with
 |ok v s=>show(0:Int)≠22;decide
 |bad c s=>have:=h c s k;show c≠22;omega
end
end Go.Proofs
namespace Go.Proofs
open Go Go.Sx
attribute [local irreducible] Go.Sx.Tri
def vioW(x:KB×Int):Value:=.agg (Fa x).toArray
theorem PG:IdxP 37 Fa vioW 2:=by
 intro V l xs g first w G St N k Z Y
 refine NK (a:=l) (b:=.func (.func g) first.toArray w.toArray) ?_;refine AK xs.length St Z ?_;intro i b V1 J M r Q;have h:=k i V1 r;refine⟨λu=>?_,λq=>?_⟩
 ·obtain⟨x,hm,P,L,A,o,I,z⟩:=h.get u;refine⟨o,I,u,_,_,z,g,_,_,rfl,G,Tri.mono (Y i x V1 P r) ?_⟩;rintro e V2 ⟨b,rfl,h1,h2⟩;exact⟨b,rfl,λH=>.inl ⟨i,rfl,h1 H⟩,λH=>⟨h.succ u,Q A _ _ (h2 (by simpa using H))⟩⟩
 ·have e:i=xs.length:=by have:=(h.done q).2;omega
  exact .inr ⟨rfl,e▸r⟩
theorem g13:ConP 13 Fa vioW 2:=conG PG No
theorem PH:ConC 13 Fa vioW 2:=conC g13
section
variable{V:Mem}{d:Ds}{m:Mm}{nm:KB}{args:List Int}{l ns:Sl}{nms:List KB}
theorem largeF(k:Ds.Ok V d)(hm:Mm.Ok V m){F:Int}:Tri xG 5 #[d.v,m.v,.int .i64 F] V λe V'=>V=V'/\∃b:Bool,e=.returned (.bool b)/\(b=false->F<=3000∨1048576<F):=by
 refine x5 ?_;unfold w5;refine Tri.mono (greatC k) ?_;rintro _ _ ⟨rfl,b,rfl⟩;refine⟨_,rfl,λ_=>⟨rfl,_,rfl,λh=>by cases h⟩,λ_=>Tri.mono (manyC hm) ?_⟩;rintro _ _ ⟨rfl,b,rfl⟩;exact⟨_,rfl,λ_=>⟨rfl,_,rfl,λh=>by cases h⟩,λ_=>⟨λh1=>⟨rfl,_,rfl,λh=>.inr (by have:=of_decide_eq_false h;omega)⟩,λh1=>⟨rfl,_,rfl,λ_=>.inl (by have h1:¬(3000:Int)<F:=h1;omega)⟩⟩⟩
theorem longF:Tri xG 6 #[.agg #[.string nm,l.v]] V λe V'=>V=V'/\∃b:Bool,e=.returned (.bool b):=by
 refine x6 ?_;unfold w6;exact⟨λ_=>⟨rfl,_,rfl⟩,λ_=>⟨rfl,_,rfl⟩⟩
theorem manyF(h:Ad V ns 1 (nms.map BD)):Tri xG 7 #[ns.v] V λe V'=>V=V'/\∃b:Bool,e=.returned (.bool b)/\(b=false->nms.length<=30):=by
 refine x7 ?_;unfold w7;have k:=h.n_eq;refine⟨λ_=>⟨rfl,_,rfl,λh=>by cases h⟩,λh1=>(LD (first:=[]) (caps:=[]) h Tryz.call24 (λs=>decide (100<(s.size:Int))) (λs _=>?_)).call ⟨_,rfl,rfl,_,rfl,λ_=>by have h1:¬(30:Int)<(ns.n:Int):=h1;omega⟩⟩;refine Nw ?_;exact⟨rfl,rfl⟩
theorem PI{b t:Nat}(k:V b=some (cell (.slice ns.p ns.n ns.c) t))(h:Ad V ns 1 (nms.map BD)){x:KB×Int}:PP 14 [vioW x,pv b] V (.bool (nms.any λy=>decide (x.1=y))):=by
 refine Np ?_;exact⟨ns,Ax k,(KN h).call ⟨_,rfl,rfl,rfl⟩⟩
theorem any_mem{x:KB}:(nms.any λy=>decide (x=y))=true↔x∈nms:=by
 rw[xZ];exact⟨λ⟨y,h1,h2⟩=>of_decide_eq_true h2▸h1,λh=>⟨x,h,decide_eq_true rfl⟩⟩
theorem nodes_rng(G:Am d m){v:Iv}{x:Int}(h:x∈B0 d m v):0<=x/\x<=(m.nodes.length:Int):=by
 unfold B0 at h;split at h;·rw[zO.1 h];exact⟨by omega,by omega⟩
 ·have:=(KR G.mem).rng x h;omega
theorem c3(hAw:∀(V:Mem) [Tab V],PP 4 [] V (.bool true))[Tab V](Y:Ds.Ok V d)(hm:Mm.Ok V m)(ha:Ad V l 1 (args.map AE))(X:Ad V ns 1 (nms.map BD)){F:Int}:
  PP 3 [d.v,m.v,.agg #[.string nm,l.v],ns.v,.int .i64 F] V (.bool true):=by
 refine A1.mk (x3 ?_);unfold w3;have z:∀{V':Mem},V.sub V'->(xJ (.bool true)=.returned (.bool true)/\V.sub V'):=λh=>⟨rfl,h⟩;have sr:=Mem.sub.refl V;refine(hAw V).call ⟨_,rfl,λ_=>Tri.mono (largeF Y hm) ?_,λh=>absurd rfl h⟩;rintro _ _ ⟨rfl,b,rfl,hF⟩;refine⟨_,rfl,λ_=>z sr,λh=>?_⟩;have hF:=hF (by simpa using h);refine Tri.mono longF ?_;rintro _ _ ⟨rfl,b,rfl⟩;refine⟨_,rfl,λ_=>z sr,λ_=>Tri.mono (manyF X) ?_⟩;rintro _ _ ⟨rfl,b,rfl,hM⟩;refine⟨_,rfl,λ_=>z sr,λh=>?_⟩;have hM:=hM (by simpa using h);refine(c8 Y hm).call ⟨_,rfl,λhg=>?_,λ_=>z sr⟩;have hg:Cb d m F=0:=hg;have hf:=KM hg;obtain⟨n,rfl⟩:∃n:Nat,F=(n:Int):=⟨F.toNat,by omega⟩;have hn:n<=4000:=by omega
 have e0:runE d m nm args [] n=CA d m nm args n:=by unfold runE;rw[if_pos hg];rfl
 have e1:runE d m nm args nms n=if CB d nms=0 then CA d m nm args n else CB d nms:=by unfold runE;rw[if_pos hg]
 have hnm:CB d nms=0∨CB d nms=9∨CB d nms=10:=by
  unfold CB;split
  ·split;·exact .inl rfl
   ·exact .inr (.inr rfl)
  ·exact .inr (.inl rfl)
 have G0:=Jn hg;refine Tri.mono (c9 Y hm ha X (by omega) hF) ?_;by_cases Z:CA d m nm args n=0;rotate_left
 ·-- the call is wrong
  have P:runE d m nm args nms n≠0:=by rw[e1];split<;>omega
  rintro e V1 (⟨-,q,rfl⟩|⟨h,-⟩);rotate_left;·exact absurd h P
  haveI:Tab V1:=Tab.sub (V:=V) inferInstance q;refine⟨_,_,_,_,_,_,_,_,_,_,rfl,Tri.mono (KL (F:=n) (Y.sub q) (hm.sub q) (ha.sub q) hn) ?_⟩;rintro e V2 (⟨-,s2,rfl⟩|⟨h,-⟩);rotate_left;·exact absurd h Z
  have A:=q.trans s2;haveI:Tab V2:=Tab.sub (V:=V) inferInstance A;refine⟨_,_,_,_,_,_,_,_,rfl,Tri.mono (c9 (ns:=Ag) (nms:=[]) (Y.sub A) (hm.sub A) (ha.sub A) Ad.nil (by simp) hF) ?_⟩;rw[e0];rintro e V3 (⟨-,Q,rfl⟩|⟨h,-⟩);rotate_left;·exact absurd h Z
  have s13:=A.trans Q;refine⟨_,_,_,_,_,_,_,_,_,_,rfl,λ_=>⟨λ_=>⟨λ_=>⟨λh=>absurd h Z,λ_=>⟨λh=>absurd h P,λ_=>⟨λ_=>z s13,λh=>⟨λ_=>z s13,λh9=>?_⟩⟩⟩⟩,λh=>absurd ⟨rfl,rfl⟩ h⟩,λh=>absurd rfl h⟩,λh=>absurd ⟨rfl,rfl,rfl,rfl,rfl⟩ h⟩;have:runE d m nm args nms n=10:=by
   have h:¬CA d m nm args n=runE d m nm args nms n:=h;have h9:¬runE d m nm args nms n=9:=h9;rw[e1]at h h9⊢;split at h;·exact absurd rfl h
   ·rename_i hz;rw[if_neg hz]at h9⊢;omega
  rw[this];exact z s13
 obtain⟨G,hcl⟩:=MI Z;have pg:=H8 (F:=n) G hcl;have mid:∀{V1:Mem},V.sub V1->∀{K:Ending->Mem->Prop},(∀(r:Rx Int) gs J ls nd V2,r=C7 d n (BR d nm) args (Bm m)->AL V1 V2 gs J ls nd r.st->K (.returned (.tuple #[.agg (Ba (outC r) (outV r) r.st.cm (Cm r.st.lg)).toArray,.agg #[gs.v,J.v],.int .i64 0])) V2)->Tri xG 10 #[d.v,m.v,.agg #[.string nm,l.v],.int .i64 n] V1 K:=λ{V1} q {K} h=>by
  haveI:Tab V1:=Tab.sub (V:=V) inferInstance q;refine Tri.mono (KL (F:=n) (Y.sub q) (hm.sub q) (ha.sub q) hn) ?_;rintro e V2 (⟨h,-⟩|⟨-,r,gs,J,ls,nd,C,L,rfl⟩);·exact absurd Z h
  ·exact h r gs J ls nd V2 C L
 have non:∀{V1:Mem},V.sub V1->∀{K:Ending->Mem->Prop},(∀(r:Rx Int) gs J ls nd V2,r=C7 d n (BR d nm) args (Bm m)->AL V1 V2 gs J ls nd r.st->K (.returned (.tuple #[.agg (Ba (outC r) (outV r) r.st.cm (Cm r.st.lg)).toArray,.agg #[gs.v,J.v],.agg #[.string sE,.int .i64 0],.int .i64 0])) V2)->Tri xG 9 #[d.v,m.v,.agg #[.string nm,l.v],Ag.v,.int .i64 n] V1 K:=λ{V1} q {K} h=>by
  haveI:Tab V1:=Tab.sub (V:=V) inferInstance q;refine Tri.mono (c9 (ns:=Ag) (nms:=[]) (Y.sub q) (hm.sub q) (ha.sub q) Ad.nil (by simp) hF) ?_;rw[e0];rintro e V2 (⟨h,-⟩|⟨-,r,gs,J,ls,nd,C,L,rfl⟩);·exact absurd Z h
  ·have:B2 d [] r ⟨gs,r.st.g,J,nd⟩=none:=by
    unfold B2 Fi;rw[Hv];split<;>rfl
   rw[this];exact h r gs J ls nd V2 C L
 rintro e V1 (⟨P,q,rfl⟩|⟨P,r,gs,o,ls,nd,C,L,rfl⟩)
 ·-- wrong names
  have hk9:runE d m nm args nms n=9∨runE d m nm args nms n=10:=by
   rw[e1]at P⊢;split at P;·exact absurd Z P
   ·rename_i hz;rw[if_neg hz];omega
  refine⟨_,_,_,_,_,_,_,_,_,_,rfl,mid q λr2 gs2 ns2 ls2 Gz V2 I M=>⟨_,_,_,_,_,_,_,_,rfl,non (q.trans M.sub) λR gs3 ns3 ls3 nd3 V3 hr3 D=>?_⟩⟩;obtain rfl:R=r2:=hr3.trans I.symm;have u:=pg;rw[<-I]at u;obtain⟨m2,p2⟩:=Ff (Y.sub q) M u;obtain⟨m3,p3⟩:=Ff (Y.sub (q.trans M.sub)) D u;have Q:=(q.trans M.sub).trans D.sub;have G3:Am d ⟨gs3,R.st.g,ns3,nd3⟩:=⟨u.valid,u.chk,F9 ((St.plain R.st).trans p3.symm) u.mem⟩;refine⟨_,_,_,_,_,_,_,_,_,_,rfl,λ_=>⟨λ_=>⟨λ_=>⟨λ_=>(c11 (Y.sub Q) G3 m3 (m2.sub D.sub) (p3.trans p2.symm)).call ⟨_,rfl,λ_=>⟨λh=>absurd h P,λ_=>⟨λ_=>z Q,λ_=>⟨λ_=>z Q,λh9=>?_⟩⟩⟩,λh=>absurd rfl h⟩,λh=>absurd rfl h⟩,λh=>absurd ⟨rfl,rfl⟩ h⟩,λh=>absurd rfl h⟩,λh=>absurd ⟨rfl,rfl,rfl,rfl,rfl⟩ h⟩;rw[hk9.resolve_left h9];exact z Q
 have hn0:CB d nms=0:=by
  rcases hnm with h|h|h;·exact h
  ·rw[e1,h]at P;simp at P
  ·rw[e1,h]at P;simp at P
 have q:=L.sub;replace C:r=C7 d n (BR d nm) args (Bm m):=C;have n22:outC r≠22:=by rw[C];exact no22
 have u:=pg;rw[<-C]at u;obtain⟨m1,p1⟩:=Ff Y L u;have G1:Am d ⟨gs,r.st.g,o,nd⟩:=⟨u.valid,u.chk,F9 ((St.plain r.st).trans p1.symm) u.mem⟩;have tail:∀(S U:Int)(w0:KB)(w1:Int),grdO r (B2 d nms r ⟨gs,r.st.g,o,nd⟩)=[.int .i64 S,.int .i64 U,.int .i64 r.st.cm,.int .i64 (Cm r.st.lg),.int .i64 0]->grdX (B2 d nms r ⟨gs,r.st.g,o,nd⟩)=[.string w0,.int .i64 w1]->
   (B2 d nms r ⟨gs,r.st.g,o,nd⟩=none/\S=outC r/\U=outV r/\w0=sE/\w1=0)∨(∃x,B2 d nms r ⟨gs,r.st.g,o,nd⟩=some x/\S=22/\U=0/\w0=x.1/\w1=x.2/\outC r=0):=λS U w0 w1 h1 h2=>by
  cases N:B2 d nms r ⟨gs,r.st.g,o,nd⟩with
  |none=>rw[N]at h1 h2;simp only[grdO,grdX,Ba,yE,zk,uz,true_and,and_true]at h1 h2;exact .inl ⟨rfl,h1.1.symm,h1.2.symm,h2.1.symm,h2.2.symm⟩
  |some x=>
   rw[N]at h1 h2;simp only[grdO,grdX,Ba,yE,zk,uz,true_and,and_true]at h1 h2;refine .inr ⟨x,rfl,h1.1.symm,h1.2.symm,h2.1.symm,h2.2.symm,?_⟩;unfold B2 at N;split at N;·assumption
   ·cases N
 obtain⟨S,U,w0,w1,ho,hw⟩:∃S U w0 w1,grdO r (B2 d nms r ⟨gs,r.st.g,o,nd⟩)=[.int .i64 S,.int .i64 U,.int .i64 r.st.cm,.int .i64 (Cm r.st.lg),.int .i64 0]/\grdX (B2 d nms r ⟨gs,r.st.g,o,nd⟩)=[.string w0,.int .i64 w1]:=by
  cases B2 d nms r ⟨gs,r.st.g,o,nd⟩;·exact⟨_,_,_,_,rfl,rfl⟩
  ·exact⟨_,_,_,_,rfl,rfl⟩
 have T:=tail S U w0 w1 ho hw;rw[ho,hw];refine⟨_,_,_,_,_,_,_,_,_,_,rfl,mid q λr2 gs2 ns2 ls2 Gz V2 I M=>⟨_,_,_,_,_,_,_,_,rfl,non (q.trans M.sub) λR gs3 ns3 ls3 nd3 V3 hr3 D=>?_⟩⟩;obtain rfl:r2=r:=I.trans C.symm;obtain rfl:R=r2:=hr3.trans I.symm;obtain⟨m2,p2⟩:=Ff (Y.sub q) M u;obtain⟨m3,p3⟩:=Ff (Y.sub (q.trans M.sub)) D u;have Q:=(q.trans M.sub).trans D.sub;have E:=Y.sub Q;have m1':=m1.sub (M.sub.trans D.sub);have G3:Am d ⟨gs3,R.st.g,ns3,nd3⟩:=⟨u.valid,u.chk,F9 ((St.plain R.st).trans p3.symm) u.mem⟩;haveI:Tab V3:=Tab.sub (V:=V) inferInstance Q;refine⟨_,_,_,_,_,_,_,_,_,_,rfl,λ_=>⟨λ_=>⟨λ_=>⟨λ_=>(c11 E G3 m3 (m2.sub D.sub) (p3.trans p2.symm)).call ⟨_,rfl,λ_=>⟨λ_=>⟨λ_=>(c11 E G1 m1' (m2.sub D.sub) (p1.trans p2.symm)).call ⟨_,rfl,λ_=>⟨λ_=>?_,λh=>absurd ⟨rfl,rfl,rfl⟩ h⟩,λh=>absurd rfl h⟩,λh=>absurd rfl h⟩,λh=>absurd rfl h⟩,λh=>absurd rfl h⟩,λh=>absurd rfl h⟩,λh=>absurd ⟨rfl,rfl⟩ h⟩,λh=>absurd rfl h⟩,λh=>absurd ⟨rfl,rfl,rfl,rfl,rfl⟩ h⟩;refine⟨λh22=>?_,λh22=>?_⟩
 ·-- a violation
  rcases T with⟨-,h,-⟩|⟨x,N,-,rfl,rfl,rfl,h0⟩;·exact absurd (h.symm.trans h22) n22
  refine Tri.mono (Py E m1') ?_;rintro _ _ ⟨rfl,b,f,rfl,H⟩;unfold B2 at N;rw[if_pos h0]at N;unfold Fi at N;cases hal:allP (Bz d Ag (B1 d nms)) ⟨gs,R.st.g,o,nd⟩with
  |nil=>rw[hal]at N;cases N
  |cons y k=>
   rw[hal]at N;cases N;obtain⟨hmem,v,hv,hvn,hno,hty,hho⟩:=pick_some hn0 hal;obtain⟨i,hi⟩:=vV.1 hv;have hix:0<=Cy d x.1:=by
    unfold Cy;rcases Cw (λt:Iv=>decide (t.name=x.1)) d.invs with⟨-,-,h3⟩|⟨j,y,h1,-⟩;·rw[xz]at h3;exact absurd (decide_eq_true hvn) (h3 v hv)
    ·rw[h1];omega
   obtain⟨w,hw2,hwn,-⟩:=pick_at hix;have hij:(Cy d x.1).toNat=i:=names_inj G1.chk hw2 hi (hwn.trans hvn.symm);obtain⟨rfl,rfl⟩:=H.eq (.val G1 (nodes_rng G1 hno) i v (by omega) hi hty);rw[hho];refine⟨_,_,rfl,λ_=>⟨λ_=>(KN (X.sub Q)).call ⟨_,rfl,λ_=>⟨λ_=>z Q,λh=>absurd rfl h⟩,λh=>absurd (any_mem.2 hmem) h⟩,λh=>absurd rfl h⟩,λh=>absurd h0 h⟩
 ·-- none
  rcases T with⟨N,rfl,rfl,rfl,rfl⟩|⟨x,N,rfl,-⟩;rotate_left;·exact absurd rfl h22
  refine⟨λ_=>⟨λ_=>⟨λh0=>?_,λ_=>z Q⟩,λh=>absurd ⟨rfl,rfl⟩ h⟩,λh=>absurd ⟨rfl,rfl,rfl,rfl,rfl⟩ h⟩;refine Tri.mono (Mo E m1') ?_;rintro _ V4 ⟨s4,⟨-,s,rfl,hr4⟩|⟨hG,-⟩⟩;rotate_left;·exact absurd G1 hG
  refine⟨s,_,rfl,λ_ b hb=>?_,λh=>absurd rfl h⟩;have s5:=Mem.sub_new hb (cell (.slice ns.p ns.n ns.c) 37);have hns5:=X.sub (Q.trans (s4.trans s5));refine(PH (first:=[]) (caps:=[pv b]) (hr4.sub s5) Tryz.call14 (λx=>nms.any λy=>decide (x.1=y)) (λx _=>PI Ao hns5)).call ⟨_,rfl,?_⟩;have N:allP (Bz d Ag (B1 d nms)) ⟨gs,R.st.g,o,nd⟩=[]:=by
   unfold B2 Fi at N;rw[if_pos h0]at N;exact List.head?_eq_none_iff.1 N
  rw[show((allP d ⟨gs,R.st.g,o,nd⟩).any λx=>nms.any λy=>decide (x.1=y))=false from xz.2 λy hy h=>pick_none hn0 G1.chk N hy (any_mem.1 h)];exact z (Q.trans (s4.trans s5))
end
end Go.Proofs
