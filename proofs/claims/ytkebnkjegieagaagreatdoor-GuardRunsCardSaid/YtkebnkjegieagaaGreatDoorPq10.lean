/- Part 10: no statement of the seat is proved here. -/
import Derived.Test.YtkebnkjegieagaaGreatDoorPq09
set_option linter.unusedVariables false
set_option linter.unusedSimpArgs false
open Go.Proofs.Tryz renaming prog->xV
open Option.some renaming inj->uh
open Go.DataW renaming Trod->ug,TrodAll->ue
open Go.Input renaming okWide_of_okWideB->uf
open List renaming mem_append_left->vu,mem_append_right->uE,any_eq_true->xg,mem_of_getElem?->xw,getElem?_take->zx,mem_iff_getElem?->uJ,getElem?_map->xJ,getElem?_eq_some_iff->yg,mem_map->vk,length_map->vp,getElem?_append_left->uN,length_append->zK,getElem?_eq_getElem->yf,replicate->zB,length_singleton->zL,take_of_length_le->wm,drop_eq_nil_of_le->uc,getD_cons_zero->uF,take_add_one->vq
open Nat renaming zero_add->ud,le_trans->yr
open Bool renaming and_eq_true->zD
open Int renaming toNat_natCast->wH,tdiv_eq_ediv_of_nonneg->vh
open Go.Ending renaming returned->xY
open List.cons renaming injEq->zP
open Go.Value.int renaming injEq->yA
open Go.IntKind renaming wrap->xW,signed->zt,bits->zr
open Go.Value renaming int->vP
namespace Go.Proofs.YtkebnkjegieagaaGreatDoor
open Go Go.Sx Go.Proofs Go.ChangeShapes Go.WideShapes Go.ChangeAt Go.RowKit
abbrev Gi:List (String×DataW Unit):=[("unicode.White_Space",Rows.laid_unicode_White_Space),("strings.asciiSpace",Rows.laid_strings_asciiSpace)]
theorem KG{w:World}:laidMetH xV Gi w↔laidMet xV Gi w:=by
 rfl
theorem tab_laid{W:World}(h:laidMet xV Gi W):Tab (Bb W):=by
 obtain⟨ps,h1,h2,h3⟩:=h;obtain⟨g,t,cs,fuel,p,q,C,D,A,E,u,L⟩:=h1;obtain⟨R,X,B,Z,K,T,Y,Q,z,o,N,I⟩:=u;refine tab_of ?_;unfold Lib.TabIs;rw[z];have P:R=0:=uh (Y.symm.trans (show xV.globalNamed "strings.asciiSpace" =some 0 by kernel_rfl));subst P;have O:X=329:=uh (Q.symm.trans (show(xV.globals[0]?).map (·.type)=some 329 by kernel_rfl));subst O;have J:(Rows.laid_strings_asciiSpace:DataW Unit)=Lib.tabData .u8 Lib.asciiSpaceTab:=by kernel_rfl
 rw[J]at o;rw[<-Lib.cells_of_tab (n:=256) (e:=5) Tryz.underlying329 Tryz.underlying5 (by kernel_rfl) (by kernel_rfl) o]
theorem kept{W g:World}(h1:g.os=W.os)(h2:g.output=W.output)(hold:∀b,b<W.heap.size->g.heap[b]?=W.heap[b]?)(t:MemPlace->Prop):W.keptBut g t:=by
 refine⟨h1,h2,λi u=>?_⟩;grind
theorem again_arg{H:Type}{enc:TypeId×Value->H}{t:TypeId}(J:xV.readableRec t=true)(g:t<xV.types.size){W z:World}{v:Value}{d:DataW H}{ps:List MemPlace}(h:ug enc xV W 0 (λ_=>true) true t v d ps)
  (hold:∀b,b<W.heap.size->z.heap[b]?=W.heap[b]?) (u:∀x∈ps,x.block<W.heap.size):ug enc xV z 0 (λb=>decide (b<W.heap.size)) true t v d ps:=
 WideElems.Trod_stays Tryz.laidOut J g h (λx e=>by
  have:=u x e;cases x with
  |cell b o=>exact World.cell?_of_block (w:=W) (hold b this)
  |map b=>exact hold b this) (λx e=>by simp_all)
theorem N4{C:Checked}{os:Os}{f:FuncId}{fn:Func}{s:ChangeSpec}{t:List PathCond}{apart:Bool}{X:World->XQ->Prop}{H:Type}{enc:TypeId×Value->H}(w0:World)(args:XQ)(fuel:Nat)(o:w0.os=os)
  (hv:(w0.forCall (λ_ _=>0) ⟨#[],args,[]⟩).variablesRefB C.prog=true)
  (J:((w0.forCall (λ_ _=>0) ⟨#[],args,[]⟩).heap.toList.drop C.prog.globals.size).take ((begin C.prog (λ_ _=>0) default).world.heap.size-C.prog.globals.size)=
   (begin C.prog (λ_ _=>0) default).world.heap.toList.drop C.prog.globals.size)
  (u:Input.okWideB C.prog (w0.forCall (λ_ _=>0) ⟨#[],args,[]⟩) f ⟨#[],args,[]⟩=true)
  (z:s.preB enc C.prog fn t apart (w0.forCall (λ_ _=>0) ⟨#[],args,[]⟩).memory args fuel=true)
  (e:s.sizedB enc C.prog fn apart (w0.forCall (λ_ _=>0) ⟨#[],args,[]⟩).memory args fuel=true)
  (N:X (w0.forCall (λ_ _=>0) ⟨#[],args,[]⟩).memory args):
  ∃(w:World)(g:Tape)(i:Input),w.os=os/\(w.forCall g i).Shaped C.prog/\i.vars=[]/\Input.okWide C.prog (w.forCall g i) .any w.heap.size f i/\
   ((s.pre enc C.prog fn t apart (w.forCall g i).memory i.args/\X (w.forCall g i).memory i.args)/\sizedMet enc C.prog fn (OpenSpec.ofChange s) apart (w.forCall g i).memory i.args)/\({}:Assume).holds C.prog (lone (Frame.enter C.prog f i.args .normal) [] (w.forCall g i)):=
 ⟨w0,λ_ _=>0,⟨#[],args,[]⟩,o,World.shaped_of_RefB hv J,(uf (base:=0) u).1,(uf u).2,⟨⟨ChangeSpec.pre_of_preB z,N⟩,sizedMet_of_sizedB e⟩,by
  grind[Assume.holds]⟩
theorem Mh{H:Type}{enc:TypeId×Value->H}{W e:World}(hold:∀b,b<W.heap.size->e.heap[b]?=W.heap[b]?):∀{ts:List TypeId}{vs:XV}{ds:List (DataW H)}{ps:List MemPlace},(∀t∈ts,xV.readableRec t=true/\t<xV.types.size)->
  ue enc xV W 0 (λ_=>true) true ts vs ds ps->(∀x∈ps,x.block<W.heap.size)->ue enc xV e 0 (λb=>decide (b<W.heap.size)) true ts vs ds ps
 |[],_,_,_,_,h,_=>by
  obtain⟨rfl,rfl,rfl⟩:=trodAll_nil h;rfl
 |t::ts,_,_,_,z,h,g=>by
  obtain⟨v,vs,d,ds,p,q,rfl,rfl,rfl,h1,h2⟩:=trodAll_cons h;exact⟨p,q,again_arg (z t (by simp)).1 (z t (by simp)).2 h1 hold (λx o=>g x (vu _ o)),Mh hold (λu hu=>z u (by simp[hu])) h2 (λx o=>g x (uE _ o)),rfl⟩
theorem N5{H:Type}{enc:TypeId×Value->H}{w:World}{a b c d e:TypeId}{args:XQ}{ds:List (DataW H)}{ps:List MemPlace}(h:ue enc xV w 0 (λ_=>true) true [a,b,c,d,e] args.toList ds ps):
  ∃t u z o J N Z Y Q P p0 p1 O p3 A,args=#[t,u,z,o,J]/\ds=[N,Z,Y,Q,P]/\ps=p0++(p1++(O++(p3++A)))/\ug enc xV w 0 (λ_=>true) true a t N p0/\ug enc xV w 0 (λ_=>true) true b u Z p1/\ug enc xV w 0 (λ_=>true) true c z Y O/\
   ug enc xV w 0 (λ_=>true) true d o Q p3/\ug enc xV w 0 (λ_=>true) true e J P A:=by
 obtain⟨t,vs,N,L,p,q,I,rfl,rfl,R,g⟩:=trodAll_cons h;obtain⟨u,X,Z,B,p1,q1,rfl,rfl,rfl,h1,g⟩:=trodAll_cons g;obtain⟨z,C,Y,D,O,q2,rfl,rfl,rfl,h2,g⟩:=trodAll_cons g;obtain⟨o,E,Q,K,p3,q3,rfl,rfl,rfl,h3,g⟩:=trodAll_cons g;obtain⟨J,T,P,U,A,q4,rfl,rfl,rfl,h4,g⟩:=trodAll_cons g;obtain⟨rfl,rfl,rfl⟩:=trodAll_nil g;exact⟨t,u,z,o,J,N,Z,Y,Q,P,p,p1,O,p3,A,by grind,rfl,by simp,R,h1,h2,h3,h4⟩
end Go.Proofs.YtkebnkjegieagaaGreatDoor
namespace Go.Proofs.YtkebnkjegieagaaGreatDoor
open Go Go.Sx Go.Proofs Go.ChangeShapes Go.WideShapes Go.ChangeAt Go.RowKit
section
variable{H:Type}{enc:TypeId×Value->H}{w:World}
theorem cl31:xV.cellsOf 31=1:=by kernel_rfl
theorem clNd:xV.cellsOf 121=2:=by kernel_rfl
theorem clNds:xV.cellsOf 32=1:=by kernel_rfl
theorem clMm:xV.cellsOf 34=2:=by kernel_rfl
theorem gInts{m:Nat}{v:Value}(h:∃y,TR enc w m 31 [v]=some y):∃(s:Sl)(xs:XZ),v=.slice s.p s.n s.c/\Ae (Bb w) s 1 (xs.map Aw)/\∀x∈xs,Ev x:=
 DQ (row:=Aw) (ok:=Ev) Tryz.underlying31 Ik (by decide) (λ_=>rfl) (λu _ cs x g=>by
  obtain⟨n,rfl,t⟩:=rd_int Tryz.underlying3 g;exact⟨n,rfl,t⟩) h
theorem rdNd{n:Nat}{cs:XV}{x:DataW H×List MemPlace}(h:TR enc w n 121 cs=some x):∃f:Nd,Nd.row f=cs/\Nd.Ok (Bb w) f:=by
 obtain⟨u,m,-,g⟩:=EA Tryz.underlying121 h;obtain⟨a,b,rfl⟩:=len2 (u.trans clNd);obtain⟨t,rfl,z⟩:=gI (at1 (g 0 _ rfl) Ik rfl);obtain⟨l,k,rfl,o,e⟩:=gInts (at1 (g 1 _ rfl) cl31 rfl);exact⟨⟨t,l,k⟩,rfl,⟨o,z,e⟩⟩
theorem rdMm{n:Nat}{cs:XV}{x:DataW H×List MemPlace}(h:TR enc w n 34 cs=some x):∃m:Mm,m.row=cs/\Mm.Ok (Bb w) m:=by
 obtain⟨t,m,-,g⟩:=EA Tryz.underlying34 h;obtain⟨a,b,rfl⟩:=len2 (t.trans clMm);obtain⟨u,z,rfl,h1,o⟩:=gInts (at1 (g 0 _ rfl) cl31 rfl);obtain⟨e,J,rfl,h2,N⟩:=DQ (row:=Nd.row) (ok:=Nd.Ok (Bb w)) Tryz.underlying32 clNd (by decide) (λ_=>rfl) (λ_ _ _ _=>rdNd) (at1 (g 1 _ rfl) clNds rfl);exact⟨⟨u,z,e,J⟩,rfl,⟨h1,o,h2,N⟩⟩
theorem clCl:xV.cellsOf 36=2:=by kernel_rfl
theorem rdCl{n:Nat}{cs:XV}{x:DataW H×List MemPlace}(h:TR enc w n 36 cs=some x):∃(nm:KB)(l:Sl)(xs:XZ),[Value.string nm,l.v]=cs/\Ae (Bb w) l 1 (xs.map Aw):=by
 obtain⟨u,m,-,g⟩:=EA Tryz.underlying36 h;obtain⟨a,b,rfl⟩:=len2 (u.trans clCl);obtain⟨t,rfl⟩:=gS (at1 (g 0 _ rfl) DP rfl);obtain⟨l,k,rfl,z,-⟩:=gInts (at1 (g 1 _ rfl) cl31 rfl);exact⟨t,l,k,rfl,z⟩
end
theorem mem_of{H:Type}{enc:TypeId×Value->H}{W:World}{v:Value}{t:DataW H}{p:List MemPlace}(h:ug enc xV W 0 (λ_=>true) true 34 v t p):∃m:Mm,v=m.v/\Mm.Ok (Bb W) m:=by
 obtain⟨fuel,h⟩:=h;obtain⟨m,hm,g⟩:=rdMm h;refine⟨m,?_,g⟩;have u:v.cells.toList.length=2:=by rw[<-hm];rfl
 cases v with
 |agg cs=>
  have:cs.toList=m.row:=hm.symm;show Value.agg cs=.agg m.row.toArray;rw[<-this]
 |_=>simp[Value.cells]at u
end Go.Proofs.YtkebnkjegieagaaGreatDoor
namespace Go.Proofs
open Go Go.Sx
section
variable(d:Ds)(s:Sl)(l:List Iv)(m:Mm)
def B5:Ds:={d with is:=s,invs:=l}
theorem evE_with(F:Int->Int->Rs)(x:Int)(e:E):Au (B5 d s l) m F x e=Au d m F x e:=by
 induction e using E.ind with
 |h e g=>rw[GH,GH,List.map_congr_left g];rfl
theorem evM_with:∀n k x,Al (B5 d s l) m n k x=Al d m n k x
 |0,k,x=>by unfold Al;rfl
 |n+1,k,x=>by
  have h:Al (B5 d s l) m n=Al d m n:=funext λk=>funext λx=>evM_with n k x;unfold Al;rw[h,show(B5 d s l).measures=d.measures from rfl,show nilM (B5 d s l) k=nilM d k from rfl];simp only[evE_with]
theorem bodiesT_with:Et (B5 d s l)=Et d:=by kernel_rfl
theorem exp1_with:exp1 (B5 d s l)=exp1 d:=by kernel_rfl
theorem exp3_with:exp3 (B5 d s l)=exp3 d:=by kernel_rfl
theorem exp4_with:exp4 (B5 d s l)=exp4 d:=by kernel_rfl
theorem wantT_with(sc:Sc)(e:E)(t:KB):Ba (B5 d s l) sc e t=Ba d sc e t:=by kernel_rfl
end
theorem Hr{α β:Type}{f:Nat->α->Option β}:∀{l:List α}{i:Nat},Aq f i l=none↔∀j x,l[j]?=some x->f (i+j) x=none
 |[],i=>by simp[Aq]
 |x::xs,i=>by
  constructor
  .intro h j y g;unfold Aq at h;cases t:f i x with
   |some b=>rw[t]at h;cases h
   |none=>
    rw[t]at h;cases j with
    |zero=>cases g;exact t
    |succ j=>have:=Hr.1 h j y g;rwa [show i+(j+1)=i+1+j by omega]
  .intro h;unfold Aq;rw[show f i x=none from h 0 x rfl];exact Hr.2 λj y g=>by have:=h (j+1) y g;rwa [show i+1+j=i+(j+1)by omega]
theorem orN_iff{α:Type}{a b:Option α}:a.or b=none↔a=none/\b=none:=by cases a<;>simp
theorem nodup_sub{α:Type}[DecidableEq α]:∀{l k:List α},l.Nodup->(∀x∈l,x∈k)->l.length<=k.length
 |[],k,_,_=>Nat.zero_le _
 |x::l,k,h,g=>by
  have t:=g x List.mem_cons_self;rw[List.nodup_cons]at h;have:=nodup_sub (l:=l) (k:=k.erase x) h.2 λy u=>(List.mem_erase_of_ne λe=>h.1 (by rw[<-e];exact u)).2 (g y (List.mem_cons_of_mem _ u));rw[List.length_erase_of_mem t]at this;have z:=List.length_pos_of_mem t;rw[List.length_cons];omega
section
variable{d:Ds}{s:Sl}{l:List Iv}{m:Mm}
theorem names_inj(h:B0 d=none){i j:Nat}{v w:Iv}(hi:d.invs[i]?=some v)(g:d.invs[j]?=some w)(t:v.name=w.name):i=j:=by
 unfold B0 Dn at h;simp only[orN_iff]at h;have h2:=Hr.1 h.2.2.1.2.1;have key:∀{i j:Nat}{v w:Iv},d.invs[i]?=some v->d.invs[j]?=some w->v.name=w.name->i<j->False:=λ{i j v w} hi g t u=>by
  have:=h2 j w g;rw[ud,if_pos (xg.2 ⟨v,xw (i:=i) (by rw[zx,if_pos u];exact hi),decide_eq_true t⟩)]at this;cases this
 rcases Nat.lt_trichotomy i j with h|h|h;.exact(key hi g t h).elim
 .exact h
 .exact(key g hi t.symm h).elim
theorem chk_with(h:B0 d=none)(hm:∀v∈l,v∈d.invs)(O:(l.map (·.name)).Nodup):B0 (B5 d s l)=none:=by
 unfold B0 Dn Eu at h⊢;simp only[orN_iff]at h⊢;obtain⟨h1,h2,⟨A,f2,f3,I⟩,h4,o,e,L,R⟩:=h;refine⟨h1,h2,⟨A,?_,f3,I⟩,?_,?_,?_,?_,?_⟩
 .refine Hr.2 λj v hv=>?_;have t:l[j]?=some v:=hv;obtain⟨i,Z⟩:=uJ.1 (hm v (xw t));have u:=Hr.1 f2 i v Z;have Y:¬(l.take j).any (λg=>decide (g.name=v.name))=true:=λJ=>by
   obtain⟨w,hw,Q⟩:=xg.1 J;obtain⟨k,N⟩:=uJ.1 hw;rw[zx]at N;by_cases z:k<j
   .rw[if_pos z]at N;have o:(l.map (·.name))[k]?=some w.name:=by rw[xJ,N];rfl
    have e:(l.map (·.name))[j]?=some v.name:=by rw[xJ,t];rfl
    have Q:=of_decide_eq_true Q;obtain⟨X,o⟩:=yg.1 o;obtain⟨B,e⟩:=yg.1 e;have:=(List.nodup_iff_pairwise_ne.1 O);have:=List.pairwise_iff_getElem.1 this k j X B z;exact this (by rw[o,e];exact Q)
   .rw[if_neg z]at N;cases N
  rw[ud]at u⊢;rw[show(B5 d s l).invs=l from rfl,if_neg Y];by_cases P:(d.invs.take i).any (λg=>decide (g.name=v.name))=true;.rw[if_pos P]at u;cases u
  .rw[if_neg P]at u;exact u
 .rw[bodiesT_with];exact h4
 .rw[exp1_with];exact o
 .refine Hr.2 λj v hv=>?_;have t:l[j]?=some v:=hv;obtain⟨i,Z⟩:=uJ.1 (hm v (xw t));have u:=Hr.1 e i v Z;rw[wantT_with];exact u
 .rw[exp3_with];exact L
 .rw[exp4_with];exact R
theorem valid_with(h:A8 d=true)(hm:∀v∈l,v∈d.invs)(g:(l.map (·.name)).Nodup):A8 (B5 d s l)=true:=by
 have J:l.length<=d.invs.length:=by
  have:=nodup_sub g (k:=d.invs.map (·.name)) λx t=>by
   obtain⟨v,hv,rfl⟩:=vk.1 t;exact vk.2 ⟨v,hm v hv,rfl⟩
  rwa [vp,vp]at this
 unfold A8 F5 FB at h⊢;simp only[zD,decide_eq_true_eq,List.all_eq_true]at h⊢;obtain⟨⟨⟨⟨⟨⟨⟨a1,a2⟩,a3⟩,u⟩,b1,b2,b3,b4⟩,z⟩,o⟩,⟨⟨e,c2⟩,c3⟩,c4⟩:=h;exact⟨⟨⟨⟨⟨⟨⟨a1,a2⟩,a3⟩,u⟩,b1,by show((l.length:Nat):Int)<=12;omega,b3,b4⟩,z⟩,o⟩,⟨⟨e,λv hv=>c2 v (hm v hv)⟩,c3⟩,c4⟩
theorem good_with(G:An d m)(hm:∀v∈l,v∈d.invs)(g:(l.map (·.name)).Nodup):An (B5 d s l) m:=
  have hv:=valid_with (s:=s) G.valid hm g
 ⟨hv,chk_with G.chk hm g,by
  have h:=G.mem;unfold BX hasT at h⊢;rw[hv,Bool.true_and];rw[G.valid,Bool.true_and]at h;exact h⟩
end
section
variable{d:Ds}{s:Sl}{l:List Iv}{m:Mm}
theorem reach_with:BN (B5 d s l) m=BN d m:=by kernel_rfl
theorem holdB_with{e:E}{x:Int}:D3 (B5 d s l) m e x=D3 d m e x:=by
 have h:∀n,Au (B5 d s l) m (Al (B5 d s l) m n) x e=Au d m (Al d m n) x e:=λn=>by
  rw[evE_with];exact congrArg (λF=>Au d m F x e) (funext λk=>funext λx=>evM_with d s l m n k x)
 unfold D3;exact decide_eq_decide.2 ⟨λ⟨n,g⟩=>⟨n,(h n).symm.trans g⟩,λ⟨n,g⟩=>⟨n,(h n).trans g⟩⟩
theorem badB_with{v:Iv}{x:Int}:B8 (B5 d s l) m v x=B8 d m v x:=by
 unfold B8;rw[holdB_with];rfl
theorem allOf_with{v:Iv}{k:XZ}:BQ (B5 d s l) m v k=BQ d m v k:=by
 unfold BQ;rw[show B8 (B5 d s l) m v=B8 d m v from funext λx=>badB_with]
theorem nodesOf_with{v:Iv}:A9 (B5 d s l) m v=A9 d m v:=by
 unfold A9;rw[reach_with]
theorem Il:allP (B5 d s l) m=l.flatMap λv=>BQ d m v (A9 d m v):=by
 unfold allP;simp only[allOf_with,nodesOf_with];rfl
def Ch(d:Ds)(nms:XN):Int:=if nms.all (λn=>decide (0<=BP d n))=true then(if nms.Nodup then 0 else 10)else 9
def B9(d:Ds)(nms:XN):List Iv:=nms.filterMap λn=>d.invs[(BP d n).toNat]?
theorem pick_at{n:KB}(h:0<=BP d n):∃v,d.invs[(BP d n).toNat]?=some v/\v.name=n/\v∈d.invs:=by
 unfold BP at h⊢;rcases Cv (λt:Iv=>decide (t.name=n)) d.invs with⟨h1,-,-⟩|⟨i,x,h1,h2,h3,h4,g,h6,-⟩;.rw[h1]at h;exact absurd h (by decide)
 .exact⟨x,by rw[h1];exact h2,of_decide_eq_true g,h6⟩
theorem pick_ok{nms:XN}(h:Ch d nms=0):(∀v∈B9 d nms,v∈d.invs)/\(B9 d nms).map (·.name)=nms/\nms.Nodup:=by
 unfold Ch at h;split at h
 .rename_i t;split at h
  .rename_i g;refine⟨λv hv=>?_,?_,g⟩
   .obtain⟨n,-,hv⟩:=List.mem_filterMap.1 hv;exact xw hv
   .clear g h;induction nms with
    |nil=>rfl
    |cons n l u=>
     rw[List.all_cons,zD]at t;obtain⟨v,hv,g,-⟩:=pick_at (of_decide_eq_true t.1);unfold B9 at u⊢;rw[List.filterMap_cons,hv,List.map_cons,u t.2,g]
  .cases h
 .cases h
theorem pick_good{nms:XN}(h:Ch d nms=0)(G:An d m):An (B5 d s (B9 d nms)) m:=by
 obtain⟨h1,h2,h3⟩:=pick_ok h;exact good_with G h1 (by rw[h2];exact h3)
theorem all_mem{y:KB×Int}{k:List Iv}(h:y∈k.flatMap λv=>BQ d m v (A9 d m v)):∃v∈k,v.name=y.1/\y.2∈A9 d m v/\B8 d m v y.2=true:=by
 obtain⟨v,hv,h⟩:=List.mem_flatMap.1 h;unfold BQ at h;obtain⟨n,g,rfl⟩:=vk.1 h;obtain⟨h1,h2⟩:=List.mem_filter.1 g;exact⟨v,hv,rfl,h1,h2⟩
end
attribute [local irreducible] Go.Sx.Tri
open Classical in
noncomputable def Mem.wo(V:Mem)(p:Nat)(s:Sl):Mem:=λc=>if c=p∨A4 s c then none else V c
section
variable{V0 V V1 V2 V':Mem}{d:Ds}{m:Mm}{p:Nat}{sn:List A5}{f x:Int}{s:Sl}
theorem wo_sub(V:Mem)(p:Nat)(s:Sl):(Mem.wo V p s).sub V:=λc o h=>by
 unfold Mem.wo at h;split at h;.cases h
 .exact h
theorem wo_at{c:Nat}{o:Obj}(h:V c=some o)(h1:c≠p)(h2:¬A4 s c):Mem.wo V p s c=some o:=by
 unfold Mem.wo;rw[if_neg];.exact h
 .rintro(h|h);.exact h1 h
  .exact h2 h
theorem RM.subwo(S:Dq V0 d m p)(h:RM V0 d m p V sn f s):V0.sub (Mem.wo V p s):=λc o g=>wo_at (h.own.sub _ _ g) (λe=>by rw[e,S.p0]at g;cases g) (h.own.apart0 g)
theorem RM.wo(h:RM V0 d m p V sn f s):RM (Mem.wo V p s) d m p V sn f s:=⟨h.at_,wo_sub V p s,h.own.len,by
 rcases h.own.cases0 with h1|⟨t,g,cur,h1,h2,h3⟩;.exact .inl h1
 .refine .inr ⟨g,cur,h1,?_,h3⟩;unfold Mem.wo;rw[if_pos (.inr ⟨t,h1⟩)]⟩
theorem Dq.wo(S:Dq V0 d m p)(h:RM V0 d m p V sn f s):Dq (Mem.wo V p s) d m p:=⟨S.good,S.ds.sub (h.subwo S),S.mm.sub (h.subwo S),by unfold Mem.wo;rw[if_pos (.inl rfl)]⟩
theorem RM.narrow(h:RM V1 d m p V sn f s)(g:V0.sub V1):RM V0 d m p V sn f s:=⟨h.at_,h.own.narrow g⟩
theorem RK.wo(h:RK V0 d m p V sn s):RK (Mem.wo V p s) d m p V sn s:=⟨h.rm.wo,h.kn,h.cap⟩
theorem RK.narrow(h:RK V1 d m p V sn s)(g:V0.sub V1):RK V0 d m p V sn s:=⟨h.rm.narrow g,h.kn,h.cap⟩
theorem Own.move{e:TypeId}{sz:Nat}{l:Sl}{vs:XV}(h:Sx.Own V0 V e sz l vs)(u:V0.sub V')(z:∀g t,V g=Option.some (.cells t e (0,0))->V' g=Option.some (.cells t e (0,0))):Sx.Own V0 V' e sz l vs:=⟨u,h.len,by
 rcases h.at_ with h1|⟨g,t,h1,h2,h3,h4⟩;.exact .inl h1
 .exact .inr ⟨g,t,h1,h2,z g t h3,h4⟩⟩
def KeepN(V V':Mem):Prop:=∀g u t,t≠3->V g=some (.cells u t (0,0))->V' g=some (.cells u t (0,0))
theorem RM.keep(h:RM V0 d m p V sn f s)(z:V0.sub V')(u:KeepN V V'):RM V0 d m p V' sn f s:=⟨u _ _ _ (by decide) h.at_,Own.move h.own z λg t o=>u g t _ (by decide) o⟩
theorem RK.keep(h:RK V0 d m p V sn s)(g:V0.sub V')(t:KeepN V V'):RK V0 d m p V' sn s:=⟨h.rm.keep g t,h.kn,h.cap⟩
theorem exprF(h:RM V0 d m p V sn f s)(g:f≠0){e:E}:PP 214 [pv p,e.v,uI x] V (uI 0):=by
 refine x214 ?_;unfold w214;exact⟨nn,nn,f,h.cell 11 1 (by decide),λt=>absurd t g,λ_=>⟨rfl,rfl⟩⟩
def ArgSt(V0:Mem)(d:Ds)(m:Mm)(p:Nat)(sn:List A5)(x:Int)(k:XY)(i:Nat)(V1:Mem)(l:Sl):Prop:=∃vals:XZ,vals.length=i/\Sx.Own V0 V1 3 1 l (vals.flatMap Aw)/\
  ((∃(ext:List A5)(s':Sl),AllK ext/\RK V0 d m p V1 (sn++ext) s'/\∀(j:Nat)(a:Int),vals[j]?=some a->∃q:E,k[j]?=some q/\Out d m (D4 sn) (λn=>Au d m (Al d m n) x q) (.ok a))∨
   ∃(c:Int)(g:List A5)(s':Sl)(j:Nat)(q:E),c≠0/\RM V0 d m p V1 g c s'/\sn.length<=g.length/\k[j]?=some q/\Out d m (D4 sn) (λn=>Au d m (Al d m n) x q) (.bad c)/\∀t:Nat,t<j->∃(u:E)(a:Int),k[t]?=some u/\Out d m (D4 sn) (λn=>Au d m (Al d m n) x u) (.ok a))
theorem Im{N:Nat}{k:XY}{el:Sl}(S:Dq V0 d m p)(hr:Ae V0 el 4 (k.map E.row))(hok:∀a∈k,E.Ok V0 a)(hlen:k.length<=1000)
  (hk:∀a∈k,∀V0,Dq V0 d m p->∀V sn s,E.Ok V0 a->RK V0 d m p V sn s->CM d m sn<=N->Tri xV 214 #[pv p,a.v,uI x] V (By V0 d m p sn λn=>Au d m (Al d m n) x a))
  (K:RK V0 d m p V sn s) (hN:CM d m sn<=N) {X:Sl->Mem->Prop} (hX:∀l V1,ArgSt V0 d m p sn x k k.length V1 l->X l V1):
  ∃(I:Nat->KZ)(n0:Nat),I n0 [z0,uI 0] V/\∀n V1,∀(v7:Sl)(v8:Int),I n [uL v7,uI v8] V1->∀J0:KZ,(∀m ys V'',m<n->I m ys V''->J0 ys V'')->
   Br (v8<(el.n:Int))
   (¬el.p=none/\0<=v8/\v8<(el.n:Int)/\∃v9 v10 v11 v12,V1.rowp el.p (v8.toNat*4) 4=some [uI v9,uI v10,uS v11,uL v12]/\
   TT 214 #[uP (sa p),uA #[uI v9,uI v10,uS v11,uL v12],uI x] V1 λe V2=>∃v13,e=rV (uI v13)/\
   Af [uI v13] 3 V2 λv14 V3=>
   GenK xV (.call {callee:=(.builtin .append),args:=#[(.tmp 44),(.tmp 53)],argTypes:=#[31,31]}) 31 (gv [(44,uL v7),(53,.slice (Aa v14 0) (1:Int).toNat (1:Int).toNat)]) V3 λy Z=>∃Y,y=uL Y/\
   IR (v8+1)/\J0 [uL Y,uI (v8+1)] Z)
   (X v7 V1):=by
 refine DJ (mk:=uL) (b0:=⟨none,0,0⟩) AT k.length (λi l V1=>ArgSt V0 d m p sn x k i V1 l) ⟨[],rfl,Own.nil K.rm.own.sub _ _,.inl ⟨[],s,(λ_ h=>by simp at h),by rw[List.append_nil];exact K,λj a h=>by simp at h⟩⟩ ?_;rintro i l V1 J hi ⟨vals,O,A,hst⟩ hJ;have hr1:=hr.sub A.sub;refine⟨λhlt=>?_,λhge=>?_⟩
 .obtain⟨y,hym,hy,-,hil,hp,hz,hrow⟩:=hr1.get hlt;refine⟨hp,hz,hlt,_,_,_,_,hrow,?_⟩;have fin:∀{V2:Mem}{v:Int},Sx.Own V0 V2 3 1 l (vals.flatMap Aw)->(∀Z l',V0.sub Z->KeepN V2 Z->Sx.Own V0 Z 3 1 l' ((vals++[v]).flatMap Aw)->ArgSt V0 d m p sn x k (i+1) Z l') ->
    Af [uI v] 3 V2 λv14 V3=>
    GenK xV (.call {callee:=(.builtin .append),args:=#[(.tmp 44),(.tmp 53)],argTypes:=#[31,31]}) 31 (gv [(44,uL l),(53,.slice (Aa v14 0) (1:Int).toNat (1:Int).toNat)]) V3 λy Z=>∃Y,y=uL Y/\
    IR ((i:Int)+1)/\J [uL Y,uI ((i:Int)+1)] Z:=λ{V2 v} ho2 hfin tb htb=>by
   have o:=ho2.new htb (.cells #[uI v] 3 (0,0));refine app31 (s:=l) (u:=⟨some ⟨tb,0,none⟩,1,1⟩) (xs:=vals) (ys:=[v]) rfl rfl o.but (Hn Av) (by simp;omega) λl' Z z=>⟨l',rfl,hr1.succ hlt,hJ hil _ _ (hfin Z l' (o.sub_but.trans z.sub) (λg cur t ht hg=>?_) (z.narrow o.sub_but))⟩;have h3:=Mem.sub_new htb (.cells #[uI v] 3 (0,0)) _ _ hg;refine z.sub _ _ (Mem.but_at h3 (o.apart λcur' Q=>?_));rw[h3]at Q;simp only[Option.some.injEq,Obj.cells.injEq]at Q;exact ht Q.2.1
  rcases hst with⟨ext,s1,hx,K1,hv⟩|⟨c,sn1,s1,j,q,Q,h1,hle,hq,hqo,hjs⟩
  .have S1:=S.wo K1.rm;have L:=K1.rm.subwo S;refine Tri.mono (hk y hym (Mem.wo V1 p s1) S1 V1 (sn++ext) s1 ((hok y hym).sub L) K1.wo (yr unR_ext hN)) ?_;rintro _ V2 ⟨v,rs,rfl,ho,C⟩;have ho':=ho.imp (bz_ext hx);have D:(Mem.wo V1 p s1).sub V2:=by
    rcases C with⟨a,T,s2,-,-,-,K2⟩|⟨c,sn2,s2,-,-,h2,-⟩;.exact K2.rm.own.sub
    .exact h2.own.sub
   have hol2:Sx.Own V0 V2 3 1 l (vals.flatMap Aw):=Own.move A (L.trans D) λg cur hg=>D _ _ (wo_at hg (λe=>by rw[e,K1.rm.at_]at hg;cases hg) (K1.rm.own.apart λcur' Q=>by rw[hg]at Q;cases Q));refine⟨v,rfl,fin hol2 λZ l' R B z=>⟨vals++[v],by simp[O],z,?_⟩⟩;rcases C with⟨a,T,s2,rfl,rfl,hx2,K2⟩|⟨c,sn2,s2,rfl,Q,h2,hle⟩
   .refine .inl ⟨ext++T,s2,λpr P=>?_,?_,λj b U=>?_⟩
    .rcases List.mem_append.1 P with P|P;.exact hx pr P
     .exact hx2 pr P
    .rw[<-List.append_assoc];exact(K2.narrow L).keep R B
    .by_cases hj:j<i;.rw[uN (by omega)]at U;exact hv j b U
     .rw[List.getElem?_append_right (by omega)]at U;have:j=i:=by
       have:=(yg.1 U).1;simp at this;omega
      subst this;rw[O,Nat.sub_self]at U;cases U;exact⟨y,hy,ho'⟩
   .refine .inr ⟨c,sn2,s2,i,y,Q,(h2.narrow L).keep R B,by rw[zK]at hle;omega,hy,ho',λj' hj'=>?_⟩;have U:vals[j']?=some (vals[j']'(by omega)):=yf _;obtain⟨q,h3,h4⟩:=hv j' _ U;exact⟨q,_,h3,h4⟩
  .refine(exprF h1 Q).call ⟨0,rfl,fin A λZ l' R B z=>⟨vals++[0],by simp[O],z,.inr ⟨c,sn1,s1,j,q,Q,h1.keep R B,hle,hq,hqo,hjs⟩⟩⟩
 .have hd:=(hr1.done hge).2;have:i=k.length:=by omega
  subst this;exact hX l V1 ⟨vals,O,A,hst⟩
end
section
variable{V0 V V1 V2 V':Mem}{d:Ds}{m:Mm}{p:Nat}{sn:List A5}{f x:Int}{s:Sl}
theorem c326{l:XX}{fl:Sl}(u:Ae V fl 2 (l.map Fld.row)){nm:KB}:PP 326 [fl.v,uS nm] V (uI (Bu l nm)):=by
 refine x326 ?_;refine AG (mk:=.int .i64) (b0:=0) l.length (λi V1=>V=V1/\AQ (λy:Fld=>!decide (y.name=nm)) l i) ⟨rfl,AQ.zero _ _⟩ ?_;rintro i b V1 J O ⟨rfl,z⟩ Y;refine⟨λg=>?_,λo=>?_⟩
 .obtain⟨x,Q,N,-,e,Z,P,t⟩:=u.get g;refine⟨Z,P,g,Ai Z,_,_,t,λh=>?_,λh=>⟨u.succ g,Y e _ _ ⟨rfl,E9 z N (decide_eq_false h)⟩⟩⟩;unfold Bu;rw[E7 z N (decide_eq_true h)];exact⟨rfl,rfl⟩
 .unfold Bu;rw[E8 z (u.done o).2];exact⟨rfl,rfl⟩
theorem c280(S:Dq V0 d m p)(h:RM V0 d m p V sn 0 s){t nm ty:KB}(K:Dd d t nm=(ty,0)){a:Int}(T:AX d m t a):Tri xV 280 #[pv p,uI a,uS nm] V (Dw V0 d m p sn s (fldV d m a nm) V):=by
 refine Tri.mono (x280 (R:=Dw V0 d m p sn s (fldV d m a nm) V) ?_) λ_ _ h=>h;refine⟨λQ=>failP S h (by decide) ?_,λQ=>?_⟩;.unfold fldV;rw[if_pos Q]
 obtain⟨n,i,j,U,f,v,b1,b2,b3,b4,b5,b6,b7,b8,b9,Z,-,P,-⟩:=fld_ok S.good K T Q;obtain⟨q,rfl⟩:∃q:Nat,a=(q:Int)+1:=⟨(a-1).toNat,by omega⟩;rw[show((q:Int)+1-1)=(q:Int)by omega]at*
 have g:=S.mm.sub h.own.sub;have o:=S.ds.sub h.own.sub;have hnn:=g.nodes.n_eq;obtain⟨y,O,D,-,hl2,A,I,e⟩:=g.nodes.get (i:=q) (by omega);rw[wH]at b1;rw[b1]at D;cases D;have htn:=o.types.n_eq;have hjl:=(yg.1 b6).1;obtain⟨z,L,E,-,hl3,Y,X,J⟩:=o.types.get (i:=j) (by omega);rw[b6]at E;cases E;have hI:IR ((q:Int)):=⟨by omega,by have:=(g.nodes.succ (i:=q) (by omega)).2;omega⟩;refine⟨nn,nn,AJ,m.ns,h.cell 9 1 (by decide),hI,A,I,by omega,_,_,e,nn,nn,AJ,d.ts,h.cell 1 1 (by decide),?_⟩;rw[b5];refine⟨Y,X,by omega,Ai Y,_,_,J,(c326 (o.typesOk U L).fields).call ⟨_,rfl,?_⟩⟩;rw[b8];have hv:=(g.nodesOk n O).rows;have hvn:=hv.n_eq;have hil:=(yg.1 Z).1;obtain⟨u,hum,hu,-,hl4,B,C,N⟩:=hv.get (i:=i) (by omega);rw[Z]at hu;cases hu;refine⟨B,C,by omega,_,N,?_⟩;rw[P];exact .ok
theorem zeroK{k:XY}{el:Sl}(t:Ae V el 4 (k.map E.row)){i:Nat}{a:E}(h:k[i]?=some a):¬el.p=none/\(0:Int)<=(i:Int)/\(i:Int)<(el.n:Int)/\V.rowp el.p (((i:Nat):Int).toNat*4) 4=some a.row:=by
 have e:=t.n_eq;have J:=(yg.1 h).1;obtain⟨y,-,u,-,-,z,o,g⟩:=t.get (i:=i) (by omega);rw[h]at u;cases u;exact⟨z,o,by omega,g⟩
theorem zeroV{k:XZ}{el:Sl}(t:Ae V el 1 (k.map Aw)){i:Nat}{a:Int}(h:k[i]?=some a):¬el.p=none/\(0:Int)<=(i:Int)/\(i:Int)<(el.n:Int)/\V.rowp el.p (((i:Nat):Int).toNat*1) 1=some (Aw a):=by
 have e:=t.n_eq;have J:=(yg.1 h).1;obtain⟨y,-,u,-,-,z,o,g⟩:=t.get (i:=i) (by omega);rw[h]at u;cases u;exact⟨z,o,by omega,g⟩
variable(V0 d m p)in
def KidR(N:Nat)(x:Int)(a:E):Prop:=∀V sn s,RK V0 d m p V sn s->CM d m sn<=N->Tri xV 214 #[pv p,a.v,uI x] V (By V0 d m p sn λn=>Au d m (Al d m n) x a)
theorem lazyR(S:Dq V0 d m p){e:E}(U:E.Ok V0 e){N:Nat}{G:Nat->Rs}(K:RK V0 d m p V sn s)(hN:CM d m sn<=N){a:E}(h0:e.k[0]?=some a)(k0:KidR V0 d m p N x a){h:Nat->Int->Rs}(B:∀n,G n=(Au d m (Al d m n) x a).bind (h n))
    (hb:∀w,(∃n,Au d m (Al d m n) x a=.ok w)->w=0∨w=1)
    (hw:∀w,w=0∨w=1->(¬e.op=21/\((decide (w=1))==(decide (e.op=19)))=false/\∀n,h n w=.ok w)∨∃(j:Nat)(b:E),e.k[j]?=some b/\KidR V0 d m p N x b/\(∀n,h n w=Au d m (Al d m n) x b)/\(e.op=21->(w=1/\j=1)∨(w=0/\j=2))/\(¬e.op=21->((decide (w=1))==(decide (e.op=19)))=true/\j=1)):
    Tri xV 279 #[pv p,e.v,uI x] V (By V0 d m p sn G):=by
  refine Tri.mono (x279 (R:=By V0 d m p sn G) ?_) λ_ _ h=>h;obtain⟨q1,q2,q3,q4⟩:=zeroK (U.rows.sub K.rm.own.sub) h0;refine⟨q1,q2,q3,_,_,_,_,q4,Tri.mono (k0 V sn s K hN) ?_⟩;rintro _ V1 ⟨w,rs,rfl,t,o⟩;refine⟨w,rfl,?_⟩;rcases o with⟨a',ext,s1,rfl,rfl,hx,X⟩|⟨c,sn1,s1,rfl,hc,h1,C⟩
  · have D:=hb w t;have u:∀{j:Nat}{b:E},e.k[j]?=some b->KidR V0 d m p N x b->(∀n,h n w=Au d m (Al d m n) x b) ->
        (¬e.l.p=none/\(0:Int)<=(j:Int)/\(j:Int)<(e.l.n:Int)/\∃J Z Y Q,V1.rowp e.l.p (((j:Nat):Int).toNat*4) 4=some [uI J,uI Z,uS Y,uL Q]/\
         TT 214 #[uP (sa p),uA #[uI J,uI Z,uS Y,uL Q],uI x] V1 λe V2=>∃P,e=rV (uI P)/\By V0 d m p sn G (rV (uI P)) V2):=λ{j b} hj kb hh=>by
      obtain⟨r1,r2,r3,r4⟩:=zeroK (U.rows.sub X.rm.own.sub) hj;refine⟨r1,r2,r3,_,_,_,_,r4,Tri.mono (kb V1 (sn++ext) s1 X (yr unR_ext hN)) ?_⟩;intro r V2 H;obtain⟨v,T,rfl,g⟩:=H;have O:(λn=>h n w)=λn=>Au d m (Al d m n) x b:=funext hh;exact⟨v,rfl,By.seq (h:=h) t hx B (Ca x a) (by rw[O];exact Ca x b) (by rw[O];exact⟨v,T,rfl,g⟩)⟩
    refine⟨nn,nn,0,X.rm.cell 11 1 (by decide),As rfl ?_⟩;rcases hw w D with⟨A,I,L⟩|⟨j,b,A,I,L,g4,g5⟩
    · refine Ag A (Ag (by rw[I];decide) ?_);have O:(λn=>h n w)=λ_=>.ok w:=funext L;refine By.seq (h:=h) t hx B (Ca x a) (by rw[O];exact JY _) ?_;rw[O];exact By.ofPure X (Out.const _) .ok
    · by_cases z:e.op=21
      · refine As z ?_;rcases g4 z with⟨rfl,rfl⟩|⟨rfl,rfl⟩;· exact As rfl (u A I L)
        · exact Ag (by decide) (u A I L)
      · obtain⟨g6,rfl⟩:=g5 z;exact Ag z (As g6 (u A I L))
  · exact⟨nn,nn,c,h1.cell 11 1 (by decide),Ag hc ⟨0,.bad c,rfl,(Out.bindBad (h:=h) t).congr λn=>(B n).symm,.inr ⟨c,sn1,s1,rfl,hc,h1,C⟩⟩⟩
end
section
variable{V0 V V1 V2 V':Mem}{d:Ds}{m:Mm}{p:Nat}{sn:List A5}{f x:Int}{s:Sl}
theorem exprRef(N:Nat)(ih:∀N',N'<N->ExprR d m p N'):ExprR d m p N:=by
 have hM:=measRef N ih;suffices H:∀e:E,∀V0,Dq V0 d m p->∀(T t:KB)(x:Int) V sn s,VE e->E.Ok V0 e->Ao d (AM d T) e=(t,0)->This d m T x->RK V0 d m p V sn s->CM d m sn<=N->
   Tri xV 214 #[pv p,e.v,uI x] V (By V0 d m p sn λn=>Au d m (Al d m n) x e)from λV0 S e T t x V sn s=>H e V0 S T t x V sn s
 intro e;induction e using E.ind with
 |h e ihk=>
 intro V0 S T t x V sn s hv B ht hT K D;obtain⟨G,hG⟩:∃G:Nat->Rs,G=λn=>Au d m (Al d m n) x e:=⟨_,rfl⟩;rw[<-hG];have Y:∀n,G n=C5 d m (Al d m n) x e.op e.n e.s (e.k.map (Au d m (Al d m n) x)):=λn=>by rw[hG];exact GH _ _ _
 have hty:=(J6 ht).1;have kid:∀a∈e.k,∀V0,Dq V0 d m p->∀V sn s,E.Ok V0 a->RK V0 d m p V sn s->CM d m sn<=N->Tri xV 214 #[pv p,a.v,uI x] V (By V0 d m p sn λn=>Au d m (Al d m n) x a):=
  λa J V0 S V sn s hok K D=>ihk a J V0 S T _ x V sn s (hv.kids a J) hok (Bw rfl (hty a J)) hT K D
 have I:∀{i:Nat}{a:E},e.k[i]?=some a->KidR V0 d m p N x a:=λJ V sn s K D=>kid _ (xw J) V0 S V sn s (B.kids _ (xw J)) K D;have val:∀{a:E}{u:KB}{w:Int},a∈e.k->Ao d (AM d T) a=(u,0)->(∃n,Au d m (Al d m n) x a=.ok w)->AX d m u w:=λhm hu ⟨n,hn⟩=>sound S.good hT (hv.kids _ hm) hu hn;have con:∀(r:Rs),Mono λ_=>r:=JY;have bad:∀{c:Int}{V1:Mem}{Q:List A5}{s1:Sl},c≠0->RM V0 d m p V1 Q c s1->sn.length<=Q.length->Out d m (D4 sn) G (.bad c)->By V0 d m p sn G (Id 0) V1:=λA h1 hle ho=>⟨0,.bad _,rfl,ho,.inr ⟨_,_,_,rfl,A,h1,hle⟩⟩;have one:∀{a:E}{h:Nat->Int->Rs},e.k=[a]->(∀n,G n=(Au d m (Al d m n) x a).bind (h n))->∀{X:Sl->Mem->Prop},(∀l V1 w ext s1,Ae V1 l 1 ([w].map Aw)->AllK ext->RK V0 d m p V1 (sn++ext) s1->(∃n,Au d m (Al d m n) x a=.ok w)->
   (∀{r V2},By V0 d m p (sn++ext) (λn=>h n w) r V2->Mono (λn=>h n w)->By V0 d m p sn G r V2)->X l V1)->(∀l V1 c Q s1,c≠0->RM V0 d m p V1 Q c s1->By V0 d m p sn G (Id 0) V1->X l V1)->∀l V1,ArgSt V0 d m p sn x e.k e.k.length V1 l->X l V1:=by
  intro a h o L X hgood hbad l V1 hA;obtain⟨vals,hvl,hol,hst⟩:=hA;rw[o]at hvl hst;obtain⟨w,rfl⟩:∃w,vals=[w]:=list1 (by rw[hvl];rfl);rcases hst with⟨ext,s1,hx,P,hvv⟩|⟨c,Q,s1,j,q,A,h1,hle,U,O,hjs⟩
  .obtain⟨q,U,O⟩:=hvv 0 w rfl;cases U;exact hgood l V1 w ext s1 (hol.rows (λ_=>rfl) (by decide)) hx P O λH mh=>By.seq (h:=h) O hx L (Ca x a) mh H
  .have:j=0:=by have:=(yg.1 U).1;simp at this;omega
   subst this;cases U;exact hbad l V1 c Q s1 A h1 (bad A h1 hle ((Out.bindBad (h:=h) O).congr λn=>(L n).symm))
 have hkl:∀{a:E},e.k=[a]->e.k.length<=1000:=λh=>by rw[h];simp
 refine Tri.mono (x214 (R:=By V0 d m p sn G) ?_) λ_ _ h=>h;have two:∀{a b:E}{u w':KB},(9<=e.op/\e.op<=23/\e.op≠18/\e.op≠19/\e.op≠20/\e.op≠21)->e.k=[a,b]->Ao d (AM d T) a=(u,0)->Ao d (AM d T) b=(w',0)->w214 (sa p) e.op e.n e.s e.l x V (By V0 d m p sn G):=by
  intro a b u w' h o J hb;unfold w214;have Z:e.k[0]?=some a:=by rw[o];rfl
  have h1:e.k[1]?=some b:=by rw[o];rfl
  have L:∀n,G n=(Au d m (Al d m n) x a).bind λw=>(Au d m (Al d m n) x b).bind λz=>AC e.op w z:=λn=>by rw[Y,IQ h,Ce Z,Ce h1]
  refine⟨nn,nn,0,K.rm.cell 11 1 (by decide),As rfl (Ag (by omega) (Ag (by omega) (Ag (by omega) (Ag (by omega) (Ag (by omega) (Ag (by omega) (Ag (by omega) ?_)))))))⟩;refine Im S B.rows B.kids (by rw[o];simp) kid K D λl V1 hA=>?_;obtain⟨vals,hvl,hol,hst⟩:=hA;rw[o]at hvl hst;obtain⟨w,z,rfl⟩:∃w z,vals=[w,z]:=list2 (by rw[hvl];rfl);have mh:∀w,Mono λn=>(Au d m (Al d m n) x b).bind λz=>AC e.op w z:=λw n n' hn=>Rs.le.bind (Ca x b n n' hn) λ_=>.inr rfl;rcases hst with⟨ext,s1,hx,P,hvv⟩|⟨c,Q,s1,j,q,A,h2,hle,U,O,hjs⟩
  .obtain⟨q,U,O⟩:=hvv 0 w rfl;cases U;obtain⟨q,U,hqo2⟩:=hvv 1 z rfl;cases U;have hr:Ae V1 l 1 ([w,z].map Aw):=hol.rows (λ_=>rfl) (by decide);obtain⟨p1,p2,p3,p4⟩:=zeroV hr (i:=0) rfl;obtain⟨r1,r2,r3,r4⟩:=zeroV hr (i:=1) rfl;have hva:=Kg S.good (val (xw Z) J O);have hvb:=Kg S.good (val (xw h1) hb hqo2);refine⟨nn,nn,0,P.rm.cell 11 1 (by decide),As rfl (Ag (by omega) (Ag (by omega) (Ag (by omega) (Ag (by omega) (Ag (by omega) ⟨p1,p2,p3,w,p4,r1,r2,r3,z,r4,Tri.mono (c285 S P.rm hva hvb) ?_⟩)))))⟩;rintro _ V2 ⟨v,rfl,C⟩;have o1:Out d m (D4 sn) (λn=>(Au d m (Al d m n) x b).bind λz=>AC e.op w z) (AC e.op w z):=Out.bindOk (Ca x b) (con _) hqo2 (Out.const _);have o2:Out d m (D4 (sn++ext)) (λn=>(Au d m (Al d m n) x b).bind λz=>AC e.op w z) (AC e.op w z):=o1.imp λa b ⟨pr,hpr,g⟩=>⟨pr,vu _ hpr,g⟩;exact⟨v,rfl,By.seq (h:=λn w=>(Au d m (Al d m n) x b).bind λz=>AC e.op w z) O hx L (Ca x a) (mh w) (By.ofPure P o2 ⟨v,rfl,C⟩)⟩
  .refine⟨nn,nn,c,h2.cell 11 1 (by decide),Ag A (bad A h2 hle ?_)⟩;have hj:j=0∨j=1:=by have:=(yg.1 U).1;simp at this;omega
   rcases hj with rfl|rfl
   .cases U;exact(Out.bindBad (h:=λn w=>(Au d m (Al d m n) x b).bind λz=>AC e.op w z) O).congr λn=>(L n).symm
   .cases U;obtain⟨q',a',hq',ho'⟩:=hjs 0 (by omega);cases hq';exact(Out.bindOk (h:=λn w=>(Au d m (Al d m n) x b).bind λz=>AC e.op w z) (Ca x a) (mh a') ho' (Out.bindBad (h:=λ_ z=>AC e.op a' z) O)).congr λn=>(L n).symm
 have lz:∀{h:Nat->Int->Rs}{a:E},e.k[0]?=some a->Ao d (AM d T) a=(Ay,0)->(∀n,G n=(Au d m (Al d m n) x a).bind (h n))->
   (∀w,w=0∨w=1->(¬e.op=21/\((decide (w=1))==(decide (e.op=19)))=false/\∀n,h n w=.ok w)∨∃(j:Nat)(b:E),e.k[j]?=some b/\KidR V0 d m p N x b/\(∀n,h n w=Au d m (Al d m n) x b)/\(e.op=21->(w=1/\j=1)∨(w=0/\j=2))/\(¬e.op=21->((decide (w=1))==(decide (e.op=19)))=true/\j=1))->
   TT 279 #[uP (sa p),uA #[uI e.op,uI e.n,uS e.s,uL e.l],uI x] V λr V1=>∃v7,r=rV (uI v7)/\By V0 d m p sn G (rV (uI v7)) V1:=λ{h a} Z J L hw=>
  Tri.mono (lazyR S B K D Z (I Z) L (λw hw=>C6.1 (val (xw Z) J hw)) hw) λr V1 H=>by
   obtain⟨v,rs,rfl,g⟩:=H;exact⟨v,rfl,v,rs,rfl,g⟩
 unfold w214;have pure:∀{v:Int},(∀n,G n=.ok v)->By V0 d m p sn G (Id v) V:=λ{v} h=>By.ofPure K (rs:=.ok v) ⟨0,h 0⟩ .ok;cases kind (d:=d) (sc:=AM d T) rfl hv ht with
 |int h hn=>
  refine⟨nn,nn,0,K.rm.cell 11 1 (by decide),As rfl ?_⟩;exact As h (pure λn=>(Y n).trans (comb1 (.inl h)))
 |bool h hn=>
  refine⟨nn,nn,0,K.rm.cell 11 1 (by decide),As rfl ?_⟩;repeat refine Ag (h▸(by decide)) ?_
  exact As h (pure λn=>(Y n).trans (comb1 (.inr h)))
 |nil h hn=>
  refine⟨nn,nn,0,K.rm.cell 11 1 (by decide),As rfl ?_⟩;repeat refine Ag (h▸(by decide)) ?_
  refine As h ?_;have hn:e.n=0:=hn;rw[hn];exact pure λn=>(Y n).trans (comb3 h)
 |var h hl hne=>
  refine⟨nn,nn,0,K.rm.cell 11 1 (by decide),As rfl ?_⟩;repeat refine Ag (h▸(by decide)) ?_
  exact As h ((c278 S K.rm hT hl hne).call ⟨_,rfl,pure λn=>(Y n).trans (comb4 h)⟩)
 |@fld _ u a h o J hf=>
  refine⟨nn,nn,0,K.rm.cell 11 1 (by decide),As rfl ?_⟩;have Z:e.k[0]?=some a:=by rw[o];rfl
  repeat refine Ag (h▸(by decide)) ?_
  refine Im S B.rows B.kids (hkl o) kid K D (one (h:=λn w=>fldV d m w e.s) o (λn=>by rw[Y,comb5 h,Ce Z]) (λl V1 w ext s1 hr hx P hw fin=>?_) λl V1 c Q s1 A h1 H=>⟨nn,nn,c,h1.cell 11 1 (by decide),Ag A H⟩);obtain⟨p1,p2,p3,p4⟩:=zeroV hr (i:=0) rfl;refine⟨nn,nn,0,P.rm.cell 11 1 (by decide),As rfl (As h ⟨p1,p2,p3,w,p4,Tri.mono (c280 S P.rm hf (val (xw Z) J hw)) ?_⟩)⟩;rintro _ V2 ⟨v,rfl,C⟩;exact⟨v,rfl,fin (By.ofPure P (Out.const _) ⟨v,rfl,C⟩) (con _)⟩
 |@call u a ms i h o J hi hms hf=>
  refine⟨nn,nn,0,K.rm.cell 11 1 (by decide),As rfl ?_⟩;have Z:e.k[0]?=some a:=by rw[o];rfl
  repeat refine Ag (h▸(by decide)) ?_
  refine Im S B.rows B.kids (hkl o) kid K D (one (h:=λn w=>Al d m n i w) o (λn=>by rw[Y,comb7 h,Ce Z,hi]) (λl V1 w ext s1 hr hx P hw fin=>?_) λl V1 c Q s1 A h1 H=>⟨nn,nn,c,h1.cell 11 1 (by decide),Ag A H⟩);obtain⟨p1,p2,p3,p4⟩:=zeroV hr (i:=0) rfl;refine⟨nn,nn,0,P.rm.cell 11 1 (by decide),As rfl ?_⟩;repeat refine Ag (h▸(by decide)) ?_
  refine As h ⟨nn,nn,_,_,_,_,_,_,_,_,P.rm.cell 0 8 (by decide),p1,p2,p3,w,p4,(c282 (S.ds.sub P.rm.own.sub)).call ⟨_,rfl,FD p4,p1,p2,p3,?_⟩⟩;rw[hi];refine Tri.mono (hM V0 S i ms w V1 (sn++ext) s1 hms (Ey S.good.valid hf (val (xw Z) J hw)) P (yr unR_ext D)) ?_;rintro _ V2 ⟨v,rs,rfl,g⟩;exact⟨v,rfl,fin ⟨v,rs,rfl,g⟩ (Lz i w)⟩
 |@neg a h o J=>
  refine⟨nn,nn,0,K.rm.cell 11 1 (by decide),As rfl ?_⟩;have Z:e.k[0]?=some a:=by rw[o];rfl
  repeat refine Ag (h▸(by decide)) ?_
  refine Im S B.rows B.kids (hkl o) kid K D (one (h:=λn w=>AR (-w)) o (λn=>by rw[Y,comb8 h,Ce Z]) (λl V1 w ext s1 hr hx P hw fin=>?_) λl V1 c Q s1 A h1 H=>⟨nn,nn,c,h1.cell 11 1 (by decide),Ag A H⟩);obtain⟨p1,p2,p3,p4⟩:=zeroV hr (i:=0) rfl;have hval:=Cw.1 (val (xw Z) J hw);refine⟨nn,nn,0,P.rm.cell 11 1 (by decide),As rfl ?_⟩;repeat refine Ag (h▸(by decide)) ?_
  refine As h ⟨p1,p2,p3,w,p4,⟨by omega,by omega⟩,Tri.mono (c283 S P.rm) ?_⟩;rintro _ V2 ⟨v,rfl,C⟩;rw[Int.zero_sub]at C;exact⟨v,rfl,fin (By.ofPure P (Out.const _) ⟨v,rfl,C⟩) (con _)⟩
 |@not a h o J=>
  refine⟨nn,nn,0,K.rm.cell 11 1 (by decide),As rfl ?_⟩;have Z:e.k[0]?=some a:=by rw[o];rfl
  repeat refine Ag (h▸(by decide)) ?_
  refine Im S B.rows B.kids (hkl o) kid K D (one (h:=λn w=>.ok (1-w)) o (λn=>by rw[Y,comb18 h,Ce Z]) (λl V1 w ext s1 hr hx P hw fin=>?_) λl V1 c Q s1 A h1 H=>⟨nn,nn,c,h1.cell 11 1 (by decide),Ag A H⟩);obtain⟨p1,p2,p3,p4⟩:=zeroV hr (i:=0) rfl;have hval:=C6.1 (val (xw Z) J hw);refine⟨nn,nn,0,P.rm.cell 11 1 (by decide),As rfl ?_⟩;repeat refine Ag (h▸(by decide)) ?_
  exact As h ⟨p1,p2,p3,w,p4,⟨by omega,by omega⟩,fin (By.ofPure P (Out.const _) .ok) (con _)⟩
 |@log a h o J=>
  refine⟨nn,nn,0,K.rm.cell 11 1 (by decide),As rfl ?_⟩;have Z:e.k[0]?=some a:=by rw[o];rfl
  repeat refine Ag (h▸(by decide)) ?_
  refine Im S B.rows B.kids (hkl o) kid K D (one (h:=λn w=>.ok (Bv w)) o (λn=>by rw[Y,comb24 h,Ce Z]) (λl V1 w ext s1 hr hx P hw fin=>?_) λl V1 c Q s1 A h1 H=>⟨nn,nn,c,h1.cell 11 1 (by decide),Ag A H⟩);obtain⟨p1,p2,p3,p4⟩:=zeroV hr (i:=0) rfl;have hval:=Cw.1 (val (xw Z) J hw);refine⟨nn,nn,0,P.rm.cell 11 1 (by decide),As rfl ?_⟩;repeat refine Ag (h▸(by decide)) ?_
  exact As h ⟨p1,p2,p3,w,p4,(c284 (by omega)).call ⟨_,rfl,fin (By.ofPure P (Out.const _) .ok) (con _)⟩⟩
 |@and a b h o J hb=>
  refine⟨nn,nn,0,K.rm.cell 11 1 (by decide),As rfl ?_⟩;have Z:e.k[0]?=some a:=by rw[o];rfl
  have h1:e.k[1]?=some b:=by rw[o];rfl
  repeat refine Ag (h▸(by decide)) ?_
  refine As h (lz (h:=λn w=>if w=0 then .ok 0 else Au d m (Al d m n) x b) Z J (λn=>by rw[Y,comb19 h,Ce Z,Ce h1]) λw hw=>?_);rcases hw with rfl|rfl;.exact .inl ⟨by omega,by rw[h];decide,λn=>if_pos rfl⟩
  .exact .inr ⟨1,b,h1,I h1,λn=>if_neg (by decide),λk=>absurd (h.symm.trans k) (by decide),λ_=>⟨by rw[h];decide,rfl⟩⟩
 |@or a b h o J hb=>
  refine⟨nn,nn,0,K.rm.cell 11 1 (by decide),As rfl ?_⟩;have Z:e.k[0]?=some a:=by rw[o];rfl
  have h1:e.k[1]?=some b:=by rw[o];rfl
  repeat refine Ag (h▸(by decide)) ?_
  refine As h (lz (h:=λn w=>if w=0 then Au d m (Al d m n) x b else .ok 1) Z J (λn=>by rw[Y,comb20 h,Ce Z,Ce h1]) λw hw=>?_);rcases hw with rfl|rfl;.exact .inr ⟨1,b,h1,I h1,λn=>if_pos rfl,λk=>absurd (h.symm.trans k) (by decide),λ_=>⟨by rw[h];decide,rfl⟩⟩
  .exact .inl ⟨by omega,by rw[h];decide,λn=>if_neg (by decide)⟩
 |@cond a b c _ u w' h o J hb A hu hw=>
  refine⟨nn,nn,0,K.rm.cell 11 1 (by decide),As rfl ?_⟩;have Z:e.k[0]?=some a:=by rw[o];rfl
  have h1:e.k[1]?=some b:=by rw[o];rfl
  have h2:e.k[2]?=some c:=by rw[o];rfl
  repeat refine Ag (h▸(by decide)) ?_
  refine As h (lz (h:=λn w=>if w=0 then Au d m (Al d m n) x c else Au d m (Al d m n) x b) Z J (λn=>by rw[Y,comb21 h,Ce Z,Ce h1,Ce h2]) λw hw=>?_);rcases hw with rfl|rfl;.exact .inr ⟨2,c,h2,I h2,λn=>if_pos rfl,λ_=>.inr ⟨rfl,rfl⟩,λk=>absurd h k⟩
  .exact .inr ⟨1,b,h1,I h1,λn=>if_neg (by decide),λ_=>.inl ⟨rfl,rfl⟩,λk=>absurd h k⟩
 |eq h o J hb=>exact two (by omega) o J hb
 |cmp h o J hb=>exact two (by omega) o J hb
 |ari h o J hb=>exact two (by omega) o J hb
theorem exprAllR:∀N,ExprR d m p N:=λN=>Nat.strongRecOn N λN g=>exprRef N g
end
section
variable{V0 V V1 V2 V':Mem}{d:Ds}{m:Mm}{p:Nat}{sn:List A5}{f x:Int}{s:Sl}
theorem c213(h:RM V0 d m p V sn f s){v:Int}:PP 213 [pv p,uI v] V (.tuple #[uI (if f=0 then v else 0),uI f]):=by
 refine x213 ?_;refine⟨nn,nn,f,h.cell 11 1 (by decide),λg=>?_,λg=>⟨nn,nn,f,h.cell 11 1 (by decide),?_,nn,nn,?_⟩⟩
 .have g:f=0:=g;rw[if_pos g,g];exact⟨rfl,rfl⟩
 .rw[rowp_add0 V (sa p) 11 1];exact h.cell 11 1 (by decide)
 .rw[if_neg (show ¬f=0 from g)];exact⟨rfl,rfl⟩
theorem refNew(G:An d m)(t:Ds.Ok V d)(hm:Mm.Ok V m)(g:V p=none):Dq V d m p/\RK V d m p (V.set p (.cells (rrow d m ⟨none,0,0⟩ 0).toArray 299 (0,0))) [] ⟨none,0,0⟩:=
 ⟨⟨G,t,hm,g⟩,⟨Mem.set_same _ _ _,Own.nil (Mem.sub_new g _) _ _⟩,(λ_ h=>by simp at h),by
  unfold CM;simp only[List.length_nil,ud];exact List.length_filter_le _ _⟩
theorem refTail{f:FuncId}{args:XQ}{g:Nat->Rs}{Q:Int->Int->Mem->Prop}(H:Tri xV f args V1 (By V d m p [] g))(o:∀rs J,V.sub J->Out d m (λ_ _=>False) g rs->Q (valRs rs) (errRs rs) J):
  Tri xV f args V1 λe N=>∃v,e=Id v/\Tri xV 213 #[pv p,uI v] N λe O=>∃Z Y,e=rT #[uI Z,uI Y]/\Q Z Y O:=by
 refine Tri.mono H ?_;rintro _ N ⟨v,rs,rfl,u,t⟩;have u:=u.imp (B':=λ_ _=>False) λa b ⟨pr,z,_⟩=>by simp at z
 refine⟨v,rfl,?_⟩;rcases t with⟨a,ext,s1,rfl,rfl,-,P⟩|⟨c,sn1,s1,rfl,A,h1,-⟩;.exact(c213 P.rm).call ⟨_,_,rfl,by rw[if_pos rfl];exact o _ _ P.rm.own.sub u⟩
 .exact(c213 h1).call ⟨_,_,rfl,by rw[if_neg A];exact o _ _ h1.own.sub u⟩
end
section
variable{V0 V V1 V2 V':Mem}{d:Ds}{m:Mm}{p:Nat}{x:Int}
theorem c162(G:An d m)(g:Ds.Ok V d)(hm:Mm.Ok V m){e:E}{T t:KB}(hv:VE e)(u:E.Ok V e)(z:Ao d (AM d T) e=(t,0))(o:This d m T x):
  Tri xV 162 #[d.v,m.v,e.v,uI x] V λr V'=>V.sub V'/\∃rs,r=rT #[uI (valRs rs),uI (errRs rs)]/\Out d m (λ_ _=>False) (λn=>Au d m (Al d m n) x e) rs:=by
 refine x162 ?_;intro b J;obtain⟨S,K⟩:=refNew G g hm J;exact refTail (exprAllR _ V S e T t x _ [] ⟨none,0,0⟩ hv u z o K (Nat.le_refl _)) λrs Y N Z=>⟨N,rs,rfl,Z⟩
end
section
variable{V0 V V1 V2 V':Mem}{d:Ds}{m:Mm}{x:Int}{nm:KB}
inductive HolP (d:Ds)(m:Mm)(nm:KB)(x:Int):Bool->Int->Prop where
 |arg (h:¬An d m):HolP d m nm x false 1
 |range (h:An d m) (h1:¬(0<=x/\x<=(m.nodes.length:Int))):HolP d m nm x false 2
 |name (h:An d m) (h1:0<=x/\x<=(m.nodes.length:Int)) (h2:BP d nm<0):HolP d m nm x false 9
 |type (h:An d m) (h1:0<=x/\x<=(m.nodes.length:Int)) (i:Nat) (v:Iv) (h2:BP d nm=i) (h3:d.invs[i]?=some v) (h4:¬Dg d m x=v.ty):HolP d m nm x false 11
 |val (h:An d m) (h1:0<=x/\x<=(m.nodes.length:Int)) (i:Nat) (v:Iv) (h2:BP d nm=i) (h3:d.invs[i]?=some v) (h4:Dg d m x=v.ty):HolP d m nm x (D3 d m v.x x) 0
theorem HolP.eq{b e:Bool}{f J:Int}(H:HolP d m nm x b f)(z:HolP d m nm x e J):b=e/\f=J:=by
 have same:∀{i j:Nat}{v w:Iv},BP d nm=i->d.invs[i]?=some v->BP d nm=j->d.invs[j]?=some w->v=w:=λ{i j v w} h1 h2 h3 h4=>by
  have:i=j:=by omega
  subst this;rw[h2]at h4;cases h4;rfl
 cases H with
 |arg h=>cases z with
  |arg k=>exact⟨rfl,rfl⟩
  |_ k=>exact absurd k h
 |range h h1=>cases z with
  |arg k=>exact absurd h k
  |range k g=>exact⟨rfl,rfl⟩
  |name k g=>exact absurd g h1
  |type k g=>exact absurd g h1
  |val k g=>exact absurd g h1
 |name h h1 h2=>cases z with
  |arg k=>exact absurd h k
  |range k g=>exact absurd h1 g
  |name k g=>exact⟨rfl,rfl⟩
  |type k g i v t=>omega
  |val k g i v t=>omega
 |type h h1 i v h2 h3 h4=>cases z with
  |arg k=>exact absurd h k
  |range k g=>exact absurd h1 g
  |name k g t=>omega
  |type k g j w t u o=>exact⟨rfl,rfl⟩
  |val k g j w t u o=>obtain rfl:=same h2 h3 t u;exact absurd o h4
 |val h h1 i v h2 h3 h4=>cases z with
  |arg k=>exact absurd h k
  |range k g=>exact absurd h1 g
  |name k g t=>omega
  |type k g j w t u o=>obtain rfl:=same h2 h3 t u;exact absurd h4 o
  |val k g j w t u o=>obtain rfl:=same h2 h3 t u;exact⟨rfl,rfl⟩
theorem iIdx_at(h:¬BP d nm<0):∃(i:Nat)(v:Iv),BP d nm=i/\d.invs[i]?=some v/\v∈d.invs:=by
 unfold BP at h⊢;rcases Cv (λt:Iv=>decide (t.name=nm)) d.invs with⟨h1,-,-⟩|⟨i,x,h1,h2,h3,h4,g,-⟩;.rw[h1]at h;exact absurd (by decide) h
 .exact⟨i,x,h1,h2,xw h2⟩
theorem c118(G:An d m)(g:Ds.Ok V d)(hm:Mm.Ok V m){v:Iv}(hv:v∈d.invs)(o:This d m v.ty x):Tri xV 118 #[d.v,m.v,v.v,uI x] V λe V'=>V.sub V'/\e=EQ (D3 d m v.x x):=by
 refine x118 ?_;obtain⟨-,c2⟩:=(IV G.chk).2 v hv;refine Tri.mono (c162 G g hm (ivB_parts ((GI G.valid).2.2.2 v hv)).2.2 (g.invsOk v hv) c2 o) ?_;rintro _ V1 ⟨t,rs,rfl,J⟩;have u:=Kj J;refine⟨_,_,rfl,λz=>⟨t,?_⟩,λz=>⟨t,?_⟩⟩
 .rw[u];cases rs with
  |ok a=>show xY (.bool (decide (a=1)))=_;rw[show decide (Rs.ok a=.ok 1)=decide (a=1)by simp]
  |bad c=>rw[show decide (Rs.bad c=.ok 1)=false by simp];rfl
 .rw[u];cases rs with
  |ok a=>exact absurd rfl z
  |bad c=>rw[show decide (Rs.bad c=.ok 1)=false by simp]
theorem QK(z:Ds.Ok V d)(hm:Mm.Ok V m):Tri xV 69 #[d.v,m.v,uS nm,uI x] V λe V'=>V.sub V'/\∃b f,e=rT #[.bool b,uI f]/\HolP d m nm x b f:=by
 refine Pw ?_;have ret:∀{V1:Mem}{b:Bool}{f:Int},V.sub V1->HolP d m nm x b f->V.sub V1/\∃Q P,xY (.tuple #[.bool b,uI f])=rT #[.bool Q,uI P]/\HolP d m nm x Q P:=λN u=>⟨N,_,_,rfl,u⟩;have o:=Mem.sub.refl V;have I:=hm.nodes.n_eq;refine(c117 z hm).call ⟨_,rfl,λt=>?_,λt=>?_⟩;rotate_left
 .have t:¬(if gB d m=true then(0:Int)else 1)=0:=t;have O:¬gB d m=true:=λh=>t (if_pos h);rw[if_neg O];exact ret o (.arg λh=>O (gB_iff.2 h))
 have G:An d m:=gB_iff.1 (by
  have t:(if gB d m=true then(0:Int)else 1)=0:=t;by_cases h:gB d m=true;.exact h
  .rw[if_neg h]at t;cases t)
 refine⟨λh1=>ret o (.range G λk=>absurd k.1 (by have h1:x<0:=h1;omega)),λh1=>⟨λh2=>ret o (.range G λk=>absurd k.2 (by have h2:(m.ns.n:Int)<x:=h2;omega)),λh2=>?_⟩⟩;have h1:0<=x/\x<=(m.nodes.length:Int):=by
  have h1:¬x<0:=h1;have h2:¬(m.ns.n:Int)<x:=h2;omega
 refine(LX z).call ⟨_,rfl,λh3=>ret o (.name G h1 h3),λh3=>?_⟩;obtain⟨i,v,Z,hv,J⟩:=iIdx_at h3;rw[Z];have L:=(yg.1 hv).1;have R:=z.invs.n_eq;obtain⟨y,-,A,-,X,u,Y,g⟩:=z.invs.get (i:=i) (by omega);rw[hv]at A;cases A;refine⟨u,Y,by omega,Ai u,_,_,_,_,_,_,g,(NQ G z hm h1).call ⟨_,rfl,H1 (j:=1) (m:=1) g (by decide) (by decide),Ai u,u,Y,by omega,λh4=>?_,λh4=>ret o (.type G h1 i v Z hv h4)⟩⟩;have h4:Dg d m x=v.ty:=h4;refine⟨u,Y,by omega,_,_,_,_,_,_,g,Tri.mono (c118 G z hm J (nodes_ty G h1 h4)) ?_⟩;rintro _ B ⟨N,rfl⟩;exact⟨_,rfl,ret N (.val G h1 i v Z hv h4)⟩
end
def AH(d:Ds)(F tk c k cm nn:Int)(gs ns ls:Sl):XV:=[Go.Sx.vS d.name,d.ts.v,d.gs.v,d.ps.v,d.ms.v,d.is.v,d.qs.v,d.bs.v,gs.v,ns.v,uI F,uI tk,uI c,uI k,uI cm,uI nn,uI 0,ls.v]
abbrev XM(V0:Mem)(d:Ds)(p F:Nat)(V:Mem)(s:St)(c k:Int):Prop:=MA 142 V0 p (AH d F s.tk c k s.cm (AZ s.lg)) V s
theorem EB:NT 142:=by unfold NT;decide
def XR(V0:Mem)(d:Ds)(p F:Nat)(c:Int)(r:Rx Int):RP:=λe V'=>match r with
 |.ok v s=>e=Id v/\XM V0 d p F V' s c 0
 |.bad k s=>e=Id 0/\k≠0/\XM V0 d p F V' s c k
section
variable{V0 V V1:Mem}{d:Ds}{p F:Nat}{c k:Int}{s:St}
theorem XR.call{f:FuncId}{args:XQ}{r:Rx Int}{K:Int->Mem->Prop}(H:Tri xV f args V (XR V0 d p F c r))(g:∀v s V',r=.ok v s->XM V0 d p F V' s c 0->K v V')(t:∀k s V',r=.bad k s->k≠0->XM V0 d p F V' s c k->K 0 V'):
  Tri xV f args V λe V'=>∃v,e=Id v/\K v V':=
 Tri.mono H λe V' h=>by
  cases r with
  |ok v s=>exact⟨v,h.1,g v s V' rfl h.2⟩
  |bad k s=>exact⟨0,h.1,t k s V' rfl h.2.1 h.2.2⟩
theorem XR.ok{G:Rx Int}{v:Int}(g:G=.ok v s)(M:XM V0 d p F V s c 0):XR V0 d p F c G (Id v) V:=by rw[g];exact⟨rfl,M⟩
theorem XR.bad{G:Rx Int}{k:Int}(g:G=.bad k s)(t:k≠0)(M:XM V0 d p F V s c k):XR V0 d p F c G (Id 0) V:=by rw[g];exact⟨rfl,t,M⟩
theorem XR.last{f:FuncId}{args:XQ}{G r:Rx Int}(g:G=r)(H:Tri xV f args V (XR V0 d p F c r)):Tri xV f args V λe V'=>∃v,e=Id v/\XR V0 d p F c G (Id v) V':=by
 subst g;exact XR.call H (λv s V' e M=>XR.ok e M) λk s V' e t M=>XR.bad e t M
theorem c211(M:XM V0 d p F V s c 0){k:Int}:Tri xV 211 #[pv p,uI k] V λe V'=>e=Id 0/\XM V0 d p F V' s c k:=by
 obtain⟨gs,ns,ls,nd,g,L⟩:=M.ex;refine x211 ?_;exact⟨nn,nn,_,Aj g 13 1 (by simp[AH]),λ_=>⟨nn,nn,Am.at2 (off:=13) g (by simp[AH]) ⟨rfl,MA.set (row':=AH d F s.tk c k s.cm (AZ s.lg)) EB M.p0 g L rfl rfl rfl rfl⟩⟩,λh=>absurd rfl h⟩
theorem failX(M:XM V0 d p F V s c 0){k:Int}(g:k≠0){G:Rx Int}(t:G=.bad k s):Tri xV 211 #[pv p,uI k] V λe V'=>∃v,e=Id v/\XR V0 d p F c G (Id v) V':=
 Tri.mono (c211 M) λ_ _ ⟨h,u⟩=>⟨0,h,XR.bad t g u⟩
theorem c356{b:Bool}:PP 356 [.bool b] V (uI (De b)):=by
 refine x356 ?_;refine⟨λh=>?_,λh=>?_⟩;.rw[show b=true from h];exact⟨rfl,rfl⟩
 .rw[show b=false by simpa using h];exact⟨rfl,rfl⟩
theorem c348{a:Int}(Z:a<=1099511627776):PP 348 [uI a] V (uI (Bv a)):=by
 refine x348 ?_;have small:∀v:Int,v<=1->Bv v=0:=λv hv=>by
  unfold Bv;have:v.toNat=0∨v.toNat=1:=by omega
  rcases this with h|h<;>rw[h]<;>decide
 have step:∀v:Int,1<v->Bv v=Bv (v.tdiv 2)+1:=λv hv=>by
  unfold Bv;have e:(v.tdiv 2).toNat=v.toNat/2:=by grind
  rw[e,Nat.log2_def,if_pos (by omega)];simp
 have u:Bv a<=64:=by
  unfold Bv;by_cases g:a.toNat=0;.rw[g];decide
  .have:=(Nat.log2_lt g).2 (show a.toNat<2^64 by omega);omega
 have pos:∀v:Int,0<=Bv v:=λv=>by unfold Bv;omega
 refine⟨λn xs V1=>∃v c:Int,xs=[uI v,uI c]/\n=v.toNat/\V=V1/\v<=a/\0<=c/\c+Bv v=Bv a,a.toNat,⟨a,0,rfl,rfl,rfl,Int.le_refl _,Int.le_refl _,by omega⟩,?_⟩;rintro n V1 v c ⟨Y,Q,t,rfl,rfl,z,P,O⟩ J o;simp only[zP,yA,true_and,and_true]at t;obtain⟨rfl,rfl⟩:=t;refine⟨λhv=>?_,λhv=>?_⟩
 .have hv:1<v:=hv;have hw:xW .i64 (v.tdiv 2)=v.tdiv 2:=by
   rw[vh (by omega)];exact EH ⟨by simp[IntKind.min,zt,zr];omega,by simp[IntKind.max,zt,zr];omega⟩
  have A:=step v hv;have I:=pos (v.tdiv 2);have N:v.tdiv 2<v/\0<=v.tdiv 2:=by rw[vh (by omega)];omega
  refine⟨by decide,⟨by omega,by omega⟩,?_⟩;rw[hw];exact o (v.tdiv 2).toNat _ _ (by omega) ⟨v.tdiv 2,c+1,rfl,rfl,rfl,by omega,by omega,by omega⟩
 simp_all
theorem c276(t:F<=4000)(M:XM V0 d p F V s c 0):Tri xV 276 #[pv p] V λe V'=>(s.tk<F/\e=EQ true/\XM V0 d p F V' {s with tk:=s.tk+1} c 0)∨(F<=s.tk/\e=EQ false/\XM V0 d p F V' s c 20):=by
 obtain⟨gs,ns,ls,nd,g,L⟩:=M.ex;refine x276 ?_;refine⟨nn,nn,_,Aj g 13 1 (by simp[AH]),λ_=>⟨nn,nn,_,Aj g 11 1 (by simp[AH]),nn,nn,_,Aj g 10 1 (by simp[AH]),λh=>?_,λh=>?_⟩,λh=>absurd rfl h⟩
 .refine Tri.mono (c211 M) ?_;simp_all
 .refine⟨nn,nn,_,Aj g 11 1 (by simp[AH]),⟨by omega,by omega⟩,nn,nn,Am.at2 (off:=11) g (by simp[AH]) (.inl ⟨by omega,rfl,?_⟩)⟩;exact MA.set (row':=AH d F ((s.tk+1:Nat):Int) c 0 s.cm (AZ s.lg)) EB M.p0 g L rfl rfl rfl rfl
theorem nodesN_one(l:List (Int×Int×Int))(a:Int×Int×Int):AZ (l++[a])=AZ l+if 0<a.2.1 then 1 else 0:=by
 grind[AZ]
theorem nodesN_bound(l:List (Int×Int×Int)):AZ l<=l.length:=by grind[AZ]
theorem c346(M:XM V0 d p F V s c 0){k a f:Int}(J:s.lg.length+1<=2147483648):Tri xV 346 #[pv p,uI k,uI a,uI f] V λe V'=>e=rT #[]/\XM V0 d p F V' (s.note (k,a,f)) c 0:=by
 obtain⟨gs,ns,ls,nd,u,L⟩:=M.ex;refine x346 ?_;have O:=nodesN_bound s.lg;have z:AZ (s.note (k,a,f)).lg=AZ s.lg+if 0<a then 1 else 0:=nodesN_one s.lg (k,a,f)
 refine⟨nn,nn,ls,Aj u 17 1 (by simp[AH]),λE Y=>L.note (a:=(k,a,f)) Y rfl rfl J λs' V' A I=>⟨s',rfl,nn,nn,?_⟩⟩;have t:=I _ _ u (GQ u EB L.log (.inr (.inr rfl)));refine Am.at2 (off:=17) t (by simp[AH]) ?_;have Q:MA 142 V0 p (AH d F s.tk c 0 s.cm (AZ s.lg)) (V'.set p (.cells (AH d F s.tk c 0 s.cm (AZ s.lg) gs ns s').toArray 142 (0,0))) (s.note (k,a,f)):=MA.set (row':=AH d F s.tk c 0 s.cm (AZ s.lg)) EB M.p0 t A rfl rfl rfl rfl;show Br (0<a) _ _;obtain⟨Z,N⟩:∃Z,Z=V'.set p (.cells (AH d F s.tk c 0 s.cm (AZ s.lg) gs ns s').toArray 142 (0,0)):=⟨_,rfl⟩;have P:V'.set p (.cells ((AH d F s.tk c 0 s.cm (AZ s.lg) gs ns ls).toArray.toList.take 17++[s'.v]++(AH d F s.tk c 0 s.cm (AZ s.lg) gs ns ls).toArray.toList.drop (17+[s'.v].length)).toArray 142 (0,0))=Z:=by rw[N];rfl
 rw[<-N]at Q;obtain⟨R,X,B,C,g,D⟩:=Q.ex;refine⟨λo=>?_,λo=>?_⟩
 .have o:0<a:=o;rw[if_pos o]at z
  erw [P]
  refine⟨nn,nn,AJ,_,Aj g 15 1 (by simp[AH]),⟨by omega,by omega⟩,nn,nn,AJ,Am.at2 (off:=15) g (by simp[AH]) ⟨rfl,?_⟩⟩;exact MA.set (row':=AH d F s.tk c 0 s.cm (AZ (s.note (k,a,f)).lg)) EB M.p0 g D (by rw[z];rfl) rfl rfl rfl
 .have o:¬0<a:=o;rw[if_neg o,Nat.add_zero]at z;refine⟨rfl,?_⟩
  erw [P]
  show MA _ V0 p (AH d F s.tk c 0 s.cm (AZ (s.note (k,a,f)).lg)) Z _;grind
theorem c347(M:XM V0 d p F V s c 0){n:Int}:Tri xV 347 #[pv p,uI n] V (XR V0 d p F c (CV (AR n) s)):=by
 obtain⟨G,g⟩:∃G,G=CV (AR n) s:=⟨_,rfl⟩;rw[<-g];refine Tri.mono (x347 (R:=XR V0 d p F c G) ?_) λ_ _ h=>h;have bad:¬(-1099511627776<=n/\n<=1099511627776)->G=.bad 5 s:=λh=>by rw[g];unfold AR;rw[if_neg h];rfl
 refine⟨λh=>failX M (by decide) (bad (by omega)),λh1=>⟨λh=>failX M (by decide) (bad (by omega)),λh2=>?_⟩⟩;have h1:¬n< -1099511627776:=h1;have h2:¬1099511627776<n:=h2;exact XR.ok (by rw[g];unfold AR;rw[if_pos (by omega)];rfl) M
theorem c357(M:XM V0 d p F V s c 0){a b:Int}(z:-1099511627776<=a/\a<=1099511627776)(o:-1099511627776<=b/\b<=1099511627776):Tri xV 357 #[pv p,uI a,uI b] V (XR V0 d p F c (CV (AR (a*b)) s)):=by
 obtain⟨G,u⟩:∃G,G=CV (AR (a*b)) s:=⟨_,rfl⟩;rw[<-u];refine Tri.mono (x357 (R:=XR V0 d p F c G) ?_) λ_ _ h=>h;have fit:(-1099511627776<=a*b/\a*b<=1099511627776)->XR V0 d p F c G (Id (a*b)) V:=λk=>XR.ok (by rw[u];unfold AR;rw[if_pos k];rfl) M;have key:∀x y:Int,x=(if a<0 then -a else a)->y=(if b<0 then -b else b)->Br (0<x) (¬x=0/\Br ((xW .i64 ((1099511627776:Int).tdiv x))<y)
   (Tri xV 211 #[pv p,uI 5] V λe V1=>∃J,e=Id J/\XR V0 d p F c G (Id J) V1)
   (IR (a*b)/\XR V0 d p F c G (Id (a*b)) V)) (IR (a*b)/\XR V0 d p F c G (Id (a*b)) V):=λx y N Z=>by
  refine⟨λt=>?_,λt=>?_⟩
  .have t:0<x:=t;have g:a≠0:=λe=>by omega
   have Y:xW .i64 ((1099511627776:Int).tdiv x)=(1099511627776:Int).tdiv x:=Kw ⟨by omega,by omega⟩;refine⟨by omega,?_⟩;rw[Y];have hm:=mul_big z o g;rw[<-N,<-Z]at hm;refine⟨λk=>failX M (by decide) (by rw[u];unfold AR;rw[if_neg (hm.1 k)];rfl),λk=>?_⟩;simp_all[Classical.not_not,mul_in,inr]
  .have t:¬0<x:=t;have g:a=0:=by omega
   exact⟨mul_in z o (.inl g),fit (by simp_all)⟩
 refine⟨λh1=>⟨⟨by omega,by omega⟩,λh2=>⟨⟨by omega,by omega⟩,?_⟩,λh2=>?_⟩,λh1=>⟨λh2=>⟨⟨by omega,by omega⟩,?_⟩,λh2=>?_⟩⟩;.grind
 .grind
 .grind
 grind
theorem c350(M:XM V0 d p F V s c 0){op v w:Int}(P:op=9∨op=10∨op=11∨op=12∨op=13∨op=22∨op=23)(hv:-1099511627776<=v/\v<=1099511627776)(hw:-1099511627776<=w/\w<=1099511627776):Tri xV 350 #[pv p,uI op,uI v,uI w] V (XR V0 d p F c (CV (AC op v w) s)):=by
 obtain⟨G,g⟩:∃G,G=CV (AC op v w) s:=⟨_,rfl⟩;rw[<-g];refine Tri.mono (x350 (R:=XR V0 d p F c G) ?_) λ_ _ h=>h;have good:∀{n:Int},AC op v w=.ok n->XR V0 d p F c G (Id n) V:=λe=>XR.ok (by rw[g,e];rfl) M;have J:∀{n:Int},AC op v w=AR n->Tri xV 347 #[pv p,uI n] V λe V'=>∃v,e=Id v/\XR V0 d p F c G (Id v) V':=λe=>XR.last (by rw[g,e]) (c347 M);have N:∀{n:Int},-2199023255552<=n/\n<=2199023255552->IR n:=λh=>⟨by omega,by omega⟩;have O:=Kw (b:=w) hv;have A:=H4 (b:=w) hv;refine⟨λh=>⟨N (by omega),J (by grind[AC])⟩,λY=>⟨λh=>⟨N (by omega),J (by grind[AC])⟩,λt=>⟨λh=>XR.last (by grind[AC]) (c357 M hv hw),λu=>⟨λh=>⟨λk=>good ?_,λk=>good ?_⟩,λz=>⟨λh=>⟨λk=>good ?_,λk=>good ?_⟩,λo=>⟨λh=>failX M (by decide) ?_,λZ=>⟨λh=>⟨Z,?_⟩,λQ=>⟨Z,good ?_⟩⟩⟩⟩⟩⟩⟩⟩;.grind[AC]
 .grind[AC]
 .grind[AC]
 .grind[AC]
 .rw[g];unfold AC;rw[if_neg Y,if_neg t,if_neg u,if_neg z,if_neg o,if_neg (by omega),if_neg (by omega),if_neg (by omega),if_neg (by omega),if_pos h];rfl
 .grind[AC,AR]
 grind[AC]
end
def CZ(pr:Pr)(a b:Sl)(r:Option Int):XV:=[Go.Sx.vS pr.name,pr.ps.v,Go.Sx.vS pr.result,pr.ls.v,pr.bs.v,a.v,b.v,.bool r.isSome,uI (r.getD 0)]
structure Gv (V0:Mem)(q:Nat)(pr:Pr)(vals:XZ):Prop where
 ex:∃a b:Sl,V0 q=some (.cells (CZ pr a b none).toArray 294 (0,0))/\Ae V0 a 2 (pr.vars.map Fld.row)/\Ae V0 b 1 (vals.map Aw)
structure Yx (V0:Mem)(d:Ds)(p F c q:Nat)(pr:Pr)(vals:XZ)(n m:Nat)(V:Mem)(s:St):Prop where
 S:ES V0 d F
 fr:Gv V0 q pr vals
 pm:pr∈d.procs
 G:An d s.mm
 hv:AE d s.mm pr.vars vals=true
 M:XM V0 d p F V s c 0
 tk:s.tk<=F
 n:F<n+s.tk
 w:BW m s
section
variable{V0 V V1:Mem}{d:Ds}{p F c q:Nat}{s:St}{pr:Pr}{vals:XZ}
theorem Yx.po{n m:Nat}(X:Yx V0 d p F c q pr vals n m V s):DG d pr:=X.S.procs pr X.pm
theorem Yx.fit{n m:Nat}(X:Yx V0 d p F c q pr vals n (m+1) V s):s.lg.length+1<=2147483648:=by
 have h1:=X.w;have h2:=X.tk;have h3:=X.S.fuel;grind[BW]
theorem Yx.next{n m k:Nat}{V':Mem}{s':St}(X:Yx V0 d p F c q pr vals n (m+k) V s)(g:Gr F m s s')(G:An d s'.mm)(M:XM V0 d p F V' s' c 0):Yx V0 d p F c q pr vals n k V' s':=
 ⟨X.S,X.fr,X.pm,G,BS (λh=>g.right h) X.hv,M,g.fu X.tk,by have:=g.tk;have:=X.n;omega,X.w.next g⟩
theorem Yx.le{n m k:Nat}(X:Yx V0 d p F c q pr vals n m V s)(h:k<=m):Yx V0 d p F c q pr vals n k V s:=⟨X.S,X.fr,X.pm,X.G,X.hv,X.M,X.tk,X.n,X.w.le h⟩
theorem Gv.sub{V':Mem}(h:Gv V0 q pr vals)(g:V0.sub V'):Gv V' q pr vals:=by
 obtain⟨a,b,h1,h2,h3⟩:=h.ex;exact⟨a,b,g _ _ h1,h2.sub g,h3.sub g⟩
theorem nodeX{o e:Int}(M:XM V0 d p F V s e o){k i:Nat}{ty v:Int}{fs:XZ}(N:s.ns[k]?=some (ty,fs))(hv:fs[i]?=some v):∃gs ns ls nd sl,V p=some (.cells (AH d F s.tk e o s.cm (AZ s.lg) gs ns ls).toArray 142 (0,0))/\AK V0 V gs ns ls nd s/\nd[k]?=some ⟨ty,sl,fs⟩/\IR (k:Int)/\
  ¬ns.p=none/\(0:Int)<=(k:Int)/\(k:Int)<(ns.n:Int)/\V.rowp ns.p (k*2) 2=some [uI ty,uL sl]/\¬sl.p=none/\(0:Int)<=(i:Int)/\(i:Int)<(sl.n:Int)/\V.rowp sl.p (i*1) 1=some [uI v]:=by
 obtain⟨gs,ns,ls,nd,z,L⟩:=M.ex;have t:=L.nodes.rows (λ_=>rfl) (by decide);have Z:=t.n_eq;obtain⟨sl,g⟩:=L.at_ N;have Y:=(yg.1 g).1;obtain⟨y,-,J,-,-,Q,P,u⟩:=t.get (i:=k) (by omega);rw[g]at J;cases J;have O:IR ((k:Int)):=⟨by omega,by have:=(t.succ (i:=k) (by omega)).2;omega⟩;obtain⟨A,I,R,X⟩:=Fk ((L.fld _ (xw g)).rows (λ_=>rfl) (by decide)) hv;exact⟨gs,ns,ls,nd,sl,z,L,g,O,Q,P,by omega,u,A,I,R,X⟩
theorem nameX{n m:Nat}(X:Yx V0 d p F c q pr vals n (m+1) V s){nm t:KB}(R:Bn (AA d pr).vars nm=t)(e:t≠sE):
  Tri xV 342 #[pv p,pv q,uS nm] V (XR V0 d p F c (varX d pr vals nm s)):=by
 obtain⟨gs,ns,ls,nd,J,L⟩:=X.M.ex;obtain⟨B,C,N,u,z⟩:=X.fr.ex;have A:=L.sub _ _ N;have D:=X.S.ds.sub L.sub;refine x342 ?_;refine⟨nn,nn,B,Aj A 5 1 (by simp[CZ]),(c326 (u.sub L.sub)).call ⟨_,rfl,?_⟩⟩;rcases Ho X.G X.hv X.po.vars R e with⟨i,g,v,h1,h2,h3,h4,-,h6⟩|⟨i,g,v,E,h1,h2,h3,h4,-,h6⟩
 .rw[h1];obtain⟨Z,Y,Q,P⟩:=Fk (z.sub L.sub) h3;exact As (by omega) ⟨nn,nn,C,Aj A 6 1 (by simp[CZ]),Z,Y,Q,_,P,XR.ok h6 X.M⟩
 .rw[E];refine Ag (by decide) ⟨nn,nn,AJ,d.gs,Aj J 2 1 (by simp[AH]),(c326 D.globals).call ⟨_,rfl,?_⟩⟩;rw[h1];refine Tri.mono (c346 X.M X.fit) ?_;rintro _ V3 ⟨rfl,I⟩;obtain⟨O,K,T,U,o,L3⟩:=I.ex;obtain⟨Z,Y,Q,P⟩:=Fk (L3.glob.rows (λ_=>rfl) (by decide)) (i:=i) (v:=v) h3;exact⟨rfl,nn,nn,AJ,O,Aj o 8 1 (by simp[AH]),Z,Y,Q,_,P,XR.ok h6 I⟩
theorem c345(S:ES V0 d F){O A:Int}(M:XM V0 d p F V s A O){k j:Nat}{fs:XZ}{N:Ty}(I:s.ns[k]?=some ((j:Int),fs))(Z:d.types[j]?=some N){nm:KB}:PP 345 [pv p,uI ((k:Int)+1),uS nm] V (uI (Bu N.fields nm)):=by
 obtain⟨gs,ns,ls,nd,u,L⟩:=M.ex;refine x345 ?_;have Y:=S.ds.sub L.sub;have g:=L.nodes.rows (λ_=>rfl) (by decide);have R:=g.n_eq;obtain⟨sl,z⟩:=L.at_ I;have X:=(yg.1 z).1;obtain⟨y,-,o,-,-,P,B,e⟩:=g.get (i:=k) (by omega);rw[z]at o;cases o;have C:IR ((k:Int)):=⟨by omega,by have:=(g.succ (i:=k) (by omega)).2;omega⟩;have E:=Y.types.n_eq;have D:=(yg.1 Z).1;obtain⟨y,-,o,-,-,J,Q,t⟩:=Y.types.get (i:=j) (by omega);rw[Z]at o;cases o;refine⟨nn,nn,AJ,d.ts,Aj u 1 1 (by simp[AH]),nn,nn,AJ,ns,Aj u 9 1 (by simp[AH]),?_⟩;rw[show((k:Int)+1-1)=(k:Int)by omega];exact⟨C,P,B,by omega,Ai P,_,_,e,J,Q,(show(j:Int)<d.ts.n by omega),Ai J,_,_,t,(c326 (Y.typesOk N (xw Z)).fields).call ⟨_,rfl,rfl,rfl⟩⟩
theorem allocX{n m:Nat}(X:Yx V0 d p F c q pr vals n (m+1) V s){nm:KB}(hn:BK d nm=true):
  Tri xV 343 #[pv p,uS nm] V (XR V0 d p F c (newX d nm s)):=by
 obtain⟨gs,ns,ls,nd,z,L⟩:=X.M.ex;have B:=X.S.ds.sub L.sub;obtain⟨G,hG⟩:∃G,G=newX d nm s:=⟨_,rfl⟩;rw[<-hG];refine Tri.mono (x343 (R:=XR V0 d p F c G) ?_) λ_ _ h=>h;have hnn:=(L.nodes.rows (λ_=>rfl) (by decide)).n_eq;have hlen:=L.len;refine⟨nn,nn,AJ,ns,Aj z 9 1 (by simp[AH]),λD=>failX X.M (by decide) ?_,λD=>?_⟩;.grind[newX]
 have D:¬4096<=(ns.n:Int):=D;obtain⟨u,Z,Y⟩:=xg.1 hn;have Y:u.name=nm:=of_decide_eq_true Y;obtain⟨j,C⟩:=uJ.1 Z;have J:BA d nm=(j:Int):=Y▸(Fc (BR X.G.mem).1).2.1 j u C;have E:B3 d (j:Int)=u.fields:=Ew C rfl;refine⟨nn,nn,d.name,d.ts,d.gs,d.ps,d.ms,d.is,d.qs,d.bs,Aj z 0 8 (by simp[AH]),(c120 B).call ⟨_,rfl,?_⟩⟩;rw[show B1 (λt:Ty=>decide (t.name=nm)) d.types=(j:Int)from J];have htn:=B.types.n_eq;have hjl:=(yg.1 C).1;obtain⟨y,-,hy,-,-,hp,hz,P⟩:=B.types.get (i:=j) (by omega);rw[C]at hy;cases hy;have K:=(B.typesOk u Z).fields.n_eq;have hfl:=(lens12 X.S.valid).2 u Z;refine⟨nn,nn,AJ,ns,Aj z 9 1 (by simp[AH]),nn,nn,AJ,d.ts,Aj z 1 1 (by simp[AH]),hp,hz,by omega,Ai hp,_,_,P,mk31 (n:=u.fs.n) rfl rfl (by omega) λg hg=>⟨⟨some ⟨g,0,none⟩,u.fs.n,u.fs.n⟩,rfl,?_⟩⟩;obtain⟨V2,T⟩:∃V2,V2=V.set g (.cells (madeCells (vP .i64 0).cells (u.fs.n*1)) 3 (0,0)):=⟨_,rfl⟩;have o:=Md hg (n:=u.fs.n) (by omega);rw[<-T]at o⊢;have e:=o.sub _ _ z;refine⟨Do e 9 0 1 (by simp[AH]),AJ,nn,nn,Do e 9 0 1 (by simp[AH]),AJ,nn,nn,λtb U=>?_⟩;refine L.new (n:=⟨(j:Int),⟨some ⟨g,0,none⟩,u.fs.n,u.fs.n⟩,zB u.fs.n 0⟩) o U rfl rfl (by omega) λO V3 L3 hk3=>⟨O,rfl,nn,nn,AJ,?_⟩;have N:=hk3 _ _ e (GQ z EB L.nodes (.inr (.inl rfl)));refine Am.at2 (off:=9) N (by simp[AH]) ?_;have M4:XM V0 d p F (V3.set p (.cells (AH d F s.tk c 0 s.cm (AZ s.lg) gs O ls).toArray 142 (0,0))) {s with ns:=s.ns++[((j:Int),zB u.fs.n 0)]} c 0:=
  ⟨X.M.p0,gs,O,ls,nd++[_],Mem.set_same _ _ _,L3.put (I4 N EB) X.M.p0 _⟩
 have hn3:=(L3.nodes.rows (λ_=>rfl) (by decide)).n_eq;rw[zK,zL]at hn3;show ¬(some (⟨p,0,none⟩:Addr):XI)=none/\_;refine⟨nn,nn,AJ,O,Aj Av 9 1 (by simp[AH]),?_⟩;rw[show((O.n:Nat):Int)=(s.ns.length:Int)+1 by omega];refine Tri.mono (c346 M4 X.fit) ?_;rintro _ V7 ⟨rfl,M7⟩;obtain⟨gs7,A,ls7,nd7,I,L7⟩:=M7.ex;have hn7:=(L7.nodes.rows (λ_=>rfl) (by decide)).n_eq;have Q:=L7.len;have Q:nd7.length=(s.ns++[((j:Int),zB u.fs.n 0)]).length:=Q;rw[zK,zL]at Q;refine⟨rfl,nn,nn,AJ,A,Aj I 9 1 (by simp[AH]),?_⟩;rw[show((A.n:Nat):Int)=(s.ns.length:Int)+1 by omega];refine XR.ok ?_ M7;rw[hG];unfold newX;rw[if_neg (by omega),J,E,<-K];rfl
theorem integersX{n m:Nat}(X:Yx V0 d p F c q pr vals n m V s){e:E}{t:KB}(hv:VE e)(Q:E.Ok V0 e)(Y:Ao d (AA d pr) e=(t,0)):
  Tri xV 355 #[pv p,pv q,e.v] V λr V'=>r=.returned (uB (decide (t=Ak)))/\V.sub V':=by
 obtain⟨gs,ns,ls,nd,u,L⟩:=X.M.ex;obtain⟨I,R,z,-,-⟩:=X.fr.ex;have P:=L.sub _ _ z;have o:=X.S.ds.sub L.sub;have J:=o.procsOk pr X.pm;obtain⟨O,N⟩:=hv;have B:=X.po.lens;have C:=(lens12 X.S.valid).1;refine x355 ?_;refine⟨nn,nn,_,_,_,_,_,_,_,_,Aj u 0 8 (by simp[AH]),nn,nn,_,_,_,_,_,_,_,_,Aj u 0 8 (by simp[AH]),nn,nn,_,_,_,_,_,Aj P 0 5 (by simp[CZ]),?_⟩;refine Tri.mono (refInProc o J (by omega) (by omega)) ?_;rintro _ V1 ⟨s',rfl,g,Z⟩;refine⟨_,_,rfl,Do (g _ _ u) 0 0 8 (by simp[AH]),nn,nn,?_⟩;have A:=JP (sc:=AA d pr) (o.sub g) Z e (Q.sub (L.sub.trans g)) O N V1 (Mem.sub.refl _);refine A.call ⟨_,_,rfl,λh=>⟨?_,g⟩,λh=>absurd (show(Ao d (AA d pr) e).2=0 by rw[Y]) h⟩;rw[Y];rfl
theorem compareX{n m:Nat}(X:Yx V0 d p F c q pr vals n (m+1) V s){e a:E}{u:KB}{v w:Int}(hv:VE e)(I:E.Ok V0 e)(B:e.k[0]?=some a)(K:Ao d (AA d pr) a=(u,0))(T:e.op=14∨e.op=15∨(e.op=16/\u=Ak)∨(e.op=17/\u=Ak)):
  Tri xV 349 #[pv p,pv q,e.v,uI v,uI w] V (XR V0 d p F c (CV (AC e.op v w) (Dr (decide (u=Ak)) e.op s))):=by
 obtain⟨gs,ns,ls,nd,U,L⟩:=X.M.ex;obtain⟨G,C⟩:∃G,G=CV (AC e.op v w) (Dr (decide (u=Ak)) e.op s):=⟨_,rfl⟩;rw[<-C];obtain⟨k1,k2,k3,k4⟩:=Da (I.sub L.sub) B;have J:=xw B;have hcm:s.cm+1<=16000000:=by have h1:=X.w;have h2:=X.tk;have h3:=X.S.fuel;grind[BW]
 refine Tri.mono (x349 (R:=XR V0 d p F c G) ?_) λ_ _ h=>h;refine⟨k1,by decide,k3,_,_,_,_,k4,Tri.mono (integersX X (hv.kids a J) (I.kids a J) K) ?_⟩;rintro _ V1 ⟨rfl,P⟩;have D:=X.M.grow P;obtain⟨gs1,ns1,ls1,H5,t,L1⟩:=D.ex;have fin:∀{s':St}{V2:Mem},XM V0 d p F V2 s' c 0->s'=Dr (decide (u=Ak)) e.op s->
   Br (e.op=14) (TT 356 #[uB (decide (v=w))] V2 λz o=>∃g,z=rV (uI g)/\XR V0 d p F c G (rV (uI g)) o)
   (Br (e.op=15) (TT 356 #[uB (!(decide (v=w)))] V2 λz o=>∃g,z=rV (uI g)/\XR V0 d p F c G (rV (uI g)) o)
   (Br (e.op=16) (TT 356 #[uB (decide (v<w))] V2 λz o=>∃g,z=rV (uI g)/\XR V0 d p F c G (rV (uI g)) o)
   (TT 356 #[uB (decide (v<=w))] V2 λz o=>∃g,z=rV (uI g)/\XR V0 d p F c G (rV (uI g)) o))):=λ{s' V2} M2 O=>by
  have Q:∀{x:Bool},AC e.op v w=.ok (De x)->Tri xV 356 #[.bool x] V2 λz o=>∃g,z=Id g/\XR V0 d p F c G (Id g) o:=λhx=>c356.call ⟨_,rfl,XR.ok (s:=s') (by rw[C,hx,O];rfl) M2⟩;refine⟨λh=>Q ?_,λN=>⟨λh=>Q ?_,λZ=>⟨λh=>Q ?_,λY=>Q ?_⟩⟩⟩;.rw[show e.op=14 from h];rfl
  .rw[show e.op=15 from h];rfl
  .rw[show e.op=16 from h];rfl
  .have N:¬e.op=14:=N;have Z:¬e.op=15:=Z;have Y:¬e.op=16:=Y;rw[show e.op=17 by omega];rfl
 refine⟨_,rfl,λA=>?_,λA=>?_⟩
 .have A:u=Ak:=of_decide_eq_true A;refine⟨nn,nn,AJ,_,Aj t 14 1 (by simp[AH]),⟨by omega,by omega⟩,nn,nn,AJ,Am.at2 (off:=14) t (by simp[AH]) ?_⟩;refine fin (s':={s with cm:=s.cm+1}) (MA.set (row':=AH d F s.tk c 0 ((s.cm+1:Nat):Int) (AZ s.lg)) EB D.p0 t L1 rfl rfl rfl rfl) ?_;grind[Dr,inr]
 grind[Ak,Dr]
end
section
variable{x y:St->Rx Int}{s s1 s2:St}{acc:XZ}{k:Int}
theorem sq1_ok(h:CW [x] [] s=.ok acc s1):∃v,x s=.ok v s1/\acc=[v]:=by
 have h:(x s).bind (λv st=>.ok [v] st)=.ok acc s1:=h;cases e:x s with
 |ok v t=>rw[e]at h;cases h;simp_all
 |bad c t=>rw[e]at h;cases h
theorem sq1_bad(h:CW [x] [] s=.bad k s1):x s=.bad k s1:=by
 have h:(x s).bind (λv st=>.ok [v] st)=.bad k s1:=h;cases e:x s with
 |ok v t=>rw[e]at h;cases h
 |bad c t=>rw[e]at h;cases h;rfl
theorem sq2_ok(h:CW [x,y] [] s=.ok acc s2):∃v w s1,x s=.ok v s1/\y s1=.ok w s2/\acc=[v,w]:=by
 have h:(x s).bind (λv st=>(y st).bind λw st=>.ok [v,w] st)=.ok acc s2:=h;cases e:x s with
 |ok v t=>
  rw[e]at h;have h:(y t).bind (λw st=>.ok [v,w] st)=.ok acc s2:=h;cases g:y t with
  |ok w u=>rw[g]at h;cases h;grind
  |bad c u=>rw[g]at h;cases h
 |bad c t=>rw[e]at h;cases h
theorem sq2_bad(h:CW [x,y] [] s=.bad k s2){g:Int->Int->St->Rx Int}:((x s).bind λv st=>(y st).bind λw st=>g v w st)=.bad k s2:=by
 have h:(x s).bind (λv st=>(y st).bind λw st=>.ok [v,w] st)=.bad k s2:=h;cases e:x s with
 |ok v t=>
  rw[e]at h;have h:(y t).bind (λw st=>.ok [v,w] st)=.bad k s2:=h;cases z:y t with
  |ok w u=>rw[z]at h;cases h
  |bad c u=>
   rw[z]at h;cases h;show((y t).bind λw st=>g v w st)=_;rw[z];rfl
 |bad c t=>rw[e]at h;cases h;rfl
end
section
variable{V0 W V V1:Mem}{d:Ds}{p F c q:Nat}{s:St}{pr:Pr}{vals:XZ}
theorem XR.narrow{c:Int}{r:Rx Int}{e:Ending}(g:V0.sub W)(h:XR W d p F c r e V):XR V0 d p F c r e V:=by
 cases r with
 |ok v s=>exact⟨h.1,h.2.narrow g⟩
 |bad k s=>exact⟨h.1,h.2.1,h.2.2.narrow g⟩
theorem XR.any{c:Int}{f:FuncId}{args:XQ}{r:Rx Int}{K:Int->Mem->Prop}(H:Tri xV f args V (XR V0 d p F c r))(h:∀v g s V',XM V0 d p F V' s c g->(g=0/\r=.ok v s∨g≠0/\v=0/\r=.bad g s)->K v V'):
  Tri xV f args V λe V'=>∃v,e=Id v/\K v V':=
 XR.call H (λv s V' e M=>h v 0 s V' M (.inl ⟨rfl,e⟩)) λk s V' e t M=>h 0 k s V' M (.inr ⟨t,rfl,e⟩)
theorem lastW{c:Int}{f:FuncId}{args:XQ}{G r:Rx Int}(g:V0.sub W)(t:G=r)(H:Tri xV f args V (XR W d p F c r)):Tri xV f args V λe V'=>∃v,e=Id v/\XR V0 d p F c G (Id v) V':=
 Tri.mono (XR.last t H) λ_ _ ⟨v,u,h⟩=>⟨v,u,h.narrow g⟩
theorem XM.fault{c:Int}{t:Int}(M:XM V0 d p F V s c t):V.rowp (sa p) ((13:Int).toNat*1) 1=some [uI t]:=by
 obtain⟨gs,ns,ls,nd,g,L⟩:=M.ex;exact Aj g 13 1 (by simp[AH])
variable(d p F)in
def XCallC(n:Nat):Prop:=∀(V0 V:Mem)(s:St)(c i:Nat)(pr:Pr)(args:XZ)(l:Sl),ES V0 d F->d.procs[i]?=some pr->An d s.mm->AE d s.mm pr.params args=true->Ae V0 l 1 (args.map Aw)->XM V0 d p F V s c 0->s.tk<=F->F<n+s.tk->BW 0 s->
 Tri xV 161 #[pv p,uI (i:Int),l.v] V (XR V0 d p F c (Ck d (AU d F n) c i args s))
variable(d p F)in
def XExprC(n:Nat):Prop:=∀(e:E)(t:KB)(V0 V:Mem)(s:St)(c q:Nat)(pr:Pr)(vals:XZ),Yx V0 d p F c q pr vals n (Az e) V s->VE e->E.Ok V0 e->Ao d (AA d pr) e=(t,0)->
 Tri xV 322 #[pv p,pv q,e.v] V (XR V0 d p F c (Dt d (Ck d (AU d F n) c) pr vals e s))
theorem lazyX{n:Nat}{e:E}(X:Yx V0 d p F c q pr vals n (Az e) V s)(U:E.Ok V0 e){f:E->St->Rx Int}{G:Rx Int}(o:e.op=19∨e.op=20∨e.op=21){C:Cf}{b:Bool}(u:G=C7 d C pr vals b e.op e.n e.s (e.k.map f) s)
  {a a1:E} (z:e.k[0]?=some a) (h1:e.k[1]?=some a1) (h2:e.op=21->∃a2,e.k[2]?=some a2)
  (kid:∀{i:Nat}{y:E}{V1:Mem}{s1:St},e.k[i]?=some y->(i=0/\V1=V/\s1=s∨i≠0/\∃v,f a s=.ok v s1/\XM V0 d p F V1 s1 c 0)->Tri xV 322 #[pv p,pv q,.agg #[uI y.op,uI y.n,uS y.s,.slice y.l.p y.l.n y.l.c]] V1 (XR V0 d p F c (f y s1))):
  Tri xV 344 #[pv p,pv q,e.v] V (XR V0 d p F c G):=by
 obtain⟨gs,ns,ls,nd,hat,L⟩:=X.M.ex;obtain⟨k1,k2,k3,k4⟩:=Da (U.sub L.sub) z;have K:∀{i:Nat}{a:E},e.k[i]?=some a->BC (e.k.map f) i=f a:=λh=>Kl h;refine Tri.mono (x344 (R:=XR V0 d p F c G) ?_) λ_ _ h=>h;have D:∀{v:Int}{s1:St},f a s=.ok v s1->G=if e.op=19 then(if v=0 then .ok 0 s1 else f a1 s1)else if e.op=20 then(if v=0 then f a1 s1 else .ok 1 s1)else if v=0 then BC (e.k.map f) 2 s1 else f a1 s1:=λ{v s1} hv=>by
  rcases o with h|h|h;.rw[u,cX19 h,K z,hv,if_pos h];show(if v=0 then _ else BC (e.k.map f) 1 s1)=_;rw[K h1]
  .rw[u,cX20 h,K z,hv,if_neg (by omega),if_pos h];show(if v=0 then BC (e.k.map f) 1 s1 else _)=_;rw[K h1]
  .rw[u,cX21 h,K z,hv,if_neg (by omega),if_neg (by omega)];show(if v=0 then BC (e.k.map f) 2 s1 else BC (e.k.map f) 1 s1)=_;rw[K h1]
 have hGb:∀{k:Int}{s1:St},f a s=.bad k s1->G=.bad k s1:=λ{k s1} hv=>by
  rcases o with h|h|h;.rw[u,cX19 h,K z,hv];rfl
  .rw[u,cX20 h,K z,hv];rfl
  .rw[u,cX21 h,K z,hv];rfl
 refine⟨k1,by decide,k3,_,_,_,_,k4,XR.any (kid z (.inl ⟨rfl,rfl,rfl⟩)) λv kf s1 V1 N hc=>⟨nn,nn,_,N.fault,λZ=>?_,λZ=>?_⟩⟩;rotate_left
 .have Z:¬kf=0:=Z;rcases hc with⟨h,-⟩|⟨-,rfl,hb⟩;.omega
  grind[XR.bad]
 have Z:kf=0:=Z;rcases hc with⟨-,hv⟩|⟨h,-⟩;rotate_left;.omega
 subst Z;have J:=D hv;have Y:=U.sub N.sub;obtain⟨l1,l2,l3,l4⟩:=Da Y h1;have g:∀{G':Rx Int},G'=f a1 s1->(¬e.l.p=none/\(0:Int)<=(1:Int)/\1<(e.l.n:Int)/\∃Q P O A,V1.rowp e.l.p ((1:Int).toNat*4) 4=some [uI Q,uI P,uS O,uL A]/\
   TT 322 #[uP (sa p),uP (sa q),uA #[uI Q,uI P,uS O,uL A]] V1 λe' V2=>∃I,e'=rV (uI I)/\XR V0 d p F c G' (rV (uI I)) V2):=λT=>
  ⟨l1,by decide,l3,_,_,_,_,l4,XR.last T (kid h1 (.inr ⟨by decide,v,hv,N⟩))⟩
 rcases o with h|h|h
 .rw[if_pos h]at J;refine Ag (by omega) (As h ⟨λt=>?_,λt=>Ag (by omega) (g ?_)⟩);.rw[if_pos (show v=0 from t)]at J;exact XR.ok J N
  simp_all
 .rw[if_neg (by omega),if_pos h]at J;refine Ag (by omega) (Ag (by omega) (As h ⟨λt=>g ?_,λt=>?_⟩));.simp_all
  .rw[if_neg (show ¬v=0 from t)]at J;exact XR.ok J N
 .rw[if_neg (by omega),if_neg (by omega)]at J;obtain⟨a2,B⟩:=h2 h;obtain⟨m1,m2,m3,m4⟩:=Da Y B;refine As h ⟨λt=>⟨m1,by decide,m3,_,_,_,_,m4,XR.last ?_ (kid B (.inr ⟨by decide,v,hv,N⟩))⟩,λt=>Ag (by omega) (Ag (by omega) (g ?_))⟩;.simp_all
  simp_all
end
section
variable{V0 W V V1:Mem}{d:Ds}{p F c q:Nat}{s:St}{pr:Pr}{vals:XZ}
theorem failW{c:Int}(g:V0.sub W)(M:XM W d p F V s c 0){k:Int}(t:k≠0){G:Rx Int}(u:G=.bad k s):Tri xV 211 #[pv p,uI k] V λe V'=>∃v,e=Id v/\XR V0 d p F c G (Id v) V':=
 Tri.mono (failX M t u) λ_ _ ⟨v,z,h⟩=>⟨v,z,h.narrow g⟩
theorem exprX0{n:Nat}(hR:XCallC d p F n):∀(e:E)(V0 V:Mem)(s:St)(c q:Nat)(pr:Pr)(vals:XZ),Yx V0 d p F c q pr vals n (Az e) V s->VE e->E.Ok V0 e->((∃t,Ao d (AA d pr) e=(t,0))∨(e.op=7/\∃pr' i,CallK d (AA d pr) e pr' i))->
  Tri xV 322 #[pv p,pv q,e.v] V (XR V0 d p F c (Dt d (Ck d (AU d F n) c) pr vals e s)):=by
 intro e;induction e using E.ind with
 |h e ih=>
 intro V0 V s c q pr vals X hv he ht;have L0:=X.M.sub;obtain⟨f,hf⟩:∃f,f=Dt d (Ck d (AU d F n) c) pr vals:=⟨_,rfl⟩;obtain⟨G,Q⟩:∃G:Rx Int,G=C7 d (Ck d (AU d F n) c) pr vals (intB d (AA d pr) e.k) e.op e.n e.s (e.k.map f) s:=⟨_,rfl⟩;rw[Ia,<-hf,<-Q];have hcs:=Hp X.S.procs (FH (F:=F) X.S.procs n) c;have hsz:=szE_eq e;have K:∀{i:Nat}{a:E},e.k[i]?=some a->BC (e.k.map f) i=f a:=λh=>Kl h;have kid:∀{a:E}{u:KB}{W V1:Mem}{s1:St},a∈e.k->Ao d (AA d pr) a=(u,0)->V0.sub W->Yx W d p F c q pr vals n (Az a) V1 s1->Tri xV 322 #[pv p,pv q,.agg #[uI a.op,uI a.n,uS a.s,.slice a.l.p a.l.n a.l.c]] V1 (XR W d p F c (f a s1)):=λ{a u W V1 s1} hm P I X1=>by
  rw[hf];exact ih a hm W V1 s1 c q pr vals X1 (hv.kids a hm) ((he.kids a hm).sub I) (.inl ⟨u,P⟩)
 have snd:∀{a:E}{u:KB}{s1:St}{m:Nat},a∈e.k->Ao d (AA d pr) a=(u,0)->An d s1.mm->Gr F m s s1->AO d F (Az a) s1 (f a s1) λv s'=>AX d s'.mm u v:=λhm P G1 D=>by
  rw[hf];exact If X.S.procs hcs X.po _ _ _ (hv.kids _ hm) P G1 (BS (λh=>D.right h) X.hv)
 have hkt:∀a∈e.k,Ao d (AA d pr) a=((Ao d (AA d pr) a).1,0):=λa P=>by
  rcases ht with⟨t,ht⟩|⟨-,pr',i,B⟩;.exact Prod.ext rfl ((J6 ht).1 a P)
  .obtain⟨j,hj⟩:=uJ.1 P;have T:=(yg.1 hj).1;rw[B.len]at T;obtain⟨u,hu,-⟩:=B.fit j a _ hj (yf T);rw[hu]
 have Y:(∃t,Dy d (AA d pr) e t/\e.op≠7)∨(e.op=7/\∃pr' i,CallK d (AA d pr) e pr' i):=by
  rcases ht with⟨t,ht⟩|h
  .by_cases h7:e.op=7
   .right;cases kindX (sc:=AA d pr) rfl hv ht with
    |call h B hr=>grind
    |int h hn=>omega
    |bool h hn=>omega
    |nil h hn=>omega
    |var h hl hne=>omega
    |fld h=>omega
    |new h=>omega
    |neg h=>omega
    |not h=>omega
    |log h=>omega
    |and h=>omega
    |or h=>omega
    |cond h=>omega
    |eq h=>omega
    |cmp h=>omega
    |ari h=>omega
   .exact .inl ⟨t,kindX (sc:=AA d pr) rfl hv ht,h7⟩
  .exact .inr h
 have hall:∀j:Nat,((e.k.take j).map Az).sum<=(e.k.map Az).sum:=λj=>by
  have:=congrArg (λl=>(l.map Az).sum) (List.take_append_drop j e.k);grind
 refine Tri.mono (x322 (R:=XR V0 d p F c G) ?_) λ_ _ h=>h;refine⟨nn,nn,_,X.M.fault,λ_=>?_,λh=>absurd rfl h⟩;have lz:(e.op=19∨e.op=20∨e.op=21)->∀{a a1:E},e.k[0]?=some a->e.k[1]?=some a1->(e.op=21->∃a2,e.k[2]?=some a2)->(∀{i:Nat}{y:E},i≠0->e.k[i]?=some y->Az a+Az y<=Az e)->
   Tri xV 344 #[pv p,pv q,e.v] V λe' V'=>∃v,e'=Id v/\XR V0 d p F c G (Id v) V':=λhop {a a1} A h1 h2 hle=>by
  refine XR.last rfl (lazyX X he hop Q A h1 h2 λ{i y V1 s1} hy B=>?_);have hm:=xw hy;rcases B with⟨rfl,rfl,rfl⟩|⟨hi,v,O,M1⟩
  .rw[A]at hy;cases hy;have:Az a<=Az e:=by grind
   exact kid hm (hkt _ hm) (Mem.sub.refl _) (X.le this)
  .have P:=xw A;obtain⟨G1,D,-⟩:=(snd P (hkt _ P) X.G (Gr.refl s)).got O;exact kid hm (hkt _ hm) (Mem.sub.refl _) ((X.le (k:=Az a+Az y) (hle hi hy)).next D G1 M1)
 by_cases hE:e.op=1∨e.op=2∨e.op=3∨e.op=4∨e.op=6∨e.op=19∨e.op=20∨e.op=21
 .rcases Y with⟨t,Y,h7⟩|⟨h7,-⟩;rotate_left;.omega
  cases Y with
  |int h hn=>exact As h (XR.ok (Q.trans (Ib (.inl h))) X.M)
  |bool h hn=>exact Ag (by omega) (As h (XR.ok (Q.trans (Ib (.inr h))) X.M))
  |nil h hn=>exact Ag (by omega) (Ag (by omega) (As h (XR.ok (Q.trans (LZ h)) X.M)))
  |var h hl hne=>exact Ag (by omega) (Ag (by omega) (Ag (by omega) (As h (XR.last (Q.trans (L8 h)) (nameX (X.le (k:=0+1) (by omega)) hl hne)))))
  |new h hn=>exact Ag (by omega) (Ag (by omega) (Ag (by omega) (Ag (by omega) (As h (XR.last (Q.trans (L9 h)) (allocX (X.le (k:=0+1) (by omega)) hn))))))
  |@and a b h o P hb=>
   refine Ag (by omega) (Ag (by omega) (Ag (by omega) (Ag (by omega) (Ag (by omega) (As h (lz (.inl h) (a:=a) (a1:=b) (by rw[o];rfl) (by rw[o];rfl) (λh=>by omega) λ{i y} hi hy=>?_))))));grind
  |@or a b h o P hb=>
   refine Ag (by omega) (Ag (by omega) (Ag (by omega) (Ag (by omega) (Ag (by omega) (Ag (by omega) (As h (lz (.inr (.inl h)) (a:=a) (a1:=b) (by rw[o];rfl) (by rw[o];rfl) (λh=>by omega) λ{i y} hi hy=>?_)))))));grind
  |@cond a b c' _ u w h o P hb B hu hw htt=>
   refine Ag (by omega) (Ag (by omega) (Ag (by omega) (Ag (by omega) (Ag (by omega) (Ag (by omega) (Ag (by omega) (As h (lz (.inr (.inr h)) (a:=a) (a1:=b) (by rw[o];rfl) (by rw[o];rfl) (λ_=>⟨c',by rw[o];rfl⟩) λ{i y} hi hy=>?_))))))));grind
  |fld h=>omega
  |call h=>omega
  |neg h=>omega
  |not h=>omega
  |log h=>omega
  |eq h=>omega
  |cmp h=>omega
  |ari h=>omega
 .refine Ag (by omega) (Ag (by omega) (Ag (by omega) (Ag (by omega) (Ag (by omega) (Ag (by omega) (Ag (by omega) (Ag (by omega) ?_)))))));have hGb:∀{k:Int}{s2:St},CW (e.k.map f) [] s=.bad k s2->G=.bad k s2:=λ{k s2} hb=>by
   have one:∀{a:E},e.k=[a]->f a s=.bad k s2:=λo=>by grind[sq1_bad]
   rcases Y with⟨t,Y,h7⟩|⟨h7,-⟩;rotate_left;.rw[Q,Ic h7,hb];rfl
   cases Y with
   |@fld _ u a h o P hf'=>rw[Q,Km h,K (a:=a) (by rw[o];rfl),one o];rfl
   |call h B hr=>omega
   |@neg a h o P=>rw[Q,Kn h,K (a:=a) (by rw[o];rfl),one o];rfl
   |@not a h o P=>rw[Q,cX18 h,K (a:=a) (by rw[o];rfl),one o];rfl
   |@log a h o P=>rw[Q,cX24 h,K (a:=a) (by rw[o];rfl),one o];rfl
   |@eq a b u w h o P C hf'=>rw[Q,FG (by omega),K (i:=0) (a:=a) (by rw[o];rfl),K (i:=1) (a:=b) (by rw[o];rfl)];rw[o]at hb;exact sq2_bad hb
   |@cmp a b h o P C=>rw[Q,FG (by omega),K (i:=0) (a:=a) (by rw[o];rfl),K (i:=1) (a:=b) (by rw[o];rfl)];rw[o]at hb;exact sq2_bad hb
   |@ari a b h o P C=>rw[Q,FG (by omega),K (i:=0) (a:=a) (by rw[o];rfl),K (i:=1) (a:=b) (by rw[o];rfl)];rw[o]at hb;exact sq2_bad hb
   |int h=>omega
   |bool h=>omega
   |nil h=>omega
   |var h=>omega
   |new h=>omega
   |and h=>omega
   |or h=>omega
   |cond h=>omega
  have hlen6:e.k.length<=2000:=by
   have h1:=he.rows.n_eq;rcases Y with⟨t,Y,h7⟩|⟨h7,pr',i,B⟩;rotate_left;.rw[B.len];have:=NV X.S.procs B.at_;omega
   cases Y with
   |@fld _ u a h o P hf'=>rw[o];simp
   |call h B hr=>omega
   |@neg a h o P=>rw[o];simp
   |@not a h o P=>rw[o];simp
   |@log a h o P=>rw[o];simp
   |@eq a b u w h o P C hf'=>rw[o];simp
   |@cmp a b h o P C=>rw[o];simp
   |@ari a b h o P C=>rw[o];simp
   |int h=>omega
   |bool h=>omega
   |nil h=>omega
   |var h=>omega
   |new h=>omega
   |and h=>omega
   |or h=>omega
   |cond h=>omega
  refine loop3u (mk:=uL) (mc:=.int .i64) (b0:=⟨none,0,0⟩) (c0:=0) AT BJ e.k.length (λj sl _ V1=>∃W acc s1,V0.sub W/\Sx.Own V0 W 3 1 sl (acc.flatMap Aw)/\XM W d p F V1 s1 c 0/\acc.length=j/\An d s1.mm/\Gr F ((e.k.take j).map Az).sum s s1/\(∀(i:Nat) a v,e.k[i]?=some a->acc[i]?=some v->AX d s1.mm (Ao d (AA d pr) a).1 v)/\
   CW (e.k.map f) [] s=CW ((e.k.drop j).map f) acc s1) ⟨V0,[],s,Mem.sub.refl _,Own.nil (Mem.sub.refl _) _ _,X.M,rfl,X.G,by simpa using Gr.refl s,λi a v _ h=>by simp at h,rfl⟩ ?_
  rintro j sl z V1 J hj ⟨W,acc,s1,I,ho,M1,hacc,G1,D,U,N⟩ hJ;have heW:=(he.sub I).sub M1.sub;refine⟨λhlt=>?_,λhge=>?_⟩
  .obtain⟨a,ham,P,hdr,T,hp,hz,hrow⟩:=heW.rows.get hlt;have hu:=hkt a ham;have hsum:((e.k.take (j+1)).map Az).sum=((e.k.take j).map Az).sum+Az a:=by grind
   have X1:Yx W d p F c q pr vals n (Az a) V1 s1:=by
    have X':=X.le (k:=((e.k.take j).map Az).sum+Az a) (by grind);exact⟨X.S.sub I,X.fr.sub I,X.pm,G1,BS (λh=>D.right h) X.hv,M1,D.fu X.tk,by have:=D.tk;have:=X.n;omega,X'.w.next D⟩
   rw[hdr,List.map_cons]at N;have hseq':CW (e.k.map f) [] s=(f a s1).bind λv st=>CW ((e.k.drop (j+1)).map f) (acc++[v]) st:=N;refine⟨hp,hz,hlt,_,_,_,_,hrow,XR.any (kid ham hu I X1) λv kf s2 V2 M2 B=>λtb htb=>?_⟩;have ho2:Sx.Own V0 V2 3 1 sl (acc.flatMap Aw):=Own.moveB ho (I.trans M2.sub) λg cur _ hg=>M2.sub _ _ hg;refine app31 (s:=sl) (u:=⟨some ⟨tb,0,none⟩,1,1⟩) (xs:=acc) (ys:=[v]) rfl rfl (ho2.but.new htb (.cells #[uI v] 3 (0,0))) (Hn Av) (by simp;omega) λo3 V3 ho3=>⟨o3,rfl,?_⟩;obtain⟨W',hW',M3,ho4⟩:=M2.beside I ho ho3;refine⟨nn,nn,_,XM.fault M3,λhkf=>⟨heW.rows.succ hlt,hJ T _ _ _ ?_⟩,λhkf=>?_⟩
   .rcases B with⟨hk0,e2⟩|⟨h,-⟩;rotate_left;.omega
    subst hk0;obtain⟨G2,g2,hv2⟩:=(snd ham hu G1 D).got e2;refine⟨W',acc++[v],s2,hW',ho4,M3,by grind,G2,by rw[hsum];exact D.trans g2,λi b w hb hw=>?_,by rw[hseq',e2];rfl⟩;by_cases hi:i<acc.length
    .rw[uN hi]at hw;exact g2.val (U i b w hb hw)
    grind
   .have hkf:¬kf=0:=hkf;rcases B with⟨h,-⟩|⟨-,rfl,e2⟩;.omega
    exact(XR.bad (hGb (by rw[hseq',e2];rfl)) hkf M3).narrow hW'
  .have hdn:=(heW.rows.done hge).2;rw[wm hdn]at D;rw[uc hdn]at N;have N:CW (e.k.map f) [] s=.ok acc s1:=N;obtain⟨gs,ns,ls,nd,hat,L⟩:=M1.ex;have hd:=(X.S.sub I).ds.sub L.sub;have hoR:Ae W sl 1 (acc.map Aw):=ho.rows (λ_=>rfl) (by decide);have X1:Yx W d p F c q pr vals n 1 V1 s1:=by
    have X':=X.le (k:=(e.k.map Az).sum+1) (by omega);exact⟨X.S.sub I,X.fr.sub I,X.pm,G1,BS (λh=>D.right h) X.hv,M1,D.fu X.tk,by have:=D.tk;have:=X.n;omega,X'.w.next D⟩
   have at_:∀{i:Nat}{v:Int}{V':Mem},acc[i]?=some v->W.sub V'->¬sl.p=none/\(0:Int)<=(i:Int)/\(i:Int)<(sl.n:Int)/\V'.rowp sl.p (i*1) 1=some [uI v]:=λh hs=>Fk (hoR.sub hs) h;rcases Y with⟨t,Y,h7⟩|⟨h,pr',i,B⟩;rotate_left
   .have Z:=Q.trans (Ic h);rw[N,B.idx]at Z;have Z:G=Ck d (AU d F n) c (i:Int) acc s1:=Z;refine Ag (by omega) (As h ⟨nn,nn,_,_,_,_,_,_,_,_,Aj hat 0 8 (by simp[AH]),(c159 hd).call ⟨_,rfl,?_⟩⟩);rw[show B1 (λt:Pr=>decide (t.name=e.s)) d.procs=(i:Int)from B.idx];have hkn:=Ku X.S.procs B.at_;refine lastW I Z (hR W V1 s1 c i pr' acc sl (X.S.sub I) B.at_ G1 (C8.2 ⟨by rw[<-B.len];omega,λjj g v hg hv=>?_⟩) hoR M1 (D.fu X.tk) (by have:=D.tk;have:=X.n;omega) (X1.w.le (by omega)));have T:=(yg.1 hg).1;rw[<-B.len]at T;obtain⟨u,hu,hfit⟩:=B.fit jj _ _ (yf T) hg;have:=U jj _ v (yf T) hv;rw[hu]at this;exact(Fb X.S.valid (hkn _ (xw hg))).1 (Ey X.S.valid hfit this)
   cases Y with
   |@fld _ u a h o P hf'=>
    have A:e.k[0]?=some a:=by rw[o];rfl
    have Z:=Q;rw[Km h,K A]at Z;rw[o]at N;obtain⟨v,e1,rfl⟩:=sq1_ok N;rw[e1]at Z;have Z:G=fldX d v e.s s1:=Z;have O:=U 0 a v A rfl;rw[P]at O;obtain⟨a1,a2,a3,a4⟩:=at_ (i:=0) (v:=v) rfl L.sub;refine As h ⟨a1,by decide,a3,_,a4,λhz=>failW I M1 (by decide) ?_,λhz=>?_⟩;.grind[fldX]
    have hz:¬v=0:=hz;obtain⟨k,i,jj,tt,g,fs,w,rfl,e2,e3,e4,e5,e6,e7,e8,e9,-⟩:=Ie X1.G hf' O hz;refine⟨a1,by decide,a3,_,a4,(c345 X1.S M1 e2 e3).call ⟨_,rfl,a1,by decide,a3,_,a4,?_⟩⟩;rw[e6];refine Tri.mono (c346 M1 (X1.fit (m:=0))) ?_;rintro _ V3 ⟨rfl,M3⟩;obtain⟨gs3,ns3,ls3,nd3,sl3,hat3,L3,-,hI,n1,n2,n3,n4,m1,m2,m3,m4⟩:=nodeX M3 (k:=k) (i:=i) e2 e8;obtain⟨b1,b2,b3,b4⟩:=at_ (i:=0) (v:=(k:Int)+1) rfl L3.sub;refine⟨rfl,nn,nn,AJ,ns3,Aj hat3 9 1 (by simp[AH]),b1,by decide,b3,_,b4,?_⟩;dsimp only;rw[show((k:Int)+1-1)=(k:Int)by omega];refine⟨hI,n1,n2,n3,Ai n1,_,_,n4,m1,m2,m3,_,m4,(XR.ok ?_ M3).narrow I⟩;rw[Z];unfold fldX;rw[if_neg hz,show((k:Int)+1-1).toNat=k by omega,e2];grind[wH]
   |call h B hr=>omega
   |@neg a h o P=>
    have A:e.k[0]?=some a:=by rw[o];rfl
    have Z:=Q;rw[Kn h,K A]at Z;rw[o]at N;obtain⟨v,e1,rfl⟩:=sq1_ok N;rw[e1]at Z;have Z:G=CV (AR (-v)) s1:=Z;have O:=U 0 a v A rfl;rw[P]at O;have:=Cw.1 O;rw[<-Int.zero_sub]at Z;obtain⟨a1,a2,a3,a4⟩:=at_ (i:=0) (v:=v) rfl L.sub;exact Ag (by omega) (Ag (by omega) (As h ⟨a1,by decide,a3,_,a4,⟨by omega,by omega⟩,lastW I Z (c347 M1)⟩))
   |@log a h o P=>
    have A:e.k[0]?=some a:=by rw[o];rfl
    have Z:=Q;rw[cX24 h,K A]at Z;rw[o]at N;obtain⟨v,e1,rfl⟩:=sq1_ok N;rw[e1]at Z;have Z:G=.ok (Bv v) s1:=Z;have O:=U 0 a v A rfl;rw[P]at O;have:=Cw.1 O;obtain⟨a1,a2,a3,a4⟩:=at_ (i:=0) (v:=v) rfl L.sub;exact Ag (by omega) (Ag (by omega) (Ag (by omega) (As h ⟨a1,by decide,a3,_,a4,(c348 (by omega)).call ⟨_,rfl,(XR.ok Z M1).narrow I⟩⟩)))
   |@not a h o P=>
    have A:e.k[0]?=some a:=by rw[o];rfl
    have Z:=Q;rw[cX18 h,K A]at Z;rw[o]at N;obtain⟨v,e1,rfl⟩:=sq1_ok N;rw[e1]at Z;have Z:G=.ok (1-v) s1:=Z;have O:=U 0 a v A rfl;rw[P]at O;have:=C6.1 O;obtain⟨a1,a2,a3,a4⟩:=at_ (i:=0) (v:=v) rfl L.sub;exact Ag (by omega) (Ag (by omega) (Ag (by omega) (Ag (by omega) (As h ⟨a1,by decide,a3,_,a4,⟨by omega,by omega⟩,(XR.ok Z M1).narrow I⟩))))
   |@eq a b u w h o P C hf'=>
    have A:e.k[0]?=some a:=by rw[o];rfl
    have h1:e.k[1]?=some b:=by rw[o];rfl
    have Z:=Q;rw[FG (by omega),K A,K h1]at Z;have hib:intB d (AA d pr) e.k=decide (u=Ak):=by rw[o];show decide ((Ao d (AA d pr) a).1=Ak)=_;rw[P]
    rw[hib]at Z;rw[o]at N;obtain⟨v,y,s',e1,e2,rfl⟩:=sq2_ok N;rw[e1]at Z;have Z:G=(f b s').bind λw st=>CV (AC e.op v w) (Dr (decide (u=Ak)) e.op st):=Z;rw[e2]at Z;obtain⟨a1,a2,a3,a4⟩:=at_ (i:=0) (v:=v) rfl L.sub;obtain⟨b1,b2,b3,b4⟩:=at_ (i:=1) (v:=y) rfl L.sub;have fin:=lastW I Z (compareX (v:=v) (w:=y) (X1.le (k:=0+1) (by omega)) hv (he.sub I) A P (by omega));rcases h with h|h;.exact Ag (by omega) (Ag (by omega) (Ag (by omega) (Ag (by omega) (Ag (by omega) (As h ⟨a1,by decide,a3,_,a4,b1,by decide,b3,_,b4,fin⟩)))))
    .exact Ag (by omega) (Ag (by omega) (Ag (by omega) (Ag (by omega) (Ag (by omega) (Ag (by omega) (As h ⟨a1,by decide,a3,_,a4,b1,by decide,b3,_,b4,fin⟩))))))
   |@cmp a b h o P C=>
    have A:e.k[0]?=some a:=by rw[o];rfl
    have h1:e.k[1]?=some b:=by rw[o];rfl
    have Z:=Q;rw[FG (by omega),K A,K h1]at Z;have hib:intB d (AA d pr) e.k=decide (Ak=Ak):=by rw[o];show decide ((Ao d (AA d pr) a).1=Ak)=_;rw[P]
    rw[hib]at Z;rw[o]at N;obtain⟨v,y,s',e1,e2,rfl⟩:=sq2_ok N;rw[e1]at Z;have Z:G=(f b s').bind λw st=>CV (AC e.op v w) (Dr (decide (Ak=Ak)) e.op st):=Z;rw[e2]at Z;obtain⟨a1,a2,a3,a4⟩:=at_ (i:=0) (v:=v) rfl L.sub;obtain⟨b1,b2,b3,b4⟩:=at_ (i:=1) (v:=y) rfl L.sub;have fin:=lastW I Z (compareX (v:=v) (w:=y) (X1.le (k:=0+1) (by omega)) hv (he.sub I) A P (by grind));rcases h with h|h;.exact Ag (by omega) (Ag (by omega) (Ag (by omega) (Ag (by omega) (Ag (by omega) (Ag (by omega) (Ag (by omega) (As h ⟨a1,by decide,a3,_,a4,b1,by decide,b3,_,b4,fin⟩)))))))
    .exact Ag (by omega) (Ag (by omega) (Ag (by omega) (Ag (by omega) (Ag (by omega) (Ag (by omega) (Ag (by omega) (Ag (by omega) (As h ⟨a1,by decide,a3,_,a4,b1,by decide,b3,_,b4,fin⟩))))))))
   |@ari a b h o P C=>
    have A:e.k[0]?=some a:=by rw[o];rfl
    have h1:e.k[1]?=some b:=by rw[o];rfl
    have Z:=Q;rw[FG (by omega),K A,K h1]at Z;rw[o]at N;obtain⟨v,y,s',e1,e2,rfl⟩:=sq2_ok N;rw[e1]at Z;have Z:G=(f b s').bind λw st=>CV (AC e.op v w) (Dr (intB d (AA d pr) e.k) e.op st):=Z;rw[e2]at Z;have Z:G=CV (AC e.op v y) (Dr (intB d (AA d pr) e.k) e.op s1):=Z;unfold Dr at Z;rw[if_neg (by omega)]at Z;have O:=U 0 a v A rfl;have hv2:=U 1 b y h1 rfl;rw[P]at O;rw[C]at hv2;obtain⟨a1,a2,a3,a4⟩:=at_ (i:=0) (v:=v) rfl L.sub;obtain⟨b1,b2,b3,b4⟩:=at_ (i:=1) (v:=y) rfl L.sub;exact Ag (by omega) (Ag (by omega) (Ag (by omega) (Ag (by omega) (Ag (by omega) (Ag (by omega) (Ag (by omega) (Ag (by omega) (Ag (by omega) ⟨a1,by decide,a3,_,a4,b1,by decide,b3,_,b4,lastW I Z (c350 M1 h (Cw.1 O) (Cw.1 hv2))⟩))))))))
   |int h=>omega
   |bool h=>omega
   |nil h=>omega
   |var h=>omega
   |new h=>omega
   |and h=>omega
   |or h=>omega
   |cond h=>omega
theorem exprX{n:Nat}(g:XCallC d p F n):XExprC d p F n:=λe t V0 V s c q pr vals X hv u z=>exprX0 g e V0 V s c q pr vals X hv u (.inl ⟨t,z⟩)
end
section
variable{W V0 V V1 V':Mem}{d:Ds}{p F c q:Nat}{s:St}{pr:Pr}{vals:XZ}
structure DH (W V0:Mem)(q:Nat)(pr:Pr)(vals:XZ)(r:Option Int):Prop where
 sub:W.sub V0
 q0:W q=none
 ex:∃a b:Sl,V0 q=some (.cells (CZ pr a b r).toArray 294 (0,0))/\Ae W a 2 (pr.vars.map Fld.row)/\Sx.Own W V0 3 1 b (vals.flatMap Aw)
theorem DH.gv(h:DH W V0 q pr vals none):Gv V0 q pr vals:=by
 obtain⟨a,b,h1,h2,h3⟩:=h.ex;exact⟨a,b,h1,h2.sub h.sub,h3.rows (λ_=>rfl) (by decide)⟩
theorem Mi{b:Sl}{vs:XV}(own:Sx.Own W V0 3 1 b vs)(q0:W q=none){x:XQ}(z:V0 q=some (.cells x 294 (0,0)))(o:Obj):Sx.Own W (V0.set q o) 3 1 b vs:=
 Own.moveB own (own.sub.set q0 _) λg t _ u=>by
  rw[Mem.set_ne];exact u;grind
theorem frStoreX{ty:Nat}{row:Sl->Sl->Sl->XV}{b:Sl}(own:Sx.Own W V0 3 1 b (vals.flatMap Aw))(M:MA ty V0 p row V s){i:Nat}(hi:i<vals.length){v:Int}{Q:Mem->Prop}
  (o:∀t V',Sx.Own W t 3 1 b ((vals.set i v).flatMap Aw)->MA ty t p row V' s->(∀x,¬A4 b x->t x=V0 x)->Q V'):Am (Aa b.p (i*1)) 0 [uI v] V Q:=by
 rw[Nat.mul_one];rcases own.cases0 with⟨h1,h2,h3⟩|⟨J,g,cur,h1,h2,h3,h4,N,h6,h7⟩
 .rw[C9]at h3;have:vals=[]:=by simpa using h3
  rw[this]at hi;simp at hi
 have Z:b.n*1<=b.c*1:=Nat.mul_le_mul_right _ h4;have z:=own.len;rw[C9,vp]at z;have u:V0 g≠none:=by rw[h3];simp
 rw[h1];have e:(cur.toList.take i++[vP .i64 v]++cur.toList.drop (i+1))=cur.toList.set i (uI v):=H9 _ _ _ (by simp;omega);refine Am.at2 (off:=i) (M.sub _ _ h3) (by simp;omega) (o (V0.set g _) _ ⟨own.sub.set h2 _,?_,.inr ⟨g,_,h1,h2,Mem.set_same _ _ _,h4,N,?_,?_⟩⟩ (M.poke u _) λx Y=>?_);.rw[C9,vp,List.length_set];exact z
 .simp_all
 .rw[show i+[vP .i64 v].length=i+1 from rfl,e];show(cur.toList.set i (uI v)).take (b.n*1)=_;rw[List.take_set,h7,C9,C9,List.map_set]
 .rw[Mem.set_ne];rintro rfl;exact Y ⟨J,h1⟩
def PY(W:Mem)(d:Ds)(p F:Nat)(c:Int)(q:Nat)(pr:Pr)(r:Rx Rt):RP:=λe V'=>e=rT #[]/\match r with
 |.ok t s=>∃g,DH W g q pr t.1 t.2/\XM g d p F V' s c 0
 |.bad k s=>k≠0/\∃g vals u,DH W g q pr vals u/\XM g d p F V' s c k
theorem PY.ok{c:Int}{G:Rx Rt}{rt:Rt}(g:G=.ok rt s)(t:DH W V0 q pr rt.1 rt.2)(M:XM V0 d p F V s c 0):PY W d p F c q pr G (rT #[]) V:=by
 rw[g];exact⟨rfl,V0,t,M⟩
theorem PY.bad{c:Int}{G:Rx Rt}{k:Int}(t:G=.bad k s)(u:k≠0){g:Option Int}(z:DH W V0 q pr vals g)(M:XM V0 d p F V s c k):PY W d p F c q pr G (rT #[]) V:=by
 rw[t];exact⟨rfl,u,V0,vals,g,z,M⟩
theorem PY.any{c:Int}{f:FuncId}{args:XQ}{r:Rx Rt}{K:Mem->Prop}(H:Tri xV f args V (PY W d p F c q pr r))(h:∀t g z u s V',DH W t q pr g z->XM t d p F V' s c u->(u=0/\r=.ok (g,z) s∨u≠0/\r=.bad u s)->K V'):
  Tri xV f args V λe V'=>e=rT #[]/\K V':=
 Tri.mono H λe V' k=>by
  cases r with
  |ok o s=>obtain⟨h1,t,h2,h3⟩:=k;grind
  |bad u s=>obtain⟨h1,J,t,g,z,h2,h3⟩:=k;grind
theorem PY.last{c:Int}{f:FuncId}{args:XQ}{G r:Rx Rt}(u:G=r)(H:Tri xV f args V (PY W d p F c q pr r)):Tri xV f args V λe V'=>e=rT #[]/\PY W d p F c q pr G (rT #[]) V':=by
 subst u;refine PY.any H λz g N Z s V' t M o=>?_;rcases o with⟨rfl,e⟩|⟨J,e⟩;.exact PY.ok e t M
 .exact PY.bad e J t M
structure C0 (W V0:Mem)(d:Ds)(p F c q:Nat)(pr:Pr)(vals:XZ)(n m:Nat)(V:Mem)(s:St):Prop where
 S:ES W d F
 fr:DH W V0 q pr vals none
 pm:pr∈d.procs
 G:An d s.mm
 hv:AE d s.mm pr.vars vals=true
 M:XM V0 d p F V s c 0
 tk:s.tk<=F
 n:F<n+s.tk
 w:BW m s
theorem C0.po{n m:Nat}(X:C0 W V0 d p F c q pr vals n m V s):DG d pr:=X.S.procs pr X.pm
theorem C0.cx{n m:Nat}(X:C0 W V0 d p F c q pr vals n m V s):Yx V0 d p F c q pr vals n m V s:=⟨X.S.sub X.fr.sub,X.fr.gv,X.pm,X.G,X.hv,X.M,X.tk,X.n,X.w⟩
theorem C0.next{n m k:Nat}{u:Mem}{t:XZ}{s':St}(X:C0 W V0 d p F c q pr vals n (m+k) V s)(g:Gr F m s s')(G:An d s'.mm)(z:DH W u q pr t none)(hv:AE d s'.mm pr.vars t=true)(M:XM u d p F V' s' c 0):C0 W u d p F c q pr t n k V' s':=
 ⟨X.S,z,X.pm,G,hv,M,g.fu X.tk,by have:=g.tk;have:=X.n;omega,X.w.next g⟩
theorem C0.le{n m k:Nat}(X:C0 W V0 d p F c q pr vals n m V s)(h:k<=m):C0 W V0 d p F c q pr vals n k V s:=⟨X.S,X.fr,X.pm,X.G,X.hv,X.M,X.tk,X.n,X.w.le h⟩
theorem C0.tick{n:Nat}(X:C0 W V0 d p F c q pr vals (n+1) 0 V s)(h:s.tk<F)(M:XM V0 d p F V' {s with tk:=s.tk+1} c 0):C0 W V0 d p F c q pr vals n 4000 V' {s with tk:=s.tk+1}:=
 ⟨X.S,X.fr,X.pm,⟨X.G.valid,X.G.chk,X.G.mem⟩,X.hv,M,h,by have:=X.n;grind,by have:=X.w;grind[BW]⟩
variable(d p F)in
def Ja(n:Nat):Prop:=∀(l:XK)(W V0 V:Mem)(s:St)(c q:Nat)(pr:Pr)(vals:XZ)(sl:Sl),C0 W V0 d p F c q pr vals n 0 V s->(∀x∈l,DO d pr x)->(∀x∈l,S.Ok W x)->Ae W sl 5 (l.map S.row)->
 Tri xV 212 #[pv p,pv q,sl.v] V (PY W d p F c q pr (AU d F n c pr l vals s))
variable(d p F)in
def XLoopC(n:Nat):Prop:=∀(x:S)(W V0 V:Mem)(s:St)(c q:Nat)(pr:Pr)(vals:XZ),x.op=4->C0 W V0 d p F c q pr vals (n+1) 0 V s->DO d pr x->S.Ok W x->
 Tri xV 275 #[pv p,pv q,x.v] V (PY W d p F c q pr (Dx d F (AU d F n) c pr (n+1) x vals s))
variable(d p F)in
def XBodyC(n:Nat):Prop:=∀(x:S)(W V0 V:Mem)(s:St)(c q:Nat)(pr:Pr)(vals:XZ),x.op≠4->C0 W V0 d p F c q pr vals n 4000 V s->DO d pr x->S.Ok W x->
 Tri xV 277 #[pv p,pv q,x.v] V (PY W d p F c q pr (Fj d F (AU d F n) c pr (n+1) x vals s))
theorem DH.done{g t:Int}{r:Option Int}(h:DH W V0 q pr vals r)(M:XM V0 d p F V s t g):V.rowp (sa q) ((7:Int).toNat*1) 1=some [.bool r.isSome]:=by
 obtain⟨a,b,h1,-,-⟩:=h.ex;exact Aj (M.sub _ _ h1) 7 1 (by simp[CZ])
theorem stsY{n:Nat}(HL:XLoopC d p F n)(HB:XBodyC d p F n):Ja d p F (n+1):=by
 intro l W V0 V s c q pr vals sl X E hok K;obtain⟨f,hf⟩:∃f,f=Dx d F (AU d F n) c pr (n+1):=⟨_,rfl⟩;obtain⟨G,hG⟩:∃G:Rx Rt,G=D5 f l vals s:=⟨_,rfl⟩;show Tri _ _ _ _ (PY W d p F c q pr (D5 (Dx d F (AU d F n) c pr (n+1)) l vals s));rw[<-hf,<-hG];refine Tri.mono (x212 (R:=PY W d p F c q pr G) ?_) λ_ _ h=>h;refine EJ l.length (λi V1=>∃O g s',C0 W O d p F c q pr g (n+1) 0 V1 s'/\G=D5 f (l.drop i) g s') ⟨V0,vals,s,X,hG⟩ ?_;rintro i V1 J hi ⟨O,g,s',o,A⟩ hJ;have hr:=K.sub (o.fr.sub.trans o.M.sub);refine⟨λT=>?_,λhge=>?_⟩
 .obtain⟨x,Q,hx,hdr,hil,hp,hz,C⟩:=hr.get T;rw[S.row_eq]at C;rw[hdr]at A;have I:G=(f x g s').bind λr st=>match r.2 with|some _=>.ok r st|none=>D5 f (l.drop (i+1)) r.1 st:=A
  have P:=st_snd (F:=F) (c:=c) (n:=n+1) o.S.procs (FH o.S.procs n) o.po (E x Q) o.G o.hv;rw[<-hf]at P;have after:∀{V2 Z:Mem}{t:XZ}{U:Option Int}{L:Int}{s2:St},DH W Z q pr t U->XM Z d p F V2 s2 c L->(L=0/\f x g s'=.ok (t,U) s2∨L≠0/\f x g s'=.bad L s2)->
    (¬(some (⟨q,0,none⟩:Addr))=none/\¬(some (⟨q,0,none⟩:Addr))=none/\∃v9,V2.rowp (sa q) ((7:Int).toNat*1) 1=some [uB v9]/\
    Br (v9=true) (PY W d p F c q pr G (rT #[]) V2)
    (¬(some (⟨p,0,none⟩:Addr))=none/\¬(some (⟨p,0,none⟩:Addr))=none/\∃v10,V2.rowp (sa p) ((13:Int).toNat*1) 1=some [uI v10]/\
    Br (v10=0) (IR ((i:Int)+1)/\J [uI ((i:Int)+1)] V2) (PY W d p F c q pr G (rT #[]) V2))):=λ{V2 Z t U L s2} u N hc=>by
   refine⟨nn,nn,_,u.done N,λhd=>?_,λhd=>⟨nn,nn,_,N.fault,λY=>?_,λY=>?_⟩⟩
   .rcases hc with⟨rfl,D⟩|⟨hk,D⟩
    .cases U with
     |none=>cases hd
     |some z=>exact PY.ok (rt:=(t,some z)) (by rw[I,D];rfl) u N
    .exact PY.bad (by rw[I,D];rfl) hk u N
   .have Y:L=0:=Y;rcases hc with⟨-,D⟩|⟨hk,-⟩;rotate_left;.omega
    subst Y;cases U with
    |some z=>grind
    |none=>
     obtain⟨G2,g2,q2⟩:=P.got D;exact⟨hr.succ T,hJ hil _ ⟨Z,t,s2,o.next (m:=0) g2 G2 u q2.1 N,by rw[I,D];rfl⟩⟩
   .have Y:¬L=0:=Y;rcases hc with⟨h,-⟩|⟨hk,D⟩;.omega
    .exact PY.bad (by rw[I,D];rfl) hk u N
  refine⟨hp,hz,T,_,_,_,_,_,C,λh4=>?_,λh4=>?_⟩
  .have Hx:=HL x W O V1 s' c q pr g h4 o (E x Q) (hok x Q);rw[<-hf,S.v_eq]at Hx;exact PY.any Hx λZ t U L s2 V2 u N hc=>after u N hc
  .refine Tri.mono (c276 o.S.fuel o.M) ?_;rintro e1 V2 (⟨B,rfl,N⟩|⟨B,rfl,N⟩)
   .refine⟨_,rfl,λ_=>?_,λh=>absurd rfl h⟩;have Hx:=HB x W O V2 _ c q pr g h4 (o.tick B N) (E x Q) (hok x Q);have e:Fj d F (AU d F n) c pr (n+1) x g {s' with tk:=s'.tk+1}=f x g s':=by rw[hf];unfold Dx;rw[Kx B];rfl
    rw[e,S.v_eq]at Hx;exact PY.any Hx λZ t U L s2 V2 u N hc=>after u N hc
   .refine⟨_,rfl,(λh=>by cases h),λ_=>after o.fr N (.inr ⟨by decide,?_⟩)⟩;rw[hf];unfold Dx;rw[Ky B];rfl
 .rw[(hr.done hge).1]at A;exact PY.ok A o.fr o.M
end
section
variable{W V0 V V1 V':Mem}{d:Ds}{p F c q:Nat}{s:St}{pr:Pr}{vals:XZ}
theorem exprFc{g t:Int}(M:XM V0 d p F V s t g)(u:g≠0){b:XI}{e:E}:PP 322 [pv p,.pointer b,e.v] V (uI 0):=by
 refine x322 ?_;exact⟨nn,nn,_,M.fault,λh=>absurd h u,λ_=>⟨rfl,rfl⟩⟩
theorem loopY{n:Nat}(hE:XExprC d p F n)(hS:Ja d p F n):XLoopC d p F n:=by
 intro x W V0 V s c q pr vals h4 X E Y;obtain⟨G,hG0⟩:∃G:Rx Rt,G=Dx d F (AU d F n) c pr (n+1) x vals s:=⟨_,rfl⟩;rw[<-hG0];refine Tri.mono (S.v_eq x▸x275 (R:=PY W d p F c q pr G) ?_) λ_ _ h=>h;have hF:=X.S.fuel;have K:=FH (F:=F) X.S.procs n;cases kindS E with
 |@loop a h he hv ht=>
  have h0:x.es[0]?=some a:=by rw[he];rfl
  obtain⟨-,-,-,O,-⟩:=E.parts;have hG:G=(Eh F s).bind λ_ st=>Ei d F (AU d F n) c pr a x.ls (n+1) vals st:=by
   grind[Dx,Fj]
  refine⟨λm xs V2=>xs=[]/\∃e g s',C0 W e d p F c q pr g (n+1) 0 V2 s'/\F<m+(s'.tk+1)/\G=(Eh F s').bind λ_ st=>Ei d F (AU d F n) c pr a x.ls m g st,n+1,⟨rfl,V0,vals,s,X,by have:=X.n;omega,hG⟩,?_⟩;rintro m V2 ⟨-,e,g,s',X',hm,T⟩ J hJ;refine Tri.mono (c276 hF X'.M) ?_;rintro e1 V3 (⟨Q,rfl,M3⟩|⟨Q,rfl,M3⟩);rotate_left
  .refine⟨_,rfl,(λh=>by cases h),λ_=>PY.bad (s:=s') ?_ (by decide) X'.fr M3⟩;rw[T,Ky Q];rfl
  have o:=X'.tick Q M3;have L:G=Ei d F (AU d F n) c pr a x.ls m g {s' with tk:=s'.tk+1}:=by rw[T,Kx Q];rfl
  obtain⟨m,rfl⟩:∃m',m=m'+1:=⟨m-1,by omega⟩;rw[Ei]at L;have hp:=Gf hv;obtain⟨k1,k3,k4⟩:=esAt (Y.sub (o.fr.sub.trans o.M.sub)) h0;have HE:=hE a Ay e V3 _ c q pr g (o.cx.le (k:=Az a) (by omega)) hp.1 ((Y.eOk a (xw h0)).sub o.fr.sub) ht;refine⟨_,rfl,λ_=>⟨k1,by decide,k3,_,_,_,_,k4,XR.any HE λv kf s2 V4 M4 U=>?_⟩,λh=>absurd rfl h⟩;rcases U with⟨rfl,e2⟩|⟨B,rfl,e2⟩;rotate_left;.exact As rfl (PY.bad (by rw[L];unfold CH;rw[e2];rfl) B o.fr M4)
  obtain⟨G2,g2,q2⟩:=(Gg (F:=F) (c:=c) o.S.procs K o.po hv ht o.G o.hv).got e2;have t:G=if v=0 then .ok (g,none) s2 else(AU d F n c pr x.ls g s2).bind λr st=>match r.2 with|some _=>.ok r st|none=>(Eh F st).bind λ_ st=>Ei d F (AU d F n) c pr a x.ls m r.1 st:=by
   rw[L];unfold CH;rw[e2];rfl
  have C:C0 W e d p F c q pr g n 0 V4 s2:=(o.le (k:=1000+0) (by omega)).next g2 G2 o.fr (BS (λh=>g2.right h) o.hv) M4;refine⟨λhz=>?_,λhz=>⟨nn,nn,_,M4.fault,λ_=>?_,λh=>absurd rfl h⟩⟩
  .rw[if_pos (show v=0 from hz)]at t;exact PY.ok t C.fr M4
  rw[if_neg (show ¬v=0 from hz)]at t;have P:=K c pr x.ls g s2 C.po O C.G C.hv;refine PY.any (hS x.ls W e V4 s2 c q pr g x.ll C O Y.lOk Y.lRows) λV2' N rv kf s3 V5 Z D U=>?_;refine⟨nn,nn,_,Z.done D,λhd=>?_,λhd=>⟨nn,nn,_,D.fault,λu=>?_,λu=>?_⟩⟩
  .rcases U with⟨rfl,A⟩|⟨B,A⟩
   .cases rv with
    |none=>cases hd
    |some z=>exact PY.ok (rt:=(N,some z)) (by rw[t,A];rfl) Z D
   .exact PY.bad (by rw[t,A];rfl) B Z D
  .have u:kf=0:=u;rcases U with⟨-,A⟩|⟨B,-⟩;rotate_left;.omega
   subst u;cases rv with
   |some z=>grind
   |none=>
    obtain⟨G3,g3,q3⟩:=P.got A;have t2:=g2.tk;have t3:=g3.tk;have hn1:=X'.n;have ht2:s'.tk+1<=s2.tk:=t2;refine hJ m _ _ (by omega) ⟨rfl,V2',N,s3,?_,by omega,by rw[t,A];rfl⟩;have I:=C.next (m:=0) (k:=0) g3 G3 Z q3.1 D;exact⟨I.S,I.fr,I.pm,I.G,I.hv,I.M,I.tk,by omega,I.w⟩
  .have u:¬kf=0:=u;rcases U with⟨h,-⟩|⟨B,A⟩;.omega
   .exact PY.bad (by rw[t,A];rfl) B Z D
 |set h=>omega
 |put h=>omega
 |cond h=>omega
 |ret0 h=>omega
 |ret1 h=>omega
 |call h=>omega
theorem retY{u z:Int}(g:DH W V0 q pr vals none)(M:XM V0 d p F V s z u){v:Int}{Q:Mem->Prop}(o:∀t V',DH W t q pr vals (some v)->XM t d p F V' s z u->Q V'):
  Am (Aa (sa q) 8) 0 [uI v] V λV2=>¬(some (⟨q,0,none⟩:Addr))=none/\¬(some (⟨q,0,none⟩:Addr))=none/\Am (Aa (sa q) 7) 0 [.bool true] V2 Q:=by
 obtain⟨a,b,h1,h2,h3⟩:=g.ex;have e:V0 q≠none:=by rw[h1];simp
 refine Am.at2 (off:=8) (M.sub _ _ h1) (by simp[CZ]) ⟨nn,nn,Am.at2 (off:=7) Av (by simp[CZ]) ?_⟩;have J:=Mi h3 g.q0 h1 (.cells ((CZ pr a b none).toArray.toList.take 8++[vP .i64 v]++(CZ pr a b none).toArray.toList.drop (8+[vP .i64 v].length)).toArray 294 (0,0));have N:=Mi J g.q0 Av (.cells (CZ pr a b (some v)).toArray 294 (0,0));have Z:=M.poke e (.cells ((CZ pr a b none).toArray.toList.take 8++[vP .i64 v]++(CZ pr a b none).toArray.toList.drop (8+[vP .i64 v].length)).toArray 294 (0,0));have Y:=Z.poke (b:=q) (by rw[Mem.set_same];simp) (.cells (CZ pr a b (some v)).toArray 294 (0,0));exact o _ _ ⟨(g.sub.set g.q0 _).set g.q0 _,g.q0,a,b,Mem.set_same _ _ _,h2,N⟩ Y
theorem retY0{u z:Int}(g:DH W V0 q pr vals none)(M:XM V0 d p F V s z u){Q:Mem->Prop}(o:∀t V',DH W t q pr vals (some 0)->XM t d p F V' s z u->Q V'):
  Am (Aa (sa q) 7) 0 [.bool true] V Q:=by
 obtain⟨a,b,h1,h2,h3⟩:=g.ex;have e:V0 q≠none:=by rw[h1];simp
 refine Am.at2 (off:=7) (M.sub _ _ h1) (by simp[CZ]) ?_;have J:=Mi h3 g.q0 h1 (.cells (CZ pr a b (some 0)).toArray 294 (0,0));have N:=M.poke e (.cells (CZ pr a b (some 0)).toArray 294 (0,0));exact o _ _ ⟨g.sub.set g.q0 _,g.q0,a,b,Mem.set_same _ _ _,h2,J⟩ N
theorem bodyY{n:Nat}(hE:XExprC d p F n)(hR:XCallC d p F n)(hS:Ja d p F n):XBodyC d p F n:=by
 intro x W V0 V s c q pr vals h4 I hty J;obtain⟨G,Q⟩:∃G:Rx Rt,G=Fj d F (AU d F n) c pr (n+1) x vals s:=⟨_,rfl⟩;rw[<-Q];refine Tri.mono (S.v_eq x▸x277 (R:=PY W d p F c q pr G) ?_) λ_ _ h=>h;have hcs:=FH (F:=F) I.S.procs n;have ex:∀{i:Nat}{a:E}{u:KB}{V2 Z:Mem}{o:XZ}{s2:St}{m:Nat},x.es[i]?=some a->Bh a=true->Ao d (AA d pr) a=(u,0)->C0 W Z d p F c q pr o n m V2 s2->1000<=m->
   Tri xV 322 #[pv p,pv q,.agg #[uI a.op,uI a.n,uS a.s,.slice a.l.p a.l.n a.l.c]] V2 (XR Z d p F c (CH d (AU d F n) c pr o a s2)):=λ{i a u V2 Z o s2 m} C hv ha N hm=>by
  have hp:=Gf hv;exact hE a u Z V2 s2 c q pr o (N.cx.le (by omega)) hp.1 ((J.eOk a (xw C)).sub N.fr.sub) ha
 have go:∀{a:E}{u:KB}{V2 V3 Z:Mem}{o:XZ}{s2 U:St}{m:Nat}{v:Int},Bh a=true->Ao d (AA d pr) a=(u,0)->C0 W Z d p F c q pr o n (1000+m) V2 s2->CH d (AU d F n) c pr o a s2=.ok v U->XM Z d p F V3 U c 0->
   C0 W Z d p F c q pr o n m V3 U/\AX d U.mm u v/\Gr F 1000 s2 U:=λ{a u V2 V3 Z o s2 U m v} hv ha N e M3=>by
  obtain⟨G3,g3,q3⟩:=(Gg (F:=F) (c:=c) N.S.procs hcs N.po hv ha N.G N.hv).got e;exact⟨N.next g3 G3 N.fr (BS (λh=>g3.right h) N.hv) M3,q3,g3⟩
 unfold Fj at Q;have D:=I.fr.sub.trans I.M.sub;cases kindS hty with
 |@set a u t h X hv ht hl hne hf=>
  rw[if_pos h,X,uF]at Q;have C:x.es[0]?=some a:=by rw[X];rfl
  obtain⟨k1,k3,k4⟩:=esAt (J.sub D) C;refine As h ⟨k1,by decide,k3,_,_,_,_,k4,XR.any (ex C hv ht I (by omega)) λv kf s2 V2 P K=>?_⟩;refine x323 ?_;refine⟨nn,nn,_,P.fault,λY=>?_,λY=>?_⟩;rotate_left
  .rcases K with⟨h,-⟩|⟨B,-,A⟩;.omega
   .exact⟨rfl,PY.bad (by rw[Q,A];rfl) B I.fr P⟩
  have Y:kf=0:=Y;rcases K with⟨-,A⟩|⟨B,-⟩;rotate_left;.exact absurd Y B
  subst Y;rw[A]at Q;have T:G=setX d pr x.s v vals s2:=Q;obtain⟨N,hv2,-⟩:=go (m:=3000) hv ht I A P;obtain⟨fa,fb,hq0,hra0,hrb0⟩:=N.fr.ex;have hq:=P.sub _ _ hq0;refine⟨nn,nn,fa,Aj hq 5 1 (by simp[CZ]),(c326 (hra0.sub (N.fr.sub.trans P.sub))).call ⟨_,rfl,?_⟩⟩;unfold setX at T;rcases Ho N.G N.hv N.po.vars hl hne with⟨i,g,w,h1,h2,h3,h4,-⟩|⟨i,g,w,h0',h1,h2,h3,h4,-⟩
  .rw[h1];rw[if_pos (by omega),h1,wH]at T;have hil:=(yg.1 h3).1;obtain⟨g1,g2,g3,-⟩:=Fk (hrb0.rows (λ_=>rfl) (by decide)) h3;refine As (by omega) ⟨nn,nn,fb,Aj hq 6 1 (by simp[CZ]),g1,g2,g3,frStoreX hrb0 P hil λZ V' ho M' hx=>?_⟩;refine⟨rfl,PY.ok (rt:=(vals.set i v,none)) T ⟨ho.sub,N.fr.q0,fa,fb,?_,hra0,ho⟩ M'⟩;rw[hx];exact hq0;exact hrb0.apart λcur hcq=>by
    simp_all
  .rw[h0'];rw[if_neg (by omega),h1,wH]at T;obtain⟨gs,ns,ls,nd,hat,L⟩:=P.ex;have hd:=(N.S.sub N.fr.sub).ds.sub L.sub;refine Ag (by decide) ⟨nn,nn,AJ,d.gs,Aj hat 2 1 (by simp[AH]),(c326 hd.globals).call ⟨_,rfl,?_⟩⟩;rw[h1];refine Tri.mono (c346 P (Yx.fit (m:=0) (N.cx.le (by omega)))) ?_;rintro _ V5 ⟨rfl,M5⟩;obtain⟨gs5,ns5,ls5,nd5,O,L5⟩:=M5.ex;obtain⟨g1,g2,g3,-⟩:=Fk (L5.glob.rows (λ_=>rfl) (by decide)) (i:=i) (v:=w) h3;have hil:=(yg.1 h3).1;refine⟨rfl,nn,nn,AJ,gs5,Aj O 8 1 (by simp[AH]),g1,g2,g3,L5.setG (i:=i) hil λV6 L6 hk6=>?_⟩;refine⟨rfl,PY.ok (V0:=V0) (rt:=(vals,none)) T N.fr (MA.mk M5.p0 ⟨gs5,ns5,ls5,nd5,?_,L6⟩)⟩;rw[hk6 _ (GQ O EB L5.glob (.inl rfl))];exact O
 |@put a b u w t h X hv hw ha ht hl hf=>
  rw[if_neg (by omega),if_pos h,X,uF,List.getD_cons_succ,uF]at Q;have C:x.es[0]?=some a:=by rw[X];rfl
  have h1:x.es[1]?=some b:=by rw[X];rfl
  obtain⟨k1,k3,k4⟩:=esAt (J.sub D) C;refine Ag (by omega) (As h ?_);refine x324 ?_;refine⟨k1,by decide,k3,_,_,_,_,k4,XR.any (ex C hv ha I (by omega)) λv kf s2 V2 P K=>?_⟩;obtain⟨l1,l3,l4⟩:=esAt (J.sub (I.fr.sub.trans P.sub)) h1;refine⟨l1,by decide,l3,_,_,_,_,l4,?_⟩;rcases K with⟨rfl,A⟩|⟨B,-,A⟩;rotate_left;.exact(exprFc P B (e:=b)).call ⟨_,rfl,nn,nn,_,P.fault,λh=>absurd h B,λ_=>⟨rfl,PY.bad (by rw[Q,A];rfl) B I.fr P⟩⟩
  rw[A]at Q;obtain⟨N,hv2,-⟩:=go (m:=3000) hv ha I A P;refine XR.any (ex h1 hw ht N (by omega)) λy kf U V3 M3 K=>⟨nn,nn,_,M3.fault,λY=>?_,λY=>?_⟩;rotate_left
  .rcases K with⟨h,-⟩|⟨B,-,e3⟩;.omega
   .exact⟨rfl,PY.bad (by rw[Q];show((CH d (AU d F n) c pr vals b s2).bind _)=_;rw[e3];rfl) B N.fr M3⟩
  have Y:kf=0:=Y;rcases K with⟨-,e3⟩|⟨B,-⟩;rotate_left;.exact absurd Y B
  subst Y;have hG3:G=(putX d v y x.s U).bind λ_ st=>.ok (vals,none) st:=by rw[Q];show((CH d (AU d F n) c pr vals b s2).bind _)=_;rw[e3];rfl
  obtain⟨X3,hv3,g3⟩:=go (m:=2000) hw ht N e3 M3;have hv2:=g3.val hv2;refine⟨λY=>?_,λY=>?_⟩
  .refine Tri.mono (c211 M3) ?_;rintro _ V4 ⟨rfl,M4⟩;refine⟨_,rfl,rfl,PY.bad (s:=U) (k:=17) ?_ (by decide) X3.fr M4⟩;rw[hG3];unfold putX;rw[if_pos (show v=0 from Y)];rfl
  have Y:¬v=0:=Y;obtain⟨k,i,j,tt,g,fs,z,rfl,f2,f3,f4,f5,f6,f7,f8,-⟩:=Ie X3.G hl hv2 Y;have hG4:G=.ok (vals,none) {U with ns:=U.ns.set k ((j:Int),fs.set i y),lg:=U.lg++[(2,(k:Int)+1,(i:Int))]}:=by
   rw[hG3];unfold putX;rw[if_neg Y,show((k:Int)+1-1).toNat=k by omega,f2];simp only;rw[f5,f6,wH];rfl
  refine(c345 (X3.S.sub X3.fr.sub) M3 f2 f3).call ⟨_,rfl,?_⟩;rw[f6];refine Tri.mono (c346 M3 (Yx.fit (m:=0) (X3.cx.le (by omega)))) ?_;rintro _ V5 ⟨rfl,M5⟩;obtain⟨gs5,ns5,ls5,nd5,sl5,O,L5,hnd5,hI,n1,n2,n3,n4,m1,m2,m3,m4⟩:=nodeX M5 (k:=k) (i:=i) f2 f8;have hil:=(yg.1 f8).1;rw[show((k:Int)+1-1)=(k:Int)by omega];refine⟨rfl,nn,nn,AJ,ns5,Aj O 9 1 (by simp[AH]),hI,n1,n2,n3,Ai n1,_,_,n4,m1,m2,m3,L5.setF hnd5 hil λV6 L6 hk6=>?_⟩;refine⟨rfl,PY.ok (V0:=V0) (rt:=(vals,none)) hG4 X3.fr (MA.mk M5.p0 ⟨gs5,ns5,ls5,_,?_,L6⟩)⟩;rw[hk6 _ (GQ O EB (L5.fld _ (xw hnd5)) (.inl rfl))];exact O
 |@cond a h X hv ht=>
  rw[if_neg (by omega),if_neg (by omega),if_pos h,X,uF]at Q;have C:x.es[0]?=some a:=by rw[X];rfl
  obtain⟨k1,k3,k4⟩:=esAt (J.sub D) C;obtain⟨-,-,-,hlt1,hlt2⟩:=hty.parts;refine Ag (by omega) (Ag (by omega) (As h ⟨k1,by decide,k3,_,_,_,_,k4,XR.any (ex C hv ht I (by omega)) λv kf s2 V2 P K=>⟨nn,nn,_,P.fault,λY=>?_,λY=>?_⟩⟩));rotate_left
  .rcases K with⟨h,-⟩|⟨B,-,A⟩;.omega
   .exact PY.bad (by rw[Q,A];rfl) B I.fr P
  have Y:kf=0:=Y;rcases K with⟨-,A⟩|⟨B,-⟩;rotate_left;.omega
  subst Y;rw[A]at Q;have T:G=if v=0 then AU d F n c pr x.xs vals s2 else AU d F n c pr x.ls vals s2:=Q
  obtain⟨N,-,-⟩:=go (m:=3000) hv ht I A P;refine⟨λY=>PY.last ?_ (hS x.xs W V0 V2 s2 c q pr vals x.xl (N.le (by omega)) hlt2 J.xOk J.xRows),λY=>PY.last ?_ (hS x.ls W V0 V2 s2 c q pr vals x.ll (N.le (by omega)) hlt1 J.lOk J.lRows)⟩;.simp_all
  simp_all
 |loop h=>exact absurd h h4
 |ret0 h X hr=>
  rw[if_neg (by omega),if_neg (by omega),if_neg (by omega),if_neg (by omega),if_pos h,X]at Q;have hn:=(J.sub D).eRows.n_eq;rw[X]at hn;refine Ag (by omega) (Ag (by omega) (Ag (by omega) (As h (Ag (by rw[hn];decide) ⟨nn,nn,retY0 I.fr I.M λZ V' hf M'=>?_⟩))));exact PY.ok (rt:=(vals,some 0)) Q hf M'
 |@ret1 a u h X hv ht hr hf=>
  rw[if_neg (by omega),if_neg (by omega),if_neg (by omega),if_neg (by omega),if_pos h,X]at Q;have C:x.es[0]?=some a:=by rw[X];rfl
  have hn:=(J.sub D).eRows.n_eq;rw[X]at hn;obtain⟨k1,k3,k4⟩:=esAt (J.sub D) C;refine Ag (by omega) (Ag (by omega) (Ag (by omega) (As h (As (by rw[hn];rfl) ⟨k1,by decide,k3,_,_,_,_,k4,XR.any (ex C hv ht I (by omega)) λv kf s2 V2 P K=>⟨nn,nn,retY I.fr P λZ V' hf M'=>?_⟩⟩))));rcases K with⟨rfl,A⟩|⟨B,-,A⟩;.exact PY.ok (rt:=(vals,some v)) (by rw[Q];show(CH d (AU d F n) c pr vals a s).bind _=_;rw[A];rfl) hf M'
  .exact PY.bad (by rw[Q];show(CH d (AU d F n) c pr vals a s).bind _=_;rw[A];rfl) B hf M'
 |@call a pr' i h X hv ho K=>
  rw[if_neg (by omega),if_neg (by omega),if_neg (by omega),if_neg (by omega),if_neg (by omega),if_pos h,X,uF]at Q;have C:x.es[0]?=some a:=by rw[X];rfl
  obtain⟨k1,k3,k4⟩:=esAt (J.sub D) C;have hp:=Gf hv;refine Ag (by omega) (Ag (by omega) (Ag (by omega) (Ag (by omega) (As h ⟨k1,by decide,k3,_,_,_,_,k4,XR.any (exprX0 hR a V0 V s c q pr vals (I.cx.le (by omega)) hp.1 ((J.eOk a (xw C)).sub I.fr.sub) (.inr ⟨ho,pr',i,K⟩)) λv kf s2 V2 P hcc=>?_⟩))));rcases hcc with⟨rfl,A⟩|⟨B,-,A⟩;.exact PY.ok (rt:=(vals,none)) (by rw[Q];unfold CH;rw[A];rfl) I.fr P
  .exact PY.bad (by rw[Q];unfold CH;rw[A];rfl) B I.fr P
end
theorem set_fill{args:XZ}{n i:Nat}{v:Int}(hi:args[i]?=some v)(t:i<n):(args.take i++zB (n-i) 0).set i v=args.take (i+1)++zB (n-(i+1)) 0:=by
 have u:=(yg.1 hi).1;have g:(args.take i).length=i:=by grind
 rw[List.set_append_right _ _ (by omega),g,Nat.sub_self];obtain⟨m,hm⟩:∃m,n-i=m+1:=⟨n-i-1,by omega⟩;grind[vq]
section
variable{V0 V:Mem}{d:Ds}{p F:Nat}{s:St}
theorem callY{n:Nat}(H:Ja d p F n):XCallC d p F n:=by
 intro V0 V s c i pr args l hS Z G ha hl M htk hn hw;obtain⟨G',hG⟩:∃G':Rx Int,G'=Ck d (AU d F n) c i args s:=⟨_,rfl⟩;rw[<-hG];have Y:=xw Z;have B:=hS.procs pr Y;refine Tri.mono (x161 (R:=XR V0 d p F c G') ?_) λ_ _ h=>h;obtain⟨gs,ns,ls,nd,Q,L⟩:=M.ex;unfold Ck at hG;refine⟨nn,nn,_,Aj Q 12 1 (by simp[AH]),λh2=>failX M (by decide) (by grind),λh2=>?_⟩;rw[if_neg (by omega),wH,Z]at hG;refine⟨nn,nn,_,Aj Q 12 1 (by simp[AH]),⟨by omega,by omega⟩,nn,nn,Am.at2 (off:=12) Q (by simp[AH]) ?_⟩;have M1:XM V0 d p F (V.set p (.cells (AH d F s.tk ((c+1:Nat):Int) 0 s.cm (AZ s.lg) gs ns ls).toArray 142 (0,0))) s ((c+1:Nat):Int) 0:=MA.set (row':=AH d F s.tk ((c+1:Nat):Int) 0 s.cm (AZ s.lg)) EB M.p0 Q L rfl rfl rfl rfl;obtain⟨V1,hV1⟩:∃V1,V1=V.set p (.cells (AH d F s.tk ((c+1:Nat):Int) 0 s.cm (AZ s.lg) gs ns ls).toArray 142 (0,0)):=⟨_,rfl⟩;rw[<-hV1]at M1;have e1:V.set p (.cells ((AH d F s.tk c 0 s.cm (AZ s.lg) gs ns ls).toArray.toList.take 12++[vP .i64 ((c:Int)+1)]++(AH d F s.tk c 0 s.cm (AZ s.lg) gs ns ls).toArray.toList.drop (12+[vP .i64 ((c:Int)+1)].length)).toArray 142 (0,0))=V1:=by rw[hV1];rfl
 erw [e1]
 obtain⟨gs1,ns1,ls1,H5,hat1,L1⟩:=M1.ex;have C:=hS.ds.sub L1.sub;have hn1:=C.procs.n_eq;have hil:=(yg.1 Z).1;obtain⟨y,-,hy,-,-,hp1,hz1,D⟩:=C.procs.get (i:=i) (by omega);rw[Z]at hy;cases hy;refine⟨nn,nn,AJ,d.ps,Aj hat1 3 1 (by simp[AH]),hp1,hz1,by omega,_,_,_,_,_,D,λb0 hb0=>?_⟩;have hok:=C.procsOk pr Y;have hln:=B.lens;have s0:=Mem.sub_new hb0 (.cells #[] 97 (0,0));refine Ee (s:=⟨some ⟨b0,0,none⟩,0,0⟩) (u:=pr.ps) (xs:=[]) (ys:=pr.params) rfl rfl (Own.empty s0 _ _ _) (hok.params.sub s0) (by simp;omega) λs2 V2 o2=>⟨s2,rfl,?_⟩;refine Ee (s:=s2) (u:=pr.ls) (xs:=pr.params) (ys:=pr.locals) rfl rfl o2 (hok.locals.sub o2.sub) (by omega) λt V3 o3=>⟨t,rfl,?_⟩;have h3n:=o3.n_eq (λ_=>rfl) (by decide);rw[zK]at h3n;refine mk31 (n:=t.n) rfl rfl (by omega) λg hg=>⟨⟨some ⟨g,0,none⟩,t.n,t.n⟩,rfl,?_⟩;have hown:=Md hg (n:=t.n) (by omega);have hal:=(C8.1 ha).1;obtain⟨V4,hV4⟩:∃V4,V4=V3.set g (.cells (madeCells (vP .i64 0).cells (t.n*1)) 3 (0,0)):=⟨_,rfl⟩;rw[<-hV4]at hown⊢;refine EJ args.length (λj E=>Sx.Own V3 E 3 1 ⟨some ⟨g,0,none⟩,t.n,t.n⟩ ((args.take j++zB (t.n-j) 0).flatMap Aw)) (by simp_all) ?_;rintro j E J hj o5 hJ;have K:=o5.sub;have T:=hl.sub ((M1.sub.trans o3.sub).trans K);refine⟨λU=>?_,λhge=>?_⟩
 .obtain⟨v,-,hv,-,hjl,hp,hz,hrow⟩:=T.get U;refine⟨hp,hz,U,v,hrow,nn,by omega,(show(j:Int)<(t.n:Int)by omega),?_⟩;show Am (Aa (sa g) (j*1)) 0 [uI v] E _;rw[Nat.mul_one];refine Own.storec o5 (i:=j) (by rw[C9,vp,zK,List.length_take,List.length_replicate];omega) λV6 o6 _=>⟨T.succ U,hJ hjl _ ?_⟩;have e:((args.take j++zB (t.n-j) 0).flatMap Aw).set j (vP .i64 v)=(args.take (j+1)++zB (t.n-(j+1)) 0).flatMap Aw:=by
   rw[C9,C9,<-set_fill hv (by omega),List.map_set]
  simp_all
 .have hdn:=(T.done hge).2;have hja:j=args.length:=by omega
  subst hja;rw[List.take_length,show t.n-args.length=pr.locals.length by omega]at o5;intro b2 hb2;obtain⟨V6,P⟩:∃V6,V6=E.set b2 (.cells (CZ pr t ⟨some ⟨g,0,none⟩,t.n,t.n⟩ none).toArray 294 (0,0)):=⟨_,rfl⟩;have e6:E.set b2 (.cells #[uS pr.name,uL pr.ps,uS pr.result,uL pr.ls,uL pr.bs,uL t,uL ⟨some ⟨g,0,none⟩,t.n,t.n⟩,uB false,uI 0] 294 (0,0))=V6:=by rw[P];rfl
  show Tri _ _ #[pv p,pv b2,.slice pr.bs.p pr.bs.n pr.bs.c] (E.set b2 (.cells #[uS pr.name,uL pr.ps,uS pr.result,uL pr.ls,uL pr.bs,uL t,uL ⟨some ⟨g,0,none⟩,t.n,t.n⟩,uB false,uI 0] 294 (0,0))) _;rw[e6];have s56:E.sub V6:=P▸Mem.sub_new hb2 _;have s36:=K.trans s56;have s16:=o3.sub.trans s36;obtain⟨W0,w0,w6,MW,hWn⟩:=M1.after s16;have n1:∀{b:Nat},V3 b=none->V1 b=none:=λ{b} h=>free o3.sub h;have n5:V3 b2=none:=free K hb2;obtain⟨b,hb⟩:∃b:Sl,b=⟨some ⟨g,0,none⟩,t.n,t.n⟩:=⟨_,rfl⟩;rw[<-hb]at o5 P;have hbk:∀{x:Nat},A4 b x->V3 x=none:=λh=>Own.none0 o5 h;have nb2:¬A4 b b2:=λhk=>by
   grind[Own.some]
  obtain⟨W,hW⟩:∃W,W=Mem.minus W0 (λx=>x=b2∨A4 b x):=⟨_,rfl⟩;have hWW:W.sub W0:=by rw[hW];exact Kv
  have V03:V0.sub V3:=M1.sub.trans o3.sub;have hws:V0.sub W:=λx o hx=>by
   rw[hW,GP];.exact w0 _ _ hx
   .rintro(rfl|hk);.have:=V03 _ _ hx;simp_all
    .have:=V03 _ _ hx;simp_all
  have o5':Sx.Own W W0 3 1 b ((args++zB pr.locals.length (0:Int)).flatMap Aw):=own_to o5 hWW λx o hk h0 h1=>⟨by rw[hW];exact I3 (.inr hk),hWn _ _ (n1 h0) (s56 _ _ h1)⟩;have hs3:Sx.Own (λ_=>none) W 97 2 t ((pr.params++pr.locals).flatMap Fld.row):=own_to o3 (λ_ _ h=>by cases h) λx o hk h0 h1=>⟨rfl,by
   rw[hW,GP];.exact hWn _ _ h0 (s36 _ _ h1)
   grind⟩
  have hfr:W0 b2=some (.cells (CZ pr t b none).toArray 294 (0,0)):=hWn _ _ (n1 n5) (by rw[P];exact Mem.set_same _ _ _);have FR:DH W W0 b2 pr (args++zB pr.locals.length 0) none:=⟨hWW,by rw[hW];exact I3 (.inl rfl),t,b,hfr,hs3.rows (λ_=>rfl) (by decide),o5'⟩;have hv:=I2 ha (Kr G.valid λf hf=>B.vars f (uE _ hf));have X:=(hS.ds.sub hws).procsOk pr Y;refine PY.any (H pr.body W W0 V6 s (c+1) b2 pr _ pr.bs ⟨hS.sub hws,FR,Y,G,hv,MW,htk,hn,hw⟩ B.body (λx hx=>X.stmts x hx) X.body) λW7 vals7 rv kf z V7 f7 M7 hc=>?_;obtain⟨O,A,I,nd7,N,L7⟩:=M7.ex;refine⟨nn,nn,_,Aj N 12 1 (by simp[AH]),⟨by omega,by omega⟩,nn,nn,Am.at2 (off:=12) N (by simp[AH]) ?_⟩;have M8:XM W7 d p F (V7.set p (.cells (AH d F z.tk c kf z.cm (AZ z.lg) O A I).toArray 142 (0,0))) z c kf:=MA.set (row':=AH d F z.tk c kf z.cm (AZ z.lg)) EB M7.p0 N L7 rfl rfl rfl rfl;obtain⟨V8,hV8⟩:∃V8,V8=V7.set p (.cells (AH d F z.tk c kf z.cm (AZ z.lg) O A I).toArray 142 (0,0)):=⟨_,rfl⟩;rw[<-hV8]at M8;have e8:V7.set p (.cells ((AH d F z.tk ((c+1:Nat):Int) kf z.cm (AZ z.lg) O A I).toArray.toList.take 12++[vP .i64 (((c+1:Nat):Int)-1)]++(AH d F z.tk ((c+1:Nat):Int) kf z.cm (AZ z.lg) O A I).toArray.toList.drop (12+[vP .i64 (((c+1:Nat):Int)-1)].length)).toArray 142 (0,0))=V8:=by
   rw[hV8,show(((c+1:Nat):Int)-1)=(c:Int)by omega];rfl
  erw [e8]
  obtain⟨fa,fb,hq7,-,-⟩:=f7.ex;have MN:=M8.narrow (hws.trans f7.sub);refine⟨nn,nn,_,M8.fault,λhz=>⟨nn,nn,_,Aj (M8.sub _ _ hq7) 8 1 (by simp[CZ]),?_⟩,λhz=>?_⟩
  .have hz:kf=0:=hz;rcases hc with⟨-,e⟩|⟨hk,-⟩
   .subst hz;exact XR.ok (by rw[hG];show((AU d F n (c+1) pr pr.body _ s).bind _)=_;rw[e];rfl) MN
   omega
  .rcases hc with⟨h,-⟩|⟨hk,e⟩;.omega
   .exact XR.bad (by rw[hG];show((AU d F n (c+1) pr pr.body _ s).bind _)=_;rw[e];rfl) hk MN
theorem allY(d:Ds)(p F:Nat):∀n,Ja d p F n
 |0=>λl W V0 V s c q pr vals sl X _ _ _=>absurd X.n (by have:=X.tk;omega)
 |n+1=>stsY (loopY (exprX (callY (allY d p F n))) (allY d p F n)) (bodyY (exprX (callY (allY d p F n))) (callY (allY d p F n)) (allY d p F n))
end
theorem copyInt{V:Mem}{b:Nat}{l:Sl}{xs:XZ}(g:V b=none)(h:Ae V l 1 (xs.map Aw))(t:xs.length<=2147483648){ty:Nat}{x y:Operand}{vals:Operand->Value}(z:vals x=.slice (sa b) 0 0)(o:vals y=uL l){Q:Value->Mem->Prop}(e:∀s V',Sx.Own V V' 3 1 s (xs.flatMap Aw)->Q (uL s) V'):
  GenK xV (.call {callee:=.builtin .append,args:=#[x,y],argTypes:=#[31,31]}) ty vals (V.set b (.cells #[] 3 (0,0))) Q:=by
 have s1:=Mem.sub_new g (.cells #[] 3 (0,0));exact app31 (s:=⟨some ⟨b,0,none⟩,0,0⟩) (u:=l) (xs:=[]) (ys:=xs) z o (Own.empty (V0:=V) s1 _ _ _) (h.sub s1) (by simpa using t) λs' V' J=>e s' V' (by simpa using J)
theorem c160{V:Mem}{m:Mm}(hm:Mm.Ok V m)(h1:m.globals.length<=2147483648)(h2:m.nodes.length<=4096)(h3:∀n∈m.nodes,n.f.length<=2147483648):Tri xV 160 #[m.v] V λe V'=>∃gs ns nd,e=.returned (.agg #[uL gs,uL ns])/\AK V V' gs ns Ah nd (AV m):=by
 refine x160 ?_;intro b0 Q;refine copyInt Q hm.globals h1 rfl rfl λgs V1 P=>?_;refine⟨gs,rfl,loop3u (mk:=uL) (mc:=uL) (b0:=gs) (c0:=⟨none,0,0⟩) AT AT m.nodes.length (λi b ns V2=>b=gs/\∃nd,AK V V2 gs ns Ah nd ⟨m.globals,(m.nodes.take i).map λn=>(n.ty,n.f),0,0,[]⟩/\nd.length=i) ⟨rfl,[],⟨P,Own.nil P.sub _ _,Own.nil P.sub _ _,(λn O=>by cases O),rfl,(λn O=>by cases O),(λi j n n' c h=>by cases h)⟩,rfl⟩ ?_⟩;rintro i b ns V2 J hi ⟨rfl,nd,L,E⟩ K;have Y:=hm.nodes.sub L.sub;refine⟨λg=>?_,λA=>?_⟩
 .obtain⟨x,o,T,-,I,z,N,u⟩:=Y.get g;have Z:=Ai (n:=i*2) z;have B:(i:Int)<(m.ns.n:Int):=g;refine⟨z,N,g,Z,x.ty,x.sl,u,z,N,g,Z,x.ty,x.sl,u,H1 (j:=1) (m:=1) u (by decide) (by decide),Z,z,N,g,JX (k:=1) u (by decide),Z,z,N,g,λb1 R=>?_⟩;refine copyInt R ((hm.nodesOk x o).rows.sub L.sub) (h3 x o) rfl rfl λfs V3 C=>?_;have t:=(Y.sub C.sub).get g;obtain⟨y,-,D,-,-,-,-,t⟩:=t;rw[T]at D;cases D;refine⟨fs,rfl,JX (k:=1) t (by decide),Z,z,N,g,λtb X=>L.new (n:=⟨x.ty,fs,x.f⟩) C X rfl rfl (by omega) λs' V' L' _=>⟨s',rfl,Y.succ g,K I _ _ _ ⟨rfl,nd++[⟨x.ty,fs,x.f⟩],?_,by simp_all⟩⟩⟩;grind[vq]
 .have U:=(Y.done A).2;rw[wm U]at L;exact⟨b,ns,nd,rfl,L⟩
section
variable{V V0:Mem}{d:Ds}{m:Mm}{F:Nat}{nm:KB}{args:XZ}{l:Sl}
theorem Mj(g:Ds.Ok V d)(hm:Mm.Ok V m){F:Int}:PP 28 [d.v,m.v,uI F] V (uI (BT d m F)):=by
 refine OS ?_;have bad:¬An d m->(xY (uI 1)=Id (BT d m F)/\V=V):=λh=>⟨by grind[BT],rfl⟩;refine(JL g).call ⟨_,rfl,λh1=>(Nq g).call ⟨_,rfl,λh2=>(Ly g hm).call ⟨_,rfl,λh3=>?_,λh3=>bad λG=>h3 G.mem⟩,λh2=>bad λG=>h2 ?_⟩,λh1=>bad λG=>h1 G.valid⟩
 .have h2:F7 d=true:=h2;unfold F7 at h2;rw[zD,decide_eq_true_eq]at h2;have G:An d m:=⟨h1,chk_none h2.2,h3⟩;refine⟨λh=>⟨?_,rfl⟩,λh=>⟨λh2=>⟨?_,rfl⟩,λh2=>⟨?_,rfl⟩⟩⟩;.grind[BT]
  .grind[BT]
  grind[BT]
 .show F7 d=true;unfold F7;rw[G.chk,G.valid];rfl
theorem c115(o:Ds.Ok V d)(hm:Mm.Ok V m)(O:Ae V l 1 (args.map Aw)):
  PP 115 [d.v,m.v,.agg #[uS nm,l.v]] V (uI (A1 d m nm args)):=by
 refine x115 ?_;have fin:∀{e:Int},A1 d m nm args=e->(xY (uI e)=Id (A1 d m nm args)/\V=V):=λe=>⟨by rw[e],rfl⟩;refine(c159 o).call ⟨_,rfl,λh=>?_,λh=>?_⟩;.grind[A1,BG]
 .have h:¬BG d nm<0:=h;rcases Cv (λt:Pr=>decide (t.name=nm)) d.procs with⟨h1,-⟩|⟨i,pr,h1,h2,-⟩;.omega
  have hi:BG d nm=(i:Int):=h1;have hn:=o.procs.n_eq;have hil:=(yg.1 h2).1;obtain⟨y,A,K,-,-,hp,hz,N⟩:=o.procs.get (i:=i) (by omega);rw[h2]at K;cases K;have T:A1 d m nm args=if args.length=pr.params.length then(if AE d m pr.params args=true then 0 else 11)else 3:=by grind[A1]
  have Z:=(o.procsOk pr A).params;have hln:=Z.n_eq;have han:=O.n_eq;rw[h1];refine⟨hp,hz,by omega,_,_,_,_,_,N,λu=>?_,λu=>?_⟩
  .have u:(l.n:Int)=(pr.ps.n:Int):=u;have Y:args.length=pr.params.length:=by omega
   rw[if_pos Y]at T;refine AG (mk:=λk:Int=>uI k) (b0:=0) args.length (λj V1=>V1=V/\∀(i:Nat) f v,i<j->pr.params[i]?=some f->args[i]?=some v->AW d m f.ty v=true) ⟨rfl,λi f v h=>by omega⟩ ?_;rintro j b V1 J hj ⟨rfl,Q⟩ hJ;refine⟨λz=>?_,λI=>?_⟩
   .obtain⟨v,hvm,hv,-,L,R,X,B⟩:=O.get z;obtain⟨f,hfm,C,-,-,P,D,E⟩:=Z.get (i:=j) (by omega);refine⟨P,D,by omega,Ai P,_,_,E,R,X,z,v,B,(Lx o hm).call ⟨_,rfl,λU=>⟨O.succ z,hJ L _ _ ⟨rfl,λi g w hi' hg hw=>?_⟩⟩,λU=>fin ?_⟩⟩;.grind
    .rw[T,if_neg λk=>U ((C8.1 k).2 j f v C hv)]
   .have hd2:=(O.done I).2;have hval:AE d m pr.params args=true:=C8.2 ⟨Y.symm,λi f v C hv=>Q i f v (by grind) C hv⟩;simp_all
  grind
theorem good_lens(G:An d m):m.globals.length<=2147483648/\m.nodes.length<=4096/\∀n∈m.nodes,n.f.length<=2147483648:=by
 obtain⟨p1,u,p3,Z,z⟩:=BR G.mem;have o:=lens12 G.valid;refine⟨by grind[C8],u,λn t=>?_⟩;have:=(C8.1 (z n t)).1;have e:=of_decide_eq_true (p3 n t);obtain⟨j,J⟩:∃j:Nat,n.ty=(j:Int):=⟨n.ty.toNat,by omega⟩;have g:j<d.types.length:=by omega
 have N:=yf g;rw[J,Ew N rfl]at this;grind
def PlayX(V0:Mem)(d:Ds)(F:Nat)(m:Mm)(nm:KB)(args:XZ):RP:=λe V'=>
 ∃p,∃r:Rx Int,r=CX d F (BG d nm) args (AV m)/\XM V0 d p F V' r.st (outV r) (outC r)/\e=.returned (pv p)
theorem c116(Y:Ds.Ok V d)(hm:Mm.Ok V m)(G:An d m)(X:Ae V l 1 (args.map Aw))(hc:A1 d m nm args=0)(B:F<=4000):
  Tri xV 116 #[d.v,m.v,.agg #[uS nm,l.v],uI F] V (PlayX V d F m nm args):=by
 refine x116 (R:=PlayX V d F m nm args) ?_;obtain⟨i,pr,Q,o,u⟩:=Me hc;obtain⟨C,D,E⟩:=good_lens G;refine Tri.mono (c160 hm C D E) ?_;rintro _ V1 ⟨gs,ns,nd,rfl,L⟩;refine⟨gs,ns,rfl,(c159 (Y.sub L.sub)).call ⟨_,rfl,?_⟩⟩;rw[show B1 (λt:Pr=>decide (t.name=nm)) d.procs=(i:Int)from Q];intro p P;have p0:V p=none:=free L.sub P;have s1:=Mem.sub_new P (.cells (AH d F 0 0 0 0 0 gs ns Ah).toArray 142 (0,0));have K:XM V d p F (V1.set p (.cells (AH d F 0 0 0 0 0 gs ns Ah).toArray 142 (0,0))) (AV m) ((0:Nat):Int) 0:=⟨p0,gs,ns,Ah,nd,by rw[Mem.set_same];rfl,L.grow s1⟩;have T:=callY (allY d p F (F+1)) V (V1.set p (.cells (AH d F 0 0 0 0 0 gs ns Ah).toArray 142 (0,0))) (AV m) 0 i pr args l ⟨Y,G.valid,Kq G.valid G.chk,B⟩ o (I5 G) (BS (KA (Kz m).symm) u) X K (by show 0<=F;omega) (by omega) (by unfold BW;simp[AV]);refine XR.any T λv z s2 V2 O U=>?_;obtain⟨J,N,Z,nd2,g,L2⟩:=O.ex;refine⟨AJ,AJ,Am.at2 (off:=12) g (by simp[AH]) ?_⟩;have A:XM V d p F (V2.set p (.cells (AH d F s2.tk v z s2.cm (AZ s2.lg) J N Z).toArray 142 (0,0))) s2 v z:=MA.set (row':=AH d F s2.tk v z s2.cm (AZ s2.lg)) EB O.p0 g L2 rfl rfl rfl rfl;have I:CX d F (BG d nm) args (AV m)=Ck d (AU d F (F+1)) 0 i args (AV m):=by rw[Q];rfl
 rcases U with⟨rfl,e⟩|⟨hk0,rfl,e⟩;.exact⟨p,.ok v s2,by rw[I,e],A,rfl⟩
 .exact⟨p,.bad z s2,by rw[I,e],A,rfl⟩
theorem QL{p:Nat}{s:St}{c k:Int}(M:XM V0 d p F V s c k):PP 67 [pv p] V (.agg (Bz k c s.cm (AZ s.lg)).toArray):=by
 obtain⟨gs,ns,ls,nd,g,L⟩:=M.ex;refine Pu ?_;exact⟨nn,nn,_,Aj g 13 1 (by simp[AH]),nn,nn,_,Aj g 12 1 (by simp[AH]),nn,nn,_,_,_,Aj g 14 3 (by simp[AH]),rfl,rfl⟩
def StartX(V:Mem)(d:Ds)(F:Nat)(m:Mm)(nm:KB)(args:XZ):RP:=λe V'=>
 (Cg d m nm args F≠0/\V.sub V'/\∃q,V' q=some (.cells ([Go.Sx.vS (Ab []),Ah.v,Ah.v,Ah.v,Ah.v,Ah.v,Ah.v,Ah.v,Ah.v,Ah.v,uI 0,uI 0,uI 0,uI 0,uI 0,uI 0,uI 0,Ah.v]:XV).toArray 142 (0,0))/\e=rT #[pv q,uI (Cg d m nm args F)])∨
 (Cg d m nm args F=0/\∃p,∃r:Rx Int,r=CX d F (BG d nm) args (AV m)/\XM V d p F V' r.st (outV r) (outC r)/\e=rT #[pv p,uI 0])
theorem QM(u:Ds.Ok V d)(hm:Mm.Ok V m)(z:Ae V l 1 (args.map Aw))(o:F<=4000):Tri xV 66 #[d.v,m.v,.agg #[uS nm,l.v],uI F] V (StartX V d F m nm args):=by
 refine Pt (R:=StartX V d F m nm args) ?_;have bad:∀{e:Int},Cg d m nm args F=e->e≠0->∀b,V b=none->StartX V d F m nm args (rT #[pv b,uI e]) (V.set b (.cells ([Go.Sx.vS (Ab []),Ah.v,Ah.v,Ah.v,Ah.v,Ah.v,Ah.v,Ah.v,Ah.v,Ah.v,uI 0,uI 0,uI 0,uI 0,uI 0,uI 0,uI 0,Ah.v]:XV).toArray 142 (0,0))):=λh J b g=>.inl ⟨by rw[h];exact J,Mem.sub_new g _,b,Mem.set_same _ _ _,by rw[h]⟩;refine(Mj u hm).call ⟨_,rfl,λt=>?_,λt=>⟨λh=>absurd h t,λ_ b g=>?_⟩⟩
 .have G:=I6 t;have N:Cg d m nm args F=A1 d m nm args:=by grind[Cg]
  refine(c115 u hm z).call ⟨_,rfl,λh1=>?_,λh1 b g=>bad N h1 b g⟩;refine Tri.mono (c116 u hm G z h1 o) ?_;rintro _ V1 ⟨p,r,Z,M,rfl⟩;exact⟨_,rfl,.inr ⟨by omega,p,r,Z,M,rfl⟩⟩
 .exact bad (by grind[Cg]) t b g
theorem QN(u:Ds.Ok V d)(hm:Mm.Ok V m)(z:Ae V l 1 (args.map Aw))(o:F<=4000):Tri xV 30 #[d.v,m.v,.agg #[uS nm,l.v],uI F] V (RunP V d F m nm args):=by
 refine OU (R:=RunP V d F m nm args) ?_;refine Tri.mono (QM u hm z o) ?_;rintro e V1 (⟨t,J,q,-,rfl⟩|⟨t,p,r,N,M,rfl⟩);.exact⟨_,_,rfl,λh=>absurd h t,λ_=>.inl ⟨t,J,rfl⟩⟩
 .obtain⟨gs,ns,ls,nd,g,L⟩:=M.ex;exact⟨_,_,rfl,λ_=>⟨nn,nn,gs,ns,Aj g 8 2 (by simp[AH]),(QL M).call ⟨_,_,_,_,_,rfl,Do g 8 0 2 (by simp[AH]),nn,nn,Do g 8 0 2 (by simp[AH]),nn,nn,.inr ⟨t,r,gs,ns,ls,nd,N,L,rfl⟩⟩⟩,λh=>absurd rfl h⟩
end
section
variable{V V0:Mem}{d:Ds}{m:Mm}{nm:KB}{args:XZ}{l:Sl}
theorem Jb{F:Int}(h:BT d m F=0):0<=F/\F<=1048576:=by
 grind[BT]
end
def CN(s:St):St:=⟨s.g,s.ns,0,0,[]⟩
abbrev O4:=Int×Int×Nat×Nat
def oRow(o:O4):XV:=Bz o.1 o.2.1 o.2.2.1 o.2.2.2
def outO(r:Rx Int):O4:=(outC r,outV r,r.st.cm,AZ r.st.lg)
structure Be where
 name:KB
 sl:Sl
 args:XZ
def Be.row(c:Be):XV:=[uS c.name,c.sl.v]
structure Cls.Ok (V:Mem)(l:Sl)(cs:List Be):Prop where
 rows:Ae V l 2 (cs.map Be.row)
 args:∀c∈cs,Ae V c.sl 1 (c.args.map Aw)
theorem Cls.Ok.sub{V V':Mem}{l:Sl}{cs:List Be}(h:Cls.Ok V l cs)(g:V.sub V'):Cls.Ok V' l cs:=⟨h.rows.sub g,λc t=>(h.args c t).sub g⟩
section
variable(d:Ds)(F:Nat)
def CP(c:Be)(s:St):Rx Int:=CX d F (BG d c.name) c.args s
def Fl:St->List Be->Int
 |_,[]=>0
 |s,c::cs=>if A1 d s.mm c.name c.args=0 then Fl (CN (CP d F c s).st) cs else A1 d s.mm c.name c.args
def GS:St->List Be->List O4
 |_,[]=>[]
 |s,c::cs=>outO (CP d F c s)::GS (CN (CP d F c s).st) cs
def FL:St->List Be->St
 |s,[]=>s
 |s,c::cs=>FL (CN (CP d F c s).st) cs
end
noncomputable def scrE(d:Ds)(F:Int)(m:Mm)(cs:List Be):Int:=if BT d m F=0 then(if 2000<cs.length then 4 else Fl d F.toNat (AV m) cs)else BT d m F
theorem loop6{V:Mem}{B:Sl->Sl->Sl->Int->Sl->Int->Mem->(KZ)->Prop}{a0 b0 x0:Sl}{y0:Int}{c0:Sl}(len:Nat)(St:Nat->Sl->Sl->Sl->Mem->Prop)(Y:St 0 a0 b0 c0 V)
  (step:∀(i:Nat)(a b x:Sl)(y:Int)(c:Sl) V1 J,i<=len->St i a b c V1->(i<len->∀(g t z:Sl)(e:Int)(u:Sl) V2,St (i+1) g t u V2->J [uL g,uL t,uL z,uI e,uL u,uI ((i:Int)+1)] V2)->B a b x y c (i:Int) V1 J):
  ∃(I:Nat->KZ)(Q:Nat),I Q [uL a0,uL b0,uL x0,uI y0,uL c0,uI 0] V/\∀n V1,∀(a b x:Sl)(y:Int)(c:Sl)(v:Int),I n [uL a,uL b,uL x,uI y,uL c,uI v] V1->∀J:KZ,(∀m ys o,m<n->I m ys o->J ys o)->B a b x y c v V1 J:=by
 refine⟨LI len λi xs V=>∃(a b x:Sl)(y:Int)(c:Sl),xs=[uL a,uL b,uL x,uI y,uL c,uI i]/\St i a b c V,len,LI.start ⟨a0,b0,x0,y0,c0,rfl,Y⟩,?_⟩;rintro n V1 a b x y c v ⟨i,rfl,P,g,t,z,e,u,Z,O⟩ J A;simp only[zP,yA,true_and,and_true]at Z;obtain⟨h1,h2,h3,rfl,L,rfl⟩:=Z;cases AT _ _ h1;cases AT _ _ h2;cases AT _ _ L;exact step i _ _ _ _ _ V1 J P O λN g t z e u V2 h2=>LI.next A N ⟨g,t,z,e,u,rfl,h2⟩
theorem app59:AppP 59 46 5 oRow:=appG Tryz.underlying59 (by kernel_rfl) (by kernel_rfl) (by kernel_rfl) (by kernel_rfl) (by kernel_rfl) (by decide) (by intro _;rfl) λx u hu=>by simp only[oRow,Bz,List.mem_cons,List.not_mem_nil,or_false]at hu;rcases hu with rfl|rfl|rfl|rfl|rfl<;>rfl
theorem one_out{V:Mem}{b t:Nat}(o:O4)(h:V b=some (.cells (oRow o).toArray t (0,0))):Ae V ⟨some ⟨b,0,none⟩,1,1⟩ 5 ([o].map oRow):=
 Ae.cells (xs:=[o]) (row:=oRow) h rfl (λ_=>rfl) rfl (by simp)
section
variable{V V0:Mem}{d:Ds}{F:Nat}{m:Mm}{l:Sl}{cs:List Be}
theorem Hs{s:St}{a b:Sl}{nd:XH}(h:nd.map (λn=>(n.ty,n.f))=s.ns):(⟨a,s.g,b,nd⟩:Mm).plain=s.mm.plain:=by
 grind[St.plain,Mm.plain]
theorem lay_rs{W V:Mem}{gs ns ls:Sl}{nd:XH}{s:St}(L:AK W V gs ns ls nd s):AK W V gs ns Ah nd (CN s):=⟨L.glob,L.nodes,Own.nil L.sub _ _,L.fld,L.eq,L.gf,L.ff⟩
theorem st_eta{s:St}(h:s=CN s){a b:Sl}{nd:XH}(t:nd.map (λn=>(n.ty,n.f))=s.ns):AV ⟨a,s.g,b,nd⟩=s:=by
 grind[AV,CN]
def ScrP(V:Mem)(d:Ds)(F:Int)(m:Mm)(cs:List Be):RP:=λe V'=>V.sub V'/\
 ((scrE d F m cs≠0/\e=rT #[Ah.v,.agg #[Ah.v,Ah.v],uI (scrE d F m cs)])∨
 (scrE d F m cs=0/\∃(o a b:Sl)(nd:XH),Ae V' o 5 ((GS d F.toNat (AV m) cs).map oRow)/\Mm.Ok V' ⟨a,(FL d F.toNat (AV m) cs).g,b,nd⟩/\nd.map (λn=>(n.ty,n.f))=(FL d F.toNat (AV m) cs).ns/\An d (FL d F.toNat (AV m) cs).mm/\e=rT #[o.v,.agg #[a.v,b.v],uI 0]))
structure At (d:Ds)(F:Nat)(s0:St)(cs:List Be)(j:Nat)(outs:List O4)(s:St):Prop where
 err:Fl d F s0 cs=Fl d F s (cs.drop j)
 out:GS d F s0 cs=outs++GS d F s (cs.drop j)
 st:FL d F s0 cs=FL d F s (cs.drop j)
 len:outs.length=j
 rs:s=CN s
 good:An d s.mm
theorem At.start{s:St}(h:s=CN s)(G:An d s.mm):At d F s cs 0 [] s:=⟨by rfl,by rfl,by rfl,rfl,h,G⟩
theorem At.next{s0 s:St}{j:Nat}{outs:List O4}{c:Be}(h:At d F s0 cs j outs s)(hc:cs.drop j=c::cs.drop (j+1))(o:A1 d s.mm c.name c.args=0)(g:An d (CP d F c s).st.mm):At d F s0 cs (j+1) (outs++[outO (CP d F c s)]) (CN (CP d F c s).st):=by
 have z:=h.err;have t:=h.out;have u:=h.st;rw[hc]at z t u;refine⟨?_,?_,u,by rw[zK,h.len];rfl,rfl,⟨g.valid,g.chk,g.mem⟩⟩;.grind[Fl]
 .rw[t,GS];simp
theorem At.stop{s0 s:St}{j:Nat}{outs:List O4}{c:Be}(h:At d F s0 cs j outs s)(hc:cs.drop j=c::cs.drop (j+1))(g:A1 d s.mm c.name c.args≠0):Fl d F s0 cs=A1 d s.mm c.name c.args:=by
 rw[h.err,hc,Fl,if_neg g]
theorem N6[Tab V](B:Ds.Ok V d)(hm:Mm.Ok V m)(N:Cls.Ok V l cs){F:Int}(hF:F<=3000∨1048576<F):Tri xV 25 #[d.v,m.v,l.v,uI F] V (ScrP V d F m cs):=by
 refine Qa (R:=ScrP V d F m cs) ?_;have hln:=N.rows.n_eq;have bad:∀{k:Int}{V':Mem},scrE d F m cs=k->k≠0->V.sub V'->ScrP V d F m cs (rT #[Ah.v,.agg #[Ah.v,Ah.v],uI k]) V':=λh t hs=>⟨hs,.inl ⟨by rw[h];exact t,by rw[h]⟩⟩;refine(NX B hm).call ⟨_,rfl,λC=>⟨λT=>?_,λT=>?_⟩,λC=>?_⟩;.exact bad (by grind[scrE]) (by decide) (Mem.sub.refl _)
 rotate_left;.exact bad (by grind[scrE]) C (Mem.sub.refl _)
 have T:¬(2000:Int)<(l.n:Int):=T;have G:=I6 C;have hf:=Jb C;obtain⟨n,rfl⟩:∃n:Nat,F=(n:Int):=⟨F.toNat,by omega⟩;have O:scrE d (n:Int) m cs=Fl d n (AV m) cs:=by grind[scrE]
 obtain⟨l1,l2,l3⟩:=good_lens G;refine Tri.mono (NY hm l1 l2 l3) ?_;rintro _ V1 ⟨gs,ns,nd,rfl,L⟩;refine⟨gs,ns,rfl,loop6 (x0:=Ah) (y0:=0) (c0:=Ah) cs.length (λj a b o V2=>∃W outs s nd,V.sub W/\Sx.Own V W 46 5 o (outs.flatMap oRow)/\AK W V2 a b Ah nd s/\At d n (AV m) cs j outs s) ⟨V,[],AV m,nd,Mem.sub.refl _,Own.nil (Mem.sub.refl _) _ _,L,.start rfl (I5 G)⟩ ?_⟩;rintro j a b x y o V2 J hj ⟨W,outs,s,nd,z,U,L,A⟩ hJ;have Z:=N.sub (z.trans L.sub);refine⟨λY=>?_,λhge=>?_⟩
 .obtain⟨c,hcm,hc,I,hjl,hp,hz,X⟩:=Z.rows.get Y;have hst:=st_eta (a:=a) (b:=b) A.rs L.eq;have Gm:An d ⟨a,s.g,b,nd⟩:=⟨A.good.valid,A.good.chk,Gh (Hs L.eq).symm A.good.mem⟩;have hmk:=(Hq (B.sub z) L A.good).1;have Q:A1 d ⟨a,s.g,b,nd⟩ c.name c.args=A1 d s.mm c.name c.args:=KE (Hs L.eq);refine⟨hp,hz,Y,_,_,X,Tri.mono (N1 (F:=n) (m:=⟨a,s.g,b,nd⟩) ⟨B.sub z,G.valid,Kq G.valid G.chk,by omega⟩ (by grind) hmk Gm ((N.args c hcm).sub z)) ?_⟩;rintro e V3 (⟨t,s3,rfl⟩|⟨t,p,cc,r,D,M,rfl⟩)
  .rw[Q]at t⊢;exact⟨_,_,_,_,_,_,_,rfl,λh=>absurd h t,λ_=>bad (O.trans (A.stop I t)) t (z.trans (L.sub.trans s3))⟩
  .rw[Q]at t;rw[hst]at D;have D:r=CP d n c s:=D;refine⟨_,_,_,_,_,_,_,rfl,λ_ tb htb=>?_,λh=>absurd rfl h⟩;have ho3:Sx.Own V V3 46 5 o (outs.flatMap oRow):=Own.moveB U (z.trans M.sub) λg cur _ hg=>M.sub _ _ hg;refine app59 (s:=o) (u:=⟨some ⟨tb,0,none⟩,1,1⟩) (xs:=outs) (ys:=[outO r]) rfl rfl (ho3.but.new htb (.cells (oRow (outO r)).toArray 46 (0,0))) (one_out (outO r) Av) (by have:=A.len;simp;omega) λo4 V4 ho4=>⟨o4,rfl,?_⟩;obtain⟨W',hW',M4,ho5⟩:=M.beside z U ho4;obtain⟨gs4,ns4,ls4,nd4,hat,L4⟩:=M4.ex;have hgd:An d (CP d n c s).st.mm:=by
    have:=I8 (F:=n) Gm (by rw[Q];exact t);simp_all
   have A':=A.next I t hgd;rw[<-D]at A';exact⟨nn,nn,gs4,ns4,Aj hat 8 2 (by simp[AL]),Z.rows.succ Y,hJ hjl _ _ _ _ _ _ ⟨W',_,_,nd4,hW',ho5,lay_rs L4,A'⟩⟩
 .have hdn:=(Z.rows.done hge).2;have E:=A.err;have K:=A.out;have P:=A.st;rw[uc hdn]at E K P;have E:Fl d n (AV m) cs=0:=E;have K:GS d n (AV m) cs=outs:=by rw[K];simp[GS]
  have P:FL d n (AV m) cs=s:=P;refine⟨z.trans L.sub,.inr ⟨O.trans E,o,a,b,nd,?_,?_,?_,?_,rfl⟩⟩
  .show Ae V2 o 5 ((GS d n (AV m) cs).map oRow);rw[K];exact(U.rows (λ_=>rfl) (by decide)).sub L.sub
  .show Mm.Ok V2 ⟨a,(FL d n (AV m) cs).g,b,nd⟩;rw[P];exact(Hq (B.sub z) L A.good).1
  .show _=(FL d n (AV m) cs).ns;rw[P];exact L.eq
  .show An d (FL d n (AV m) cs).mm;rw[P];exact A.good
end
end Go.Proofs
