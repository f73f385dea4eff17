/- Part 23: no statement of the seat is proved here. -/
import Derived.Test.YtmeagdecjpknkaaGreatDoorPs22
set_option linter.unusedVariables false
set_option linter.unusedSimpArgs false
open List renaming replicate->yJ,mem_replicate->uq,take_length->uu,map_append->yP,length_map->x7
open Go.Proofs.Tryz renaming prog->xE
open Prod renaming fst->uo,snd->um
open Nat renaming zero_le->uy,le_refl->yV
open Prod.mk renaming inj->wh
open Function renaming comp_def->uk
open Int renaming toNat_natCast->xo
open List.cons renaming injEq->yE
namespace Go.Proofs
open Go Go.Sx
attribute [local irreducible] Go.Sx.Tri
def qHp(d:Ds)(s:Sl):Mm:=⟨s,yJ d.globals.length 0,qAx,[]⟩
def st0(d:Ds):St:=⟨yJ d.globals.length 0,[],0,0,[]⟩
section
variable{V:Mem}{d:Ds}
theorem c65[Tab V](f:Ds.Ok V d):Tri xE 65 #[d.v] V λe V'=>V.sub V'/\((qJD d=false/\e=.returned (.tuple #[.agg #[qAx.v,qAx.v],.int .i64 1]))∨(qJD d=true/\∃s:Sl,e=.returned (.tuple #[.agg #[s.v,qAx.v],.int .i64 0])/\Mm.Ok V' (qHp d s))):=by
 refine x65 ?_;have u:=f.globals.n_eq;have m:=f.globals.cap;have r:=f.globals.fit;refine Tri.mono (c78 f) ?_;rintro _ V1 ⟨q,rfl,y,⟨t,b,rfl,-⟩|⟨t,rfl⟩⟩
 ·have w:=(qGk (qKC t)).1;refine⟨_,rfl,λh=>absurd h (by intro h;cases h),λ_=>mk31 (n:=d.gs.n) rfl rfl (by omega) λg w=>⟨⟨some ⟨g,0,none⟩,d.gs.n,d.gs.n⟩,rfl,y.trans (Zn w _),.inr ⟨t,_,rfl,?_⟩⟩⟩;have o:=qDI w (n:=d.gs.n) (by omega);rw[u]at o⊢;exact⟨o.rows (λ_=>rfl) (by decide),λx i=>by rw[(uq.1 i).2];unfold inI;decide,qAc.nil,λn u=>by cases u⟩
 ·exact⟨_,rfl,λ_=>⟨y,.inl ⟨by simpa using t,rfl⟩⟩,λh=>absurd rfl h⟩
theorem c34(t:Ds.Ok V d)(u:d.globals.length<=8):Tri xE 34 #[d.v] V λe V'=>V.sub V'/\∃s:Sl,e=.returned (.agg #[s.v,qAx.v])/\Mm.Ok V' (qHp d s):=by
 refine x34 ?_;have h:=t.globals.n_eq;refine mk31 (n:=d.gs.n) rfl rfl (by omega) λg f=>⟨⟨some ⟨g,0,none⟩,d.gs.n,d.gs.n⟩,rfl,Zn f _,_,rfl,?_⟩;have o:=qDI f (n:=d.gs.n) (by omega);rw[h]at o⊢;exact⟨o.rows (λ_=>rfl) (by decide),λx w=>by rw[(uq.1 w).2];unfold inI;decide,qAc.nil,λn h=>by cases h⟩
end
def o5Row(x:O4×Nat):List Value:=[.int .i64 x.1.1,.int .i64 x.1.2.1,.int .i64 x.1.2.2.1,.int .i64 x.1.2.2.2,.int .i64 x.2]
theorem app5:AppP 73 54 5 o5Row:=appG Tryz.underlying73 (by kernel_rfl) (by kernel_rfl) (by kernel_rfl) (by kernel_rfl) (by kernel_rfl) (by decide) (by intro _;rfl) λx u hu=>by simp only[o5Row,List.mem_cons,List.not_mem_nil,or_false]at hu;rcases hu with rfl|rfl|rfl|rfl|rfl<;>rfl
theorem eq5{V:Mem}{s t:Sl}{xs:List (O4×Nat)}(h:qAc V s 5 (xs.map o5Row))(k:qAc V t 5 (xs.map o5Row)):PP 30 [.slice s.p s.n s.c,.slice t.p t.n t.c] V (.bool true):=by
 refine x30 ?_;have A:=h.n_eq;have I:=k.n_eq;refine⟨λq=>?_,λq=>absurd (by omega) q⟩;refine qAM (mk:=.bool) (b0:=false) xs.length (λi V1=>V=V1) rfl ?_;rintro i b V1 J M rfl e;refine⟨λg=>?_,λv=>⟨rfl,rfl⟩⟩;obtain⟨x,H,G,-,w,N,Z,u⟩:=h.get g;obtain⟨y,Y,a,-,P,m,r,f⟩:=k.get (i:=i) (by omega);rw[G]at a;cases a;exact⟨N,Z,g,_,_,_,_,_,u,m,r,by omega,_,_,_,_,_,f,λ_=>⟨h.succ g,e w _ _ rfl⟩,λO=>absurd ⟨rfl,rfl,rfl,rfl,rfl⟩ O⟩
noncomputable def plcF(d:Ds)(s:St)(k:Int)(z:Nat):List Int:=by
 classical
 exact if h:∃zs,qAJ d s.mm k z zs then h.choose else[]
theorem plcF_eq{d:Ds}{s:St}{k:Int}{z:Nat}{zs:List Int}(hv:qAy d s.mm=true)(f:1<=z)(h:qAJ d s.mm k z zs):zs=plcF d s k z:=by
 have g:∃zs,qAJ d s.mm k z zs:=⟨zs,h⟩;unfold plcF;rw[dif_pos g];grind[place_eq]
noncomputable def xN(d:Ds)(k:Int)(z most:Nat)(r:Rx Int)(p:List Int×List Int):List Int×List Int:=
 if 0<k then(plcF d (rsS r.st) k z,[])else((qCc z r.st.lg p.1).1,qKk most p.2 (qCc z r.st.lg p.1).2)
def xM(z most:Nat)(r:Rx Int)(p:List Int×List Int):Nat:=qIG most p.2 (qCc z r.st.lg p.1).2
section
variable(d:Ds)(F:Nat)(k:Int)(z most:Nat)
noncomputable def xB:List Int×List Int->St->List Cl2->List Nat
 |_,_,[]=>[]
 |p,s,c::cs=>xM z most (qBP d F c s) p::xB (xN d k z most (qBP d F c s) p) (rsS (qBP d F c s).st) cs
end
structure XAt (d:Ds)(F:Nat)(k:Int)(z most:Nat)(cs:List Cl2)(j:Nat)(outs:List (O4×Nat))(s:St)(p:List Int×List Int):Prop where
 at_:At d F (st0 d) cs j (outs.map uo) s
 bs:xB d F k z most ([],[]) (st0 d) cs=outs.map um++xB d F k z most p s (cs.drop j)
 plc:Plc p.1 z
 low:Low p.1
 pl:p.1.length=s.ns.length
 cl:p.2.length<=most
 cs0:0<k->p.2=[]
section
variable{d:Ds}{F:Nat}{k:Int}{z most:Nat}{cs:List Cl2}{j:Nat}{outs:List (O4×Nat)}{s:St}{p:List Int×List Int}{c:Cl2}
theorem XAt.start(G:qAw d (qHp d qAx)):XAt d F k z most cs 0 [] (st0 d) ([],[]):=
 ⟨.start rfl (by exact G.plain rfl),rfl,⟨by simp,by simp⟩,λb h=>(by cases h),rfl,uy _,λ_=>rfl⟩
theorem tchL_len(hm:1<=most):∀(l c:List Int),c.length<=most->(qKk most c l).length<=most
 |[],_,h=>h
 |b::l,c,h=>tchL_len hm l (tch most c b) (tch_len hm h b)
theorem XAt.next(h:XAt d F k z most cs j outs s p)(u:cs.drop j=c::cs.drop (j+1))(h0:qCr d s.mm c.name c.args=0)(f:1<=z)(hm:1<=most)(t:0<k->qAJ d (rsS (qBP d F c s).st).mm k z (plcF d (rsS (qBP d F c s).st) k z))(g:qAw d (qBP d F c s).st.mm)
  (y:qKf s.ns.length (qBP d F c s).st.lg (qBP d F c s).st.ns.length) (n:(qBP d F c s).st.ns.length<=4096):
  XAt d F k z most cs (j+1) (outs++[(outO (qBP d F c s),xM z most (qBP d F c s) p)]) (rsS (qBP d F c s).st) (xN d k z most (qBP d F c s) p):=by
 have x:=y.len;have a1:=blk_plc (lg:=(qBP d F c s).st.lg) h.plc h.low (by omega) (by rw[h.pl];omega) (qBP d F c s).st.lg.length (yV _);have a2:=qMh (size:=(z:Int)) (lg:=(qBP d F c s).st.lg) (pl:=p.1) (qBP d F c s).st.lg.length (yV _);rw[uu]at a1 a2;have w:=h.bs;rw[u]at w;have i:xN d k z most (qBP d F c s) p=if 0<k then(plcF d (rsS (qBP d F c s).st) k z,[])else((qCc z (qBP d F c s).st.lg p.1).1,qKk most p.2 (qCc z (qBP d F c s).st.lg p.1).2):=rfl
 refine⟨?_,?_,?_,?_,?_,?_,?_⟩;·rw[yP];exact h.at_.next u h0 g
 ·rw[w,yP,List.append_assoc];rfl
 all_goals rw[i]
 all_goals by_cases c:0<k
 all_goals first|rw[if_pos c]|rw[if_neg c]
 ·exact(qGL g.mem f (t c)).1
 ·exact a1.1
 ·exact(qGL g.mem f (t c)).2.1
 ·exact a1.2
 ·rw[(qGL g.mem f (t c)).2.2];exact x7 ..
 ·show(qCc _ _ _).1.length=(qBP d F _ s).st.ns.length;rw[a2,h.pl];omega
 ·grind
 ·exact tchL_len hm _ _ h.cl
 ·grind
 omega
theorem XAt.done(h:XAt d F k z most cs j outs s p)(w:cs.length<=j):scE d F (st0 d) cs=0/\scO d F (st0 d) cs=outs.map uo/\scS d F (st0 d) cs=s/\xB d F k z most ([],[]) (st0 d) cs=outs.map um:=by
 have g:=h.at_.err;have f:=h.at_.out;have t:=h.at_.st;have u:=h.bs;rw[List.drop_eq_nil_of_le w]at g f t u;exact⟨g,by rw[f];simp[scO],t,by rw[u];simp[xB]⟩
noncomputable def qKm(d:Ds)(cs:List Cl2)(k size most F:Int):Int:=if qAF d (qHp d qAx) 0=0 then(if 0<=k/\k<=4/\1<=size/\size<=64/\1<=most/\most<=1000/\0<=F/\F<=1048576 then(if 2000<cs.length then 4 else scE d F.toNat (st0 d) cs)else 2)else 1
theorem qJF{m m':Mm}(h:m.plain=m'.plain){F:Int}:qAF d m F=qAF d m' F:=by
 have:qAw d m↔qAw d m':=⟨λG=>G.plain h,λG=>G.plain h.symm⟩;grind[qAF]
def ScxP(V:Mem)(d:Ds)(cs:List Cl2)(k size most F:Int):Ending->Mem->Prop:=λe V'=>V.sub V'/\
 ((qKm d cs k size most F≠0/\e=.returned (.tuple #[qAx.v,.agg #[qAx.v,qAx.v],.int .i64 (qKm d cs k size most F)]))∨
 (qKm d cs k size most F=0/\∃(o:Sl)(x:Mm)(outs:List (O4×Nat)),qAc V' o 5 (outs.map o5Row)/\outs.map uo=scO d F.toNat (st0 d) cs/\outs.map um=xB d F.toNat k size.toNat most.toNat ([],[]) (st0 d) cs/\Mm.Ok V' x/\x.plain=(scS d F.toNat (st0 d) cs).mm.plain/\qAw d x/\e=.returned (.tuple #[o.v,.agg #[x.gs.v,x.ns.v],.int .i64 0])))
end
abbrev OB:=54
def QO(Q:Mem->Mem->Prop)(o:Sl)(xs:List (O4×Nat)):Mem->Mem->Prop:=λW V=>∃h,Sx.Own W h OB 5 o (xs.flatMap o5Row)/\Q h V
theorem pushG{W V V1:Mem}{e sz:Nat}{s s':Sl}{xs ys:List Value}(o:Sx.Own W V e sz s xs)(h:Sx.Own (V.but s) V1 e sz s' ys):Sx.Own W V1 e sz s' ys/\(∀c,¬Blk s c->V c≠none->V1 c=V c)/\∀c,Blk s' c->Blk s c∨V c=none:=by
 refine⟨h.narrow o.sub_but,λc g hv=>?_,λc g=>?_⟩
 ·cases e:V c with
  |none=>grind
  |some x=>exact h.sub _ _ (Mem.but_at e g)
 ·have h0:=Own.none0 h g;by_cases f:Blk s c;·exact .inl f
  ·right;cases hv:V c with
   |none=>rfl
   |some o=>grind[Mem.but_at]
def subQ:Mem->Mem->Prop:=λW V=>W.sub V
theorem qEv:qLg subQ:=λW V h=>⟨λ_=>False,λb h=>h.elim,λb h=>h.elim,λV' _=>qCh⟩
section
variable{Q:Mem->Mem->Prop}{D V V' W:Mem}{o:Sl}{xs:List (O4×Nat)}
theorem QO.framed(i:qLg Q)(n:∀W V,Q W V->W.sub V):qLg (QO Q o xs):=λW V ⟨u,t,w⟩=>by
 obtain⟨M,q,y⟩:=i u V w;have h1:=n _ _ w;have a:∀b,Blk o b->∃x,u b=some x/\V b=some x/\¬M b:=λb h=>by
  obtain⟨x,f⟩:=Own.some t h;exact⟨_,f,h1 _ _ f,λhm=>by simp_all⟩
 refine⟨λb=>M b∨Blk o b,λb h=>?_,λb h=>?_,λV' m=>?_⟩
 ·rcases h with h|h
  ·cases e:W b with
   |none=>rfl
   |some x=>
    have:=t.sub _ _ e;simp_all
  ·exact Own.none0 t h
 ·rcases h with h|h;·exact y.1 b h
  grind
 ·refine⟨Mem.minus V' M,qKN t (λc x v=>?_) (λg x r h0 f=>⟨qBC (.inr r),?_⟩),y.2 V' λb x h f=>m b x (.inl h) f⟩;·grind[qBC,Blk,inr,qBe]
  grind[qBe,inr]
theorem newO{m:Int}(g:∀W V,Q W V->W.sub V)(hm:1<=m/\m<=1000)(h:qBu D V (QO Q o xs)):Tri xE 53 #[.int .i64 m] V λe V'=>∃p,e=.returned (.tuple #[pv p,.int .i64 0])/\qBu D V' (QO (qKg p m.toNat [] 0) o xs):=by
 obtain⟨W,f,t,y,u,w⟩:=h.use;refine Tri.mono c53 ?_;rintro _ V1 (⟨h,-⟩|⟨-,p,rfl,C⟩);·omega
 ·exact⟨p,rfl,qBu.new (QO.framed qKg.framed λ_ _ h=>h.sub) (W:=W) ⟨V,Own.growS u (g _ _ w),C⟩ (t.trans C.sub) f⟩
theorem dropO(g:∀W V,Q W V->W.sub V)(h:qBu D V (QO Q o xs)):qBu D V (QO subQ o xs):=by
 obtain⟨W,f,t,u,w,y⟩:=h.use;exact qBu.new (QO.framed qEv λ_ _ h=>h) (W:=W) ⟨u,w,g _ _ y⟩ t f
theorem touchO{p k n:Nat}{c tr:List Int}{l:Sl}(h:qBu D V (QO (qKg p k c n) o xs))(t:1<=k/\k<=1000)(u:qAc D l 1 (tr.map qAe))(w:∀x∈tr,0<=x/\x<=1048576)(y:n+tr.length<2147483648):
  Tri xE 54 #[pv p,l.v] V λe V'=>e=.returned (.int .i64 (qIG k c tr))/\qBu D V' (QO (qKg p k (qKk k c tr) (n+qIG k c tr)) o xs):=by
 obtain⟨W,f,r,i,g,m⟩:=h.use;refine Tri.mono (c54 m t (u.sub (f.trans g.sub)) w y) ?_;rintro _ V1 ⟨rfl,C⟩;exact⟨rfl,qBu.new (QO.framed qKg.framed λ_ _ h=>h.sub) (W:=W) ⟨i,g,C⟩ (g.sub.trans C.sub) f⟩
theorem pushO(r:qLg Q)(q:∀W V,Q W V->W.sub V)(h:qBu D V (QO Q o xs)){b:Nat}(a:V b=none){x:O4×Nat}(Y:xs.length<=3000){ty:Nat}{y z:Operand}{vals:Operand->Value}(e:vals y=.slice o.p o.n o.c)(G:vals z=.slice (sa b) 1 1){K:Value->Mem->Prop}(hK:∀f V',qBu D V' (QO Q f (xs++[x]))->K (.slice f.p f.n f.c) V'):
  GenK xE (.call {callee:=.builtin .append,args:=#[y,z],argTypes:=#[73,73]}) ty vals (V.set b (.cells (o5Row x).toArray OB (0,0))) K:=by
 obtain⟨W,N,P,Z,v,H⟩:=h.use;have h1:=q _ _ H;have t:=Own.growS v h1;refine oneG app5 t.but a (by omega) e G (λ_=>rfl) λf V' w=>hK f V' ?_;obtain⟨i,O,A⟩:=pushG t w;obtain⟨M,I,J⟩:=r Z V H;have L:∀c,M c->V c≠none/\¬Blk o c:=λc u=>⟨J.1 c u,λa=>by
  grind[Own.some]⟩
 have m:W.sub (Mem.minus V' M):=λc x u=>by
  have:¬M c:=λhm=>by
   have:=v.sub _ _ u;simp_all
  rw[qBe this];exact i.sub _ _ u
 exact qBu.new (QO.framed r q) (W:=W) ⟨Mem.minus V' M,qKN i m (λg x R h0 e=>⟨h0,by
  grind[qBe]⟩),J.2 V' λc x hm u=>by simp_all⟩ i.sub N
end
section
variable{V:Mem}{d:Ds}{l:Sl}{cs:List Cl2}{k size most F:Int}
theorem playO[Tab V]{x:Mm}{nm:KB}{args pl:List Int}{l ps:Sl}{n z:Nat}(J:Ds.Ok V d)(hm:Mm.Ok V x)(G:qAw d x)(N:qAc V l 1 (args.map qAe))(Z:n<=4000)(Y:qAc V ps 1 (pl.map qAe))(m:pl.length=x.nodes.length)(P:Plc pl z)(A:1<=z):
  Tri xE 52 #[d.v,x.v,ps.v,.int .i64 z,.agg #[.string nm,l.v],.int .i64 n] V λe V'=>V.sub V'/\
   ((qCr d x nm args≠0/\e=.returned (.tuple #[.agg #[.int .i64 0,.int .i64 0,.int .i64 0,.int .i64 0,.int .i64 0,qAx.v,qAx.v,qAx.v,qAx.v],.int .i64 (qCr d x nm args)]))∨
   (qCr d x nm args=0/\∃(r:Rx Int)(y:Mm)(p t:Sl),r=qCf d n (qDa d nm) args (qBZ x)/\qAw d y/\Mm.Ok V' y/\y.plain=(r.st.g,r.st.ns)/\qKf x.nodes.length r.st.lg r.st.ns.length/\r.st.ns.length<=4096/\r.st.lg.length<=16000000/\qAc V' p 1 ((qCc z r.st.lg pl).1.map qAe)/\qAc V' t 1 ((qCc z r.st.lg pl).2.map qAe)/\e=.returned (.tuple #[.agg #[.int .i64 (outC r),.int .i64 (outV r),.int .i64 r.st.cm,.int .i64 (qAu r.st.lg),.int .i64 0,y.gs.v,y.ns.v,p.v,t.v],.int .i64 0]))):=by
 have es:qAZ d x nm args n=qCr d x nm args:=qLp G (by omega);refine Tri.mono (c52 (M:=4095) (pl:=pl) (size:=(z:Int)) (nm:=nm) J hm N Z Y m P.pl0 (by omega) (λb O=>by have:=(P.rng b O).2;omega) (by omega) λr w f=>by rw[w];exact qDi f) ?_;rintro _ V2 (⟨f,I,rfl⟩|⟨f,r,gs,ns,ls,nd,p,t,w,L,T,rfl⟩);·simp_all
 ·have u:=qFe (F:=n) (qCp f).1 (qCp f).2;obtain⟨h,i⟩:=qGK f;have q:r.st.ns.length<=4096:=by rw[w];exact qDi f
  rw[<-w]at u h i;obtain⟨a,H⟩:=qGR J L u;exact⟨L.sub,.inr ⟨by omega,r,⟨gs,r.st.g,ns,nd⟩,p,t,w,u.plain (mm_len' L.eq).symm,a,H,h,q,by omega,T.op.rows (row:=qAe) (λ_=>rfl) (by decide),T.ot.rows (row:=qAe) (λ_=>rfl) (by decide),rfl⟩⟩
end
section
variable{V:Mem}{d:Ds}{l:Sl}{cs:List Cl2}{k size most fu:Int}
theorem scx_bad{j:Int}{V':Mem}(h:qKm d cs k size most fu=j)(g:j≠0)(f:V.sub V'):ScxP V d cs k size most fu (.returned (.tuple #[qAx.v,.agg #[qAx.v,qAx.v],.int .i64 j])) V':=⟨f,.inl ⟨by rw[h];exact g,by rw[h]⟩⟩
theorem step_of{s:St}{x:Mm}(h:x.plain=s.mm.plain)(g:s=rsS s):qBZ x=s:=by
 have:qBZ x=rsS s:=by
  have h1:=(wh h).1;have h2:=(wh h).2;unfold qBZ rsS;rw[h1,h2];unfold St.mm;simp[uk]
 grind
theorem c28[Tab V](hd:Ds.Ok V d)(S:Cls.Ok V l cs)(hlen:cs.length<=14∨2000<cs.length)(hF:fu<=3000∨1048576<fu):
  Tri xE 28 #[d.v,l.v,.int .i64 k,.int .i64 size,.int .i64 most,.int .i64 fu] V (ScxP V d cs k size most fu):=by
 obtain⟨R,hR⟩:∃R,R=ScxP V d cs k size most fu:=⟨_,rfl⟩;rw[<-hR];refine x28 ?_;have hln:=S.rows.n_eq;have bad:∀{j:Int}{V':Mem},qKm d cs k size most fu=j->j≠0->V.sub V'->R (.returned (.tuple #[qAx.v,.agg #[qAx.v,qAx.v],.int .i64 j])) V':=λh hj hs=>by simp_all[scx_bad]
 refine Tri.mono (c65 hd) ?_;rintro _ V1 ⟨s1,⟨hT,rfl⟩|⟨hT,s0,rfl,T⟩⟩
 ·refine⟨qAx,qAx,_,rfl,λh=>absurd h (by decide),λ_=>bad ?_ (by decide) s1⟩;unfold qKm;rw[if_neg λh=>?_];have:=(qAh (qDl h).mem).1;simp_all
 haveI:Tab V1:=Tab.sub (V:=V) inferInstance s1;have hg0:qAF d (qHp d s0) 0=qAF d (qHp d qAx) 0:=qJF (m:=qHp d s0) (m':=qHp d qAx) rfl;refine⟨_,_,_,rfl,λ_=>?_,λh=>absurd rfl h⟩;refine Tri.mono (c51 (size:=size) (most:=most) (fuel:=fu) (hd.sub s1) T) ?_;rintro _ V2 ⟨rfl,s2⟩;have g:=s1.trans s2;refine⟨_,rfl,λh0=>?_,λh0=>bad ?_ h0 g⟩;rotate_left
 ·unfold exE at h0⊢;unfold qKm;rw[hg0]at h0⊢;by_cases c:qAF d (qHp d qAx) 0=0;·omega
  grind[qAF]
 have h0:exE d (qHp d s0) size most fu=0:=h0;obtain⟨G0,hs1,hs2,hm1,hm2,hf0,hf1⟩:=qHJ h0;have hg:qAF d (qHp d qAx) 0=0:=by
  have G0':qAw d (qHp d qAx):=G0.plain rfl;grind[qAF]
 have out:¬(0<=k/\k<=4)->qKm d cs k size most fu=2:=λh=>by grind[qKm]
 refine⟨λh=>bad (out (by omega)) (by decide) g,λhk0=>⟨λh=>bad (out (by omega)) (by decide) g,λhk4=>⟨λh=>bad ?_ (by decide) g,λu=>?_⟩⟩⟩;·grind[qKm]
 have u:¬(2000:Int)<(l.n:Int):=u;have hl14:cs.length<=14:=by omega
 obtain⟨n,rfl⟩:∃n:Nat,fu=(n:Int):=⟨fu.toNat,by omega⟩;obtain⟨z,rfl⟩:∃z:Nat,size=(z:Int):=⟨size.toNat,by omega⟩;obtain⟨q,rfl⟩:∃q:Nat,most=(q:Int):=⟨most.toNat,by omega⟩;have hsc:qKm d cs k z q n=scE d n (st0 d) cs:=by grind[qKm]
 have hd2:=hd.sub g;have N:=S.sub g;haveI:Tab V2:=Tab.sub (V:=V) inferInstance g;have S0:QO subQ qAx [] V2 V2:=⟨V2,Own.nil (Mem.sub.refl _) _ _,Mem.sub.refl _⟩;have B0:qBu V2 V2 (QO subQ qAx []):=qBu.new (QO.framed qEv λ_ _ h=>h) S0 (Mem.sub.refl _) (Mem.sub.refl _);refine Tri.mono (newO (λ_ _ h=>h) (by omega) B0) ?_;rintro _ V3 ⟨p0,rfl,B3⟩;rw[xo]at B3;refine⟨_,_,rfl,λr ys V4=>∃(j:Nat)(x:Mm)(pc:Option Addr)(sl o a:Sl)(iv:Int)(outs:List (O4×Nat))(s:St)(p:List Int×List Int)(D:Mem),r=cs.length-j/\j<=cs.length/\ys=[x.gs.v,x.ns.v,.pointer pc,.int .i64 0,.slice sl.p sl.n sl.c,.int .i64 iv,.slice o.p o.n o.c,.slice a.p a.n a.c,.int .i64 j]/\XAt d n k z q cs j outs s p/\V2.sub D/\Mm.Ok D x/\x.plain=s.mm.plain/\qAc D a 1 (p.1.map qAe)/\
  (0<k->qBu D V4 (QO subQ o outs))/\(¬0<k->∃b nn,pc=some ⟨b,0,none⟩/\nn<=j*16000000/\qBu D V4 (QO (qKg b q p.2 nn) o outs)),cs.length,⟨0,qHp d s0,_,qAx,qAx,qAx,0,[],st0 d,([],[]),V2,rfl,uy _,rfl,XAt.start (G0.plain rfl),Mem.sub.refl _,T.sub s2,rfl,qAc.nil,λ_=>dropO (λ_ _ h=>h.sub) B3,λ_=>⟨p0,0,rfl,uy _,B3⟩⟩,?_⟩
 rintro r V4 v19 v20 v21 v22 v23 v24 o v26 v27 ⟨j,x,pc,sl,o1,a,iv,outs,s,p,D,rfl,hj,hys,A,w,hx,Z,hat,X,B⟩ J hJ;simp only[yE,and_true]at hys;obtain⟨e1,e2,e3,e4,e5,e6,e7,e8,e9⟩:=hys;cases qAH _ _ e1;cases qAH _ _ e2;cases inj_p _ _ e3;cases qCZ _ _ e4;cases qAH _ _ e5;cases qCZ _ _ e6;cases qAH _ _ e7;cases qAH _ _ e8;cases qCZ _ _ e9;have H:D.sub V4:=by
  by_cases c:0<k;·exact(X c).sub
  ·obtain⟨_,_,_,_,h⟩:=B c;exact h.sub
 have hst:=step_of Z A.at_.rs;have Gx:qAw d x:=A.at_.good.plain Z.symm;have hln2:=A.at_.len;rw[x7]at hln2;have hxl:p.1.length=x.nodes.length:=by
  rw[A.pl];have:=congrArg (λy:List Int×List (Int×List Int)=>y.2.length) Z;grind[Mm.plain,St.mm]
 refine⟨λu=>?_,λhge=>?_⟩
 ·obtain⟨c,hcm,hc,C,hjl,hp,hz,hrow⟩:=(N.rows.sub (w.trans H)).get u;have hcl:qCr d x c.name c.args=qCr d s.mm c.name c.args:=qFO Z;have hsu:=(N.rows.sub (w.trans H)).succ u;refine⟨hp,hz,u,_,_,hrow,λc0=>Tri.mono (newO (λ_ _ h=>h) (by omega) (X c0)) ?_,λc0=>⟨λ_=>?_,λh=>absurd rfl h⟩⟩;rintro _ V5 ⟨b,rfl,B5⟩;rw[xo,<-A.cs0 c0]at B5;have hnn:0<=j*16000000:=uy _;refine⟨_,_,rfl,λ_=>?_,λh=>absurd rfl h⟩;rotate_left;obtain⟨b,nn,rfl,hnn,B5⟩:=B c0;all_goals
   refine Tri.mono (B5.run λU Y=>@playO U d (Tab.sub inferInstance (w.trans Y)) x c.name c.args p.1 c.sl _ n z (hd2.sub (w.trans Y)) (hx.sub Y) Gx ((N.sub (w.trans Y)).args c hcm) (by omega) (hat.sub Y) hxl A.plc (by omega)) ?_;rintro _ V6 ⟨D6,G,⟨I,rfl⟩|⟨I,r,y,pp,t,i,Gy,hy,O,hlog,hns,hlg,hpp,ht,rfl⟩,B6⟩
   ·rw[hcl]at I⊢;exact⟨_,_,_,_,_,_,_,_,_,_,rfl,λh=>absurd h I,λ_=>bad (hsc.trans (A.at_.stop C I)) I (g.trans (w.trans (G.trans B6.sub)))⟩
   rw[hcl]at I;rw[hst]at i;have i:r=qBP d n c s:=i;have f:qKf s.ns.length r.st.lg r.st.ns.length:=by rw[<-A.pl,hxl];exact hlog
   have hbr:=qMg (size:=(z:Int)) (lg:=r.st.lg) (pl:=p.1) (M:=4095) (λb hb=>⟨(A.plc.rng b hb).1,by have:=(A.plc.rng b hb).2;omega⟩) (by omega) r.st.lg.length (yV _);have hbt:=blk_tr (size:=(z:Int)) (lg:=r.st.lg) (pl:=p.1) r.st.lg.length (yV _);rw[uu]at hbr hbt;have hln:=f.len;have hnl:qAu r.st.lg<=16000000:=by
    unfold qAu;exact Nat.le_trans (List.length_filter_le _ _) hlg
   have E:qAw d (qBP d n c s).st.mm:=by rw[<-i];exact Gy.plain (O.trans (by simp[Mm.plain,St.mm,uk]))
   refine⟨_,_,_,_,_,_,_,_,_,_,rfl,λ_=>Tri.mono (touchO B6 (by omega) ht (λx hx=>by have:=hbr.2 x hx;omega) (by omega)) ?_,λh=>absurd rfl h⟩;rintro _ V7 ⟨rfl,B7⟩;refine⟨_,rfl,λtb htb=>?_⟩;refine pushO qKg.framed (λ_ _ h=>h.sub) B7 (x:=(outO r,xM z q r p)) htb (by omega) rfl rfl λo' V9 B9=>⟨o',rfl,λck=>?_,λck=>?_⟩
   ·have hvm:qAy d y=true:=Gy.mem;refine Tri.mono (B9.run (R:=λe U'=>∃(s:Sl)(zs:List Int),e=.returned s.v/\qAc U' s 1 (zs.map qAe)/\qAJ d y k z zs) λU Y=>Tri.mono (@c45 U d y z (Tab.sub inferInstance (w.trans (G.trans Y))) Gy.valid hvm (hd2.sub (w.trans (G.trans Y))) (hy.sub Y) k (by omega) (by omega)) ?_) ?_
    ·rintro _ U' ⟨s,zs,rfl,o,P⟩;exact⟨o.sub,s,zs,rfl,o.rows (row:=qAe) (λ_=>rfl) (by decide),P⟩
    ·rintro _ V10 ⟨D10,L,⟨s10,zs,rfl,hs10,P10⟩,B10⟩;have P':qAJ d (rsS r.st).mm k z zs:=qJi (O.trans (by simp[Mm.plain,St.mm,uk,rsS])) P10;have hz':=plcF_eq (s:=rsS r.st) (by exact(i▸E).mem) (by omega) P';subst hz';have K:=A.next (z:=z) (most:=q) C I (by omega) (by omega) (λ_=>by rw[<-i];exact P') E (by rw[<-i];exact f) (by rw[<-i];exact hns);rw[<-i]at K;have ex:xN d k z q r p=(plcF d (rsS r.st) k z,[]):=by unfold xN;rw[if_pos ck]
     rw[ex]at K;refine⟨_,rfl,hsu,hJ _ _ _ (show cs.length-(j+1)<cs.length-j by omega) ⟨j+1,y,_,_,o',s10,_,_,_,_,D10,rfl,hjl,rfl,K,w.trans (G.trans L),hy.sub L,O.trans (by simp[Mm.plain,St.mm,uk,rsS]),hs10,λ_=>dropO (λ_ _ h=>h.sub) B10,λh=>absurd ck h⟩⟩
   ·have K:=A.next (z:=z) (most:=q) C I (by omega) (by omega) (λh=>absurd h ck) E (by rw[<-i];exact f) (by rw[<-i];exact hns);rw[<-i]at K;have ex:xN d k z q r p=((qCc z r.st.lg p.1).1,qKk q p.2 (qCc z r.st.lg p.1).2):=by unfold xN;rw[if_neg ck]
    rw[ex]at K;have hml:=qJt q (qCc (z:Int) r.st.lg p.1).2 p.2;refine⟨hsu,hJ _ _ _ (show cs.length-(j+1)<cs.length-j by omega) ⟨j+1,y,_,_,o',pp,_,_,_,_,D6,rfl,hjl,rfl,K,w.trans G,hy,O.trans (by simp[Mm.plain,St.mm,uk,rsS]),hpp,λh=>absurd h ck,λ_=>⟨b,_,rfl,?_,B9⟩⟩⟩;omega
 ·have hdn:=(N.rows.sub (w.trans H)).done hge;obtain⟨f1,f2,f3,f4⟩:=A.done hdn.2;rw[hR];have hro:qAc V4 o 5 (outs.map o5Row):=by
   by_cases c:0<k
   ·obtain⟨W,-,hW,W1,ho,hq⟩:=(X c).use;exact(ho.rows (λ_=>rfl) (by decide)).sub hq
   ·obtain⟨_,_,_,_,h⟩:=B c;obtain⟨W,-,hW,W1,ho,hq⟩:=h.use;exact(ho.rows (λ_=>rfl) (by decide)).sub hq.sub
  refine⟨g.trans (w.trans H),.inr ⟨hsc.trans f1,o,x,outs,hro,?_,?_,hx.sub H,?_,Gx,rfl⟩⟩;·rw[xo];exact f2.symm
  ·rw[xo,xo,xo];exact f4.symm
  grind
end
section
variable{V:Mem}{d:Ds}{l:Sl}{cs:List Cl2}{k size most fu:Int}
theorem c29(hd:Ds.Ok V d)(hcs:Cls.Ok V l cs)(hlen:cs.length<=14∨2000<cs.length)(hF:fu<=3000∨1048576<fu):
  Tri xE 29 #[d.v,l.v,.int .i64 k,.int .i64 size,.int .i64 most,.int .i64 fu] V (ScxP V d cs k size most fu):=by
 obtain⟨R,hR⟩:∃R,R=ScxP V d cs k size most fu:=⟨_,rfl⟩;rw[<-hR];refine x29 ?_;have hln:=hcs.rows.n_eq;have bad:∀{j:Int}{V':Mem},qKm d cs k size most fu=j->j≠0->V.sub V'->R (.returned (.tuple #[qAx.v,.agg #[qAx.v,qAx.v],.int .i64 j])) V':=λh hj hs=>by simp_all[scx_bad]
 have one:¬qAw d (qHp d qAx)->qKm d cs k size most fu=1:=λh=>by unfold qKm;rw[if_neg λhh=>h (qDl hh)]
 refine(c46 hd).call ⟨_,rfl,λhT=>?_,λhT=>?_⟩;rotate_left
 ·-- no types: an error
  have no:¬qAw d (qHp d qAx):=λG=>hT (qAh G.mem).1;have O:exE d ⟨qAx,[],qAx,[]⟩ 1 1 0≠0:=λh=>hT (qAh (qHJ h).1.mem).1;refine(c31 hd).call ⟨_,rfl,λ_=>(c55 (m:=⟨qAx,[],qAx,[]⟩) hd ⟨qAc.nil,(λ_ h=>by cases h),qAc.nil,(λ_ h=>by cases h)⟩).call ⟨_,rfl,λh=>absurd h O,λ_=>bad (one no) (by decide) (Mem.sub.refl _)⟩,λ_=>bad (one no) (by decide) (Mem.sub.refl _)⟩
 have hT:qJD d=true:=hT;have hvd:=qKC hT;refine Tri.mono (c34 hd (qGk hvd).1) ?_;rintro _ V2 ⟨I,s0,rfl,S⟩;have i:=hd.sub I;have M:=hcs.sub I;have hg0:qAF d (qHp d s0) 0=qAF d (qHp d qAx) 0:=qJF (m:=qHp d s0) (m':=qHp d qAx) rfl;refine⟨_,_,rfl,(c31 i).call ⟨_,rfl,λ_=>(c55 i S).call ⟨_,rfl,λh1=>?_,λh1=>bad (one λG=>h1 ?_) (by decide) I⟩,λh=>absurd hvd h⟩⟩;rotate_left
 ·have G':qAw d (qHp d s0):=G.plain rfl;have hg:qAF d (qHp d s0) 0=0:=by grind[qAF]
  show exE _ _ _ _ _=0;unfold exE;rw[if_pos hg,if_pos (by decide)]
 have G0:qAw d (qHp d s0):=(qHJ (show exE d (qHp d s0) 1 1 0=0 from h1)).1;have hg:qAF d (qHp d qAx) 0=0:=by
  have G0':qAw d (qHp d qAx):=G0.plain rfl;grind[qAF]
 have out:¬(0<=k/\k<=4)->qKm d cs k size most fu=2:=λh=>by grind[qKm]
 refine⟨λh=>bad (out (by omega)) (by decide) I,λhk0=>⟨λh=>bad (out (by omega)) (by decide) I,λhk4=>(c55 i S).call ⟨_,rfl,λh0=>⟨λh=>bad ?_ (by decide) I,λw=>?_⟩,λh0=>bad ?_ (by decide) I⟩⟩⟩;rotate_right;·grind[qKm,exE]
 ·grind[exE,qHp,qKm]
 have h0:exE d (qHp d s0) size most fu=0:=h0;obtain⟨-,hs1,hs2,hm1,hm2,hf0,hf1⟩:=qHJ h0;have w:¬(2000:Int)<(l.n:Int):=w;have hl14:cs.length<=14:=by omega
 obtain⟨n,rfl⟩:∃n:Nat,fu=(n:Int):=⟨fu.toNat,by omega⟩;obtain⟨z,rfl⟩:∃z:Nat,size=(z:Int):=⟨size.toNat,by omega⟩;obtain⟨q,rfl⟩:∃q:Nat,most=(q:Int):=⟨most.toNat,by omega⟩;have hsc:qKm d cs k z q n=scE d n (st0 d) cs:=by grind[qKm]
 have S0:QO subQ qAx [] V2 V2:=⟨V2,Own.nil (Mem.sub.refl _) _ _,Mem.sub.refl _⟩;have B0:qBu V2 V2 (QO subQ qAx []):=qBu.new (QO.framed qEv λ_ _ h=>h) S0 (Mem.sub.refl _) (Mem.sub.refl _);refine⟨λr ys V4=>∃(j:Nat)(x:Mm)(sl o b a:Sl)(iv:Int)(outs:List (O4×Nat))(s:St)(p:List Int×List Int)(D:Mem),r=cs.length-j/\j<=cs.length/\ys=[x.gs.v,x.ns.v,.slice sl.p sl.n sl.c,.int .i64 iv,.slice o.p o.n o.c,.slice b.p b.n b.c,.slice a.p a.n a.c,.int .i64 j]/\XAt d n k z q cs j outs s p/\V2.sub D/\Mm.Ok D x/\x.plain=s.mm.plain/\qAc D b 1 (p.1.map qAe)/\qAc D a 1 (p.2.map qAe)/\qBu D V4 (QO subQ o outs),cs.length,
  ⟨0,qHp d s0,qAx,qAx,qAx,qAx,0,[],st0 d,([],[]),V2,rfl,uy _,rfl,XAt.start (G0.plain rfl),Mem.sub.refl _,S,rfl,qAc.nil,qAc.nil,B0⟩,?_⟩
 rintro r V4 v19 v20 v21 v22 o b a v26 ⟨j,x,sl,o1,at1,ins1,iv,outs,s,p,D,rfl,hj,hys,A,Y,hx,H,hat,hins,B4⟩ J hJ;simp only[yE,and_true]at hys;obtain⟨e1,e2,e3,e4,e5,e6,e7,e8⟩:=hys;cases qAH _ _ e1;cases qAH _ _ e2;cases qAH _ _ e3;cases qCZ _ _ e4;cases qAH _ _ e5;cases qAH _ _ e6;cases qAH _ _ e7;cases qCZ _ _ e8;have N:=B4.sub;have hst:=step_of H A.at_.rs;have Gx:qAw d x:=A.at_.good.plain H.symm;have hln2:=A.at_.len;rw[x7]at hln2;have T:p.1.length=x.nodes.length:=by
  rw[A.pl];have:=congrArg (λy:List Int×List (Int×List Int)=>y.2.length) H;grind[Mm.plain,St.mm]
 have hgx:qAF d x 0=0:=by grind[qAF]
 refine⟨λw=>?_,λhge=>?_⟩
 ·obtain⟨c,hcm,hc,hdr,hjl,hp,hz,hrow⟩:=(M.rows.sub (Y.trans N)).get w;have hcl:qCr d x c.name c.args=qCr d s.mm c.name c.args:=qFO H;have hsu:=(M.rows.sub (Y.trans N)).succ w;have O:qJO d x p.1 z q c.name c.args n=qCr d s.mm c.name c.args:=by
   unfold qJO exE;rw[if_pos hgx,if_pos (by omega),if_pos ⟨T,qFF.2 ⟨by rw[T];exact(qAh Gx.mem).2.1,A.plc⟩⟩,qLp Gx (by omega),hcl]
  refine⟨hp,hz,w,_,_,hrow,Tri.mono (B4.run (R:=λe U'=>RrP U' d n x c.name c.args p.1 p.2 z q e U') λU C=>Tri.mono (c21 (size:=(z:Int)) (most:=(q:Int)) (nm:=c.name) (c:=p.2) (i.sub (Y.trans C)) (hx.sub C) ((M.sub (Y.trans C)).args c hcm) (.inl (by omega)) (hat.sub C) (hins.sub C) (.inl (by have:=A.cl;omega))) λe U' h=>⟨h.1,Mem.sub.refl _,h.2⟩) ?_⟩;rintro _ V6 ⟨D6,L,⟨-,⟨X,rfl⟩|⟨X,r,y,pp,t,u,f,hy,hyp,hpp,ht,hu,rfl⟩⟩,B6⟩
  ·rw[O]at X⊢;exact⟨_,_,_,_,_,_,_,_,_,_,_,rfl,λh=>absurd h X,λ_=>bad (hsc.trans (A.at_.stop hdr X)) X (I.trans (Y.trans (L.trans B6.sub)))⟩
  have g:=exr_start X;rw[O]at X;rw[xo]at f g;obtain⟨E,hlg⟩:=qGK g;have hgd:=qFe (F:=n) (qCp g).1 (qCp g).2;have hns:r.st.ns.length<=4096:=by rw[f];exact qDi g
  rw[<-f]at E hgd;rw[hst]at f;have f:r=qBP d n c s:=f;have Z:qKf s.ns.length r.st.lg r.st.ns.length:=by rw[<-A.pl,T];exact E
  have hgm:qAw d (qBP d n c s).st.mm:=by rw[<-f];exact hgd
  have B:y.plain=(rsS r.st).mm.plain:=hyp.trans (by simp[Mm.plain,St.mm,uk,rsS]);have Gy:qAw d y:=hgd.plain (show r.st.mm.plain=y.plain from B.symm);rw[xo]at hu;refine⟨_,_,_,_,_,_,_,_,_,_,_,rfl,λ_ tb htb=>?_,λh=>absurd rfl h⟩;refine pushO qEv (λ_ _ h=>h) B6 (x:=(outO r,xM z q r p)) htb (by omega) rfl rfl λo' V9 B9=>⟨o',rfl,λck=>?_,λck=>?_⟩
  ·refine Tri.mono (B9.run (R:=λe U'=>∃(s:Sl)(zs:List Int),e=.returned s.v/\qAc U' s 1 (zs.map qAe)/\qAJ d y k z zs) λU C=>Tri.mono (c17 (size:=z) Gy.valid Gy.mem (i.sub (Y.trans (L.trans C))) (hy.sub C) (k:=k) (by omega) (by omega)) ?_) ?_
   ·rintro _ U' ⟨s,zs,rfl,o,P⟩;exact⟨o.sub,s,zs,rfl,o.rows (row:=qAe) (λ_=>rfl) (by decide),P⟩
   ·rintro _ V10 ⟨D10,K,⟨s10,zs,rfl,hs10,P10⟩,B10⟩;have P':qAJ d (rsS r.st).mm k z zs:=qJi B P10;have hz':=plcF_eq (s:=rsS r.st) (by exact(f▸hgm).mem) (by omega) P';subst hz';have A':=A.next (z:=z) (most:=q) hdr X (by omega) (by omega) (λ_=>by rw[<-f];exact P') hgm (by rw[<-f];exact Z) (by rw[<-f];exact hns);rw[<-f]at A';have ex:xN d k z q r p=(plcF d (rsS r.st) k z,[]):=by unfold xN;rw[if_pos ck]
    rw[ex]at A';exact⟨_,rfl,hsu,hJ _ _ _ (show cs.length-(j+1)<cs.length-j by omega) ⟨j+1,y,_,o',s10,qAx,_,_,_,_,D10,rfl,hjl,rfl,A',Y.trans (L.trans K),hy.sub K,B,hs10,qAc.nil,B10⟩⟩
  ·have A':=A.next (z:=z) (most:=q) hdr X (by omega) (by omega) (λh=>absurd h ck) hgm (by rw[<-f];exact Z) (by rw[<-f];exact hns);rw[<-f]at A';have ex:xN d k z q r p=((qCc z r.st.lg p.1).1,qKk q p.2 (qCc z r.st.lg p.1).2):=by unfold xN;rw[if_neg ck]
   rw[ex]at A';exact⟨hsu,hJ _ _ _ (show cs.length-(j+1)<cs.length-j by omega) ⟨j+1,y,_,o',pp,u,_,_,_,_,D6,rfl,hjl,rfl,A',Y.trans L,hy,B,hpp,hu,B9⟩⟩
 ·have hdn:=(M.rows.sub (Y.trans N)).done hge;obtain⟨f1,f2,f3,f4⟩:=A.done hdn.2;obtain⟨W,-,hW,W1,ho,hq⟩:=B4.use;rw[hR];refine⟨I.trans (Y.trans N),.inr ⟨hsc.trans f1,o,x,outs,(ho.rows (λ_=>rfl) (by decide)).sub hq,?_,?_,hx.sub N,?_,Gx,rfl⟩⟩;·rw[xo];exact f2.symm
  ·rw[xo,xo,xo];exact f4.symm
  ·rw[xo,f3];exact H
end
section
variable{V:Mem}{d:Ds}{l:Sl}{cs:List Cl2}{k size most fu:Int}
theorem longAny(h:Cls.Ok V l cs):Tri xE 27 #[l.v,.func (.func 18) #[] #[]] V (RY V):=by
 refine x27 (a:=l) (b:=.func (.func 18) #[] #[]) ?_;refine Tri.mono (x64 (a:=l) (b:=.func (.func 18) #[] #[]) (R:=λe V'=>V=V'/\∃r:Int,e=.returned (.int .i64 r)) ?_) ?_
 ·refine qAM (mk:=.int .i64) (b0:=0) cs.length (λi V1=>V=V1) rfl ?_;rintro i b V1 J m rfl u;refine⟨λg=>?_,λ_=>⟨rfl,_,rfl⟩⟩;obtain⟨x,w,q,-,t,y,n,f⟩:=h.rows.get g;refine⟨y,n,g,_,_,f,18,#[],#[],rfl,Tryz.call18,Tri.mono (c18 (nm:=x.name) (l:=x.sl)) ?_⟩;rintro _ _ ⟨rfl,b,rfl⟩;exact⟨b,rfl,λ_=>⟨rfl,_,rfl⟩,λ_=>⟨h.rows.succ g,u t _ _ rfl⟩⟩
 ·rintro _ _ ⟨rfl,r,rfl⟩;exact⟨_,rfl,rfl,_,rfl⟩
theorem outs_eq:∀{xs ys:List (O4×Nat)},xs.map uo=ys.map uo->xs.map um=ys.map um->xs=ys
 |[],[],_,_=>rfl
 |[],_::_,h,_=>by cases h
 |_::_,[],h,_=>by cases h
 |x::xs,y::ys,h1,h2=>by
  rw[List.map_cons,List.map_cons,yE]at h1 h2;rw[Prod.ext h1.1 h2.1,outs_eq h1.2 h2.2]
theorem c6[Tab V](J:Ds.Ok V d)(f:Cls.Ok V l cs):PP 6 [d.v,l.v,.int .i64 k,.int .i64 size,.int .i64 most,.int .i64 fu] V (.bool true):=by
 obtain⟨R,B⟩:∃R:Ending->Mem->Prop,R=λe V'=>e=.returned (.bool true)/\V.sub V':=⟨_,rfl⟩;refine Pur.mk ?_;rw[<-B];refine x6 ?_;unfold w6;have g:∀{V'},V.sub V'->R (.returned (.bool true)) V':=λh=>by simp_all
 refine c9.call ⟨_,rfl,λ_=>?_,λh=>absurd rfl h⟩;refine Tri.mono (c10 (m:=⟨qAx,[],qAx,[]⟩) J ⟨qAc.nil,(λ_ h=>by cases h),qAc.nil,(λ_ h=>by cases h)⟩ (fu:=fu)) ?_;rintro _ V0 ⟨rfl,b,rfl,Z⟩;have hn:=f.rows.n_eq;have dup:∀{a b c A X:Prop},A->((a/\¬b)∨¬a->X)->Br a (Br b A (Br c A X)) (Br c A X):=λh x=>⟨λY=>⟨λ_=>h,λP=>⟨λ_=>h,λ_=>x (.inl ⟨Y,P⟩)⟩⟩,λY=>⟨λ_=>h,λ_=>x (.inr Y)⟩⟩;refine⟨_,rfl,λ_=>g (Mem.sub.refl _),λP=>dup (g (Mem.sub.refl _)) λhc=>?_⟩;have u:cs.length<=14∨2000<cs.length:=by
  omega
 have L:=Z ((Bool.not_eq_true _).mp P);refine Tri.mono (longAny f) ?_;rintro _ _ ⟨rfl,b,rfl⟩;refine⟨_,rfl,λ_=>g (Mem.sub.refl _),λ_=>?_⟩;refine Tri.mono (c28 (k:=k) (size:=size) (most:=most) J f u L) ?_;rintro _ V4 ⟨r,H⟩;have q:=c29 (k:=k) (size:=size) (most:=most) (J.sub r) (f.sub r) u L;rcases H with⟨N,rfl⟩|⟨N,o,x,outs,C,h1,h2,E,O,G,rfl⟩
 ·refine⟨_,_,_,_,rfl,Tri.mono q ?_⟩;rintro _ K ⟨n,⟨-,rfl⟩|⟨w,-⟩⟩;·exact⟨_,_,_,_,rfl,λ_=>(eq5 (s:=qAx) (t:=qAx) (xs:=[]) qAc.nil qAc.nil).call ⟨_,rfl,λ_=>⟨λh=>absurd h N,λ_=>c22.call ⟨_,rfl,g (r.trans n)⟩⟩,λh=>absurd rfl h⟩,λh=>absurd rfl h⟩
  ·exact absurd w N
 ·refine⟨_,_,_,_,rfl,Tri.mono q ?_⟩;rintro _ K ⟨n,⟨w,-⟩|⟨-,o2,y,i,I,S,T,U,M,-,rfl⟩⟩;·exact absurd N w
  ·obtain rfl:i=outs:=outs_eq (S.trans h1.symm) (T.trans h2.symm);exact⟨_,_,_,_,rfl,λ_=>(eq5 (C.sub n) I).call ⟨_,rfl,λ_=>⟨λ_=>(c23 (J.sub (r.trans n)) G (E.sub n) U (O.trans M.symm)).call ⟨_,rfl,g (r.trans n)⟩,λh=>absurd rfl h⟩,λh=>absurd rfl h⟩,λh=>absurd rfl h⟩
end
end Go.Proofs
