/- Part 22 of a proof of a law of this seat: no statement of the seat is proved here. -/
import Derived.Test.YtmeagdecjpknkaaGreatDoorPr21
import Derived.Test.YtmeagdecjpknkaaGreatDoorPr17
import Derived.Test.YtmeagdecjpknkaaGreatDoorPr20
import Derived.Test.YtmeagdecjpknkaaGreatDoorPr18
set_option linter.unusedVariables false
set_option linter.unusedSimpArgs false
open List renaming length_map->xd,take_sublist->uZ,getElem?_eq_getElem->yv,getD_eq_getElem?_getD->vT,take_of_length_le->wY,take_length->uz,getElem?_eq_none_iff->uy,mem_cons->yC,not_mem_nil->xB,getElem?_eq_some_iff->yw
open Go.Proofs.Tryz renaming prog->xD
open Nat renaming le_of_lt->uY,le_refl->yU
open Int renaming toNat_natCast->xu
open Bool renaming and_eq_true->zC
open Prod.mk renaming inj->wm
open Go.Value renaming int->xe
namespace Go.Proofs
open Go Go.Sx
attribute [local irreducible] Go.Sx.Tri
section
variable{size:Int}{lg:List (Int×Int×Int)}{pl:List Int}
theorem blk_pl0(h:Pl0 pl size)(k:1<=size)(i:Nat)(hi:i<=lg.length):Pl0 (qCG size (lg.take i) pl).1 size:=by
 refine qGn (p:=λi=>Pl0 (qCG size (lg.take i) pl).1 size) lg h (λi a h g=>?_) i hi;rw[qFz h];unfold blkS;by_cases c:a.1=3;·simp_all[if_pos,furth_pl0]
 simp_all
end
section
variable{V:Mem}{d:Ds}{m:Mm}{nm:ByteArray}{args pl:List Int}{F:Nat}{size:Int}
theorem qLc(h:qAU d m nm args F=0):LgOk m.nodes.length (qBS d F (qCJ d nm) args (qBU m)).st.lg (qBS d F (qCJ d nm) args (qBU m)).st.ns.length/\(qBS d F (qCJ d nm) args (qBU m)).st.lg.length<=4000*F:=by
 obtain⟨G,k⟩:=qCS h;have g:=play_gr (F:=F) G k;generalize(qBS d F (qCJ d nm) args (qBU m)).st=s at g⊢;obtain⟨l,h1,h2,-⟩:=g.lg;have h3:=g.fu (Nat.zero_le _);have h4:=g.w;have e:(qBU m).lg=[]:=rfl;rw[e,List.nil_append]at h1;subst h1;rw[show(qBU m).ns.length=m.nodes.length from xd ..]at h2;rw[show(qBU m).lg.length=0 from rfl,show(qBU m).cm=0 from rfl,show(qBU m).tk=0 from rfl]at h4;grind
def ExtP(V:Mem)(d:Ds)(F:Nat)(m:Mm)(nm:ByteArray)(args pl:List Int)(size:Int):Ending->Mem->Prop:=λe V'=>
 (qAU d m nm args F≠0/\V.sub V'/\e=.returned (.tuple #[.agg #[.int .i64 0,.int .i64 0,.int .i64 0,.int .i64 0,.int .i64 0,qAD.v,qAD.v,qAD.v,qAD.v],.int .i64 (qAU d m nm args F)]))∨
 (qAU d m nm args F=0/\∃r:Rx Int,∃(gs ns ls:Sl)(nd:List Nd)(p t:Sl),r=qBS d F (qCJ d nm) args (qBU m)/\Lay V V' gs ns ls nd r.st/\Pt V V' p t (qCG size r.st.lg pl).1 (qCG size r.st.lg pl).2/\e=.returned (.tuple #[.agg #[.int .i64 (outC r),.int .i64 (outV r),.int .i64 r.st.cm,.int .i64 (qAv r.st.lg),.int .i64 0,gs.v,ns.v,p.v,t.v],.int .i64 0]))
theorem c52[Tab V]{l ps:Sl}{M:Int}(hd:Ds.Ok V d)(hm:Mm.Ok V m)(ha:qAc V l 1 (args.map qAf))(hF:F<=4000)(hp:qAc V ps 1 (pl.map qAf))(C:pl.length=m.nodes.length)(h0:Pl0 pl size)(hs:1<=size)(Z:∀b∈pl,b<=M)(hM:-1<=M/\M<=100000)(hN:∀r,r=qBS d F (qCJ d nm) args (qBU m)->qAU d m nm args F=0->r.st.ns.length<=4096):
  Tri xD 52 #[d.v,m.v,ps.v,.int .i64 size,.agg #[.string nm,l.v],.int .i64 F] V (ExtP V d F m nm args pl size):=by
 obtain⟨R,D⟩:∃R,R=ExtP V d F m nm args pl size:=⟨_,rfl⟩;rw[<-D];refine x52 ?_;refine Tri.mono (c24 hd hm ha hF) ?_;rintro _ V1 (⟨H,s1,rfl⟩|⟨H,r,gs,ns,ls,nd,B,L,rfl⟩)
 ·refine⟨0,0,0,0,0,qAD,qAD,_,rfl,λh=>absurd h H,λ_=>?_⟩;rw[D];exact .inl ⟨H,s1,rfl⟩
 have s1:=L.sub;haveI:Tab V1:=Tab.sub (V:=V) inferInstance s1;refine⟨_,_,_,_,_,_,_,_,rfl,λ_=>?_,λh=>absurd rfl h⟩;refine Tri.mono (c36 (nm:=nm) (hd.sub s1) (hm.sub s1) (ha.sub s1) hF) ?_;rintro _ V2 (⟨E,-,-⟩|⟨-,k,lt,Y,ol,rfl⟩);·exact absurd H E
 rw[<-B]at Y;subst Y;refine⟨lt,_,rfl,λ_=>?_,λh=>absurd rfl h⟩;have s2:=s1.trans ol.sub;obtain⟨f,W⟩:=qLc H;rw[<-B]at f W;have hns:=hN _ B H;refine Tri.mono (c42 (hp.sub s2) (by rw[C];have:=f.len;omega)) ?_;rintro _ V3 ⟨p3,rfl,o3⟩;refine⟨p3,rfl,?_⟩;have hln:=f.len;have T0:Pt V2 V3 p3 ⟨none,0,0⟩ pl []:=⟨o3,Own.nil o3.sub _ _,λc _ h=>absurd rfl h.1⟩;refine⟨λn ys V4=>∃(i:Nat)(p t:Sl),ys=[.int .i64 (outC k),.int .i64 (outV k),.int .i64 k.st.cm,.int .i64 (qAv k.st.lg),.int .i64 0,gs.v,ns.v,p.v,t.v,.int .i64 i]/\i<=k.st.lg.length/\n=k.st.lg.length-i/\Pt V2 V4 p t (qCG size (k.st.lg.take i) pl).1 (qCG size (k.st.lg.take i) pl).2,k.st.lg.length,⟨0,p3,⟨none,0,0⟩,rfl,Nat.zero_le _,rfl,T0⟩,?_⟩;rintro n V4 v26 v27 v28 v29 v30 v31 v32 j o v35 ⟨i,p,t,Q,hi,rfl,T⟩ J K;simp only[List.cons.injEq,Value.int.injEq,true_and,and_true]at Q;obtain⟨rfl,rfl,rfl,rfl,rfl,h5,h6,h7,h8,rfl⟩:=Q;cases qBc _ _ h5;cases qBc _ _ h6;cases qBc _ _ h7;cases qBc _ _ h8;have w:=(Own.growS ol (T.op.sub)).rows (row:=qFK) (xs:=k.st.lg) (λ_=>rfl) (by decide);refine⟨λz=>?_,λS=>?_⟩
 ·obtain⟨a,ham,P,-,g,U,hz,O⟩:=w.get z;obtain⟨k1,k2,k3,k4,-⟩:=f.at_ i a P;have hS:=qFz (size:=size) (pl:=pl) P;have hbl:=blk_len (size:=size) (pl:=pl) i (uY g);have hbt:=blk_tr (size:=size) (pl:=pl) i (uY g);have hal:=alN_le k.st.lg i;have hnl:qAv (k.st.lg.take i)<=16000000:=by
   grind[qAv]
  have hmono:alN (k.st.lg.take i)<=alN k.st.lg:=by
   grind[alN,uZ]
  refine⟨U,hz,z,a.1,a.2.1,a.2.2,O,λc=>?_,λc=>?_⟩
  ·have c:a.1=3:=c;have hrg:=(blk_rng (size:=size) (lg:=k.st.lg) (pl:=pl) (M:=M) (λb G=>⟨h0.lo b G,Z b G⟩) hM.1 i (uY g)).1;refine(c41 (size:=size) (T.op.rows (row:=qAf) (λ_=>rfl) (by decide)) (blk_pl0 h0 hs i (uY g)) (λb G=>by grind)).call ⟨_,rfl,λb5 hb5=>?_⟩;refine oneG (row:=qAf) qDL (x:=qDm (qCG size (k.st.lg.take i) pl).1 size) (s:=j) T.op.but hb5 (by omega) rfl rfl (λ_=>rfl) λs5 V5 o5=>⟨s5,rfl,?_⟩;have e:=T.pushP o5;obtain⟨X,hX⟩:∃X,X=(if a.1=3 then(qCG size (k.st.lg.take i) pl).1++[qDm (qCG size (k.st.lg.take i) pl).1 size]else(qCG size (k.st.lg.take i) pl).1):=⟨_,rfl⟩;have u:=hX;rw[if_pos c]at u;rw[<-u]at e;have hXl:X.length=pl.length+alN (k.st.lg.take i)+1:=by simp_all
   have:=k2 c;refine⟨λy=>?_,λy=>?_⟩
   ·have y:0<a.2.1:=y;obtain⟨q,A⟩:∃q:Nat,a.2.1-1=(q:Int):=⟨(a.2.1-1).toNat,by omega⟩;obtain⟨d1,d2,d3,d4⟩:=qCD (e.op.rows (row:=qAf) (xs:=X) (λ_=>rfl) (by decide)) (yv (show q<X.length by omega));rw[A];refine⟨⟨by omega,by omega⟩,d1,d2,d3,_,d4,λb Z=>?_⟩;refine oneG (row:=qAf) qDL (x:=X[q]'(by omega)) (s:=o) e.ot.but Z (by omega) rfl rfl (λ_=>rfl) λI V6 o6=>⟨I,rfl,w.succ z,?_⟩;refine K (k.st.lg.length-(i+1)) _ _ (by omega) ⟨i+1,s5,I,rfl,g,rfl,?_⟩;rw[hS];have T6:=e.pushT o6;unfold blkS;rw[if_pos y];have e1:X.getD (a.2.1-1).toNat 0=X[q]'(by omega):=by rw[A,xu,vT,yv (show q<X.length by omega)];rfl
    simp_all
   omega
  ·have c:¬a.1=3:=c;have e:=T;obtain⟨X,hX⟩:∃X,X=(if a.1=3 then(qCG size (k.st.lg.take i) pl).1++[qDm (qCG size (k.st.lg.take i) pl).1 size]else(qCG size (k.st.lg.take i) pl).1):=⟨_,rfl⟩;have u:=hX;rw[if_neg c]at u;rw[<-u]at e;have hXl:X.length=pl.length+alN (k.st.lg.take i):=by rw[u,hbl]
   have:=k3 c;refine⟨λy=>?_,λy=>?_⟩
   ·have y:0<a.2.1:=y;obtain⟨q,A⟩:∃q:Nat,a.2.1-1=(q:Int):=⟨(a.2.1-1).toNat,by omega⟩;obtain⟨d1,d2,d3,d4⟩:=qCD (e.op.rows (row:=qAf) (xs:=X) (λ_=>rfl) (by decide)) (yv (show q<X.length by omega));rw[A];refine⟨⟨by omega,by omega⟩,d1,d2,d3,_,d4,λb Z=>?_⟩;refine oneG (row:=qAf) qDL (x:=X[q]'(by omega)) (s:=o) e.ot.but Z (by omega) rfl rfl (λ_=>rfl) λI V6 o6=>⟨I,rfl,w.succ z,?_⟩;refine K (k.st.lg.length-(i+1)) _ _ (by omega) ⟨i+1,j,I,rfl,g,rfl,?_⟩;rw[hS];have T6:=e.pushT o6;unfold blkS;rw[if_pos y];have e1:X.getD (a.2.1-1).toNat 0=X[q]'(by omega):=by rw[A,xu,vT,yv (show q<X.length by omega)];rfl
    simp_all
   ·have y:¬0<a.2.1:=y;refine⟨w.succ z,K (k.st.lg.length-(i+1)) _ _ (by omega) ⟨i+1,j,o,rfl,g,rfl,?_⟩⟩;grind[blkS]
 ·have hdn:=(w.done S).2;rw[wY hdn]at T;rw[D];refine .inr ⟨H,k,gs,ns,ls,nd,j,o,B,L.grow (ol.sub.trans T.op.sub),⟨T.op.narrow s2,T.ot.narrow s2,T.dj⟩,rfl⟩
end
section
variable{V:Mem}{d:Ds}{m:Mm}{nm:ByteArray}{args pl:List Int}{F:Nat}{size most:Int}
theorem qFk(h:qAU d m nm args F=0):(qBS d F (qCJ d nm) args (qBU m)).st.ns.length<=4096:=by
 obtain⟨G,k⟩:=qCS h;have g:=qGz (F:=F) G k;have h1:=(qAl g.mem).2.1;generalize(qBS d F (qCJ d nm) args (qBU m)).st=s at h1⊢;rw[show s.mm.nodes.length=s.ns.length from xd ..]at h1;exact h1
noncomputable def qGg(d:Ds)(m:Mm)(pl:List Int)(size most:Int)(nm:ByteArray)(args:List Int)(F:Int):Int:=if exE d m size most F=0 then(if pl.length=m.nodes.length/\plB pl size=true then qAU d m nm args F else 30)else exE d m size most F
theorem ex_zero{F:Int}(h:exE d m size most F=0):qAz d m/\1<=size/\size<=64/\1<=most/\most<=1000/\0<=F/\F<=1048576:=by
 grind[exE,qAZ,absurd]
def ExrP(V:Mem)(d:Ds)(F:Int)(m:Mm)(nm:ByteArray)(args pl:List Int)(size most:Int):Ending->Mem->Prop:=λe V'=>
 (qGg d m pl size most nm args F≠0/\V.sub V'/\e=.returned (.tuple #[.agg #[.int .i64 0,.int .i64 0,.int .i64 0,.int .i64 0,.int .i64 0],.agg #[qAD.v,qAD.v],qAD.v,.int .i64 (qGg d m pl size most nm args F)]))∨
 (qGg d m pl size most nm args F=0/\∃r:Rx Int,∃(gs ns ls:Sl)(nd:List Nd)(p:Sl),r=qBS d F.toNat (qCJ d nm) args (qBU m)/\Lay V V' gs ns ls nd r.st/\qAc V' p 1 ((qCG size r.st.lg pl).1.map qAf)/\e=.returned (.tuple #[.agg #[.int .i64 (outC r),.int .i64 (outV r),.int .i64 r.st.cm,.int .i64 (qAv r.st.lg),.int .i64 (qJQ most.toNat [] (qCG size r.st.lg pl).2)],.agg #[gs.v,ns.v],p.v,.int .i64 0]))
theorem c19[Tab V]{l ps:Sl}{fu:Int}(Y:Ds.Ok V d)(hm:Mm.Ok V m)(O:qAc V l 1 (args.map qAf))(W:fu<=4000∨1048576<fu)(Q:qAc V ps 1 (pl.map qAf)):
  Tri xD 19 #[d.v,m.v,ps.v,.int .i64 size,.int .i64 most,.agg #[.string nm,l.v],.int .i64 fu] V (ExrP V d fu m nm args pl size most):=by
 obtain⟨R,j⟩:∃R,R=ExrP V d fu m nm args pl size most:=⟨_,rfl⟩;rw[<-j];refine x19 ?_;have bad:∀{k:Int}{V':Mem},qGg d m pl size most nm args fu=k->k≠0->V.sub V'->R (.returned (.tuple #[.agg #[.int .i64 0,.int .i64 0,.int .i64 0,.int .i64 0,.int .i64 0],.agg #[qAD.v,qAD.v],qAD.v,.int .i64 k])) V':=λh A I=>by rw[j];exact .inl ⟨by rw[h];exact A,I,by rw[h]⟩
 have i:=hm.nodes.n_eq;refine Tri.mono (c51 Y hm) ?_;rintro _ V1 ⟨rfl,s1⟩;haveI:Tab V1:=Tab.sub (V:=V) inferInstance s1;refine⟨_,rfl,λh0=>?_,λh0=>⟨λh=>absurd h h0,λ_=>bad (by grind[qGg]) h0 s1⟩⟩;have h0:exE d m size most fu=0:=h0;obtain⟨G,o,X,c,e,B,D⟩:=ex_zero h0;obtain⟨F,rfl⟩:∃F:Nat,fu=(F:Int):=⟨fu.toNat,by omega⟩;have W:F<=4000:=by omega
 refine(c40 (size:=size) (n:=(m.ns.n:Int)) (Q.sub s1)).call ⟨_,rfl,λh1=>?_,λh1=>bad (k:=30) ?_ (by decide) s1⟩
 ·have h1:(decide ((pl.length:Int)=(m.ns.n:Int))&&plB pl size)=true:=h1;rw[zC,decide_eq_true_eq,i]at h1;have H:pl.length=m.nodes.length:=by omega
  obtain⟨E,g⟩:=qFn.1 h1.2;have er:qGg d m pl size most nm args F=qAU d m nm args F:=by grind[qGg]
  refine⟨λ_=>?_,λh=>absurd h0 h⟩;refine Tri.mono (c52 (M:=4095) (pl:=pl) (size:=size) (nm:=nm) (Y.sub s1) (hm.sub s1) (O.sub s1) W (Q.sub s1) H g.pl0 o (λb y=>by have:=(g.rng b y).2;omega) (by omega) λr w f=>by rw[w];exact qFk f) ?_;rintro _ V2 (⟨f,s2,rfl⟩|⟨f,r,gs,ns,ls,nd,p,t,w,L,T,rfl⟩);·exact⟨0,0,0,0,0,qAD,qAD,qAD,qAD,_,rfl,λh=>absurd h f,λ_=>bad er f (s1.trans s2)⟩
  have s2:=T.op.sub;obtain⟨u,z⟩:=qLc f;rw[<-w]at u z;have K:r.st.ns.length<=4096:=by rw[w];exact qFk f
  have S:=u.len;have J:=(blk_rng (size:=size) (lg:=r.st.lg) (pl:=pl) (M:=4095) (λb y=>⟨(g.rng b y).1,by have:=(g.rng b y).2;omega⟩) (by omega) r.st.lg.length (yU _)).2;have Z:=blk_tr (size:=size) (lg:=r.st.lg) (pl:=pl) r.st.lg.length (yU _);rw[uz]at J Z;have U:qAv r.st.lg<=16000000:=by
   grind[qAv]
  refine⟨_,_,_,_,_,gs,ns,p,t,_,rfl,λ_=>?_,λh=>absurd rfl h⟩;refine Tri.mono (c53 (m:=most)) ?_;rintro _ V3 (⟨h,-⟩|⟨-,q,rfl,C⟩);·exact absurd ⟨c,e⟩ h
  refine⟨some ⟨q,0,none⟩,0,rfl,λ_=>?_,λh=>absurd rfl h⟩;refine Tri.mono (c54 C (by omega) (T.ot.rows (row:=qAf) (λ_=>rfl) (by decide)) (λx hx=>by grind) (by omega)) ?_;rintro _ V4 ⟨rfl,C4⟩;refine⟨_,rfl,?_⟩;have P:=C4.sub;rw[j];exact .inr ⟨er.trans f,r,gs,ns,ls,nd,p,w,(L.narrow s1).grow P,(T.op.rows (row:=qAf) (λ_=>rfl) (by decide)).sub P,rfl⟩
 grind[qGg]
end
section
variable{V:Mem}{d:Ds}{m:Mm}{nm:ByteArray}{args pl:List Int}{F:Nat}{size:Int}
def ExtrP(V:Mem)(d:Ds)(F:Int)(m:Mm)(nm:ByteArray)(args pl:List Int)(size:Int):Ending->Mem->Prop:=λe V'=>V.sub V'/\
 ((qGg d m pl size 1 nm args F≠0/\e=.returned (.tuple #[qAD.v,.int .i64 (qGg d m pl size 1 nm args F)]))∨
 (qGg d m pl size 1 nm args F=0/\65536<(qCG size (qBS d F.toNat (qCJ d nm) args (qBU m)).st.lg pl).2.length/\e=.returned (.tuple #[qAD.v,.int .i64 4]))∨
 (qGg d m pl size 1 nm args F=0/\¬65536<(qCG size (qBS d F.toNat (qCJ d nm) args (qBU m)).st.lg pl).2.length/\∃t:Sl,e=.returned (.tuple #[t.v,.int .i64 0])/\qAc V' t 1 ((qCG size (qBS d F.toNat (qCJ d nm) args (qBU m)).st.lg pl).2.map qAf)))
theorem c20[Tab V]{l ps:Sl}{fu:Int}(j:Ds.Ok V d)(hm:Mm.Ok V m)(c:qAc V l 1 (args.map qAf))(i:fu<=4000∨1048576<fu)(q:qAc V ps 1 (pl.map qAf)):
  Tri xD 20 #[d.v,m.v,ps.v,.int .i64 size,.agg #[.string nm,l.v],.int .i64 fu] V (ExtrP V d fu m nm args pl size):=by
 obtain⟨R,z⟩:∃R,R=ExtrP V d fu m nm args pl size:=⟨_,rfl⟩;rw[<-z];refine x20 ?_;have bad:∀{k:Int}{V':Mem},qGg d m pl size 1 nm args fu=k->k≠0->V.sub V'->R (.returned (.tuple #[qAD.v,.int .i64 k])) V':=λh e H=>by rw[z];exact⟨H,.inl ⟨by rw[h];exact e,by rw[h]⟩⟩
 have u:=hm.nodes.n_eq;refine Tri.mono (c51 j hm) ?_;rintro _ V1 ⟨rfl,s1⟩;haveI:Tab V1:=Tab.sub (V:=V) inferInstance s1;refine⟨_,rfl,λh0=>?_,λh0=>⟨λh=>absurd h h0,λ_=>bad (by unfold qGg;rw[if_neg h0]) h0 s1⟩⟩;have h0:exE d m size 1 fu=0:=h0;obtain⟨G,y,J,-,-,Z,Y⟩:=ex_zero h0;obtain⟨F,rfl⟩:∃F:Nat,fu=(F:Int):=⟨fu.toNat,by omega⟩;have i:F<=4000:=by omega
 refine(c40 (size:=size) (n:=(m.ns.n:Int)) (q.sub s1)).call ⟨_,rfl,λh1=>?_,λh1=>bad (k:=30) ?_ (by decide) s1⟩
 ·have h1:(decide ((pl.length:Int)=(m.ns.n:Int))&&plB pl size)=true:=h1;rw[zC,decide_eq_true_eq,u]at h1;have w:pl.length=m.nodes.length:=by omega
  obtain⟨W,g⟩:=qFn.1 h1.2;have er:qGg d m pl size 1 nm args F=qAU d m nm args F:=by unfold qGg;rw[if_pos h0,if_pos ⟨w,h1.2⟩]
  refine⟨λ_=>?_,λh=>absurd h0 h⟩;refine Tri.mono (c52 (M:=4095) (pl:=pl) (size:=size) (nm:=nm) (j.sub s1) (hm.sub s1) (c.sub s1) i (q.sub s1) w g.pl0 y (λb Q=>by have:=(g.rng b Q).2;omega) (by omega) λr x f=>by rw[x];exact qFk f) ?_;rintro _ V2 (⟨f,s2,rfl⟩|⟨f,r,gs,ns,ls,nd,p,t,x,L,T,rfl⟩);·exact⟨0,0,0,0,0,qAD,qAD,qAD,qAD,_,rfl,λh=>absurd h f,λ_=>bad er f (s1.trans s2)⟩
  have s2:=s1.trans T.op.sub;have tr:=T.ot.rows (row:=qAf) (λ_=>rfl) (by decide);have hn:=tr.n_eq;rw[x]at tr hn;rw[z];have o:((F:Int)).toNat=F:=xu F;refine⟨_,_,_,_,_,gs,ns,p,t,_,rfl,λ_=>⟨λh=>?_,λh=>?_⟩,λh=>absurd rfl h⟩
  ·have h:(65536:Int)<(t.n:Int):=h;exact⟨s2,.inr (.inl ⟨er.trans f,by rw[o];omega,rfl⟩)⟩
  ·have h:¬(65536:Int)<(t.n:Int):=h;exact⟨s2,.inr (.inr ⟨er.trans f,by rw[o];omega,t,rfl,tr⟩)⟩
 ·unfold qGg;rw[if_pos h0,if_neg λh=>h1 ?_];rw[h.2,u,h.1];simp
end
section
variable{V:Mem}{d:Ds}{m:Mm}
theorem c10(k:Ds.Ok V d)(hm:Mm.Ok V m){fu:Int}:Tri xD 10 #[d.v,m.v,.int .i64 fu] V λe V'=>V'=V/\∃b:Bool,e=.returned (.bool b)/\(b=false->fu<=3000∨1048576<fu):=by
 refine x10 ?_;refine Tri.mono (greatC k) ?_;rintro _ _ ⟨rfl,b,rfl⟩;refine⟨b,rfl,λ_=>⟨rfl,true,rfl,λh=>by cases h⟩,λ_=>Tri.mono (manyC hm) ?_⟩;rintro _ _ ⟨rfl,c,rfl⟩;refine⟨c,rfl,λ_=>⟨rfl,true,rfl,λh=>by cases h⟩,λ_=>⟨λh=>⟨rfl,_,rfl,λh2=>?_⟩,λh=>⟨rfl,false,rfl,λ_=>?_⟩⟩⟩
 ·have:=of_decide_eq_false h2;omega
 ·have h:¬3000<fu:=h;omega
theorem c18{nm:ByteArray}{l:Sl}:Tri xD 18 #[.agg #[.string nm,l.v]] V (RY V):=by
 refine x18 ?_;exact⟨λ_=>⟨rfl,true,rfl⟩,λ_=>⟨rfl,_,rfl⟩⟩
end
section
variable{d:Ds}{F:Nat}{m m':Mm}
theorem qLj(h:m.plain=m'.plain)(n:Int):qAQ d m n=qAQ d m' n:=by
 unfold qAQ;cases k:m.nodes[(n-1).toNat]? with
 |some x=>
  obtain⟨y,h1,h2,h3⟩:=qFm h k;rw[h1];simp only[h2,h3]
 |none=>
  have:m'.nodes[(n-1).toNat]?=none:=by
   rw[uy]at k⊢;rw[<-qDS h];exact k
  rw[this]
theorem qKz(h:m.plain=m'.plain):∀f:Nat,qCW d m f=qCW d m' f
 |0=>by funext st n;rw[qCW,qCW]
 |f+1=>by
  funext st n;rw[qCW,qCW,qLj h,qKz h f]
theorem reachP_plain(h:m.plain=m'.plain):qBv d m=qBv d m':=by
 have k:m.globals=m'.globals:=(wm h).1;unfold qBv lookP;rw[qDS h,qKz h,k]
theorem canP_plain(h:m.plain=m'.plain):canP d m=canP d m':=by
 have g:m.globals=m'.globals:=(wm h).1;unfold canP;rw[reachP_plain h,g];refine Prod.ext rfl (List.map_congr_left λn _=>?_);cases k:m.nodes[(n-1).toNat]? with
 |some x=>
  obtain⟨y,h1,h2,h3⟩:=qFm h k;rw[h1];simp only[h2,h3]
 |none=>
  have:m'.nodes[(n-1).toNat]?=none:=by
   rw[uy]at k⊢;rw[<-qDS h];exact k
  rw[this]
end
end Go.Proofs
namespace Go.Proofs
open Go Go.Sx
section
variable{d d':Ds}{m m':Mm}(hn:∀n,qAQ d' m' n=qAQ d m n)
include hn
theorem ent_same:∀(n:Nat)(s:Sr)(x:Int),qCW d' m' n s x=qCW d m n s x:=by
 intro n;induction n with
 |zero=>intro s x;rfl
 |succ n h=>
  intro s x;have e:qCW d' m' n=qCW d m n:=funext λs=>funext λx=>h s x;unfold qCW;rw[hn,e]
theorem bfs_same(most:Nat)(but:List Int):∀(f:Nat)(l:List Int)(i:Nat),bfsP d' m' most but f l i=bfsP d m most but f l i:=by
 intro f;induction f with
 |zero=>intro l i;rfl
 |succ f h=>
  intro l i;unfold bfsP;simp only[h,hn]
variable(hl:m'.nodes.length=m.nodes.length)
include hl
theorem wide_same(l:List Int)(most:Nat)(but:List Int):qEi d' m' l most but=qEi d m l most but:=by
 unfold qEi;rw[hl];exact bfs_same hn _ _ _ _ _
theorem place_like(g:tgt d'.globals m'.globals=tgt d.globals m.globals){k:Int}{size:Nat}{zs:List Int}(h:qBj d' m' k size zs):qBj d m k size zs:=by
 have f:qBv d' m'=qBv d m:=by unfold qBv lookP;rw[g,hl,show qCW d' m' (m.nodes.length+1)=qCW d m (m.nodes.length+1)from funext λs=>funext λx=>ent_same hn _ s x]
 have t:qDg d' m'=qDg d m:=by unfold qDg;rw[f,hl]
 have u:qJC d' m'=qJC d m:=by
  unfold qJC firstP;rw[wide_same hn hl,g,hl]
 have w:cluS d' m' size=cluS d m size:=by
  funext s n;unfold cluS;rw[wide_same hn hl]
 unfold qBj qDT cluP at h⊢;rw[t,u,w,hl]at h;exact h
end
theorem place_same{d d':Ds}{m:Mm}(g:∀t,qAs d' t=qAs d t)(f:d'.globals=d.globals){k:Int}{size:Nat}{zs:List Int}(h:qBj d' m k size zs):qBj d m k size zs:=
 place_like (λn=>by unfold qAQ;simp only[g]) rfl (by rw[f]) h
end Go.Proofs
namespace Go.Proofs
open Go Go.Sx
def chM(a b s0 s1 s2 s3:Sl):Mm:=⟨a,[4],b,[⟨0,s0,[0]⟩,⟨0,s1,[1]⟩,⟨0,s2,[2]⟩,⟨0,s3,[3]⟩]⟩
section
variable{a b s0 s1 s2 s3:Sl}
theorem ch_valid:qAJ qCq=true:=by kernel_rfl
theorem ch_chk:qHW qCq=none:=by kernel_rfl
theorem ch_mem:qAx qCq (chM a b s0 s1 s2 s3)=true:=by kernel_rfl
theorem ch_good:qAz qCq (chM a b s0 s1 s2 s3):=⟨ch_valid,ch_chk,ch_mem⟩
theorem ch_start:qCK qCq (chM a b s0 s1 s2 s3) qHX []=0:=by kernel_rfl
theorem ch_idx:qCJ qCq qHX=0:=by kernel_rfl
theorem ch_run:(λr:Rx Int=>(outC r,outV r,r.st.cm,qAv r.st.lg,(qCG 2 r.st.lg [1,1,0,0]).1,qJQ 1 [] (qCG 2 r.st.lg [1,1,0,0]).2)) (qBS qCq 100 0 [] (qBU (chM a b s0 s1 s2 s3)))=(0,0,0,4,[1,1,0,0],2):=by kernel_rfl
theorem ch_ord:qDT qCq (chM a b s0 s1 s2 s3) 1=[1,2,3,4]:=by kernel_rfl
theorem ch_deep:qDg qCq (chM a b s0 s1 s2 s3)=[4,3,2,1]:=by kernel_rfl
theorem ch_clu:cluP qCq (chM a b s0 s1 s2 s3) 2 [4,3,2,1]=[[4,3],[2,1]]:=by kernel_rfl
end
end Go.Proofs
namespace Go.Proofs
open Go Go.Sx
section
variable{a b s0 s1 s2 s3:Sl}
theorem ch_pl1:qBj qCq (chM a b s0 s1 s2 s3) 1 2 [0,0,1,1]:=by
 unfold qBj;rw[if_pos (by decide),ch_ord];refine⟨rfl,λj n h=>?_⟩
 match j,h with
 |0,h=>cases h;rfl
 |1,h=>cases h;rfl
 |2,h=>cases h;rfl
 |3,h=>cases h;rfl
 |j+4,h=>cases h
theorem ch_pl4:qBj qCq (chM a b s0 s1 s2 s3) 4 2 [1,1,0,0]:=by
 unfold qBj;rw[if_neg (by decide),ch_deep,ch_clu];refine⟨rfl,λj c h n hn=>?_⟩
 match j,h with
 |0,h=>
  cases h;simp only[yC,xB,or_false]at hn;rcases hn with rfl|rfl<;>rfl
 |1,h=>
  cases h;simp only[yC,xB,or_false]at hn;rcases hn with rfl|rfl<;>rfl
 |j+2,h=>cases h
theorem ch_place{d:Ds}(SD:qJG qCq d){k:Int}{zs ys:List Int}(h:qBj d (chM a b s0 s1 s2 s3) k 2 zs)(h2:qBj qCq (chM a b s0 s1 s2 s3) k 2 ys):zs=ys:=
 place_eq ch_mem (by decide) (place_same SD.fields (congrArg Ds.globals SD.er).symm h) h2
end
end Go.Proofs
namespace Go.Proofs
open Go Go.Sx
attribute [local irreducible] Go.Sx.Tri
theorem plF_zero{d:Ds}{m:Mm}{k size:Int}(h:qAx d m=true)(h1:1<=k/\k<=4/\1<=size/\size<=64):plF d m k size=0:=by grind[plF]
section
variable{a b s0 s1 s2 s3:Sl}{d:Ds}(SD:qJG qCq d)
include SD
theorem ch_gd:qAz d (chM a b s0 s1 s2 s3):=qAz.same ch_good SD
theorem ch_exr:qGg d (chM a b s0 s1 s2 s3) [1,1,0,0] 2 1 qHX [] 100=0:=by
 have G:=ch_gd (a:=a) (b:=b) (s0:=s0) (s1:=s1) (s2:=s2) (s3:=s3) SD;have h0:qAZ d (chM a b s0 s1 s2 s3) 0=0:=by grind[qAZ]
 have P:=(place_plc (a:=[1,1,0,0]) (ch_mem (a:=a) (b:=b) (s0:=s0) (s1:=s1) (s2:=s2) (s3:=s3)) (by decide) ch_pl4).1;unfold qGg exE;rw[if_pos h0,if_pos (by decide),if_pos ⟨by rfl,qFn.2 ⟨by decide,P⟩⟩,start_ok G (by decide),SD.cll,ch_start]
theorem ch_play{r:Rx Int}(h:r=qBS d (100:Int).toNat (qCJ d qHX) [] (qBU (chM a b s0 s1 s2 s3))):outC r=0/\outV r=0/\r.st.cm=0/\qAv r.st.lg=4/\(qCG 2 r.st.lg [1,1,0,0]).1=[1,1,0,0]/\qJQ (1:Int).toNat [] (qCG 2 r.st.lg [1,1,0,0]).2=2:=by
 rw[SD.idx,ch_idx,SD.play]at h;grind[ch_run,qBS,qCq,qBU,chM,Prod.mk.injEq]
end
section
variable{V:Mem}
theorem qEr{V:Mem}{b n:Nat}{xs:List Int}(h:V b=some (.cells (xs.map (xe .i64)).toArray 3 (0,0)))(hn:n=xs.length)(k:xs.length<=100):qAc V (qEh b n) 1 (xs.map qAf):=
 qAc.cells (row:=qAf) (xs:=xs) h (by rw[qAN]) (λ_=>rfl) hn (Nat.le_trans k (by decide))
theorem c9[Tab V]:PP 9 [] V (.bool true):=by
 refine Pur.mk (x9 ?_);refine Tri.mono c37 ?_;rintro _ V1 ⟨s1,d,rfl,SD,hd⟩;refine⟨_,_,_,_,_,_,_,_,rfl,λb8 h8 b9 h9 g P f O u A w I=>?_⟩;have t8:=Mem.sub_new h8 (.cells ([4].map (xe .i64)).toArray 3 (0,0));have S:=Mem.sub_new h9 (.cells ([0].map (xe .i64)).toArray 3 (0,0));have c:=Mem.sub_new P (.cells ([1].map (xe .i64)).toArray 3 (0,0));have o:=Mem.sub_new O (.cells ([2].map (xe .i64)).toArray 3 (0,0));have i:=Mem.sub_new A (.cells ([3].map (xe .i64)).toArray 3 (0,0));have j:=Mem.sub_new I (.cells #[.int .i64 0,(qEh b9 1).v,.int .i64 0,(qEh g 1).v,.int .i64 0,(qEh f 1).v,.int .i64 0,(qEh u 1).v] 92 (0,0));obtain⟨U,e⟩:∃U,U=((((((V1.set b8 (.cells ([4].map (xe .i64)).toArray 3 (0,0))).set b9 (.cells ([0].map (xe .i64)).toArray 3 (0,0))).set g (.cells ([1].map (xe .i64)).toArray 3 (0,0))).set f (.cells ([2].map (xe .i64)).toArray 3 (0,0))).set u (.cells ([3].map (xe .i64)).toArray 3 (0,0))).set w (.cells #[.int .i64 0,(qEh b9 1).v,.int .i64 0,(qEh g 1).v,.int .i64 0,(qEh f 1).v,.int .i64 0,(qEh u 1).v] 92 (0,0))):=⟨_,rfl⟩;have sU:V1.sub U:=by rw[e];exact t8.trans (S.trans (c.trans (o.trans (i.trans j))))
 have T:qAc U (qEh b8 1) 1 (([4]:List Int).map qAf):=qEr (xs:=[4]) (by rw[e];exact(S.trans (c.trans (o.trans (i.trans j)))) _ _ mss) rfl (by decide);have ca9:qAc U (qEh b9 1) 1 (([0]:List Int).map qAf):=qEr (xs:=[0]) (by rw[e];exact(c.trans (o.trans (i.trans j))) _ _ mss) rfl (by decide);have ca10:qAc U (qEh g 1) 1 (([1]:List Int).map qAf):=qEr (xs:=[1]) (by rw[e];exact(o.trans (i.trans j)) _ _ mss) rfl (by decide);have ca11:qAc U (qEh f 1) 1 (([2]:List Int).map qAf):=qEr (xs:=[2]) (by rw[e];exact(i.trans j) _ _ mss) rfl (by decide);have ca12:qAc U (qEh u 1) 1 (([3]:List Int).map qAf):=qEr (xs:=[3]) (by rw[e];exact j _ _ mss) rfl (by decide);have R:U w=some (.cells #[.int .i64 0,(qEh b9 1).v,.int .i64 0,(qEh g 1).v,.int .i64 0,(qEh f 1).v,.int .i64 0,(qEh u 1).v] 92 (0,0)):=by rw[e];exact Mem.set_same _ _ _
 obtain⟨m,hm⟩:∃m,m=chM (qEh b8 1) (qEh w 4) (qEh b9 1) (qEh g 1) (qEh f 1) (qEh u 1):=⟨_,rfl⟩;have M:Mm.Ok U m:=by
  rw[hm];refine⟨T,λx hx=>by grind[chM,inI],qAc.cells (row:=Nd.row) R rfl (λ_=>rfl) rfl (by simp[chM]),λn hn=>?_⟩;have one:∀{s:Sl}{x:Int},qAc U s 1 (([x]:List Int).map qAf)->inI x->Nd.Ok U ⟨0,s,[x]⟩:=λh hx=>⟨h,(show inI 0 by unfold inI;decide),λy hy=>by simp_all⟩;simp only[chM,yC,xB,or_false]at hn;rcases hn with rfl|rfl|rfl|rfl;·grind[inI]
  ·grind[inI]
  ·grind[inI]
  grind[inI]
 have z:V.sub U:=s1.trans sU;haveI:Tab U:=Tab.sub (V:=V) inferInstance z;have mv:m.v=.agg #[(qEh b8 1).v,(qEh w 4).v]:=by rw[hm];rfl
 show Tri _ _ #[d.v,.agg #[(qEh b8 1).v,(qEh w 4).v],.int .i64 1,.int .i64 2] ((((((V1.set b8 (.cells ([4].map (xe .i64)).toArray 3 (0,0))).set b9 (.cells ([0].map (xe .i64)).toArray 3 (0,0))).set g (.cells ([1].map (xe .i64)).toArray 3 (0,0))).set f (.cells ([2].map (xe .i64)).toArray 3 (0,0))).set u (.cells ([3].map (xe .i64)).toArray 3 (0,0))).set w (.cells #[.int .i64 0,(qEh b9 1).v,.int .i64 0,(qEh g 1).v,.int .i64 0,(qEh f 1).v,.int .i64 0,(qEh u 1).v] 92 (0,0))) _;rw[<-e,<-mv];clear e t8 S c o i j h8 h9 P O A I;refine Tri.mono (c14 (hd.sub sU) M (k:=1) (size:=2)) ?_;rintro _ V8 ⟨p,rfl,s8,-,hp⟩;have G1:qAx d m=true:=by rw[hm];exact(ch_gd SD).mem
 have e8:=plF_zero (k:=1) (size:=2) G1 (by decide);obtain⟨zs,o8,P8⟩:=hp e8;obtain rfl:zs=[0,0,1,1]:=by grind[ch_place,ch_pl1]
 refine⟨_,_,rfl,Tri.mono c37 ?_⟩;rintro _ V9 ⟨K,d2,rfl,SD2,hd2⟩;haveI:Tab V9:=Tab.sub (V:=U) inferInstance (s8.trans K);refine⟨_,_,_,_,_,_,_,_,rfl,?_⟩;show Tri _ _ #[d2.v,.agg #[(qEh b8 1).v,(qEh w 4).v],.int .i64 4,.int .i64 2] V9 _;rw[<-mv];refine Tri.mono (c14 hd2 (M.sub (s8.trans K)) (k:=4) (size:=2)) ?_;rintro _ V10 ⟨p2,rfl,X,-,hp2⟩;have G2:qAx d2 m=true:=by rw[hm];exact(ch_gd SD2).mem
 have B:=plF_zero (k:=4) (size:=2) G2 (by decide);obtain⟨zs2,o10,P10⟩:=hp2 B;obtain rfl:zs2=[1,1,0,0]:=by grind[ch_place,ch_pl4]
 have r8:=(o8.rows (row:=qAf) (xs:=[0,0,1,1]) (λ_=>rfl) (by decide)).sub (K.trans X);have r10:=o10.rows (row:=qAf) (xs:=[1,1,0,0]) (λ_=>rfl) (by decide);refine⟨_,_,rfl,and_self_iff.2 (Tri.mono c37 ?_)⟩;rintro _ G ⟨Z,d3,rfl,C,hd3⟩;refine⟨_,_,_,_,_,_,_,_,rfl,λH h34=>?_⟩;have Y:=Mem.sub_new h34 (.cells (([1,1,0,0]:List Int).map (xe .i64)).toArray 3 (0,0));have W:U.sub (G.set H (.cells (([1,1,0,0]:List Int).map (xe .i64)).toArray 3 (0,0))):=s8.trans (K.trans (X.trans (Z.trans Y)));haveI:Tab (G.set H (.cells (([1,1,0,0]:List Int).map (xe .i64)).toArray 3 (0,0))):=Tab.sub (V:=U) inferInstance W;show Tri _ _ #[d3.v,.agg #[(qEh b8 1).v,(qEh w 4).v],(qEh H 4).v,.int .i64 2,.int .i64 1,.agg #[.string qHX,qAD.v],.int .i64 100] (G.set H (.cells (([1,1,0,0]:List Int).map (xe .i64)).toArray 3 (0,0))) _;rw[<-mv];refine Tri.mono (c19 (nm:=qHX) (args:=[]) (pl:=[1,1,0,0]) (size:=2) (most:=1) (hd3.sub Y) (M.sub W) qAc.nil (.inl (by decide)) (qEr (xs:=[1,1,0,0]) mss rfl (by decide))) ?_;rintro _ V13 (⟨h,-⟩|⟨-,r,gs,ns,ls,nd,q,hr,L,hq,rfl⟩);·exact absurd (by rw[hm];exact ch_exr C) h
 rw[hm]at hr;obtain⟨k1,k2,k3,k4,k5,k6⟩:=ch_play C hr;rw[k1,k2,k3,k4,k6];rw[k5]at hq;have D:=Y.trans L.sub;have eq:∀{V':Mem}{s t:Sl}{xs:List Int},V.sub V'->qAc V' s 1 (xs.map qAf)->qAc V' t 1 (xs.map qAf)->∀{q:Ending->Mem->Prop},(V.sub V'->q (.returned (.bool true)) V')->Tri xD 13 #[s.v,t.v] V' q:=λh h1 h2 _ hq=>(c13 h1 h2).call (by simp_all);have z13:V.sub V13:=z.trans (W.trans L.sub);refine⟨_,_,_,_,_,_,_,_,_,rfl,λ_ b14 h14=>?_,λh=>absurd e8 h⟩;have J:=Mem.sub_new h14 (.cells (([0,0,1,1]:List Int).map (xe .i64)).toArray 3 (0,0));refine eq (xs:=[0,0,1,1]) (t:=qEh b14 4) (z13.trans J) (r8.sub (Z.trans (D.trans J))) (qEr (xs:=[0,0,1,1]) mss rfl (by decide)) λz14=>⟨_,rfl,λ_=>⟨λ_ b16 h16=>?_,λh=>absurd B h⟩,λh=>absurd rfl h⟩;have Q:=Mem.sub_new h16 (.cells (([1,1,0,0]:List Int).map (xe .i64)).toArray 3 (0,0));refine eq (xs:=[1,1,0,0]) (t:=qEh b16 4) (z14.trans Q) (r10.sub (Z.trans (D.trans (J.trans Q)))) (qEr (xs:=[1,1,0,0]) mss rfl (by decide)) λz16=>⟨_,rfl,λ_=>⟨λ_=>⟨λ_ b18 h18=>?_,λh=>absurd ⟨rfl,rfl,rfl,rfl,rfl⟩ h⟩,λh=>absurd rfl h⟩,λh=>absurd rfl h⟩;have E:=Mem.sub_new h18 (.cells (([1,1,0,0]:List Int).map (xe .i64)).toArray 3 (0,0));exact eq (xs:=[1,1,0,0]) (t:=qEh b18 4) (z16.trans E) (hq.sub (J.trans (Q.trans E))) (qEr (xs:=[1,1,0,0]) mss rfl (by decide)) λz18=>⟨_,rfl,rfl,z18⟩
end
theorem erase_pos:∀{l:List Int}{i:Nat}{b:Int},qHK l b=(i:Int)->l.take i++l.drop (i+1)=l.erase b/\i<l.length/\b∈l:=by
 intro l i b h;unfold qHK at h;rcases qAG (λy=>decide (y=b)) l with⟨h1,-⟩|⟨k,y,h1,h2,-,g,h4,hm,-,f⟩;·omega
 ·obtain rfl:k=i:=by omega
  obtain rfl:y=b:=of_decide_eq_true h4;have hn:y∉l.take k:=λhm=>by
   grind
  grind[yw,List.drop_eq_getElem_cons,List.take_append_drop,List.erase_append_right,List.erase_cons_head]
theorem tch_hit{k:Nat}{c:List Int}{b:Int}(h:b∈c):b::c.erase b=tch k c b:=by grind[tch]
theorem tch_miss{k:Nat}(g:0<k){c:List Int}{b:Int}(h:b∉c)(hl:c.length<=k):b::(if(c.length:Int)=(k:Int)then c.take (k-1)else c)=tch k c b:=by
 unfold tch;rw[if_neg h];grind[wY]
theorem qAc.post{α:Type}{V:Mem}{l:Sl}{sz:Nat}{row:α->List Value}{xs:List α}(h:qAc V l sz (xs.map row)){j:Nat}(t:j<=xs.length):
  qAc V ⟨if(l.c:Int)=(j:Int)then l.p else qAa l.p ((j:Int).toNat*sz),((l.n:Int)-(j:Int)).toNat,((l.c:Int)-(j:Int)).toNat⟩ sz ((xs.drop j).map row):=by
 have hn:=h.n_eq;have u:=h.cap;have w:=h.fit;refine⟨?_,?_,?_,λr z=>h.size r ?_,λi r k=>?_⟩;·simp_all
 ·grind
 ·grind
 ·grind
 ·rw[List.map_drop,List.getElem?_drop]at k;obtain⟨a,y,f⟩:=h.at_ _ _ k;have g:j+i<(xs.map row).length:=(yw.1 k).1;rw[xd]at g;refine⟨a.add (j*sz),?_,?_⟩;·grind[qAa]
  grind[add_add,Nat.add_mul]
section
variable{V:Mem}{s:Sl}{l:List Int}
theorem c139(h:qAc V s 1 (l.map qAf)){x:Int}:PP 139 [s.v,.int .i64 x] V (.int .i64 (qHK l x)):=by
 refine x139 ?_;refine qAI (mk:=.int .i64) (b0:=0) l.length (λj V1=>V=V1/\qAW (λy:Int=>!decide (y=x)) l j) ⟨rfl,qAW.zero _ _⟩ ?_;rintro j b V1 J p ⟨rfl,u⟩ z;refine⟨λk=>?_,λf=>?_⟩
 ·obtain⟨y,i,r,-,t,q,o,g⟩:=h.get k;refine⟨q,o,k,_,g,λw=>?_,λw=>⟨h.succ k,z t _ _ ⟨rfl,qCc u r (decide_eq_false w)⟩⟩⟩;have e:qHK l x=(j:Int):=by grind[qHK,qCt,decide_eq_true]
  simp_all
 ·have e:qHK l x=-1:=by unfold qHK;exact qDd u (h.done f).2
  simp_all
theorem c140(h:qAc V s 1 (l.map qAf)){i:Nat}(hi:i<l.length)(hl:l.length<=2147483647):Tri xD 140 #[s.v,.int .i64 i] V λe V'=>∃t:Sl,e=.returned t.v/\Sx.Own V V' 3 1 t ((l.take i++l.drop (i+1)).flatMap qAf):=by
 refine x140 ?_;have hn:=h.n_eq;have q:=h.cap;have k:IR ((i:Int)+1):=⟨by omega,by omega⟩;have f:(0:Int)<=0/\(0:Int)<=(i:Int)/\(i:Int)<=(s.c:Int):=⟨by omega,by omega,by omega⟩;have g:(0:Int)<=(i:Int)+1/\(i:Int)+1<=(s.n:Int)/\(s.n:Int)<=(s.c:Int):=⟨by omega,by omega,by omega⟩;refine⟨f,k,g,g,k,f,λb z=>?_⟩;have y:qAc V ⟨s.p,i,s.c⟩ 1 ((l.take i).map qAf):=qAc.pre h (by omega);refine qLF z (l:=⟨s.p,i,s.c⟩) y (by grind) rfl ?_ λt V2 o=>⟨t,rfl,g,k,?_⟩
 ·show Value.slice (if(s.c:Int)=0 then s.p else qAa s.p ((0:Int).toNat*1)) ((i:Int)-0).toNat ((s.c:Int)-0).toNat=_;rw[qFG,sub0,sub0]
 ·have x:=(qAc.post h (j:=i+1) (by omega)).sub o.sub;refine qDL (s:=t) (xs:=l.take i) (ys:=l.drop (i+1)) (u:=⟨if(s.c:Int)=((i+1:Nat):Int)then s.p else qAa s.p (((i+1:Nat):Int).toNat*1),((s.n:Int)-((i+1:Nat):Int)).toNat,((s.c:Int)-((i+1:Nat):Int)).toNat⟩) rfl rfl o x (by grind) λw V' r=>⟨w,rfl,w,rfl,r⟩
theorem c94{k:Nat}(h:qAc V s 1 (l.map qAf))(Z:1<=k/\k<=1000)(hl:l.length<=k){b:Int}:Tri xD 94 #[s.v,.int .i64 k,.int .i64 b] V λe V'=>V.sub V'/\∃t:Sl,e=.returned (.tuple #[t.v,.bool (decide (b∈l))])/\qAc V' t 1 ((tch k l b).map qAf):=by
 refine x94 ?_;have hn:=h.n_eq;have g:=h.cap;have one:∀{V1 V2:Mem}{c:Nat}{u:Sl}{ys:List Int}{ty:Nat}{x y:Operand}{vals:Operand->Value}{Q:Value->Mem->Prop},V.sub V1->V1 c=none->qAc V1 u 1 (ys.map qAf)->ys.length<=1000->vals x=.slice (sa c) 1 1->vals y=u.v->(∀t V2,V.sub V2->qAc V2 t 1 ((b::ys).map qAf)->Q (.slice t.p t.n t.c) V2)->GenK xD (.call {callee:=.builtin .append,args:=#[x,y],argTypes:=#[31,31]}) ty vals (V1.set c (.cells #[.int .i64 b] 3 (0,0))) Q:=λ{V1 V2 c u ys ty x y vals Q} r f hu Y h1 h2 q=>
  qDL (s:=⟨some ⟨c,0,none⟩,1,1⟩) (u:=u) (xs:=[b]) (ys:=ys) h1 h2 (own_one f) (hu.sub (Mem.sub_new f _)) (by simp;omega) λt V2 o=>q t V2 (r.trans o.sub) (o.rows (row:=qAf) (λ_=>rfl) (by decide))
 refine(c139 h).call ⟨_,rfl,λf=>?_,λf=>?_⟩
 ·obtain⟨i,z⟩:∃i:Nat,qHK l b=(i:Int):=⟨(qHK l b).toNat,by omega⟩;obtain⟨W,H,J⟩:=erase_pos z;rw[z];refine Tri.mono (c140 h H (by omega)) ?_;rintro _ V2 ⟨t,rfl,o⟩;refine⟨t,rfl,λc g=>one (V2:=V2) o.sub g (o.rows (row:=qAf) (λ_=>rfl) (by decide)) (by grind) rfl rfl λu j w hu=>⟨u,rfl,w,u,by rw[decide_eq_true J];rfl,?_⟩⟩;grind[tch_hit]
 ·have hm:b∉l:=pos_neg.1 f;have e:=tch_miss (by omega) hm hl;rw[decide_eq_false hm];refine⟨λh1=>?_,λh1=>λc g=>one (V2:=V) (Mem.sub.refl _) g h (by omega) rfl rfl λu j w hu=>⟨u,rfl,w,u,rfl,?_⟩⟩
  ·have h1:(s.n:Int)=(k:Int):=h1;rw[if_pos (by omega)]at e;have G:qAc V ⟨s.p,k-1,s.c⟩ 1 ((l.take (k-1)).map qAf):=qAc.pre h (by omega);refine⟨⟨by omega,by omega⟩,⟨by omega,by omega,by omega⟩,λc g=>one (V2:=V) (Mem.sub.refl _) g G (by grind) rfl ?_ λu j w hu=>⟨u,rfl,w,u,rfl,by simp_all⟩⟩;show Value.slice (if(s.c:Int)=0 then s.p else qAa s.p ((0:Int).toNat*1)) (((k:Int)-1)-0).toNat ((s.c:Int)-0).toNat=.slice s.p (k-1) s.c;rw[qFG,sub0,show(((k:Int)-1)-0).toNat=k-1 by omega]
  grind
theorem c59{k:Nat}{ts:Sl}{xs:List Int}(Y:qAc V ts 1 (xs.map qAf))(h:qAc V s 1 (l.map qAf))(W:1<=k/\k<=1000)(hl:l.length<=k)(hn:xs.length<2147483648):Tri xD 59 #[ts.v,.int .i64 k,s.v] V λe V'=>V.sub V'/\∃t:Sl,e=.returned (.tuple #[.int .i64 (qJQ k l xs),t.v])/\qAc V' t 1 ((tchL k l xs).map qAf):=by
 refine x59 ?_;refine loop3b (mk:=λs:Sl=>.slice s.p s.n s.c) (mc:=.int .i64) (b0:=s) (c0:=0) qBc qDY xs.length (λi u n V1=>V.sub V1/\qAc V1 u 1 ((tchL k l (xs.take i)).map qAf)/\n=(qJQ k l (xs.take i):Int)/\(tchL k l (xs.take i)).length<=k) ⟨Mem.sub.refl _,h,rfl,hl⟩ ?_;rintro i u n V1 J I ⟨s1,hu,rfl,z⟩ Z;have g:=Y.sub s1;refine⟨λf=>?_,λq=>?_⟩
 ·obtain⟨x,Q,y,-,j,P,O,r⟩:=g.get f;have A:tchL k l (xs.take (i+1))=tch k (tchL k l (xs.take i)) x:=by rw[qBJ y,tchL_snoc]
  have L:qJQ k l (xs.take (i+1))=qJQ k l (xs.take i)+if x∈tchL k l (xs.take i)then 0 else 1:=by rw[qBJ y,qJc]
  have o:=qLl k (xs.take i) l;rw[List.length_take]at o;have w:=tch_len (by omega) z x;refine⟨P,O,f,_,r,Tri.mono (c94 hu W z) ?_⟩;rintro _ V2 ⟨s2,t,rfl,H⟩;rw[<-A]at H w;refine⟨t,_,rfl,λG=>⟨g.succ f,Z j _ _ _ ⟨s1.trans s2,H,?_,w⟩⟩,λG=>⟨⟨by omega,by omega⟩,g.succ f,Z j _ _ _ ⟨s1.trans s2,H,?_,w⟩⟩⟩;·simp_all
  simp_all
 ·have G:=(g.done q).2;rw[wY G]at hu⊢;exact⟨s1,u,rfl,hu⟩
end
section
variable{V:Mem}{d:Ds}{m:Mm}{nm:ByteArray}{args pl:List Int}{lg:List (Int×Int×Int)}{ls ps:Sl}{size M:Int}{N:Nat}
theorem c58(hl:qAc V ls 3 (lg.map qFK))(hp:qAc V ps 1 (pl.map qAf))(L:LgOk pl.length lg N)(H:∀b∈pl,0<=b/\b<=M)(hM:-1<=M/\M<=100000)(hN:N<=4096)(hlen:lg.length<=16000000):
  Tri xD 58 #[ls.v,ps.v,.int .i64 size] V λe V'=>∃p t:Sl,e=.returned (.tuple #[t.v,p.v])/\Pt V V' p t (qCG size lg pl).1 (qCG size lg pl).2:=by
 refine x58 ?_;have hln:=L.len;intro b0 O;refine qLF O hp (by omega) rfl rfl λq V2 o2=>⟨q,rfl,?_⟩;refine loop3b (mk:=λs:Sl=>.slice s.p s.n s.c) (mc:=λs:Sl=>.slice s.p s.n s.c) (b0:=q) (c0:=⟨none,0,0⟩) qBc qBc lg.length (λi p t V4=>Pt V V4 p t (qCG size (lg.take i) pl).1 (qCG size (lg.take i) pl).2) ⟨o2,Own.nil o2.sub _ _,λc _ h=>absurd rfl h.1⟩ ?_;rintro i p t V4 J hi T hJ;have G:=hl.sub T.op.sub;refine⟨λk=>?_,λA=>?_⟩
 ·obtain⟨a,ham,Z,-,w,z,Q,r⟩:=G.get k;obtain⟨-,k2,k3,k4,-⟩:=L.at_ i a Z;have hS:=qFz (size:=size) (pl:=pl) Z;have I:=blk_len (size:=size) (pl:=pl) i (uY w);have hbt:=blk_tr (size:=size) (pl:=pl) i (uY w);have hnl:qAv (lg.take i)<=16000000:=by
   grind[qAv]
  have R:alN (lg.take i)<=alN lg:=by
   grind[alN,uZ]
  have hrg:=(blk_rng (size:=size) (lg:=lg) (pl:=pl) (M:=M) H hM.1 i (uY w)).1;have P:=qAe (n:=i*3) z;have W:=G.succ k;obtain⟨X,hX⟩:∃X,X=(if a.1=3 then(qCG size (lg.take i) pl).1++[qDm (qCG size (lg.take i) pl).1 size]else(qCG size (lg.take i) pl).1):=⟨_,rfl⟩;have put:∀{Y:Mem}{f:Sl},0<a.2.1->Pt V Y f t X (qCG size (lg.take i) pl).2->a.2.1<=(X.length:Int)->
    IR (a.2.1-1)/\¬f.p=none/\0<=(a.2.1-1)/\(a.2.1-1)<(f.n:Int)/\∃v,Y.rowp f.p ((a.2.1-1).toNat*1) 1=some [.int .i64 v]/\∀b,Y b=none->∀{ty:Nat}{x y:Operand}{vals:Operand->Value},vals x=t.v->vals y=.slice (sa b) 1 1->GenK xD (.call {callee:=.builtin .append,args:=#[x,y],argTypes:=#[31,31]}) ty vals (Y.set b (.cells #[.int .i64 v] 3 (0,0))) λx V6=>∃u:Sl,x=.slice u.p u.n u.c/\IR ((i:Int)+1)/\J [.slice f.p f.n f.c,.slice u.p u.n u.c,.int .i64 ((i:Int)+1)] V6:=λ{Y f} c2 o hxl=>by
   obtain⟨j,hj⟩:∃j:Nat,a.2.1-1=(j:Int):=⟨(a.2.1-1).toNat,by omega⟩;obtain⟨d1,d2,d3,d4⟩:=qCD (o.op.rows (row:=qAf) (xs:=X) (λ_=>rfl) (by decide)) (yv (show j<X.length by omega));rw[hj];refine⟨⟨by omega,by omega⟩,d1,d2,d3,_,d4,λb H ty x y vals hx hy=>?_⟩;refine oneG (row:=qAf) qDL (x:=X[j]'(by omega)) (s:=t) o.ot.but H (by omega) hx hy (λ_=>rfl) λs6 V6 o6=>⟨s6,rfl,W,hJ w _ _ _ ?_⟩;have T6:=o.pushT o6;rw[hS];unfold blkS;rw[if_pos c2];have e1:X.getD (a.2.1-1).toNat 0=X[j]'(by omega):=by rw[hj,xu,vT,yv (show j<X.length by omega)];rfl
   simp_all
  refine⟨z,Q,k,P,a.1,a.2.1,a.2.2,r,λc0=>⟨W,hJ w _ _ _ ?_⟩,λc0=>⟨z,Q,k,P,a.1,a.2.1,a.2.2,r,λc=>?_,λc=>?_⟩⟩;·grind[blkS]
  ·have c:a.1=3:=c;refine(c43 (size:=size) (T.op.rows (row:=qAf) (λ_=>rfl) (by decide)) (λb hb'=>by grind) (by omega)).call ⟨_,rfl,λb5 B=>?_⟩;refine oneG (row:=qAf) qDL (x:=qDm (qCG size (lg.take i) pl).1 size) (s:=p) T.op.but B (by omega) rfl rfl (λ_=>rfl) λs5 Y o5=>⟨s5,rfl,?_⟩;have o:=T.pushP o5;have g:=hX;rw[if_pos c]at g;rw[<-g]at o;have C:X.length=pl.length+alN (lg.take i)+1:=by simp_all
   have:=k2 c;obtain⟨p1,D,p3,E,v,f,K⟩:=put (by omega) o (by omega);have S:=(hl.sub o.op.sub).at_get Z;exact⟨z,Q,k,P,a.1,a.2.1,a.2.2,S,p1,D,p3,E,v,f,λb H=>K b H rfl rfl⟩
  ·have c:¬a.1=3:=c;have o:=T;have g:=hX;rw[if_neg c]at g;rw[<-g]at o;have C:X.length=pl.length+alN (lg.take i):=by rw[g,I]
   have:=k3 c;obtain⟨p1,D,p3,E,v,f,K⟩:=put (by omega) o (by omega);exact⟨z,Q,k,P,a.1,a.2.1,a.2.2,r,p1,D,p3,E,v,f,λb H=>K b H rfl rfl⟩
 ·have U:=(G.done A).2;rw[wY U]at T;exact⟨p,t,rfl,T⟩
theorem c55(g:Ds.Ok V d)(hm:Mm.Ok V m){most fuel:Int}:PP 55 [d.v,m.v,.int .i64 size,.int .i64 most,.int .i64 fuel] V (.int .i64 (exE d m size most fuel)):=by
 refine x55 ?_;have k:qAZ d m 0=0∨qAZ d m 0=1:=by grind[qAZ]
 refine(c91 g hm).call ⟨_,rfl,λh1=>?_,λh1=>?_⟩
 ·have h1:qAZ d m 0=1:=h1;have e:exE d m size most fuel=1:=by unfold exE;rw[if_neg (by omega),h1]
  rw[e];exact⟨rfl,rfl⟩
 ·have h0:qAZ d m 0=0:=k.resolve_right h1;have bad:¬(1<=size/\size<=64/\1<=most/\most<=1000/\0<=fuel/\fuel<=1048576)->Ending.returned (.int .i64 2)=.returned (.int .i64 (exE d m size most fuel))/\V=V:=λh=>⟨by grind[exE],rfl⟩;refine c16.call ⟨_,rfl,λh3=>?_,λh3=>bad λh=>h3 (decide_eq_true ⟨h.1,h.2.1⟩)⟩;have h3:1<=size/\size<=64:=of_decide_eq_true h3;refine⟨λh=>bad (by omega),λh4=>⟨λh=>bad (by omega),λf=>⟨λh=>bad (by omega),λt=>⟨λh=>bad (by omega),λu=>?_⟩⟩⟩⟩;have e:exE d m size most fuel=0:=by unfold exE;rw[if_pos h0,if_pos (by omega)]
  rw[e];exact⟨rfl,rfl⟩
def RrP(V:Mem)(d:Ds)(F:Int)(m:Mm)(nm:ByteArray)(args pl c:List Int)(size most:Int):Ending->Mem->Prop:=λe V'=>V.sub V'/\
 ((qGg d m pl size most nm args F≠0/\e=.returned (.tuple #[.agg #[.int .i64 0,.int .i64 0,.int .i64 0,.int .i64 0,.int .i64 0,qAD.v,qAD.v,qAD.v,qAD.v,qAD.v],.int .i64 (qGg d m pl size most nm args F)]))∨
 (qGg d m pl size most nm args F=0/\∃(r:Rx Int)(x:Mm)(p t u:Sl),r=qBS d F.toNat (qCJ d nm) args (qBU m)/\Mm.Ok V' x/\x.plain=(r.st.g,r.st.ns)/\qAc V' p 1 ((qCG size r.st.lg pl).1.map qAf)/\qAc V' t 1 ((qCG size r.st.lg pl).2.map qAf)/\qAc V' u 1 ((tchL most.toNat c (qCG size r.st.lg pl).2).map qAf)/\
  e=.returned (.tuple #[.agg #[.int .i64 (outC r),.int .i64 (outV r),.int .i64 r.st.cm,.int .i64 (qAv r.st.lg),.int .i64 (qJQ most.toNat c (qCG size r.st.lg pl).2),x.gs.v,x.ns.v,p.v,t.v,u.v],.int .i64 0])))
theorem c21{l cs:Sl}{fu most:Int}{c:List Int}(o:Ds.Ok V d)(hm:Mm.Ok V m)(D:qAc V l 1 (args.map qAf))(A:fu<=4000∨1048576<fu)(e:qAc V ps 1 (pl.map qAf))(E:qAc V cs 1 (c.map qAf))(K:(c.length:Int)<=most∨c=[]):
  Tri xD 21 #[d.v,m.v,ps.v,.int .i64 size,.int .i64 most,cs.v,.agg #[.string nm,l.v],.int .i64 fu] V (RrP V d fu m nm args pl c size most):=by
 obtain⟨R,H⟩:∃R,R=RrP V d fu m nm args pl c size most:=⟨_,rfl⟩;rw[<-H];refine x21 ?_;have bad:∀{k:Int}{V':Mem},qGg d m pl size most nm args fu=k->k≠0->V.sub V'->R (.returned (.tuple #[.agg #[.int .i64 0,.int .i64 0,.int .i64 0,.int .i64 0,.int .i64 0,qAD.v,qAD.v,qAD.v,qAD.v,qAD.v],.int .i64 k])) V':=λh S U=>by rw[H];exact⟨U,.inl ⟨by rw[h];exact S,by rw[h]⟩⟩
 have hnn:=hm.nodes.n_eq;have hpn:=e.n_eq;refine(c55 o hm).call ⟨_,rfl,λh0=>?_,λh0=>bad (by grind[qGg]) h0 (Mem.sub.refl _)⟩;have h0:exE d m size most fu=0:=h0;obtain⟨G,hs1,hs2,hm1,hm2,hf0,hf1⟩:=ex_zero h0;obtain⟨F,rfl⟩:∃F:Nat,fu=(F:Int):=⟨fu.toNat,by omega⟩;have A:F<=4000:=by omega
 have no:¬(pl.length=m.nodes.length/\plB pl size=true)->qGg d m pl size most nm args F=30:=λh=>by grind[qGg]
 refine⟨λh1=>?_,λh1=>bad (no λh=>h1 (by omega)) (by decide) (Mem.sub.refl _)⟩;have J:pl.length=m.nodes.length:=by omega
 refine(c25 (size:=size) e).call ⟨_,rfl,λh2=>?_,λh2=>bad (no λh=>h2 h.2) (by decide) (Mem.sub.refl _)⟩;have h2:plB pl size=true:=h2;obtain⟨hl4,w⟩:=qFn.1 h2;have er:qGg d m pl size most nm args F=qAU d m nm args F:=by grind[qGg]
 refine Tri.mono (c56 o hm D A) ?_;rintro _ V3 (⟨f,s3,q,-,rfl⟩|⟨f,p,r,Z,X,rfl⟩);·exact⟨_,_,rfl,λh=>absurd h f,λ_=>bad er f s3⟩
 have s3:=X.sub;obtain⟨gs,ns,ls,nd,z,L⟩:=X.ex;obtain⟨t,y⟩:=qLc f;have x:=qGz (F:=F) (qCS f).1 (qCS f).2;have Y:r.st.ns.length<=4096:=by rw[Z];exact qFk f
 rw[<-Z]at t y x;rw[<-J]at t;obtain⟨W,Q⟩:=qGF o L x;have j:∀b∈pl,0<=b/\b<=4095:=λb I=>⟨(w.rng b I).1,by have:=(w.rng b I).2;omega⟩;refine⟨_,_,rfl,λ_=>⟨nn,nn,gs,ns,qAd z 8 2 (by simp[qBC]),(c57 X).call ⟨_,_,_,_,_,rfl,qAH z 8 0 2 (by simp[qBC]),nn,nn,nn,nn,ls,qAd z 17 1 (by simp[qBC]),?_⟩⟩,λh=>absurd rfl h⟩;refine Tri.mono (c58 (size:=size) (M:=4095) (L.log.rows (row:=qFK) (λ_=>rfl) (by decide)) (e.sub s3) t j (by omega) Y (by omega)) ?_;rintro _ V5 ⟨B,C,rfl,T⟩;have P:=T.op.sub;have O:=blk_tr (size:=size) (lg:=r.st.lg) (pl:=pl) r.st.lg.length (yU _);rw[uz]at O;have hnl:qAv r.st.lg<=16000000:=by
  grind[qAv]
 have tr:=T.ot.rows (row:=qAf) (λ_=>rfl) (by decide);obtain⟨k,rfl⟩:∃k:Nat,most=(k:Int):=⟨most.toNat,by omega⟩;refine⟨C,B,rfl,Tri.mono (c59 (k:=k) tr (E.sub (s3.trans P)) (by omega) (by grind) (by omega)) ?_⟩;rintro _ V6 ⟨i,u,rfl,hu⟩;refine⟨_,u,rfl,?_⟩;rw[H];exact⟨s3.trans (P.trans i),.inr ⟨er.trans f,r,⟨gs,r.st.g,ns,nd⟩,B,C,u,Z,W.sub (P.trans i),Q,(T.op.rows (row:=qAf) (λ_=>rfl) (by decide)).sub i,tr.sub i,hu,rfl⟩⟩
end
theorem qAz.plain{d:Ds}{x y:Mm}(G:qAz d x)(h:x.plain=y.plain):qAz d y:=⟨G.valid,G.chk,qEk h G.mem⟩
section
variable{V:Mem}{d:Ds}{m:Mm}{nm:ByteArray}{args pl:List Int}{l ps:Sl}{size most:Int}
theorem exr_start{F:Int}(h:qGg d m pl size most nm args F=0):qAU d m nm args F.toNat=0:=by
 grind[qGg,exE,plB,absurd]
theorem c60{x y:Mm}(k:Ds.Ok V d)(G:qAz d x)(f:Mm.Ok V x)(t:Mm.Ok V y)(h:x.plain=y.plain):PP 60 [d.v,x.v,y.v] V (.bool true):=by
 refine Pur.mk (x60 ?_);have g:=G.plain h;refine Tri.mono (c96 G k f) ?_;rintro _ V1 ⟨s1,a,rfl,u,w⟩;refine⟨_,_,rfl,Tri.mono (c96 g (k.sub s1) (t.sub s1)) ?_⟩;rintro _ V2 ⟨s2,b,rfl,z,j⟩;have e:a.plain=b.plain:=by rw[canP_of G.mem w,canP_of g.mem j,canP_plain h]
 refine⟨_,_,rfl,(c95 (u.sub s2) z).call ⟨_,rfl,?_⟩⟩;rw[decide_eq_true e];exact⟨rfl,s1.trans s2⟩
theorem c23{x y:Mm}(g:Ds.Ok V d)(G:qAz d x)(k:Mm.Ok V x)(f:Mm.Ok V y)(h:x.plain=y.plain):PP 23 [d.v,x.v,y.v] V (.bool true):=by
 refine Pur.mk (x23 ?_);have hn:=(qAl G.mem).2.1;have hl:=k.nodes.n_eq;refine⟨λ_=>(c15 g k).call ⟨_,rfl,λ_=>(c60 g G k f h).call ⟨_,rfl,rfl,Mem.sub.refl _⟩,λhv=>absurd G.mem hv⟩,λt=>absurd (by omega) t⟩
theorem c22:PP 22 [.agg #[qAD.v,qAD.v]] V (.bool true):=by
 refine x22 ?_;exact⟨λ_=>⟨rfl,rfl⟩,λh=>absurd rfl h⟩
end
section
variable{V:Mem}{d:Ds}{m:Mm}{nm:ByteArray}{args pl:List Int}{l ps:Sl}{size most:Int}
theorem c4[Tab V](D:Ds.Ok V d)(hm:Mm.Ok V m)(hp:qAc V ps 1 (pl.map qAf))(ha:qAc V l 1 (args.map qAf)){fu:Int}:PP 4 [d.v,m.v,ps.v,.int .i64 size,.int .i64 most,.agg #[.string nm,l.v],.int .i64 fu] V (.bool true):=by
 obtain⟨R,hR⟩:∃R:Ending->Mem->Prop,R=λe V'=>e=.returned (.bool true)/\V.sub V':=⟨_,rfl⟩;refine Pur.mk ?_;rw[<-hR];refine x4 ?_;unfold w4;have o:∀{V'},V.sub V'->R (.returned (.bool true)) V':=λh=>by simp_all
 refine c9.call ⟨_,rfl,λ_=>?_,λh=>absurd rfl h⟩;refine Tri.mono (c10 D hm (fu:=fu)) ?_;rintro _ V0 ⟨rfl,b,rfl,hfu⟩;refine⟨_,rfl,λ_=>o (Mem.sub.refl _),λhb=>⟨λ_=>o (Mem.sub.refl _),λ_=>?_⟩⟩;have hF:fu<=4000∨1048576<fu:=(hfu ((Bool.not_eq_true _).mp hb)).imp (λh=>by omega) id;refine Tri.mono c18 ?_;rintro _ _ ⟨rfl,b,rfl⟩;refine⟨_,rfl,λ_=>o (Mem.sub.refl _),λ_=>?_⟩;refine Tri.mono (c19 (size:=size) (most:=most) D hm ha hF hp) ?_;rintro e V4 O;have i:V0.sub V4:=by
  rcases O with⟨-,h,-⟩|⟨-,_,_,_,_,_,_,_,L,-⟩;·exact h
  ·exact L.sub
 haveI:Tab V4:=Tab.sub inferInstance i;have J:=c20 (size:=size) (nm:=nm) (D.sub i) (hm.sub i) (ha.sub i) hF (hp.sub i);have Z:=λ{Q:Mem} (s:V0.sub Q) (k:Int)=>c21 (V:=Q) (size:=size) (most:=k) (nm:=nm) (cs:=qAD) (c:=[]) (D.sub s) (hm.sub s) (ha.sub s) hF (hp.sub s) qAc.nil (.inr rfl);have A:∀{Q:Mem}{S:Ending},ExtrP V4 d fu m nm args pl size S Q->∃(t:Sl)(f:Int),S=.returned (.tuple #[t.v,.int .i64 f])/\∀{I:Mem},Q.sub I->
   TT 21 #[d.v,m.v,ps.v,.int .i64 size,.int .i64 1,.slice none 0 0,.agg #[.string nm,l.v],.int .i64 fu] I λe z=>∃v43 v44 v45 v46 v47 v48 v49 v50 P v52 q,e=rT #[uA #[uI v43,uI v44,uI v45,uI v46,uI v47,uL v48,uL v49,uL v50,uL P,uL v52],uI q]/\
    Br (q=0) (Br (65536<(P.n:Int)) (Br (f=4) (R (rV (uB (decide ((t.n:Int)=0)))) z) (R (rV (uB false)) z))
     (Br (q=0) (Br (f=0) (TT 13 #[uL t,uL P] z λe X=>∃Y,e=rV (uB Y)/\R (rV (uB Y)) X) (R (rV (uB false)) z)) (Br (f=q) (R (rV (uB (decide ((t.n:Int)=0)))) z) (R (rV (uB false)) z))))
     (Br (q=0) (Br (f=0) (TT 13 #[uL t,uL P] z λe X=>∃Y,e=rV (uB Y)/\R (rV (uB Y)) X) (R (rV (uB false)) z)) (Br (f=q) (R (rV (uB (decide ((t.n:Int)=0)))) z) (R (rV (uB false)) z))):=by
  rintro Q S ⟨W,H⟩;have zero:∀{z:Mem},Q.sub z->R (rV (uB (decide ((qAD.n:Int)=0)))) z:=λh=>o (i.trans (W.trans h));rcases H with⟨h0,rfl⟩|⟨h0,hl,rfl⟩|⟨h0,hl,t,rfl,ht⟩
  ·refine⟨qAD,_,rfl,λ{I} j=>Tri.mono (Z (i.trans (W.trans j)) 1) ?_⟩;rintro _ z ⟨E,⟨-,rfl⟩|⟨h1,-⟩⟩;·exact⟨_,_,_,_,_,_,_,_,_,_,_,rfl,λh=>absurd h h0,λ_=>⟨λh=>absurd h h0,λ_=>⟨λ_=>zero (j.trans E),λh=>absurd rfl h⟩⟩⟩
   ·exact absurd h1 h0
  ·refine⟨qAD,_,rfl,λ{I} j=>Tri.mono (Z (i.trans (W.trans j)) 1) ?_⟩;rintro _ z ⟨E,⟨h1,-⟩|⟨-,r,x,p,u,w,K,-,-,-,hu,-,rfl⟩⟩;·exact absurd h0 h1
   have hun:=hu.n_eq;rw[<-K]at hl;exact⟨_,_,_,_,_,_,_,_,_,_,_,rfl,λ_=>⟨λ_=>⟨λ_=>zero (j.trans E),λh=>absurd rfl h⟩,λh=>absurd (by omega) h⟩,λh=>absurd rfl h⟩
  ·refine⟨t,_,rfl,λ{I} j=>Tri.mono (Z (i.trans (W.trans j)) 1) ?_⟩;rintro _ z ⟨E,⟨h1,-⟩|⟨-,r,x,p,u,w,K,-,-,-,hu,-,rfl⟩⟩;·exact absurd h0 h1
   have hun:=hu.n_eq;rw[<-K]at hl ht;refine⟨_,_,_,_,_,_,_,_,_,_,_,rfl,λ_=>⟨λh=>absurd h (by omega),λ_=>⟨λ_=>⟨λ_=>?_,λh=>absurd rfl h⟩,λh=>absurd rfl h⟩⟩,λh=>absurd rfl h⟩;refine(c13 (ht.sub (j.trans E)) hu).call ⟨_,rfl,?_⟩;rw[decide_eq_true rfl];exact o (i.trans (W.trans (j.trans E)))
 rcases O with⟨h0,-,rfl⟩|⟨h0,r,gs,ns,ls,nd,p,K,L,hpl,rfl⟩
 ·refine⟨_,_,_,_,_,_,_,_,_,rfl,Tri.mono J ?_⟩;rintro S Q U;have W:=U.1;obtain⟨t,f,rfl,T⟩:=A U;refine⟨_,_,rfl,Tri.mono (Z (i.trans W) most) ?_⟩;rintro _ I ⟨j,⟨-,rfl⟩|⟨h1,-⟩⟩;·exact⟨_,_,_,_,_,_,_,_,_,_,_,rfl,λ_=>⟨λh=>absurd h h0,λ_=>⟨λ_=>c22.call ⟨_,rfl,λ_=>⟨λ_=>⟨λh=>absurd h h0,λ_=>T j⟩,λh=>absurd rfl h⟩,λh=>absurd rfl h⟩,λh=>absurd ⟨rfl,rfl,rfl,rfl,rfl⟩ h⟩⟩,λh=>absurd rfl h⟩
  ·exact absurd h1 h0
 ·refine⟨_,_,_,_,_,_,_,_,_,rfl,Tri.mono J ?_⟩;rintro S Q U;have W:=U.1;obtain⟨t,f,rfl,T⟩:=A U;refine⟨_,_,rfl,Tri.mono (Z (i.trans W) most) ?_⟩;rintro _ I ⟨j,⟨h1,-⟩|⟨-,r2,x,p2,u2,w2,hr2,hx,hxp,hp2,-,-,rfl⟩⟩;·exact absurd h0 h1
  obtain rfl:r2=r:=by rw[hr2,K]
  have B:=W.trans j;have hst:qAU d m nm args fu.toNat=0:=exr_start h0;have C:=qGz (F:=fu.toNat) (qCS hst).1 (qCS hst).2;rw[<-K]at C;obtain⟨hmm,hpn⟩:=qGF D L C;have G:qAz d ⟨gs,r2.st.g,ns,nd⟩:=C.plain (mm_len' L.eq).symm;refine⟨_,_,_,_,_,_,_,_,_,_,_,rfl,λ_=>⟨λ_=>⟨λ_=>⟨λ_=>?_,λh=>absurd ⟨rfl,rfl,rfl,rfl,rfl⟩ h⟩,λh=>absurd rfl h⟩,λh=>absurd rfl h⟩,λh=>absurd rfl h⟩;refine(c23 (x:=⟨gs,r2.st.g,ns,nd⟩) (y:=x) (D.sub (i.trans B)) G (hmm.sub B) hx (hpn.trans hxp.symm)).call ⟨_,rfl,λ_=>?_,λh=>absurd rfl h⟩;exact(c13 (hpl.sub B) hp2).call ⟨_,rfl,λ_=>T j,λh=>absurd (decide_eq_true rfl) h⟩
end
end Go.Proofs
