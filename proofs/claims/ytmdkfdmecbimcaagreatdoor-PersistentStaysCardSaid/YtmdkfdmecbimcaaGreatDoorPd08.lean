/- Part 8: no statement of the seat is proved here. -/
import Derived.Test.YtmdkfdmecbimcaaGreatDoorPd07
set_option linter.unusedVariables false
set_option linter.unusedSimpArgs false
open Bool renaming and_eq_true->zC,or_true->xd,false_eq_true->zQ
open List renaming all_eq_true->yC,mem_cons->yH,getElem?_eq_some_iff->yj,mem_of_find?_eq_some->xj,any_eq_not_all_not->xu,take_of_length_le->xc,not_mem_nil->xQ,find?_cons->xb,findIdx?_cons->yb,findIdx?->y7,findIdx?_eq_some_iff_getElem->xB,getElem?_eq_getElem->yi
open Go.Addr renaming add->zF
open Go.Ending renaming returned->xV
open Option renaming none_or->xm,getD_some->xk,map_eq_some_iff->zy,getD_none->xe
open Go.Value renaming map->zp
open Go.Proofs.Tryz renaming prog->xS,underlying231->xi,underlying9->xh,underlying232->xg,underlying276->xf
open ByteArray renaming empty->zA
open Go.Builtin renaming append_->xL,zeroCells->xN
open Go.Sem renaming run_bind->zN,run_pure->zP
open Go.Result renaming andThen_ok->zO
open Go.MapKept renaming run_getObj_map->xA,run_setObj_map->xC
open Go.Instr renaming mapUpdate->yf
open Array renaming toList_modify->xD
namespace Go.Proofs
open Go Go.Sx
attribute [local irreducible] Go.Sx.Tri
structure IH (d:Ds):Prop where
 small:Small d
 ms:∀m∈d.measures,Cs 1 m.x=true
 is:∀m∈d.invs,Cs 1 m.x=true
 qs:∀m∈d.pots,Cs 1 m.x=true
 bs:∀m∈d.bounds,Cs 1 m.x=true
 ps:∀p∈d.procs,CD 1 p.body=true/\Cv p.body<=200
theorem KI{e:E}(h:Bz e=true):Cs 1 e=true:=by
 grind[Bz]
theorem vparts{d:Ds}(h:Bv d=true):IH d:=by
 unfold Bv Gd at h;simp only[zC,decide_eq_true_eq,yC]at h;obtain⟨⟨⟨⟨⟨⟨⟨-,-⟩,z⟩,-⟩,-⟩,-⟩,y⟩,⟨⟨hm,i⟩,r⟩,q⟩:=h;have fl:∀{l:List Fld}{n:Int},Df l n=true->n<=100->l.length<=1000:=λh o=>by
  grind[Df]
 refine⟨⟨fl z (by omega),λp u=>?_⟩,λm g=>?_,λm g=>?_,λm g=>?_,λm g=>?_,λp u=>?_⟩;·grind[DK]
 ·simp_all[ED,zC,KI]
 ·simp_all[GN,zC,KI]
 ·simp_all[Hj,zC,KI]
 ·simp_all[Hk,zC,KI]
 grind[DK,Hi]
theorem II{α β:Type}{f:Nat->α->Option β}{b:β}:∀{i:Nat}{xs:List α},Ao f i xs=some b->∃j x,x∈xs/\f j x=some b
 |_,[],h=>by cases h
 |i,x::xs,h=>by
  cases g:f i x with
  |some c=>grind[BA]
  |none=>
   rw[BS g]at h;obtain⟨j,y,u,e⟩:=II h;grind
def IJ(r:Flt):Prop:=r.2.2≠0/\r.2.1=-1
theorem Hp{P:Flt->Prop}{a b:Option Flt}(g:∀r,a=some r->P r)(u:∀r,b=some r->P r):∀r,a.or b=some r->P r:=λr h=>by
 cases a with
 |none=>simp_all
 |some x=>simp_all
theorem Mu(d:Ds):∀r,Ge d=some r->IJ r:=by
 refine Hp (λr h=>?_) (Hp (λr h=>?_) (λr h=>?_))<;>obtain⟨j,x,u,e⟩:=II h
 ·split at e;·cases e;exact⟨by simp,rfl⟩
  ·cases e
 ·split at e;·rename_i g;cases e;exact⟨g,rfl⟩
  ·cases e
 ·split at e;·rename_i g;cases e;exact⟨g,rfl⟩
  ·cases e
theorem Mv(d:Ds):∀r,E5 d=some r->IJ r:=λr h=>by
 obtain⟨j,x,u,e⟩:=II h;split at e;·cases e;exact⟨by simp,rfl⟩
 ·split at e;·rename_i g;cases e;exact⟨g,rfl⟩
  ·split at e;·cases e;exact⟨by simp,rfl⟩
   ·cases e
theorem Mw(d:Ds):∀r,DS d=some r->IJ r:=by
 refine Hp (λr h=>?_) (Hp (λr h=>?_) (Hp (λr h=>?_) (λr h=>?_)))<;>obtain⟨j,x,g,e⟩:=II h
 ·split at e;·cases e;exact⟨by simp,rfl⟩
  ·split at e;·cases e;exact⟨by simp,rfl⟩
   ·cases e
 ·split at e;·cases e;exact⟨by simp,rfl⟩
  ·split at e;·cases e;exact⟨by simp,rfl⟩
   ·cases e
 ·split at e;·cases e;exact⟨by simp,rfl⟩
  ·cases e
 ·split at e;·cases e;exact⟨by simp,rfl⟩
  ·split at e;·cases e;exact⟨by simp,rfl⟩
   ·cases e
theorem Mx(d:Ds):∀r,E7 d=some r->IJ r:=by
 refine Hp (λr h=>?_) (Hp (λr h=>?_) (Hp (λr h=>?_) (λr h=>?_)))<;>obtain⟨j,x,u,e⟩:=II h<;>split at e;all_goals first|(cases e;done)|(rename_i g;cases e;exact⟨g,rfl⟩)
theorem Oz{d:Ds}(u:DS d=none):∀g∈d.bounds,∃p,Ch d g.proc=some p:=by
 have h4:form4 d=none:=by
  grind[DS,form4]
 have z:∀(l:List Bd)(i:Nat),Ao (λi b=>if(Ch d b.proc).isNone=true then some ((b.proc,-1,9):Flt)else if(d.bounds.take i).any (λg=>decide (g.proc=b.proc))=true then some (b.proc,-1,10)else none) i l=none->∀g∈l,∃p,Ch d g.proc=some p:=by
  intro l;induction l with
  |nil=>simp_all
  |cons y l o=>
   intro i h g n;cases r:Ch d y.proc with
   |none=>simp_all[BA,if_pos]
   |some p=>
    rcases yH.1 n with rfl|n;·grind
    ·by_cases q:(d.bounds.take i).any (λg=>decide (g.proc=y.proc))=true;·simp_all[BA,if_neg,if_pos]
     ·rw[BS ((if_neg (by rw[r];simp)).trans (if_neg q))]at h;grind
 exact z d.bounds 0 h4
theorem IK{V:Mem}{p:Option Addr}{off n j m:Nat}{vs:List Value}(h:V.rowp p off n=some vs)(i:0<j)(l:j+m<=n):V.rowp (Aa (Aa p off) j) 0 m=some ((vs.drop j).take m):=by
 cases p with
 |none=>cases h
 |some a=>
  have e:((a.add off).add j).add 0=⟨a.block,a.off+off+j,none⟩:=by
   grind[zF]
  have g:(a.add off).off=a.off+off/\(a.add off).block=a.block:=by
   grind[zF]
  show V.row (((a.add off).add j).add 0) m=_;have h:V.row (a.add off) n=some vs:=h;rw[e];unfold Mem.row at h⊢;rw[g.2]at h;split at h
  ·rename_i c x y u;simp only[u];split at h
   ·rename_i z;rw[g.1]at z h;cases h;rw[if_pos ⟨rfl,by omega⟩,List.drop_take,List.take_take,List.drop_drop,Nat.min_eq_left (by omega)]
   ·cases h
  ·cases h
section
variable{V:Mem}{d:Ds}
theorem c188(E:Ds.Ok V d)(hv:IH d)(A:DS d=none):PP 188 [d.v] V (f2 (E7 d)):=by
 refine Bn.mk (x188 ?_);unfold E7;have K:=hv.small.1;have key:∀{X:Option Flt}(V2:Mem)(s:KB)(n:Int),V.sub V2->X=some (s,-1,n)->(xV (.tuple #[.string s,.int .i64 n])=xV (f2 X)/\V.sub V2):=λV2 s n h2 h=>by rw[h];exact⟨rfl,h2⟩
 unfold exp1;generalize L:(λ(_:Nat) (m:Ms)=>if BB d (BG d m.ty) m.x Am≠0 then some ((m.name,-1,BB d (BG d m.ty) m.x Am):Flt)else none)=F1;refine DJ d.measures.length (λk V1=>V.sub V1/\Ao F1 0 d.measures=Ao F1 k (d.measures.drop k)) ⟨Mem.sub.refl _,rfl⟩ ?_;rintro k b c V1 J S ⟨G,o⟩ I;have u:=E.sub G;refine⟨λq=>?_,λq=>?_⟩
 ·obtain⟨g,hm,T,Y,M,H,N,z⟩:=u.measures.get q;rw[Y]at o;have Z:=Al (n:=k*7) H;refine⟨H,N,q,Z,_,_,_,_,_,_,_,z,H,N,q,Z,_,_,_,_,_,_,_,z,Tri.mono (Mq u K) ?_⟩;rintro _ V2 ⟨s',rfl,l,W⟩;have r:=l.rowp z;refine⟨s',false,rfl,IK (j:=3) (m:=4) r (by decide) (by decide),Z,H,N,q,(c228 (sc:=BG d g.ty) (e:=g.x) (u.sub l) W ((u.sub l).measuresOk g hm).x (hv.ms g hm)).call ⟨_,rfl,λh=>⟨u.measures.succ q,I M _ _ _ ⟨G.trans l,?_⟩⟩,λh=>⟨H,N,q,Z,_,_,_,_,_,_,_,r,key _ _ _ (G.trans l) ?_⟩⟩⟩;·rw[o,BS (by rw[<-L];exact if_neg λe=>e h)]
  ·rw[o,BA (b:=(g.name,-1,BB d (BG d g.ty) g.x Am)) (by rw[<-L];exact if_pos h)];rfl
 rw[(u.measures.done q).1,Ao]at o;rw[o,xm];unfold exp2;generalize R:(λ(_:Nat) (m:Iv)=>if BB d (BG d m.ty) m.x AC≠0 then some ((m.name,-1,BB d (BG d m.ty) m.x AC):Flt)else none)=F2;refine DJ d.invs.length (λk V1=>V.sub V1/\Ao F2 0 d.invs=Ao F2 k (d.invs.drop k)) ⟨G,rfl⟩ ?_;rintro k b c V1 J S ⟨G,o⟩ I;have u:=E.sub G;refine⟨λq=>?_,λq=>?_⟩
 ·obtain⟨g,hm,T,Y,M,H,N,z⟩:=u.invs.get q;rw[Y]at o;have Z:=Al (n:=k*6) H;refine⟨H,N,q,Z,_,_,_,_,_,_,z,H,N,q,Z,_,_,_,_,_,_,z,Tri.mono (Mq u K) ?_⟩;rintro _ V2 ⟨s',rfl,l,W⟩;have r:=l.rowp z;refine⟨s',false,rfl,IK (j:=2) (m:=4) r (by decide) (by decide),Z,H,N,q,(c228 (sc:=BG d g.ty) (e:=g.x) (u.sub l) W ((u.sub l).invsOk g hm) (hv.is g hm)).call ⟨_,rfl,λh=>⟨u.invs.succ q,I M _ _ _ ⟨G.trans l,?_⟩⟩,λh=>⟨H,N,q,Z,_,_,_,_,_,_,r,key _ _ _ (G.trans l) ?_⟩⟩⟩;·rw[o,BS (by rw[<-R];exact if_neg λe=>e h)]
  ·rw[o,BA (b:=(g.name,-1,BB d (BG d g.ty) g.x AC)) (by rw[<-R];exact if_pos h)];rfl
 rw[(u.invs.done q).1,Ao]at o;rw[o,xm];unfold exp3;generalize B:(λ(_:Nat) (m:Po)=>if BB d (BG d m.ty) m.x Am≠0 then some ((sPot,-1,BB d (BG d m.ty) m.x Am):Flt)else none)=F3;refine DJ d.pots.length (λk V1=>V.sub V1/\Ao F3 0 d.pots=Ao F3 k (d.pots.drop k)) ⟨G,rfl⟩ ?_;rintro k b c V1 J S ⟨G,o⟩ I;have u:=E.sub G;refine⟨λq=>?_,λq=>?_⟩
 ·obtain⟨g,hm,T,Y,M,H,N,z⟩:=u.pots.get q;rw[Y]at o;have Z:=Al (n:=k*5) H;refine⟨H,N,q,Z,_,_,_,_,_,z,H,N,q,Z,_,_,_,_,_,z,Tri.mono (Mq u K) ?_⟩;rintro _ V2 ⟨s',rfl,l,W⟩;have r:=l.rowp z;refine⟨s',false,rfl,IK (j:=1) (m:=4) r (by decide) (by decide),Z,H,N,q,(c228 (sc:=BG d g.ty) (e:=g.x) (u.sub l) W ((u.sub l).potsOk g hm) (hv.qs g hm)).call ⟨_,rfl,λh=>⟨u.pots.succ q,I M _ _ _ ⟨G.trans l,?_⟩⟩,λh=>key _ _ _ (G.trans l) ?_⟩⟩;·rw[o,BS (by rw[<-B];exact if_neg λe=>e h)]
  ·rw[o,BA (b:=(sPot,-1,BB d (BG d g.ty) g.x Am)) (by rw[<-B];exact if_pos h)];rfl
 rw[(u.pots.done q).1,Ao]at o;rw[o,xm];have U:=Oz A;unfold exp4;generalize C:(λ(_:Nat) (m:Bd)=>if BB d (EE d ((Ch d m.proc).getD HW)) m.x Am≠0 then some ((m.proc,-1,BB d (EE d ((Ch d m.proc).getD HW)) m.x Am):Flt)else none)=F4;refine DJ d.bounds.length (λk V1=>V.sub V1/\Ao F4 0 d.bounds=Ao F4 k (d.bounds.drop k)) ⟨G,rfl⟩ ?_;rintro k b c V1 J S ⟨G,o⟩ I;have u:=E.sub G;refine⟨λq=>?_,λq=>?_⟩
 ·obtain⟨g,hm,T,Y,M,H,N,z⟩:=u.bounds.get q;rw[Y]at o;have Z:=Al (n:=k*5) H;obtain⟨p,hpp⟩:=U g hm;rcases Cu (λt:Pr=>decide (t.name=g.proc)) d.procs with⟨i1,i2,i3⟩|⟨i,x,i1,i2,i3,i4,i5,i6,i7,_⟩;·grind[Ch]
  have hxp:Ch d g.proc=some x:=i3;refine⟨H,N,q,Z,_,_,_,_,_,z,(Ho u).call ⟨_,rfl,?_⟩⟩;rw[i1];have hpn:=u.procs.n_eq;have O:(i:Int)<(d.ps.n:Int):=by omega
  obtain⟨y,hmy,D,hdy,hly,hpy,hzy,F⟩:=u.procs.get O;rw[i2]at D;cases D;refine⟨hpy,hzy,O,_,_,_,_,_,F,H,N,q,Z,_,_,_,_,_,z,Tri.mono (refInBound u (u.procsOk x i6) K (hv.small.2 x i6)) ?_⟩;rintro _ V2 ⟨s',rfl,l,W⟩;have r:=l.rowp z;have Q:(Ch d g.proc).getD HW=x:=by rw[hxp];rfl
  refine⟨s',false,rfl,IK (j:=1) (m:=4) r (by decide) (by decide),Z,H,N,q,(c228 (sc:=EE d x) (e:=g.x) (u.sub l) W ((u.sub l).boundsOk g hm) (hv.bs g hm)).call ⟨_,rfl,λh=>⟨u.bounds.succ q,I M _ _ _ ⟨G.trans l,?_⟩⟩,λh=>⟨H,N,q,Z,_,_,_,_,_,r,key _ _ _ (G.trans l) ?_⟩⟩⟩;·rw[o,BS (by rw[<-C];exact if_neg λe=>e (by rw[Q];exact h))]
  ·rw[o,BA (b:=(g.proc,-1,BB d (EE d x) g.x Am)) (by rw[<-C];exact(if_pos (by rw[Q];exact h)).trans (by rw[Q]))];try rfl
 rw[(u.bounds.done q).1,Ao]at o;rw[o];exact⟨rfl,G⟩
def f3(o:Option Flt):Value:=.tuple #[.string (fltR o).1,.int .i64 (fltR o).2.1,.int .i64 (fltR o).2.2]
theorem c133(y:Ds.Ok V d)(hv:IH d):PP 133 [d.v] V (f3 (Ct d)):=by
 refine x133 ?_;unfold Ct;have bad:∀{a b:Option Flt},(∀r,a=some r->IJ r)->¬((fltR a).2.2=0)->(xV (.tuple #[.string (fltR a).1,.int .i64 (-1),.int .i64 (fltR a).2.2])=xV (f3 (a.or b))/\V=V):=λ{a b} s h=>by
  cases a with
  |none=>exact absurd rfl h
  |some r=>
   have:=s r rfl;unfold f3 fltR;simp only[Option.some_or,xk];rw[this.2];simp_all
 have good:∀{a:Option Flt},(∀r,a=some r->IJ r)->(fltR a).2.2=0->a=none:=λ{a} s h=>by
  cases a with
  |none=>rfl
  |some r=>exact absurd h (s r rfl).1
 refine(c184 y).call ⟨_,_,rfl,λh=>?_,λh=>bad (Mu d) h⟩;rw[good (Mu d) h,xm];refine(c185 y hv.small).call ⟨_,_,rfl,λh=>?_,λh=>bad (Mv d) h⟩;rw[good (Mv d) h,xm];refine(c186 y).call ⟨_,_,rfl,λh=>?_,λh=>bad (Mw d) h⟩;have u:=good (Mw d) h;rw[u,xm];unfold E6;generalize Y:(λ(_:Nat) (p:Pr)=>if(AF d (Av d p) p.result 0 p.body).2≠0 then some ((p.name,(AF d (Av d p) p.result 0 p.body).1,(AF d (Av d p) p.result 0 p.body).2):Flt)else none)=F1;refine loop4s (mk:=.string) (mc:=.int .i64) (md:=.int .i64) (Ad []) 0 0 BX d.procs.length (λk _ V1=>V=V1/\Ao F1 0 d.procs=Ao F1 k (d.procs.drop k)) ⟨rfl,rfl⟩ ?_;rintro k b c A V1 J I ⟨rfl,q⟩ W;refine⟨λi=>?_,λi=>?_⟩
 ·obtain⟨g,hm,M,H,Q,o,G,z⟩:=y.procs.get i;rw[H]at q;have Z:=Al (n:=k*5) o;have l:=y.procsOk g hm;obtain⟨N,O⟩:=hv.ps g hm;refine⟨o,G,i,_,_,_,_,_,z,o,G,i,Z,_,_,_,_,_,z,(refStmts y l hv.small.1 (hv.small.2 g hm) g.body g.bs 0 1 l.body l.stmts N (by omega) (by omega)).call ⟨_,_,rfl,λh=>⟨y.procs.succ i,W Q _ _ _ _ ⟨rfl,?_⟩⟩,λh=>⟨o,G,i,Z,_,_,_,_,_,z,?_⟩⟩⟩;·rw[q,BS (by grind)]
  ·rw[q,BA (b:=(g.name,(AF d (Av d g) g.result 0 g.body).1,(AF d (Av d g) g.result 0 g.body).2)) (by grind)];exact⟨rfl,rfl⟩
 rw[(y.procs.done i).1,Ao]at q;rw[q,xm];refine(c188 y hv u).call ⟨_,_,rfl,λh=>?_,λh=>?_⟩;·rw[good (Mx d) h];exact⟨rfl,rfl⟩
 ·have:=bad (b:=none) (Mx d) h;grind
def wellT(d:Ds):Bool:=Bv d&&decide ((fltR (Ct d)).2.2=0)
theorem Q6(g:Ds.Ok V d):PP 89 [d.v] V (.bool (wellT d)):=by
 refine QO ?_;unfold wellT;refine(Mn g).call ⟨_,rfl,λh=>(c133 g (vparts h)).call ⟨_,_,_,rfl,?_⟩,λh=>?_⟩;·simp_all
 simp_all
end
structure BT (V:Mem)(c:Option Addr)(d:Ds):Prop where
 at_:∃cb mt mp t,c=some ⟨cb,0,none⟩/\V cb=some (.cells (d.row++[zp (some mt),zp (some mp)]).toArray t (0,0))/\By V mt (λk=>(Dq d k).map Ty.v)/\By V mp (λk=>(Ch d k).map Pr.v)
 ok:Ds.Ok V d
theorem BT.sub{V V':Mem}{c:Option Addr}{d:Ds}(h:BT V c d)(g:V.sub V'):BT V' c d:=by
 obtain⟨cb,mt,mp,t,h1,h2,h3,h4⟩:=h.at_;exact⟨⟨cb,mt,mp,t,h1,g _ _ h2,h3.sub g,h4.sub g⟩,h.ok.sub g⟩
theorem BT.nn{V:Mem}{c:Option Addr}{d:Ds}(h:BT V c d):¬(c=none):=by
 obtain⟨cb,mt,mp,t,h1,h2,h3,h4⟩:=h.at_;rw[h1];simp
theorem BT.cell{V:Mem}{c:Option Addr}{d:Ds}(h:BT V c d){i:Nat}{v:Value}(hv:(d.row)[i]?=some v):V.rowp c (i*1) 1=some [v]:=by
 obtain⟨cb,mt,mp,t,h1,h2,h3,h4⟩:=h.at_;rw[h1,Nat.mul_one];have u:=(yj.1 hv).1;have z:d.row.length=8:=rfl;rw[Aj h2 i 1 (by simp;omega)];have:(d.row++[zp (some mt),zp (some mp)])[i]?=some v:=by grind
 have g:i<(d.row++[zp (some mt),zp (some mp)]).length:=by rw[List.length_append];omega
 show some (((d.row++[zp (some mt),zp (some mp)]).drop i).take 1)=_;rw[List.drop_eq_getElem_cons g,(yj.1 this).2];rfl
theorem BT.types{V:Mem}{c:Option Addr}{d:Ds}(h:BT V c d):∃mt,V.rowp c 8 1=some [.map (some mt)]/\By V mt (λk=>(Dq d k).map Ty.v):=by
 obtain⟨cb,mt,mp,t,h1,h2,h3,h4⟩:=h.at_;exact⟨mt,by rw[h1,Aj h2 8 1 (by simp[Ds.row])];rfl,h3⟩
theorem BT.procs{V:Mem}{c:Option Addr}{d:Ds}(h:BT V c d):∃mt,V.rowp c 9 1=some [.map (some mt)]/\By V mt (λk=>(Ch d k).map Pr.v):=by
 obtain⟨cb,mt,mp,t,h1,h2,h3,h4⟩:=h.at_;exact⟨mp,by rw[h1,Aj h2 9 1 (by simp[Ds.row])];rfl,h4⟩
def Ck(l:List Fld)(k:KB):Option KB:=(l.find? λf=>decide (f.name=k)).map (·.ty)
theorem OA(l:List Fld)(k:KB):Ca l k=(Ck l k).getD sE:=by
 induction l with
 |nil=>rfl
 |cons f l h=>
  grind[Ck,Ca]
def NE(l:List Fld):Prop:=∀f∈l,f.ty≠sE
theorem NE.some{l:List Fld}(h:NE l){k t:KB}(hv:Ck l k=some t):t≠sE:=by
 unfold Ck at hv;obtain⟨f,g,rfl⟩:=zy.1 hv;exact h f (xj g)
structure Fo (V:Mem)(m:Option Nat)(sc:Sc):Prop where
 at_:∃mb,m=some mb/\By V mb (λk=>(Ck sc.vars k).map Value.string)
 ne:NE sc.vars
theorem Fo.sub{V V':Mem}{m:Option Nat}{sc:Sc}(h:Fo V m sc)(g:V.sub V'):Fo V' m sc:=by
 obtain⟨mb,h1,h2⟩:=h.at_;exact⟨⟨mb,h1,h2.sub g⟩,h.ne⟩
def sV(c:Option Addr)(m:Option Nat)(sc:Sc):Value:=.agg #[.pointer c,.map m,.bool sc.body]
structure EV (d:Ds):Prop where
 types:∀t∈d.types,NE t.fields
 globals:NE d.globals
 params:∀p∈d.procs,NE p.params/\NE p.locals
theorem typB_ne{s:KB}(h:typB s=true):s≠sE:=by
 intro e;subst e;have:typB sE=false:=by
  rfl
 simp_all
theorem flds_ne{l:List Fld}{n:Int}(h:Df l n=true):NE l:=λf g=>by
 simp_all[Df,zC,yC,fldB,typB_ne]
theorem OB{d:Ds}(h:Bv d=true):EV d:=by
 unfold Bv at h;simp only[zC,decide_eq_true_eq,yC]at h;obtain⟨⟨⟨⟨⟨⟨⟨-,-⟩,z⟩,-⟩,-⟩,y⟩,i⟩,-⟩:=h;refine⟨λt g=>?_,flds_ne z,λp u=>?_⟩
 ·have:=y t g;unfold EC at this;rw[zC]at this;exact flds_ne this.2
 ·have:=i p u;unfold DK at this;simp only[zC]at this;grind[flds_ne]
theorem zero140(w:World):(zeroValue 140).run xS w=.ok (.agg #[.string zA,.slice none 0 0]) w:=by kernel_rfl
theorem zero142(w:World):(zeroValue 142).run xS w=.ok (.agg #[.string zA,.slice none 0 0,.string zA,.slice none 0 0,.slice none 0 0]) w:=by kernel_rfl
theorem zero9(w:World):(zeroValue 9).run xS w=.ok (.string zA) w:=by kernel_rfl
theorem tyOf_node(d:Ds)(s:KB):(Dq d s).isSome=Cg d s:=by
 grind[Dq,Cg]
theorem tyOf_mem{d:Ds}{s:KB}{t:Ty}(h:Dq d s=some t):t∈d.types:=xj h
theorem My{d:Ds}{s:KB}{t:Pr}(h:Ch d s=some t):t∈d.procs:=xj h
section
variable{V:Mem}{d:Ds}{c:Option Addr}{m:Option Nat}{sc:Sc}
theorem c167(h:BT V c d){s:KB}:PP 167 [.pointer c,.string s] V (.bool (Cg d s)):=by
 refine x167 ?_;obtain⟨mt,h1,h2⟩:=h.types;refine⟨h.nn,h.nn,_,h1,Cd.str xi xh zero140 h2 ?_⟩;rw[<-tyOf_node];cases g:Dq d s with
 |none=>exact⟨_,⟨none,0,0⟩,_,rfl,rfl,rfl⟩
 |some t=>exact⟨_,t.fs,_,rfl,rfl,rfl⟩
theorem c161(h:BT V c d){s:KB}:PP 161 [.pointer c,.string s] V (.bool (Bt d s)):=by
 refine x161 ?_;refine⟨λh1=>?_,λh1=>⟨λh2=>?_,λh2=>(c167 h).call ⟨_,rfl,?_⟩⟩⟩<;>simp[Bt,Am,AC, *]
theorem c257(h:BT V c d){s t:KB}:PP 257 [.pointer c,.string s,.string t] V (.bool (BL d s t)):=by
 refine x257 ?_;unfold BL sNil;refine⟨λh1=>?_,λh1=>⟨λh2=>(c167 h).call ⟨_,rfl,?_⟩,λh2=>?_⟩⟩;·simp_all
 ·simp_all
 simp_all
theorem c258(h:BT V c d)(hv:EV d){s t:KB}:PP 258 [.pointer c,.string s,.string t] V (.tuple #[.string (DD d s t).1,.int .i64 (DD d s t).2]):=by
 refine x258 ?_;obtain⟨mt,h1,h2⟩:=h.types;refine⟨h.nn,h.nn,_,h1,Cd.str xi xh zero140 h2 ?_⟩;unfold DD;cases q:Dq d s with
 |none=>exact⟨_,⟨none,0,0⟩,_,rfl,λh=>absurd h (by simp),λ_=>⟨rfl,rfl⟩⟩
 |some ty=>
  refine⟨_,ty.fs,_,rfl,λ_=>?_,λh=>absurd rfl h⟩;have y:=(h.ok.typesOk ty (tyOf_mem q)).fields;have l:=hv.types ty (tyOf_mem q);simp only;refine DJ ty.fields.length (λi V1=>V=V1/\Ca ty.fields t=Ca (ty.fields.drop i) t) ⟨rfl,rfl⟩ ?_;rintro i b c V1 J Y ⟨rfl,u⟩ H;refine⟨λg=>?_,λn=>?_⟩
  ·obtain⟨x,hm,W,r,G,N,Z,z⟩:=y.get g;rw[r,Ca]at u;refine⟨N,Z,g,_,_,z,λo=>?_,λo=>⟨y.succ g,H G _ _ _ ⟨rfl,?_⟩⟩⟩
   ·rw[if_pos o]at u;rw[u,if_neg (l x hm)];simp_all
   simp_all
  ·rw[(y.done n).1,Ca]at u;rw[u,if_pos rfl];exact⟨rfl,rfl⟩
theorem c300{b:Nat}{s:KB}{t:Nat}(h:V b=some (cell (.string s) t)){x:Ms}:PP 300 [x.v,pv b] V (.bool (decide (x.name=s))):=by
 refine x300 ?_;exact⟨_,An h,rfl,rfl⟩
def JA{α:Type}(f:FuncId)(row:α->List Value)(v:α->Value)(sz:Nat):Prop:=∀{V:Mem}{l:Sl}{xs:List α}{g:Nat}{first caps:List Value}(h:Ab V l sz (xs.map row))(u:GL g)(p:α->Bool) (z:∀x∈xs,PP g (first++[v x]++caps) V (.bool (p x))),PP f [l.v,.func (.func g) first.toArray caps.toArray] V (.int .i64 (BH p xs))
theorem idC{α:Type}{f:FuncId}{row:α->List Value}{v:α->Value}{sz:Nat}(H:IdxP f row v sz):JA f row v sz:=by
 intro V l xs g first r h q p o
 refine Tri.mono (H q (λi V1=>V=V1/\A0 (λy=>!p y) xs i) (λi V1=>V=V1/\∃x,xs[i]?=some x/\p x=true/\A0 (λy=>!p y) xs i) (λi V1 u=>u.1▸h) ⟨rfl,A0.zero _ _⟩ ?_) ?_
 ·rintro i x V1 z ⟨rfl,u⟩;have hm:x∈xs:=List.mem_of_getElem? z;exact(o x hm).callv ⟨_,rfl,λn=>⟨rfl,x,z,n,u⟩,λn=>⟨rfl,Hn u z n⟩⟩
 ·rintro e V' (⟨i,rfl,rfl,x,z,n,u⟩|⟨rfl,rfl,u⟩);·rw[Hl u z n];simp_all
  ·rw[Hm u (Nat.le_refl _)];simp_all
theorem idxMs:JA 253 Ms.row Ms.v 7:=idC g253
theorem c282(h:BT V c d){s:KB}{l:Sl}{xs:List KB}(G:Ab V l 1 (xs.map CC)):PP 282 [sV c m sc,.string s,l.v] V (.tuple #[.string (GO d s xs).1,.int .i64 (GO d s xs).2]):=by
 refine Bn.mk (x282 ?_);refine⟨h.nn,h.nn,Al h.nn,d.ms,h.cell (i:=4) rfl,λb N=>?_⟩;have q:=Mem.sub_new N (cell (.string s) 9);have h1:=h.sub q;have g:=G.sub q;refine(idxMs (l:=d.ms) (first:=[]) (caps:=[pv b]) h1.ok.measures Tryz.call300 (λt=>decide (t.name=s)) (λx _=>c300 Au)).call ⟨_,rfl,?_⟩;unfold GO meOf;have key:∀{X:KB×Int}(a:KB)(n:Int),X=(a,n)->(xV (.tuple #[.string a,.int .i64 n])=xV (.tuple #[.string X.1,.int .i64 X.2])/\V.sub (V.set b (cell (.string s) 9))):=λa n h=>by simp_all
 rcases Cu (λt:Ms=>decide (t.name=s)) d.measures with⟨h1,h2,h3⟩|⟨i,x,i1,i2,i3,i4,i5,i6,i7,_⟩;·rw[h1,h2];exact⟨λ_=>key _ _ rfl,λh=>absurd h (by decide)⟩
 ·rw[i1,i3];have O:=h1.ok.measures.n_eq;have u:(i:Int)<(d.ms.n:Int):=by omega
  obtain⟨y,hm,o,Z,Y,H,W,z⟩:=h1.ok.measures.get u;rw[i2]at o;cases o;have A:=g.n_eq;refine⟨λh=>absurd h (by omega),λ_=>⟨λQ=>?_,λQ=>key _ _ (if_pos (by omega))⟩⟩;obtain⟨a1,a2,a3⟩:=Fm g (i:=0) (by omega);have J:¬(xs.length≠1):=by omega
  refine⟨a1,by omega,by omega,_,a3,h.nn,h.nn,Al h.nn,d.ms,h1.cell (i:=4) rfl,H,W,u,Al H,_,_,_,_,_,_,_,z,(c257 h1).call ⟨_,rfl,λr=>key _ _ ?_,λr=>key _ _ ?_⟩⟩;·simp only[J,if_false];unfold Dr;rw[if_pos r];rfl
  ·simp only[J,if_false];unfold Dr;rw[if_neg r];rfl
theorem c285{b:Nat}{s:KB}{t:Nat}(h:V b=some (cell (.string s) t)){x:KB}:PP 285 [strV x,pv b] V (.bool (!decide (x=s))):=by
 refine x285 ?_;exact⟨_,An h,rfl,rfl⟩
theorem c283{b t:Nat}{l:Sl}{xs:List KB}(z:V b=some (cell (.slice l.p l.n l.c) t))(y:Ab V l 1 (xs.map CC)){s r:KB}:
  PP 283 [.string s,.string r,pv b] V (.tuple #[.string (Dr (allT xs s) r).1,.int .i64 (Dr (allT xs s) r).2]):=by
 refine Bn.mk (x283 ?_);refine⟨l,An z,λb1 g=>?_⟩;have u:=Mem.sub_new g (cell (.string s) 9);refine(c284 (l:=l) (first:=[]) (caps:=[pv b1]) (y.sub u) Tryz.call285 (λx=>!decide (x=s)) (λx _=>c285 Au)).call ⟨_,rfl,λh=>?_,λh=>?_⟩
 ·rw[xu]at h;have:allT xs s=false:=by grind[allT]
  rw[this];exact⟨rfl,u⟩
 ·rw[xu]at h;have:allT xs s=true:=by grind[allT]
  rw[this];exact⟨rfl,u⟩
end
theorem fits_first{d:Ds}{a b:KB}(h:BL d a b=true):(if a=sNil then b else a)=b:=by
 grind[BL]
theorem fits_second{d:Ds}{a b:KB}(h:¬BL d a b=true)(h2:BL d b a=true):(if a=sNil then b else a)=a:=by
 grind[BL,absurd]
def HZ(d:Ds)(sc:Sc)(s:KB)(l:List KB):KB×Int:=if sc.body=true then En d s l else GO d s l
theorem measT_ne{d:Ds}{s:KB}{l:List KB}(h:(GO d s l).2=0):(GO d s l).1≠sE:=by
 unfold GO at h⊢;split at h;·omega
 ·split at h;·omega
  ·rename_i g;simp only[if_neg g];unfold Dr at h⊢;split at h;·rename_i h2;rw[if_pos h2];simp only;decide
   omega
theorem callE_raw(d:Ds)(sc:Sc)(s:KB)(l:List KB):FN d sc s l=if(HZ d sc s l).2=0/\(HZ d sc s l).1=sE then(sE,11)else HZ d sc s l:=by
 unfold FN HZ;by_cases h:sc.body=true;·simp_all
 simp_all[if_neg,absurd,measT_ne]
section
variable{V:Mem}{d:Ds}{c:Option Addr}{m:Option Nat}{sc:Sc}
def ImpE(V:Mem)(d:Ds)(c:Option Addr)(m:Option Nat)(sc:Sc)(e:E):Prop:=∀V1,V.sub V1->PP 216 [sV c m sc,e.v] V1 (.tuple #[.string (Aw d sc e).1,.int .i64 (Aw d sc e).2])
def rawT(d:Ds)(sc:Sc)(e:E):KB×Int:=if(partsT d sc [] e.k).2≠0 then(sE,(partsT d sc [] e.k).2)else HZ d sc e.s (partsT d sc [] e.k).1
theorem impCall(h:BT V c d)(e:E)(M:E.Ok V e)(hlen:(e.k.length:Int)<=6)(hk:∀x∈e.k,ImpE V d c m sc x):
  PP 256 [sV c m sc,e.v] V (.tuple #[.string (rawT d sc e).1,.int .i64 (rawT d sc e).2]):=by
 have hr:=M.rows;refine Bn.mk (x256 ?_);unfold rawT;refine loop4s (mk:=.string) (mc:=.int .i64) (md:=λs:Sl=>.slice s.p s.n s.c) (Ad []) 0 ⟨none,0,0⟩ Bb e.k.length (λi s V1=>∃acc,Own V V1 9 1 s (acc.flatMap CC)/\partsT d sc [] e.k=partsT d sc acc (e.k.drop i)/\acc.length=i) ⟨[],Own.nil (Mem.sub.refl _) _ _,rfl,rfl⟩ ?_;rintro i b b' s V1 J hi ⟨acc,g,r,q⟩ F;have o:=hr.sub g.sub;refine⟨λl=>?_,λH=>?_⟩
 ·obtain⟨x,hm,hx,L,hl,R,hz,Y⟩:=o.get l;rw[L,HV]at r;refine⟨R,hz,l,_,_,_,_,Y,(hk x hm V1 g.sub).call ⟨_,_,rfl,λA=>?_,λA=>?_⟩⟩
  ·intro b1 B;rw[if_neg (λh=>h A)]at r;refine IE (s:=s) (u:=⟨some ⟨b1,0,none⟩,1,1⟩) (xs:=acc) (ys:=[(Aw d sc x).1]) rfl rfl (g.new B _) (IF Au) (by simp;omega) λs' V' ho=>⟨s',rfl,o.succ l,F hl _ _ _ _ ⟨_,ho,r,by simp[q]⟩⟩
  ·rw[if_pos A]at r;rw[r];simp only[ne_eq,A,not_false_eq_true,if_true];exact⟨by trivial,g.sub⟩
 ·rw[(o.done H).1,ID]at r;rw[r];simp only[ne_eq,not_true_eq_false,if_false];have z:=ownS g;have h1:=h.sub g.sub;have key:∀{X:KB×Int}(a:KB)(n:Int),X=(a,n)->(xV (.tuple #[.string a,.int .i64 n])=xV (.tuple #[.string X.1,.int .i64 X.2])/\V.sub V1):=λa n h=>by rw[h];exact⟨rfl,g.sub⟩
  unfold HZ;refine⟨λZ=>?_,λZ=>?_⟩
  ·rw[if_pos Z];obtain⟨mt,q1,q2⟩:=h1.procs;refine⟨h.nn,h.nn,_,q1,Cd.str xg xh zero142 q2 ?_⟩;unfold En;cases C:Ch d e.s with
   |none=>exact⟨_,⟨none,0,0⟩,_,⟨none,0,0⟩,⟨none,0,0⟩,_,rfl,λh=>absurd h (by simp),λ_=>key _ _ rfl⟩
   |some p=>
    have W:=h1.ok.procsOk p (My C);have e1:=z.n_eq;have e2:=W.params.n_eq;refine⟨_,p.ps,_,p.ls,p.bs,_,rfl,λ_=>⟨λM=>?_,λM=>key _ _ (if_pos (by omega))⟩,λh=>absurd rfl h⟩;have D:acc.length=p.params.length:=by omega
    simp only[D,ne_eq,not_true_eq_false,if_false];refine DJ acc.length (λi V2=>V1=V2/\DL d acc p.params=DL d (acc.drop i) (p.params.drop i)) ⟨rfl,rfl⟩ ?_;rintro j b c' V2 J hi ⟨rfl,I⟩ F;refine⟨λl=>?_,λH=>?_⟩
    ·obtain⟨y,hm',hx',Q,K,S,T,G⟩:=z.get l;obtain⟨f,hmf,hxf,U,hlf,O,hzf,N⟩:=W.params.get (i:=j) (by omega);rw[Q,U,DL]at I;refine⟨S,T,l,_,G,O,hzf,by omega,Al O,_,_,N,(c257 h1).call ⟨_,rfl,λZ=>⟨z.succ l,F K _ _ _ ⟨rfl,?_⟩⟩,λZ=>key _ _ ?_⟩⟩;·simp_all
     ·rw[eq_false_of_ne_true Z,Bool.false_and]at I;rw[I];rfl
    ·rw[(z.done H).1,Ov]at I;simp_all
  ·rw[if_neg Z];exact(c282 h1 z).call ⟨_,_,rfl,key _ _ rfl⟩
theorem impNode(h:BT V c d)(hv:EV d)(hs:Fo V m sc){e:E}{l:Sl}{xs:List KB}(M:Ab V l 1 (xs.map CC))(hlen:xs.length=e.k.length)(F:Dp e.op e.n e.s e.k.length=true)(Y:e.op≠7):
  PP 259 [sV c m sc,e.v,l.v] V (.tuple #[.string (ET d sc e.op e.s xs).1,.int .i64 (ET d sc e.op e.s xs).2]):=by
 have W:=arity F;refine Bn.mk (x259 ?_);generalize g:ET d sc e.op e.s xs=X;have key:∀{V1:Mem}(a:KB)(n:Int),V.sub V1->X=(a,n)->(xV (.tuple #[.string a,.int .i64 n])=xV (.tuple #[.string X.1,.int .i64 X.2])/\V.sub V1):=λa n h1 h=>by simp_all
 have rf:=Mem.sub.refl V;have u:=λa b=>c257 h (s:=a) (t:=b);have J:=λh:0<xs.length=>Fm M h;have at1:=λh:1<xs.length=>Fm M h;have at2:=λh:2<xs.length=>Fm M h;have call:∀(s r:KB),X=Dr (allT xs s) r->Ag [(.slice l.p l.n l.c)] 159 V λv8 V1=>
   Tri xS 283 #[(.string s),(.string r),(.pointer (Aa v8 0))] V1 λz V2=>∃v9:KB,∃Q:Int,z=.returned (.tuple #[(.string v9),(.int .i64 Q)])/\(xV (.tuple #[(.string v9),(.int .i64 Q)])=xV (.tuple #[.string X.1,.int .i64 X.2])/\V.sub V2):=λs r hx b O=>by
  have h1:=Mem.sub_new O (cell (.slice l.p l.n l.c) 159);exact(c283 (l:=l) Au (M.sub h1)).call ⟨_,_,rfl,key _ _ h1 (by rw[hx])⟩
 unfold ET at g;refine⟨λy=>key _ _ rf ?_,λy=>⟨λi=>key _ _ rf ?_,λi=>⟨λq=>key _ _ rf ?_,λq=>⟨λo=>?_,λo=>⟨λH=>?_,λH=>⟨λG=>?_,λG=>⟨λL=>?_,λL=>⟨λR=>?_,λR=>⟨λB=>call _ _ ?_,λB=>⟨λC=>call _ _ ?_,λC=>⟨λD=>call _ _ ?_,λD=>⟨λK=>call _ _ ?_,λK=>⟨λS=>call _ _ ?_,λS=>⟨λN=>?_,λN=>call _ _ ?_⟩⟩⟩⟩⟩⟩⟩⟩⟩⟩⟩⟩⟩⟩;·rw[<-g,if_pos y];rfl
 ·rw[<-g,if_neg y,if_pos i];rfl
 ·rw[<-g,if_neg y,if_neg i,if_pos q];rfl
 ·rw[if_neg y,if_neg i,if_neg q,if_pos o,OA]at g;obtain⟨mb,rfl,A⟩:=hs.at_;refine Cd.str xf xh zero9 A ?_;cases Z:Ck sc.vars e.s with
  |none=>
   rw[Z,xe]at g;exact⟨_,_,rfl,λh=>absurd h (by simp),λ_=>key _ _ rf (by rw[<-g,if_pos rfl];rfl)⟩
  |some t=>
   rw[Z,xk]at g;exact⟨t,_,rfl,λ_=>key _ _ rf (by rw[<-g,if_neg (hs.ne.some Z)]),λh=>absurd rfl h⟩
 ·rw[if_neg y,if_neg i,if_neg q,if_neg o,if_pos H]at g;obtain⟨a1,a2,a3⟩:=J (by omega);exact⟨a1,by omega,a2,_,a3,(c258 h hv).call ⟨_,_,rfl,key _ _ rf (by rw[<-g])⟩⟩
 ·rw[if_neg y,if_neg i,if_neg q,if_neg o,if_neg H,if_pos G]at g;refine⟨λO=>(c167 h).call ⟨_,rfl,λhn=>key _ _ rf ?_,λhn=>key _ _ rf ?_⟩,λO=>key _ _ rf ?_⟩;·simp_all
  ·rw[<-g,if_neg (by rw[O];simp),if_pos (eq_false_of_ne_true hn)];rfl
  ·rw[<-g,if_pos (eq_false_of_ne_true O)];rfl
 iterate 2
  ·rw[if_neg y,if_neg i,if_neg q,if_neg o,if_neg H,if_neg G,if_neg Y,if_pos (by omega)]at g;obtain⟨a1,a2,a3⟩:=J (by have:=W.2.1 (by omega);omega);obtain⟨b1,b2,b3⟩:=at1 (by have:=W.2.1 (by omega);omega);refine⟨a1,by omega,a2,_,a3,b1,by omega,b2,_,b3,(u _ _).call ⟨_,rfl,λh=>key _ _ rf ?_,λh=>⟨b1,by omega,b2,_,b3,a1,by omega,a2,_,a3,(u _ _).call ⟨_,rfl,λh2=>key _ _ rf ?_,λh2=>key _ _ rf ?_⟩⟩⟩⟩;·rw[<-g,h];rfl
   ·rw[<-g,h2,xd];rfl
   ·rw[<-g,eq_false_of_ne_true h,eq_false_of_ne_true h2];rfl
 iterate 2
  ·rw[if_neg y,if_neg i,if_neg q,if_neg o,if_neg H,if_neg G,if_neg Y,if_neg (by omega),if_pos (by omega)]at g;exact g.symm
 iterate 3
  ·rw[if_neg y,if_neg i,if_neg q,if_neg o,if_neg H,if_neg G,if_neg Y,if_neg (by omega),if_neg (by omega),if_pos (by omega)]at g;exact g.symm
 ·rw[if_neg y,if_neg i,if_neg q,if_neg o,if_neg H,if_neg G,if_neg Y,if_neg (by omega),if_neg (by omega),if_neg (by omega),if_pos N]at g;obtain⟨a1,a2,a3⟩:=J (by omega);obtain⟨b1,b2,b3⟩:=at1 (by omega);obtain⟨T,U,c3⟩:=at2 (by omega);refine⟨a1,by omega,a2,_,a3,λI=>⟨b1,by omega,b2,_,b3,T,by omega,U,_,c3,(u _ _).call ⟨_,rfl,λh=>⟨T,by omega,U,_,c3,key _ _ rf ?_⟩,λh=>⟨T,by omega,U,_,c3,b1,by omega,b2,_,b3,(u _ _).call ⟨_,rfl,λh2=>⟨b1,by omega,b2,_,b3,key _ _ rf ?_⟩,λh2=>key _ _ rf ?_⟩⟩⟩⟩,λI=>key _ _ rf ?_⟩;·rw[<-g,decide_eq_true (show xs.getD 0 sE=AC from I),h,fits_first h];rfl
  ·rw[<-g,decide_eq_true (show xs.getD 0 sE=AC from I),h2,xd,fits_second h h2];rfl
  ·rw[<-g,decide_eq_true (show xs.getD 0 sE=AC from I),eq_false_of_ne_true h,eq_false_of_ne_true h2];rfl
  ·rw[<-g,decide_eq_false (show ¬xs.getD 0 sE=AC from I)];rfl
 ·rw[if_neg y,if_neg i,if_neg q,if_neg o,if_neg H,if_neg G,if_neg Y,if_neg (by omega),if_neg (by omega),if_neg (by omega),if_neg N]at g;exact g.symm
theorem impExpr(h:BT V c d)(hv:EV d)(B:Fo V m sc):∀(e:E),E.Ok V e->∀Y,Cs Y e=true->ImpE V d c m sc e:=by
 intro e;induction e using E.ind with
 |h e C=>
 intro W Y l V1 H;have Q:=arity (Jz l);have F:∀x∈e.k,ImpE V1 d c m sc x:=λx Z V2 h2=>C x Z (W.kids x Z) (Y+1) (KG l x Z) V2 (H.trans h2);have h1:=h.sub H;refine Bn.mk (x216 ?_);have L:=Mp d sc e.k [];refine⟨λR=>(impCall h1 e (W.sub H) Q.2.2.2 F).call ⟨_,_,rfl,?_⟩,λR=>?_⟩
 ·have O:Aw d sc e=if(rawT d sc e).2=0/\(rawT d sc e).1=sE then(sE,11)else rawT d sc e:=by
   rw[KE];unfold rawT;by_cases z:(partsT d sc [] e.k).2≠0;·simp_all
   simp_all[if_neg,ET,if_pos,callE_raw]
  rw[O];refine⟨λz=>⟨λh2=>?_,λh2=>?_⟩,λz=>?_⟩;·rw[if_pos ⟨z,h2⟩];exact⟨rfl,Mem.sub.refl _⟩
  ·rw[if_neg (λh=>h2 h.2)];exact⟨rfl,Mem.sub.refl _⟩
  ·rw[if_neg (λh=>z h.1)];exact⟨rfl,Mem.sub.refl _⟩
 ·rw[KE];have D:=(W.sub H).rows;refine loop4s (mk:=.string) (mc:=.int .i64) (md:=λs:Sl=>.slice s.p s.n s.c) (Ad []) 0 ⟨none,0,0⟩ Bb e.k.length (λi s V2=>∃acc,Own V1 V2 9 1 s (acc.flatMap CC)/\partsT d sc [] e.k=partsT d sc acc (e.k.drop i)/\acc.length=i) ⟨[],Own.nil (Mem.sub.refl _) _ _,rfl,rfl⟩ ?_;rintro i b b' s V2 J hi ⟨acc,g,r,q⟩ K;have y:=D.sub g.sub;refine⟨λo=>?_,λG=>?_⟩
  ·obtain⟨x,hm,Z,A,S,I,T,N⟩:=y.get o;rw[A,HV]at r;refine⟨I,T,o,_,_,_,_,N,(F x hm V2 g.sub).call ⟨_,_,rfl,λz=>?_,λz=>?_⟩⟩
   ·intro b1 M;rw[if_neg (λh=>h z)]at r;refine IE (s:=s) (u:=⟨some ⟨b1,0,none⟩,1,1⟩) (xs:=acc) (ys:=[(Aw d sc x).1]) rfl rfl (g.new M _) (IF Au) (by simp;omega) λs' V' U=>⟨s',rfl,y.succ o,K S _ _ _ _ ⟨_,U,r,by simp[q]⟩⟩
   ·rw[if_pos z]at r;rw[r];simp only[ne_eq,z,not_false_eq_true,if_true];exact⟨by trivial,g.sub⟩
  ·have X:=(y.done G).2;rw[(y.done G).1,ID]at r;rw[r];simp only[ne_eq,not_true_eq_false,if_false];refine(impNode (h1.sub g.sub) hv ((B.sub H).sub g.sub) (ownS g) (by omega) (Jz l) R).call ⟨_,_,rfl,rfl,g.sub⟩
end
theorem Hq{c k:Nat}{p:Option Addr}:(if(c:Int)=(0:Int)then p else Aa p ((0:Int).toNat*k))=p:=by
 have:Aa p ((0:Int).toNat*k)=p:=by
  rw[show(0:Int).toNat*k=0 by simp];cases p with
  |none=>rfl
  |some a=>show some (a.add 0)=_;unfold zF;rw[if_pos rfl]
 split;·rfl
 ·exact this
theorem sub0{n:Nat}:((n:Int)-(0:Int)).toNat=n:=by omega
theorem Ab.pre{α:Type}{V:Mem}{l:Sl}{sz:Nat}{row:α->List Value}{xs:List α}(h:Ab V l sz (xs.map row)){i:Nat}(hi:i<=xs.length):Ab V ⟨l.p,i,l.c⟩ sz ((xs.take i).map row):=by
 have g:=h.n_eq;have u:=h.cap;refine⟨by simp[hi],by grind,h.fit,λr z=>h.size r ?_,λj r y=>h.at_ j r ?_⟩;·grind
 grind
theorem GP{V:Mem}{p:Option Addr}{off n:Nat}{vs:List Value}(h:V.rowp p off n=some vs):V.rowp (Aa p off) 0 n=some vs:=by
 cases p with
 |none=>cases h
 |some a=>
  have:(a.add off).add 0=a.add off:=by rfl
  show V.row ((a.add off).add 0) n=_;rw[this];exact h
theorem c157{V:Mem}{x:Ty}:PP 157 [x.v] V (.string x.name):=by
 refine x157 ?_;exact⟨rfl,rfl⟩
theorem c204{V:Mem}{b1 b2 b3 s H t3 i:Nat}{l:Sl}{xs:List Ty}{x y:Ty}(h1:V b1=some (cell (.func (.func 157) #[] #[]) s))(h2:V b2=some (cell (.slice l.p l.n l.c) H))(h3:V b3=some (cell (.int .i64 i) t3))
  (u:Ab V l 2 (xs.map Ty.row)) (z:xs[i]?=some y):PP 204 [x.v,pv b1,pv b2,pv b3] V (.bool (decide (x.name=y.name))):=by
 refine x204 ?_;have N:=u.n_eq;have J:=(yj.1 z).1;have g:(i:Int)<(l.n:Int):=by omega
 obtain⟨Z,hm,r,G,Y,q,o,h⟩:=u.get g;rw[z]at r;cases r;exact⟨.func (.func 157) #[] #[],rfl,An h1,.func (.func 157) #[] #[],rfl,An h1,l,An h2,_,An h3,q,o,g,_,_,h,_,_,_,rfl,Tryz.call157,(c157 (x:=x)).callv (first:=[]) (caps:=[]) ⟨_,rfl,GP h,q,o,g,An h3,An h2,An h1,_,_,_,rfl,Tryz.call157,(c157 (x:=y)).callv (first:=[]) (caps:=[]) ⟨_,rfl,rfl,rfl⟩⟩⟩
theorem c156{V:Mem}{l:Sl}{xs:List Ty}{i:Nat}{y:Ty}(z:Ab V l 2 (xs.map Ty.row))(r:xs[i]?=some y):PP 156 [l.v,.int .i64 i,.func (.func 157) #[] #[]] V (.bool ((xs.take i).any λg=>decide (g.name=y.name))):=by
 refine Bn.mk (x156 (a:=l) (c:=.func (.func 157) #[] #[]) ?_);have o:=z.n_eq;have H:=z.cap;have q:=(yj.1 r).1;refine⟨⟨by omega,by omega,by omega⟩,λb1 n b2 u b3 h=>?_⟩;have s:=(Mem.sub_new n _).trans ((Mem.sub_new u _).trans (Mem.sub_new h (cell (.int .i64 i) 3)));simp only[Hq,sub0];refine(c113 (l:=⟨l.p,i,l.c⟩) (first:=[]) (caps:=[pv b1,pv b2,pv b3]) (Ab.pre (z.sub s) (by omega)) Tryz.call204 (λg=>decide (g.name=y.name)) (λx _=>c204 ((Mem.sub_new h _) _ _ ((Mem.sub_new u _) _ _ Au)) ((Mem.sub_new h _) _ _ Au) Au (z.sub s) r)).call ⟨_,rfl,rfl,s⟩
theorem c160{V:Mem}{x:Fld}:PP 160 [x.v] V (.string x.name):=by
 refine x160 ?_;exact⟨rfl,rfl⟩
theorem c206{V:Mem}{b1 b2 b3 s H t3 i:Nat}{l:Sl}{xs:List Fld}{x y:Fld}(h1:V b1=some (cell (.func (.func 160) #[] #[]) s))(h2:V b2=some (cell (.slice l.p l.n l.c) H))(h3:V b3=some (cell (.int .i64 i) t3))
  (u:Ab V l 2 (xs.map Fld.row)) (z:xs[i]?=some y):PP 206 [x.v,pv b1,pv b2,pv b3] V (.bool (decide (x.name=y.name))):=by
 refine x206 ?_;have N:=u.n_eq;have J:=(yj.1 z).1;have g:(i:Int)<(l.n:Int):=by omega
 obtain⟨Z,hm,r,G,Y,q,o,h⟩:=u.get g;rw[z]at r;cases r;exact⟨.func (.func 160) #[] #[],rfl,An h1,.func (.func 160) #[] #[],rfl,An h1,l,An h2,_,An h3,q,o,g,_,_,h,_,_,_,rfl,Tryz.call160,(c160 (x:=x)).callv (first:=[]) (caps:=[]) ⟨_,rfl,GP h,q,o,g,An h3,An h2,An h1,_,_,_,rfl,Tryz.call160,(c160 (x:=y)).callv (first:=[]) (caps:=[]) ⟨_,rfl,rfl,rfl⟩⟩⟩
theorem c159{V:Mem}{l:Sl}{xs:List Fld}{i:Nat}{y:Fld}(z:Ab V l 2 (xs.map Fld.row))(r:xs[i]?=some y):PP 159 [l.v,.int .i64 i,.func (.func 160) #[] #[]] V (.bool ((xs.take i).any λg=>decide (g.name=y.name))):=by
 refine Bn.mk (x159 (a:=l) (c:=.func (.func 160) #[] #[]) ?_);have o:=z.n_eq;have H:=z.cap;have q:=(yj.1 r).1;refine⟨⟨by omega,by omega,by omega⟩,λb1 n b2 u b3 h=>?_⟩;have s:=(Mem.sub_new n _).trans ((Mem.sub_new u _).trans (Mem.sub_new h (cell (.int .i64 i) 3)));simp only[Hq,sub0];refine(IA (l:=⟨l.p,i,l.c⟩) (first:=[]) (caps:=[pv b1,pv b2,pv b3]) (Ab.pre (z.sub s) (by omega)) Tryz.call206 (λg=>decide (g.name=y.name)) (λx _=>c206 ((Mem.sub_new h _) _ _ ((Mem.sub_new u _) _ _ Au)) ((Mem.sub_new h _) _ _ Au) Au (z.sub s) r)).call ⟨_,rfl,rfl,s⟩
theorem c163{V:Mem}{x:Pr}:PP 163 [x.v] V (.string x.name):=by
 refine x163 ?_;exact⟨rfl,rfl⟩
theorem c207{V:Mem}{b1 b2 b3 s H t3 i:Nat}{l:Sl}{xs:List Pr}{x y:Pr}(h1:V b1=some (cell (.func (.func 163) #[] #[]) s))(h2:V b2=some (cell (.slice l.p l.n l.c) H))(h3:V b3=some (cell (.int .i64 i) t3))
  (u:Ab V l 5 (xs.map Pr.row)) (z:xs[i]?=some y):PP 207 [x.v,pv b1,pv b2,pv b3] V (.bool (decide (x.name=y.name))):=by
 refine x207 ?_;have N:=u.n_eq;have J:=(yj.1 z).1;have g:(i:Int)<(l.n:Int):=by omega
 obtain⟨Z,hm,r,G,Y,q,o,h⟩:=u.get g;rw[z]at r;cases r;exact⟨.func (.func 163) #[] #[],rfl,An h1,.func (.func 163) #[] #[],rfl,An h1,l,An h2,_,An h3,q,o,g,_,_,_,_,_,h,_,_,_,rfl,Tryz.call163,(c163 (x:=x)).callv (first:=[]) (caps:=[]) ⟨_,rfl,GP h,q,o,g,An h3,An h2,An h1,_,_,_,rfl,Tryz.call163,(c163 (x:=y)).callv (first:=[]) (caps:=[]) ⟨_,rfl,rfl,rfl⟩⟩⟩
theorem c162{V:Mem}{l:Sl}{xs:List Pr}{i:Nat}{y:Pr}(z:Ab V l 5 (xs.map Pr.row))(r:xs[i]?=some y):PP 162 [l.v,.int .i64 i,.func (.func 163) #[] #[]] V (.bool ((xs.take i).any λg=>decide (g.name=y.name))):=by
 refine Bn.mk (x162 (a:=l) (c:=.func (.func 163) #[] #[]) ?_);have o:=z.n_eq;have H:=z.cap;have q:=(yj.1 r).1;refine⟨⟨by omega,by omega,by omega⟩,λb1 n b2 u b3 h=>?_⟩;have s:=(Mem.sub_new n _).trans ((Mem.sub_new u _).trans (Mem.sub_new h (cell (.int .i64 i) 3)));simp only[Hq,sub0];refine(Mj (l:=⟨l.p,i,l.c⟩) (first:=[]) (caps:=[pv b1,pv b2,pv b3]) (Ab.pre (z.sub s) (by omega)) Tryz.call207 (λg=>decide (g.name=y.name)) (λx _=>c207 ((Mem.sub_new h _) _ _ ((Mem.sub_new u _) _ _ Au)) ((Mem.sub_new h _) _ _ Au) Au (z.sub s) r)).call ⟨_,rfl,rfl,s⟩
theorem c166{V:Mem}{x:Ms}:PP 166 [x.v] V (.string x.name):=by
 refine x166 ?_;exact⟨rfl,rfl⟩
theorem c210{V:Mem}{b1 b2 b3 s H t3 i:Nat}{l:Sl}{xs:List Ms}{x y:Ms}(h1:V b1=some (cell (.func (.func 166) #[] #[]) s))(h2:V b2=some (cell (.slice l.p l.n l.c) H))(h3:V b3=some (cell (.int .i64 i) t3))
  (u:Ab V l 7 (xs.map Ms.row)) (z:xs[i]?=some y):PP 210 [x.v,pv b1,pv b2,pv b3] V (.bool (decide (x.name=y.name))):=by
 refine x210 ?_;have N:=u.n_eq;have J:=(yj.1 z).1;have g:(i:Int)<(l.n:Int):=by omega
 obtain⟨Z,hm,r,G,Y,q,o,h⟩:=u.get g;rw[z]at r;cases r;exact⟨.func (.func 166) #[] #[],rfl,An h1,.func (.func 166) #[] #[],rfl,An h1,l,An h2,_,An h3,q,o,g,_,_,_,_,_,_,_,h,_,_,_,rfl,Tryz.call166,(c166 (x:=x)).callv (first:=[]) (caps:=[]) ⟨_,rfl,GP h,q,o,g,An h3,An h2,An h1,_,_,_,rfl,Tryz.call166,(c166 (x:=y)).callv (first:=[]) (caps:=[]) ⟨_,rfl,rfl,rfl⟩⟩⟩
theorem c165{V:Mem}{l:Sl}{xs:List Ms}{i:Nat}{y:Ms}(z:Ab V l 7 (xs.map Ms.row))(r:xs[i]?=some y):PP 165 [l.v,.int .i64 i,.func (.func 166) #[] #[]] V (.bool ((xs.take i).any λg=>decide (g.name=y.name))):=by
 refine Bn.mk (x165 (a:=l) (c:=.func (.func 166) #[] #[]) ?_);have o:=z.n_eq;have H:=z.cap;have q:=(yj.1 r).1;refine⟨⟨by omega,by omega,by omega⟩,λb1 n b2 u b3 h=>?_⟩;have s:=(Mem.sub_new n _).trans ((Mem.sub_new u _).trans (Mem.sub_new h (cell (.int .i64 i) 3)));simp only[Hq,sub0];refine(c209 (l:=⟨l.p,i,l.c⟩) (first:=[]) (caps:=[pv b1,pv b2,pv b3]) (Ab.pre (z.sub s) (by omega)) Tryz.call210 (λg=>decide (g.name=y.name)) (λx _=>c210 ((Mem.sub_new h _) _ _ ((Mem.sub_new u _) _ _ Au)) ((Mem.sub_new h _) _ _ Au) Au (z.sub s) r)).call ⟨_,rfl,rfl,s⟩
theorem c169{V:Mem}{x:Iv}:PP 169 [x.v] V (.string x.name):=by
 refine x169 ?_;exact⟨rfl,rfl⟩
theorem c212{V:Mem}{b1 b2 b3 s H t3 i:Nat}{l:Sl}{xs:List Iv}{x y:Iv}(h1:V b1=some (cell (.func (.func 169) #[] #[]) s))(h2:V b2=some (cell (.slice l.p l.n l.c) H))(h3:V b3=some (cell (.int .i64 i) t3))
  (u:Ab V l 6 (xs.map Iv.row)) (z:xs[i]?=some y):PP 212 [x.v,pv b1,pv b2,pv b3] V (.bool (decide (x.name=y.name))):=by
 refine x212 ?_;have N:=u.n_eq;have J:=(yj.1 z).1;have g:(i:Int)<(l.n:Int):=by omega
 obtain⟨Z,hm,r,G,Y,q,o,h⟩:=u.get g;rw[z]at r;cases r;exact⟨.func (.func 169) #[] #[],rfl,An h1,.func (.func 169) #[] #[],rfl,An h1,l,An h2,_,An h3,q,o,g,_,_,_,_,_,_,h,_,_,_,rfl,Tryz.call169,(c169 (x:=x)).callv (first:=[]) (caps:=[]) ⟨_,rfl,GP h,q,o,g,An h3,An h2,An h1,_,_,_,rfl,Tryz.call169,(c169 (x:=y)).callv (first:=[]) (caps:=[]) ⟨_,rfl,rfl,rfl⟩⟩⟩
theorem c168{V:Mem}{l:Sl}{xs:List Iv}{i:Nat}{y:Iv}(z:Ab V l 6 (xs.map Iv.row))(r:xs[i]?=some y):PP 168 [l.v,.int .i64 i,.func (.func 169) #[] #[]] V (.bool ((xs.take i).any λg=>decide (g.name=y.name))):=by
 refine Bn.mk (x168 (a:=l) (c:=.func (.func 169) #[] #[]) ?_);have o:=z.n_eq;have H:=z.cap;have q:=(yj.1 r).1;refine⟨⟨by omega,by omega,by omega⟩,λb1 n b2 u b3 h=>?_⟩;have s:=(Mem.sub_new n _).trans ((Mem.sub_new u _).trans (Mem.sub_new h (cell (.int .i64 i) 3)));simp only[Hq,sub0];refine(c211 (l:=⟨l.p,i,l.c⟩) (first:=[]) (caps:=[pv b1,pv b2,pv b3]) (Ab.pre (z.sub s) (by omega)) Tryz.call212 (λg=>decide (g.name=y.name)) (λx _=>c212 ((Mem.sub_new h _) _ _ ((Mem.sub_new u _) _ _ Au)) ((Mem.sub_new h _) _ _ Au) Au (z.sub s) r)).call ⟨_,rfl,rfl,s⟩
theorem c171{V:Mem}{x:Bd}:PP 171 [x.v] V (.string x.proc):=by
 refine x171 ?_;exact⟨rfl,rfl⟩
theorem c213{V:Mem}{b1 b2 b3 s H t3 i:Nat}{l:Sl}{xs:List Bd}{x y:Bd}(h1:V b1=some (cell (.func (.func 171) #[] #[]) s))(h2:V b2=some (cell (.slice l.p l.n l.c) H))(h3:V b3=some (cell (.int .i64 i) t3))
  (u:Ab V l 5 (xs.map Bd.row)) (z:xs[i]?=some y):PP 213 [x.v,pv b1,pv b2,pv b3] V (.bool (decide (x.proc=y.proc))):=by
 refine x213 ?_;have N:=u.n_eq;have J:=(yj.1 z).1;have g:(i:Int)<(l.n:Int):=by omega
 obtain⟨Z,hm,r,G,Y,q,o,h⟩:=u.get g;rw[z]at r;cases r;exact⟨.func (.func 171) #[] #[],rfl,An h1,.func (.func 171) #[] #[],rfl,An h1,l,An h2,_,An h3,q,o,g,_,_,_,_,_,h,_,_,_,rfl,Tryz.call171,(c171 (x:=x)).callv (first:=[]) (caps:=[]) ⟨_,rfl,GP h,q,o,g,An h3,An h2,An h1,_,_,_,rfl,Tryz.call171,(c171 (x:=y)).callv (first:=[]) (caps:=[]) ⟨_,rfl,rfl,rfl⟩⟩⟩
theorem c170{V:Mem}{l:Sl}{xs:List Bd}{i:Nat}{y:Bd}(z:Ab V l 5 (xs.map Bd.row))(r:xs[i]?=some y):PP 170 [l.v,.int .i64 i,.func (.func 171) #[] #[]] V (.bool ((xs.take i).any λg=>decide (g.proc=y.proc))):=by
 refine Bn.mk (x170 (a:=l) (c:=.func (.func 171) #[] #[]) ?_);have o:=z.n_eq;have H:=z.cap;have q:=(yj.1 r).1;refine⟨⟨by omega,by omega,by omega⟩,λb1 n b2 u b3 h=>?_⟩;have s:=(Mem.sub_new n _).trans ((Mem.sub_new u _).trans (Mem.sub_new h (cell (.int .i64 i) 3)));simp only[Hq,sub0];refine(c150 (l:=⟨l.p,i,l.c⟩) (first:=[]) (caps:=[pv b1,pv b2,pv b3]) (Ab.pre (z.sub s) (by omega)) Tryz.call213 (λg=>decide (g.proc=y.proc)) (λx _=>c213 ((Mem.sub_new h _) _ _ ((Mem.sub_new u _) _ _ Au)) ((Mem.sub_new h _) _ _ Au) Au (z.sub s) r)).call ⟨_,rfl,rfl,s⟩
end Go.Proofs
namespace Go.Proofs
open Go Go.Sx
theorem wrap_id{n:Nat}(h:n<=2147483648):IntKind.wrap .i64 (n:Int)=n:=Hd ⟨by show(-9223372036854775808:Int)<=n;omega,by show(n:Int)<=9223372036854775807;omega⟩
theorem Q7{P:Program}(w:World)(t u ty e:TypeId)(i:TypeInfo)(z:Value)(s:P.underlying t=some (.slice e))(hu:P.underlying u=some (.int .i64))(hi:P.info? e=some i)(H:i.zero=some z)
  (n:Nat) (J:0<n) (o:n<=2147483648) (G:i.bytes<=65536) (Z:0<i.size):
  (xL #[t,u] ty #[.slice none 0 0,.int .i64 n]).run P w=
   .ok (.slice (some ⟨w.heap.size,0,none⟩) n (grownCap w n 0 e)) (w.drew.alloc (.cells (xN z.cells n++xN z.cells (grownCap w n 0 e-n)) e)):=by
 have l:n≠0:=by omega
 have h:¬(9223372036854775807<(n:Int)):=by omega
 have N:n*i.bytes<=281474976710656:=Nat.le_trans (Nat.mul_le_mul o G) (by decide);have g:¬(281474976710656<Builtin.nextslicecap n 0*i.bytes):=by rw[nextslicecap_zero J];omega
 have y:¬(281474976710656<(n:Int)*(i.bytes:Int)):=by omega
 have r:¬((n:Int)<0):=by omega
 have q:i.size≠0:=by omega
 simp[xL,run_underlying s,run_underlying hu,sizeOf,typeInfo,zeroValue,hi,H,l,h,g,y,r,q,wrap_id o,asInt,asIntOf,Question.forced,run_firstCells_none,newRow,grownCap];simp_all[absurd,Nat.ne_of_gt,Nat.mul_pos]
theorem GenK.appendZ{P:Program}{V0 V:Mem}{t u e ty:TypeId}{i:TypeInfo}{z:Value}{sz:Nat}(N:P.underlying t=some (.slice e))(hu:P.underlying u=some (.int .i64))(hi:P.info? e=some i)(Z:i.zero=some z)(l:i.size=sz)(r:z.cells.size=sz)(o:0<sz)(s:i.bytes<=65536)
  {x y:Operand} {vals:Operand->Value} {n:Nat} (Y:vals x=.slice none 0 0) (W:vals y=.int .i64 n) (Q:0<n) (O:n<=2147483648) (G:V0.sub V) {q:Value->Mem->Prop}
  (A:∀b c V',Own V0 V' e sz ⟨some ⟨b,0,none⟩,0,c⟩ []->n<=c->c<=9223372036854775807->q (.slice (sa b) n c) V'):
  GenK P (.call {callee:=.builtin .append,args:=#[x,y],argTypes:=#[t,u]}) ty vals V q:=by
 intro w hw;subst l;have I:=Q7 (P:=P) w t u ty e i z N hu hi Z n Q O s o;obtain⟨g,M⟩:=As.new hw (.cells (xN z.cells n++xN z.cells (grownCap w n 0 e-n)) e);have H:=grownCap_ge w n 0 e;have J:=grownCap_le_maxLen w n 0 e (by simp only[maxLen];omega);refine⟨_,_,_,?_,M,A w.heap.size (grownCap w n 0 e) _ ⟨Mem.sub.new G g _,by simp,.inr ⟨w.heap.size,_,rfl,?_,Mem.set_same _ _ _,Nat.zero_le _,J,?_,by simp⟩⟩ H (by grind[maxLen])⟩
 ·unfold execOp;simp only[resolve,invoke,builtin,zN,zP,zO,List.map_toArray,List.map_cons,List.map_nil,Y,W,I]
 ·cases h:V0 w.heap.size with
  |none=>rfl
  |some x=>rw[G _ _ h]at g;cases g
 ·simp only[Array.size_append,size_zeroCells,r,<-Nat.add_mul];simp_all
section
variable{V:Mem}
theorem growF{V0:Mem}(g:V0.sub V){n:Nat}(i:n<=1000000):Tri xS 208 #[.slice none 0 0,.int .i64 n] V λr V'=>∃s:Sl,r=.returned (.slice s.p s.n s.c)/\Own V0 V' 138 2 s []:=by
 refine x208 (a:=⟨none,0,0⟩) ?_;refine⟨λh=>absurd h (by omega),λ_=>⟨⟨by simp,by simp⟩,⟨by simp<;>omega,by simp<;>omega⟩,λh=>⟨⟨by simp,by simp,by simp⟩,?_⟩,λh=>⟨⟨none,0,0⟩,rfl,Own.nil g _ _⟩⟩⟩;have u:xS.info? 138=some (ti 138):=by kernel_rfl
 have z:(ti 138).zero=some ((ti 138).zero.getD undef):=by kernel_rfl
 have h1:(ti 138).size=2:=by kernel_rfl
 have h2:((ti 138).zero.getD undef).cells.size=2:=by kernel_rfl
 have h3:(ti 138).bytes<=65536:=by rw[show(ti 138).bytes=32 by kernel_rfl];omega
 refine GenK.appendZ (n:=n) Tryz.underlying23 Tryz.underlying3 u z h1 h2 (by decide) h3 rfl ?_ (by simp at h;omega) (by omega) g λb c V' l q y=>⟨⟨some ⟨b,0,none⟩,n,c⟩,rfl,⟨by simp,by simp,by simp⟩,?_⟩;·rfl
 ·simp only[Hq];grind
theorem concatF{l:Sl}{ls:List (Sl×List Fld)}(h:Ab V l 1 (ls.map λx=>[x.1.v]))(q:∀x∈ls,Ab V x.1 2 (x.2.map Fld.row))(O:ls.length<=100)(o:∀x∈ls,x.2.length<=1000):
  Tri xS 164 #[.slice l.p l.n l.c] V λr V'=>∃s:Sl,r=.returned (.slice s.p s.n s.c)/\V.sub V'/\Ab V' s 2 ((ls.flatMap (·.2)).map Fld.row):=by
 refine x164 ?_;have X:=h.n_eq;refine Ej (mk:=.int .i64) BX ls.length (λi n V1=>V=V1/\0<=n/\n<=1000*i) ⟨rfl,by omega,by omega⟩ ?_;rintro i n V1 J A ⟨rfl,I,M⟩ N;refine⟨λg=>?_,λH=>?_⟩
 ·obtain⟨x,hm,F,Z,Y,W,Q,z⟩:=h.get g;have B:=(q x hm).n_eq;have L:=o x hm;exact⟨W,Q,g,x.1,z,⟨by omega,by omega⟩,λG=>absurd G (by omega),λ_=>⟨h.succ g,N Y _ _ ⟨rfl,by omega,by omega⟩⟩⟩
 ·obtain⟨k,rfl⟩:=Int.eq_ofNat_of_zero_le I;refine Tri.mono (growF (Mem.sub.refl V) (n:=k) (by omega)) ?_;rintro _ V1 ⟨s,rfl,y⟩;refine⟨s,rfl,?_⟩;refine Ej (mk:=λs:Sl=>.slice s.p s.n s.c) (b0:=s) Bb ls.length (λi s V2=>Own V V2 138 2 s (((ls.take i).flatMap (·.2)).flatMap Fld.row)/\((ls.take i).flatMap (·.2)).length<=1000*i) ⟨y,by simp⟩ ?_;rintro i s V2 J A ⟨y,M⟩ N;have h2:=h.sub y.sub;refine⟨λg=>?_,λH=>?_⟩
  ·obtain⟨x,hm,F,Z,Y,W,Q,z⟩:=h2.get g;have L:=o x hm;refine⟨W,Q,g,x.1,z,?_⟩;refine EU (s:=s) (u:=x.1) (xs:=(ls.take i).flatMap (·.2)) (ys:=x.2) rfl rfl y ((q x hm).sub y.sub) (by omega) λs' V' R=>⟨s',rfl,h2.succ g,N Y _ _ ?_⟩;grind
  ·have:=(h2.done H).2;rw[xc this]at y;exact⟨s,rfl,y.sub,ownF y⟩
end
end Go.Proofs
namespace Go.Proofs
open Go Go.Sx
attribute [local irreducible] Go.Sx.Tri
section
variable{V:Mem}{d:Ds}{c:Option Addr}{m:Option Nat}{sc:Sc}
theorem c215(h:BT V c d)(hv:EV d)(O:Fo V m sc)(G:sc.body=true){x:S}(B:S.Ok V x)(T:Db x.op x.s x.es x.ls.length x.xs.length=true){res:KB}:
  PP 215 [sV c m sc,x.v,.string res] V (.int .i64 (D9 d sc res x.op x.s x.es)):=by
 obtain⟨a6,a134,a2,a5,alen,A⟩:=Ow T;rw[S.v_eq];refine Bn.mk (x215 ?_);have hf:=KD B;refine⟨λC=>?_,λC=>?_⟩
 ·obtain⟨D,o,-⟩:=a6 C;rcases hf with⟨h',-⟩|⟨e0',r,E,hn,U,hp2,q⟩;·simp_all
  ·rw[o]at E;cases E;have I:=A D (by rw[o];simp);have M:=B.eOk D (by rw[o];simp);have hk:∀y∈D.k,ImpE V d c m sc y:=λy hy=>impExpr h hv O y (M.kids y hy) 2 (KG I y hy);refine⟨U,by omega,by omega,_,_,_,_,q,(impCall h D M (arity (Jz I)).2.2.2 hk).call ⟨_,_,rfl,?_⟩⟩;unfold D9 rawT HZ;rw[if_pos C,o];simp only[if_pos G];split;·exact⟨rfl,Mem.sub.refl _⟩
   ·exact⟨rfl,Mem.sub.refl _⟩
 ·unfold D9;rw[if_neg C];have hr:=B.eRows;refine Hg (mk:=.int .i64) (mc:=λs:Sl=>.slice s.p s.n s.c) 0 ⟨none,0,0⟩ Bb x.es.length (λi s V2=>∃acc,Own V V2 9 1 s (acc.flatMap CC)/\partsT d sc [] x.es=partsT d sc acc (x.es.drop i)/\acc.length=i) ⟨[],Own.nil (Mem.sub.refl _) _ _,rfl,rfl⟩ ?_;rintro i b s V2 J hi ⟨acc,g,z,N⟩ hJ;have H:=hr.sub g.sub;refine⟨λZ=>?_,λF=>?_⟩
  ·obtain⟨y,hm,hxy,hdr,hl,hpp,hz,q⟩:=H.get Z;rw[hdr,HV]at z;refine⟨hpp,hz,Z,_,_,_,_,q,(impExpr h hv O y (B.eOk y hm) 1 (A y hm) V2 g.sub).call ⟨_,_,rfl,λQ=>?_,λQ=>?_⟩⟩
   ·intro b1 hb1;rw[if_neg (λh=>h Q)]at z;refine IE (s:=s) (u:=⟨some ⟨b1,0,none⟩,1,1⟩) (xs:=acc) (ys:=[(Aw d sc y).1]) rfl rfl (g.new hb1 _) (IF Au) (by grind) λs' V' ho=>⟨s',rfl,H.succ Z,hJ hl _ _ _ ⟨_,ho,z,by simp[N]⟩⟩
   ·rw[if_pos Q]at z;rw[z];simp only[Q,ne_eq,not_false_eq_true,if_true];exact⟨by trivial,g.sub⟩
  ·have hge':=(H.done F).2;rw[(H.done F).1,ID]at z;rw[z];simp only[ne_eq,not_true_eq_false,if_false];have l:=ownS g;have hal:acc.length=x.es.length:=by omega
   have hsub:=g.sub;have h2:=h.sub g.sub;have sln:=l.n_eq;have Y:=λh:0<acc.length=>Fm l h;have at1:=λh:1<acc.length=>Fm l h;have key:∀X n:Int,X=n->(xV (.int .i64 n)=xV (.int .i64 X)/\V.sub V2):=λX n h=>by simp_all
   refine⟨λK=>?_,λK=>⟨λo2=>?_,λo2=>⟨λo3=>?_,λo3=>⟨λo4=>?_,λo4=>⟨λo5=>?_,λo5=>key _ _ ?_⟩⟩⟩⟩⟩
   ·obtain⟨b1,b2,b3⟩:=Y (by omega);obtain⟨mb,rfl,L⟩:=(O.sub g.sub).at_;rw[if_pos K,OA];refine Cd.str xf xh zero9 L ?_;cases R:Ck sc.vars x.s with
    |none=>
     rw[xe];exact⟨_,_,rfl,λh=>absurd h (by simp),λ_=>key _ _ (if_pos rfl)⟩
    |some t=>
     rw[xk];refine⟨t,_,rfl,λ_=>⟨b1,by omega,b2,_,b3,(c257 h2).call ⟨_,rfl,λW=>key _ _ ?_,λW=>key _ _ ?_⟩⟩,λh=>absurd rfl h⟩;·rw[if_neg (O.ne.some R),if_pos W]
     ·rw[if_neg (O.ne.some R),if_neg W]
   ·obtain⟨b1,b2,b3⟩:=Y (by omega);obtain⟨c1,c2,c3⟩:=at1 (by omega);rw[if_neg K,if_pos o2];refine⟨b1,by omega,b2,_,b3,(c258 h2 hv).call ⟨_,_,rfl,λW=>⟨c1,by omega,c2,_,c3,(c257 h2).call ⟨_,rfl,λhc=>key _ _ ?_,λhc=>key _ _ ?_⟩⟩,λW=>key _ _ ?_⟩⟩;·simp_all
    ·simp_all
    omega
   ·grind[AC]
   ·grind[AC]
   ·have h5:=a5 o5;rw[if_neg K,if_neg o2,if_neg (by omega),if_pos o5];refine⟨λhn=>?_,λhn=>?_⟩;·grind[sE]
    ·have Q:¬acc.length=0:=by omega
     obtain⟨b1,b2,b3⟩:=Y (by omega);rw[if_neg Q];refine⟨λE=>key _ _ (by grind[sE]),λE=>⟨b1,by omega,b2,_,b3,(c257 h2).call ⟨_,rfl,λW=>key _ _ ?_,λW=>key _ _ ?_⟩⟩⟩;·grind[sE]
     simp_all
   omega
def placeT(r:Int×Int):Int:=if r.2=0 then 0 else r.1
def Dg(V:Mem)(b t:Nat)(a:Int)(V1:Mem):Prop:=(V.set b (cell (.int .i64 a) t)).sub V1
theorem Dg.st{b t:Nat}{a k:Int}{V1:Mem}(h:Dg V b t a V1):Dg V b t k (V1.set b (cell (.int .i64 k) t)):=λq o g=>by
 by_cases e:q=b;·grind[Mem.set_same]
 ·rw[Mem.set_ne e]at g⊢;exact h q o (by rw[Mem.set_ne e];exact g)
theorem Dg.call{b t:Nat}{a k:Int}{V1 V2:Mem}(h:Dg V b t a V1)(h2:Dg V1 b t k V2):Dg V b t k V2:=(Dg.st h).trans h2
theorem Dg.cell{b t:Nat}{a:Int}{V1:Mem}(h:Dg V b t a V1):V1 b=some (Sx.cell (.int .i64 a) t):=h _ _ Au
theorem Dg.base{V0:Mem}{b t:Nat}{a:Int}{V1:Mem}(h:Dg V b t a V1)(g:V0.sub V)(u:V0 b=none):V0.sub V1:=(g.set u _).trans h
theorem Dg.other{b t q:Nat}{a:Int}{V1:Mem}{o:Obj}(h:Dg V b t a V1)(g:V q=some o)(u:q≠b):V1 q=some o:=h _ _ (by rw[Mem.set_ne u];exact g)
def ImpS(V0:Mem)(d:Ds)(c:Option Addr)(m:Option Nat)(sc:Sc)(res:KB)(b t:Nat)(l:List S):Prop:=∀(V:Mem)(sl:Sl)(n g:Int),V0.sub V->V b=some (cell (.int .i64 n) t)->Ab V0 sl 5 (l.map S.row)->(∀x∈l,S.Ok V0 x)->CD g l=true->0<=n->n+Cv l<=1000->
 Tri xS 173 #[sV c m sc,.slice sl.p sl.n sl.c,.string res,pv b] V λr V'=>r=.returned (.tuple #[.int .i64 (placeT (AF d sc res n l)),.int .i64 (AF d sc res n l).2])/\∃h,Dg V b t h V'/\((AF d sc res n l).2=0->h=(AF d sc res n l).1)
theorem impStep{V0:Mem}{b t:Nat}{res:KB}(E:V0 b=none)(h:BT V0 c d)(hv:EV d)(hs:Fo V0 m sc)(W:sc.body=true){l:List S}(hk:∀x∈l,ImpS V0 d c m sc res b t x.ls/\ImpS V0 d c m sc res b t x.xs):ImpS V0 d c m sc res b t l:=by
 intro V sl n dd K T U hok M hn0 hn1;refine x173 ?_;refine DJ l.length (λi V1=>∃a,Dg V b t a V1/\0<=a/\a+Cv (l.drop i)<=1000/\AF d sc res n l=AF d sc res a (l.drop i)) ⟨n,by grind[Dg,Mem.set_eq,Mem.sub.refl],hn0,hn1,rfl⟩ ?_;rintro i b' c' V1 J hi ⟨a,N,ha0,ha1,Z⟩ hJ;have o:=N.base K E;have u:=N.cell;have bad:∀{V2:Mem}(p e k:Int),Dg V b t k V2->e≠0->AF d sc res n l=(p,e)->(xV (.tuple #[.int .i64 p,.int .i64 e])=xV (.tuple #[.int .i64 (placeT (AF d sc res n l)),.int .i64 (AF d sc res n l).2])/\∃C,Dg V b t C V2/\((AF d sc res n l).2=0->C=(AF d sc res n l).1)):=λ{V2} p e k h1 h2 h3=>by
  rw[h3];unfold placeT;grind
 refine⟨λQ=>?_,λhge=>?_⟩
 ·obtain⟨x,hm,hx,F,hl,hpp,hz,H⟩:=(U.sub o).get Q;have H:=S.row_get H;have G:=hok x hm;obtain⟨hsh,hk1,hk2⟩:=okS_shape (Mr M x hm);rw[F,Mt,szS_eq]at ha1;rw[F,KF,stT_eq]at Z;have hC:=Dg.st (k:=a+1) N;have O:=hC.base K E;have cs:=c215 (h.sub O) hv (hs.sub O) W (G.sub O) hsh (res:=res);rw[S.v_eq]at cs;refine⟨hpp,hz,Q,_,_,_,_,_,H,by simp,_,An u,by simp,_,An u,⟨by omega,by omega⟩,by simp,Ak.cell u (cs.call ⟨_,rfl,λh0=>?_,λh0=>?_⟩)⟩
  ·have e1:¬(D9 d sc res x.op x.s x.es≠0):=λh=>h h0;rw[if_neg e1]at Z;intro b1 hb1;have L:b1≠b:=λe=>by grind[Mem.set_same]
   have hC2:Dg V b t (a+1) _:=Mem.sub.new hC hb1 (.cells #[.slice x.ll.p x.ll.n x.ll.c,.slice x.xl.p x.xl.n x.xl.c] 133 (0,0));have y:=HY d sc res (a+1) x.ls;refine DJ 2 (λj V2=>∃k,Dg V b t k V2/\V2 b1=some (.cells #[.slice x.ll.p x.ll.n x.ll.c,.slice x.xl.p x.xl.n x.xl.c] 133 (0,0))/\((j=0/\k=a+1)∨(j=1/\(AF d sc res (a+1) x.ls).2=0/\k=(AF d sc res (a+1) x.ls).1)∨(j=2/\(AF d sc res (a+1) x.ls).2=0/\(AF d sc res (AF d sc res (a+1) x.ls).1 x.xs).2=0/\k=(AF d sc res (AF d sc res (a+1) x.ls).1 x.xs).1))) ⟨a+1,hC2,Mem.set_same _ _ _,.inl ⟨rfl,rfl⟩⟩ ?_;rintro j b'' c'' V2 J1 hj ⟨k,g,r,R⟩ X;have Y:=g.base K E;refine⟨λhj2=>?_,λhj2=>?_⟩
   ·rcases R with⟨rfl,rfl⟩|⟨rfl,q,rfl⟩|⟨rfl,-⟩
    ·refine⟨by simp[Aa],by omega,by omega,x.ll,Aj r 0 1 (by simp),Tri.mono ((hk x hm).1 V2 x.ll (a+1) (dd+1) Y g.cell G.lRows G.lOk hk1 (by omega) (by omega)) ?_⟩;rintro _ V3 ⟨rfl,C,z,A⟩;refine⟨_,_,rfl,λh3=>?_,λh3=>?_⟩
     ·have:=A h3;subst this;exact⟨⟨by omega,by omega⟩,X (by omega) _ _ _ ⟨_,g.call z,z.other r L,.inr (.inl ⟨rfl,h3,rfl⟩)⟩⟩
     ·have I:(AF d sc res (a+1) x.ls).2≠0:=h3;rw[if_pos I,if_pos I]at Z;refine bad _ _ _ (g.call z) I ?_;grind
    ·have I:¬(AF d sc res (a+1) x.ls).2≠0:=λh=>h q;rw[if_neg I]at Z;have y:=y q;refine⟨by simp[Aa],by omega,by omega,x.xl,Aj r 1 1 (by simp),Tri.mono ((hk x hm).2 V2 x.xl _ (dd+1) Y g.cell G.xRows G.xOk hk2 (by omega) (by omega)) ?_⟩;rintro _ V3 ⟨rfl,C,z,A⟩;refine⟨_,_,rfl,λh3=>?_,λh3=>?_⟩
     ·have:=A h3;subst this;exact⟨⟨by omega,by omega⟩,X (by omega) _ _ _ ⟨_,g.call z,z.other r L,.inr (.inr ⟨rfl,q,h3,rfl⟩)⟩⟩
     ·have D:(AF d sc res (AF d sc res (a+1) x.ls).1 x.xs).2≠0:=h3;rw[if_pos D]at Z;refine bad _ _ _ (g.call z) D ?_;grind
    ·omega
   ·rcases R with⟨rfl,-⟩|⟨rfl,-⟩|⟨rfl,q,B,rfl⟩;·omega
    ·omega
    ·have I:¬(AF d sc res (a+1) x.ls).2≠0:=λh=>h q;have D:¬(AF d sc res (AF d sc res (a+1) x.ls).1 x.xs).2≠0:=λh=>h B;rw[if_neg I,if_neg D]at Z;have y:=y q;have hn2':=HY d sc res _ x.xs B;exact⟨(U.sub o).succ Q,hJ hl _ _ _ ⟨_,g,by omega,by omega,Z⟩⟩
  grind
 ·rw[((U.sub o).done hge).1,stsT_nil]at Z;rw[Z];exact⟨rfl,a,N,λ_=>rfl⟩
theorem impStmts{V0:Mem}{b t:Nat}{res:KB}(u:V0 b=none)(h:BT V0 c d)(hv:EV d)(z:Fo V0 m sc)(g:sc.body=true)(l:List S):ImpS V0 d c m sc res b t l:=by
 have y:∀s:S,ImpS V0 d c m sc res b t s.ls/\ImpS V0 d c m sc res b t s.xs:=by
  intro s;induction s using S.ind with
  |h s i n=>grind[impStep]
 grind[impStep]
theorem c205{b t:Nat}{f x:Fld}(h:V b=some (.cells #[.string f.name,.string f.ty] t (0,0))):PP 205 [x.v,pv b] V (.bool (decide (x.name=f.name))):=by
 refine x205 ?_;exact⟨by simp,_,Aj h 0 1 (by simp),rfl,rfl⟩
theorem c158(h:BT V c d){l:Sl}{xs:List Fld}(Z:Ab V l 2 (xs.map Fld.row)):PP 158 [.pointer c,l.v] V (.int .i64 (Cw d xs)):=by
 refine Bn.mk (x158 ?_);unfold Cw;generalize I:(λi f=>if BN d xs i f≠0 then some (BN d xs i f)else none)=fn;refine AE xs.length (λk V1=>V.sub V1/\Ao fn 0 xs=Ao fn k (xs.drop k)) ⟨Mem.sub.refl _,rfl⟩ ?_;rintro k b V1 J M ⟨Y,r⟩ W;have u:=Z.sub Y;refine⟨λq=>?_,λq=>?_⟩
 ·obtain⟨g,Q,O,o,s,H,G,z⟩:=u.get q;rw[o]at r;have F:=u.cap;refine⟨H,G,q,_,_,z,⟨by omega,by omega,by omega⟩,λb1 N=>?_⟩;have A:=Mem.sub_new N (.cells #[.string g.name,.string g.ty] 138 (0,0));have y:=Y.trans A;simp only[Hq,sub0];have key:∀X n:Int,X=n->(xV (.int .i64 n)=xV (.int .i64 X)/\V.sub (V1.set b1 (.cells #[.string g.name,.string g.ty] 138 (0,0)))):=λX n h=>by simp_all
  refine(IA (l:=⟨l.p,k,l.c⟩) (first:=[]) (caps:=[pv b1]) (Ab.pre (Z.sub y) (by omega)) Tryz.call205 (λx=>decide (x.name=g.name)) (λx _=>c205 (f:=g) Au)).call ⟨_,rfl,λh1=>?_,λh1=>⟨by simp[Aa],_,Aj Au 1 1 (by simp),(c161 (h.sub y)).call ⟨_,rfl,λh2=>?_,λh2=>?_⟩⟩⟩
  ·have e:BN d xs k g=10:=by grind[BN]
   rw[r,BA (b:=10) (by grind)];grind
  ·have e:BN d xs k g=0:=by grind[BN]
   exact⟨u.succ q,W s _ _ ⟨y,by rw[r,BS (by grind)]⟩⟩
  ·have e:BN d xs k g=9:=by grind[BN]
   rw[r,BA (b:=9) (by grind)];grind
 ·rw[(u.done q).1,Ao]at r;simp_all
def FltAt(V:Mem)(p:Option Addr)(o:Option Flt):Prop:=match o with
 |none=>p=none
 |some r=>∃b t,p=some ⟨b,0,none⟩/\V b=some (.cells #[.string r.1,.int .i64 r.2.1,.int .i64 r.2.2] t (0,0))
def FltC(f:FuncId)(args:List Value)(V:Mem)(o:Option Flt):Prop:=Tri xS f args.toArray V λr V'=>∃p,r=.returned (.pointer p)/\V.sub V'/\FltAt V' p o
theorem c175(h:BT V c d)(hv:EV d)(y:Fo V m sc){e:E}(i:E.Ok V e)(u:Cs 1 e=true){s t:KB}:
  FltC 175 [sV c m sc,.string s,e.v,.string t] V (if BB d sc e t≠0 then some (s,-1,BB d sc e t)else none):=by
 refine x175 ?_;unfold BB;refine(impExpr h hv y e i 1 u V (Mem.sub.refl _)).call ⟨_,_,rfl,λg=>⟨λh1=>?_,λh1=>λb z=>?_⟩,λg=>λb z=>?_⟩;·simp only[g,h1,ne_eq,not_true_eq_false,if_false,if_true];exact⟨_,rfl,Mem.sub.refl _,rfl⟩
 ·simp only[g,h1,ne_eq,not_true_eq_false,if_false];exact⟨_,rfl,Mem.sub_new z _,b,_,rfl,Mem.set_same _ _ _⟩
 ·simp only[g,ne_eq,not_false_eq_true,if_true];exact⟨_,rfl,Mem.sub_new z _,b,_,rfl,Mem.set_same _ _ _⟩
end
def Gf:Prop:=∀(V:Mem)(c:Option Addr)(d:Ds)(body:Bool)(l:Sl)(ls:List (Sl×List Fld)),BT V c d->Ab V l 1 (ls.map λx=>[x.1.v])->(∀x∈ls,Ab V x.1 2 (x.2.map Fld.row))->
 Tri xS 214 #[.pointer c,.bool body,.slice l.p l.n l.c] V λr V'=>∃mb,r=.returned (.agg #[.pointer c,.map (some mb),.bool body])/\V.sub V'/\V mb=none/\By V' mb (λk=>(Ck (ls.flatMap (·.2)++d.globals) k).map Value.string)
def NewC:Prop:=∀(V:Mem)(d:Ds),Ds.Ok V d->Tri xS 80 #[d.v] V λr V'=>∃c,r=.returned (.pointer c)/\V.sub V'/\BT V' c d
section
variable{V:Mem}{d:Ds}{c:Option Addr}
theorem KJ{a b:List Fld}(h:NE a)(k:NE b):NE (a++b):=λf u=>by
 rcases List.mem_append.1 u with g|g;·exact h f g
 ·exact k f g
theorem impInProc(y:Gf)(h:BT V c d)(hv:EV d){p:Pr}(hm:p∈d.procs)(u:Pr.Ok V p):Tri xS 172 #[.pointer c,p.v] V λr V'=>∃m,r=.returned (sV c m (Av d p))/\V.sub V'/\Fo V' m (Av d p):=by
 refine x172 ?_;intro b i;have g:=Mem.sub_new i (.cells #[.slice p.ps.p p.ps.n p.ps.c,.slice p.ls.p p.ls.n p.ls.c] 23 (0,0));refine Tri.mono (y _ c d true ⟨some ⟨b,0,none⟩,2,2⟩ [(p.ps,p.params),(p.ls,p.locals)] (h.sub g) (Ab.cells (xs:=[(p.ps,p.params),(p.ls,p.locals)]) (row:=λx=>[x.1.v]) Au rfl (λ_=>rfl) rfl (by simp)) ?_) ?_
 ·intro x z;simp only[yH,xQ,or_false]at z;rcases z with rfl|rfl;·exact u.params.sub g
  ·exact u.locals.sub g
 ·rintro _ V' ⟨mb,rfl,h1,h2,h3⟩;refine⟨_,_,_,rfl,some mb,rfl,g.trans h1,⟨mb,rfl,h3.congr λk=>?_⟩,KJ (KJ (hv.params p hm).1 (hv.params p hm).2) hv.globals⟩;simp[Av]
theorem impInBound(z:Gf)(h:BT V c d)(hv:EV d){p:Pr}(hm:p∈d.procs)(y:Pr.Ok V p):Tri xS 176 #[.pointer c,p.v] V λr V'=>∃m,r=.returned (sV c m (EE d p))/\V.sub V'/\Fo V' m (EE d p):=by
 refine x176 ?_;intro b i;have g:=Mem.sub_new i (.cells #[.slice p.ps.p p.ps.n p.ps.c] 23 (0,0));refine Tri.mono (z _ c d false ⟨some ⟨b,0,none⟩,1,1⟩ [(p.ps,p.params)] (h.sub g) (Ab.cells (xs:=[(p.ps,p.params)]) (row:=λx=>[x.1.v]) Au rfl (λ_=>rfl) rfl (by simp)) ?_) ?_
 ·intro x u;simp only[yH,xQ,or_false]at u;rcases u with rfl;exact y.params.sub g
 ·rintro _ V' ⟨mb,rfl,h1,h2,h3⟩;refine⟨_,_,_,rfl,some mb,rfl,g.trans h1,⟨mb,rfl,h3.congr λk=>?_⟩,KJ (hv.params p hm).1 hv.globals⟩;simp[EE]
theorem Mz(z:Gf)(h:BT V c d)(hv:EV d){t:KB}:Tri xS 174 #[.pointer c,.string t] V λr V'=>∃m,r=.returned (sV c m (BG d t))/\V.sub V'/\Fo V' m (BG d t):=by
 refine x174 ?_;refine Tri.mono (z V c d false ⟨none,0,0⟩ [] h Ab.nil (by simp)) ?_;rintro _ V' ⟨mb,rfl,h1,h2,h3⟩;refine⟨_,_,_,rfl,λg=>?_,λg=>?_⟩
 ·refine⟨some mb,rfl,h1,⟨mb,rfl,h3.congr λk=>?_⟩,?_⟩;·grind[BG,sE]
  ·unfold BG sE;rw[if_pos g];exact hv.globals
 ·refine Cr.str xf xh h3 λo y=>?_;refine⟨some mb,rfl,h1.set h2 _,⟨mb,rfl,y.congr λk=>?_⟩,?_⟩
  ·unfold BG sE;rw[if_neg g];unfold Ck;simp only[List.flatMap_nil,List.nil_append,List.cons_append,xb];rw[show(⟨#[116,104,105,115]⟩:KB)=sThisF from rfl];grind
  ·unfold BG sE;rw[if_neg g];refine KJ (λf u=>?_) hv.globals;simp only[yH,xQ,or_false]at u;subst u;exact g
theorem EG{V1:Mem}{X:Option Flt}{s:KB}{n e:Int}(g:X=some (s,n,e))(h:V.sub V1):Ag [(.string s),(.int .i64 n),(.int .i64 e)] 187 V1 λu V2=>(∃p,xV (.pointer (Aa u 0))=.returned (.pointer p)/\V.sub V2/\FltAt V2 p X):=λb z=>by
 subst g;exact⟨some ⟨b,0,none⟩,rfl,h.trans (Mem.sub_new z _),b,_,rfl,Mem.set_same _ _ _⟩
theorem oneT_cases(d:Ds)(l:List Fld)(i:Nat)(f:Fld):((l.take i).any (λg=>decide (g.name=f.name))=true/\BN d l i f=10)∨(¬(l.take i).any (λg=>decide (g.name=f.name))=true/\Bt d f.ty=true/\BN d l i f=0)∨(¬(l.take i).any (λg=>decide (g.name=f.name))=true/\¬Bt d f.ty=true/\BN d l i f=9):=by
 grind[BN,Bt,inr]
theorem impTypes(h:BT V c d):FltC 119 [.pointer c] V (Ge d):=by
 refine x119 ?_;unfold Ge;refine⟨h.nn,h.nn,Al h.nn,d.ts,h.cell (i:=1) rfl,?_⟩;unfold types1;generalize Z:(λi (t:Ty)=>if(d.types.take i).any (λg=>decide (g.name=t.name))=true then some ((t.name,-1,10):Flt)else none)=F1;refine AE d.types.length (λk V1=>V=V1/\Ao F1 0 d.types=Ao F1 k (d.types.drop k)) ⟨rfl,rfl⟩ ?_;rintro k b V1 J N ⟨rfl,u⟩ n;have rf:=Mem.sub.refl V;refine⟨λz=>?_,λz=>?_⟩
 ·obtain⟨g,hm,H,l,r,q,o,y⟩:=h.ok.types.get z;rw[l]at u;refine⟨q,o,z,_,_,y,h.nn,h.nn,Al h.nn,d.ts,h.cell (i:=1) rfl,(c156 h.ok.types H).call ⟨_,rfl,λh1=>EG ?_ rf,λh1=>⟨h.ok.types.succ z,n r _ _ ⟨rfl,?_⟩⟩⟩⟩;·rw[u,BA (b:=(g.name,-1,10)) (by grind)];rfl
  ·rw[u,BS (by grind)]
 rw[(h.ok.types.done z).1,Ao]at u;rw[u,xm];refine⟨h.nn,h.nn,Al h.nn,d.ts,h.cell (i:=1) rfl,?_⟩;unfold types2;generalize Y:(λ(_:Nat) (t:Ty)=>if Cw d t.fields≠0 then some ((t.name,-1,Cw d t.fields):Flt)else none)=F2;refine AE d.types.length (λk V1=>V=V1/\Ao F2 0 d.types=Ao F2 k (d.types.drop k)) ⟨rfl,rfl⟩ ?_;rintro k b V1 J N ⟨rfl,u⟩ n;refine⟨λz=>?_,λz=>?_⟩
 ·obtain⟨g,hm,H,l,r,q,o,y⟩:=h.ok.types.get z;rw[l]at u;refine⟨q,o,z,_,_,y,(c158 h (h.ok.typesOk g hm).fields).call ⟨_,rfl,λh1=>⟨h.ok.types.succ z,n r _ _ ⟨rfl,?_⟩⟩,λh1=>EG ?_ rf⟩⟩;·rw[u,BS (by grind)]
  ·rw[u,BA (b:=(g.name,-1,Cw d g.fields)) (by grind)];rfl
 rw[(h.ok.types.done z).1,Ao]at u;rw[u,xm];refine⟨h.nn,h.nn,Al h.nn,d.gs,h.cell (i:=2) rfl,?_⟩;unfold types3;generalize W:(λi (f:Fld)=>if BN d d.globals i f≠0 then some ((f.name,-1,BN d d.globals i f):Flt)else none)=F3;refine AE d.globals.length (λk V1=>V=V1/\Ao F3 0 d.globals=Ao F3 k (d.globals.drop k)) ⟨rfl,rfl⟩ ?_;rintro k b V1 J N ⟨rfl,u⟩ n;refine⟨λz=>?_,λz=>?_⟩
 ·obtain⟨g,hm,H,l,r,q,o,y⟩:=h.ok.globals.get z;rw[l]at u;have G:=oneT_cases d d.globals k g;refine⟨q,o,z,_,_,y,h.nn,h.nn,Al h.nn,d.gs,h.cell (i:=2) rfl,(c159 h.ok.globals H).call ⟨_,rfl,λh1=>EG ?_ rf,λh1=>(c161 h).call ⟨_,rfl,λh2=>⟨h.ok.globals.succ z,n r _ _ ⟨rfl,?_⟩⟩,λh2=>EG ?_ rf⟩⟩⟩
  ·rcases G with⟨_,e⟩|⟨s,_⟩|⟨s,_⟩;·rw[u,BA (b:=(g.name,-1,10)) (by grind)]
   ·grind
   simp_all
  ·rcases G with⟨s,_⟩|⟨_,_,e⟩|⟨_,s,_⟩;·grind
   ·rw[u,BS (by grind)]
   simp_all
  ·rcases G with⟨s,_⟩|⟨_,s,_⟩|⟨_,_,e⟩;·grind
   ·grind
   ·rw[u,BA (b:=(g.name,-1,9)) (by grind)]
 rw[(h.ok.globals.done z).1,Ao]at u;rw[u];exact⟨none,rfl,rf,rfl⟩
theorem impHeads(h:BT V c d)(G:Small d):FltC 120 [.pointer c] V (E5 d):=by
 refine x120 ?_;unfold E5;refine⟨h.nn,h.nn,Al h.nn,d.ps,h.cell (i:=3) rfl,?_⟩;generalize q:(λi (p:Pr)=>if(d.procs.take i).any (λg=>decide (g.name=p.name))=true then some ((p.name,-1,10):Flt)else if Cw d (p.params++p.locals)≠0 then some (p.name,-1,Cw d (p.params++p.locals))else if p.result≠sE/\Bt d p.result=false then some (p.name,-1,9)else none)=F1;refine AE d.procs.length (λk V1=>V.sub V1/\Ao F1 0 d.procs=Ao F1 k (d.procs.drop k)) ⟨Mem.sub.refl _,rfl⟩ ?_;rintro k b V1 J X ⟨s,y⟩ A;have h1:=h.sub s;refine⟨λr=>?_,λr=>?_⟩
 ·obtain⟨g,hm,H,N,I,L,R,o⟩:=h1.ok.procs.get r;rw[N]at y;have M:=h1.ok.procsOk g hm;have B:=G.2 g hm;refine⟨L,R,r,_,_,_,_,_,o,h.nn,h.nn,Al h.nn,d.ps,h1.cell (i:=3) rfl,(c162 h1.ok.procs H).call ⟨_,rfl,λZ=>EG ?_ s,λZ=>?_⟩⟩;·rw[y,BA (b:=(g.name,-1,10)) (by grind)]
  intro b1 Y;have W:=Mem.sub_new Y (.cells #[.slice g.ps.p g.ps.n g.ps.c,.slice g.ls.p g.ls.n g.ls.c] 23 (0,0));refine Tri.mono (concatF (l:=⟨some ⟨b1,0,none⟩,2,2⟩) (ls:=[(g.ps,g.params),(g.ls,g.locals)]) (Ab.cells (xs:=[(g.ps,g.params),(g.ls,g.locals)]) (row:=λx=>[x.1.v]) Au rfl (λ_=>rfl) rfl (by simp)) ?_ (by simp) ?_) ?_
  ·intro x H;simp only[yH,xQ,or_false]at H;rcases H with rfl|rfl;·exact M.params.sub W
   ·exact M.locals.sub W
  ·simp_all
  rintro _ V2 ⟨s',rfl,Q,z⟩;have u:=s.trans (W.trans Q);have O:([(g.ps,g.params),(g.ls,g.locals)]:List (Sl×List Fld)).flatMap (·.2)=g.params++g.locals:=by simp
  rw[O]at z;refine⟨s',rfl,(c158 (h.sub u) z).call ⟨_,rfl,λh2=>?_,λh2=>EG ?_ u⟩⟩
  ·have F:¬(Cw d (g.params++g.locals)≠0):=λe=>e h2;refine⟨λh3=>⟨h1.ok.procs.succ r,A I _ _ ⟨u,?_⟩⟩,λh3=>(c161 (h.sub u)).call ⟨_,rfl,λh4=>⟨h1.ok.procs.succ r,A I _ _ ⟨u,?_⟩⟩,λh4=>EG ?_ u⟩⟩;·rw[y,BS (by rw[<-q];exact(if_neg Z).trans ((if_neg F).trans (if_neg λe=>e.1 h3)))]
   ·rw[y,BS (by grind)]
   ·rw[y,BA (b:=(g.name,-1,9)) (by rw[<-q];exact(if_neg Z).trans ((if_neg F).trans (if_pos ⟨h3,eq_false_of_ne_true h4⟩)))]
  ·rw[y,BA (b:=(g.name,-1,Cw d (g.params++g.locals))) (by grind)]
 rw[(h1.ok.procs.done r).1,Ao]at y;rw[y];exact⟨none,rfl,s,rfl⟩
end
section
variable{V:Mem}{d:Ds}{c:Option Addr}
theorem impForm(h:BT V c d):FltC 121 [.pointer c] V (DS d):=by
 refine x121 ?_;unfold DS;have rf:=Mem.sub.refl V;refine⟨h.nn,h.nn,Al h.nn,d.ms,h.cell (i:=4) rfl,?_⟩;unfold form1;generalize Y:(λi (m:Ms)=>if(d.measures.take i).any (λg=>decide (g.name=m.name))=true then some ((m.name,-1,10):Flt)else if Cg d m.ty=false then some (m.name,-1,9)else none)=F1;refine AE d.measures.length (λk V1=>V=V1/\Ao F1 0 d.measures=Ao F1 k (d.measures.drop k)) ⟨rfl,rfl⟩ ?_;rintro k b V1 J N ⟨rfl,u⟩ n;refine⟨λz=>?_,λz=>?_⟩
 ·obtain⟨g,hm,s,l,r,q,o,y⟩:=h.ok.measures.get z;rw[l]at u;refine⟨q,o,z,_,_,_,_,_,_,_,y,h.nn,h.nn,Al h.nn,d.ms,h.cell (i:=4) rfl,(c165 h.ok.measures s).call ⟨_,rfl,λh1=>EG ?_ rf,λh1=>(c167 h).call ⟨_,rfl,λh2=>⟨h.ok.measures.succ z,n r _ _ ⟨rfl,?_⟩⟩,λh2=>EG ?_ rf⟩⟩⟩;·rw[u,BA (b:=(g.name,-1,10)) (by grind)];rfl
  ·rw[u,BS (by grind)]
  ·rw[u,BA (b:=(g.name,-1,9)) (by grind)];rfl
 rw[(h.ok.measures.done z).1,Ao]at u;rw[u,xm];refine⟨h.nn,h.nn,Al h.nn,d.is,h.cell (i:=5) rfl,?_⟩;unfold form2;generalize H:(λi (m:Iv)=>if(d.invs.take i).any (λg=>decide (g.name=m.name))=true then some ((m.name,-1,10):Flt)else if m.ty≠sE/\Cg d m.ty=false then some (m.name,-1,9)else none)=F2;refine AE d.invs.length (λk V1=>V=V1/\Ao F2 0 d.invs=Ao F2 k (d.invs.drop k)) ⟨rfl,rfl⟩ ?_;rintro k b V1 J N ⟨rfl,u⟩ n;refine⟨λz=>?_,λz=>?_⟩
 ·obtain⟨g,hm,s,l,r,q,o,y⟩:=h.ok.invs.get z;rw[l]at u;refine⟨q,o,z,_,_,_,_,_,_,y,h.nn,h.nn,Al h.nn,d.is,h.cell (i:=5) rfl,(c168 h.ok.invs s).call ⟨_,rfl,λh1=>EG ?_ rf,λh1=>⟨λh3=>⟨h.ok.invs.succ z,n r _ _ ⟨rfl,?_⟩⟩,λh3=>(c167 h).call ⟨_,rfl,λh2=>⟨h.ok.invs.succ z,n r _ _ ⟨rfl,?_⟩⟩,λh2=>EG ?_ rf⟩⟩⟩⟩;·rw[u,BA (b:=(g.name,-1,10)) (by grind)];rfl
  ·rw[u,BS (by rw[<-H];exact(if_neg h1).trans (if_neg λe=>e.1 h3))]
  ·rw[u,BS (by grind)]
  ·rw[u,BA (b:=(g.name,-1,9)) (by rw[<-H];exact(if_neg h1).trans (if_pos ⟨h3,eq_false_of_ne_true h2⟩))];rfl
 rw[(h.ok.invs.done z).1,Ao]at u;rw[u,xm];refine⟨h.nn,h.nn,Al h.nn,d.qs,h.cell (i:=6) rfl,?_⟩;unfold form3;generalize G:(λ(_:Nat) (m:Po)=>if m.ty≠sE/\Cg d m.ty=false then some ((sPot,-1,9):Flt)else none)=F3;refine AE d.pots.length (λk V1=>V=V1/\Ao F3 0 d.pots=Ao F3 k (d.pots.drop k)) ⟨rfl,rfl⟩ ?_;rintro k b V1 J N ⟨rfl,u⟩ n;refine⟨λz=>?_,λz=>?_⟩
 ·obtain⟨g,hm,s,l,r,q,o,y⟩:=h.ok.pots.get z;rw[l]at u;refine⟨q,o,z,_,_,_,_,_,y,λh3=>⟨h.ok.pots.succ z,n r _ _ ⟨rfl,?_⟩⟩,λh3=>(c167 h).call ⟨_,rfl,λh2=>⟨h.ok.pots.succ z,n r _ _ ⟨rfl,?_⟩⟩,λh2=>EG ?_ rf⟩⟩;·rw[u,BS (by rw[<-G];exact if_neg λe=>e.1 h3)]
  ·rw[u,BS (by grind)]
  ·rw[u,BA (b:=(sPot,-1,9)) (by rw[<-G];exact if_pos ⟨h3,eq_false_of_ne_true h2⟩)];rfl
 rw[(h.ok.pots.done z).1,Ao]at u;rw[u,xm];refine⟨h.nn,h.nn,Al h.nn,d.bs,h.cell (i:=7) rfl,?_⟩;unfold form4;generalize W:(λi (b:Bd)=>if(Ch d b.proc).isNone=true then some ((b.proc,-1,9):Flt)else if(d.bounds.take i).any (λg=>decide (g.proc=b.proc))=true then some (b.proc,-1,10)else none)=F4;refine AE d.bounds.length (λk V1=>V=V1/\Ao F4 0 d.bounds=Ao F4 k (d.bounds.drop k)) ⟨rfl,rfl⟩ ?_;rintro k b V1 J N ⟨rfl,u⟩ n;refine⟨λz=>?_,λz=>?_⟩
 ·obtain⟨g,hm,s,l,r,q,o,y⟩:=h.ok.bounds.get z;rw[l]at u;obtain⟨mt,Q,O⟩:=h.procs;refine⟨q,o,z,_,_,_,_,_,y,h.nn,h.nn,_,Q,Cd.str xg xh zero142 O ?_⟩;cases Z:Ch d g.proc with
  |none=>
   refine⟨_,⟨none,0,0⟩,_,⟨none,0,0⟩,⟨none,0,0⟩,_,rfl,λh=>absurd h (by simp),λ_=>EG ?_ rf⟩;rw[u,BA (b:=(g.proc,-1,9)) (by grind)]
  |some p=>
   have A:¬(Ch d g.proc).isNone=true:=by rw[Z];simp
   refine⟨_,p.ps,_,p.ls,p.bs,_,rfl,λ_=>⟨h.nn,h.nn,Al h.nn,d.bs,h.cell (i:=7) rfl,(c170 h.ok.bounds s).call ⟨_,rfl,λh1=>EG ?_ rf,λh1=>⟨h.ok.bounds.succ z,n r _ _ ⟨rfl,?_⟩⟩⟩⟩,λh=>absurd rfl h⟩;·rw[u,BA (b:=(g.proc,-1,10)) (by grind)]
   ·rw[u,BS (by grind)]
 rw[(h.ok.bounds.done z).1,Ao]at u;rw[u];exact⟨none,rfl,rf,rfl⟩
theorem impBodies(W:Gf)(h:BT V c d)(hv:EV d)(Q:IH d):FltC 122 [.pointer c] V (E6 d):=by
 refine x122 ?_;unfold E6;refine⟨h.nn,h.nn,Al h.nn,d.ps,h.cell (i:=3) rfl,?_⟩;generalize O:(λ(_:Nat) (p:Pr)=>if(AF d (Av d p) p.result 0 p.body).2≠0 then some ((p.name,(AF d (Av d p) p.result 0 p.body).1,(AF d (Av d p) p.result 0 p.body).2):Flt)else none)=F1;refine AE d.procs.length (λk V1=>V.sub V1/\Ao F1 0 d.procs=Ao F1 k (d.procs.drop k)) ⟨Mem.sub.refl _,rfl⟩ ?_;rintro k b V1 J L ⟨q,y⟩ A;have h1:=h.sub q;refine⟨λl=>?_,λl=>?_⟩
 ·obtain⟨g,hm,R,o,I,s,M,n⟩:=h1.ok.procs.get l;rw[o]at y;have H:=h1.ok.procsOk g hm;refine⟨s,M,l,_,_,_,_,_,n,Tri.mono (impInProc W h1 hv hm H) ?_⟩;rintro _ V2 ⟨m,rfl,u,G⟩;refine⟨_,_,_,rfl,λb1 z=>?_⟩;obtain⟨N,F⟩:=Q.ps g hm;have Y:=Mem.sub_new z (cell (.int .i64 0) 3);refine Tri.mono (impStmts z (h1.sub u) hv G rfl g.body _ g.bs 0 1 Y Au (H.sub u).body (H.sub u).stmts N (by omega) (by omega)) ?_;rintro _ X ⟨rfl,B,Z,-⟩;have r:=q.trans (u.trans (Z.base Y z));refine⟨_,_,rfl,λh2=>⟨h1.ok.procs.succ l,A I _ _ ⟨r,?_⟩⟩,λh2=>EG ?_ r⟩;·rw[y,BS (by grind)]
  ·have:placeT (AF d (Av d g) g.result 0 g.body)=(AF d (Av d g) g.result 0 g.body).1:=if_neg h2;rw[this,y,BA (b:=(g.name,(AF d (Av d g) g.result 0 g.body).1,(AF d (Av d g) g.result 0 g.body).2)) (by grind)]
 rw[(h1.ok.procs.done l).1,Ao]at y;rw[y];exact⟨none,rfl,q,rfl⟩
theorem Fp{V1:Mem}{X:Option Flt}(h:FltAt V1 none X):X=none:=by
 cases X with
 |none=>rfl
 |some r=>obtain⟨b,t,h1,_⟩:=h;cases h1
theorem H0{V1:Mem}{X:Option Flt}{p:Option Addr}(h:FltAt V1 p X)(g:¬p=none):∃r,X=some r:=by
 cases X with
 |none=>exact absurd h g
 |some r=>grind
theorem impExps(F:Gf)(h:BT V c d)(hv:EV d)(L:IH d)(O:DS d=none):FltC 123 [.pointer c] V (E7 d):=by
 refine x123 ?_;unfold E7;refine⟨h.nn,h.nn,Al h.nn,d.ms,h.cell (i:=4) rfl,?_⟩;unfold exp1;generalize R:(λ(_:Nat) (m:Ms)=>if BB d (BG d m.ty) m.x Am≠0 then some ((m.name,-1,BB d (BG d m.ty) m.x Am):Flt)else none)=F1;refine AE d.measures.length (λk V1=>V.sub V1/\Ao F1 0 d.measures=Ao F1 k (d.measures.drop k)) ⟨Mem.sub.refl _,rfl⟩ ?_;rintro k b V1 J X ⟨s,y⟩ A;have h1:=h.sub s;refine⟨λl=>?_,λl=>?_⟩
 ·obtain⟨g,hm,B,H,I,G,M,n⟩:=h1.ok.measures.get l;rw[H]at y;refine⟨G,M,l,_,_,_,_,_,_,_,n,Tri.mono (Mz F h1 hv) ?_⟩;rintro _ V2 ⟨m,rfl,z,N⟩;refine⟨_,_,_,rfl,Tri.mono (c175 (e:=g.x) (h1.sub z) hv N ((h1.sub z).ok.measuresOk g hm).x (L.ms g hm)) ?_⟩;rintro _ C ⟨p,rfl,Z,u⟩;have o:=s.trans (z.trans Z);have Y:(if BB d (BG d g.ty) g.x Am≠0 then some ((g.name,-1,BB d (BG d g.ty) g.x Am):Flt)else none)=F1 k g:=by rw[<-R]
  rw[show Ad [105,110,116]=Am from rfl]at u;rw[Y]at u;refine⟨_,rfl,λW=>?_,λW=>?_⟩
  ·subst W;exact⟨h1.ok.measures.succ l,A I _ _ ⟨o,by rw[y,BS (Fp u)]⟩⟩
  ·obtain⟨r,Q⟩:=H0 u W;rw[y,BA Q];rw[Q]at u;exact⟨p,rfl,o,u⟩
 rw[(h1.ok.measures.done l).1,Ao]at y;rw[y,xm];refine⟨h.nn,h.nn,Al h.nn,d.is,h1.cell (i:=5) rfl,?_⟩;unfold exp2;generalize D:(λ(_:Nat) (m:Iv)=>if BB d (BG d m.ty) m.x AC≠0 then some ((m.name,-1,BB d (BG d m.ty) m.x AC):Flt)else none)=F2;refine AE d.invs.length (λk V1=>V.sub V1/\Ao F2 0 d.invs=Ao F2 k (d.invs.drop k)) ⟨s,rfl⟩ ?_;rintro k b V1 J X ⟨s,y⟩ A;have h1:=h.sub s;refine⟨λl=>?_,λl=>?_⟩
 ·obtain⟨g,hm,B,H,I,G,M,n⟩:=h1.ok.invs.get l;rw[H]at y;refine⟨G,M,l,_,_,_,_,_,_,n,Tri.mono (Mz F h1 hv) ?_⟩;rintro _ V2 ⟨m,rfl,z,N⟩;refine⟨_,_,_,rfl,Tri.mono (c175 (e:=g.x) (h1.sub z) hv N ((h1.sub z).ok.invsOk g hm) (L.is g hm)) ?_⟩;rintro _ C ⟨p,rfl,Z,u⟩;have o:=s.trans (z.trans Z);have Y:(if BB d (BG d g.ty) g.x AC≠0 then some ((g.name,-1,BB d (BG d g.ty) g.x AC):Flt)else none)=F2 k g:=by rw[<-D]
  rw[show Ad [98,111,111,108]=AC from rfl]at u;rw[Y]at u;refine⟨_,rfl,λW=>?_,λW=>?_⟩
  ·subst W;exact⟨h1.ok.invs.succ l,A I _ _ ⟨o,by rw[y,BS (Fp u)]⟩⟩
  ·obtain⟨r,Q⟩:=H0 u W;rw[y,BA Q];rw[Q]at u;exact⟨p,rfl,o,u⟩
 rw[(h1.ok.invs.done l).1,Ao]at y;rw[y,xm];refine⟨h.nn,h.nn,Al h.nn,d.qs,h1.cell (i:=6) rfl,?_⟩;unfold exp3;generalize E:(λ(_:Nat) (m:Po)=>if BB d (BG d m.ty) m.x Am≠0 then some ((sPot,-1,BB d (BG d m.ty) m.x Am):Flt)else none)=F3;refine AE d.pots.length (λk V1=>V.sub V1/\Ao F3 0 d.pots=Ao F3 k (d.pots.drop k)) ⟨s,rfl⟩ ?_;rintro k b V1 J X ⟨s,y⟩ A;have h1:=h.sub s;refine⟨λl=>?_,λl=>?_⟩
 ·obtain⟨g,hm,B,H,I,G,M,n⟩:=h1.ok.pots.get l;rw[H]at y;refine⟨G,M,l,_,_,_,_,_,n,Tri.mono (Mz F h1 hv) ?_⟩;rintro _ V2 ⟨m,rfl,z,N⟩;refine⟨_,_,_,rfl,Tri.mono (c175 (e:=g.x) (h1.sub z) hv N ((h1.sub z).ok.potsOk g hm) (L.qs g hm)) ?_⟩;rintro _ C ⟨p,rfl,Z,u⟩;have o:=s.trans (z.trans Z);have Y:(if BB d (BG d g.ty) g.x Am≠0 then some ((sPot,-1,BB d (BG d g.ty) g.x Am):Flt)else none)=F3 k g:=by rw[<-E]
  rw[show Ad [105,110,116]=Am from rfl,show Ad [112,111,116,101,110,116,105,97,108]=sPot from rfl]at u;rw[Y]at u;refine⟨_,rfl,λW=>?_,λW=>?_⟩
  ·subst W;exact⟨h1.ok.pots.succ l,A I _ _ ⟨o,by rw[y,BS (Fp u)]⟩⟩
  ·obtain⟨r,Q⟩:=H0 u W;rw[y,BA Q];rw[Q]at u;exact⟨p,rfl,o,u⟩
 rw[(h1.ok.pots.done l).1,Ao]at y;rw[y,xm];refine⟨h.nn,h.nn,Al h.nn,d.bs,h1.cell (i:=7) rfl,?_⟩;have K:=Oz O;unfold exp4;generalize T:(λ(_:Nat) (m:Bd)=>if BB d (EE d ((Ch d m.proc).getD HW)) m.x Am≠0 then some ((m.proc,-1,BB d (EE d ((Ch d m.proc).getD HW)) m.x Am):Flt)else none)=F4;refine AE d.bounds.length (λk V1=>V.sub V1/\Ao F4 0 d.bounds=Ao F4 k (d.bounds.drop k)) ⟨s,rfl⟩ ?_;rintro k b V1 J X ⟨s,y⟩ A;have h1:=h.sub s;refine⟨λl=>?_,λl=>?_⟩
 ·obtain⟨g,hm,B,H,I,G,M,n⟩:=h1.ok.bounds.get l;rw[H]at y;obtain⟨q,S⟩:=K g hm;obtain⟨mt,U,q2⟩:=h1.procs;refine⟨G,M,l,_,_,_,_,_,n,h.nn,h.nn,_,U,Cd.str1 xg xh zero142 q2 ?_⟩;rw[S];refine⟨_,q.ps,_,q.ls,q.bs,rfl,Tri.mono (impInBound F h1 hv (My S) (h1.ok.procsOk q (My S))) ?_⟩;rintro _ V2 ⟨m,rfl,z,N⟩;refine⟨_,_,_,rfl,Tri.mono (c175 (e:=g.x) (h1.sub z) hv N ((h1.sub z).ok.boundsOk g hm) (L.bs g hm)) ?_⟩;rintro _ C ⟨p,rfl,Z,u⟩;have o:=s.trans (z.trans Z);have Y:(if BB d (EE d q) g.x Am≠0 then some ((g.proc,-1,BB d (EE d q) g.x Am):Flt)else none)=F4 k g:=by grind
  rw[show Ad [105,110,116]=Am from rfl]at u;rw[Y]at u;refine⟨_,rfl,λW=>?_,λW=>?_⟩
  ·subst W;exact⟨h1.ok.bounds.succ l,A I _ _ ⟨o,by rw[y,BS (Fp u)]⟩⟩
  ·obtain⟨r,Q⟩:=H0 u W;rw[y,BA Q];rw[Q]at u;exact⟨p,rfl,o,u⟩
 rw[(h1.ok.bounds.done l).1,Ao]at y;rw[y];exact⟨none,rfl,s,rfl⟩
end
theorem GenK.makeF1{P:Program}{V:Mem}{f:FuncId}{x:Operand}{ty:Nat}{vals:Operand->Value}{v:Value}(g:vals x=v){q:Value->Mem->Prop}(h:q (.func (.func f) #[v] #[]) V):GenK P (.makeFunc (.func f) #[x] #[]) ty vals V q:=by
 intro w hw;refine⟨_,w,V,?_,As.refl hw,h⟩;unfold execOp Instr.makeFunc;simp_all
section
variable{V:Mem}{d:Ds}{c:Option Addr}
theorem impFirst(W:Gf)(h:BT V c d)(hv:EV d)(N:IH d):FltC 81 [.pointer c] V (Ct d):=by
 refine Q2 ?_;have O:=λV1 (o:V.sub V1)=>impTypes (h.sub o);have F2:=λV1 (o:V.sub V1)=>impHeads (h.sub o) N.small;have A:=λV1 (o:V.sub V1)=>impForm (h.sub o);have I:=λV1 (o:V.sub V1)=>impBodies W (h.sub o) hv N;have M:=λV1 (o:V.sub V1) (s:DS d=none)=>impExps W (h.sub o) hv N s;refine GenK.makeF1 (v:=.pointer c) rfl ⟨.func (.func 119) #[.pointer c] #[],rfl,rfl,GenK.makeF1 (v:=.pointer c) rfl ⟨.func (.func 120) #[.pointer c] #[],rfl,rfl,GenK.makeF1 (v:=.pointer c) rfl ⟨.func (.func 121) #[.pointer c] #[],rfl,rfl,GenK.makeF1 (v:=.pointer c) rfl ⟨.func (.func 122) #[.pointer c] #[],rfl,rfl,GenK.makeF1 (v:=.pointer c) rfl ⟨.func (.func 123) #[.pointer c] #[],rfl,rfl,λb F=>?_⟩⟩⟩⟩⟩;have Z:=Mem.sub_new F (.cells #[.func (.func 119) #[.pointer c] #[],.func (.func 120) #[.pointer c] #[],.func (.func 121) #[.pointer c] #[],.func (.func 122) #[.pointer c] #[],.func (.func 123) #[.pointer c] #[]] 185 (0,0));refine AE 5 (λi V1=>V.sub V1/\V1 b=some (.cells #[.func (.func 119) #[.pointer c] #[],.func (.func 120) #[.pointer c] #[],.func (.func 121) #[.pointer c] #[],.func (.func 122) #[.pointer c] #[],.func (.func 123) #[.pointer c] #[]] 185 (0,0))/\
  ((i=0/\Ct d=(Ge d).or ((E5 d).or ((DS d).or ((E6 d).or (E7 d)))))∨(i=1/\Ct d=(E5 d).or ((DS d).or ((E6 d).or (E7 d))))∨(i=2/\Ct d=(DS d).or ((E6 d).or (E7 d)))∨(i=3/\DS d=none/\Ct d=(E6 d).or (E7 d))∨(i=4/\DS d=none/\Ct d=E7 d)∨(i=5/\Ct d=none))) ⟨Z,Mem.set_same _ _ _,.inl ⟨rfl,rfl⟩⟩ ?_
 rintro i B V1 J C ⟨n,u,H⟩ G;have q:∀{V2:Mem}{X Y:Option Flt}{p:Option Addr},V.sub V2->FltAt V2 p X->¬(p=none)->Ct d=X.or Y->(∃Q,xV (.pointer p)=.returned (.pointer Q)/\V.sub V2/\FltAt V2 Q (Ct d)):=λ{V2 X Y p} o s l y=>by
  obtain⟨r,rfl⟩:=H0 s l;simp_all
 refine⟨λL=>?_,λR=>?_⟩
 ·rcases H with⟨rfl,y⟩|⟨rfl,y⟩|⟨rfl,y⟩|⟨rfl,s,y⟩|⟨rfl,s,y⟩|⟨rfl,y⟩
  ·refine⟨by simp[Aa],by omega,by omega,.func (.func 119) #[.pointer c] #[],rfl,Aj u 0 1 (by simp),_,_,_,rfl,Tryz.call119,Tri.mono (O V1 n) ?_⟩;rintro _ V2 ⟨p,rfl,g,z⟩;refine⟨_,rfl,λl=>⟨⟨by omega,by omega⟩,G (by omega) _ _ ⟨n.trans g,g _ _ u,?_⟩⟩,λl=>q (n.trans g) z l y⟩;subst l;exact .inr (.inl ⟨rfl,by rw[y,Fp z,xm]⟩)
  ·refine⟨by simp[Aa],by omega,by omega,.func (.func 120) #[.pointer c] #[],rfl,Aj u 1 1 (by simp),_,_,_,rfl,Tryz.call120,Tri.mono (F2 V1 n) ?_⟩;rintro _ V2 ⟨p,rfl,g,z⟩;refine⟨_,rfl,λl=>⟨⟨by omega,by omega⟩,G (by omega) _ _ ⟨n.trans g,g _ _ u,?_⟩⟩,λl=>q (n.trans g) z l y⟩;subst l;exact .inr (.inr (.inl ⟨rfl,by rw[y,Fp z,xm]⟩))
  ·refine⟨by simp[Aa],by omega,by omega,.func (.func 121) #[.pointer c] #[],rfl,Aj u 2 1 (by simp),_,_,_,rfl,Tryz.call121,Tri.mono (A V1 n) ?_⟩;rintro _ V2 ⟨p,rfl,g,z⟩;refine⟨_,rfl,λl=>⟨⟨by omega,by omega⟩,G (by omega) _ _ ⟨n.trans g,g _ _ u,?_⟩⟩,λl=>q (n.trans g) z l y⟩;subst l;exact .inr (.inr (.inr (.inl ⟨rfl,Fp z,by rw[y,Fp z,xm]⟩)))
  ·refine⟨by simp[Aa],by omega,by omega,.func (.func 122) #[.pointer c] #[],rfl,Aj u 3 1 (by simp),_,_,_,rfl,Tryz.call122,Tri.mono (I V1 n) ?_⟩;rintro _ V2 ⟨p,rfl,g,z⟩;refine⟨_,rfl,λl=>⟨⟨by omega,by omega⟩,G (by omega) _ _ ⟨n.trans g,g _ _ u,?_⟩⟩,λl=>q (n.trans g) z l y⟩;subst l;exact .inr (.inr (.inr (.inr (.inl ⟨rfl,s,by rw[y,Fp z,xm]⟩))))
  ·refine⟨by simp[Aa],by omega,by omega,.func (.func 123) #[.pointer c] #[],rfl,Aj u 4 1 (by simp),_,_,_,rfl,Tryz.call123,Tri.mono (M V1 n s) ?_⟩;rintro _ V2 ⟨p,rfl,g,z⟩;refine⟨_,rfl,λl=>⟨⟨by omega,by omega⟩,G (by omega) _ _ ⟨n.trans g,g _ _ u,?_⟩⟩,λl=>q (Y:=none) (n.trans g) z l (by simp_all)⟩;subst l;exact .inr (.inr (.inr (.inr (.inr ⟨rfl,by rw[y,Fp z]⟩))))
  ·omega
 ·rcases H with⟨rfl,y⟩|⟨rfl,y⟩|⟨rfl,y⟩|⟨rfl,s,y⟩|⟨rfl,s,y⟩|⟨rfl,y⟩;·omega
  ·omega
  ·omega
  ·omega
  ·omega
  ·rw[y];exact⟨none,rfl,n,rfl⟩
theorem OC[Tab V](i:Gf)(l:NewC)(y:Ds.Ok V d):PP 50 [d.v] V (if Bv d=true then f3 (Ct d)else .tuple #[.string sE,.int .i64 0,.int .i64 1]):=by
 refine Bn.mk (Qi ?_);refine(Mo y).call ⟨_,rfl,λh=>?_,λh=>?_⟩
 ·rw[if_pos h];refine Tri.mono (l V d y) ?_;rintro _ V1 ⟨c,rfl,h1,n⟩;refine⟨c,rfl,Tri.mono (impFirst i n (OB h) (vparts h)) ?_⟩;rintro _ V2 ⟨p,rfl,h2,u⟩;refine⟨p,rfl,λg=>?_,λg=>?_⟩
  ·subst g;rw[Fp u];exact⟨rfl,h1.trans h2⟩
  ·obtain⟨r,q⟩:=H0 u g;rw[q]at u⊢;obtain⟨b,t,rfl,z⟩:=u;exact⟨g,g,_,Aj z 0 1 (by simp),g,g,_,Aj z 1 1 (by simp),g,g,_,Aj z 2 1 (by simp),GP (p:=some ⟨b,0,none⟩) (Aj z 2 1 (by simp)),g,g,GP (p:=some ⟨b,0,none⟩) (Aj z 1 1 (by simp)),g,g,GP (p:=some ⟨b,0,none⟩) (Aj z 2 1 (by simp)),g,g,rfl,h1.trans h2⟩
 ·rw[if_neg h];exact⟨rfl,Mem.sub.refl _⟩
def Eo(d:Ds)(ok:Bool):Int:=if Bv d=true/\ok=true then(if Ct d=none then 0 else 13)else 1
theorem impWell[Tab V](n:Gf)(q:NewC)(i:Ds.Ok V d){ok:Bool}:Tri xS 96 #[d.v,.bool ok] V λr V'=>∃c,r=.returned (.tuple #[.pointer c,.int .i64 (Eo d ok)])/\V.sub V'/\(Eo d ok=0->BT V' c d):=by
 refine QU ?_;refine(Mo i).call ⟨_,rfl,λg=>⟨λu=>?_,λu=>?_⟩,λg=>?_⟩
 ·refine Tri.mono (q V d i) ?_;rintro _ V1 ⟨c,rfl,h1,l⟩;refine⟨c,rfl,Tri.mono (impFirst n l (OB g) (vparts g)) ?_⟩;rintro _ V2 ⟨p,rfl,h2,z⟩;refine⟨p,rfl,λy=>?_,λy=>?_⟩
  ·subst y;have e:Eo d ok=0:=by unfold Eo;rw[if_pos ⟨g,u⟩,if_pos (Fp z)]
   rw[e];exact⟨c,rfl,h1.trans h2,λ_=>l.sub h2⟩
  ·obtain⟨r,o⟩:=H0 z y;have e:Eo d ok=13:=by unfold Eo;rw[if_pos ⟨g,u⟩,if_neg (by rw[o];simp)]
   rw[e];exact⟨none,rfl,h1.trans h2,λh=>absurd h (by decide)⟩
 ·have e:Eo d ok=1:=by unfold Eo;rw[if_neg (λh=>u h.2)]
  rw[e];exact⟨none,rfl,Mem.sub.refl _,λh=>absurd h (by decide)⟩
 ·have e:Eo d ok=1:=by unfold Eo;rw[if_neg (λh=>g h.1)]
  rw[e];exact⟨none,rfl,Mem.sub.refl _,λh=>absurd h (by decide)⟩
theorem wellE_zero{d:Ds}{ok:Bool}(h:Eo d ok=0):Bv d=true/\ok=true/\Ct d=none:=by
 grind[Eo,absurd]
theorem OD{s:KB}:PP 97 [.string s] V (.bool (AG s)):=by
 refine QV ?_;unfold AG Am;refine⟨λh=>?_,λh=>?_⟩;·rw[decide_eq_true h];exact⟨rfl,rfl⟩
 ·rw[decide_eq_false h];exact⟨rfl,rfl⟩
theorem OE{b t:Nat}{x:Fld}(h:V b=some (cell (.func (.func 97) #[] #[]) t)):PP 99 [x.v,pv b] V (.bool (!AG x.ty)):=by
 refine QX ?_;exact⟨.func (.func 97) #[] #[],rfl,An h,_,_,_,rfl,Tryz.call97,(OD (s:=x.ty)).callv (first:=[]) (caps:=[]) ⟨_,rfl,rfl,rfl⟩⟩
def entsT(d:Ds):List KB:=(d.procs.filter EF).map (·.name)
theorem OF{α:Type}{p:α->Bool}{xs:List α}{i:Nat}{x:α}(h:xs[i]?=some x):(xs.take (i+1)).filter p=(xs.take i).filter p++(if p x=true then[x]else[]):=by
 grind[List.take_add_one]
theorem Q8[Tab V](hS:Gf)(hN:NewC)(T:Ds.Ok V d):Tri xS 67 #[d.v] V λr V'=>∃s:Sl,r=.returned (.tuple #[.slice s.p s.n s.c,.int .i64 (Eo d true)])/\V.sub V'/\Ab V' s 1 ((if Eo d true=0 then entsT d else[]).map CC):=by
 refine Qv ?_;refine Tri.mono (impWell hS hN T) ?_;rintro _ V0 ⟨c,rfl,h1,hc⟩;refine⟨c,_,rfl,λA=>?_,λA=>?_⟩
 ·rw[if_pos A];obtain⟨Z,-,-⟩:=wellE_zero A;have F:d.procs.length<=1000:=by
   unfold Bv at Z;simp only[zC,decide_eq_true_eq]at Z;omega
  refine Ej (mk:=λs:Sl=>.slice s.p s.n s.c) (b0:=⟨none,0,0⟩) Bb d.procs.length (λi s V1=>Own V V1 9 1 s ((((d.procs.take i).filter EF).map (·.name)).flatMap CC)) (Own.nil h1 _ _) ?_;rintro i s V1 J hi Y U;have G:=T.sub Y.sub;refine⟨λN=>?_,λL=>?_⟩
  ·obtain⟨x,hm,hx,hdr,hl,hp,hz,I⟩:=G.procs.get N;have R:(((d.procs.take i).filter EF).map (·.name)).length<=1000:=by
    rw[List.length_map];exact Nat.le_trans (List.length_filter_le _ _) (by rw[List.length_take];omega)
   have M:=G.procsOk x hm;have q:x.params.any (λf=>!AG f.ty)=!x.params.all (λf=>AG f.ty):=by
    rw[xu];simp
   have skip:∀V2,Own V V2 9 1 s ((((d.procs.take i).filter EF).map (·.name)).flatMap CC)->¬EF x=true->(K.inR .i64 ((i:Int)+(1:Int)))/\J [(.slice s.p s.n s.c),(.int .i64 ((i:Int)+(1:Int)))] V2:=λV2 g W=>⟨G.procs.succ N,U hl _ _ (by rw[OF hx,if_neg W,List.append_nil];exact g)⟩;have add:∀V2,Own V V2 9 1 s ((((d.procs.take i).filter EF).map (·.name)).flatMap CC)->EF x=true->∀(b1:Nat){ty:Nat}{X B:Nat}{vals:Operand->Value},V2 b1=none->vals (.tmp X)=.slice s.p s.n s.c->vals (.tmp B)=.slice (sa b1) 1 1->GenK xS (.call {callee:=(.builtin .append),args:=#[(.tmp X),(.tmp B)],argTypes:=#[159,159]}) ty vals (V2.set b1 (.cells #[.string x.name] 9 (0,0))) λz V6=>∃o:Sl,z=(.slice o.p o.n o.c)/\(K.inR .i64 ((i:Int)+(1:Int)))/\J [(.slice o.p o.n o.c),(.int .i64 ((i:Int)+(1:Int)))] V6:=λV2 g W b1 ty X B vals y C D=>by
    refine IE (s:=s) (u:=⟨some ⟨b1,0,none⟩,1,1⟩) (xs:=((d.procs.take i).filter EF).map (·.name)) (ys:=[x.name]) C D (g.new y _) (IF Au) (by rw[List.length_singleton];omega) λs' V' E=>⟨s',rfl,G.procs.succ N,U hl _ _ ?_⟩;rw[OF hx,if_pos W,List.map_append];exact E
   refine⟨hp,hz,N,_,_,_,_,_,I,λS=>?_,λS=>OD.call ⟨_,rfl,λQ=>?_,λQ=>?_⟩⟩
   ·intro b1 y;have g:=Y.new y (cell (.func (.func 97) #[] #[]) 210);refine(IA (l:=x.ps) (first:=[]) (caps:=[pv b1]) (M.params.sub (Mem.sub_new y _)) Tryz.call99 (λf=>!AG f.ty) (λf _=>OE Au)).call ⟨_,rfl,λH=>?_,λH=>?_⟩
    ·rw[q]at H;exact skip _ g (λh=>by unfold EF at h;rw[zC]at h;rw[h.1]at H;cases H)
    ·rw[q]at H;have W:EF x=true:=by
      unfold EF sE;rw[decide_eq_true S,Bool.true_or,Bool.and_true];simpa using H
     exact λb2 O=>add _ g W b2 O rfl rfl
   ·intro b1 y;have g:=Y.new y (cell (.func (.func 97) #[] #[]) 210);refine(IA (l:=x.ps) (first:=[]) (caps:=[pv b1]) (M.params.sub (Mem.sub_new y _)) Tryz.call99 (λf=>!AG f.ty) (λf _=>OE Au)).call ⟨_,rfl,λH=>?_,λH=>?_⟩
    ·rw[q]at H;exact skip _ g (λh=>by unfold EF at h;rw[zC]at h;rw[h.1]at H;cases H)
    ·rw[q]at H;have W:EF x=true:=by
      unfold EF;rw[Q,xd,Bool.and_true];simpa using H
     exact λb2 O=>add _ g W b2 O rfl rfl
   ·refine skip _ Y (λh=>?_);unfold EF sE at h;rw[decide_eq_false S,eq_false_of_ne_true Q]at h;simp at h
  ·rw[xc (G.procs.done L).2]at Y;rw[A];exact⟨s,rfl,Y.sub,ownS Y⟩
 ·rw[if_neg A];exact⟨⟨none,0,0⟩,rfl,h1,Ab.nil⟩
end
end Go.Proofs
namespace Go.Sx
open Go
open Classical
structure KeyOf (P:Program)(kt:TypeId){α:Type}(enc:α->Value):Prop where
 inj:∀a b,enc a=enc b->a=b
 find:∀(a:α)(es:List MapEntry)(w:World),(∀e∈es,∃b,e.key=enc b)->(Instr.findKey kt (enc a) es).run P w=.ok ((es.findIdx? λe=>decide (e.key=enc a)).bind λj=>(es[j]?).map λe=>(j,e.val)) w
 check:∀(b:Bool)(a:α)(w:World),(Instr.checkKey b 10000 kt (enc a)).run P w=.ok () w
 stays:∀(a:α)(w:World),(Instr.keyThatStays (enc a) (enc a)).run P w=.ok (enc a) w
noncomputable def Fq(es:List MapEntry)(k:Value):Option Value:=(es.find? λe=>decide (e.key=k)).map (·.val)
structure Dt {α:Type}(enc:α->Value)(V:Mem)(b:Nat)(m:α->Option Value):Prop where
 at_:∃es clock,V b=some (.map es clock)/\(∀e∈es.toList,∃a,e.key=enc a)/\es.toList.Pairwise (λe f=>e.key≠f.key)/\∀a,Fq es.toList (enc a)=m a
section
variable{α:Type}{enc:α->Value}{P:Program}{t kt et:TypeId}{V V':Mem}{b c:Nat}{m m':α->Option Value}
theorem Dt.sub(h:Dt enc V b m)(g:V.sub V'):Dt enc V' b m:=by
 obtain⟨es,c,h1,h2⟩:=h.at_;exact⟨es,c,g _ _ h1,h2⟩
theorem Dt.made(V:Mem)(b:Nat):Dt enc (V.set b (.map #[] 0)) b λ_=>none:=
 ⟨#[],0,Mem.set_same _ _ _,by simp,by simp,by simp[Fq]⟩
theorem Dt.congr(h:Dt enc V b m)(e:∀k,m k=m' k):Dt enc V b m':=by
 obtain⟨es,c,h1,h2,h3,h4⟩:=h.at_;exact⟨es,c,h1,h2,h3,λk=>(h4 k).trans (e k)⟩
theorem lookV_idx(k:Value):∀es:List MapEntry,Fq es k=(es.findIdx? λe=>decide (e.key=k)).bind λj=>(es[j]?).map (·.val)
 |[]=>rfl
 |e::es=>by
  have h:=lookV_idx k es;unfold Fq at h⊢;simp only[xb,yb];by_cases g:e.key=k;·simp[g]
  ·simp only[g,decide_false,zQ,if_false,h];cases u:y7 (λe=>decide (e.key=k)) es<;>simp
theorem Cd.key1(K:KeyOf P kt enc)(h:P.underlying t=some (.map kt et)){z:Value}(u:∀w,(zeroValue et).run P w=.ok z w)(hm:Dt enc V b m){k:α}{q:Value->Prop}(g:q ((m k).getD z)):Cd P t (.map (some b)) (enc k) false V q:=by
 intro w hw;obtain⟨es,c,h1,h2,-,h3⟩:=hm.at_;refine⟨_,?_,g⟩;unfold Instr.lookup;simp only[zN,run_underlying h,zO,xA (hw _ _ h1),zP,K.check,K.find k _ w h2];rw[<-h3 k,lookV_idx];cases y:y7 (λe=>decide (e.key=enc k)) es.toList with
 |none=>simp_all
 |some j=>
  grind[xB,zP,yi,Array.getElem?_eq_getElem]
theorem lookV_push{es:List MapEntry}{k val:Value}{c:Nat}(h:es.findIdx? (λe=>decide (e.key=k))=none)(x:Value):Fq (es++[{key:=k,val:=val,born:=c}]) x=if x=k then some val else Fq es x:=by
 grind[Fq]
theorem OG(k val:Value):∀(es:List MapEntry)(i:Nat) (h:es.findIdx? (λe=>decide (e.key=k))=some i) (x:Value),Fq (es.modify i λe=>{e with key:=k,val:=val}) x=if x=k then some val else Fq es x
 |[],_,h,_=>by simp at h
 |e::es,i,h,x=>by
  rw[yb]at h;by_cases g:e.key=k;·grind[Fq]
  ·simp only[g,decide_false,zQ,if_false,zy]at h;obtain⟨j,u,rfl⟩:=h;have z:=OG k val es j u x;grind[Fq]
theorem OH(k val:Value):∀(es:List MapEntry)(i:Nat),es.findIdx? (λe=>decide (e.key=k))=some i->(es.modify i λe=>{e with key:=k,val:=val}).map (·.key)=es.map (·.key)
 |[],_,h=>by simp at h
 |e::es,i,h=>by
  rw[yb]at h;by_cases g:e.key=k;·grind
  ·simp only[g,decide_false,zQ,if_false,zy]at h;obtain⟨j,u,rfl⟩:=h;simp[OH k val es j u]
theorem pair_keys{es:List MapEntry}:es.Pairwise (λe f=>e.key≠f.key)↔(es.map (·.key)).Pairwise (·≠·):=by grind
theorem Cr.key(K:KeyOf P kt enc)(s:P.underlying t=some (.map kt et))(hm:Dt enc V b m){k:α}{val:Value}{q:Mem->Prop}(n:∀o,Dt enc (V.set b o) b (λx=>if x=k then some val else m x)->q (V.set b o)):Cr P t (.map (some b)) (enc k) val V q:=by
 intro w hw;obtain⟨es,c,h1,h2,G,h3⟩:=hm.at_;have g:(yf t (.map (some b)) (enc k) val).run P w=
   (match es.toList.findIdx? (λe=>decide (e.key=enc k))with
   |some i=>(setObj b (.map (es.modify i λe=>{e with key:=enc k,val:=val}) c)).run P w
   |none=>(setObj b (.map (es.push {key:=enc k,val:=val,born:=c}) (c+1))).run P w):=by
  unfold yf;simp only[zN,run_underlying s,zO,xA (hw _ _ h1),K.check,K.find k _ w h2];cases u:y7 (λe=>decide (e.key=enc k)) es.toList with
  |none=>rfl
  |some j=>
   obtain⟨z,H,_⟩:=xB.1 u;have J:j<es.size:=by simpa using z
   have y:(es[j]?).map (·.key)=some (enc k):=by
    simp_all
   simp only[yi z,Option.bind_some,Option.map_some,zN,y,xk,K.stays,zO]
 have l:∀a,(if enc a=enc k then some val else Fq es.toList (enc a))=if a=k then some val else m a:=λa=>by
  by_cases e:a=k;·simp_all
  ·rw[if_neg e,if_neg (λh=>e (K.inj _ _ h)),h3]
 cases u:y7 (λe=>decide (e.key=enc k)) es.toList with
 |none=>
  rw[u]at g;refine⟨_,V.set b (.map (es.push {key:=enc k,val:=val,born:=c}) (c+1)),g.trans (xC _ (hw _ _ h1)),As.put hw h1,n _ ⟨_,_,Mem.set_same _ _ _,?_,?_,λx=>?_⟩⟩;·grind
  ·grind
  ·rw[Array.toList_push,lookV_push u,l]
 |some j=>
  rw[u]at g;refine⟨_,V.set b (.map (es.modify j λe=>{e with key:=enc k,val:=val}) c),g.trans (xC _ (hw _ _ h1)),As.put hw h1,n _ ⟨_,_,Mem.set_same _ _ _,?_,?_,λx=>?_⟩⟩
  ·intro e r;rw[xD]at r;obtain⟨i,N,rfl⟩:=List.mem_iff_getElem.1 r;rw[List.getElem_modify];split;·grind
   simp_all
  ·simp_all[xD,pair_keys,OH]
  simp_all[xD,OG]
end
end Go.Sx
