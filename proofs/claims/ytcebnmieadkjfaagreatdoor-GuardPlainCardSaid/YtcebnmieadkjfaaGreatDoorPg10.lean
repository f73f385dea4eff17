/- Part 10: no statement of the seat is proved here. -/
import Derived.Test.YtcebnmieadkjfaaGreatDoorPg09
set_option linter.unusedVariables false
set_option linter.unusedSimpArgs false
open Bool renaming and_eq_true->zC
open List renaming all_eq_true->z6,mem_cons->yD,getElem?_eq_some_iff->yv,mem_of_find?_eq_some->xr,any_eq_not_all_not->xW,not_mem_nil->xD
open Go.Addr renaming add->zE
open Go.Ending renaming returned->xJ
open Option renaming none_or->xv,getD_some->xu,getD_none->xm
open Go.Value renaming map->zz
open Go.Proofs.Tryz renaming prog->xG,underlying257->xq,underlying9->xo,underlying319->xn
open ByteArray renaming empty->zA
open Go.Builtin renaming append_->y8,zeroCells->xA
namespace Go.Proofs
open Go Go.Sx
attribute [local irreducible] Go.Sx.Tri
structure Hf (d:Ds):Prop where
 small:Small d
 ms:∀m∈d.measures,Bv 1 m.x=true
 is:∀m∈d.invs,Bv 1 m.x=true
 qs:∀m∈d.pots,Bv 1 m.x=true
 bs:∀m∈d.bounds,Bv 1 m.x=true
 ps:∀p∈d.procs,Cv 1 p.body=true/\Co p.body<=200
theorem IQ{e:E}(h:Bf e=true):Bv 1 e=true:=by
 grind[Bf]
theorem vparts{d:Ds}(h:A7 d=true):Hf d:=by
 unfold A7 E5 at h;simp only[zC,decide_eq_true_eq,z6]at h;obtain⟨⟨⟨⟨⟨⟨⟨-,-⟩,u⟩,-⟩,-⟩,-⟩,w⟩,⟨⟨hm,z⟩,y⟩,j⟩:=h;have fl:∀{l:List Fld}{n:Int},CT l n=true->n<=100->l.length<=1000:=λh i=>by
  grind[CT]
 refine⟨⟨fl u (by omega),λp f=>?_⟩,λm g=>?_,λm g=>?_,λm g=>?_,λm g=>?_,λp f=>?_⟩;·grind[DC]
 ·simp_all[Dh,zC,IQ]
 ·simp_all[EC,zC,IQ]
 ·simp_all[FS,zC,IQ]
 ·simp_all[FT,zC,IQ]
 grind[DC,Gq]
theorem Gw{α β:Type}{f:Nat->α->Option β}{b:β}:∀{i:Nat}{xs:List α},Ak f i xs=some b->∃j x,x∈xs/\f j x=some b
 |_,[],h=>by cases h
 |i,x::xs,h=>by
  cases g:f i x with
  |some c=>grind[A8]
  |none=>
   rw[BA g]at h;obtain⟨j,y,u,e⟩:=Gw h;grind
def Hg(r:Flt):Prop:=r.2.2≠0/\r.2.1=-1
theorem FU{P:Flt->Prop}{a b:Option Flt}(g:∀r,a=some r->P r)(f:∀r,b=some r->P r):∀r,a.or b=some r->P r:=λr h=>by
 cases a with
 |none=>simp_all
 |some x=>simp_all
theorem IS(d:Ds):∀r,Gt d=some r->Hg r:=by
 refine FU (λr h=>?_) (FU (λr h=>?_) (λr h=>?_))<;>obtain⟨j,x,f,e⟩:=Gw h
 ·split at e;·cases e;exact⟨by simp,rfl⟩
  ·cases e
 ·split at e;·rename_i g;cases e;exact⟨g,rfl⟩
  ·cases e
 ·split at e;·rename_i g;cases e;exact⟨g,rfl⟩
  ·cases e
theorem IT(d:Ds):∀r,Ft d=some r->Hg r:=λr h=>by
 obtain⟨j,x,f,e⟩:=Gw h;split at e;·cases e;exact⟨by simp,rfl⟩
 ·split at e;·rename_i g;cases e;exact⟨g,rfl⟩
  ·split at e;·cases e;exact⟨by simp,rfl⟩
   ·cases e
theorem IU(d:Ds):∀r,C3 d=some r->Hg r:=by
 refine FU (λr h=>?_) (FU (λr h=>?_) (FU (λr h=>?_) (λr h=>?_)))<;>obtain⟨j,x,g,e⟩:=Gw h
 ·split at e;·cases e;exact⟨by simp,rfl⟩
  ·split at e;·cases e;exact⟨by simp,rfl⟩
   ·cases e
 ·split at e;·cases e;exact⟨by simp,rfl⟩
  ·split at e;·cases e;exact⟨by simp,rfl⟩
   ·cases e
 ·split at e;·cases e;exact⟨by simp,rfl⟩
  ·cases e
 ·split at e;·cases e;exact⟨by simp,rfl⟩
  ·split at e;·cases e;exact⟨by simp,rfl⟩
   ·cases e
theorem IV(d:Ds):∀r,D6 d=some r->Hg r:=by
 refine FU (λr h=>?_) (FU (λr h=>?_) (FU (λr h=>?_) (λr h=>?_)))<;>obtain⟨j,x,f,e⟩:=Gw h<;>split at e;all_goals first|(cases e;done)|(rename_i g;cases e;exact⟨g,rfl⟩)
theorem LL{d:Ds}(f:C3 d=none):∀g∈d.bounds,∃p,BU d g.proc=some p:=by
 have z:form4 d=none:=by
  grind[C3,form4]
 have u:∀(l:List Bd)(i:Nat),Ak (λi b=>if(BU d b.proc).isNone=true then some ((b.proc,-1,9):Flt)else if(d.bounds.take i).any (λg=>decide (g.proc=b.proc))=true then some (b.proc,-1,10)else none) i l=none->∀g∈l,∃p,BU d g.proc=some p:=by
  intro l;induction l with
  |nil=>simp_all
  |cons y l r=>
   intro i h g w;cases j:BU d y.proc with
   |none=>simp_all[A8,if_pos]
   |some p=>
    rcases yD.1 w with rfl|w;·grind
    ·by_cases n:(d.bounds.take i).any (λg=>decide (g.proc=y.proc))=true;·simp_all[A8,if_neg,if_pos]
     ·rw[BA ((if_neg (by rw[j];simp)).trans (if_neg n))]at h;grind
 exact u d.bounds 0 z
theorem HW{V:Mem}{p:Option Addr}{off n j m:Nat}{vs:List Value}(h:V.rowp p off n=some vs)(w:0<j)(z:j+m<=n):V.rowp (Aa (Aa p off) j) 0 m=some ((vs.drop j).take m):=by
 cases p with
 |none=>cases h
 |some a=>
  have e:((a.add off).add j).add 0=⟨a.block,a.off+off+j,none⟩:=by
   grind[zE]
  have g:(a.add off).off=a.off+off/\(a.add off).block=a.block:=by
   grind[zE]
  show V.row (((a.add off).add j).add 0) m=_;have h:V.row (a.add off) n=some vs:=h;rw[e];unfold Mem.row at h⊢;rw[g.2]at h;split at h
  ·rename_i c x y f;simp only[f];split at h
   ·rename_i u;rw[g.1]at u h;cases h;rw[if_pos ⟨rfl,by omega⟩,List.drop_take,List.take_take,List.drop_drop,Nat.min_eq_left (by omega)]
   ·cases h
  ·cases h
section
variable{V:Mem}{d:Ds}
theorem c117(R:Ds.Ok V d)(hv:Hf d)(W:C3 d=none):PP 117 [d.v] V (f2 (D6 d)):=by
 refine A1.mk (x117 ?_);unfold D6;have B:=hv.small.1;have key:∀{X:Option Flt}(V2:Mem)(s:KB)(n:Int),V.sub V2->X=some (s,-1,n)->(xJ (.tuple #[.string s,.int .i64 n])=xJ (f2 X)/\V.sub V2):=λV2 s n h2 h=>by rw[h];exact⟨rfl,h2⟩
 unfold exp1;generalize A:(λ(_:Nat) (m:Ms)=>if A2 d (AQ d m.ty) m.x Ai≠0 then some ((m.name,-1,A2 d (AQ d m.ty) m.x Ai):Flt)else none)=F1;refine C0 d.measures.length (λk V1=>V.sub V1/\Ak F1 0 d.measures=Ak F1 k (d.measures.drop k)) ⟨Mem.sub.refl _,rfl⟩ ?_;rintro k b c V1 J C ⟨o,r⟩ Q;have f:=R.sub o;refine⟨λl=>?_,λl=>?_⟩
 ·obtain⟨g,hm,D,G,P,q,a,u⟩:=f.measures.get l;rw[G]at r;have H:=Ah (n:=k*7) q;refine⟨q,a,l,H,_,_,_,_,_,_,_,u,q,a,l,H,_,_,_,_,_,_,_,u,Tri.mono (JX f B) ?_⟩;rintro _ V2 ⟨s',rfl,w,N⟩;have z:=w.rowp u;refine⟨s',false,rfl,HW (j:=3) (m:=4) z (by decide) (by decide),H,q,a,l,(c163 (sc:=AQ d g.ty) (e:=g.x) (f.sub w) N ((f.sub w).measuresOk g hm).x (hv.ms g hm)).call ⟨_,rfl,λh=>⟨f.measures.succ l,Q P _ _ _ ⟨o.trans w,?_⟩⟩,λh=>⟨q,a,l,H,_,_,_,_,_,_,_,z,key _ _ _ (o.trans w) ?_⟩⟩⟩;·rw[r,BA (by rw[<-A];exact if_neg λe=>e h)]
  ·rw[r,A8 (b:=(g.name,-1,A2 d (AQ d g.ty) g.x Ai)) (by rw[<-A];exact if_pos h)];rfl
 rw[(f.measures.done l).1,Ak]at r;rw[r,xv];unfold exp2;generalize I:(λ(_:Nat) (m:Iv)=>if A2 d (AQ d m.ty) m.x Ar≠0 then some ((m.name,-1,A2 d (AQ d m.ty) m.x Ar):Flt)else none)=F2;refine C0 d.invs.length (λk V1=>V.sub V1/\Ak F2 0 d.invs=Ak F2 k (d.invs.drop k)) ⟨o,rfl⟩ ?_;rintro k b c V1 J C ⟨o,r⟩ Q;have f:=R.sub o;refine⟨λl=>?_,λl=>?_⟩
 ·obtain⟨g,hm,D,G,P,q,a,u⟩:=f.invs.get l;rw[G]at r;have H:=Ah (n:=k*6) q;refine⟨q,a,l,H,_,_,_,_,_,_,u,q,a,l,H,_,_,_,_,_,_,u,Tri.mono (JX f B) ?_⟩;rintro _ V2 ⟨s',rfl,w,N⟩;have z:=w.rowp u;refine⟨s',false,rfl,HW (j:=2) (m:=4) z (by decide) (by decide),H,q,a,l,(c163 (sc:=AQ d g.ty) (e:=g.x) (f.sub w) N ((f.sub w).invsOk g hm) (hv.is g hm)).call ⟨_,rfl,λh=>⟨f.invs.succ l,Q P _ _ _ ⟨o.trans w,?_⟩⟩,λh=>⟨q,a,l,H,_,_,_,_,_,_,z,key _ _ _ (o.trans w) ?_⟩⟩⟩;·rw[r,BA (by rw[<-I];exact if_neg λe=>e h)]
  ·rw[r,A8 (b:=(g.name,-1,A2 d (AQ d g.ty) g.x Ar)) (by rw[<-I];exact if_pos h)];rfl
 rw[(f.invs.done l).1,Ak]at r;rw[r,xv];unfold exp3;generalize M:(λ(_:Nat) (m:Po)=>if A2 d (AQ d m.ty) m.x Ai≠0 then some ((sPot,-1,A2 d (AQ d m.ty) m.x Ai):Flt)else none)=F3;refine C0 d.pots.length (λk V1=>V.sub V1/\Ak F3 0 d.pots=Ak F3 k (d.pots.drop k)) ⟨o,rfl⟩ ?_;rintro k b c V1 J C ⟨o,r⟩ Q;have f:=R.sub o;refine⟨λl=>?_,λl=>?_⟩
 ·obtain⟨g,hm,D,G,P,q,a,u⟩:=f.pots.get l;rw[G]at r;have H:=Ah (n:=k*5) q;refine⟨q,a,l,H,_,_,_,_,_,u,q,a,l,H,_,_,_,_,_,u,Tri.mono (JX f B) ?_⟩;rintro _ V2 ⟨s',rfl,w,N⟩;have z:=w.rowp u;refine⟨s',false,rfl,HW (j:=1) (m:=4) z (by decide) (by decide),H,q,a,l,(c163 (sc:=AQ d g.ty) (e:=g.x) (f.sub w) N ((f.sub w).potsOk g hm) (hv.qs g hm)).call ⟨_,rfl,λh=>⟨f.pots.succ l,Q P _ _ _ ⟨o.trans w,?_⟩⟩,λh=>key _ _ _ (o.trans w) ?_⟩⟩;·rw[r,BA (by rw[<-M];exact if_neg λe=>e h)]
  ·rw[r,A8 (b:=(sPot,-1,A2 d (AQ d g.ty) g.x Ai)) (by rw[<-M];exact if_pos h)];rfl
 rw[(f.pots.done l).1,Ak]at r;rw[r,xv];have E:=LL W;unfold exp4;generalize F:(λ(_:Nat) (m:Bd)=>if A2 d (DD d ((BU d m.proc).getD Gu)) m.x Ai≠0 then some ((m.proc,-1,A2 d (DD d ((BU d m.proc).getD Gu)) m.x Ai):Flt)else none)=F4;refine C0 d.bounds.length (λk V1=>V.sub V1/\Ak F4 0 d.bounds=Ak F4 k (d.bounds.drop k)) ⟨o,rfl⟩ ?_;rintro k b c V1 J C ⟨o,r⟩ Q;have f:=R.sub o;refine⟨λl=>?_,λl=>?_⟩
 ·obtain⟨g,hm,D,G,P,q,a,u⟩:=f.bounds.get l;rw[G]at r;have H:=Ah (n:=k*5) q;obtain⟨p,hpp⟩:=E g hm;rcases Cw (λt:Pr=>decide (t.name=g.proc)) d.procs with⟨U,i2,i3⟩|⟨i,x,U,i2,i3,i4,i5,i6,i7,_⟩;·grind[BU]
  have K:BU d g.proc=some x:=i3;refine⟨q,a,l,H,_,_,_,_,_,u,(c158 f).call ⟨_,rfl,?_⟩⟩;rw[U];have hpn:=f.procs.n_eq;have Y:(i:Int)<(d.ps.n:Int):=by omega
  obtain⟨y,hmy,L,hdy,hly,S,T,O⟩:=f.procs.get Y;rw[i2]at L;cases L;refine⟨S,T,Y,_,_,_,_,_,O,q,a,l,H,_,_,_,_,_,u,Tri.mono (refInBound f (f.procsOk x i6) B (hv.small.2 x i6)) ?_⟩;rintro _ V2 ⟨s',rfl,w,N⟩;have z:=w.rowp u;have Z:(BU d g.proc).getD Gu=x:=by rw[K];rfl
  refine⟨s',false,rfl,HW (j:=1) (m:=4) z (by decide) (by decide),H,q,a,l,(c163 (sc:=DD d x) (e:=g.x) (f.sub w) N ((f.sub w).boundsOk g hm) (hv.bs g hm)).call ⟨_,rfl,λh=>⟨f.bounds.succ l,Q P _ _ _ ⟨o.trans w,?_⟩⟩,λh=>⟨q,a,l,H,_,_,_,_,_,z,key _ _ _ (o.trans w) ?_⟩⟩⟩;·rw[r,BA (by rw[<-F];exact if_neg λe=>e (by rw[Z];exact h))]
  ·rw[r,A8 (b:=(g.proc,-1,A2 d (DD d x) g.x Ai)) (by rw[<-F];exact(if_pos (by rw[Z];exact h)).trans (by rw[Z]))];try rfl
 rw[(f.bounds.done l).1,Ak]at r;rw[r];exact⟨rfl,o⟩
def f3(o:Option Flt):Value:=.tuple #[.string (fltR o).1,.int .i64 (fltR o).2.1,.int .i64 (fltR o).2.2]
theorem O2(w:Ds.Ok V d)(hv:Hf d):PP 64 [d.v] V (f3 (BJ d)):=by
 refine N9 ?_;unfold BJ;have bad:∀{a b:Option Flt},(∀r,a=some r->Hg r)->¬((fltR a).2.2=0)->(xJ (.tuple #[.string (fltR a).1,.int .i64 (-1),.int .i64 (fltR a).2.2])=xJ (f3 (a.or b))/\V=V):=λ{a b} l h=>by
  cases a with
  |none=>exact absurd rfl h
  |some r=>
   have:=l r rfl;unfold f3 fltR;simp only[Option.some_or,xu];rw[this.2];simp_all
 have good:∀{a:Option Flt},(∀r,a=some r->Hg r)->(fltR a).2.2=0->a=none:=λ{a} l h=>by
  cases a with
  |none=>rfl
  |some r=>exact absurd h (l r rfl).1
 refine(c113 w).call ⟨_,_,rfl,λh=>?_,λh=>bad (IS d) h⟩;rw[good (IS d) h,xv];refine(c114 w hv.small).call ⟨_,_,rfl,λh=>?_,λh=>bad (IT d) h⟩;rw[good (IT d) h,xv];refine(c115 w).call ⟨_,_,rfl,λh=>?_,λh=>bad (IU d) h⟩;have f:=good (IU d) h;rw[f,xv];unfold D5;generalize H:(λ(_:Nat) (p:Pr)=>if(AJ d (AI d p) p.result 0 p.body).2≠0 then some ((p.name,(AJ d (AI d p) p.result 0 p.body).1,(AJ d (AI d p) p.result 0 p.body).2):Flt)else none)=F1;refine loop4s (mk:=.string) (mc:=.int .i64) (md:=.int .i64) (Ab []) 0 0 BG d.procs.length (λk _ V1=>V=V1/\Ak F1 0 d.procs=Ak F1 k (d.procs.drop k)) ⟨rfl,rfl⟩ ?_;rintro k b c Y V1 J W ⟨rfl,j⟩ G;refine⟨λz=>?_,λz=>?_⟩
 ·obtain⟨g,hm,Q,q,N,i,o,u⟩:=w.procs.get z;rw[q]at j;have s:=Ah (n:=k*5) i;have y:=w.procsOk g hm;obtain⟨e,Z⟩:=hv.ps g hm;refine⟨i,o,z,_,_,_,_,_,u,i,o,z,s,_,_,_,_,_,u,(refStmts w y hv.small.1 (hv.small.2 g hm) g.body g.bs 0 1 y.body y.stmts e (by omega) (by omega)).call ⟨_,_,rfl,λh=>⟨w.procs.succ z,G N _ _ _ _ ⟨rfl,?_⟩⟩,λh=>⟨i,o,z,s,_,_,_,_,_,u,?_⟩⟩⟩;·rw[j,BA (by grind)]
  ·rw[j,A8 (b:=(g.name,(AJ d (AI d g) g.result 0 g.body).1,(AJ d (AI d g) g.result 0 g.body).2)) (by grind)];exact⟨rfl,rfl⟩
 rw[(w.procs.done z).1,Ak]at j;rw[j,xv];refine(c117 w hv f).call ⟨_,_,rfl,λh=>?_,λh=>?_⟩;·rw[good (IV d) h];exact⟨rfl,rfl⟩
 ·have:=bad (b:=none) (IV d) h;grind
def wellT(d:Ds):Bool:=A7 d&&decide ((fltR (BJ d)).2.2=0)
theorem O3(g:Ds.Ok V d):PP 26 [d.v] V (.bool (wellT d)):=by
 refine Nz ?_;unfold wellT;refine(JV g).call ⟨_,rfl,λh=>(O2 g (vparts h)).call ⟨_,_,_,rfl,?_⟩,λh=>?_⟩;·simp_all
 simp_all
end
structure BB (V:Mem)(c:Option Addr)(d:Ds):Prop where
 at_:∃cb mt mp t,c=some ⟨cb,0,none⟩/\V cb=some (.cells (d.row++[zz (some mt),zz (some mp)]).toArray t (0,0))/\A5 V mt (λk=>(tyOf d k).map Ty.v)/\A5 V mp (λk=>(BU d k).map Pr.v)
 ok:Ds.Ok V d
theorem BB.sub{V V':Mem}{c:Option Addr}{d:Ds}(h:BB V c d)(g:V.sub V'):BB V' c d:=by
 obtain⟨cb,mt,mp,t,f,u,w,z⟩:=h.at_;exact⟨⟨cb,mt,mp,t,f,g _ _ u,w.sub g,z.sub g⟩,h.ok.sub g⟩
theorem BB.nn{V:Mem}{c:Option Addr}{d:Ds}(h:BB V c d):¬(c=none):=by
 obtain⟨cb,mt,mp,t,g,f,u,w⟩:=h.at_;rw[g];simp
theorem BB.cell{V:Mem}{c:Option Addr}{d:Ds}(h:BB V c d){i:Nat}{v:Value}(hv:(d.row)[i]?=some v):V.rowp c (i*1) 1=some [v]:=by
 obtain⟨cb,mt,mp,t,g,f,w,z⟩:=h.at_;rw[g,Nat.mul_one];have y:=(yv.1 hv).1;have h8:d.row.length=8:=rfl;rw[An f i 1 (by simp;omega)];have:(d.row++[zz (some mt),zz (some mp)])[i]?=some v:=by grind
 have u:i<(d.row++[zz (some mt),zz (some mp)]).length:=by rw[List.length_append];omega
 show some (((d.row++[zz (some mt),zz (some mp)]).drop i).take 1)=_;rw[List.drop_eq_getElem_cons u,(yv.1 this).2];rfl
theorem BB.types{V:Mem}{c:Option Addr}{d:Ds}(h:BB V c d):∃mt,V.rowp c 8 1=some [.map (some mt)]/\A5 V mt (λk=>(tyOf d k).map Ty.v):=by
 obtain⟨cb,mt,mp,t,g,f,u,w⟩:=h.at_;exact⟨mt,by rw[g,An f 8 1 (by simp[Ds.row])];rfl,u⟩
theorem BB.procs{V:Mem}{c:Option Addr}{d:Ds}(h:BB V c d):∃mt,V.rowp c 9 1=some [.map (some mt)]/\A5 V mt (λk=>(BU d k).map Pr.v):=by
 obtain⟨cb,mt,mp,t,g,f,w,u⟩:=h.at_;exact⟨mp,by rw[g,An f 9 1 (by simp[Ds.row])];rfl,u⟩
def BK(l:List Fld)(k:KB):Option KB:=(l.find? λf=>decide (f.name=k)).map (·.ty)
theorem LM(l:List Fld)(k:KB):Bn l k=(BK l k).getD sE:=by
 induction l with
 |nil=>rfl
 |cons f l h=>
  grind[BK,Bn]
def NE(l:List Fld):Prop:=∀f∈l,f.ty≠sE
theorem NE.some{l:List Fld}(h:NE l){k t:KB}(hv:BK l k=some t):t≠sE:=by
 unfold BK at hv;obtain⟨f,g,rfl⟩:=Option.map_eq_some_iff.1 hv;exact h f (xr g)
structure Em (V:Mem)(m:Option Nat)(sc:Sc):Prop where
 at_:∃mb,m=some mb/\A5 V mb (λk=>(BK sc.vars k).map Value.string)
 ne:NE sc.vars
theorem Em.sub{V V':Mem}{m:Option Nat}{sc:Sc}(h:Em V m sc)(g:V.sub V'):Em V' m sc:=by
 obtain⟨mb,f,u⟩:=h.at_;exact⟨⟨mb,f,u.sub g⟩,h.ne⟩
def sV(c:Option Addr)(m:Option Nat)(sc:Sc):Value:=.agg #[.pointer c,.map m,.bool sc.body]
structure DO (d:Ds):Prop where
 types:∀t∈d.types,NE t.fields
 globals:NE d.globals
 params:∀p∈d.procs,NE p.params/\NE p.locals
theorem typB_ne{s:KB}(h:typB s=true):s≠sE:=by
 intro e;subst e;have:typB sE=false:=by
  rfl
 simp_all
theorem flds_ne{l:List Fld}{n:Int}(h:CT l n=true):NE l:=λf g=>by
 simp_all[CT,zC,z6,fldB,typB_ne]
theorem O5{d:Ds}(h:A7 d=true):DO d:=by
 unfold A7 at h;simp only[zC,decide_eq_true_eq,z6]at h;obtain⟨⟨⟨⟨⟨⟨⟨-,-⟩,u⟩,-⟩,-⟩,w⟩,z⟩,-⟩:=h;refine⟨λt g=>?_,flds_ne u,λp f=>?_⟩
 ·have:=w t g;unfold Ei at this;rw[zC]at this;exact flds_ne this.2
 ·have:=z p f;unfold DC at this;simp only[zC]at this;grind[flds_ne]
theorem zero112(w:World):(zeroValue 112).run xG w=.ok (.agg #[.string zA,.slice none 0 0]) w:=by kernel_rfl
theorem zero74(w:World):(zeroValue 74).run xG w=.ok (.agg #[.string zA,.slice none 0 0,.string zA,.slice none 0 0,.slice none 0 0]) w:=by kernel_rfl
theorem zero9(w:World):(zeroValue 9).run xG w=.ok (.string zA) w:=by kernel_rfl
theorem tyOf_node(d:Ds)(s:KB):(tyOf d s).isSome=BE d s:=by
 grind[tyOf,BE]
theorem tyOf_mem{d:Ds}{s:KB}{t:Ty}(h:tyOf d s=some t):t∈d.types:=xr h
theorem J6{d:Ds}{s:KB}{t:Pr}(h:BU d s=some t):t∈d.procs:=xr h
section
variable{V:Mem}{d:Ds}{c:Option Addr}{m:Option Nat}{sc:Sc}
theorem c240(h:BB V c d){s:KB}:PP 240 [.pointer c,.string s] V (.bool (BE d s)):=by
 refine x240 ?_;obtain⟨mt,g,f⟩:=h.types;refine⟨h.nn,h.nn,_,g,Bu.str xq xo zero112 f ?_⟩;rw[<-tyOf_node];cases u:tyOf d s with
 |none=>exact⟨_,⟨none,0,0⟩,_,rfl,rfl,rfl⟩
 |some t=>exact⟨_,t.fs,_,rfl,rfl,rfl⟩
theorem c235(h:BB V c d){s:KB}:PP 235 [.pointer c,.string s] V (.bool (known d s)):=by
 refine x235 ?_;refine⟨λg=>?_,λg=>⟨λf=>?_,λf=>(c240 h).call ⟨_,rfl,?_⟩⟩⟩<;>simp[known,Ai,Ar, *]
theorem c295(h:BB V c d){s t:KB}:PP 295 [.pointer c,.string s,.string t] V (.bool (Bi d s t)):=by
 refine x295 ?_;unfold Bi C1;refine⟨λg=>?_,λg=>⟨λf=>(c240 h).call ⟨_,rfl,?_⟩,λf=>?_⟩⟩;·simp_all
 ·simp_all
 simp_all
theorem c296(h:BB V c d)(hv:DO d){s t:KB}:PP 296 [.pointer c,.string s,.string t] V (.tuple #[.string (C2 d s t).1,.int .i64 (C2 d s t).2]):=by
 refine x296 ?_;obtain⟨mt,r,q⟩:=h.types;refine⟨h.nn,h.nn,_,r,Bu.str xq xo zero112 q ?_⟩;unfold C2;cases l:tyOf d s with
 |none=>exact⟨_,⟨none,0,0⟩,_,rfl,λh=>absurd h (by simp),λ_=>⟨rfl,rfl⟩⟩
 |some ty=>
  refine⟨_,ty.fs,_,rfl,λ_=>?_,λh=>absurd rfl h⟩;have w:=(h.ok.typesOk ty (tyOf_mem l)).fields;have z:=hv.types ty (tyOf_mem l);simp only;refine C0 ty.fields.length (λi V1=>V=V1/\Bn ty.fields t=Bn (ty.fields.drop i) t) ⟨rfl,rfl⟩ ?_;rintro i b c V1 J G ⟨rfl,f⟩ o;refine⟨λg=>?_,λy=>?_⟩
  ·obtain⟨x,hm,N,j,a,e,H,u⟩:=w.get g;rw[j,Bn]at f;refine⟨e,H,g,_,_,u,λn=>?_,λn=>⟨w.succ g,o a _ _ _ ⟨rfl,?_⟩⟩⟩
   ·rw[if_pos n]at f;rw[f,if_neg (z x hm)];simp_all
   simp_all
  ·rw[(w.done y).1,Bn]at f;rw[f,if_pos rfl];exact⟨rfl,rfl⟩
theorem c306{b:Nat}{s:KB}{t:Nat}(h:V b=some (cell (.string s) t)){x:Ms}:PP 306 [x.v,pv b] V (.bool (decide (x.name=s))):=by
 refine x306 ?_;exact⟨_,Ax h,rfl,rfl⟩
def Hh{α:Type}(f:FuncId)(row:α->List Value)(v:α->Value)(sz:Nat):Prop:=∀{V:Mem}{l:Sl}{xs:List α}{g:Nat}{first caps:List Value}(h:Ad V l sz (xs.map row))(u:FP g)(p:α->Bool) (w:∀x∈xs,PP g (first++[v x]++caps) V (.bool (p x))),PP f [l.v,.func (.func g) first.toArray caps.toArray] V (.int .i64 (Ci p xs))
theorem HX{α:Type}{f:FuncId}{row:α->List Value}{v:α->Value}{sz:Nat}(H:IdxP f row v sz):Hh f row v sz:=by
 intro V l xs g first j h n p r
 refine Tri.mono (H n (λi V1=>V=V1/\AW (λy=>!p y) xs i) (λi V1=>V=V1/\∃x,xs[i]?=some x/\p x=true/\AW (λy=>!p y) xs i) (λi V1 u=>u.1▸h) ⟨rfl,AW.zero _ _⟩ ?_) ?_
 ·rintro i x V1 w ⟨rfl,u⟩;have hm:x∈xs:=List.mem_of_getElem? w;exact(r x hm).callv ⟨_,rfl,λz=>⟨rfl,x,w,z,u⟩,λz=>⟨rfl,Hd u w z⟩⟩
 ·rintro e V' (⟨i,rfl,rfl,x,w,z,u⟩|⟨rfl,rfl,u⟩);·rw[Hb u w z];simp_all
  ·rw[Hc u (Nat.le_refl _)];simp_all
theorem idxMs:Hh 198 Ms.row Ms.v 7:=HX g198
theorem c303(h:BB V c d){s:KB}{l:Sl}{xs:List KB}(e:Ad V l 1 (xs.map BD)):PP 303 [sV c m sc,.string s,l.v] V (.tuple #[.string (E6 d s xs).1,.int .i64 (E6 d s xs).2]):=by
 refine A1.mk (x303 ?_);refine⟨h.nn,h.nn,Ah h.nn,d.ms,h.cell (i:=4) rfl,λb H=>?_⟩;have j:=Mem.sub_new H (cell (.string s) 9);have g:=h.sub j;have f:=e.sub j;refine(idxMs (l:=d.ms) (first:=[]) (caps:=[pv b]) g.ok.measures Tryz.call306 (λt=>decide (t.name=s)) (λx _=>c306 Ao)).call ⟨_,rfl,?_⟩;unfold E6 meOf;have key:∀{X:KB×Int}(a:KB)(n:Int),X=(a,n)->(xJ (.tuple #[.string a,.int .i64 n])=xJ (.tuple #[.string X.1,.int .i64 X.2])/\V.sub (V.set b (cell (.string s) 9))):=λa n h=>by simp_all
 rcases Cw (λt:Ms=>decide (t.name=s)) d.measures with⟨g,J,W⟩|⟨i,x,i1,i2,i3,i4,i5,i6,i7,_⟩;·rw[g,J];exact⟨λ_=>key _ _ rfl,λh=>absurd h (by decide)⟩
 ·rw[i1,i3];have Q:=g.ok.measures.n_eq;have u:(i:Int)<(d.ms.n:Int):=by omega
  obtain⟨y,hm,r,G,N,q,Z,w⟩:=g.ok.measures.get u;rw[i2]at r;cases r;have P:=f.n_eq;refine⟨λh=>absurd h (by omega),λ_=>⟨λY=>?_,λY=>key _ _ (if_pos (by omega))⟩⟩;obtain⟨a1,a2,a3⟩:=El f (i:=0) (by omega);have o:¬(xs.length≠1):=by omega
  refine⟨a1,by omega,by omega,_,a3,h.nn,h.nn,Ah h.nn,d.ms,g.cell (i:=4) rfl,q,Z,u,Ah q,_,_,_,_,_,_,_,w,(c295 g).call ⟨_,rfl,λz=>key _ _ ?_,λz=>key _ _ ?_⟩⟩;·simp only[o,if_false];unfold CP;rw[if_pos z];rfl
  ·simp only[o,if_false];unfold CP;rw[if_neg z];rfl
theorem c305{b:Nat}{s:KB}{t:Nat}(h:V b=some (cell (.string s) t)){x:KB}:PP 305 [strV x,pv b] V (.bool (!decide (x=s))):=by
 refine x305 ?_;exact⟨_,Ax h,rfl,rfl⟩
theorem c304{b t:Nat}{l:Sl}{xs:List KB}(u:V b=some (cell (.slice l.p l.n l.c) t))(w:Ad V l 1 (xs.map BD)){s r:KB}:
  PP 304 [.string s,.string r,pv b] V (.tuple #[.string (CP (allT xs s) r).1,.int .i64 (CP (allT xs s) r).2]):=by
 refine A1.mk (x304 ?_);refine⟨l,Ax u,λb1 g=>?_⟩;have f:=Mem.sub_new g (cell (.string s) 9);refine(LD (l:=l) (first:=[]) (caps:=[pv b1]) (w.sub f) Tryz.call305 (λx=>!decide (x=s)) (λx _=>c305 Ao)).call ⟨_,rfl,λh=>?_,λh=>?_⟩
 ·rw[xW]at h;have:allT xs s=false:=by grind[allT]
  rw[this];exact⟨rfl,f⟩
 ·rw[xW]at h;have:allT xs s=true:=by grind[allT]
  rw[this];exact⟨rfl,f⟩
end
theorem fits_first{d:Ds}{a b:KB}(h:Bi d a b=true):(if a=C1 then b else a)=b:=by
 grind[Bi]
theorem fits_second{d:Ds}{a b:KB}(h:¬Bi d a b=true)(g:Bi d b a=true):(if a=C1 then b else a)=a:=by
 grind[Bi,absurd]
def Gx(d:Ds)(sc:Sc)(s:KB)(l:List KB):KB×Int:=if sc.body=true then D4 d s l else E6 d s l
theorem measT_ne{d:Ds}{s:KB}{l:List KB}(h:(E6 d s l).2=0):(E6 d s l).1≠sE:=by
 unfold E6 at h⊢;split at h;·omega
 ·split at h;·omega
  ·rename_i g;simp only[if_neg g];unfold CP at h⊢;split at h;·rename_i f;rw[if_pos f];simp only;decide
   omega
theorem callE_raw(d:Ds)(sc:Sc)(s:KB)(l:List KB):ED d sc s l=if(Gx d sc s l).2=0/\(Gx d sc s l).1=sE then(sE,11)else Gx d sc s l:=by
 unfold ED Gx;by_cases h:sc.body=true;·simp_all
 simp_all[if_neg,absurd,measT_ne]
section
variable{V:Mem}{d:Ds}{c:Option Addr}{m:Option Nat}{sc:Sc}
def ImpE(V:Mem)(d:Ds)(c:Option Addr)(m:Option Nat)(sc:Sc)(e:E):Prop:=∀V1,V.sub V1->PP 285 [sV c m sc,e.v] V1 (.tuple #[.string (Al d sc e).1,.int .i64 (Al d sc e).2])
def rawT(d:Ds)(sc:Sc)(e:E):KB×Int:=if(partsT d sc [] e.k).2≠0 then(sE,(partsT d sc [] e.k).2)else Gx d sc e.s (partsT d sc [] e.k).1
theorem impCall(h:BB V c d)(e:E)(I:E.Ok V e)(hlen:(e.k.length:Int)<=6)(hk:∀x∈e.k,ImpE V d c m sc x):
  PP 294 [sV c m sc,e.v] V (.tuple #[.string (rawT d sc e).1,.int .i64 (rawT d sc e).2]):=by
 have hr:=I.rows;refine A1.mk (x294 ?_);unfold rawT;refine loop4s (mk:=.string) (mc:=.int .i64) (md:=λs:Sl=>.slice s.p s.n s.c) (Ab []) 0 ⟨none,0,0⟩ AT e.k.length (λi s V1=>∃acc,Own V V1 9 1 s (acc.flatMap BD)/\partsT d sc [] e.k=partsT d sc acc (e.k.drop i)/\acc.length=i) ⟨[],Own.nil (Mem.sub.refl _) _ _,rfl,rfl⟩ ?_;rintro i b b' s V1 J hi ⟨acc,g,l,r⟩ M;have q:=hr.sub g.sub;refine⟨λz=>?_,λo=>?_⟩
 ·obtain⟨x,hm,hx,F,hl,L,hz,Z⟩:=q.get z;rw[F,Gs]at l;refine⟨L,hz,z,_,_,_,_,Z,(hk x hm V1 g.sub).call ⟨_,_,rfl,λP=>?_,λP=>?_⟩⟩
  ·intro b1 R;rw[if_neg (λh=>h P)]at l;refine app37 (s:=s) (u:=⟨some ⟨b1,0,none⟩,1,1⟩) (xs:=acc) (ys:=[(Al d sc x).1]) rfl rfl (g.new R _) (HV Ao) (by simp;omega) λs' V' ho=>⟨s',rfl,q.succ z,M hl _ _ _ _ ⟨_,ho,l,by simp[r]⟩⟩
  ·rw[if_pos P]at l;rw[l];simp only[ne_eq,P,not_false_eq_true,if_true];exact⟨by trivial,g.sub⟩
 ·rw[(q.done o).1,Ha]at l;rw[l];simp only[ne_eq,not_true_eq_false,if_false];have w:=ownS g;have O:=h.sub g.sub;have key:∀{X:KB×Int}(a:KB)(n:Int),X=(a,n)->(xJ (.tuple #[.string a,.int .i64 n])=xJ (.tuple #[.string X.1,.int .i64 X.2])/\V.sub V1):=λa n h=>by rw[h];exact⟨rfl,g.sub⟩
  unfold Gx;refine⟨λN=>?_,λN=>?_⟩
  ·rw[if_pos N];obtain⟨mt,q1,q2⟩:=O.procs;refine⟨h.nn,h.nn,_,q1,Bu.str Tryz.underlying258 xo zero74 q2 ?_⟩;unfold D4;cases B:BU d e.s with
   |none=>exact⟨_,⟨none,0,0⟩,_,⟨none,0,0⟩,⟨none,0,0⟩,_,rfl,λh=>absurd h (by simp),λ_=>key _ _ rfl⟩
   |some p=>
    have Y:=O.ok.procsOk p (J6 B);have e1:=w.n_eq;have e2:=Y.params.n_eq;refine⟨_,p.ps,_,p.ls,p.bs,_,rfl,λ_=>⟨λI=>?_,λI=>key _ _ (if_pos (by omega))⟩,λh=>absurd rfl h⟩;have C:acc.length=p.params.length:=by omega
    simp only[C,ne_eq,not_true_eq_false,if_false];refine C0 acc.length (λi V2=>V1=V2/\D3 d acc p.params=D3 d (acc.drop i) (p.params.drop i)) ⟨rfl,rfl⟩ ?_;rintro j b c' V2 J hi ⟨rfl,A⟩ M;refine⟨λz=>?_,λo=>?_⟩
    ·obtain⟨y,hm',hx',W,D,K,S,H⟩:=w.get z;obtain⟨f,hmf,hxf,T,hlf,Q,U,G⟩:=Y.params.get (i:=j) (by omega);rw[W,T,D3]at A;refine⟨K,S,z,_,H,Q,U,by omega,Ah Q,_,_,G,(c295 O).call ⟨_,rfl,λN=>⟨w.succ z,M D _ _ _ ⟨rfl,?_⟩⟩,λN=>key _ _ ?_⟩⟩;·simp_all
     ·rw[eq_false_of_ne_true N,Bool.false_and]at A;rw[A];rfl
    ·rw[(w.done o).1,LG]at A;simp_all
  ·rw[if_neg N];exact(c303 O w).call ⟨_,_,rfl,key _ _ rfl⟩
theorem impNode(h:BB V c d)(hv:DO d)(S:Em V m sc){e:E}{l:Sl}{xs:List KB}(O:Ad V l 1 (xs.map BD))(T:xs.length=e.k.length)(A:CF e.op e.n e.s e.k.length=true)(h7:e.op≠7):
  PP 297 [sV c m sc,e.v,l.v] V (.tuple #[.string (Ej d sc e.op e.s xs).1,.int .i64 (Ej d sc e.op e.s xs).2]):=by
 have Z:=arity A;refine A1.mk (x297 ?_);generalize g:Ej d sc e.op e.s xs=X;have key:∀{V1:Mem}(a:KB)(n:Int),V.sub V1->X=(a,n)->(xJ (.tuple #[.string a,.int .i64 n])=xJ (.tuple #[.string X.1,.int .i64 X.2])/\V.sub V1):=λa n I h=>by simp_all
 have u:=Mem.sub.refl V;have f:=λa b=>c295 h (s:=a) (t:=b);have H:=λh:0<xs.length=>El O h;have at1:=λh:1<xs.length=>El O h;have at2:=λh:2<xs.length=>El O h;have call:∀(s r:KB),X=CP (allT xs s) r->Af [(.slice l.p l.n l.c)] 37 V λv8 V1=>
   Tri xG 304 #[(.string s),(.string r),(.pointer (Aa v8 0))] V1 λz V2=>∃U:KB,∃Y:Int,z=.returned (.tuple #[(.string U),(.int .i64 Y)])/\(xJ (.tuple #[(.string U),(.int .i64 Y)])=xJ (.tuple #[.string X.1,.int .i64 X.2])/\V.sub V2):=λs r hx b W=>by
  have I:=Mem.sub_new W (cell (.slice l.p l.n l.c) 37);exact(c304 (l:=l) Ao (O.sub I)).call ⟨_,_,rfl,key _ _ I (by rw[hx])⟩
 unfold Ej at g;refine⟨λw=>key _ _ u ?_,λw=>⟨λy=>key _ _ u ?_,λy=>⟨λj=>key _ _ u ?_,λj=>⟨λi=>?_,λi=>⟨λq=>?_,λq=>⟨λJ=>?_,λJ=>⟨λM=>?_,λM=>⟨λF=>?_,λF=>⟨λL=>call _ _ ?_,λL=>⟨λR=>call _ _ ?_,λR=>⟨λB=>call _ _ ?_,λB=>⟨λC=>call _ _ ?_,λC=>⟨λD=>call _ _ ?_,λD=>⟨λG=>?_,λG=>call _ _ ?_⟩⟩⟩⟩⟩⟩⟩⟩⟩⟩⟩⟩⟩⟩;·rw[<-g,if_pos w];rfl
 ·rw[<-g,if_neg w,if_pos y];rfl
 ·rw[<-g,if_neg w,if_neg y,if_pos j];rfl
 ·rw[if_neg w,if_neg y,if_neg j,if_pos i,LM]at g;obtain⟨mb,rfl,Q⟩:=S.at_;refine Bu.str xn xo zero9 Q ?_;cases N:BK sc.vars e.s with
  |none=>
   rw[N,xm]at g;exact⟨_,_,rfl,λh=>absurd h (by simp),λ_=>key _ _ u (by rw[<-g,if_pos rfl];rfl)⟩
  |some t=>
   rw[N,xu]at g;exact⟨t,_,rfl,λ_=>key _ _ u (by rw[<-g,if_neg (S.ne.some N)]),λh=>absurd rfl h⟩
 ·rw[if_neg w,if_neg y,if_neg j,if_neg i,if_pos q]at g;obtain⟨a1,a2,a3⟩:=H (by omega);exact⟨a1,by omega,a2,_,a3,(c296 h hv).call ⟨_,_,rfl,key _ _ u (by rw[<-g])⟩⟩
 ·rw[if_neg w,if_neg y,if_neg j,if_neg i,if_neg q,if_pos J]at g;refine⟨λW=>(c240 h).call ⟨_,rfl,λhn=>key _ _ u ?_,λhn=>key _ _ u ?_⟩,λW=>key _ _ u ?_⟩;·simp_all
  ·rw[<-g,if_neg (by rw[W];simp),if_pos (eq_false_of_ne_true hn)];rfl
  ·rw[<-g,if_pos (eq_false_of_ne_true W)];rfl
 iterate 2
  ·rw[if_neg w,if_neg y,if_neg j,if_neg i,if_neg q,if_neg J,if_neg h7,if_pos (by omega)]at g;obtain⟨a1,a2,a3⟩:=H (by have:=Z.2.1 (by omega);omega);obtain⟨b1,b2,b3⟩:=at1 (by have:=Z.2.1 (by omega);omega);refine⟨a1,by omega,a2,_,a3,b1,by omega,b2,_,b3,(f _ _).call ⟨_,rfl,λh=>key _ _ u ?_,λh=>⟨b1,by omega,b2,_,b3,a1,by omega,a2,_,a3,(f _ _).call ⟨_,rfl,λo=>key _ _ u ?_,λo=>key _ _ u ?_⟩⟩⟩⟩;·rw[<-g,h];rfl
   ·rw[<-g,o,Bool.or_true];rfl
   ·rw[<-g,eq_false_of_ne_true h,eq_false_of_ne_true o];rfl
 iterate 2
  ·rw[if_neg w,if_neg y,if_neg j,if_neg i,if_neg q,if_neg J,if_neg h7,if_neg (by omega),if_pos (by omega)]at g;exact g.symm
 iterate 3
  ·rw[if_neg w,if_neg y,if_neg j,if_neg i,if_neg q,if_neg J,if_neg h7,if_neg (by omega),if_neg (by omega),if_pos (by omega)]at g;exact g.symm
 ·rw[if_neg w,if_neg y,if_neg j,if_neg i,if_neg q,if_neg J,if_neg h7,if_neg (by omega),if_neg (by omega),if_neg (by omega),if_pos G]at g;obtain⟨a1,a2,a3⟩:=H (by omega);obtain⟨b1,b2,b3⟩:=at1 (by omega);obtain⟨K,c2,c3⟩:=at2 (by omega);refine⟨a1,by omega,a2,_,a3,λP=>⟨b1,by omega,b2,_,b3,K,by omega,c2,_,c3,(f _ _).call ⟨_,rfl,λh=>⟨K,by omega,c2,_,c3,key _ _ u ?_⟩,λh=>⟨K,by omega,c2,_,c3,b1,by omega,b2,_,b3,(f _ _).call ⟨_,rfl,λo=>⟨b1,by omega,b2,_,b3,key _ _ u ?_⟩,λo=>key _ _ u ?_⟩⟩⟩⟩,λP=>key _ _ u ?_⟩;·rw[<-g,decide_eq_true (show xs.getD 0 sE=Ar from P),h,fits_first h];rfl
  ·rw[<-g,decide_eq_true (show xs.getD 0 sE=Ar from P),o,Bool.or_true,fits_second h o];rfl
  ·rw[<-g,decide_eq_true (show xs.getD 0 sE=Ar from P),eq_false_of_ne_true h,eq_false_of_ne_true o];rfl
  ·rw[<-g,decide_eq_false (show ¬xs.getD 0 sE=Ar from P)];rfl
 ·rw[if_neg w,if_neg y,if_neg j,if_neg i,if_neg q,if_neg J,if_neg h7,if_neg (by omega),if_neg (by omega),if_neg (by omega),if_neg G]at g;exact g.symm
theorem impExpr(h:BB V c d)(hv:DO d)(L:Em V m sc):∀(e:E),E.Ok V e->∀G,Bv G e=true->ImpE V d c m sc e:=by
 intro e;induction e using E.ind with
 |h e R=>
 intro N G z V1 r;have Z:=arity (HU z);have O:∀x∈e.k,ImpE V1 d c m sc x:=λx H V2 q=>R x H (N.kids x H) (G+1) (IP z x H) V2 (r.trans q);have A:=h.sub r;refine A1.mk (x285 ?_);have I:=JW d sc e.k [];refine⟨λM=>(impCall A e (N.sub r) Z.2.2.2 O).call ⟨_,_,rfl,?_⟩,λM=>?_⟩
 ·have Y:Al d sc e=if(rawT d sc e).2=0/\(rawT d sc e).1=sE then(sE,11)else rawT d sc e:=by
   rw[IM];unfold rawT;by_cases f:(partsT d sc [] e.k).2≠0;·simp_all
   simp_all[if_neg,Ej,if_pos,callE_raw]
  rw[Y];refine⟨λf=>⟨λq=>?_,λq=>?_⟩,λf=>?_⟩;·rw[if_pos ⟨f,q⟩];exact⟨rfl,Mem.sub.refl _⟩
  ·rw[if_neg (λh=>q h.2)];exact⟨rfl,Mem.sub.refl _⟩
  ·rw[if_neg (λh=>f h.1)];exact⟨rfl,Mem.sub.refl _⟩
 ·rw[IM];have X:=(N.sub r).rows;refine loop4s (mk:=.string) (mc:=.int .i64) (md:=λs:Sl=>.slice s.p s.n s.c) (Ab []) 0 ⟨none,0,0⟩ AT e.k.length (λi s V2=>∃acc,Own V1 V2 9 1 s (acc.flatMap BD)/\partsT d sc [] e.k=partsT d sc acc (e.k.drop i)/\acc.length=i) ⟨[],Own.nil (Mem.sub.refl _) _ _,rfl,rfl⟩ ?_;rintro i b S s V2 J T ⟨acc,g,y,j⟩ B;have w:=X.sub g.sub;refine⟨λl=>?_,λo=>?_⟩
  ·obtain⟨x,hm,H,W,C,Q,D,a⟩:=w.get l;rw[W,Gs]at y;refine⟨Q,D,l,_,_,_,_,a,(O x hm V2 g.sub).call ⟨_,_,rfl,λf=>?_,λf=>?_⟩⟩
   ·intro b1 P;rw[if_neg (λh=>h f)]at y;refine app37 (s:=s) (u:=⟨some ⟨b1,0,none⟩,1,1⟩) (xs:=acc) (ys:=[(Al d sc x).1]) rfl rfl (g.new P _) (HV Ao) (by simp;omega) λs' V' K=>⟨s',rfl,w.succ l,B C _ _ _ _ ⟨_,K,y,by simp[j]⟩⟩
   ·rw[if_pos f]at y;rw[y];simp only[ne_eq,f,not_false_eq_true,if_true];exact⟨by trivial,g.sub⟩
  ·have F:=(w.done o).2;rw[(w.done o).1,Ha]at y;rw[y];simp only[ne_eq,not_true_eq_false,if_false];refine(impNode (A.sub g.sub) hv ((L.sub r).sub g.sub) (ownS g) (by omega) (HU z) M).call ⟨_,_,rfl,rfl,g.sub⟩
end
theorem Fu{c k:Nat}{p:Option Addr}:(if(c:Int)=(0:Int)then p else Aa p ((0:Int).toNat*k))=p:=by
 have:Aa p ((0:Int).toNat*k)=p:=by
  rw[show(0:Int).toNat*k=0 by simp];cases p with
  |none=>rfl
  |some a=>show some (a.add 0)=_;unfold zE;rw[if_pos rfl]
 split;·rfl
 ·exact this
theorem sub0{n:Nat}:((n:Int)-(0:Int)).toNat=n:=by omega
theorem Ad.pre{α:Type}{V:Mem}{l:Sl}{sz:Nat}{row:α->List Value}{xs:List α}(h:Ad V l sz (xs.map row)){i:Nat}(hi:i<=xs.length):Ad V ⟨l.p,i,l.c⟩ sz ((xs.take i).map row):=by
 have g:=h.n_eq;have f:=h.cap;refine⟨by simp[hi],by grind,h.fit,λr u=>h.size r ?_,λj r w=>h.at_ j r ?_⟩;·grind
 grind
theorem Fw{V:Mem}{p:Option Addr}{off n:Nat}{vs:List Value}(h:V.rowp p off n=some vs):V.rowp (Aa p off) 0 n=some vs:=by
 cases p with
 |none=>cases h
 |some a=>
  have:(a.add off).add 0=a.add off:=by rfl
  show V.row ((a.add off).add 0) n=_;rw[this];exact h
theorem c231{V:Mem}{x:Ty}:PP 231 [x.v] V (.string x.name):=by
 refine x231 ?_;exact⟨rfl,rfl⟩
theorem c274{V:Mem}{b1 b2 b3 b a t3 i:Nat}{l:Sl}{xs:List Ty}{x y:Ty}(f:V b1=some (cell (.func (.func 231) #[] #[]) b))(u:V b2=some (cell (.slice l.p l.n l.c) a))(w:V b3=some (cell (.int .i64 i) t3))
  (z:Ad V l 2 (xs.map Ty.row)) (j:xs[i]?=some y):PP 274 [x.v,pv b1,pv b2,pv b3] V (.bool (decide (x.name=y.name))):=by
 refine x274 ?_;have H:=z.n_eq;have e:=(yv.1 j).1;have g:(i:Int)<(l.n:Int):=by omega
 obtain⟨J,hm,r,s,G,q,o,h⟩:=z.get g;rw[j]at r;cases r;exact⟨.func (.func 231) #[] #[],rfl,Ax f,.func (.func 231) #[] #[],rfl,Ax f,l,Ax u,_,Ax w,q,o,g,_,_,h,_,_,_,rfl,Tryz.call231,(c231 (x:=x)).callv (first:=[]) (caps:=[]) ⟨_,rfl,Fw h,q,o,g,Ax w,Ax u,Ax f,_,_,_,rfl,Tryz.call231,(c231 (x:=y)).callv (first:=[]) (caps:=[]) ⟨_,rfl,rfl,rfl⟩⟩⟩
theorem c230{V:Mem}{l:Sl}{xs:List Ty}{i:Nat}{y:Ty}(u:Ad V l 2 (xs.map Ty.row))(z:xs[i]?=some y):PP 230 [l.v,.int .i64 i,.func (.func 231) #[] #[]] V (.bool ((xs.take i).any λg=>decide (g.name=y.name))):=by
 refine A1.mk (x230 (a:=l) (c:=.func (.func 231) #[] #[]) ?_);have n:=u.n_eq;have r:=u.cap;have j:=(yv.1 z).1;refine⟨⟨by omega,by omega,by omega⟩,λb1 w b2 f b3 h=>?_⟩;have s:=(Mem.sub_new w _).trans ((Mem.sub_new f _).trans (Mem.sub_new h (cell (.int .i64 i) 3)));simp only[Fu,sub0];refine(c175 (l:=⟨l.p,i,l.c⟩) (first:=[]) (caps:=[pv b1,pv b2,pv b3]) (Ad.pre (u.sub s) (by omega)) Tryz.call274 (λg=>decide (g.name=y.name)) (λx _=>c274 ((Mem.sub_new h _) _ _ ((Mem.sub_new f _) _ _ Ao)) ((Mem.sub_new h _) _ _ Ao) Ao (u.sub s) z)).call ⟨_,rfl,rfl,s⟩
theorem c234{V:Mem}{x:Fld}:PP 234 [x.v] V (.string x.name):=by
 refine x234 ?_;exact⟨rfl,rfl⟩
theorem c276{V:Mem}{b1 b2 b3 b a t3 i:Nat}{l:Sl}{xs:List Fld}{x y:Fld}(f:V b1=some (cell (.func (.func 234) #[] #[]) b))(u:V b2=some (cell (.slice l.p l.n l.c) a))(w:V b3=some (cell (.int .i64 i) t3))
  (z:Ad V l 2 (xs.map Fld.row)) (j:xs[i]?=some y):PP 276 [x.v,pv b1,pv b2,pv b3] V (.bool (decide (x.name=y.name))):=by
 refine x276 ?_;have H:=z.n_eq;have e:=(yv.1 j).1;have g:(i:Int)<(l.n:Int):=by omega
 obtain⟨J,hm,r,s,G,q,o,h⟩:=z.get g;rw[j]at r;cases r;exact⟨.func (.func 234) #[] #[],rfl,Ax f,.func (.func 234) #[] #[],rfl,Ax f,l,Ax u,_,Ax w,q,o,g,_,_,h,_,_,_,rfl,Tryz.call234,(c234 (x:=x)).callv (first:=[]) (caps:=[]) ⟨_,rfl,Fw h,q,o,g,Ax w,Ax u,Ax f,_,_,_,rfl,Tryz.call234,(c234 (x:=y)).callv (first:=[]) (caps:=[]) ⟨_,rfl,rfl,rfl⟩⟩⟩
theorem c233{V:Mem}{l:Sl}{xs:List Fld}{i:Nat}{y:Fld}(u:Ad V l 2 (xs.map Fld.row))(z:xs[i]?=some y):PP 233 [l.v,.int .i64 i,.func (.func 234) #[] #[]] V (.bool ((xs.take i).any λg=>decide (g.name=y.name))):=by
 refine A1.mk (x233 (a:=l) (c:=.func (.func 234) #[] #[]) ?_);have n:=u.n_eq;have r:=u.cap;have j:=(yv.1 z).1;refine⟨⟨by omega,by omega,by omega⟩,λb1 w b2 f b3 h=>?_⟩;have s:=(Mem.sub_new w _).trans ((Mem.sub_new f _).trans (Mem.sub_new h (cell (.int .i64 i) 3)));simp only[Fu,sub0];refine(HR (l:=⟨l.p,i,l.c⟩) (first:=[]) (caps:=[pv b1,pv b2,pv b3]) (Ad.pre (u.sub s) (by omega)) Tryz.call276 (λg=>decide (g.name=y.name)) (λx _=>c276 ((Mem.sub_new h _) _ _ ((Mem.sub_new f _) _ _ Ao)) ((Mem.sub_new h _) _ _ Ao) Ao (u.sub s) z)).call ⟨_,rfl,rfl,s⟩
theorem c237{V:Mem}{x:Pr}:PP 237 [x.v] V (.string x.name):=by
 refine x237 ?_;exact⟨rfl,rfl⟩
theorem c277{V:Mem}{b1 b2 b3 b a t3 i:Nat}{l:Sl}{xs:List Pr}{x y:Pr}(f:V b1=some (cell (.func (.func 237) #[] #[]) b))(u:V b2=some (cell (.slice l.p l.n l.c) a))(w:V b3=some (cell (.int .i64 i) t3))
  (z:Ad V l 5 (xs.map Pr.row)) (j:xs[i]?=some y):PP 277 [x.v,pv b1,pv b2,pv b3] V (.bool (decide (x.name=y.name))):=by
 refine x277 ?_;have H:=z.n_eq;have e:=(yv.1 j).1;have g:(i:Int)<(l.n:Int):=by omega
 obtain⟨J,hm,r,s,G,q,o,h⟩:=z.get g;rw[j]at r;cases r;exact⟨.func (.func 237) #[] #[],rfl,Ax f,.func (.func 237) #[] #[],rfl,Ax f,l,Ax u,_,Ax w,q,o,g,_,_,_,_,_,h,_,_,_,rfl,Tryz.call237,(c237 (x:=x)).callv (first:=[]) (caps:=[]) ⟨_,rfl,Fw h,q,o,g,Ax w,Ax u,Ax f,_,_,_,rfl,Tryz.call237,(c237 (x:=y)).callv (first:=[]) (caps:=[]) ⟨_,rfl,rfl,rfl⟩⟩⟩
theorem c236{V:Mem}{l:Sl}{xs:List Pr}{i:Nat}{y:Pr}(u:Ad V l 5 (xs.map Pr.row))(z:xs[i]?=some y):PP 236 [l.v,.int .i64 i,.func (.func 237) #[] #[]] V (.bool ((xs.take i).any λg=>decide (g.name=y.name))):=by
 refine A1.mk (x236 (a:=l) (c:=.func (.func 237) #[] #[]) ?_);have n:=u.n_eq;have r:=u.cap;have j:=(yv.1 z).1;refine⟨⟨by omega,by omega,by omega⟩,λb1 w b2 f b3 h=>?_⟩;have s:=(Mem.sub_new w _).trans ((Mem.sub_new f _).trans (Mem.sub_new h (cell (.int .i64 i) 3)));simp only[Fu,sub0];refine(HS (l:=⟨l.p,i,l.c⟩) (first:=[]) (caps:=[pv b1,pv b2,pv b3]) (Ad.pre (u.sub s) (by omega)) Tryz.call277 (λg=>decide (g.name=y.name)) (λx _=>c277 ((Mem.sub_new h _) _ _ ((Mem.sub_new f _) _ _ Ao)) ((Mem.sub_new h _) _ _ Ao) Ao (u.sub s) z)).call ⟨_,rfl,rfl,s⟩
theorem c239{V:Mem}{x:Ms}:PP 239 [x.v] V (.string x.name):=by
 refine x239 ?_;exact⟨rfl,rfl⟩
theorem c279{V:Mem}{b1 b2 b3 b a t3 i:Nat}{l:Sl}{xs:List Ms}{x y:Ms}(f:V b1=some (cell (.func (.func 239) #[] #[]) b))(u:V b2=some (cell (.slice l.p l.n l.c) a))(w:V b3=some (cell (.int .i64 i) t3))
  (z:Ad V l 7 (xs.map Ms.row)) (j:xs[i]?=some y):PP 279 [x.v,pv b1,pv b2,pv b3] V (.bool (decide (x.name=y.name))):=by
 refine x279 ?_;have H:=z.n_eq;have e:=(yv.1 j).1;have g:(i:Int)<(l.n:Int):=by omega
 obtain⟨J,hm,r,s,G,q,o,h⟩:=z.get g;rw[j]at r;cases r;exact⟨.func (.func 239) #[] #[],rfl,Ax f,.func (.func 239) #[] #[],rfl,Ax f,l,Ax u,_,Ax w,q,o,g,_,_,_,_,_,_,_,h,_,_,_,rfl,Tryz.call239,(c239 (x:=x)).callv (first:=[]) (caps:=[]) ⟨_,rfl,Fw h,q,o,g,Ax w,Ax u,Ax f,_,_,_,rfl,Tryz.call239,(c239 (x:=y)).callv (first:=[]) (caps:=[]) ⟨_,rfl,rfl,rfl⟩⟩⟩
theorem c238{V:Mem}{l:Sl}{xs:List Ms}{i:Nat}{y:Ms}(u:Ad V l 7 (xs.map Ms.row))(z:xs[i]?=some y):PP 238 [l.v,.int .i64 i,.func (.func 239) #[] #[]] V (.bool ((xs.take i).any λg=>decide (g.name=y.name))):=by
 refine A1.mk (x238 (a:=l) (c:=.func (.func 239) #[] #[]) ?_);have n:=u.n_eq;have r:=u.cap;have j:=(yv.1 z).1;refine⟨⟨by omega,by omega,by omega⟩,λb1 w b2 f b3 h=>?_⟩;have s:=(Mem.sub_new w _).trans ((Mem.sub_new f _).trans (Mem.sub_new h (cell (.int .i64 i) 3)));simp only[Fu,sub0];refine(c278 (l:=⟨l.p,i,l.c⟩) (first:=[]) (caps:=[pv b1,pv b2,pv b3]) (Ad.pre (u.sub s) (by omega)) Tryz.call279 (λg=>decide (g.name=y.name)) (λx _=>c279 ((Mem.sub_new h _) _ _ ((Mem.sub_new f _) _ _ Ao)) ((Mem.sub_new h _) _ _ Ao) Ao (u.sub s) z)).call ⟨_,rfl,rfl,s⟩
theorem c242{V:Mem}{x:Iv}:PP 242 [x.v] V (.string x.name):=by
 refine x242 ?_;exact⟨rfl,rfl⟩
theorem c281{V:Mem}{b1 b2 b3 b a t3 i:Nat}{l:Sl}{xs:List Iv}{x y:Iv}(f:V b1=some (cell (.func (.func 242) #[] #[]) b))(u:V b2=some (cell (.slice l.p l.n l.c) a))(w:V b3=some (cell (.int .i64 i) t3))
  (z:Ad V l 6 (xs.map Iv.row)) (j:xs[i]?=some y):PP 281 [x.v,pv b1,pv b2,pv b3] V (.bool (decide (x.name=y.name))):=by
 refine x281 ?_;have H:=z.n_eq;have e:=(yv.1 j).1;have g:(i:Int)<(l.n:Int):=by omega
 obtain⟨J,hm,r,s,G,q,o,h⟩:=z.get g;rw[j]at r;cases r;exact⟨.func (.func 242) #[] #[],rfl,Ax f,.func (.func 242) #[] #[],rfl,Ax f,l,Ax u,_,Ax w,q,o,g,_,_,_,_,_,_,h,_,_,_,rfl,Tryz.call242,(c242 (x:=x)).callv (first:=[]) (caps:=[]) ⟨_,rfl,Fw h,q,o,g,Ax w,Ax u,Ax f,_,_,_,rfl,Tryz.call242,(c242 (x:=y)).callv (first:=[]) (caps:=[]) ⟨_,rfl,rfl,rfl⟩⟩⟩
theorem c241{V:Mem}{l:Sl}{xs:List Iv}{i:Nat}{y:Iv}(u:Ad V l 6 (xs.map Iv.row))(z:xs[i]?=some y):PP 241 [l.v,.int .i64 i,.func (.func 242) #[] #[]] V (.bool ((xs.take i).any λg=>decide (g.name=y.name))):=by
 refine A1.mk (x241 (a:=l) (c:=.func (.func 242) #[] #[]) ?_);have n:=u.n_eq;have r:=u.cap;have j:=(yv.1 z).1;refine⟨⟨by omega,by omega,by omega⟩,λb1 w b2 f b3 h=>?_⟩;have s:=(Mem.sub_new w _).trans ((Mem.sub_new f _).trans (Mem.sub_new h (cell (.int .i64 i) 3)));simp only[Fu,sub0];refine(c280 (l:=⟨l.p,i,l.c⟩) (first:=[]) (caps:=[pv b1,pv b2,pv b3]) (Ad.pre (u.sub s) (by omega)) Tryz.call281 (λg=>decide (g.name=y.name)) (λx _=>c281 ((Mem.sub_new h _) _ _ ((Mem.sub_new f _) _ _ Ao)) ((Mem.sub_new h _) _ _ Ao) Ao (u.sub s) z)).call ⟨_,rfl,rfl,s⟩
theorem c244{V:Mem}{x:Bd}:PP 244 [x.v] V (.string x.proc):=by
 refine x244 ?_;exact⟨rfl,rfl⟩
theorem c282{V:Mem}{b1 b2 b3 b a t3 i:Nat}{l:Sl}{xs:List Bd}{x y:Bd}(f:V b1=some (cell (.func (.func 244) #[] #[]) b))(u:V b2=some (cell (.slice l.p l.n l.c) a))(w:V b3=some (cell (.int .i64 i) t3))
  (z:Ad V l 5 (xs.map Bd.row)) (j:xs[i]?=some y):PP 282 [x.v,pv b1,pv b2,pv b3] V (.bool (decide (x.proc=y.proc))):=by
 refine x282 ?_;have H:=z.n_eq;have e:=(yv.1 j).1;have g:(i:Int)<(l.n:Int):=by omega
 obtain⟨J,hm,r,s,G,q,o,h⟩:=z.get g;rw[j]at r;cases r;exact⟨.func (.func 244) #[] #[],rfl,Ax f,.func (.func 244) #[] #[],rfl,Ax f,l,Ax u,_,Ax w,q,o,g,_,_,_,_,_,h,_,_,_,rfl,Tryz.call244,(c244 (x:=x)).callv (first:=[]) (caps:=[]) ⟨_,rfl,Fw h,q,o,g,Ax w,Ax u,Ax f,_,_,_,rfl,Tryz.call244,(c244 (x:=y)).callv (first:=[]) (caps:=[]) ⟨_,rfl,rfl,rfl⟩⟩⟩
theorem c243{V:Mem}{l:Sl}{xs:List Bd}{i:Nat}{y:Bd}(u:Ad V l 5 (xs.map Bd.row))(z:xs[i]?=some y):PP 243 [l.v,.int .i64 i,.func (.func 244) #[] #[]] V (.bool ((xs.take i).any λg=>decide (g.proc=y.proc))):=by
 refine A1.mk (x243 (a:=l) (c:=.func (.func 244) #[] #[]) ?_);have n:=u.n_eq;have r:=u.cap;have j:=(yv.1 z).1;refine⟨⟨by omega,by omega,by omega⟩,λb1 w b2 f b3 h=>?_⟩;have s:=(Mem.sub_new w _).trans ((Mem.sub_new f _).trans (Mem.sub_new h (cell (.int .i64 i) 3)));simp only[Fu,sub0];refine(c224 (l:=⟨l.p,i,l.c⟩) (first:=[]) (caps:=[pv b1,pv b2,pv b3]) (Ad.pre (u.sub s) (by omega)) Tryz.call282 (λg=>decide (g.proc=y.proc)) (λx _=>c282 ((Mem.sub_new h _) _ _ ((Mem.sub_new f _) _ _ Ao)) ((Mem.sub_new h _) _ _ Ao) Ao (u.sub s) z)).call ⟨_,rfl,rfl,s⟩
end Go.Proofs
namespace Go.Proofs
open Go Go.Sx
theorem wrap_id{n:Nat}(h:n<=2147483648):IntKind.wrap .i64 (n:Int)=n:=FL ⟨by show(-9223372036854775808:Int)<=n;omega,by show(n:Int)<=9223372036854775807;omega⟩
theorem O6{P:Program}(w:World)(t u ty e:TypeId)(i:TypeInfo)(z:Value)(q:P.underlying t=some (.slice e))(hu:P.underlying u=some (.int .i64))(hi:P.info? e=some i)(o:i.zero=some z)
  (n:Nat) (b:0<n) (r:n<=2147483648) (a:i.bytes<=65536) (H:0<i.size):
  (y8 #[t,u] ty #[.slice none 0 0,.int .i64 n]).run P w=
   .ok (.slice (some ⟨w.heap.size,0,none⟩) n (grownCap w n 0 e)) (w.drew.alloc (.cells (xA z.cells n++xA z.cells (grownCap w n 0 e-n)) e)):=by
 have y:n≠0:=by omega
 have h:¬(9223372036854775807<(n:Int)):=by omega
 have s:n*i.bytes<=281474976710656:=Nat.le_trans (Nat.mul_le_mul r a) (by decide);have g:¬(281474976710656<Builtin.nextslicecap n 0*i.bytes):=by rw[nextslicecap_zero b];omega
 have f:¬(281474976710656<(n:Int)*(i.bytes:Int)):=by omega
 have j:¬((n:Int)<0):=by omega
 have l:i.size≠0:=by omega
 simp[y8,run_underlying q,run_underlying hu,sizeOf,typeInfo,zeroValue,hi,o,y,h,g,f,j,l,wrap_id r,asInt,asIntOf,Question.forced,run_firstCells_none,newRow,grownCap];simp_all[absurd,Nat.ne_of_gt,Nat.mul_pos]
theorem GenK.appendZ{P:Program}{V0 V:Mem}{t u e ty:TypeId}{i:TypeInfo}{z:Value}{sz:Nat}(H:P.underlying t=some (.slice e))(hu:P.underlying u=some (.int .i64))(hi:P.info? e=some i)(J:i.zero=some z)(f:i.size=sz)(j:z.cells.size=sz)(l:0<sz)(r:i.bytes<=65536)
  {x y:Operand} {vals:Operand->Value} {n:Nat} (G:vals x=.slice none 0 0) (N:vals y=.int .i64 n) (Z:0<n) (Y:n<=2147483648) (s:V0.sub V) {q:Value->Mem->Prop}
  (W:∀b c V',Own V0 V' e sz ⟨some ⟨b,0,none⟩,0,c⟩ []->n<=c->c<=9223372036854775807->q (.slice (sa b) n c) V'):
  GenK P (.call {callee:=.builtin .append,args:=#[x,y],argTypes:=#[t,u]}) ty vals V q:=by
 intro w hw;subst f;have Q:=O6 (P:=P) w t u ty e i z H hu hi J n Z Y r l;obtain⟨g,O⟩:=Aq.new hw (.cells (xA z.cells n++xA z.cells (grownCap w n 0 e-n)) e);have o:=grownCap_ge w n 0 e;have a:=grownCap_le_maxLen w n 0 e (by simp only[maxLen];omega);refine⟨_,_,_,?_,O,W w.heap.size (grownCap w n 0 e) _ ⟨Mem.sub.new s g _,by simp,.inr ⟨w.heap.size,_,rfl,?_,Mem.set_same _ _ _,Nat.zero_le _,a,?_,by simp⟩⟩ o (by grind[maxLen])⟩
 ·unfold execOp;simp only[resolve,invoke,builtin,Sem.run_bind,Sem.run_pure,Result.andThen_ok,List.map_toArray,List.map_cons,List.map_nil,G,N,Q]
 ·cases h:V0 w.heap.size with
  |none=>rfl
  |some x=>rw[s _ _ h]at g;cases g
 ·simp only[Array.size_append,size_zeroCells,j,<-Nat.add_mul];simp_all
section
variable{V:Mem}
theorem growF{V0:Mem}(g:V0.sub V){n:Nat}(i:n<=1000000):Tri xG 219 #[.slice none 0 0,.int .i64 n] V λr V'=>∃s:Sl,r=.returned (.slice s.p s.n s.c)/\Own V0 V' 110 2 s []:=by
 refine x219 (a:=⟨none,0,0⟩) ?_;refine⟨λh=>absurd h (by omega),λ_=>⟨⟨by simp,by simp⟩,⟨by simp<;>omega,by simp<;>omega⟩,λh=>⟨⟨by simp,by simp,by simp⟩,?_⟩,λh=>⟨⟨none,0,0⟩,rfl,Own.nil g _ _⟩⟩⟩;have f:xG.info? 110=some (ti 110):=by kernel_rfl
 have u:(ti 110).zero=some ((ti 110).zero.getD undef):=by kernel_rfl
 have w:(ti 110).size=2:=by kernel_rfl
 have z:((ti 110).zero.getD undef).cells.size=2:=by kernel_rfl
 have y:(ti 110).bytes<=65536:=by rw[show(ti 110).bytes=32 by kernel_rfl];omega
 refine GenK.appendZ (n:=n) Tryz.underlying23 Tryz.underlying3 f u w z (by decide) y rfl ?_ (by simp at h;omega) (by omega) g λb c V' l q j=>⟨⟨some ⟨b,0,none⟩,n,c⟩,rfl,⟨by simp,by simp,by simp⟩,?_⟩;·rfl
 ·simp only[Fu];grind
theorem concatF{l:Sl}{ls:List (Sl×List Fld)}(h:Ad V l 1 (ls.map λx=>[x.1.v]))(z:∀x∈ls,Ad V x.1 2 (x.2.map Fld.row))(N:ls.length<=100)(y:∀x∈ls,x.2.length<=1000):
  Tri xG 169 #[.slice l.p l.n l.c] V λr V'=>∃s:Sl,r=.returned (.slice s.p s.n s.c)/\V.sub V'/\Ad V' s 2 ((ls.flatMap (·.2)).map Fld.row):=by
 refine x169 ?_;have A:=h.n_eq;refine DB (mk:=.int .i64) BG ls.length (λi n V1=>V=V1/\0<=n/\n<=1000*i) ⟨rfl,by omega,by omega⟩ ?_;rintro i n V1 J Z ⟨rfl,Y,W⟩ o;refine⟨λg=>?_,λj=>?_⟩
 ·obtain⟨x,hm,Q,b,a,e,H,f⟩:=h.get g;have I:=(z x hm).n_eq;have P:=y x hm;exact⟨e,H,g,x.1,f,⟨by omega,by omega⟩,λq=>absurd q (by omega),λ_=>⟨h.succ g,o a _ _ ⟨rfl,by omega,by omega⟩⟩⟩
 ·obtain⟨k,rfl⟩:=Int.eq_ofNat_of_zero_le Y;refine Tri.mono (growF (Mem.sub.refl V) (n:=k) (by omega)) ?_;rintro _ V1 ⟨s,rfl,w⟩;refine⟨s,rfl,?_⟩;refine DB (mk:=λs:Sl=>.slice s.p s.n s.c) (b0:=s) AT ls.length (λi s V2=>Own V V2 110 2 s (((ls.take i).flatMap (·.2)).flatMap Fld.row)/\((ls.take i).flatMap (·.2)).length<=1000*i) ⟨w,by simp⟩ ?_;rintro i s V2 J Z ⟨w,W⟩ o;have G:=h.sub w.sub;refine⟨λg=>?_,λj=>?_⟩
  ·obtain⟨x,hm,Q,b,a,e,H,f⟩:=G.get g;have P:=y x hm;refine⟨e,H,g,x.1,f,?_⟩;refine Ek (s:=s) (u:=x.1) (xs:=(ls.take i).flatMap (·.2)) (ys:=x.2) rfl rfl w ((z x hm).sub w.sub) (by omega) λs' V' O=>⟨s',rfl,G.succ g,o a _ _ ?_⟩;grind
  ·have:=(G.done j).2;rw[List.take_of_length_le this]at w;exact⟨s,rfl,w.sub,ownF w⟩
end
end Go.Proofs
namespace Go.Proofs
open Go Go.Sx
attribute [local irreducible] Go.Sx.Tri
section
variable{V:Mem}{d:Ds}{c:Option Addr}{m:Option Nat}{sc:Sc}
theorem c284(h:BB V c d)(hv:DO d)(N:Em V m sc)(q:sc.body=true){x:S}(A:S.Ok V x)(B:CS x.op x.s x.es x.ls.length x.xs.length=true){res:KB}:
  PP 284 [sV c m sc,x.v,.string res] V (.int .i64 (DM d sc res x.op x.s x.es)):=by
 obtain⟨a6,a134,a2,a5,alen,Z⟩:=LH B;rw[S.v_eq];refine A1.mk (x284 ?_);have hf:=IK A;refine⟨λI=>?_,λI=>?_⟩
 ·obtain⟨M,j,-⟩:=a6 I;rcases hf with⟨h',-⟩|⟨e0',r,F,hn,C,hp2,z⟩;·simp_all
  ·rw[j]at F;cases F;have Y:=Z M (by rw[j];simp);have W:=A.eOk M (by rw[j];simp);have hk:∀y∈M.k,ImpE V d c m sc y:=λy hy=>impExpr h hv N y (W.kids y hy) 2 (IP Y y hy);refine⟨C,by omega,by omega,_,_,_,_,z,(impCall h M W (arity (HU Y)).2.2.2 hk).call ⟨_,_,rfl,?_⟩⟩;unfold DM rawT Gx;rw[if_pos I,j];simp only[if_pos q];split;·exact⟨rfl,Mem.sub.refl _⟩
   ·exact⟨rfl,Mem.sub.refl _⟩
 ·unfold DM;rw[if_neg I];have hr:=A.eRows;refine FO (mk:=.int .i64) (mc:=λs:Sl=>.slice s.p s.n s.c) 0 ⟨none,0,0⟩ AT x.es.length (λi s V2=>∃acc,Own V V2 9 1 s (acc.flatMap BD)/\partsT d sc [] x.es=partsT d sc acc (x.es.drop i)/\acc.length=i) ⟨[],Own.nil (Mem.sub.refl _) _ _,rfl,rfl⟩ ?_;rintro i b s V2 J hi ⟨acc,g,f,o⟩ hJ;have l:=hr.sub g.sub;refine⟨λa=>?_,λQ=>?_⟩
  ·obtain⟨y,hm,hxy,D,hl,E,hz,z⟩:=l.get a;rw[D,Gs]at f;refine⟨E,hz,a,_,_,_,_,z,(impExpr h hv N y (A.eOk y hm) 1 (Z y hm) V2 g.sub).call ⟨_,_,rfl,λG=>?_,λG=>?_⟩⟩
   ·intro b1 K;rw[if_neg (λh=>h G)]at f;refine app37 (s:=s) (u:=⟨some ⟨b1,0,none⟩,1,1⟩) (xs:=acc) (ys:=[(Al d sc y).1]) rfl rfl (g.new K _) (HV Ao) (by grind) λs' V' ho=>⟨s',rfl,l.succ a,hJ hl _ _ _ ⟨_,ho,f,by simp[o]⟩⟩
   ·rw[if_pos G]at f;rw[f];simp only[G,ne_eq,not_false_eq_true,if_true];exact⟨by trivial,g.sub⟩
  ·have hge':=(l.done Q).2;rw[(l.done Q).1,Ha]at f;rw[f];simp only[ne_eq,not_true_eq_false,if_false];have w:=ownS g;have hal:acc.length=x.es.length:=by omega
   have hsub:=g.sub;have L:=h.sub g.sub;have sln:=w.n_eq;have e:=λh:0<acc.length=>El w h;have at1:=λh:1<acc.length=>El w h;have key:∀X n:Int,X=n->(xJ (.int .i64 n)=xJ (.int .i64 X)/\V.sub V2):=λX n h=>by simp_all
   refine⟨λR=>?_,λR=>⟨λT=>?_,λT=>⟨λo3=>?_,λo3=>⟨λo4=>?_,λo4=>⟨λU=>?_,λU=>key _ _ ?_⟩⟩⟩⟩⟩
   ·obtain⟨b1,b2,b3⟩:=e (by omega);obtain⟨mb,rfl,P⟩:=(N.sub g.sub).at_;rw[if_pos R,LM];refine Bu.str xn xo zero9 P ?_;cases O:BK sc.vars x.s with
    |none=>
     rw[xm];exact⟨_,_,rfl,λh=>absurd h (by simp),λ_=>key _ _ (if_pos rfl)⟩
    |some t=>
     rw[xu];refine⟨t,_,rfl,λ_=>⟨b1,by omega,b2,_,b3,(c295 L).call ⟨_,rfl,λH=>key _ _ ?_,λH=>key _ _ ?_⟩⟩,λh=>absurd rfl h⟩;·rw[if_neg (N.ne.some O),if_pos H]
     ·rw[if_neg (N.ne.some O),if_neg H]
   ·obtain⟨b1,b2,b3⟩:=e (by omega);obtain⟨c1,c2,c3⟩:=at1 (by omega);rw[if_neg R,if_pos T];refine⟨b1,by omega,b2,_,b3,(c296 L hv).call ⟨_,_,rfl,λH=>⟨c1,by omega,c2,_,c3,(c295 L).call ⟨_,rfl,λhc=>key _ _ ?_,λhc=>key _ _ ?_⟩⟩,λH=>key _ _ ?_⟩⟩;·simp_all
    ·simp_all
    omega
   ·grind[Ar]
   ·grind[Ar]
   ·have h5:=a5 U;rw[if_neg R,if_neg T,if_neg (by omega),if_pos U];refine⟨λhn=>?_,λhn=>?_⟩;·grind[sE]
    ·have G:¬acc.length=0:=by omega
     obtain⟨b1,b2,b3⟩:=e (by omega);rw[if_neg G];refine⟨λF=>key _ _ (by grind[sE]),λF=>⟨b1,by omega,b2,_,b3,(c295 L).call ⟨_,rfl,λH=>key _ _ ?_,λH=>key _ _ ?_⟩⟩⟩;·grind[sE]
     simp_all
   omega
def placeT(r:Int×Int):Int:=if r.2=0 then 0 else r.1
def CJ(V:Mem)(b t:Nat)(a:Int)(V1:Mem):Prop:=(V.set b (cell (.int .i64 a) t)).sub V1
theorem CJ.st{b t:Nat}{a k:Int}{V1:Mem}(h:CJ V b t a V1):CJ V b t k (V1.set b (cell (.int .i64 k) t)):=λq o g=>by
 by_cases e:q=b;·grind[Mem.set_same]
 ·rw[Mem.set_ne e]at g⊢;exact h q o (by rw[Mem.set_ne e];exact g)
theorem CJ.call{b t:Nat}{a k:Int}{V1 V2:Mem}(h:CJ V b t a V1)(g:CJ V1 b t k V2):CJ V b t k V2:=(CJ.st h).trans g
theorem CJ.cell{b t:Nat}{a:Int}{V1:Mem}(h:CJ V b t a V1):V1 b=some (Sx.cell (.int .i64 a) t):=h _ _ Ao
theorem CJ.base{V0:Mem}{b t:Nat}{a:Int}{V1:Mem}(h:CJ V b t a V1)(g:V0.sub V)(f:V0 b=none):V0.sub V1:=(g.set f _).trans h
theorem CJ.other{b t q:Nat}{a:Int}{V1:Mem}{o:Obj}(h:CJ V b t a V1)(g:V q=some o)(f:q≠b):V1 q=some o:=h _ _ (by rw[Mem.set_ne f];exact g)
def ImpS(V0:Mem)(d:Ds)(c:Option Addr)(m:Option Nat)(sc:Sc)(res:KB)(b t:Nat)(l:List S):Prop:=∀(V:Mem)(sl:Sl)(n g:Int),V0.sub V->V b=some (cell (.int .i64 n) t)->Ad V0 sl 5 (l.map S.row)->(∀x∈l,S.Ok V0 x)->Cv g l=true->0<=n->n+Co l<=1000->
 Tri xG 246 #[sV c m sc,.slice sl.p sl.n sl.c,.string res,pv b] V λr V'=>r=.returned (.tuple #[.int .i64 (placeT (AJ d sc res n l)),.int .i64 (AJ d sc res n l).2])/\∃h,CJ V b t h V'/\((AJ d sc res n l).2=0->h=(AJ d sc res n l).1)
theorem impStep{V0:Mem}{b t:Nat}{res:KB}(C:V0 b=none)(h:BB V0 c d)(hv:DO d)(hs:Em V0 m sc)(Y:sc.body=true){l:List S}(hk:∀x∈l,ImpS V0 d c m sc res b t x.ls/\ImpS V0 d c m sc res b t x.xs):ImpS V0 d c m sc res b t l:=by
 intro V sl n dd D E K T A U hn1;refine x246 ?_;refine C0 l.length (λi V1=>∃a,CJ V b t a V1/\0<=a/\a+Co (l.drop i)<=1000/\AJ d sc res n l=AJ d sc res a (l.drop i)) ⟨n,by grind[CJ,Mem.set_eq,Mem.sub.refl],U,hn1,rfl⟩ ?_;rintro i b' c' V1 J hi ⟨a,G,ha0,ha1,N⟩ hJ;have r:=G.base D C;have f:=G.cell;have bad:∀{V2:Mem}(p e k:Int),CJ V b t k V2->e≠0->AJ d sc res n l=(p,e)->(xJ (.tuple #[.int .i64 p,.int .i64 e])=xJ (.tuple #[.int .i64 (placeT (AJ d sc res n l)),.int .i64 (AJ d sc res n l).2])/\∃X,CJ V b t X V2/\((AJ d sc res n l).2=0->X=(AJ d sc res n l).1)):=λ{V2} p e k h1 h2 q=>by
  rw[q];unfold placeT;grind
 refine⟨λW=>?_,λhge=>?_⟩
 ·obtain⟨x,hm,hx,I,hl,hpp,hz,o⟩:=(K.sub r).get W;have o:=S.row_get o;have H:=T x hm;obtain⟨hsh,hk1,hk2⟩:=okS_shape (JY A x hm);rw[I,JZ,szS_eq]at ha1;rw[I,IN,stT_eq]at N;have hC:=CJ.st (k:=a+1) G;have Q:=hC.base D C;have cs:=c284 (h.sub Q) hv (hs.sub Q) Y (H.sub Q) hsh (res:=res);rw[S.v_eq]at cs;refine⟨hpp,hz,W,_,_,_,_,_,o,by simp,_,Ax f,by simp,_,Ax f,⟨by omega,by omega⟩,by simp,As.cell f (cs.call ⟨_,rfl,λh0=>?_,λh0=>?_⟩)⟩
  ·have e1:¬(DM d sc res x.op x.s x.es≠0):=λh=>h h0;rw[if_neg e1]at N;intro b1 hb1;have M:b1≠b:=λe=>by grind[Mem.set_same]
   have hC2:CJ V b t (a+1) _:=Mem.sub.new hC hb1 (.cells #[.slice x.ll.p x.ll.n x.ll.c,.slice x.xl.p x.xl.n x.xl.c] 72 (0,0));have w:=Gv d sc res (a+1) x.ls;refine C0 2 (λj V2=>∃k,CJ V b t k V2/\V2 b1=some (.cells #[.slice x.ll.p x.ll.n x.ll.c,.slice x.xl.p x.xl.n x.xl.c] 72 (0,0))/\((j=0/\k=a+1)∨(j=1/\(AJ d sc res (a+1) x.ls).2=0/\k=(AJ d sc res (a+1) x.ls).1)∨(j=2/\(AJ d sc res (a+1) x.ls).2=0/\(AJ d sc res (AJ d sc res (a+1) x.ls).1 x.xs).2=0/\k=(AJ d sc res (AJ d sc res (a+1) x.ls).1 x.xs).1))) ⟨a+1,hC2,Mem.set_same _ _ _,.inl ⟨rfl,rfl⟩⟩ ?_;rintro j b'' c'' V2 J1 hj ⟨k,g,z,F⟩ L;have Z:=g.base D C;refine⟨λhj2=>?_,λhj2=>?_⟩
   ·rcases F with⟨rfl,rfl⟩|⟨rfl,y,rfl⟩|⟨rfl,-⟩
    ·refine⟨by simp[Aa],by omega,by omega,x.ll,An z 0 1 (by simp),Tri.mono ((hk x hm).1 V2 x.ll (a+1) (dd+1) Z g.cell H.lRows H.lOk hk1 (by omega) (by omega)) ?_⟩;rintro _ V3 ⟨rfl,X,u,P⟩;refine⟨_,_,rfl,λq=>?_,λq=>?_⟩
     ·have:=P q;subst this;exact⟨⟨by omega,by omega⟩,L (by omega) _ _ _ ⟨_,g.call u,u.other z M,.inr (.inl ⟨rfl,q,rfl⟩)⟩⟩
     ·have O:(AJ d sc res (a+1) x.ls).2≠0:=q;rw[if_pos O,if_pos O]at N;refine bad _ _ _ (g.call u) O ?_;grind
    ·have O:¬(AJ d sc res (a+1) x.ls).2≠0:=λh=>h y;rw[if_neg O]at N;have w:=w y;refine⟨by simp[Aa],by omega,by omega,x.xl,An z 1 1 (by simp),Tri.mono ((hk x hm).2 V2 x.xl _ (dd+1) Z g.cell H.xRows H.xOk hk2 (by omega) (by omega)) ?_⟩;rintro _ V3 ⟨rfl,X,u,P⟩;refine⟨_,_,rfl,λq=>?_,λq=>?_⟩
     ·have:=P q;subst this;exact⟨⟨by omega,by omega⟩,L (by omega) _ _ _ ⟨_,g.call u,u.other z M,.inr (.inr ⟨rfl,y,q,rfl⟩)⟩⟩
     ·have B:(AJ d sc res (AJ d sc res (a+1) x.ls).1 x.xs).2≠0:=q;rw[if_pos B]at N;refine bad _ _ _ (g.call u) B ?_;grind
    ·omega
   ·rcases F with⟨rfl,-⟩|⟨rfl,-⟩|⟨rfl,y,R,rfl⟩;·omega
    ·omega
    ·have O:¬(AJ d sc res (a+1) x.ls).2≠0:=λh=>h y;have B:¬(AJ d sc res (AJ d sc res (a+1) x.ls).1 x.xs).2≠0:=λh=>h R;rw[if_neg O,if_neg B]at N;have w:=w y;have hn2':=Gv d sc res _ x.xs R;exact⟨(K.sub r).succ W,hJ hl _ _ _ ⟨_,g,by omega,by omega,N⟩⟩
  grind
 ·rw[((K.sub r).done hge).1,stsT_nil]at N;rw[N];exact⟨rfl,a,G,λ_=>rfl⟩
theorem impStmts{V0:Mem}{b t:Nat}{res:KB}(f:V0 b=none)(h:BB V0 c d)(hv:DO d)(u:Em V0 m sc)(g:sc.body=true)(l:List S):ImpS V0 d c m sc res b t l:=by
 have w:∀s:S,ImpS V0 d c m sc res b t s.ls/\ImpS V0 d c m sc res b t s.xs:=by
  intro s;induction s using S.ind with
  |h s z y=>grind[impStep]
 grind[impStep]
theorem c275{b t:Nat}{f x:Fld}(h:V b=some (.cells #[.string f.name,.string f.ty] t (0,0))):PP 275 [x.v,pv b] V (.bool (decide (x.name=f.name))):=by
 refine x275 ?_;exact⟨by simp,_,An h 0 1 (by simp),rfl,rfl⟩
theorem c232(h:BB V c d){l:Sl}{xs:List Fld}(H:Ad V l 2 (xs.map Fld.row)):PP 232 [.pointer c,l.v] V (.int .i64 (Cp d xs)):=by
 refine A1.mk (x232 ?_);unfold Cp;generalize O:(λi f=>if BF d xs i f≠0 then some (BF d xs i f)else none)=fn;refine AK xs.length (λk V1=>V.sub V1/\Ak fn 0 xs=Ak fn k (xs.drop k)) ⟨Mem.sub.refl _,rfl⟩ ?_;rintro k b V1 J A ⟨G,y⟩ N;have u:=H.sub G;refine⟨λj=>?_,λj=>?_⟩
 ·obtain⟨g,Z,Y,r,q,o,a,w⟩:=u.get j;rw[r]at y;have I:=u.cap;refine⟨o,a,j,_,_,w,⟨by omega,by omega,by omega⟩,λb1 s=>?_⟩;have W:=Mem.sub_new s (.cells #[.string g.name,.string g.ty] 110 (0,0));have z:=G.trans W;simp only[Fu,sub0];have key:∀X n:Int,X=n->(xJ (.int .i64 n)=xJ (.int .i64 X)/\V.sub (V1.set b1 (.cells #[.string g.name,.string g.ty] 110 (0,0)))):=λX n h=>by simp_all
  refine(HR (l:=⟨l.p,k,l.c⟩) (first:=[]) (caps:=[pv b1]) (Ad.pre (H.sub z) (by omega)) Tryz.call275 (λx=>decide (x.name=g.name)) (λx _=>c275 (f:=g) Ao)).call ⟨_,rfl,λQ=>?_,λQ=>⟨by simp[Aa],_,An Ao 1 1 (by simp),(c235 (h.sub z)).call ⟨_,rfl,λP=>?_,λP=>?_⟩⟩⟩
  ·have e:BF d xs k g=10:=by grind[BF]
   rw[y,A8 (b:=10) (by grind)];grind
  ·have e:BF d xs k g=0:=by grind[BF]
   exact⟨u.succ j,N q _ _ ⟨z,by rw[y,BA (by grind)]⟩⟩
  ·have e:BF d xs k g=9:=by grind[BF]
   rw[y,A8 (b:=9) (by grind)];grind
 ·rw[(u.done j).1,Ak]at y;simp_all
def FltAt(V:Mem)(p:Option Addr)(o:Option Flt):Prop:=match o with
 |none=>p=none
 |some r=>∃b t,p=some ⟨b,0,none⟩/\V b=some (.cells #[.string r.1,.int .i64 r.2.1,.int .i64 r.2.2] t (0,0))
def FltC(f:FuncId)(args:List Value)(V:Mem)(o:Option Flt):Prop:=Tri xG f args.toArray V λr V'=>∃p,r=.returned (.pointer p)/\V.sub V'/\FltAt V' p o
theorem c248(h:BB V c d)(hv:DO d)(z:Em V m sc){e:E}(y:E.Ok V e)(f:Bv 1 e=true){s t:KB}:
  FltC 248 [sV c m sc,.string s,e.v,.string t] V (if A2 d sc e t≠0 then some (s,-1,A2 d sc e t)else none):=by
 refine x248 ?_;unfold A2;refine(impExpr h hv z e y 1 f V (Mem.sub.refl _)).call ⟨_,_,rfl,λg=>⟨λu=>?_,λu=>λb w=>?_⟩,λg=>λb w=>?_⟩;·simp only[g,u,ne_eq,not_true_eq_false,if_false,if_true];exact⟨_,rfl,Mem.sub.refl _,rfl⟩
 ·simp only[g,u,ne_eq,not_true_eq_false,if_false];exact⟨_,rfl,Mem.sub_new w _,b,_,rfl,Mem.set_same _ _ _⟩
 ·simp only[g,ne_eq,not_false_eq_true,if_true];exact⟨_,rfl,Mem.sub_new w _,b,_,rfl,Mem.set_same _ _ _⟩
end
def FV:Prop:=∀(V:Mem)(c:Option Addr)(d:Ds)(body:Bool)(l:Sl)(ls:List (Sl×List Fld)),BB V c d->Ad V l 1 (ls.map λx=>[x.1.v])->(∀x∈ls,Ad V x.1 2 (x.2.map Fld.row))->
 Tri xG 283 #[.pointer c,.bool body,.slice l.p l.n l.c] V λr V'=>∃mb,r=.returned (.agg #[.pointer c,.map (some mb),.bool body])/\V.sub V'/\V mb=none/\A5 V' mb (λk=>(BK (ls.flatMap (·.2)++d.globals) k).map Value.string)
def NewC:Prop:=∀(V:Mem)(d:Ds),Ds.Ok V d->Tri xG 128 #[d.v] V λr V'=>∃c,r=.returned (.pointer c)/\V.sub V'/\BB V' c d
section
variable{V:Mem}{d:Ds}{c:Option Addr}
theorem IW{a b:List Fld}(h:NE a)(k:NE b):NE (a++b):=λf u=>by
 rcases List.mem_append.1 u with g|g;·exact h f g
 ·exact k f g
theorem impInProc(w:FV)(h:BB V c d)(hv:DO d){p:Pr}(hm:p∈d.procs)(f:Pr.Ok V p):Tri xG 245 #[.pointer c,p.v] V λr V'=>∃m,r=.returned (sV c m (AI d p))/\V.sub V'/\Em V' m (AI d p):=by
 refine x245 ?_;intro b z;have g:=Mem.sub_new z (.cells #[.slice p.ps.p p.ps.n p.ps.c,.slice p.ls.p p.ls.n p.ls.c] 23 (0,0));refine Tri.mono (w _ c d true ⟨some ⟨b,0,none⟩,2,2⟩ [(p.ps,p.params),(p.ls,p.locals)] (h.sub g) (Ad.cells (xs:=[(p.ps,p.params),(p.ls,p.locals)]) (row:=λx=>[x.1.v]) Ao rfl (λ_=>rfl) rfl (by simp)) ?_) ?_
 ·intro x u;simp only[yD,xD,or_false]at u;rcases u with rfl|rfl;·exact f.params.sub g
  ·exact f.locals.sub g
 ·rintro _ V' ⟨mb,rfl,y,i,j⟩;refine⟨_,_,_,rfl,some mb,rfl,g.trans y,⟨mb,rfl,j.congr λk=>?_⟩,IW (IW (hv.params p hm).1 (hv.params p hm).2) hv.globals⟩;simp[AI]
theorem impInBound(u:FV)(h:BB V c d)(hv:DO d){p:Pr}(hm:p∈d.procs)(w:Pr.Ok V p):Tri xG 249 #[.pointer c,p.v] V λr V'=>∃m,r=.returned (sV c m (DD d p))/\V.sub V'/\Em V' m (DD d p):=by
 refine x249 ?_;intro b z;have g:=Mem.sub_new z (.cells #[.slice p.ps.p p.ps.n p.ps.c] 23 (0,0));refine Tri.mono (u _ c d false ⟨some ⟨b,0,none⟩,1,1⟩ [(p.ps,p.params)] (h.sub g) (Ad.cells (xs:=[(p.ps,p.params)]) (row:=λx=>[x.1.v]) Ao rfl (λ_=>rfl) rfl (by simp)) ?_) ?_
 ·intro x f;simp only[yD,xD,or_false]at f;rcases f with rfl;exact w.params.sub g
 ·rintro _ V' ⟨mb,rfl,y,i,j⟩;refine⟨_,_,_,rfl,some mb,rfl,g.trans y,⟨mb,rfl,j.congr λk=>?_⟩,IW (hv.params p hm).1 hv.globals⟩;simp[DD]
theorem J7(y:FV)(h:BB V c d)(hv:DO d){t:KB}:Tri xG 247 #[.pointer c,.string t] V λr V'=>∃m,r=.returned (sV c m (AQ d t))/\V.sub V'/\Em V' m (AQ d t):=by
 refine x247 ?_;refine Tri.mono (y V c d false ⟨none,0,0⟩ [] h Ad.nil (by simp)) ?_;rintro _ V' ⟨mb,rfl,u,j,w⟩;refine⟨_,_,_,rfl,λg=>?_,λg=>?_⟩
 ·refine⟨some mb,rfl,u,⟨mb,rfl,w.congr λk=>?_⟩,?_⟩;·grind[AQ,sE]
  ·unfold AQ sE;rw[if_pos g];exact hv.globals
 ·refine Cg.str xn xo w λo i=>?_;refine⟨some mb,rfl,u.set j _,⟨mb,rfl,i.congr λk=>?_⟩,?_⟩
  ·unfold AQ sE;rw[if_neg g];unfold BK;simp only[List.flatMap_nil,List.nil_append,List.cons_append,List.find?_cons];rw[show(⟨#[116,104,105,115]⟩:KB)=CI from rfl];grind
  ·unfold AQ sE;rw[if_neg g];refine IW (λf z=>?_) hv.globals;simp only[yD,xD,or_false]at z;subst z;exact g
theorem DE{V1:Mem}{X:Option Flt}{s:KB}{n e:Int}(g:X=some (s,n,e))(h:V.sub V1):Af [(.string s),(.int .i64 n),(.int .i64 e)] 213 V1 λf V2=>(∃p,xJ (.pointer (Aa f 0))=.returned (.pointer p)/\V.sub V2/\FltAt V2 p X):=λb u=>by
 subst g;exact⟨some ⟨b,0,none⟩,rfl,h.trans (Mem.sub_new u _),b,_,rfl,Mem.set_same _ _ _⟩
theorem oneT_cases(d:Ds)(l:List Fld)(i:Nat)(f:Fld):((l.take i).any (λg=>decide (g.name=f.name))=true/\BF d l i f=10)∨(¬(l.take i).any (λg=>decide (g.name=f.name))=true/\known d f.ty=true/\BF d l i f=0)∨(¬(l.take i).any (λg=>decide (g.name=f.name))=true/\¬known d f.ty=true/\BF d l i f=9):=by
 grind[BF,known,inr]
theorem impTypes(h:BB V c d):FltC 181 [.pointer c] V (Gt d):=by
 refine x181 ?_;unfold Gt;refine⟨h.nn,h.nn,Ah h.nn,d.ts,h.cell (i:=1) rfl,?_⟩;unfold types1;generalize N:(λi (t:Ty)=>if(d.types.take i).any (λg=>decide (g.name=t.name))=true then some ((t.name,-1,10):Flt)else none)=F1;refine AK d.types.length (λk V1=>V=V1/\Ak F1 0 d.types=Ak F1 k (d.types.drop k)) ⟨rfl,rfl⟩ ?_;rintro k b V1 J G ⟨rfl,u⟩ j;have l:=Mem.sub.refl V;refine⟨λw=>?_,λw=>?_⟩
 ·obtain⟨g,hm,s,y,n,r,q,z⟩:=h.ok.types.get w;rw[y]at u;refine⟨r,q,w,_,_,z,h.nn,h.nn,Ah h.nn,d.ts,h.cell (i:=1) rfl,(c230 h.ok.types s).call ⟨_,rfl,λo=>DE ?_ l,λo=>⟨h.ok.types.succ w,j n _ _ ⟨rfl,?_⟩⟩⟩⟩;·rw[u,A8 (b:=(g.name,-1,10)) (by grind)];rfl
  ·rw[u,BA (by grind)]
 rw[(h.ok.types.done w).1,Ak]at u;rw[u,xv];refine⟨h.nn,h.nn,Ah h.nn,d.ts,h.cell (i:=1) rfl,?_⟩;unfold types2;generalize Z:(λ(_:Nat) (t:Ty)=>if Cp d t.fields≠0 then some ((t.name,-1,Cp d t.fields):Flt)else none)=F2;refine AK d.types.length (λk V1=>V=V1/\Ak F2 0 d.types=Ak F2 k (d.types.drop k)) ⟨rfl,rfl⟩ ?_;rintro k b V1 J G ⟨rfl,u⟩ j;refine⟨λw=>?_,λw=>?_⟩
 ·obtain⟨g,hm,s,y,n,r,q,z⟩:=h.ok.types.get w;rw[y]at u;refine⟨r,q,w,_,_,z,(c232 h (h.ok.typesOk g hm).fields).call ⟨_,rfl,λo=>⟨h.ok.types.succ w,j n _ _ ⟨rfl,?_⟩⟩,λo=>DE ?_ l⟩⟩;·rw[u,BA (by grind)]
  ·rw[u,A8 (b:=(g.name,-1,Cp d g.fields)) (by grind)];rfl
 rw[(h.ok.types.done w).1,Ak]at u;rw[u,xv];refine⟨h.nn,h.nn,Ah h.nn,d.gs,h.cell (i:=2) rfl,?_⟩;unfold types3;generalize Y:(λi (f:Fld)=>if BF d d.globals i f≠0 then some ((f.name,-1,BF d d.globals i f):Flt)else none)=F3;refine AK d.globals.length (λk V1=>V=V1/\Ak F3 0 d.globals=Ak F3 k (d.globals.drop k)) ⟨rfl,rfl⟩ ?_;rintro k b V1 J G ⟨rfl,u⟩ j;refine⟨λw=>?_,λw=>?_⟩
 ·obtain⟨g,hm,s,y,n,r,q,z⟩:=h.ok.globals.get w;rw[y]at u;have H:=oneT_cases d d.globals k g;refine⟨r,q,w,_,_,z,h.nn,h.nn,Ah h.nn,d.gs,h.cell (i:=2) rfl,(c233 h.ok.globals s).call ⟨_,rfl,λo=>DE ?_ l,λo=>(c235 h).call ⟨_,rfl,λW=>⟨h.ok.globals.succ w,j n _ _ ⟨rfl,?_⟩⟩,λW=>DE ?_ l⟩⟩⟩
  ·rcases H with⟨_,e⟩|⟨a,_⟩|⟨a,_⟩;·rw[u,A8 (b:=(g.name,-1,10)) (by grind)]
   ·grind
   simp_all
  ·rcases H with⟨a,_⟩|⟨_,_,e⟩|⟨_,a,_⟩;·grind
   ·rw[u,BA (by grind)]
   simp_all
  ·rcases H with⟨a,_⟩|⟨_,a,_⟩|⟨_,_,e⟩;·grind
   ·grind
   ·rw[u,A8 (b:=(g.name,-1,9)) (by grind)]
 rw[(h.ok.globals.done w).1,Ak]at u;rw[u];exact⟨none,rfl,l,rfl⟩
theorem impHeads(h:BB V c d)(a:Small d):FltC 182 [.pointer c] V (Ft d):=by
 refine x182 ?_;unfold Ft;refine⟨h.nn,h.nn,Ah h.nn,d.ps,h.cell (i:=3) rfl,?_⟩;generalize j:(λi (p:Pr)=>if(d.procs.take i).any (λg=>decide (g.name=p.name))=true then some ((p.name,-1,10):Flt)else if Cp d (p.params++p.locals)≠0 then some (p.name,-1,Cp d (p.params++p.locals))else if p.result≠sE/\known d p.result=false then some (p.name,-1,9)else none)=F1;refine AK d.procs.length (λk V1=>V.sub V1/\Ak F1 0 d.procs=Ak F1 k (d.procs.drop k)) ⟨Mem.sub.refl _,rfl⟩ ?_;rintro k b V1 J R ⟨q,w⟩ Q;have z:=h.sub q;refine⟨λy=>?_,λy=>?_⟩
 ·obtain⟨g,hm,o,s,P,F,L,r⟩:=z.ok.procs.get y;rw[s]at w;have O:=z.ok.procsOk g hm;have X:=a.2 g hm;refine⟨F,L,y,_,_,_,_,_,r,h.nn,h.nn,Ah h.nn,d.ps,z.cell (i:=3) rfl,(c236 z.ok.procs o).call ⟨_,rfl,λH=>DE ?_ q,λH=>?_⟩⟩;·rw[w,A8 (b:=(g.name,-1,10)) (by grind)]
  intro b1 G;have N:=Mem.sub_new G (.cells #[.slice g.ps.p g.ps.n g.ps.c,.slice g.ls.p g.ls.n g.ls.c] 23 (0,0));refine Tri.mono (concatF (l:=⟨some ⟨b1,0,none⟩,2,2⟩) (ls:=[(g.ps,g.params),(g.ls,g.locals)]) (Ad.cells (xs:=[(g.ps,g.params),(g.ls,g.locals)]) (row:=λx=>[x.1.v]) Ao rfl (λ_=>rfl) rfl (by simp)) ?_ (by simp) ?_) ?_
  ·intro x o;simp only[yD,xD,or_false]at o;rcases o with rfl|rfl;·exact O.params.sub N
   ·exact O.locals.sub N
  ·simp_all
  rintro _ V2 ⟨s',rfl,Z,u⟩;have f:=q.trans (N.trans Z);have Y:([(g.ps,g.params),(g.ls,g.locals)]:List (Sl×List Fld)).flatMap (·.2)=g.params++g.locals:=by simp
  rw[Y]at u;refine⟨s',rfl,(c232 (h.sub f) u).call ⟨_,rfl,λA=>?_,λA=>DE ?_ f⟩⟩
  ·have I:¬(Cp d (g.params++g.locals)≠0):=λe=>e A;refine⟨λW=>⟨z.ok.procs.succ y,Q P _ _ ⟨f,?_⟩⟩,λW=>(c235 (h.sub f)).call ⟨_,rfl,λM=>⟨z.ok.procs.succ y,Q P _ _ ⟨f,?_⟩⟩,λM=>DE ?_ f⟩⟩;·rw[w,BA (by rw[<-j];exact(if_neg H).trans ((if_neg I).trans (if_neg λe=>e.1 W)))]
   ·rw[w,BA (by grind)]
   ·rw[w,A8 (b:=(g.name,-1,9)) (by rw[<-j];exact(if_neg H).trans ((if_neg I).trans (if_pos ⟨W,eq_false_of_ne_true M⟩)))]
  ·rw[w,A8 (b:=(g.name,-1,Cp d (g.params++g.locals))) (by grind)]
 rw[(z.ok.procs.done y).1,Ak]at w;rw[w];exact⟨none,rfl,q,rfl⟩
end
end Go.Proofs
