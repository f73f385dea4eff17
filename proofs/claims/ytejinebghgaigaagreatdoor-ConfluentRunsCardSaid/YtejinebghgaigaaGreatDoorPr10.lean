/- Part 10: no statement of the seat is proved here. -/
import Derived.Test.YtejinebghgaigaaGreatDoorPr09
set_option linter.unusedVariables false
set_option linter.unusedSimpArgs false
open Bool renaming and_eq_true->zC
open List renaming getElem?_eq_some_iff->yw,any_eq_true->xU,mem_take_iff_getElem->xV,all_eq_true->za,mem_of_find?_eq_some->xY,any_eq_not_all_not->xR
open Nat renaming not_lt_zero->xT
open Go.Ending renaming returned->xG
open Option renaming none_or->xW,getD_some->xX
open Go.Addr renaming add->zE
open Go.Value renaming map->zz
open Go.Proofs.Tryz renaming prog->xE,underlying215->xZ,underlying9->xz
open ByteArray renaming empty->zA
open Go.Builtin renaming append_->y7,zeroCells->y9
namespace Go.Proofs
open Go Go.Sx
attribute [local irreducible] Go.Sx.Tri
theorem okS_shape{d:Int}{x:S}(h:Eo d x=true):Dc x.op x.s x.es x.ls.length x.xs.length=true/\CI (d+1) x.ls=true/\CI (d+1) x.xs=true:=by
 cases x;unfold Eo at h;rw[zC,zC,zC]at h;exact⟨h.1.1.2,h.1.2,h.2⟩
theorem Mp{d:Int}:∀{l:List S},CI d l=true->∀x∈l,Eo d x=true
 |[],_,x,g=>absurd g List.not_mem_nil
 |y::l,h,x,g=>by
  unfold CI at h;rw[zC]at h;rcases List.mem_cons.1 g with rfl|g;·exact h.1
  ·exact Mp h.2 x g
theorem szS_eq(x:S):EC x=1+CC x.ls+CC x.xs:=by cases x;unfold EC;rfl
theorem Mq(x:S)(l:List S):CC (x::l)=EC x+CC l:=by rw[CC]
mutual
theorem stT_n(d:Ds)(sc:Sc)(result:KB)(n:Int):∀x:S,(Ee d sc result n x).2=0->(Ee d sc result n x).1=n+EC x
 |.mk op s _ es _ ls _ xs=>by
  have h1:=H3 d sc result (n+1) ls;have h2:=H3 d sc result (AL d sc result (n+1) ls).1 xs;grind[Ee,EC,absurd]
theorem H3(d:Ds)(sc:Sc)(result:KB)(n:Int):∀l:List S,(AL d sc result n l).2=0->(AL d sc result n l).1=n+CC l
 |[]=>by simp[AL,CC]
 |x::xs=>by
  have h1:=stT_n d sc result n x;have h2:=H3 d sc result (Ee d sc result n x).1 xs;rw[KF,Mq];grind
end
theorem BB{α β:Type}{f:Nat->α->Option β}{i:Nat}{x:α}{xs:List α}{b:β}(h:f i x=some b):Ar f i (x::xs)=some b:=by unfold Ar;rw[h]
theorem BY{α β:Type}{f:Nat->α->Option β}{i:Nat}{x:α}{xs:List α}(h:f i x=none):Ar f i (x::xs)=Ar f (i+1) xs:=by rw[Ar,h]
section
variable{V:Mem}{d:Ds}
def RefS(V:Mem)(d:Ds)(p:Pr)(l:List S):Prop:=∀(sl:Sl)(n h:Int),Ad V sl 5 (l.map S.row)->(∀x∈l,S.Ok V x)->CI h l=true->0<=n->n+CC l<=1000->
 PP 239 [d.v,p.v,sl.v,.int .i64 n] V (.tuple #[.int .i64 (AL d (Av d p) p.result n l).1,.int .i64 (AL d (Av d p) p.result n l).2])
theorem refStep(F:Ds.Ok V d){p:Pr}(L:Pr.Ok V p)(h1:d.globals.length<=1000)(h2:p.params.length<=1000/\p.locals.length<=1000){l:List S}(P:∀x∈l,RefS V d p x.ls/\RefS V d p x.xs):RefS V d p l:=by
 intro sl n O q o j e H;refine x239 ?_;generalize z:Av d p=sc;refine loop4s (mk:=.int .i64) (mc:=.int .i64) (md:=.int .i64) 0 0 n CY l.length (λi at_ V1=>V=V1/\0<=at_/\at_+CC (l.drop i)<=1000/\AL d sc p.result n l=AL d sc p.result at_ (l.drop i)) ⟨rfl,e,H,rfl⟩ ?_;rintro i b c a V1 J hi ⟨rfl,R,G,y⟩ X;refine⟨λf=>?_,λN=>?_⟩
 ·obtain⟨x,hm,K,r,B,u,Z,g⟩:=q.get f;have g:=S.row_get g;have w:=o x hm;obtain⟨Y,W,Q⟩:=okS_shape (Mp j x hm);rw[r,Mq,szS_eq]at G;rw[r,KF,stT_eq]at y;have cs:=c271 F L h1 h2 w Y;rw[z,S.v_eq]at cs;refine⟨u,Z,f,_,_,_,_,_,g,cs.call ⟨_,rfl,λA=>?_,λA=>?_⟩⟩
  ·have C:¬(Ed d sc p.result x.op x.s x.es≠0):=λh=>h A;rw[if_neg C]at y;have I:=(P x hm).1 x.ll (a+1) (O+1) w.lRows w.lOk W (by omega) (by omega);rw[z]at I;refine⟨u,Z,f,Ak u,_,_,_,_,_,g,⟨by omega,by omega⟩,I.call ⟨_,_,rfl,λh3=>?_,λh3=>?_⟩⟩
   ·have D:¬((AL d sc p.result (a+1) x.ls).2≠0):=λh=>h h3;rw[if_neg D]at y;have T:=H3 d sc p.result (a+1) x.ls h3;have M:=(P x hm).2 x.xl (AL d sc p.result (a+1) x.ls).1 (O+1) w.xRows w.xOk Q (by omega) (by omega);rw[z]at M;refine⟨u,Z,f,Ak u,_,_,_,_,_,g,M.call ⟨_,_,rfl,λh4=>?_,λh4=>?_⟩⟩
    ·rw[if_neg (λh=>h h4)]at y;have E:=H3 d sc p.result _ x.xs h4;exact⟨q.succ f,X B _ _ _ _ ⟨rfl,by omega,by omega,y⟩⟩
    simp_all
   simp_all
  simp_all
 ·rw[(q.done N).1,stsT_nil]at y;simp_all
theorem refStmts(g:Ds.Ok V d){p:Pr}(f:Pr.Ok V p)(h1:d.globals.length<=1000)(h2:p.params.length<=1000/\p.locals.length<=1000)(l:List S):RefS V d p l:=by
 have u:∀s:S,RefS V d p s.ls/\RefS V d p s.xs:=by
  intro s;induction s using S.ind with
  |h s w z=>grind[refStep]
 grind[refStep]
theorem c267(N:Ds.Ok V d){l:Sl}{xs:List Fld}(o:Ad V l 2 (xs.map Fld.row)){i:Nat}{f:Fld}(s:xs[i]?=some f):PP 267 [d.v,l.v,.int .i64 i] V (.int .i64 (BT d xs i f)):=by
 refine x267 ?_;have F:=o.n_eq;have Z:=(yw.1 s).1;have z:(i:Int)<(l.n:Int):=by omega
 obtain⟨L,hm,H,Y,-,u,G,w⟩:=o.get z;rw[s]at H;cases H;refine AU i (λk V1=>V=V1/\∀j g,j<k->xs[j]?=some g->¬(g.name=f.name)) ⟨rfl,λ_ _ h=>absurd h (xT _)⟩ ?_;rintro k b V1 J hi ⟨rfl,R⟩ W;refine⟨λQ=>?_,λQ=>?_⟩
 ·obtain⟨g,P,O,A,I,q,a,r⟩:=o.get (i:=k) (by omega);refine⟨q,a,by omega,Ak q,_,_,r,u,G,z,Ak u,_,_,w,λe=>?_,λe=>⟨o.succ (by omega),W (by omega) _ _ ⟨rfl,λj y X B=>?_⟩⟩⟩
  ·have:(xs.take i).any (λg=>decide (g.name=f.name))=true:=xU.2 ⟨g,by
    grind[xV,yw],decide_eq_true e⟩
   unfold BT;rw[if_pos this];exact⟨rfl,rfl⟩
  grind
 ·have:¬(xs.take i).any (λg=>decide (g.name=f.name))=true:=λh=>by
   obtain⟨g,M,e⟩:=xU.1 h;rw[xV]at M;grind
  unfold BT;rw[if_neg this];refine⟨u,G,z,Ak u,_,_,w,(c268 N).call ⟨_,rfl,λh=>?_,λh=>?_⟩⟩;·simp_all
  simp_all
theorem c266(q:Ds.Ok V d){l:Sl}{xs:List Fld}(w:Ad V l 2 (xs.map Fld.row)):PP 266 [d.v,l.v] V (.int .i64 (CD d xs)):=by
 refine x266 ?_;unfold CD;generalize H:(λi f=>if BT d xs i f≠0 then some (BT d xs i f)else none)=fn;refine AU xs.length (λk V1=>V=V1/\Ar fn 0 xs=Ar fn k (xs.drop k)) ⟨rfl,rfl⟩ ?_;rintro k b V1 J hi ⟨rfl,u⟩ o;refine⟨λz=>?_,λz=>?_⟩
 ·obtain⟨g,a,y,j,n,e,s,r⟩:=w.get z;rw[j]at u;refine(c267 q w y).call ⟨_,rfl,λh=>?_,λh=>?_⟩
  ·rw[BY (by grind)]at u;exact⟨w.succ z,o n _ _ ⟨rfl,u⟩⟩
  ·rw[BB (b:=BT d xs k g) (by grind)]at u;simp_all
 ·rw[(w.done z).1,Ar]at u;simp_all
theorem c272(u:Ds.Ok V d){sl:Sl}{sc:Sc}(g:Ad V sl 2 (sc.vars.map Fld.row)){e:E}(w:E.Ok V e)(f:Cz 1 e=true){t:KB}:PP 272 [d.v,IS sl sc,e.v,.string t] V (.int .i64 (BF d sc e t)):=by
 refine x272 ?_;unfold BF;refine(KH u g e w 1 f V (Mem.sub.refl _)).call ⟨_,_,rfl,λh=>⟨λh1=>?_,λh1=>?_⟩,λh=>?_⟩;·simp_all
 ·simp_all
 simp_all
def AC(s:KB):Bool:=decide (s=Ai)||decide (s=Au)
end
theorem idx_lt{α:Type}{p:α->Bool}{xs:List α}{i:Nat}{x:α}(h:xs[i]?=some x)(g:p x=true):(Ck p xs<(i:Int)↔(xs.take i).any p=true)/\0<=Ck p xs:=by
 rcases CP p xs with⟨h1,h2,h3⟩|⟨j,y,h1,h2,h3,h4,f,u,w,z⟩;·grind
 grind[xU,xV,yw,Nat.lt_or_ge,List.any_eq_false]
section
variable{V:Mem}{d:Ds}
def f2(o:Option Flt):Value:=.tuple #[.string (fltR o).1,.int .i64 (fltR o).2.2]
theorem c236(y:Ds.Ok V d):PP 236 [d.v] V (f2 (FY d)):=by
 refine x236 ?_;unfold FY;have key:∀{X:Option Flt}(s:KB)(n:Int),X=some (s,-1,n)->(xG (.tuple #[.string s,.int .i64 n])=xG (f2 X)/\V=V):=λs n h=>by rw[h];exact⟨rfl,rfl⟩
 unfold types1;generalize e:(λi (t:Ty)=>if(d.types.take i).any (λg=>decide (g.name=t.name))=true then some ((t.name,-1,10):Flt)else none)=F1;refine DN d.types.length (λk V1=>V=V1/\Ar F1 0 d.types=Ar F1 k (d.types.drop k)) ⟨rfl,rfl⟩ ?_;rintro k b c V1 J hi ⟨rfl,z⟩ q;refine⟨λw=>?_,λw=>?_⟩
 ·obtain⟨g,hm,a,l,o,j,r,u⟩:=y.types.get w;have H:=(idx_lt (p:=λt:Ty=>decide (t.name=g.name)) a (by simp)).1;rw[l]at z;refine⟨j,r,w,Ak j,_,_,u,(H0 y).call ⟨_,rfl,λh=>⟨j,r,w,Ak j,_,_,u,key _ _ ?_⟩,λh=>⟨y.types.succ w,q o _ _ _ ⟨rfl,?_⟩⟩⟩⟩;·rw[z,BB (b:=(g.name,-1,10)) (by grind)];rfl
  ·rw[z,BY (by grind)]
 rw[(y.types.done w).1,Ar]at z;rw[z,xW];unfold types2;generalize G:(λ(_:Nat) (t:Ty)=>if CD d t.fields≠0 then some ((t.name,-1,CD d t.fields):Flt)else none)=F2;refine DN d.types.length (λk V1=>V=V1/\Ar F2 0 d.types=Ar F2 k (d.types.drop k)) ⟨rfl,rfl⟩ ?_;rintro k b c V1 J hi ⟨rfl,z⟩ q;refine⟨λw=>?_,λw=>?_⟩
 ·obtain⟨g,hm,a,l,o,j,r,u⟩:=y.types.get w;rw[l]at z;refine⟨j,r,w,Ak j,_,_,u,(c266 y (y.typesOk g hm).fields).call ⟨_,rfl,λh=>⟨y.types.succ w,q o _ _ _ ⟨rfl,?_⟩⟩,λh=>⟨j,r,w,Ak j,_,_,u,key _ _ ?_⟩⟩⟩;·rw[z,BY (by grind)]
  ·rw[z,BB (b:=(g.name,-1,CD d g.fields)) (by grind)];rfl
 rw[(y.types.done w).1,Ar]at z;rw[z,xW];unfold types3;generalize N:(λi (f:Fld)=>if BT d d.globals i f≠0 then some ((f.name,-1,BT d d.globals i f):Flt)else none)=F3;refine DN d.globals.length (λk V1=>V=V1/\Ar F3 0 d.globals=Ar F3 k (d.globals.drop k)) ⟨rfl,rfl⟩ ?_;rintro k b c V1 J hi ⟨rfl,z⟩ q;refine⟨λw=>?_,λw=>?_⟩
 ·obtain⟨g,hm,a,l,o,j,r,u⟩:=y.globals.get w;rw[l]at z;refine(c267 y y.globals a).call ⟨_,rfl,λh=>⟨y.globals.succ w,q o _ _ _ ⟨rfl,?_⟩⟩,λh=>⟨j,r,w,Ak j,_,_,u,key _ _ ?_⟩⟩;·rw[z,BY (by grind)]
  ·rw[z,BB (b:=(g.name,-1,BT d d.globals k g)) (by grind)]
 rw[(y.globals.done w).1,Ar]at z;rw[z];exact⟨rfl,rfl⟩
theorem c237(M:Ds.Ok V d)(a:Small d):PP 237 [d.v] V (f2 (Fi d)):=by
 refine Bv.mk (x237 ?_);unfold Fi;generalize j:(λi (p:Pr)=>if(d.procs.take i).any (λg=>decide (g.name=p.name))=true then some ((p.name,-1,10):Flt)else if CD d (p.params++p.locals)≠0 then some (p.name,-1,CD d (p.params++p.locals))else if p.result≠sE/\Bq d p.result=false then some (p.name,-1,9)else none)=F1;refine DN d.procs.length (λk V1=>V.sub V1/\Ar F1 0 d.procs=Ar F1 k (d.procs.drop k)) ⟨Mem.sub.refl _,rfl⟩ ?_;rintro k b c V1 J hi ⟨o,z⟩ Y;have f:=M.sub o;have key:∀{X:Option Flt}(V2:Mem)(s:KB)(n:Int),V.sub V2->X=some (s,-1,n)->(xG (.tuple #[.string s,.int .i64 n])=xG (f2 X)/\V.sub V2):=λV2 s n h2 h=>by rw[h];exact⟨rfl,h2⟩
 refine⟨λy=>?_,λy=>?_⟩
 ·obtain⟨g,hm,F,H,W,L,R,l⟩:=f.procs.get y;have G:=(idx_lt (p:=λt:Pr=>decide (t.name=g.name)) F (by simp)).1;have Q:=f.procsOk g hm;have C:=a.2 g hm;rw[H]at z;refine⟨L,R,y,_,_,_,_,_,l,(c136 f).call ⟨_,rfl,λh=>key _ _ _ o ?_,λh=>?_⟩⟩;·rw[z,BB (b:=(g.name,-1,10)) (by grind)]
  intro b1 N;have r:=Mem.sub_new N (.cells #[] 112 (0,0));refine ET (s:=⟨some ⟨b1,0,none⟩,0,0⟩) (u:=g.ps) (xs:=[]) (ys:=g.params) rfl rfl (Own.empty r _ _ _) (Q.params.sub r) (by simp;omega) λP D O=>⟨P,rfl,?_⟩;refine ET (s:=P) (u:=g.ls) (xs:=g.params) (ys:=g.locals) rfl rfl O (Q.locals.sub O.sub) (by omega) λB E Z=>⟨B,rfl,?_⟩;have q:=f.sub Z.sub;have w:=o.trans Z.sub;have A:¬(d.procs.take k).any (λt=>decide (t.name=g.name))=true:=λe=>h (G.2 e);refine(c266 q (ownF Z)).call ⟨_,rfl,λh2=>?_,λh2=>key _ _ _ w ?_⟩
  ·have I:¬(CD d (g.params++g.locals)≠0):=λe=>e h2;refine⟨λh3=>⟨f.procs.succ y,Y W _ _ _ ⟨w,?_⟩⟩,λh3=>(c268 q).call ⟨_,rfl,λh4=>⟨f.procs.succ y,Y W _ _ _ ⟨w,?_⟩⟩,λh4=>key _ _ _ w ?_⟩⟩;·rw[z,BY (by rw[<-j];exact(if_neg A).trans ((if_neg I).trans (if_neg λe=>e.1 h3)))]
   ·rw[z,BY (by grind)]
   ·rw[z,BB (b:=(g.name,-1,9)) (by rw[<-j];exact(if_neg A).trans ((if_neg I).trans (if_pos ⟨h3,eq_false_of_ne_true h4⟩)))]
  ·rw[z,BB (b:=(g.name,-1,CD d (g.params++g.locals))) (by grind)]
 ·rw[(f.procs.done y).1,Ar]at z;rw[z];exact⟨rfl,o⟩
end
theorem Oe{α:Type}{p:α->Bool}{xs:List α}{i k:Nat}{g:α}(f:xs[k]?=some g)(u:k<i)(h:p g=true):(xs.take i).any p=true:=
 xU.2 ⟨g,by grind[xV,yw],h⟩
theorem Of{α:Type}{p:α->Bool}{xs:List α}{i:Nat}(h:∀j g,j<i->xs[j]?=some g->¬p g=true):¬(xs.take i).any p=true:=λu=>by
 obtain⟨g,f,w⟩:=xU.1 u;rw[xV]at f;obtain⟨j,z,e⟩:=f;exact h j g (by omega) (by grind) w
section
variable{V:Mem}{d:Ds}
theorem c238(z:Ds.Ok V d):PP 238 [d.v] V (f2 (DW d)):=by
 refine x238 ?_;unfold DW;have key:∀{X:Option Flt}(s:KB)(n:Int),X=some (s,-1,n)->(xG (.tuple #[.string s,.int .i64 n])=xG (f2 X)/\V=V):=λs n h=>by rw[h];exact⟨rfl,rfl⟩
 unfold form1;generalize T:(λi (m:Ms)=>if(d.measures.take i).any (λg=>decide (g.name=m.name))=true then some ((m.name,-1,10):Flt)else if Ci d m.ty=false then some (m.name,-1,9)else none)=F1;refine DN d.measures.length (λk V1=>V=V1/\Ar F1 0 d.measures=Ar F1 k (d.measures.drop k)) ⟨rfl,rfl⟩ ?_;rintro k b c V1 J hi ⟨rfl,w⟩ Z;refine⟨λu=>?_,λu=>?_⟩
 ·obtain⟨g,hm,F,o,Y,l,r,f⟩:=z.measures.get u;have U:=(idx_lt (p:=λt:Ms=>decide (t.name=g.name)) F (by simp)).1;rw[o]at w;have q:=Ak (n:=k*7) l;refine⟨l,r,u,q,_,_,_,_,_,_,_,f,(c269 z).call ⟨_,rfl,λh=>⟨l,r,u,q,_,_,_,_,_,_,_,f,key _ _ ?_⟩,λh=>⟨l,r,u,q,_,_,_,_,_,_,_,f,(c270 z).call ⟨_,rfl,λh2=>⟨z.measures.succ u,Z Y _ _ _ ⟨rfl,?_⟩⟩,λh2=>⟨l,r,u,q,_,_,_,_,_,_,_,f,key _ _ ?_⟩⟩⟩⟩⟩;·rw[w,BB (b:=(g.name,-1,10)) (by grind)];rfl
  ·rw[w,BY (by grind)]
  ·rw[w,BB (b:=(g.name,-1,9)) (by grind)];rfl
 rw[(z.measures.done u).1,Ar]at w;rw[w,xW];unfold form2;generalize W:(λi (m:Iv)=>if(d.invs.take i).any (λg=>decide (g.name=m.name))=true then some ((m.name,-1,10):Flt)else if m.ty≠sE/\Ci d m.ty=false then some (m.name,-1,9)else none)=F2;refine DN d.invs.length (λk V1=>V=V1/\Ar F2 0 d.invs=Ar F2 k (d.invs.drop k)) ⟨rfl,rfl⟩ ?_;rintro k b c V1 J hi ⟨rfl,w⟩ Z;refine⟨λu=>?_,λu=>?_⟩
 ·obtain⟨g,hm,F,o,Y,l,r,f⟩:=z.invs.get u;rw[o]at w;have q:=Ak (n:=k*6) l;refine DN k (λj V1=>V=V1/\∀H G,H<j->d.invs[H]?=some G->¬decide (G.name=g.name)=true) ⟨rfl,λ_ _ h=>absurd h (xT _)⟩ ?_;rintro j b c V1 J1 hi ⟨rfl,L⟩ Q;refine⟨λR=>?_,λR=>?_⟩
  ·obtain⟨G,B,P,A,C,N,O,a⟩:=z.invs.get (i:=j) (by omega);refine⟨N,O,by omega,Ak N,_,_,_,_,_,_,a,l,r,u,q,_,_,_,_,_,_,f,λI=>⟨l,r,u,q,_,_,_,_,_,_,f,key _ _ ?_⟩,λI=>⟨z.invs.succ (by omega),Q (by omega) _ _ _ ⟨rfl,λH y D hy=>?_⟩⟩⟩;·rw[w,BB (b:=(g.name,-1,10)) (by rw[<-W];exact if_pos (Oe P (by omega) (decide_eq_true I)))];rfl
   grind
  ·have E:=Of (i:=k) (λH G h'=>L H G (by omega));refine⟨l,r,u,q,_,_,_,_,_,_,f,λh3=>⟨z.invs.succ u,Z Y _ _ _ ⟨rfl,?_⟩⟩,λh3=>⟨l,r,u,q,_,_,_,_,_,_,f,(c270 z).call ⟨_,rfl,λh2=>⟨z.invs.succ u,Z Y _ _ _ ⟨rfl,?_⟩⟩,λh2=>⟨l,r,u,q,_,_,_,_,_,_,f,key _ _ ?_⟩⟩⟩⟩;·rw[w,BY (by rw[<-W];exact(if_neg E).trans (if_neg λe=>e.1 h3))]
   ·rw[w,BY (by grind)]
   ·rw[w,BB (b:=(g.name,-1,9)) (by rw[<-W];exact(if_neg E).trans (if_pos ⟨h3,eq_false_of_ne_true h2⟩))];rfl
 rw[(z.invs.done u).1,Ar]at w;rw[w,xW];unfold form3;generalize M:(λ(_:Nat) (m:Po)=>if m.ty≠sE/\Ci d m.ty=false then some ((sPot,-1,9):Flt)else none)=F3;refine DN d.pots.length (λk V1=>V=V1/\Ar F3 0 d.pots=Ar F3 k (d.pots.drop k)) ⟨rfl,rfl⟩ ?_;rintro k b c V1 J hi ⟨rfl,w⟩ Z;refine⟨λu=>?_,λu=>?_⟩
 ·obtain⟨g,hm,F,o,Y,l,r,f⟩:=z.pots.get u;rw[o]at w;have q:=Ak (n:=k*5) l;refine⟨l,r,u,q,_,_,_,_,_,f,λh3=>⟨z.pots.succ u,Z Y _ _ _ ⟨rfl,?_⟩⟩,λh3=>⟨l,r,u,q,_,_,_,_,_,f,(c270 z).call ⟨_,rfl,λh2=>⟨z.pots.succ u,Z Y _ _ _ ⟨rfl,?_⟩⟩,λh2=>key _ _ ?_⟩⟩⟩;·rw[w,BY (by rw[<-M];exact if_neg λe=>e.1 h3)]
  ·rw[w,BY (by grind)]
  ·rw[w,BB (b:=(sPot,-1,9)) (by rw[<-M];exact if_pos ⟨h3,eq_false_of_ne_true h2⟩)];rfl
 rw[(z.pots.done u).1,Ar]at w;rw[w,xW];unfold form4;generalize K:(λi (b:Bd)=>if(Cj d b.proc).isNone=true then some ((b.proc,-1,9):Flt)else if(d.bounds.take i).any (λg=>decide (g.proc=b.proc))=true then some (b.proc,-1,10)else none)=F4;refine DN d.bounds.length (λk V1=>V=V1/\Ar F4 0 d.bounds=Ar F4 k (d.bounds.drop k)) ⟨rfl,rfl⟩ ?_;rintro k b c V1 J hi ⟨rfl,w⟩ Z;refine⟨λu=>?_,λu=>?_⟩
 ·obtain⟨g,hm,F,o,Y,l,r,f⟩:=z.bounds.get u;rw[o]at w;have q:=Ak (n:=k*5) l;refine⟨l,r,u,q,_,_,_,_,_,f,(c136 z).call ⟨_,rfl,?_⟩⟩;rcases CP (λt:Pr=>decide (t.name=g.proc)) d.procs with⟨S,i2,i3⟩|⟨i,x,S,i2,i3,i4,i5,i6,i7,_⟩
  ·rw[S];refine⟨λ_=>⟨l,r,u,q,_,_,_,_,_,f,key _ _ ?_⟩,λh=>absurd h (by decide)⟩;rw[w,BB (b:=(g.proc,-1,9)) (by grind[Cj])]
  ·rw[S];have n0:¬(Cj d g.proc).isNone=true:=by grind[Cj]
   refine⟨λh=>absurd h (by omega),λ_=>?_⟩;refine DN k (λj V1=>V=V1/\∀H G,H<j->d.bounds[H]?=some G->¬decide (G.proc=g.proc)=true) ⟨rfl,λ_ _ h=>absurd h (xT _)⟩ ?_;rintro j b c V1 J1 hi ⟨rfl,L⟩ Q;refine⟨λR=>?_,λR=>?_⟩
   ·obtain⟨G,B,P,A,C,N,O,a⟩:=z.bounds.get (i:=j) (by omega);refine⟨N,O,by omega,Ak N,_,_,_,_,_,a,l,r,u,q,_,_,_,_,_,f,λI=>⟨l,r,u,q,_,_,_,_,_,f,key _ _ ?_⟩,λI=>⟨z.bounds.succ (by omega),Q (by omega) _ _ _ ⟨rfl,λH y D hy=>?_⟩⟩⟩;·rw[w,BB (b:=(g.proc,-1,10)) (by rw[<-K];exact(if_neg n0).trans (if_pos (Oe P (by omega) (decide_eq_true I))))]
    grind
   ·have E:=Of (i:=k) (λH G h'=>L H G (by omega));exact⟨z.bounds.succ u,Z Y _ _ _ ⟨rfl,by rw[w,BY (by grind)]⟩⟩
 rw[(z.bounds.done u).1,Ar]at w;rw[w];exact⟨rfl,rfl⟩
end
structure IT (d:Ds):Prop where
 small:Small d
 ms:∀m∈d.measures,Cz 1 m.x=true
 is:∀m∈d.invs,Cz 1 m.x=true
 qs:∀m∈d.pots,Cz 1 m.x=true
 bs:∀m∈d.bounds,Cz 1 m.x=true
 ps:∀p∈d.procs,CI 1 p.body=true/\CC p.body<=200
theorem KI{e:E}(h:Bz e=true):Cz 1 e=true:=by
 grind[Bz]
theorem vparts{d:Ds}(h:BC d=true):IT d:=by
 unfold BC FW at h;simp only[zC,decide_eq_true_eq,za]at h;obtain⟨⟨⟨⟨⟨⟨⟨-,-⟩,u⟩,-⟩,-⟩,-⟩,w⟩,⟨⟨hm,hi⟩,z⟩,y⟩:=h;have fl:∀{l:List Fld}{n:Int},Dl l n=true->n<=100->l.length<=1000:=λh j=>by
  grind[Dl]
 refine⟨⟨fl u (by omega),λp f=>?_⟩,λm g=>?_,λm g=>?_,λm g=>?_,λm g=>?_,λp f=>?_⟩;·grind[DO]
 ·simp_all[EE,zC,KI]
 ·simp_all[GM,zC,KI]
 ·simp_all[Ho,zC,KI]
 ·simp_all[Hp,zC,KI]
 grind[DO,Hn]
theorem IU{α β:Type}{f:Nat->α->Option β}{b:β}:∀{i:Nat}{xs:List α},Ar f i xs=some b->∃j x,x∈xs/\f j x=some b
 |_,[],h=>by cases h
 |i,x::xs,h=>by
  cases g:f i x with
  |some c=>grind[BB]
  |none=>
   rw[BY g]at h;obtain⟨j,y,u,e⟩:=IU h;grind
def IV(r:Flt):Prop:=r.2.2≠0/\r.2.1=-1
theorem Hq{P:Flt->Prop}{a b:Option Flt}(g:∀r,a=some r->P r)(f:∀r,b=some r->P r):∀r,a.or b=some r->P r:=λr h=>by
 cases a with
 |none=>simp_all
 |some x=>simp_all
theorem Mr(d:Ds):∀r,FY d=some r->IV r:=by
 refine Hq (λr h=>?_) (Hq (λr h=>?_) (λr h=>?_))<;>obtain⟨j,x,f,e⟩:=IU h
 ·split at e;·cases e;exact⟨by simp,rfl⟩
  ·cases e
 ·split at e;·rename_i g;cases e;exact⟨g,rfl⟩
  ·cases e
 ·split at e;·rename_i g;cases e;exact⟨g,rfl⟩
  ·cases e
theorem Mt(d:Ds):∀r,Fi d=some r->IV r:=λr h=>by
 obtain⟨j,x,f,e⟩:=IU h;split at e;·cases e;exact⟨by simp,rfl⟩
 ·split at e;·rename_i g;cases e;exact⟨g,rfl⟩
  ·split at e;·cases e;exact⟨by simp,rfl⟩
   ·cases e
theorem Mu(d:Ds):∀r,DW d=some r->IV r:=by
 refine Hq (λr h=>?_) (Hq (λr h=>?_) (Hq (λr h=>?_) (λr h=>?_)))<;>obtain⟨j,x,g,e⟩:=IU h
 ·split at e;·cases e;exact⟨by simp,rfl⟩
  ·split at e;·cases e;exact⟨by simp,rfl⟩
   ·cases e
 ·split at e;·cases e;exact⟨by simp,rfl⟩
  ·split at e;·cases e;exact⟨by simp,rfl⟩
   ·cases e
 ·split at e;·cases e;exact⟨by simp,rfl⟩
  ·cases e
 ·split at e;·cases e;exact⟨by simp,rfl⟩
  ·split at e;·cases e;exact⟨by simp,rfl⟩
   ·cases e
theorem Mv(d:Ds):∀r,E5 d=some r->IV r:=by
 refine Hq (λr h=>?_) (Hq (λr h=>?_) (Hq (λr h=>?_) (λr h=>?_)))<;>obtain⟨j,x,f,e⟩:=IU h<;>split at e;all_goals first|(cases e;done)|(rename_i g;cases e;exact⟨g,rfl⟩)
theorem Og{d:Ds}(f:DW d=none):∀g∈d.bounds,∃p,Cj d g.proc=some p:=by
 have h4:form4 d=none:=by
  grind[DW,form4]
 have u:∀(l:List Bd)(i:Nat),Ar (λi b=>if(Cj d b.proc).isNone=true then some ((b.proc,-1,9):Flt)else if(d.bounds.take i).any (λg=>decide (g.proc=b.proc))=true then some (b.proc,-1,10)else none) i l=none->∀g∈l,∃p,Cj d g.proc=some p:=by
  intro l;induction l with
  |nil=>simp_all
  |cons y l n=>
   intro i h g w;cases z:Cj d y.proc with
   |none=>simp_all[BB,if_pos]
   |some p=>
    rcases List.mem_cons.1 w with rfl|w;·grind
    ·by_cases j:(d.bounds.take i).any (λg=>decide (g.proc=y.proc))=true;·simp_all[BB,if_neg,if_pos]
     ·rw[BY ((if_neg (by rw[z];simp)).trans (if_neg j))]at h;grind
 exact u d.bounds 0 h4
theorem JI{V:Mem}{p:Option Addr}{off n j m:Nat}{vs:List Value}(h:V.rowp p off n=some vs)(w:0<j)(z:j+m<=n):V.rowp (Aa (Aa p off) j) 0 m=some ((vs.drop j).take m):=by
 cases p with
 |none=>cases h
 |some a=>
  have e:((a.add off).add j).add 0=⟨a.block,a.off+off+j,none⟩:=by
   grind[zE]
  have g:(a.add off).off=a.off+off/\(a.add off).block=a.block:=by
   grind[zE]
  show V.row (((a.add off).add j).add 0) m=_;have h:V.row (a.add off) n=some vs:=h;rw[e];unfold Mem.row at h⊢;rw[g.2]at h;split at h
  ·rename_i c x y f;simp only[f];split at h
   ·rename_i u;rw[g.1]at u h;cases h;rw[if_pos ⟨rfl,by omega⟩,List.drop_take,List.take_take,List.drop_drop,Nat.min_eq_left (by omega)]
   ·cases h
  ·cases h
section
variable{V:Mem}{d:Ds}
theorem c240(R:Ds.Ok V d)(hv:IT d)(W:DW d=none):PP 240 [d.v] V (f2 (E5 d)):=by
 refine Bv.mk (x240 ?_);unfold E5;have B:=hv.small.1;have key:∀{X:Option Flt}(V2:Mem)(s:KB)(n:Int),V.sub V2->X=some (s,-1,n)->(xG (.tuple #[.string s,.int .i64 n])=xG (f2 X)/\V.sub V2):=λV2 s n h2 h=>by rw[h];exact⟨rfl,h2⟩
 unfold exp1;generalize A:(λ(_:Nat) (m:Ms)=>if BF d (BK d m.ty) m.x Ai≠0 then some ((m.name,-1,BF d (BK d m.ty) m.x Ai):Flt)else none)=F1;refine DN d.measures.length (λk V1=>V.sub V1/\Ar F1 0 d.measures=Ar F1 k (d.measures.drop k)) ⟨Mem.sub.refl _,rfl⟩ ?_;rintro k b c V1 J hi ⟨o,r⟩ Q;have f:=R.sub o;refine⟨λl=>?_,λl=>?_⟩
 ·obtain⟨g,hm,C,G,P,q,a,u⟩:=f.measures.get l;rw[G]at r;have H:=Ak (n:=k*7) q;refine⟨q,a,l,H,_,_,_,_,_,_,_,u,q,a,l,H,_,_,_,_,_,_,_,u,Tri.mono (Mo f B) ?_⟩;rintro _ V2 ⟨s',rfl,w,N⟩;have z:=w.rowp u;refine⟨s',false,rfl,JI (j:=3) (m:=4) z (by decide) (by decide),H,q,a,l,(c272 (sc:=BK d g.ty) (e:=g.x) (f.sub w) N ((f.sub w).measuresOk g hm).x (hv.ms g hm)).call ⟨_,rfl,λh=>⟨f.measures.succ l,Q P _ _ _ ⟨o.trans w,?_⟩⟩,λh=>⟨q,a,l,H,_,_,_,_,_,_,_,z,key _ _ _ (o.trans w) ?_⟩⟩⟩;·rw[r,BY (by rw[<-A];exact if_neg λe=>e h)]
  ·rw[r,BB (b:=(g.name,-1,BF d (BK d g.ty) g.x Ai)) (by rw[<-A];exact if_pos h)];rfl
 rw[(f.measures.done l).1,Ar]at r;rw[r,xW];unfold exp2;generalize I:(λ(_:Nat) (m:Iv)=>if BF d (BK d m.ty) m.x Au≠0 then some ((m.name,-1,BF d (BK d m.ty) m.x Au):Flt)else none)=F2;refine DN d.invs.length (λk V1=>V.sub V1/\Ar F2 0 d.invs=Ar F2 k (d.invs.drop k)) ⟨o,rfl⟩ ?_;rintro k b c V1 J hi ⟨o,r⟩ Q;have f:=R.sub o;refine⟨λl=>?_,λl=>?_⟩
 ·obtain⟨g,hm,C,G,P,q,a,u⟩:=f.invs.get l;rw[G]at r;have H:=Ak (n:=k*6) q;refine⟨q,a,l,H,_,_,_,_,_,_,u,q,a,l,H,_,_,_,_,_,_,u,Tri.mono (Mo f B) ?_⟩;rintro _ V2 ⟨s',rfl,w,N⟩;have z:=w.rowp u;refine⟨s',false,rfl,JI (j:=2) (m:=4) z (by decide) (by decide),H,q,a,l,(c272 (sc:=BK d g.ty) (e:=g.x) (f.sub w) N ((f.sub w).invsOk g hm) (hv.is g hm)).call ⟨_,rfl,λh=>⟨f.invs.succ l,Q P _ _ _ ⟨o.trans w,?_⟩⟩,λh=>⟨q,a,l,H,_,_,_,_,_,_,z,key _ _ _ (o.trans w) ?_⟩⟩⟩;·rw[r,BY (by rw[<-I];exact if_neg λe=>e h)]
  ·rw[r,BB (b:=(g.name,-1,BF d (BK d g.ty) g.x Au)) (by rw[<-I];exact if_pos h)];rfl
 rw[(f.invs.done l).1,Ar]at r;rw[r,xW];unfold exp3;generalize M:(λ(_:Nat) (m:Po)=>if BF d (BK d m.ty) m.x Ai≠0 then some ((sPot,-1,BF d (BK d m.ty) m.x Ai):Flt)else none)=F3;refine DN d.pots.length (λk V1=>V.sub V1/\Ar F3 0 d.pots=Ar F3 k (d.pots.drop k)) ⟨o,rfl⟩ ?_;rintro k b c V1 J hi ⟨o,r⟩ Q;have f:=R.sub o;refine⟨λl=>?_,λl=>?_⟩
 ·obtain⟨g,hm,C,G,P,q,a,u⟩:=f.pots.get l;rw[G]at r;have H:=Ak (n:=k*5) q;refine⟨q,a,l,H,_,_,_,_,_,u,q,a,l,H,_,_,_,_,_,u,Tri.mono (Mo f B) ?_⟩;rintro _ V2 ⟨s',rfl,w,N⟩;have z:=w.rowp u;refine⟨s',false,rfl,JI (j:=1) (m:=4) z (by decide) (by decide),H,q,a,l,(c272 (sc:=BK d g.ty) (e:=g.x) (f.sub w) N ((f.sub w).potsOk g hm) (hv.qs g hm)).call ⟨_,rfl,λh=>⟨f.pots.succ l,Q P _ _ _ ⟨o.trans w,?_⟩⟩,λh=>key _ _ _ (o.trans w) ?_⟩⟩;·rw[r,BY (by rw[<-M];exact if_neg λe=>e h)]
  ·rw[r,BB (b:=(sPot,-1,BF d (BK d g.ty) g.x Ai)) (by rw[<-M];exact if_pos h)];rfl
 rw[(f.pots.done l).1,Ar]at r;rw[r,xW];have D:=Og W;unfold exp4;generalize F:(λ(_:Nat) (m:Bd)=>if BF d (EG d ((Cj d m.proc).getD HW)) m.x Ai≠0 then some ((m.proc,-1,BF d (EG d ((Cj d m.proc).getD HW)) m.x Ai):Flt)else none)=F4;refine DN d.bounds.length (λk V1=>V.sub V1/\Ar F4 0 d.bounds=Ar F4 k (d.bounds.drop k)) ⟨o,rfl⟩ ?_;rintro k b c V1 J hi ⟨o,r⟩ Q;have f:=R.sub o;refine⟨λl=>?_,λl=>?_⟩
 ·obtain⟨g,hm,C,G,P,q,a,u⟩:=f.bounds.get l;rw[G]at r;have H:=Ak (n:=k*5) q;obtain⟨p,hpp⟩:=D g hm;rcases CP (λt:Pr=>decide (t.name=g.proc)) d.procs with⟨T,U,i3⟩|⟨i,x,T,U,i3,i4,i5,i6,i7,_⟩;·grind[Cj]
  have E:Cj d g.proc=some x:=i3;refine⟨q,a,l,H,_,_,_,_,_,u,(c136 f).call ⟨_,rfl,?_⟩⟩;rw[T];have hpn:=f.procs.n_eq;have Y:(i:Int)<(d.ps.n:Int):=by omega
  obtain⟨y,hmy,L,hdy,hly,K,S,O⟩:=f.procs.get Y;rw[U]at L;cases L;refine⟨K,S,Y,_,_,_,_,_,O,q,a,l,H,_,_,_,_,_,u,Tri.mono (refInBound f (f.procsOk x i6) B (hv.small.2 x i6)) ?_⟩;rintro _ V2 ⟨s',rfl,w,N⟩;have z:=w.rowp u;have Z:(Cj d g.proc).getD HW=x:=by rw[E];rfl
  refine⟨s',false,rfl,JI (j:=1) (m:=4) z (by decide) (by decide),H,q,a,l,(c272 (sc:=EG d x) (e:=g.x) (f.sub w) N ((f.sub w).boundsOk g hm) (hv.bs g hm)).call ⟨_,rfl,λh=>⟨f.bounds.succ l,Q P _ _ _ ⟨o.trans w,?_⟩⟩,λh=>⟨q,a,l,H,_,_,_,_,_,z,key _ _ _ (o.trans w) ?_⟩⟩⟩;·rw[r,BY (by rw[<-F];exact if_neg λe=>e (by rw[Z];exact h))]
  ·rw[r,BB (b:=(g.proc,-1,BF d (EG d x) g.x Ai)) (by rw[<-F];exact(if_pos (by rw[Z];exact h)).trans (by rw[Z]))];try rfl
 rw[(f.bounds.done l).1,Ar]at r;rw[r];exact⟨rfl,o⟩
def f3(o:Option Flt):Value:=.tuple #[.string (fltR o).1,.int .i64 (fltR o).2.1,.int .i64 (fltR o).2.2]
theorem c192(w:Ds.Ok V d)(hv:IT d):PP 192 [d.v] V (f3 (CS d)):=by
 refine x192 ?_;unfold CS;have bad:∀{a b:Option Flt},(∀r,a=some r->IV r)->¬((fltR a).2.2=0)->(xG (.tuple #[.string (fltR a).1,.int .i64 (-1),.int .i64 (fltR a).2.2])=xG (f3 (a.or b))/\V=V):=λ{a b} l h=>by
  cases a with
  |none=>exact absurd rfl h
  |some r=>
   have:=l r rfl;unfold f3 fltR;simp only[Option.some_or,xX];rw[this.2];simp_all
 have good:∀{a:Option Flt},(∀r,a=some r->IV r)->(fltR a).2.2=0->a=none:=λ{a} l h=>by
  cases a with
  |none=>rfl
  |some r=>exact absurd h (l r rfl).1
 refine(c236 w).call ⟨_,_,rfl,λh=>?_,λh=>bad (Mr d) h⟩;rw[good (Mr d) h,xW];refine(c237 w hv.small).call ⟨_,_,rfl,λh=>?_,λh=>bad (Mt d) h⟩;rw[good (Mt d) h,xW];refine(c238 w).call ⟨_,_,rfl,λh=>?_,λh=>bad (Mu d) h⟩;have f:=good (Mu d) h;rw[f,xW];unfold E4;generalize H:(λ(_:Nat) (p:Pr)=>if(AL d (Av d p) p.result 0 p.body).2≠0 then some ((p.name,(AL d (Av d p) p.result 0 p.body).1,(AL d (Av d p) p.result 0 p.body).2):Flt)else none)=F1;refine loop4s (mk:=.string) (mc:=.int .i64) (md:=.int .i64) (Ac []) 0 0 CY d.procs.length (λk _ V1=>V=V1/\Ar F1 0 d.procs=Ar F1 k (d.procs.drop k)) ⟨rfl,rfl⟩ ?_;rintro k b c Y V1 J hi ⟨rfl,j⟩ G;refine⟨λz=>?_,λz=>?_⟩
 ·obtain⟨g,hm,W,q,N,i,o,u⟩:=w.procs.get z;rw[q]at j;have s:=Ak (n:=k*5) i;have y:=w.procsOk g hm;obtain⟨e,Z⟩:=hv.ps g hm;refine⟨i,o,z,_,_,_,_,_,u,i,o,z,s,_,_,_,_,_,u,(refStmts w y hv.small.1 (hv.small.2 g hm) g.body g.bs 0 1 y.body y.stmts e (by omega) (by omega)).call ⟨_,_,rfl,λh=>⟨w.procs.succ z,G N _ _ _ _ ⟨rfl,?_⟩⟩,λh=>⟨i,o,z,s,_,_,_,_,_,u,?_⟩⟩⟩;·rw[j,BY (by grind)]
  ·rw[j,BB (b:=(g.name,(AL d (Av d g) g.result 0 g.body).1,(AL d (Av d g) g.result 0 g.body).2)) (by grind)];exact⟨rfl,rfl⟩
 rw[(w.procs.done z).1,Ar]at j;rw[j,xW];refine(c240 w hv f).call ⟨_,_,rfl,λh=>?_,λh=>?_⟩;·rw[good (Mv d) h];exact⟨rfl,rfl⟩
 ·have:=bad (b:=none) (Mv d) h;grind
def wellT(d:Ds):Bool:=BC d&&decide ((fltR (CS d)).2.2=0)
theorem c135(g:Ds.Ok V d):PP 135 [d.v] V (.bool (wellT d)):=by
 refine x135 ?_;unfold wellT;refine(Ml g).call ⟨_,rfl,λh=>(c192 g (vparts h)).call ⟨_,_,_,rfl,?_⟩,λh=>?_⟩;·simp_all
 simp_all
end
structure Ca (V:Mem)(c:Option Addr)(d:Ds):Prop where
 at_:∃cb mt mp t,c=some ⟨cb,0,none⟩/\V cb=some (.cells (d.row++[zz (some mt),zz (some mp)]).toArray t (0,0))/\By V mt (λk=>(Dy d k).map Ty.v)/\By V mp (λk=>(Cj d k).map Pr.v)
 ok:Ds.Ok V d
theorem Ca.sub{V V':Mem}{c:Option Addr}{d:Ds}(h:Ca V c d)(g:V.sub V'):Ca V' c d:=by
 obtain⟨cb,mt,mp,t,h1,h2,h3,h4⟩:=h.at_;exact⟨⟨cb,mt,mp,t,h1,g _ _ h2,h3.sub g,h4.sub g⟩,h.ok.sub g⟩
theorem Ca.nn{V:Mem}{c:Option Addr}{d:Ds}(h:Ca V c d):¬(c=none):=by
 obtain⟨cb,mt,mp,t,h1,h2,h3,h4⟩:=h.at_;rw[h1];simp
theorem Ca.cell{V:Mem}{c:Option Addr}{d:Ds}(h:Ca V c d){i:Nat}{v:Value}(hv:(d.row)[i]?=some v):V.rowp c (i*1) 1=some [v]:=by
 obtain⟨cb,mt,mp,t,h1,h2,h3,h4⟩:=h.at_;rw[h1,Nat.mul_one];have hi:=(yw.1 hv).1;have f:d.row.length=8:=rfl;rw[An h2 i 1 (by simp;omega)];have:(d.row++[zz (some mt),zz (some mp)])[i]?=some v:=by grind
 have g:i<(d.row++[zz (some mt),zz (some mp)]).length:=by rw[List.length_append];omega
 show some (((d.row++[zz (some mt),zz (some mp)]).drop i).take 1)=_;rw[List.drop_eq_getElem_cons g,(yw.1 this).2];rfl
theorem Ca.types{V:Mem}{c:Option Addr}{d:Ds}(h:Ca V c d):∃mt,V.rowp c 8 1=some [.map (some mt)]/\By V mt (λk=>(Dy d k).map Ty.v):=by
 obtain⟨cb,mt,mp,t,h1,h2,h3,h4⟩:=h.at_;exact⟨mt,by rw[h1,An h2 8 1 (by simp[Ds.row])];rfl,h3⟩
theorem Ca.procs{V:Mem}{c:Option Addr}{d:Ds}(h:Ca V c d):∃mt,V.rowp c 9 1=some [.map (some mt)]/\By V mt (λk=>(Cj d k).map Pr.v):=by
 obtain⟨cb,mt,mp,t,h1,h2,h3,h4⟩:=h.at_;exact⟨mp,by rw[h1,An h2 9 1 (by simp[Ds.row])];rfl,h4⟩
def Cr(l:List Fld)(k:KB):Option KB:=(l.find? λf=>decide (f.name=k)).map (·.ty)
theorem Oh(l:List Fld)(k:KB):B0 l k=(Cr l k).getD sE:=by
 induction l with
 |nil=>rfl
 |cons f l h=>
  grind[Cr,B0]
def NE(l:List Fld):Prop:=∀f∈l,f.ty≠sE
theorem NE.some{l:List Fld}(h:NE l){k t:KB}(hv:Cr l k=some t):t≠sE:=by
 unfold Cr at hv;obtain⟨f,g,rfl⟩:=Option.map_eq_some_iff.1 hv;exact h f (xY g)
structure Fk (V:Mem)(m:Option Nat)(sc:Sc):Prop where
 at_:∃mb,m=some mb/\By V mb (λk=>(Cr sc.vars k).map Value.string)
 ne:NE sc.vars
theorem Fk.sub{V V':Mem}{m:Option Nat}{sc:Sc}(h:Fk V m sc)(g:V.sub V'):Fk V' m sc:=by
 obtain⟨mb,h1,h2⟩:=h.at_;exact⟨⟨mb,h1,h2.sub g⟩,h.ne⟩
def sV(c:Option Addr)(m:Option Nat)(sc:Sc):Value:=.agg #[.pointer c,.map m,.bool sc.body]
structure EU (d:Ds):Prop where
 types:∀t∈d.types,NE t.fields
 globals:NE d.globals
 params:∀p∈d.procs,NE p.params/\NE p.locals
theorem typB_ne{s:KB}(h:typB s=true):s≠sE:=by
 intro e;subst e;have:typB sE=false:=by
  rfl
 simp_all
theorem flds_ne{l:List Fld}{n:Int}(h:Dl l n=true):NE l:=λf g=>by
 simp_all[Dl,zC,za,fldB,typB_ne]
theorem QI{d:Ds}(h:BC d=true):EU d:=by
 unfold BC at h;simp only[zC,decide_eq_true_eq,za]at h;obtain⟨⟨⟨⟨⟨⟨⟨-,-⟩,u⟩,-⟩,-⟩,w⟩,z⟩,-⟩:=h;refine⟨λt g=>?_,flds_ne u,λp f=>?_⟩
 ·have:=w t g;unfold ED at this;rw[zC]at this;exact flds_ne this.2
 ·have:=z p f;unfold DO at this;simp only[zC]at this;grind[flds_ne]
theorem zero114(w:World):(zeroValue 114).run xE w=.ok (.agg #[.string zA,.slice none 0 0]) w:=by kernel_rfl
theorem zero76(w:World):(zeroValue 76).run xE w=.ok (.agg #[.string zA,.slice none 0 0,.string zA,.slice none 0 0,.slice none 0 0]) w:=by kernel_rfl
theorem zero9(w:World):(zeroValue 9).run xE w=.ok (.string zA) w:=by kernel_rfl
theorem tyOf_node(d:Ds)(s:KB):(Dy d s).isSome=Ci d s:=by
 grind[Dy,Ci]
theorem tyOf_mem{d:Ds}{s:KB}{t:Ty}(h:Dy d s=some t):t∈d.types:=xY h
theorem Mw{d:Ds}{s:KB}{t:Pr}(h:Cj d s=some t):t∈d.procs:=xY h
section
variable{V:Mem}{d:Ds}{c:Option Addr}{m:Option Nat}{sc:Sc}
theorem c179(h:Ca V c d){s:KB}:PP 179 [.pointer c,.string s] V (.bool (Ci d s)):=by
 refine x179 ?_;obtain⟨mt,h1,h2⟩:=h.types;refine⟨h.nn,h.nn,_,h1,BJ.str xZ xz zero114 h2 ?_⟩;rw[<-tyOf_node];cases g:Dy d s with
 |none=>exact⟨_,⟨none,0,0⟩,_,rfl,rfl,rfl⟩
 |some t=>exact⟨_,t.fs,_,rfl,rfl,rfl⟩
theorem c173(h:Ca V c d){s:KB}:PP 173 [.pointer c,.string s] V (.bool (Bq d s)):=by
 refine x173 ?_;refine⟨λh1=>?_,λh1=>⟨λh2=>?_,λh2=>(c179 h).call ⟨_,rfl,?_⟩⟩⟩<;>simp[Bq,Ai,Au, *]
theorem c261(h:Ca V c d){s t:KB}:PP 261 [.pointer c,.string s,.string t] V (.bool (BA d s t)):=by
 refine x261 ?_;unfold BA DP;refine⟨λh1=>?_,λh1=>⟨λh2=>(c179 h).call ⟨_,rfl,?_⟩,λh2=>?_⟩⟩;·simp_all
 ·simp_all
 simp_all
theorem c262(h:Ca V c d)(hv:EU d){s t:KB}:PP 262 [.pointer c,.string s,.string t] V (.tuple #[.string (Dz d s t).1,.int .i64 (Dz d s t).2]):=by
 refine x262 ?_;obtain⟨mt,h1,h2⟩:=h.types;refine⟨h.nn,h.nn,_,h1,BJ.str xZ xz zero114 h2 ?_⟩;unfold Dz;cases l:Dy d s with
 |none=>exact⟨_,⟨none,0,0⟩,_,rfl,λh=>absurd h (by simp),λ_=>⟨rfl,rfl⟩⟩
 |some ty=>
  refine⟨_,ty.fs,_,rfl,λ_=>?_,λh=>absurd rfl h⟩;have w:=(h.ok.typesOk ty (tyOf_mem l)).fields;have z:=hv.types ty (tyOf_mem l);simp only;refine DN ty.fields.length (λi V1=>V=V1/\B0 ty.fields t=B0 (ty.fields.drop i) t) ⟨rfl,rfl⟩ ?_;rintro i b c V1 J hi ⟨rfl,f⟩ r;refine⟨λg=>?_,λy=>?_⟩
  ·obtain⟨x,hm,e,j,q,o,a,u⟩:=w.get g;rw[j,B0]at f;refine⟨o,a,g,_,_,u,λn=>?_,λn=>⟨w.succ g,r q _ _ _ ⟨rfl,?_⟩⟩⟩
   ·rw[if_pos n]at f;rw[f,if_neg (z x hm)];simp_all
   simp_all
  ·rw[(w.done y).1,B0]at f;rw[f,if_pos rfl];exact⟨rfl,rfl⟩
theorem c313{b:Nat}{s:KB}{t:Nat}(h:V b=some (cell (.string s) t)){x:Ms}:PP 313 [x.v,pv b] V (.bool (decide (x.name=s))):=by
 refine x313 ?_;exact⟨_,AG h,rfl,rfl⟩
def JJ{α:Type}(f:FuncId)(row:α->List Value)(v:α->Value)(sz:Nat):Prop:=∀{V:Mem}{l:Sl}{xs:List α}{g:Nat}{first caps:List Value}(h:Ad V l sz (xs.map row))(u:HT g)(p:α->Bool) (w:∀x∈xs,PP g (first++[v x]++caps) V (.bool (p x))),PP f [l.v,.func (.func g) first.toArray caps.toArray] V (.int .i64 (Ck p xs))
theorem KJ{α:Type}{f:FuncId}{row:α->List Value}{v:α->Value}{sz:Nat}(H:IdxP f row v sz):JJ f row v sz:=by
 intro V l xs g first j h n p r
 refine Tri.mono (H n (λi V1=>V=V1/\Bf (λy=>!p y) xs i) (λi V1=>V=V1/\∃x,xs[i]?=some x/\p x=true/\Bf (λy=>!p y) xs i) (λi V1 u=>u.1▸h) ⟨rfl,Bf.zero _ _⟩ ?_) ?_
 ·rintro i x V1 w ⟨rfl,u⟩;have hm:x∈xs:=List.mem_of_getElem? w;exact(r x hm).callv ⟨_,rfl,λz=>⟨rfl,x,w,z,u⟩,λz=>⟨rfl,HZ u w z⟩⟩
 ·rintro e V' (⟨i,rfl,rfl,x,w,z,u⟩|⟨rfl,rfl,u⟩);·rw[HX u w z];simp_all
  ·rw[HY u (Nat.le_refl _)];simp_all
theorem idxMs:JJ 257 Ms.row Ms.v 7:=KJ g257
theorem c289(h:Ca V c d){s:KB}{l:Sl}{xs:List KB}(o:Ad V l 1 (xs.map Dj)):PP 289 [sV c m sc,.string s,l.v] V (.tuple #[.string (FX d s xs).1,.int .i64 (FX d s xs).2]):=by
 refine Bv.mk (x289 ?_);refine⟨h.nn,h.nn,Ak h.nn,d.ms,h.cell (i:=4) rfl,λb e=>?_⟩;have z:=Mem.sub_new e (cell (.string s) 9);have h1:=h.sub z;have g:=o.sub z;refine(idxMs (l:=d.ms) (first:=[]) (caps:=[pv b]) h1.ok.measures Tryz.call313 (λt=>decide (t.name=s)) (λx _=>c313 Az)).call ⟨_,rfl,?_⟩;unfold FX meOf;have key:∀{X:KB×Int}(a:KB)(n:Int),X=(a,n)->(xG (.tuple #[.string a,.int .i64 n])=xG (.tuple #[.string X.1,.int .i64 X.2])/\V.sub (V.set b (cell (.string s) 9))):=λa n h=>by simp_all
 rcases CP (λt:Ms=>decide (t.name=s)) d.measures with⟨h1,h2,h3⟩|⟨i,x,i1,i2,i3,i4,i5,i6,i7,_⟩;·rw[h1,h2];exact⟨λ_=>key _ _ rfl,λh=>absurd h (by decide)⟩
 ·rw[i1,i3];have Z:=h1.ok.measures.n_eq;have f:(i:Int)<(d.ms.n:Int):=by omega
  obtain⟨y,hm,j,H,J,r,G,u⟩:=h1.ok.measures.get f;rw[i2]at j;cases j;have Y:=g.n_eq;refine⟨λh=>absurd h (by omega),λ_=>⟨λN=>?_,λN=>key _ _ (if_pos (by omega))⟩⟩;obtain⟨a1,a2,a3⟩:=Fj g (i:=0) (by omega);have q:¬(xs.length≠1):=by omega
  refine⟨a1,by omega,by omega,_,a3,h.nn,h.nn,Ak h.nn,d.ms,h1.cell (i:=4) rfl,r,G,f,Ak r,_,_,_,_,_,_,_,u,(c261 h1).call ⟨_,rfl,λw=>key _ _ ?_,λw=>key _ _ ?_⟩⟩;·simp only[q,if_false];unfold DA;rw[if_pos w];rfl
  ·simp only[q,if_false];unfold DA;rw[if_neg w];rfl
theorem c292{b:Nat}{s:KB}{t:Nat}(h:V b=some (cell (.string s) t)){x:KB}:PP 292 [strV x,pv b] V (.bool (!decide (x=s))):=by
 refine x292 ?_;exact⟨_,AG h,rfl,rfl⟩
theorem c290{b t:Nat}{l:Sl}{xs:List KB}(u:V b=some (cell (.slice l.p l.n l.c) t))(w:Ad V l 1 (xs.map Dj)){s r:KB}:
  PP 290 [.string s,.string r,pv b] V (.tuple #[.string (DA (allT xs s) r).1,.int .i64 (DA (allT xs s) r).2]):=by
 refine Bv.mk (x290 ?_);refine⟨l,AG u,λb1 g=>?_⟩;have f:=Mem.sub_new g (cell (.string s) 9);refine(c291 (l:=l) (first:=[]) (caps:=[pv b1]) (w.sub f) Tryz.call292 (λx=>!decide (x=s)) (λx _=>c292 Az)).call ⟨_,rfl,λh=>?_,λh=>?_⟩
 ·rw[xR]at h;have:allT xs s=false:=by grind[allT]
  rw[this];exact⟨rfl,f⟩
 ·rw[xR]at h;have:allT xs s=true:=by grind[allT]
  rw[this];exact⟨rfl,f⟩
end
theorem fits_first{d:Ds}{a b:KB}(h:BA d a b=true):(if a=DP then b else a)=b:=by
 grind[BA]
theorem fits_second{d:Ds}{a b:KB}(h:¬BA d a b=true)(h2:BA d b a=true):(if a=DP then b else a)=a:=by
 grind[BA,absurd]
def H4(d:Ds)(sc:Sc)(s:KB)(l:List KB):KB×Int:=if sc.body=true then Er d s l else FX d s l
theorem measT_ne{d:Ds}{s:KB}{l:List KB}(h:(FX d s l).2=0):(FX d s l).1≠sE:=by
 unfold FX at h⊢;split at h;·omega
 ·split at h;·omega
  ·rename_i g;simp only[if_neg g];unfold DA at h⊢;split at h;·rename_i h2;rw[if_pos h2];simp only;decide
   omega
theorem callE_raw(d:Ds)(sc:Sc)(s:KB)(l:List KB):Fh d sc s l=if(H4 d sc s l).2=0/\(H4 d sc s l).1=sE then(sE,11)else H4 d sc s l:=by
 unfold Fh H4;by_cases h:sc.body=true;·simp_all
 simp_all[if_neg,absurd,measT_ne]
section
variable{V:Mem}{d:Ds}{c:Option Addr}{m:Option Nat}{sc:Sc}
def ImpE(V:Mem)(d:Ds)(c:Option Addr)(m:Option Nat)(sc:Sc)(e:E):Prop:=∀V1,V.sub V1->PP 230 [sV c m sc,e.v] V1 (.tuple #[.string (As d sc e).1,.int .i64 (As d sc e).2])
def rawT(d:Ds)(sc:Sc)(e:E):KB×Int:=if(partsT d sc [] e.k).2≠0 then(sE,(partsT d sc [] e.k).2)else H4 d sc e.s (partsT d sc [] e.k).1
theorem impCall(h:Ca V c d)(e:E)(A:E.Ok V e)(U:(e.k.length:Int)<=6)(hk:∀x∈e.k,ImpE V d c m sc x):
  PP 260 [sV c m sc,e.v] V (.tuple #[.string (rawT d sc e).1,.int .i64 (rawT d sc e).2]):=by
 have hr:=A.rows;refine Bv.mk (x260 ?_);unfold rawT;refine loop4s (mk:=.string) (mc:=.int .i64) (md:=λs:Sl=>.slice s.p s.n s.c) (Ac []) 0 ⟨none,0,0⟩ Bw e.k.length (λi s V1=>∃acc,Own V V1 9 1 s (acc.flatMap Dj)/\partsT d sc [] e.k=partsT d sc acc (e.k.drop i)/\acc.length=i) ⟨[],Own.nil (Mem.sub.refl _) _ _,rfl,rfl⟩ ?_;rintro i b b' s V1 J hi ⟨acc,g,l,r⟩ I;have q:=hr.sub g.sub;refine⟨λz=>?_,λo=>?_⟩
 ·obtain⟨x,hm,hx,M,hl,F,hz,Z⟩:=q.get z;rw[M,HV]at l;refine⟨F,hz,z,_,_,_,_,Z,(hk x hm V1 g.sub).call ⟨_,_,rfl,λP=>?_,λP=>?_⟩⟩
  ·intro b1 L;rw[if_neg (λh=>h P)]at l;refine app194 (s:=s) (u:=⟨some ⟨b1,0,none⟩,1,1⟩) (xs:=acc) (ys:=[(As d sc x).1]) rfl rfl (g.new L _) (JH Az) (by simp;omega) λs' V' ho=>⟨s',rfl,q.succ z,I hl _ _ _ _ ⟨_,ho,l,by simp[r]⟩⟩
  ·rw[if_pos P]at l;rw[l];simp only[ne_eq,P,not_false_eq_true,if_true];exact⟨by trivial,g.sub⟩
 ·rw[(q.done o).1,IQ]at l;rw[l];simp only[ne_eq,not_true_eq_false,if_false];have w:=ownS g;have h1:=h.sub g.sub;have key:∀{X:KB×Int}(a:KB)(n:Int),X=(a,n)->(xG (.tuple #[.string a,.int .i64 n])=xG (.tuple #[.string X.1,.int .i64 X.2])/\V.sub V1):=λa n h=>by rw[h];exact⟨rfl,g.sub⟩
  unfold H4;refine⟨λN=>?_,λN=>?_⟩
  ·rw[if_pos N];obtain⟨mt,q1,q2⟩:=h1.procs;refine⟨h.nn,h.nn,_,q1,BJ.str Tryz.underlying216 xz zero76 q2 ?_⟩;unfold Er;cases R:Cj d e.s with
   |none=>exact⟨_,⟨none,0,0⟩,_,⟨none,0,0⟩,⟨none,0,0⟩,_,rfl,λh=>absurd h (by simp),λ_=>key _ _ rfl⟩
   |some p=>
    have Y:=h1.ok.procsOk p (Mw R);have e1:=w.n_eq;have e2:=Y.params.n_eq;refine⟨_,p.ps,_,p.ls,p.bs,_,rfl,λ_=>⟨λA=>?_,λA=>key _ _ (if_pos (by omega))⟩,λh=>absurd rfl h⟩;have B:acc.length=p.params.length:=by omega
    simp only[B,ne_eq,not_true_eq_false,if_false];refine DN acc.length (λi V2=>V1=V2/\DQ d acc p.params=DQ d (acc.drop i) (p.params.drop i)) ⟨rfl,rfl⟩ ?_;rintro j b c' V2 J hi ⟨rfl,O⟩ I;refine⟨λz=>?_,λo=>?_⟩
    ·obtain⟨y,hm',hx',W,C,D,K,H⟩:=w.get z;obtain⟨f,hmf,hxf,S,hlf,Q,T,G⟩:=Y.params.get (i:=j) (by omega);rw[W,S,DQ]at O;refine⟨D,K,z,_,H,Q,T,by omega,Ak Q,_,_,G,(c261 h1).call ⟨_,rfl,λN=>⟨w.succ z,I C _ _ _ ⟨rfl,?_⟩⟩,λN=>key _ _ ?_⟩⟩;·simp_all
     ·rw[eq_false_of_ne_true N,Bool.false_and]at O;rw[O];rfl
    ·rw[(w.done o).1,Oc]at O;simp_all
  ·rw[if_neg N];exact(c289 h1 w).call ⟨_,_,rfl,key _ _ rfl⟩
theorem impNode(h:Ca V c d)(hv:EU d)(S:Fk V m sc){e:E}{l:Sl}{xs:List KB}(O:Ad V l 1 (xs.map Dj))(T:xs.length=e.k.length)(A:Dx e.op e.n e.s e.k.length=true)(N:e.op≠7):
  PP 263 [sV c m sc,e.v,l.v] V (.tuple #[.string (EF d sc e.op e.s xs).1,.int .i64 (EF d sc e.op e.s xs).2]):=by
 have Z:=arity A;refine Bv.mk (x263 ?_);generalize g:EF d sc e.op e.s xs=X;have key:∀{V1:Mem}(a:KB)(n:Int),V.sub V1->X=(a,n)->(xG (.tuple #[.string a,.int .i64 n])=xG (.tuple #[.string X.1,.int .i64 X.2])/\V.sub V1):=λa n h1 h=>by simp_all
 have u:=Mem.sub.refl V;have f:=λa b=>c261 h (s:=a) (t:=b);have o:=λh:0<xs.length=>Fj O h;have at1:=λh:1<xs.length=>Fj O h;have at2:=λh:2<xs.length=>Fj O h;have call:∀(s r:KB),X=DA (allT xs s) r->Ag [(.slice l.p l.n l.c)] 194 V λv8 V1=>
   Tri xE 290 #[(.string s),(.string r),(.pointer (Aa v8 0))] V1 λz V2=>∃U:KB,∃Y:Int,z=.returned (.tuple #[(.string U),(.int .i64 Y)])/\(xG (.tuple #[(.string U),(.int .i64 Y)])=xG (.tuple #[.string X.1,.int .i64 X.2])/\V.sub V2):=λs r hx b W=>by
  have h1:=Mem.sub_new W (cell (.slice l.p l.n l.c) 194);exact(c290 (l:=l) Az (O.sub h1)).call ⟨_,_,rfl,key _ _ h1 (by rw[hx])⟩
 unfold EF at g;refine⟨λw=>key _ _ u ?_,λw=>⟨λy=>key _ _ u ?_,λy=>⟨λj=>key _ _ u ?_,λj=>⟨λi=>?_,λi=>⟨λq=>?_,λq=>⟨λH=>?_,λH=>⟨λI=>?_,λI=>⟨λM=>?_,λM=>⟨λF=>call _ _ ?_,λF=>⟨λL=>call _ _ ?_,λL=>⟨λR=>call _ _ ?_,λR=>⟨λB=>call _ _ ?_,λB=>⟨λC=>call _ _ ?_,λC=>⟨λJ=>?_,λJ=>call _ _ ?_⟩⟩⟩⟩⟩⟩⟩⟩⟩⟩⟩⟩⟩⟩;·rw[<-g,if_pos w];rfl
 ·rw[<-g,if_neg w,if_pos y];rfl
 ·rw[<-g,if_neg w,if_neg y,if_pos j];rfl
 ·rw[if_neg w,if_neg y,if_neg j,if_pos i,Oh]at g;obtain⟨mb,rfl,Q⟩:=S.at_;refine BJ.str Tryz.underlying286 xz zero9 Q ?_;cases G:Cr sc.vars e.s with
  |none=>
   rw[G,Option.getD_none]at g;exact⟨_,_,rfl,λh=>absurd h (by simp),λ_=>key _ _ u (by rw[<-g,if_pos rfl];rfl)⟩
  |some t=>
   rw[G,xX]at g;exact⟨t,_,rfl,λ_=>key _ _ u (by rw[<-g,if_neg (S.ne.some G)]),λh=>absurd rfl h⟩
 ·rw[if_neg w,if_neg y,if_neg j,if_neg i,if_pos q]at g;obtain⟨a1,a2,a3⟩:=o (by omega);exact⟨a1,by omega,a2,_,a3,(c262 h hv).call ⟨_,_,rfl,key _ _ u (by rw[<-g])⟩⟩
 ·rw[if_neg w,if_neg y,if_neg j,if_neg i,if_neg q,if_pos H]at g;refine⟨λW=>(c179 h).call ⟨_,rfl,λhn=>key _ _ u ?_,λhn=>key _ _ u ?_⟩,λW=>key _ _ u ?_⟩;·simp_all
  ·rw[<-g,if_neg (by rw[W];simp),if_pos (eq_false_of_ne_true hn)];rfl
  ·rw[<-g,if_pos (eq_false_of_ne_true W)];rfl
 iterate 2
  ·rw[if_neg w,if_neg y,if_neg j,if_neg i,if_neg q,if_neg H,if_neg N,if_pos (by omega)]at g;obtain⟨a1,a2,a3⟩:=o (by have:=Z.2.1 (by omega);omega);obtain⟨b1,b2,b3⟩:=at1 (by have:=Z.2.1 (by omega);omega);refine⟨a1,by omega,a2,_,a3,b1,by omega,b2,_,b3,(f _ _).call ⟨_,rfl,λh=>key _ _ u ?_,λh=>⟨b1,by omega,b2,_,b3,a1,by omega,a2,_,a3,(f _ _).call ⟨_,rfl,λh2=>key _ _ u ?_,λh2=>key _ _ u ?_⟩⟩⟩⟩;·rw[<-g,h];rfl
   ·rw[<-g,h2,Bool.or_true];rfl
   ·rw[<-g,eq_false_of_ne_true h,eq_false_of_ne_true h2];rfl
 iterate 2
  ·rw[if_neg w,if_neg y,if_neg j,if_neg i,if_neg q,if_neg H,if_neg N,if_neg (by omega),if_pos (by omega)]at g;exact g.symm
 iterate 3
  ·rw[if_neg w,if_neg y,if_neg j,if_neg i,if_neg q,if_neg H,if_neg N,if_neg (by omega),if_neg (by omega),if_pos (by omega)]at g;exact g.symm
 ·rw[if_neg w,if_neg y,if_neg j,if_neg i,if_neg q,if_neg H,if_neg N,if_neg (by omega),if_neg (by omega),if_neg (by omega),if_pos J]at g;obtain⟨a1,a2,a3⟩:=o (by omega);obtain⟨b1,b2,b3⟩:=at1 (by omega);obtain⟨D,K,c3⟩:=at2 (by omega);refine⟨a1,by omega,a2,_,a3,λP=>⟨b1,by omega,b2,_,b3,D,by omega,K,_,c3,(f _ _).call ⟨_,rfl,λh=>⟨D,by omega,K,_,c3,key _ _ u ?_⟩,λh=>⟨D,by omega,K,_,c3,b1,by omega,b2,_,b3,(f _ _).call ⟨_,rfl,λh2=>⟨b1,by omega,b2,_,b3,key _ _ u ?_⟩,λh2=>key _ _ u ?_⟩⟩⟩⟩,λP=>key _ _ u ?_⟩;·rw[<-g,decide_eq_true (show xs.getD 0 sE=Au from P),h,fits_first h];rfl
  ·rw[<-g,decide_eq_true (show xs.getD 0 sE=Au from P),h2,Bool.or_true,fits_second h h2];rfl
  ·rw[<-g,decide_eq_true (show xs.getD 0 sE=Au from P),eq_false_of_ne_true h,eq_false_of_ne_true h2];rfl
  ·rw[<-g,decide_eq_false (show ¬xs.getD 0 sE=Au from P)];rfl
 ·rw[if_neg w,if_neg y,if_neg j,if_neg i,if_neg q,if_neg H,if_neg N,if_neg (by omega),if_neg (by omega),if_neg (by omega),if_neg J]at g;exact g.symm
theorem impExpr(h:Ca V c d)(hv:EU d)(M:Fk V m sc):∀(e:E),E.Ok V e->∀H,Cz H e=true->ImpE V d c m sc e:=by
 intro e;induction e using E.ind with
 |h e F=>
 intro G H z V1 r;have N:=arity (JG z);have P:∀x∈e.k,ImpE V1 d c m sc x:=λx a V2 h2=>F x a (G.kids x a) (H+1) (KG z x a) V2 (r.trans h2);have h1:=h.sub r;refine Bv.mk (x230 ?_);have O:=Mn d sc e.k [];refine⟨λA=>(impCall h1 e (G.sub r) N.2.2.2 P).call ⟨_,_,rfl,?_⟩,λA=>?_⟩
 ·have Z:As d sc e=if(rawT d sc e).2=0/\(rawT d sc e).1=sE then(sE,11)else rawT d sc e:=by
   rw[KE];unfold rawT;by_cases f:(partsT d sc [] e.k).2≠0;·simp_all
   simp_all[if_neg,EF,if_pos,callE_raw]
  rw[Z];refine⟨λf=>⟨λh2=>?_,λh2=>?_⟩,λf=>?_⟩;·rw[if_pos ⟨f,h2⟩];exact⟨rfl,Mem.sub.refl _⟩
  ·rw[if_neg (λh=>h2 h.2)];exact⟨rfl,Mem.sub.refl _⟩
  ·rw[if_neg (λh=>f h.1)];exact⟨rfl,Mem.sub.refl _⟩
 ·rw[KE];have L:=(G.sub r).rows;refine loop4s (mk:=.string) (mc:=.int .i64) (md:=λs:Sl=>.slice s.p s.n s.c) (Ac []) 0 ⟨none,0,0⟩ Bw e.k.length (λi s V2=>∃acc,Own V1 V2 9 1 s (acc.flatMap Dj)/\partsT d sc [] e.k=partsT d sc acc (e.k.drop i)/\acc.length=i) ⟨[],Own.nil (Mem.sub.refl _) _ _,rfl,rfl⟩ ?_;rintro i b D s V2 J hi ⟨acc,g,y,j⟩ R;have w:=L.sub g.sub;refine⟨λl=>?_,λq=>?_⟩
  ·obtain⟨x,hm,a,Y,X,W,B,o⟩:=w.get l;rw[Y,HV]at y;refine⟨W,B,l,_,_,_,_,o,(P x hm V2 g.sub).call ⟨_,_,rfl,λf=>?_,λf=>?_⟩⟩
   ·intro b1 Q;rw[if_neg (λh=>h f)]at y;refine app194 (s:=s) (u:=⟨some ⟨b1,0,none⟩,1,1⟩) (xs:=acc) (ys:=[(As d sc x).1]) rfl rfl (g.new Q _) (JH Az) (by simp;omega) λs' V' C=>⟨s',rfl,w.succ l,R X _ _ _ _ ⟨_,C,y,by simp[j]⟩⟩
   ·rw[if_pos f]at y;rw[y];simp only[ne_eq,f,not_false_eq_true,if_true];exact⟨by trivial,g.sub⟩
  ·have I:=(w.done q).2;rw[(w.done q).1,IQ]at y;rw[y];simp only[ne_eq,not_true_eq_false,if_false];refine(impNode (h1.sub g.sub) hv ((M.sub r).sub g.sub) (ownS g) (by omega) (JG z) A).call ⟨_,_,rfl,rfl,g.sub⟩
end
theorem Hr{c k:Nat}{p:Option Addr}:(if(c:Int)=(0:Int)then p else Aa p ((0:Int).toNat*k))=p:=by
 have:Aa p ((0:Int).toNat*k)=p:=by
  rw[show(0:Int).toNat*k=0 by simp];cases p with
  |none=>rfl
  |some a=>show some (a.add 0)=_;unfold zE;rw[if_pos rfl]
 split;·rfl
 ·exact this
theorem sub0{n:Nat}:((n:Int)-(0:Int)).toNat=n:=by omega
theorem Ad.pre{α:Type}{V:Mem}{l:Sl}{sz:Nat}{row:α->List Value}{xs:List α}(h:Ad V l sz (xs.map row)){i:Nat}(hi:i<=xs.length):Ad V ⟨l.p,i,l.c⟩ sz ((xs.take i).map row):=by
 have g:=h.n_eq;have f:=h.cap;refine⟨by simp[hi],by grind,h.fit,λr u=>h.size r ?_,λj r w=>h.at_ j r ?_⟩;·grind
 grind
theorem GN{V:Mem}{p:Option Addr}{off n:Nat}{vs:List Value}(h:V.rowp p off n=some vs):V.rowp (Aa p off) 0 n=some vs:=by
 cases p with
 |none=>cases h
 |some a=>
  have:(a.add off).add 0=a.add off:=by rfl
  show V.row ((a.add off).add 0) n=_;rw[this];exact h
theorem c169{V:Mem}{x:Ty}:PP 169 [x.v] V (.string x.name):=by
 refine x169 ?_;exact⟨rfl,rfl⟩
theorem c218{V:Mem}{b1 b2 b3 r q t3 i:Nat}{l:Sl}{xs:List Ty}{x y:Ty}(h1:V b1=some (cell (.func (.func 169) #[] #[]) r))(h2:V b2=some (cell (.slice l.p l.n l.c) q))(h3:V b3=some (cell (.int .i64 i) t3))
  (f:Ad V l 2 (xs.map Ty.row)) (u:xs[i]?=some y):PP 218 [x.v,pv b1,pv b2,pv b3] V (.bool (decide (x.name=y.name))):=by
 refine x218 ?_;have a:=f.n_eq;have o:=(yw.1 u).1;have g:(i:Int)<(l.n:Int):=by omega
 obtain⟨e,hm,w,b,s,z,j,h⟩:=f.get g;rw[u]at w;cases w;exact⟨.func (.func 169) #[] #[],rfl,AG h1,.func (.func 169) #[] #[],rfl,AG h1,l,AG h2,_,AG h3,z,j,g,_,_,h,_,_,_,rfl,Tryz.call169,(c169 (x:=x)).callv (first:=[]) (caps:=[]) ⟨_,rfl,GN h,z,j,g,AG h3,AG h2,AG h1,_,_,_,rfl,Tryz.call169,(c169 (x:=y)).callv (first:=[]) (caps:=[]) ⟨_,rfl,rfl,rfl⟩⟩⟩
theorem c168{V:Mem}{l:Sl}{xs:List Ty}{i:Nat}{y:Ty}(u:Ad V l 2 (xs.map Ty.row))(z:xs[i]?=some y):PP 168 [l.v,.int .i64 i,.func (.func 169) #[] #[]] V (.bool ((xs.take i).any λg=>decide (g.name=y.name))):=by
 refine Bv.mk (x168 (a:=l) (c:=.func (.func 169) #[] #[]) ?_);have n:=u.n_eq;have r:=u.cap;have j:=(yw.1 z).1;refine⟨⟨by omega,by omega,by omega⟩,λb1 w b2 f b3 h=>?_⟩;have s:=(Mem.sub_new w _).trans ((Mem.sub_new f _).trans (Mem.sub_new h (cell (.int .i64 i) 3)));simp only[Hr,sub0];refine(c111 (l:=⟨l.p,i,l.c⟩) (first:=[]) (caps:=[pv b1,pv b2,pv b3]) (Ad.pre (u.sub s) (by omega)) Tryz.call218 (λg=>decide (g.name=y.name)) (λx _=>c218 ((Mem.sub_new h _) _ _ ((Mem.sub_new f _) _ _ Az)) ((Mem.sub_new h _) _ _ Az) Az (u.sub s) z)).call ⟨_,rfl,rfl,s⟩
theorem c172{V:Mem}{x:Fld}:PP 172 [x.v] V (.string x.name):=by
 refine x172 ?_;exact⟨rfl,rfl⟩
theorem c220{V:Mem}{b1 b2 b3 r q t3 i:Nat}{l:Sl}{xs:List Fld}{x y:Fld}(h1:V b1=some (cell (.func (.func 172) #[] #[]) r))(h2:V b2=some (cell (.slice l.p l.n l.c) q))(h3:V b3=some (cell (.int .i64 i) t3))
  (f:Ad V l 2 (xs.map Fld.row)) (u:xs[i]?=some y):PP 220 [x.v,pv b1,pv b2,pv b3] V (.bool (decide (x.name=y.name))):=by
 refine x220 ?_;have a:=f.n_eq;have o:=(yw.1 u).1;have g:(i:Int)<(l.n:Int):=by omega
 obtain⟨e,hm,w,b,s,z,j,h⟩:=f.get g;rw[u]at w;cases w;exact⟨.func (.func 172) #[] #[],rfl,AG h1,.func (.func 172) #[] #[],rfl,AG h1,l,AG h2,_,AG h3,z,j,g,_,_,h,_,_,_,rfl,Tryz.call172,(c172 (x:=x)).callv (first:=[]) (caps:=[]) ⟨_,rfl,GN h,z,j,g,AG h3,AG h2,AG h1,_,_,_,rfl,Tryz.call172,(c172 (x:=y)).callv (first:=[]) (caps:=[]) ⟨_,rfl,rfl,rfl⟩⟩⟩
theorem c171{V:Mem}{l:Sl}{xs:List Fld}{i:Nat}{y:Fld}(u:Ad V l 2 (xs.map Fld.row))(z:xs[i]?=some y):PP 171 [l.v,.int .i64 i,.func (.func 172) #[] #[]] V (.bool ((xs.take i).any λg=>decide (g.name=y.name))):=by
 refine Bv.mk (x171 (a:=l) (c:=.func (.func 172) #[] #[]) ?_);have n:=u.n_eq;have r:=u.cap;have j:=(yw.1 z).1;refine⟨⟨by omega,by omega,by omega⟩,λb1 w b2 f b3 h=>?_⟩;have s:=(Mem.sub_new w _).trans ((Mem.sub_new f _).trans (Mem.sub_new h (cell (.int .i64 i) 3)));simp only[Hr,sub0];refine(JD (l:=⟨l.p,i,l.c⟩) (first:=[]) (caps:=[pv b1,pv b2,pv b3]) (Ad.pre (u.sub s) (by omega)) Tryz.call220 (λg=>decide (g.name=y.name)) (λx _=>c220 ((Mem.sub_new h _) _ _ ((Mem.sub_new f _) _ _ Az)) ((Mem.sub_new h _) _ _ Az) Az (u.sub s) z)).call ⟨_,rfl,rfl,s⟩
theorem c175{V:Mem}{x:Pr}:PP 175 [x.v] V (.string x.name):=by
 refine x175 ?_;exact⟨rfl,rfl⟩
theorem c221{V:Mem}{b1 b2 b3 r q t3 i:Nat}{l:Sl}{xs:List Pr}{x y:Pr}(h1:V b1=some (cell (.func (.func 175) #[] #[]) r))(h2:V b2=some (cell (.slice l.p l.n l.c) q))(h3:V b3=some (cell (.int .i64 i) t3))
  (f:Ad V l 5 (xs.map Pr.row)) (u:xs[i]?=some y):PP 221 [x.v,pv b1,pv b2,pv b3] V (.bool (decide (x.name=y.name))):=by
 refine x221 ?_;have a:=f.n_eq;have o:=(yw.1 u).1;have g:(i:Int)<(l.n:Int):=by omega
 obtain⟨e,hm,w,b,s,z,j,h⟩:=f.get g;rw[u]at w;cases w;exact⟨.func (.func 175) #[] #[],rfl,AG h1,.func (.func 175) #[] #[],rfl,AG h1,l,AG h2,_,AG h3,z,j,g,_,_,_,_,_,h,_,_,_,rfl,Tryz.call175,(c175 (x:=x)).callv (first:=[]) (caps:=[]) ⟨_,rfl,GN h,z,j,g,AG h3,AG h2,AG h1,_,_,_,rfl,Tryz.call175,(c175 (x:=y)).callv (first:=[]) (caps:=[]) ⟨_,rfl,rfl,rfl⟩⟩⟩
theorem c174{V:Mem}{l:Sl}{xs:List Pr}{i:Nat}{y:Pr}(u:Ad V l 5 (xs.map Pr.row))(z:xs[i]?=some y):PP 174 [l.v,.int .i64 i,.func (.func 175) #[] #[]] V (.bool ((xs.take i).any λg=>decide (g.name=y.name))):=by
 refine Bv.mk (x174 (a:=l) (c:=.func (.func 175) #[] #[]) ?_);have n:=u.n_eq;have r:=u.cap;have j:=(yw.1 z).1;refine⟨⟨by omega,by omega,by omega⟩,λb1 w b2 f b3 h=>?_⟩;have s:=(Mem.sub_new w _).trans ((Mem.sub_new f _).trans (Mem.sub_new h (cell (.int .i64 i) 3)));simp only[Hr,sub0];refine(N9 (l:=⟨l.p,i,l.c⟩) (first:=[]) (caps:=[pv b1,pv b2,pv b3]) (Ad.pre (u.sub s) (by omega)) Tryz.call221 (λg=>decide (g.name=y.name)) (λx _=>c221 ((Mem.sub_new h _) _ _ ((Mem.sub_new f _) _ _ Az)) ((Mem.sub_new h _) _ _ Az) Az (u.sub s) z)).call ⟨_,rfl,rfl,s⟩
theorem c178{V:Mem}{x:Ms}:PP 178 [x.v] V (.string x.name):=by
 refine x178 ?_;exact⟨rfl,rfl⟩
theorem c224{V:Mem}{b1 b2 b3 r q t3 i:Nat}{l:Sl}{xs:List Ms}{x y:Ms}(h1:V b1=some (cell (.func (.func 178) #[] #[]) r))(h2:V b2=some (cell (.slice l.p l.n l.c) q))(h3:V b3=some (cell (.int .i64 i) t3))
  (f:Ad V l 7 (xs.map Ms.row)) (u:xs[i]?=some y):PP 224 [x.v,pv b1,pv b2,pv b3] V (.bool (decide (x.name=y.name))):=by
 refine x224 ?_;have a:=f.n_eq;have o:=(yw.1 u).1;have g:(i:Int)<(l.n:Int):=by omega
 obtain⟨e,hm,w,b,s,z,j,h⟩:=f.get g;rw[u]at w;cases w;exact⟨.func (.func 178) #[] #[],rfl,AG h1,.func (.func 178) #[] #[],rfl,AG h1,l,AG h2,_,AG h3,z,j,g,_,_,_,_,_,_,_,h,_,_,_,rfl,Tryz.call178,(c178 (x:=x)).callv (first:=[]) (caps:=[]) ⟨_,rfl,GN h,z,j,g,AG h3,AG h2,AG h1,_,_,_,rfl,Tryz.call178,(c178 (x:=y)).callv (first:=[]) (caps:=[]) ⟨_,rfl,rfl,rfl⟩⟩⟩
theorem c177{V:Mem}{l:Sl}{xs:List Ms}{i:Nat}{y:Ms}(u:Ad V l 7 (xs.map Ms.row))(z:xs[i]?=some y):PP 177 [l.v,.int .i64 i,.func (.func 178) #[] #[]] V (.bool ((xs.take i).any λg=>decide (g.name=y.name))):=by
 refine Bv.mk (x177 (a:=l) (c:=.func (.func 178) #[] #[]) ?_);have n:=u.n_eq;have r:=u.cap;have j:=(yw.1 z).1;refine⟨⟨by omega,by omega,by omega⟩,λb1 w b2 f b3 h=>?_⟩;have s:=(Mem.sub_new w _).trans ((Mem.sub_new f _).trans (Mem.sub_new h (cell (.int .i64 i) 3)));simp only[Hr,sub0];refine(c223 (l:=⟨l.p,i,l.c⟩) (first:=[]) (caps:=[pv b1,pv b2,pv b3]) (Ad.pre (u.sub s) (by omega)) Tryz.call224 (λg=>decide (g.name=y.name)) (λx _=>c224 ((Mem.sub_new h _) _ _ ((Mem.sub_new f _) _ _ Az)) ((Mem.sub_new h _) _ _ Az) Az (u.sub s) z)).call ⟨_,rfl,rfl,s⟩
theorem c181{V:Mem}{x:Iv}:PP 181 [x.v] V (.string x.name):=by
 refine x181 ?_;exact⟨rfl,rfl⟩
theorem c226{V:Mem}{b1 b2 b3 r q t3 i:Nat}{l:Sl}{xs:List Iv}{x y:Iv}(h1:V b1=some (cell (.func (.func 181) #[] #[]) r))(h2:V b2=some (cell (.slice l.p l.n l.c) q))(h3:V b3=some (cell (.int .i64 i) t3))
  (f:Ad V l 6 (xs.map Iv.row)) (u:xs[i]?=some y):PP 226 [x.v,pv b1,pv b2,pv b3] V (.bool (decide (x.name=y.name))):=by
 refine x226 ?_;have a:=f.n_eq;have o:=(yw.1 u).1;have g:(i:Int)<(l.n:Int):=by omega
 obtain⟨e,hm,w,b,s,z,j,h⟩:=f.get g;rw[u]at w;cases w;exact⟨.func (.func 181) #[] #[],rfl,AG h1,.func (.func 181) #[] #[],rfl,AG h1,l,AG h2,_,AG h3,z,j,g,_,_,_,_,_,_,h,_,_,_,rfl,Tryz.call181,(c181 (x:=x)).callv (first:=[]) (caps:=[]) ⟨_,rfl,GN h,z,j,g,AG h3,AG h2,AG h1,_,_,_,rfl,Tryz.call181,(c181 (x:=y)).callv (first:=[]) (caps:=[]) ⟨_,rfl,rfl,rfl⟩⟩⟩
theorem c180{V:Mem}{l:Sl}{xs:List Iv}{i:Nat}{y:Iv}(u:Ad V l 6 (xs.map Iv.row))(z:xs[i]?=some y):PP 180 [l.v,.int .i64 i,.func (.func 181) #[] #[]] V (.bool ((xs.take i).any λg=>decide (g.name=y.name))):=by
 refine Bv.mk (x180 (a:=l) (c:=.func (.func 181) #[] #[]) ?_);have n:=u.n_eq;have r:=u.cap;have j:=(yw.1 z).1;refine⟨⟨by omega,by omega,by omega⟩,λb1 w b2 f b3 h=>?_⟩;have s:=(Mem.sub_new w _).trans ((Mem.sub_new f _).trans (Mem.sub_new h (cell (.int .i64 i) 3)));simp only[Hr,sub0];refine(c225 (l:=⟨l.p,i,l.c⟩) (first:=[]) (caps:=[pv b1,pv b2,pv b3]) (Ad.pre (u.sub s) (by omega)) Tryz.call226 (λg=>decide (g.name=y.name)) (λx _=>c226 ((Mem.sub_new h _) _ _ ((Mem.sub_new f _) _ _ Az)) ((Mem.sub_new h _) _ _ Az) Az (u.sub s) z)).call ⟨_,rfl,rfl,s⟩
theorem c183{V:Mem}{x:Bd}:PP 183 [x.v] V (.string x.proc):=by
 refine x183 ?_;exact⟨rfl,rfl⟩
theorem c227{V:Mem}{b1 b2 b3 r q t3 i:Nat}{l:Sl}{xs:List Bd}{x y:Bd}(h1:V b1=some (cell (.func (.func 183) #[] #[]) r))(h2:V b2=some (cell (.slice l.p l.n l.c) q))(h3:V b3=some (cell (.int .i64 i) t3))
  (f:Ad V l 5 (xs.map Bd.row)) (u:xs[i]?=some y):PP 227 [x.v,pv b1,pv b2,pv b3] V (.bool (decide (x.proc=y.proc))):=by
 refine x227 ?_;have a:=f.n_eq;have o:=(yw.1 u).1;have g:(i:Int)<(l.n:Int):=by omega
 obtain⟨e,hm,w,b,s,z,j,h⟩:=f.get g;rw[u]at w;cases w;exact⟨.func (.func 183) #[] #[],rfl,AG h1,.func (.func 183) #[] #[],rfl,AG h1,l,AG h2,_,AG h3,z,j,g,_,_,_,_,_,h,_,_,_,rfl,Tryz.call183,(c183 (x:=x)).callv (first:=[]) (caps:=[]) ⟨_,rfl,GN h,z,j,g,AG h3,AG h2,AG h1,_,_,_,rfl,Tryz.call183,(c183 (x:=y)).callv (first:=[]) (caps:=[]) ⟨_,rfl,rfl,rfl⟩⟩⟩
theorem c182{V:Mem}{l:Sl}{xs:List Bd}{i:Nat}{y:Bd}(u:Ad V l 5 (xs.map Bd.row))(z:xs[i]?=some y):PP 182 [l.v,.int .i64 i,.func (.func 183) #[] #[]] V (.bool ((xs.take i).any λg=>decide (g.proc=y.proc))):=by
 refine Bv.mk (x182 (a:=l) (c:=.func (.func 183) #[] #[]) ?_);have n:=u.n_eq;have r:=u.cap;have j:=(yw.1 z).1;refine⟨⟨by omega,by omega,by omega⟩,λb1 w b2 f b3 h=>?_⟩;have s:=(Mem.sub_new w _).trans ((Mem.sub_new f _).trans (Mem.sub_new h (cell (.int .i64 i) 3)));simp only[Hr,sub0];refine(c162 (l:=⟨l.p,i,l.c⟩) (first:=[]) (caps:=[pv b1,pv b2,pv b3]) (Ad.pre (u.sub s) (by omega)) Tryz.call227 (λg=>decide (g.proc=y.proc)) (λx _=>c227 ((Mem.sub_new h _) _ _ ((Mem.sub_new f _) _ _ Az)) ((Mem.sub_new h _) _ _ Az) Az (u.sub s) z)).call ⟨_,rfl,rfl,s⟩
end Go.Proofs
namespace Go.Proofs
open Go Go.Sx
theorem wrap_id{n:Nat}(h:n<=2147483648):IntKind.wrap .i64 (n:Int)=n:=Hi ⟨by show(-9223372036854775808:Int)<=n;omega,by show(n:Int)<=9223372036854775807;omega⟩
theorem QJ{P:Program}(w:World)(t u ty e:TypeId)(i:TypeInfo)(z:Value)(q:P.underlying t=some (.slice e))(hu:P.underlying u=some (.int .i64))(hi:P.info? e=some i)(o:i.zero=some z)
  (n:Nat) (b:0<n) (r:n<=2147483648) (a:i.bytes<=65536) (H:0<i.size):
  (y7 #[t,u] ty #[.slice none 0 0,.int .i64 n]).run P w=
   .ok (.slice (some ⟨w.heap.size,0,none⟩) n (grownCap w n 0 e)) (w.drew.alloc (.cells (y9 z.cells n++y9 z.cells (grownCap w n 0 e-n)) e)):=by
 have y:n≠0:=by omega
 have h:¬(9223372036854775807<(n:Int)):=by omega
 have s:n*i.bytes<=281474976710656:=Nat.le_trans (Nat.mul_le_mul r a) (by decide);have g:¬(281474976710656<Builtin.nextslicecap n 0*i.bytes):=by rw[nextslicecap_zero b];omega
 have f:¬(281474976710656<(n:Int)*(i.bytes:Int)):=by omega
 have j:¬((n:Int)<0):=by omega
 have l:i.size≠0:=by omega
 simp[y7,run_underlying q,run_underlying hu,sizeOf,typeInfo,zeroValue,hi,o,y,h,g,f,j,l,wrap_id r,asInt,asIntOf,Question.forced,run_firstCells_none,newRow,grownCap];simp_all[absurd,Nat.ne_of_gt,Nat.mul_pos]
theorem GenK.appendZ{P:Program}{V0 V:Mem}{t u e ty:TypeId}{i:TypeInfo}{z:Value}{sz:Nat}(H:P.underlying t=some (.slice e))(hu:P.underlying u=some (.int .i64))(hi:P.info? e=some i)(J:i.zero=some z)(f:i.size=sz)(j:z.cells.size=sz)(l:0<sz)(r:i.bytes<=65536)
  {x y:Operand} {vals:Operand->Value} {n:Nat} (G:vals x=.slice none 0 0) (N:vals y=.int .i64 n) (Z:0<n) (Y:n<=2147483648) (s:V0.sub V) {q:Value->Mem->Prop}
  (W:∀b c V',Own V0 V' e sz ⟨some ⟨b,0,none⟩,0,c⟩ []->n<=c->c<=9223372036854775807->q (.slice (sa b) n c) V'):
  GenK P (.call {callee:=.builtin .append,args:=#[x,y],argTypes:=#[t,u]}) ty vals V q:=by
 intro w hw;subst f;have Q:=QJ (P:=P) w t u ty e i z H hu hi J n Z Y r l;obtain⟨g,O⟩:=Ax.new hw (.cells (y9 z.cells n++y9 z.cells (grownCap w n 0 e-n)) e);have o:=grownCap_ge w n 0 e;have a:=grownCap_le_maxLen w n 0 e (by simp only[maxLen];omega);refine⟨_,_,_,?_,O,W w.heap.size (grownCap w n 0 e) _ ⟨Mem.sub.new s g _,by simp,.inr ⟨w.heap.size,_,rfl,?_,Mem.set_same _ _ _,Nat.zero_le _,a,?_,by simp⟩⟩ o (by grind[maxLen])⟩
 ·unfold execOp;simp only[resolve,invoke,builtin,Sem.run_bind,Sem.run_pure,Result.andThen_ok,List.map_toArray,List.map_cons,List.map_nil,G,N,Q]
 ·cases h:V0 w.heap.size with
  |none=>rfl
  |some x=>rw[s _ _ h]at g;cases g
 ·simp only[Array.size_append,size_zeroCells,j,<-Nat.add_mul];simp_all
section
variable{V:Mem}
theorem growF{V0:Mem}(g:V0.sub V){n:Nat}(w:n<=1000000):Tri xE 222 #[.slice none 0 0,.int .i64 n] V λr V'=>∃s:Sl,r=.returned (.slice s.p s.n s.c)/\Own V0 V' 112 2 s []:=by
 refine x222 (a:=⟨none,0,0⟩) ?_;refine⟨λh=>absurd h (by omega),λ_=>⟨⟨by simp,by simp⟩,⟨by simp<;>omega,by simp<;>omega⟩,λh=>⟨⟨by simp,by simp,by simp⟩,?_⟩,λh=>⟨⟨none,0,0⟩,rfl,Own.nil g _ _⟩⟩⟩;have hi:xE.info? 112=some (ti 112):=by kernel_rfl
 have f:(ti 112).zero=some ((ti 112).zero.getD undef):=by kernel_rfl
 have h1:(ti 112).size=2:=by kernel_rfl
 have h2:((ti 112).zero.getD undef).cells.size=2:=by kernel_rfl
 have h3:(ti 112).bytes<=65536:=by rw[show(ti 112).bytes=32 by kernel_rfl];omega
 refine GenK.appendZ (n:=n) Tryz.underlying28 Tryz.underlying3 hi f h1 h2 (by decide) h3 rfl ?_ (by simp at h;omega) (by omega) g λb c V' z y u=>⟨⟨some ⟨b,0,none⟩,n,c⟩,rfl,⟨by simp,by simp,by simp⟩,?_⟩;·rfl
 ·simp only[Hr];grind
theorem concatF{l:Sl}{ls:List (Sl×List Fld)}(h:Ad V l 1 (ls.map λx=>[x.1.v]))(z:∀x∈ls,Ad V x.1 2 (x.2.map Fld.row))(G:ls.length<=100)(y:∀x∈ls,x.2.length<=1000):
  Tri xE 176 #[.slice l.p l.n l.c] V λr V'=>∃s:Sl,r=.returned (.slice s.p s.n s.c)/\V.sub V'/\Ad V' s 2 ((ls.flatMap (·.2)).map Fld.row):=by
 refine x176 ?_;have P:=h.n_eq;refine FA (mk:=.int .i64) CY ls.length (λi n V1=>V=V1/\0<=n/\n<=1000*i) ⟨rfl,by omega,by omega⟩ ?_;rintro i n V1 J hi ⟨rfl,N,Z⟩ o;refine⟨λg=>?_,λj=>?_⟩
 ·obtain⟨x,hm,Y,b,a,e,H,f⟩:=h.get g;have O:=(z x hm).n_eq;have W:=y x hm;exact⟨e,H,g,x.1,f,⟨by omega,by omega⟩,λq=>absurd q (by omega),λ_=>⟨h.succ g,o a _ _ ⟨rfl,by omega,by omega⟩⟩⟩
 ·obtain⟨k,rfl⟩:=Int.eq_ofNat_of_zero_le N;refine Tri.mono (growF (Mem.sub.refl V) (n:=k) (by omega)) ?_;rintro _ V1 ⟨s,rfl,w⟩;refine⟨s,rfl,?_⟩;refine FA (mk:=λs:Sl=>.slice s.p s.n s.c) (b0:=s) Bw ls.length (λi s V2=>Own V V2 112 2 s (((ls.take i).flatMap (·.2)).flatMap Fld.row)/\((ls.take i).flatMap (·.2)).length<=1000*i) ⟨w,by simp⟩ ?_;rintro i s V2 J hi ⟨w,Z⟩ o;have h2:=h.sub w.sub;refine⟨λg=>?_,λj=>?_⟩
  ·obtain⟨x,hm,Y,b,a,e,H,f⟩:=h2.get g;have W:=y x hm;refine⟨e,H,g,x.1,f,?_⟩;refine ET (s:=s) (u:=x.1) (xs:=(ls.take i).flatMap (·.2)) (ys:=x.2) rfl rfl w ((z x hm).sub w.sub) (by omega) λs' V' Q=>⟨s',rfl,h2.succ g,o a _ _ ?_⟩;grind
  ·have:=(h2.done j).2;rw[List.take_of_length_le this]at w;exact⟨s,rfl,w.sub,ownF w⟩
end
end Go.Proofs
