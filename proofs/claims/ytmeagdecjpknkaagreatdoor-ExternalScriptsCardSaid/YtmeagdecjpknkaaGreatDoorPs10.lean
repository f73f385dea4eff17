/- Part 10: no statement of the seat is proved here. -/
import Derived.Test.YtmeagdecjpknkaaGreatDoorPs09
set_option linter.unusedVariables false
set_option linter.unusedSimpArgs false
open Go.Proofs.Tryz renaming prog->xE,underlying269->xx,underlying9->xw
open Bool renaming and_eq_true->zC
open Go.Ending renaming returned->xH
open List renaming getElem?_eq_some_iff->yv,any_eq_true->xX,mem_take_iff_getElem->xY,all_eq_true->za,mem_of_find?_eq_some->xy,any_eq_not_all_not->xU
open Nat renaming not_lt_zero->xW
open Option renaming none_or->xZ,getD_some->xz
open Go.Addr renaming add->zE
open Go.Value renaming map->zz
open ByteArray renaming empty->zA
namespace Go.Proofs
open Go Go.Sx
attribute [local irreducible] Go.Sx.Tri
theorem ownF{V0 V:Mem}{s:Sl}{l:List Fld}(h:Own V0 V 101 2 s (l.flatMap Fld.row)):qAc V s 2 (l.map Fld.row):=h.rows (λ_=>rfl) (by decide)
theorem one_fld{V:Mem}{b:Nat}{f:Fld}{t:Nat}(h:V b=some (.cells #[.string f.name,.string f.ty] t (0,0))):qAc V ⟨some ⟨b,0,none⟩,1,1⟩ 2 ([f].map Fld.row):=
 qAc.cells (xs:=[f]) (row:=Fld.row) h rfl (λ_=>rfl) rfl (by simp)
section
variable{V:Mem}{d:Ds}
def Small(d:Ds):Prop:=d.globals.length<=1000/\∀p∈d.procs,p.params.length<=1000/\p.locals.length<=1000
theorem refInProc(l:Ds.Ok V d){p:Pr}(h:Pr.Ok V p)(h1:d.globals.length<=1000)(h2:p.params.length<=1000/\p.locals.length<=1000):
  Tri xE 182 #[d.v,p.v] V λr V'=>∃s':Sl,r=.returned (scV s' (qAg d p))/\V.sub V'/\qAc V' s' 2 ((qAg d p).vars.map Fld.row):=by
 refine x182 ?_;intro b n;have g:=Zn n (.cells #[] 101 (0,0));refine qHg (s:=⟨some ⟨b,0,none⟩,0,0⟩) (u:=p.ps) (xs:=[]) (ys:=p.params) rfl rfl (Own.empty g _ _ _) (h.params.sub g) (by grind) λf V1 w=>⟨f,rfl,?_⟩;refine qHg (s:=f) (u:=p.ls) (xs:=p.params) (ys:=p.locals) rfl rfl w (h.locals.sub w.sub) (by omega) λz V2 y=>⟨z,rfl,?_⟩;refine qHg (s:=z) (u:=d.gs) (xs:=p.params++p.locals) (ys:=d.globals) rfl rfl y (l.globals.sub y.sub) (by grind) λj q i=>⟨j,rfl,?_⟩;exact⟨j,rfl,i.sub,ownF i⟩
theorem refInBound(y:Ds.Ok V d){p:Pr}(j:Pr.Ok V p)(h1:d.globals.length<=1000)(h2:p.params.length<=1000/\p.locals.length<=1000):
  Tri xE 157 #[d.v,p.v] V λr V'=>∃s':Sl,r=.returned (scV s' (qBD d p))/\V.sub V'/\qAc V' s' 2 ((qBD d p).vars.map Fld.row):=by
 refine x157 ?_;intro b i;have h:=Zn i (.cells #[] 101 (0,0));refine qHg (s:=⟨some ⟨b,0,none⟩,0,0⟩) (u:=p.ps) (xs:=[]) (ys:=p.params) rfl rfl (Own.empty h _ _ _) (j.params.sub h) (by grind) λg V1 f=>⟨g,rfl,?_⟩;refine qHg (s:=g) (u:=d.gs) (xs:=p.params) (ys:=d.globals) rfl rfl f (y.globals.sub f.sub) (by omega) λw l z=>⟨w,rfl,?_⟩;exact⟨w,rfl,z.sub,ownF z⟩
theorem qFd(w:Ds.Ok V d){t:KB}(h1:d.globals.length<=1000):
  Tri xE 156 #[d.v,.string t] V λr V'=>∃s':Sl,r=.returned (scV s' (qAC d t))/\V.sub V'/\qAc V' s' 2 ((qAC d t).vars.map Fld.row):=by
 refine x156 ?_;refine⟨λf=>?_,λf=>?_⟩
 ·refine qHg (s:=⟨none,0,0⟩) (u:=d.gs) (xs:=[]) (ys:=d.globals) rfl rfl (Own.nil (Mem.sub.refl V) _ _) w.globals (by grind) λh V1 g=>⟨h,rfl,?_⟩;refine⟨h,rfl,g.sub,?_⟩;unfold qAC sE;rw[if_pos f];exact ownF g
 ·intro b j;have i:=Zn j (.cells #[.string (qAo [116,104,105,115]),.string t] 101 (0,0));refine qHg (s:=⟨none,0,0⟩) (u:=⟨some ⟨b,0,none⟩,1,1⟩) (xs:=[]) (ys:=[⟨sThisF,t⟩]) rfl rfl (Own.nil i _ _) (one_fld mss) (by simp) λh V1 g=>⟨h,rfl,?_⟩;refine qHg (s:=h) (u:=d.gs) (xs:=[⟨sThisF,t⟩]) (ys:=d.globals) rfl rfl g (w.globals.sub g.sub) (by grind) λz V2 y=>⟨z,rfl,?_⟩;refine⟨z,rfl,y.sub,?_⟩;unfold qAC sE;rw[if_neg f];exact ownF y
theorem qIY{op:Int}{s:KB}{es:List E}{nl w:Int}(h:qBQ op s es nl w=true):(op=6->∃g,es=[g]/\g.op=7)/\(op=1∨op=3∨op=4->es.length=1)/\(op=2->es.length=2)/\(op=5->es.length<=1)/\es.length<=2/\(∀x∈es,okE 1 x=true):=by
 unfold qBQ at h;rw[zC]at h;obtain⟨h,hv⟩:=h;have f:∀x∈es,okE 1 x=true:=λx z=>by
  grind[qAQ]
 unfold qGG at h;have u:op=6->∃g,es=[g]/\g.op=7:=λu=>by
  subst u;simp only[show ¬((6:Int)=1)by decide,show ¬((6:Int)=2)by decide,show ¬((6:Int)=3)by decide,show ¬((6:Int)=4)by decide,show ¬((6:Int)=5)by decide,if_false,if_true,decide_eq_true_eq]at h
  match es,h with
  |[g],h=>exact⟨g,rfl,h.2.2.1⟩
  |[],h=>simp at h
  |_::_::_,h=>simp at h;omega
 grind
theorem c154(hd:Ds.Ok V d){p:Pr}(hp:Pr.Ok V p)(h1:d.globals.length<=1000)(h2:p.params.length<=1000/\p.locals.length<=1000){x:S}(C:S.Ok V x)(hs:qBQ x.op x.s x.es x.ls.length x.xs.length=true):
  PP 154 [d.v,p.v,x.v] V (.int .i64 (qEZ d (qAg d p) p.result x.op x.s x.es)):=by
 obtain⟨a6,a134,a2,a5,alen,Q⟩:=qIY hs;rw[S.v_eq];refine Pur.mk (x154 ?_);refine Tri.mono (refInProc hd hp h1 h2) ?_;rintro _ V1 ⟨sv,rfl,z,o⟩;generalize P:qAg d p=sc at o;have K:sc.body=true:=by rw[<-P];rfl
 have a:=hd.sub z;have hf:=qHa (C.sub z);refine⟨sv,sc.body,rfl,λD=>?_,λD=>?_⟩
 ·obtain⟨O,e,-⟩:=a6 D;rcases hf with⟨h,-⟩|⟨e0',r,E,hn,A,T,q⟩;·simp_all
  ·rw[e]at E;cases E;have I:=Q O (by rw[e];simp);have M:=(C.sub z).eOk O (by rw[e];simp);have hk:∀y∈O.k,RefE V1 d sv sc y:=λy hy=>qLB a o y (M.kids y hy) 2 (qIF I y hy);refine⟨A,by omega,by omega,_,_,_,_,q,Tri.mono (refParts O M (arity (qGO I)).2.2.2 hk) ?_⟩;rintro _ V2 ⟨s',rfl,H,g⟩;unfold qEZ;rw[if_pos D,e];simp only;generalize hPT:partsT d sc [] O.k=pt at g;obtain⟨l,f⟩:=pt;have Z:=H.rowp q;refine⟨s',f,rfl,λh0=>⟨A,by omega,by omega,T,_,_,_,_,Z,(c184 (a.sub H) g).call ⟨_,_,rfl,?_,z.trans H⟩⟩,λh0=>?_⟩;·simp_all
   ·simp only[h0,ne_eq,not_false_eq_true,if_true];exact⟨by trivial,z.trans H⟩
 ·unfold qEZ;rw[if_neg D];have hr:=(C.sub z).eRows;refine qIb (mk:=.int .i64) (mc:=λs:Sl=>.slice s.p s.n s.c) 0 ⟨none,0,0⟩ qAH x.es.length (λi s V2=>∃acc,Own V1 V2 9 1 s (acc.flatMap qBk)/\partsT d sc [] x.es=partsT d sc acc (x.es.drop i)/\acc.length=i) ⟨[],Own.nil (Mem.sub.refl _) _ _,rfl,rfl⟩ ?_;rintro i b s V2 J hi ⟨acc,w,j,Y⟩ hJ;have G:=hr.sub w.sub;refine⟨λW=>?_,λF=>?_⟩
  ·obtain⟨y,hm,hxy,U,hl,hpp,hz,q⟩:=G.get W;rw[U,qCl]at j;refine⟨hpp,hz,W,_,_,_,_,q,(qLB a o y ((C.sub z).eOk y hm) 1 (Q y hm) V2 w.sub).call ⟨_,_,rfl,λh0=>?_,λh0=>?_⟩⟩
   ·intro b1 hb1;rw[if_neg (λh=>h h0)]at j;refine app220 (s:=s) (u:=⟨some ⟨b1,0,none⟩,1,1⟩) (xs:=acc) (ys:=[(qAq d sc y).1]) rfl rfl (w.new hb1 _) (qJn mss) (by grind) λs' V' ho=>⟨s',rfl,G.succ W,hJ hl _ _ _ ⟨_,ho,j,by simp[Y]⟩⟩
   ·rw[if_pos h0]at j;rw[j];simp only[h0,ne_eq,not_false_eq_true,if_true];exact⟨by trivial,z.trans w.sub⟩
  ·have hge':=(G.done F).2;rw[(G.done F).1,qDj]at j;rw[j];simp only[ne_eq,not_true_eq_false,if_false];have g:=ownS w;have hal:acc.length=x.es.length:=by omega
   have hsub:=z.trans w.sub;have N:=a.sub w.sub;have L:=o.sub w.sub;have sln:=g.n_eq;have R:=λh:0<acc.length=>qEN g h;have at1:=λh:1<acc.length=>qEN g h;have key:∀X n:Int,X=n->(xH (.int .i64 n)=xH (.int .i64 X)/\V.sub V2):=λX n h=>by simp_all
   refine⟨λo1=>(c186 L).call ⟨_,rfl,λhl=>key _ _ ?_,λhl=>?_⟩,λo1=>⟨λo2=>?_,λo2=>⟨λo3=>?_,λo3=>⟨λo4=>?_,λo4=>⟨λo5=>?_,λo5=>key _ _ ?_⟩⟩⟩⟩⟩;·grind[qBU,sE]
   ·obtain⟨b1,b2,b3⟩:=R (by omega);refine⟨b1,by omega,b2,_,b3,(c187 N).call ⟨_,rfl,λB=>key _ _ ?_,λB=>key _ _ ?_⟩⟩;·grind[qBU,sE]
    grind[qBU,sE]
   ·obtain⟨b1,b2,b3⟩:=R (by omega);obtain⟨c1,c2,c3⟩:=at1 (by omega);rw[if_neg o1,if_pos o2];refine⟨b1,by omega,b2,_,b3,(c188 N).call ⟨_,_,rfl,λB=>⟨c1,by omega,c2,_,c3,(c187 N).call ⟨_,rfl,λhc=>key _ _ ?_,λhc=>key _ _ ?_⟩⟩,λB=>key _ _ ?_⟩⟩;·simp_all
    ·simp_all
    omega
   ·grind[qAz]
   ·grind[qAz]
   ·have h5:=a5 o5;rw[if_neg o1,if_neg o2,if_neg (by omega),if_pos o5];have rest:¬(acc.length=0)->((s.n:Int)=1)/\¬(s.p=none)/\(0:Int)<(s.n:Int)/\V2.rowp s.p 0 1=some [.string (acc.getD 0 sE)]:=λh=>by
     grind
    refine⟨λhn=>?_,λhn=>?_⟩;·grind[sE,absurd]
    ·have h0:¬acc.length=0:=by omega
     obtain⟨r1,r2,r3,r4⟩:=rest h0;rw[if_neg h0];refine⟨λ_=>⟨λE=>key _ _ (by grind[sE]),λE=>⟨r2,by omega,r3,_,r4,(c187 N).call ⟨_,rfl,λB=>key _ _ ?_,λB=>key _ _ ?_⟩⟩⟩,λh=>absurd r1 h⟩;·grind[sE]
     simp_all
   omega
end
theorem okS_shape{d:Int}{x:S}(h:okS d x=true):qBQ x.op x.s x.es x.ls.length x.xs.length=true/\qHo (d+1) x.ls=true/\qHo (d+1) x.xs=true:=by
 cases x;unfold okS at h;rw[zC,zC,zC]at h;exact⟨h.1.1.2,h.1.2,h.2⟩
theorem qLG{d:Int}:∀{l:List S},qHo d l=true->∀x∈l,okS d x=true
 |[],_,x,g=>absurd g List.not_mem_nil
 |y::l,h,x,g=>by
  unfold qHo at h;rw[zC]at h;rcases List.mem_cons.1 g with rfl|g;·exact h.1
  ·exact qLG h.2 x g
theorem szS_eq(x:S):szS x=1+qGC x.ls+qGC x.xs:=by cases x;unfold szS;rfl
theorem qIU(x:S)(l:List S):qGC (x::l)=szS x+qGC l:=by rw[qGC]
mutual
theorem stT_n(d:Ds)(sc:Sc)(result:KB)(n:Int):∀x:S,(stT d sc result n x).2=0->(stT d sc result n x).1=n+szS x
 |.mk op s _ es _ ls _ xs=>by
  have h1:=qIV d sc result (n+1) ls;have h2:=qIV d sc result (qBO d sc result (n+1) ls).1 xs;grind[stT,szS,absurd]
theorem qIV(d:Ds)(sc:Sc)(result:KB)(n:Int):∀l:List S,(qBO d sc result n l).2=0->(qBO d sc result n l).1=n+qGC l
 |[]=>by simp[qBO,qGC]
 |x::xs=>by
  have h1:=stT_n d sc result n x;have h2:=qIV d sc result (stT d sc result n x).1 xs;rw[qGD,qIU];grind
end
theorem qAj{α β:Type}{f:Nat->α->Option β}{i:Nat}{x:α}{xs:List α}{b:β}(h:f i x=some b):qAk f i (x::xs)=some b:=by unfold qAk;rw[h]
theorem qAn{α β:Type}{f:Nat->α->Option β}{i:Nat}{x:α}{xs:List α}(h:f i x=none):qAk f i (x::xs)=qAk f (i+1) xs:=by rw[qAk,h]
section
variable{V:Mem}{d:Ds}
def RefS(V:Mem)(d:Ds)(p:Pr)(l:List S):Prop:=∀(sl:Sl)(n h:Int),qAc V sl 5 (l.map S.row)->(∀x∈l,S.Ok V x)->qHo h l=true->0<=n->n+qGC l<=1000->
 PP 111 [d.v,p.v,sl.v,.int .i64 n] V (.tuple #[.int .i64 (qBO d (qAg d p) p.result n l).1,.int .i64 (qBO d (qAg d p) p.result n l).2])
theorem refStep(M:Ds.Ok V d){p:Pr}(F:Pr.Ok V p)(h1:d.globals.length<=1000)(h2:p.params.length<=1000/\p.locals.length<=1000){l:List S}(P:∀x∈l,RefS V d p x.ls/\RefS V d p x.xs):RefS V d p l:=by
 intro sl n O q o j e H;refine x111 ?_;generalize z:qAg d p=sc;refine loop4s (mk:=.int .i64) (mc:=.int .i64) (md:=.int .i64) 0 0 n qCZ l.length (λi at_ V1=>V=V1/\0<=at_/\at_+qGC (l.drop i)<=1000/\qBO d sc p.result n l=qBO d sc p.result at_ (l.drop i)) ⟨rfl,e,H,rfl⟩ ?_;rintro i b c a V1 J E ⟨rfl,L,G,y⟩ R;refine⟨λf=>?_,λN=>?_⟩
 ·obtain⟨x,hm,K,r,X,u,Z,g⟩:=q.get f;have g:=S.row_get g;have w:=o x hm;obtain⟨Y,W,Q⟩:=okS_shape (qLG j x hm);rw[r,qIU,szS_eq]at G;rw[r,qGD,stT_eq]at y;have cs:=c154 M F h1 h2 w Y;rw[z,S.v_eq]at cs;refine⟨u,Z,f,_,_,_,_,_,g,cs.call ⟨_,rfl,λh0=>?_,λh0=>?_⟩⟩
  ·have B:¬(qEZ d sc p.result x.op x.s x.es≠0):=λh=>h h0;rw[if_neg B]at y;have A:=(P x hm).1 x.ll (a+1) (O+1) w.lRows w.lOk W (by omega) (by omega);rw[z]at A;refine⟨u,Z,f,qAf u,_,_,_,_,_,g,⟨by omega,by omega⟩,A.call ⟨_,_,rfl,λh3=>?_,λh3=>?_⟩⟩
   ·have C:¬((qBO d sc p.result (a+1) x.ls).2≠0):=λh=>h h3;rw[if_neg C]at y;have T:=qIV d sc p.result (a+1) x.ls h3;have I:=(P x hm).2 x.xl (qBO d sc p.result (a+1) x.ls).1 (O+1) w.xRows w.xOk Q (by omega) (by omega);rw[z]at I;refine⟨u,Z,f,qAf u,_,_,_,_,_,g,I.call ⟨_,_,rfl,λh4=>?_,λh4=>?_⟩⟩
    ·rw[if_neg (λh=>h h4)]at y;have D:=qIV d sc p.result _ x.xs h4;exact⟨q.succ f,R X _ _ _ _ ⟨rfl,by omega,by omega,y⟩⟩
    simp_all
   simp_all
  simp_all
 ·rw[(q.done N).1,stsT_nil]at y;simp_all
theorem refStmts(g:Ds.Ok V d){p:Pr}(f:Pr.Ok V p)(h1:d.globals.length<=1000)(h2:p.params.length<=1000/\p.locals.length<=1000)(l:List S):RefS V d p l:=by
 have u:∀s:S,RefS V d p s.ls/\RefS V d p s.xs:=by
  intro s;induction s using S.ind with
  |h s w z=>grind[refStep]
 grind[refStep]
theorem c150(N:Ds.Ok V d){l:Sl}{xs:List Fld}(o:qAc V l 2 (xs.map Fld.row)){i:Nat}{f:Fld}(s:xs[i]?=some f):PP 150 [d.v,l.v,.int .i64 i] V (.int .i64 (qES d xs i f)):=by
 refine x150 ?_;have F:=o.n_eq;have Z:=(yv.1 s).1;have z:(i:Int)<(l.n:Int):=by omega
 obtain⟨L,hm,H,Y,-,u,G,w⟩:=o.get z;rw[s]at H;cases H;refine qAM i (λk V1=>V=V1/\∀j g,j<k->xs[j]?=some g->¬(g.name=f.name)) ⟨rfl,λ_ _ h=>absurd h (xW _)⟩ ?_;rintro k b V1 J R ⟨rfl,X⟩ W;refine⟨λQ=>?_,λQ=>?_⟩
 ·obtain⟨g,P,O,A,I,q,a,r⟩:=o.get (i:=k) (by omega);refine⟨q,a,by omega,qAf q,_,_,r,u,G,z,qAf u,_,_,w,λe=>?_,λe=>⟨o.succ (by omega),W (by omega) _ _ ⟨rfl,λj y B C=>?_⟩⟩⟩
  ·have:(xs.take i).any (λg=>decide (g.name=f.name))=true:=xX.2 ⟨g,by
    grind[xY,yv],decide_eq_true e⟩
   unfold qES;rw[if_pos this];exact⟨rfl,rfl⟩
  grind
 ·have:¬(xs.take i).any (λg=>decide (g.name=f.name))=true:=λh=>by
   obtain⟨g,M,e⟩:=xX.1 h;rw[xY]at M;grind
  unfold qES;rw[if_neg this];refine⟨u,G,z,qAf u,_,_,w,(c151 N).call ⟨_,rfl,λh=>?_,λh=>?_⟩⟩;·simp_all
  simp_all
theorem c149(q:Ds.Ok V d){l:Sl}{xs:List Fld}(w:qAc V l 2 (xs.map Fld.row)):PP 149 [d.v,l.v] V (.int .i64 (qCD d xs)):=by
 refine x149 ?_;unfold qCD;generalize H:(λi f=>if qES d xs i f≠0 then some (qES d xs i f)else none)=fn;refine qAM xs.length (λk V1=>V=V1/\qAk fn 0 xs=qAk fn k (xs.drop k)) ⟨rfl,rfl⟩ ?_;rintro k b V1 J G ⟨rfl,u⟩ o;refine⟨λz=>?_,λz=>?_⟩
 ·obtain⟨g,a,y,j,n,e,s,r⟩:=w.get z;rw[j]at u;refine(c150 q w y).call ⟨_,rfl,λh=>?_,λh=>?_⟩
  ·rw[qAn (by grind)]at u;exact⟨w.succ z,o n _ _ ⟨rfl,u⟩⟩
  ·rw[qAj (b:=qES d xs k g) (by grind)]at u;simp_all
 ·rw[(w.done z).1,qAk]at u;simp_all
theorem c155(u:Ds.Ok V d){sl:Sl}{sc:Sc}(g:qAc V sl 2 (sc.vars.map Fld.row)){e:E}(w:E.Ok V e)(f:okE 1 e=true){t:KB}:PP 155 [d.v,scV sl sc,e.v,.string t] V (.int .i64 (qBv d sc e t)):=by
 refine x155 ?_;unfold qBv;refine(qLB u g e w 1 f V (Mem.sub.refl _)).call ⟨_,_,rfl,λh=>⟨λh1=>?_,λh1=>?_⟩,λh=>?_⟩;·simp_all
 ·simp_all
 simp_all
def qBt(s:KB):Bool:=decide (s=qAT)||decide (s=qAz)
end
theorem idx_lt{α:Type}{p:α->Bool}{xs:List α}{i:Nat}{x:α}(h:xs[i]?=some x)(g:p x=true):(qHG p xs<(i:Int)↔(xs.take i).any p=true)/\0<=qHG p xs:=by
 rcases qAL p xs with⟨h1,h2,h3⟩|⟨j,y,h1,h2,h3,h4,f,u,w,z⟩;·grind
 grind[xX,xY,yv,Nat.lt_or_ge,List.any_eq_false]
section
variable{V:Mem}{d:Ds}
def f2(o:Option Flt):Value:=.tuple #[.string (fltR o).1,.int .i64 (fltR o).2.2]
theorem c108(y:Ds.Ok V d):PP 108 [d.v] V (f2 (qFT d)):=by
 refine x108 ?_;unfold qFT;have key:∀{X:Option Flt}(s:KB)(n:Int),X=some (s,-1,n)->(xH (.tuple #[.string s,.int .i64 n])=xH (f2 X)/\V=V):=λs n h=>by rw[h];exact⟨rfl,rfl⟩
 unfold types1;generalize H:(λi (t:Ty)=>if(d.types.take i).any (λg=>decide (g.name=t.name))=true then some ((t.name,-1,10):Flt)else none)=F1;refine qEz d.types.length (λk V1=>V=V1/\qAk F1 0 d.types=qAk F1 k (d.types.drop k)) ⟨rfl,rfl⟩ ?_;rintro k b c V1 J e ⟨rfl,z⟩ q;refine⟨λw=>?_,λw=>?_⟩
 ·obtain⟨g,hm,a,l,o,j,r,u⟩:=y.types.get w;have G:=(idx_lt (p:=λt:Ty=>decide (t.name=g.name)) a (by simp)).1;rw[l]at z;refine⟨j,r,w,qAf j,_,_,u,(c85 y).call ⟨_,rfl,λh=>⟨j,r,w,qAf j,_,_,u,key _ _ ?_⟩,λh=>⟨y.types.succ w,q o _ _ _ ⟨rfl,?_⟩⟩⟩⟩;·rw[z,qAj (b:=(g.name,-1,10)) (by grind)];rfl
  ·rw[z,qAn (by grind)]
 rw[(y.types.done w).1,qAk]at z;rw[z,xZ];unfold types2;generalize N:(λ(_:Nat) (t:Ty)=>if qCD d t.fields≠0 then some ((t.name,-1,qCD d t.fields):Flt)else none)=F2;refine qEz d.types.length (λk V1=>V=V1/\qAk F2 0 d.types=qAk F2 k (d.types.drop k)) ⟨rfl,rfl⟩ ?_;rintro k b c V1 J e ⟨rfl,z⟩ q;refine⟨λw=>?_,λw=>?_⟩
 ·obtain⟨g,hm,a,l,o,j,r,u⟩:=y.types.get w;rw[l]at z;refine⟨j,r,w,qAf j,_,_,u,(c149 y (y.typesOk g hm).fields).call ⟨_,rfl,λh=>⟨y.types.succ w,q o _ _ _ ⟨rfl,?_⟩⟩,λh=>⟨j,r,w,qAf j,_,_,u,key _ _ ?_⟩⟩⟩;·rw[z,qAn (by grind)]
  ·rw[z,qAj (b:=(g.name,-1,qCD d g.fields)) (by grind)];rfl
 rw[(y.types.done w).1,qAk]at z;rw[z,xZ];unfold types3;generalize Z:(λi (f:Fld)=>if qES d d.globals i f≠0 then some ((f.name,-1,qES d d.globals i f):Flt)else none)=F3;refine qEz d.globals.length (λk V1=>V=V1/\qAk F3 0 d.globals=qAk F3 k (d.globals.drop k)) ⟨rfl,rfl⟩ ?_;rintro k b c V1 J e ⟨rfl,z⟩ q;refine⟨λw=>?_,λw=>?_⟩
 ·obtain⟨g,hm,a,l,o,j,r,u⟩:=y.globals.get w;rw[l]at z;refine(c150 y y.globals a).call ⟨_,rfl,λh=>⟨y.globals.succ w,q o _ _ _ ⟨rfl,?_⟩⟩,λh=>⟨j,r,w,qAf j,_,_,u,key _ _ ?_⟩⟩;·rw[z,qAn (by grind)]
  ·rw[z,qAj (b:=(g.name,-1,qES d d.globals k g)) (by grind)]
 rw[(y.globals.done w).1,qAk]at z;rw[z];exact⟨rfl,rfl⟩
theorem c109(M:Ds.Ok V d)(a:Small d):PP 109 [d.v] V (f2 (qEQ d)):=by
 refine Pur.mk (x109 ?_);unfold qEQ;generalize j:(λi (p:Pr)=>if(d.procs.take i).any (λg=>decide (g.name=p.name))=true then some ((p.name,-1,10):Flt)else if qCD d (p.params++p.locals)≠0 then some (p.name,-1,qCD d (p.params++p.locals))else if p.result≠sE/\qBl d p.result=false then some (p.name,-1,9)else none)=F1;refine qEz d.procs.length (λk V1=>V.sub V1/\qAk F1 0 d.procs=qAk F1 k (d.procs.drop k)) ⟨Mem.sub.refl _,rfl⟩ ?_;rintro k b c V1 J C ⟨o,z⟩ Y;have f:=M.sub o;have key:∀{X:Option Flt}(V2:Mem)(s:KB)(n:Int),V.sub V2->X=some (s,-1,n)->(xH (.tuple #[.string s,.int .i64 n])=xH (f2 X)/\V.sub V2):=λV2 s n h2 h=>by rw[h];exact⟨rfl,h2⟩
 refine⟨λy=>?_,λy=>?_⟩
 ·obtain⟨g,hm,F,H,W,L,R,l⟩:=f.procs.get y;have G:=(idx_lt (p:=λt:Pr=>decide (t.name=g.name)) F (by simp)).1;have Q:=f.procsOk g hm;have D:=a.2 g hm;rw[H]at z;refine⟨L,R,y,_,_,_,_,_,l,(c136 f).call ⟨_,rfl,λh=>key _ _ _ o ?_,λh=>?_⟩⟩;·rw[z,qAj (b:=(g.name,-1,10)) (by grind)]
  intro b1 N;have r:=Zn N (.cells #[] 101 (0,0));refine qHg (s:=⟨some ⟨b1,0,none⟩,0,0⟩) (u:=g.ps) (xs:=[]) (ys:=g.params) rfl rfl (Own.empty r _ _ _) (Q.params.sub r) (by simp;omega) λP E O=>⟨P,rfl,?_⟩;refine qHg (s:=P) (u:=g.ls) (xs:=g.params) (ys:=g.locals) rfl rfl O (Q.locals.sub O.sub) (by omega) λB K Z=>⟨B,rfl,?_⟩;have q:=f.sub Z.sub;have w:=o.trans Z.sub;have A:¬(d.procs.take k).any (λt=>decide (t.name=g.name))=true:=λe=>h (G.2 e);refine(c149 q (ownF Z)).call ⟨_,rfl,λh2=>?_,λh2=>key _ _ _ w ?_⟩
  ·have I:¬(qCD d (g.params++g.locals)≠0):=λe=>e h2;refine⟨λh3=>⟨f.procs.succ y,Y W _ _ _ ⟨w,?_⟩⟩,λh3=>(c151 q).call ⟨_,rfl,λh4=>⟨f.procs.succ y,Y W _ _ _ ⟨w,?_⟩⟩,λh4=>key _ _ _ w ?_⟩⟩;·rw[z,qAn (by rw[<-j];exact(if_neg A).trans ((if_neg I).trans (if_neg λe=>e.1 h3)))]
   ·rw[z,qAn (by grind)]
   ·rw[z,qAj (b:=(g.name,-1,9)) (by rw[<-j];exact(if_neg A).trans ((if_neg I).trans (if_pos ⟨h3,eq_false_of_ne_true h4⟩)))]
  ·rw[z,qAj (b:=(g.name,-1,qCD d (g.params++g.locals))) (by grind)]
 ·rw[(f.procs.done y).1,qAk]at z;rw[z];exact⟨rfl,o⟩
end
theorem qHh{α:Type}{p:α->Bool}{xs:List α}{i k:Nat}{g:α}(f:xs[k]?=some g)(u:k<i)(h:p g=true):(xs.take i).any p=true:=
 xX.2 ⟨g,by grind[xY,yv],h⟩
theorem qHi{α:Type}{p:α->Bool}{xs:List α}{i:Nat}(h:∀j g,j<i->xs[j]?=some g->¬p g=true):¬(xs.take i).any p=true:=λu=>by
 obtain⟨g,f,w⟩:=xX.1 u;rw[xY]at f;obtain⟨j,z,e⟩:=f;exact h j g (by omega) (by grind) w
section
variable{V:Mem}{d:Ds}
theorem c110(z:Ds.Ok V d):PP 110 [d.v] V (f2 (qEV d)):=by
 refine x110 ?_;unfold qEV;have key:∀{X:Option Flt}(s:KB)(n:Int),X=some (s,-1,n)->(xH (.tuple #[.string s,.int .i64 n])=xH (f2 X)/\V=V):=λs n h=>by rw[h];exact⟨rfl,rfl⟩
 unfold form1;generalize U:(λi (m:Ms)=>if(d.measures.take i).any (λg=>decide (g.name=m.name))=true then some ((m.name,-1,10):Flt)else if qBd d m.ty=false then some (m.name,-1,9)else none)=F1;refine qEz d.measures.length (λk V1=>V=V1/\qAk F1 0 d.measures=qAk F1 k (d.measures.drop k)) ⟨rfl,rfl⟩ ?_;rintro k b c V1 J A ⟨rfl,w⟩ Z;refine⟨λu=>?_,λu=>?_⟩
 ·obtain⟨g,hm,L,o,Y,l,r,f⟩:=z.measures.get u;have hlt:=(idx_lt (p:=λt:Ms=>decide (t.name=g.name)) L (by simp)).1;rw[o]at w;have q:=qAf (n:=k*7) l;refine⟨l,r,u,q,_,_,_,_,_,_,_,f,(c152 z).call ⟨_,rfl,λh=>⟨l,r,u,q,_,_,_,_,_,_,_,f,key _ _ ?_⟩,λh=>⟨l,r,u,q,_,_,_,_,_,_,_,f,(c153 z).call ⟨_,rfl,λh2=>⟨z.measures.succ u,Z Y _ _ _ ⟨rfl,?_⟩⟩,λh2=>⟨l,r,u,q,_,_,_,_,_,_,_,f,key _ _ ?_⟩⟩⟩⟩⟩;·rw[w,qAj (b:=(g.name,-1,10)) (by grind)];rfl
  ·rw[w,qAn (by grind)]
  ·rw[w,qAj (b:=(g.name,-1,9)) (by grind)];rfl
 rw[(z.measures.done u).1,qAk]at w;rw[w,xZ];unfold form2;generalize W:(λi (m:Iv)=>if(d.invs.take i).any (λg=>decide (g.name=m.name))=true then some ((m.name,-1,10):Flt)else if m.ty≠sE/\qBd d m.ty=false then some (m.name,-1,9)else none)=F2;refine qEz d.invs.length (λk V1=>V=V1/\qAk F2 0 d.invs=qAk F2 k (d.invs.drop k)) ⟨rfl,rfl⟩ ?_;rintro k b c V1 J A ⟨rfl,w⟩ Z;refine⟨λu=>?_,λu=>?_⟩
 ·obtain⟨g,hm,L,o,Y,l,r,f⟩:=z.invs.get u;rw[o]at w;have q:=qAf (n:=k*6) l;refine qEz k (λj V1=>V=V1/\∀H G,H<j->d.invs[H]?=some G->¬decide (G.name=g.name)=true) ⟨rfl,λ_ _ h=>absurd h (xW _)⟩ ?_;rintro j b c V1 J1 A ⟨rfl,R⟩ Q;refine⟨λB=>?_,λB=>?_⟩
  ·obtain⟨G,C,P,I,D,N,O,a⟩:=z.invs.get (i:=j) (by omega);refine⟨N,O,by omega,qAf N,_,_,_,_,_,_,a,l,r,u,q,_,_,_,_,_,_,f,λM=>⟨l,r,u,q,_,_,_,_,_,_,f,key _ _ ?_⟩,λM=>⟨z.invs.succ (by omega),Q (by omega) _ _ _ ⟨rfl,λH y E hy=>?_⟩⟩⟩;·rw[w,qAj (b:=(g.name,-1,10)) (by rw[<-W];exact if_pos (qHh P (by omega) (decide_eq_true M)))];rfl
   grind
  ·have K:=qHi (i:=k) (λH G h'=>R H G (by omega));refine⟨l,r,u,q,_,_,_,_,_,_,f,λh3=>⟨z.invs.succ u,Z Y _ _ _ ⟨rfl,?_⟩⟩,λh3=>⟨l,r,u,q,_,_,_,_,_,_,f,(c153 z).call ⟨_,rfl,λh2=>⟨z.invs.succ u,Z Y _ _ _ ⟨rfl,?_⟩⟩,λh2=>⟨l,r,u,q,_,_,_,_,_,_,f,key _ _ ?_⟩⟩⟩⟩;·rw[w,qAn (by rw[<-W];exact(if_neg K).trans (if_neg λe=>e.1 h3))]
   ·rw[w,qAn (by grind)]
   ·rw[w,qAj (b:=(g.name,-1,9)) (by rw[<-W];exact(if_neg K).trans (if_pos ⟨h3,eq_false_of_ne_true h2⟩))];rfl
 rw[(z.invs.done u).1,qAk]at w;rw[w,xZ];unfold form3;generalize F:(λ(_:Nat) (m:Po)=>if m.ty≠sE/\qBd d m.ty=false then some ((sPot,-1,9):Flt)else none)=F3;refine qEz d.pots.length (λk V1=>V=V1/\qAk F3 0 d.pots=qAk F3 k (d.pots.drop k)) ⟨rfl,rfl⟩ ?_;rintro k b c V1 J A ⟨rfl,w⟩ Z;refine⟨λu=>?_,λu=>?_⟩
 ·obtain⟨g,hm,L,o,Y,l,r,f⟩:=z.pots.get u;rw[o]at w;have q:=qAf (n:=k*5) l;refine⟨l,r,u,q,_,_,_,_,_,f,λh3=>⟨z.pots.succ u,Z Y _ _ _ ⟨rfl,?_⟩⟩,λh3=>⟨l,r,u,q,_,_,_,_,_,f,(c153 z).call ⟨_,rfl,λh2=>⟨z.pots.succ u,Z Y _ _ _ ⟨rfl,?_⟩⟩,λh2=>key _ _ ?_⟩⟩⟩;·rw[w,qAn (by rw[<-F];exact if_neg λe=>e.1 h3)]
  ·rw[w,qAn (by grind)]
  ·rw[w,qAj (b:=(sPot,-1,9)) (by rw[<-F];exact if_pos ⟨h3,eq_false_of_ne_true h2⟩)];rfl
 rw[(z.pots.done u).1,qAk]at w;rw[w,xZ];unfold form4;generalize S:(λi (b:Bd)=>if(qFP d b.proc).isNone=true then some ((b.proc,-1,9):Flt)else if(d.bounds.take i).any (λg=>decide (g.proc=b.proc))=true then some (b.proc,-1,10)else none)=F4;refine qEz d.bounds.length (λk V1=>V=V1/\qAk F4 0 d.bounds=qAk F4 k (d.bounds.drop k)) ⟨rfl,rfl⟩ ?_;rintro k b c V1 J A ⟨rfl,w⟩ Z;refine⟨λu=>?_,λu=>?_⟩
 ·obtain⟨g,hm,L,o,Y,l,r,f⟩:=z.bounds.get u;rw[o]at w;have q:=qAf (n:=k*5) l;refine⟨l,r,u,q,_,_,_,_,_,f,(c136 z).call ⟨_,rfl,?_⟩⟩;rcases qAL (λt:Pr=>decide (t.name=g.proc)) d.procs with⟨T,i2,i3⟩|⟨i,x,T,i2,i3,i4,i5,i6,i7,_⟩
  ·rw[T];refine⟨λ_=>⟨l,r,u,q,_,_,_,_,_,f,key _ _ ?_⟩,λh=>absurd h (by decide)⟩;rw[w,qAj (b:=(g.proc,-1,9)) (by grind[qFP])]
  ·rw[T];have n0:¬(qFP d g.proc).isNone=true:=by grind[qFP]
   refine⟨λh=>absurd h (by omega),λ_=>?_⟩;refine qEz k (λj V1=>V=V1/\∀H G,H<j->d.bounds[H]?=some G->¬decide (G.proc=g.proc)=true) ⟨rfl,λ_ _ h=>absurd h (xW _)⟩ ?_;rintro j b c V1 J1 A ⟨rfl,R⟩ Q;refine⟨λB=>?_,λB=>?_⟩
   ·obtain⟨G,C,P,I,D,N,O,a⟩:=z.bounds.get (i:=j) (by omega);refine⟨N,O,by omega,qAf N,_,_,_,_,_,a,l,r,u,q,_,_,_,_,_,f,λM=>⟨l,r,u,q,_,_,_,_,_,f,key _ _ ?_⟩,λM=>⟨z.bounds.succ (by omega),Q (by omega) _ _ _ ⟨rfl,λH y E hy=>?_⟩⟩⟩;·rw[w,qAj (b:=(g.proc,-1,10)) (by rw[<-S];exact(if_neg n0).trans (if_pos (qHh P (by omega) (decide_eq_true M))))]
    grind
   ·have K:=qHi (i:=k) (λH G h'=>R H G (by omega));exact⟨z.bounds.succ u,Z Y _ _ _ ⟨rfl,by rw[w,qAn (by grind)]⟩⟩
 rw[(z.bounds.done u).1,qAk]at w;rw[w];exact⟨rfl,rfl⟩
end
structure qLf (d:Ds):Prop where
 small:Small d
 ms:∀m∈d.measures,okE 1 m.x=true
 is:∀m∈d.invs,okE 1 m.x=true
 qs:∀m∈d.pots,okE 1 m.x=true
 bs:∀m∈d.bounds,okE 1 m.x=true
 ps:∀p∈d.procs,qHo 1 p.body=true/\qGC p.body<=200
theorem qGA{e:E}(h:qAQ e=true):okE 1 e=true:=by
 grind[qAQ]
theorem vparts{d:Ds}(h:qAG d=true):qLf d:=by
 unfold qAG qKs at h;simp only[zC,decide_eq_true_eq,za]at h;obtain⟨⟨⟨⟨⟨⟨⟨-,-⟩,u⟩,-⟩,-⟩,-⟩,w⟩,⟨⟨hm,z⟩,y⟩,j⟩:=h;have fl:∀{l:List Fld}{n:Int},qDC l n=true->n<=100->l.length<=1000:=λh i=>by
  grind[qDC]
 refine⟨⟨fl u (by omega),λp f=>?_⟩,λm g=>?_,λm g=>?_,λm g=>?_,λm g=>?_,λp f=>?_⟩;·grind[prB]
 ·simp_all[msB,zC,qGA]
 ·simp_all[ivB,zC,qGA]
 ·simp_all[poB,zC,qGA]
 ·simp_all[bdB,zC,qGA]
 grind[prB,qEX]
theorem qDn{α β:Type}{f:Nat->α->Option β}{b:β}:∀{i:Nat}{xs:List α},qAk f i xs=some b->∃j x,x∈xs/\f j x=some b
 |_,[],h=>by cases h
 |i,x::xs,h=>by
  cases g:f i x with
  |some c=>grind[qAj]
  |none=>
   rw[qAn g]at h;obtain⟨j,y,u,e⟩:=qDn h;grind
def Bad(r:Flt):Prop:=r.2.2≠0/\r.2.1=-1
theorem qHY{P:Flt->Prop}{a b:Option Flt}(g:∀r,a=some r->P r)(f:∀r,b=some r->P r):∀r,a.or b=some r->P r:=λr h=>by
 cases a with
 |none=>simp_all
 |some x=>simp_all
theorem qIT(d:Ds):∀r,qFT d=some r->Bad r:=by
 refine qHY (λr h=>?_) (qHY (λr h=>?_) (λr h=>?_))<;>obtain⟨j,x,f,e⟩:=qDn h
 ·split at e;·cases e;exact⟨by simp,rfl⟩
  ·cases e
 ·split at e;·rename_i g;cases e;exact⟨g,rfl⟩
  ·cases e
 ·split at e;·rename_i g;cases e;exact⟨g,rfl⟩
  ·cases e
theorem qJC(d:Ds):∀r,qEQ d=some r->Bad r:=λr h=>by
 obtain⟨j,x,f,e⟩:=qDn h;split at e;·cases e;exact⟨by simp,rfl⟩
 ·split at e;·rename_i g;cases e;exact⟨g,rfl⟩
  ·split at e;·cases e;exact⟨by simp,rfl⟩
   ·cases e
theorem qLV(d:Ds):∀r,qEV d=some r->Bad r:=by
 refine qHY (λr h=>?_) (qHY (λr h=>?_) (qHY (λr h=>?_) (λr h=>?_)))<;>obtain⟨j,x,g,e⟩:=qDn h
 ·split at e;·cases e;exact⟨by simp,rfl⟩
  ·split at e;·cases e;exact⟨by simp,rfl⟩
   ·cases e
 ·split at e;·cases e;exact⟨by simp,rfl⟩
  ·split at e;·cases e;exact⟨by simp,rfl⟩
   ·cases e
 ·split at e;·cases e;exact⟨by simp,rfl⟩
  ·cases e
 ·split at e;·cases e;exact⟨by simp,rfl⟩
  ·split at e;·cases e;exact⟨by simp,rfl⟩
   ·cases e
theorem qLZ(d:Ds):∀r,qHH d=some r->Bad r:=by
 refine qHY (λr h=>?_) (qHY (λr h=>?_) (qHY (λr h=>?_) (λr h=>?_)))<;>obtain⟨j,x,f,e⟩:=qDn h<;>split at e;all_goals first|(cases e;done)|(rename_i g;cases e;exact⟨g,rfl⟩)
theorem qJX{d:Ds}(f:qEV d=none):∀g∈d.bounds,∃p,qFP d g.proc=some p:=by
 have h4:form4 d=none:=by
  grind[qEV,form4]
 have u:∀(l:List Bd)(i:Nat),qAk (λi b=>if(qFP d b.proc).isNone=true then some ((b.proc,-1,9):Flt)else if(d.bounds.take i).any (λg=>decide (g.proc=b.proc))=true then some (b.proc,-1,10)else none) i l=none->∀g∈l,∃p,qFP d g.proc=some p:=by
  intro l;induction l with
  |nil=>simp_all
  |cons y l n=>
   intro i h g w;cases z:qFP d y.proc with
   |none=>simp_all[qAj,if_pos]
   |some p=>
    rcases List.mem_cons.1 w with rfl|w;·grind
    ·by_cases j:(d.bounds.take i).any (λg=>decide (g.proc=y.proc))=true;·simp_all[qAj,if_neg,if_pos]
     ·rw[qAn ((if_neg (by rw[z];simp)).trans (if_neg j))]at h;grind
 exact u d.bounds 0 h4
theorem qFc{V:Mem}{p:Option Addr}{off n j m:Nat}{vs:List Value}(h:V.rowp p off n=some vs)(w:0<j)(z:j+m<=n):V.rowp (qAa (qAa p off) j) 0 m=some ((vs.drop j).take m):=by
 cases p with
 |none=>cases h
 |some a=>
  have e:((a.add off).add j).add 0=⟨a.block,a.off+off+j,none⟩:=by
   grind[zE]
  have g:(a.add off).off=a.off+off/\(a.add off).block=a.block:=by
   grind[zE]
  show V.row (((a.add off).add j).add 0) m=_;have h:V.row (a.add off) n=some vs:=h;rw[e];unfold Mem.row at h⊢;rw[g.2]at h;split at h
  ·rename_i c x y f;simp only[f];split at h
   ·rename_i u;rw[g.1]at u h;cases h;rw[if_pos ⟨rfl,by omega⟩,List.drop_take,List.take_take,List.drop_drop,Nat.min_eq_left (by omega)]
   ·cases h
  ·cases h
section
variable{V:Mem}{d:Ds}
theorem c112(R:Ds.Ok V d)(hv:qLf d)(W:qEV d=none):PP 112 [d.v] V (f2 (qHH d)):=by
 refine Pur.mk (x112 ?_);unfold qHH;have B:=hv.small.1;have key:∀{X:Option Flt}(V2:Mem)(s:KB)(n:Int),V.sub V2->X=some (s,-1,n)->(xH (.tuple #[.string s,.int .i64 n])=xH (f2 X)/\V.sub V2):=λV2 s n h2 h=>by rw[h];exact⟨rfl,h2⟩
 unfold exp1;generalize A:(λ(_:Nat) (m:Ms)=>if qBv d (qAC d m.ty) m.x qAT≠0 then some ((m.name,-1,qBv d (qAC d m.ty) m.x qAT):Flt)else none)=F1;refine qEz d.measures.length (λk V1=>V.sub V1/\qAk F1 0 d.measures=qAk F1 k (d.measures.drop k)) ⟨Mem.sub.refl _,rfl⟩ ?_;rintro k b c V1 J C ⟨o,r⟩ Q;have f:=R.sub o;refine⟨λl=>?_,λl=>?_⟩
 ·obtain⟨g,hm,D,G,P,q,a,u⟩:=f.measures.get l;rw[G]at r;have H:=qAf (n:=k*7) q;refine⟨q,a,l,H,_,_,_,_,_,_,_,u,q,a,l,H,_,_,_,_,_,_,_,u,Tri.mono (qFd f B) ?_⟩;rintro _ V2 ⟨s',rfl,w,N⟩;have z:=w.rowp u;refine⟨s',false,rfl,qFc (j:=3) (m:=4) z (by decide) (by decide),H,q,a,l,(c155 (sc:=qAC d g.ty) (e:=g.x) (f.sub w) N ((f.sub w).measuresOk g hm).x (hv.ms g hm)).call ⟨_,rfl,λh=>⟨f.measures.succ l,Q P _ _ _ ⟨o.trans w,?_⟩⟩,λh=>⟨q,a,l,H,_,_,_,_,_,_,_,z,key _ _ _ (o.trans w) ?_⟩⟩⟩;·rw[r,qAn (by rw[<-A];exact if_neg λe=>e h)]
  ·rw[r,qAj (b:=(g.name,-1,qBv d (qAC d g.ty) g.x qAT)) (by rw[<-A];exact if_pos h)];rfl
 rw[(f.measures.done l).1,qAk]at r;rw[r,xZ];unfold exp2;generalize I:(λ(_:Nat) (m:Iv)=>if qBv d (qAC d m.ty) m.x qAz≠0 then some ((m.name,-1,qBv d (qAC d m.ty) m.x qAz):Flt)else none)=F2;refine qEz d.invs.length (λk V1=>V.sub V1/\qAk F2 0 d.invs=qAk F2 k (d.invs.drop k)) ⟨o,rfl⟩ ?_;rintro k b c V1 J C ⟨o,r⟩ Q;have f:=R.sub o;refine⟨λl=>?_,λl=>?_⟩
 ·obtain⟨g,hm,D,G,P,q,a,u⟩:=f.invs.get l;rw[G]at r;have H:=qAf (n:=k*6) q;refine⟨q,a,l,H,_,_,_,_,_,_,u,q,a,l,H,_,_,_,_,_,_,u,Tri.mono (qFd f B) ?_⟩;rintro _ V2 ⟨s',rfl,w,N⟩;have z:=w.rowp u;refine⟨s',false,rfl,qFc (j:=2) (m:=4) z (by decide) (by decide),H,q,a,l,(c155 (sc:=qAC d g.ty) (e:=g.x) (f.sub w) N ((f.sub w).invsOk g hm) (hv.is g hm)).call ⟨_,rfl,λh=>⟨f.invs.succ l,Q P _ _ _ ⟨o.trans w,?_⟩⟩,λh=>⟨q,a,l,H,_,_,_,_,_,_,z,key _ _ _ (o.trans w) ?_⟩⟩⟩;·rw[r,qAn (by rw[<-I];exact if_neg λe=>e h)]
  ·rw[r,qAj (b:=(g.name,-1,qBv d (qAC d g.ty) g.x qAz)) (by rw[<-I];exact if_pos h)];rfl
 rw[(f.invs.done l).1,qAk]at r;rw[r,xZ];unfold exp3;generalize M:(λ(_:Nat) (m:Po)=>if qBv d (qAC d m.ty) m.x qAT≠0 then some ((sPot,-1,qBv d (qAC d m.ty) m.x qAT):Flt)else none)=F3;refine qEz d.pots.length (λk V1=>V.sub V1/\qAk F3 0 d.pots=qAk F3 k (d.pots.drop k)) ⟨o,rfl⟩ ?_;rintro k b c V1 J C ⟨o,r⟩ Q;have f:=R.sub o;refine⟨λl=>?_,λl=>?_⟩
 ·obtain⟨g,hm,D,G,P,q,a,u⟩:=f.pots.get l;rw[G]at r;have H:=qAf (n:=k*5) q;refine⟨q,a,l,H,_,_,_,_,_,u,q,a,l,H,_,_,_,_,_,u,Tri.mono (qFd f B) ?_⟩;rintro _ V2 ⟨s',rfl,w,N⟩;have z:=w.rowp u;refine⟨s',false,rfl,qFc (j:=1) (m:=4) z (by decide) (by decide),H,q,a,l,(c155 (sc:=qAC d g.ty) (e:=g.x) (f.sub w) N ((f.sub w).potsOk g hm) (hv.qs g hm)).call ⟨_,rfl,λh=>⟨f.pots.succ l,Q P _ _ _ ⟨o.trans w,?_⟩⟩,λh=>key _ _ _ (o.trans w) ?_⟩⟩;·rw[r,qAn (by rw[<-M];exact if_neg λe=>e h)]
  ·rw[r,qAj (b:=(sPot,-1,qBv d (qAC d g.ty) g.x qAT)) (by rw[<-M];exact if_pos h)];rfl
 rw[(f.pots.done l).1,qAk]at r;rw[r,xZ];have E:=qJX W;unfold exp4;generalize F:(λ(_:Nat) (m:Bd)=>if qBv d (qBD d ((qFP d m.proc).getD prD)) m.x qAT≠0 then some ((m.proc,-1,qBv d (qBD d ((qFP d m.proc).getD prD)) m.x qAT):Flt)else none)=F4;refine qEz d.bounds.length (λk V1=>V.sub V1/\qAk F4 0 d.bounds=qAk F4 k (d.bounds.drop k)) ⟨o,rfl⟩ ?_;rintro k b c V1 J C ⟨o,r⟩ Q;have f:=R.sub o;refine⟨λl=>?_,λl=>?_⟩
 ·obtain⟨g,hm,D,G,P,q,a,u⟩:=f.bounds.get l;rw[G]at r;have H:=qAf (n:=k*5) q;obtain⟨p,hpp⟩:=E g hm;rcases qAL (λt:Pr=>decide (t.name=g.proc)) d.procs with⟨U,i2,i3⟩|⟨i,x,U,i2,i3,i4,i5,i6,i7,_⟩;·grind[qFP]
  have K:qFP d g.proc=some x:=i3;refine⟨q,a,l,H,_,_,_,_,_,u,(c136 f).call ⟨_,rfl,?_⟩⟩;rw[U];have hpn:=f.procs.n_eq;have Y:(i:Int)<(d.ps.n:Int):=by omega
  obtain⟨y,hmy,L,hdy,hly,S,T,O⟩:=f.procs.get Y;rw[i2]at L;cases L;refine⟨S,T,Y,_,_,_,_,_,O,q,a,l,H,_,_,_,_,_,u,Tri.mono (refInBound f (f.procsOk x i6) B (hv.small.2 x i6)) ?_⟩;rintro _ V2 ⟨s',rfl,w,N⟩;have z:=w.rowp u;have Z:(qFP d g.proc).getD prD=x:=by rw[K];rfl
  refine⟨s',false,rfl,qFc (j:=1) (m:=4) z (by decide) (by decide),H,q,a,l,(c155 (sc:=qBD d x) (e:=g.x) (f.sub w) N ((f.sub w).boundsOk g hm) (hv.bs g hm)).call ⟨_,rfl,λh=>⟨f.bounds.succ l,Q P _ _ _ ⟨o.trans w,?_⟩⟩,λh=>⟨q,a,l,H,_,_,_,_,_,z,key _ _ _ (o.trans w) ?_⟩⟩⟩;·rw[r,qAn (by rw[<-F];exact if_neg λe=>e (by rw[Z];exact h))]
  ·rw[r,qAj (b:=(g.proc,-1,qBv d (qBD d x) g.x qAT)) (by rw[<-F];exact(if_pos (by rw[Z];exact h)).trans (by rw[Z]))];try rfl
 rw[(f.bounds.done l).1,qAk]at r;rw[r];exact⟨rfl,o⟩
def f3(o:Option Flt):Value:=.tuple #[.string (fltR o).1,.int .i64 (fltR o).2.1,.int .i64 (fltR o).2.2]
theorem c70(w:Ds.Ok V d)(hv:qLf d):PP 70 [d.v] V (f3 (qIj d)):=by
 refine x70 ?_;unfold qIj;have bad:∀{a b:Option Flt},(∀r,a=some r->Bad r)->¬((fltR a).2.2=0)->(xH (.tuple #[.string (fltR a).1,.int .i64 (-1),.int .i64 (fltR a).2.2])=xH (f3 (a.or b))/\V=V):=λ{a b} l h=>by
  cases a with
  |none=>exact absurd rfl h
  |some r=>
   have:=l r rfl;unfold f3 fltR;simp only[Option.some_or,xz];rw[this.2];simp_all
 have good:∀{a:Option Flt},(∀r,a=some r->Bad r)->(fltR a).2.2=0->a=none:=λ{a} l h=>by
  cases a with
  |none=>rfl
  |some r=>exact absurd h (l r rfl).1
 refine(c108 w).call ⟨_,_,rfl,λh=>?_,λh=>bad (qIT d) h⟩;rw[good (qIT d) h,xZ];refine(c109 w hv.small).call ⟨_,_,rfl,λh=>?_,λh=>bad (qJC d) h⟩;rw[good (qJC d) h,xZ];refine(c110 w).call ⟨_,_,rfl,λh=>?_,λh=>bad (qLV d) h⟩;have f:=good (qLV d) h;rw[f,xZ];unfold qCJ;generalize H:(λ(_:Nat) (p:Pr)=>if(qBO d (qAg d p) p.result 0 p.body).2≠0 then some ((p.name,(qBO d (qAg d p) p.result 0 p.body).1,(qBO d (qAg d p) p.result 0 p.body).2):Flt)else none)=F1;refine loop4s (mk:=.string) (mc:=.int .i64) (md:=.int .i64) (qAo []) 0 0 qCZ d.procs.length (λk _ V1=>V=V1/\qAk F1 0 d.procs=qAk F1 k (d.procs.drop k)) ⟨rfl,rfl⟩ ?_;rintro k b c Y V1 J W ⟨rfl,j⟩ G;refine⟨λz=>?_,λz=>?_⟩
 ·obtain⟨g,hm,Q,q,N,i,o,u⟩:=w.procs.get z;rw[q]at j;have s:=qAf (n:=k*5) i;have y:=w.procsOk g hm;obtain⟨e,Z⟩:=hv.ps g hm;refine⟨i,o,z,_,_,_,_,_,u,i,o,z,s,_,_,_,_,_,u,(refStmts w y hv.small.1 (hv.small.2 g hm) g.body g.bs 0 1 y.body y.stmts e (by omega) (by omega)).call ⟨_,_,rfl,λh=>⟨w.procs.succ z,G N _ _ _ _ ⟨rfl,?_⟩⟩,λh=>⟨i,o,z,s,_,_,_,_,_,u,?_⟩⟩⟩;·rw[j,qAn (by grind)]
  ·rw[j,qAj (b:=(g.name,(qBO d (qAg d g) g.result 0 g.body).1,(qBO d (qAg d g) g.result 0 g.body).2)) (by grind)];exact⟨rfl,rfl⟩
 rw[(w.procs.done z).1,qAk]at j;rw[j,xZ];refine(c112 w hv f).call ⟨_,_,rfl,λh=>?_,λh=>?_⟩;·rw[good (qLZ d) h];exact⟨rfl,rfl⟩
 ·have:=bad (b:=none) (qLZ d) h;grind
def wellT(d:Ds):Bool:=qAG d&&decide ((fltR (qIj d)).2.2=0)
theorem c32(g:Ds.Ok V d):PP 32 [d.v] V (.bool (wellT d)):=by
 refine x32 ?_;unfold wellT;refine(c31 g).call ⟨_,rfl,λh=>(c70 g (vparts h)).call ⟨_,_,_,rfl,?_⟩,λh=>?_⟩;·simp_all
 simp_all
end
structure qBX (V:Mem)(c:Option Addr)(d:Ds):Prop where
 at_:∃cb mt mp t,c=some ⟨cb,0,none⟩/\V cb=some (.cells (d.row++[zz (some mt),zz (some mp)]).toArray t (0,0))/\qBs V mt (λk=>(qKj d k).map Ty.v)/\qBs V mp (λk=>(qFP d k).map Pr.v)
 ok:Ds.Ok V d
theorem qBX.sub{V V':Mem}{c:Option Addr}{d:Ds}(h:qBX V c d)(g:V.sub V'):qBX V' c d:=by
 obtain⟨cb,mt,mp,t,h1,h2,h3,h4⟩:=h.at_;exact⟨⟨cb,mt,mp,t,h1,g _ _ h2,h3.sub g,h4.sub g⟩,h.ok.sub g⟩
theorem qBX.nn{V:Mem}{c:Option Addr}{d:Ds}(h:qBX V c d):¬(c=none):=by
 obtain⟨cb,mt,mp,t,h1,h2,h3,h4⟩:=h.at_;rw[h1];simp
theorem qBX.cell{V:Mem}{c:Option Addr}{d:Ds}(h:qBX V c d){i:Nat}{v:Value}(hv:(d.row)[i]?=some v):V.rowp c (i*1) 1=some [v]:=by
 obtain⟨cb,mt,mp,t,h1,h2,h3,h4⟩:=h.at_;rw[h1,Nat.mul_one];have f:=(yv.1 hv).1;have u:d.row.length=8:=rfl;rw[qAd h2 i 1 (by simp;omega)];have:(d.row++[zz (some mt),zz (some mp)])[i]?=some v:=by grind
 have g:i<(d.row++[zz (some mt),zz (some mp)]).length:=by rw[List.length_append];omega
 show some (((d.row++[zz (some mt),zz (some mp)]).drop i).take 1)=_;rw[List.drop_eq_getElem_cons g,(yv.1 this).2];rfl
theorem qBX.types{V:Mem}{c:Option Addr}{d:Ds}(h:qBX V c d):∃mt,V.rowp c 8 1=some [.map (some mt)]/\qBs V mt (λk=>(qKj d k).map Ty.v):=by
 obtain⟨cb,mt,mp,t,h1,h2,h3,h4⟩:=h.at_;exact⟨mt,by rw[h1,qAd h2 8 1 (by simp[Ds.row])];rfl,h3⟩
theorem qBX.procs{V:Mem}{c:Option Addr}{d:Ds}(h:qBX V c d):∃mt,V.rowp c 9 1=some [.map (some mt)]/\qBs V mt (λk=>(qFP d k).map Pr.v):=by
 obtain⟨cb,mt,mp,t,h1,h2,h3,h4⟩:=h.at_;exact⟨mp,by rw[h1,qAd h2 9 1 (by simp[Ds.row])];rfl,h4⟩
def qCd(l:List Fld)(k:KB):Option KB:=(l.find? λf=>decide (f.name=k)).map (·.ty)
theorem qKB(l:List Fld)(k:KB):qBU l k=(qCd l k).getD sE:=by
 induction l with
 |nil=>rfl
 |cons f l h=>
  grind[qCd,qBU]
def NE(l:List Fld):Prop:=∀f∈l,f.ty≠sE
theorem NE.some{l:List Fld}(h:NE l){k t:KB}(hv:qCd l k=some t):t≠sE:=by
 unfold qCd at hv;obtain⟨f,g,rfl⟩:=Option.map_eq_some_iff.1 hv;exact h f (xy g)
structure qIu (V:Mem)(m:Option Nat)(sc:Sc):Prop where
 at_:∃mb,m=some mb/\qBs V mb (λk=>(qCd sc.vars k).map Value.string)
 ne:NE sc.vars
theorem qIu.sub{V V':Mem}{m:Option Nat}{sc:Sc}(h:qIu V m sc)(g:V.sub V'):qIu V' m sc:=by
 obtain⟨mb,h1,h2⟩:=h.at_;exact⟨⟨mb,h1,h2.sub g⟩,h.ne⟩
def sV(c:Option Addr)(m:Option Nat)(sc:Sc):Value:=.agg #[.pointer c,.map m,.bool sc.body]
structure VNe (d:Ds):Prop where
 types:∀t∈d.types,NE t.fields
 globals:NE d.globals
 params:∀p∈d.procs,NE p.params/\NE p.locals
theorem typB_ne{s:KB}(h:typB s=true):s≠sE:=by
 intro e;subst e;have:typB sE=false:=by
  rfl
 simp_all
theorem flds_ne{l:List Fld}{n:Int}(h:qDC l n=true):NE l:=λf g=>by
 simp_all[qDC,zC,za,fldB,typB_ne]
theorem vne{d:Ds}(h:qAG d=true):VNe d:=by
 unfold qAG at h;simp only[zC,decide_eq_true_eq,za]at h;obtain⟨⟨⟨⟨⟨⟨⟨-,-⟩,u⟩,-⟩,-⟩,w⟩,z⟩,-⟩:=h;refine⟨λt g=>?_,flds_ne u,λp f=>?_⟩
 ·have:=w t g;unfold tyB at this;rw[zC]at this;exact flds_ne this.2
 ·have:=z p f;unfold prB at this;simp only[zC]at this;grind[flds_ne]
theorem zero98(w:World):(zeroValue 98).run xE w=.ok (.agg #[.string zA,.slice none 0 0]) w:=by kernel_rfl
theorem zero143(w:World):(zeroValue 143).run xE w=.ok (.agg #[.string zA,.slice none 0 0,.string zA,.slice none 0 0,.slice none 0 0]) w:=by kernel_rfl
theorem zero9(w:World):(zeroValue 9).run xE w=.ok (.string zA) w:=by kernel_rfl
theorem tyOf_node(d:Ds)(s:KB):(qKj d s).isSome=qBd d s:=by
 grind[qKj,qBd]
theorem tyOf_mem{d:Ds}{s:KB}{t:Ty}(h:qKj d s=some t):t∈d.types:=xy h
theorem qLC{d:Ds}{s:KB}{t:Pr}(h:qFP d s=some t):t∈d.procs:=xy h
section
variable{V:Mem}{d:Ds}{c:Option Addr}{m:Option Nat}{sc:Sc}
theorem c230(h:qBX V c d){s:KB}:PP 230 [.pointer c,.string s] V (.bool (qBd d s)):=by
 refine x230 ?_;obtain⟨mt,h1,h2⟩:=h.types;refine⟨h.nn,h.nn,_,h1,qBH.str xx xw zero98 h2 ?_⟩;rw[<-tyOf_node];cases g:qKj d s with
 |none=>exact⟨_,⟨none,0,0⟩,_,rfl,rfl,rfl⟩
 |some t=>exact⟨_,t.fs,_,rfl,rfl,rfl⟩
theorem c225(h:qBX V c d){s:KB}:PP 225 [.pointer c,.string s] V (.bool (qBl d s)):=by
 refine x225 ?_;refine⟨λh1=>?_,λh1=>⟨λh2=>?_,λh2=>(c230 h).call ⟨_,rfl,?_⟩⟩⟩<;>simp[qBl,qAT,qAz, *]
theorem c298(h:qBX V c d){s t:KB}:PP 298 [.pointer c,.string s,.string t] V (.bool (qDW d s t)):=by
 refine x298 ?_;unfold qDW qLt;refine⟨λh1=>?_,λh1=>⟨λh2=>(c230 h).call ⟨_,rfl,?_⟩,λh2=>?_⟩⟩;·simp_all
 ·simp_all
 simp_all
theorem c299(h:qBX V c d)(hv:VNe d){s t:KB}:PP 299 [.pointer c,.string s,.string t] V (.tuple #[.string (qCi d s t).1,.int .i64 (qCi d s t).2]):=by
 refine x299 ?_;obtain⟨mt,h1,h2⟩:=h.types;refine⟨h.nn,h.nn,_,h1,qBH.str xx xw zero98 h2 ?_⟩;unfold qCi;cases l:qKj d s with
 |none=>exact⟨_,⟨none,0,0⟩,_,rfl,λh=>absurd h (by simp),λ_=>⟨rfl,rfl⟩⟩
 |some ty=>
  refine⟨_,ty.fs,_,rfl,λ_=>?_,λh=>absurd rfl h⟩;have w:=(h.ok.typesOk ty (tyOf_mem l)).fields;have z:=hv.types ty (tyOf_mem l);simp only;refine qEz ty.fields.length (λi V1=>V=V1/\qBU ty.fields t=qBU (ty.fields.drop i) t) ⟨rfl,rfl⟩ ?_;rintro i b c V1 J e ⟨rfl,f⟩ r;refine⟨λg=>?_,λy=>?_⟩
  ·obtain⟨x,hm,H,j,q,o,a,u⟩:=w.get g;rw[j,qBU]at f;refine⟨o,a,g,_,_,u,λn=>?_,λn=>⟨w.succ g,r q _ _ _ ⟨rfl,?_⟩⟩⟩
   ·rw[if_pos n]at f;rw[f,if_neg (z x hm)];simp_all
   simp_all
  ·rw[(w.done y).1,qBU]at f;rw[f,if_pos rfl];exact⟨rfl,rfl⟩
theorem c317{b:Nat}{s:KB}{t:Nat}(h:V b=some (cell (.string s) t)){x:Ms}:PP 317 [x.v,pv b] V (.bool (decide (x.name=s))):=by
 refine x317 ?_;exact⟨_,qBR h,rfl,rfl⟩
def IdC{α:Type}(f:FuncId)(row:α->List Value)(v:α->Value)(sz:Nat):Prop:=∀{V:Mem}{l:Sl}{xs:List α}{g:Nat}{first caps:List Value}(h:qAc V l sz (xs.map row))(u:qKc g)(p:α->Bool) (w:∀x∈xs,PP g (first++[v x]++caps) V (.bool (p x))),PP f [l.v,.func (.func g) first.toArray caps.toArray] V (.int .i64 (qHG p xs))
theorem idC{α:Type}{f:FuncId}{row:α->List Value}{v:α->Value}{sz:Nat}(H:IdxP f row v sz):IdC f row v sz:=by
 intro V l xs g first j h n p r
 refine Tri.mono (H n (λi V1=>V=V1/\qAY (λy=>!p y) xs i) (λi V1=>V=V1/\∃x,xs[i]?=some x/\p x=true/\qAY (λy=>!p y) xs i) (λi V1 u=>u.1▸h) ⟨rfl,qAY.zero _ _⟩ ?_) ?_
 ·rintro i x V1 w ⟨rfl,u⟩;have hm:x∈xs:=List.mem_of_getElem? w;exact(r x hm).callv ⟨_,rfl,λz=>⟨rfl,x,w,z,u⟩,λz=>⟨rfl,qCm u w z⟩⟩
 ·rintro e V' (⟨i,rfl,rfl,x,w,z,u⟩|⟨rfl,rfl,u⟩);·rw[qCH u w z];simp_all
  ·rw[qDv u (Nat.le_refl _)];simp_all
theorem idxMs:IdC 294 Ms.row Ms.v 7:=idC g294
theorem c312(h:qBX V c d){s:KB}{l:Sl}{xs:List KB}(o:qAc V l 1 (xs.map qBk)):PP 312 [sV c m sc,.string s,l.v] V (.tuple #[.string (qKq d s xs).1,.int .i64 (qKq d s xs).2]):=by
 refine Pur.mk (x312 ?_);refine⟨h.nn,h.nn,qAf h.nn,d.ms,h.cell (i:=4) rfl,λb e=>?_⟩;have z:=Zn e (cell (.string s) 9);have h1:=h.sub z;have g:=o.sub z;refine(idxMs (l:=d.ms) (first:=[]) (caps:=[pv b]) h1.ok.measures Tryz.call317 (λt=>decide (t.name=s)) (λx _=>c317 mss)).call ⟨_,rfl,?_⟩;unfold qKq meOf;have key:∀{X:KB×Int}(a:KB)(n:Int),X=(a,n)->(xH (.tuple #[.string a,.int .i64 n])=xH (.tuple #[.string X.1,.int .i64 X.2])/\V.sub (V.set b (cell (.string s) 9))):=λa n h=>by simp_all
 rcases qAL (λt:Ms=>decide (t.name=s)) d.measures with⟨h1,h2,h3⟩|⟨i,x,i1,i2,i3,i4,i5,i6,i7,_⟩;·rw[h1,h2];exact⟨λ_=>key _ _ rfl,λh=>absurd h (by decide)⟩
 ·rw[i1,i3];have Z:=h1.ok.measures.n_eq;have f:(i:Int)<(d.ms.n:Int):=by omega
  obtain⟨y,hm,j,H,J,r,G,u⟩:=h1.ok.measures.get f;rw[i2]at j;cases j;have Y:=g.n_eq;refine⟨λh=>absurd h (by omega),λ_=>⟨λN=>?_,λN=>key _ _ (if_pos (by omega))⟩⟩;obtain⟨a1,a2,a3⟩:=qEN g (i:=0) (by omega);have q:¬(xs.length≠1):=by omega
  refine⟨a1,by omega,by omega,_,a3,h.nn,h.nn,qAf h.nn,d.ms,h1.cell (i:=4) rfl,r,G,f,qAf r,_,_,_,_,_,_,_,u,(c298 h1).call ⟨_,rfl,λw=>key _ _ ?_,λw=>key _ _ ?_⟩⟩;·simp only[q,if_false];unfold qDS;rw[if_pos w];rfl
  ·simp only[q,if_false];unfold qDS;rw[if_neg w];rfl
theorem c315{b:Nat}{s:KB}{t:Nat}(h:V b=some (cell (.string s) t)){x:KB}:PP 315 [strV x,pv b] V (.bool (!decide (x=s))):=by
 refine x315 ?_;exact⟨_,qBR h,rfl,rfl⟩
theorem c313{b t:Nat}{l:Sl}{xs:List KB}(u:V b=some (cell (.slice l.p l.n l.c) t))(w:qAc V l 1 (xs.map qBk)){s r:KB}:
  PP 313 [.string s,.string r,pv b] V (.tuple #[.string (qDS (allT xs s) r).1,.int .i64 (qDS (allT xs s) r).2]):=by
 refine Pur.mk (x313 ?_);refine⟨l,qBR u,λb1 g=>?_⟩;have f:=Zn g (cell (.string s) 9);refine(c314 (l:=l) (first:=[]) (caps:=[pv b1]) (w.sub f) Tryz.call315 (λx=>!decide (x=s)) (λx _=>c315 mss)).call ⟨_,rfl,λh=>?_,λh=>?_⟩
 ·rw[xU]at h;have:allT xs s=false:=by grind[allT]
  rw[this];exact⟨rfl,f⟩
 ·rw[xU]at h;have:allT xs s=true:=by grind[allT]
  rw[this];exact⟨rfl,f⟩
end
theorem fits_first{d:Ds}{a b:KB}(h:qDW d a b=true):(if a=qLt then b else a)=b:=by
 grind[qDW]
theorem fits_second{d:Ds}{a b:KB}(h:¬qDW d a b=true)(h2:qDW d b a=true):(if a=qLt then b else a)=a:=by
 grind[qDW,absurd]
def qGs(d:Ds)(sc:Sc)(s:KB)(l:List KB):KB×Int:=if sc.body=true then qFS d s l else qKq d s l
theorem measT_ne{d:Ds}{s:KB}{l:List KB}(h:(qKq d s l).2=0):(qKq d s l).1≠sE:=by
 unfold qKq at h⊢;split at h;·omega
 ·split at h;·omega
  ·rename_i g;simp only[if_neg g];unfold qDS at h⊢;split at h;·rename_i h2;rw[if_pos h2];simp only;decide
   omega
theorem callE_raw(d:Ds)(sc:Sc)(s:KB)(l:List KB):qIt d sc s l=if(qGs d sc s l).2=0/\(qGs d sc s l).1=sE then(sE,11)else qGs d sc s l:=by
 unfold qIt qGs;by_cases h:sc.body=true;·simp_all
 simp_all[if_neg,absurd,measT_ne]
section
variable{V:Mem}{d:Ds}{c:Option Addr}{m:Option Nat}{sc:Sc}
def ImpE(V:Mem)(d:Ds)(c:Option Addr)(m:Option Nat)(sc:Sc)(e:E):Prop:=∀V1,V.sub V1->PP 269 [sV c m sc,e.v] V1 (.tuple #[.string (qAq d sc e).1,.int .i64 (qAq d sc e).2])
def rawT(d:Ds)(sc:Sc)(e:E):KB×Int:=if(partsT d sc [] e.k).2≠0 then(sE,(partsT d sc [] e.k).2)else qGs d sc e.s (partsT d sc [] e.k).1
theorem impCall(h:qBX V c d)(e:E)(O:E.Ok V e)(T:(e.k.length:Int)<=6)(U:∀x∈e.k,ImpE V d c m sc x):
  PP 297 [sV c m sc,e.v] V (.tuple #[.string (rawT d sc e).1,.int .i64 (rawT d sc e).2]):=by
 have hr:=O.rows;refine Pur.mk (x297 ?_);unfold rawT;refine loop4s (mk:=.string) (mc:=.int .i64) (md:=λs:Sl=>.slice s.p s.n s.c) (qAo []) 0 ⟨none,0,0⟩ qAH e.k.length (λi s V1=>∃acc,Own V V1 9 1 s (acc.flatMap qBk)/\partsT d sc [] e.k=partsT d sc acc (e.k.drop i)/\acc.length=i) ⟨[],Own.nil (Mem.sub.refl _) _ _,rfl,rfl⟩ ?_;rintro i b b' s V1 J hi ⟨acc,g,l,r⟩ A;have q:=hr.sub g.sub;refine⟨λz=>?_,λo=>?_⟩
 ·obtain⟨x,hm,hx,I,hl,M,hz,Z⟩:=q.get z;rw[I,qCl]at l;refine⟨M,hz,z,_,_,_,_,Z,(U x hm V1 g.sub).call ⟨_,_,rfl,λh0=>?_,λh0=>?_⟩⟩
  ·intro b1 F;rw[if_neg (λh=>h h0)]at l;refine app220 (s:=s) (u:=⟨some ⟨b1,0,none⟩,1,1⟩) (xs:=acc) (ys:=[(qAq d sc x).1]) rfl rfl (g.new F _) (qJn mss) (by simp;omega) λs' V' ho=>⟨s',rfl,q.succ z,A hl _ _ _ _ ⟨_,ho,l,by simp[r]⟩⟩
  ·rw[if_pos h0]at l;rw[l];simp only[ne_eq,h0,not_false_eq_true,if_true];exact⟨by trivial,g.sub⟩
 ·rw[(q.done o).1,qDj]at l;rw[l];simp only[ne_eq,not_true_eq_false,if_false];have w:=ownS g;have h1:=h.sub g.sub;have key:∀{X:KB×Int}(a:KB)(n:Int),X=(a,n)->(xH (.tuple #[.string a,.int .i64 n])=xH (.tuple #[.string X.1,.int .i64 X.2])/\V.sub V1):=λa n h=>by rw[h];exact⟨rfl,g.sub⟩
  unfold qGs;refine⟨λN=>?_,λN=>?_⟩
  ·rw[if_pos N];obtain⟨mt,q1,q2⟩:=h1.procs;refine⟨h.nn,h.nn,_,q1,qBH.str Tryz.underlying270 xw zero143 q2 ?_⟩;unfold qFS;cases L:qFP d e.s with
   |none=>exact⟨_,⟨none,0,0⟩,_,⟨none,0,0⟩,⟨none,0,0⟩,_,rfl,λh=>absurd h (by simp),λ_=>key _ _ rfl⟩
   |some p=>
    have Y:=h1.ok.procsOk p (qLC L);have e1:=w.n_eq;have e2:=Y.params.n_eq;refine⟨_,p.ps,_,p.ls,p.bs,_,rfl,λ_=>⟨λO=>?_,λO=>key _ _ (if_pos (by omega))⟩,λh=>absurd rfl h⟩;have R:acc.length=p.params.length:=by omega
    simp only[R,ne_eq,not_true_eq_false,if_false];refine qEz acc.length (λi V2=>V1=V2/\qCB d acc p.params=qCB d (acc.drop i) (p.params.drop i)) ⟨rfl,rfl⟩ ?_;rintro j b c' V2 J hi ⟨rfl,P⟩ A;refine⟨λz=>?_,λo=>?_⟩
    ·obtain⟨y,hm',hx',W,B,C,D,H⟩:=w.get z;obtain⟨f,hmf,hxf,K,hlf,Q,S,G⟩:=Y.params.get (i:=j) (by omega);rw[W,K,qCB]at P;refine⟨C,D,z,_,H,Q,S,by omega,qAf Q,_,_,G,(c298 h1).call ⟨_,rfl,λN=>⟨w.succ z,A B _ _ _ ⟨rfl,?_⟩⟩,λN=>key _ _ ?_⟩⟩;·simp_all
     ·rw[eq_false_of_ne_true N,Bool.false_and]at P;rw[P];rfl
    ·rw[(w.done o).1,qKW]at P;simp_all
  ·rw[if_neg N];exact(c312 h1 w).call ⟨_,_,rfl,key _ _ rfl⟩
theorem impNode(h:qBX V c d)(hv:VNe d)(K:qIu V m sc){e:E}{l:Sl}{xs:List KB}(P:qAc V l 1 (xs.map qBk))(S:xs.length=e.k.length)(O:qDR e.op e.n e.s e.k.length=true)(N:e.op≠7):
  PP 300 [sV c m sc,e.v,l.v] V (.tuple #[.string (qGh d sc e.op e.s xs).1,.int .i64 (qGh d sc e.op e.s xs).2]):=by
 have Z:=arity O;refine Pur.mk (x300 ?_);generalize g:qGh d sc e.op e.s xs=X;have key:∀{V1:Mem}(a:KB)(n:Int),V.sub V1->X=(a,n)->(xH (.tuple #[.string a,.int .i64 n])=xH (.tuple #[.string X.1,.int .i64 X.2])/\V.sub V1):=λa n h1 h=>by simp_all
 have u:=Mem.sub.refl V;have f:=λa b=>c298 h (s:=a) (t:=b);have o:=λh:0<xs.length=>qEN P h;have at1:=λh:1<xs.length=>qEN P h;have at2:=λh:2<xs.length=>qEN P h;have call:∀(s r:KB),X=qDS (allT xs s) r->qAr [(.slice l.p l.n l.c)] 220 V λv8 V1=>
   Tri xE 313 #[(.string s),(.string r),(.pointer (qAa v8 0))] V1 λz V2=>∃T:KB,∃Y:Int,z=.returned (.tuple #[(.string T),(.int .i64 Y)])/\(xH (.tuple #[(.string T),(.int .i64 Y)])=xH (.tuple #[.string X.1,.int .i64 X.2])/\V.sub V2):=λs r hx b W=>by
  have h1:=Zn W (cell (.slice l.p l.n l.c) 220);exact(c313 (l:=l) mss (P.sub h1)).call ⟨_,_,rfl,key _ _ h1 (by rw[hx])⟩
 unfold qGh at g;refine⟨λw=>key _ _ u ?_,λw=>⟨λy=>key _ _ u ?_,λy=>⟨λj=>key _ _ u ?_,λj=>⟨λi=>?_,λi=>⟨λq=>?_,λq=>⟨λH=>?_,λH=>⟨λA=>?_,λA=>⟨λI=>?_,λI=>⟨λM=>call _ _ ?_,λM=>⟨λF=>call _ _ ?_,λF=>⟨λL=>call _ _ ?_,λL=>⟨λR=>call _ _ ?_,λR=>⟨λB=>call _ _ ?_,λB=>⟨λJ=>?_,λJ=>call _ _ ?_⟩⟩⟩⟩⟩⟩⟩⟩⟩⟩⟩⟩⟩⟩;·rw[<-g,if_pos w];rfl
 ·rw[<-g,if_neg w,if_pos y];rfl
 ·rw[<-g,if_neg w,if_neg y,if_pos j];rfl
 ·rw[if_neg w,if_neg y,if_neg j,if_pos i,qKB]at g;obtain⟨mb,rfl,Q⟩:=K.at_;refine qBH.str Tryz.underlying312 xw zero9 Q ?_;cases G:qCd sc.vars e.s with
  |none=>
   rw[G,Option.getD_none]at g;exact⟨_,_,rfl,λh=>absurd h (by simp),λ_=>key _ _ u (by rw[<-g,if_pos rfl];rfl)⟩
  |some t=>
   rw[G,xz]at g;exact⟨t,_,rfl,λ_=>key _ _ u (by rw[<-g,if_neg (K.ne.some G)]),λh=>absurd rfl h⟩
 ·rw[if_neg w,if_neg y,if_neg j,if_neg i,if_pos q]at g;obtain⟨a1,a2,a3⟩:=o (by omega);exact⟨a1,by omega,a2,_,a3,(c299 h hv).call ⟨_,_,rfl,key _ _ u (by rw[<-g])⟩⟩
 ·rw[if_neg w,if_neg y,if_neg j,if_neg i,if_neg q,if_pos H]at g;refine⟨λW=>(c230 h).call ⟨_,rfl,λU=>key _ _ u ?_,λU=>key _ _ u ?_⟩,λW=>key _ _ u ?_⟩;·simp_all
  ·rw[<-g,if_neg (by rw[W];simp),if_pos (eq_false_of_ne_true U)];rfl
  ·rw[<-g,if_pos (eq_false_of_ne_true W)];rfl
 iterate 2
  ·rw[if_neg w,if_neg y,if_neg j,if_neg i,if_neg q,if_neg H,if_neg N,if_pos (by omega)]at g;obtain⟨a1,a2,a3⟩:=o (by have:=Z.2.1 (by omega);omega);obtain⟨b1,b2,b3⟩:=at1 (by have:=Z.2.1 (by omega);omega);refine⟨a1,by omega,a2,_,a3,b1,by omega,b2,_,b3,(f _ _).call ⟨_,rfl,λh=>key _ _ u ?_,λh=>⟨b1,by omega,b2,_,b3,a1,by omega,a2,_,a3,(f _ _).call ⟨_,rfl,λh2=>key _ _ u ?_,λh2=>key _ _ u ?_⟩⟩⟩⟩;·rw[<-g,h];rfl
   ·rw[<-g,h2,Bool.or_true];rfl
   ·rw[<-g,eq_false_of_ne_true h,eq_false_of_ne_true h2];rfl
 iterate 2
  ·rw[if_neg w,if_neg y,if_neg j,if_neg i,if_neg q,if_neg H,if_neg N,if_neg (by omega),if_pos (by omega)]at g;exact g.symm
 iterate 3
  ·rw[if_neg w,if_neg y,if_neg j,if_neg i,if_neg q,if_neg H,if_neg N,if_neg (by omega),if_neg (by omega),if_pos (by omega)]at g;exact g.symm
 ·rw[if_neg w,if_neg y,if_neg j,if_neg i,if_neg q,if_neg H,if_neg N,if_neg (by omega),if_neg (by omega),if_neg (by omega),if_pos J]at g;obtain⟨a1,a2,a3⟩:=o (by omega);obtain⟨b1,b2,b3⟩:=at1 (by omega);obtain⟨C,D,c3⟩:=at2 (by omega);refine⟨a1,by omega,a2,_,a3,λh0=>⟨b1,by omega,b2,_,b3,C,by omega,D,_,c3,(f _ _).call ⟨_,rfl,λh=>⟨C,by omega,D,_,c3,key _ _ u ?_⟩,λh=>⟨C,by omega,D,_,c3,b1,by omega,b2,_,b3,(f _ _).call ⟨_,rfl,λh2=>⟨b1,by omega,b2,_,b3,key _ _ u ?_⟩,λh2=>key _ _ u ?_⟩⟩⟩⟩,λh0=>key _ _ u ?_⟩;·rw[<-g,decide_eq_true (show xs.getD 0 sE=qAz from h0),h,fits_first h];rfl
  ·rw[<-g,decide_eq_true (show xs.getD 0 sE=qAz from h0),h2,Bool.or_true,fits_second h h2];rfl
  ·rw[<-g,decide_eq_true (show xs.getD 0 sE=qAz from h0),eq_false_of_ne_true h,eq_false_of_ne_true h2];rfl
  ·rw[<-g,decide_eq_false (show ¬xs.getD 0 sE=qAz from h0)];rfl
 ·rw[if_neg w,if_neg y,if_neg j,if_neg i,if_neg q,if_neg H,if_neg N,if_neg (by omega),if_neg (by omega),if_neg (by omega),if_neg J]at g;exact g.symm
theorem impExpr(h:qBX V c d)(hv:VNe d)(I:qIu V m sc):∀(e:E),E.Ok V e->∀a,okE a e=true->ImpE V d c m sc e:=by
 intro e;induction e using E.ind with
 |h e M=>
 intro H a w V1 l;have G:=arity (qGO w);have Q:∀x∈e.k,ImpE V1 d c m sc x:=λx o V2 h2=>M x o (H.kids x o) (a+1) (qIF w x o) V2 (l.trans h2);have h1:=h.sub l;refine Pur.mk (x269 ?_);have P:=qHC d sc e.k [];refine⟨λO=>(impCall h1 e (H.sub l) G.2.2.2 Q).call ⟨_,_,rfl,?_⟩,λO=>?_⟩
 ·have N:qAq d sc e=if(rawT d sc e).2=0/\(rawT d sc e).1=sE then(sE,11)else rawT d sc e:=by
   rw[qIM];unfold rawT;by_cases h0:(partsT d sc [] e.k).2≠0;·simp_all
   simp_all[if_neg,qGh,if_pos,callE_raw]
  rw[N];refine⟨λh0=>⟨λh2=>?_,λh2=>?_⟩,λh0=>?_⟩;·rw[if_pos ⟨h0,h2⟩];exact⟨rfl,Mem.sub.refl _⟩
  ·rw[if_neg (λh=>h2 h.2)];exact⟨rfl,Mem.sub.refl _⟩
  ·rw[if_neg (λh=>h0 h.1)];exact⟨rfl,Mem.sub.refl _⟩
 ·rw[qIM];have F:=(H.sub l).rows;refine loop4s (mk:=.string) (mc:=.int .i64) (md:=λs:Sl=>.slice s.p s.n s.c) (qAo []) 0 ⟨none,0,0⟩ qAH e.k.length (λi s V2=>∃acc,Own V1 V2 9 1 s (acc.flatMap qBk)/\partsT d sc [] e.k=partsT d sc acc (e.k.drop i)/\acc.length=i) ⟨[],Own.nil (Mem.sub.refl _) _ _,rfl,rfl⟩ ?_;rintro i b C s V2 J D ⟨acc,g,z,y⟩ L;have f:=F.sub g.sub;refine⟨λj=>?_,λr=>?_⟩
  ·obtain⟨x,hm,o,Z,R,Y,X,q⟩:=f.get j;rw[Z,qCl]at z;refine⟨Y,X,j,_,_,_,_,q,(Q x hm V2 g.sub).call ⟨_,_,rfl,λh0=>?_,λh0=>?_⟩⟩
   ·intro b1 W;rw[if_neg (λh=>h h0)]at z;refine app220 (s:=s) (u:=⟨some ⟨b1,0,none⟩,1,1⟩) (xs:=acc) (ys:=[(qAq d sc x).1]) rfl rfl (g.new W _) (qJn mss) (by simp;omega) λs' V' B=>⟨s',rfl,f.succ j,L R _ _ _ _ ⟨_,B,z,by simp[y]⟩⟩
   ·rw[if_pos h0]at z;rw[z];simp only[ne_eq,h0,not_false_eq_true,if_true];exact⟨by trivial,g.sub⟩
  ·have A:=(f.done r).2;rw[(f.done r).1,qDj]at z;rw[z];simp only[ne_eq,not_true_eq_false,if_false];refine(impNode (h1.sub g.sub) hv ((I.sub l).sub g.sub) (ownS g) (by omega) (qGO w) O).call ⟨_,_,rfl,rfl,g.sub⟩
end
theorem qFV{c k:Nat}{p:Option Addr}:(if(c:Int)=(0:Int)then p else qAa p ((0:Int).toNat*k))=p:=by
 have:qAa p ((0:Int).toNat*k)=p:=by
  rw[show(0:Int).toNat*k=0 by simp];cases p with
  |none=>rfl
  |some a=>show some (a.add 0)=_;unfold zE;rw[if_pos rfl]
 split;·rfl
 ·exact this
theorem sub0{n:Nat}:((n:Int)-(0:Int)).toNat=n:=by omega
theorem qAc.pre{α:Type}{V:Mem}{l:Sl}{sz:Nat}{row:α->List Value}{xs:List α}(h:qAc V l sz (xs.map row)){i:Nat}(hi:i<=xs.length):qAc V ⟨l.p,i,l.c⟩ sz ((xs.take i).map row):=by
 have g:=h.n_eq;have f:=h.cap;refine⟨by simp[hi],by grind,h.fit,λr u=>h.size r ?_,λj r w=>h.at_ j r ?_⟩;·grind
 grind
theorem qCt{V:Mem}{p:Option Addr}{off n:Nat}{vs:List Value}(h:V.rowp p off n=some vs):V.rowp (qAa p off) 0 n=some vs:=by
 cases p with
 |none=>cases h
 |some a=>
  have:(a.add off).add 0=a.add off:=by rfl
  show V.row ((a.add off).add 0) n=_;rw[this];exact h
theorem c221{V:Mem}{x:Ty}:PP 221 [x.v] V (.string x.name):=by
 refine x221 ?_;exact⟨rfl,rfl⟩
theorem c258{V:Mem}{b1 b2 b3 r q t3 i:Nat}{l:Sl}{xs:List Ty}{x y:Ty}(h1:V b1=some (cell (.func (.func 221) #[] #[]) r))(h2:V b2=some (cell (.slice l.p l.n l.c) q))(h3:V b3=some (cell (.int .i64 i) t3))
  (f:qAc V l 2 (xs.map Ty.row)) (u:xs[i]?=some y):PP 258 [x.v,pv b1,pv b2,pv b3] V (.bool (decide (x.name=y.name))):=by
 refine x258 ?_;have a:=f.n_eq;have o:=(yv.1 u).1;have g:(i:Int)<(l.n:Int):=by omega
 obtain⟨e,hm,w,b,s,z,j,h⟩:=f.get g;rw[u]at w;cases w;exact⟨.func (.func 221) #[] #[],rfl,qBR h1,.func (.func 221) #[] #[],rfl,qBR h1,l,qBR h2,_,qBR h3,z,j,g,_,_,h,_,_,_,rfl,Tryz.call221,(c221 (x:=x)).callv (first:=[]) (caps:=[]) ⟨_,rfl,qCt h,z,j,g,qBR h3,qBR h2,qBR h1,_,_,_,rfl,Tryz.call221,(c221 (x:=y)).callv (first:=[]) (caps:=[]) ⟨_,rfl,rfl,rfl⟩⟩⟩
theorem c220{V:Mem}{l:Sl}{xs:List Ty}{i:Nat}{y:Ty}(u:qAc V l 2 (xs.map Ty.row))(z:xs[i]?=some y):PP 220 [l.v,.int .i64 i,.func (.func 221) #[] #[]] V (.bool ((xs.take i).any λg=>decide (g.name=y.name))):=by
 refine Pur.mk (x220 (a:=l) (c:=.func (.func 221) #[] #[]) ?_);have n:=u.n_eq;have r:=u.cap;have j:=(yv.1 z).1;refine⟨⟨by omega,by omega,by omega⟩,λb1 w b2 f b3 h=>?_⟩;have s:=(Zn w _).trans ((Zn f _).trans (Zn h (cell (.int .i64 i) 3)));simp only[qFV,sub0];refine(c126 (l:=⟨l.p,i,l.c⟩) (first:=[]) (caps:=[pv b1,pv b2,pv b3]) (qAc.pre (u.sub s) (by omega)) Tryz.call258 (λg=>decide (g.name=y.name)) (λx _=>c258 ((Zn h _) _ _ ((Zn f _) _ _ mss)) ((Zn h _) _ _ mss) mss (u.sub s) z)).call ⟨_,rfl,rfl,s⟩
theorem c224{V:Mem}{x:Fld}:PP 224 [x.v] V (.string x.name):=by
 refine x224 ?_;exact⟨rfl,rfl⟩
theorem c260{V:Mem}{b1 b2 b3 r q t3 i:Nat}{l:Sl}{xs:List Fld}{x y:Fld}(h1:V b1=some (cell (.func (.func 224) #[] #[]) r))(h2:V b2=some (cell (.slice l.p l.n l.c) q))(h3:V b3=some (cell (.int .i64 i) t3))
  (f:qAc V l 2 (xs.map Fld.row)) (u:xs[i]?=some y):PP 260 [x.v,pv b1,pv b2,pv b3] V (.bool (decide (x.name=y.name))):=by
 refine x260 ?_;have a:=f.n_eq;have o:=(yv.1 u).1;have g:(i:Int)<(l.n:Int):=by omega
 obtain⟨e,hm,w,b,s,z,j,h⟩:=f.get g;rw[u]at w;cases w;exact⟨.func (.func 224) #[] #[],rfl,qBR h1,.func (.func 224) #[] #[],rfl,qBR h1,l,qBR h2,_,qBR h3,z,j,g,_,_,h,_,_,_,rfl,Tryz.call224,(c224 (x:=x)).callv (first:=[]) (caps:=[]) ⟨_,rfl,qCt h,z,j,g,qBR h3,qBR h2,qBR h1,_,_,_,rfl,Tryz.call224,(c224 (x:=y)).callv (first:=[]) (caps:=[]) ⟨_,rfl,rfl,rfl⟩⟩⟩
theorem c223{V:Mem}{l:Sl}{xs:List Fld}{i:Nat}{y:Fld}(u:qAc V l 2 (xs.map Fld.row))(z:xs[i]?=some y):PP 223 [l.v,.int .i64 i,.func (.func 224) #[] #[]] V (.bool ((xs.take i).any λg=>decide (g.name=y.name))):=by
 refine Pur.mk (x223 (a:=l) (c:=.func (.func 224) #[] #[]) ?_);have n:=u.n_eq;have r:=u.cap;have j:=(yv.1 z).1;refine⟨⟨by omega,by omega,by omega⟩,λb1 w b2 f b3 h=>?_⟩;have s:=(Zn w _).trans ((Zn f _).trans (Zn h (cell (.int .i64 i) 3)));simp only[qFV,sub0];refine(c122 (l:=⟨l.p,i,l.c⟩) (first:=[]) (caps:=[pv b1,pv b2,pv b3]) (qAc.pre (u.sub s) (by omega)) Tryz.call260 (λg=>decide (g.name=y.name)) (λx _=>c260 ((Zn h _) _ _ ((Zn f _) _ _ mss)) ((Zn h _) _ _ mss) mss (u.sub s) z)).call ⟨_,rfl,rfl,s⟩
theorem c227{V:Mem}{x:Pr}:PP 227 [x.v] V (.string x.name):=by
 refine x227 ?_;exact⟨rfl,rfl⟩
theorem c261{V:Mem}{b1 b2 b3 r q t3 i:Nat}{l:Sl}{xs:List Pr}{x y:Pr}(h1:V b1=some (cell (.func (.func 227) #[] #[]) r))(h2:V b2=some (cell (.slice l.p l.n l.c) q))(h3:V b3=some (cell (.int .i64 i) t3))
  (f:qAc V l 5 (xs.map Pr.row)) (u:xs[i]?=some y):PP 261 [x.v,pv b1,pv b2,pv b3] V (.bool (decide (x.name=y.name))):=by
 refine x261 ?_;have a:=f.n_eq;have o:=(yv.1 u).1;have g:(i:Int)<(l.n:Int):=by omega
 obtain⟨e,hm,w,b,s,z,j,h⟩:=f.get g;rw[u]at w;cases w;exact⟨.func (.func 227) #[] #[],rfl,qBR h1,.func (.func 227) #[] #[],rfl,qBR h1,l,qBR h2,_,qBR h3,z,j,g,_,_,_,_,_,h,_,_,_,rfl,Tryz.call227,(c227 (x:=x)).callv (first:=[]) (caps:=[]) ⟨_,rfl,qCt h,z,j,g,qBR h3,qBR h2,qBR h1,_,_,_,rfl,Tryz.call227,(c227 (x:=y)).callv (first:=[]) (caps:=[]) ⟨_,rfl,rfl,rfl⟩⟩⟩
theorem c226{V:Mem}{l:Sl}{xs:List Pr}{i:Nat}{y:Pr}(u:qAc V l 5 (xs.map Pr.row))(z:xs[i]?=some y):PP 226 [l.v,.int .i64 i,.func (.func 227) #[] #[]] V (.bool ((xs.take i).any λg=>decide (g.name=y.name))):=by
 refine Pur.mk (x226 (a:=l) (c:=.func (.func 227) #[] #[]) ?_);have n:=u.n_eq;have r:=u.cap;have j:=(yv.1 z).1;refine⟨⟨by omega,by omega,by omega⟩,λb1 w b2 f b3 h=>?_⟩;have s:=(Zn w _).trans ((Zn f _).trans (Zn h (cell (.int .i64 i) 3)));simp only[qFV,sub0];refine(c169 (l:=⟨l.p,i,l.c⟩) (first:=[]) (caps:=[pv b1,pv b2,pv b3]) (qAc.pre (u.sub s) (by omega)) Tryz.call261 (λg=>decide (g.name=y.name)) (λx _=>c261 ((Zn h _) _ _ ((Zn f _) _ _ mss)) ((Zn h _) _ _ mss) mss (u.sub s) z)).call ⟨_,rfl,rfl,s⟩
theorem c229{V:Mem}{x:Ms}:PP 229 [x.v] V (.string x.name):=by
 refine x229 ?_;exact⟨rfl,rfl⟩
theorem c263{V:Mem}{b1 b2 b3 r q t3 i:Nat}{l:Sl}{xs:List Ms}{x y:Ms}(h1:V b1=some (cell (.func (.func 229) #[] #[]) r))(h2:V b2=some (cell (.slice l.p l.n l.c) q))(h3:V b3=some (cell (.int .i64 i) t3))
  (f:qAc V l 7 (xs.map Ms.row)) (u:xs[i]?=some y):PP 263 [x.v,pv b1,pv b2,pv b3] V (.bool (decide (x.name=y.name))):=by
 refine x263 ?_;have a:=f.n_eq;have o:=(yv.1 u).1;have g:(i:Int)<(l.n:Int):=by omega
 obtain⟨e,hm,w,b,s,z,j,h⟩:=f.get g;rw[u]at w;cases w;exact⟨.func (.func 229) #[] #[],rfl,qBR h1,.func (.func 229) #[] #[],rfl,qBR h1,l,qBR h2,_,qBR h3,z,j,g,_,_,_,_,_,_,_,h,_,_,_,rfl,Tryz.call229,(c229 (x:=x)).callv (first:=[]) (caps:=[]) ⟨_,rfl,qCt h,z,j,g,qBR h3,qBR h2,qBR h1,_,_,_,rfl,Tryz.call229,(c229 (x:=y)).callv (first:=[]) (caps:=[]) ⟨_,rfl,rfl,rfl⟩⟩⟩
theorem c228{V:Mem}{l:Sl}{xs:List Ms}{i:Nat}{y:Ms}(u:qAc V l 7 (xs.map Ms.row))(z:xs[i]?=some y):PP 228 [l.v,.int .i64 i,.func (.func 229) #[] #[]] V (.bool ((xs.take i).any λg=>decide (g.name=y.name))):=by
 refine Pur.mk (x228 (a:=l) (c:=.func (.func 229) #[] #[]) ?_);have n:=u.n_eq;have r:=u.cap;have j:=(yv.1 z).1;refine⟨⟨by omega,by omega,by omega⟩,λb1 w b2 f b3 h=>?_⟩;have s:=(Zn w _).trans ((Zn f _).trans (Zn h (cell (.int .i64 i) 3)));simp only[qFV,sub0];refine(c262 (l:=⟨l.p,i,l.c⟩) (first:=[]) (caps:=[pv b1,pv b2,pv b3]) (qAc.pre (u.sub s) (by omega)) Tryz.call263 (λg=>decide (g.name=y.name)) (λx _=>c263 ((Zn h _) _ _ ((Zn f _) _ _ mss)) ((Zn h _) _ _ mss) mss (u.sub s) z)).call ⟨_,rfl,rfl,s⟩
theorem c232{V:Mem}{x:Iv}:PP 232 [x.v] V (.string x.name):=by
 refine x232 ?_;exact⟨rfl,rfl⟩
theorem c265{V:Mem}{b1 b2 b3 r q t3 i:Nat}{l:Sl}{xs:List Iv}{x y:Iv}(h1:V b1=some (cell (.func (.func 232) #[] #[]) r))(h2:V b2=some (cell (.slice l.p l.n l.c) q))(h3:V b3=some (cell (.int .i64 i) t3))
  (f:qAc V l 6 (xs.map Iv.row)) (u:xs[i]?=some y):PP 265 [x.v,pv b1,pv b2,pv b3] V (.bool (decide (x.name=y.name))):=by
 refine x265 ?_;have a:=f.n_eq;have o:=(yv.1 u).1;have g:(i:Int)<(l.n:Int):=by omega
 obtain⟨e,hm,w,b,s,z,j,h⟩:=f.get g;rw[u]at w;cases w;exact⟨.func (.func 232) #[] #[],rfl,qBR h1,.func (.func 232) #[] #[],rfl,qBR h1,l,qBR h2,_,qBR h3,z,j,g,_,_,_,_,_,_,h,_,_,_,rfl,Tryz.call232,(c232 (x:=x)).callv (first:=[]) (caps:=[]) ⟨_,rfl,qCt h,z,j,g,qBR h3,qBR h2,qBR h1,_,_,_,rfl,Tryz.call232,(c232 (x:=y)).callv (first:=[]) (caps:=[]) ⟨_,rfl,rfl,rfl⟩⟩⟩
theorem c231{V:Mem}{l:Sl}{xs:List Iv}{i:Nat}{y:Iv}(u:qAc V l 6 (xs.map Iv.row))(z:xs[i]?=some y):PP 231 [l.v,.int .i64 i,.func (.func 232) #[] #[]] V (.bool ((xs.take i).any λg=>decide (g.name=y.name))):=by
 refine Pur.mk (x231 (a:=l) (c:=.func (.func 232) #[] #[]) ?_);have n:=u.n_eq;have r:=u.cap;have j:=(yv.1 z).1;refine⟨⟨by omega,by omega,by omega⟩,λb1 w b2 f b3 h=>?_⟩;have s:=(Zn w _).trans ((Zn f _).trans (Zn h (cell (.int .i64 i) 3)));simp only[qFV,sub0];refine(c264 (l:=⟨l.p,i,l.c⟩) (first:=[]) (caps:=[pv b1,pv b2,pv b3]) (qAc.pre (u.sub s) (by omega)) Tryz.call265 (λg=>decide (g.name=y.name)) (λx _=>c265 ((Zn h _) _ _ ((Zn f _) _ _ mss)) ((Zn h _) _ _ mss) mss (u.sub s) z)).call ⟨_,rfl,rfl,s⟩
theorem c234{V:Mem}{x:Bd}:PP 234 [x.v] V (.string x.proc):=by
 refine x234 ?_;exact⟨rfl,rfl⟩
theorem c266{V:Mem}{b1 b2 b3 r q t3 i:Nat}{l:Sl}{xs:List Bd}{x y:Bd}(h1:V b1=some (cell (.func (.func 234) #[] #[]) r))(h2:V b2=some (cell (.slice l.p l.n l.c) q))(h3:V b3=some (cell (.int .i64 i) t3))
  (f:qAc V l 5 (xs.map Bd.row)) (u:xs[i]?=some y):PP 266 [x.v,pv b1,pv b2,pv b3] V (.bool (decide (x.proc=y.proc))):=by
 refine x266 ?_;have a:=f.n_eq;have o:=(yv.1 u).1;have g:(i:Int)<(l.n:Int):=by omega
 obtain⟨e,hm,w,b,s,z,j,h⟩:=f.get g;rw[u]at w;cases w;exact⟨.func (.func 234) #[] #[],rfl,qBR h1,.func (.func 234) #[] #[],rfl,qBR h1,l,qBR h2,_,qBR h3,z,j,g,_,_,_,_,_,h,_,_,_,rfl,Tryz.call234,(c234 (x:=x)).callv (first:=[]) (caps:=[]) ⟨_,rfl,qCt h,z,j,g,qBR h3,qBR h2,qBR h1,_,_,_,rfl,Tryz.call234,(c234 (x:=y)).callv (first:=[]) (caps:=[]) ⟨_,rfl,rfl,rfl⟩⟩⟩
theorem c233{V:Mem}{l:Sl}{xs:List Bd}{i:Nat}{y:Bd}(u:qAc V l 5 (xs.map Bd.row))(z:xs[i]?=some y):PP 233 [l.v,.int .i64 i,.func (.func 234) #[] #[]] V (.bool ((xs.take i).any λg=>decide (g.proc=y.proc))):=by
 refine Pur.mk (x233 (a:=l) (c:=.func (.func 234) #[] #[]) ?_);have n:=u.n_eq;have r:=u.cap;have j:=(yv.1 z).1;refine⟨⟨by omega,by omega,by omega⟩,λb1 w b2 f b3 h=>?_⟩;have s:=(Zn w _).trans ((Zn f _).trans (Zn h (cell (.int .i64 i) 3)));simp only[qFV,sub0];refine(c206 (l:=⟨l.p,i,l.c⟩) (first:=[]) (caps:=[pv b1,pv b2,pv b3]) (qAc.pre (u.sub s) (by omega)) Tryz.call266 (λg=>decide (g.proc=y.proc)) (λx _=>c266 ((Zn h _) _ _ ((Zn f _) _ _ mss)) ((Zn h _) _ _ mss) mss (u.sub s) z)).call ⟨_,rfl,rfl,s⟩
end Go.Proofs
