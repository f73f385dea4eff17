/- Part 21 of a proof of a law of this seat: no statement of the seat is proved here. -/
import Derived.Test.YtmeagdecjpknkaaGreatDoorPr18
import Derived.Test.YtmeagdecjpknkaaGreatDoorPr20
import Derived.Test.YtmeagdecjpknkaaGreatDoorPr17
set_option linter.unusedVariables false
set_option linter.unusedSimpArgs false
open List renaming mem_append->xh,count_append->uC,take_add_one->we,getElem?_eq_some_iff->yw,length_take->uE,take_of_length_le->wY,length_pos_iff->uF,getElem?_eq_getElem->yv,mem_iff_getElem?->xk,count_le_length->uH,mem_of_getElem?->xv,take_zero->vK,mem_of_mem_take->vu,length_replicate->uJ,getElem?_set_self->vy,range->zB,nodup_range->uN,nodup_append->vt,ext_getElem?->zx,getElem?_eq_none->uO,length_map->xd,length_append->zw,length_singleton->xi,range_succ->uQ,filter_append->uR,getElem?_append_left->xa,flatten_append->yK,flatten_singleton->uU,mem_flatten->uV,replicate->yI,getElem?_set_ne->vZ,foldl_append->vf,mem_singleton->zO
open Go.Proofs.Tryz renaming prog->xD,underlying3->wo,underlying132->vc
open Nat renaming le_refl->yU,le_trans->uG,mul_one->vq,div_le_self->uT,zero_le->uX
open List.cons renaming injEq->yD
open Go.Value.int renaming injEq->zl
open Go.Value renaming int->xe,bool->uW
open List.Pairwise renaming map->uK
open Int renaming toNat_natCast->xu
open Go.IntKind renaming wrap->xE
namespace Go.Proofs
def lastS(a:Int×Nat)(x:Int):Int×Nat:=if a.1<x then(x,1)else if x=a.1 then(a.1,a.2+1)else a
def qDc(l:List Int):Int×Nat:=l.foldl lastS (-1,0)
theorem qKs(l:List Int)(x:Int):qDc (l++[x])=lastS (qDc l) x:=by grind[qDc]
theorem qKR{p:List Int->Prop}(h0:p [])(h:∀l x,p l->p (l++[x]))(l:List Int):p l:=by
 have:∀n,∀l:List Int,l.length=n->p l:=by
  intro n;induction n with
  |zero=>simp_all
  |succ n f=>
   intro l u;have g:l≠[]:=by grind
   rw[<-List.dropLast_concat_getLast g];simp_all
 grind
theorem qDX(l:List Int):(∀x∈l,x<=(qDc l).1)/\-1<=(qDc l).1/\((qDc l).1=-1∨(qDc l).1∈l)/\((∀x∈l,0<=x)->(qDc l).2=l.count (qDc l).1):=by
 induction l using qKR with
 |h0=>exact⟨by simp,by decide,.inl rfl,λ_=>rfl⟩
 |h l x g=>
  obtain⟨h1,h2,h3,h4⟩:=g;rw[qKs];unfold lastS;grind
def qDm(l:List Int)(size:Int):Int:=if(qDc l).1<0∨((qDc l).2:Int)=size then(qDc l).1+1 else(qDc l).1
structure Plc (l:List Int)(size:Int):Prop where
 rng:∀b∈l,0<=b/\b<4096
 cnt:∀b∈l,(l.count b:Int)<=size
theorem Plc.nil{size:Int}:Plc [] size:=⟨by simp,by simp⟩
theorem Plc.snoc{l:List Int}{size b:Int}(h:Plc l size)(h1:0<=b/\b<4096)(h2:((l++[b]).count b:Int)<=size):Plc (l++[b]) size:=by
 refine⟨λx g=>?_,λx g=>?_⟩
 ·rcases xh.1 g with g|g;·exact h.rng x g
  simp_all
 ·by_cases e:x=b;·rw[e];exact h2
  ·rcases xh.1 g with g|g
   ·have:=h.cnt x g;grind
   simp_all
structure Pl0 (l:List Int)(size:Int):Prop where
 lo:∀b∈l,0<=b
 cnt:∀b∈l,(l.count b:Int)<=size
theorem Plc.pl0{l:List Int}{size:Int}(h:Plc l size):Pl0 l size:=⟨λb g=>(h.rng b g).1,h.cnt⟩
theorem furth_eq{l:List Int}{size M:Int}{n:Nat}(h:Pl0 l size)(g:M∈l)(f:∀x∈l,x<=M)(u:n=l.count M):qDm l size=if(n:Int)<size then M else M+1:=by
 obtain⟨h1,h2,h3,h4⟩:=qDX l;have h0:=h.lo M g;have e:(qDc l).1=M:=by
  grind
 have w:=h4 h.lo;rw[e,<-u]at w;have z:=h.cnt M g;grind[qDm]
theorem furth_lo(l:List Int)(size:Int):0<=qDm l size:=by
 obtain⟨h1,h2,h3,h4⟩:=qDX l;grind[qDm]
theorem Pl0.snoc{l:List Int}{size b:Int}(h:Pl0 l size)(h1:0<=b)(h2:((l++[b]).count b:Int)<=size):Pl0 (l++[b]) size:=by
 refine⟨λx g=>?_,λx g=>?_⟩
 ·rcases xh.1 g with g|g;·exact h.lo x g
  simp_all
 ·by_cases e:x=b;·rw[e];exact h2
  ·rcases xh.1 g with g|g
   ·have:=h.cnt x g;grind
   simp_all
theorem furth_pl0{l:List Int}{size:Int}(h:Pl0 l size)(g:1<=size):Pl0 (l++[qDm l size]) size:=by
 obtain⟨h1,h2,h3,h4⟩:=qDX l;have h4:=h4 h.lo;refine h.snoc (furth_lo l size) ?_;rw[uC,show[qDm l size].count (qDm l size)=1 by simp];unfold qDm;by_cases c:(qDc l).1<0∨((qDc l).2:Int)=size;·rw[if_pos c,List.count_eq_zero_of_not_mem λf=>by grind];omega
 ·rw[if_neg c,not_or]at*
  have hm:=h3.resolve_left (by omega);have:=h.cnt _ hm;omega
def Low(l:List Int):Prop:=∀b∈l,b<(l.length:Int)
end Go.Proofs
namespace Go.Proofs
open Go Go.Sx
attribute [local irreducible] Go.Sx.Tri
theorem CaAt.sub{V0 V:Mem}{p k n:Nat}{c:List Int}(h:CaAt p k c n V0 V):V0.sub V:=by
 obtain⟨mb,S,B,N,P,L,f,h,-⟩:=h;exact h.sub
section
variable{V0 V:Mem}{p k n:Nat}{c xs:List Int}{l:Sl}{m:Int}
theorem qBJ{i:Nat}{x:Int}(h:xs[i]?=some x):xs.take (i+1)=xs.take i++[x]:=by rw[we,h];rfl
theorem touchStep{i:Nat}(h:CaAt p k (tchL k c (xs.take i)) (n+qJQ k c (xs.take i)) V0 V)(f:1<=k/\k<=1000){x:Int}(g:xs[i]?=some x)(u:0<=x/\x<=1048576)(w:n+xs.length<2147483648):
  Tri xD 63 #[pv p,.int .i64 x] V λe V'=>(∃b:Bool,e=.returned (.tuple #[.bool b,.int .i64 0]))/\CaAt p k (tchL k c (xs.take (i+1))) (n+qJQ k c (xs.take (i+1))) V0 V':=by
 have h1:=qLl k (xs.take i) c;have z:=(yw.1 g).1;rw[uE]at h1;refine Tri.mono (c63 h f u (by omega)) ?_;rintro _ V' ⟨rfl,h2⟩;rw[qBJ g,tchL_snoc,qJc,<-Nat.add_assoc];exact⟨⟨_,rfl⟩,h2⟩
theorem c54(h:CaAt p k c n V0 V)(j:1<=k/\k<=1000)(r:qAc V0 l 1 (xs.map qAf))(o:∀x∈xs,0<=x/\x<=1048576)(a:n+xs.length<2147483648):
  Tri xD 54 #[pv p,l.v] V λe V'=>e=.returned (.int .i64 (qJQ k c xs))/\CaAt p k (tchL k c xs) (n+qJQ k c xs) V0 V':=by
 refine x54 ?_;refine(c90 h).call ⟨_,rfl,?_⟩;refine qJe xs.length (λi V1=>CaAt p k (tchL k c (xs.take i)) (n+qJQ k c (xs.take i)) V0 V1) h ?_;intro i V1 J Q h1 H;have g:=r.sub h1.sub;refine⟨λf=>?_,λw=>?_⟩
 ·obtain⟨x,z,G,-,y,Z,Y,u⟩:=g.get f;refine⟨Z,Y,f,_,u,Tri.mono (touchStep h1 j G (o x z) a) ?_⟩;rintro _ V2 ⟨⟨b,rfl⟩,h2⟩;exact⟨_,_,rfl,g.succ f,H y _ h2⟩
 ·have W:=(g.done w).2;rw[wY W]at h1;have h2:=qLl k xs c;refine(c90 h1).call ⟨_,rfl,⟨by omega,by omega⟩,?_,h1⟩;grind
end
section
variable{V:Mem}{xs:List Int}{l:Sl}{size:Int}
theorem c77(u:qAc V l 1 (xs.map qAf))(a:xs≠[]):∃M,M∈xs/\(∀x∈xs,x<=M)/\PP 77 [l.v] V (.int .i64 M):=by
 have W:=u.n_eq;have g:=uF.2 a;obtain⟨M,Q,w⟩:∃M,M∈xs/\∀x∈xs,x<=M:=by
  clear u W g;induction xs using qKR with
  |h0=>simp_all
  |h ys y P=>
   by_cases e:ys=[];·simp_all
   ·obtain⟨M,h1,h2⟩:=P e;by_cases c:M<y
    ·refine⟨y,by simp,λx H=>?_⟩;grind
    ·refine⟨M,by simp[h1],λx H=>?_⟩;grind
 refine⟨M,Q,w,x77 ?_⟩;refine⟨λh=>absurd (show(l.n:Int)<1 from h) (by omega),λ_=>?_⟩;obtain⟨p1,A,p3,I⟩:=qCD u (yv g);refine⟨p1,A,p3,_,I,λn ys V'=>∃(i:Nat)(m:Int),ys=[.int .i64 m,.int .i64 i]/\1<=i/\i<=xs.length/\n=xs.length-i/\V'=V/\m∈xs/\∀j x,j<i->xs[j]?=some x->x<=m,xs.length-1,⟨1,_,rfl,yU _,g,rfl,rfl,List.getElem_mem g,λj x L H=>?_⟩,?_⟩;·simp_all
 rintro n V' Z E ⟨i,m,z,h1,h2,rfl,rfl,hm,Y⟩ J X;simp only[yD,zl,true_and,and_true]at z;obtain⟨rfl,rfl⟩:=z;refine⟨λf=>?_,λr=>?_⟩
 ·obtain⟨y,B,K,-,G,C,D,o⟩:=u.get f;refine⟨C,D,f,_,o,GenK.max2 (n1:=Z) (n2:=y) rfl rfl ⟨_,rfl,u.succ f,X (xs.length-(i+1)) _ _ (by omega) ⟨i+1,_,rfl,by omega,G,rfl,rfl,?_,λj x L H=>?_⟩⟩⟩;·grind
  grind
 ·have r:¬(i:Int)<(l.n:Int):=r;have e:Z=M:=by
   grind[xk,yw]
  simp_all
theorem qEb{i:Nat}{x y:Int}(h:xs[i]?=some x):(xs.take (i+1)).count y=(xs.take i).count y+if x=y then 1 else 0:=by
 rw[qBJ h,uC];grind
theorem c41(f:qAc V l 1 (xs.map qAf))(h:Pl0 xs size)(H:∀b∈xs,b<=1048576):PP 41 [l.v,.int .i64 size] V (.int .i64 (qDm xs size)):=by
 refine x41 ?_;have G:=f.n_eq;have X:=f.cap;have B:=f.fit;refine⟨λh0=>?_,λh0=>?_⟩
 ·have:xs=[]:=List.length_eq_zero_iff.1 (by omega);subst this;exact⟨rfl,rfl⟩
 ·have r:xs≠[]:=λe=>h0 (by rw[G,e];rfl);obtain⟨M,o,u,Z⟩:=c77 f r;have h1:=h.lo M o;have h2:=H M o;refine Z.call ⟨_,rfl,qFH (mk:=.int .i64) (b0:=0) qDY xs.length (λi b V1=>V1=V/\b=(((xs.take i).count M:Nat):Int)) ⟨rfl,rfl⟩ ?_⟩;rintro i b V1 J C ⟨rfl,rfl⟩ a;refine⟨λg=>?_,λw=>?_⟩
  ·obtain⟨y,Y,W,-,z,Q,P,j⟩:=f.get g;have e:=qEb (y:=M) W;have A:(xs.take i).count M<=i:=uG uH (by simp_all);refine⟨Q,P,g,_,j,λI=>⟨⟨by omega,by omega⟩,f.succ g,a z _ _ ⟨rfl,?_⟩⟩,λI=>⟨f.succ g,a z _ _ ⟨rfl,?_⟩⟩⟩;·simp_all
   simp_all
  ·have L:=(f.done w).2;rw[wY L];have e:=furth_eq h o u rfl;refine⟨λg=>?_,λw=>⟨⟨by omega,by omega⟩,?_⟩⟩;·simp_all
   simp_all
open Classical in
noncomputable def plB(xs:List Int)(size:Int):Bool:=decide (xs.length<=4096/\Plc xs size)
theorem qFn:plB xs size=true↔xs.length<=4096/\Plc xs size:=by grind[plB]
theorem plB_false(h:¬(xs.length<=4096/\Plc xs size)):plB xs size=false:=by grind[plB]
theorem plc_next{i:Nat}{x:Int}(h:Plc (xs.take i) size)(g:xs[i]?=some x)(h1:0<=x/\x<4096)(h2:(((xs.take (i+1)).count x:Nat):Int)<=size):Plc (xs.take (i+1)) size:=by
 rw[qBJ g]at h2⊢;exact h.snoc h1 h2
theorem qHo{i:Nat}{x:Int}(g:xs[i]?=some x)(h:¬(0<=x/\x<4096)∨size<(((xs.take (i+1)).count x:Nat):Int)):¬Plc xs size:=λP=>by
 have hm:=xv g;have a:=P.rng x hm;have b:=P.cnt x hm;grind[List.take_sublist]
theorem c40{n:Int}(M:qAc V l 1 (xs.map qAf)):PP 40 [l.v,.int .i64 size,.int .i64 n] V (.bool (decide ((xs.length:Int)=n)&&plB xs size)):=by
 obtain⟨R,a⟩:∃R:Ending->Mem->Prop,R=λe V'=>e=.returned (.bool (decide ((xs.length:Int)=n)&&plB xs size))/\V.sub V':=⟨_,rfl⟩;refine Pur.mk ?_;rw[<-a];refine x40 ?_;have S:=M.n_eq;have no:∀{V'},V.sub V'->¬(xs.length<=4096/\Plc xs size)->R (.returned (.bool false)) V':=λH h=>by
  rw[a,plB_false h,Bool.and_false];exact⟨rfl,H⟩
 refine⟨λz=>⟨λZ=>?_,λZ=>?_⟩,λz=>?_⟩;·grind[Int,Mem.sub.refl]
 ·have z:(l.n:Int)=n:=z;have Z:¬4096<n:=Z;refine GenK.makeMap λmb j=>⟨some mb,rfl,?_⟩;have L:=Mem.sub_new j (.map #[] 0);refine qAI (mk:=.bool) (b0:=false) xs.length (λi V1=>V.sub V1/\Plc (xs.take i) size/\qGh (xe .i64) V1 mb λx=>if x∈xs.take i then some (.int .i64 (((xs.take i).count x:Nat):Int))else none) ⟨L,by rw[vK];exact Plc.nil,(qGh.made V mb).congr λx=>by simp⟩ ?_;rintro i b V1 J T ⟨H,Y,hm⟩ X;have u:=M.sub H;refine⟨λw=>?_,λW=>?_⟩
  ·obtain⟨x,B,G,-,Q,C,D,r⟩:=u.get w;have e:=qEb (y:=x) G;rw[if_pos rfl]at e;have E:(xs.take i).count x<=i:=uG uH (by simp_all);have o:((if x∈xs.take i then some (xe .i64 (((xs.take i).count x:Nat):Int))else none:Option Value).getD (.int .i64 0))=.int .i64 (((xs.take i).count x:Nat):Int):=by
    grind
   refine⟨C,D,w,_,r,qBB.key1 (k:=x) (qGK wo) vc qFM hm ⟨_,o,⟨by omega,by omega⟩,qDM.key (k:=x) (qGK wo) vc hm λA I=>?_⟩⟩;have g:V.sub (V1.set mb A):=H.set j A;have f:qGh (xe .i64) (V1.set mb A) mb λy=>if y∈xs.take (i+1)then some (.int .i64 (((xs.take (i+1)).count y:Nat):Int))else none:=I.congr λy=>by
    have U:=qEb (y:=y) G;grind
   refine⟨λh=>no g λP=>?_,λh1=>⟨λh=>no g λP=>?_,λh2=>?_⟩⟩;·grind[qHo]
   ·grind[qHo]
   ·have h1:¬x<0:=h1;have h2:¬4096<=x:=h2;refine qBB.key1 (k:=x) (qGK wo) vc qFM f ⟨(((xs.take (i+1)).count x:Nat):Int),by grind,λh=>no g λP=>qHo G (.inr h) P.2,λh3=>?_⟩;exact⟨u.succ w,X Q _ _ ⟨g,plc_next Y G (by omega) (Int.not_lt.1 h3),f⟩⟩
  ·have K:=(u.done W).2;rw[wY K]at Y;rw[a,qFn.2 ⟨by omega,Y⟩,decide_eq_true (by omega)];grind
 ·have z:¬(l.n:Int)=n:=z;rw[a,decide_eq_false (by omega)];exact⟨rfl,Mem.sub.refl _⟩
end
theorem oneG{α:Type}{t e sz:Nat}{row:α->List Value}(A:AppP t e sz row){V0 V:Mem}{b:Nat}{s:Sl}{xs:List α}{x:α}(o:Sx.Own V0 V e sz s (xs.flatMap row))(h:V b=none)(g:xs.length+1<=2147483648){ty:Nat}{y z:Operand}{vals:Operand->Value}(f:vals y=.slice s.p s.n s.c)(w:vals z=.slice (sa b) 1 1)(j:∀x,(row x).length=sz){Q:Value->Mem->Prop}(r:∀s' V',Sx.Own V0 V' e sz s' ((xs++[x]).flatMap row)->Q (.slice s'.p s'.n s'.c) V'):
  GenK xD (.call {callee:=.builtin .append,args:=#[y,z],argTypes:=#[t,t]}) ty vals (V.set b (.cells (row x).toArray e (0,0))) Q:=
 A (s:=s) (u:=⟨some ⟨b,0,none⟩,1,1⟩) (xs:=xs) (ys:=[x]) f w (o.new h _) (qAc.cells (xs:=[x]) (row:=row) mss (by simp) j (by simp) (by simp)) (by simpa using g) r
section
variable{V:Mem}{xs:List Int}{l:Sl}{size:Int}
theorem c16:PP 16 [.int .i64 size] V (.bool (decide (1<=size/\size<=64))):=by
 refine x16 ?_;refine⟨λh=>?_,λh=>?_⟩;·simp_all
 grind
theorem c43(j:qAc V l 1 (xs.map qAf))(h:∀b∈xs,0<=b/\b<=1048576)(P:xs.length<=2147483648):PP 43 [l.v,.int .i64 size] V (.int .i64 (qDm xs size)):=by
 refine x43 ?_;refine loop3b (mk:=.int .i64) (mc:=.int .i64) (b0:=-1) (c0:=0) qDY qDY xs.length (λi a b V1=>V1=V/\a=(qDc (xs.take i)).1/\b=((qDc (xs.take i)).2:Int)) ⟨rfl,rfl,rfl⟩ ?_;rintro i a b V1 J A ⟨rfl,rfl,rfl⟩ r;obtain⟨h1,h2,h3,h4⟩:=qDX (xs.take i);have h4:=h4 λx o=>(h x (vu o)).1;have I:(qDc (xs.take i)).2<=i:=by
  grind[uG,uH,uE]
 have Z:(qDc (xs.take i)).1<=1048576:=by
  grind
 refine⟨λf=>?_,λH=>?_⟩
 ·obtain⟨x,Y,o,-,u,z,y,g⟩:=j.get f;have e:qDc (xs.take (i+1))=lastS (qDc (xs.take i)) x:=by rw[qBJ o,qKs]
  have w:=j.succ f;refine⟨z,y,f,_,g,λc=>⟨z,y,f,_,g,z,y,f,_,g,λ_=>⟨⟨by decide,by decide⟩,w,r u _ _ _ ⟨rfl,?_,?_⟩⟩,λW=>absurd rfl W⟩,λc=>⟨z,y,f,_,g,λG=>⟨⟨by omega,by omega⟩,w,r u _ _ _ ⟨rfl,?_,?_⟩⟩,λG=>⟨w,r u _ _ _ ⟨rfl,?_,?_⟩⟩⟩⟩;all_goals
   rw[e];unfold lastS
  ·simp_all
  ·simp_all
  ·simp_all
  ·simp_all
  ·grind
  grind
 ·have Q:=(j.done H).2;rw[wY Q]at Z h2⊢;unfold qDm;refine⟨λc=>⟨⟨by omega,by omega⟩,?_⟩,λc=>⟨λG=>⟨⟨by omega,by omega⟩,?_⟩,λG=>?_⟩⟩;·simp_all
  ·simp_all
  grind
theorem c25(Y:qAc V l 1 (xs.map qAf)):PP 25 [l.v,.int .i64 size] V (.bool (plB xs size)):=by
 obtain⟨R,W⟩:∃R:Ending->Mem->Prop,R=λe V'=>e=.returned (.bool (plB xs size))/\V.sub V':=⟨_,rfl⟩;refine Pur.mk ?_;rw[<-W];refine x25 ?_;have hn:=Y.n_eq;have no:∀{V'},V.sub V'->¬(xs.length<=4096/\Plc xs size)->R (.returned (.bool false)) V':=λhs h=>by
  rw[W,plB_false h];exact⟨rfl,hs⟩
 refine⟨λQ=>no (Mem.sub.refl _) λh=>?_,λQ=>?_⟩;·omega
 have Q:¬4096<(l.n:Int):=Q;refine mk31 (n:=4096) rfl rfl (by decide) λg A=>⟨⟨some ⟨g,0,none⟩,4096,4096⟩,rfl,?_⟩;have I:=qGB A (n:=4096) (by decide);obtain⟨V1,M⟩:∃V1,V1=V.set g (.cells (madeCells ((xe .i64 0).cells) (4096*1)) 3 (0,0)):=⟨_,rfl⟩;rw[<-M]at I⊢;obtain⟨gs,L⟩:∃gs:Sl,gs=⟨some ⟨g,0,none⟩,4096,4096⟩:=⟨_,rfl⟩;rw[<-L]at I⊢;refine qAI (mk:=.bool) (b0:=false) xs.length (λi V2=>Plc (xs.take i) size/\∃C:List Int,Sx.Own V V2 3 1 gs (C.flatMap qAf)/\C.length=4096/\∀j:Nat,j<4096->C[j]?=some (((xs.take i).count (j:Int):Nat):Int)) ⟨by rw[vK];exact Plc.nil,_,I,uJ,λj hj=>by grind⟩ ?_;rintro i b V2 J hi ⟨X,C,H,B,D⟩ hJ;have r:=Y.sub H.sub;refine⟨λf=>?_,λE=>?_⟩
 ·obtain⟨x,hxm,o,-,K,G,Z,u⟩:=r.get f;refine⟨G,Z,f,_,u,λh1=>no H.sub λP=>qHo o (.inl (by omega)) P.2,λh1=>⟨G,Z,f,_,u,λh2=>no H.sub λP=>qHo o (.inl (by omega)) P.2,λh2=>?_⟩⟩;have h1:¬x<0:=h1;have h2:¬4096<=x:=h2;obtain⟨q,rfl⟩:∃q:Nat,x=(q:Int):=⟨x.toNat,by omega⟩;have U:q<4096:=by omega
  obtain⟨S,T,c3,c4⟩:=qCD (H.rows (λ_=>rfl) (by decide)) (D q U);have e:=qEb (y:=(q:Int)) o;rw[if_pos rfl]at e;have hcl:(xs.take i).count (q:Int)<=i:=uG uH (by grind);refine⟨G,Z,f,_,u,G,Z,f,_,u,S,T,c3,_,c4,⟨by omega,by omega⟩,S,T,c3,?_⟩;show StT (qAa gs.p (q*1)) 0 _ _ _;rw[vq];refine Own.store H (i:=q) (by rw[qFv];omega) λV3 w _=>?_;rw[qFu]at w;have z:∀j:Nat,j<4096->(C.set q ((((xs.take i).count (q:Int):Nat):Int)+1))[j]?=some (((xs.take (i+1)).count (j:Int):Nat):Int):=λj hj=>by
   have ej:=qEb (y:=(j:Int)) o;by_cases c:q=j
   ·subst c;rw[vy (by omega),e];rfl
   ·rw[if_neg (by omega)]at ej;grind
  obtain⟨-,-,-,a⟩:=qCD (Y.sub w.sub) o;obtain⟨-,-,-,c5⟩:=qCD (w.rows (λ_=>rfl) (by decide)) (z q U);refine⟨G,Z,f,_,a,S,T,c3,_,c5,λh=>no w.sub λP=>qHo o (.inr h) P.2,λh3=>⟨r.succ f,hJ K _ _ ⟨plc_next X o (by omega) (Int.not_lt.1 h3),_,w,by simp[B],z⟩⟩⟩
 ·have hd:=(r.done E).2;rw[wY hd]at X;rw[W,qFn.2 ⟨by omega,X⟩];exact⟨rfl,H.sub⟩
end
end Go.Proofs
namespace Go.Proofs
open Go Go.Sx
def qHZ(most:Nat)(but l:List Int)(y:Int):List Int:=if l.length<most/\y∉l/\y∉but then l++[y]else l
def bfsP(d:Ds)(m:Mm)(most:Nat)(but:List Int):Nat->List Int->Nat->List Int
 |0,l,_=>l
 |f+1,l,i=>match l[i]? with|some x=>bfsP d m most but f ((qAQ d m x).foldl (qHZ most but) l) (i+1)|none=>l
def qEi(d:Ds)(m:Mm)(l:List Int)(most:Nat)(but:List Int):List Int:=bfsP d m most but (m.nodes.length+1) l 0
def qIQ(l:List Int)(n:Nat):List Int:=l++((zB n).map λi:Nat=>(i:Int)+1).filter λx=>decide (x∉l)
structure Nds (N:Nat)(l:List Int):Prop where
 nd:l.Nodup
 rng:∀x∈l,1<=x/\x<=(N:Int)
def allN(N:Nat):List Int:=(zB N).map λi:Nat=>(i:Int)+1
theorem allN_len(N:Nat):(allN N).length=N:=by grind[allN]
theorem mem_allN{N:Nat}{x:Int}:x∈allN N↔1<=x/\x<=(N:Int):=by
 unfold allN;rw[List.mem_map];constructor;·grind
 ·intro h;exact⟨(x-1).toNat,List.mem_range.2 (by omega),by omega⟩
theorem allN_nd(N:Nat):(allN N).Nodup:=uK _ (λa b h=>by omega) uN
theorem Nds.nil{N:Nat}:Nds N []:=⟨List.nodup_nil,by simp⟩
theorem Nds.len{N:Nat}{l:List Int}(h:Nds N l):l.length<=N:=by
 have:=nodup_le l (allN N) h.nd λx g=>mem_allN.2 (h.rng x g);rwa [allN_len]at this
theorem Nds.snoc{N:Nat}{l:List Int}(h:Nds N l){y:Int}(u:1<=y/\y<=(N:Int))(f:y∉l):Nds N (l++[y]):=by
 refine⟨?_,λx g=>?_⟩
 ·rw[vt];exact⟨h.nd,by simp,λa w b z e=>f (by simp_all)⟩
 ·rcases xh.1 g with g|g;·exact h.rng x g
  simp_all
theorem Nds.add{N most:Nat}{but l:List Int}(h:Nds N l){y:Int}(g:1<=y/\y<=(N:Int)):Nds N (qHZ most but l y):=by
 unfold qHZ;split;·rename_i c;exact h.snoc g c.2.1
 ·exact h
theorem add_sub{most:Nat}{but l:List Int}{y x:Int}(h:x∈l):x∈qHZ most but l y:=by
 grind[qHZ]
structure Spr (N most:Nat)(but l0 l:List Int):Prop where
 nds:Nds N l
 sub:∀x∈l0,x∈l
 new:∀x∈l,x∈l0∨x∉but
 cap:l.length<=most∨l.length<=l0.length
theorem Spr.refl{N most:Nat}{but l:List Int}(h:Nds N l):Spr N most but l l:=⟨h,λ_ h=>h,λ_ h=>.inl h,.inr (yU _)⟩
theorem Spr.add{N most:Nat}{but l0 l:List Int}(h:Spr N most but l0 l){y:Int}(f:1<=y/\y<=(N:Int)):Spr N most but l0 (qHZ most but l y):=by
 refine⟨h.nds.add f,λx g=>add_sub (h.sub x g),λx g=>?_,?_⟩
 ·unfold qHZ at g;split at g
  ·rename_i c;rcases xh.1 g with g|g;·exact h.new x g
   simp_all
  ·exact h.new x g
 ·unfold qHZ;split;·grind
  ·exact h.cap
theorem Spr.fold{N most:Nat}{but l0:List Int}:∀(ys l:List Int),Spr N most but l0 l->(∀y∈ys,1<=y/\y<=(N:Int))->Spr N most but l0 (ys.foldl (qHZ most but) l)
 |[],_,h,_=>h
 |y::ys,l,h,g=>Spr.fold ys _ (h.add (g y (by simp))) λz f=>g z (by simp[f])
section
variable{d:Ds}{m:Mm}{most:Nat}{but:List Int}
theorem Spr.bfs(hv:qAx d m=true){l0:List Int}:∀(f:Nat)(l:List Int)(i:Nat),Spr m.nodes.length most but l0 l->Spr m.nodes.length most but l0 (bfsP d m most but f l i)
 |0,_,_,h=>h
 |f+1,l,i,h=>by
  unfold bfsP;split;·exact Spr.bfs hv f _ _ (h.fold _ _ ((qKc hv).2 _))
  ·exact h
theorem qKH(hv:qAx d m=true){l:List Int}(h:Nds m.nodes.length l):Spr m.nodes.length most but l (qEi d m l most but):=Spr.bfs hv _ _ _ (Spr.refl h)
end
theorem qKY{N:Nat}{l:List Int}(h:Nds N l):Nds N (qIQ l N)/\∀x,1<=x->x<=(N:Int)->x∈qIQ l N:=by
 have hm:∀x,x∈((zB N).map λi:Nat=>(i:Int)+1).filter (λx=>decide (x∉l))↔(1<=x/\x<=(N:Int))/\x∉l:=λx=>by
  rw[List.mem_filter,decide_eq_true_eq];exact and_congr_left λ_=>mem_allN
 refine⟨⟨?_,λx g=>?_⟩,λx h1 h2=>?_⟩
 ·unfold qIQ;rw[vt];refine⟨h.nd,(allN_nd N).filter _,λa f b u e=>?_⟩;simp_all
 ·rcases xh.1 g with g|g;·exact h.rng x g
  grind
 grind[qIQ,inr]
structure qFh (N:Nat)(O:List Int)(size:Nat)(out:List Int):Prop where
 len:out.length=N
 at_:∀(i:Nat)(n:Int),O[i]?=some n->out[(n-1).toNat]?=some ((i/size:Nat):Int)
theorem qFh.eq{N size:Nat}{O a b:List Int}(h:qFh N O size a)(k:qFh N O size b)(f:∀x,1<=x->x<=(N:Int)->x∈O):a=b:=by
 refine zx λj=>?_;by_cases u:j<N
 ·obtain⟨i,g⟩:=xk.1 (f ((j:Int)+1) (by omega) (by omega));have h1:=h.at_ i _ g;have h2:=k.at_ i _ g;simp_all
 ·rw[uO (by rw[h.len];omega),uO (by rw[k.len];omega)]
theorem plc_of{N size:Nat}{out:List Int}(u:out.length=N)(r:N<=4096)(w:∀b∈out,0<=b/\b<(N:Int))(f:∀b∈out,∃S:List Int,S.length<=size/\∀j:Nat,out[j]?=some b->((j:Int)+1)∈S):Plc out size/\Low out:=by
 refine⟨⟨λb h=>by grind,λb h=>?_⟩,λb h=>by simp_all⟩;obtain⟨S,z,g⟩:=f b h;have e:out.count b=(((zB out.length).filter λj=>decide (out[j]?=some b)).map λj:Nat=>(j:Int)+1).length:=by
  rw[xd];clear g z h f w u;induction out using qKR with
  |h0=>rfl
  |h l x y=>
   rw[uC,y,zw,xi,uQ,uR,zw];grind[List.filter_congr,xa]
 have h1:=nodup_le (((zB out.length).filter λj=>decide (out[j]?=some b)).map λj:Nat=>(j:Int)+1) S (uK _ (λa b h=>by omega) (uN.filter _)) λx o=>by
  grind
 omega
theorem qFh.plc{N size:Nat}{O out:List Int}(h:qFh N O size out)(r:∀x,1<=x->x<=(N:Int)->x∈O)(o:Nds N O)(H:1<=size)(a:N<=4096):Plc out size/\Low out:=by
 have at1:∀(j:Nat)(b:Int),out[j]?=some b->∃i:Nat,O[i]?=some ((j:Int)+1)/\b=((i/size:Nat):Int):=λj b f=>by
  have u:j<N:=by rw[<-h.len];grind
  obtain⟨i,w⟩:=xk.1 (r ((j:Int)+1) (by omega) (by omega));have h1:=h.at_ i _ w;grind
 refine plc_of h.len a (λb f=>?_) λb f=>?_
 ·obtain⟨j,u⟩:=xk.1 f;obtain⟨i,w,rfl⟩:=at1 j b u;have h1:=o.len;have h2:=(yw.1 w).1;have h3:=uT i size;grind
 ·obtain⟨j,u⟩:=xk.1 f;obtain⟨i,w,rfl⟩:=at1 j b u;refine⟨(O.drop (i/size*size)).take size,by grind,λv z=>?_⟩;obtain⟨g,y,e⟩:=at1 v _ z;have e:g/size=i/size:=by omega
  have a1:=Nat.div_add_mod g size;have a2:=Nat.mod_lt g (show 0<size by omega);rw[e,Nat.mul_comm]at a1;refine xk.2 ⟨g-i/size*size,?_⟩;rw[List.getElem?_take,if_pos (by omega),List.getElem?_drop,show i/size*size+(g-i/size*size)=g by omega];exact y
structure CluOf (N:Nat)(size:Nat)(cl:List (List Int))(out:List Int):Prop where
 len:out.length=N
 at_:∀(i:Nat)(c:List Int),cl[i]?=some c->∀n∈c,out[(n-1).toNat]?=some (i:Int)
theorem CluOf.eq{N size:Nat}{cl:List (List Int)}{a b:List Int}(h:CluOf N size cl a)(k:CluOf N size cl b)(u:∀x,1<=x->x<=(N:Int)->∃c∈cl,x∈c):a=b:=by
 refine zx λj=>?_;by_cases z:j<N
 ·obtain⟨c,w,g⟩:=u ((j:Int)+1) (by omega) (by omega);obtain⟨i,f⟩:=xk.1 w;have h1:=h.at_ i _ f _ g;have h2:=k.at_ i _ f _ g;simp_all
 ·rw[uO (by rw[h.len];omega),uO (by rw[k.len];omega)]
theorem CluOf.plc{N size:Nat}{cl:List (List Int)}{out:List Int}(h:CluOf N size cl out)(z:∀x,1<=x->x<=(N:Int)->∃c∈cl,x∈c)(y:∀c∈cl,c.length<=size)(e:cl.length<=N)(r:N<=4096):Plc out size/\Low out:=by
 have at1:∀(j:Nat)(b:Int),out[j]?=some b->∃(i:Nat)(c:List Int),cl[i]?=some c/\((j:Int)+1)∈c/\b=(i:Int):=λj b g=>by
  have f:j<N:=by rw[<-h.len];grind
  obtain⟨c,u,o⟩:=z ((j:Int)+1) (by omega) (by omega);obtain⟨i,w⟩:=xk.1 u;have h1:=h.at_ i _ w _ o;grind
 refine plc_of h.len r (λb g=>?_) λb g=>?_
 ·obtain⟨j,f⟩:=xk.1 g;grind
 ·obtain⟨j,f⟩:=xk.1 g;obtain⟨i,c,w,-,rfl⟩:=at1 j b f;refine⟨c,y c (xv w),λv a=>?_⟩;grind
end Go.Proofs
namespace Go.Proofs
open Go Go.Sx
def cluS(d:Ds)(m:Mm)(size:Nat)(s:List (List Int))(n:Int):List (List Int):=if n∈s.flatten then s else s++[qEi d m [n] size s.flatten]
def cluP(d:Ds)(m:Mm)(size:Nat)(O:List Int):List (List Int):=O.foldl (cluS d m size) []
structure CluI (N size:Nat)(s:List (List Int)):Prop where
 nds:Nds N s.flatten
 all:∀c∈s,c≠[]/\c.length<=size
theorem CluI.len{N size:Nat}{s:List (List Int)}(h:CluI N size s):s.length<=N:=by
 have h1:∀s:List (List Int),(∀c∈s,c≠[])->s.length<=s.flatten.length:=λs=>by
  induction s with
  |nil=>simp_all
  |cons c s f=>
   grind[uF,List.flatten_cons,zw,List.length_cons]
 exact uG (h1 s λc g=>(h.all c g).1) h.nds.len
section
variable{d:Ds}{m:Mm}{size:Nat}
theorem clu_new(hv:qAx d m=true)(u:1<=size){but:List Int}{n:Int}(g:1<=n/\n<=(m.nodes.length:Int))(w:n∉but):Nds m.nodes.length (qEi d m [n] size but)/\n∈qEi d m [n] size but/\(∀x∈qEi d m [n] size but,x∉but)/\(qEi d m [n] size but).length<=size:=by
 have h:=qKH (most:=size) (but:=but) hv (l:=[n]) (Nds.nil.snoc g (by simp));refine⟨h.nds,h.sub n (by simp),λx f=>?_,?_⟩
 ·rcases h.new x f with h|h;·simp_all
  ·exact h
 ·rcases h.cap with h|h;·exact h
  grind
theorem CluI.step(hv:qAx d m=true)(f:1<=size){s:List (List Int)}(h:CluI m.nodes.length size s){n:Int}(u:1<=n/\n<=(m.nodes.length:Int)):CluI m.nodes.length size (cluS d m size s n)/\n∈(cluS d m size s n).flatten/\∀x∈s.flatten,x∈(cluS d m size s n).flatten:=by
 unfold cluS;by_cases c:n∈s.flatten;·simp_all
 ·rw[if_neg c];obtain⟨h1,h2,h3,h4⟩:=clu_new hv f u c;rw[yK,uU];refine⟨⟨?_,λx g=>?_⟩,by simp[h2],λx g=>by simp_all⟩
  ·rw[yK,uU];refine⟨?_,λx g=>?_⟩
   ·rw[vt];exact⟨h.nds.nd,h1.nd,λa z b w e=>h3 b w (by simp_all)⟩
   ·rcases xh.1 g with g|g;·exact h.nds.rng x g
    ·exact h1.rng x g
  ·rcases xh.1 g with g|g;·exact h.all x g
   grind
theorem clu_ok(hv:qAx d m=true)(f:1<=size):∀(O:List Int)(s:List (List Int)),CluI m.nodes.length size s->(∀x∈O,1<=x/\x<=(m.nodes.length:Int))->CluI m.nodes.length size (O.foldl (cluS d m size) s)/\∀x,x∈O∨x∈s.flatten->x∈(O.foldl (cluS d m size) s).flatten
 |[],s,h,_=>⟨h,λx g=>g.resolve_left (by simp)⟩
 |n::O,s,h,u=>by
  obtain⟨h1,h2,h3⟩:=h.step hv f (u n (by simp));obtain⟨w,z⟩:=clu_ok hv f O _ h1 λx g=>u x (by simp[g]);grind
def qDg(d:Ds)(m:Mm):List Int:=qIQ (qBv d m).order m.nodes.length
def firstP(d:Ds)(m:Mm):List Int:=(tgt d.globals m.globals).foldl (qHZ (m.nodes.length+1) []) []
def qJC(d:Ds)(m:Mm):List Int:=qIQ (qEi d m (firstP d m) m.nodes.length []) m.nodes.length
def qDT(d:Ds)(m:Mm)(k:Int):List Int:=if k=1 then qIQ [] m.nodes.length else if k=2 then qDg d m else qJC d m
theorem qHy(hv:qAx d m=true):Nds m.nodes.length (qDg d m)/\∀x,1<=x->x<=(m.nodes.length:Int)->x∈qDg d m:=
 qKY ⟨(qGx hv).dup,(qGx hv).rng⟩
theorem first_spr(hv:qAx d m=true):Spr m.nodes.length (m.nodes.length+1) [] [] (firstP d m):=(Spr.refl Nds.nil).fold _ _ (qKc hv).1
theorem qLf(hv:qAx d m=true)(k:Int):Nds m.nodes.length (qDT d m k)/\∀x,1<=x->x<=(m.nodes.length:Int)->x∈qDT d m k:=by
 unfold qDT;split;·exact qKY Nds.nil
 ·split;·exact qHy hv
  ·exact qKY (qKH hv (first_spr hv).nds).nds
def qBj(d:Ds)(m:Mm)(k:Int)(size:Nat)(out:List Int):Prop:=if k<4 then qFh m.nodes.length (qDT d m k) size out else CluOf m.nodes.length size (cluP d m size (qDg d m)) out
theorem place_eq(hv:qAx d m=true)(f:1<=size){k:Int}{a b:List Int}(h:qBj d m k size a)(g:qBj d m k size b):a=b:=by
 unfold qBj at h g;split at h
 ·rename_i c;rw[if_pos c]at g;exact h.eq g (qLf hv k).2
 ·rename_i c;rw[if_neg c]at g;refine h.eq g λx h1 h2=>?_;obtain⟨-,u⟩:=clu_ok hv f (qDg d m) [] ⟨Nds.nil,by simp⟩ (qHy hv).1.rng;have:=u x (.inl ((qHy hv).2 x h1 h2));obtain⟨c,h1,h2⟩:=uV.1 this;exact⟨c,h1,h2⟩
theorem place_plc(hv:qAx d m=true)(g:1<=size){k:Int}{a:List Int}(h:qBj d m k size a):Plc a size/\Low a/\a.length=m.nodes.length:=by
 have f:=(qAl hv).2.1;unfold qBj at h;split at h
 ·obtain⟨h1,h2⟩:=qLf hv k;exact⟨(h.plc h2 h1 g f).1,(h.plc h2 h1 g f).2,h.len⟩
 ·obtain⟨u,w⟩:=clu_ok hv g (qDg d m) [] ⟨Nds.nil,by simp⟩ (qHy hv).1.rng;have:=h.plc (λx h1 h2=>uV.1 (w x (.inl ((qHy hv).2 x h1 h2)))) (λc z=>(u.all c z).2) u.len f;exact⟨this.1,this.2,h.len⟩
end
end Go.Proofs
namespace Go.Proofs
open Go Go.Sx
attribute [local irreducible] Go.Sx.Tri
section
variable{V:Mem}{d:Ds}{m:Mm}
def TgtP(V:Mem)(xs:List Int):Ending->Mem->Prop:=λe V'=>∃s:Sl,e=.returned s.v/\Sx.Own V V' 3 1 s (xs.flatMap qAf)
theorem tgt_len(fs:List Fld)(vs:List Int)(i:Nat):(tgtI fs vs i).length<=fs.length:=by
 grind[tgtI]
theorem ref_pos{fs:List Fld}{vs:List Int}(h:qAh d m fs vs=true){i:Nat}{f:Fld}{v:Int}(u:fs[i]?=some f)(hv:vs[i]?=some v)(g:qBD f.ty=false):qDl (f,v)=decide (0<v):=by
 unfold qDl;rw[g];by_cases c:v=0;·simp[c]
 ·have:=qKi h u hv g c;simp[c];omega
theorem c133{fl Q:Sl}{fs:List Fld}{vs:List Int}(M:qAc V fl 2 (fs.map Fld.row))(hv:qAc V Q 1 (vs.map qAf))(h:qAh d m fs vs=true)(S:fs.length<=4096):Tri xD 133 #[fl.v,Q.v] V (TgtP V (tgt fs vs)):=by
 obtain⟨R,P⟩:∃R,R=TgtP V (tgt fs vs):=⟨_,rfl⟩;rw[<-P];refine x133 ?_;have T:=qHh h;refine qFH (mk:=λs:Sl=>.slice s.p s.n s.c) (b0:=⟨none,0,0⟩) qBc fs.length (λi s V1=>Sx.Own V V1 3 1 s ((tgtI fs vs i).flatMap qAf)) (Own.nil (Mem.sub.refl _) _ _) ?_;rintro i s V1 J U o L;have u:=M.sub o.sub;have j:=hv.sub o.sub;refine⟨λw=>?_,λr=>?_⟩
 ·obtain⟨f,-,X,-,a,B,C,y⟩:=u.get w;have H:=yv (l:=vs) (i:=i) (by omega);obtain⟨x,G⟩:∃x,x=vs[i]'(by omega):=⟨_,rfl⟩;rw[<-G]at H;obtain⟨p1,A,p3,I⟩:=qCD j H;have e:=qEK X H;have z:=u.succ w;have g:qDl (f,x)=false->J [.slice s.p s.n s.c,.int .i64 ((i:Int)+1)] V1:=λD=>L a s _ (by simp_all);have pl:qBD f.ty=true->qDl (f,x)=false:=λh=>by grind[qDl]
  refine⟨B,C,w,_,_,y,λc=>⟨z,g (pl (qIo (.inl c)))⟩,λZ=>⟨λc=>⟨z,g (pl (qIo (.inr c)))⟩,λY=>⟨p1,A,p3,_,I,λc=>?_,λc=>⟨z,g ?_⟩⟩⟩⟩;all_goals
   have E:qBD f.ty=false:=by
    have Z:¬f.ty=qAP:=Z;have Y:¬f.ty=qAw:=Y;unfold qBD;simp[Z,Y]
  ·have D:qDl (f,x)=true:=by grind[ref_pos,decide_eq_true]
   refine⟨p1,A,p3,_,I,λb W=>?_⟩;have K:=tgt_len fs vs i;refine oneG (row:=qAf) qDL (x:=x) (s:=s) o W (by omega) rfl rfl (λ_=>rfl) λs' V' o'=>?_;grind
  grind[ref_pos,decide_eq_false]
 ·rw[qKL (u.done r).2]at o;rw[P];exact⟨s,rfl,o⟩
theorem node_at(z:qAx d m=true)(r:Ds.Ok V d)(hm:Mm.Ok V m){n:Int}(Y:1<=n/\n<=(m.nodes.length:Int)):∃(x:Nd)(t:Ty)(j:Nat),m.nodes[(n-1).toNat]?=some x/\x.ty=(j:Int)/\d.types[j]?=some t/\qAs d x.ty=t.fields/\qAQ d m n=tgt t.fields x.f/\qAh d m t.fields x.f=true/\
  ¬m.ns.p=none/\(n-1)<(m.ns.n:Int)/\V.rowp m.ns.p ((n-1).toNat*2) 2=some x.row/\¬d.ts.p=none/\(j:Int)<(d.ts.n:Int)/\V.rowp d.ts.p (j*2) 2=some t.row/\qAc V t.fs 2 (t.fields.map Fld.row)/\qAc V x.sl 1 (x.f.map qAf):=by
 obtain⟨p1,W,p3,Q,P⟩:=qAl z;obtain⟨q,G⟩:∃q:Nat,n-1=(q:Int):=⟨(n-1).toNat,by omega⟩;have o:q<m.nodes.length:=by omega
 have w:=yv o;obtain⟨x,a⟩:∃x,x=m.nodes[q]:=⟨_,rfl⟩;rw[<-a]at w;have h:=xv w;have Z:=of_decide_eq_true (p3 x h);obtain⟨j,J⟩:∃j:Nat,x.ty=(j:Int):=⟨x.ty.toNat,by omega⟩;have e:j<d.types.length:=by omega
 have g:=yv e;obtain⟨t,v⟩:∃t,t=d.types[j]:=⟨_,rfl⟩;rw[<-v]at g;have H:qAs d x.ty=t.fields:=by rw[J];exact qAR g rfl
 have A:=hm.nodes.n_eq;have I:=r.types.n_eq;obtain⟨y,-,u,-,-,a1,a2,a3⟩:=hm.nodes.get (i:=q) (by omega);rw[w]at u;cases u;obtain⟨y,-,u,-,-,b1,b2,b3⟩:=r.types.get (i:=j) (by omega);rw[g]at u;cases u;rw[G,xu];refine⟨x,t,j,w,J,g,H,?_,by grind,a1,by omega,a3,b1,by omega,b3,(r.typesOk t (xv g)).fields,(hm.nodesOk x h).rows⟩;simp_all[qAQ,xu,tgt,qAs]
theorem c134(hv:qAJ d=true)(h:qAx d m=true)(f:Ds.Ok V d)(hm:Mm.Ok V m){n:Int}(u:1<=n/\n<=(m.nodes.length:Int)):Tri xD 134 #[d.v,m.v,.int .i64 n] V (TgtP V (qAQ d m n)):=by
 refine x134 ?_;obtain⟨x,t,j,h1,h2,h3,h4,w,z,a1,a2,a3,b1,b2,b3,y,r⟩:=node_at h f hm u;have g:=(lens_of hv).2 t (xv h3);have a:=hm.nodes.n_eq;have e:=hm.nodes.cap;have H:=hm.nodes.fit;refine⟨⟨by omega,by omega⟩,a1,by omega,a2,_,_,a3,?_⟩;rw[h2,xu];refine⟨b1,by omega,b2,qAe b1,_,_,b3,Tri.mono (c133 y r z (by omega)) ?_⟩;rintro _ V1 ⟨s,rfl,o⟩;rw[w];exact⟨s,rfl,s,rfl,o⟩
end
def qDj(b:Bool):List Value:=[.bool b]
theorem qDZ(l:List Bool):l.flatMap qDj=l.map uW:=by
 induction l with
 |nil=>rfl
 |cons a l h=>rw[List.flatMap_cons,h];rfl
theorem qJr(l:List Bool)(i:Nat)(x:Bool):(l.flatMap qDj).set i (.bool x)=(l.set i x).flatMap qDj:=by rw[qDZ,qDZ,List.map_set]
theorem qJs(l:List Bool):(l.flatMap qDj).length=l.length:=by rw[qDZ,xd]
theorem bool_at{V:Mem}{s:Sl}{xs:List Bool}(h:qAc V s 1 (xs.map qDj)){i:Nat}{x:Bool}(g:xs[i]?=some x):¬s.p=none/\(0:Int)<=(i:Int)/\(i:Int)<(s.n:Int)/\V.rowp s.p (i*1) 1=some [.bool x]:=by
 have u:=h.n_eq;have w:=(yw.1 g).1;obtain⟨y,-,f,-,-,h1,h2,h3⟩:=h.get (i:=i) (by omega);rw[g]at f;cases f;exact⟨h1,h2,by omega,h3⟩
theorem rows_same{V V':Mem}{g n c sz:Nat}{rows:List (List Value)}(h:qAc V ⟨some ⟨g,0,none⟩,n,c⟩ sz rows)(e:V' g=V g):qAc V' ⟨some ⟨g,0,none⟩,n,c⟩ sz rows:=⟨h.len,h.cap,h.fit,h.size,λi r f=>by
 obtain⟨a,h1,h2⟩:=h.at_ i r f;cases h1;refine⟨_,rfl,?_⟩;grind[Addr.add,Mem.row]⟩
section
variable{V0 V:Mem}{d:Ds}{m:Mm}{N:Nat}{xs:List Int}{l:Sl}
theorem madeB(n:Nat):(madeCells (uW false).cells n).toList=(yI n false).map uW:=by
 have h:(uW false).cells=#[uW false]:=by rfl
 rw[h,List.map_replicate];unfold madeCells;refine zx λj=>?_;grind
theorem qIV{g n:Nat}(h:V g=none)(f:n<=2147483648):Sx.Own V (V.set g (.cells (madeCells (uW false).cells (n*1)) 4 (0,0))) 4 1 ⟨some ⟨g,0,none⟩,n,n⟩ ((yI n false).flatMap qDj):=by
 have e:(madeCells (uW false).cells (n*1)).toList=(yI n false).flatMap qDj:=by rw[vq,madeB,qDZ]
 refine⟨Mem.sub_new h _,by rw[qDZ];simp,.inr ⟨g,_,rfl,h,Mem.set_same _ _ _,yU _,by simp only[maxLen];omega,by rw[size_madeCells],?_⟩⟩;grind[wY,qDZ]
theorem mk162{ty:Nat}{x y:Operand}{vals:Operand->Value}{n:Nat}(h:vals x=.int .i64 n)(f:vals y=.int .i64 n)(u:n<=2147483648){q:Value->Mem->Prop}(w:∀g,V g=none->q (.slice (sa g) n n) (V.set g (.cells (madeCells (uW false).cells (n*1)) 4 (0,0)))):GenK xD (.makeSlice 162 x y) ty vals V q:=
 GenK.make (z:=.bool false) (i:=ti 4) Tryz.underlying162 (by kernel_rfl) (by kernel_rfl) (by kernel_rfl) (of_decide_eq_true (by kernel_rfl)) h f u w
def selN(xs:List Int)(j:Nat):List Int:=((zB j).map λi:Nat=>(i:Int)+1).filter λx=>decide (x∉xs)
theorem sel_succ(j:Nat):selN xs (j+1)=selN xs j++if((j:Int)+1)∈xs then[]else[(j:Int)+1]:=by
 grind[selN,uQ,Int]
theorem sel_len(j:Nat):(selN xs j).length<=j:=by
 grind[selN]
theorem rest_sel:qIQ xs N=xs++selN xs N:=rfl
theorem push_blk{W V V1:Mem}{s s':Sl}{ys zs:List Value}(o:Sx.Own W V 3 1 s ys)(h:Sx.Own (V.but s) V1 3 1 s' zs){g:Nat}(f:V g≠none)(u:¬Blk s g):Sx.Own W V1 3 1 s' zs/\V1 g=V g/\¬Blk s' g:=by
 grind[qFT]
theorem c80(C:Sx.Own V0 V 3 1 l (xs.flatMap qAf))(D:Nds N xs)(hN:N<=4096)(W:m.ns.n=N):Tri xD 80 #[m.v,l.v] V λe V'=>∃s:Sl,e=.returned s.v/\Sx.Own V0 V' 3 1 s ((qIQ xs N).flatMap qAf):=by
 obtain⟨R,E⟩:∃R:Ending->Mem->Prop,R=λe V'=>∃s:Sl,e=.returned s.v/\Sx.Own V0 V' 3 1 s ((qIQ xs N).flatMap qAf):=⟨_,rfl⟩;rw[<-E];refine x80 ?_;rw[W];have hxl:=D.len;refine⟨⟨by omega,by omega⟩,mk162 (n:=N+1) rfl rfl (by omega) λg hg=>⟨⟨some ⟨g,0,none⟩,N+1,N+1⟩,rfl,?_⟩⟩;have K:=qIV hg (n:=N+1) (by omega);obtain⟨V1,Q⟩:∃V1,V1=V.set g (.cells (madeCells ((uW false).cells) ((N+1)*1)) 4 (0,0)):=⟨_,rfl⟩;rw[<-Q]at K⊢;have P:=C.rows (row:=qAf) (xs:=xs) (λ_=>rfl) (by decide);refine qJe xs.length (λi V2=>∃F:List Bool,Sx.Own V V2 4 1 ⟨some ⟨g,0,none⟩,N+1,N+1⟩ (F.flatMap qDj)/\F.length=N+1/\∀j:Nat,j<N+1->F[j]?=some (decide ((j:Int)∈xs.take i))) ⟨_,K,uJ,λj S=>by simp_all⟩ ?_;rintro i V2 J hi ⟨F,r,A,o⟩ Z;have z:=P.sub r.sub;refine⟨λf=>?_,λu=>?_⟩
 ·obtain⟨x,I,M,-,L,hp,hz,a⟩:=z.get f;have hr:=D.rng x I;obtain⟨q,rfl⟩:∃q:Nat,x=(q:Int):=⟨x.toNat,by omega⟩;refine⟨hp,hz,f,_,a,nn,by omega,by grind,?_⟩;show StT (qAa (sa g) (q*1)) 0 _ _ _;rw[vq];refine Own.store (s:=⟨some ⟨g,0,none⟩,N+1,N+1⟩) r (i:=q) (by rw[qJs];omega) λY w _=>?_;rw[qJr]at w;refine⟨z.succ f,Z L _ ⟨_,w,by simp[A],λj S=>?_⟩⟩;rw[qBJ M];grind
 ·have hd:=(z.done u).2;rw[wY hd]at o;have X:=r.rows (row:=qDj) (xs:=F) (λ_=>rfl) (by decide);have hgV:V2 g≠none:=by
   obtain⟨cur,hc⟩:=Own.some (c:=g) r ⟨by simp,rfl⟩;rw[hc];simp
  have B:¬Blk l g:=λT=>by
   grind[Own.some]
  refine⟨λn ys Y=>∃(j:Nat)(s:Sl),ys=[s.v,.int .i64 ((j:Int)+1)]/\j<=N/\n=N-j/\Sx.Own V0 Y 3 1 s ((xs++selN xs j).flatMap qAf)/\Y g=V2 g/\¬Blk s g,N,⟨0,l,rfl,uX _,rfl,by rw[show selN xs 0=[]from rfl,List.append_nil];exact Own.growS C r.sub,rfl,B⟩,?_⟩;rintro n Y U v6 ⟨j,s,H,S,rfl,os,y,G⟩ J Z;simp only[yD,zl,true_and,and_true]at H;obtain⟨h5,rfl⟩:=H;cases qBc _ _ h5;have w:=rows_same X y;refine⟨λf=>?_,λu=>?_⟩
  ·have f:(j:Int)+1<((N+1:Nat):Int):=f;obtain⟨b1,b2,b3,b4⟩:=bool_at w (o (j+1) (by omega));have e:=sel_succ (xs:=xs) j;have hsl:=sel_len (xs:=xs) j;refine⟨b1,by omega,f,_,b4,λc=>⟨⟨by omega,by omega⟩,Z (N-(j+1)) _ _ (by omega) ⟨j+1,U,rfl,by omega,rfl,?_,y,G⟩⟩,λc b T=>?_⟩;·simp_all
   ·have c:¬((j:Int)+1)∈xs:=λh=>c (decide_eq_true h);refine oneG (row:=qAf) qDL (x:=(j:Int)+1) (s:=U) os.but T (by grind) rfl rfl (λ_=>rfl) λs' V' o'=>?_;obtain⟨k1,k2,k3⟩:=push_blk os o' (g:=g) (by grind) G;refine⟨s',rfl,⟨by omega,by omega⟩,Z (N-(j+1)) _ _ (by omega) ⟨j+1,s',rfl,by omega,rfl,?_,k2.trans y,k3⟩⟩;simp_all
  ·have u:¬(j:Int)+1<((N+1:Nat):Int):=u;obtain rfl:j=N:=by omega
   rw[E,rest_sel];grind
end
theorem ntBool:∀(g r:Array Value),Obj.cells g 3 (0,0)≠Obj.cells r 4 (0,0):=λ_ _ h=>by
 simp_all
structure Two (V0 V:Mem)(l gs:Sl)(xs:List Int)(F:List Bool):Prop where
 ol:Sx.Own V0 V 3 1 l (xs.flatMap qAf)
 og:Sx.Own V0 V 4 1 gs (F.flatMap qDj)
structure Thr (V0 V:Mem)(l gs q:Sl)(xs:List Int)(F:List Bool)(ys:List Int):Prop where
 two:Two V0 V l gs xs F
 oq:Sx.Own (λ_=>none) V 3 1 q (ys.flatMap qAf)
 ql:∀c,Blk q c->¬Blk l c
def qEg(N:Nat)(F:List Bool)(but xs:List Int):Prop:=F.length=N+1/\∀j:Nat,j<N+1->F[j]?=some (decide ((j:Int)∈but∨(j:Int)∈xs))
section
variable{V0 V V':Mem}{l gs q:Sl}{xs ys but:List Int}{F:List Bool}{N:Nat}
theorem Two.apart(h:Two V0 V l gs xs F){c:Nat}(g:Blk gs c):¬Blk l c:=λf=>by
 obtain⟨u,h1⟩:=Own.some h.og g;obtain⟨w,h2⟩:=Own.some h.ol f;simp_all
theorem Two.grow(h:Two V0 V l gs xs F)(g:V.sub V'):Two V0 V' l gs xs F:=⟨Own.growS h.ol g,Own.growS h.og g⟩
theorem Thr.apart(h:Thr V0 V l gs q xs F ys){c:Nat}(g:Blk q c):¬Blk gs c:=λf=>by
 obtain⟨u,h1⟩:=Own.some h.two.og f;obtain⟨w,h2⟩:=Own.some h.oq g;simp_all
theorem Thr.mk'(h:Two V0 V l gs xs F)(g:V.sub V')(o:Sx.Own V V' 3 1 q (ys.flatMap qAf)):Thr V0 V' l gs q xs F ys:=⟨h.grow g,o.narrow (λc x h=>by cases h),λc f u=>by
 have h0:=Own.none0 o f;obtain⟨w,h2⟩:=Own.some h.ol u;simp_all⟩
theorem Thr.push(h:Thr V0 V l gs q xs F ys){z:Sl}{x:Int}(o:Sx.Own (V.but l) V' 3 1 z ((xs++[x]).flatMap qAf)):Thr V0 V' z gs q (xs++[x]) F ys:=by
 obtain⟨h1,h2,h3⟩:=qFT h.two.ol o;refine⟨⟨h1,Own.moveB h.two.og h1.sub λg u w f=>?_⟩,Own.moveB h.oq (λc x h=>by cases h) λg u w f=>?_,λc f r=>?_⟩;·rw[h2 g (h.two.apart w) (by rw[f];simp)];exact f
 ·rw[h2 g (h.ql g w) (by rw[f];simp)];exact f
 ·rcases h3 c r with y|y;·exact h.ql c f y
  ·obtain⟨u,j⟩:=Own.some h.oq f;simp_all
theorem Thr.mark(h:Thr V0 V l gs q xs F ys){j:Nat}(y:j<F.length){Q:Mem->Prop}(r:∀V',Thr V0 V' l gs q xs (F.set j true) ys->Q V'):StT (qAa gs.p (j*1)) 0 [.bool true] V Q:=by
 rw[vq];refine Own.store h.two.og (i:=j) (by rw[qJs];exact y) λV' o z=>r V' ?_;rw[qJr]at o;exact⟨⟨Own.moveB h.two.ol o.sub λg f u w=>by rw[z g λa=>h.two.apart a u];exact w,o⟩,Own.moveB h.oq (λc x h=>by cases h) λg f u w=>by rw[z g (h.apart u)];exact w,h.ql⟩
theorem qEg.mark(h:qEg N F but xs){j:Nat}(g:j<N+1):qEg N (F.set j true) but (xs++[(j:Int)]):=by
 refine⟨by rw[List.length_set];exact h.1,λi f=>?_⟩;by_cases c:j=i
 ·subst c;rw[vy (by rw[h.1];exact g)];simp
 ·rw[vZ c,h.2 i f];grind
theorem addStep{d:Ds}{most:Nat}{y:Int}(T:Thr V0 V l gs q xs F ys)(f:qEg N F but xs)(u:Nds N xs)(w:N<=4096)(h:∃g,gs=⟨some ⟨g,0,none⟩,N+1,N+1⟩)(z:1<=y/\y<=(N:Int)){J:Sl->List Int->List Bool->Mem->Prop}:
  (¬gs.p=none/\0<=y/\y<(gs.n:Int))/\V.rowp gs.p (y.toNat*1) 1=some [.bool (decide (y∈but∨y∈xs))]:=by
 obtain⟨g,rfl⟩:=h;obtain⟨j,rfl⟩:∃j:Nat,y=(j:Int):=⟨y.toNat,by omega⟩;obtain⟨b1,b2,b3,r⟩:=bool_at (T.two.og.rows (λ_=>rfl) (by decide)) (f.2 j (by omega));simp_all
end
section
variable{V0 V:Mem}{d:Ds}{m:Mm}{l gs:Sl}{xs but:List Int}{F:List Bool}{most:Nat}
theorem c83(hv:qAJ d=true)(Z:qAx d m=true)(hd:Ds.Ok V0 d)(hm:Mm.Ok V0 m)(T:Two V0 V l gs xs F)(hF:qEg m.nodes.length F but xs)(hx:Nds m.nodes.length xs)(hgs:∃g,gs=⟨some ⟨g,0,none⟩,m.nodes.length+1,m.nodes.length+1⟩):
  Tri xD 83 #[d.v,m.v,l.v,gs.v,.int .i64 most] V λe V'=>∃s:Sl,e=.returned s.v/\∃u,Two V0 V' s gs (qEi d m xs most but) u/\qEg m.nodes.length u but (qEi d m xs most but):=by
 obtain⟨R,hR⟩:∃R:Ending->Mem->Prop,R=λe V'=>∃s:Sl,e=.returned s.v/\∃u,Two V0 V' s gs (qEi d m xs most but) u/\qEg m.nodes.length u but (qEi d m xs most but):=⟨_,rfl⟩;rw[<-hR];refine x83 ?_;have hN:=(qAl Z).2.1;obtain⟨N,hNd⟩:∃N,N=m.nodes.length:=⟨_,rfl⟩;refine⟨λn ys V1=>∃(i:Nat)(s:Sl)(zs:List Int)(u:List Bool),ys=[s.v,.int .i64 i]/\i<=zs.length/\n=N+1-i/\Two V0 V1 s gs zs u/\qEg m.nodes.length u but zs/\Nds m.nodes.length zs/\bfsP d m most but (N+1-i) zs i=qEi d m xs most but,N+1,⟨0,l,xs,F,rfl,uX _,rfl,T,hF,hx,by rw[hNd];rfl⟩,?_⟩;rintro n V1 Y v14 ⟨i,s,zs,F1,w,hi,rfl,T1,hF1,z,W⟩ J hJ;simp only[yD,zl,true_and,and_true]at w;obtain⟨h5,rfl⟩:=w;cases qBc _ _ h5;have hzl:=z.len;have Q:=T1.ol.rows (row:=qAf) (xs:=zs) (λ_=>rfl) (by decide);have s1:=T1.ol.sub;refine⟨λP=>?_,λB=>?_⟩
 ·obtain⟨x,hxm,hxi,-,hil,hp,hz,C⟩:=Q.get P;have hxr:=z.rng x hxm;refine⟨hp,hz,P,_,C,Tri.mono (c134 hv Z (hd.sub s1) (hm.sub s1) hxr) ?_⟩;rintro _ V2 ⟨q,rfl,oq⟩;have D:=(qKc Z).2 x;refine⟨q,rfl,?_⟩;have T2:Thr V0 V2 Y gs q zs F1 (qAQ d m x):=Thr.mk' T1 oq.sub oq;refine⟨λn ys V3=>∃(k:Nat)(s:Sl)(f:List Int)(u:List Bool),ys=[s.v,.int .i64 k]/\k<=(qAQ d m x).length/\n=(qAQ d m x).length-k/\f=((qAQ d m x).take k).foldl (qHZ most but) zs/\Thr V0 V3 s gs q f u (qAQ d m x)/\qEg m.nodes.length u but f/\Nds m.nodes.length f,(qAQ d m x).length,⟨0,Y,zs,F1,rfl,uX _,rfl,rfl,T2,hF1,z⟩,?_⟩;rintro n V3 r v18 ⟨k,s3,f,F3,w,hk,rfl,A,X,o,a⟩ J1 E;simp only[yD,zl,true_and,and_true]at w;obtain⟨h5,rfl⟩:=w;cases qBc _ _ h5;have I:=X.oq.rows (row:=qAf) (xs:=qAQ d m x) (λ_=>rfl) (by decide);have husn:=(X.two.ol.rows (row:=qAf) (xs:=f) (λ_=>rfl) (by decide)).n_eq;have hul:=a.len;refine⟨λH=>?_,λK=>?_⟩
  ·obtain⟨y,hym,hyi,-,S,hp3,U,M⟩:=I.get H;have hyr:=D y hym;have L:=I.succ H;have e:((qAQ d m x).take (k+1)).foldl (qHZ most but) zs=qHZ most but f y:=by rw[qBJ hyi,vf,<-A];rfl
   have hz4:Nds m.nodes.length (qHZ most but f y):=a.add hyr;obtain⟨⟨a1,a2,a3⟩,a4⟩:=addStep (d:=d) (most:=most) (J:=λ_ _ _ _=>True) X o a hN hgs hyr;have G:qHZ most but f y=f->J1 [r.v,.int .i64 ((k:Int)+1)] V3:=λh=>E ((qAQ d m x).length-(k+1)) _ _ (by omega) ⟨k+1,r,f,F3,rfl,S,rfl,by rw[e,h],X,o,a⟩;refine⟨hp3,U,H,_,M,λc1=>⟨a1,a2,a3,_,a4,λc2=>⟨L,G ?_⟩,λc2=>⟨a1,a2,a3,?_⟩⟩,λc1=>⟨L,G ?_⟩⟩;·grind[qHZ]
   ·have c1:(r.n:Int)<(most:Int):=c1;have c2:¬(y∈but∨y∈f):=λh=>c2 (decide_eq_true h);rw[not_or]at c2;have ea:qHZ most but f y=f++[y]:=by grind[qHZ]
    obtain⟨j,rfl⟩:∃j:Nat,y=(j:Int):=⟨y.toNat,by omega⟩;refine X.mark (j:=j) (by rw[o.1];omega) λV4 T4 b hb=>?_;refine oneG (row:=qAf) qDL (x:=(j:Int)) (s:=r) T4.two.ol.but hb (by omega) rfl rfl (λ_=>rfl) λs' V5 o'=>?_;exact⟨s',rfl,L,E ((qAQ d m x).length-(k+1)) _ _ (by omega) ⟨k+1,s',f++[(j:Int)],_,rfl,S,rfl,by rw[e,ea],T4.push o',o.mark (by omega),by grind⟩⟩
   grind[qHZ]
  ·have hd3:=(I.done K).2;rw[wY hd3]at A;refine⟨Q.succ P,hJ (N+1-(i+1)) _ _ (by omega) ⟨i+1,r,f,F3,rfl,?_,rfl,X.two,o,a,?_⟩⟩
   ·have hs:=Spr.fold (N:=m.nodes.length) (most:=most) (but:=but) (qAQ d m x) zs (Spr.refl z) D;have h1:=nodup_le zs f z.nd (by rw[A];exact hs.sub);omega
   ·rw[<-W,show N+1-i=(N+1-(i+1))+1 by omega];grind[bfsP]
 ·have B:¬(i:Int)<(Y.n:Int):=B;have hzn:=Q.n_eq;rw[show N+1-i=(N-i)+1 by omega]at W;unfold bfsP at W;grind
end
section
variable{V0 V V':Mem}{l b q:Sl}{xs but ys zs:List Int}
theorem qER(o:Sx.Own V0 V 3 1 q (ys.flatMap qAf)):Sx.Own (λ_=>none) V 3 1 q (ys.flatMap qAf):=o.narrow λc x h=>by cases h
theorem qEQ{q:Sl}{vs:List Value}(o:Sx.Own (λ_=>none) V 3 1 q vs)(h:∀c,Blk q c->V' c=V c):Sx.Own (λ_=>none) V' 3 1 q vs:=Own.moveB o (λc x h=>by cases h) λg f u w=>by simp_all
end
section
variable{V0 V:Mem}{d:Ds}{m:Mm}{l b q:Sl}{xs but ys:List Int}{most:Nat}
theorem c81[Tab V](h:qAx d m=true)(g:Ds.Ok V d)(hm:Mm.Ok V m):Tri xD 81 #[d.v,m.v] V (TgtP V (qDg d m)):=by
 refine x81 ?_;refine Tri.mono (c132 h g hm) ?_;rintro _ V1 ⟨o,rfl,f⟩;have R:=qGx h;refine⟨o,_,rfl,Tri.mono (c80 f ⟨R.dup,R.rng⟩ (qAl h).2.1 hm.nodes.n_eq) ?_⟩;rintro _ V2 ⟨s,rfl,u⟩;exact⟨s,rfl,s,rfl,u⟩
theorem c82(hv:qAJ d=true)(r:qAx d m=true)(hd:Ds.Ok V d)(hm:Mm.Ok V m):Tri xD 82 #[d.v,m.v] V (TgtP V (qJC d m)):=by
 obtain⟨R,hR⟩:∃R,R=TgtP V (qJC d m):=⟨_,rfl⟩;rw[<-hR];refine x82 ?_;obtain⟨p1,hN,p3,p4,p5⟩:=qAl r;have W:=hm.nodes.n_eq;obtain⟨N,o⟩:∃N,N=m.nodes.length:=⟨_,rfl⟩;rw[W,<-o];refine⟨⟨by omega,by omega⟩,mk162 (n:=N+1) rfl rfl (by omega) λg hg=>⟨⟨some ⟨g,0,none⟩,N+1,N+1⟩,rfl,?_⟩⟩;have Q:=qIV hg (n:=N+1) (by omega);obtain⟨V1,E⟩:∃V1,V1=V.set g (.cells (madeCells ((uW false).cells) ((N+1)*1)) 4 (0,0)):=⟨_,rfl⟩;rw[<-E]at Q⊢;have hgl:=(lens_of hv).1;refine Tri.mono (c133 (hd.globals.sub Q.sub) (hm.globals.sub Q.sub) p4 (by omega)) ?_;rintro _ V2 ⟨q,rfl,oq⟩;refine⟨q,rfl,?_⟩;have K:=(qKc r).1;have T0:Thr V V2 ⟨none,0,0⟩ ⟨some ⟨g,0,none⟩,N+1,N+1⟩ q [] (yI (N+1) false) (tgt d.globals m.globals):=Thr.mk' ⟨Own.nil Q.sub _ _,Q⟩ oq.sub oq;refine⟨λn ys V3=>∃(k:Nat)(s:Sl)(u:List Int)(F:List Bool),ys=[s.v,.int .i64 k]/\k<=(tgt d.globals m.globals).length/\n=(tgt d.globals m.globals).length-k/\u=((tgt d.globals m.globals).take k).foldl (qHZ (N+1) []) []/\Thr V V3 s ⟨some ⟨g,0,none⟩,N+1,N+1⟩ q u F (tgt d.globals m.globals)/\qEg N F [] u/\Nds N u,(tgt d.globals m.globals).length,⟨0,_,[],_,rfl,uX _,rfl,rfl,T0,⟨uJ,λj hj=>by simp_all⟩,Nds.nil⟩,?_⟩;rintro n V3 P v13 ⟨k,s3,u,F3,A,hk,rfl,a,H,w,f⟩ J1 I;simp only[yD,zl,true_and,and_true]at A;obtain⟨h5,rfl⟩:=A;cases qBc _ _ h5;have G:=H.oq.rows (row:=qAf) (xs:=tgt d.globals m.globals) (λ_=>rfl) (by decide);have hul:=f.len;refine⟨λz=>?_,λM=>?_⟩
 ·obtain⟨y,S,hyi,-,L,T,X,Z⟩:=G.get z;have Y:=K y S;rw[<-o]at Y;have B:=G.succ z;have e:((tgt d.globals m.globals).take (k+1)).foldl (qHZ (N+1) []) []=qHZ (N+1) [] u y:=by simp_all[qBJ,vf]
  have hz4:Nds N (qHZ (N+1) [] u y):=f.add Y;obtain⟨⟨a1,a2,a3⟩,a4⟩:=addStep (d:=d) (most:=N+1) (J:=λ_ _ _ _=>True) H w f (by omega) ⟨g,rfl⟩ Y;refine⟨T,X,z,_,Z,a1,a2,a3,_,a4,λC=>⟨B,I ((tgt d.globals m.globals).length-(k+1)) _ _ (by omega) ⟨k+1,P,u,F3,rfl,L,rfl,?_,H,w,f⟩⟩,λC=>⟨a1,a2,a3,?_⟩⟩;·grind[qHZ]
  ·have C:¬(y∈[]∨y∈u):=λh=>C (decide_eq_true h);rw[not_or]at C;have ea:qHZ (N+1) [] u y=u++[y]:=by grind[qHZ]
   obtain⟨j,rfl⟩:∃j:Nat,y=(j:Int):=⟨y.toNat,by omega⟩;refine H.mark (j:=j) (by rw[w.1];omega) λV4 D b hb=>?_;refine oneG (row:=qAf) qDL (x:=(j:Int)) (s:=P) D.two.ol.but hb (by omega) rfl rfl (λ_=>rfl) λs' V5 o'=>?_;exact⟨s',rfl,B,I ((tgt d.globals m.globals).length-(k+1)) _ _ (by omega) ⟨k+1,s',u++[(j:Int)],_,rfl,L,rfl,by rw[e,ea],D.push o',w.mark (by omega),by simp_all⟩⟩
 ·have U:=(G.done M).2;rw[wY U,o]at a;have a:u=firstP d m:=a;subst a;rw[o]at H w f⊢;have hsv:=H.two.ol.sub;refine Tri.mono (c83 (most:=m.nodes.length) (but:=[]) hv r hd hm H.two w f ⟨g,rfl⟩) ?_;rintro _ V4 ⟨s4,rfl,F4,D,hF4⟩;refine⟨s4,rfl,Tri.mono (c80 D.ol (qKH r f).nds hN W) ?_⟩;rintro _ V5 ⟨s5,rfl,o5⟩;rw[hR];exact⟨s5,rfl,s5,rfl,o5⟩
end
theorem div_wrap{i s:Nat}(hi:i<=1048576)(h:1<=s):xE .i64 ((i:Int).tdiv (s:Int))=((i/s:Nat):Int):=by
 rw[show(i:Int).tdiv (s:Int)=((i/s:Nat):Int)from(Int.ofNat_tdiv i s).symm];have h1:i/s<=i:=uT i s;generalize i/s=q at h1⊢;exact qGM ⟨by show(-9223372036854775808:Int)<=q;omega,by show(q:Int)<=9223372036854775807;omega⟩
section
variable{V0 V:Mem}{N size:Nat}{O zs:List Int}{os out:Sl}{R:RP}
theorem qHp(oo:Sx.Own V0 V 3 1 out (zs.flatMap qAf))(S:zs.length=N)(G:Sx.Own (fun _=>none) V 3 1 os (O.flatMap qAf))(T:∀c,Blk os c->¬Blk out c)(v:Nds N O)(hN:N<=4096)(U:1<=size)
    (hR:∀V' y,Sx.Own V0 V' 3 1 out (y.flatMap qAf)->qFh N O size y->R (rV (uL out)) V'):
    ∃(I:Nat->List Value->Mem->Prop)(n0:Nat),I n0 [uI 0] V/\∀n H,∀g,I n [uI g] H->∀L:List Value->Mem->Prop,(∀m ys r,m<n->I m ys r->L ys r)->
     Br (g<(os.n:Int))
     (¬os.p=none/\0<=g/\g<(os.n:Int)/\∃f,H.rowp os.p (g.toNat*1) 1=some [uI f]/\
     IR (f-1)/\¬(size:Int)=0/\¬out.p=none/\0<=(f-1)/\(f-1)<(out.n:Int)/\StT (qAa out.p ((f-1).toNat*1)) 0 [uI (xE .i64 ((g).tdiv (size:Int)))] H λV5=>
     IR (g+1)/\L [uI (g+1)] V5)
     (R (rV (uL out)) H):=by
  refine qJe O.length (λi V1=>∃zs:List Int,Sx.Own V0 V1 3 1 out (zs.flatMap qAf)/\zs.length=N/\Sx.Own (λ_=>none) V1 3 1 os (O.flatMap qAf)/\∀(j:Nat) n,j<i->O[j]?=some n->zs[(n-1).toNat]?=some ((j/size:Nat):Int)) ⟨zs,oo,S,G,λj n h=>by omega⟩ ?_;rintro i V1 J hi ⟨w,Z,o,h1,ha⟩ hJ;have Y:=h1.rows (row:=qAf) (xs:=O) (λ_=>rfl) (by decide);have hOl:=v.len;refine⟨λz=>?_,λW=>?_⟩
  · obtain⟨n,Q,X,-,P,hp,A,a⟩:=Y.get z;have hnr:=v.rng n Q;obtain⟨q,B⟩:∃q:Nat,n-1=(q:Int):=⟨(n-1).toNat,by omega⟩;have M:=Z.rows (row:=qAf) (xs:=w) (λ_=>rfl) (by decide);obtain⟨c1,c2,c3,-⟩:=qCD M (yv (show q<w.length by omega));refine⟨hp,A,z,_,a,⟨by omega,by omega⟩,by omega,c1,by omega,by omega,?_⟩;rw[div_wrap (by omega) U,B,xu,vq];refine Own.store Z (i:=q) (by rw[qFv];omega) λV2 C hk=>?_;rw[qFu]at C;refine⟨Y.succ z,hJ P _ ⟨_,C,by simp[o],qEQ h1 λc hc=>hk c (T c hc),λj D E u=>?_⟩⟩;by_cases e:j=i
    · subst e;rw[X]at u;cases u;rw[B,xu,vy (by omega)]
    · have hne:D≠n:=λh=>e ((List.getElem?_inj (yw.1 u).1 v.nd).1 (by rw[u,X,h]));have K:=v.rng D (xv u);rw[vZ (by omega)];grind
  · have hdn:=(Y.done W).2;exact hR V1 w Z ⟨o,λj n E=>ha j n (by grind) E⟩
end
structure Clu (V0 V:Mem)(out gs os:Sl)(zs:List Int)(F:List Bool)(O:List Int):Prop where
 oo:Sx.Own V0 V 3 1 out (zs.flatMap qAf)
 og:Sx.Own V0 V 4 1 gs (F.flatMap qDj)
 os_:Sx.Own (λ_=>none) V 3 1 os (O.flatMap qAf)
 d1:∀c,Blk os c->¬Blk out c
section
variable{V0 V V':Mem}{out gs os s:Sl}{zs O xs:List Int}{F:List Bool}
theorem qFq{W g:Mem}{a b:Sl}{u v:List Value}(h:Sx.Own W V 3 1 a u)(k:Sx.Own g V 4 1 b v){c:Nat}(f:Blk a c):¬Blk b c:=λw=>by
 grind[Own.some,ntBool,Option.some.inj]
theorem qDt{W:Mem}{e:Nat}{a:Sl}{u:List Value}(h:Sx.Own W V e 1 a u){c:Nat}(g:Blk a c):V c≠none:=by
 grind[Own.some]
theorem Clu.grow(h:Clu V0 V out gs os zs F O)(g:V.sub V'):Clu V0 V' out gs os zs F O:=⟨Own.growS h.oo g,Own.growS h.og g,Own.growS h.os_ g,h.d1⟩
theorem Clu.mark(h:Clu V0 V out gs os zs F O){j:Nat}(w:j<F.length){Q:Mem->Prop}(z:∀V',Clu V0 V' out gs os zs (F.set j true) O->Q V'):StT (qAa gs.p (j*1)) 0 [.bool true] V Q:=by
 rw[vq];refine Own.store h.og (i:=j) (by rw[qJs];exact w) λV' o u=>z V' ?_;rw[qJr]at o;exact⟨Own.moveB h.oo o.sub λg y r f=>by rw[u g (qFq h.oo h.og r)];exact f,o,qEQ h.os_ λc f=>u c (qFq h.os_ h.og f),h.d1⟩
theorem Clu.place(h:Clu V0 V out gs os zs F O)(w:Sx.Own (λ_=>none) V 3 1 s (xs.flatMap qAf))(z:∀c,Blk s c->¬Blk out c){j:Nat}{b:Int}(y:j<zs.length){Q:Mem->Prop}(r:∀V',Clu V0 V' out gs os (zs.set j b) F O->Sx.Own (λ_=>none) V' 3 1 s (xs.flatMap qAf)->Q V'):StT (qAa out.p (j*1)) 0 [.int .i64 b] V Q:=by
 rw[vq];refine Own.store h.oo (i:=j) (by rw[qFv];exact y) λV' o u=>?_;rw[qFu]at o;exact r V' ⟨o,Own.moveB h.og o.sub λg a e f=>by rw[u g λv=>qFq h.oo h.og v e];exact f,qEQ h.os_ λc f=>u c (h.d1 c f),h.d1⟩ (qEQ w λc f=>u c (z c f))
end
section
variable{V:Mem}{d:Ds}{m:Mm}{size:Nat}
theorem spreadC{V1:Mem}{out gs os:Sl}{zs O:List Int}{F:List Bool}{b:Nat}{n:Int}{but:List Int}(hv:qAJ d=true)(H:qAx d m=true)(L:Ds.Ok V d)(hm:Mm.Ok V m)(C:Clu V V1 out gs os zs F O)(j:V1 b=none)(X:qEg m.nodes.length F but [n])(B:1<=n/\n<=(m.nodes.length:Int))(J:∃g,gs=⟨some ⟨g,0,none⟩,m.nodes.length+1,m.nodes.length+1⟩):
  Tri xD 83 #[d.v,m.v,.slice (sa b) 1 1,gs.v,.int .i64 size] (V1.set b (.cells #[.int .i64 n] 3 (0,0))) λe V'=>∃s:Sl,e=.returned s.v/\∃r,Clu V V' out gs os zs r O/\qEg m.nodes.length r but (qEi d m [n] size but)/\Sx.Own (λ_=>none) V' 3 1 s ((qEi d m [n] size but).flatMap qAf)/\∀c,Blk s c->¬Blk out c:=by
 have G:=Mem.sub_new j (.cells #[.int .i64 n] 3 (0,0));obtain⟨U,P⟩:∃U,U=V1.set b (.cells #[.int .i64 n] 3 (0,0)):=⟨_,rfl⟩;have Z:U b=some (.cells #[.int .i64 n] 3 (0,0)):=by rw[P];exact Mem.set_same _ _ _
 rw[<-P]at G⊢;have z:=C.grow G;obtain⟨M,Y⟩:∃M:Nat->Prop,M=λc=>c=b∨Blk gs c:=⟨_,rfl⟩;have D:∀c,M c->V c=none:=λc f=>by
  rw[Y]at f;rcases f with rfl|f
  ·cases e:V c with
   |none=>rfl
   |some o=>rw[C.oo.sub _ _ e]at j;cases j
  ·exact Own.none0 C.og f
 have u:V.sub (Mem.minus U M):=λc o f=>by
  rw[qCi λh=>by grind];exact z.oo.sub _ _ f
 have T:Two (Mem.minus U M) U ⟨some ⟨b,0,none⟩,1,1⟩ gs [n] F:=by
  refine⟨⟨qDU,rfl,.inr ⟨b,_,rfl,qEn (by simp_all),Z,yU _,(show 1<=maxLen by decide),rfl,rfl⟩⟩,⟨qDU,z.og.len,?_⟩⟩;rcases z.og.cases0 with h1|⟨f,g,y,h1,h2,h3,h4⟩;·exact .inl h1
  ·exact .inr ⟨g,y,h1,qEn (by rw[Y];exact .inr ⟨f,h1⟩),h3,h4⟩
 refine Tri.mono (c83 (l:=⟨some ⟨b,0,none⟩,1,1⟩) (most:=size) hv H (L.sub u) (hm.sub u) T X (Nds.nil.snoc B (by simp)) J) ?_;rintro _ V2 ⟨s,rfl,r,a,W⟩;have A:=a.ol.sub;have nb:∀{c:Nat},V1 c≠none->¬Blk gs c->V2 c=U c:=λ{c} h1 h2=>by
  have w:¬M c:=λh=>by
   simp_all
  cases e:U c with
  |none=>
   cases E:V1 c with
   |none=>grind
   |some o=>rw[G _ _ E]at e;cases e
  |some o=>exact A _ _ (by rw[qCi w];exact e)
 refine⟨s,rfl,r,⟨Own.moveB z.oo (u.trans A) λg y I f=>?_,a.og.narrow u,qEQ z.os_ λc f=>nb (qDt C.os_ f) (qFq C.os_ C.og f),C.d1⟩,W,qER a.ol,λc f Q=>?_⟩;·rw[nb (qDt C.oo I) (qFq C.oo C.og I)];exact f
 ·have h0:=Own.none0 a.ol f;have h1:=qDt C.oo Q;have w:¬M c:=λh=>by
   rw[Y]at h;rcases h with rfl|h;·exact h1 j
   ·exact qFq C.oo C.og Q h
  rw[qCi w]at h0;exact qDt z.oo Q h0
theorem c45[Tab V](hv:qAJ d=true)(u:qAx d m=true)(hd:Ds.Ok V d)(hm:Mm.Ok V m){k:Int}(hk:1<=k/\k<=4)(X:1<=size/\size<=64):
  Tri xD 45 #[d.v,m.v,.int .i64 k,.int .i64 size] V λe V'=>∃(s:Sl)(zs:List Int),e=.returned s.v/\Sx.Own V V' 3 1 s (zs.flatMap qAf)/\qBj d m k size zs:=by
 obtain⟨R,hR⟩:∃R:Ending->Mem->Prop,R=λe V'=>∃(s:Sl)(zs:List Int),e=.returned s.v/\Sx.Own V V' 3 1 s (zs.flatMap qAf)/\qBj d m k size zs:=⟨_,rfl⟩;rw[<-hR];refine x45 ?_;obtain⟨p1,hN,p3,p4,p5⟩:=qAl u;have hns:=hm.nodes.n_eq;rw[hns];refine mk31 (n:=m.nodes.length) rfl rfl (by omega) λg hg=>⟨⟨some ⟨g,0,none⟩,m.nodes.length,m.nodes.length⟩,rfl,?_⟩;have C0:=qGB hg (n:=m.nodes.length) (by omega);obtain⟨V1,hV1⟩:∃V1,V1=V.set g (.cells (madeCells ((xe .i64 0).cells) (m.nodes.length*1)) 3 (0,0)):=⟨_,rfl⟩;rw[<-hV1]at C0⊢;obtain⟨out,hout⟩:∃out:Sl,out=⟨some ⟨g,0,none⟩,m.nodes.length,m.nodes.length⟩:=⟨_,rfl⟩;rw[<-hout]at C0⊢;refine Tri.mono (c80 (V0:=V1) (l:=⟨none,0,0⟩) (xs:=[]) (Own.nil (Mem.sub.refl _) _ _) Nds.nil hN hns) ?_;rintro _ V2 ⟨o0,rfl,Z⟩;have M:=Own.growS C0 Z.sub;have B:=hd.sub M.sub;have C:=hm.sub M.sub;haveI:Tab V2:=Tab.sub (V:=V) inferInstance M.sub;have ok:=qLf u k;have A:∀{U U':Mem}{q:Sl}{ys:List Int},V1.sub U->Sx.Own U U' 3 1 q (ys.flatMap qAf)->∀c,Blk q c->¬Blk out c:=λ{U U' q ys} X o c hc ho=>by
  have h0:=Own.none0 o hc;obtain⟨cur,h⟩:=Own.some C0 ho;rw[X _ _ h]at h0;cases h0
 have Y:k<4->∀V' w,Sx.Own V V' 3 1 out (w.flatMap qAf)->qFh m.nodes.length (qDT d m k) size w->R (rV (uL out)) V':=λh V' w o P=>by
  rw[hR];exact⟨out,w,rfl,o,by grind[qBj]⟩
 refine⟨o0,rfl,λc=>?_,λc2=>⟨λc=>?_,λc3=>⟨λc=>?_,λc4=>?_⟩⟩⟩
 ·have c:k=2:=c;refine Tri.mono (c81 u B C) ?_;rintro _ V3 ⟨s,rfl,D⟩;have e:qDT d m k=qDg d m:=by grind[qDT]
  rw[e]at ok Y;exact⟨s,rfl,qHp (Own.growS M D.sub) uJ (qER D) (A Z.sub D) ok.1 hN X.1 (Y (by omega))⟩
 ·have c:k=3:=c;refine Tri.mono (c82 hv u B C) ?_;rintro _ V3 ⟨s,rfl,D⟩;have e:qDT d m k=qJC d m:=by grind[qDT]
  rw[e]at ok Y;exact⟨s,rfl,qHp (Own.growS M D.sub) uJ (qER D) (A Z.sub D) ok.1 hN X.1 (Y (by omega))⟩
 ·have c:k=4:=c;obtain⟨N,hNd⟩:∃N,N=m.nodes.length:=⟨_,rfl⟩;refine⟨⟨by omega,by omega⟩,mk162 (n:=m.nodes.length+1) rfl rfl (by omega) λg2 hg2=>⟨⟨some ⟨g2,0,none⟩,m.nodes.length+1,m.nodes.length+1⟩,rfl,?_⟩⟩;have L:=qIV hg2 (n:=m.nodes.length+1) (by omega);obtain⟨V3,hV3⟩:∃V3,V3=V2.set g2 (.cells (madeCells ((uW false).cells) ((m.nodes.length+1)*1)) 4 (0,0)):=⟨_,rfl⟩;rw[<-hV3]at L⊢;obtain⟨gs,hgs⟩:∃gs:Sl,gs=⟨some ⟨g2,0,none⟩,m.nodes.length+1,m.nodes.length+1⟩:=⟨_,rfl⟩;rw[<-hgs]at L⊢;haveI:Tab V3:=Tab.sub (V:=V2) inferInstance L.sub;refine Tri.mono (c81 u (B.sub L.sub) (C.sub L.sub)) ?_;rintro _ V4 ⟨os,rfl,o4⟩;refine⟨os,rfl,?_⟩;have dok:=qHy u;have CL0:Clu V V4 out gs os (yI m.nodes.length 0) (yI (m.nodes.length+1) false) (qDg d m):=⟨Own.growS M (L.sub.trans o4.sub),(Own.growS L o4.sub).narrow M.sub,qER o4,A (Z.sub.trans L.sub) o4⟩;have hOl:=dok.1.len;refine⟨λn ys V5=>∃(i:Nat)(cls:List (List Int))(zs:List Int)(F:List Bool),ys=[.int .i64 cls.length,.int .i64 i]/\i<=(qDg d m).length/\n=(qDg d m).length-i/\cls=((qDg d m).take i).foldl (cluS d m size) []/\CluI m.nodes.length size cls/\Clu V V5 out gs os zs F (qDg d m)/\CluOf m.nodes.length size cls zs/\qEg m.nodes.length F cls.flatten [],(qDg d m).length,⟨0,[],_,_,rfl,uX _,rfl,rfl,⟨Nds.nil,by simp⟩,CL0,⟨uJ,by simp⟩,⟨uJ,λj hj=>by simp_all⟩⟩,?_⟩;rintro n V5 v16 v17 ⟨i,cls,zs,F,hys,hi,rfl,E,hI,CL,I,hF⟩ J hJ;simp only[yD,zl,true_and,and_true]at hys;obtain⟨rfl,rfl⟩:=hys;have K:=CL.os_.rows (row:=qAf) (xs:=qDg d m) (λ_=>rfl) (by decide);have hcll:=hI.len;refine⟨λS=>?_,λhge=>?_⟩
  ·obtain⟨x,hxm,hx,-,hil,hp,hz,hrow⟩:=K.get S;have T:=dok.1.rng x hxm;have hsu:=K.succ S;have e:((qDg d m).take (i+1)).foldl (cluS d m size) []=cluS d m size cls x:=by rw[qBJ hx,vf,<-E];rfl
   obtain⟨I1,-,-⟩:=hI.step u X.1 T;obtain⟨j,rfl⟩:∃j:Nat,x=(j:Int):=⟨x.toNat,by omega⟩;obtain⟨b1,b2,b3,b4⟩:=bool_at (CL.og.rows (λ_=>rfl) (by decide)) (hF.2 j (by omega));refine⟨hp,hz,S,_,hrow,b1,b2,b3,_,b4,λc=>⟨hsu,hJ ((qDg d m).length-(i+1)) _ _ (by omega) ⟨i+1,cls,zs,F,rfl,hil,rfl,?_,hI,CL,I,hF⟩⟩,λc=>⟨b1,b2,b3,?_⟩⟩;·grind[cluS]
   ·have c:¬((j:Int)∈cls.flatten∨(j:Int)∈[]):=λh=>c (decide_eq_true h);have hnot:(j:Int)∉cls.flatten:=λh=>c (.inl h);have ec:cluS d m size cls (j:Int)=cls++[qEi d m [(j:Int)] size cls.flatten]:=by grind[cluS]
    obtain⟨w1,w2,w3,w4⟩:=clu_new u X.1 T hnot;refine CL.mark (j:=j) (by rw[hF.1];omega) λV6 CL6 b hb=>?_;refine Tri.mono (spreadC (size:=size) (b:=b) (n:=(j:Int)) (but:=cls.flatten) hv u hd hm CL6 hb (hF.mark (by omega)) T ⟨g2,hgs⟩) ?_;rintro _ V8 ⟨s8,rfl,F8,CL8,hF8,os8,hd8⟩;refine⟨s8,rfl,?_⟩;obtain⟨W,hW⟩:∃W,W=qEi d m [(j:Int)] size cls.flatten:=⟨_,rfl⟩;rw[<-hW]at hF8 os8 ec w1 w2 w3 w4;refine qJe W.length (λt V9=>∃w:List Int,Clu V V9 out gs os w F8 (qDg d m)/\Sx.Own (λ_=>none) V9 3 1 s8 (W.flatMap qAf)/\CluOf m.nodes.length size cls w/\∀y∈W.take t,w[(y-1).toNat]?=some ((cls.length:Nat):Int)) ⟨zs,CL8,os8,I,by simp⟩ ?_;rintro t V9 J1 ht ⟨zs9,CL9,os9,G,H⟩ hJ1;have hwr:=os9.rows (row:=qAf) (xs:=W) (λ_=>rfl) (by decide);have hzr:=CL9.oo.rows (row:=qAf) (xs:=zs9) (λ_=>rfl) (by decide);refine⟨λQ=>?_,λhge9=>?_⟩
    ·obtain⟨y,hym,hy,-,htl,hp9,hz9,hrow9⟩:=hwr.get Q;have hyr:=w1.rng y hym;obtain⟨q,hq⟩:∃q:Nat,y-1=(q:Int):=⟨(y-1).toNat,by omega⟩;have hzl:=G.len;obtain⟨c1,c2,c3,-⟩:=qCD hzr (yv (show q<zs9.length by omega));refine⟨hp9,hz9,Q,_,hrow9,⟨by omega,by omega⟩,c1,by omega,by omega,?_⟩;rw[hq,xu];refine CL9.place os9 hd8 (j:=q) (by omega) λV10 CL10 os10=>⟨hwr.succ Q,hJ1 htl _ ⟨_,CL10,os10,⟨by grind,λa c' r z f=>?_⟩,λz f=>?_⟩⟩
     ·have hne:z≠y:=λh=>w3 y hym (by grind[uV,xv]);have hzr':=hI.nds.rng z (uV.2 ⟨c',xv r,f⟩);rw[vZ (by omega)];exact G.at_ a c' r z f
     ·by_cases h:z=y;·rw[h,hq,xu,vy (by omega)]
      ·rw[qBJ hy]at f;have f:z∈W.take t:=by
        rcases xh.1 f with h1|h1;·exact h1
        grind
       have hzr':=w1.rng z (vu f);rw[vZ (by omega)];exact H z f
    ·have hd9:=(hwr.done hge9).2;rw[wY hd9]at H;have hI1:=I1;rw[ec]at hI1;have hl1:=hI1.len;rw[zw,xi]at hl1;refine⟨⟨by omega,by omega⟩,hsu,hJ ((qDg d m).length-(i+1)) _ _ (by omega) ⟨i+1,cls++[W],zs9,F8,?_,hil,rfl,by rw[e,ec],hI1,CL9,⟨G.len,λa c' r z f=>?_⟩,⟨hF8.1,λa ha=>?_⟩⟩⟩;·rw[zw,xi];rfl
     ·by_cases h:a<cls.length
      ·rw[xa h]at r;exact G.at_ a c' r z f
      ·rw[List.getElem?_append_right (by omega)]at r;have ha0:a-cls.length=0:=by
        grind
       rw[ha0]at r;cases r;rw[H z f,show a=cls.length by omega]
     ·rw[hF8.2 a ha];congr 1;rw[yK,uU];simp
  ·have hdn:=(K.done hge).2;rw[wY hdn]at E;rw[hR];refine⟨out,zs,rfl,CL.oo,?_⟩;unfold qBj;rw[if_neg (by omega)];rw[E]at I;exact I
 ·have c2:¬k=2:=c2;have c3:¬k=3:=c3;have c4:¬k=4:=c4;have e:qDT d m k=qIQ [] m.nodes.length:=by grind[qDT]
  rw[e]at ok Y;exact qHp M uJ (qER Z) (A (Mem.sub.refl _) Z) ok.1 hN X.1 (Y (by omega))
end
def plF(d:Ds)(m:Mm)(k size:Int):Int:=if qAx d m=true then(if 1<=k/\k<=4/\1<=size/\size<=64 then 0 else 2)else 1
section
variable{V:Mem}{d:Ds}{m:Mm}{size:Nat}
theorem own_one{V:Mem}{b:Nat}(h:V b=none){x:Int}:Sx.Own V (V.set b (.cells #[.int .i64 x] 3 (0,0))) 3 1 ⟨some ⟨b,0,none⟩,1,1⟩ ([x].flatMap qAf):=
 ⟨Mem.sub_new h _,rfl,.inr ⟨b,_,rfl,h,Mem.set_same _ _ _,yU _,(show 1<=maxLen by decide),rfl,rfl⟩⟩
theorem c14[Tab V](w:Ds.Ok V d)(hm:Mm.Ok V m){k size:Int}:
  Tri xD 14 #[d.v,m.v,.int .i64 k,.int .i64 size] V λe V'=>∃s:Sl,e=.returned (.tuple #[s.v,.int .i64 (plF d m k size)])/\V.sub V'/\(plF d m k size≠0->s.n=0)/\(plF d m k size=0->∃zs,Sx.Own V V' 3 1 s (zs.flatMap qAf)/\qBj d m k size.toNat zs):=by
 obtain⟨R,g⟩:∃R:Ending->Mem->Prop,R=λe V'=>∃s:Sl,e=.returned (.tuple #[s.v,.int .i64 (plF d m k size)])/\V.sub V'/\(plF d m k size≠0->s.n=0)/\(plF d m k size=0->∃zs,Sx.Own V V' 3 1 s (zs.flatMap qAf)/\qBj d m k size.toNat zs):=⟨_,rfl⟩;rw[<-g];refine x14 ?_;have bad:∀f:Int,f≠0->plF d m k size=f->R (.returned (.tuple #[.slice none 0 0,.int .i64 f])) V:=λf h0 y=>by
  rw[g];exact⟨⟨none,0,0⟩,by rw[y];rfl,Mem.sub.refl _,λ_=>rfl,λh=>absurd (y.symm.trans h) h0⟩
 refine(c44 w hm).call ⟨_,rfl,λu=>?_,λh=>bad 1 (by decide) (by grind[plF])⟩;have out:¬(1<=k/\k<=4/\1<=size/\size<=64)->R (.returned (.tuple #[.slice none 0 0,.int .i64 2])) V:=λh=>bad 2 (by decide) (by grind[plF]);refine⟨λh=>out (by omega),λh1=>⟨λh=>out (by omega),λh2=>⟨λh=>out (by omega),λh3=>⟨λh=>out (by omega),λh4=>?_⟩⟩⟩⟩;obtain⟨z,rfl⟩:∃z:Nat,size=(z:Int):=⟨size.toNat,by omega⟩;refine Tri.mono (c45 (size:=z) (by grind[qAx,hasT]) u w hm (k:=k) (by omega) (by omega)) ?_;rintro _ V2 ⟨s,zs,rfl,o,P⟩;have e:plF d m k z=0:=by grind[plF]
 refine⟨s,rfl,?_⟩;rw[g];exact⟨s,by rw[e];rfl,o.sub,λh=>absurd e h,λ_=>⟨zs,o,by simp_all⟩⟩
end
noncomputable def exE(d:Ds)(m:Mm)(size most fuel:Int):Int:=if qAZ d m 0=0 then(if 1<=size/\size<=64/\1<=most/\most<=1000/\0<=fuel/\fuel<=1048576 then 0 else 2)else qAZ d m 0
structure Pt (V0 V:Mem)(p t:Sl)(xs ys:List Int):Prop where
 op:Sx.Own V0 V 3 1 p (xs.flatMap qAf)
 ot:Sx.Own V0 V 3 1 t (ys.flatMap qAf)
 dj:∀c,Blk p c->¬Blk t c
section
variable{V0 V V':Mem}{p t:Sl}{xs ys zs:List Int}
theorem Pt.pushP(h:Pt V0 V p t xs ys){q:Sl}(o:Sx.Own (V.but p) V' 3 1 q (zs.flatMap qAf)):Pt V0 V' q t zs ys:=by
 obtain⟨h1,h2,h3⟩:=qFT h.op o;exact⟨h1,Own.moveB h.ot h1.sub λg y w f=>by rw[h2 g (λu=>h.dj g u w) (qDt h.ot w)];exact f,λc f z=>(h3 c f).elim (λu=>h.dj c u z) (qDt h.ot z)⟩
theorem Pt.pushT(h:Pt V0 V p t xs ys){q:Sl}(o:Sx.Own (V.but t) V' 3 1 q (zs.flatMap qAf)):Pt V0 V' p q xs zs:=by
 obtain⟨h1,h2,h3⟩:=qFT h.ot o;exact⟨Own.moveB h.op h1.sub λg z w f=>by rw[h2 g (λu=>h.dj g w u) (qDt h.op w)];exact f,h1,λc f y=>(h3 c y).elim (λu=>h.dj c f u) (qDt h.op f)⟩
end
section
variable{V:Mem}{d:Ds}{m:Mm}
theorem c51[Tab V](f:Ds.Ok V d)(hm:Mm.Ok V m){size most fuel:Int}:Tri xD 51 #[d.v,m.v,.int .i64 size,.int .i64 most,.int .i64 fuel] V λe V'=>e=.returned (.int .i64 (exE d m size most fuel))/\V.sub V':=by
 refine x51 ?_;have e:scrE d 0 m []=qAZ d m 0:=by
  unfold scrE;by_cases h:qAZ d m 0=0;·rw[if_pos h,h];rfl
  ·rw[if_neg h]
 refine Tri.mono (c33 f hm (l:=qAD) (cs:=[]) ⟨qAc.nil,by simp⟩ (F:=0) (.inl (by omega))) ?_;rintro _ V1 ⟨g,⟨h0,rfl⟩|⟨h0,o,a,b,nd,-,-,-,-,rfl⟩⟩
 ·rw[e]at h0;refine⟨qAD,qAD,qAD,_,rfl,λh=>absurd (e▸h) h0,λ_=>⟨?_,g⟩⟩;unfold exE;rw[if_neg h0,e]
 ·rw[e]at h0;have out:¬(1<=size/\size<=64/\1<=most/\most<=1000/\0<=fuel/\fuel<=1048576)->exE d m size most fuel=2:=λh=>by unfold exE;rw[if_pos h0,if_neg h]
  have bad:¬(1<=size/\size<=64/\1<=most/\most<=1000/\0<=fuel/\fuel<=1048576)->Ending.returned (.int .i64 2)=.returned (.int .i64 (exE d m size most fuel))/\V.sub V1:=λh=>⟨by rw[out h],g⟩;refine⟨o,a,b,0,rfl,λ_=>⟨λh=>bad (by omega),λh1=>⟨λh=>bad (by omega),λh2=>⟨λh=>bad (by omega),λh3=>⟨λh=>bad (by omega),λh4=>⟨λh=>bad (by omega),λu=>⟨λh=>bad (by omega),λw=>⟨?_,g⟩⟩⟩⟩⟩⟩⟩,λh=>absurd rfl h⟩;unfold exE;rw[if_pos h0,if_pos (by omega)]
end
end Go.Proofs
namespace Go.Proofs
open Go Go.Sx
def blkS(size:Int)(s:List Int×List Int)(a:Int×Int×Int):List Int×List Int:=
 (if a.1=3 then s.1++[qDm s.1 size]else s.1,if 0<a.2.1 then s.2++[(if a.1=3 then s.1++[qDm s.1 size]else s.1).getD (a.2.1-1).toNat 0]else s.2)
def qCG(size:Int)(lg:List (Int×Int×Int))(pl:List Int):List Int×List Int:=lg.foldl (blkS size) (pl,[])
theorem qFz{size:Int}{lg:List (Int×Int×Int)}{pl:List Int}{i:Nat}{a:Int×Int×Int}(h:lg[i]?=some a):qCG size (lg.take (i+1)) pl=blkS size (qCG size (lg.take i) pl) a:=by
 grind[qCG,we]
theorem qGn{α:Type}{p:Nat->Prop}(l:List α)(h0:p 0)(h:∀i a,l[i]?=some a->p i->p (i+1)):∀i,i<=l.length->p i
 |0,_=>h0
 |i+1,g=>h i _ (yv (show i<l.length by omega)) (qGn l h0 h i (by omega))
theorem alN_next{l:List (Int×Int×Int)}{i:Nat}{x:Int×Int×Int}(h:l[i]?=some x):alN (l.take (i+1))=alN (l.take i)+if x.1=3 then 1 else 0:=by
 unfold alN;rw[we,h,uR,zw];grind
section
variable{size:Int}{lg:List (Int×Int×Int)}{pl:List Int}
theorem blk_len(i:Nat)(hi:i<=lg.length):(qCG size (lg.take i) pl).1.length=pl.length+alN (lg.take i):=by
 refine qGn (p:=λi=>(qCG size (lg.take i) pl).1.length=pl.length+alN (lg.take i)) lg rfl (λi a h g=>?_) i hi;rw[qFz h,alN_next h];grind[blkS]
theorem blk_tr(i:Nat)(hi:i<=lg.length):(qCG size (lg.take i) pl).2.length=qAv (lg.take i):=by
 refine qGn (p:=λi=>(qCG size (lg.take i) pl).2.length=qAv (lg.take i)) lg rfl (λi a h g=>?_) i hi;rw[qFz h,qIZ h];unfold blkS;by_cases c:0<a.2.1;·simp_all
 grind
theorem furth_hi{l:List Int}{M:Int}(h:∀b∈l,b<=M)(h0:-1<=M):qDm l size<=M+1:=by
 obtain⟨h1,h2,h3,-⟩:=qDX l;grind[qDc,qDm]
theorem blk_rng{M:Int}(h:∀b∈pl,0<=b/\b<=M)(h0:-1<=M)(i:Nat)(hi:i<=lg.length):(∀b∈(qCG size (lg.take i) pl).1,0<=b/\b<=M+alN (lg.take i))/\∀b∈(qCG size (lg.take i) pl).2,0<=b/\b<=M+alN (lg.take i)+1:=by
 refine qGn (p:=λi=>(∀b∈(qCG size (lg.take i) pl).1,0<=b/\b<=M+alN (lg.take i))/\∀b∈(qCG size (lg.take i) pl).2,0<=b/\b<=M+alN (lg.take i)+1) lg ⟨λb g=>?_,λb g=>by cases g⟩ (λi a h u=>?_) i hi
 ·have:=h b g;omega
 obtain⟨f,w⟩:=u;have z:=alN_next h;have key:∀b∈(if a.1=3 then(qCG size (lg.take i) pl).1++[qDm (qCG size (lg.take i) pl).1 size]else(qCG size (lg.take i) pl).1),0<=b/\b<=M+alN (lg.take (i+1)):=λb g=>by
  by_cases c:a.1=3
  ·rw[if_pos c]at g z;rcases xh.1 g with g|g;·grind
   ·rw[zO.1 g];have h1:=furth_lo (qCG size (lg.take i) pl).1 size;have h2:=furth_hi (size:=size) (λb g=>(f b g).2) (by omega);omega
  simp_all
 rw[qFz h];unfold blkS;refine⟨key,λb g=>?_⟩;by_cases c:0<a.2.1
 ·simp only[if_pos c]at g;rcases xh.1 g with g|g;·grind
  ·rw[zO.1 g,List.getD_eq_getElem?_getD];cases e:(if a.1=3 then(qCG size (lg.take i) pl).1++[qDm (qCG size (lg.take i) pl).1 size]else(qCG size (lg.take i) pl).1)[(a.2.1-1).toNat]? with
   |none=>simp only[Option.getD_none];omega
   |some y=>have:=key y (xv e);simp only[Option.getD_some];omega
 grind
end
end Go.Proofs
namespace Go.Proofs
open Go Go.Sx
attribute [local irreducible] Go.Sx.Tri
theorem alN_le(l:List (Int×Int×Int))(i:Nat):alN (l.take i)<=i:=by
 unfold alN;refine uG (List.length_filter_le _ _) ?_;rw[uE];omega
section
variable{V V0:Mem}{d:Ds}{F:Nat}{m:Mm}{nm:ByteArray}{args:List Int}{l:Sl}
theorem play_gr(G:qAz d m)(g:qCK d m nm args=0):Gr F 0 (qBU m) (qBS d F (qCJ d nm) args (qBU m)).st:=by
 obtain⟨i,q,f,u,h⟩:=qGR g;rw[f];exact(play_snd (F:=F) (qGy G.valid G.chk) u (qJn G) (qAp (qCZ (qDP m).symm) h)).gr
end
end Go.Proofs
