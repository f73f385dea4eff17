/- Part 21: no statement of the seat is proved here. -/
import Derived.Test.YtmeagdecjpknkaaGreatDoorPs19
import Derived.Test.YtmeagdecjpknkaaGreatDoorPs20
import Derived.Test.YtmeagdecjpknkaaGreatDoorPs18
set_option linter.unusedVariables false
set_option linter.unusedSimpArgs false
open List renaming mem_append->xd,count_append->uH,count_eq_zero_of_not_mem->uJ,length_append->zw,length_singleton->xe,getElem?_eq_some_iff->yv,length_take->uK,take_of_length_le->wx,length_pos_iff->uN,getElem?_eq_getElem->yu,mem_iff_getElem?->xg,count_le_length->uQ,mem_of_getElem?->xp,take_zero->vO,length_replicate->uR,getElem?_set_self->vq,range->zB,nodup_range->uU,nodup_append->vk,ext_getElem?->zx,getElem?_eq_none->uV,length_map->x7,range_succ->uW,flatten_append->yL,flatten_singleton->uY,mem_flatten->uZ,replicate->yJ,append_nil->vn,getElem?_set_ne->vu,foldl_append->vb
open Go.Proofs.Tryz renaming prog->xE,underlying3->wi,underlying132->uF
open Nat renaming le_refl->yV,le_trans->uO,mul_one->vj,div_le_self->uX,zero_le->uy
open List.cons renaming injEq->yE
open Go.Value.int renaming injEq->zl
open Go.Value renaming int->xa,bool->uz
open List.Pairwise renaming map->uT
open Int renaming toNat_natCast->xo
open Go.IntKind renaming wrap->xF
namespace Go.Proofs
def lastS(a:Int×Nat)(x:Int):Int×Nat:=if a.1<x then(x,1)else if x=a.1 then(a.1,a.2+1)else a
def qCY(l:List Int):Int×Nat:=l.foldl lastS (-1,0)
theorem qKU(l:List Int)(x:Int):qCY (l++[x])=lastS (qCY l) x:=by grind[qCY]
theorem qLr{p:List Int->Prop}(h0:p [])(h:∀l x,p l->p (l++[x]))(l:List Int):p l:=by
 have:∀n,∀l:List Int,l.length=n->p l:=by
  intro n;induction n with
  |zero=>simp_all
  |succ n f=>
   intro l t;have g:l≠[]:=by grind
   rw[<-List.dropLast_concat_getLast g];simp_all
 grind
theorem qDk(l:List Int):(∀x∈l,x<=(qCY l).1)/\-1<=(qCY l).1/\((qCY l).1=-1∨(qCY l).1∈l)/\((∀x∈l,0<=x)->(qCY l).2=l.count (qCY l).1):=by
 induction l using qLr with
 |h0=>exact⟨by simp,by decide,.inl rfl,λ_=>rfl⟩
 |h l x g=>
  obtain⟨h1,h2,h3,h4⟩:=g;rw[qKU];unfold lastS;grind
def qCz(l:List Int)(size:Int):Int:=if(qCY l).1<0∨((qCY l).2:Int)=size then(qCY l).1+1 else(qCY l).1
structure Plc (l:List Int)(size:Int):Prop where
 rng:∀b∈l,0<=b/\b<4096
 cnt:∀b∈l,(l.count b:Int)<=size
theorem Plc.nil{size:Int}:Plc [] size:=⟨by simp,by simp⟩
theorem Plc.snoc{l:List Int}{size b:Int}(h:Plc l size)(h1:0<=b/\b<4096)(h2:((l++[b]).count b:Int)<=size):Plc (l++[b]) size:=by
 refine⟨λx g=>?_,λx g=>?_⟩
 ·rcases xd.1 g with g|g;·exact h.rng x g
  simp_all
 ·by_cases e:x=b;·rw[e];exact h2
  ·rcases xd.1 g with g|g
   ·have:=h.cnt x g;grind
   simp_all
structure Pl0 (l:List Int)(size:Int):Prop where
 lo:∀b∈l,0<=b
 cnt:∀b∈l,(l.count b:Int)<=size
theorem Plc.pl0{l:List Int}{size:Int}(h:Plc l size):Pl0 l size:=⟨λb g=>(h.rng b g).1,h.cnt⟩
theorem furth_eq{l:List Int}{size M:Int}{n:Nat}(h:Pl0 l size)(g:M∈l)(f:∀x∈l,x<=M)(t:n=l.count M):qCz l size=if(n:Int)<size then M else M+1:=by
 obtain⟨h1,h2,h3,h4⟩:=qDk l;have h0:=h.lo M g;have e:(qCY l).1=M:=by
  grind
 have u:=h4 h.lo;rw[e,<-t]at u;have w:=h.cnt M g;grind[qCz]
theorem qLU(l:List Int)(size:Int):0<=qCz l size:=by
 obtain⟨h1,h2,h3,h4⟩:=qDk l;grind[qCz]
theorem Pl0.snoc{l:List Int}{size b:Int}(h:Pl0 l size)(h1:0<=b)(h2:((l++[b]).count b:Int)<=size):Pl0 (l++[b]) size:=by
 refine⟨λx g=>?_,λx g=>?_⟩
 ·rcases xd.1 g with g|g;·exact h.lo x g
  simp_all
 ·by_cases e:x=b;·rw[e];exact h2
  ·rcases xd.1 g with g|g
   ·have:=h.cnt x g;grind
   simp_all
theorem furth_pl0{l:List Int}{size:Int}(h:Pl0 l size)(g:1<=size):Pl0 (l++[qCz l size]) size:=by
 obtain⟨h1,h2,h3,h4⟩:=qDk l;have h4:=h4 h.lo;refine h.snoc (qLU l size) ?_;rw[uH,show[qCz l size].count (qCz l size)=1 by simp];unfold qCz;by_cases c:(qCY l).1<0∨((qCY l).2:Int)=size;·rw[if_pos c,uJ λf=>by grind];omega
 ·rw[if_neg c,not_or]at*
  have hm:=h3.resolve_left (by omega);have:=h.cnt _ hm;omega
def Low(l:List Int):Prop:=∀b∈l,b<(l.length:Int)
theorem furth_ok{l:List Int}{size:Int}(h:Plc l size)(t:Low l)(z:1<=size)(y:l.length<4096):Plc (l++[qCz l size]) size/\Low (l++[qCz l size]):=by
 obtain⟨h1,h2,h3,h4⟩:=qDk l;have h4:=h4 λx u=>(h.rng x u).1;have f:=qLU l size;have w:qCz l size<(l.length:Int)+1:=by
  unfold qCz;rcases h3 with h3|h3;·split<;>omega
  ·have:=t _ h3;split<;>omega
 refine⟨h.snoc ⟨f,by omega⟩ ?_,λb g=>?_⟩
 ·rw[uH,show[qCz l size].count (qCz l size)=1 by simp];unfold qCz;by_cases c:(qCY l).1<0∨((qCY l).2:Int)=size;·rw[if_pos c,uJ λu=>by grind];omega
  ·rw[if_neg c,not_or]at*
   have hm:=h3.resolve_left (by omega);have:=h.cnt _ hm;omega
 ·rw[zw,xe];rcases xd.1 g with g|g;·have:=t b g;omega
  simp_all
end Go.Proofs
namespace Go.Proofs
open Go Go.Sx
attribute [local irreducible] Go.Sx.Tri
theorem qKg.sub{V0 V:Mem}{p k n:Nat}{c:List Int}(h:qKg p k c n V0 V):V0.sub V:=by
 obtain⟨mb,S,B,N,P,L,f,h,-⟩:=h;exact h.sub
section
variable{V0 V:Mem}{p k n:Nat}{c xs:List Int}{l:Sl}{m:Int}
theorem qBc{i:Nat}{x:Int}(h:xs[i]?=some x):xs.take (i+1)=xs.take i++[x]:=by rw[List.take_add_one,h];rfl
theorem touchStep{i:Nat}(h:qKg p k (qKk k c (xs.take i)) (n+qIG k c (xs.take i)) V0 V)(f:1<=k/\k<=1000){x:Int}(g:xs[i]?=some x)(t:0<=x/\x<=1048576)(u:n+xs.length<2147483648):
  Tri xE 63 #[pv p,.int .i64 x] V λe V'=>(∃b:Bool,e=.returned (.tuple #[.bool b,.int .i64 0]))/\qKg p k (qKk k c (xs.take (i+1))) (n+qIG k c (xs.take (i+1))) V0 V':=by
 have h1:=qJt k (xs.take i) c;have w:=(yv.1 g).1;rw[uK]at h1;refine Tri.mono (c63 h f t (by omega)) ?_;rintro _ V' ⟨rfl,h2⟩;rw[qBc g,tchL_snoc,qJs,<-Nat.add_assoc];exact⟨⟨_,rfl⟩,h2⟩
theorem c54(h:qKg p k c n V0 V)(y:1<=k/\k<=1000)(j:qAc V0 l 1 (xs.map qAe))(r:∀x∈xs,0<=x/\x<=1048576)(o:n+xs.length<2147483648):
  Tri xE 54 #[pv p,l.v] V λe V'=>e=.returned (.int .i64 (qIG k c xs))/\qKg p k (qKk k c xs) (n+qIG k c xs) V0 V':=by
 refine x54 ?_;refine(c90 h).call ⟨_,rfl,?_⟩;refine qIs xs.length (λi V1=>qKg p k (qKk k c (xs.take i)) (n+qIG k c (xs.take i)) V0 V1) h ?_;intro i V1 J W h1 a;have g:=j.sub h1.sub;refine⟨λf=>?_,λu=>?_⟩
 ·obtain⟨x,w,H,-,z,G,Z,t⟩:=g.get f;refine⟨G,Z,f,_,t,Tri.mono (touchStep h1 y H (r x w) o) ?_⟩;rintro _ V2 ⟨⟨b,rfl⟩,h2⟩;exact⟨_,_,rfl,g.succ f,a z _ h2⟩
 ·have Y:=(g.done u).2;rw[wx Y]at h1;have h2:=qJt k xs c;refine(c90 h1).call ⟨_,rfl,⟨by omega,by omega⟩,?_,h1⟩;grind
end
section
variable{V:Mem}{xs:List Int}{l:Sl}{size:Int}
theorem c77(t:qAc V l 1 (xs.map qAe))(o:xs≠[]):∃M,M∈xs/\(∀x∈xs,x<=M)/\PP 77 [l.v] V (.int .i64 M):=by
 have Y:=t.n_eq;have g:=uN.2 o;obtain⟨M,W,u⟩:∃M,M∈xs/\∀x∈xs,x<=M:=by
  clear t Y g;induction xs using qLr with
  |h0=>simp_all
  |h ys y Q=>
   by_cases e:ys=[];·simp_all
   ·obtain⟨M,h1,h2⟩:=Q e;by_cases c:M<y
    ·refine⟨y,by simp,λx a=>?_⟩;grind
    ·refine⟨M,by simp[h1],λx a=>?_⟩;grind
 refine⟨M,W,u,x77 ?_⟩;refine⟨λh=>absurd (show(l.n:Int)<1 from h) (by omega),λ_=>?_⟩;obtain⟨p1,P,p3,A⟩:=qCy t (yu g);refine⟨p1,P,p3,_,A,λn ys V'=>∃(i:Nat)(m:Int),ys=[.int .i64 m,.int .i64 i]/\1<=i/\i<=xs.length/\n=xs.length-i/\V'=V/\m∈xs/\∀j x,j<i->xs[j]?=some x->x<=m,xs.length-1,⟨1,_,rfl,yV _,g,rfl,rfl,List.getElem_mem g,λj x I a=>?_⟩,?_⟩;·simp_all
 rintro n V' G D ⟨i,m,w,h1,h2,rfl,rfl,hm,Z⟩ J L;simp only[yE,zl,true_and,and_true]at w;obtain⟨rfl,rfl⟩:=w;refine⟨λf=>?_,λz=>?_⟩
 ·obtain⟨y,X,E,-,H,B,C,r⟩:=t.get f;refine⟨B,C,f,_,r,GenK.max2 (n1:=G) (n2:=y) rfl rfl ⟨_,rfl,t.succ f,L (xs.length-(i+1)) _ _ (by omega) ⟨i+1,_,rfl,by omega,H,rfl,rfl,?_,λj x I a=>?_⟩⟩⟩;·grind
  grind
 ·have z:¬(i:Int)<(l.n:Int):=z;have e:G=M:=by
   grind[xg,yv]
  simp_all
theorem qEm{i:Nat}{x y:Int}(h:xs[i]?=some x):(xs.take (i+1)).count y=(xs.take i).count y+if x=y then 1 else 0:=by
 rw[qBc h,uH];grind
theorem c41(f:qAc V l 1 (xs.map qAe))(h:Pl0 xs size)(a:∀b∈xs,b<=1048576):PP 41 [l.v,.int .i64 size] V (.int .i64 (qCz xs size)):=by
 refine x41 ?_;have H:=f.n_eq;have L:=f.cap;have X:=f.fit;refine⟨λh0=>?_,λh0=>?_⟩
 ·have:xs=[]:=List.length_eq_zero_iff.1 (by omega);subst this;exact⟨rfl,rfl⟩
 ·have j:xs≠[]:=λe=>h0 (by rw[H,e];rfl);obtain⟨M,r,t,G⟩:=c77 f j;have h1:=h.lo M r;have h2:=a M r;refine G.call ⟨_,rfl,qFk (mk:=.int .i64) (b0:=0) qCZ xs.length (λi b V1=>V1=V/\b=(((xs.take i).count M:Nat):Int)) ⟨rfl,rfl⟩ ?_⟩;rintro i b V1 J B ⟨rfl,rfl⟩ o;refine⟨λg=>?_,λu=>?_⟩
  ·obtain⟨y,Z,Y,-,w,W,Q,z⟩:=f.get g;have e:=qEm (y:=M) Y;have P:(xs.take i).count M<=i:=uO uQ (by simp_all);refine⟨W,Q,g,_,z,λA=>⟨⟨by omega,by omega⟩,f.succ g,o w _ _ ⟨rfl,?_⟩⟩,λA=>⟨f.succ g,o w _ _ ⟨rfl,?_⟩⟩⟩;·simp_all
   simp_all
  ·have I:=(f.done u).2;rw[wx I];have e:=furth_eq h r t rfl;refine⟨λg=>?_,λu=>⟨⟨by omega,by omega⟩,?_⟩⟩;·simp_all
   simp_all
open Classical in
noncomputable def plB(xs:List Int)(size:Int):Bool:=decide (xs.length<=4096/\Plc xs size)
theorem qFF:plB xs size=true↔xs.length<=4096/\Plc xs size:=by grind[plB]
theorem plB_false(h:¬(xs.length<=4096/\Plc xs size)):plB xs size=false:=by grind[plB]
theorem plc_next{i:Nat}{x:Int}(h:Plc (xs.take i) size)(g:xs[i]?=some x)(h1:0<=x/\x<4096)(h2:(((xs.take (i+1)).count x:Nat):Int)<=size):Plc (xs.take (i+1)) size:=by
 rw[qBc g]at h2⊢;exact h.snoc h1 h2
theorem qHB{i:Nat}{x:Int}(g:xs[i]?=some x)(h:¬(0<=x/\x<4096)∨size<(((xs.take (i+1)).count x:Nat):Int)):¬Plc xs size:=λP=>by
 have hm:=xp g;have a:=P.rng x hm;have b:=P.cnt x hm;grind[List.take_sublist]
theorem c40{n:Int}(I:qAc V l 1 (xs.map qAe)):PP 40 [l.v,.int .i64 size,.int .i64 n] V (.bool (decide ((xs.length:Int)=n)&&plB xs size)):=by
 obtain⟨R,o⟩:∃R:Ending->Mem->Prop,R=λe V'=>e=.returned (.bool (decide ((xs.length:Int)=n)&&plB xs size))/\V.sub V':=⟨_,rfl⟩;refine Pur.mk ?_;rw[<-o];refine x40 ?_;have K:=I.n_eq;have no:∀{V'},V.sub V'->¬(xs.length<=4096/\Plc xs size)->R (.returned (.bool false)) V':=λa h=>by
  rw[o,plB_false h,Bool.and_false];exact⟨rfl,a⟩
 refine⟨λw=>⟨λG=>?_,λG=>?_⟩,λw=>?_⟩;·grind[Int,Mem.sub.refl]
 ·have w:(l.n:Int)=n:=w;have G:¬4096<n:=G;refine GenK.makeMap λmb z=>⟨some mb,rfl,?_⟩;have M:=Zn z (.map #[] 0);refine qAM (mk:=.bool) (b0:=false) xs.length (λi V1=>V.sub V1/\Plc (xs.take i) size/\qGv (xa .i64) V1 mb λx=>if x∈xs.take i then some (.int .i64 (((xs.take i).count x:Nat):Int))else none) ⟨M,by rw[vO];exact Plc.nil,(qGv.made V mb).congr λx=>by simp⟩ ?_;rintro i b V1 J S ⟨a,Z,hm⟩ L;have t:=I.sub a;refine⟨λu=>?_,λY=>?_⟩
  ·obtain⟨x,X,H,-,W,B,C,j⟩:=t.get u;have e:=qEm (y:=x) H;rw[if_pos rfl]at e;have D:(xs.take i).count x<=i:=uO uQ (by simp_all);have r:((if x∈xs.take i then some (xa .i64 (((xs.take i).count x:Nat):Int))else none:Option Value).getD (.int .i64 0))=.int .i64 (((xs.take i).count x:Nat):Int):=by
    grind
   refine⟨B,C,u,_,j,qBH.key1 (k:=x) (qGW wi) uF qGa hm ⟨_,r,⟨by omega,by omega⟩,qEb.key (k:=x) (qGW wi) uF hm λQ A=>?_⟩⟩;have g:V.sub (V1.set mb Q):=a.set z Q;have f:qGv (xa .i64) (V1.set mb Q) mb λy=>if y∈xs.take (i+1)then some (.int .i64 (((xs.take (i+1)).count y:Nat):Int))else none:=A.congr λy=>by
    have T:=qEm (y:=y) H;grind
   refine⟨λh=>no g λP=>?_,λh1=>⟨λh=>no g λP=>?_,λh2=>?_⟩⟩;·grind[qHB]
   ·grind[qHB]
   ·have h1:¬x<0:=h1;have h2:¬4096<=x:=h2;refine qBH.key1 (k:=x) (qGW wi) uF qGa f ⟨(((xs.take (i+1)).count x:Nat):Int),by grind,λh=>no g λP=>qHB H (.inr h) P.2,λh3=>?_⟩;exact⟨t.succ u,L W _ _ ⟨g,plc_next Z H (by omega) (Int.not_lt.1 h3),f⟩⟩
  ·have E:=(t.done Y).2;rw[wx E]at Z;rw[o,qFF.2 ⟨by omega,Z⟩,decide_eq_true (by omega)];grind
 ·have w:¬(l.n:Int)=n:=w;rw[o,decide_eq_false (by omega)];exact⟨rfl,Mem.sub.refl _⟩
end
theorem oneG{α:Type}{t e sz:Nat}{row:α->List Value}(A:AppP t e sz row){V0 V:Mem}{b:Nat}{s:Sl}{xs:List α}{x:α}(o:Sx.Own V0 V e sz s (xs.flatMap row))(h:V b=none)(g:xs.length+1<=2147483648){ty:Nat}{y z:Operand}{vals:Operand->Value}(f:vals y=.slice s.p s.n s.c)(w:vals z=.slice (sa b) 1 1)(j:∀x,(row x).length=sz){Q:Value->Mem->Prop}(r:∀s' V',Sx.Own V0 V' e sz s' ((xs++[x]).flatMap row)->Q (.slice s'.p s'.n s'.c) V'):
  GenK xE (.call {callee:=.builtin .append,args:=#[y,z],argTypes:=#[t,t]}) ty vals (V.set b (.cells (row x).toArray e (0,0))) Q:=
 A (s:=s) (u:=⟨some ⟨b,0,none⟩,1,1⟩) (xs:=xs) (ys:=[x]) f w (o.new h _) (qAc.cells (xs:=[x]) (row:=row) mss (by simp) j (by simp) (by simp)) (by simpa using g) r
section
variable{V:Mem}{xs:List Int}{l:Sl}{size:Int}
theorem c16:PP 16 [.int .i64 size] V (.bool (decide (1<=size/\size<=64))):=by
 refine x16 ?_;refine⟨λh=>?_,λh=>?_⟩;·simp_all
 grind
theorem c43(y:qAc V l 1 (xs.map qAe))(h:∀b∈xs,0<=b/\b<=1048576)(Q:xs.length<=2147483648):PP 43 [l.v,.int .i64 size] V (.int .i64 (qCz xs size)):=by
 refine x43 ?_;refine loop3b (mk:=.int .i64) (mc:=.int .i64) (b0:=-1) (c0:=0) qCZ qCZ xs.length (λi a b V1=>V1=V/\a=(qCY (xs.take i)).1/\b=((qCY (xs.take i)).2:Int)) ⟨rfl,rfl,rfl⟩ ?_;rintro i a b V1 J P ⟨rfl,rfl,rfl⟩ j;obtain⟨h1,h2,h3,h4⟩:=qDk (xs.take i);have h4:=h4 λx r=>(h x (List.mem_of_mem_take r)).1;have A:(qCY (xs.take i)).2<=i:=by
  grind[uO,uQ,uK]
 have G:(qCY (xs.take i)).1<=1048576:=by
  grind
 refine⟨λf=>?_,λo=>?_⟩
 ·obtain⟨x,Z,r,-,t,w,z,g⟩:=y.get f;have e:qCY (xs.take (i+1))=lastS (qCY (xs.take i)) x:=by rw[qBc r,qKU]
  have u:=y.succ f;refine⟨w,z,f,_,g,λc=>⟨w,z,f,_,g,w,z,f,_,g,λ_=>⟨⟨by decide,by decide⟩,u,j t _ _ _ ⟨rfl,?_,?_⟩⟩,λY=>absurd rfl Y⟩,λc=>⟨w,z,f,_,g,λH=>⟨⟨by omega,by omega⟩,u,j t _ _ _ ⟨rfl,?_,?_⟩⟩,λH=>⟨u,j t _ _ _ ⟨rfl,?_,?_⟩⟩⟩⟩;all_goals
   rw[e];unfold lastS
  ·simp_all
  ·simp_all
  ·simp_all
  ·simp_all
  ·grind
  grind
 ·have W:=(y.done o).2;rw[wx W]at G h2⊢;unfold qCz;refine⟨λc=>⟨⟨by omega,by omega⟩,?_⟩,λc=>⟨λH=>⟨⟨by omega,by omega⟩,?_⟩,λH=>?_⟩⟩;·simp_all
  ·simp_all
  grind
theorem c25(Z:qAc V l 1 (xs.map qAe)):PP 25 [l.v,.int .i64 size] V (.bool (plB xs size)):=by
 obtain⟨R,Y⟩:∃R:Ending->Mem->Prop,R=λe V'=>e=.returned (.bool (plB xs size))/\V.sub V':=⟨_,rfl⟩;refine Pur.mk ?_;rw[<-Y];refine x25 ?_;have hn:=Z.n_eq;have no:∀{V'},V.sub V'->¬(xs.length<=4096/\Plc xs size)->R (.returned (.bool false)) V':=λU h=>by
  rw[Y,plB_false h];exact⟨rfl,U⟩
 refine⟨λW=>no (Mem.sub.refl _) λh=>?_,λW=>?_⟩;·omega
 have W:¬4096<(l.n:Int):=W;refine mk31 (n:=4096) rfl rfl (by decide) λg Q=>⟨⟨some ⟨g,0,none⟩,4096,4096⟩,rfl,?_⟩;have A:=qDI Q (n:=4096) (by decide);obtain⟨V1,I⟩:∃V1,V1=V.set g (.cells (madeCells ((xa .i64 0).cells) (4096*1)) 3 (0,0)):=⟨_,rfl⟩;rw[<-I]at A⊢;obtain⟨gs,M⟩:∃gs:Sl,gs=⟨some ⟨g,0,none⟩,4096,4096⟩:=⟨_,rfl⟩;rw[<-M]at A⊢;refine qAM (mk:=.bool) (b0:=false) xs.length (λi V2=>Plc (xs.take i) size/\∃C:List Int,Sx.Own V V2 3 1 gs (C.flatMap qAe)/\C.length=4096/\∀j:Nat,j<4096->C[j]?=some (((xs.take i).count (j:Int):Nat):Int)) ⟨by rw[vO];exact Plc.nil,_,A,uR,λj hj=>by grind⟩ ?_;rintro i b V2 J hi ⟨L,C,a,X,B⟩ hJ;have z:=Z.sub a.sub;refine⟨λf=>?_,λD=>?_⟩
 ·obtain⟨x,hxm,r,-,E,H,G,t⟩:=z.get f;refine⟨H,G,f,_,t,λh1=>no a.sub λP=>qHB r (.inl (by omega)) P.2,λh1=>⟨H,G,f,_,t,λh2=>no a.sub λP=>qHB r (.inl (by omega)) P.2,λh2=>?_⟩⟩;have h1:¬x<0:=h1;have h2:¬4096<=x:=h2;obtain⟨q,rfl⟩:∃q:Nat,x=(q:Int):=⟨x.toNat,by omega⟩;have T:q<4096:=by omega
  obtain⟨K,S,c3,c4⟩:=qCy (a.rows (λ_=>rfl) (by decide)) (B q T);have e:=qEm (y:=(q:Int)) r;rw[if_pos rfl]at e;have hcl:(xs.take i).count (q:Int)<=i:=uO uQ (by grind);refine⟨H,G,f,_,t,H,G,f,_,t,K,S,c3,_,c4,⟨by omega,by omega⟩,K,S,c3,?_⟩;show StT (qAa gs.p (q*1)) 0 _ _ _;rw[vj];refine Own.store a (i:=q) (by rw[qEF];omega) λV3 u _=>?_;rw[qEE]at u;have w:∀j:Nat,j<4096->(C.set q ((((xs.take i).count (q:Int):Nat):Int)+1))[j]?=some (((xs.take (i+1)).count (j:Int):Nat):Int):=λj hj=>by
   have ej:=qEm (y:=(j:Int)) r;by_cases c:q=j
   ·subst c;rw[vq (by omega),e];rfl
   ·rw[if_neg (by omega)]at ej;grind
  obtain⟨-,-,-,o⟩:=qCy (Z.sub u.sub) r;obtain⟨-,-,-,c5⟩:=qCy (u.rows (λ_=>rfl) (by decide)) (w q T);refine⟨H,G,f,_,o,K,S,c3,_,c5,λh=>no u.sub λP=>qHB r (.inr h) P.2,λh3=>⟨z.succ f,hJ E _ _ ⟨plc_next L r (by omega) (Int.not_lt.1 h3),_,u,by simp[X],w⟩⟩⟩
 ·have hd:=(z.done D).2;rw[wx hd]at L;rw[Y,qFF.2 ⟨by omega,L⟩];exact⟨rfl,a.sub⟩
end
end Go.Proofs
namespace Go.Proofs
open Go Go.Sx
def qEa(most:Nat)(but l:List Int)(y:Int):List Int:=if l.length<most/\y∉l/\y∉but then l++[y]else l
def bfsP(d:Ds)(m:Mm)(most:Nat)(but:List Int):Nat->List Int->Nat->List Int
 |0,l,_=>l
 |f+1,l,i=>match l[i]? with|some x=>bfsP d m most but f ((qAB d m x).foldl (qEa most but) l) (i+1)|none=>l
def qDc(d:Ds)(m:Mm)(l:List Int)(most:Nat)(but:List Int):List Int:=bfsP d m most but (m.nodes.length+1) l 0
def qHx(l:List Int)(n:Nat):List Int:=l++((zB n).map λi:Nat=>(i:Int)+1).filter λx=>decide (x∉l)
structure Nds (N:Nat)(l:List Int):Prop where
 nd:l.Nodup
 rng:∀x∈l,1<=x/\x<=(N:Int)
def allN(N:Nat):List Int:=(zB N).map λi:Nat=>(i:Int)+1
theorem allN_len(N:Nat):(allN N).length=N:=by grind[allN]
theorem mem_allN{N:Nat}{x:Int}:x∈allN N↔1<=x/\x<=(N:Int):=by
 unfold allN;rw[List.mem_map];constructor;·grind
 ·intro h;exact⟨(x-1).toNat,List.mem_range.2 (by omega),by omega⟩
theorem allN_nd(N:Nat):(allN N).Nodup:=uT _ (λa b h=>by omega) uU
theorem Nds.nil{N:Nat}:Nds N []:=⟨List.nodup_nil,by simp⟩
theorem Nds.len{N:Nat}{l:List Int}(h:Nds N l):l.length<=N:=by
 have:=nodup_le l (allN N) h.nd λx g=>mem_allN.2 (h.rng x g);rwa [allN_len]at this
theorem Nds.snoc{N:Nat}{l:List Int}(h:Nds N l){y:Int}(t:1<=y/\y<=(N:Int))(f:y∉l):Nds N (l++[y]):=by
 refine⟨?_,λx g=>?_⟩
 ·rw[vk];exact⟨h.nd,by simp,λa u b w e=>f (by simp_all)⟩
 ·rcases xd.1 g with g|g;·exact h.rng x g
  simp_all
theorem Nds.add{N most:Nat}{but l:List Int}(h:Nds N l){y:Int}(g:1<=y/\y<=(N:Int)):Nds N (qEa most but l y):=by
 unfold qEa;split;·rename_i c;exact h.snoc g c.2.1
 ·exact h
theorem add_sub{most:Nat}{but l:List Int}{y x:Int}(h:x∈l):x∈qEa most but l y:=by
 grind[qEa]
structure Spr (N most:Nat)(but l0 l:List Int):Prop where
 nds:Nds N l
 sub:∀x∈l0,x∈l
 new:∀x∈l,x∈l0∨x∉but
 cap:l.length<=most∨l.length<=l0.length
theorem Spr.refl{N most:Nat}{but l:List Int}(h:Nds N l):Spr N most but l l:=⟨h,λ_ h=>h,λ_ h=>.inl h,.inr (yV _)⟩
theorem Spr.add{N most:Nat}{but l0 l:List Int}(h:Spr N most but l0 l){y:Int}(f:1<=y/\y<=(N:Int)):Spr N most but l0 (qEa most but l y):=by
 refine⟨h.nds.add f,λx g=>add_sub (h.sub x g),λx g=>?_,?_⟩
 ·unfold qEa at g;split at g
  ·rename_i c;rcases xd.1 g with g|g;·exact h.new x g
   simp_all
  ·exact h.new x g
 ·unfold qEa;split;·grind
  ·exact h.cap
theorem Spr.fold{N most:Nat}{but l0:List Int}:∀(ys l:List Int),Spr N most but l0 l->(∀y∈ys,1<=y/\y<=(N:Int))->Spr N most but l0 (ys.foldl (qEa most but) l)
 |[],_,h,_=>h
 |y::ys,l,h,g=>Spr.fold ys _ (h.add (g y (by simp))) λz f=>g z (by simp[f])
section
variable{d:Ds}{m:Mm}{most:Nat}{but:List Int}
theorem Spr.bfs(hv:qAy d m=true){l0:List Int}:∀(f:Nat)(l:List Int)(i:Nat),Spr m.nodes.length most but l0 l->Spr m.nodes.length most but l0 (bfsP d m most but f l i)
 |0,_,_,h=>h
 |f+1,l,i,h=>by
  unfold bfsP;split;·exact Spr.bfs hv f _ _ (h.fold _ _ ((qHT hv).2 _))
  ·exact h
theorem qIw(hv:qAy d m=true){l:List Int}(h:Nds m.nodes.length l):Spr m.nodes.length most but l (qDc d m l most but):=Spr.bfs hv _ _ _ (Spr.refl h)
end
theorem qLy{N:Nat}{l:List Int}(h:Nds N l):Nds N (qHx l N)/\∀x,1<=x->x<=(N:Int)->x∈qHx l N:=by
 have hm:∀x,x∈((zB N).map λi:Nat=>(i:Int)+1).filter (λx=>decide (x∉l))↔(1<=x/\x<=(N:Int))/\x∉l:=λx=>by
  rw[List.mem_filter,decide_eq_true_eq];exact and_congr_left λ_=>mem_allN
 refine⟨⟨?_,λx g=>?_⟩,λx h1 h2=>?_⟩
 ·unfold qHx;rw[vk];refine⟨h.nd,(allN_nd N).filter _,λa f b t e=>?_⟩;simp_all
 ·rcases xd.1 g with g|g;·exact h.rng x g
  grind
 grind[qHx,inr]
structure qFv (N:Nat)(O:List Int)(size:Nat)(out:List Int):Prop where
 len:out.length=N
 at_:∀(i:Nat)(n:Int),O[i]?=some n->out[(n-1).toNat]?=some ((i/size:Nat):Int)
theorem qFv.eq{N size:Nat}{O a b:List Int}(h:qFv N O size a)(k:qFv N O size b)(f:∀x,1<=x->x<=(N:Int)->x∈O):a=b:=by
 refine zx λj=>?_;by_cases t:j<N
 ·obtain⟨i,g⟩:=xg.1 (f ((j:Int)+1) (by omega) (by omega));have h1:=h.at_ i _ g;have h2:=k.at_ i _ g;simp_all
 ·rw[uV (by rw[h.len];omega),uV (by rw[k.len];omega)]
theorem plc_of{N size:Nat}{out:List Int}(t:out.length=N)(y:N<=4096)(u:∀b∈out,0<=b/\b<(N:Int))(f:∀b∈out,∃S:List Int,S.length<=size/\∀j:Nat,out[j]?=some b->((j:Int)+1)∈S):Plc out size/\Low out:=by
 refine⟨⟨λb h=>by grind,λb h=>?_⟩,λb h=>by simp_all⟩;obtain⟨S,w,g⟩:=f b h;have e:out.count b=(((zB out.length).filter λj=>decide (out[j]?=some b)).map λj:Nat=>(j:Int)+1).length:=by
  rw[x7];clear g w h f u t;induction out using qLr with
  |h0=>rfl
  |h l x z=>
   rw[uH,z,zw,xe,uW,List.filter_append,zw];grind[List.filter_congr,List.getElem?_append_left]
 have h1:=nodup_le (((zB out.length).filter λj=>decide (out[j]?=some b)).map λj:Nat=>(j:Int)+1) S (uT _ (λa b h=>by omega) (uU.filter _)) λx r=>by
  grind
 omega
theorem qFv.plc{N size:Nat}{O out:List Int}(h:qFv N O size out)(y:∀x,1<=x->x<=(N:Int)->x∈O)(r:Nds N O)(v:1<=size)(o:N<=4096):Plc out size/\Low out:=by
 have at1:∀(j:Nat)(b:Int),out[j]?=some b->∃i:Nat,O[i]?=some ((j:Int)+1)/\b=((i/size:Nat):Int):=λj b f=>by
  have t:j<N:=by rw[<-h.len];grind
  obtain⟨i,u⟩:=xg.1 (y ((j:Int)+1) (by omega) (by omega));have h1:=h.at_ i _ u;grind
 refine plc_of h.len o (λb f=>?_) λb f=>?_
 ·obtain⟨j,t⟩:=xg.1 f;obtain⟨i,u,rfl⟩:=at1 j b t;have h1:=r.len;have h2:=(yv.1 u).1;have h3:=uX i size;grind
 ·obtain⟨j,t⟩:=xg.1 f;obtain⟨i,u,rfl⟩:=at1 j b t;refine⟨(O.drop (i/size*size)).take size,by grind,λa w=>?_⟩;obtain⟨g,z,e⟩:=at1 a _ w;have e:g/size=i/size:=by omega
  have a1:=Nat.div_add_mod g size;have a2:=Nat.mod_lt g (show 0<size by omega);rw[e,Nat.mul_comm]at a1;refine xg.2 ⟨g-i/size*size,?_⟩;rw[List.getElem?_take,if_pos (by omega),List.getElem?_drop,show i/size*size+(g-i/size*size)=g by omega];exact z
structure qKx (N:Nat)(size:Nat)(cl:List (List Int))(out:List Int):Prop where
 len:out.length=N
 at_:∀(i:Nat)(c:List Int),cl[i]?=some c->∀n∈c,out[(n-1).toNat]?=some (i:Int)
theorem qKx.eq{N size:Nat}{cl:List (List Int)}{a b:List Int}(h:qKx N size cl a)(k:qKx N size cl b)(t:∀x,1<=x->x<=(N:Int)->∃c∈cl,x∈c):a=b:=by
 refine zx λj=>?_;by_cases w:j<N
 ·obtain⟨c,u,g⟩:=t ((j:Int)+1) (by omega) (by omega);obtain⟨i,f⟩:=xg.1 u;have h1:=h.at_ i _ f _ g;have h2:=k.at_ i _ f _ g;simp_all
 ·rw[uV (by rw[h.len];omega),uV (by rw[k.len];omega)]
theorem qKx.plc{N size:Nat}{cl:List (List Int)}{out:List Int}(h:qKx N size cl out)(w:∀x,1<=x->x<=(N:Int)->∃c∈cl,x∈c)(z:∀c∈cl,c.length<=size)(a:cl.length<=N)(y:N<=4096):Plc out size/\Low out:=by
 have at1:∀(j:Nat)(b:Int),out[j]?=some b->∃(i:Nat)(c:List Int),cl[i]?=some c/\((j:Int)+1)∈c/\b=(i:Int):=λj b g=>by
  have f:j<N:=by rw[<-h.len];grind
  obtain⟨c,t,r⟩:=w ((j:Int)+1) (by omega) (by omega);obtain⟨i,u⟩:=xg.1 t;have h1:=h.at_ i _ u _ r;grind
 refine plc_of h.len y (λb g=>?_) λb g=>?_
 ·obtain⟨j,f⟩:=xg.1 g;grind
 ·obtain⟨j,f⟩:=xg.1 g;obtain⟨i,c,u,-,rfl⟩:=at1 j b f;refine⟨c,z c (xp u),λe o=>?_⟩;grind
end Go.Proofs
namespace Go.Proofs
open Go Go.Sx
def qKe(d:Ds)(m:Mm)(size:Nat)(s:List (List Int))(n:Int):List (List Int):=if n∈s.flatten then s else s++[qDc d m [n] size s.flatten]
def cluP(d:Ds)(m:Mm)(size:Nat)(O:List Int):List (List Int):=O.foldl (qKe d m size) []
structure CluI (N size:Nat)(s:List (List Int)):Prop where
 nds:Nds N s.flatten
 all:∀c∈s,c≠[]/\c.length<=size
theorem CluI.len{N size:Nat}{s:List (List Int)}(h:CluI N size s):s.length<=N:=by
 have h1:∀s:List (List Int),(∀c∈s,c≠[])->s.length<=s.flatten.length:=λs=>by
  induction s with
  |nil=>simp_all
  |cons c s f=>
   grind[uN,List.flatten_cons,zw,List.length_cons]
 exact uO (h1 s λc g=>(h.all c g).1) h.nds.len
section
variable{d:Ds}{m:Mm}{size:Nat}
theorem clu_new(hv:qAy d m=true)(t:1<=size){but:List Int}{n:Int}(g:1<=n/\n<=(m.nodes.length:Int))(u:n∉but):Nds m.nodes.length (qDc d m [n] size but)/\n∈qDc d m [n] size but/\(∀x∈qDc d m [n] size but,x∉but)/\(qDc d m [n] size but).length<=size:=by
 have h:=qIw (most:=size) (but:=but) hv (l:=[n]) (Nds.nil.snoc g (by simp));refine⟨h.nds,h.sub n (by simp),λx f=>?_,?_⟩
 ·rcases h.new x f with h|h;·simp_all
  ·exact h
 ·rcases h.cap with h|h;·exact h
  grind
theorem CluI.step(hv:qAy d m=true)(f:1<=size){s:List (List Int)}(h:CluI m.nodes.length size s){n:Int}(t:1<=n/\n<=(m.nodes.length:Int)):CluI m.nodes.length size (qKe d m size s n)/\n∈(qKe d m size s n).flatten/\∀x∈s.flatten,x∈(qKe d m size s n).flatten:=by
 unfold qKe;by_cases c:n∈s.flatten;·simp_all
 ·rw[if_neg c];obtain⟨h1,h2,h3,h4⟩:=clu_new hv f t c;rw[yL,uY];refine⟨⟨?_,λx g=>?_⟩,by simp[h2],λx g=>by simp_all⟩
  ·rw[yL,uY];refine⟨?_,λx g=>?_⟩
   ·rw[vk];exact⟨h.nds.nd,h1.nd,λa w b u e=>h3 b u (by simp_all)⟩
   ·rcases xd.1 g with g|g;·exact h.nds.rng x g
    ·exact h1.rng x g
  ·rcases xd.1 g with g|g;·exact h.all x g
   grind
theorem clu_ok(hv:qAy d m=true)(f:1<=size):∀(O:List Int)(s:List (List Int)),CluI m.nodes.length size s->(∀x∈O,1<=x/\x<=(m.nodes.length:Int))->CluI m.nodes.length size (O.foldl (qKe d m size) s)/\∀x,x∈O∨x∈s.flatten->x∈(O.foldl (qKe d m size) s).flatten
 |[],s,h,_=>⟨h,λx g=>g.resolve_left (by simp)⟩
 |n::O,s,h,t=>by
  obtain⟨h1,h2,h3⟩:=h.step hv f (t n (by simp));obtain⟨u,w⟩:=clu_ok hv f O _ h1 λx g=>t x (by simp[g]);grind
def qBM(d:Ds)(m:Mm):List Int:=qHx (qBy d m).order m.nodes.length
def firstP(d:Ds)(m:Mm):List Int:=(tgt d.globals m.globals).foldl (qEa (m.nodes.length+1) []) []
def qJW(d:Ds)(m:Mm):List Int:=qHx (qDc d m (firstP d m) m.nodes.length []) m.nodes.length
def qCu(d:Ds)(m:Mm)(k:Int):List Int:=if k=1 then qHx [] m.nodes.length else if k=2 then qBM d m else qJW d m
theorem qGq(hv:qAy d m=true):Nds m.nodes.length (qBM d m)/\∀x,1<=x->x<=(m.nodes.length:Int)->x∈qBM d m:=
 qLy ⟨(qFA hv).dup,(qFA hv).rng⟩
theorem first_spr(hv:qAy d m=true):Spr m.nodes.length (m.nodes.length+1) [] [] (firstP d m):=(Spr.refl Nds.nil).fold _ _ (qHT hv).1
theorem qID(hv:qAy d m=true)(k:Int):Nds m.nodes.length (qCu d m k)/\∀x,1<=x->x<=(m.nodes.length:Int)->x∈qCu d m k:=by
 unfold qCu;split;·exact qLy Nds.nil
 ·split;·exact qGq hv
  ·exact qLy (qIw hv (first_spr hv).nds).nds
def qAJ(d:Ds)(m:Mm)(k:Int)(size:Nat)(out:List Int):Prop:=if k<4 then qFv m.nodes.length (qCu d m k) size out else qKx m.nodes.length size (cluP d m size (qBM d m)) out
theorem place_eq(hv:qAy d m=true)(f:1<=size){k:Int}{a b:List Int}(h:qAJ d m k size a)(g:qAJ d m k size b):a=b:=by
 unfold qAJ at h g;split at h
 ·rename_i c;rw[if_pos c]at g;exact h.eq g (qID hv k).2
 ·rename_i c;rw[if_neg c]at g;refine h.eq g λx h1 h2=>?_;obtain⟨-,t⟩:=clu_ok hv f (qBM d m) [] ⟨Nds.nil,by simp⟩ (qGq hv).1.rng;have:=t x (.inl ((qGq hv).2 x h1 h2));obtain⟨c,h1,h2⟩:=uZ.1 this;exact⟨c,h1,h2⟩
theorem qGL(hv:qAy d m=true)(g:1<=size){k:Int}{a:List Int}(h:qAJ d m k size a):Plc a size/\Low a/\a.length=m.nodes.length:=by
 have f:=(qAh hv).2.1;unfold qAJ at h;split at h
 ·obtain⟨h1,h2⟩:=qID hv k;exact⟨(h.plc h2 h1 g f).1,(h.plc h2 h1 g f).2,h.len⟩
 ·obtain⟨t,u⟩:=clu_ok hv g (qBM d m) [] ⟨Nds.nil,by simp⟩ (qGq hv).1.rng;have:=h.plc (λx h1 h2=>uZ.1 (u x (.inl ((qGq hv).2 x h1 h2)))) (λc w=>(t.all c w).2) t.len f;exact⟨this.1,this.2,h.len⟩
end
end Go.Proofs
namespace Go.Proofs
open Go Go.Sx
attribute [local irreducible] Go.Sx.Tri
section
variable{V:Mem}{d:Ds}{m:Mm}
def TgtP(V:Mem)(xs:List Int):Ending->Mem->Prop:=λe V'=>∃s:Sl,e=.returned s.v/\Sx.Own V V' 3 1 s (xs.flatMap qAe)
theorem tgt_len(fs:List Fld)(vs:List Int)(i:Nat):(qLl fs vs i).length<=fs.length:=by
 grind[qLl]
theorem qLA{fs:List Fld}{vs:List Int}(h:qAi d m fs vs=true){i:Nat}{f:Fld}{v:Int}(t:fs[i]?=some f)(hv:vs[i]?=some v)(g:qBt f.ty=false):qCR (f,v)=decide (0<v):=by
 unfold qCR;rw[g];by_cases c:v=0;·simp[c]
 ·have:=qKI h t hv g c;simp[c];omega
theorem c133{fl W:Sl}{fs:List Fld}{vs:List Int}(I:qAc V fl 2 (fs.map Fld.row))(hv:qAc V W 1 (vs.map qAe))(h:qAi d m fs vs=true)(K:fs.length<=4096):Tri xE 133 #[fl.v,W.v] V (TgtP V (tgt fs vs)):=by
 obtain⟨R,Q⟩:∃R,R=TgtP V (tgt fs vs):=⟨_,rfl⟩;rw[<-Q];refine x133 ?_;have S:=qFw h;refine qFk (mk:=λs:Sl=>.slice s.p s.n s.c) (b0:=⟨none,0,0⟩) qAH fs.length (λi s V1=>Sx.Own V V1 3 1 s ((qLl fs vs i).flatMap qAe)) (Own.nil (Mem.sub.refl _) _ _) ?_;rintro i s V1 J T o M;have t:=I.sub o.sub;have y:=hv.sub o.sub;refine⟨λu=>?_,λj=>?_⟩
 ·obtain⟨f,-,L,-,r,X,B,z⟩:=t.get u;have a:=yu (l:=vs) (i:=i) (by omega);obtain⟨x,H⟩:∃x,x=vs[i]'(by omega):=⟨_,rfl⟩;rw[<-H]at a;obtain⟨p1,P,p3,A⟩:=qCy y a;have e:=qEe L a;have w:=t.succ u;have g:qCR (f,x)=false->J [.slice s.p s.n s.c,.int .i64 ((i:Int)+1)] V1:=λC=>M r s _ (by simp_all);have pl:qBt f.ty=true->qCR (f,x)=false:=λh=>by grind[qCR]
  refine⟨X,B,u,_,_,z,λc=>⟨w,g (pl (qFC (.inl c)))⟩,λG=>⟨λc=>⟨w,g (pl (qFC (.inr c)))⟩,λZ=>⟨p1,P,p3,_,A,λc=>?_,λc=>⟨w,g ?_⟩⟩⟩⟩;all_goals
   have D:qBt f.ty=false:=by
    have G:¬f.ty=qAT:=G;have Z:¬f.ty=qAz:=Z;unfold qBt;simp[G,Z]
  ·have C:qCR (f,x)=true:=by grind[qLA,decide_eq_true]
   refine⟨p1,P,p3,_,A,λb Y=>?_⟩;have E:=tgt_len fs vs i;refine oneG (row:=qAe) qCU (x:=x) (s:=s) o Y (by omega) rfl rfl (λ_=>rfl) λs' V' U=>?_;grind
  grind[qLA,decide_eq_false]
 ·rw[qIy (t.done j).2]at o;rw[Q];exact⟨s,rfl,o⟩
theorem c88{fl P:Sl}{fs:List Fld}{vs:List Int}(X:qAc V fl 2 (fs.map Fld.row))(hv:qAc V P 1 (vs.map qAe))(h:qAi d m fs vs=true)(S:fs.length<=4096):Tri xE 88 #[fl.v,P.v] V (TgtP V (tgt fs vs)):=by
 obtain⟨R,A⟩:∃R,R=TgtP V (tgt fs vs):=⟨_,rfl⟩;rw[<-A];refine x88 ?_;have T:=qFw h;refine qFk (mk:=λs:Sl=>.slice s.p s.n s.c) (b0:=⟨none,0,0⟩) qAH fs.length (λi s V1=>Sx.Own V V1 3 1 s ((qLl fs vs i).flatMap qAe)) (Own.nil (Mem.sub.refl _) _ _) ?_;rintro i s V1 J U o B;have w:=X.sub o.sub;have j:=hv.sub o.sub;refine⟨λt=>?_,λr=>?_⟩
 ·obtain⟨f,-,C,-,a,H,I,u⟩:=w.get t;have G:=yu (l:=vs) (i:=i) (by omega);obtain⟨x,Z⟩:∃x,x=vs[i]'(by omega):=⟨_,rfl⟩;rw[<-Z]at G;obtain⟨p1,M,p3,L⟩:=qCy j G;have e:=qEe C G;have z:=w.succ t;have y:=qAf (n:=i*2) H;have g:qCR (f,x)=false->J [.slice s.p s.n s.c,.int .i64 ((i:Int)+1)] V1:=λD=>B a s _ (by simp_all);have pl:qBt f.ty=true->qCR (f,x)=false:=λh=>by grind[qCR]
  refine⟨H,I,t,y,_,_,u,λc=>⟨z,g (pl (qFC (.inl c)))⟩,λY=>⟨H,I,t,y,_,_,u,λc=>⟨z,g (pl (qFC (.inr c)))⟩,λW=>⟨p1,M,p3,_,L,λc=>?_,λc=>⟨z,g ?_⟩⟩⟩⟩;all_goals
   have E:qBt f.ty=false:=by
    have Y:¬f.ty=qAT:=Y;have W:¬f.ty=qAz:=W;unfold qBt;simp[Y,W]
  ·have D:qCR (f,x)=true:=by grind[qLA,decide_eq_true]
   refine⟨p1,M,p3,_,L,λb Q=>?_⟩;have K:=tgt_len fs vs i;refine oneG (row:=qAe) qCU (x:=x) (s:=s) o Q (by omega) rfl rfl (λ_=>rfl) λs' V' o'=>?_;grind
  grind[qLA,decide_eq_false]
 ·rw[qIy (w.done r).2]at o;rw[A];exact⟨s,rfl,o⟩
theorem c49{l:Sl}{xs:List Int}{x:Int}(f:qAc V l 1 (xs.map qAe)):PP 49 [l.v,.int .i64 x] V (.bool (decide (x∈xs))):=by
 refine x49 ?_;refine qAM (mk:=.bool) (b0:=false) xs.length (λi V1=>V1=V/\x∉xs.take i) ⟨rfl,by simp⟩ ?_;rintro i b V1 J e ⟨rfl,t⟩ z;refine⟨λh=>?_,λu=>?_⟩
 ·obtain⟨y,j,r,-,w,o,a,g⟩:=f.get h;refine⟨o,a,h,_,g,λc=>?_,λc=>⟨f.succ h,z w _ _ ⟨rfl,?_⟩⟩⟩;·simp_all
  ·have c:¬y=x:=c;rw[qBc r,xd,List.mem_singleton,not_or];grind
 ·rw[wx (f.done u).2]at t;simp_all
theorem node_at(z:qAy d m=true)(r:Ds.Ok V d)(hm:Mm.Ok V m){n:Int}(Y:1<=n/\n<=(m.nodes.length:Int)):∃(x:Nd)(t:Ty)(j:Nat),m.nodes[(n-1).toNat]?=some x/\x.ty=(j:Int)/\d.types[j]?=some t/\qAt d x.ty=t.fields/\qAB d m n=tgt t.fields x.f/\qAi d m t.fields x.f=true/\
  ¬m.ns.p=none/\(n-1)<(m.ns.n:Int)/\V.rowp m.ns.p ((n-1).toNat*2) 2=some x.row/\¬d.ts.p=none/\(j:Int)<(d.ts.n:Int)/\V.rowp d.ts.p (j*2) 2=some t.row/\qAc V t.fs 2 (t.fields.map Fld.row)/\qAc V x.sl 1 (x.f.map qAe):=by
 obtain⟨p1,W,p3,Q,P⟩:=qAh z;obtain⟨q,G⟩:∃q:Nat,n-1=(q:Int):=⟨(n-1).toNat,by omega⟩;have o:q<m.nodes.length:=by omega
 have w:=yu o;obtain⟨x,a⟩:∃x,x=m.nodes[q]:=⟨_,rfl⟩;rw[<-a]at w;have h:=xp w;have Z:=of_decide_eq_true (p3 x h);obtain⟨j,J⟩:∃j:Nat,x.ty=(j:Int):=⟨x.ty.toNat,by omega⟩;have e:j<d.types.length:=by omega
 have g:=yu e;obtain⟨t,v⟩:∃t,t=d.types[j]:=⟨_,rfl⟩;rw[<-v]at g;have H:qAt d x.ty=t.fields:=by rw[J];exact qAU g rfl
 have A:=hm.nodes.n_eq;have I:=r.types.n_eq;obtain⟨y,-,u,-,-,a1,a2,a3⟩:=hm.nodes.get (i:=q) (by omega);rw[w]at u;cases u;obtain⟨y,-,u,-,-,b1,b2,b3⟩:=r.types.get (i:=j) (by omega);rw[g]at u;cases u;rw[G,xo];refine⟨x,t,j,w,J,g,H,?_,by grind,a1,by omega,a3,b1,by omega,b3,(r.typesOk t (xp g)).fields,(hm.nodesOk x h).rows⟩;simp_all[qAB,xo,tgt,qAt]
theorem c134(hv:qAG d=true)(h:qAy d m=true)(f:Ds.Ok V d)(hm:Mm.Ok V m){n:Int}(u:1<=n/\n<=(m.nodes.length:Int)):Tri xE 134 #[d.v,m.v,.int .i64 n] V (TgtP V (qAB d m n)):=by
 refine x134 ?_;obtain⟨x,t,j,h1,h2,h3,h4,w,z,a1,a2,a3,b1,b2,b3,y,r⟩:=node_at h f hm u;have g:=(qGk hv).2 t (xp h3);have a:=hm.nodes.n_eq;have e:=hm.nodes.cap;have H:=hm.nodes.fit;refine⟨⟨by omega,by omega⟩,a1,by omega,a2,_,_,a3,?_⟩;rw[h2,xo];refine⟨b1,by omega,b2,qAf b1,_,_,b3,Tri.mono (c133 y r z (by omega)) ?_⟩;rintro _ V1 ⟨s,rfl,o⟩;rw[w];exact⟨s,rfl,s,rfl,o⟩
theorem c89(hv:qAG d=true)(h:qAy d m=true)(f:Ds.Ok V d)(hm:Mm.Ok V m){n:Int}(u:1<=n/\n<=(m.nodes.length:Int)):Tri xE 89 #[d.v,m.v,.int .i64 n] V (TgtP V (qAB d m n)):=by
 refine x89 ?_;obtain⟨x,t,j,h1,h2,h3,h4,w,z,a1,a2,a3,b1,b2,b3,y,r⟩:=node_at h f hm u;have g:=(qGk hv).2 t (xp h3);have a:=hm.nodes.n_eq;have e:=hm.nodes.cap;have H:=hm.nodes.fit;refine⟨⟨by omega,by omega⟩,a1,by omega,a2,_,_,a3,?_⟩;rw[h2,xo];refine⟨b1,by omega,b2,qAf b1,_,_,b3,Tri.mono (c88 y r z (by omega)) ?_⟩;rintro _ V1 ⟨s,rfl,o⟩;rw[w];exact⟨s,rfl,s,rfl,o⟩
end
def qDA(b:Bool):List Value:=[.bool b]
theorem qEk(l:List Bool):l.flatMap qDA=l.map uz:=by
 induction l with
 |nil=>rfl
 |cons a l h=>rw[List.flatMap_cons,h];rfl
theorem qJJ(l:List Bool)(i:Nat)(x:Bool):(l.flatMap qDA).set i (.bool x)=(l.set i x).flatMap qDA:=by rw[qEk,qEk,List.map_set]
theorem qJK(l:List Bool):(l.flatMap qDA).length=l.length:=by rw[qEk,x7]
theorem bool_at{V:Mem}{s:Sl}{xs:List Bool}(h:qAc V s 1 (xs.map qDA)){i:Nat}{x:Bool}(g:xs[i]?=some x):¬s.p=none/\(0:Int)<=(i:Int)/\(i:Int)<(s.n:Int)/\V.rowp s.p (i*1) 1=some [.bool x]:=by
 have t:=h.n_eq;have u:=(yv.1 g).1;obtain⟨y,-,f,-,-,h1,h2,h3⟩:=h.get (i:=i) (by omega);rw[g]at f;cases f;exact⟨h1,h2,by omega,h3⟩
theorem rows_same{V V':Mem}{g n c sz:Nat}{rows:List (List Value)}(h:qAc V ⟨some ⟨g,0,none⟩,n,c⟩ sz rows)(e:V' g=V g):qAc V' ⟨some ⟨g,0,none⟩,n,c⟩ sz rows:=⟨h.len,h.cap,h.fit,h.size,λi r f=>by
 obtain⟨a,h1,h2⟩:=h.at_ i r f;cases h1;refine⟨_,rfl,?_⟩;grind[Addr.add,Mem.row]⟩
section
variable{V0 V:Mem}{d:Ds}{m:Mm}{N:Nat}{xs:List Int}{l:Sl}
theorem madeB(n:Nat):(madeCells (uz false).cells n).toList=(yJ n false).map uz:=by
 have h:(uz false).cells=#[uz false]:=by rfl
 rw[h,List.map_replicate];unfold madeCells;refine zx λj=>?_;grind
theorem qJl{g n:Nat}(h:V g=none)(f:n<=2147483648):Sx.Own V (V.set g (.cells (madeCells (uz false).cells (n*1)) 4 (0,0))) 4 1 ⟨some ⟨g,0,none⟩,n,n⟩ ((yJ n false).flatMap qDA):=by
 have e:(madeCells (uz false).cells (n*1)).toList=(yJ n false).flatMap qDA:=by rw[vj,madeB,qEk]
 refine⟨Zn h _,by rw[qEk];simp,.inr ⟨g,_,rfl,h,Mem.set_same _ _ _,yV _,by simp only[maxLen];omega,by rw[size_madeCells],?_⟩⟩;grind[wx,qEk]
theorem mk162{ty:Nat}{x y:Operand}{vals:Operand->Value}{n:Nat}(h:vals x=.int .i64 n)(f:vals y=.int .i64 n)(t:n<=2147483648){q:Value->Mem->Prop}(u:∀g,V g=none->q (.slice (sa g) n n) (V.set g (.cells (madeCells (uz false).cells (n*1)) 4 (0,0)))):GenK xE (.makeSlice 162 x y) ty vals V q:=
 GenK.make (z:=.bool false) (i:=ti 4) Tryz.underlying162 (by kernel_rfl) (by kernel_rfl) (by kernel_rfl) (of_decide_eq_true (by kernel_rfl)) h f t u
def selN(xs:List Int)(j:Nat):List Int:=((zB j).map λi:Nat=>(i:Int)+1).filter λx=>decide (x∉xs)
theorem sel_succ(j:Nat):selN xs (j+1)=selN xs j++if((j:Int)+1)∈xs then[]else[(j:Int)+1]:=by
 grind[selN,uW,Int]
theorem sel_len(j:Nat):(selN xs j).length<=j:=by
 grind[selN]
theorem rest_sel:qHx xs N=xs++selN xs N:=rfl
theorem push_blk{W V V1:Mem}{s s':Sl}{ys zs:List Value}(o:Sx.Own W V 3 1 s ys)(h:Sx.Own (V.but s) V1 3 1 s' zs){g:Nat}(f:V g≠none)(t:¬Blk s g):Sx.Own W V1 3 1 s' zs/\V1 g=V g/\¬Blk s' g:=by
 grind[qEw]
theorem c80(B:Sx.Own V0 V 3 1 l (xs.flatMap qAe))(C:Nds N xs)(hN:N<=4096)(Y:m.ns.n=N):Tri xE 80 #[m.v,l.v] V λe V'=>∃s:Sl,e=.returned s.v/\Sx.Own V0 V' 3 1 s ((qHx xs N).flatMap qAe):=by
 obtain⟨R,D⟩:∃R:Ending->Mem->Prop,R=λe V'=>∃s:Sl,e=.returned s.v/\Sx.Own V0 V' 3 1 s ((qHx xs N).flatMap qAe):=⟨_,rfl⟩;rw[<-D];refine x80 ?_;rw[Y];have U:=C.len;refine⟨⟨by omega,by omega⟩,mk162 (n:=N+1) rfl rfl (by omega) λg hg=>⟨⟨some ⟨g,0,none⟩,N+1,N+1⟩,rfl,?_⟩⟩;have E:=qJl hg (n:=N+1) (by omega);obtain⟨V1,W⟩:∃V1,V1=V.set g (.cells (madeCells ((uz false).cells) ((N+1)*1)) 4 (0,0)):=⟨_,rfl⟩;rw[<-W]at E⊢;have Q:=B.rows (row:=qAe) (xs:=xs) (λ_=>rfl) (by decide);refine qIs xs.length (λi V2=>∃F:List Bool,Sx.Own V V2 4 1 ⟨some ⟨g,0,none⟩,N+1,N+1⟩ (F.flatMap qDA)/\F.length=N+1/\∀j:Nat,j<N+1->F[j]?=some (decide ((j:Int)∈xs.take i))) ⟨_,E,uR,λj K=>by simp_all⟩ ?_;rintro i V2 J hi ⟨F,y,P,r⟩ G;have w:=Q.sub y.sub;refine⟨λf=>?_,λt=>?_⟩
 ·obtain⟨x,A,I,-,M,hp,hz,o⟩:=w.get f;have hr:=C.rng x A;obtain⟨q,rfl⟩:∃q:Nat,x=(q:Int):=⟨x.toNat,by omega⟩;refine⟨hp,hz,f,_,o,nn,by omega,by grind,?_⟩;show StT (qAa (sa g) (q*1)) 0 _ _ _;rw[vj];refine Own.store (s:=⟨some ⟨g,0,none⟩,N+1,N+1⟩) y (i:=q) (by rw[qJK];omega) λZ u _=>?_;rw[qJJ]at u;refine⟨w.succ f,G M _ ⟨_,u,by simp[P],λj K=>?_⟩⟩;rw[qBc I];grind
 ·have hd:=(w.done t).2;rw[wx hd]at r;have L:=y.rows (row:=qDA) (xs:=F) (λ_=>rfl) (by decide);have hgV:V2 g≠none:=by
   obtain⟨cur,hc⟩:=Own.some (c:=g) y ⟨by simp,rfl⟩;rw[hc];simp
  have X:¬Blk l g:=λS=>by
   grind[Own.some]
  refine⟨λn ys Z=>∃(j:Nat)(s:Sl),ys=[s.v,.int .i64 ((j:Int)+1)]/\j<=N/\n=N-j/\Sx.Own V0 Z 3 1 s ((xs++selN xs j).flatMap qAe)/\Z g=V2 g/\¬Blk s g,N,⟨0,l,rfl,uy _,rfl,by rw[show selN xs 0=[]from rfl,vn];exact Own.growS B y.sub,rfl,X⟩,?_⟩;rintro n Z T v6 ⟨j,s,a,K,rfl,os,z,H⟩ J G;simp only[yE,zl,true_and,and_true]at a;obtain⟨h5,rfl⟩:=a;cases qAH _ _ h5;have u:=rows_same L z;refine⟨λf=>?_,λt=>?_⟩
  ·have f:(j:Int)+1<((N+1:Nat):Int):=f;obtain⟨b1,b2,b3,b4⟩:=bool_at u (r (j+1) (by omega));have e:=sel_succ (xs:=xs) j;have hsl:=sel_len (xs:=xs) j;refine⟨b1,by omega,f,_,b4,λc=>⟨⟨by omega,by omega⟩,G (N-(j+1)) _ _ (by omega) ⟨j+1,T,rfl,by omega,rfl,?_,z,H⟩⟩,λc b S=>?_⟩;·simp_all
   ·have c:¬((j:Int)+1)∈xs:=λh=>c (decide_eq_true h);refine oneG (row:=qAe) qCU (x:=(j:Int)+1) (s:=T) os.but S (by grind) rfl rfl (λ_=>rfl) λs' V' o'=>?_;obtain⟨k1,k2,k3⟩:=push_blk os o' (g:=g) (by grind) H;refine⟨s',rfl,⟨by omega,by omega⟩,G (N-(j+1)) _ _ (by omega) ⟨j+1,s',rfl,by omega,rfl,?_,k2.trans z,k3⟩⟩;simp_all
  ·have t:¬(j:Int)+1<((N+1:Nat):Int):=t;obtain rfl:j=N:=by omega
   rw[D,rest_sel];grind
theorem c86(w:qAc V l 1 (xs.map qAe))(a:Nds N xs)(Q:N<=4096):Tri xE 86 #[l.v,.int .i64 N] V λe V'=>∃s:Sl,e=.returned s.v/\Sx.Own V V' 3 1 s ((qHx xs N).flatMap qAe):=by
 obtain⟨R,z⟩:∃R:Ending->Mem->Prop,R=λe V'=>∃s:Sl,e=.returned s.v/\Sx.Own V V' 3 1 s ((qHx xs N).flatMap qAe):=⟨_,rfl⟩;rw[<-z];refine x86 ?_;have H:=a.len;intro b0 u;refine qJU u w (by omega) rfl rfl λs0 V2 G=>⟨s0,rfl,?_⟩;refine⟨λn ys y=>∃(j:Nat)(s:Sl),ys=[s.v,.int .i64 ((j:Int)+1)]/\j<=N/\n=N-j/\Sx.Own V y 3 1 s ((xs++selN xs j).flatMap qAe),N,⟨0,s0,rfl,uy _,rfl,by rw[show selN xs 0=[]from rfl,vn];exact G⟩,?_⟩;rintro n y r P ⟨j,s,g,A,rfl,os⟩ J o;simp only[yE,zl,true_and,and_true]at g;obtain⟨Z,rfl⟩:=g;cases qAH _ _ Z;refine⟨λf=>?_,λt=>?_⟩
 ·have f:(j:Int)+1<=(N:Int):=f;have e:=sel_succ (xs:=xs) j;have Y:=sel_len (xs:=xs) j;refine(c49 (x:=(j:Int)+1) (w.sub os.sub)).call ⟨_,rfl,λc=>⟨⟨by omega,by omega⟩,o (N-(j+1)) _ _ (by omega) ⟨j+1,r,rfl,by omega,rfl,?_⟩⟩,λc b W=>?_⟩;·simp_all
  ·have c:¬((j:Int)+1)∈xs:=λh=>c (decide_eq_true h);refine oneG (row:=qAe) qCU (x:=(j:Int)+1) (s:=r) os W (by grind) rfl rfl (λ_=>rfl) λs' V' I=>?_;refine⟨s',rfl,⟨by omega,by omega⟩,o (N-(j+1)) _ _ (by omega) ⟨j+1,s',rfl,by omega,rfl,?_⟩⟩;simp_all
 ·have t:¬(j:Int)+1<=(N:Int):=t;obtain rfl:j=N:=by omega
  rw[z,rest_sel];grind
end
theorem ntBool:∀(g r:Array Value),Obj.cells g 3 (0,0)≠Obj.cells r 4 (0,0):=λ_ _ h=>by
 simp_all
structure Two (V0 V:Mem)(l gs:Sl)(xs:List Int)(F:List Bool):Prop where
 ol:Sx.Own V0 V 3 1 l (xs.flatMap qAe)
 og:Sx.Own V0 V 4 1 gs (F.flatMap qDA)
structure Thr (V0 V:Mem)(l gs q:Sl)(xs:List Int)(F:List Bool)(ys:List Int):Prop where
 two:Two V0 V l gs xs F
 oq:Sx.Own (λ_=>none) V 3 1 q (ys.flatMap qAe)
 ql:∀c,Blk q c->¬Blk l c
def qEr(N:Nat)(F:List Bool)(but xs:List Int):Prop:=F.length=N+1/\∀j:Nat,j<N+1->F[j]?=some (decide ((j:Int)∈but∨(j:Int)∈xs))
section
variable{V0 V V':Mem}{l gs q:Sl}{xs ys but:List Int}{F:List Bool}{N:Nat}
theorem Two.apart(h:Two V0 V l gs xs F){c:Nat}(g:Blk gs c):¬Blk l c:=λf=>by
 obtain⟨t,h1⟩:=Own.some h.og g;obtain⟨u,h2⟩:=Own.some h.ol f;simp_all
theorem Two.grow(h:Two V0 V l gs xs F)(g:V.sub V'):Two V0 V' l gs xs F:=⟨Own.growS h.ol g,Own.growS h.og g⟩
theorem Thr.apart(h:Thr V0 V l gs q xs F ys){c:Nat}(g:Blk q c):¬Blk gs c:=λf=>by
 obtain⟨t,h1⟩:=Own.some h.two.og f;obtain⟨u,h2⟩:=Own.some h.oq g;simp_all
theorem Thr.mk'(h:Two V0 V l gs xs F)(g:V.sub V')(o:Sx.Own V V' 3 1 q (ys.flatMap qAe)):Thr V0 V' l gs q xs F ys:=⟨h.grow g,o.narrow (λc x h=>by cases h),λc f t=>by
 have h0:=Own.none0 o f;obtain⟨u,h2⟩:=Own.some h.ol t;simp_all⟩
theorem Thr.push(h:Thr V0 V l gs q xs F ys){w:Sl}{x:Int}(o:Sx.Own (V.but l) V' 3 1 w ((xs++[x]).flatMap qAe)):Thr V0 V' w gs q (xs++[x]) F ys:=by
 obtain⟨h1,h2,h3⟩:=qEw h.two.ol o;refine⟨⟨h1,Own.moveB h.two.og h1.sub λg t u f=>?_⟩,Own.moveB h.oq (λc x h=>by cases h) λg t u f=>?_,λc f j=>?_⟩;·rw[h2 g (h.two.apart u) (by rw[f];simp)];exact f
 ·rw[h2 g (h.ql g u) (by rw[f];simp)];exact f
 ·rcases h3 c j with z|z;·exact h.ql c f z
  ·obtain⟨t,y⟩:=Own.some h.oq f;simp_all
theorem Thr.mark(h:Thr V0 V l gs q xs F ys){j:Nat}(z:j<F.length){Q:Mem->Prop}(y:∀V',Thr V0 V' l gs q xs (F.set j true) ys->Q V'):StT (qAa gs.p (j*1)) 0 [.bool true] V Q:=by
 rw[vj];refine Own.store h.two.og (i:=j) (by rw[qJK];exact z) λV' o w=>y V' ?_;rw[qJJ]at o;exact⟨⟨Own.moveB h.two.ol o.sub λg f t u=>by rw[w g λr=>h.two.apart r t];exact u,o⟩,Own.moveB h.oq (λc x h=>by cases h) λg f t u=>by rw[w g (h.apart t)];exact u,h.ql⟩
theorem qEr.mark(h:qEr N F but xs){j:Nat}(g:j<N+1):qEr N (F.set j true) but (xs++[(j:Int)]):=by
 refine⟨by rw[List.length_set];exact h.1,λi f=>?_⟩;by_cases c:j=i
 ·subst c;rw[vq (by rw[h.1];exact g)];simp
 ·rw[vu c,h.2 i f];grind
theorem addStep{d:Ds}{most:Nat}{y:Int}(T:Thr V0 V l gs q xs F ys)(f:qEr N F but xs)(t:Nds N xs)(u:N<=4096)(h:∃g,gs=⟨some ⟨g,0,none⟩,N+1,N+1⟩)(w:1<=y/\y<=(N:Int)){J:Sl->List Int->List Bool->Mem->Prop}:
  (¬gs.p=none/\0<=y/\y<(gs.n:Int))/\V.rowp gs.p (y.toNat*1) 1=some [.bool (decide (y∈but∨y∈xs))]:=by
 obtain⟨g,rfl⟩:=h;obtain⟨j,rfl⟩:∃j:Nat,y=(j:Int):=⟨y.toNat,by omega⟩;obtain⟨b1,b2,b3,z⟩:=bool_at (T.two.og.rows (λ_=>rfl) (by decide)) (f.2 j (by omega));simp_all
end
section
variable{V0 V:Mem}{d:Ds}{m:Mm}{l gs:Sl}{xs but:List Int}{F:List Bool}{most:Nat}
theorem c83(hv:qAG d=true)(G:qAy d m=true)(hd:Ds.Ok V0 d)(hm:Mm.Ok V0 m)(T:Two V0 V l gs xs F)(hF:qEr m.nodes.length F but xs)(hx:Nds m.nodes.length xs)(hgs:∃g,gs=⟨some ⟨g,0,none⟩,m.nodes.length+1,m.nodes.length+1⟩):
  Tri xE 83 #[d.v,m.v,l.v,gs.v,.int .i64 most] V λe V'=>∃s:Sl,e=.returned s.v/\∃t,Two V0 V' s gs (qDc d m xs most but) t/\qEr m.nodes.length t but (qDc d m xs most but):=by
 obtain⟨R,hR⟩:∃R:Ending->Mem->Prop,R=λe V'=>∃s:Sl,e=.returned s.v/\∃t,Two V0 V' s gs (qDc d m xs most but) t/\qEr m.nodes.length t but (qDc d m xs most but):=⟨_,rfl⟩;rw[<-hR];refine x83 ?_;have hN:=(qAh G).2.1;obtain⟨N,hNd⟩:∃N,N=m.nodes.length:=⟨_,rfl⟩;refine⟨λn ys V1=>∃(i:Nat)(s:Sl)(zs:List Int)(t:List Bool),ys=[s.v,.int .i64 i]/\i<=zs.length/\n=N+1-i/\Two V0 V1 s gs zs t/\qEr m.nodes.length t but zs/\Nds m.nodes.length zs/\bfsP d m most but (N+1-i) zs i=qDc d m xs most but,N+1,⟨0,l,xs,F,rfl,uy _,rfl,T,hF,hx,by rw[hNd];rfl⟩,?_⟩;rintro n V1 Z v14 ⟨i,s,zs,F1,u,hi,rfl,T1,hF1,w,Y⟩ J hJ;simp only[yE,zl,true_and,and_true]at u;obtain⟨h5,rfl⟩:=u;cases qAH _ _ h5;have hzl:=w.len;have W:=T1.ol.rows (row:=qAe) (xs:=zs) (λ_=>rfl) (by decide);have s1:=T1.ol.sub;refine⟨λQ=>?_,λX=>?_⟩
 ·obtain⟨x,hxm,hxi,-,hil,hp,hz,B⟩:=W.get Q;have hxr:=w.rng x hxm;refine⟨hp,hz,Q,_,B,Tri.mono (c134 hv G (hd.sub s1) (hm.sub s1) hxr) ?_⟩;rintro _ V2 ⟨q,rfl,oq⟩;have C:=(qHT G).2 x;refine⟨q,rfl,?_⟩;have T2:Thr V0 V2 Z gs q zs F1 (qAB d m x):=Thr.mk' T1 oq.sub oq;refine⟨λn ys V3=>∃(k:Nat)(s:Sl)(f:List Int)(t:List Bool),ys=[s.v,.int .i64 k]/\k<=(qAB d m x).length/\n=(qAB d m x).length-k/\f=((qAB d m x).take k).foldl (qEa most but) zs/\Thr V0 V3 s gs q f t (qAB d m x)/\qEr m.nodes.length t but f/\Nds m.nodes.length f,(qAB d m x).length,⟨0,Z,zs,F1,rfl,uy _,rfl,rfl,T2,hF1,w⟩,?_⟩;rintro n V3 z v18 ⟨k,s3,f,F3,u,hk,rfl,P,L,r,o⟩ J1 D;simp only[yE,zl,true_and,and_true]at u;obtain⟨h5,rfl⟩:=u;cases qAH _ _ h5;have A:=L.oq.rows (row:=qAe) (xs:=qAB d m x) (λ_=>rfl) (by decide);have husn:=(L.two.ol.rows (row:=qAe) (xs:=f) (λ_=>rfl) (by decide)).n_eq;have hul:=o.len;refine⟨λa=>?_,λE=>?_⟩
  ·obtain⟨y,hym,hyi,-,K,hp3,S,I⟩:=A.get a;have U:=C y hym;have M:=A.succ a;have e:((qAB d m x).take (k+1)).foldl (qEa most but) zs=qEa most but f y:=by rw[qBc hyi,vb,<-P];rfl
   have hz4:Nds m.nodes.length (qEa most but f y):=o.add U;obtain⟨⟨a1,a2,a3⟩,a4⟩:=addStep (d:=d) (most:=most) (J:=λ_ _ _ _=>True) L r o hN hgs U;have H:qEa most but f y=f->J1 [z.v,.int .i64 ((k:Int)+1)] V3:=λh=>D ((qAB d m x).length-(k+1)) _ _ (by omega) ⟨k+1,z,f,F3,rfl,K,rfl,by rw[e,h],L,r,o⟩;refine⟨hp3,S,a,_,I,λc1=>⟨a1,a2,a3,_,a4,λc2=>⟨M,H ?_⟩,λc2=>⟨a1,a2,a3,?_⟩⟩,λc1=>⟨M,H ?_⟩⟩;·grind[qEa]
   ·have c1:(z.n:Int)<(most:Int):=c1;have c2:¬(y∈but∨y∈f):=λh=>c2 (decide_eq_true h);rw[not_or]at c2;have ea:qEa most but f y=f++[y]:=by grind[qEa]
    obtain⟨j,rfl⟩:∃j:Nat,y=(j:Int):=⟨y.toNat,by omega⟩;refine L.mark (j:=j) (by rw[r.1];omega) λV4 T4 b hb=>?_;refine oneG (row:=qAe) qCU (x:=(j:Int)) (s:=z) T4.two.ol.but hb (by omega) rfl rfl (λ_=>rfl) λs' V5 o'=>?_;exact⟨s',rfl,M,D ((qAB d m x).length-(k+1)) _ _ (by omega) ⟨k+1,s',f++[(j:Int)],_,rfl,K,rfl,by rw[e,ea],T4.push o',r.mark (by omega),by grind⟩⟩
   grind[qEa]
  ·have hd3:=(A.done E).2;rw[wx hd3]at P;refine⟨W.succ Q,hJ (N+1-(i+1)) _ _ (by omega) ⟨i+1,z,f,F3,rfl,?_,rfl,L.two,r,o,?_⟩⟩
   ·have hs:=Spr.fold (N:=m.nodes.length) (most:=most) (but:=but) (qAB d m x) zs (Spr.refl w) C;have h1:=nodup_le zs f w.nd (by rw[P];exact hs.sub);omega
   ·rw[<-Y,show N+1-i=(N+1-(i+1))+1 by omega];grind[bfsP]
 ·have X:¬(i:Int)<(Z.n:Int):=X;have hzn:=W.n_eq;rw[show N+1-i=(N-i)+1 by omega]at Y;unfold bfsP at Y;grind
end
structure Thw (V0 V:Mem)(l b q:Sl)(xs but ys:List Int):Prop where
 ol:Sx.Own V0 V 3 1 l (xs.flatMap qAe)
 ob:Sx.Own (λ_=>none) V 3 1 b (but.flatMap qAe)
 oq:Sx.Own (λ_=>none) V 3 1 q (ys.flatMap qAe)
 bl:∀c,Blk b c->¬Blk l c
 ql:∀c,Blk q c->¬Blk l c
section
variable{V0 V V':Mem}{l b q:Sl}{xs but ys zs:List Int}
theorem qBT(o:Sx.Own V0 V 3 1 q (ys.flatMap qAe)):Sx.Own (λ_=>none) V 3 1 q (ys.flatMap qAe):=o.narrow λc x h=>by cases h
theorem qCg{q:Sl}{vs:List Value}(o:Sx.Own (λ_=>none) V 3 1 q vs)(h:∀c,Blk q c->V' c=V c):Sx.Own (λ_=>none) V' 3 1 q vs:=Own.moveB o (λc x h=>by cases h) λg f t u=>by simp_all
theorem Thw.push(h:Thw V0 V l b q xs but ys){t:Sl}{x:Int}(o:Sx.Own (V.but l) V' 3 1 t ((xs++[x]).flatMap qAe)):Thw V0 V' t b q (xs++[x]) but ys:=by
 obtain⟨h1,h2,h3⟩:=qEw h.ol o;have ne:∀{s:Sl}{vs:List Value},Sx.Own (λ_=>none) V 3 1 s vs->∀c,Blk s c->V c≠none:=λ{s vs} o c g=>by grind[Own.some]
 have f:∀{s:Sl}{vs:List Value},Sx.Own (λ_=>none) V 3 1 s vs->(∀c,Blk s c->¬Blk l c)->∀c,Blk s c->¬Blk t c:=λ{s vs} o u c g w=>(h3 c w).elim (u c g) (ne o c g);exact⟨h1,qCg h.ob λc g=>h2 c (h.bl c g) (ne h.ob c g),qCg h.oq λc g=>h2 c (h.ql c g) (ne h.oq c g),f h.ob h.bl,f h.oq h.ql⟩
theorem Thw.next(h:Thw V0 V l b q xs but ys){V':Mem}{g:Sl}(f:V.sub V')(o:Sx.Own V V' 3 1 g (zs.flatMap qAe)):Thw V0 V' l b g xs but zs:=⟨Own.growS h.ol f,Own.growS h.ob f,qBT o,h.bl,λc t u=>by
 have h0:=Own.none0 o t;obtain⟨w,h2⟩:=Own.some h.ol u;simp_all⟩
end
section
variable{V0 V:Mem}{d:Ds}{m:Mm}{l b q:Sl}{xs but ys:List Int}{most:Nat}
theorem c50(hv:qAG d=true)(H:qAy d m=true)(hd:Ds.Ok V0 d)(hm:Mm.Ok V0 m)(T:Thw V0 V l b q xs but ys)(hx:Nds m.nodes.length xs):
  Tri xE 50 #[d.v,m.v,l.v,.int .i64 most,b.v] V λe V'=>∃s A zs,e=.returned s.v/\Thw V0 V' s b A (qDc d m xs most but) but zs:=by
 obtain⟨R,hR⟩:∃R:Ending->Mem->Prop,R=λe V'=>∃(s A:Sl)(zs:List Int),e=.returned s.v/\Thw V0 V' s b A (qDc d m xs most but) but zs:=⟨_,rfl⟩;rw[<-hR];refine x50 ?_;have hN:=(qAh H).2.1;obtain⟨N,S⟩:∃N,N=m.nodes.length:=⟨_,rfl⟩;refine⟨λn ys V1=>∃(i:Nat)(s A:Sl)(zs ws:List Int),ys=[s.v,.int .i64 i]/\i<=zs.length/\n=N+1-i/\Thw V0 V1 s b A zs but ws/\Nds m.nodes.length zs/\bfsP d m most but (N+1-i) zs i=qDc d m xs most but,N+1,⟨0,l,q,xs,ys,rfl,uy _,rfl,T,hx,by rw[S];rfl⟩,?_⟩;rintro n V1 I v14 ⟨i,s,q1,zs,ws,u,hi,rfl,U,w,G⟩ J hJ;simp only[yE,zl,true_and,and_true]at u;obtain⟨h5,rfl⟩:=u;cases qAH _ _ h5;have hzl:=w.len;have Z:=U.ol.rows (row:=qAe) (xs:=zs) (λ_=>rfl) (by decide);have s1:=U.ol.sub;refine⟨λY=>?_,λM=>?_⟩
 ·obtain⟨x,hxm,hxi,-,hil,hp,hz,L⟩:=Z.get Y;have hxr:=w.rng x hxm;refine⟨hp,hz,Y,_,L,Tri.mono (c89 hv H (hd.sub s1) (hm.sub s1) hxr) ?_⟩;rintro _ V2 ⟨q,rfl,oq⟩;have X:=(qHT H).2 x;refine⟨q,rfl,?_⟩;have T2:=U.next oq.sub oq;refine⟨λn ys V3=>∃(k:Nat)(s:Sl)(f:List Int),ys=[s.v,.int .i64 k]/\k<=(qAB d m x).length/\n=(qAB d m x).length-k/\f=((qAB d m x).take k).foldl (qEa most but) zs/\Thw V0 V3 s b q f but (qAB d m x)/\Nds m.nodes.length f,(qAB d m x).length,⟨0,I,zs,rfl,uy _,rfl,rfl,T2,w⟩,?_⟩;rintro n V3 z v18 ⟨k,s3,f,u,hk,rfl,B,W,o⟩ J1 C;simp only[yE,zl,true_and,and_true]at u;obtain⟨h5,rfl⟩:=u;cases qAH _ _ h5;have Q:=W.oq.rows (row:=qAe) (xs:=qAB d m x) (λ_=>rfl) (by decide);have D:=W.ol.rows (row:=qAe) (xs:=f) (λ_=>rfl) (by decide);have hbr:=W.ob.rows (row:=qAe) (xs:=but) (λ_=>rfl) (by decide);have husn:=D.n_eq;have hul:=o.len;refine⟨λg=>?_,λE=>?_⟩
  ·obtain⟨y,hym,hyi,-,K,P,j,t⟩:=Q.get g;have hyr:=X y hym;have a:=Q.succ g;have e:((qAB d m x).take (k+1)).foldl (qEa most but) zs=qEa most but f y:=by simp_all[qBc,vb]
   have hz4:Nds m.nodes.length (qEa most but f y):=o.add hyr;have r:qEa most but f y=f->J1 [z.v,.int .i64 ((k:Int)+1)] V3:=λh=>C ((qAB d m x).length-(k+1)) _ _ (by omega) ⟨k+1,z,f,rfl,K,rfl,by rw[e,h],W,o⟩;refine⟨λc1=>⟨P,j,g,_,t,(c49 (x:=y) D).call ⟨_,rfl,λc2=>⟨a,r ?_⟩,λc2=>⟨P,j,g,_,t,(c49 (x:=y) hbr).call ⟨_,rfl,λc3=>⟨a,r ?_⟩,λc3=>⟨P,j,g,_,t,λbb hb=>?_⟩⟩⟩⟩⟩,λc1=>⟨a,r ?_⟩⟩;·grind[qEa]
   ·grind[qEa]
   ·have c1:(z.n:Int)<(most:Int):=c1;have c2:y∉f:=λh=>c2 (decide_eq_true h);have c3:y∉but:=λh=>c3 (decide_eq_true h);have ea:qEa most but f y=f++[y]:=by grind[qEa]
    refine oneG (row:=qAe) qCU (x:=y) (s:=z) W.ol.but hb (by omega) rfl rfl (λ_=>rfl) λs' V5 o'=>?_;exact⟨s',rfl,a,C ((qAB d m x).length-(k+1)) _ _ (by omega) ⟨k+1,s',f++[y],rfl,K,rfl,by rw[e,ea],W.push o',by grind⟩⟩
   grind[qEa]
  ·have hd3:=(Q.done E).2;rw[wx hd3]at B;refine⟨Z.succ Y,hJ (N+1-(i+1)) _ _ (by omega) ⟨i+1,z,q,f,_,rfl,?_,rfl,W,o,?_⟩⟩
   ·have hs:=Spr.fold (N:=m.nodes.length) (most:=most) (but:=but) (qAB d m x) zs (Spr.refl w) X;have h1:=nodup_le zs f w.nd (by rw[B];exact hs.sub);omega
   ·rw[<-G,show N+1-i=(N+1-(i+1))+1 by omega];grind[bfsP]
 ·have M:¬(i:Int)<(I.n:Int):=M;have hzn:=Z.n_eq;rw[show N+1-i=(N-i)+1 by omega]at G;unfold bfsP at G;grind
theorem c81[Tab V](h:qAy d m=true)(g:Ds.Ok V d)(hm:Mm.Ok V m):Tri xE 81 #[d.v,m.v] V (TgtP V (qBM d m)):=by
 refine x81 ?_;refine Tri.mono (c132 h g hm) ?_;rintro _ V1 ⟨o,rfl,f⟩;have R:=qFA h;refine⟨o,_,rfl,Tri.mono (c80 f ⟨R.dup,R.rng⟩ (qAh h).2.1 hm.nodes.n_eq) ?_⟩;rintro _ V2 ⟨s,rfl,t⟩;exact⟨s,rfl,s,rfl,t⟩
theorem c82(hv:qAG d=true)(z:qAy d m=true)(U:Ds.Ok V d)(hm:Mm.Ok V m):Tri xE 82 #[d.v,m.v] V (TgtP V (qJW d m)):=by
 obtain⟨R,hR⟩:∃R,R=TgtP V (qJW d m):=⟨_,rfl⟩;rw[<-hR];refine x82 ?_;obtain⟨p1,hN,p3,p4,p5⟩:=qAh z;have Y:=hm.nodes.n_eq;obtain⟨N,r⟩:∃N,N=m.nodes.length:=⟨_,rfl⟩;rw[Y,<-r];refine⟨⟨by omega,by omega⟩,mk162 (n:=N+1) rfl rfl (by omega) λg hg=>⟨⟨some ⟨g,0,none⟩,N+1,N+1⟩,rfl,?_⟩⟩;have W:=qJl hg (n:=N+1) (by omega);obtain⟨V1,D⟩:∃V1,V1=V.set g (.cells (madeCells ((uz false).cells) ((N+1)*1)) 4 (0,0)):=⟨_,rfl⟩;rw[<-D]at W⊢;have hgl:=(qGk hv).1;refine Tri.mono (c133 (U.globals.sub W.sub) (hm.globals.sub W.sub) p4 (by omega)) ?_;rintro _ V2 ⟨q,rfl,oq⟩;refine⟨q,rfl,?_⟩;have E:=(qHT z).1;have T0:Thr V V2 ⟨none,0,0⟩ ⟨some ⟨g,0,none⟩,N+1,N+1⟩ q [] (yJ (N+1) false) (tgt d.globals m.globals):=Thr.mk' ⟨Own.nil W.sub _ _,W⟩ oq.sub oq;refine⟨λn ys V3=>∃(k:Nat)(s:Sl)(t:List Int)(F:List Bool),ys=[s.v,.int .i64 k]/\k<=(tgt d.globals m.globals).length/\n=(tgt d.globals m.globals).length-k/\t=((tgt d.globals m.globals).take k).foldl (qEa (N+1) []) []/\Thr V V3 s ⟨some ⟨g,0,none⟩,N+1,N+1⟩ q t F (tgt d.globals m.globals)/\qEr N F [] t/\Nds N t,(tgt d.globals m.globals).length,⟨0,_,[],_,rfl,uy _,rfl,rfl,T0,⟨uR,λj hj=>by simp_all⟩,Nds.nil⟩,?_⟩;rintro n V3 Q v13 ⟨k,s3,t,F3,P,hk,rfl,o,a,u,f⟩ J1 A;simp only[yE,zl,true_and,and_true]at P;obtain⟨h5,rfl⟩:=P;cases qAH _ _ h5;have H:=a.oq.rows (row:=qAe) (xs:=tgt d.globals m.globals) (λ_=>rfl) (by decide);have hul:=f.len;refine⟨λw=>?_,λI=>?_⟩
 ·obtain⟨y,K,hyi,-,M,S,L,G⟩:=H.get w;have Z:=E y K;rw[<-r]at Z;have X:=H.succ w;have e:((tgt d.globals m.globals).take (k+1)).foldl (qEa (N+1) []) []=qEa (N+1) [] t y:=by simp_all[qBc,vb]
  have hz4:Nds N (qEa (N+1) [] t y):=f.add Z;obtain⟨⟨a1,a2,a3⟩,a4⟩:=addStep (d:=d) (most:=N+1) (J:=λ_ _ _ _=>True) a u f (by omega) ⟨g,rfl⟩ Z;refine⟨S,L,w,_,G,a1,a2,a3,_,a4,λB=>⟨X,A ((tgt d.globals m.globals).length-(k+1)) _ _ (by omega) ⟨k+1,Q,t,F3,rfl,M,rfl,?_,a,u,f⟩⟩,λB=>⟨a1,a2,a3,?_⟩⟩;·grind[qEa]
  ·have B:¬(y∈[]∨y∈t):=λh=>B (decide_eq_true h);rw[not_or]at B;have ea:qEa (N+1) [] t y=t++[y]:=by grind[qEa]
   obtain⟨j,rfl⟩:∃j:Nat,y=(j:Int):=⟨y.toNat,by omega⟩;refine a.mark (j:=j) (by rw[u.1];omega) λV4 C b hb=>?_;refine oneG (row:=qAe) qCU (x:=(j:Int)) (s:=Q) C.two.ol.but hb (by omega) rfl rfl (λ_=>rfl) λs' V5 o'=>?_;exact⟨s',rfl,X,A ((tgt d.globals m.globals).length-(k+1)) _ _ (by omega) ⟨k+1,s',t++[(j:Int)],_,rfl,M,rfl,by rw[e,ea],C.push o',u.mark (by omega),by simp_all⟩⟩
 ·have T:=(H.done I).2;rw[wx T,r]at o;have o:t=firstP d m:=o;subst o;rw[r]at a u f⊢;have hsv:=a.two.ol.sub;refine Tri.mono (c83 (most:=m.nodes.length) (but:=[]) hv z U hm a.two u f ⟨g,rfl⟩) ?_;rintro _ V4 ⟨s4,rfl,F4,C,hF4⟩;refine⟨s4,rfl,Tri.mono (c80 C.ol (qIw z f).nds hN Y) ?_⟩;rintro _ V5 ⟨s5,rfl,o5⟩;rw[hR];exact⟨s5,rfl,s5,rfl,o5⟩
end
theorem div_wrap{i s:Nat}(hi:i<=1048576)(h:1<=s):xF .i64 ((i:Int).tdiv (s:Int))=((i/s:Nat):Int):=by
 rw[show(i:Int).tdiv (s:Int)=((i/s:Nat):Int)from(Int.ofNat_tdiv i s).symm];have h1:i/s<=i:=uX i s;generalize i/s=q at h1⊢;exact qGY ⟨by show(-9223372036854775808:Int)<=q;omega,by show(q:Int)<=9223372036854775807;omega⟩
section
variable{V0 V:Mem}{N size:Nat}{O zs:List Int}{os out:Sl}{R:RP}
theorem qFE(oo:Sx.Own V0 V 3 1 out (zs.flatMap qAe))(K:zs.length=N)(H:Sx.Own (fun _=>none) V 3 1 os (O.flatMap qAe))(S:∀c,Blk os c->¬Blk out c)(a:Nds N O)(hN:N<=4096)(T:1<=size)
    (U:∀V' z,Sx.Own V0 V' 3 1 out (z.flatMap qAe)->qFv N O size z->R (rV (uL out)) V'):
    ∃(I:Nat->KZ)(n0:Nat),I n0 [uI 0] V/\∀n v,∀g,I n [uI g] v->∀M:KZ,(∀m ys y,m<n->I m ys y->M ys y)->
     Br (g<(os.n:Int))
     (¬os.p=none/\0<=g/\g<(os.n:Int)/\∃f,v.rowp os.p (g.toNat*1) 1=some [uI f]/\
     IR (f-1)/\¬(size:Int)=0/\¬out.p=none/\0<=(f-1)/\(f-1)<(out.n:Int)/\StT (qAa out.p ((f-1).toNat*1)) 0 [uI (xF .i64 ((g).tdiv (size:Int)))] v λV5=>
     IR (g+1)/\M [uI (g+1)] V5)
     (R (rV (uL out)) v):=by
  refine qIs O.length (λi V1=>∃zs:List Int,Sx.Own V0 V1 3 1 out (zs.flatMap qAe)/\zs.length=N/\Sx.Own (λ_=>none) V1 3 1 os (O.flatMap qAe)/\∀(j:Nat) n,j<i->O[j]?=some n->zs[(n-1).toNat]?=some ((j/size:Nat):Int)) ⟨zs,oo,K,H,λj n h=>by omega⟩ ?_;rintro i V1 J hi ⟨u,G,r,h1,ha⟩ hJ;have Z:=h1.rows (row:=qAe) (xs:=O) (λ_=>rfl) (by decide);have hOl:=a.len;refine⟨λw=>?_,λY=>?_⟩
  · obtain⟨n,W,L,-,Q,hp,P,o⟩:=Z.get w;have hnr:=a.rng n W;obtain⟨q,X⟩:∃q:Nat,n-1=(q:Int):=⟨(n-1).toNat,by omega⟩;have A:=G.rows (row:=qAe) (xs:=u) (λ_=>rfl) (by decide);obtain⟨c1,c2,c3,-⟩:=qCy A (yu (show q<u.length by omega));refine⟨hp,P,w,_,o,⟨by omega,by omega⟩,by omega,c1,by omega,by omega,?_⟩;rw[div_wrap (by omega) T,X,xo,vj];refine Own.store G (i:=q) (by rw[qEF];omega) λV2 B hk=>?_;rw[qEE]at B;refine⟨Z.succ w,hJ Q _ ⟨_,B,by simp[r],qCg h1 λc hc=>hk c (S c hc),λj C D t=>?_⟩⟩;by_cases e:j=i
    · subst e;rw[L]at t;cases t;rw[X,xo,vq (by omega)]
    · have hne:C≠n:=λh=>e ((List.getElem?_inj (yv.1 t).1 a.nd).1 (by rw[t,L,h]));have E:=a.rng C (xp t);rw[vu (by omega)];grind
  · have hdn:=(Z.done Y).2;exact U V1 u G ⟨r,λj n D=>ha j n (by grind) D⟩
end
section
variable{V0 V:Mem}{d:Ds}{m:Mm}{l:Sl}
theorem c48(hv:qAG d=true)(f:qAy d m=true)(I:Ds.Ok V d)(hm:Mm.Ok V m){k:Int}(hk:1<=k/\k<=3):Tri xE 48 #[d.v,m.v,.int .i64 k] V (TgtP V (qCu d m k)):=by
 obtain⟨R,A⟩:∃R,R=TgtP V (qCu d m k):=⟨_,rfl⟩;rw[<-A];refine x48 ?_;obtain⟨p1,M,p3,p4,p5⟩:=qAh f;have L:=hm.nodes.n_eq;have hgl:=(qGk hv).1;rw[L];refine⟨λc=>?_,λK=>⟨λc=>?_,λH=>?_⟩⟩
 ·have c:k=1:=c;refine Tri.mono (c86 (l:=qAx) (xs:=[]) qAc.nil Nds.nil M) ?_;rintro _ V1 ⟨s,rfl,o⟩;refine⟨s,rfl,?_⟩;rw[A];unfold qCu;rw[if_pos c];exact⟨s,rfl,o⟩
 ·have c:k=2:=c;refine Tri.mono (c87 f I hm) ?_;rintro _ V1 ⟨s,rfl,o⟩;have S:=qFA f;refine⟨s,_,rfl,Tri.mono (c86 (o.rows (λ_=>rfl) (by decide)) ⟨S.dup,S.rng⟩ M) ?_⟩;rintro _ V2 ⟨T,rfl,o2⟩;refine⟨T,rfl,?_⟩;rw[A];unfold qCu;rw[if_neg K,if_pos c];exact⟨T,rfl,o2.narrow o.sub⟩
 ·refine Tri.mono (c88 I.globals hm.globals p4 (by omega)) ?_;rintro _ V1 ⟨q,rfl,oq⟩;refine⟨q,rfl,?_⟩;have X:=(qHT f).1;have T0:Thw V V1 ⟨none,0,0⟩ ⟨none,0,0⟩ q [] [] (tgt d.globals m.globals):=⟨Own.nil oq.sub _ _,Own.nil (λc x h=>by cases h) _ _,qBT oq,λc h=>absurd rfl h.1,λc _ h=>absurd rfl h.1⟩;refine⟨λn ys U=>∃(k:Nat)(s:Sl)(t:List Int),ys=[s.v,.int .i64 k]/\k<=(tgt d.globals m.globals).length/\n=(tgt d.globals m.globals).length-k/\t=((tgt d.globals m.globals).take k).foldl (qEa (m.nodes.length+1) []) []/\Thw V U s ⟨none,0,0⟩ q t [] (tgt d.globals m.globals)/\Nds m.nodes.length t,(tgt d.globals m.globals).length,⟨0,_,[],rfl,uy _,rfl,rfl,T0,Nds.nil⟩,?_⟩;rintro n U J v13 ⟨k,s3,t,G,hk,rfl,z,a,u⟩ J1 Z;simp only[yE,zl,true_and,and_true]at G;obtain⟨h5,rfl⟩:=G;cases qAH _ _ h5;have r:=a.oq.rows (row:=qAe) (xs:=tgt d.globals m.globals) (λ_=>rfl) (by decide);have B:=a.ol.rows (row:=qAe) (xs:=t) (λ_=>rfl) (by decide);have hul:=u.len;refine⟨λg=>?_,λY=>?_⟩
  ·obtain⟨y,C,hyi,-,W,Q,j,w⟩:=r.get g;have D:=X y C;have P:=r.succ g;have e:((tgt d.globals m.globals).take (k+1)).foldl (qEa (m.nodes.length+1) []) []=qEa (m.nodes.length+1) [] t y:=by simp_all[qBc,vb]
   have hz4:Nds m.nodes.length (qEa (m.nodes.length+1) [] t y):=u.add D;refine⟨Q,j,g,_,w,(c49 (x:=y) B).call ⟨_,rfl,λH=>⟨P,Z ((tgt d.globals m.globals).length-(k+1)) _ _ (by omega) ⟨k+1,J,t,rfl,W,rfl,?_,a,u⟩⟩,λH=>⟨Q,j,g,_,w,λb hb=>?_⟩⟩⟩;·grind[qEa]
   ·have H:y∉t:=λh=>H (decide_eq_true h);have ea:qEa (m.nodes.length+1) [] t y=t++[y]:=by grind[qEa]
    refine oneG (row:=qAe) qCU (x:=y) (s:=J) a.ol.but hb (by omega) rfl rfl (λ_=>rfl) λs' V5 o'=>?_;exact⟨s',rfl,P,Z ((tgt d.globals m.globals).length-(k+1)) _ _ (by omega) ⟨k+1,s',t++[y],rfl,W,rfl,by rw[e,ea],a.push o',by simp_all⟩⟩
  ·have E:=(r.done Y).2;rw[wx E]at z;have z:t=firstP d m:=z;subst z;refine Tri.mono (c50 (most:=m.nodes.length) (but:=[]) hv f I hm a u) ?_;rintro _ V4 ⟨s4,q4,z4,rfl,T4⟩;refine⟨s4,rfl,Tri.mono (c86 (T4.ol.rows (λ_=>rfl) (by decide)) (qIw f u).nds M) ?_⟩;rintro _ V5 ⟨s5,rfl,o5⟩;refine⟨s5,rfl,?_⟩;rw[A];unfold qCu;rw[if_neg K,if_neg H];exact⟨s5,rfl,o5.narrow T4.ol.sub⟩
end
end Go.Proofs
