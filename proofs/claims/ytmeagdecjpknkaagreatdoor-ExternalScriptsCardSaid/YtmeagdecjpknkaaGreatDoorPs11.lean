/- Part 11: no statement of the seat is proved here. -/
import Derived.Test.YtmeagdecjpknkaaGreatDoorPs10
import Derived.Test.YtmeagdecjpknkaaGreatDoorPs04
set_option linter.unusedVariables false
set_option linter.unusedSimpArgs false
open Go.Builtin renaming append_->y6,zeroCells->y8
open Go.Sem renaming run_bind->zK,run_pure->zM
open Go.Result renaming andThen_ok->zL
open List renaming map_toArray->y7,mem_cons->yD,not_mem_nil->xC,find?_cons->xu,findIdx?_cons->ym,findIdx?->yk,findIdx?_eq_some_iff_getElem->yg,getElem?_eq_getElem->yu,all_eq_true->za
open Go.Proofs.Tryz renaming prog->xE,underlying312->xv,underlying9->xw,underlying270->xr
open Go.Ending renaming returned->xH
open Option renaming getD_some->xz,none_or->xZ,map_eq_some_iff->zj
open Bool renaming false_eq_true->zN,and_eq_true->zC
open Go.MapKept renaming run_getObj_map->yh,run_setObj_map->yf
open Array renaming getElem?_eq_getElem->yT,toList_modify->ye,toList_eraseIdxIfInBounds->xq
open Go.Instr renaming mapUpdate->yp
namespace Go.Proofs
open Go Go.Sx
theorem wrap_id{n:Nat}(h:n<=2147483648):IntKind.wrap .i64 (n:Int)=n:=qGY ⟨by show(-9223372036854775808:Int)<=n;omega,by show(n:Int)<=9223372036854775807;omega⟩
theorem qIq{P:Program}(w:World)(t u ty e:TypeId)(i:TypeInfo)(z:Value)(o:P.underlying t=some (.slice e))(hu:P.underlying u=some (.int .i64))(hi:P.info? e=some i)(p:i.zero=some z)
  (n:Nat) (h0:0<n) (q:n<=2147483648) (s:i.bytes<=65536) (J:0<i.size):
  (y6 #[t,u] ty #[.slice none 0 0,.int .i64 n]).run P w=
   .ok (.slice (some ⟨w.heap.size,0,none⟩) n (grownCap w n 0 e)) (w.drew.alloc (.cells (y8 z.cells n++y8 z.cells (grownCap w n 0 e-n)) e)):=by
 have y:n≠0:=by omega
 have h:¬(9223372036854775807<(n:Int)):=by omega
 have H:n*i.bytes<=281474976710656:=Nat.le_trans (Nat.mul_le_mul q s) (by decide);have k:¬(281474976710656<Builtin.nextslicecap n 0*i.bytes):=by rw[nextslicecap_zero h0];omega
 have g:¬(281474976710656<(n:Int)*(i.bytes:Int)):=by omega
 have l:¬((n:Int)<0):=by omega
 have r:i.size≠0:=by omega
 simp[y6,run_underlying o,run_underlying hu,sizeOf,typeInfo,zeroValue,hi,p,y,h,k,g,l,r,wrap_id q,asInt,asIntOf,Question.forced,run_firstCells_none,newRow,grownCap];simp_all[absurd,Nat.ne_of_gt,Nat.mul_pos]
theorem GenK.appendZ{P:Program}{V0 V:Mem}{t u e ty:TypeId}{i:TypeInfo}{z:Value}{sz:Nat}(J:P.underlying t=some (.slice e))(hu:P.underlying u=some (.int .i64))(hi:P.info? e=some i)(G:i.zero=some z)(g:i.size=sz)(l:z.cells.size=sz)(r:0<sz)(o:i.bytes<=65536)
  {x y:Operand} {vals:Operand->Value} {n:Nat} (N:vals x=.slice none 0 0) (Z:vals y=.int .i64 n) (h0:0<n) (Y:n<=2147483648) (H:V0.sub V) {q:Value->Mem->Prop}
  (W:∀b c V',Own V0 V' e sz ⟨some ⟨b,0,none⟩,0,c⟩ []->n<=c->c<=9223372036854775807->q (.slice (sa b) n c) V'):
  GenK P (.call {callee:=.builtin .append,args:=#[x,y],argTypes:=#[t,u]}) ty vals V q:=by
 intro w hw;subst g;have Q:=qIq (P:=P) w t u ty e i z J hu hi G n h0 Y o r;obtain⟨k,O⟩:=Frm.new hw (.cells (y8 z.cells n++y8 z.cells (grownCap w n 0 e-n)) e);have p:=grownCap_ge w n 0 e;have s:=grownCap_le_maxLen w n 0 e (by simp only[maxLen];omega);refine⟨_,_,_,?_,O,W w.heap.size (grownCap w n 0 e) _ ⟨Mem.sub.new H k _,by simp,.inr ⟨w.heap.size,_,rfl,?_,Mem.set_same _ _ _,Nat.zero_le _,s,?_,by simp⟩⟩ p (by grind[maxLen])⟩
 ·unfold execOp;simp only[resolve,invoke,builtin,zK,zM,zL,y7,List.map_cons,List.map_nil,N,Z,Q]
 ·cases h:V0 w.heap.size with
  |none=>rfl
  |some x=>rw[H _ _ h]at k;cases k
 ·simp only[Array.size_append,size_zeroCells,l,<-Nat.add_mul];simp_all
section
variable{V:Mem}
theorem growF{V0:Mem}(k:V0.sub V){n:Nat}(y:n<=1000000):Tri xE 198 #[.slice none 0 0,.int .i64 n] V λr V'=>∃s:Sl,r=.returned (.slice s.p s.n s.c)/\Own V0 V' 101 2 s []:=by
 refine x198 (a:=⟨none,0,0⟩) ?_;refine⟨λh=>absurd h (by omega),λ_=>⟨⟨by simp,by simp⟩,⟨by simp<;>omega,by simp<;>omega⟩,λh=>⟨⟨by simp,by simp,by simp⟩,?_⟩,λh=>⟨⟨none,0,0⟩,rfl,Own.nil k _ _⟩⟩⟩;have g:xE.info? 101=some (ti 101):=by kernel_rfl
 have u:(ti 101).zero=some ((ti 101).zero.getD undef):=by kernel_rfl
 have h1:(ti 101).size=2:=by kernel_rfl
 have h2:((ti 101).zero.getD undef).cells.size=2:=by kernel_rfl
 have h3:(ti 101).bytes<=65536:=by rw[show(ti 101).bytes=32 by kernel_rfl];omega
 refine GenK.appendZ (n:=n) Tryz.underlying23 Tryz.underlying3 g u h1 h2 (by decide) h3 rfl ?_ (by simp at h;omega) (by omega) k λb c V' i l z=>⟨⟨some ⟨b,0,none⟩,n,c⟩,rfl,⟨by simp,by simp,by simp⟩,?_⟩;·rfl
 ·simp only[qFV];grind
theorem concatF{l:Sl}{ls:List (Sl×List Fld)}(h:qAc V l 1 (ls.map λx=>[x.1.v]))(q:∀x∈ls,qAc V x.1 2 (x.2.map Fld.row))(O:ls.length<=100)(o:∀x∈ls,x.2.length<=1000):
  Tri xE 163 #[.slice l.p l.n l.c] V λr V'=>∃s:Sl,r=.returned (.slice s.p s.n s.c)/\V.sub V'/\qAc V' s 2 ((ls.flatMap (·.2)).map Fld.row):=by
 refine x163 ?_;have R:=h.n_eq;refine qFk (mk:=.int .i64) qCZ ls.length (λi n V1=>V=V1/\0<=n/\n<=1000*i) ⟨rfl,by omega,by omega⟩ ?_;rintro i n V1 J A ⟨rfl,h0,I⟩ N;refine⟨λg=>?_,λH=>?_⟩
 ·obtain⟨x,hm,M,Z,Y,W,Q,z⟩:=h.get g;have X:=(q x hm).n_eq;have F:=o x hm;exact⟨W,Q,g,x.1,z,⟨by omega,by omega⟩,λG=>absurd G (by omega),λ_=>⟨h.succ g,N Y _ _ ⟨rfl,by omega,by omega⟩⟩⟩
 ·obtain⟨k,rfl⟩:=Int.eq_ofNat_of_zero_le h0;refine Tri.mono (growF (Mem.sub.refl V) (n:=k) (by omega)) ?_;rintro _ V1 ⟨s,rfl,y⟩;refine⟨s,rfl,?_⟩;refine qFk (mk:=λs:Sl=>.slice s.p s.n s.c) (b0:=s) qAH ls.length (λi s V2=>Own V V2 101 2 s (((ls.take i).flatMap (·.2)).flatMap Fld.row)/\((ls.take i).flatMap (·.2)).length<=1000*i) ⟨y,by simp⟩ ?_;rintro i s V2 J A ⟨y,I⟩ N;have h2:=h.sub y.sub;refine⟨λg=>?_,λH=>?_⟩
  ·obtain⟨x,hm,M,Z,Y,W,Q,z⟩:=h2.get g;have F:=o x hm;refine⟨W,Q,g,x.1,z,?_⟩;refine qHg (s:=s) (u:=x.1) (xs:=(ls.take i).flatMap (·.2)) (ys:=x.2) rfl rfl y ((q x hm).sub y.sub) (by omega) λs' V' L=>⟨s',rfl,h2.succ g,N Y _ _ ?_⟩;grind
  ·have:=(h2.done H).2;rw[List.take_of_length_le this]at y;exact⟨s,rfl,y.sub,ownF y⟩
end
end Go.Proofs
namespace Go.Proofs
open Go Go.Sx
attribute [local irreducible] Go.Sx.Tri
section
variable{V:Mem}{d:Ds}{c:Option Addr}{m:Option Nat}{sc:Sc}
theorem c268(h:qBX V c d)(hv:VNe d)(Q:qIu V m sc)(G:sc.body=true){x:S}(R:S.Ok V x)(K:qBQ x.op x.s x.es x.ls.length x.xs.length=true){res:KB}:
  PP 268 [sV c m sc,x.v,.string res] V (.int .i64 (qEZ d sc res x.op x.s x.es)):=by
 obtain⟨a6,a134,a2,a5,alen,O⟩:=qIY K;rw[S.v_eq];refine Pur.mk (x268 ?_);have hf:=qHa R;refine⟨λB=>?_,λB=>?_⟩
 ·obtain⟨C,o,-⟩:=a6 B;rcases hf with⟨h',-⟩|⟨e0',r,D,hn,T,hp2,q⟩;·simp_all
  ·rw[o]at D;cases D;have A:=O C (by rw[o];simp);have I:=R.eOk C (by rw[o];simp);have hk:∀y∈C.k,ImpE V d c m sc y:=λy hy=>impExpr h hv Q y (I.kids y hy) 2 (qIF A y hy);refine⟨T,by omega,by omega,_,_,_,_,q,(impCall h C I (arity (qGO A)).2.2.2 hk).call ⟨_,_,rfl,?_⟩⟩;unfold qEZ rawT qGs;rw[if_pos B,o];simp only[if_pos G];split;·exact⟨rfl,Mem.sub.refl _⟩
   ·exact⟨rfl,Mem.sub.refl _⟩
 ·unfold qEZ;rw[if_neg B];have hr:=R.eRows;refine qIb (mk:=.int .i64) (mc:=λs:Sl=>.slice s.p s.n s.c) 0 ⟨none,0,0⟩ qAH x.es.length (λi s V2=>∃acc,Own V V2 9 1 s (acc.flatMap qBk)/\partsT d sc [] x.es=partsT d sc acc (x.es.drop i)/\acc.length=i) ⟨[],Own.nil (Mem.sub.refl _) _ _,rfl,rfl⟩ ?_;rintro i b s V2 J hi ⟨acc,g,z,N⟩ hJ;have H:=hr.sub g.sub;refine⟨λZ=>?_,λM=>?_⟩
  ·obtain⟨y,hm,hxy,U,hl,hpp,hz,q⟩:=H.get Z;rw[U,qCl]at z;refine⟨hpp,hz,Z,_,_,_,_,q,(impExpr h hv Q y (R.eOk y hm) 1 (O y hm) V2 g.sub).call ⟨_,_,rfl,λh0=>?_,λh0=>?_⟩⟩
   ·intro b1 hb1;rw[if_neg (λh=>h h0)]at z;refine app220 (s:=s) (u:=⟨some ⟨b1,0,none⟩,1,1⟩) (xs:=acc) (ys:=[(qAq d sc y).1]) rfl rfl (g.new hb1 _) (qJn mss) (by grind) λs' V' ho=>⟨s',rfl,H.succ Z,hJ hl _ _ _ ⟨_,ho,z,by simp[N]⟩⟩
   ·rw[if_pos h0]at z;rw[z];simp only[h0,ne_eq,not_false_eq_true,if_true];exact⟨by trivial,g.sub⟩
  ·have hge':=(H.done M).2;rw[(H.done M).1,qDj]at z;rw[z];simp only[ne_eq,not_true_eq_false,if_false];have l:=ownS g;have hal:acc.length=x.es.length:=by omega
   have hsub:=g.sub;have h2:=h.sub g.sub;have sln:=l.n_eq;have Y:=λh:0<acc.length=>qEN l h;have at1:=λh:1<acc.length=>qEN l h;have key:∀X n:Int,X=n->(xH (.int .i64 n)=xH (.int .i64 X)/\V.sub V2):=λX n h=>by simp_all
   refine⟨λE=>?_,λE=>⟨λo2=>?_,λo2=>⟨λo3=>?_,λo3=>⟨λo4=>?_,λo4=>⟨λo5=>?_,λo5=>key _ _ ?_⟩⟩⟩⟩⟩
   ·obtain⟨b1,b2,b3⟩:=Y (by omega);obtain⟨mb,rfl,F⟩:=(Q.sub g.sub).at_;rw[if_pos E,qKB];refine qBH.str xv xw zero9 F ?_;cases L:qCd sc.vars x.s with
    |none=>
     rw[Option.getD_none];exact⟨_,_,rfl,λh=>absurd h (by simp),λ_=>key _ _ (if_pos rfl)⟩
    |some t=>
     rw[xz];refine⟨t,_,rfl,λ_=>⟨b1,by omega,b2,_,b3,(c298 h2).call ⟨_,rfl,λW=>key _ _ ?_,λW=>key _ _ ?_⟩⟩,λh=>absurd rfl h⟩;·rw[if_neg (Q.ne.some L),if_pos W]
     ·rw[if_neg (Q.ne.some L),if_neg W]
   ·obtain⟨b1,b2,b3⟩:=Y (by omega);obtain⟨c1,c2,c3⟩:=at1 (by omega);rw[if_neg E,if_pos o2];refine⟨b1,by omega,b2,_,b3,(c299 h2 hv).call ⟨_,_,rfl,λW=>⟨c1,by omega,c2,_,c3,(c298 h2).call ⟨_,rfl,λhc=>key _ _ ?_,λhc=>key _ _ ?_⟩⟩,λW=>key _ _ ?_⟩⟩;·simp_all
    ·simp_all
    omega
   ·grind[qAz]
   ·grind[qAz]
   ·have h5:=a5 o5;rw[if_neg E,if_neg o2,if_neg (by omega),if_pos o5];refine⟨λhn=>?_,λhn=>?_⟩;·grind[sE]
    ·have h0:¬acc.length=0:=by omega
     obtain⟨b1,b2,b3⟩:=Y (by omega);rw[if_neg h0];refine⟨λD=>key _ _ (by grind[sE]),λD=>⟨b1,by omega,b2,_,b3,(c298 h2).call ⟨_,rfl,λW=>key _ _ ?_,λW=>key _ _ ?_⟩⟩⟩;·grind[sE]
     simp_all
   omega
def placeT(r:Int×Int):Int:=if r.2=0 then 0 else r.1
def Cnt(V:Mem)(b t:Nat)(a:Int)(V1:Mem):Prop:=(V.set b (cell (.int .i64 a) t)).sub V1
theorem Cnt.st{b t:Nat}{a k:Int}{V1:Mem}(h:Cnt V b t a V1):Cnt V b t k (V1.set b (cell (.int .i64 k) t)):=λq o g=>by
 by_cases e:q=b;·grind[Mem.set_same]
 ·rw[Zm e]at g⊢;exact h q o (by rw[Zm e];exact g)
theorem Cnt.call{b t:Nat}{a k:Int}{V1 V2:Mem}(h:Cnt V b t a V1)(h2:Cnt V1 b t k V2):Cnt V b t k V2:=(Cnt.st h).trans h2
theorem Cnt.cell{b t:Nat}{a:Int}{V1:Mem}(h:Cnt V b t a V1):V1 b=some (Sx.cell (.int .i64 a) t):=h _ _ mss
theorem Cnt.base{V0:Mem}{b t:Nat}{a:Int}{V1:Mem}(h:Cnt V b t a V1)(h0:V0.sub V)(k:V0 b=none):V0.sub V1:=(h0.set k _).trans h
theorem Cnt.other{b t q:Nat}{a:Int}{V1:Mem}{o:Obj}(h:Cnt V b t a V1)(k:V q=some o)(g:q≠b):V1 q=some o:=h _ _ (by rw[Zm g];exact k)
def ImpS(V0:Mem)(d:Ds)(c:Option Addr)(m:Option Nat)(sc:Sc)(res:KB)(b t:Nat)(l:List S):Prop:=∀(V:Mem)(sl:Sl)(n k:Int),V0.sub V->V b=some (cell (.int .i64 n) t)->qAc V0 sl 5 (l.map S.row)->(∀x∈l,S.Ok V0 x)->qHo k l=true->0<=n->n+qGC l<=1000->
 Tri xE 236 #[sV c m sc,.slice sl.p sl.n sl.c,.string res,pv b] V λr V'=>r=.returned (.tuple #[.int .i64 (placeT (qBO d sc res n l)),.int .i64 (qBO d sc res n l).2])/\∃h,Cnt V b t h V'/\((qBO d sc res n l).2=0->h=(qBO d sc res n l).1)
theorem impStep{V0:Mem}{b t:Nat}{res:KB}(E:V0 b=none)(h:qBX V0 c d)(hv:VNe d)(hs:qIu V0 m sc)(W:sc.body=true){l:List S}(hk:∀x∈l,ImpS V0 d c m sc res b t x.ls/\ImpS V0 d c m sc res b t x.xs):ImpS V0 d c m sc res b t l:=by
 intro V sl n dd K T U hok M hn0 hn1;refine x236 ?_;refine qEz l.length (λi V1=>∃a,Cnt V b t a V1/\0<=a/\a+qGC (l.drop i)<=1000/\qBO d sc res n l=qBO d sc res a (l.drop i)) ⟨n,by grind[Cnt,Mem.set_eq,Mem.sub.refl],hn0,hn1,rfl⟩ ?_;rintro i b' c' V1 J hi ⟨a,N,ha0,ha1,Z⟩ hJ;have o:=N.base K E;have u:=N.cell;have bad:∀{V2:Mem}(p e k:Int),Cnt V b t k V2->e≠0->qBO d sc res n l=(p,e)->(xH (.tuple #[.int .i64 p,.int .i64 e])=xH (.tuple #[.int .i64 (placeT (qBO d sc res n l)),.int .i64 (qBO d sc res n l).2])/\∃C,Cnt V b t C V2/\((qBO d sc res n l).2=0->C=(qBO d sc res n l).1)):=λ{V2} p e k h1 h2 h3=>by
  rw[h3];unfold placeT;grind
 refine⟨λQ=>?_,λhge=>?_⟩
 ·obtain⟨x,hm,hx,F,hl,hpp,hz,H⟩:=(U.sub o).get Q;have H:=S.row_get H;have G:=hok x hm;obtain⟨hsh,hk1,hk2⟩:=okS_shape (qLG M x hm);rw[F,qIU,szS_eq]at ha1;rw[F,qGD,stT_eq]at Z;have hC:=Cnt.st (k:=a+1) N;have O:=hC.base K E;have cs:=c268 (h.sub O) hv (hs.sub O) W (G.sub O) hsh (res:=res);rw[S.v_eq]at cs;refine⟨hpp,hz,Q,_,_,_,_,_,H,by simp,_,qBR u,by simp,_,qBR u,⟨by omega,by omega⟩,by simp,StT.cell u (cs.call ⟨_,rfl,λh0=>?_,λh0=>?_⟩)⟩
  ·have e1:¬(qEZ d sc res x.op x.s x.es≠0):=λh=>h h0;rw[if_neg e1]at Z;intro b1 hb1;have L:b1≠b:=λe=>by grind[Mem.set_same]
   have hC2:Cnt V b t (a+1) _:=Mem.sub.new hC hb1 (.cells #[.slice x.ll.p x.ll.n x.ll.c,.slice x.xl.p x.xl.n x.xl.c] 141 (0,0));have y:=qIV d sc res (a+1) x.ls;refine qEz 2 (λj V2=>∃k,Cnt V b t k V2/\V2 b1=some (.cells #[.slice x.ll.p x.ll.n x.ll.c,.slice x.xl.p x.xl.n x.xl.c] 141 (0,0))/\((j=0/\k=a+1)∨(j=1/\(qBO d sc res (a+1) x.ls).2=0/\k=(qBO d sc res (a+1) x.ls).1)∨(j=2/\(qBO d sc res (a+1) x.ls).2=0/\(qBO d sc res (qBO d sc res (a+1) x.ls).1 x.xs).2=0/\k=(qBO d sc res (qBO d sc res (a+1) x.ls).1 x.xs).1))) ⟨a+1,hC2,Mem.set_same _ _ _,.inl ⟨rfl,rfl⟩⟩ ?_;rintro j b'' c'' V2 J1 hj ⟨k,g,r,R⟩ X;have Y:=g.base K E;refine⟨λhj2=>?_,λhj2=>?_⟩
   ·rcases R with⟨rfl,rfl⟩|⟨rfl,q,rfl⟩|⟨rfl,-⟩
    ·refine⟨by simp[qAa],by omega,by omega,x.ll,qAd r 0 1 (by simp),Tri.mono ((hk x hm).1 V2 x.ll (a+1) (dd+1) Y g.cell G.lRows G.lOk hk1 (by omega) (by omega)) ?_⟩;rintro _ V3 ⟨rfl,C,z,A⟩;refine⟨_,_,rfl,λh3=>?_,λh3=>?_⟩
     ·have:=A h3;subst this;exact⟨⟨by omega,by omega⟩,X (by omega) _ _ _ ⟨_,g.call z,z.other r L,.inr (.inl ⟨rfl,h3,rfl⟩)⟩⟩
     ·have I:(qBO d sc res (a+1) x.ls).2≠0:=h3;rw[if_pos I,if_pos I]at Z;refine bad _ _ _ (g.call z) I ?_;grind
    ·have I:¬(qBO d sc res (a+1) x.ls).2≠0:=λh=>h q;rw[if_neg I]at Z;have y:=y q;refine⟨by simp[qAa],by omega,by omega,x.xl,qAd r 1 1 (by simp),Tri.mono ((hk x hm).2 V2 x.xl _ (dd+1) Y g.cell G.xRows G.xOk hk2 (by omega) (by omega)) ?_⟩;rintro _ V3 ⟨rfl,C,z,A⟩;refine⟨_,_,rfl,λh3=>?_,λh3=>?_⟩
     ·have:=A h3;subst this;exact⟨⟨by omega,by omega⟩,X (by omega) _ _ _ ⟨_,g.call z,z.other r L,.inr (.inr ⟨rfl,q,h3,rfl⟩)⟩⟩
     ·have D:(qBO d sc res (qBO d sc res (a+1) x.ls).1 x.xs).2≠0:=h3;rw[if_pos D]at Z;refine bad _ _ _ (g.call z) D ?_;grind
    ·omega
   ·rcases R with⟨rfl,-⟩|⟨rfl,-⟩|⟨rfl,q,B,rfl⟩;·omega
    ·omega
    ·have I:¬(qBO d sc res (a+1) x.ls).2≠0:=λh=>h q;have D:¬(qBO d sc res (qBO d sc res (a+1) x.ls).1 x.xs).2≠0:=λh=>h B;rw[if_neg I,if_neg D]at Z;have y:=y q;have hn2':=qIV d sc res _ x.xs B;exact⟨(U.sub o).succ Q,hJ hl _ _ _ ⟨_,g,by omega,by omega,Z⟩⟩
  grind
 ·rw[((U.sub o).done hge).1,stsT_nil]at Z;rw[Z];exact⟨rfl,a,N,λ_=>rfl⟩
theorem impStmts{V0:Mem}{b t:Nat}{res:KB}(g:V0 b=none)(h:qBX V0 c d)(hv:VNe d)(u:qIu V0 m sc)(k:sc.body=true)(l:List S):ImpS V0 d c m sc res b t l:=by
 have z:∀s:S,ImpS V0 d c m sc res b t s.ls/\ImpS V0 d c m sc res b t s.xs:=by
  intro s;induction s using S.ind with
  |h s y i=>grind[impStep]
 grind[impStep]
theorem c259{b t:Nat}{f x:Fld}(h:V b=some (.cells #[.string f.name,.string f.ty] t (0,0))):PP 259 [x.v,pv b] V (.bool (decide (x.name=f.name))):=by
 refine x259 ?_;exact⟨by simp,_,qAd h 0 1 (by simp),rfl,rfl⟩
theorem c222(h:qBX V c d){l:Sl}{xs:List Fld}(Z:qAc V l 2 (xs.map Fld.row)):PP 222 [.pointer c,l.v] V (.int .i64 (qCD d xs)):=by
 refine Pur.mk (x222 ?_);unfold qCD;generalize I:(λi f=>if qES d xs i f≠0 then some (qES d xs i f)else none)=fn;refine qAM xs.length (λk V1=>V.sub V1/\qAk fn 0 xs=qAk fn k (xs.drop k)) ⟨Mem.sub.refl _,rfl⟩ ?_;rintro k b V1 J M ⟨Y,r⟩ W;have u:=Z.sub Y;refine⟨λq=>?_,λq=>?_⟩
 ·obtain⟨g,Q,O,o,s,H,G,z⟩:=u.get q;rw[o]at r;have F:=u.cap;refine⟨H,G,q,_,_,z,⟨by omega,by omega,by omega⟩,λb1 N=>?_⟩;have A:=Zn N (.cells #[.string g.name,.string g.ty] 101 (0,0));have y:=Y.trans A;simp only[qFV,sub0];have key:∀X n:Int,X=n->(xH (.int .i64 n)=xH (.int .i64 X)/\V.sub (V1.set b1 (.cells #[.string g.name,.string g.ty] 101 (0,0)))):=λX n h=>by simp_all
  refine(c122 (l:=⟨l.p,k,l.c⟩) (first:=[]) (caps:=[pv b1]) (qAc.pre (Z.sub y) (by omega)) Tryz.call259 (λx=>decide (x.name=g.name)) (λx _=>c259 (f:=g) mss)).call ⟨_,rfl,λh1=>?_,λh1=>⟨by simp[qAa],_,qAd mss 1 1 (by simp),(c225 (h.sub y)).call ⟨_,rfl,λh2=>?_,λh2=>?_⟩⟩⟩
  ·have e:qES d xs k g=10:=by grind[qES]
   rw[r,qAj (b:=10) (by grind)];grind
  ·have e:qES d xs k g=0:=by grind[qES]
   exact⟨u.succ q,W s _ _ ⟨y,by rw[r,qAn (by grind)]⟩⟩
  ·have e:qES d xs k g=9:=by grind[qES]
   rw[r,qAj (b:=9) (by grind)];grind
 ·rw[(u.done q).1,qAk]at r;simp_all
def FltAt(V:Mem)(p:Option Addr)(o:Option Flt):Prop:=match o with
 |none=>p=none
 |some r=>∃b t,p=some ⟨b,0,none⟩/\V b=some (.cells #[.string r.1,.int .i64 r.2.1,.int .i64 r.2.2] t (0,0))
def FltC(f:FuncId)(args:List Value)(V:Mem)(o:Option Flt):Prop:=Tri xE f args.toArray V λr V'=>∃p,r=.returned (.pointer p)/\V.sub V'/\FltAt V' p o
theorem c238(h:qBX V c d)(hv:VNe d)(u:qIu V m sc){e:E}(z:E.Ok V e)(k:okE 1 e=true){s t:KB}:
  FltC 238 [sV c m sc,.string s,e.v,.string t] V (if qBv d sc e t≠0 then some (s,-1,qBv d sc e t)else none):=by
 refine x238 ?_;unfold qBv;refine(impExpr h hv u e z 1 k V (Mem.sub.refl _)).call ⟨_,_,rfl,λh0=>⟨λh1=>?_,λh1=>λb g=>?_⟩,λh0=>λb g=>?_⟩;·simp only[h0,h1,ne_eq,not_true_eq_false,if_false,if_true];exact⟨_,rfl,Mem.sub.refl _,rfl⟩
 ·simp only[h0,h1,ne_eq,not_true_eq_false,if_false];exact⟨_,rfl,Zn g _,b,_,rfl,Mem.set_same _ _ _⟩
 ·simp only[h0,ne_eq,not_false_eq_true,if_true];exact⟨_,rfl,Zn g _,b,_,rfl,Mem.set_same _ _ _⟩
end
def qIm:Prop:=∀(V:Mem)(c:Option Addr)(d:Ds)(body:Bool)(l:Sl)(ls:List (Sl×List Fld)),qBX V c d->qAc V l 1 (ls.map λx=>[x.1.v])->(∀x∈ls,qAc V x.1 2 (x.2.map Fld.row))->
 Tri xE 267 #[.pointer c,.bool body,.slice l.p l.n l.c] V λr V'=>∃mb,r=.returned (.agg #[.pointer c,.map (some mb),.bool body])/\V.sub V'/\V mb=none/\qBs V' mb (λk=>(qCd (ls.flatMap (·.2)++d.globals) k).map Value.string)
def NewC:Prop:=∀(V:Mem)(d:Ds),Ds.Ok V d->Tri xE 158 #[d.v] V λr V'=>∃c,r=.returned (.pointer c)/\V.sub V'/\qBX V' c d
section
variable{V:Mem}{d:Ds}{c:Option Addr}
theorem qGQ{a b:List Fld}(h:NE a)(k:NE b):NE (a++b):=λf u=>by
 rcases List.mem_append.1 u with g|g;·exact h f g
 ·exact k f g
theorem impInProc(y:qIm)(h:qBX V c d)(hv:VNe d){p:Pr}(hm:p∈d.procs)(u:Pr.Ok V p):Tri xE 235 #[.pointer c,p.v] V λr V'=>∃m,r=.returned (sV c m (qAg d p))/\V.sub V'/\qIu V' m (qAg d p):=by
 refine x235 ?_;intro b i;have g:=Zn i (.cells #[.slice p.ps.p p.ps.n p.ps.c,.slice p.ls.p p.ls.n p.ls.c] 23 (0,0));refine Tri.mono (y _ c d true ⟨some ⟨b,0,none⟩,2,2⟩ [(p.ps,p.params),(p.ls,p.locals)] (h.sub g) (qAc.cells (xs:=[(p.ps,p.params),(p.ls,p.locals)]) (row:=λx=>[x.1.v]) mss rfl (λ_=>rfl) rfl (by simp)) ?_) ?_
 ·intro x z;simp only[yD,xC,or_false]at z;rcases z with rfl|rfl;·exact u.params.sub g
  ·exact u.locals.sub g
 ·rintro _ V' ⟨mb,rfl,h1,h2,h3⟩;refine⟨_,_,_,rfl,some mb,rfl,g.trans h1,⟨mb,rfl,h3.congr λk=>?_⟩,qGQ (qGQ (hv.params p hm).1 (hv.params p hm).2) hv.globals⟩;simp[qAg]
theorem impInBound(z:qIm)(h:qBX V c d)(hv:VNe d){p:Pr}(hm:p∈d.procs)(y:Pr.Ok V p):Tri xE 239 #[.pointer c,p.v] V λr V'=>∃m,r=.returned (sV c m (qBD d p))/\V.sub V'/\qIu V' m (qBD d p):=by
 refine x239 ?_;intro b i;have g:=Zn i (.cells #[.slice p.ps.p p.ps.n p.ps.c] 23 (0,0));refine Tri.mono (z _ c d false ⟨some ⟨b,0,none⟩,1,1⟩ [(p.ps,p.params)] (h.sub g) (qAc.cells (xs:=[(p.ps,p.params)]) (row:=λx=>[x.1.v]) mss rfl (λ_=>rfl) rfl (by simp)) ?_) ?_
 ·intro x u;simp only[yD,xC,or_false]at u;rcases u with rfl;exact y.params.sub g
 ·rintro _ V' ⟨mb,rfl,h1,h2,h3⟩;refine⟨_,_,_,rfl,some mb,rfl,g.trans h1,⟨mb,rfl,h3.congr λk=>?_⟩,qGQ (hv.params p hm).1 hv.globals⟩;simp[qBD]
theorem qFo(z:qIm)(h:qBX V c d)(hv:VNe d){t:KB}:Tri xE 237 #[.pointer c,.string t] V λr V'=>∃m,r=.returned (sV c m (qAC d t))/\V.sub V'/\qIu V' m (qAC d t):=by
 refine x237 ?_;refine Tri.mono (z V c d false ⟨none,0,0⟩ [] h qAc.nil (by simp)) ?_;rintro _ V' ⟨mb,rfl,h1,h2,h3⟩;refine⟨_,_,_,rfl,λg=>?_,λg=>?_⟩
 ·refine⟨some mb,rfl,h1,⟨mb,rfl,h3.congr λk=>?_⟩,?_⟩;·grind[qAC,sE]
  ·unfold qAC sE;rw[if_pos g];exact hv.globals
 ·refine qEb.str xv xw h3 λo y=>?_;refine⟨some mb,rfl,h1.set h2 _,⟨mb,rfl,y.congr λk=>?_⟩,?_⟩
  ·unfold qAC sE;rw[if_neg g];unfold qCd;simp only[List.flatMap_nil,List.nil_append,List.cons_append,xu];rw[show(⟨#[116,104,105,115]⟩:KB)=sThisF from rfl];grind
  ·unfold qAC sE;rw[if_neg g];refine qGQ (λf u=>?_) hv.globals;simp only[yD,xC,or_false]at u;subst u;exact g
theorem qDs{V1:Mem}{X:Option Flt}{s:KB}{n e:Int}(k:X=some (s,n,e))(h:V.sub V1):qAr [(.string s),(.int .i64 n),(.int .i64 e)] 238 V1 λg V2=>(∃p,xH (.pointer (qAa g 0))=.returned (.pointer p)/\V.sub V2/\FltAt V2 p X):=λb u=>by
 subst k;exact⟨some ⟨b,0,none⟩,rfl,h.trans (Zn u _),b,_,rfl,Mem.set_same _ _ _⟩
theorem oneT_cases(d:Ds)(l:List Fld)(i:Nat)(f:Fld):((l.take i).any (λg=>decide (g.name=f.name))=true/\qES d l i f=10)∨(¬(l.take i).any (λg=>decide (g.name=f.name))=true/\qBl d f.ty=true/\qES d l i f=0)∨(¬(l.take i).any (λg=>decide (g.name=f.name))=true/\¬qBl d f.ty=true/\qES d l i f=9):=by
 grind[qES,qBl,inr]
theorem impTypes(h:qBX V c d):FltC 191 [.pointer c] V (qFT d):=by
 refine x191 ?_;unfold qFT;refine⟨h.nn,h.nn,qAf h.nn,d.ts,h.cell (i:=1) rfl,?_⟩;unfold types1;generalize Y:(λi (t:Ty)=>if(d.types.take i).any (λg=>decide (g.name=t.name))=true then some ((t.name,-1,10):Flt)else none)=F1;refine qAM d.types.length (λk V1=>V=V1/\qAk F1 0 d.types=qAk F1 k (d.types.drop k)) ⟨rfl,rfl⟩ ?_;rintro k b V1 J Z ⟨rfl,u⟩ r;have q:=Mem.sub.refl V;refine⟨λz=>?_,λz=>?_⟩
 ·obtain⟨g,hm,G,l,o,p,s,y⟩:=h.ok.types.get z;rw[l]at u;refine⟨p,s,z,_,_,y,h.nn,h.nn,qAf h.nn,d.ts,h.cell (i:=1) rfl,(c220 h.ok.types G).call ⟨_,rfl,λh1=>qDs ?_ q,λh1=>⟨h.ok.types.succ z,r o _ _ ⟨rfl,?_⟩⟩⟩⟩;·rw[u,qAj (b:=(g.name,-1,10)) (by grind)];rfl
  ·rw[u,qAn (by grind)]
 rw[(h.ok.types.done z).1,qAk]at u;rw[u,xZ];refine⟨h.nn,h.nn,qAf h.nn,d.ts,h.cell (i:=1) rfl,?_⟩;unfold types2;generalize W:(λ(_:Nat) (t:Ty)=>if qCD d t.fields≠0 then some ((t.name,-1,qCD d t.fields):Flt)else none)=F2;refine qAM d.types.length (λk V1=>V=V1/\qAk F2 0 d.types=qAk F2 k (d.types.drop k)) ⟨rfl,rfl⟩ ?_;rintro k b V1 J Z ⟨rfl,u⟩ r;refine⟨λz=>?_,λz=>?_⟩
 ·obtain⟨g,hm,G,l,o,p,s,y⟩:=h.ok.types.get z;rw[l]at u;refine⟨p,s,z,_,_,y,(c222 h (h.ok.typesOk g hm).fields).call ⟨_,rfl,λh1=>⟨h.ok.types.succ z,r o _ _ ⟨rfl,?_⟩⟩,λh1=>qDs ?_ q⟩⟩;·rw[u,qAn (by grind)]
  ·rw[u,qAj (b:=(g.name,-1,qCD d g.fields)) (by grind)];rfl
 rw[(h.ok.types.done z).1,qAk]at u;rw[u,xZ];refine⟨h.nn,h.nn,qAf h.nn,d.gs,h.cell (i:=2) rfl,?_⟩;unfold types3;generalize Q:(λi (f:Fld)=>if qES d d.globals i f≠0 then some ((f.name,-1,qES d d.globals i f):Flt)else none)=F3;refine qAM d.globals.length (λk V1=>V=V1/\qAk F3 0 d.globals=qAk F3 k (d.globals.drop k)) ⟨rfl,rfl⟩ ?_;rintro k b V1 J Z ⟨rfl,u⟩ r;refine⟨λz=>?_,λz=>?_⟩
 ·obtain⟨g,hm,G,l,o,p,s,y⟩:=h.ok.globals.get z;rw[l]at u;have N:=oneT_cases d d.globals k g;refine⟨p,s,z,_,_,y,h.nn,h.nn,qAf h.nn,d.gs,h.cell (i:=2) rfl,(c223 h.ok.globals G).call ⟨_,rfl,λh1=>qDs ?_ q,λh1=>(c225 h).call ⟨_,rfl,λh2=>⟨h.ok.globals.succ z,r o _ _ ⟨rfl,?_⟩⟩,λh2=>qDs ?_ q⟩⟩⟩
  ·rcases N with⟨_,e⟩|⟨H,_⟩|⟨H,_⟩;·rw[u,qAj (b:=(g.name,-1,10)) (by grind)]
   ·grind
   simp_all
  ·rcases N with⟨H,_⟩|⟨_,_,e⟩|⟨_,H,_⟩;·grind
   ·rw[u,qAn (by grind)]
   simp_all
  ·rcases N with⟨H,_⟩|⟨_,H,_⟩|⟨_,_,e⟩;·grind
   ·grind
   ·rw[u,qAj (b:=(g.name,-1,9)) (by grind)]
 rw[(h.ok.globals.done z).1,qAk]at u;rw[u];exact⟨none,rfl,q,rfl⟩
theorem impHeads(h:qBX V c d)(G:Small d):FltC 192 [.pointer c] V (qEQ d):=by
 refine x192 ?_;unfold qEQ;refine⟨h.nn,h.nn,qAf h.nn,d.ps,h.cell (i:=3) rfl,?_⟩;generalize q:(λi (p:Pr)=>if(d.procs.take i).any (λg=>decide (g.name=p.name))=true then some ((p.name,-1,10):Flt)else if qCD d (p.params++p.locals)≠0 then some (p.name,-1,qCD d (p.params++p.locals))else if p.result≠sE/\qBl d p.result=false then some (p.name,-1,9)else none)=F1;refine qAM d.procs.length (λk V1=>V.sub V1/\qAk F1 0 d.procs=qAk F1 k (d.procs.drop k)) ⟨Mem.sub.refl _,rfl⟩ ?_;rintro k b V1 J X ⟨s,y⟩ A;have h1:=h.sub s;refine⟨λr=>?_,λr=>?_⟩
 ·obtain⟨g,hm,H,N,I,L,R,o⟩:=h1.ok.procs.get r;rw[N]at y;have M:=h1.ok.procsOk g hm;have B:=G.2 g hm;refine⟨L,R,r,_,_,_,_,_,o,h.nn,h.nn,qAf h.nn,d.ps,h1.cell (i:=3) rfl,(c226 h1.ok.procs H).call ⟨_,rfl,λZ=>qDs ?_ s,λZ=>?_⟩⟩;·rw[y,qAj (b:=(g.name,-1,10)) (by grind)]
  intro b1 Y;have W:=Zn Y (.cells #[.slice g.ps.p g.ps.n g.ps.c,.slice g.ls.p g.ls.n g.ls.c] 23 (0,0));refine Tri.mono (concatF (l:=⟨some ⟨b1,0,none⟩,2,2⟩) (ls:=[(g.ps,g.params),(g.ls,g.locals)]) (qAc.cells (xs:=[(g.ps,g.params),(g.ls,g.locals)]) (row:=λx=>[x.1.v]) mss rfl (λ_=>rfl) rfl (by simp)) ?_ (by simp) ?_) ?_
  ·intro x H;simp only[yD,xC,or_false]at H;rcases H with rfl|rfl;·exact M.params.sub W
   ·exact M.locals.sub W
  ·simp_all
  rintro _ V2 ⟨s',rfl,Q,z⟩;have u:=s.trans (W.trans Q);have O:([(g.ps,g.params),(g.ls,g.locals)]:List (Sl×List Fld)).flatMap (·.2)=g.params++g.locals:=by simp
  rw[O]at z;refine⟨s',rfl,(c222 (h.sub u) z).call ⟨_,rfl,λh2=>?_,λh2=>qDs ?_ u⟩⟩
  ·have F:¬(qCD d (g.params++g.locals)≠0):=λe=>e h2;refine⟨λh3=>⟨h1.ok.procs.succ r,A I _ _ ⟨u,?_⟩⟩,λh3=>(c225 (h.sub u)).call ⟨_,rfl,λh4=>⟨h1.ok.procs.succ r,A I _ _ ⟨u,?_⟩⟩,λh4=>qDs ?_ u⟩⟩;·rw[y,qAn (by rw[<-q];exact(if_neg Z).trans ((if_neg F).trans (if_neg λe=>e.1 h3)))]
   ·rw[y,qAn (by grind)]
   ·rw[y,qAj (b:=(g.name,-1,9)) (by rw[<-q];exact(if_neg Z).trans ((if_neg F).trans (if_pos ⟨h3,eq_false_of_ne_true h4⟩)))]
  ·rw[y,qAj (b:=(g.name,-1,qCD d (g.params++g.locals))) (by grind)]
 rw[(h1.ok.procs.done r).1,qAk]at y;rw[y];exact⟨none,rfl,s,rfl⟩
end
section
variable{V:Mem}{d:Ds}{c:Option Addr}
theorem impForm(h:qBX V c d):FltC 193 [.pointer c] V (qEV d):=by
 refine x193 ?_;unfold qEV;have o:=Mem.sub.refl V;refine⟨h.nn,h.nn,qAf h.nn,d.ms,h.cell (i:=4) rfl,?_⟩;unfold form1;generalize Q:(λi (m:Ms)=>if(d.measures.take i).any (λg=>decide (g.name=m.name))=true then some ((m.name,-1,10):Flt)else if qBd d m.ty=false then some (m.name,-1,9)else none)=F1;refine qAM d.measures.length (λk V1=>V=V1/\qAk F1 0 d.measures=qAk F1 k (d.measures.drop k)) ⟨rfl,rfl⟩ ?_;rintro k b V1 J Y ⟨rfl,u⟩ r;refine⟨λz=>?_,λz=>?_⟩
 ·obtain⟨g,hm,G,l,q,s,H,y⟩:=h.ok.measures.get z;rw[l]at u;refine⟨s,H,z,_,_,_,_,_,_,_,y,h.nn,h.nn,qAf h.nn,d.ms,h.cell (i:=4) rfl,(c228 h.ok.measures G).call ⟨_,rfl,λh1=>qDs ?_ o,λh1=>(c230 h).call ⟨_,rfl,λh2=>⟨h.ok.measures.succ z,r q _ _ ⟨rfl,?_⟩⟩,λh2=>qDs ?_ o⟩⟩⟩;·rw[u,qAj (b:=(g.name,-1,10)) (by grind)];rfl
  ·rw[u,qAn (by grind)]
  ·rw[u,qAj (b:=(g.name,-1,9)) (by grind)];rfl
 rw[(h.ok.measures.done z).1,qAk]at u;rw[u,xZ];refine⟨h.nn,h.nn,qAf h.nn,d.is,h.cell (i:=5) rfl,?_⟩;unfold form2;generalize N:(λi (m:Iv)=>if(d.invs.take i).any (λg=>decide (g.name=m.name))=true then some ((m.name,-1,10):Flt)else if m.ty≠sE/\qBd d m.ty=false then some (m.name,-1,9)else none)=F2;refine qAM d.invs.length (λk V1=>V=V1/\qAk F2 0 d.invs=qAk F2 k (d.invs.drop k)) ⟨rfl,rfl⟩ ?_;rintro k b V1 J Y ⟨rfl,u⟩ r;refine⟨λz=>?_,λz=>?_⟩
 ·obtain⟨g,hm,G,l,q,s,H,y⟩:=h.ok.invs.get z;rw[l]at u;refine⟨s,H,z,_,_,_,_,_,_,y,h.nn,h.nn,qAf h.nn,d.is,h.cell (i:=5) rfl,(c231 h.ok.invs G).call ⟨_,rfl,λh1=>qDs ?_ o,λh1=>⟨λh3=>⟨h.ok.invs.succ z,r q _ _ ⟨rfl,?_⟩⟩,λh3=>(c230 h).call ⟨_,rfl,λh2=>⟨h.ok.invs.succ z,r q _ _ ⟨rfl,?_⟩⟩,λh2=>qDs ?_ o⟩⟩⟩⟩;·rw[u,qAj (b:=(g.name,-1,10)) (by grind)];rfl
  ·rw[u,qAn (by rw[<-N];exact(if_neg h1).trans (if_neg λe=>e.1 h3))]
  ·rw[u,qAn (by grind)]
  ·rw[u,qAj (b:=(g.name,-1,9)) (by rw[<-N];exact(if_neg h1).trans (if_pos ⟨h3,eq_false_of_ne_true h2⟩))];rfl
 rw[(h.ok.invs.done z).1,qAk]at u;rw[u,xZ];refine⟨h.nn,h.nn,qAf h.nn,d.qs,h.cell (i:=6) rfl,?_⟩;unfold form3;generalize Z:(λ(_:Nat) (m:Po)=>if m.ty≠sE/\qBd d m.ty=false then some ((sPot,-1,9):Flt)else none)=F3;refine qAM d.pots.length (λk V1=>V=V1/\qAk F3 0 d.pots=qAk F3 k (d.pots.drop k)) ⟨rfl,rfl⟩ ?_;rintro k b V1 J Y ⟨rfl,u⟩ r;refine⟨λz=>?_,λz=>?_⟩
 ·obtain⟨g,hm,G,l,q,s,H,y⟩:=h.ok.pots.get z;rw[l]at u;refine⟨s,H,z,_,_,_,_,_,y,λh3=>⟨h.ok.pots.succ z,r q _ _ ⟨rfl,?_⟩⟩,λh3=>(c230 h).call ⟨_,rfl,λh2=>⟨h.ok.pots.succ z,r q _ _ ⟨rfl,?_⟩⟩,λh2=>qDs ?_ o⟩⟩;·rw[u,qAn (by rw[<-Z];exact if_neg λe=>e.1 h3)]
  ·rw[u,qAn (by grind)]
  ·rw[u,qAj (b:=(sPot,-1,9)) (by rw[<-Z];exact if_pos ⟨h3,eq_false_of_ne_true h2⟩)];rfl
 rw[(h.ok.pots.done z).1,qAk]at u;rw[u,xZ];refine⟨h.nn,h.nn,qAf h.nn,d.bs,h.cell (i:=7) rfl,?_⟩;unfold form4;generalize O:(λi (b:Bd)=>if(qFP d b.proc).isNone=true then some ((b.proc,-1,9):Flt)else if(d.bounds.take i).any (λg=>decide (g.proc=b.proc))=true then some (b.proc,-1,10)else none)=F4;refine qAM d.bounds.length (λk V1=>V=V1/\qAk F4 0 d.bounds=qAk F4 k (d.bounds.drop k)) ⟨rfl,rfl⟩ ?_;rintro k b V1 J Y ⟨rfl,u⟩ r;refine⟨λz=>?_,λz=>?_⟩
 ·obtain⟨g,hm,G,l,q,s,H,y⟩:=h.ok.bounds.get z;rw[l]at u;obtain⟨mt,A,I⟩:=h.procs;refine⟨s,H,z,_,_,_,_,_,y,h.nn,h.nn,_,A,qBH.str xr xw zero143 I ?_⟩;cases W:qFP d g.proc with
  |none=>
   refine⟨_,⟨none,0,0⟩,_,⟨none,0,0⟩,⟨none,0,0⟩,_,rfl,λh=>absurd h (by simp),λ_=>qDs ?_ o⟩;rw[u,qAj (b:=(g.proc,-1,9)) (by grind)]
  |some p=>
   have M:¬(qFP d g.proc).isNone=true:=by rw[W];simp
   refine⟨_,p.ps,_,p.ls,p.bs,_,rfl,λ_=>⟨h.nn,h.nn,qAf h.nn,d.bs,h.cell (i:=7) rfl,(c233 h.ok.bounds G).call ⟨_,rfl,λh1=>qDs ?_ o,λh1=>⟨h.ok.bounds.succ z,r q _ _ ⟨rfl,?_⟩⟩⟩⟩,λh=>absurd rfl h⟩;·rw[u,qAj (b:=(g.proc,-1,10)) (by grind)]
   ·rw[u,qAn (by grind)]
 rw[(h.ok.bounds.done z).1,qAk]at u;rw[u];exact⟨none,rfl,o,rfl⟩
theorem impBodies(Q:qIm)(h:qBX V c d)(hv:VNe d)(O:qLf d):FltC 194 [.pointer c] V (qCJ d):=by
 refine x194 ?_;unfold qCJ;refine⟨h.nn,h.nn,qAf h.nn,d.ps,h.cell (i:=3) rfl,?_⟩;generalize A:(λ(_:Nat) (p:Pr)=>if(qBO d (qAg d p) p.result 0 p.body).2≠0 then some ((p.name,(qBO d (qAg d p) p.result 0 p.body).1,(qBO d (qAg d p) p.result 0 p.body).2):Flt)else none)=F1;refine qAM d.procs.length (λk V1=>V.sub V1/\qAk F1 0 d.procs=qAk F1 k (d.procs.drop k)) ⟨Mem.sub.refl _,rfl⟩ ?_;rintro k b V1 J R ⟨o,y⟩ I;have h1:=h.sub o;refine⟨λl=>?_,λl=>?_⟩
 ·obtain⟨g,hm,X,s,M,H,F,r⟩:=h1.ok.procs.get l;rw[s]at y;have G:=h1.ok.procsOk g hm;refine⟨H,F,l,_,_,_,_,_,r,Tri.mono (impInProc Q h1 hv hm G) ?_⟩;rintro _ V2 ⟨m,rfl,u,N⟩;refine⟨_,_,_,rfl,λb1 z=>?_⟩;obtain⟨Z,L⟩:=O.ps g hm;have W:=Zn z (cell (.int .i64 0) 3);refine Tri.mono (impStmts z (h1.sub u) hv N rfl g.body _ g.bs 0 1 W mss (G.sub u).body (G.sub u).stmts Z (by omega) (by omega)) ?_;rintro _ B ⟨rfl,C,Y,-⟩;have q:=o.trans (u.trans (Y.base W z));refine⟨_,_,rfl,λh2=>⟨h1.ok.procs.succ l,I M _ _ ⟨q,?_⟩⟩,λh2=>qDs ?_ q⟩;·rw[y,qAn (by grind)]
  ·have:placeT (qBO d (qAg d g) g.result 0 g.body)=(qBO d (qAg d g) g.result 0 g.body).1:=if_neg h2;rw[this,y,qAj (b:=(g.name,(qBO d (qAg d g) g.result 0 g.body).1,(qBO d (qAg d g) g.result 0 g.body).2)) (by grind)]
 rw[(h1.ok.procs.done l).1,qAk]at y;rw[y];exact⟨none,rfl,o,rfl⟩
theorem qCA{V1:Mem}{X:Option Flt}(h:FltAt V1 none X):X=none:=by
 cases X with
 |none=>rfl
 |some r=>obtain⟨b,t,h1,_⟩:=h;cases h1
theorem qFK{V1:Mem}{X:Option Flt}{p:Option Addr}(h:FltAt V1 p X)(k:¬p=none):∃r,X=some r:=by
 cases X with
 |none=>exact absurd h k
 |some r=>grind
theorem impExps(L:qIm)(h:qBX V c d)(hv:VNe d)(R:qLf d)(A:qEV d=none):FltC 195 [.pointer c] V (qHH d):=by
 refine x195 ?_;unfold qHH;refine⟨h.nn,h.nn,qAf h.nn,d.ms,h.cell (i:=4) rfl,?_⟩;unfold exp1;generalize X:(λ(_:Nat) (m:Ms)=>if qBv d (qAC d m.ty) m.x qAT≠0 then some ((m.name,-1,qBv d (qAC d m.ty) m.x qAT):Flt)else none)=F1;refine qAM d.measures.length (λk V1=>V.sub V1/\qAk F1 0 d.measures=qAk F1 k (d.measures.drop k)) ⟨Mem.sub.refl _,rfl⟩ ?_;rintro k b V1 J B ⟨H,y⟩ I;have h1:=h.sub H;refine⟨λl=>?_,λl=>?_⟩
 ·obtain⟨g,hm,C,G,M,N,F,o⟩:=h1.ok.measures.get l;rw[G]at y;refine⟨N,F,l,_,_,_,_,_,_,_,o,Tri.mono (qFo L h1 hv) ?_⟩;rintro _ V2 ⟨m,rfl,z,Z⟩;refine⟨_,_,_,rfl,Tri.mono (c238 (e:=g.x) (h1.sub z) hv Z ((h1.sub z).ok.measuresOk g hm).x (R.ms g hm)) ?_⟩;rintro _ D ⟨p,rfl,Y,u⟩;have s:=H.trans (z.trans Y);have W:(if qBv d (qAC d g.ty) g.x qAT≠0 then some ((g.name,-1,qBv d (qAC d g.ty) g.x qAT):Flt)else none)=F1 k g:=by rw[<-X]
  rw[show qAo [105,110,116]=qAT from rfl]at u;rw[W]at u;refine⟨_,rfl,λQ=>?_,λQ=>?_⟩
  ·subst Q;exact⟨h1.ok.measures.succ l,I M _ _ ⟨s,by rw[y,qAn (qCA u)]⟩⟩
  ·obtain⟨r,O⟩:=qFK u Q;rw[y,qAj O];rw[O]at u;exact⟨p,rfl,s,u⟩
 rw[(h1.ok.measures.done l).1,qAk]at y;rw[y,xZ];refine⟨h.nn,h.nn,qAf h.nn,d.is,h1.cell (i:=5) rfl,?_⟩;unfold exp2;generalize E:(λ(_:Nat) (m:Iv)=>if qBv d (qAC d m.ty) m.x qAz≠0 then some ((m.name,-1,qBv d (qAC d m.ty) m.x qAz):Flt)else none)=F2;refine qAM d.invs.length (λk V1=>V.sub V1/\qAk F2 0 d.invs=qAk F2 k (d.invs.drop k)) ⟨H,rfl⟩ ?_;rintro k b V1 J B ⟨H,y⟩ I;have h1:=h.sub H;refine⟨λl=>?_,λl=>?_⟩
 ·obtain⟨g,hm,C,G,M,N,F,o⟩:=h1.ok.invs.get l;rw[G]at y;refine⟨N,F,l,_,_,_,_,_,_,o,Tri.mono (qFo L h1 hv) ?_⟩;rintro _ V2 ⟨m,rfl,z,Z⟩;refine⟨_,_,_,rfl,Tri.mono (c238 (e:=g.x) (h1.sub z) hv Z ((h1.sub z).ok.invsOk g hm) (R.is g hm)) ?_⟩;rintro _ D ⟨p,rfl,Y,u⟩;have s:=H.trans (z.trans Y);have W:(if qBv d (qAC d g.ty) g.x qAz≠0 then some ((g.name,-1,qBv d (qAC d g.ty) g.x qAz):Flt)else none)=F2 k g:=by rw[<-E]
  rw[show qAo [98,111,111,108]=qAz from rfl]at u;rw[W]at u;refine⟨_,rfl,λQ=>?_,λQ=>?_⟩
  ·subst Q;exact⟨h1.ok.invs.succ l,I M _ _ ⟨s,by rw[y,qAn (qCA u)]⟩⟩
  ·obtain⟨r,O⟩:=qFK u Q;rw[y,qAj O];rw[O]at u;exact⟨p,rfl,s,u⟩
 rw[(h1.ok.invs.done l).1,qAk]at y;rw[y,xZ];refine⟨h.nn,h.nn,qAf h.nn,d.qs,h1.cell (i:=6) rfl,?_⟩;unfold exp3;generalize K:(λ(_:Nat) (m:Po)=>if qBv d (qAC d m.ty) m.x qAT≠0 then some ((sPot,-1,qBv d (qAC d m.ty) m.x qAT):Flt)else none)=F3;refine qAM d.pots.length (λk V1=>V.sub V1/\qAk F3 0 d.pots=qAk F3 k (d.pots.drop k)) ⟨H,rfl⟩ ?_;rintro k b V1 J B ⟨H,y⟩ I;have h1:=h.sub H;refine⟨λl=>?_,λl=>?_⟩
 ·obtain⟨g,hm,C,G,M,N,F,o⟩:=h1.ok.pots.get l;rw[G]at y;refine⟨N,F,l,_,_,_,_,_,o,Tri.mono (qFo L h1 hv) ?_⟩;rintro _ V2 ⟨m,rfl,z,Z⟩;refine⟨_,_,_,rfl,Tri.mono (c238 (e:=g.x) (h1.sub z) hv Z ((h1.sub z).ok.potsOk g hm) (R.qs g hm)) ?_⟩;rintro _ D ⟨p,rfl,Y,u⟩;have s:=H.trans (z.trans Y);have W:(if qBv d (qAC d g.ty) g.x qAT≠0 then some ((sPot,-1,qBv d (qAC d g.ty) g.x qAT):Flt)else none)=F3 k g:=by rw[<-K]
  rw[show qAo [105,110,116]=qAT from rfl,show qAo [112,111,116,101,110,116,105,97,108]=sPot from rfl]at u;rw[W]at u;refine⟨_,rfl,λQ=>?_,λQ=>?_⟩
  ·subst Q;exact⟨h1.ok.pots.succ l,I M _ _ ⟨s,by rw[y,qAn (qCA u)]⟩⟩
  ·obtain⟨r,O⟩:=qFK u Q;rw[y,qAj O];rw[O]at u;exact⟨p,rfl,s,u⟩
 rw[(h1.ok.pots.done l).1,qAk]at y;rw[y,xZ];refine⟨h.nn,h.nn,qAf h.nn,d.bs,h1.cell (i:=7) rfl,?_⟩;have S:=qJX A;unfold exp4;generalize U:(λ(_:Nat) (m:Bd)=>if qBv d (qBD d ((qFP d m.proc).getD prD)) m.x qAT≠0 then some ((m.proc,-1,qBv d (qBD d ((qFP d m.proc).getD prD)) m.x qAT):Flt)else none)=F4;refine qAM d.bounds.length (λk V1=>V.sub V1/\qAk F4 0 d.bounds=qAk F4 k (d.bounds.drop k)) ⟨H,rfl⟩ ?_;rintro k b V1 J B ⟨H,y⟩ I;have h1:=h.sub H;refine⟨λl=>?_,λl=>?_⟩
 ·obtain⟨g,hm,C,G,M,N,F,o⟩:=h1.ok.bounds.get l;rw[G]at y;obtain⟨q,T⟩:=S g hm;obtain⟨mt,q1,q2⟩:=h1.procs;refine⟨N,F,l,_,_,_,_,_,o,h.nn,h.nn,_,q1,qBH.str1 xr xw zero143 q2 ?_⟩;rw[T];refine⟨_,q.ps,_,q.ls,q.bs,rfl,Tri.mono (impInBound L h1 hv (qLC T) (h1.ok.procsOk q (qLC T))) ?_⟩;rintro _ V2 ⟨m,rfl,z,Z⟩;refine⟨_,_,_,rfl,Tri.mono (c238 (e:=g.x) (h1.sub z) hv Z ((h1.sub z).ok.boundsOk g hm) (R.bs g hm)) ?_⟩;rintro _ D ⟨p,rfl,Y,u⟩;have s:=H.trans (z.trans Y);have W:(if qBv d (qBD d q) g.x qAT≠0 then some ((g.proc,-1,qBv d (qBD d q) g.x qAT):Flt)else none)=F4 k g:=by grind
  rw[show qAo [105,110,116]=qAT from rfl]at u;rw[W]at u;refine⟨_,rfl,λQ=>?_,λQ=>?_⟩
  ·subst Q;exact⟨h1.ok.bounds.succ l,I M _ _ ⟨s,by rw[y,qAn (qCA u)]⟩⟩
  ·obtain⟨r,O⟩:=qFK u Q;rw[y,qAj O];rw[O]at u;exact⟨p,rfl,s,u⟩
 rw[(h1.ok.bounds.done l).1,qAk]at y;rw[y];exact⟨none,rfl,H,rfl⟩
end
theorem GenK.makeF1{P:Program}{V:Mem}{f:FuncId}{x:Operand}{ty:Nat}{vals:Operand->Value}{v:Value}(k:vals x=v){q:Value->Mem->Prop}(h:q (.func (.func f) #[v] #[]) V):GenK P (.makeFunc (.func f) #[x] #[]) ty vals V q:=by
 intro w hw;refine⟨_,w,V,?_,Frm.refl hw,h⟩;unfold execOp Instr.makeFunc;simp_all
section
variable{V:Mem}{d:Ds}{c:Option Addr}
theorem impFirst(W:qIm)(h:qBX V c d)(hv:VNe d)(N:qLf d):FltC 159 [.pointer c] V (qIj d):=by
 refine x159 ?_;have O:=λV1 (o:V.sub V1)=>impTypes (h.sub o);have A:=λV1 (o:V.sub V1)=>impHeads (h.sub o) N.small;have I:=λV1 (o:V.sub V1)=>impForm (h.sub o);have M:=λV1 (o:V.sub V1)=>impBodies W (h.sub o) hv N;have F:=λV1 (o:V.sub V1) (s:qEV d=none)=>impExps W (h.sub o) hv N s;refine GenK.makeF1 (v:=.pointer c) rfl ⟨.func (.func 191) #[.pointer c] #[],rfl,rfl,GenK.makeF1 (v:=.pointer c) rfl ⟨.func (.func 192) #[.pointer c] #[],rfl,rfl,GenK.makeF1 (v:=.pointer c) rfl ⟨.func (.func 193) #[.pointer c] #[],rfl,rfl,GenK.makeF1 (v:=.pointer c) rfl ⟨.func (.func 194) #[.pointer c] #[],rfl,rfl,GenK.makeF1 (v:=.pointer c) rfl ⟨.func (.func 195) #[.pointer c] #[],rfl,rfl,λb L=>?_⟩⟩⟩⟩⟩;have Z:=Zn L (.cells #[.func (.func 191) #[.pointer c] #[],.func (.func 192) #[.pointer c] #[],.func (.func 193) #[.pointer c] #[],.func (.func 194) #[.pointer c] #[],.func (.func 195) #[.pointer c] #[]] 236 (0,0));refine qAM 5 (λi V1=>V.sub V1/\V1 b=some (.cells #[.func (.func 191) #[.pointer c] #[],.func (.func 192) #[.pointer c] #[],.func (.func 193) #[.pointer c] #[],.func (.func 194) #[.pointer c] #[],.func (.func 195) #[.pointer c] #[]] 236 (0,0))/\
  ((i=0/\qIj d=(qFT d).or ((qEQ d).or ((qEV d).or ((qCJ d).or (qHH d)))))∨(i=1/\qIj d=(qEQ d).or ((qEV d).or ((qCJ d).or (qHH d))))∨(i=2/\qIj d=(qEV d).or ((qCJ d).or (qHH d)))∨(i=3/\qEV d=none/\qIj d=(qCJ d).or (qHH d))∨(i=4/\qEV d=none/\qIj d=qHH d)∨(i=5/\qIj d=none))) ⟨Z,Mem.set_same _ _ _,.inl ⟨rfl,rfl⟩⟩ ?_
 rintro i C V1 J D ⟨l,g,H⟩ G;have q:∀{V2:Mem}{X Y:Option Flt}{p:Option Addr},V.sub V2->FltAt V2 p X->¬(p=none)->qIj d=X.or Y->(∃Q,xH (.pointer p)=.returned (.pointer Q)/\V.sub V2/\FltAt V2 Q (qIj d)):=λ{V2 X Y p} o s y z=>by
  obtain⟨r,rfl⟩:=qFK s y;simp_all
 refine⟨λR=>?_,λB=>?_⟩
 ·rcases H with⟨rfl,z⟩|⟨rfl,z⟩|⟨rfl,z⟩|⟨rfl,s,z⟩|⟨rfl,s,z⟩|⟨rfl,z⟩
  ·refine⟨by simp[qAa],by omega,by omega,.func (.func 191) #[.pointer c] #[],rfl,qAd g 0 1 (by simp),_,_,_,rfl,Tryz.call191,Tri.mono (O V1 l) ?_⟩;rintro _ V2 ⟨p,rfl,k,u⟩;refine⟨_,rfl,λy=>⟨⟨by omega,by omega⟩,G (by omega) _ _ ⟨l.trans k,k _ _ g,?_⟩⟩,λy=>q (l.trans k) u y z⟩;subst y;exact .inr (.inl ⟨rfl,by rw[z,qCA u,xZ]⟩)
  ·refine⟨by simp[qAa],by omega,by omega,.func (.func 192) #[.pointer c] #[],rfl,qAd g 1 1 (by simp),_,_,_,rfl,Tryz.call192,Tri.mono (A V1 l) ?_⟩;rintro _ V2 ⟨p,rfl,k,u⟩;refine⟨_,rfl,λy=>⟨⟨by omega,by omega⟩,G (by omega) _ _ ⟨l.trans k,k _ _ g,?_⟩⟩,λy=>q (l.trans k) u y z⟩;subst y;exact .inr (.inr (.inl ⟨rfl,by rw[z,qCA u,xZ]⟩))
  ·refine⟨by simp[qAa],by omega,by omega,.func (.func 193) #[.pointer c] #[],rfl,qAd g 2 1 (by simp),_,_,_,rfl,Tryz.call193,Tri.mono (I V1 l) ?_⟩;rintro _ V2 ⟨p,rfl,k,u⟩;refine⟨_,rfl,λy=>⟨⟨by omega,by omega⟩,G (by omega) _ _ ⟨l.trans k,k _ _ g,?_⟩⟩,λy=>q (l.trans k) u y z⟩;subst y;exact .inr (.inr (.inr (.inl ⟨rfl,qCA u,by rw[z,qCA u,xZ]⟩)))
  ·refine⟨by simp[qAa],by omega,by omega,.func (.func 194) #[.pointer c] #[],rfl,qAd g 3 1 (by simp),_,_,_,rfl,Tryz.call194,Tri.mono (M V1 l) ?_⟩;rintro _ V2 ⟨p,rfl,k,u⟩;refine⟨_,rfl,λy=>⟨⟨by omega,by omega⟩,G (by omega) _ _ ⟨l.trans k,k _ _ g,?_⟩⟩,λy=>q (l.trans k) u y z⟩;subst y;exact .inr (.inr (.inr (.inr (.inl ⟨rfl,s,by rw[z,qCA u,xZ]⟩))))
  ·refine⟨by simp[qAa],by omega,by omega,.func (.func 195) #[.pointer c] #[],rfl,qAd g 4 1 (by simp),_,_,_,rfl,Tryz.call195,Tri.mono (F V1 l s) ?_⟩;rintro _ V2 ⟨p,rfl,k,u⟩;refine⟨_,rfl,λy=>⟨⟨by omega,by omega⟩,G (by omega) _ _ ⟨l.trans k,k _ _ g,?_⟩⟩,λy=>q (Y:=none) (l.trans k) u y (by simp_all)⟩;subst y;exact .inr (.inr (.inr (.inr (.inr ⟨rfl,by rw[z,qCA u]⟩))))
  ·omega
 ·rcases H with⟨rfl,z⟩|⟨rfl,z⟩|⟨rfl,z⟩|⟨rfl,s,z⟩|⟨rfl,s,z⟩|⟨rfl,z⟩;·omega
  ·omega
  ·omega
  ·omega
  ·omega
  ·rw[z];exact⟨none,rfl,l,rfl⟩
theorem c113[Tab V](y:qIm)(i:NewC)(z:Ds.Ok V d):PP 113 [d.v] V (if qAG d=true then f3 (qIj d)else .tuple #[.string sE,.int .i64 0,.int .i64 1]):=by
 refine Pur.mk (x113 ?_);refine(c120 z).call ⟨_,rfl,λh=>?_,λh=>?_⟩
 ·rw[if_pos h];refine Tri.mono (i V d z) ?_;rintro _ V1 ⟨c,rfl,h1,l⟩;refine⟨c,rfl,Tri.mono (impFirst y l (vne h) (vparts h)) ?_⟩;rintro _ V2 ⟨p,rfl,h2,g⟩;refine⟨p,rfl,λk=>?_,λk=>?_⟩
  ·subst k;rw[qCA g];exact⟨rfl,h1.trans h2⟩
  ·obtain⟨r,q⟩:=qFK g k;rw[q]at g⊢;obtain⟨b,t,rfl,u⟩:=g;exact⟨k,k,_,qAd u 0 1 (by simp),k,k,_,qAd u 1 1 (by simp),k,k,_,qAd u 2 1 (by simp),qCt (p:=some ⟨b,0,none⟩) (qAd u 2 1 (by simp)),k,k,qCt (p:=some ⟨b,0,none⟩) (qAd u 1 1 (by simp)),k,k,qCt (p:=some ⟨b,0,none⟩) (qAd u 2 1 (by simp)),k,k,rfl,h1.trans h2⟩
 ·rw[if_neg h];exact⟨rfl,Mem.sub.refl _⟩
end
end Go.Proofs
namespace Go.Sx
open Go
open Classical
structure KeyOf (P:Program)(kt:TypeId){α:Type}(enc:α->Value):Prop where
 inj:∀a b,enc a=enc b->a=b
 find:∀(a:α)(es:List MapEntry)(w:World),(∀e∈es,∃b,e.key=enc b)->(Instr.findKey kt (enc a) es).run P w=.ok ((es.findIdx? λe=>decide (e.key=enc a)).bind λj=>(es[j]?).map λe=>(j,e.val)) w
 check:∀(b:Bool)(a:α)(w:World),(Instr.checkKey b 10000 kt (enc a)).run P w=.ok () w
 stays:∀(a:α)(w:World),(Instr.keyThatStays (enc a) (enc a)).run P w=.ok (enc a) w
noncomputable def qET(es:List MapEntry)(k:Value):Option Value:=(es.find? λe=>decide (e.key=k)).map (·.val)
structure qGv {α:Type}(enc:α->Value)(V:Mem)(b:Nat)(m:α->Option Value):Prop where
 at_:∃es clock,V b=some (.map es clock)/\(∀e∈es.toList,∃a,e.key=enc a)/\es.toList.Pairwise (λe f=>e.key≠f.key)/\∀a,qET es.toList (enc a)=m a
section
variable{α:Type}{enc:α->Value}{P:Program}{t kt et:TypeId}{V V':Mem}{b c:Nat}{m m':α->Option Value}
theorem qGv.sub(h:qGv enc V b m)(k:V.sub V'):qGv enc V' b m:=by
 obtain⟨es,c,h1,h2⟩:=h.at_;exact⟨es,c,k _ _ h1,h2⟩
theorem qGv.set{o:Obj}(h:qGv enc V b m)(k:b≠c):qGv enc (V.set c o) b m:=by
 obtain⟨es,c,h1,h2⟩:=h.at_;exact⟨es,c,by rw[Zm k];exact h1,h2⟩
theorem qGv.made(V:Mem)(b:Nat):qGv enc (V.set b (.map #[] 0)) b λ_=>none:=
 ⟨#[],0,Mem.set_same _ _ _,by simp,by simp,by simp[qET]⟩
theorem qGv.congr(h:qGv enc V b m)(e:∀k,m k=m' k):qGv enc V b m':=by
 obtain⟨es,c,h1,h2,h3,h4⟩:=h.at_;exact⟨es,c,h1,h2,h3,λk=>(h4 k).trans (e k)⟩
theorem qGU(k:Value):∀es:List MapEntry,qET es k=(es.findIdx? λe=>decide (e.key=k)).bind λj=>(es[j]?).map (·.val)
 |[]=>rfl
 |e::es=>by
  have h:=qGU k es;unfold qET at h⊢;simp only[xu,ym];by_cases g:e.key=k;·simp[g]
  ·simp only[g,decide_false,zN,if_false,h];cases u:yk (λe=>decide (e.key=k)) es<;>simp
theorem qBH.key2(K:KeyOf P kt enc)(h:P.underlying t=some (.map kt et)){z:Value}(u:∀w,(zeroValue et).run P w=.ok z w)(hm:qGv enc V b m){k:α}{q:Value->Prop}(g:q (.tuple #[(m k).getD z,.bool (m k).isSome])):qBH P t (.map (some b)) (enc k) true V q:=by
 intro w hw;obtain⟨es,c,h1,h2,-,h3⟩:=hm.at_;refine⟨_,?_,g⟩;unfold Instr.lookup;simp only[zK,run_underlying h,zL,yh (hw _ _ h1),zM,K.check,K.find k _ w h2];rw[<-h3 k,qGU];cases y:yk (λe=>decide (e.key=enc k)) es.toList with
 |none=>simp_all
 |some j=>
  grind[yg,zM,yu,yT]
theorem qBH.key1(K:KeyOf P kt enc)(h:P.underlying t=some (.map kt et)){z:Value}(u:∀w,(zeroValue et).run P w=.ok z w)(hm:qGv enc V b m){k:α}{q:Value->Prop}(g:q ((m k).getD z)):qBH P t (.map (some b)) (enc k) false V q:=by
 intro w hw;obtain⟨es,c,h1,h2,-,h3⟩:=hm.at_;refine⟨_,?_,g⟩;unfold Instr.lookup;simp only[zK,run_underlying h,zL,yh (hw _ _ h1),zM,K.check,K.find k _ w h2];rw[<-h3 k,qGU];cases y:yk (λe=>decide (e.key=enc k)) es.toList with
 |none=>simp_all
 |some j=>
  grind[yg,zM,yu,yT]
theorem lookV_push{es:List MapEntry}{k val:Value}{c:Nat}(h:es.findIdx? (λe=>decide (e.key=k))=none)(x:Value):qET (es++[{key:=k,val:=val,born:=c}]) x=if x=k then some val else qET es x:=by
 grind[qET]
theorem qIc(k val:Value):∀(es:List MapEntry)(i:Nat) (h:es.findIdx? (λe=>decide (e.key=k))=some i) (x:Value),qET (es.modify i λe=>{e with key:=k,val:=val}) x=if x=k then some val else qET es x
 |[],_,h,_=>by simp at h
 |e::es,i,h,x=>by
  rw[ym]at h;by_cases g:e.key=k;·grind[qET]
  ·simp only[g,decide_false,zN,if_false,zj]at h;obtain⟨j,u,rfl⟩:=h;have z:=qIc k val es j u x;grind[qET]
theorem qJq(k val:Value):∀(es:List MapEntry)(i:Nat),es.findIdx? (λe=>decide (e.key=k))=some i->(es.modify i λe=>{e with key:=k,val:=val}).map (·.key)=es.map (·.key)
 |[],_,h=>by simp at h
 |e::es,i,h=>by
  rw[ym]at h;by_cases g:e.key=k;·grind
  ·simp only[g,decide_false,zN,if_false,zj]at h;obtain⟨j,u,rfl⟩:=h;simp[qJq k val es j u]
theorem pair_keys{es:List MapEntry}:es.Pairwise (λe f=>e.key≠f.key)↔(es.map (·.key)).Pairwise (·≠·):=by grind
theorem qEb.key(K:KeyOf P kt enc)(s:P.underlying t=some (.map kt et))(hm:qGv enc V b m){k:α}{val:Value}{q:Mem->Prop}(r:∀o,qGv enc (V.set b o) b (λx=>if x=k then some val else m x)->q (V.set b o)):qEb P t (.map (some b)) (enc k) val V q:=by
 intro w hw;obtain⟨es,c,h1,h2,G,h3⟩:=hm.at_;have g:(yp t (.map (some b)) (enc k) val).run P w=
   (match es.toList.findIdx? (λe=>decide (e.key=enc k))with
   |some i=>(setObj b (.map (es.modify i λe=>{e with key:=enc k,val:=val}) c)).run P w
   |none=>(setObj b (.map (es.push {key:=enc k,val:=val,born:=c}) (c+1))).run P w):=by
  unfold yp;simp only[zK,run_underlying s,zL,yh (hw _ _ h1),K.check,K.find k _ w h2];cases u:yk (λe=>decide (e.key=enc k)) es.toList with
  |none=>rfl
  |some j=>
   obtain⟨z,H,_⟩:=yg.1 u;have J:j<es.size:=by simpa using z
   have y:(es[j]?).map (·.key)=some (enc k):=by
    simp_all
   simp only[yu z,Option.bind_some,Option.map_some,zK,y,xz,K.stays,zL]
 have l:∀a,(if enc a=enc k then some val else qET es.toList (enc a))=if a=k then some val else m a:=λa=>by
  by_cases e:a=k;·simp_all
  ·rw[if_neg e,if_neg (λh=>e (K.inj _ _ h)),h3]
 cases u:yk (λe=>decide (e.key=enc k)) es.toList with
 |none=>
  rw[u]at g;refine⟨_,V.set b (.map (es.push {key:=enc k,val:=val,born:=c}) (c+1)),g.trans (yf _ (hw _ _ h1)),Frm.put hw h1,r _ ⟨_,_,Mem.set_same _ _ _,?_,?_,λx=>?_⟩⟩;·grind
  ·grind
  ·rw[Array.toList_push,lookV_push u,l]
 |some j=>
  rw[u]at g;refine⟨_,V.set b (.map (es.modify j λe=>{e with key:=enc k,val:=val}) c),g.trans (yf _ (hw _ _ h1)),Frm.put hw h1,r _ ⟨_,_,Mem.set_same _ _ _,?_,?_,λx=>?_⟩⟩
  ·intro e p;rw[ye]at p;obtain⟨i,N,rfl⟩:=List.mem_iff_getElem.1 p;rw[List.getElem_modify];split;·grind
   simp_all
  ·simp_all[ye,pair_keys,qJq]
  simp_all[ye,qIc]
theorem qJw:∀(es:List MapEntry)(k:Value)(i:Nat),es.Pairwise (λe f=>e.key≠f.key)->es.findIdx? (λe=>decide (e.key=k))=some i->∀x,qET (es.eraseIdx i) x=if x=k then none else qET es x
 |[],_,_,_,h,_=>by simp at h
 |e::es,k,i,u,h,x=>by
  obtain⟨z,g⟩:=List.pairwise_cons.1 u;rw[ym]at h;by_cases y:e.key=k;·grind[qET]
  ·simp only[y,decide_false,zN,if_false,zj]at h;obtain⟨j,l,rfl⟩:=h;have r:=qJw es k j g l x;grind[qET]
theorem GenK.delete(K:KeyOf P kt enc)(J:P.underlying t=some (.map kt et))(hm:qGv enc V b m){k:α}{x y:Operand}{r ty:TypeId}{vals:Operand->Value}(G:vals x=.map (some b))(N:vals y=enc k){q:Value->Mem->Prop}
  (p:∀o,qGv enc (V.set b o) b (λx=>if x=k then none else m x)->q (.tuple #[]) (V.set b o)):GenK P (.call {callee:=.builtin .delete,args:=#[x,y],argTypes:=#[t,r]}) ty vals V q:=by
 intro w hw;obtain⟨es,c,h1,h2,s,h3⟩:=hm.at_;have g:(execOp vals {dst:=none,op:=.call {callee:=.builtin .delete,args:=#[x,y],argTypes:=#[t,r]},type:=ty,pos:= "",after:=#[],guard:=none}).run P w=
   (Sem.run P (match es.toList.findIdx? (λ(e:MapEntry)=>decide (e.key=enc k))with
   |some i=>setObj b (.map (es.eraseIdxIfInBounds i) c)
   |none=>setObj b (.map es c)) w).andThen λ_ w'=>.ok (.value (.tuple #[])) w':=by
  unfold execOp;simp only[resolve,invoke,builtin,zK,zM,zL,y7,List.map_cons,List.map_nil,G,N,Builtin.delete_];simp only[List.getElem?_toArray,List.getElem?_cons_zero,List.getElem?_cons_succ,zK,run_underlying J,zL,yh (hw _ _ h1),K.check,K.find k _ w h2];cases u:yk (λe=>decide (e.key=enc k)) es.toList with
  |none=>simp[zK,zM,yf _ (hw _ _ h1),zL]
  |some j=>
   have z:=(yg.1 u).1;have l:es[j]?=some es[j]:=yT (show j<es.size by simpa using z);simp[zK,zM,yf _ (hw _ _ h1),zL,l]
 cases u:yk (λe=>decide (e.key=enc k)) es.toList with
 |none=>
  rw[u]at g;simp only[yf _ (hw _ _ h1),zL]at g;refine⟨_,_,V.set b (.map es c),g,Frm.put hw h1,p _ ⟨_,_,Mem.set_same _ _ _,h2,s,λa=>?_⟩⟩;by_cases e:a=k
  ·subst e;rw[if_pos rfl,qGU,u];rfl
  simp_all
 |some j=>
  rw[u]at g;simp only[yf _ (hw _ _ h1),zL]at g;refine⟨_,_,V.set b (.map (es.eraseIdxIfInBounds j) c),g,Frm.put hw h1,p _ ⟨_,_,Mem.set_same _ _ _,?_,?_,λa=>?_⟩⟩
  ·intro e H;rw[xq]at H;exact h2 e (List.mem_of_mem_eraseIdx H)
  ·grind[xq,List.eraseIdx_sublist]
  ·rw[xq,qJw _ _ _ s u,h3];by_cases e:a=k;·simp_all
   ·rw[if_neg e,if_neg (λh=>e (K.inj _ _ h))]
end
end Go.Sx
namespace Go.Proofs
open Go Go.Sx
attribute [local irreducible] Go.Sx.Tri
def qAe(n:Int):List Value:=[.int .i64 n]
def inI(n:Int):Prop:=-9223372036854775808<=n/\n<=9223372036854775807
structure Nd where
 ty:Int
 sl:Sl
 f:List Int
def Nd.row(n:Nd):List Value:=[.int .i64 n.ty,n.sl.v]
def Nd.v(n:Nd):Value:=.agg n.row.toArray
structure Nd.Ok (V:Mem)(n:Nd):Prop where
 rows:qAc V n.sl 1 (n.f.map qAe)
 tyIn:inI n.ty
 vals:∀x∈n.f,inI x
structure Mm where
 gs:Sl
 globals:List Int
 ns:Sl
 nodes:List Nd
def Mm.row(m:Mm):List Value:=[m.gs.v,m.ns.v]
def Mm.v(m:Mm):Value:=.agg m.row.toArray
structure Mm.Ok (V:Mem)(m:Mm):Prop where
 globals:qAc V m.gs 1 (m.globals.map qAe)
 gIn:∀x∈m.globals,inI x
 nodes:qAc V m.ns 2 (m.nodes.map Nd.row)
 nodesOk:∀n∈m.nodes,Nd.Ok V n
theorem Nd.Ok.sub{V V':Mem}{n:Nd}(h:Nd.Ok V n)(k:V.sub V'):Nd.Ok V' n:=⟨h.rows.sub k,h.tyIn,h.vals⟩
theorem Mm.Ok.sub{V V':Mem}{m:Mm}(h:Mm.Ok V m)(k:V.sub V'):Mm.Ok V' m:=⟨h.globals.sub k,h.gIn,h.nodes.sub k,λn g=>(h.nodesOk n g).sub k⟩
def allI{α:Type}(p:Nat->α->Bool)(xs:List α):Bool:=xs.zipIdx.all λx=>p x.2 x.1
def AllI{α:Type}(p:Nat->α->Bool)(xs:List α)(i:Nat):Prop:=∀j x,j<i->xs[j]?=some x->p j x=true
theorem AllI.zero{α:Type}{p:Nat->α->Bool}{xs:List α}:AllI p xs 0:=λ_ _ h=>absurd h (Nat.not_lt_zero _)
theorem AllI.succ{α:Type}{p:Nat->α->Bool}{xs:List α}{i:Nat}{x:α}(h:AllI p xs i)(z:xs[i]?=some x)(l:p i x=true):AllI p xs (i+1):=λj y k g=>by
 rcases Nat.lt_succ_iff_lt_or_eq.1 k with u|rfl;·exact h j y u g
 simp_all
theorem qDO{α:Type}{p:Nat->α->Bool}{xs:List α}:allI p xs=true↔∀j x,xs[j]?=some x->p j x=true:=by
 unfold allI;rw[za];constructor;·simp_all[List.mem_zipIdx_iff_getElem?]
 grind
theorem AllI.all{α:Type}{p:Nat->α->Bool}{xs:List α}{i:Nat}(h:AllI p xs i)(hi:xs.length<=i):allI p xs=true:=
 qDO.2 λj x k=>h j x (by grind) k
theorem qHN{α:Type}{p:Nat->α->Bool}{xs:List α}{j:Nat}{x:α}(h:xs[j]?=some x)(k:¬p j x=true):allI p xs=false:=by
 grind[allI,absurd,qDO]
def qDL(d:Ds)(s:KB):Int:=qHG (λt=>decide (t.name=s)) d.types
def qBK(d:Ds)(l:List Fld):Bool:=l.all λf=>qBl d f.ty
def qJD(d:Ds):Bool:=qAG d&&qBK d d.globals&&allI (λi t=>decide (qDL d t.name=(i:Int))&&qBK d t.fields) d.types
def qAt(d:Ds)(t:Int):List Fld:=((d.types[t.toNat]?).map (·.fields)).getD []
def tyAt(l:List Fld)(i:Nat):KB:=((l[i]?).map (·.ty)).getD sE
def qAA(d:Ds)(m:Mm)(h:KB)(v:Int):Bool:=
 if h=qAT then decide (-1099511627776<=v/\v<=1099511627776)else if h=qAz then decide (v=0∨v=1)
 else decide (v=0∨(1<=v/\v<=(m.nodes.length:Int)/\(m.nodes[(v-1).toNat]?).map (·.ty)=some (qDL d h)))
def qAi(d:Ds)(m:Mm)(l:List Fld)(vs:List Int):Bool:=decide (l.length=vs.length)&&allI (λi v=>qAA d m (tyAt l i) v) vs
def qDK(d:Ds)(n:Nd):Bool:=decide (0<=n.ty/\n.ty<(d.types.length:Int))
def qAy(d:Ds)(m:Mm):Bool:=qJD d&&decide (m.nodes.length<=4096)&&m.nodes.all (qDK d)&&qAi d m d.globals m.globals&&m.nodes.all λn=>qAi d m (qAt d n.ty) n.f
theorem row_take{V:Mem}{a:Addr}{n k:Nat}{vs:List Value}(h:V.row a n=some vs)(g:k<=n):V.row a k=some (vs.take k):=by
 grind[Mem.row]
theorem qFy{V:Mem}{p:Option Addr}{off n k:Nat}{vs:List Value}(h:V.rowp p off n=some vs)(g:k<=n):V.rowp (qAa (qAa p off) 0) 0 k=some (vs.take k):=by
 cases p with
 |none=>cases h
 |some a=>
  have h0:((a.add off).add 0).add 0=a.add off:=by rfl
  show V.row (((a.add off).add 0).add 0) k=_;rw[h0];exact row_take h g
section
variable{V:Mem}{d:Ds}{m:Mm}
theorem qHF(d:Ds)(s:KB):(qDL d s<0/\qBd d s=false)∨(0<=qDL d s/\qBd d s=true):=by
 grind[qDL,qBd,qAL,Ty]
theorem c84(h:Ds.Ok V d){l:Sl}{xs:List Fld}(y:qAc V l 2 (xs.map Fld.row)):PP 84 [d.v,l.v] V (.bool (qBK d xs)):=by
 refine x84 ?_;refine qAM (mk:=.bool) (b0:=false) xs.length (λi V1=>V=V1/\qAY (λf=>qBl d f.ty) xs i) ⟨rfl,qAY.zero _ _⟩ ?_;rintro i b V1 J W ⟨rfl,s⟩ H;refine⟨λg=>?_,λr=>?_⟩
 ·obtain⟨x,hm,G,N,Z,z,q,u⟩:=y.get g;have o:=qAf (n:=i*2) z;have p:qBl d x.ty=true->IR ((i:Int)+1)/\J [.bool b,.int .i64 ((i:Int)+1)] V:=λY=>⟨y.succ g,H Z _ _ ⟨rfl,s.succ G Y⟩⟩;refine⟨z,q,g,o,_,_,u,λh1=>p (by grind[qBl,qAT]),λh1=>⟨z,q,g,o,_,_,u,λh2=>p (by grind[qBl,qAz]),λh2=>⟨z,q,g,o,_,_,u,(c85 h).call ⟨_,rfl,λh3=>?_,λh3=>p ?_⟩⟩⟩⟩
  ·rcases qHF d x.ty with⟨-,k⟩|⟨k,-⟩
   ·have:qBl d x.ty=false:=by grind[qBl,qAT,qAz]
    unfold qBK;grind
   grind[absurd,qDL]
  ·rcases qHF d x.ty with⟨k,-⟩|⟨-,k⟩;·grind[absurd,qDL]
   grind[qBl]
 ·unfold qBK;rw[s.all (y.done r).2];simp_all
theorem c46(h:Ds.Ok V d):PP 46 [d.v] V (.bool (qJD d)):=by
 refine x46 ?_;unfold qJD;refine(c31 h).call ⟨_,rfl,λhv=>(c84 h h.globals).call ⟨_,rfl,λr=>?_,λr=>?_⟩,λhv=>?_⟩
 ·rw[hv,r,Bool.true_and,Bool.true_and];refine qAM (mk:=.bool) (b0:=false) d.types.length (λi V1=>V=V1/\AllI (λi t=>decide (qDL d t.name=(i:Int))&&qBK d t.fields) d.types i) ⟨rfl,AllI.zero⟩ ?_;rintro i b V1 J N ⟨rfl,q⟩ s;refine⟨λg=>?_,λz=>?_⟩
  ·obtain⟨x,hm,y,H,G,l,o,u⟩:=h.types.get g;have p:=qAf (n:=i*2) l;refine⟨l,o,g,p,_,_,u,(c85 h).call ⟨_,rfl,λh1=>⟨l,o,g,p,_,_,u,(c84 h (h.typesOk x hm).fields).call ⟨_,rfl,λh2=>⟨h.types.succ g,s G _ _ ⟨rfl,q.succ y ?_⟩⟩,λh2=>?_⟩⟩,λh1=>?_⟩⟩;·grind[qDL]
   ·rw[qHN y (by simp_all)];simp_all
   ·rw[qHN y (by rw[zC,decide_eq_true_eq];exact λk=>h1 k.1)];simp_all
  ·rw[q.all (h.types.done z).2];simp_all
 ·simp_all
 simp_all
theorem c47(h:Ds.Ok V d)(hm:Mm.Ok V m){s:KB}{v:Int}:PP 47 [d.v,m.v,.string s,.int .i64 v] V (.bool (qAA d m s v)):=by
 refine x47 ?_;unfold qAA;have H:=hm.nodes.n_eq;have g:∀{a b:Bool},a=b->(xH (.bool a)=xH (.bool b)/\V=V):=λe=>⟨by rw[e],rfl⟩;refine⟨λh1=>?_,λh1=>⟨λh2=>?_,λh2=>?_⟩⟩;·grind[qAT]
 ·grind[qAT,qAz,inr]
 ·rw[if_neg (show ¬s=qAT from h1),if_neg (show ¬s=qAz from h2)];refine⟨λh3=>g (decide_eq_true (.inl h3)).symm,λh3=>⟨λh4=>⟨λr=>?_,λr=>g ?_⟩,λh4=>g ?_⟩⟩
  ·obtain⟨i,rfl⟩:∃i:Nat,v=(i:Int)+1:=⟨(v-1).toNat,by omega⟩;have e:((i:Int)+1-1)=(i:Int):=by omega
   have q:(i:Int)+1<=9223372036854775807:=by have:=(hm.nodes.succ (i:=i) (by omega)).2;omega
   rw[e];obtain⟨x,o,y,p,J,z,G,u⟩:=hm.nodes.get (i:=i) (by omega);have l:=qAf (n:=i*2) z;refine⟨⟨by omega,by omega⟩,z,by omega,by omega,l,_,_,u,(c85 h).call ⟨_,rfl,?_,l,z,by omega,by omega,⟨by omega,by omega⟩,g ?_⟩⟩;·exact qFy (k:=1) u (by decide)
   ·refine decide_eq_decide.2 ⟨λk=>.inr ⟨h4,by omega,?_⟩,λk=>?_⟩
    ·show Option.map (·.ty) (m.nodes[((i:Int)).toNat]?)=_;rw[Int.toNat_natCast,y];exact congrArg some k
    ·rcases k with k|⟨-,-,k⟩;·omega
     ·rw[show((i:Int)).toNat=i from rfl,y]at k;exact Option.some.inj k
  ·grind
  grind
theorem qAU{t:Int}{x:Ty}{k:Nat}(h:d.types[k]?=some x)(g:t=(k:Int)):qAt d t=x.fields:=by
 grind[qAt]
theorem c15(h:Ds.Ok V d)(hm:Mm.Ok V m):PP 15 [d.v,m.v] V (.bool (qAy d m)):=by
 refine x15 ?_;have hn:=hm.nodes.n_eq;have hg:=hm.globals.n_eq;have hdg:=h.globals.n_eq;have hdt:=h.types.n_eq;have no:∀{V1:Mem},V=V1->¬qAy d m=true->(xH (.bool false)=xH (.bool (qAy d m))/\V1=V):=λe k=>⟨by simp_all,e.symm⟩;have parts:qAy d m=true↔qJD d=true/\m.nodes.length<=4096/\(∀n∈m.nodes,qDK d n=true)/\qAi d m d.globals m.globals=true/\∀n∈m.nodes,qAi d m (qAt d n.ty) n.f=true:=by
  grind[qAy]
 refine(c46 h).call ⟨_,rfl,λht=>⟨λhl=>⟨λL=>no rfl λk=>?_,λL=>?_⟩,λhl=>no rfl λk=>?_⟩,λht=>no rfl λk=>ht (parts.1 k).1⟩;·grind
 ·let PA:Nd->Bool:=λn=>qDK d n&&decide ((qAt d n.ty).length=n.f.length);refine qAM (mk:=.bool) (b0:=false) m.nodes.length (λi V1=>V=V1/\qAY PA m.nodes i) ⟨rfl,qAY.zero _ _⟩ ?_;rintro i b V1 J U ⟨rfl,Z⟩ O;refine⟨λg=>?_,λr=>?_⟩
  ·obtain⟨x,l,R,X,s,Y,A,u⟩:=hm.nodes.get g;have B:=qAf (n:=i*2) Y;have hnx:=(hm.nodesOk x l).rows.n_eq;refine⟨Y,A,g,B,_,_,u,λh1=>no rfl λk=>?_,λh1=>⟨λh2=>no rfl λk=>?_,λh2=>?_⟩⟩
   ·have:=(parts.1 k).2.2.1 x l;exact absurd (of_decide_eq_true this).1 (by omega)
   ·have:=(parts.1 k).2.2.1 x l;exact absurd (of_decide_eq_true this).2 (by omega)
   ·obtain⟨t,q⟩:∃t:Nat,x.ty=(t:Int):=⟨x.ty.toNat,by omega⟩;obtain⟨y,I,hy,-,-,H,hyz,o⟩:=h.types.get (i:=t) (by omega);have hfn:=(h.typesOk y I).fields.n_eq;have W:=qAU hy q;have h1':(0:Int)<=x.ty:=by omega
    rw[q]at h1 h2⊢;refine⟨Y,A,g,B,_,_,u,H,by omega,by omega,qAf H,_,_,o,λh3=>⟨hm.nodes.succ g,O s _ _ ⟨rfl,Z.succ R ?_⟩⟩,λh3=>no rfl λk=>?_⟩;·grind[qDK,qAt]
    grind[qAi]
  have hA:=Z.all (hm.nodes.done r).2;rw[za]at hA;clear O Z r U;refine qAM (mk:=.bool) (b0:=b) m.globals.length (λi V1=>V=V1/\AllI (λi v=>qAA d m (tyAt d.globals i) v) m.globals i) ⟨rfl,AllI.zero⟩ ?_;rintro i b1 V1 J U ⟨rfl,Z⟩ O;refine⟨λg=>?_,λr=>?_⟩
  ·obtain⟨x,l,R,X,s,Y,A,u⟩:=hm.globals.get g;obtain⟨f,hfm,hf,-,-,G,M,p⟩:=h.globals.get (i:=i) (by omega);have hty:tyAt d.globals i=f.ty:=by grind[tyAt]
   refine⟨G,M,by omega,qAf G,_,_,p,Y,A,g,_,u,(c47 h hm).call ⟨_,rfl,λh1=>⟨hm.globals.succ g,O s _ _ ⟨rfl,Z.succ R (by grind)⟩⟩,λh1=>no rfl λk=>?_⟩⟩;have:=(parts.1 k).2.2.2.1;unfold qAi at this;rw[zC]at this;grind[qDO]
  have hG:=Z.all (hm.globals.done r).2;clear O Z r U;refine qAM (mk:=.bool) (b0:=b1) m.nodes.length (λi V1=>V=V1/\qAY (λn=>qAi d m (qAt d n.ty) n.f) m.nodes i) ⟨rfl,qAY.zero _ _⟩ ?_;rintro i b2 V1 J U ⟨rfl,Z⟩ O;refine⟨λg=>?_,λr=>?_⟩
  ·obtain⟨x,l,R,X,s,Y,A,u⟩:=hm.nodes.get g;have B:=qAf (n:=i*2) Y;have C:=hm.nodesOk x l;have D:=hA x l;rw[zC,decide_eq_true_eq]at D;obtain⟨E,K⟩:=D;have E:=of_decide_eq_true E;obtain⟨t,q⟩:∃t:Nat,x.ty=(t:Int):=⟨x.ty.toNat,by omega⟩;obtain⟨y,I,hy,-,-,H,hyz,o⟩:=h.types.get (i:=t) (by omega);have Q:=(h.typesOk y I).fields;have W:=qAU hy q;refine⟨Y,A,g,B,_,_,u,H,by rw[q];omega,by rw[q];omega,qAf H,_,_,by rw[q];exact o,?_⟩;rw[W]at K;have hxn:=C.rows.n_eq;have hyn:=Q.n_eq;refine qAM (mk:=.bool) (b0:=b2) y.fields.length (λj V1=>V=V1/\AllI (λi v=>qAA d m (tyAt y.fields i) v) x.f j) ⟨rfl,AllI.zero⟩ ?_;rintro j b3 V1 J1 hj ⟨rfl,S⟩ hJ1;refine⟨λN=>?_,λT=>⟨hm.nodes.succ g,O s _ _ ⟨rfl,Z.succ R ?_⟩⟩⟩
   ·obtain⟨f,hfm,hf,-,hfl,G,M,p⟩:=Q.get N;obtain⟨z,hzm,hzx,-,-,hzp,hzz,F⟩:=C.rows.get (i:=j) (by omega);have hty:tyAt y.fields j=f.ty:=by grind[tyAt]
    refine⟨G,M,N,qAf G,_,_,p,Y,A,g,B,_,_,u,hzp,hzz,by omega,_,F,(c47 h hm).call ⟨_,rfl,λh1=>⟨Q.succ N,hJ1 hfl _ _ ⟨rfl,S.succ hzx (by grind)⟩⟩,λh1=>no rfl λk=>?_⟩⟩;have:=(parts.1 k).2.2.2.2 x l;unfold qAi at this;rw[zC,W]at this;grind[qDO]
   ·have:=(Q.done T).2;unfold qAi;rw[W,S.all (by omega),decide_eq_true K];rfl
  ·have hN:=Z.all (hm.nodes.done r).2;rw[za]at hN;have:qAy d m=true:=parts.2 ⟨ht,by omega,λn hn'=>(zC _ _▸hA n hn').1,by grind[qAi],hN⟩;simp_all
 grind[qAi]
end
end Go.Proofs
namespace Go.Proofs
open Go Go.Sx
inductive Rs where
 |ok (v:Int)
 |bad (e:Int)
deriving DecidableEq
def Rs.bind:Rs->(Int->Rs)->Rs
 |.ok v,f=>f v
 |.bad e,_=>.bad e
def big(n:Int):Rs:=if -1099511627776<=n/\n<=1099511627776 then .ok n else .bad 5
def trI(b:Bool):Int:=if b then 1 else 0
def qCP(op a b:Int):Rs:=
 if op=9 then big (a+b)else if op=10 then big (a-b)else if op=11 then big (a*b)
 else if op=22 then .ok (if a<b then b else a)else if op=23 then .ok (if b<a then b else a)
 else if op=14 then .ok (trI (decide (a=b)))else if op=15 then .ok (trI (!decide (a=b)))else if op=16 then .ok (trI (decide (a<b)))else if op=17 then .ok (trI (decide (a<=b)))
 else if b=0 then .bad 18 else if op=12 then .ok (a.tdiv b)else .ok (a.tmod b)
def qFW(l:List Fld)(s:KB):Int:=qHG (λf=>decide (f.name=s)) l
def mIdx(d:Ds)(s:KB):Int:=qHG (λx=>decide (x.name=s)) d.measures
def varV(d:Ds)(m:Mm)(x:Int)(s:KB):Int:=if s=sThisF then x else(m.globals[(qFW d.globals s).toNat]?).getD 0
def fldV(d:Ds)(m:Mm)(a:Int)(s:KB):Rs:=
 if a=0 then .bad 17 else match m.nodes[(a-1).toNat]? with
  |none=>.bad 0
  |some n=>.ok ((n.f[(qFW (qAt d n.ty) s).toNat]?).getD 0)
def qKr(a:Int):Int:=(Nat.log2 a.toNat:Int)
def kidR(rs:List Rs)(i:Nat):Rs:=rs.getD i (.bad 0)
section
variable(d:Ds)(m:Mm)
def comb(F:Int->Int->Rs)(x op n:Int)(s:KB)(rs:List Rs):Rs:=
 if op=1∨op=2 then .ok n else if op=3 then .ok 0 else if op=4 then .ok (varV d m x s)
 else if op=5 then(kidR rs 0).bind λa=>fldV d m a s
 else if op=7 then(kidR rs 0).bind λa=>F (mIdx d s) a
 else if op=8 then(kidR rs 0).bind λa=>big (-a)
 else if op=18 then(kidR rs 0).bind λa=>.ok (1-a)
 else if op=24 then(kidR rs 0).bind λa=>.ok (qKr a)
 else if op=19 then(kidR rs 0).bind λa=>if a=0 then .ok 0 else kidR rs 1
 else if op=20 then(kidR rs 0).bind λa=>if a=0 then kidR rs 1 else .ok 1
 else if op=21 then(kidR rs 0).bind λa=>if a=0 then kidR rs 2 else kidR rs 1
 else(kidR rs 0).bind λa=>(kidR rs 1).bind λb=>qCP op a b
mutual
def evE(F:Int->Int->Rs)(x:Int):E->Rs
 |.mk op n s _ k=>comb d m F x op n s (evEs F x k)
def evEs(F:Int->Int->Rs)(x:Int):List E->List Rs
 |[]=>[]
 |e::es=>evE F x e::evEs F x es
end
end
end Go.Proofs
