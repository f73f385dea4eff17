/- Part 11: no statement of the seat is proved here. -/
import Derived.Test.YtejinebghgaigaaGreatDoorPc10
import Derived.Test.YtejinebghgaigaaGreatDoorPc04
set_option linter.unusedVariables false
set_option linter.unusedSimpArgs false
open Go.Builtin renaming append_->y9,zeroCells->xB
open Go.Sem renaming run_bind->zK,run_pure->zM
open Go.Result renaming andThen_ok->zL
open Go.Proofs.Tryz renaming prog->xG,underlying286->xx,underlying9->xy,underlying216->xv
open Go.Ending renaming returned->xI
open Option renaming getD_some->xY,none_or->xX,map_eq_some_iff->zh
open List renaming mem_cons->yE,not_mem_nil->xE,find?_cons->xw,findIdx?_cons->yk,findIdx?->yi,findIdx?_eq_some_iff_getElem->ye,getElem?_eq_getElem->yr,mem_iff_getElem->ya,all_eq_true->z7,mem_of_getElem?->xr
open Bool renaming false_eq_true->zN,and_eq_true->zC
open Go.MapKept renaming run_getObj_map->yf,run_setObj_map->yd
open Go.Instr renaming mapUpdate->yo
open Array renaming toList_modify->yb
open Int renaming toNat_natCast->xu
open Prod.mk renaming injEq->zS
namespace Go.Proofs
open Go Go.Sx
theorem wrap_id{n:Nat}(h:n<=2147483648):IntKind.wrap .i64 (n:Int)=n:=Hl ⟨by show(-9223372036854775808:Int)<=n;omega,by show(n:Int)<=9223372036854775807;omega⟩
theorem QN{P:Program}(w:World)(t u ty e:TypeId)(i:TypeInfo)(z:Value)(o:P.underlying t=some (.slice e))(hu:P.underlying u=some (.int .i64))(hi:P.info? e=some i)(p:i.zero=some z)
  (n:Nat) (s:0<n) (q:n<=2147483648) (H:i.bytes<=65536) (G:0<i.size):
  (y9 #[t,u] ty #[.slice none 0 0,.int .i64 n]).run P w=
   .ok (.slice (some ⟨w.heap.size,0,none⟩) n (grownCap w n 0 e)) (w.drew.alloc (.cells (xB z.cells n++xB z.cells (grownCap w n 0 e-n)) e)):=by
 have y:n≠0:=by omega
 have h:¬(9223372036854775807<(n:Int)):=by omega
 have J:n*i.bytes<=281474976710656:=Nat.le_trans (Nat.mul_le_mul q H) (by decide);have k:¬(281474976710656<Builtin.nextslicecap n 0*i.bytes):=by rw[nextslicecap_zero s];omega
 have g:¬(281474976710656<(n:Int)*(i.bytes:Int)):=by omega
 have l:¬((n:Int)<0):=by omega
 have r:i.size≠0:=by omega
 simp[y9,run_underlying o,run_underlying hu,sizeOf,typeInfo,zeroValue,hi,p,y,h,k,g,l,r,wrap_id q,asInt,asIntOf,Question.forced,run_firstCells_none,newRow,grownCap];simp_all[absurd,Nat.ne_of_gt,Nat.mul_pos]
theorem GenK.appendZ{P:Program}{V0 V:Mem}{t u e ty:TypeId}{i:TypeInfo}{z:Value}{sz:Nat}(J:P.underlying t=some (.slice e))(hu:P.underlying u=some (.int .i64))(hi:P.info? e=some i)(G:i.zero=some z)(g:i.size=sz)(l:z.cells.size=sz)(r:0<sz)(o:i.bytes<=65536)
  {x y:Operand} {vals:Operand->Value} {n:Nat} (N:vals x=.slice none 0 0) (Z:vals y=.int .i64 n) (Y:0<n) (W:n<=2147483648) (H:V0.sub V) {q:Value->Mem->Prop}
  (Q:∀b c V',Own V0 V' e sz ⟨some ⟨b,0,none⟩,0,c⟩ []->n<=c->c<=9223372036854775807->q (.slice (sa b) n c) V'):
  GenK P (.call {callee:=.builtin .append,args:=#[x,y],argTypes:=#[t,u]}) ty vals V q:=by
 intro w hw;subst g;have O:=QN (P:=P) w t u ty e i z J hu hi G n Y W o r;obtain⟨k,A⟩:=Aw.new hw (.cells (xB z.cells n++xB z.cells (grownCap w n 0 e-n)) e);have p:=grownCap_ge w n 0 e;have s:=grownCap_le_maxLen w n 0 e (by simp only[maxLen];omega);refine⟨_,_,_,?_,A,Q w.heap.size (grownCap w n 0 e) _ ⟨Mem.sub.new H k _,by simp,.inr ⟨w.heap.size,_,rfl,?_,Mem.set_same _ _ _,Nat.zero_le _,s,?_,by simp⟩⟩ p (by grind[maxLen])⟩
 ·unfold execOp;simp only[resolve,invoke,builtin,zK,zM,zL,List.map_toArray,List.map_cons,List.map_nil,N,Z,O]
 ·cases h:V0 w.heap.size with
  |none=>rfl
  |some x=>rw[H _ _ h]at k;cases k
 ·simp only[Array.size_append,size_zeroCells,l,<-Nat.add_mul];simp_all
section
variable{V:Mem}
theorem growF{V0:Mem}(k:V0.sub V){n:Nat}(z:n<=1000000):Tri xG 222 #[.slice none 0 0,.int .i64 n] V λr V'=>∃s:Sl,r=.returned (.slice s.p s.n s.c)/\Own V0 V' 112 2 s []:=by
 refine x222 (a:=⟨none,0,0⟩) ?_;refine⟨λh=>absurd h (by omega),λ_=>⟨⟨by simp,by simp⟩,⟨by simp<;>omega,by simp<;>omega⟩,λh=>⟨⟨by simp,by simp,by simp⟩,?_⟩,λh=>⟨⟨none,0,0⟩,rfl,Own.nil k _ _⟩⟩⟩;have hi:xG.info? 112=some (ti 112):=by kernel_rfl
 have g:(ti 112).zero=some ((ti 112).zero.getD undef):=by kernel_rfl
 have h1:(ti 112).size=2:=by kernel_rfl
 have h2:((ti 112).zero.getD undef).cells.size=2:=by kernel_rfl
 have h3:(ti 112).bytes<=65536:=by rw[show(ti 112).bytes=32 by kernel_rfl];omega
 refine GenK.appendZ (n:=n) Tryz.underlying28 Tryz.underlying3 hi g h1 h2 (by decide) h3 rfl ?_ (by simp at h;omega) (by omega) k λb c V' y i u=>⟨⟨some ⟨b,0,none⟩,n,c⟩,rfl,⟨by simp,by simp,by simp⟩,?_⟩;·rfl
 ·simp only[Hu];grind
theorem concatF{l:Sl}{ls:List (Sl×List Fld)}(h:Ad V l 1 (ls.map λx=>[x.1.v]))(q:∀x∈ls,Ad V x.1 2 (x.2.map Fld.row))(O:ls.length<=100)(o:∀x∈ls,x.2.length<=1000):
  Tri xG 176 #[.slice l.p l.n l.c] V λr V'=>∃s:Sl,r=.returned (.slice s.p s.n s.c)/\V.sub V'/\Ad V' s 2 ((ls.flatMap (·.2)).map Fld.row):=by
 refine x176 ?_;have R:=h.n_eq;refine Fo (mk:=.int .i64) Cu ls.length (λi n V1=>V=V1/\0<=n/\n<=1000*i) ⟨rfl,by omega,by omega⟩ ?_;rintro i n V1 J hi ⟨rfl,A,I⟩ N;refine⟨λg=>?_,λH=>?_⟩
 ·obtain⟨x,hm,M,Z,Y,W,Q,z⟩:=h.get g;have X:=(q x hm).n_eq;have F:=o x hm;exact⟨W,Q,g,x.1,z,⟨by omega,by omega⟩,λG=>absurd G (by omega),λ_=>⟨h.succ g,N Y _ _ ⟨rfl,by omega,by omega⟩⟩⟩
 ·obtain⟨k,rfl⟩:=Int.eq_ofNat_of_zero_le A;refine Tri.mono (growF (Mem.sub.refl V) (n:=k) (by omega)) ?_;rintro _ V1 ⟨s,rfl,y⟩;refine⟨s,rfl,?_⟩;refine Fo (mk:=λs:Sl=>.slice s.p s.n s.c) (b0:=s) Bv ls.length (λi s V2=>Own V V2 112 2 s (((ls.take i).flatMap (·.2)).flatMap Fld.row)/\((ls.take i).flatMap (·.2)).length<=1000*i) ⟨y,by simp⟩ ?_;rintro i s V2 J hi ⟨y,I⟩ N;have h2:=h.sub y.sub;refine⟨λg=>?_,λH=>?_⟩
  ·obtain⟨x,hm,M,Z,Y,W,Q,z⟩:=h2.get g;have F:=o x hm;refine⟨W,Q,g,x.1,z,?_⟩;refine EX (s:=s) (u:=x.1) (xs:=(ls.take i).flatMap (·.2)) (ys:=x.2) rfl rfl y ((q x hm).sub y.sub) (by omega) λs' V' L=>⟨s',rfl,h2.succ g,N Y _ _ ?_⟩;grind
  ·have:=(h2.done H).2;rw[List.take_of_length_le this]at y;exact⟨s,rfl,y.sub,ownF y⟩
end
end Go.Proofs
namespace Go.Proofs
open Go Go.Sx
attribute [local irreducible] Go.Sx.Tri
section
variable{V:Mem}{d:Ds}{c:Option Addr}{m:Option Nat}{sc:Sc}
theorem c229(h:B0 V c d)(hv:EY d)(O:Fu V m sc)(G:sc.body=true){x:S}(B:S.Ok V x)(T:Dg x.op x.s x.es x.ls.length x.xs.length=true){res:KB}:
  PP 229 [sV c m sc,x.v,.string res] V (.int .i64 (Ed d sc res x.op x.s x.es)):=by
 obtain⟨a6,a134,a2,a5,alen,A⟩:=Oo T;rw[S.v_eq];refine Bf.mk (x229 ?_);have hf:=Kz B;refine⟨λC=>?_,λC=>?_⟩
 ·obtain⟨D,o,-⟩:=a6 C;rcases hf with⟨h',-⟩|⟨e0',r,E,hn,U,hp2,q⟩;·simp_all
  ·rw[o]at E;cases E;have I:=A D (by rw[o];simp);have M:=B.eOk D (by rw[o];simp);have hk:∀y∈D.k,ImpE V d c m sc y:=λy hy=>impExpr h hv O y (M.kids y hy) 2 (KD I y hy);refine⟨U,by omega,by omega,_,_,_,_,q,(impCall h D M (arity (JE I)).2.2.2 hk).call ⟨_,_,rfl,?_⟩⟩;unfold Ed rawT H8;rw[if_pos C,o];simp only[if_pos G];split;·exact⟨rfl,Mem.sub.refl _⟩
   ·exact⟨rfl,Mem.sub.refl _⟩
 ·unfold Ed;rw[if_neg C];have hr:=B.eRows;refine Ho (mk:=.int .i64) (mc:=λs:Sl=>.slice s.p s.n s.c) 0 ⟨none,0,0⟩ Bv x.es.length (λi s V2=>∃acc,Own V V2 9 1 s (acc.flatMap Dm)/\partsT d sc [] x.es=partsT d sc acc (x.es.drop i)/\acc.length=i) ⟨[],Own.nil (Mem.sub.refl _) _ _,rfl,rfl⟩ ?_;rintro i b s V2 J hi ⟨acc,g,z,N⟩ hJ;have H:=hr.sub g.sub;refine⟨λZ=>?_,λF=>?_⟩
  ·obtain⟨y,hm,hxy,hdr,hl,hpp,hz,q⟩:=H.get Z;rw[hdr,HW]at z;refine⟨hpp,hz,Z,_,_,_,_,q,(impExpr h hv O y (B.eOk y hm) 1 (A y hm) V2 g.sub).call ⟨_,_,rfl,λQ=>?_,λQ=>?_⟩⟩
   ·intro b1 hb1;rw[if_neg (λh=>h Q)]at z;refine app194 (s:=s) (u:=⟨some ⟨b1,0,none⟩,1,1⟩) (xs:=acc) (ys:=[(As d sc y).1]) rfl rfl (g.new hb1 _) (JF Az) (by grind) λs' V' ho=>⟨s',rfl,H.succ Z,hJ hl _ _ _ ⟨_,ho,z,by simp[N]⟩⟩
   ·rw[if_pos Q]at z;rw[z];simp only[Q,ne_eq,not_false_eq_true,if_true];exact⟨by trivial,g.sub⟩
  ·have hge':=(H.done F).2;rw[(H.done F).1,IK]at z;rw[z];simp only[ne_eq,not_true_eq_false,if_false];have l:=ownS g;have hal:acc.length=x.es.length:=by omega
   have hsub:=g.sub;have h2:=h.sub g.sub;have sln:=l.n_eq;have Y:=λh:0<acc.length=>Ft l h;have at1:=λh:1<acc.length=>Ft l h;have key:∀X n:Int,X=n->(xI (.int .i64 n)=xI (.int .i64 X)/\V.sub V2):=λX n h=>by simp_all
   refine⟨λK=>?_,λK=>⟨λo2=>?_,λo2=>⟨λo3=>?_,λo3=>⟨λo4=>?_,λo4=>⟨λo5=>?_,λo5=>key _ _ ?_⟩⟩⟩⟩⟩
   ·obtain⟨b1,b2,b3⟩:=Y (by omega);obtain⟨mb,rfl,L⟩:=(O.sub g.sub).at_;rw[if_pos K,Ov];refine BJ.str xx xy zero9 L ?_;cases R:Cj sc.vars x.s with
    |none=>
     rw[Option.getD_none];exact⟨_,_,rfl,λh=>absurd h (by simp),λ_=>key _ _ (if_pos rfl)⟩
    |some t=>
     rw[xY];refine⟨t,_,rfl,λ_=>⟨b1,by omega,b2,_,b3,(c261 h2).call ⟨_,rfl,λW=>key _ _ ?_,λW=>key _ _ ?_⟩⟩,λh=>absurd rfl h⟩;·rw[if_neg (O.ne.some R),if_pos W]
     ·rw[if_neg (O.ne.some R),if_neg W]
   ·obtain⟨b1,b2,b3⟩:=Y (by omega);obtain⟨c1,c2,c3⟩:=at1 (by omega);rw[if_neg K,if_pos o2];refine⟨b1,by omega,b2,_,b3,(c262 h2 hv).call ⟨_,_,rfl,λW=>⟨c1,by omega,c2,_,c3,(c261 h2).call ⟨_,rfl,λhc=>key _ _ ?_,λhc=>key _ _ ?_⟩⟩,λW=>key _ _ ?_⟩⟩;·simp_all
    ·simp_all
    omega
   ·grind[Au]
   ·grind[Au]
   ·have h5:=a5 o5;rw[if_neg K,if_neg o2,if_neg (by omega),if_pos o5];refine⟨λhn=>?_,λhn=>?_⟩;·grind[sE]
    ·have Q:¬acc.length=0:=by omega
     obtain⟨b1,b2,b3⟩:=Y (by omega);rw[if_neg Q];refine⟨λE=>key _ _ (by grind[sE]),λE=>⟨b1,by omega,b2,_,b3,(c261 h2).call ⟨_,rfl,λW=>key _ _ ?_,λW=>key _ _ ?_⟩⟩⟩;·grind[sE]
     simp_all
   omega
def placeT(r:Int×Int):Int:=if r.2=0 then 0 else r.1
def Dp(V:Mem)(b t:Nat)(a:Int)(V1:Mem):Prop:=(V.set b (cell (.int .i64 a) t)).sub V1
theorem Dp.st{b t:Nat}{a k:Int}{V1:Mem}(h:Dp V b t a V1):Dp V b t k (V1.set b (cell (.int .i64 k) t)):=λq o g=>by
 by_cases e:q=b;·grind[Mem.set_same]
 ·rw[Mem.set_ne e]at g⊢;exact h q o (by rw[Mem.set_ne e];exact g)
theorem Dp.call{b t:Nat}{a k:Int}{V1 V2:Mem}(h:Dp V b t a V1)(h2:Dp V1 b t k V2):Dp V b t k V2:=(Dp.st h).trans h2
theorem Dp.cell{b t:Nat}{a:Int}{V1:Mem}(h:Dp V b t a V1):V1 b=some (Sx.cell (.int .i64 a) t):=h _ _ Az
theorem Dp.base{V0:Mem}{b t:Nat}{a:Int}{V1:Mem}(h:Dp V b t a V1)(k:V0.sub V)(g:V0 b=none):V0.sub V1:=(k.set g _).trans h
theorem Dp.other{b t q:Nat}{a:Int}{V1:Mem}{o:Obj}(h:Dp V b t a V1)(k:V q=some o)(g:q≠b):V1 q=some o:=h _ _ (by rw[Mem.set_ne g];exact k)
def ImpS(V0:Mem)(d:Ds)(c:Option Addr)(m:Option Nat)(sc:Sc)(res:KB)(b t:Nat)(l:List S):Prop:=∀(V:Mem)(sl:Sl)(n k:Int),V0.sub V->V b=some (cell (.int .i64 n) t)->Ad V0 sl 5 (l.map S.row)->(∀x∈l,S.Ok V0 x)->CG k l=true->0<=n->n+CA l<=1000->
 Tri xG 185 #[sV c m sc,.slice sl.p sl.n sl.c,.string res,pv b] V λr V'=>r=.returned (.tuple #[.int .i64 (placeT (AK d sc res n l)),.int .i64 (AK d sc res n l).2])/\∃h,Dp V b t h V'/\((AK d sc res n l).2=0->h=(AK d sc res n l).1)
theorem impStep{V0:Mem}{b t:Nat}{res:KB}(E:V0 b=none)(h:B0 V0 c d)(hv:EY d)(hs:Fu V0 m sc)(W:sc.body=true){l:List S}(hk:∀x∈l,ImpS V0 d c m sc res b t x.ls/\ImpS V0 d c m sc res b t x.xs):ImpS V0 d c m sc res b t l:=by
 intro V sl n dd K T U hok M hn0 hn1;refine x185 ?_;refine DN l.length (λi V1=>∃a,Dp V b t a V1/\0<=a/\a+CA (l.drop i)<=1000/\AK d sc res n l=AK d sc res a (l.drop i)) ⟨n,by grind[Dp,Mem.set_eq,Mem.sub.refl],hn0,hn1,rfl⟩ ?_;rintro i b' c' V1 J hi ⟨a,N,ha0,ha1,Z⟩ hJ;have o:=N.base K E;have u:=N.cell;have bad:∀{V2:Mem}(p e k:Int),Dp V b t k V2->e≠0->AK d sc res n l=(p,e)->(xI (.tuple #[.int .i64 p,.int .i64 e])=xI (.tuple #[.int .i64 (placeT (AK d sc res n l)),.int .i64 (AK d sc res n l).2])/\∃C,Dp V b t C V2/\((AK d sc res n l).2=0->C=(AK d sc res n l).1)):=λ{V2} p e k h1 h2 h3=>by
  rw[h3];unfold placeT;grind
 refine⟨λQ=>?_,λhge=>?_⟩
 ·obtain⟨x,hm,hx,F,hl,hpp,hz,H⟩:=(U.sub o).get Q;have H:=S.row_get H;have G:=hok x hm;obtain⟨hsh,hk1,hk2⟩:=okS_shape (Mk M x hm);rw[F,Ml,szS_eq]at ha1;rw[F,KC,stT_eq]at Z;have hC:=Dp.st (k:=a+1) N;have O:=hC.base K E;have cs:=c229 (h.sub O) hv (hs.sub O) W (G.sub O) hsh (res:=res);rw[S.v_eq]at cs;refine⟨hpp,hz,Q,_,_,_,_,_,H,by simp,_,AG u,by simp,_,AG u,⟨by omega,by omega⟩,by simp,An.cell u (cs.call ⟨_,rfl,λh0=>?_,λh0=>?_⟩)⟩
  ·have e1:¬(Ed d sc res x.op x.s x.es≠0):=λh=>h h0;rw[if_neg e1]at Z;intro b1 hb1;have L:b1≠b:=λe=>by grind[Mem.set_same]
   have hC2:Dp V b t (a+1) _:=Mem.sub.new hC hb1 (.cells #[.slice x.ll.p x.ll.n x.ll.c,.slice x.xl.p x.xl.n x.xl.c] 74 (0,0));have y:=H4 d sc res (a+1) x.ls;refine DN 2 (λj V2=>∃k,Dp V b t k V2/\V2 b1=some (.cells #[.slice x.ll.p x.ll.n x.ll.c,.slice x.xl.p x.xl.n x.xl.c] 74 (0,0))/\((j=0/\k=a+1)∨(j=1/\(AK d sc res (a+1) x.ls).2=0/\k=(AK d sc res (a+1) x.ls).1)∨(j=2/\(AK d sc res (a+1) x.ls).2=0/\(AK d sc res (AK d sc res (a+1) x.ls).1 x.xs).2=0/\k=(AK d sc res (AK d sc res (a+1) x.ls).1 x.xs).1))) ⟨a+1,hC2,Mem.set_same _ _ _,.inl ⟨rfl,rfl⟩⟩ ?_;rintro j b'' c'' V2 J1 hj ⟨k,g,r,R⟩ X;have Y:=g.base K E;refine⟨λhj2=>?_,λhj2=>?_⟩
   ·rcases R with⟨rfl,rfl⟩|⟨rfl,q,rfl⟩|⟨rfl,-⟩
    ·refine⟨by simp[Aa],by omega,by omega,x.ll,Am r 0 1 (by simp),Tri.mono ((hk x hm).1 V2 x.ll (a+1) (dd+1) Y g.cell G.lRows G.lOk hk1 (by omega) (by omega)) ?_⟩;rintro _ V3 ⟨rfl,C,z,A⟩;refine⟨_,_,rfl,λh3=>?_,λh3=>?_⟩
     ·have:=A h3;subst this;exact⟨⟨by omega,by omega⟩,X (by omega) _ _ _ ⟨_,g.call z,z.other r L,.inr (.inl ⟨rfl,h3,rfl⟩)⟩⟩
     ·have I:(AK d sc res (a+1) x.ls).2≠0:=h3;rw[if_pos I,if_pos I]at Z;refine bad _ _ _ (g.call z) I ?_;grind
    ·have I:¬(AK d sc res (a+1) x.ls).2≠0:=λh=>h q;rw[if_neg I]at Z;have y:=y q;refine⟨by simp[Aa],by omega,by omega,x.xl,Am r 1 1 (by simp),Tri.mono ((hk x hm).2 V2 x.xl _ (dd+1) Y g.cell G.xRows G.xOk hk2 (by omega) (by omega)) ?_⟩;rintro _ V3 ⟨rfl,C,z,A⟩;refine⟨_,_,rfl,λh3=>?_,λh3=>?_⟩
     ·have:=A h3;subst this;exact⟨⟨by omega,by omega⟩,X (by omega) _ _ _ ⟨_,g.call z,z.other r L,.inr (.inr ⟨rfl,q,h3,rfl⟩)⟩⟩
     ·have D:(AK d sc res (AK d sc res (a+1) x.ls).1 x.xs).2≠0:=h3;rw[if_pos D]at Z;refine bad _ _ _ (g.call z) D ?_;grind
    ·omega
   ·rcases R with⟨rfl,-⟩|⟨rfl,-⟩|⟨rfl,q,B,rfl⟩;·omega
    ·omega
    ·have I:¬(AK d sc res (a+1) x.ls).2≠0:=λh=>h q;have D:¬(AK d sc res (AK d sc res (a+1) x.ls).1 x.xs).2≠0:=λh=>h B;rw[if_neg I,if_neg D]at Z;have y:=y q;have hn2':=H4 d sc res _ x.xs B;exact⟨(U.sub o).succ Q,hJ hl _ _ _ ⟨_,g,by omega,by omega,Z⟩⟩
  grind
 ·rw[((U.sub o).done hge).1,stsT_nil]at Z;rw[Z];exact⟨rfl,a,N,λ_=>rfl⟩
theorem impStmts{V0:Mem}{b t:Nat}{res:KB}(g:V0 b=none)(h:B0 V0 c d)(hv:EY d)(u:Fu V0 m sc)(k:sc.body=true)(l:List S):ImpS V0 d c m sc res b t l:=by
 have z:∀s:S,ImpS V0 d c m sc res b t s.ls/\ImpS V0 d c m sc res b t s.xs:=by
  intro s;induction s using S.ind with
  |h s y i=>grind[impStep]
 grind[impStep]
theorem c219{b t:Nat}{f x:Fld}(h:V b=some (.cells #[.string f.name,.string f.ty] t (0,0))):PP 219 [x.v,pv b] V (.bool (decide (x.name=f.name))):=by
 refine x219 ?_;exact⟨by simp,_,Am h 0 1 (by simp),rfl,rfl⟩
theorem c170(h:B0 V c d){l:Sl}{xs:List Fld}(Z:Ad V l 2 (xs.map Fld.row)):PP 170 [.pointer c,l.v] V (.int .i64 (CB d xs)):=by
 refine Bf.mk (x170 ?_);unfold CB;generalize I:(λi f=>if BP d xs i f≠0 then some (BP d xs i f)else none)=fn;refine AR xs.length (λk V1=>V.sub V1/\Ar fn 0 xs=Ar fn k (xs.drop k)) ⟨Mem.sub.refl _,rfl⟩ ?_;rintro k b V1 J hi ⟨Y,r⟩ W;have u:=Z.sub Y;refine⟨λq=>?_,λq=>?_⟩
 ·obtain⟨g,Q,O,o,s,H,G,z⟩:=u.get q;rw[o]at r;have M:=u.cap;refine⟨H,G,q,_,_,z,⟨by omega,by omega,by omega⟩,λb1 N=>?_⟩;have A:=Mem.sub_new N (.cells #[.string g.name,.string g.ty] 112 (0,0));have y:=Y.trans A;simp only[Hu,sub0];have key:∀X n:Int,X=n->(xI (.int .i64 n)=xI (.int .i64 X)/\V.sub (V1.set b1 (.cells #[.string g.name,.string g.ty] 112 (0,0)))):=λX n h=>by simp_all
  refine(JB (l:=⟨l.p,k,l.c⟩) (first:=[]) (caps:=[pv b1]) (Ad.pre (Z.sub y) (by omega)) Tryz.call219 (λx=>decide (x.name=g.name)) (λx _=>c219 (f:=g) Az)).call ⟨_,rfl,λh1=>?_,λh1=>⟨by simp[Aa],_,Am Az 1 1 (by simp),(c173 (h.sub y)).call ⟨_,rfl,λh2=>?_,λh2=>?_⟩⟩⟩
  ·have e:BP d xs k g=10:=by grind[BP]
   rw[r,BA (b:=10) (by grind)];grind
  ·have e:BP d xs k g=0:=by grind[BP]
   exact⟨u.succ q,W s _ _ ⟨y,by rw[r,BU (by grind)]⟩⟩
  ·have e:BP d xs k g=9:=by grind[BP]
   rw[r,BA (b:=9) (by grind)];grind
 ·rw[(u.done q).1,Ar]at r;simp_all
def FltAt(V:Mem)(p:Option Addr)(o:Option Flt):Prop:=match o with
 |none=>p=none
 |some r=>∃b t,p=some ⟨b,0,none⟩/\V b=some (.cells #[.string r.1,.int .i64 r.2.1,.int .i64 r.2.2] t (0,0))
def FltC(f:FuncId)(args:List Value)(V:Mem)(o:Option Flt):Prop:=Tri xG f args.toArray V λr V'=>∃p,r=.returned (.pointer p)/\V.sub V'/\FltAt V' p o
theorem c187(h:B0 V c d)(hv:EY d)(z:Fu V m sc){e:E}(y:E.Ok V e)(g:Cv 1 e=true){s t:KB}:
  FltC 187 [sV c m sc,.string s,e.v,.string t] V (if BE d sc e t≠0 then some (s,-1,BE d sc e t)else none):=by
 refine x187 ?_;unfold BE;refine(impExpr h hv z e y 1 g V (Mem.sub.refl _)).call ⟨_,_,rfl,λk=>⟨λh1=>?_,λh1=>λb u=>?_⟩,λk=>λb u=>?_⟩;·simp only[k,h1,ne_eq,not_true_eq_false,if_false,if_true];exact⟨_,rfl,Mem.sub.refl _,rfl⟩
 ·simp only[k,h1,ne_eq,not_true_eq_false,if_false];exact⟨_,rfl,Mem.sub_new u _,b,_,rfl,Mem.set_same _ _ _⟩
 ·simp only[k,ne_eq,not_false_eq_true,if_true];exact⟨_,rfl,Mem.sub_new u _,b,_,rfl,Mem.set_same _ _ _⟩
end
def Hv:Prop:=∀(V:Mem)(c:Option Addr)(d:Ds)(body:Bool)(l:Sl)(ls:List (Sl×List Fld)),B0 V c d->Ad V l 1 (ls.map λx=>[x.1.v])->(∀x∈ls,Ad V x.1 2 (x.2.map Fld.row))->
 Tri xG 228 #[.pointer c,.bool body,.slice l.p l.n l.c] V λr V'=>∃mb,r=.returned (.agg #[.pointer c,.map (some mb),.bool body])/\V.sub V'/\V mb=none/\Bx V' mb (λk=>(Cj (ls.flatMap (·.2)++d.globals) k).map Value.string)
def NewC:Prop:=∀(V:Mem)(d:Ds),Ds.Ok V d->Tri xG 73 #[d.v] V λr V'=>∃c,r=.returned (.pointer c)/\V.sub V'/\B0 V' c d
section
variable{V:Mem}{d:Ds}{c:Option Addr}
theorem KH{a b:List Fld}(h:NE a)(k:NE b):NE (a++b):=λf u=>by
 rcases List.mem_append.1 u with g|g;·exact h f g
 ·exact k f g
theorem impInProc(y:Hv)(h:B0 V c d)(hv:EY d){p:Pr}(hm:p∈d.procs)(u:Pr.Ok V p):Tri xG 184 #[.pointer c,p.v] V λr V'=>∃m,r=.returned (sV c m (Av d p))/\V.sub V'/\Fu V' m (Av d p):=by
 refine x184 ?_;intro b i;have g:=Mem.sub_new i (.cells #[.slice p.ps.p p.ps.n p.ps.c,.slice p.ls.p p.ls.n p.ls.c] 28 (0,0));refine Tri.mono (y _ c d true ⟨some ⟨b,0,none⟩,2,2⟩ [(p.ps,p.params),(p.ls,p.locals)] (h.sub g) (Ad.cells (xs:=[(p.ps,p.params),(p.ls,p.locals)]) (row:=λx=>[x.1.v]) Az rfl (λ_=>rfl) rfl (by simp)) ?_) ?_
 ·intro x z;simp only[yE,xE,or_false]at z;rcases z with rfl|rfl;·exact u.params.sub g
  ·exact u.locals.sub g
 ·rintro _ V' ⟨mb,rfl,h1,h2,h3⟩;refine⟨_,_,_,rfl,some mb,rfl,g.trans h1,⟨mb,rfl,h3.congr λk=>?_⟩,KH (KH (hv.params p hm).1 (hv.params p hm).2) hv.globals⟩;simp[Av]
theorem impInBound(z:Hv)(h:B0 V c d)(hv:EY d){p:Pr}(hm:p∈d.procs)(y:Pr.Ok V p):Tri xG 188 #[.pointer c,p.v] V λr V'=>∃m,r=.returned (sV c m (EK d p))/\V.sub V'/\Fu V' m (EK d p):=by
 refine x188 ?_;intro b i;have g:=Mem.sub_new i (.cells #[.slice p.ps.p p.ps.n p.ps.c] 28 (0,0));refine Tri.mono (z _ c d false ⟨some ⟨b,0,none⟩,1,1⟩ [(p.ps,p.params)] (h.sub g) (Ad.cells (xs:=[(p.ps,p.params)]) (row:=λx=>[x.1.v]) Az rfl (λ_=>rfl) rfl (by simp)) ?_) ?_
 ·intro x u;simp only[yE,xE,or_false]at u;rcases u with rfl;exact y.params.sub g
 ·rintro _ V' ⟨mb,rfl,h1,h2,h3⟩;refine⟨_,_,_,rfl,some mb,rfl,g.trans h1,⟨mb,rfl,h3.congr λk=>?_⟩,KH (hv.params p hm).1 hv.globals⟩;simp[EK]
theorem Mt(z:Hv)(h:B0 V c d)(hv:EY d){t:KB}:Tri xG 186 #[.pointer c,.string t] V λr V'=>∃m,r=.returned (sV c m (BK d t))/\V.sub V'/\Fu V' m (BK d t):=by
 refine x186 ?_;refine Tri.mono (z V c d false ⟨none,0,0⟩ [] h Ad.nil (by simp)) ?_;rintro _ V' ⟨mb,rfl,h1,h2,h3⟩;refine⟨_,_,_,rfl,λg=>?_,λg=>?_⟩
 ·refine⟨some mb,rfl,h1,⟨mb,rfl,h3.congr λk=>?_⟩,?_⟩;·grind[BK,sE]
  ·unfold BK sE;rw[if_pos g];exact hv.globals
 ·refine C2.str xx xy h3 λo y=>?_;refine⟨some mb,rfl,h1.set h2 _,⟨mb,rfl,y.congr λk=>?_⟩,?_⟩
  ·unfold BK sE;rw[if_neg g];unfold Cj;simp only[List.flatMap_nil,List.nil_append,List.cons_append,xw];rw[show(⟨#[116,104,105,115]⟩:KB)=sThisF from rfl];grind
  ·unfold BK sE;rw[if_neg g];refine KH (λf u=>?_) hv.globals;simp only[yE,xE,or_false]at u;subst u;exact g
theorem EL{V1:Mem}{X:Option Flt}{s:KB}{n e:Int}(k:X=some (s,n,e))(h:V.sub V1):Ag [(.string s),(.int .i64 n),(.int .i64 e)] 162 V1 λg V2=>(∃p,xI (.pointer (Aa g 0))=.returned (.pointer p)/\V.sub V2/\FltAt V2 p X):=λb u=>by
 subst k;exact⟨some ⟨b,0,none⟩,rfl,h.trans (Mem.sub_new u _),b,_,rfl,Mem.set_same _ _ _⟩
theorem oneT_cases(d:Ds)(l:List Fld)(i:Nat)(f:Fld):((l.take i).any (λg=>decide (g.name=f.name))=true/\BP d l i f=10)∨(¬(l.take i).any (λg=>decide (g.name=f.name))=true/\Bs d f.ty=true/\BP d l i f=0)∨(¬(l.take i).any (λg=>decide (g.name=f.name))=true/\¬Bs d f.ty=true/\BP d l i f=9):=by
 grind[BP,Bs,inr]
theorem impTypes(h:B0 V c d):FltC 117 [.pointer c] V (Gg d):=by
 refine x117 ?_;unfold Gg;refine⟨h.nn,h.nn,Al h.nn,d.ts,h.cell (i:=1) rfl,?_⟩;unfold types1;generalize Z:(λi (t:Ty)=>if(d.types.take i).any (λg=>decide (g.name=t.name))=true then some ((t.name,-1,10):Flt)else none)=F1;refine AR d.types.length (λk V1=>V=V1/\Ar F1 0 d.types=Ar F1 k (d.types.drop k)) ⟨rfl,rfl⟩ ?_;rintro k b V1 J hi ⟨rfl,u⟩ r;have q:=Mem.sub.refl V;refine⟨λz=>?_,λz=>?_⟩
 ·obtain⟨g,hm,G,l,o,p,s,y⟩:=h.ok.types.get z;rw[l]at u;refine⟨p,s,z,_,_,y,h.nn,h.nn,Al h.nn,d.ts,h.cell (i:=1) rfl,(c168 h.ok.types G).call ⟨_,rfl,λh1=>EL ?_ q,λh1=>⟨h.ok.types.succ z,r o _ _ ⟨rfl,?_⟩⟩⟩⟩;·rw[u,BA (b:=(g.name,-1,10)) (by grind)];rfl
  ·rw[u,BU (by grind)]
 rw[(h.ok.types.done z).1,Ar]at u;rw[u,xX];refine⟨h.nn,h.nn,Al h.nn,d.ts,h.cell (i:=1) rfl,?_⟩;unfold types2;generalize Y:(λ(_:Nat) (t:Ty)=>if CB d t.fields≠0 then some ((t.name,-1,CB d t.fields):Flt)else none)=F2;refine AR d.types.length (λk V1=>V=V1/\Ar F2 0 d.types=Ar F2 k (d.types.drop k)) ⟨rfl,rfl⟩ ?_;rintro k b V1 J hi ⟨rfl,u⟩ r;refine⟨λz=>?_,λz=>?_⟩
 ·obtain⟨g,hm,G,l,o,p,s,y⟩:=h.ok.types.get z;rw[l]at u;refine⟨p,s,z,_,_,y,(c170 h (h.ok.typesOk g hm).fields).call ⟨_,rfl,λh1=>⟨h.ok.types.succ z,r o _ _ ⟨rfl,?_⟩⟩,λh1=>EL ?_ q⟩⟩;·rw[u,BU (by grind)]
  ·rw[u,BA (b:=(g.name,-1,CB d g.fields)) (by grind)];rfl
 rw[(h.ok.types.done z).1,Ar]at u;rw[u,xX];refine⟨h.nn,h.nn,Al h.nn,d.gs,h.cell (i:=2) rfl,?_⟩;unfold types3;generalize W:(λi (f:Fld)=>if BP d d.globals i f≠0 then some ((f.name,-1,BP d d.globals i f):Flt)else none)=F3;refine AR d.globals.length (λk V1=>V=V1/\Ar F3 0 d.globals=Ar F3 k (d.globals.drop k)) ⟨rfl,rfl⟩ ?_;rintro k b V1 J hi ⟨rfl,u⟩ r;refine⟨λz=>?_,λz=>?_⟩
 ·obtain⟨g,hm,G,l,o,p,s,y⟩:=h.ok.globals.get z;rw[l]at u;have N:=oneT_cases d d.globals k g;refine⟨p,s,z,_,_,y,h.nn,h.nn,Al h.nn,d.gs,h.cell (i:=2) rfl,(c171 h.ok.globals G).call ⟨_,rfl,λh1=>EL ?_ q,λh1=>(c173 h).call ⟨_,rfl,λh2=>⟨h.ok.globals.succ z,r o _ _ ⟨rfl,?_⟩⟩,λh2=>EL ?_ q⟩⟩⟩
  ·rcases N with⟨_,e⟩|⟨H,_⟩|⟨H,_⟩;·rw[u,BA (b:=(g.name,-1,10)) (by grind)]
   ·grind
   simp_all
  ·rcases N with⟨H,_⟩|⟨_,_,e⟩|⟨_,H,_⟩;·grind
   ·rw[u,BU (by grind)]
   simp_all
  ·rcases N with⟨H,_⟩|⟨_,H,_⟩|⟨_,_,e⟩;·grind
   ·grind
   ·rw[u,BA (b:=(g.name,-1,9)) (by grind)]
 rw[(h.ok.globals.done z).1,Ar]at u;rw[u];exact⟨none,rfl,q,rfl⟩
theorem impHeads(h:B0 V c d)(G:Small d):FltC 118 [.pointer c] V (Fs d):=by
 refine x118 ?_;unfold Fs;refine⟨h.nn,h.nn,Al h.nn,d.ps,h.cell (i:=3) rfl,?_⟩;generalize q:(λi (p:Pr)=>if(d.procs.take i).any (λg=>decide (g.name=p.name))=true then some ((p.name,-1,10):Flt)else if CB d (p.params++p.locals)≠0 then some (p.name,-1,CB d (p.params++p.locals))else if p.result≠sE/\Bs d p.result=false then some (p.name,-1,9)else none)=F1;refine AR d.procs.length (λk V1=>V.sub V1/\Ar F1 0 d.procs=Ar F1 k (d.procs.drop k)) ⟨Mem.sub.refl _,rfl⟩ ?_;rintro k b V1 J hi ⟨s,y⟩ A;have h1:=h.sub s;refine⟨λr=>?_,λr=>?_⟩
 ·obtain⟨g,hm,H,N,I,L,R,o⟩:=h1.ok.procs.get r;rw[N]at y;have M:=h1.ok.procsOk g hm;have X:=G.2 g hm;refine⟨L,R,r,_,_,_,_,_,o,h.nn,h.nn,Al h.nn,d.ps,h1.cell (i:=3) rfl,(c174 h1.ok.procs H).call ⟨_,rfl,λZ=>EL ?_ s,λZ=>?_⟩⟩;·rw[y,BA (b:=(g.name,-1,10)) (by grind)]
  intro b1 Y;have W:=Mem.sub_new Y (.cells #[.slice g.ps.p g.ps.n g.ps.c,.slice g.ls.p g.ls.n g.ls.c] 28 (0,0));refine Tri.mono (concatF (l:=⟨some ⟨b1,0,none⟩,2,2⟩) (ls:=[(g.ps,g.params),(g.ls,g.locals)]) (Ad.cells (xs:=[(g.ps,g.params),(g.ls,g.locals)]) (row:=λx=>[x.1.v]) Az rfl (λ_=>rfl) rfl (by simp)) ?_ (by simp) ?_) ?_
  ·intro x H;simp only[yE,xE,or_false]at H;rcases H with rfl|rfl;·exact M.params.sub W
   ·exact M.locals.sub W
  ·simp_all
  rintro _ V2 ⟨s',rfl,Q,z⟩;have u:=s.trans (W.trans Q);have O:([(g.ps,g.params),(g.ls,g.locals)]:List (Sl×List Fld)).flatMap (·.2)=g.params++g.locals:=by simp
  rw[O]at z;refine⟨s',rfl,(c170 (h.sub u) z).call ⟨_,rfl,λh2=>?_,λh2=>EL ?_ u⟩⟩
  ·have F:¬(CB d (g.params++g.locals)≠0):=λe=>e h2;refine⟨λh3=>⟨h1.ok.procs.succ r,A I _ _ ⟨u,?_⟩⟩,λh3=>(c173 (h.sub u)).call ⟨_,rfl,λh4=>⟨h1.ok.procs.succ r,A I _ _ ⟨u,?_⟩⟩,λh4=>EL ?_ u⟩⟩;·rw[y,BU (by rw[<-q];exact(if_neg Z).trans ((if_neg F).trans (if_neg λe=>e.1 h3)))]
   ·rw[y,BU (by grind)]
   ·rw[y,BA (b:=(g.name,-1,9)) (by rw[<-q];exact(if_neg Z).trans ((if_neg F).trans (if_pos ⟨h3,eq_false_of_ne_true h4⟩)))]
  ·rw[y,BA (b:=(g.name,-1,CB d (g.params++g.locals))) (by grind)]
 rw[(h1.ok.procs.done r).1,Ar]at y;rw[y];exact⟨none,rfl,s,rfl⟩
end
section
variable{V:Mem}{d:Ds}{c:Option Addr}
theorem impForm(h:B0 V c d):FltC 119 [.pointer c] V (DY d):=by
 refine x119 ?_;unfold DY;have o:=Mem.sub.refl V;refine⟨h.nn,h.nn,Al h.nn,d.ms,h.cell (i:=4) rfl,?_⟩;unfold form1;generalize W:(λi (m:Ms)=>if(d.measures.take i).any (λg=>decide (g.name=m.name))=true then some ((m.name,-1,10):Flt)else if Cd d m.ty=false then some (m.name,-1,9)else none)=F1;refine AR d.measures.length (λk V1=>V=V1/\Ar F1 0 d.measures=Ar F1 k (d.measures.drop k)) ⟨rfl,rfl⟩ ?_;rintro k b V1 J hi ⟨rfl,u⟩ r;refine⟨λz=>?_,λz=>?_⟩
 ·obtain⟨g,hm,G,l,q,s,H,y⟩:=h.ok.measures.get z;rw[l]at u;refine⟨s,H,z,_,_,_,_,_,_,_,y,h.nn,h.nn,Al h.nn,d.ms,h.cell (i:=4) rfl,(c177 h.ok.measures G).call ⟨_,rfl,λh1=>EL ?_ o,λh1=>(c179 h).call ⟨_,rfl,λh2=>⟨h.ok.measures.succ z,r q _ _ ⟨rfl,?_⟩⟩,λh2=>EL ?_ o⟩⟩⟩;·rw[u,BA (b:=(g.name,-1,10)) (by grind)];rfl
  ·rw[u,BU (by grind)]
  ·rw[u,BA (b:=(g.name,-1,9)) (by grind)];rfl
 rw[(h.ok.measures.done z).1,Ar]at u;rw[u,xX];refine⟨h.nn,h.nn,Al h.nn,d.is,h.cell (i:=5) rfl,?_⟩;unfold form2;generalize N:(λi (m:Iv)=>if(d.invs.take i).any (λg=>decide (g.name=m.name))=true then some ((m.name,-1,10):Flt)else if m.ty≠sE/\Cd d m.ty=false then some (m.name,-1,9)else none)=F2;refine AR d.invs.length (λk V1=>V=V1/\Ar F2 0 d.invs=Ar F2 k (d.invs.drop k)) ⟨rfl,rfl⟩ ?_;rintro k b V1 J hi ⟨rfl,u⟩ r;refine⟨λz=>?_,λz=>?_⟩
 ·obtain⟨g,hm,G,l,q,s,H,y⟩:=h.ok.invs.get z;rw[l]at u;refine⟨s,H,z,_,_,_,_,_,_,y,h.nn,h.nn,Al h.nn,d.is,h.cell (i:=5) rfl,(c180 h.ok.invs G).call ⟨_,rfl,λh1=>EL ?_ o,λh1=>⟨λh3=>⟨h.ok.invs.succ z,r q _ _ ⟨rfl,?_⟩⟩,λh3=>(c179 h).call ⟨_,rfl,λh2=>⟨h.ok.invs.succ z,r q _ _ ⟨rfl,?_⟩⟩,λh2=>EL ?_ o⟩⟩⟩⟩;·rw[u,BA (b:=(g.name,-1,10)) (by grind)];rfl
  ·rw[u,BU (by rw[<-N];exact(if_neg h1).trans (if_neg λe=>e.1 h3))]
  ·rw[u,BU (by grind)]
  ·rw[u,BA (b:=(g.name,-1,9)) (by rw[<-N];exact(if_neg h1).trans (if_pos ⟨h3,eq_false_of_ne_true h2⟩))];rfl
 rw[(h.ok.invs.done z).1,Ar]at u;rw[u,xX];refine⟨h.nn,h.nn,Al h.nn,d.qs,h.cell (i:=6) rfl,?_⟩;unfold form3;generalize Z:(λ(_:Nat) (m:Po)=>if m.ty≠sE/\Cd d m.ty=false then some ((sPot,-1,9):Flt)else none)=F3;refine AR d.pots.length (λk V1=>V=V1/\Ar F3 0 d.pots=Ar F3 k (d.pots.drop k)) ⟨rfl,rfl⟩ ?_;rintro k b V1 J hi ⟨rfl,u⟩ r;refine⟨λz=>?_,λz=>?_⟩
 ·obtain⟨g,hm,G,l,q,s,H,y⟩:=h.ok.pots.get z;rw[l]at u;refine⟨s,H,z,_,_,_,_,_,y,λh3=>⟨h.ok.pots.succ z,r q _ _ ⟨rfl,?_⟩⟩,λh3=>(c179 h).call ⟨_,rfl,λh2=>⟨h.ok.pots.succ z,r q _ _ ⟨rfl,?_⟩⟩,λh2=>EL ?_ o⟩⟩;·rw[u,BU (by rw[<-Z];exact if_neg λe=>e.1 h3)]
  ·rw[u,BU (by grind)]
  ·rw[u,BA (b:=(sPot,-1,9)) (by rw[<-Z];exact if_pos ⟨h3,eq_false_of_ne_true h2⟩)];rfl
 rw[(h.ok.pots.done z).1,Ar]at u;rw[u,xX];refine⟨h.nn,h.nn,Al h.nn,d.bs,h.cell (i:=7) rfl,?_⟩;unfold form4;generalize Q:(λi (b:Bd)=>if(Ce d b.proc).isNone=true then some ((b.proc,-1,9):Flt)else if(d.bounds.take i).any (λg=>decide (g.proc=b.proc))=true then some (b.proc,-1,10)else none)=F4;refine AR d.bounds.length (λk V1=>V=V1/\Ar F4 0 d.bounds=Ar F4 k (d.bounds.drop k)) ⟨rfl,rfl⟩ ?_;rintro k b V1 J hi ⟨rfl,u⟩ r;refine⟨λz=>?_,λz=>?_⟩
 ·obtain⟨g,hm,G,l,q,s,H,y⟩:=h.ok.bounds.get z;rw[l]at u;obtain⟨mt,O,A⟩:=h.procs;refine⟨s,H,z,_,_,_,_,_,y,h.nn,h.nn,_,O,BJ.str xv xy zero76 A ?_⟩;cases Y:Ce d g.proc with
  |none=>
   refine⟨_,⟨none,0,0⟩,_,⟨none,0,0⟩,⟨none,0,0⟩,_,rfl,λh=>absurd h (by simp),λ_=>EL ?_ o⟩;rw[u,BA (b:=(g.proc,-1,9)) (by grind)]
  |some p=>
   have I:¬(Ce d g.proc).isNone=true:=by rw[Y];simp
   refine⟨_,p.ps,_,p.ls,p.bs,_,rfl,λ_=>⟨h.nn,h.nn,Al h.nn,d.bs,h.cell (i:=7) rfl,(c182 h.ok.bounds G).call ⟨_,rfl,λh1=>EL ?_ o,λh1=>⟨h.ok.bounds.succ z,r q _ _ ⟨rfl,?_⟩⟩⟩⟩,λh=>absurd rfl h⟩;·rw[u,BA (b:=(g.proc,-1,10)) (by grind)]
   ·rw[u,BU (by grind)]
 rw[(h.ok.bounds.done z).1,Ar]at u;rw[u];exact⟨none,rfl,o,rfl⟩
theorem impBodies(Q:Hv)(h:B0 V c d)(hv:EY d)(O:IM d):FltC 120 [.pointer c] V (E9 d):=by
 refine x120 ?_;unfold E9;refine⟨h.nn,h.nn,Al h.nn,d.ps,h.cell (i:=3) rfl,?_⟩;generalize A:(λ(_:Nat) (p:Pr)=>if(AK d (Av d p) p.result 0 p.body).2≠0 then some ((p.name,(AK d (Av d p) p.result 0 p.body).1,(AK d (Av d p) p.result 0 p.body).2):Flt)else none)=F1;refine AR d.procs.length (λk V1=>V.sub V1/\Ar F1 0 d.procs=Ar F1 k (d.procs.drop k)) ⟨Mem.sub.refl _,rfl⟩ ?_;rintro k b V1 J hi ⟨o,y⟩ I;have h1:=h.sub o;refine⟨λl=>?_,λl=>?_⟩
 ·obtain⟨g,hm,R,s,M,H,F,r⟩:=h1.ok.procs.get l;rw[s]at y;have G:=h1.ok.procsOk g hm;refine⟨H,F,l,_,_,_,_,_,r,Tri.mono (impInProc Q h1 hv hm G) ?_⟩;rintro _ V2 ⟨m,rfl,u,N⟩;refine⟨_,_,_,rfl,λb1 z=>?_⟩;obtain⟨Z,L⟩:=O.ps g hm;have W:=Mem.sub_new z (cell (.int .i64 0) 3);refine Tri.mono (impStmts z (h1.sub u) hv N rfl g.body _ g.bs 0 1 W Az (G.sub u).body (G.sub u).stmts Z (by omega) (by omega)) ?_;rintro _ X ⟨rfl,B,Y,-⟩;have q:=o.trans (u.trans (Y.base W z));refine⟨_,_,rfl,λh2=>⟨h1.ok.procs.succ l,I M _ _ ⟨q,?_⟩⟩,λh2=>EL ?_ q⟩;·rw[y,BU (by grind)]
  ·have:placeT (AK d (Av d g) g.result 0 g.body)=(AK d (Av d g) g.result 0 g.body).1:=if_neg h2;rw[this,y,BA (b:=(g.name,(AK d (Av d g) g.result 0 g.body).1,(AK d (Av d g) g.result 0 g.body).2)) (by grind)]
 rw[(h1.ok.procs.done l).1,Ar]at y;rw[y];exact⟨none,rfl,o,rfl⟩
theorem FN{V1:Mem}{X:Option Flt}(h:FltAt V1 none X):X=none:=by
 cases X with
 |none=>rfl
 |some r=>obtain⟨b,t,h1,_⟩:=h;cases h1
theorem IQ{V1:Mem}{X:Option Flt}{p:Option Addr}(h:FltAt V1 p X)(k:¬p=none):∃r,X=some r:=by
 cases X with
 |none=>exact absurd h k
 |some r=>grind
theorem impExps(L:Hv)(h:B0 V c d)(hv:EY d)(R:IM d)(A:DY d=none):FltC 121 [.pointer c] V (Fa d):=by
 refine x121 ?_;unfold Fa;refine⟨h.nn,h.nn,Al h.nn,d.ms,h.cell (i:=4) rfl,?_⟩;unfold exp1;generalize X:(λ(_:Nat) (m:Ms)=>if BE d (BK d m.ty) m.x Aj≠0 then some ((m.name,-1,BE d (BK d m.ty) m.x Aj):Flt)else none)=F1;refine AR d.measures.length (λk V1=>V.sub V1/\Ar F1 0 d.measures=Ar F1 k (d.measures.drop k)) ⟨Mem.sub.refl _,rfl⟩ ?_;rintro k b V1 J hi ⟨H,y⟩ I;have h1:=h.sub H;refine⟨λl=>?_,λl=>?_⟩
 ·obtain⟨g,hm,B,G,M,N,F,o⟩:=h1.ok.measures.get l;rw[G]at y;refine⟨N,F,l,_,_,_,_,_,_,_,o,Tri.mono (Mt L h1 hv) ?_⟩;rintro _ V2 ⟨m,rfl,z,Z⟩;refine⟨_,_,_,rfl,Tri.mono (c187 (e:=g.x) (h1.sub z) hv Z ((h1.sub z).ok.measuresOk g hm).x (R.ms g hm)) ?_⟩;rintro _ C ⟨p,rfl,Y,u⟩;have s:=H.trans (z.trans Y);have W:(if BE d (BK d g.ty) g.x Aj≠0 then some ((g.name,-1,BE d (BK d g.ty) g.x Aj):Flt)else none)=F1 k g:=by rw[<-X]
  rw[show Ac [105,110,116]=Aj from rfl]at u;rw[W]at u;refine⟨_,rfl,λQ=>?_,λQ=>?_⟩
  ·subst Q;exact⟨h1.ok.measures.succ l,I M _ _ ⟨s,by rw[y,BU (FN u)]⟩⟩
  ·obtain⟨r,O⟩:=IQ u Q;rw[y,BA O];rw[O]at u;exact⟨p,rfl,s,u⟩
 rw[(h1.ok.measures.done l).1,Ar]at y;rw[y,xX];refine⟨h.nn,h.nn,Al h.nn,d.is,h1.cell (i:=5) rfl,?_⟩;unfold exp2;generalize D:(λ(_:Nat) (m:Iv)=>if BE d (BK d m.ty) m.x Au≠0 then some ((m.name,-1,BE d (BK d m.ty) m.x Au):Flt)else none)=F2;refine AR d.invs.length (λk V1=>V.sub V1/\Ar F2 0 d.invs=Ar F2 k (d.invs.drop k)) ⟨H,rfl⟩ ?_;rintro k b V1 J hi ⟨H,y⟩ I;have h1:=h.sub H;refine⟨λl=>?_,λl=>?_⟩
 ·obtain⟨g,hm,B,G,M,N,F,o⟩:=h1.ok.invs.get l;rw[G]at y;refine⟨N,F,l,_,_,_,_,_,_,o,Tri.mono (Mt L h1 hv) ?_⟩;rintro _ V2 ⟨m,rfl,z,Z⟩;refine⟨_,_,_,rfl,Tri.mono (c187 (e:=g.x) (h1.sub z) hv Z ((h1.sub z).ok.invsOk g hm) (R.is g hm)) ?_⟩;rintro _ C ⟨p,rfl,Y,u⟩;have s:=H.trans (z.trans Y);have W:(if BE d (BK d g.ty) g.x Au≠0 then some ((g.name,-1,BE d (BK d g.ty) g.x Au):Flt)else none)=F2 k g:=by rw[<-D]
  rw[show Ac [98,111,111,108]=Au from rfl]at u;rw[W]at u;refine⟨_,rfl,λQ=>?_,λQ=>?_⟩
  ·subst Q;exact⟨h1.ok.invs.succ l,I M _ _ ⟨s,by rw[y,BU (FN u)]⟩⟩
  ·obtain⟨r,O⟩:=IQ u Q;rw[y,BA O];rw[O]at u;exact⟨p,rfl,s,u⟩
 rw[(h1.ok.invs.done l).1,Ar]at y;rw[y,xX];refine⟨h.nn,h.nn,Al h.nn,d.qs,h1.cell (i:=6) rfl,?_⟩;unfold exp3;generalize E:(λ(_:Nat) (m:Po)=>if BE d (BK d m.ty) m.x Aj≠0 then some ((sPot,-1,BE d (BK d m.ty) m.x Aj):Flt)else none)=F3;refine AR d.pots.length (λk V1=>V.sub V1/\Ar F3 0 d.pots=Ar F3 k (d.pots.drop k)) ⟨H,rfl⟩ ?_;rintro k b V1 J hi ⟨H,y⟩ I;have h1:=h.sub H;refine⟨λl=>?_,λl=>?_⟩
 ·obtain⟨g,hm,B,G,M,N,F,o⟩:=h1.ok.pots.get l;rw[G]at y;refine⟨N,F,l,_,_,_,_,_,o,Tri.mono (Mt L h1 hv) ?_⟩;rintro _ V2 ⟨m,rfl,z,Z⟩;refine⟨_,_,_,rfl,Tri.mono (c187 (e:=g.x) (h1.sub z) hv Z ((h1.sub z).ok.potsOk g hm) (R.qs g hm)) ?_⟩;rintro _ C ⟨p,rfl,Y,u⟩;have s:=H.trans (z.trans Y);have W:(if BE d (BK d g.ty) g.x Aj≠0 then some ((sPot,-1,BE d (BK d g.ty) g.x Aj):Flt)else none)=F3 k g:=by rw[<-E]
  rw[show Ac [105,110,116]=Aj from rfl,show Ac [112,111,116,101,110,116,105,97,108]=sPot from rfl]at u;rw[W]at u;refine⟨_,rfl,λQ=>?_,λQ=>?_⟩
  ·subst Q;exact⟨h1.ok.pots.succ l,I M _ _ ⟨s,by rw[y,BU (FN u)]⟩⟩
  ·obtain⟨r,O⟩:=IQ u Q;rw[y,BA O];rw[O]at u;exact⟨p,rfl,s,u⟩
 rw[(h1.ok.pots.done l).1,Ar]at y;rw[y,xX];refine⟨h.nn,h.nn,Al h.nn,d.bs,h1.cell (i:=7) rfl,?_⟩;have K:=Ou A;unfold exp4;generalize T:(λ(_:Nat) (m:Bd)=>if BE d (EK d ((Ce d m.proc).getD HX)) m.x Aj≠0 then some ((m.proc,-1,BE d (EK d ((Ce d m.proc).getD HX)) m.x Aj):Flt)else none)=F4;refine AR d.bounds.length (λk V1=>V.sub V1/\Ar F4 0 d.bounds=Ar F4 k (d.bounds.drop k)) ⟨H,rfl⟩ ?_;rintro k b V1 J hi ⟨H,y⟩ I;have h1:=h.sub H;refine⟨λl=>?_,λl=>?_⟩
 ·obtain⟨g,hm,B,G,M,N,F,o⟩:=h1.ok.bounds.get l;rw[G]at y;obtain⟨q,S⟩:=K g hm;obtain⟨mt,U,q2⟩:=h1.procs;refine⟨N,F,l,_,_,_,_,_,o,h.nn,h.nn,_,U,BJ.str1 xv xy zero76 q2 ?_⟩;rw[S];refine⟨_,q.ps,_,q.ls,q.bs,rfl,Tri.mono (impInBound L h1 hv (Mr S) (h1.ok.procsOk q (Mr S))) ?_⟩;rintro _ V2 ⟨m,rfl,z,Z⟩;refine⟨_,_,_,rfl,Tri.mono (c187 (e:=g.x) (h1.sub z) hv Z ((h1.sub z).ok.boundsOk g hm) (R.bs g hm)) ?_⟩;rintro _ C ⟨p,rfl,Y,u⟩;have s:=H.trans (z.trans Y);have W:(if BE d (EK d q) g.x Aj≠0 then some ((g.proc,-1,BE d (EK d q) g.x Aj):Flt)else none)=F4 k g:=by grind
  rw[show Ac [105,110,116]=Aj from rfl]at u;rw[W]at u;refine⟨_,rfl,λQ=>?_,λQ=>?_⟩
  ·subst Q;exact⟨h1.ok.bounds.succ l,I M _ _ ⟨s,by rw[y,BU (FN u)]⟩⟩
  ·obtain⟨r,O⟩:=IQ u Q;rw[y,BA O];rw[O]at u;exact⟨p,rfl,s,u⟩
 rw[(h1.ok.bounds.done l).1,Ar]at y;rw[y];exact⟨none,rfl,H,rfl⟩
end
theorem GenK.makeF1{P:Program}{V:Mem}{f:FuncId}{x:Operand}{ty:Nat}{vals:Operand->Value}{v:Value}(k:vals x=v){q:Value->Mem->Prop}(h:q (.func (.func f) #[v] #[]) V):GenK P (.makeFunc (.func f) #[x] #[]) ty vals V q:=by
 intro w hw;refine⟨_,w,V,?_,Aw.refl hw,h⟩;unfold execOp Instr.makeFunc;simp_all
section
variable{V:Mem}{d:Ds}{c:Option Addr}
theorem impFirst(W:Hv)(h:B0 V c d)(hv:EY d)(N:IM d):FltC 74 [.pointer c] V (CT d):=by
 refine QH ?_;have O:=λV1 (o:V.sub V1)=>impTypes (h.sub o);have A:=λV1 (o:V.sub V1)=>impHeads (h.sub o) N.small;have I:=λV1 (o:V.sub V1)=>impForm (h.sub o);have M:=λV1 (o:V.sub V1)=>impBodies W (h.sub o) hv N;have F:=λV1 (o:V.sub V1) (s:DY d=none)=>impExps W (h.sub o) hv N s;refine GenK.makeF1 (v:=.pointer c) rfl ⟨.func (.func 117) #[.pointer c] #[],rfl,rfl,GenK.makeF1 (v:=.pointer c) rfl ⟨.func (.func 118) #[.pointer c] #[],rfl,rfl,GenK.makeF1 (v:=.pointer c) rfl ⟨.func (.func 119) #[.pointer c] #[],rfl,rfl,GenK.makeF1 (v:=.pointer c) rfl ⟨.func (.func 120) #[.pointer c] #[],rfl,rfl,GenK.makeF1 (v:=.pointer c) rfl ⟨.func (.func 121) #[.pointer c] #[],rfl,rfl,λb L=>?_⟩⟩⟩⟩⟩;have Z:=Mem.sub_new L (.cells #[.func (.func 117) #[.pointer c] #[],.func (.func 118) #[.pointer c] #[],.func (.func 119) #[.pointer c] #[],.func (.func 120) #[.pointer c] #[],.func (.func 121) #[.pointer c] #[]] 160 (0,0));refine AR 5 (λi V1=>V.sub V1/\V1 b=some (.cells #[.func (.func 117) #[.pointer c] #[],.func (.func 118) #[.pointer c] #[],.func (.func 119) #[.pointer c] #[],.func (.func 120) #[.pointer c] #[],.func (.func 121) #[.pointer c] #[]] 160 (0,0))/\
  ((i=0/\CT d=(Gg d).or ((Fs d).or ((DY d).or ((E9 d).or (Fa d)))))∨(i=1/\CT d=(Fs d).or ((DY d).or ((E9 d).or (Fa d))))∨(i=2/\CT d=(DY d).or ((E9 d).or (Fa d)))∨(i=3/\DY d=none/\CT d=(E9 d).or (Fa d))∨(i=4/\DY d=none/\CT d=Fa d)∨(i=5/\CT d=none))) ⟨Z,Mem.set_same _ _ _,.inl ⟨rfl,rfl⟩⟩ ?_
 rintro i C V1 J hi ⟨l,g,H⟩ G;have q:∀{V2:Mem}{X Y:Option Flt}{p:Option Addr},V.sub V2->FltAt V2 p X->¬(p=none)->CT d=X.or Y->(∃Q,xI (.pointer p)=.returned (.pointer Q)/\V.sub V2/\FltAt V2 Q (CT d)):=λ{V2 X Y p} o s y z=>by
  obtain⟨r,rfl⟩:=IQ s y;simp_all
 refine⟨λR=>?_,λB=>?_⟩
 ·rcases H with⟨rfl,z⟩|⟨rfl,z⟩|⟨rfl,z⟩|⟨rfl,s,z⟩|⟨rfl,s,z⟩|⟨rfl,z⟩
  ·refine⟨by simp[Aa],by omega,by omega,.func (.func 117) #[.pointer c] #[],rfl,Am g 0 1 (by simp),_,_,_,rfl,Tryz.call117,Tri.mono (O V1 l) ?_⟩;rintro _ V2 ⟨p,rfl,k,u⟩;refine⟨_,rfl,λy=>⟨⟨by omega,by omega⟩,G (by omega) _ _ ⟨l.trans k,k _ _ g,?_⟩⟩,λy=>q (l.trans k) u y z⟩;subst y;exact .inr (.inl ⟨rfl,by rw[z,FN u,xX]⟩)
  ·refine⟨by simp[Aa],by omega,by omega,.func (.func 118) #[.pointer c] #[],rfl,Am g 1 1 (by simp),_,_,_,rfl,Tryz.call118,Tri.mono (A V1 l) ?_⟩;rintro _ V2 ⟨p,rfl,k,u⟩;refine⟨_,rfl,λy=>⟨⟨by omega,by omega⟩,G (by omega) _ _ ⟨l.trans k,k _ _ g,?_⟩⟩,λy=>q (l.trans k) u y z⟩;subst y;exact .inr (.inr (.inl ⟨rfl,by rw[z,FN u,xX]⟩))
  ·refine⟨by simp[Aa],by omega,by omega,.func (.func 119) #[.pointer c] #[],rfl,Am g 2 1 (by simp),_,_,_,rfl,Tryz.call119,Tri.mono (I V1 l) ?_⟩;rintro _ V2 ⟨p,rfl,k,u⟩;refine⟨_,rfl,λy=>⟨⟨by omega,by omega⟩,G (by omega) _ _ ⟨l.trans k,k _ _ g,?_⟩⟩,λy=>q (l.trans k) u y z⟩;subst y;exact .inr (.inr (.inr (.inl ⟨rfl,FN u,by rw[z,FN u,xX]⟩)))
  ·refine⟨by simp[Aa],by omega,by omega,.func (.func 120) #[.pointer c] #[],rfl,Am g 3 1 (by simp),_,_,_,rfl,Tryz.call120,Tri.mono (M V1 l) ?_⟩;rintro _ V2 ⟨p,rfl,k,u⟩;refine⟨_,rfl,λy=>⟨⟨by omega,by omega⟩,G (by omega) _ _ ⟨l.trans k,k _ _ g,?_⟩⟩,λy=>q (l.trans k) u y z⟩;subst y;exact .inr (.inr (.inr (.inr (.inl ⟨rfl,s,by rw[z,FN u,xX]⟩))))
  ·refine⟨by simp[Aa],by omega,by omega,.func (.func 121) #[.pointer c] #[],rfl,Am g 4 1 (by simp),_,_,_,rfl,Tryz.call121,Tri.mono (F V1 l s) ?_⟩;rintro _ V2 ⟨p,rfl,k,u⟩;refine⟨_,rfl,λy=>⟨⟨by omega,by omega⟩,G (by omega) _ _ ⟨l.trans k,k _ _ g,?_⟩⟩,λy=>q (Y:=none) (l.trans k) u y (by simp_all)⟩;subst y;exact .inr (.inr (.inr (.inr (.inr ⟨rfl,by rw[z,FN u]⟩))))
  ·omega
 ·rcases H with⟨rfl,z⟩|⟨rfl,z⟩|⟨rfl,z⟩|⟨rfl,s,z⟩|⟨rfl,s,z⟩|⟨rfl,z⟩;·omega
  ·omega
  ·omega
  ·omega
  ·omega
  ·rw[z];exact⟨none,rfl,l,rfl⟩
theorem Ow[Tab V](y:Hv)(i:NewC)(z:Ds.Ok V d):PP 37 [d.v] V (if BB d=true then f3 (CT d)else .tuple #[.string sE,.int .i64 0,.int .i64 1]):=by
 refine Bf.mk (PG ?_);refine(Om z).call ⟨_,rfl,λh=>?_,λh=>?_⟩
 ·rw[if_pos h];refine Tri.mono (i V d z) ?_;rintro _ V1 ⟨c,rfl,h1,l⟩;refine⟨c,rfl,Tri.mono (impFirst y l (QM h) (vparts h)) ?_⟩;rintro _ V2 ⟨p,rfl,h2,g⟩;refine⟨p,rfl,λk=>?_,λk=>?_⟩
  ·subst k;rw[FN g];exact⟨rfl,h1.trans h2⟩
  ·obtain⟨r,q⟩:=IQ g k;rw[q]at g⊢;obtain⟨b,t,rfl,u⟩:=g;exact⟨k,k,_,Am u 0 1 (by simp),k,k,_,Am u 1 1 (by simp),k,k,_,Am u 2 1 (by simp),GW (p:=some ⟨b,0,none⟩) (Am u 2 1 (by simp)),k,k,GW (p:=some ⟨b,0,none⟩) (Am u 1 1 (by simp)),k,k,GW (p:=some ⟨b,0,none⟩) (Am u 2 1 (by simp)),k,k,rfl,h1.trans h2⟩
 ·rw[if_neg h];exact⟨rfl,Mem.sub.refl _⟩
end
end Go.Proofs
namespace Go.Sx
open Go
open Classical
structure KeyOf (P:Program)(kt:TypeId){α:Type}(enc:α->Value):Prop where
 inj:∀a b,enc a=enc b->a=b
 find:∀(a:α)(es:List MapEntry)(w:World),(∀e∈es,∃b,e.key=enc b)->(Instr.findKey kt (enc a) es).run P w=.ok ((es.findIdx? λe=>decide (e.key=enc a)).bind λj=>(es[j]?).map λe=>(j,e.val)) w
 check:∀(b:Bool)(a:α)(w:World),(Instr.checkKey b 10000 kt (enc a)).run P w=.ok () w
 stays:∀(a:α)(w:World),(Instr.keyThatStays (enc a) (enc a)).run P w=.ok (enc a) w
noncomputable def Fw(es:List MapEntry)(k:Value):Option Value:=(es.find? λe=>decide (e.key=k)).map (·.val)
structure CY {α:Type}(enc:α->Value)(V:Mem)(b:Nat)(m:α->Option Value):Prop where
 at_:∃es clock,V b=some (.map es clock)/\(∀e∈es.toList,∃a,e.key=enc a)/\es.toList.Pairwise (λe f=>e.key≠f.key)/\∀a,Fw es.toList (enc a)=m a
section
variable{α:Type}{enc:α->Value}{P:Program}{t kt et:TypeId}{V V':Mem}{b c:Nat}{m m':α->Option Value}
theorem CY.sub(h:CY enc V b m)(k:V.sub V'):CY enc V' b m:=by
 obtain⟨es,c,h1,h2⟩:=h.at_;exact⟨es,c,k _ _ h1,h2⟩
theorem CY.set{o:Obj}(h:CY enc V b m)(k:b≠c):CY enc (V.set c o) b m:=by
 obtain⟨es,c,h1,h2⟩:=h.at_;exact⟨es,c,by rw[Mem.set_ne k];exact h1,h2⟩
theorem CY.made(V:Mem)(b:Nat):CY enc (V.set b (.map #[] 0)) b λ_=>none:=
 ⟨#[],0,Mem.set_same _ _ _,by simp,by simp,by simp[Fw]⟩
theorem CY.congr(h:CY enc V b m)(e:∀k,m k=m' k):CY enc V b m':=by
 obtain⟨es,c,h1,h2,h3,h4⟩:=h.at_;exact⟨es,c,h1,h2,h3,λk=>(h4 k).trans (e k)⟩
theorem lookV_idx(k:Value):∀es:List MapEntry,Fw es k=(es.findIdx? λe=>decide (e.key=k)).bind λj=>(es[j]?).map (·.val)
 |[]=>rfl
 |e::es=>by
  have h:=lookV_idx k es;unfold Fw at h⊢;simp only[xw,yk];by_cases g:e.key=k;·simp[g]
  ·simp only[g,decide_false,zN,if_false,h];cases u:yi (λe=>decide (e.key=k)) es<;>simp
theorem BJ.key1(K:KeyOf P kt enc)(h:P.underlying t=some (.map kt et)){z:Value}(u:∀w,(zeroValue et).run P w=.ok z w)(hm:CY enc V b m){k:α}{q:Value->Prop}(g:q ((m k).getD z)):BJ P t (.map (some b)) (enc k) false V q:=by
 intro w hw;obtain⟨es,c,h1,h2,-,h3⟩:=hm.at_;refine⟨_,?_,g⟩;unfold Instr.lookup;simp only[zK,run_underlying h,zL,yf (hw _ _ h1),zM,K.check,K.find k _ w h2];rw[<-h3 k,lookV_idx];cases y:yi (λe=>decide (e.key=enc k)) es.toList with
 |none=>simp_all
 |some j=>
  grind[ye,zM,yr,Array.getElem?_eq_getElem]
theorem lookV_push{es:List MapEntry}{k val:Value}{c:Nat}(h:es.findIdx? (λe=>decide (e.key=k))=none)(x:Value):Fw (es++[{key:=k,val:=val,born:=c}]) x=if x=k then some val else Fw es x:=by
 grind[Fw]
theorem Ox(k val:Value):∀(es:List MapEntry)(i:Nat) (h:es.findIdx? (λe=>decide (e.key=k))=some i) (x:Value),Fw (es.modify i λe=>{e with key:=k,val:=val}) x=if x=k then some val else Fw es x
 |[],_,h,_=>by simp at h
 |e::es,i,h,x=>by
  rw[yk]at h;by_cases g:e.key=k;·grind[Fw]
  ·simp only[g,decide_false,zN,if_false,zh]at h;obtain⟨j,u,rfl⟩:=h;have z:=Ox k val es j u x;grind[Fw]
theorem Oy(k val:Value):∀(es:List MapEntry)(i:Nat),es.findIdx? (λe=>decide (e.key=k))=some i->(es.modify i λe=>{e with key:=k,val:=val}).map (·.key)=es.map (·.key)
 |[],_,h=>by simp at h
 |e::es,i,h=>by
  rw[yk]at h;by_cases g:e.key=k;·grind
  ·simp only[g,decide_false,zN,if_false,zh]at h;obtain⟨j,u,rfl⟩:=h;simp[Oy k val es j u]
theorem pair_keys{es:List MapEntry}:es.Pairwise (λe f=>e.key≠f.key)↔(es.map (·.key)).Pairwise (·≠·):=by grind
theorem C2.key(K:KeyOf P kt enc)(s:P.underlying t=some (.map kt et))(hm:CY enc V b m){k:α}{val:Value}{q:Mem->Prop}(r:∀o,CY enc (V.set b o) b (λx=>if x=k then some val else m x)->q (V.set b o)):C2 P t (.map (some b)) (enc k) val V q:=by
 intro w hw;obtain⟨es,c,h1,h2,G,h3⟩:=hm.at_;have g:(yo t (.map (some b)) (enc k) val).run P w=
   (match es.toList.findIdx? (λe=>decide (e.key=enc k))with
   |some i=>(setObj b (.map (es.modify i λe=>{e with key:=enc k,val:=val}) c)).run P w
   |none=>(setObj b (.map (es.push {key:=enc k,val:=val,born:=c}) (c+1))).run P w):=by
  unfold yo;simp only[zK,run_underlying s,zL,yf (hw _ _ h1),K.check,K.find k _ w h2];cases u:yi (λe=>decide (e.key=enc k)) es.toList with
  |none=>rfl
  |some j=>
   obtain⟨z,H,_⟩:=ye.1 u;have J:j<es.size:=by simpa using z
   have y:(es[j]?).map (·.key)=some (enc k):=by
    simp_all
   simp only[yr z,Option.bind_some,Option.map_some,zK,y,xY,K.stays,zL]
 have l:∀a,(if enc a=enc k then some val else Fw es.toList (enc a))=if a=k then some val else m a:=λa=>by
  by_cases e:a=k;·simp_all
  ·rw[if_neg e,if_neg (λh=>e (K.inj _ _ h)),h3]
 cases u:yi (λe=>decide (e.key=enc k)) es.toList with
 |none=>
  rw[u]at g;refine⟨_,V.set b (.map (es.push {key:=enc k,val:=val,born:=c}) (c+1)),g.trans (yd _ (hw _ _ h1)),Aw.put hw h1,r _ ⟨_,_,Mem.set_same _ _ _,?_,?_,λx=>?_⟩⟩;·grind
  ·grind
  ·rw[Array.toList_push,lookV_push u,l]
 |some j=>
  rw[u]at g;refine⟨_,V.set b (.map (es.modify j λe=>{e with key:=enc k,val:=val}) c),g.trans (yd _ (hw _ _ h1)),Aw.put hw h1,r _ ⟨_,_,Mem.set_same _ _ _,?_,?_,λx=>?_⟩⟩
  ·intro e p;rw[yb]at p;obtain⟨i,hi,rfl⟩:=ya.1 p;rw[List.getElem_modify];split;·grind
   simp_all
  ·simp_all[yb,pair_keys,Oy]
  simp_all[yb,Ox]
end
end Go.Sx
namespace Go.Proofs
open Go Go.Sx
attribute [local irreducible] Go.Sx.Tri
def Ak(n:Int):List Value:=[.int .i64 n]
def DZ(n:Int):Prop:=-9223372036854775808<=n/\n<=9223372036854775807
structure Nd where
 ty:Int
 sl:Sl
 f:List Int
def Nd.row(n:Nd):List Value:=[.int .i64 n.ty,n.sl.v]
def Nd.v(n:Nd):Value:=.agg n.row.toArray
structure Nd.Ok (V:Mem)(n:Nd):Prop where
 rows:Ad V n.sl 1 (n.f.map Ak)
 tyIn:DZ n.ty
 vals:∀x∈n.f,DZ x
structure Mm where
 gs:Sl
 globals:List Int
 ns:Sl
 nodes:List Nd
def Mm.row(m:Mm):List Value:=[m.gs.v,m.ns.v]
def Mm.v(m:Mm):Value:=.agg m.row.toArray
structure Mm.Ok (V:Mem)(m:Mm):Prop where
 globals:Ad V m.gs 1 (m.globals.map Ak)
 gIn:∀x∈m.globals,DZ x
 nodes:Ad V m.ns 2 (m.nodes.map Nd.row)
 nodesOk:∀n∈m.nodes,Nd.Ok V n
theorem Nd.Ok.sub{V V':Mem}{n:Nd}(h:Nd.Ok V n)(k:V.sub V'):Nd.Ok V' n:=⟨h.rows.sub k,h.tyIn,h.vals⟩
theorem Mm.Ok.sub{V V':Mem}{m:Mm}(h:Mm.Ok V m)(k:V.sub V'):Mm.Ok V' m:=⟨h.globals.sub k,h.gIn,h.nodes.sub k,λn g=>(h.nodesOk n g).sub k⟩
def allI{α:Type}(p:Nat->α->Bool)(xs:List α):Bool:=xs.zipIdx.all λx=>p x.2 x.1
def AllI{α:Type}(p:Nat->α->Bool)(xs:List α)(i:Nat):Prop:=∀j x,j<i->xs[j]?=some x->p j x=true
theorem AllI.zero{α:Type}{p:Nat->α->Bool}{xs:List α}:AllI p xs 0:=λ_ _ h=>absurd h (Nat.not_lt_zero _)
theorem AllI.succ{α:Type}{p:Nat->α->Bool}{xs:List α}{i:Nat}{x:α}(h:AllI p xs i)(z:xs[i]?=some x)(l:p i x=true):AllI p xs (i+1):=λj y k g=>by
 rcases Nat.lt_succ_iff_lt_or_eq.1 k with u|rfl;·exact h j y u g
 simp_all
theorem GX{α:Type}{p:Nat->α->Bool}{xs:List α}:allI p xs=true↔∀j x,xs[j]?=some x->p j x=true:=by
 unfold allI;rw[z7];constructor;·simp_all[List.mem_zipIdx_iff_getElem?]
 grind
theorem AllI.all{α:Type}{p:Nat->α->Bool}{xs:List α}{i:Nat}(h:AllI p xs i)(hi:xs.length<=i):allI p xs=true:=
 GX.2 λj x k=>h j x (by grind) k
theorem Mu{α:Type}{p:Nat->α->Bool}{xs:List α}{j:Nat}{x:α}(h:xs[j]?=some x)(k:¬p j x=true):allI p xs=false:=by
 grind[allI,absurd,GX]
def Bw(d:Ds)(s:KB):Int:=Ci (λt=>decide (t.name=s)) d.types
def C3(d:Ds)(l:List Fld):Bool:=l.all λf=>Bs d f.ty
def Dq(d:Ds):Bool:=BB d&&C3 d d.globals&&allI (λi t=>decide (Bw d t.name=(i:Int))&&C3 d t.fields) d.types
def Bi(d:Ds)(t:Int):List Fld:=((d.types[t.toNat]?).map (·.fields)).getD []
def tyAt(l:List Fld)(i:Nat):KB:=((l[i]?).map (·.ty)).getD sE
def AL(d:Ds)(m:Mm)(h:KB)(v:Int):Bool:=
 if h=Aj then decide (-1099511627776<=v/\v<=1099511627776)else if h=Au then decide (v=0∨v=1)
 else decide (v=0∨(1<=v/\v<=(m.nodes.length:Int)/\(m.nodes[(v-1).toNat]?).map (·.ty)=some (Bw d h)))
def Ax(d:Ds)(m:Mm)(l:List Fld)(vs:List Int):Bool:=decide (l.length=vs.length)&&allI (λi v=>AL d m (tyAt l i) v) vs
def Eu(d:Ds)(n:Nd):Bool:=decide (0<=n.ty/\n.ty<(d.types.length:Int))
def BF(d:Ds)(m:Mm):Bool:=Dq d&&decide (m.nodes.length<=4096)&&m.nodes.all (Eu d)&&Ax d m d.globals m.globals&&m.nodes.all λn=>Ax d m (Bi d n.ty) n.f
theorem row_take{V:Mem}{a:Addr}{n k:Nat}{vs:List Value}(h:V.row a n=some vs)(g:k<=n):V.row a k=some (vs.take k):=by
 grind[Mem.row]
theorem KI{V:Mem}{p:Option Addr}{off n k:Nat}{vs:List Value}(h:V.rowp p off n=some vs)(g:k<=n):V.rowp (Aa (Aa p off) 0) 0 k=some (vs.take k):=by
 cases p with
 |none=>cases h
 |some a=>
  have u:((a.add off).add 0).add 0=a.add off:=by rfl
  show V.row (((a.add off).add 0).add 0) k=_;rw[u];exact row_take h g
section
variable{V:Mem}{d:Ds}{m:Mm}
theorem Mv(d:Ds)(s:KB):(Bw d s<0/\Cd d s=false)∨(0<=Bw d s/\Cd d s=true):=by
 grind[Bw,Cd,CP,Ty]
theorem Oz(h:Ds.Ok V d){l:Sl}{xs:List Fld}(y:Ad V l 2 (xs.map Fld.row)):PP 92 [d.v,l.v] V (.bool (C3 d xs)):=by
 refine Qv ?_;refine AR (mk:=.bool) (b0:=false) xs.length (λi V1=>V=V1/\Bb (λf=>Bs d f.ty) xs i) ⟨rfl,Bb.zero _ _⟩ ?_;rintro i b V1 J hi ⟨rfl,s⟩ H;refine⟨λg=>?_,λr=>?_⟩
 ·obtain⟨x,hm,G,N,Z,z,q,u⟩:=y.get g;have o:=Al (n:=i*2) z;have p:Bs d x.ty=true->IR ((i:Int)+1)/\J [.bool b,.int .i64 ((i:Int)+1)] V:=λY=>⟨y.succ g,H Z _ _ ⟨rfl,s.succ G Y⟩⟩;refine⟨z,q,g,o,_,_,u,λh1=>p (by grind[Bs,Aj]),λh1=>⟨z,q,g,o,_,_,u,λh2=>p (by grind[Bs,Au]),λh2=>⟨z,q,g,o,_,_,u,(H3 h).call ⟨_,rfl,λh3=>?_,λh3=>p ?_⟩⟩⟩⟩
  ·rcases Mv d x.ty with⟨-,k⟩|⟨k,-⟩
   ·have:Bs d x.ty=false:=by grind[Bs,Aj,Au]
    unfold C3;grind
   grind[absurd,Bw]
  ·rcases Mv d x.ty with⟨k,-⟩|⟨-,k⟩;·grind[absurd,Bw]
   grind[Bs]
 ·unfold C3;rw[s.all (y.done r).2];simp_all
theorem OA(h:Ds.Ok V d):PP 59 [d.v] V (.bool (Dq d)):=by
 refine P5 ?_;unfold Dq;refine(Mh h).call ⟨_,rfl,λhv=>(Oz h h.globals).call ⟨_,rfl,λr=>?_,λr=>?_⟩,λhv=>?_⟩
 ·rw[hv,r,Bool.true_and,Bool.true_and];refine AR (mk:=.bool) (b0:=false) d.types.length (λi V1=>V=V1/\AllI (λi t=>decide (Bw d t.name=(i:Int))&&C3 d t.fields) d.types i) ⟨rfl,AllI.zero⟩ ?_;rintro i b V1 J hi ⟨rfl,q⟩ s;refine⟨λg=>?_,λz=>?_⟩
  ·obtain⟨x,hm,y,H,G,l,o,u⟩:=h.types.get g;have p:=Al (n:=i*2) l;refine⟨l,o,g,p,_,_,u,(H3 h).call ⟨_,rfl,λh1=>⟨l,o,g,p,_,_,u,(Oz h (h.typesOk x hm).fields).call ⟨_,rfl,λh2=>⟨h.types.succ g,s G _ _ ⟨rfl,q.succ y ?_⟩⟩,λh2=>?_⟩⟩,λh1=>?_⟩⟩;·grind[Bw]
   ·rw[Mu y (by simp_all)];simp_all
   ·rw[Mu y (by rw[zC,decide_eq_true_eq];exact λk=>h1 k.1)];simp_all
  ·rw[q.all (h.types.done z).2];simp_all
 ·simp_all
 simp_all
theorem Mw(h:Ds.Ok V d)(hm:Mm.Ok V m){s:KB}{v:Int}:PP 60 [d.v,m.v,.string s,.int .i64 v] V (.bool (AL d m s v)):=by
 refine P9 ?_;unfold AL;have H:=hm.nodes.n_eq;have g:∀{a b:Bool},a=b->(xI (.bool a)=xI (.bool b)/\V=V):=λe=>⟨by rw[e],rfl⟩;refine⟨λh1=>?_,λh1=>⟨λh2=>?_,λh2=>?_⟩⟩;·grind[Aj]
 ·grind[Aj,Au,inr]
 ·rw[if_neg (show ¬s=Aj from h1),if_neg (show ¬s=Au from h2)];refine⟨λh3=>g (decide_eq_true (.inl h3)).symm,λh3=>⟨λh4=>⟨λr=>?_,λr=>g ?_⟩,λh4=>g ?_⟩⟩
  ·obtain⟨i,rfl⟩:∃i:Nat,v=(i:Int)+1:=⟨(v-1).toNat,by omega⟩;have e:((i:Int)+1-1)=(i:Int):=by omega
   have q:(i:Int)+1<=9223372036854775807:=by have:=(hm.nodes.succ (i:=i) (by omega)).2;omega
   rw[e];obtain⟨x,o,y,p,J,z,G,u⟩:=hm.nodes.get (i:=i) (by omega);have l:=Al (n:=i*2) z;refine⟨⟨by omega,by omega⟩,z,by omega,by omega,l,_,_,u,(H3 h).call ⟨_,rfl,?_,l,z,by omega,by omega,⟨by omega,by omega⟩,g ?_⟩⟩;·exact KI (k:=1) u (by decide)
   ·refine decide_eq_decide.2 ⟨λk=>.inr ⟨h4,by omega,?_⟩,λk=>?_⟩
    ·show Option.map (·.ty) (m.nodes[((i:Int)).toNat]?)=_;rw[xu,y];exact congrArg some k
    ·rcases k with k|⟨-,-,k⟩;·omega
     ·rw[show((i:Int)).toNat=i from rfl,y]at k;exact Option.some.inj k
  ·grind
  grind
theorem Ef{t:Int}{x:Ty}{k:Nat}(h:d.types[k]?=some x)(g:t=(k:Int)):Bi d t=x.fields:=by
 grind[Bi]
theorem QO(h:Ds.Ok V d)(hm:Mm.Ok V m):PP 29 [d.v,m.v] V (.bool (BF d m)):=by
 refine PD ?_;have hn:=hm.nodes.n_eq;have hg:=hm.globals.n_eq;have hdg:=h.globals.n_eq;have hdt:=h.types.n_eq;have O:∀{V1:Mem},V=V1->¬BF d m=true->(xI (.bool false)=xI (.bool (BF d m))/\V1=V):=λe k=>⟨by simp_all,e.symm⟩;have parts:BF d m=true↔Dq d=true/\m.nodes.length<=4096/\(∀n∈m.nodes,Eu d n=true)/\Ax d m d.globals m.globals=true/\∀n∈m.nodes,Ax d m (Bi d n.ty) n.f=true:=by
  grind[BF]
 refine(OA h).call ⟨_,rfl,λht=>⟨λhl=>⟨λR=>O rfl λk=>?_,λR=>?_⟩,λhl=>O rfl λk=>?_⟩,λht=>O rfl λk=>ht (parts.1 k).1⟩;·grind
 ·let PA:Nd->Bool:=λn=>Eu d n&&decide ((Bi d n.ty).length=n.f.length);refine AR (mk:=.bool) (b0:=false) m.nodes.length (λi V1=>V=V1/\Bb PA m.nodes i) ⟨rfl,Bb.zero _ _⟩ ?_;rintro i b V1 J hi ⟨rfl,Z⟩ A;refine⟨λg=>?_,λr=>?_⟩
  ·obtain⟨x,l,X,B,s,Y,I,u⟩:=hm.nodes.get g;have C:=Al (n:=i*2) Y;have hnx:=(hm.nodesOk x l).rows.n_eq;refine⟨Y,I,g,C,_,_,u,λh1=>O rfl λk=>?_,λh1=>⟨λh2=>O rfl λk=>?_,λh2=>?_⟩⟩
   ·have:=(parts.1 k).2.2.1 x l;exact absurd (of_decide_eq_true this).1 (by omega)
   ·have:=(parts.1 k).2.2.1 x l;exact absurd (of_decide_eq_true this).2 (by omega)
   ·obtain⟨t,q⟩:∃t:Nat,x.ty=(t:Int):=⟨x.ty.toNat,by omega⟩;obtain⟨y,M,hy,-,-,H,hyz,o⟩:=h.types.get (i:=t) (by omega);have hfn:=(h.typesOk y M).fields.n_eq;have W:=Ef hy q;have h1':(0:Int)<=x.ty:=by omega
    rw[q]at h1 h2⊢;refine⟨Y,I,g,C,_,_,u,H,by omega,by omega,Al H,_,_,o,λh3=>⟨hm.nodes.succ g,A s _ _ ⟨rfl,Z.succ X ?_⟩⟩,λh3=>O rfl λk=>?_⟩;·grind[Eu,Bi]
    grind[Ax]
  have hA:=Z.all (hm.nodes.done r).2;rw[z7]at hA;clear A Z r hi;refine AR (mk:=.bool) (b0:=b) m.globals.length (λi V1=>V=V1/\AllI (λi v=>AL d m (tyAt d.globals i) v) m.globals i) ⟨rfl,AllI.zero⟩ ?_;rintro i b1 V1 J hi ⟨rfl,Z⟩ A;refine⟨λg=>?_,λr=>?_⟩
  ·obtain⟨x,l,X,B,s,Y,I,u⟩:=hm.globals.get g;obtain⟨f,hfm,hf,-,-,G,F,p⟩:=h.globals.get (i:=i) (by omega);have hty:tyAt d.globals i=f.ty:=by grind[tyAt]
   refine⟨G,F,by omega,Al G,_,_,p,Y,I,g,_,u,(Mw h hm).call ⟨_,rfl,λh1=>⟨hm.globals.succ g,A s _ _ ⟨rfl,Z.succ X (by grind)⟩⟩,λh1=>O rfl λk=>?_⟩⟩;have:=(parts.1 k).2.2.2.1;unfold Ax at this;rw[zC]at this;grind[GX]
  have hG:=Z.all (hm.globals.done r).2;clear A Z r hi;refine AR (mk:=.bool) (b0:=b1) m.nodes.length (λi V1=>V=V1/\Bb (λn=>Ax d m (Bi d n.ty) n.f) m.nodes i) ⟨rfl,Bb.zero _ _⟩ ?_;rintro i b2 V1 J hi ⟨rfl,Z⟩ A;refine⟨λg=>?_,λr=>?_⟩
  ·obtain⟨x,l,X,B,s,Y,I,u⟩:=hm.nodes.get g;have C:=Al (n:=i*2) Y;have D:=hm.nodesOk x l;have E:=hA x l;rw[zC,decide_eq_true_eq]at E;obtain⟨K,S⟩:=E;have K:=of_decide_eq_true K;obtain⟨t,q⟩:∃t:Nat,x.ty=(t:Int):=⟨x.ty.toNat,by omega⟩;obtain⟨y,M,hy,-,-,H,hyz,o⟩:=h.types.get (i:=t) (by omega);have Q:=(h.typesOk y M).fields;have W:=Ef hy q;refine⟨Y,I,g,C,_,_,u,H,by rw[q];omega,by rw[q];omega,Al H,_,_,by rw[q];exact o,?_⟩;rw[W]at S;have hxn:=D.rows.n_eq;have hyn:=Q.n_eq;refine AR (mk:=.bool) (b0:=b2) y.fields.length (λj V1=>V=V1/\AllI (λi v=>AL d m (tyAt y.fields i) v) x.f j) ⟨rfl,AllI.zero⟩ ?_;rintro j b3 V1 J1 hj ⟨rfl,T⟩ hJ1;refine⟨λN=>?_,λU=>⟨hm.nodes.succ g,A s _ _ ⟨rfl,Z.succ X ?_⟩⟩⟩
   ·obtain⟨f,hfm,hf,-,hfl,G,F,p⟩:=Q.get N;obtain⟨z,hzm,hzx,-,-,hzp,hzz,L⟩:=D.rows.get (i:=j) (by omega);have hty:tyAt y.fields j=f.ty:=by grind[tyAt]
    refine⟨G,F,N,Al G,_,_,p,Y,I,g,C,_,_,u,hzp,hzz,by omega,_,L,(Mw h hm).call ⟨_,rfl,λh1=>⟨Q.succ N,hJ1 hfl _ _ ⟨rfl,T.succ hzx (by grind)⟩⟩,λh1=>O rfl λk=>?_⟩⟩;have:=(parts.1 k).2.2.2.2 x l;unfold Ax at this;rw[zC,W]at this;grind[GX]
   ·have:=(Q.done U).2;unfold Ax;rw[W,T.all (by omega),decide_eq_true S];rfl
  ·have hN:=Z.all (hm.nodes.done r).2;rw[z7]at hN;have:BF d m=true:=parts.2 ⟨ht,by omega,λn hn'=>(zC _ _▸hA n hn').1,by grind[Ax],hN⟩;simp_all
 grind[Ax]
end
end Go.Proofs
namespace Go.Proofs
open Go Go.Sx
inductive Rs where
 |ok (v:Int)
 |bad (e:Int)
deriving DecidableEq
def Rs.bind:Rs->(Int->Rs)->Rs
 |.ok v,f=>f v
 |.bad e,_=>.bad e
def CI(n:Int):Rs:=if -1099511627776<=n/\n<=1099511627776 then .ok n else .bad 5
def Ev(b:Bool):Int:=if b then 1 else 0
def Bg(op a b:Int):Rs:=
 if op=9 then CI (a+b)else if op=10 then CI (a-b)else if op=11 then CI (a*b)
 else if op=22 then .ok (if a<b then b else a)else if op=23 then .ok (if b<a then b else a)
 else if op=14 then .ok (Ev (decide (a=b)))else if op=15 then .ok (Ev (!decide (a=b)))else if op=16 then .ok (Ev (decide (a<b)))else if op=17 then .ok (Ev (decide (a<=b)))
 else if b=0 then .bad 18 else if op=12 then .ok (a.tdiv b)else .ok (a.tmod b)
def Ck(l:List Fld)(s:KB):Int:=Ci (λf=>decide (f.name=s)) l
def mIdx(d:Ds)(s:KB):Int:=Ci (λx=>decide (x.name=s)) d.measures
def varV(d:Ds)(m:Mm)(x:Int)(s:KB):Int:=if s=sThisF then x else(m.globals[(Ck d.globals s).toNat]?).getD 0
def fldV(d:Ds)(m:Mm)(a:Int)(s:KB):Rs:=
 if a=0 then .bad 17 else match m.nodes[(a-1).toNat]? with
  |none=>.bad 0
  |some n=>.ok ((n.f[(Ck (Bi d n.ty) s).toNat]?).getD 0)
def DF(a:Int):Int:=(Nat.log2 a.toNat:Int)
def kidR(h:List Rs)(i:Nat):Rs:=h.getD i (.bad 0)
section
variable(d:Ds)(m:Mm)
def comb(F:Int->Int->Rs)(x op n:Int)(s:KB)(h:List Rs):Rs:=
 if op=1∨op=2 then .ok n else if op=3 then .ok 0 else if op=4 then .ok (varV d m x s)
 else if op=5 then(kidR h 0).bind λa=>fldV d m a s
 else if op=7 then(kidR h 0).bind λa=>F (mIdx d s) a
 else if op=8 then(kidR h 0).bind λa=>CI (-a)
 else if op=18 then(kidR h 0).bind λa=>.ok (1-a)
 else if op=24 then(kidR h 0).bind λa=>.ok (DF a)
 else if op=19 then(kidR h 0).bind λa=>if a=0 then .ok 0 else kidR h 1
 else if op=20 then(kidR h 0).bind λa=>if a=0 then kidR h 1 else .ok 1
 else if op=21 then(kidR h 0).bind λa=>if a=0 then kidR h 2 else kidR h 1
 else(kidR h 0).bind λa=>(kidR h 1).bind λb=>Bg op a b
mutual
def QP(F:Int->Int->Rs)(x:Int):E->Rs
 |.mk op n s _ k=>comb d m F x op n s (evEs F x k)
def evEs(F:Int->Int->Rs)(x:Int):List E->List Rs
 |[]=>[]
 |e::es=>QP F x e::evEs F x es
end
end
end Go.Proofs
namespace Go.Proofs
open Go Go.Sx
structure Ao (d:Ds)(m:Mm):Prop where
 valid:BB d=true
 chk:CT d=none
 mem:BF d m=true
def VE(e:E):Prop:=∃k,Cv k e=true
theorem VE.of_valid{e:E}(h:By e=true):VE e:=⟨1,(of_decide_eq_true h).1⟩
theorem okE_eq(k:Int)(e:E):Cv k e=(decide (k<=60)&&DB e.op e.n e.s e.k.length&&okEs (k+1) e.k):=by cases e;unfold Cv;rfl
theorem okEs_all{k:Int}:∀{l:List E},okEs k l=true->∀x∈l,Cv k x=true
 |[],_,x,g=>by cases g
 |e::l,h,x,g=>by
  unfold okEs at h;rw[zC]at h;rcases yE.1 g with rfl|g;·exact h.1
  ·exact okEs_all h.2 x g
theorem VE.node{e:E}(h:VE e):DB e.op e.n e.s e.k.length=true:=by
 obtain⟨k,h⟩:=h;simp_all[okE_eq,zC]
theorem VE.kids{e:E}(h:VE e):∀x∈e.k,VE x:=by
 obtain⟨k,h⟩:=h;rw[okE_eq,zC]at h;exact λx g=>⟨_,okEs_all h.2 x g⟩
theorem KJ(d:Ds)(sc:Sc):∀(k:List E)(acc:List KB),(partsT d sc acc k).2=0->(∀x∈k,(As d sc x).2=0)/\(partsT d sc acc k).1=acc++k.map λx=>(As d sc x).1
 |[],acc,_=>by rw[IK];simp
 |x::xs,acc,h=>by
  rw[HW]at h⊢;split at h;·omega
  ·rename_i g;rw[if_neg g];obtain⟨h1,h2⟩:=KJ d sc xs _ h;simp_all
theorem Mx{d:Ds}{sc:Sc}{e:E}{t:KB}(h:As d sc e=(t,0)):(∀x∈e.k,(As d sc x).2=0)/\EJ d sc e.op e.s (e.k.map λx=>(As d sc x).1)=(t,0):=by
 grind[KA,zS,absurd,partsT,KJ]
theorem arityB{op n:Int}{s:KB}{l:Int}(h:DB op n s l=true):BO op≠-2/\(0<=BO op->l=BO op)/\Fp op s=true/\numB op n=true:=by
 grind[DB]
theorem list1{α:Type}{k:List α}(h:(k.length:Int)=1):∃a,k=[a]:=by
 match k,h with
 |[a],_=>grind
 |[],h=>simp at h
 |_::_::_,h=>simp at h;omega
theorem list2{α:Type}{k:List α}(h:(k.length:Int)=2):∃a b,k=[a,b]:=by
 match k,h with
 |[a,b],_=>simp_all
 |[],h=>simp at h
 |[_],h=>simp at h
 |_::_::_::_,h=>simp at h;omega
theorem list3{α:Type}{k:List α}(h:(k.length:Int)=3):∃a b c,k=[a,b,c]:=by
 match k,h with
 |[a,b,c],_=>simp_all
 |[],h=>simp at h
 |[_],h=>simp at h
 |[_,_],h=>simp at h
 |_::_::_::_::_,h=>simp at h;omega
theorem name_kw{s:KB}(h:BT s=true):isKw s=false:=by
 grind[BT]
theorem GY{s t:KB}(h:BT s=true)(k:isKw t=true):s≠t:=λe=>by grind[name_kw]
theorem kwNil:isKw DP=true:=by kernel_rfl
theorem kwInt:isKw Aj=true:=by kernel_rfl
theorem kwBool:isKw Au=true:=by kernel_rfl
section
variable{d:Ds}{m:Mm}
theorem validD_types(h:BB d=true):(∀t∈d.types,BT t.name=true)/\(∀f∈d.globals,BT f.name=true)/\(∀x∈d.measures,EI x=true)/\(∀x∈d.invs,GS x=true):=by
 grind[BB,Gd,EH,Do,fldB]
theorem JI(h:BB d=true){s:KB}(k:Cd d s=true):BT s=true:=by
 obtain⟨t,g,e⟩:=List.any_eq_true.1 k;rw[<-of_decide_eq_true e];exact(validD_types h).1 t g
def Ca(d:Ds)(m:Mm)(t:KB)(v:Int):Prop:=if t=DP then v=0 else AL d m t v=true
theorem JJ:DP≠Aj/\DP≠Au/\Aj≠DP/\Au≠DP/\Aj≠Au/\Au≠Aj:=by
 refine⟨of_decide_eq_false ?_,of_decide_eq_false ?_,of_decide_eq_false ?_,of_decide_eq_false ?_,of_decide_eq_false ?_,of_decide_eq_false ?_⟩<;>kernel_rfl
theorem EN{v:Int}:Ca d m Aj v↔-1099511627776<=v/\v<=1099511627776:=by
 unfold Ca AL;rw[if_neg JJ.2.2.1,if_pos rfl,decide_eq_true_eq]
theorem Fb{v:Int}:Ca d m Au v↔v=0∨v=1:=by
 unfold Ca AL;rw[if_neg JJ.2.2.2.1,if_neg JJ.2.2.2.2.2,if_pos rfl,decide_eq_true_eq]
theorem Gh(h:BB d=true){t:KB}(k:Bs d t=true){v:Int}:Ca d m t v↔AL d m t v=true:=by
 unfold Ca;rw[if_neg];intro e;subst e;unfold Bs at k;rw[decide_eq_false JJ.1,decide_eq_false JJ.2.1]at k;exact GY (JI h (by simpa using k)) kwNil rfl
theorem OB{t:KB}(h:BT t=true):AL d m t 0=true:=by
 unfold AL;rw[if_neg (GY h kwInt),if_neg (GY h kwBool)];exact decide_eq_true (.inl rfl)
theorem Hw(h:BB d=true){a b:KB}(k:Bz d a b=true){v:Int}(hv:Ca d m a v):Ca d m b v:=by
 unfold Bz at k;simp only[Bool.or_eq_true,zC,decide_eq_true_eq]at k;rcases k with rfl|⟨rfl,u⟩;·exact hv
 ·have g:=JI h u;unfold Ca at hv⊢;rw[if_pos rfl]at hv;rw[if_neg (GY g kwNil),hv];exact OB g
theorem JK:∀(l:List Fld)(s:KB),BZ l s=((l.find? λf=>decide (f.name=s)).map (·.ty)).getD sE
 |[],_=>rfl
 |f::l,s=>by
  unfold BZ;rw[xw];by_cases h:f.name=s;·simp_all
  ·rw[if_neg h,decide_eq_false h,JK l s]
theorem JL(l:List Fld)(s:KB):(BZ l s=sE/\Ck l s=-1)∨∃(i:Nat)(f:Fld),Ck l s=i/\l[i]?=some f/\BZ l s=f.ty/\f.name=s:=by
 rw[JK];unfold Ck;rcases CP (λf:Fld=>decide (f.name=s)) l with⟨h1,h2,-⟩|⟨i,x,h1,h2,h3,-,h,-⟩;·grind
 grind
theorem Gi(h:Dq d=true):C3 d d.globals=true/\(∀(i:Nat)(x:Ty),d.types[i]?=some x->Bw d x.name=(i:Int))/\∀x∈d.types,C3 d x.fields=true:=by
 unfold Dq at h;rw[zC,zC,GX]at h;obtain⟨⟨-,h1⟩,h2⟩:=h;refine⟨h1,λi x k=>?_,λx k=>?_⟩;·grind
 ·obtain⟨i,hi,rfl⟩:=ya.1 k;have:=h2 i _ (yr hi);simp_all
theorem BG(h:BF d m=true):Dq d=true/\m.nodes.length<=4096/\(∀n∈m.nodes,Eu d n=true)/\Ax d m d.globals m.globals=true/\∀n∈m.nodes,Ax d m (Bi d n.ty) n.f=true:=by
 grind[BF]
theorem KK{l:List Fld}{vs:List Int}(h:Ax d m l vs=true){i:Nat}{f:Fld}(hi:l[i]?=some f):∃v,vs[i]?=some v/\AL d m f.ty v=true:=by
 unfold Ax at h;rw[zC,decide_eq_true_eq,GX]at h;have k:=(List.getElem?_eq_some_iff.1 hi).1;have hv:vs[i]?=some (vs[i]'(by omega)):=yr _;grind[tyAt]
theorem right_node{t:KB}(k:BT t=true){a:Int}(h:AL d m t a=true)(u:a≠0):1<=a/\a<=(m.nodes.length:Int)/\∃n,m.nodes[(a-1).toNat]?=some n/\n∈m.nodes/\n.ty=Bw d t:=by
 unfold AL at h;rw[if_neg (GY k kwInt),if_neg (GY k kwBool),decide_eq_true_eq]at h;rcases h with h|⟨h1,h2,h3⟩;·omega
 ·refine⟨h1,h2,?_⟩;cases g:m.nodes[(a-1).toNat]? with
  |none=>simp_all
  |some n=>rw[g]at h3;exact⟨n,rfl,xr g,by simpa using h3⟩
theorem tyOf_idx{s:KB}{t:Ty}(h:DC d s=some t):∃i:Nat,Bw d s=(i:Int)/\d.types[i]?=some t/\t.name=s/\Cd d s=true:=by
 unfold DC at h;unfold Bw Cd;rcases CP (λt:Ty=>decide (t.name=s)) d.types with⟨-,h2,-⟩|⟨i,x,h1,h2,h3,-,k,-,g,-⟩;·simp_all
 grind
theorem fld_ok(G:Ao d m){t s ty:KB}(k:DD d t s=(ty,0)){a:Int}(O:Ca d m t a)(W:a≠0):
  ∃(n:Nd)(i j:Nat)(h:Ty)(f:Fld)(v:Int),m.nodes[(a-1).toNat]?=some n/\n∈m.nodes/\1<=a/\a<=(m.nodes.length:Int)/\n.ty=(j:Int)/\d.types[j]?=some h/\h∈d.types/\Ck h.fields s=i/\h.fields[i]?=some f/\n.f[i]?=some v/\Ca d m ty v/\fldV d m a s=.ok v/\f.ty=ty:=by
 unfold DD at k;cases l:DC d t with
 |none=>simp_all
 |some h=>
  rw[l]at k;simp only at k;split at k;·simp at k
  ·rename_i A;simp only[zS,and_true]at k;obtain⟨j,J,u,rfl,z⟩:=tyOf_idx l;have y:=JI G.valid z;have r:AL d m h.name a=true:=by
    grind[Ca]
   obtain⟨b1,b2,n,b3,N,Z⟩:=right_node y r W;rcases JL h.fields s with⟨Y,-⟩|⟨i,f,Y,c2,c3,c4⟩;·grind
   ·have q:Bi d n.ty=h.fields:=Ef u (Z.trans J);obtain⟨p1,-,-,-,Q⟩:=BG G.mem;have hv:=Q n N;rw[q]at hv;obtain⟨v,o,p⟩:=KK hv c2;have g:=xr u;have H:Bs d f.ty=true:=z7.1 ((Gi p1).2.2 h g) f (xr c2);refine⟨n,i,j,h,f,v,b3,N,b1,b2,Z.trans J,u,g,Y,c2,o,?_,?_,c3.symm.trans k⟩;·rw[<-k,c3];exact(Gh G.valid H).2 p
    simp_all[fldV,if_neg,xu]
theorem KL{α β:Type}{f:Nat->α->Option β}:∀{l:List α}{i:Nat},Ar f i l=none->∀j x,l[j]?=some x->f (i+j) x=none
 |[],_,_,j,x,k=>by simp at k
 |y::l,i,h,j,x,k=>by
  unfold Ar at h;cases g:f i y with
  |some b=>simp_all
  |none=>
   rw[g]at h;cases j with
   |zero=>simp_all
   |succ j=>rw[show i+(j+1)=i+1+j by omega];exact KL h j x (by simpa using k)
theorem KM{α:Type}{a b:Option α}(h:a.or b=none):a=none/\b=none:=by
 simp_all
end
end Go.Proofs
