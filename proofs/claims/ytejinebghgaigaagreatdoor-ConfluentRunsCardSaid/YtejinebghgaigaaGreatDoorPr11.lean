/- Part 11: no statement of the seat is proved here. -/
import Derived.Test.YtejinebghgaigaaGreatDoorPr10
import Derived.Test.YtejinebghgaigaaGreatDoorPr04
set_option linter.unusedVariables false
set_option linter.unusedSimpArgs false
open Go.Ending renaming returned->xG
open Go.Proofs.Tryz renaming underlying286->xy,underlying9->xz,prog->xE,underlying216->xw
open Option renaming getD_some->xX,none_or->xW,map_eq_some_iff->zj
open List renaming mem_cons->yC,not_mem_nil->xC,find?_cons->xx,findIdx?_cons->ym,findIdx?->yk,findIdx?_eq_some_iff_getElem->yg,getElem?_eq_getElem->yv,mem_iff_getElem->yd,all_eq_true->za,mem_of_getElem?->xJ
open Bool renaming false_eq_true->zN,and_eq_true->zC,or_eq_true->yP
open Go.Sem renaming run_bind->zK
open Go.Result renaming andThen_ok->zL
open Go.MapKept renaming run_getObj_map->yh,run_setObj_map->yf
open Go.Instr renaming mapUpdate->yq
open Array renaming toList_modify->ye
open Int renaming toNat_natCast->xv
open Prod.mk renaming injEq->zS
namespace Go.Proofs
open Go Go.Sx
attribute [local irreducible] Go.Sx.Tri
section
variable{V:Mem}{d:Ds}{c:Option Addr}{m:Option Nat}{sc:Sc}
theorem c229(h:Ca V c d)(hv:EU d)(Q:Fk V m sc)(G:sc.body=true){x:S}(R:S.Ok V x)(T:Dc x.op x.s x.es x.ls.length x.xs.length=true){res:KB}:
  PP 229 [sV c m sc,x.v,.string res] V (.int .i64 (Ed d sc res x.op x.s x.es)):=by
 obtain⟨a6,a134,a2,a5,alen,O⟩:=Od T;rw[S.v_eq];refine Bv.mk (x229 ?_);have hf:=KD R;refine⟨λB=>?_,λB=>?_⟩
 ·obtain⟨C,o,-⟩:=a6 B;rcases hf with⟨h',-⟩|⟨e0',r,D,hn,U,hp2,q⟩;·simp_all
  ·rw[o]at D;cases D;have A:=O C (by rw[o];simp);have I:=R.eOk C (by rw[o];simp);have hk:∀y∈C.k,ImpE V d c m sc y:=λy hy=>impExpr h hv Q y (I.kids y hy) 2 (KG A y hy);refine⟨U,by omega,by omega,_,_,_,_,q,(impCall h C I (arity (JG A)).2.2.2 hk).call ⟨_,_,rfl,?_⟩⟩;unfold Ed rawT H4;rw[if_pos B,o];simp only[if_pos G];split;·exact⟨rfl,Mem.sub.refl _⟩
   ·exact⟨rfl,Mem.sub.refl _⟩
 ·unfold Ed;rw[if_neg B];have hr:=R.eRows;refine Hl (mk:=.int .i64) (mc:=λs:Sl=>.slice s.p s.n s.c) 0 ⟨none,0,0⟩ Bw x.es.length (λi s V2=>∃acc,Own V V2 9 1 s (acc.flatMap Dj)/\partsT d sc [] x.es=partsT d sc acc (x.es.drop i)/\acc.length=i) ⟨[],Own.nil (Mem.sub.refl _) _ _,rfl,rfl⟩ ?_;rintro i b s V2 J hi ⟨acc,g,z,N⟩ hJ;have H:=hr.sub g.sub;refine⟨λZ=>?_,λM=>?_⟩
  ·obtain⟨y,hm,hxy,hdr,hl,hpp,hz,q⟩:=H.get Z;rw[hdr,HV]at z;refine⟨hpp,hz,Z,_,_,_,_,q,(impExpr h hv Q y (R.eOk y hm) 1 (O y hm) V2 g.sub).call ⟨_,_,rfl,λW=>?_,λW=>?_⟩⟩
   ·intro b1 hb1;rw[if_neg (λh=>h W)]at z;refine app194 (s:=s) (u:=⟨some ⟨b1,0,none⟩,1,1⟩) (xs:=acc) (ys:=[(As d sc y).1]) rfl rfl (g.new hb1 _) (JH Az) (by grind) λs' V' ho=>⟨s',rfl,H.succ Z,hJ hl _ _ _ ⟨_,ho,z,by simp[N]⟩⟩
   ·rw[if_pos W]at z;rw[z];simp only[W,ne_eq,not_false_eq_true,if_true];exact⟨by trivial,g.sub⟩
  ·have hge':=(H.done M).2;rw[(H.done M).1,IQ]at z;rw[z];simp only[ne_eq,not_true_eq_false,if_false];have l:=ownS g;have hal:acc.length=x.es.length:=by omega
   have hsub:=g.sub;have h2:=h.sub g.sub;have sln:=l.n_eq;have Y:=λh:0<acc.length=>Fj l h;have at1:=λh:1<acc.length=>Fj l h;have key:∀X n:Int,X=n->(xG (.int .i64 n)=xG (.int .i64 X)/\V.sub V2):=λX n h=>by simp_all
   refine⟨λK=>?_,λK=>⟨λo2=>?_,λo2=>⟨λo3=>?_,λo3=>⟨λo4=>?_,λo4=>⟨λo5=>?_,λo5=>key _ _ ?_⟩⟩⟩⟩⟩
   ·obtain⟨b1,b2,b3⟩:=Y (by omega);obtain⟨mb,rfl,F⟩:=(Q.sub g.sub).at_;rw[if_pos K,Oh];refine BJ.str xy xz zero9 F ?_;cases L:Cr sc.vars x.s with
    |none=>
     rw[Option.getD_none];exact⟨_,_,rfl,λh=>absurd h (by simp),λ_=>key _ _ (if_pos rfl)⟩
    |some t=>
     rw[xX];refine⟨t,_,rfl,λ_=>⟨b1,by omega,b2,_,b3,(c261 h2).call ⟨_,rfl,λhb=>key _ _ ?_,λhb=>key _ _ ?_⟩⟩,λh=>absurd rfl h⟩;·rw[if_neg (Q.ne.some L),if_pos hb]
     ·rw[if_neg (Q.ne.some L),if_neg hb]
   ·obtain⟨b1,b2,b3⟩:=Y (by omega);obtain⟨c1,c2,c3⟩:=at1 (by omega);rw[if_neg K,if_pos o2];refine⟨b1,by omega,b2,_,b3,(c262 h2 hv).call ⟨_,_,rfl,λhb=>⟨c1,by omega,c2,_,c3,(c261 h2).call ⟨_,rfl,λhc=>key _ _ ?_,λhc=>key _ _ ?_⟩⟩,λhb=>key _ _ ?_⟩⟩;·simp_all
    ·simp_all
    omega
   ·grind[Au]
   ·grind[Au]
   ·have h5:=a5 o5;rw[if_neg K,if_neg o2,if_neg (by omega),if_pos o5];refine⟨λhn=>?_,λhn=>?_⟩;·grind[sE]
    ·have W:¬acc.length=0:=by omega
     obtain⟨b1,b2,b3⟩:=Y (by omega);rw[if_neg W];refine⟨λD=>key _ _ (by grind[sE]),λD=>⟨b1,by omega,b2,_,b3,(c261 h2).call ⟨_,rfl,λhb=>key _ _ ?_,λhb=>key _ _ ?_⟩⟩⟩;·grind[sE]
     simp_all
   omega
def placeT(r:Int×Int):Int:=if r.2=0 then 0 else r.1
def Dm(V:Mem)(b t:Nat)(a:Int)(V1:Mem):Prop:=(V.set b (cell (.int .i64 a) t)).sub V1
theorem Dm.st{b t:Nat}{a k:Int}{V1:Mem}(h:Dm V b t a V1):Dm V b t k (V1.set b (cell (.int .i64 k) t)):=λq o g=>by
 by_cases e:q=b;·grind[Mem.set_same]
 ·rw[Mem.set_ne e]at g⊢;exact h q o (by rw[Mem.set_ne e];exact g)
theorem Dm.call{b t:Nat}{a k:Int}{V1 V2:Mem}(h:Dm V b t a V1)(h2:Dm V1 b t k V2):Dm V b t k V2:=(Dm.st h).trans h2
theorem Dm.cell{b t:Nat}{a:Int}{V1:Mem}(h:Dm V b t a V1):V1 b=some (Sx.cell (.int .i64 a) t):=h _ _ Az
theorem Dm.base{V0:Mem}{b t:Nat}{a:Int}{V1:Mem}(h:Dm V b t a V1)(g:V0.sub V)(hb:V0 b=none):V0.sub V1:=(g.set hb _).trans h
theorem Dm.other{b t q:Nat}{a:Int}{V1:Mem}{o:Obj}(h:Dm V b t a V1)(g:V q=some o)(hn:q≠b):V1 q=some o:=h _ _ (by rw[Mem.set_ne hn];exact g)
def ImpS(V0:Mem)(d:Ds)(c:Option Addr)(m:Option Nat)(sc:Sc)(res:KB)(b t:Nat)(l:List S):Prop:=∀(V:Mem)(sl:Sl)(n z:Int),V0.sub V->V b=some (cell (.int .i64 n) t)->Ad V0 sl 5 (l.map S.row)->(∀x∈l,S.Ok V0 x)->CI z l=true->0<=n->n+CC l<=1000->
 Tri xE 185 #[sV c m sc,.slice sl.p sl.n sl.c,.string res,pv b] V λr V'=>r=.returned (.tuple #[.int .i64 (placeT (AL d sc res n l)),.int .i64 (AL d sc res n l).2])/\∃g,Dm V b t g V'/\((AL d sc res n l).2=0->g=(AL d sc res n l).1)
theorem impStep{V0:Mem}{b t:Nat}{res:KB}(hb:V0 b=none)(h:Ca V0 c d)(hv:EU d)(hs:Fk V0 m sc)(Q:sc.body=true){l:List S}(hk:∀x∈l,ImpS V0 d c m sc res b t x.ls/\ImpS V0 d c m sc res b t x.xs):ImpS V0 d c m sc res b t l:=by
 intro V sl n dd T U hr hok F hn0 hn1;refine x185 ?_;refine DN l.length (λi V1=>∃a,Dm V b t a V1/\0<=a/\a+CC (l.drop i)<=1000/\AL d sc res n l=AL d sc res a (l.drop i)) ⟨n,by grind[Dm,Mem.set_eq,Mem.sub.refl],hn0,hn1,rfl⟩ ?_;rintro i b' c' V1 J hi ⟨a,Z,ha0,ha1,Y⟩ hJ;have H:=Z.base T hb;have z:=Z.cell;have bad:∀{V2:Mem}(p e k:Int),Dm V b t k V2->e≠0->AL d sc res n l=(p,e)->(xG (.tuple #[.int .i64 p,.int .i64 e])=xG (.tuple #[.int .i64 (placeT (AL d sc res n l)),.int .i64 (AL d sc res n l).2])/\∃D,Dm V b t D V2/\((AL d sc res n l).2=0->D=(AL d sc res n l).1)):=λ{V2} p e k h1 h2 h3=>by
  rw[h3];unfold placeT;grind
 refine⟨λO=>?_,λhge=>?_⟩
 ·obtain⟨x,hm,hx,L,hl,hpp,hz,G⟩:=(hr.sub H).get O;have G:=S.row_get G;have N:=hok x hm;obtain⟨hsh,hk1,hk2⟩:=okS_shape (Mp F x hm);rw[L,Mq,szS_eq]at ha1;rw[L,KF,stT_eq]at Y;have hC:=Dm.st (k:=a+1) Z;have A:=hC.base T hb;have cs:=c229 (h.sub A) hv (hs.sub A) Q (N.sub A) hsh (res:=res);rw[S.v_eq]at cs;refine⟨hpp,hz,O,_,_,_,_,_,G,by simp,_,AG z,by simp,_,AG z,⟨by omega,by omega⟩,by simp,Ao.cell z (cs.call ⟨_,rfl,λh0=>?_,λh0=>?_⟩)⟩
  ·have e1:¬(Ed d sc res x.op x.s x.es≠0):=λh=>h h0;rw[if_neg e1]at Y;intro b1 hb1;have R:b1≠b:=λe=>by grind[Mem.set_same]
   have hC2:Dm V b t (a+1) _:=Mem.sub.new hC hb1 (.cells #[.slice x.ll.p x.ll.n x.ll.c,.slice x.xl.p x.xl.n x.xl.c] 74 (0,0));have r:=H3 d sc res (a+1) x.ls;refine DN 2 (λj V2=>∃k,Dm V b t k V2/\V2 b1=some (.cells #[.slice x.ll.p x.ll.n x.ll.c,.slice x.xl.p x.xl.n x.xl.c] 74 (0,0))/\((j=0/\k=a+1)∨(j=1/\(AL d sc res (a+1) x.ls).2=0/\k=(AL d sc res (a+1) x.ls).1)∨(j=2/\(AL d sc res (a+1) x.ls).2=0/\(AL d sc res (AL d sc res (a+1) x.ls).1 x.xs).2=0/\k=(AL d sc res (AL d sc res (a+1) x.ls).1 x.xs).1))) ⟨a+1,hC2,Mem.set_same _ _ _,.inl ⟨rfl,rfl⟩⟩ ?_;rintro j b'' c'' V2 J1 hj ⟨k,g,q,X⟩ B;have W:=g.base T hb;refine⟨λhj2=>?_,λhj2=>?_⟩
   ·rcases X with⟨rfl,rfl⟩|⟨rfl,o,rfl⟩|⟨rfl,-⟩
    ·refine⟨by simp[Aa],by omega,by omega,x.ll,An q 0 1 (by simp),Tri.mono ((hk x hm).1 V2 x.ll (a+1) (dd+1) W g.cell N.lRows N.lOk hk1 (by omega) (by omega)) ?_⟩;rintro _ V3 ⟨rfl,D,y,I⟩;refine⟨_,_,rfl,λh3=>?_,λh3=>?_⟩
     ·have:=I h3;subst this;exact⟨⟨by omega,by omega⟩,B (by omega) _ _ _ ⟨_,g.call y,y.other q R,.inr (.inl ⟨rfl,h3,rfl⟩)⟩⟩
     ·have M:(AL d sc res (a+1) x.ls).2≠0:=h3;rw[if_pos M,if_pos M]at Y;refine bad _ _ _ (g.call y) M ?_;grind
    ·have M:¬(AL d sc res (a+1) x.ls).2≠0:=λh=>h o;rw[if_neg M]at Y;have r:=r o;refine⟨by simp[Aa],by omega,by omega,x.xl,An q 1 1 (by simp),Tri.mono ((hk x hm).2 V2 x.xl _ (dd+1) W g.cell N.xRows N.xOk hk2 (by omega) (by omega)) ?_⟩;rintro _ V3 ⟨rfl,D,y,I⟩;refine⟨_,_,rfl,λh3=>?_,λh3=>?_⟩
     ·have:=I h3;subst this;exact⟨⟨by omega,by omega⟩,B (by omega) _ _ _ ⟨_,g.call y,y.other q R,.inr (.inr ⟨rfl,o,h3,rfl⟩)⟩⟩
     ·have K:(AL d sc res (AL d sc res (a+1) x.ls).1 x.xs).2≠0:=h3;rw[if_pos K]at Y;refine bad _ _ _ (g.call y) K ?_;grind
    ·omega
   ·rcases X with⟨rfl,-⟩|⟨rfl,-⟩|⟨rfl,o,C,rfl⟩;·omega
    ·omega
    ·have M:¬(AL d sc res (a+1) x.ls).2≠0:=λh=>h o;have K:¬(AL d sc res (AL d sc res (a+1) x.ls).1 x.xs).2≠0:=λh=>h C;rw[if_neg M,if_neg K]at Y;have r:=r o;have hn2':=H3 d sc res _ x.xs C;exact⟨(hr.sub H).succ O,hJ hl _ _ _ ⟨_,g,by omega,by omega,Y⟩⟩
  grind
 ·rw[((hr.sub H).done hge).1,stsT_nil]at Y;rw[Y];exact⟨rfl,a,Z,λ_=>rfl⟩
theorem impStmts{V0:Mem}{b t:Nat}{res:KB}(hb:V0 b=none)(h:Ca V0 c d)(hv:EU d)(z:Fk V0 m sc)(g:sc.body=true)(l:List S):ImpS V0 d c m sc res b t l:=by
 have y:∀s:S,ImpS V0 d c m sc res b t s.ls/\ImpS V0 d c m sc res b t s.xs:=by
  intro s;induction s using S.ind with
  |h s r q=>grind[impStep]
 grind[impStep]
theorem c219{b t:Nat}{f x:Fld}(hb:V b=some (.cells #[.string f.name,.string f.ty] t (0,0))):PP 219 [x.v,pv b] V (.bool (decide (x.name=f.name))):=by
 refine x219 ?_;exact⟨by simp,_,An hb 0 1 (by simp),rfl,rfl⟩
theorem c170(h:Ca V c d){l:Sl}{xs:List Fld}(hl:Ad V l 2 (xs.map Fld.row)):PP 170 [.pointer c,l.v] V (.int .i64 (CD d xs)):=by
 refine Bv.mk (x170 ?_);unfold CD;generalize hf:(λi f=>if BT d xs i f≠0 then some (BT d xs i f)else none)=fn;refine AU xs.length (λk V1=>V.sub V1/\Ar fn 0 xs=Ar fn k (xs.drop k)) ⟨Mem.sub.refl _,rfl⟩ ?_;rintro k b V1 J hi ⟨Z,ha⟩ Y;have z:=hl.sub Z;refine⟨λhk=>?_,λhk=>?_⟩
 ·obtain⟨g,W,Q,q,o,H,G,y⟩:=z.get hk;rw[q]at ha;have hc:=z.cap;refine⟨H,G,hk,_,_,y,⟨by omega,by omega,by omega⟩,λb1 N=>?_⟩;have O:=Mem.sub_new N (.cells #[.string g.name,.string g.ty] 112 (0,0));have r:=Z.trans O;simp only[Hr,sub0];have key:∀X n:Int,X=n->(xG (.int .i64 n)=xG (.int .i64 X)/\V.sub (V1.set b1 (.cells #[.string g.name,.string g.ty] 112 (0,0)))):=λX n h=>by simp_all
  refine(JD (l:=⟨l.p,k,l.c⟩) (first:=[]) (caps:=[pv b1]) (Ad.pre (hl.sub r) (by omega)) Tryz.call219 (λx=>decide (x.name=g.name)) (λx _=>c219 (f:=g) Az)).call ⟨_,rfl,λh1=>?_,λh1=>⟨by simp[Aa],_,An Az 1 1 (by simp),(c173 (h.sub r)).call ⟨_,rfl,λh2=>?_,λh2=>?_⟩⟩⟩
  ·have e:BT d xs k g=10:=by grind[BT]
   rw[ha,BB (b:=10) (by grind)];grind
  ·have e:BT d xs k g=0:=by grind[BT]
   exact⟨z.succ hk,Y o _ _ ⟨r,by rw[ha,BY (by grind)]⟩⟩
  ·have e:BT d xs k g=9:=by grind[BT]
   rw[ha,BB (b:=9) (by grind)];grind
 ·rw[(z.done hk).1,Ar]at ha;simp_all
def FltAt(V:Mem)(p:Option Addr)(o:Option Flt):Prop:=match o with
 |none=>p=none
 |some r=>∃b t,p=some ⟨b,0,none⟩/\V b=some (.cells #[.string r.1,.int .i64 r.2.1,.int .i64 r.2.2] t (0,0))
def FltC(f:FuncId)(args:List Value)(V:Mem)(o:Option Flt):Prop:=Tri xE f args.toArray V λr V'=>∃p,r=.returned (.pointer p)/\V.sub V'/\FltAt V' p o
theorem c187(h:Ca V c d)(hv:EU d)(y:Fk V m sc){e:E}(l:E.Ok V e)(z:Cz 1 e=true){s t:KB}:
  FltC 187 [sV c m sc,.string s,e.v,.string t] V (if BF d sc e t≠0 then some (s,-1,BF d sc e t)else none):=by
 refine x187 ?_;unfold BF;refine(impExpr h hv y e l 1 z V (Mem.sub.refl _)).call ⟨_,_,rfl,λg=>⟨λh1=>?_,λh1=>λb hb=>?_⟩,λg=>λb hb=>?_⟩;·simp only[g,h1,ne_eq,not_true_eq_false,if_false,if_true];exact⟨_,rfl,Mem.sub.refl _,rfl⟩
 ·simp only[g,h1,ne_eq,not_true_eq_false,if_false];exact⟨_,rfl,Mem.sub_new hb _,b,_,rfl,Mem.set_same _ _ _⟩
 ·simp only[g,ne_eq,not_false_eq_true,if_true];exact⟨_,rfl,Mem.sub_new hb _,b,_,rfl,Mem.set_same _ _ _⟩
end
def Hs:Prop:=∀(V:Mem)(c:Option Addr)(d:Ds)(body:Bool)(l:Sl)(ls:List (Sl×List Fld)),Ca V c d->Ad V l 1 (ls.map λx=>[x.1.v])->(∀x∈ls,Ad V x.1 2 (x.2.map Fld.row))->
 Tri xE 228 #[.pointer c,.bool body,.slice l.p l.n l.c] V λr V'=>∃mb,r=.returned (.agg #[.pointer c,.map (some mb),.bool body])/\V.sub V'/\V mb=none/\By V' mb (λk=>(Cr (ls.flatMap (·.2)++d.globals) k).map Value.string)
def NewC:Prop:=∀(V:Mem)(d:Ds),Ds.Ok V d->Tri xE 73 #[d.v] V λr V'=>∃c,r=.returned (.pointer c)/\V.sub V'/\Ca V' c d
section
variable{V:Mem}{d:Ds}{c:Option Addr}
theorem KK{a b:List Fld}(h:NE a)(k:NE b):NE (a++b):=λf hf=>by
 rcases List.mem_append.1 hf with g|g;·exact h f g
 ·exact k f g
theorem impInProc(l:Hs)(h:Ca V c d)(hv:EU d){p:Pr}(hm:p∈d.procs)(z:Pr.Ok V p):Tri xE 184 #[.pointer c,p.v] V λr V'=>∃m,r=.returned (sV c m (Av d p))/\V.sub V'/\Fk V' m (Av d p):=by
 refine x184 ?_;intro b hb;have g:=Mem.sub_new hb (.cells #[.slice p.ps.p p.ps.n p.ps.c,.slice p.ls.p p.ls.n p.ls.c] 28 (0,0));refine Tri.mono (l _ c d true ⟨some ⟨b,0,none⟩,2,2⟩ [(p.ps,p.params),(p.ls,p.locals)] (h.sub g) (Ad.cells (xs:=[(p.ps,p.params),(p.ls,p.locals)]) (row:=λx=>[x.1.v]) Az rfl (λ_=>rfl) rfl (by simp)) ?_) ?_
 ·intro x y;simp only[yC,xC,or_false]at y;rcases y with rfl|rfl;·exact z.params.sub g
  ·exact z.locals.sub g
 ·rintro _ V' ⟨mb,rfl,h1,h2,h3⟩;refine⟨_,_,_,rfl,some mb,rfl,g.trans h1,⟨mb,rfl,h3.congr λk=>?_⟩,KK (KK (hv.params p hm).1 (hv.params p hm).2) hv.globals⟩;simp[Av]
theorem impInBound(y:Hs)(h:Ca V c d)(hv:EU d){p:Pr}(hm:p∈d.procs)(l:Pr.Ok V p):Tri xE 188 #[.pointer c,p.v] V λr V'=>∃m,r=.returned (sV c m (EG d p))/\V.sub V'/\Fk V' m (EG d p):=by
 refine x188 ?_;intro b hb;have g:=Mem.sub_new hb (.cells #[.slice p.ps.p p.ps.n p.ps.c] 28 (0,0));refine Tri.mono (y _ c d false ⟨some ⟨b,0,none⟩,1,1⟩ [(p.ps,p.params)] (h.sub g) (Ad.cells (xs:=[(p.ps,p.params)]) (row:=λx=>[x.1.v]) Az rfl (λ_=>rfl) rfl (by simp)) ?_) ?_
 ·intro x z;simp only[yC,xC,or_false]at z;rcases z with rfl;exact l.params.sub g
 ·rintro _ V' ⟨mb,rfl,h1,h2,h3⟩;refine⟨_,_,_,rfl,some mb,rfl,g.trans h1,⟨mb,rfl,h3.congr λk=>?_⟩,KK (hv.params p hm).1 hv.globals⟩;simp[EG]
theorem Mx(z:Hs)(h:Ca V c d)(hv:EU d){t:KB}:Tri xE 186 #[.pointer c,.string t] V λr V'=>∃m,r=.returned (sV c m (BK d t))/\V.sub V'/\Fk V' m (BK d t):=by
 refine x186 ?_;refine Tri.mono (z V c d false ⟨none,0,0⟩ [] h Ad.nil (by simp)) ?_;rintro _ V' ⟨mb,rfl,h1,h2,h3⟩;refine⟨_,_,_,rfl,λg=>?_,λg=>?_⟩
 ·refine⟨some mb,rfl,h1,⟨mb,rfl,h3.congr λk=>?_⟩,?_⟩;·grind[BK,sE]
  ·unfold BK sE;rw[if_pos g];exact hv.globals
 ·refine C3.str xy xz h3 λo y=>?_;refine⟨some mb,rfl,h1.set h2 _,⟨mb,rfl,y.congr λk=>?_⟩,?_⟩
  ·unfold BK sE;rw[if_neg g];unfold Cr;simp only[List.flatMap_nil,List.nil_append,List.cons_append,xx];rw[show(⟨#[116,104,105,115]⟩:KB)=sThisF from rfl];grind
  ·unfold BK sE;rw[if_neg g];refine KK (λf hf=>?_) hv.globals;simp only[yC,xC,or_false]at hf;subst hf;exact g
theorem EH{V1:Mem}{X:Option Flt}{s:KB}{n e:Int}(g:X=some (s,n,e))(h:V.sub V1):Ag [(.string s),(.int .i64 n),(.int .i64 e)] 162 V1 λz V2=>(∃p,xG (.pointer (Aa z 0))=.returned (.pointer p)/\V.sub V2/\FltAt V2 p X):=λb hb=>by
 subst g;exact⟨some ⟨b,0,none⟩,rfl,h.trans (Mem.sub_new hb _),b,_,rfl,Mem.set_same _ _ _⟩
theorem oneT_cases(d:Ds)(l:List Fld)(i:Nat)(f:Fld):((l.take i).any (λg=>decide (g.name=f.name))=true/\BT d l i f=10)∨(¬(l.take i).any (λg=>decide (g.name=f.name))=true/\Bq d f.ty=true/\BT d l i f=0)∨(¬(l.take i).any (λg=>decide (g.name=f.name))=true/\¬Bq d f.ty=true/\BT d l i f=9):=by
 grind[BT,Bq,inr]
theorem impTypes(h:Ca V c d):FltC 117 [.pointer c] V (FY d):=by
 refine x117 ?_;unfold FY;refine⟨h.nn,h.nn,Ak h.nn,d.ts,h.cell (i:=1) rfl,?_⟩;unfold types1;generalize N:(λi (t:Ty)=>if(d.types.take i).any (λg=>decide (g.name=t.name))=true then some ((t.name,-1,10):Flt)else none)=F1;refine AU d.types.length (λk V1=>V=V1/\Ar F1 0 d.types=Ar F1 k (d.types.drop k)) ⟨rfl,rfl⟩ ?_;rintro k b V1 J hi ⟨rfl,ha⟩ l;have r:=Mem.sub.refl V;refine⟨λhk=>?_,λhk=>?_⟩
 ·obtain⟨g,hm,H,y,hl,q,o,z⟩:=h.ok.types.get hk;rw[y]at ha;refine⟨q,o,hk,_,_,z,h.nn,h.nn,Ak h.nn,d.ts,h.cell (i:=1) rfl,(c168 h.ok.types H).call ⟨_,rfl,λh1=>EH ?_ r,λh1=>⟨h.ok.types.succ hk,l hl _ _ ⟨rfl,?_⟩⟩⟩⟩;·rw[ha,BB (b:=(g.name,-1,10)) (by grind)];rfl
  ·rw[ha,BY (by grind)]
 rw[(h.ok.types.done hk).1,Ar]at ha;rw[ha,xW];refine⟨h.nn,h.nn,Ak h.nn,d.ts,h.cell (i:=1) rfl,?_⟩;unfold types2;generalize Z:(λ(_:Nat) (t:Ty)=>if CD d t.fields≠0 then some ((t.name,-1,CD d t.fields):Flt)else none)=F2;refine AU d.types.length (λk V1=>V=V1/\Ar F2 0 d.types=Ar F2 k (d.types.drop k)) ⟨rfl,rfl⟩ ?_;rintro k b V1 J hi ⟨rfl,ha⟩ l;refine⟨λhk=>?_,λhk=>?_⟩
 ·obtain⟨g,hm,H,y,hl,q,o,z⟩:=h.ok.types.get hk;rw[y]at ha;refine⟨q,o,hk,_,_,z,(c170 h (h.ok.typesOk g hm).fields).call ⟨_,rfl,λh1=>⟨h.ok.types.succ hk,l hl _ _ ⟨rfl,?_⟩⟩,λh1=>EH ?_ r⟩⟩;·rw[ha,BY (by grind)]
  ·rw[ha,BB (b:=(g.name,-1,CD d g.fields)) (by grind)];rfl
 rw[(h.ok.types.done hk).1,Ar]at ha;rw[ha,xW];refine⟨h.nn,h.nn,Ak h.nn,d.gs,h.cell (i:=2) rfl,?_⟩;unfold types3;generalize Y:(λi (f:Fld)=>if BT d d.globals i f≠0 then some ((f.name,-1,BT d d.globals i f):Flt)else none)=F3;refine AU d.globals.length (λk V1=>V=V1/\Ar F3 0 d.globals=Ar F3 k (d.globals.drop k)) ⟨rfl,rfl⟩ ?_;rintro k b V1 J hi ⟨rfl,ha⟩ l;refine⟨λhk=>?_,λhk=>?_⟩
 ·obtain⟨g,hm,H,y,hl,q,o,z⟩:=h.ok.globals.get hk;rw[y]at ha;have G:=oneT_cases d d.globals k g;refine⟨q,o,hk,_,_,z,h.nn,h.nn,Ak h.nn,d.gs,h.cell (i:=2) rfl,(c171 h.ok.globals H).call ⟨_,rfl,λh1=>EH ?_ r,λh1=>(c173 h).call ⟨_,rfl,λh2=>⟨h.ok.globals.succ hk,l hl _ _ ⟨rfl,?_⟩⟩,λh2=>EH ?_ r⟩⟩⟩
  ·rcases G with⟨_,e⟩|⟨p,_⟩|⟨p,_⟩;·rw[ha,BB (b:=(g.name,-1,10)) (by grind)]
   ·grind
   simp_all
  ·rcases G with⟨p,_⟩|⟨_,_,e⟩|⟨_,p,_⟩;·grind
   ·rw[ha,BY (by grind)]
   simp_all
  ·rcases G with⟨p,_⟩|⟨_,p,_⟩|⟨_,_,e⟩;·grind
   ·grind
   ·rw[ha,BB (b:=(g.name,-1,9)) (by grind)]
 rw[(h.ok.globals.done hk).1,Ar]at ha;rw[ha];exact⟨none,rfl,r,rfl⟩
theorem impHeads(h:Ca V c d)(G:Small d):FltC 118 [.pointer c] V (Fi d):=by
 refine x118 ?_;unfold Fi;refine⟨h.nn,h.nn,Ak h.nn,d.ps,h.cell (i:=3) rfl,?_⟩;generalize r:(λi (p:Pr)=>if(d.procs.take i).any (λg=>decide (g.name=p.name))=true then some ((p.name,-1,10):Flt)else if CD d (p.params++p.locals)≠0 then some (p.name,-1,CD d (p.params++p.locals))else if p.result≠sE/\Bq d p.result=false then some (p.name,-1,9)else none)=F1;refine AU d.procs.length (λk V1=>V.sub V1/\Ar F1 0 d.procs=Ar F1 k (d.procs.drop k)) ⟨Mem.sub.refl _,rfl⟩ ?_;rintro k b V1 J hi ⟨o,ha⟩ A;have h1:=h.sub o;refine⟨λhk=>?_,λhk=>?_⟩
 ·obtain⟨g,hm,H,N,hl,F,L,q⟩:=h1.ok.procs.get hk;rw[N]at ha;have I:=h1.ok.procsOk g hm;have R:=G.2 g hm;refine⟨F,L,hk,_,_,_,_,_,q,h.nn,h.nn,Ak h.nn,d.ps,h1.cell (i:=3) rfl,(c174 h1.ok.procs H).call ⟨_,rfl,λZ=>EH ?_ o,λZ=>?_⟩⟩;·rw[ha,BB (b:=(g.name,-1,10)) (by grind)]
  intro b1 Y;have W:=Mem.sub_new Y (.cells #[.slice g.ps.p g.ps.n g.ps.c,.slice g.ls.p g.ls.n g.ls.c] 28 (0,0));refine Tri.mono (concatF (l:=⟨some ⟨b1,0,none⟩,2,2⟩) (ls:=[(g.ps,g.params),(g.ls,g.locals)]) (Ad.cells (xs:=[(g.ps,g.params),(g.ls,g.locals)]) (row:=λx=>[x.1.v]) Az rfl (λ_=>rfl) rfl (by simp)) ?_ (by simp) ?_) ?_
  ·intro x H;simp only[yC,xC,or_false]at H;rcases H with rfl|rfl;·exact I.params.sub W
   ·exact I.locals.sub W
  ·simp_all
  rintro _ V2 ⟨s',rfl,Q,y⟩;have z:=o.trans (W.trans Q);have O:([(g.ps,g.params),(g.ls,g.locals)]:List (Sl×List Fld)).flatMap (·.2)=g.params++g.locals:=by simp
  rw[O]at y;refine⟨s',rfl,(c170 (h.sub z) y).call ⟨_,rfl,λh2=>?_,λh2=>EH ?_ z⟩⟩
  ·have M:¬(CD d (g.params++g.locals)≠0):=λe=>e h2;refine⟨λh3=>⟨h1.ok.procs.succ hk,A hl _ _ ⟨z,?_⟩⟩,λh3=>(c173 (h.sub z)).call ⟨_,rfl,λh4=>⟨h1.ok.procs.succ hk,A hl _ _ ⟨z,?_⟩⟩,λh4=>EH ?_ z⟩⟩;·rw[ha,BY (by rw[<-r];exact(if_neg Z).trans ((if_neg M).trans (if_neg λe=>e.1 h3)))]
   ·rw[ha,BY (by grind)]
   ·rw[ha,BB (b:=(g.name,-1,9)) (by rw[<-r];exact(if_neg Z).trans ((if_neg M).trans (if_pos ⟨h3,eq_false_of_ne_true h4⟩)))]
  ·rw[ha,BB (b:=(g.name,-1,CD d (g.params++g.locals))) (by grind)]
 rw[(h1.ok.procs.done hk).1,Ar]at ha;rw[ha];exact⟨none,rfl,o,rfl⟩
end
section
variable{V:Mem}{d:Ds}{c:Option Addr}
theorem impForm(h:Ca V c d):FltC 119 [.pointer c] V (DW d):=by
 refine x119 ?_;unfold DW;have r:=Mem.sub.refl V;refine⟨h.nn,h.nn,Ak h.nn,d.ms,h.cell (i:=4) rfl,?_⟩;unfold form1;generalize Y:(λi (m:Ms)=>if(d.measures.take i).any (λg=>decide (g.name=m.name))=true then some ((m.name,-1,10):Flt)else if Ci d m.ty=false then some (m.name,-1,9)else none)=F1;refine AU d.measures.length (λk V1=>V=V1/\Ar F1 0 d.measures=Ar F1 k (d.measures.drop k)) ⟨rfl,rfl⟩ ?_;rintro k b V1 J hi ⟨rfl,ha⟩ l;refine⟨λhk=>?_,λhk=>?_⟩
 ·obtain⟨g,hm,H,y,hl,q,o,z⟩:=h.ok.measures.get hk;rw[y]at ha;refine⟨q,o,hk,_,_,_,_,_,_,_,z,h.nn,h.nn,Ak h.nn,d.ms,h.cell (i:=4) rfl,(c177 h.ok.measures H).call ⟨_,rfl,λh1=>EH ?_ r,λh1=>(c179 h).call ⟨_,rfl,λh2=>⟨h.ok.measures.succ hk,l hl _ _ ⟨rfl,?_⟩⟩,λh2=>EH ?_ r⟩⟩⟩;·rw[ha,BB (b:=(g.name,-1,10)) (by grind)];rfl
  ·rw[ha,BY (by grind)]
  ·rw[ha,BB (b:=(g.name,-1,9)) (by grind)];rfl
 rw[(h.ok.measures.done hk).1,Ar]at ha;rw[ha,xW];refine⟨h.nn,h.nn,Ak h.nn,d.is,h.cell (i:=5) rfl,?_⟩;unfold form2;generalize G:(λi (m:Iv)=>if(d.invs.take i).any (λg=>decide (g.name=m.name))=true then some ((m.name,-1,10):Flt)else if m.ty≠sE/\Ci d m.ty=false then some (m.name,-1,9)else none)=F2;refine AU d.invs.length (λk V1=>V=V1/\Ar F2 0 d.invs=Ar F2 k (d.invs.drop k)) ⟨rfl,rfl⟩ ?_;rintro k b V1 J hi ⟨rfl,ha⟩ l;refine⟨λhk=>?_,λhk=>?_⟩
 ·obtain⟨g,hm,H,y,hl,q,o,z⟩:=h.ok.invs.get hk;rw[y]at ha;refine⟨q,o,hk,_,_,_,_,_,_,z,h.nn,h.nn,Ak h.nn,d.is,h.cell (i:=5) rfl,(c180 h.ok.invs H).call ⟨_,rfl,λh1=>EH ?_ r,λh1=>⟨λh3=>⟨h.ok.invs.succ hk,l hl _ _ ⟨rfl,?_⟩⟩,λh3=>(c179 h).call ⟨_,rfl,λh2=>⟨h.ok.invs.succ hk,l hl _ _ ⟨rfl,?_⟩⟩,λh2=>EH ?_ r⟩⟩⟩⟩;·rw[ha,BB (b:=(g.name,-1,10)) (by grind)];rfl
  ·rw[ha,BY (by rw[<-G];exact(if_neg h1).trans (if_neg λe=>e.1 h3))]
  ·rw[ha,BY (by grind)]
  ·rw[ha,BB (b:=(g.name,-1,9)) (by rw[<-G];exact(if_neg h1).trans (if_pos ⟨h3,eq_false_of_ne_true h2⟩))];rfl
 rw[(h.ok.invs.done hk).1,Ar]at ha;rw[ha,xW];refine⟨h.nn,h.nn,Ak h.nn,d.qs,h.cell (i:=6) rfl,?_⟩;unfold form3;generalize N:(λ(_:Nat) (m:Po)=>if m.ty≠sE/\Ci d m.ty=false then some ((sPot,-1,9):Flt)else none)=F3;refine AU d.pots.length (λk V1=>V=V1/\Ar F3 0 d.pots=Ar F3 k (d.pots.drop k)) ⟨rfl,rfl⟩ ?_;rintro k b V1 J hi ⟨rfl,ha⟩ l;refine⟨λhk=>?_,λhk=>?_⟩
 ·obtain⟨g,hm,H,y,hl,q,o,z⟩:=h.ok.pots.get hk;rw[y]at ha;refine⟨q,o,hk,_,_,_,_,_,z,λh3=>⟨h.ok.pots.succ hk,l hl _ _ ⟨rfl,?_⟩⟩,λh3=>(c179 h).call ⟨_,rfl,λh2=>⟨h.ok.pots.succ hk,l hl _ _ ⟨rfl,?_⟩⟩,λh2=>EH ?_ r⟩⟩;·rw[ha,BY (by rw[<-N];exact if_neg λe=>e.1 h3)]
  ·rw[ha,BY (by grind)]
  ·rw[ha,BB (b:=(sPot,-1,9)) (by rw[<-N];exact if_pos ⟨h3,eq_false_of_ne_true h2⟩)];rfl
 rw[(h.ok.pots.done hk).1,Ar]at ha;rw[ha,xW];refine⟨h.nn,h.nn,Ak h.nn,d.bs,h.cell (i:=7) rfl,?_⟩;unfold form4;generalize W:(λi (b:Bd)=>if(Cj d b.proc).isNone=true then some ((b.proc,-1,9):Flt)else if(d.bounds.take i).any (λg=>decide (g.proc=b.proc))=true then some (b.proc,-1,10)else none)=F4;refine AU d.bounds.length (λk V1=>V=V1/\Ar F4 0 d.bounds=Ar F4 k (d.bounds.drop k)) ⟨rfl,rfl⟩ ?_;rintro k b V1 J hi ⟨rfl,ha⟩ l;refine⟨λhk=>?_,λhk=>?_⟩
 ·obtain⟨g,hm,H,y,hl,q,o,z⟩:=h.ok.bounds.get hk;rw[y]at ha;obtain⟨mt,Q,O⟩:=h.procs;refine⟨q,o,hk,_,_,_,_,_,z,h.nn,h.nn,_,Q,BJ.str xw xz zero76 O ?_⟩;cases Z:Cj d g.proc with
  |none=>
   refine⟨_,⟨none,0,0⟩,_,⟨none,0,0⟩,⟨none,0,0⟩,_,rfl,λh=>absurd h (by simp),λ_=>EH ?_ r⟩;rw[ha,BB (b:=(g.proc,-1,9)) (by grind)]
  |some p=>
   have A:¬(Cj d g.proc).isNone=true:=by rw[Z];simp
   refine⟨_,p.ps,_,p.ls,p.bs,_,rfl,λ_=>⟨h.nn,h.nn,Ak h.nn,d.bs,h.cell (i:=7) rfl,(c182 h.ok.bounds H).call ⟨_,rfl,λh1=>EH ?_ r,λh1=>⟨h.ok.bounds.succ hk,l hl _ _ ⟨rfl,?_⟩⟩⟩⟩,λh=>absurd rfl h⟩;·rw[ha,BB (b:=(g.proc,-1,10)) (by grind)]
   ·rw[ha,BY (by grind)]
 rw[(h.ok.bounds.done hk).1,Ar]at ha;rw[ha];exact⟨none,rfl,r,rfl⟩
theorem impBodies(Q:Hs)(h:Ca V c d)(hv:EU d)(O:IT d):FltC 120 [.pointer c] V (E4 d):=by
 refine x120 ?_;unfold E4;refine⟨h.nn,h.nn,Ak h.nn,d.ps,h.cell (i:=3) rfl,?_⟩;generalize A:(λ(_:Nat) (p:Pr)=>if(AL d (Av d p) p.result 0 p.body).2≠0 then some ((p.name,(AL d (Av d p) p.result 0 p.body).1,(AL d (Av d p) p.result 0 p.body).2):Flt)else none)=F1;refine AU d.procs.length (λk V1=>V.sub V1/\Ar F1 0 d.procs=Ar F1 k (d.procs.drop k)) ⟨Mem.sub.refl _,rfl⟩ ?_;rintro k b V1 J hi ⟨q,ha⟩ I;have h1:=h.sub q;refine⟨λhk=>?_,λhk=>?_⟩
 ·obtain⟨g,hm,L,o,hl,H,M,l⟩:=h1.ok.procs.get hk;rw[o]at ha;have G:=h1.ok.procsOk g hm;refine⟨H,M,hk,_,_,_,_,_,l,Tri.mono (impInProc Q h1 hv hm G) ?_⟩;rintro _ V2 ⟨m,rfl,z,N⟩;refine⟨_,_,_,rfl,λb1 y=>?_⟩;obtain⟨Z,F⟩:=O.ps g hm;have W:=Mem.sub_new y (cell (.int .i64 0) 3);refine Tri.mono (impStmts y (h1.sub z) hv N rfl g.body _ g.bs 0 1 W Az (G.sub z).body (G.sub z).stmts Z (by omega) (by omega)) ?_;rintro _ R ⟨rfl,X,Y,-⟩;have r:=q.trans (z.trans (Y.base W y));refine⟨_,_,rfl,λh2=>⟨h1.ok.procs.succ hk,I hl _ _ ⟨r,?_⟩⟩,λh2=>EH ?_ r⟩;·rw[ha,BY (by grind)]
  ·have:placeT (AL d (Av d g) g.result 0 g.body)=(AL d (Av d g) g.result 0 g.body).1:=if_neg h2;rw[this,ha,BB (b:=(g.name,(AL d (Av d g) g.result 0 g.body).1,(AL d (Av d g) g.result 0 g.body).2)) (by grind)]
 rw[(h1.ok.procs.done hk).1,Ar]at ha;rw[ha];exact⟨none,rfl,q,rfl⟩
theorem FF{V1:Mem}{X:Option Flt}(h:FltAt V1 none X):X=none:=by
 cases X with
 |none=>rfl
 |some r=>obtain⟨b,t,h1,_⟩:=h;cases h1
theorem IW{V1:Mem}{X:Option Flt}{p:Option Addr}(h:FltAt V1 p X)(g:¬p=none):∃r,X=some r:=by
 cases X with
 |none=>exact absurd h g
 |some r=>grind
theorem impExps(M:Hs)(h:Ca V c d)(hv:EU d)(F:IT d)(O:DW d=none):FltC 121 [.pointer c] V (E5 d):=by
 refine x121 ?_;unfold E5;refine⟨h.nn,h.nn,Ak h.nn,d.ms,h.cell (i:=4) rfl,?_⟩;unfold exp1;generalize L:(λ(_:Nat) (m:Ms)=>if BF d (BK d m.ty) m.x Ai≠0 then some ((m.name,-1,BF d (BK d m.ty) m.x Ai):Flt)else none)=F1;refine AU d.measures.length (λk V1=>V.sub V1/\Ar F1 0 d.measures=Ar F1 k (d.measures.drop k)) ⟨Mem.sub.refl _,rfl⟩ ?_;rintro k b V1 J hi ⟨H,ha⟩ A;have h1:=h.sub H;refine⟨λhk=>?_,λhk=>?_⟩
 ·obtain⟨g,hm,R,G,hl,N,I,l⟩:=h1.ok.measures.get hk;rw[G]at ha;refine⟨N,I,hk,_,_,_,_,_,_,_,l,Tri.mono (Mx M h1 hv) ?_⟩;rintro _ V2 ⟨m,rfl,y,Z⟩;refine⟨_,_,_,rfl,Tri.mono (c187 (e:=g.x) (h1.sub y) hv Z ((h1.sub y).ok.measuresOk g hm).x (F.ms g hm)) ?_⟩;rintro _ X ⟨p,rfl,Y,z⟩;have o:=H.trans (y.trans Y);have W:(if BF d (BK d g.ty) g.x Ai≠0 then some ((g.name,-1,BF d (BK d g.ty) g.x Ai):Flt)else none)=F1 k g:=by rw[<-L]
  rw[show Ac [105,110,116]=Ai from rfl]at z;rw[W]at z;refine⟨_,rfl,λhn=>?_,λhn=>?_⟩
  ·subst hn;exact⟨h1.ok.measures.succ hk,A hl _ _ ⟨o,by rw[ha,BY (FF z)]⟩⟩
  ·obtain⟨r,Q⟩:=IW z hn;rw[ha,BB Q];rw[Q]at z;exact⟨p,rfl,o,z⟩
 rw[(h1.ok.measures.done hk).1,Ar]at ha;rw[ha,xW];refine⟨h.nn,h.nn,Ak h.nn,d.is,h1.cell (i:=5) rfl,?_⟩;unfold exp2;generalize B:(λ(_:Nat) (m:Iv)=>if BF d (BK d m.ty) m.x Au≠0 then some ((m.name,-1,BF d (BK d m.ty) m.x Au):Flt)else none)=F2;refine AU d.invs.length (λk V1=>V.sub V1/\Ar F2 0 d.invs=Ar F2 k (d.invs.drop k)) ⟨H,rfl⟩ ?_;rintro k b V1 J hi ⟨H,ha⟩ A;have h1:=h.sub H;refine⟨λhk=>?_,λhk=>?_⟩
 ·obtain⟨g,hm,R,G,hl,N,I,l⟩:=h1.ok.invs.get hk;rw[G]at ha;refine⟨N,I,hk,_,_,_,_,_,_,l,Tri.mono (Mx M h1 hv) ?_⟩;rintro _ V2 ⟨m,rfl,y,Z⟩;refine⟨_,_,_,rfl,Tri.mono (c187 (e:=g.x) (h1.sub y) hv Z ((h1.sub y).ok.invsOk g hm) (F.is g hm)) ?_⟩;rintro _ X ⟨p,rfl,Y,z⟩;have o:=H.trans (y.trans Y);have W:(if BF d (BK d g.ty) g.x Au≠0 then some ((g.name,-1,BF d (BK d g.ty) g.x Au):Flt)else none)=F2 k g:=by rw[<-B]
  rw[show Ac [98,111,111,108]=Au from rfl]at z;rw[W]at z;refine⟨_,rfl,λhn=>?_,λhn=>?_⟩
  ·subst hn;exact⟨h1.ok.invs.succ hk,A hl _ _ ⟨o,by rw[ha,BY (FF z)]⟩⟩
  ·obtain⟨r,Q⟩:=IW z hn;rw[ha,BB Q];rw[Q]at z;exact⟨p,rfl,o,z⟩
 rw[(h1.ok.invs.done hk).1,Ar]at ha;rw[ha,xW];refine⟨h.nn,h.nn,Ak h.nn,d.qs,h1.cell (i:=6) rfl,?_⟩;unfold exp3;generalize C:(λ(_:Nat) (m:Po)=>if BF d (BK d m.ty) m.x Ai≠0 then some ((sPot,-1,BF d (BK d m.ty) m.x Ai):Flt)else none)=F3;refine AU d.pots.length (λk V1=>V.sub V1/\Ar F3 0 d.pots=Ar F3 k (d.pots.drop k)) ⟨H,rfl⟩ ?_;rintro k b V1 J hi ⟨H,ha⟩ A;have h1:=h.sub H;refine⟨λhk=>?_,λhk=>?_⟩
 ·obtain⟨g,hm,R,G,hl,N,I,l⟩:=h1.ok.pots.get hk;rw[G]at ha;refine⟨N,I,hk,_,_,_,_,_,l,Tri.mono (Mx M h1 hv) ?_⟩;rintro _ V2 ⟨m,rfl,y,Z⟩;refine⟨_,_,_,rfl,Tri.mono (c187 (e:=g.x) (h1.sub y) hv Z ((h1.sub y).ok.potsOk g hm) (F.qs g hm)) ?_⟩;rintro _ X ⟨p,rfl,Y,z⟩;have o:=H.trans (y.trans Y);have W:(if BF d (BK d g.ty) g.x Ai≠0 then some ((sPot,-1,BF d (BK d g.ty) g.x Ai):Flt)else none)=F3 k g:=by rw[<-C]
  rw[show Ac [105,110,116]=Ai from rfl,show Ac [112,111,116,101,110,116,105,97,108]=sPot from rfl]at z;rw[W]at z;refine⟨_,rfl,λhn=>?_,λhn=>?_⟩
  ·subst hn;exact⟨h1.ok.pots.succ hk,A hl _ _ ⟨o,by rw[ha,BY (FF z)]⟩⟩
  ·obtain⟨r,Q⟩:=IW z hn;rw[ha,BB Q];rw[Q]at z;exact⟨p,rfl,o,z⟩
 rw[(h1.ok.pots.done hk).1,Ar]at ha;rw[ha,xW];refine⟨h.nn,h.nn,Ak h.nn,d.bs,h1.cell (i:=7) rfl,?_⟩;have D:=Og O;unfold exp4;generalize S:(λ(_:Nat) (m:Bd)=>if BF d (EG d ((Cj d m.proc).getD HW)) m.x Ai≠0 then some ((m.proc,-1,BF d (EG d ((Cj d m.proc).getD HW)) m.x Ai):Flt)else none)=F4;refine AU d.bounds.length (λk V1=>V.sub V1/\Ar F4 0 d.bounds=Ar F4 k (d.bounds.drop k)) ⟨H,rfl⟩ ?_;rintro k b V1 J hi ⟨H,ha⟩ A;have h1:=h.sub H;refine⟨λhk=>?_,λhk=>?_⟩
 ·obtain⟨g,hm,R,G,hl,N,I,l⟩:=h1.ok.bounds.get hk;rw[G]at ha;obtain⟨q,K⟩:=D g hm;obtain⟨mt,T,U⟩:=h1.procs;refine⟨N,I,hk,_,_,_,_,_,l,h.nn,h.nn,_,T,BJ.str1 xw xz zero76 U ?_⟩;rw[K];refine⟨_,q.ps,_,q.ls,q.bs,rfl,Tri.mono (impInBound M h1 hv (Mw K) (h1.ok.procsOk q (Mw K))) ?_⟩;rintro _ V2 ⟨m,rfl,y,Z⟩;refine⟨_,_,_,rfl,Tri.mono (c187 (e:=g.x) (h1.sub y) hv Z ((h1.sub y).ok.boundsOk g hm) (F.bs g hm)) ?_⟩;rintro _ X ⟨p,rfl,Y,z⟩;have o:=H.trans (y.trans Y);have W:(if BF d (EG d q) g.x Ai≠0 then some ((g.proc,-1,BF d (EG d q) g.x Ai):Flt)else none)=F4 k g:=by grind
  rw[show Ac [105,110,116]=Ai from rfl]at z;rw[W]at z;refine⟨_,rfl,λhn=>?_,λhn=>?_⟩
  ·subst hn;exact⟨h1.ok.bounds.succ hk,A hl _ _ ⟨o,by rw[ha,BY (FF z)]⟩⟩
  ·obtain⟨r,Q⟩:=IW z hn;rw[ha,BB Q];rw[Q]at z;exact⟨p,rfl,o,z⟩
 rw[(h1.ok.bounds.done hk).1,Ar]at ha;rw[ha];exact⟨none,rfl,H,rfl⟩
end
theorem GenK.makeF1{P:Program}{V:Mem}{f:FuncId}{x:Operand}{ty:Nat}{vals:Operand->Value}{v:Value}(z:vals x=v){q:Value->Mem->Prop}(g:q (.func (.func f) #[v] #[]) V):GenK P (.makeFunc (.func f) #[x] #[]) ty vals V q:=by
 intro w hw;refine⟨_,w,V,?_,Ax.refl hw,g⟩;unfold execOp Instr.makeFunc;simp_all
section
variable{V:Mem}{d:Ds}{c:Option Addr}
theorem impFirst(Q:Hs)(h:Ca V c d)(hv:EU d)(Z:IT d):FltC 74 [.pointer c] V (CS d):=by
 refine QE ?_;have A:=λV1 (H:V.sub V1)=>impTypes (h.sub H);have F2:=λV1 (H:V.sub V1)=>impHeads (h.sub H) Z.small;have I:=λV1 (H:V.sub V1)=>impForm (h.sub H);have M:=λV1 (H:V.sub V1)=>impBodies Q (h.sub H) hv Z;have F:=λV1 (H:V.sub V1) (hf:DW d=none)=>impExps Q (h.sub H) hv Z hf;refine GenK.makeF1 (v:=.pointer c) rfl ⟨.func (.func 117) #[.pointer c] #[],rfl,rfl,GenK.makeF1 (v:=.pointer c) rfl ⟨.func (.func 118) #[.pointer c] #[],rfl,rfl,GenK.makeF1 (v:=.pointer c) rfl ⟨.func (.func 119) #[.pointer c] #[],rfl,rfl,GenK.makeF1 (v:=.pointer c) rfl ⟨.func (.func 120) #[.pointer c] #[],rfl,rfl,GenK.makeF1 (v:=.pointer c) rfl ⟨.func (.func 121) #[.pointer c] #[],rfl,rfl,λb hb=>?_⟩⟩⟩⟩⟩;have W:=Mem.sub_new hb (.cells #[.func (.func 117) #[.pointer c] #[],.func (.func 118) #[.pointer c] #[],.func (.func 119) #[.pointer c] #[],.func (.func 120) #[.pointer c] #[],.func (.func 121) #[.pointer c] #[]] 160 (0,0));refine AU 5 (λi V1=>V.sub V1/\V1 b=some (.cells #[.func (.func 117) #[.pointer c] #[],.func (.func 118) #[.pointer c] #[],.func (.func 119) #[.pointer c] #[],.func (.func 120) #[.pointer c] #[],.func (.func 121) #[.pointer c] #[]] 160 (0,0))/\
  ((i=0/\CS d=(FY d).or ((Fi d).or ((DW d).or ((E4 d).or (E5 d)))))∨(i=1/\CS d=(Fi d).or ((DW d).or ((E4 d).or (E5 d))))∨(i=2/\CS d=(DW d).or ((E4 d).or (E5 d)))∨(i=3/\DW d=none/\CS d=(E4 d).or (E5 d))∨(i=4/\DW d=none/\CS d=E5 d)∨(i=5/\CS d=none))) ⟨W,Mem.set_same _ _ _,.inl ⟨rfl,rfl⟩⟩ ?_
 rintro i B V1 J hi ⟨q,z,G⟩ N;have o:∀{V2:Mem}{X Y:Option Flt}{p:Option Addr},V.sub V2->FltAt V2 p X->¬(p=none)->CS d=X.or Y->(∃O,xG (.pointer p)=.returned (.pointer O)/\V.sub V2/\FltAt V2 O (CS d)):=λ{V2 X Y p} H hf hn l=>by
  obtain⟨r,rfl⟩:=IW hf hn;simp_all
 refine⟨λL=>?_,λR=>?_⟩
 ·rcases G with⟨rfl,l⟩|⟨rfl,l⟩|⟨rfl,l⟩|⟨rfl,hf,l⟩|⟨rfl,hf,l⟩|⟨rfl,l⟩
  ·refine⟨by simp[Aa],by omega,by omega,.func (.func 117) #[.pointer c] #[],rfl,An z 0 1 (by simp),_,_,_,rfl,Tryz.call117,Tri.mono (A V1 q) ?_⟩;rintro _ V2 ⟨p,rfl,g,y⟩;refine⟨_,rfl,λhn=>⟨⟨by omega,by omega⟩,N (by omega) _ _ ⟨q.trans g,g _ _ z,?_⟩⟩,λhn=>o (q.trans g) y hn l⟩;subst hn;exact .inr (.inl ⟨rfl,by rw[l,FF y,xW]⟩)
  ·refine⟨by simp[Aa],by omega,by omega,.func (.func 118) #[.pointer c] #[],rfl,An z 1 1 (by simp),_,_,_,rfl,Tryz.call118,Tri.mono (F2 V1 q) ?_⟩;rintro _ V2 ⟨p,rfl,g,y⟩;refine⟨_,rfl,λhn=>⟨⟨by omega,by omega⟩,N (by omega) _ _ ⟨q.trans g,g _ _ z,?_⟩⟩,λhn=>o (q.trans g) y hn l⟩;subst hn;exact .inr (.inr (.inl ⟨rfl,by rw[l,FF y,xW]⟩))
  ·refine⟨by simp[Aa],by omega,by omega,.func (.func 119) #[.pointer c] #[],rfl,An z 2 1 (by simp),_,_,_,rfl,Tryz.call119,Tri.mono (I V1 q) ?_⟩;rintro _ V2 ⟨p,rfl,g,y⟩;refine⟨_,rfl,λhn=>⟨⟨by omega,by omega⟩,N (by omega) _ _ ⟨q.trans g,g _ _ z,?_⟩⟩,λhn=>o (q.trans g) y hn l⟩;subst hn;exact .inr (.inr (.inr (.inl ⟨rfl,FF y,by rw[l,FF y,xW]⟩)))
  ·refine⟨by simp[Aa],by omega,by omega,.func (.func 120) #[.pointer c] #[],rfl,An z 3 1 (by simp),_,_,_,rfl,Tryz.call120,Tri.mono (M V1 q) ?_⟩;rintro _ V2 ⟨p,rfl,g,y⟩;refine⟨_,rfl,λhn=>⟨⟨by omega,by omega⟩,N (by omega) _ _ ⟨q.trans g,g _ _ z,?_⟩⟩,λhn=>o (q.trans g) y hn l⟩;subst hn;exact .inr (.inr (.inr (.inr (.inl ⟨rfl,hf,by rw[l,FF y,xW]⟩))))
  ·refine⟨by simp[Aa],by omega,by omega,.func (.func 121) #[.pointer c] #[],rfl,An z 4 1 (by simp),_,_,_,rfl,Tryz.call121,Tri.mono (F V1 q hf) ?_⟩;rintro _ V2 ⟨p,rfl,g,y⟩;refine⟨_,rfl,λhn=>⟨⟨by omega,by omega⟩,N (by omega) _ _ ⟨q.trans g,g _ _ z,?_⟩⟩,λhn=>o (Y:=none) (q.trans g) y hn (by simp_all)⟩;subst hn;exact .inr (.inr (.inr (.inr (.inr ⟨rfl,by rw[l,FF y]⟩))))
  ·omega
 ·rcases G with⟨rfl,l⟩|⟨rfl,l⟩|⟨rfl,l⟩|⟨rfl,hf,l⟩|⟨rfl,hf,l⟩|⟨rfl,l⟩;·omega
  ·omega
  ·omega
  ·omega
  ·omega
  ·rw[l];exact⟨none,rfl,q,rfl⟩
theorem Oi[Tab V](l:Hs)(q:NewC)(y:Ds.Ok V d):PP 37 [d.v] V (if BC d=true then f3 (CS d)else .tuple #[.string sE,.int .i64 0,.int .i64 1]):=by
 refine Bv.mk (PC ?_);refine(Ob y).call ⟨_,rfl,λg=>?_,λg=>?_⟩
 ·rw[if_pos g];refine Tri.mono (q V d y) ?_;rintro _ V1 ⟨c,rfl,h1,hc⟩;refine⟨c,rfl,Tri.mono (impFirst l hc (QI g) (vparts g)) ?_⟩;rintro _ V2 ⟨p,rfl,h2,z⟩;refine⟨p,rfl,λhn=>?_,λhn=>?_⟩
  ·subst hn;rw[FF z];exact⟨rfl,h1.trans h2⟩
  ·obtain⟨r,o⟩:=IW z hn;rw[o]at z⊢;obtain⟨b,t,rfl,hb⟩:=z;exact⟨hn,hn,_,An hb 0 1 (by simp),hn,hn,_,An hb 1 1 (by simp),hn,hn,_,An hb 2 1 (by simp),GN (p:=some ⟨b,0,none⟩) (An hb 2 1 (by simp)),hn,hn,GN (p:=some ⟨b,0,none⟩) (An hb 1 1 (by simp)),hn,hn,GN (p:=some ⟨b,0,none⟩) (An hb 2 1 (by simp)),hn,hn,rfl,h1.trans h2⟩
 ·rw[if_neg g];exact⟨rfl,Mem.sub.refl _⟩
end
end Go.Proofs
namespace Go.Sx
open Go
open Classical
structure KeyOf (P:Program)(kt:TypeId){α:Type}(enc:α->Value):Prop where
 inj:∀a b,enc a=enc b->a=b
 find:∀(a:α)(es:List MapEntry)(w:World),(∀e∈es,∃b,e.key=enc b)->(Instr.findKey kt (enc a) es).run P w=.ok ((es.findIdx? λe=>decide (e.key=enc a)).bind λj=>(es[j]?).map λe=>(j,e.val)) w
 check:∀(b:Bool)(a:α)(w:World),(Instr.checkKey b 10000 kt (enc a)).run P w=.ok () w
 stays:∀(a:α)(w:World),(Instr.keyThatStays (enc a) (enc a)).run P w=.ok (enc a) w
noncomputable def Fl(es:List MapEntry)(k:Value):Option Value:=(es.find? λe=>decide (e.key=k)).map (·.val)
structure CZ {α:Type}(enc:α->Value)(V:Mem)(b:Nat)(m:α->Option Value):Prop where
 at_:∃es clock,V b=some (.map es clock)/\(∀e∈es.toList,∃a,e.key=enc a)/\es.toList.Pairwise (λe f=>e.key≠f.key)/\∀a,Fl es.toList (enc a)=m a
section
variable{α:Type}{enc:α->Value}{P:Program}{t kt et:TypeId}{V V':Mem}{b c:Nat}{m m':α->Option Value}
theorem CZ.sub(h:CZ enc V b m)(g:V.sub V'):CZ enc V' b m:=by
 obtain⟨es,c,h1,h2⟩:=h.at_;exact⟨es,c,g _ _ h1,h2⟩
theorem CZ.set{o:Obj}(h:CZ enc V b m)(hn:b≠c):CZ enc (V.set c o) b m:=by
 obtain⟨es,c,h1,h2⟩:=h.at_;exact⟨es,c,by rw[Mem.set_ne hn];exact h1,h2⟩
theorem CZ.made(V:Mem)(b:Nat):CZ enc (V.set b (.map #[] 0)) b λ_=>none:=
 ⟨#[],0,Mem.set_same _ _ _,by simp,by simp,by simp[Fl]⟩
theorem CZ.congr(h:CZ enc V b m)(e:∀k,m k=m' k):CZ enc V b m':=by
 obtain⟨es,c,h1,h2,h3,h4⟩:=h.at_;exact⟨es,c,h1,h2,h3,λk=>(h4 k).trans (e k)⟩
theorem lookV_idx(k:Value):∀es:List MapEntry,Fl es k=(es.findIdx? λe=>decide (e.key=k)).bind λj=>(es[j]?).map (·.val)
 |[]=>rfl
 |e::es=>by
  have g:=lookV_idx k es;unfold Fl at g⊢;simp only[xx,ym];by_cases hk:e.key=k;·simp[hk]
  ·simp only[hk,decide_false,zN,if_false,g];cases z:yk (λe=>decide (e.key=k)) es<;>simp
theorem BJ.key1(K:KeyOf P kt enc)(ht:P.underlying t=some (.map kt et)){z:Value}(y:∀w,(zeroValue et).run P w=.ok z w)(hm:CZ enc V b m){k:α}{q:Value->Prop}(g:q ((m k).getD z)):BJ P t (.map (some b)) (enc k) false V q:=by
 intro w hw;obtain⟨es,c,h1,h2,-,h3⟩:=hm.at_;refine⟨_,?_,g⟩;unfold Instr.lookup;simp only[zK,run_underlying ht,zL,yh (hw _ _ h1),Sem.run_pure,K.check,K.find k _ w h2];rw[<-h3 k,lookV_idx];cases l:yk (λe=>decide (e.key=enc k)) es.toList with
 |none=>simp_all
 |some j=>
  grind[yg,Sem.run_pure,yv,Array.getElem?_eq_getElem]
theorem lookV_push{es:List MapEntry}{k val:Value}{c:Nat}(h:es.findIdx? (λe=>decide (e.key=k))=none)(x:Value):Fl (es++[{key:=k,val:=val,born:=c}]) x=if x=k then some val else Fl es x:=by
 grind[Fl]
theorem Oj(k val:Value):∀(es:List MapEntry)(i:Nat) (h:es.findIdx? (λe=>decide (e.key=k))=some i) (x:Value),Fl (es.modify i λe=>{e with key:=k,val:=val}) x=if x=k then some val else Fl es x
 |[],_,h,_=>by simp at h
 |e::es,i,h,x=>by
  rw[ym]at h;by_cases hk:e.key=k;·grind[Fl]
  ·simp only[hk,decide_false,zN,if_false,zj]at h;obtain⟨j,g,rfl⟩:=h;have z:=Oj k val es j g x;grind[Fl]
theorem Ol(k val:Value):∀(es:List MapEntry)(i:Nat),es.findIdx? (λe=>decide (e.key=k))=some i->(es.modify i λe=>{e with key:=k,val:=val}).map (·.key)=es.map (·.key)
 |[],_,h=>by simp at h
 |e::es,i,h=>by
  rw[ym]at h;by_cases hk:e.key=k;·grind
  ·simp only[hk,decide_false,zN,if_false,zj]at h;obtain⟨j,g,rfl⟩:=h;simp[Ol k val es j g]
theorem pair_keys{es:List MapEntry}:es.Pairwise (λe f=>e.key≠f.key)↔(es.map (·.key)).Pairwise (·≠·):=by grind
theorem C3.key(K:KeyOf P kt enc)(ht:P.underlying t=some (.map kt et))(hm:CZ enc V b m){k:α}{val:Value}{q:Mem->Prop}(p:∀o,CZ enc (V.set b o) b (λx=>if x=k then some val else m x)->q (V.set b o)):C3 P t (.map (some b)) (enc k) val V q:=by
 intro w hw;obtain⟨es,c,h1,h2,N,h3⟩:=hm.at_;have g:(yq t (.map (some b)) (enc k) val).run P w=
   (match es.toList.findIdx? (λe=>decide (e.key=enc k))with
   |some i=>(setObj b (.map (es.modify i λe=>{e with key:=enc k,val:=val}) c)).run P w
   |none=>(setObj b (.map (es.push {key:=enc k,val:=val,born:=c}) (c+1))).run P w):=by
  unfold yq;simp only[zK,run_underlying ht,zL,yh (hw _ _ h1),K.check,K.find k _ w h2];cases z:yk (λe=>decide (e.key=enc k)) es.toList with
  |none=>rfl
  |some j=>
   obtain⟨y,J,_⟩:=yg.1 z;have G:j<es.size:=by simpa using y
   have l:(es[j]?).map (·.key)=some (enc k):=by
    simp_all
   simp only[yv y,Option.bind_some,Option.map_some,zK,l,xX,K.stays,zL]
 have r:∀a,(if enc a=enc k then some val else Fl es.toList (enc a))=if a=k then some val else m a:=λa=>by
  by_cases e:a=k;·simp_all
  ·rw[if_neg e,if_neg (λh=>e (K.inj _ _ h)),h3]
 cases z:yk (λe=>decide (e.key=enc k)) es.toList with
 |none=>
  rw[z]at g;refine⟨_,V.set b (.map (es.push {key:=enc k,val:=val,born:=c}) (c+1)),g.trans (yf _ (hw _ _ h1)),Ax.put hw h1,p _ ⟨_,_,Mem.set_same _ _ _,?_,?_,λx=>?_⟩⟩;·grind
  ·grind
  ·rw[Array.toList_push,lookV_push z,r]
 |some j=>
  rw[z]at g;refine⟨_,V.set b (.map (es.modify j λe=>{e with key:=enc k,val:=val}) c),g.trans (yf _ (hw _ _ h1)),Ax.put hw h1,p _ ⟨_,_,Mem.set_same _ _ _,?_,?_,λx=>?_⟩⟩
  ·intro e H;rw[ye]at H;obtain⟨i,hi,rfl⟩:=yd.1 H;rw[List.getElem_modify];split;·grind
   simp_all
  ·simp_all[ye,pair_keys,Ol]
  simp_all[ye,Oj]
end
end Go.Sx
namespace Go.Proofs
open Go Go.Sx
attribute [local irreducible] Go.Sx.Tri
def Al(n:Int):List Value:=[.int .i64 n]
def DX(n:Int):Prop:=-9223372036854775808<=n/\n<=9223372036854775807
structure Nd where
 ty:Int
 sl:Sl
 f:List Int
def Nd.row(n:Nd):List Value:=[.int .i64 n.ty,n.sl.v]
def Nd.v(n:Nd):Value:=.agg n.row.toArray
structure Nd.Ok (V:Mem)(n:Nd):Prop where
 rows:Ad V n.sl 1 (n.f.map Al)
 tyIn:DX n.ty
 vals:∀x∈n.f,DX x
structure Mm where
 gs:Sl
 globals:List Int
 ns:Sl
 nodes:List Nd
def Mm.row(m:Mm):List Value:=[m.gs.v,m.ns.v]
def Mm.v(m:Mm):Value:=.agg m.row.toArray
structure Mm.Ok (V:Mem)(m:Mm):Prop where
 globals:Ad V m.gs 1 (m.globals.map Al)
 gIn:∀x∈m.globals,DX x
 nodes:Ad V m.ns 2 (m.nodes.map Nd.row)
 nodesOk:∀n∈m.nodes,Nd.Ok V n
theorem Nd.Ok.sub{V V':Mem}{n:Nd}(h:Nd.Ok V n)(g:V.sub V'):Nd.Ok V' n:=⟨h.rows.sub g,h.tyIn,h.vals⟩
theorem Mm.Ok.sub{V V':Mem}{m:Mm}(h:Mm.Ok V m)(g:V.sub V'):Mm.Ok V' m:=⟨h.globals.sub g,h.gIn,h.nodes.sub g,λn hn=>(h.nodesOk n hn).sub g⟩
def allI{α:Type}(p:Nat->α->Bool)(xs:List α):Bool:=xs.zipIdx.all λx=>p x.2 x.1
def AllI{α:Type}(p:Nat->α->Bool)(xs:List α)(i:Nat):Prop:=∀j x,j<i->xs[j]?=some x->p j x=true
theorem AllI.zero{α:Type}{p:Nat->α->Bool}{xs:List α}:AllI p xs 0:=λ_ _ h=>absurd h (Nat.not_lt_zero _)
theorem AllI.succ{α:Type}{p:Nat->α->Bool}{xs:List α}{i:Nat}{x:α}(h:AllI p xs i)(r:xs[i]?=some x)(q:p i x=true):AllI p xs (i+1):=λj y g z=>by
 rcases Nat.lt_succ_iff_lt_or_eq.1 g with l|rfl;·exact h j y l z
 simp_all
theorem GO{α:Type}{p:Nat->α->Bool}{xs:List α}:allI p xs=true↔∀j x,xs[j]?=some x->p j x=true:=by
 unfold allI;rw[za];constructor;·simp_all[List.mem_zipIdx_iff_getElem?]
 grind
theorem AllI.all{α:Type}{p:Nat->α->Bool}{xs:List α}{i:Nat}(h:AllI p xs i)(hi:xs.length<=i):allI p xs=true:=
 GO.2 λj x g=>h j x (by grind) g
theorem My{α:Type}{p:Nat->α->Bool}{xs:List α}{j:Nat}{x:α}(g:xs[j]?=some x)(z:¬p j x=true):allI p xs=false:=by
 grind[allI,absurd,GO]
def Bx(d:Ds)(s:KB):Int:=Ck (λt=>decide (t.name=s)) d.types
def C4(d:Ds)(l:List Fld):Bool:=l.all λf=>Bq d f.ty
def Dn(d:Ds):Bool:=BC d&&C4 d d.globals&&allI (λi t=>decide (Bx d t.name=(i:Int))&&C4 d t.fields) d.types
def Bm(d:Ds)(t:Int):List Fld:=((d.types[t.toNat]?).map (·.fields)).getD []
def tyAt(l:List Fld)(i:Nat):KB:=((l[i]?).map (·.ty)).getD sE
def AJ(d:Ds)(m:Mm)(g:KB)(v:Int):Bool:=
 if g=Ai then decide (-1099511627776<=v/\v<=1099511627776)else if g=Au then decide (v=0∨v=1)
 else decide (v=0∨(1<=v/\v<=(m.nodes.length:Int)/\(m.nodes[(v-1).toNat]?).map (·.ty)=some (Bx d g)))
def Aw(d:Ds)(m:Mm)(l:List Fld)(vs:List Int):Bool:=decide (l.length=vs.length)&&allI (λi v=>AJ d m (tyAt l i) v) vs
def Es(d:Ds)(n:Nd):Bool:=decide (0<=n.ty/\n.ty<(d.types.length:Int))
def Bs(d:Ds)(m:Mm):Bool:=Dn d&&decide (m.nodes.length<=4096)&&m.nodes.all (Es d)&&Aw d m d.globals m.globals&&m.nodes.all λn=>Aw d m (Bm d n.ty) n.f
theorem row_take{V:Mem}{a:Addr}{n k:Nat}{vs:List Value}(h:V.row a n=some vs)(hk:k<=n):V.row a k=some (vs.take k):=by
 grind[Mem.row]
theorem KL{V:Mem}{p:Option Addr}{off n k:Nat}{vs:List Value}(h:V.rowp p off n=some vs)(hk:k<=n):V.rowp (Aa (Aa p off) 0) 0 k=some (vs.take k):=by
 cases p with
 |none=>cases h
 |some a=>
  have g:((a.add off).add 0).add 0=a.add off:=by rfl
  show V.row (((a.add off).add 0).add 0) k=_;rw[g];exact row_take h hk
section
variable{V:Mem}{d:Ds}{m:Mm}
theorem Mz(d:Ds)(s:KB):(Bx d s<0/\Ci d s=false)∨(0<=Bx d s/\Ci d s=true):=by
 grind[Bx,Ci,CP,Ty]
theorem Om(h:Ds.Ok V d){l:Sl}{xs:List Fld}(r:Ad V l 2 (xs.map Fld.row)):PP 92 [d.v,l.v] V (.bool (C4 d xs)):=by
 refine Qr ?_;refine AU (mk:=.bool) (b0:=false) xs.length (λi V1=>V=V1/\Bf (λf=>Bq d f.ty) xs i) ⟨rfl,Bf.zero _ _⟩ ?_;rintro i b V1 J hi ⟨rfl,ha⟩ G;refine⟨λg=>?_,λq=>?_⟩
 ·obtain⟨x,hm,N,Z,hl,y,o,z⟩:=r.get g;have p:=Ak (n:=i*2) y;have H:Bq d x.ty=true->IR ((i:Int)+1)/\J [.bool b,.int .i64 ((i:Int)+1)] V:=λhk=>⟨r.succ g,G hl _ _ ⟨rfl,ha.succ N hk⟩⟩;refine⟨y,o,g,p,_,_,z,λh1=>H (by grind[Bq,Ai]),λh1=>⟨y,o,g,p,_,_,z,λh2=>H (by grind[Bq,Au]),λh2=>⟨y,o,g,p,_,_,z,(H0 h).call ⟨_,rfl,λh3=>?_,λh3=>H ?_⟩⟩⟩⟩
  ·rcases Mz d x.ty with⟨-,k⟩|⟨k,-⟩
   ·have:Bq d x.ty=false:=by grind[Bq,Ai,Au]
    unfold C4;grind
   grind[absurd,Bx]
  ·rcases Mz d x.ty with⟨k,-⟩|⟨-,k⟩;·grind[absurd,Bx]
   grind[Bq]
 ·unfold C4;rw[ha.all (r.done q).2];simp_all
theorem On(h:Ds.Ok V d):PP 59 [d.v] V (.bool (Dn d)):=by
 refine PZ ?_;unfold Dn;refine(Ml h).call ⟨_,rfl,λhv=>(Om h h.globals).call ⟨_,rfl,λht=>?_,λht=>?_⟩,λhv=>?_⟩
 ·rw[hv,ht,Bool.true_and,Bool.true_and];refine AU (mk:=.bool) (b0:=false) d.types.length (λi V1=>V=V1/\AllI (λi t=>decide (Bx d t.name=(i:Int))&&C4 d t.fields) d.types i) ⟨rfl,AllI.zero⟩ ?_;rintro i b V1 J hi ⟨rfl,ha⟩ p;refine⟨λg=>?_,λy=>?_⟩
  ·obtain⟨x,hm,l,H,hl,r,q,z⟩:=h.types.get g;have o:=Ak (n:=i*2) r;refine⟨r,q,g,o,_,_,z,(H0 h).call ⟨_,rfl,λh1=>⟨r,q,g,o,_,_,z,(Om h (h.typesOk x hm).fields).call ⟨_,rfl,λh2=>⟨h.types.succ g,p hl _ _ ⟨rfl,ha.succ l ?_⟩⟩,λh2=>?_⟩⟩,λh1=>?_⟩⟩;·grind[Bx]
   ·rw[My l (by simp_all)];simp_all
   ·rw[My l (by rw[zC,decide_eq_true_eq];exact λk=>h1 k.1)];simp_all
  ·rw[ha.all (h.types.done y).2];simp_all
 ·simp_all
 simp_all
theorem MB(h:Ds.Ok V d)(hm:Mm.Ok V m){s:KB}{v:Int}:PP 60 [d.v,m.v,.string s,.int .i64 v] V (.bool (AJ d m s v)):=by
 refine P0 ?_;unfold AJ;have hn:=hm.nodes.n_eq;have g:∀{a b:Bool},a=b->(xG (.bool a)=xG (.bool b)/\V=V):=λe=>⟨by rw[e],rfl⟩;refine⟨λh1=>?_,λh1=>⟨λh2=>?_,λh2=>?_⟩⟩;·grind[Ai]
 ·grind[Ai,Au,inr]
 ·rw[if_neg (show ¬s=Ai from h1),if_neg (show ¬s=Au from h2)];refine⟨λh3=>g (decide_eq_true (.inl h3)).symm,λh3=>⟨λh4=>⟨λq=>?_,λq=>g ?_⟩,λh4=>g ?_⟩⟩
  ·obtain⟨i,rfl⟩:∃i:Nat,v=(i:Int)+1:=⟨(v-1).toNat,by omega⟩;have e:((i:Int)+1-1)=(i:Int):=by omega
   have o:(i:Int)+1<=9223372036854775807:=by have:=(hm.nodes.succ (i:=i) (by omega)).2;omega
   rw[e];obtain⟨x,p,l,H,hl,y,J,z⟩:=hm.nodes.get (i:=i) (by omega);have r:=Ak (n:=i*2) y;refine⟨⟨by omega,by omega⟩,y,by omega,by omega,r,_,_,z,(H0 h).call ⟨_,rfl,?_,r,y,by omega,by omega,⟨by omega,by omega⟩,g ?_⟩⟩;·exact KL (k:=1) z (by decide)
   ·refine decide_eq_decide.2 ⟨λk=>.inr ⟨h4,by omega,?_⟩,λk=>?_⟩
    ·show Option.map (·.ty) (m.nodes[((i:Int)).toNat]?)=_;rw[xv,l];exact congrArg some k
    ·rcases k with k|⟨-,-,k⟩;·omega
     ·rw[show((i:Int)).toNat=i from rfl,l]at k;exact Option.some.inj k
  ·grind
  grind
theorem Ef{t:Int}{x:Ty}{k:Nat}(g:d.types[k]?=some x)(ht:t=(k:Int)):Bm d t=x.fields:=by
 grind[Bm]
theorem Oo(h:Ds.Ok V d)(hm:Mm.Ok V m):PP 29 [d.v,m.v] V (.bool (Bs d m)):=by
 refine Pw ?_;have hn:=hm.nodes.n_eq;have hg:=hm.globals.n_eq;have hdg:=h.globals.n_eq;have hdt:=h.types.n_eq;have A:∀{V1:Mem},V=V1->¬Bs d m=true->(xG (.bool false)=xG (.bool (Bs d m))/\V1=V):=λe k=>⟨by simp_all,e.symm⟩;have parts:Bs d m=true↔Dn d=true/\m.nodes.length<=4096/\(∀n∈m.nodes,Es d n=true)/\Aw d m d.globals m.globals=true/\∀n∈m.nodes,Aw d m (Bm d n.ty) n.f=true:=by
  grind[Bs]
 refine(On h).call ⟨_,rfl,λht=>⟨λhl=>⟨λX=>A rfl λk=>?_,λX=>?_⟩,λhl=>A rfl λk=>?_⟩,λht=>A rfl λk=>ht (parts.1 k).1⟩;·grind
 ·let PA:Nd->Bool:=λn=>Es d n&&decide ((Bm d n.ty).length=n.f.length);refine AU (mk:=.bool) (b0:=false) m.nodes.length (λi V1=>V=V1/\Bf PA m.nodes i) ⟨rfl,Bf.zero _ _⟩ ?_;rintro i b V1 J hi ⟨rfl,ha⟩ I;refine⟨λg=>?_,λq=>?_⟩
  ·obtain⟨x,r,B,C,G,W,M,l⟩:=hm.nodes.get g;have D:=Ak (n:=i*2) W;have hnx:=(hm.nodesOk x r).rows.n_eq;refine⟨W,M,g,D,_,_,l,λh1=>A rfl λk=>?_,λh1=>⟨λh2=>A rfl λk=>?_,λh2=>?_⟩⟩
   ·have:=(parts.1 k).2.2.1 x r;exact absurd (of_decide_eq_true this).1 (by omega)
   ·have:=(parts.1 k).2.2.1 x r;exact absurd (of_decide_eq_true this).2 (by omega)
   ·obtain⟨t,o⟩:∃t:Nat,x.ty=(t:Int):=⟨x.ty.toNat,by omega⟩;obtain⟨y,F,hy,-,-,N,hyz,p⟩:=h.types.get (i:=t) (by omega);have hfn:=(h.typesOk y F).fields.n_eq;have Q:=Ef hy o;have h1':(0:Int)<=x.ty:=by omega
    rw[o]at h1 h2⊢;refine⟨W,M,g,D,_,_,l,N,by omega,by omega,Ak N,_,_,p,λh3=>⟨hm.nodes.succ g,I G _ _ ⟨rfl,ha.succ B ?_⟩⟩,λh3=>A rfl λk=>?_⟩;·grind[Es,Bm]
    grind[Aw]
  have hA:=ha.all (hm.nodes.done q).2;rw[za]at hA;clear I ha q hi;refine AU (mk:=.bool) (b0:=b) m.globals.length (λi V1=>V=V1/\AllI (λi v=>AJ d m (tyAt d.globals i) v) m.globals i) ⟨rfl,AllI.zero⟩ ?_;rintro i b1 V1 J hi ⟨rfl,ha⟩ I;refine⟨λg=>?_,λq=>?_⟩
  ·obtain⟨x,r,B,C,G,W,M,l⟩:=hm.globals.get g;obtain⟨f,hfm,hf,-,-,Z,L,H⟩:=h.globals.get (i:=i) (by omega);have hty:tyAt d.globals i=f.ty:=by grind[tyAt]
   refine⟨Z,L,by omega,Ak Z,_,_,H,W,M,g,_,l,(MB h hm).call ⟨_,rfl,λh1=>⟨hm.globals.succ g,I G _ _ ⟨rfl,ha.succ B (by grind)⟩⟩,λh1=>A rfl λk=>?_⟩⟩;have:=(parts.1 k).2.2.2.1;unfold Aw at this;rw[zC]at this;grind[GO]
  have hG:=ha.all (hm.globals.done q).2;clear I ha q hi;refine AU (mk:=.bool) (b0:=b1) m.nodes.length (λi V1=>V=V1/\Bf (λn=>Aw d m (Bm d n.ty) n.f) m.nodes i) ⟨rfl,Bf.zero _ _⟩ ?_;rintro i b2 V1 J hi ⟨rfl,ha⟩ I;refine⟨λg=>?_,λq=>?_⟩
  ·obtain⟨x,r,B,C,G,W,M,l⟩:=hm.nodes.get g;have D:=Ak (n:=i*2) W;have K:=hm.nodesOk x r;have S:=hA x r;rw[zC,decide_eq_true_eq]at S;obtain⟨T,U⟩:=S;have T:=of_decide_eq_true T;obtain⟨t,o⟩:∃t:Nat,x.ty=(t:Int):=⟨x.ty.toNat,by omega⟩;obtain⟨y,F,hy,-,-,N,hyz,p⟩:=h.types.get (i:=t) (by omega);have O:=(h.typesOk y F).fields;have Q:=Ef hy o;refine⟨W,M,g,D,_,_,l,N,by rw[o];omega,by rw[o];omega,Ak N,_,_,by rw[o];exact p,?_⟩;rw[Q]at U;have hxn:=K.rows.n_eq;have hyn:=O.n_eq;refine AU (mk:=.bool) (b0:=b2) y.fields.length (λj V1=>V=V1/\AllI (λi v=>AJ d m (tyAt y.fields i) v) x.f j) ⟨rfl,AllI.zero⟩ ?_;rintro j b3 V1 J1 hj ⟨rfl,ha1⟩ hJ1;refine⟨λY=>?_,λhge1=>⟨hm.nodes.succ g,I G _ _ ⟨rfl,ha.succ B ?_⟩⟩⟩
   ·obtain⟨f,hfm,hf,-,hfl,Z,L,H⟩:=O.get Y;obtain⟨z,hzm,hzx,-,-,hzp,hzz,R⟩:=K.rows.get (i:=j) (by omega);have hty:tyAt y.fields j=f.ty:=by grind[tyAt]
    refine⟨Z,L,Y,Ak Z,_,_,H,W,M,g,D,_,_,l,hzp,hzz,by omega,_,R,(MB h hm).call ⟨_,rfl,λh1=>⟨O.succ Y,hJ1 hfl _ _ ⟨rfl,ha1.succ hzx (by grind)⟩⟩,λh1=>A rfl λk=>?_⟩⟩;have:=(parts.1 k).2.2.2.2 x r;unfold Aw at this;rw[zC,Q]at this;grind[GO]
   ·have:=(O.done hge1).2;unfold Aw;rw[Q,ha1.all (by omega),decide_eq_true U];rfl
  ·have hN:=ha.all (hm.nodes.done q).2;rw[za]at hN;have:Bs d m=true:=parts.2 ⟨ht,by omega,λn hn'=>(zC _ _▸hA n hn').1,by grind[Aw],hN⟩;simp_all
 grind[Aw]
end
end Go.Proofs
namespace Go.Proofs
open Go Go.Sx
inductive Rs where
 |ok (v:Int)
 |bad (e:Int)
deriving DecidableEq
def Rs.bind:Rs->(Int->Rs)->Rs
 |.ok v,f=>f v
 |.bad e,_=>.bad e
def CK(n:Int):Rs:=if -1099511627776<=n/\n<=1099511627776 then .ok n else .bad 5
def Et(b:Bool):Int:=if b then 1 else 0
def Bg(op a b:Int):Rs:=
 if op=9 then CK (a+b)else if op=10 then CK (a-b)else if op=11 then CK (a*b)
 else if op=22 then .ok (if a<b then b else a)else if op=23 then .ok (if b<a then b else a)
 else if op=14 then .ok (Et (decide (a=b)))else if op=15 then .ok (Et (!decide (a=b)))else if op=16 then .ok (Et (decide (a<b)))else if op=17 then .ok (Et (decide (a<=b)))
 else if b=0 then .bad 18 else if op=12 then .ok (a.tdiv b)else .ok (a.tmod b)
def Cs(l:List Fld)(s:KB):Int:=Ck (λf=>decide (f.name=s)) l
def mIdx(d:Ds)(s:KB):Int:=Ck (λx=>decide (x.name=s)) d.measures
def varV(d:Ds)(m:Mm)(x:Int)(s:KB):Int:=if s=sThisF then x else(m.globals[(Cs d.globals s).toNat]?).getD 0
def fldV(d:Ds)(m:Mm)(a:Int)(s:KB):Rs:=
 if a=0 then .bad 17 else match m.nodes[(a-1).toNat]? with
  |none=>.bad 0
  |some n=>.ok ((n.f[(Cs (Bm d n.ty) s).toNat]?).getD 0)
def DB(a:Int):Int:=(Nat.log2 a.toNat:Int)
def kidR(g:List Rs)(i:Nat):Rs:=g.getD i (.bad 0)
section
variable(d:Ds)(m:Mm)
def comb(F:Int->Int->Rs)(x op n:Int)(s:KB)(g:List Rs):Rs:=
 if op=1∨op=2 then .ok n else if op=3 then .ok 0 else if op=4 then .ok (varV d m x s)
 else if op=5 then(kidR g 0).bind λa=>fldV d m a s
 else if op=7 then(kidR g 0).bind λa=>F (mIdx d s) a
 else if op=8 then(kidR g 0).bind λa=>CK (-a)
 else if op=18 then(kidR g 0).bind λa=>.ok (1-a)
 else if op=24 then(kidR g 0).bind λa=>.ok (DB a)
 else if op=19 then(kidR g 0).bind λa=>if a=0 then .ok 0 else kidR g 1
 else if op=20 then(kidR g 0).bind λa=>if a=0 then kidR g 1 else .ok 1
 else if op=21 then(kidR g 0).bind λa=>if a=0 then kidR g 2 else kidR g 1
 else(kidR g 0).bind λa=>(kidR g 1).bind λb=>Bg op a b
mutual
def QK(F:Int->Int->Rs)(x:Int):E->Rs
 |.mk op n s _ k=>comb d m F x op n s (evEs F x k)
def evEs(F:Int->Int->Rs)(x:Int):List E->List Rs
 |[]=>[]
 |e::es=>QK F x e::evEs F x es
end
end
end Go.Proofs
namespace Go.Proofs
open Go Go.Sx
structure Am (d:Ds)(m:Mm):Prop where
 valid:BC d=true
 chk:CS d=none
 mem:Bs d m=true
def VE(e:E):Prop:=∃k,Cz k e=true
theorem VE.of_valid{e:E}(h:Bz e=true):VE e:=⟨1,(of_decide_eq_true h).1⟩
theorem okE_eq(k:Int)(e:E):Cz k e=(decide (k<=60)&&Dx e.op e.n e.s e.k.length&&okEs (k+1) e.k):=by cases e;unfold Cz;rfl
theorem okEs_all{k:Int}:∀{l:List E},okEs k l=true->∀x∈l,Cz k x=true
 |[],_,x,g=>by cases g
 |e::l,h,x,g=>by
  unfold okEs at h;rw[zC]at h;rcases yC.1 g with rfl|g;·exact h.1
  ·exact okEs_all h.2 x g
theorem VE.node{e:E}(h:VE e):Dx e.op e.n e.s e.k.length=true:=by
 obtain⟨k,h⟩:=h;simp_all[okE_eq,zC]
theorem VE.kids{e:E}(h:VE e):∀x∈e.k,VE x:=by
 obtain⟨k,h⟩:=h;rw[okE_eq,zC]at h;exact λx g=>⟨_,okEs_all h.2 x g⟩
theorem KM(d:Ds)(sc:Sc):∀(k:List E)(acc:List KB),(partsT d sc acc k).2=0->(∀x∈k,(As d sc x).2=0)/\(partsT d sc acc k).1=acc++k.map λx=>(As d sc x).1
 |[],acc,_=>by rw[IQ];simp
 |x::xs,acc,h=>by
  rw[HV]at h⊢;split at h;·omega
  ·rename_i g;rw[if_neg g];obtain⟨h1,h2⟩:=KM d sc xs _ h;simp_all
theorem MC{d:Ds}{sc:Sc}{e:E}{t:KB}(h:As d sc e=(t,0)):(∀x∈e.k,(As d sc x).2=0)/\EF d sc e.op e.s (e.k.map λx=>(As d sc x).1)=(t,0):=by
 grind[KE,zS,absurd,partsT,KM]
theorem arityB{op n:Int}{s:KB}{l:Int}(h:Dx op n s l=true):BS op≠-2/\(0<=BS op->l=BS op)/\Fg op s=true/\numB op n=true:=by
 grind[Dx]
theorem list1{α:Type}{k:List α}(h:(k.length:Int)=1):∃a,k=[a]:=by
 match k,h with
 |[a],_=>grind
 |[],h=>simp at h
 |_::_::_,h=>simp at h;omega
theorem list2{α:Type}{k:List α}(h:(k.length:Int)=2):∃a b,k=[a,b]:=by
 match k,h with
 |[a,b],_=>simp_all
 |[],h=>simp at h
 |[_],h=>simp at h
 |_::_::_::_,h=>simp at h;omega
theorem list3{α:Type}{k:List α}(h:(k.length:Int)=3):∃a b c,k=[a,b,c]:=by
 match k,h with
 |[a,b,c],_=>simp_all
 |[],h=>simp at h
 |[_],h=>simp at h
 |[_,_],h=>simp at h
 |_::_::_::_::_,h=>simp at h;omega
theorem name_kw{s:KB}(h:BX s=true):isKw s=false:=by
 grind[BX]
theorem GP{s t:KB}(h:BX s=true)(ht:isKw t=true):s≠t:=λe=>by grind[name_kw]
theorem kwNil:isKw DP=true:=by kernel_rfl
theorem kwInt:isKw Ai=true:=by kernel_rfl
theorem kwBool:isKw Au=true:=by kernel_rfl
section
variable{d:Ds}{m:Mm}
theorem validD_types(h:BC d=true):(∀t∈d.types,BX t.name=true)/\(∀f∈d.globals,BX f.name=true)/\(∀x∈d.measures,EE x=true)/\(∀x∈d.invs,GM x=true):=by
 grind[BC,FW,ED,Dl,fldB]
theorem JK(h:BC d=true){s:KB}(g:Ci d s=true):BX s=true:=by
 obtain⟨t,ht,e⟩:=List.any_eq_true.1 g;rw[<-of_decide_eq_true e];exact(validD_types h).1 t ht
def Cb(d:Ds)(m:Mm)(t:KB)(v:Int):Prop:=if t=DP then v=0 else AJ d m t v=true
theorem JL:DP≠Ai/\DP≠Au/\Ai≠DP/\Au≠DP/\Ai≠Au/\Au≠Ai:=by
 refine⟨of_decide_eq_false ?_,of_decide_eq_false ?_,of_decide_eq_false ?_,of_decide_eq_false ?_,of_decide_eq_false ?_,of_decide_eq_false ?_⟩<;>kernel_rfl
theorem EI{v:Int}:Cb d m Ai v↔-1099511627776<=v/\v<=1099511627776:=by
 unfold Cb AJ;rw[if_neg JL.2.2.1,if_pos rfl,decide_eq_true_eq]
theorem E6{v:Int}:Cb d m Au v↔v=0∨v=1:=by
 unfold Cb AJ;rw[if_neg JL.2.2.2.1,if_neg JL.2.2.2.2.2,if_pos rfl,decide_eq_true_eq]
theorem FZ(h:BC d=true){t:KB}(ht:Bq d t=true){v:Int}:Cb d m t v↔AJ d m t v=true:=by
 unfold Cb;rw[if_neg];intro e;subst e;unfold Bq at ht;rw[decide_eq_false JL.1,decide_eq_false JL.2.1]at ht;exact GP (JK h (by simpa using ht)) kwNil rfl
theorem Oq{t:KB}(h:BX t=true):AJ d m t 0=true:=by
 unfold AJ;rw[if_neg (GP h kwInt),if_neg (GP h kwBool)];exact decide_eq_true (.inl rfl)
theorem Ht(h:BC d=true){a b:KB}(hf:BA d a b=true){v:Int}(hv:Cb d m a v):Cb d m b v:=by
 unfold BA at hf;simp only[yP,zC,decide_eq_true_eq]at hf;rcases hf with rfl|⟨rfl,hb⟩;·exact hv
 ·have hn:=JK h hb;unfold Cb at hv⊢;rw[if_pos rfl]at hv;rw[if_neg (GP hn kwNil),hv];exact Oq hn
theorem JM:∀(l:List Fld)(s:KB),B0 l s=((l.find? λf=>decide (f.name=s)).map (·.ty)).getD sE
 |[],_=>rfl
 |f::l,s=>by
  unfold B0;rw[xx];by_cases h:f.name=s;·simp_all
  ·rw[if_neg h,decide_eq_false h,JM l s]
theorem JN(l:List Fld)(s:KB):(B0 l s=sE/\Cs l s=-1)∨∃(i:Nat)(f:Fld),Cs l s=i/\l[i]?=some f/\B0 l s=f.ty/\f.name=s:=by
 rw[JM];unfold Cs;rcases CP (λf:Fld=>decide (f.name=s)) l with⟨h1,h2,-⟩|⟨i,x,h1,h2,h3,-,g,-⟩;·grind
 grind
theorem F7(h:Dn d=true):C4 d d.globals=true/\(∀(i:Nat)(x:Ty),d.types[i]?=some x->Bx d x.name=(i:Int))/\∀x∈d.types,C4 d x.fields=true:=by
 unfold Dn at h;rw[zC,zC,GO]at h;obtain⟨⟨-,h1⟩,h2⟩:=h;refine⟨h1,λi x g=>?_,λx g=>?_⟩;·grind
 ·obtain⟨i,hi,rfl⟩:=yd.1 g;have:=h2 i _ (yv hi);simp_all
theorem BD(h:Bs d m=true):Dn d=true/\m.nodes.length<=4096/\(∀n∈m.nodes,Es d n=true)/\Aw d m d.globals m.globals=true/\∀n∈m.nodes,Aw d m (Bm d n.ty) n.f=true:=by
 grind[Bs]
theorem KN{l:List Fld}{vs:List Int}(h:Aw d m l vs=true){i:Nat}{f:Fld}(hi:l[i]?=some f):∃v,vs[i]?=some v/\AJ d m f.ty v=true:=by
 unfold Aw at h;rw[zC,decide_eq_true_eq,GO]at h;have hl:=(List.getElem?_eq_some_iff.1 hi).1;have hv:vs[i]?=some (vs[i]'(by omega)):=yv _;grind[tyAt]
theorem right_node{t:KB}(hn:BX t=true){a:Int}(h:AJ d m t a=true)(z:a≠0):1<=a/\a<=(m.nodes.length:Int)/\∃n,m.nodes[(a-1).toNat]?=some n/\n∈m.nodes/\n.ty=Bx d t:=by
 unfold AJ at h;rw[if_neg (GP hn kwInt),if_neg (GP hn kwBool),decide_eq_true_eq]at h;rcases h with h|⟨h1,h2,h3⟩;·omega
 ·refine⟨h1,h2,?_⟩;cases g:m.nodes[(a-1).toNat]? with
  |none=>simp_all
  |some n=>rw[g]at h3;exact⟨n,rfl,xJ g,by simpa using h3⟩
theorem tyOf_idx{s:KB}{t:Ty}(h:Dy d s=some t):∃i:Nat,Bx d s=(i:Int)/\d.types[i]?=some t/\t.name=s/\Ci d s=true:=by
 unfold Dy at h;unfold Bx Ci;rcases CP (λt:Ty=>decide (t.name=s)) d.types with⟨-,h2,-⟩|⟨i,x,h1,h2,h3,-,g,-,z,-⟩;·simp_all
 grind
theorem fld_ok(G:Am d m){t s ty:KB}(ht:Dz d t s=(ty,0)){a:Int}(ha:Cb d m t a)(O:a≠0):
  ∃(n:Nd)(i j:Nat)(g:Ty)(f:Fld)(v:Int),m.nodes[(a-1).toNat]?=some n/\n∈m.nodes/\1<=a/\a<=(m.nodes.length:Int)/\n.ty=(j:Int)/\d.types[j]?=some g/\g∈d.types/\Cs g.fields s=i/\g.fields[i]?=some f/\n.f[i]?=some v/\Cb d m ty v/\fldV d m a s=.ok v/\f.ty=ty:=by
 unfold Dz at ht;cases q:Dy d t with
 |none=>simp_all
 |some g=>
  rw[q]at ht;simp only at ht;split at ht;·simp at ht
  ·rename_i hl;simp only[zS,and_true]at ht;obtain⟨j,Z,y,rfl,l⟩:=tyOf_idx q;have r:=JK G.valid l;have o:AJ d m g.name a=true:=by
    grind[Cb]
   obtain⟨b1,b2,n,b3,Y,W⟩:=right_node r o O;rcases JN g.fields s with⟨Q,-⟩|⟨i,f,Q,c2,c3,c4⟩;·grind
   ·have p:Bm d n.ty=g.fields:=Ef y (W.trans Z);obtain⟨p1,-,-,-,A⟩:=BD G.mem;have hv:=A n Y;rw[p]at hv;obtain⟨v,H,J⟩:=KN hv c2;have z:=xJ y;have N:Bq d f.ty=true:=za.1 ((F7 p1).2.2 g z) f (xJ c2);refine⟨n,i,j,g,f,v,b3,Y,b1,b2,W.trans Z,y,z,Q,c2,H,?_,?_,c3.symm.trans ht⟩;·rw[<-ht,c3];exact(FZ G.valid N).2 J
    simp_all[fldV,if_neg,xv]
theorem KO{α β:Type}{f:Nat->α->Option β}:∀{l:List α}{i:Nat},Ar f i l=none->∀j x,l[j]?=some x->f (i+j) x=none
 |[],_,_,j,x,g=>by simp at g
 |y::l,i,h,j,x,g=>by
  unfold Ar at h;cases z:f i y with
  |some b=>simp_all
  |none=>
   rw[z]at h;cases j with
   |zero=>simp_all
   |succ j=>rw[show i+(j+1)=i+1+j by omega];exact KO h j x (by simpa using g)
theorem KP{α:Type}{a b:Option α}(h:a.or b=none):a=none/\b=none:=by
 simp_all
end
end Go.Proofs
namespace Go.Proofs
open Go Go.Sx
section
variable{d:Ds}{m:Mm}
theorem big_ok{n v:Int}(h:CK n=.ok v):v=n/\-1099511627776<=v/\v<=1099511627776:=by
 unfold CK at h;grind
theorem trI_b(b:Bool):Et b=0∨Et b=1:=by cases b<;>simp[Et]
theorem E7{ok:Bool}{t g:KB}(h:DA ok t=(g,0)):ok=true/\t=g:=by
 grind[DA]
theorem tdiv_in{a b:Int}(ha:-1099511627776<=a/\a<=1099511627776):-1099511627776<=a.tdiv b/\a.tdiv b<=1099511627776:=by
 have:=Int.natAbs_tdiv_le_natAbs a b;omega
theorem tmod_in{a b:Int}(ha:-1099511627776<=a/\a<=1099511627776):-1099511627776<=a.tmod b/\a.tmod b<=1099511627776:=by
 have h1:=Int.natAbs_tmod a b;have:=Nat.mod_le a.natAbs b.natAbs;omega
theorem log_in{a:Int}(ha:a<=1099511627776):0<=DB a/\DB a<=1099511627776:=by
 grind[DB,Nat.log2,Nat.log2_le_self]
inductive Kind (d:Ds)(sc:Sc)(e:E):KB->Prop where
 |int (h:e.op=1) (hn:0<=e.n/\e.n<=1099511627776):Kind d sc e Ai
 |bool (h:e.op=2) (hn:e.n=0∨e.n=1):Kind d sc e Au
 |nil (h:e.op=3) (hn:e.n=0):Kind d sc e DP
 |var {t} (h:e.op=4) (hl:B0 sc.vars e.s=t) (hne:t≠sE):Kind d sc e t
 |fld {t u} {a:E} (h:e.op=5) (hk:e.k=[a]) (ha:As d sc a=(u,0)) (ht:Dz d u e.s=(t,0)):Kind d sc e t
 |call {u} {a:E} {ms:Ms} {i:Nat} (h:e.op=7) (hk:e.k=[a]) (ha:As d sc a=(u,0)) (hi:mIdx d e.s=i) (hms:d.measures[i]?=some ms) (hf:BA d u ms.ty=true):Kind d sc e Ai
 |neg {a:E} (h:e.op=8) (hk:e.k=[a]) (ha:As d sc a=(Ai,0)):Kind d sc e Ai
 |not {a:E} (h:e.op=18) (hk:e.k=[a]) (ha:As d sc a=(Au,0)):Kind d sc e Au
 |log {a:E} (h:e.op=24) (hk:e.k=[a]) (ha:As d sc a=(Ai,0)):Kind d sc e Ai
 |and {a b:E} (h:e.op=19) (hk:e.k=[a,b]) (ha:As d sc a=(Au,0)) (hb:As d sc b=(Au,0)):Kind d sc e Au
 |or {a b:E} (h:e.op=20) (hk:e.k=[a,b]) (ha:As d sc a=(Au,0)) (hb:As d sc b=(Au,0)):Kind d sc e Au
 |cond {a b c:E} {t u w} (h:e.op=21) (hk:e.k=[a,b,c]) (ha:As d sc a=(Au,0)) (hb:As d sc b=(u,0)) (hc:As d sc c=(w,0)) (hu:u=t∨BA d u t=true) (hw:w=t∨BA d w t=true):Kind d sc e t
 |eq {a b:E} {u w} (h:e.op=14∨e.op=15) (hk:e.k=[a,b]) (ha:As d sc a=(u,0)) (hb:As d sc b=(w,0)):Kind d sc e Au
 |cmp {a b:E} (h:e.op=16∨e.op=17) (hk:e.k=[a,b]) (ha:As d sc a=(Ai,0)) (hb:As d sc b=(Ai,0)):Kind d sc e Au
 |ari {a b:E} (h:e.op=9∨e.op=10∨e.op=11∨e.op=12∨e.op=13∨e.op=22∨e.op=23) (hk:e.k=[a,b]) (ha:As d sc a=(Ai,0)) (hb:As d sc b=(Ai,0)):Kind d sc e Ai
theorem allT1{t u:KB}(h:allT [t] u=true):t=u:=by simpa [allT]using h
theorem allT2{t g u:KB}(h:allT [t,g] u=true):t=u/\g=u:=by simpa [allT]using h
theorem BO{p:KB×Int}{t:KB}(h1:p.1=t)(h2:p.2=0):p=(t,0):=Prod.ext h1 h2
theorem kind{sc:Sc}(Y:sc.body=false){e:E}{t:KB}(hv:VE e)(ht:As d sc e=(t,0)):Kind d sc e t:=by
 obtain⟨hk,hn⟩:=MC ht;obtain⟨a1,a2,a3,l⟩:=arityB hv.node;unfold EF at hn;unfold numB at l;have one:BS e.op=1->∃a,e.k=[a]:=λh=>list1 ((a2 (by omega)).trans h);have r:BS e.op=2->∃a b,e.k=[a,b]:=λh=>list2 ((a2 (by omega)).trans h);have J:BS e.op=3->∃a b c,e.k=[a,b,c]:=λh=>list3 ((a2 (by omega)).trans h);by_cases h1:e.op=1
 ·rw[if_pos h1]at hn l;cases hn;exact .int h1 (of_decide_eq_true l)
 rw[if_neg h1]at hn l;by_cases h2:e.op=2
 ·rw[if_pos h2]at hn l;cases hn;exact .bool h2 (of_decide_eq_true l)
 rw[if_neg h2]at hn l;have l:e.n=0:=of_decide_eq_true l;by_cases h3:e.op=3
 ·rw[if_pos h3]at hn;cases hn;exact .nil h3 l
 rw[if_neg h3]at hn;by_cases h4:e.op=4
 ·rw[if_pos h4]at hn;split at hn;·simp at hn
  ·rename_i hne;simp only[zS,and_true]at hn;exact .var h4 hn (hn▸hne)
 rw[if_neg h4]at hn;by_cases Z:e.op=5
 ·obtain⟨a,ha⟩:=one (by rw[Z];rfl);rw[if_pos Z,ha]at hn;rw[ha]at hk;exact .fld Z ha (BO rfl (hk a (by simp))) hn
 rw[if_neg Z]at hn;by_cases A:e.op=6;·simp_all
 rw[if_neg A]at hn;by_cases W:e.op=7
 ·rw[if_pos W]at hn;unfold Fh at hn;rw[if_neg (by rw[Y];decide)]at hn;unfold FX meOf at hn;unfold mIdx at*
  rcases CP (λx:Ms=>decide (x.name=e.s)) d.measures with⟨-,O,-⟩|⟨i,ms,q1,O,q3,-⟩;·simp_all
  ·rw[q3]at hn;simp only at hn;split at hn;·simp at hn
   ·rename_i hl;obtain⟨a,ha⟩:∃a,e.k=[a]:=list1 (by grind);rw[ha]at hn hk;obtain⟨b1,rfl⟩:=E7 hn;exact .call W ha (BO rfl (hk a (by simp))) q1 O (by simpa using b1)
 rw[if_neg W]at hn;by_cases q:e.op=14∨e.op=15
 ·obtain⟨a,b,z⟩:=r (by rcases q with h|h<;>(rw[h];rfl));rw[if_pos q]at hn;rw[z]at hk;obtain⟨-,rfl⟩:=E7 hn;exact .eq q z (BO rfl (hk a (by simp))) (BO rfl (hk b (by simp)))
 rw[if_neg q]at hn;by_cases o:e.op=16∨e.op=17
 ·obtain⟨a,b,z⟩:=r (by rcases o with h|h<;>(rw[h];rfl));rw[if_pos o,z]at hn;rw[z]at hk;obtain⟨g,rfl⟩:=E7 hn;obtain⟨N,H⟩:=allT2 g;exact .cmp o z (BO N (hk a (by simp))) (BO H (hk b (by simp)))
 rw[if_neg o]at hn;by_cases G:e.op=18∨e.op=19∨e.op=20
 ·rw[if_pos G]at hn;rcases G with h|h
  ·obtain⟨a,ha⟩:=one (by rw[h];rfl);rw[ha]at hn hk;obtain⟨g,rfl⟩:=E7 hn;exact .not h ha (BO (allT1 g) (hk a (by simp)))
  ·obtain⟨a,b,z⟩:=r (by rcases h with h|h<;>(rw[h];rfl));rw[z]at hn hk;obtain⟨g,rfl⟩:=E7 hn;obtain⟨N,H⟩:=allT2 g;rcases h with h|h;·exact .and h z (BO N (hk a (by simp))) (BO H (hk b (by simp)))
   ·exact .or h z (BO N (hk a (by simp))) (BO H (hk b (by simp)))
 rw[if_neg G]at hn;by_cases p:e.op=21
 ·obtain⟨a,b,c,y⟩:=J (by rw[p];rfl);rw[if_pos p,y]at hn;rw[y]at hk;obtain⟨g,H⟩:=E7 hn;simp only[List.map_cons,List.map_nil,List.getD_cons_zero,List.getD_cons_succ,zC,decide_eq_true_eq,yP]at g H;refine .cond p y (BO g.1 (hk a (by simp))) (BO rfl (hk b (by simp))) (BO rfl (hk c (by simp))) ?_ ?_;·grind[inr,BA]
  grind[BA,absurd,inr]
 rw[if_neg p]at hn;obtain⟨g,rfl⟩:=E7 hn;have Q:e.op=8∨e.op=24∨(e.op=9∨e.op=10∨e.op=11∨e.op=12∨e.op=13∨e.op=22∨e.op=23):=by
  grind[BS]
 rcases Q with h|h|h
 ·obtain⟨a,ha⟩:=one (by rw[h];rfl);rw[ha]at g hk;exact .neg h ha (BO (allT1 g) (hk a (by simp)))
 ·obtain⟨a,ha⟩:=one (by rw[h];rfl);rw[ha]at g hk;exact .log h ha (BO (allT1 g) (hk a (by simp)))
 ·obtain⟨a,b,z⟩:=r (by rcases h with h|h|h|h|h|h|h<;>(rw[h];rfl));rw[z]at g hk;obtain⟨N,H⟩:=allT2 g;exact .ari h z (BO N (hk a (by simp))) (BO H (hk b (by simp)))
theorem two_ok{op a b v:Int}(h:op=9∨op=10∨op=11∨op=12∨op=13∨op=22∨op=23)(ha:-1099511627776<=a/\a<=1099511627776)(hb:-1099511627776<=b/\b<=1099511627776)(hv:Bg op a b=.ok v):-1099511627776<=v/\v<=1099511627776:=by
 unfold Bg at hv;split at hv;·exact(big_ok hv).2
 split at hv;·exact(big_ok hv).2
 split at hv;·exact(big_ok hv).2
 split at hv;·grind
 split at hv;·grind
 repeat' (split at hv;(first|omega|cases hv))
 ·exact tdiv_in ha
 ·cases hv;exact tmod_in ha
theorem twoB_ok{op a b v:Int}(h:op=14∨op=15∨op=16∨op=17)(hv:Bg op a b=.ok v):v=0∨v=1:=by
 rcases h with rfl|rfl|rfl|rfl
 ·have:Et (decide (a=b))=v:=by injection hv
  grind[trI_b]
 ·have:Et (!decide (a=b))=v:=by injection hv
  grind[trI_b]
 ·have:Et (decide (a<b))=v:=by injection hv
  grind[trI_b]
 ·have:Et (decide (a<=b))=v:=by injection hv
  grind[trI_b]
end
end Go.Proofs
