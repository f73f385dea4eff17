/- Part 19 of a proof of a law of this seat: no statement of the seat is proved here. -/
import Derived.Test.YtmeagdecjpknkaaGreatDoorPr16
import Derived.Test.YtmeagdecjpknkaaGreatDoorPr10
set_option linter.unusedVariables false
set_option linter.unusedSimpArgs false
open Go.Proofs.Tryz renaming prog->xD
open Go.IntKind renaming wrap->xE,signed->zQ,bits->zR
open Int renaming tdiv_eq_ediv_of_nonneg->vp,toNat_natCast->xu
open List renaming getElem?_eq_some_iff->yw,mem_of_getElem?->xv,mem_iff_getElem?->xk,replicate->yI,length_append->zw,length_singleton->xi,getElem?_eq_getElem->yv,length_map->xd,getD_cons_zero->xp
open Go.Value renaming int->xe
namespace Go.Proofs
open Go Go.Sx
attribute [local irreducible] Go.Sx.Tri
def qBC(d:Ds)(F tk c k cm nn:Int)(gs ns ls:Sl):List Value:=[Go.Sx.vS d.name,d.ts.v,d.gs.v,d.ps.v,d.ms.v,d.is.v,d.qs.v,d.bs.v,gs.v,ns.v,.int .i64 F,.int .i64 tk,.int .i64 c,.int .i64 k,.int .i64 cm,.int .i64 nn,.int .i64 0,ls.v]
abbrev XM(V0:Mem)(d:Ds)(p F:Nat)(V:Mem)(s:St)(c k:Int):Prop:=MA 119 V0 p (qBC d F s.tk c k s.cm (qAv s.lg)) V s
theorem ntX:NT 119:=by unfold NT;decide
def XR(V0:Mem)(d:Ds)(p F:Nat)(c:Int)(r:Rx Int):Ending->Mem->Prop:=λe V'=>match r with
 |.ok v s=>e=.returned (.int .i64 v)/\XM V0 d p F V' s c 0
 |.bad k s=>e=.returned (.int .i64 0)/\k≠0/\XM V0 d p F V' s c k
section
variable{V0 V V1:Mem}{d:Ds}{p F:Nat}{c k:Int}{s:St}
theorem XR.call{f:FuncId}{args:Array Value}{r:Rx Int}{K:Int->Mem->Prop}(H:Tri xD f args V (XR V0 d p F c r))(g:∀v s V',r=.ok v s->XM V0 d p F V' s c 0->K v V')(t:∀k s V',r=.bad k s->k≠0->XM V0 d p F V' s c k->K 0 V'):
  Tri xD f args V λe V'=>∃v,e=.returned (.int .i64 v)/\K v V':=
 Tri.mono H λe V' h=>by
  cases r with
  |ok v s=>exact⟨v,h.1,g v s V' rfl h.2⟩
  |bad k s=>exact⟨0,h.1,t k s V' rfl h.2.1 h.2.2⟩
theorem XR.ok{G:Rx Int}{v:Int}(h:G=.ok v s)(M:XM V0 d p F V s c 0):XR V0 d p F c G (.returned (.int .i64 v)) V:=by rw[h];exact⟨rfl,M⟩
theorem XR.bad{G:Rx Int}{k:Int}(h:G=.bad k s)(g:k≠0)(M:XM V0 d p F V s c k):XR V0 d p F c G (.returned (.int .i64 0)) V:=by rw[h];exact⟨rfl,g,M⟩
theorem XR.last{f:FuncId}{args:Array Value}{G r:Rx Int}(h:G=r)(H:Tri xD f args V (XR V0 d p F c r)):Tri xD f args V λe V'=>∃v,e=.returned (.int .i64 v)/\XR V0 d p F c G (.returned (.int .i64 v)) V':=by
 subst h;exact XR.call H (λv s V' e M=>XR.ok e M) λk s V' e g M=>XR.bad e g M
theorem c178(M:XM V0 d p F V s c 0){k:Int}:Tri xD 178 #[pv p,.int .i64 k] V λe V'=>e=.returned (.int .i64 0)/\XM V0 d p F V' s c k:=by
 obtain⟨gs,ns,ls,nd,g,L⟩:=M.ex;refine x178 ?_;exact⟨nn,nn,_,qAd g 13 1 (by simp[qBC]),λ_=>⟨nn,nn,StT.at2 (off:=13) g (by simp[qBC]) ⟨rfl,MA.set (row':=qBC d F s.tk c k s.cm (qAv s.lg)) ntX M.p0 g L rfl rfl rfl rfl⟩⟩,λh=>absurd rfl h⟩
theorem failX(M:XM V0 d p F V s c 0){k:Int}(g:k≠0){G:Rx Int}(f:G=.bad k s):Tri xD 178 #[pv p,.int .i64 k] V λe V'=>∃v,e=.returned (.int .i64 v)/\XR V0 d p F c G (.returned (.int .i64 v)) V':=
 Tri.mono (c178 M) λ_ _ ⟨h,t⟩=>⟨0,h,XR.bad f g t⟩
theorem c309{b:Bool}:PP 309 [.bool b] V (.int .i64 (trI b)):=by
 refine x309 ?_;refine⟨λh=>?_,λh=>?_⟩;·rw[show b=true from h];exact⟨rfl,rfl⟩
 ·rw[show b=false by simpa using h];exact⟨rfl,rfl⟩
theorem c293{l:List Fld}{fl:Sl}(t:qAc V fl 2 (l.map Fld.row)){nm:ByteArray}:PP 293 [fl.v,.string nm] V (.int .i64 (qFI l nm)):=by
 refine x293 ?_;refine qAI (mk:=.int .i64) (b0:=0) l.length (λi V1=>V=V1/\qAW (λy:Fld=>!decide (y.name=nm)) l i) ⟨rfl,qAW.zero _ _⟩ ?_;rintro i b V1 J Y ⟨rfl,u⟩ H;refine⟨λg=>?_,λz=>?_⟩
 ·obtain⟨x,N,o,-,j,e,Z,f⟩:=t.get g;refine⟨e,Z,g,qAe e,_,_,f,λh=>?_,λh=>⟨t.succ g,H j _ _ ⟨rfl,qCc (p:=λy:Fld=>decide (y.name=nm)) u o (decide_eq_false h)⟩⟩⟩;unfold qFI;rw[qCt (p:=λy:Fld=>decide (y.name=nm)) u o (decide_eq_true h)];simp_all
 ·unfold qFI;rw[qDd (p:=λy:Fld=>decide (y.name=nm)) u (t.done z).2];simp_all
theorem c290{a:Int}(j:a<=1099511627776):PP 290 [.int .i64 a] V (.int .i64 (qJS a)):=by
 refine x290 ?_;have small:∀v:Int,v<=1->qJS v=0:=λv hv=>by
  unfold qJS;have:v.toNat=0∨v.toNat=1:=by omega
  rcases this with h|h<;>rw[h]<;>decide
 have step:∀v:Int,1<v->qJS v=qJS (v.tdiv 2)+1:=λv hv=>by
  unfold qJS;have e:(v.tdiv 2).toNat=v.toNat/2:=by grind
  rw[e,Nat.log2_def,if_pos (by omega)];simp
 have f:qJS a<=64:=by
  unfold qJS;by_cases h0:a.toNat=0;·rw[h0];decide
  ·have:=(Nat.log2_lt h0).2 (show a.toNat<2^64 by omega);omega
 have pos:∀v:Int,0<=qJS v:=λv=>by unfold qJS;omega
 refine⟨λn xs V1=>∃v c:Int,xs=[.int .i64 v,.int .i64 c]/\n=v.toNat/\V=V1/\v<=a/\0<=c/\c+qJS v=qJS a,a.toNat,⟨a,0,rfl,rfl,rfl,Int.le_refl _,Int.le_refl _,by omega⟩,?_⟩;rintro n V1 v c ⟨i,l,g,rfl,rfl,t,o,H⟩ J u;simp only[List.cons.injEq,Value.int.injEq,true_and,and_true]at g;obtain⟨rfl,rfl⟩:=g;refine⟨λhv=>?_,λhv=>?_⟩
 ·have hv:1<v:=hv;have hw:xE .i64 (v.tdiv 2)=v.tdiv 2:=by
   rw[vp (by omega)];exact qGM ⟨by simp[IntKind.min,zQ,zR];omega,by simp[IntKind.max,zQ,zR];omega⟩
  have N:=step v hv;have Z:=pos (v.tdiv 2);have z:v.tdiv 2<v/\0<=v.tdiv 2:=by rw[vp (by omega)];omega
  refine⟨by decide,⟨by omega,by omega⟩,?_⟩;rw[hw];exact u (v.tdiv 2).toNat _ _ (by omega) ⟨v.tdiv 2,c+1,rfl,rfl,rfl,by omega,by omega,by omega⟩
 simp_all
theorem c211(f:F<=4000)(M:XM V0 d p F V s c 0):Tri xD 211 #[pv p] V λe V'=>(s.tk<F/\e=.returned (.bool true)/\XM V0 d p F V' {s with tk:=s.tk+1} c 0)∨(F<=s.tk/\e=.returned (.bool false)/\XM V0 d p F V' s c 20):=by
 obtain⟨gs,ns,ls,nd,g,L⟩:=M.ex;refine x211 ?_;refine⟨nn,nn,_,qAd g 13 1 (by simp[qBC]),λ_=>⟨nn,nn,_,qAd g 11 1 (by simp[qBC]),nn,nn,_,qAd g 10 1 (by simp[qBC]),λh=>?_,λh=>?_⟩,λh=>absurd rfl h⟩
 ·refine Tri.mono (c178 M) ?_;simp_all
 ·refine⟨nn,nn,_,qAd g 11 1 (by simp[qBC]),⟨by omega,by omega⟩,nn,nn,StT.at2 (off:=11) g (by simp[qBC]) (.inl ⟨by omega,rfl,?_⟩)⟩;exact MA.set (row':=qBC d F ((s.tk+1:Nat):Int) c 0 s.cm (qAv s.lg)) ntX M.p0 g L rfl rfl rfl rfl
theorem nodesN_one(l:List (Int×Int×Int))(a:Int×Int×Int):qAv (l++[a])=qAv l+if 0<a.2.1 then 1 else 0:=by
 grind[qAv]
theorem nodesN_bound(l:List (Int×Int×Int)):qAv l<=l.length:=by grind[qAv]
theorem c288(M:XM V0 d p F V s c 0){k a f:Int}(z:s.lg.length+1<=2147483648):Tri xD 288 #[pv p,.int .i64 k,.int .i64 a,.int .i64 f] V λe V'=>e=.returned (.tuple #[])/\XM V0 d p F V' (s.note (k,a,f)) c 0:=by
 obtain⟨gs,ns,ls,nd,t,L⟩:=M.ex;refine x288 ?_;have J:=nodesN_bound s.lg;have u:qAv (s.note (k,a,f)).lg=qAv s.lg+if 0<a then 1 else 0:=nodesN_one s.lg (k,a,f)
 refine⟨nn,nn,ls,qAd t 17 1 (by simp[qBC]),λI l=>L.note (a:=(k,a,f)) l rfl rfl z λs' V' N Z=>⟨s',rfl,nn,nn,?_⟩⟩;have g:=Z _ _ t (qHM t ntX L.log (.inr (.inr rfl)));refine StT.at2 (off:=17) g (by simp[qBC]) ?_;have o:MA 119 V0 p (qBC d F s.tk c 0 s.cm (qAv s.lg)) (V'.set p (.cells (qBC d F s.tk c 0 s.cm (qAv s.lg) gs ns s').toArray 119 (0,0))) (s.note (k,a,f)):=MA.set (row':=qBC d F s.tk c 0 s.cm (qAv s.lg)) ntX M.p0 g N rfl rfl rfl rfl;show Br (0<a) _ _;obtain⟨i,j⟩:∃i,i=V'.set p (.cells (qBC d F s.tk c 0 s.cm (qAv s.lg) gs ns s').toArray 119 (0,0)):=⟨_,rfl⟩;have H:V'.set p (.cells ((qBC d F s.tk c 0 s.cm (qAv s.lg) gs ns ls).toArray.toList.take 17++[s'.v]++(qBC d F s.tk c 0 s.cm (qAv s.lg) gs ns ls).toArray.toList.drop (17+[s'.v].length)).toArray 119 (0,0))=i:=by rw[j];rfl
 rw[<-j]at o;obtain⟨Y,Q,P,O,h,A⟩:=o.ex;refine⟨λh0=>?_,λh0=>?_⟩
 ·have h0:0<a:=h0;rw[if_pos h0]at u
  erw [H]
  refine⟨nn,nn,pnn,_,qAd h 15 1 (by simp[qBC]),⟨by omega,by omega⟩,nn,nn,pnn,StT.at2 (off:=15) h (by simp[qBC]) ⟨rfl,?_⟩⟩;exact MA.set (row':=qBC d F s.tk c 0 s.cm (qAv (s.note (k,a,f)).lg)) ntX M.p0 h A (by rw[u];rfl) rfl rfl rfl
 ·have h0:¬0<a:=h0;rw[if_neg h0,Nat.add_zero]at u;refine⟨rfl,?_⟩
  erw [H]
  show MA _ V0 p (qBC d F s.tk c 0 s.cm (qAv (s.note (k,a,f)).lg)) i _;grind
theorem c289(M:XM V0 d p F V s c 0){n:Int}:Tri xD 289 #[pv p,.int .i64 n] V (XR V0 d p F c (qEq (big n) s)):=by
 obtain⟨G,g⟩:∃G,G=qEq (big n) s:=⟨_,rfl⟩;rw[<-g];refine Tri.mono (x289 (R:=XR V0 d p F c G) ?_) λ_ _ h=>h;have bad:¬(-1099511627776<=n/\n<=1099511627776)->G=.bad 5 s:=λh=>by rw[g];unfold big;rw[if_neg h];rfl
 refine⟨λh=>failX M (by decide) (bad (by omega)),λh1=>⟨λh=>failX M (by decide) (bad (by omega)),λh2=>?_⟩⟩;have h1:¬n< -1099511627776:=h1;have h2:¬1099511627776<n:=h2;exact XR.ok (by rw[g];unfold big;rw[if_pos (by omega)];rfl) M
theorem c310(M:XM V0 d p F V s c 0){a b:Int}(t:-1099511627776<=a/\a<=1099511627776)(u:-1099511627776<=b/\b<=1099511627776):Tri xD 310 #[pv p,.int .i64 a,.int .i64 b] V (XR V0 d p F c (qEq (big (a*b)) s)):=by
 obtain⟨G,f⟩:∃G,G=qEq (big (a*b)) s:=⟨_,rfl⟩;rw[<-f];refine Tri.mono (x310 (R:=XR V0 d p F c G) ?_) λ_ _ h=>h;have fit:(-1099511627776<=a*b/\a*b<=1099511627776)->XR V0 d p F c G (.returned (.int .i64 (a*b))) V:=λk=>XR.ok (by rw[f];unfold big;rw[if_pos k];rfl) M;have key:∀x y:Int,x=(if a<0 then -a else a)->y=(if b<0 then -b else b)->Br (0<x) (¬x=0/\Br ((xE .i64 ((1099511627776:Int).tdiv x))<y)
   (Tri xD 178 #[pv p,.int .i64 5] V λe V1=>∃z,e=.returned (.int .i64 z)/\XR V0 d p F c G (.returned (.int .i64 z)) V1)
   (IR (a*b)/\XR V0 d p F c G (.returned (.int .i64 (a*b))) V)) (IR (a*b)/\XR V0 d p F c G (.returned (.int .i64 (a*b))) V):=λx y j i=>by
  refine⟨λh0=>?_,λh0=>?_⟩
  ·have h0:0<x:=h0;have g:a≠0:=λe=>by omega
   have l:xE .i64 ((1099511627776:Int).tdiv x)=(1099511627776:Int).tdiv x:=qIn ⟨by omega,by omega⟩;refine⟨by omega,?_⟩;rw[l];have hm:=mul_big t u g;rw[<-j,<-i]at hm;refine⟨λk=>failX M (by decide) (by rw[f];unfold big;rw[if_neg (hm.1 k)];rfl),λk=>?_⟩;simp_all[Classical.not_not,mul_in,inr]
  ·have h0:¬0<x:=h0;have g:a=0:=by omega
   exact⟨mul_in t u (.inl g),fit (by simp_all)⟩
 refine⟨λh1=>⟨⟨by omega,by omega⟩,λh2=>⟨⟨by omega,by omega⟩,?_⟩,λh2=>?_⟩,λh1=>⟨λh2=>⟨⟨by omega,by omega⟩,?_⟩,λh2=>?_⟩⟩;·grind
 ·grind
 ·grind
 grind
theorem c292(M:XM V0 d p F V s c 0){op v w:Int}(H:op=9∨op=10∨op=11∨op=12∨op=13∨op=22∨op=23)(hv:-1099511627776<=v/\v<=1099511627776)(hw:-1099511627776<=w/\w<=1099511627776):Tri xD 292 #[pv p,.int .i64 op,.int .i64 v,.int .i64 w] V (XR V0 d p F c (qEq (qCB op v w) s)):=by
 obtain⟨G,g⟩:∃G,G=qEq (qCB op v w) s:=⟨_,rfl⟩;rw[<-g];refine Tri.mono (x292 (R:=XR V0 d p F c G) ?_) λ_ _ h=>h;have good:∀{n:Int},qCB op v w=.ok n->XR V0 d p F c G (.returned (.int .i64 n)) V:=λe=>XR.ok (by rw[g,e];rfl) M;have j:∀{n:Int},qCB op v w=big n->Tri xD 289 #[pv p,.int .i64 n] V λe V'=>∃v,e=.returned (.int .i64 v)/\XR V0 d p F c G (.returned (.int .i64 v)) V':=λe=>XR.last (by rw[g,e]) (c289 M);have i:∀{n:Int},-2199023255552<=n/\n<=2199023255552->IR n:=λh=>⟨by omega,by omega⟩;have J:=qIn (b:=w) hv;have N:=tdiv_in (b:=w) hv;refine⟨λh=>⟨i (by omega),j (by grind[qCB])⟩,λl=>⟨λh=>⟨i (by omega),j (by grind[qCB])⟩,λf=>⟨λh=>XR.last (by grind[qCB]) (c310 M hv hw),λt=>⟨λh=>⟨λk=>good ?_,λk=>good ?_⟩,λu=>⟨λh=>⟨λk=>good ?_,λk=>good ?_⟩,λz=>⟨λh=>failX M (by decide) ?_,λh0=>⟨λh=>⟨h0,?_⟩,λo=>⟨h0,good ?_⟩⟩⟩⟩⟩⟩⟩⟩;·grind[qCB]
 ·grind[qCB]
 ·grind[qCB]
 ·grind[qCB]
 ·rw[g];unfold qCB;rw[if_neg l,if_neg f,if_neg t,if_neg u,if_neg z,if_neg (by omega),if_neg (by omega),if_neg (by omega),if_neg (by omega),if_pos h];rfl
 ·grind[qCB,big]
 grind[qCB]
end
def qJJ(pr:Pr)(a b:Sl)(r:Option Int):List Value:=[Go.Sx.vS pr.name,pr.ps.v,Go.Sx.vS pr.result,pr.ls.v,pr.bs.v,a.v,b.v,.bool r.isSome,.int .i64 (r.getD 0)]
structure Gv (V0:Mem)(q:Nat)(pr:Pr)(vals:List Int):Prop where
 ex:∃a b:Sl,V0 q=some (.cells (qJJ pr a b none).toArray 259 (0,0))/\qAc V0 a 2 (pr.vars.map Fld.row)/\qAc V0 b 1 (vals.map qAf)
structure Yx (V0:Mem)(d:Ds)(p F c q:Nat)(pr:Pr)(vals:List Int)(n m:Nat)(V:Mem)(s:St):Prop where
 S:ES V0 d F
 fr:Gv V0 q pr vals
 pm:pr∈d.procs
 G:qAz d s.mm
 hv:qAh d s.mm pr.vars vals=true
 M:XM V0 d p F V s c 0
 tk:s.tk<=F
 n:F<n+s.tk
 w:BW m s
section
variable{V0 V V1:Mem}{d:Ds}{p F c q:Nat}{s:St}{pr:Pr}{vals:List Int}
theorem Yx.po{n m:Nat}(X:Yx V0 d p F c q pr vals n m V s):qCH d pr:=X.S.procs pr X.pm
theorem Yx.fit{n m:Nat}(X:Yx V0 d p F c q pr vals n (m+1) V s):s.lg.length+1<=2147483648:=by
 have h1:=X.w;have h2:=X.tk;have h3:=X.S.fuel;grind[BW]
theorem Yx.next{n m k:Nat}{V':Mem}{s':St}(X:Yx V0 d p F c q pr vals n (m+k) V s)(g:Gr F m s s')(G:qAz d s'.mm)(M:XM V0 d p F V' s' c 0):Yx V0 d p F c q pr vals n k V' s':=
 ⟨X.S,X.fr,X.pm,G,qAp (λh=>g.right h) X.hv,M,g.fu X.tk,by have:=g.tk;have:=X.n;omega,X.w.next g⟩
theorem Yx.le{n m k:Nat}(X:Yx V0 d p F c q pr vals n m V s)(h:k<=m):Yx V0 d p F c q pr vals n k V s:=⟨X.S,X.fr,X.pm,X.G,X.hv,X.M,X.tk,X.n,X.w.le h⟩
theorem Gv.sub{V':Mem}(h:Gv V0 q pr vals)(g:V0.sub V'):Gv V' q pr vals:=by
 obtain⟨a,b,h1,h2,h3⟩:=h.ex;exact⟨a,b,g _ _ h1,h2.sub g,h3.sub g⟩
theorem nodeX{u z:Int}(M:XM V0 d p F V s z u){k i:Nat}{ty v:Int}{fs:List Int}(l:s.ns[k]?=some (ty,fs))(hv:fs[i]?=some v):∃gs ns ls nd sl,V p=some (.cells (qBC d F s.tk z u s.cm (qAv s.lg) gs ns ls).toArray 119 (0,0))/\Lay V0 V gs ns ls nd s/\nd[k]?=some ⟨ty,sl,fs⟩/\IR (k:Int)/\
  ¬ns.p=none/\(0:Int)<=(k:Int)/\(k:Int)<(ns.n:Int)/\V.rowp ns.p (k*2) 2=some [.int .i64 ty,.slice sl.p sl.n sl.c]/\¬sl.p=none/\(0:Int)<=(i:Int)/\(i:Int)<(sl.n:Int)/\V.rowp sl.p (i*1) 1=some [.int .i64 v]:=by
 obtain⟨gs,ns,ls,nd,t,L⟩:=M.ex;have g:=L.nodes.rows (λ_=>rfl) (by decide);have o:=g.n_eq;obtain⟨sl,h⟩:=L.at_ l;have e:=(yw.1 h).1;obtain⟨y,-,j,-,-,H,J,f⟩:=g.get (i:=k) (by omega);rw[h]at j;cases j;have N:IR ((k:Int)):=⟨by omega,by have:=(g.succ (i:=k) (by omega)).2;omega⟩;obtain⟨Z,Y,Q,P⟩:=gAt ((L.fld _ (xv h)).rows (λ_=>rfl) (by decide)) hv;exact⟨gs,ns,ls,nd,sl,t,L,h,N,H,J,by omega,f,Z,Y,Q,P⟩
theorem nameX{n m:Nat}(X:Yx V0 d p F c q pr vals n (m+1) V s){nm t:ByteArray}(P:qBN (qAg d pr).vars nm=t)(z:t≠sE):
  Tri xD 284 #[pv p,pv q,.string nm] V (XR V0 d p F c (varX d pr vals nm s)):=by
 obtain⟨gs,ns,ls,nd,j,L⟩:=X.M.ex;obtain⟨O,A,l,h,f⟩:=X.fr.ex;have Y:=L.sub _ _ l;have I:=X.S.ds.sub L.sub;refine x284 ?_;refine⟨nn,nn,O,qAd Y 5 1 (by simp[qJJ]),(c293 (h.sub L.sub)).call ⟨_,rfl,?_⟩⟩;rcases qFO X.G X.hv X.po.vars P z with⟨i,g,v,h1,h2,h3,h4,-,o⟩|⟨i,g,v,h0,h1,h2,h3,h4,-,o⟩
 ·rw[h1];obtain⟨e,H,J,N⟩:=gAt (f.sub L.sub) h3;exact qAu (by omega) ⟨nn,nn,A,qAd Y 6 1 (by simp[qJJ]),e,H,J,_,N,XR.ok o X.M⟩
 ·rw[h0];refine qAk (by decide) ⟨nn,nn,pnn,d.gs,qAd j 2 1 (by simp[qBC]),(c293 I.globals).call ⟨_,rfl,?_⟩⟩;rw[h1];refine Tri.mono (c288 X.M X.fit) ?_;rintro _ E ⟨rfl,Q⟩;obtain⟨Z,R,B,C,u,D⟩:=Q.ex;obtain⟨e,H,J,N⟩:=gAt (D.glob.rows (λ_=>rfl) (by decide)) (i:=i) (v:=v) h3;exact⟨rfl,nn,nn,pnn,Z,qAd u 8 1 (by simp[qBC]),e,H,J,_,N,XR.ok o Q⟩
theorem c287(S:ES V0 d F){N Z:Int}(M:XM V0 d p F V s Z N){k j:Nat}{fs:List Int}{o:Ty}(Y:s.ns[k]?=some ((j:Int),fs))(e:d.types[j]?=some o){nm:ByteArray}:PP 287 [pv p,.int .i64 ((k:Int)+1),.string nm] V (.int .i64 (qFI o.fields nm)):=by
 obtain⟨gs,ns,ls,nd,f,L⟩:=M.ex;refine x287 ?_;have v:=S.ds.sub L.sub;have h:=L.nodes.rows (λ_=>rfl) (by decide);have Q:=h.n_eq;obtain⟨sl,t⟩:=L.at_ Y;have P:=(yw.1 t).1;obtain⟨y,-,u,-,-,J,O,z⟩:=h.get (i:=k) (by omega);rw[t]at u;cases u;have A:IR ((k:Int)):=⟨by omega,by have:=(h.succ (i:=k) (by omega)).2;omega⟩;have R:=v.types.n_eq;have I:=(yw.1 e).1;obtain⟨y,-,u,-,-,l,H,g⟩:=v.types.get (i:=j) (by omega);rw[e]at u;cases u;refine⟨nn,nn,pnn,d.ts,qAd f 1 1 (by simp[qBC]),nn,nn,pnn,ns,qAd f 9 1 (by simp[qBC]),?_⟩;rw[show((k:Int)+1-1)=(k:Int)by omega];exact⟨A,J,O,by omega,qAe J,_,_,z,l,H,(show(j:Int)<d.ts.n by omega),qAe l,_,_,g,(c293 (v.typesOk o (xv e)).fields).call ⟨_,rfl,rfl,rfl⟩⟩
theorem allocX{n m:Nat}(X:Yx V0 d p F c q pr vals n (m+1) V s){nm:ByteArray}(hn:qBa d nm=true):
  Tri xD 285 #[pv p,.string nm] V (XR V0 d p F c (newX d nm s)):=by
 obtain⟨gs,ns,ls,nd,u,L⟩:=X.M.ex;have P:=X.S.ds.sub L.sub;obtain⟨G,U⟩:∃G,G=newX d nm s:=⟨_,rfl⟩;rw[<-U];refine Tri.mono (x285 (R:=XR V0 d p F c G) ?_) λ_ _ h=>h;have hnn:=(L.nodes.rows (λ_=>rfl) (by decide)).n_eq;have hlen:=L.len;refine⟨nn,nn,pnn,ns,qAd u 9 1 (by simp[qBC]),λA=>failX X.M (by decide) ?_,λA=>?_⟩;·grind[newX]
 have A:¬4096<=(ns.n:Int):=A;obtain⟨f,v,H⟩:=List.any_eq_true.1 hn;have H:f.name=nm:=of_decide_eq_true H;obtain⟨j,O⟩:=xk.1 v;have o:qDw d nm=(j:Int):=H▸(qBz (qAl X.G.mem).1).2.1 j f O;have I:qAs d (j:Int)=f.fields:=qAR O rfl;refine⟨nn,nn,d.name,d.ts,d.gs,d.ps,d.ms,d.is,d.qs,d.bs,qAd u 0 8 (by simp[qBC]),(c85 P).call ⟨_,rfl,?_⟩⟩;rw[show qHu (λt:Ty=>decide (t.name=nm)) d.types=(j:Int)from o];have htn:=P.types.n_eq;have hjl:=(yw.1 O).1;obtain⟨y,-,hy,-,-,hp,hz,N⟩:=P.types.get (i:=j) (by omega);rw[O]at hy;cases hy;have B:=(P.typesOk f v).fields.n_eq;have hfl:=(lens12 X.S.valid).2 f v;refine⟨nn,nn,pnn,ns,qAd u 9 1 (by simp[qBC]),nn,nn,pnn,d.ts,qAd u 1 1 (by simp[qBC]),hp,hz,by omega,qAe hp,_,_,N,mk31 (n:=f.fs.n) rfl rfl (by omega) λg hg=>⟨⟨some ⟨g,0,none⟩,f.fs.n,f.fs.n⟩,rfl,?_⟩⟩;obtain⟨V2,C⟩:∃V2,V2=V.set g (.cells (madeCells (xe .i64 0).cells (f.fs.n*1)) 3 (0,0)):=⟨_,rfl⟩;have z:=qGB hg (n:=f.fs.n) (by omega);rw[<-C]at z⊢;have l:=z.sub _ _ u;refine⟨qAH l 9 0 1 (by simp[qBC]),pnn,nn,nn,qAH l 9 0 1 (by simp[qBC]),pnn,nn,nn,λtb D=>?_⟩;refine L.new (n:=⟨(j:Int),⟨some ⟨g,0,none⟩,f.fs.n,f.fs.n⟩,yI f.fs.n 0⟩) z D rfl rfl (by omega) λZ V3 L3 E=>⟨Z,rfl,nn,nn,pnn,?_⟩;have e:=E _ _ l (qHM u ntX L.nodes (.inr (.inl rfl)));refine StT.at2 (off:=9) e (by simp[qBC]) ?_;have M4:XM V0 d p F (V3.set p (.cells (qBC d F s.tk c 0 s.cm (qAv s.lg) gs Z ls).toArray 119 (0,0))) {s with ns:=s.ns++[((j:Int),yI f.fs.n 0)]} c 0:=
  ⟨X.M.p0,gs,Z,ls,nd++[_],Mem.set_same _ _ _,L3.put (qGY e ntX) X.M.p0 _⟩
 have K:=(L3.nodes.rows (λ_=>rfl) (by decide)).n_eq;rw[zw,xi]at K;show ¬(some (⟨p,0,none⟩:Addr):Option Addr)=none/\_;refine⟨nn,nn,pnn,Z,qAd mss 9 1 (by simp[qBC]),?_⟩;rw[show((Z.n:Nat):Int)=(s.ns.length:Int)+1 by omega];refine Tri.mono (c288 M4 X.fit) ?_;rintro _ V7 ⟨rfl,M7⟩;obtain⟨gs7,Y,ls7,T,Q,L7⟩:=M7.ex;have hn7:=(L7.nodes.rows (λ_=>rfl) (by decide)).n_eq;have J:=L7.len;have J:T.length=(s.ns++[((j:Int),yI f.fs.n 0)]).length:=J;rw[zw,xi]at J;refine⟨rfl,nn,nn,pnn,Y,qAd Q 9 1 (by simp[qBC]),?_⟩;rw[show((Y.n:Nat):Int)=(s.ns.length:Int)+1 by omega];refine XR.ok ?_ M7;rw[U];unfold newX;rw[if_neg (by omega),o,I,<-B];rfl
theorem integersX{n m:Nat}(X:Yx V0 d p F c q pr vals n m V s){e:E}{t:ByteArray}(hv:VE e)(H:E.Ok V0 e)(o:qAq d (qAg d pr) e=(t,0)):
  Tri xD 308 #[pv p,pv q,e.v] V λr V'=>r=.returned (.bool (decide (t=qAP)))/\V.sub V':=by
 obtain⟨gs,ns,ls,nd,f,L⟩:=X.M.ex;obtain⟨Y,Q,u,-,-⟩:=X.fr.ex;have J:=L.sub _ _ u;have z:=X.S.ds.sub L.sub;have j:=z.procsOk pr X.pm;obtain⟨N,i⟩:=hv;have P:=X.po.lens;have O:=(lens12 X.S.valid).1;refine x308 ?_;refine⟨nn,nn,_,_,_,_,_,_,_,_,qAd f 0 8 (by simp[qBC]),nn,nn,_,_,_,_,_,_,_,_,qAd f 0 8 (by simp[qBC]),nn,nn,_,_,_,_,_,qAd J 0 5 (by simp[qJJ]),?_⟩;refine Tri.mono (refInProc z j (by omega) (by omega)) ?_;rintro _ V1 ⟨s',rfl,g,l⟩;refine⟨_,_,rfl,qAH (g _ _ f) 0 0 8 (by simp[qBC]),nn,nn,?_⟩;have Z:=qLa (sc:=qAg d pr) (z.sub g) l e (H.sub (L.sub.trans g)) N i V1 (Mem.sub.refl _);refine Z.call ⟨_,_,rfl,λh=>⟨?_,g⟩,λh=>absurd (show(qAq d (qAg d pr) e).2=0 by rw[o]) h⟩;rw[o];rfl
theorem compareX{n m:Nat}(X:Yx V0 d p F c q pr vals n (m+1) V s){e a:E}{u:ByteArray}{v w:Int}(hv:VE e)(Q:E.Ok V0 e)(h0:e.k[0]?=some a)(A:qAq d (qAg d pr) a=(u,0))(I:e.op=14∨e.op=15∨(e.op=16/\u=qAP)∨(e.op=17/\u=qAP)):
  Tri xD 291 #[pv p,pv q,e.v,.int .i64 v,.int .i64 w] V (XR V0 d p F c (qEq (qCB e.op v w) (qLG (decide (u=qAP)) e.op s))):=by
 obtain⟨gs,ns,ls,nd,B,L⟩:=X.M.ex;obtain⟨G,P⟩:∃G,G=qEq (qCB e.op v w) (qLG (decide (u=qAP)) e.op s):=⟨_,rfl⟩;rw[<-P];obtain⟨C,k2,D,K⟩:=qDG (Q.sub L.sub) h0;have j:=xv h0;have T:s.cm+1<=16000000:=by have h1:=X.w;have h2:=X.tk;have h3:=X.S.fuel;grind[BW]
 refine Tri.mono (x291 (R:=XR V0 d p F c G) ?_) λ_ _ h=>h;refine⟨C,by decide,D,_,_,_,_,K,Tri.mono (integersX X (hv.kids a j) (Q.kids a j) A) ?_⟩;rintro _ V1 ⟨rfl,J⟩;have O:=X.M.grow J;obtain⟨U,ns1,ls1,nd1,f,L1⟩:=O.ex;have N:∀{s':St}{V2:Mem},XM V0 d p F V2 s' c 0->s'=qLG (decide (u=qAP)) e.op s->
   Br (e.op=14) (TT 309 #[uB (decide (v=w))] V2 λt z=>∃g,t=rV (uI g)/\XR V0 d p F c G (rV (uI g)) z)
   (Br (e.op=15) (TT 309 #[uB (!(decide (v=w)))] V2 λt z=>∃g,t=rV (uI g)/\XR V0 d p F c G (rV (uI g)) z)
   (Br (e.op=16) (TT 309 #[uB (decide (v<w))] V2 λt z=>∃g,t=rV (uI g)/\XR V0 d p F c G (rV (uI g)) z)
   (TT 309 #[uB (decide (v<=w))] V2 λt z=>∃g,t=rV (uI g)/\XR V0 d p F c G (rV (uI g)) z))):=λ{s' V2} M2 Z=>by
  have H:∀{x:Bool},qCB e.op v w=.ok (trI x)->Tri xD 309 #[.bool x] V2 λt z=>∃g,t=.returned (.int .i64 g)/\XR V0 d p F c G (.returned (.int .i64 g)) z:=λhx=>c309.call ⟨_,rfl,XR.ok (s:=s') (by rw[P,hx,Z];rfl) M2⟩;refine⟨λh=>H ?_,λi=>⟨λh=>H ?_,λl=>⟨λh=>H ?_,λo=>H ?_⟩⟩⟩;·rw[show e.op=14 from h];rfl
  ·rw[show e.op=15 from h];rfl
  ·rw[show e.op=16 from h];rfl
  ·have i:¬e.op=14:=i;have l:¬e.op=15:=l;have o:¬e.op=16:=o;rw[show e.op=17 by omega];rfl
 refine⟨_,rfl,λY=>?_,λY=>?_⟩
 ·have Y:u=qAP:=of_decide_eq_true Y;refine⟨nn,nn,pnn,_,qAd f 14 1 (by simp[qBC]),⟨by omega,by omega⟩,nn,nn,pnn,StT.at2 (off:=14) f (by simp[qBC]) ?_⟩;refine N (s':={s with cm:=s.cm+1}) (MA.set (row':=qBC d F s.tk c 0 ((s.cm+1:Nat):Int) (qAv s.lg)) ntX O.p0 f L1 rfl rfl rfl rfl) ?_;grind[qLG,inr]
 grind[qAP,qLG]
end
section
variable{x y:St->Rx Int}{s s1 s2:St}{acc:List Int}{k:Int}
theorem sq1_ok(h:qJM [x] [] s=.ok acc s1):∃v,x s=.ok v s1/\acc=[v]:=by
 have h:(x s).bind (λv st=>.ok [v] st)=.ok acc s1:=h;cases e:x s with
 |ok v t=>rw[e]at h;cases h;simp_all
 |bad c t=>rw[e]at h;cases h
theorem sq1_bad(h:qJM [x] [] s=.bad k s1):x s=.bad k s1:=by
 have h:(x s).bind (λv st=>.ok [v] st)=.bad k s1:=h;cases e:x s with
 |ok v t=>rw[e]at h;cases h
 |bad c t=>rw[e]at h;cases h;rfl
theorem sq2_ok(h:qJM [x,y] [] s=.ok acc s2):∃v w s1,x s=.ok v s1/\y s1=.ok w s2/\acc=[v,w]:=by
 have h:(x s).bind (λv st=>(y st).bind λw st=>.ok [v,w] st)=.ok acc s2:=h;cases e:x s with
 |ok v t=>
  rw[e]at h;have h:(y t).bind (λw st=>.ok [v,w] st)=.ok acc s2:=h;cases g:y t with
  |ok w u=>rw[g]at h;cases h;grind
  |bad c u=>rw[g]at h;cases h
 |bad c t=>rw[e]at h;cases h
theorem sq2_bad(h:qJM [x,y] [] s=.bad k s2){g:Int->Int->St->Rx Int}:((x s).bind λv st=>(y st).bind λw st=>g v w st)=.bad k s2:=by
 have h:(x s).bind (λv st=>(y st).bind λw st=>.ok [v,w] st)=.bad k s2:=h;cases e:x s with
 |ok v t=>
  rw[e]at h;have h:(y t).bind (λw st=>.ok [v,w] st)=.bad k s2:=h;cases f:y t with
  |ok w u=>rw[f]at h;cases h
  |bad c u=>
   rw[f]at h;cases h;show((y t).bind λw st=>g v w st)=_;rw[f];rfl
 |bad c t=>rw[e]at h;cases h;rfl
end
section
variable{V0 W V V1:Mem}{d:Ds}{p F c q:Nat}{s:St}{pr:Pr}{vals:List Int}
theorem XR.narrow{c:Int}{r:Rx Int}{e:Ending}(g:V0.sub W)(h:XR W d p F c r e V):XR V0 d p F c r e V:=by
 cases r with
 |ok v s=>exact⟨h.1,h.2.narrow g⟩
 |bad k s=>exact⟨h.1,h.2.1,h.2.2.narrow g⟩
theorem XR.any{c:Int}{f:FuncId}{args:Array Value}{r:Rx Int}{K:Int->Mem->Prop}(H:Tri xD f args V (XR V0 d p F c r))(h:∀v g s V',XM V0 d p F V' s c g->(g=0/\r=.ok v s∨g≠0/\v=0/\r=.bad g s)->K v V'):
  Tri xD f args V λe V'=>∃v,e=.returned (.int .i64 v)/\K v V':=
 XR.call H (λv s V' e M=>h v 0 s V' M (.inl ⟨rfl,e⟩)) λk s V' e t M=>h 0 k s V' M (.inr ⟨t,rfl,e⟩)
theorem lastW{c:Int}{f:FuncId}{args:Array Value}{G r:Rx Int}(g:V0.sub W)(t:G=r)(H:Tri xD f args V (XR W d p F c r)):Tri xD f args V λe V'=>∃v,e=.returned (.int .i64 v)/\XR V0 d p F c G (.returned (.int .i64 v)) V':=
 Tri.mono (XR.last t H) λ_ _ ⟨v,u,h⟩=>⟨v,u,h.narrow g⟩
theorem XM.fault{c:Int}{g:Int}(M:XM V0 d p F V s c g):V.rowp (sa p) ((13:Int).toNat*1) 1=some [.int .i64 g]:=by
 obtain⟨gs,ns,ls,nd,h,L⟩:=M.ex;exact qAd h 13 1 (by simp[qBC])
variable(d p F)in
def XCallC(n:Nat):Prop:=∀(V0 V:Mem)(s:St)(c i:Nat)(pr:Pr)(args:List Int)(l:Sl),ES V0 d F->d.procs[i]?=some pr->qAz d s.mm->qAh d s.mm pr.params args=true->qAc V0 l 1 (args.map qAf)->XM V0 d p F V s c 0->s.tk<=F->F<n+s.tk->BW 0 s->
 Tri xD 138 #[pv p,.int .i64 (i:Int),l.v] V (XR V0 d p F c (qCs d (qCg d F n) c i args s))
variable(d p F)in
def XExprC(n:Nat):Prop:=∀(e:E)(t:ByteArray)(V0 V:Mem)(s:St)(c q:Nat)(pr:Pr)(vals:List Int),Yx V0 d p F c q pr vals n (szE e) V s->VE e->E.Ok V0 e->qAq d (qAg d pr) e=(t,0)->
 Tri xD 255 #[pv p,pv q,e.v] V (XR V0 d p F c (evX d (qCs d (qCg d F n) c) pr vals e s))
theorem lazyX{n:Nat}{e:E}(X:Yx V0 d p F c q pr vals n (szE e) V s)(B:E.Ok V0 e){f:E->St->Rx Int}{G:Rx Int}(z:e.op=19∨e.op=20∨e.op=21){C:Cf}{b:Bool}(u:G=qDi d C pr vals b e.op e.n e.s (e.k.map f) s)
  {a a1:E} (h0:e.k[0]?=some a) (h1:e.k[1]?=some a1) (h2:e.op=21->∃a2,e.k[2]?=some a2)
  (kid:∀{i:Nat}{y:E}{V1:Mem}{s1:St},e.k[i]?=some y->(i=0/\V1=V/\s1=s∨i≠0/\∃v,f a s=.ok v s1/\XM V0 d p F V1 s1 c 0)->Tri xD 255 #[pv p,pv q,.agg #[.int .i64 y.op,.int .i64 y.n,.string y.s,.slice y.l.p y.l.n y.l.c]] V1 (XR V0 d p F c (f y s1))):
  Tri xD 286 #[pv p,pv q,e.v] V (XR V0 d p F c G):=by
 obtain⟨gs,ns,ls,nd,hat,L⟩:=X.M.ex;obtain⟨k1,k2,k3,k4⟩:=qDG (B.sub L.sub) h0;have K:∀{i:Nat}{a:E},e.k[i]?=some a->qEG (e.k.map f) i=f a:=λh=>qLr h;refine Tri.mono (x286 (R:=XR V0 d p F c G) ?_) λ_ _ h=>h;have A:∀{v:Int}{s1:St},f a s=.ok v s1->G=if e.op=19 then(if v=0 then .ok 0 s1 else f a1 s1)else if e.op=20 then(if v=0 then f a1 s1 else .ok 1 s1)else if v=0 then qEG (e.k.map f) 2 s1 else f a1 s1:=λ{v s1} hv=>by
  rcases z with h|h|h;·rw[u,cX19 h,K h0,hv,if_pos h];show(if v=0 then _ else qEG (e.k.map f) 1 s1)=_;rw[K h1]
  ·rw[u,cX20 h,K h0,hv,if_neg (by omega),if_pos h];show(if v=0 then qEG (e.k.map f) 1 s1 else _)=_;rw[K h1]
  ·rw[u,cX21 h,K h0,hv,if_neg (by omega),if_neg (by omega)];show(if v=0 then qEG (e.k.map f) 2 s1 else qEG (e.k.map f) 1 s1)=_;rw[K h1]
 have hGb:∀{k:Int}{s1:St},f a s=.bad k s1->G=.bad k s1:=λ{k s1} hv=>by
  rcases z with h|h|h;·rw[u,cX19 h,K h0,hv];rfl
  ·rw[u,cX20 h,K h0,hv];rfl
  ·rw[u,cX21 h,K h0,hv];rfl
 refine⟨k1,by decide,k3,_,_,_,_,k4,XR.any (kid h0 (.inl ⟨rfl,rfl,rfl⟩)) λv D s1 V1 o T=>⟨nn,nn,_,o.fault,λH=>?_,λH=>?_⟩⟩;rotate_left
 ·have H:¬D=0:=H;rcases T with⟨h,-⟩|⟨-,rfl,hb⟩;·omega
  grind[XR.bad]
 have H:D=0:=H;rcases T with⟨-,hv⟩|⟨h,-⟩;rotate_left;·omega
 subst H;have j:=A hv;have J:=B.sub o.sub;obtain⟨l1,l2,l3,l4⟩:=qDG J h1;have g:∀{U:Rx Int},U=f a1 s1->(¬e.l.p=none/\(0:Int)<=(1:Int)/\1<(e.l.n:Int)/\∃N Z Y Q,V1.rowp e.l.p ((1:Int).toNat*4) 4=some [uI N,uI Z,uS Y,uL Q]/\
   TT 255 #[uP (sa p),uP (sa q),uA #[uI N,uI Z,uS Y,uL Q]] V1 λe' V2=>∃P,e'=rV (uI P)/\XR V0 d p F c U (rV (uI P)) V2):=λI=>
  ⟨l1,by decide,l3,_,_,_,_,l4,XR.last I (kid h1 (.inr ⟨by decide,v,hv,o⟩))⟩
 rcases z with h|h|h
 ·rw[if_pos h]at j;refine qAk (by omega) (qAu h ⟨λt=>?_,λt=>qAk (by omega) (g ?_)⟩);·rw[if_pos (show v=0 from t)]at j;exact XR.ok j o
  simp_all
 ·rw[if_neg (by omega),if_pos h]at j;refine qAk (by omega) (qAk (by omega) (qAu h ⟨λt=>g ?_,λt=>?_⟩));·simp_all
  ·rw[if_neg (show ¬v=0 from t)]at j;exact XR.ok j o
 ·rw[if_neg (by omega),if_neg (by omega)]at j;obtain⟨a2,O⟩:=h2 h;obtain⟨m1,m2,m3,m4⟩:=qDG J O;refine qAu h ⟨λt=>⟨m1,by decide,m3,_,_,_,_,m4,XR.last ?_ (kid O (.inr ⟨by decide,v,hv,o⟩))⟩,λt=>qAk (by omega) (qAk (by omega) (g ?_))⟩;·simp_all
  simp_all
end
section
variable{V0 W V V1:Mem}{d:Ds}{p F c q:Nat}{s:St}{pr:Pr}{vals:List Int}
theorem failW{c:Int}(g:V0.sub W)(M:XM W d p F V s c 0){k:Int}(f:k≠0){G:Rx Int}(t:G=.bad k s):Tri xD 178 #[pv p,.int .i64 k] V λe V'=>∃v,e=.returned (.int .i64 v)/\XR V0 d p F c G (.returned (.int .i64 v)) V':=
 Tri.mono (failX M f t) λ_ _ ⟨v,u,h⟩=>⟨v,u,h.narrow g⟩
theorem exprX0{n:Nat}(hR:XCallC d p F n):∀(e:E)(V0 V:Mem)(s:St)(c q:Nat)(pr:Pr)(vals:List Int),Yx V0 d p F c q pr vals n (szE e) V s->VE e->E.Ok V0 e->((∃t,qAq d (qAg d pr) e=(t,0))∨(e.op=7/\∃U i,CallK d (qAg d pr) e U i))->
  Tri xD 255 #[pv p,pv q,e.v] V (XR V0 d p F c (evX d (qCs d (qCg d F n) c) pr vals e s)):=by
 intro e;induction e using E.ind with
 |h e ih=>
 intro V0 V s c q pr vals X hv he ht;have L0:=X.M.sub;obtain⟨f,hf⟩:∃f,f=evX d (qCs d (qCg d F n) c) pr vals:=⟨_,rfl⟩;obtain⟨G,Y⟩:∃G:Rx Int,G=qDi d (qCs d (qCg d F n) c) pr vals (intB d (qAg d pr) e.k) e.op e.n e.s (e.k.map f) s:=⟨_,rfl⟩;rw[evX_eq,<-hf,<-Y];have hcs:=qEy X.S.procs (qDA (F:=F) X.S.procs n) c;have hsz:=szE_eq e;have K:∀{i:Nat}{a:E},e.k[i]?=some a->qEG (e.k.map f) i=f a:=λh=>qLr h;have kid:∀{a:E}{u:ByteArray}{W V1:Mem}{s1:St},a∈e.k->qAq d (qAg d pr) a=(u,0)->V0.sub W->Yx W d p F c q pr vals n (szE a) V1 s1->Tri xD 255 #[pv p,pv q,.agg #[.int .i64 a.op,.int .i64 a.n,.string a.s,.slice a.l.p a.l.n a.l.c]] V1 (XR W d p F c (f a s1)):=λ{a u W V1 s1} hm Q O X1=>by
  rw[hf];exact ih a hm W V1 s1 c q pr vals X1 (hv.kids a hm) ((he.kids a hm).sub O) (.inl ⟨u,Q⟩)
 have snd:∀{a:E}{u:ByteArray}{s1:St}{m:Nat},a∈e.k->qAq d (qAg d pr) a=(u,0)->qAz d s1.mm->Gr F m s s1->RxP d F (szE a) s1 (f a s1) λv s'=>qBI d s'.mm u v:=λhm Q G1 B=>by
  rw[hf];exact qKy X.S.procs hcs X.po _ _ _ (hv.kids _ hm) Q G1 (qAp (λh=>B.right h) X.hv)
 have hkt:∀a∈e.k,qAq d (qAg d pr) a=((qAq d (qAg d pr) a).1,0):=λa Q=>by
  rcases ht with⟨t,ht⟩|⟨-,U,i,A⟩;·exact Prod.ext rfl ((qFP ht).1 a Q)
  ·obtain⟨j,hj⟩:=xk.1 Q;have C:=(yw.1 hj).1;rw[A.len]at C;obtain⟨u,hu,-⟩:=A.fit j a _ hj (yv C);rw[hu]
 have Z:(∃t,qEI d (qAg d pr) e t/\e.op≠7)∨(e.op=7/\∃U i,CallK d (qAg d pr) e U i):=by
  rcases ht with⟨t,ht⟩|h
  ·by_cases h7:e.op=7
   ·right;cases kindX (sc:=qAg d pr) rfl hv ht with
    |call h A hr=>grind
    |int h hn=>omega
    |bool h hn=>omega
    |nil h hn=>omega
    |var h hl hne=>omega
    |fld h=>omega
    |new h=>omega
    |neg h=>omega
    |not h=>omega
    |log h=>omega
    |and h=>omega
    |or h=>omega
    |cond h=>omega
    |eq h=>omega
    |cmp h=>omega
    |ari h=>omega
   ·exact .inl ⟨t,kindX (sc:=qAg d pr) rfl hv ht,h7⟩
  ·exact .inr h
 have hall:∀j:Nat,((e.k.take j).map szE).sum<=(e.k.map szE).sum:=λj=>by
  have:=congrArg (λl=>(l.map szE).sum) (List.take_append_drop j e.k);grind
 refine Tri.mono (x255 (R:=XR V0 d p F c G) ?_) λ_ _ h=>h;refine⟨nn,nn,_,X.M.fault,λ_=>?_,λh=>absurd rfl h⟩;have lz:(e.op=19∨e.op=20∨e.op=21)->∀{a a1:E},e.k[0]?=some a->e.k[1]?=some a1->(e.op=21->∃a2,e.k[2]?=some a2)->(∀{i:Nat}{y:E},i≠0->e.k[i]?=some y->szE a+szE y<=szE e)->
   Tri xD 286 #[pv p,pv q,e.v] V λe' V'=>∃v,e'=.returned (.int .i64 v)/\XR V0 d p F c G (.returned (.int .i64 v)) V':=λhop {a a1} h0 h1 h2 hle=>by
  refine XR.last rfl (lazyX X he hop Y h0 h1 h2 λ{i y V1 s1} hy A=>?_);have hm:=xv hy;rcases A with⟨rfl,rfl,rfl⟩|⟨hi,v,P,M1⟩
  ·rw[h0]at hy;cases hy;have:szE a<=szE e:=by grind
   exact kid hm (hkt _ hm) (Mem.sub.refl _) (X.le this)
  ·have Q:=xv h0;obtain⟨G1,B,-⟩:=(snd Q (hkt _ Q) X.G (Gr.refl s)).got P;exact kid hm (hkt _ hm) (Mem.sub.refl _) ((X.le (k:=szE a+szE y) (hle hi hy)).next B G1 M1)
 by_cases hE:e.op=1∨e.op=2∨e.op=3∨e.op=4∨e.op=6∨e.op=19∨e.op=20∨e.op=21
 ·rcases Z with⟨t,Z,h7⟩|⟨h7,-⟩;rotate_left;·omega
  cases Z with
  |int h hn=>exact qAu h (XR.ok (Y.trans (cX1 (.inl h))) X.M)
  |bool h hn=>exact qAk (by omega) (qAu h (XR.ok (Y.trans (cX1 (.inr h))) X.M))
  |nil h hn=>exact qAk (by omega) (qAk (by omega) (qAu h (XR.ok (Y.trans (cX3 h)) X.M)))
  |var h hl hne=>exact qAk (by omega) (qAk (by omega) (qAk (by omega) (qAu h (XR.last (Y.trans (cX4 h)) (nameX (X.le (k:=0+1) (by omega)) hl hne)))))
  |new h hn=>exact qAk (by omega) (qAk (by omega) (qAk (by omega) (qAk (by omega) (qAu h (XR.last (Y.trans (cX6 h)) (allocX (X.le (k:=0+1) (by omega)) hn))))))
  |@and a b h o Q hb=>
   refine qAk (by omega) (qAk (by omega) (qAk (by omega) (qAk (by omega) (qAk (by omega) (qAu h (lz (.inl h) (a:=a) (a1:=b) (by rw[o];rfl) (by rw[o];rfl) (λh=>by omega) λ{i y} hi hy=>?_))))));grind
  |@or a b h o Q hb=>
   refine qAk (by omega) (qAk (by omega) (qAk (by omega) (qAk (by omega) (qAk (by omega) (qAk (by omega) (qAu h (lz (.inr (.inl h)) (a:=a) (a1:=b) (by rw[o];rfl) (by rw[o];rfl) (λh=>by omega) λ{i y} hi hy=>?_)))))));grind
  |@cond a b c' _ u w h o Q hb A hu hw htt=>
   refine qAk (by omega) (qAk (by omega) (qAk (by omega) (qAk (by omega) (qAk (by omega) (qAk (by omega) (qAk (by omega) (qAu h (lz (.inr (.inr h)) (a:=a) (a1:=b) (by rw[o];rfl) (by rw[o];rfl) (λ_=>⟨c',by rw[o];rfl⟩) λ{i y} hi hy=>?_))))))));grind
  |fld h=>omega
  |call h=>omega
  |neg h=>omega
  |not h=>omega
  |log h=>omega
  |eq h=>omega
  |cmp h=>omega
  |ari h=>omega
 ·refine qAk (by omega) (qAk (by omega) (qAk (by omega) (qAk (by omega) (qAk (by omega) (qAk (by omega) (qAk (by omega) (qAk (by omega) ?_)))))));have hGb:∀{k:Int}{s2:St},qJM (e.k.map f) [] s=.bad k s2->G=.bad k s2:=λ{k s2} hb=>by
   have one:∀{a:E},e.k=[a]->f a s=.bad k s2:=λo=>by grind[sq1_bad]
   rcases Z with⟨t,Z,h7⟩|⟨h7,-⟩;rotate_left;·rw[Y,cX7 h7,hb];rfl
   cases Z with
   |@fld _ u a h o Q hf'=>rw[Y,cX5 h,K (a:=a) (by rw[o];rfl),one o];rfl
   |call h A hr=>omega
   |@neg a h o Q=>rw[Y,cX8 h,K (a:=a) (by rw[o];rfl),one o];rfl
   |@not a h o Q=>rw[Y,cX18 h,K (a:=a) (by rw[o];rfl),one o];rfl
   |@log a h o Q=>rw[Y,cX24 h,K (a:=a) (by rw[o];rfl),one o];rfl
   |@eq a b u w h o Q I hf'=>rw[Y,qJW (by omega),K (i:=0) (a:=a) (by rw[o];rfl),K (i:=1) (a:=b) (by rw[o];rfl)];rw[o]at hb;exact sq2_bad hb
   |@cmp a b h o Q I=>rw[Y,qJW (by omega),K (i:=0) (a:=a) (by rw[o];rfl),K (i:=1) (a:=b) (by rw[o];rfl)];rw[o]at hb;exact sq2_bad hb
   |@ari a b h o Q I=>rw[Y,qJW (by omega),K (i:=0) (a:=a) (by rw[o];rfl),K (i:=1) (a:=b) (by rw[o];rfl)];rw[o]at hb;exact sq2_bad hb
   |int h=>omega
   |bool h=>omega
   |nil h=>omega
   |var h=>omega
   |new h=>omega
   |and h=>omega
   |or h=>omega
   |cond h=>omega
  have hlen6:e.k.length<=2000:=by
   have h1:=he.rows.n_eq;rcases Z with⟨t,Z,h7⟩|⟨h7,U,i,A⟩;rotate_left;·rw[A.len];have:=qHR X.S.procs A.at_;omega
   cases Z with
   |@fld _ u a h o Q hf'=>rw[o];simp
   |call h A hr=>omega
   |@neg a h o Q=>rw[o];simp
   |@not a h o Q=>rw[o];simp
   |@log a h o Q=>rw[o];simp
   |@eq a b u w h o Q I hf'=>rw[o];simp
   |@cmp a b h o Q I=>rw[o];simp
   |@ari a b h o Q I=>rw[o];simp
   |int h=>omega
   |bool h=>omega
   |nil h=>omega
   |var h=>omega
   |new h=>omega
   |and h=>omega
   |or h=>omega
   |cond h=>omega
  refine loop3u (mk:=λs:Sl=>.slice s.p s.n s.c) (mc:=.int .i64) (b0:=⟨none,0,0⟩) (c0:=0) qBc qDY e.k.length (λj sl _ V1=>∃W acc s1,V0.sub W/\Sx.Own V0 W 3 1 sl (acc.flatMap qAf)/\XM W d p F V1 s1 c 0/\acc.length=j/\qAz d s1.mm/\Gr F ((e.k.take j).map szE).sum s s1/\(∀(i:Nat) a v,e.k[i]?=some a->acc[i]?=some v->qBI d s1.mm (qAq d (qAg d pr) a).1 v)/\
   qJM (e.k.map f) [] s=qJM ((e.k.drop j).map f) acc s1) ⟨V0,[],s,Mem.sub.refl _,Own.nil (Mem.sub.refl _) _ _,X.M,rfl,X.G,by simpa using Gr.refl s,λi a v _ h=>by simp at h,rfl⟩ ?_
  rintro j sl z V1 J hj ⟨W,acc,s1,O,ho,M1,hacc,G1,B,D,H⟩ hJ;have heW:=(he.sub O).sub M1.sub;refine⟨λhlt=>?_,λhge=>?_⟩
  ·obtain⟨a,ham,Q,hdr,C,hp,hz,hrow⟩:=heW.rows.get hlt;have hu:=hkt a ham;have hsum:((e.k.take (j+1)).map szE).sum=((e.k.take j).map szE).sum+szE a:=by grind
   have X1:Yx W d p F c q pr vals n (szE a) V1 s1:=by
    have X':=X.le (k:=((e.k.take j).map szE).sum+szE a) (by grind);exact⟨X.S.sub O,X.fr.sub O,X.pm,G1,qAp (λh=>B.right h) X.hv,M1,B.fu X.tk,by have:=B.tk;have:=X.n;omega,X'.w.next B⟩
   rw[hdr,List.map_cons]at H;have hseq':qJM (e.k.map f) [] s=(f a s1).bind λv st=>qJM ((e.k.drop (j+1)).map f) (acc++[v]) st:=H;refine⟨hp,hz,hlt,_,_,_,_,hrow,XR.any (kid ham hu O X1) λv kf s2 V2 M2 A=>λtb htb=>?_⟩;have ho2:Sx.Own V0 V2 3 1 sl (acc.flatMap qAf):=Own.moveB ho (O.trans M2.sub) λg cur _ hg=>M2.sub _ _ hg;refine qDL (s:=sl) (u:=⟨some ⟨tb,0,none⟩,1,1⟩) (xs:=acc) (ys:=[v]) rfl rfl (ho2.but.new htb (.cells #[.int .i64 v] 3 (0,0))) (qIY mss) (by simp;omega) λo3 V3 ho3=>⟨o3,rfl,?_⟩;obtain⟨W',hW',M3,ho4⟩:=M2.beside O ho ho3;refine⟨nn,nn,_,XM.fault M3,λhkf=>⟨heW.rows.succ hlt,hJ C _ _ _ ?_⟩,λhkf=>?_⟩
   ·rcases A with⟨hk0,e2⟩|⟨h,-⟩;rotate_left;·omega
    subst hk0;obtain⟨G2,g2,hv2⟩:=(snd ham hu G1 B).got e2;refine⟨W',acc++[v],s2,hW',ho4,M3,by grind,G2,by rw[hsum];exact B.trans g2,λi b w hb hw=>?_,by rw[hseq',e2];rfl⟩;by_cases hi:i<acc.length
    ·rw[List.getElem?_append_left hi]at hw;exact g2.val (D i b w hb hw)
    grind
   ·have hkf:¬kf=0:=hkf;rcases A with⟨h,-⟩|⟨-,rfl,e2⟩;·omega
    exact(XR.bad (hGb (by rw[hseq',e2];rfl)) hkf M3).narrow hW'
  ·have hdn:=(heW.rows.done hge).2;rw[List.take_of_length_le hdn]at B;rw[List.drop_eq_nil_of_le hdn]at H;have H:qJM (e.k.map f) [] s=.ok acc s1:=H;obtain⟨gs,ns,ls,nd,hat,L⟩:=M1.ex;have hd:=(X.S.sub O).ds.sub L.sub;have hoR:qAc W sl 1 (acc.map qAf):=ho.rows (λ_=>rfl) (by decide);have X1:Yx W d p F c q pr vals n 1 V1 s1:=by
    have X':=X.le (k:=(e.k.map szE).sum+1) (by omega);exact⟨X.S.sub O,X.fr.sub O,X.pm,G1,qAp (λh=>B.right h) X.hv,M1,B.fu X.tk,by have:=B.tk;have:=X.n;omega,X'.w.next B⟩
   have at_:∀{i:Nat}{v:Int}{V':Mem},acc[i]?=some v->W.sub V'->¬sl.p=none/\(0:Int)<=(i:Int)/\(i:Int)<(sl.n:Int)/\V'.rowp sl.p (i*1) 1=some [.int .i64 v]:=λh hs=>gAt (hoR.sub hs) h;rcases Z with⟨t,Z,h7⟩|⟨h,U,i,A⟩;rotate_left
   ·have N:=Y.trans (cX7 h);rw[H,A.idx]at N;have N:G=qCs d (qCg d F n) c (i:Int) acc s1:=N;refine qAk (by omega) (qAu h ⟨nn,nn,_,_,_,_,_,_,_,_,qAd hat 0 8 (by simp[qBC]),(c136 hd).call ⟨_,rfl,?_⟩⟩);rw[show qHu (λt:Pr=>decide (t.name=e.s)) d.procs=(i:Int)from A.idx];have hkn:=qDs X.S.procs A.at_;refine lastW O N (hR W V1 s1 c i U acc sl (X.S.sub O) A.at_ G1 (qAB.2 ⟨by rw[<-A.len];omega,λjj g v hg hv=>?_⟩) hoR M1 (B.fu X.tk) (by have:=B.tk;have:=X.n;omega) (X1.w.le (by omega)));have C:=(yw.1 hg).1;rw[<-A.len]at C;obtain⟨u,hu,hfit⟩:=A.fit jj _ _ (yv C) hg;have:=D jj _ v (yv C) hv;rw[hu]at this;exact(qBm X.S.valid (hkn _ (xv hg))).1 (qCe X.S.valid hfit this)
   cases Z with
   |@fld _ u a h o Q hf'=>
    have h0:e.k[0]?=some a:=by rw[o];rfl
    have N:=Y;rw[cX5 h,K h0]at N;rw[o]at H;obtain⟨v,e1,rfl⟩:=sq1_ok H;rw[e1]at N;have N:G=fldX d v e.s s1:=N;have P:=D 0 a v h0 rfl;rw[Q]at P;obtain⟨a1,a2,a3,T⟩:=at_ (i:=0) (v:=v) rfl L.sub;refine qAu h ⟨a1,by decide,a3,_,T,λhz=>failW O M1 (by decide) ?_,λhz=>?_⟩;·grind[fldX]
    have hz:¬v=0:=hz;obtain⟨k,i,jj,tt,g,fs,w,rfl,e2,e3,e4,e5,e6,e7,e8,e9,-⟩:=qFp X1.G hf' P hz;refine⟨a1,by decide,a3,_,T,(c287 X1.S M1 e2 e3).call ⟨_,rfl,a1,by decide,a3,_,T,?_⟩⟩;rw[e6];refine Tri.mono (c288 M1 (X1.fit (m:=0))) ?_;rintro _ V3 ⟨rfl,M3⟩;obtain⟨gs3,ns3,ls3,nd3,sl3,hat3,L3,-,hI,n1,n2,n3,n4,m1,m2,m3,m4⟩:=nodeX M3 (k:=k) (i:=i) e2 e8;obtain⟨b1,b2,b3,b4⟩:=at_ (i:=0) (v:=(k:Int)+1) rfl L3.sub;refine⟨rfl,nn,nn,pnn,ns3,qAd hat3 9 1 (by simp[qBC]),b1,by decide,b3,_,b4,?_⟩;rw[show((k:Int)+1-1)=(k:Int)by omega];refine⟨hI,n1,n2,n3,qAe n1,_,_,n4,m1,m2,m3,_,m4,(XR.ok ?_ M3).narrow O⟩;rw[N];unfold fldX;rw[if_neg hz,show((k:Int)+1-1).toNat=k by omega,e2];grind[xu]
   |call h A hr=>omega
   |@neg a h o Q=>
    have h0:e.k[0]?=some a:=by rw[o];rfl
    have N:=Y;rw[cX8 h,K h0]at N;rw[o]at H;obtain⟨v,e1,rfl⟩:=sq1_ok H;rw[e1]at N;have N:G=qEq (big (-v)) s1:=N;have P:=D 0 a v h0 rfl;rw[Q]at P;have:=qBe.1 P;rw[<-Int.zero_sub]at N;obtain⟨a1,a2,a3,T⟩:=at_ (i:=0) (v:=v) rfl L.sub;exact qAk (by omega) (qAk (by omega) (qAu h ⟨a1,by decide,a3,_,T,⟨by omega,by omega⟩,lastW O N (c289 M1)⟩))
   |@log a h o Q=>
    have h0:e.k[0]?=some a:=by rw[o];rfl
    have N:=Y;rw[cX24 h,K h0]at N;rw[o]at H;obtain⟨v,e1,rfl⟩:=sq1_ok H;rw[e1]at N;have N:G=.ok (qJS v) s1:=N;have P:=D 0 a v h0 rfl;rw[Q]at P;have:=qBe.1 P;obtain⟨a1,a2,a3,T⟩:=at_ (i:=0) (v:=v) rfl L.sub;exact qAk (by omega) (qAk (by omega) (qAk (by omega) (qAu h ⟨a1,by decide,a3,_,T,(c290 (by omega)).call ⟨_,rfl,(XR.ok N M1).narrow O⟩⟩)))
   |@not a h o Q=>
    have h0:e.k[0]?=some a:=by rw[o];rfl
    have N:=Y;rw[cX18 h,K h0]at N;rw[o]at H;obtain⟨v,e1,rfl⟩:=sq1_ok H;rw[e1]at N;have N:G=.ok (1-v) s1:=N;have P:=D 0 a v h0 rfl;rw[Q]at P;have:=qBd.1 P;obtain⟨a1,a2,a3,T⟩:=at_ (i:=0) (v:=v) rfl L.sub;exact qAk (by omega) (qAk (by omega) (qAk (by omega) (qAk (by omega) (qAu h ⟨a1,by decide,a3,_,T,⟨by omega,by omega⟩,(XR.ok N M1).narrow O⟩))))
   |@eq a b u w h o Q I hf'=>
    have h0:e.k[0]?=some a:=by rw[o];rfl
    have h1:e.k[1]?=some b:=by rw[o];rfl
    have N:=Y;rw[qJW (by omega),K h0,K h1]at N;have hib:intB d (qAg d pr) e.k=decide (u=qAP):=by rw[o];show decide ((qAq d (qAg d pr) a).1=qAP)=_;rw[Q]
    rw[hib]at N;rw[o]at H;obtain⟨v,y,s',e1,e2,rfl⟩:=sq2_ok H;rw[e1]at N;have N:G=(f b s').bind λw st=>qEq (qCB e.op v w) (qLG (decide (u=qAP)) e.op st):=N;rw[e2]at N;obtain⟨a1,a2,a3,T⟩:=at_ (i:=0) (v:=v) rfl L.sub;obtain⟨b1,b2,b3,b4⟩:=at_ (i:=1) (v:=y) rfl L.sub;have fin:=lastW O N (compareX (v:=v) (w:=y) (X1.le (k:=0+1) (by omega)) hv (he.sub O) h0 Q (by omega));rcases h with h|h;·exact qAk (by omega) (qAk (by omega) (qAk (by omega) (qAk (by omega) (qAk (by omega) (qAu h ⟨a1,by decide,a3,_,T,b1,by decide,b3,_,b4,fin⟩)))))
    ·exact qAk (by omega) (qAk (by omega) (qAk (by omega) (qAk (by omega) (qAk (by omega) (qAk (by omega) (qAu h ⟨a1,by decide,a3,_,T,b1,by decide,b3,_,b4,fin⟩))))))
   |@cmp a b h o Q I=>
    have h0:e.k[0]?=some a:=by rw[o];rfl
    have h1:e.k[1]?=some b:=by rw[o];rfl
    have N:=Y;rw[qJW (by omega),K h0,K h1]at N;have hib:intB d (qAg d pr) e.k=decide (qAP=qAP):=by rw[o];show decide ((qAq d (qAg d pr) a).1=qAP)=_;rw[Q]
    rw[hib]at N;rw[o]at H;obtain⟨v,y,s',e1,e2,rfl⟩:=sq2_ok H;rw[e1]at N;have N:G=(f b s').bind λw st=>qEq (qCB e.op v w) (qLG (decide (qAP=qAP)) e.op st):=N;rw[e2]at N;obtain⟨a1,a2,a3,T⟩:=at_ (i:=0) (v:=v) rfl L.sub;obtain⟨b1,b2,b3,b4⟩:=at_ (i:=1) (v:=y) rfl L.sub;have fin:=lastW O N (compareX (v:=v) (w:=y) (X1.le (k:=0+1) (by omega)) hv (he.sub O) h0 Q (by grind));rcases h with h|h;·exact qAk (by omega) (qAk (by omega) (qAk (by omega) (qAk (by omega) (qAk (by omega) (qAk (by omega) (qAk (by omega) (qAu h ⟨a1,by decide,a3,_,T,b1,by decide,b3,_,b4,fin⟩)))))))
    ·exact qAk (by omega) (qAk (by omega) (qAk (by omega) (qAk (by omega) (qAk (by omega) (qAk (by omega) (qAk (by omega) (qAk (by omega) (qAu h ⟨a1,by decide,a3,_,T,b1,by decide,b3,_,b4,fin⟩))))))))
   |@ari a b h o Q I=>
    have h0:e.k[0]?=some a:=by rw[o];rfl
    have h1:e.k[1]?=some b:=by rw[o];rfl
    have N:=Y;rw[qJW (by omega),K h0,K h1]at N;rw[o]at H;obtain⟨v,y,s',e1,e2,rfl⟩:=sq2_ok H;rw[e1]at N;have N:G=(f b s').bind λw st=>qEq (qCB e.op v w) (qLG (intB d (qAg d pr) e.k) e.op st):=N;rw[e2]at N;have N:G=qEq (qCB e.op v y) (qLG (intB d (qAg d pr) e.k) e.op s1):=N;unfold qLG at N;rw[if_neg (by omega)]at N;have P:=D 0 a v h0 rfl;have hv2:=D 1 b y h1 rfl;rw[Q]at P;rw[I]at hv2;obtain⟨a1,a2,a3,T⟩:=at_ (i:=0) (v:=v) rfl L.sub;obtain⟨b1,b2,b3,b4⟩:=at_ (i:=1) (v:=y) rfl L.sub;exact qAk (by omega) (qAk (by omega) (qAk (by omega) (qAk (by omega) (qAk (by omega) (qAk (by omega) (qAk (by omega) (qAk (by omega) (qAk (by omega) ⟨a1,by decide,a3,_,T,b1,by decide,b3,_,b4,lastW O N (c292 M1 h (qBe.1 P) (qBe.1 hv2))⟩))))))))
   |int h=>omega
   |bool h=>omega
   |nil h=>omega
   |var h=>omega
   |new h=>omega
   |and h=>omega
   |or h=>omega
   |cond h=>omega
theorem exprX{n:Nat}(h:XCallC d p F n):XExprC d p F n:=λe t V0 V s c q pr vals X hv g f=>exprX0 h e V0 V s c q pr vals X hv g (.inl ⟨t,f⟩)
end
section
variable{W V0 V V1 V':Mem}{d:Ds}{p F c q:Nat}{s:St}{pr:Pr}{vals:List Int}
structure FrX (W V0:Mem)(q:Nat)(pr:Pr)(vals:List Int)(r:Option Int):Prop where
 sub:W.sub V0
 q0:W q=none
 ex:∃a b:Sl,V0 q=some (.cells (qJJ pr a b r).toArray 259 (0,0))/\qAc W a 2 (pr.vars.map Fld.row)/\Sx.Own W V0 3 1 b (vals.flatMap qAf)
theorem FrX.gv(h:FrX W V0 q pr vals none):Gv V0 q pr vals:=by
 obtain⟨a,b,h1,h2,h3⟩:=h.ex;exact⟨a,b,h1,h2.sub h.sub,h3.rows (λ_=>rfl) (by decide)⟩
theorem qIU{b:Sl}{vs:List Value}(own:Sx.Own W V0 3 1 b vs)(q0:W q=none){x:Array Value}(t:V0 q=some (.cells x 259 (0,0)))(o:Obj):Sx.Own W (V0.set q o) 3 1 b vs:=
 Own.moveB own (own.sub.set q0 _) λg h _ f=>by
  rw[Mem.set_ne];exact f;grind
theorem frStoreX{ty:Nat}{row:Sl->Sl->Sl->List Value}{b:Sl}(own:Sx.Own W V0 3 1 b (vals.flatMap qAf))(M:MA ty V0 p row V s){i:Nat}(hi:i<vals.length){v:Int}{Q:Mem->Prop}
  (u:∀h V',Sx.Own W h 3 1 b ((vals.set i v).flatMap qAf)->MA ty h p row V' s->(∀x,¬Blk b x->h x=V0 x)->Q V'):StT (qAa b.p (i*1)) 0 [.int .i64 v] V Q:=by
 rw[Nat.mul_one];rcases own.cases0 with⟨h1,h2,h3⟩|⟨z,g,cur,h1,h2,h3,h4,j,J,l⟩
 ·rw[qAN]at h3;have:vals=[]:=by simpa using h3
  rw[this]at hi;simp at hi
 have o:b.n*1<=b.c*1:=Nat.mul_le_mul_right _ h4;have t:=own.len;rw[qAN,xd]at t;have f:V0 g≠none:=by rw[h3];simp
 rw[h1];have e:(cur.toList.take i++[xe .i64 v]++cur.toList.drop (i+1))=cur.toList.set i (.int .i64 v):=qCP _ _ _ (by simp;omega);refine StT.at2 (off:=i) (M.sub _ _ h3) (by simp;omega) (u (V0.set g _) _ ⟨own.sub.set h2 _,?_,.inr ⟨g,_,h1,h2,Mem.set_same _ _ _,h4,j,?_,?_⟩⟩ (M.poke f _) λx H=>?_);·rw[qAN,xd,List.length_set];exact t
 ·simp_all
 ·rw[show i+[xe .i64 v].length=i+1 from rfl,e];show(cur.toList.set i (.int .i64 v)).take (b.n*1)=_;rw[List.take_set,l,qAN,qAN,List.map_set]
 ·rw[Mem.set_ne];rintro rfl;exact H ⟨z,h1⟩
def PY(W:Mem)(d:Ds)(p F:Nat)(c:Int)(q:Nat)(pr:Pr)(r:Rx Rt):Ending->Mem->Prop:=λe V'=>e=.returned (.tuple #[])/\match r with
 |.ok g s=>∃h,FrX W h q pr g.1 g.2/\XM h d p F V' s c 0
 |.bad k s=>k≠0/\∃h vals f,FrX W h q pr vals f/\XM h d p F V' s c k
theorem PY.ok{c:Int}{G:Rx Rt}{rt:Rt}(h:G=.ok rt s)(g:FrX W V0 q pr rt.1 rt.2)(M:XM V0 d p F V s c 0):PY W d p F c q pr G (.returned (.tuple #[])) V:=by
 rw[h];exact⟨rfl,V0,g,M⟩
theorem PY.bad{c:Int}{G:Rx Rt}{k:Int}(g:G=.bad k s)(f:k≠0){h:Option Int}(t:FrX W V0 q pr vals h)(M:XM V0 d p F V s c k):PY W d p F c q pr G (.returned (.tuple #[])) V:=by
 rw[g];exact⟨rfl,f,V0,vals,h,t,M⟩
theorem PY.any{c:Int}{f:FuncId}{args:Array Value}{r:Rx Rt}{K:Mem->Prop}(H:Tri xD f args V (PY W d p F c q pr r))(h:∀t g z u s V',FrX W t q pr g z->XM t d p F V' s c u->(u=0/\r=.ok (g,z) s∨u≠0/\r=.bad u s)->K V'):
  Tri xD f args V λe V'=>e=.returned (.tuple #[])/\K V':=
 Tri.mono H λe V' k=>by
  cases r with
  |ok j s=>obtain⟨h1,t,h2,h3⟩:=k;grind
  |bad u s=>obtain⟨h1,i,t,g,z,h2,h3⟩:=k;grind
theorem PY.last{c:Int}{f:FuncId}{args:Array Value}{G r:Rx Rt}(t:G=r)(H:Tri xD f args V (PY W d p F c q pr r)):Tri xD f args V λe V'=>e=.returned (.tuple #[])/\PY W d p F c q pr G (.returned (.tuple #[])) V':=by
 subst t;refine PY.any H λu h i l s V' g M z=>?_;rcases z with⟨rfl,e⟩|⟨j,e⟩;·exact PY.ok e g M
 ·exact PY.bad e j g M
structure Yx1 (W V0:Mem)(d:Ds)(p F c q:Nat)(pr:Pr)(vals:List Int)(n m:Nat)(V:Mem)(s:St):Prop where
 S:ES W d F
 fr:FrX W V0 q pr vals none
 pm:pr∈d.procs
 G:qAz d s.mm
 hv:qAh d s.mm pr.vars vals=true
 M:XM V0 d p F V s c 0
 tk:s.tk<=F
 n:F<n+s.tk
 w:BW m s
theorem Yx1.po{n m:Nat}(X:Yx1 W V0 d p F c q pr vals n m V s):qCH d pr:=X.S.procs pr X.pm
theorem Yx1.cx{n m:Nat}(X:Yx1 W V0 d p F c q pr vals n m V s):Yx V0 d p F c q pr vals n m V s:=⟨X.S.sub X.fr.sub,X.fr.gv,X.pm,X.G,X.hv,X.M,X.tk,X.n,X.w⟩
theorem Yx1.next{n m k:Nat}{f:Mem}{h:List Int}{s':St}(X:Yx1 W V0 d p F c q pr vals n (m+k) V s)(g:Gr F m s s')(G:qAz d s'.mm)(t:FrX W f q pr h none)(hv:qAh d s'.mm pr.vars h=true)(M:XM f d p F V' s' c 0):Yx1 W f d p F c q pr h n k V' s':=
 ⟨X.S,t,X.pm,G,hv,M,g.fu X.tk,by have:=g.tk;have:=X.n;omega,X.w.next g⟩
theorem Yx1.le{n m k:Nat}(X:Yx1 W V0 d p F c q pr vals n m V s)(h:k<=m):Yx1 W V0 d p F c q pr vals n k V s:=⟨X.S,X.fr,X.pm,X.G,X.hv,X.M,X.tk,X.n,X.w.le h⟩
theorem Yx1.tick{n:Nat}(X:Yx1 W V0 d p F c q pr vals (n+1) 0 V s)(h:s.tk<F)(M:XM V0 d p F V' {s with tk:=s.tk+1} c 0):Yx1 W V0 d p F c q pr vals n 4000 V' {s with tk:=s.tk+1}:=
 ⟨X.S,X.fr,X.pm,⟨X.G.valid,X.G.chk,X.G.mem⟩,X.hv,M,h,by have:=X.n;grind,by have:=X.w;grind[BW]⟩
variable(d p F)in
def XSC(n:Nat):Prop:=∀(l:List S)(W V0 V:Mem)(s:St)(c q:Nat)(pr:Pr)(vals:List Int)(sl:Sl),Yx1 W V0 d p F c q pr vals n 0 V s->(∀x∈l,TyS d pr x)->(∀x∈l,S.Ok W x)->qAc W sl 5 (l.map S.row)->
 Tri xD 179 #[pv p,pv q,sl.v] V (PY W d p F c q pr (qCg d F n c pr l vals s))
variable(d p F)in
def XLoopC(n:Nat):Prop:=∀(x:S)(W V0 V:Mem)(s:St)(c q:Nat)(pr:Pr)(vals:List Int),x.op=4->Yx1 W V0 d p F c q pr vals (n+1) 0 V s->TyS d pr x->S.Ok W x->
 Tri xD 210 #[pv p,pv q,x.v] V (PY W d p F c q pr (stX d F (qCg d F n) c pr (n+1) x vals s))
variable(d p F)in
def XBodyC(n:Nat):Prop:=∀(x:S)(W V0 V:Mem)(s:St)(c q:Nat)(pr:Pr)(vals:List Int),x.op≠4->Yx1 W V0 d p F c q pr vals n 4000 V s->TyS d pr x->S.Ok W x->
 Tri xD 212 #[pv p,pv q,x.v] V (PY W d p F c q pr (qHA d F (qCg d F n) c pr (n+1) x vals s))
theorem FrX.done{g f:Int}{r:Option Int}(h:FrX W V0 q pr vals r)(M:XM V0 d p F V s f g):V.rowp (sa q) ((7:Int).toNat*1) 1=some [.bool r.isSome]:=by
 obtain⟨a,b,h1,-,-⟩:=h.ex;exact qAd (M.sub _ _ h1) 7 1 (by simp[qJJ])
theorem stsY{n:Nat}(HL:XLoopC d p F n)(HB:XBodyC d p F n):XSC d p F (n+1):=by
 intro l W V0 V s c q pr vals sl X B T C;obtain⟨f,U⟩:∃f,f=stX d F (qCg d F n) c pr (n+1):=⟨_,rfl⟩;obtain⟨G,hG⟩:∃G:Rx Rt,G=qEY f l vals s:=⟨_,rfl⟩;show Tri _ _ _ _ (PY W d p F c q pr (qEY (stX d F (qCg d F n) c pr (n+1)) l vals s));rw[<-U,<-hG];refine Tri.mono (x179 (R:=PY W d p F c q pr G) ?_) λ_ _ h=>h;refine qJe l.length (λi V1=>∃Z g s',Yx1 W Z d p F c q pr g (n+1) 0 V1 s'/\G=qEY f (l.drop i) g s') ⟨V0,vals,s,X,hG⟩ ?_;rintro i V1 J hi ⟨Z,g,s',j,Y⟩ hJ;have hr:=C.sub (j.fr.sub.trans j.M.sub);refine⟨λD=>?_,λhge=>?_⟩
 ·obtain⟨x,N,hx,hdr,hil,hp,hz,I⟩:=hr.get D;rw[S.row_eq]at I;rw[hdr]at Y;have Q:G=(f x g s').bind λr st=>match r.2 with|some _=>.ok r st|none=>qEY f (l.drop (i+1)) r.1 st:=Y
  have P:=st_snd (F:=F) (c:=c) (n:=n+1) j.S.procs (qDA j.S.procs n) j.po (B x N) j.G j.hv;rw[<-U]at P;have after:∀{V2 v:Mem}{t:List Int}{E:Option Int}{O:Int}{s2:St},FrX W v q pr t E->XM v d p F V2 s2 c O->(O=0/\f x g s'=.ok (t,E) s2∨O≠0/\f x g s'=.bad O s2)->
    (¬(some (⟨q,0,none⟩:Addr))=none/\¬(some (⟨q,0,none⟩:Addr))=none/\∃v9,V2.rowp (sa q) ((7:Int).toNat*1) 1=some [uB v9]/\
    Br (v9=true) (PY W d p F c q pr G (rT #[]) V2)
    (¬(some (⟨p,0,none⟩:Addr))=none/\¬(some (⟨p,0,none⟩:Addr))=none/\∃v10,V2.rowp (sa p) ((13:Int).toNat*1) 1=some [uI v10]/\
    Br (v10=0) (IR ((i:Int)+1)/\J [uI ((i:Int)+1)] V2) (PY W d p F c q pr G (rT #[]) V2))):=λ{V2 v t E O s2} u o K=>by
   refine⟨nn,nn,_,u.done o,λhd=>?_,λhd=>⟨nn,nn,_,o.fault,λH=>?_,λH=>?_⟩⟩
   ·rcases K with⟨rfl,L⟩|⟨hk,L⟩
    ·cases E with
     |none=>cases hd
     |some z=>exact PY.ok (rt:=(t,some z)) (by rw[Q,L];rfl) u o
    ·exact PY.bad (by rw[Q,L];rfl) hk u o
   ·have H:O=0:=H;rcases K with⟨-,L⟩|⟨hk,-⟩;rotate_left;·omega
    subst H;cases E with
    |some z=>grind
    |none=>
     obtain⟨G2,g2,q2⟩:=P.got L;exact⟨hr.succ D,hJ hil _ ⟨v,t,s2,j.next (m:=0) g2 G2 u q2.1 o,by rw[Q,L];rfl⟩⟩
   ·have H:¬O=0:=H;rcases K with⟨h,-⟩|⟨hk,L⟩;·omega
    ·exact PY.bad (by rw[Q,L];rfl) hk u o
  refine⟨hp,hz,D,_,_,_,_,_,I,λh4=>?_,λh4=>?_⟩
  ·have Hx:=HL x W Z V1 s' c q pr g h4 j (B x N) (T x N);rw[<-U,S.v_eq]at Hx;exact PY.any Hx λv t E O s2 V2 u o K=>after u o K
  ·refine Tri.mono (c211 j.S.fuel j.M) ?_;rintro e1 V2 (⟨A,rfl,o⟩|⟨A,rfl,o⟩)
   ·refine⟨_,rfl,λ_=>?_,λh=>absurd rfl h⟩;have Hx:=HB x W Z V2 _ c q pr g h4 (j.tick A o) (B x N) (T x N);have e:qHA d F (qCg d F n) c pr (n+1) x g {s' with tk:=s'.tk+1}=f x g s':=by rw[U];unfold stX;rw[qIj A];rfl
    rw[e,S.v_eq]at Hx;exact PY.any Hx λv t E O s2 V2 u o K=>after u o K
   ·refine⟨_,rfl,(λh=>by cases h),λ_=>after j.fr o (.inr ⟨by decide,?_⟩)⟩;rw[U];unfold stX;rw[qGp A];rfl
 ·rw[(hr.done hge).1]at Y;exact PY.ok Y j.fr j.M
end
section
variable{W V0 V V1 V':Mem}{d:Ds}{p F c q:Nat}{s:St}{pr:Pr}{vals:List Int}
theorem exprF{g f:Int}(M:XM V0 d p F V s f g)(t:g≠0){b:Option Addr}{e:E}:PP 255 [pv p,.pointer b,e.v] V (.int .i64 0):=by
 refine x255 ?_;exact⟨nn,nn,_,M.fault,λh=>absurd h t,λ_=>⟨rfl,rfl⟩⟩
theorem loopY{n:Nat}(hE:XExprC d p F n)(hS:XSC d p F n):XLoopC d p F n:=by
 intro x W V0 V s c q pr vals h4 X I o;obtain⟨G,T⟩:∃G:Rx Rt,G=stX d F (qCg d F n) c pr (n+1) x vals s:=⟨_,rfl⟩;rw[<-T];refine Tri.mono (S.v_eq x▸x210 (R:=PY W d p F c q pr G) ?_) λ_ _ h=>h;have hF:=X.S.fuel;have L:=qDA (F:=F) X.S.procs n;cases kindS I with
 |@loop a h he hv ht=>
  have h0:x.es[0]?=some a:=by rw[he];rfl
  obtain⟨-,-,-,H,-⟩:=I.parts;have hG:G=(qIc F s).bind λ_ st=>whX d F (qCg d F n) c pr a x.ls (n+1) vals st:=by
   grind[stX,qHA]
  refine⟨λm xs V2=>xs=[]/\∃j g s',Yx1 W j d p F c q pr g (n+1) 0 V2 s'/\F<m+(s'.tk+1)/\G=(qIc F s').bind λ_ st=>whX d F (qCg d F n) c pr a x.ls m g st,n+1,⟨rfl,V0,vals,s,X,by have:=X.n;omega,hG⟩,?_⟩;rintro m V2 ⟨-,j,g,s',D,hm,B⟩ J hJ;refine Tri.mono (c211 hF D.M) ?_;rintro e1 V3 (⟨e,rfl,U⟩|⟨e,rfl,U⟩);rotate_left
  ·refine⟨_,rfl,(λh=>by cases h),λ_=>PY.bad (s:=s') ?_ (by decide) D.fr U⟩;rw[B,qGp e];rfl
  have u:=D.tick e U;have Y:G=whX d F (qCg d F n) c pr a x.ls m g {s' with tk:=s'.tk+1}:=by rw[B,qIj e];rfl
  obtain⟨m,rfl⟩:∃m',m=m'+1:=⟨m-1,by omega⟩;rw[whX]at Y;have hp:=qBw hv;obtain⟨k1,k3,k4⟩:=esAt (o.sub (u.fr.sub.trans u.M.sub)) h0;have HE:=hE a qAw j V3 _ c q pr g (u.cx.le (k:=szE a) (by omega)) hp.1 ((o.eOk a (xv h0)).sub u.fr.sub) ht;refine⟨_,rfl,λ_=>⟨k1,by decide,k3,_,_,_,_,k4,XR.any HE λv kf s2 V4 E C=>?_⟩,λh=>absurd rfl h⟩;rcases C with⟨rfl,K⟩|⟨Q,rfl,K⟩;rotate_left;·exact qAu rfl (PY.bad (by rw[Y];unfold evS;rw[K];rfl) Q u.fr E)
  obtain⟨G2,g2,q2⟩:=(qEw (F:=F) (c:=c) u.S.procs L u.po hv ht u.G u.hv).got K;have f:G=if v=0 then .ok (g,none) s2 else(qCg d F n c pr x.ls g s2).bind λr st=>match r.2 with|some _=>.ok r st|none=>(qIc F st).bind λ_ st=>whX d F (qCg d F n) c pr a x.ls m r.1 st:=by
   rw[Y];unfold evS;rw[K];rfl
  have O:Yx1 W j d p F c q pr g n 0 V4 s2:=(u.le (k:=1000+0) (by omega)).next g2 G2 u.fr (qAp (λh=>g2.right h) u.hv) E;refine⟨λhz=>?_,λhz=>⟨nn,nn,_,E.fault,λ_=>?_,λh=>absurd rfl h⟩⟩
  ·rw[if_pos (show v=0 from hz)]at f;exact PY.ok f O.fr E
  rw[if_neg (show ¬v=0 from hz)]at f;have P:=L c pr x.ls g s2 O.po H O.G O.hv;refine PY.any (hS x.ls W j V4 s2 c q pr g x.ll O H o.lOk o.lRows) λV2' i rv kf s3 V5 l A C=>?_;refine⟨nn,nn,_,l.done A,λhd=>?_,λhd=>⟨nn,nn,_,A.fault,λt=>?_,λt=>?_⟩⟩
  ·rcases C with⟨rfl,N⟩|⟨Q,N⟩
   ·cases rv with
    |none=>cases hd
    |some z=>exact PY.ok (rt:=(i,some z)) (by rw[f,N];rfl) l A
   ·exact PY.bad (by rw[f,N];rfl) Q l A
  ·have t:kf=0:=t;rcases C with⟨-,N⟩|⟨Q,-⟩;rotate_left;·omega
   subst t;cases rv with
   |some z=>grind
   |none=>
    obtain⟨G3,g3,q3⟩:=P.got N;have t2:=g2.tk;have t3:=g3.tk;have hn1:=D.n;have ht2:s'.tk+1<=s2.tk:=t2;refine hJ m _ _ (by omega) ⟨rfl,V2',i,s3,?_,by omega,by rw[f,N];rfl⟩;have Z:=O.next (m:=0) (k:=0) g3 G3 l q3.1 A;exact⟨Z.S,Z.fr,Z.pm,Z.G,Z.hv,Z.M,Z.tk,by omega,Z.w⟩
  ·have t:¬kf=0:=t;rcases C with⟨h,-⟩|⟨Q,N⟩;·omega
   ·exact PY.bad (by rw[f,N];rfl) Q l A
 |set h=>omega
 |put h=>omega
 |cond h=>omega
 |ret0 h=>omega
 |ret1 h=>omega
 |call h=>omega
theorem retY{f t:Int}(h:FrX W V0 q pr vals none)(M:XM V0 d p F V s t f){v:Int}{Q:Mem->Prop}(u:∀g V',FrX W g q pr vals (some v)->XM g d p F V' s t f->Q V'):
  StT (qAa (sa q) 8) 0 [.int .i64 v] V λV2=>¬(some (⟨q,0,none⟩:Addr))=none/\¬(some (⟨q,0,none⟩:Addr))=none/\StT (qAa (sa q) 7) 0 [.bool true] V2 Q:=by
 obtain⟨a,b,h1,h2,h3⟩:=h.ex;have z:V0 q≠none:=by rw[h1];simp
 refine StT.at2 (off:=8) (M.sub _ _ h1) (by simp[qJJ]) ⟨nn,nn,StT.at2 (off:=7) mss (by simp[qJJ]) ?_⟩;have j:=qIU h3 h.q0 h1 (.cells ((qJJ pr a b none).toArray.toList.take 8++[xe .i64 v]++(qJJ pr a b none).toArray.toList.drop (8+[xe .i64 v].length)).toArray 259 (0,0));have i:=qIU j h.q0 mss (.cells (qJJ pr a b (some v)).toArray 259 (0,0));have l:=M.poke z (.cells ((qJJ pr a b none).toArray.toList.take 8++[xe .i64 v]++(qJJ pr a b none).toArray.toList.drop (8+[xe .i64 v].length)).toArray 259 (0,0));have o:=l.poke (b:=q) (by rw[Mem.set_same];simp) (.cells (qJJ pr a b (some v)).toArray 259 (0,0));exact u _ _ ⟨(h.sub.set h.q0 _).set h.q0 _,h.q0,a,b,Mem.set_same _ _ _,h2,i⟩ o
theorem retY0{f t:Int}(h:FrX W V0 q pr vals none)(M:XM V0 d p F V s t f){Q:Mem->Prop}(u:∀g V',FrX W g q pr vals (some 0)->XM g d p F V' s t f->Q V'):
  StT (qAa (sa q) 7) 0 [.bool true] V Q:=by
 obtain⟨a,b,h1,h2,h3⟩:=h.ex;have z:V0 q≠none:=by rw[h1];simp
 refine StT.at2 (off:=7) (M.sub _ _ h1) (by simp[qJJ]) ?_;have j:=qIU h3 h.q0 h1 (.cells (qJJ pr a b (some 0)).toArray 259 (0,0));have i:=M.poke z (.cells (qJJ pr a b (some 0)).toArray 259 (0,0));exact u _ _ ⟨h.sub.set h.q0 _,h.q0,a,b,Mem.set_same _ _ _,h2,j⟩ i
theorem bodyY{n:Nat}(hE:XExprC d p F n)(hR:XCallC d p F n)(hS:XSC d p F n):XBodyC d p F n:=by
 intro x W V0 V s c q pr vals h4 O hty o;obtain⟨G,Z⟩:∃G:Rx Rt,G=qHA d F (qCg d F n) c pr (n+1) x vals s:=⟨_,rfl⟩;rw[<-Z];refine Tri.mono (S.v_eq x▸x212 (R:=PY W d p F c q pr G) ?_) λ_ _ h=>h;have hcs:=qDA (F:=F) O.S.procs n;have ex:∀{i:Nat}{a:E}{u:ByteArray}{V2 J:Mem}{f:List Int}{s2:St}{m:Nat},x.es[i]?=some a->qAM a=true->qAq d (qAg d pr) a=(u,0)->Yx1 W J d p F c q pr f n m V2 s2->1000<=m->
   Tri xD 255 #[pv p,pv q,.agg #[.int .i64 a.op,.int .i64 a.n,.string a.s,.slice a.l.p a.l.n a.l.c]] V2 (XR J d p F c (evS d (qCg d F n) c pr f a s2)):=λ{i a u V2 J f s2 m} h0 hv ha H hm=>by
  have hp:=qBw hv;exact hE a u J V2 s2 c q pr f (H.cx.le (by omega)) hp.1 ((o.eOk a (xv h0)).sub H.fr.sub) ha
 have go:∀{a:E}{u:ByteArray}{V2 V3 J:Mem}{f:List Int}{s2 D:St}{m:Nat}{v:Int},qAM a=true->qAq d (qAg d pr) a=(u,0)->Yx1 W J d p F c q pr f n (1000+m) V2 s2->evS d (qCg d F n) c pr f a s2=.ok v D->XM J d p F V3 D c 0->
   Yx1 W J d p F c q pr f n m V3 D/\qBI d D.mm u v/\Gr F 1000 s2 D:=λ{a u V2 V3 J f s2 D m v} hv ha H e M3=>by
  obtain⟨G3,g3,q3⟩:=(qEw (F:=F) (c:=c) H.S.procs hcs H.po hv ha H.G H.hv).got e;exact⟨H.next g3 G3 H.fr (qAp (λh=>g3.right h) H.hv) M3,q3,g3⟩
 unfold qHA at Z;have X:=O.fr.sub.trans O.M.sub;cases kindS hty with
 |@set a u t h A hv U hl hne hf=>
  rw[if_pos h,A,xp]at Z;have h0:x.es[0]?=some a:=by rw[A];rfl
  obtain⟨k1,k3,k4⟩:=esAt (o.sub X) h0;refine qAu h ⟨k1,by decide,k3,_,_,_,_,k4,XR.any (ex h0 hv U O (by omega)) λv kf s2 V2 Y B=>?_⟩;refine x256 ?_;refine⟨nn,nn,_,Y.fault,λN=>?_,λN=>?_⟩;rotate_left
  ·rcases B with⟨h,-⟩|⟨I,-,P⟩;·omega
   ·exact⟨rfl,PY.bad (by rw[Z,P];rfl) I O.fr Y⟩
  have N:kf=0:=N;rcases B with⟨-,P⟩|⟨I,-⟩;rotate_left;·exact absurd N I
  subst N;rw[P]at Z;have C:G=setX d pr x.s v vals s2:=Z;obtain⟨H,hv2,-⟩:=go (m:=3000) hv U O P Y;obtain⟨fa,fb,hq0,hra0,K⟩:=H.fr.ex;have hq:=Y.sub _ _ hq0;refine⟨nn,nn,fa,qAd hq 5 1 (by simp[qJJ]),(c293 (hra0.sub (H.fr.sub.trans Y.sub))).call ⟨_,rfl,?_⟩⟩;unfold setX at C;rcases qFO H.G H.hv H.po.vars hl hne with⟨i,g,w,h1,h2,h3,h4,-⟩|⟨i,g,w,h0',h1,h2,h3,h4,-⟩
  ·rw[h1];rw[if_pos (by omega),h1,xu]at C;have T:=(yw.1 h3).1;obtain⟨g1,g2,g3,-⟩:=gAt (K.rows (λ_=>rfl) (by decide)) h3;refine qAu (by omega) ⟨nn,nn,fb,qAd hq 6 1 (by simp[qJJ]),g1,g2,g3,frStoreX K Y T λJ V' ho M' hx=>?_⟩;refine⟨rfl,PY.ok (rt:=(vals.set i v,none)) C ⟨ho.sub,H.fr.q0,fa,fb,?_,hra0,ho⟩ M'⟩;rw[hx];exact hq0;exact K.apart λcur hcq=>by
    simp_all
  ·rw[h0'];rw[if_neg (by omega),h1,xu]at C;obtain⟨gs,ns,ls,nd,hat,L⟩:=Y.ex;have hd:=(H.S.sub H.fr.sub).ds.sub L.sub;refine qAk (by decide) ⟨nn,nn,pnn,d.gs,qAd hat 2 1 (by simp[qBC]),(c293 hd.globals).call ⟨_,rfl,?_⟩⟩;rw[h1];refine Tri.mono (c288 Y (Yx.fit (m:=0) (H.cx.le (by omega)))) ?_;rintro _ V5 ⟨rfl,M5⟩;obtain⟨gs5,ns5,ls5,nd5,Q,L5⟩:=M5.ex;obtain⟨g1,g2,g3,-⟩:=gAt (L5.glob.rows (λ_=>rfl) (by decide)) (i:=i) (v:=w) h3;have T:=(yw.1 h3).1;refine⟨rfl,nn,nn,pnn,gs5,qAd Q 8 1 (by simp[qBC]),g1,g2,g3,L5.setG (i:=i) T λV6 L6 hk6=>?_⟩;refine⟨rfl,PY.ok (V0:=V0) (rt:=(vals,none)) C H.fr (MA.mk M5.p0 ⟨gs5,ns5,ls5,nd5,?_,L6⟩)⟩;rw[hk6 _ (qHM Q ntX L5.glob (.inl rfl))];exact Q
 |@put a b u w t h A hv hw ha U hl hf=>
  rw[if_neg (by omega),if_pos h,A,xp,List.getD_cons_succ,xp]at Z;have h0:x.es[0]?=some a:=by rw[A];rfl
  have h1:x.es[1]?=some b:=by rw[A];rfl
  obtain⟨k1,k3,k4⟩:=esAt (o.sub X) h0;refine qAk (by omega) (qAu h ?_);refine x257 ?_;refine⟨k1,by decide,k3,_,_,_,_,k4,XR.any (ex h0 hv ha O (by omega)) λv kf s2 V2 Y B=>?_⟩;obtain⟨l1,l3,l4⟩:=esAt (o.sub (O.fr.sub.trans Y.sub)) h1;refine⟨l1,by decide,l3,_,_,_,_,l4,?_⟩;rcases B with⟨rfl,P⟩|⟨I,-,P⟩;rotate_left;·exact(exprF Y I (e:=b)).call ⟨_,rfl,nn,nn,_,Y.fault,λh=>absurd h I,λ_=>⟨rfl,PY.bad (by rw[Z,P];rfl) I O.fr Y⟩⟩
  rw[P]at Z;obtain⟨H,hv2,-⟩:=go (m:=3000) hv ha O P Y;refine XR.any (ex h1 hw U H (by omega)) λy kf D V3 M3 B=>⟨nn,nn,_,M3.fault,λN=>?_,λN=>?_⟩;rotate_left
  ·rcases B with⟨h,-⟩|⟨I,-,e3⟩;·omega
   ·exact⟨rfl,PY.bad (by rw[Z];show((evS d (qCg d F n) c pr vals b s2).bind _)=_;rw[e3];rfl) I H.fr M3⟩
  have N:kf=0:=N;rcases B with⟨-,e3⟩|⟨I,-⟩;rotate_left;·exact absurd N I
  subst N;have hG3:G=(putX d v y x.s D).bind λ_ st=>.ok (vals,none) st:=by rw[Z];show((evS d (qCg d F n) c pr vals b s2).bind _)=_;rw[e3];rfl
  obtain⟨X3,hv3,g3⟩:=go (m:=2000) hw U H e3 M3;have hv2:=g3.val hv2;refine⟨λN=>?_,λN=>?_⟩
  ·refine Tri.mono (c178 M3) ?_;rintro _ V4 ⟨rfl,M4⟩;refine⟨_,rfl,rfl,PY.bad (s:=D) (k:=17) ?_ (by decide) X3.fr M4⟩;rw[hG3];unfold putX;rw[if_pos (show v=0 from N)];rfl
  have N:¬v=0:=N;obtain⟨k,i,j,tt,g,fs,z,rfl,f2,f3,f4,f5,f6,f7,f8,-⟩:=qFp X3.G hl hv2 N;have hG4:G=.ok (vals,none) {D with ns:=D.ns.set k ((j:Int),fs.set i y),lg:=D.lg++[(2,(k:Int)+1,(i:Int))]}:=by
   rw[hG3];unfold putX;rw[if_neg N,show((k:Int)+1-1).toNat=k by omega,f2];simp only;rw[f5,f6,xu];rfl
  refine(c287 (X3.S.sub X3.fr.sub) M3 f2 f3).call ⟨_,rfl,?_⟩;rw[f6];refine Tri.mono (c288 M3 (Yx.fit (m:=0) (X3.cx.le (by omega)))) ?_;rintro _ V5 ⟨rfl,M5⟩;obtain⟨gs5,ns5,ls5,nd5,sl5,Q,L5,hnd5,hI,n1,n2,n3,n4,m1,m2,m3,m4⟩:=nodeX M5 (k:=k) (i:=i) f2 f8;have T:=(yw.1 f8).1;rw[show((k:Int)+1-1)=(k:Int)by omega];refine⟨rfl,nn,nn,pnn,ns5,qAd Q 9 1 (by simp[qBC]),hI,n1,n2,n3,qAe n1,_,_,n4,m1,m2,m3,L5.setF hnd5 T λV6 L6 hk6=>?_⟩;refine⟨rfl,PY.ok (V0:=V0) (rt:=(vals,none)) hG4 X3.fr (MA.mk M5.p0 ⟨gs5,ns5,ls5,_,?_,L6⟩)⟩;rw[hk6 _ (qHM Q ntX (L5.fld _ (xv hnd5)) (.inl rfl))];exact Q
 |@cond a h A hv U=>
  rw[if_neg (by omega),if_neg (by omega),if_pos h,A,xp]at Z;have h0:x.es[0]?=some a:=by rw[A];rfl
  obtain⟨k1,k3,k4⟩:=esAt (o.sub X) h0;obtain⟨-,-,-,hlt1,hlt2⟩:=hty.parts;refine qAk (by omega) (qAk (by omega) (qAu h ⟨k1,by decide,k3,_,_,_,_,k4,XR.any (ex h0 hv U O (by omega)) λv kf s2 V2 Y B=>⟨nn,nn,_,Y.fault,λN=>?_,λN=>?_⟩⟩));rotate_left
  ·rcases B with⟨h,-⟩|⟨I,-,P⟩;·omega
   ·exact PY.bad (by rw[Z,P];rfl) I O.fr Y
  have N:kf=0:=N;rcases B with⟨-,P⟩|⟨I,-⟩;rotate_left;·omega
  subst N;rw[P]at Z;have C:G=if v=0 then qCg d F n c pr x.xs vals s2 else qCg d F n c pr x.ls vals s2:=Z
  obtain⟨H,-,-⟩:=go (m:=3000) hv U O P Y;refine⟨λN=>PY.last ?_ (hS x.xs W V0 V2 s2 c q pr vals x.xl (H.le (by omega)) hlt2 o.xOk o.xRows),λN=>PY.last ?_ (hS x.ls W V0 V2 s2 c q pr vals x.ll (H.le (by omega)) hlt1 o.lOk o.lRows)⟩;·simp_all
  simp_all
 |loop h=>exact absurd h h4
 |ret0 h A hr=>
  rw[if_neg (by omega),if_neg (by omega),if_neg (by omega),if_neg (by omega),if_pos h,A]at Z;have hn:=(o.sub X).eRows.n_eq;rw[A]at hn;refine qAk (by omega) (qAk (by omega) (qAk (by omega) (qAu h (qAk (by rw[hn];decide) ⟨nn,nn,retY0 O.fr O.M λJ V' hf M'=>?_⟩))));exact PY.ok (rt:=(vals,some 0)) Z hf M'
 |@ret1 a u h A hv U hr hf=>
  rw[if_neg (by omega),if_neg (by omega),if_neg (by omega),if_neg (by omega),if_pos h,A]at Z;have h0:x.es[0]?=some a:=by rw[A];rfl
  have hn:=(o.sub X).eRows.n_eq;rw[A]at hn;obtain⟨k1,k3,k4⟩:=esAt (o.sub X) h0;refine qAk (by omega) (qAk (by omega) (qAk (by omega) (qAu h (qAu (by rw[hn];rfl) ⟨k1,by decide,k3,_,_,_,_,k4,XR.any (ex h0 hv U O (by omega)) λv kf s2 V2 Y B=>⟨nn,nn,retY O.fr Y λJ V' hf M'=>?_⟩⟩))));rcases B with⟨rfl,P⟩|⟨I,-,P⟩;·exact PY.ok (rt:=(vals,some v)) (by rw[Z];show(evS d (qCg d F n) c pr vals a s).bind _=_;rw[P];rfl) hf M'
  ·exact PY.bad (by rw[Z];show(evS d (qCg d F n) c pr vals a s).bind _=_;rw[P];rfl) I hf M'
 |@call a pr' i h A hv ho B=>
  rw[if_neg (by omega),if_neg (by omega),if_neg (by omega),if_neg (by omega),if_neg (by omega),if_pos h,A,xp]at Z;have h0:x.es[0]?=some a:=by rw[A];rfl
  obtain⟨k1,k3,k4⟩:=esAt (o.sub X) h0;have hp:=qBw hv;refine qAk (by omega) (qAk (by omega) (qAk (by omega) (qAk (by omega) (qAu h ⟨k1,by decide,k3,_,_,_,_,k4,XR.any (exprX0 hR a V0 V s c q pr vals (O.cx.le (by omega)) hp.1 ((o.eOk a (xv h0)).sub O.fr.sub) (.inr ⟨ho,pr',i,B⟩)) λv kf s2 V2 Y hcc=>?_⟩))));rcases hcc with⟨rfl,P⟩|⟨I,-,P⟩;·exact PY.ok (rt:=(vals,none)) (by rw[Z];unfold evS;rw[P];rfl) O.fr Y
  ·exact PY.bad (by rw[Z];unfold evS;rw[P];rfl) I O.fr Y
end
end Go.Proofs
