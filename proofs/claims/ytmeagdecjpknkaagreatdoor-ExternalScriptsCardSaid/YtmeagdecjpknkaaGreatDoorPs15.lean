/- Part 15: no statement of the seat is proved here. -/
import Derived.Test.YtmeagdecjpknkaaGreatDoorPs13
import Derived.Test.YtmeagdecjpknkaaGreatDoorPs14
import Derived.Test.YtmeagdecjpknkaaGreatDoorPs12
set_option linter.unusedVariables false
set_option linter.unusedSimpArgs false
open Go.Proofs.Tryz renaming prog->xE,underlying31->wj,underlying3->wi
open Go.IntKind renaming wrap->xF
open List renaming getElem?_eq_some_iff->yv,mem_of_getElem?->xp,replicate->yJ,map_replicate->wk,take_of_length_le->wx,getElem?_eq_getElem->yu,length_append->zw,length_singleton->xe,length_map->x7,getD_cons_zero->xk
open Go.Ending renaming returned->xH
open Go.Value renaming int->xa
open Int renaming toNat_natCast->xo
open Nat renaming log2->wu
namespace Go.Proofs
open Go Go.Sx
attribute [local irreducible] Go.Sx.Tri
def fltE(e:Int):Ending:=.panicked [{v:=.iface 201 (.agg #[.int .i64 e]),recovered:=false}]
theorem GenK.panE{ty:Nat}{vals:Operand->Value}{V:Mem}{x:Operand}{e:Int}(k:vals x=.agg #[.int .i64 e]){R:Ending->Mem->Prop}(h:R (fltE e) V):
  GenK xE (.makeInterface 201 x) ty vals V λy V1=>∃v,K.r.ok v/\y=v/\∃t x,K.cast .r v=.iface t x/\R (.panicked [{v:=.iface t x,recovered:=false}]) V1:=
 GenK.iface Tryz.underlying201 k ⟨.iface 201 (.agg #[.int .i64 e]),(rfl:K.cast .r (.iface 201 (.agg #[.int .i64 e]))=_),rfl,_,_,rfl,h⟩
def qCb(d:Ds)(F tk c cm:Int)(gs ns ls:Sl):List Value:=[Go.Sx.vS d.name,d.ts.v,d.gs.v,d.ps.v,d.ms.v,d.is.v,d.qs.v,d.bs.v,gs.v,ns.v,.int .i64 F,.int .i64 tk,.int .i64 c,.int .i64 cm,ls.v]
abbrev EM(V0:Mem)(d:Ds)(p F:Nat)(V:Mem)(s:St)(c:Nat):Prop:=MA 128 V0 p (qCb d F s.tk c s.cm) V s
theorem ntE:NT 128:=by unfold NT;decide
structure ES (V0:Mem)(d:Ds)(F:Nat):Prop where
 ds:Ds.Ok V0 d
 valid:qAG d=true
 procs:∀p∈d.procs,qCV d p
 fuel:F<=4000
theorem ES.sub{V0 W:Mem}{d:Ds}{F:Nat}(h:ES V0 d F)(k:V0.sub W):ES W d F:=⟨h.ds.sub k,h.valid,h.procs,h.fuel⟩
def PX(V0:Mem)(d:Ds)(p F c:Nat)(r:Rx Int):Ending->Mem->Prop:=λe V'=>match r with
 |.ok v s=>e=.returned (.int .i64 v)/\EM V0 d p F V' s c
 |.bad k s=>e=fltE k/\∃h,EM V0 d p F V' s h
def PB(r:Rs)(V:Mem):Ending->Mem->Prop:=λe V'=>V'=V/\e=match r with|.ok v=>.returned (.int .i64 v)|.bad k=>fltE k
section
variable{V0 V V1:Mem}{d:Ds}{p F c:Nat}{s:St}
theorem c162{k:Int}{a:Option Addr}:Tri xE 162 #[.pointer a,.int .i64 k] V λe V'=>e=fltE k/\V'=V:=by
 refine x162 ?_;exact GenK.panE (e:=k) (R:=λe V'=>e=fltE k/\V'=V) rfl ⟨rfl,rfl⟩
theorem qKt{k:Int}{a:Option Addr}{K:Mem->Prop}{R:Ending->Mem->Prop}(h:R (fltE k) V):Tri xE 162 #[.pointer a,.int .i64 k] V λe V'=>(e=.returned (.tuple #[])/\K V')∨∃g,e=.panicked g/\R e V':=
 Tri.mono c162 λ_ _ ⟨f,t⟩=>.inr ⟨_,f,by simp_all⟩
theorem PX.split{f:FuncId}{args:Array Value}{r:Rx Int}{K:Int->Mem->Prop}{R:Ending->Mem->Prop}(H:Tri xE f args V (PX V0 d p F c r))(t:∀k s g V',r=.bad k s->EM V0 d p F V' s g->R (fltE k) V')(u:∀v s V',r=.ok v s->EM V0 d p F V' s c->K v V'):
  Tri xE f args V λe V'=>(∃v,e=.returned (.int .i64 v)/\K v V')∨∃z,e=.panicked z/\R e V':=
 Tri.mono H λe V' h=>by
  cases r with
  |ok v s=>exact .inl ⟨v,h.1,u v s V' rfl h.2⟩
  |bad k s=>
   obtain⟨y,g,hm⟩:=h;subst y;exact .inr ⟨_,rfl,t k s g V' rfl hm⟩
theorem PB.split{f:FuncId}{args:Array Value}{r:Rs}{K:Int->Mem->Prop}{R:Ending->Mem->Prop}(H:Tri xE f args V (PB r V))(h:∀k,r=.bad k->R (fltE k) V)(z:∀v,r=.ok v->K v V):
  Tri xE f args V λe V'=>(∃v,e=.returned (.int .i64 v)/\K v V')∨∃g,e=.panicked g/\R e V':=
 Tri.mono H λe V' ⟨t,u⟩=>by
  subst t;cases r with
  |ok v=>simp_all
  |bad k=>subst u;exact .inr ⟨_,rfl,h k rfl⟩
theorem PX.bind{f:FuncId}{args:Array Value}{G r:Rx Int}{h:Int->St->Rx Int}{K:Int->Mem->Prop}(g:G=r.bind h)(H:Tri xE f args V (PX V0 d p F c r))(t:∀v s V',r=.ok v s->EM V0 d p F V' s c->G=h v s->K v V'):
  Tri xE f args V λe V'=>(∃v,e=.returned (.int .i64 v)/\K v V')∨∃u,e=.panicked u/\PX V0 d p F c G e V':=
 PX.split H (λk s z V' e hm=>by subst e;rw[g];exact⟨rfl,z,hm⟩) λv s V' e hm=>t v s V' e hm (by rw[g,e];rfl)
theorem PX.ok{G:Rx Int}{v:Int}(h:G=.ok v s)(M:EM V0 d p F V s c):PX V0 d p F c G (.returned (.int .i64 v)) V:=by rw[h];exact⟨rfl,M⟩
theorem PX.bad{G:Rx Int}{k:Int}(h:G=.bad k s)(M:EM V0 d p F V s c):PX V0 d p F c G (fltE k) V:=by rw[h];exact⟨rfl,c,M⟩
theorem PX.last{f:FuncId}{args:Array Value}{G r:Rx Int}(h:G=r)(H:Tri xE f args V (PX V0 d p F c r)):
  Tri xE f args V λe V'=>(∃v,e=.returned (.int .i64 v)/\PX V0 d p F c G (.returned (.int .i64 v)) V')∨∃g,e=.panicked g/\PX V0 d p F c G e V':=by
 subst h;exact PX.split H (λk s t V' e hm=>by rw[e];exact⟨rfl,t,hm⟩) λv s V' e hm=>by rw[e];exact⟨rfl,hm⟩
theorem PB.last{f:FuncId}{args:Array Value}{G:Rx Int}{r:Rs}(h:G=qEB r s)(M:EM V0 d p F V s c)(H:Tri xE f args V (PB r V)):
  Tri xE f args V λe V'=>(∃v,e=.returned (.int .i64 v)/\PX V0 d p F c G (.returned (.int .i64 v)) V')∨∃g,e=.panicked g/\PX V0 d p F c G e V':=
 PB.split H (λk e=>PX.bad (by rw[h,e];rfl) M) λv e=>PX.ok (by rw[h,e];rfl) M
theorem c276{b t:Nat}{s:KB}(h:V b=some (cell (.string s) t)){x:Fld}:PP 276 [x.v,pv b] V (.bool (decide (x.name=s))):=by
 refine x276 ?_;exact⟨_,qBR h,rfl,rfl⟩
theorem c172:IdC 172 Fld.row Fld.v 2:=idC g172
theorem c173:IdC 173 Ty.row Ty.v 2:=idC g173
theorem c196:IdC 196 Pr.row Pr.v 5:=idC g196
theorem c242{l:Sl}{xs:List Fld}(h:qAc V l 2 (xs.map Fld.row)){s:KB}:PP 242 [l.v,.string s] V (.int .i64 (qFW xs s)):=by
 refine Pur.mk (x242 ?_);intro b g;have k:=Zn g (cell (.string s) 9);exact(c172 (first:=[]) (caps:=[pv b]) (h.sub k) Tryz.call276 (λt=>decide (t.name=s)) (λx _=>c276 mss)).call ⟨_,rfl,rfl,k⟩
theorem c197{b t:Nat}{s:KB}(h:V b=some (cell (.string s) t)){x:Pr}:PP 197 [x.v,pv b] V (.bool (decide (x.name=s))):=by
 refine x197 ?_;exact⟨_,qBR h,rfl,rfl⟩
theorem c160(h:Ds.Ok V d){s:KB}:PP 160 [d.v,.string s] V (.int .i64 (qDa d s)):=by
 refine Pur.mk (x160 ?_);intro b g;have k:=Zn g (cell (.string s) 9);exact(c196 (first:=[]) (caps:=[pv b]) (h.procs.sub k) Tryz.call197 (λt=>decide (t.name=s)) (λx _=>c197 mss)).call ⟨_,rfl,rfl,k⟩
theorem c301{b t:Nat}{s:KB}(h:V b=some (cell (.string s) t)){x:Ty}:PP 301 [x.v,pv b] V (.bool (decide (x.name=s))):=by
 refine x301 ?_;exact⟨_,qBR h,rfl,rfl⟩
theorem c270(S:ES V0 d F)(h:EM V0 d p F V s c){nm:KB}:PP 270 [pv p,.string nm] V (.int .i64 (qDL d nm)):=by
 obtain⟨gs,ns,ls,nd,k,L⟩:=h.ex;refine Pur.mk (x270 ?_);refine⟨nn,nn,pnn,d.ts,qAd k 1 1 (by simp[qCb]),λb f=>?_⟩;have g:=Zn f (cell (.string nm) 9);exact(c173 (first:=[]) (caps:=[pv b]) (S.ds.sub (L.sub.trans g)).types Tryz.call301 (λt=>decide (t.name=nm)) (λx _=>c301 mss)).call ⟨_,rfl,rfl,g⟩
theorem c274{b:Bool}:PP 274 [.bool b] V (.int .i64 (trI b)):=by
 refine x274 ?_;refine⟨λh=>?_,λh=>?_⟩;·rw[h];exact⟨rfl,rfl⟩
 ·rw[(Bool.not_eq_true b).mp h];exact⟨rfl,rfl⟩
theorem c271{n:Int}{a:Option Addr}:Tri xE 271 #[.pointer a,.int .i64 n] V (PB (big n) V):=by
 refine Tri.mono (x271 (R:=PB (big n) V) ?_) λ_ _ h=>h;have bad:¬(-1099511627776<=n/\n<=1099511627776)->PB (big n) V (fltE 5) V:=λh=>⟨rfl,by grind[big]⟩;refine⟨λh=>qKt (bad (by omega)),λh1=>⟨λh=>qKt (bad (by omega)),λh2=>⟨rfl,?_⟩⟩⟩;grind[big]
theorem c304{n:Int}(h:-1099511627776<=n/\n<=1099511627776):PP 304 [.int .i64 n] V (.int .i64 (if n<0 then -n else n)):=by
 refine x304 ?_;refine⟨⟨by omega,by omega⟩,GenK.max2 rfl rfl ⟨_,rfl,?_⟩⟩;grind
theorem mul_big{a b:Int}(j:-1099511627776<=a/\a<=1099511627776)(i:-1099511627776<=b/\b<=1099511627776)(h0:a≠0):((1099511627776:Int).tdiv (if a<0 then -a else a)<(if b<0 then -b else b))↔¬(-1099511627776<=a*b/\a*b<=1099511627776):=by
 obtain⟨x,f⟩:∃x:Nat,(if a<0 then -a else a)=(x:Int):=⟨a.natAbs,by split<;>omega⟩;obtain⟨y,t⟩:∃y:Nat,(if b<0 then -b else b)=(y:Int):=⟨b.natAbs,by split<;>omega⟩;have h:x=a.natAbs:=by omega
 have k:y=b.natAbs:=by omega
 have g:0<x:=by omega
 rw[f,t];have u:(1099511627776:Int).tdiv (x:Int)=((1099511627776/x:Nat):Int):=by
  rfl
 rw[u];have l:(a*b).natAbs=x*y:=by rw[Int.natAbs_mul,h,k]
 have z:(-1099511627776<=a*b/\a*b<=1099511627776)↔x*y<=1099511627776:=by omega
 rw[z];have r:y<=1099511627776/x↔y*x<=1099511627776:=Nat.le_div_iff_mul_le g;grind
theorem mul_in{a b:Int}(_:-1099511627776<=a/\a<=1099511627776)(_:-1099511627776<=b/\b<=1099511627776)(h:a=0∨(-1099511627776<=a*b/\a*b<=1099511627776)):IR (a*b):=by
 rcases h with rfl|h;·rw[Int.zero_mul];exact⟨by omega,by omega⟩
 ·exact⟨by omega,by omega⟩
theorem qIC{a:Int}(h:-1099511627776<=a/\a<=1099511627776){b:Int}:xF .i64 (a.tdiv b)=a.tdiv b:=by
 have:=tdiv_in (b:=b) h;rw[IntKind.wrap_i64];omega
theorem c275{a:Option Addr}{op v w:Int}(N:op=9∨op=10∨op=11∨op=12∨op=13∨op=22∨op=23)(hv:-1099511627776<=v/\v<=1099511627776)(hw:-1099511627776<=w/\w<=1099511627776):Tri xE 275 #[.pointer a,.int .i64 op,.int .i64 v,.int .i64 w] V (PB (qCP op v w) V):=by
 refine Tri.mono (x275 (R:=PB (qCP op v w) V) ?_) λ_ _ h=>h;have f:∀{n:Int},qCP op v w=big n->Tri xE 271 #[.pointer a,.int .i64 n] V λe V'=>(∃u,e=.returned (.int .i64 u)/\PB (qCP op v w) V (.returned (.int .i64 u)) V')∨∃y,e=.panicked y/\PB (qCP op v w) V e V':=λe=>PB.split c271 (λk x=>⟨rfl,by rw[e,x]⟩) λn j=>⟨rfl,by rw[e,j]⟩;have good:∀{n:Int},qCP op v w=.ok n->PB (qCP op v w) V (.returned (.int .i64 n)) V:=λe=>⟨rfl,by rw[e]⟩;have bad:∀{k:Int},qCP op v w=.bad k->PB (qCP op v w) V (fltE k) V:=λe=>⟨rfl,by rw[e]⟩;have t:∀{n:Int},-2199023255552<=n/\n<=2199023255552->IR n:=λh=>⟨by omega,by omega⟩;have z:=qIC (b:=w) hv;refine⟨λh=>⟨t (by omega),f (by grind[qCP])⟩,λZ=>⟨λh=>⟨t (by omega),f (by grind[qCP])⟩,λi=>⟨λh=>?_,λl=>⟨λh=>?_,λg=>⟨λh=>?_,λr=>⟨λh=>?_,λo=>?_⟩⟩⟩⟩⟩⟩
 ·have e:qCP op v w=big (v*w):=by grind[qCP]
  have fit:(-1099511627776<=v*w/\v*w<=1099511627776)->PB (qCP op v w) V (.returned (.int .i64 (v*w))) V:=λk=>good (by grind[big]);refine⟨λh0=>⟨mul_in hv hw (.inl h0),fit ?_⟩,λh0=>?_⟩;·simp_all
  have h0:¬v=0:=h0;have H:xF .i64 ((1099511627776:Int).tdiv (if v<0 then -v else v))=(1099511627776:Int).tdiv (if v<0 then -v else v):=qIC ⟨by omega,by omega⟩;refine(c304 hw).call ⟨_,rfl,(c304 hv).call ⟨_,rfl,by split<;>omega,?_⟩⟩;rw[H];refine⟨λk=>qKt (bad ?_),λk=>?_⟩;·simp_all[big,if_neg,mul_big]
  simp_all[Classical.not_not,mul_big,mul_in,inr]
 ·have e:w≠0->qCP op v w=.ok (v.tdiv w):=λk=>by grind[qCP]
  first|rw[z]|(unfold w275_0;rw[z])
  refine⟨λh0=>qKt (bad ?_),λh0=>⟨λ_=>⟨h0,good (e h0)⟩,λk=>absurd h k⟩⟩;grind[qCP]
 ·have e:w≠0->qCP op v w=.ok (v.tmod w):=λk=>by grind[qCP]
  refine⟨λh0=>qKt (bad ?_),λh0=>⟨λk=>absurd k g,λ_=>⟨h0,good (e h0)⟩⟩⟩;grind[qCP]
 ·exact GenK.max2 rfl rfl ⟨_,rfl,good (by grind[qCP])⟩
 ·have J:op=23:=by
   omega
  exact GenK.min2 rfl rfl ⟨_,rfl,good (by grind[qCP])⟩
end
theorem qAl{c a b:Prop}(h:¬c)(g:b):Br c a b:=⟨λk=>absurd k h,λ_=>g⟩
theorem qAv{c a b:Prop}(h:c)(g:a):Br c a b:=⟨λ_=>g,λk=>absurd h k⟩
structure Fv (V0:Mem)(q:Nat)(pr:Pr)(vals:List Int):Prop where
 ex:∃a b:Sl,V0 q=some (.cells #[a.v,b.v] 243 (0,0))/\qAc V0 a 2 (pr.vars.map Fld.row)/\qAc V0 b 1 (vals.map qAe)
theorem qDV{V:Mem}{e:E}(u:E.Ok V e){i:Nat}{a:E}(h:e.k[i]?=some a):¬e.l.p=none/\(0:Int)<=(i:Int)/\(i:Int)<(e.l.n:Int)/\V.rowp e.l.p (i*4) 4=some [.int .i64 a.op,.int .i64 a.n,.string a.s,.slice a.l.p a.l.n a.l.c]:=by
 have f:=u.rows;have r:=f.n_eq;have o:=(yv.1 h).1;obtain⟨y,-,t,-,z,x,j,g⟩:=f.get (i:=i) (by omega);rw[h]at t;cases t;exact⟨x,j,by omega,g⟩
section
variable{V0 V V1:Mem}{d:Ds}{p F c q:Nat}{s:St}{pr:Pr}{vals:List Int}
theorem fieldT_idx{u nm t:KB}(h:qCi d u nm=(t,0)):∃(j i:Nat)(k:Ty)(f:Fld),qDL d u=(j:Int)/\d.types[j]?=some k/\k∈d.types/\qFW k.fields nm=(i:Int)/\k.fields[i]?=some f/\f.ty=t:=by
 unfold qCi at h;cases g:qKj d u with
 |none=>simp_all
 |some k=>
  rw[g]at h;simp only at h;split at h;·simp at h
  ·rename_i z;simp only[Prod.mk.injEq,and_true]at h;grind[tyOf_idx,qFl,absurd,xp]
theorem typC(S:ES V0 d F)(M:EM V0 d p F V s c)(fr:Fv V0 q pr vals)(K:qCV d pr)(G:qAw d s.mm)(T:qAi d s.mm pr.vars vals=true):
  ∀(e:E)(t:KB),VE e->E.Ok V0 e->qAq d (qAg d pr) e=(t,0)->PP 273 [pv p,pv q,e.v] V (.string t):=by
 intro e;induction e using E.ind with
 |h e ih=>
 intro t hv he ht;obtain⟨gs,ns,ls,nd,x,L⟩:=M.ex;obtain⟨fa,fb,U,B,-⟩:=fr.ex;have hq:=L.sub _ _ U;have J:=B.sub L.sub;have N:=S.ds.sub L.sub;have Z:=he.sub L.sub;refine x273 ?_;have g:∀{t':KB},t'=t->(xH (.string t')=xH (.string t)/\V=V):=λh=>⟨by rw[h],rfl⟩;have I:∀{a:E}{u:KB}{R:Ending->Mem->Prop},a∈e.k->qAq d (qAg d pr) a=(u,0)->R (.returned (.string u)) V->Tri xE 273 #[pv p,pv q,a.v] V R:=λhm r hR=>(ih _ hm _ (hv.kids _ hm) (he.kids _ hm) r).call hR;cases kindX (sc:=qAg d pr) rfl hv ht with
 |int h Y=>
  repeat refine qAl (h▸(by decide)) ?_
  exact g rfl
 |bool h Y=>
  repeat refine qAl (h▸(by decide)) ?_
  exact qAv h (g rfl)
 |nil h Y=>
  repeat refine qAl (h▸(by decide)) ?_
  exact qAv h (g rfl)
 |var h hl hne=>
  refine qAv h ⟨nn,nn,fa,qAd hq 0 1 (by simp),(c242 J).call ⟨_,rfl,?_⟩⟩;rcases qGc G T K.vars hl hne with⟨i,f,v,h1,h2,h3,h4,-⟩|⟨i,f,v,h0,h1,h2,h3,h4,-⟩
  ·rw[h1];have Y:=J.n_eq;have Q:=(yv.1 h2).1;obtain⟨y,-,l,-,-,H,P,z⟩:=J.get (i:=i) (by omega);rw[h2]at l;cases l;exact qAv (by omega) ⟨nn,nn,fa,qAd hq 0 1 (by simp),H,P,by omega,qAf H,_,_,z,g h4⟩
  ·rw[h0];have hg:=N.globals;have Y:=hg.n_eq;have Q:=(yv.1 h2).1;obtain⟨y,-,l,-,-,H,P,z⟩:=hg.get (i:=i) (by omega);rw[h2]at l;cases l;refine qAl (by decide) ⟨nn,nn,pnn,d.gs,qAd x 2 1 (by simp[qCb]),nn,nn,pnn,d.gs,qAd x 2 1 (by simp[qCb]),(c242 hg).call ⟨_,rfl,?_⟩⟩;rw[h1];exact⟨qAN x 2 0 1 (by simp[qCb]),pnn,nn,nn,H,P,by omega,qAf H,_,_,z,g h4⟩
 |@fld _ u a h o r hf=>
  have h0:e.k[0]?=some a:=by rw[o];rfl
  obtain⟨k1,k2,k3,k4⟩:=qDV Z h0;obtain⟨j,i,tt,f,e1,e2,e3,e4,e5,e6⟩:=fieldT_idx hf;repeat refine qAl (h▸(by decide)) ?_
  refine qAv h ⟨nn,nn,pnn,d.ts,qAd x 1 1 (by simp[qCb]),k1,by decide,k3,_,_,_,_,k4,I (xp h0) r ⟨_,rfl,qAN x 1 0 1 (by simp[qCb]),pnn,nn,nn,(c270 S M).call ⟨_,rfl,qAN x 1 0 1 (by simp[qCb]),pnn,nn,nn,?_⟩⟩⟩;rw[e1];have Y:=N.types.n_eq;have hjl:=(yv.1 e2).1;obtain⟨y,-,l,-,-,H,P,z⟩:=N.types.get (i:=j) (by omega);rw[e2]at l;cases l;have O:=(N.typesOk tt e3).fields;have hn2:=O.n_eq;have Q:=(yv.1 e5).1;obtain⟨y,-,l,-,-,C,hz2,A⟩:=O.get (i:=i) (by omega);rw[e5]at l;cases l;refine⟨H,P,by omega,_,_,z,(c242 O).call ⟨_,rfl,?_⟩⟩;rw[e4];exact⟨C,hz2,by omega,qAf C,_,_,A,g e6⟩
 |new h Y=>
  grind
 |@call pr' i h D hr=>
  repeat refine qAl (h▸(by decide)) ?_
  refine qAv h ⟨nn,nn,pnn,d.ps,qAd x 3 1 (by simp[qCb]),nn,nn,d.name,d.ts,d.gs,d.ps,d.ms,d.is,d.qs,d.bs,qAd x 0 8 (by simp[qCb]),(c160 N).call ⟨_,rfl,qAN x 3 0 1 (by simp[qCb]),pnn,nn,nn,?_⟩⟩;rw[D.idx];have Y:=N.procs.n_eq;have Q:=(yv.1 D.at_).1;obtain⟨y,-,l,-,-,H,P,z⟩:=N.procs.get (i:=i) (by omega);rw[D.at_]at l;cases l;exact⟨H,P,by omega,qAf H,_,_,_,_,_,z,g rfl⟩
 |@neg a h o r=>
  repeat refine qAl (h▸(by decide)) ?_
  exact g rfl
 |@not a h o r=>
  repeat refine qAl (h▸(by decide)) ?_
  exact qAv h (g rfl)
 |@log a h o r=>
  repeat refine qAl (h▸(by decide)) ?_
  exact g rfl
 |@and a b h o r X=>
  repeat refine qAl (h▸(by decide)) ?_
  exact qAv h (g rfl)
 |@or a b h o r X=>
  repeat refine qAl (h▸(by decide)) ?_
  exact qAv h (g rfl)
 |@cond a b c _ u w h o r X D hu hw htt=>
  have h1:e.k[1]?=some b:=by rw[o];rfl
  have h2:e.k[2]?=some c:=by rw[o];rfl
  obtain⟨k1,k2,k3,k4⟩:=qDV Z h1;obtain⟨l1,l2,l3,l4⟩:=qDV Z h2;repeat refine qAl (h▸(by decide)) ?_
  refine qAv h ⟨k1,by decide,k3,_,_,_,_,k4,I (xp h1) X ⟨_,rfl,λhE=>⟨l1,by decide,l3,_,_,_,_,l4,I (xp h2) D ⟨_,rfl,g ?_⟩⟩,λhE=>g ?_⟩⟩;·grind[qLt]
  grind[qLt]
 |@eq a b u w h o r X hf=>
  rcases h with h|h
  ·repeat refine qAl (h▸(by decide)) ?_
   exact qAv h (g rfl)
  ·repeat refine qAl (h▸(by decide)) ?_
   exact qAv h (g rfl)
 |@cmp a b h o r X=>
  rcases h with h|h
  ·repeat refine qAl (h▸(by decide)) ?_
   exact qAv h (g rfl)
  ·repeat refine qAl (h▸(by decide)) ?_
   exact qAv h (g rfl)
 |@ari a b h o r X=>
  rcases h with h|h|h|h|h|h|h;all_goals
   repeat refine qAl (h▸(by decide)) ?_
   exact g rfl
theorem lens12(h:qAG d=true):d.globals.length<=8/\∀t∈d.types,t.fields.length<=12:=by
 grind[qAG,qDC,tyB]
theorem qIe(k:∀p∈d.procs,qCV d p){i:Nat}(h:d.procs[i]?=some pr):pr.params.length<=6/\pr.locals.length<=12:=(k pr (xp h)).lens
theorem c243(M:EM V0 d p F V s c){k a f:Int}(t:s.lg.length+1<=2147483648):Tri xE 243 #[pv p,.int .i64 k,.int .i64 a,.int .i64 f] V λe V'=>e=.returned (.tuple #[])/\EM V0 d p F V' (s.note (k,a,f)) c:=by
 obtain⟨gs,ns,ls,nd,g,L⟩:=M.ex;refine x243 ?_;refine⟨nn,nn,ls,qAd g 14 1 (by simp[qCb]),λx u=>L.note (a:=(k,a,f)) u rfl rfl t λs' V' z y=>⟨s',rfl,nn,nn,?_⟩⟩;have h:=y _ _ g (qHZ g ntE L.log (.inr (.inr rfl)));refine StT.at2 (off:=14) h (by simp[qCb]) ⟨rfl,MA.set (row':=qCb d F s.tk c s.cm) ntE M.p0 h z rfl rfl rfl rfl⟩
theorem c240(g:F<=4000)(M:EM V0 d p F V s c):Tri xE 240 #[pv p] V λe V'=>(s.tk<F/\e=.returned (.tuple #[])/\EM V0 d p F V' {s with tk:=s.tk+1} c)∨(F<=s.tk/\e=fltE 20/\V'=V):=by
 obtain⟨gs,ns,ls,nd,k,L⟩:=M.ex;refine x240 ?_;refine⟨nn,nn,_,qAd k 11 1 (by simp[qCb]),nn,nn,_,qAd k 10 1 (by simp[qCb]),λh=>qKt (.inr ⟨by omega,rfl,rfl⟩),λh=>⟨nn,nn,_,qAd k 11 1 (by simp[qCb]),⟨by omega,by omega⟩,nn,nn,StT.at2 (off:=11) k (by simp[qCb]) (.inl ⟨by omega,rfl,?_⟩)⟩⟩;exact MA.set (row':=qCb d F ((s.tk+1:Nat):Int) c s.cm) ntE M.p0 k L rfl rfl rfl rfl
theorem c244(S:ES V0 d F)(M:EM V0 d p F V s c){k j:Nat}{fs:List Int}{l:Ty}(J:s.ns[k]?=some ((j:Int),fs))(r:d.types[j]?=some l){nm:KB}:PP 244 [pv p,.int .i64 ((k:Int)+1),.string nm] V (.int .i64 (qFW l.fields nm)):=by
 obtain⟨gs,ns,ls,nd,f,L⟩:=M.ex;refine x244 ?_;have o:=S.ds.sub L.sub;have h:=L.nodes.rows (λ_=>rfl) (by decide);have N:=h.n_eq;obtain⟨sl,t⟩:=L.at_ J;have Z:=(yv.1 t).1;obtain⟨y,-,u,-,-,H,Y,z⟩:=h.get (i:=k) (by omega);rw[t]at u;cases u;have Q:IR ((k:Int)):=⟨by omega,by have:=(h.succ (i:=k) (by omega)).2;omega⟩;have O:=o.types.n_eq;have P:=(yv.1 r).1;obtain⟨y,-,u,-,-,x,e,g⟩:=o.types.get (i:=j) (by omega);rw[r]at u;cases u;refine⟨nn,nn,pnn,d.ts,qAd f 1 1 (by simp[qCb]),nn,nn,pnn,ns,qAd f 9 1 (by simp[qCb]),?_⟩;rw[show((k:Int)+1-1)=(k:Int)by omega];exact⟨Q,H,Y,by omega,qAf H,_,_,z,x,e,(show(j:Int)<d.ts.n by omega),qAf x,_,_,g,(c242 (o.typesOk l (xp r)).fields).call ⟨_,rfl,rfl,rfl⟩⟩
end
section
variable{V0 V V1:Mem}{d:Ds}{p F c q:Nat}{s:St}{pr:Pr}{vals:List Int}
def BW(n:Nat)(s:St):Prop:=s.lg.length+s.cm+n<=4000*s.tk
theorem BW.next{n m:Nat}{s s':St}(h:BW (n+m) s)(g:Gr F n s s'):BW m s':=by have:=g.w;unfold BW at*;omega
theorem BW.le{n m:Nat}{s:St}(h:BW n s)(k:m<=n):BW m s:=by unfold BW at*;omega
structure Cx (V0:Mem)(d:Ds)(p F c q:Nat)(pr:Pr)(vals:List Int)(n m:Nat)(V:Mem)(s:St):Prop where
 S:ES V0 d F
 fr:Fv V0 q pr vals
 po:qCV d pr
 G:qAw d s.mm
 hv:qAi d s.mm pr.vars vals=true
 M:EM V0 d p F V s c
 tk:s.tk<=F
 n:F<n+s.tk
 w:BW m s
theorem Cx.fit{n m:Nat}(X:Cx V0 d p F c q pr vals n (m+1) V s):s.lg.length+1<=2147483648:=by
 have h1:=X.w;have h2:=X.tk;have h3:=X.S.fuel;grind[BW]
theorem Cx.next{n m k:Nat}{V':Mem}{s':St}(X:Cx V0 d p F c q pr vals n (m+k) V s)(g:Gr F m s s')(G:qAw d s'.mm)(M:EM V0 d p F V' s' c):Cx V0 d p F c q pr vals n k V' s':=
 ⟨X.S,X.fr,X.po,G,qAp (λh=>g.right h) X.hv,M,g.fu X.tk,by have:=g.tk;have:=X.n;omega,X.w.next g⟩
theorem Cx.le{n m k:Nat}(X:Cx V0 d p F c q pr vals n m V s)(h:k<=m):Cx V0 d p F c q pr vals n k V s:=⟨X.S,X.fr,X.po,X.G,X.hv,X.M,X.tk,X.n,X.w.le h⟩
variable(d p F)in
def CallC(n:Nat):Prop:=∀(V0 V:Mem)(s:St)(c i:Nat)(pr:Pr)(args:List Int)(l:Sl),ES V0 d F->d.procs[i]?=some pr->qAw d s.mm->qAi d s.mm pr.params args=true->qAc V0 l 1 (args.map qAe)->EM V0 d p F V s c->s.tk<=F->F<n+s.tk->BW 0 s->
 Tri xE 116 #[pv p,pr.v,l.v] V (PX V0 d p F c (qCG d (qCs d F n) c i args s))
variable(d p F)in
def ExprC(n:Nat):Prop:=∀(e:E)(t:KB)(V0 V:Mem)(s:St)(c q:Nat)(pr:Pr)(vals:List Int),Cx V0 d p F c q pr vals n (szE e) V s->VE e->E.Ok V0 e->qAq d (qAg d pr) e=(t,0)->
 Tri xE 241 #[pv p,pv q,e.v] V (PX V0 d p F c (evX d (qCG d (qCs d F n) c) pr vals e s))
theorem qDI{g n:Nat}(h:V g=none)(k:n<=2147483648):Sx.Own V (V.set g (.cells (madeCells (xa .i64 0).cells (n*1)) 3 (0,0))) 3 1 ⟨some ⟨g,0,none⟩,n,n⟩ ((yJ n (0:Int)).flatMap qAe):=by
 have e:(madeCells (xa .i64 0).cells (n*1)).toList=(yJ n (0:Int)).flatMap qAe:=by rw[Nat.mul_one,qLK,qAR,wk]
 refine⟨Zn h _,by rw[qAR];simp,.inr ⟨g,_,rfl,h,Mem.set_same _ _ _,Nat.le_refl _,by simp only[maxLen];omega,by rw[size_madeCells],?_⟩⟩;grind[wx,qAR]
theorem mk31{ty:Nat}{x y:Operand}{vals:Operand->Value}{n:Nat}(h:vals x=.int .i64 n)(k:vals y=.int .i64 n)(f:n<=2147483648){q:Value->Mem->Prop}(t:∀g,V g=none->q (.slice (sa g) n n) (V.set g (.cells (madeCells (xa .i64 0).cells (n*1)) 3 (0,0)))):GenK xE (.makeSlice 31 x y) ty vals V q:=
 GenK.make (z:=.int .i64 0) (i:=ti 3) wj (by kernel_rfl) (by kernel_rfl) (by kernel_rfl) (of_decide_eq_true (by kernel_rfl)) h k f t
theorem RxP.got{α:Type}{n:Nat}{s s':St}{r:Rx α}{v:α}{Q:α->St->Prop}(h:RxP d F n s r Q)(e:r=.ok v s'):qAw d s'.mm/\Gr F n s s'/\Q v s':=by
 subst e;exact⟨h.good,h.gr,h.q _ _ rfl⟩
theorem callC{n:Nat}(hR:CallC d p F n){e:E}{Z:Pr}{i:Nat}(X:Cx V0 d p F c q pr vals n (szE e) V s)(he:E.Ok V0 e)(Y:CallK d (qAg d pr) e Z i)(hv:VE e)
  (hE:∀a∈e.k,∀(u:KB)(W V':Mem)(s':St),V0.sub W->Cx W d p F c q pr vals n (szE a) V' s'->qAq d (qAg d pr) a=(u,0)->Tri xE 241 #[pv p,pv q,a.v] V' (PX W d p F c (evX d (qCG d (qCs d F n) c) pr vals a s'))):
  Tri xE 245 #[pv p,pv q,e.v] V (PX V0 d p F c ((qKl (e.k.map (evX d (qCG d (qCs d F n) c) pr vals)) [] s).bind λl st=>qCG d (qCs d F n) c (i:Int) l st)):=by
 obtain⟨f,O⟩:∃f,f=evX d (qCG d (qCs d F n) c) pr vals:=⟨_,rfl⟩;obtain⟨G,hG⟩:∃G:Rx Int,G=(qKl (e.k.map f) [] s).bind λl st=>qCG d (qCs d F n) c (i:Int) l st:=⟨_,rfl⟩;rw[<-O,<-hG];have hcs:=qEL X.S.procs (qDP (F:=F) X.S.procs n) c;have snd:∀{a:E}{u:KB}{t:St}{m:Nat},a∈e.k->qAq d (qAg d pr) a=(u,0)->qAw d t.mm->Gr F m s t->RxP d F (szE a) t (f a t) λv s'=>qBN d s'.mm u v:=λhm ha K r=>by
  rw[O];exact qLa X.S.procs hcs X.po _ _ _ (hv.kids _ hm) ha K (qAp (λh=>r.right h) X.hv)
 have hkn:=qDH X.S.procs Y.at_;have hsz:=szE_eq e;refine Tri.mono (x245 (R:=PX V0 d p F c G) ?_) λ_ _ h=>h;refine qFk (mk:=λs:Sl=>.slice s.p s.n s.c) (b0:=⟨none,0,0⟩) qAH e.k.length (λj sl V1=>∃W acc t,V0.sub W/\Sx.Own V0 W 3 1 sl (acc.flatMap qAe)/\EM W d p F V1 t c/\acc.length=j/\qAw d t.mm/\Gr F ((e.k.take j).map szE).sum s t/\qAi d t.mm (Z.params.take j) acc=true/\
   qKl (e.k.map f) [] s=qKl ((e.k.drop j).map f) acc t) ⟨V0,[],s,Mem.sub.refl _,Own.nil (Mem.sub.refl _) _ _,X.M,rfl,X.G,by simpa using Gr.refl s,qAD.2 ⟨rfl,λj f v h=>by simp at h⟩,rfl⟩ ?_
 rintro j sl V1 J hj ⟨W,acc,t,x,ho,M1,hacc,K,r,A,z⟩ hJ;have I:=(he.sub x).sub M1.sub;refine⟨λB=>?_,λhge=>?_⟩
 ·obtain⟨a,T,ha,hdr,U,hp,hz,o⟩:=I.rows.get B;have hjp:j<Z.params.length:=by rw[<-Y.len];exact U
  obtain⟨u,hu,hfit⟩:=Y.fit j a _ ha (yu hjp);have hsum:((e.k.take (j+1)).map szE).sum=((e.k.take j).map szE).sum+szE a:=by grind
  have hall:((e.k.take (j+1)).map szE).sum<=(e.k.map szE).sum:=by
   have:=congrArg (λl=>(l.map szE).sum) (List.take_append_drop (j+1) e.k);grind
  have X1:Cx W d p F c q pr vals n (szE a) V1 t:=by
   have X':=X.le (k:=((e.k.take j).map szE).sum+szE a) (by omega);refine⟨X.S.sub x,?_,X.po,K,qAp (λh=>r.right h) X.hv,M1,r.fu X.tk,by have:=r.tk;have:=X.n;omega,X'.w.next r⟩;obtain⟨a',b',h1,h2,h3⟩:=X.fr.ex;exact⟨a',b',x _ _ h1,h2.sub x,h3.sub x⟩
  rw[hdr,List.map_cons]at z;have N:qKl (e.k.map f) [] s=(f a t).bind λv st=>qKl ((e.k.drop (j+1)).map f) (acc++[v]) st:=z;refine⟨hp,hz,B,_,_,_,_,o,?_⟩;have H:=hE a T u W V1 t x X1 hu;rw[<-O]at H;refine PX.split H (λk s2 c' V2 P Q=>?_) λv s2 V2 P Q=>λtb htb=>?_
  ·rw[hG,N,P];exact⟨rfl,c',Q.narrow x⟩
  obtain⟨G2,g2,hv2⟩:=(snd T hu K r).got P;have hlen:acc.length<=2000:=by
   have hl:=qIe X.S.procs Y.at_;omega
  have ho2:Sx.Own V0 V2 3 1 sl (acc.flatMap qAe):=Own.moveB ho (x.trans Q.sub) λg cur _ hg=>Q.sub _ _ hg;refine qCU (s:=sl) (u:=⟨some ⟨tb,0,none⟩,1,1⟩) (xs:=acc) (ys:=[v]) rfl rfl (ho2.but.new htb (.cells #[.int .i64 v] 3 (0,0))) (qJo mss) (by simp;omega) λo3 V3 ho3=>⟨o3,rfl,I.rows.succ B,?_⟩;obtain⟨W',hW',M3,ho4⟩:=Q.beside x ho ho3;refine hJ U _ _ ⟨W',acc++[v],s2,hW',ho4,M3,by simp_all,G2,by rw[hsum];exact r.trans g2,?_,by rw[N,P];rfl⟩;rw[List.take_add_one,yu hjp];refine qEd (qAp (λh=>g2.right h) A) (qAD.2 ⟨rfl,λk f w O hw=>?_⟩);cases k with
  |zero=>
   simp at O hw;subst O;subst hw;exact(qBo X.S.valid (hkn _ (List.getElem_mem _))).1 (qCo X.S.valid hfit hv2)
  |succ k=>simp at O
 ·have C:=(I.rows.done hge).2;rw[wx C]at r;rw[wx (by rw[<-Y.len];exact C)]at A;rw[List.drop_eq_nil_of_le C]at z;have hG1:G=qCG d (qCs d F n) c (i:Int) acc t:=by rw[hG,z];rfl
  obtain⟨gs,ns,ls,nd,D,L⟩:=M1.ex;have hd:=(X.S.sub x).ds.sub L.sub;refine⟨nn,nn,pnn,d.ps,qAd D 3 1 (by simp[qCb]),nn,nn,d.name,d.ts,d.gs,d.ps,d.ms,d.is,d.qs,d.bs,qAd D 0 8 (by simp[qCb]),(c160 hd).call ⟨_,rfl,qAN D 3 0 1 (by simp[qCb]),pnn,nn,nn,?_⟩⟩;rw[Y.idx];have hn:=hd.procs.n_eq;have hil:=(yv.1 Y.at_).1;obtain⟨y,-,hy,-,-,hp,hz,o⟩:=hd.procs.get (i:=i) (by omega);rw[Y.at_]at hy;cases hy;have X':=X.le (k:=(e.k.map szE).sum+0) (by omega);refine⟨hp,hz,by omega,_,_,_,_,_,o,PX.split (hR W V1 t c i Z acc sl (X.S.sub x) Y.at_ K A (ho.rows (λ_=>rfl) (by decide)) M1 (r.fu X.tk) (by have:=r.tk;have:=X.n;omega) (X'.w.next r)) (λk s2 c' V2 P Q=>?_) λv s2 V2 P Q=>?_⟩;·rw[hG1,P];exact⟨rfl,c',Q.narrow x⟩
  ·rw[hG1,P];exact⟨rfl,Q.narrow x⟩
end
section
variable{V0 V V1:Mem}{d:Ds}{p F c q:Nat}{s:St}{pr:Pr}{vals:List Int}
theorem gAt{V:Mem}{gs:Sl}{l:List Int}(h:qAc V gs 1 (l.map qAe)){i:Nat}{v:Int}(hv:l[i]?=some v):¬gs.p=none/\(0:Int)<=(i:Int)/\(i:Int)<(gs.n:Int)/\V.rowp gs.p (i*1) 1=some [.int .i64 v]:=by
 have z:=h.n_eq;have x:=(yv.1 hv).1;obtain⟨y,-,g,-,f,t,u,k⟩:=h.get (i:=i) (by omega);rw[hv]at g;cases g;exact⟨t,u,by omega,k⟩
theorem nodeAt(M:EM V0 d p F V s c){k i:Nat}{ty v:Int}{fs:List Int}(z:s.ns[k]?=some (ty,fs))(hv:fs[i]?=some v):∃gs ns ls nd sl,V p=some (.cells (qCb d F s.tk c s.cm gs ns ls).toArray 128 (0,0))/\Lay V0 V gs ns ls nd s/\nd[k]?=some ⟨ty,sl,fs⟩/\IR (k:Int)/\
  ¬ns.p=none/\(0:Int)<=(k:Int)/\(k:Int)<(ns.n:Int)/\V.rowp ns.p (k*2) 2=some [.int .i64 ty,.slice sl.p sl.n sl.c]/\¬sl.p=none/\(0:Int)<=(i:Int)/\(i:Int)<(sl.n:Int)/\V.rowp sl.p (i*1) 1=some [.int .i64 v]:=by
 obtain⟨gs,ns,ls,nd,t,L⟩:=M.ex;have g:=L.nodes.rows (λ_=>rfl) (by decide);have x:=g.n_eq;obtain⟨sl,h⟩:=L.at_ z;have j:=(yv.1 h).1;obtain⟨y,-,u,-,-,l,r,f⟩:=g.get (i:=k) (by omega);rw[h]at u;cases u;have o:IR ((k:Int)):=⟨by omega,by have:=(g.succ (i:=k) (by omega)).2;omega⟩;obtain⟨e,H,J,N⟩:=gAt ((L.fld _ (xp h)).rows (λ_=>rfl) (by decide)) hv;exact⟨gs,ns,ls,nd,sl,t,L,h,o,l,r,by omega,f,e,H,J,N⟩
theorem exprC{n:Nat}(hR:CallC d p F n):ExprC d p F n:=by
 intro e;induction e using E.ind with
 |h e ih=>
 intro t V0 V s c q pr vals X hv he ht;obtain⟨gs,ns,ls,nd,hat,L⟩:=X.M.ex;obtain⟨fa,fb,hq0,hra0,hrb0⟩:=X.fr.ex;have hq:=L.sub _ _ hq0;have hd:=X.S.ds.sub L.sub;have C:=he.sub L.sub;obtain⟨f,hf⟩:∃f,f=evX d (qCG d (qCs d F n) c) pr vals:=⟨_,rfl⟩;obtain⟨G,N⟩:∃G:Rx Int,G=qDz d (qCG d (qCs d F n) c) pr vals (intB d (qAg d pr) e.k) e.op e.n e.s (e.k.map f) s:=⟨_,rfl⟩;rw[evX_eq,<-hf,<-N];have hcs:=qEL X.S.procs (qDP (F:=F) X.S.procs n) c;have hsz:=szE_eq e;have K:∀{i:Nat}{a:E},e.k[i]?=some a->qEU (e.k.map f) i=f a:=λh=>qLO h;have kid:∀{i:Nat}{a:E}{u:KB}{V1:Mem}{B:St},e.k[i]?=some a->qAq d (qAg d pr) a=(u,0)->Cx V0 d p F c q pr vals n (szE a) V1 B->Tri xE 241 #[pv p,pv q,.agg #[.int .i64 a.op,.int .i64 a.n,.string a.s,.slice a.l.p a.l.n a.l.c]] V1 (PX V0 d p F c (f a B)):=λ{i a u V1 B} h0 o Q=>by
  have hm:=xp h0;rw[hf];exact ih a hm u V0 V1 B c q pr vals Q (hv.kids a hm) (he.kids a hm) o
 have go:∀{i:Nat}{a:E}{u:KB}{B D:St}{V1 V2:Mem}{m k:Nat}{v:Int},e.k[i]?=some a->qAq d (qAg d pr) a=(u,0)->Cx V0 d p F c q pr vals n m V1 B->szE a+k<=m->f a B=.ok v D->EM V0 d p F V2 D c->Cx V0 d p F c q pr vals n k V2 D/\qBN d D.mm u v:=λ{i a u B D V1 V2 m k v} h0 o Q hm e2 M2=>by
  have hmem:=xp h0;have P:=qLa X.S.procs hcs X.po a u B (hv.kids a hmem) o Q.G Q.hv;rw[hf]at e2;obtain⟨G2,g2,q2⟩:=P.got e2;exact⟨(Q.le hm).next g2 G2 M2,q2⟩
 have s1':∀{a:E},e.k=[a]->szE e=szE a+1:=λh=>by rw[hsz,h];simp;omega
 have s2':∀{a b:E},e.k=[a,b]->szE e=szE a+szE b+1:=λh=>by rw[hsz,h];simp;omega
 have s3':∀{a b c:E},e.k=[a,b,c]->szE e=szE a+szE b+szE c+1:=λh=>by rw[hsz,h];simp;omega
 refine Tri.mono (x241 (R:=PX V0 d p F c G) ?_) λ_ _ h=>h;have two:∀{a b:E}{u w':KB},(9<=e.op/\e.op<=23/\e.op≠18/\e.op≠19/\e.op≠20/\e.op≠21)->e.k=[a,b]->qAq d (qAg d pr) a=(u,0)->qAq d (qAg d pr) b=(w',0)->(e.op≠14->e.op≠15->u=qAT/\w'=qAT)->
   w241 (sa p) (sa q) e.op e.n e.s e.l V (PX V0 d p F c G):=by
  intro a b u w' h H o I hint;have h0:e.k[0]?=some a:=by rw[H];rfl
  have h1:e.k[1]?=some b:=by rw[H];rfl
  have J:=N;rw[qKv h,K h0,K h1]at J;obtain⟨k1,k2,k3,k4⟩:=qDV C h0;unfold w241;have hs:=s2' H;refine qAl (by omega) (qAl (by omega) (qAl (by omega) (qAl (by omega) (qAl (by omega) (qAl (by omega) (qAl (by omega) (qAl (by omega) (qAl (by omega) (qAl (by omega) (qAl (by omega) (qAl (by omega) (qAl (by omega) ?_))))))))))));refine⟨k1,by decide,k3,_,_,_,_,k4,PX.bind J (kid h0 o (X.le (by omega))) λv B V1 e1 Y r=>?_⟩;obtain⟨Q,z⟩:=go (k:=szE b+1) h0 o X (by omega) e1 Y;obtain⟨l1,l2,l3,l4⟩:=qDV (he.sub Y.sub) h1;refine⟨l1,by decide,l3,_,_,_,_,l4,PX.bind r (kid h1 I (Q.le (by omega))) λw D V2 e2 M2 hG2=>?_⟩;obtain⟨X2,hv2⟩:=go (k:=1) h1 I Q (by omega) e2 M2;have g2:=((qLa X.S.procs hcs X.po b w' B (hv.kids b (xp h1)) I Q.G Q.hv).got (by rw[hf]at e2;exact e2)).2.1;have z:=g2.val z;obtain⟨gs2,ns2,ls2,nd2,Z,L2⟩:=M2.ex;obtain⟨m1,m2,m3,m4⟩:=qDV (he.sub M2.sub) h0;have hcm:D.cm+1<=16000000:=by have h1:=X2.w;have h2:=X2.tk;have h3:=X2.S.fuel;unfold BW at h1;omega
  have hib:intB d (qAg d pr) e.k=decide (u=qAT):=by rw[H];show decide ((qAq d (qAg d pr) a).1=qAT)=_;rw[o]
  rw[hib]at hG2;have ty:=typC (F:=F) X2.S M2 X2.fr X2.po X2.G X2.hv a u (hv.kids a (xp h0)) (he.kids a (xp h0)) o;have hM:EM V0 d p F (V2.set p (.cells (qCb d F D.tk c ((D.cm+1:Nat):Int) gs2 ns2 ls2).toArray 128 (0,0))) {D with cm:=D.cm+1} c:=MA.set (row':=qCb d F D.tk c ((D.cm+1:Nat):Int)) ntE M2.p0 Z L2 rfl rfl rfl rfl;have yes:∀{x:Int},(e.op=16∨e.op=17∨((e.op=14∨e.op=15)/\u=qAT))->qCP e.op v w=.ok x->G=.ok x {D with cm:=D.cm+1}:=λhc hx=>by
   rw[hG2,hx];unfold qMd;rw[if_pos (by simpa using hc)];rfl
  have no:∀{x:Int},¬(e.op=16∨e.op=17∨((e.op=14∨e.op=15)/\u=qAT))->qCP e.op v w=.ok x->G=.ok x D:=λhc hx=>by
   rw[hG2,hx];unfold qMd;rw[if_neg (by simpa using hc)];rfl
  have eqB:∀{x:Bool},(e.op=14∨e.op=15)->qCP e.op v w=.ok (trI x)->((decide (v=w))==(decide (e.op=14)))=x->_:=λ{x} ho hx I=>by
   refine(⟨m1,by decide,m3,_,_,_,_,m4,ty.call ⟨_,rfl,λhi=>⟨nn,nn,_,qAd Z 13 1 (by simp[qCb]),⟨by omega,by omega⟩,nn,nn,StT.at2 (off:=13) Z (by simp[qCb]) ?_⟩,λhi=>?_⟩⟩:¬e.l.p=none/\(0:Int)<=(0:Int)/\0<(e.l.n:Int)/\∃v16 v17 v18 v19,V2.rowp e.l.p ((0:Int).toNat*4) 4=some [uI v16,uI v17,uS v18,uL v19]/\
    TT 273 #[uP (sa p),uP (sa q),uA #[uI v16,uI v17,uS v18,uL v19]] V2 λe' V3=>∃v20,e'=rV (uS v20)/\
    Br (v20=(qAo [105,110,116]))
    (¬(some (⟨p,0,none⟩:Addr))=none/\¬(some (⟨p,0,none⟩:Addr))=none/\∃v21,V3.rowp (sa p) ((13:Int).toNat*1) 1=some [uI v21]/\
    IR (v21+1)/\¬(some (⟨p,0,none⟩:Addr))=none/\¬(some (⟨p,0,none⟩:Addr))=none/\StT (qAa (sa p) 13) 0 [uI (v21+1)] V3 λV4=>
    TT 274 #[uB ((decide (v=w))==(decide (e.op=14)))] V4 λe' V5=>∃v22,e'=rV (uI v22)/\PX V0 d p F c G (rV (uI v22)) V5)
    (TT 274 #[uB ((decide (v=w))==(decide (e.op=14)))] V3 λe' V4=>∃v21,e'=rV (uI v21)/\PX V0 d p F c G (rV (uI v21)) V4))
   ·rw[I];exact c274.call ⟨_,rfl,PX.ok (yes (.inr (.inr ⟨ho,hi⟩)) hx) hM⟩
   ·rw[I];exact c274.call ⟨_,rfl,PX.ok (no (λk=>k.elim (λk=>by omega) λk=>k.elim (λk=>by omega) λk=>hi k.2) hx) M2⟩
  have cmB:∀{x:Bool},(e.op=16∨e.op=17)->qCP e.op v w=.ok (trI x)->(¬(some (⟨p,0,none⟩:Addr))=none/\¬(some (⟨p,0,none⟩:Addr))=none/\∃v16,V2.rowp (sa p) ((13:Int).toNat*1) 1=some [uI v16]/\
    IR (v16+1)/\¬(some (⟨p,0,none⟩:Addr))=none/\¬(some (⟨p,0,none⟩:Addr))=none/\StT (qAa (sa p) 13) 0 [uI (v16+1)] V2 λV3=>
    TT 274 #[uB x] V3 λe' V4=>∃v17,e'=rV (uI v17)/\PX V0 d p F c G (rV (uI v17)) V4):=λ{x} ho hx=>
   ⟨nn,nn,_,qAd Z 13 1 (by simp[qCb]),⟨by omega,by omega⟩,nn,nn,StT.at2 (off:=13) Z (by simp[qCb]) (c274.call ⟨_,rfl,PX.ok (yes (by omega) hx) hM⟩)⟩
  refine⟨λT=>eqB (x:=decide (v=w)) (.inl T) ?_ ?_,λT=>⟨λh15=>eqB (x:=!decide (v=w)) (.inr h15) ?_ ?_,λh15=>⟨λh16=>cmB (.inl h16) ?_,λh16=>⟨λh17=>cmB (.inr h17) ?_,λh17=>?_⟩⟩⟩⟩;·rw[show e.op=14 from T];rfl
  ·rw[decide_eq_true (show e.op=14 from T)];cases decide (v=w)<;>rfl
  ·rw[show e.op=15 from h15];rfl
  ·rw[decide_eq_false (show ¬e.op=14 from T)];cases decide (v=w)<;>rfl
  ·rw[show e.op=16 from h16];rfl
  ·rw[show e.op=17 from h17];rfl
  ·have T:¬e.op=14:=T;have h15:¬e.op=15:=h15;have h16:¬e.op=16:=h16;have h17:¬e.op=17:=h17;obtain⟨rfl,rfl⟩:=hint T h15;refine PB.last (s:=D) ?_ M2 (c275 (by omega) (qBh.1 z) (qBh.1 hv2));rw[hG2];unfold qMd;rw[if_neg (by omega)]
 have hkind:=kindX (sc:=qAg d pr) rfl hv ht;cases hkind with
 |int h hn=>
  unfold w241;exact qAv h (PX.ok (N.trans (cX1 (.inl h))) X.M)
 |bool h hn=>
  unfold w241;exact qAl (by omega) (qAv h (PX.ok (N.trans (cX1 (.inr h))) X.M))
 |nil h hn=>
  unfold w241;repeat refine qAl (h▸(by decide)) ?_
  exact qAv h (PX.ok (N.trans (cX3 h)) X.M)
 |var h hl hne=>
  unfold w241;have J:=N.trans (cX4 h);have hra:=hra0.sub L.sub;repeat refine qAl (h▸(by decide)) ?_
  refine qAv h ⟨nn,nn,fa,qAd hq 0 1 (by simp),(c242 hra).call ⟨_,rfl,?_⟩⟩;have hvg:=(qAh X.G.mem).2.2.2.1;rcases qGc X.G X.hv X.po.vars hl hne with⟨i,g,v,h1,h2,h3,h4,-,h6⟩|⟨i,g,v,h0,h1,h2,h3,h4,-,h6⟩
  ·rw[h1];obtain⟨g1,g2,g3,g4⟩:=gAt (hrb0.sub L.sub) h3;exact qAv (by omega) ⟨nn,nn,fb,qAd hq 1 1 (by simp),g1,g2,g3,_,g4,PX.ok (J.trans h6) X.M⟩
  ·rw[h0];have Q:=X.le (k:=1) (by omega);refine qAl (by decide) ⟨nn,nn,pnn,d.gs,qAd hat 2 1 (by simp[qCb]),(c242 hd.globals).call ⟨_,rfl,?_⟩⟩;rw[h1];refine Tri.mono (c243 X.M (Cx.fit (m:=0) Q)) ?_;rintro _ V3 ⟨rfl,M3⟩;obtain⟨gs3,ns3,ls3,nd3,A,L3⟩:=M3.ex;obtain⟨g1,g2,g3,g4⟩:=gAt (L3.glob.rows (λ_=>rfl) (by decide)) (i:=i) (v:=v) h3;exact⟨rfl,nn,nn,pnn,gs3,qAd A 8 1 (by simp[qCb]),g1,g2,g3,_,g4,PX.ok (J.trans h6) M3⟩
 |@fld _ u a h H o hf'=>
  unfold w241;have h0:e.k[0]?=some a:=by rw[H];rfl
  have J:=N;rw[cX5 h,K h0]at J;obtain⟨k1,k2,k3,k4⟩:=qDV C h0;have hs:=s1' H;repeat refine qAl (h▸(by decide)) ?_
  refine qAv h ⟨k1,by decide,k3,_,_,_,_,k4,PX.bind J (kid h0 o (X.le (by omega))) λv B V1 e1 Y r=>?_⟩;obtain⟨Q,z⟩:=go (k:=1) h0 o X (by omega) e1 Y;refine⟨λO=>qKt (PX.bad ?_ Y),λO=>?_⟩;·rw[r];unfold fldX;rw[if_pos (show v=0 from O)]
  have O:¬v=0:=O;obtain⟨k,i,j,U,g,fs,w,rfl,e2,e3,e4,e5,e6,e7,e8,e9,-⟩:=qFH Q.G hf' z O;refine(c244 X.S Y e2 e3).call ⟨_,rfl,?_⟩;rw[e6];refine Tri.mono (c243 Y (Cx.fit (m:=0) Q)) ?_;rintro _ V3 ⟨rfl,M3⟩;obtain⟨gs3,ns3,ls3,nd3,sl3,A,L3,-,hI,n1,n2,n3,n4,m1,m2,m3,m4⟩:=nodeAt M3 (k:=k) (i:=i) e2 e8;rw[show((k:Int)+1-1)=(k:Int)by omega];refine⟨rfl,nn,nn,pnn,ns3,qAd A 9 1 (by simp[qCb]),hI,n1,n2,n3,qAf n1,_,_,n4,m1,m2,m3,_,m4,PX.ok ?_ M3⟩;rw[r];unfold fldX;rw[if_neg O,show((k:Int)+1-1).toNat=k by omega,e2];simp only;rw[e5,e6,xo,e8];rfl
 |new h hn=>
  unfold w241;have J:=N.trans (cX6 h);repeat refine qAl (h▸(by decide)) ?_
  have hnn:=(L.nodes.rows (λ_=>rfl) (by decide)).n_eq;have hlen:=L.len;refine qAv h ⟨nn,nn,pnn,ns,qAd hat 9 1 (by simp[qCb]),λhl=>qKt (PX.bad ?_ X.M),λhl=>?_⟩
  ·have hl:4096<=(ns.n:Int):=hl;rw[J];unfold newX;rw[if_pos (by omega)]
  have hl:¬4096<=(ns.n:Int):=hl;obtain⟨U,htm,hte⟩:=List.any_eq_true.1 hn;have hte:U.name=e.s:=of_decide_eq_true hte;obtain⟨j,hj⟩:=List.mem_iff_getElem?.1 htm;have hidx:qDL d e.s=(j:Int):=hte▸(qBF (qAh X.G.mem).1).2.1 j U hj;have hfo:qAt d (j:Int)=U.fields:=qAU hj rfl;refine(c270 X.S X.M).call ⟨_,rfl,?_⟩;rw[hidx];have htn:=hd.types.n_eq;have hjl:=(yv.1 hj).1;obtain⟨y,-,hy,-,-,hp,O,hrow⟩:=hd.types.get (i:=j) (by omega);rw[hj]at hy;cases hy;have hfn:=(hd.typesOk U htm).fields.n_eq;have hfl:=(lens12 X.S.valid).2 U htm;refine⟨nn,nn,pnn,ns,qAd hat 9 1 (by simp[qCb]),nn,nn,pnn,d.ts,qAd hat 1 1 (by simp[qCb]),hp,O,by omega,qAf hp,_,_,hrow,mk31 (n:=U.fs.n) rfl rfl (by omega) λg hg=>⟨⟨some ⟨g,0,none⟩,U.fs.n,U.fs.n⟩,rfl,?_⟩⟩;obtain⟨V2,hV2⟩:∃V2,V2=V.set g (.cells (madeCells (xa .i64 0).cells (U.fs.n*1)) 3 (0,0)):=⟨_,rfl⟩;have hown:=qDI hg (n:=U.fs.n) (by omega);rw[<-hV2]at hown⊢;have Z:=hown.sub _ _ hat;refine⟨qAN Z 9 0 1 (by simp[qCb]),pnn,nn,nn,qAN Z 9 0 1 (by simp[qCb]),pnn,nn,nn,λtb htb=>?_⟩;refine L.new (n:=⟨(j:Int),⟨some ⟨g,0,none⟩,U.fs.n,U.fs.n⟩,yJ U.fs.n 0⟩) hown htb rfl rfl (by omega) λs3 V3 L3 hk3=>⟨s3,rfl,nn,nn,pnn,?_⟩;have A:=hk3 _ _ Z (qHZ hat ntE L.nodes (.inr (.inl rfl)));refine StT.at2 (off:=9) A (by simp[qCb]) ?_;have M4:EM V0 d p F (V3.set p (.cells (qCb d F s.tk c s.cm gs s3 ls).toArray 128 (0,0))) {s with ns:=s.ns++[((j:Int),yJ U.fs.n 0)]} c:=
   ⟨X.M.p0,gs,s3,ls,nd++[_],Mem.set_same _ _ _,L3.put (qHk A ntE) X.M.p0 _⟩
  have hn3:=(L3.nodes.rows (λ_=>rfl) (by decide)).n_eq;rw[zw,xe]at hn3;show ¬(some (⟨p,0,none⟩:Addr):Option Addr)=none/\_;refine⟨nn,nn,pnn,s3,qAd mss 9 1 (by simp[qCb]),?_⟩;rw[show((s3.n:Nat):Int)=(s.ns.length:Int)+1 by omega];have hfit:s.lg.length+1<=2147483648:=Cx.fit (m:=0) (X.le (k:=0+1) (by omega));refine Tri.mono (c243 M4 hfit) ?_;rintro _ V7 ⟨rfl,M7⟩;obtain⟨gs7,ns7,ls7,nd7,hat7,L7⟩:=M7.ex;have hn7:=(L7.nodes.rows (λ_=>rfl) (by decide)).n_eq;have hl7:=L7.len;have hl7:nd7.length=(s.ns++[((j:Int),yJ U.fs.n 0)]).length:=hl7;rw[zw,xe]at hl7;refine⟨rfl,nn,nn,pnn,ns7,qAd hat7 9 1 (by simp[qCb]),?_⟩;rw[show((ns7.n:Nat):Int)=(s.ns.length:Int)+1 by omega];refine PX.ok ?_ M7;rw[J];unfold newX;rw[if_neg (by omega),hidx,hfo,<-hfn];rfl
 |@call pr' i h hc hr=>
  unfold w241;have J:=N.trans (cX7 h);rw[hc.idx]at J;repeat refine qAl (h▸(by decide)) ?_
  refine qAv h (PX.last J ?_);rw[hf];refine callC hR X he hc hv λa hm u W V' s' hW X' o=>?_;exact ih a hm u W V' s' c q pr vals X' (hv.kids a hm) ((he.kids a hm).sub hW) o
 |@neg a h H o=>
  unfold w241;have h0:e.k[0]?=some a:=by rw[H];rfl
  have J:=N;rw[cX8 h,K h0]at J;obtain⟨k1,k2,k3,k4⟩:=qDV C h0;have hs:=s1' H;repeat refine qAl (h▸(by decide)) ?_
  refine qAv h ⟨k1,by decide,k3,_,_,_,_,k4,PX.bind J (kid h0 o (X.le (by omega))) λv B V1 e1 Y r=>?_⟩;obtain⟨Q,z⟩:=go (k:=1) h0 o X (by omega) e1 Y;have:=qBh.1 z;rw[<-Int.zero_sub]at r;exact⟨⟨by omega,by omega⟩,PB.last r Y c271⟩
 |@not a h H o=>
  unfold w241;have h0:e.k[0]?=some a:=by rw[H];rfl
  have J:=N;rw[cX18 h,K h0]at J;obtain⟨k1,k2,k3,k4⟩:=qDV C h0;have hs:=s1' H;repeat refine qAl (h▸(by decide)) ?_
  refine qAv h ⟨k1,by decide,k3,_,_,_,_,k4,PX.bind J (kid h0 o (X.le (by omega))) λv B V1 e1 Y r=>?_⟩;obtain⟨Q,z⟩:=go (k:=1) h0 o X (by omega) e1 Y;have:=qBg.1 z;exact⟨⟨by omega,by omega⟩,PX.ok r Y⟩
 |@log a h H o=>
  unfold w241;have h0:e.k[0]?=some a:=by rw[H];rfl
  have J:=N;rw[cX24 h,K h0]at J;obtain⟨k1,k2,k3,k4⟩:=qDV C h0;have hs:=s1' H;repeat refine qAl (h▸(by decide)) ?_
  refine qAv h ⟨k1,by decide,k3,_,_,_,_,k4,PX.bind J (kid h0 o (X.le (by omega))) λv B V1 e1 Y r=>?_⟩;obtain⟨Q,z⟩:=go (k:=1) h0 o X (by omega) e1 Y;have hr:=qBh.1 z;refine GenK.max2 rfl rfl ⟨_,rfl,?_⟩;obtain⟨w,hw⟩:∃w:Nat,(if(1:Int)<v then v else 1)=(w:Int):=⟨(if(1:Int)<v then v else 1).toNat,by split<;>omega⟩;rw[hw];have hw1:1<=w/\(w:Int)<=1099511627776:=by split at hw<;>omega
  have I:wu w<64:=(Nat.log2_lt (by omega)).2 (by omega);have hlen:lenN w=(wu w:Int)+1:=by unfold lenN;rw[if_neg (by omega)]
  refine⟨inU _ (by omega),(c272 (by omega)).call ⟨_,rfl,?_⟩⟩;rw[hlen];refine⟨⟨by omega,by omega⟩,PX.ok ?_ Y⟩;rw[r];have:qKr v=(wu w:Int):=by
   unfold qKr;by_cases z:1<v;·rw[if_pos z]at hw;rw[hw,xo]
   ·rw[if_neg z]at hw;have:w=1:=by omega
    subst this;have:v.toNat=0∨v.toNat=1:=by omega
    rcases this with h|h<;>rw[h]<;>rfl
  rw[this,show(wu w:Int)+1-1=(wu w:Int)by omega]
 |@and a b h H o I=>
  unfold w241;have h0:e.k[0]?=some a:=by rw[H];rfl
  have h1:e.k[1]?=some b:=by rw[H];rfl
  have J:=N;rw[cX19 h,K h0,K h1]at J;obtain⟨k1,k2,k3,k4⟩:=qDV C h0;have hs:=s2' H;repeat refine qAl (h▸(by decide)) ?_
  refine qAv h ⟨k1,by decide,k3,_,_,_,_,k4,PX.bind J (kid h0 o (X.le (by omega))) λv B V1 e1 Y r=>?_⟩;obtain⟨Q,z⟩:=go (k:=szE b) h0 o X (by omega) e1 Y;obtain⟨l1,l2,l3,l4⟩:=qDV (he.sub Y.sub) h1;refine⟨λO=>PX.ok ?_ Y,λO=>⟨l1,by decide,l3,_,_,_,_,l4,PX.last ?_ (kid h1 I Q)⟩⟩;·rw[r,if_pos (show v=0 from O)]
  ·rw[r,if_neg (show ¬v=0 from O)]
 |@or a b h H o I=>
  unfold w241;have h0:e.k[0]?=some a:=by rw[H];rfl
  have h1:e.k[1]?=some b:=by rw[H];rfl
  have J:=N;rw[cX20 h,K h0,K h1]at J;obtain⟨k1,k2,k3,k4⟩:=qDV C h0;have hs:=s2' H;repeat refine qAl (h▸(by decide)) ?_
  refine qAv h ⟨k1,by decide,k3,_,_,_,_,k4,PX.bind J (kid h0 o (X.le (by omega))) λv B V1 e1 Y r=>?_⟩;obtain⟨Q,z⟩:=go (k:=szE b) h0 o X (by omega) e1 Y;obtain⟨l1,l2,l3,l4⟩:=qDV (he.sub Y.sub) h1;have z:=qBg.1 z;refine⟨λO=>PX.ok ?_ Y,λO=>⟨l1,by decide,l3,_,_,_,_,l4,PX.last ?_ (kid h1 I Q)⟩⟩
  ·have O:v=1:=O;rw[r,if_neg (by omega)]
  ·have O:¬v=1:=O;rw[r,if_pos (by omega)]
 |@cond a b c' _ u w h H o I hc hu hw _=>
  unfold w241;have h0:e.k[0]?=some a:=by rw[H];rfl
  have h1:e.k[1]?=some b:=by rw[H];rfl
  have h2:e.k[2]?=some c':=by rw[H];rfl
  have J:=N;rw[cX21 h,K h0,K h1,K h2]at J;obtain⟨k1,k2,k3,k4⟩:=qDV C h0;have hs:=s3' H;repeat refine qAl (h▸(by decide)) ?_
  refine qAv h ⟨k1,by decide,k3,_,_,_,_,k4,PX.bind J (kid h0 o (X.le (by omega))) λv B V1 e1 Y r=>?_⟩;obtain⟨Q,z⟩:=go (k:=szE b+szE c') h0 o X (by omega) e1 Y;obtain⟨l1,l2,l3,l4⟩:=qDV (he.sub Y.sub) h1;obtain⟨m1,m2,m3,m4⟩:=qDV (he.sub Y.sub) h2;have z:=qBg.1 z;refine⟨λO=>⟨l1,by decide,l3,_,_,_,_,l4,PX.last ?_ (kid h1 I (Q.le (by omega)))⟩,λO=>⟨m1,by decide,m3,_,_,_,_,m4,PX.last ?_ (kid h2 hc (Q.le (by omega)))⟩⟩
  ·have O:v=1:=O;rw[r,if_neg (by omega)]
  ·have O:¬v=1:=O;rw[r,if_pos (by omega)]
 |@eq a b u w h H o I hf'=>exact two (by omega) H o I λ_ _=>by omega
 |@cmp a b h H o I=>exact two (by omega) H o I λ_ _=>⟨rfl,rfl⟩
 |@ari a b h H o I=>exact two (by omega) H o I λ_ _=>⟨rfl,rfl⟩
end
section
variable{W V0 V V1 V':Mem}{d:Ds}{p F c q:Nat}{s:St}{pr:Pr}{vals:List Int}
theorem MA.poke{ty:Nat}{row:Sl->Sl->Sl->List Value}(h:MA ty V0 p row V s){b:Nat}(g:V0 b≠none)(o:Obj):MA ty (V0.set b o) p row (V.set b o) s:=by
 obtain⟨gs,ns,ls,nd,f,L⟩:=h.ex;have k:p≠b:=λe=>g (e▸h.p0);exact⟨by rw[Zm k];exact h.p0,gs,ns,ls,nd,by grind[Zm],L.poke g o⟩
structure FrM (W V0:Mem)(q:Nat)(pr:Pr)(vals:List Int):Prop where
 sub:W.sub V0
 ex:∃a b:Sl,W q=some (.cells #[a.v,b.v] 243 (0,0))/\qAc W a 2 (pr.vars.map Fld.row)/\Sx.Own W V0 3 1 b (vals.flatMap qAe)
theorem FrM.fv(h:FrM W V0 q pr vals):Fv V0 q pr vals:=by
 obtain⟨a,b,h1,h2,h3⟩:=h.ex;exact⟨a,b,h.sub _ _ h1,h2.sub h.sub,h3.rows (λ_=>rfl) (by decide)⟩
theorem frStore{b:Sl}(own:Sx.Own W V0 3 1 b (vals.flatMap qAe))(M:EM V0 d p F V s c){i:Nat}(hi:i<vals.length){v:Int}{Q:Mem->Prop}
  (t:∀h V',Sx.Own W h 3 1 b ((vals.set i v).flatMap qAe)->EM h d p F V' s c->Q V'):StT (qAa b.p (i*1)) 0 [.int .i64 v] V Q:=by
 rw[Nat.mul_one];rcases own.cases0 with⟨h1,h2,h3⟩|⟨x,g,cur,h1,h2,h3,h4,u,j,z⟩
 ·rw[qAR]at h3;have:vals=[]:=by simpa using h3
  rw[this]at hi;simp at hi
 have y:b.n*1<=b.c*1:=Nat.mul_le_mul_right _ h4;have f:=own.len;rw[qAR,x7]at f;have k:V0 g≠none:=by rw[h3];simp
 rw[h1];have e:(cur.toList.take i++[xa .i64 v]++cur.toList.drop (i+1))=cur.toList.set i (.int .i64 v):=qDf _ _ _ (by simp;omega);refine StT.at2 (off:=i) (M.sub _ _ h3) (by simp;omega) (t (V0.set g _) _ ⟨own.sub.set h2 _,?_,.inr ⟨g,_,h1,h2,Mem.set_same _ _ _,h4,u,?_,?_⟩⟩ (M.poke k _));·rw[qAR,x7,List.length_set];exact f
 ·simp_all
 ·rw[show i+[xa .i64 v].length=i+1 from rfl,e];show(cur.toList.set i (.int .i64 v)).take (b.n*1)=_;rw[List.take_set,z,qAR,qAR,List.map_set]
def PS(W:Mem)(d:Ds)(p F c q:Nat)(pr:Pr)(r:Rx Rt):Ending->Mem->Prop:=λe V'=>match r with
 |.ok g s=>e=.returned (.agg #[.bool g.2.isSome,.int .i64 (g.2.getD 0)])/\∃h,FrM W h q pr g.1/\EM h d p F V' s c
 |.bad k s=>e=fltE k/\∃f,EM W d p F V' s f
theorem PS.bind{f:FuncId}{args:Array Value}{r:Rx Int}{G:Rx Rt}{h:Int->St->Rx Rt}{K:Int->Mem->Prop}(t:W.sub V0)(g:G=r.bind h)(H:Tri xE f args V (PX V0 d p F c r))(u:∀v s V',r=.ok v s->EM V0 d p F V' s c->G=h v s->K v V'):
  Tri xE f args V λe V'=>(∃v,e=.returned (.int .i64 v)/\K v V')∨∃z,e=.panicked z/\PS W d p F c q pr G e V':=
 PX.split H (λk s y V' e hm=>by subst e;rw[g];exact⟨rfl,y,hm.narrow t⟩) λv s V' e hm=>u v s V' e hm (by rw[g,e];rfl)
theorem PS.ok{G:Rx Rt}{rt:Rt}(h:G=.ok rt s)(k:FrM W V0 q pr rt.1)(M:EM V0 d p F V s c){b:Bool}{v:Int}(g:b=rt.2.isSome)(hv:v=rt.2.getD 0):PS W d p F c q pr G (.returned (.agg #[.bool b,.int .i64 v])) V:=by
 rw[h,g,hv];exact⟨rfl,V0,k,M⟩
theorem PS.bad{G:Rx Rt}{k:Int}(h:G=.bad k s)(g:W.sub V0)(M:EM V0 d p F V s c):PS W d p F c q pr G (fltE k) V:=by rw[h];exact⟨rfl,c,M.narrow g⟩
theorem PS.split{f:FuncId}{args:Array Value}{r:Rx Rt}{K:Bool->Int->Mem->Prop}{R:Ending->Mem->Prop}(H:Tri xE f args V (PS W d p F c q pr r))(z:∀k s u V',r=.bad k s->EM W d p F V' s u->R (fltE k) V')(j:∀t s g V',r=.ok t s->FrM W g q pr t.1->EM g d p F V' s c->K t.2.isSome (t.2.getD 0) V'):
  Tri xE f args V λe V'=>(∃b v,e=.returned (.agg #[.bool b,.int .i64 v])/\K b v V')∨∃y,e=.panicked y/\R e V':=
 Tri.mono H λe V' h=>by
  cases r with
  |ok t s=>obtain⟨h1,g,h2,h3⟩:=h;grind
  |bad k s=>
   obtain⟨x,u,hm⟩:=h;subst x;exact .inr ⟨_,rfl,z k s u V' rfl hm⟩
structure Sx1 (W V0:Mem)(d:Ds)(p F c q:Nat)(pr:Pr)(vals:List Int)(n m:Nat)(V:Mem)(s:St):Prop where
 S:ES W d F
 fr:FrM W V0 q pr vals
 po:qCV d pr
 G:qAw d s.mm
 hv:qAi d s.mm pr.vars vals=true
 M:EM V0 d p F V s c
 tk:s.tk<=F
 n:F<n+s.tk
 w:BW m s
theorem Sx1.cx{n m:Nat}(X:Sx1 W V0 d p F c q pr vals n m V s):Cx V0 d p F c q pr vals n m V s:=⟨X.S.sub X.fr.sub,X.fr.fv,X.po,X.G,X.hv,X.M,X.tk,X.n,X.w⟩
theorem Sx1.next{n m k:Nat}{f:Mem}{h:List Int}{s':St}(X:Sx1 W V0 d p F c q pr vals n (m+k) V s)(g:Gr F m s s')(G:qAw d s'.mm)(t:FrM W f q pr h)(hv:qAi d s'.mm pr.vars h=true)(M:EM f d p F V' s' c):Sx1 W f d p F c q pr h n k V' s':=
 ⟨X.S,t,X.po,G,hv,M,g.fu X.tk,by have:=g.tk;have:=X.n;omega,X.w.next g⟩
theorem Sx1.le{n m k:Nat}(X:Sx1 W V0 d p F c q pr vals n m V s)(h:k<=m):Sx1 W V0 d p F c q pr vals n k V s:=⟨X.S,X.fr,X.po,X.G,X.hv,X.M,X.tk,X.n,X.w.le h⟩
variable(d p F)in
def SC(n:Nat):Prop:=∀(l:List S)(W V0 V:Mem)(s:St)(c q:Nat)(pr:Pr)(vals:List Int)(sl:Sl),Sx1 W V0 d p F c q pr vals n 0 V s->(∀x∈l,TyS d pr x)->(∀x∈l,S.Ok W x)->qAc W sl 5 (l.map S.row)->
 Tri xE 164 #[pv p,pv q,sl.v] V (PS W d p F c q pr (qCs d F n c pr l vals s))
variable(d p F)in
def StC(n:Nat):Prop:=∀(x:S)(W V0 V:Mem)(s:St)(c q:Nat)(pr:Pr)(vals:List Int),Sx1 W V0 d p F c q pr vals (n+1) 0 V s->TyS d pr x->S.Ok W x->
 Tri xE 199 #[pv p,pv q,x.v] V (PS W d p F c q pr (stX d F (qCs d F n) c pr (n+1) x vals s))
theorem stsC{n:Nat}(H:StC d p F n):SC d p F (n+1):=by
 intro l W V0 V s c q pr vals sl X O D o;obtain⟨f,hf⟩:∃f,f=stX d F (qCs d F n) c pr (n+1):=⟨_,rfl⟩;obtain⟨G,hG⟩:∃G:Rx Rt,G=qFm f l vals s:=⟨_,rfl⟩;show Tri _ _ _ _ (PS W d p F c q pr (qFm (stX d F (qCs d F n) c pr (n+1)) l vals s));rw[<-hf,<-hG];refine Tri.mono (x164 (R:=PS W d p F c q pr G) ?_) λ_ _ h=>h;refine qIs l.length (λi V1=>∃e g s',Sx1 W e d p F c q pr g (n+1) 0 V1 s'/\G=qFm f (l.drop i) g s') ⟨V0,vals,s,X,hG⟩ ?_;rintro i V1 J hi ⟨e,g,s',t,u⟩ hJ;have E:=o.sub (t.fr.sub.trans t.M.sub);refine⟨λN=>?_,λK=>?_⟩
 ·obtain⟨x,Z,hx,T,U,hp,hz,j⟩:=E.get N;rw[S.row_eq]at j;rw[T]at u;have z:G=(f x g s').bind λr st=>match r.2 with|some _=>.ok r st|none=>qFm f (l.drop (i+1)) r.1 st:=u
  have P:=st_snd (F:=F) (c:=c) (n:=n+1) t.S.procs (qDP t.S.procs n) t.po (O x Z) t.G t.hv;have Hx:=H x W e V1 s' c q pr g t (O x Z) (D x Z);rw[<-hf]at Hx P;rw[show x.v=.agg #[.int .i64 x.op,.string x.s,.slice x.el.p x.el.n x.el.c,.slice x.ll.p x.ll.n x.ll.c,.slice x.xl.p x.xl.n x.xl.c]by unfold S.v;rw[S.row_eq];rfl]at Hx;refine⟨hp,hz,N,_,_,_,_,_,j,PS.split Hx (λk L c' V2 B C=>?_) λQ L A V2 B I C=>?_⟩;·rw[z,B];exact⟨rfl,c',C⟩
  obtain⟨G2,g2,q2⟩:=P.got B;rw[B]at z;cases y:Q.2 with
  |some v=>
   have Y:G=.ok Q L:=by rw[z];show(match Q.2 with|some _=>_|none=>_)=_;rw[y]
   exact⟨λ_=>PS.ok Y I C (by rw[y]) (by rw[y]),λh=>absurd rfl h⟩
  |none=>
   have Y:G=qFm f (l.drop (i+1)) Q.1 L:=by rw[z];show(match Q.2 with|some _=>_|none=>_)=_;rw[y]
   exact⟨(λh=>by cases h),λ_=>⟨E.succ N,hJ U _ ⟨A,Q.1,L,t.next (m:=0) g2 G2 I q2.1 C,Y⟩⟩⟩
 ·rw[(E.done K).1]at u;exact PS.ok u t.fr t.M rfl rfl
end
section
variable{W V0 V V1 V':Mem}{d:Ds}{p F c q:Nat}{s:St}{pr:Pr}{vals:List Int}
theorem esAt{x:S}(h:S.Ok V x){i:Nat}{a:E}(g:x.es[i]?=some a):¬x.el.p=none/\(i:Int)<(x.el.n:Int)/\V.rowp x.el.p (i*4) 4=some [.int .i64 a.op,.int .i64 a.n,.string a.s,.slice a.l.p a.l.n a.l.c]:=by
 have f:=h.eRows;have j:=f.n_eq;have r:=(yv.1 g).1;obtain⟨y,-,t,-,u,z,o,k⟩:=f.get (i:=i) (by omega);rw[g]at t;cases t;exact⟨z,by omega,k⟩
theorem qIx(h:s.tk<F):qIo F s=.ok () {s with tk:=s.tk+1}:=by unfold qIo;rw[if_neg (by omega)]
theorem qGB(h:F<=s.tk):qIo F s=.bad 20 s:=by unfold qIo;rw[if_pos h]
theorem Sx1.tick{n:Nat}(X:Sx1 W V0 d p F c q pr vals (n+1) 0 V s)(h:s.tk<F)(M:EM V0 d p F V' {s with tk:=s.tk+1} c):Sx1 W V0 d p F c q pr vals n 4000 V' {s with tk:=s.tk+1}:=
 ⟨X.S,X.fr,X.po,⟨X.G.valid,X.G.chk,X.G.mem⟩,X.hv,M,h,by have:=X.n;show F<n+(s.tk+1);omega,by have:=X.w;unfold BW at*;show s.lg.length+s.cm+4000<=4000*(s.tk+1);omega⟩
theorem Sx1.tick'{n:Nat}(X:Sx1 W V0 d p F c q pr vals n 0 V s)(h:s.tk<F)(M:EM V0 d p F V' {s with tk:=s.tk+1} c):Sx1 W V0 d p F c q pr vals n 4000 V' {s with tk:=s.tk+1}:=
 ⟨X.S,X.fr,X.po,⟨X.G.valid,X.G.chk,X.G.mem⟩,X.hv,M,h,by have:=X.n;show F<n+(s.tk+1);omega,by have:=X.w;unfold BW at*;show s.lg.length+s.cm+4000<=4000*(s.tk+1);omega⟩
theorem stC{n:Nat}(hE:ExprC d p F n)(hS:SC d p F n)(hR:CallC d p F n):StC d p F n:=by
 intro x W V0 V s c q pr vals X hty I;obtain⟨G,hG0⟩:∃G:Rx Rt,G=stX d F (qCs d F n) c pr (n+1) x vals s:=⟨_,rfl⟩;rw[<-hG0];refine Tri.mono ((show x.v=.agg #[.int .i64 x.op,.string x.s,.slice x.el.p x.el.n x.el.c,.slice x.ll.p x.ll.n x.ll.c,.slice x.xl.p x.xl.n x.xl.c]by unfold S.v;rw[S.row_eq];rfl)▸x199 (R:=PS W d p F c q pr G) ?_) λ_ _ h=>h;have hF:=X.S.fuel;refine Tri.mono (c240 hF X.M) ?_;rintro e1 V1 (⟨hlt,rfl,M1⟩|⟨hge,rfl,rfl⟩);rotate_left
 ·refine .inr ⟨_,rfl,PS.bad (s:=s) ?_ X.fr.sub X.M⟩;rw[hG0];unfold stX;rw[qGB hge];rfl
 refine .inl ⟨rfl,?_⟩;obtain⟨s1,hs1⟩:∃s1:St,s1={s with tk:=s.tk+1}:=⟨_,rfl⟩;have N:Sx1 W V0 d p F c q pr vals n 4000 V1 s1:=by rw[hs1];exact X.tick hlt M1
 have C:G=qHM d F (qCs d F n) c pr (n+1) x vals s1:=by rw[hG0];unfold stX;rw[qIx hlt,hs1];rfl
 have hcs:=qDP (F:=F) X.S.procs n;have D:∀{V2:Mem}{H:Mem},W.sub H->H.sub V2->S.Ok V2 x:=λh1 h2=>I.sub (h1.trans h2);have ex:∀{i:Nat}{a:E}{u:KB}{V2 H:Mem}{f:List Int}{Y:St}{m:Nat},x.es[i]?=some a->qAQ a=true->qAq d (qAg d pr) a=(u,0)->Sx1 W H d p F c q pr f n m V2 Y->1000<=m->
   Tri xE 241 #[pv p,pv q,.agg #[.int .i64 a.op,.int .i64 a.n,.string a.s,.slice a.l.p a.l.n a.l.c]] V2 (PX H d p F c (evS d (qCs d F n) c pr f a Y)):=λ{i a u V2 H f Y m} h0 hv ha o hm=>by
  have hp:=qBz hv;exact hE a u H V2 Y c q pr f (o.cx.le (by omega)) hp.1 ((I.eOk a (xp h0)).sub o.fr.sub) ha
 have go:∀{a:E}{u:KB}{V2 V3 H:Mem}{f:List Int}{Y Q:St}{m:Nat}{v:Int},qAQ a=true->qAq d (qAg d pr) a=(u,0)->Sx1 W H d p F c q pr f n (1000+m) V2 Y->evS d (qCs d F n) c pr f a Y=.ok v Q->EM H d p F V3 Q c->
   Sx1 W H d p F c q pr f n m V3 Q/\qBN d Q.mm u v/\Gr F 1000 Y Q:=λ{a u V2 V3 H f Y Q m v} hv ha o e K=>by
  obtain⟨G3,g3,q3⟩:=(qEJ (F:=F) (c:=c) o.S.procs hcs o.po hv ha o.G o.hv).got e;exact⟨o.next g3 G3 o.fr (qAp (λh=>g3.right h) o.hv) K,q3,g3⟩
 unfold qHM at C;cases kindS hty with
 |@set a u t h O hv T hl hne hf=>
  rw[if_pos h,O,xk]at C;have h0:x.es[0]?=some a:=by rw[O];rfl
  obtain⟨k1,k3,k4⟩:=esAt (D N.fr.sub N.M.sub) h0;refine qAv h ⟨k1,by decide,k3,_,_,_,_,k4,PS.bind N.fr.sub C (ex h0 hv T N (by omega)) λv Y V2 e2 M2 r=>?_⟩;obtain⟨o,A,-⟩:=go (m:=3000) hv T N e2 M2;obtain⟨fa,fb,hq0,hra0,hrb0⟩:=o.fr.ex;have hW2:=o.fr.sub.trans o.M.sub;have hq:=hW2 _ _ hq0;refine⟨nn,nn,fa,qAd hq 0 1 (by simp),(c242 (hra0.sub hW2)).call ⟨_,rfl,?_⟩⟩;unfold setX at r;rcases qGc o.G o.hv o.po.vars hl hne with⟨i,g,w,h1,h2,h3,h4,-⟩|⟨i,g,w,h0',h1,h2,h3,h4,-⟩
  ·rw[h1];rw[if_pos (by omega),h1,xo]at r;have hil:=(yv.1 h3).1;have hbn:=((hrb0.rows (λ_=>rfl) (by decide):qAc V0 fb 1 (vals.map qAe))).n_eq;obtain⟨g1,g2,g3,-⟩:=gAt (hrb0.rows (λ_=>rfl) (by decide)) h3;refine qAv (by omega) ⟨nn,nn,fb,qAd hq 1 1 (by simp),g1,g2,g3,frStore hrb0 M2 hil λH V' ho M'=>?_⟩;exact PS.ok r ⟨ho.sub,fa,fb,hq0,hra0,ho⟩ M' rfl rfl
  ·rw[h0'];rw[if_neg (by omega),h1,xo]at r;obtain⟨gs,ns,ls,nd,hat,L⟩:=M2.ex;have hd:=(o.S.sub o.fr.sub).ds.sub L.sub;refine qAl (by decide) ⟨nn,nn,pnn,d.gs,qAd hat 2 1 (by simp[qCb]),(c242 hd.globals).call ⟨_,rfl,?_⟩⟩;rw[h1];refine Tri.mono (c243 M2 (Cx.fit (m:=0) (o.cx.le (by omega)))) ?_;rintro _ V5 ⟨rfl,M5⟩;obtain⟨gs5,ns5,ls5,nd5,Z,L5⟩:=M5.ex;obtain⟨g1,g2,g3,-⟩:=gAt (L5.glob.rows (λ_=>rfl) (by decide)) (i:=i) (v:=w) h3;have hil:=(yv.1 h3).1;refine⟨rfl,nn,nn,pnn,gs5,qAd Z 8 1 (by simp[qCb]),g1,g2,g3,L5.setG (i:=i) hil λV6 L6 hk6=>?_⟩;refine PS.ok r o.fr (V0:=V0) (MA.mk M5.p0 ⟨gs5,ns5,ls5,nd5,?_,L6⟩) rfl rfl;rw[hk6 _ (qHZ Z ntE L5.glob (.inl rfl))];exact Z
 |@put a b u w t h O hv hw ha T hl hf=>
  rw[if_neg (by omega),if_pos h,O,xk,List.getD_cons_succ,xk]at C;have h0:x.es[0]?=some a:=by rw[O];rfl
  have h1:x.es[1]?=some b:=by rw[O];rfl
  obtain⟨k1,k3,k4⟩:=esAt (D N.fr.sub N.M.sub) h0;refine qAl (by omega) (qAv h ⟨k1,by decide,k3,_,_,_,_,k4,PS.bind N.fr.sub C (ex h0 hv ha N (by omega)) λv Y V2 e2 M2 r=>?_⟩);obtain⟨o,A,-⟩:=go (m:=3000) hv ha N e2 M2;obtain⟨l1,l3,l4⟩:=esAt (D o.fr.sub o.M.sub) h1;refine⟨l1,by decide,l3,_,_,_,_,l4,PS.bind o.fr.sub r (ex h1 hw T o (by omega)) λy Q V3 e3 K U=>?_⟩;obtain⟨X3,hv3,g3⟩:=go (m:=2000) hw T o e3 K;have A:=g3.val A;refine⟨λB=>qKt (PS.bad (s:=Q) ?_ X3.fr.sub K),λB=>?_⟩;·rw[U];unfold putX;rw[if_pos (show v=0 from B)];rfl
  have B:¬v=0:=B;obtain⟨k,i,j,tt,g,fs,z,rfl,f2,f3,f4,f5,f6,f7,f8,-⟩:=qFH X3.G hl A B;have hG4:G=.ok (vals,none) {Q with ns:=Q.ns.set k ((j:Int),fs.set i y),lg:=Q.lg++[(2,(k:Int)+1,(i:Int))]}:=by
   rw[U];unfold putX;rw[if_neg B,show((k:Int)+1-1).toNat=k by omega,f2];simp only;rw[f5,f6,xo];rfl
  refine(c244 (X3.S.sub X3.fr.sub) K f2 f3).call ⟨_,rfl,?_⟩;rw[f6];refine Tri.mono (c243 K (Cx.fit (m:=0) (X3.cx.le (by omega)))) ?_;rintro _ V5 ⟨rfl,M5⟩;obtain⟨gs5,ns5,ls5,nd5,sl5,Z,L5,hnd5,hI,n1,n2,n3,n4,m1,m2,m3,m4⟩:=nodeAt M5 (k:=k) (i:=i) f2 f8;have hil:=(yv.1 f8).1;rw[show((k:Int)+1-1)=(k:Int)by omega];refine⟨rfl,nn,nn,pnn,ns5,qAd Z 9 1 (by simp[qCb]),hI,n1,n2,n3,qAf n1,_,_,n4,m1,m2,m3,L5.setF hnd5 hil λV6 L6 hk6=>?_⟩;refine PS.ok hG4 X3.fr (V0:=V0) (MA.mk M5.p0 ⟨gs5,ns5,ls5,_,?_,L6⟩) rfl rfl;rw[hk6 _ (qHZ Z ntE (L5.fld _ (xp hnd5)) (.inl rfl))];exact Z
 |@cond a h O hv T=>
  rw[if_neg (by omega),if_neg (by omega),if_pos h,O,xk]at C;have h0:x.es[0]?=some a:=by rw[O];rfl
  obtain⟨k1,k3,k4⟩:=esAt (D N.fr.sub N.M.sub) h0;obtain⟨-,-,-,hlt1,hlt2⟩:=hty.parts;refine qAl (by omega) (qAl (by omega) (qAv h ⟨k1,by decide,k3,_,_,_,_,k4,PS.bind N.fr.sub C (ex h0 hv T N (by omega)) λv Y V2 e2 M2 r=>?_⟩));obtain⟨o,A,-⟩:=go (m:=3000) hv T N e2 M2;have A:=qBg.1 A;have fin:∀{l:List S}{sl:Sl},(∀y∈l,TyS d pr y)->(∀y∈l,S.Ok W y)->qAc W sl 5 (l.map S.row)->G=qCs d F n c pr l vals Y->Tri xE 164 #[pv p,pv q,.slice sl.p sl.n sl.c] V2 λe' V'=>(∃b v,e'=.returned (.agg #[.bool b,.int .i64 v])/\PS W d p F c q pr G (.returned (.agg #[.bool b,.int .i64 v])) V')∨∃ch,e'=.panicked ch/\PS W d p F c q pr G e' V':=λ{l sl} t1 t2 t3 hGl=>
   PS.split (hS l W V0 V2 Y c q pr vals sl (o.le (by omega)) t1 t2 t3) (λk Q c' V3 e3 K=>by rw[hGl,e3];exact⟨rfl,c',K⟩) λrt Q H V3 e3 hf3 K=>PS.ok (hGl.trans e3) hf3 K rfl rfl
  refine⟨λB=>fin hlt1 I.lOk I.lRows ?_,λB=>fin hlt2 I.xOk I.xRows ?_⟩
  ·have B:v=1:=B;rw[r,if_neg (by omega)]
  ·have B:¬v=1:=B;rw[r,if_pos (by omega)]
 |@loop a h O hv T=>
  rw[if_neg (by omega),if_neg (by omega),if_neg (by omega),if_pos h,O,xk]at C;have h0:x.es[0]?=some a:=by rw[O];rfl
  obtain⟨-,-,-,hlt1,-⟩:=hty.parts;refine qAl (by omega) (qAl (by omega) (qAl (by omega) (qAv h ?_)));refine⟨λm xs V2=>xs=[]/\∃H f s',Sx1 W H d p F c q pr f n 1000 V2 s'/\F<m+s'.tk/\G=whX d F (qCs d F n) c pr a x.ls m f s',n+1,⟨rfl,V0,vals,s1,N.le (by omega),by have:=N.n;omega,C⟩,?_⟩;rintro m V2 ⟨-,H,f,s',X',hm,hG'⟩ J hJ;obtain⟨m,rfl⟩:∃m',m=m'+1:=⟨m-1,by have:=X'.tk;omega⟩;rw[whX]at hG';obtain⟨k1,k3,k4⟩:=esAt (D X'.fr.sub X'.M.sub) h0;refine⟨k1,by decide,k3,_,_,_,_,k4,PS.bind X'.fr.sub hG' (ex h0 hv T X' (by omega)) λv Y V3 e2 M2 r=>?_⟩;obtain⟨o,A,g2⟩:=go (m:=0) hv T X' e2 M2;have A:=qBg.1 A;refine⟨λB=>?_,λB=>?_⟩;rotate_left
  ·have B:¬v=1:=B;rw[if_pos (by omega)]at r;exact PS.ok r o.fr o.M rfl rfl
  have B:v=1:=B;rw[if_neg (by omega)]at r;have P:=hcs c pr x.ls f Y o.po hlt1 o.G o.hv;refine PS.split (hS x.ls W H V3 Y c q pr f x.ll o hlt1 I.lOk I.lRows) (λk Q c' V4 e3 K=>?_) λrt Q V0'' V4 e3 hf3 K=>?_;·rw[r,e3];exact⟨rfl,c',K⟩
  obtain⟨G3,g3,q3⟩:=P.got e3;have X3:=o.next (m:=0) (k:=0) g3 G3 hf3 q3.1 K;rw[e3]at r;cases hrt:rt.2 with
  |some z=>
   have U:G=.ok rt Q:=by rw[r];show(match rt.2 with|some _=>_|none=>_)=_;rw[hrt]
   exact⟨λ_=>PS.ok U hf3 K (by rw[hrt]) (by rw[hrt]),λh=>absurd rfl h⟩
  |none=>
   have U:G=(qIo F Q).bind λ_ st=>whX d F (qCs d F n) c pr a x.ls m rt.1 st:=by rw[r];show(match rt.2 with|some _=>_|none=>_)=_;rw[hrt]
   refine⟨(λh=>by cases h),λ_=>Tri.mono (c240 hF K) ?_⟩;rintro e4 V5 (⟨hlt',rfl,M5⟩|⟨hge,rfl,rfl⟩)
   ·refine .inl ⟨rfl,hJ m _ _ (by omega) ⟨rfl,V0'',rt.1,{Q with tk:=Q.tk+1},(X3.tick' hlt' M5).le (by omega),?_,by rw[U,qIx hlt'];rfl⟩⟩;have:=g2.tk;have:=g3.tk;show F<m+(Q.tk+1);omega
   ·exact .inr ⟨_,rfl,PS.bad (s:=Q) (by rw[U,qGB hge];rfl) hf3.sub K⟩
 |ret0 h O hr=>
  rw[if_neg (by omega),if_neg (by omega),if_neg (by omega),if_neg (by omega),if_pos h,O]at C;have hn:=(D N.fr.sub N.M.sub).eRows.n_eq;rw[O]at hn;refine qAl (by omega) (qAl (by omega) (qAl (by omega) (qAl (by omega) (qAv h (qAv (by rw[hn];rfl) ?_)))));exact PS.ok C N.fr N.M rfl rfl
 |@ret1 a u h O hv T hr hf=>
  rw[if_neg (by omega),if_neg (by omega),if_neg (by omega),if_neg (by omega),if_pos h,O]at C;have h0:x.es[0]?=some a:=by rw[O];rfl
  obtain⟨k1,k3,k4⟩:=esAt (D N.fr.sub N.M.sub) h0;refine qAl (by omega) (qAl (by omega) (qAl (by omega) (qAl (by omega) (qAv h (qAl (by omega) ⟨k1,by decide,k3,_,_,_,_,k4,PS.bind N.fr.sub C (ex h0 hv T N (by omega)) λv Y V2 e2 M2 r=>?_⟩)))));exact PS.ok r N.fr M2 rfl rfl
 |@call a pr' i h O hv ho hc=>
  rw[if_neg (by omega),if_neg (by omega),if_neg (by omega),if_neg (by omega),if_neg (by omega),if_pos h,O,xk]at C;unfold evS at C;rw[evX_eq,cX7 ho,hc.idx]at C;have h0:x.es[0]?=some a:=by rw[O];rfl
  obtain⟨k1,k3,k4⟩:=esAt (D N.fr.sub N.M.sub) h0;have hp:=qBz hv;have hea:=I.eOk a (xp h0);refine qAl (by omega) (qAl (by omega) (qAl (by omega) (qAl (by omega) (qAl (by omega) (qAv h ⟨k1,by decide,k3,_,_,_,_,k4,PS.bind N.fr.sub C (callC hR (N.cx.le (by omega)) (hea.sub N.fr.sub) hc hp.1 λb hb u W' V2 Y hW' o T=>?_) λv Y V2 e2 M2 r=>?_⟩)))));·exact hE b u W' V2 Y c q pr vals o (hp.1.kids b hb) (((hea.sub N.fr.sub).kids b hb).sub hW') T
  ·exact PS.ok r N.fr M2 rfl rfl
end
theorem own_zero{V0 V:Mem}{e:TypeId}{sz:Nat}{s:Sl}{vs:List Value}(h:Sx.Own V0 V e sz s vs):Sx.Own V0 V e sz ⟨s.p,0,s.c⟩ []:=⟨h.sub,by simp,by
 rcases h.at_ with⟨h1,h2,h3⟩|⟨g,cur,h1,h2,h3,h4,k,f,t⟩;·simp_all
 simp_all⟩
theorem qKN{V0 V k V':Mem}{e:TypeId}{sz:Nat}{s:Sl}{vs:List Value}(h:Sx.Own V0 V e sz s vs)(u:k.sub V')(f:∀g o,Blk s g->V0 g=none->V g=some o->k g=none/\V' g=some o):Sx.Own k V' e sz s vs:=⟨u,h.len,by
 rcases h.cases0 with h1|⟨t,g,cur,h1,h2,h3,h4⟩;·exact .inl h1
 ·exact .inr ⟨g,cur,h1,(f g _ ⟨t,h1⟩ h2 h3).1,(f g _ ⟨t,h1⟩ h2 h3).2,h4⟩⟩
theorem own_p0{V0 V:Mem}{e:TypeId}{sz:Nat}{s:Sl}{vs:List Value}(h:Sx.Own V0 V e sz s vs)(k:s.c≠0)(m:Nat):qAa s.p (0*m)=s.p:=by
 rw[Nat.zero_mul];rcases h.at_ with⟨h1,h2,h3⟩|⟨g,cur,h1,-⟩;·omega
 ·rw[h1];rfl
theorem az31{V0 V:Mem}{ty:TypeId}{x y:Operand}{vals:Operand->Value}{s:Sl}{n:Nat}{vs:List Int}(f:vals x=.slice s.p s.n s.c)(t:vals y=.int .i64 n)(own:Sx.Own V0 V 3 1 s (vs.flatMap qAe))(g:s.n+n<=2147483648){q:Value->Mem->Prop}
  (j:∀(s':Sl) V',Sx.Own V0 V' 3 1 s' ((vs++yJ n (0:Int)).flatMap qAe)->q (.slice s'.p s'.n s'.c) V'):GenK xE (.call {callee:=.builtin .append,args:=#[x,y],argTypes:=#[31,3]}) ty vals V q:=
 Go.Sx.GenK.appendZ (z:=.int .i64 0) (i:=ti 3) (k:=.i64) wj wi (by kernel_rfl) (by kernel_rfl) (by kernel_rfl) (by kernel_rfl) (by decide) (of_decide_eq_true (by kernel_rfl)) (λu hu=>by
  have l:(xa .i64 0).cells=#[xa .i64 0]:=by rfl
  rw[l]at hu;simp at hu;subst hu;rfl) f t own g λs' V' h=>j s' V' (by
  rw[List.flatMap_append];have e:(yJ n (0:Int)).flatMap qAe=(Builtin.zeroCells (xa .i64 0).cells n).toList:=by rw[qLh,qAR,wk]
  rw[e];exact h)
theorem az23{V0 V:Mem}{ty:TypeId}{x y:Operand}{vals:Operand->Value}{s:Sl}{n:Nat}{vs:List Value}(f:vals x=.slice s.p s.n s.c)(t:vals y=.int .i64 n)(own:Sx.Own V0 V 101 2 s vs)(g:s.n+n<=2147483648){q:Value->Mem->Prop}
  (j:∀(s':Sl) V' ws,Sx.Own V0 V' 101 2 s' ws->q (.slice s'.p s'.n s'.c) V'):GenK xE (.call {callee:=.builtin .append,args:=#[x,y],argTypes:=#[23,3]}) ty vals V q:=
 Go.Sx.GenK.appendZ (z:=.agg #[.string (qAo []),.string (qAo [])]) (i:=ti 101) (k:=.i64) Tryz.underlying23 wi (by kernel_rfl) (by kernel_rfl) (by kernel_rfl) (by kernel_rfl) (by decide) (of_decide_eq_true (by kernel_rfl)) (λu hu=>by
  have l:(Value.agg #[.string (qAo []),.string (qAo [])]).cells=#[.string (qAo []),.string (qAo [])]:=by rfl
  rw[l]at hu;simp at hu;subst hu;rfl) f t own g λs' V' h=>j s' V' _ h
theorem c198{V:Mem}{n:Nat}(f:n<=2147483648):Tri xE 198 #[.slice none 0 0,.int .i64 n] V λe V'=>∃s:Sl,e=.returned (.slice s.p s.n s.c)/\Sx.Own V V' 101 2 s []:=by
 refine x198 (a:=⟨none,0,0⟩) (b:=n) ?_;have e:(n:Int)-(((0:Nat):Int)-((0:Nat):Int))=n:=by omega
 refine qAl (by omega) ⟨⟨by simp,by simp⟩,⟨by rw[e];omega,by rw[e];omega⟩,λh=>⟨⟨by omega,by omega,by omega⟩,?_⟩,λh=>⟨⟨none,0,0⟩,rfl,Own.nil (Mem.sub.refl _) _ _⟩⟩;refine az23 (s:=⟨none,0,0⟩) (n:=n) (vs:=[]) (V0:=V) rfl (by rfl) (Own.nil (Mem.sub.refl _) _ _) (by simpa using f) λs' V' t k=>⟨s',rfl,⟨by omega,by omega,by simp⟩,⟨s'.p,0,s'.c⟩,?_,own_zero k⟩;by_cases g:s'.c=0;·simp[g]
 ·rw[if_neg (by omega),show((0:Int).toNat*2)=0*2 from rfl,own_p0 k g];simp
theorem c163{V:Mem}{sl a b:Sl}{xs ys:List Fld}(h:qAc V sl 1 ([a,b].map λs:Sl=>[s.v]))(A:qAc V a 2 (xs.map Fld.row))(I:qAc V b 2 (ys.map Fld.row))(K:xs.length<=100)(T:ys.length<=100):
  Tri xE 163 #[sl.v] V λe V'=>∃s:Sl,e=.returned (.slice s.p s.n s.c)/\Sx.Own V V' 101 2 s ((xs++ys).flatMap Fld.row):=by
 have L:=A.n_eq;have R:=I.n_eq;refine x163 ?_;refine qFk (mk:=λk:Int=>.int .i64 k) (b0:=0) qCZ 2 (λi k V1=>V1=V/\k=(((([a,b].take i).map (λs:Sl=>s.n)).sum:Nat):Int)) ⟨rfl,rfl⟩ ?_;rintro i k V1 J U ⟨rfl,rfl⟩ X;refine⟨λg=>?_,λt=>?_⟩
 ·obtain⟨u,x,hu,l,z,r,o,f⟩:=h.get g;have B:u.n<=100:=by
   grind
  have hs:(([a,b].take (i+1)).map (λs:Sl=>s.n)).sum=(([a,b].take i).map (λs:Sl=>s.n)).sum+u.n:=by grind
  have C:(([a,b].take i).map (λs:Sl=>s.n)).sum<=200:=by
   rcases(show i=0∨i=1 by grind)with rfl|rfl;·simp
   ·simp;omega
  refine⟨r,o,g,u,f,⟨by omega,by omega⟩,qAl (by omega) ⟨h.succ g,X z _ _ ⟨rfl,by omega⟩⟩⟩
 ·have h2:=(h.done t).2;have H:i=2:=by grind
  subst H;refine Tri.mono (c198 (by simp;omega)) ?_;rintro _ V2 ⟨s0,rfl,N⟩;refine⟨s0,rfl,qFk (mk:=λs:Sl=>.slice s.p s.n s.c) (b0:=s0) qAH 2 (λj s Z=>Sx.Own V1 Z 101 2 s ((([xs,ys].take j).flatten).flatMap Fld.row)) N ?_⟩;rintro j s Z J1 hj y Y;have Q:=h.sub y.sub;refine⟨λg=>?_,λt=>?_⟩
  ·obtain⟨u,x,hu,l,z,r,o,f⟩:=Q.get g;obtain⟨zs,D,P,O⟩:∃zs,[xs,ys][j]?=some zs/\qAc Z u 2 (zs.map Fld.row)/\([xs,ys].take j).flatten.length+zs.length<=2147483648:=by
    rcases(show j=0∨j=1 by omega)with rfl|rfl;·simp at hu;subst hu;exact⟨xs,rfl,A.sub y.sub,by simp;omega⟩
    ·simp at hu;subst hu;exact⟨ys,rfl,I.sub y.sub,by simp;omega⟩
   refine⟨r,o,g,u,f,qHg (s:=s) (u:=u) (xs:=([xs,ys].take j).flatten) (ys:=zs) rfl rfl y P O λs' V' E=>⟨s',rfl,Q.succ g,Y z _ _ ?_⟩⟩;grind
  ·have h3:=(Q.done t).2;grind
theorem runC{d:Ds}{p F n:Nat}(H:SC d p F n):CallC d p F n:=by
 intro V0 V s c i pr args l hS I G ha hl M htk hn hw;obtain⟨G',X⟩:∃G':Rx Int,G'=qCG d (qCs d F n) c i args s:=⟨_,rfl⟩;rw[<-X];have B:=xp I;have r:=hS.procs pr B;have u:=hS.ds.procsOk pr B;refine Tri.mono (x116 (R:=PX V0 d p F c G') ?_) λ_ _ h=>h;obtain⟨gs,ns,ls,nd,J,L⟩:=M.ex;unfold qCG at X;refine⟨nn,nn,_,qAd J 12 1 (by simp[qCb]),λh2=>qKt (PX.bad (by grind) M),λh2=>?_⟩;rw[if_neg (by omega),xo,I]at X;refine⟨nn,nn,_,qAd J 12 1 (by simp[qCb]),⟨by omega,by omega⟩,nn,nn,StT.at2 (off:=12) J (by simp[qCb]) ?_⟩;have M1:EM V0 d p F (V.set p (.cells (qCb d F s.tk ((c+1:Nat):Int) s.cm gs ns ls).toArray 128 (0,0))) s (c+1):=MA.set (row':=qCb d F s.tk ((c+1:Nat):Int) s.cm) ntE M.p0 J L rfl rfl rfl rfl;obtain⟨V1,C⟩:∃V1,V1=V.set p (.cells (qCb d F s.tk ((c+1:Nat):Int) s.cm gs ns ls).toArray 128 (0,0)):=⟨_,rfl⟩;rw[<-C]at M1;show qAr _ _ (V.set p (.cells (qCb d F s.tk ((c+1:Nat):Int) s.cm gs ns ls).toArray 128 (0,0))) _;rw[<-C];intro b1 hb1;obtain⟨V2,N⟩:∃V2,V2=V1.set b1 (.cells #[.slice pr.ps.p pr.ps.n pr.ps.c,.slice pr.ls.p pr.ls.n pr.ls.c] 23 (0,0)):=⟨_,rfl⟩;have Z:V1.sub V2:=N▸Zn hb1 _;have Y:=M1.sub.trans Z;have D:qAc V2 ⟨some ⟨b1,0,none⟩,2,2⟩ 1 ([pr.ps,pr.ls].map λs:Sl=>[s.v]):=qAc.cells (xs:=[pr.ps,pr.ls]) (row:=λs:Sl=>[s.v]) (by rw[N];exact Mem.set_same _ _ _) rfl (λ_=>rfl) rfl (by simp);show Tri _ _ #[.slice (sa b1) 2 2] (V1.set b1 (.cells #[.slice pr.ps.p pr.ps.n pr.ps.c,.slice pr.ls.p pr.ls.n pr.ls.c] 23 (0,0))) _;rw[<-N];have hln:=r.lens;refine Tri.mono (c163 D (u.params.sub Y) (u.locals.sub Y) (by omega) (by omega)) ?_;rintro _ V3 ⟨j,rfl,o3⟩;have E:=Y.trans o3.sub;have hal:=(qAD.1 ha).1;refine⟨j,rfl,Tri.mono (c42 (hl.sub E) (by omega)) ?_⟩;rintro _ V4 ⟨s4,rfl,o4⟩;have h4n:=o4.n_eq (λ_=>rfl) (by decide);have K:=u.locals.n_eq;refine⟨s4,rfl,az31 (s:=s4) (n:=pr.ls.n) rfl rfl o4 (by omega) λt V5 T=>⟨t,rfl,λb2 Q=>?_⟩⟩;rw[K]at T;obtain⟨V6,P⟩:∃V6,V6=V5.set b2 (.cells #[.slice j.p j.n j.c,.slice t.p t.n t.c] 243 (0,0)):=⟨_,rfl⟩;have U:V5.sub V6:=P▸Zn Q _;have s36:=T.sub.trans U;have s16:=Z.trans (o3.sub.trans s36);obtain⟨W,w0,w6,MW,O⟩:=M1.after s16;show Tri _ _ #[pv p,pv b2,.slice pr.bs.p pr.bs.n pr.bs.c] (V5.set b2 (.cells #[.slice j.p j.n j.c,.slice t.p t.n t.c] 243 (0,0))) _;rw[<-P];have n1:∀{b:Nat},V2 b=none->V1 b=none:=λ{b} h=>by
  cases hc:V1 b with
  |none=>rfl
  |some o=>rw[Z _ _ hc]at h;cases h
 have n3:∀{b:Nat},V3 b=none->V2 b=none:=λ{b} h=>by
  cases hc:V2 b with
  |none=>rfl
  |some o=>rw[o3.sub _ _ hc]at h;cases h
 have n5:V3 b2=none:=by
  cases hc:V3 b2 with
  |none=>rfl
  |some o=>rw[T.sub _ _ hc]at Q;cases Q
 have hbk:∀{b:Nat},Blk t b->V3 b=none:=λh=>Own.none0 T h;have z:V0.sub (W.but t):=λb o hb=>Mem.but_at (w0 _ _ hb) λhk=>by have:=hbk hk;rw[E _ _ hb]at this;cases this
 have o5':Sx.Own (W.but t) W 3 1 t ((args++yJ pr.locals.length (0:Int)).flatMap qAe):=qKN T (Mem.but_sub _ _) λg o hk h0 h1=>⟨by grind[Mem.but],O _ _ (n1 (n3 h0)) (U _ _ h1)⟩;have o3':Sx.Own (λ_=>none) (W.but t) 101 2 j ((pr.params++pr.locals).flatMap Fld.row):=qKN o3 (λ_ _ h=>by cases h) λg o hk h0 h1=>⟨rfl,Mem.but_at (O _ _ (n1 h0) (s36 _ _ h1)) λhk'=>by simp_all⟩;have hfr:W b2=some (.cells #[j.v,t.v] 243 (0,0)):=O _ _ (n1 (n3 n5)) (by rw[P];exact Mem.set_same _ _ _);have nb2:¬Blk t b2:=λhk=>by
  grind[Own.some]
 have FR:FrM (W.but t) W b2 pr (args++yJ pr.locals.length 0):=⟨Mem.but_sub _ _,j,t,Mem.but_at hfr nb2,o3'.rows (λ_=>rfl) (by decide),o5'⟩;have hv:=qEd ha (qEt G.valid λf hf=>r.vars f (List.mem_append_right _ hf));have A:qAc (W.but t) pr.bs 5 (pr.body.map S.row):=u.body.sub z;refine PS.split (H pr.body (W.but t) W V6 s (c+1) b2 pr _ pr.bs ⟨hS.sub z,FR,r,G,hv,MW,htk,hn,hw⟩ r.body (λx hx=>(u.stmts x hx).sub z) A) (λk s2 c' V7 e2 M7=>?_) λrt s2 W7 V7 e2 f7 M7=>?_
 ·rw[X];show PX V0 d p F c ((qCs d F n (c+1) pr pr.body _ s).bind _) _ _;rw[e2];exact⟨rfl,c',M7.narrow z⟩
 ·have M8:=M7.narrow (z.trans f7.sub);obtain⟨gs7,ns7,ls7,nd7,y,L7⟩:=M8.ex;refine⟨nn,nn,_,qAd y 12 1 (by simp[qCb]),⟨by omega,by omega⟩,nn,nn,StT.at2 (off:=12) y (by simp[qCb]) ?_⟩;rw[X];show PX V0 d p F c ((qCs d F n (c+1) pr pr.body _ s).bind _) _ _;rw[e2];refine⟨rfl,?_⟩;have e:(((c+1:Nat):Int)-1)=(c:Int):=by omega
  rw[e];exact MA.set (row':=qCb d F s2.tk c s2.cm) ntE M8.p0 y L7 rfl rfl rfl rfl
theorem allC(d:Ds)(p F:Nat):∀n,SC d p F n
 |0=>λl W V0 V s c q pr vals sl X _ _ _=>absurd X.n (by have:=X.tk;omega)
 |n+1=>stsC (stC (exprC (runC (allC d p F n))) (allC d p F n) (runC (allC d p F n)))
end Go.Proofs
namespace Go.Proofs
open Go Go.Sx
section
variable{d:Ds}{F F' b:Nat}
def Sext(s t:St):Prop:=(∃l,t.lg=s.lg++l)/\s.tk<=t.tk/\s.ns.length<=t.ns.length
def RE{α:Type}(s:St)(r:Rx α):Prop:=Sext s r.st
end
end Go.Proofs
