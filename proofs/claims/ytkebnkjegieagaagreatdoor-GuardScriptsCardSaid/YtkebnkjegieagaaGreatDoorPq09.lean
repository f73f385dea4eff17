/- Part 9: no statement of the seat is proved here. -/
import Derived.Test.YtkebnkjegieagaaGreatDoorPq08
import Derived.ProofKit
import Derived.Test.YtkebnkjegieagaaGreatDoorRows
import Derived.Lib.LaidIn
import Derived.Lib.LaidTab
import Derived.Handed
set_option linter.unusedVariables false
set_option linter.unusedSimpArgs false
open Go.Proofs.Tryz renaming prog->xV,underlying185->uW,underlying31->uY,underlying3->vH,underlying23->xh,f58->uz,f105->uy,underlying91->ur,underlying70->uq
open Go.IntKind renaming wrap->xW,i64->ye
open List renaming getElem?_eq_some_iff->yg,mem_of_getElem?->xw,replicate->zB,map_replicate->uX,take_of_length_le->wm,getElem?_eq_getElem->yf,take_add_one->vq,mem_iff_getElem?->uJ,length_append->zK,length_singleton->zL,length_map->vp,getD_cons_zero->uF,getElem?_toArray->vZ,getElem?_cons_zero->xm,lookup_cons->yH,mem_cons->zJ,not_mem_nil->xT,drop_succ_cons->uo,drop_zero->um,take_succ_cons->uk,take_zero->uj
open Prod.mk renaming injEq->zq,inj->uZ
open Go.Ending renaming returned->xY
open Go.Value renaming int->vP,string->yb
open Int renaming toNat_natCast->wH
open Nat renaming log2->vC,lt_succ_self->uv,strongRecOn->yx
open Option renaming map_some->zR,bind_eq_some_iff->ux
open Option.some renaming injEq->zH
open List.cons renaming injEq->zP
open Array renaming replicate->wM
open Go.Code renaming wpIn->wO
open Go.DataW renaming trod->uw
open Go.TypeDesc renaming struct->uu
open Go.Lib renaming asciiSpaceTab->xu
open Go.World renaming settled->ui
namespace Go.Proofs
open Go Go.Sx
attribute [local irreducible] Go.Sx.Tri
def fltE(e:Int):Ending:=.panicked [{v:=.iface 185 (.agg #[uI e]),recovered:=false}]
theorem GenK.panE{ty:Nat}{vals:Operand->Value}{V:Mem}{x:Operand}{e:Int}(k:vals x=.agg #[uI e]){R:RP}(h:R (fltE e) V):
  GenK xV (.makeInterface 185 x) ty vals V λy V1=>∃v,K.r.ok v/\y=v/\∃t x,K.cast .r v=.iface t x/\R (.panicked [{v:=.iface t x,recovered:=false}]) V1:=
 GenK.iface uW k ⟨.iface 185 (.agg #[uI e]),(rfl:K.cast .r (.iface 185 (.agg #[uI e]))=_),rfl,_,_,rfl,h⟩
def AL(d:Ds)(F tk c cm:Int)(gs ns ls:Sl):XV:=[Go.Sx.vS d.name,d.ts.v,d.gs.v,d.ps.v,d.ms.v,d.is.v,d.qs.v,d.bs.v,gs.v,ns.v,uI F,uI tk,uI c,uI cm,ls.v]
abbrev EM(V0:Mem)(d:Ds)(p F:Nat)(V:Mem)(s:St)(c:Nat):Prop:=MA 130 V0 p (AL d F s.tk c s.cm) V s
theorem FI:NT 130:=by unfold NT;decide
structure ES (V0:Mem)(d:Ds)(F:Nat):Prop where
 ds:Ds.Ok V0 d
 valid:A8 d=true
 procs:∀p∈d.procs,DG d p
 fuel:F<=4000
theorem ES.sub{V0 W:Mem}{d:Ds}{F:Nat}(h:ES V0 d F)(k:V0.sub W):ES W d F:=⟨h.ds.sub k,h.valid,h.procs,h.fuel⟩
def PX(V0:Mem)(d:Ds)(p F c:Nat)(r:Rx Int):RP:=λe V'=>match r with
 |.ok v s=>e=Id v/\EM V0 d p F V' s c
 |.bad k s=>e=fltE k/\∃h,EM V0 d p F V' s h
def PB(r:Rs)(V:Mem):RP:=λe V'=>V'=V/\e=match r with|.ok v=>Id v|.bad k=>fltE k
section
variable{V0 V V1:Mem}{d:Ds}{p F c:Nat}{s:St}
theorem c140{k:Int}{a:XI}:Tri xV 140 #[.pointer a,uI k] V λe V'=>e=fltE k/\V'=V:=by
 refine x140 ?_;exact GenK.panE (e:=k) (R:=λe V'=>e=fltE k/\V'=V) rfl ⟨rfl,rfl⟩
theorem FJ{k:Int}{a:XI}{K:Mem->Prop}{R:RP}(h:R (fltE k) V):Tri xV 140 #[.pointer a,uI k] V λe V'=>(e=rT #[]/\K V')∨∃g,e=.panicked g/\R e V':=
 Tri.mono c140 λ_ _ ⟨f,t⟩=>.inr ⟨_,f,by simp_all⟩
theorem PX.split{f:FuncId}{args:XQ}{r:Rx Int}{K:Int->Mem->Prop}{R:RP}(H:Tri xV f args V (PX V0 d p F c r))(t:∀k s g V',r=.bad k s->EM V0 d p F V' s g->R (fltE k) V')(u:∀v s V',r=.ok v s->EM V0 d p F V' s c->K v V'):
  Tri xV f args V λe V'=>(∃v,e=Id v/\K v V')∨∃z,e=.panicked z/\R e V':=
 Tri.mono H λe V' h=>by
  cases r with
  |ok v s=>exact .inl ⟨v,h.1,u v s V' rfl h.2⟩
  |bad k s=>
   obtain⟨y,g,hm⟩:=h;subst y;exact .inr ⟨_,rfl,t k s g V' rfl hm⟩
theorem PB.split{f:FuncId}{args:XQ}{r:Rs}{K:Int->Mem->Prop}{R:RP}(H:Tri xV f args V (PB r V))(h:∀k,r=.bad k->R (fltE k) V)(z:∀v,r=.ok v->K v V):
  Tri xV f args V λe V'=>(∃v,e=Id v/\K v V')∨∃g,e=.panicked g/\R e V':=
 Tri.mono H λe V' ⟨t,u⟩=>by
  subst t;cases r with
  |ok v=>simp_all
  |bad k=>subst u;exact .inr ⟨_,rfl,h k rfl⟩
theorem PX.bind{f:FuncId}{args:XQ}{G r:Rx Int}{h:Int->St->Rx Int}{K:Int->Mem->Prop}(g:G=r.bind h)(H:Tri xV f args V (PX V0 d p F c r))(t:∀v s V',r=.ok v s->EM V0 d p F V' s c->G=h v s->K v V'):
  Tri xV f args V λe V'=>(∃v,e=Id v/\K v V')∨∃u,e=.panicked u/\PX V0 d p F c G e V':=
 PX.split H (λk s z V' e hm=>by subst e;rw[g];exact⟨rfl,z,hm⟩) λv s V' e hm=>t v s V' e hm (by rw[g,e];rfl)
theorem PX.ok{G:Rx Int}{v:Int}(h:G=.ok v s)(M:EM V0 d p F V s c):PX V0 d p F c G (Id v) V:=by rw[h];exact⟨rfl,M⟩
theorem PX.bad{G:Rx Int}{k:Int}(h:G=.bad k s)(M:EM V0 d p F V s c):PX V0 d p F c G (fltE k) V:=by rw[h];exact⟨rfl,c,M⟩
theorem PX.last{f:FuncId}{args:XQ}{G r:Rx Int}(h:G=r)(H:Tri xV f args V (PX V0 d p F c r)):
  Tri xV f args V λe V'=>(∃v,e=Id v/\PX V0 d p F c G (Id v) V')∨∃g,e=.panicked g/\PX V0 d p F c G e V':=by
 subst h;exact PX.split H (λk s t V' e hm=>by rw[e];exact⟨rfl,t,hm⟩) λv s V' e hm=>by rw[e];exact⟨rfl,hm⟩
theorem PB.last{f:FuncId}{args:XQ}{G:Rx Int}{r:Rs}(h:G=CV r s)(M:EM V0 d p F V s c)(H:Tri xV f args V (PB r V)):
  Tri xV f args V λe V'=>(∃v,e=Id v/\PX V0 d p F c G (Id v) V')∨∃g,e=.panicked g/\PX V0 d p F c G e V':=
 PB.split H (λk e=>PX.bad (by rw[h,e];rfl) M) λv e=>PX.ok (by rw[h,e];rfl) M
theorem c307{b t:Nat}{s:KB}(h:V b=some (cell (uS s) t)){x:Fld}:PP 307 [x.v,pv b] V (uB (decide (x.name=s))):=by
 refine x307 ?_;exact⟨_,AD h,rfl,rfl⟩
theorem c220:H2 220 Ty.row Ty.v 2:=IP g220
theorem QD:H2 86 Pr.row Pr.v 5:=IP Ni
theorem c252{l:Sl}{xs:XX}(h:Ae V l 2 (xs.map Fld.row)){s:KB}:PP 252 [l.v,uS s] V (uI (Bu xs s)):=by
 refine A6.mk (x252 ?_);intro b g;have k:=Mem.sub_new g (cell (uS s) 9);exact(LP (first:=[]) (caps:=[pv b]) (h.sub k) Tryz.call307 (λt=>decide (t.name=s)) (λx _=>c307 Av)).call ⟨_,rfl,rfl,k⟩
theorem c190{b t:Nat}{s:KB}(h:V b=some (cell (uS s) t)){x:Pr}:PP 190 [x.v,pv b] V (uB (decide (x.name=s))):=by
 refine x190 ?_;exact⟨_,AD h,rfl,rfl⟩
theorem c138(h:Ds.Ok V d){s:KB}:PP 138 [d.v,uS s] V (uI (BG d s)):=by
 refine A6.mk (x138 ?_);intro b g;have k:=Mem.sub_new g (cell (uS s) 9);exact(QD (first:=[]) (caps:=[pv b]) (h.procs.sub k) Tryz.call190 (λt=>decide (t.name=s)) (λx _=>c190 Av)).call ⟨_,rfl,rfl,k⟩
theorem c336{b t:Nat}{s:KB}(h:V b=some (cell (uS s) t)){x:Ty}:PP 336 [x.v,pv b] V (uB (decide (x.name=s))):=by
 refine x336 ?_;exact⟨_,AD h,rfl,rfl⟩
theorem c302(S:ES V0 d F)(h:EM V0 d p F V s c){nm:KB}:PP 302 [pv p,uS nm] V (uI (BA d nm)):=by
 obtain⟨gs,ns,ls,nd,k,L⟩:=h.ex;refine A6.mk (x302 ?_);refine⟨nn,nn,AJ,d.ts,Aj k 1 1 (by simp[AL]),λb f=>?_⟩;have g:=Mem.sub_new f (cell (uS nm) 9);exact(c220 (first:=[]) (caps:=[pv b]) (S.ds.sub (L.sub.trans g)).types Tryz.call336 (λt=>decide (t.name=nm)) (λx _=>c336 Av)).call ⟨_,rfl,rfl,g⟩
theorem c305{b:Bool}:PP 305 [.bool b] V (uI (De b)):=by
 refine x305 ?_;refine⟨λh=>?_,λh=>?_⟩;.rw[h];exact⟨rfl,rfl⟩
 .rw[(Bool.not_eq_true b).mp h];exact⟨rfl,rfl⟩
theorem c303{n:Int}{a:XI}:Tri xV 303 #[.pointer a,uI n] V (PB (AR n) V):=by
 refine Tri.mono (x303 (R:=PB (AR n) V) ?_) λ_ _ h=>h;have bad:¬(-1099511627776<=n/\n<=1099511627776)->PB (AR n) V (fltE 5) V:=λh=>⟨rfl,by grind[AR]⟩;refine⟨λh=>FJ (bad (by omega)),λk=>⟨λh=>FJ (bad (by omega)),λg=>⟨rfl,?_⟩⟩⟩;grind[AR]
theorem c337{n:Int}(h:-1099511627776<=n/\n<=1099511627776):PP 337 [uI n] V (uI (if n<0 then -n else n)):=by
 refine x337 ?_;refine⟨⟨by omega,by omega⟩,GenK.max2 rfl rfl ⟨_,rfl,?_⟩⟩;grind
theorem mul_big{a b:Int}(j:-1099511627776<=a/\a<=1099511627776)(r:-1099511627776<=b/\b<=1099511627776)(e:a≠0):((1099511627776:Int).tdiv (if a<0 then -a else a)<(if b<0 then -b else b))↔¬(-1099511627776<=a*b/\a*b<=1099511627776):=by
 obtain⟨x,f⟩:∃x:Nat,(if a<0 then -a else a)=(x:Int):=⟨a.natAbs,by split<;>omega⟩;obtain⟨y,t⟩:∃y:Nat,(if b<0 then -b else b)=(y:Int):=⟨b.natAbs,by split<;>omega⟩;have h:x=a.natAbs:=by omega
 have k:y=b.natAbs:=by omega
 have g:0<x:=by omega
 rw[f,t];have u:(1099511627776:Int).tdiv (x:Int)=((1099511627776/x:Nat):Int):=by
  rfl
 rw[u];have J:(a*b).natAbs=x*y:=by rw[Int.natAbs_mul,h,k]
 have z:(-1099511627776<=a*b/\a*b<=1099511627776)↔x*y<=1099511627776:=by omega
 rw[z];have N:y<=1099511627776/x↔y*x<=1099511627776:=Nat.le_div_iff_mul_le g;grind
theorem mul_in{a b:Int}(_:-1099511627776<=a/\a<=1099511627776)(_:-1099511627776<=b/\b<=1099511627776)(h:a=0∨(-1099511627776<=a*b/\a*b<=1099511627776)):IR (a*b):=by
 rcases h with rfl|h;.rw[Int.zero_mul];exact⟨by omega,by omega⟩
 .exact⟨by omega,by omega⟩
theorem Kw{a:Int}(h:-1099511627776<=a/\a<=1099511627776){b:Int}:xW .i64 (a.tdiv b)=a.tdiv b:=by
 have:=H4 (b:=b) h;rw[IntKind.wrap_i64];omega
theorem c306{a:XI}{op v w:Int}(I:op=9∨op=10∨op=11∨op=12∨op=13∨op=22∨op=23)(hv:-1099511627776<=v/\v<=1099511627776)(hw:-1099511627776<=w/\w<=1099511627776):Tri xV 306 #[.pointer a,uI op,uI v,uI w] V (PB (AC op v w) V):=by
 refine Tri.mono (x306 (R:=PB (AC op v w) V) ?_) λ_ _ h=>h;have t:∀{n:Int},AC op v w=AR n->Tri xV 303 #[.pointer a,uI n] V λe V'=>(∃u,e=Id u/\PB (AC op v w) V (Id u) V')∨∃x,e=.panicked x/\PB (AC op v w) V e V':=λe=>PB.split c303 (λk j=>⟨rfl,by rw[e,j]⟩) λn r=>⟨rfl,by rw[e,r]⟩;have good:∀{n:Int},AC op v w=.ok n->PB (AC op v w) V (Id n) V:=λe=>⟨rfl,by rw[e]⟩;have bad:∀{k:Int},AC op v w=.bad k->PB (AC op v w) V (fltE k) V:=λe=>⟨rfl,by rw[e]⟩;have z:∀{n:Int},-2199023255552<=n/\n<=2199023255552->IR n:=λh=>⟨by omega,by omega⟩;have y:=Kw (b:=w) hv;refine⟨λh=>⟨z (by omega),t (by grind[AC])⟩,λL=>⟨λh=>⟨z (by omega),t (by grind[AC])⟩,λJ=>⟨λh=>?_,λN=>⟨λh=>?_,λf=>⟨λh=>?_,λZ=>⟨λh=>?_,λY=>?_⟩⟩⟩⟩⟩⟩
 .have e:AC op v w=AR (v*w):=by grind[AC]
  have fit:(-1099511627776<=v*w/\v*w<=1099511627776)->PB (AC op v w) V (Id (v*w)) V:=λk=>good (by grind[AR]);refine⟨λg=>⟨mul_in hv hw (.inl g),fit ?_⟩,λg=>?_⟩;.simp_all
  have g:¬v=0:=g;have O:xW .i64 ((1099511627776:Int).tdiv (if v<0 then -v else v))=(1099511627776:Int).tdiv (if v<0 then -v else v):=Kw ⟨by omega,by omega⟩;refine(c337 hw).call ⟨_,rfl,(c337 hv).call ⟨_,rfl,by split<;>omega,?_⟩⟩;rw[O];refine⟨λk=>FJ (bad ?_),λk=>?_⟩;.simp_all[AR,if_neg,mul_big]
  simp_all[Classical.not_not,mul_big,mul_in,inr]
 .have e:w≠0->AC op v w=.ok (v.tdiv w):=λk=>by grind[AC]
  first|rw[y]|(unfold w306_0;rw[y])
  refine⟨λg=>FJ (bad ?_),λg=>⟨λ_=>⟨g,good (e g)⟩,λk=>absurd h k⟩⟩;grind[AC]
 .have e:w≠0->AC op v w=.ok (v.tmod w):=λk=>by grind[AC]
  refine⟨λg=>FJ (bad ?_),λg=>⟨λk=>absurd k f,λ_=>⟨g,good (e g)⟩⟩⟩;grind[AC]
 .exact GenK.max2 rfl rfl ⟨_,rfl,good (by grind[AC])⟩
 .have A:op=23:=by
   omega
  exact GenK.min2 rfl rfl ⟨_,rfl,good (by grind[AC])⟩
end
structure Fv (V0:Mem)(q:Nat)(pr:Pr)(vals:XZ):Prop where
 ex:∃a b:Sl,V0 q=some (.cells #[a.v,b.v] 223 (0,0))/\Ae V0 a 2 (pr.vars.map Fld.row)/\Ae V0 b 1 (vals.map Aw)
theorem Da{V:Mem}{e:E}(u:E.Ok V e){i:Nat}{a:E}(h:e.k[i]?=some a):¬e.l.p=none/\(0:Int)<=(i:Int)/\(i:Int)<(e.l.n:Int)/\V.rowp e.l.p (i*4) 4=some [uI a.op,uI a.n,uS a.s,.slice a.l.p a.l.n a.l.c]:=by
 have f:=u.rows;have r:=f.n_eq;have J:=(yg.1 h).1;obtain⟨y,-,t,-,z,x,j,g⟩:=f.get (i:=i) (by omega);rw[h]at t;cases t;exact⟨x,j,by omega,g⟩
section
variable{V0 V V1:Mem}{d:Ds}{p F c q:Nat}{s:St}{pr:Pr}{vals:XZ}
theorem fieldT_idx{u nm t:KB}(h:Dd d u nm=(t,0)):∃(j i:Nat)(k:Ty)(f:Fld),BA d u=(j:Int)/\d.types[j]?=some k/\k∈d.types/\Bu k.fields nm=(i:Int)/\k.fields[i]?=some f/\f.ty=t:=by
 unfold Dd at h;cases g:tyOf d u with
 |none=>simp_all
 |some k=>
  rw[g]at h;simp only at h;split at h;.simp at h
  .rename_i z;simp only[zq,and_true]at h;grind[tyOf_idx,Hj,absurd,xw]
theorem typC(S:ES V0 d F)(M:EM V0 d p F V s c)(fr:Fv V0 q pr vals)(hpo:DG d pr)(G:An d s.mm)(hvs:AE d s.mm pr.vars vals=true):
  ∀(e:E)(t:KB),VE e->E.Ok V0 e->Ao d (AA d pr) e=(t,0)->PP 304 [pv p,pv q,e.v] V (uS t):=by
 intro e;induction e using E.ind with
 |h e ih=>
 intro t hv he ht;obtain⟨gs,ns,ls,nd,z,L⟩:=M.ex;obtain⟨fa,fb,hq0,hra0,-⟩:=fr.ex;have hq:=L.sub _ _ hq0;have Y:=hra0.sub L.sub;have O:=S.ds.sub L.sub;have A:=he.sub L.sub;refine x304 ?_;have fin:∀{t':KB},t'=t->(xY (uS t')=xY (uS t)/\V=V):=λh=>⟨by rw[h],rfl⟩;have I:∀{a:E}{u:KB}{R:RP},a∈e.k->Ao d (AA d pr) a=(u,0)->R (.returned (uS u)) V->Tri xV 304 #[pv p,pv q,a.v] V R:=λhm r hR=>(ih _ hm _ (hv.kids _ hm) (he.kids _ hm) r).call hR;cases kindX (sc:=AA d pr) rfl hv ht with
 |int h X=>
  repeat refine Ag (h▸(by decide)) ?_
  exact fin rfl
 |bool h X=>
  repeat refine Ag (h▸(by decide)) ?_
  exact As h (fin rfl)
 |nil h X=>
  repeat refine Ag (h▸(by decide)) ?_
  exact As h (fin rfl)
 |var h hl hne=>
  refine As h ⟨nn,nn,fa,Aj hq 0 1 (by simp),(c252 Y).call ⟨_,rfl,?_⟩⟩;rcases Ho G hvs hpo.vars hl hne with⟨i,f,v,T,Z,h3,h4,-⟩|⟨i,f,v,h0,T,Z,h3,h4,-⟩
  .rw[T];have X:=Y.n_eq;have B:=(yg.1 Z).1;obtain⟨y,-,x,-,-,N,C,g⟩:=Y.get (i:=i) (by omega);rw[Z]at x;cases x;exact As (by omega) ⟨nn,nn,fa,Aj hq 0 1 (by simp),N,C,by omega,Ai N,_,_,g,fin h4⟩
  .rw[h0];have hg:=O.globals;have X:=hg.n_eq;have B:=(yg.1 Z).1;obtain⟨y,-,x,-,-,N,C,g⟩:=hg.get (i:=i) (by omega);rw[Z]at x;cases x;refine Ag (by decide) ⟨nn,nn,AJ,d.gs,Aj z 2 1 (by simp[AL]),nn,nn,AJ,d.gs,Aj z 2 1 (by simp[AL]),(c252 hg).call ⟨_,rfl,?_⟩⟩;rw[T];exact⟨Do z 2 0 1 (by simp[AL]),AJ,nn,nn,N,C,by omega,Ai N,_,_,g,fin h4⟩
 |@fld _ u a h J r hf=>
  have h0:e.k[0]?=some a:=by rw[J];rfl
  obtain⟨k1,k2,k3,k4⟩:=Da A h0;obtain⟨j,i,tt,f,e1,e2,e3,e4,e5,e6⟩:=fieldT_idx hf;repeat refine Ag (h▸(by decide)) ?_
  refine As h ⟨nn,nn,AJ,d.ts,Aj z 1 1 (by simp[AL]),k1,by decide,k3,_,_,_,_,k4,I (xw h0) r ⟨_,rfl,Do z 1 0 1 (by simp[AL]),AJ,nn,nn,(c302 S M).call ⟨_,rfl,Do z 1 0 1 (by simp[AL]),AJ,nn,nn,?_⟩⟩⟩;rw[e1];have X:=O.types.n_eq;have hjl:=(yg.1 e2).1;obtain⟨y,-,x,-,-,N,C,g⟩:=O.types.get (i:=j) (by omega);rw[e2]at x;cases x;have D:=(O.typesOk tt e3).fields;have hn2:=D.n_eq;have B:=(yg.1 e5).1;obtain⟨y,-,x,-,-,hp2,hz2,K⟩:=D.get (i:=i) (by omega);rw[e5]at x;cases x;refine⟨N,C,by omega,_,_,g,(c252 D).call ⟨_,rfl,?_⟩⟩;rw[e4];exact⟨hp2,hz2,by omega,Ai hp2,_,_,K,fin e6⟩
 |new h X=>
  grind
 |@call pr' i h hc hr=>
  repeat refine Ag (h▸(by decide)) ?_
  refine As h ⟨nn,nn,AJ,d.ps,Aj z 3 1 (by simp[AL]),nn,nn,d.name,d.ts,d.gs,d.ps,d.ms,d.is,d.qs,d.bs,Aj z 0 8 (by simp[AL]),(c138 O).call ⟨_,rfl,Do z 3 0 1 (by simp[AL]),AJ,nn,nn,?_⟩⟩;rw[hc.idx];have X:=O.procs.n_eq;have B:=(yg.1 hc.at_).1;obtain⟨y,-,x,-,-,N,C,g⟩:=O.procs.get (i:=i) (by omega);rw[hc.at_]at x;cases x;exact⟨N,C,by omega,Ai N,_,_,_,_,_,g,fin rfl⟩
 |@neg a h J r=>
  repeat refine Ag (h▸(by decide)) ?_
  exact fin rfl
 |@not a h J r=>
  repeat refine Ag (h▸(by decide)) ?_
  exact As h (fin rfl)
 |@log a h J r=>
  repeat refine Ag (h▸(by decide)) ?_
  exact fin rfl
 |@and a b h J r U=>
  repeat refine Ag (h▸(by decide)) ?_
  exact As h (fin rfl)
 |@or a b h J r U=>
  repeat refine Ag (h▸(by decide)) ?_
  exact As h (fin rfl)
 |@cond a b c _ u w h J r U hc hu hw htt=>
  have T:e.k[1]?=some b:=by rw[J];rfl
  have Z:e.k[2]?=some c:=by rw[J];rfl
  obtain⟨k1,k2,k3,k4⟩:=Da A T;obtain⟨l1,l2,l3,l4⟩:=Da A Z;repeat refine Ag (h▸(by decide)) ?_
  refine As h ⟨k1,by decide,k3,_,_,_,_,k4,I (xw T) U ⟨_,rfl,λhE=>⟨l1,by decide,l3,_,_,_,_,l4,I (xw Z) hc ⟨_,rfl,fin ?_⟩⟩,λhE=>fin ?_⟩⟩;.grind[Dm]
  grind[Dm]
 |@eq a b u w h J r U hf=>
  rcases h with h|h
  .repeat refine Ag (h▸(by decide)) ?_
   exact As h (fin rfl)
  .repeat refine Ag (h▸(by decide)) ?_
   exact As h (fin rfl)
 |@cmp a b h J r U=>
  rcases h with h|h
  .repeat refine Ag (h▸(by decide)) ?_
   exact As h (fin rfl)
  .repeat refine Ag (h▸(by decide)) ?_
   exact As h (fin rfl)
 |@ari a b h J r U=>
  rcases h with h|h|h|h|h|h|h;all_goals
   repeat refine Ag (h▸(by decide)) ?_
   exact fin rfl
theorem lens12(h:A8 d=true):d.globals.length<=8/\∀t∈d.types,t.fields.length<=12:=by
 grind[A8,Dc,EL]
theorem NV(k:∀p∈d.procs,DG d p){i:Nat}(h:d.procs[i]?=some pr):pr.params.length<=6/\pr.locals.length<=12:=(k pr (xw h)).lens
theorem c253(M:EM V0 d p F V s c){k a f:Int}(t:s.lg.length+1<=2147483648):Tri xV 253 #[pv p,uI k,uI a,uI f] V λe V'=>e=rT #[]/\EM V0 d p F V' (s.note (k,a,f)) c:=by
 obtain⟨gs,ns,ls,nd,g,L⟩:=M.ex;refine x253 ?_;refine⟨nn,nn,ls,Aj g 14 1 (by simp[AL]),λx u=>L.note (a:=(k,a,f)) u rfl rfl t λs' V' z y=>⟨s',rfl,nn,nn,?_⟩⟩;have h:=y _ _ g (GQ g FI L.log (.inr (.inr rfl)));refine Am.at2 (off:=14) h (by simp[AL]) ⟨rfl,MA.set (row':=AL d F s.tk c s.cm) FI M.p0 h z rfl rfl rfl rfl⟩
theorem c250(g:F<=4000)(M:EM V0 d p F V s c):Tri xV 250 #[pv p] V λe V'=>(s.tk<F/\e=rT #[]/\EM V0 d p F V' {s with tk:=s.tk+1} c)∨(F<=s.tk/\e=fltE 20/\V'=V):=by
 obtain⟨gs,ns,ls,nd,k,L⟩:=M.ex;refine x250 ?_;refine⟨nn,nn,_,Aj k 11 1 (by simp[AL]),nn,nn,_,Aj k 10 1 (by simp[AL]),λh=>FJ (.inr ⟨by omega,rfl,rfl⟩),λh=>⟨nn,nn,_,Aj k 11 1 (by simp[AL]),⟨by omega,by omega⟩,nn,nn,Am.at2 (off:=11) k (by simp[AL]) (.inl ⟨by omega,rfl,?_⟩)⟩⟩;exact MA.set (row':=AL d F ((s.tk+1:Nat):Int) c s.cm) FI M.p0 k L rfl rfl rfl rfl
theorem c254(S:ES V0 d F)(M:EM V0 d p F V s c){k j:Nat}{fs:XZ}{r:Ty}(Y:s.ns[k]?=some ((j:Int),fs))(e:d.types[j]?=some r){nm:KB}:PP 254 [pv p,uI ((k:Int)+1),uS nm] V (uI (Bu r.fields nm)):=by
 obtain⟨gs,ns,ls,nd,f,L⟩:=M.ex;refine x254 ?_;have J:=S.ds.sub L.sub;have h:=L.nodes.rows (λ_=>rfl) (by decide);have O:=h.n_eq;obtain⟨sl,t⟩:=L.at_ Y;have A:=(yg.1 t).1;obtain⟨y,-,u,-,-,Z,I,z⟩:=h.get (i:=k) (by omega);rw[t]at u;cases u;have X:IR ((k:Int)):=⟨by omega,by have:=(h.succ (i:=k) (by omega)).2;omega⟩;have C:=J.types.n_eq;have B:=(yg.1 e).1;obtain⟨y,-,u,-,-,x,N,g⟩:=J.types.get (i:=j) (by omega);rw[e]at u;cases u;refine⟨nn,nn,AJ,d.ts,Aj f 1 1 (by simp[AL]),nn,nn,AJ,ns,Aj f 9 1 (by simp[AL]),?_⟩;rw[show((k:Int)+1-1)=(k:Int)by omega];exact⟨X,Z,I,by omega,Ai Z,_,_,z,x,N,(show(j:Int)<d.ts.n by omega),Ai x,_,_,g,(c252 (J.typesOk r (xw e)).fields).call ⟨_,rfl,rfl,rfl⟩⟩
end
section
variable{V0 V V1:Mem}{d:Ds}{p F c q:Nat}{s:St}{pr:Pr}{vals:XZ}
def BW(n:Nat)(s:St):Prop:=s.lg.length+s.cm+n<=4000*s.tk
theorem BW.next{n m:Nat}{s s':St}(h:BW (n+m) s)(g:Gr F n s s'):BW m s':=by have:=g.w;unfold BW at*;omega
theorem BW.le{n m:Nat}{s:St}(h:BW n s)(k:m<=n):BW m s:=by unfold BW at*;omega
structure Cx (V0:Mem)(d:Ds)(p F c q:Nat)(pr:Pr)(vals:XZ)(n m:Nat)(V:Mem)(s:St):Prop where
 S:ES V0 d F
 fr:Fv V0 q pr vals
 po:DG d pr
 G:An d s.mm
 hv:AE d s.mm pr.vars vals=true
 M:EM V0 d p F V s c
 tk:s.tk<=F
 n:F<n+s.tk
 w:BW m s
theorem Cx.fit{n m:Nat}(X:Cx V0 d p F c q pr vals n (m+1) V s):s.lg.length+1<=2147483648:=by
 have h:=X.w;have k:=X.tk;have g:=X.S.fuel;grind[BW]
theorem Cx.next{n m k:Nat}{V':Mem}{s':St}(X:Cx V0 d p F c q pr vals n (m+k) V s)(g:Gr F m s s')(G:An d s'.mm)(M:EM V0 d p F V' s' c):Cx V0 d p F c q pr vals n k V' s':=
 ⟨X.S,X.fr,X.po,G,BS (λh=>g.right h) X.hv,M,g.fu X.tk,by have:=g.tk;have:=X.n;omega,X.w.next g⟩
theorem Cx.le{n m k:Nat}(X:Cx V0 d p F c q pr vals n m V s)(h:k<=m):Cx V0 d p F c q pr vals n k V s:=⟨X.S,X.fr,X.po,X.G,X.hv,X.M,X.tk,X.n,X.w.le h⟩
variable(d p F)in
def CallC(n:Nat):Prop:=∀(V0 V:Mem)(s:St)(c i:Nat)(pr:Pr)(args:XZ)(l:Sl),ES V0 d F->d.procs[i]?=some pr->An d s.mm->AE d s.mm pr.params args=true->Ae V0 l 1 (args.map Aw)->EM V0 d p F V s c->s.tk<=F->F<n+s.tk->BW 0 s->
 Tri xV 106 #[pv p,pr.v,l.v] V (PX V0 d p F c (Ck d (AU d F n) c i args s))
variable(d p F)in
def ExprCc(n:Nat):Prop:=∀(e:E)(t:KB)(V0 V:Mem)(s:St)(c q:Nat)(pr:Pr)(vals:XZ),Cx V0 d p F c q pr vals n (Az e) V s->VE e->E.Ok V0 e->Ao d (AA d pr) e=(t,0)->
 Tri xV 251 #[pv p,pv q,e.v] V (PX V0 d p F c (Dt d (Ck d (AU d F n) c) pr vals e s))
theorem Md{g n:Nat}(h:V g=none)(k:n<=2147483648):Sx.Own V (V.set g (.cells (madeCells (vP .i64 0).cells (n*1)) 3 (0,0))) 3 1 ⟨some ⟨g,0,none⟩,n,n⟩ ((zB n (0:Int)).flatMap Aw):=by
 have e:(madeCells (vP .i64 0).cells (n*1)).toList=(zB n (0:Int)).flatMap Aw:=by rw[Nat.mul_one,QC,C9,uX]
 refine⟨Mem.sub_new h _,by rw[C9];simp,.inr ⟨g,_,rfl,h,Mem.set_same _ _ _,Nat.le_refl _,by simp only[maxLen];omega,by rw[size_madeCells],?_⟩⟩;grind[wm,C9]
theorem mk31{ty:Nat}{x y:Operand}{vals:Operand->Value}{n:Nat}(h:vals x=uI n)(k:vals y=uI n)(f:n<=2147483648){q:Value->Mem->Prop}(t:∀g,V g=none->q (.slice (sa g) n n) (V.set g (.cells (madeCells (vP .i64 0).cells (n*1)) 3 (0,0)))):GenK xV (.makeSlice 31 x y) ty vals V q:=
 GenK.make (z:=uI 0) (i:=ti 3) uY (by kernel_rfl) (by kernel_rfl) (by kernel_rfl) (of_decide_eq_true (by kernel_rfl)) h k f t
theorem AO.got{α:Type}{n:Nat}{s s':St}{r:Rx α}{v:α}{Q:α->St->Prop}(h:AO d F n s r Q)(e:r=.ok v s'):An d s'.mm/\Gr F n s s'/\Q v s':=by
 subst e;exact⟨h.good,h.gr,h.q _ _ rfl⟩
theorem callC{n:Nat}(hR:CallC d p F n){e:E}{Y:Pr}{i:Nat}(X:Cx V0 d p F c q pr vals n (Az e) V s)(he:E.Ok V0 e)(hc:CallK d (AA d pr) e Y i)(hv:VE e)
  (hE:∀a∈e.k,∀(u:KB)(W V':Mem)(s':St),V0.sub W->Cx W d p F c q pr vals n (Az a) V' s'->Ao d (AA d pr) a=(u,0)->Tri xV 251 #[pv p,pv q,a.v] V' (PX W d p F c (Dt d (Ck d (AU d F n) c) pr vals a s'))):
  Tri xV 255 #[pv p,pv q,e.v] V (PX V0 d p F c ((CW (e.k.map (Dt d (Ck d (AU d F n) c) pr vals)) [] s).bind λl st=>Ck d (AU d F n) c (i:Int) l st)):=by
 obtain⟨f,I⟩:∃f,f=Dt d (Ck d (AU d F n) c) pr vals:=⟨_,rfl⟩;obtain⟨G,hG⟩:∃G:Rx Int,G=(CW (e.k.map f) [] s).bind λl st=>Ck d (AU d F n) c (i:Int) l st:=⟨_,rfl⟩;rw[<-I,<-hG];have hcs:=Hp X.S.procs (FH (F:=F) X.S.procs n) c;have snd:∀{a:E}{u:KB}{t:St}{m:Nat},a∈e.k->Ao d (AA d pr) a=(u,0)->An d t.mm->Gr F m s t->AO d F (Az a) t (f a t) λv s'=>AX d s'.mm u v:=λhm ha U r=>by
  rw[I];exact If X.S.procs hcs X.po _ _ _ (hv.kids _ hm) ha U (BS (λh=>r.right h) X.hv)
 have hkn:=Ku X.S.procs hc.at_;have hsz:=szE_eq e;refine Tri.mono (x255 (R:=PX V0 d p F c G) ?_) λ_ _ h=>h;refine DJ (mk:=uL) (b0:=⟨none,0,0⟩) AT e.k.length (λj sl V1=>∃W acc t,V0.sub W/\Sx.Own V0 W 3 1 sl (acc.flatMap Aw)/\EM W d p F V1 t c/\acc.length=j/\An d t.mm/\Gr F ((e.k.take j).map Az).sum s t/\AE d t.mm (Y.params.take j) acc=true/\
   CW (e.k.map f) [] s=CW ((e.k.drop j).map f) acc t) ⟨V0,[],s,Mem.sub.refl _,Own.nil (Mem.sub.refl _) _ _,X.M,rfl,X.G,by simpa using Gr.refl s,C8.2 ⟨rfl,λj f v h=>by simp at h⟩,rfl⟩ ?_
 rintro j sl V1 J hj ⟨W,acc,t,x,ho,M1,hacc,U,r,B,z⟩ hJ;have C:=(he.sub x).sub M1.sub;refine⟨λD=>?_,λhge=>?_⟩
 .obtain⟨a,ham,ha,hdr,hjl,hp,hz,N⟩:=C.rows.get D;have hjp:j<Y.params.length:=by rw[<-hc.len];exact hjl
  obtain⟨u,hu,hfit⟩:=hc.fit j a _ ha (yf hjp);have hsum:((e.k.take (j+1)).map Az).sum=((e.k.take j).map Az).sum+Az a:=by grind
  have hall:((e.k.take (j+1)).map Az).sum<=(e.k.map Az).sum:=by
   have:=congrArg (λl=>(l.map Az).sum) (List.take_append_drop (j+1) e.k);grind
  have X1:Cx W d p F c q pr vals n (Az a) V1 t:=by
   have X':=X.le (k:=((e.k.take j).map Az).sum+Az a) (by omega);refine⟨X.S.sub x,?_,X.po,U,BS (λh=>r.right h) X.hv,M1,r.fu X.tk,by have:=r.tk;have:=X.n;omega,X'.w.next r⟩;obtain⟨a',b',h1,h2,h3⟩:=X.fr.ex;exact⟨a',b',x _ _ h1,h2.sub x,h3.sub x⟩
  rw[hdr,List.map_cons]at z;have Z:CW (e.k.map f) [] s=(f a t).bind λv st=>CW ((e.k.drop (j+1)).map f) (acc++[v]) st:=z;refine⟨hp,hz,D,_,_,_,_,N,?_⟩;have H:=hE a ham u W V1 t x X1 hu;rw[<-I]at H;refine PX.split H (λk s2 c' V2 A O=>?_) λv s2 V2 A O=>λtb htb=>?_
  .rw[hG,Z,A];exact⟨rfl,c',O.narrow x⟩
  obtain⟨G2,g2,hv2⟩:=(snd ham hu U r).got A;have hlen:acc.length<=2000:=by
   have hl:=NV X.S.procs hc.at_;omega
  have ho2:Sx.Own V0 V2 3 1 sl (acc.flatMap Aw):=Own.moveB ho (x.trans O.sub) λg cur _ hg=>O.sub _ _ hg;refine app31 (s:=sl) (u:=⟨some ⟨tb,0,none⟩,1,1⟩) (xs:=acc) (ys:=[v]) rfl rfl (ho2.but.new htb (.cells #[uI v] 3 (0,0))) (Hn Av) (by simp;omega) λo3 V3 ho3=>⟨o3,rfl,C.rows.succ D,?_⟩;obtain⟨W',hW',M3,ho4⟩:=O.beside x ho ho3;refine hJ hjl _ _ ⟨W',acc++[v],s2,hW',ho4,M3,by simp_all,G2,by rw[hsum];exact r.trans g2,?_,by rw[Z,A];rfl⟩;rw[vq,yf hjp];refine I2 (BS (λh=>g2.right h) B) (C8.2 ⟨rfl,λk f w I hw=>?_⟩);cases k with
  |zero=>
   simp at I hw;subst I;subst hw;exact(Fb X.S.valid (hkn _ (List.getElem_mem _))).1 (Ey X.S.valid hfit hv2)
  |succ k=>simp at I
 .have K:=(C.rows.done hge).2;rw[wm K]at r;rw[wm (by rw[<-hc.len];exact K)]at B;rw[List.drop_eq_nil_of_le K]at z;have hG1:G=Ck d (AU d F n) c (i:Int) acc t:=by rw[hG,z];rfl
  obtain⟨gs,ns,ls,nd,T,L⟩:=M1.ex;have hd:=(X.S.sub x).ds.sub L.sub;refine⟨nn,nn,AJ,d.ps,Aj T 3 1 (by simp[AL]),nn,nn,d.name,d.ts,d.gs,d.ps,d.ms,d.is,d.qs,d.bs,Aj T 0 8 (by simp[AL]),(c138 hd).call ⟨_,rfl,Do T 3 0 1 (by simp[AL]),AJ,nn,nn,?_⟩⟩;rw[hc.idx];have hn:=hd.procs.n_eq;have hil:=(yg.1 hc.at_).1;obtain⟨y,-,hy,-,-,hp,hz,N⟩:=hd.procs.get (i:=i) (by omega);rw[hc.at_]at hy;cases hy;have X':=X.le (k:=(e.k.map Az).sum+0) (by omega);refine⟨hp,hz,by omega,_,_,_,_,_,N,PX.split (hR W V1 t c i Y acc sl (X.S.sub x) hc.at_ U B (ho.rows (λ_=>rfl) (by decide)) M1 (r.fu X.tk) (by have:=r.tk;have:=X.n;omega) (X'.w.next r)) (λk s2 c' V2 A O=>?_) λv s2 V2 A O=>?_⟩;.rw[hG1,A];exact⟨rfl,c',O.narrow x⟩
  .rw[hG1,A];exact⟨rfl,O.narrow x⟩
end
section
variable{V0 V V1:Mem}{d:Ds}{p F c q:Nat}{s:St}{pr:Pr}{vals:XZ}
theorem Fk{V:Mem}{gs:Sl}{l:XZ}(h:Ae V gs 1 (l.map Aw)){i:Nat}{v:Int}(hv:l[i]?=some v):¬gs.p=none/\(0:Int)<=(i:Int)/\(i:Int)<(gs.n:Int)/\V.rowp gs.p (i*1) 1=some [uI v]:=by
 have z:=h.n_eq;have x:=(yg.1 hv).1;obtain⟨y,-,g,-,f,t,u,k⟩:=h.get (i:=i) (by omega);rw[hv]at g;cases g;exact⟨t,u,by omega,k⟩
theorem nodeAt(M:EM V0 d p F V s c){k i:Nat}{ty v:Int}{fs:XZ}(z:s.ns[k]?=some (ty,fs))(hv:fs[i]?=some v):∃gs ns ls nd sl,V p=some (.cells (AL d F s.tk c s.cm gs ns ls).toArray 130 (0,0))/\AK V0 V gs ns ls nd s/\nd[k]?=some ⟨ty,sl,fs⟩/\IR (k:Int)/\
  ¬ns.p=none/\(0:Int)<=(k:Int)/\(k:Int)<(ns.n:Int)/\V.rowp ns.p (k*2) 2=some [uI ty,uL sl]/\¬sl.p=none/\(0:Int)<=(i:Int)/\(i:Int)<(sl.n:Int)/\V.rowp sl.p (i*1) 1=some [uI v]:=by
 obtain⟨gs,ns,ls,nd,t,L⟩:=M.ex;have g:=L.nodes.rows (λ_=>rfl) (by decide);have x:=g.n_eq;obtain⟨sl,h⟩:=L.at_ z;have j:=(yg.1 h).1;obtain⟨y,-,u,-,-,r,e,f⟩:=g.get (i:=k) (by omega);rw[h]at u;cases u;have J:IR ((k:Int)):=⟨by omega,by have:=(g.succ (i:=k) (by omega)).2;omega⟩;obtain⟨N,Z,Y,O⟩:=Fk ((L.fld _ (xw h)).rows (λ_=>rfl) (by decide)) hv;exact⟨gs,ns,ls,nd,sl,t,L,h,J,r,e,by omega,f,N,Z,Y,O⟩
theorem exprCc{n:Nat}(hR:CallC d p F n):ExprCc d p F n:=by
 intro e;induction e using E.ind with
 |h e ih=>
 intro t V0 V s c q pr vals X hv he ht;obtain⟨gs,ns,ls,nd,hat,L⟩:=X.M.ex;obtain⟨fa,fb,hq0,hra0,hrb0⟩:=X.fr.ex;have hq:=L.sub _ _ hq0;have hd:=X.S.ds.sub L.sub;have heV:=he.sub L.sub;obtain⟨f,hf⟩:∃f,f=Dt d (Ck d (AU d F n) c) pr vals:=⟨_,rfl⟩;obtain⟨G,O⟩:∃G:Rx Int,G=C7 d (Ck d (AU d F n) c) pr vals (intB d (AA d pr) e.k) e.op e.n e.s (e.k.map f) s:=⟨_,rfl⟩;rw[Ia,<-hf,<-O];have hcs:=Hp X.S.procs (FH (F:=F) X.S.procs n) c;have hsz:=szE_eq e;have K:∀{i:Nat}{a:E},e.k[i]?=some a->BC (e.k.map f) i=f a:=λh=>Kl h;have kid:∀{i:Nat}{a:E}{u:KB}{V1:Mem}{s1:St},e.k[i]?=some a->Ao d (AA d pr) a=(u,0)->Cx V0 d p F c q pr vals n (Az a) V1 s1->Tri xV 251 #[pv p,pv q,.agg #[uI a.op,uI a.n,uS a.s,.slice a.l.p a.l.n a.l.c]] V1 (PX V0 d p F c (f a s1)):=λ{i a u V1 s1} z N B=>by
  have hm:=xw z;rw[hf];exact ih a hm u V0 V1 s1 c q pr vals B (hv.kids a hm) (he.kids a hm) N
 have go:∀{i:Nat}{a:E}{u:KB}{s1 s2:St}{V1 V2:Mem}{m k:Nat}{v:Int},e.k[i]?=some a->Ao d (AA d pr) a=(u,0)->Cx V0 d p F c q pr vals n m V1 s1->Az a+k<=m->f a s1=.ok v s2->EM V0 d p F V2 s2 c->Cx V0 d p F c q pr vals n k V2 s2/\AX d s2.mm u v:=λ{i a u s1 s2 V1 V2 m k v} z N B hm e2 M2=>by
  have hmem:=xw z;have P:=If X.S.procs hcs X.po a u s1 (hv.kids a hmem) N B.G B.hv;rw[hf]at e2;obtain⟨G2,g2,q2⟩:=P.got e2;exact⟨(B.le hm).next g2 G2 M2,q2⟩
 have s1':∀{a:E},e.k=[a]->Az e=Az a+1:=λh=>by rw[hsz,h];simp;omega
 have s2':∀{a b:E},e.k=[a,b]->Az e=Az a+Az b+1:=λh=>by rw[hsz,h];simp;omega
 have s3':∀{a b c:E},e.k=[a,b,c]->Az e=Az a+Az b+Az c+1:=λh=>by rw[hsz,h];simp;omega
 refine Tri.mono (x251 (R:=PX V0 d p F c G) ?_) λ_ _ h=>h;have two:∀{a b:E}{u w':KB},(9<=e.op/\e.op<=23/\e.op≠18/\e.op≠19/\e.op≠20/\e.op≠21)->e.k=[a,b]->Ao d (AA d pr) a=(u,0)->Ao d (AA d pr) b=(w',0)->(e.op≠14->e.op≠15->u=Ak/\w'=Ak)->
   w251 (sa p) (sa q) e.op e.n e.s e.l V (PX V0 d p F c G):=by
  intro a b u w' h Z N U hint;have z:e.k[0]?=some a:=by rw[Z];rfl
  have D:e.k[1]?=some b:=by rw[Z];rfl
  have Y:=O;rw[FG h,K z,K D]at Y;obtain⟨k1,k2,k3,k4⟩:=Da heV z;unfold w251;have hs:=s2' Z;refine Ag (by omega) (Ag (by omega) (Ag (by omega) (Ag (by omega) (Ag (by omega) (Ag (by omega) (Ag (by omega) (Ag (by omega) (Ag (by omega) (Ag (by omega) (Ag (by omega) (Ag (by omega) (Ag (by omega) ?_))))))))))));refine⟨k1,by decide,k3,_,_,_,_,k4,PX.bind Y (kid z N (X.le (by omega))) λv s1 V1 e1 I J=>?_⟩;obtain⟨B,r⟩:=go (k:=Az b+1) z N X (by omega) e1 I;obtain⟨l1,l2,l3,l4⟩:=Da (he.sub I.sub) D;refine⟨l1,by decide,l3,_,_,_,_,l4,PX.bind J (kid D U (B.le (by omega))) λw s2 V2 e2 M2 hG2=>?_⟩;obtain⟨X2,hv2⟩:=go (k:=1) D U B (by omega) e2 M2;have g2:=((If X.S.procs hcs X.po b w' s1 (hv.kids b (xw D)) U B.G B.hv).got (by rw[hf]at e2;exact e2)).2.1;have r:=g2.val r;obtain⟨gs2,ns2,ls2,nd2,A,L2⟩:=M2.ex;obtain⟨m1,m2,m3,m4⟩:=Da (he.sub M2.sub) z;have hcm:s2.cm+1<=16000000:=by have D:=X2.w;have h2:=X2.tk;have h3:=X2.S.fuel;unfold BW at D;omega
  have hib:intB d (AA d pr) e.k=decide (u=Ak):=by rw[Z];show decide ((Ao d (AA d pr) a).1=Ak)=_;rw[N]
  rw[hib]at hG2;have ty:=typC (F:=F) X2.S M2 X2.fr X2.po X2.G X2.hv a u (hv.kids a (xw z)) (he.kids a (xw z)) N;have hM:EM V0 d p F (V2.set p (.cells (AL d F s2.tk c ((s2.cm+1:Nat):Int) gs2 ns2 ls2).toArray 130 (0,0))) {s2 with cm:=s2.cm+1} c:=MA.set (row':=AL d F s2.tk c ((s2.cm+1:Nat):Int)) FI M2.p0 A L2 rfl rfl rfl rfl;have yes:∀{x:Int},(e.op=16∨e.op=17∨((e.op=14∨e.op=15)/\u=Ak))->AC e.op v w=.ok x->G=.ok x {s2 with cm:=s2.cm+1}:=λhc hx=>by
   rw[hG2,hx];unfold Dr;rw[if_pos (by simpa using hc)];rfl
  have no:∀{x:Int},¬(e.op=16∨e.op=17∨((e.op=14∨e.op=15)/\u=Ak))->AC e.op v w=.ok x->G=.ok x s2:=λhc hx=>by
   rw[hG2,hx];unfold Dr;rw[if_neg (by simpa using hc)];rfl
  have eqB:∀{x:Bool},(e.op=14∨e.op=15)->AC e.op v w=.ok (De x)->((decide (v=w))==(decide (e.op=14)))=x->_:=λ{x} ho hx U=>by
   refine(⟨m1,by decide,m3,_,_,_,_,m4,ty.call ⟨_,rfl,λhi=>⟨nn,nn,_,Aj A 13 1 (by simp[AL]),⟨by omega,by omega⟩,nn,nn,Am.at2 (off:=13) A (by simp[AL]) ?_⟩,λhi=>?_⟩⟩:¬e.l.p=none/\(0:Int)<=(0:Int)/\0<(e.l.n:Int)/\∃v16 v17 v18 v19,V2.rowp e.l.p ((0:Int).toNat*4) 4=some [uI v16,uI v17,uS v18,uL v19]/\
    TT 304 #[uP (sa p),uP (sa q),uA #[uI v16,uI v17,uS v18,uL v19]] V2 λe' V3=>∃v20,e'=rV (uS v20)/\
    Br (v20=(Ab [105,110,116]))
    (¬(some (⟨p,0,none⟩:Addr))=none/\¬(some (⟨p,0,none⟩:Addr))=none/\∃v21,V3.rowp (sa p) ((13:Int).toNat*1) 1=some [uI v21]/\
    IR (v21+1)/\¬(some (⟨p,0,none⟩:Addr))=none/\¬(some (⟨p,0,none⟩:Addr))=none/\Am (Aa (sa p) 13) 0 [uI (v21+1)] V3 λV4=>
    TT 305 #[uB ((decide (v=w))==(decide (e.op=14)))] V4 λe' V5=>∃v22,e'=rV (uI v22)/\PX V0 d p F c G (rV (uI v22)) V5)
    (TT 305 #[uB ((decide (v=w))==(decide (e.op=14)))] V3 λe' V4=>∃v21,e'=rV (uI v21)/\PX V0 d p F c G (rV (uI v21)) V4))
   .rw[U];exact c305.call ⟨_,rfl,PX.ok (yes (.inr (.inr ⟨ho,hi⟩)) hx) hM⟩
   .rw[U];exact c305.call ⟨_,rfl,PX.ok (no (λk=>k.elim (λk=>by omega) λk=>k.elim (λk=>by omega) λk=>hi k.2) hx) M2⟩
  have cmB:∀{x:Bool},(e.op=16∨e.op=17)->AC e.op v w=.ok (De x)->(¬(some (⟨p,0,none⟩:Addr))=none/\¬(some (⟨p,0,none⟩:Addr))=none/\∃v16,V2.rowp (sa p) ((13:Int).toNat*1) 1=some [uI v16]/\
    IR (v16+1)/\¬(some (⟨p,0,none⟩:Addr))=none/\¬(some (⟨p,0,none⟩:Addr))=none/\Am (Aa (sa p) 13) 0 [uI (v16+1)] V2 λV3=>
    TT 305 #[uB x] V3 λe' V4=>∃v17,e'=rV (uI v17)/\PX V0 d p F c G (rV (uI v17)) V4):=λ{x} ho hx=>
   ⟨nn,nn,_,Aj A 13 1 (by simp[AL]),⟨by omega,by omega⟩,nn,nn,Am.at2 (off:=13) A (by simp[AL]) (c305.call ⟨_,rfl,PX.ok (yes (by omega) hx) hM⟩)⟩
  refine⟨λh14=>eqB (x:=decide (v=w)) (.inl h14) ?_ ?_,λh14=>⟨λh15=>eqB (x:=!decide (v=w)) (.inr h15) ?_ ?_,λh15=>⟨λh16=>cmB (.inl h16) ?_,λh16=>⟨λh17=>cmB (.inr h17) ?_,λh17=>?_⟩⟩⟩⟩;.rw[show e.op=14 from h14];rfl
  .rw[decide_eq_true (show e.op=14 from h14)];cases decide (v=w)<;>rfl
  .rw[show e.op=15 from h15];rfl
  .rw[decide_eq_false (show ¬e.op=14 from h14)];cases decide (v=w)<;>rfl
  .rw[show e.op=16 from h16];rfl
  .rw[show e.op=17 from h17];rfl
  .have h14:¬e.op=14:=h14;have h15:¬e.op=15:=h15;have h16:¬e.op=16:=h16;have h17:¬e.op=17:=h17;obtain⟨rfl,rfl⟩:=hint h14 h15;refine PB.last (s:=s2) ?_ M2 (c306 (by omega) (Cw.1 r) (Cw.1 hv2));rw[hG2];unfold Dr;rw[if_neg (by omega)]
 have hkind:=kindX (sc:=AA d pr) rfl hv ht;cases hkind with
 |int h hn=>
  unfold w251;exact As h (PX.ok (O.trans (Ib (.inl h))) X.M)
 |bool h hn=>
  unfold w251;exact Ag (by omega) (As h (PX.ok (O.trans (Ib (.inr h))) X.M))
 |nil h hn=>
  unfold w251;repeat refine Ag (h▸(by decide)) ?_
  exact As h (PX.ok (O.trans (LZ h)) X.M)
 |var h hl hne=>
  unfold w251;have Y:=O.trans (L8 h);have hra:=hra0.sub L.sub;repeat refine Ag (h▸(by decide)) ?_
  refine As h ⟨nn,nn,fa,Aj hq 0 1 (by simp),(c252 hra).call ⟨_,rfl,?_⟩⟩;have hvg:=(BR X.G.mem).2.2.2.1;rcases Ho X.G X.hv X.po.vars hl hne with⟨i,g,v,D,h2,h3,h4,-,h6⟩|⟨i,g,v,z,D,h2,h3,h4,-,h6⟩
  .rw[D];obtain⟨g1,g2,g3,g4⟩:=Fk (hrb0.sub L.sub) h3;exact As (by omega) ⟨nn,nn,fb,Aj hq 1 1 (by simp),g1,g2,g3,_,g4,PX.ok (Y.trans h6) X.M⟩
  .rw[z];have B:=X.le (k:=1) (by omega);refine Ag (by decide) ⟨nn,nn,AJ,d.gs,Aj hat 2 1 (by simp[AL]),(c252 hd.globals).call ⟨_,rfl,?_⟩⟩;rw[D];refine Tri.mono (c253 X.M (Cx.fit (m:=0) B)) ?_;rintro _ V3 ⟨rfl,M3⟩;obtain⟨gs3,ns3,ls3,nd3,T,L3⟩:=M3.ex;obtain⟨g1,g2,g3,g4⟩:=Fk (L3.glob.rows (λ_=>rfl) (by decide)) (i:=i) (v:=v) h3;exact⟨rfl,nn,nn,AJ,gs3,Aj T 8 1 (by simp[AL]),g1,g2,g3,_,g4,PX.ok (Y.trans h6) M3⟩
 |@fld _ u a h Z N hf'=>
  unfold w251;have z:e.k[0]?=some a:=by rw[Z];rfl
  have Y:=O;rw[Km h,K z]at Y;obtain⟨k1,k2,k3,k4⟩:=Da heV z;have hs:=s1' Z;repeat refine Ag (h▸(by decide)) ?_
  refine As h ⟨k1,by decide,k3,_,_,_,_,k4,PX.bind Y (kid z N (X.le (by omega))) λv s1 V1 e1 I J=>?_⟩;obtain⟨B,r⟩:=go (k:=1) z N X (by omega) e1 I;refine⟨λC=>FJ (PX.bad ?_ I),λC=>?_⟩;.rw[J];unfold fldX;rw[if_pos (show v=0 from C)]
  have C:¬v=0:=C;obtain⟨k,i,j,tt,g,fs,w,rfl,e2,e3,e4,e5,e6,e7,e8,e9,-⟩:=Ie B.G hf' r C;refine(c254 X.S I e2 e3).call ⟨_,rfl,?_⟩;rw[e6];refine Tri.mono (c253 I (Cx.fit (m:=0) B)) ?_;rintro _ V3 ⟨rfl,M3⟩;obtain⟨gs3,ns3,ls3,nd3,sl3,T,L3,-,hI,n1,n2,n3,n4,m1,m2,m3,m4⟩:=nodeAt M3 (k:=k) (i:=i) e2 e8;rw[show((k:Int)+1-1)=(k:Int)by omega];refine⟨rfl,nn,nn,AJ,ns3,Aj T 9 1 (by simp[AL]),hI,n1,n2,n3,Ai n1,_,_,n4,m1,m2,m3,_,m4,PX.ok ?_ M3⟩;rw[J];unfold fldX;rw[if_neg C,show((k:Int)+1-1).toNat=k by omega,e2];simp only;rw[e5,e6,wH,e8];rfl
 |new h hn=>
  unfold w251;have Y:=O.trans (L9 h);repeat refine Ag (h▸(by decide)) ?_
  have hnn:=(L.nodes.rows (λ_=>rfl) (by decide)).n_eq;have hlen:=L.len;refine As h ⟨nn,nn,AJ,ns,Aj hat 9 1 (by simp[AL]),λhl=>FJ (PX.bad ?_ X.M),λhl=>?_⟩
  .have hl:4096<=(ns.n:Int):=hl;rw[Y];unfold newX;rw[if_pos (by omega)]
  have hl:¬4096<=(ns.n:Int):=hl;obtain⟨tt,htm,hte⟩:=List.any_eq_true.1 hn;have hte:tt.name=e.s:=of_decide_eq_true hte;obtain⟨j,hj⟩:=uJ.1 htm;have hidx:BA d e.s=(j:Int):=hte▸(Fc (BR X.G.mem).1).2.1 j tt hj;have hfo:B3 d (j:Int)=tt.fields:=Ew hj rfl;refine(c302 X.S X.M).call ⟨_,rfl,?_⟩;rw[hidx];have htn:=hd.types.n_eq;have hjl:=(yg.1 hj).1;obtain⟨y,-,hy,-,-,hp,C,hrow⟩:=hd.types.get (i:=j) (by omega);rw[hj]at hy;cases hy;have hfn:=(hd.typesOk tt htm).fields.n_eq;have hfl:=(lens12 X.S.valid).2 tt htm;refine⟨nn,nn,AJ,ns,Aj hat 9 1 (by simp[AL]),nn,nn,AJ,d.ts,Aj hat 1 1 (by simp[AL]),hp,C,by omega,Ai hp,_,_,hrow,mk31 (n:=tt.fs.n) rfl rfl (by omega) λg hg=>⟨⟨some ⟨g,0,none⟩,tt.fs.n,tt.fs.n⟩,rfl,?_⟩⟩;obtain⟨V2,hV2⟩:∃V2,V2=V.set g (.cells (madeCells (vP .i64 0).cells (tt.fs.n*1)) 3 (0,0)):=⟨_,rfl⟩;have hown:=Md hg (n:=tt.fs.n) (by omega);rw[<-hV2]at hown⊢;have A:=hown.sub _ _ hat;refine⟨Do A 9 0 1 (by simp[AL]),AJ,nn,nn,Do A 9 0 1 (by simp[AL]),AJ,nn,nn,λtb htb=>?_⟩;refine L.new (n:=⟨(j:Int),⟨some ⟨g,0,none⟩,tt.fs.n,tt.fs.n⟩,zB tt.fs.n 0⟩) hown htb rfl rfl (by omega) λs3 V3 L3 hk3=>⟨s3,rfl,nn,nn,AJ,?_⟩;have T:=hk3 _ _ A (GQ hat FI L.nodes (.inr (.inl rfl)));refine Am.at2 (off:=9) T (by simp[AL]) ?_;have M4:EM V0 d p F (V3.set p (.cells (AL d F s.tk c s.cm gs s3 ls).toArray 130 (0,0))) {s with ns:=s.ns++[((j:Int),zB tt.fs.n 0)]} c:=
   ⟨X.M.p0,gs,s3,ls,nd++[_],Mem.set_same _ _ _,L3.put (I4 T FI) X.M.p0 _⟩
  have hn3:=(L3.nodes.rows (λ_=>rfl) (by decide)).n_eq;rw[zK,zL]at hn3;show ¬(some (⟨p,0,none⟩:Addr):XI)=none/\_;refine⟨nn,nn,AJ,s3,Aj Av 9 1 (by simp[AL]),?_⟩;rw[show((s3.n:Nat):Int)=(s.ns.length:Int)+1 by omega];have hfit:s.lg.length+1<=2147483648:=Cx.fit (m:=0) (X.le (k:=0+1) (by omega));refine Tri.mono (c253 M4 hfit) ?_;rintro _ V7 ⟨rfl,M7⟩;obtain⟨gs7,ns7,ls7,nd7,hat7,L7⟩:=M7.ex;have hn7:=(L7.nodes.rows (λ_=>rfl) (by decide)).n_eq;have hl7:=L7.len;have hl7:nd7.length=(s.ns++[((j:Int),zB tt.fs.n 0)]).length:=hl7;rw[zK,zL]at hl7;refine⟨rfl,nn,nn,AJ,ns7,Aj hat7 9 1 (by simp[AL]),?_⟩;rw[show((ns7.n:Nat):Int)=(s.ns.length:Int)+1 by omega];refine PX.ok ?_ M7;rw[Y];unfold newX;rw[if_neg (by omega),hidx,hfo,<-hfn];rfl
 |@call pr' i h hc hr=>
  unfold w251;have Y:=O.trans (Ic h);rw[hc.idx]at Y;repeat refine Ag (h▸(by decide)) ?_
  refine As h (PX.last Y ?_);rw[hf];refine callC hR X he hc hv λa hm u W V' s' hW X' N=>?_;exact ih a hm u W V' s' c q pr vals X' (hv.kids a hm) ((he.kids a hm).sub hW) N
 |@neg a h Z N=>
  unfold w251;have z:e.k[0]?=some a:=by rw[Z];rfl
  have Y:=O;rw[Kn h,K z]at Y;obtain⟨k1,k2,k3,k4⟩:=Da heV z;have hs:=s1' Z;repeat refine Ag (h▸(by decide)) ?_
  refine As h ⟨k1,by decide,k3,_,_,_,_,k4,PX.bind Y (kid z N (X.le (by omega))) λv s1 V1 e1 I J=>?_⟩;obtain⟨B,r⟩:=go (k:=1) z N X (by omega) e1 I;have:=Cw.1 r;rw[<-Int.zero_sub]at J;exact⟨⟨by omega,by omega⟩,PB.last J I c303⟩
 |@not a h Z N=>
  unfold w251;have z:e.k[0]?=some a:=by rw[Z];rfl
  have Y:=O;rw[cX18 h,K z]at Y;obtain⟨k1,k2,k3,k4⟩:=Da heV z;have hs:=s1' Z;repeat refine Ag (h▸(by decide)) ?_
  refine As h ⟨k1,by decide,k3,_,_,_,_,k4,PX.bind Y (kid z N (X.le (by omega))) λv s1 V1 e1 I J=>?_⟩;obtain⟨B,r⟩:=go (k:=1) z N X (by omega) e1 I;have:=C6.1 r;exact⟨⟨by omega,by omega⟩,PX.ok J I⟩
 |@log a h Z N=>
  unfold w251;have z:e.k[0]?=some a:=by rw[Z];rfl
  have Y:=O;rw[cX24 h,K z]at Y;obtain⟨k1,k2,k3,k4⟩:=Da heV z;have hs:=s1' Z;repeat refine Ag (h▸(by decide)) ?_
  refine As h ⟨k1,by decide,k3,_,_,_,_,k4,PX.bind Y (kid z N (X.le (by omega))) λv s1 V1 e1 I J=>?_⟩;obtain⟨B,r⟩:=go (k:=1) z N X (by omega) e1 I;have hr:=Cw.1 r;refine GenK.max2 rfl rfl ⟨_,rfl,?_⟩;obtain⟨w,hw⟩:∃w:Nat,(if(1:Int)<v then v else 1)=(w:Int):=⟨(if(1:Int)<v then v else 1).toNat,by split<;>omega⟩;rw[hw];have hw1:1<=w/\(w:Int)<=1099511627776:=by split at hw<;>omega
  have U:vC w<64:=(Nat.log2_lt (by omega)).2 (by omega);have hlen:CT w=(vC w:Int)+1:=by unfold CT;rw[if_neg (by omega)]
  refine⟨H7 _ (by omega),(c264 (by omega)).call ⟨_,rfl,?_⟩⟩;rw[hlen];refine⟨⟨by omega,by omega⟩,PX.ok ?_ I⟩;rw[J];have:Bv v=(vC w:Int):=by
   unfold Bv;by_cases r:1<v;.rw[if_pos r]at hw;rw[hw,wH]
   .rw[if_neg r]at hw;have:w=1:=by omega
    subst this;have:v.toNat=0∨v.toNat=1:=by omega
    rcases this with h|h<;>rw[h]<;>rfl
  rw[this,show(vC w:Int)+1-1=(vC w:Int)by omega]
 |@and a b h Z N U=>
  unfold w251;have z:e.k[0]?=some a:=by rw[Z];rfl
  have D:e.k[1]?=some b:=by rw[Z];rfl
  have Y:=O;rw[cX19 h,K z,K D]at Y;obtain⟨k1,k2,k3,k4⟩:=Da heV z;have hs:=s2' Z;repeat refine Ag (h▸(by decide)) ?_
  refine As h ⟨k1,by decide,k3,_,_,_,_,k4,PX.bind Y (kid z N (X.le (by omega))) λv s1 V1 e1 I J=>?_⟩;obtain⟨B,r⟩:=go (k:=Az b) z N X (by omega) e1 I;obtain⟨l1,l2,l3,l4⟩:=Da (he.sub I.sub) D;refine⟨λC=>PX.ok ?_ I,λC=>⟨l1,by decide,l3,_,_,_,_,l4,PX.last ?_ (kid D U B)⟩⟩;.rw[J,if_pos (show v=0 from C)]
  .rw[J,if_neg (show ¬v=0 from C)]
 |@or a b h Z N U=>
  unfold w251;have z:e.k[0]?=some a:=by rw[Z];rfl
  have D:e.k[1]?=some b:=by rw[Z];rfl
  have Y:=O;rw[cX20 h,K z,K D]at Y;obtain⟨k1,k2,k3,k4⟩:=Da heV z;have hs:=s2' Z;repeat refine Ag (h▸(by decide)) ?_
  refine As h ⟨k1,by decide,k3,_,_,_,_,k4,PX.bind Y (kid z N (X.le (by omega))) λv s1 V1 e1 I J=>?_⟩;obtain⟨B,r⟩:=go (k:=Az b) z N X (by omega) e1 I;obtain⟨l1,l2,l3,l4⟩:=Da (he.sub I.sub) D;have r:=C6.1 r;refine⟨λC=>PX.ok ?_ I,λC=>⟨l1,by decide,l3,_,_,_,_,l4,PX.last ?_ (kid D U B)⟩⟩
  .have C:v=1:=C;rw[J,if_neg (by omega)]
  .have C:¬v=1:=C;rw[J,if_pos (by omega)]
 |@cond a b c' _ u w h Z N U hc hu hw _=>
  unfold w251;have z:e.k[0]?=some a:=by rw[Z];rfl
  have D:e.k[1]?=some b:=by rw[Z];rfl
  have h2:e.k[2]?=some c':=by rw[Z];rfl
  have Y:=O;rw[cX21 h,K z,K D,K h2]at Y;obtain⟨k1,k2,k3,k4⟩:=Da heV z;have hs:=s3' Z;repeat refine Ag (h▸(by decide)) ?_
  refine As h ⟨k1,by decide,k3,_,_,_,_,k4,PX.bind Y (kid z N (X.le (by omega))) λv s1 V1 e1 I J=>?_⟩;obtain⟨B,r⟩:=go (k:=Az b+Az c') z N X (by omega) e1 I;obtain⟨l1,l2,l3,l4⟩:=Da (he.sub I.sub) D;obtain⟨m1,m2,m3,m4⟩:=Da (he.sub I.sub) h2;have r:=C6.1 r;refine⟨λC=>⟨l1,by decide,l3,_,_,_,_,l4,PX.last ?_ (kid D U (B.le (by omega)))⟩,λC=>⟨m1,by decide,m3,_,_,_,_,m4,PX.last ?_ (kid h2 hc (B.le (by omega)))⟩⟩
  .have C:v=1:=C;rw[J,if_neg (by omega)]
  .have C:¬v=1:=C;rw[J,if_pos (by omega)]
 |@eq a b u w h Z N U hf'=>exact two (by omega) Z N U λ_ _=>by omega
 |@cmp a b h Z N U=>exact two (by omega) Z N U λ_ _=>⟨rfl,rfl⟩
 |@ari a b h Z N U=>exact two (by omega) Z N U λ_ _=>⟨rfl,rfl⟩
end
section
variable{W V0 V V1 V':Mem}{d:Ds}{p F c q:Nat}{s:St}{pr:Pr}{vals:XZ}
theorem MA.poke{ty:Nat}{row:Sl->Sl->Sl->XV}(h:MA ty V0 p row V s){b:Nat}(g:V0 b≠none)(o:Obj):MA ty (V0.set b o) p row (V.set b o) s:=by
 obtain⟨gs,ns,ls,nd,f,L⟩:=h.ex;have k:p≠b:=λe=>g (e▸h.p0);exact⟨by rw[Mem.set_ne k];exact h.p0,gs,ns,ls,nd,by grind[Mem.set_ne],L.poke g o⟩
structure GR (W V0:Mem)(q:Nat)(pr:Pr)(vals:XZ):Prop where
 sub:W.sub V0
 ex:∃a b:Sl,W q=some (.cells #[a.v,b.v] 223 (0,0))/\Ae W a 2 (pr.vars.map Fld.row)/\Sx.Own W V0 3 1 b (vals.flatMap Aw)
theorem GR.fv(h:GR W V0 q pr vals):Fv V0 q pr vals:=by
 obtain⟨a,b,k,g,f⟩:=h.ex;exact⟨a,b,h.sub _ _ k,g.sub h.sub,f.rows (λ_=>rfl) (by decide)⟩
theorem frStore{b:Sl}(own:Sx.Own W V0 3 1 b (vals.flatMap Aw))(M:EM V0 d p F V s c){i:Nat}(hi:i<vals.length){v:Int}{Q:Mem->Prop}
  (x:∀h V',Sx.Own W h 3 1 b ((vals.set i v).flatMap Aw)->EM h d p F V' s c->Q V'):Am (Aa b.p (i*1)) 0 [uI v] V Q:=by
 rw[Nat.mul_one];rcases own.cases0 with⟨f,t,k⟩|⟨J,g,cur,f,t,k,z,j,h6,h7⟩
 .rw[C9]at k;have:vals=[]:=by simpa using k
  rw[this]at hi;simp at hi
 have r:b.n*1<=b.c*1:=Nat.mul_le_mul_right _ z;have y:=own.len;rw[C9,vp]at y;have u:V0 g≠none:=by rw[k];simp
 rw[f];have e:(cur.toList.take i++[vP .i64 v]++cur.toList.drop (i+1))=cur.toList.set i (uI v):=H9 _ _ _ (by simp;omega);refine Am.at2 (off:=i) (M.sub _ _ k) (by simp;omega) (x (V0.set g _) _ ⟨own.sub.set t _,?_,.inr ⟨g,_,f,t,Mem.set_same _ _ _,z,j,?_,?_⟩⟩ (M.poke u _));.rw[C9,vp,List.length_set];exact y
 .simp_all
 .rw[show i+[vP .i64 v].length=i+1 from rfl,e];show(cur.toList.set i (uI v)).take (b.n*1)=_;rw[List.take_set,h7,C9,C9,List.map_set]
def PS(W:Mem)(d:Ds)(p F c q:Nat)(pr:Pr)(r:Rx Rt):RP:=λe V'=>match r with
 |.ok g s=>e=.returned (.agg #[.bool g.2.isSome,uI (g.2.getD 0)])/\∃h,GR W h q pr g.1/\EM h d p F V' s c
 |.bad k s=>e=fltE k/\∃f,EM W d p F V' s f
theorem PS.bind{f:FuncId}{args:XQ}{r:Rx Int}{G:Rx Rt}{h:Int->St->Rx Rt}{K:Int->Mem->Prop}(t:W.sub V0)(g:G=r.bind h)(H:Tri xV f args V (PX V0 d p F c r))(u:∀v s V',r=.ok v s->EM V0 d p F V' s c->G=h v s->K v V'):
  Tri xV f args V λe V'=>(∃v,e=Id v/\K v V')∨∃z,e=.panicked z/\PS W d p F c q pr G e V':=
 PX.split H (λk s y V' e hm=>by subst e;rw[g];exact⟨rfl,y,hm.narrow t⟩) λv s V' e hm=>u v s V' e hm (by rw[g,e];rfl)
theorem PS.ok{G:Rx Rt}{rt:Rt}(h:G=.ok rt s)(k:GR W V0 q pr rt.1)(M:EM V0 d p F V s c){b:Bool}{v:Int}(g:b=rt.2.isSome)(hv:v=rt.2.getD 0):PS W d p F c q pr G (.returned (.agg #[.bool b,uI v])) V:=by
 rw[h,g,hv];exact⟨rfl,V0,k,M⟩
theorem PS.bad{G:Rx Rt}{k:Int}(h:G=.bad k s)(g:W.sub V0)(M:EM V0 d p F V s c):PS W d p F c q pr G (fltE k) V:=by rw[h];exact⟨rfl,c,M.narrow g⟩
theorem PS.split{f:FuncId}{args:XQ}{r:Rx Rt}{K:Bool->Int->Mem->Prop}{R:RP}(H:Tri xV f args V (PS W d p F c q pr r))(z:∀k s u V',r=.bad k s->EM W d p F V' s u->R (fltE k) V')(j:∀t s g V',r=.ok t s->GR W g q pr t.1->EM g d p F V' s c->K t.2.isSome (t.2.getD 0) V'):
  Tri xV f args V λe V'=>(∃b v,e=.returned (.agg #[.bool b,uI v])/\K b v V')∨∃y,e=.panicked y/\R e V':=
 Tri.mono H λe V' h=>by
  cases r with
  |ok t s=>obtain⟨J,g,N,Z⟩:=h;grind
  |bad k s=>
   obtain⟨x,u,hm⟩:=h;subst x;exact .inr ⟨_,rfl,z k s u V' rfl hm⟩
structure CY (W V0:Mem)(d:Ds)(p F c q:Nat)(pr:Pr)(vals:XZ)(n m:Nat)(V:Mem)(s:St):Prop where
 S:ES W d F
 fr:GR W V0 q pr vals
 po:DG d pr
 G:An d s.mm
 hv:AE d s.mm pr.vars vals=true
 M:EM V0 d p F V s c
 tk:s.tk<=F
 n:F<n+s.tk
 w:BW m s
theorem CY.cx{n m:Nat}(X:CY W V0 d p F c q pr vals n m V s):Cx V0 d p F c q pr vals n m V s:=⟨X.S.sub X.fr.sub,X.fr.fv,X.po,X.G,X.hv,X.M,X.tk,X.n,X.w⟩
theorem CY.next{n m k:Nat}{f:Mem}{h:XZ}{s':St}(X:CY W V0 d p F c q pr vals n (m+k) V s)(g:Gr F m s s')(G:An d s'.mm)(t:GR W f q pr h)(hv:AE d s'.mm pr.vars h=true)(M:EM f d p F V' s' c):CY W f d p F c q pr h n k V' s':=
 ⟨X.S,t,X.po,G,hv,M,g.fu X.tk,by have:=g.tk;have:=X.n;omega,X.w.next g⟩
theorem CY.le{n m k:Nat}(X:CY W V0 d p F c q pr vals n m V s)(h:k<=m):CY W V0 d p F c q pr vals n k V s:=⟨X.S,X.fr,X.po,X.G,X.hv,X.M,X.tk,X.n,X.w.le h⟩
variable(d p F)in
def SC(n:Nat):Prop:=∀(l:XK)(W V0 V:Mem)(s:St)(c q:Nat)(pr:Pr)(vals:XZ)(sl:Sl),CY W V0 d p F c q pr vals n 0 V s->(∀x∈l,DO d pr x)->(∀x∈l,S.Ok W x)->Ae W sl 5 (l.map S.row)->
 Tri xV 142 #[pv p,pv q,sl.v] V (PS W d p F c q pr (AU d F n c pr l vals s))
variable(d p F)in
def NW(n:Nat):Prop:=∀(x:S)(W V0 V:Mem)(s:St)(c q:Nat)(pr:Pr)(vals:XZ),CY W V0 d p F c q pr vals (n+1) 0 V s->DO d pr x->S.Ok W x->
 Tri xV 192 #[pv p,pv q,x.v] V (PS W d p F c q pr (Dx d F (AU d F n) c pr (n+1) x vals s))
theorem stsC{n:Nat}(H:NW d p F n):SC d p F (n+1):=by
 intro l W V0 V s c q pr vals sl X I K e;obtain⟨f,hf⟩:∃f,f=Dx d F (AU d F n) c pr (n+1):=⟨_,rfl⟩;obtain⟨G,hG⟩:∃G:Rx Rt,G=D5 f l vals s:=⟨_,rfl⟩;show Tri _ _ _ _ (PS W d p F c q pr (D5 (Dx d F (AU d F n) c pr (n+1)) l vals s));rw[<-hf,<-hG];refine Tri.mono (x142 (R:=PS W d p F c q pr G) ?_) λ_ _ h=>h;refine EJ l.length (λi V1=>∃N g s',CY W N d p F c q pr g (n+1) 0 V1 s'/\G=D5 f (l.drop i) g s') ⟨V0,vals,s,X,hG⟩ ?_;rintro i V1 J hi ⟨N,g,s',t,u⟩ hJ;have T:=e.sub (t.fr.sub.trans t.M.sub);refine⟨λZ=>?_,λU=>?_⟩
 .obtain⟨x,Y,hx,hdr,hil,hp,hz,j⟩:=T.get Z;rw[S.row_eq]at j;rw[hdr]at u;have z:G=(f x g s').bind λr st=>match r.2 with|some _=>.ok r st|none=>D5 f (l.drop (i+1)) r.1 st:=u
  have P:=st_snd (F:=F) (c:=c) (n:=n+1) t.S.procs (FH t.S.procs n) t.po (I x Y) t.G t.hv;have Hx:=H x W N V1 s' c q pr g t (I x Y) (K x Y);rw[<-hf]at Hx P;rw[show x.v=.agg #[uI x.op,uS x.s,.slice x.el.p x.el.n x.el.c,.slice x.ll.p x.ll.n x.ll.c,.slice x.xl.p x.xl.n x.xl.c]by unfold S.v;rw[S.row_eq];rfl]at Hx;refine⟨hp,hz,Z,_,_,_,_,_,j,PS.split Hx (λk C c' V2 D E=>?_) λA C L V2 D B E=>?_⟩;.rw[z,D];exact⟨rfl,c',E⟩
  obtain⟨G2,g2,q2⟩:=P.got D;rw[D]at z;cases y:A.2 with
  |some v=>
   have O:G=.ok A C:=by rw[z];show(match A.2 with|some _=>_|none=>_)=_;rw[y]
   exact⟨λ_=>PS.ok O B E (by rw[y]) (by rw[y]),λh=>absurd rfl h⟩
  |none=>
   have O:G=D5 f (l.drop (i+1)) A.1 C:=by rw[z];show(match A.2 with|some _=>_|none=>_)=_;rw[y]
   exact⟨(λh=>by cases h),λ_=>⟨T.succ Z,hJ hil _ ⟨L,A.1,C,t.next (m:=0) g2 G2 B q2.1 E,O⟩⟩⟩
 .rw[(T.done U).1]at u;exact PS.ok u t.fr t.M rfl rfl
end
section
variable{W V0 V V1 V':Mem}{d:Ds}{p F c q:Nat}{s:St}{pr:Pr}{vals:XZ}
theorem esAt{x:S}(h:S.Ok V x){i:Nat}{a:E}(g:x.es[i]?=some a):¬x.el.p=none/\(i:Int)<(x.el.n:Int)/\V.rowp x.el.p (i*4) 4=some [uI a.op,uI a.n,uS a.s,.slice a.l.p a.l.n a.l.c]:=by
 have f:=h.eRows;have j:=f.n_eq;have r:=(yg.1 g).1;obtain⟨y,-,t,-,u,z,e,k⟩:=f.get (i:=i) (by omega);rw[g]at t;cases t;exact⟨z,by omega,k⟩
theorem Kx(h:s.tk<F):Eh F s=.ok () {s with tk:=s.tk+1}:=by unfold Eh;rw[if_neg (by omega)]
theorem Ky(h:F<=s.tk):Eh F s=.bad 20 s:=by unfold Eh;rw[if_pos h]
theorem CY.tick{n:Nat}(X:CY W V0 d p F c q pr vals (n+1) 0 V s)(h:s.tk<F)(M:EM V0 d p F V' {s with tk:=s.tk+1} c):CY W V0 d p F c q pr vals n 4000 V' {s with tk:=s.tk+1}:=
 ⟨X.S,X.fr,X.po,⟨X.G.valid,X.G.chk,X.G.mem⟩,X.hv,M,h,by have:=X.n;show F<n+(s.tk+1);omega,by have:=X.w;unfold BW at*;show s.lg.length+s.cm+4000<=4000*(s.tk+1);omega⟩
theorem CY.tick'{n:Nat}(X:CY W V0 d p F c q pr vals n 0 V s)(h:s.tk<F)(M:EM V0 d p F V' {s with tk:=s.tk+1} c):CY W V0 d p F c q pr vals n 4000 V' {s with tk:=s.tk+1}:=
 ⟨X.S,X.fr,X.po,⟨X.G.valid,X.G.chk,X.G.mem⟩,X.hv,M,h,by have:=X.n;show F<n+(s.tk+1);omega,by have:=X.w;unfold BW at*;show s.lg.length+s.cm+4000<=4000*(s.tk+1);omega⟩
theorem QE{n:Nat}(hE:ExprCc d p F n)(hS:SC d p F n)(hR:CallC d p F n):NW d p F n:=by
 intro x W V0 V s c q pr vals X hty D;obtain⟨G,hG0⟩:∃G:Rx Rt,G=Dx d F (AU d F n) c pr (n+1) x vals s:=⟨_,rfl⟩;rw[<-hG0];refine Tri.mono ((show x.v=.agg #[uI x.op,uS x.s,.slice x.el.p x.el.n x.el.c,.slice x.ll.p x.ll.n x.ll.c,.slice x.xl.p x.xl.n x.xl.c]by unfold S.v;rw[S.row_eq];rfl)▸x192 (R:=PS W d p F c q pr G) ?_) λ_ _ h=>h;have hF:=X.S.fuel;refine Tri.mono (c250 hF X.M) ?_;rintro e1 V1 (⟨hlt,rfl,M1⟩|⟨hge,rfl,rfl⟩);rotate_left
 .refine .inr ⟨_,rfl,PS.bad (s:=s) ?_ X.fr.sub X.M⟩;rw[hG0];unfold Dx;rw[Ky hge];rfl
 refine .inl ⟨rfl,?_⟩;obtain⟨s1,hs1⟩:∃s1:St,s1={s with tk:=s.tk+1}:=⟨_,rfl⟩;have Y:CY W V0 d p F c q pr vals n 4000 V1 s1:=by rw[hs1];exact X.tick hlt M1
 have U:G=Fj d F (AU d F n) c pr (n+1) x vals s1:=by rw[hG0];unfold Dx;rw[Kx hlt,hs1];rfl
 have hcs:=FH (F:=F) X.S.procs n;have okV:∀{V2:Mem}{Z:Mem},W.sub Z->Z.sub V2->S.Ok V2 x:=λh1 h2=>D.sub (h1.trans h2);have ex:∀{i:Nat}{a:E}{u:KB}{V2 Z:Mem}{f:XZ}{A:St}{m:Nat},x.es[i]?=some a->Bh a=true->Ao d (AA d pr) a=(u,0)->CY W Z d p F c q pr f n m V2 A->1000<=m->
   Tri xV 251 #[pv p,pv q,.agg #[uI a.op,uI a.n,uS a.s,.slice a.l.p a.l.n a.l.c]] V2 (PX Z d p F c (CH d (AU d F n) c pr f a A)):=λ{i a u V2 Z f A m} K hv ha N hm=>by
  have hp:=Gf hv;exact hE a u Z V2 A c q pr f (N.cx.le (by omega)) hp.1 ((D.eOk a (xw K)).sub N.fr.sub) ha
 have go:∀{a:E}{u:KB}{V2 V3 Z:Mem}{f:XZ}{A I:St}{m:Nat}{v:Int},Bh a=true->Ao d (AA d pr) a=(u,0)->CY W Z d p F c q pr f n (1000+m) V2 A->CH d (AU d F n) c pr f a A=.ok v I->EM Z d p F V3 I c->
   CY W Z d p F c q pr f n m V3 I/\AX d I.mm u v/\Gr F 1000 A I:=λ{a u V2 V3 Z f A I m v} hv ha N e M3=>by
  obtain⟨G3,g3,q3⟩:=(Gg (F:=F) (c:=c) N.S.procs hcs N.po hv ha N.G N.hv).got e;exact⟨N.next g3 G3 N.fr (BS (λh=>g3.right h) N.hv) M3,q3,g3⟩
 unfold Fj at U;cases kindS hty with
 |@set a u t h B hv ht hl hne hf=>
  rw[if_pos h,B,uF]at U;have K:x.es[0]?=some a:=by rw[B];rfl
  obtain⟨k1,k3,k4⟩:=esAt (okV Y.fr.sub Y.M.sub) K;refine As h ⟨k1,by decide,k3,_,_,_,_,k4,PS.bind Y.fr.sub U (ex K hv ht Y (by omega)) λv A V2 e2 M2 r=>?_⟩;obtain⟨N,C,-⟩:=go (m:=3000) hv ht Y e2 M2;obtain⟨fa,fb,hq0,hra0,hrb0⟩:=N.fr.ex;have hW2:=N.fr.sub.trans N.M.sub;have hq:=hW2 _ _ hq0;refine⟨nn,nn,fa,Aj hq 0 1 (by simp),(c252 (hra0.sub hW2)).call ⟨_,rfl,?_⟩⟩;unfold setX at r;rcases Ho N.G N.hv N.po.vars hl hne with⟨i,g,w,h1,h2,h3,h4,-⟩|⟨i,g,w,h0',h1,h2,h3,h4,-⟩
  .rw[h1];rw[if_pos (by omega),h1,wH]at r;have hil:=(yg.1 h3).1;have hbn:=((hrb0.rows (λ_=>rfl) (by decide):Ae V0 fb 1 (vals.map Aw))).n_eq;obtain⟨g1,g2,g3,-⟩:=Fk (hrb0.rows (λ_=>rfl) (by decide)) h3;refine As (by omega) ⟨nn,nn,fb,Aj hq 1 1 (by simp),g1,g2,g3,frStore hrb0 M2 hil λZ V' ho M'=>?_⟩;exact PS.ok r ⟨ho.sub,fa,fb,hq0,hra0,ho⟩ M' rfl rfl
  .rw[h0'];rw[if_neg (by omega),h1,wH]at r;obtain⟨gs,ns,ls,nd,hat,L⟩:=M2.ex;have hd:=(N.S.sub N.fr.sub).ds.sub L.sub;refine Ag (by decide) ⟨nn,nn,AJ,d.gs,Aj hat 2 1 (by simp[AL]),(c252 hd.globals).call ⟨_,rfl,?_⟩⟩;rw[h1];refine Tri.mono (c253 M2 (Cx.fit (m:=0) (N.cx.le (by omega)))) ?_;rintro _ V5 ⟨rfl,M5⟩;obtain⟨gs5,ns5,ls5,nd5,O,L5⟩:=M5.ex;obtain⟨g1,g2,g3,-⟩:=Fk (L5.glob.rows (λ_=>rfl) (by decide)) (i:=i) (v:=w) h3;have hil:=(yg.1 h3).1;refine⟨rfl,nn,nn,AJ,gs5,Aj O 8 1 (by simp[AL]),g1,g2,g3,L5.setG (i:=i) hil λV6 L6 hk6=>?_⟩;refine PS.ok r N.fr (V0:=V0) (MA.mk M5.p0 ⟨gs5,ns5,ls5,nd5,?_,L6⟩) rfl rfl;rw[hk6 _ (GQ O FI L5.glob (.inl rfl))];exact O
 |@put a b u w t h B hv hw ha ht hl hf=>
  rw[if_neg (by omega),if_pos h,B,uF,List.getD_cons_succ,uF]at U;have K:x.es[0]?=some a:=by rw[B];rfl
  have h1:x.es[1]?=some b:=by rw[B];rfl
  obtain⟨k1,k3,k4⟩:=esAt (okV Y.fr.sub Y.M.sub) K;refine Ag (by omega) (As h ⟨k1,by decide,k3,_,_,_,_,k4,PS.bind Y.fr.sub U (ex K hv ha Y (by omega)) λv A V2 e2 M2 r=>?_⟩);obtain⟨N,C,-⟩:=go (m:=3000) hv ha Y e2 M2;obtain⟨l1,l3,l4⟩:=esAt (okV N.fr.sub N.M.sub) h1;refine⟨l1,by decide,l3,_,_,_,_,l4,PS.bind N.fr.sub r (ex h1 hw ht N (by omega)) λy I V3 e3 M3 hG3=>?_⟩;obtain⟨X3,hv3,g3⟩:=go (m:=2000) hw ht N e3 M3;have C:=g3.val C;refine⟨λT=>FJ (PS.bad (s:=I) ?_ X3.fr.sub M3),λT=>?_⟩;.rw[hG3];unfold putX;rw[if_pos (show v=0 from T)];rfl
  have T:¬v=0:=T;obtain⟨k,i,j,tt,g,fs,z,rfl,f2,f3,f4,f5,f6,f7,f8,-⟩:=Ie X3.G hl C T;have hG4:G=.ok (vals,none) {I with ns:=I.ns.set k ((j:Int),fs.set i y),lg:=I.lg++[(2,(k:Int)+1,(i:Int))]}:=by
   rw[hG3];unfold putX;rw[if_neg T,show((k:Int)+1-1).toNat=k by omega,f2];simp only;rw[f5,f6,wH];rfl
  refine(c254 (X3.S.sub X3.fr.sub) M3 f2 f3).call ⟨_,rfl,?_⟩;rw[f6];refine Tri.mono (c253 M3 (Cx.fit (m:=0) (X3.cx.le (by omega)))) ?_;rintro _ V5 ⟨rfl,M5⟩;obtain⟨gs5,ns5,ls5,nd5,sl5,O,L5,hnd5,hI,n1,n2,n3,n4,m1,m2,m3,m4⟩:=nodeAt M5 (k:=k) (i:=i) f2 f8;have hil:=(yg.1 f8).1;rw[show((k:Int)+1-1)=(k:Int)by omega];refine⟨rfl,nn,nn,AJ,ns5,Aj O 9 1 (by simp[AL]),hI,n1,n2,n3,Ai n1,_,_,n4,m1,m2,m3,L5.setF hnd5 hil λV6 L6 hk6=>?_⟩;refine PS.ok hG4 X3.fr (V0:=V0) (MA.mk M5.p0 ⟨gs5,ns5,ls5,_,?_,L6⟩) rfl rfl;rw[hk6 _ (GQ O FI (L5.fld _ (xw hnd5)) (.inl rfl))];exact O
 |@cond a h B hv ht=>
  rw[if_neg (by omega),if_neg (by omega),if_pos h,B,uF]at U;have K:x.es[0]?=some a:=by rw[B];rfl
  obtain⟨k1,k3,k4⟩:=esAt (okV Y.fr.sub Y.M.sub) K;obtain⟨-,-,-,hlt1,hlt2⟩:=hty.parts;refine Ag (by omega) (Ag (by omega) (As h ⟨k1,by decide,k3,_,_,_,_,k4,PS.bind Y.fr.sub U (ex K hv ht Y (by omega)) λv A V2 e2 M2 r=>?_⟩));obtain⟨N,C,-⟩:=go (m:=3000) hv ht Y e2 M2;have C:=C6.1 C;have fin:∀{l:XK}{sl:Sl},(∀y∈l,DO d pr y)->(∀y∈l,S.Ok W y)->Ae W sl 5 (l.map S.row)->G=AU d F n c pr l vals A->Tri xV 142 #[pv p,pv q,uL sl] V2 λe' V'=>(∃b v,e'=.returned (.agg #[.bool b,uI v])/\PS W d p F c q pr G (.returned (.agg #[.bool b,uI v])) V')∨∃ch,e'=.panicked ch/\PS W d p F c q pr G e' V':=λ{l sl} t1 t2 t3 hGl=>
   PS.split (hS l W V0 V2 A c q pr vals sl (N.le (by omega)) t1 t2 t3) (λk I c' V3 e3 M3=>by rw[hGl,e3];exact⟨rfl,c',M3⟩) λrt I Z V3 e3 hf3 M3=>PS.ok (hGl.trans e3) hf3 M3 rfl rfl
  refine⟨λT=>fin hlt1 D.lOk D.lRows ?_,λT=>fin hlt2 D.xOk D.xRows ?_⟩
  .have T:v=1:=T;rw[r,if_neg (by omega)]
  .have T:¬v=1:=T;rw[r,if_pos (by omega)]
 |@loop a h B hv ht=>
  rw[if_neg (by omega),if_neg (by omega),if_neg (by omega),if_pos h,B,uF]at U;have K:x.es[0]?=some a:=by rw[B];rfl
  obtain⟨-,-,-,hlt1,-⟩:=hty.parts;refine Ag (by omega) (Ag (by omega) (Ag (by omega) (As h ?_)));refine⟨λm xs V2=>xs=[]/\∃Z f s',CY W Z d p F c q pr f n 1000 V2 s'/\F<m+s'.tk/\G=Ei d F (AU d F n) c pr a x.ls m f s',n+1,⟨rfl,V0,vals,s1,Y.le (by omega),by have:=Y.n;omega,U⟩,?_⟩;rintro m V2 ⟨-,Z,f,s',X',hm,hG'⟩ J hJ;obtain⟨m,rfl⟩:∃m',m=m'+1:=⟨m-1,by have:=X'.tk;omega⟩;rw[Ei]at hG';obtain⟨k1,k3,k4⟩:=esAt (okV X'.fr.sub X'.M.sub) K;refine⟨k1,by decide,k3,_,_,_,_,k4,PS.bind X'.fr.sub hG' (ex K hv ht X' (by omega)) λv A V3 e2 M2 r=>?_⟩;obtain⟨N,C,g2⟩:=go (m:=0) hv ht X' e2 M2;have C:=C6.1 C;refine⟨λT=>?_,λT=>?_⟩;rotate_left
  .have T:¬v=1:=T;rw[if_pos (by omega)]at r;exact PS.ok r N.fr N.M rfl rfl
  have T:v=1:=T;rw[if_neg (by omega)]at r;have P:=hcs c pr x.ls f A N.po hlt1 N.G N.hv;refine PS.split (hS x.ls W Z V3 A c q pr f x.ll N hlt1 D.lOk D.lRows) (λk I c' V4 e3 M3=>?_) λrt I V0'' V4 e3 hf3 M3=>?_;.rw[r,e3];exact⟨rfl,c',M3⟩
  obtain⟨G3,g3,q3⟩:=P.got e3;have X3:=N.next (m:=0) (k:=0) g3 G3 hf3 q3.1 M3;rw[e3]at r;cases hrt:rt.2 with
  |some z=>
   have hG3:G=.ok rt I:=by rw[r];show(match rt.2 with|some _=>_|none=>_)=_;rw[hrt]
   exact⟨λ_=>PS.ok hG3 hf3 M3 (by rw[hrt]) (by rw[hrt]),λh=>absurd rfl h⟩
  |none=>
   have hG3:G=(Eh F I).bind λ_ st=>Ei d F (AU d F n) c pr a x.ls m rt.1 st:=by rw[r];show(match rt.2 with|some _=>_|none=>_)=_;rw[hrt]
   refine⟨(λh=>by cases h),λ_=>Tri.mono (c250 hF M3) ?_⟩;rintro e4 V5 (⟨hlt',rfl,M5⟩|⟨hge,rfl,rfl⟩)
   .refine .inl ⟨rfl,hJ m _ _ (by omega) ⟨rfl,V0'',rt.1,{I with tk:=I.tk+1},(X3.tick' hlt' M5).le (by omega),?_,by rw[hG3,Kx hlt'];rfl⟩⟩;have:=g2.tk;have:=g3.tk;show F<m+(I.tk+1);omega
   .exact .inr ⟨_,rfl,PS.bad (s:=I) (by rw[hG3,Ky hge];rfl) hf3.sub M3⟩
 |ret0 h B hr=>
  rw[if_neg (by omega),if_neg (by omega),if_neg (by omega),if_neg (by omega),if_pos h,B]at U;have hn:=(okV Y.fr.sub Y.M.sub).eRows.n_eq;rw[B]at hn;refine Ag (by omega) (Ag (by omega) (Ag (by omega) (Ag (by omega) (As h (As (by rw[hn];rfl) ?_)))));exact PS.ok U Y.fr Y.M rfl rfl
 |@ret1 a u h B hv ht hr hf=>
  rw[if_neg (by omega),if_neg (by omega),if_neg (by omega),if_neg (by omega),if_pos h,B]at U;have K:x.es[0]?=some a:=by rw[B];rfl
  obtain⟨k1,k3,k4⟩:=esAt (okV Y.fr.sub Y.M.sub) K;refine Ag (by omega) (Ag (by omega) (Ag (by omega) (Ag (by omega) (As h (Ag (by omega) ⟨k1,by decide,k3,_,_,_,_,k4,PS.bind Y.fr.sub U (ex K hv ht Y (by omega)) λv A V2 e2 M2 r=>?_⟩)))));exact PS.ok r Y.fr M2 rfl rfl
 |@call a pr' i h B hv ho hc=>
  rw[if_neg (by omega),if_neg (by omega),if_neg (by omega),if_neg (by omega),if_neg (by omega),if_pos h,B,uF]at U;unfold CH at U;rw[Ia,Ic ho,hc.idx]at U;have K:x.es[0]?=some a:=by rw[B];rfl
  obtain⟨k1,k3,k4⟩:=esAt (okV Y.fr.sub Y.M.sub) K;have hp:=Gf hv;have hea:=D.eOk a (xw K);refine Ag (by omega) (Ag (by omega) (Ag (by omega) (Ag (by omega) (Ag (by omega) (As h ⟨k1,by decide,k3,_,_,_,_,k4,PS.bind Y.fr.sub U (callC hR (Y.cx.le (by omega)) (hea.sub Y.fr.sub) hc hp.1 λb hb u W' V2 A hW' N ht=>?_) λv A V2 e2 M2 r=>?_⟩)))));.exact hE b u W' V2 A c q pr vals N (hp.1.kids b hb) (((hea.sub Y.fr.sub).kids b hb).sub hW') ht
  .exact PS.ok r Y.fr M2 rfl rfl
end
theorem own_zero{V0 V:Mem}{e:TypeId}{sz:Nat}{s:Sl}{vs:XV}(h:Sx.Own V0 V e sz s vs):Sx.Own V0 V e sz ⟨s.p,0,s.c⟩ []:=⟨h.sub,by simp,by
 rcases h.at_ with⟨k,f,t⟩|⟨g,cur,k,f,t,u,z,h6,h7⟩;.simp_all
 simp_all⟩
theorem own_to{V0 V k V':Mem}{e:TypeId}{sz:Nat}{s:Sl}{vs:XV}(h:Sx.Own V0 V e sz s vs)(x:k.sub V')(t:∀g o,A4 s g->V0 g=none->V g=some o->k g=none/\V' g=some o):Sx.Own k V' e sz s vs:=⟨x,h.len,by
 rcases h.cases0 with f|⟨u,g,cur,f,z,y,j⟩;.exact .inl f
 .exact .inr ⟨g,cur,f,(t g _ ⟨u,f⟩ z y).1,(t g _ ⟨u,f⟩ z y).2,j⟩⟩
theorem own_p0{V0 V:Mem}{e:TypeId}{sz:Nat}{s:Sl}{vs:XV}(h:Sx.Own V0 V e sz s vs)(hc:s.c≠0)(m:Nat):Aa s.p (0*m)=s.p:=by
 rw[Nat.zero_mul];rcases h.at_ with⟨k,f,t⟩|⟨g,cur,k,-⟩;.omega
 .rw[k];rfl
theorem az31{V0 V:Mem}{ty:TypeId}{x y:Operand}{vals:Operand->Value}{s:Sl}{n:Nat}{vs:XZ}(f:vals x=uL s)(t:vals y=uI n)(own:Sx.Own V0 V 3 1 s (vs.flatMap Aw))(g:s.n+n<=2147483648){q:Value->Mem->Prop}
  (j:∀(s':Sl) V',Sx.Own V0 V' 3 1 s' ((vs++zB n (0:Int)).flatMap Aw)->q (.slice s'.p s'.n s'.c) V'):GenK xV (.call {callee:=.builtin .append,args:=#[x,y],argTypes:=#[31,3]}) ty vals V q:=
 Go.Sx.GenK.appendZ (z:=uI 0) (i:=ti 3) (k:=.i64) uY vH (by kernel_rfl) (by kernel_rfl) (by kernel_rfl) (by kernel_rfl) (by decide) (of_decide_eq_true (by kernel_rfl)) (λu hu=>by
  have r:(vP .i64 0).cells=#[vP .i64 0]:=by rfl
  rw[r]at hu;simp at hu;subst hu;rfl) f t own g λs' V' h=>j s' V' (by
  rw[List.flatMap_append];have e:(zB n (0:Int)).flatMap Aw=(Builtin.zeroCells (vP .i64 0).cells n).toList:=by rw[QB,C9,uX]
  rw[e];exact h)
theorem az23{V0 V:Mem}{ty:TypeId}{x y:Operand}{vals:Operand->Value}{s:Sl}{n:Nat}{vs:XV}(f:vals x=uL s)(t:vals y=uI n)(own:Sx.Own V0 V 97 2 s vs)(g:s.n+n<=2147483648){q:Value->Mem->Prop}
  (j:∀(s':Sl) V' ws,Sx.Own V0 V' 97 2 s' ws->q (.slice s'.p s'.n s'.c) V'):GenK xV (.call {callee:=.builtin .append,args:=#[x,y],argTypes:=#[23,3]}) ty vals V q:=
 Go.Sx.GenK.appendZ (z:=.agg #[uS (Ab []),uS (Ab [])]) (i:=ti 97) (k:=.i64) xh vH (by kernel_rfl) (by kernel_rfl) (by kernel_rfl) (by kernel_rfl) (by decide) (of_decide_eq_true (by kernel_rfl)) (λu hu=>by
  have r:(Value.agg #[uS (Ab []),uS (Ab [])]).cells=#[uS (Ab []),uS (Ab [])]:=by rfl
  rw[r]at hu;simp at hu;subst hu;rfl) f t own g λs' V' h=>j s' V' _ h
theorem c191{V:Mem}{n:Nat}(f:n<=2147483648):Tri xV 191 #[z0,uI n] V λe V'=>∃s:Sl,e=.returned (uL s)/\Sx.Own V V' 97 2 s []:=by
 refine x191 (a:=⟨none,0,0⟩) (b:=n) ?_;have e:(n:Int)-(((0:Nat):Int)-((0:Nat):Int))=n:=by omega
 refine Ag (by omega) ⟨⟨by simp,by simp⟩,⟨by rw[e];omega,by rw[e];omega⟩,λh=>⟨⟨by omega,by omega,by omega⟩,?_⟩,λh=>⟨⟨none,0,0⟩,rfl,Own.nil (Mem.sub.refl _) _ _⟩⟩;refine az23 (s:=⟨none,0,0⟩) (n:=n) (vs:=[]) (V0:=V) rfl (by rfl) (Own.nil (Mem.sub.refl _) _ _) (by simpa using f) λs' V' t k=>⟨s',rfl,⟨by omega,by omega,by simp⟩,⟨s'.p,0,s'.c⟩,?_,own_zero k⟩;by_cases g:s'.c=0;.simp[g]
 .rw[if_neg (by omega),show((0:Int).toNat*2)=0*2 from rfl,own_p0 k g];simp
theorem c141{V:Mem}{sl a b:Sl}{xs ys:XX}(h:Ae V sl 1 ([a,b].map λs:Sl=>[s.v]))(D:Ae V a 2 (xs.map Fld.row))(E:Ae V b 2 (ys.map Fld.row))(hx:xs.length<=100)(hy:ys.length<=100):
  Tri xV 141 #[sl.v] V λe V'=>∃s:Sl,e=.returned (uL s)/\Sx.Own V V' 97 2 s ((xs++ys).flatMap Fld.row):=by
 have K:=D.n_eq;have T:=E.n_eq;refine x141 ?_;refine DJ (mk:=λk:Int=>uI k) (b0:=0) BJ 2 (λi k V1=>V1=V/\k=(((([a,b].take i).map (λs:Sl=>s.n)).sum:Nat):Int)) ⟨rfl,rfl⟩ ?_;rintro i k V1 J hi ⟨rfl,rfl⟩ U;refine⟨λg=>?_,λt=>?_⟩
 .obtain⟨u,r,hu,N,z,Z,Y,f⟩:=h.get g;have hun:u.n<=100:=by
   grind
  have hs:(([a,b].take (i+1)).map (λs:Sl=>s.n)).sum=(([a,b].take i).map (λs:Sl=>s.n)).sum+u.n:=by grind
  have hs2:(([a,b].take i).map (λs:Sl=>s.n)).sum<=200:=by
   rcases(show i=0∨i=1 by grind)with rfl|rfl;.simp
   .simp;omega
  refine⟨Z,Y,g,u,f,⟨by omega,by omega⟩,Ag (by omega) ⟨h.succ g,U z _ _ ⟨rfl,by omega⟩⟩⟩
 .have h2:=(h.done t).2;have O:i=2:=by grind
  subst O;refine Tri.mono (c191 (by simp;omega)) ?_;rintro _ V2 ⟨s0,rfl,A⟩;refine⟨s0,rfl,DJ (mk:=uL) (b0:=s0) AT 2 (λj s I=>Sx.Own V1 I 97 2 s ((([xs,ys].take j).flatten).flatMap Fld.row)) A ?_⟩;rintro j s I J1 hj x L;have X:=h.sub x.sub;refine⟨λg=>?_,λt=>?_⟩
  .obtain⟨u,r,hu,N,z,Z,Y,f⟩:=X.get g;obtain⟨y,hzs,B,C⟩:∃y,[xs,ys][j]?=some y/\Ae I u 2 (y.map Fld.row)/\([xs,ys].take j).flatten.length+y.length<=2147483648:=by
    rcases(show j=0∨j=1 by omega)with rfl|rfl;.simp at hu;subst hu;exact⟨xs,rfl,D.sub x.sub,by simp;omega⟩
    .simp at hu;subst hu;exact⟨ys,rfl,E.sub x.sub,by simp;omega⟩
   refine⟨Z,Y,g,u,f,Ee (s:=s) (u:=u) (xs:=([xs,ys].take j).flatten) (ys:=y) rfl rfl x B C λs' V' ho'=>⟨s',rfl,X.succ g,L z _ _ ?_⟩⟩;grind
  .have h3:=(X.done t).2;grind
theorem runC{d:Ds}{p F n:Nat}(H:SC d p F n):CallC d p F n:=by
 intro V0 V s c i pr args l hS B G ha hl M htk hn hw;obtain⟨G',C⟩:∃G':Rx Int,G'=Ck d (AU d F n) c i args s:=⟨_,rfl⟩;rw[<-C];have D:=xw B;have r:=hS.procs pr D;have u:=hS.ds.procsOk pr D;refine Tri.mono (x106 (R:=PX V0 d p F c G') ?_) λ_ _ h=>h;obtain⟨gs,ns,ls,nd,J,L⟩:=M.ex;unfold Ck at C;refine⟨nn,nn,_,Aj J 12 1 (by simp[AL]),λh2=>FJ (PX.bad (by grind) M),λh2=>?_⟩;rw[if_neg (by omega),wH,B]at C;refine⟨nn,nn,_,Aj J 12 1 (by simp[AL]),⟨by omega,by omega⟩,nn,nn,Am.at2 (off:=12) J (by simp[AL]) ?_⟩;have M1:EM V0 d p F (V.set p (.cells (AL d F s.tk ((c+1:Nat):Int) s.cm gs ns ls).toArray 130 (0,0))) s (c+1):=MA.set (row':=AL d F s.tk ((c+1:Nat):Int) s.cm) FI M.p0 J L rfl rfl rfl rfl;obtain⟨V1,E⟩:∃V1,V1=V.set p (.cells (AL d F s.tk ((c+1:Nat):Int) s.cm gs ns ls).toArray 130 (0,0)):=⟨_,rfl⟩;rw[<-E]at M1;show Af _ _ (V.set p (.cells (AL d F s.tk ((c+1:Nat):Int) s.cm gs ns ls).toArray 130 (0,0))) _;rw[<-E];intro b1 hb1;obtain⟨V2,N⟩:∃V2,V2=V1.set b1 (.cells #[.slice pr.ps.p pr.ps.n pr.ps.c,.slice pr.ls.p pr.ls.n pr.ls.c] 23 (0,0)):=⟨_,rfl⟩;have Z:V1.sub V2:=N▸Mem.sub_new hb1 _;have Y:=M1.sub.trans Z;have K:Ae V2 ⟨some ⟨b1,0,none⟩,2,2⟩ 1 ([pr.ps,pr.ls].map λs:Sl=>[s.v]):=Ae.cells (xs:=[pr.ps,pr.ls]) (row:=λs:Sl=>[s.v]) (by rw[N];exact Mem.set_same _ _ _) rfl (λ_=>rfl) rfl (by simp);show Tri _ _ #[.slice (sa b1) 2 2] (V1.set b1 (.cells #[.slice pr.ps.p pr.ps.n pr.ps.c,.slice pr.ls.p pr.ls.n pr.ls.c] 23 (0,0))) _;rw[<-N];have hln:=r.lens;refine Tri.mono (c141 K (u.params.sub Y) (u.locals.sub Y) (by omega) (by omega)) ?_;rintro _ V3 ⟨j,rfl,o3⟩;have T:=Y.trans o3.sub;have hal:=(C8.1 ha).1;refine⟨j,rfl,Tri.mono (c103 (hl.sub T) (by omega)) ?_⟩;rintro _ V4 ⟨s4,rfl,o4⟩;have h4n:=o4.n_eq (λ_=>rfl) (by decide);have U:=u.locals.n_eq;refine⟨s4,rfl,az31 (s:=s4) (n:=pr.ls.n) rfl rfl o4 (by omega) λt V5 o5=>⟨t,rfl,λb2 O=>?_⟩⟩;rw[U]at o5;obtain⟨V6,A⟩:∃V6,V6=V5.set b2 (.cells #[uL j,uL t] 223 (0,0)):=⟨_,rfl⟩;have s56:V5.sub V6:=A▸Mem.sub_new O _;have s36:=o5.sub.trans s56;have s16:=Z.trans (o3.sub.trans s36);obtain⟨W,w0,w6,MW,I⟩:=M1.after s16;show Tri _ _ #[pv p,pv b2,.slice pr.bs.p pr.bs.n pr.bs.c] (V5.set b2 (.cells #[uL j,uL t] 223 (0,0))) _;rw[<-A];have n1:∀{b:Nat},V2 b=none->V1 b=none:=λ{b} h=>by
  cases hc:V1 b with
  |none=>rfl
  |some o=>rw[Z _ _ hc]at h;cases h
 have n3:∀{b:Nat},V3 b=none->V2 b=none:=λ{b} h=>by
  cases hc:V2 b with
  |none=>rfl
  |some o=>rw[o3.sub _ _ hc]at h;cases h
 have n5:V3 b2=none:=by
  cases hc:V3 b2 with
  |none=>rfl
  |some o=>rw[o5.sub _ _ hc]at O;cases O
 have hbk:∀{b:Nat},A4 t b->V3 b=none:=λh=>Own.none0 o5 h;have z:V0.sub (W.but t):=λb o hb=>Mem.but_at (w0 _ _ hb) λhk=>by have:=hbk hk;rw[T _ _ hb]at this;cases this
 have o5':Sx.Own (W.but t) W 3 1 t ((args++zB pr.locals.length (0:Int)).flatMap Aw):=own_to o5 (Mem.but_sub _ _) λg o hk h0 h1=>⟨by grind[Mem.but],I _ _ (n1 (n3 h0)) (s56 _ _ h1)⟩;have o3':Sx.Own (λ_=>none) (W.but t) 97 2 j ((pr.params++pr.locals).flatMap Fld.row):=own_to o3 (λ_ _ h=>by cases h) λg o hk h0 h1=>⟨rfl,Mem.but_at (I _ _ (n1 h0) (s36 _ _ h1)) λhk'=>by simp_all⟩;have hfr:W b2=some (.cells #[j.v,t.v] 223 (0,0)):=I _ _ (n1 (n3 n5)) (by rw[A];exact Mem.set_same _ _ _);have nb2:¬A4 t b2:=λhk=>by
  grind[Own.some]
 have FR:GR (W.but t) W b2 pr (args++zB pr.locals.length 0):=⟨Mem.but_sub _ _,j,t,Mem.but_at hfr nb2,o3'.rows (λ_=>rfl) (by decide),o5'⟩;have hv:=I2 ha (Kr G.valid λf hf=>r.vars f (List.mem_append_right _ hf));have X:Ae (W.but t) pr.bs 5 (pr.body.map S.row):=u.body.sub z;refine PS.split (H pr.body (W.but t) W V6 s (c+1) b2 pr _ pr.bs ⟨hS.sub z,FR,r,G,hv,MW,htk,hn,hw⟩ r.body (λx hx=>(u.stmts x hx).sub z) X) (λk s2 c' V7 e2 M7=>?_) λrt s2 W7 V7 e2 f7 M7=>?_
 .rw[C];show PX V0 d p F c ((AU d F n (c+1) pr pr.body _ s).bind _) _ _;rw[e2];exact⟨rfl,c',M7.narrow z⟩
 .have M8:=M7.narrow (z.trans f7.sub);obtain⟨gs7,ns7,ls7,nd7,y,L7⟩:=M8.ex;refine⟨nn,nn,_,Aj y 12 1 (by simp[AL]),⟨by omega,by omega⟩,nn,nn,Am.at2 (off:=12) y (by simp[AL]) ?_⟩;rw[C];show PX V0 d p F c ((AU d F n (c+1) pr pr.body _ s).bind _) _ _;rw[e2];refine⟨rfl,?_⟩;have e:(((c+1:Nat):Int)-1)=(c:Int):=by omega
  rw[e];exact MA.set (row':=AL d F s2.tk c s2.cm) FI M8.p0 y L7 rfl rfl rfl rfl
theorem allC(d:Ds)(p F:Nat):∀n,SC d p F n
 |0=>λl W V0 V s c q pr vals sl X _ _ _=>absurd X.n (by have:=X.tk;omega)
 |n+1=>stsC (QE (exprCc (runC (allC d p F n))) (allC d p F n) (runC (allC d p F n)))
end Go.Proofs
namespace Go.Proofs
open Go Go.Sx
section
variable{d:Ds}{F F' b:Nat}
def Sext(s t:St):Prop:=(∃l,t.lg=s.lg++l)/\s.tk<=t.tk/\s.ns.length<=t.ns.length
def RE{α:Type}(s:St)(r:Rx α):Prop:=Sext s r.st
end
section
variable{d:Ds}{F F':Nat}
def Mm.plain(m:Mm):XZ×List (Int×XZ):=(m.globals,m.nodes.map λn=>(n.ty,n.f))
def AV(m:Mm):St:=⟨m.globals,m.nodes.map λn=>(n.ty,n.f),0,0,[]⟩
theorem St.plain(s:St):s.mm.plain=(s.g,s.ns):=by
 unfold Mm.plain St.mm;simp[Function.comp_def]
theorem Ih{m m':Mm}(h:m.plain=m'.plain){i:Nat}{x:Nd}(k:m.nodes[i]?=some x):∃y,m'.nodes[i]?=some y/\y.ty=x.ty/\y.f=x.f:=by
 have g:(m.nodes.map λn=>(n.ty,n.f))=m'.nodes.map λn=>(n.ty,n.f):=(uZ h).2;have:(m'.nodes.map λn=>(n.ty,n.f))[i]?=some (x.ty,x.f):=by grind
 simp_all
theorem Ii{m m':Mm}(h:m.plain=m'.plain):m.nodes.length=m'.nodes.length:=by
 have k:(m.nodes.map λn=>(n.ty,n.f))=m'.nodes.map λn=>(n.ty,n.f):=(uZ h).2;have:=congrArg List.length k;simpa using this
theorem Gh{m m':Mm}(h:m.plain=m'.plain)(hv:BX d m=true):BX d m'=true:=by
 obtain⟨p1,g,p3,f,u⟩:=BR hv;have z:=Ii h;have y:m.globals=m'.globals:=(uZ h).1;have r:∀{t v},AW d m t v=true->AW d m' t v=true:=λk=>Ma (by omega) (λi x j=>by
  grind[Ih]) k
 grind[Ks,BS,uJ,Ih,xw,Eg]
theorem Kz(m:Mm):(AV m).mm.plain=m.plain:=St.plain _
theorem I5{m:Mm}(G:An d m):An d (AV m).mm:=⟨G.valid,G.chk,Gh (Kz m).symm G.mem⟩
theorem KA{m m':Mm}(h:m.plain=m'.plain){t:KB}{v:Int}(k:AW d m t v=true):AW d m' t v=true:=Ma (by rw[Ii h];omega) (λi x g=>by
 grind[Ih]) k
def outC:Rx Int->Int|.ok _ _=>0|.bad c _=>c
def outV:Rx Int->Int|.ok v _=>v|.bad _ _=>0
def AZ(l:List (Int×Int×Int)):Nat:=(l.filter λa=>decide (0<a.2.1)).length
end
attribute [local irreducible] Go.Sx.Tri
theorem chk_none{d:Ds}(h:(fltR (B0 d)).2.2=0):B0 d=none:=by
 have key:∀{a:XT},(∀r,a=some r->r.2.2≠0)->(fltR a).2.2=0->a=none:=λ{a} z h=>by
  cases a with
  |none=>rfl
  |some r=>exact absurd h (z r rfl)
 refine key (λr k=>?_) h;unfold B0 at k;have g:∀{a b:XT} {r},a.or b=some r->a=some r∨b=some r:=λ{a b r} h=>by
  cases a with
  |none=>exact .inr (by simpa using h)
  |some x=>exact .inl (by simpa using h)
 rcases g k with f|k;.exact(JR d r f).1
 rcases g k with f|k;.exact(JS d r f).1
 rcases g k with f|k;.exact(JT d r f).1
 rcases g k with f|k
 .unfold Et at f;obtain⟨j,x,-,t⟩:=Hh f;split at t;.rename_i u;cases t;exact u
  .cases t
 .exact(JU d r k).1
section
variable{V:Mem}{d:Ds}{m:Mm}
theorem c139(C:Ds.Ok V d)(hm:Mm.Ok V m)(G:An d m){g:KB}{v:Int}:PP 139 [d.v,m.v,uS g,uI v] V (uB (AW d m g v)):=by
 refine x139 ?_;have fin:∀{b:Bool},AW d m g v=b->(xY (.bool b)=EQ (AW d m g v)/\V=V):=λe=>⟨by rw[e],rfl⟩;refine⟨λh=>⟨λa=>fin ?_,λa=>fin ?_⟩,λh=>⟨λu=>⟨λa=>fin ?_,λa=>fin ?_⟩,λu=>⟨λt=>fin ?_,λt=>⟨λA=>⟨λJ=>?_,λJ=>fin ?_⟩,λA=>fin ?_⟩⟩⟩⟩;.unfold AW;rw[if_pos (show g=Ak from h)];simp[show(-1099511627776:Int)<=v from a]
 .unfold AW;rw[if_pos (show g=Ak from h)];exact decide_eq_false λk=>a k.1
 .unfold AW;rw[if_neg (show ¬g=Ak from h),if_pos (show g=Ay from u)];exact decide_eq_true (.inl a)
 .unfold AW;rw[if_neg (show ¬g=Ak from h),if_pos (show g=Ay from u)];have a:¬v=0:=a;simp[a]
 .unfold AW;rw[if_neg (show ¬g=Ak from h),if_neg (show ¬g=Ay from u)];exact decide_eq_true (.inl t)
 .have t:¬v=0:=t;have K:=hm.nodes.n_eq;have J:v<=(m.ns.n:Int):=J;obtain⟨k,D⟩:∃k:Nat,v-1=(k:Int):=⟨(v-1).toNat,by omega⟩;obtain⟨y,I,T,-,-,N,U,Z⟩:=hm.nodes.get (i:=k) (by omega);obtain⟨p1,p2,p3,-⟩:=BR G.mem;have hty:=of_decide_eq_true (p3 y I);obtain⟨j,L⟩:∃j:Nat,y.ty=(j:Int):=⟨y.ty.toNat,by omega⟩;have htn:=C.types.n_eq;obtain⟨tt,-,Y,-,-,O,X,z⟩:=C.types.get (i:=j) (by omega);have r:V.rowp m.ns.p (k*2) 2=some [uI (j:Int),y.sl.v]:=by rw[<-L];exact Z
  rw[D];refine⟨⟨by omega,by omega⟩,N,U,by omega,Ai N,_,_,r,O,X,by omega,Ai O,_,_,z,fin ?_⟩;unfold AW;rw[if_neg (show ¬g=Ak from h),if_neg (show ¬g=Ay from u),D,wH,T];refine decide_eq_decide.2 ⟨λf=>?_,λf=>.inr ⟨by omega,by omega,?_⟩⟩
  .rcases f with f|⟨-,-,f⟩;.exact absurd f t
   .simp only[zR,zH]at f;obtain⟨x,E,B⟩:=idxT_at (d:=d) (k:=g) (i:=j) (by rw[<-f,L]);rw[Y]at E;cases E;exact B
  .simp only[zR,zH];rw[L,<-(Fc p1).2.1 j tt Y];exact congrArg _ f
 .have J:¬v<=(m.ns.n:Int):=J;have K:=hm.nodes.n_eq;have t:¬v=0:=t;unfold AW;rw[if_neg (show ¬g=Ak from h),if_neg (show ¬g=Ay from u)];exact decide_eq_false λf=>by rcases f with f|⟨-,f,-⟩<;>omega
 .have A:¬0<v:=A;have t:¬v=0:=t;unfold AW;rw[if_neg (show ¬g=Ak from h),if_neg (show ¬g=Ay from u)];exact decide_eq_false λf=>by rcases f with f|⟨f,-,-⟩<;>omega
def A1(d:Ds)(m:Mm)(nm:KB)(args:XZ):Int:=
 if BG d nm<0 then 9 else match d.procs[(BG d nm).toNat]? with
  |none=>9
  |some pr=>if args.length=pr.params.length then(if AE d m pr.params args=true then 0 else 11)else 3
theorem Me{nm:KB}{args:XZ}(h:A1 d m nm args=0):∃(i:Nat)(pr:Pr),BG d nm=(i:Int)/\d.procs[i]?=some pr/\AE d m pr.params args=true:=by
 unfold A1 at h;split at h;.cases h
 .split at h;.cases h
  .rename_i g pr k;split at h
   .split at h;.exact⟨(BG d nm).toNat,pr,by omega,k,by assumption⟩
    .cases h
   .cases h
def noPr:Pr:=⟨Ab [],Ah,[],Ab [],Ah,[],Ah,[]⟩
theorem c104(r:Ds.Ok V d)(hm:Mm.Ok V m)(G:An d m){l:Sl}{args:XZ}(L:Ae V l 1 (args.map Aw)){nm:KB}:
  PP 104 [d.v,m.v,.agg #[uS nm,l.v]] V (.tuple #[(if A1 d m nm args=0 then((d.procs[(BG d nm).toNat]?).getD noPr)else noPr).v,uI (A1 d m nm args)]):=by
 refine x104 ?_;have bad:∀{e:Int},A1 d m nm args=e->e≠0->(xY (.tuple #[noPr.v,uI e])=rT #[(if A1 d m nm args=0 then((d.procs[(BG d nm).toNat]?).getD noPr)else noPr).v,uI (A1 d m nm args)]/\V=V):=λe h=>⟨by rw[e,if_neg h],rfl⟩;refine(c138 r).call ⟨_,rfl,λh=>?_,λh=>?_⟩;.exact bad (by unfold A1;rw[if_pos h]) (by decide)
 .have h:¬BG d nm<0:=h;rcases Cv (λt:Pr=>decide (t.name=nm)) d.procs with⟨C,-⟩|⟨i,pr,C,X,-⟩
  .have:BG d nm=-1:=C;omega
  have hi:BG d nm=(i:Int):=C;have hn:=r.procs.n_eq;have hil:=(yg.1 X).1;obtain⟨y,D,hy,-,-,hp,hz,N⟩:=r.procs.get (i:=i) (by omega);rw[X]at hy;cases hy;have Z:A1 d m nm args=if args.length=pr.params.length then(if AE d m pr.params args=true then 0 else 11)else 3:=by unfold A1;rw[if_neg h,hi,wH,X]
  have Y:=(r.procsOk pr D).params;have hln:=Y.n_eq;have han:=L.n_eq;rw[hi]at bad⊢;refine⟨hp,hz,by omega,_,_,_,_,_,N,λu=>?_,λu=>?_⟩
  .have u:(l.n:Int)=(pr.ps.n:Int):=u;have O:args.length=pr.params.length:=by omega
   rw[if_pos O]at Z;refine AG (mk:=λk:Int=>uI k) (b0:=0) args.length (λj V1=>V1=V/\∀(i:Nat) f v,i<j->pr.params[i]?=some f->args[i]?=some v->AW d m f.ty v=true) ⟨rfl,λi f v h=>by omega⟩ ?_;rintro j b V1 J hj ⟨rfl,z⟩ hJ;refine⟨λx=>?_,λE=>?_⟩
   .obtain⟨v,hvm,hv,-,K,T,U,hr1⟩:=L.get x;obtain⟨f,hfm,B,-,-,A,hz2,hr2⟩:=Y.get (i:=j) (by omega);refine⟨T,U,x,v,hr1,A,hz2,by omega,Ai A,_,_,hr2,(c139 r hm G).call ⟨_,rfl,λhb=>⟨L.succ x,hJ K _ _ ⟨rfl,λi g w hi' hg hw=>?_⟩⟩,λhb=>bad ?_ (by decide)⟩⟩
    .rcases Nat.lt_or_ge i j with h3|h3;.exact z i g w h3 hg hw
     .obtain rfl:i=j:=by omega
      rw[B]at hg;cases hg;rw[hv]at hw;cases hw;exact hb
    .rw[Z,if_neg λk=>hb ((C8.1 k).2 j f v B hv)]
   .have hd2:=(L.done E).2;have I:AE d m pr.params args=true:=C8.2 ⟨O.symm,λi f v B hv=>z i f v (by have:=(yg.1 hv).1;omega) B hv⟩;rw[if_pos I]at Z;refine⟨?_,rfl⟩;rw[Z,if_pos rfl,wH,X];rfl
  .have u:¬(l.n:Int)=(pr.ps.n:Int):=u;exact bad (by rw[Z,if_neg (by omega)]) (by decide)
noncomputable def BT(d:Ds)(m:Mm)(F:Int):Int:=by
 classical
 exact if An d m then(if F<0 then 2 else if 1048576<F then 2 else 0)else 1
theorem NX[Tab V](u:Ds.Ok V d)(hm:Mm.Ok V m){F:Int}:PP 56 [d.v,m.v,uI F] V (uI (BT d m F)):=by
 refine Pj ?_;have bad:¬An d m->(xY (uI 1)=Id (BT d m F)/\V=V):=λh=>⟨by unfold BT;rw[if_neg h],rfl⟩;refine(Lu scopeC newC u).call ?_;by_cases hv:A8 d=true
 .rw[if_pos hv];refine⟨_,_,_,rfl,λg=>(c102 u hm).call ⟨_,rfl,λf=>?_,λf=>bad λk=>f k.mem⟩,λg=>bad λk=>g (by rw[k.chk];rfl)⟩;have G:An d m:=⟨hv,chk_none g,f⟩;refine⟨λh=>⟨?_,rfl⟩,λh=>⟨λt=>⟨?_,rfl⟩,λt=>⟨?_,rfl⟩⟩⟩;.unfold BT;rw[if_pos G,if_pos h]
  .unfold BT;rw[if_pos G,if_neg h,if_pos t]
  .unfold BT;rw[if_pos G,if_neg h,if_neg t]
 .rw[if_neg hv];exact⟨_,_,_,rfl,λh=>absurd h (by decide),λ_=>bad λk=>hv k.valid⟩
end
theorem loop3u{V:Mem}{β h:Type}{mk:β->Value}{mc:h->Value}{B:β->h->Int->Mem->(KZ)->Prop}{b0:β}{c0:h}(inj:∀x y,mk x=mk y->x=y)(t:∀x y,mc x=mc y->x=y)(len:Nat)(St:Nat->β->h->Mem->Prop)(j:St 0 b0 c0 V)
  (step:∀(i:Nat)(b:β)(c:h) V1 J,i<=len->St i b c V1->(i<len->∀k g V2,St (i+1) k g V2->J [mk k,mc g,uI ((i:Int)+1)] V2)->B b c (i:Int) V1 J):
  ∃(I:Nat->KZ)(r:Nat),I r [mk b0,mc c0,uI 0] V/\∀n V1,∀b:β,∀c:h,∀v:Int,I n [mk b,mc c,uI v] V1->∀J:KZ,(∀m ys f,m<n->I m ys f->J ys f)->B b c v V1 J:=by
 refine⟨LI len λi xs V=>∃b c,xs=[mk b,mc c,uI i]/\St i b c V,len,LI.start ⟨b0,c0,rfl,j⟩,?_⟩;rintro n V1 b c v ⟨i,rfl,e,k,g,z,N⟩ J Z;simp only[zP,Value.int.injEq,true_and,and_true]at z;obtain⟨Y,O,rfl⟩:=z;cases inj _ _ Y;cases t _ _ O;exact step i b c V1 J e N λu k g V2 A=>LI.next Z u ⟨k,g,rfl,A⟩
theorem NY{V:Mem}{m:Mm}(hm:Mm.Ok V m)(O:m.globals.length<=2147483648)(T:m.nodes.length<=4096)(A:∀n∈m.nodes,n.f.length<=2147483648):Tri xV 57 #[m.v] V λe V'=>∃gs ns nd,e=.returned (.agg #[uL gs,uL ns])/\AK V V' gs ns Ah nd (AV m):=by
 refine Qg ?_;refine Tri.mono (c103 hm.globals O) ?_;rintro _ V1 ⟨gs,rfl,u⟩;refine⟨gs,rfl,loop3u (mk:=uL) (mc:=uL) (b0:=gs) (c0:=⟨none,0,0⟩) AT AT m.nodes.length (λi b ns V2=>b=gs/\∃nd,AK V V2 gs ns Ah nd ⟨m.globals,(m.nodes.take i).map λn=>(n.ty,n.f),0,0,[]⟩/\nd.length=i) ⟨rfl,[],⟨u,Own.nil u.sub _ _,Own.nil u.sub _ _,(λn z=>by cases z),rfl,(λn z=>by cases z),(λi j n U c h=>by cases h)⟩,rfl⟩ ?_⟩;rintro i b ns V2 J hi ⟨rfl,nd,L,y⟩ I;have r:=hm.nodes.sub L.sub;refine⟨λk=>?_,λN=>?_⟩
 .obtain⟨x,g,X,-,Z,B,C,t⟩:=r.get k;refine⟨B,C,k,x.ty,x.sl,t,Tri.mono (c103 ((hm.nodesOk x g).rows.sub L.sub) (A x g)) ?_⟩;rintro _ V3 ⟨fs,rfl,D⟩;refine⟨fs,rfl,λtb Y=>L.new (n:=⟨x.ty,fs,x.f⟩) D Y rfl rfl (by omega) λs' V' E _=>⟨s',rfl,r.succ k,I Z _ _ _ ⟨rfl,nd++[⟨x.ty,fs,x.f⟩],?_,by rw[zK,y];rfl⟩⟩⟩;rw[vq,X];simpa using E
 .have K:=(r.done N).2;rw[wm K]at L;exact⟨b,ns,nd,rfl,L⟩
end Go.Proofs
namespace Go.Sx
open Go
section
variable{P:Program}{n:Nat}
theorem NZ{F:Fence}{c:Code}{Q t:Exit->Act->List Frame->World->Prop}{a:Act}{cs:List Frame}{w:World}(h:c.wpSIn F n P Q a cs w)(u:∀e a cs w,Q e a cs w->t e a cs w):c.wpSIn F n P t a cs w:=
 λb k z y x g=>let⟨e,j,f,w',J,q,r⟩:=h b k z y x g;⟨e,j,f,w',J,u _ _ _ _ q,r⟩
theorem wpSIn_head{x:Code}:∀{c:Code}{rest:XB}{Q:Exit->Act->List Frame->World->Prop}{a:Act}{cs:List Frame}{w:World},flat c=x::rest->x.wpSIn (AB none) n P (Exit.thenS (λa cs w=>Cy none n P (λe z w'=>Q e z cs w') rest a w) Q) a cs w->c.wpSIn (AB none) n P Q a cs w:=by
 intro c;induction c with
 |seq p q f j=>
  intro rest Q a cs w g h;rw[flat]at g;cases t:flat p with
  |nil=>
   exfalso;have:∀c:Code,flat c≠[]:=λc=>by
    induction c with
    |seq a b u r=>rw[flat];simp[u]
    |_=>simp[flat]
   exact this p t
  |cons y J=>
   rw[t,List.cons_append]at g;obtain⟨rfl,rfl⟩:y=x/\J++flat q=rest:=by
    simp_all
   refine wpSIn_seq (f t (NZ h ?_));intro e a cs w k;cases e with
   |normal=>
    refine Fg ?_ (LF k);intro e a w k;cases e with
    |normal=>exact wpSIn_of_wpIn rfl (FE k)
    |_=>exact k
   |_=>exact k
 |_=>
  intro rest Q a cs w g h;rw[flat]at g
  .injection g with N Z
   subst N;subst Z;refine NZ h ?_;intro e a cs w k;cases e with
   |normal=>exact k
   |_=>exact k
  all_goals (intro x y;nofun)
variable{ops:XW}{i:Nat}{o:Oper}{rest:XA}{Q:Exit->Act->World->Prop}{a:Act}{w:World}
theorem QF{f:FuncId}{fn:Func}{x c:Code}{rest:XB}{id:Nat}{t y:Oper}{args:XQ}{u:FrameMode}{R:Ending->FrameMode->World->Prop}{at0:Array TypeId}{t3 t6:Nat}(C:P.funcs[f]?=some fn)(D:fn.body=some c)(N:flat c=x::rest)(E:x=.region id #[t,y] false)
  (K:t.op=.call {callee:=.builtin .recover,args:=#[],argTypes:=at0}) (I:t.dst=some t6) (T:t.guard=none) (J:y.op=.assign (.tmp t6)) (U:y.dst=some t3) (g1:y.guard=none) (h6:t6<fn.ntmps) (hd:args.size<=fn.ntmps)
  (H:∀(v:Value)(z:FrameMode),Rec u v z->
   Cy none n P (λe j w'=>(e=.normal∨e=.ret)/\j.defers=[]/\∃v,(results fn j.tmps).run P w'=.ok v w'/\R (.returned v) z w') rest ((({tmps:=args++wM (fn.ntmps-args.size) undef,defers:=[]}:Act).put (some t6) v).put (some t3) v) w):
  CallsDIn (AB none) n P f args u w R:=by
 refine callsDIn_of_wpSIn C D trivial λk cs hu=>?_;refine wpSIn_head N ?_;subst E;refine wpSIn_region ?_;have Z:∀a:Act,(execOp a.eval t).run P w=.ok .recover w:=λa=>by
  unfold execOp;simp[K,resolve,invoke,builtin]
 have Y:∀a:Act,(execOp a.eval y).run P w=.ok (.value (a.eval (.tmp t6))) w:=λa=>by
  unfold execOp;simp[J]
 have L:∀(v:Value)(z:FrameMode)(g:List Frame),Rec u v z->g={k with mode:=z}::cs->
   wpOpsSIn (AB none) n P #[t,y] (Exit.thenS (λa g w=>Cy none n P (λe j w'=>bodyPostS P fn k cs R e j g w') rest a w) (bodyPostS P fn k cs R)) [1] (({tmps:=args++wM (fn.ntmps-args.size) undef,defers:=[]}:Act).put t.dst v) g w:=λv z g hv r=>by
  rw[wpOpsSIn.eq_2];simp only[vZ,List.getElem?_cons_succ,xm];refine⟨λ_ _=>trivial,?_⟩;have hw:=Gb (ops:=#[t,y]) (a:=(({tmps:=args++wM (fn.ntmps-args.size) undef,defers:=[]}:Act).put t.dst v)) g1;rw[if_pos hw,Y];simp only;rw[wpOpsSIn.eq_1];show Cy none n P (λe j w'=>bodyPostS P fn k cs R e j g w') rest _ w;have e:(({tmps:=args++wM (fn.ntmps-args.size) undef,defers:=[]}:Act).put t.dst v).eval (.tmp t6)=v:=by
   rw[I];exact Fx (a:={tmps:=args++wM (fn.ntmps-args.size) undef,defers:=[]}) (v:=v) (by simp;omega)
  rw[e,I,U];refine Fg ?_ (H v z hv);rintro e j w' ⟨he,J,O,X,B⟩;rcases he with rfl|rfl;.exact⟨J,z,r,O,X,B⟩
  .exact⟨J,z,r,O,X,B⟩
 show wpOpsSIn _ _ _ _ _ [0,1] _ _ _;rw[wpOpsSIn.eq_2];simp only[vZ,xm];refine⟨λ_ _=>trivial,?_⟩;have hw:=Gb (ops:=#[t,y]) (a:=({tmps:=args++wM (fn.ntmps-args.size) undef,defers:=[]}:Act)) T;simp only at hw;rw[if_pos hw,Z];simp only;unfold recoverD;split
 .rename_i v g h;simp only at h;split at h
  .rename_i O A hm;simp only[zH,zq]at h;obtain⟨rfl,rfl⟩:=h;rw[hu]at hm;exact L _ _ _ (by unfold Rec;rw[hm];exact⟨rfl,rfl⟩) rfl
  .cases h
 .rename_i h;simp only at h;split at h;.cases h
  .rename_i hm;refine L _ u _ ?_ (by cases k;simp only at hu;subst hu;rfl);rw[hu]at hm;unfold Rec;split;.exact absurd rfl (hm _ _)
   .exact⟨rfl,rfl⟩
end
end Go.Sx
namespace Go.Proofs
open Go Go.Sx
set_option maxRecDepth 100000
section
variable{V:Mem}{R:RP}
noncomputable def c58a:XB:=((AY (AF uz) []).drop 0).take 3
def w58a(a:KB)(b c d g i j k l o:Sl)(p:KB)(q:Sl)(r:Int):MR:=λV R=>TT 104 #[uD a b c d g i j k,uA #[uL l,uL o],uA #[uS p,uL q]] V λe V1=>∃s u y z A B,e=rT #[uA #[uS s,uL u,uS y,uL z,uL A],uI B]/\Af [uS a,uL b,uL c,uL d,uL g,uL i,uL j,uL k] 30 V1 λC V2=>Af [uL l,uL o] 34 V2 λD h=>Af [uS p,uL q] 36 h λF f=>Af [uP none] 125 f λG t=>Af [uI 0,uI 0,uI 0,uI 0,uI 0] 46 t λH x=>Af [uS s,uL u,uS y,uL z,uL A] 72 x λL J=>R (rT #[uI r,uP (Aa C 0),uP (Aa D 0),uP (Aa F 0),uP (Aa G 0),uP (Aa H 0),uI B,uP (Aa L 0),uB (!(decide (B=0)))]) J
theorem s58a{a:KB}{b c d g i j k l o:Sl}{p:KB}{q:Sl}{r:Int}{V:Mem}{R:KZ}(h:w58a a b c d g i j k l o p q r V (OV R)):AS xV 37 c58a [(0,uD a b c d g i j k),(1,uA #[uL l,uL o]),(2,uA #[uS p,uL q]),(3,uI r)] [3,4,5,6,8,9,10,11,20] V R:=
 Cd (H:=hK 37) [(0,(.agg (.cons (.var .s 0) (.cons (.var .sl 1) (.cons (.var .sl 2) (.cons (.var .sl 3) (.cons (.var .sl 4) (.cons (.var .sl 5) (.cons (.var .sl 6) (.cons (.var .sl 7) .nil)))))))))),(1,(.agg (.cons (.var .sl 8) (.cons (.var .sl 9) .nil)))),(2,(.agg (.cons (.var .s 10) (.cons (.var .sl 11) .nil)))),(3,(.var (.i .i64) 12))] [uS a,uL b,uL c,uL d,uL g,uL i,uL j,uL k,uL l,uL o,uS p,uL q,uI r] rfl (by kernel_rfl) h
noncomputable def c58b:XB:=((AY (AF uz) [3,0]).drop 0).take 1
def w58b(a b:XI)(c:Int):MR:=λV R=>Am a 0 [uP none] V λV1=>Am b 0 [uI 0,uI 0,uI 0,uI 0,uI 0] V1 λV2=>R (rT #[uP a,uP b,uI c]) V2
theorem s58b{a b:XI}{c:Int}{V:Mem}{R:KZ}(h:w58b a b c V (OV R)):AS xV 37 c58b [(8,uP a),(9,uP b),(10,uI c)] [8,9,10] V R:=
 Cd (H:=hK 37) [(8,(.var .p 0)),(9,(.var .p 1)),(10,(.var (.i .i64) 2))] [uP a,uP b,uI c] rfl (by kernel_rfl) h
noncomputable def c58c:XB:=((AY (AF uz) []).drop 4).take 1
def w58c(a:Int)(b c d g i:XI)(j:Int)(k:XI):MR:=λV R=>∃l o p q r s u y,V.rowp b ((0:Int).toNat*1) 8=some [uS l,uL o,uL p,uL q,uL r,uL s,uL u,uL y]/\∃z A,V.rowp c ((0:Int).toNat*1) 2=some [uL z,uL A]/\Af [uS l,uL o,uL p,uL q,uL r,uL s,uL u,uL y,uL z,uL A,uI a,uI 0,uI 0,uI 0,z0] 130 V λB V1=>Am g 0 [uP (Aa B 0)] V1 λV2=>R (rT #[uP d,uP g,uP i,uI j,uP k]) V2
theorem s58c{a:Int}{b c d g i:XI}{j:Int}{k:XI}{V:Mem}{R:KZ}(h:w58c a b c d g i j k V (OV R)):AS xV 37 c58c [(3,uI a),(4,uP b),(5,uP c),(6,uP d),(8,uP g),(9,uP i),(10,uI j),(11,uP k)] [6,8,9,10,11] V R:=
 Cd (H:=hK 37) [(3,(.var (.i .i64) 0)),(4,(.var .p 1)),(5,(.var .p 2)),(6,(.var .p 3)),(8,(.var .p 4)),(9,(.var .p 5)),(10,(.var (.i .i64) 6)),(11,(.var .p 7))] [uI a,uP b,uP c,uP d,uP g,uP i,uI j,uP k] rfl (by kernel_rfl) h
noncomputable def c58d:XW:=Cq ((AY (AF uz) []).getD 6 .skip)
def w58d(a b c:XI)(d:Int)(g:XI):MR:=λV R=>∃i,V.rowp b ((0:Int).toNat*1) 1=some [uP i]/\∃j k l o p,V.rowp g ((0:Int).toNat*1) 5=some [uS j,uL k,uS l,uL o,uL p]/\¬a=none/\∃q,V.rowp a 1 1=some [uL q]/\R (rT #[uP b,uP c,uI d,uP i,uA #[uS j,uL k,uS l,uL o,uL p],uL q]) V
theorem s58d{a b c:XI}{d:Int}{g:XI}{V:Mem}{R:KZ}(h:w58d a b c d g V (OV R)):CS xV 37 c58d 0 4 [(6,uP a),(8,uP b),(9,uP c),(10,uI d),(11,uP g)] [8,9,10,29,30,32] V R:=
 FF (H:=hK 37) [(6,(.var .p 0)),(8,(.var .p 1)),(9,(.var .p 2)),(10,(.var (.i .i64) 3)),(11,(.var .p 4))] [uP a,uP b,uP c,uI d,uP g] rfl (by kernel_rfl) h
noncomputable def c58e:XW:=Cq ((AY (AF uz) []).getD 6 .skip)
def w58e(a b:XI)(c:Int):MR:=λV R=>¬b=none/\Am (Aa b 1) 0 [uI c] V λV1=>R (rT #[uP a,uP b]) V1
theorem s58e{a b:XI}{c:Int}{V:Mem}{R:KZ}(h:w58e a b c V (OV R)):CS xV 37 c58e 5 2 [(8,uP a),(9,uP b),(33,uI c)] [8,9] V R:=
 FF (H:=hK 37) [(8,(.var .p 0)),(9,(.var .p 1)),(33,(.var (.i .i64) 2))] [uP a,uP b,uI c] rfl (by kernel_rfl) h
noncomputable def c58f:XB:=((AY (AF uz) []).drop 7).take 1
def w58f(a b:XI):MR:=λV R=>∃c,V.rowp a ((0:Int).toNat*1) 1=some [uP c]/\∃d g i j k,V.rowp b ((0:Int).toNat*1) 5=some [uI d,uI g,uI i,uI j,uI k]/\Am a 0 [uP c] V λV1=>V1.rowp b 0 5=some [uI d,uI g,uI i,uI j,uI k]/\Am b 0 [uI d,uI g,uI i,uI j,uI k] V1 λV2=>R (rT #[uP a,uP b,uI 0]) V2
theorem s58f{a b:XI}{V:Mem}{R:KZ}(h:w58f a b V (OV R)):AS xV 37 c58f [(8,uP a),(9,uP b)] [8,9,10] V R:=
 Cd (H:=hK 37) [(8,(.var .p 0)),(9,(.var .p 1))] [uP a,uP b] rfl (by kernel_rfl) h
noncomputable def c105a:XB:=((AY (AF uy) []).drop 1).take 5
abbrev w105a_0(o:Sl)(p:Int)(h:Mem)(a:XI)(k:LMP):Prop:=Sm h o p (λq r s=>Br (0<r) (¬a=none/\¬(Aa a 2)=none/\∃u,h.rowp a 3 1=some [uI u]/\IR (u+1)/\¬a=none/\¬(Aa a 2)=none/\Am (Aa a 3) 0 [uI (u+1)] h λg=>R4 p k g) (R4 p k h))
def w105a(a b:XI)(c:Value):MR:=λV R=>GenK xV (.binOp .neq 20 (.tmp 8) (.const .nilIface) 20) 4 (gv [(8,K.cast .r c)]) V λx V1=>∃d,x=uB d/\Ac d (GenK xV (.typeAssert (.tmp 11) 20 185 true) 186 (gv [(11,K.cast .r c)]) V1 λx V2=>∃g i,x=.tuple #[uA #[uI g],uB i]/\Ac i (¬a=none/\Am (Aa a 0) 0 [uI g] V2 λh=>∃j,h.rowp b ((0:Int).toNat*1) 1=some [uP j]/\N2 j (∃k,h.rowp j 13 1=some [uI k]/\¬a=none/\¬(Aa a 2)=none/\Am (Aa a 2) 0 [uI k] h λu=>∃l,u.rowp b ((0:Int).toNat*1) 1=some [uP l]/\N2 l (∃o,u.rowp l 14 1=some [uL o]/\R3 [uI 0] u λp f z=>Br (p<(o.n:Int)) (w105a_0 o p z a f) (R (rT #[]) z)))) (∃t x,K.cast .r c=.iface t x/\R (.panicked [{v:=.iface t x,recovered:=false}]) V2)) (∃g,V1.rowp b ((0:Int).toNat*1) 1=some [uP g]/\N2 g (∃i,V1.rowp g 13 1=some [uI i]/\¬a=none/\¬(Aa a 2)=none/\Am (Aa a 2) 0 [uI i] V1 λV2=>∃j,V2.rowp b ((0:Int).toNat*1) 1=some [uP j]/\N2 j (∃k,V2.rowp j 14 1=some [uL k]/\R3 [uI 0] V2 λl f h=>Br (l<(k.n:Int)) (w105a_0 k l h a f) (R (rT #[]) h))))
theorem s105a{a b:XI}{c:Value}{V:Mem}{R:KZ}(h:w105a a b c V (OV R)):AS xV 46 c105a [(0,uP a),(1,uP b),(2,K.cast .r c)] [] V R:=
 Cd (H:=hK 46) [(0,(.var .p 0)),(1,(.var .p 1)),(2,(.var .r 2))] [uP a,uP b,c] rfl (by kernel_rfl) h
end
attribute [local irreducible] Go.Sx.Tri
def Bz(a0 a1 a2 a3:Int):XV:=[uI a0,uI a1,uI a2,uI a3,uI 0]
structure PM (V0:Mem)(d:Ds)(p F b8 b9:Nat)(gs ns ls:Sl)(nd:XH)(V:Mem)(s:St)(c:Nat)(a0 a1 a2 a3:Int):Prop where
 ex:∃W,V0.sub W/\W p=none/\V p=some (.cells (AL d F s.tk c s.cm gs ns ls).toArray 130 (0,0))/\AK W V gs ns ls nd s/\W b8=some (cell (pv p) 125)/\W b9=some (.cells (Bz a0 a1 a2 a3).toArray 46 (0,0))
section
variable{V0 V:Mem}{d:Ds}{p F b8 b9 c:Nat}{gs ns ls:Sl}{nd:XH}{s:St}{a0 a1 a2 a3 a0' a1' a2' a3':Int}
theorem PM.set9(h:PM V0 d p F b8 b9 gs ns ls nd V s c a0 a1 a2 a3)(k:b8≠b9)(g:V0 b9=none){x:XQ}(f:x=(Bz a0' a1' a2' a3').toArray):PM V0 d p F b8 b9 gs ns ls nd (V.set b9 (.cells x 46 (0,0))) s c a0' a1' a2' a3':=by
 obtain⟨W,t,u,z,L,h8,y⟩:=h.ex;have np:p≠b9:=λe=>by simp_all
 exact⟨W.set b9 (.cells x 46 (0,0)),t.set g _,by rw[Mem.set_ne np];exact u,by rw[Mem.set_ne np];exact z,L.poke (by rw[y];simp) _,by rw[Mem.set_ne k];exact h8,by rw[Mem.set_same,f]⟩
theorem PM.set8(h:PM V0 d p F b8 b9 gs ns ls nd V s c a0 a1 a2 a3)(k:b8≠b9)(g:V0 b8=none){x:XQ}(f:x=#[pv p]):PM V0 d p F b8 b9 gs ns ls nd (V.set b8 (.cells x 125 (0,0))) s c a0 a1 a2 a3:=by
 obtain⟨W,t,u,z,L,h8,y⟩:=h.ex;have np:p≠b8:=λe=>by simp_all
 exact⟨W.set b8 (.cells x 125 (0,0)),t.set g _,by rw[Mem.set_ne np];exact u,by rw[Mem.set_ne np];exact z,L.poke (by rw[h8];simp) _,by rw[Mem.set_same,f],by grind[Mem.set_ne]⟩
theorem PM.at8(h:PM V0 d p F b8 b9 gs ns ls nd V s c a0 a1 a2 a3):V b8=some (cell (pv p) 125):=by
 obtain⟨W,k,g,f,L,h8,t⟩:=h.ex;exact L.sub _ _ h8
theorem PM.at9(h:PM V0 d p F b8 b9 gs ns ls nd V s c a0 a1 a2 a3):V b9=some (.cells (Bz a0 a1 a2 a3).toArray 46 (0,0)):=by
 obtain⟨W,g,f,t,L,h8,k⟩:=h.ex;exact L.sub _ _ k
theorem PM.em(h:PM V0 d p F b8 b9 gs ns ls nd V s c a0 a1 a2 a3):EM V0 d p F V s c:=by
 obtain⟨W,k,g,f,L,h8,t⟩:=h.ex;exact MA.narrow (W:=W) ⟨g,gs,ns,ls,nd,f,L⟩ k
theorem PM.atp(h:PM V0 d p F b8 b9 gs ns ls nd V s c a0 a1 a2 a3):V p=some (.cells (AL d F s.tk c s.cm gs ns ls).toArray 130 (0,0)):=by
 obtain⟨W,g,f,k,L,h8,t⟩:=h.ex;exact k
theorem PM.log(h:PM V0 d p F b8 b9 gs ns ls nd V s c a0 a1 a2 a3):Ae V ls 3 (s.lg.map Ig):=by
 obtain⟨W,k,g,f,L,h8,t⟩:=h.ex;exact L.log.rows (λ_=>rfl) (by decide)
theorem nodesN_succ{l:List (Int×Int×Int)}{i:Nat}{x:Int×Int×Int}(h:l[i]?=some x):AZ (l.take (i+1))=AZ (l.take i)+if 0<x.2.1 then 1 else 0:=by
 unfold AZ;rw[vq,h,List.filter_append,zK];grind
theorem nodesN_le(l:List (Int×Int×Int))(i:Nat):AZ (l.take i)<=i:=by
 grind[AZ]
theorem lateTail(u:b8≠b9)(Z:V0 b9=none)(P:PM V0 d p F b8 b9 gs ns ls nd V s c a0 a1 0 0){R:RP}(hR:∀V',PM V0 d p F b8 b9 gs ns ls nd V' s c a0 a1 s.cm (AZ s.lg)->R (rT #[]) V') :
    (∃Y,V.rowp (sa b8) ((0:Int).toNat*1) 1=some [uP Y]/\
 ¬Y=none/\¬Y=none/\∃C,V.rowp Y ((13:Int).toNat*1) 1=some [uI C]/\
 ¬(some (⟨b9,0,none⟩:Addr))=none/\¬(Aa (sa b9) 2)=none/\Am (Aa (sa b9) 2) 0 [uI C] V λV2=>
 ∃O,V2.rowp (sa b8) ((0:Int).toNat*1) 1=some [uP O]/\
 ¬O=none/\¬O=none/\∃z,V2.rowp O ((14:Int).toNat*1) 1=some [uL z]/\
 ∃(I:Nat->KZ)(T:Nat),I T [uI 0] V2/\∀n h,∀k,I n [uI k] h->∀A:KZ,(∀m ys y,m<n->I m ys y->A ys y)->
 Br (k<(z.n:Int))
 (¬z.p=none/\0<=k/\k<(z.n:Int)/\∃Z j L,h.rowp z.p (k.toNat*3) 3=some [uI Z,uI j,uI L]/\
 Br (0<j)
 (¬(some (⟨b9,0,none⟩:Addr))=none/\¬(Aa (sa b9) 2)=none/\∃f,h.rowp (sa b9) ((3:Int).toNat*1) 1=some [uI f]/\
 IR (f+1)/\¬(some (⟨b9,0,none⟩:Addr))=none/\¬(Aa (sa b9) 2)=none/\Am (Aa (sa b9) 3) 0 [uI (f+1)] h λU=>
 IR (k+1)/\A [uI (k+1)] U)
 (IR (k+1)/\A [uI (k+1)] h))
 (R (rT #[]) h)):=by
  refine⟨_,AD P.at8,nn,nn,_,Aj P.atp 13 1 (by simp[AL]),nn,AJ,Am.at2 (off:=2) P.at9 (by simp[Bz]) ?_⟩;have X:=P.set9 (a0':=a0) (a1':=a1) (a2':=s.cm) (a3':=0) u Z (x:=(((Bz a0 a1 0 0).toArray.toList.take 2++[vP .i64 (s.cm:Int)]++(Bz a0 a1 0 0).toArray.toList.drop (2+[vP .i64 (s.cm:Int)].length)).toArray)) (by simp[Bz]);refine⟨_,AD X.at8,nn,nn,ls,Aj X.atp 14 1 (by simp[AL]),EJ s.lg.length (λi h=>PM V0 d p F b8 b9 gs ns ls nd h s c a0 a1 s.cm (AZ (s.lg.take i))) X ?_⟩;intro i h J hi r D;refine⟨λg=>?_,λB=>?_⟩
  · have t:=r.log;obtain⟨x,-,hx,-,e,hp,hz,N⟩:=t.get g;have hc:=t.cap;have hf:=t.fit;have hnn:=t.n_eq;have hle:=nodesN_le s.lg i;have E:=nodesN_succ hx;refine⟨hp,hz,g,_,_,_,N,λK=>⟨nn,AJ,_,Aj r.at9 3 1 (by simp[Bz]),⟨by omega,by omega⟩,nn,AJ,Am.at2 (off:=3) r.at9 (by simp[Bz]) ⟨t.succ g,D e _ ?_⟩⟩,λK=>⟨t.succ g,D e _ ?_⟩⟩
    · rw[if_pos K]at E;exact r.set9 u Z (by rw[E];simp[Bz])
    simp_all
  · have hd:=(r.log.done B).2;grind
def fltVE(e:Int):Value:=.iface 185 (.agg #[uI e])
theorem lateNil(g:b8≠b9)(f:V0 b9=none)(P:PM V0 d p F b8 b9 gs ns ls nd V s c 0 a1 0 0):AS xV 46 c105a [(0,pv b9),(1,pv b8),(2,.nilIface)] [] V λ_ V'=>PM V0 d p F b8 b9 gs ns ls nd V' s c 0 a1 s.cm (AZ s.lg):=by
 refine s105a (c:=.nilIface) ?_;unfold w105a;exact GenK.eqNilNil rfl rfl ⟨false,rfl,(λk=>by cases k),λ_=>lateTail (R:=λe V'=>∃vs:XV,e=.returned (.tuple vs.toArray)/\PM V0 d p F b8 b9 gs ns ls nd V' s c 0 a1 s.cm (AZ s.lg)) g f P λV' h=>⟨[],rfl,h⟩⟩
theorem lateFlt(g:b8≠b9)(f:V0 b9=none){e:Int}(P:PM V0 d p F b8 b9 gs ns ls nd V s c 0 a1 0 0):AS xV 46 c105a [(0,pv b9),(1,pv b8),(2,fltVE e)] [] V λ_ V'=>PM V0 d p F b8 b9 gs ns ls nd V' s c e a1 s.cm (AZ s.lg):=by
 refine s105a (c:=fltVE e) ?_;unfold w105a;refine GenK.neqNil rfl rfl ⟨true,rfl,λ_=>?_,λk=>absurd rfl k⟩;refine GenK.assertOk uW rfl ⟨e,true,rfl,λ_=>⟨nn,Am.at2 (off:=0) P.at9 (by simp[Bz]) ?_⟩,λk=>absurd rfl k⟩;exact lateTail (R:=λx V'=>∃vs:XV,x=.returned (.tuple vs.toArray)/\PM V0 d p F b8 b9 gs ns ls nd V' s c e a1 s.cm (AZ s.lg)) g f (P.set9 (a0':=e) (a1':=a1) (a2':=0) (a3':=0) g f (by simp[Bz])) λV' h=>⟨[],rfl,h⟩
noncomputable def lateX:Code:=(flat (AF uy)).getD 0 .skip
theorem lateBody:(uy).body=some (AF uy):=by kernel_rfl
theorem lateX_eq:lateX=.region 0 #[(Cq lateX).getD 0 CG,(Cq lateX).getD 1 CG] false:=by kernel_rfl
theorem late_flat:flat (AF uy)=lateX::c105a:=by kernel_rfl
theorem N0{tmps:XQ}{w:World}:(results uy tmps).run xV w=.ok (.tuple #[]) w:=by
 simp_all[results]
theorem lateCc(k:b8≠b9)(Z:V0 b9=none)(P:PM V0 d p F b8 b9 gs ns ls nd V s c 0 a1 0 0){w:World}(hw:V.le w){u:FrameMode}{n:Nat}{f:Int}(hu:(u=.returning/\f=0)∨u=.panicking [{v:=fltVE f,recovered:=false}]):
  CallsDIn (AB none) n xV 105 #[pv b9,pv b8] u w λe g w'=>(∃v,e=.returned v)/\(∃V2,Ax V w V2 w'/\PM V0 d p F b8 b9 gs ns ls nd V2 s c f a1 s.cm (AZ s.lg))/\
   ((u=.returning/\g=.returning)∨(g=.panicking [{v:=fltVE f,recovered:=true}])):=by
 refine QF (fn:=uy) (at0:=#[]) (t3:=2) (t6:=7) Tryz.func105 lateBody late_flat lateX_eq (by kernel_rfl) (by kernel_rfl) (by kernel_rfl) (by kernel_rfl) (by kernel_rfl) (by kernel_rfl) (by simp_all) (by simp_all) ?_;intro v g h;have Y:=Gd (Gd (H6 (args:=[pv b9,pv b8]) (N:=46) (by simp)) (t:=7) (v:=v) (by decide)) (t:=2) (v:=v) (by decide);have z:Has 46 _ [(0,pv b9),(1,pv b8),(2,v)]:=⟨Y.1,λs x y=>by
  simp only[yH]at y
  repeat' split at y
  all_goals first
   |(rename_i e;simp only[beq_iff_eq]at e;subst e;cases y;exact Y.get rfl)
   |cases y⟩
 rcases hu with⟨rfl,rfl⟩|rfl
 .obtain⟨rfl,rfl⟩:v=.nilIface/\g=.returning:=h;refine Fg ?_ (lateNil k Z P none n _ w hw z.1 z.2);rintro e O w' ⟨rfl,j,-,vs,V',-,r,J⟩;exact⟨.inl rfl,j,_,N0,⟨_,rfl⟩,⟨V',J,r⟩,.inl ⟨rfl,rfl⟩⟩
 .obtain⟨rfl,rfl⟩:v=fltVE f/\g=.panicking [{v:=fltVE f,recovered:=true}]:=by
   obtain⟨j,A⟩:=h;grind
  refine Fg ?_ (lateFlt k Z P none n _ w hw z.1 z.2);rintro e O w' ⟨rfl,j,-,vs,V',-,r,J⟩;exact⟨.inl rfl,j,_,N0,⟨_,rfl⟩,⟨V',J,r⟩,.inr rfl⟩
end
theorem AK.base{V0 V:Mem}{gs ns ls:Sl}{nd:XH}{s:St}(L:AK V0 V gs ns ls nd s){p:Nat}(p0:V0 p=none):∃W,V0.sub W/\W p=none/\W.sub V/\AK W V gs ns ls nd s/\∀b o,V b=some o->b≠p->Alien V b->W b=some o:=by
 refine⟨Mem.minus V (Mine p gs ns ls nd),λb o k=>?_,I3 (.inl rfl),Kv,L.frame (λ_ _ _ h=>h),λb o k f u=>?_⟩;.rw[GP λhm=>by rw[L.mine0 p0 hm]at k;cases k];exact L.sub _ _ k
 .rw[GP];exact k;have g:∀{e sz sl vs},(e=3∨e=121∨e=188)->Sx.Own V0 V e sz sl vs->¬A4 sl b:=λ{e sz sl vs} z y=>y.apart λt=>u t e z;rintro(h|h|h|h|⟨n,x,h⟩);.exact f h
  .exact g (.inl rfl) L.glob h
  .exact g (.inr (.inl rfl)) L.nodes h
  .exact g (.inr (.inr rfl)) L.log h
  .exact g (.inl rfl) (L.fld n x) h
theorem Mf{V:Mem}{b:Nat}{x:XQ}{t:Nat}(h:V b=some (.cells x t (0,0)))(k:NT t):Alien V b:=I4 h k
noncomputable def playI:Code:=(flat (AF uz)).getD 3 .skip
noncomputable def FK:Code:=(flat (AF uz)).getD 5 .skip
noncomputable def playR:Code:=(flat (AF uz)).getD 6 .skip
theorem play_flat:flat (AF uz)=c58a++playI::(c58c++FK::playR::(c58f++[.ret])):=by kernel_rfl
theorem playI_eq:playI=.cond (.tmp 20) (kid playI 0) .skip:=by kernel_rfl
theorem playK_flat:flat (kid playI 0)=c58b++[.ret]:=by kernel_rfl
theorem playD_eq:FK=.region 5 #[(Cq FK).getD 0 CG,(Cq FK).getD 1 CG] false:=by kernel_rfl
theorem playR_eq:playR=.region 6 c58d false:=by kernel_rfl
theorem playR_size:(c58d).size=7:=by kernel_rfl
theorem playde:c58d=c58e:=rfl
theorem run_ldv{w:World}{b t T:Nat}{x:Value}{cs y:Go.Sx.T}{ρ:XV}(h:w.heap[b]?=some (.cells (cs.evs ρ id).toArray t (0,0)))(k:DA xV T cs 0=some y)(g:y.ev ρ id=x):(loadVar T ⟨b,0,none⟩).run xV w=.ok x w:=by
 grind[HP,xV,T,id]
def outT:Go.Sx.T:=.cons (.var (.i .i64) 0) (.cons (.var (.i .i64) 1) (.cons (.var (.i .i64) 2) (.cons (.var (.i .i64) 3) (.cons (.var (.i .i64) 4) .nil))))
theorem KC{tmps:XQ}{b8 b9 h k:Nat}{q:XI}{a0 a1 a2 a3 er:Int}{w:World}(h8:tmps.getD 8 undef=pv b8)(g:tmps.getD 9 undef=pv b9)(f:tmps.getD 10 undef=uI er)
  (t:w.heap[b8]?=some (cell (.pointer q) h)) (c9:w.heap[b9]?=some (.cells (Bz a0 a1 a2 a3).toArray k (0,0))):
  (results uz tmps).run xV w=.ok (.tuple #[.pointer q,.agg (Bz a0 a1 a2 a3).toArray,uI er]) w:=by
 have u:uz.results=#[.cell 8 125,.cell 9 46,.tmp 10]:=by kernel_rfl
 unfold results;rw[u];have z:asAddr (tmps.getD 8 undef)=pure ⟨b8,0,none⟩:=by rw[h8];rfl
 have x:asAddr (tmps.getD 9 undef)=pure ⟨b9,0,none⟩:=by rw[g];rfl
 have j:(loadVar 125 ⟨b8,0,none⟩).run xV w=.ok (.pointer q) w:=run_ldv (cs:=.cons (.var .p 0) .nil) (y:=.var .p 0) (ρ:=[.pointer q]) t (by kernel_rfl) rfl;have r:(loadVar 46 ⟨b9,0,none⟩).run xV w=.ok (.agg (Bz a0 a1 a2 a3).toArray) w:=run_ldv (cs:=outT) (y:=.agg outT) (ρ:=Bz a0 a1 a2 a3) c9 (by kernel_rfl) rfl;simp_all
section
variable{V0 V:Mem}{d:Ds}{F:Nat}{gs ns:Sl}{nd:XH}{m:Mm}
def PlayP(V0:Mem)(d:Ds)(F:Nat)(m:Mm)(nm:KB)(args:XZ)(V:Mem):RP:=λe V'=>
 (A1 d m nm args≠0/\V.sub V'/\e=rT #[.pointer none,.agg (Bz 0 0 0 0).toArray,uI (A1 d m nm args)])∨
 (A1 d m nm args=0/\∃p c,∃r:Rx Int,r=CX d F (BG d nm) args (AV m)/\EM V0 d p F V' r.st c/\e=rT #[pv p,.agg (Bz (outC r) (outV r) r.st.cm (AZ r.st.lg)).toArray,uI 0])
end
theorem lookup_mem{s:Nat}{v:Value}:∀{l:List (Nat×Value)},l.lookup s=some v->(s,v)∈l
 |[],h=>by cases h
 |(t,u)::l,h=>by
  rw[yH]at h;split at h
  .rename_i e;simp only[beq_iff_eq]at e;subst e;cases h;exact List.mem_cons_self
  .exact List.mem_cons_of_mem _ (lookup_mem h)
theorem KD{N:Nat}{a:Act}{l k:List (Nat×Value)}(h:Has N a l)(g:∀x∈k,l.lookup x.1=some x.2):Has N a k:=⟨h.1,λs v f=>h.2 s v (g (s,v) (lookup_mem f))⟩
noncomputable def Ij:Call:=match((c58d).getD 4 CG).op with|.call c=>c|_=>{callee:=.value (.tmp 0),args:=#[],argTypes:=#[]}
noncomputable def playFv:Operand:=match Ij.callee with|.value f=>f|_=>.tmp 0
theorem playCall_op:((c58d).getD 4 CG).op=.call Ij:=by kernel_rfl
theorem playCall_fv:Ij.callee=.value playFv:=by kernel_rfl
theorem QG:Ij.args=#[.tmp 29,.tmp 30,.tmp 32]:=by kernel_rfl
theorem playFv_eval(a:Act):a.eval playFv=.func (.func 106) #[] #[]:=by kernel_rfl
theorem free{V U:Mem}(k:V.sub U){b:Nat}(h:U b=none):V b=none:=by
 cases g:V b with
 |none=>rfl
 |some o=>rw[k _ _ g]at h;cases h
section
variable{V0 V:Mem}{d:Ds}{F:Nat}{m:Mm}{nm:KB}{args:XZ}{l:Sl}{b4 b5 b6 b8 b9 b11 p c:Nat}{gs ns ls:Sl}{nd:XH}{s:St}{a1:Int}{pr:Pr}{er:Int}
theorem segA(Y:Ds.Ok V d)(hm:Mm.Ok V m)(G:An d m)(O:Ae V l 1 (args.map Aw))(y:pr=if A1 d m nm args=0 then(d.procs[(BG d nm).toNat]?).getD noPr else noPr):
  AS xV 37 c58a [(0,d.v),(1,m.v),(2,.agg #[uS nm,l.v]),(3,uI F)] [3,4,5,6,8,9,10,11,20] V λvs V1=>∃b4 b5 b6 b8 b9 b11:Nat,vs=[uI F,pv b4,pv b5,pv b6,pv b8,pv b9,uI (A1 d m nm args),pv b11,.bool (!(decide (A1 d m nm args=0)))]/\
   V.sub V1/\V b8=none/\V b9=none/\b8≠b9/\V1 b4=some (.cells d.row.toArray 30 (0,0))/\V1 b5=some (.cells m.row.toArray 34 (0,0))/\V1 b6=some (.cells #[uS nm,l.v] 36 (0,0))/\V1 b8=some (cell (.pointer none) 125)/\V1 b9=some (.cells (Bz 0 0 0 0).toArray 46 (0,0))/\V1 b11=some (.cells pr.row.toArray 72 (0,0)):=by
 have N:=c104 Y hm G O (nm:=nm);rw[<-y]at N;refine s58a (a:=d.name) (b:=d.ts) (c:=d.gs) (d:=d.ps) (g:=d.ms) (i:=d.is) (j:=d.qs) (k:=d.bs) (l:=m.gs) (o:=m.ns) (p:=nm) (q:=l) (r:=F) ?_;unfold w58a;refine N.call ⟨_,_,_,_,_,_,rfl,λb4 A b5 I b6 h6 b8 h8 b9 Z b11 x=>?_⟩;have J:=λo=>Mem.sub_new A o;have z:=λo=>Mem.sub_new I o;have f:=λo=>Mem.sub_new h6 o;have t:=λo=>Mem.sub_new h8 o;have u:=λo=>Mem.sub_new Z o;have h:=λo=>Mem.sub_new x o;refine⟨_,rfl,b4,b5,b6,b8,b9,b11,rfl,(J _).trans ((z _).trans ((f _).trans ((t _).trans ((u _).trans (h _))))),free ((J _).trans ((z _).trans (f _))) h8,free ((J _).trans ((z _).trans ((f _).trans (t _)))) Z,λe=>?_,?_,?_,?_,?_,?_,Mem.set_same _ _ _⟩;.grind[Mem.set_same]
 .exact((z _).trans ((f _).trans ((t _).trans ((u _).trans (h _))))) _ _ Av
 .exact((f _).trans ((t _).trans ((u _).trans (h _)))) _ _ Av
 .exact((t _).trans ((u _).trans (h _))) _ _ Av
 .exact((u _).trans (h _)) _ _ Av
 .exact(h _) _ _ Av
theorem segB(h:b8≠b9)(k:V0 b8=none)(g:V0 b9=none)(f:V0.sub V)(t:V b8=some (cell (.pointer none) 125))(u:V b9=some (.cells (Bz 0 0 0 0).toArray 46 (0,0))):
  AS xV 37 c58b [(8,pv b8),(9,pv b9),(10,uI er)] [8,9,10] V λvs V1=>vs=[pv b8,pv b9,uI er]/\V0.sub V1/\V1 b8=some (cell (.pointer none) 125)/\V1 b9=some (.cells (Bz 0 0 0 0).toArray 46 (0,0)):=by
 refine s58b (a:=some ⟨b8,0,none⟩) (b:=some ⟨b9,0,none⟩) (c:=er) ?_;unfold w58b;refine Am.cell t ?_;show Am (Aa (sa b9) 0) 0 _ _ _;refine Am.at2 (off:=0) (by rw[Mem.set_ne h.symm];exact u) (by simp[Bz]) ⟨_,rfl,rfl,(f.set k _).set g _,by rw[Mem.set_ne h,Mem.set_same],by rw[Mem.set_same];simp[Bz]⟩
theorem segC(f:V b4=some (.cells d.row.toArray 30 (0,0)))(t:V b5=some (.cells m.row.toArray 34 (0,0)))(u:V b8=some (cell (.pointer none) 125)):
  AS xV 37 c58c [(3,uI F),(4,pv b4),(5,pv b5),(6,pv b6),(8,pv b8),(9,pv b9),(10,uI er),(11,pv b11)] [6,8,9,10,11] V λvs V1=>
   vs=[pv b6,pv b8,pv b9,uI er,pv b11]/\∃p,V p=none/\V1=(V.set p (.cells (AL d F ((0:Nat):Int) ((0:Nat):Int) ((0:Nat):Int) m.gs m.ns Ah).toArray 130 (0,0))).set b8 (cell (pv p) 125):=by
 refine s58c (a:=F) (b:=some ⟨b4,0,none⟩) (c:=some ⟨b5,0,none⟩) (d:=some ⟨b6,0,none⟩) (g:=some ⟨b8,0,none⟩) (i:=some ⟨b9,0,none⟩) (j:=er) (k:=some ⟨b11,0,none⟩) ?_;unfold w58c;refine⟨_,_,_,_,_,_,_,_,Aj f 0 8 (by simp[Ds.row]),_,_,Aj t 0 2 (by simp[Mm.row]),λp z=>?_⟩;have h:b8≠p:=λe=>by simp_all
 exact Am.cell (by rw[Mem.set_ne h];exact u) ⟨_,rfl,rfl,p,z,rfl⟩
theorem segD(k:V b6=some (.cells #[uS nm,l.v] 36 (0,0)))(f:V b8=some (cell (pv p) 125))(h:V b11=some (.cells pr.row.toArray 72 (0,0))):
  CS xV 37 c58d 0 4 [(6,pv b6),(8,pv b8),(9,pv b9),(10,uI er),(11,pv b11)] [8,9,10,29,30,32] V λvs V1=>
   vs=[pv b8,pv b9,uI er,pv p,pr.v,l.v]/\V1=V:=by
 refine s58d (a:=some ⟨b6,0,none⟩) (b:=some ⟨b8,0,none⟩) (c:=some ⟨b9,0,none⟩) (d:=er) (g:=some ⟨b11,0,none⟩) ?_;unfold w58d;exact⟨_,AD f,_,_,_,_,_,Aj h 0 5 (by simp[Pr.row]),nn,l,Aj k 1 1 (by simp),_,rfl,rfl,rfl⟩
theorem segE(h:b8≠b9)(k:V0 b9=none){v:Int}(P:PM V0 d p F b8 b9 gs ns ls nd V s c 0 0 0 0):
  CS xV 37 c58e 5 2 [(8,pv b8),(9,pv b9),(33,uI v)] [8,9] V λvs V1=>vs=[pv b8,pv b9]/\PM V0 d p F b8 b9 gs ns ls nd V1 s c 0 v 0 0:=by
 refine s58e (a:=some ⟨b8,0,none⟩) (b:=some ⟨b9,0,none⟩) (c:=v) ?_;unfold w58e;exact⟨nn,Am.at2 (off:=1) P.at9 (by simp[Bz]) ⟨_,rfl,rfl,P.set9 h k (by simp[Bz])⟩⟩
theorem segF(h:b8≠b9)(g:V0 b8=none)(f:V0 b9=none)(P:PM V0 d p F b8 b9 gs ns ls nd V s c 0 a1 0 0):
  AS xV 37 c58f [(8,pv b8),(9,pv b9)] [8,9,10] V λvs V1=>vs=[pv b8,pv b9,uI 0]/\PM V0 d p F b8 b9 gs ns ls nd V1 s c 0 a1 0 0:=by
 refine s58f (a:=some ⟨b8,0,none⟩) (b:=some ⟨b9,0,none⟩) ?_;unfold w58f;have k:=P.set8 h g (x:=#[pv p]) rfl;refine⟨_,AD P.at8,_,_,_,_,_,Aj P.at9 0 5 (by simp[Bz]),Am.cell P.at8 ⟨Aj k.at9 0 5 (by simp[Bz]),?_⟩⟩;show Am (Aa (sa b9) 0) 0 _ _ _;exact Am.at2 (off:=0) k.at9 (by simp[Bz]) ⟨_,rfl,rfl,k.set9 h f (by simp[Bz])⟩
end
section
variable{V0 V:Mem}{d:Ds}{F:Nat}{m:Mm}{nm:KB}{args:XZ}{l:Sl}
theorem N1(S:ES V0 d F)(L:AK V0 V m.gs m.ns Ah m.nodes (AV m))(hm:Mm.Ok V m)(G:An d m)(ha:Ae V0 l 1 (args.map Aw)):
  Tri xV 58 #[d.v,m.v,.agg #[uS nm,l.v],uI F] V (PlayP V0 d F m nm args V):=by
 unfold Go.Sx.Tri;intro w hV;refine(callsIn_wide (n:=0)).1 (callsIn_of_wp_defers (F:=AB none) Tryz.func58 (c:=AF uz) (by kernel_rfl) trivial (FE ?_) rfl);rw[play_flat];obtain⟨pr,hpr⟩:∃pr,pr=if A1 d m nm args=0 then(d.procs[(BG d nm).toNat]?).getD noPr else noPr:=⟨_,rfl⟩
 refine(segA (F:=F) (S.ds.sub L.sub) hm G (ha.sub L.sub) hpr).step hV (H6 (args:=[d.v,m.v,.agg #[uS nm,l.v],uI F]) (N:=37) (by simp)) ?_;rintro a1 w1 vs V1 hd1 T ⟨b4,b5,b6,b8,b9,b11,rfl,s1,f8,f9,j,e4,e5,e6,e8,e9,e11⟩ J;have v8:=free L.sub f8;have v9:=free L.sub f9;have h20:a1.eval (.tmp 20)=.bool (!(decide (A1 d m nm args=0))):=T.get rfl;show wO (AB none) 0 xV playI _ a1 w1;rw[playI_eq];by_cases hc:A1 d m nm args=0
 .refine wpIn_cond_false (by grind) (wpIn_skip ?_);show Cy none 0 xV _ (c58c++FK::playR::(c58f++[.ret])) a1 w1;refine(segC (F:=F) (m:=m) e4 e5 e8).step J.le (KD T (by
   intro x A;simp only[zJ,xT,or_false]at A;rcases A with rfl|rfl|rfl|rfl|rfl|rfl|rfl|rfl<;>rfl)) ?_
  rintro a2 w2 vs V2 U u ⟨rfl,p,hp,B⟩ g;have hp8:b8≠p:=λe=>by simp_all
  have s2:V1.sub (V1.set p (.cells (AL d F ((0:Nat):Int) ((0:Nat):Int) ((0:Nat):Int) m.gs m.ns Ah).toArray 130 (0,0))):=Mem.sub_new hp _;have L1:=(L.grow s1).grow s2;have L2:AK V0 V2 m.gs m.ns Ah m.nodes (AV m):=by
   rw[B];exact L1.put (Mf (s2 _ _ e8) (by unfold NT;decide)) v8 _
  have p0:V0 p=none:=free (L.sub.trans s1) hp;obtain⟨W,w0,wp,wV,LW,hW⟩:=L2.base p0;have hat:V2 p=some (.cells (AL d F ((0:Nat):Int) ((0:Nat):Int) ((0:Nat):Int) m.gs m.ns Ah).toArray 130 (0,0)):=by rw[B,Mem.set_ne hp8.symm,Mem.set_same]
  have keep:∀{b:Nat}{o:Obj},V1 b=some o->b≠b8->V2 b=some o:=λ{b o} hb hne=>by rw[B,Mem.set_ne hne];exact s2 _ _ hb
  have I:V2 b8=some (cell (pv p) 125):=by rw[B,Mem.set_same]
  have n6:b6≠b8:=λe=>by simp_all
  have n11:b11≠b8:=λe=>by simp_all
  have C:=keep e9 j.symm;have hp9:b9≠p:=λe=>by simp_all
  have W8:W b8=some (cell (pv p) 125):=hW _ _ I hp8 (Mf I (by unfold NT;decide));have W9:W b9=some (.cells (Bz 0 0 0 0).toArray 46 (0,0)):=hW _ _ C hp9 (Mf C (by unfold NT;decide));have MW:EM W d p F V2 (AV m) 0:=⟨wp,m.gs,m.ns,Ah,m.nodes,hat,LW⟩;obtain⟨i,q,hi,hq,hval⟩:=Me hc;have hpq:pr=q:=by simp_all
  have hG:=I5 G;have hvs:AE d (AV m).mm q.params args=true:=BS (KA (Kz m).symm) hval;obtain⟨r,hr⟩:∃r:Rx Int,r=CX d F (i:Int) args (AV m):=⟨_,rfl⟩;have H:Tri xV 106 #[pv p,pr.v,l.v] V2 (PX W d p F 0 r):=by
   rw[hr,hpq];exact runC (allC d p F (F+1)) W V2 (AV m) 0 i q args l (S.sub w0) hq hG hvs (ha.sub w0) MW (Nat.zero_le _) (by omega) (by unfold BW;show 0+0+0<=_;omega)
  show wO (AB none) 0 xV FK _ a2 w2;rw[playD_eq];refine wpIn_region ?_;show wpOpsIn _ _ _ _ _ [0,1] _ _;refine Go.Sx.step_value (o:=(Cq FK).getD 0 CG) rfl (by kernel_rfl) (NH (f:=.func 105) (first:=#[]) (caps:=#[.tmp 9,.tmp 8]) (by kernel_rfl)) ?_;have g8:a2.eval (.tmp 8)=pv b8:=u.get rfl;have g9:a2.eval (.tmp 9)=pv b9:=u.get rfl;have hd0:((Cq FK).getD 0 CG).dst=some 28:=by kernel_rfl
  have hd1':((Cq FK).getD 1 CG).dst=none:=by kernel_rfl
  rw[hd0,show(#[Operand.tmp 9,.tmp 8].map a2.eval)=#[pv b9,pv b8]by simp[g8,g9],show((#[]:Array Operand).map a2.eval)=#[]by simp];have hH3:=Gd u (t:=28) (v:=.func (.func 105) #[] #[pv b9,pv b8]) (by decide);refine Go.Sx.step_defer (o:=(Cq FK).getD 1 CG) rfl (by kernel_rfl) (NJ (c:={callee:=.value (.tmp 28),args:=#[],argTypes:=#[]}) (fv:=.tmp 28) (f:=.func 105) (first:=#[]) (by kernel_rfl) rfl (hH3.get rfl) (by simp)) ?_;rw[hd1'];show wO (AB none) 0 xV playR _ _ w2;rw[playR_eq];refine wpIn_region ?_;rw[playR_size];show wpOpsIn _ _ _ _ _ (List.range' 0 4++[4,5,6]) _ _;have E:Has 37 _ [(6,pv b6),(8,pv b8),(9,pv b9),(10,uI (A1 d m nm args)),(11,pv b11)]:=KD hH3 (by
   intro x A;simp only[zJ,xT,or_false]at A;rcases A with rfl|rfl|rfl|rfl|rfl<;>rfl)
  refine(segD (pr:=pr) (keep e6 n6) I (keep e11 n11)).step g.le ⟨E.1,E.2⟩ ?_;rintro X w4 vs V4 hd4 z ⟨rfl,rfl⟩ D;have hdf:X.defers=[{target:=.fn (.func 105) #[pv b9,pv b8],args:=#[]++#[]}]:=by
   rw[hd4];show _::a2.defers=_;rw[U,hd1]
  have inv:∀w',(invoke (.fn (.func 105) #[pv b9,pv b8]) (#[]++#[])).run xV w'=.ok (.enter 105 #[pv b9,pv b8]) w':=λw'=>by simp[invoke]
  have q29:X.eval (.tmp 29)=pv p:=z.get rfl;have q30:X.eval (.tmp 30)=pr.v:=z.get rfl;have q32:X.eval (.tmp 32)=l.v:=z.get rfl;have t8:X.tmps.getD 8 undef=pv b8:=z.get rfl;have t9:X.tmps.getD 9 undef=pv b9:=z.get rfl;have t10:X.tmps.getD 10 undef=uI 0:=by rw[<-hc];exact z.get rfl
  have i4:(c58d)[4]?=some ((c58d).getD 4 CG):=by kernel_rfl
  have d4:((c58d).getD 4 CG).dst=some 33:=by kernel_rfl
  have hargs:Ij.args.map X.eval=#[pv p,pr.v,l.v]:=by grind[QG]
  have mk:∀{V':Mem}{s':St}{c':Nat},EM W d p F V' s' c'->∃gs ns ls nd,PM V0 d p F b8 b9 gs ns ls nd V' s' c' 0 0 0 0:=λ{V' s' c'} h=>by
   obtain⟨gs,ns,ls,nd,h1,h2⟩:=h.ex;exact⟨gs,ns,ls,nd,W,w0,wp,h1,h2,W8,W9⟩
  have hrs:(r.st:St)=(CX d F (BG d nm) args (AV m)).st:=by rw[hr,hi]
  refine Go.Sx.step_call i4 (by kernel_rfl) (by simpa using run_callv (c:=Ij) (fv:=playFv) (f:=106) (first:=#[]) (caps:=#[]) (args:=#[pv p,pr.v,l.v]) playCall_op playCall_fv (playFv_eval X) hargs Tryz.call106) D.le H ?_ ?_ ?_
  .intro ch V' w' K Z;cases r with
   |ok v s'=>cases K.1
   |bad k s'=>
    obtain⟨he,c',hm'⟩:=K;have hch:ch=[{v:=fltVE k,recovered:=false}]:=by
     unfold fltE at he;injection he
    subst hch;obtain⟨gs,ns,ls,nd,P⟩:=mk hm';show LeavesIn (AB none) 0 xV _ _ _ X.defers _ w';rw[hdf];refine⟨nofun,(λh=>by simp[AB,Fence.wide]at h),_,_,_,_,rfl,inv w',λ_ _=>trivial,Kh (lateCc j v9 P Z.le (f:=k) (.inr rfl)) ?_⟩;rintro e u' w'' ⟨⟨v,rfl⟩,⟨V6,y,P6⟩,⟨h,-⟩|rfl⟩;.cases h
    .refine⟨_,KC t8 t9 t10 (y.le _ _ P6.at8) (y.le _ _ P6.at9),V6,.inr ⟨hc,p,c',.bad k s',by rw[hr,hi],P6.em,rfl⟩,(((J.trans g).trans D).trans Z).trans y⟩
  .intro v V' w' K Z;cases r with
   |bad k s'=>cases K.1
   |ok x s'=>
    obtain⟨he,hm'⟩:=K;cases he;rw[d4];obtain⟨gs,ns,ls,nd,P⟩:=mk hm';have hH5:=Gd z (t:=33) (v:=uI x) (by decide);show wpOpsIn _ _ _ _ _ (List.range' 5 2++[]) _ w';rw[playde];refine(segE j v9 (v:=x) P).step Z.le (KD ⟨hH5.1,hH5.2⟩ (by
     intro x A;simp only[zJ,xT,or_false]at A;rcases A with rfl|rfl|rfl<;>rfl)) ?_
    rintro a6 w6 vs V6 hd6 hH6 ⟨rfl,P6⟩ y;show Cy none 0 xV _ (c58f++[.ret]) a6 w6;refine(segF j v8 v9 P6).step y.le hH6 ?_;rintro a7 w7 vs V7 hd7 Y ⟨rfl,P7⟩ hF7;show wO (AB none) 0 xV .ret _ a7 w7;refine wpIn_ret ?_;show LeavesIn (AB none) 0 xV _ _ _ a7.defers _ w7;have hdf7:a7.defers=_:=(hd7.trans hd6).trans hdf;rw[hdf7];refine⟨nofun,(λh=>by simp[AB,Fence.wide]at h),_,_,_,_,rfl,inv w7,λ_ _=>trivial,Kh (lateCc j v9 P7 hF7.le (f:=0) (.inl ⟨rfl,rfl⟩)) ?_⟩;rintro e u' w'' ⟨⟨v,rfl⟩,⟨V8,O,P8⟩,⟨-,rfl⟩|rfl⟩;.refine⟨_,KC (Y.get rfl) (Y.get rfl) (Y.get rfl) (O.le _ _ P8.at8) (O.le _ _ P8.at9),V8,.inr ⟨hc,p,0,.ok x s',by rw[hr,hi],P8.em,rfl⟩,((((((J.trans g).trans D).trans Z).trans y).trans hF7).trans O)⟩
    .refine⟨_,KC (Y.get rfl) (Y.get rfl) (Y.get rfl) (O.le _ _ P8.at8) (O.le _ _ P8.at9),V8,.inr ⟨hc,p,0,.ok x s',by rw[hr,hi],P8.em,rfl⟩,((((((J.trans g).trans D).trans Z).trans y).trans hF7).trans O)⟩
  .intro V' K;cases r with
   |ok v s'=>cases K.1
   |bad k s'=>cases K.1
 .refine wpIn_cond_true (by grind) (FE ?_);rw[playK_flat];refine(segB j f8 f9 s1 e8 e9).step J.le (KD T (by
   intro x A;simp only[zJ,xT,or_false]at A;rcases A with rfl|rfl|rfl<;>rfl)) ?_
  rintro a2 w2 vs V2 U u ⟨rfl,s2,I,C⟩ g;show wO (AB none) 0 xV .ret _ a2 w2;refine wpIn_ret ?_;show LeavesIn (AB none) 0 xV _ _ _ a2.defers _ w2;rw[U,hd1];exact⟨_,KC (u.get rfl) (u.get rfl) (u.get rfl) (g.le _ _ I) (g.le _ _ C),V2,.inl ⟨hc,s2,rfl⟩,J.trans g⟩
end
section
variable{V:Mem}{d:Ds}{F:Nat}{m m':Mm}{nm:KB}{args:XZ}{l:Sl}
theorem values_plain(h:m.plain=m'.plain){t:XX}{vs:XZ}:AE d m t vs=AE d m' t vs:=by
 rw[Bool.eq_iff_iff];grind[BS,KA]
theorem KE(h:m.plain=m'.plain):A1 d m nm args=A1 d m' nm args:=by
 grind[A1,values_plain]
noncomputable def Cg(d:Ds)(m:Mm)(nm:KB)(args:XZ)(F:Int):Int:=if BT d m F=0 then A1 d m nm args else BT d m F
theorem I6{F:Int}(h:BT d m F=0):An d m:=by
 grind[BT]
theorem ok_copy(hm:Mm.Ok V m){V':Mem}{gs ns:Sl}{nd:XH}(L:AK V V' gs ns Ah nd (AV m)):Mm.Ok V' ⟨gs,m.globals,ns,nd⟩/\(⟨gs,m.globals,ns,nd⟩:Mm).plain=m.plain:=by
 have h:(⟨gs,m.globals,ns,nd⟩:Mm).plain=m.plain:=by
  unfold Mm.plain;rw[L.eq];rfl
 refine⟨⟨L.glob.rows (λ_=>rfl) (by decide),hm.gIn,L.nodes.rows (λ_=>rfl) (by decide),λn k=>?_⟩,h⟩;obtain⟨i,f⟩:=uJ.1 k;obtain⟨y,t,u,z⟩:=Ih h f;have g:=hm.nodesOk y (xw t);exact⟨(L.fld n k).rows (λ_=>rfl) (by decide),by rw[<-u];exact g.tyIn,by rw[<-z];exact g.vals⟩
def StartP(V:Mem)(d:Ds)(F:Nat)(m:Mm)(nm:KB)(args:XZ):RP:=λe V'=>
 (Cg d m nm args F≠0/\V.sub V'/\e=rT #[.pointer none,.agg (Bz 0 0 0 0).toArray,uI (Cg d m nm args F)])∨
 (Cg d m nm args F=0/\∃p c,∃r:Rx Int,r=CX d F (BG d nm) args (AV m)/\EM V d p F V' r.st c/\e=rT #[pv p,.agg (Bz (outC r) (outV r) r.st.cm (AZ r.st.lg)).toArray,uI 0])
theorem c108[Tab V](x:Ds.Ok V d)(hm:Mm.Ok V m)(Y:Ae V l 1 (args.map Aw))(O:F<=4000):Tri xV 108 #[d.v,m.v,.agg #[uS nm,l.v],uI F] V (StartP V d F m nm args):=by
 refine x108 (R:=StartP V d F m nm args) ?_;refine(NX x hm).call ⟨_,rfl,λJ=>?_,λJ=>?_⟩
 .have G:=I6 J;have k:Cg d m nm args F=A1 d m nm args:=by grind[Cg]
  obtain⟨p1,A,p3,U,I⟩:=BR G.mem;have X:=lens12 G.valid;refine Tri.mono (NY hm (by grind[C8]) A λn N=>?_) ?_
  .have:=(C8.1 (I n N)).1;have B:=of_decide_eq_true (p3 n N);obtain⟨j,C⟩:∃j:Nat,n.ty=(j:Int):=⟨n.ty.toNat,by omega⟩;have g:j<d.types.length:=by omega
   have D:=yf g;rw[C,Ew D rfl]at this;grind
  rintro _ V1 ⟨gs,ns,nd,rfl,L⟩;obtain⟨t,Z⟩:=ok_copy hm L;have E:An d ⟨gs,m.globals,ns,nd⟩:=⟨G.valid,G.chk,Gh Z.symm G.mem⟩;have u:AV ⟨gs,m.globals,ns,nd⟩=AV m:=by
   unfold AV;rw[show nd.map (λn=>(n.ty,n.f))=m.nodes.map (λn=>(n.ty,n.f))from L.eq]
  have K:AK V V1 gs ns Ah nd (AV ⟨gs,m.globals,ns,nd⟩):=by grind
  refine⟨gs,ns,rfl,Tri.mono (N1 (m:=⟨gs,m.globals,ns,nd⟩) ⟨x,G.valid,Kq G.valid G.chk,O⟩ K t E Y) ?_⟩;have h:A1 d ⟨gs,m.globals,ns,nd⟩ nm args=A1 d m nm args:=KE Z;rintro e V2 (⟨z,y,rfl⟩|⟨z,p,c,r,T,M,rfl⟩)
  .rw[h]at z⊢;exact⟨_,_,_,_,_,_,_,rfl,.inl ⟨by omega,L.sub.trans y,by rw[k];rfl⟩⟩
  .rw[h]at z;exact⟨_,_,_,_,_,_,_,rfl,.inr ⟨by omega,p,c,r,by rw[T,u],M,rfl⟩⟩
 .have k:Cg d m nm args F=BT d m F:=by grind[Cg]
  exact .inl ⟨by omega,Mem.sub.refl _,by rw[k];rfl⟩
def RunP(V:Mem)(d:Ds)(F:Nat)(m:Mm)(nm:KB)(args:XZ):RP:=λe V'=>
 (Cg d m nm args F≠0/\V.sub V'/\e=rT #[.agg (Bz 0 0 0 0).toArray,.agg #[Ah.v,Ah.v],uI (Cg d m nm args F)])∨
 (Cg d m nm args F=0/\∃r:Rx Int,∃gs ns ls nd,r=CX d F (BG d nm) args (AV m)/\AK V V' gs ns ls nd r.st/\e=rT #[.agg (Bz (outC r) (outV r) r.st.cm (AZ r.st.lg)).toArray,.agg #[gs.v,ns.v],uI 0])
theorem QH[Tab V](f:Ds.Ok V d)(hm:Mm.Ok V m)(t:Ae V l 1 (args.map Aw))(u:F<=4000):Tri xV 61 #[d.v,m.v,.agg #[uS nm,l.v],uI F] V (RunP V d F m nm args):=by
 refine Pm (R:=RunP V d F m nm args) ?_;refine Tri.mono (c108 f hm t u) ?_;rintro e V1 (⟨g,z,rfl⟩|⟨g,p,c,r,y,M,rfl⟩);.exact⟨_,_,_,_,_,_,_,rfl,λh=>absurd h g,λ_=>.inl ⟨g,z,rfl⟩⟩
 .obtain⟨gs,ns,ls,nd,k,L⟩:=M.ex;exact⟨_,_,_,_,_,_,_,rfl,λ_=>⟨nn,nn,gs,ns,Aj k 8 2 (by simp[AL]),Do k 8 0 2 (by simp[AL]),nn,nn,.inr ⟨g,r,gs,ns,ls,nd,y,L,rfl⟩⟩,λh=>absurd rfl h⟩
end
theorem take_eq{α:Type}{xs ys:List α}{i:Nat}{x y:α}(h:xs.take i=ys.take i)(k:xs[i]?=some x)(g:ys[i]?=some y)(e:x=y):xs.take (i+1)=ys.take (i+1):=by
 grind[vq]
section
variable{V:Mem}{d:Ds}{m:Mm}
theorem c121{s t:Sl}{xs ys:XZ}(h:Ae V s 1 (xs.map Aw))(k:Ae V t 1 (ys.map Aw)):PP 121 [uL s,uL t] V (uB (decide (xs=ys))):=by
 refine x121 ?_;have Y:=h.n_eq;have O:=k.n_eq;refine⟨λN=>?_,λN=>?_⟩
 .refine AG (mk:=.bool) (b0:=false) xs.length (λi V1=>V=V1/\xs.take i=ys.take i) ⟨rfl,rfl⟩ ?_;rintro i b V1 J U ⟨rfl,A⟩ I;refine⟨λg=>?_,λL=>?_⟩
  .obtain⟨x,X,B,-,z,C,D,u⟩:=h.get g;obtain⟨y,E,K,-,T,j,r,f⟩:=k.get (i:=i) (by omega);refine⟨C,D,g,_,u,j,r,by omega,_,f,λZ=>⟨h.succ g,I z _ _ ⟨rfl,take_eq A B K Z⟩⟩,λZ=>?_⟩;rw[decide_eq_false λe=>?_];.simp_all
   simp_all
  grind
 .rw[decide_eq_false λe=>N (by rw[Y,O,e])];simp_all
theorem plain_ext{a b:Mm}(h:a.globals=b.globals)(k:(a.nodes.map λn=>(n.ty,n.f))=b.nodes.map λn=>(n.ty,n.f)):a.plain=b.plain:=by grind[Mm.plain]
instance:DecidableEq (XZ×List (Int×XZ)):=inferInstance
theorem QI{a b:Mm}(z:Mm.Ok V a)(Y:Mm.Ok V b):PP 72 [a.v,b.v] V (uB (decide (a.plain=b.plain))):=by
 refine Pz ?_;have n1:=z.nodes.n_eq;have n2:=Y.nodes.n_eq;have O:a.plain≠b.plain->(xY (.bool false)=.returned (uB (decide (a.plain=b.plain)))/\V=V):=λh=>⟨by simp_all,rfl⟩;refine(c121 z.globals Y.globals).call ⟨_,rfl,λj=>?_,λj=>O λe=>j (decide_eq_true (uZ e).1)⟩;have j:=of_decide_eq_true j;refine⟨λK=>?_,λK=>O λe=>K (by rw[n1,n2,Ii e])⟩;refine AG (mk:=.bool) (b0:=false) a.nodes.length (λi V1=>V=V1/\(a.nodes.map λn=>(n.ty,n.f)).take i=(b.nodes.map λn=>(n.ty,n.f)).take i) ⟨rfl,rfl⟩ ?_;rintro i b0 V1 J hi ⟨rfl,I⟩ hJ;refine⟨λg=>?_,λL=>?_⟩
 .obtain⟨x,X,hx,-,B,A,T,u⟩:=z.nodes.get g;obtain⟨y,C,hy,-,hjl,t,r,k⟩:=Y.nodes.get (i:=i) (by omega);have U:(i:Int)<(b.ns.n:Int):=by omega
  have N:(a.nodes.map λn=>(n.ty,n.f))[i]?=some (x.ty,x.f):=by simp_all
  have Z:(b.nodes.map λn=>(n.ty,n.f))[i]?=some (y.ty,y.f):=by simp_all
  have bad:(x.ty,x.f)≠(y.ty,y.f)->a.plain≠b.plain:=λh e=>h (by rw[show(a.nodes.map λn=>(n.ty,n.f))=b.nodes.map λn=>(n.ty,n.f)from(uZ e).2,Z]at N;simp_all);refine⟨A,T,g,Ai A,_,_,u,t,r,U,Ai t,_,_,k,λD=>⟨A,T,g,Ai A,_,_,u,t,r,U,Ai t,_,_,k,(c121 (z.nodesOk x X).rows (Y.nodesOk y C).rows).call ⟨_,rfl,λE=>⟨z.nodes.succ g,hJ B _ _ ⟨rfl,take_eq I N Z (Prod.ext D (of_decide_eq_true E))⟩⟩,λE=>O (bad λe=>E (decide_eq_true (uZ e).2))⟩⟩,λD=>O (bad λe=>D (uZ e).1)⟩
 .have hd:=(z.nodes.done L).2;rw[wm (by simp_all),wm (by simp_all)]at I;exact⟨by rw[decide_eq_true (plain_ext j I)],rfl⟩
end
section
variable{V V0:Mem}{d:Ds}{F:Nat}{m:Mm}{nm:KB}{args:XZ}{l:Sl}
theorem I7{F:Int}(h:Cg d m nm args F=0):An d m/\A1 d m nm args=0:=by
 grind[Cg,I6,absurd]
end
section
variable{V V0:Mem}{d:Ds}{F:Nat}{m:Mm}{nm:KB}{args:XZ}{l:Sl}
theorem Hq(u:Ds.Ok V d){V':Mem}{gs ns ls:Sl}{nd:XH}{s:St}(L:AK V V' gs ns ls nd s)(x:An d s.mm):Mm.Ok V' ⟨gs,s.g,ns,nd⟩/\(⟨gs,s.g,ns,nd⟩:Mm).plain=(s.g,s.ns):=by
 have r:(⟨gs,s.g,ns,nd⟩:Mm).plain=(s.g,s.ns):=by
  unfold Mm.plain;rw[<-L.eq]
 obtain⟨p1,A,p3,e,J⟩:=BR x.mem;have z:∀{t:XX}{vs:XZ},AE d s.mm t vs=true->∀v∈vs,Ev v:=λ{t vs} h v hv=>by
  obtain⟨j,y⟩:=uJ.1 hv;obtain⟨N,Z⟩:=C8.1 h;have Y:=(yg.1 y).1;have:=Z j _ v (yf (by omega)) y;grind[AW,Ev]
 refine⟨⟨L.glob.rows (λ_=>rfl) (by decide),z e,L.nodes.rows (λ_=>rfl) (by decide),λn O=>?_⟩,r⟩;have k:(⟨n.ty,Ah,n.f⟩:Nd)∈s.mm.nodes:=by
  unfold St.mm;rw[<-L.eq];grind
 refine⟨(L.fld n O).rows (λ_=>rfl) (by decide),?_,z (J ⟨n.ty,Ah,n.f⟩ k)⟩;have:=of_decide_eq_true (p3 ⟨n.ty,Ah,n.f⟩ k);have N:d.types.length<=9223372036854775807:=by
  have:=u.types.n_eq;have:=u.types.cap;have:=u.types.fit;omega
 grind[Ev]
theorem I8(G:An d m)(hc:A1 d m nm args=0):An d (CX d F (BG d nm) args (AV m)).st.mm:=by
 obtain⟨i,q,k,g,h⟩:=Me hc;rw[k];exact(play_snd (F:=F) (Kq G.valid G.chk) g (I5 G) (BS (KA (Kz m).symm) h)).good
end
end Go.Proofs
namespace Go.Proofs
open Go Go.Sx
def Bb(w:World):Mem:=λb=>w.heap[b]?
theorem heapM_le(w:World):(Bb w).le w:=λ_ _ h=>h
theorem KF{α β:Type}{f:α->Option β}:∀{l:List α}{r:List β},l.mapM f=some r->r.length=l.length/\∀(i:Nat)(a:α),l[i]?=some a->∃b,r[i]?=some b/\f a=some b
 |[],r,h=>by simp_all
 |x::l,r,h=>by
  simp only[List.mapM_cons,Option.bind_eq_bind,ux,Option.pure_def,zH]at h;obtain⟨b,g,t,k,rfl⟩:=h;obtain⟨u,z⟩:=KF k;grind
theorem cells_row{w:World}{a:Addr}{n:Nat}{cs:XV}(h:w.cells? 0 a n=some cs)(j:0<n):(Bb w).row a n=some cs:=by
 unfold World.cells? at h;rw[if_pos (Nat.zero_le _)]at h;obtain⟨r,J⟩:=KF h;have g:∀i,i<n->∃v,cs[i]?=some v/\w.cell? (a.add i)=some v:=λi z=>J i i (by simp[z]);obtain⟨L,-,k⟩:=g 0 j;have N:a.add 0=a:=by rfl
 rw[N]at k;unfold World.cell? at k;split at k
 .rename_i c t fr Z;split at k;.cases k
  .rename_i Y;have f:a.spot.isNone=true:=by simp_all
   have x:a.spot=none:=by simp_all
   have y:∀i,i<n->∃v,cs[i]?=some v/\c[a.off+i]?=some v:=λi z=>by
    obtain⟨v,hv,O⟩:=g i z;refine⟨v,hv,?_⟩;have e:a.add i=⟨a.block,a.off+i,none⟩:=by
     unfold Addr.add;by_cases A:i=0
     .subst A;rw[if_pos rfl];cases a with
      |mk b o s=>simp_all
     grind
    grind[World.cell?]
   have u:a.off+n<=c.size:=by
    obtain⟨v,_,O⟩:=y (n-1) (by omega);grind
   have I:cs.length=n:=by rw[r];simp
   unfold Mem.row Bb;simp only[Z];rw[if_pos ⟨f,u⟩];congr 1;apply List.ext_getElem?;grind
 .cases k
section
variable{H:Type}{enc:TypeId×Value->H}{w:World}
noncomputable abbrev TR(enc:TypeId×Value->H)(w:World)(n:Nat)(t:TypeId)(cs:XV):=uw enc xV w 0 (λ_=>true) true n t cs
theorem rd_str{n:Nat}{t:TypeId}{cs:XV}{x:DataW H×List MemPlace}(k:xV.underlying t=some .string)(h:TR enc w n t cs=some x):∃s,cs=[uS s]:=by
 cases n with
 |zero=>cases h
 |succ n=>
  unfold TR uw at h;grind
theorem rd_int{n:Nat}{t:TypeId}{cs:XV}{x:DataW H×List MemPlace}(k:xV.underlying t=some (.int .i64))(h:TR enc w n t cs=some x):∃v:Int,cs=[uI v]/\ye.min<=v/\v<=ye.max:=by
 cases n with
 |zero=>cases h
 |succ n=>
  unfold TR uw at h;grind[Lit.wf]
theorem rd_slice{α:Type}{row:α->XV}{ok:α->Prop}{sz n:Nat}{t e:TypeId}{cs:XV}{x:DataW H×List MemPlace}(J:xV.underlying t=some (.slice e))(hc:xV.cellsOf e=sz)(N:0<sz)(j:∀a,(row a).length=sz)
  (Z:∀m,m<n->∀cs x,TR enc w m e cs=some x->∃a,row a=cs/\ok a) (h:TR enc w n t cs=some x):∃(s:Sl)(xs:List α),cs=[uL s]/\Ae (Bb w) s sz (xs.map row)/\∀a∈xs,ok a:=by
 cases n with
 |zero=>cases h
 |succ n=>
  have key:∀(a:Addr)(len cap:Nat),TR enc w (n+1) t [.slice (some a) len cap]=some x->∃(xs:List α),Ae (Bb w) ⟨some a,len,cap⟩ sz (xs.map row)/\∀a∈xs,ok a:=by
   intro a len cap h;unfold TR uw at h;rw[J]at h;simp only at h;split at h;case isFalse=>cases h
   rename_i k;simp only[ux]at h;obtain⟨f,hm,-⟩:=h;obtain⟨L,Y⟩:=KF hm;have u:∀i:Fin len,∃y:α,(Bb w).row (a.add (i*sz)) sz=some (row y)/\ok y:=by
    intro i;obtain⟨b,-,r⟩:=Y i i (by simp);simp only[ux]at r;obtain⟨O,A,z⟩:=r;obtain⟨y,X,I⟩:=Z n (uv n) O _ z;grind[cells_row]
   refine⟨List.ofFn λi=>Classical.choose (u i),⟨by simp,k.2.1,by grind[maxLen],?_,?_⟩,?_⟩;.simp_all
   .grind
   grind
  have g:cs=[z0]∨∃a len cap,cs=[.slice (some a) len cap]:=by
   unfold TR uw at h;grind
  rcases g with rfl|⟨a,len,cap,rfl⟩;.exact⟨⟨none,0,0⟩,[],rfl,Ae.nil,by simp⟩
  grind
theorem EA{n:Nat}{t:TypeId}{fs:Array Field}{cs:XV}{x:DataW H×List MemPlace}(z:xV.underlying t=some (.struct fs))(h:TR enc w n t cs=some x):
  cs.length=xV.cellsOf t/\∃m,m<n/\∀(i:Nat)(f:Field),fs.toList[i]?=some f->∃y,TR enc w m f.type ((cs.drop f.offset).take (xV.cellsOf f.type))=some y:=by
 cases n with
 |zero=>cases h
 |succ n=>
  have key:cs.length=xV.cellsOf t->(∃xs,(fs.toList.mapM λf=>uw enc xV w 0 (λ_=>true) true n f.type ((cs.drop f.offset).take (xV.cellsOf f.type)))=some xs)->
    cs.length=xV.cellsOf t/\∃m,m<n+1/\∀(i:Nat)(f:Field),fs.toList[i]?=some f->∃y,TR enc w m f.type ((cs.drop f.offset).take (xV.cellsOf f.type))=some y:=by
   rintro g ⟨xs,u⟩;refine⟨g,n,uv n,λi f j=>?_⟩;obtain⟨-,r⟩:=KF u;grind
  unfold TR uw at h;rw[z]at h;split at h;all_goals first|(rename_i e;cases e;done)|(rename_i e _;cases e;done)|(rename_i e _ _;cases e;done)|(exact absurd rfl ((by assumption:∀k:Array Field,some (uu fs)=some (uu k)->False) fs))|skip
  rename_i e;cases e;split at h
  .rename_i g;simp only[Option.map_eq_some_iff]at h;obtain⟨xs,u,-⟩:=h;simp_all
  simp_all
end
section
variable{H:Type}{enc:TypeId×Value->H}{w:World}
theorem at1{cs:XV}{v:Value}{off m:Nat}{t:TypeId}(h:∃y,TR enc w m t ((cs.drop off).take (xV.cellsOf t))=some y)(hc:xV.cellsOf t=1)(hv:cs[off]?=some v):∃y,TR enc w m t [v]=some y:=by
 grind[yg,List.drop_eq_getElem_cons]
theorem DP:xV.cellsOf 9=1:=by kernel_rfl
theorem Ik:xV.cellsOf 3=1:=by kernel_rfl
theorem cl22:xV.cellsOf 22=1:=by kernel_rfl
theorem cl23:xV.cellsOf 23=1:=by kernel_rfl
theorem cl24:xV.cellsOf 24=1:=by kernel_rfl
theorem cl25:xV.cellsOf 25=1:=by kernel_rfl
theorem cl26:xV.cellsOf 26=1:=by kernel_rfl
theorem cl27:xV.cellsOf 27=1:=by kernel_rfl
theorem cl28:xV.cellsOf 28=1:=by kernel_rfl
theorem cl38:xV.cellsOf 91=1:=by kernel_rfl
theorem cl52:xV.cellsOf 70=1:=by kernel_rfl
theorem cl40:xV.cellsOf 93=4:=by kernel_rfl
theorem cl67:xV.cellsOf 97=2:=by kernel_rfl
theorem cl94:xV.cellsOf 99=2:=by kernel_rfl
theorem cl54:xV.cellsOf 72=5:=by kernel_rfl
theorem cl75:xV.cellsOf 101=5:=by kernel_rfl
theorem cl97:xV.cellsOf 103=7:=by kernel_rfl
theorem cl58:xV.cellsOf 105=6:=by kernel_rfl
theorem cl61:xV.cellsOf 175=5:=by kernel_rfl
theorem cl64:xV.cellsOf 178=5:=by kernel_rfl
theorem cl30:xV.cellsOf 30=8:=by kernel_rfl
theorem gS{m:Nat}{v:Value}(h:∃y,TR enc w m 9 [v]=some y):∃s,v=uS s:=by
 obtain⟨y,k⟩:=h;obtain⟨s,e⟩:=rd_str Tryz.underlying9 k;exact⟨s,by simpa using e⟩
theorem gI{m:Nat}{v:Value}(h:∃y,TR enc w m 3 [v]=some y):∃n:Int,v=uI n/\ye.min<=n/\n<=ye.max:=by
 obtain⟨y,k⟩:=h;obtain⟨s,e,g⟩:=rd_int vH k;exact⟨s,by simpa using e,g⟩
theorem DQ{α:Type}{row:α->XV}{ok:α->Prop}{sz m:Nat}{t e:TypeId}{v:Value}(f:xV.underlying t=some (.slice e))(hc:xV.cellsOf e=sz)(g:0<sz)(k:∀a,(row a).length=sz)
  (u:∀m',m'<m->∀cs x,TR enc w m' e cs=some x->∃a,row a=cs/\ok a) (h:∃y,TR enc w m t [v]=some y):∃(s:Sl)(xs:List α),v=uL s/\Ae (Bb w) s sz (xs.map row)/\∀a∈xs,ok a:=by
 obtain⟨y,z⟩:=h;obtain⟨s,xs,e,j,r⟩:=rd_slice f hc g k u z;grind
theorem len2{cs:XV}(h:cs.length=2):∃a b,cs=[a,b]:=by
 match cs,h with
 |[a,b],_=>simp_all
theorem len4{cs:XV}(h:cs.length=4):∃a b c d,cs=[a,b,c,d]:=by
 match cs,h with
 |[a,b,c,d],_=>simp_all
theorem len5{cs:XV}(h:cs.length=5):∃a b c d e,cs=[a,b,c,d,e]:=by
 match cs,h with
 |[a,b,c,d,e],_=>simp_all
theorem len6{cs:XV}(h:cs.length=6):∃a b c d e f,cs=[a,b,c,d,e,f]:=by
 match cs,h with
 |[a,b,c,d,e,f],_=>simp_all
theorem len7{cs:XV}(h:cs.length=7):∃a b c d e f g,cs=[a,b,c,d,e,f,g]:=by
 match cs,h with
 |[a,b,c,d,e,f,g],_=>simp_all
theorem len8{cs:XV}(h:cs.length=8):∃a b c d e f g i,cs=[a,b,c,d,e,f,g,i]:=by
 match cs,h with
 |[a,b,c,d,e,f,g,i],_=>simp_all
theorem rdFld{n:Nat}{cs:XV}{x:DataW H×List MemPlace}(h:TR enc w n 97 cs=some x):∃f:Fld,Fld.row f=cs/\True:=by
 obtain⟨g,m,-,k⟩:=EA Tryz.underlying97 h;obtain⟨a,b,rfl⟩:=len2 (g.trans cl67);obtain⟨t,rfl⟩:=gS (at1 (k 0 _ rfl) DP rfl);obtain⟨u,rfl⟩:=gS (at1 (k 1 _ rfl) DP rfl);exact⟨⟨t,u⟩,rfl,trivial⟩
theorem I9:∀(n:Nat)(cs:XV)(x:DataW H×List MemPlace),TR enc w n 93 cs=some x->∃e:E,E.row e=cs/\E.Ok (Bb w) e:=by
 intro n;induction n using yx with
 |_ n f=>
 intro cs x h;obtain⟨t,m,hm,g⟩:=EA Tryz.underlying93 h;obtain⟨a,b,c,d,rfl⟩:=len4 (t.trans cl40);obtain⟨op,rfl,u⟩:=gI (at1 (g 0 _ rfl) Ik rfl);obtain⟨nn,rfl,z⟩:=gI (at1 (g 1 _ rfl) Ik rfl);obtain⟨s,rfl⟩:=gS (at1 (g 2 _ rfl) DP rfl);obtain⟨l,k,rfl,y,j⟩:=DQ (row:=E.row) (ok:=E.Ok (Bb w)) ur cl40 (by decide) (λ_=>rfl) (λm' r=>f m' (by omega)) (at1 (g 3 _ rfl) cl38 rfl);exact⟨.mk op nn s l k,rfl,.mk y j u z⟩
theorem S.row_len:∀s:S,(S.row s).length=5:=λs=>by cases s;rfl
theorem QJ:∀(n:Nat)(cs:XV)(x:DataW H×List MemPlace),TR enc w n 101 cs=some x->∃e:S,S.row e=cs/\S.Ok (Bb w) e:=by
 intro n;induction n using yx with
 |_ n r=>
 intro cs x h;obtain⟨J,m,hm,k⟩:=EA Tryz.underlying101 h;obtain⟨a,b,c,d,e,rfl⟩:=len5 (J.trans cl75);obtain⟨op,rfl,N⟩:=gI (at1 (k 0 _ rfl) Ik rfl);obtain⟨s,rfl⟩:=gS (at1 (k 1 _ rfl) DP rfl);obtain⟨el,es,rfl,g,f⟩:=DQ (row:=E.row) (ok:=E.Ok (Bb w)) ur cl40 (by decide) (λ_=>rfl) (λm' _=>I9 m') (at1 (k 2 _ rfl) cl38 rfl);obtain⟨ll,ls,rfl,t,u⟩:=DQ (row:=S.row) (ok:=S.Ok (Bb w)) uq cl75 (by decide) S.row_len (λm' z=>r m' (by omega)) (at1 (k 3 _ rfl) cl52 rfl);obtain⟨xl,xs,rfl,y,j⟩:=DQ (row:=S.row) (ok:=S.Ok (Bb w)) uq cl75 (by decide) S.row_len (λm' z=>r m' (by omega)) (at1 (k 4 _ rfl) cl52 rfl);exact⟨.mk op s el es ll ls xl xs,rfl,.mk g f t u y j N⟩
theorem gF{m:Nat}{v:Value}(h:∃y,TR enc w m 23 [v]=some y):∃(s:Sl)(xs:XX),v=uL s/\Ae (Bb w) s 2 (xs.map Fld.row):=by
 obtain⟨s,xs,k,g,-⟩:=DQ (row:=Fld.row) (ok:=λ_=>True) xh cl67 (by decide) (λ_=>rfl) (λ_ _ _ _=>rdFld) h;grind
theorem rdTy{n:Nat}{cs:XV}{x:DataW H×List MemPlace}(h:TR enc w n 99 cs=some x):∃f:Ty,Ty.row f=cs/\Ty.Ok (Bb w) f:=by
 obtain⟨t,m,-,g⟩:=EA Tryz.underlying99 h;obtain⟨a,b,rfl⟩:=len2 (t.trans cl94);obtain⟨u,rfl⟩:=gS (at1 (g 0 _ rfl) DP rfl);obtain⟨l,k,rfl,z⟩:=gF (at1 (g 1 _ rfl) cl23 rfl);exact⟨⟨u,l,k⟩,rfl,⟨z⟩⟩
theorem rdPr{n:Nat}{cs:XV}{x:DataW H×List MemPlace}(h:TR enc w n 72 cs=some x):∃f:Pr,Pr.row f=cs/\Pr.Ok (Bb w) f:=by
 obtain⟨y,m,-,k⟩:=EA Tryz.underlying72 h;obtain⟨a,b,c,d,e,rfl⟩:=len5 (y.trans cl54);obtain⟨j,rfl⟩:=gS (at1 (k 0 _ rfl) DP rfl);obtain⟨r,J,rfl,g⟩:=gF (at1 (k 1 _ rfl) cl23 rfl);obtain⟨N,rfl⟩:=gS (at1 (k 2 _ rfl) DP rfl);obtain⟨Z,Y,rfl,t⟩:=gF (at1 (k 3 _ rfl) cl23 rfl);obtain⟨O,A,rfl,u,z⟩:=DQ (row:=S.row) (ok:=S.Ok (Bb w)) uq cl75 (by decide) S.row_len (λm' _=>QJ m') (at1 (k 4 _ rfl) cl52 rfl);exact⟨⟨j,r,J,N,Z,Y,O,A⟩,rfl,⟨g,t,u,z⟩⟩
theorem rdMs{n:Nat}{cs:XV}{x:DataW H×List MemPlace}(h:TR enc w n 103 cs=some x):∃f:Ms,Ms.row f=cs/\Ms.Ok (Bb w) f:=by
 obtain⟨J,m,-,k⟩:=EA Tryz.underlying103 h;obtain⟨a,b,c,d,e,f,g,rfl⟩:=len7 (J.trans cl97);obtain⟨z,rfl⟩:=gS (at1 (k 0 _ rfl) DP rfl);obtain⟨j,rfl⟩:=gS (at1 (k 1 _ rfl) DP rfl);obtain⟨nn,rfl,N⟩:=gI (at1 (k 2 _ rfl) Ik rfl);obtain⟨y,t⟩:=k 3 _ rfl;change TR enc w m 93 (([yb z,uS j,uI nn,d,e,f,g].drop 3).take (xV.cellsOf 93))=some y at t;rw[cl40]at t;obtain⟨x,r,u⟩:=I9 m _ _ t;simp only[uo,um,uk,uj,E.row,zP,and_true]at r;obtain⟨rfl,rfl,rfl,rfl⟩:=r;exact⟨⟨z,j,nn,x⟩,rfl,⟨u,N⟩⟩
theorem rdIv{n:Nat}{cs:XV}{x:DataW H×List MemPlace}(h:TR enc w n 105 cs=some x):∃f:Iv,Iv.row f=cs/\E.Ok (Bb w) f.x:=by
 obtain⟨J,m,-,k⟩:=EA Tryz.underlying105 h;obtain⟨a,b,d,e,f,g,rfl⟩:=len6 (J.trans cl58);obtain⟨z,rfl⟩:=gS (at1 (k 0 _ rfl) DP rfl);obtain⟨j,rfl⟩:=gS (at1 (k 1 _ rfl) DP rfl);obtain⟨y,t⟩:=k 2 _ rfl;change TR enc w m 93 (([yb z,uS j,d,e,f,g].drop 2).take (xV.cellsOf 93))=some y at t;rw[cl40]at t;obtain⟨x,r,u⟩:=I9 m _ _ t;simp only[uo,um,uk,uj,E.row,zP,and_true]at r;obtain⟨rfl,rfl,rfl,rfl⟩:=r;exact⟨⟨z,j,x⟩,rfl,u⟩
theorem rdPo{n:Nat}{cs:XV}{x:DataW H×List MemPlace}(h:TR enc w n 175 cs=some x):∃f:Po,Po.row f=cs/\E.Ok (Bb w) f.x:=by
 obtain⟨r,m,-,u⟩:=EA Tryz.underlying175 h;obtain⟨a,d,e,f,g,rfl⟩:=len5 (r.trans cl61);obtain⟨z,rfl⟩:=gS (at1 (u 0 _ rfl) DP rfl);obtain⟨y,k⟩:=u 1 _ rfl;change TR enc w m 93 (([yb z,d,e,f,g].drop 1).take (xV.cellsOf 93))=some y at k;rw[cl40]at k;obtain⟨x,j,t⟩:=I9 m _ _ k;simp only[uo,um,uk,uj,E.row,zP,and_true]at j;obtain⟨rfl,rfl,rfl,rfl⟩:=j;exact⟨⟨z,x⟩,rfl,t⟩
theorem rdBd{n:Nat}{cs:XV}{x:DataW H×List MemPlace}(h:TR enc w n 178 cs=some x):∃f:Bd,Bd.row f=cs/\E.Ok (Bb w) f.x:=by
 obtain⟨r,m,-,u⟩:=EA Tryz.underlying178 h;obtain⟨a,d,e,f,g,rfl⟩:=len5 (r.trans cl64);obtain⟨z,rfl⟩:=gS (at1 (u 0 _ rfl) DP rfl);obtain⟨y,k⟩:=u 1 _ rfl;change TR enc w m 93 (([yb z,d,e,f,g].drop 1).take (xV.cellsOf 93))=some y at k;rw[cl40]at k;obtain⟨x,j,t⟩:=I9 m _ _ k;simp only[uo,um,uk,uj,E.row,zP,and_true]at j;obtain⟨rfl,rfl,rfl,rfl⟩:=j;exact⟨⟨z,x⟩,rfl,t⟩
theorem rdDs{n:Nat}{cs:XV}{x:DataW H×List MemPlace}(h:TR enc w n 30 cs=some x):∃d:Ds,d.row=cs/\Ds.Ok (Bb w) d:=by
 obtain⟨t,m,-,k⟩:=EA Tryz.underlying30 h;obtain⟨a,b,c,d,e,f,g,i,rfl⟩:=len8 (t.trans cl30);obtain⟨u,rfl⟩:=gS (at1 (k 0 _ rfl) DP rfl);obtain⟨z,y,rfl,j,r⟩:=DQ (row:=Ty.row) (ok:=Ty.Ok (Bb w)) Tryz.underlying22 cl94 (by decide) (λ_=>rfl) (λ_ _ _ _=>rdTy) (at1 (k 1 _ rfl) cl22 rfl);obtain⟨J,N,rfl,Z⟩:=gF (at1 (k 2 _ rfl) cl23 rfl);obtain⟨Y,O,rfl,A,I⟩:=DQ (row:=Pr.row) (ok:=Pr.Ok (Bb w)) Tryz.underlying24 cl54 (by decide) (λ_=>rfl) (λ_ _ _ _=>rdPr) (at1 (k 3 _ rfl) cl24 rfl);obtain⟨L,X,rfl,B,C⟩:=DQ (row:=Ms.row) (ok:=Ms.Ok (Bb w)) Tryz.underlying25 cl97 (by decide) (λ_=>rfl) (λ_ _ _ _=>rdMs) (at1 (k 4 _ rfl) cl25 rfl);obtain⟨D,K,rfl,T,U⟩:=DQ (row:=Iv.row) (ok:=λf=>E.Ok (Bb w) f.x) Tryz.underlying26 cl58 (by decide) (λ_=>rfl) (λ_ _ _ _=>rdIv) (at1 (k 5 _ rfl) cl26 rfl);obtain⟨l6,k6,rfl,h6,o6⟩:=DQ (row:=Po.row) (ok:=λf=>E.Ok (Bb w) f.x) Tryz.underlying27 cl61 (by decide) (λ_=>rfl) (λ_ _ _ _=>rdPo) (at1 (k 6 _ rfl) cl27 rfl);obtain⟨l7,k7,rfl,h7,o7⟩:=DQ (row:=Bd.row) (ok:=λf=>E.Ok (Bb w) f.x) Tryz.underlying28 cl64 (by decide) (λ_=>rfl) (λ_ _ _ _=>rdBd) (at1 (k 7 _ rfl) cl28 rfl);exact⟨⟨u,z,y,J,N,Y,O,L,X,D,K,l6,k6,l7,k7⟩,rfl,⟨j,r,Z,A,I,B,C,T,U,h6,o6,h7,o7⟩⟩
end
end Go.Proofs
namespace Go.Proofs.YtkebnkjegieagaaGreatDoor
open Go Go.Sx Go.Proofs Go.ChangeShapes Go.WideShapes Go.ChangeAt Go.RowKit
theorem same_old{P:Program}{f:FuncId}{args:XV}{W:World}{v:Value}(h:A6 P f args (Bb W) v):Calls P f args.toArray W λe k=>e=.returned v/\k.os=W.os/\k.output=W.output/\W.heap.size<=k.heap.size/\∀b,b<W.heap.size->k.heap[b]?=W.heap[b]?:=by
 have t:Tri P f args.toArray (Bb W) λe V'=>e=.returned v/\V'=Bb W:=h;unfold Tri at t;refine Gu (t W (heapM_le W)) ?_;rintro e k ⟨V',⟨rfl,rfl⟩,g⟩;refine⟨rfl,g.os,g.out,g.size,λb u=>?_⟩;have:Bb W b=some W.heap[b]:=Array.getElem?_eq_getElem u;rw[g.le b _ this];exact this.symm
theorem Tryz.own:ownKnob xV.godebug=none:=by kernel_rfl
theorem Tryz.laidOut:laidOutB xV=true:=by kernel_rfl
theorem tab_of{W:World}(h:Lib.TabIs xV W "strings.asciiSpace" .u8 xu):Tab (Bb W):=by
 have k:xV.globalNamed "strings.asciiSpace" =some 0:=by kernel_rfl
 unfold Lib.TabIs World.var? at h;rw[k,Option.bind_some]at h;split at h
 .rename_i cs t fr g;simp only[zH]at h;exact⟨t,fr,by rw[<-h];exact g⟩
 .cases h
theorem desc_of{H:Type}{enc:TypeId×Value->H}{W:World}{v:Value}{f:DataW H}{p:List MemPlace}(h:DataW.Trod enc xV W 0 (λ_=>true) true 30 v f p):∃d:Ds,v=d.v/\Ds.Ok (Bb W) d:=by
 obtain⟨fuel,h⟩:=h;obtain⟨d,g,k⟩:=rdDs h;refine⟨d,?_,k⟩;have t:v.cells.toList.length=8:=by rw[<-g];rfl
 cases v with
 |agg cs=>
  have:cs.toList=d.row:=g.symm;show Value.agg cs=.agg d.row.toArray;rw[<-this]
 |_=>simp[Value.cells]at t
noncomputable def Mg(os:Os):World:=
 let w0:=World.holding xV os ⟨#[.cells #[.int .u16 9,.int .u16 13,.int .u16 1,.int .u16 32,.int .u16 133,.int .u16 101,.int .u16 160,.int .u16 5760,.int .u16 5600,.int .u16 8192,.int .u16 8202,.int .u16 1,.int .u16 8232,.int .u16 8233,.int .u16 1,.int .u16 8239,.int .u16 8287,.int .u16 48,.int .u16 12288,.int .u16 12288,.int .u16 1] 403,
  .cells #[.slice (some ⟨(ui xV os).heap.size,0,none⟩) 7 7,.slice none 0 0,.int .i64 2] 400],#[],[]⟩
 {w0 with heap:=(w0.heap.modify 0 fun
   |.cells _ t frozen=>.cells (xu.map λz=>vP .u8 z).toArray t frozen
   |o=>o).modify 1 fun
   |.cells _ t frozen=>.cells #[.pointer (some ⟨(ui xV os).heap.size+1,0,none⟩)] t frozen
   |o=>o}
theorem N3(os:Os)(args:XQ):laidMet xV [("unicode.White_Space",Rows.laid_unicode_White_Space),("strings.asciiSpace",Rows.laid_strings_asciiSpace)] ((Mg os).forCall (λ_ _=>0) ⟨#[],args,[]⟩).memory:=
 (LaidIn.of_run [0,1,(ui xV os).heap.size,(ui xV os).heap.size+1] 12 (by kernel_rfl) (by kernel_rfl) (by kernel_rfl) (by kernel_rfl)).met
end Go.Proofs.YtkebnkjegieagaaGreatDoor
