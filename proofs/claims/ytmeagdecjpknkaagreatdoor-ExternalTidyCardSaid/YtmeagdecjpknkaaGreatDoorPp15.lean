/- Part 15 of a proof of a law of this seat: no statement of the seat is proved here. -/
import Derived.Test.YtmeagdecjpknkaaGreatDoorPp13
import Derived.Test.YtmeagdecjpknkaaGreatDoorPp14
import Derived.Test.YtmeagdecjpknkaaGreatDoorPp12
set_option linter.unusedVariables false
set_option linter.unusedSimpArgs false
namespace Go.Proofs
open Go Go.Sx
attribute [local irreducible] Go.Sx.Tri
def fltE(e:Int):Ending:=.panicked [{ v:=.iface 201 (.agg #[.int .i64 e]),recovered:=false }]
theorem GenK.panE{ty:Nat}{vals:Operand->Value}{V:Mem}{x:Operand}{e:Int}(hx:vals x=.agg #[.int .i64 e]){R:Ending->Mem->Prop}(h:R (fltE e) V) :
  GenK Tryz.prog (.makeInterface 201 x) ty vals V fun y V1=>∃v,K.r.ok v/\y=v/\∃t x,K.cast .r v=.iface t x/\R (.panicked [{ v:=.iface t x,recovered:=false }]) V1 :=
 GenK.iface Tryz.underlying201 hx ⟨.iface 201 (.agg #[.int .i64 e]),(rfl:K.cast .r (.iface 201 (.agg #[.int .i64 e]))=_),rfl,_,_,rfl,h⟩
def qBT(d:Ds)(F tk c cm:Int)(gs ns ls:Sl):List Value:=[Go.Sx.vS d.name,d.ts.v,d.gs.v,d.ps.v,d.ms.v,d.is.v,d.qs.v,d.bs.v,gs.v,ns.v,.int .i64 F,.int .i64 tk,.int .i64 c,.int .i64 cm,ls.v]
abbrev EM(V0:Mem)(d:Ds)(p F:Nat)(V:Mem)(s:St)(c:Nat):Prop:=MA 128 V0 p (qBT d F s.tk c s.cm) V s
theorem ntE:NT 128:=by unfold NT;decide
structure ES (V0:Mem) (d:Ds) (F:Nat):Prop where
 ds:Ds.Ok V0 d
 valid:qAB d=true
 procs:∀p∈d.procs,qDe d p
 fuel:F<=4000
theorem ES.sub{V0 W:Mem}{d:Ds}{F:Nat}(h:ES V0 d F)(hs:V0.sub W):ES W d F:=⟨h.ds.sub hs,h.valid,h.procs,h.fuel⟩
def PX(V0:Mem)(d:Ds)(p F c:Nat)(r:Rx Int):Ending->Mem->Prop:=fun e V'=>match r with
 | .ok v s=>e=.returned (.int .i64 v)/\EM V0 d p F V' s c
 | .bad k s=>e=fltE k/\∃c',EM V0 d p F V' s c'
def PB(r:Rs)(V:Mem):Ending->Mem->Prop:=fun e V'=>V'=V/\e=match r with | .ok v=>.returned (.int .i64 v) | .bad k=>fltE k
section
variable{V0 V V1:Mem}{d:Ds}{p F c:Nat}{s:St}
theorem c162{k:Int}{a:Option Addr}:Tri Tryz.prog 162 #[.pointer a,.int .i64 k] V fun e V'=>e=fltE k/\V'=V:=by
 refine x162 ?_
 unfold w162
 exact GenK.panE (e:=k) (R:=fun e V'=>e=fltE k/\V'=V) rfl ⟨rfl,rfl⟩
theorem qJJ{k:Int}{a:Option Addr}{K:Mem->Prop}{R:Ending->Mem->Prop}(h:R (fltE k) V):Tri Tryz.prog 162 #[.pointer a,.int .i64 k] V fun e V'=>(e=.returned (.tuple #[])/\K V')∨∃ch,e=.panicked ch/\R e V' :=
 Tri.mono c162 fun _ _ ⟨he,hV⟩=>.inr ⟨_,he,by simp_all⟩
theorem PX.split{f:FuncId}{args:Array Value}{r:Rx Int}{K:Int->Mem->Prop}{R:Ending->Mem->Prop}(H:Tri Tryz.prog f args V (PX V0 d p F c r))(hb:∀k s c' V',r=.bad k s->EM V0 d p F V' s c'->R (fltE k) V')(ho:∀v s V',r=.ok v s->EM V0 d p F V' s c->K v V') :
  Tri Tryz.prog f args V fun e V'=>(∃v,e=.returned (.int .i64 v)/\K v V')∨∃ch,e=.panicked ch/\R e V' :=
 Tri.mono H fun e V' h=>by
  cases r with
  | ok v s=>exact .inl ⟨v,h.1,ho v s V' rfl h.2⟩
  | bad k s =>
   obtain⟨he,c',hm⟩:=h
   subst he
   exact .inr ⟨_,rfl,hb k s c' V' rfl hm⟩
theorem PB.split{f:FuncId}{args:Array Value}{r:Rs}{K:Int->Mem->Prop}{R:Ending->Mem->Prop}(H:Tri Tryz.prog f args V (PB r V))(hb:∀k,r=.bad k->R (fltE k) V)(ho:∀v,r=.ok v->K v V) :
  Tri Tryz.prog f args V fun e V'=>(∃v,e=.returned (.int .i64 v)/\K v V')∨∃ch,e=.panicked ch/\R e V' :=
 Tri.mono H fun e V' ⟨hV,he⟩=>by
  subst hV
  cases r with
  | ok v=>simp_all
  | bad k=>subst he;exact .inr ⟨_,rfl,hb k rfl⟩
theorem PX.bind{f:FuncId}{args:Array Value}{G r:Rx Int}{h:Int->St->Rx Int}{K:Int->Mem->Prop}(hG:G=r.bind h)(H:Tri Tryz.prog f args V (PX V0 d p F c r))(ho:∀v s V',r=.ok v s->EM V0 d p F V' s c->G=h v s->K v V') :
  Tri Tryz.prog f args V fun e V'=>(∃v,e=.returned (.int .i64 v)/\K v V')∨∃ch,e=.panicked ch/\PX V0 d p F c G e V' :=
 PX.split H (fun k s c' V' e hm=>by subst e;rw[hG];exact⟨rfl,c',hm⟩) fun v s V' e hm=>ho v s V' e hm (by rw[hG,e];rfl)
theorem PX.ok{G:Rx Int}{v:Int}(hG:G=.ok v s)(M:EM V0 d p F V s c):PX V0 d p F c G (.returned (.int .i64 v)) V:=by rw[hG];exact⟨rfl,M⟩
theorem PX.bad{G:Rx Int}{k:Int}(hG:G=.bad k s)(M:EM V0 d p F V s c):PX V0 d p F c G (fltE k) V:=by rw[hG];exact⟨rfl,c,M⟩
theorem PX.last{f:FuncId}{args:Array Value}{G r:Rx Int}(hG:G=r)(H:Tri Tryz.prog f args V (PX V0 d p F c r)) :
  Tri Tryz.prog f args V fun e V'=>(∃v,e=.returned (.int .i64 v)/\PX V0 d p F c G (.returned (.int .i64 v)) V')∨∃ch,e=.panicked ch/\PX V0 d p F c G e V':=by
 subst hG
 exact PX.split H (fun k s c' V' e hm=>by rw[e];exact⟨rfl,c',hm⟩) fun v s V' e hm=>by rw[e];exact⟨rfl,hm⟩
theorem PB.last{f:FuncId}{args:Array Value}{G:Rx Int}{r:Rs}(hG:G=liftR r s)(M:EM V0 d p F V s c)(H:Tri Tryz.prog f args V (PB r V)) :
  Tri Tryz.prog f args V fun e V'=>(∃v,e=.returned (.int .i64 v)/\PX V0 d p F c G (.returned (.int .i64 v)) V')∨∃ch,e=.panicked ch/\PX V0 d p F c G e V' :=
 PB.split H (fun k e=>PX.bad (by rw[hG,e];rfl) M) fun v e=>PX.ok (by rw[hG,e];rfl) M
theorem c276{b t:Nat}{s:ByteArray}(hb:V b=some (cell (.string s) t)){x:Fld}:PP 276 [x.v,pv b] V (.bool (decide (x.name=s))):=by
 refine x276 ?_
 unfold w276
 exact⟨_,qBJ hb,rfl,rfl⟩
theorem c172:IdC 172 Fld.row Fld.v 2:=idC g172
theorem c173:IdC 173 Ty.row Ty.v 2:=idC g173
theorem c196:IdC 196 Pr.row Pr.v 5:=idC g196
theorem c242{l:Sl}{xs:List Fld}(h:qAc V l 2 (xs.map Fld.row)){s:ByteArray}:PP 242 [l.v,.string s] V (.int .i64 (qGK xs s)):=by
 refine Pur.mk (x242 ?_)
 unfold w242
 intro b hb
 have hs:=Mem.sub_new hb (cell (.string s) 9)
 exact(c172 (first:=[]) (caps:=[pv b]) (h.sub hs) Tryz.call276 (fun t=>decide (t.name=s)) (fun x _=>c276 mss)).call ⟨_,rfl,rfl,hs⟩
theorem c197{b t:Nat}{s:ByteArray}(hb:V b=some (cell (.string s) t)){x:Pr}:PP 197 [x.v,pv b] V (.bool (decide (x.name=s))):=by
 refine x197 ?_
 unfold w197
 exact⟨_,qBJ hb,rfl,rfl⟩
theorem c160(h:Ds.Ok V d){s:ByteArray}:PP 160 [d.v,.string s] V (.int .i64 (qDr d s)):=by
 refine Pur.mk (x160 ?_)
 unfold w160
 intro b hb
 have hs:=Mem.sub_new hb (cell (.string s) 9)
 exact(c196 (first:=[]) (caps:=[pv b]) (h.procs.sub hs) Tryz.call197 (fun t=>decide (t.name=s)) (fun x _=>c197 mss)).call ⟨_,rfl,rfl,hs⟩
theorem c301{b t:Nat}{s:ByteArray}(hb:V b=some (cell (.string s) t)){x:Ty}:PP 301 [x.v,pv b] V (.bool (decide (x.name=s))):=by
 refine x301 ?_
 unfold w301
 exact⟨_,qBJ hb,rfl,rfl⟩
theorem c270(S:ES V0 d F)(h:EM V0 d p F V s c){nm:ByteArray}:PP 270 [pv p,.string nm] V (.int .i64 (qDx d nm)):=by
 obtain⟨gs,ns,ls,nd,hat,L⟩:=h.ex
 refine Pur.mk (x270 ?_)
 unfold w270
 refine⟨nn,nn,pnn,d.ts,qAe hat 1 1 (by simp[qBT]),fun b hb=>?_⟩
 have hs:=Mem.sub_new hb (cell (.string nm) 9)
 exact(c173 (first:=[]) (caps:=[pv b]) (S.ds.sub (L.sub.trans hs)).types Tryz.call301 (fun t=>decide (t.name=nm)) (fun x _=>c301 mss)).call ⟨_,rfl,rfl,hs⟩
theorem c274{b:Bool}:PP 274 [.bool b] V (.int .i64 (trI b)):=by
 refine x274 ?_
 unfold w274
 refine⟨fun h=>?_,fun h=>?_⟩
 ·rw[h];exact⟨rfl,rfl⟩
 ·rw[(Bool.not_eq_true b).mp h];exact⟨rfl,rfl⟩
theorem c271{n:Int}{a:Option Addr}:Tri Tryz.prog 271 #[.pointer a,.int .i64 n] V (PB (big n) V):=by
 refine Tri.mono (x271 (R:=PB (big n) V) ?_) fun _ _ h=>h
 unfold w271
 have bad:¬(-1099511627776<=n/\n<=1099511627776)->PB (big n) V (fltE 5) V:=fun h=>⟨rfl,by grind [big]⟩
 refine⟨fun h=>qJJ (bad (by omega)),fun h1=>⟨fun h=>qJJ (bad (by omega)),fun h2=>⟨rfl,?_⟩⟩⟩
 grind [big]
theorem c304{n:Int}(h:-1099511627776<=n/\n<=1099511627776):PP 304 [.int .i64 n] V (.int .i64 (if n<0 then -n else n)):=by
 refine x304 ?_
 unfold w304
 refine⟨⟨by omega,by omega⟩,GenK.max2 rfl rfl ⟨_,rfl,?_⟩⟩
 grind
theorem mul_big{a b:Int}(ha:-1099511627776<=a/\a<=1099511627776)(hb:-1099511627776<=b/\b<=1099511627776)(h0:a≠0):((1099511627776:Int).tdiv (if a<0 then -a else a)<(if b<0 then -b else b))↔¬(-1099511627776<=a*b/\a*b<=1099511627776):=by
 obtain⟨x,hx⟩:∃x:Nat,(if a<0 then -a else a)=(x:Int):=⟨a.natAbs,by split <;> omega⟩
 obtain⟨y,hy⟩:∃y:Nat,(if b<0 then -b else b)=(y:Int):=⟨b.natAbs,by split <;> omega⟩
 have hxa:x=a.natAbs:=by omega
 have hyb:y=b.natAbs:=by omega
 have hx0:0<x:=by omega
 rw[hx,hy]
 have e1:(1099511627776:Int).tdiv (x:Int)=((1099511627776 / x:Nat):Int):=by
  rfl
 rw[e1]
 have e2:(a*b).natAbs=x*y:=by rw[Int.natAbs_mul,hxa,hyb]
 have e3:(-1099511627776<=a*b/\a*b<=1099511627776)↔x*y<=1099511627776:=by omega
 rw[e3]
 have e4:y<=1099511627776 / x↔y*x<=1099511627776:=Nat.le_div_iff_mul_le hx0
 grind
theorem mul_in{a b:Int}(_:-1099511627776<=a/\a<=1099511627776)(_:-1099511627776<=b/\b<=1099511627776)(h:a=0∨(-1099511627776<=a*b/\a*b<=1099511627776)):IR (a*b):=by
 rcases h with rfl|h
 ·rw[Int.zero_mul];exact⟨by omega,by omega⟩
 ·exact⟨by omega,by omega⟩
theorem quo_wrap{a:Int}(h:-1099511627776<=a/\a<=1099511627776){b:Int}:IntKind.wrap .i64 (a.tdiv b)=a.tdiv b:=by
 have:=tdiv_in (b:=b) h
 rw[IntKind.wrap_i64];omega
theorem c275{a:Option Addr}{op v w:Int}(ho:op=9∨op=10∨op=11∨op=12∨op=13∨op=22∨op=23)(hv:-1099511627776<=v/\v<=1099511627776)(hw:-1099511627776<=w/\w<=1099511627776):Tri Tryz.prog 275 #[.pointer a,.int .i64 op,.int .i64 v,.int .i64 w] V (PB (qFr op v w) V):=by
 refine Tri.mono (x275 (R:=PB (qFr op v w) V) ?_) fun _ _ h=>h
 unfold w275
 have sp:∀{n:Int},qFr op v w=big n->Tri Tryz.prog 271 #[.pointer a,.int .i64 n] V fun e V'=>(∃u,e=.returned (.int .i64 u)/\PB (qFr op v w) V (.returned (.int .i64 u)) V')∨∃ch,e=.panicked ch/\PB (qFr op v w) V e V':=fun e=>PB.split c271 (fun k hk=>⟨rfl,by rw[e,hk]⟩) fun n hn=>⟨rfl,by rw[e,hn]⟩
 have good:∀{n:Int},qFr op v w=.ok n->PB (qFr op v w) V (.returned (.int .i64 n)) V:=fun e=>⟨rfl,by rw[e]⟩
 have bad:∀{k:Int},qFr op v w=.bad k->PB (qFr op v w) V (fltE k) V:=fun e=>⟨rfl,by rw[e]⟩
 have hI:∀{n:Int},-2199023255552<=n/\n<=2199023255552->IR n:=fun h=>⟨by omega,by omega⟩
 have wr:=quo_wrap (b:=w) hv
 refine⟨fun h=>⟨hI (by omega),sp (by grind [qFr])⟩,fun h9=>⟨fun h=>⟨hI (by omega),sp (by grind [qFr])⟩,fun h10=>⟨fun h=>?_,fun h11=>⟨fun h=>?_,fun h12=>⟨fun h=>?_,fun h13=>⟨fun h=>?_,fun h22=>?_⟩⟩⟩⟩⟩⟩
 ·have e:qFr op v w=big (v*w):=by grind [qFr]
  have fit:(-1099511627776<=v*w/\v*w<=1099511627776)->PB (qFr op v w) V (.returned (.int .i64 (v*w))) V:=fun k=>good (by grind [big])
  refine⟨fun h0=>⟨mul_in hv hw (.inl h0),fit ?_⟩,fun h0=>?_⟩
  ·simp_all
  have h0:¬v=0:=h0
  have hq:IntKind.wrap .i64 ((1099511627776:Int).tdiv (if v<0 then -v else v))=(1099511627776:Int).tdiv (if v<0 then -v else v):=quo_wrap ⟨by omega,by omega⟩
  refine(c304 hw).call ⟨_,rfl,(c304 hv).call ⟨_,rfl,by split <;> omega,?_⟩⟩
  rw[hq]
  refine⟨fun k=>qJJ (bad ?_),fun k=>?_⟩
  ·simp_all [big,if_neg,mul_big]
  simp_all [Classical.not_not,mul_big,mul_in,inr]
 ·have e:w≠0->qFr op v w=.ok (v.tdiv w):=fun k=>by grind [qFr]
  first|rw[wr] | (unfold w275_0;rw[wr])
  refine⟨fun h0=>qJJ (bad ?_),fun h0=>⟨fun _=>⟨h0,good (e h0)⟩,fun k=>absurd h k⟩⟩
  grind [qFr]
 ·have e:w≠0->qFr op v w=.ok (v.tmod w):=fun k=>by grind [qFr]
  refine⟨fun h0=>qJJ (bad ?_),fun h0=>⟨fun k=>absurd k h12,fun _=>⟨h0,good (e h0)⟩⟩⟩
  grind [qFr]
 ·exact GenK.max2 rfl rfl ⟨_,rfl,good (by grind [qFr])⟩
 ·have h23:op=23:=by
   omega
  exact GenK.min2 rfl rfl ⟨_,rfl,good (by grind [qFr])⟩
end
theorem qAF{c a b:Prop}(h:¬c)(hb:b):Br c a b:=⟨fun k=>absurd k h,fun _=>hb⟩
theorem qAQ{c a b:Prop}(h:c)(ha:a):Br c a b:=⟨fun _=>ha,fun k=>absurd h k⟩
structure Fv (V0:Mem) (q:Nat) (pr:Pr) (vals:List Int):Prop where
 ex:∃a b:Sl,V0 q=some (.cells #[a.v,b.v] 243 (0,0))/\qAc V0 a 2 (pr.vars.map Fld.row)/\qAc V0 b 1 (vals.map qAf)
theorem qEJ{V:Mem}{e:E}(he:E.Ok V e){i:Nat}{a:E}(h:e.k[i]?=some a):¬e.l.p=none/\(0:Int)<=(i:Int)/\(i:Int)<(e.l.n:Int)/\V.rowp e.l.p (i*4) 4=some [.int .i64 a.op,.int .i64 a.n,.string a.s,.slice a.l.p a.l.n a.l.c]:=by
 have hr:=he.rows
 have hn:=hr.n_eq
 have hl:=(List.getElem?_eq_some_iff.1 h).1
 obtain⟨y,-,hy,-,hl2,hp,hz,hrow⟩:=hr.get (i:=i) (by omega)
 rw[h]at hy;cases hy
 exact⟨hp,hz,by omega,hrow⟩
section
variable{V0 V V1:Mem}{d:Ds}{p F c q:Nat}{s:St}{pr:Pr}{vals:List Int}
theorem fieldT_idx{u nm t:ByteArray}(h:qBX d u nm=(t,0)):∃(j i:Nat) (tt:Ty) (f:Fld),qDx d u=(j:Int)/\d.types[j]?=some tt/\tt∈d.types/\qGK tt.fields nm=(i:Int)/\tt.fields[i]?=some f/\f.ty=t:=by
 unfold qBX at h
 cases hty:qJC d u with
 | none=>simp_all
 | some tt =>
  rw[hty]at h
  simp only at h
  split at h
  ·simp at h
  ·rename_i hl
   simp only[Prod.mk.injEq,and_true]at h
   grind [tyOf_idx,qEI,absurd,List.mem_of_getElem?]
theorem typC(S:ES V0 d F)(M:EM V0 d p F V s c)(fr:Fv V0 q pr vals)(hpo:qDe d pr)(G:qAv d s.mm)(hvs:qAi d s.mm pr.vars vals=true) :
  ∀(e:E) (t:ByteArray),VE e->E.Ok V0 e->qAr d (qAn d pr) e=(t,0)->PP 273 [pv p,pv q,e.v] V (.string t):=by
 intro e
 induction e using E.ind with
 | h e ih =>
 intro t hv he ht
 obtain⟨gs,ns,ls,nd,hat,L⟩:=M.ex
 obtain⟨fa,fb,hq0,hra0,-⟩:=fr.ex
 have hq:=L.sub _ _ hq0
 have hra:=hra0.sub L.sub
 have hd:=S.ds.sub L.sub
 have heV:=he.sub L.sub
 refine x273 ?_
 unfold w273
 have fin:∀{t':ByteArray},t'=t->(Ending.returned (.string t')=Ending.returned (.string t)/\V=V):=fun h=>⟨by rw[h],rfl⟩
 have I:∀{a:E} {u:ByteArray} {R:Ending->Mem->Prop},a∈e.k->qAr d (qAn d pr) a=(u,0)->R (.returned (.string u)) V->Tri Tryz.prog 273 #[pv p,pv q,a.v] V R:=fun hm ha hR=>(ih _ hm _ (hv.kids _ hm) (he.kids _ hm) ha).call hR
 cases kindX (sc:=qAn d pr) rfl hv ht with
 | int h hn =>
  repeat refine qAF (h ▸ (by decide)) ?_
  exact fin rfl
 | bool h hn =>
  repeat refine qAF (h ▸ (by decide)) ?_
  exact qAQ h (fin rfl)
 | nil h hn =>
  repeat refine qAF (h ▸ (by decide)) ?_
  exact qAQ h (fin rfl)
 | var h hl hne =>
  refine qAQ h ⟨nn,nn,fa,qAe hq 0 1 (by simp),(c242 hra).call ⟨_,rfl,?_⟩⟩
  rcases qIo G hvs hpo.vars hl hne with⟨i,f,v,h1,h2,h3,h4,-⟩|⟨i,f,v,h0,h1,h2,h3,h4,-⟩
  ·rw[h1]
   have hn:=hra.n_eq
   have hil:=(List.getElem?_eq_some_iff.1 h2).1
   obtain⟨y,-,hy,-,-,hp,hz,hrow⟩:=hra.get (i:=i) (by omega)
   rw[h2]at hy;cases hy
   exact qAQ (by omega) ⟨nn,nn,fa,qAe hq 0 1 (by simp),hp,hz,by omega,qAd hp,_,_,hrow,fin h4⟩
  ·rw[h0]
   have hg:=hd.globals
   have hn:=hg.n_eq
   have hil:=(List.getElem?_eq_some_iff.1 h2).1
   obtain⟨y,-,hy,-,-,hp,hz,hrow⟩:=hg.get (i:=i) (by omega)
   rw[h2]at hy;cases hy
   refine qAF (by decide) ⟨nn,nn,pnn,d.gs,qAe hat 2 1 (by simp[qBT]),nn,nn,pnn,d.gs,qAe hat 2 1 (by simp[qBT]),(c242 hg).call ⟨_,rfl,?_⟩⟩
   rw[h1]
   exact⟨qAR hat 2 0 1 (by simp[qBT]),pnn,nn,nn,hp,hz,by omega,qAd hp,_,_,hrow,fin h4⟩
 | @fld _ u a h hk ha hf =>
  have h0:e.k[0]?=some a:=by rw[hk];rfl
  obtain⟨k1,k2,k3,k4⟩:=qEJ heV h0
  obtain⟨j,i,tt,f,e1,e2,e3,e4,e5,e6⟩:=fieldT_idx hf
  repeat refine qAF (h ▸ (by decide)) ?_
  refine qAQ h ⟨nn,nn,pnn,d.ts,qAe hat 1 1 (by simp[qBT]),k1,by decide,k3,_,_,_,_,k4,I (List.mem_of_getElem? h0) ha ⟨_,rfl,qAR hat 1 0 1 (by simp[qBT]),pnn,nn,nn,(c270 S M).call ⟨_,rfl,qAR hat 1 0 1 (by simp[qBT]),pnn,nn,nn,?_⟩⟩⟩
  rw[e1]
  have hn:=hd.types.n_eq
  have hjl:=(List.getElem?_eq_some_iff.1 e2).1
  obtain⟨y,-,hy,-,-,hp,hz,hrow⟩:=hd.types.get (i:=j) (by omega)
  rw[e2]at hy;cases hy
  have hfs:=(hd.typesOk tt e3).fields
  have hn2:=hfs.n_eq
  have hil:=(List.getElem?_eq_some_iff.1 e5).1
  obtain⟨y,-,hy,-,-,hp2,hz2,hrow2⟩:=hfs.get (i:=i) (by omega)
  rw[e5]at hy;cases hy
  refine⟨hp,hz,by omega,_,_,hrow,(c242 hfs).call ⟨_,rfl,?_⟩⟩
  rw[e4]
  exact⟨hp2,hz2,by omega,qAd hp2,_,_,hrow2,fin e6⟩
 | new h hn =>
  grind
 | @call pr' i h hc hr =>
  repeat refine qAF (h ▸ (by decide)) ?_
  refine qAQ h ⟨nn,nn,pnn,d.ps,qAe hat 3 1 (by simp[qBT]),nn,nn,d.name,d.ts,d.gs,d.ps,d.ms,d.is,d.qs,d.bs,qAe hat 0 8 (by simp[qBT]),(c160 hd).call ⟨_,rfl,qAR hat 3 0 1 (by simp[qBT]),pnn,nn,nn,?_⟩⟩
  rw[hc.idx]
  have hn:=hd.procs.n_eq
  have hil:=(List.getElem?_eq_some_iff.1 hc.at_).1
  obtain⟨y,-,hy,-,-,hp,hz,hrow⟩:=hd.procs.get (i:=i) (by omega)
  rw[hc.at_]at hy;cases hy
  exact⟨hp,hz,by omega,qAd hp,_,_,_,_,_,hrow,fin rfl⟩
 | @neg a h hk ha =>
  repeat refine qAF (h ▸ (by decide)) ?_
  exact fin rfl
 | @not a h hk ha =>
  repeat refine qAF (h ▸ (by decide)) ?_
  exact qAQ h (fin rfl)
 | @log a h hk ha =>
  repeat refine qAF (h ▸ (by decide)) ?_
  exact fin rfl
 | @and a b h hk ha hb =>
  repeat refine qAF (h ▸ (by decide)) ?_
  exact qAQ h (fin rfl)
 | @or a b h hk ha hb =>
  repeat refine qAF (h ▸ (by decide)) ?_
  exact qAQ h (fin rfl)
 | @cond a b c _ u w h hk ha hb hc hu hw htt =>
  have h1:e.k[1]?=some b:=by rw[hk];rfl
  have h2:e.k[2]?=some c:=by rw[hk];rfl
  obtain⟨k1,k2,k3,k4⟩:=qEJ heV h1
  obtain⟨l1,l2,l3,l4⟩:=qEJ heV h2
  repeat refine qAF (h ▸ (by decide)) ?_
  refine qAQ h ⟨k1,by decide,k3,_,_,_,_,k4,I (List.mem_of_getElem? h1) hb ⟨_,rfl,fun hE=>⟨l1,by decide,l3,_,_,_,_,l4,I (List.mem_of_getElem? h2) hc ⟨_,rfl,fin ?_⟩⟩,fun hE=>fin ?_⟩⟩
  ·grind [qKJ]
  grind [qKJ]
 | @eq a b u w h hk ha hb hf =>
  rcases h with h|h
  ·repeat refine qAF (h ▸ (by decide)) ?_
   exact qAQ h (fin rfl)
  ·repeat refine qAF (h ▸ (by decide)) ?_
   exact qAQ h (fin rfl)
 | @cmp a b h hk ha hb =>
  rcases h with h|h
  ·repeat refine qAF (h ▸ (by decide)) ?_
   exact qAQ h (fin rfl)
  ·repeat refine qAF (h ▸ (by decide)) ?_
   exact qAQ h (fin rfl)
 | @ari a b h hk ha hb =>
  rcases h with h|h|h|h|h|h|h
  all_goals
   repeat refine qAF (h ▸ (by decide)) ?_
   exact fin rfl
theorem lens12(h:qAB d=true):d.globals.length<=8/\∀t∈d.types,t.fields.length<=12:=by
 grind [qAB,qDg,tyB]
theorem lens_of_args(hp:∀p∈d.procs,qDe d p){i:Nat}(h:d.procs[i]?=some pr):pr.params.length<=6/\pr.locals.length<=12:=(hp pr (List.mem_of_getElem? h)).lens
theorem c243(M:EM V0 d p F V s c){k a f:Int}(hfit:s.lg.length+1<=2147483648):Tri Tryz.prog 243 #[pv p,.int .i64 k,.int .i64 a,.int .i64 f] V fun e V'=>e=.returned (.tuple #[])/\EM V0 d p F V' (s.note (k,a,f)) c:=by
 obtain⟨gs,ns,ls,nd,hat,L⟩:=M.ex
 refine x243 ?_
 unfold w243
 refine⟨nn,nn,ls,qAe hat 14 1 (by simp[qBT]),fun tb htb=>L.note (a:=(k,a,f)) htb rfl rfl hfit fun s' V' L' hk=>⟨s',rfl,nn,nn,?_⟩⟩
 have hat':=hk _ _ hat (notBlk hat ntE L.log (.inr (.inr rfl)))
 refine StT.at2 (off:=14) hat' (by simp[qBT]) ⟨rfl,MA.set (row':=qBT d F s.tk c s.cm) ntE M.p0 hat' L' rfl rfl rfl rfl⟩
theorem c240(hF:F<=4000)(M:EM V0 d p F V s c):Tri Tryz.prog 240 #[pv p] V fun e V'=>(s.tk<F/\e=.returned (.tuple #[])/\EM V0 d p F V' { s with tk:=s.tk+1 } c)∨(F<=s.tk/\e=fltE 20/\V'=V):=by
 obtain⟨gs,ns,ls,nd,hat,L⟩:=M.ex
 refine x240 ?_
 unfold w240
 refine⟨nn,nn,_,qAe hat 11 1 (by simp[qBT]),nn,nn,_,qAe hat 10 1 (by simp[qBT]),fun h=>qJJ (.inr ⟨by omega,rfl,rfl⟩),fun h=>⟨nn,nn,_,qAe hat 11 1 (by simp[qBT]),⟨by omega,by omega⟩,nn,nn,StT.at2 (off:=11) hat (by simp[qBT]) (.inl ⟨by omega,rfl,?_⟩)⟩⟩
 exact MA.set (row':=qBT d F ((s.tk+1:Nat):Int) c s.cm) ntE M.p0 hat L rfl rfl rfl rfl
theorem c244(S:ES V0 d F)(M:EM V0 d p F V s c){k j:Nat}{fs:List Int}{tt:Ty}(hk:s.ns[k]?=some ((j:Int),fs))(hj:d.types[j]?=some tt){nm:ByteArray}:PP 244 [pv p,.int .i64 ((k:Int)+1),.string nm] V (.int .i64 (qGK tt.fields nm)):=by
 obtain⟨gs,ns,ls,nd,hat,L⟩:=M.ex
 refine x244 ?_
 unfold w244
 have hd:=S.ds.sub L.sub
 have hnR:=L.nodes.rows (fun _=>rfl) (by decide)
 have hnn:=hnR.n_eq
 obtain⟨sl,hsl⟩:=L.at_ hk
 have hkl:=(List.getElem?_eq_some_iff.1 hsl).1
 obtain⟨y,-,hy,-,-,hp,hz,hrow⟩:=hnR.get (i:=k) (by omega)
 rw[hsl]at hy;cases hy
 have hI:IR ((k:Int)):=⟨by omega,by have:=(hnR.succ (i:=k) (by omega)).2;omega⟩
 have hn:=hd.types.n_eq
 have hjl:=(List.getElem?_eq_some_iff.1 hj).1
 obtain⟨y,-,hy,-,-,hp2,hz2,hrow2⟩:=hd.types.get (i:=j) (by omega)
 rw[hj]at hy;cases hy
 refine⟨nn,nn,pnn,d.ts,qAe hat 1 1 (by simp[qBT]),nn,nn,pnn,ns,qAe hat 9 1 (by simp[qBT]),?_⟩
 rw[show ((k:Int)+1-1)=(k:Int) by omega]
 exact⟨hI,hp,hz,by omega,qAd hp,_,_,hrow,hp2,hz2,(show (j:Int)<d.ts.n by omega),qAd hp2,_,_,hrow2,(c242 (hd.typesOk tt (List.mem_of_getElem? hj)).fields).call ⟨_,rfl,rfl,rfl⟩⟩
end
section
variable{V0 V V1:Mem}{d:Ds}{p F c q:Nat}{s:St}{pr:Pr}{vals:List Int}
def BW(n:Nat)(s:St):Prop:=s.lg.length+s.cm+n<=4000*s.tk
theorem BW.next{n m:Nat}{s s':St}(h:BW (n+m) s)(g:Gr F n s s'):BW m s':=by have:=g.w;unfold BW at *;omega
theorem BW.le{n m:Nat}{s:St}(h:BW n s)(hn:m<=n):BW m s:=by unfold BW at *;omega
structure Cx (V0:Mem) (d:Ds) (p F c q:Nat) (pr:Pr) (vals:List Int) (n m:Nat) (V:Mem) (s:St):Prop where
 S:ES V0 d F
 fr:Fv V0 q pr vals
 po:qDe d pr
 G:qAv d s.mm
 hv:qAi d s.mm pr.vars vals=true
 M:EM V0 d p F V s c
 tk:s.tk<=F
 n:F<n+s.tk
 w:BW m s
theorem Cx.fit{n m:Nat}(X:Cx V0 d p F c q pr vals n (m+1) V s):s.lg.length+1<=2147483648:=by
 have h1:=X.w;have h2:=X.tk;have h3:=X.S.fuel;grind [BW]
theorem Cx.next{n m k:Nat}{V':Mem}{s':St}(X:Cx V0 d p F c q pr vals n (m+k) V s)(g:Gr F m s s')(G:qAv d s'.mm)(M:EM V0 d p F V' s' c):Cx V0 d p F c q pr vals n k V' s' :=
 ⟨X.S,X.fr,X.po,G,qAo (fun h=>g.right h) X.hv,M,g.fu X.tk,by have:=g.tk;have:=X.n;omega,X.w.next g⟩
theorem Cx.le{n m k:Nat}(X:Cx V0 d p F c q pr vals n m V s)(h:k<=m):Cx V0 d p F c q pr vals n k V s:=⟨X.S,X.fr,X.po,X.G,X.hv,X.M,X.tk,X.n,X.w.le h⟩
variable(d p F) in
def CallC(n:Nat):Prop:=∀(V0 V:Mem) (s:St) (c i:Nat) (pr:Pr) (args:List Int) (l:Sl),ES V0 d F->d.procs[i]?=some pr->qAv d s.mm->qAi d s.mm pr.params args=true->qAc V0 l 1 (args.map qAf)->EM V0 d p F V s c->s.tk<=F->F<n+s.tk->BW 0 s ->
 Tri Tryz.prog 116 #[pv p,pr.v,l.v] V (PX V0 d p F c (qEl d (qGa d F n) c i args s))
variable(d p F) in
def ExprC(n:Nat):Prop:=∀(e:E) (t:ByteArray) (V0 V:Mem) (s:St) (c q:Nat) (pr:Pr) (vals:List Int),Cx V0 d p F c q pr vals n (szE e) V s->VE e->E.Ok V0 e->qAr d (qAn d pr) e=(t,0) ->
 Tri Tryz.prog 241 #[pv p,pv q,e.v] V (PX V0 d p F c (evX d (qEl d (qGa d F n) c) pr vals e s))
theorem qHW{g n:Nat}(hg:V g=none)(hn:n<=2147483648):Sx.Own V (V.set g (.cells (madeCells (Value.int .i64 0).cells (n*1)) 3 (0,0))) 3 1 ⟨some ⟨g,0,none⟩,n,n⟩ ((List.replicate n (0:Int)).flatMap qAf):=by
 have e:(madeCells (Value.int .i64 0).cells (n*1)).toList=(List.replicate n (0:Int)).flatMap qAf:=by rw[Nat.mul_one,qLd,qBj,List.map_replicate]
 refine⟨Mem.sub_new hg _,by rw[qBj];simp,.inr ⟨g,_,rfl,hg,Mem.set_same _ _ _,Nat.le_refl _,by simp only[maxLen];omega,by rw[size_madeCells],?_⟩⟩
 grind [List.take_of_length_le,qBj]
theorem mk31{ty:Nat}{x y:Operand}{vals:Operand->Value}{n:Nat}(hx:vals x=.int .i64 n)(hy:vals y=.int .i64 n)(hn:n<=2147483648){q:Value->Mem->Prop}(hq:∀g,V g=none->q (.slice (sa g) n n) (V.set g (.cells (madeCells (Value.int .i64 0).cells (n*1)) 3 (0,0)))):GenK Tryz.prog (.makeSlice 31 x y) ty vals V q :=
 GenK.make (z:=.int .i64 0) (i:=ti 3) Tryz.underlying31 (by kernel_rfl) (by kernel_rfl) (by kernel_rfl) (of_decide_eq_true (by kernel_rfl)) hx hy hn hq
theorem RxP.got{α:Type}{n:Nat}{s s':St}{r:Rx α}{v:α}{Q:α->St->Prop}(h:RxP d F n s r Q)(e:r=.ok v s'):qAv d s'.mm/\Gr F n s s'/\Q v s':=by
 subst e;exact⟨h.good,h.gr,h.q _ _ rfl⟩
theorem callC{n:Nat}(hR:CallC d p F n){e:E}{pr':Pr}{i:Nat}(X:Cx V0 d p F c q pr vals n (szE e) V s)(he:E.Ok V0 e)(hc:CallK d (qAn d pr) e pr' i)(hv:VE e)
  (hE:∀a∈e.k,∀(u:ByteArray) (W V':Mem) (s':St),V0.sub W->Cx W d p F c q pr vals n (szE a) V' s'->qAr d (qAn d pr) a=(u,0)->Tri Tryz.prog 241 #[pv p,pv q,a.v] V' (PX W d p F c (evX d (qEl d (qGa d F n) c) pr vals a s'))) :
  Tri Tryz.prog 245 #[pv p,pv q,e.v] V (PX V0 d p F c ((seqX (e.k.map (evX d (qEl d (qGa d F n) c) pr vals)) [] s).bind fun l st=>qEl d (qGa d F n) c (i:Int) l st)):=by
 obtain⟨f,hf⟩:∃f,f=evX d (qEl d (qGa d F n) c) pr vals:=⟨_,rfl⟩
 obtain⟨G,hG⟩:∃G:Rx Int,G=(seqX (e.k.map f) [] s).bind fun l st=>qEl d (qGa d F n) c (i:Int) l st:=⟨_,rfl⟩
 rw[<- hf,<- hG]
 have hcs:=qFk X.S.procs (qGQ (F:=F) X.S.procs n) c
 have snd:∀{a:E} {u:ByteArray} {s1:St} {m:Nat},a∈e.k->qAr d (qAn d pr) a=(u,0)->qAv d s1.mm->Gr F m s s1->RxP d F (szE a) s1 (f a s1) fun v s'=>qBV d s'.mm u v:=fun hm ha G1 g1=>by
  rw[hf];exact ev_snd X.S.procs hcs X.po _ _ _ (hv.kids _ hm) ha G1 (qAo (fun h=>g1.right h) X.hv)
 have hkn:=qEA X.S.procs hc.at_
 have hsz:=szE_eq e
 refine Tri.mono (x245 (R:=PX V0 d p F c G) ?_) fun _ _ h=>h
 unfold w245
 refine qFt (mk:=fun s:Sl=>.slice s.p s.n s.c) (b0:=⟨none,0,0⟩) qBc e.k.length (fun j sl V1=>∃W acc s1,V0.sub W/\Sx.Own V0 W 3 1 sl (acc.flatMap qAf)/\EM W d p F V1 s1 c/\acc.length=j/\qAv d s1.mm/\Gr F ((e.k.take j).map szE).sum s s1/\qAi d s1.mm (pr'.params.take j) acc=true /\
   seqX (e.k.map f) [] s=seqX ((e.k.drop j).map f) acc s1) ⟨V0,[],s,Mem.sub.refl _,Own.nil (Mem.sub.refl _) _ _,X.M,rfl,X.G,by simpa using Gr.refl s,qAG.2 ⟨rfl,fun j f v h=>by simp at h⟩,rfl⟩ ?_
 rintro j sl V1 J hj ⟨W,acc,s1,hW,ho,M1,hacc,G1,g1,ha1,hseq⟩ hJ
 have heW:=(he.sub hW).sub M1.sub
 refine⟨fun hlt=>?_,fun hge=>?_⟩
 ·obtain⟨a,ham,ha,hdr,hjl,hp,hz,hrow⟩:=heW.rows.get hlt
  have hjp:j<pr'.params.length:=by rw[<- hc.len];exact hjl
  obtain⟨u,hu,hfit⟩:=hc.fit j a _ ha (List.getElem?_eq_getElem hjp)
  have hsum:((e.k.take (j+1)).map szE).sum=((e.k.take j).map szE).sum+szE a:=by grind
  have hall:((e.k.take (j+1)).map szE).sum<=(e.k.map szE).sum:=by
   have:=congrArg (fun l=>(l.map szE).sum) (List.take_append_drop (j+1) e.k)
   grind
  have X1:Cx W d p F c q pr vals n (szE a) V1 s1:=by
   have X':=X.le (k:=((e.k.take j).map szE).sum+szE a) (by omega)
   refine⟨X.S.sub hW,?_,X.po,G1,qAo (fun h=>g1.right h) X.hv,M1,g1.fu X.tk,by have:=g1.tk;have:=X.n;omega,X'.w.next g1⟩
   obtain⟨a',b',h1,h2,h3⟩:=X.fr.ex
   exact⟨a',b',hW _ _ h1,h2.sub hW,h3.sub hW⟩
  rw[hdr,List.map_cons]at hseq
  have hseq':seqX (e.k.map f) [] s=(f a s1).bind fun v st=>seqX ((e.k.drop (j+1)).map f) (acc++[v]) st:=hseq
  refine⟨hp,hz,hlt,_,_,_,_,hrow,?_⟩
  have H:=hE a ham u W V1 s1 hW X1 hu
  rw[<- hf]at H
  refine PX.split H (fun k s2 c' V2 e2 M2=>?_) fun v s2 V2 e2 M2=>fun tb htb=>?_
  ·rw[hG,hseq',e2]
   exact⟨rfl,c',M2.narrow hW⟩
  obtain⟨G2,g2,hv2⟩:=(snd ham hu G1 g1).got e2
  have hlen:acc.length<=2000:=by
   have hl:=lens_of_args X.S.procs hc.at_
   omega
  have ho2:Sx.Own V0 V2 3 1 sl (acc.flatMap qAf):=Own.moveB ho (hW.trans M2.sub) fun g cur _ hg=>M2.sub _ _ hg
  refine qFO (s:=sl) (u:=⟨some ⟨tb,0,none⟩,1,1⟩) (xs:=acc) (ys:=[v]) rfl rfl (ho2.but.new htb (.cells #[.int .i64 v] 3 (0,0))) (qKX mss) (by simp;omega) fun o3 V3 ho3=>⟨o3,rfl,heW.rows.succ hlt,?_⟩
  obtain⟨W',hW',M3,ho4⟩:=M2.beside hW ho ho3
  refine hJ hjl _ _ ⟨W',acc++[v],s2,hW',ho4,M3,by simp_all,G2,by rw[hsum];exact g1.trans g2,?_,by rw[hseq',e2];rfl⟩
  rw[List.take_add_one,List.getElem?_eq_getElem hjp]
  refine qEV (qAo (fun h=>g2.right h) ha1) (qAG.2 ⟨rfl,fun k f w hf hw=>?_⟩)
  cases k with
  | zero =>
   simp at hf hw;subst hf;subst hw
   exact(qBu X.S.valid (hkn _ (List.getElem_mem _))).1 (qCr X.S.valid hfit hv2)
  | succ k=>simp at hf
 ·have hdn:=(heW.rows.done hge).2
  rw[List.take_of_length_le hdn]at g1
  rw[List.take_of_length_le (by rw[<- hc.len];exact hdn)]at ha1
  rw[List.drop_eq_nil_of_le hdn]at hseq
  have hG1:G=qEl d (qGa d F n) c (i:Int) acc s1:=by rw[hG,hseq];rfl
  obtain⟨gs,ns,ls,nd,hat,L⟩:=M1.ex
  have hd:=(X.S.sub hW).ds.sub L.sub
  refine⟨nn,nn,pnn,d.ps,qAe hat 3 1 (by simp[qBT]),nn,nn,d.name,d.ts,d.gs,d.ps,d.ms,d.is,d.qs,d.bs,qAe hat 0 8 (by simp[qBT]),(c160 hd).call ⟨_,rfl,qAR hat 3 0 1 (by simp[qBT]),pnn,nn,nn,?_⟩⟩
  rw[hc.idx]
  have hn:=hd.procs.n_eq
  have hil:=(List.getElem?_eq_some_iff.1 hc.at_).1
  obtain⟨y,-,hy,-,-,hp,hz,hrow⟩:=hd.procs.get (i:=i) (by omega)
  rw[hc.at_]at hy;cases hy
  have X':=X.le (k:=(e.k.map szE).sum+0) (by omega)
  refine⟨hp,hz,by omega,_,_,_,_,_,hrow,PX.split (hR W V1 s1 c i pr' acc sl (X.S.sub hW) hc.at_ G1 ha1 (ho.rows (fun _=>rfl) (by decide)) M1 (g1.fu X.tk) (by have:=g1.tk;have:=X.n;omega) (X'.w.next g1)) (fun k s2 c' V2 e2 M2=>?_) fun v s2 V2 e2 M2=>?_⟩
  ·rw[hG1,e2];exact⟨rfl,c',M2.narrow hW⟩
  ·rw[hG1,e2];exact⟨rfl,M2.narrow hW⟩
end
section
variable{V0 V V1:Mem}{d:Ds}{p F c q:Nat}{s:St}{pr:Pr}{vals:List Int}
theorem gAt{V:Mem}{gs:Sl}{l:List Int}(h:qAc V gs 1 (l.map qAf)){i:Nat}{v:Int}(hv:l[i]?=some v):¬gs.p=none/\(0:Int)<=(i:Int)/\(i:Int)<(gs.n:Int)/\V.rowp gs.p (i*1) 1=some [.int .i64 v]:=by
 have hn:=h.n_eq
 have hl:=(List.getElem?_eq_some_iff.1 hv).1
 obtain⟨y,-,hy,-,hl2,hp,hz,hrow⟩:=h.get (i:=i) (by omega)
 rw[hv]at hy;cases hy
 exact⟨hp,hz,by omega,hrow⟩
theorem nodeAt(M:EM V0 d p F V s c){k i:Nat}{ty v:Int}{fs:List Int}(hk:s.ns[k]?=some (ty,fs))(hv:fs[i]?=some v):∃gs ns ls nd sl,V p=some (.cells (qBT d F s.tk c s.cm gs ns ls).toArray 128 (0,0))/\Lay V0 V gs ns ls nd s/\nd[k]?=some ⟨ty,sl,fs⟩/\IR (k:Int) /\
  ¬ns.p=none/\(0:Int)<=(k:Int)/\(k:Int)<(ns.n:Int)/\V.rowp ns.p (k*2) 2=some [.int .i64 ty,.slice sl.p sl.n sl.c]/\¬sl.p=none/\(0:Int)<=(i:Int)/\(i:Int)<(sl.n:Int)/\V.rowp sl.p (i*1) 1=some [.int .i64 v]:=by
 obtain⟨gs,ns,ls,nd,hat,L⟩:=M.ex
 have hnR:=L.nodes.rows (fun _=>rfl) (by decide)
 have hnn:=hnR.n_eq
 obtain⟨sl,hsl⟩:=L.at_ hk
 have hkl:=(List.getElem?_eq_some_iff.1 hsl).1
 obtain⟨y,-,hy,-,-,hp,hz,hrow⟩:=hnR.get (i:=k) (by omega)
 rw[hsl]at hy;cases hy
 have hI:IR ((k:Int)):=⟨by omega,by have:=(hnR.succ (i:=k) (by omega)).2;omega⟩
 obtain⟨g1,g2,g3,g4⟩:=gAt ((L.fld _ (List.mem_of_getElem? hsl)).rows (fun _=>rfl) (by decide)) hv
 exact⟨gs,ns,ls,nd,sl,hat,L,hsl,hI,hp,hz,by omega,hrow,g1,g2,g3,g4⟩
theorem exprC{n:Nat}(hR:CallC d p F n):ExprC d p F n:=by
 intro e
 induction e using E.ind with
 | h e ih =>
 intro t V0 V s c q pr vals X hv he ht
 obtain⟨gs,ns,ls,nd,hat,L⟩:=X.M.ex
 obtain⟨fa,fb,hq0,hra0,hrb0⟩:=X.fr.ex
 have hq:=L.sub _ _ hq0
 have hd:=X.S.ds.sub L.sub
 have heV:=he.sub L.sub
 obtain⟨f,hf⟩:∃f,f=evX d (qEl d (qGa d F n) c) pr vals:=⟨_,rfl⟩
 obtain⟨G,hG0⟩:∃G:Rx Int,G=qDz d (qEl d (qGa d F n) c) pr vals (intB d (qAn d pr) e.k) e.op e.n e.s (e.k.map f) s:=⟨_,rfl⟩
 rw[evX_eq,<- hf,<- hG0]
 have hcs:=qFk X.S.procs (qGQ (F:=F) X.S.procs n) c
 have hsz:=szE_eq e
 have K:∀{i:Nat} {a:E},e.k[i]?=some a->qFR (e.k.map f) i=f a:=fun h=>kidX_at h
 have kid:∀{i:Nat} {a:E} {u:ByteArray} {V1:Mem} {s1:St},e.k[i]?=some a->qAr d (qAn d pr) a=(u,0)->Cx V0 d p F c q pr vals n (szE a) V1 s1->Tri Tryz.prog 241 #[pv p,pv q,.agg #[.int .i64 a.op,.int .i64 a.n,.string a.s,.slice a.l.p a.l.n a.l.c]] V1 (PX V0 d p F c (f a s1)):=fun {i a u V1 s1} h0 ha X1=>by
  have hm:=List.mem_of_getElem? h0
  rw[hf]
  exact ih a hm u V0 V1 s1 c q pr vals X1 (hv.kids a hm) (he.kids a hm) ha
 have go:∀{i:Nat} {a:E} {u:ByteArray} {s1 s2:St} {V1 V2:Mem} {m k:Nat} {v:Int},e.k[i]?=some a->qAr d (qAn d pr) a=(u,0)->Cx V0 d p F c q pr vals n m V1 s1->szE a+k<=m->f a s1=.ok v s2->EM V0 d p F V2 s2 c->Cx V0 d p F c q pr vals n k V2 s2/\qBV d s2.mm u v:=fun {i a u s1 s2 V1 V2 m k v} h0 ha X1 hm e2 M2=>by
  have hmem:=List.mem_of_getElem? h0
  have P:=ev_snd X.S.procs hcs X.po a u s1 (hv.kids a hmem) ha X1.G X1.hv
  rw[hf]at e2
  obtain⟨G2,g2,q2⟩:=P.got e2
  exact⟨(X1.le hm).next g2 G2 M2,q2⟩
 have s1':∀{a:E},e.k=[a]->szE e=szE a+1:=fun h=>by rw[hsz,h];simp;omega
 have s2':∀{a b:E},e.k=[a,b]->szE e=szE a+szE b+1:=fun h=>by rw[hsz,h];simp;omega
 have s3':∀{a b c:E},e.k=[a,b,c]->szE e=szE a+szE b+szE c+1:=fun h=>by rw[hsz,h];simp;omega
 refine Tri.mono (x241 (R:=PX V0 d p F c G) ?_) fun _ _ h=>h
 have two:∀{a b:E} {u w':ByteArray},(9<=e.op/\e.op<=23/\e.op≠18/\e.op≠19/\e.op≠20/\e.op≠21)->e.k=[a,b]->qAr d (qAn d pr) a=(u,0)->qAr d (qAn d pr) b=(w',0)->(e.op≠14->e.op≠15->u=qAV/\w'=qAV) ->
   w241 (sa p) (sa q) e.op e.n e.s e.l V (PX V0 d p F c G):=by
  intro a b u w' h hk ha hb hint
  have h0:e.k[0]?=some a:=by rw[hk];rfl
  have h1:e.k[1]?=some b:=by rw[hk];rfl
  have hG:=hG0
  rw[cXTwo h,K h0,K h1]at hG
  obtain⟨k1,k2,k3,k4⟩:=qEJ heV h0
  unfold w241
  have hs:=s2' hk
  refine qAF (by omega) (qAF (by omega) (qAF (by omega) (qAF (by omega) (qAF (by omega) (qAF (by omega) (qAF (by omega) (qAF (by omega) (qAF (by omega) (qAF (by omega) (qAF (by omega) (qAF (by omega) (qAF (by omega) ?_))))))))))))
  refine⟨k1,by decide,k3,_,_,_,_,k4,PX.bind hG (kid h0 ha (X.le (by omega))) fun v s1 V1 e1 M1 hG1=>?_⟩
  obtain⟨X1,hv1⟩:=go (k:=szE b+1) h0 ha X (by omega) e1 M1
  obtain⟨l1,l2,l3,l4⟩:=qEJ (he.sub M1.sub) h1
  refine⟨l1,by decide,l3,_,_,_,_,l4,PX.bind hG1 (kid h1 hb (X1.le (by omega))) fun w s2 V2 e2 M2 hG2=>?_⟩
  obtain⟨X2,hv2⟩:=go (k:=1) h1 hb X1 (by omega) e2 M2
  have g2:=((ev_snd X.S.procs hcs X.po b w' s1 (hv.kids b (List.mem_of_getElem? h1)) hb X1.G X1.hv).got (by rw[hf]at e2;exact e2)).2.1
  have hv1:=g2.val hv1
  obtain⟨gs2,ns2,ls2,nd2,hat2,L2⟩:=M2.ex
  obtain⟨m1,m2,m3,m4⟩:=qEJ (he.sub M2.sub) h0
  have hcm:s2.cm+1<=16000000:=by have h1:=X2.w;have h2:=X2.tk;have h3:=X2.S.fuel;unfold BW at h1;omega
  have hib:intB d (qAn d pr) e.k=decide (u=qAV):=by rw[hk];show decide ((qAr d (qAn d pr) a).1=qAV)=_;rw[ha]
  rw[hib]at hG2
  have ty:=typC (F:=F) X2.S M2 X2.fr X2.po X2.G X2.hv a u (hv.kids a (List.mem_of_getElem? h0)) (he.kids a (List.mem_of_getElem? h0)) ha
  have hM:EM V0 d p F (V2.set p (.cells (qBT d F s2.tk c ((s2.cm+1:Nat):Int) gs2 ns2 ls2).toArray 128 (0,0))) { s2 with cm:=s2.cm+1 } c:=MA.set (row':=qBT d F s2.tk c ((s2.cm+1:Nat):Int)) ntE M2.p0 hat2 L2 rfl rfl rfl rfl
  have yes:∀{x:Int},(e.op=16∨e.op=17∨((e.op=14∨e.op=15)/\u=qAV))->qFr e.op v w=.ok x->G=.ok x { s2 with cm:=s2.cm+1 }:=fun hc hx=>by
   rw[hG2,hx];unfold cntX;rw[if_pos (by simpa using hc)];rfl
  have no:∀{x:Int},¬(e.op=16∨e.op=17∨((e.op=14∨e.op=15)/\u=qAV))->qFr e.op v w=.ok x->G=.ok x s2:=fun hc hx=>by
   rw[hG2,hx];unfold cntX;rw[if_neg (by simpa using hc)];rfl
  have eqB:∀{x:Bool},(e.op=14∨e.op=15)->qFr e.op v w=.ok (trI x)->((decide (v=w))==(decide (e.op=14)))=x->_:=fun {x} ho hx hb=>by
   refine(⟨m1,by decide,m3,_,_,_,_,m4,ty.call ⟨_,rfl,fun hi=>⟨nn,nn,_,qAe hat2 13 1 (by simp[qBT]),⟨by omega,by omega⟩,nn,nn,StT.at2 (off:=13) hat2 (by simp[qBT]) ?_⟩,fun hi=>?_⟩⟩:¬e.l.p=none/\(0:Int)<=(0:Int)/\0<(e.l.n:Int)/\∃v16 v17 v18 v19,V2.rowp e.l.p ((0:Int).toNat*4) 4=some [uI v16,uI v17,uS v18,uL v19] /\
    TT 273 #[uP (sa p),uP (sa q),uA #[uI v16,uI v17,uS v18,uL v19]] V2 fun e' V3=>∃v20,e'=rV (uS v20) /\
    Br (v20=(qAm [105,110,116]))
    (¬(some (⟨p,0,none⟩:Addr))=none/\¬(some (⟨p,0,none⟩:Addr))=none/\∃v21,V3.rowp (sa p) ((13:Int).toNat*1) 1=some [uI v21] /\
    IR (v21+1)/\¬(some (⟨p,0,none⟩:Addr))=none/\¬(some (⟨p,0,none⟩:Addr))=none/\StT (qAa (sa p) 13) 0 [uI (v21+1)] V3 fun V4 =>
    TT 274 #[uB ((decide (v=w))==(decide (e.op=14)))] V4 fun e' V5=>∃v22,e'=rV (uI v22)/\PX V0 d p F c G (rV (uI v22)) V5)
    (TT 274 #[uB ((decide (v=w))==(decide (e.op=14)))] V3 fun e' V4=>∃v21,e'=rV (uI v21)/\PX V0 d p F c G (rV (uI v21)) V4))
   ·rw[hb]
    exact c274.call ⟨_,rfl,PX.ok (yes (.inr (.inr ⟨ho,hi⟩)) hx) hM⟩
   ·rw[hb]
    exact c274.call ⟨_,rfl,PX.ok (no (fun k=>k.elim (fun k=>by omega) fun k=>k.elim (fun k=>by omega) fun k=>hi k.2) hx) M2⟩
  have cmB:∀{x:Bool},(e.op=16∨e.op=17)->qFr e.op v w=.ok (trI x)->(¬(some (⟨p,0,none⟩:Addr))=none/\¬(some (⟨p,0,none⟩:Addr))=none/\∃v16,V2.rowp (sa p) ((13:Int).toNat*1) 1=some [uI v16] /\
    IR (v16+1)/\¬(some (⟨p,0,none⟩:Addr))=none/\¬(some (⟨p,0,none⟩:Addr))=none/\StT (qAa (sa p) 13) 0 [uI (v16+1)] V2 fun V3 =>
    TT 274 #[uB x] V3 fun e' V4=>∃v17,e'=rV (uI v17)/\PX V0 d p F c G (rV (uI v17)) V4):=fun {x} ho hx =>
   ⟨nn,nn,_,qAe hat2 13 1 (by simp[qBT]),⟨by omega,by omega⟩,nn,nn,StT.at2 (off:=13) hat2 (by simp[qBT]) (c274.call ⟨_,rfl,PX.ok (yes (by omega) hx) hM⟩)⟩
  refine⟨fun h14=>eqB (x:=decide (v=w)) (.inl h14) ?_ ?_,fun h14=>⟨fun h15=>eqB (x:=!decide (v=w)) (.inr h15) ?_ ?_,fun h15=>⟨fun h16=>cmB (.inl h16) ?_,fun h16=>⟨fun h17=>cmB (.inr h17) ?_,fun h17=>?_⟩⟩⟩⟩
  ·rw[show e.op=14 from h14];rfl
  ·rw[decide_eq_true (show e.op=14 from h14)];cases decide (v=w) <;> rfl
  ·rw[show e.op=15 from h15];rfl
  ·rw[decide_eq_false (show ¬e.op=14 from h14)];cases decide (v=w) <;> rfl
  ·rw[show e.op=16 from h16];rfl
  ·rw[show e.op=17 from h17];rfl
  ·have h14:¬e.op=14:=h14
   have h15:¬e.op=15:=h15
   have h16:¬e.op=16:=h16
   have h17:¬e.op=17:=h17
   obtain⟨rfl,rfl⟩:=hint h14 h15
   refine PB.last (s:=s2) ?_ M2 (c275 (by omega) (qBG.1 hv1) (qBG.1 hv2))
   rw[hG2];unfold cntX;rw[if_neg (by omega)]
 have hkind:=kindX (sc:=qAn d pr) rfl hv ht
 cases hkind with
 | int h hn =>
  unfold w241
  exact qAQ h (PX.ok (hG0.trans (cX1 (.inl h))) X.M)
 | bool h hn =>
  unfold w241
  exact qAF (by omega) (qAQ h (PX.ok (hG0.trans (cX1 (.inr h))) X.M))
 | nil h hn =>
  unfold w241
  repeat refine qAF (h ▸ (by decide)) ?_
  exact qAQ h (PX.ok (hG0.trans (cX3 h)) X.M)
 | var h hl hne =>
  unfold w241
  have hG:=hG0.trans (cX4 h)
  have hra:=hra0.sub L.sub
  repeat refine qAF (h ▸ (by decide)) ?_
  refine qAQ h ⟨nn,nn,fa,qAe hq 0 1 (by simp),(c242 hra).call ⟨_,rfl,?_⟩⟩
  have hvg:=(qAj X.G.mem).2.2.2.1
  rcases qIo X.G X.hv X.po.vars hl hne with⟨i,g,v,h1,h2,h3,h4,-,h6⟩|⟨i,g,v,h0,h1,h2,h3,h4,-,h6⟩
  ·rw[h1]
   obtain⟨g1,g2,g3,g4⟩:=gAt (hrb0.sub L.sub) h3
   exact qAQ (by omega) ⟨nn,nn,fb,qAe hq 1 1 (by simp),g1,g2,g3,_,g4,PX.ok (hG.trans h6) X.M⟩
  ·rw[h0]
   have X1:=X.le (k:=1) (by omega)
   refine qAF (by decide) ⟨nn,nn,pnn,d.gs,qAe hat 2 1 (by simp[qBT]),(c242 hd.globals).call ⟨_,rfl,?_⟩⟩
   rw[h1]
   refine Tri.mono (c243 X.M (Cx.fit (m:=0) X1)) ?_
   rintro _ V3 ⟨rfl,M3⟩
   obtain⟨gs3,ns3,ls3,nd3,hat3,L3⟩:=M3.ex
   obtain⟨g1,g2,g3,g4⟩:=gAt (L3.glob.rows (fun _=>rfl) (by decide)) (i:=i) (v:=v) h3
   exact⟨rfl,nn,nn,pnn,gs3,qAe hat3 8 1 (by simp[qBT]),g1,g2,g3,_,g4,PX.ok (hG.trans h6) M3⟩
 | @fld _ u a h hk ha hf' =>
  unfold w241
  have h0:e.k[0]?=some a:=by rw[hk];rfl
  have hG:=hG0
  rw[cX5 h,K h0]at hG
  obtain⟨k1,k2,k3,k4⟩:=qEJ heV h0
  have hs:=s1' hk
  repeat refine qAF (h ▸ (by decide)) ?_
  refine qAQ h ⟨k1,by decide,k3,_,_,_,_,k4,PX.bind hG (kid h0 ha (X.le (by omega))) fun v s1 V1 e1 M1 hG1=>?_⟩
  obtain⟨X1,hv1⟩:=go (k:=1) h0 ha X (by omega) e1 M1
  refine⟨fun hz=>qJJ (PX.bad ?_ M1),fun hz=>?_⟩
  ·rw[hG1];unfold fldX;rw[if_pos (show v=0 from hz)]
  have hz:¬v=0:=hz
  obtain⟨k,i,j,tt,g,fs,w,rfl,e2,e3,e4,e5,e6,e7,e8,e9,-⟩:=qHZ X1.G hf' hv1 hz
  refine(c244 X.S M1 e2 e3).call ⟨_,rfl,?_⟩
  rw[e6]
  refine Tri.mono (c243 M1 (Cx.fit (m:=0) X1)) ?_
  rintro _ V3 ⟨rfl,M3⟩
  obtain⟨gs3,ns3,ls3,nd3,sl3,hat3,L3,-,hI,n1,n2,n3,n4,m1,m2,m3,m4⟩:=nodeAt M3 (k:=k) (i:=i) e2 e8
  rw[show ((k:Int)+1-1)=(k:Int) by omega]
  refine⟨rfl,nn,nn,pnn,ns3,qAe hat3 9 1 (by simp[qBT]),hI,n1,n2,n3,qAd n1,_,_,n4,m1,m2,m3,_,m4,PX.ok ?_ M3⟩
  rw[hG1]
  unfold fldX
  rw[if_neg hz,show ((k:Int)+1-1).toNat=k by omega,e2]
  simp only
  rw[e5,e6,Int.toNat_natCast,e8];rfl
 | new h hn =>
  unfold w241
  have hG:=hG0.trans (cX6 h)
  repeat refine qAF (h ▸ (by decide)) ?_
  have hnn:=(L.nodes.rows (fun _=>rfl) (by decide)).n_eq
  have hlen:=L.len
  refine qAQ h ⟨nn,nn,pnn,ns,qAe hat 9 1 (by simp[qBT]),fun hl=>qJJ (PX.bad ?_ X.M),fun hl=>?_⟩
  ·have hl:4096<=(ns.n:Int):=hl
   rw[hG];unfold newX;rw[if_pos (by omega)]
  have hl:¬4096<=(ns.n:Int):=hl
  obtain⟨tt,htm,hte⟩:=List.any_eq_true.1 hn
  have hte:tt.name=e.s:=of_decide_eq_true hte
  obtain⟨j,hj⟩:=List.mem_iff_getElem?.1 htm
  have hidx:qDx d e.s=(j:Int):=hte ▸ (qBL (qAj X.G.mem).1).2.1 j tt hj
  have hfo:qAq d (j:Int)=tt.fields:=qAS hj rfl
  refine(c270 X.S X.M).call ⟨_,rfl,?_⟩
  rw[hidx]
  have htn:=hd.types.n_eq
  have hjl:=(List.getElem?_eq_some_iff.1 hj).1
  obtain⟨y,-,hy,-,-,hp,hz,hrow⟩:=hd.types.get (i:=j) (by omega)
  rw[hj]at hy;cases hy
  have hfn:=(hd.typesOk tt htm).fields.n_eq
  have hfl:=(lens12 X.S.valid).2 tt htm
  refine⟨nn,nn,pnn,ns,qAe hat 9 1 (by simp[qBT]),nn,nn,pnn,d.ts,qAe hat 1 1 (by simp[qBT]),hp,hz,by omega,qAd hp,_,_,hrow,mk31 (n:=tt.fs.n) rfl rfl (by omega) fun g hg=>⟨⟨some ⟨g,0,none⟩,tt.fs.n,tt.fs.n⟩,rfl,?_⟩⟩
  obtain⟨V2,hV2⟩:∃V2,V2=V.set g (.cells (madeCells (Value.int .i64 0).cells (tt.fs.n*1)) 3 (0,0)):=⟨_,rfl⟩
  have hown:=qHW hg (n:=tt.fs.n) (by omega)
  rw[<- hV2]at hown ⊢
  have hat2:=hown.sub _ _ hat
  refine⟨qAR hat2 9 0 1 (by simp[qBT]),pnn,nn,nn,qAR hat2 9 0 1 (by simp[qBT]),pnn,nn,nn,fun tb htb=>?_⟩
  refine L.new (n:=⟨(j:Int),⟨some ⟨g,0,none⟩,tt.fs.n,tt.fs.n⟩,List.replicate tt.fs.n 0⟩) hown htb rfl rfl (by omega) fun s3 V3 L3 hk3=>⟨s3,rfl,nn,nn,pnn,?_⟩
  have hat3:=hk3 _ _ hat2 (notBlk hat ntE L.nodes (.inr (.inl rfl)))
  refine StT.at2 (off:=9) hat3 (by simp[qBT]) ?_
  have M4:EM V0 d p F (V3.set p (.cells (qBT d F s.tk c s.cm gs s3 ls).toArray 128 (0,0))) { s with ns:=s.ns++[((j:Int),List.replicate tt.fs.n 0)] } c :=
   ⟨X.M.p0,gs,s3,ls,nd++[_],Mem.set_same _ _ _,L3.put (qIk hat3 ntE) X.M.p0 _⟩
  have hn3:=(L3.nodes.rows (fun _=>rfl) (by decide)).n_eq
  rw[List.length_append,List.length_singleton]at hn3
  show ¬(some (⟨p,0,none⟩:Addr):Option Addr)=none/\_
  refine⟨nn,nn,pnn,s3,qAe mss 9 1 (by simp[qBT]),?_⟩
  rw[show ((s3.n:Nat):Int)=(s.ns.length:Int)+1 by omega]
  have hfit:s.lg.length+1<=2147483648:=Cx.fit (m:=0) (X.le (k:=0+1) (by omega))
  refine Tri.mono (c243 M4 hfit) ?_
  rintro _ V7 ⟨rfl,M7⟩
  obtain⟨gs7,ns7,ls7,nd7,hat7,L7⟩:=M7.ex
  have hn7:=(L7.nodes.rows (fun _=>rfl) (by decide)).n_eq
  have hl7:=L7.len
  have hl7:nd7.length=(s.ns++[((j:Int),List.replicate tt.fs.n 0)]).length:=hl7
  rw[List.length_append,List.length_singleton]at hl7
  refine⟨rfl,nn,nn,pnn,ns7,qAe hat7 9 1 (by simp[qBT]),?_⟩
  rw[show ((ns7.n:Nat):Int)=(s.ns.length:Int)+1 by omega]
  refine PX.ok ?_ M7
  rw[hG];unfold newX
  rw[if_neg (by omega),hidx,hfo,<- hfn];rfl
 | @call pr' i h hc hr =>
  unfold w241
  have hG:=hG0.trans (cX7 h)
  rw[hc.idx]at hG
  repeat refine qAF (h ▸ (by decide)) ?_
  refine qAQ h (PX.last hG ?_)
  rw[hf]
  refine callC hR X he hc hv fun a hm u W V' s' hW X' ha=>?_
  exact ih a hm u W V' s' c q pr vals X' (hv.kids a hm) ((he.kids a hm).sub hW) ha
 | @neg a h hk ha =>
  unfold w241
  have h0:e.k[0]?=some a:=by rw[hk];rfl
  have hG:=hG0
  rw[cX8 h,K h0]at hG
  obtain⟨k1,k2,k3,k4⟩:=qEJ heV h0
  have hs:=s1' hk
  repeat refine qAF (h ▸ (by decide)) ?_
  refine qAQ h ⟨k1,by decide,k3,_,_,_,_,k4,PX.bind hG (kid h0 ha (X.le (by omega))) fun v s1 V1 e1 M1 hG1=>?_⟩
  obtain⟨X1,hv1⟩:=go (k:=1) h0 ha X (by omega) e1 M1
  have:=qBG.1 hv1
  rw[<- Int.zero_sub]at hG1
  exact⟨⟨by omega,by omega⟩,PB.last hG1 M1 c271⟩
 | @not a h hk ha =>
  unfold w241
  have h0:e.k[0]?=some a:=by rw[hk];rfl
  have hG:=hG0
  rw[cX18 h,K h0]at hG
  obtain⟨k1,k2,k3,k4⟩:=qEJ heV h0
  have hs:=s1' hk
  repeat refine qAF (h ▸ (by decide)) ?_
  refine qAQ h ⟨k1,by decide,k3,_,_,_,_,k4,PX.bind hG (kid h0 ha (X.le (by omega))) fun v s1 V1 e1 M1 hG1=>?_⟩
  obtain⟨X1,hv1⟩:=go (k:=1) h0 ha X (by omega) e1 M1
  have:=qBg.1 hv1
  exact⟨⟨by omega,by omega⟩,PX.ok hG1 M1⟩
 | @log a h hk ha =>
  unfold w241
  have h0:e.k[0]?=some a:=by rw[hk];rfl
  have hG:=hG0
  rw[cX24 h,K h0]at hG
  obtain⟨k1,k2,k3,k4⟩:=qEJ heV h0
  have hs:=s1' hk
  repeat refine qAF (h ▸ (by decide)) ?_
  refine qAQ h ⟨k1,by decide,k3,_,_,_,_,k4,PX.bind hG (kid h0 ha (X.le (by omega))) fun v s1 V1 e1 M1 hG1=>?_⟩
  obtain⟨X1,hv1⟩:=go (k:=1) h0 ha X (by omega) e1 M1
  have hr:=qBG.1 hv1
  refine GenK.max2 rfl rfl ⟨_,rfl,?_⟩
  obtain⟨w,hw⟩:∃w:Nat,(if (1:Int)<v then v else 1)=(w:Int):=⟨(if (1:Int)<v then v else 1).toNat,by split <;> omega⟩
  rw[hw]
  have hw1:1<=w/\(w:Int)<=1099511627776:=by split at hw <;> omega
  have hb:Nat.log2 w<64:=(Nat.log2_lt (by omega)).2 (by omega)
  have hlen:lenN w=(Nat.log2 w:Int)+1:=by unfold lenN;rw[if_neg (by omega)]
  refine⟨inU _ (by omega),(c272 (by omega)).call ⟨_,rfl,?_⟩⟩
  rw[hlen]
  refine⟨⟨by omega,by omega⟩,PX.ok ?_ M1⟩
  rw[hG1]
  have:logV v=(Nat.log2 w:Int):=by
   unfold logV
   by_cases hv1:1<v
   ·rw[if_pos hv1]at hw;rw[hw,Int.toNat_natCast]
   ·rw[if_neg hv1]at hw
    have:w=1:=by omega
    subst this
    have:v.toNat=0∨v.toNat=1:=by omega
    rcases this with h|h <;> rw[h] <;> rfl
  rw[this,show (Nat.log2 w:Int)+1-1=(Nat.log2 w:Int) by omega]
 | @and a b h hk ha hb =>
  unfold w241
  have h0:e.k[0]?=some a:=by rw[hk];rfl
  have h1:e.k[1]?=some b:=by rw[hk];rfl
  have hG:=hG0
  rw[cX19 h,K h0,K h1]at hG
  obtain⟨k1,k2,k3,k4⟩:=qEJ heV h0
  have hs:=s2' hk
  repeat refine qAF (h ▸ (by decide)) ?_
  refine qAQ h ⟨k1,by decide,k3,_,_,_,_,k4,PX.bind hG (kid h0 ha (X.le (by omega))) fun v s1 V1 e1 M1 hG1=>?_⟩
  obtain⟨X1,hv1⟩:=go (k:=szE b) h0 ha X (by omega) e1 M1
  obtain⟨l1,l2,l3,l4⟩:=qEJ (he.sub M1.sub) h1
  refine⟨fun hz=>PX.ok ?_ M1,fun hz=>⟨l1,by decide,l3,_,_,_,_,l4,PX.last ?_ (kid h1 hb X1)⟩⟩
  ·rw[hG1,if_pos (show v=0 from hz)]
  ·rw[hG1,if_neg (show ¬v=0 from hz)]
 | @or a b h hk ha hb =>
  unfold w241
  have h0:e.k[0]?=some a:=by rw[hk];rfl
  have h1:e.k[1]?=some b:=by rw[hk];rfl
  have hG:=hG0
  rw[cX20 h,K h0,K h1]at hG
  obtain⟨k1,k2,k3,k4⟩:=qEJ heV h0
  have hs:=s2' hk
  repeat refine qAF (h ▸ (by decide)) ?_
  refine qAQ h ⟨k1,by decide,k3,_,_,_,_,k4,PX.bind hG (kid h0 ha (X.le (by omega))) fun v s1 V1 e1 M1 hG1=>?_⟩
  obtain⟨X1,hv1⟩:=go (k:=szE b) h0 ha X (by omega) e1 M1
  obtain⟨l1,l2,l3,l4⟩:=qEJ (he.sub M1.sub) h1
  have hv1:=qBg.1 hv1
  refine⟨fun hz=>PX.ok ?_ M1,fun hz=>⟨l1,by decide,l3,_,_,_,_,l4,PX.last ?_ (kid h1 hb X1)⟩⟩
  ·have hz:v=1:=hz
   rw[hG1,if_neg (by omega)]
  ·have hz:¬v=1:=hz
   rw[hG1,if_pos (by omega)]
 | @cond a b c' _ u w h hk ha hb hc hu hw _ =>
  unfold w241
  have h0:e.k[0]?=some a:=by rw[hk];rfl
  have h1:e.k[1]?=some b:=by rw[hk];rfl
  have h2:e.k[2]?=some c':=by rw[hk];rfl
  have hG:=hG0
  rw[cX21 h,K h0,K h1,K h2]at hG
  obtain⟨k1,k2,k3,k4⟩:=qEJ heV h0
  have hs:=s3' hk
  repeat refine qAF (h ▸ (by decide)) ?_
  refine qAQ h ⟨k1,by decide,k3,_,_,_,_,k4,PX.bind hG (kid h0 ha (X.le (by omega))) fun v s1 V1 e1 M1 hG1=>?_⟩
  obtain⟨X1,hv1⟩:=go (k:=szE b+szE c') h0 ha X (by omega) e1 M1
  obtain⟨l1,l2,l3,l4⟩:=qEJ (he.sub M1.sub) h1
  obtain⟨m1,m2,m3,m4⟩:=qEJ (he.sub M1.sub) h2
  have hv1:=qBg.1 hv1
  refine⟨fun hz=>⟨l1,by decide,l3,_,_,_,_,l4,PX.last ?_ (kid h1 hb (X1.le (by omega)))⟩,fun hz=>⟨m1,by decide,m3,_,_,_,_,m4,PX.last ?_ (kid h2 hc (X1.le (by omega)))⟩⟩
  ·have hz:v=1:=hz
   rw[hG1,if_neg (by omega)]
  ·have hz:¬v=1:=hz
   rw[hG1,if_pos (by omega)]
 | @eq a b u w h hk ha hb hf'=>exact two (by omega) hk ha hb fun _ _=>by omega
 | @cmp a b h hk ha hb=>exact two (by omega) hk ha hb fun _ _=>⟨rfl,rfl⟩
 | @ari a b h hk ha hb=>exact two (by omega) hk ha hb fun _ _=>⟨rfl,rfl⟩
end
section
variable{W V0 V V1 V':Mem}{d:Ds}{p F c q:Nat}{s:St}{pr:Pr}{vals:List Int}
theorem MA.poke{ty:Nat}{row:Sl->Sl->Sl->List Value}(h:MA ty V0 p row V s){b:Nat}(hb:V0 b≠none)(o:Obj):MA ty (V0.set b o) p row (V.set b o) s:=by
 obtain⟨gs,ns,ls,nd,hat,L⟩:=h.ex
 have hne:p≠b:=fun e=>hb (e ▸ h.p0)
 exact⟨by rw[Mem.set_ne hne];exact h.p0,gs,ns,ls,nd,by grind [Mem.set_ne],L.poke hb o⟩
structure FrM (W V0:Mem) (q:Nat) (pr:Pr) (vals:List Int):Prop where
 sub:W.sub V0
 ex:∃a b:Sl,W q=some (.cells #[a.v,b.v] 243 (0,0))/\qAc W a 2 (pr.vars.map Fld.row)/\Sx.Own W V0 3 1 b (vals.flatMap qAf)
theorem FrM.fv(h:FrM W V0 q pr vals):Fv V0 q pr vals:=by
 obtain⟨a,b,h1,h2,h3⟩:=h.ex
 exact⟨a,b,h.sub _ _ h1,h2.sub h.sub,h3.rows (fun _=>rfl) (by decide)⟩
theorem frStore{b:Sl}(own:Sx.Own W V0 3 1 b (vals.flatMap qAf))(M:EM V0 d p F V s c){i:Nat}(hi:i<vals.length){v:Int}{Q:Mem->Prop}
  (hQ:∀V0' V',Sx.Own W V0' 3 1 b ((vals.set i v).flatMap qAf)->EM V0' d p F V' s c->Q V'):StT (qAa b.p (i*1)) 0 [.int .i64 v] V Q:=by
 rw[Nat.mul_one]
 rcases own.cases0 with⟨h1,h2,h3⟩|⟨hc,g,cur,h1,h2,h3,h4,h5,h6,h7⟩
 ·rw[qBj]at h3
  have:vals=[]:=by simpa using h3
  rw[this]at hi;simp at hi
 have hle:b.n*1<=b.c*1:=Nat.mul_le_mul_right _ h4
 have hn:=own.len
 rw[qBj,List.length_map]at hn
 have hg0:V0 g≠none:=by rw[h3];simp
 rw[h1]
 have e:(cur.toList.take i++[Value.int .i64 v]++cur.toList.drop (i+1))=cur.toList.set i (.int .i64 v):=qDX _ _ _ (by simp;omega)
 refine StT.at2 (off:=i) (M.sub _ _ h3) (by simp;omega) (hQ (V0.set g _) _ ⟨own.sub.set h2 _,?_,.inr ⟨g,_,h1,h2,Mem.set_same _ _ _,h4,h5,?_,?_⟩⟩ (M.poke hg0 _))
 ·rw[qBj,List.length_map,List.length_set];exact hn
 ·simp_all
 ·rw[show i+[Value.int .i64 v].length=i+1 from rfl,e]
  show (cur.toList.set i (.int .i64 v)).take (b.n*1)=_
  rw[List.take_set,h7,qBj,qBj,List.map_set]
def PS(W:Mem)(d:Ds)(p F c q:Nat)(pr:Pr)(r:Rx Rt):Ending->Mem->Prop:=fun e V'=>match r with
 | .ok rt s=>e=.returned (.agg #[.bool rt.2.isSome,.int .i64 (rt.2.getD 0)])/\∃V0',FrM W V0' q pr rt.1/\EM V0' d p F V' s c
 | .bad k s=>e=fltE k/\∃c',EM W d p F V' s c'
theorem PS.bind{f:FuncId}{args:Array Value}{r:Rx Int}{G:Rx Rt}{h:Int->St->Rx Rt}{K:Int->Mem->Prop}(hW:W.sub V0)(hG:G=r.bind h)(H:Tri Tryz.prog f args V (PX V0 d p F c r))(ho:∀v s V',r=.ok v s->EM V0 d p F V' s c->G=h v s->K v V') :
  Tri Tryz.prog f args V fun e V'=>(∃v,e=.returned (.int .i64 v)/\K v V')∨∃ch,e=.panicked ch/\PS W d p F c q pr G e V' :=
 PX.split H (fun k s c' V' e hm=>by subst e;rw[hG];exact⟨rfl,c',hm.narrow hW⟩) fun v s V' e hm=>ho v s V' e hm (by rw[hG,e];rfl)
theorem PS.ok{G:Rx Rt}{rt:Rt}(hG:G=.ok rt s)(hf:FrM W V0 q pr rt.1)(M:EM V0 d p F V s c){b:Bool}{v:Int}(hb:b=rt.2.isSome)(hv:v=rt.2.getD 0):PS W d p F c q pr G (.returned (.agg #[.bool b,.int .i64 v])) V:=by
 rw[hG,hb,hv];exact⟨rfl,V0,hf,M⟩
theorem PS.bad{G:Rx Rt}{k:Int}(hG:G=.bad k s)(hW:W.sub V0)(M:EM V0 d p F V s c):PS W d p F c q pr G (fltE k) V:=by rw[hG];exact⟨rfl,c,M.narrow hW⟩
theorem PS.split{f:FuncId}{args:Array Value}{r:Rx Rt}{K:Bool->Int->Mem->Prop}{R:Ending->Mem->Prop}(H:Tri Tryz.prog f args V (PS W d p F c q pr r))(hb:∀k s c' V',r=.bad k s->EM W d p F V' s c'->R (fltE k) V')(ho:∀rt s V0' V',r=.ok rt s->FrM W V0' q pr rt.1->EM V0' d p F V' s c->K rt.2.isSome (rt.2.getD 0) V') :
  Tri Tryz.prog f args V fun e V'=>(∃b v,e=.returned (.agg #[.bool b,.int .i64 v])/\K b v V')∨∃ch,e=.panicked ch/\R e V' :=
 Tri.mono H fun e V' h=>by
  cases r with
  | ok rt s=>obtain⟨h1,V0',h2,h3⟩:=h;grind
  | bad k s =>
   obtain⟨he,c',hm⟩:=h
   subst he
   exact .inr ⟨_,rfl,hb k s c' V' rfl hm⟩
structure Sx1 (W V0:Mem) (d:Ds) (p F c q:Nat) (pr:Pr) (vals:List Int) (n m:Nat) (V:Mem) (s:St):Prop where
 S:ES W d F
 fr:FrM W V0 q pr vals
 po:qDe d pr
 G:qAv d s.mm
 hv:qAi d s.mm pr.vars vals=true
 M:EM V0 d p F V s c
 tk:s.tk<=F
 n:F<n+s.tk
 w:BW m s
theorem Sx1.cx{n m:Nat}(X:Sx1 W V0 d p F c q pr vals n m V s):Cx V0 d p F c q pr vals n m V s:=⟨X.S.sub X.fr.sub,X.fr.fv,X.po,X.G,X.hv,X.M,X.tk,X.n,X.w⟩
theorem Sx1.next{n m k:Nat}{V0':Mem}{vals':List Int}{s':St}(X:Sx1 W V0 d p F c q pr vals n (m+k) V s)(g:Gr F m s s')(G:qAv d s'.mm)(hf:FrM W V0' q pr vals')(hv:qAi d s'.mm pr.vars vals'=true)(M:EM V0' d p F V' s' c):Sx1 W V0' d p F c q pr vals' n k V' s' :=
 ⟨X.S,hf,X.po,G,hv,M,g.fu X.tk,by have:=g.tk;have:=X.n;omega,X.w.next g⟩
theorem Sx1.le{n m k:Nat}(X:Sx1 W V0 d p F c q pr vals n m V s)(h:k<=m):Sx1 W V0 d p F c q pr vals n k V s:=⟨X.S,X.fr,X.po,X.G,X.hv,X.M,X.tk,X.n,X.w.le h⟩
variable(d p F) in
def SC(n:Nat):Prop:=∀(l:List S) (W V0 V:Mem) (s:St) (c q:Nat) (pr:Pr) (vals:List Int) (sl:Sl),Sx1 W V0 d p F c q pr vals n 0 V s->(∀x∈l,TyS d pr x)->(∀x∈l,S.Ok W x)->qAc W sl 5 (l.map S.row) ->
 Tri Tryz.prog 164 #[pv p,pv q,sl.v] V (PS W d p F c q pr (qGa d F n c pr l vals s))
variable(d p F) in
def StC(n:Nat):Prop:=∀(x:S) (W V0 V:Mem) (s:St) (c q:Nat) (pr:Pr) (vals:List Int),Sx1 W V0 d p F c q pr vals (n+1) 0 V s->TyS d pr x->S.Ok W x ->
 Tri Tryz.prog 199 #[pv p,pv q,x.v] V (PS W d p F c q pr (stX d F (qGa d F n) c pr (n+1) x vals s))
theorem stsC{n:Nat}(H:StC d p F n):SC d p F (n+1):=by
 intro l W V0 V s c q pr vals sl X hty hok hrows
 obtain⟨f,hf⟩:∃f,f=stX d F (qGa d F n) c pr (n+1):=⟨_,rfl⟩
 obtain⟨G,hG⟩:∃G:Rx Rt,G=qHa f l vals s:=⟨_,rfl⟩
 show Tri _ _ _ _ (PS W d p F c q pr (qHa (stX d F (qGa d F n) c pr (n+1)) l vals s))
 rw[<- hf,<- hG]
 refine Tri.mono (x164 (R:=PS W d p F c q pr G) ?_) fun _ _ h=>h
 unfold w164
 refine qLe l.length (fun i V1=>∃V0' vals' s',Sx1 W V0' d p F c q pr vals' (n+1) 0 V1 s'/\G=qHa f (l.drop i) vals' s') ⟨V0,vals,s,X,hG⟩ ?_
 rintro i V1 J hi ⟨V0',vals',s',X',hG'⟩ hJ
 have hr:=hrows.sub (X'.fr.sub.trans X'.M.sub)
 refine⟨fun hlt=>?_,fun hge=>?_⟩
 ·obtain⟨x,hxm,hx,hdr,hil,hp,hz,hrow⟩:=hr.get hlt
  rw[S.row_eq]at hrow
  rw[hdr]at hG'
  have hG2:G=(f x vals' s').bind fun r st=>match r.2 with|some _=>.ok r st|none=>qHa f (l.drop (i+1)) r.1 st:=hG'
  have P:=st_snd (F:=F) (c:=c) (n:=n+1) X'.S.procs (qGQ X'.S.procs n) X'.po (hty x hxm) X'.G X'.hv
  have Hx:=H x W V0' V1 s' c q pr vals' X' (hty x hxm) (hok x hxm)
  rw[<- hf]at Hx P
  rw[show x.v=.agg #[.int .i64 x.op,.string x.s,.slice x.el.p x.el.n x.el.c,.slice x.ll.p x.ll.n x.ll.c,.slice x.xl.p x.xl.n x.xl.c] by unfold S.v;rw[S.row_eq];rfl]at Hx
  refine⟨hp,hz,hlt,_,_,_,_,_,hrow,PS.split Hx (fun k s2 c' V2 e2 M2=>?_) fun rt s2 V0'' V2 e2 hf2 M2=>?_⟩
  ·rw[hG2,e2];exact⟨rfl,c',M2⟩
  obtain⟨G2,g2,q2⟩:=P.got e2
  rw[e2]at hG2
  cases hrt:rt.2 with
  | some v =>
   have hG3:G=.ok rt s2:=by rw[hG2];show (match rt.2 with|some _=>_|none=>_)=_;rw[hrt]
   exact⟨fun _=>PS.ok hG3 hf2 M2 (by rw[hrt]) (by rw[hrt]),fun h=>absurd rfl h⟩
  | none =>
   have hG3:G=qHa f (l.drop (i+1)) rt.1 s2:=by rw[hG2];show (match rt.2 with|some _=>_|none=>_)=_;rw[hrt]
   exact⟨(fun h=>by cases h),fun _=>⟨hr.succ hlt,hJ hil _ ⟨V0'',rt.1,s2,X'.next (m:=0) g2 G2 hf2 q2.1 M2,hG3⟩⟩⟩
 ·rw[(hr.done hge).1]at hG'
  exact PS.ok hG' X'.fr X'.M rfl rfl
end
section
variable{W V0 V V1 V':Mem}{d:Ds}{p F c q:Nat}{s:St}{pr:Pr}{vals:List Int}
theorem esAt{x:S}(h:S.Ok V x){i:Nat}{a:E}(ha:x.es[i]?=some a):¬x.el.p=none/\(i:Int)<(x.el.n:Int)/\V.rowp x.el.p (i*4) 4=some [.int .i64 a.op,.int .i64 a.n,.string a.s,.slice a.l.p a.l.n a.l.c]:=by
 have hr:=h.eRows
 have hn:=hr.n_eq
 have hl:=(List.getElem?_eq_some_iff.1 ha).1
 obtain⟨y,-,hy,-,hl2,hp,hz,hrow⟩:=hr.get (i:=i) (by omega)
 rw[ha]at hy;cases hy
 exact⟨hp,by omega,hrow⟩
theorem tickX_ok(h:s.tk<F):qKB F s=.ok () { s with tk:=s.tk+1 }:=by unfold qKB;rw[if_neg (by omega)]
theorem tickX_bad(h:F<=s.tk):qKB F s=.bad 20 s:=by unfold qKB;rw[if_pos h]
theorem Sx1.tick{n:Nat}(X:Sx1 W V0 d p F c q pr vals (n+1) 0 V s)(h:s.tk<F)(M:EM V0 d p F V' { s with tk:=s.tk+1 } c):Sx1 W V0 d p F c q pr vals n 4000 V' { s with tk:=s.tk+1 } :=
 ⟨X.S,X.fr,X.po,⟨X.G.valid,X.G.chk,X.G.mem⟩,X.hv,M,h,by have:=X.n;show F<n+(s.tk+1);omega,by have:=X.w;unfold BW at *;show s.lg.length+s.cm+4000<=4000*(s.tk+1);omega⟩
theorem Sx1.tick'{n:Nat}(X:Sx1 W V0 d p F c q pr vals n 0 V s)(h:s.tk<F)(M:EM V0 d p F V' { s with tk:=s.tk+1 } c):Sx1 W V0 d p F c q pr vals n 4000 V' { s with tk:=s.tk+1 } :=
 ⟨X.S,X.fr,X.po,⟨X.G.valid,X.G.chk,X.G.mem⟩,X.hv,M,h,by have:=X.n;show F<n+(s.tk+1);omega,by have:=X.w;unfold BW at *;show s.lg.length+s.cm+4000<=4000*(s.tk+1);omega⟩
theorem stC{n:Nat}(hE:ExprC d p F n)(hS:SC d p F n)(hR:CallC d p F n):StC d p F n:=by
 intro x W V0 V s c q pr vals X hty hok
 obtain⟨G,hG0⟩:∃G:Rx Rt,G=stX d F (qGa d F n) c pr (n+1) x vals s:=⟨_,rfl⟩
 rw[<- hG0]
 refine Tri.mono ((show x.v=.agg #[.int .i64 x.op,.string x.s,.slice x.el.p x.el.n x.el.c,.slice x.ll.p x.ll.n x.ll.c,.slice x.xl.p x.xl.n x.xl.c] by unfold S.v;rw[S.row_eq];rfl) ▸ x199 (R:=PS W d p F c q pr G) ?_) fun _ _ h=>h
 unfold w199
 have hF:=X.S.fuel
 refine Tri.mono (c240 hF X.M) ?_
 rintro e1 V1 (⟨hlt,rfl,M1⟩|⟨hge,rfl,rfl⟩)
 rotate_left
 ·refine .inr ⟨_,rfl,PS.bad (s:=s) ?_ X.fr.sub X.M⟩
  rw[hG0];unfold stX;rw[tickX_bad hge];rfl
 refine .inl ⟨rfl,?_⟩
 obtain⟨s1,hs1⟩:∃s1:St,s1={ s with tk:=s.tk+1 }:=⟨_,rfl⟩
 have X1:Sx1 W V0 d p F c q pr vals n 4000 V1 s1:=by rw[hs1];exact X.tick hlt M1
 have hG:G=bodyX d F (qGa d F n) c pr (n+1) x vals s1:=by rw[hG0];unfold stX;rw[tickX_ok hlt,hs1];rfl
 have hcs:=qGQ (F:=F) X.S.procs n
 have okV:∀{V2:Mem} {V0':Mem},W.sub V0'->V0'.sub V2->S.Ok V2 x:=fun h1 h2=>hok.sub (h1.trans h2)
 -- an expression of the statement
 have ex:∀{i:Nat} {a:E} {u:ByteArray} {V2 V0':Mem} {vals':List Int} {s2:St} {m:Nat},x.es[i]?=some a->qAJ a=true->qAr d (qAn d pr) a=(u,0)->Sx1 W V0' d p F c q pr vals' n m V2 s2->1000<=m ->
   Tri Tryz.prog 241 #[pv p,pv q,.agg #[.int .i64 a.op,.int .i64 a.n,.string a.s,.slice a.l.p a.l.n a.l.c]] V2 (PX V0' d p F c (evS d (qGa d F n) c pr vals' a s2)):=fun {i a u V2 V0' vals' s2 m} h0 hv ha X2 hm=>by
  have hp:=qCq hv
  exact hE a u V0' V2 s2 c q pr vals' (X2.cx.le (by omega)) hp.1 ((hok.eOk a (List.mem_of_getElem? h0)).sub X2.fr.sub) ha
 have go:∀{a:E} {u:ByteArray} {V2 V3 V0':Mem} {vals':List Int} {s2 s3:St} {m:Nat} {v:Int},qAJ a=true->qAr d (qAn d pr) a=(u,0)->Sx1 W V0' d p F c q pr vals' n (1000+m) V2 s2->evS d (qGa d F n) c pr vals' a s2=.ok v s3->EM V0' d p F V3 s3 c ->
   Sx1 W V0' d p F c q pr vals' n m V3 s3/\qBV d s3.mm u v/\Gr F 1000 s2 s3:=fun {a u V2 V3 V0' vals' s2 s3 m v} hv ha X2 e M3=>by
  obtain⟨G3,g3,q3⟩:=(qFK (F:=F) (c:=c) X2.S.procs hcs X2.po hv ha X2.G X2.hv).got e
  exact⟨X2.next g3 G3 X2.fr (qAo (fun h=>g3.right h) X2.hv) M3,q3,g3⟩
 unfold bodyX at hG
 cases kindS hty with
 | @set a u t h he hv ht hl hne hf =>
  rw[if_pos h,he,List.getD_cons_zero]at hG
  have h0:x.es[0]?=some a:=by rw[he];rfl
  obtain⟨k1,k3,k4⟩:=esAt (okV X1.fr.sub X1.M.sub) h0
  refine qAQ h ⟨k1,by decide,k3,_,_,_,_,k4,PS.bind X1.fr.sub hG (ex h0 hv ht X1 (by omega)) fun v s2 V2 e2 M2 hG2=>?_⟩
  obtain⟨X2,hv2,-⟩:=go (m:=3000) hv ht X1 e2 M2
  obtain⟨fa,fb,hq0,hra0,hrb0⟩:=X2.fr.ex
  have hW2:=X2.fr.sub.trans X2.M.sub
  have hq:=hW2 _ _ hq0
  refine⟨nn,nn,fa,qAe hq 0 1 (by simp),(c242 (hra0.sub hW2)).call ⟨_,rfl,?_⟩⟩
  unfold setX at hG2
  rcases qIo X2.G X2.hv X2.po.vars hl hne with⟨i,g,w,h1,h2,h3,h4,-⟩|⟨i,g,w,h0',h1,h2,h3,h4,-⟩
  ·rw[h1]
   rw[if_pos (by omega),h1,Int.toNat_natCast]at hG2
   have hil:=(List.getElem?_eq_some_iff.1 h3).1
   have hbn:=((hrb0.rows (fun _=>rfl) (by decide):qAc V0 fb 1 (vals.map qAf))).n_eq
   obtain⟨g1,g2,g3,-⟩:=gAt (hrb0.rows (fun _=>rfl) (by decide)) h3
   refine qAQ (by omega) ⟨nn,nn,fb,qAe hq 1 1 (by simp),g1,g2,g3,frStore hrb0 M2 hil fun V0' V' ho M'=>?_⟩
   exact PS.ok hG2 ⟨ho.sub,fa,fb,hq0,hra0,ho⟩ M' rfl rfl
  ·rw[h0']
   rw[if_neg (by omega),h1,Int.toNat_natCast]at hG2
   obtain⟨gs,ns,ls,nd,hat,L⟩:=M2.ex
   have hd:=(X2.S.sub X2.fr.sub).ds.sub L.sub
   refine qAF (by decide) ⟨nn,nn,pnn,d.gs,qAe hat 2 1 (by simp[qBT]),(c242 hd.globals).call ⟨_,rfl,?_⟩⟩
   rw[h1]
   refine Tri.mono (c243 M2 (Cx.fit (m:=0) (X2.cx.le (by omega)))) ?_
   rintro _ V5 ⟨rfl,M5⟩
   obtain⟨gs5,ns5,ls5,nd5,hat5,L5⟩:=M5.ex
   obtain⟨g1,g2,g3,-⟩:=gAt (L5.glob.rows (fun _=>rfl) (by decide)) (i:=i) (v:=w) h3
   have hil:=(List.getElem?_eq_some_iff.1 h3).1
   refine⟨rfl,nn,nn,pnn,gs5,qAe hat5 8 1 (by simp[qBT]),g1,g2,g3,L5.setG (i:=i) hil fun V6 L6 hk6=>?_⟩
   refine PS.ok hG2 X2.fr (V0:=V0) (MA.mk M5.p0 ⟨gs5,ns5,ls5,nd5,?_,L6⟩) rfl rfl
   rw[hk6 _ (notBlk hat5 ntE L5.glob (.inl rfl))];exact hat5
 | @put a b u w t h he hv hw ha ht hl hf =>
  rw[if_neg (by omega),if_pos h,he,List.getD_cons_zero,List.getD_cons_succ,List.getD_cons_zero]at hG
  have h0:x.es[0]?=some a:=by rw[he];rfl
  have h1:x.es[1]?=some b:=by rw[he];rfl
  obtain⟨k1,k3,k4⟩:=esAt (okV X1.fr.sub X1.M.sub) h0
  refine qAF (by omega) (qAQ h ⟨k1,by decide,k3,_,_,_,_,k4,PS.bind X1.fr.sub hG (ex h0 hv ha X1 (by omega)) fun v s2 V2 e2 M2 hG2=>?_⟩)
  obtain⟨X2,hv2,-⟩:=go (m:=3000) hv ha X1 e2 M2
  obtain⟨l1,l3,l4⟩:=esAt (okV X2.fr.sub X2.M.sub) h1
  refine⟨l1,by decide,l3,_,_,_,_,l4,PS.bind X2.fr.sub hG2 (ex h1 hw ht X2 (by omega)) fun y s3 V3 e3 M3 hG3=>?_⟩
  obtain⟨X3,hv3,g3⟩:=go (m:=2000) hw ht X2 e3 M3
  have hv2:=g3.val hv2
  refine⟨fun hz=>qJJ (PS.bad (s:=s3) ?_ X3.fr.sub M3),fun hz=>?_⟩
  ·rw[hG3];unfold putX;rw[if_pos (show v=0 from hz)];rfl
  have hz:¬v=0:=hz
  obtain⟨k,i,j,tt,g,fs,z,rfl,f2,f3,f4,f5,f6,f7,f8,-⟩:=qHZ X3.G hl hv2 hz
  have hG4:G=.ok (vals,none) { s3 with ns:=s3.ns.set k ((j:Int),fs.set i y),lg:=s3.lg++[(2,(k:Int)+1,(i:Int))] }:=by
   rw[hG3];unfold putX
   rw[if_neg hz,show ((k:Int)+1-1).toNat=k by omega,f2]
   simp only
   rw[f5,f6,Int.toNat_natCast];rfl
  refine(c244 (X3.S.sub X3.fr.sub) M3 f2 f3).call ⟨_,rfl,?_⟩
  rw[f6]
  refine Tri.mono (c243 M3 (Cx.fit (m:=0) (X3.cx.le (by omega)))) ?_
  rintro _ V5 ⟨rfl,M5⟩
  obtain⟨gs5,ns5,ls5,nd5,sl5,hat5,L5,hnd5,hI,n1,n2,n3,n4,m1,m2,m3,m4⟩:=nodeAt M5 (k:=k) (i:=i) f2 f8
  have hil:=(List.getElem?_eq_some_iff.1 f8).1
  rw[show ((k:Int)+1-1)=(k:Int) by omega]
  refine⟨rfl,nn,nn,pnn,ns5,qAe hat5 9 1 (by simp[qBT]),hI,n1,n2,n3,qAd n1,_,_,n4,m1,m2,m3,L5.setF hnd5 hil fun V6 L6 hk6=>?_⟩
  refine PS.ok hG4 X3.fr (V0:=V0) (MA.mk M5.p0 ⟨gs5,ns5,ls5,_,?_,L6⟩) rfl rfl
  rw[hk6 _ (notBlk hat5 ntE (L5.fld _ (List.mem_of_getElem? hnd5)) (.inl rfl))];exact hat5
 | @cond a h he hv ht =>
  rw[if_neg (by omega),if_neg (by omega),if_pos h,he,List.getD_cons_zero]at hG
  have h0:x.es[0]?=some a:=by rw[he];rfl
  obtain⟨k1,k3,k4⟩:=esAt (okV X1.fr.sub X1.M.sub) h0
  obtain⟨-,-,-,hlt1,hlt2⟩:=hty.parts
  refine qAF (by omega) (qAF (by omega) (qAQ h ⟨k1,by decide,k3,_,_,_,_,k4,PS.bind X1.fr.sub hG (ex h0 hv ht X1 (by omega)) fun v s2 V2 e2 M2 hG2=>?_⟩))
  obtain⟨X2,hv2,-⟩:=go (m:=3000) hv ht X1 e2 M2
  have hv2:=qBg.1 hv2
  have fin:∀{l:List S} {sl:Sl},(∀y∈l,TyS d pr y)->(∀y∈l,S.Ok W y)->qAc W sl 5 (l.map S.row)->G=qGa d F n c pr l vals s2->Tri Tryz.prog 164 #[pv p,pv q,.slice sl.p sl.n sl.c] V2 fun e' V'=>(∃b v,e'=.returned (.agg #[.bool b,.int .i64 v])/\PS W d p F c q pr G (.returned (.agg #[.bool b,.int .i64 v])) V')∨∃ch,e'=.panicked ch/\PS W d p F c q pr G e' V':=fun {l sl} t1 t2 t3 hGl =>
   PS.split (hS l W V0 V2 s2 c q pr vals sl (X2.le (by omega)) t1 t2 t3) (fun k s3 c' V3 e3 M3=>by rw[hGl,e3];exact⟨rfl,c',M3⟩) fun rt s3 V0' V3 e3 hf3 M3=>PS.ok (hGl.trans e3) hf3 M3 rfl rfl
  refine⟨fun hz=>fin hlt1 hok.lOk hok.lRows ?_,fun hz=>fin hlt2 hok.xOk hok.xRows ?_⟩
  ·have hz:v=1:=hz
   rw[hG2,if_neg (by omega)]
  ·have hz:¬v=1:=hz
   rw[hG2,if_pos (by omega)]
 | @loop a h he hv ht =>
  rw[if_neg (by omega),if_neg (by omega),if_neg (by omega),if_pos h,he,List.getD_cons_zero]at hG
  have h0:x.es[0]?=some a:=by rw[he];rfl
  obtain⟨-,-,-,hlt1,-⟩:=hty.parts
  refine qAF (by omega) (qAF (by omega) (qAF (by omega) (qAQ h ?_)))
  refine⟨fun m xs V2=>xs=[]/\∃V0' vals' s',Sx1 W V0' d p F c q pr vals' n 1000 V2 s'/\F<m+s'.tk/\G=whX d F (qGa d F n) c pr a x.ls m vals' s',n+1,⟨rfl,V0,vals,s1,X1.le (by omega),by have:=X1.n;omega,hG⟩,?_⟩
  rintro m V2 ⟨-,V0',vals',s',X',hm,hG'⟩ J hJ
  obtain⟨m,rfl⟩:∃m',m=m'+1:=⟨m-1,by have:=X'.tk;omega⟩
  rw[whX]at hG'
  obtain⟨k1,k3,k4⟩:=esAt (okV X'.fr.sub X'.M.sub) h0
  refine⟨k1,by decide,k3,_,_,_,_,k4,PS.bind X'.fr.sub hG' (ex h0 hv ht X' (by omega)) fun v s2 V3 e2 M2 hG2=>?_⟩
  obtain⟨X2,hv2,g2⟩:=go (m:=0) hv ht X' e2 M2
  have hv2:=qBg.1 hv2
  refine⟨fun hz=>?_,fun hz=>?_⟩
  rotate_left
  ·have hz:¬v=1:=hz
   rw[if_pos (by omega)]at hG2
   exact PS.ok hG2 X2.fr X2.M rfl rfl
  have hz:v=1:=hz
  rw[if_neg (by omega)]at hG2
  have P:=hcs c pr x.ls vals' s2 X2.po hlt1 X2.G X2.hv
  refine PS.split (hS x.ls W V0' V3 s2 c q pr vals' x.ll X2 hlt1 hok.lOk hok.lRows) (fun k s3 c' V4 e3 M3=>?_) fun rt s3 V0'' V4 e3 hf3 M3=>?_
  ·rw[hG2,e3];exact⟨rfl,c',M3⟩
  obtain⟨G3,g3,q3⟩:=P.got e3
  have X3:=X2.next (m:=0) (k:=0) g3 G3 hf3 q3.1 M3
  rw[e3]at hG2
  cases hrt:rt.2 with
  | some z =>
   have hG3:G=.ok rt s3:=by rw[hG2];show (match rt.2 with|some _=>_|none=>_)=_;rw[hrt]
   exact⟨fun _=>PS.ok hG3 hf3 M3 (by rw[hrt]) (by rw[hrt]),fun h=>absurd rfl h⟩
  | none =>
   have hG3:G=(qKB F s3).bind fun _ st=>whX d F (qGa d F n) c pr a x.ls m rt.1 st:=by rw[hG2];show (match rt.2 with|some _=>_|none=>_)=_;rw[hrt]
   refine⟨(fun h=>by cases h),fun _=>Tri.mono (c240 hF M3) ?_⟩
   rintro e4 V5 (⟨hlt',rfl,M5⟩|⟨hge,rfl,rfl⟩)
   ·refine .inl ⟨rfl,hJ m _ _ (by omega) ⟨rfl,V0'',rt.1,{ s3 with tk:=s3.tk+1 },(X3.tick' hlt' M5).le (by omega),?_,by rw[hG3,tickX_ok hlt'];rfl⟩⟩
    have:=g2.tk;have:=g3.tk
    show F<m+(s3.tk+1);omega
   ·exact .inr ⟨_,rfl,PS.bad (s:=s3) (by rw[hG3,tickX_bad hge];rfl) hf3.sub M3⟩
 | ret0 h he hr =>
  rw[if_neg (by omega),if_neg (by omega),if_neg (by omega),if_neg (by omega),if_pos h,he]at hG
  have hn:=(okV X1.fr.sub X1.M.sub).eRows.n_eq
  rw[he]at hn
  refine qAF (by omega) (qAF (by omega) (qAF (by omega) (qAF (by omega) (qAQ h (qAQ (by rw[hn];rfl) ?_)))))
  exact PS.ok hG X1.fr X1.M rfl rfl
 | @ret1 a u h he hv ht hr hf =>
  rw[if_neg (by omega),if_neg (by omega),if_neg (by omega),if_neg (by omega),if_pos h,he]at hG
  have h0:x.es[0]?=some a:=by rw[he];rfl
  obtain⟨k1,k3,k4⟩:=esAt (okV X1.fr.sub X1.M.sub) h0
  refine qAF (by omega) (qAF (by omega) (qAF (by omega) (qAF (by omega) (qAQ h (qAF (by omega) ⟨k1,by decide,k3,_,_,_,_,k4,PS.bind X1.fr.sub hG (ex h0 hv ht X1 (by omega)) fun v s2 V2 e2 M2 hG2=>?_⟩)))))
  exact PS.ok hG2 X1.fr M2 rfl rfl
 | @call a pr' i h he hv ho hc =>
  rw[if_neg (by omega),if_neg (by omega),if_neg (by omega),if_neg (by omega),if_neg (by omega),if_pos h,he,List.getD_cons_zero]at hG
  unfold evS at hG
  rw[evX_eq,cX7 ho,hc.idx]at hG
  have h0:x.es[0]?=some a:=by rw[he];rfl
  obtain⟨k1,k3,k4⟩:=esAt (okV X1.fr.sub X1.M.sub) h0
  have hp:=qCq hv
  have hea:=hok.eOk a (List.mem_of_getElem? h0)
  refine qAF (by omega) (qAF (by omega) (qAF (by omega) (qAF (by omega) (qAF (by omega) (qAQ h ⟨k1,by decide,k3,_,_,_,_,k4,PS.bind X1.fr.sub hG (callC hR (X1.cx.le (by omega)) (hea.sub X1.fr.sub) hc hp.1 fun b hb u W' V2 s2 hW' X2 ht=>?_) fun v s2 V2 e2 M2 hG2=>?_⟩)))))
  ·exact hE b u W' V2 s2 c q pr vals X2 (hp.1.kids b hb) (((hea.sub X1.fr.sub).kids b hb).sub hW') ht
  ·exact PS.ok hG2 X1.fr M2 rfl rfl
end
theorem own_zero{V0 V:Mem}{e:TypeId}{sz:Nat}{s:Sl}{vs:List Value}(h:Sx.Own V0 V e sz s vs):Sx.Own V0 V e sz ⟨s.p,0,s.c⟩ []:=⟨h.sub,by simp,by
 rcases h.at_ with⟨h1,h2,h3⟩|⟨g,cur,h1,h2,h3,h4,h5,h6,h7⟩
 ·simp_all
 simp_all⟩
theorem own_to{V0 V V0' V':Mem}{e:TypeId}{sz:Nat}{s:Sl}{vs:List Value}(h:Sx.Own V0 V e sz s vs)(hs:V0'.sub V')(hk:∀g o,Blk s g->V0 g=none->V g=some o->V0' g=none/\V' g=some o):Sx.Own V0' V' e sz s vs:=⟨hs,h.len,by
 rcases h.cases0 with h1|⟨hc,g,cur,h1,h2,h3,h4⟩
 ·exact .inl h1
 ·exact .inr ⟨g,cur,h1,(hk g _ ⟨hc,h1⟩ h2 h3).1,(hk g _ ⟨hc,h1⟩ h2 h3).2,h4⟩⟩
theorem own_p0{V0 V:Mem}{e:TypeId}{sz:Nat}{s:Sl}{vs:List Value}(h:Sx.Own V0 V e sz s vs)(hc:s.c≠0)(m:Nat):qAa s.p (0*m)=s.p:=by
 rw[Nat.zero_mul]
 rcases h.at_ with⟨h1,h2,h3⟩|⟨g,cur,h1,-⟩
 ·omega
 ·rw[h1];rfl
theorem az31{V0 V:Mem}{ty:TypeId}{x y:Operand}{vals:Operand->Value}{s:Sl}{n:Nat}{vs:List Int}(hx:vals x=.slice s.p s.n s.c)(hy:vals y=.int .i64 n)(own:Sx.Own V0 V 3 1 s (vs.flatMap qAf))(hfit:s.n+n<=2147483648){q:Value->Mem->Prop}
  (hq:∀(s':Sl) V',Sx.Own V0 V' 3 1 s' ((vs++List.replicate n (0:Int)).flatMap qAf)->q (.slice s'.p s'.n s'.c) V'):GenK Tryz.prog (.call { callee:=.builtin .append,args:=#[x,y],argTypes:=#[31,3] }) ty vals V q :=
 Go.Sx.GenK.appendZ (z:=.int .i64 0) (i:=ti 3) (k:=.i64) Tryz.underlying31 Tryz.underlying3 (by kernel_rfl) (by kernel_rfl) (by kernel_rfl) (by kernel_rfl) (by decide) (of_decide_eq_true (by kernel_rfl)) (fun u hu=>by
  have hc:(Value.int .i64 0).cells=#[Value.int .i64 0]:=by rfl
  rw[hc]at hu;simp at hu;subst hu;rfl) hx hy own hfit fun s' V' h=>hq s' V' (by
  rw[List.flatMap_append]
  have e:(List.replicate n (0:Int)).flatMap qAf=(Builtin.zeroCells (Value.int .i64 0).cells n).toList:=by rw[qKw,qBj,List.map_replicate]
  rw[e];exact h)
theorem az23{V0 V:Mem}{ty:TypeId}{x y:Operand}{vals:Operand->Value}{s:Sl}{n:Nat}{vs:List Value}(hx:vals x=.slice s.p s.n s.c)(hy:vals y=.int .i64 n)(own:Sx.Own V0 V 101 2 s vs)(hfit:s.n+n<=2147483648){q:Value->Mem->Prop}
  (hq:∀(s':Sl) V' ws,Sx.Own V0 V' 101 2 s' ws->q (.slice s'.p s'.n s'.c) V'):GenK Tryz.prog (.call { callee:=.builtin .append,args:=#[x,y],argTypes:=#[23,3] }) ty vals V q :=
 Go.Sx.GenK.appendZ (z:=.agg #[.string (qAm []),.string (qAm [])]) (i:=ti 101) (k:=.i64) Tryz.underlying23 Tryz.underlying3 (by kernel_rfl) (by kernel_rfl) (by kernel_rfl) (by kernel_rfl) (by decide) (of_decide_eq_true (by kernel_rfl)) (fun u hu=>by
  have hc:(Value.agg #[.string (qAm []),.string (qAm [])]).cells=#[.string (qAm []),.string (qAm [])]:=by rfl
  rw[hc]at hu;simp at hu;subst hu;rfl) hx hy own hfit fun s' V' h=>hq s' V' _ h
theorem c198{V:Mem}{n:Nat}(hn:n<=2147483648):Tri Tryz.prog 198 #[.slice none 0 0,.int .i64 n] V fun e V'=>∃s:Sl,e=.returned (.slice s.p s.n s.c)/\Sx.Own V V' 101 2 s []:=by
 refine x198 (a:=⟨none,0,0⟩) (b:=n) ?_
 unfold w198
 have e:(n:Int)-(((0:Nat):Int)-((0:Nat):Int))=n:=by omega
 refine qAF (by omega) ⟨⟨by simp,by simp⟩,⟨by rw[e];omega,by rw[e];omega⟩,fun h=>⟨⟨by omega,by omega,by omega⟩,?_⟩,fun h=>⟨⟨none,0,0⟩,rfl,Own.nil (Mem.sub.refl _) _ _⟩⟩
 refine az23 (s:=⟨none,0,0⟩) (n:=n) (vs:=[]) (V0:=V) rfl (by rfl) (Own.nil (Mem.sub.refl _) _ _) (by simpa using hn) fun s' V' ws ho=>⟨s',rfl,⟨by omega,by omega,by simp⟩,⟨s'.p,0,s'.c⟩,?_,own_zero ho⟩
 by_cases hc:s'.c=0
 ·simp[hc]
 ·rw[if_neg (by omega),show ((0:Int).toNat*2)=0*2 from rfl,own_p0 ho hc];simp
theorem c163{V:Mem}{sl a b:Sl}{xs ys:List Fld}(h:qAc V sl 1 ([a,b].map fun s:Sl=>[s.v]))(ha:qAc V a 2 (xs.map Fld.row))(hb:qAc V b 2 (ys.map Fld.row))(hx:xs.length<=100)(hy:ys.length<=100) :
  Tri Tryz.prog 163 #[sl.v] V fun e V'=>∃s:Sl,e=.returned (.slice s.p s.n s.c)/\Sx.Own V V' 101 2 s ((xs++ys).flatMap Fld.row):=by
 have han:=ha.n_eq
 have hbn:=hb.n_eq
 refine x163 ?_
 unfold w163
 refine qFt (mk:=fun k:Int=>.int .i64 k) (b0:=0) qEf 2 (fun i k V1=>V1=V/\k=(((([a,b].take i).map (fun s:Sl=>s.n)).sum:Nat):Int)) ⟨rfl,rfl⟩ ?_
 rintro i k V1 J hi ⟨rfl,rfl⟩ hJ
 refine⟨fun hlt=>?_,fun hge=>?_⟩
 ·obtain⟨u,hum,hu,hdr,hil,hp,hz,hrow⟩:=h.get hlt
  have hun:u.n<=100:=by
   grind
  have hs:(([a,b].take (i+1)).map (fun s:Sl=>s.n)).sum=(([a,b].take i).map (fun s:Sl=>s.n)).sum+u.n:=by grind
  have hs2:(([a,b].take i).map (fun s:Sl=>s.n)).sum<=200:=by
   rcases (show i=0∨i=1 by grind) with rfl|rfl
   ·simp
   ·simp;omega
  refine⟨hp,hz,hlt,u,hrow,⟨by omega,by omega⟩,qAF (by omega) ⟨h.succ hlt,hJ hil _ _ ⟨rfl,by omega⟩⟩⟩
 ·have h2:=(h.done hge).2
  have hi2:i=2:=by grind
  subst hi2
  refine Tri.mono (c198 (by simp;omega)) ?_
  rintro _ V2 ⟨s0,rfl,ho0⟩
  refine⟨s0,rfl,qFt (mk:=fun s:Sl=>.slice s.p s.n s.c) (b0:=s0) qBc 2 (fun j s V3=>Sx.Own V1 V3 101 2 s ((([xs,ys].take j).flatten).flatMap Fld.row)) ho0 ?_⟩
  rintro j s V3 J1 hj ho hJ1
  have h':=h.sub ho.sub
  refine⟨fun hlt=>?_,fun hge=>?_⟩
  ·obtain⟨u,hum,hu,hdr,hil,hp,hz,hrow⟩:=h'.get hlt
   obtain⟨zs,hzs,hzr,hzl⟩:∃zs,[xs,ys][j]?=some zs/\qAc V3 u 2 (zs.map Fld.row)/\([xs,ys].take j).flatten.length+zs.length<=2147483648:=by
    rcases (show j=0∨j=1 by omega) with rfl|rfl
    ·simp at hu;subst hu;exact⟨xs,rfl,ha.sub ho.sub,by simp;omega⟩
    ·simp at hu;subst hu;exact⟨ys,rfl,hb.sub ho.sub,by simp;omega⟩
   refine⟨hp,hz,hlt,u,hrow,qHO (s:=s) (u:=u) (xs:=([xs,ys].take j).flatten) (ys:=zs) rfl rfl ho hzr hzl fun s' V' ho'=>⟨s',rfl,h'.succ hlt,hJ1 hil _ _ ?_⟩⟩
   grind
  ·have h3:=(h'.done hge).2
   grind
theorem runC{d:Ds}{p F n:Nat}(H:SC d p F n):CallC d p F n:=by
 intro V0 V s c i pr args l hS hpr G ha hl M htk hn hw
 obtain⟨G',hG⟩:∃G':Rx Int,G'=qEl d (qGa d F n) c i args s:=⟨_,rfl⟩
 rw[<- hG]
 have hpm:=List.mem_of_getElem? hpr
 have hpo:=hS.procs pr hpm
 have hok:=hS.ds.procsOk pr hpm
 refine Tri.mono (x116 (R:=PX V0 d p F c G') ?_) fun _ _ h=>h
 unfold w116
 obtain⟨gs,ns,ls,nd,hat,L⟩:=M.ex
 unfold qEl at hG
 refine⟨nn,nn,_,qAe hat 12 1 (by simp[qBT]),fun h2=>qJJ (PX.bad (by grind) M),fun h2=>?_⟩
 rw[if_neg (by omega),Int.toNat_natCast,hpr]at hG
 refine⟨nn,nn,_,qAe hat 12 1 (by simp[qBT]),⟨by omega,by omega⟩,nn,nn,StT.at2 (off:=12) hat (by simp[qBT]) ?_⟩
 have M1:EM V0 d p F (V.set p (.cells (qBT d F s.tk ((c+1:Nat):Int) s.cm gs ns ls).toArray 128 (0,0))) s (c+1):=MA.set (row':=qBT d F s.tk ((c+1:Nat):Int) s.cm) ntE M.p0 hat L rfl rfl rfl rfl
 obtain⟨V1,hV1⟩:∃V1,V1=V.set p (.cells (qBT d F s.tk ((c+1:Nat):Int) s.cm gs ns ls).toArray 128 (0,0)):=⟨_,rfl⟩
 rw[<- hV1]at M1
 show qAs _ _ (V.set p (.cells (qBT d F s.tk ((c+1:Nat):Int) s.cm gs ns ls).toArray 128 (0,0))) _
 rw[<- hV1]
 intro b1 hb1
 obtain⟨V2,hV2⟩:∃V2,V2=V1.set b1 (.cells #[.slice pr.ps.p pr.ps.n pr.ps.c,.slice pr.ls.p pr.ls.n pr.ls.c] 23 (0,0)):=⟨_,rfl⟩
 have s12:V1.sub V2:=hV2 ▸ Mem.sub_new hb1 _
 have s02:=M1.sub.trans s12
 have hrow:qAc V2 ⟨some ⟨b1,0,none⟩,2,2⟩ 1 ([pr.ps,pr.ls].map fun s:Sl=>[s.v]):=qAc.cells (xs:=[pr.ps,pr.ls]) (row:=fun s:Sl=>[s.v]) (by rw[hV2];exact Mem.set_same _ _ _) rfl (fun _=>rfl) rfl (by simp)
 show Tri _ _ #[.slice (sa b1) 2 2] (V1.set b1 (.cells #[.slice pr.ps.p pr.ps.n pr.ps.c,.slice pr.ls.p pr.ls.n pr.ls.c] 23 (0,0))) _
 rw[<- hV2]
 have hln:=hpo.lens
 refine Tri.mono (c163 hrow (hok.params.sub s02) (hok.locals.sub s02) (by omega) (by omega)) ?_
 rintro _ V3 ⟨s3,rfl,o3⟩
 have s03:=s02.trans o3.sub
 have hal:=(qAG.1 ha).1
 refine⟨s3,rfl,Tri.mono (c42 (hl.sub s03) (by omega)) ?_⟩
 rintro _ V4 ⟨s4,rfl,o4⟩
 have h4n:=o4.n_eq (fun _=>rfl) (by decide)
 have hlsn:=hok.locals.n_eq
 refine⟨s4,rfl,az31 (s:=s4) (n:=pr.ls.n) rfl rfl o4 (by omega) fun s5 V5 o5=>⟨s5,rfl,fun b2 hb2=>?_⟩⟩
 rw[hlsn]at o5
 obtain⟨V6,hV6⟩:∃V6,V6=V5.set b2 (.cells #[.slice s3.p s3.n s3.c,.slice s5.p s5.n s5.c] 243 (0,0)):=⟨_,rfl⟩
 have s56:V5.sub V6:=hV6 ▸ Mem.sub_new hb2 _
 have s36:=o5.sub.trans s56
 have s16:=s12.trans (o3.sub.trans s36)
 obtain⟨W,w0,w6,MW,hWn⟩:=M1.after s16
 show Tri _ _ #[pv p,pv b2,.slice pr.bs.p pr.bs.n pr.bs.c] (V5.set b2 (.cells #[.slice s3.p s3.n s3.c,.slice s5.p s5.n s5.c] 243 (0,0))) _
 rw[<- hV6]
 have n1:∀{b:Nat},V2 b=none->V1 b=none:=fun {b} h=>by
  cases hc:V1 b with
  | none=>rfl
  | some o=>rw[s12 _ _ hc]at h;cases h
 have n3:∀{b:Nat},V3 b=none->V2 b=none:=fun {b} h=>by
  cases hc:V2 b with
  | none=>rfl
  | some o=>rw[o3.sub _ _ hc]at h;cases h
 have n5:V3 b2=none:=by
  cases hc:V3 b2 with
  | none=>rfl
  | some o=>rw[o5.sub _ _ hc]at hb2;cases hb2
 have hbk:∀{b:Nat},Blk s5 b->V3 b=none:=fun h=>Own.none0 o5 h
 have hws:V0.sub (W.but s5):=fun b o hb=>Mem.but_at (w0 _ _ hb) fun hk=>by have:=hbk hk;rw[s03 _ _ hb]at this;cases this
 have o5':Sx.Own (W.but s5) W 3 1 s5 ((args++List.replicate pr.locals.length (0:Int)).flatMap qAf):=own_to o5 (Mem.but_sub _ _) fun g o hk h0 h1=>⟨by grind [Mem.but],hWn _ _ (n1 (n3 h0)) (s56 _ _ h1)⟩
 have o3':Sx.Own (fun _=>none) (W.but s5) 101 2 s3 ((pr.params++pr.locals).flatMap Fld.row):=own_to o3 (fun _ _ h=>by cases h) fun g o hk h0 h1=>⟨rfl,Mem.but_at (hWn _ _ (n1 h0) (s36 _ _ h1)) fun hk'=>by simp_all⟩
 have hfr:W b2=some (.cells #[s3.v,s5.v] 243 (0,0)):=hWn _ _ (n1 (n3 n5)) (by rw[hV6];exact Mem.set_same _ _ _)
 have nb2:¬Blk s5 b2:=fun hk=>by
  grind [Own.some]
 have FR:FrM (W.but s5) W b2 pr (args++List.replicate pr.locals.length 0):=⟨Mem.but_sub _ _,s3,s5,Mem.but_at hfr nb2,o3'.rows (fun _=>rfl) (by decide),o5'⟩
 have hv:=qEV ha (qFy G.valid fun f hf=>hpo.vars f (List.mem_append_right _ hf))
 have hbody:qAc (W.but s5) pr.bs 5 (pr.body.map S.row):=hok.body.sub hws
 refine PS.split (H pr.body (W.but s5) W V6 s (c+1) b2 pr _ pr.bs ⟨hS.sub hws,FR,hpo,G,hv,MW,htk,hn,hw⟩ hpo.body (fun x hx=>(hok.stmts x hx).sub hws) hbody) (fun k s2 c' V7 e2 M7=>?_) fun rt s2 W7 V7 e2 f7 M7=>?_
 ·rw[hG];show PX V0 d p F c ((qGa d F n (c+1) pr pr.body _ s).bind _) _ _
  rw[e2];exact⟨rfl,c',M7.narrow hws⟩
 ·have M8:=M7.narrow (hws.trans f7.sub)
  obtain⟨gs7,ns7,ls7,nd7,hat7,L7⟩:=M8.ex
  refine⟨nn,nn,_,qAe hat7 12 1 (by simp[qBT]),⟨by omega,by omega⟩,nn,nn,StT.at2 (off:=12) hat7 (by simp[qBT]) ?_⟩
  rw[hG];show PX V0 d p F c ((qGa d F n (c+1) pr pr.body _ s).bind _) _ _
  rw[e2]
  refine⟨rfl,?_⟩
  have e:(((c+1:Nat):Int)-1)=(c:Int):=by omega
  rw[e]
  exact MA.set (row':=qBT d F s2.tk c s2.cm) ntE M8.p0 hat7 L7 rfl rfl rfl rfl
theorem allC(d:Ds)(p F:Nat):∀n,SC d p F n
 | 0=>fun l W V0 V s c q pr vals sl X _ _ _=>absurd X.n (by have:=X.tk;omega)
 | n+1=>stsC (stC (exprC (runC (allC d p F n))) (allC d p F n) (runC (allC d p F n)))
end Go.Proofs
namespace Go.Proofs
open Go Go.Sx
section
variable{d:Ds}{F F' b:Nat}
def Sext(s t:St):Prop:=(∃l,t.lg=s.lg++l)/\s.tk<=t.tk/\s.ns.length<=t.ns.length
def RE{α:Type}(s:St)(r:Rx α):Prop:=Sext s r.st
end
end Go.Proofs
