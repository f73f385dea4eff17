/- Part 17: no statement of the seat is proved here. -/
import Derived.Test.YtejinebghgaigaaGreatDoorPr16
import Derived.Test.YtejinebghgaigaaGreatDoorRows
import Derived.Lib.LaidIn
import Derived.Lib.LaidTab
import Derived.Handed
import Derived.Test.YtejinebghgaigaaGreatDoorPr10
set_option linter.unusedVariables false
set_option linter.unusedSimpArgs false
open Go.Proofs.Tryz renaming prog->xE
open Go.Lib renaming TabIs->xK,asciiSpaceTab->xL
open Go.DataW renaming Trod->vH,TrodAll->vM
open Go.World renaming settled->vJ
open Go.Value renaming int->xe
open Option.some renaming inj->vK
open Go.Input renaming okWide_of_okWideB->vL
open Go.IntKind renaming wrap->xF,signed->zQ,bits->zR
open Int renaming tdiv_eq_ediv_of_nonneg->vN
open List renaming getElem?_eq_some_iff->yw,mem_of_getElem?->xJ,mem_iff_getElem?->xn,replicate->yI,length_append->zw,length_singleton->xi,getElem?_eq_getElem->yv,length_map->xm
namespace Go.Proofs.YtejinebghgaigaaGreatDoor
open Go Go.Sx Go.Proofs Go.ChangeShapes Go.WideShapes Go.ChangeAt Go.RowKit
theorem same_old{P:Program}{f:FuncId}{args:List Value}{W:World}{v:Value}(h:Bv P f args (BM W) v):Calls P f args.toArray W λe g=>e=.returned v/\g.os=W.os/\g.output=W.output/\W.heap.size<=g.heap.size/\∀b,b<W.heap.size->g.heap[b]?=W.heap[b]?:=by
 have h2:Tri P f args.toArray (BM W) λe V'=>e=.returned v/\V'=BM W:=h;unfold Tri at h2;refine IJ (h2 W (heapM_le W)) ?_;rintro e g ⟨V',⟨rfl,rfl⟩,t⟩;refine⟨rfl,t.os,t.out,t.size,λb u=>?_⟩;have:BM W b=some W.heap[b]:=Array.getElem?_eq_getElem u;rw[t.le b _ this];exact this.symm
theorem Tryz.own:ownKnob xE.godebug=none:=by kernel_rfl
theorem Tryz.laidOut:laidOutB xE=true:=by kernel_rfl
theorem tab_of{W:World}(h:xK xE W "strings.asciiSpace" .u8 xL):Tab (BM W):=by
 have g:xE.globalNamed "strings.asciiSpace" =some 0:=by kernel_rfl
 unfold xK World.var? at h;rw[g,Option.bind_some]at h;split at h
 ·rename_i cs t fr f;simp only[Option.some.injEq]at h;exact⟨t,fr,by rw[<-h];exact f⟩
 ·cases h
theorem desc_of{H:Type}{enc:TypeId×Value->H}{W:World}{v:Value}{t:DataW H}{p:List MemPlace}(h:vH enc xE W 0 (λ_=>true) true 35 v t p):∃d:Ds,v=d.v/\Ds.Ok (BM W) d:=by
 obtain⟨fuel,h⟩:=h;obtain⟨d,f,g⟩:=rdDs h;refine⟨d,?_,g⟩;have u:v.cells.toList.length=8:=by rw[<-f];rfl
 cases v with
 |agg cs=>
  have:cs.toList=d.row:=f.symm;show Value.agg cs=.agg d.row.toArray;rw[<-this]
 |_=>simp[Value.cells]at u
noncomputable def laidWorld(os:Os):World:=
 let w0:=World.holding xE os ⟨#[.cells #[.int .u16 9,.int .u16 13,.int .u16 1,.int .u16 32,.int .u16 133,.int .u16 101,.int .u16 160,.int .u16 5760,.int .u16 5600,.int .u16 8192,.int .u16 8202,.int .u16 1,.int .u16 8232,.int .u16 8233,.int .u16 1,.int .u16 8239,.int .u16 8287,.int .u16 48,.int .u16 12288,.int .u16 12288,.int .u16 1] 418,
  .cells #[.slice (some ⟨(vJ xE os).heap.size,0,none⟩) 7 7,.slice none 0 0,.int .i64 2] 415],#[],[]⟩
 {w0 with heap:=(w0.heap.modify 0 fun
   |.cells _ t frozen=>.cells (xL.map λz=>xe .u8 z).toArray t frozen
   |o=>o).modify 1 fun
   |.cells _ t frozen=>.cells #[.pointer (some ⟨(vJ xE os).heap.size+1,0,none⟩)] t frozen
   |o=>o}
theorem Q3(os:Os)(args:Array Value):laidMet xE [("unicode.White_Space",Rows.laid_unicode_White_Space),("strings.asciiSpace",Rows.laid_strings_asciiSpace)] ((laidWorld os).forCall (λ_ _=>0) ⟨#[],args,[]⟩).memory:=
 (LaidIn.of_run [0,1,(vJ xE os).heap.size,(vJ xE os).heap.size+1] 12 (by kernel_rfl) (by kernel_rfl) (by kernel_rfl) (by kernel_rfl)).met
end Go.Proofs.YtejinebghgaigaaGreatDoor
namespace Go.Proofs.YtejinebghgaigaaGreatDoor
open Go Go.Sx Go.Proofs Go.ChangeShapes Go.WideShapes Go.ChangeAt Go.RowKit
abbrev laid0:List (String×DataW Unit):=[("unicode.White_Space",Rows.laid_unicode_White_Space),("strings.asciiSpace",Rows.laid_strings_asciiSpace)]
theorem OJ{w:World}:laidMetH xE laid0 w↔laidMet xE laid0 w:=by
 rfl
theorem tab_laid{W:World}(h:laidMet xE laid0 W):Tab (BM W):=by
 obtain⟨ps,h1,h2,h3⟩:=h;obtain⟨g,t,cs,fuel,p,q,I,L,Z,R,f,Q⟩:=h1;obtain⟨P,O,A,l,X,B,o,v,u,z,i,Y⟩:=f;refine tab_of ?_;unfold xK;rw[u];have J:P=0:=vK (o.symm.trans (show xE.globalNamed "strings.asciiSpace" =some 0 by kernel_rfl));subst J;have N:O=379:=vK (v.symm.trans (show(xE.globals[0]?).map (·.type)=some 379 by kernel_rfl));subst N;have j:(Rows.laid_strings_asciiSpace:DataW Unit)=Lib.tabData .u8 xL:=by kernel_rfl
 rw[j]at z;rw[<-Lib.cells_of_tab (n:=256) (e:=5) Tryz.underlying379 Tryz.underlying5 (by kernel_rfl) (by kernel_rfl) z]
theorem kept{W h:World}(h1:h.os=W.os)(h2:h.output=W.output)(f:∀b,b<W.heap.size->h.heap[b]?=W.heap[b]?)(g:MemPlace->Prop):W.keptBut h g:=by
 refine⟨h1,h2,λi hi=>?_⟩;grind
theorem again_arg{H:Type}{enc:TypeId×Value->H}{t:TypeId}(i:xE.readableRec t=true)(f:t<xE.types.size){W z:World}{v:Value}{d:DataW H}{ps:List MemPlace}(h:vH enc xE W 0 (λ_=>true) true t v d ps)
  (g:∀b,b<W.heap.size->z.heap[b]?=W.heap[b]?) (u:∀x∈ps,x.block<W.heap.size):vH enc xE z 0 (λb=>decide (b<W.heap.size)) true t v d ps:=
 WideElems.Trod_stays Tryz.laidOut i f h (λx j=>by
  have:=u x j;cases x with
  |cell b o=>exact World.cell?_of_block (w:=W) (g b this)
  |map b=>exact g b this) (λx j=>by simp_all)
theorem Q4{C:Checked}{os:Os}{f:FuncId}{fn:Func}{s:ChangeSpec}{g:List PathCond}{apart:Bool}{X:World->Array Value->Prop}{H:Type}{enc:TypeId×Value->H}(w0:World)(args:Array Value)(fuel:Nat)(z:w0.os=os)
  (hv:(w0.forCall (λ_ _=>0) ⟨#[],args,[]⟩).variablesRefB C.prog=true)
  (l:((w0.forCall (λ_ _=>0) ⟨#[],args,[]⟩).heap.toList.drop C.prog.globals.size).take ((begin C.prog (λ_ _=>0) default).world.heap.size-C.prog.globals.size)=
   (begin C.prog (λ_ _=>0) default).world.heap.toList.drop C.prog.globals.size)
  (t:Input.okWideB C.prog (w0.forCall (λ_ _=>0) ⟨#[],args,[]⟩) f ⟨#[],args,[]⟩=true)
  (u:s.preB enc C.prog fn g apart (w0.forCall (λ_ _=>0) ⟨#[],args,[]⟩).memory args fuel=true)
  (j:s.sizedB enc C.prog fn apart (w0.forCall (λ_ _=>0) ⟨#[],args,[]⟩).memory args fuel=true)
  (o:X (w0.forCall (λ_ _=>0) ⟨#[],args,[]⟩).memory args):
  ∃(w:World)(h:Tape)(i:Input),w.os=os/\(w.forCall h i).Shaped C.prog/\i.vars=[]/\Input.okWide C.prog (w.forCall h i) .any w.heap.size f i/\
   ((s.pre enc C.prog fn g apart (w.forCall h i).memory i.args/\X (w.forCall h i).memory i.args)/\sizedMet enc C.prog fn (OpenSpec.ofChange s) apart (w.forCall h i).memory i.args)/\({}:Assume).holds C.prog (lone (Frame.enter C.prog f i.args .normal) [] (w.forCall h i)):=
 ⟨w0,λ_ _=>0,⟨#[],args,[]⟩,z,World.shaped_of_RefB hv l,(vL (base:=0) t).1,(vL t).2,⟨⟨ChangeSpec.pre_of_preB u,o⟩,sizedMet_of_sizedB j⟩,by
  grind[Assume.holds]⟩
theorem again_all{H:Type}{enc:TypeId×Value->H}{W i:World}(g:∀b,b<W.heap.size->i.heap[b]?=W.heap[b]?):∀{ts:List TypeId}{vs:List Value}{ds:List (DataW H)}{ps:List MemPlace},(∀t∈ts,xE.readableRec t=true/\t<xE.types.size)->
  vM enc xE W 0 (λ_=>true) true ts vs ds ps->(∀x∈ps,x.block<W.heap.size)->vM enc xE i 0 (λb=>decide (b<W.heap.size)) true ts vs ds ps
 |[],_,_,_,_,h,_=>by
  obtain⟨rfl,rfl,rfl⟩:=trodAll_nil h;rfl
 |t::ts,_,_,_,z,h,f=>by
  obtain⟨v,vs,d,ds,p,q,rfl,rfl,rfl,h1,h2⟩:=trodAll_cons h;exact⟨p,q,again_arg (z t (by simp)).1 (z t (by simp)).2 h1 g (λx j=>f x (List.mem_append_left _ j)),again_all g (λu hu=>z u (by simp[hu])) h2 (λx j=>f x (List.mem_append_right _ j)),rfl⟩
theorem trodAll_five{H:Type}{enc:TypeId×Value->H}{w:World}{a b c d e:TypeId}{args:Array Value}{ds:List (DataW H)}{ps:List MemPlace}(h:vM enc xE w 0 (λ_=>true) true [a,b,c,d,e] args.toList ds ps):
  ∃f t u z j i l o v J p0 p1 N p3 Z,args=#[f,t,u,z,j]/\ds=[i,l,o,v,J]/\ps=p0++(p1++(N++(p3++Z)))/\vH enc xE w 0 (λ_=>true) true a f i p0/\vH enc xE w 0 (λ_=>true) true b t l p1/\vH enc xE w 0 (λ_=>true) true c u o N/\
   vH enc xE w 0 (λ_=>true) true d z v p3/\vH enc xE w 0 (λ_=>true) true e j J Z:=by
 obtain⟨f,vs,i,Q,p,q,Y,rfl,rfl,P,g⟩:=trodAll_cons h;obtain⟨t,O,l,A,p1,D,rfl,rfl,rfl,h1,g⟩:=trodAll_cons g;obtain⟨u,I,o,L,N,E,rfl,rfl,rfl,h2,g⟩:=trodAll_cons g;obtain⟨z,R,v,X,p3,K,rfl,rfl,rfl,h3,g⟩:=trodAll_cons g;obtain⟨j,B,J,C,Z,T,rfl,rfl,rfl,h4,g⟩:=trodAll_cons g;obtain⟨rfl,rfl,rfl⟩:=trodAll_nil g;exact⟨f,t,u,z,j,i,l,o,v,J,p,p1,N,p3,Z,by grind,rfl,by simp,P,h1,h2,h3,h4⟩
end Go.Proofs.YtejinebghgaigaaGreatDoor
namespace Go.Proofs.YtejinebghgaigaaGreatDoor
open Go Go.Sx Go.Proofs Go.ChangeShapes Go.WideShapes Go.ChangeAt Go.RowKit
section
variable{H:Type}{enc:TypeId×Value->H}{w:World}
theorem cl31:xE.cellsOf 43=1:=by kernel_rfl
theorem gInts{m:Nat}{v:Value}(h:∃y,TR enc w m 43 [v]=some y):∃(s:Sl)(xs:List Int),v=.slice s.p s.n s.c/\Ad (BM w) s 1 (xs.map Al)/\∀x∈xs,DX x:=
 EY (row:=Al) (ok:=DX) Tryz.underlying43 Ik (by decide) (λ_=>rfl) (λt _ cs x g=>by
  obtain⟨n,rfl,f⟩:=rd_int Tryz.underlying3 g;exact⟨n,rfl,f⟩) h
theorem clCl:xE.cellsOf 45=2:=by kernel_rfl
theorem rdCl{n:Nat}{cs:List Value}{x:DataW H×List MemPlace}(h:TR enc w n 45 cs=some x):∃(nm:KB)(l:Sl)(xs:List Int),[Value.string nm,l.v]=cs/\Ad (BM w) l 1 (xs.map Al):=by
 obtain⟨f,m,-,g⟩:=Fp Tryz.underlying45 h;obtain⟨a,b,rfl⟩:=len2 (f.trans clCl);obtain⟨t,rfl⟩:=gS (at1 (g 0 _ rfl) EL rfl);obtain⟨l,k,rfl,u,-⟩:=gInts (at1 (g 1 _ rfl) cl31 rfl);exact⟨t,l,k,rfl,u⟩
end
end Go.Proofs.YtejinebghgaigaaGreatDoor
namespace Go.Proofs
open Go Go.Sx
attribute [local irreducible] Go.Sx.Tri
def AF(d:Ds)(F tk c k cm nn:Int)(gs ns ls:Sl):List Value:=[Go.Sx.vS d.name,d.ts.v,d.gs.v,d.ps.v,d.ms.v,d.is.v,d.qs.v,d.bs.v,gs.v,ns.v,.int .i64 F,.int .i64 tk,.int .i64 c,.int .i64 k,.int .i64 cm,.int .i64 nn,.int .i64 0,ls.v]
abbrev XM(V0:Mem)(d:Ds)(p F:Nat)(V:Mem)(s:St)(c k:Int):Prop:=MA 302 V0 p (AF d F s.tk c k s.cm (Be s.lg)) V s
theorem E8:NT 302:=by unfold NT;decide
def XR(V0:Mem)(d:Ds)(p F:Nat)(c:Int)(r:Rx Int):Ending->Mem->Prop:=λe V'=>match r with
 |.ok v s=>e=.returned (.int .i64 v)/\XM V0 d p F V' s c 0
 |.bad k s=>e=.returned (.int .i64 0)/\k≠0/\XM V0 d p F V' s c k
section
variable{V0 V V1:Mem}{d:Ds}{p F:Nat}{c k:Int}{s:St}
theorem XR.call{f:FuncId}{args:Array Value}{r:Rx Int}{K:Int->Mem->Prop}(H:Tri xE f args V (XR V0 d p F c r))(g:∀v s V',r=.ok v s->XM V0 d p F V' s c 0->K v V')(t:∀k s V',r=.bad k s->k≠0->XM V0 d p F V' s c k->K 0 V'):
  Tri xE f args V λe V'=>∃v,e=.returned (.int .i64 v)/\K v V':=
 Tri.mono H λe V' h=>by
  cases r with
  |ok v s=>exact⟨v,h.1,g v s V' rfl h.2⟩
  |bad k s=>exact⟨0,h.1,t k s V' rfl h.2.1 h.2.2⟩
theorem XR.ok{G:Rx Int}{v:Int}(h:G=.ok v s)(M:XM V0 d p F V s c 0):XR V0 d p F c G (.returned (.int .i64 v)) V:=by rw[h];exact⟨rfl,M⟩
theorem XR.bad{G:Rx Int}{k:Int}(h:G=.bad k s)(g:k≠0)(M:XM V0 d p F V s c k):XR V0 d p F c G (.returned (.int .i64 0)) V:=by rw[h];exact⟨rfl,g,M⟩
theorem XR.last{f:FuncId}{args:Array Value}{G r:Rx Int}(h:G=r)(H:Tri xE f args V (XR V0 d p F c r)):Tri xE f args V λe V'=>∃v,e=.returned (.int .i64 v)/\XR V0 d p F c G (.returned (.int .i64 v)) V':=by
 subst h;exact XR.call H (λv s V' e M=>XR.ok e M) λk s V' e g M=>XR.bad e g M
theorem c275(M:XM V0 d p F V s c 0){k:Int}:Tri xE 275 #[pv p,.int .i64 k] V λe V'=>e=.returned (.int .i64 0)/\XM V0 d p F V' s c k:=by
 obtain⟨gs,ns,ls,nd,g,L⟩:=M.ex;refine x275 ?_;exact⟨nn,nn,_,An g 13 1 (by simp[AF]),λ_=>⟨nn,nn,Ao.at2 (off:=13) g (by simp[AF]) ⟨rfl,MA.set (row':=AF d F s.tk c k s.cm (Be s.lg)) E8 M.p0 g L rfl rfl rfl rfl⟩⟩,λh=>absurd rfl h⟩
theorem failX(M:XM V0 d p F V s c 0){k:Int}(g:k≠0){G:Rx Int}(f:G=.bad k s):Tri xE 275 #[pv p,.int .i64 k] V λe V'=>∃v,e=.returned (.int .i64 v)/\XR V0 d p F c G (.returned (.int .i64 v)) V':=
 Tri.mono (c275 M) λ_ _ ⟨h,t⟩=>⟨0,h,XR.bad f g t⟩
theorem c338{b:Bool}:PP 338 [.bool b] V (.int .i64 (Et b)):=by
 refine x338 ?_;refine⟨λh=>?_,λh=>?_⟩;·rw[show b=true from h];exact⟨rfl,rfl⟩
 ·rw[show b=false by simpa using h];exact⟨rfl,rfl⟩
theorem c336{l:List Fld}{fl:Sl}(t:Ad V fl 2 (l.map Fld.row)){nm:KB}:PP 336 [fl.v,.string nm] V (.int .i64 (Cs l nm)):=by
 refine x336 ?_;refine AU (mk:=.int .i64) (b0:=0) l.length (λi V1=>V=V1/\Bf (λy:Fld=>!decide (y.name=nm)) l i) ⟨rfl,Bf.zero _ _⟩ ?_;rintro i b V1 J hi ⟨rfl,u⟩ N;refine⟨λg=>?_,λz=>?_⟩
 ·obtain⟨x,Z,o,-,j,e,Y,f⟩:=t.get g;refine⟨e,Y,g,Ak e,_,_,f,λh=>?_,λh=>⟨t.succ g,N j _ _ ⟨rfl,HZ (p:=λy:Fld=>decide (y.name=nm)) u o (decide_eq_false h)⟩⟩⟩;unfold Cs;rw[HX (p:=λy:Fld=>decide (y.name=nm)) u o (decide_eq_true h)];simp_all
 ·unfold Cs;rw[HY (p:=λy:Fld=>decide (y.name=nm)) u (t.done z).2];simp_all
theorem c333{a:Int}(i:a<=1099511627776):PP 333 [.int .i64 a] V (.int .i64 (DB a)):=by
 refine x333 ?_;have small:∀v:Int,v<=1->DB v=0:=λv hv=>by
  unfold DB;have:v.toNat=0∨v.toNat=1:=by omega
  rcases this with h|h<;>rw[h]<;>decide
 have step:∀v:Int,1<v->DB v=DB (v.tdiv 2)+1:=λv hv=>by
  unfold DB;have e:(v.tdiv 2).toNat=v.toNat/2:=by grind
  rw[e,Nat.log2_def,if_pos (by omega)];simp
 have t:DB a<=64:=by
  unfold DB;by_cases g:a.toNat=0;·rw[g];decide
  ·have:=(Nat.log2_lt g).2 (show a.toNat<2^64 by omega);omega
 have pos:∀v:Int,0<=DB v:=λv=>by unfold DB;omega
 refine⟨λn xs V1=>∃v c:Int,xs=[.int .i64 v,.int .i64 c]/\n=v.toNat/\V=V1/\v<=a/\0<=c/\c+DB v=DB a,a.toNat,⟨a,0,rfl,rfl,rfl,Int.le_refl _,Int.le_refl _,by omega⟩,?_⟩;rintro n V1 v c ⟨l,o,f,rfl,rfl,u,N,Z⟩ J z;simp only[List.cons.injEq,Value.int.injEq,true_and,and_true]at f;obtain⟨rfl,rfl⟩:=f;refine⟨λhv=>?_,λhv=>?_⟩
 ·have hv:1<v:=hv;have hw:xF .i64 (v.tdiv 2)=v.tdiv 2:=by
   rw[vN (by omega)];exact Hi ⟨by simp[IntKind.min,zQ,zR];omega,by simp[IntKind.max,zQ,zR];omega⟩
  have Y:=step v hv;have Q:=pos (v.tdiv 2);have j:v.tdiv 2<v/\0<=v.tdiv 2:=by rw[vN (by omega)];omega
  refine⟨by decide,⟨by omega,by omega⟩,?_⟩;rw[hw];exact z (v.tdiv 2).toNat _ _ (by omega) ⟨v.tdiv 2,c+1,rfl,rfl,rfl,by omega,by omega,by omega⟩
 simp_all
theorem c301(f:F<=4000)(M:XM V0 d p F V s c 0):Tri xE 301 #[pv p] V λe V'=>(s.tk<F/\e=.returned (.bool true)/\XM V0 d p F V' {s with tk:=s.tk+1} c 0)∨(F<=s.tk/\e=.returned (.bool false)/\XM V0 d p F V' s c 20):=by
 obtain⟨gs,ns,ls,nd,g,L⟩:=M.ex;refine x301 ?_;refine⟨nn,nn,_,An g 13 1 (by simp[AF]),λ_=>⟨nn,nn,_,An g 11 1 (by simp[AF]),nn,nn,_,An g 10 1 (by simp[AF]),λh=>?_,λh=>?_⟩,λh=>absurd rfl h⟩
 ·refine Tri.mono (c275 M) ?_;simp_all
 ·refine⟨nn,nn,_,An g 11 1 (by simp[AF]),⟨by omega,by omega⟩,nn,nn,Ao.at2 (off:=11) g (by simp[AF]) (.inl ⟨by omega,rfl,?_⟩)⟩;exact MA.set (row':=AF d F ((s.tk+1:Nat):Int) c 0 s.cm (Be s.lg)) E8 M.p0 g L rfl rfl rfl rfl
theorem nodesN_one(l:List (Int×Int×Int))(a:Int×Int×Int):Be (l++[a])=Be l+if 0<a.2.1 then 1 else 0:=by
 grind[Be]
theorem nodesN_bound(l:List (Int×Int×Int)):Be l<=l.length:=by grind[Be]
theorem c331(M:XM V0 d p F V s c 0){k a f:Int}(j:s.lg.length+1<=2147483648):Tri xE 331 #[pv p,.int .i64 k,.int .i64 a,.int .i64 f] V λe V'=>e=.returned (.tuple #[])/\XM V0 d p F V' (s.note (k,a,f)) c 0:=by
 obtain⟨gs,ns,ls,nd,t,L⟩:=M.ex;refine x331 ?_;have Z:=nodesN_bound s.lg;have u:Be (s.note (k,a,f)).lg=Be s.lg+if 0<a then 1 else 0:=nodesN_one s.lg (k,a,f)
 refine⟨nn,nn,ls,An t 17 1 (by simp[AF]),λR o=>L.note (a:=(k,a,f)) o rfl rfl j λs' V' Y Q=>⟨s',rfl,nn,nn,?_⟩⟩;have g:=Q _ _ t (Hu t E8 L.log (.inr (.inr rfl)));refine Ao.at2 (off:=17) g (by simp[AF]) ?_;have J:MA 302 V0 p (AF d F s.tk c 0 s.cm (Be s.lg)) (V'.set p (.cells (AF d F s.tk c 0 s.cm (Be s.lg) gs ns s').toArray 302 (0,0))) (s.note (k,a,f)):=MA.set (row':=AF d F s.tk c 0 s.cm (Be s.lg)) E8 M.p0 g Y rfl rfl rfl rfl;show Br (0<a) _ _;obtain⟨l,i⟩:∃l,l=V'.set p (.cells (AF d F s.tk c 0 s.cm (Be s.lg) gs ns s').toArray 302 (0,0)):=⟨_,rfl⟩;have N:V'.set p (.cells ((AF d F s.tk c 0 s.cm (Be s.lg) gs ns ls).toArray.toList.take 17++[s'.v]++(AF d F s.tk c 0 s.cm (Be s.lg) gs ns ls).toArray.toList.drop (17+[s'.v].length)).toArray 302 (0,0))=l:=by rw[i];rfl
 rw[<-i]at J;obtain⟨P,O,Ib,A,h,I⟩:=J.ex;refine⟨λz=>?_,λz=>?_⟩
 ·have z:0<a:=z;rw[if_pos z]at u
  erw [N]
  refine⟨nn,nn,AX,_,An h 15 1 (by simp[AF]),⟨by omega,by omega⟩,nn,nn,AX,Ao.at2 (off:=15) h (by simp[AF]) ⟨rfl,?_⟩⟩;exact MA.set (row':=AF d F s.tk c 0 s.cm (Be (s.note (k,a,f)).lg)) E8 M.p0 h I (by rw[u];rfl) rfl rfl rfl
 ·have z:¬0<a:=z;rw[if_neg z,Nat.add_zero]at u;refine⟨rfl,?_⟩
  erw [N]
  show MA _ V0 p (AF d F s.tk c 0 s.cm (Be (s.note (k,a,f)).lg)) l _;grind
theorem c332(M:XM V0 d p F V s c 0){n:Int}:Tri xE 332 #[pv p,.int .i64 n] V (XR V0 d p F c (DG (CK n) s)):=by
 obtain⟨G,g⟩:∃G,G=DG (CK n) s:=⟨_,rfl⟩;rw[<-g];refine Tri.mono (x332 (R:=XR V0 d p F c G) ?_) λ_ _ h=>h;have bad:¬(-1099511627776<=n/\n<=1099511627776)->G=.bad 5 s:=λh=>by rw[g];unfold CK;rw[if_neg h];rfl
 refine⟨λh=>failX M (by decide) (bad (by omega)),λh1=>⟨λh=>failX M (by decide) (bad (by omega)),λh2=>?_⟩⟩;have h1:¬n< -1099511627776:=h1;have h2:¬1099511627776<n:=h2;exact XR.ok (by rw[g];unfold CK;rw[if_pos (by omega)];rfl) M
theorem c339(M:XM V0 d p F V s c 0){a b:Int}(u:-1099511627776<=a/\a<=1099511627776)(z:-1099511627776<=b/\b<=1099511627776):Tri xE 339 #[pv p,.int .i64 a,.int .i64 b] V (XR V0 d p F c (DG (CK (a*b)) s)):=by
 obtain⟨G,t⟩:∃G,G=DG (CK (a*b)) s:=⟨_,rfl⟩;rw[<-t];refine Tri.mono (x339 (R:=XR V0 d p F c G) ?_) λ_ _ h=>h;have fit:(-1099511627776<=a*b/\a*b<=1099511627776)->XR V0 d p F c G (.returned (.int .i64 (a*b))) V:=λk=>XR.ok (by rw[t];unfold CK;rw[if_pos k];rfl) M;have key:∀x y:Int,x=(if a<0 then -a else a)->y=(if b<0 then -b else b)->Br (0<x) (¬x=0/\Br ((xF .i64 ((1099511627776:Int).tdiv x))<y)
   (Tri xE 275 #[pv p,.int .i64 5] V λe V1=>∃j,e=.returned (.int .i64 j)/\XR V0 d p F c G (.returned (.int .i64 j)) V1)
   (IR (a*b)/\XR V0 d p F c G (.returned (.int .i64 (a*b))) V)) (IR (a*b)/\XR V0 d p F c G (.returned (.int .i64 (a*b))) V):=λx y i l=>by
  refine⟨λf=>?_,λf=>?_⟩
  ·have f:0<x:=f;have g:a≠0:=λe=>by omega
   have o:xF .i64 ((1099511627776:Int).tdiv x)=(1099511627776:Int).tdiv x:=K9 ⟨by omega,by omega⟩;refine⟨by omega,?_⟩;rw[o];have hm:=mul_big u z g;rw[<-i,<-l]at hm;refine⟨λk=>failX M (by decide) (by rw[t];unfold CK;rw[if_neg (hm.1 k)];rfl),λk=>?_⟩;simp_all[Classical.not_not,mul_in,inr]
  ·have f:¬0<x:=f;have g:a=0:=by omega
   exact⟨mul_in u z (.inl g),fit (by simp_all)⟩
 refine⟨λh1=>⟨⟨by omega,by omega⟩,λh2=>⟨⟨by omega,by omega⟩,?_⟩,λh2=>?_⟩,λh1=>⟨λh2=>⟨⟨by omega,by omega⟩,?_⟩,λh2=>?_⟩⟩;·grind
 ·grind
 ·grind
 grind
theorem c335(M:XM V0 d p F V s c 0){op v w:Int}(N:op=9∨op=10∨op=11∨op=12∨op=13∨op=22∨op=23)(hv:-1099511627776<=v/\v<=1099511627776)(hw:-1099511627776<=w/\w<=1099511627776):Tri xE 335 #[pv p,.int .i64 op,.int .i64 v,.int .i64 w] V (XR V0 d p F c (DG (Bg op v w) s)):=by
 obtain⟨G,g⟩:∃G,G=DG (Bg op v w) s:=⟨_,rfl⟩;rw[<-g];refine Tri.mono (x335 (R:=XR V0 d p F c G) ?_) λ_ _ h=>h;have good:∀{n:Int},Bg op v w=.ok n->XR V0 d p F c G (.returned (.int .i64 n)) V:=λe=>XR.ok (by rw[g,e];rfl) M;have j:∀{n:Int},Bg op v w=CK n->Tri xE 332 #[pv p,.int .i64 n] V λe V'=>∃v,e=.returned (.int .i64 v)/\XR V0 d p F c G (.returned (.int .i64 v)) V':=λe=>XR.last (by rw[g,e]) (c332 M);have i:∀{n:Int},-2199023255552<=n/\n<=2199023255552->IR n:=λh=>⟨by omega,by omega⟩;have Z:=K9 (b:=w) hv;have Y:=tdiv_in (b:=w) hv;refine⟨λh=>⟨i (by omega),j (by grind[Bg])⟩,λo=>⟨λh=>⟨i (by omega),j (by grind[Bg])⟩,λf=>⟨λh=>XR.last (by grind[Bg]) (c339 M hv hw),λt=>⟨λh=>⟨λk=>good ?_,λk=>good ?_⟩,λu=>⟨λh=>⟨λk=>good ?_,λk=>good ?_⟩,λz=>⟨λh=>failX M (by decide) ?_,λl=>⟨λh=>⟨l,?_⟩,λJ=>⟨l,good ?_⟩⟩⟩⟩⟩⟩⟩⟩;·grind[Bg]
 ·grind[Bg]
 ·grind[Bg]
 ·grind[Bg]
 ·rw[g];unfold Bg;rw[if_neg o,if_neg f,if_neg t,if_neg u,if_neg z,if_neg (by omega),if_neg (by omega),if_neg (by omega),if_neg (by omega),if_pos h];rfl
 ·grind[Bg,CK]
 grind[Bg]
end
def Dp(pr:Pr)(a b:Sl)(r:Option Int):List Value:=[Go.Sx.vS pr.name,pr.ps.v,Go.Sx.vS pr.result,pr.ls.v,pr.bs.v,a.v,b.v,.bool r.isSome,.int .i64 (r.getD 0)]
structure Gv (V0:Mem)(q:Nat)(pr:Pr)(vals:List Int):Prop where
 ex:∃a b:Sl,V0 q=some (.cells (Dp pr a b none).toArray 372 (0,0))/\Ad V0 a 2 (pr.vars.map Fld.row)/\Ad V0 b 1 (vals.map Al)
structure Yx (V0:Mem)(d:Ds)(p F c q:Nat)(pr:Pr)(vals:List Int)(n m:Nat)(V:Mem)(s:St):Prop where
 S:ES V0 d F
 fr:Gv V0 q pr vals
 pm:pr∈d.procs
 G:Am d s.mm
 hv:Aw d s.mm pr.vars vals=true
 M:XM V0 d p F V s c 0
 tk:s.tk<=F
 n:F<n+s.tk
 w:BW m s
section
variable{V0 V V1:Mem}{d:Ds}{p F c q:Nat}{s:St}{pr:Pr}{vals:List Int}
theorem Yx.po{n m:Nat}(X:Yx V0 d p F c q pr vals n m V s):D0 d pr:=X.S.procs pr X.pm
theorem Yx.fit{n m:Nat}(X:Yx V0 d p F c q pr vals n (m+1) V s):s.lg.length+1<=2147483648:=by
 have h1:=X.w;have h2:=X.tk;have h3:=X.S.fuel;grind[BW]
theorem Yx.next{n m k:Nat}{V':Mem}{s':St}(X:Yx V0 d p F c q pr vals n (m+k) V s)(g:Gr F m s s')(G:Am d s'.mm)(M:XM V0 d p F V' s' c 0):Yx V0 d p F c q pr vals n k V' s':=
 ⟨X.S,X.fr,X.pm,G,BQ (λh=>g.right h) X.hv,M,g.fu X.tk,by have:=g.tk;have:=X.n;omega,X.w.next g⟩
theorem Yx.le{n m k:Nat}(X:Yx V0 d p F c q pr vals n m V s)(h:k<=m):Yx V0 d p F c q pr vals n k V s:=⟨X.S,X.fr,X.pm,X.G,X.hv,X.M,X.tk,X.n,X.w.le h⟩
theorem Gv.sub{V':Mem}(h:Gv V0 q pr vals)(g:V0.sub V'):Gv V' q pr vals:=by
 obtain⟨a,b,h1,h2,h3⟩:=h.ex;exact⟨a,b,g _ _ h1,h2.sub g,h3.sub g⟩
theorem nodeX{u z:Int}(M:XM V0 d p F V s z u){k i:Nat}{ty v:Int}{fs:List Int}(l:s.ns[k]?=some (ty,fs))(hv:fs[i]?=some v):∃gs ns ls nd sl,V p=some (.cells (AF d F s.tk z u s.cm (Be s.lg) gs ns ls).toArray 302 (0,0))/\AP V0 V gs ns ls nd s/\nd[k]?=some ⟨ty,sl,fs⟩/\IR (k:Int)/\
  ¬ns.p=none/\(0:Int)<=(k:Int)/\(k:Int)<(ns.n:Int)/\V.rowp ns.p (k*2) 2=some [.int .i64 ty,.slice sl.p sl.n sl.c]/\¬sl.p=none/\(0:Int)<=(i:Int)/\(i:Int)<(sl.n:Int)/\V.rowp sl.p (i*1) 1=some [.int .i64 v]:=by
 obtain⟨gs,ns,ls,nd,t,L⟩:=M.ex;have g:=L.nodes.rows (λ_=>rfl) (by decide);have o:=g.n_eq;obtain⟨sl,h⟩:=L.at_ l;have e:=(yw.1 h).1;obtain⟨y,-,j,-,-,J,N,f⟩:=g.get (i:=k) (by omega);rw[h]at j;cases j;have Z:IR ((k:Int)):=⟨by omega,by have:=(g.succ (i:=k) (by omega)).2;omega⟩;obtain⟨Y,Q,P,O⟩:=Fm ((L.fld _ (xJ h)).rows (λ_=>rfl) (by decide)) hv;exact⟨gs,ns,ls,nd,sl,t,L,h,Z,J,N,by omega,f,Y,Q,P,O⟩
theorem nameX{n m:Nat}(X:Yx V0 d p F c q pr vals n (m+1) V s){nm t:KB}(O:B0 (Av d pr).vars nm=t)(z:t≠sE):
  Tri xE 327 #[pv p,pv q,.string nm] V (XR V0 d p F c (varX d pr vals nm s)):=by
 obtain⟨gs,ns,ls,nd,j,L⟩:=X.M.ex;obtain⟨A,I,l,h,f⟩:=X.fr.ex;have Q:=L.sub _ _ l;have R:=X.S.ds.sub L.sub;refine x327 ?_;refine⟨nn,nn,A,An Q 5 1 (by simp[Dp]),(c336 (h.sub L.sub)).call ⟨_,rfl,?_⟩⟩;rcases H8 X.G X.hv X.po.vars O z with⟨i,g,v,h1,h2,h3,h4,-,o⟩|⟨i,g,v,B,h1,h2,h3,h4,-,o⟩
 ·rw[h1];obtain⟨e,J,N,Z⟩:=Fm (f.sub L.sub) h3;exact AV (by omega) ⟨nn,nn,I,An Q 6 1 (by simp[Dp]),e,J,N,_,Z,XR.ok o X.M⟩
 ·rw[B];refine Ah (by decide) ⟨nn,nn,AX,d.gs,An j 2 1 (by simp[AF]),(c336 R.globals).call ⟨_,rfl,?_⟩⟩;rw[h1];refine Tri.mono (c331 X.M X.fit) ?_;rintro _ K ⟨rfl,P⟩;obtain⟨Y,C,Ib,D,u,E⟩:=P.ex;obtain⟨e,J,N,Z⟩:=Fm (E.glob.rows (λ_=>rfl) (by decide)) (i:=i) (v:=v) h3;exact⟨rfl,nn,nn,AX,Y,An u 8 1 (by simp[AF]),e,J,N,_,Z,XR.ok o P⟩
theorem c330(S:ES V0 d F){Z Y:Int}(M:XM V0 d p F V s Y Z){k j:Nat}{fs:List Int}{o:Ty}(Q:s.ns[k]?=some ((j:Int),fs))(e:d.types[j]?=some o){nm:KB}:PP 330 [pv p,.int .i64 ((k:Int)+1),.string nm] V (.int .i64 (Cs o.fields nm)):=by
 obtain⟨gs,ns,ls,nd,f,L⟩:=M.ex;refine x330 ?_;have v:=S.ds.sub L.sub;have h:=L.nodes.rows (λ_=>rfl) (by decide);have P:=h.n_eq;obtain⟨sl,t⟩:=L.at_ Q;have O:=(yw.1 t).1;obtain⟨y,-,u,-,-,N,A,z⟩:=h.get (i:=k) (by omega);rw[t]at u;cases u;have I:IR ((k:Int)):=⟨by omega,by have:=(h.succ (i:=k) (by omega)).2;omega⟩;have X:=v.types.n_eq;have R:=(yw.1 e).1;obtain⟨y,-,u,-,-,l,J,g⟩:=v.types.get (i:=j) (by omega);rw[e]at u;cases u;refine⟨nn,nn,AX,d.ts,An f 1 1 (by simp[AF]),nn,nn,AX,ns,An f 9 1 (by simp[AF]),?_⟩;rw[show((k:Int)+1-1)=(k:Int)by omega];exact⟨I,N,A,by omega,Ak N,_,_,z,l,J,(show(j:Int)<d.ts.n by omega),Ak l,_,_,g,(c336 (v.typesOk o (xJ e)).fields).call ⟨_,rfl,rfl,rfl⟩⟩
theorem allocX{n m:Nat}(X:Yx V0 d p F c q pr vals n (m+1) V s){nm:KB}(hn:Ci d nm=true):
  Tri xE 328 #[pv p,.string nm] V (XR V0 d p F c (newX d nm s)):=by
 obtain⟨gs,ns,ls,nd,u,L⟩:=X.M.ex;have O:=X.S.ds.sub L.sub;obtain⟨G,hG⟩:∃G,G=newX d nm s:=⟨_,rfl⟩;rw[<-hG];refine Tri.mono (x328 (R:=XR V0 d p F c G) ?_) λ_ _ h=>h;have hnn:=(L.nodes.rows (λ_=>rfl) (by decide)).n_eq;have hlen:=L.len;refine⟨nn,nn,AX,ns,An u 9 1 (by simp[AF]),λI=>failX X.M (by decide) ?_,λI=>?_⟩;·grind[newX]
 have I:¬4096<=(ns.n:Int):=I;obtain⟨f,v,J⟩:=List.any_eq_true.1 hn;have J:f.name=nm:=of_decide_eq_true J;obtain⟨j,A⟩:=xn.1 v;have o:Bx d nm=(j:Int):=J▸(F7 (BD X.G.mem).1).2.1 j f A;have B:Bm d (j:Int)=f.fields:=Ef A rfl;refine⟨nn,nn,d.name,d.ts,d.gs,d.ps,d.ms,d.is,d.qs,d.bs,An u 0 8 (by simp[AF]),(H0 O).call ⟨_,rfl,?_⟩⟩;rw[show Ck (λt:Ty=>decide (t.name=nm)) d.types=(j:Int)from o];have htn:=O.types.n_eq;have hjl:=(yw.1 A).1;obtain⟨y,-,hy,-,-,hp,hz,Z⟩:=O.types.get (i:=j) (by omega);rw[A]at hy;cases hy;have C:=(O.typesOk f v).fields.n_eq;have hfl:=(Ja X.S.valid).2 f v;refine⟨nn,nn,AX,ns,An u 9 1 (by simp[AF]),nn,nn,AX,d.ts,An u 1 1 (by simp[AF]),hp,hz,by omega,Ak hp,_,_,Z,mk43 (n:=f.fs.n) rfl rfl (by omega) λg hg=>⟨⟨some ⟨g,0,none⟩,f.fs.n,f.fs.n⟩,rfl,?_⟩⟩;obtain⟨V2,D⟩:∃V2,V2=V.set g (.cells (madeCells (xe .i64 0).cells (f.fs.n*1)) 3 (0,0)):=⟨_,rfl⟩;have z:=Jb hg (n:=f.fs.n) (by omega);rw[<-D]at z⊢;have l:=z.sub _ _ u;refine⟨EW l 9 0 1 (by simp[AF]),AX,nn,nn,EW l 9 0 1 (by simp[AF]),AX,nn,nn,λtb E=>?_⟩;refine L.new (n:=⟨(j:Int),⟨some ⟨g,0,none⟩,f.fs.n,f.fs.n⟩,yI f.fs.n 0⟩) z E rfl rfl (by omega) λY V3 L3 K=>⟨Y,rfl,nn,nn,AX,?_⟩;have e:=K _ _ l (Hu u E8 L.nodes (.inr (.inl rfl)));refine Ao.at2 (off:=9) e (by simp[AF]) ?_;have M4:XM V0 d p F (V3.set p (.cells (AF d F s.tk c 0 s.cm (Be s.lg) gs Y ls).toArray 302 (0,0))) {s with ns:=s.ns++[((j:Int),yI f.fs.n 0)]} c 0:=
  ⟨X.M.p0,gs,Y,ls,nd++[_],Mem.set_same _ _ _,L3.put (JP e E8) X.M.p0 _⟩
 have T:=(L3.nodes.rows (λ_=>rfl) (by decide)).n_eq;rw[zw,xi]at T;show ¬(some (⟨p,0,none⟩:Addr):Option Addr)=none/\_;refine⟨nn,nn,AX,Y,An Az 9 1 (by simp[AF]),?_⟩;rw[show((Y.n:Nat):Int)=(s.ns.length:Int)+1 by omega];refine Tri.mono (c331 M4 X.fit) ?_;rintro _ V7 ⟨rfl,M7⟩;obtain⟨gs7,Q,G7,U,P,L7⟩:=M7.ex;have hn7:=(L7.nodes.rows (λ_=>rfl) (by decide)).n_eq;have N:=L7.len;have N:U.length=(s.ns++[((j:Int),yI f.fs.n 0)]).length:=N;rw[zw,xi]at N;refine⟨rfl,nn,nn,AX,Q,An P 9 1 (by simp[AF]),?_⟩;rw[show((Q.n:Nat):Int)=(s.ns.length:Int)+1 by omega];refine XR.ok ?_ M7;rw[hG];unfold newX;rw[if_neg (by omega),o,B,<-C];rfl
theorem integersX{n m:Nat}(X:Yx V0 d p F c q pr vals n m V s){e:E}{t:KB}(hv:VE e)(J:E.Ok V0 e)(o:As d (Av d pr) e=(t,0)):
  Tri xE 337 #[pv p,pv q,e.v] V λr V'=>r=.returned (.bool (decide (t=Ai)))/\V.sub V':=by
 obtain⟨gs,ns,ls,nd,f,L⟩:=X.M.ex;obtain⟨Q,P,u,-,-⟩:=X.fr.ex;have N:=L.sub _ _ u;have z:=X.S.ds.sub L.sub;have j:=z.procsOk pr X.pm;obtain⟨Z,i⟩:=hv;have O:=X.po.lens;have A:=(Ja X.S.valid).1;refine x337 ?_;refine⟨nn,nn,_,_,_,_,_,_,_,_,An f 0 8 (by simp[AF]),nn,nn,_,_,_,_,_,_,_,_,An f 0 8 (by simp[AF]),nn,nn,_,_,_,_,_,An N 0 5 (by simp[Dp]),?_⟩;refine Tri.mono (refInProc z j (by omega) (by omega)) ?_;rintro _ V1 ⟨s',rfl,g,l⟩;refine⟨_,_,rfl,EW (g _ _ f) 0 0 8 (by simp[AF]),nn,nn,?_⟩;have Y:=KH (sc:=Av d pr) (z.sub g) l e (J.sub (L.sub.trans g)) Z i V1 (Mem.sub.refl _);refine Y.call ⟨_,_,rfl,λh=>⟨?_,g⟩,λh=>absurd (show(As d (Av d pr) e).2=0 by rw[o]) h⟩;rw[o];rfl
theorem compareX{n m:Nat}(X:Yx V0 d p F c q pr vals n (m+1) V s){e a:E}{u:KB}{v w:Int}(hv:VE e)(Q:E.Ok V0 e)(P:e.k[0]?=some a)(I:As d (Av d pr) a=(u,0))(B:e.op=14∨e.op=15∨(e.op=16/\u=Ai)∨(e.op=17/\u=Ai)):
  Tri xE 334 #[pv p,pv q,e.v,.int .i64 v,.int .i64 w] V (XR V0 d p F c (DG (Bg e.op v w) (DC (decide (u=Ai)) e.op s))):=by
 obtain⟨gs,ns,ls,nd,C,L⟩:=X.M.ex;obtain⟨G,O⟩:∃G,G=DG (Bg e.op v w) (DC (decide (u=Ai)) e.op s):=⟨_,rfl⟩;rw[<-O];obtain⟨D,k2,K,T⟩:=DD (Q.sub L.sub) P;have j:=xJ P;have U:s.cm+1<=16000000:=by have h1:=X.w;have h2:=X.tk;have h3:=X.S.fuel;grind[BW]
 refine Tri.mono (x334 (R:=XR V0 d p F c G) ?_) λ_ _ h=>h;refine⟨D,by decide,K,_,_,_,_,T,Tri.mono (integersX X (hv.kids a j) (Q.kids a j) I) ?_⟩;rintro _ V1 ⟨rfl,N⟩;have A:=X.M.grow N;obtain⟨gs1,ns1,Nf,I9,f,L1⟩:=A.ex;have Z:∀{s':St}{V2:Mem},XM V0 d p F V2 s' c 0->s'=DC (decide (u=Ai)) e.op s->
   Br (e.op=14) (TT 338 #[uB (decide (v=w))] V2 λt z=>∃g,t=rV (uI g)/\XR V0 d p F c G (rV (uI g)) z)
   (Br (e.op=15) (TT 338 #[uB (!(decide (v=w)))] V2 λt z=>∃g,t=rV (uI g)/\XR V0 d p F c G (rV (uI g)) z)
   (Br (e.op=16) (TT 338 #[uB (decide (v<w))] V2 λt z=>∃g,t=rV (uI g)/\XR V0 d p F c G (rV (uI g)) z)
   (TT 338 #[uB (decide (v<=w))] V2 λt z=>∃g,t=rV (uI g)/\XR V0 d p F c G (rV (uI g)) z))):=λ{s' V2} M2 Y=>by
  have J:∀{x:Bool},Bg e.op v w=.ok (Et x)->Tri xE 338 #[.bool x] V2 λt z=>∃g,t=.returned (.int .i64 g)/\XR V0 d p F c G (.returned (.int .i64 g)) z:=λhx=>c338.call ⟨_,rfl,XR.ok (s:=s') (by rw[O,hx,Y];rfl) M2⟩;refine⟨λh=>J ?_,λi=>⟨λh=>J ?_,λl=>⟨λh=>J ?_,λo=>J ?_⟩⟩⟩;·rw[show e.op=14 from h];rfl
  ·rw[show e.op=15 from h];rfl
  ·rw[show e.op=16 from h];rfl
  ·have i:¬e.op=14:=i;have l:¬e.op=15:=l;have o:¬e.op=16:=o;rw[show e.op=17 by omega];rfl
 refine⟨_,rfl,λhi=>?_,λhi=>?_⟩
 ·have hi:u=Ai:=of_decide_eq_true hi;refine⟨nn,nn,AX,_,An f 14 1 (by simp[AF]),⟨by omega,by omega⟩,nn,nn,AX,Ao.at2 (off:=14) f (by simp[AF]) ?_⟩;refine Z (s':={s with cm:=s.cm+1}) (MA.set (row':=AF d F s.tk c 0 ((s.cm+1:Nat):Int) (Be s.lg)) E8 A.p0 f L1 rfl rfl rfl rfl) ?_;grind[DC,inr]
 grind[Ai,DC]
end
section
variable{x y:St->Rx Int}{s s1 s2:St}{acc:List Int}{k:Int}
theorem sq1_ok(h:Dd [x] [] s=.ok acc s1):∃v,x s=.ok v s1/\acc=[v]:=by
 have h:(x s).bind (λv st=>.ok [v] st)=.ok acc s1:=h;cases e:x s with
 |ok v t=>rw[e]at h;cases h;simp_all
 |bad c t=>rw[e]at h;cases h
theorem sq1_bad(h:Dd [x] [] s=.bad k s1):x s=.bad k s1:=by
 have h:(x s).bind (λv st=>.ok [v] st)=.bad k s1:=h;cases e:x s with
 |ok v t=>rw[e]at h;cases h
 |bad c t=>rw[e]at h;cases h;rfl
theorem sq2_ok(h:Dd [x,y] [] s=.ok acc s2):∃v w s1,x s=.ok v s1/\y s1=.ok w s2/\acc=[v,w]:=by
 have h:(x s).bind (λv st=>(y st).bind λw st=>.ok [v,w] st)=.ok acc s2:=h;cases e:x s with
 |ok v t=>
  rw[e]at h;have h:(y t).bind (λw st=>.ok [v,w] st)=.ok acc s2:=h;cases g:y t with
  |ok w u=>rw[g]at h;cases h;grind
  |bad c u=>rw[g]at h;cases h
 |bad c t=>rw[e]at h;cases h
theorem sq2_bad(h:Dd [x,y] [] s=.bad k s2){g:Int->Int->St->Rx Int}:((x s).bind λv st=>(y st).bind λw st=>g v w st)=.bad k s2:=by
 have h:(x s).bind (λv st=>(y st).bind λw st=>.ok [v,w] st)=.bad k s2:=h;cases e:x s with
 |ok v t=>
  rw[e]at h;have h:(y t).bind (λw st=>.ok [v,w] st)=.bad k s2:=h;cases f:y t with
  |ok w u=>rw[f]at h;cases h
  |bad c u=>
   rw[f]at h;cases h;show((y t).bind λw st=>g v w st)=_;rw[f];rfl
 |bad c t=>rw[e]at h;cases h;rfl
end
section
variable{V0 W V V1:Mem}{d:Ds}{p F c q:Nat}{s:St}{pr:Pr}{vals:List Int}
theorem XR.narrow{c:Int}{r:Rx Int}{e:Ending}(g:V0.sub W)(h:XR W d p F c r e V):XR V0 d p F c r e V:=by
 cases r with
 |ok v s=>exact⟨h.1,h.2.narrow g⟩
 |bad k s=>exact⟨h.1,h.2.1,h.2.2.narrow g⟩
theorem XR.any{c:Int}{f:FuncId}{args:Array Value}{r:Rx Int}{K:Int->Mem->Prop}(H:Tri xE f args V (XR V0 d p F c r))(h:∀v g s V',XM V0 d p F V' s c g->(g=0/\r=.ok v s∨g≠0/\v=0/\r=.bad g s)->K v V'):
  Tri xE f args V λe V'=>∃v,e=.returned (.int .i64 v)/\K v V':=
 XR.call H (λv s V' e M=>h v 0 s V' M (.inl ⟨rfl,e⟩)) λk s V' e t M=>h 0 k s V' M (.inr ⟨t,rfl,e⟩)
theorem lastW{c:Int}{f:FuncId}{args:Array Value}{G r:Rx Int}(g:V0.sub W)(t:G=r)(H:Tri xE f args V (XR W d p F c r)):Tri xE f args V λe V'=>∃v,e=.returned (.int .i64 v)/\XR V0 d p F c G (.returned (.int .i64 v)) V':=
 Tri.mono (XR.last t H) λ_ _ ⟨v,u,h⟩=>⟨v,u,h.narrow g⟩
theorem XM.fault{c:Int}{g:Int}(M:XM V0 d p F V s c g):V.rowp (sa p) ((13:Int).toNat*1) 1=some [.int .i64 g]:=by
 obtain⟨gs,ns,ls,nd,h,L⟩:=M.ex;exact An h 13 1 (by simp[AF])
variable(d p F)in
def XCallC(n:Nat):Prop:=∀(V0 V:Mem)(s:St)(c i:Nat)(pr:Pr)(args:List Int)(l:Sl),ES V0 d F->d.procs[i]?=some pr->Am d s.mm->Aw d s.mm pr.params args=true->Ad V0 l 1 (args.map Al)->XM V0 d p F V s c 0->s.tk<=F->F<n+s.tk->BW 0 s->
 Tri xE 241 #[pv p,.int .i64 (i:Int),l.v] V (XR V0 d p F c (CA d (A9 d F n) c i args s))
variable(d p F)in
def XExprC(n:Nat):Prop:=∀(e:E)(t:KB)(V0 V:Mem)(s:St)(c q:Nat)(pr:Pr)(vals:List Int),Yx V0 d p F c q pr vals n (AB e) V s->VE e->E.Ok V0 e->As d (Av d pr) e=(t,0)->
 Tri xE 318 #[pv p,pv q,e.v] V (XR V0 d p F c (C0 d (CA d (A9 d F n) c) pr vals e s))
theorem lazyX{n:Nat}{e:E}(X:Yx V0 d p F c q pr vals n (AB e) V s)(T:E.Ok V0 e){f:E->St->Rx Int}{G:Rx Int}(j:e.op=19∨e.op=20∨e.op=21){C:Cf}{b:Bool}(u:G=C5 d C pr vals b e.op e.n e.s (e.k.map f) s)
  {a a1:E} (z:e.k[0]?=some a) (h1:e.k[1]?=some a1) (h2:e.op=21->∃a2,e.k[2]?=some a2)
  (kid:∀{i:Nat}{y:E}{V1:Mem}{s1:St},e.k[i]?=some y->(i=0/\V1=V/\s1=s∨i≠0/\∃v,f a s=.ok v s1/\XM V0 d p F V1 s1 c 0)->Tri xE 318 #[pv p,pv q,.agg #[.int .i64 y.op,.int .i64 y.n,.string y.s,.slice y.l.p y.l.n y.l.c]] V1 (XR V0 d p F c (f y s1))):
  Tri xE 329 #[pv p,pv q,e.v] V (XR V0 d p F c G):=by
 obtain⟨gs,ns,ls,nd,hat,L⟩:=X.M.ex;obtain⟨k1,k2,k3,k4⟩:=DD (T.sub L.sub) z;have K:∀{i:Nat}{a:E},e.k[i]?=some a->BL (e.k.map f) i=f a:=λh=>KR h;refine Tri.mono (x329 (R:=XR V0 d p F c G) ?_) λ_ _ h=>h;have B:∀{v:Int}{s1:St},f a s=.ok v s1->G=if e.op=19 then(if v=0 then .ok 0 s1 else f a1 s1)else if e.op=20 then(if v=0 then f a1 s1 else .ok 1 s1)else if v=0 then BL (e.k.map f) 2 s1 else f a1 s1:=λ{v s1} hv=>by
  rcases j with h|h|h;·rw[u,cX19 h,K z,hv,if_pos h];show(if v=0 then _ else BL (e.k.map f) 1 s1)=_;rw[K h1]
  ·rw[u,cX20 h,K z,hv,if_neg (by omega),if_pos h];show(if v=0 then BL (e.k.map f) 1 s1 else _)=_;rw[K h1]
  ·rw[u,cX21 h,K z,hv,if_neg (by omega),if_neg (by omega)];show(if v=0 then BL (e.k.map f) 2 s1 else BL (e.k.map f) 1 s1)=_;rw[K h1]
 have hGb:∀{k:Int}{s1:St},f a s=.bad k s1->G=.bad k s1:=λ{k s1} hv=>by
  rcases j with h|h|h;·rw[u,cX19 h,K z,hv];rfl
  ·rw[u,cX20 h,K z,hv];rfl
  ·rw[u,cX21 h,K z,hv];rfl
 refine⟨k1,by decide,k3,_,_,_,_,k4,XR.any (kid z (.inl ⟨rfl,rfl,rfl⟩)) λv U s1 V1 J hc=>⟨nn,nn,_,J.fault,λN=>?_,λN=>?_⟩⟩;rotate_left
 ·have N:¬U=0:=N;rcases hc with⟨h,-⟩|⟨-,rfl,hb⟩;·omega
  grind[XR.bad]
 have N:U=0:=N;rcases hc with⟨-,hv⟩|⟨h,-⟩;rotate_left;·omega
 subst N;have o:=B hv;have Z:=T.sub J.sub;obtain⟨l1,l2,l3,l4⟩:=DD Z h1;have g:∀{G':Rx Int},G'=f a1 s1->(¬e.l.p=none/\(0:Int)<=(1:Int)/\1<(e.l.n:Int)/\∃Y Q P O,V1.rowp e.l.p ((1:Int).toNat*4) 4=some [uI Y,uI Q,uS P,uL O]/\
   TT 318 #[uP (sa p),uP (sa q),uA #[uI Y,uI Q,uS P,uL O]] V1 λe' V2=>∃A,e'=rV (uI A)/\XR V0 d p F c G' (rV (uI A)) V2):=λD=>
  ⟨l1,by decide,l3,_,_,_,_,l4,XR.last D (kid h1 (.inr ⟨by decide,v,hv,J⟩))⟩
 rcases j with h|h|h
 ·rw[if_pos h]at o;refine Ah (by omega) (AV h ⟨λt=>?_,λt=>Ah (by omega) (g ?_)⟩);·rw[if_pos (show v=0 from t)]at o;exact XR.ok o J
  simp_all
 ·rw[if_neg (by omega),if_pos h]at o;refine Ah (by omega) (Ah (by omega) (AV h ⟨λt=>g ?_,λt=>?_⟩));·simp_all
  ·rw[if_neg (show ¬v=0 from t)]at o;exact XR.ok o J
 ·rw[if_neg (by omega),if_neg (by omega)]at o;obtain⟨a2,I⟩:=h2 h;obtain⟨m1,m2,m3,m4⟩:=DD Z I;refine AV h ⟨λt=>⟨m1,by decide,m3,_,_,_,_,m4,XR.last ?_ (kid I (.inr ⟨by decide,v,hv,J⟩))⟩,λt=>Ah (by omega) (Ah (by omega) (g ?_))⟩;·simp_all
  simp_all
end
section
variable{V0 W V V1:Mem}{d:Ds}{p F c q:Nat}{s:St}{pr:Pr}{vals:List Int}
theorem failW{c:Int}(g:V0.sub W)(M:XM W d p F V s c 0){k:Int}(f:k≠0){G:Rx Int}(t:G=.bad k s):Tri xE 275 #[pv p,.int .i64 k] V λe V'=>∃v,e=.returned (.int .i64 v)/\XR V0 d p F c G (.returned (.int .i64 v)) V':=
 Tri.mono (failX M f t) λ_ _ ⟨v,u,h⟩=>⟨v,u,h.narrow g⟩
theorem exprX0{n:Nat}(hR:XCallC d p F n):∀(e:E)(V0 V:Mem)(s:St)(c q:Nat)(pr:Pr)(vals:List Int),Yx V0 d p F c q pr vals n (AB e) V s->VE e->E.Ok V0 e->((∃t,As d (Av d pr) e=(t,0))∨(e.op=7/\∃pr' i,CallK d (Av d pr) e pr' i))->
  Tri xE 318 #[pv p,pv q,e.v] V (XR V0 d p F c (C0 d (CA d (A9 d F n) c) pr vals e s)):=by
 intro e;induction e using E.ind with
 |h e ih=>
 intro V0 V s c q pr vals X hv he ht;have L0:=X.M.sub;obtain⟨f,hf⟩:∃f,f=C0 d (CA d (A9 d F n) c) pr vals:=⟨_,rfl⟩;obtain⟨G,Q⟩:∃G:Rx Int,G=C5 d (CA d (A9 d F n) c) pr vals (intB d (Av d pr) e.k) e.op e.n e.s (e.k.map f) s:=⟨_,rfl⟩;rw[IX,<-hf,<-Q];have hcs:=H9 X.S.procs (Ga (F:=F) X.S.procs n) c;have hsz:=szE_eq e;have K:∀{i:Nat}{a:E},e.k[i]?=some a->BL (e.k.map f) i=f a:=λh=>KR h;have kid:∀{a:E}{u:KB}{W V1:Mem}{s1:St},a∈e.k->As d (Av d pr) a=(u,0)->V0.sub W->Yx W d p F c q pr vals n (AB a) V1 s1->Tri xE 318 #[pv p,pv q,.agg #[.int .i64 a.op,.int .i64 a.n,.string a.s,.slice a.l.p a.l.n a.l.c]] V1 (XR W d p F c (f a s1)):=λ{a u W V1 s1} hm P I X1=>by
  rw[hf];exact ih a hm W V1 s1 c q pr vals X1 (hv.kids a hm) ((he.kids a hm).sub I) (.inl ⟨u,P⟩)
 have snd:∀{a:E}{u:KB}{s1:St}{m:Nat},a∈e.k->As d (Av d pr) a=(u,0)->Am d s1.mm->Gr F m s s1->AZ d F (AB a) s1 (f a s1) λv s'=>Cb d s'.mm u v:=λhm P G1 D=>by
  rw[hf];exact I5 X.S.procs hcs X.po _ _ _ (hv.kids _ hm) P G1 (BQ (λh=>D.right h) X.hv)
 have hkt:∀a∈e.k,As d (Av d pr) a=((As d (Av d pr) a).1,0):=λa P=>by
  rcases ht with⟨t,ht⟩|⟨-,pr',i,B⟩;·exact Prod.ext rfl ((MC ht).1 a P)
  ·obtain⟨j,hj⟩:=xn.1 P;have T:=(yw.1 hj).1;rw[B.len]at T;obtain⟨u,hu,-⟩:=B.fit j a _ hj (yv T);rw[hu]
 have Y:(∃t,DZ d (Av d pr) e t/\e.op≠7)∨(e.op=7/\∃pr' i,CallK d (Av d pr) e pr' i):=by
  rcases ht with⟨t,ht⟩|h
  ·by_cases h7:e.op=7
   ·right;cases kindX (sc:=Av d pr) rfl hv ht with
    |call h B hr=>grind
    |int h hn=>omega
    |bool h hn=>omega
    |nil h hn=>omega
    |var h hl hne=>omega
    |fld h=>omega
    |new h=>omega
    |neg h=>omega
    |not h=>omega
    |log h=>omega
    |and h=>omega
    |or h=>omega
    |cond h=>omega
    |eq h=>omega
    |cmp h=>omega
    |ari h=>omega
   ·exact .inl ⟨t,kindX (sc:=Av d pr) rfl hv ht,h7⟩
  ·exact .inr h
 have hall:∀j:Nat,((e.k.take j).map AB).sum<=(e.k.map AB).sum:=λj=>by
  have:=congrArg (λl=>(l.map AB).sum) (List.take_append_drop j e.k);grind
 refine Tri.mono (x318 (R:=XR V0 d p F c G) ?_) λ_ _ h=>h;refine⟨nn,nn,_,X.M.fault,λ_=>?_,λh=>absurd rfl h⟩;have lz:(e.op=19∨e.op=20∨e.op=21)->∀{a a1:E},e.k[0]?=some a->e.k[1]?=some a1->(e.op=21->∃a2,e.k[2]?=some a2)->(∀{i:Nat}{y:E},i≠0->e.k[i]?=some y->AB a+AB y<=AB e)->
   Tri xE 329 #[pv p,pv q,e.v] V λe' V'=>∃v,e'=.returned (.int .i64 v)/\XR V0 d p F c G (.returned (.int .i64 v)) V':=λhop {a a1} A h1 h2 hle=>by
  refine XR.last rfl (lazyX X he hop Q A h1 h2 λ{i y V1 s1} hy B=>?_);have hm:=xJ hy;rcases B with⟨rfl,rfl,rfl⟩|⟨hi,v,O,M1⟩
  ·rw[A]at hy;cases hy;have:AB a<=AB e:=by grind
   exact kid hm (hkt _ hm) (Mem.sub.refl _) (X.le this)
  ·have P:=xJ A;obtain⟨G1,D,-⟩:=(snd P (hkt _ P) X.G (Gr.refl s)).got O;exact kid hm (hkt _ hm) (Mem.sub.refl _) ((X.le (k:=AB a+AB y) (hle hi hy)).next D G1 M1)
 by_cases hE:e.op=1∨e.op=2∨e.op=3∨e.op=4∨e.op=6∨e.op=19∨e.op=20∨e.op=21
 ·rcases Y with⟨t,Y,h7⟩|⟨h7,-⟩;rotate_left;·omega
  cases Y with
  |int h hn=>exact AV h (XR.ok (Q.trans (IZ (.inl h))) X.M)
  |bool h hn=>exact Ah (by omega) (AV h (XR.ok (Q.trans (IZ (.inr h))) X.M))
  |nil h hn=>exact Ah (by omega) (Ah (by omega) (AV h (XR.ok (Q.trans (MD h)) X.M)))
  |var h hl hne=>exact Ah (by omega) (Ah (by omega) (Ah (by omega) (AV h (XR.last (Q.trans (ME h)) (nameX (X.le (k:=0+1) (by omega)) hl hne)))))
  |new h hn=>exact Ah (by omega) (Ah (by omega) (Ah (by omega) (Ah (by omega) (AV h (XR.last (Q.trans (MF h)) (allocX (X.le (k:=0+1) (by omega)) hn))))))
  |@and a b h o P hb=>
   refine Ah (by omega) (Ah (by omega) (Ah (by omega) (Ah (by omega) (Ah (by omega) (AV h (lz (.inl h) (a:=a) (a1:=b) (by rw[o];rfl) (by rw[o];rfl) (λh=>by omega) λ{i y} hi hy=>?_))))));grind
  |@or a b h o P hb=>
   refine Ah (by omega) (Ah (by omega) (Ah (by omega) (Ah (by omega) (Ah (by omega) (Ah (by omega) (AV h (lz (.inr (.inl h)) (a:=a) (a1:=b) (by rw[o];rfl) (by rw[o];rfl) (λh=>by omega) λ{i y} hi hy=>?_)))))));grind
  |@cond a b c' _ u w h o P hb B hu hw htt=>
   refine Ah (by omega) (Ah (by omega) (Ah (by omega) (Ah (by omega) (Ah (by omega) (Ah (by omega) (Ah (by omega) (AV h (lz (.inr (.inr h)) (a:=a) (a1:=b) (by rw[o];rfl) (by rw[o];rfl) (λ_=>⟨c',by rw[o];rfl⟩) λ{i y} hi hy=>?_))))))));grind
  |fld h=>omega
  |call h=>omega
  |neg h=>omega
  |not h=>omega
  |log h=>omega
  |eq h=>omega
  |cmp h=>omega
  |ari h=>omega
 ·refine Ah (by omega) (Ah (by omega) (Ah (by omega) (Ah (by omega) (Ah (by omega) (Ah (by omega) (Ah (by omega) (Ah (by omega) ?_)))))));have hGb:∀{k:Int}{s2:St},Dd (e.k.map f) [] s=.bad k s2->G=.bad k s2:=λ{k s2} hb=>by
   have one:∀{a:E},e.k=[a]->f a s=.bad k s2:=λo=>by grind[sq1_bad]
   rcases Y with⟨t,Y,h7⟩|⟨h7,-⟩;rotate_left;·rw[Q,I0 h7,hb];rfl
   cases Y with
   |@fld _ u a h o P hf'=>rw[Q,KS h,K (a:=a) (by rw[o];rfl),one o];rfl
   |call h B hr=>omega
   |@neg a h o P=>rw[Q,KT h,K (a:=a) (by rw[o];rfl),one o];rfl
   |@not a h o P=>rw[Q,cX18 h,K (a:=a) (by rw[o];rfl),one o];rfl
   |@log a h o P=>rw[Q,cX24 h,K (a:=a) (by rw[o];rfl),one o];rfl
   |@eq a b u w h o P C hf'=>rw[Q,F8 (by omega),K (i:=0) (a:=a) (by rw[o];rfl),K (i:=1) (a:=b) (by rw[o];rfl)];rw[o]at hb;exact sq2_bad hb
   |@cmp a b h o P C=>rw[Q,F8 (by omega),K (i:=0) (a:=a) (by rw[o];rfl),K (i:=1) (a:=b) (by rw[o];rfl)];rw[o]at hb;exact sq2_bad hb
   |@ari a b h o P C=>rw[Q,F8 (by omega),K (i:=0) (a:=a) (by rw[o];rfl),K (i:=1) (a:=b) (by rw[o];rfl)];rw[o]at hb;exact sq2_bad hb
   |int h=>omega
   |bool h=>omega
   |nil h=>omega
   |var h=>omega
   |new h=>omega
   |and h=>omega
   |or h=>omega
   |cond h=>omega
  have hlen6:e.k.length<=2000:=by
   have h1:=he.rows.n_eq;rcases Y with⟨t,Y,h7⟩|⟨h7,pr',i,B⟩;rotate_left;·rw[B.len];have:=OA X.S.procs B.at_;omega
   cases Y with
   |@fld _ u a h o P hf'=>rw[o];simp
   |call h B hr=>omega
   |@neg a h o P=>rw[o];simp
   |@not a h o P=>rw[o];simp
   |@log a h o P=>rw[o];simp
   |@eq a b u w h o P C hf'=>rw[o];simp
   |@cmp a b h o P C=>rw[o];simp
   |@ari a b h o P C=>rw[o];simp
   |int h=>omega
   |bool h=>omega
   |nil h=>omega
   |var h=>omega
   |new h=>omega
   |and h=>omega
   |or h=>omega
   |cond h=>omega
  refine loop3u (mk:=λs:Sl=>.slice s.p s.n s.c) (mc:=.int .i64) (b0:=⟨none,0,0⟩) (c0:=0) Bw CY e.k.length (λj sl _ V1=>∃W acc s1,V0.sub W/\Sx.Own V0 W 3 1 sl (acc.flatMap Al)/\XM W d p F V1 s1 c 0/\acc.length=j/\Am d s1.mm/\Gr F ((e.k.take j).map AB).sum s s1/\(∀(i:Nat) a v,e.k[i]?=some a->acc[i]?=some v->Cb d s1.mm (As d (Av d pr) a).1 v)/\
   Dd (e.k.map f) [] s=Dd ((e.k.drop j).map f) acc s1) ⟨V0,[],s,Mem.sub.refl _,Own.nil (Mem.sub.refl _) _ _,X.M,rfl,X.G,by simpa using Gr.refl s,λi a v _ h=>by simp at h,rfl⟩ ?_
  rintro j sl z V1 J hj ⟨W,acc,s1,I,ho,M1,hacc,G1,D,U,N⟩ hJ;have heW:=(he.sub I).sub M1.sub;refine⟨λhlt=>?_,λhge=>?_⟩
  ·obtain⟨a,ham,P,hdr,T,hp,hz,hrow⟩:=heW.rows.get hlt;have hu:=hkt a ham;have hsum:((e.k.take (j+1)).map AB).sum=((e.k.take j).map AB).sum+AB a:=by grind
   have X1:Yx W d p F c q pr vals n (AB a) V1 s1:=by
    have X':=X.le (k:=((e.k.take j).map AB).sum+AB a) (by grind);exact⟨X.S.sub I,X.fr.sub I,X.pm,G1,BQ (λh=>D.right h) X.hv,M1,D.fu X.tk,by have:=D.tk;have:=X.n;omega,X'.w.next D⟩
   rw[hdr,List.map_cons]at N;have hseq':Dd (e.k.map f) [] s=(f a s1).bind λv st=>Dd ((e.k.drop (j+1)).map f) (acc++[v]) st:=N;refine⟨hp,hz,hlt,_,_,_,_,hrow,XR.any (kid ham hu I X1) λv kf s2 V2 M2 B=>λtb htb=>?_⟩;have ho2:Sx.Own V0 V2 3 1 sl (acc.flatMap Al):=Own.moveB ho (I.trans M2.sub) λg cur _ hg=>M2.sub _ _ hg;refine FG (s:=sl) (u:=⟨some ⟨tb,0,none⟩,1,1⟩) (xs:=acc) (ys:=[v]) rfl rfl (ho2.but.new htb (.cells #[.int .i64 v] 3 (0,0))) (I8 Az) (by simp;omega) λo3 V3 ho3=>⟨o3,rfl,?_⟩;obtain⟨W',hW',M3,ho4⟩:=M2.beside I ho ho3;refine⟨nn,nn,_,XM.fault M3,λhkf=>⟨heW.rows.succ hlt,hJ T _ _ _ ?_⟩,λhkf=>?_⟩
   ·rcases B with⟨hk0,e2⟩|⟨h,-⟩;rotate_left;·omega
    subst hk0;obtain⟨G2,g2,hv2⟩:=(snd ham hu G1 D).got e2;refine⟨W',acc++[v],s2,hW',ho4,M3,by grind,G2,by rw[hsum];exact D.trans g2,λi b w hb hw=>?_,by rw[hseq',e2];rfl⟩;by_cases hi:i<acc.length
    ·rw[List.getElem?_append_left hi]at hw;exact g2.val (U i b w hb hw)
    grind
   ·have hkf:¬kf=0:=hkf;rcases B with⟨h,-⟩|⟨-,rfl,e2⟩;·omega
    exact(XR.bad (hGb (by rw[hseq',e2];rfl)) hkf M3).narrow hW'
  ·have hdn:=(heW.rows.done hge).2;rw[List.take_of_length_le hdn]at D;rw[List.drop_eq_nil_of_le hdn]at N;have N:Dd (e.k.map f) [] s=.ok acc s1:=N;obtain⟨gs,ns,ls,nd,hat,L⟩:=M1.ex;have hd:=(X.S.sub I).ds.sub L.sub;have hoR:Ad W sl 1 (acc.map Al):=ho.rows (λ_=>rfl) (by decide);have X1:Yx W d p F c q pr vals n 1 V1 s1:=by
    have X':=X.le (k:=(e.k.map AB).sum+1) (by omega);exact⟨X.S.sub I,X.fr.sub I,X.pm,G1,BQ (λh=>D.right h) X.hv,M1,D.fu X.tk,by have:=D.tk;have:=X.n;omega,X'.w.next D⟩
   have at_:∀{i:Nat}{v:Int}{V':Mem},acc[i]?=some v->W.sub V'->¬sl.p=none/\(0:Int)<=(i:Int)/\(i:Int)<(sl.n:Int)/\V'.rowp sl.p (i*1) 1=some [.int .i64 v]:=λh hs=>Fm (hoR.sub hs) h;rcases Y with⟨t,Y,h7⟩|⟨h,pr',i,B⟩;rotate_left
   ·have Z:=Q.trans (I0 h);rw[N,B.idx]at Z;have Z:G=CA d (A9 d F n) c (i:Int) acc s1:=Z;refine Ah (by omega) (AV h ⟨nn,nn,_,_,_,_,_,_,_,_,An hat 0 8 (by simp[AF]),(c136 hd).call ⟨_,rfl,?_⟩⟩);rw[show Ck (λt:Pr=>decide (t.name=e.s)) d.procs=(i:Int)from B.idx];have hkn:=K1 X.S.procs B.at_;refine lastW I Z (hR W V1 s1 c i pr' acc sl (X.S.sub I) B.at_ G1 (Cm.2 ⟨by rw[<-B.len];omega,λjj g v hg hv=>?_⟩) hoR M1 (D.fu X.tk) (by have:=D.tk;have:=X.n;omega) (X1.w.le (by omega)));have T:=(yw.1 hg).1;rw[<-B.len]at T;obtain⟨u,hu,hfit⟩:=B.fit jj _ _ (yv T) hg;have:=U jj _ v (yv T) hv;rw[hu]at this;exact(FZ X.S.valid (hkn _ (xJ hg))).1 (Ht X.S.valid hfit this)
   cases Y with
   |@fld _ u a h o P hf'=>
    have A:e.k[0]?=some a:=by rw[o];rfl
    have Z:=Q;rw[KS h,K A]at Z;rw[o]at N;obtain⟨v,e1,rfl⟩:=sq1_ok N;rw[e1]at Z;have Z:G=fldX d v e.s s1:=Z;have O:=U 0 a v A rfl;rw[P]at O;obtain⟨a1,a2,a3,a4⟩:=at_ (i:=0) (v:=v) rfl L.sub;refine AV h ⟨a1,by decide,a3,_,a4,λhz=>failW I M1 (by decide) ?_,λhz=>?_⟩;·grind[fldX]
    have hz:¬v=0:=hz;obtain⟨k,i,jj,tt,g,fs,w,rfl,e2,e3,e4,e5,e6,e7,e8,e9,-⟩:=I4 X1.G hf' O hz;refine⟨a1,by decide,a3,_,a4,(c330 X1.S M1 e2 e3).call ⟨_,rfl,a1,by decide,a3,_,a4,?_⟩⟩;rw[e6];refine Tri.mono (c331 M1 (X1.fit (m:=0))) ?_;rintro _ V3 ⟨rfl,M3⟩;obtain⟨gs3,ns3,Ib,nd3,sl3,hat3,L3,-,hI,n1,n2,n3,n4,m1,m2,m3,m4⟩:=nodeX M3 (k:=k) (i:=i) e2 e8;obtain⟨b1,b2,b3,b4⟩:=at_ (i:=0) (v:=(k:Int)+1) rfl L3.sub;refine⟨rfl,nn,nn,AX,ns3,An hat3 9 1 (by simp[AF]),b1,by decide,b3,_,b4,?_⟩;rw[show((k:Int)+1-1)=(k:Int)by omega];refine⟨hI,n1,n2,n3,Ak n1,_,_,n4,m1,m2,m3,_,m4,(XR.ok ?_ M3).narrow I⟩;rw[Z];unfold fldX;rw[if_neg hz,show((k:Int)+1-1).toNat=k by omega,e2];grind[Int.toNat_natCast]
   |call h B hr=>omega
   |@neg a h o P=>
    have A:e.k[0]?=some a:=by rw[o];rfl
    have Z:=Q;rw[KT h,K A]at Z;rw[o]at N;obtain⟨v,e1,rfl⟩:=sq1_ok N;rw[e1]at Z;have Z:G=DG (CK (-v)) s1:=Z;have O:=U 0 a v A rfl;rw[P]at O;have:=EI.1 O;rw[<-Int.zero_sub]at Z;obtain⟨a1,a2,a3,a4⟩:=at_ (i:=0) (v:=v) rfl L.sub;exact Ah (by omega) (Ah (by omega) (AV h ⟨a1,by decide,a3,_,a4,⟨by omega,by omega⟩,lastW I Z (c332 M1)⟩))
   |@log a h o P=>
    have A:e.k[0]?=some a:=by rw[o];rfl
    have Z:=Q;rw[cX24 h,K A]at Z;rw[o]at N;obtain⟨v,e1,rfl⟩:=sq1_ok N;rw[e1]at Z;have Z:G=.ok (DB v) s1:=Z;have O:=U 0 a v A rfl;rw[P]at O;have:=EI.1 O;obtain⟨a1,a2,a3,a4⟩:=at_ (i:=0) (v:=v) rfl L.sub;exact Ah (by omega) (Ah (by omega) (Ah (by omega) (AV h ⟨a1,by decide,a3,_,a4,(c333 (by omega)).call ⟨_,rfl,(XR.ok Z M1).narrow I⟩⟩)))
   |@not a h o P=>
    have A:e.k[0]?=some a:=by rw[o];rfl
    have Z:=Q;rw[cX18 h,K A]at Z;rw[o]at N;obtain⟨v,e1,rfl⟩:=sq1_ok N;rw[e1]at Z;have Z:G=.ok (1-v) s1:=Z;have O:=U 0 a v A rfl;rw[P]at O;have:=E6.1 O;obtain⟨a1,a2,a3,a4⟩:=at_ (i:=0) (v:=v) rfl L.sub;exact Ah (by omega) (Ah (by omega) (Ah (by omega) (Ah (by omega) (AV h ⟨a1,by decide,a3,_,a4,⟨by omega,by omega⟩,(XR.ok Z M1).narrow I⟩))))
   |@eq a b u w h o P C hf'=>
    have A:e.k[0]?=some a:=by rw[o];rfl
    have h1:e.k[1]?=some b:=by rw[o];rfl
    have Z:=Q;rw[F8 (by omega),K A,K h1]at Z;have hib:intB d (Av d pr) e.k=decide (u=Ai):=by rw[o];show decide ((As d (Av d pr) a).1=Ai)=_;rw[P]
    rw[hib]at Z;rw[o]at N;obtain⟨v,y,s',e1,e2,rfl⟩:=sq2_ok N;rw[e1]at Z;have Z:G=(f b s').bind λw st=>DG (Bg e.op v w) (DC (decide (u=Ai)) e.op st):=Z;rw[e2]at Z;obtain⟨a1,a2,a3,a4⟩:=at_ (i:=0) (v:=v) rfl L.sub;obtain⟨b1,b2,b3,b4⟩:=at_ (i:=1) (v:=y) rfl L.sub;have fin:=lastW I Z (compareX (v:=v) (w:=y) (X1.le (k:=0+1) (by omega)) hv (he.sub I) A P (by omega));rcases h with h|h;·exact Ah (by omega) (Ah (by omega) (Ah (by omega) (Ah (by omega) (Ah (by omega) (AV h ⟨a1,by decide,a3,_,a4,b1,by decide,b3,_,b4,fin⟩)))))
    ·exact Ah (by omega) (Ah (by omega) (Ah (by omega) (Ah (by omega) (Ah (by omega) (Ah (by omega) (AV h ⟨a1,by decide,a3,_,a4,b1,by decide,b3,_,b4,fin⟩))))))
   |@cmp a b h o P C=>
    have A:e.k[0]?=some a:=by rw[o];rfl
    have h1:e.k[1]?=some b:=by rw[o];rfl
    have Z:=Q;rw[F8 (by omega),K A,K h1]at Z;have hib:intB d (Av d pr) e.k=decide (Ai=Ai):=by rw[o];show decide ((As d (Av d pr) a).1=Ai)=_;rw[P]
    rw[hib]at Z;rw[o]at N;obtain⟨v,y,s',e1,e2,rfl⟩:=sq2_ok N;rw[e1]at Z;have Z:G=(f b s').bind λw st=>DG (Bg e.op v w) (DC (decide (Ai=Ai)) e.op st):=Z;rw[e2]at Z;obtain⟨a1,a2,a3,a4⟩:=at_ (i:=0) (v:=v) rfl L.sub;obtain⟨b1,b2,b3,b4⟩:=at_ (i:=1) (v:=y) rfl L.sub;have fin:=lastW I Z (compareX (v:=v) (w:=y) (X1.le (k:=0+1) (by omega)) hv (he.sub I) A P (by grind));rcases h with h|h;·exact Ah (by omega) (Ah (by omega) (Ah (by omega) (Ah (by omega) (Ah (by omega) (Ah (by omega) (Ah (by omega) (AV h ⟨a1,by decide,a3,_,a4,b1,by decide,b3,_,b4,fin⟩)))))))
    ·exact Ah (by omega) (Ah (by omega) (Ah (by omega) (Ah (by omega) (Ah (by omega) (Ah (by omega) (Ah (by omega) (Ah (by omega) (AV h ⟨a1,by decide,a3,_,a4,b1,by decide,b3,_,b4,fin⟩))))))))
   |@ari a b h o P C=>
    have A:e.k[0]?=some a:=by rw[o];rfl
    have h1:e.k[1]?=some b:=by rw[o];rfl
    have Z:=Q;rw[F8 (by omega),K A,K h1]at Z;rw[o]at N;obtain⟨v,y,s',e1,e2,rfl⟩:=sq2_ok N;rw[e1]at Z;have Z:G=(f b s').bind λw st=>DG (Bg e.op v w) (DC (intB d (Av d pr) e.k) e.op st):=Z;rw[e2]at Z;have Z:G=DG (Bg e.op v y) (DC (intB d (Av d pr) e.k) e.op s1):=Z;unfold DC at Z;rw[if_neg (by omega)]at Z;have O:=U 0 a v A rfl;have hv2:=U 1 b y h1 rfl;rw[P]at O;rw[C]at hv2;obtain⟨a1,a2,a3,a4⟩:=at_ (i:=0) (v:=v) rfl L.sub;obtain⟨b1,b2,b3,b4⟩:=at_ (i:=1) (v:=y) rfl L.sub;exact Ah (by omega) (Ah (by omega) (Ah (by omega) (Ah (by omega) (Ah (by omega) (Ah (by omega) (Ah (by omega) (Ah (by omega) (Ah (by omega) ⟨a1,by decide,a3,_,a4,b1,by decide,b3,_,b4,lastW I Z (c335 M1 h (EI.1 O) (EI.1 hv2))⟩))))))))
   |int h=>omega
   |bool h=>omega
   |nil h=>omega
   |var h=>omega
   |new h=>omega
   |and h=>omega
   |or h=>omega
   |cond h=>omega
theorem exprX{n:Nat}(h:XCallC d p F n):XExprC d p F n:=λe t V0 V s c q pr vals X hv g f=>exprX0 h e V0 V s c q pr vals X hv g (.inl ⟨t,f⟩)
end
section
variable{W V0 V V1 V':Mem}{d:Ds}{p F c q:Nat}{s:St}{pr:Pr}{vals:List Int}
structure Eh (W V0:Mem)(q:Nat)(pr:Pr)(vals:List Int)(r:Option Int):Prop where
 sub:W.sub V0
 q0:W q=none
 ex:∃a b:Sl,V0 q=some (.cells (Dp pr a b r).toArray 372 (0,0))/\Ad W a 2 (pr.vars.map Fld.row)/\Sx.Own W V0 3 1 b (vals.flatMap Al)
theorem Eh.gv(h:Eh W V0 q pr vals none):Gv V0 q pr vals:=by
 obtain⟨a,b,h1,h2,h3⟩:=h.ex;exact⟨a,b,h1,h2.sub h.sub,h3.rows (λ_=>rfl) (by decide)⟩
theorem Ng{b:Sl}{vs:List Value}(own:Sx.Own W V0 3 1 b vs)(q0:W q=none){x:Array Value}(t:V0 q=some (.cells x 372 (0,0)))(o:Obj):Sx.Own W (V0.set q o) 3 1 b vs:=
 Own.moveB own (own.sub.set q0 _) λg h _ f=>by
  rw[Mem.set_ne];exact f;grind
theorem frStoreX{ty:Nat}{row:Sl->Sl->Sl->List Value}{b:Sl}(own:Sx.Own W V0 3 1 b (vals.flatMap Al))(M:MA ty V0 p row V s){i:Nat}(hi:i<vals.length){v:Int}{Q:Mem->Prop}
  (u:∀h V',Sx.Own W h 3 1 b ((vals.set i v).flatMap Al)->MA ty h p row V' s->(∀x,¬Bh b x->h x=V0 x)->Q V'):Ao (Aa b.p (i*1)) 0 [.int .i64 v] V Q:=by
 rw[Nat.mul_one];rcases own.cases0 with⟨h1,h2,h3⟩|⟨z,g,cur,h1,h2,h3,h4,j,N,l⟩
 ·rw[CB]at h3;have:vals=[]:=by simpa using h3
  rw[this]at hi;simp at hi
 have o:b.n*1<=b.c*1:=Nat.mul_le_mul_right _ h4;have t:=own.len;rw[CB,xm]at t;have f:V0 g≠none:=by rw[h3];simp
 rw[h1];have e:(cur.toList.take i++[xe .i64 v]++cur.toList.drop (i+1))=cur.toList.set i (.int .i64 v):=K3 _ _ _ (by simp;omega);refine Ao.at2 (off:=i) (M.sub _ _ h3) (by simp;omega) (u (V0.set g _) _ ⟨own.sub.set h2 _,?_,.inr ⟨g,_,h1,h2,Mem.set_same _ _ _,h4,j,?_,?_⟩⟩ (M.poke f _) λx J=>?_);·rw[CB,xm,List.length_set];exact t
 ·simp_all
 ·rw[show i+[xe .i64 v].length=i+1 from rfl,e];show(cur.toList.set i (.int .i64 v)).take (b.n*1)=_;rw[List.take_set,l,CB,CB,List.map_set]
 ·rw[Mem.set_ne];rintro rfl;exact J ⟨z,h1⟩
def PY(W:Mem)(d:Ds)(p F:Nat)(c:Int)(q:Nat)(pr:Pr)(r:Rx Rt):Ending->Mem->Prop:=λe V'=>e=.returned (.tuple #[])/\match r with
 |.ok g s=>∃h,Eh W h q pr g.1 g.2/\XM h d p F V' s c 0
 |.bad k s=>k≠0/\∃h vals f,Eh W h q pr vals f/\XM h d p F V' s c k
theorem PY.ok{c:Int}{G:Rx Rt}{rt:Rt}(h:G=.ok rt s)(g:Eh W V0 q pr rt.1 rt.2)(M:XM V0 d p F V s c 0):PY W d p F c q pr G (.returned (.tuple #[])) V:=by
 rw[h];exact⟨rfl,V0,g,M⟩
theorem PY.bad{c:Int}{G:Rx Rt}{k:Int}(g:G=.bad k s)(f:k≠0){h:Option Int}(t:Eh W V0 q pr vals h)(M:XM V0 d p F V s c k):PY W d p F c q pr G (.returned (.tuple #[])) V:=by
 rw[g];exact⟨rfl,f,V0,vals,h,t,M⟩
theorem PY.any{c:Int}{f:FuncId}{args:Array Value}{r:Rx Rt}{K:Mem->Prop}(H:Tri xE f args V (PY W d p F c q pr r))(h:∀t g z u s V',Eh W t q pr g z->XM t d p F V' s c u->(u=0/\r=.ok (g,z) s∨u≠0/\r=.bad u s)->K V'):
  Tri xE f args V λe V'=>e=.returned (.tuple #[])/\K V':=
 Tri.mono H λe V' k=>by
  cases r with
  |ok j s=>obtain⟨h1,t,h2,h3⟩:=k;grind
  |bad u s=>obtain⟨h1,i,t,g,z,h2,h3⟩:=k;grind
theorem PY.last{c:Int}{f:FuncId}{args:Array Value}{G r:Rx Rt}(t:G=r)(H:Tri xE f args V (PY W d p F c q pr r)):Tri xE f args V λe V'=>e=.returned (.tuple #[])/\PY W d p F c q pr G (.returned (.tuple #[])) V':=by
 subst t;refine PY.any H λu h i l s V' g M z=>?_;rcases z with⟨rfl,e⟩|⟨j,e⟩;·exact PY.ok e g M
 ·exact PY.bad e j g M
structure Dq (W V0:Mem)(d:Ds)(p F c q:Nat)(pr:Pr)(vals:List Int)(n m:Nat)(V:Mem)(s:St):Prop where
 S:ES W d F
 fr:Eh W V0 q pr vals none
 pm:pr∈d.procs
 G:Am d s.mm
 hv:Aw d s.mm pr.vars vals=true
 M:XM V0 d p F V s c 0
 tk:s.tk<=F
 n:F<n+s.tk
 w:BW m s
theorem Dq.po{n m:Nat}(X:Dq W V0 d p F c q pr vals n m V s):D0 d pr:=X.S.procs pr X.pm
theorem Dq.cx{n m:Nat}(X:Dq W V0 d p F c q pr vals n m V s):Yx V0 d p F c q pr vals n m V s:=⟨X.S.sub X.fr.sub,X.fr.gv,X.pm,X.G,X.hv,X.M,X.tk,X.n,X.w⟩
theorem Dq.next{n m k:Nat}{f:Mem}{h:List Int}{s':St}(X:Dq W V0 d p F c q pr vals n (m+k) V s)(g:Gr F m s s')(G:Am d s'.mm)(t:Eh W f q pr h none)(hv:Aw d s'.mm pr.vars h=true)(M:XM f d p F V' s' c 0):Dq W f d p F c q pr h n k V' s':=
 ⟨X.S,t,X.pm,G,hv,M,g.fu X.tk,by have:=g.tk;have:=X.n;omega,X.w.next g⟩
theorem Dq.le{n m k:Nat}(X:Dq W V0 d p F c q pr vals n m V s)(h:k<=m):Dq W V0 d p F c q pr vals n k V s:=⟨X.S,X.fr,X.pm,X.G,X.hv,X.M,X.tk,X.n,X.w.le h⟩
theorem Dq.tick{n:Nat}(X:Dq W V0 d p F c q pr vals (n+1) 0 V s)(h:s.tk<F)(M:XM V0 d p F V' {s with tk:=s.tk+1} c 0):Dq W V0 d p F c q pr vals n 4000 V' {s with tk:=s.tk+1}:=
 ⟨X.S,X.fr,X.pm,⟨X.G.valid,X.G.chk,X.G.mem⟩,X.hv,M,h,by have:=X.n;grind,by have:=X.w;grind[BW]⟩
variable(d p F)in
def JU(n:Nat):Prop:=∀(l:List S)(W V0 V:Mem)(s:St)(c q:Nat)(pr:Pr)(vals:List Int)(sl:Sl),Dq W V0 d p F c q pr vals n 0 V s->(∀x∈l,Eu d pr x)->(∀x∈l,S.Ok W x)->Ad W sl 5 (l.map S.row)->
 Tri xE 276 #[pv p,pv q,sl.v] V (PY W d p F c q pr (A9 d F n c pr l vals s))
variable(d p F)in
def XLoopC(n:Nat):Prop:=∀(x:S)(W V0 V:Mem)(s:St)(c q:Nat)(pr:Pr)(vals:List Int),x.op=4->Dq W V0 d p F c q pr vals (n+1) 0 V s->Eu d pr x->S.Ok W x->
 Tri xE 300 #[pv p,pv q,x.v] V (PY W d p F c q pr (DH d F (A9 d F n) c pr (n+1) x vals s))
variable(d p F)in
def XBodyC(n:Nat):Prop:=∀(x:S)(W V0 V:Mem)(s:St)(c q:Nat)(pr:Pr)(vals:List Int),x.op≠4->Dq W V0 d p F c q pr vals n 4000 V s->Eu d pr x->S.Ok W x->
 Tri xE 302 #[pv p,pv q,x.v] V (PY W d p F c q pr (EJ d F (A9 d F n) c pr (n+1) x vals s))
theorem Eh.done{g f:Int}{r:Option Int}(h:Eh W V0 q pr vals r)(M:XM V0 d p F V s f g):V.rowp (sa q) ((7:Int).toNat*1) 1=some [.bool r.isSome]:=by
 obtain⟨a,b,h1,-,-⟩:=h.ex;exact An (M.sub _ _ h1) 7 1 (by simp[Dp])
theorem stsY{n:Nat}(HL:XLoopC d p F n)(HB:XBodyC d p F n):JU d p F (n+1):=by
 intro l W V0 V s c q pr vals sl X C U D;obtain⟨f,hf⟩:∃f,f=DH d F (A9 d F n) c pr (n+1):=⟨_,rfl⟩;obtain⟨G,hG⟩:∃G:Rx Rt,G=DR f l vals s:=⟨_,rfl⟩;show Tri _ _ _ _ (PY W d p F c q pr (DR (DH d F (A9 d F n) c pr (n+1)) l vals s));rw[<-hf,<-hG];refine Tri.mono (x276 (R:=PY W d p F c q pr G) ?_) λ_ _ h=>h;refine Fz l.length (λi V1=>∃Y g s',Dq W Y d p F c q pr g (n+1) 0 V1 s'/\G=DR f (l.drop i) g s') ⟨V0,vals,s,X,hG⟩ ?_;rintro i V1 J hi ⟨Y,g,s',j,Q⟩ hJ;have hr:=D.sub (j.fr.sub.trans j.M.sub);refine⟨λE=>?_,λhge=>?_⟩
 ·obtain⟨x,Z,hx,hdr,hil,hp,hz,L⟩:=hr.get E;rw[S.row_eq]at L;rw[hdr]at Q;have O:G=(f x g s').bind λr st=>match r.2 with|some _=>.ok r st|none=>DR f (l.drop (i+1)) r.1 st:=Q
  have P:=st_snd (F:=F) (c:=c) (n:=n+1) j.S.procs (Ga j.S.procs n) j.po (C x Z) j.G j.hv;rw[<-hf]at P;have after:∀{V2 v:Mem}{t:List Int}{K:Option Int}{A:Int}{s2:St},Eh W v q pr t K->XM v d p F V2 s2 c A->(A=0/\f x g s'=.ok (t,K) s2∨A≠0/\f x g s'=.bad A s2)->
    (¬(some (⟨q,0,none⟩:Addr))=none/\¬(some (⟨q,0,none⟩:Addr))=none/\∃v9,V2.rowp (sa q) ((7:Int).toNat*1) 1=some [uB v9]/\
    Br (v9=true) (PY W d p F c q pr G (rT #[]) V2)
    (¬(some (⟨p,0,none⟩:Addr))=none/\¬(some (⟨p,0,none⟩:Addr))=none/\∃v10,V2.rowp (sa p) ((13:Int).toNat*1) 1=some [uI v10]/\
    Br (v10=0) (IR ((i:Int)+1)/\J [uI ((i:Int)+1)] V2) (PY W d p F c q pr G (rT #[]) V2))):=λ{V2 v t K A s2} u o T=>by
   refine⟨nn,nn,_,u.done o,λhd=>?_,λhd=>⟨nn,nn,_,o.fault,λN=>?_,λN=>?_⟩⟩
   ·rcases T with⟨rfl,B⟩|⟨hk,B⟩
    ·cases K with
     |none=>cases hd
     |some z=>exact PY.ok (rt:=(t,some z)) (by rw[O,B];rfl) u o
    ·exact PY.bad (by rw[O,B];rfl) hk u o
   ·have N:A=0:=N;rcases T with⟨-,B⟩|⟨hk,-⟩;rotate_left;·omega
    subst N;cases K with
    |some z=>grind
    |none=>
     obtain⟨G2,g2,q2⟩:=P.got B;exact⟨hr.succ E,hJ hil _ ⟨v,t,s2,j.next (m:=0) g2 G2 u q2.1 o,by rw[O,B];rfl⟩⟩
   ·have N:¬A=0:=N;rcases T with⟨h,-⟩|⟨hk,B⟩;·omega
    ·exact PY.bad (by rw[O,B];rfl) hk u o
  refine⟨hp,hz,E,_,_,_,_,_,L,λh4=>?_,λh4=>?_⟩
  ·have Hx:=HL x W Y V1 s' c q pr g h4 j (C x Z) (U x Z);rw[<-hf,S.v_eq]at Hx;exact PY.any Hx λv t K A s2 V2 u o T=>after u o T
  ·refine Tri.mono (c301 j.S.fuel j.M) ?_;rintro e1 V2 (⟨I,rfl,o⟩|⟨I,rfl,o⟩)
   ·refine⟨_,rfl,λ_=>?_,λh=>absurd rfl h⟩;have Hx:=HB x W Y V2 _ c q pr g h4 (j.tick I o) (C x Z) (U x Z);have e:EJ d F (A9 d F n) c pr (n+1) x g {s' with tk:=s'.tk+1}=f x g s':=by rw[hf];unfold DH;rw[La I];rfl
    rw[e,S.v_eq]at Hx;exact PY.any Hx λv t K A s2 V2 u o T=>after u o T
   ·refine⟨_,rfl,(λh=>by cases h),λ_=>after j.fr o (.inr ⟨by decide,?_⟩)⟩;rw[hf];unfold DH;rw[Lb I];rfl
 ·rw[(hr.done hge).1]at Q;exact PY.ok Q j.fr j.M
end
end Go.Proofs
