/- Part 8: no statement of the seat is proved here. -/
import Derived.Test.YtmeagdecjpknkaaGreatDoorPs04
import Derived.Test.YtmeagdecjpknkaaGreatDoorPs05
import Derived.Test.YtmeagdecjpknkaaGreatDoorPs06
import Derived.Test.YtmeagdecjpknkaaGreatDoorPs07
import Derived.Shelf.Strings.Fields
import Derived.Test.YtmeagdecjpknkaaGreatDoorProg
import Derived.Sort.Walk0
import Derived.RangeFuncRecord
set_option linter.unusedVariables false
set_option linter.unusedSimpArgs false
open Go.Proofs.Tryz renaming prog->xE
open Go.IntKind renaming wrap->xF
open Go.Op renaming bytesLess->xG
open Go.Ending renaming returned->xH
open List renaming mem_iff_getElem->yd,getElem?_eq_getElem->yu,getElem?_cons_succ->xQ
open Go.Value renaming string->xI
open Nat renaming le_of_ble_eq_true->xJ
open Go.Lib renaming TabIs->xK,asciiSpaceTab->xL,fields->xO
open Array renaming getElem?_eq_some_iff->yA
open Go.RowKit.Below renaming heap_alloc->xP
open Bool renaming and_eq_true->zC
namespace Go.Proofs
open Go Go.Sx
set_option maxRecDepth 100000
section
variable{V:Mem}{R:RP}
theorem x263{a b:KB}{c d g:Int}{i:KB}{j:Sl}{k l o:Option Addr}(h:∃p,K.f.ok p/\V.rowp k ((0:Int).toNat*1) 1=some [p]/\∃q,K.f.ok q/\V.rowp k ((0:Int).toNat*1) 1=some [q]/\∃r,V.rowp l ((0:Int).toNat*1) 1=some [uL r]/\∃s,V.rowp o ((0:Int).toNat*1) 1=some [uI s]/\Ix r s (∃u y z A B C D,V.rowp r.p (s.toNat*7) 7=some [uS u,uS y,uI z,uI A,uI B,uS C,uL D]/\∃f first w,K.cast .f p=.func (.func f) first w/\CO f/\TT f (first++#[uA #[uS a,uS b,uI c,uI d,uI g,uS i,uL j]]++w) V λe V1=>∃F,e=rV (uS F)/\V1.rowp (qAa r.p (s.toNat*7)) 0 7=some [uS u,uS y,uI z,uI A,uI B,uS C,uL D]/\Ix r s (V1.rowp o 0 1=some [uI s]/\V1.rowp l 0 1=some [uL r]/\V1.rowp k 0 1=some [K.cast .f q]/\∃f first w,K.cast .f q=.func (.func f) first w/\CO f/\TT f (first++#[uA #[uS u,uS y,uI z,uI A,uI B,uS C,uL D]]++w) V1 λe V2=>∃G,e=rV (uS G)/\R (rV (uB (decide (F=G)))) V2))):TT 263 #[uA #[uS a,uS b,uI c,uI d,uI g,uS i,uL j],uP k,uP l,uP o] V R:=trx Tryz.func263 h
theorem x264{a:Sl}{b:Value}(h:TI 295 #[uL a,K.cast .f b] V λc V1=>R (rV (uB (decide (0<=c)))) V1):TT 264 #[uL a,K.cast .f b] V R:=qBw Tryz.func264 [] [] false [uL a,b] (by kernel_rfl) (by kernel_rfl) h
theorem x265{a b:KB}{c d:Int}{g:KB}{i:Sl}{j k l:Option Addr}(h:∃o,K.f.ok o/\V.rowp j ((0:Int).toNat*1) 1=some [o]/\∃p,K.f.ok p/\V.rowp j ((0:Int).toNat*1) 1=some [p]/\∃q,V.rowp k ((0:Int).toNat*1) 1=some [uL q]/\∃r,V.rowp l ((0:Int).toNat*1) 1=some [uI r]/\Ix q r (∃s u y z A B,V.rowp q.p (r.toNat*6) 6=some [uS s,uS u,uI y,uI z,uS A,uL B]/\∃f first w,K.cast .f o=.func (.func f) first w/\CO f/\TT f (first++#[uA #[uS a,uS b,uI c,uI d,uS g,uL i]]++w) V λe V1=>∃C,e=rV (uS C)/\V1.rowp (qAa q.p (r.toNat*6)) 0 6=some [uS s,uS u,uI y,uI z,uS A,uL B]/\Ix q r (V1.rowp l 0 1=some [uI r]/\V1.rowp k 0 1=some [uL q]/\V1.rowp j 0 1=some [K.cast .f p]/\∃f first w,K.cast .f p=.func (.func f) first w/\CO f/\TT f (first++#[uA #[uS s,uS u,uI y,uI z,uS A,uL B]]++w) V1 λe V2=>∃D,e=rV (uS D)/\R (rV (uB (decide (C=D)))) V2))):TT 265 #[uA #[uS a,uS b,uI c,uI d,uS g,uL i],uP j,uP k,uP l] V R:=trx Tryz.func265 h
theorem x266{a:KB}{b c:Int}{d:KB}{g:Sl}{i j k:Option Addr}(h:∃l,K.f.ok l/\V.rowp i ((0:Int).toNat*1) 1=some [l]/\∃o,K.f.ok o/\V.rowp i ((0:Int).toNat*1) 1=some [o]/\∃p,V.rowp j ((0:Int).toNat*1) 1=some [uL p]/\∃q,V.rowp k ((0:Int).toNat*1) 1=some [uI q]/\Ix p q (∃r s u y z,V.rowp p.p (q.toNat*5) 5=some [uS r,uI s,uI u,uS y,uL z]/\∃f first w,K.cast .f l=.func (.func f) first w/\CO f/\TT f (first++#[uA #[uS a,uI b,uI c,uS d,uL g]]++w) V λe V1=>∃A,e=rV (uS A)/\V1.rowp (qAa p.p (q.toNat*5)) 0 5=some [uS r,uI s,uI u,uS y,uL z]/\Ix p q (V1.rowp k 0 1=some [uI q]/\V1.rowp j 0 1=some [uL p]/\V1.rowp i 0 1=some [K.cast .f o]/\∃f first w,K.cast .f o=.func (.func f) first w/\CO f/\TT f (first++#[uA #[uS r,uI s,uI u,uS y,uL z]]++w) V1 λe V2=>∃B,e=rV (uS B)/\R (rV (uB (decide (A=B)))) V2))):TT 266 #[uA #[uS a,uI b,uI c,uS d,uL g],uP i,uP j,uP k] V R:=trx Tryz.func266 h
theorem x268{a:Option Addr}{b:Option Nat}{c:Bool}{d:Int}{g:KB}{i j k:Sl}{l:KB}(h:Br (d=6) (¬i.p=none/\(0:Int)<=(0:Int)/\0<(i.n:Int)/\∃o p q r,V.rowp i.p ((0:Int).toNat*4) 4=some [uI o,uI p,uS q,uL r]/\TT 297 #[uA #[uP a,uM b,uB c],uA #[uI o,uI p,uS q,uL r]] V λe V1=>∃s u,e=rT #[uS s,uI u]/\R (rV (uI u)) V1) (Lp [uI 0,z0,uI 0] V λI n V1=>∀o p q,I n [uI o,uL p,uI q] V1->∀m:LMP,Nx I n m->Br (q<(i.n:Int)) (Ix i q (∃r s u y,V1.rowp i.p (q.toNat*4) 4=some [uI r,uI s,uS u,uL y]/\TT 269 #[uA #[uP a,uM b,uB c],uA #[uI r,uI s,uS u,uL y]] V1 λe V2=>∃z A,e=rT #[uS z,uI A]/\Br (A=0) (qAr [uS z] 9 V2 λB w=>Ap 48 50 220 (uL p) (.slice (qAa B 0) 1 1) w λC H=>IR (q+1)/\m [uI o,uL C,uI (q+1)] H) (R (rV (uI A)) V2))) (Br (d=1) (qBH xE 312 (uM b) (uS g) true V1 λx=>∃r s,x=.tuple #[uS r,uB s]/\Br (s=true) (¬p.p=none/\(0:Int)<=(0:Int)/\0<(p.n:Int)/\∃u,V1.rowp p.p ((0:Int).toNat*1) 1=some [uS u]/\TB 298 #[uP a,uS u,uS r] V1 λy V2=>Br (y=true) (R (rV (uI 0)) V2) (R (rV (uI 11)) V2)) (R (rV (uI 9)) V1)) (Br (d=2) (¬p.p=none/\(0:Int)<=(0:Int)/\0<(p.n:Int)/\∃r,V1.rowp p.p ((0:Int).toNat*1) 1=some [uS r]/\TT 299 #[uP a,uS r,uS g] V1 λe V2=>∃s u,e=rT #[uS s,uI u]/\Br (u=0) (¬p.p=none/\(0:Int)<=(1:Int)/\1<(p.n:Int)/\∃y,V2.rowp p.p 1 1=some [uS y]/\TB 298 #[uP a,uS y,uS s] V2 λz w=>Br (z=true) (R (rV (uI 0)) w) (R (rV (uI 11)) w)) (R (rV (uI u)) V2)) (Br (d=3) (¬p.p=none/\(0:Int)<=(0:Int)/\0<(p.n:Int)/\∃r,V1.rowp p.p ((0:Int).toNat*1) 1=some [uS r]/\Br (r=(qAo [98,111,111,108])) (R (rV (uI 0)) V1) (R (rV (uI 11)) V1)) (Br (d=4) (¬p.p=none/\(0:Int)<=(0:Int)/\0<(p.n:Int)/\∃r,V1.rowp p.p ((0:Int).toNat*1) 1=some [uS r]/\Br (r=(qAo [98,111,111,108])) (R (rV (uI 0)) V1) (R (rV (uI 11)) V1)) (Br (d=5) (Br ((p.n:Int)=0) (Br (l=(qAo [])) (R (rV (uI 0)) V1) (R (rV (uI 11)) V1)) (Br (l=(qAo [])) (R (rV (uI 11)) V1) (¬p.p=none/\(0:Int)<=(0:Int)/\0<(p.n:Int)/\∃r,V1.rowp p.p ((0:Int).toNat*1) 1=some [uS r]/\TB 298 #[uP a,uS r,uS l] V1 λs V2=>Br (s=true) (R (rV (uI 0)) V2) (R (rV (uI 11)) V2)))) (R (rV (uI 0)) V1)))))))):TT 268 #[uA #[uP a,uM b,uB c],uA #[uI d,uS g,uL i,uL j,uL k],uS l] V R:=trx Tryz.func268 h
theorem x269{a:Option Addr}{b:Option Nat}{c:Bool}{d g:Int}{i:KB}{j:Sl}(h:Br (d=7) (TT 297 #[uA #[uP a,uM b,uB c],uA #[uI d,uI g,uS i,uL j]] V λe V1=>∃k l,e=rT #[uS k,uI l]/\Br (l=0) (Br (k=(qAo [])) (R (rT #[uS (qAo []),uI 11]) V1) (R (rT #[uS k,uI l]) V1)) (R (rT #[uS k,uI l]) V1)) (Lp [uS (qAo []),uI 0,z0,uI 0] V λI n V1=>∀k l o p,I n [uS k,uI l,uL o,uI p] V1->∀w:LMP,Nx I n w->Br (p<(j.n:Int)) (Ix j p (∃q r s u,V1.rowp j.p (p.toNat*4) 4=some [uI q,uI r,uS s,uL u]/\TT 269 #[uA #[uP a,uM b,uB c],uA #[uI q,uI r,uS s,uL u]] V1 λe V2=>∃y z,e=rT #[uS y,uI z]/\Br (z=0) (qAr [uS y] 9 V2 λA x=>Ap 46 48 220 (uL o) (.slice (qAa A 0) 1 1) x λB m=>IR (p+1)/\w [uS k,uI l,uL B,uI (p+1)] m) (R (rT #[uS (qAo []),uI z]) V2))) (TT 300 #[uA #[uP a,uM b,uB c],uA #[uI d,uI g,uS i,uL j],uL o] V1 λe V2=>∃q r,e=rT #[uS q,uI r]/\R (rT #[uS q,uI r]) V2))):TT 269 #[uA #[uP a,uM b,uB c],uA #[uI d,uI g,uS i,uL j]] V R:=trx Tryz.func269 h
theorem x270{a:Option Addr}{b:KB}(h:N2 a (¬(qAa a 0)=none/\∃c,V.rowp a 1 1=some [uL c]/\qAr [uS b] 9 V λd V1=>TI 173 #[uL c,.func (.func 301) #[] #[uP (qAa d 0)]] V1 λg V2=>R (rV (uI g)) V2)):TT 270 #[uP a,uS b] V R:=trx Tryz.func270 h
theorem x271{a:Option Addr}{b:Int}(h:Br (1099511627776<b) (TT 162 #[uP a,uI 5] V λe V1=>(e=rT #[]/\R (rV (uI b)) V1)∨∃k,e=.panicked k/\R e V1) (Br (b<(-1099511627776)) (TT 162 #[uP a,uI 5] V λe V1=>(e=rT #[]/\R (rV (uI b)) V1)∨∃k,e=.panicked k/\R e V1) (R (rV (uI b)) V))):TT 271 #[uP a,uI b] V R:=trx Tryz.func271 h
theorem x272{a:Int}(h:TI 303 #[.int .u64 a] V λb V1=>R (rV (uI b)) V1):TT 272 #[.int .u64 a] V R:=trx Tryz.func272 h
theorem x273{a b:Option Addr}{c d:Int}{g:KB}{i:Sl}(h:Br (c=4) (N2 b (∃j,V.rowp b ((0:Int).toNat*1) 1=some [uL j]/\TI 242 #[uL j,uS g] V λk V1=>Br (0<=k) (N2 b (∃l,V1.rowp b ((0:Int).toNat*1) 1=some [uL l]/\Ix l k (¬(qAa l.p (k.toNat*2))=none/\∃o p,V1.rowp l.p (k.toNat*2) 2=some [uS o,uS p]/\R (rV (uS p)) V1))) (N2 a (¬(qAa a 0)=none/\∃l,V1.rowp a 2 1=some [uL l]/\N2 a (¬(qAa a 0)=none/\∃o,V1.rowp a 2 1=some [uL o]/\TI 242 #[uL o,uS g] V1 λp V2=>V2.rowp (qAa a 2) 0 1=some [uL l]/\¬(qAa a 0)=none/\N2 a (Ix l p (¬(qAa l.p (p.toNat*2))=none/\∃q r,V2.rowp l.p (p.toNat*2) 2=some [uS q,uS r]/\R (rV (uS r)) V2))))))) (Br (c=5) (N2 a (¬(qAa a 0)=none/\∃j,V.rowp a 1 1=some [uL j]/\¬i.p=none/\(0:Int)<=(0:Int)/\0<(i.n:Int)/\∃k l o p,V.rowp i.p ((0:Int).toNat*4) 4=some [uI k,uI l,uS o,uL p]/\TS 273 #[uP a,uP b,uA #[uI k,uI l,uS o,uL p]] V λq V1=>V1.rowp (qAa a 1) 0 1=some [uL j]/\¬(qAa a 0)=none/\N2 a (TI 270 #[uP a,uS q] V1 λr V2=>V2.rowp (qAa a 1) 0 1=some [uL j]/\¬(qAa a 0)=none/\N2 a (Ix j r (∃s u,V2.rowp j.p (r.toNat*2) 2=some [uS s,uL u]/\TI 242 #[uL u,uS g] V2 λy w=>Ix u y (¬(qAa u.p (y.toNat*2))=none/\∃z A,w.rowp u.p (y.toNat*2) 2=some [uS z,uS A]/\R (rV (uS A)) w)))))) (Br (c=6) (R (rV (uS g)) V) (Br (c=7) (N2 a (¬(qAa a 0)=none/\∃j,V.rowp a 3 1=some [uL j]/\N2 a (∃k l o p q r s u,V.rowp a ((0:Int).toNat*1) 8=some [uS k,uL l,uL o,uL p,uL q,uL r,uL s,uL u]/\TI 160 #[uD k l o p q r s u,uS g] V λy V1=>V1.rowp (qAa a 3) 0 1=some [uL j]/\¬(qAa a 0)=none/\N2 a (Ix j y (¬(qAa j.p (y.toNat*5))=none/\∃z A B C D,V1.rowp j.p (y.toNat*5) 5=some [uS z,uL A,uS B,uL C,uL D]/\R (rV (uS B)) V1))))) (Br (c=21) (¬i.p=none/\(0:Int)<=(1:Int)/\1<(i.n:Int)/\∃j k l o,V.rowp i.p (1*4) 4=some [uI j,uI k,uS l,uL o]/\TS 273 #[uP a,uP b,uA #[uI j,uI k,uS l,uL o]] V λp V1=>Br (p=(qAo [110,105,108])) (¬i.p=none/\(0:Int)<=(2:Int)/\2<(i.n:Int)/\∃q r s u,V1.rowp i.p (2*4) 4=some [uI q,uI r,uS s,uL u]/\TS 273 #[uP a,uP b,uA #[uI q,uI r,uS s,uL u]] V1 λy V2=>R (rV (uS y)) V2) (R (rV (uS p)) V1)) (Br (c=3) (R (rV (uS (qAo [110,105,108]))) V) (Br (c=2) (R (rV (uS (qAo [98,111,111,108]))) V) (Br (c=18) (R (rV (uS (qAo [98,111,111,108]))) V) (Br (c=19) (R (rV (uS (qAo [98,111,111,108]))) V) (Br (c=20) (R (rV (uS (qAo [98,111,111,108]))) V) (Br (c=14) (R (rV (uS (qAo [98,111,111,108]))) V) (Br (c=15) (R (rV (uS (qAo [98,111,111,108]))) V) (Br (c=16) (R (rV (uS (qAo [98,111,111,108]))) V) (Br (c=17) (R (rV (uS (qAo [98,111,111,108]))) V) (R (rV (uS (qAo [105,110,116]))) V))))))))))))))):TT 273 #[uP a,uP b,uA #[uI c,uI d,uS g,uL i]] V R:=trx Tryz.func273 h
theorem x274{a:Bool}(h:Br (a=true) (R (rV (uI 1)) V) (R (rV (uI 0)) V)):TT 274 #[uB a] V R:=trx Tryz.func274 h
abbrev w275_0(d:Int)(a:Option Addr)(V:Mem)(b:Int)(R:RP)(c:Int):Prop:=Br (d=0) (TT 162 #[uP a,uI 18] V λe V1=>(e=rT #[]/\Br (b=12) (¬d=0/\R (rV (uI (xF .i64 ((c).tdiv d)))) V1) (¬d=0/\R (rV (uI ((c).tmod d))) V1))∨∃h,e=.panicked h/\R e V1) (Br (b=12) (¬d=0/\R (rV (uI (xF .i64 ((c).tdiv d)))) V) (¬d=0/\R (rV (uI ((c).tmod d))) V))
theorem x275{a:Option Addr}{b c d:Int}(h:Br (b=9) (IR (c+d)/\TT 271 #[uP a,uI (c+d)] V λe V1=>(∃g,e=rV (uI g)/\R (rV (uI g)) V1)∨∃k,e=.panicked k/\R e V1) (Br (b=10) (IR (c-d)/\TT 271 #[uP a,uI (c-d)] V λe V1=>(∃g,e=rV (uI g)/\R (rV (uI g)) V1)∨∃k,e=.panicked k/\R e V1) (Br (b=11) (Br (c=0) (IR (c*d)/\R (rV (uI (c*d))) V) (TI 304 #[uI d] V λg V1=>TI 304 #[uI c] V1 λi V2=>¬i=0/\Br ((xF .i64 (((1099511627776:Int)).tdiv i))<g) (TT 162 #[uP a,uI 5] V2 λe u=>(e=rT #[]/\IR (c*d)/\R (rV (uI (c*d))) u)∨∃k,e=.panicked k/\R e u) (IR (c*d)/\R (rV (uI (c*d))) V2))) (Br (b=12) (w275_0 d a V b R c) (Br (b=13) (w275_0 d a V b R c) (Br (b=22) (GenK xE (.call {callee:=(.builtin .max),args:=#[(.tmp 58),(.tmp 59)],argTypes:=#[3,3]}) 3 (gv [(58,uI c),(59,uI d)]) V λx V1=>∃g,x=uI g/\R (rV (uI g)) V1) (GenK xE (.call {callee:=(.builtin .min),args:=#[(.tmp 61),(.tmp 62)],argTypes:=#[3,3]}) 3 (gv [(61,uI c),(62,uI d)]) V λx V1=>∃g,x=uI g/\R (rV (uI g)) V1))))))):TT 275 #[uP a,uI b,uI c,uI d] V R:=trx Tryz.func275 h
theorem x276{a b:KB}{c:Option Addr}(h:∃d,V.rowp c ((0:Int).toNat*1) 1=some [uS d]/\R (rV (uB (decide (a=d)))) V):TT 276 #[uA #[uS a,uS b],uP c] V R:=trx Tryz.func276 h
theorem x277{a b:KB}(h:TB 305 #[uS a] V λc V1=>Br (c=true) (TB 305 #[uS b] V1 λd V2=>Br (d=true) (R (rV (uB (xG (a).toList (b).toList))) V2) (R KX V2)) (R (rV (uB (xG (a).toList (b).toList))) V1)):TT 277 #[uS a,uS b] V R:=trx Tryz.func277 h
theorem x278{a:KB}(h:R (rV (uB (!(decide (a=a))))) V):TT 278 #[uS a] V R:=trx Tryz.func278 h
theorem x280{a:Int}(h:Br (a=1) (R (rT #[uI 0,uB true]) V) (Br (a=2) (R (rT #[uI 0,uB true]) V) (Br (a=3) (R (rT #[uI 0,uB true]) V) (Br (a=4) (R (rT #[uI 0,uB true]) V) (Br (a=6) (R (rT #[uI 0,uB true]) V) (Br (a=7) (R (rT #[uI (-1),uB true]) V) (Br (a=5) (R (rT #[uI 1,uB true]) V) (Br (a=8) (R (rT #[uI 1,uB true]) V) (Br (a=18) (R (rT #[uI 1,uB true]) V) (Br (a=24) (R (rT #[uI 1,uB true]) V) (Br (a=21) (R (rT #[uI 3,uB true]) V) (Br (9<=a) (R (rT #[uI 2,uB (decide (a<=23))]) V) (R (rT #[uI 2,uB false]) V))))))))))))):TT 280 #[uI a] V R:=trx Tryz.func280 h
theorem x281{a b:Int}{c:KB}{d:Sl}(h:Br (a=1) (Br (0<=b) (Br (b<=1099511627776) (R (rV (uB (decide (c=(qAo []))))) V) (R KQ V)) (R KQ V)) (Br (a=2) (Br (b=0) (R (rV (uB (decide (c=(qAo []))))) V) (Br (b=1) (R (rV (uB (decide (c=(qAo []))))) V) (R KQ V))) (Br (a=4) (Br (b=0) (TB 165 #[uS c] V λg V1=>Br (g=true) (R KX V1) (R (rV (uB (decide (c=(qAo [116,104,105,115]))))) V1)) (R KQ V)) (Br (a=6) (Br (b=0) (TB 165 #[uS c] V λg V1=>R (rV (uB g)) V1) (R KQ V)) (Br (a=5) (Br (b=0) (TB 165 #[uS c] V λg V1=>R (rV (uB g)) V1) (R KQ V)) (Br (a=7) (Br (b=0) (TB 165 #[uS c] V λg V1=>R (rV (uB g)) V1) (R KQ V)) (Br (b=0) (R (rV (uB (decide (c=(qAo []))))) V) (R KQ V)))))))):TT 281 #[uA #[uI a,uI b,uS c,uL d]] V R:=trx Tryz.func281 h
theorem x282{a b:Int}{c:KB}{d:Sl}{g i:Option Addr}(h:∃j,V.rowp g ((0:Int).toNat*1) 1=some [uI j]/\IR (j+1)/\∃k,V.rowp i ((0:Int).toNat*1) 1=some [uP k]/\TB 248 #[uA #[uI a,uI b,uS c,uL d],uI (j+1),uP k] V λl V1=>R (rV (uB (!l))) V1):TT 282 #[uA #[uI a,uI b,uS c,uL d],uP g,uP i] V R:=trx Tryz.func282 h
theorem x283{a:Sl}{b:Value}(h:Lp [uI 0,uI 0] V λI n V1=>∀c d,I n [uI c,uI d] V1->∀w:LMP,Nx I n w->Br (d<(a.n:Int)) (Ix a d (∃g i j k,V1.rowp a.p (d.toNat*4) 4=some [uI g,uI i,uS j,uL k]/\∃f first u,K.cast .f b=.func (.func f) first u/\CO f/\TT f (first++#[uA #[uI g,uI i,uS j,uL k]]++u) V1 λe V2=>∃l,e=rV (uB l)/\Br (l=true) (R (rV (uI d)) V2) (IR (d+1)/\w [uI c,uI (d+1)] V2))) (R (rV (uI (-1))) V1)):TT 283 #[uL a,K.cast .f b] V R:=qBw Tryz.func283 [] [] false [uL a,b] (by kernel_rfl) (by kernel_rfl) h
theorem x284{a b:Option Addr}{c:KB}(h:N2 b (∃d,V.rowp b 5 1=some [uL d]/\TI 293 #[uL d,uS c] V λg V1=>Br (0<=g) (N2 b (∃i,V1.rowp b 6 1=some [uL i]/\Ix i g (IY V1 i g λj=>R (rV (uI j)) V1))) (N2 a (¬(qAa a 0)=none/\∃i,V1.rowp a 2 1=some [uL i]/\TI 293 #[uL i,uS c] V1 λj V2=>TT 288 #[uP a,uI 1,uI 0,uI j] V2 λe u=>e=rT #[]/\N2 a (¬(qAa a 8)=none/\∃k,u.rowp a 8 1=some [uL k]/\Ix k j (IY u k j λl=>R (rV (uI l)) u)))))):TT 284 #[uP a,uP b,uS c] V R:=trx Tryz.func284 h
theorem x285{a:Option Addr}{b:KB}(h:N2 a (¬(qAa a 8)=none/\∃c,V.rowp a 9 1=some [uL c]/\Br (4096<=(c.n:Int)) (TI 178 #[uP a,uI 21] V λd V1=>R (rV (uI d)) V1) (N2 a (∃d g i j k l o p,V.rowp a ((0:Int).toNat*1) 8=some [uS d,uL g,uL i,uL j,uL k,uL l,uL o,uL p]/\TI 85 #[uD d g i j k l o p,uS b] V λq V1=>N2 a (¬(qAa a 8)=none/\∃r,V1.rowp a 9 1=some [uL r]/\N2 a (¬(qAa a 0)=none/\∃s,V1.rowp a 1 1=some [uL s]/\Ix s q (¬(qAa s.p (q.toNat*2))=none/\∃u y,V1.rowp s.p (q.toNat*2) 2=some [uS u,uL y]/\GenK xE (.makeSlice 31 (.tmp 37) (.tmp 37)) 31 (gv [(37,uI (y.n:Int)),(37,uI (y.n:Int))]) V1 λx V2=>∃z,x=uL z/\V2.rowp (qAa a 9) 0 1=some [uL r]/\¬(qAa a 8)=none/\N2 a (V2.rowp (qAa a 9) 0 1=some [uL r]/\¬(qAa a 8)=none/\N2 a (qAr [uI q,uL z] 92 V2 λA H=>Ap 26 40 32 (uL r) (.slice (qAa A 0) 1 1) H λB J=>N2 a (¬(qAa a 8)=none/\StT (qAa a 9) 0 [uL B] J λw=>N2 a (¬(qAa a 8)=none/\∃C,w.rowp a 9 1=some [uL C]/\TT 288 #[uP a,uI 3,uI (C.n:Int),uI q] w λe m=>e=rT #[]/\N2 a (¬(qAa a 8)=none/\∃D,m.rowp a 9 1=some [uL D]/\R (rV (uI (D.n:Int))) m)))))))))))):TT 285 #[uP a,uS b] V R:=trx Tryz.func285 h
abbrev qHR(w:Sl)(V1:Mem)(x j:Option Addr)(R:RP):Prop:=
 ¬w.p=none/\(0:Int)<=(1:Int)/\1<(w.n:Int)/\∃h k g u,V1.rowp w.p (1*4) 4=some [uI h,uI k,uS g,uL u]/\
 TI 255 #[uP x,uP j,uA #[uI h,uI k,uS g,uL u]] V1 λy V2=>
 R (rV (uI y)) V2
theorem x286{a b:Option Addr}{c d:Int}{g:KB}{i:Sl}(h:¬i.p=none/\(0:Int)<=(0:Int)/\0<(i.n:Int)/\∃j k l o,V.rowp i.p ((0:Int).toNat*4) 4=some [uI j,uI k,uS l,uL o]/\TI 255 #[uP a,uP b,uA #[uI j,uI k,uS l,uL o]] V λp V1=>N2 a (∃q,V1.rowp a 13 1=some [uI q]/\Br (q=0) (Br (c=21) (Br (p=0) (¬i.p=none/\(0:Int)<=(2:Int)/\2<(i.n:Int)/\∃r s u y,V1.rowp i.p (2*4) 4=some [uI r,uI s,uS u,uL y]/\TI 255 #[uP a,uP b,uA #[uI r,uI s,uS u,uL y]] V1 λz V2=>R (rV (uI z)) V2) (Br (c=19) (Br (p=0) (R (rV (uI 0)) V1) (Br (c=20) (Br (p=0) (qHR i V1 a b R) (R (rV (uI 1)) V1)) (qHR i V1 a b R))) (Br (c=20) (Br (p=0) (qHR i V1 a b R) (R (rV (uI 1)) V1)) (qHR i V1 a b R)))) (Br (c=19) (Br (p=0) (R (rV (uI 0)) V1) (Br (c=20) (Br (p=0) (qHR i V1 a b R) (R (rV (uI 1)) V1)) (qHR i V1 a b R))) (Br (c=20) (Br (p=0) (qHR i V1 a b R) (R (rV (uI 1)) V1)) (qHR i V1 a b R)))) (R (rV (uI 0)) V1))):TT 286 #[uP a,uP b,uA #[uI c,uI d,uS g,uL i]] V R:=trx Tryz.func286 h
theorem x287{a:Option Addr}{b:Int}{c:KB}(h:N2 a (¬(qAa a 0)=none/\∃d,V.rowp a 1 1=some [uL d]/\N2 a (¬(qAa a 8)=none/\∃g,V.rowp a 9 1=some [uL g]/\IR (b-1)/\Ix g (b-1) (¬(qAa g.p ((b-1).toNat*2))=none/\∃i j,V.rowp g.p ((b-1).toNat*2) 2=some [uI i,uL j]/\Ix d i (¬(qAa d.p (i.toNat*2))=none/\∃k l,V.rowp d.p (i.toNat*2) 2=some [uS k,uL l]/\TI 293 #[uL l,uS c] V λo V1=>R (rV (uI o)) V1))))):TT 287 #[uP a,uI b,uS c] V R:=trx Tryz.func287 h
theorem x288{a:Option Addr}{b c d:Int}(h:N2 a (∃g,V.rowp a 17 1=some [uL g]/\qAr [uI b,uI c,uI d] 89 V λi V1=>Ap 12 17 84 (uL g) (.slice (qAa i 0) 1 1) V1 λj V2=>N2 a (StT (qAa a 17) 0 [uL j] V2 λu=>Br (0<c) (N2 a (¬(qAa a 14)=none/\∃k,u.rowp a 15 1=some [uI k]/\IR (k+1)/\N2 a (¬(qAa a 14)=none/\StT (qAa a 15) 0 [uI (k+1)] u λw=>R (rT #[]) w))) (R (rT #[]) u)))):TT 288 #[uP a,uI b,uI c,uI d] V R:=trx Tryz.func288 h
theorem x289{a:Option Addr}{b:Int}(h:Br (b<(-1099511627776)) (TI 178 #[uP a,uI 5] V λc V1=>R (rV (uI c)) V1) (Br (1099511627776<b) (TI 178 #[uP a,uI 5] V λc V1=>R (rV (uI c)) V1) (R (rV (uI b)) V))):TT 289 #[uP a,uI b] V R:=trx Tryz.func289 h
theorem x290{a:Int}(h:Lp [uI a,uI 0] V λI n V1=>∀b c,I n [uI b,uI c] V1->∀k:LMP,Nx I n k->Br (1<b) (¬(2:Int)=(0:Int)/\IR (c+1)/\k [uI (xF .i64 ((b).tdiv (2:Int))),uI (c+1)] V1) (R (rV (uI c)) V1)):TT 290 #[uI a] V R:=trx Tryz.func290 h
abbrev w291_0(c j k:Int)(V2:Mem)(R:RP):Prop:=Br (c=15) (TI 309 #[uB (!(decide (j=k)))] V2 λu h=>R (rV (uI u)) h) (Br (c=16) (TI 309 #[uB (decide (j<k))] V2 λu h=>R (rV (uI u)) h) (TI 309 #[uB (decide (j<=k))] V2 λu h=>R (rV (uI u)) h))
theorem x291{a b:Option Addr}{c d:Int}{g:KB}{i:Sl}{j k:Int}(h:¬i.p=none/\(0:Int)<=(0:Int)/\0<(i.n:Int)/\∃l o p q,V.rowp i.p ((0:Int).toNat*4) 4=some [uI l,uI o,uS p,uL q]/\TB 308 #[uP a,uP b,uA #[uI l,uI o,uS p,uL q]] V λr V1=>Br (r=true) (N2 a (¬(qAa a 14)=none/\∃s,V1.rowp a 14 1=some [uI s]/\IR (s+1)/\N2 a (¬(qAa a 14)=none/\StT (qAa a 14) 0 [uI (s+1)] V1 λV2=>Br (c=14) (TI 309 #[uB (decide (j=k))] V2 λu w=>R (rV (uI u)) w) (w291_0 c j k V2 R)))) (Br (c=14) (TI 309 #[uB (decide (j=k))] V1 λs V2=>R (rV (uI s)) V2) (w291_0 c j k V1 R))):TT 291 #[uP a,uP b,uA #[uI c,uI d,uS g,uL i],uI j,uI k] V R:=trx Tryz.func291 h
theorem x292{a:Option Addr}{b c d:Int}(h:Br (b=9) (IR (c+d)/\TI 289 #[uP a,uI (c+d)] V λg V1=>R (rV (uI g)) V1) (Br (b=10) (IR (c-d)/\TI 289 #[uP a,uI (c-d)] V λg V1=>R (rV (uI g)) V1) (Br (b=11) (TI 310 #[uP a,uI c,uI d] V λg V1=>R (rV (uI g)) V1) (Br (b=22) (Br (c<d) (R (rV (uI d)) V) (R (rV (uI c)) V)) (Br (b=23) (Br (d<c) (R (rV (uI d)) V) (R (rV (uI c)) V)) (Br (d=0) (TI 178 #[uP a,uI 18] V λg V1=>R (rV (uI g)) V1) (Br (b=12) (¬d=0/\TI 289 #[uP a,uI (xF .i64 ((c).tdiv d))] V λg V1=>R (rV (uI g)) V1) (¬d=0/\R (rV (uI ((c).tmod d))) V)))))))):TT 292 #[uP a,uI b,uI c,uI d] V R:=trx Tryz.func292 h
theorem x293{a:Sl}{b:KB}(h:Lp [uI 0,uI 0] V λI n V1=>∀c d,I n [uI c,uI d] V1->∀k:LMP,Nx I n k->Br (d<(a.n:Int)) (Ix a d (¬(qAa a.p (d.toNat*2))=none/\∃g i,V1.rowp a.p (d.toNat*2) 2=some [uS g,uS i]/\Br (g=b) (R (rV (uI d)) V1) (IR (d+1)/\k [uI c,uI (d+1)] V1))) (R (rV (uI (-1))) V1)):TT 293 #[uL a,uS b] V R:=trx Tryz.func293 h
theorem x294{a:Sl}{b:Value}(h:Lp [uI 0,uI 0] V λI n V1=>∀c d,I n [uI c,uI d] V1->∀w:LMP,Nx I n w->Br (d<(a.n:Int)) (Ix a d (∃g i j k l o p,V1.rowp a.p (d.toNat*7) 7=some [uS g,uS i,uI j,uI k,uI l,uS o,uL p]/\∃f first u,K.cast .f b=.func (.func f) first u/\CO f/\TT f (first++#[uA #[uS g,uS i,uI j,uI k,uI l,uS o,uL p]]++u) V1 λe V2=>∃q,e=rV (uB q)/\Br (q=true) (R (rV (uI d)) V2) (IR (d+1)/\w [uI c,uI (d+1)] V2))) (R (rV (uI (-1))) V1)):TT 294 #[uL a,K.cast .f b] V R:=qBw Tryz.func294 [] [] false [uL a,b] (by kernel_rfl) (by kernel_rfl) h
theorem x295{a:Sl}{b:Value}(h:Lp [uI 0,uI 0] V λI n V1=>∀c d,I n [uI c,uI d] V1->∀w:LMP,Nx I n w->Br (d<(a.n:Int)) (Ix a d (∃g i j k l o,V1.rowp a.p (d.toNat*6) 6=some [uS g,uS i,uI j,uI k,uS l,uL o]/\∃f first u,K.cast .f b=.func (.func f) first u/\CO f/\TT f (first++#[uA #[uS g,uS i,uI j,uI k,uS l,uL o]]++u) V1 λe V2=>∃p,e=rV (uB p)/\Br (p=true) (R (rV (uI d)) V2) (IR (d+1)/\w [uI c,uI (d+1)] V2))) (R (rV (uI (-1))) V1)):TT 295 #[uL a,K.cast .f b] V R:=qBw Tryz.func295 [] [] false [uL a,b] (by kernel_rfl) (by kernel_rfl) h
theorem x296{a:Sl}(h:qAr [uL a] 23 V λb V1=>R (rV (.func (.func 311) #[] #[uP (qAa b 0)])) V1):TT 296 #[uL a] V R:=trx Tryz.func296 h
theorem x297{a:Option Addr}{b:Option Nat}{c:Bool}{d g:Int}{i:KB}{j:Sl}(h:Lp [uS (qAo []),uI 0,z0,uI 0] V λI n V1=>∀k l o p,I n [uS k,uI l,uL o,uI p] V1->∀m:LMP,Nx I n m->Br (p<(j.n:Int)) (Ix j p (∃q r s u,V1.rowp j.p (p.toNat*4) 4=some [uI q,uI r,uS s,uL u]/\TT 269 #[uA #[uP a,uM b,uB c],uA #[uI q,uI r,uS s,uL u]] V1 λe V2=>∃y z,e=rT #[uS y,uI z]/\Br (z=0) (qAr [uS y] 9 V2 λA w=>Ap 31 33 220 (uL o) (.slice (qAa A 0) 1 1) w λB N=>IR (p+1)/\m [uS k,uI l,uL B,uI (p+1)] N) (R (rT #[uS (qAo []),uI z]) V2))) (Br (c=true) (N2 a (∃q,V1.rowp a 9 1=some [uM q]/\qBH xE 270 (uM q) (uS i) true V1 λx=>∃r s u y z A,x=.tuple #[uA #[uS r,uL s,uS u,uL y,uL z],uB A]/\Br (A=true) (Br ((o.n:Int)=(s.n:Int)) (Lp [uS k,uI l,uI 0] V1 λI n V2=>∀B C D,I n [uS B,uI C,uI D] V2->∀J:LMP,Nx I n J->Br (D<(o.n:Int)) (Ix o D (∃F,V2.rowp o.p (D.toNat*1) 1=some [uS F]/\Ix s D (¬(qAa s.p (D.toNat*2))=none/\∃G H,V2.rowp s.p (D.toNat*2) 2=some [uS G,uS H]/\TB 298 #[uP a,uS F,uS H] V2 λL w=>Br (L=true) (IR (D+1)/\J [uS B,uI C,uI (D+1)] w) (R (rT #[uS (qAo []),uI 11]) w)))) (R (rT #[uS u,uI 0]) V2)) (R (rT #[uS (qAo []),uI 3]) V1)) (R (rT #[uS (qAo []),uI 9]) V1))) (TT 312 #[uA #[uP a,uM b,uB c],uS i,uL o] V1 λe V2=>∃q r,e=rT #[uS q,uI r]/\R (rT #[uS q,uI r]) V2))):TT 297 #[uA #[uP a,uM b,uB c],uA #[uI d,uI g,uS i,uL j]] V R:=trx Tryz.func297 h
theorem x298{a:Option Addr}{b c:KB}(h:Br (b=c) (R KX V) (Br (b=(qAo [110,105,108])) (TB 230 #[uP a,uS c] V λd V1=>R (rV (uB d)) V1) (R KQ V))):TT 298 #[uP a,uS b,uS c] V R:=trx Tryz.func298 h
theorem x299{a:Option Addr}{b c:KB}(h:N2 a (∃d,V.rowp a 8 1=some [uM d]/\qBH xE 269 (uM d) (uS b) true V λx=>∃g i j,x=.tuple #[uA #[uS g,uL i],uB j]/\Br (j=true) (Lp [uS (qAo []),uI 0,uI 0] V λI n V1=>∀k l o,I n [uS k,uI l,uI o] V1->∀u:LMP,Nx I n u->Br (o<(i.n:Int)) (Ix i o (∃p q,V1.rowp i.p (o.toNat*2) 2=some [uS p,uS q]/\Br (p=c) (R (rT #[uS q,uI 0]) V1) (IR (o+1)/\u [uS k,uI l,uI (o+1)] V1))) (R (rT #[uS (qAo []),uI 9]) V1)) (R (rT #[uS (qAo []),uI 11]) V))):TT 299 #[uP a,uS b,uS c] V R:=trx Tryz.func299 h
abbrev w300_0(k:Sl)(V:Mem)(a:Option Addr)(R:RP):Prop:=¬k.p=none/\(0:Int)<=(0:Int)/\0<(k.n:Int)/\∃l,V.rowp k.p ((0:Int).toNat*1) 1=some [uS l]/\¬k.p=none/\(0:Int)<=(1:Int)/\1<(k.n:Int)/\∃o,V.rowp k.p 1 1=some [uS o]/\TB 298 #[uP a,uS l,uS o] V λp V1=>Br (p=true) (R (rT #[uS (qAo [98,111,111,108]),uI 0]) V1) (¬k.p=none/\(0:Int)<=(1:Int)/\1<(k.n:Int)/\∃q,V1.rowp k.p 1 1=some [uS q]/\¬k.p=none/\(0:Int)<=(0:Int)/\0<(k.n:Int)/\∃r,V1.rowp k.p ((0:Int).toNat*1) 1=some [uS r]/\TB 298 #[uP a,uS q,uS r] V1 λs V2=>Br (s=true) (R (rT #[uS (qAo [98,111,111,108]),uI 0]) V2) (R (rT #[uS (qAo []),uI 11]) V2))
abbrev w300_1(k:Sl):MR:=λV R=>qAr [uL k] 220 V λl V1=>TT 313 #[uS (qAo [98,111,111,108]),uS (qAo [98,111,111,108]),uP (qAa l 0)] V1 λe V2=>∃o p,e=rT #[uS o,uI p]/\R (rT #[uS o,uI p]) V2
theorem x300{a:Option Addr}{b:Option Nat}{c:Bool}{d g:Int}{i:KB}{j k:Sl}(h:Br (d=1) (R (rT #[uS (qAo [105,110,116]),uI 0]) V) (Br (d=2) (R (rT #[uS (qAo [98,111,111,108]),uI 0]) V) (Br (d=3) (R (rT #[uS (qAo [110,105,108]),uI 0]) V) (Br (d=4) (qBH xE 312 (uM b) (uS i) true V λx=>∃l o,x=.tuple #[uS l,uB o]/\Br (o=true) (R (rT #[uS l,uI 0]) V) (R (rT #[uS (qAo []),uI 9]) V)) (Br (d=5) (¬k.p=none/\(0:Int)<=(0:Int)/\0<(k.n:Int)/\∃l,V.rowp k.p ((0:Int).toNat*1) 1=some [uS l]/\TT 299 #[uP a,uS l,uS i] V λe V1=>∃o p,e=rT #[uS o,uI p]/\R (rT #[uS o,uI p]) V1) (Br (d=6) (Br (c=true) (TB 230 #[uP a,uS i] V λl V1=>Br (l=true) (R (rT #[uS i,uI 0]) V1) (R (rT #[uS (qAo []),uI 9]) V1)) (R (rT #[uS (qAo []),uI 13]) V)) (Br (d=14) (w300_0 k V a R) (Br (d=15) (w300_0 k V a R) (Br (d=16) (qAr [uL k] 220 V λl V1=>TT 313 #[uS (qAo [105,110,116]),uS (qAo [98,111,111,108]),uP (qAa l 0)] V1 λe V2=>∃o p,e=rT #[uS o,uI p]/\R (rT #[uS o,uI p]) V2) (Br (d=17) (qAr [uL k] 220 V λl V1=>TT 313 #[uS (qAo [105,110,116]),uS (qAo [98,111,111,108]),uP (qAa l 0)] V1 λe V2=>∃o p,e=rT #[uS o,uI p]/\R (rT #[uS o,uI p]) V2) (Br (d=18) (w300_1 k V R) (Br (d=19) (w300_1 k V R) (Br (d=20) (w300_1 k V R) (Br (d=21) (¬k.p=none/\(0:Int)<=(0:Int)/\0<(k.n:Int)/\∃l,V.rowp k.p ((0:Int).toNat*1) 1=some [uS l]/\Br (l=(qAo [98,111,111,108])) (¬k.p=none/\(0:Int)<=(1:Int)/\1<(k.n:Int)/\∃o,V.rowp k.p 1 1=some [uS o]/\¬k.p=none/\(0:Int)<=(2:Int)/\2<(k.n:Int)/\∃p,V.rowp k.p 2 1=some [uS p]/\TB 298 #[uP a,uS o,uS p] V λq V1=>Br (q=true) (¬k.p=none/\(0:Int)<=(2:Int)/\2<(k.n:Int)/\∃r,V1.rowp k.p 2 1=some [uS r]/\R (rT #[uS r,uI 0]) V1) (¬k.p=none/\(0:Int)<=(2:Int)/\2<(k.n:Int)/\∃r,V1.rowp k.p 2 1=some [uS r]/\¬k.p=none/\(0:Int)<=(1:Int)/\1<(k.n:Int)/\∃s,V1.rowp k.p 1 1=some [uS s]/\TB 298 #[uP a,uS r,uS s] V1 λu V2=>Br (u=true) (¬k.p=none/\(0:Int)<=(1:Int)/\1<(k.n:Int)/\∃y,V2.rowp k.p 1 1=some [uS y]/\R (rT #[uS y,uI 0]) V2) (R (rT #[uS (qAo []),uI 11]) V2))) (R (rT #[uS (qAo []),uI 11]) V)) (qAr [uL k] 220 V λl V1=>TT 313 #[uS (qAo [105,110,116]),uS (qAo [105,110,116]),uP (qAa l 0)] V1 λe V2=>∃o p,e=rT #[uS o,uI p]/\R (rT #[uS o,uI p]) V2))))))))))))))):TT 300 #[uA #[uP a,uM b,uB c],uA #[uI d,uI g,uS i,uL j],uL k] V R:=trx Tryz.func300 h
theorem x301{a:KB}{b:Sl}{c:Option Addr}(h:∃d,V.rowp c ((0:Int).toNat*1) 1=some [uS d]/\R (rV (uB (decide (a=d)))) V):TT 301 #[uA #[uS a,uL b],uP c] V R:=trx Tryz.func301 h
abbrev qBf:KB:=
 qAo [0,1,2,2,3,3,3,3,4,4,4,4,4,4,4,4,5,5,5,5,5,5,5,5,5,5,5,5,5,5,5,5,6,6,6,6,6,6,6,6,6,6,6,6,6,6,6,6,6,6,6,6,6,6,6,6,6,6,6,6,6,6,6,6,7,7,7,7,7,7,7,7,7,7,7,7,7,7,7,7,7,7,7,7,7,7,7,7,7,7,7,7,7,7,7,7,7,7,7,7,7,7,7,7,7,7,7,7,7,7,7,7,7,7,7,7,7,7,7,7,7,7,7,7,7,7,7,7,8,8,8,8,8,8,8,8,8,8,8,8,8,8,8,8,8,8,8,8,8,8,8,8,8,8,8,8,8,8,8,8,8,8,8,8,8,8,8,8,8,8,8,8,8,8,8,8,8,8,8,8,8,8,8,8,8,8,8,8,8,8,8,8,8,8,8,8,8,8,8,8,8,8,8,8,8,8,8,8,8,8,8,8,8,8,8,8,8,8,8,8,8,8,8,8,8,8,8,8,8,8,8,8,8,8,8,8,8,8,8,8,8,8,8,8,8,8,8,8,8,8,8,8,8,8,8,8]
theorem x303{a:Int}(h:Br (4294967296<=a) (GenK xE (.binOp .shr 364 (.tmp 5) (.const (.int .u64 32)) 342) 364 (gv [(5,.int .u64 a)]) V λx V1=>∃b,x=.int .u64 b/\Br (65536<=b) (GenK xE (.binOp .shr 364 (.tmp 9) (.const (.int .u64 16)) 342) 364 (gv [(9,.int .u64 b)]) V1 λx V2=>∃c,x=.int .u64 c/\IR ((32:Int)+(16:Int))/\Br (256<=c) (GenK xE (.binOp .shr 364 (.tmp 15) (.const (.int .u64 8)) 342) 364 (gv [(15,.int .u64 c)]) V2 λx k=>∃d,x=.int .u64 d/\IR (((32:Int)+(16:Int))+8)/\K.inR .u8 d/\(0<=d/\d<((qBf).size:Int))/\IR (qBj (qBf) d)/\IR ((((32:Int)+(16:Int))+8)+(qBj (qBf) d))/\R (rV (uI ((((32:Int)+(16:Int))+8)+(qBj (qBf) d)))) k) (K.inR .u8 c/\(0<=c/\c<((qBf).size:Int))/\IR (qBj (qBf) c)/\IR (((32:Int)+(16:Int))+(qBj (qBf) c))/\R (rV (uI (((32:Int)+(16:Int))+(qBj (qBf) c)))) V2)) (Br (256<=b) (GenK xE (.binOp .shr 364 (.tmp 15) (.const (.int .u64 8)) 342) 364 (gv [(15,.int .u64 b)]) V1 λx V2=>∃c,x=.int .u64 c/\IR ((32:Int)+(8:Int))/\K.inR .u8 c/\(0<=c/\c<((qBf).size:Int))/\IR (qBj (qBf) c)/\IR (((32:Int)+(8:Int))+(qBj (qBf) c))/\R (rV (uI (((32:Int)+(8:Int))+(qBj (qBf) c)))) V2) (K.inR .u8 b/\(0<=b/\b<((qBf).size:Int))/\IR (qBj (qBf) b)/\IR (32+(qBj (qBf) b))/\R (rV (uI (32+(qBj (qBf) b)))) V1))) (Br (65536<=a) (GenK xE (.binOp .shr 364 (.tmp 9) (.const (.int .u64 16)) 342) 364 (gv [(9,.int .u64 a)]) V λx V1=>∃b,x=.int .u64 b/\IR ((0:Int)+(16:Int))/\Br (256<=b) (GenK xE (.binOp .shr 364 (.tmp 15) (.const (.int .u64 8)) 342) 364 (gv [(15,.int .u64 b)]) V1 λx V2=>∃c,x=.int .u64 c/\IR (((0:Int)+(16:Int))+8)/\K.inR .u8 c/\(0<=c/\c<((qBf).size:Int))/\IR (qBj (qBf) c)/\IR ((((0:Int)+(16:Int))+8)+(qBj (qBf) c))/\R (rV (uI ((((0:Int)+(16:Int))+8)+(qBj (qBf) c)))) V2) (K.inR .u8 b/\(0<=b/\b<((qBf).size:Int))/\IR (qBj (qBf) b)/\IR (((0:Int)+(16:Int))+(qBj (qBf) b))/\R (rV (uI (((0:Int)+(16:Int))+(qBj (qBf) b)))) V1)) (Br (256<=a) (GenK xE (.binOp .shr 364 (.tmp 15) (.const (.int .u64 8)) 342) 364 (gv [(15,.int .u64 a)]) V λx V1=>∃b,x=.int .u64 b/\IR ((0:Int)+(8:Int))/\K.inR .u8 b/\(0<=b/\b<((qBf).size:Int))/\IR (qBj (qBf) b)/\IR (((0:Int)+(8:Int))+(qBj (qBf) b))/\R (rV (uI (((0:Int)+(8:Int))+(qBj (qBf) b)))) V1) (K.inR .u8 a/\(0<=a/\a<((qBf).size:Int))/\IR (qBj (qBf) a)/\IR (0+(qBj (qBf) a))/\R (rV (uI (0+(qBj (qBf) a)))) V)))):TT 303 #[.int .u64 a] V R:=trx Tryz.func303 h
theorem x304{a:Int}(h:IR (0-a)/\GenK xE (.call {callee:=(.builtin .max),args:=#[(.tmp 3),(.tmp 5)],argTypes:=#[3,3]}) 3 (gv [(3,uI a),(5,uI (0-a))]) V λx V1=>∃b,x=uI b/\R (rV (uI b)) V1):TT 304 #[uI a] V R:=trx Tryz.func304 h
theorem x305{a:KB}(h:R (rV (uB (!(decide (a=a))))) V):TT 305 #[uS a] V R:=trx Tryz.func305 h
theorem x308{a b:Option Addr}{c d:Int}{g:KB}{i:Sl}(h:N2 a (∃j k l o p q r s,V.rowp a ((0:Int).toNat*1) 8=some [uS j,uL k,uL l,uL o,uL p,uL q,uL r,uL s]/\N2 a (∃u y z A B C D F,V.rowp a ((0:Int).toNat*1) 8=some [uS u,uL y,uL z,uL A,uL B,uL C,uL D,uL F]/\N2 b (∃G H L M N,V.rowp b ((0:Int).toNat*1) 5=some [uS G,uL H,uS L,uL M,uL N]/\TT 182 #[uD u y z A B C D F,uA #[uS G,uL H,uS L,uL M,uL N]] V λe V1=>∃O P,e=rV (uA #[uL O,uB P])/\V1.rowp (qAa a 0) 0 8=some [uS j,uL k,uL l,uL o,uL p,uL q,uL r,uL s]/\N2 a (TT 185 #[uD j k l o p q r s,uA #[uL O,uB P],uA #[uI c,uI d,uS g,uL i]] V1 λe V2=>∃Q U,e=rT #[uS Q,uI U]/\Br (U=0) (R (rV (uB (decide (Q=(qAo [105,110,116]))))) V2) (R KQ V2)))))):TT 308 #[uP a,uP b,uA #[uI c,uI d,uS g,uL i]] V R:=trx Tryz.func308 h
theorem x309{a:Bool}(h:Br (a=true) (R (rV (uI 1)) V) (R (rV (uI 0)) V)):TT 309 #[uB a] V R:=trx Tryz.func309 h
theorem x310{a:Option Addr}{b c:Int}(h:Br (b<0) (IR (0-b)/\Br (c<0) (IR (0-c)/\Br (0<(0-b)) (¬(0-b)=0/\Br ((xF .i64 (((1099511627776:Int)).tdiv (0-b)))<(0-c)) (TI 178 #[uP a,uI 5] V λd V1=>R (rV (uI d)) V1) (IR (b*c)/\R (rV (uI (b*c))) V)) (IR (b*c)/\R (rV (uI (b*c))) V)) (Br (0<(0-b)) (¬(0-b)=0/\Br ((xF .i64 (((1099511627776:Int)).tdiv (0-b)))<c) (TI 178 #[uP a,uI 5] V λd V1=>R (rV (uI d)) V1) (IR (b*c)/\R (rV (uI (b*c))) V)) (IR (b*c)/\R (rV (uI (b*c))) V))) (Br (c<0) (IR (0-c)/\Br (0<b) (¬b=0/\Br ((xF .i64 (((1099511627776:Int)).tdiv b))<(0-c)) (TI 178 #[uP a,uI 5] V λd V1=>R (rV (uI d)) V1) (IR (b*c)/\R (rV (uI (b*c))) V)) (IR (b*c)/\R (rV (uI (b*c))) V)) (Br (0<b) (¬b=0/\Br ((xF .i64 (((1099511627776:Int)).tdiv b))<c) (TI 178 #[uP a,uI 5] V λd V1=>R (rV (uI d)) V1) (IR (b*c)/\R (rV (uI (b*c))) V)) (IR (b*c)/\R (rV (uI (b*c))) V)))):TT 310 #[uP a,uI b,uI c] V R:=trx Tryz.func310 h
theorem x312{a:Option Addr}{b:Option Nat}{c:Bool}{d:KB}{g:Sl}(h:N2 a (¬(qAa a 0)=none/\∃i,V.rowp a 4 1=some [uL i]/\qAr [uS d] 9 V λj V1=>TI 294 #[uL i,.func (.func 317) #[] #[uP (qAa j 0)]] V1 λk V2=>Br (k<0) (R (rT #[uS (qAo []),uI 9]) V2) (Br ((g.n:Int)=1) (¬g.p=none/\(0:Int)<=(0:Int)/\0<(g.n:Int)/\∃l,V2.rowp g.p ((0:Int).toNat*1) 1=some [uS l]/\N2 a (¬(qAa a 0)=none/\∃o,V2.rowp a 4 1=some [uL o]/\Ix o k (¬(qAa o.p (k.toNat*7))=none/\∃p q r s u y z,V2.rowp o.p (k.toNat*7) 7=some [uS p,uS q,uI r,uI s,uI u,uS y,uL z]/\TB 298 #[uP a,uS l,uS q] V2 λA w=>Br (A=true) (R (rT #[uS (qAo [105,110,116]),uI 0]) w) (R (rT #[uS (qAo []),uI 11]) w)))) (R (rT #[uS (qAo []),uI 3]) V2)))):TT 312 #[uA #[uP a,uM b,uB c],uS d,uL g] V R:=trx Tryz.func312 h
theorem x313{a b:KB}{c:Option Addr}(h:∃d,V.rowp c ((0:Int).toNat*1) 1=some [uL d]/\qAr [uS a] 9 V λg V1=>TB 314 #[uL d,.func (.func 315) #[] #[uP (qAa g 0)]] V1 λi V2=>Br (i=true) (R (rT #[uS (qAo []),uI 11]) V2) (R (rT #[uS b,uI 0]) V2)):TT 313 #[uS a,uS b,uP c] V R:=trx Tryz.func313 h
theorem x314{a:Sl}{b:Value}(h:TI 318 #[uL a,K.cast .f b] V λc V1=>R (rV (uB (decide (0<=c)))) V1):TT 314 #[uL a,K.cast .f b] V R:=qBw Tryz.func314 [] [] false [uL a,b] (by kernel_rfl) (by kernel_rfl) h
theorem x315{a:KB}{b:Option Addr}(h:∃c,V.rowp b ((0:Int).toNat*1) 1=some [uS c]/\R (rV (uB (!(decide (a=c))))) V):TT 315 #[uS a,uP b] V R:=trx Tryz.func315 h
theorem x317{a b:KB}{c d g:Int}{i:KB}{j:Sl}{k:Option Addr}(h:∃l,V.rowp k ((0:Int).toNat*1) 1=some [uS l]/\R (rV (uB (decide (a=l)))) V):TT 317 #[uA #[uS a,uS b,uI c,uI d,uI g,uS i,uL j],uP k] V R:=trx Tryz.func317 h
theorem x318{a:Sl}{b:Value}(h:Lp [uI 0,uI 0] V λI n V1=>∀c d,I n [uI c,uI d] V1->∀u:LMP,Nx I n u->Br (d<(a.n:Int)) (Ix a d (∃g,V1.rowp a.p (d.toNat*1) 1=some [uS g]/\∃f first k,K.cast .f b=.func (.func f) first k/\CO f/\TT f (first++#[uS g]++k) V1 λe V2=>∃i,e=rV (uB i)/\Br (i=true) (R (rV (uI d)) V2) (IR (d+1)/\u [uI c,uI (d+1)] V2))) (R (rV (uI (-1))) V1)):TT 318 #[uL a,K.cast .f b] V R:=qBw Tryz.func318 [] [] false [uL a,b] (by kernel_rfl) (by kernel_rfl) h
abbrev w28_0(a:KB)(b c d g i j k C D N:Sl)(p:Int)(P:KB)(Q:Sl)(r:Int)(q:Mem)(U:Option Addr)(M:Sl)(o O:Int)(w:LMP)(W:Int)(H:Sl)(L:Int)(R:RP):Prop:=TT 52 #[uD a b c d g i j k,uA #[uL C,uL D],uL N,uI p,uA #[uS P,uL Q],uI r] q λe y=>∃X Y Z a0 a1 a2 a3 x l h,e=rT #[uA #[uI X,uI Y,uI Z,uI a0,uI a1,uL a2,uL a3,uL x,uL l],uI h]/\Br (h=0) (TI 54 #[uP U,uL l] y λs J=>qAr [uI X,uI Y,uI Z,uI a0,uI s] 54 J λG A=>Ap 100 103 73 (uL M) (.slice (qAa G 0) 1 1) A λn m=>Br (0<o) (TL 45 #[uD a b c d g i j k,uA #[uL a2,uL a3],uI o,uI p] m λb0 u=>IR (O+1)/\w [uL a2,uL a3,uP U,uI W,uL H,uI L,uL n,uL b0,uI (O+1)] u) (IR (O+1)/\w [uL a2,uL a3,uP U,uI W,uL H,uI L,uL n,uL x,uI (O+1)] m)) (R (rT #[z0,uA #[z0,z0],uI h]) y)
theorem x28{a:KB}{b c d g i j k l:Sl}{o p q r:Int}(h:TT 65 #[uD a b c d g i j k] V λe V1=>∃s u y,e=rT #[uA #[uL s,uL u],uI y]/\Br (y=0) (TI 51 #[uD a b c d g i j k,uA #[uL s,uL u],uI p,uI q,uI r] V1 λz V2=>Br (z=0) (Br (o<0) (R (rT #[z0,uA #[z0,z0],uI 2]) V2) (Br (4<o) (R (rT #[z0,uA #[z0,z0],uI 2]) V2) (Br (2000<(l.n:Int)) (R (rT #[z0,uA #[z0,z0],uI 4]) V2) (TT 53 #[uI q] V2 λe J=>∃A B,e=rT #[uP A,uI B]/\Lp [uL s,uL u,uP A,uI B,z0,uI 0,z0,z0,uI 0] J λI n w=>∀C D F G H L M N O,I n [uL C,uL D,uP F,uI G,uL H,uI L,uL M,uL N,uI O] w->∀x:LMP,Nx I n x->Br (O<(l.n:Int)) (Ix l O (∃P Q,w.rowp l.p (O.toNat*2) 2=some [uS P,uL Q]/\Br (0<o) (TT 53 #[uI q] w λe m=>∃U W,e=rT #[uP U,uI W]/\Br (W=0) (w28_0 a b c d g i j k C D N p P Q r m U M o O x W H L R) (R (rT #[z0,uA #[z0,z0],uI W]) m)) (Br (G=0) (w28_0 a b c d g i j k C D N p P Q r w F M o O x G H L R) (R (rT #[z0,uA #[z0,z0],uI G]) w)))) (R (rT #[uL M,uA #[uL C,uL D],uI 0]) w))))) (R (rT #[z0,uA #[z0,z0],uI z]) V2)) (R (rT #[z0,uA #[z0,z0],uI y]) V1)):TT 28 #[uD a b c d g i j k,uL l,uI o,uI p,uI q,uI r] V R:=qEY Tryz.func28 [] [(15,[15])] false (by kernel_rfl) (by kernel_rfl) h
abbrev w29_0(l:Sl)(N:Int)(w:Mem)(a:KB)(b c d g i j k C D L:Sl)(p q:Int)(M:Sl)(r:Int)(H:Sl)(o:Int)(y:LMP)(F:Sl)(G:Int)(R:RP):Prop:=Ix l N (∃O P,w.rowp l.p (N.toNat*2) 2=some [uS O,uL P]/\TT 21 #[uD a b c d g i j k,uA #[uL C,uL D],uL L,uI p,uI q,uL M,uA #[uS O,uL P],uI r] w λe x=>∃Q U W X Y Z a0 a1 a2 a3 h,e=rT #[uA #[uI Q,uI U,uI W,uI X,uI Y,uL Z,uL a0,uL a1,uL a2,uL a3],uI h]/\Br (h=0) (qAr [uI Q,uI U,uI W,uI X,uI Y] 54 x λs J=>Ap 82 85 73 (uL H) (.slice (qAa s 0) 1 1) J λn m=>Br (0<o) (TL 17 #[uD a b c d g i j k,uA #[uL Z,uL a0],uI o,uI p] m λA u=>IR (N+1)/\y [uL Z,uL a0,uL F,uI G,uL n,uL A,z0,uI (N+1)] u) (IR (N+1)/\y [uL Z,uL a0,uL F,uI G,uL n,uL a1,uL a3,uI (N+1)] m)) (R (rT #[z0,uA #[z0,z0],uI h]) x))
theorem x29{a:KB}{b c d g i j k l:Sl}{o p q r:Int}(h:TB 46 #[uD a b c d g i j k] V λs V1=>Br (s=true) (TT 34 #[uD a b c d g i j k] V1 λe V2=>∃u y,e=rV (uA #[uL u,uL y])/\TB 31 #[uD a b c d g i j k] V2 λz x=>Br (z=true) (TI 55 #[uD a b c d g i j k,uA #[uL u,uL y],uI 1,uI 1,uI 0] x λA w=>Br (A=0) (Br (o<0) (R (rT #[z0,uA #[z0,z0],uI 2]) w) (Br (4<o) (R (rT #[z0,uA #[z0,z0],uI 2]) w) (TI 55 #[uD a b c d g i j k,uA #[uL u,uL y],uI p,uI q,uI r] w λB m=>Br (B=0) (Br (2000<(l.n:Int)) (R (rT #[z0,uA #[z0,z0],uI 4]) m) (Lp [uL u,uL y,z0,uI 0,z0,z0,z0,uI 0] m λI n Z=>∀C D F G H L M N,I n [uL C,uL D,uL F,uI G,uL H,uL L,uL M,uI N] Z->∀J:LMP,Nx I n J->Br (N<(l.n:Int)) (w29_0 l N Z a b c d g i j k C D L p q M r H o J F G R) (R (rT #[uL H,uA #[uL C,uL D],uI 0]) Z))) (R (rT #[z0,uA #[z0,z0],uI 2]) m)))) (R (rT #[z0,uA #[z0,z0],uI 1]) w)) (R (rT #[z0,uA #[z0,z0],uI 1]) x)) (TB 31 #[uD a b c d g i j k] V1 λu V2=>Br (u=true) (TI 55 #[uD a b c d g i j k,uA #[z0,z0],uI 1,uI 1,uI 0] V2 λy x=>Br (y=0) (Br (o<0) (R (rT #[z0,uA #[z0,z0],uI 2]) x) (Br (4<o) (R (rT #[z0,uA #[z0,z0],uI 2]) x) (TI 55 #[uD a b c d g i j k,uA #[z0,z0],uI p,uI q,uI r] x λz w=>Br (z=0) (Br (2000<(l.n:Int)) (R (rT #[z0,uA #[z0,z0],uI 4]) w) (Lp [z0,z0,z0,uI 0,z0,z0,z0,uI 0] w λI n m=>∀A B C D F G H L,I n [uL A,uL B,uL C,uI D,uL F,uL G,uL H,uI L] m->∀J:LMP,Nx I n J->Br (L<(l.n:Int)) (w29_0 l L m a b c d g i j k A B G p q H r F o J C D R) (R (rT #[uL F,uA #[uL A,uL B],uI 0]) m))) (R (rT #[z0,uA #[z0,z0],uI 2]) w)))) (R (rT #[z0,uA #[z0,z0],uI 1]) x)) (R (rT #[z0,uA #[z0,z0],uI 1]) V2))):TT 29 #[uD a b c d g i j k,uL l,uI o,uI p,uI q,uI r] V R:=qEY Tryz.func29 [] [(13,[15])] false (by kernel_rfl) (by kernel_rfl) h
theorem x33{a:KB}{b c d g i j k l o p:Sl}{q:Int}(h:TI 71 #[uD a b c d g i j k,uA #[uL l,uL o],uI q] V λr V1=>Br (r=0) (Br (2000<(p.n:Int)) (R (rT #[z0,uA #[z0,z0],uI 4]) V1) (TT 72 #[uA #[uL l,uL o]] V1 λe V2=>∃s u,e=rV (uA #[uL s,uL u])/\Lp [uL s,uL u,z0,uI 0,z0,uI 0] V2 λI n w=>∀y z A B C D,I n [uL y,uL z,uL A,uI B,uL C,uI D] w->∀x:LMP,Nx I n x->Br (D<(p.n:Int)) (Ix p D (∃F G,w.rowp p.p (D.toNat*2) 2=some [uS F,uL G]/\TT 73 #[uD a b c d g i j k,uA #[uL y,uL z],uA #[uS F,uL G],uI q] w λe m=>∃H L M N O P Q,e=rT #[uP H,uA #[uI L,uI M,uI N,uI O,uI P],uI Q]/\Br (Q=0) (qAr [uI L,uI M,uI N,uI O,uI P] 54 m λU Z=>Ap 51 53 73 (uL C) (.slice (qAa U 0) 1 1) Z λW J=>N2 H (∃X Y,J.rowp H 8 2=some [uL X,uL Y]/\IR (D+1)/\x [uL X,uL Y,uL A,uI B,uL W,uI (D+1)] J)) (R (rT #[z0,uA #[z0,z0],uI Q]) m))) (R (rT #[uL C,uA #[uL y,uL z],uI 0]) w))) (R (rT #[z0,uA #[z0,z0],uI r]) V1)):TT 33 #[uD a b c d g i j k,uA #[uL l,uL o],uL p,uI q] V R:=qEY Tryz.func33 [] [(9,[5])] false (by kernel_rfl) (by kernel_rfl) h
theorem x52{a:KB}{b c d g i j k l o p:Sl}{q:Int}{r:KB}{s:Sl}{u:Int}(h:TT 24 #[uD a b c d g i j k,uA #[uL l,uL o],uA #[uS r,uL s],uI u] V λe V1=>∃y z A B C D F G,e=rT #[uA #[uI y,uI z,uI A,uI B,uI C],uA #[uL D,uL F],uI G]/\Br (G=0) (TT 36 #[uD a b c d g i j k,uA #[uL l,uL o],uA #[uS r,uL s],uI u] V1 λe V2=>∃H L,e=rT #[uL H,uI L]/\Br (L=0) (TL 42 #[uL p] V2 λM V3=>Lp [uI y,uI z,uI A,uI B,uI C,uL D,uL F,uL M,z0,uI 0] V3 λI n w=>∀N O P Q U W X Y Z a0,I n [uI N,uI O,uI P,uI Q,uI U,uL W,uL X,uL Y,uL Z,uI a0] w->∀m:LMP,Nx I n m->Br (a0<(H.n:Int)) (Ix H a0 (∃a1 a2 a3,w.rowp H.p (a0.toNat*3) 3=some [uI a1,uI a2,uI a3]/\Br (a1=3) (TI 41 #[uL Y,uI q] w λJ E=>qAr [uI J] 3 E λK S=>Ap 61 66 31 (uL Y) (.slice (qAa K 0) 1 1) S λx T=>Br (0<a2) (IR (a2-1)/\Ix x (a2-1) (∃a7,T.rowp x.p ((a2-1).toNat*1) 1=some [uI a7]/\qAr [uI a7] 3 T λa8 V8=>Ap 73 81 31 (uL Z) (.slice (qAa a8 0) 1 1) V8 λa9 V9=>IR (a0+1)/\m [uI N,uI O,uI P,uI Q,uI U,uL W,uL X,uL x,uL a9,uI (a0+1)] V9)) (IR (a0+1)/\m [uI N,uI O,uI P,uI Q,uI U,uL W,uL X,uL x,uL Z,uI (a0+1)] T)) (Br (0<a2) (IR (a2-1)/\Ix Y (a2-1) (∃J,w.rowp Y.p ((a2-1).toNat*1) 1=some [uI J]/\qAr [uI J] 3 w λK E=>Ap 73 81 31 (uL Z) (.slice (qAa K 0) 1 1) E λx S=>IR (a0+1)/\m [uI N,uI O,uI P,uI Q,uI U,uL W,uL X,uL Y,uL x,uI (a0+1)] S)) (IR (a0+1)/\m [uI N,uI O,uI P,uI Q,uI U,uL W,uL X,uL Y,uL Z,uI (a0+1)] w)))) (R (rT #[uA #[uI N,uI O,uI P,uI Q,uI U,uL W,uL X,uL Y,uL Z],uI 0]) w)) (R (rT #[uA #[uI 0,uI 0,uI 0,uI 0,uI 0,z0,z0,z0,z0],uI L]) V2)) (R (rT #[uA #[uI 0,uI 0,uI 0,uI 0,uI 0,z0,z0,z0,z0],uI G]) V1)):TT 52 #[uD a b c d g i j k,uA #[uL l,uL o],uL p,uI q,uA #[uS r,uL s],uI u] V R:=qEY Tryz.func52 [] [(9,[18])] false (by kernel_rfl) (by kernel_rfl) h
theorem x72{a b:Sl}(h:TL 42 #[uL a] V λc V1=>Lp [uL c,z0,uI 0] V1 λI n V2=>∀d g i,I n [uL d,uL g,uI i] V2->∀u:LMP,Nx I n u->Br (i<(b.n:Int)) (Ix b i (∃j k,V2.rowp b.p (i.toNat*2) 2=some [uI j,uL k]/\TL 42 #[uL k] V2 λl w=>qAr [uI j,uL l] 92 w λo y=>Ap 18 25 32 (uL g) (.slice (qAa o 0) 1 1) y λp x=>IR (i+1)/\u [uL d,uL p,uI (i+1)] x)) (R (rV (uA #[uL d,uL g])) V2)):TT 72 #[uA #[uL a,uL b]] V R:=qEY Tryz.func72 [] [(3,[3])] false (by kernel_rfl) (by kernel_rfl) h
theorem x96{a:KB}{b c d g i j k l o:Sl}(h:TT 87 #[uD a b c d g i j k,uA #[uL l,uL o]] V λe V1=>∃p q,e=rV (uA #[uL p,uI q])/\TL 142 #[uL c,uL l,uL p] V1 λr V2=>Lp [uL r,z0,uI 0] V2 λI n w=>∀s u y,I n [uL s,uL u,uI y] w->∀x:LMP,Nx I n x->Br (y<(p.n:Int)) (Ix p y (∃z,w.rowp p.p (y.toNat*1) 1=some [uI z]/\IR (z-1)/\Ix o (z-1) (∃A B,w.rowp o.p ((z-1).toNat*2) 2=some [uI A,uL B]/\Ix b A (¬(qAa b.p (A.toNat*2))=none/\∃C D,w.rowp b.p (A.toNat*2) 2=some [uS C,uL D]/\TL 142 #[uL D,uL B,uL p] w λF m=>qAr [uI A,uL F] 92 m λG J=>Ap 36 51 32 (uL u) (.slice (qAa G 0) 1 1) J λH N=>IR (y+1)/\x [uL s,uL H,uI (y+1)] N)))) (R (rV (uA #[uL s,uL u])) w)):TT 96 #[uD a b c d g i j k,uA #[uL l,uL o]] V R:=qEY Tryz.func96 [] [(4,[6])] false (by kernel_rfl) (by kernel_rfl) h
theorem x135{a:KB}{b c d g i j k l o p:Sl}{q:Int}{r s:Sl}(h:Lp [uL p,uI q,uI 0] V λI n V1=>∀u y z,I n [uL u,uI y,uI z] V1->∀w:LMP,Nx I n w->Br (z<(r.n:Int)) (Ix s z (IY V1 s z λA=>Ix r z (¬(qAa r.p (z.toNat*2))=none/\∃B C,V1.rowp r.p (z.toNat*2) 2=some [uS B,uS C]/\Br (C=(qAo [105,110,116])) (IR (z+1)/\w [uL u,uI y,uI (z+1)] V1) (Ix r z (¬(qAa r.p (z.toNat*2))=none/\∃D F,V1.rowp r.p (z.toNat*2) 2=some [uS D,uS F]/\Br (F=(qAo [98,111,111,108])) (IR (z+1)/\w [uL u,uI y,uI (z+1)] V1) (Br (A=0) (IR (z+1)/\w [uL u,uI y,uI (z+1)] V1) (TI 177 #[uL u,uI A] V1 λG V2=>Br (0<=G) (Br (y=0) (IR (z+1)/\w [uL u,uI A,uI (z+1)] V2) (IR (z+1)/\w [uL u,uI y,uI (z+1)] V2)) (qAr [uI A] 3 V2 λH m=>Ap 52 54 31 (uL u) (.slice (qAa H 0) 1 1) m λL x=>IR (A-1)/\Ix o (A-1) (¬(qAa o.p ((A-1).toNat*2))=none/\∃M N,x.rowp o.p ((A-1).toNat*2) 2=some [uI M,uL N]/\Ix b M (¬(qAa b.p (M.toNat*2))=none/\∃O P,x.rowp b.p (M.toNat*2) 2=some [uS O,uL P]/\IR (A-1)/\Ix o (A-1) (¬(qAa o.p ((A-1).toNat*2))=none/\∃Q U,x.rowp o.p ((A-1).toNat*2) 2=some [uI Q,uL U]/\TT 135 #[uD a b c d g i j k,uA #[uL l,uL o],uA #[uL L,uI y],uL P,uL U] x λe J=>∃W X,e=rV (uA #[uL W,uI X])/\IR (z+1)/\w [uL W,uI X,uI (z+1)] J))))))))))) (R (rV (uA #[uL u,uI y])) V1)):TT 135 #[uD a b c d g i j k,uA #[uL l,uL o],uA #[uL p,uI q],uL r,uL s] V R:=qEY Tryz.func135 [] [(2,[7])] false (by kernel_rfl) (by kernel_rfl) h
theorem x137{a b:Sl}(h:qAr [] 3 V λc V1=>Ap 5 7 31 (.slice (qAa c 0) (0:Int).toNat (0:Int).toNat) (uL a) V1 λd V2=>Lp [uL d,z0,uI 0] V2 λI n w=>∀g i j,I n [uL g,uL i,uI j] w->∀y:LMP,Nx I n y->Br (j<(b.n:Int)) (Ix b j (¬(qAa b.p (j.toNat*2))=none/\∃k l,w.rowp b.p (j.toNat*2) 2=some [uI k,uL l]/\Ix b j (¬(qAa b.p (j.toNat*2))=none/\∃o p,w.rowp b.p (j.toNat*2) 2=some [uI o,uL p]/\w.rowp (qAa (qAa b.p (j.toNat*2)) 1) 0 1=some [uL p]/\¬(qAa b.p (j.toNat*2))=none/\Ix b j (w.rowp (qAa (qAa b.p (j.toNat*2)) 0) 0 1=some [uI k]/\¬(qAa b.p (j.toNat*2))=none/\Ix b j (qAr [] 3 w λq m=>Ap 25 31 31 (.slice (qAa q 0) (0:Int).toNat (0:Int).toNat) (uL p) m λr x=>x.rowp (qAa (qAa b.p (j.toNat*2)) 0) 0 1=some [uI k]/\¬(qAa b.p (j.toNat*2))=none/\Ix b j (qAr [uI k,uL r] 92 x λs e=>Ap 18 34 32 (uL i) (.slice (qAa s 0) 1 1) e λu H=>IR (j+1)/\y [uL g,uL u,uI (j+1)] H)))))) (R (rV (uA #[uL g,uL i])) w)):TT 137 #[uA #[uL a,uL b]] V R:=qEY Tryz.func137 [] [(3,[3])] false (by kernel_rfl) (by kernel_rfl) h
theorem x159{a:Option Addr}(h:GenK xE (.makeFunc (.func 191) #[(.tmp 6)] #[]) 236 (gv [(6,uP a)]) V λx V1=>∃b,K.f.ok b/\x=b/\GenK xE (.makeFunc (.func 192) #[(.tmp 8)] #[]) 236 (gv [(8,uP a)]) V1 λx V2=>∃c,K.f.ok c/\x=c/\GenK xE (.makeFunc (.func 193) #[(.tmp 10)] #[]) 236 (gv [(10,uP a)]) V2 λx r=>∃d,K.f.ok d/\x=d/\GenK xE (.makeFunc (.func 194) #[(.tmp 12)] #[]) 236 (gv [(12,uP a)]) r λx q=>∃g,K.f.ok g/\x=g/\GenK xE (.makeFunc (.func 195) #[(.tmp 14)] #[]) 236 (gv [(14,uP a)]) q λx s=>∃i,K.f.ok i/\x=i/\qAr [K.cast .f b,K.cast .f c,K.cast .f d,K.cast .f g,K.cast .f i] 236 s λj H=>Lp [uP none,uI 0] H λI n w=>∀k l,I n [uP k,uI l] w->∀y:LMP,Nx I n y->Br (l<5) (¬(qAa j 0)=none/\0<=l/\l<5/\∃o,K.f.ok o/\w.rowp (qAa j 0) (l.toNat*1) 1=some [o]/\∃f first u,K.cast .f o=.func (.func f) first u/\CO f/\TT f (first++#[]++u) w λe m=>∃p,e=rV (uP p)/\Br (p=none) (IR (l+1)/\y [uP k,uI (l+1)] m) (R (rV (uP p)) m)) (R (rV (uP none)) w)):TT 159 #[uP a] V R:=qEY Tryz.func159 [16] [] false (by kernel_rfl) (by kernel_rfl) h
theorem x236{a:Option Addr}{b:Option Nat}{c:Bool}{d:Sl}{g:KB}{i:Option Addr}(h:Lp [uI 0,uI 0,uI 0] V λI n V1=>∀j k l,I n [uI j,uI k,uI l] V1->∀x:LMP,Nx I n x->Br (l<(d.n:Int)) (Ix d l (∃o p q r s,V1.rowp d.p (l.toNat*5) 5=some [uI o,uS p,uL q,uL r,uL s]/\¬i=none/\∃u,V1.rowp i ((0:Int).toNat*1) 1=some [uI u]/\¬i=none/\∃y,V1.rowp i ((0:Int).toNat*1) 1=some [uI y]/\IR (y+1)/\¬i=none/\StT i 0 [uI (y+1)] V1 λV2=>TI 268 #[uA #[uP a,uM b,uB c],uA #[uI o,uS p,uL q,uL r,uL s],uS g] V2 λz m=>Br (z=0) (qAr [uL r,uL s] 141 m λA Z=>Lp [uI j,uI k,uI 0] Z λI n w=>∀B C D,I n [uI B,uI C,uI D] w->∀J:LMP,Nx I n J->Br (D<2) (¬(qAa A 0)=none/\0<=D/\D<2/\∃F,w.rowp (qAa A 0) (D.toNat*1) 1=some [uL F]/\TT 236 #[uA #[uP a,uM b,uB c],uL F,uS g,uP i] w λe N=>∃G H,e=rT #[uI G,uI H]/\Br (H=0) (IR (D+1)/\J [uI B,uI C,uI (D+1)] N) (R (rT #[uI G,uI H]) N)) (IR (l+1)/\x [uI B,uI C,uI (l+1)] w)) (R (rT #[uI u,uI z]) m))) (R (rT #[uI 0,uI 0]) V1)):TT 236 #[uA #[uP a,uM b,uB c],uL d,uS g,uP i] V R:=qEY Tryz.func236 [44] [] false (by kernel_rfl) (by kernel_rfl) h
end
end Go.Proofs
namespace Go.Proofs
open Go Go.Sx
abbrev PP(f:FuncId)(args:List Value)(V:Mem)(v:Value):Prop:=Pur xE f args V v
def qCx(c:Int):Bool:=decide (97<=c/\c<=122∨65<=c/\c<=90)
def qGl(c:Int):Bool:=decide (48<=c/\c<=57)
def qFn(c:Int):Bool:=qCx c||qGl c||decide (c=95)
theorem c101{V:Mem}{c:Int}:PP 101 [.int .u8 c] V (.bool (qCx c)):=by
 refine x101 ?_;unfold qCx;grind
theorem c144{V:Mem}{c:Int}:PP 144 [.int .u8 c] V (.bool (qGl c)):=by
 refine x144 ?_;unfold qGl;grind
theorem c102{V:Mem}{c:Int}:PP 102 [.int .u8 c] V (.bool (qFn c)):=by
 refine x102 ?_;unfold qFn;refine c101.call ⟨_,rfl,λh=>?_,λh=>?_⟩;·simp[h]
 ·refine c144.call ⟨_,rfl,λh=>?_,λh=>?_⟩<;>simp_all
def cls(c:Int):Int:=if c=32∨c=9∨c=13∨c=10 then 1 else if qCx c then 2 else if qGl c then 3 else if c=95 then 4 else 0
theorem c200{V:Mem}{c:Int}:PP 200 [.int .u8 c] V (.int .i64 (cls c)):=by
 refine x200 ?_;have key:∀n:Int,cls c=n->(xH (.int .i64 n)=xH (.int .i64 (cls c))/\V=V):=λn h=>by simp_all
 unfold cls qCx qGl at key
 repeat' (first|intro _|apply And.intro)
 all_goals first|rfl|(refine(key _ ?_).1;grind)
theorem cls_two(c:Int):cls c=2↔qCx c=true:=by
 unfold cls qCx qGl;grind
theorem cls_word(c:Int):cls c<2↔qFn c=false:=by
 unfold qFn cls qCx qGl;grind
def qKV:List KB:=[[116,121,112,101],[118,97,114],[112,114,111,99],[108,111,99,97,108],[109,101,97,115,117,114,101],[105,110,118,97,114,105,97,110,116],[112,111,116,101,110,116,105,97,108],[98,111,117,110,100],[105,102],[101,108,115,101],[119,104,105,108,101],[114,101,116,117,114,110],[110,101,119],[110,105,108],[116,114,117,101],[102,97,108,115,101],[97,110,100],[111,114],[110,111,116],[109,97,120],[109,105,110],[108,111,103],[105,110,116],[98,111,111,108],[116,104,105,115],[115,111,114,116],[111,112],[114,117,108,101],[115,112,101,99],[100,101,115,99],[115,99,114,105,112,116]].map qAo
def hasS(xs:List KB)(s:KB):Bool:=xs.any λx=>decide (x=s)
def isKw(s:KB):Bool:=hasS qKV s
def qAX(s:KB):Bool:=decide (s.size≠0/\s.size<=40/\qCx (qBj s 0)=true/\(∀i:Nat,i<s.size->qFn (qBj s i)=true))&&!isKw s
theorem c145{V:Mem}{l:Sl}{xs:List KB}{s:KB}(h:qAc V l 1 (xs.map λx=>[vS x])):PP 145 [l.v,.string s] V (.bool (hasS xs s)):=by
 refine x145 ?_;refine qAM xs.length (λi V1=>V1=V/\∀j:Nat,j<i->xs[j]?≠some s) ⟨rfl,by simp⟩ ?_;rintro i b _ J r ⟨rfl,q⟩ w;refine⟨λk=>?_,λu=>?_⟩
 ·obtain⟨x,hm,o,p,y,n,h0,g⟩:=h.get k;refine⟨n,h0,k,_,g,λe=>?_,λe=>⟨h.succ k,w y _ _ ⟨rfl,λj m=>?_⟩⟩⟩
  ·have:hasS xs s=true:=List.any_eq_true.2 ⟨x,hm,decide_eq_true e⟩;rw[this];exact⟨rfl,rfl⟩
  grind
 ·have c:=(h.done u).2;have:s∉xs:=λhm=>by
   grind[yd,yu]
  have:hasS xs s=false:=by
   grind[hasS]
  simp_all
theorem c103{V:Mem}{s:KB}:PP 103 [.string s] V (.bool (isKw s)):=by
 refine Pur.mk (x103 ?_);refine x146 ?_;intro b k;refine⟨⟨some ⟨b,0,none⟩,31,31⟩,rfl,?_⟩;have h:∀V0:Mem,qAc (V0.set b (.cells ((qKV.map xI).toArray) 9 (0,0))) ⟨some ⟨b,0,none⟩,31,31⟩ 1 (qKV.map λx=>[vS x]):=
  λV0=>qAc.cells (xs:=qKV) (row:=λx=>[vS x]) mss rfl (λ_=>rfl) rfl (xJ rfl)
 refine(c145 (h _)).call ⟨_,rfl,rfl,Zn k _⟩
theorem c66{V:Mem}{s:KB}:PP 66 [.string s] V (.bool (qAX s)):=by
 refine x66 ?_;refine⟨λh=>?_,λh=>⟨λh1=>?_,λh1=>⟨by omega,c101.call ⟨_,rfl,λh2=>?_,λh2=>?_⟩⟩⟩⟩;·grind[qAX]
 ·grind[qAX]
 ·refine qAM s.size (λi V1=>V1=V/\∀j:Nat,j<i->qFn (qBj s j)=true) ⟨rfl,by simp⟩ ?_;rintro i b _ J x ⟨rfl,g⟩ u;refine⟨λw=>⟨by omega,c102.call ⟨_,rfl,λhw=>⟨⟨by omega,by omega⟩,u (by omega) _ _ ⟨rfl,λj k=>?_⟩⟩,λhw=>?_⟩⟩,λy=>?_⟩;·grind
  ·grind[qFn,qBj,qAX]
  ·refine c103.call ⟨_,rfl,?_⟩;have a1:s.size≠0:=by omega
   have a2:s.size<=40:=by omega
   have a3:∀i:Nat,i<s.size->qFn (qBj s i)=true:=λj k=>g j (by omega);have:qAX s=!isKw s:=by unfold qAX;rw[decide_eq_true ⟨a1,a2,h2,a3⟩];simp
   rw[this];exact⟨rfl,rfl⟩
 grind[qCx,qBj,qAX]
end Go.Proofs
namespace Go.Proofs
open Go Go.Sx
attribute [local irreducible] Go.Sx.Tri
def qBk(s:KB):List Value:=[vS s]
def strV(s:KB):Value:=vS s
section
variable{α:Type}
def IdxP(f:FuncId)(row:α->List Value)(v:α->Value)(sz:Nat):Prop:=∀{V:Mem}{l:Sl}{xs:List α}{g:Nat}{first caps:List Value}(u:qKc g)(St h:Nat->Mem->Prop)(k:∀i V1,St i V1->qAc V1 l sz (xs.map row))(h0:St 0 V)
  (w:∀i x V1,xs[i]?=some x->St i V1->Tri xE g (first.toArray++#[v x]++caps.toArray) V1 λe V2=>∃b:Bool,e=.returned (.bool b)/\(b=true->h i V2)/\(b=false->St (i+1) V2)),
  Tri xE f #[l.v,.func (.func g) first.toArray caps.toArray] V λe V'=>(∃i:Nat,e=.returned (.int .i64 i)/\h i V')∨(e=.returned (.int .i64 (-1))/\St xs.length V')
def ConP(f:FuncId)(row:α->List Value)(v:α->Value)(sz:Nat):Prop:=∀{V:Mem}{l:Sl}{xs:List α}{g:Nat}{first caps:List Value}(u:qKc g)(St h:Nat->Mem->Prop)(k:∀i V1,St i V1->qAc V1 l sz (xs.map row))(h0:St 0 V)
  (w:∀i x V1,xs[i]?=some x->St i V1->Tri xE g (first.toArray++#[v x]++caps.toArray) V1 λe V2=>∃b:Bool,e=.returned (.bool b)/\(b=true->h i V2)/\(b=false->St (i+1) V2)),
  Tri xE f #[l.v,.func (.func g) first.toArray caps.toArray] V λe V'=>(∃i:Nat,e=.returned (.bool true)/\h i V')∨(e=.returned (.bool false)/\St xs.length V')
def ConC(f:FuncId)(row:α->List Value)(v:α->Value)(sz:Nat):Prop:=∀{V:Mem}{l:Sl}{xs:List α}{g:Nat}{first caps:List Value}(h:qAc V l sz (xs.map row))(k:qKc g)(p:α->Bool) (u:∀x∈xs,PP g (first++[v x]++caps) V (.bool (p x))),PP f [l.v,.func (.func g) first.toArray caps.toArray] V (.bool (xs.any p))
variable{f fc:FuncId}{row:α->List Value}{v:α->Value}{sz:Nat}
theorem conG(h:IdxP f row v sz)(x:∀{l:Sl}{c:Value}{V:Mem}{R:RP},(TT f #[uL l,K.cast .f c] V λe V1=>∃y,e=rV (uI y)/\R (rV (uB (decide (0<=y)))) V1)->TT fc #[uL l,K.cast .f c] V R):ConP fc row v sz:=by
 intro V l xs g first u j St w k h0 n
 refine x (c:=.func (.func g) first.toArray u.toArray) (Tri.mono (h j St w k h0 n) ?_);rintro e V' (⟨i,rfl,h⟩|⟨rfl,h⟩)
 ·refine⟨_,rfl,.inl ⟨i,?_,h⟩⟩;rfl
 simp_all
theorem conC(H:ConP fc row v sz):ConC fc row v sz:=by
 intro V l xs g first n h r p o
 refine Tri.mono (H r (λi V1=>V1=V/\∀j x,j<i->xs[j]?=some x->p x=false) (λi V1=>V1=V/\∃x∈xs,p x=true) (λi V1 k=>k.1▸h) ⟨rfl,λj x u=>absurd u (Nat.not_lt_zero _)⟩ ?_) ?_
 ·rintro i x _ w ⟨rfl,k⟩;have hm:x∈xs:=List.mem_of_getElem? w;have:=(o x hm).callv (q:=λe V2=>∃b:Bool,e=.returned (.bool b)/\(b=true->V2=_/\∃x∈xs,p x=true)/\(b=false->V2=_/\∀j x,j<i+1->xs[j]?=some x->p x=false)) ⟨_,rfl,λm=>⟨rfl,x,hm,m⟩,λm=>⟨rfl,λj y u c=>by
   grind⟩⟩
  exact this
 ·rintro e V' (⟨i,rfl,rfl,x,hm,w⟩|⟨rfl,rfl,k⟩);·grind
  ·have:xs.any p=false:=List.any_eq_false.2 λx hm w=>by
    obtain⟨j,u,rfl⟩:=yd.1 hm;simp_all
   simp_all
end
theorem g172:IdxP 172 Fld.row Fld.v 2:=by
 intro V l xs g first w q St o k h0 p
 refine x172 (a:=l) (b:=.func (.func g) first.toArray w.toArray) ?_;refine qAM xs.length St h0 ?_;intro i b V1 J G r c;have h:=k i V1 r;refine⟨λu=>?_,λj=>?_⟩
 ·obtain⟨x,hm,d,N,s,n,H,y⟩:=h.get u;refine⟨n,H,u,_,_,y,g,_,_,rfl,q,Tri.mono (p i x V1 d r) ?_⟩;rintro e V2 ⟨b,rfl,h1,h2⟩;exact⟨b,rfl,λm=>.inl ⟨i,rfl,h1 m⟩,λm=>⟨h.succ u,c s _ _ (h2 (by simpa using m))⟩⟩
 ·have e:i=xs.length:=by have:=(h.done j).2;omega
  simp_all
theorem g122:ConP 122 Fld.row Fld.v 2:=conG g172 x122
theorem c122:ConC 122 Fld.row Fld.v 2:=conC g122
theorem g295:IdxP 295 Iv.row Iv.v 6:=by
 intro V l xs g first w q St o k h0 p
 refine x295 (a:=l) (b:=.func (.func g) first.toArray w.toArray) ?_;refine qAM xs.length St h0 ?_;intro i b V1 J G r c;have h:=k i V1 r;refine⟨λu=>?_,λj=>?_⟩
 ·obtain⟨x,hm,d,N,s,n,H,y⟩:=h.get u;refine⟨n,H,u,_,_,_,_,_,_,y,g,_,_,rfl,q,Tri.mono (p i x V1 d r) ?_⟩;rintro e V2 ⟨b,rfl,h1,h2⟩;exact⟨b,rfl,λm=>.inl ⟨i,rfl,h1 m⟩,λm=>⟨h.succ u,c s _ _ (h2 (by simpa using m))⟩⟩
 ·have e:i=xs.length:=by have:=(h.done j).2;omega
  simp_all
theorem g264:ConP 264 Iv.row Iv.v 6:=conG g295 x264
theorem c264:ConC 264 Iv.row Iv.v 6:=conC g264
theorem g173:IdxP 173 Ty.row Ty.v 2:=by
 intro V l xs g first w q St o k h0 p
 refine x173 (a:=l) (b:=.func (.func g) first.toArray w.toArray) ?_;refine qAM xs.length St h0 ?_;intro i b V1 J G r c;have h:=k i V1 r;refine⟨λu=>?_,λj=>?_⟩
 ·obtain⟨x,hm,d,N,s,n,H,y⟩:=h.get u;refine⟨n,H,u,_,_,y,g,_,_,rfl,q,Tri.mono (p i x V1 d r) ?_⟩;rintro e V2 ⟨b,rfl,h1,h2⟩;exact⟨b,rfl,λm=>.inl ⟨i,rfl,h1 m⟩,λm=>⟨h.succ u,c s _ _ (h2 (by simpa using m))⟩⟩
 ·have e:i=xs.length:=by have:=(h.done j).2;omega
  simp_all
theorem g126:ConP 126 Ty.row Ty.v 2:=conG g173 x126
theorem c126:ConC 126 Ty.row Ty.v 2:=conC g126
theorem g196:IdxP 196 Pr.row Pr.v 5:=by
 intro V l xs g first w q St o k h0 p
 refine x196 (a:=l) (b:=.func (.func g) first.toArray w.toArray) ?_;refine qAM xs.length St h0 ?_;intro i b V1 J G r c;have h:=k i V1 r;refine⟨λu=>?_,λj=>?_⟩
 ·obtain⟨x,hm,d,N,s,n,H,y⟩:=h.get u;refine⟨n,H,u,_,_,_,_,_,y,g,_,_,rfl,q,Tri.mono (p i x V1 d r) ?_⟩;rintro e V2 ⟨b,rfl,h1,h2⟩;exact⟨b,rfl,λm=>.inl ⟨i,rfl,h1 m⟩,λm=>⟨h.succ u,c s _ _ (h2 (by simpa using m))⟩⟩
 ·have e:i=xs.length:=by have:=(h.done j).2;omega
  simp_all
theorem g169:ConP 169 Pr.row Pr.v 5:=conG g196 x169
theorem c169:ConC 169 Pr.row Pr.v 5:=conC g169
theorem g249:IdxP 249 Bd.row Bd.v 5:=by
 intro V l xs g first w q St o k h0 p
 refine x249 (a:=l) (b:=.func (.func g) first.toArray w.toArray) ?_;refine qAM xs.length St h0 ?_;intro i b V1 J G r c;have h:=k i V1 r;refine⟨λu=>?_,λj=>?_⟩
 ·obtain⟨x,hm,d,N,s,n,H,y⟩:=h.get u;refine⟨n,H,u,_,_,_,_,_,y,g,_,_,rfl,q,Tri.mono (p i x V1 d r) ?_⟩;rintro e V2 ⟨b,rfl,h1,h2⟩;exact⟨b,rfl,λm=>.inl ⟨i,rfl,h1 m⟩,λm=>⟨h.succ u,c s _ _ (h2 (by simpa using m))⟩⟩
 ·have e:i=xs.length:=by have:=(h.done j).2;omega
  simp_all
theorem g206:ConP 206 Bd.row Bd.v 5:=conG g249 x206
theorem c206:ConC 206 Bd.row Bd.v 5:=conC g206
theorem g283:IdxP 283 E.row E.v 4:=by
 intro V l xs g first w q St o k h0 p
 refine x283 (a:=l) (b:=.func (.func g) first.toArray w.toArray) ?_;refine qAM xs.length St h0 ?_;intro i b V1 J G r c;have h:=k i V1 r;refine⟨λu=>?_,λj=>?_⟩
 ·obtain⟨x,hm,d,N,s,n,H,y⟩:=h.get u;refine⟨n,H,u,_,_,_,_,y,g,_,_,rfl,q,Tri.mono (p i x V1 d r) ?_⟩;rintro e V2 ⟨b,rfl,h1,h2⟩;exact⟨b,rfl,λm=>.inl ⟨i,rfl,h1 m⟩,λm=>⟨h.succ u,c s _ _ (h2 (by simpa using m))⟩⟩
 ·have e:i=xs.length:=by have:=(h.done j).2;omega
  simp_all
theorem g252:ConP 252 E.row E.v 4:=conG g283 x252
theorem c252:ConC 252 E.row E.v 4:=conC g252
theorem g294:IdxP 294 Ms.row Ms.v 7:=by
 intro V l xs g first w q St o k h0 p
 refine x294 (a:=l) (b:=.func (.func g) first.toArray w.toArray) ?_;refine qAM xs.length St h0 ?_;intro i b V1 J G r c;have h:=k i V1 r;refine⟨λu=>?_,λj=>?_⟩
 ·obtain⟨x,hm,d,N,s,n,H,y⟩:=h.get u;refine⟨n,H,u,_,_,_,_,_,_,_,y,g,_,_,rfl,q,Tri.mono (p i x V1 d r) ?_⟩;rintro e V2 ⟨b,rfl,h1,h2⟩;exact⟨b,rfl,λm=>.inl ⟨i,rfl,h1 m⟩,λm=>⟨h.succ u,c s _ _ (h2 (by simpa using m))⟩⟩
 ·have e:i=xs.length:=by have:=(h.done j).2;omega
  simp_all
theorem g262:ConP 262 Ms.row Ms.v 7:=conG g294 x262
theorem c262:ConC 262 Ms.row Ms.v 7:=conC g262
theorem g318:IdxP 318 qBk strV 1:=by
 intro V l xs g first w q St o k h0 p
 refine x318 (a:=l) (b:=.func (.func g) first.toArray w.toArray) ?_;refine qAM xs.length St h0 ?_;intro i b V1 J G r c;have h:=k i V1 r;refine⟨λu=>?_,λj=>?_⟩
 ·obtain⟨x,hm,d,N,s,n,H,y⟩:=h.get u;refine⟨n,H,u,_,y,g,_,_,rfl,q,Tri.mono (p i x V1 d r) ?_⟩;rintro e V2 ⟨b,rfl,h1,h2⟩;exact⟨b,rfl,λm=>.inl ⟨i,rfl,h1 m⟩,λm=>⟨h.succ u,c s _ _ (h2 (by simpa using m))⟩⟩
 ·have e:i=xs.length:=by have:=(h.done j).2;omega
  simp_all
theorem g314:ConP 314 qBk strV 1:=conG g318 x314
theorem c314:ConC 314 qBk strV 1:=conC g314
end Go.Proofs
namespace Go.Proofs
open Go.Shelf
def Tryz.lays157_ren:Go.Shelf.Ren:=⟨λ|157=>279|229=>306|199=>307|261=>316|311=>319|312=>320|n=>n,λ|9=>9|31=>220|3=>3|5=>5|4=>4|119=>365|0=>0|40=>367|152=>373|21=>21|154=>375|51=>362|141=>377|196=>382|193=>379|198=>385|49=>383|194=>380|201=>388|226=>390|46=>342|227=>391|n=>n,λ|0=>0|6=>1|n=>n⟩
theorem Tryz.lays157:Go.Proofs.Lays.n157 xE Tryz.lays157_ren:={
 mixed:=by kernel_rfl
 f157:=Tryz.func279.trans (congrArg some (by kernel_rfl))
 f199:=Tryz.func307.trans (congrArg some (by kernel_rfl))
 f229:=Tryz.func306.trans (congrArg some (by kernel_rfl))
 f261:=Tryz.func316.trans (congrArg some (by kernel_rfl))
 f311:=Tryz.func319.trans (congrArg some (by kernel_rfl))
 f312:=Tryz.func320.trans (congrArg some (by kernel_rfl))
 t0:=Tryz.underlying0
 a0:=Tryz.isAgg0
 z0:=Tryz.sizeOf0
 v0:=Tryz.zeroValue0
 t3:=Tryz.underlying3
 a3:=Tryz.isAgg3
 z3:=Tryz.sizeOf3
 v3:=Tryz.zeroValue3
 t4:=Tryz.underlying4
 a4:=Tryz.isAgg4
 z4:=Tryz.sizeOf4
 v4:=Tryz.zeroValue4
 t5:=Tryz.underlying5
 a5:=Tryz.isAgg5
 z5:=Tryz.sizeOf5
 v5:=Tryz.zeroValue5
 t9:=Tryz.underlying9
 a9:=Tryz.isAgg9
 z9:=Tryz.sizeOf9
 v9:=Tryz.zeroValue9
 t21:=Tryz.underlying21
 a21:=Tryz.isAgg21
 z21:=Tryz.sizeOf21
 v21:=Tryz.zeroValue21
 t31:=Tryz.underlying220
 a31:=Tryz.isAgg220
 z31:=Tryz.sizeOf220
 v31:=Tryz.zeroValue220
 t40:=Tryz.underlying367
 a40:=Tryz.isAgg367
 z40:=Tryz.sizeOf367
 v40:=Tryz.zeroValue367
 t46:=Tryz.underlying342
 a46:=Tryz.isAgg342
 z46:=Tryz.sizeOf342
 v46:=Tryz.zeroValue342
 t49:=Tryz.underlying383
 a49:=Tryz.isAgg383
 z49:=Tryz.sizeOf383
 v49:=Tryz.zeroValue383
 t51:=Tryz.underlying362
 a51:=Tryz.isAgg362
 z51:=Tryz.sizeOf362
 v51:=Tryz.zeroValue362
 t119:=Tryz.underlying365
 a119:=Tryz.isAgg365
 z119:=Tryz.sizeOf365
 t141:=Tryz.underlying377
 a141:=Tryz.isAgg377
 z141:=Tryz.sizeOf377
 v141:=Tryz.zeroValue377
 t152:=Tryz.underlying373
 a152:=Tryz.isAgg373
 z152:=Tryz.sizeOf373
 v152:=Tryz.zeroValue373
 t154:=Tryz.underlying375
 a154:=Tryz.isAgg375
 z154:=Tryz.sizeOf375
 v154:=Tryz.zeroValue375
 t193:=Tryz.underlying379
 a193:=Tryz.isAgg379
 z193:=Tryz.sizeOf379
 v193:=Tryz.zeroValue379
 t194:=Tryz.underlying380
 a194:=Tryz.isAgg380
 z194:=Tryz.sizeOf380
 v194:=Tryz.zeroValue380
 t196:=Tryz.underlying382
 a196:=Tryz.isAgg382
 z196:=Tryz.sizeOf382
 v196:=Tryz.zeroValue382
 t198:=Tryz.underlying385
 a198:=Tryz.isAgg385
 z198:=Tryz.sizeOf385
 v198:=Tryz.zeroValue385
 t201:=Tryz.underlying388
 a201:=Tryz.isAgg388
 z201:=Tryz.sizeOf388
 v201:=Tryz.zeroValue388
 t226:=Tryz.underlying390
 a226:=Tryz.isAgg390
 z226:=Tryz.sizeOf390
 v226:=Tryz.zeroValue390
 t227:=Tryz.underlying391
 a227:=Tryz.isAgg391
 z227:=Tryz.sizeOf391
 v227:=Tryz.zeroValue391
 g0:=by kernel_rfl
 g6:=by kernel_rfl}
open Go.RowKit Go.Lib in
theorem Tryz.strings_Fields(s:KB)(w:World)(g:s.size<4294967281)(h:∀(j:Nat) b,s.data.toList[j]?=some b->b.toNat<128)(k:xK xE w "strings.asciiSpace" .u8 xL):
  Calls xE 279 #[.string s] w λe w'=>
   e=.returned (.slice (some ⟨w.heap.size,0,none⟩) (xO s.data.toList).length (xO s.data.toList).length)/\w'=w.alloc (.cells ((xO s.data.toList).map λl=>xI ⟨l.toArray⟩).toArray 9):=Any.strings_Fields Tryz.lays157 (by kernel_rfl) (by kernel_rfl) s w g h k
end Go.Proofs
namespace Go.Proofs
open Go Go.Sx
attribute [local irreducible] Go.Sx.Tri
class Tab (V:Mem):Prop where
 at_:∃t fr,V 0=some (.cells (xL.map λz=>Value.int .u8 z).toArray t fr)
theorem Tab.sub{V V':Mem}(h:Tab V)(k:V.sub V'):Tab V':=by
 obtain⟨t,fr,h⟩:=h.at_;exact⟨t,fr,k _ _ h⟩
theorem Tab.is{V:Mem}{w:World}(h:Tab V)(k:V.le w):xK xE w "strings.asciiSpace" .u8 xL:=by
 obtain⟨t,fr,h⟩:=h.at_;have g:xE.globalNamed "strings.asciiSpace" =some 0:=by kernel_rfl
 unfold xK World.var?;rw[g,Option.bind_some,k _ _ h]
theorem frm_new{V:Mem}{w:World}(hw:V.le w)(o:Obj):V w.heap.size=none/\Frm V w (V.set w.heap.size o) (w.alloc o):=by
 have g:V w.heap.size=none:=by
  cases u:V w.heap.size with
  |none=>rfl
  |some o=>have:=(yA.1 (hw _ o u)).1;omega
 refine⟨g,by simp,λb o h=>?_,λb h _=>xP _ _ _ h,λb h=>?_,rfl,rfl⟩
 ·by_cases e:b=w.heap.size;·grind[Mem.set_same,World.alloc_heap_new]
  ·rw[Zm e]at h;have k:=(yA.1 (hw b o h)).1;exact(xP _ _ _ k).trans (hw b o h)
 grind[inr,Zm]
def kwText:KB:=qAo [97,110,100,32,98,111,111,108,32,98,111,117,110,100,32,100,101,115,99,32,101,108,115,101,32,102,97,108,115,101,32,105,102,32,105,110,116,32,105,110,118,97,114,105,97,110,116,32,108,111,99,97,108,32,108,111,103,32,109,97,120,32,109,101,97,115,117,114,101,32,109,105,110,32,110,101,119,32,110,105,108,32,110,111,116,32,111,112,32,111,114,32,112,111,116,101,110,116,105,97,108,32,112,114,111,99,32,114,101,116,117,114,110,32,114,117,108,101,32,115,99,114,105,112,116,32,115,111,114,116,32,115,112,101,99,32,116,104,105,115,32,116,114,117,101,32,116,121,112,101,32,118,97,114,32,119,104,105,108,101]
def qCv:List KB:=(xO kwText.data.toList).map λl=>⟨l.toArray⟩
theorem kwText_size:kwText.size=160:=by kernel_rfl
theorem qIg:qCv.length=31:=by kernel_rfl
theorem c247{V:Mem}(k:Tab V):Tri xE 247 #[] V λe V'=>∃b,V b=none/\e=.returned (.slice (sa b) 31 31)/\V'=V.set b (.cells (qCv.map xI).toArray 9 (0,0)):=by
 refine x247 ?_;refine Tri.mono (R:=λe V'=>∃b,V b=none/\e=.returned (.slice (sa b) 31 31)/\V'=V.set b (.cells (qCv.map xI).toArray 9 (0,0))) ?_ ?_
 ·unfold Tri;intro w hw;refine qDp (Tryz.strings_Fields kwText w (by rw[kwText_size];decide) ?_ (k.is hw)) ?_
  ·have h:(kwText.data.toList.all λb=>decide (b.toNat<128))=true:=by kernel_rfl
   grind
  ·rintro e w' ⟨rfl,rfl⟩;obtain⟨g,u⟩:=frm_new hw (.cells (qCv.map xI).toArray 9);refine⟨_,⟨w.heap.size,g,?_,rfl⟩,?_⟩;·rfl
   ·have e:((xO kwText.data.toList).map λl=>xI ⟨l.toArray⟩)=qCv.map xI:=by
     rfl
    rw[e];exact u
 ·rintro e V' ⟨b,y,rfl,rfl⟩;exact⟨⟨some ⟨b,0,none⟩,31,31⟩,rfl,b,y,rfl,rfl⟩
theorem c305{V:Mem}{s:KB}:PP 305 [.string s] V (.bool false):=by
 refine x305 ?_;simp
theorem c278{V:Mem}{s:KB}:PP 278 [.string s] V (.bool false):=by
 refine x278 ?_;simp
def ltB(s t:KB):Bool:=xG s.toList t.toList
theorem c277{V:Mem}{s t:KB}:PP 277 [.string s,.string t] V (.bool (ltB s t)):=by
 refine x277 ?_;refine c305.call ⟨_,rfl,λh=>?_,λ_=>⟨rfl,rfl⟩⟩;cases h
theorem bl_trans:∀{a b c:List UInt8},xG a b=true->xG b c=true->xG a c=true
 |_,[],_,h,_=>by simp[xG]at h
 |_,_::_,[],_,k=>by simp[xG]at k
 |[],_::_,_::_,_,_=>rfl
 |a::x,b::y,c::z,h,k=>by
  simp only[xG,Bool.or_eq_true,decide_eq_true_eq,zC,beq_iff_eq]at h k⊢;rcases h with h|⟨rfl,h⟩;·grind
  ·rcases k with k|⟨rfl,k⟩;·exact .inl k
   ·exact .inr ⟨rfl,bl_trans h k⟩
theorem qJu{a b c:KB}(h:ltB a b=true)(k:ltB b c=true):ltB a c=true:=bl_trans h k
theorem bl_irrefl:∀l:List UInt8,xG l l=false
 |[]=>rfl
 |a::l=>by
  have h1:¬(a<a):=by simp_all
  simp[xG,bl_irrefl l,h1]
theorem ltB_irrefl(a:KB):ltB a a=false:=bl_irrefl _
def qLq:List KB->Bool
 |a::b::l=>ltB a b&&qLq (b::l)
 |_=>true
theorem qFa:∀{l:List KB},qLq l=true->∀(i j:Nat)(x y:KB),i<j->l[i]?=some x->l[j]?=some y->ltB x y=true
 |[],_,i,j,x,y,_,k,_=>by simp at k
 |[a],_,i,j,x,y,u,k,g=>by
  grind
 |a::b::l,h,i,j,x,y,u,k,g=>by
  simp only[qLq,zC]at h;cases j with
  |zero=>omega
  |succ j=>
   rw[xQ]at g;cases i with
   |succ i=>rw[xQ]at k;exact qFa h.2 i j x y (by omega) k g
   |zero=>
    simp only[List.getElem?_cons_zero,Option.some.injEq]at k;subst k;cases j with
    |zero=>simp_all
    |succ j=>exact qJu h.1 (qFa h.2 0 (j+1) b y (by omega) rfl g)
theorem GenK.shr1{V:Mem}{vals:Operand->Value}{t ty:TypeId}{n:Int}(hv:vals (.tmp 19)=.int .u64 n)(h:vals (.const (.int .u64 1))=.int .u64 1){q:Value->Mem->Prop}(k:q (.int .u64 (n/2)) V):
  GenK xE (.binOp .shr t (.tmp 19) (.const (.int .u64 1)) t) ty vals V q:=by
 intro w hw;refine⟨_,w,V,?_,Frm.refl hw,k⟩;have e:Op.shift .shr .u64 n .u64 1=pure (.int .u64 (n/2)):=by
  unfold Op.shift;rw[if_neg (by decide)];show pure (Value.int .u64 (n.fdiv (2^1)))=_;grind
 simp_all[execOp,eqGuard,binOp_shr]
theorem qLR{xs:List KB}{s:KB}:hasS xs s=true↔s∈xs:=by
 grind[hasS]
def kwIx(s:KB):Bool:=hasS qCv s
theorem kwIx_eq(s:KB):kwIx s=isKw s:=by
 have h1:(qCv.all λx=>qKV.any λy=>decide (y=x))=true:=by kernel_rfl
 have h2:(qKV.all λx=>qCv.any λy=>decide (y=x))=true:=by kernel_rfl
 unfold kwIx isKw;rw[Bool.eq_iff_iff,qLR,qLR];grind
theorem c246{V:Mem}{l:Sl}{xs:List KB}{s:KB}(h:qAc V l 1 (xs.map λx=>[vS x]))(a:qLq xs=true)(Z:xs.length<=1000):
  Tri xE 246 #[l.v,.string s] V λe V'=>∃n:Int,e=.returned (.tuple #[.int .i64 n,.bool (hasS xs s)])/\V'=V:=by
 refine x246 ?_;have Q:=h.n_eq;have L:=h.cap;have X:=h.fit;refine⟨λn ys V1=>∃i j:Nat,ys=[.int .i64 i,.int .i64 j]/\V1=V/\i<=j/\j<=xs.length/\n=j-i/\(∀(k:Nat) x,k<i->xs[k]?=some x->ltB x s=true)/\(∀(k:Nat) x,j<=k->xs[k]?=some x->ltB x s=false),xs.length,
  ⟨0,xs.length,by rw[Q];rfl,rfl,by omega,by omega,by omega,λk x p=>by omega,λk x p c=>by simp_all⟩,?_⟩
 rintro n V1 B C ⟨i,j,m,rfl,P,O,rfl,d,H⟩ J Y;simp only[List.cons.injEq,Value.int.injEq,true_and,and_true]at m;obtain⟨rfl,rfl⟩:=m;refine⟨λu=>?_,λA=>?_⟩
 ·refine⟨⟨by omega,by omega⟩,⟨by show(0:Int)<=_;omega,by show _<=(18446744073709551615:Int);omega⟩,?_⟩;refine GenK.shr1 (n:=(i:Int)+j) rfl rfl ⟨_,rfl,⟨by omega,by omega⟩,?_⟩;have hm:((i:Int)+j)/2=((i+j)/2:Nat):=by omega
  rw[hm];obtain⟨x,r,c,I,M,b,h0,g⟩:=h.get (i:=(i+j)/2) (by omega);refine⟨b,h0,by omega,x,g,c277.call ⟨_,rfl,λq=>⟨⟨by omega,by omega⟩,?_⟩,λq=>?_⟩⟩
  ·refine Y (j-((i+j)/2+1)) _ _ (by omega) ⟨(i+j)/2+1,j,rfl,rfl,by omega,O,rfl,λk y p m=>?_,H⟩;rcases Nat.lt_or_ge k ((i+j)/2)with w|w;·exact qJu (qFa a k _ y x w m c) q
   grind
  ·refine Y ((i+j)/2-i) _ _ (by omega) ⟨i,(i+j)/2,rfl,rfl,by omega,by omega,rfl,d,λk y p m=>?_⟩;cases F:ltB y s with
   |false=>rfl
   |true=>
    rcases Nat.lt_or_ge ((i+j)/2) k with w|w;·exact absurd (qJu (qFa a _ k x y w c m) F) q
    grind
 ·have o:i=j:=by omega
  subst o;have key:s∈xs->xs[i]?=some s:=λhm=>by
   obtain⟨k,p,e⟩:=yd.1 hm;have G:xs[k]?=some s:=by simp_all
   rcases Nat.lt_trichotomy k i with w|w|w;·grind[ltB_irrefl]
   ·grind
   ·have N:i<xs.length:=by omega
    have h2:=qFa a i k xs[i] s w (yu N) G;grind
  refine⟨λu=>?_,λW=>?_⟩
  ·obtain⟨x,r,c,I,M,b,h0,g⟩:=h.get (i:=i) u;refine⟨b,h0,u,x,g,λe=>?_,λe=>⟨b,h0,u,x,g,c278.call ⟨_,rfl,λq=>?_,λ_=>?_⟩⟩⟩
   ·subst e;exact⟨i,by rw[qLR.2 r],rfl⟩
   ·cases q
   ·refine⟨i,?_,rfl⟩;grind[hasS,absurd]
  ·refine⟨i,?_,rfl⟩;grind[hasS]
theorem c201{V:Mem}{s:KB}(k:Tab V):PP 201 [.string s] V (.bool (isKw s)):=by
 refine Pur.mk ?_;refine x201 ?_;refine Tri.mono (c247 k) ?_;rintro _ V' ⟨b,g,rfl,rfl⟩;refine⟨⟨some ⟨b,0,none⟩,31,31⟩,rfl,?_⟩;have h:qAc (V.set b (.cells ((qCv.map xI).toArray) 9 (0,0))) ⟨some ⟨b,0,none⟩,31,31⟩ 1 (qCv.map λx=>[vS x]):=
  qAc.cells (xs:=qCv) (row:=λx=>[vS x]) mss (by simp;rfl) (λ_=>rfl) qIg.symm (xJ rfl)
 refine Tri.mono (c246 h (by kernel_rfl) (by rw[qIg];decide)) ?_;rintro _ V2 ⟨n,rfl,rfl⟩;exact⟨n,_,rfl,by rw[<-kwIx_eq];rfl,Zn g _⟩
end Go.Proofs
