/- Part 8 of a proof of a law of this seat: no statement of the seat is proved here. -/
import Derived.Test.YtmeagdecjpknkaaGreatDoorPp04
import Derived.Test.YtmeagdecjpknkaaGreatDoorPp05
import Derived.Test.YtmeagdecjpknkaaGreatDoorPp06
import Derived.Test.YtmeagdecjpknkaaGreatDoorPp07
import Derived.Shelf.Strings.Fields
import Derived.Test.YtmeagdecjpknkaaGreatDoorProg
import Derived.Sort.Walk0
import Derived.RangeFuncRecord
set_option linter.unusedVariables false
set_option linter.unusedSimpArgs false
namespace Go.Proofs
open Go Go.Sx
set_option maxRecDepth 100000
set_option linter.unusedVariables false
section
variable{V:Mem}{R:RP}
def w263(a b:ByteArray)(c d g:Int)(i:ByteArray)(j:Sl)(k l o:Option Addr):MR:=fun V R=>∃p,K.f.ok p/\V.rowp k ((0:Int).toNat*1) 1=some [p]/\∃q,K.f.ok q/\V.rowp k ((0:Int).toNat*1) 1=some [q]/\∃r,V.rowp l ((0:Int).toNat*1) 1=some [uL r]/\∃s,V.rowp o ((0:Int).toNat*1) 1=some [uI s]/\Ix r s (∃u y z A B C D,V.rowp r.p (s.toNat*7) 7=some [uS u,uS y,uI z,uI A,uI B,uS C,uL D]/\∃f first caps,K.cast .f p=.func (.func f) first caps/\CO f/\TT f (first++#[uA #[uS a,uS b,uI c,uI d,uI g,uS i,uL j]]++caps) V fun e V1=>∃F,e=rV (uS F)/\V1.rowp (qAa r.p (s.toNat*7)) 0 7=some [uS u,uS y,uI z,uI A,uI B,uS C,uL D]/\Ix r s (V1.rowp o 0 1=some [uI s]/\V1.rowp l 0 1=some [uL r]/\V1.rowp k 0 1=some [K.cast .f q]/\∃f first caps,K.cast .f q=.func (.func f) first caps/\CO f/\TT f (first++#[uA #[uS u,uS y,uI z,uI A,uI B,uS C,uL D]]++caps) V1 fun e V2=>∃G,e=rV (uS G)/\R (rV (uB (decide (F=G)))) V2))
theorem x263{a b:ByteArray}{c d g:Int}{i:ByteArray}{j:Sl}{k l o:Option Addr}(h:w263 a b c d g i j k l o V R):TT 263 #[uA #[uS a,uS b,uI c,uI d,uI g,uS i,uL j],uP k,uP l,uP o] V R:=trx Tryz.func263 h
def w264(a:Sl)(b:Value):MR:=fun V R=>TI 295 #[uL a,K.cast .f b] V fun c V1=>R (rV (uB (decide (0<=c)))) V1
theorem x264{a:Sl}{b:Value}(h:w264 a b V R):TT 264 #[uL a,K.cast .f b] V R:=qBq Tryz.func264 [] [] false [uL a,b] (by kernel_rfl) (by kernel_rfl) h
def w265(a b:ByteArray)(c d:Int)(g:ByteArray)(i:Sl)(j k l:Option Addr):MR:=fun V R=>∃o,K.f.ok o/\V.rowp j ((0:Int).toNat*1) 1=some [o]/\∃p,K.f.ok p/\V.rowp j ((0:Int).toNat*1) 1=some [p]/\∃q,V.rowp k ((0:Int).toNat*1) 1=some [uL q]/\∃r,V.rowp l ((0:Int).toNat*1) 1=some [uI r]/\Ix q r (∃s u y z A B,V.rowp q.p (r.toNat*6) 6=some [uS s,uS u,uI y,uI z,uS A,uL B]/\∃f first caps,K.cast .f o=.func (.func f) first caps/\CO f/\TT f (first++#[uA #[uS a,uS b,uI c,uI d,uS g,uL i]]++caps) V fun e V1=>∃C,e=rV (uS C)/\V1.rowp (qAa q.p (r.toNat*6)) 0 6=some [uS s,uS u,uI y,uI z,uS A,uL B]/\Ix q r (V1.rowp l 0 1=some [uI r]/\V1.rowp k 0 1=some [uL q]/\V1.rowp j 0 1=some [K.cast .f p]/\∃f first caps,K.cast .f p=.func (.func f) first caps/\CO f/\TT f (first++#[uA #[uS s,uS u,uI y,uI z,uS A,uL B]]++caps) V1 fun e V2=>∃D,e=rV (uS D)/\R (rV (uB (decide (C=D)))) V2))
theorem x265{a b:ByteArray}{c d:Int}{g:ByteArray}{i:Sl}{j k l:Option Addr}(h:w265 a b c d g i j k l V R):TT 265 #[uA #[uS a,uS b,uI c,uI d,uS g,uL i],uP j,uP k,uP l] V R:=trx Tryz.func265 h
def w266(a:ByteArray)(b c:Int)(d:ByteArray)(g:Sl)(i j k:Option Addr):MR:=fun V R=>∃l,K.f.ok l/\V.rowp i ((0:Int).toNat*1) 1=some [l]/\∃o,K.f.ok o/\V.rowp i ((0:Int).toNat*1) 1=some [o]/\∃p,V.rowp j ((0:Int).toNat*1) 1=some [uL p]/\∃q,V.rowp k ((0:Int).toNat*1) 1=some [uI q]/\Ix p q (∃r s u y z,V.rowp p.p (q.toNat*5) 5=some [uS r,uI s,uI u,uS y,uL z]/\∃f first caps,K.cast .f l=.func (.func f) first caps/\CO f/\TT f (first++#[uA #[uS a,uI b,uI c,uS d,uL g]]++caps) V fun e V1=>∃A,e=rV (uS A)/\V1.rowp (qAa p.p (q.toNat*5)) 0 5=some [uS r,uI s,uI u,uS y,uL z]/\Ix p q (V1.rowp k 0 1=some [uI q]/\V1.rowp j 0 1=some [uL p]/\V1.rowp i 0 1=some [K.cast .f o]/\∃f first caps,K.cast .f o=.func (.func f) first caps/\CO f/\TT f (first++#[uA #[uS r,uI s,uI u,uS y,uL z]]++caps) V1 fun e V2=>∃B,e=rV (uS B)/\R (rV (uB (decide (A=B)))) V2))
theorem x266{a:ByteArray}{b c:Int}{d:ByteArray}{g:Sl}{i j k:Option Addr}(h:w266 a b c d g i j k V R):TT 266 #[uA #[uS a,uI b,uI c,uS d,uL g],uP i,uP j,uP k] V R:=trx Tryz.func266 h
def w268(a:Option Addr)(b:Option Nat)(c:Bool)(d:Int)(g:ByteArray)(i j k:Sl)(l:ByteArray):MR:=fun V R=>Br (d=6) (¬i.p=none/\(0:Int)<=(0:Int)/\0<(i.n:Int)/\∃o p q r,V.rowp i.p ((0:Int).toNat*4) 4=some [uI o,uI p,uS q,uL r]/\TT 297 #[uA #[uP a,uM b,uB c],uA #[uI o,uI p,uS q,uL r]] V fun e V1=>∃s u,e=rT #[uS s,uI u]/\R (rV (uI u)) V1) (Lp [uI 0,.slice none 0 0,uI 0] V fun I n V1=>∀o p q,I n [uI o,uL p,uI q] V1->∀J0:LMP,Nx I n J0->Br (q<(i.n:Int)) (Ix i q (∃r s u y,V1.rowp i.p (q.toNat*4) 4=some [uI r,uI s,uS u,uL y]/\TT 269 #[uA #[uP a,uM b,uB c],uA #[uI r,uI s,uS u,uL y]] V1 fun e V2=>∃z A,e=rT #[uS z,uI A]/\Br (A=0) (qAs [uS z] 9 V2 fun B V3=>GenK Tryz.prog (.call { callee:=(.builtin .append),args:=#[(.tmp 48),(.tmp 50)],argTypes:=#[220,220] }) 220 (gv [(48,uL p),(50,.slice (qAa B 0) 1 1)]) V3 fun x V4=>∃C,x=uL C/\IR (q+1)/\J0 [uI o,uL C,uI (q+1)] V4) (R (rV (uI A)) V2))) (Br (d=1) (qBz Tryz.prog 312 (uM b) (uS g) true V1 fun x=>∃r s,x=.tuple #[uS r,uB s]/\Br (s=true) (¬p.p=none/\(0:Int)<=(0:Int)/\0<(p.n:Int)/\∃u,V1.rowp p.p ((0:Int).toNat*1) 1=some [uS u]/\TB 298 #[uP a,uS u,uS r] V1 fun y V2=>Br (y=true) (R (rV (uI 0)) V2) (R (rV (uI 11)) V2)) (R (rV (uI 9)) V1)) (Br (d=2) (¬p.p=none/\(0:Int)<=(0:Int)/\0<(p.n:Int)/\∃r,V1.rowp p.p ((0:Int).toNat*1) 1=some [uS r]/\TT 299 #[uP a,uS r,uS g] V1 fun e V2=>∃s u,e=rT #[uS s,uI u]/\Br (u=0) (¬p.p=none/\(0:Int)<=(1:Int)/\1<(p.n:Int)/\∃y,V2.rowp p.p 1 1=some [uS y]/\TB 298 #[uP a,uS y,uS s] V2 fun z V3=>Br (z=true) (R (rV (uI 0)) V3) (R (rV (uI 11)) V3)) (R (rV (uI u)) V2)) (Br (d=3) (¬p.p=none/\(0:Int)<=(0:Int)/\0<(p.n:Int)/\∃r,V1.rowp p.p ((0:Int).toNat*1) 1=some [uS r]/\Br (r=(qAm [98,111,111,108])) (R (rV (uI 0)) V1) (R (rV (uI 11)) V1)) (Br (d=4) (¬p.p=none/\(0:Int)<=(0:Int)/\0<(p.n:Int)/\∃r,V1.rowp p.p ((0:Int).toNat*1) 1=some [uS r]/\Br (r=(qAm [98,111,111,108])) (R (rV (uI 0)) V1) (R (rV (uI 11)) V1)) (Br (d=5) (Br ((p.n:Int)=0) (Br (l=(qAm [])) (R (rV (uI 0)) V1) (R (rV (uI 11)) V1)) (Br (l=(qAm [])) (R (rV (uI 11)) V1) (¬p.p=none/\(0:Int)<=(0:Int)/\0<(p.n:Int)/\∃r,V1.rowp p.p ((0:Int).toNat*1) 1=some [uS r]/\TB 298 #[uP a,uS r,uS l] V1 fun s V2=>Br (s=true) (R (rV (uI 0)) V2) (R (rV (uI 11)) V2)))) (R (rV (uI 0)) V1)))))))
theorem x268{a:Option Addr}{b:Option Nat}{c:Bool}{d:Int}{g:ByteArray}{i j k:Sl}{l:ByteArray}(h:w268 a b c d g i j k l V R):TT 268 #[uA #[uP a,uM b,uB c],uA #[uI d,uS g,uL i,uL j,uL k],uS l] V R:=trx Tryz.func268 h
def w269(a:Option Addr)(b:Option Nat)(c:Bool)(d g:Int)(i:ByteArray)(j:Sl):MR:=fun V R=>Br (d=7) (TT 297 #[uA #[uP a,uM b,uB c],uA #[uI d,uI g,uS i,uL j]] V fun e V1=>∃k l,e=rT #[uS k,uI l]/\Br (l=0) (Br (k=(qAm [])) (R (rT #[uS (qAm []),uI 11]) V1) (R (rT #[uS k,uI l]) V1)) (R (rT #[uS k,uI l]) V1)) (Lp [uS (qAm []),uI 0,.slice none 0 0,uI 0] V fun I n V1=>∀k l o p,I n [uS k,uI l,uL o,uI p] V1->∀J0:LMP,Nx I n J0->Br (p<(j.n:Int)) (Ix j p (∃q r s u,V1.rowp j.p (p.toNat*4) 4=some [uI q,uI r,uS s,uL u]/\TT 269 #[uA #[uP a,uM b,uB c],uA #[uI q,uI r,uS s,uL u]] V1 fun e V2=>∃y z,e=rT #[uS y,uI z]/\Br (z=0) (qAs [uS y] 9 V2 fun A V3=>GenK Tryz.prog (.call { callee:=(.builtin .append),args:=#[(.tmp 46),(.tmp 48)],argTypes:=#[220,220] }) 220 (gv [(46,uL o),(48,.slice (qAa A 0) 1 1)]) V3 fun x V4=>∃B,x=uL B/\IR (p+1)/\J0 [uS k,uI l,uL B,uI (p+1)] V4) (R (rT #[uS (qAm []),uI z]) V2))) (TT 300 #[uA #[uP a,uM b,uB c],uA #[uI d,uI g,uS i,uL j],uL o] V1 fun e V2=>∃q r,e=rT #[uS q,uI r]/\R (rT #[uS q,uI r]) V2))
theorem x269{a:Option Addr}{b:Option Nat}{c:Bool}{d g:Int}{i:ByteArray}{j:Sl}(h:w269 a b c d g i j V R):TT 269 #[uA #[uP a,uM b,uB c],uA #[uI d,uI g,uS i,uL j]] V R:=trx Tryz.func269 h
def w270(a:Option Addr)(b:ByteArray):MR:=fun V R=>¬a=none/\¬a=none/\¬(qAa a 0)=none/\∃c,V.rowp a 1 1=some [uL c]/\qAs [uS b] 9 V fun d V1=>TI 173 #[uL c,.func (.func 301) #[] #[uP (qAa d 0)]] V1 fun g V2=>R (rV (uI g)) V2
theorem x270{a:Option Addr}{b:ByteArray}(h:w270 a b V R):TT 270 #[uP a,uS b] V R:=trx Tryz.func270 h
def w271(a:Option Addr)(b:Int):MR:=fun V R=>Br (1099511627776<b) (TT 162 #[uP a,uI 5] V fun e V1=>(e=rT #[]/\R (rV (uI b)) V1)∨∃ch,e=.panicked ch/\R e V1) (Br (b<(-1099511627776)) (TT 162 #[uP a,uI 5] V fun e V1=>(e=rT #[]/\R (rV (uI b)) V1)∨∃ch,e=.panicked ch/\R e V1) (R (rV (uI b)) V))
theorem x271{a:Option Addr}{b:Int}(h:w271 a b V R):TT 271 #[uP a,uI b] V R:=trx Tryz.func271 h
def w272(a:Int):MR:=fun V R=>TI 303 #[.int .u64 a] V fun b V1=>R (rV (uI b)) V1
theorem x272{a:Int}(h:w272 a V R):TT 272 #[.int .u64 a] V R:=trx Tryz.func272 h
def w273(a b:Option Addr)(c d:Int)(g:ByteArray)(i:Sl):MR:=fun V R=>Br (c=4) (¬b=none/\¬b=none/\∃j,V.rowp b ((0:Int).toNat*1) 1=some [uL j]/\TI 242 #[uL j,uS g] V fun k V1=>Br (0<=k) (¬b=none/\¬b=none/\∃l,V1.rowp b ((0:Int).toNat*1) 1=some [uL l]/\Ix l k (¬(qAa l.p (k.toNat*2))=none/\∃o p,V1.rowp l.p (k.toNat*2) 2=some [uS o,uS p]/\R (rV (uS p)) V1)) (¬a=none/\¬a=none/\¬(qAa a 0)=none/\∃l,V1.rowp a 2 1=some [uL l]/\¬a=none/\¬a=none/\¬(qAa a 0)=none/\∃o,V1.rowp a 2 1=some [uL o]/\TI 242 #[uL o,uS g] V1 fun p V2=>V2.rowp (qAa a 2) 0 1=some [uL l]/\¬(qAa a 0)=none/\¬a=none/\¬a=none/\Ix l p (¬(qAa l.p (p.toNat*2))=none/\∃q r,V2.rowp l.p (p.toNat*2) 2=some [uS q,uS r]/\R (rV (uS r)) V2))) (Br (c=5) (¬a=none/\¬a=none/\¬(qAa a 0)=none/\∃j,V.rowp a 1 1=some [uL j]/\¬i.p=none/\(0:Int)<=(0:Int)/\0<(i.n:Int)/\∃k l o p,V.rowp i.p ((0:Int).toNat*4) 4=some [uI k,uI l,uS o,uL p]/\TS 273 #[uP a,uP b,uA #[uI k,uI l,uS o,uL p]] V fun q V1=>V1.rowp (qAa a 1) 0 1=some [uL j]/\¬(qAa a 0)=none/\¬a=none/\¬a=none/\TI 270 #[uP a,uS q] V1 fun r V2=>V2.rowp (qAa a 1) 0 1=some [uL j]/\¬(qAa a 0)=none/\¬a=none/\¬a=none/\Ix j r (∃s u,V2.rowp j.p (r.toNat*2) 2=some [uS s,uL u]/\TI 242 #[uL u,uS g] V2 fun y V3=>Ix u y (¬(qAa u.p (y.toNat*2))=none/\∃z A,V3.rowp u.p (y.toNat*2) 2=some [uS z,uS A]/\R (rV (uS A)) V3))) (Br (c=6) (R (rV (uS g)) V) (Br (c=7) (¬a=none/\¬a=none/\¬(qAa a 0)=none/\∃j,V.rowp a 3 1=some [uL j]/\¬a=none/\¬a=none/\∃k l o p q r s u,V.rowp a ((0:Int).toNat*1) 8=some [uS k,uL l,uL o,uL p,uL q,uL r,uL s,uL u]/\TI 160 #[uD k l o p q r s u,uS g] V fun y V1=>V1.rowp (qAa a 3) 0 1=some [uL j]/\¬(qAa a 0)=none/\¬a=none/\¬a=none/\Ix j y (¬(qAa j.p (y.toNat*5))=none/\∃z A B C D,V1.rowp j.p (y.toNat*5) 5=some [uS z,uL A,uS B,uL C,uL D]/\R (rV (uS B)) V1)) (Br (c=21) (¬i.p=none/\(0:Int)<=(1:Int)/\1<(i.n:Int)/\∃j k l o,V.rowp i.p (1*4) 4=some [uI j,uI k,uS l,uL o]/\TS 273 #[uP a,uP b,uA #[uI j,uI k,uS l,uL o]] V fun p V1=>Br (p=(qAm [110,105,108])) (¬i.p=none/\(0:Int)<=(2:Int)/\2<(i.n:Int)/\∃q r s u,V1.rowp i.p (2*4) 4=some [uI q,uI r,uS s,uL u]/\TS 273 #[uP a,uP b,uA #[uI q,uI r,uS s,uL u]] V1 fun y V2=>R (rV (uS y)) V2) (R (rV (uS p)) V1)) (Br (c=3) (R (rV (uS (qAm [110,105,108]))) V) (Br (c=2) (R (rV (uS (qAm [98,111,111,108]))) V) (Br (c=18) (R (rV (uS (qAm [98,111,111,108]))) V) (Br (c=19) (R (rV (uS (qAm [98,111,111,108]))) V) (Br (c=20) (R (rV (uS (qAm [98,111,111,108]))) V) (Br (c=14) (R (rV (uS (qAm [98,111,111,108]))) V) (Br (c=15) (R (rV (uS (qAm [98,111,111,108]))) V) (Br (c=16) (R (rV (uS (qAm [98,111,111,108]))) V) (Br (c=17) (R (rV (uS (qAm [98,111,111,108]))) V) (R (rV (uS (qAm [105,110,116]))) V))))))))))))))
theorem x273{a b:Option Addr}{c d:Int}{g:ByteArray}{i:Sl}(h:w273 a b c d g i V R):TT 273 #[uP a,uP b,uA #[uI c,uI d,uS g,uL i]] V R:=trx Tryz.func273 h
def w274(a:Bool):MR:=fun V R=>Br (a=true) (R (rV (uI 1)) V) (R (rV (uI 0)) V)
theorem x274{a:Bool}(h:w274 a V R):TT 274 #[uB a] V R:=trx Tryz.func274 h
abbrev w275_0(d:Int)(a:Option Addr)(V:Mem)(b:Int)(R:RP)(c:Int):Prop:=Br (d=0) (TT 162 #[uP a,uI 18] V fun e V1=>(e=rT #[]/\Br (b=12) (¬d=0/\R (rV (uI (IntKind.wrap .i64 ((c).tdiv d)))) V1) (¬d=0/\R (rV (uI ((c).tmod d))) V1))∨∃ch,e=.panicked ch/\R e V1) (Br (b=12) (¬d=0/\R (rV (uI (IntKind.wrap .i64 ((c).tdiv d)))) V) (¬d=0/\R (rV (uI ((c).tmod d))) V))
def w275(a:Option Addr)(b c d:Int):MR:=fun V R=>Br (b=9) (IR (c+d)/\TT 271 #[uP a,uI (c+d)] V fun e V1=>(∃g,e=rV (uI g)/\R (rV (uI g)) V1)∨∃ch,e=.panicked ch/\R e V1) (Br (b=10) (IR (c-d)/\TT 271 #[uP a,uI (c-d)] V fun e V1=>(∃g,e=rV (uI g)/\R (rV (uI g)) V1)∨∃ch,e=.panicked ch/\R e V1) (Br (b=11) (Br (c=0) (IR (c*d)/\R (rV (uI (c*d))) V) (TI 304 #[uI d] V fun g V1=>TI 304 #[uI c] V1 fun i V2=>¬i=0/\Br ((IntKind.wrap .i64 (((1099511627776:Int)).tdiv i))<g) (TT 162 #[uP a,uI 5] V2 fun e V3=>(e=rT #[]/\IR (c*d)/\R (rV (uI (c*d))) V3)∨∃ch,e=.panicked ch/\R e V3) (IR (c*d)/\R (rV (uI (c*d))) V2))) (Br (b=12) (w275_0 d a V b R c) (Br (b=13) (w275_0 d a V b R c) (Br (b=22) (GenK Tryz.prog (.call { callee:=(.builtin .max),args:=#[(.tmp 58),(.tmp 59)],argTypes:=#[3,3] }) 3 (gv [(58,uI c),(59,uI d)]) V fun x V1=>∃g,x=uI g/\R (rV (uI g)) V1) (GenK Tryz.prog (.call { callee:=(.builtin .min),args:=#[(.tmp 61),(.tmp 62)],argTypes:=#[3,3] }) 3 (gv [(61,uI c),(62,uI d)]) V fun x V1=>∃g,x=uI g/\R (rV (uI g)) V1))))))
theorem x275{a:Option Addr}{b c d:Int}(h:w275 a b c d V R):TT 275 #[uP a,uI b,uI c,uI d] V R:=trx Tryz.func275 h
def w276(a b:ByteArray)(c:Option Addr):MR:=fun V R=>∃d,V.rowp c ((0:Int).toNat*1) 1=some [uS d]/\R (rV (uB (decide (a=d)))) V
theorem x276{a b:ByteArray}{c:Option Addr}(h:w276 a b c V R):TT 276 #[uA #[uS a,uS b],uP c] V R:=trx Tryz.func276 h
def w277(a b:ByteArray):MR:=fun V R=>TB 305 #[uS a] V fun c V1=>Br (c=true) (TB 305 #[uS b] V1 fun d V2=>Br (d=true) (R (rV (uB (Op.bytesLess (a).toList (b).toList))) V2) (R (rV (uB true)) V2)) (R (rV (uB (Op.bytesLess (a).toList (b).toList))) V1)
theorem x277{a b:ByteArray}(h:w277 a b V R):TT 277 #[uS a,uS b] V R:=trx Tryz.func277 h
def w278(a:ByteArray):MR:=fun V R=>R (rV (uB (!(decide (a=a))))) V
theorem x278{a:ByteArray}(h:w278 a V R):TT 278 #[uS a] V R:=trx Tryz.func278 h
def w280(a:Int):MR:=fun V R=>Br (a=1) (R (rT #[uI 0,uB true]) V) (Br (a=2) (R (rT #[uI 0,uB true]) V) (Br (a=3) (R (rT #[uI 0,uB true]) V) (Br (a=4) (R (rT #[uI 0,uB true]) V) (Br (a=6) (R (rT #[uI 0,uB true]) V) (Br (a=7) (R (rT #[uI (-1),uB true]) V) (Br (a=5) (R (rT #[uI 1,uB true]) V) (Br (a=8) (R (rT #[uI 1,uB true]) V) (Br (a=18) (R (rT #[uI 1,uB true]) V) (Br (a=24) (R (rT #[uI 1,uB true]) V) (Br (a=21) (R (rT #[uI 3,uB true]) V) (Br (9<=a) (R (rT #[uI 2,uB (decide (a<=23))]) V) (R (rT #[uI 2,uB false]) V))))))))))))
theorem x280{a:Int}(h:w280 a V R):TT 280 #[uI a] V R:=trx Tryz.func280 h
def w281(a b:Int)(c:ByteArray)(d:Sl):MR:=fun V R=>Br (a=1) (Br (0<=b) (Br (b<=1099511627776) (R (rV (uB (decide (c=(qAm []))))) V) (R (rV (uB false)) V)) (R (rV (uB false)) V)) (Br (a=2) (Br (b=0) (R (rV (uB (decide (c=(qAm []))))) V) (Br (b=1) (R (rV (uB (decide (c=(qAm []))))) V) (R (rV (uB false)) V))) (Br (a=4) (Br (b=0) (TB 165 #[uS c] V fun g V1=>Br (g=true) (R (rV (uB true)) V1) (R (rV (uB (decide (c=(qAm [116,104,105,115]))))) V1)) (R (rV (uB false)) V)) (Br (a=6) (Br (b=0) (TB 165 #[uS c] V fun g V1=>R (rV (uB g)) V1) (R (rV (uB false)) V)) (Br (a=5) (Br (b=0) (TB 165 #[uS c] V fun g V1=>R (rV (uB g)) V1) (R (rV (uB false)) V)) (Br (a=7) (Br (b=0) (TB 165 #[uS c] V fun g V1=>R (rV (uB g)) V1) (R (rV (uB false)) V)) (Br (b=0) (R (rV (uB (decide (c=(qAm []))))) V) (R (rV (uB false)) V)))))))
theorem x281{a b:Int}{c:ByteArray}{d:Sl}(h:w281 a b c d V R):TT 281 #[uA #[uI a,uI b,uS c,uL d]] V R:=trx Tryz.func281 h
def w282(a b:Int)(c:ByteArray)(d:Sl)(g i:Option Addr):MR:=fun V R=>∃j,V.rowp g ((0:Int).toNat*1) 1=some [uI j]/\IR (j+1)/\∃k,V.rowp i ((0:Int).toNat*1) 1=some [uP k]/\TB 248 #[uA #[uI a,uI b,uS c,uL d],uI (j+1),uP k] V fun l V1=>R (rV (uB (!l))) V1
theorem x282{a b:Int}{c:ByteArray}{d:Sl}{g i:Option Addr}(h:w282 a b c d g i V R):TT 282 #[uA #[uI a,uI b,uS c,uL d],uP g,uP i] V R:=trx Tryz.func282 h
def w283(a:Sl)(b:Value):MR:=fun V R=>Lp [uI 0,uI 0] V fun I n V1=>∀c d,I n [uI c,uI d] V1->∀J0:LMP,Nx I n J0->Br (d<(a.n:Int)) (Ix a d (∃g i j k,V1.rowp a.p (d.toNat*4) 4=some [uI g,uI i,uS j,uL k]/\∃f first caps,K.cast .f b=.func (.func f) first caps/\CO f/\TT f (first++#[uA #[uI g,uI i,uS j,uL k]]++caps) V1 fun e V2=>∃l,e=rV (uB l)/\Br (l=true) (R (rV (uI d)) V2) (IR (d+1)/\J0 [uI c,uI (d+1)] V2))) (R (rV (uI (-1))) V1)
theorem x283{a:Sl}{b:Value}(h:w283 a b V R):TT 283 #[uL a,K.cast .f b] V R:=qBq Tryz.func283 [] [] false [uL a,b] (by kernel_rfl) (by kernel_rfl) h
def w294(a:Sl)(b:Value):MR:=fun V R=>Lp [uI 0,uI 0] V fun I n V1=>∀c d,I n [uI c,uI d] V1->∀J0:LMP,Nx I n J0->Br (d<(a.n:Int)) (Ix a d (∃g i j k l o p,V1.rowp a.p (d.toNat*7) 7=some [uS g,uS i,uI j,uI k,uI l,uS o,uL p]/\∃f first caps,K.cast .f b=.func (.func f) first caps/\CO f/\TT f (first++#[uA #[uS g,uS i,uI j,uI k,uI l,uS o,uL p]]++caps) V1 fun e V2=>∃q,e=rV (uB q)/\Br (q=true) (R (rV (uI d)) V2) (IR (d+1)/\J0 [uI c,uI (d+1)] V2))) (R (rV (uI (-1))) V1)
theorem x294{a:Sl}{b:Value}(h:w294 a b V R):TT 294 #[uL a,K.cast .f b] V R:=qBq Tryz.func294 [] [] false [uL a,b] (by kernel_rfl) (by kernel_rfl) h
def w295(a:Sl)(b:Value):MR:=fun V R=>Lp [uI 0,uI 0] V fun I n V1=>∀c d,I n [uI c,uI d] V1->∀J0:LMP,Nx I n J0->Br (d<(a.n:Int)) (Ix a d (∃g i j k l o,V1.rowp a.p (d.toNat*6) 6=some [uS g,uS i,uI j,uI k,uS l,uL o]/\∃f first caps,K.cast .f b=.func (.func f) first caps/\CO f/\TT f (first++#[uA #[uS g,uS i,uI j,uI k,uS l,uL o]]++caps) V1 fun e V2=>∃p,e=rV (uB p)/\Br (p=true) (R (rV (uI d)) V2) (IR (d+1)/\J0 [uI c,uI (d+1)] V2))) (R (rV (uI (-1))) V1)
theorem x295{a:Sl}{b:Value}(h:w295 a b V R):TT 295 #[uL a,K.cast .f b] V R:=qBq Tryz.func295 [] [] false [uL a,b] (by kernel_rfl) (by kernel_rfl) h
def w296(a:Sl):MR:=fun V R=>qAs [uL a] 23 V fun b V1=>R (rV (.func (.func 311) #[] #[uP (qAa b 0)])) V1
theorem x296{a:Sl}(h:w296 a V R):TT 296 #[uL a] V R:=trx Tryz.func296 h
def w297(a:Option Addr)(b:Option Nat)(c:Bool)(d g:Int)(i:ByteArray)(j:Sl):MR:=fun V R=>Lp [uS (qAm []),uI 0,.slice none 0 0,uI 0] V fun I n V1=>∀k l o p,I n [uS k,uI l,uL o,uI p] V1->∀J0:LMP,Nx I n J0->Br (p<(j.n:Int)) (Ix j p (∃q r s u,V1.rowp j.p (p.toNat*4) 4=some [uI q,uI r,uS s,uL u]/\TT 269 #[uA #[uP a,uM b,uB c],uA #[uI q,uI r,uS s,uL u]] V1 fun e V2=>∃y z,e=rT #[uS y,uI z]/\Br (z=0) (qAs [uS y] 9 V2 fun A V3=>GenK Tryz.prog (.call { callee:=(.builtin .append),args:=#[(.tmp 31),(.tmp 33)],argTypes:=#[220,220] }) 220 (gv [(31,uL o),(33,.slice (qAa A 0) 1 1)]) V3 fun x V4=>∃B,x=uL B/\IR (p+1)/\J0 [uS k,uI l,uL B,uI (p+1)] V4) (R (rT #[uS (qAm []),uI z]) V2))) (Br (c=true) (¬a=none/\¬a=none/\∃q,V1.rowp a 9 1=some [uM q]/\qBz Tryz.prog 270 (uM q) (uS i) true V1 fun x=>∃r s u y z A,x=.tuple #[uA #[uS r,uL s,uS u,uL y,uL z],uB A]/\Br (A=true) (Br ((o.n:Int)=(s.n:Int)) (Lp [uS k,uI l,uI 0] V1 fun I n V2=>∀B C D,I n [uS B,uI C,uI D] V2->∀J1:LMP,Nx I n J1->Br (D<(o.n:Int)) (Ix o D (∃F,V2.rowp o.p (D.toNat*1) 1=some [uS F]/\Ix s D (¬(qAa s.p (D.toNat*2))=none/\∃G H,V2.rowp s.p (D.toNat*2) 2=some [uS G,uS H]/\TB 298 #[uP a,uS F,uS H] V2 fun L V3=>Br (L=true) (IR (D+1)/\J1 [uS B,uI C,uI (D+1)] V3) (R (rT #[uS (qAm []),uI 11]) V3)))) (R (rT #[uS u,uI 0]) V2)) (R (rT #[uS (qAm []),uI 3]) V1)) (R (rT #[uS (qAm []),uI 9]) V1)) (TT 312 #[uA #[uP a,uM b,uB c],uS i,uL o] V1 fun e V2=>∃q r,e=rT #[uS q,uI r]/\R (rT #[uS q,uI r]) V2))
theorem x297{a:Option Addr}{b:Option Nat}{c:Bool}{d g:Int}{i:ByteArray}{j:Sl}(h:w297 a b c d g i j V R):TT 297 #[uA #[uP a,uM b,uB c],uA #[uI d,uI g,uS i,uL j]] V R:=trx Tryz.func297 h
def w298(a:Option Addr)(b c:ByteArray):MR:=fun V R=>Br (b=c) (R (rV (uB true)) V) (Br (b=(qAm [110,105,108])) (TB 230 #[uP a,uS c] V fun d V1=>R (rV (uB d)) V1) (R (rV (uB false)) V))
theorem x298{a:Option Addr}{b c:ByteArray}(h:w298 a b c V R):TT 298 #[uP a,uS b,uS c] V R:=trx Tryz.func298 h
def w299(a:Option Addr)(b c:ByteArray):MR:=fun V R=>¬a=none/\¬a=none/\∃d,V.rowp a 8 1=some [uM d]/\qBz Tryz.prog 269 (uM d) (uS b) true V fun x=>∃g i j,x=.tuple #[uA #[uS g,uL i],uB j]/\Br (j=true) (Lp [uS (qAm []),uI 0,uI 0] V fun I n V1=>∀k l o,I n [uS k,uI l,uI o] V1->∀J0:LMP,Nx I n J0->Br (o<(i.n:Int)) (Ix i o (∃p q,V1.rowp i.p (o.toNat*2) 2=some [uS p,uS q]/\Br (p=c) (R (rT #[uS q,uI 0]) V1) (IR (o+1)/\J0 [uS k,uI l,uI (o+1)] V1))) (R (rT #[uS (qAm []),uI 9]) V1)) (R (rT #[uS (qAm []),uI 11]) V)
theorem x299{a:Option Addr}{b c:ByteArray}(h:w299 a b c V R):TT 299 #[uP a,uS b,uS c] V R:=trx Tryz.func299 h
abbrev w300_0(k:Sl)(V:Mem)(a:Option Addr)(R:RP):Prop:=¬k.p=none/\(0:Int)<=(0:Int)/\0<(k.n:Int)/\∃l,V.rowp k.p ((0:Int).toNat*1) 1=some [uS l]/\¬k.p=none/\(0:Int)<=(1:Int)/\1<(k.n:Int)/\∃o,V.rowp k.p 1 1=some [uS o]/\TB 298 #[uP a,uS l,uS o] V fun p V1=>Br (p=true) (R (rT #[uS (qAm [98,111,111,108]),uI 0]) V1) (¬k.p=none/\(0:Int)<=(1:Int)/\1<(k.n:Int)/\∃q,V1.rowp k.p 1 1=some [uS q]/\¬k.p=none/\(0:Int)<=(0:Int)/\0<(k.n:Int)/\∃r,V1.rowp k.p ((0:Int).toNat*1) 1=some [uS r]/\TB 298 #[uP a,uS q,uS r] V1 fun s V2=>Br (s=true) (R (rT #[uS (qAm [98,111,111,108]),uI 0]) V2) (R (rT #[uS (qAm []),uI 11]) V2))
def w300(a:Option Addr)(b:Option Nat)(c:Bool)(d g:Int)(i:ByteArray)(j k:Sl):MR:=fun V R=>Br (d=1) (R (rT #[uS (qAm [105,110,116]),uI 0]) V) (Br (d=2) (R (rT #[uS (qAm [98,111,111,108]),uI 0]) V) (Br (d=3) (R (rT #[uS (qAm [110,105,108]),uI 0]) V) (Br (d=4) (qBz Tryz.prog 312 (uM b) (uS i) true V fun x=>∃l o,x=.tuple #[uS l,uB o]/\Br (o=true) (R (rT #[uS l,uI 0]) V) (R (rT #[uS (qAm []),uI 9]) V)) (Br (d=5) (¬k.p=none/\(0:Int)<=(0:Int)/\0<(k.n:Int)/\∃l,V.rowp k.p ((0:Int).toNat*1) 1=some [uS l]/\TT 299 #[uP a,uS l,uS i] V fun e V1=>∃o p,e=rT #[uS o,uI p]/\R (rT #[uS o,uI p]) V1) (Br (d=6) (Br (c=true) (TB 230 #[uP a,uS i] V fun l V1=>Br (l=true) (R (rT #[uS i,uI 0]) V1) (R (rT #[uS (qAm []),uI 9]) V1)) (R (rT #[uS (qAm []),uI 13]) V)) (Br (d=14) (w300_0 k V a R) (Br (d=15) (w300_0 k V a R) (Br (d=16) (qAs [uL k] 220 V fun l V1=>TT 313 #[uS (qAm [105,110,116]),uS (qAm [98,111,111,108]),uP (qAa l 0)] V1 fun e V2=>∃o p,e=rT #[uS o,uI p]/\R (rT #[uS o,uI p]) V2) (Br (d=17) (qAs [uL k] 220 V fun l V1=>TT 313 #[uS (qAm [105,110,116]),uS (qAm [98,111,111,108]),uP (qAa l 0)] V1 fun e V2=>∃o p,e=rT #[uS o,uI p]/\R (rT #[uS o,uI p]) V2) (Br (d=18) (qAs [uL k] 220 V fun l V1=>TT 313 #[uS (qAm [98,111,111,108]),uS (qAm [98,111,111,108]),uP (qAa l 0)] V1 fun e V2=>∃o p,e=rT #[uS o,uI p]/\R (rT #[uS o,uI p]) V2) (Br (d=19) (qAs [uL k] 220 V fun l V1=>TT 313 #[uS (qAm [98,111,111,108]),uS (qAm [98,111,111,108]),uP (qAa l 0)] V1 fun e V2=>∃o p,e=rT #[uS o,uI p]/\R (rT #[uS o,uI p]) V2) (Br (d=20) (qAs [uL k] 220 V fun l V1=>TT 313 #[uS (qAm [98,111,111,108]),uS (qAm [98,111,111,108]),uP (qAa l 0)] V1 fun e V2=>∃o p,e=rT #[uS o,uI p]/\R (rT #[uS o,uI p]) V2) (Br (d=21) (¬k.p=none/\(0:Int)<=(0:Int)/\0<(k.n:Int)/\∃l,V.rowp k.p ((0:Int).toNat*1) 1=some [uS l]/\Br (l=(qAm [98,111,111,108])) (¬k.p=none/\(0:Int)<=(1:Int)/\1<(k.n:Int)/\∃o,V.rowp k.p 1 1=some [uS o]/\¬k.p=none/\(0:Int)<=(2:Int)/\2<(k.n:Int)/\∃p,V.rowp k.p 2 1=some [uS p]/\TB 298 #[uP a,uS o,uS p] V fun q V1=>Br (q=true) (¬k.p=none/\(0:Int)<=(2:Int)/\2<(k.n:Int)/\∃r,V1.rowp k.p 2 1=some [uS r]/\R (rT #[uS r,uI 0]) V1) (¬k.p=none/\(0:Int)<=(2:Int)/\2<(k.n:Int)/\∃r,V1.rowp k.p 2 1=some [uS r]/\¬k.p=none/\(0:Int)<=(1:Int)/\1<(k.n:Int)/\∃s,V1.rowp k.p 1 1=some [uS s]/\TB 298 #[uP a,uS r,uS s] V1 fun u V2=>Br (u=true) (¬k.p=none/\(0:Int)<=(1:Int)/\1<(k.n:Int)/\∃y,V2.rowp k.p 1 1=some [uS y]/\R (rT #[uS y,uI 0]) V2) (R (rT #[uS (qAm []),uI 11]) V2))) (R (rT #[uS (qAm []),uI 11]) V)) (qAs [uL k] 220 V fun l V1=>TT 313 #[uS (qAm [105,110,116]),uS (qAm [105,110,116]),uP (qAa l 0)] V1 fun e V2=>∃o p,e=rT #[uS o,uI p]/\R (rT #[uS o,uI p]) V2))))))))))))))
theorem x300{a:Option Addr}{b:Option Nat}{c:Bool}{d g:Int}{i:ByteArray}{j k:Sl}(h:w300 a b c d g i j k V R):TT 300 #[uA #[uP a,uM b,uB c],uA #[uI d,uI g,uS i,uL j],uL k] V R:=trx Tryz.func300 h
def w301(a:ByteArray)(b:Sl)(c:Option Addr):MR:=fun V R=>∃d,V.rowp c ((0:Int).toNat*1) 1=some [uS d]/\R (rV (uB (decide (a=d)))) V
theorem x301{a:ByteArray}{b:Sl}{c:Option Addr}(h:w301 a b c V R):TT 301 #[uA #[uS a,uL b],uP c] V R:=trx Tryz.func301 h
abbrev qAY  : ByteArray :=
 qAm [0,1,2,2,3,3,3,3,4,4,4,4,4,4,4,4,5,5,5,5,5,5,5,5,5,5,5,5,5,5,5,5,6,6,6,6,6,6,6,6,6,6,6,6,6,6,6,6,6,6,6,6,6,6,6,6,6,6,6,6,6,6,6,6,7,7,7,7,7,7,7,7,7,7,7,7,7,7,7,7,7,7,7,7,7,7,7,7,7,7,7,7,7,7,7,7,7,7,7,7,7,7,7,7,7,7,7,7,7,7,7,7,7,7,7,7,7,7,7,7,7,7,7,7,7,7,7,7,8,8,8,8,8,8,8,8,8,8,8,8,8,8,8,8,8,8,8,8,8,8,8,8,8,8,8,8,8,8,8,8,8,8,8,8,8,8,8,8,8,8,8,8,8,8,8,8,8,8,8,8,8,8,8,8,8,8,8,8,8,8,8,8,8,8,8,8,8,8,8,8,8,8,8,8,8,8,8,8,8,8,8,8,8,8,8,8,8,8,8,8,8,8,8,8,8,8,8,8,8,8,8,8,8,8,8,8,8,8,8,8,8,8,8,8,8,8,8,8,8,8,8,8,8,8,8,8]
def w303(a:Int):MR:=fun V R=>Br (4294967296<=a) (GenK Tryz.prog (.binOp .shr 364 (.tmp 5) (.const (.int .u64 32)) 342) 364 (gv [(5,.int .u64 a)]) V fun x V1=>∃b,x=.int .u64 b/\Br (65536<=b) (GenK Tryz.prog (.binOp .shr 364 (.tmp 9) (.const (.int .u64 16)) 342) 364 (gv [(9,.int .u64 b)]) V1 fun x V2=>∃c,x=.int .u64 c/\IR ((32:Int)+(16:Int))/\Br (256<=c) (GenK Tryz.prog (.binOp .shr 364 (.tmp 15) (.const (.int .u64 8)) 342) 364 (gv [(15,.int .u64 c)]) V2 fun x V3=>∃d,x=.int .u64 d/\IR (((32:Int)+(16:Int))+8)/\K.inR .u8 d/\(0<=d/\d<((qAY).size:Int))/\IR (qBd (qAY) d)/\IR ((((32:Int)+(16:Int))+8)+(qBd (qAY) d))/\R (rV (uI ((((32:Int)+(16:Int))+8)+(qBd (qAY) d)))) V3) (K.inR .u8 c/\(0<=c/\c<((qAY).size:Int))/\IR (qBd (qAY) c)/\IR (((32:Int)+(16:Int))+(qBd (qAY) c))/\R (rV (uI (((32:Int)+(16:Int))+(qBd (qAY) c)))) V2)) (Br (256<=b) (GenK Tryz.prog (.binOp .shr 364 (.tmp 15) (.const (.int .u64 8)) 342) 364 (gv [(15,.int .u64 b)]) V1 fun x V2=>∃c,x=.int .u64 c/\IR ((32:Int)+(8:Int))/\K.inR .u8 c/\(0<=c/\c<((qAY).size:Int))/\IR (qBd (qAY) c)/\IR (((32:Int)+(8:Int))+(qBd (qAY) c))/\R (rV (uI (((32:Int)+(8:Int))+(qBd (qAY) c)))) V2) (K.inR .u8 b/\(0<=b/\b<((qAY).size:Int))/\IR (qBd (qAY) b)/\IR (32+(qBd (qAY) b))/\R (rV (uI (32+(qBd (qAY) b)))) V1))) (Br (65536<=a) (GenK Tryz.prog (.binOp .shr 364 (.tmp 9) (.const (.int .u64 16)) 342) 364 (gv [(9,.int .u64 a)]) V fun x V1=>∃b,x=.int .u64 b/\IR ((0:Int)+(16:Int))/\Br (256<=b) (GenK Tryz.prog (.binOp .shr 364 (.tmp 15) (.const (.int .u64 8)) 342) 364 (gv [(15,.int .u64 b)]) V1 fun x V2=>∃c,x=.int .u64 c/\IR (((0:Int)+(16:Int))+8)/\K.inR .u8 c/\(0<=c/\c<((qAY).size:Int))/\IR (qBd (qAY) c)/\IR ((((0:Int)+(16:Int))+8)+(qBd (qAY) c))/\R (rV (uI ((((0:Int)+(16:Int))+8)+(qBd (qAY) c)))) V2) (K.inR .u8 b/\(0<=b/\b<((qAY).size:Int))/\IR (qBd (qAY) b)/\IR (((0:Int)+(16:Int))+(qBd (qAY) b))/\R (rV (uI (((0:Int)+(16:Int))+(qBd (qAY) b)))) V1)) (Br (256<=a) (GenK Tryz.prog (.binOp .shr 364 (.tmp 15) (.const (.int .u64 8)) 342) 364 (gv [(15,.int .u64 a)]) V fun x V1=>∃b,x=.int .u64 b/\IR ((0:Int)+(8:Int))/\K.inR .u8 b/\(0<=b/\b<((qAY).size:Int))/\IR (qBd (qAY) b)/\IR (((0:Int)+(8:Int))+(qBd (qAY) b))/\R (rV (uI (((0:Int)+(8:Int))+(qBd (qAY) b)))) V1) (K.inR .u8 a/\(0<=a/\a<((qAY).size:Int))/\IR (qBd (qAY) a)/\IR (0+(qBd (qAY) a))/\R (rV (uI (0+(qBd (qAY) a)))) V)))
theorem x303{a:Int}(h:w303 a V R):TT 303 #[.int .u64 a] V R:=trx Tryz.func303 h
def w304(a:Int):MR:=fun V R=>IR (0-a)/\GenK Tryz.prog (.call { callee:=(.builtin .max),args:=#[(.tmp 3),(.tmp 5)],argTypes:=#[3,3] }) 3 (gv [(3,uI a),(5,uI (0-a))]) V fun x V1=>∃b,x=uI b/\R (rV (uI b)) V1
theorem x304{a:Int}(h:w304 a V R):TT 304 #[uI a] V R:=trx Tryz.func304 h
def w305(a:ByteArray):MR:=fun V R=>R (rV (uB (!(decide (a=a))))) V
theorem x305{a:ByteArray}(h:w305 a V R):TT 305 #[uS a] V R:=trx Tryz.func305 h
def w312(a:Option Addr)(b:Option Nat)(c:Bool)(d:ByteArray)(g:Sl):MR:=fun V R=>¬a=none/\¬a=none/\¬(qAa a 0)=none/\∃i,V.rowp a 4 1=some [uL i]/\qAs [uS d] 9 V fun j V1=>TI 294 #[uL i,.func (.func 317) #[] #[uP (qAa j 0)]] V1 fun k V2=>Br (k<0) (R (rT #[uS (qAm []),uI 9]) V2) (Br ((g.n:Int)=1) (¬g.p=none/\(0:Int)<=(0:Int)/\0<(g.n:Int)/\∃l,V2.rowp g.p ((0:Int).toNat*1) 1=some [uS l]/\¬a=none/\¬a=none/\¬(qAa a 0)=none/\∃o,V2.rowp a 4 1=some [uL o]/\Ix o k (¬(qAa o.p (k.toNat*7))=none/\∃p q r s u y z,V2.rowp o.p (k.toNat*7) 7=some [uS p,uS q,uI r,uI s,uI u,uS y,uL z]/\TB 298 #[uP a,uS l,uS q] V2 fun A V3=>Br (A=true) (R (rT #[uS (qAm [105,110,116]),uI 0]) V3) (R (rT #[uS (qAm []),uI 11]) V3))) (R (rT #[uS (qAm []),uI 3]) V2))
theorem x312{a:Option Addr}{b:Option Nat}{c:Bool}{d:ByteArray}{g:Sl}(h:w312 a b c d g V R):TT 312 #[uA #[uP a,uM b,uB c],uS d,uL g] V R:=trx Tryz.func312 h
def w313(a b:ByteArray)(c:Option Addr):MR:=fun V R=>∃d,V.rowp c ((0:Int).toNat*1) 1=some [uL d]/\qAs [uS a] 9 V fun g V1=>TB 314 #[uL d,.func (.func 315) #[] #[uP (qAa g 0)]] V1 fun i V2=>Br (i=true) (R (rT #[uS (qAm []),uI 11]) V2) (R (rT #[uS b,uI 0]) V2)
theorem x313{a b:ByteArray}{c:Option Addr}(h:w313 a b c V R):TT 313 #[uS a,uS b,uP c] V R:=trx Tryz.func313 h
def w314(a:Sl)(b:Value):MR:=fun V R=>TI 318 #[uL a,K.cast .f b] V fun c V1=>R (rV (uB (decide (0<=c)))) V1
theorem x314{a:Sl}{b:Value}(h:w314 a b V R):TT 314 #[uL a,K.cast .f b] V R:=qBq Tryz.func314 [] [] false [uL a,b] (by kernel_rfl) (by kernel_rfl) h
def w315(a:ByteArray)(b:Option Addr):MR:=fun V R=>∃c,V.rowp b ((0:Int).toNat*1) 1=some [uS c]/\R (rV (uB (!(decide (a=c))))) V
theorem x315{a:ByteArray}{b:Option Addr}(h:w315 a b V R):TT 315 #[uS a,uP b] V R:=trx Tryz.func315 h
def w317(a b:ByteArray)(c d g:Int)(i:ByteArray)(j:Sl)(k:Option Addr):MR:=fun V R=>∃l,V.rowp k ((0:Int).toNat*1) 1=some [uS l]/\R (rV (uB (decide (a=l)))) V
theorem x317{a b:ByteArray}{c d g:Int}{i:ByteArray}{j:Sl}{k:Option Addr}(h:w317 a b c d g i j k V R):TT 317 #[uA #[uS a,uS b,uI c,uI d,uI g,uS i,uL j],uP k] V R:=trx Tryz.func317 h
def w318(a:Sl)(b:Value):MR:=fun V R=>Lp [uI 0,uI 0] V fun I n V1=>∀c d,I n [uI c,uI d] V1->∀J0:LMP,Nx I n J0->Br (d<(a.n:Int)) (Ix a d (∃g,V1.rowp a.p (d.toNat*1) 1=some [uS g]/\∃f first caps,K.cast .f b=.func (.func f) first caps/\CO f/\TT f (first++#[uS g]++caps) V1 fun e V2=>∃i,e=rV (uB i)/\Br (i=true) (R (rV (uI d)) V2) (IR (d+1)/\J0 [uI c,uI (d+1)] V2))) (R (rV (uI (-1))) V1)
theorem x318{a:Sl}{b:Value}(h:w318 a b V R):TT 318 #[uL a,K.cast .f b] V R:=qBq Tryz.func318 [] [] false [uL a,b] (by kernel_rfl) (by kernel_rfl) h
def w28(a:ByteArray)(b c d g i j k l:Sl)(o p q r:Int):MR:=fun V R=>TT 65 #[uD a b c d g i j k] V fun e V1=>∃s u y,e=rT #[uA #[uL s,uL u],uI y]/\Br (y=0) (TI 51 #[uD a b c d g i j k,uA #[uL s,uL u],uI p,uI q,uI r] V1 fun z V2=>Br (z=0) (Br (o<0) (R (rT #[.slice none 0 0,uA #[.slice none 0 0,.slice none 0 0],uI 2]) V2) (Br (4<o) (R (rT #[.slice none 0 0,uA #[.slice none 0 0,.slice none 0 0],uI 2]) V2) (Br (2000<(l.n:Int)) (R (rT #[.slice none 0 0,uA #[.slice none 0 0,.slice none 0 0],uI 4]) V2) (TT 53 #[uI q] V2 fun e V3=>∃A B,e=rT #[uP A,uI B]/\Lp [uL s,uL u,uP A,uI B,.slice none 0 0,uI 0,.slice none 0 0,.slice none 0 0,uI 0] V3 fun I n V4=>∀C D F G H L M N O,I n [uL C,uL D,uP F,uI G,uL H,uI L,uL M,uL N,uI O] V4->∀J0:LMP,Nx I n J0->Br (O<(l.n:Int)) (Ix l O (∃P Q,V4.rowp l.p (O.toNat*2) 2=some [uS P,uL Q]/\Br (0<o) (TT 53 #[uI q] V4 fun e V5=>∃U W,e=rT #[uP U,uI W]/\Br (W=0) (TT 52 #[uD a b c d g i j k,uA #[uL C,uL D],uL N,uI p,uA #[uS P,uL Q],uI r] V5 fun e V6=>∃X Y Z a0 a1 a2 a3 a4 a5 a6,e=rT #[uA #[uI X,uI Y,uI Z,uI a0,uI a1,uL a2,uL a3,uL a4,uL a5],uI a6]/\Br (a6=0) (TI 54 #[uP U,uL a5] V6 fun a7 V7=>qAs [uI X,uI Y,uI Z,uI a0,uI a7] 54 V7 fun a8 V8=>GenK Tryz.prog (.call { callee:=(.builtin .append),args:=#[(.tmp 100),(.tmp 103)],argTypes:=#[73,73] }) 73 (gv [(100,uL M),(103,.slice (qAa a8 0) 1 1)]) V8 fun x V9=>∃a9,x=uL a9/\Br (0<o) (TL 45 #[uD a b c d g i j k,uA #[uL a2,uL a3],uI o,uI p] V9 fun b0 V10=>IR (O+1)/\J0 [uL a2,uL a3,uP U,uI W,uL H,uI L,uL a9,uL b0,uI (O+1)] V10) (IR (O+1)/\J0 [uL a2,uL a3,uP U,uI W,uL H,uI L,uL a9,uL a4,uI (O+1)] V9)) (R (rT #[.slice none 0 0,uA #[.slice none 0 0,.slice none 0 0],uI a6]) V6)) (R (rT #[.slice none 0 0,uA #[.slice none 0 0,.slice none 0 0],uI W]) V5)) (Br (G=0) (TT 52 #[uD a b c d g i j k,uA #[uL C,uL D],uL N,uI p,uA #[uS P,uL Q],uI r] V4 fun e V5=>∃U W X Y Z a0 a1 a2 a3 a4,e=rT #[uA #[uI U,uI W,uI X,uI Y,uI Z,uL a0,uL a1,uL a2,uL a3],uI a4]/\Br (a4=0) (TI 54 #[uP F,uL a3] V5 fun a5 V6=>qAs [uI U,uI W,uI X,uI Y,uI a5] 54 V6 fun a6 V7=>GenK Tryz.prog (.call { callee:=(.builtin .append),args:=#[(.tmp 100),(.tmp 103)],argTypes:=#[73,73] }) 73 (gv [(100,uL M),(103,.slice (qAa a6 0) 1 1)]) V7 fun x V8=>∃a7,x=uL a7/\Br (0<o) (TL 45 #[uD a b c d g i j k,uA #[uL a0,uL a1],uI o,uI p] V8 fun a8 V9=>IR (O+1)/\J0 [uL a0,uL a1,uP F,uI G,uL H,uI L,uL a7,uL a8,uI (O+1)] V9) (IR (O+1)/\J0 [uL a0,uL a1,uP F,uI G,uL H,uI L,uL a7,uL a2,uI (O+1)] V8)) (R (rT #[.slice none 0 0,uA #[.slice none 0 0,.slice none 0 0],uI a4]) V5)) (R (rT #[.slice none 0 0,uA #[.slice none 0 0,.slice none 0 0],uI G]) V4)))) (R (rT #[uL M,uA #[uL C,uL D],uI 0]) V4))))) (R (rT #[.slice none 0 0,uA #[.slice none 0 0,.slice none 0 0],uI z]) V2)) (R (rT #[.slice none 0 0,uA #[.slice none 0 0,.slice none 0 0],uI y]) V1)
theorem x28{a:ByteArray}{b c d g i j k l:Sl}{o p q r:Int}(h:w28 a b c d g i j k l o p q r V R):TT 28 #[uD a b c d g i j k,uL l,uI o,uI p,uI q,uI r] V R:=qFY Tryz.func28 [] [(15,[15])] false (by kernel_rfl) (by kernel_rfl) h
def w33(a:ByteArray)(b c d g i j k l o p:Sl)(q:Int):MR:=fun V R=>TI 71 #[uD a b c d g i j k,uA #[uL l,uL o],uI q] V fun r V1=>Br (r=0) (Br (2000<(p.n:Int)) (R (rT #[.slice none 0 0,uA #[.slice none 0 0,.slice none 0 0],uI 4]) V1) (TT 72 #[uA #[uL l,uL o]] V1 fun e V2=>∃s u,e=rV (uA #[uL s,uL u])/\Lp [uL s,uL u,.slice none 0 0,uI 0,.slice none 0 0,uI 0] V2 fun I n V3=>∀y z A B C D,I n [uL y,uL z,uL A,uI B,uL C,uI D] V3->∀J0:LMP,Nx I n J0->Br (D<(p.n:Int)) (Ix p D (∃F G,V3.rowp p.p (D.toNat*2) 2=some [uS F,uL G]/\TT 73 #[uD a b c d g i j k,uA #[uL y,uL z],uA #[uS F,uL G],uI q] V3 fun e V4=>∃H L M N O P Q,e=rT #[uP H,uA #[uI L,uI M,uI N,uI O,uI P],uI Q]/\Br (Q=0) (qAs [uI L,uI M,uI N,uI O,uI P] 54 V4 fun U V5=>GenK Tryz.prog (.call { callee:=(.builtin .append),args:=#[(.tmp 51),(.tmp 53)],argTypes:=#[73,73] }) 73 (gv [(51,uL C),(53,.slice (qAa U 0) 1 1)]) V5 fun x V6=>∃W,x=uL W/\¬H=none/\¬H=none/\∃X Y,V6.rowp H 8 2=some [uL X,uL Y]/\IR (D+1)/\J0 [uL X,uL Y,uL A,uI B,uL W,uI (D+1)] V6) (R (rT #[.slice none 0 0,uA #[.slice none 0 0,.slice none 0 0],uI Q]) V4))) (R (rT #[uL C,uA #[uL y,uL z],uI 0]) V3))) (R (rT #[.slice none 0 0,uA #[.slice none 0 0,.slice none 0 0],uI r]) V1)
theorem x33{a:ByteArray}{b c d g i j k l o p:Sl}{q:Int}(h:w33 a b c d g i j k l o p q V R):TT 33 #[uD a b c d g i j k,uA #[uL l,uL o],uL p,uI q] V R:=qFY Tryz.func33 [] [(9,[5])] false (by kernel_rfl) (by kernel_rfl) h
def w52(a:ByteArray)(b c d g i j k l o p:Sl)(q:Int)(r:ByteArray)(s:Sl)(u:Int):MR:=fun V R=>TT 24 #[uD a b c d g i j k,uA #[uL l,uL o],uA #[uS r,uL s],uI u] V fun e V1=>∃y z A B C D F G,e=rT #[uA #[uI y,uI z,uI A,uI B,uI C],uA #[uL D,uL F],uI G]/\Br (G=0) (TT 36 #[uD a b c d g i j k,uA #[uL l,uL o],uA #[uS r,uL s],uI u] V1 fun e V2=>∃H L,e=rT #[uL H,uI L]/\Br (L=0) (TL 42 #[uL p] V2 fun M V3=>Lp [uI y,uI z,uI A,uI B,uI C,uL D,uL F,uL M,.slice none 0 0,uI 0] V3 fun I n V4=>∀N O P Q U W X Y Z a0,I n [uI N,uI O,uI P,uI Q,uI U,uL W,uL X,uL Y,uL Z,uI a0] V4->∀J0:LMP,Nx I n J0->Br (a0<(H.n:Int)) (Ix H a0 (∃a1 a2 a3,V4.rowp H.p (a0.toNat*3) 3=some [uI a1,uI a2,uI a3]/\Br (a1=3) (TI 41 #[uL Y,uI q] V4 fun a4 V5=>qAs [uI a4] 3 V5 fun a5 V6=>GenK Tryz.prog (.call { callee:=(.builtin .append),args:=#[(.tmp 61),(.tmp 66)],argTypes:=#[31,31] }) 31 (gv [(61,uL Y),(66,.slice (qAa a5 0) 1 1)]) V6 fun x V7=>∃a6,x=uL a6/\Br (0<a2) (IR (a2-1)/\Ix a6 (a2-1) (∃a7,V7.rowp a6.p ((a2-1).toNat*1) 1=some [uI a7]/\qAs [uI a7] 3 V7 fun a8 V8=>GenK Tryz.prog (.call { callee:=(.builtin .append),args:=#[(.tmp 73),(.tmp 81)],argTypes:=#[31,31] }) 31 (gv [(73,uL Z),(81,.slice (qAa a8 0) 1 1)]) V8 fun x V9=>∃a9,x=uL a9/\IR (a0+1)/\J0 [uI N,uI O,uI P,uI Q,uI U,uL W,uL X,uL a6,uL a9,uI (a0+1)] V9)) (IR (a0+1)/\J0 [uI N,uI O,uI P,uI Q,uI U,uL W,uL X,uL a6,uL Z,uI (a0+1)] V7)) (Br (0<a2) (IR (a2-1)/\Ix Y (a2-1) (∃a4,V4.rowp Y.p ((a2-1).toNat*1) 1=some [uI a4]/\qAs [uI a4] 3 V4 fun a5 V5=>GenK Tryz.prog (.call { callee:=(.builtin .append),args:=#[(.tmp 73),(.tmp 81)],argTypes:=#[31,31] }) 31 (gv [(73,uL Z),(81,.slice (qAa a5 0) 1 1)]) V5 fun x V6=>∃a6,x=uL a6/\IR (a0+1)/\J0 [uI N,uI O,uI P,uI Q,uI U,uL W,uL X,uL Y,uL a6,uI (a0+1)] V6)) (IR (a0+1)/\J0 [uI N,uI O,uI P,uI Q,uI U,uL W,uL X,uL Y,uL Z,uI (a0+1)] V4)))) (R (rT #[uA #[uI N,uI O,uI P,uI Q,uI U,uL W,uL X,uL Y,uL Z],uI 0]) V4)) (R (rT #[uA #[uI 0,uI 0,uI 0,uI 0,uI 0,.slice none 0 0,.slice none 0 0,.slice none 0 0,.slice none 0 0],uI L]) V2)) (R (rT #[uA #[uI 0,uI 0,uI 0,uI 0,uI 0,.slice none 0 0,.slice none 0 0,.slice none 0 0,.slice none 0 0],uI G]) V1)
theorem x52{a:ByteArray}{b c d g i j k l o p:Sl}{q:Int}{r:ByteArray}{s:Sl}{u:Int}(h:w52 a b c d g i j k l o p q r s u V R):TT 52 #[uD a b c d g i j k,uA #[uL l,uL o],uL p,uI q,uA #[uS r,uL s],uI u] V R:=qFY Tryz.func52 [] [(9,[18])] false (by kernel_rfl) (by kernel_rfl) h
def w72(a b:Sl):MR:=fun V R=>TL 42 #[uL a] V fun c V1=>Lp [uL c,.slice none 0 0,uI 0] V1 fun I n V2=>∀d g i,I n [uL d,uL g,uI i] V2->∀J0:LMP,Nx I n J0->Br (i<(b.n:Int)) (Ix b i (∃j k,V2.rowp b.p (i.toNat*2) 2=some [uI j,uL k]/\TL 42 #[uL k] V2 fun l V3=>qAs [uI j,uL l] 92 V3 fun o V4=>GenK Tryz.prog (.call { callee:=(.builtin .append),args:=#[(.tmp 18),(.tmp 25)],argTypes:=#[32,32] }) 32 (gv [(18,uL g),(25,.slice (qAa o 0) 1 1)]) V4 fun x V5=>∃p,x=uL p/\IR (i+1)/\J0 [uL d,uL p,uI (i+1)] V5)) (R (rV (uA #[uL d,uL g])) V2)
theorem x72{a b:Sl}(h:w72 a b V R):TT 72 #[uA #[uL a,uL b]] V R:=qFY Tryz.func72 [] [(3,[3])] false (by kernel_rfl) (by kernel_rfl) h
def w96(a:ByteArray)(b c d g i j k l o:Sl):MR:=fun V R=>TT 87 #[uD a b c d g i j k,uA #[uL l,uL o]] V fun e V1=>∃p q,e=rV (uA #[uL p,uI q])/\TL 142 #[uL c,uL l,uL p] V1 fun r V2=>Lp [uL r,.slice none 0 0,uI 0] V2 fun I n V3=>∀s u y,I n [uL s,uL u,uI y] V3->∀J0:LMP,Nx I n J0->Br (y<(p.n:Int)) (Ix p y (∃z,V3.rowp p.p (y.toNat*1) 1=some [uI z]/\IR (z-1)/\Ix o (z-1) (∃A B,V3.rowp o.p ((z-1).toNat*2) 2=some [uI A,uL B]/\Ix b A (¬(qAa b.p (A.toNat*2))=none/\∃C D,V3.rowp b.p (A.toNat*2) 2=some [uS C,uL D]/\TL 142 #[uL D,uL B,uL p] V3 fun F V4=>qAs [uI A,uL F] 92 V4 fun G V5=>GenK Tryz.prog (.call { callee:=(.builtin .append),args:=#[(.tmp 36),(.tmp 51)],argTypes:=#[32,32] }) 32 (gv [(36,uL u),(51,.slice (qAa G 0) 1 1)]) V5 fun x V6=>∃H,x=uL H/\IR (y+1)/\J0 [uL s,uL H,uI (y+1)] V6)))) (R (rV (uA #[uL s,uL u])) V3)
theorem x96{a:ByteArray}{b c d g i j k l o:Sl}(h:w96 a b c d g i j k l o V R):TT 96 #[uD a b c d g i j k,uA #[uL l,uL o]] V R:=qFY Tryz.func96 [] [(4,[6])] false (by kernel_rfl) (by kernel_rfl) h
def w135(a:ByteArray)(b c d g i j k l o p:Sl)(q:Int)(r s:Sl):MR:=fun V R=>Lp [uL p,uI q,uI 0] V fun I n V1=>∀u y z,I n [uL u,uI y,uI z] V1->∀J0:LMP,Nx I n J0->Br (z<(r.n:Int)) (Ix s z (∃A,V1.rowp s.p (z.toNat*1) 1=some [uI A]/\Ix r z (¬(qAa r.p (z.toNat*2))=none/\∃B C,V1.rowp r.p (z.toNat*2) 2=some [uS B,uS C]/\Br (C=(qAm [105,110,116])) (IR (z+1)/\J0 [uL u,uI y,uI (z+1)] V1) (Ix r z (¬(qAa r.p (z.toNat*2))=none/\∃D F,V1.rowp r.p (z.toNat*2) 2=some [uS D,uS F]/\Br (F=(qAm [98,111,111,108])) (IR (z+1)/\J0 [uL u,uI y,uI (z+1)] V1) (Br (A=0) (IR (z+1)/\J0 [uL u,uI y,uI (z+1)] V1) (TI 177 #[uL u,uI A] V1 fun G V2=>Br (0<=G) (Br (y=0) (IR (z+1)/\J0 [uL u,uI A,uI (z+1)] V2) (IR (z+1)/\J0 [uL u,uI y,uI (z+1)] V2)) (qAs [uI A] 3 V2 fun H V3=>GenK Tryz.prog (.call { callee:=(.builtin .append),args:=#[(.tmp 52),(.tmp 54)],argTypes:=#[31,31] }) 31 (gv [(52,uL u),(54,.slice (qAa H 0) 1 1)]) V3 fun x V4=>∃L,x=uL L/\IR (A-1)/\Ix o (A-1) (¬(qAa o.p ((A-1).toNat*2))=none/\∃M N,V4.rowp o.p ((A-1).toNat*2) 2=some [uI M,uL N]/\Ix b M (¬(qAa b.p (M.toNat*2))=none/\∃O P,V4.rowp b.p (M.toNat*2) 2=some [uS O,uL P]/\IR (A-1)/\Ix o (A-1) (¬(qAa o.p ((A-1).toNat*2))=none/\∃Q U,V4.rowp o.p ((A-1).toNat*2) 2=some [uI Q,uL U]/\TT 135 #[uD a b c d g i j k,uA #[uL l,uL o],uA #[uL L,uI y],uL P,uL U] V4 fun e V5=>∃W X,e=rV (uA #[uL W,uI X])/\IR (z+1)/\J0 [uL W,uI X,uI (z+1)] V5))))))))))) (R (rV (uA #[uL u,uI y])) V1)
theorem x135{a:ByteArray}{b c d g i j k l o p:Sl}{q:Int}{r s:Sl}(h:w135 a b c d g i j k l o p q r s V R):TT 135 #[uD a b c d g i j k,uA #[uL l,uL o],uA #[uL p,uI q],uL r,uL s] V R:=qFY Tryz.func135 [] [(2,[7])] false (by kernel_rfl) (by kernel_rfl) h
def w159(a:Option Addr):MR:=fun V R=>GenK Tryz.prog (.makeFunc (.func 191) #[(.tmp 6)] #[]) 236 (gv [(6,uP a)]) V fun x V1=>∃b,K.f.ok b/\x=b/\GenK Tryz.prog (.makeFunc (.func 192) #[(.tmp 8)] #[]) 236 (gv [(8,uP a)]) V1 fun x V2=>∃c,K.f.ok c/\x=c/\GenK Tryz.prog (.makeFunc (.func 193) #[(.tmp 10)] #[]) 236 (gv [(10,uP a)]) V2 fun x V3=>∃d,K.f.ok d/\x=d/\GenK Tryz.prog (.makeFunc (.func 194) #[(.tmp 12)] #[]) 236 (gv [(12,uP a)]) V3 fun x V4=>∃g,K.f.ok g/\x=g/\GenK Tryz.prog (.makeFunc (.func 195) #[(.tmp 14)] #[]) 236 (gv [(14,uP a)]) V4 fun x V5=>∃i,K.f.ok i/\x=i/\qAs [K.cast .f b,K.cast .f c,K.cast .f d,K.cast .f g,K.cast .f i] 236 V5 fun j V6=>Lp [uP none,uI 0] V6 fun I n V7=>∀k l,I n [uP k,uI l] V7->∀J0:LMP,Nx I n J0->Br (l<5) (¬(qAa j 0)=none/\0<=l/\l<5/\∃o,K.f.ok o/\V7.rowp (qAa j 0) (l.toNat*1) 1=some [o]/\∃f first caps,K.cast .f o=.func (.func f) first caps/\CO f/\TT f (first++#[]++caps) V7 fun e V8=>∃p,e=rV (uP p)/\Br (p=none) (IR (l+1)/\J0 [uP k,uI (l+1)] V8) (R (rV (uP p)) V8)) (R (rV (uP none)) V7)
theorem x159{a:Option Addr}(h:w159 a V R):TT 159 #[uP a] V R:=qFY Tryz.func159 [16] [] false (by kernel_rfl) (by kernel_rfl) h
def w236(a:Option Addr)(b:Option Nat)(c:Bool)(d:Sl)(g:ByteArray)(i:Option Addr):MR:=fun V R=>Lp [uI 0,uI 0,uI 0] V fun I n V1=>∀j k l,I n [uI j,uI k,uI l] V1->∀J0:LMP,Nx I n J0->Br (l<(d.n:Int)) (Ix d l (∃o p q r s,V1.rowp d.p (l.toNat*5) 5=some [uI o,uS p,uL q,uL r,uL s]/\¬i=none/\∃u,V1.rowp i ((0:Int).toNat*1) 1=some [uI u]/\¬i=none/\∃y,V1.rowp i ((0:Int).toNat*1) 1=some [uI y]/\IR (y+1)/\¬i=none/\StT i 0 [uI (y+1)] V1 fun V2=>TI 268 #[uA #[uP a,uM b,uB c],uA #[uI o,uS p,uL q,uL r,uL s],uS g] V2 fun z V3=>Br (z=0) (qAs [uL r,uL s] 141 V3 fun A V4=>Lp [uI j,uI k,uI 0] V4 fun I n V5=>∀B C D,I n [uI B,uI C,uI D] V5->∀J1:LMP,Nx I n J1->Br (D<2) (¬(qAa A 0)=none/\0<=D/\D<2/\∃F,V5.rowp (qAa A 0) (D.toNat*1) 1=some [uL F]/\TT 236 #[uA #[uP a,uM b,uB c],uL F,uS g,uP i] V5 fun e V6=>∃G H,e=rT #[uI G,uI H]/\Br (H=0) (IR (D+1)/\J1 [uI B,uI C,uI (D+1)] V6) (R (rT #[uI G,uI H]) V6)) (IR (l+1)/\J0 [uI B,uI C,uI (l+1)] V5)) (R (rT #[uI u,uI z]) V3))) (R (rT #[uI 0,uI 0]) V1)
theorem x236{a:Option Addr}{b:Option Nat}{c:Bool}{d:Sl}{g:ByteArray}{i:Option Addr}(h:w236 a b c d g i V R):TT 236 #[uA #[uP a,uM b,uB c],uL d,uS g,uP i] V R:=qFY Tryz.func236 [44] [] false (by kernel_rfl) (by kernel_rfl) h
end
end Go.Proofs
namespace Go.Proofs
open Go Go.Sx
abbrev PP(f:FuncId)(args:List Value)(V:Mem)(v:Value):Prop:=Pur Tryz.prog f args V v
def qCi(c:Int):Bool:=decide (97<=c/\c<=122∨65<=c/\c<=90)
def qFG(c:Int):Bool:=decide (48<=c/\c<=57)
def qEK(c:Int):Bool:=qCi c||qFG c||decide (c=95)
theorem c101{V:Mem}{c:Int}:PP 101 [.int .u8 c] V (.bool (qCi c)):=by
 refine x101 ?_
 unfold w101 qCi
 grind
theorem c144{V:Mem}{c:Int}:PP 144 [.int .u8 c] V (.bool (qFG c)):=by
 refine x144 ?_
 unfold w144 qFG
 grind
theorem c102{V:Mem}{c:Int}:PP 102 [.int .u8 c] V (.bool (qEK c)):=by
 refine x102 ?_
 unfold w102 qEK
 refine c101.call ⟨_,rfl,fun h=>?_,fun h=>?_⟩
 ·simp[h]
 ·refine c144.call ⟨_,rfl,fun h=>?_,fun h=>?_⟩ <;> simp_all
def cls(c:Int):Int:=if c=32∨c=9∨c=13∨c=10 then 1 else if qCi c then 2 else if qFG c then 3 else if c=95 then 4 else 0
theorem c200{V:Mem}{c:Int}:PP 200 [.int .u8 c] V (.int .i64 (cls c)):=by
 refine x200 ?_
 unfold w200
 have key:∀n:Int,cls c=n->(Ending.returned (.int .i64 n)=Ending.returned (.int .i64 (cls c))/\V=V):=fun n h=>by simp_all
 unfold cls qCi qFG at key
 repeat' (first|intro _|apply And.intro)
 all_goals first|rfl | (refine(key _ ?_).1;grind)
theorem cls_two(c:Int):cls c=2↔qCi c=true:=by
 unfold cls qCi qFG;grind
theorem cls_word(c:Int):cls c<2↔qEK c=false:=by
 unfold qEK cls qCi qFG;grind
def qKk:List ByteArray:=[[116,121,112,101],[118,97,114],[112,114,111,99],[108,111,99,97,108],[109,101,97,115,117,114,101],[105,110,118,97,114,105,97,110,116],[112,111,116,101,110,116,105,97,108],[98,111,117,110,100],[105,102],[101,108,115,101],[119,104,105,108,101],[114,101,116,117,114,110],[110,101,119],[110,105,108],[116,114,117,101],[102,97,108,115,101],[97,110,100],[111,114],[110,111,116],[109,97,120],[109,105,110],[108,111,103],[105,110,116],[98,111,111,108],[116,104,105,115],[115,111,114,116],[111,112],[114,117,108,101],[115,112,101,99],[100,101,115,99],[115,99,114,105,112,116]].map qAm
def hasS(xs:List ByteArray)(s:ByteArray):Bool:=xs.any fun x=>decide (x=s)
def isKw(s:ByteArray):Bool:=hasS qKk s
def qAT(s:ByteArray):Bool:=decide (s.size≠0/\s.size<=40/\qCi (qBd s 0)=true/\(∀i:Nat,i<s.size->qEK (qBd s i)=true))&&!isKw s
theorem c145{V:Mem}{l:Sl}{xs:List ByteArray}{s:ByteArray}(h:qAc V l 1 (xs.map fun x=>[vS x])):PP 145 [l.v,.string s] V (.bool (hasS xs s)):=by
 refine x145 ?_
 unfold w145
 refine qAD xs.length (fun i V1=>V1=V/\∀j:Nat,j<i->xs[j]?≠some s) ⟨rfl,by simp⟩ ?_
 rintro i b _ J hi ⟨rfl,hj⟩ hJ
 refine⟨fun hlt=>?_,fun hge=>?_⟩
 ·obtain⟨x,hm,hx,hd,hl,hp,h0,hrow⟩:=h.get hlt
  refine⟨hp,h0,hlt,_,hrow,fun e=>?_,fun e=>⟨h.succ hlt,hJ hl _ _ ⟨rfl,fun j hj'=>?_⟩⟩⟩
  ·have:hasS xs s=true:=List.any_eq_true.2 ⟨x,hm,decide_eq_true e⟩
   rw[this];exact⟨rfl,rfl⟩
  grind
 ·have hn:=(h.done hge).2
  have:s ∉ xs:=fun hm=>by
   grind [List.mem_iff_getElem,List.getElem?_eq_getElem]
  have:hasS xs s=false:=by
   grind [hasS]
  simp_all
theorem c103{V:Mem}{s:ByteArray}:PP 103 [.string s] V (.bool (isKw s)):=by
 refine Pur.mk (x103 ?_)
 unfold w103
 refine x146 ?_
 unfold w146
 intro b hb
 refine⟨⟨some ⟨b,0,none⟩,31,31⟩,rfl,?_⟩
 have hrows:∀V0:Mem,qAc (V0.set b (.cells ((qKk.map Value.string).toArray) 9 (0,0))) ⟨some ⟨b,0,none⟩,31,31⟩ 1 (qKk.map fun x=>[vS x]) :=
  fun V0=>qAc.cells (xs:=qKk) (row:=fun x=>[vS x]) mss rfl (fun _=>rfl) rfl (Nat.le_of_ble_eq_true rfl)
 refine(c145 (hrows _)).call ⟨_,rfl,rfl,Mem.sub_new hb _⟩
theorem c66{V:Mem}{s:ByteArray}:PP 66 [.string s] V (.bool (qAT s)):=by
 refine x66 ?_
 unfold w66
 refine⟨fun h=>?_,fun h=>⟨fun h1=>?_,fun h1=>⟨by omega,c101.call ⟨_,rfl,fun h2=>?_,fun h2=>?_⟩⟩⟩⟩
 ·grind [qAT]
 ·grind [qAT]
 ·refine qAD s.size (fun i V1=>V1=V/\∀j:Nat,j<i->qEK (qBd s j)=true) ⟨rfl,by simp⟩ ?_
  rintro i b _ J hi ⟨rfl,hj⟩ hJ
  refine⟨fun hlt=>⟨by omega,c102.call ⟨_,rfl,fun hw=>⟨⟨by omega,by omega⟩,hJ (by omega) _ _ ⟨rfl,fun j hj'=>?_⟩⟩,fun hw=>?_⟩⟩,fun hge=>?_⟩
  ·grind
  ·grind [qEK,qBd,qAT]
  ·refine c103.call ⟨_,rfl,?_⟩
   have a1:s.size≠0:=by omega
   have a2:s.size<=40:=by omega
   have a3:∀i:Nat,i<s.size->qEK (qBd s i)=true:=fun j hj'=>hj j (by omega)
   have:qAT s=!isKw s:=by unfold qAT;rw[decide_eq_true ⟨a1,a2,h2,a3⟩];simp
   rw[this]
   exact⟨rfl,rfl⟩
 grind [qCi,qBd,qAT]
end Go.Proofs
namespace Go.Proofs
open Go Go.Sx
attribute [local irreducible] Go.Sx.Tri
def qBe(s:ByteArray):List Value:=[vS s]
def strV(s:ByteArray):Value:=vS s
section
variable{α:Type}
def IdxP(f:FuncId)(row:α->List Value)(v:α->Value)(sz:Nat):Prop:=∀{V:Mem} {l:Sl} {xs:List α} {g:Nat} {first caps:List Value} (hg:qJy g) (St Hit:Nat->Mem->Prop) (hrows:∀i V1,St i V1->qAc V1 l sz (xs.map row)) (h0:St 0 V)
  (hp:∀i x V1,xs[i]?=some x->St i V1->Tri Tryz.prog g (first.toArray++#[v x]++caps.toArray) V1 fun e V2=>∃b:Bool,e=.returned (.bool b)/\(b=true->Hit i V2)/\(b=false->St (i+1) V2)),
  Tri Tryz.prog f #[l.v,.func (.func g) first.toArray caps.toArray] V fun e V'=>(∃i:Nat,e=.returned (.int .i64 i)/\Hit i V')∨(e=.returned (.int .i64 (-1))/\St xs.length V')
def ConP(f:FuncId)(row:α->List Value)(v:α->Value)(sz:Nat):Prop:=∀{V:Mem} {l:Sl} {xs:List α} {g:Nat} {first caps:List Value} (hg:qJy g) (St Hit:Nat->Mem->Prop) (hrows:∀i V1,St i V1->qAc V1 l sz (xs.map row)) (h0:St 0 V)
  (hp:∀i x V1,xs[i]?=some x->St i V1->Tri Tryz.prog g (first.toArray++#[v x]++caps.toArray) V1 fun e V2=>∃b:Bool,e=.returned (.bool b)/\(b=true->Hit i V2)/\(b=false->St (i+1) V2)),
  Tri Tryz.prog f #[l.v,.func (.func g) first.toArray caps.toArray] V fun e V'=>(∃i:Nat,e=.returned (.bool true)/\Hit i V')∨(e=.returned (.bool false)/\St xs.length V')
def ConC(f:FuncId)(row:α->List Value)(v:α->Value)(sz:Nat):Prop:=∀{V:Mem} {l:Sl} {xs:List α} {g:Nat} {first caps:List Value} (h:qAc V l sz (xs.map row)) (hg:qJy g) (p:α->Bool) (hp:∀x∈xs,PP g (first++[v x]++caps) V (.bool (p x))),PP f [l.v,.func (.func g) first.toArray caps.toArray] V (.bool (xs.any p))
variable{f fc:FuncId}{row:α->List Value}{v:α->Value}{sz:Nat}
theorem conG(h:IdxP f row v sz)(hx:∀{l:Sl} {c:Value} {V:Mem} {R:RP},(TT f #[uL l,K.cast .f c] V fun e V1=>∃v2,e=rV (uI v2)/\R (rV (uB (decide (0<=v2)))) V1)->TT fc #[uL l,K.cast .f c] V R):ConP fc row v sz:=by
 intro V l xs g first caps hg St Hit hrows h0 hp
 refine hx (c:=.func (.func g) first.toArray caps.toArray) (Tri.mono (h hg St Hit hrows h0 hp) ?_)
 rintro e V' (⟨i,rfl,h⟩|⟨rfl,h⟩)
 ·refine⟨_,rfl,.inl ⟨i,?_,h⟩⟩
  rfl
 simp_all
theorem conC(H:ConP fc row v sz):ConC fc row v sz:=by
 intro V l xs g first caps h hg p hp
 refine Tri.mono (H hg (fun i V1=>V1=V/\∀j x,j<i->xs[j]?=some x->p x=false) (fun i V1=>V1=V/\∃x∈xs,p x=true) (fun i V1 hs=>hs.1 ▸ h) ⟨rfl,fun j x hj=>absurd hj (Nat.not_lt_zero _)⟩ ?_) ?_
 ·rintro i x _ hx ⟨rfl,hs⟩
  have hm:x∈xs:=List.mem_of_getElem? hx
  have:=(hp x hm).callv (q:=fun e V2=>∃b:Bool,e=.returned (.bool b)/\(b=true->V2=_/\∃x∈xs,p x=true)/\(b=false->V2=_/\∀j x,j<i+1->xs[j]?=some x->p x=false)) ⟨_,rfl,fun hb=>⟨rfl,x,hm,hb⟩,fun hb=>⟨rfl,fun j y hj hy=>by
   grind⟩⟩
  exact this
 ·rintro e V' (⟨i,rfl,rfl,x,hm,hx⟩|⟨rfl,rfl,hs⟩)
  ·grind
  ·have:xs.any p=false:=List.any_eq_false.2 fun x hm hx=>by
    obtain⟨j,hj,rfl⟩:=List.mem_iff_getElem.1 hm
    simp_all
   simp_all
end
theorem g172:IdxP 172 Fld.row Fld.v 2:=by
 intro V l xs g first caps hg St Hit hrows h0 hp
 refine x172 (a:=l) (b:=.func (.func g) first.toArray caps.toArray) ?_
 unfold w172
 refine qAD xs.length St h0 ?_
 intro i b V1 J hi hs hJ
 have h:=hrows i V1 hs
 refine⟨fun hlt=>?_,fun hge=>?_⟩
 ·obtain⟨x,hm,hx,hd,hl,hp0,hz,hrow⟩:=h.get hlt
  refine⟨hp0,hz,hlt,_,_,hrow,g,_,_,rfl,hg,Tri.mono (hp i x V1 hx hs) ?_⟩
  rintro e V2 ⟨b,rfl,h1,h2⟩
  exact⟨b,rfl,fun hb=>.inl ⟨i,rfl,h1 hb⟩,fun hb=>⟨h.succ hlt,hJ hl _ _ (h2 (by simpa using hb))⟩⟩
 ·have e:i=xs.length:=by have:=(h.done hge).2;omega
  simp_all
theorem g122:ConP 122 Fld.row Fld.v 2:=conG g172 x122
theorem c122:ConC 122 Fld.row Fld.v 2:=conC g122
theorem g295:IdxP 295 Iv.row Iv.v 6:=by
 intro V l xs g first caps hg St Hit hrows h0 hp
 refine x295 (a:=l) (b:=.func (.func g) first.toArray caps.toArray) ?_
 unfold w295
 refine qAD xs.length St h0 ?_
 intro i b V1 J hi hs hJ
 have h:=hrows i V1 hs
 refine⟨fun hlt=>?_,fun hge=>?_⟩
 ·obtain⟨x,hm,hx,hd,hl,hp0,hz,hrow⟩:=h.get hlt
  refine⟨hp0,hz,hlt,_,_,_,_,_,_,hrow,g,_,_,rfl,hg,Tri.mono (hp i x V1 hx hs) ?_⟩
  rintro e V2 ⟨b,rfl,h1,h2⟩
  exact⟨b,rfl,fun hb=>.inl ⟨i,rfl,h1 hb⟩,fun hb=>⟨h.succ hlt,hJ hl _ _ (h2 (by simpa using hb))⟩⟩
 ·have e:i=xs.length:=by have:=(h.done hge).2;omega
  simp_all
theorem g264:ConP 264 Iv.row Iv.v 6:=conG g295 x264
theorem c264:ConC 264 Iv.row Iv.v 6:=conC g264
theorem g173:IdxP 173 Ty.row Ty.v 2:=by
 intro V l xs g first caps hg St Hit hrows h0 hp
 refine x173 (a:=l) (b:=.func (.func g) first.toArray caps.toArray) ?_
 unfold w173
 refine qAD xs.length St h0 ?_
 intro i b V1 J hi hs hJ
 have h:=hrows i V1 hs
 refine⟨fun hlt=>?_,fun hge=>?_⟩
 ·obtain⟨x,hm,hx,hd,hl,hp0,hz,hrow⟩:=h.get hlt
  refine⟨hp0,hz,hlt,_,_,hrow,g,_,_,rfl,hg,Tri.mono (hp i x V1 hx hs) ?_⟩
  rintro e V2 ⟨b,rfl,h1,h2⟩
  exact⟨b,rfl,fun hb=>.inl ⟨i,rfl,h1 hb⟩,fun hb=>⟨h.succ hlt,hJ hl _ _ (h2 (by simpa using hb))⟩⟩
 ·have e:i=xs.length:=by have:=(h.done hge).2;omega
  simp_all
theorem g126:ConP 126 Ty.row Ty.v 2:=conG g173 x126
theorem c126:ConC 126 Ty.row Ty.v 2:=conC g126
theorem g196:IdxP 196 Pr.row Pr.v 5:=by
 intro V l xs g first caps hg St Hit hrows h0 hp
 refine x196 (a:=l) (b:=.func (.func g) first.toArray caps.toArray) ?_
 unfold w196
 refine qAD xs.length St h0 ?_
 intro i b V1 J hi hs hJ
 have h:=hrows i V1 hs
 refine⟨fun hlt=>?_,fun hge=>?_⟩
 ·obtain⟨x,hm,hx,hd,hl,hp0,hz,hrow⟩:=h.get hlt
  refine⟨hp0,hz,hlt,_,_,_,_,_,hrow,g,_,_,rfl,hg,Tri.mono (hp i x V1 hx hs) ?_⟩
  rintro e V2 ⟨b,rfl,h1,h2⟩
  exact⟨b,rfl,fun hb=>.inl ⟨i,rfl,h1 hb⟩,fun hb=>⟨h.succ hlt,hJ hl _ _ (h2 (by simpa using hb))⟩⟩
 ·have e:i=xs.length:=by have:=(h.done hge).2;omega
  simp_all
theorem g169:ConP 169 Pr.row Pr.v 5:=conG g196 x169
theorem c169:ConC 169 Pr.row Pr.v 5:=conC g169
theorem g249:IdxP 249 Bd.row Bd.v 5:=by
 intro V l xs g first caps hg St Hit hrows h0 hp
 refine x249 (a:=l) (b:=.func (.func g) first.toArray caps.toArray) ?_
 unfold w249
 refine qAD xs.length St h0 ?_
 intro i b V1 J hi hs hJ
 have h:=hrows i V1 hs
 refine⟨fun hlt=>?_,fun hge=>?_⟩
 ·obtain⟨x,hm,hx,hd,hl,hp0,hz,hrow⟩:=h.get hlt
  refine⟨hp0,hz,hlt,_,_,_,_,_,hrow,g,_,_,rfl,hg,Tri.mono (hp i x V1 hx hs) ?_⟩
  rintro e V2 ⟨b,rfl,h1,h2⟩
  exact⟨b,rfl,fun hb=>.inl ⟨i,rfl,h1 hb⟩,fun hb=>⟨h.succ hlt,hJ hl _ _ (h2 (by simpa using hb))⟩⟩
 ·have e:i=xs.length:=by have:=(h.done hge).2;omega
  simp_all
theorem g206:ConP 206 Bd.row Bd.v 5:=conG g249 x206
theorem c206:ConC 206 Bd.row Bd.v 5:=conC g206
theorem g283:IdxP 283 E.row E.v 4:=by
 intro V l xs g first caps hg St Hit hrows h0 hp
 refine x283 (a:=l) (b:=.func (.func g) first.toArray caps.toArray) ?_
 unfold w283
 refine qAD xs.length St h0 ?_
 intro i b V1 J hi hs hJ
 have h:=hrows i V1 hs
 refine⟨fun hlt=>?_,fun hge=>?_⟩
 ·obtain⟨x,hm,hx,hd,hl,hp0,hz,hrow⟩:=h.get hlt
  refine⟨hp0,hz,hlt,_,_,_,_,hrow,g,_,_,rfl,hg,Tri.mono (hp i x V1 hx hs) ?_⟩
  rintro e V2 ⟨b,rfl,h1,h2⟩
  exact⟨b,rfl,fun hb=>.inl ⟨i,rfl,h1 hb⟩,fun hb=>⟨h.succ hlt,hJ hl _ _ (h2 (by simpa using hb))⟩⟩
 ·have e:i=xs.length:=by have:=(h.done hge).2;omega
  simp_all
theorem g252:ConP 252 E.row E.v 4:=conG g283 x252
theorem c252:ConC 252 E.row E.v 4:=conC g252
theorem g294:IdxP 294 Ms.row Ms.v 7:=by
 intro V l xs g first caps hg St Hit hrows h0 hp
 refine x294 (a:=l) (b:=.func (.func g) first.toArray caps.toArray) ?_
 unfold w294
 refine qAD xs.length St h0 ?_
 intro i b V1 J hi hs hJ
 have h:=hrows i V1 hs
 refine⟨fun hlt=>?_,fun hge=>?_⟩
 ·obtain⟨x,hm,hx,hd,hl,hp0,hz,hrow⟩:=h.get hlt
  refine⟨hp0,hz,hlt,_,_,_,_,_,_,_,hrow,g,_,_,rfl,hg,Tri.mono (hp i x V1 hx hs) ?_⟩
  rintro e V2 ⟨b,rfl,h1,h2⟩
  exact⟨b,rfl,fun hb=>.inl ⟨i,rfl,h1 hb⟩,fun hb=>⟨h.succ hlt,hJ hl _ _ (h2 (by simpa using hb))⟩⟩
 ·have e:i=xs.length:=by have:=(h.done hge).2;omega
  simp_all
theorem g262:ConP 262 Ms.row Ms.v 7:=conG g294 x262
theorem c262:ConC 262 Ms.row Ms.v 7:=conC g262
theorem g318:IdxP 318 qBe strV 1:=by
 intro V l xs g first caps hg St Hit hrows h0 hp
 refine x318 (a:=l) (b:=.func (.func g) first.toArray caps.toArray) ?_
 unfold w318
 refine qAD xs.length St h0 ?_
 intro i b V1 J hi hs hJ
 have h:=hrows i V1 hs
 refine⟨fun hlt=>?_,fun hge=>?_⟩
 ·obtain⟨x,hm,hx,hd,hl,hp0,hz,hrow⟩:=h.get hlt
  refine⟨hp0,hz,hlt,_,hrow,g,_,_,rfl,hg,Tri.mono (hp i x V1 hx hs) ?_⟩
  rintro e V2 ⟨b,rfl,h1,h2⟩
  exact⟨b,rfl,fun hb=>.inl ⟨i,rfl,h1 hb⟩,fun hb=>⟨h.succ hlt,hJ hl _ _ (h2 (by simpa using hb))⟩⟩
 ·have e:i=xs.length:=by have:=(h.done hge).2;omega
  simp_all
theorem g314:ConP 314 qBe strV 1:=conG g318 x314
theorem c314:ConC 314 qBe strV 1:=conC g314
end Go.Proofs
namespace Go.Proofs
open Go.Shelf
def Tryz.lays157_ren:Go.Shelf.Ren:=⟨fun|157=>279|229=>306|199=>307|261=>316|311=>319|312=>320|n=>n,fun|9=>9|31=>220|3=>3|5=>5|4=>4|119=>365|0=>0|40=>367|152=>373|21=>21|154=>375|51=>362|141=>377|196=>382|193=>379|198=>385|49=>383|194=>380|201=>388|226=>390|46=>342|227=>391|n=>n,fun|0=>0|6=>1|n=>n⟩
theorem Tryz.lays157:Go.Proofs.Lays.n157 Tryz.prog Tryz.lays157_ren:={
 mixed:=by kernel_rfl
 f157:=Tryz.func279.trans (congrArg some (by kernel_rfl))
 f199:=Tryz.func307.trans (congrArg some (by kernel_rfl))
 f229:=Tryz.func306.trans (congrArg some (by kernel_rfl))
 f261:=Tryz.func316.trans (congrArg some (by kernel_rfl))
 f311:=Tryz.func319.trans (congrArg some (by kernel_rfl))
 f312:=Tryz.func320.trans (congrArg some (by kernel_rfl))
 t0:=Tryz.underlying0
 a0:=Tryz.isAgg0
 z0:=Tryz.sizeOf0
 v0:=Tryz.zeroValue0
 t3:=Tryz.underlying3
 a3:=Tryz.isAgg3
 z3:=Tryz.sizeOf3
 v3:=Tryz.zeroValue3
 t4:=Tryz.underlying4
 a4:=Tryz.isAgg4
 z4:=Tryz.sizeOf4
 v4:=Tryz.zeroValue4
 t5:=Tryz.underlying5
 a5:=Tryz.isAgg5
 z5:=Tryz.sizeOf5
 v5:=Tryz.zeroValue5
 t9:=Tryz.underlying9
 a9:=Tryz.isAgg9
 z9:=Tryz.sizeOf9
 v9:=Tryz.zeroValue9
 t21:=Tryz.underlying21
 a21:=Tryz.isAgg21
 z21:=Tryz.sizeOf21
 v21:=Tryz.zeroValue21
 t31:=Tryz.underlying220
 a31:=Tryz.isAgg220
 z31:=Tryz.sizeOf220
 v31:=Tryz.zeroValue220
 t40:=Tryz.underlying367
 a40:=Tryz.isAgg367
 z40:=Tryz.sizeOf367
 v40:=Tryz.zeroValue367
 t46:=Tryz.underlying342
 a46:=Tryz.isAgg342
 z46:=Tryz.sizeOf342
 v46:=Tryz.zeroValue342
 t49:=Tryz.underlying383
 a49:=Tryz.isAgg383
 z49:=Tryz.sizeOf383
 v49:=Tryz.zeroValue383
 t51:=Tryz.underlying362
 a51:=Tryz.isAgg362
 z51:=Tryz.sizeOf362
 v51:=Tryz.zeroValue362
 t119:=Tryz.underlying365
 a119:=Tryz.isAgg365
 z119:=Tryz.sizeOf365
 t141:=Tryz.underlying377
 a141:=Tryz.isAgg377
 z141:=Tryz.sizeOf377
 v141:=Tryz.zeroValue377
 t152:=Tryz.underlying373
 a152:=Tryz.isAgg373
 z152:=Tryz.sizeOf373
 v152:=Tryz.zeroValue373
 t154:=Tryz.underlying375
 a154:=Tryz.isAgg375
 z154:=Tryz.sizeOf375
 v154:=Tryz.zeroValue375
 t193:=Tryz.underlying379
 a193:=Tryz.isAgg379
 z193:=Tryz.sizeOf379
 v193:=Tryz.zeroValue379
 t194:=Tryz.underlying380
 a194:=Tryz.isAgg380
 z194:=Tryz.sizeOf380
 v194:=Tryz.zeroValue380
 t196:=Tryz.underlying382
 a196:=Tryz.isAgg382
 z196:=Tryz.sizeOf382
 v196:=Tryz.zeroValue382
 t198:=Tryz.underlying385
 a198:=Tryz.isAgg385
 z198:=Tryz.sizeOf385
 v198:=Tryz.zeroValue385
 t201:=Tryz.underlying388
 a201:=Tryz.isAgg388
 z201:=Tryz.sizeOf388
 v201:=Tryz.zeroValue388
 t226:=Tryz.underlying390
 a226:=Tryz.isAgg390
 z226:=Tryz.sizeOf390
 v226:=Tryz.zeroValue390
 t227:=Tryz.underlying391
 a227:=Tryz.isAgg391
 z227:=Tryz.sizeOf391
 v227:=Tryz.zeroValue391
 g0:=by kernel_rfl
 g6:=by kernel_rfl }
open Go.RowKit Go.Lib in
theorem Tryz.strings_Fields(s:ByteArray)(w:World)(hs:s.size<4294967281)(hascii:∀(j:Nat) b,s.data.toList[j]?=some b->b.toNat<128)(htab:Lib.TabIs Tryz.prog w "strings.asciiSpace" .u8 Lib.asciiSpaceTab) :
  Calls Tryz.prog 279 #[.string s] w fun e w' =>
   e=.returned (.slice (some ⟨w.heap.size,0,none⟩) (Lib.fields s.data.toList).length (Lib.fields s.data.toList).length)/\w'=w.alloc (.cells ((Lib.fields s.data.toList).map fun l=>Value.string ⟨l.toArray⟩).toArray 9):=Any.strings_Fields Tryz.lays157 (by kernel_rfl) (by kernel_rfl) s w hs hascii htab
end Go.Proofs
namespace Go.Proofs
open Go Go.Sx
attribute [local irreducible] Go.Sx.Tri
class Tab (V:Mem):Prop where
 at_:∃t fr,V 0=some (.cells (Lib.asciiSpaceTab.map fun z=>Value.int .u8 z).toArray t fr)
theorem Tab.sub{V V':Mem}(h:Tab V)(hs:V.sub V'):Tab V':=by
 obtain⟨t,fr,h⟩:=h.at_
 exact⟨t,fr,hs _ _ h⟩
theorem Tab.is{V:Mem}{w:World}(h:Tab V)(hV:V.le w):Lib.TabIs Tryz.prog w "strings.asciiSpace" .u8 Lib.asciiSpaceTab:=by
 obtain⟨t,fr,h⟩:=h.at_
 have hg:Tryz.prog.globalNamed "strings.asciiSpace" = some 0:=by kernel_rfl
 unfold Lib.TabIs World.var?
 rw[hg,Option.bind_some,hV _ _ h]
theorem frm_new{V:Mem}{w:World}(hw:V.le w)(o:Obj):V w.heap.size=none/\Frm V w (V.set w.heap.size o) (w.alloc o):=by
 have hn:V w.heap.size=none:=by
  cases hc:V w.heap.size with
  | none=>rfl
  | some o=>have:=(Array.getElem?_eq_some_iff.1 (hw _ o hc)).1;omega
 refine⟨hn,by simp,fun b o hb=>?_,fun b hb _=>Go.RowKit.Below.heap_alloc _ _ _ hb,fun b hb=>?_,rfl,rfl⟩
 ·by_cases e:b=w.heap.size
  ·grind [Mem.set_same,World.alloc_heap_new]
  ·rw[Mem.set_ne e]at hb
   have hlt:=(Array.getElem?_eq_some_iff.1 (hw b o hb)).1
   exact(Go.RowKit.Below.heap_alloc _ _ _ hlt).trans (hw b o hb)
 grind [inr,Mem.set_ne]
def kwText:ByteArray:=qAm [97,110,100,32,98,111,111,108,32,98,111,117,110,100,32,100,101,115,99,32,101,108,115,101,32,102,97,108,115,101,32,105,102,32,105,110,116,32,105,110,118,97,114,105,97,110,116,32,108,111,99,97,108,32,108,111,103,32,109,97,120,32,109,101,97,115,117,114,101,32,109,105,110,32,110,101,119,32,110,105,108,32,110,111,116,32,111,112,32,111,114,32,112,111,116,101,110,116,105,97,108,32,112,114,111,99,32,114,101,116,117,114,110,32,114,117,108,101,32,115,99,114,105,112,116,32,115,111,114,116,32,115,112,101,99,32,116,104,105,115,32,116,114,117,101,32,116,121,112,101,32,118,97,114,32,119,104,105,108,101]
def qCg:List ByteArray:=(Lib.fields kwText.data.toList).map fun l=>⟨l.toArray⟩
theorem kwText_size:kwText.size=160:=by kernel_rfl
theorem qHz:qCg.length=31:=by kernel_rfl
theorem c247{V:Mem}(ht:Tab V):Tri Tryz.prog 247 #[] V fun e V'=>∃b,V b=none/\e=.returned (.slice (sa b) 31 31)/\V'=V.set b (.cells (qCg.map Value.string).toArray 9 (0,0)):=by
 refine x247 ?_
 unfold w247
 refine Tri.mono (R:=fun e V'=>∃b,V b=none/\e=.returned (.slice (sa b) 31 31)/\V'=V.set b (.cells (qCg.map Value.string).toArray 9 (0,0))) ?_ ?_
 ·unfold Tri
  intro w hw
  refine qCS (Tryz.strings_Fields kwText w (by rw[kwText_size];decide) ?_ (ht.is hw)) ?_
  ·have hall:(kwText.data.toList.all fun b=>decide (b.toNat<128))=true:=by kernel_rfl
   grind
  ·rintro e w' ⟨rfl,rfl⟩
   obtain⟨hn,hf⟩:=frm_new hw (.cells (qCg.map Value.string).toArray 9)
   refine⟨_,⟨w.heap.size,hn,?_,rfl⟩,?_⟩
   ·rfl
   ·have e:((Lib.fields kwText.data.toList).map fun l=>Value.string ⟨l.toArray⟩)=qCg.map Value.string:=by
     rfl
    rw[e];exact hf
 ·rintro e V' ⟨b,hb,rfl,rfl⟩
  exact⟨⟨some ⟨b,0,none⟩,31,31⟩,rfl,b,hb,rfl,rfl⟩
theorem c305{V:Mem}{s:ByteArray}:PP 305 [.string s] V (.bool false):=by
 refine x305 ?_
 unfold w305
 simp
theorem c278{V:Mem}{s:ByteArray}:PP 278 [.string s] V (.bool false):=by
 refine x278 ?_
 unfold w278
 simp
def ltB(s t:ByteArray):Bool:=Op.bytesLess s.toList t.toList
theorem c277{V:Mem}{s t:ByteArray}:PP 277 [.string s,.string t] V (.bool (ltB s t)):=by
 refine x277 ?_
 unfold w277
 refine c305.call ⟨_,rfl,fun h=>?_,fun _=>⟨rfl,rfl⟩⟩
 cases h
theorem bl_trans:∀{a b c:List UInt8},Op.bytesLess a b=true->Op.bytesLess b c=true->Op.bytesLess a c=true
 | _,[],_,h,_=>by simp[Op.bytesLess]at h
 | _,_::_,[],_,k=>by simp[Op.bytesLess]at k
 | [],_::_,_::_,_,_=>rfl
 | a::x,b::y,c::z,h,k=>by
  simp only[Op.bytesLess,Bool.or_eq_true,decide_eq_true_eq,Bool.and_eq_true,beq_iff_eq]at h k ⊢
  rcases h with h|⟨rfl,h⟩
  ·grind
  ·rcases k with k|⟨rfl,k⟩
   ·exact .inl k
   ·exact .inr ⟨rfl,bl_trans h k⟩
theorem qIS{a b c:ByteArray}(h:ltB a b=true)(k:ltB b c=true):ltB a c=true:=bl_trans h k
theorem bl_irrefl:∀l:List UInt8,Op.bytesLess l l=false
 | []=>rfl
 | a::l=>by
  have h1:¬(a<a):=by simp_all
  simp[Op.bytesLess,bl_irrefl l,h1]
theorem ltB_irrefl(a:ByteArray):ltB a a=false:=bl_irrefl _
def qKG:List ByteArray->Bool
 | a::b::l=>ltB a b&&qKG (b::l)
 | _=>true
theorem qEx:∀{l:List ByteArray},qKG l=true->∀(i j:Nat) (x y:ByteArray),i<j->l[i]?=some x->l[j]?=some y->ltB x y=true
 | [],_,i,j,x,y,_,hx,_=>by simp at hx
 | [a],_,i,j,x,y,hij,hx,hy=>by
  grind
 | a::b::l,h,i,j,x,y,hij,hx,hy=>by
  simp only[qKG,Bool.and_eq_true]at h
  cases j with
  | zero=>omega
  | succ j =>
   rw[List.getElem?_cons_succ]at hy
   cases i with
   | succ i=>rw[List.getElem?_cons_succ]at hx;exact qEx h.2 i j x y (by omega) hx hy
   | zero =>
    simp only[List.getElem?_cons_zero,Option.some.injEq]at hx;subst hx
    cases j with
    | zero=>simp_all
    | succ j=>exact qIS h.1 (qEx h.2 0 (j+1) b y (by omega) rfl hy)
theorem GenK.shr1{V:Mem}{vals:Operand->Value}{t ty:TypeId}{n:Int}(hv:vals (.tmp 19)=.int .u64 n)(hv2:vals (.const (.int .u64 1))=.int .u64 1){q:Value->Mem->Prop}(hq:q (.int .u64 (n / 2)) V) :
  GenK Tryz.prog (.binOp .shr t (.tmp 19) (.const (.int .u64 1)) t) ty vals V q:=by
 intro w hw
 refine⟨_,w,V,?_,Frm.refl hw,hq⟩
 have e:Op.shift .shr .u64 n .u64 1=pure (.int .u64 (n / 2)):=by
  unfold Op.shift
  rw[if_neg (by decide)]
  show pure (Value.int .u64 (n.fdiv (2 ^ 1)))=_
  grind
 simp_all [execOp,eqGuard,binOp_shr]
theorem qLk{xs:List ByteArray}{s:ByteArray}:hasS xs s=true↔s∈xs:=by
 grind [hasS]
def kwIx(s:ByteArray):Bool:=hasS qCg s
theorem kwIx_eq(s:ByteArray):kwIx s=isKw s:=by
 have h1:(qCg.all fun x=>qKk.any fun y=>decide (y=x))=true:=by kernel_rfl
 have h2:(qKk.all fun x=>qCg.any fun y=>decide (y=x))=true:=by kernel_rfl
 unfold kwIx isKw
 rw[Bool.eq_iff_iff,qLk,qLk]
 grind
theorem c246{V:Mem}{l:Sl}{xs:List ByteArray}{s:ByteArray}(h:qAc V l 1 (xs.map fun x=>[vS x]))(hs:qKG xs=true)(hlen:xs.length<=1000) :
  Tri Tryz.prog 246 #[l.v,.string s] V fun e V'=>∃n:Int,e=.returned (.tuple #[.int .i64 n,.bool (hasS xs s)])/\V'=V:=by
 refine x246 ?_
 unfold w246
 have hn:=h.n_eq
 have hc:=h.cap
 have hf:=h.fit
 refine⟨fun n ys V1=>∃i j:Nat,ys=[.int .i64 i,.int .i64 j]/\V1=V/\i<=j/\j<=xs.length/\n=j-i/\(∀(k:Nat) x,k<i->xs[k]?=some x->ltB x s=true)/\(∀(k:Nat) x,j<=k->xs[k]?=some x->ltB x s=false),xs.length,
  ⟨0,xs.length,by rw[hn];rfl,rfl,by omega,by omega,by omega,fun k x hk=>by omega,fun k x hk hx=>by simp_all⟩,?_⟩
 rintro n V1 v2 v3 ⟨i,j,hy,rfl,hij,hj,rfl,hlo,hhi⟩ J hJ
 simp only[List.cons.injEq,Value.int.injEq,true_and,and_true]at hy
 obtain⟨rfl,rfl⟩:=hy
 refine⟨fun hlt=>?_,fun hge=>?_⟩
 ·refine⟨⟨by omega,by omega⟩,⟨by show (0:Int)<=_;omega,by show _<=(18446744073709551615:Int);omega⟩,?_⟩
  refine GenK.shr1 (n:=(i:Int)+j) rfl rfl ⟨_,rfl,⟨by omega,by omega⟩,?_⟩
  have hm:((i:Int)+j) / 2=((i+j) / 2:Nat):=by omega
  rw[hm]
  obtain⟨x,hmx,hx,hd,hl,hp,h0,hrow⟩:=h.get (i:=(i+j) / 2) (by omega)
  refine⟨hp,h0,by omega,x,hrow,c277.call ⟨_,rfl,fun hb=>⟨⟨by omega,by omega⟩,?_⟩,fun hb=>?_⟩⟩
  ·refine hJ (j-((i+j) / 2+1)) _ _ (by omega) ⟨(i+j) / 2+1,j,rfl,rfl,by omega,hj,rfl,fun k y hk hy=>?_,hhi⟩
   rcases Nat.lt_or_ge k ((i+j) / 2) with h'|h'
   ·exact qIS (qEx hs k _ y x h' hy hx) hb
   grind
  ·refine hJ ((i+j) / 2-i) _ _ (by omega) ⟨i,(i+j) / 2,rfl,rfl,by omega,by omega,rfl,hlo,fun k y hk hy=>?_⟩
   cases hz:ltB y s with
   | false=>rfl
   | true =>
    rcases Nat.lt_or_ge ((i+j) / 2) k with h'|h'
    ·exact absurd (qIS (qEx hs _ k x y h' hx hy) hz) hb
    grind
 ·have hij':i=j:=by omega
  subst hij'
  have key:s∈xs->xs[i]?=some s:=fun hm=>by
   obtain⟨k,hk,e⟩:=List.mem_iff_getElem.1 hm
   have hk':xs[k]?=some s:=by simp_all
   rcases Nat.lt_trichotomy k i with h'|h'|h'
   ·grind [ltB_irrefl]
   ·grind
   ·have hi':i<xs.length:=by omega
    have h2:=qEx hs i k xs[i] s h' (List.getElem?_eq_getElem hi') hk'
    grind
  refine⟨fun hlt=>?_,fun hge2=>?_⟩
  ·obtain⟨x,hmx,hx,hd,hl,hp,h0,hrow⟩:=h.get (i:=i) hlt
   refine⟨hp,h0,hlt,x,hrow,fun e=>?_,fun e=>⟨hp,h0,hlt,x,hrow,c278.call ⟨_,rfl,fun hb=>?_,fun _=>?_⟩⟩⟩
   ·subst e
    exact⟨i,by rw[qLk.2 hmx],rfl⟩
   ·cases hb
   ·refine⟨i,?_,rfl⟩
    grind [hasS,absurd]
  ·refine⟨i,?_,rfl⟩
   grind [hasS]
theorem c201{V:Mem}{s:ByteArray}(ht:Tab V):PP 201 [.string s] V (.bool (isKw s)):=by
 refine Pur.mk ?_
 refine x201 ?_
 unfold w201
 refine Tri.mono (c247 ht) ?_
 rintro _ V' ⟨b,hb,rfl,rfl⟩
 refine⟨⟨some ⟨b,0,none⟩,31,31⟩,rfl,?_⟩
 have hrows:qAc (V.set b (.cells ((qCg.map Value.string).toArray) 9 (0,0))) ⟨some ⟨b,0,none⟩,31,31⟩ 1 (qCg.map fun x=>[vS x]) :=
  qAc.cells (xs:=qCg) (row:=fun x=>[vS x]) mss (by simp;rfl) (fun _=>rfl) qHz.symm (Nat.le_of_ble_eq_true rfl)
 refine Tri.mono (c246 hrows (by kernel_rfl) (by rw[qHz];decide)) ?_
 rintro _ V2 ⟨n,rfl,rfl⟩
 exact⟨n,_,rfl,by rw[<- kwIx_eq];rfl,Mem.sub_new hb _⟩
theorem c165{V:Mem}[Tab V]{s:ByteArray}:PP 165 [.string s] V (.bool (qAT s)):=by
 refine x165 ?_
 unfold w165
 refine⟨fun h=>?_,fun h=>⟨fun h1=>?_,fun h1=>?_⟩⟩
 ·subst h;exact⟨rfl,rfl⟩
 ·grind [qAT]
 ·have h0:s.size≠0:=fun e=>h (by
   have:s.data=#[]:=Array.eq_empty_of_size_eq_zero e
   cases s;simp only at this;subst this;rfl)
  refine⟨by omega,c200.call ⟨_,rfl,fun h2=>?_,fun h2=>?_⟩⟩
  ·refine(c201 inferInstance).call ⟨_,rfl,fun hk=>?_,fun hk=>?_⟩
   ·simp[qAT,hk]
   ·refine qAD s.size (fun i V1=>V1=V/\∀j:Nat,j<i->qEK (qBd s j)=true) ⟨rfl,by simp⟩ ?_
    rintro i b _ J hi ⟨rfl,hj⟩ hJ
    refine⟨fun hlt=>⟨by omega,c200.call ⟨_,rfl,fun hw=>?_,fun hw=>⟨⟨by omega,by omega⟩,hJ (by omega) _ _ ⟨rfl,fun j hj'=>?_⟩⟩⟩⟩,fun hge=>?_⟩
    ·rw[cls_word]at hw
     grind [qEK,qBd,qAT]
    ·rcases Nat.lt_succ_iff_lt_or_eq.1 hj' with h'|rfl
     ·exact hj j h'
     simp_all [cls_word]
    grind [Nat,qEK,qBd,qAT,isKw,decide_eq_true,cls_two]
  grind [cls_two,qCi,qBd,qAT]
/-! Nodes. -/
def qAP(op:Int):Int:=if (1<=op/\op<=4)∨op=6 then 0 else if op=5∨op=8∨op=18∨op=24 then 1 else if op=7 then -1 else if op=21 then 3 else if 9<=op/\op<=23 then 2 else -2
theorem c213{V:Mem}{op:Int}:PP 213 [.int .i64 op] V (.int .i64 (qAP op)):=by
 refine x213 ?_
 unfold w213
 have key:∀n:Int,qAP op=n->Ending.returned (.int .i64 n)=Ending.returned (.int .i64 (qAP op)):=fun n h=>by rw[h]
 unfold qAP at key
 repeat' (first|intro _|apply And.intro)
 all_goals first|rfl | (refine key _ ?_;grind)
theorem c280{V:Mem}{op:Int}:PP 280 [.int .i64 op] V (.tuple #[.int .i64 (if qAP op=-2 then 2 else qAP op),.bool (decide (qAP op≠-2))]):=by
 refine x280 ?_
 unfold w280
 have key:∀(n:Int) (b:Bool),(if qAP op=-2 then 2 else qAP op)=n->decide (qAP op≠-2)=b->Ending.returned (.tuple #[.int .i64 n,.bool b])=Ending.returned (.tuple #[.int .i64 (if qAP op=-2 then 2 else qAP op),.bool (decide (qAP op≠-2))]):=fun n b h k=>by rw[h,k]
 unfold qAP at key
 repeat' (first|intro _|apply And.intro)
 all_goals first|rfl | (refine key _ _ ?_ ?_ <;> grind)
def sThis:ByteArray:=qAm [116,104,105,115]
def nmB(op:Int)(s:ByteArray):Bool:=if op=4 then decide (s=sThis)||qAT s else if op=5∨op=6∨op=7 then qAT s else decide (s=qAm [])
def numB(op n:Int):Bool:=if op=1 then decide (0<=n/\n<=1099511627776) else if op=2 then decide (n=0∨n=1) else decide (n=0)
def qDt(op n:Int)(s:ByteArray)(len:Int):Bool:=decide (qAP op≠-2/\(0<=qAP op->len=qAP op)/\(qAP op=-1->len<=6))&&nmB op s&&numB op n
theorem c214{V:Mem}{e:E}:PP 214 [e.v] V (.bool (nmB e.op e.s)):=by
 refine x214 ?_
 unfold w214
 have key:∀b:Bool,nmB e.op e.s=b->Ending.returned (.bool b)=Ending.returned (.bool (nmB e.op e.s)):=fun n h=>by rw[h]
 unfold nmB sThis at key
 repeat' (first|refine c66.call ⟨_,rfl,?_⟩|intro _|apply And.intro)
 all_goals first|rfl | (refine key _ ?_;grind)
theorem c281{V:Mem}[Tab V]{e:E}:PP 281 [e.v] V (.bool (nmB e.op e.s&&numB e.op e.n)):=by
 refine x281 ?_
 unfold w281
 have key:∀b:Bool,(nmB e.op e.s&&numB e.op e.n)=b->Ending.returned (.bool b)=Ending.returned (.bool (nmB e.op e.s&&numB e.op e.n)):=fun n h=>by rw[h]
 unfold nmB numB sThis at key
 repeat' (first|refine c165.call ⟨_,rfl,?_⟩|intro _|apply And.intro)
 all_goals first|rfl | (refine key _ ?_;grind)
theorem c181{V:Mem}{e:E}{len:Int}(hl:(e.l.n:Int)=len):PP 181 [e.v] V (.bool (qDt e.op e.n e.s len)):=by
 refine x181 ?_
 unfold w181
 rw[hl]
 have key:∀b:Bool,qDt e.op e.n e.s len=b->Ending.returned (.bool b)=Ending.returned (.bool (qDt e.op e.n e.s len)):=fun n h=>by rw[h]
 unfold qDt numB at key
 refine c213.call ⟨_,rfl,?_⟩
 repeat' (first|refine(c214 (e:=e)).call ⟨_,rfl,?_⟩|intro _|apply And.intro)
 all_goals first|rfl | (refine key _ ?_;grind)
end Go.Proofs
