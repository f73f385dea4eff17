/- Part 8 of a proof of a law of this seat: no statement of the seat is proved here. -/
import Derived.Test.YtginfholjbbgeaaGreatDoorPart04
import Derived.Test.YtginfholjbbgeaaGreatDoorPart05
import Derived.Test.YtginfholjbbgeaaGreatDoorPart06
import Derived.Test.YtginfholjbbgeaaGreatDoorPart07
import Derived.Shelf.Strings.Fields
import Derived.Test.YtginfholjbbgeaaGreatDoorProg
import Derived.Sort.Walk0
import Derived.RangeFuncRecord
set_option linter.unusedVariables false
set_option linter.unusedSimpArgs false
namespace Go.Proofs
open Go Go.Sx
set_option maxRecDepth 100000
set_option linter.unusedVariables false
section
variable{V:Mem}{R:RP}
abbrev qAY  : ByteArray :=
 qAl [0,1,2,2,3,3,3,3,4,4,4,4,4,4,4,4,5,5,5,5,5,5,5,5,5,5,5,5,5,5,5,5,6,6,6,6,6,6,6,6,6,6,6,6,6,6,6,6,6,6,6,6,6,6,6,6,6,6,6,6,6,6,6,6,7,7,7,7,7,7,7,7,7,7,7,7,7,7,7,7,7,7,7,7,7,7,7,7,7,7,7,7,7,7,7,7,7,7,7,7,7,7,7,7,7,7,7,7,7,7,7,7,7,7,7,7,7,7,7,7,7,7,7,7,7,7,7,7,8,8,8,8,8,8,8,8,8,8,8,8,8,8,8,8,8,8,8,8,8,8,8,8,8,8,8,8,8,8,8,8,8,8,8,8,8,8,8,8,8,8,8,8,8,8,8,8,8,8,8,8,8,8,8,8,8,8,8,8,8,8,8,8,8,8,8,8,8,8,8,8,8,8,8,8,8,8,8,8,8,8,8,8,8,8,8,8,8,8,8,8,8,8,8,8,8,8,8,8,8,8,8,8,8,8,8,8,8,8,8,8,8,8,8,8,8,8,8,8,8,8,8,8,8,8,8,8]
def w263(a:Int):MR:=fun V R=>Br (4294967296<=a) (GenK Tryz.prog (.binOp .shr 324 (.tmp 5) (.const (.int .u64 32)) 300) 324 (gv [(5,.int .u64 a)]) V fun x V1=>∃b,x=.int .u64 b/\Br (65536<=b) (GenK Tryz.prog (.binOp .shr 324 (.tmp 9) (.const (.int .u64 16)) 300) 324 (gv [(9,.int .u64 b)]) V1 fun x V2=>∃c,x=.int .u64 c/\IR ((32:Int)+(16:Int))/\Br (256<=c) (GenK Tryz.prog (.binOp .shr 324 (.tmp 15) (.const (.int .u64 8)) 300) 324 (gv [(15,.int .u64 c)]) V2 fun x V3=>∃d,x=.int .u64 d/\IR (((32:Int)+(16:Int))+8)/\K.inR .u8 d/\(0<=d/\d<((qAY).size:Int))/\IR (qBd (qAY) d)/\IR ((((32:Int)+(16:Int))+8)+(qBd (qAY) d))/\R (rV (uI ((((32:Int)+(16:Int))+8)+(qBd (qAY) d)))) V3) (K.inR .u8 c/\(0<=c/\c<((qAY).size:Int))/\IR (qBd (qAY) c)/\IR (((32:Int)+(16:Int))+(qBd (qAY) c))/\R (rV (uI (((32:Int)+(16:Int))+(qBd (qAY) c)))) V2)) (Br (256<=b) (GenK Tryz.prog (.binOp .shr 324 (.tmp 15) (.const (.int .u64 8)) 300) 324 (gv [(15,.int .u64 b)]) V1 fun x V2=>∃c,x=.int .u64 c/\IR ((32:Int)+(8:Int))/\K.inR .u8 c/\(0<=c/\c<((qAY).size:Int))/\IR (qBd (qAY) c)/\IR (((32:Int)+(8:Int))+(qBd (qAY) c))/\R (rV (uI (((32:Int)+(8:Int))+(qBd (qAY) c)))) V2) (K.inR .u8 b/\(0<=b/\b<((qAY).size:Int))/\IR (qBd (qAY) b)/\IR (32+(qBd (qAY) b))/\R (rV (uI (32+(qBd (qAY) b)))) V1))) (Br (65536<=a) (GenK Tryz.prog (.binOp .shr 324 (.tmp 9) (.const (.int .u64 16)) 300) 324 (gv [(9,.int .u64 a)]) V fun x V1=>∃b,x=.int .u64 b/\IR ((0:Int)+(16:Int))/\Br (256<=b) (GenK Tryz.prog (.binOp .shr 324 (.tmp 15) (.const (.int .u64 8)) 300) 324 (gv [(15,.int .u64 b)]) V1 fun x V2=>∃c,x=.int .u64 c/\IR (((0:Int)+(16:Int))+8)/\K.inR .u8 c/\(0<=c/\c<((qAY).size:Int))/\IR (qBd (qAY) c)/\IR ((((0:Int)+(16:Int))+8)+(qBd (qAY) c))/\R (rV (uI ((((0:Int)+(16:Int))+8)+(qBd (qAY) c)))) V2) (K.inR .u8 b/\(0<=b/\b<((qAY).size:Int))/\IR (qBd (qAY) b)/\IR (((0:Int)+(16:Int))+(qBd (qAY) b))/\R (rV (uI (((0:Int)+(16:Int))+(qBd (qAY) b)))) V1)) (Br (256<=a) (GenK Tryz.prog (.binOp .shr 324 (.tmp 15) (.const (.int .u64 8)) 300) 324 (gv [(15,.int .u64 a)]) V fun x V1=>∃b,x=.int .u64 b/\IR ((0:Int)+(8:Int))/\K.inR .u8 b/\(0<=b/\b<((qAY).size:Int))/\IR (qBd (qAY) b)/\IR (((0:Int)+(8:Int))+(qBd (qAY) b))/\R (rV (uI (((0:Int)+(8:Int))+(qBd (qAY) b)))) V1) (K.inR .u8 a/\(0<=a/\a<((qAY).size:Int))/\IR (qBd (qAY) a)/\IR (0+(qBd (qAY) a))/\R (rV (uI (0+(qBd (qAY) a)))) V)))
theorem x263{a:Int}(h:w263 a V R):TT 263 #[.int .u64 a] V R:=trx Tryz.func263 h
def w264(a:Int):MR:=fun V R=>IR (0-a)/\GenK Tryz.prog (.call { callee:=(.builtin .max),args:=#[(.tmp 3),(.tmp 5)],argTypes:=#[3,3] }) 3 (gv [(3,uI a),(5,uI (0-a))]) V fun x V1=>∃b,x=uI b/\R (rV (uI b)) V1
theorem x264{a:Int}(h:w264 a V R):TT 264 #[uI a] V R:=trx Tryz.func264 h
def w265(a:ByteArray):MR:=fun V R=>R (rV (uB (!(decide (a=a))))) V
theorem x265{a:ByteArray}(h:w265 a V R):TT 265 #[uS a] V R:=trx Tryz.func265 h
def w268(a b:Option Addr)(c d:Int)(g:ByteArray)(i:Sl):MR:=fun V R=>¬a=none/\¬a=none/\∃j k l o p q r s,V.rowp a ((0:Int).toNat*1) 8=some [uS j,uL k,uL l,uL o,uL p,uL q,uL r,uL s]/\¬a=none/\¬a=none/\∃u y z A B C D F,V.rowp a ((0:Int).toNat*1) 8=some [uS u,uL y,uL z,uL A,uL B,uL C,uL D,uL F]/\¬b=none/\¬b=none/\∃G H L M N,V.rowp b ((0:Int).toNat*1) 5=some [uS G,uL H,uS L,uL M,uL N]/\TT 203 #[uD u y z A B C D F,uA #[uS G,uL H,uS L,uL M,uL N]] V fun e V1=>∃O P,e=rV (uA #[uL O,uB P])/\V1.rowp (qAa a 0) 0 8=some [uS j,uL k,uL l,uL o,uL p,uL q,uL r,uL s]/\¬a=none/\¬a=none/\TT 206 #[uD j k l o p q r s,uA #[uL O,uB P],uA #[uI c,uI d,uS g,uL i]] V1 fun e V2=>∃Q U,e=rT #[uS Q,uI U]/\Br (U=0) (R (rV (uB (decide (Q=(qAl [105,110,116]))))) V2) (R (rV (uB false)) V2)
theorem x268{a b:Option Addr}{c d:Int}{g:ByteArray}{i:Sl}(h:w268 a b c d g i V R):TT 268 #[uP a,uP b,uA #[uI c,uI d,uS g,uL i]] V R:=trx Tryz.func268 h
def w269(a:Bool):MR:=fun V R=>Br (a=true) (R (rV (uI 1)) V) (R (rV (uI 0)) V)
theorem x269{a:Bool}(h:w269 a V R):TT 269 #[uB a] V R:=trx Tryz.func269 h
def w270(a:Option Addr)(b c:Int):MR:=fun V R=>Br (b<0) (IR (0-b)/\Br (c<0) (IR (0-c)/\Br (0<(0-b)) (¬(0-b)=0/\Br ((IntKind.wrap .i64 (((1099511627776:Int)).tdiv (0-b)))<(0-c)) (TI 126 #[uP a,uI 5] V fun d V1=>R (rV (uI d)) V1) (IR (b*c)/\R (rV (uI (b*c))) V)) (IR (b*c)/\R (rV (uI (b*c))) V)) (Br (0<(0-b)) (¬(0-b)=0/\Br ((IntKind.wrap .i64 (((1099511627776:Int)).tdiv (0-b)))<c) (TI 126 #[uP a,uI 5] V fun d V1=>R (rV (uI d)) V1) (IR (b*c)/\R (rV (uI (b*c))) V)) (IR (b*c)/\R (rV (uI (b*c))) V))) (Br (c<0) (IR (0-c)/\Br (0<b) (¬b=0/\Br ((IntKind.wrap .i64 (((1099511627776:Int)).tdiv b))<(0-c)) (TI 126 #[uP a,uI 5] V fun d V1=>R (rV (uI d)) V1) (IR (b*c)/\R (rV (uI (b*c))) V)) (IR (b*c)/\R (rV (uI (b*c))) V)) (Br (0<b) (¬b=0/\Br ((IntKind.wrap .i64 (((1099511627776:Int)).tdiv b))<c) (TI 126 #[uP a,uI 5] V fun d V1=>R (rV (uI d)) V1) (IR (b*c)/\R (rV (uI (b*c))) V)) (IR (b*c)/\R (rV (uI (b*c))) V)))
theorem x270{a:Option Addr}{b c:Int}(h:w270 a b c V R):TT 270 #[uP a,uI b,uI c] V R:=trx Tryz.func270 h
def w272(a:Option Addr)(b:Option Nat)(c:Bool)(d:ByteArray)(g:Sl):MR:=fun V R=>¬a=none/\¬a=none/\¬(qAa a 0)=none/\∃i,V.rowp a 4 1=some [uL i]/\qAA [uS d] 9 V fun j V1=>TI 254 #[uL i,.func (.func 277) #[] #[uP (qAa j 0)]] V1 fun k V2=>Br (k<0) (R (rT #[uS (qAl []),uI 9]) V2) (Br ((g.n:Int)=1) (¬g.p=none/\(0:Int)<=(0:Int)/\0<(g.n:Int)/\∃l,V2.rowp g.p ((0:Int).toNat*1) 1=some [uS l]/\¬a=none/\¬a=none/\¬(qAa a 0)=none/\∃o,V2.rowp a 4 1=some [uL o]/\Ix o k (¬(qAa o.p (k.toNat*7))=none/\∃p q r s u y z,V2.rowp o.p (k.toNat*7) 7=some [uS p,uS q,uI r,uI s,uI u,uS y,uL z]/\TB 258 #[uP a,uS l,uS q] V2 fun A V3=>Br (A=true) (R (rT #[uS (qAl [105,110,116]),uI 0]) V3) (R (rT #[uS (qAl []),uI 11]) V3))) (R (rT #[uS (qAl []),uI 3]) V2))
theorem x272{a:Option Addr}{b:Option Nat}{c:Bool}{d:ByteArray}{g:Sl}(h:w272 a b c d g V R):TT 272 #[uA #[uP a,uM b,uB c],uS d,uL g] V R:=trx Tryz.func272 h
def w273(a b:ByteArray)(c:Option Addr):MR:=fun V R=>∃d,V.rowp c ((0:Int).toNat*1) 1=some [uL d]/\qAA [uS a] 9 V fun g V1=>TB 274 #[uL d,.func (.func 275) #[] #[uP (qAa g 0)]] V1 fun i V2=>Br (i=true) (R (rT #[uS (qAl []),uI 11]) V2) (R (rT #[uS b,uI 0]) V2)
theorem x273{a b:ByteArray}{c:Option Addr}(h:w273 a b c V R):TT 273 #[uS a,uS b,uP c] V R:=trx Tryz.func273 h
def w274(a:Sl)(b:Value):MR:=fun V R=>TI 278 #[uL a,K.cast .f b] V fun c V1=>R (rV (uB (decide (0<=c)))) V1
theorem x274{a:Sl}{b:Value}(h:w274 a b V R):TT 274 #[uL a,K.cast .f b] V R :=
 qBs Tryz.func274 [] [] false [uL a,b] (by kernel_rfl) (by kernel_rfl) h
def w275(a:ByteArray)(b:Option Addr):MR:=fun V R=>∃c,V.rowp b ((0:Int).toNat*1) 1=some [uS c]/\R (rV (uB (!(decide (a=c))))) V
theorem x275{a:ByteArray}{b:Option Addr}(h:w275 a b V R):TT 275 #[uS a,uP b] V R:=trx Tryz.func275 h
def w277(a b:ByteArray)(c d g:Int)(i:ByteArray)(j:Sl)(k:Option Addr):MR:=fun V R=>∃l,V.rowp k ((0:Int).toNat*1) 1=some [uS l]/\R (rV (uB (decide (a=l)))) V
theorem x277{a b:ByteArray}{c d g:Int}{i:ByteArray}{j:Sl}{k:Option Addr}(h:w277 a b c d g i j k V R):TT 277 #[uA #[uS a,uS b,uI c,uI d,uI g,uS i,uL j],uP k] V R:=trx Tryz.func277 h
def w278(a:Sl)(b:Value):MR:=fun V R=>Lp [uI 0,uI 0] V fun I n V1=>∀c d,I n [uI c,uI d] V1->∀J0:LMP,Nx I n J0->Br (d<(a.n:Int)) (Ix a d (∃g,V1.rowp a.p (d.toNat*1) 1=some [uS g]/\∃f first caps,K.cast .f b=.func (.func f) first caps/\CO f/\TT f (first++#[uS g]++caps) V1 fun e V2=>∃i,e=rV (uB i)/\Br (i=true) (R (rV (uI d)) V2) (IR (d+1)/\J0 [uI c,uI (d+1)] V2))) (R (rV (uI (-1))) V1)
theorem x278{a:Sl}{b:Value}(h:w278 a b V R):TT 278 #[uL a,K.cast .f b] V R :=
 qBs Tryz.func278 [] [] false [uL a,b] (by kernel_rfl) (by kernel_rfl) h
abbrev w3_0(a7:Int)(s:Option Addr)(a8:ByteArray)(a9:Sl)(b0:Int)(V5:Mem)(O:ByteArray)(P:Sl)(Q:Sl)(U:Sl)(W:Sl)(X:Sl)(Y:Sl)(Z:Sl)(a0:Sl)(a1:Sl)(a2:Int)(a6:Int)(J0:LMP)(a5:Bool)(R:RP):Prop:=Br (a7=1) (TT 10 #[uP s,uA #[uS a8,uL a9],uI b0] V5 fun e V6=>∃b2 b3 b4 b5 b6 b7,e=rT #[uA #[uI b2,uI b3,uI b4,uI b5,uI b6],uI b7]/\TT 12 #[uA #[uS O,uL P,uL Q,uL U,uL W,uL X,uL Y,uL Z,uL a0,uL a1,uI a2],uA #[uS a8,uL a9],uI b0,uB (decide (a7=2))] V6 fun e V7=>∃b8 b9 c0 c1 c2 c3 c4 c5 c6 c7 c8 c9 d0 d1 d2 d3 d4,e=rT #[uA #[uS b8,uL b9,uL c0,uL c1,uL c2,uL c3,uL c4,uL c5,uL c6,uL c7,uI c8],uA #[uI c9,uI d0,uI d1,uI d2,uI d3],uI d4]/\Br ((b2=c9)/\((b3=d0)/\((b4=d1)/\((b5=d2)/\(b6=d3))))) (Br (b7=d4) (TB 17 #[uP s,uA #[uS b8,uL b9,uL c0,uL c1,uL c2,uL c3,uL c4,uL c5,uL c6,uL c7,uI c8]] V7 fun d5 V8=>Br (d5=true) (IR (a6+1)/\J0 [uS b8,uL b9,uL c0,uL c1,uL c2,uL c3,uL c4,uL c5,uL c6,uL c7,uI c8,uI b7,uI d4,uB a5,uI (a6+1)] V8) (R (rV (uB false)) V8)) (R (rV (uB false)) V7)) (R (rV (uB false)) V7)) (TT 11 #[uP s,uA #[uS a8,uL a9],uI b0] V5 fun e V6=>∃b2 b3 b4 b5 b6 b7,e=rT #[uA #[uI b2,uI b3,uI b4,uI b5,uI b6],uI b7]/\TT 12 #[uA #[uS O,uL P,uL Q,uL U,uL W,uL X,uL Y,uL Z,uL a0,uL a1,uI a2],uA #[uS a8,uL a9],uI b0,uB (decide (a7=2))] V6 fun e V7=>∃b8 b9 c0 c1 c2 c3 c4 c5 c6 c7 c8 c9 d0 d1 d2 d3 d4,e=rT #[uA #[uS b8,uL b9,uL c0,uL c1,uL c2,uL c3,uL c4,uL c5,uL c6,uL c7,uI c8],uA #[uI c9,uI d0,uI d1,uI d2,uI d3],uI d4]/\Br ((b2=c9)/\((b3=d0)/\((b4=d1)/\((b5=d2)/\(b6=d3))))) (Br (b7=d4) (TB 17 #[uP s,uA #[uS b8,uL b9,uL c0,uL c1,uL c2,uL c3,uL c4,uL c5,uL c6,uL c7,uI c8]] V7 fun d5 V8=>Br (d5=true) (IR (a6+1)/\J0 [uS b8,uL b9,uL c0,uL c1,uL c2,uL c3,uL c4,uL c5,uL c6,uL c7,uI c8,uI b7,uI d4,uB a5,uI (a6+1)] V8) (R (rV (uB false)) V8)) (R (rV (uB false)) V7)) (R (rV (uB false)) V7))
abbrev w3_1(b3:Int)(c5:Int)(s:Option Addr)(b4:ByteArray)(b5:Sl)(b6:Sl)(b7:Sl)(b8:Sl)(b9:Sl)(c0:Sl)(c1:Sl)(c2:Sl)(c3:Sl)(c4:Int)(V7:Mem)(a6:Int)(J0:LMP)(a5:Bool)(R:RP):Prop:=Br (b3=c5) (TB 17 #[uP s,uA #[uS b4,uL b5,uL b6,uL b7,uL b8,uL b9,uL c0,uL c1,uL c2,uL c3,uI c4]] V7 fun c6 V8=>Br (c6=true) (IR (a6+1)/\J0 [uS b4,uL b5,uL b6,uL b7,uL b8,uL b9,uL c0,uL c1,uL c2,uL c3,uI c4,uI b3,uI c5,uB a5,uI (a6+1)] V8) (R (rV (uB false)) V8)) (R (rV (uB false)) V7)
def w3(a:ByteArray)(b c d g i j k l o p:Sl):MR:=fun V R=>TB 6 #[] V fun q V1=>Br (q=true) (TB 7 #[uD a b c d g i j k,uA #[uL l,uL o],uL p] V1 fun r V2=>Br (r=true) (TT 8 #[uD a b c d g i j k,uA #[uL l,uL o]] V2 fun e V3=>∃s u,e=rT #[uP s,uI u]/\TT 9 #[uD a b c d g i j k,uA #[uL l,uL o]] V3 fun e V4=>∃y z A B C D F G H L M N,e=rT #[uA #[uS y,uL z,uL A,uL B,uL C,uL D,uL F,uL G,uL H,uL L,uI M],uI N]/\Br (u=N) (Br (((s).isNone==(!(decide (N=0))))=true) (Br (N=0) (Lp [uS y,uL z,uL A,uL B,uL C,uL D,uL F,uL G,uL H,uL L,uI M,uI u,uI N,uB false,uI 0] V4 fun I n V5=>∀O P Q U W X Y Z a0 a1 a2 a3 a4 a5 a6,I n [uS O,uL P,uL Q,uL U,uL W,uL X,uL Y,uL Z,uL a0,uL a1,uI a2,uI a3,uI a4,uB a5,uI a6] V5->∀J0:LMP,Nx I n J0->Br (a6<(p.n:Int)) (Ix p a6 (∃a7 a8 a9 b0 b1,V5.rowp p.p (a6.toNat*5) 5=some [uI a7,uS a8,uL a9,uI b0,uI b1]/\Br (a7=1) (w3_0 a7 s a8 a9 b0 V5 O P Q U W X Y Z a0 a1 a2 a6 J0 a5 R) (Br (a7=2) (w3_0 a7 s a8 a9 b0 V5 O P Q U W X Y Z a0 a1 a2 a6 J0 a5 R) (Br (a7=3) (TI 13 #[uP s,uI b1] V5 fun b2 V6=>TT 14 #[uA #[uS O,uL P,uL Q,uL U,uL W,uL X,uL Y,uL Z,uL a0,uL a1,uI a2],uI b1] V6 fun e V7=>∃b3 b4 b5 b6 b7 b8 b9 c0 c1 c2 c3 c4,e=rT #[uA #[uS b3,uL b4,uL b5,uL b6,uL b7,uL b8,uL b9,uL c0,uL c1,uL c2,uI c3],uI c4]/\Br (b2=c4) (TB 17 #[uP s,uA #[uS b3,uL b4,uL b5,uL b6,uL b7,uL b8,uL b9,uL c0,uL c1,uL c2,uI c3]] V7 fun c5 V8=>Br (c5=true) (IR (a6+1)/\J0 [uS b3,uL b4,uL b5,uL b6,uL b7,uL b8,uL b9,uL c0,uL c1,uL c2,uI c3,uI b2,uI c4,uB a5,uI (a6+1)] V8) (R (rV (uB false)) V8)) (R (rV (uB false)) V7)) (Br (a7=4) (TT 15 #[uP s] V5 fun e V6=>∃b2 b3,e=rT #[uI b2,uI b3]/\TT 16 #[uA #[uS O,uL P,uL Q,uL U,uL W,uL X,uL Y,uL Z,uL a0,uL a1,uI a2]] V6 fun e V7=>∃b4 b5 b6 b7 b8 b9 c0 c1 c2 c3 c4 c5,e=rT #[uA #[uS b4,uL b5,uL b6,uL b7,uL b8,uL b9,uL c0,uL c1,uL c2,uL c3,uI c4],uI c5]/\Br (c5=0) (Br (b2=c4) (Br (c5=0) (w3_1 b3 c5 s b4 b5 b6 b7 b8 b9 c0 c1 c2 c3 c4 V7 a6 J0 a5 R) (Br (b2=0) (w3_1 b3 c5 s b4 b5 b6 b7 b8 b9 c0 c1 c2 c3 c4 V7 a6 J0 a5 R) (R (rV (uB false)) V7))) (R (rV (uB false)) V7)) (Br (c5=0) (w3_1 b3 c5 s b4 b5 b6 b7 b8 b9 c0 c1 c2 c3 c4 V7 a6 J0 a5 R) (Br (b2=0) (w3_1 b3 c5 s b4 b5 b6 b7 b8 b9 c0 c1 c2 c3 c4 V7 a6 J0 a5 R) (R (rV (uB false)) V7)))) (IR (a6+1)/\J0 [uS O,uL P,uL Q,uL U,uL W,uL X,uL Y,uL Z,uL a0,uL a1,uI a2,uI a3,uI a4,uB a5,uI (a6+1)] V5)))))) (R (rV (uB true)) V5)) (R (rV (uB true)) V4)) (R (rV (uB false)) V4)) (R (rV (uB false)) V4)) (R (rV (uB true)) V2)) (R (rV (uB false)) V1)
theorem x3{a:ByteArray}{b c d g i j k l o p:Sl}(h:w3 a b c d g i j k l o p V R):TT 3 #[uD a b c d g i j k,uA #[uL l,uL o],uL p] V R :=
 qHO Tryz.func3 [] [(12,[9])] false (by kernel_rfl) (by kernel_rfl) h
def w32(a b:Sl):MR:=fun V R=>TL 58 #[uL a] V fun c V1=>Lp [uL c,.slice none 0 0,uI 0] V1 fun I n V2=>∀d g i,I n [uL d,uL g,uI i] V2->∀J0:LMP,Nx I n J0->Br (i<(b.n:Int)) (Ix b i (∃j k,V2.rowp b.p (i.toNat*2) 2=some [uI j,uL k]/\TL 58 #[uL k] V2 fun l V3=>qAA [uI j,uL l] 104 V3 fun o V4=>GenK Tryz.prog (.call { callee:=(.builtin .append),args:=#[(.tmp 18),(.tmp 25)],argTypes:=#[32,32] }) 32 (gv [(18,uL g),(25,.slice (qAa o 0) 1 1)]) V4 fun x V5=>∃p,x=uL p/\IR (i+1)/\J0 [uL d,uL p,uI (i+1)] V5)) (R (rV (uA #[uL d,uL g])) V2)
theorem x32{a b:Sl}(h:w32 a b V R):TT 32 #[uA #[uL a,uL b]] V R :=
 qHO Tryz.func32 [] [(3,[3])] false (by kernel_rfl) (by kernel_rfl) h
def w34(a b:Sl):MR:=fun V R=>qAA [] 3 V fun c V1=>GenK Tryz.prog (.call { callee:=(.builtin .append),args:=#[(.tmp 5),(.tmp 7)],argTypes:=#[31,31] }) 31 (gv [(5,.slice (qAa c 0) (0:Int).toNat (0:Int).toNat),(7,uL a)]) V1 fun x V2=>∃d,x=uL d/\Lp [uL d,.slice none 0 0,uI 0] V2 fun I n V3=>∀g i j,I n [uL g,uL i,uI j] V3->∀J0:LMP,Nx I n J0->Br (j<(b.n:Int)) (Ix b j (¬(qAa b.p (j.toNat*2))=none/\∃k l,V3.rowp b.p (j.toNat*2) 2=some [uI k,uL l]/\Ix b j (¬(qAa b.p (j.toNat*2))=none/\∃o p,V3.rowp b.p (j.toNat*2) 2=some [uI o,uL p]/\V3.rowp (qAa (qAa b.p (j.toNat*2)) 1) 0 1=some [uL p]/\¬(qAa b.p (j.toNat*2))=none/\Ix b j (V3.rowp (qAa (qAa b.p (j.toNat*2)) 0) 0 1=some [uI k]/\¬(qAa b.p (j.toNat*2))=none/\Ix b j (qAA [] 3 V3 fun q V4=>GenK Tryz.prog (.call { callee:=(.builtin .append),args:=#[(.tmp 25),(.tmp 31)],argTypes:=#[31,31] }) 31 (gv [(25,.slice (qAa q 0) (0:Int).toNat (0:Int).toNat),(31,uL p)]) V4 fun x V5=>∃r,x=uL r/\V5.rowp (qAa (qAa b.p (j.toNat*2)) 0) 0 1=some [uI k]/\¬(qAa b.p (j.toNat*2))=none/\Ix b j (qAA [uI k,uL r] 104 V5 fun s V6=>GenK Tryz.prog (.call { callee:=(.builtin .append),args:=#[(.tmp 18),(.tmp 34)],argTypes:=#[32,32] }) 32 (gv [(18,uL i),(34,.slice (qAa s 0) 1 1)]) V6 fun x V7=>∃u,x=uL u/\IR (j+1)/\J0 [uL g,uL u,uI (j+1)] V7)))))) (R (rV (uA #[uL g,uL i])) V3)
theorem x34{a b:Sl}(h:w34 a b V R):TT 34 #[uA #[uL a,uL b]] V R :=
 qHO Tryz.func34 [] [(3,[3])] false (by kernel_rfl) (by kernel_rfl) h
def w44(a b:Sl):MR:=fun V R=>TL 58 #[uL a] V fun c V1=>Lp [uL c,.slice none 0 0,uI 0] V1 fun I n V2=>∀d g i,I n [uL d,uL g,uI i] V2->∀J0:LMP,Nx I n J0->Br (i<(b.n:Int)) (Ix b i (∃j k,V2.rowp b.p (i.toNat*2) 2=some [uI j,uL k]/\TL 58 #[uL k] V2 fun l V3=>qAA [uI j,uL l] 104 V3 fun o V4=>GenK Tryz.prog (.call { callee:=(.builtin .append),args:=#[(.tmp 18),(.tmp 25)],argTypes:=#[32,32] }) 32 (gv [(18,uL g),(25,.slice (qAa o 0) 1 1)]) V4 fun x V5=>∃p,x=uL p/\IR (i+1)/\J0 [uL d,uL p,uI (i+1)] V5)) (R (rV (uA #[uL d,uL g])) V2)
theorem x44{a b:Sl}(h:w44 a b V R):TT 44 #[uA #[uL a,uL b]] V R :=
 qHO Tryz.func44 [] [(3,[3])] false (by kernel_rfl) (by kernel_rfl) h
def w95(a:Option Addr):MR:=fun V R=>GenK Tryz.prog (.makeFunc (.func 130) #[(.tmp 6)] #[]) 180 (gv [(6,uP a)]) V fun x V1=>∃b,K.f.ok b/\x=b/\GenK Tryz.prog (.makeFunc (.func 131) #[(.tmp 8)] #[]) 180 (gv [(8,uP a)]) V1 fun x V2=>∃c,K.f.ok c/\x=c/\GenK Tryz.prog (.makeFunc (.func 132) #[(.tmp 10)] #[]) 180 (gv [(10,uP a)]) V2 fun x V3=>∃d,K.f.ok d/\x=d/\GenK Tryz.prog (.makeFunc (.func 133) #[(.tmp 12)] #[]) 180 (gv [(12,uP a)]) V3 fun x V4=>∃g,K.f.ok g/\x=g/\GenK Tryz.prog (.makeFunc (.func 134) #[(.tmp 14)] #[]) 180 (gv [(14,uP a)]) V4 fun x V5=>∃i,K.f.ok i/\x=i/\qAA [K.cast .f b,K.cast .f c,K.cast .f d,K.cast .f g,K.cast .f i] 180 V5 fun j V6=>Lp [uP none,uI 0] V6 fun I n V7=>∀k l,I n [uP k,uI l] V7->∀J0:LMP,Nx I n J0->Br (l<5) (¬(qAa j 0)=none/\0<=l/\l<5/\∃o,K.f.ok o/\V7.rowp (qAa j 0) (l.toNat*1) 1=some [o]/\∃f first caps,K.cast .f o=.func (.func f) first caps/\CO f/\TT f (first++#[]++caps) V7 fun e V8=>∃p,e=rV (uP p)/\Br (p=none) (IR (l+1)/\J0 [uP k,uI (l+1)] V8) (R (rV (uP p)) V8)) (R (rV (uP none)) V7)
theorem x95{a:Option Addr}(h:w95 a V R):TT 95 #[uP a] V R :=
 qHO Tryz.func95 [16] [] false (by kernel_rfl) (by kernel_rfl) h
def w183(a:Option Addr)(b:Option Nat)(c:Bool)(d:Sl)(g:ByteArray)(i:Option Addr):MR:=fun V R=>Lp [uI 0,uI 0,uI 0] V fun I n V1=>∀j k l,I n [uI j,uI k,uI l] V1->∀J0:LMP,Nx I n J0->Br (l<(d.n:Int)) (Ix d l (∃o p q r s,V1.rowp d.p (l.toNat*5) 5=some [uI o,uS p,uL q,uL r,uL s]/\¬i=none/\∃u,V1.rowp i ((0:Int).toNat*1) 1=some [uI u]/\¬i=none/\∃y,V1.rowp i ((0:Int).toNat*1) 1=some [uI y]/\IR (y+1)/\¬i=none/\StT i 0 [uI (y+1)] V1 fun V2=>TI 223 #[uA #[uP a,uM b,uB c],uA #[uI o,uS p,uL q,uL r,uL s],uS g] V2 fun z V3=>Br (z=0) (qAA [uL r,uL s] 117 V3 fun A V4=>Lp [uI j,uI k,uI 0] V4 fun I n V5=>∀B C D,I n [uI B,uI C,uI D] V5->∀J1:LMP,Nx I n J1->Br (D<2) (¬(qAa A 0)=none/\0<=D/\D<2/\∃F,V5.rowp (qAa A 0) (D.toNat*1) 1=some [uL F]/\TT 183 #[uA #[uP a,uM b,uB c],uL F,uS g,uP i] V5 fun e V6=>∃G H,e=rT #[uI G,uI H]/\Br (H=0) (IR (D+1)/\J1 [uI B,uI C,uI (D+1)] V6) (R (rT #[uI G,uI H]) V6)) (IR (l+1)/\J0 [uI B,uI C,uI (l+1)] V5)) (R (rT #[uI u,uI z]) V3))) (R (rT #[uI 0,uI 0]) V1)
theorem x183{a:Option Addr}{b:Option Nat}{c:Bool}{d:Sl}{g:ByteArray}{i:Option Addr}(h:w183 a b c d g i V R):TT 183 #[uA #[uP a,uM b,uB c],uL d,uS g,uP i] V R :=
 qHO Tryz.func183 [44] [] false (by kernel_rfl) (by kernel_rfl) h
end
end Go.Proofs
namespace Go.Proofs
open Go Go.Sx
abbrev PP(f:FuncId)(args:List Value)(V:Mem)(v:Value):Prop:=Pur Tryz.prog f args V v
def qCd(c:Int):Bool:=decide (97<=c/\c<=122∨65<=c/\c<=90)
def qFs(c:Int):Bool:=decide (48<=c/\c<=57)
def qEx(c:Int):Bool:=qCd c||qFs c||decide (c=95)
theorem c112{V:Mem}{c:Int}:PP 112 [.int .u8 c] V (.bool (qCd c)):=by
 refine x112 ?_
 unfold w112 qCd
 grind
theorem c148{V:Mem}{c:Int}:PP 148 [.int .u8 c] V (.bool (qFs c)):=by
 refine x148 ?_
 unfold w148 qFs
 grind
theorem c113{V:Mem}{c:Int}:PP 113 [.int .u8 c] V (.bool (qEx c)):=by
 refine x113 ?_
 unfold w113 qEx
 refine c112.call ⟨_,rfl,fun h=>?_,fun h=>?_⟩
 ·simp[h]
 ·refine c148.call ⟨_,rfl,fun h=>?_,fun h=>?_⟩ <;> simp_all
def cls(c:Int):Int:=if c=32∨c=9∨c=13∨c=10 then 1 else if qCd c then 2 else if qFs c then 3 else if c=95 then 4 else 0
theorem c139{V:Mem}{c:Int}:PP 139 [.int .u8 c] V (.int .i64 (cls c)):=by
 refine x139 ?_
 unfold w139
 have key:∀n:Int,cls c=n->(Ending.returned (.int .i64 n)=Ending.returned (.int .i64 (cls c))/\V=V):=fun n h=>by simp_all
 unfold cls qCd qFs at key
 repeat' (first|intro _|apply And.intro)
 all_goals first|rfl | (refine(key _ ?_).1;grind)
theorem cls_two(c:Int):cls c=2↔qCd c=true:=by
 unfold cls qCd qFs;grind
theorem cls_word(c:Int):cls c<2↔qEx c=false:=by
 unfold qEx cls qCd qFs;grind
def qJu:List ByteArray:=[[116,121,112,101],[118,97,114],[112,114,111,99],[108,111,99,97,108],[109,101,97,115,117,114,101],[105,110,118,97,114,105,97,110,116],[112,111,116,101,110,116,105,97,108],[98,111,117,110,100],[105,102],[101,108,115,101],[119,104,105,108,101],[114,101,116,117,114,110],[110,101,119],[110,105,108],[116,114,117,101],[102,97,108,115,101],[97,110,100],[111,114],[110,111,116],[109,97,120],[109,105,110],[108,111,103],[105,110,116],[98,111,111,108],[116,104,105,115],[115,111,114,116],[111,112],[114,117,108,101],[115,112,101,99],[100,101,115,99],[115,99,114,105,112,116]].map qAl
def hasS(xs:List ByteArray)(s:ByteArray):Bool:=xs.any fun x=>decide (x=s)
def isKw(s:ByteArray):Bool:=hasS qJu s
def qAQ(s:ByteArray):Bool:=decide (s.size≠0/\s.size<=40/\qCd (qBd s 0)=true/\(∀i:Nat,i<s.size->qEx (qBd s i)=true))&&!isKw s
theorem c149{V:Mem}{l:Sl}{xs:List ByteArray}{s:ByteArray}(h:qAd V l 1 (xs.map fun x=>[vS x])):PP 149 [l.v,.string s] V (.bool (hasS xs s)):=by
 refine x149 ?_
 unfold w149
 refine qAJ xs.length (fun i V1=>V1=V/\∀j:Nat,j<i->xs[j]?≠some s) ⟨rfl,by simp⟩ ?_
 rintro i b _ J hi ⟨rfl,hj⟩ hJ
 refine⟨fun hlt=>?_,fun hge=>?_⟩
 ·obtain⟨x,hm,hx,hd,hl,hp,h0,hrow⟩:=h.get hlt
  refine⟨hp,h0,hlt,_,hrow,fun e=>?_,fun e=>⟨h.succ hlt,hJ hl _ _ ⟨rfl,fun j hj'=>?_⟩⟩⟩
  ·have:hasS xs s=true:=List.any_eq_true.2 ⟨x,hm,decide_eq_true e⟩
   rw[this];exact⟨rfl,rfl⟩
  grind
 ·have hn:=(h.done hge).2
  have:s ∉ xs:=fun hm=>by
   grind [List.mem_iff_getElem,List.getElem?_eq_getElem]
  have:hasS xs s=false:=by
   grind [hasS]
  simp_all
theorem c114{V:Mem}{s:ByteArray}:PP 114 [.string s] V (.bool (isKw s)):=by
 refine Pur.mk (x114 ?_)
 unfold w114
 refine x150 ?_
 unfold w150
 intro b hb
 refine⟨⟨some ⟨b,0,none⟩,31,31⟩,rfl,?_⟩
 have hrows:∀V0:Mem,qAd (V0.set b (.cells ((qJu.map Value.string).toArray) 9 (0,0))) ⟨some ⟨b,0,none⟩,31,31⟩ 1 (qJu.map fun x=>[vS x]) :=
  fun V0=>qAd.cells (xs:=qJu) (row:=fun x=>[vS x]) mss rfl (fun _=>rfl) rfl (Nat.le_of_ble_eq_true rfl)
 refine(c149 (hrows _)).call ⟨_,rfl,rfl,Mem.sub_new hb _⟩
theorem c85{V:Mem}{s:ByteArray}:PP 85 [.string s] V (.bool (qAQ s)):=by
 refine x85 ?_
 unfold w85
 refine⟨fun h=>?_,fun h=>⟨fun h1=>?_,fun h1=>⟨by omega,c112.call ⟨_,rfl,fun h2=>?_,fun h2=>?_⟩⟩⟩⟩
 ·grind [qAQ]
 ·grind [qAQ]
 ·refine qAJ s.size (fun i V1=>V1=V/\∀j:Nat,j<i->qEx (qBd s j)=true) ⟨rfl,by simp⟩ ?_
  rintro i b _ J hi ⟨rfl,hj⟩ hJ
  refine⟨fun hlt=>⟨by omega,c113.call ⟨_,rfl,fun hw=>⟨⟨by omega,by omega⟩,hJ (by omega) _ _ ⟨rfl,fun j hj'=>?_⟩⟩,fun hw=>?_⟩⟩,fun hge=>?_⟩
  ·grind
  ·grind [qEx,qBd,qAQ]
  ·refine c114.call ⟨_,rfl,?_⟩
   have a1:s.size≠0:=by omega
   have a2:s.size<=40:=by omega
   have a3:∀i:Nat,i<s.size->qEx (qBd s i)=true:=fun j hj'=>hj j (by omega)
   have:qAQ s=!isKw s:=by unfold qAQ;rw[decide_eq_true ⟨a1,a2,h2,a3⟩];simp
   rw[this]
   exact⟨rfl,rfl⟩
 grind [qCd,qBd,qAQ]
end Go.Proofs
namespace Go.Proofs
open Go Go.Sx
attribute [local irreducible] Go.Sx.Tri
def qBe(s:ByteArray):List Value:=[vS s]
def strV(s:ByteArray):Value:=vS s
section
variable{α:Type}
def IdxP(f:FuncId)(row:α->List Value)(v:α->Value)(sz:Nat):Prop:=∀{V:Mem} {l:Sl} {xs:List α} {g:Nat} {first caps:List Value} (hg:qIJ g) (St Hit:Nat->Mem->Prop) (hrows:∀i V1,St i V1->qAd V1 l sz (xs.map row)) (h0:St 0 V)
  (hp:∀i x V1,xs[i]?=some x->St i V1->Tri Tryz.prog g (first.toArray++#[v x]++caps.toArray) V1 fun e V2=>∃b:Bool,e=.returned (.bool b)/\(b=true->Hit i V2)/\(b=false->St (i+1) V2)),
  Tri Tryz.prog f #[l.v,.func (.func g) first.toArray caps.toArray] V fun e V'=>(∃i:Nat,e=.returned (.int .i64 i)/\Hit i V')∨(e=.returned (.int .i64 (-1))/\St xs.length V')
def ConP(f:FuncId)(row:α->List Value)(v:α->Value)(sz:Nat):Prop:=∀{V:Mem} {l:Sl} {xs:List α} {g:Nat} {first caps:List Value} (hg:qIJ g) (St Hit:Nat->Mem->Prop) (hrows:∀i V1,St i V1->qAd V1 l sz (xs.map row)) (h0:St 0 V)
  (hp:∀i x V1,xs[i]?=some x->St i V1->Tri Tryz.prog g (first.toArray++#[v x]++caps.toArray) V1 fun e V2=>∃b:Bool,e=.returned (.bool b)/\(b=true->Hit i V2)/\(b=false->St (i+1) V2)),
  Tri Tryz.prog f #[l.v,.func (.func g) first.toArray caps.toArray] V fun e V'=>(∃i:Nat,e=.returned (.bool true)/\Hit i V')∨(e=.returned (.bool false)/\St xs.length V')
def ConC(f:FuncId)(row:α->List Value)(v:α->Value)(sz:Nat):Prop:=∀{V:Mem} {l:Sl} {xs:List α} {g:Nat} {first caps:List Value} (h:qAd V l sz (xs.map row)) (hg:qIJ g) (p:α->Bool) (hp:∀x∈xs,PP g (first++[v x]++caps) V (.bool (p x))),PP f [l.v,.func (.func g) first.toArray caps.toArray] V (.bool (xs.any p))
variable{f fc:FuncId}{row:α->List Value}{v:α->Value}{sz:Nat}
theorem conG(h:IdxP f row v sz)(hx:∀{l:Sl} {c:Value} {V:Mem} {R:RP},(TT f #[uL l,K.cast .f c] V fun e V1=>∃v2,e=rV (uI v2)/\R (rV (uB (decide (0<=v2)))) V1)->TT fc #[uL l,K.cast .f c] V R):ConP fc row v sz:=by
 intro V l xs g first caps hg St Hit hrows h0 hp
 refine hx (c:=.func (.func g) first.toArray caps.toArray) (Tri.mono (h hg St Hit hrows h0 hp) ?_)
 rintro e V' (⟨i,rfl,h⟩|⟨rfl,h⟩)
 ·refine⟨_,rfl,.inl ⟨i,?_,h⟩⟩
  rfl
 simp_all
theorem conC(H:ConP fc row v sz):ConC fc row v sz:=by
 intro V l xs g first caps h hg p hp
 refine Tri.mono (H hg (fun i V1=>V1=V/\∀j x,j<i->xs[j]?=some x->p x=false) (fun i V1=>V1=V/\∃x∈xs,p x=true) (fun i V1 hs=>hs.1 ▸ h) ⟨rfl,fun j x hj=>absurd hj (Nat.not_lt_zero _)⟩ ?_) ?_
 ·rintro i x _ hx ⟨rfl,hs⟩
  have hm:x∈xs:=List.mem_of_getElem? hx
  have:=(hp x hm).callv (q:=fun e V2=>∃b:Bool,e=.returned (.bool b)/\(b=true->V2=_/\∃x∈xs,p x=true)/\(b=false->V2=_/\∀j x,j<i+1->xs[j]?=some x->p x=false)) ⟨_,rfl,fun hb=>⟨rfl,x,hm,hb⟩,fun hb=>⟨rfl,fun j y hj hy=>by
   grind⟩⟩
  exact this
 ·rintro e V' (⟨i,rfl,rfl,x,hm,hx⟩|⟨rfl,rfl,hs⟩)
  ·grind
  ·have:xs.any p=false:=List.any_eq_false.2 fun x hm hx=>by
    obtain⟨j,hj,rfl⟩:=List.mem_iff_getElem.1 hm
    simp_all
   simp_all
end
theorem g108:IdxP 108 Fld.row Fld.v 2:=by
 intro V l xs g first caps hg St Hit hrows h0 hp
 refine x108 (a:=l) (b:=.func (.func g) first.toArray caps.toArray) ?_
 unfold w108
 refine qAJ xs.length St h0 ?_
 intro i b V1 J hi hs hJ
 have h:=hrows i V1 hs
 refine⟨fun hlt=>?_,fun hge=>?_⟩
 ·obtain⟨x,hm,hx,hd,hl,hp0,hz,hrow⟩:=h.get hlt
  refine⟨hp0,hz,hlt,_,_,hrow,g,_,_,rfl,hg,Tri.mono (hp i x V1 hx hs) ?_⟩
  rintro e V2 ⟨b,rfl,h1,h2⟩
  exact⟨b,rfl,fun hb=>.inl ⟨i,rfl,h1 hb⟩,fun hb=>⟨h.succ hlt,hJ hl _ _ (h2 (by simpa using hb))⟩⟩
 ·have e:i=xs.length:=by have:=(h.done hge).2;omega
  simp_all
theorem g75:ConP 75 Fld.row Fld.v 2:=conG g108 x75
theorem c75:ConC 75 Fld.row Fld.v 2:=conC g75
theorem g255:IdxP 255 Iv.row Iv.v 6:=by
 intro V l xs g first caps hg St Hit hrows h0 hp
 refine x255 (a:=l) (b:=.func (.func g) first.toArray caps.toArray) ?_
 unfold w255
 refine qAJ xs.length St h0 ?_
 intro i b V1 J hi hs hJ
 have h:=hrows i V1 hs
 refine⟨fun hlt=>?_,fun hge=>?_⟩
 ·obtain⟨x,hm,hx,hd,hl,hp0,hz,hrow⟩:=h.get hlt
  refine⟨hp0,hz,hlt,_,_,_,_,_,_,hrow,g,_,_,rfl,hg,Tri.mono (hp i x V1 hx hs) ?_⟩
  rintro e V2 ⟨b,rfl,h1,h2⟩
  exact⟨b,rfl,fun hb=>.inl ⟨i,rfl,h1 hb⟩,fun hb=>⟨h.succ hlt,hJ hl _ _ (h2 (by simpa using hb))⟩⟩
 ·have e:i=xs.length:=by have:=(h.done hge).2;omega
  simp_all
theorem g219:ConP 219 Iv.row Iv.v 6:=conG g255 x219
theorem c219:ConC 219 Iv.row Iv.v 6:=conC g219
theorem g109:IdxP 109 Ty.row Ty.v 2:=by
 intro V l xs g first caps hg St Hit hrows h0 hp
 refine x109 (a:=l) (b:=.func (.func g) first.toArray caps.toArray) ?_
 unfold w109
 refine qAJ xs.length St h0 ?_
 intro i b V1 J hi hs hJ
 have h:=hrows i V1 hs
 refine⟨fun hlt=>?_,fun hge=>?_⟩
 ·obtain⟨x,hm,hx,hd,hl,hp0,hz,hrow⟩:=h.get hlt
  refine⟨hp0,hz,hlt,_,_,hrow,g,_,_,rfl,hg,Tri.mono (hp i x V1 hx hs) ?_⟩
  rintro e V2 ⟨b,rfl,h1,h2⟩
  exact⟨b,rfl,fun hb=>.inl ⟨i,rfl,h1 hb⟩,fun hb=>⟨h.succ hlt,hJ hl _ _ (h2 (by simpa using hb))⟩⟩
 ·have e:i=xs.length:=by have:=(h.done hge).2;omega
  simp_all
theorem g79:ConP 79 Ty.row Ty.v 2:=conG g109 x79
theorem c79:ConC 79 Ty.row Ty.v 2:=conC g79
theorem g135:IdxP 135 Pr.row Pr.v 5:=by
 intro V l xs g first caps hg St Hit hrows h0 hp
 refine x135 (a:=l) (b:=.func (.func g) first.toArray caps.toArray) ?_
 unfold w135
 refine qAJ xs.length St h0 ?_
 intro i b V1 J hi hs hJ
 have h:=hrows i V1 hs
 refine⟨fun hlt=>?_,fun hge=>?_⟩
 ·obtain⟨x,hm,hx,hd,hl,hp0,hz,hrow⟩:=h.get hlt
  refine⟨hp0,hz,hlt,_,_,_,_,_,hrow,g,_,_,rfl,hg,Tri.mono (hp i x V1 hx hs) ?_⟩
  rintro e V2 ⟨b,rfl,h1,h2⟩
  exact⟨b,rfl,fun hb=>.inl ⟨i,rfl,h1 hb⟩,fun hb=>⟨h.succ hlt,hJ hl _ _ (h2 (by simpa using hb))⟩⟩
 ·have e:i=xs.length:=by have:=(h.done hge).2;omega
  simp_all
theorem g105:ConP 105 Pr.row Pr.v 5:=conG g135 x105
theorem c105:ConC 105 Pr.row Pr.v 5:=conC g105
theorem g196:IdxP 196 Bd.row Bd.v 5:=by
 intro V l xs g first caps hg St Hit hrows h0 hp
 refine x196 (a:=l) (b:=.func (.func g) first.toArray caps.toArray) ?_
 unfold w196
 refine qAJ xs.length St h0 ?_
 intro i b V1 J hi hs hJ
 have h:=hrows i V1 hs
 refine⟨fun hlt=>?_,fun hge=>?_⟩
 ·obtain⟨x,hm,hx,hd,hl,hp0,hz,hrow⟩:=h.get hlt
  refine⟨hp0,hz,hlt,_,_,_,_,_,hrow,g,_,_,rfl,hg,Tri.mono (hp i x V1 hx hs) ?_⟩
  rintro e V2 ⟨b,rfl,h1,h2⟩
  exact⟨b,rfl,fun hb=>.inl ⟨i,rfl,h1 hb⟩,fun hb=>⟨h.succ hlt,hJ hl _ _ (h2 (by simpa using hb))⟩⟩
 ·have e:i=xs.length:=by have:=(h.done hge).2;omega
  simp_all
theorem g145:ConP 145 Bd.row Bd.v 5:=conG g196 x145
theorem c145:ConC 145 Bd.row Bd.v 5:=conC g145
theorem g238:IdxP 238 E.row E.v 4:=by
 intro V l xs g first caps hg St Hit hrows h0 hp
 refine x238 (a:=l) (b:=.func (.func g) first.toArray caps.toArray) ?_
 unfold w238
 refine qAJ xs.length St h0 ?_
 intro i b V1 J hi hs hJ
 have h:=hrows i V1 hs
 refine⟨fun hlt=>?_,fun hge=>?_⟩
 ·obtain⟨x,hm,hx,hd,hl,hp0,hz,hrow⟩:=h.get hlt
  refine⟨hp0,hz,hlt,_,_,_,_,hrow,g,_,_,rfl,hg,Tri.mono (hp i x V1 hx hs) ?_⟩
  rintro e V2 ⟨b,rfl,h1,h2⟩
  exact⟨b,rfl,fun hb=>.inl ⟨i,rfl,h1 hb⟩,fun hb=>⟨h.succ hlt,hJ hl _ _ (h2 (by simpa using hb))⟩⟩
 ·have e:i=xs.length:=by have:=(h.done hge).2;omega
  simp_all
theorem g199:ConP 199 E.row E.v 4:=conG g238 x199
theorem c199:ConC 199 E.row E.v 4:=conC g199
theorem g254:IdxP 254 Ms.row Ms.v 7:=by
 intro V l xs g first caps hg St Hit hrows h0 hp
 refine x254 (a:=l) (b:=.func (.func g) first.toArray caps.toArray) ?_
 unfold w254
 refine qAJ xs.length St h0 ?_
 intro i b V1 J hi hs hJ
 have h:=hrows i V1 hs
 refine⟨fun hlt=>?_,fun hge=>?_⟩
 ·obtain⟨x,hm,hx,hd,hl,hp0,hz,hrow⟩:=h.get hlt
  refine⟨hp0,hz,hlt,_,_,_,_,_,_,_,hrow,g,_,_,rfl,hg,Tri.mono (hp i x V1 hx hs) ?_⟩
  rintro e V2 ⟨b,rfl,h1,h2⟩
  exact⟨b,rfl,fun hb=>.inl ⟨i,rfl,h1 hb⟩,fun hb=>⟨h.succ hlt,hJ hl _ _ (h2 (by simpa using hb))⟩⟩
 ·have e:i=xs.length:=by have:=(h.done hge).2;omega
  simp_all
theorem g217:ConP 217 Ms.row Ms.v 7:=conG g254 x217
theorem c217:ConC 217 Ms.row Ms.v 7:=conC g217
theorem g278:IdxP 278 qBe strV 1:=by
 intro V l xs g first caps hg St Hit hrows h0 hp
 refine x278 (a:=l) (b:=.func (.func g) first.toArray caps.toArray) ?_
 unfold w278
 refine qAJ xs.length St h0 ?_
 intro i b V1 J hi hs hJ
 have h:=hrows i V1 hs
 refine⟨fun hlt=>?_,fun hge=>?_⟩
 ·obtain⟨x,hm,hx,hd,hl,hp0,hz,hrow⟩:=h.get hlt
  refine⟨hp0,hz,hlt,_,hrow,g,_,_,rfl,hg,Tri.mono (hp i x V1 hx hs) ?_⟩
  rintro e V2 ⟨b,rfl,h1,h2⟩
  exact⟨b,rfl,fun hb=>.inl ⟨i,rfl,h1 hb⟩,fun hb=>⟨h.succ hlt,hJ hl _ _ (h2 (by simpa using hb))⟩⟩
 ·have e:i=xs.length:=by have:=(h.done hge).2;omega
  simp_all
theorem g274:ConP 274 qBe strV 1:=conG g278 x274
theorem c274:ConC 274 qBe strV 1:=conC g274
end Go.Proofs
namespace Go.Proofs
open Go.Shelf
def Tryz.lays157_ren:Go.Shelf.Ren:=⟨fun|157=>234|229=>266|199=>267|261=>276|311=>279|312=>280|n=>n,fun|9=>9|31=>232|3=>3|5=>5|4=>4|119=>325|0=>0|40=>327|152=>333|21=>21|154=>335|51=>322|141=>337|196=>342|193=>339|198=>344|49=>65|194=>340|201=>347|226=>349|46=>300|227=>350|n=>n,fun|0=>0|6=>1|n=>n⟩
theorem Tryz.lays157:Go.Proofs.Lays.n157 Tryz.prog Tryz.lays157_ren:={
 mixed:=by kernel_rfl
 f157:=Tryz.func234.trans (congrArg some (by kernel_rfl))
 f199:=Tryz.func267.trans (congrArg some (by kernel_rfl))
 f229:=Tryz.func266.trans (congrArg some (by kernel_rfl))
 f261:=Tryz.func276.trans (congrArg some (by kernel_rfl))
 f311:=Tryz.func279.trans (congrArg some (by kernel_rfl))
 f312:=Tryz.func280.trans (congrArg some (by kernel_rfl))
 t0:=Tryz.underlying0
 a0:=Tryz.isAgg0
 z0:=Tryz.sizeOf0
 v0:=Tryz.zeroValue0
 t3:=Tryz.underlying3
 a3:=Tryz.isAgg3
 z3:=Tryz.sizeOf3
 v3:=Tryz.zeroValue3
 t4:=Tryz.underlying4
 a4:=Tryz.isAgg4
 z4:=Tryz.sizeOf4
 v4:=Tryz.zeroValue4
 t5:=Tryz.underlying5
 a5:=Tryz.isAgg5
 z5:=Tryz.sizeOf5
 v5:=Tryz.zeroValue5
 t9:=Tryz.underlying9
 a9:=Tryz.isAgg9
 z9:=Tryz.sizeOf9
 v9:=Tryz.zeroValue9
 t21:=Tryz.underlying21
 a21:=Tryz.isAgg21
 z21:=Tryz.sizeOf21
 v21:=Tryz.zeroValue21
 t31:=Tryz.underlying232
 a31:=Tryz.isAgg232
 z31:=Tryz.sizeOf232
 v31:=Tryz.zeroValue232
 t40:=Tryz.underlying327
 a40:=Tryz.isAgg327
 z40:=Tryz.sizeOf327
 v40:=Tryz.zeroValue327
 t46:=Tryz.underlying300
 a46:=Tryz.isAgg300
 z46:=Tryz.sizeOf300
 v46:=Tryz.zeroValue300
 t49:=Tryz.underlying65
 a49:=Tryz.isAgg65
 z49:=Tryz.sizeOf65
 v49:=Tryz.zeroValue65
 t51:=Tryz.underlying322
 a51:=Tryz.isAgg322
 z51:=Tryz.sizeOf322
 v51:=Tryz.zeroValue322
 t119:=Tryz.underlying325
 a119:=Tryz.isAgg325
 z119:=Tryz.sizeOf325
 t141:=Tryz.underlying337
 a141:=Tryz.isAgg337
 z141:=Tryz.sizeOf337
 v141:=Tryz.zeroValue337
 t152:=Tryz.underlying333
 a152:=Tryz.isAgg333
 z152:=Tryz.sizeOf333
 v152:=Tryz.zeroValue333
 t154:=Tryz.underlying335
 a154:=Tryz.isAgg335
 z154:=Tryz.sizeOf335
 v154:=Tryz.zeroValue335
 t193:=Tryz.underlying339
 a193:=Tryz.isAgg339
 z193:=Tryz.sizeOf339
 v193:=Tryz.zeroValue339
 t194:=Tryz.underlying340
 a194:=Tryz.isAgg340
 z194:=Tryz.sizeOf340
 v194:=Tryz.zeroValue340
 t196:=Tryz.underlying342
 a196:=Tryz.isAgg342
 z196:=Tryz.sizeOf342
 v196:=Tryz.zeroValue342
 t198:=Tryz.underlying344
 a198:=Tryz.isAgg344
 z198:=Tryz.sizeOf344
 v198:=Tryz.zeroValue344
 t201:=Tryz.underlying347
 a201:=Tryz.isAgg347
 z201:=Tryz.sizeOf347
 v201:=Tryz.zeroValue347
 t226:=Tryz.underlying349
 a226:=Tryz.isAgg349
 z226:=Tryz.sizeOf349
 v226:=Tryz.zeroValue349
 t227:=Tryz.underlying350
 a227:=Tryz.isAgg350
 z227:=Tryz.sizeOf350
 v227:=Tryz.zeroValue350
 g0:=by kernel_rfl
 g6:=by kernel_rfl }
open Go.RowKit Go.Lib in
theorem Tryz.strings_Fields(s:ByteArray)(w:World)(hs:s.size<4294967281)(hascii:∀(j:Nat) b,s.data.toList[j]?=some b->b.toNat<128)(htab:Lib.TabIs Tryz.prog w "strings.asciiSpace" .u8 Lib.asciiSpaceTab) :
  Calls Tryz.prog 234 #[.string s] w fun e w' =>
   e=.returned (.slice (some ⟨w.heap.size,0,none⟩) (Lib.fields s.data.toList).length (Lib.fields s.data.toList).length)/\w'=w.alloc (.cells ((Lib.fields s.data.toList).map fun l=>Value.string ⟨l.toArray⟩).toArray 9):=Any.strings_Fields Tryz.lays157 (by kernel_rfl) (by kernel_rfl) s w hs hascii htab
end Go.Proofs
namespace Go.Proofs
open Go Go.Sx
attribute [local irreducible] Go.Sx.Tri
class Tab (V:Mem):Prop where
 at_:∃t fr,V 0=some (.cells (Lib.asciiSpaceTab.map fun z=>Value.int .u8 z).toArray t fr)
theorem Tab.sub{V V':Mem}(h:Tab V)(hs:V.sub V'):Tab V':=by
 obtain⟨t,fr,h⟩:=h.at_
 exact⟨t,fr,hs _ _ h⟩
theorem Tab.is{V:Mem}{w:World}(h:Tab V)(hV:V.le w):Lib.TabIs Tryz.prog w "strings.asciiSpace" .u8 Lib.asciiSpaceTab:=by
 obtain⟨t,fr,h⟩:=h.at_
 have hg:Tryz.prog.globalNamed "strings.asciiSpace" = some 0:=by kernel_rfl
 unfold Lib.TabIs World.var?
 rw[hg,Option.bind_some,hV _ _ h]
theorem frm_new{V:Mem}{w:World}(hw:V.le w)(o:Obj):V w.heap.size=none/\Frm V w (V.set w.heap.size o) (w.alloc o):=by
 have hn:V w.heap.size=none:=by
  cases hc:V w.heap.size with
  | none=>rfl
  | some o=>have:=(Array.getElem?_eq_some_iff.1 (hw _ o hc)).1;omega
 refine⟨hn,by simp,fun b o hb=>?_,fun b hb _=>Go.RowKit.Below.heap_alloc _ _ _ hb,fun b hb=>?_,rfl,rfl⟩
 ·by_cases e:b=w.heap.size
  ·grind [Mem.set_same,World.alloc_heap_new]
  ·rw[Mem.set_ne e]at hb
   have hlt:=(Array.getElem?_eq_some_iff.1 (hw b o hb)).1
   exact(Go.RowKit.Below.heap_alloc _ _ _ hlt).trans (hw b o hb)
 grind [inr,Mem.set_ne]
def kwText:ByteArray:=qAl [97,110,100,32,98,111,111,108,32,98,111,117,110,100,32,100,101,115,99,32,101,108,115,101,32,102,97,108,115,101,32,105,102,32,105,110,116,32,105,110,118,97,114,105,97,110,116,32,108,111,99,97,108,32,108,111,103,32,109,97,120,32,109,101,97,115,117,114,101,32,109,105,110,32,110,101,119,32,110,105,108,32,110,111,116,32,111,112,32,111,114,32,112,111,116,101,110,116,105,97,108,32,112,114,111,99,32,114,101,116,117,114,110,32,114,117,108,101,32,115,99,114,105,112,116,32,115,111,114,116,32,115,112,101,99,32,116,104,105,115,32,116,114,117,101,32,116,121,112,101,32,118,97,114,32,119,104,105,108,101]
def qCb:List ByteArray:=(Lib.fields kwText.data.toList).map fun l=>⟨l.toArray⟩
theorem kwText_size:kwText.size=160:=by kernel_rfl
theorem qHc:qCb.length=31:=by kernel_rfl
theorem c194{V:Mem}(ht:Tab V):Tri Tryz.prog 194 #[] V fun e V'=>∃b,V b=none/\e=.returned (.slice (sa b) 31 31)/\V'=V.set b (.cells (qCb.map Value.string).toArray 9 (0,0)):=by
 refine x194 ?_
 unfold w194
 refine Tri.mono (R:=fun e V'=>∃b,V b=none/\e=.returned (.slice (sa b) 31 31)/\V'=V.set b (.cells (qCb.map Value.string).toArray 9 (0,0))) ?_ ?_
 ·unfold Tri
  intro w hw
  refine qCO (Tryz.strings_Fields kwText w (by rw[kwText_size];decide) ?_ (ht.is hw)) ?_
  ·have hall:(kwText.data.toList.all fun b=>decide (b.toNat<128))=true:=by kernel_rfl
   grind
  ·rintro e w' ⟨rfl,rfl⟩
   obtain⟨hn,hf⟩:=frm_new hw (.cells (qCb.map Value.string).toArray 9)
   refine⟨_,⟨w.heap.size,hn,?_,rfl⟩,?_⟩
   ·rfl
   ·have e:((Lib.fields kwText.data.toList).map fun l=>Value.string ⟨l.toArray⟩)=qCb.map Value.string:=by
     rfl
    rw[e];exact hf
 ·rintro e V' ⟨b,hb,rfl,rfl⟩
  exact⟨⟨some ⟨b,0,none⟩,31,31⟩,rfl,b,hb,rfl,rfl⟩
theorem c265{V:Mem}{s:ByteArray}:PP 265 [.string s] V (.bool false):=by
 refine x265 ?_
 unfold w265
 simp
theorem c233{V:Mem}{s:ByteArray}:PP 233 [.string s] V (.bool false):=by
 refine x233 ?_
 unfold w233
 simp
def ltB(s t:ByteArray):Bool:=Op.bytesLess s.toList t.toList
theorem c232{V:Mem}{s t:ByteArray}:PP 232 [.string s,.string t] V (.bool (ltB s t)):=by
 refine x232 ?_
 unfold w232
 refine c265.call ⟨_,rfl,fun h=>?_,fun _=>⟨rfl,rfl⟩⟩
 cases h
theorem bl_trans:∀{a b c:List UInt8},Op.bytesLess a b=true->Op.bytesLess b c=true->Op.bytesLess a c=true
 | _,[],_,h,_=>by simp[Op.bytesLess]at h
 | _,_::_,[],_,k=>by simp[Op.bytesLess]at k
 | [],_::_,_::_,_,_=>rfl
 | a::x,b::y,c::z,h,k=>by
  simp only[Op.bytesLess,Bool.or_eq_true,decide_eq_true_eq,Bool.and_eq_true,beq_iff_eq]at h k ⊢
  rcases h with h|⟨rfl,h⟩
  ·grind
  ·rcases k with k|⟨rfl,k⟩
   ·exact .inl k
   ·exact .inr ⟨rfl,bl_trans h k⟩
theorem qIk{a b c:ByteArray}(h:ltB a b=true)(k:ltB b c=true):ltB a c=true:=bl_trans h k
theorem bl_irrefl:∀l:List UInt8,Op.bytesLess l l=false
 | []=>rfl
 | a::l=>by
  have h1:¬(a<a):=by simp_all
  simp[Op.bytesLess,bl_irrefl l,h1]
theorem ltB_irrefl(a:ByteArray):ltB a a=false:=bl_irrefl _
def qJN:List ByteArray->Bool
 | a::b::l=>ltB a b&&qJN (b::l)
 | _=>true
theorem qEo:∀{l:List ByteArray},qJN l=true->∀(i j:Nat) (x y:ByteArray),i<j->l[i]?=some x->l[j]?=some y->ltB x y=true
 | [],_,i,j,x,y,_,hx,_=>by simp at hx
 | [a],_,i,j,x,y,hij,hx,hy=>by
  grind
 | a::b::l,h,i,j,x,y,hij,hx,hy=>by
  simp only[qJN,Bool.and_eq_true]at h
  cases j with
  | zero=>omega
  | succ j =>
   rw[List.getElem?_cons_succ]at hy
   cases i with
   | succ i=>rw[List.getElem?_cons_succ]at hx;exact qEo h.2 i j x y (by omega) hx hy
   | zero =>
    simp only[List.getElem?_cons_zero,Option.some.injEq]at hx;subst hx
    cases j with
    | zero=>simp_all
    | succ j=>exact qIk h.1 (qEo h.2 0 (j+1) b y (by omega) rfl hy)
theorem GenK.shr1{V:Mem}{vals:Operand->Value}{t ty:TypeId}{n:Int}(hv:vals (.tmp 19)=.int .u64 n)(hv2:vals (.const (.int .u64 1))=.int .u64 1){q:Value->Mem->Prop}(hq:q (.int .u64 (n / 2)) V) :
  GenK Tryz.prog (.binOp .shr t (.tmp 19) (.const (.int .u64 1)) t) ty vals V q:=by
 intro w hw
 refine⟨_,w,V,?_,Frm.refl hw,hq⟩
 have e:Op.shift .shr .u64 n .u64 1=pure (.int .u64 (n / 2)):=by
  unfold Op.shift
  rw[if_neg (by decide)]
  show pure (Value.int .u64 (n.fdiv (2 ^ 1)))=_
  grind
 simp_all [execOp,eqGuard,binOp_shr]
theorem qKr{xs:List ByteArray}{s:ByteArray}:hasS xs s=true↔s∈xs:=by
 grind [hasS]
def kwIx(s:ByteArray):Bool:=hasS qCb s
theorem kwIx_eq(s:ByteArray):kwIx s=isKw s:=by
 have h1:(qCb.all fun x=>qJu.any fun y=>decide (y=x))=true:=by kernel_rfl
 have h2:(qJu.all fun x=>qCb.any fun y=>decide (y=x))=true:=by kernel_rfl
 unfold kwIx isKw
 rw[Bool.eq_iff_iff,qKr,qKr]
 grind
theorem c193{V:Mem}{l:Sl}{xs:List ByteArray}{s:ByteArray}(h:qAd V l 1 (xs.map fun x=>[vS x]))(hs:qJN xs=true)(hlen:xs.length<=1000) :
  Tri Tryz.prog 193 #[l.v,.string s] V fun e V'=>∃n:Int,e=.returned (.tuple #[.int .i64 n,.bool (hasS xs s)])/\V'=V:=by
 refine x193 ?_
 unfold w193
 have hn:=h.n_eq
 have hc:=h.cap
 have hf:=h.fit
 refine⟨fun n ys V1=>∃i j:Nat,ys=[.int .i64 i,.int .i64 j]/\V1=V/\i<=j/\j<=xs.length/\n=j-i/\(∀(k:Nat) x,k<i->xs[k]?=some x->ltB x s=true)/\(∀(k:Nat) x,j<=k->xs[k]?=some x->ltB x s=false),xs.length,
  ⟨0,xs.length,by rw[hn];rfl,rfl,by omega,by omega,by omega,fun k x hk=>by omega,fun k x hk hx=>by simp_all⟩,?_⟩
 rintro n V1 v2 v3 ⟨i,j,hy,rfl,hij,hj,rfl,hlo,hhi⟩ J hJ
 simp only[List.cons.injEq,Value.int.injEq,true_and,and_true]at hy
 obtain⟨rfl,rfl⟩:=hy
 refine⟨fun hlt=>?_,fun hge=>?_⟩
 ·refine⟨⟨by omega,by omega⟩,⟨by show (0:Int)<=_;omega,by show _<=(18446744073709551615:Int);omega⟩,?_⟩
  refine GenK.shr1 (n:=(i:Int)+j) rfl rfl ⟨_,rfl,⟨by omega,by omega⟩,?_⟩
  have hm:((i:Int)+j) / 2=((i+j) / 2:Nat):=by omega
  rw[hm]
  obtain⟨x,hmx,hx,hd,hl,hp,h0,hrow⟩:=h.get (i:=(i+j) / 2) (by omega)
  refine⟨hp,h0,by omega,x,hrow,c232.call ⟨_,rfl,fun hb=>⟨⟨by omega,by omega⟩,?_⟩,fun hb=>?_⟩⟩
  ·refine hJ (j-((i+j) / 2+1)) _ _ (by omega) ⟨(i+j) / 2+1,j,rfl,rfl,by omega,hj,rfl,fun k y hk hy=>?_,hhi⟩
   rcases Nat.lt_or_ge k ((i+j) / 2) with h'|h'
   ·exact qIk (qEo hs k _ y x h' hy hx) hb
   grind
  ·refine hJ ((i+j) / 2-i) _ _ (by omega) ⟨i,(i+j) / 2,rfl,rfl,by omega,by omega,rfl,hlo,fun k y hk hy=>?_⟩
   cases hz:ltB y s with
   | false=>rfl
   | true =>
    rcases Nat.lt_or_ge ((i+j) / 2) k with h'|h'
    ·exact absurd (qIk (qEo hs _ k x y h' hx hy) hz) hb
    grind
 ·have hij':i=j:=by omega
  subst hij'
  have key:s∈xs->xs[i]?=some s:=fun hm=>by
   obtain⟨k,hk,e⟩:=List.mem_iff_getElem.1 hm
   have hk':xs[k]?=some s:=by simp_all
   rcases Nat.lt_trichotomy k i with h'|h'|h'
   ·grind [ltB_irrefl]
   ·grind
   ·have hi':i<xs.length:=by omega
    have h2:=qEo hs i k xs[i] s h' (List.getElem?_eq_getElem hi') hk'
    grind
  refine⟨fun hlt=>?_,fun hge2=>?_⟩
  ·obtain⟨x,hmx,hx,hd,hl,hp,h0,hrow⟩:=h.get (i:=i) hlt
   refine⟨hp,h0,hlt,x,hrow,fun e=>?_,fun e=>⟨hp,h0,hlt,x,hrow,c233.call ⟨_,rfl,fun hb=>?_,fun _=>?_⟩⟩⟩
   ·subst e
    exact⟨i,by rw[qKr.2 hmx],rfl⟩
   ·cases hb
   ·refine⟨i,?_,rfl⟩
    grind [hasS,absurd]
  ·refine⟨i,?_,rfl⟩
   grind [hasS]
theorem c140{V:Mem}{s:ByteArray}(ht:Tab V):PP 140 [.string s] V (.bool (isKw s)):=by
 refine Pur.mk ?_
 refine x140 ?_
 unfold w140
 refine Tri.mono (c194 ht) ?_
 rintro _ V' ⟨b,hb,rfl,rfl⟩
 refine⟨⟨some ⟨b,0,none⟩,31,31⟩,rfl,?_⟩
 have hrows:qAd (V.set b (.cells ((qCb.map Value.string).toArray) 9 (0,0))) ⟨some ⟨b,0,none⟩,31,31⟩ 1 (qCb.map fun x=>[vS x]) :=
  qAd.cells (xs:=qCb) (row:=fun x=>[vS x]) mss (by simp;rfl) (fun _=>rfl) qHc.symm (Nat.le_of_ble_eq_true rfl)
 refine Tri.mono (c193 hrows (by kernel_rfl) (by rw[qHc];decide)) ?_
 rintro _ V2 ⟨n,rfl,rfl⟩
 exact⟨n,_,rfl,by rw[<- kwIx_eq];rfl,Mem.sub_new hb _⟩
theorem c101{V:Mem}[Tab V]{s:ByteArray}:PP 101 [.string s] V (.bool (qAQ s)):=by
 refine x101 ?_
 unfold w101
 refine⟨fun h=>?_,fun h=>⟨fun h1=>?_,fun h1=>?_⟩⟩
 ·subst h;exact⟨rfl,rfl⟩
 ·grind [qAQ]
 ·have h0:s.size≠0:=fun e=>h (by
   have:s.data=#[]:=Array.eq_empty_of_size_eq_zero e
   cases s;simp only at this;subst this;rfl)
  refine⟨by omega,c139.call ⟨_,rfl,fun h2=>?_,fun h2=>?_⟩⟩
  ·refine(c140 inferInstance).call ⟨_,rfl,fun hk=>?_,fun hk=>?_⟩
   ·simp[qAQ,hk]
   ·refine qAJ s.size (fun i V1=>V1=V/\∀j:Nat,j<i->qEx (qBd s j)=true) ⟨rfl,by simp⟩ ?_
    rintro i b _ J hi ⟨rfl,hj⟩ hJ
    refine⟨fun hlt=>⟨by omega,c139.call ⟨_,rfl,fun hw=>?_,fun hw=>⟨⟨by omega,by omega⟩,hJ (by omega) _ _ ⟨rfl,fun j hj'=>?_⟩⟩⟩⟩,fun hge=>?_⟩
    ·rw[cls_word]at hw
     grind [qEx,qBd,qAQ]
    ·rcases Nat.lt_succ_iff_lt_or_eq.1 hj' with h'|rfl
     ·exact hj j h'
     simp_all [cls_word]
    grind [Nat,qEx,qBd,qAQ,isKw,decide_eq_true,cls_two]
  grind [cls_two,qCd,qBd,qAQ]
/-! Nodes. -/
def qAM(op:Int):Int:=if (1<=op/\op<=4)∨op=6 then 0 else if op=5∨op=8∨op=18∨op=24 then 1 else if op=7 then -1 else if op=21 then 3 else if 9<=op/\op<=23 then 2 else -2
theorem c239{V:Mem}{op:Int}:PP 239 [.int .i64 op] V (.int .i64 (qAM op)):=by
 refine x239 ?_
 unfold w239
 have key:∀n:Int,qAM op=n->Ending.returned (.int .i64 n)=Ending.returned (.int .i64 (qAM op)):=fun n h=>by rw[h]
 unfold qAM at key
 repeat' (first|intro _|apply And.intro)
 all_goals first|rfl | (refine key _ ?_;grind)
theorem c235{V:Mem}{op:Int}:PP 235 [.int .i64 op] V (.tuple #[.int .i64 (if qAM op=-2 then 2 else qAM op),.bool (decide (qAM op≠-2))]):=by
 refine x235 ?_
 unfold w235
 have key:∀(n:Int) (b:Bool),(if qAM op=-2 then 2 else qAM op)=n->decide (qAM op≠-2)=b->Ending.returned (.tuple #[.int .i64 n,.bool b])=Ending.returned (.tuple #[.int .i64 (if qAM op=-2 then 2 else qAM op),.bool (decide (qAM op≠-2))]):=fun n b h k=>by rw[h,k]
 unfold qAM at key
 repeat' (first|intro _|apply And.intro)
 all_goals first|rfl | (refine key _ _ ?_ ?_ <;> grind)
def sThis:ByteArray:=qAl [116,104,105,115]
def nmB(op:Int)(s:ByteArray):Bool:=if op=4 then decide (s=sThis)||qAQ s else if op=5∨op=6∨op=7 then qAQ s else decide (s=qAl [])
def numB(op n:Int):Bool:=if op=1 then decide (0<=n/\n<=1099511627776) else if op=2 then decide (n=0∨n=1) else decide (n=0)
def qDa(op n:Int)(s:ByteArray)(len:Int):Bool:=decide (qAM op≠-2/\(0<=qAM op->len=qAM op)/\(qAM op=-1->len<=6))&&nmB op s&&numB op n
theorem c240{V:Mem}{e:E}:PP 240 [e.v] V (.bool (nmB e.op e.s)):=by
 refine x240 ?_
 unfold w240
 have key:∀b:Bool,nmB e.op e.s=b->Ending.returned (.bool b)=Ending.returned (.bool (nmB e.op e.s)):=fun n h=>by rw[h]
 unfold nmB sThis at key
 repeat' (first|refine c85.call ⟨_,rfl,?_⟩|intro _|apply And.intro)
 all_goals first|rfl | (refine key _ ?_;grind)
theorem c236{V:Mem}[Tab V]{e:E}:PP 236 [e.v] V (.bool (nmB e.op e.s&&numB e.op e.n)):=by
 refine x236 ?_
 unfold w236
 have key:∀b:Bool,(nmB e.op e.s&&numB e.op e.n)=b->Ending.returned (.bool b)=Ending.returned (.bool (nmB e.op e.s&&numB e.op e.n)):=fun n h=>by rw[h]
 unfold nmB numB sThis at key
 repeat' (first|refine c101.call ⟨_,rfl,?_⟩|intro _|apply And.intro)
 all_goals first|rfl | (refine key _ ?_;grind)
theorem c202{V:Mem}{e:E}{len:Int}(hl:(e.l.n:Int)=len):PP 202 [e.v] V (.bool (qDa e.op e.n e.s len)):=by
 refine x202 ?_
 unfold w202
 rw[hl]
 have key:∀b:Bool,qDa e.op e.n e.s len=b->Ending.returned (.bool b)=Ending.returned (.bool (qDa e.op e.n e.s len)):=fun n h=>by rw[h]
 unfold qDa numB at key
 refine c239.call ⟨_,rfl,?_⟩
 repeat' (first|refine(c240 (e:=e)).call ⟨_,rfl,?_⟩|intro _|apply And.intro)
 all_goals first|rfl | (refine key _ ?_;grind)
mutual
def okE(d:Int):E->Bool | .mk op n s _ k=>decide (d<=60)&&qDa op n s k.length&&okEs (d+1) k
def okEs(d:Int):List E->Bool | []=>true|x::xs=>okE d x&&okEs d xs
end
mutual
def szE:E->Nat | .mk _ _ _ _ k=>1+szEs k
def szEs:List E->Nat | []=>0|x::xs=>szE x+szEs xs
end
mutual
def cntE(d:Int):E->Int | .mk op n s _ k=>if 60<d then 1001 else if qDa op n s k.length=true then qEC (d+1) 1 k else 1001
def qEC(d acc:Int):List E->Int | []=>acc|x::xs=>if 1000<acc+cntE d x then acc+cntE d x else qEC d (acc+cntE d x) xs
end
mutual
def vE(left d:Int):E->Bool×Int | .mk op n s _ k=>if 0<=left-1/\d<=60/\qDa op n s k.length=true then vEs (left-1) (d+1) k else (false,left-1)
def vEs(left d:Int):List E->Bool×Int | []=>(true,left) | x::xs=>if (vE left d x).1=true then vEs (vE left d x).2 d xs else (false,(vE left d x).2)
end
def qAI(e:E):Bool:=decide (okE 1 e=true/\szE e<=1000)
mutual
theorem vE_ok:∀(left d:Int) (e:E),((vE left d e).1=true↔okE d e=true/\(szE e:Int)<=left)/\((vE left d e).1=true->(vE left d e).2=left-szE e)
 | left,d,.mk op n s l k=>by
  have ih:=vEs_ok (left-1) (d+1) k
  grind [vE,okE,szE]
theorem vEs_ok:∀(left d:Int) (k:List E),0<=left->((vEs left d k).1=true↔okEs d k=true/\(szEs k:Int)<=left)/\((vEs left d k).1=true->(vEs left d k).2=left-szEs k)
 | left,d,[],h=>by simp[vEs,okEs,szEs,h]
 | left,d,x::xs,h=>by
  have h1:=vE_ok left d x
  have h2:=vEs_ok (vE left d x).2 d xs
  grind [vEs,okEs,szEs]
end
mutual
theorem cntE_ok:∀(d:Int) (e:E),1<=cntE d e/\(cntE d e<=1000↔okE d e=true/\szE e<=1000)/\(cntE d e<=1000->cntE d e=szE e)/\cntE d e<=1001+1000*(61-d).toNat
 | d,.mk op n s l k=>by
  have ih:=cntEs_ok (d+1) 1 k (by omega) (by omega)
  grind [cntE,okE,szE]
theorem cntEs_ok:∀(d acc:Int) (k:List E),1<=acc->acc<=1000->acc<=qEC d acc k/\(qEC d acc k<=1000↔okEs d k=true/\acc+szEs k<=1000)/\(qEC d acc k<=1000->qEC d acc k=acc+szEs k)/\qEC d acc k<=2001+1000*(61-d).toNat
 | d,acc,[],h,h'=>by simp[qEC,okEs,szEs];omega
 | d,acc,x::xs,h,h'=>by
  have h1:=cntE_ok d x
  have h2:=cntEs_ok d (acc+cntE d x) xs (by omega)
  grind [qEC,okEs,szEs]
end
theorem validE_cnt(e:E):decide (cntE 1 e<=1000)=qAI e:=by
 simp_all [cntE_ok,qAI]
theorem validE_v(e:E):(vE 1000 1 e).1=qAI e:=by
 grind [vE_ok,qAI]
theorem vE_bound{left d:Int}{e:E}(h:(vE left d e).1=true):0<=(vE left d e).2/\(vE left d e).2<=left:=by
 grind [vE_ok]
theorem cntE_eq(d:Int)(e:E):cntE d e=if 60<d then 1001 else if qDa e.op e.n e.s e.k.length=true then qEC (d+1) 1 e.k else 1001:=by
 cases e;unfold cntE;rfl
theorem vE_eq(left d:Int)(e:E):vE left d e=if 0<=left-1/\d<=60/\qDa e.op e.n e.s e.k.length=true then vEs (left-1) (d+1) e.k else (false,left-1):=by
 cases e;unfold vE;rfl
theorem cntEs_cons(d acc:Int)(x:E)(xs:List E):qEC d acc (x::xs)=if 1000<acc+cntE d x then acc+cntE d x else qEC d (acc+cntE d x) xs:=by rw[qEC]
theorem vEs_cons(left d:Int)(x:E)(xs:List E):vEs left d (x::xs)=if (vE left d x).1=true then vEs (vE left d x).2 d xs else (false,(vE left d x).2):=by rw[vEs]
theorem cntEs_nil(d acc:Int):qEC d acc []=acc:=by rw[qEC]
theorem vEs_nil(left d:Int):vEs left d []=(true,left):=by rw[vEs]
theorem c152{V:Mem}:∀e:E,E.Ok V e->∀d:Int,0<=d->d<=61->PP 152 [e.v,.int .i64 d] V (.int .i64 (cntE d e)):=by
 intro e
 induction e using E.ind with
 | h e ih =>
 intro ho d hd0 hd
 have hr:=ho.rows
 refine x152 ?_
 unfold w152
 refine⟨fun h=>?_,fun h=>(c202 (e:=e) rfl).call ⟨_,rfl,fun hn=>?_,fun hn=>?_⟩⟩
 ·rw[cntE_eq,if_pos h];exact⟨rfl,rfl⟩
 ·rw[hr.n_eq]at hn
  rw[cntE_eq,if_neg h,if_pos hn]
  refine loop3s qDt e.k.length (fun i acc V1=>V1=V/\1<=acc/\acc<=1000/\qEC (d+1) 1 e.k=qEC (d+1) acc (e.k.drop i)) ⟨rfl,by omega,by omega,rfl⟩ ?_
  rintro i acc c _ J hi ⟨rfl,ha0,ha,he⟩ hJ
  refine⟨fun hlt=>?_,fun hge=>?_⟩
  ·obtain⟨x,hm,hx,hdr,hl,hp,hz,hrow⟩:=hr.get hlt
   have hc:=cntE_ok (d+1) x
   rw[hdr,cntEs_cons]at he
   refine⟨hp,hz,hlt,_,_,_,_,hrow,⟨by omega,by omega⟩,(ih x hm (ho.kids x hm) (d+1) (by omega) (by omega)).call ⟨_,rfl,⟨by omega,by omega⟩,fun hb=>?_,fun hb=>⟨hr.succ hlt,?_⟩⟩⟩
   ·simp_all
   grind
  ·rw[(hr.done hge).1,cntEs_nil]at he;simp_all
 ·rw[hr.n_eq]at hn
  rw[cntE_eq,if_neg h,if_neg hn];exact⟨rfl,rfl⟩
theorem c117{V:Mem}{e:E}(h:E.Ok V e):PP 117 [e.v] V (.bool (qAI e)):=by
 refine x117 ?_
 unfold w117
 refine(c152 e h 1 (by omega) (by omega)).call ⟨_,rfl,?_⟩
 rw[validE_cnt];simp_all
theorem c197{V:Mem}{b t:Nat}{n:Int}(h:V b=some (cell (.int .i64 n) t))(h0:-1000<=n)(h1:n<=100000) :
  Tri Tryz.prog 197 #[pv b] V fun e V'=>e=.returned (.bool (decide (0<=n-1)))/\V'=V.set b (cell (.int .i64 (n-1)) t):=by
 refine x197 ?_
 unfold w197
 refine⟨by simp,by simp,_,qBG h,⟨by omega,by omega⟩,by simp,by simp,StT.cell h ⟨by simp,by simp,_,qBG mss,rfl,rfl⟩⟩
set_option maxRecDepth 10000 in
theorem c195{V0:Mem}[hT:Tab V0]{b t:Nat}(hb:V0 b=none):∀e:E,E.Ok V0 e->∀(V:Mem),V0.sub V->∀left d:Int,V b=some (cell (.int .i64 left) t)->0<=left->left<=1000->0<=d->d<=61 ->
    Tri Tryz.prog 195 #[e.v,.int .i64 d,pv b] V fun r V'=>r=.returned (.bool (vE left d e).1)/\V'=V.set b (cell (.int .i64 (vE left d e).2) t):=by
  intro e
  induction e using E.ind with
  | h e ih =>
  intro ho V hV left d hl hl0 hl1 hd0 hd
  have hr:=ho.rows
  have hn:=hr.n_eq
  refine Tri.less (x195 ?_)
  unfold w195
  refine c235.call ⟨_,_,rfl,Tri.mono (c197 hl (by omega) (by omega)) ?_⟩
  rintro _ _ ⟨rfl,rfl⟩
  refine⟨_,rfl,?_⟩
  -- no
  have no:¬(0<=left-1/\d<=60/\qDa e.op e.n e.s e.k.length=true)->∃W,(Ending.returned (.bool false)=Ending.returned (.bool (vE left d e).1)/\W=V.set b (cell (.int .i64 (vE left d e).2) t))/\W.sub (V.set b (cell (.int .i64 (left-1)) t)):=by
    intro h
    rw[vE_eq,if_neg h]
    exact⟨_,⟨rfl,rfl⟩,Mem.sub.refl _⟩
  -- yes
  have yes:(0<=left-1/\d<=60/\qDa e.op e.n e.s e.k.length=true)->qAA [(.int .i64 d)] 3 (V.set b (cell (.int .i64 (left-1)) t)) fun v10 V4 =>
        qAA [(pv b)] 228 V4 fun v11 V5 =>
        Tri Tryz.prog 199 #[(.slice e.l.p e.l.n e.l.c),(.func (.func 237) #[] #[(.pointer (qAa v10 0)),(.pointer (qAa v11 0))])] V5 fun r V6=>∃v12:Bool,r=.returned (.bool v12) /\
        ∃W,(Ending.returned (.bool (!v12))=Ending.returned (.bool (vE left d e).1)/\W=V.set b (cell (.int .i64 (vE left d e).2) t))/\W.sub V6:=by
    intro h b1 hb1 b2 hb2
    rw[vE_eq,if_pos h]
    have n1:b≠b1:=fun e=>by grind [Mem.set_same]
    have n2:b1≠b2:=fun e=>by grind [Mem.set_same]
    have n3:b≠b2:=fun e=>by grind [Mem.set_ne,Mem.set_same]
    rw[Mem.set_ne (fun e=>n1 e.symm)]at hb1
    rw[Mem.set_ne (fun e=>n2 e.symm),Mem.set_ne (fun e=>n3 e.symm)]at hb2
    have v1:V0 b1=none:=by cases h':V0 b1 with
      | none=>rfl
      | some x=>rw[hV _ _ h']at hb1;cases hb1
    have v2:V0 b2=none:=by cases h':V0 b2 with
      | none=>rfl
      | some x=>rw[hV _ _ h']at hb2;cases hb2
    let M:Int->Mem:=fun lf=>((V.set b (cell (.int .i64 lf) t)).set b1 (cell (.int .i64 d) 3)).set b2 (cell (pv b) 228)
    have hM:∀lf,V0.sub (M lf):=fun lf=>((hV.set hb _).set v1 _).set v2 _
    have hMb:∀lf,M lf b=some (cell (.int .i64 lf) t):=fun lf=>by grind [Mem.set_ne,Mem.set_same]
    have hM1:∀lf,M lf b1=some (cell (.int .i64 d) 3):=fun lf=>by grind [Mem.set_ne,Mem.set_same]
    have hM2:∀lf,M lf b2=some (cell (pv b) 228):=fun lf=>by grind [Mem.set_same]
    have hMs:∀lf lf',(M lf).set b (cell (.int .i64 lf') t)=M lf':=fun lf lf'=>by
      grind [Mem.set_comm,Mem.set_set]
    have hW:∀lf,(V.set b (cell (.int .i64 lf) t)).sub (M lf):=fun lf=>by
      refine((Mem.sub.refl _).set ?_ _).set ?_ _
      · grind [Mem.set_ne]
      grind [Mem.set_ne]
    refine Tri.mono (g199 (l:=e.l) (xs:=e.k) (first:=[]) (caps:=[pv b1,pv b2]) Tryz.call237
      (fun i V1=>∃lf,V1=M lf/\0<=lf/\lf<=1000/\vEs (left-1) (d+1) e.k=vEs lf (d+1) (e.k.drop i)) (fun i V1=>∃lf,V1=M lf/\vEs (left-1) (d+1) e.k=(false,lf)) ?_ ⟨left-1,rfl,by omega,by omega,rfl⟩ ?_) ?_
    · rintro i _ ⟨lf,rfl,-⟩;exact hr.sub (hM lf)
    · rintro i x _ hx ⟨lf,rfl,hf0,hf1,he⟩
      have hm:=List.mem_of_getElem? hx
      have hil:=(List.getElem?_eq_some_iff.1 hx).1
      have hdr:e.k.drop i=x::e.k.drop (i+1):=by rw[List.drop_eq_getElem_cons hil,(List.getElem?_eq_some_iff.1 hx).2]
      rw[hdr,vEs_cons]at he
      refine x237 ?_
      unfold w237
      refine⟨_,qBG (hM1 lf),⟨by omega,by omega⟩,_,qBG (hM2 lf),Tri.mono (ih x hm (ho.kids x hm) (M lf) (hM lf) lf (d+1) (hMb lf) hf0 hf1 (by omega) (by omega)) ?_⟩
      rintro _ _ ⟨rfl,rfl⟩
      refine⟨_,rfl,_,rfl,fun hb=>?_,fun hb=>?_⟩
      · simp_all
      · have hb:(vE lf (d+1) x).1=true:=by simpa using hb
        have:=vE_bound hb
        grind
    · rintro _ _ (⟨i,rfl,lf,rfl,he⟩|⟨rfl,lf,rfl,hf0,hf1,he⟩)
      · simp_all
      · rw[List.drop_length,vEs_nil]at he
        exact⟨_,rfl,_,⟨by rw[he];rfl,rfl⟩,by rw[he];exact hW lf⟩
  have key:qDa e.op e.n e.s e.k.length=(decide (qAM e.op≠-2/\(0<=qAM e.op->(e.k.length:Int)=qAM e.op)/\(qAM e.op=-1->(e.k.length:Int)<=6))&&(nmB e.op e.s&&numB e.op e.n)):=by grind [qDa]
  have pr:-2<=qAM e.op:=by unfold qAM;grind
  rw[key]at no yes
  have hnI:(e.k.length:Int)=(e.l.n:Int):=by rw[hn]
  rw[hnI]at no yes
  generalize hkn:(e.l.n:Int)=kn at no yes ⊢
  generalize hpn:qAM e.op=pn at no yes pr ⊢
  generalize hnm:(nmB e.op e.s&&numB e.op e.n)=nm at no yes ⊢
  haveI:Tab (V.set b (cell (.int .i64 (left-1)) t)):=Tab.sub hT (hV.set hb _)
  refine⟨fun h8=>⟨fun h60=>no fun h=>absurd h.2.1 (Int.not_le.2 h60),fun h60=>⟨fun h7=>(c236 (e:=e)).call ⟨nm,by rw[hnm],fun h9=>?_,fun h9=>no ?_⟩,fun h7=>no ?_⟩⟩,fun h8=>no ?_⟩
  · grind
  · simp_all
  · simp_all
  grind
theorem c143{V:Mem}[Tab V]{e:E}(h:E.Ok V e):PP 143 [e.v] V (.bool (qAI e)):=by
 refine Pur.mk (x143 ?_)
 unfold w143
 intro b hb
 refine Tri.mono (c195 hb e h _ (Mem.sub_new hb _) 1000 1 mss (by omega) (by omega) (by omega) (by omega)) ?_
 rintro _ _ ⟨rfl,rfl⟩
 rw[validE_v,Mem.set_set]
 exact⟨_,rfl,rfl,Mem.sub_new hb _⟩
def fop:List E->Int | []=>0|e::_=>e.op
def qFd(op:Int)(s:ByteArray)(es:List E)(nl nx:Int):Bool :=
 if op=1 then qAQ s&&decide ((es.length:Int)=1/\nl=0/\nx=0) else if op=2 then qAQ s&&decide ((es.length:Int)=2/\nl=0/\nx=0) else if op=3 then decide (s=qAl []/\(es.length:Int)=1)
 else if op=4 then decide (s=qAl []/\(es.length:Int)=1/\nx=0) else if op=5 then decide (s=qAl []/\(es.length:Int)<=1/\nl=0/\nx=0) else if op=6 then decide (s=qAl []/\(es.length:Int)=1/\fop es=7/\nl=0/\nx=0) else false
def qBB(op:Int)(s:ByteArray)(es:List E)(nl nx:Int):Bool:=qFd op s es nl nx&&es.all qAI
theorem c201{V:Mem}{s:S}(h:S.Ok V s){lo hi:Int}:PP 201 [s.v,.int .i64 lo,.int .i64 hi] V (.bool (decide (lo<=s.es.length/\(s.es.length:Int)<=hi)&&s.es.all qAI)):=by
 have hr:=h.eRows
 have hn:=hr.n_eq
 rw[show s.v=.agg #[.int .i64 s.op,.string s.s,.slice s.el.p s.el.n s.el.c,.slice s.ll.p s.ll.n s.ll.c,.slice s.xl.p s.xl.n s.xl.c] by unfold S.v;rw[S.row_eq];rfl]
 refine x201 ?_
 unfold w201
 refine⟨fun h1=>?_,fun h1=>⟨fun h2=>?_,fun h2=>?_⟩⟩
 ·grind
 ·grind
 ·rw[decide_eq_true (by omega),Bool.true_and]
  refine qAJ s.es.length (fun i V1=>V1=V/\s.es.all qAI=(s.es.drop i).all qAI) ⟨rfl,rfl⟩ ?_
  rintro i b _ J hi ⟨rfl,he⟩ hJ
  refine⟨fun hlt=>?_,fun hge=>?_⟩
  ·obtain⟨x,hm,hx,hdr,hl,hp,hz,hrow⟩:=hr.get hlt
   rw[hdr,List.all_cons]at he
   refine⟨hp,hz,hlt,_,_,_,_,hrow,(c117 (h.eOk x hm)).call ⟨_,rfl,fun hb=>⟨hr.succ hlt,hJ hl _ _ ⟨rfl,?_⟩⟩,fun hb=>?_⟩⟩
   ·simp_all
   simp_all
  grind
theorem qGb{V:Mem}{s:S}(h:S.Ok V s):(s.es=[]/\s.el.n=0)∨∃e0 r,s.es=e0::r/\0<s.el.n/\¬(s.el.p=none)/\¬(qAa s.el.p 0=none)/\V.rowp s.el.p 0 4=some [.int .i64 e0.op,.int .i64 e0.n,.string e0.s,.slice e0.l.p e0.l.n e0.l.c]:=by
 have hr:=h.eRows
 have hn:=hr.n_eq
 cases hes:s.es with
 | nil=>simp_all
 | cons e0 r =>
  have h0:((0:Nat):Int)<(s.el.n:Int):=by simp_all
  obtain⟨x,hm,hx,hdr,hl,hp,hz,hrow⟩:=hr.get h0
  rw[hes]at hx
  simp only[List.getElem?_cons_zero,Option.some.injEq]at hx
  subst hx
  refine .inr ⟨e0,r,rfl,by omega,hp,fun e=>?_,?_⟩
  ·cases hq:s.el.p with
   | none=>exact hp hq
   | some a=>rw[hq]at e;cases e
  grind [E.row,vI,vS,Sl.v]
set_option maxRecDepth 4000 in
theorem c151{V:Mem}{s:S}(h:S.Ok V s):PP 151 [s.v] V (.bool (qBB s.op s.s s.es s.ls.length s.xs.length)):=by
 have hf:=qGb h
 have cx:=fun lo hi=>c201 h (lo:=lo) (hi:=hi)
 have hnl:=h.lRows.n_eq
 have hnx:=h.xRows.n_eq
 rw[show s.v=.agg #[.int .i64 s.op,.string s.s,.slice s.el.p s.el.n s.el.c,.slice s.ll.p s.ll.n s.ll.c,.slice s.xl.p s.xl.n s.xl.c] by unfold S.v;rw[S.row_eq];rfl]at cx ⊢
 refine x151 ?_
 unfold w151
 rw[<- hnl,<- hnx]
 generalize hX:qBB s.op s.s s.es s.ll.n s.xl.n=X
 have key:∀b:Bool,X=b->Ending.returned (.bool b)=Ending.returned (.bool X):=fun n h=>by rw[h]
 unfold qBB qFd at hX
 generalize hva:s.es.all qAI=va at cx
 rcases hf with⟨he,hn⟩|⟨e0,r,he,hn,hp,hp2,hrow⟩
 ·have hlen:(s.es.length:Int)=0:=by rw[he];rfl
  have hlen':s.es.length=0:=by rw[he];rfl
  rw[hlen]at cx
  rw[hva,hlen]at hX
  repeat' (first|refine c85.call ⟨_,rfl,?_⟩|refine(cx _ _).call ⟨_,rfl,?_⟩|apply And.intro|intro _)
  all_goals first|rfl | (refine key _ ?_;clear key cx;grind) | (exfalso;clear key cx;grind)
 ·have hfo:fop s.es=e0.op:=by rw[he];rfl
  generalize hlen:(s.es.length:Int)=len at cx
  rw[hva,hlen,hfo]at hX
  have hl0:0<len:=by grind
  have hns:(s.el.n:Int)=len:=by rw[<- hlen,h.eRows.n_eq]
  have c11:=cx 1 1
  have c22:=cx 2 2
  have c01:=cx 0 1
  rw[show decide (1<=len/\len<=1)=decide (len=1) by grind]at c11
  rw[show decide (2<=len/\len<=2)=decide (len=2) by grind]at c22
  rw[show decide (0<=len/\len<=1)=decide (len<=1) by grind]at c01
  repeat' (first|refine c85.call ⟨_,rfl,?_⟩|refine c11.call ⟨_,rfl,?_⟩|refine c22.call ⟨_,rfl,?_⟩|refine c01.call ⟨_,rfl,?_⟩|refine⟨_,_,_,_,hrow,?_⟩|exact hp|exact hp2|apply And.intro|intro _)
  all_goals first|rfl | (refine key _ ?_;clear key cx c11 c22 c01;grind) | omega | (exfalso;clear key cx c11 c22 c01;grind)
mutual
def okS(d:Int):S->Bool | .mk op s _ es _ ls _ xs=>decide (d<=60)&&qBB op s es ls.length xs.length&&qFQ (d+1) ls&&qFQ (d+1) xs
def qFQ(d:Int):List S->Bool | []=>true|x::xs=>okS d x&&qFQ d xs
end
mutual
def szS:S->Nat | .mk _ _ _ _ _ ls _ xs=>1+qEg ls+qEg xs
def qEg:List S->Nat | []=>0|x::xs=>szS x+qEg xs
end
mutual
def cntS(d acc:Int):S->Int
 | .mk op s _ es _ ls _ xs =>
  if 60<d then 201 else if qBB op s es ls.length xs.length=true then
    if acc+1<=200 then
      if acc+1+qCj (d+1) 0 ls<=200 then acc+1+qCj (d+1) 0 ls+qCj (d+1) 0 xs else acc+1+qCj (d+1) 0 ls
    else acc+1
  else 201
def qCj(d acc:Int):List S->Int | []=>acc|x::xs=>if 200<cntS d acc x then cntS d acc x else qCj d (cntS d acc x) xs
end
def gd{α:Type}(d left:Int)(l:List α)(r:Bool×Int):Bool×Int:=if 60<d/\l≠[] then (false,left) else r
mutual
def vS(left d:Int):S->Bool×Int
 | .mk op s _ es _ ls _ xs =>
  if 0<=left-1/\qBB op s es ls.length xs.length=true then
    if (gd (d+1) (left-1) ls (vSs (left-1) (d+1) ls)).1=true then
      gd (d+1) (gd (d+1) (left-1) ls (vSs (left-1) (d+1) ls)).2 xs (vSs (gd (d+1) (left-1) ls (vSs (left-1) (d+1) ls)).2 (d+1) xs)
    else (false,(gd (d+1) (left-1) ls (vSs (left-1) (d+1) ls)).2)
  else (false,left-1)
def vSs(left d:Int):List S->Bool×Int | []=>(true,left) | x::xs=>if (vS left d x).1=true then vSs (vS left d x).2 d xs else (false,(vS left d x).2)
end
def vSl(left d:Int)(l:List S):Bool×Int:=gd d left l (vSs left d l)
theorem vSs_cons(left d:Int)(x:S)(xs:List S):vSs left d (x::xs)=if (vS left d x).1=true then vSs (vS left d x).2 d xs else (false,(vS left d x).2):=by rw[vSs]
theorem vSs_nil(left d:Int):vSs left d []=(true,left):=by rw[vSs]
theorem cntSs_cons(d acc:Int)(x:S)(xs:List S):qCj d acc (x::xs)=if 200<cntS d acc x then cntS d acc x else qCj d (cntS d acc x) xs:=by rw[qCj]
theorem cntSs_nil(d acc:Int):qCj d acc []=acc:=by rw[qCj]
theorem vS_eq(left d:Int)(x:S):vS left d x=if 0<=left-1/\qBB x.op x.s x.es x.ls.length x.xs.length=true then (if (vSl (left-1) (d+1) x.ls).1=true then vSl (vSl (left-1) (d+1) x.ls).2 (d+1) x.xs else (false,(vSl (left-1) (d+1) x.ls).2)) else (false,left-1):=by
 cases x;unfold vS;rfl
theorem cntS_eq(d acc:Int)(x:S):cntS d acc x=if 60<d then 201 else if qBB x.op x.s x.es x.ls.length x.xs.length=true then
  if acc+1<=200 then
   if acc+1+qCj (d+1) 0 x.ls<=200 then acc+1+qCj (d+1) 0 x.ls+qCj (d+1) 0 x.xs else acc+1+qCj (d+1) 0 x.ls
  else acc+1
 else 201:=by
 cases x;unfold cntS;rfl
mutual
theorem cntS_ok:∀(d acc:Int) (e:S),0<=acc->acc<=200->acc+1<=cntS d acc e/\(cntS d acc e<=200↔okS d e=true/\acc+szS e<=200)/\(cntS d acc e<=200->cntS d acc e=acc+szS e)/\cntS d acc e<=201+200*(61-d).toNat
 | d,acc,.mk op s _ es _ ls _ xs,h,h'=>by
  have i1:=qEV (d+1) 0 ls (by omega) (by omega)
  have i2:=qEV (d+1) 0 xs (by omega) (by omega)
  unfold cntS okS szS
  grind
theorem qEV:∀(d acc:Int) (k:List S),0<=acc->acc<=200->acc<=qCj d acc k/\(qCj d acc k<=200↔qFQ d k=true/\acc+qEg k<=200)/\(qCj d acc k<=200->qCj d acc k=acc+qEg k)/\qCj d acc k<=201+200*(61-d).toNat
 | d,acc,[],h,h'=>by simp[qCj,qFQ,qEg];omega
 | d,acc,x::xs,h,h'=>by
  have h1:=cntS_ok d acc x h h'
  have h2:=qEV d (cntS d acc x) xs (by omega)
  grind [qCj,qFQ,qEg]
end
theorem okSs_deep{d:Int}(h:60<d):∀l:List S,l≠[]->qFQ d l=false
 | [],hl=>absurd rfl hl
 | .mk _ _ _ _ _ _ _ _::xs,_=>by
  grind [qFQ,okS]
mutual
theorem vS_ok:∀(left d:Int) (e:S),d<=60->((vS left d e).1=true↔okS d e=true/\(szS e:Int)<=left)/\((vS left d e).1=true->(vS left d e).2=left-szS e)
 | left,d,.mk op s _ es _ ls _ xs,hd=>by
  have i1:=vSs_ok (left-1) (d+1) ls
  have i2:=fun l=>vSs_ok l (d+1) xs
  have d1:=fun h=>okSs_deep (d:=d+1) h ls
  have d2:=fun h=>okSs_deep (d:=d+1) h xs
  grind [vS,okS,szS,gd,qBB,vSs,qFQ,qEg,absurd]
theorem vSs_ok:∀(left d:Int) (k:List S),0<=left->¬(60<d/\k≠[])->((vSs left d k).1=true↔qFQ d k=true/\(qEg k:Int)<=left)/\((vSs left d k).1=true->(vSs left d k).2=left-qEg k)
 | left,d,[],h,_=>by simp[vSs,qFQ,qEg,h]
 | left,d,x::xs,h,hd=>by
  have h1:=vS_ok left d x (by grind)
  have h2:=vSs_ok (vS left d x).2 d xs
  grind [vSs_cons,qFQ,qEg]
end
def qDL(l:List S):Bool:=decide (qFQ 1 l=true/\qEg l<=200)
theorem validSs_cnt(l:List S):decide (qCj 1 0 l<=200)=qDL l:=by
 have:=qEV 1 0 l (by omega) (by omega)
 unfold qDL
 grind
theorem validSs_v(l:List S):(vSl 200 1 l).1=qDL l:=by
 have:=(vSs_ok 200 1 l (by omega) (by omega)).1
 grind [qDL,vSl,gd]
theorem S.v_eq(s:S):s.v=.agg #[.int .i64 s.op,.string s.s,.slice s.el.p s.el.n s.el.c,.slice s.ll.p s.ll.n s.ll.c,.slice s.xl.p s.xl.n s.xl.c]:=by unfold S.v;rw[S.row_eq];rfl
theorem S.row_get{V:Mem}{p:Option Addr}{i:Nat}{x:S}(h:V.rowp p i 5=some x.row):V.rowp p i 5=some [.int .i64 x.op,.string x.s,.slice x.el.p x.el.n x.el.c,.slice x.ll.p x.ll.n x.ll.c,.slice x.xl.p x.xl.n x.xl.c]:=by
 rw[h,S.row_eq];rfl
theorem qAe{p:Option Addr}{n:Nat}(h:¬(p=none)):¬(qAa p n=none):=by
 cases p with
 | none=>grind
 | some a=>intro e;cases e
def CntP(V:Mem)(l:List S):Prop:=∀(sl:Sl) (d:Int),qAd V sl 5 (l.map S.row)->(∀x∈l,S.Ok V x)->0<=d->d<=61->PP 116 [sl.v,.int .i64 d] V (.int .i64 (qCj d 0 l))
theorem cntP_step{V:Mem}{l:List S}(hk:∀x∈l,CntP V x.ls/\CntP V x.xs):CntP V l:=by
 intro sl d hr hok hd0 hd
 refine x116 ?_
 unfold w116
 refine loop3s qDt l.length (fun i acc V1=>V1=V/\0<=acc/\acc<=200/\qCj d 0 l=qCj d acc (l.drop i)) ⟨rfl,by omega,by omega,rfl⟩ ?_
 rintro i acc c V1 J hi ⟨rfl,ha0,ha,he⟩ hJ
 refine⟨fun hlt=>?_,fun hge=>?_⟩
 ·obtain⟨x,hm,hx,hdr,hl,hp,hz,hrow⟩:=hr.get hlt
  have hrow:=S.row_get hrow
  have hox:=hok x hm
  have hn1:=hox.lRows.n_eq
  have hn2:=hox.xRows.n_eq
  rw[hdr,cntSs_cons]at he
  have hc:=cntS_eq d acc x
  have cs:=c151 hox
  rw[S.v_eq]at cs
  have bad:cntS d acc x=201->(Ending.returned (.int .i64 201)=Ending.returned (.int .i64 (qCj d 0 l))/\V1=V1):=fun h=>by
   grind
  have over:∀n,cntS d acc x=n->200<n->(Ending.returned (.int .i64 n)=Ending.returned (.int .i64 (qCj d 0 l))/\V1=V1):=fun n h hn=>by
   grind
  have on:∀n c',cntS d acc x=n->0<=n->¬200<n->J [.int .i64 n,.int .i64 c',   .int .i64 ((i:Int)+1)] V1:=fun n c' h h0 hn=>by
   grind
  refine⟨fun h60=>bad (by omega),fun h60=>⟨hp,hz,hlt,_,_,_,_,_,hrow,cs.call ⟨_,rfl,fun hs=>⟨⟨by omega,by omega⟩,fun h1=>?_,fun h1=>?_⟩,fun hs=>bad (by simp_all)⟩⟩⟩
  ·rw[if_neg h60,if_pos hs,if_pos h1]at hc
   have b1:=qEV (d+1) 0 x.ls (by omega) (by omega)
   have b2:=qEV (d+1) 0 x.xs (by omega) (by omega)
   refine⟨hp,hz,hlt,qAe hp,_,_,_,_,_,hrow,⟨by omega,by omega⟩,((hk x hm).1 x.ll (d+1) hox.lRows hox.lOk (by omega) (by omega)).call ⟨_,rfl,⟨by omega,by omega⟩,fun h2=>?_,fun h2=>?_⟩⟩
   ·rw[if_pos h2]at hc
    refine⟨hp,hz,hlt,qAe hp,_,_,_,_,_,hrow,⟨by omega,by omega⟩,((hk x hm).2 x.xl (d+1) hox.xRows hox.xOk (by omega) (by omega)).call ⟨_,rfl,⟨by omega,by omega⟩,fun h3=>over _ hc h3,fun h3=>⟨hr.succ hlt,on _ _ hc (by omega) h3⟩⟩⟩
   grind
  grind
 ·rw[(hr.done hge).1,cntSs_nil]at he;simp_all
theorem cntP_S(V:Mem):∀s:S,CntP V s.ls/\CntP V s.xs:=by
 intro s
 induction s using S.ind with
 | h s i1 i2=>grind [cntP_step]
theorem c116{V:Mem}{l:List S}{sl:Sl}{d:Int}(hr:qAd V sl 5 (l.map S.row))(hok:∀x∈l,S.Ok V x)(h0:0<=d)(h1:d<=61):PP 116 [sl.v,.int .i64 d] V (.int .i64 (qCj d 0 l)) :=
 cntP_step (fun x _=>cntP_S V x) sl d hr hok h0 h1
set_option maxRecDepth 4000 in
theorem c198{V:Mem}[Tab V]{s:S}(h:S.Ok V s):PP 198 [s.v] V (.bool (qFd s.op s.s s.es s.ls.length s.xs.length)):=by
 have hf:=qGb h
 have hnl:=h.lRows.n_eq
 have hnx:=h.xRows.n_eq
 have hne:=h.eRows.n_eq
 rw[S.v_eq]
 refine x198 ?_
 unfold w198
 rw[<- hnl,<- hnx]
 generalize hX:qFd s.op s.s s.es s.ll.n s.xl.n=X
 have key:∀b:Bool,X=b->Ending.returned (.bool b)=Ending.returned (.bool X):=fun n h=>by rw[h]
 unfold qFd at hX
 rw[<- hne]at hX
 have hn0:(0:Int)<=(s.el.n:Int):=by omega
 have hn1:(0:Int)<=(s.ll.n:Int):=by omega
 have hn2:(0:Int)<=(s.xl.n:Int):=by omega
 generalize hne':(s.el.n:Int)=ne at hX hn0
 generalize (s.ll.n:Int)=nl at hX hn1
 generalize (s.xl.n:Int)=nx at hX hn2
 rcases hf with⟨he,hn⟩|⟨e0,r,he,hn,hp,hp2,hrow⟩
 ·have:ne=0:=by omega
  subst this
  clear hnl hnx hne hn
  repeat' (first|refine c101.call ⟨_,rfl,?_⟩|apply And.intro|intro _)
  all_goals first|rfl | (refine key _ ?_;clear key h he;grind) | (exfalso;clear key h he;grind)
 ·have hfo:fop s.es=e0.op:=by rw[he];rfl
  rw[hfo]at hX
  have hn':0<ne:=by omega
  clear hnl hnx hne hn
  repeat' (first|refine c101.call ⟨_,rfl,?_⟩|refine⟨_,_,_,_,hrow,?_⟩|exact hp|exact hp2|exact hn'|apply And.intro|intro _)
  all_goals first|rfl | (refine key _ ?_;clear key h he hrow hp hp2;grind) | (exfalso;clear key h he hrow hp hp2;grind) | omega
theorem c200{V:Mem}[Tab V]{e:E}(h:E.Ok V e):PP 200 [e.v] V (.bool (!qAI e)):=by
 refine x200 ?_
 unfold w200
 exact(c143 h).call ⟨_,rfl,rfl,rfl⟩
theorem vSl_bound{left d:Int}{l:List S}(h0:0<=left)(h:(vSl left d l).1=true):0<=(vSl left d l).2/\(vSl left d l).2<=left:=by
 unfold vSl gd at h ⊢
 split at h
 ·cases h
 ·rename_i hn
  rw[if_neg hn]
  grind [vSs_ok]
theorem vSl_eq{left d:Int}{l:List S}(h:¬(60<d/\l≠[])):vSl left d l=vSs left d l:=by grind [vSl,gd]
section
variable{V0:Mem}{b t:Nat}
def StP(V0:Mem)(b t:Nat)(l:List S):Prop:=∀(sl:Sl) (d left:Int) (V:Mem),qAd V0 sl 5 (l.map S.row)->(∀x∈l,S.Ok V0 x)->V0.sub V->V b=some (cell (.int .i64 left) t)->0<=left->left<=200->0<=d->d<=61 ->
 Tri Tryz.prog 147 #[sl.v,.int .i64 d,pv b] V fun r V'=>r=.returned (.bool (vSl left d l).1)/\V'=V.set b (cell (.int .i64 (vSl left d l).2) t)
theorem stP_step[hT:Tab V0](hb:V0 b=none){l:List S}(hk:∀x∈l,StP V0 b t x.ls/\StP V0 b t x.xs):StP V0 b t l:=by
 intro sl d left V hr hok hV hcell hl0 hl1 hd0 hd
 have hn:=hr.n_eq
 refine x147 ?_
 unfold w147
 have hM:∀lf,V0.sub (V.set b (cell (.int .i64 lf) t)):=fun lf=>hV.set hb _
 refine⟨fun h0=>⟨fun h60=>?_,fun h60=>?_⟩,fun h0=>?_⟩
 ·have:vSl left d l=(false,left):=by
   grind [vSl,gd]
  rw[this]
  exact⟨rfl,(Mem.set_eq hcell).symm⟩
 all_goals
  have hnd:¬(60<d/\l≠[]):=by
   first
   | exact fun h=>h60 h.1
   | simp_all
  rw[vSl_eq hnd]
  refine qAJ l.length (fun i V1=>∃lf,V1=V.set b (cell (.int .i64 lf) t)/\0<=lf/\lf<=200/\vSs left d l=vSs lf d (l.drop i)) ⟨left,(Mem.set_eq hcell).symm,hl0,hl1,rfl⟩ ?_
  rintro i c _ J hi ⟨lf,rfl,hf0,hf1,he⟩ hJ
  refine⟨fun hlt=>?_,fun hge=>?_⟩
  ·obtain⟨x,hm,hx,hdr,hl,hp,hz,hrow⟩:=(hr.sub (hM lf)).get hlt
   have hrow:=S.row_get hrow
   have hox:=hok x hm
   rw[hdr,vSs_cons]at he
   have hv:=vS_eq lf d x
   have cs:=fun V (h0:V0.sub V) (h:S.Ok V x)=>(haveI:Tab V:=Tab.sub hT h0;c198 h)
   rw[S.v_eq]at cs
   have no:∀n,vS lf d x=(false,n)->(Ending.returned (.bool false)=Ending.returned (.bool (vSs left d l).1)/\V.set b (cell (.int .i64 n) t)=V.set b (cell (.int .i64 (vSs left d l).2) t)):=fun n h=>by
    rw[h]at he
    rw[he];exact⟨rfl,rfl⟩
   refine⟨hp,hz,hlt,_,_,_,_,_,hrow,Tri.mono (c197 mss (by omega) (by omega)) ?_⟩
   rintro _ _ ⟨rfl,rfl⟩
   rw[Mem.set_set]
   refine⟨_,rfl,fun h8=>(cs _ (hM _) (hox.sub (hM _))).call ⟨_,rfl,fun hs=>?_,fun hs=>?_⟩,fun h8=>?_⟩
   ·have h8:0<=lf-1:=of_decide_eq_true h8
    refine(c199 (first:=[]) (caps:=[]) (l:=x.el) (hox.eRows.sub (hM _)) Tryz.call200 (fun e=>!qAI e) (fun e hm=>haveI:Tab (V.set b (cell (.int .i64 (lf-1)) t)):=Tab.sub hT (hM (lf-1));c200 ((hox.eOk e hm).sub (hM _)))).call ⟨_,rfl,fun ha=>?_,fun ha=>?_⟩
    ·have hal:x.es.all qAI=false:=by
      rw[List.any_eq_not_all_not]at ha
      simpa using ha
     rw[if_neg (fun h=>by have:=h.2;unfold qBB at this;rw[hal,Bool.and_false]at this;cases this)]at hv
     exact no _ hv
    ·have hal:x.es.all qAI=true:=by
      rw[List.any_eq_not_all_not]at ha
      simpa using ha
     have hsr:qBB x.op x.s x.es x.ls.length x.xs.length=true:=by unfold qBB;rw[hs,hal];rfl
     rw[if_pos ⟨h8,hsr⟩]at hv
     refine⟨⟨by omega,by omega⟩,Tri.mono ((hk x hm).1 x.ll (d+1) (lf-1) _ hox.lRows hox.lOk (hM _) mss h8 (by omega) (by omega) (by omega)) ?_⟩
     rintro _ _ ⟨rfl,rfl⟩
     rw[Mem.set_set]
     refine⟨_,rfl,fun h1=>⟨⟨by omega,by omega⟩,?_⟩,fun h1=>?_⟩
     ·rw[if_pos h1]at hv
      have b1:=vSl_bound h8 h1
      refine Tri.mono ((hk x hm).2 x.xl (d+1) _ _ hox.xRows hox.xOk (hM _) mss b1.1 (by omega) (by omega) (by omega)) ?_
      rintro _ _ ⟨rfl,rfl⟩
      rw[Mem.set_set]
      refine⟨_,rfl,fun h2=>?_,fun h2=>?_⟩
      ·have b2:=vSl_bound b1.1 h2
       rw[hv,if_pos h2]at he
       exact⟨(hr.sub (hM lf)).succ hlt,hJ hl _ _ ⟨_,rfl,b2.1,by omega,he⟩⟩
      ·rw[<- hv]at h2 ⊢
       exact no _ (Prod.ext (eq_false_of_ne_true h2) rfl)
     ·rw[if_neg h1]at hv
      exact no _ hv
   ·rw[if_neg (fun h=>by have:=h.2;unfold qBB at this;rw[eq_false_of_ne_true hs,Bool.false_and]at this;cases this)]at hv
    exact no _ hv
   ·rw[if_neg (fun h=>h8 (decide_eq_true h.1))]at hv
    exact no _ hv
  ·rw[((hr.sub (hM lf)).done hge).1,vSs_nil]at he
   rw[he];exact⟨rfl,rfl⟩
theorem stP_S[hT:Tab V0](hb:V0 b=none):∀s:S,StP V0 b t s.ls/\StP V0 b t s.xs:=by
 intro s
 induction s using S.ind with
 | h s i1 i2=>grind [stP_step]
theorem c147[hT:Tab V0](hb:V0 b=none)(l:List S):StP V0 b t l:=stP_step hb fun x _=>stP_S hb x
end
end Go.Proofs
