/- Part 8 of a proof of a law of this seat: no statement of the seat is proved here. -/
import Derived.Test.YtginfholjbbgeaaGreatDoorPart05
import Derived.Test.YtginfholjbbgeaaGreatDoorPart06
import Derived.Test.YtginfholjbbgeaaGreatDoorPart07
import Derived.Shelf.Strings.Fields
import Derived.Test.YtginfholjbbgeaaGreatDoorProg
set_option linter.unusedVariables false
set_option linter.unusedSimpArgs false
namespace Go.Proofs
open Go Go.Sx
set_option maxRecDepth 100000
set_option linter.unusedVariables false
section
variable{V:Mem}{R:RP}
abbrev w188_0(i:Sl)(V2:Mem)(a:Option Addr)(b:Option Addr)(p:Int)(y:Int)(c:Int)(R:RP):Prop:=¬i.p=none/\(0:Int)<=(0:Int)/\0<(i.n:Int)/\∃z A B C,V2.rowp i.p ((0:Int).toNat*4) 4=some [uI z,uI A,uS B,uL C]/\TS 228 #[uP a,uP b,uA #[uI z,uI A,uS B,uL C]] V2 fun D V3=>Br (D=(qAq [105,110,116])) (¬a=none/\¬a=none/\∃F,V3.rowp a 13 1=some [uI F]/\IR (F+1)/\¬a=none/\¬a=none/\StT (qAa a 13) 0 [uI (F+1)] V3 fun V4=>TI 229 #[uB ((decide (p=y))==(decide (c=14)))] V4 fun G V5=>R (rV (uI G)) V5) (TI 229 #[uB ((decide (p=y))==(decide (c=14)))] V3 fun F V4=>R (rV (uI F)) V4)
abbrev w188_1(i:Sl)(V1:Mem)(a:Option Addr)(b:Option Addr)(R:RP):Prop:=¬i.p=none/\(0:Int)<=(1:Int)/\1<(i.n:Int)/\∃q r s u,V1.rowp i.p (1*4) 4=some [uI q,uI r,uS s,uL u]/\TT 188 #[uP a,uP b,uA #[uI q,uI r,uS s,uL u]] V1 fun e V2=>(∃y,e=rV (uI y)/\R (rV (uI y)) V2)∨∃ch,e=.panicked ch/\R e V2
def w188(a b:Option Addr)(c d:Int)(g:ByteArray)(i:Sl):MR:=fun V R=>Br (c=1) (R (rV (uI d)) V) (Br (c=2) (R (rV (uI d)) V) (Br (c=3) (R (rV (uI 0)) V) (Br (c=4) (¬b=none/\¬b=none/\∃j,V.rowp b ((0:Int).toNat*1) 1=some [uL j]/\TI 189 #[uL j,uS g] V fun k V1=>Br (0<=k) (¬b=none/\¬b=none/\∃l,V1.rowp b 1 1=some [uL l]/\Ix l k (∃o,V1.rowp l.p (k.toNat*1) 1=some [uI o]/\R (rV (uI o)) V1)) (¬a=none/\¬a=none/\¬(qAa a 0)=none/\∃l,V1.rowp a 2 1=some [uL l]/\TI 189 #[uL l,uS g] V1 fun o V2=>TT 190 #[uP a,uI 1,uI 0,uI o] V2 fun e V3=>e=rT #[]/\¬a=none/\¬a=none/\¬(qAa a 8)=none/\∃p,V3.rowp a 8 1=some [uL p]/\Ix p o (∃q,V3.rowp p.p (o.toNat*1) 1=some [uI q]/\R (rV (uI q)) V3))) (Br (c=5) (¬i.p=none/\(0:Int)<=(0:Int)/\0<(i.n:Int)/\∃j k l o,V.rowp i.p ((0:Int).toNat*4) 4=some [uI j,uI k,uS l,uL o]/\TT 188 #[uP a,uP b,uA #[uI j,uI k,uS l,uL o]] V fun e V1=>(∃p,e=rV (uI p)/\Br (p=0) (TT 98 #[uP a,uI 17] V1 fun e V2=>(e=rT #[]/\TI 191 #[uP a,uI p,uS g] V2 fun q V3=>TT 190 #[uP a,uI 1,uI p,uI q] V3 fun e V4=>e=rT #[]/\¬a=none/\¬a=none/\¬(qAa a 8)=none/\∃r,V4.rowp a 9 1=some [uL r]/\IR (p-1)/\Ix r (p-1) (¬(qAa r.p ((p-1).toNat*2))=none/\∃s u,V4.rowp r.p ((p-1).toNat*2) 2=some [uI s,uL u]/\Ix u q (∃y,V4.rowp u.p (q.toNat*1) 1=some [uI y]/\R (rV (uI y)) V4)))∨∃ch,e=.panicked ch/\R e V2) (TI 191 #[uP a,uI p,uS g] V1 fun q V2=>TT 190 #[uP a,uI 1,uI p,uI q] V2 fun e V3=>e=rT #[]/\¬a=none/\¬a=none/\¬(qAa a 8)=none/\∃r,V3.rowp a 9 1=some [uL r]/\IR (p-1)/\Ix r (p-1) (¬(qAa r.p ((p-1).toNat*2))=none/\∃s u,V3.rowp r.p ((p-1).toNat*2) 2=some [uI s,uL u]/\Ix u q (∃y,V3.rowp u.p (q.toNat*1) 1=some [uI y]/\R (rV (uI y)) V3))))∨∃ch,e=.panicked ch/\R e V1) (Br (c=6) (¬a=none/\¬a=none/\¬(qAa a 8)=none/\∃j,V.rowp a 9 1=some [uL j]/\Br (4096<=(j.n:Int)) (TT 98 #[uP a,uI 21] V fun e V1=>(e=rT #[]/\TI 225 #[uP a,uS g] V1 fun k V2=>¬a=none/\¬a=none/\¬(qAa a 8)=none/\∃l,V2.rowp a 9 1=some [uL l]/\¬a=none/\¬a=none/\¬(qAa a 0)=none/\∃o,V2.rowp a 1 1=some [uL o]/\Ix o k (¬(qAa o.p (k.toNat*2))=none/\∃p q,V2.rowp o.p (k.toNat*2) 2=some [uS p,uL q]/\GenK Tryz.prog (.makeSlice 31 (.tmp 126) (.tmp 126)) 31 (gv [(126,uI (q.n:Int)),(126,uI (q.n:Int))]) V2 fun x V3=>∃r,x=uL r/\V3.rowp (qAa a 9) 0 1=some [uL l]/\¬(qAa a 8)=none/\¬a=none/\¬a=none/\V3.rowp (qAa a 9) 0 1=some [uL l]/\¬(qAa a 8)=none/\¬a=none/\¬a=none/\qAC [uI k,uL r] 104 V3 fun s V4=>GenK Tryz.prog (.call { callee:=(.builtin .append),args:=#[(.tmp 115),(.tmp 129)],argTypes:=#[32,32] }) 32 (gv [(115,uL l),(129,.slice (qAa s 0) 1 1)]) V4 fun x V5=>∃u,x=uL u/\¬a=none/\¬a=none/\¬(qAa a 8)=none/\StT (qAa a 9) 0 [uL u] V5 fun V6=>¬a=none/\¬a=none/\¬(qAa a 8)=none/\∃y,V6.rowp a 9 1=some [uL y]/\TT 190 #[uP a,uI 3,uI (y.n:Int),uI k] V6 fun e V7=>e=rT #[]/\¬a=none/\¬a=none/\¬(qAa a 8)=none/\∃z,V7.rowp a 9 1=some [uL z]/\R (rV (uI (z.n:Int))) V7))∨∃ch,e=.panicked ch/\R e V1) (TI 225 #[uP a,uS g] V fun k V1=>¬a=none/\¬a=none/\¬(qAa a 8)=none/\∃l,V1.rowp a 9 1=some [uL l]/\¬a=none/\¬a=none/\¬(qAa a 0)=none/\∃o,V1.rowp a 1 1=some [uL o]/\Ix o k (¬(qAa o.p (k.toNat*2))=none/\∃p q,V1.rowp o.p (k.toNat*2) 2=some [uS p,uL q]/\GenK Tryz.prog (.makeSlice 31 (.tmp 126) (.tmp 126)) 31 (gv [(126,uI (q.n:Int)),(126,uI (q.n:Int))]) V1 fun x V2=>∃r,x=uL r/\V2.rowp (qAa a 9) 0 1=some [uL l]/\¬(qAa a 8)=none/\¬a=none/\¬a=none/\V2.rowp (qAa a 9) 0 1=some [uL l]/\¬(qAa a 8)=none/\¬a=none/\¬a=none/\qAC [uI k,uL r] 104 V2 fun s V3=>GenK Tryz.prog (.call { callee:=(.builtin .append),args:=#[(.tmp 115),(.tmp 129)],argTypes:=#[32,32] }) 32 (gv [(115,uL l),(129,.slice (qAa s 0) 1 1)]) V3 fun x V4=>∃u,x=uL u/\¬a=none/\¬a=none/\¬(qAa a 8)=none/\StT (qAa a 9) 0 [uL u] V4 fun V5=>¬a=none/\¬a=none/\¬(qAa a 8)=none/\∃y,V5.rowp a 9 1=some [uL y]/\TT 190 #[uP a,uI 3,uI (y.n:Int),uI k] V5 fun e V6=>e=rT #[]/\¬a=none/\¬a=none/\¬(qAa a 8)=none/\∃z,V6.rowp a 9 1=some [uL z]/\R (rV (uI (z.n:Int))) V6))) (Br (c=7) (TT 192 #[uP a,uP b,uA #[uI c,uI d,uS g,uL i]] V fun e V1=>(∃j,e=rV (uI j)/\R (rV (uI j)) V1)∨∃ch,e=.panicked ch/\R e V1) (Br (c=8) (¬i.p=none/\(0:Int)<=(0:Int)/\0<(i.n:Int)/\∃j k l o,V.rowp i.p ((0:Int).toNat*4) 4=some [uI j,uI k,uS l,uL o]/\TT 188 #[uP a,uP b,uA #[uI j,uI k,uS l,uL o]] V fun e V1=>(∃p,e=rV (uI p)/\IR (0-p)/\TT 226 #[uP a,uI (0-p)] V1 fun e V2=>(∃q,e=rV (uI q)/\R (rV (uI q)) V2)∨∃ch,e=.panicked ch/\R e V2)∨∃ch,e=.panicked ch/\R e V1) (Br (c=24) (¬i.p=none/\(0:Int)<=(0:Int)/\0<(i.n:Int)/\∃j k l o,V.rowp i.p ((0:Int).toNat*4) 4=some [uI j,uI k,uS l,uL o]/\TT 188 #[uP a,uP b,uA #[uI j,uI k,uS l,uL o]] V fun e V1=>(∃p,e=rV (uI p)/\GenK Tryz.prog (.call { callee:=(.builtin .max),args:=#[(.const (.int .i64 1)),(.tmp 175)],argTypes:=#[3,3] }) 3 (gv [(175,uI p)]) V1 fun x V2=>∃q,x=uI q/\K.inR .u64 q/\TI 227 #[.int .u64 q] V2 fun r V3=>IR (r-1)/\R (rV (uI (r-1))) V3)∨∃ch,e=.panicked ch/\R e V1) (Br (c=18) (¬i.p=none/\(0:Int)<=(0:Int)/\0<(i.n:Int)/\∃j k l o,V.rowp i.p ((0:Int).toNat*4) 4=some [uI j,uI k,uS l,uL o]/\TT 188 #[uP a,uP b,uA #[uI j,uI k,uS l,uL o]] V fun e V1=>(∃p,e=rV (uI p)/\IR (1-p)/\R (rV (uI (1-p))) V1)∨∃ch,e=.panicked ch/\R e V1) (Br (c=19) (¬i.p=none/\(0:Int)<=(0:Int)/\0<(i.n:Int)/\∃j k l o,V.rowp i.p ((0:Int).toNat*4) 4=some [uI j,uI k,uS l,uL o]/\TT 188 #[uP a,uP b,uA #[uI j,uI k,uS l,uL o]] V fun e V1=>(∃p,e=rV (uI p)/\Br (p=0) (R (rV (uI 0)) V1) (w188_1 i V1 a b R))∨∃ch,e=.panicked ch/\R e V1) (Br (c=20) (¬i.p=none/\(0:Int)<=(0:Int)/\0<(i.n:Int)/\∃j k l o,V.rowp i.p ((0:Int).toNat*4) 4=some [uI j,uI k,uS l,uL o]/\TT 188 #[uP a,uP b,uA #[uI j,uI k,uS l,uL o]] V fun e V1=>(∃p,e=rV (uI p)/\Br (p=1) (R (rV (uI 1)) V1) (w188_1 i V1 a b R))∨∃ch,e=.panicked ch/\R e V1) (Br (c=21) (¬i.p=none/\(0:Int)<=(0:Int)/\0<(i.n:Int)/\∃j k l o,V.rowp i.p ((0:Int).toNat*4) 4=some [uI j,uI k,uS l,uL o]/\TT 188 #[uP a,uP b,uA #[uI j,uI k,uS l,uL o]] V fun e V1=>(∃p,e=rV (uI p)/\Br (p=1) (w188_1 i V1 a b R) (¬i.p=none/\(0:Int)<=(2:Int)/\2<(i.n:Int)/\∃q r s u,V1.rowp i.p (2*4) 4=some [uI q,uI r,uS s,uL u]/\TT 188 #[uP a,uP b,uA #[uI q,uI r,uS s,uL u]] V1 fun e V2=>(∃y,e=rV (uI y)/\R (rV (uI y)) V2)∨∃ch,e=.panicked ch/\R e V2))∨∃ch,e=.panicked ch/\R e V1) (¬i.p=none/\(0:Int)<=(0:Int)/\0<(i.n:Int)/\∃j k l o,V.rowp i.p ((0:Int).toNat*4) 4=some [uI j,uI k,uS l,uL o]/\TT 188 #[uP a,uP b,uA #[uI j,uI k,uS l,uL o]] V fun e V1=>(∃p,e=rV (uI p)/\¬i.p=none/\(0:Int)<=(1:Int)/\1<(i.n:Int)/\∃q r s u,V1.rowp i.p (1*4) 4=some [uI q,uI r,uS s,uL u]/\TT 188 #[uP a,uP b,uA #[uI q,uI r,uS s,uL u]] V1 fun e V2=>(∃y,e=rV (uI y)/\Br (c=14) (w188_0 i V2 a b p y c R) (Br (c=15) (w188_0 i V2 a b p y c R) (Br (c=16) (¬a=none/\¬a=none/\∃z,V2.rowp a 13 1=some [uI z]/\IR (z+1)/\¬a=none/\¬a=none/\StT (qAa a 13) 0 [uI (z+1)] V2 fun V3=>TI 229 #[uB (decide (p<y))] V3 fun A V4=>R (rV (uI A)) V4) (Br (c=17) (¬a=none/\¬a=none/\∃z,V2.rowp a 13 1=some [uI z]/\IR (z+1)/\¬a=none/\¬a=none/\StT (qAa a 13) 0 [uI (z+1)] V2 fun V3=>TI 229 #[uB (decide (p<=y))] V3 fun A V4=>R (rV (uI A)) V4) (TT 230 #[uP a,uI c,uI p,uI y] V2 fun e V3=>(∃z,e=rV (uI z)/\R (rV (uI z)) V3)∨∃ch,e=.panicked ch/\R e V3)))))∨∃ch,e=.panicked ch/\R e V2)∨∃ch,e=.panicked ch/\R e V1)))))))))))))
theorem x188{a b:Option Addr}{c d:Int}{g:ByteArray}{i:Sl}(h:w188 a b c d g i V R):TT 188 #[uP a,uP b,uA #[uI c,uI d,uS g,uL i]] V R:=trx Tryz.func188 h
def w189(a:Sl)(b:ByteArray):MR:=fun V R=>qAC [uS b] 9 V fun c V1=>TI 108 #[uL a,.func (.func 231) #[] #[uP (qAa c 0)]] V1 fun d V2=>R (rV (uI d)) V2
theorem x189{a:Sl}{b:ByteArray}(h:w189 a b V R):TT 189 #[uL a,uS b] V R:=trx Tryz.func189 h
def w190(a:Option Addr)(b c d:Int):MR:=fun V R=>¬a=none/\¬a=none/\∃g,V.rowp a 14 1=some [uL g]/\qAC [uI b,uI c,uI d] 98 V fun i V1=>GenK Tryz.prog (.call { callee:=(.builtin .append),args:=#[(.tmp 12),(.tmp 17)],argTypes:=#[80,80] }) 80 (gv [(12,uL g),(17,.slice (qAa i 0) 1 1)]) V1 fun x V2=>∃j,x=uL j/\¬a=none/\¬a=none/\StT (qAa a 14) 0 [uL j] V2 fun V3=>R (rT #[]) V3
theorem x190{a:Option Addr}{b c d:Int}(h:w190 a b c d V R):TT 190 #[uP a,uI b,uI c,uI d] V R:=trx Tryz.func190 h
def w191(a:Option Addr)(b:Int)(c:ByteArray):MR:=fun V R=>¬a=none/\¬a=none/\¬(qAa a 0)=none/\∃d,V.rowp a 1 1=some [uL d]/\¬a=none/\¬a=none/\¬(qAa a 8)=none/\∃g,V.rowp a 9 1=some [uL g]/\IR (b-1)/\Ix g (b-1) (¬(qAa g.p ((b-1).toNat*2))=none/\∃i j,V.rowp g.p ((b-1).toNat*2) 2=some [uI i,uL j]/\Ix d i (¬(qAa d.p (i.toNat*2))=none/\∃k l,V.rowp d.p (i.toNat*2) 2=some [uS k,uL l]/\TI 189 #[uL l,uS c] V fun o V1=>R (rV (uI o)) V1))
theorem x191{a:Option Addr}{b:Int}{c:ByteArray}(h:w191 a b c V R):TT 191 #[uP a,uI b,uS c] V R:=trx Tryz.func191 h
def w192(a b:Option Addr)(c d:Int)(g:ByteArray)(i:Sl):MR:=fun V R=>Lp [.slice none 0 0,uI 0] V fun I n V1=>∀j k,I n [uL j,uI k] V1->∀J0:LMP,Nx I n J0->Br (k<(i.n:Int)) (Ix i k (∃l o p q,V1.rowp i.p (k.toNat*4) 4=some [uI l,uI o,uS p,uL q]/\TT 188 #[uP a,uP b,uA #[uI l,uI o,uS p,uL q]] V1 fun e V2=>(∃r,e=rV (uI r)/\qAC [uI r] 3 V2 fun s V3=>GenK Tryz.prog (.call { callee:=(.builtin .append),args:=#[(.tmp 17),(.tmp 22)],argTypes:=#[31,31] }) 31 (gv [(17,uL j),(22,.slice (qAa s 0) 1 1)]) V3 fun x V4=>∃u,x=uL u/\IR (k+1)/\J0 [uL u,uI (k+1)] V4)∨∃ch,e=.panicked ch/\R e V2)) (¬a=none/\¬a=none/\¬(qAa a 0)=none/\∃l,V1.rowp a 3 1=some [uL l]/\¬a=none/\¬a=none/\∃o p q r s u y z,V1.rowp a ((0:Int).toNat*1) 8=some [uS o,uL p,uL q,uL r,uL s,uL u,uL y,uL z]/\TI 96 #[uD o p q r s u y z,uS g] V1 fun A V2=>V2.rowp (qAa a 3) 0 1=some [uL l]/\¬(qAa a 0)=none/\¬a=none/\¬a=none/\Ix l A (∃B C D F G,V2.rowp l.p (A.toNat*5) 5=some [uS B,uL C,uS D,uL F,uL G]/\TT 69 #[uP a,uA #[uS B,uL C,uS D,uL F,uL G],uL j] V2 fun e V3=>(∃H,e=rV (uI H)/\R (rV (uI H)) V3)∨∃ch,e=.panicked ch/\R e V3))
theorem x192{a b:Option Addr}{c d:Int}{g:ByteArray}{i:Sl}(h:w192 a b c d g i V R):TT 192 #[uP a,uP b,uA #[uI c,uI d,uS g,uL i]] V R:=trx Tryz.func192 h
def w193(a:Sl)(b:ByteArray):MR:=fun V R=>Lp [uI 0,uI (a.n:Int)] V fun I n V1=>∀c d,I n [uI c,uI d] V1->∀J0:LMP,Nx I n J0->Br (c<d) (IR (c+d)/\K.inR .u64 (c+d)/\GenK Tryz.prog (.binOp .shr 300 (.tmp 19) (.const (.int .u64 1)) 300) 300 (gv [(19,.int .u64 (c+d))]) V1 fun x V2=>∃g,x=.int .u64 g/\IR g/\Ix a g (∃i,V2.rowp a.p (g.toNat*1) 1=some [uS i]/\TB 232 #[uS i,uS b] V2 fun j V3=>Br (j=true) (IR (g+1)/\J0 [uI (g+1),uI d] V3) (J0 [uI c,uI g] V3))) (Br (c<(a.n:Int)) (Ix a c (∃g,V1.rowp a.p (c.toNat*1) 1=some [uS g]/\Br (g=b) (R (rT #[uI c,uB true]) V1) (Ix a c (∃i,V1.rowp a.p (c.toNat*1) 1=some [uS i]/\TB 233 #[uS i] V1 fun j V2=>Br (j=true) (TB 233 #[uS b] V2 fun k V3=>R (rT #[uI c,uB k]) V3) (R (rT #[uI c,uB false]) V2))))) (R (rT #[uI c,uB false]) V1))
theorem x193{a:Sl}{b:ByteArray}(h:w193 a b V R):TT 193 #[uL a,uS b] V R:=trx Tryz.func193 h
def w194  : MR:=fun V R=>TL 234 #[uS (qAq [97,110,100,32,98,111,111,108,32,98,111,117,110,100,32,100,101,115,99,32,101,108,115,101,32,102,97,108,115,101,32,105,102,32,105,110,116,32,105,110,118,97,114,105,97,110,116,32,108,111,99,97,108,32,108,111,103,32,109,97,120,32,109,101,97,115,117,114,101,32,109,105,110,32,110,101,119,32,110,105,108,32,110,111,116,32,111,112,32,111,114,32,112,111,116,101,110,116,105,97,108,32,112,114,111,99,32,114,101,116,117,114,110,32,114,117,108,101,32,115,99,114,105,112,116,32,115,111,114,116,32,115,112,101,99,32,116,104,105,115,32,116,114,117,101,32,116,121,112,101,32,118,97,114,32,119,104,105,108,101])] V fun a V1=>R (rV (uL a)) V1
theorem x194(h:w194 V R):TT 194 #[] V R:=trx Tryz.func194 h
abbrev w195_0(j:Int)(d:Sl)(R:RP)(V3:Mem)(g:Int)(i:Option Addr):Prop:=Br (j<0) (Br (6<(d.n:Int)) (R (rV (uB false)) V3) (qAC [uI g] 3 V3 fun p V4=>qAC [uP i] 228 V4 fun q V5=>TB 199 #[uL d,.func (.func 237) #[] #[uP (qAa p 0),uP (qAa q 0)]] V5 fun r V6=>R (rV (uB (!r))) V6)) (qAC [uI g] 3 V3 fun p V4=>qAC [uP i] 228 V4 fun q V5=>TB 199 #[uL d,.func (.func 237) #[] #[uP (qAa p 0),uP (qAa q 0)]] V5 fun r V6=>R (rV (uB (!r))) V6)
def w195(a b:Int)(c:ByteArray)(d:Sl)(g:Int)(i:Option Addr):MR:=fun V R=>TT 235 #[uI a] V fun e V1=>∃j k,e=rT #[uI j,uB k]/\TB 197 #[uP i] V1 fun l V2=>Br (l=true) (Br (60<g) (R (rV (uB false)) V2) (Br (k=true) (TB 236 #[uA #[uI a,uI b,uS c,uL d]] V2 fun o V3=>Br (o=true) (Br (0<=j) (Br ((d.n:Int)=j) (w195_0 j d R V3 g i) (R (rV (uB false)) V3)) (w195_0 j d R V3 g i)) (R (rV (uB false)) V3)) (R (rV (uB false)) V2))) (R (rV (uB false)) V2)
theorem x195{a b:Int}{c:ByteArray}{d:Sl}{g:Int}{i:Option Addr}(h:w195 a b c d g i V R):TT 195 #[uA #[uI a,uI b,uS c,uL d],uI g,uP i] V R:=trx Tryz.func195 h
def w196(a:Sl)(b:Value):MR:=fun V R=>Lp [uI 0,uI 0] V fun I n V1=>∀c d,I n [uI c,uI d] V1->∀J0:LMP,Nx I n J0->Br (d<(a.n:Int)) (Ix a d (∃g i j k l,V1.rowp a.p (d.toNat*5) 5=some [uS g,uI i,uI j,uS k,uL l]/\∃f first caps,K.cast .f b=.func (.func f) first caps/\CO f/\TT f (first++#[uA #[uS g,uI i,uI j,uS k,uL l]]++caps) V1 fun e V2=>∃o,e=rV (uB o)/\Br (o=true) (R (rV (uI d)) V2) (IR (d+1)/\J0 [uI c,uI (d+1)] V2))) (R (rV (uI (-1))) V1)
theorem x196{a:Sl}{b:Value}(h:w196 a b V R):TT 196 #[uL a,K.cast .f b] V R :=
 qBf Tryz.func196 [] [] false [uL a,b] (by kernel_rfl) (by kernel_rfl) h
def w197(a:Option Addr):MR:=fun V R=>¬a=none/\¬a=none/\∃b,V.rowp a ((0:Int).toNat*1) 1=some [uI b]/\IR (b-1)/\¬a=none/\¬a=none/\StT (qAa a 0) 0 [uI (b-1)] V fun V1=>¬a=none/\¬a=none/\∃c,V1.rowp a ((0:Int).toNat*1) 1=some [uI c]/\R (rV (uB (decide (0<=c)))) V1
theorem x197{a:Option Addr}(h:w197 a V R):TT 197 #[uP a] V R:=trx Tryz.func197 h
abbrev qIk(v0:Int)(R:RP)(v2:Sl)(V1:Mem):Prop :=
 Br (v0=1)
 (R (rV (uB (decide ((v2.n:Int)=1)))) V1)
 (Br (v0=3)
 (R (rV (uB (decide ((v2.n:Int)=1)))) V1)
 (Br (v0=4)
 (R (rV (uB (decide ((v2.n:Int)=1)))) V1)
 (Br (v0=2)
 (R (rV (uB (decide ((v2.n:Int)=2)))) V1)
 (Br (v0=5)
 (R (rV (uB (decide ((v2.n:Int)<=1)))) V1)
 (Br (v0=6)
 (Br ((v2.n:Int)=1)
 (¬v2.p=none/\(0:Int)<=(0:Int)/\0<(v2.n:Int)/\¬(qAa v2.p ((0:Int).toNat*4))=none/\∃v6 v7 v8 v9,V1.rowp v2.p ((0:Int).toNat*4) 4=some [uI v6,uI v7,uS v8,uL v9] /\
 R (rV (uB (decide (v6=7)))) V1)
 (R (rV (uB false)) V1))
 (R (rV (uB false)) V1))))))
abbrev w198_1(a:Int)(R:RP)(c:Sl)(V:Mem):Prop:=Br (a=1) (R (rV (uB (decide ((c.n:Int)=1)))) V) (Br (a=3) (R (rV (uB (decide ((c.n:Int)=1)))) V) (Br (a=4) (R (rV (uB (decide ((c.n:Int)=1)))) V) (Br (a=2) (R (rV (uB (decide ((c.n:Int)=2)))) V) (Br (a=5) (R (rV (uB (decide ((c.n:Int)<=1)))) V) (Br (a=6) (Br ((c.n:Int)=1) (¬c.p=none/\(0:Int)<=(0:Int)/\0<(c.n:Int)/\¬(qAa c.p ((0:Int).toNat*4))=none/\∃i j k l,V.rowp c.p ((0:Int).toNat*4) 4=some [uI i,uI j,uS k,uL l]/\R (rV (uB (decide (i=7)))) V) (R (rV (uB false)) V)) (R (rV (uB false)) V))))))
def w198(a:Int)(b:ByteArray)(c d g:Sl):MR:=fun V R=>Br (a=1) (TB 101 #[uS b] V fun i V1=>Br (i=true) (Br (a=3) (qIk a R c V1) (Br (0<(g.n:Int)) (R (rV (uB false)) V1) (Br (a=4) (qIk a R c V1) (Br (0<(d.n:Int)) (R (rV (uB false)) V1) (qIk a R c V1))))) (R (rV (uB false)) V1)) (Br (a=2) (TB 101 #[uS b] V fun i V1=>Br (i=true) (Br (a=3) (qIk a R c V1) (Br (0<(g.n:Int)) (R (rV (uB false)) V1) (Br (a=4) (qIk a R c V1) (Br (0<(d.n:Int)) (R (rV (uB false)) V1) (qIk a R c V1))))) (R (rV (uB false)) V1)) (Br (b=(qAq [])) (Br (a=3) (w198_1 a R c V) (Br (0<(g.n:Int)) (R (rV (uB false)) V) (Br (a=4) (w198_1 a R c V) (Br (0<(d.n:Int)) (R (rV (uB false)) V) (w198_1 a R c V))))) (R (rV (uB false)) V)))
theorem x198{a:Int}{b:ByteArray}{c d g:Sl}(h:w198 a b c d g V R):TT 198 #[uA #[uI a,uS b,uL c,uL d,uL g]] V R:=trx Tryz.func198 h
def w199(a:Sl)(b:Value):MR:=fun V R=>TI 238 #[uL a,K.cast .f b] V fun c V1=>R (rV (uB (decide (0<=c)))) V1
theorem x199{a:Sl}{b:Value}(h:w199 a b V R):TT 199 #[uL a,K.cast .f b] V R :=
 qBf Tryz.func199 [] [] false [uL a,b] (by kernel_rfl) (by kernel_rfl) h
def w200(a b:Int)(c:ByteArray)(d:Sl):MR:=fun V R=>TB 143 #[uA #[uI a,uI b,uS c,uL d]] V fun g V1=>R (rV (uB (!g))) V1
theorem x200{a b:Int}{c:ByteArray}{d:Sl}(h:w200 a b c d V R):TT 200 #[uA #[uI a,uI b,uS c,uL d]] V R:=trx Tryz.func200 h
def w213(a:ByteArray)(b:Sl)(c d g:Option Addr):MR:=fun V R=>∃i,K.f.ok i/\V.rowp c ((0:Int).toNat*1) 1=some [i]/\∃j,K.f.ok j/\V.rowp c ((0:Int).toNat*1) 1=some [j]/\∃k,V.rowp d ((0:Int).toNat*1) 1=some [uL k]/\∃l,V.rowp g ((0:Int).toNat*1) 1=some [uI l]/\Ix k l (∃o p,V.rowp k.p (l.toNat*2) 2=some [uS o,uL p]/\∃f first caps,K.cast .f i=.func (.func f) first caps/\CO f/\TT f (first++#[uA #[uS a,uL b]]++caps) V fun e V1=>∃q,e=rV (uS q)/\V1.rowp (qAa k.p (l.toNat*2)) 0 2=some [uS o,uL p]/\Ix k l (V1.rowp g 0 1=some [uI l]/\V1.rowp d 0 1=some [uL k]/\V1.rowp c 0 1=some [K.cast .f j]/\∃f first caps,K.cast .f j=.func (.func f) first caps/\CO f/\TT f (first++#[uA #[uS o,uL p]]++caps) V1 fun e V2=>∃r,e=rV (uS r)/\R (rV (uB (decide (q=r)))) V2))
theorem x213{a:ByteArray}{b:Sl}{c d g:Option Addr}(h:w213 a b c d g V R):TT 213 #[uA #[uS a,uL b],uP c,uP d,uP g] V R:=trx Tryz.func213 h
def w214(a b:ByteArray)(c:Option Addr):MR:=fun V R=>¬c=none/\∃d,V.rowp c ((0:Int).toNat*1) 1=some [uS d]/\R (rV (uB (decide (a=d)))) V
theorem x214{a b:ByteArray}{c:Option Addr}(h:w214 a b c V R):TT 214 #[uA #[uS a,uS b],uP c] V R:=trx Tryz.func214 h
def w215(a b:ByteArray)(c d g:Option Addr):MR:=fun V R=>∃i,K.f.ok i/\V.rowp c ((0:Int).toNat*1) 1=some [i]/\∃j,K.f.ok j/\V.rowp c ((0:Int).toNat*1) 1=some [j]/\∃k,V.rowp d ((0:Int).toNat*1) 1=some [uL k]/\∃l,V.rowp g ((0:Int).toNat*1) 1=some [uI l]/\Ix k l (∃o p,V.rowp k.p (l.toNat*2) 2=some [uS o,uS p]/\∃f first caps,K.cast .f i=.func (.func f) first caps/\CO f/\TT f (first++#[uA #[uS a,uS b]]++caps) V fun e V1=>∃q,e=rV (uS q)/\V1.rowp (qAa k.p (l.toNat*2)) 0 2=some [uS o,uS p]/\Ix k l (V1.rowp g 0 1=some [uI l]/\V1.rowp d 0 1=some [uL k]/\V1.rowp c 0 1=some [K.cast .f j]/\∃f first caps,K.cast .f j=.func (.func f) first caps/\CO f/\TT f (first++#[uA #[uS o,uS p]]++caps) V1 fun e V2=>∃r,e=rV (uS r)/\R (rV (uB (decide (q=r)))) V2))
theorem x215{a b:ByteArray}{c d g:Option Addr}(h:w215 a b c d g V R):TT 215 #[uA #[uS a,uS b],uP c,uP d,uP g] V R:=trx Tryz.func215 h
def w216(a:ByteArray)(b:Sl)(c:ByteArray)(d g:Sl)(i j k:Option Addr):MR:=fun V R=>∃l,K.f.ok l/\V.rowp i ((0:Int).toNat*1) 1=some [l]/\∃o,K.f.ok o/\V.rowp i ((0:Int).toNat*1) 1=some [o]/\∃p,V.rowp j ((0:Int).toNat*1) 1=some [uL p]/\∃q,V.rowp k ((0:Int).toNat*1) 1=some [uI q]/\Ix p q (∃r s u y z,V.rowp p.p (q.toNat*5) 5=some [uS r,uL s,uS u,uL y,uL z]/\∃f first caps,K.cast .f l=.func (.func f) first caps/\CO f/\TT f (first++#[uA #[uS a,uL b,uS c,uL d,uL g]]++caps) V fun e V1=>∃A,e=rV (uS A)/\V1.rowp (qAa p.p (q.toNat*5)) 0 5=some [uS r,uL s,uS u,uL y,uL z]/\Ix p q (V1.rowp k 0 1=some [uI q]/\V1.rowp j 0 1=some [uL p]/\V1.rowp i 0 1=some [K.cast .f o]/\∃f first caps,K.cast .f o=.func (.func f) first caps/\CO f/\TT f (first++#[uA #[uS r,uL s,uS u,uL y,uL z]]++caps) V1 fun e V2=>∃B,e=rV (uS B)/\R (rV (uB (decide (A=B)))) V2))
theorem x216{a:ByteArray}{b:Sl}{c:ByteArray}{d g:Sl}{i j k:Option Addr}(h:w216 a b c d g i j k V R):TT 216 #[uA #[uS a,uL b,uS c,uL d,uL g],uP i,uP j,uP k] V R:=trx Tryz.func216 h
def w217(a:Sl)(b:Value):MR:=fun V R=>TI 254 #[uL a,K.cast .f b] V fun c V1=>R (rV (uB (decide (0<=c)))) V1
theorem x217{a:Sl}{b:Value}(h:w217 a b V R):TT 217 #[uL a,K.cast .f b] V R :=
 qBf Tryz.func217 [] [] false [uL a,b] (by kernel_rfl) (by kernel_rfl) h
def w218(a b:ByteArray)(c d g:Int)(i:ByteArray)(j:Sl)(k l o:Option Addr):MR:=fun V R=>∃p,K.f.ok p/\V.rowp k ((0:Int).toNat*1) 1=some [p]/\∃q,K.f.ok q/\V.rowp k ((0:Int).toNat*1) 1=some [q]/\∃r,V.rowp l ((0:Int).toNat*1) 1=some [uL r]/\∃s,V.rowp o ((0:Int).toNat*1) 1=some [uI s]/\Ix r s (∃u y z A B C D,V.rowp r.p (s.toNat*7) 7=some [uS u,uS y,uI z,uI A,uI B,uS C,uL D]/\∃f first caps,K.cast .f p=.func (.func f) first caps/\CO f/\TT f (first++#[uA #[uS a,uS b,uI c,uI d,uI g,uS i,uL j]]++caps) V fun e V1=>∃F,e=rV (uS F)/\V1.rowp (qAa r.p (s.toNat*7)) 0 7=some [uS u,uS y,uI z,uI A,uI B,uS C,uL D]/\Ix r s (V1.rowp o 0 1=some [uI s]/\V1.rowp l 0 1=some [uL r]/\V1.rowp k 0 1=some [K.cast .f q]/\∃f first caps,K.cast .f q=.func (.func f) first caps/\CO f/\TT f (first++#[uA #[uS u,uS y,uI z,uI A,uI B,uS C,uL D]]++caps) V1 fun e V2=>∃G,e=rV (uS G)/\R (rV (uB (decide (F=G)))) V2))
theorem x218{a b:ByteArray}{c d g:Int}{i:ByteArray}{j:Sl}{k l o:Option Addr}(h:w218 a b c d g i j k l o V R):TT 218 #[uA #[uS a,uS b,uI c,uI d,uI g,uS i,uL j],uP k,uP l,uP o] V R:=trx Tryz.func218 h
def w219(a:Sl)(b:Value):MR:=fun V R=>TI 255 #[uL a,K.cast .f b] V fun c V1=>R (rV (uB (decide (0<=c)))) V1
theorem x219{a:Sl}{b:Value}(h:w219 a b V R):TT 219 #[uL a,K.cast .f b] V R :=
 qBf Tryz.func219 [] [] false [uL a,b] (by kernel_rfl) (by kernel_rfl) h
def w220(a b:ByteArray)(c d:Int)(g:ByteArray)(i:Sl)(j k l:Option Addr):MR:=fun V R=>∃o,K.f.ok o/\V.rowp j ((0:Int).toNat*1) 1=some [o]/\∃p,K.f.ok p/\V.rowp j ((0:Int).toNat*1) 1=some [p]/\∃q,V.rowp k ((0:Int).toNat*1) 1=some [uL q]/\∃r,V.rowp l ((0:Int).toNat*1) 1=some [uI r]/\Ix q r (∃s u y z A B,V.rowp q.p (r.toNat*6) 6=some [uS s,uS u,uI y,uI z,uS A,uL B]/\∃f first caps,K.cast .f o=.func (.func f) first caps/\CO f/\TT f (first++#[uA #[uS a,uS b,uI c,uI d,uS g,uL i]]++caps) V fun e V1=>∃C,e=rV (uS C)/\V1.rowp (qAa q.p (r.toNat*6)) 0 6=some [uS s,uS u,uI y,uI z,uS A,uL B]/\Ix q r (V1.rowp l 0 1=some [uI r]/\V1.rowp k 0 1=some [uL q]/\V1.rowp j 0 1=some [K.cast .f p]/\∃f first caps,K.cast .f p=.func (.func f) first caps/\CO f/\TT f (first++#[uA #[uS s,uS u,uI y,uI z,uS A,uL B]]++caps) V1 fun e V2=>∃D,e=rV (uS D)/\R (rV (uB (decide (C=D)))) V2))
theorem x220{a b:ByteArray}{c d:Int}{g:ByteArray}{i:Sl}{j k l:Option Addr}(h:w220 a b c d g i j k l V R):TT 220 #[uA #[uS a,uS b,uI c,uI d,uS g,uL i],uP j,uP k,uP l] V R:=trx Tryz.func220 h
def w221(a:ByteArray)(b c:Int)(d:ByteArray)(g:Sl)(i j k:Option Addr):MR:=fun V R=>∃l,K.f.ok l/\V.rowp i ((0:Int).toNat*1) 1=some [l]/\∃o,K.f.ok o/\V.rowp i ((0:Int).toNat*1) 1=some [o]/\∃p,V.rowp j ((0:Int).toNat*1) 1=some [uL p]/\∃q,V.rowp k ((0:Int).toNat*1) 1=some [uI q]/\Ix p q (∃r s u y z,V.rowp p.p (q.toNat*5) 5=some [uS r,uI s,uI u,uS y,uL z]/\∃f first caps,K.cast .f l=.func (.func f) first caps/\CO f/\TT f (first++#[uA #[uS a,uI b,uI c,uS d,uL g]]++caps) V fun e V1=>∃A,e=rV (uS A)/\V1.rowp (qAa p.p (q.toNat*5)) 0 5=some [uS r,uI s,uI u,uS y,uL z]/\Ix p q (V1.rowp k 0 1=some [uI q]/\V1.rowp j 0 1=some [uL p]/\V1.rowp i 0 1=some [K.cast .f o]/\∃f first caps,K.cast .f o=.func (.func f) first caps/\CO f/\TT f (first++#[uA #[uS r,uI s,uI u,uS y,uL z]]++caps) V1 fun e V2=>∃B,e=rV (uS B)/\R (rV (uB (decide (A=B)))) V2))
theorem x221{a:ByteArray}{b c:Int}{d:ByteArray}{g:Sl}{i j k:Option Addr}(h:w221 a b c d g i j k V R):TT 221 #[uA #[uS a,uI b,uI c,uS d,uL g],uP i,uP j,uP k] V R:=trx Tryz.func221 h
def w223(a:Option Addr)(b:Option Nat)(c:Bool)(d:Int)(g:ByteArray)(i j k:Sl)(l:ByteArray):MR:=fun V R=>Br (d=6) (¬i.p=none/\(0:Int)<=(0:Int)/\0<(i.n:Int)/\∃o p q r,V.rowp i.p ((0:Int).toNat*4) 4=some [uI o,uI p,uS q,uL r]/\TT 257 #[uA #[uP a,uM b,uB c],uA #[uI o,uI p,uS q,uL r]] V fun e V1=>∃s u,e=rT #[uS s,uI u]/\R (rV (uI u)) V1) (Lp [uI 0,.slice none 0 0,uI 0] V fun I n V1=>∀o p q,I n [uI o,uL p,uI q] V1->∀J0:LMP,Nx I n J0->Br (q<(i.n:Int)) (Ix i q (∃r s u y,V1.rowp i.p (q.toNat*4) 4=some [uI r,uI s,uS u,uL y]/\TT 224 #[uA #[uP a,uM b,uB c],uA #[uI r,uI s,uS u,uL y]] V1 fun e V2=>∃z A,e=rT #[uS z,uI A]/\Br (A=0) (qAC [uS z] 9 V2 fun B V3=>GenK Tryz.prog (.call { callee:=(.builtin .append),args:=#[(.tmp 48),(.tmp 50)],argTypes:=#[232,232] }) 232 (gv [(48,uL p),(50,.slice (qAa B 0) 1 1)]) V3 fun x V4=>∃C,x=uL C/\IR (q+1)/\J0 [uI o,uL C,uI (q+1)] V4) (R (rV (uI A)) V2))) (Br (d=1) (qCd Tryz.prog 262 (uM b) (uS g) true V1 fun x=>∃r s,x=.tuple #[uS r,uB s]/\Br (s=true) (¬p.p=none/\(0:Int)<=(0:Int)/\0<(p.n:Int)/\∃u,V1.rowp p.p ((0:Int).toNat*1) 1=some [uS u]/\TB 258 #[uP a,uS u,uS r] V1 fun y V2=>Br (y=true) (R (rV (uI 0)) V2) (R (rV (uI 11)) V2)) (R (rV (uI 9)) V1)) (Br (d=2) (¬p.p=none/\(0:Int)<=(0:Int)/\0<(p.n:Int)/\∃r,V1.rowp p.p ((0:Int).toNat*1) 1=some [uS r]/\TT 259 #[uP a,uS r,uS g] V1 fun e V2=>∃s u,e=rT #[uS s,uI u]/\Br (u=0) (¬p.p=none/\(0:Int)<=(1:Int)/\1<(p.n:Int)/\∃y,V2.rowp p.p 1 1=some [uS y]/\TB 258 #[uP a,uS y,uS s] V2 fun z V3=>Br (z=true) (R (rV (uI 0)) V3) (R (rV (uI 11)) V3)) (R (rV (uI u)) V2)) (Br (d=3) (¬p.p=none/\(0:Int)<=(0:Int)/\0<(p.n:Int)/\∃r,V1.rowp p.p ((0:Int).toNat*1) 1=some [uS r]/\Br (r=(qAq [98,111,111,108])) (R (rV (uI 0)) V1) (R (rV (uI 11)) V1)) (Br (d=4) (¬p.p=none/\(0:Int)<=(0:Int)/\0<(p.n:Int)/\∃r,V1.rowp p.p ((0:Int).toNat*1) 1=some [uS r]/\Br (r=(qAq [98,111,111,108])) (R (rV (uI 0)) V1) (R (rV (uI 11)) V1)) (Br (d=5) (Br ((p.n:Int)=0) (Br (l=(qAq [])) (R (rV (uI 0)) V1) (R (rV (uI 11)) V1)) (Br (l=(qAq [])) (R (rV (uI 11)) V1) (¬p.p=none/\(0:Int)<=(0:Int)/\0<(p.n:Int)/\∃r,V1.rowp p.p ((0:Int).toNat*1) 1=some [uS r]/\TB 258 #[uP a,uS r,uS l] V1 fun s V2=>Br (s=true) (R (rV (uI 0)) V2) (R (rV (uI 11)) V2)))) (R (rV (uI 0)) V1)))))))
theorem x223{a:Option Addr}{b:Option Nat}{c:Bool}{d:Int}{g:ByteArray}{i j k:Sl}{l:ByteArray}(h:w223 a b c d g i j k l V R):TT 223 #[uA #[uP a,uM b,uB c],uA #[uI d,uS g,uL i,uL j,uL k],uS l] V R:=trx Tryz.func223 h
def w224(a:Option Addr)(b:Option Nat)(c:Bool)(d g:Int)(i:ByteArray)(j:Sl):MR:=fun V R=>Br (d=7) (TT 257 #[uA #[uP a,uM b,uB c],uA #[uI d,uI g,uS i,uL j]] V fun e V1=>∃k l,e=rT #[uS k,uI l]/\Br (l=0) (Br (k=(qAq [])) (R (rT #[uS (qAq []),uI 11]) V1) (R (rT #[uS k,uI l]) V1)) (R (rT #[uS k,uI l]) V1)) (Lp [uS (qAq []),uI 0,.slice none 0 0,uI 0] V fun I n V1=>∀k l o p,I n [uS k,uI l,uL o,uI p] V1->∀J0:LMP,Nx I n J0->Br (p<(j.n:Int)) (Ix j p (∃q r s u,V1.rowp j.p (p.toNat*4) 4=some [uI q,uI r,uS s,uL u]/\TT 224 #[uA #[uP a,uM b,uB c],uA #[uI q,uI r,uS s,uL u]] V1 fun e V2=>∃y z,e=rT #[uS y,uI z]/\Br (z=0) (qAC [uS y] 9 V2 fun A V3=>GenK Tryz.prog (.call { callee:=(.builtin .append),args:=#[(.tmp 46),(.tmp 48)],argTypes:=#[232,232] }) 232 (gv [(46,uL o),(48,.slice (qAa A 0) 1 1)]) V3 fun x V4=>∃B,x=uL B/\IR (p+1)/\J0 [uS k,uI l,uL B,uI (p+1)] V4) (R (rT #[uS (qAq []),uI z]) V2))) (TT 260 #[uA #[uP a,uM b,uB c],uA #[uI d,uI g,uS i,uL j],uL o] V1 fun e V2=>∃q r,e=rT #[uS q,uI r]/\R (rT #[uS q,uI r]) V2))
theorem x224{a:Option Addr}{b:Option Nat}{c:Bool}{d g:Int}{i:ByteArray}{j:Sl}(h:w224 a b c d g i j V R):TT 224 #[uA #[uP a,uM b,uB c],uA #[uI d,uI g,uS i,uL j]] V R:=trx Tryz.func224 h
def w225(a:Option Addr)(b:ByteArray):MR:=fun V R=>¬a=none/\¬a=none/\¬(qAa a 0)=none/\∃c,V.rowp a 1 1=some [uL c]/\qAC [uS b] 9 V fun d V1=>TI 109 #[uL c,.func (.func 261) #[] #[uP (qAa d 0)]] V1 fun g V2=>R (rV (uI g)) V2
theorem x225{a:Option Addr}{b:ByteArray}(h:w225 a b V R):TT 225 #[uP a,uS b] V R:=trx Tryz.func225 h
def w226(a:Option Addr)(b:Int):MR:=fun V R=>Br (1099511627776<b) (TT 98 #[uP a,uI 5] V fun e V1=>(e=rT #[]/\R (rV (uI b)) V1)∨∃ch,e=.panicked ch/\R e V1) (Br (b<(-1099511627776)) (TT 98 #[uP a,uI 5] V fun e V1=>(e=rT #[]/\R (rV (uI b)) V1)∨∃ch,e=.panicked ch/\R e V1) (R (rV (uI b)) V))
theorem x226{a:Option Addr}{b:Int}(h:w226 a b V R):TT 226 #[uP a,uI b] V R:=trx Tryz.func226 h
def w227(a:Int):MR:=fun V R=>TI 263 #[.int .u64 a] V fun b V1=>R (rV (uI b)) V1
theorem x227{a:Int}(h:w227 a V R):TT 227 #[.int .u64 a] V R:=trx Tryz.func227 h
def w228(a b:Option Addr)(c d:Int)(g:ByteArray)(i:Sl):MR:=fun V R=>Br (c=4) (¬b=none/\¬b=none/\∃j,V.rowp b ((0:Int).toNat*1) 1=some [uL j]/\TI 189 #[uL j,uS g] V fun k V1=>Br (0<=k) (¬b=none/\¬b=none/\∃l,V1.rowp b ((0:Int).toNat*1) 1=some [uL l]/\Ix l k (¬(qAa l.p (k.toNat*2))=none/\∃o p,V1.rowp l.p (k.toNat*2) 2=some [uS o,uS p]/\R (rV (uS p)) V1)) (¬a=none/\¬a=none/\¬(qAa a 0)=none/\∃l,V1.rowp a 2 1=some [uL l]/\¬a=none/\¬a=none/\¬(qAa a 0)=none/\∃o,V1.rowp a 2 1=some [uL o]/\TI 189 #[uL o,uS g] V1 fun p V2=>V2.rowp (qAa a 2) 0 1=some [uL l]/\¬(qAa a 0)=none/\¬a=none/\¬a=none/\Ix l p (¬(qAa l.p (p.toNat*2))=none/\∃q r,V2.rowp l.p (p.toNat*2) 2=some [uS q,uS r]/\R (rV (uS r)) V2))) (Br (c=5) (¬a=none/\¬a=none/\¬(qAa a 0)=none/\∃j,V.rowp a 1 1=some [uL j]/\¬i.p=none/\(0:Int)<=(0:Int)/\0<(i.n:Int)/\∃k l o p,V.rowp i.p ((0:Int).toNat*4) 4=some [uI k,uI l,uS o,uL p]/\TS 228 #[uP a,uP b,uA #[uI k,uI l,uS o,uL p]] V fun q V1=>V1.rowp (qAa a 1) 0 1=some [uL j]/\¬(qAa a 0)=none/\¬a=none/\¬a=none/\TI 225 #[uP a,uS q] V1 fun r V2=>V2.rowp (qAa a 1) 0 1=some [uL j]/\¬(qAa a 0)=none/\¬a=none/\¬a=none/\Ix j r (∃s u,V2.rowp j.p (r.toNat*2) 2=some [uS s,uL u]/\TI 189 #[uL u,uS g] V2 fun y V3=>Ix u y (¬(qAa u.p (y.toNat*2))=none/\∃z A,V3.rowp u.p (y.toNat*2) 2=some [uS z,uS A]/\R (rV (uS A)) V3))) (Br (c=6) (R (rV (uS g)) V) (Br (c=7) (¬a=none/\¬a=none/\¬(qAa a 0)=none/\∃j,V.rowp a 3 1=some [uL j]/\¬a=none/\¬a=none/\∃k l o p q r s u,V.rowp a ((0:Int).toNat*1) 8=some [uS k,uL l,uL o,uL p,uL q,uL r,uL s,uL u]/\TI 96 #[uD k l o p q r s u,uS g] V fun y V1=>V1.rowp (qAa a 3) 0 1=some [uL j]/\¬(qAa a 0)=none/\¬a=none/\¬a=none/\Ix j y (¬(qAa j.p (y.toNat*5))=none/\∃z A B C D,V1.rowp j.p (y.toNat*5) 5=some [uS z,uL A,uS B,uL C,uL D]/\R (rV (uS B)) V1)) (Br (c=21) (¬i.p=none/\(0:Int)<=(1:Int)/\1<(i.n:Int)/\∃j k l o,V.rowp i.p (1*4) 4=some [uI j,uI k,uS l,uL o]/\TS 228 #[uP a,uP b,uA #[uI j,uI k,uS l,uL o]] V fun p V1=>Br (p=(qAq [110,105,108])) (¬i.p=none/\(0:Int)<=(2:Int)/\2<(i.n:Int)/\∃q r s u,V1.rowp i.p (2*4) 4=some [uI q,uI r,uS s,uL u]/\TS 228 #[uP a,uP b,uA #[uI q,uI r,uS s,uL u]] V1 fun y V2=>R (rV (uS y)) V2) (R (rV (uS p)) V1)) (Br (c=3) (R (rV (uS (qAq [110,105,108]))) V) (Br (c=2) (R (rV (uS (qAq [98,111,111,108]))) V) (Br (c=18) (R (rV (uS (qAq [98,111,111,108]))) V) (Br (c=19) (R (rV (uS (qAq [98,111,111,108]))) V) (Br (c=20) (R (rV (uS (qAq [98,111,111,108]))) V) (Br (c=14) (R (rV (uS (qAq [98,111,111,108]))) V) (Br (c=15) (R (rV (uS (qAq [98,111,111,108]))) V) (Br (c=16) (R (rV (uS (qAq [98,111,111,108]))) V) (Br (c=17) (R (rV (uS (qAq [98,111,111,108]))) V) (R (rV (uS (qAq [105,110,116]))) V))))))))))))))
theorem x228{a b:Option Addr}{c d:Int}{g:ByteArray}{i:Sl}(h:w228 a b c d g i V R):TT 228 #[uP a,uP b,uA #[uI c,uI d,uS g,uL i]] V R:=trx Tryz.func228 h
def w229(a:Bool):MR:=fun V R=>Br (a=true) (R (rV (uI 1)) V) (R (rV (uI 0)) V)
theorem x229{a:Bool}(h:w229 a V R):TT 229 #[uB a] V R:=trx Tryz.func229 h
abbrev w230_0(d:Int)(a:Option Addr)(V:Mem)(b:Int)(R:RP)(c:Int):Prop:=Br (d=0) (TT 98 #[uP a,uI 18] V fun e V1=>(e=rT #[]/\Br (b=12) (¬d=0/\R (rV (uI (IntKind.wrap .i64 ((c).tdiv d)))) V1) (¬d=0/\R (rV (uI ((c).tmod d))) V1))∨∃ch,e=.panicked ch/\R e V1) (Br (b=12) (¬d=0/\R (rV (uI (IntKind.wrap .i64 ((c).tdiv d)))) V) (¬d=0/\R (rV (uI ((c).tmod d))) V))
def w230(a:Option Addr)(b c d:Int):MR:=fun V R=>Br (b=9) (IR (c+d)/\TT 226 #[uP a,uI (c+d)] V fun e V1=>(∃g,e=rV (uI g)/\R (rV (uI g)) V1)∨∃ch,e=.panicked ch/\R e V1) (Br (b=10) (IR (c-d)/\TT 226 #[uP a,uI (c-d)] V fun e V1=>(∃g,e=rV (uI g)/\R (rV (uI g)) V1)∨∃ch,e=.panicked ch/\R e V1) (Br (b=11) (Br (c=0) (IR (c*d)/\R (rV (uI (c*d))) V) (TI 264 #[uI d] V fun g V1=>TI 264 #[uI c] V1 fun i V2=>¬i=0/\Br ((IntKind.wrap .i64 (((1099511627776:Int)).tdiv i))<g) (TT 98 #[uP a,uI 5] V2 fun e V3=>(e=rT #[]/\IR (c*d)/\R (rV (uI (c*d))) V3)∨∃ch,e=.panicked ch/\R e V3) (IR (c*d)/\R (rV (uI (c*d))) V2))) (Br (b=12) (w230_0 d a V b R c) (Br (b=13) (w230_0 d a V b R c) (Br (b=22) (GenK Tryz.prog (.call { callee:=(.builtin .max),args:=#[(.tmp 58),(.tmp 59)],argTypes:=#[3,3] }) 3 (gv [(58,uI c),(59,uI d)]) V fun x V1=>∃g,x=uI g/\R (rV (uI g)) V1) (GenK Tryz.prog (.call { callee:=(.builtin .min),args:=#[(.tmp 61),(.tmp 62)],argTypes:=#[3,3] }) 3 (gv [(61,uI c),(62,uI d)]) V fun x V1=>∃g,x=uI g/\R (rV (uI g)) V1))))))
theorem x230{a:Option Addr}{b c d:Int}(h:w230 a b c d V R):TT 230 #[uP a,uI b,uI c,uI d] V R:=trx Tryz.func230 h
def w231(a b:ByteArray)(c:Option Addr):MR:=fun V R=>∃d,V.rowp c ((0:Int).toNat*1) 1=some [uS d]/\R (rV (uB (decide (a=d)))) V
theorem x231{a b:ByteArray}{c:Option Addr}(h:w231 a b c V R):TT 231 #[uA #[uS a,uS b],uP c] V R:=trx Tryz.func231 h
def w232(a b:ByteArray):MR:=fun V R=>TB 265 #[uS a] V fun c V1=>Br (c=true) (TB 265 #[uS b] V1 fun d V2=>Br (d=true) (R (rV (uB (Op.bytesLess (a).toList (b).toList))) V2) (R (rV (uB true)) V2)) (R (rV (uB (Op.bytesLess (a).toList (b).toList))) V1)
theorem x232{a b:ByteArray}(h:w232 a b V R):TT 232 #[uS a,uS b] V R:=trx Tryz.func232 h
def w233(a:ByteArray):MR:=fun V R=>R (rV (uB (!(decide (a=a))))) V
theorem x233{a:ByteArray}(h:w233 a V R):TT 233 #[uS a] V R:=trx Tryz.func233 h
def w235(a:Int):MR:=fun V R=>Br (a=1) (R (rT #[uI 0,uB true]) V) (Br (a=2) (R (rT #[uI 0,uB true]) V) (Br (a=3) (R (rT #[uI 0,uB true]) V) (Br (a=4) (R (rT #[uI 0,uB true]) V) (Br (a=6) (R (rT #[uI 0,uB true]) V) (Br (a=7) (R (rT #[uI (-1),uB true]) V) (Br (a=5) (R (rT #[uI 1,uB true]) V) (Br (a=8) (R (rT #[uI 1,uB true]) V) (Br (a=18) (R (rT #[uI 1,uB true]) V) (Br (a=24) (R (rT #[uI 1,uB true]) V) (Br (a=21) (R (rT #[uI 3,uB true]) V) (Br (9<=a) (R (rT #[uI 2,uB (decide (a<=23))]) V) (R (rT #[uI 2,uB false]) V))))))))))))
theorem x235{a:Int}(h:w235 a V R):TT 235 #[uI a] V R:=trx Tryz.func235 h
def w236(a b:Int)(c:ByteArray)(d:Sl):MR:=fun V R=>Br (a=1) (Br (0<=b) (Br (b<=1099511627776) (R (rV (uB (decide (c=(qAq []))))) V) (R (rV (uB false)) V)) (R (rV (uB false)) V)) (Br (a=2) (Br (b=0) (R (rV (uB (decide (c=(qAq []))))) V) (Br (b=1) (R (rV (uB (decide (c=(qAq []))))) V) (R (rV (uB false)) V))) (Br (a=4) (Br (b=0) (TB 101 #[uS c] V fun g V1=>Br (g=true) (R (rV (uB true)) V1) (R (rV (uB (decide (c=(qAq [116,104,105,115]))))) V1)) (R (rV (uB false)) V)) (Br (a=6) (Br (b=0) (TB 101 #[uS c] V fun g V1=>R (rV (uB g)) V1) (R (rV (uB false)) V)) (Br (a=5) (Br (b=0) (TB 101 #[uS c] V fun g V1=>R (rV (uB g)) V1) (R (rV (uB false)) V)) (Br (a=7) (Br (b=0) (TB 101 #[uS c] V fun g V1=>R (rV (uB g)) V1) (R (rV (uB false)) V)) (Br (b=0) (R (rV (uB (decide (c=(qAq []))))) V) (R (rV (uB false)) V)))))))
theorem x236{a b:Int}{c:ByteArray}{d:Sl}(h:w236 a b c d V R):TT 236 #[uA #[uI a,uI b,uS c,uL d]] V R:=trx Tryz.func236 h
def w237(a b:Int)(c:ByteArray)(d:Sl)(g i:Option Addr):MR:=fun V R=>∃j,V.rowp g ((0:Int).toNat*1) 1=some [uI j]/\IR (j+1)/\∃k,V.rowp i ((0:Int).toNat*1) 1=some [uP k]/\TB 195 #[uA #[uI a,uI b,uS c,uL d],uI (j+1),uP k] V fun l V1=>R (rV (uB (!l))) V1
theorem x237{a b:Int}{c:ByteArray}{d:Sl}{g i:Option Addr}(h:w237 a b c d g i V R):TT 237 #[uA #[uI a,uI b,uS c,uL d],uP g,uP i] V R:=trx Tryz.func237 h
def w238(a:Sl)(b:Value):MR:=fun V R=>Lp [uI 0,uI 0] V fun I n V1=>∀c d,I n [uI c,uI d] V1->∀J0:LMP,Nx I n J0->Br (d<(a.n:Int)) (Ix a d (∃g i j k,V1.rowp a.p (d.toNat*4) 4=some [uI g,uI i,uS j,uL k]/\∃f first caps,K.cast .f b=.func (.func f) first caps/\CO f/\TT f (first++#[uA #[uI g,uI i,uS j,uL k]]++caps) V1 fun e V2=>∃l,e=rV (uB l)/\Br (l=true) (R (rV (uI d)) V2) (IR (d+1)/\J0 [uI c,uI (d+1)] V2))) (R (rV (uI (-1))) V1)
theorem x238{a:Sl}{b:Value}(h:w238 a b V R):TT 238 #[uL a,K.cast .f b] V R :=
 qBf Tryz.func238 [] [] false [uL a,b] (by kernel_rfl) (by kernel_rfl) h
def w254(a:Sl)(b:Value):MR:=fun V R=>Lp [uI 0,uI 0] V fun I n V1=>∀c d,I n [uI c,uI d] V1->∀J0:LMP,Nx I n J0->Br (d<(a.n:Int)) (Ix a d (∃g i j k l o p,V1.rowp a.p (d.toNat*7) 7=some [uS g,uS i,uI j,uI k,uI l,uS o,uL p]/\∃f first caps,K.cast .f b=.func (.func f) first caps/\CO f/\TT f (first++#[uA #[uS g,uS i,uI j,uI k,uI l,uS o,uL p]]++caps) V1 fun e V2=>∃q,e=rV (uB q)/\Br (q=true) (R (rV (uI d)) V2) (IR (d+1)/\J0 [uI c,uI (d+1)] V2))) (R (rV (uI (-1))) V1)
theorem x254{a:Sl}{b:Value}(h:w254 a b V R):TT 254 #[uL a,K.cast .f b] V R :=
 qBf Tryz.func254 [] [] false [uL a,b] (by kernel_rfl) (by kernel_rfl) h
def w255(a:Sl)(b:Value):MR:=fun V R=>Lp [uI 0,uI 0] V fun I n V1=>∀c d,I n [uI c,uI d] V1->∀J0:LMP,Nx I n J0->Br (d<(a.n:Int)) (Ix a d (∃g i j k l o,V1.rowp a.p (d.toNat*6) 6=some [uS g,uS i,uI j,uI k,uS l,uL o]/\∃f first caps,K.cast .f b=.func (.func f) first caps/\CO f/\TT f (first++#[uA #[uS g,uS i,uI j,uI k,uS l,uL o]]++caps) V1 fun e V2=>∃p,e=rV (uB p)/\Br (p=true) (R (rV (uI d)) V2) (IR (d+1)/\J0 [uI c,uI (d+1)] V2))) (R (rV (uI (-1))) V1)
theorem x255{a:Sl}{b:Value}(h:w255 a b V R):TT 255 #[uL a,K.cast .f b] V R :=
 qBf Tryz.func255 [] [] false [uL a,b] (by kernel_rfl) (by kernel_rfl) h
def w256(a:Sl):MR:=fun V R=>qAC [uL a] 23 V fun b V1=>R (rV (.func (.func 271) #[] #[uP (qAa b 0)])) V1
theorem x256{a:Sl}(h:w256 a V R):TT 256 #[uL a] V R:=trx Tryz.func256 h
def w257(a:Option Addr)(b:Option Nat)(c:Bool)(d g:Int)(i:ByteArray)(j:Sl):MR:=fun V R=>Lp [uS (qAq []),uI 0,.slice none 0 0,uI 0] V fun I n V1=>∀k l o p,I n [uS k,uI l,uL o,uI p] V1->∀J0:LMP,Nx I n J0->Br (p<(j.n:Int)) (Ix j p (∃q r s u,V1.rowp j.p (p.toNat*4) 4=some [uI q,uI r,uS s,uL u]/\TT 224 #[uA #[uP a,uM b,uB c],uA #[uI q,uI r,uS s,uL u]] V1 fun e V2=>∃y z,e=rT #[uS y,uI z]/\Br (z=0) (qAC [uS y] 9 V2 fun A V3=>GenK Tryz.prog (.call { callee:=(.builtin .append),args:=#[(.tmp 31),(.tmp 33)],argTypes:=#[232,232] }) 232 (gv [(31,uL o),(33,.slice (qAa A 0) 1 1)]) V3 fun x V4=>∃B,x=uL B/\IR (p+1)/\J0 [uS k,uI l,uL B,uI (p+1)] V4) (R (rT #[uS (qAq []),uI z]) V2))) (Br (c=true) (¬a=none/\¬a=none/\∃q,V1.rowp a 9 1=some [uM q]/\qCd Tryz.prog 210 (uM q) (uS i) true V1 fun x=>∃r s u y z A,x=.tuple #[uA #[uS r,uL s,uS u,uL y,uL z],uB A]/\Br (A=true) (Br ((o.n:Int)=(s.n:Int)) (Lp [uS k,uI l,uI 0] V1 fun I n V2=>∀B C D,I n [uS B,uI C,uI D] V2->∀J1:LMP,Nx I n J1->Br (D<(o.n:Int)) (Ix o D (∃F,V2.rowp o.p (D.toNat*1) 1=some [uS F]/\Ix s D (¬(qAa s.p (D.toNat*2))=none/\∃G H,V2.rowp s.p (D.toNat*2) 2=some [uS G,uS H]/\TB 258 #[uP a,uS F,uS H] V2 fun L V3=>Br (L=true) (IR (D+1)/\J1 [uS B,uI C,uI (D+1)] V3) (R (rT #[uS (qAq []),uI 11]) V3)))) (R (rT #[uS u,uI 0]) V2)) (R (rT #[uS (qAq []),uI 3]) V1)) (R (rT #[uS (qAq []),uI 9]) V1)) (TT 272 #[uA #[uP a,uM b,uB c],uS i,uL o] V1 fun e V2=>∃q r,e=rT #[uS q,uI r]/\R (rT #[uS q,uI r]) V2))
theorem x257{a:Option Addr}{b:Option Nat}{c:Bool}{d g:Int}{i:ByteArray}{j:Sl}(h:w257 a b c d g i j V R):TT 257 #[uA #[uP a,uM b,uB c],uA #[uI d,uI g,uS i,uL j]] V R:=trx Tryz.func257 h
def w258(a:Option Addr)(b c:ByteArray):MR:=fun V R=>Br (b=c) (R (rV (uB true)) V) (Br (b=(qAq [110,105,108])) (TB 177 #[uP a,uS c] V fun d V1=>R (rV (uB d)) V1) (R (rV (uB false)) V))
theorem x258{a:Option Addr}{b c:ByteArray}(h:w258 a b c V R):TT 258 #[uP a,uS b,uS c] V R:=trx Tryz.func258 h
def w259(a:Option Addr)(b c:ByteArray):MR:=fun V R=>¬a=none/\¬a=none/\∃d,V.rowp a 8 1=some [uM d]/\qCd Tryz.prog 209 (uM d) (uS b) true V fun x=>∃g i j,x=.tuple #[uA #[uS g,uL i],uB j]/\Br (j=true) (Lp [uS (qAq []),uI 0,uI 0] V fun I n V1=>∀k l o,I n [uS k,uI l,uI o] V1->∀J0:LMP,Nx I n J0->Br (o<(i.n:Int)) (Ix i o (∃p q,V1.rowp i.p (o.toNat*2) 2=some [uS p,uS q]/\Br (p=c) (R (rT #[uS q,uI 0]) V1) (IR (o+1)/\J0 [uS k,uI l,uI (o+1)] V1))) (R (rT #[uS (qAq []),uI 9]) V1)) (R (rT #[uS (qAq []),uI 11]) V)
theorem x259{a:Option Addr}{b c:ByteArray}(h:w259 a b c V R):TT 259 #[uP a,uS b,uS c] V R:=trx Tryz.func259 h
abbrev w260_0(k:Sl)(V:Mem)(a:Option Addr)(R:RP):Prop:=¬k.p=none/\(0:Int)<=(0:Int)/\0<(k.n:Int)/\∃l,V.rowp k.p ((0:Int).toNat*1) 1=some [uS l]/\¬k.p=none/\(0:Int)<=(1:Int)/\1<(k.n:Int)/\∃o,V.rowp k.p 1 1=some [uS o]/\TB 258 #[uP a,uS l,uS o] V fun p V1=>Br (p=true) (R (rT #[uS (qAq [98,111,111,108]),uI 0]) V1) (¬k.p=none/\(0:Int)<=(1:Int)/\1<(k.n:Int)/\∃q,V1.rowp k.p 1 1=some [uS q]/\¬k.p=none/\(0:Int)<=(0:Int)/\0<(k.n:Int)/\∃r,V1.rowp k.p ((0:Int).toNat*1) 1=some [uS r]/\TB 258 #[uP a,uS q,uS r] V1 fun s V2=>Br (s=true) (R (rT #[uS (qAq [98,111,111,108]),uI 0]) V2) (R (rT #[uS (qAq []),uI 11]) V2))
def w260(a:Option Addr)(b:Option Nat)(c:Bool)(d g:Int)(i:ByteArray)(j k:Sl):MR:=fun V R=>Br (d=1) (R (rT #[uS (qAq [105,110,116]),uI 0]) V) (Br (d=2) (R (rT #[uS (qAq [98,111,111,108]),uI 0]) V) (Br (d=3) (R (rT #[uS (qAq [110,105,108]),uI 0]) V) (Br (d=4) (qCd Tryz.prog 262 (uM b) (uS i) true V fun x=>∃l o,x=.tuple #[uS l,uB o]/\Br (o=true) (R (rT #[uS l,uI 0]) V) (R (rT #[uS (qAq []),uI 9]) V)) (Br (d=5) (¬k.p=none/\(0:Int)<=(0:Int)/\0<(k.n:Int)/\∃l,V.rowp k.p ((0:Int).toNat*1) 1=some [uS l]/\TT 259 #[uP a,uS l,uS i] V fun e V1=>∃o p,e=rT #[uS o,uI p]/\R (rT #[uS o,uI p]) V1) (Br (d=6) (Br (c=true) (TB 177 #[uP a,uS i] V fun l V1=>Br (l=true) (R (rT #[uS i,uI 0]) V1) (R (rT #[uS (qAq []),uI 9]) V1)) (R (rT #[uS (qAq []),uI 13]) V)) (Br (d=14) (w260_0 k V a R) (Br (d=15) (w260_0 k V a R) (Br (d=16) (qAC [uL k] 232 V fun l V1=>TT 273 #[uS (qAq [105,110,116]),uS (qAq [98,111,111,108]),uP (qAa l 0)] V1 fun e V2=>∃o p,e=rT #[uS o,uI p]/\R (rT #[uS o,uI p]) V2) (Br (d=17) (qAC [uL k] 232 V fun l V1=>TT 273 #[uS (qAq [105,110,116]),uS (qAq [98,111,111,108]),uP (qAa l 0)] V1 fun e V2=>∃o p,e=rT #[uS o,uI p]/\R (rT #[uS o,uI p]) V2) (Br (d=18) (qAC [uL k] 232 V fun l V1=>TT 273 #[uS (qAq [98,111,111,108]),uS (qAq [98,111,111,108]),uP (qAa l 0)] V1 fun e V2=>∃o p,e=rT #[uS o,uI p]/\R (rT #[uS o,uI p]) V2) (Br (d=19) (qAC [uL k] 232 V fun l V1=>TT 273 #[uS (qAq [98,111,111,108]),uS (qAq [98,111,111,108]),uP (qAa l 0)] V1 fun e V2=>∃o p,e=rT #[uS o,uI p]/\R (rT #[uS o,uI p]) V2) (Br (d=20) (qAC [uL k] 232 V fun l V1=>TT 273 #[uS (qAq [98,111,111,108]),uS (qAq [98,111,111,108]),uP (qAa l 0)] V1 fun e V2=>∃o p,e=rT #[uS o,uI p]/\R (rT #[uS o,uI p]) V2) (Br (d=21) (¬k.p=none/\(0:Int)<=(0:Int)/\0<(k.n:Int)/\∃l,V.rowp k.p ((0:Int).toNat*1) 1=some [uS l]/\Br (l=(qAq [98,111,111,108])) (¬k.p=none/\(0:Int)<=(1:Int)/\1<(k.n:Int)/\∃o,V.rowp k.p 1 1=some [uS o]/\¬k.p=none/\(0:Int)<=(2:Int)/\2<(k.n:Int)/\∃p,V.rowp k.p 2 1=some [uS p]/\TB 258 #[uP a,uS o,uS p] V fun q V1=>Br (q=true) (¬k.p=none/\(0:Int)<=(2:Int)/\2<(k.n:Int)/\∃r,V1.rowp k.p 2 1=some [uS r]/\R (rT #[uS r,uI 0]) V1) (¬k.p=none/\(0:Int)<=(2:Int)/\2<(k.n:Int)/\∃r,V1.rowp k.p 2 1=some [uS r]/\¬k.p=none/\(0:Int)<=(1:Int)/\1<(k.n:Int)/\∃s,V1.rowp k.p 1 1=some [uS s]/\TB 258 #[uP a,uS r,uS s] V1 fun u V2=>Br (u=true) (¬k.p=none/\(0:Int)<=(1:Int)/\1<(k.n:Int)/\∃y,V2.rowp k.p 1 1=some [uS y]/\R (rT #[uS y,uI 0]) V2) (R (rT #[uS (qAq []),uI 11]) V2))) (R (rT #[uS (qAq []),uI 11]) V)) (qAC [uL k] 232 V fun l V1=>TT 273 #[uS (qAq [105,110,116]),uS (qAq [105,110,116]),uP (qAa l 0)] V1 fun e V2=>∃o p,e=rT #[uS o,uI p]/\R (rT #[uS o,uI p]) V2))))))))))))))
theorem x260{a:Option Addr}{b:Option Nat}{c:Bool}{d g:Int}{i:ByteArray}{j k:Sl}(h:w260 a b c d g i j k V R):TT 260 #[uA #[uP a,uM b,uB c],uA #[uI d,uI g,uS i,uL j],uL k] V R:=trx Tryz.func260 h
def w261(a:ByteArray)(b:Sl)(c:Option Addr):MR:=fun V R=>∃d,V.rowp c ((0:Int).toNat*1) 1=some [uS d]/\R (rV (uB (decide (a=d)))) V
theorem x261{a:ByteArray}{b:Sl}{c:Option Addr}(h:w261 a b c V R):TT 261 #[uA #[uS a,uL b],uP c] V R:=trx Tryz.func261 h
end
end Go.Proofs
namespace Go.Proofs
open Go Go.Sx
set_option maxRecDepth 100000
set_option linter.unusedVariables false
section
variable{V:Mem}{R:RP}
abbrev qAN  : ByteArray :=
 qAq [0,1,2,2,3,3,3,3,4,4,4,4,4,4,4,4,5,5,5,5,5,5,5,5,5,5,5,5,5,5,5,5,6,6,6,6,6,6,6,6,6,6,6,6,6,6,6,6,6,6,6,6,6,6,6,6,6,6,6,6,6,6,6,6,7,7,7,7,7,7,7,7,7,7,7,7,7,7,7,7,7,7,7,7,7,7,7,7,7,7,7,7,7,7,7,7,7,7,7,7,7,7,7,7,7,7,7,7,7,7,7,7,7,7,7,7,7,7,7,7,7,7,7,7,7,7,7,7,8,8,8,8,8,8,8,8,8,8,8,8,8,8,8,8,8,8,8,8,8,8,8,8,8,8,8,8,8,8,8,8,8,8,8,8,8,8,8,8,8,8,8,8,8,8,8,8,8,8,8,8,8,8,8,8,8,8,8,8,8,8,8,8,8,8,8,8,8,8,8,8,8,8,8,8,8,8,8,8,8,8,8,8,8,8,8,8,8,8,8,8,8,8,8,8,8,8,8,8,8,8,8,8,8,8,8,8,8,8,8,8,8,8,8,8,8,8,8,8,8,8,8,8,8,8,8,8]
def w263(a:Int):MR:=fun V R=>Br (4294967296<=a) (GenK Tryz.prog (.binOp .shr 324 (.tmp 5) (.const (.int .u64 32)) 300) 324 (gv [(5,.int .u64 a)]) V fun x V1=>∃b,x=.int .u64 b/\Br (65536<=b) (GenK Tryz.prog (.binOp .shr 324 (.tmp 9) (.const (.int .u64 16)) 300) 324 (gv [(9,.int .u64 b)]) V1 fun x V2=>∃c,x=.int .u64 c/\IR ((32:Int)+(16:Int))/\Br (256<=c) (GenK Tryz.prog (.binOp .shr 324 (.tmp 15) (.const (.int .u64 8)) 300) 324 (gv [(15,.int .u64 c)]) V2 fun x V3=>∃d,x=.int .u64 d/\IR (((32:Int)+(16:Int))+8)/\K.inR .u8 d/\(0<=d/\d<((qAN).size:Int))/\IR (qBd (qAN) d)/\IR ((((32:Int)+(16:Int))+8)+(qBd (qAN) d))/\R (rV (uI ((((32:Int)+(16:Int))+8)+(qBd (qAN) d)))) V3) (K.inR .u8 c/\(0<=c/\c<((qAN).size:Int))/\IR (qBd (qAN) c)/\IR (((32:Int)+(16:Int))+(qBd (qAN) c))/\R (rV (uI (((32:Int)+(16:Int))+(qBd (qAN) c)))) V2)) (Br (256<=b) (GenK Tryz.prog (.binOp .shr 324 (.tmp 15) (.const (.int .u64 8)) 300) 324 (gv [(15,.int .u64 b)]) V1 fun x V2=>∃c,x=.int .u64 c/\IR ((32:Int)+(8:Int))/\K.inR .u8 c/\(0<=c/\c<((qAN).size:Int))/\IR (qBd (qAN) c)/\IR (((32:Int)+(8:Int))+(qBd (qAN) c))/\R (rV (uI (((32:Int)+(8:Int))+(qBd (qAN) c)))) V2) (K.inR .u8 b/\(0<=b/\b<((qAN).size:Int))/\IR (qBd (qAN) b)/\IR (32+(qBd (qAN) b))/\R (rV (uI (32+(qBd (qAN) b)))) V1))) (Br (65536<=a) (GenK Tryz.prog (.binOp .shr 324 (.tmp 9) (.const (.int .u64 16)) 300) 324 (gv [(9,.int .u64 a)]) V fun x V1=>∃b,x=.int .u64 b/\IR ((0:Int)+(16:Int))/\Br (256<=b) (GenK Tryz.prog (.binOp .shr 324 (.tmp 15) (.const (.int .u64 8)) 300) 324 (gv [(15,.int .u64 b)]) V1 fun x V2=>∃c,x=.int .u64 c/\IR (((0:Int)+(16:Int))+8)/\K.inR .u8 c/\(0<=c/\c<((qAN).size:Int))/\IR (qBd (qAN) c)/\IR ((((0:Int)+(16:Int))+8)+(qBd (qAN) c))/\R (rV (uI ((((0:Int)+(16:Int))+8)+(qBd (qAN) c)))) V2) (K.inR .u8 b/\(0<=b/\b<((qAN).size:Int))/\IR (qBd (qAN) b)/\IR (((0:Int)+(16:Int))+(qBd (qAN) b))/\R (rV (uI (((0:Int)+(16:Int))+(qBd (qAN) b)))) V1)) (Br (256<=a) (GenK Tryz.prog (.binOp .shr 324 (.tmp 15) (.const (.int .u64 8)) 300) 324 (gv [(15,.int .u64 a)]) V fun x V1=>∃b,x=.int .u64 b/\IR ((0:Int)+(8:Int))/\K.inR .u8 b/\(0<=b/\b<((qAN).size:Int))/\IR (qBd (qAN) b)/\IR (((0:Int)+(8:Int))+(qBd (qAN) b))/\R (rV (uI (((0:Int)+(8:Int))+(qBd (qAN) b)))) V1) (K.inR .u8 a/\(0<=a/\a<((qAN).size:Int))/\IR (qBd (qAN) a)/\IR (0+(qBd (qAN) a))/\R (rV (uI (0+(qBd (qAN) a)))) V)))
theorem x263{a:Int}(h:w263 a V R):TT 263 #[.int .u64 a] V R:=trx Tryz.func263 h
def w264(a:Int):MR:=fun V R=>IR (0-a)/\GenK Tryz.prog (.call { callee:=(.builtin .max),args:=#[(.tmp 3),(.tmp 5)],argTypes:=#[3,3] }) 3 (gv [(3,uI a),(5,uI (0-a))]) V fun x V1=>∃b,x=uI b/\R (rV (uI b)) V1
theorem x264{a:Int}(h:w264 a V R):TT 264 #[uI a] V R:=trx Tryz.func264 h
def w265(a:ByteArray):MR:=fun V R=>R (rV (uB (!(decide (a=a))))) V
theorem x265{a:ByteArray}(h:w265 a V R):TT 265 #[uS a] V R:=trx Tryz.func265 h
def w272(a:Option Addr)(b:Option Nat)(c:Bool)(d:ByteArray)(g:Sl):MR:=fun V R=>¬a=none/\¬a=none/\¬(qAa a 0)=none/\∃i,V.rowp a 4 1=some [uL i]/\qAC [uS d] 9 V fun j V1=>TI 254 #[uL i,.func (.func 277) #[] #[uP (qAa j 0)]] V1 fun k V2=>Br (k<0) (R (rT #[uS (qAq []),uI 9]) V2) (Br ((g.n:Int)=1) (¬g.p=none/\(0:Int)<=(0:Int)/\0<(g.n:Int)/\∃l,V2.rowp g.p ((0:Int).toNat*1) 1=some [uS l]/\¬a=none/\¬a=none/\¬(qAa a 0)=none/\∃o,V2.rowp a 4 1=some [uL o]/\Ix o k (¬(qAa o.p (k.toNat*7))=none/\∃p q r s u y z,V2.rowp o.p (k.toNat*7) 7=some [uS p,uS q,uI r,uI s,uI u,uS y,uL z]/\TB 258 #[uP a,uS l,uS q] V2 fun A V3=>Br (A=true) (R (rT #[uS (qAq [105,110,116]),uI 0]) V3) (R (rT #[uS (qAq []),uI 11]) V3))) (R (rT #[uS (qAq []),uI 3]) V2))
theorem x272{a:Option Addr}{b:Option Nat}{c:Bool}{d:ByteArray}{g:Sl}(h:w272 a b c d g V R):TT 272 #[uA #[uP a,uM b,uB c],uS d,uL g] V R:=trx Tryz.func272 h
def w273(a b:ByteArray)(c:Option Addr):MR:=fun V R=>∃d,V.rowp c ((0:Int).toNat*1) 1=some [uL d]/\qAC [uS a] 9 V fun g V1=>TB 274 #[uL d,.func (.func 275) #[] #[uP (qAa g 0)]] V1 fun i V2=>Br (i=true) (R (rT #[uS (qAq []),uI 11]) V2) (R (rT #[uS b,uI 0]) V2)
theorem x273{a b:ByteArray}{c:Option Addr}(h:w273 a b c V R):TT 273 #[uS a,uS b,uP c] V R:=trx Tryz.func273 h
def w274(a:Sl)(b:Value):MR:=fun V R=>TI 278 #[uL a,K.cast .f b] V fun c V1=>R (rV (uB (decide (0<=c)))) V1
theorem x274{a:Sl}{b:Value}(h:w274 a b V R):TT 274 #[uL a,K.cast .f b] V R :=
 qBf Tryz.func274 [] [] false [uL a,b] (by kernel_rfl) (by kernel_rfl) h
def w275(a:ByteArray)(b:Option Addr):MR:=fun V R=>∃c,V.rowp b ((0:Int).toNat*1) 1=some [uS c]/\R (rV (uB (!(decide (a=c))))) V
theorem x275{a:ByteArray}{b:Option Addr}(h:w275 a b V R):TT 275 #[uS a,uP b] V R:=trx Tryz.func275 h
def w277(a b:ByteArray)(c d g:Int)(i:ByteArray)(j:Sl)(k:Option Addr):MR:=fun V R=>∃l,V.rowp k ((0:Int).toNat*1) 1=some [uS l]/\R (rV (uB (decide (a=l)))) V
theorem x277{a b:ByteArray}{c d g:Int}{i:ByteArray}{j:Sl}{k:Option Addr}(h:w277 a b c d g i j k V R):TT 277 #[uA #[uS a,uS b,uI c,uI d,uI g,uS i,uL j],uP k] V R:=trx Tryz.func277 h
def w278(a:Sl)(b:Value):MR:=fun V R=>Lp [uI 0,uI 0] V fun I n V1=>∀c d,I n [uI c,uI d] V1->∀J0:LMP,Nx I n J0->Br (d<(a.n:Int)) (Ix a d (∃g,V1.rowp a.p (d.toNat*1) 1=some [uS g]/\∃f first caps,K.cast .f b=.func (.func f) first caps/\CO f/\TT f (first++#[uS g]++caps) V1 fun e V2=>∃i,e=rV (uB i)/\Br (i=true) (R (rV (uI d)) V2) (IR (d+1)/\J0 [uI c,uI (d+1)] V2))) (R (rV (uI (-1))) V1)
theorem x278{a:Sl}{b:Value}(h:w278 a b V R):TT 278 #[uL a,K.cast .f b] V R :=
 qBf Tryz.func278 [] [] false [uL a,b] (by kernel_rfl) (by kernel_rfl) h
def w23(a:ByteArray)(b c d g i j k l o p:Sl)(q:Int):MR:=fun V R=>TI 43 #[uD a b c d g i j k,uA #[uL l,uL o],uI q] V fun r V1=>Br (r=0) (Br (2000<(p.n:Int)) (R (rT #[.slice none 0 0,uA #[.slice none 0 0,.slice none 0 0],uI 4]) V1) (TT 44 #[uA #[uL l,uL o]] V1 fun e V2=>∃s u,e=rV (uA #[uL s,uL u])/\Lp [uL s,uL u,.slice none 0 0,uI 0,.slice none 0 0,uI 0] V2 fun I n V3=>∀y z A B C D,I n [uL y,uL z,uL A,uI B,uL C,uI D] V3->∀J0:LMP,Nx I n J0->Br (D<(p.n:Int)) (Ix p D (∃F G,V3.rowp p.p (D.toNat*2) 2=some [uS F,uL G]/\TT 45 #[uD a b c d g i j k,uA #[uL y,uL z],uA #[uS F,uL G],uI q] V3 fun e V4=>∃H L M N O P Q,e=rT #[uP H,uA #[uI L,uI M,uI N,uI O,uI P],uI Q]/\Br (Q=0) (qAC [uI L,uI M,uI N,uI O,uI P] 54 V4 fun U V5=>GenK Tryz.prog (.call { callee:=(.builtin .append),args:=#[(.tmp 51),(.tmp 53)],argTypes:=#[71,71] }) 71 (gv [(51,uL C),(53,.slice (qAa U 0) 1 1)]) V5 fun x V6=>∃W,x=uL W/\¬H=none/\¬H=none/\∃X Y,V6.rowp H 8 2=some [uL X,uL Y]/\IR (D+1)/\J0 [uL X,uL Y,uL A,uI B,uL W,uI (D+1)] V6) (R (rT #[.slice none 0 0,uA #[.slice none 0 0,.slice none 0 0],uI Q]) V4))) (R (rT #[uL C,uA #[uL y,uL z],uI 0]) V3))) (R (rT #[.slice none 0 0,uA #[.slice none 0 0,.slice none 0 0],uI r]) V1)
theorem x23{a:ByteArray}{b c d g i j k l o p:Sl}{q:Int}(h:w23 a b c d g i j k l o p q V R):TT 23 #[uD a b c d g i j k,uA #[uL l,uL o],uL p,uI q] V R :=
 qIn Tryz.func23 [] [(9,[5])] false (by kernel_rfl) (by kernel_rfl) h
def w32(a b:Sl):MR:=fun V R=>TL 58 #[uL a] V fun c V1=>Lp [uL c,.slice none 0 0,uI 0] V1 fun I n V2=>∀d g i,I n [uL d,uL g,uI i] V2->∀J0:LMP,Nx I n J0->Br (i<(b.n:Int)) (Ix b i (∃j k,V2.rowp b.p (i.toNat*2) 2=some [uI j,uL k]/\TL 58 #[uL k] V2 fun l V3=>qAC [uI j,uL l] 104 V3 fun o V4=>GenK Tryz.prog (.call { callee:=(.builtin .append),args:=#[(.tmp 18),(.tmp 25)],argTypes:=#[32,32] }) 32 (gv [(18,uL g),(25,.slice (qAa o 0) 1 1)]) V4 fun x V5=>∃p,x=uL p/\IR (i+1)/\J0 [uL d,uL p,uI (i+1)] V5)) (R (rV (uA #[uL d,uL g])) V2)
theorem x32{a b:Sl}(h:w32 a b V R):TT 32 #[uA #[uL a,uL b]] V R :=
 qIn Tryz.func32 [] [(3,[3])] false (by kernel_rfl) (by kernel_rfl) h
def w44(a b:Sl):MR:=fun V R=>TL 58 #[uL a] V fun c V1=>Lp [uL c,.slice none 0 0,uI 0] V1 fun I n V2=>∀d g i,I n [uL d,uL g,uI i] V2->∀J0:LMP,Nx I n J0->Br (i<(b.n:Int)) (Ix b i (∃j k,V2.rowp b.p (i.toNat*2) 2=some [uI j,uL k]/\TL 58 #[uL k] V2 fun l V3=>qAC [uI j,uL l] 104 V3 fun o V4=>GenK Tryz.prog (.call { callee:=(.builtin .append),args:=#[(.tmp 18),(.tmp 25)],argTypes:=#[32,32] }) 32 (gv [(18,uL g),(25,.slice (qAa o 0) 1 1)]) V4 fun x V5=>∃p,x=uL p/\IR (i+1)/\J0 [uL d,uL p,uI (i+1)] V5)) (R (rV (uA #[uL d,uL g])) V2)
theorem x44{a b:Sl}(h:w44 a b V R):TT 44 #[uA #[uL a,uL b]] V R :=
 qIn Tryz.func44 [] [(3,[3])] false (by kernel_rfl) (by kernel_rfl) h
def w95(a:Option Addr):MR:=fun V R=>GenK Tryz.prog (.makeFunc (.func 130) #[(.tmp 6)] #[]) 180 (gv [(6,uP a)]) V fun x V1=>∃b,K.f.ok b/\x=b/\GenK Tryz.prog (.makeFunc (.func 131) #[(.tmp 8)] #[]) 180 (gv [(8,uP a)]) V1 fun x V2=>∃c,K.f.ok c/\x=c/\GenK Tryz.prog (.makeFunc (.func 132) #[(.tmp 10)] #[]) 180 (gv [(10,uP a)]) V2 fun x V3=>∃d,K.f.ok d/\x=d/\GenK Tryz.prog (.makeFunc (.func 133) #[(.tmp 12)] #[]) 180 (gv [(12,uP a)]) V3 fun x V4=>∃g,K.f.ok g/\x=g/\GenK Tryz.prog (.makeFunc (.func 134) #[(.tmp 14)] #[]) 180 (gv [(14,uP a)]) V4 fun x V5=>∃i,K.f.ok i/\x=i/\qAC [K.cast .f b,K.cast .f c,K.cast .f d,K.cast .f g,K.cast .f i] 180 V5 fun j V6=>Lp [uP none,uI 0] V6 fun I n V7=>∀k l,I n [uP k,uI l] V7->∀J0:LMP,Nx I n J0->Br (l<5) (¬(qAa j 0)=none/\0<=l/\l<5/\∃o,K.f.ok o/\V7.rowp (qAa j 0) (l.toNat*1) 1=some [o]/\∃f first caps,K.cast .f o=.func (.func f) first caps/\CO f/\TT f (first++#[]++caps) V7 fun e V8=>∃p,e=rV (uP p)/\Br (p=none) (IR (l+1)/\J0 [uP k,uI (l+1)] V8) (R (rV (uP p)) V8)) (R (rV (uP none)) V7)
theorem x95{a:Option Addr}(h:w95 a V R):TT 95 #[uP a] V R :=
 qIn Tryz.func95 [16] [] false (by kernel_rfl) (by kernel_rfl) h
def w183(a:Option Addr)(b:Option Nat)(c:Bool)(d:Sl)(g:ByteArray)(i:Option Addr):MR:=fun V R=>Lp [uI 0,uI 0,uI 0] V fun I n V1=>∀j k l,I n [uI j,uI k,uI l] V1->∀J0:LMP,Nx I n J0->Br (l<(d.n:Int)) (Ix d l (∃o p q r s,V1.rowp d.p (l.toNat*5) 5=some [uI o,uS p,uL q,uL r,uL s]/\¬i=none/\∃u,V1.rowp i ((0:Int).toNat*1) 1=some [uI u]/\¬i=none/\∃y,V1.rowp i ((0:Int).toNat*1) 1=some [uI y]/\IR (y+1)/\¬i=none/\StT i 0 [uI (y+1)] V1 fun V2=>TI 223 #[uA #[uP a,uM b,uB c],uA #[uI o,uS p,uL q,uL r,uL s],uS g] V2 fun z V3=>Br (z=0) (qAC [uL r,uL s] 117 V3 fun A V4=>Lp [uI j,uI k,uI 0] V4 fun I n V5=>∀B C D,I n [uI B,uI C,uI D] V5->∀J1:LMP,Nx I n J1->Br (D<2) (¬(qAa A 0)=none/\0<=D/\D<2/\∃F,V5.rowp (qAa A 0) (D.toNat*1) 1=some [uL F]/\TT 183 #[uA #[uP a,uM b,uB c],uL F,uS g,uP i] V5 fun e V6=>∃G H,e=rT #[uI G,uI H]/\Br (H=0) (IR (D+1)/\J1 [uI B,uI C,uI (D+1)] V6) (R (rT #[uI G,uI H]) V6)) (IR (l+1)/\J0 [uI B,uI C,uI (l+1)] V5)) (R (rT #[uI u,uI z]) V3))) (R (rT #[uI 0,uI 0]) V1)
theorem x183{a:Option Addr}{b:Option Nat}{c:Bool}{d:Sl}{g:ByteArray}{i:Option Addr}(h:w183 a b c d g i V R):TT 183 #[uA #[uP a,uM b,uB c],uL d,uS g,uP i] V R :=
 qIn Tryz.func183 [44] [] false (by kernel_rfl) (by kernel_rfl) h
end
end Go.Proofs
namespace Go.Proofs
open Go Go.Sx
abbrev PP(f:FuncId)(args:List Value)(V:Mem)(v:Value):Prop:=Pur Tryz.prog f args V v
def qCX(c:Int):Bool:=decide (97<=c/\c<=122∨65<=c/\c<=90)
def qHD(c:Int):Bool:=decide (48<=c/\c<=57)
def qII(c:Int):Bool:=qCX c||qHD c||decide (c=95)
def cls(c:Int):Int:=if c=32∨c=9∨c=13∨c=10 then 1 else if qCX c then 2 else if qHD c then 3 else if c=95 then 4 else 0
theorem c139{V:Mem}{c:Int}:PP 139 [.int .u8 c] V (.int .i64 (cls c)):=by
 refine x139 ?_
 unfold w139
 have key:∀n:Int,cls c=n->(Ending.returned (.int .i64 n)=Ending.returned (.int .i64 (cls c))/\V=V):=fun n h=>by rw[h];exact⟨rfl,rfl⟩
 unfold cls qCX qHD at key
 repeat' (first|intro _|apply And.intro)
 all_goals first|rfl | (refine(key _ ?_).1;grind)
theorem cls_two(c:Int):cls c=2↔qCX c=true:=by
 unfold cls qCX qHD;grind
theorem cls_word(c:Int):cls c<2↔qII c=false:=by
 unfold qII cls qCX qHD;grind
def kwList:List ByteArray:=[[116,121,112,101],[118,97,114],[112,114,111,99],[108,111,99,97,108],[109,101,97,115,117,114,101],[105,110,118,97,114,105,97,110,116],[112,111,116,101,110,116,105,97,108],[98,111,117,110,100],[105,102],[101,108,115,101],[119,104,105,108,101],[114,101,116,117,114,110],[110,101,119],[110,105,108],[116,114,117,101],[102,97,108,115,101],[97,110,100],[111,114],[110,111,116],[109,97,120],[109,105,110],[108,111,103],[105,110,116],[98,111,111,108],[116,104,105,115],[115,111,114,116],[111,112],[114,117,108,101],[115,112,101,99],[100,101,115,99],[115,99,114,105,112,116]].map qAq
def hasS(xs:List ByteArray)(s:ByteArray):Bool:=xs.any fun x=>decide (x=s)
def isKw(s:ByteArray):Bool:=hasS kwList s
def qAQ(s:ByteArray):Bool:=decide (s.size≠0/\s.size<=40/\qCX (qBd s 0)=true/\(∀i:Nat,i<s.size->qII (qBd s i)=true))&&!isKw s
end Go.Proofs
namespace Go.Proofs
open Go Go.Sx
attribute [local irreducible] Go.Sx.Tri
def qBD(s:ByteArray):List Value:=[vS s]
def strV(s:ByteArray):Value:=vS s
section
variable{α:Type}
def IdxP(f:FuncId)(row:α->List Value)(v:α->Value)(sz:Nat):Prop:=∀{V:Mem} {l:Sl} {xs:List α} {g:Nat} {first caps:List Value} (hg:qHW g) (St Hit:Nat->Mem->Prop) (hrows:∀i V1,St i V1->qAc V1 l sz (xs.map row)) (h0:St 0 V)
  (hp:∀i x V1,xs[i]?=some x->St i V1->Tri Tryz.prog g (first.toArray++#[v x]++caps.toArray) V1 fun e V2=>∃b:Bool,e=.returned (.bool b)/\(b=true->Hit i V2)/\(b=false->St (i+1) V2)),
  Tri Tryz.prog f #[l.v,.func (.func g) first.toArray caps.toArray] V fun e V'=>(∃i:Nat,e=.returned (.int .i64 i)/\Hit i V')∨(e=.returned (.int .i64 (-1))/\St xs.length V')
def ConP(f:FuncId)(row:α->List Value)(v:α->Value)(sz:Nat):Prop:=∀{V:Mem} {l:Sl} {xs:List α} {g:Nat} {first caps:List Value} (hg:qHW g) (St Hit:Nat->Mem->Prop) (hrows:∀i V1,St i V1->qAc V1 l sz (xs.map row)) (h0:St 0 V)
  (hp:∀i x V1,xs[i]?=some x->St i V1->Tri Tryz.prog g (first.toArray++#[v x]++caps.toArray) V1 fun e V2=>∃b:Bool,e=.returned (.bool b)/\(b=true->Hit i V2)/\(b=false->St (i+1) V2)),
  Tri Tryz.prog f #[l.v,.func (.func g) first.toArray caps.toArray] V fun e V'=>(∃i:Nat,e=.returned (.bool true)/\Hit i V')∨(e=.returned (.bool false)/\St xs.length V')
def ConC(f:FuncId)(row:α->List Value)(v:α->Value)(sz:Nat):Prop:=∀{V:Mem} {l:Sl} {xs:List α} {g:Nat} {first caps:List Value} (h:qAc V l sz (xs.map row)) (hg:qHW g) (p:α->Bool) (hp:∀x∈xs,PP g (first++[v x]++caps) V (.bool (p x))),PP f [l.v,.func (.func g) first.toArray caps.toArray] V (.bool (xs.any p))
variable{f fc:FuncId}{row:α->List Value}{v:α->Value}{sz:Nat}
theorem conG(h:IdxP f row v sz)(hx:∀{l:Sl} {c:Value} {V:Mem} {R:RP},(TT f #[uL l,K.cast .f c] V fun e V1=>∃v2,e=rV (uI v2)/\R (rV (uB (decide (0<=v2)))) V1)->TT fc #[uL l,K.cast .f c] V R):ConP fc row v sz:=by
 intro V l xs g first caps hg St Hit hrows h0 hp
 refine hx (c:=.func (.func g) first.toArray caps.toArray) (Tri.mono (h hg St Hit hrows h0 hp) ?_)
 rintro e V' (⟨i,rfl,h⟩|⟨rfl,h⟩)
 ·refine⟨_,rfl,.inl ⟨i,?_,h⟩⟩
  have:(0:Int)<=(i:Int):=by omega
  simp[this]
 ·exact⟨_,rfl,.inr ⟨rfl,h⟩⟩
theorem conC(H:ConP fc row v sz):ConC fc row v sz:=by
 intro V l xs g first caps h hg p hp
 refine Tri.mono (H hg (fun i V1=>V1=V/\∀j x,j<i->xs[j]?=some x->p x=false) (fun i V1=>V1=V/\∃x∈xs,p x=true) (fun i V1 hs=>hs.1 ▸ h) ⟨rfl,fun j x hj=>absurd hj (Nat.not_lt_zero _)⟩ ?_) ?_
 ·rintro i x _ hx ⟨rfl,hs⟩
  have hm:x∈xs:=List.mem_of_getElem? hx
  have:=(hp x hm).callv (q:=fun e V2=>∃b:Bool,e=.returned (.bool b)/\(b=true->V2=_/\∃x∈xs,p x=true)/\(b=false->V2=_/\∀j x,j<i+1->xs[j]?=some x->p x=false)) ⟨_,rfl,fun hb=>⟨rfl,x,hm,hb⟩,fun hb=>⟨rfl,fun j y hj hy=>by
   rcases Nat.lt_succ_iff_lt_or_eq.1 hj with h'|rfl
   ·exact hs j y h' hy
   ·rw[hx]at hy;cases hy;exact hb⟩⟩
  exact this
 ·rintro e V' (⟨i,rfl,rfl,x,hm,hx⟩|⟨rfl,rfl,hs⟩)
  ·rw[List.any_eq_true.2 ⟨x,hm,hx⟩];exact⟨rfl,rfl⟩
  ·have:xs.any p=false:=List.any_eq_false.2 fun x hm hx=>by
    obtain⟨j,hj,rfl⟩:=List.mem_iff_getElem.1 hm
    rw[hs j _ hj (List.getElem?_eq_getElem hj)]at hx;cases hx
   rw[this];exact⟨rfl,rfl⟩
end
theorem g108:IdxP 108 Fld.row Fld.v 2:=by
 intro V l xs g first caps hg St Hit hrows h0 hp
 refine x108 (a:=l) (b:=.func (.func g) first.toArray caps.toArray) ?_
 unfold w108
 refine qBe xs.length St h0 ?_
 intro i b V1 J hi hs hJ
 have h:=hrows i V1 hs
 refine⟨fun hlt=>?_,fun hge=>?_⟩
 ·obtain⟨x,hm,hx,hd,hl,hp0,hz,hrow⟩:=h.get hlt
  refine⟨hp0,hz,hlt,_,_,hrow,g,_,_,rfl,hg,Tri.mono (hp i x V1 hx hs) ?_⟩
  rintro e V2 ⟨b,rfl,h1,h2⟩
  exact⟨b,rfl,fun hb=>.inl ⟨i,rfl,h1 hb⟩,fun hb=>⟨h.succ hlt,hJ hl _ _ (h2 (by simpa using hb))⟩⟩
 ·have e:i=xs.length:=by have:=(h.done hge).2;omega
  exact .inr ⟨rfl,e ▸ hs⟩
theorem g75:ConP 75 Fld.row Fld.v 2:=conG g108 x75
theorem c75:ConC 75 Fld.row Fld.v 2:=conC g75
theorem g255:IdxP 255 Iv.row Iv.v 6:=by
 intro V l xs g first caps hg St Hit hrows h0 hp
 refine x255 (a:=l) (b:=.func (.func g) first.toArray caps.toArray) ?_
 unfold w255
 refine qBe xs.length St h0 ?_
 intro i b V1 J hi hs hJ
 have h:=hrows i V1 hs
 refine⟨fun hlt=>?_,fun hge=>?_⟩
 ·obtain⟨x,hm,hx,hd,hl,hp0,hz,hrow⟩:=h.get hlt
  refine⟨hp0,hz,hlt,_,_,_,_,_,_,hrow,g,_,_,rfl,hg,Tri.mono (hp i x V1 hx hs) ?_⟩
  rintro e V2 ⟨b,rfl,h1,h2⟩
  exact⟨b,rfl,fun hb=>.inl ⟨i,rfl,h1 hb⟩,fun hb=>⟨h.succ hlt,hJ hl _ _ (h2 (by simpa using hb))⟩⟩
 ·have e:i=xs.length:=by have:=(h.done hge).2;omega
  exact .inr ⟨rfl,e ▸ hs⟩
theorem g219:ConP 219 Iv.row Iv.v 6:=conG g255 x219
theorem c219:ConC 219 Iv.row Iv.v 6:=conC g219
theorem g109:IdxP 109 Ty.row Ty.v 2:=by
 intro V l xs g first caps hg St Hit hrows h0 hp
 refine x109 (a:=l) (b:=.func (.func g) first.toArray caps.toArray) ?_
 unfold w109
 refine qBe xs.length St h0 ?_
 intro i b V1 J hi hs hJ
 have h:=hrows i V1 hs
 refine⟨fun hlt=>?_,fun hge=>?_⟩
 ·obtain⟨x,hm,hx,hd,hl,hp0,hz,hrow⟩:=h.get hlt
  refine⟨hp0,hz,hlt,_,_,hrow,g,_,_,rfl,hg,Tri.mono (hp i x V1 hx hs) ?_⟩
  rintro e V2 ⟨b,rfl,h1,h2⟩
  exact⟨b,rfl,fun hb=>.inl ⟨i,rfl,h1 hb⟩,fun hb=>⟨h.succ hlt,hJ hl _ _ (h2 (by simpa using hb))⟩⟩
 ·have e:i=xs.length:=by have:=(h.done hge).2;omega
  exact .inr ⟨rfl,e ▸ hs⟩
theorem g79:ConP 79 Ty.row Ty.v 2:=conG g109 x79
theorem c79:ConC 79 Ty.row Ty.v 2:=conC g79
theorem g135:IdxP 135 Pr.row Pr.v 5:=by
 intro V l xs g first caps hg St Hit hrows h0 hp
 refine x135 (a:=l) (b:=.func (.func g) first.toArray caps.toArray) ?_
 unfold w135
 refine qBe xs.length St h0 ?_
 intro i b V1 J hi hs hJ
 have h:=hrows i V1 hs
 refine⟨fun hlt=>?_,fun hge=>?_⟩
 ·obtain⟨x,hm,hx,hd,hl,hp0,hz,hrow⟩:=h.get hlt
  refine⟨hp0,hz,hlt,_,_,_,_,_,hrow,g,_,_,rfl,hg,Tri.mono (hp i x V1 hx hs) ?_⟩
  rintro e V2 ⟨b,rfl,h1,h2⟩
  exact⟨b,rfl,fun hb=>.inl ⟨i,rfl,h1 hb⟩,fun hb=>⟨h.succ hlt,hJ hl _ _ (h2 (by simpa using hb))⟩⟩
 ·have e:i=xs.length:=by have:=(h.done hge).2;omega
  exact .inr ⟨rfl,e ▸ hs⟩
theorem g105:ConP 105 Pr.row Pr.v 5:=conG g135 x105
theorem c105:ConC 105 Pr.row Pr.v 5:=conC g105
theorem g196:IdxP 196 Bd.row Bd.v 5:=by
 intro V l xs g first caps hg St Hit hrows h0 hp
 refine x196 (a:=l) (b:=.func (.func g) first.toArray caps.toArray) ?_
 unfold w196
 refine qBe xs.length St h0 ?_
 intro i b V1 J hi hs hJ
 have h:=hrows i V1 hs
 refine⟨fun hlt=>?_,fun hge=>?_⟩
 ·obtain⟨x,hm,hx,hd,hl,hp0,hz,hrow⟩:=h.get hlt
  refine⟨hp0,hz,hlt,_,_,_,_,_,hrow,g,_,_,rfl,hg,Tri.mono (hp i x V1 hx hs) ?_⟩
  rintro e V2 ⟨b,rfl,h1,h2⟩
  exact⟨b,rfl,fun hb=>.inl ⟨i,rfl,h1 hb⟩,fun hb=>⟨h.succ hlt,hJ hl _ _ (h2 (by simpa using hb))⟩⟩
 ·have e:i=xs.length:=by have:=(h.done hge).2;omega
  exact .inr ⟨rfl,e ▸ hs⟩
theorem g145:ConP 145 Bd.row Bd.v 5:=conG g196 x145
theorem c145:ConC 145 Bd.row Bd.v 5:=conC g145
theorem g238:IdxP 238 E.row E.v 4:=by
 intro V l xs g first caps hg St Hit hrows h0 hp
 refine x238 (a:=l) (b:=.func (.func g) first.toArray caps.toArray) ?_
 unfold w238
 refine qBe xs.length St h0 ?_
 intro i b V1 J hi hs hJ
 have h:=hrows i V1 hs
 refine⟨fun hlt=>?_,fun hge=>?_⟩
 ·obtain⟨x,hm,hx,hd,hl,hp0,hz,hrow⟩:=h.get hlt
  refine⟨hp0,hz,hlt,_,_,_,_,hrow,g,_,_,rfl,hg,Tri.mono (hp i x V1 hx hs) ?_⟩
  rintro e V2 ⟨b,rfl,h1,h2⟩
  exact⟨b,rfl,fun hb=>.inl ⟨i,rfl,h1 hb⟩,fun hb=>⟨h.succ hlt,hJ hl _ _ (h2 (by simpa using hb))⟩⟩
 ·have e:i=xs.length:=by have:=(h.done hge).2;omega
  exact .inr ⟨rfl,e ▸ hs⟩
theorem g199:ConP 199 E.row E.v 4:=conG g238 x199
theorem c199:ConC 199 E.row E.v 4:=conC g199
theorem g254:IdxP 254 Ms.row Ms.v 7:=by
 intro V l xs g first caps hg St Hit hrows h0 hp
 refine x254 (a:=l) (b:=.func (.func g) first.toArray caps.toArray) ?_
 unfold w254
 refine qBe xs.length St h0 ?_
 intro i b V1 J hi hs hJ
 have h:=hrows i V1 hs
 refine⟨fun hlt=>?_,fun hge=>?_⟩
 ·obtain⟨x,hm,hx,hd,hl,hp0,hz,hrow⟩:=h.get hlt
  refine⟨hp0,hz,hlt,_,_,_,_,_,_,_,hrow,g,_,_,rfl,hg,Tri.mono (hp i x V1 hx hs) ?_⟩
  rintro e V2 ⟨b,rfl,h1,h2⟩
  exact⟨b,rfl,fun hb=>.inl ⟨i,rfl,h1 hb⟩,fun hb=>⟨h.succ hlt,hJ hl _ _ (h2 (by simpa using hb))⟩⟩
 ·have e:i=xs.length:=by have:=(h.done hge).2;omega
  exact .inr ⟨rfl,e ▸ hs⟩
theorem g217:ConP 217 Ms.row Ms.v 7:=conG g254 x217
theorem c217:ConC 217 Ms.row Ms.v 7:=conC g217
theorem g278:IdxP 278 qBD strV 1:=by
 intro V l xs g first caps hg St Hit hrows h0 hp
 refine x278 (a:=l) (b:=.func (.func g) first.toArray caps.toArray) ?_
 unfold w278
 refine qBe xs.length St h0 ?_
 intro i b V1 J hi hs hJ
 have h:=hrows i V1 hs
 refine⟨fun hlt=>?_,fun hge=>?_⟩
 ·obtain⟨x,hm,hx,hd,hl,hp0,hz,hrow⟩:=h.get hlt
  refine⟨hp0,hz,hlt,_,hrow,g,_,_,rfl,hg,Tri.mono (hp i x V1 hx hs) ?_⟩
  rintro e V2 ⟨b,rfl,h1,h2⟩
  exact⟨b,rfl,fun hb=>.inl ⟨i,rfl,h1 hb⟩,fun hb=>⟨h.succ hlt,hJ hl _ _ (h2 (by simpa using hb))⟩⟩
 ·have e:i=xs.length:=by have:=(h.done hge).2;omega
  exact .inr ⟨rfl,e ▸ hs⟩
theorem g274:ConP 274 qBD strV 1:=conG g278 x274
theorem c274:ConC 274 qBD strV 1:=conC g274
end Go.Proofs
namespace Go.Proofs
open Go.Shelf
def Tryz.lays157_ren:Go.Shelf.Ren:=⟨fun|157=>234|229=>266|199=>267|261=>276|311=>279|312=>280|n=>n,fun|9=>9|31=>232|3=>3|5=>5|4=>4|119=>325|0=>0|40=>327|152=>333|21=>21|154=>335|51=>322|141=>337|196=>342|193=>339|198=>344|49=>65|194=>340|201=>347|226=>349|46=>300|227=>350|n=>n,fun|0=>0|6=>1|n=>n⟩
theorem Tryz.lays157:Go.Proofs.Lays.n157 Tryz.prog Tryz.lays157_ren:={
 mixed:=by kernel_rfl
 f157:=Tryz.func234.trans (congrArg some (by kernel_rfl))
 f199:=Tryz.func267.trans (congrArg some (by kernel_rfl))
 f229:=Tryz.func266.trans (congrArg some (by kernel_rfl))
 f261:=Tryz.func276.trans (congrArg some (by kernel_rfl))
 f311:=Tryz.func279.trans (congrArg some (by kernel_rfl))
 f312:=Tryz.func280.trans (congrArg some (by kernel_rfl))
 t0:=Tryz.underlying0
 a0:=Tryz.isAgg0
 z0:=Tryz.sizeOf0
 v0:=Tryz.zeroValue0
 t3:=Tryz.underlying3
 a3:=Tryz.isAgg3
 z3:=Tryz.sizeOf3
 v3:=Tryz.zeroValue3
 t4:=Tryz.underlying4
 a4:=Tryz.isAgg4
 z4:=Tryz.sizeOf4
 v4:=Tryz.zeroValue4
 t5:=Tryz.underlying5
 a5:=Tryz.isAgg5
 z5:=Tryz.sizeOf5
 v5:=Tryz.zeroValue5
 t9:=Tryz.underlying9
 a9:=Tryz.isAgg9
 z9:=Tryz.sizeOf9
 v9:=Tryz.zeroValue9
 t21:=Tryz.underlying21
 a21:=Tryz.isAgg21
 z21:=Tryz.sizeOf21
 v21:=Tryz.zeroValue21
 t31:=Tryz.underlying232
 a31:=Tryz.isAgg232
 z31:=Tryz.sizeOf232
 v31:=Tryz.zeroValue232
 t40:=Tryz.underlying327
 a40:=Tryz.isAgg327
 z40:=Tryz.sizeOf327
 v40:=Tryz.zeroValue327
 t46:=Tryz.underlying300
 a46:=Tryz.isAgg300
 z46:=Tryz.sizeOf300
 v46:=Tryz.zeroValue300
 t49:=Tryz.underlying65
 a49:=Tryz.isAgg65
 z49:=Tryz.sizeOf65
 v49:=Tryz.zeroValue65
 t51:=Tryz.underlying322
 a51:=Tryz.isAgg322
 z51:=Tryz.sizeOf322
 v51:=Tryz.zeroValue322
 t119:=Tryz.underlying325
 a119:=Tryz.isAgg325
 z119:=Tryz.sizeOf325
 t141:=Tryz.underlying337
 a141:=Tryz.isAgg337
 z141:=Tryz.sizeOf337
 v141:=Tryz.zeroValue337
 t152:=Tryz.underlying333
 a152:=Tryz.isAgg333
 z152:=Tryz.sizeOf333
 v152:=Tryz.zeroValue333
 t154:=Tryz.underlying335
 a154:=Tryz.isAgg335
 z154:=Tryz.sizeOf335
 v154:=Tryz.zeroValue335
 t193:=Tryz.underlying339
 a193:=Tryz.isAgg339
 z193:=Tryz.sizeOf339
 v193:=Tryz.zeroValue339
 t194:=Tryz.underlying340
 a194:=Tryz.isAgg340
 z194:=Tryz.sizeOf340
 v194:=Tryz.zeroValue340
 t196:=Tryz.underlying342
 a196:=Tryz.isAgg342
 z196:=Tryz.sizeOf342
 v196:=Tryz.zeroValue342
 t198:=Tryz.underlying344
 a198:=Tryz.isAgg344
 z198:=Tryz.sizeOf344
 v198:=Tryz.zeroValue344
 t201:=Tryz.underlying347
 a201:=Tryz.isAgg347
 z201:=Tryz.sizeOf347
 v201:=Tryz.zeroValue347
 t226:=Tryz.underlying349
 a226:=Tryz.isAgg349
 z226:=Tryz.sizeOf349
 v226:=Tryz.zeroValue349
 t227:=Tryz.underlying350
 a227:=Tryz.isAgg350
 z227:=Tryz.sizeOf350
 v227:=Tryz.zeroValue350
 g0:=by kernel_rfl
 g6:=by kernel_rfl }
open Go.RowKit Go.Lib in
theorem Tryz.strings_Fields(s:ByteArray)(w:World)(hs:s.size<4294967281)(hascii:∀(j:Nat) b,s.data.toList[j]?=some b->b.toNat<128)(htab:Lib.TabIs Tryz.prog w "strings.asciiSpace" .u8 Lib.asciiSpaceTab) :
  Calls Tryz.prog 234 #[.string s] w fun e w' =>
   e=.returned (.slice (some ⟨w.heap.size,0,none⟩) (Lib.fields s.data.toList).length (Lib.fields s.data.toList).length)/\w'=w.alloc (.cells ((Lib.fields s.data.toList).map fun l=>Value.string ⟨l.toArray⟩).toArray 9):=Any.strings_Fields Tryz.lays157 (by kernel_rfl) (by kernel_rfl) s w hs hascii htab
end Go.Proofs
