/- Part 8 of a proof of a law of this seat: no statement of the seat is proved here. -/
import Derived.Test.YtlnbdjekdkodcaaGreatDoorPart05
import Derived.Test.YtlnbdjekdkodcaaGreatDoorPart06
import Derived.Test.YtlnbdjekdkodcaaGreatDoorPart07
set_option linter.unusedVariables false
set_option linter.unusedSimpArgs false
namespace Go.Proofs
open Go Go.Sx
set_option maxRecDepth 100000
set_option linter.unusedVariables false
section
variable{V:Mem}{R:RP}
abbrev w200_0(a:Int)(b:Int)(c:ByteArray)(d:Sl)(V1:Mem)(R:RP):Prop:=TB 241 #[uA #[uI a,uI b,uS c,uL d]] V1 fun i V2=>Br (i=true) (Br (a=1) (Br (0<=b) (R (rV (uB (decide (b<=1099511627776)))) V2) (R (rV (uB false)) V2)) (Br (a=2) (Br (b=0) (R (rV (uB true)) V2) (R (rV (uB (decide (b=1)))) V2)) (R (rV (uB (decide (b=0)))) V2))) (R (rV (uB false)) V2)
def w200(a b:Int)(c:ByteArray)(d:Sl):MR:=fun V R=>TI 240 #[uI a] V fun g V1=>Br (g=(-2)) (R (rV (uB false)) V1) (Br (0<=g) (Br ((d.n:Int)=g) (Br (g=(-1)) (Br (6<(d.n:Int)) (R (rV (uB false)) V1) (w200_0 a b c d V1 R)) (w200_0 a b c d V1 R)) (R (rV (uB false)) V1)) (Br (g=(-1)) (Br (6<(d.n:Int)) (R (rV (uB false)) V1) (w200_0 a b c d V1 R)) (w200_0 a b c d V1 R)))
theorem x200{a b:Int}{c:ByteArray}{d:Sl}(h:w200 a b c d V R):TT 200 #[uA #[uI a,uI b,uS c,uL d]] V R:=trx Tryz.func200 h
def w201(a:ByteArray)(b c d g i j k:Sl)(l:ByteArray)(o:Sl)(p:ByteArray)(q r:Sl):MR:=fun V R=>qAD [] 81 V fun s V1=>GenK Tryz.prog (.call { callee:=(.builtin .append),args:=#[(.tmp 6),(.tmp 8)],argTypes:=#[23,23] }) 23 (gv [(6,.slice (qAa s 0) (0:Int).toNat (0:Int).toNat),(8,uL o)]) V1 fun x V2=>∃u,x=uL u/\GenK Tryz.prog (.call { callee:=(.builtin .append),args:=#[(.tmp 9),(.tmp 11)],argTypes:=#[23,23] }) 23 (gv [(9,uL u),(11,uL q)]) V2 fun x V3=>∃y,x=uL y/\GenK Tryz.prog (.call { callee:=(.builtin .append),args:=#[(.tmp 13),(.tmp 15)],argTypes:=#[23,23] }) 23 (gv [(13,uL y),(15,uL c)]) V3 fun x V4=>∃z,x=uL z/\R (rV (uA #[uL z,uB true])) V4
theorem x201{a:ByteArray}{b c d g i j k:Sl}{l:ByteArray}{o:Sl}{p:ByteArray}{q r:Sl}(h:w201 a b c d g i j k l o p q r V R):TT 201 #[uD a b c d g i j k,uA #[uS l,uL o,uS p,uL q,uL r]] V R:=trx Tryz.func201 h
def w202(a:ByteArray)(b c d g i j k l:Sl)(o:Bool)(p q:Int)(r:ByteArray)(s:Sl):MR:=fun V R=>Lp [.slice none 0 0,uI 0,.slice none 0 0,uI 0] V fun I n V1=>∀u y z A,I n [uL u,uI y,uL z,uI A] V1->∀J0:LMP,Nx I n J0->Br (A<(s.n:Int)) (Ix s A (∃B C D F,V1.rowp s.p (A.toNat*4) 4=some [uI B,uI C,uS D,uL F]/\TT 204 #[uD a b c d g i j k,uA #[uL l,uB o],uA #[uI B,uI C,uS D,uL F]] V1 fun e V2=>∃G H,e=rT #[uS G,uI H]/\Br (H=0) (qAD [uS G] 9 V2 fun L V3=>GenK Tryz.prog (.call { callee:=(.builtin .append),args:=#[(.tmp 33),(.tmp 35)],argTypes:=#[217,217] }) 217 (gv [(33,uL z),(35,.slice (qAa L 0) 1 1)]) V3 fun x V4=>∃M,x=uL M/\IR (A+1)/\J0 [uL u,uI y,uL M,uI (A+1)] V4) (R (rT #[.slice none 0 0,uI H]) V2))) (R (rT #[uL z,uI 0]) V1)
theorem x202{a:ByteArray}{b c d g i j k l:Sl}{o:Bool}{p q:Int}{r:ByteArray}{s:Sl}(h:w202 a b c d g i j k l o p q r s V R):TT 202 #[uD a b c d g i j k,uA #[uL l,uB o],uA #[uI p,uI q,uS r,uL s]] V R:=trx Tryz.func202 h
def w203(a:ByteArray)(b c d g i j k:Sl)(l:ByteArray)(o:Sl):MR:=fun V R=>TI 23 #[uD a b c d g i j k,uS l] V fun p V1=>Br (p<0) (R (rT #[uS (qAm []),uI 9]) V1) (Ix d p (∃q r s u y,V1.rowp d.p (p.toNat*5) 5=some [uS q,uL r,uS s,uL u,uL y]/\Br ((o.n:Int)=(r.n:Int)) (Lp [uS (qAm []),uI 0,uI 0] V1 fun I n V2=>∀z A B,I n [uS z,uI A,uI B] V2->∀J0:LMP,Nx I n J0->Br (B<(o.n:Int)) (Ix o B (∃C,V2.rowp o.p (B.toNat*1) 1=some [uS C]/\Ix r B (¬(qAa r.p (B.toNat*2))=none/\∃D F,V2.rowp r.p (B.toNat*2) 2=some [uS D,uS F]/\TB 206 #[uD a b c d g i j k,uS C,uS F] V2 fun G V3=>Br (G=true) (IR (B+1)/\J0 [uS z,uI A,uI (B+1)] V3) (R (rT #[uS (qAm []),uI 11]) V3)))) (R (rT #[uS s,uI 0]) V2)) (R (rT #[uS (qAm []),uI 3]) V1)))
theorem x203{a:ByteArray}{b c d g i j k:Sl}{l:ByteArray}{o:Sl}(h:w203 a b c d g i j k l o V R):TT 203 #[uD a b c d g i j k,uS l,uL o] V R:=trx Tryz.func203 h
abbrev w204_0(u:Sl)(V1:Mem)(a:ByteArray)(b:Sl)(c:Sl)(d:Sl)(g:Sl)(i:Sl)(j:Sl)(k:Sl)(R:RP):Prop:=¬u.p=none/\(0:Int)<=(0:Int)/\0<(u.n:Int)/\∃z,V1.rowp u.p ((0:Int).toNat*1) 1=some [uS z]/\¬u.p=none/\(0:Int)<=(1:Int)/\1<(u.n:Int)/\∃A,V1.rowp u.p 1 1=some [uS A]/\TB 206 #[uD a b c d g i j k,uS z,uS A] V1 fun B V2=>Br (B=true) (TT 243 #[uB true,uS (qAm [98,111,111,108])] V2 fun e V3=>∃C D,e=rT #[uS C,uI D]/\R (rT #[uS C,uI D]) V3) (¬u.p=none/\(0:Int)<=(1:Int)/\1<(u.n:Int)/\∃C,V2.rowp u.p 1 1=some [uS C]/\¬u.p=none/\(0:Int)<=(0:Int)/\0<(u.n:Int)/\∃D,V2.rowp u.p ((0:Int).toNat*1) 1=some [uS D]/\TB 206 #[uD a b c d g i j k,uS C,uS D] V2 fun F V3=>TT 243 #[uB F,uS (qAm [98,111,111,108])] V3 fun e V4=>∃G H,e=rT #[uS G,uI H]/\R (rT #[uS G,uI H]) V4)
def w204(a:ByteArray)(b c d g i j k l:Sl)(o:Bool)(p q:Int)(r:ByteArray)(s:Sl):MR:=fun V R=>TT 202 #[uD a b c d g i j k,uA #[uL l,uB o],uA #[uI p,uI q,uS r,uL s]] V fun e V1=>∃u y,e=rT #[uL u,uI y]/\Br (y=0) (Br (p=1) (R (rT #[uS (qAm [105,110,116]),uI 0]) V1) (Br (p=2) (R (rT #[uS (qAm [98,111,111,108]),uI 0]) V1) (Br (p=3) (R (rT #[uS (qAm [110,105,108]),uI 0]) V1) (Br (p=4) (TS 205 #[uL l,uS r] V1 fun z V2=>Br (z=(qAm [])) (R (rT #[uS (qAm []),uI 9]) V2) (R (rT #[uS z,uI 0]) V2)) (Br (p=5) (¬u.p=none/\(0:Int)<=(0:Int)/\0<(u.n:Int)/\∃z,V1.rowp u.p ((0:Int).toNat*1) 1=some [uS z]/\TT 207 #[uD a b c d g i j k,uS z,uS r] V1 fun e V2=>∃A B,e=rT #[uS A,uI B]/\R (rT #[uS A,uI B]) V2) (Br (p=6) (Br (o=true) (TB 156 #[uD a b c d g i j k,uS r] V1 fun z V2=>Br (z=true) (R (rT #[uS r,uI 0]) V2) (R (rT #[uS (qAm []),uI 9]) V2)) (R (rT #[uS (qAm []),uI 13]) V1)) (Br (p=7) (TT 242 #[uD a b c d g i j k,uA #[uL l,uB o],uS r,uL u] V1 fun e V2=>∃z A,e=rT #[uS z,uI A]/\R (rT #[uS z,uI A]) V2) (Br (p=14) (w204_0 u V1 a b c d g i j k R) (Br (p=15) (w204_0 u V1 a b c d g i j k R) (Br (p=16) (TB 244 #[uL u,uS (qAm [105,110,116])] V1 fun z V2=>TT 243 #[uB z,uS (qAm [98,111,111,108])] V2 fun e V3=>∃A B,e=rT #[uS A,uI B]/\R (rT #[uS A,uI B]) V3) (Br (p=17) (TB 244 #[uL u,uS (qAm [105,110,116])] V1 fun z V2=>TT 243 #[uB z,uS (qAm [98,111,111,108])] V2 fun e V3=>∃A B,e=rT #[uS A,uI B]/\R (rT #[uS A,uI B]) V3) (Br (p=18) (TB 244 #[uL u,uS (qAm [98,111,111,108])] V1 fun z V2=>TT 243 #[uB z,uS (qAm [98,111,111,108])] V2 fun e V3=>∃A B,e=rT #[uS A,uI B]/\R (rT #[uS A,uI B]) V3) (Br (p=19) (TB 244 #[uL u,uS (qAm [98,111,111,108])] V1 fun z V2=>TT 243 #[uB z,uS (qAm [98,111,111,108])] V2 fun e V3=>∃A B,e=rT #[uS A,uI B]/\R (rT #[uS A,uI B]) V3) (Br (p=20) (TB 244 #[uL u,uS (qAm [98,111,111,108])] V1 fun z V2=>TT 243 #[uB z,uS (qAm [98,111,111,108])] V2 fun e V3=>∃A B,e=rT #[uS A,uI B]/\R (rT #[uS A,uI B]) V3) (Br (p=21) (¬u.p=none/\(0:Int)<=(1:Int)/\1<(u.n:Int)/\∃z,V1.rowp u.p 1 1=some [uS z]/\Br (z=(qAm [110,105,108])) (¬u.p=none/\(0:Int)<=(2:Int)/\2<(u.n:Int)/\∃A,V1.rowp u.p 2 1=some [uS A]/\¬u.p=none/\(0:Int)<=(0:Int)/\0<(u.n:Int)/\∃B,V1.rowp u.p ((0:Int).toNat*1) 1=some [uS B]/\Br (B=(qAm [98,111,111,108])) (¬u.p=none/\(0:Int)<=(1:Int)/\1<(u.n:Int)/\∃C,V1.rowp u.p 1 1=some [uS C]/\¬u.p=none/\(0:Int)<=(2:Int)/\2<(u.n:Int)/\∃D,V1.rowp u.p 2 1=some [uS D]/\TB 206 #[uD a b c d g i j k,uS C,uS D] V1 fun F V2=>Br (F=true) (TT 243 #[uB true,uS A] V2 fun e V3=>∃G H,e=rT #[uS G,uI H]/\R (rT #[uS G,uI H]) V3) (¬u.p=none/\(0:Int)<=(2:Int)/\2<(u.n:Int)/\∃G,V2.rowp u.p 2 1=some [uS G]/\¬u.p=none/\(0:Int)<=(1:Int)/\1<(u.n:Int)/\∃H,V2.rowp u.p 1 1=some [uS H]/\TB 206 #[uD a b c d g i j k,uS G,uS H] V2 fun L V3=>TT 243 #[uB L,uS A] V3 fun e V4=>∃M N,e=rT #[uS M,uI N]/\R (rT #[uS M,uI N]) V4)) (TT 243 #[uB false,uS A] V1 fun e V2=>∃C D,e=rT #[uS C,uI D]/\R (rT #[uS C,uI D]) V2)) (¬u.p=none/\(0:Int)<=(0:Int)/\0<(u.n:Int)/\∃A,V1.rowp u.p ((0:Int).toNat*1) 1=some [uS A]/\Br (A=(qAm [98,111,111,108])) (¬u.p=none/\(0:Int)<=(1:Int)/\1<(u.n:Int)/\∃B,V1.rowp u.p 1 1=some [uS B]/\¬u.p=none/\(0:Int)<=(2:Int)/\2<(u.n:Int)/\∃C,V1.rowp u.p 2 1=some [uS C]/\TB 206 #[uD a b c d g i j k,uS B,uS C] V1 fun D V2=>Br (D=true) (TT 243 #[uB true,uS z] V2 fun e V3=>∃F G,e=rT #[uS F,uI G]/\R (rT #[uS F,uI G]) V3) (¬u.p=none/\(0:Int)<=(2:Int)/\2<(u.n:Int)/\∃F,V2.rowp u.p 2 1=some [uS F]/\¬u.p=none/\(0:Int)<=(1:Int)/\1<(u.n:Int)/\∃G,V2.rowp u.p 1 1=some [uS G]/\TB 206 #[uD a b c d g i j k,uS F,uS G] V2 fun H V3=>TT 243 #[uB H,uS z] V3 fun e V4=>∃L M,e=rT #[uS L,uI M]/\R (rT #[uS L,uI M]) V4)) (TT 243 #[uB false,uS z] V1 fun e V2=>∃B C,e=rT #[uS B,uI C]/\R (rT #[uS B,uI C]) V2))) (TB 244 #[uL u,uS (qAm [105,110,116])] V1 fun z V2=>TT 243 #[uB z,uS (qAm [105,110,116])] V2 fun e V3=>∃A B,e=rT #[uS A,uI B]/\R (rT #[uS A,uI B]) V3)))))))))))))))) (R (rT #[uS (qAm []),uI y]) V1)
theorem x204{a:ByteArray}{b c d g i j k l:Sl}{o:Bool}{p q:Int}{r:ByteArray}{s:Sl}(h:w204 a b c d g i j k l o p q r s V R):TT 204 #[uD a b c d g i j k,uA #[uL l,uB o],uA #[uI p,uI q,uS r,uL s]] V R:=trx Tryz.func204 h
def w205(a:Sl)(b:ByteArray):MR:=fun V R=>Lp [uS (qAm []),uI 0] V fun I n V1=>∀c d,I n [uS c,uI d] V1->∀J0:LMP,Nx I n J0->Br (d<(a.n:Int)) (Ix a d (¬(qAa a.p (d.toNat*2))=none/\∃g i,V1.rowp a.p (d.toNat*2) 2=some [uS g,uS i]/\Br (g=b) (Ix a d (¬(qAa a.p (d.toNat*2))=none/\∃j k,V1.rowp a.p (d.toNat*2) 2=some [uS j,uS k]/\R (rV (uS k)) V1)) (IR (d+1)/\J0 [uS c,uI (d+1)] V1))) (R (rV (uS (qAm []))) V1)
theorem x205{a:Sl}{b:ByteArray}(h:w205 a b V R):TT 205 #[uL a,uS b] V R:=trx Tryz.func205 h
def w206(a:ByteArray)(b c d g i j k:Sl)(l o:ByteArray):MR:=fun V R=>Br (l=o) (R (rV (uB true)) V) (Br (l=(qAm [110,105,108])) (TB 156 #[uD a b c d g i j k,uS o] V fun p V1=>R (rV (uB p)) V1) (R (rV (uB false)) V))
theorem x206{a:ByteArray}{b c d g i j k:Sl}{l o:ByteArray}(h:w206 a b c d g i j k l o V R):TT 206 #[uD a b c d g i j k,uS l,uS o] V R:=trx Tryz.func206 h
def w207(a:ByteArray)(b c d g i j k:Sl)(l o:ByteArray):MR:=fun V R=>TI 92 #[uD a b c d g i j k,uS l] V fun p V1=>Br (p<0) (R (rT #[uS (qAm []),uI 11]) V1) (Ix b p (¬(qAa b.p (p.toNat*2))=none/\∃q r,V1.rowp b.p (p.toNat*2) 2=some [uS q,uL r]/\TS 205 #[uL r,uS o] V1 fun s V2=>Br (s=(qAm [])) (R (rT #[uS (qAm []),uI 9]) V2) (R (rT #[uS s,uI 0]) V2)))
theorem x207{a:ByteArray}{b c d g i j k:Sl}{l o:ByteArray}(h:w207 a b c d g i j k l o V R):TT 207 #[uD a b c d g i j k,uS l,uS o] V R:=trx Tryz.func207 h
def w208(a b:Option Addr)(c:ByteArray):MR:=fun V R=>¬b=none/\¬b=none/\∃d,V.rowp b 5 1=some [uL d]/\TI 217 #[uL d,uS c] V fun g V1=>Br (0<=g) (¬b=none/\¬b=none/\∃i,V1.rowp b 6 1=some [uL i]/\Ix i g (∃j,V1.rowp i.p (g.toNat*1) 1=some [uI j]/\R (rV (uI j)) V1)) (¬a=none/\¬a=none/\¬(qAa a 0)=none/\∃i,V1.rowp a 2 1=some [uL i]/\TI 217 #[uL i,uS c] V1 fun j V2=>TT 212 #[uP a,uI 1,uI 0,uI j] V2 fun e V3=>e=rT #[]/\¬a=none/\¬a=none/\¬(qAa a 8)=none/\∃k,V3.rowp a 8 1=some [uL k]/\Ix k j (∃l,V3.rowp k.p (j.toNat*1) 1=some [uI l]/\R (rV (uI l)) V3))
theorem x208{a b:Option Addr}{c:ByteArray}(h:w208 a b c V R):TT 208 #[uP a,uP b,uS c] V R:=trx Tryz.func208 h
def w209(a:Option Addr)(b:ByteArray):MR:=fun V R=>¬a=none/\¬a=none/\¬(qAa a 8)=none/\∃c,V.rowp a 9 1=some [uL c]/\Br (4096<=(c.n:Int)) (TI 93 #[uP a,uI 21] V fun d V1=>R (rV (uI d)) V1) (¬a=none/\¬a=none/\∃d g i j k l o p,V.rowp a ((0:Int).toNat*1) 8=some [uS d,uL g,uL i,uL j,uL k,uL l,uL o,uL p]/\TI 92 #[uD d g i j k l o p,uS b] V fun q V1=>¬a=none/\¬a=none/\¬(qAa a 8)=none/\∃r,V1.rowp a 9 1=some [uL r]/\¬a=none/\¬a=none/\¬(qAa a 0)=none/\∃s,V1.rowp a 1 1=some [uL s]/\Ix s q (¬(qAa s.p (q.toNat*2))=none/\∃u y,V1.rowp s.p (q.toNat*2) 2=some [uS u,uL y]/\GenK Tryz.prog (.makeSlice 31 (.tmp 37) (.tmp 37)) 31 (gv [(37,uI (y.n:Int)),(37,uI (y.n:Int))]) V1 fun x V2=>∃z,x=uL z/\V2.rowp (qAa a 9) 0 1=some [uL r]/\¬(qAa a 8)=none/\¬a=none/\¬a=none/\V2.rowp (qAa a 9) 0 1=some [uL r]/\¬(qAa a 8)=none/\¬a=none/\¬a=none/\qAD [uI q,uL z] 102 V2 fun A V3=>GenK Tryz.prog (.call { callee:=(.builtin .append),args:=#[(.tmp 26),(.tmp 40)],argTypes:=#[32,32] }) 32 (gv [(26,uL r),(40,.slice (qAa A 0) 1 1)]) V3 fun x V4=>∃B,x=uL B/\¬a=none/\¬a=none/\¬(qAa a 8)=none/\StT (qAa a 9) 0 [uL B] V4 fun V5=>¬a=none/\¬a=none/\¬(qAa a 8)=none/\∃C,V5.rowp a 9 1=some [uL C]/\TT 212 #[uP a,uI 3,uI (C.n:Int),uI q] V5 fun e V6=>e=rT #[]/\¬a=none/\¬a=none/\¬(qAa a 8)=none/\∃D,V6.rowp a 9 1=some [uL D]/\R (rV (uI (D.n:Int))) V6))
theorem x209{a:Option Addr}{b:ByteArray}(h:w209 a b V R):TT 209 #[uP a,uS b] V R:=trx Tryz.func209 h
abbrev qGK(v5:Sl)(V1:Mem)(v0:Option Addr)(v1:Option Addr)(R:RP):Prop :=
 ¬v5.p=none/\(0:Int)<=(1:Int)/\1<(v5.n:Int)/\∃v12 v13 v14 v15,V1.rowp v5.p (1*4) 4=some [uI v12,uI v13,uS v14,uL v15] /\
 TI 161 #[uP v0,uP v1,uA #[uI v12,uI v13,uS v14,uL v15]] V1 fun v16 V2 =>
 R (rV (uI v16)) V2
def w210(a b:Option Addr)(c d:Int)(g:ByteArray)(i:Sl):MR:=fun V R=>¬i.p=none/\(0:Int)<=(0:Int)/\0<(i.n:Int)/\∃j k l o,V.rowp i.p ((0:Int).toNat*4) 4=some [uI j,uI k,uS l,uL o]/\TI 161 #[uP a,uP b,uA #[uI j,uI k,uS l,uL o]] V fun p V1=>¬a=none/\¬a=none/\∃q,V1.rowp a 13 1=some [uI q]/\Br (q=0) (Br (c=21) (Br (p=0) (¬i.p=none/\(0:Int)<=(2:Int)/\2<(i.n:Int)/\∃r s u y,V1.rowp i.p (2*4) 4=some [uI r,uI s,uS u,uL y]/\TI 161 #[uP a,uP b,uA #[uI r,uI s,uS u,uL y]] V1 fun z V2=>R (rV (uI z)) V2) (Br (c=19) (Br (p=0) (R (rV (uI 0)) V1) (Br (c=20) (Br (p=0) (qGK i V1 a b R) (R (rV (uI 1)) V1)) (qGK i V1 a b R))) (Br (c=20) (Br (p=0) (qGK i V1 a b R) (R (rV (uI 1)) V1)) (qGK i V1 a b R)))) (Br (c=19) (Br (p=0) (R (rV (uI 0)) V1) (Br (c=20) (Br (p=0) (qGK i V1 a b R) (R (rV (uI 1)) V1)) (qGK i V1 a b R))) (Br (c=20) (Br (p=0) (qGK i V1 a b R) (R (rV (uI 1)) V1)) (qGK i V1 a b R)))) (R (rV (uI 0)) V1)
theorem x210{a b:Option Addr}{c d:Int}{g:ByteArray}{i:Sl}(h:w210 a b c d g i V R):TT 210 #[uP a,uP b,uA #[uI c,uI d,uS g,uL i]] V R:=trx Tryz.func210 h
def w211(a:Option Addr)(b:Int)(c:ByteArray):MR:=fun V R=>¬a=none/\¬a=none/\¬(qAa a 0)=none/\∃d,V.rowp a 1 1=some [uL d]/\¬a=none/\¬a=none/\¬(qAa a 8)=none/\∃g,V.rowp a 9 1=some [uL g]/\IR (b-1)/\Ix g (b-1) (¬(qAa g.p ((b-1).toNat*2))=none/\∃i j,V.rowp g.p ((b-1).toNat*2) 2=some [uI i,uL j]/\Ix d i (¬(qAa d.p (i.toNat*2))=none/\∃k l,V.rowp d.p (i.toNat*2) 2=some [uS k,uL l]/\TI 217 #[uL l,uS c] V fun o V1=>R (rV (uI o)) V1))
theorem x211{a:Option Addr}{b:Int}{c:ByteArray}(h:w211 a b c V R):TT 211 #[uP a,uI b,uS c] V R:=trx Tryz.func211 h
def w212(a:Option Addr)(b c d:Int):MR:=fun V R=>¬a=none/\¬a=none/\∃g,V.rowp a 17 1=some [uL g]/\qAD [uI b,uI c,uI d] 56 V fun i V1=>GenK Tryz.prog (.call { callee:=(.builtin .append),args:=#[(.tmp 12),(.tmp 17)],argTypes:=#[52,52] }) 52 (gv [(12,uL g),(17,.slice (qAa i 0) 1 1)]) V1 fun x V2=>∃j,x=uL j/\¬a=none/\¬a=none/\StT (qAa a 17) 0 [uL j] V2 fun V3=>Br (0<c) (¬a=none/\¬a=none/\¬(qAa a 14)=none/\∃k,V3.rowp a 15 1=some [uI k]/\IR (k+1)/\¬a=none/\¬a=none/\¬(qAa a 14)=none/\StT (qAa a 15) 0 [uI (k+1)] V3 fun V4=>R (rT #[]) V4) (R (rT #[]) V3)
theorem x212{a:Option Addr}{b c d:Int}(h:w212 a b c d V R):TT 212 #[uP a,uI b,uI c,uI d] V R:=trx Tryz.func212 h
def w213(a:Option Addr)(b:Int):MR:=fun V R=>Br (b<(-1099511627776)) (TI 93 #[uP a,uI 5] V fun c V1=>R (rV (uI c)) V1) (Br (1099511627776<b) (TI 93 #[uP a,uI 5] V fun c V1=>R (rV (uI c)) V1) (R (rV (uI b)) V))
theorem x213{a:Option Addr}{b:Int}(h:w213 a b V R):TT 213 #[uP a,uI b] V R:=trx Tryz.func213 h
def w214(a:Int):MR:=fun V R=>Lp [uI a,uI 0] V fun I n V1=>∀b c,I n [uI b,uI c] V1->∀J0:LMP,Nx I n J0->Br (1<b) (¬(2:Int)=(0:Int)/\IR (c+1)/\J0 [uI (IntKind.wrap .i64 ((b).tdiv (2:Int))),uI (c+1)] V1) (R (rV (uI c)) V1)
theorem x214{a:Int}(h:w214 a V R):TT 214 #[uI a] V R:=trx Tryz.func214 h
def w215(a b:Option Addr)(c d:Int)(g:ByteArray)(i:Sl)(j k:Int):MR:=fun V R=>¬i.p=none/\(0:Int)<=(0:Int)/\0<(i.n:Int)/\∃l o p q,V.rowp i.p ((0:Int).toNat*4) 4=some [uI l,uI o,uS p,uL q]/\TB 245 #[uP a,uP b,uA #[uI l,uI o,uS p,uL q]] V fun r V1=>Br (r=true) (¬a=none/\¬a=none/\¬(qAa a 14)=none/\∃s,V1.rowp a 14 1=some [uI s]/\IR (s+1)/\¬a=none/\¬a=none/\¬(qAa a 14)=none/\StT (qAa a 14) 0 [uI (s+1)] V1 fun V2=>Br (c=14) (TI 246 #[uB (decide (j=k))] V2 fun u V3=>R (rV (uI u)) V3) (Br (c=15) (TI 246 #[uB (!(decide (j=k)))] V2 fun u V3=>R (rV (uI u)) V3) (Br (c=16) (TI 246 #[uB (decide (j<k))] V2 fun u V3=>R (rV (uI u)) V3) (TI 246 #[uB (decide (j<=k))] V2 fun u V3=>R (rV (uI u)) V3)))) (Br (c=14) (TI 246 #[uB (decide (j=k))] V1 fun s V2=>R (rV (uI s)) V2) (Br (c=15) (TI 246 #[uB (!(decide (j=k)))] V1 fun s V2=>R (rV (uI s)) V2) (Br (c=16) (TI 246 #[uB (decide (j<k))] V1 fun s V2=>R (rV (uI s)) V2) (TI 246 #[uB (decide (j<=k))] V1 fun s V2=>R (rV (uI s)) V2))))
theorem x215{a b:Option Addr}{c d:Int}{g:ByteArray}{i:Sl}{j k:Int}(h:w215 a b c d g i j k V R):TT 215 #[uP a,uP b,uA #[uI c,uI d,uS g,uL i],uI j,uI k] V R:=trx Tryz.func215 h
def w216(a:Option Addr)(b c d:Int):MR:=fun V R=>Br (b=9) (IR (c+d)/\TI 213 #[uP a,uI (c+d)] V fun g V1=>R (rV (uI g)) V1) (Br (b=10) (IR (c-d)/\TI 213 #[uP a,uI (c-d)] V fun g V1=>R (rV (uI g)) V1) (Br (b=11) (TI 247 #[uP a,uI c,uI d] V fun g V1=>R (rV (uI g)) V1) (Br (b=22) (Br (c<d) (R (rV (uI d)) V) (R (rV (uI c)) V)) (Br (b=23) (Br (d<c) (R (rV (uI d)) V) (R (rV (uI c)) V)) (Br (d=0) (TI 93 #[uP a,uI 18] V fun g V1=>R (rV (uI g)) V1) (Br (b=12) (¬d=0/\TI 213 #[uP a,uI (IntKind.wrap .i64 ((c).tdiv d))] V fun g V1=>R (rV (uI g)) V1) (¬d=0/\R (rV (uI ((c).tmod d))) V)))))))
theorem x216{a:Option Addr}{b c d:Int}(h:w216 a b c d V R):TT 216 #[uP a,uI b,uI c,uI d] V R:=trx Tryz.func216 h
def w217(a:Sl)(b:ByteArray):MR:=fun V R=>Lp [uI 0,uI 0] V fun I n V1=>∀c d,I n [uI c,uI d] V1->∀J0:LMP,Nx I n J0->Br (d<(a.n:Int)) (Ix a d (¬(qAa a.p (d.toNat*2))=none/\∃g i,V1.rowp a.p (d.toNat*2) 2=some [uS g,uS i]/\Br (g=b) (R (rV (uI d)) V1) (IR (d+1)/\J0 [uI c,uI (d+1)] V1))) (R (rV (uI (-1))) V1)
theorem x217{a:Sl}{b:ByteArray}(h:w217 a b V R):TT 217 #[uL a,uS b] V R:=trx Tryz.func217 h
def w218(a:ByteArray)(b:Sl)(c d g:Option Addr):MR:=fun V R=>∃i,K.f.ok i/\V.rowp c ((0:Int).toNat*1) 1=some [i]/\∃j,K.f.ok j/\V.rowp c ((0:Int).toNat*1) 1=some [j]/\∃k,V.rowp d ((0:Int).toNat*1) 1=some [uL k]/\∃l,V.rowp g ((0:Int).toNat*1) 1=some [uI l]/\Ix k l (∃o p,V.rowp k.p (l.toNat*2) 2=some [uS o,uL p]/\∃f first caps,K.cast .f i=.func (.func f) first caps/\CO f/\TT f (first++#[uA #[uS a,uL b]]++caps) V fun e V1=>∃q,e=rV (uS q)/\V1.rowp (qAa k.p (l.toNat*2)) 0 2=some [uS o,uL p]/\Ix k l (V1.rowp g 0 1=some [uI l]/\V1.rowp d 0 1=some [uL k]/\V1.rowp c 0 1=some [K.cast .f j]/\∃f first caps,K.cast .f j=.func (.func f) first caps/\CO f/\TT f (first++#[uA #[uS o,uL p]]++caps) V1 fun e V2=>∃r,e=rV (uS r)/\R (rV (uB (decide (q=r)))) V2))
theorem x218{a:ByteArray}{b:Sl}{c d g:Option Addr}(h:w218 a b c d g V R):TT 218 #[uA #[uS a,uL b],uP c,uP d,uP g] V R:=trx Tryz.func218 h
def w219(a b:ByteArray)(c:Option Addr):MR:=fun V R=>¬c=none/\∃d,V.rowp c ((0:Int).toNat*1) 1=some [uS d]/\R (rV (uB (decide (a=d)))) V
theorem x219{a b:ByteArray}{c:Option Addr}(h:w219 a b c V R):TT 219 #[uA #[uS a,uS b],uP c] V R:=trx Tryz.func219 h
def w220(a b:ByteArray)(c d g:Option Addr):MR:=fun V R=>∃i,K.f.ok i/\V.rowp c ((0:Int).toNat*1) 1=some [i]/\∃j,K.f.ok j/\V.rowp c ((0:Int).toNat*1) 1=some [j]/\∃k,V.rowp d ((0:Int).toNat*1) 1=some [uL k]/\∃l,V.rowp g ((0:Int).toNat*1) 1=some [uI l]/\Ix k l (∃o p,V.rowp k.p (l.toNat*2) 2=some [uS o,uS p]/\∃f first caps,K.cast .f i=.func (.func f) first caps/\CO f/\TT f (first++#[uA #[uS a,uS b]]++caps) V fun e V1=>∃q,e=rV (uS q)/\V1.rowp (qAa k.p (l.toNat*2)) 0 2=some [uS o,uS p]/\Ix k l (V1.rowp g 0 1=some [uI l]/\V1.rowp d 0 1=some [uL k]/\V1.rowp c 0 1=some [K.cast .f j]/\∃f first caps,K.cast .f j=.func (.func f) first caps/\CO f/\TT f (first++#[uA #[uS o,uS p]]++caps) V1 fun e V2=>∃r,e=rV (uS r)/\R (rV (uB (decide (q=r)))) V2))
theorem x220{a b:ByteArray}{c d g:Option Addr}(h:w220 a b c d g V R):TT 220 #[uA #[uS a,uS b],uP c,uP d,uP g] V R:=trx Tryz.func220 h
def w221(a:ByteArray)(b:Sl)(c:ByteArray)(d g:Sl)(i j k:Option Addr):MR:=fun V R=>∃l,K.f.ok l/\V.rowp i ((0:Int).toNat*1) 1=some [l]/\∃o,K.f.ok o/\V.rowp i ((0:Int).toNat*1) 1=some [o]/\∃p,V.rowp j ((0:Int).toNat*1) 1=some [uL p]/\∃q,V.rowp k ((0:Int).toNat*1) 1=some [uI q]/\Ix p q (∃r s u y z,V.rowp p.p (q.toNat*5) 5=some [uS r,uL s,uS u,uL y,uL z]/\∃f first caps,K.cast .f l=.func (.func f) first caps/\CO f/\TT f (first++#[uA #[uS a,uL b,uS c,uL d,uL g]]++caps) V fun e V1=>∃A,e=rV (uS A)/\V1.rowp (qAa p.p (q.toNat*5)) 0 5=some [uS r,uL s,uS u,uL y,uL z]/\Ix p q (V1.rowp k 0 1=some [uI q]/\V1.rowp j 0 1=some [uL p]/\V1.rowp i 0 1=some [K.cast .f o]/\∃f first caps,K.cast .f o=.func (.func f) first caps/\CO f/\TT f (first++#[uA #[uS r,uL s,uS u,uL y,uL z]]++caps) V1 fun e V2=>∃B,e=rV (uS B)/\R (rV (uB (decide (A=B)))) V2))
theorem x221{a:ByteArray}{b:Sl}{c:ByteArray}{d g:Sl}{i j k:Option Addr}(h:w221 a b c d g i j k V R):TT 221 #[uA #[uS a,uL b,uS c,uL d,uL g],uP i,uP j,uP k] V R:=trx Tryz.func221 h
def w222(a:Sl)(b:Value):MR:=fun V R=>TI 248 #[uL a,K.cast .f b] V fun c V1=>R (rV (uB (decide (0<=c)))) V1
theorem x222{a:Sl}{b:Value}(h:w222 a b V R):TT 222 #[uL a,K.cast .f b] V R :=
 qBr Tryz.func222 [] [] false [uL a,b] (by kernel_rfl) (by kernel_rfl) h
def w223(a b:ByteArray)(c d g:Int)(i:ByteArray)(j:Sl)(k l o:Option Addr):MR:=fun V R=>∃p,K.f.ok p/\V.rowp k ((0:Int).toNat*1) 1=some [p]/\∃q,K.f.ok q/\V.rowp k ((0:Int).toNat*1) 1=some [q]/\∃r,V.rowp l ((0:Int).toNat*1) 1=some [uL r]/\∃s,V.rowp o ((0:Int).toNat*1) 1=some [uI s]/\Ix r s (∃u y z A B C D,V.rowp r.p (s.toNat*7) 7=some [uS u,uS y,uI z,uI A,uI B,uS C,uL D]/\∃f first caps,K.cast .f p=.func (.func f) first caps/\CO f/\TT f (first++#[uA #[uS a,uS b,uI c,uI d,uI g,uS i,uL j]]++caps) V fun e V1=>∃F,e=rV (uS F)/\V1.rowp (qAa r.p (s.toNat*7)) 0 7=some [uS u,uS y,uI z,uI A,uI B,uS C,uL D]/\Ix r s (V1.rowp o 0 1=some [uI s]/\V1.rowp l 0 1=some [uL r]/\V1.rowp k 0 1=some [K.cast .f q]/\∃f first caps,K.cast .f q=.func (.func f) first caps/\CO f/\TT f (first++#[uA #[uS u,uS y,uI z,uI A,uI B,uS C,uL D]]++caps) V1 fun e V2=>∃G,e=rV (uS G)/\R (rV (uB (decide (F=G)))) V2))
theorem x223{a b:ByteArray}{c d g:Int}{i:ByteArray}{j:Sl}{k l o:Option Addr}(h:w223 a b c d g i j k l o V R):TT 223 #[uA #[uS a,uS b,uI c,uI d,uI g,uS i,uL j],uP k,uP l,uP o] V R:=trx Tryz.func223 h
def w224(a:Sl)(b:Value):MR:=fun V R=>TI 249 #[uL a,K.cast .f b] V fun c V1=>R (rV (uB (decide (0<=c)))) V1
theorem x224{a:Sl}{b:Value}(h:w224 a b V R):TT 224 #[uL a,K.cast .f b] V R :=
 qBr Tryz.func224 [] [] false [uL a,b] (by kernel_rfl) (by kernel_rfl) h
def w225(a b:ByteArray)(c d:Int)(g:ByteArray)(i:Sl)(j k l:Option Addr):MR:=fun V R=>∃o,K.f.ok o/\V.rowp j ((0:Int).toNat*1) 1=some [o]/\∃p,K.f.ok p/\V.rowp j ((0:Int).toNat*1) 1=some [p]/\∃q,V.rowp k ((0:Int).toNat*1) 1=some [uL q]/\∃r,V.rowp l ((0:Int).toNat*1) 1=some [uI r]/\Ix q r (∃s u y z A B,V.rowp q.p (r.toNat*6) 6=some [uS s,uS u,uI y,uI z,uS A,uL B]/\∃f first caps,K.cast .f o=.func (.func f) first caps/\CO f/\TT f (first++#[uA #[uS a,uS b,uI c,uI d,uS g,uL i]]++caps) V fun e V1=>∃C,e=rV (uS C)/\V1.rowp (qAa q.p (r.toNat*6)) 0 6=some [uS s,uS u,uI y,uI z,uS A,uL B]/\Ix q r (V1.rowp l 0 1=some [uI r]/\V1.rowp k 0 1=some [uL q]/\V1.rowp j 0 1=some [K.cast .f p]/\∃f first caps,K.cast .f p=.func (.func f) first caps/\CO f/\TT f (first++#[uA #[uS s,uS u,uI y,uI z,uS A,uL B]]++caps) V1 fun e V2=>∃D,e=rV (uS D)/\R (rV (uB (decide (C=D)))) V2))
theorem x225{a b:ByteArray}{c d:Int}{g:ByteArray}{i:Sl}{j k l:Option Addr}(h:w225 a b c d g i j k l V R):TT 225 #[uA #[uS a,uS b,uI c,uI d,uS g,uL i],uP j,uP k,uP l] V R:=trx Tryz.func225 h
def w226(a:ByteArray)(b c:Int)(d:ByteArray)(g:Sl)(i j k:Option Addr):MR:=fun V R=>∃l,K.f.ok l/\V.rowp i ((0:Int).toNat*1) 1=some [l]/\∃o,K.f.ok o/\V.rowp i ((0:Int).toNat*1) 1=some [o]/\∃p,V.rowp j ((0:Int).toNat*1) 1=some [uL p]/\∃q,V.rowp k ((0:Int).toNat*1) 1=some [uI q]/\Ix p q (∃r s u y z,V.rowp p.p (q.toNat*5) 5=some [uS r,uI s,uI u,uS y,uL z]/\∃f first caps,K.cast .f l=.func (.func f) first caps/\CO f/\TT f (first++#[uA #[uS a,uI b,uI c,uS d,uL g]]++caps) V fun e V1=>∃A,e=rV (uS A)/\V1.rowp (qAa p.p (q.toNat*5)) 0 5=some [uS r,uI s,uI u,uS y,uL z]/\Ix p q (V1.rowp k 0 1=some [uI q]/\V1.rowp j 0 1=some [uL p]/\V1.rowp i 0 1=some [K.cast .f o]/\∃f first caps,K.cast .f o=.func (.func f) first caps/\CO f/\TT f (first++#[uA #[uS r,uI s,uI u,uS y,uL z]]++caps) V1 fun e V2=>∃B,e=rV (uS B)/\R (rV (uB (decide (A=B)))) V2))
theorem x226{a:ByteArray}{b c:Int}{d:ByteArray}{g:Sl}{i j k:Option Addr}(h:w226 a b c d g i j k V R):TT 226 #[uA #[uS a,uI b,uI c,uS d,uL g],uP i,uP j,uP k] V R:=trx Tryz.func226 h
def w228(a:Option Addr)(b:Option Nat)(c:Bool)(d:Int)(g:ByteArray)(i j k:Sl)(l:ByteArray):MR:=fun V R=>Br (d=6) (¬i.p=none/\(0:Int)<=(0:Int)/\0<(i.n:Int)/\∃o p q r,V.rowp i.p ((0:Int).toNat*4) 4=some [uI o,uI p,uS q,uL r]/\TT 251 #[uA #[uP a,uM b,uB c],uA #[uI o,uI p,uS q,uL r]] V fun e V1=>∃s u,e=rT #[uS s,uI u]/\R (rV (uI u)) V1) (Lp [uI 0,.slice none 0 0,uI 0] V fun I n V1=>∀o p q,I n [uI o,uL p,uI q] V1->∀J0:LMP,Nx I n J0->Br (q<(i.n:Int)) (Ix i q (∃r s u y,V1.rowp i.p (q.toNat*4) 4=some [uI r,uI s,uS u,uL y]/\TT 229 #[uA #[uP a,uM b,uB c],uA #[uI r,uI s,uS u,uL y]] V1 fun e V2=>∃z A,e=rT #[uS z,uI A]/\Br (A=0) (qAD [uS z] 9 V2 fun B V3=>GenK Tryz.prog (.call { callee:=(.builtin .append),args:=#[(.tmp 48),(.tmp 50)],argTypes:=#[217,217] }) 217 (gv [(48,uL p),(50,.slice (qAa B 0) 1 1)]) V3 fun x V4=>∃C,x=uL C/\IR (q+1)/\J0 [uI o,uL C,uI (q+1)] V4) (R (rV (uI A)) V2))) (Br (d=1) (qBR Tryz.prog 252 (uM b) (uS g) true V1 fun x=>∃r s,x=.tuple #[uS r,uB s]/\Br (s=true) (¬p.p=none/\(0:Int)<=(0:Int)/\0<(p.n:Int)/\∃u,V1.rowp p.p ((0:Int).toNat*1) 1=some [uS u]/\TB 252 #[uP a,uS u,uS r] V1 fun y V2=>Br (y=true) (R (rV (uI 0)) V2) (R (rV (uI 11)) V2)) (R (rV (uI 9)) V1)) (Br (d=2) (¬p.p=none/\(0:Int)<=(0:Int)/\0<(p.n:Int)/\∃r,V1.rowp p.p ((0:Int).toNat*1) 1=some [uS r]/\TT 253 #[uP a,uS r,uS g] V1 fun e V2=>∃s u,e=rT #[uS s,uI u]/\Br (u=0) (¬p.p=none/\(0:Int)<=(1:Int)/\1<(p.n:Int)/\∃y,V2.rowp p.p 1 1=some [uS y]/\TB 252 #[uP a,uS y,uS s] V2 fun z V3=>Br (z=true) (R (rV (uI 0)) V3) (R (rV (uI 11)) V3)) (R (rV (uI u)) V2)) (Br (d=3) (¬p.p=none/\(0:Int)<=(0:Int)/\0<(p.n:Int)/\∃r,V1.rowp p.p ((0:Int).toNat*1) 1=some [uS r]/\Br (r=(qAm [98,111,111,108])) (R (rV (uI 0)) V1) (R (rV (uI 11)) V1)) (Br (d=4) (¬p.p=none/\(0:Int)<=(0:Int)/\0<(p.n:Int)/\∃r,V1.rowp p.p ((0:Int).toNat*1) 1=some [uS r]/\Br (r=(qAm [98,111,111,108])) (R (rV (uI 0)) V1) (R (rV (uI 11)) V1)) (Br (d=5) (Br ((p.n:Int)=0) (Br (l=(qAm [])) (R (rV (uI 0)) V1) (R (rV (uI 11)) V1)) (Br (l=(qAm [])) (R (rV (uI 11)) V1) (¬p.p=none/\(0:Int)<=(0:Int)/\0<(p.n:Int)/\∃r,V1.rowp p.p ((0:Int).toNat*1) 1=some [uS r]/\TB 252 #[uP a,uS r,uS l] V1 fun s V2=>Br (s=true) (R (rV (uI 0)) V2) (R (rV (uI 11)) V2)))) (R (rV (uI 0)) V1)))))))
theorem x228{a:Option Addr}{b:Option Nat}{c:Bool}{d:Int}{g:ByteArray}{i j k:Sl}{l:ByteArray}(h:w228 a b c d g i j k l V R):TT 228 #[uA #[uP a,uM b,uB c],uA #[uI d,uS g,uL i,uL j,uL k],uS l] V R:=trx Tryz.func228 h
def w229(a:Option Addr)(b:Option Nat)(c:Bool)(d g:Int)(i:ByteArray)(j:Sl):MR:=fun V R=>Br (d=7) (TT 251 #[uA #[uP a,uM b,uB c],uA #[uI d,uI g,uS i,uL j]] V fun e V1=>∃k l,e=rT #[uS k,uI l]/\Br (l=0) (Br (k=(qAm [])) (R (rT #[uS (qAm []),uI 11]) V1) (R (rT #[uS k,uI l]) V1)) (R (rT #[uS k,uI l]) V1)) (Lp [uS (qAm []),uI 0,.slice none 0 0,uI 0] V fun I n V1=>∀k l o p,I n [uS k,uI l,uL o,uI p] V1->∀J0:LMP,Nx I n J0->Br (p<(j.n:Int)) (Ix j p (∃q r s u,V1.rowp j.p (p.toNat*4) 4=some [uI q,uI r,uS s,uL u]/\TT 229 #[uA #[uP a,uM b,uB c],uA #[uI q,uI r,uS s,uL u]] V1 fun e V2=>∃y z,e=rT #[uS y,uI z]/\Br (z=0) (qAD [uS y] 9 V2 fun A V3=>GenK Tryz.prog (.call { callee:=(.builtin .append),args:=#[(.tmp 46),(.tmp 48)],argTypes:=#[217,217] }) 217 (gv [(46,uL o),(48,.slice (qAa A 0) 1 1)]) V3 fun x V4=>∃B,x=uL B/\IR (p+1)/\J0 [uS k,uI l,uL B,uI (p+1)] V4) (R (rT #[uS (qAm []),uI z]) V2))) (TT 254 #[uA #[uP a,uM b,uB c],uA #[uI d,uI g,uS i,uL j],uL o] V1 fun e V2=>∃q r,e=rT #[uS q,uI r]/\R (rT #[uS q,uI r]) V2))
theorem x229{a:Option Addr}{b:Option Nat}{c:Bool}{d g:Int}{i:ByteArray}{j:Sl}(h:w229 a b c d g i j V R):TT 229 #[uA #[uP a,uM b,uB c],uA #[uI d,uI g,uS i,uL j]] V R:=trx Tryz.func229 h
def w230(a:Option Addr)(b:ByteArray):MR:=fun V R=>¬a=none/\¬a=none/\¬(qAa a 0)=none/\∃c,V.rowp a 1 1=some [uL c]/\qAD [uS b] 9 V fun d V1=>TI 83 #[uL c,.func (.func 255) #[] #[uP (qAa d 0)]] V1 fun g V2=>R (rV (uI g)) V2
theorem x230{a:Option Addr}{b:ByteArray}(h:w230 a b V R):TT 230 #[uP a,uS b] V R:=trx Tryz.func230 h
def w231(a:Option Addr)(b:Int):MR:=fun V R=>Br (1099511627776<b) (TT 99 #[uP a,uI 5] V fun e V1=>(e=rT #[]/\R (rV (uI b)) V1)∨∃ch,e=.panicked ch/\R e V1) (Br (b<(-1099511627776)) (TT 99 #[uP a,uI 5] V fun e V1=>(e=rT #[]/\R (rV (uI b)) V1)∨∃ch,e=.panicked ch/\R e V1) (R (rV (uI b)) V))
theorem x231{a:Option Addr}{b:Int}(h:w231 a b V R):TT 231 #[uP a,uI b] V R:=trx Tryz.func231 h
def w232(a:Int):MR:=fun V R=>TI 257 #[.int .u64 a] V fun b V1=>R (rV (uI b)) V1
theorem x232{a:Int}(h:w232 a V R):TT 232 #[.int .u64 a] V R:=trx Tryz.func232 h
def w233(a b:Option Addr)(c d:Int)(g:ByteArray)(i:Sl):MR:=fun V R=>Br (c=4) (¬b=none/\¬b=none/\∃j,V.rowp b ((0:Int).toNat*1) 1=some [uL j]/\TI 188 #[uL j,uS g] V fun k V1=>Br (0<=k) (¬b=none/\¬b=none/\∃l,V1.rowp b ((0:Int).toNat*1) 1=some [uL l]/\Ix l k (¬(qAa l.p (k.toNat*2))=none/\∃o p,V1.rowp l.p (k.toNat*2) 2=some [uS o,uS p]/\R (rV (uS p)) V1)) (¬a=none/\¬a=none/\¬(qAa a 0)=none/\∃l,V1.rowp a 2 1=some [uL l]/\¬a=none/\¬a=none/\¬(qAa a 0)=none/\∃o,V1.rowp a 2 1=some [uL o]/\TI 188 #[uL o,uS g] V1 fun p V2=>V2.rowp (qAa a 2) 0 1=some [uL l]/\¬(qAa a 0)=none/\¬a=none/\¬a=none/\Ix l p (¬(qAa l.p (p.toNat*2))=none/\∃q r,V2.rowp l.p (p.toNat*2) 2=some [uS q,uS r]/\R (rV (uS r)) V2))) (Br (c=5) (¬a=none/\¬a=none/\¬(qAa a 0)=none/\∃j,V.rowp a 1 1=some [uL j]/\¬i.p=none/\(0:Int)<=(0:Int)/\0<(i.n:Int)/\∃k l o p,V.rowp i.p ((0:Int).toNat*4) 4=some [uI k,uI l,uS o,uL p]/\TS 233 #[uP a,uP b,uA #[uI k,uI l,uS o,uL p]] V fun q V1=>V1.rowp (qAa a 1) 0 1=some [uL j]/\¬(qAa a 0)=none/\¬a=none/\¬a=none/\TI 230 #[uP a,uS q] V1 fun r V2=>V2.rowp (qAa a 1) 0 1=some [uL j]/\¬(qAa a 0)=none/\¬a=none/\¬a=none/\Ix j r (∃s u,V2.rowp j.p (r.toNat*2) 2=some [uS s,uL u]/\TI 188 #[uL u,uS g] V2 fun y V3=>Ix u y (¬(qAa u.p (y.toNat*2))=none/\∃z A,V3.rowp u.p (y.toNat*2) 2=some [uS z,uS A]/\R (rV (uS A)) V3))) (Br (c=6) (R (rV (uS g)) V) (Br (c=7) (¬a=none/\¬a=none/\¬(qAa a 0)=none/\∃j,V.rowp a 3 1=some [uL j]/\¬a=none/\¬a=none/\∃k l o p q r s u,V.rowp a ((0:Int).toNat*1) 8=some [uS k,uL l,uL o,uL p,uL q,uL r,uL s,uL u]/\TI 97 #[uD k l o p q r s u,uS g] V fun y V1=>V1.rowp (qAa a 3) 0 1=some [uL j]/\¬(qAa a 0)=none/\¬a=none/\¬a=none/\Ix j y (¬(qAa j.p (y.toNat*5))=none/\∃z A B C D,V1.rowp j.p (y.toNat*5) 5=some [uS z,uL A,uS B,uL C,uL D]/\R (rV (uS B)) V1)) (Br (c=21) (¬i.p=none/\(0:Int)<=(1:Int)/\1<(i.n:Int)/\∃j k l o,V.rowp i.p (1*4) 4=some [uI j,uI k,uS l,uL o]/\TS 233 #[uP a,uP b,uA #[uI j,uI k,uS l,uL o]] V fun p V1=>Br (p=(qAm [110,105,108])) (¬i.p=none/\(0:Int)<=(2:Int)/\2<(i.n:Int)/\∃q r s u,V1.rowp i.p (2*4) 4=some [uI q,uI r,uS s,uL u]/\TS 233 #[uP a,uP b,uA #[uI q,uI r,uS s,uL u]] V1 fun y V2=>R (rV (uS y)) V2) (R (rV (uS p)) V1)) (Br (c=3) (R (rV (uS (qAm [110,105,108]))) V) (Br (c=2) (R (rV (uS (qAm [98,111,111,108]))) V) (Br (c=18) (R (rV (uS (qAm [98,111,111,108]))) V) (Br (c=19) (R (rV (uS (qAm [98,111,111,108]))) V) (Br (c=20) (R (rV (uS (qAm [98,111,111,108]))) V) (Br (c=14) (R (rV (uS (qAm [98,111,111,108]))) V) (Br (c=15) (R (rV (uS (qAm [98,111,111,108]))) V) (Br (c=16) (R (rV (uS (qAm [98,111,111,108]))) V) (Br (c=17) (R (rV (uS (qAm [98,111,111,108]))) V) (R (rV (uS (qAm [105,110,116]))) V))))))))))))))
theorem x233{a b:Option Addr}{c d:Int}{g:ByteArray}{i:Sl}(h:w233 a b c d g i V R):TT 233 #[uP a,uP b,uA #[uI c,uI d,uS g,uL i]] V R:=trx Tryz.func233 h
def w234(a:Bool):MR:=fun V R=>Br (a=true) (R (rV (uI 1)) V) (R (rV (uI 0)) V)
theorem x234{a:Bool}(h:w234 a V R):TT 234 #[uB a] V R:=trx Tryz.func234 h
abbrev w235_0(d:Int)(a:Option Addr)(V:Mem)(b:Int)(R:RP)(c:Int):Prop:=Br (d=0) (TT 99 #[uP a,uI 18] V fun e V1=>(e=rT #[]/\Br (b=12) (¬d=0/\R (rV (uI (IntKind.wrap .i64 ((c).tdiv d)))) V1) (¬d=0/\R (rV (uI ((c).tmod d))) V1))∨∃ch,e=.panicked ch/\R e V1) (Br (b=12) (¬d=0/\R (rV (uI (IntKind.wrap .i64 ((c).tdiv d)))) V) (¬d=0/\R (rV (uI ((c).tmod d))) V))
def w235(a:Option Addr)(b c d:Int):MR:=fun V R=>Br (b=9) (IR (c+d)/\TT 231 #[uP a,uI (c+d)] V fun e V1=>(∃g,e=rV (uI g)/\R (rV (uI g)) V1)∨∃ch,e=.panicked ch/\R e V1) (Br (b=10) (IR (c-d)/\TT 231 #[uP a,uI (c-d)] V fun e V1=>(∃g,e=rV (uI g)/\R (rV (uI g)) V1)∨∃ch,e=.panicked ch/\R e V1) (Br (b=11) (Br (c=0) (IR (c*d)/\R (rV (uI (c*d))) V) (TI 258 #[uI d] V fun g V1=>TI 258 #[uI c] V1 fun i V2=>¬i=0/\Br ((IntKind.wrap .i64 (((1099511627776:Int)).tdiv i))<g) (TT 99 #[uP a,uI 5] V2 fun e V3=>(e=rT #[]/\IR (c*d)/\R (rV (uI (c*d))) V3)∨∃ch,e=.panicked ch/\R e V3) (IR (c*d)/\R (rV (uI (c*d))) V2))) (Br (b=12) (w235_0 d a V b R c) (Br (b=13) (w235_0 d a V b R c) (Br (b=22) (GenK Tryz.prog (.call { callee:=(.builtin .max),args:=#[(.tmp 58),(.tmp 59)],argTypes:=#[3,3] }) 3 (gv [(58,uI c),(59,uI d)]) V fun x V1=>∃g,x=uI g/\R (rV (uI g)) V1) (GenK Tryz.prog (.call { callee:=(.builtin .min),args:=#[(.tmp 61),(.tmp 62)],argTypes:=#[3,3] }) 3 (gv [(61,uI c),(62,uI d)]) V fun x V1=>∃g,x=uI g/\R (rV (uI g)) V1))))))
theorem x235{a:Option Addr}{b c d:Int}(h:w235 a b c d V R):TT 235 #[uP a,uI b,uI c,uI d] V R:=trx Tryz.func235 h
def w236(a b:ByteArray)(c:Option Addr):MR:=fun V R=>∃d,V.rowp c ((0:Int).toNat*1) 1=some [uS d]/\R (rV (uB (decide (a=d)))) V
theorem x236{a b:ByteArray}{c:Option Addr}(h:w236 a b c V R):TT 236 #[uA #[uS a,uS b],uP c] V R:=trx Tryz.func236 h
def w237(a:ByteArray):MR:=fun V R=>R (rV (uB (!(decide (a=a))))) V
theorem x237{a:ByteArray}(h:w237 a V R):TT 237 #[uS a] V R:=trx Tryz.func237 h
abbrev w240_0(a:Int)(R:RP)(V:Mem):Prop:=Br (a=6) (R (rV (uI 0)) V) (Br (a=5) (R (rV (uI 1)) V) (Br (a=8) (R (rV (uI 1)) V) (Br (a=18) (R (rV (uI 1)) V) (Br (a=24) (R (rV (uI 1)) V) (Br (a=7) (R (rV (uI (-1))) V) (Br (a=21) (R (rV (uI 3)) V) (Br (9<=a) (Br (a<=23) (R (rV (uI 2)) V) (R (rV (uI (-2))) V)) (R (rV (uI (-2))) V))))))))
def w240(a:Int):MR:=fun V R=>Br (1<=a) (Br (a<=4) (R (rV (uI 0)) V) (w240_0 a R V)) (w240_0 a R V)
theorem x240{a:Int}(h:w240 a V R):TT 240 #[uI a] V R:=trx Tryz.func240 h
def w241(a b:Int)(c:ByteArray)(d:Sl):MR:=fun V R=>Br (a=4) (Br (c=(qAm [116,104,105,115])) (R (rV (uB true)) V) (TB 86 #[uS c] V fun g V1=>R (rV (uB g)) V1)) (Br (a=5) (TB 86 #[uS c] V fun g V1=>R (rV (uB g)) V1) (Br (a=6) (TB 86 #[uS c] V fun g V1=>R (rV (uB g)) V1) (Br (a=7) (TB 86 #[uS c] V fun g V1=>R (rV (uB g)) V1) (R (rV (uB (decide (c=(qAm []))))) V))))
theorem x241{a b:Int}{c:ByteArray}{d:Sl}(h:w241 a b c d V R):TT 241 #[uA #[uI a,uI b,uS c,uL d]] V R:=trx Tryz.func241 h
def w242(a:ByteArray)(b c d g i j k l:Sl)(o:Bool)(p:ByteArray)(q:Sl):MR:=fun V R=>Br (o=true) (TT 203 #[uD a b c d g i j k,uS p,uL q] V fun e V1=>∃r s,e=rT #[uS r,uI s]/\Br (s=0) (Br (r=(qAm [])) (R (rT #[uS (qAm []),uI 11]) V1) (R (rT #[uS r,uI s]) V1)) (R (rT #[uS r,uI s]) V1)) (TI 155 #[uD a b c d g i j k,uS p] V fun r V1=>Br (r<0) (R (rT #[uS (qAm []),uI 9]) V1) (Br ((q.n:Int)=1) (¬q.p=none/\(0:Int)<=(0:Int)/\0<(q.n:Int)/\∃s,V1.rowp q.p ((0:Int).toNat*1) 1=some [uS s]/\Ix g r (¬(qAa g.p (r.toNat*7))=none/\∃u y z A B C D,V1.rowp g.p (r.toNat*7) 7=some [uS u,uS y,uI z,uI A,uI B,uS C,uL D]/\TB 206 #[uD a b c d g i j k,uS s,uS y] V1 fun F V2=>TT 243 #[uB F,uS (qAm [105,110,116])] V2 fun e V3=>∃G H,e=rT #[uS G,uI H]/\R (rT #[uS G,uI H]) V3)) (R (rT #[uS (qAm []),uI 3]) V1)))
theorem x242{a:ByteArray}{b c d g i j k l:Sl}{o:Bool}{p:ByteArray}{q:Sl}(h:w242 a b c d g i j k l o p q V R):TT 242 #[uD a b c d g i j k,uA #[uL l,uB o],uS p,uL q] V R:=trx Tryz.func242 h
def w243(a:Bool)(b:ByteArray):MR:=fun V R=>Br (a=true) (R (rT #[uS b,uI 0]) V) (R (rT #[uS (qAm []),uI 11]) V)
theorem x243{a:Bool}{b:ByteArray}(h:w243 a b V R):TT 243 #[uB a,uS b] V R:=trx Tryz.func243 h
def w244(a:Sl)(b:ByteArray):MR:=fun V R=>Lp [uB false,uI 0] V fun I n V1=>∀c d,I n [uB c,uI d] V1->∀J0:LMP,Nx I n J0->Br (d<(a.n:Int)) (Ix a d (∃g,V1.rowp a.p (d.toNat*1) 1=some [uS g]/\Br (g=b) (IR (d+1)/\J0 [uB c,uI (d+1)] V1) (R (rV (uB false)) V1))) (R (rV (uB true)) V1)
theorem x244{a:Sl}{b:ByteArray}(h:w244 a b V R):TT 244 #[uL a,uS b] V R:=trx Tryz.func244 h
def w245(a b:Option Addr)(c d:Int)(g:ByteArray)(i:Sl):MR:=fun V R=>¬a=none/\¬a=none/\∃j k l o p q r s,V.rowp a ((0:Int).toNat*1) 8=some [uS j,uL k,uL l,uL o,uL p,uL q,uL r,uL s]/\¬a=none/\¬a=none/\∃u y z A B C D F,V.rowp a ((0:Int).toNat*1) 8=some [uS u,uL y,uL z,uL A,uL B,uL C,uL D,uL F]/\¬b=none/\¬b=none/\∃G H L M N,V.rowp b ((0:Int).toNat*1) 5=some [uS G,uL H,uS L,uL M,uL N]/\TT 201 #[uD u y z A B C D F,uA #[uS G,uL H,uS L,uL M,uL N]] V fun e V1=>∃O P,e=rV (uA #[uL O,uB P])/\V1.rowp (qAa a 0) 0 8=some [uS j,uL k,uL l,uL o,uL p,uL q,uL r,uL s]/\¬a=none/\¬a=none/\TT 204 #[uD j k l o p q r s,uA #[uL O,uB P],uA #[uI c,uI d,uS g,uL i]] V1 fun e V2=>∃Q U,e=rT #[uS Q,uI U]/\Br (U=0) (R (rV (uB (decide (Q=(qAm [105,110,116]))))) V2) (R (rV (uB false)) V2)
theorem x245{a b:Option Addr}{c d:Int}{g:ByteArray}{i:Sl}(h:w245 a b c d g i V R):TT 245 #[uP a,uP b,uA #[uI c,uI d,uS g,uL i]] V R:=trx Tryz.func245 h
def w246(a:Bool):MR:=fun V R=>Br (a=true) (R (rV (uI 1)) V) (R (rV (uI 0)) V)
theorem x246{a:Bool}(h:w246 a V R):TT 246 #[uB a] V R:=trx Tryz.func246 h
def w247(a:Option Addr)(b c:Int):MR:=fun V R=>Br (b<0) (IR (0-b)/\Br (c<0) (IR (0-c)/\Br (0<(0-b)) (¬(0-b)=0/\Br ((IntKind.wrap .i64 (((1099511627776:Int)).tdiv (0-b)))<(0-c)) (TI 93 #[uP a,uI 5] V fun d V1=>R (rV (uI d)) V1) (IR (b*c)/\R (rV (uI (b*c))) V)) (IR (b*c)/\R (rV (uI (b*c))) V)) (Br (0<(0-b)) (¬(0-b)=0/\Br ((IntKind.wrap .i64 (((1099511627776:Int)).tdiv (0-b)))<c) (TI 93 #[uP a,uI 5] V fun d V1=>R (rV (uI d)) V1) (IR (b*c)/\R (rV (uI (b*c))) V)) (IR (b*c)/\R (rV (uI (b*c))) V))) (Br (c<0) (IR (0-c)/\Br (0<b) (¬b=0/\Br ((IntKind.wrap .i64 (((1099511627776:Int)).tdiv b))<(0-c)) (TI 93 #[uP a,uI 5] V fun d V1=>R (rV (uI d)) V1) (IR (b*c)/\R (rV (uI (b*c))) V)) (IR (b*c)/\R (rV (uI (b*c))) V)) (Br (0<b) (¬b=0/\Br ((IntKind.wrap .i64 (((1099511627776:Int)).tdiv b))<c) (TI 93 #[uP a,uI 5] V fun d V1=>R (rV (uI d)) V1) (IR (b*c)/\R (rV (uI (b*c))) V)) (IR (b*c)/\R (rV (uI (b*c))) V)))
theorem x247{a:Option Addr}{b c:Int}(h:w247 a b c V R):TT 247 #[uP a,uI b,uI c] V R:=trx Tryz.func247 h
def w248(a:Sl)(b:Value):MR:=fun V R=>Lp [uI 0,uI 0] V fun I n V1=>∀c d,I n [uI c,uI d] V1->∀J0:LMP,Nx I n J0->Br (d<(a.n:Int)) (Ix a d (∃g i j k l o p,V1.rowp a.p (d.toNat*7) 7=some [uS g,uS i,uI j,uI k,uI l,uS o,uL p]/\∃f first caps,K.cast .f b=.func (.func f) first caps/\CO f/\TT f (first++#[uA #[uS g,uS i,uI j,uI k,uI l,uS o,uL p]]++caps) V1 fun e V2=>∃q,e=rV (uB q)/\Br (q=true) (R (rV (uI d)) V2) (IR (d+1)/\J0 [uI c,uI (d+1)] V2))) (R (rV (uI (-1))) V1)
theorem x248{a:Sl}{b:Value}(h:w248 a b V R):TT 248 #[uL a,K.cast .f b] V R :=
 qBr Tryz.func248 [] [] false [uL a,b] (by kernel_rfl) (by kernel_rfl) h
def w249(a:Sl)(b:Value):MR:=fun V R=>Lp [uI 0,uI 0] V fun I n V1=>∀c d,I n [uI c,uI d] V1->∀J0:LMP,Nx I n J0->Br (d<(a.n:Int)) (Ix a d (∃g i j k l o,V1.rowp a.p (d.toNat*6) 6=some [uS g,uS i,uI j,uI k,uS l,uL o]/\∃f first caps,K.cast .f b=.func (.func f) first caps/\CO f/\TT f (first++#[uA #[uS g,uS i,uI j,uI k,uS l,uL o]]++caps) V1 fun e V2=>∃p,e=rV (uB p)/\Br (p=true) (R (rV (uI d)) V2) (IR (d+1)/\J0 [uI c,uI (d+1)] V2))) (R (rV (uI (-1))) V1)
theorem x249{a:Sl}{b:Value}(h:w249 a b V R):TT 249 #[uL a,K.cast .f b] V R :=
 qBr Tryz.func249 [] [] false [uL a,b] (by kernel_rfl) (by kernel_rfl) h
def w250(a:Sl):MR:=fun V R=>qAD [uL a] 23 V fun b V1=>R (rV (.func (.func 260) #[] #[uP (qAa b 0)])) V1
theorem x250{a:Sl}(h:w250 a V R):TT 250 #[uL a] V R:=trx Tryz.func250 h
def w251(a:Option Addr)(b:Option Nat)(c:Bool)(d g:Int)(i:ByteArray)(j:Sl):MR:=fun V R=>Lp [uS (qAm []),uI 0,.slice none 0 0,uI 0] V fun I n V1=>∀k l o p,I n [uS k,uI l,uL o,uI p] V1->∀J0:LMP,Nx I n J0->Br (p<(j.n:Int)) (Ix j p (∃q r s u,V1.rowp j.p (p.toNat*4) 4=some [uI q,uI r,uS s,uL u]/\TT 229 #[uA #[uP a,uM b,uB c],uA #[uI q,uI r,uS s,uL u]] V1 fun e V2=>∃y z,e=rT #[uS y,uI z]/\Br (z=0) (qAD [uS y] 9 V2 fun A V3=>GenK Tryz.prog (.call { callee:=(.builtin .append),args:=#[(.tmp 31),(.tmp 33)],argTypes:=#[217,217] }) 217 (gv [(31,uL o),(33,.slice (qAa A 0) 1 1)]) V3 fun x V4=>∃B,x=uL B/\IR (p+1)/\J0 [uS k,uI l,uL B,uI (p+1)] V4) (R (rT #[uS (qAm []),uI z]) V2))) (Br (c=true) (¬a=none/\¬a=none/\∃q,V1.rowp a 9 1=some [uM q]/\qBR Tryz.prog 203 (uM q) (uS i) true V1 fun x=>∃r s u y z A,x=.tuple #[uA #[uS r,uL s,uS u,uL y,uL z],uB A]/\Br (A=true) (Br ((o.n:Int)=(s.n:Int)) (Lp [uS k,uI l,uI 0] V1 fun I n V2=>∀B C D,I n [uS B,uI C,uI D] V2->∀J1:LMP,Nx I n J1->Br (D<(o.n:Int)) (Ix o D (∃F,V2.rowp o.p (D.toNat*1) 1=some [uS F]/\Ix s D (¬(qAa s.p (D.toNat*2))=none/\∃G H,V2.rowp s.p (D.toNat*2) 2=some [uS G,uS H]/\TB 252 #[uP a,uS F,uS H] V2 fun L V3=>Br (L=true) (IR (D+1)/\J1 [uS B,uI C,uI (D+1)] V3) (R (rT #[uS (qAm []),uI 11]) V3)))) (R (rT #[uS u,uI 0]) V2)) (R (rT #[uS (qAm []),uI 3]) V1)) (R (rT #[uS (qAm []),uI 9]) V1)) (TT 261 #[uA #[uP a,uM b,uB c],uS i,uL o] V1 fun e V2=>∃q r,e=rT #[uS q,uI r]/\R (rT #[uS q,uI r]) V2))
theorem x251{a:Option Addr}{b:Option Nat}{c:Bool}{d g:Int}{i:ByteArray}{j:Sl}(h:w251 a b c d g i j V R):TT 251 #[uA #[uP a,uM b,uB c],uA #[uI d,uI g,uS i,uL j]] V R:=trx Tryz.func251 h
def w252(a:Option Addr)(b c:ByteArray):MR:=fun V R=>Br (b=c) (R (rV (uB true)) V) (Br (b=(qAm [110,105,108])) (TB 176 #[uP a,uS c] V fun d V1=>R (rV (uB d)) V1) (R (rV (uB false)) V))
theorem x252{a:Option Addr}{b c:ByteArray}(h:w252 a b c V R):TT 252 #[uP a,uS b,uS c] V R:=trx Tryz.func252 h
def w253(a:Option Addr)(b c:ByteArray):MR:=fun V R=>¬a=none/\¬a=none/\∃d,V.rowp a 8 1=some [uM d]/\qBR Tryz.prog 202 (uM d) (uS b) true V fun x=>∃g i j,x=.tuple #[uA #[uS g,uL i],uB j]/\Br (j=true) (Lp [uS (qAm []),uI 0,uI 0] V fun I n V1=>∀k l o,I n [uS k,uI l,uI o] V1->∀J0:LMP,Nx I n J0->Br (o<(i.n:Int)) (Ix i o (∃p q,V1.rowp i.p (o.toNat*2) 2=some [uS p,uS q]/\Br (p=c) (R (rT #[uS q,uI 0]) V1) (IR (o+1)/\J0 [uS k,uI l,uI (o+1)] V1))) (R (rT #[uS (qAm []),uI 9]) V1)) (R (rT #[uS (qAm []),uI 11]) V)
theorem x253{a:Option Addr}{b c:ByteArray}(h:w253 a b c V R):TT 253 #[uP a,uS b,uS c] V R:=trx Tryz.func253 h
abbrev w254_0(k:Sl)(V:Mem)(a:Option Addr)(R:RP):Prop:=¬k.p=none/\(0:Int)<=(0:Int)/\0<(k.n:Int)/\∃l,V.rowp k.p ((0:Int).toNat*1) 1=some [uS l]/\¬k.p=none/\(0:Int)<=(1:Int)/\1<(k.n:Int)/\∃o,V.rowp k.p 1 1=some [uS o]/\TB 252 #[uP a,uS l,uS o] V fun p V1=>Br (p=true) (R (rT #[uS (qAm [98,111,111,108]),uI 0]) V1) (¬k.p=none/\(0:Int)<=(1:Int)/\1<(k.n:Int)/\∃q,V1.rowp k.p 1 1=some [uS q]/\¬k.p=none/\(0:Int)<=(0:Int)/\0<(k.n:Int)/\∃r,V1.rowp k.p ((0:Int).toNat*1) 1=some [uS r]/\TB 252 #[uP a,uS q,uS r] V1 fun s V2=>Br (s=true) (R (rT #[uS (qAm [98,111,111,108]),uI 0]) V2) (R (rT #[uS (qAm []),uI 11]) V2))
def w254(a:Option Addr)(b:Option Nat)(c:Bool)(d g:Int)(i:ByteArray)(j k:Sl):MR:=fun V R=>Br (d=1) (R (rT #[uS (qAm [105,110,116]),uI 0]) V) (Br (d=2) (R (rT #[uS (qAm [98,111,111,108]),uI 0]) V) (Br (d=3) (R (rT #[uS (qAm [110,105,108]),uI 0]) V) (Br (d=4) (qBR Tryz.prog 252 (uM b) (uS i) true V fun x=>∃l o,x=.tuple #[uS l,uB o]/\Br (o=true) (R (rT #[uS l,uI 0]) V) (R (rT #[uS (qAm []),uI 9]) V)) (Br (d=5) (¬k.p=none/\(0:Int)<=(0:Int)/\0<(k.n:Int)/\∃l,V.rowp k.p ((0:Int).toNat*1) 1=some [uS l]/\TT 253 #[uP a,uS l,uS i] V fun e V1=>∃o p,e=rT #[uS o,uI p]/\R (rT #[uS o,uI p]) V1) (Br (d=6) (Br (c=true) (TB 176 #[uP a,uS i] V fun l V1=>Br (l=true) (R (rT #[uS i,uI 0]) V1) (R (rT #[uS (qAm []),uI 9]) V1)) (R (rT #[uS (qAm []),uI 13]) V)) (Br (d=14) (w254_0 k V a R) (Br (d=15) (w254_0 k V a R) (Br (d=16) (qAD [uL k] 217 V fun l V1=>TT 262 #[uS (qAm [105,110,116]),uS (qAm [98,111,111,108]),uP (qAa l 0)] V1 fun e V2=>∃o p,e=rT #[uS o,uI p]/\R (rT #[uS o,uI p]) V2) (Br (d=17) (qAD [uL k] 217 V fun l V1=>TT 262 #[uS (qAm [105,110,116]),uS (qAm [98,111,111,108]),uP (qAa l 0)] V1 fun e V2=>∃o p,e=rT #[uS o,uI p]/\R (rT #[uS o,uI p]) V2) (Br (d=18) (qAD [uL k] 217 V fun l V1=>TT 262 #[uS (qAm [98,111,111,108]),uS (qAm [98,111,111,108]),uP (qAa l 0)] V1 fun e V2=>∃o p,e=rT #[uS o,uI p]/\R (rT #[uS o,uI p]) V2) (Br (d=19) (qAD [uL k] 217 V fun l V1=>TT 262 #[uS (qAm [98,111,111,108]),uS (qAm [98,111,111,108]),uP (qAa l 0)] V1 fun e V2=>∃o p,e=rT #[uS o,uI p]/\R (rT #[uS o,uI p]) V2) (Br (d=20) (qAD [uL k] 217 V fun l V1=>TT 262 #[uS (qAm [98,111,111,108]),uS (qAm [98,111,111,108]),uP (qAa l 0)] V1 fun e V2=>∃o p,e=rT #[uS o,uI p]/\R (rT #[uS o,uI p]) V2) (Br (d=21) (¬k.p=none/\(0:Int)<=(0:Int)/\0<(k.n:Int)/\∃l,V.rowp k.p ((0:Int).toNat*1) 1=some [uS l]/\Br (l=(qAm [98,111,111,108])) (¬k.p=none/\(0:Int)<=(1:Int)/\1<(k.n:Int)/\∃o,V.rowp k.p 1 1=some [uS o]/\¬k.p=none/\(0:Int)<=(2:Int)/\2<(k.n:Int)/\∃p,V.rowp k.p 2 1=some [uS p]/\TB 252 #[uP a,uS o,uS p] V fun q V1=>Br (q=true) (¬k.p=none/\(0:Int)<=(2:Int)/\2<(k.n:Int)/\∃r,V1.rowp k.p 2 1=some [uS r]/\R (rT #[uS r,uI 0]) V1) (¬k.p=none/\(0:Int)<=(2:Int)/\2<(k.n:Int)/\∃r,V1.rowp k.p 2 1=some [uS r]/\¬k.p=none/\(0:Int)<=(1:Int)/\1<(k.n:Int)/\∃s,V1.rowp k.p 1 1=some [uS s]/\TB 252 #[uP a,uS r,uS s] V1 fun u V2=>Br (u=true) (¬k.p=none/\(0:Int)<=(1:Int)/\1<(k.n:Int)/\∃y,V2.rowp k.p 1 1=some [uS y]/\R (rT #[uS y,uI 0]) V2) (R (rT #[uS (qAm []),uI 11]) V2))) (R (rT #[uS (qAm []),uI 11]) V)) (qAD [uL k] 217 V fun l V1=>TT 262 #[uS (qAm [105,110,116]),uS (qAm [105,110,116]),uP (qAa l 0)] V1 fun e V2=>∃o p,e=rT #[uS o,uI p]/\R (rT #[uS o,uI p]) V2))))))))))))))
theorem x254{a:Option Addr}{b:Option Nat}{c:Bool}{d g:Int}{i:ByteArray}{j k:Sl}(h:w254 a b c d g i j k V R):TT 254 #[uA #[uP a,uM b,uB c],uA #[uI d,uI g,uS i,uL j],uL k] V R:=trx Tryz.func254 h
def w255(a:ByteArray)(b:Sl)(c:Option Addr):MR:=fun V R=>∃d,V.rowp c ((0:Int).toNat*1) 1=some [uS d]/\R (rV (uB (decide (a=d)))) V
theorem x255{a:ByteArray}{b:Sl}{c:Option Addr}(h:w255 a b c V R):TT 255 #[uA #[uS a,uL b],uP c] V R:=trx Tryz.func255 h
abbrev qAZ  : ByteArray :=
 qAm [0,1,2,2,3,3,3,3,4,4,4,4,4,4,4,4,5,5,5,5,5,5,5,5,5,5,5,5,5,5,5,5,6,6,6,6,6,6,6,6,6,6,6,6,6,6,6,6,6,6,6,6,6,6,6,6,6,6,6,6,6,6,6,6,7,7,7,7,7,7,7,7,7,7,7,7,7,7,7,7,7,7,7,7,7,7,7,7,7,7,7,7,7,7,7,7,7,7,7,7,7,7,7,7,7,7,7,7,7,7,7,7,7,7,7,7,7,7,7,7,7,7,7,7,7,7,7,7,8,8,8,8,8,8,8,8,8,8,8,8,8,8,8,8,8,8,8,8,8,8,8,8,8,8,8,8,8,8,8,8,8,8,8,8,8,8,8,8,8,8,8,8,8,8,8,8,8,8,8,8,8,8,8,8,8,8,8,8,8,8,8,8,8,8,8,8,8,8,8,8,8,8,8,8,8,8,8,8,8,8,8,8,8,8,8,8,8,8,8,8,8,8,8,8,8,8,8,8,8,8,8,8,8,8,8,8,8,8,8,8,8,8,8,8,8,8,8,8,8,8,8,8,8,8,8,8]
def w257(a:Int):MR:=fun V R=>Br (4294967296<=a) (GenK Tryz.prog (.binOp .shr 314 (.tmp 5) (.const (.int .u64 32)) 264) 314 (gv [(5,.int .u64 a)]) V fun x V1=>∃b,x=.int .u64 b/\Br (65536<=b) (GenK Tryz.prog (.binOp .shr 314 (.tmp 9) (.const (.int .u64 16)) 264) 314 (gv [(9,.int .u64 b)]) V1 fun x V2=>∃c,x=.int .u64 c/\IR ((32:Int)+(16:Int))/\Br (256<=c) (GenK Tryz.prog (.binOp .shr 314 (.tmp 15) (.const (.int .u64 8)) 264) 314 (gv [(15,.int .u64 c)]) V2 fun x V3=>∃d,x=.int .u64 d/\IR (((32:Int)+(16:Int))+8)/\K.inR .u8 d/\(0<=d/\d<((qAZ).size:Int))/\IR (qBe (qAZ) d)/\IR ((((32:Int)+(16:Int))+8)+(qBe (qAZ) d))/\R (rV (uI ((((32:Int)+(16:Int))+8)+(qBe (qAZ) d)))) V3) (K.inR .u8 c/\(0<=c/\c<((qAZ).size:Int))/\IR (qBe (qAZ) c)/\IR (((32:Int)+(16:Int))+(qBe (qAZ) c))/\R (rV (uI (((32:Int)+(16:Int))+(qBe (qAZ) c)))) V2)) (Br (256<=b) (GenK Tryz.prog (.binOp .shr 314 (.tmp 15) (.const (.int .u64 8)) 264) 314 (gv [(15,.int .u64 b)]) V1 fun x V2=>∃c,x=.int .u64 c/\IR ((32:Int)+(8:Int))/\K.inR .u8 c/\(0<=c/\c<((qAZ).size:Int))/\IR (qBe (qAZ) c)/\IR (((32:Int)+(8:Int))+(qBe (qAZ) c))/\R (rV (uI (((32:Int)+(8:Int))+(qBe (qAZ) c)))) V2) (K.inR .u8 b/\(0<=b/\b<((qAZ).size:Int))/\IR (qBe (qAZ) b)/\IR (32+(qBe (qAZ) b))/\R (rV (uI (32+(qBe (qAZ) b)))) V1))) (Br (65536<=a) (GenK Tryz.prog (.binOp .shr 314 (.tmp 9) (.const (.int .u64 16)) 264) 314 (gv [(9,.int .u64 a)]) V fun x V1=>∃b,x=.int .u64 b/\IR ((0:Int)+(16:Int))/\Br (256<=b) (GenK Tryz.prog (.binOp .shr 314 (.tmp 15) (.const (.int .u64 8)) 264) 314 (gv [(15,.int .u64 b)]) V1 fun x V2=>∃c,x=.int .u64 c/\IR (((0:Int)+(16:Int))+8)/\K.inR .u8 c/\(0<=c/\c<((qAZ).size:Int))/\IR (qBe (qAZ) c)/\IR ((((0:Int)+(16:Int))+8)+(qBe (qAZ) c))/\R (rV (uI ((((0:Int)+(16:Int))+8)+(qBe (qAZ) c)))) V2) (K.inR .u8 b/\(0<=b/\b<((qAZ).size:Int))/\IR (qBe (qAZ) b)/\IR (((0:Int)+(16:Int))+(qBe (qAZ) b))/\R (rV (uI (((0:Int)+(16:Int))+(qBe (qAZ) b)))) V1)) (Br (256<=a) (GenK Tryz.prog (.binOp .shr 314 (.tmp 15) (.const (.int .u64 8)) 264) 314 (gv [(15,.int .u64 a)]) V fun x V1=>∃b,x=.int .u64 b/\IR ((0:Int)+(8:Int))/\K.inR .u8 b/\(0<=b/\b<((qAZ).size:Int))/\IR (qBe (qAZ) b)/\IR (((0:Int)+(8:Int))+(qBe (qAZ) b))/\R (rV (uI (((0:Int)+(8:Int))+(qBe (qAZ) b)))) V1) (K.inR .u8 a/\(0<=a/\a<((qAZ).size:Int))/\IR (qBe (qAZ) a)/\IR (0+(qBe (qAZ) a))/\R (rV (uI (0+(qBe (qAZ) a)))) V)))
theorem x257{a:Int}(h:w257 a V R):TT 257 #[.int .u64 a] V R:=trx Tryz.func257 h
def w258(a:Int):MR:=fun V R=>IR (0-a)/\GenK Tryz.prog (.call { callee:=(.builtin .max),args:=#[(.tmp 3),(.tmp 5)],argTypes:=#[3,3] }) 3 (gv [(3,uI a),(5,uI (0-a))]) V fun x V1=>∃b,x=uI b/\R (rV (uI b)) V1
theorem x258{a:Int}(h:w258 a V R):TT 258 #[uI a] V R:=trx Tryz.func258 h
def w261(a:Option Addr)(b:Option Nat)(c:Bool)(d:ByteArray)(g:Sl):MR:=fun V R=>¬a=none/\¬a=none/\¬(qAa a 0)=none/\∃i,V.rowp a 4 1=some [uL i]/\qAD [uS d] 9 V fun j V1=>TI 248 #[uL i,.func (.func 267) #[] #[uP (qAa j 0)]] V1 fun k V2=>Br (k<0) (R (rT #[uS (qAm []),uI 9]) V2) (Br ((g.n:Int)=1) (¬g.p=none/\(0:Int)<=(0:Int)/\0<(g.n:Int)/\∃l,V2.rowp g.p ((0:Int).toNat*1) 1=some [uS l]/\¬a=none/\¬a=none/\¬(qAa a 0)=none/\∃o,V2.rowp a 4 1=some [uL o]/\Ix o k (¬(qAa o.p (k.toNat*7))=none/\∃p q r s u y z,V2.rowp o.p (k.toNat*7) 7=some [uS p,uS q,uI r,uI s,uI u,uS y,uL z]/\TB 252 #[uP a,uS l,uS q] V2 fun A V3=>Br (A=true) (R (rT #[uS (qAm [105,110,116]),uI 0]) V3) (R (rT #[uS (qAm []),uI 11]) V3))) (R (rT #[uS (qAm []),uI 3]) V2))
theorem x261{a:Option Addr}{b:Option Nat}{c:Bool}{d:ByteArray}{g:Sl}(h:w261 a b c d g V R):TT 261 #[uA #[uP a,uM b,uB c],uS d,uL g] V R:=trx Tryz.func261 h
def w262(a b:ByteArray)(c:Option Addr):MR:=fun V R=>∃d,V.rowp c ((0:Int).toNat*1) 1=some [uL d]/\qAD [uS a] 9 V fun g V1=>TB 263 #[uL d,.func (.func 264) #[] #[uP (qAa g 0)]] V1 fun i V2=>Br (i=true) (R (rT #[uS (qAm []),uI 11]) V2) (R (rT #[uS b,uI 0]) V2)
theorem x262{a b:ByteArray}{c:Option Addr}(h:w262 a b c V R):TT 262 #[uS a,uS b,uP c] V R:=trx Tryz.func262 h
def w263(a:Sl)(b:Value):MR:=fun V R=>TI 268 #[uL a,K.cast .f b] V fun c V1=>R (rV (uB (decide (0<=c)))) V1
theorem x263{a:Sl}{b:Value}(h:w263 a b V R):TT 263 #[uL a,K.cast .f b] V R :=
 qBr Tryz.func263 [] [] false [uL a,b] (by kernel_rfl) (by kernel_rfl) h
def w264(a:ByteArray)(b:Option Addr):MR:=fun V R=>∃c,V.rowp b ((0:Int).toNat*1) 1=some [uS c]/\R (rV (uB (!(decide (a=c))))) V
theorem x264{a:ByteArray}{b:Option Addr}(h:w264 a b V R):TT 264 #[uS a,uP b] V R:=trx Tryz.func264 h
def w267(a b:ByteArray)(c d g:Int)(i:ByteArray)(j:Sl)(k:Option Addr):MR:=fun V R=>∃l,V.rowp k ((0:Int).toNat*1) 1=some [uS l]/\R (rV (uB (decide (a=l)))) V
theorem x267{a b:ByteArray}{c d g:Int}{i:ByteArray}{j:Sl}{k:Option Addr}(h:w267 a b c d g i j k V R):TT 267 #[uA #[uS a,uS b,uI c,uI d,uI g,uS i,uL j],uP k] V R:=trx Tryz.func267 h
def w268(a:Sl)(b:Value):MR:=fun V R=>Lp [uI 0,uI 0] V fun I n V1=>∀c d,I n [uI c,uI d] V1->∀J0:LMP,Nx I n J0->Br (d<(a.n:Int)) (Ix a d (∃g,V1.rowp a.p (d.toNat*1) 1=some [uS g]/\∃f first caps,K.cast .f b=.func (.func f) first caps/\CO f/\TT f (first++#[uS g]++caps) V1 fun e V2=>∃i,e=rV (uB i)/\Br (i=true) (R (rV (uI d)) V2) (IR (d+1)/\J0 [uI c,uI (d+1)] V2))) (R (rV (uI (-1))) V1)
theorem x268{a:Sl}{b:Value}(h:w268 a b V R):TT 268 #[uL a,K.cast .f b] V R :=
 qBr Tryz.func268 [] [] false [uL a,b] (by kernel_rfl) (by kernel_rfl) h
def w19(a:ByteArray)(b c d g i j k l o p:Sl)(q:Int):MR:=fun V R=>TI 37 #[uD a b c d g i j k,uA #[uL l,uL o],uI q] V fun r V1=>Br (r=0) (Br (2000<(p.n:Int)) (R (rT #[.slice none 0 0,uA #[.slice none 0 0,.slice none 0 0],uI 4]) V1) (TT 38 #[uA #[uL l,uL o]] V1 fun e V2=>∃s u,e=rV (uA #[uL s,uL u])/\Lp [uL s,uL u,.slice none 0 0,uI 0,.slice none 0 0,uI 0] V2 fun I n V3=>∀y z A B C D,I n [uL y,uL z,uL A,uI B,uL C,uI D] V3->∀J0:LMP,Nx I n J0->Br (D<(p.n:Int)) (Ix p D (∃F G,V3.rowp p.p (D.toNat*2) 2=some [uS F,uL G]/\TT 39 #[uD a b c d g i j k,uA #[uL y,uL z],uA #[uS F,uL G],uI q] V3 fun e V4=>∃H L M N O P Q,e=rT #[uP H,uA #[uI L,uI M,uI N,uI O,uI P],uI Q]/\Br (Q=0) (qAD [uI L,uI M,uI N,uI O,uI P] 44 V4 fun U V5=>GenK Tryz.prog (.call { callee:=(.builtin .append),args:=#[(.tmp 51),(.tmp 53)],argTypes:=#[68,68] }) 68 (gv [(51,uL C),(53,.slice (qAa U 0) 1 1)]) V5 fun x V6=>∃W,x=uL W/\¬H=none/\¬H=none/\∃X Y,V6.rowp H 8 2=some [uL X,uL Y]/\IR (D+1)/\J0 [uL X,uL Y,uL A,uI B,uL W,uI (D+1)] V6) (R (rT #[.slice none 0 0,uA #[.slice none 0 0,.slice none 0 0],uI Q]) V4))) (R (rT #[uL C,uA #[uL y,uL z],uI 0]) V3))) (R (rT #[.slice none 0 0,uA #[.slice none 0 0,.slice none 0 0],uI r]) V1)
theorem x19{a:ByteArray}{b c d g i j k l o p:Sl}{q:Int}(h:w19 a b c d g i j k l o p q V R):TT 19 #[uD a b c d g i j k,uA #[uL l,uL o],uL p,uI q] V R :=
 qGM Tryz.func19 [] [(9,[5])] false (by kernel_rfl) (by kernel_rfl) h
end
end Go.Proofs
namespace Go.Proofs
open Go Go.Sx
set_option maxRecDepth 100000
set_option linter.unusedVariables false
section
variable{V:Mem}{R:RP}
abbrev w20_0(r:Int)(l:Sl)(o:Sl)(V1:Mem)(p:Sl)(a:ByteArray)(b:Sl)(c:Sl)(d:Sl)(g:Sl)(i:Sl)(j:Sl)(k:Sl)(q:Int)(R:RP):Prop:=Br (r=0) (TT 40 #[uA #[uL l,uL o]] V1 fun e V2=>∃s u,e=rV (uA #[uL s,uL u])/\Lp [uL s,uL u,.slice none 0 0,uI 0,.slice none 0 0,uI 0] V2 fun I n V3=>∀y z A B C D,I n [uL y,uL z,uL A,uI B,uL C,uI D] V3->∀J0:LMP,Nx I n J0->Br (D<(p.n:Int)) (Ix p D (∃F G,V3.rowp p.p (D.toNat*2) 2=some [uS F,uL G]/\TI 35 #[uD a b c d g i j k,uA #[uL y,uL z],uA #[uS F,uL G]] V3 fun H V4=>Br (H=0) (Ix p D (∃L M,V4.rowp p.p (D.toNat*2) 2=some [uS L,uL M]/\TP 36 #[uD a b c d g i j k,uA #[uL y,uL z],uA #[uS L,uL M],uI q] V4 fun N V5=>TT 30 #[uP N] V5 fun e V6=>∃O P Q U W,e=rV (uA #[uI O,uI P,uI Q,uI U,uI W])/\qAD [uI O,uI P,uI Q,uI U,uI W] 44 V6 fun X V7=>GenK Tryz.prog (.call { callee:=(.builtin .append),args:=#[(.tmp 58),(.tmp 61)],argTypes:=#[68,68] }) 68 (gv [(58,uL C),(61,.slice (qAa X 0) 1 1)]) V7 fun x V8=>∃Y,x=uL Y/\¬N=none/\¬N=none/\∃Z a0,V8.rowp N 8 2=some [uL Z,uL a0]/\IR (D+1)/\J0 [uL Z,uL a0,uL A,uI B,uL Y,uI (D+1)] V8)) (R (rT #[.slice none 0 0,uA #[.slice none 0 0,.slice none 0 0],uI H]) V4))) (R (rT #[uL C,uA #[uL y,uL z],uI 0]) V3)) (R (rT #[.slice none 0 0,uA #[.slice none 0 0,.slice none 0 0],uI r]) V1)
def w20(a:ByteArray)(b c d g i j k l o p:Sl)(q:Int):MR:=fun V R=>TI 34 #[uD a b c d g i j k,uA #[uL l,uL o],uI q] V fun r V1=>Br (r=0) (Br (2000<(p.n:Int)) (R (rT #[.slice none 0 0,uA #[.slice none 0 0,.slice none 0 0],uI 4]) V1) (w20_0 r l o V1 p a b c d g i j k q R)) (w20_0 r l o V1 p a b c d g i j k q R)
theorem x20{a:ByteArray}{b c d g i j k l o p:Sl}{q:Int}(h:w20 a b c d g i j k l o p q V R):TT 20 #[uD a b c d g i j k,uA #[uL l,uL o],uL p,uI q] V R :=
 qGM Tryz.func20 [] [(9,[5])] false (by kernel_rfl) (by kernel_rfl) h
def w38(a b:Sl):MR:=fun V R=>TL 66 #[uL a] V fun c V1=>Lp [uL c,.slice none 0 0,uI 0] V1 fun I n V2=>∀d g i,I n [uL d,uL g,uI i] V2->∀J0:LMP,Nx I n J0->Br (i<(b.n:Int)) (Ix b i (∃j k,V2.rowp b.p (i.toNat*2) 2=some [uI j,uL k]/\TL 66 #[uL k] V2 fun l V3=>qAD [uI j,uL l] 102 V3 fun o V4=>GenK Tryz.prog (.call { callee:=(.builtin .append),args:=#[(.tmp 18),(.tmp 25)],argTypes:=#[32,32] }) 32 (gv [(18,uL g),(25,.slice (qAa o 0) 1 1)]) V4 fun x V5=>∃p,x=uL p/\IR (i+1)/\J0 [uL d,uL p,uI (i+1)] V5)) (R (rV (uA #[uL d,uL g])) V2)
theorem x38{a b:Sl}(h:w38 a b V R):TT 38 #[uA #[uL a,uL b]] V R :=
 qGM Tryz.func38 [] [(3,[3])] false (by kernel_rfl) (by kernel_rfl) h
def w40(a b:Sl):MR:=fun V R=>qAD [] 3 V fun c V1=>GenK Tryz.prog (.call { callee:=(.builtin .append),args:=#[(.tmp 5),(.tmp 7)],argTypes:=#[31,31] }) 31 (gv [(5,.slice (qAa c 0) (0:Int).toNat (0:Int).toNat),(7,uL a)]) V1 fun x V2=>∃d,x=uL d/\Lp [uL d,.slice none 0 0,uI 0] V2 fun I n V3=>∀g i j,I n [uL g,uL i,uI j] V3->∀J0:LMP,Nx I n J0->Br (j<(b.n:Int)) (Ix b j (¬(qAa b.p (j.toNat*2))=none/\∃k l,V3.rowp b.p (j.toNat*2) 2=some [uI k,uL l]/\Ix b j (¬(qAa b.p (j.toNat*2))=none/\∃o p,V3.rowp b.p (j.toNat*2) 2=some [uI o,uL p]/\V3.rowp (qAa (qAa b.p (j.toNat*2)) 1) 0 1=some [uL p]/\¬(qAa b.p (j.toNat*2))=none/\Ix b j (V3.rowp (qAa (qAa b.p (j.toNat*2)) 0) 0 1=some [uI k]/\¬(qAa b.p (j.toNat*2))=none/\Ix b j (qAD [] 3 V3 fun q V4=>GenK Tryz.prog (.call { callee:=(.builtin .append),args:=#[(.tmp 25),(.tmp 31)],argTypes:=#[31,31] }) 31 (gv [(25,.slice (qAa q 0) (0:Int).toNat (0:Int).toNat),(31,uL p)]) V4 fun x V5=>∃r,x=uL r/\V5.rowp (qAa (qAa b.p (j.toNat*2)) 0) 0 1=some [uI k]/\¬(qAa b.p (j.toNat*2))=none/\Ix b j (qAD [uI k,uL r] 102 V5 fun s V6=>GenK Tryz.prog (.call { callee:=(.builtin .append),args:=#[(.tmp 18),(.tmp 34)],argTypes:=#[32,32] }) 32 (gv [(18,uL i),(34,.slice (qAa s 0) 1 1)]) V6 fun x V7=>∃u,x=uL u/\IR (j+1)/\J0 [uL g,uL u,uI (j+1)] V7)))))) (R (rV (uA #[uL g,uL i])) V3)
theorem x40{a b:Sl}(h:w40 a b V R):TT 40 #[uA #[uL a,uL b]] V R :=
 qGM Tryz.func40 [] [(3,[3])] false (by kernel_rfl) (by kernel_rfl) h
def w42(a:Option Addr):MR:=fun V R=>¬a=none/\¬a=none/\¬(qAa a 0)=none/\∃b,V.rowp a 2 1=some [uL b]/\¬a=none/\¬a=none/\¬(qAa a 8)=none/\∃c,V.rowp a 8 1=some [uL c]/\TL 71 #[uP a,uL b,uL c] V fun d V1=>¬a=none/\¬a=none/\∃g,V1.rowp a 10 1=some [uL g]/\Lp [uL d,.slice none 0 0,uI 0] V1 fun I n V2=>∀i j k,I n [uL i,uL j,uI k] V2->∀J0:LMP,Nx I n J0->Br (k<(g.n:Int)) (Ix g k (∃l,V2.rowp g.p (k.toNat*1) 1=some [uI l]/\¬a=none/\¬a=none/\¬(qAa a 8)=none/\∃o,V2.rowp a 9 1=some [uL o]/\IR (l-1)/\Ix o (l-1) (∃p q,V2.rowp o.p ((l-1).toNat*2) 2=some [uI p,uL q]/\¬a=none/\¬a=none/\¬(qAa a 0)=none/\∃r,V2.rowp a 1 1=some [uL r]/\Ix r p (¬(qAa r.p (p.toNat*2))=none/\∃s u,V2.rowp r.p (p.toNat*2) 2=some [uS s,uL u]/\TL 71 #[uP a,uL u,uL q] V2 fun y V3=>qAD [uI p,uL y] 102 V3 fun z V4=>GenK Tryz.prog (.call { callee:=(.builtin .append),args:=#[(.tmp 39),(.tmp 57)],argTypes:=#[32,32] }) 32 (gv [(39,uL j),(57,.slice (qAa z 0) 1 1)]) V4 fun x V5=>∃A,x=uL A/\IR (k+1)/\J0 [uL i,uL A,uI (k+1)] V5)))) (R (rV (uA #[uL i,uL j])) V2)
theorem x42{a:Option Addr}(h:w42 a V R):TT 42 #[uP a] V R :=
 qGM Tryz.func42 [] [(3,[3])] false (by kernel_rfl) (by kernel_rfl) h
def w96(a:Option Addr):MR:=fun V R=>GenK Tryz.prog (.makeFunc (.func 131) #[(.tmp 6)] #[]) 173 (gv [(6,uP a)]) V fun x V1=>∃b,K.f.ok b/\x=b/\GenK Tryz.prog (.makeFunc (.func 132) #[(.tmp 8)] #[]) 173 (gv [(8,uP a)]) V1 fun x V2=>∃c,K.f.ok c/\x=c/\GenK Tryz.prog (.makeFunc (.func 133) #[(.tmp 10)] #[]) 173 (gv [(10,uP a)]) V2 fun x V3=>∃d,K.f.ok d/\x=d/\GenK Tryz.prog (.makeFunc (.func 134) #[(.tmp 12)] #[]) 173 (gv [(12,uP a)]) V3 fun x V4=>∃g,K.f.ok g/\x=g/\GenK Tryz.prog (.makeFunc (.func 135) #[(.tmp 14)] #[]) 173 (gv [(14,uP a)]) V4 fun x V5=>∃i,K.f.ok i/\x=i/\qAD [K.cast .f b,K.cast .f c,K.cast .f d,K.cast .f g,K.cast .f i] 173 V5 fun j V6=>Lp [uP none,uI 0] V6 fun I n V7=>∀k l,I n [uP k,uI l] V7->∀J0:LMP,Nx I n J0->Br (l<5) (¬(qAa j 0)=none/\0<=l/\l<5/\∃o,K.f.ok o/\V7.rowp (qAa j 0) (l.toNat*1) 1=some [o]/\∃f first caps,K.cast .f o=.func (.func f) first caps/\CO f/\TT f (first++#[]++caps) V7 fun e V8=>∃p,e=rV (uP p)/\Br (p=none) (IR (l+1)/\J0 [uP k,uI (l+1)] V8) (R (rV (uP p)) V8)) (R (rV (uP none)) V7)
theorem x96{a:Option Addr}(h:w96 a V R):TT 96 #[uP a] V R :=
 qGM Tryz.func96 [16] [] false (by kernel_rfl) (by kernel_rfl) h
def w182(a:Option Addr)(b:Option Nat)(c:Bool)(d:Sl)(g:ByteArray)(i:Option Addr):MR:=fun V R=>Lp [uI 0,uI 0,uI 0] V fun I n V1=>∀j k l,I n [uI j,uI k,uI l] V1->∀J0:LMP,Nx I n J0->Br (l<(d.n:Int)) (Ix d l (∃o p q r s,V1.rowp d.p (l.toNat*5) 5=some [uI o,uS p,uL q,uL r,uL s]/\¬i=none/\∃u,V1.rowp i ((0:Int).toNat*1) 1=some [uI u]/\¬i=none/\∃y,V1.rowp i ((0:Int).toNat*1) 1=some [uI y]/\IR (y+1)/\¬i=none/\StT i 0 [uI (y+1)] V1 fun V2=>TI 228 #[uA #[uP a,uM b,uB c],uA #[uI o,uS p,uL q,uL r,uL s],uS g] V2 fun z V3=>Br (z=0) (qAD [uL r,uL s] 77 V3 fun A V4=>Lp [uI j,uI k,uI 0] V4 fun I n V5=>∀B C D,I n [uI B,uI C,uI D] V5->∀J1:LMP,Nx I n J1->Br (D<2) (¬(qAa A 0)=none/\0<=D/\D<2/\∃F,V5.rowp (qAa A 0) (D.toNat*1) 1=some [uL F]/\TT 182 #[uA #[uP a,uM b,uB c],uL F,uS g,uP i] V5 fun e V6=>∃G H,e=rT #[uI G,uI H]/\Br (H=0) (IR (D+1)/\J1 [uI B,uI C,uI (D+1)] V6) (R (rT #[uI G,uI H]) V6)) (IR (l+1)/\J0 [uI B,uI C,uI (l+1)] V5)) (R (rT #[uI u,uI z]) V3))) (R (rT #[uI 0,uI 0]) V1)
theorem x182{a:Option Addr}{b:Option Nat}{c:Bool}{d:Sl}{g:ByteArray}{i:Option Addr}(h:w182 a b c d g i V R):TT 182 #[uA #[uP a,uM b,uB c],uL d,uS g,uP i] V R :=
 qGM Tryz.func182 [44] [] false (by kernel_rfl) (by kernel_rfl) h
end
end Go.Proofs
namespace Go.Proofs
open Go Go.Sx
abbrev PP(f:FuncId)(args:List Value)(V:Mem)(v:Value):Prop:=Pur Tryz.prog f args V v
def qCj(c:Int):Bool:=decide (97<=c/\c<=122∨65<=c/\c<=90)
def qFv(c:Int):Bool:=decide (48<=c/\c<=57)
def qEx(c:Int):Bool:=qCj c||qFv c||decide (c=95)
theorem c113{V:Mem}{c:Int}:PP 113 [.int .u8 c] V (.bool (qCj c)):=by
 refine x113 ?_
 unfold w113 qCj
 grind
theorem c147{V:Mem}{c:Int}:PP 147 [.int .u8 c] V (.bool (qFv c)):=by
 refine x147 ?_
 unfold w147 qFv
 grind
theorem c114{V:Mem}{c:Int}:PP 114 [.int .u8 c] V (.bool (qEx c)):=by
 refine x114 ?_
 unfold w114 qEx
 refine c113.call ⟨_,rfl,fun h=>?_,fun h=>?_⟩
 ·simp[h]
 ·refine c147.call ⟨_,rfl,fun h=>?_,fun h=>?_⟩ <;> simp_all
def cls(c:Int):Int:=if c=32∨c=9∨c=13∨c=10 then 1 else if qCj c then 2 else if qFv c then 3 else if c=95 then 4 else 0
theorem c103{V:Mem}{c:Int}:PP 103 [.int .u8 c] V (.int .i64 (cls c)):=by
 refine x103 ?_
 unfold w103
 have key:∀n:Int,cls c=n->(Ending.returned (.int .i64 n)=Ending.returned (.int .i64 (cls c))/\V=V):=fun n h=>by rw[h];exact⟨rfl,rfl⟩
 unfold cls qCj qFv at key
 repeat' (first|intro _|apply And.intro)
 all_goals first|rfl | (refine(key _ ?_).1;grind)
theorem cls_two(c:Int):cls c=2↔qCj c=true:=by
 unfold cls qCj qFv;grind
theorem cls_word(c:Int):cls c<2↔qEx c=false:=by
 unfold qEx cls qCj qFv;grind
def qJK:List ByteArray:=[[116,121,112,101],[118,97,114],[112,114,111,99],[108,111,99,97,108],[109,101,97,115,117,114,101],[105,110,118,97,114,105,97,110,116],[112,111,116,101,110,116,105,97,108],[98,111,117,110,100],[105,102],[101,108,115,101],[119,104,105,108,101],[114,101,116,117,114,110],[110,101,119],[110,105,108],[116,114,117,101],[102,97,108,115,101],[97,110,100],[111,114],[110,111,116],[109,97,120],[109,105,110],[108,111,103],[105,110,116],[98,111,111,108],[116,104,105,115],[115,111,114,116],[111,112],[114,117,108,101],[115,112,101,99],[100,101,115,99],[115,99,114,105,112,116]].map qAm
def hasS(xs:List ByteArray)(s:ByteArray):Bool:=xs.any fun x=>decide (x=s)
def isKw(s:ByteArray):Bool:=hasS qJK s
def qAS(s:ByteArray):Bool:=decide (s.size≠0/\s.size<=40/\qCj (qBe s 0)=true/\(∀i:Nat,i<s.size->qEx (qBe s i)=true))&&!isKw s
theorem c148{V:Mem}{l:Sl}{xs:List ByteArray}{s:ByteArray}(h:qAd V l 1 (xs.map fun x=>[vS x])):PP 148 [l.v,.string s] V (.bool (hasS xs s)):=by
 refine x148 ?_
 unfold w148
 refine qAC xs.length (fun i V1=>V1=V/\∀j:Nat,j<i->xs[j]?≠some s) ⟨rfl,by simp⟩ ?_
 rintro i b _ J hi ⟨rfl,hj⟩ hJ
 refine⟨fun hlt=>?_,fun hge=>?_⟩
 ·obtain⟨x,hm,hx,hd,hl,hp,h0,hrow⟩:=h.get hlt
  refine⟨hp,h0,hlt,_,hrow,fun e=>?_,fun e=>⟨h.succ hlt,hJ hl _ _ ⟨rfl,fun j hj'=>?_⟩⟩⟩
  ·have:hasS xs s=true:=List.any_eq_true.2 ⟨x,hm,decide_eq_true e⟩
   rw[this];exact⟨rfl,rfl⟩
  ·rcases Nat.lt_succ_iff_lt_or_eq.1 hj' with h'|rfl
   ·exact hj j h'
   ·rw[hx];simpa using e
 ·have hn:=(h.done hge).2
  have:s ∉ xs:=fun hm=>by
   obtain⟨j,hjl,e⟩:=List.mem_iff_getElem.1 hm
   exact hj j (by omega) (by rw[List.getElem?_eq_getElem hjl,e])
  have:hasS xs s=false:=by
   rw[hasS,List.any_eq_false]
   intro x hx e
   exact this (of_decide_eq_true e ▸ hx)
  rw[this];exact⟨rfl,rfl⟩
theorem c115{V:Mem}{s:ByteArray}:PP 115 [.string s] V (.bool (isKw s)):=by
 refine Pur.mk (x115 ?_)
 unfold w115
 refine x149 ?_
 unfold w149
 intro b hb
 refine⟨⟨some ⟨b,0,none⟩,31,31⟩,rfl,?_⟩
 have hrows:∀V0:Mem,qAd (V0.set b (.cells ((qJK.map Value.string).toArray) 9 (0,0))) ⟨some ⟨b,0,none⟩,31,31⟩ 1 (qJK.map fun x=>[vS x]) :=
  fun V0=>qAd.cells (xs:=qJK) (row:=fun x=>[vS x]) mss rfl (fun _=>rfl) rfl (Nat.le_of_ble_eq_true rfl)
 refine(c148 (hrows _)).call ⟨_,rfl,rfl,Mem.sub_new hb _⟩
theorem c86{V:Mem}{s:ByteArray}:PP 86 [.string s] V (.bool (qAS s)):=by
 refine x86 ?_
 unfold w86
 refine⟨fun h=>?_,fun h=>⟨fun h1=>?_,fun h1=>⟨by omega,c113.call ⟨_,rfl,fun h2=>?_,fun h2=>?_⟩⟩⟩⟩
 ·have:s.size=0:=by omega
  simp[qAS,this]
 ·have:¬s.size<=40:=by omega
  simp[qAS,this]
 ·refine qAC s.size (fun i V1=>V1=V/\∀j:Nat,j<i->qEx (qBe s j)=true) ⟨rfl,by simp⟩ ?_
  rintro i b _ J hi ⟨rfl,hj⟩ hJ
  refine⟨fun hlt=>⟨by omega,c114.call ⟨_,rfl,fun hw=>⟨⟨by omega,by omega⟩,hJ (by omega) _ _ ⟨rfl,fun j hj'=>?_⟩⟩,fun hw=>?_⟩⟩,fun hge=>?_⟩
  ·rcases Nat.lt_succ_iff_lt_or_eq.1 hj' with h'|rfl
   ·exact hj j h'
   ·exact hw
  ·have:¬ ∀i:Nat,i<s.size->qEx (qBe s i)=true:=fun hf=>hw (hf i (by omega))
   simp[qAS,this]
  ·refine c115.call ⟨_,rfl,?_⟩
   have a1:s.size≠0:=by omega
   have a2:s.size<=40:=by omega
   have a3:∀i:Nat,i<s.size->qEx (qBe s i)=true:=fun j hj'=>hj j (by omega)
   have:qAS s=!isKw s:=by unfold qAS;rw[decide_eq_true ⟨a1,a2,h2,a3⟩];simp
   rw[this]
   exact⟨rfl,rfl⟩
 ·have:qCj (qBe s 0)=false:=by simpa using h2
  simp[qAS,this]
end Go.Proofs
namespace Go.Proofs
open Go Go.Sx
attribute [local irreducible] Go.Sx.Tri
def qBf(s:ByteArray):List Value:=[vS s]
def strV(s:ByteArray):Value:=vS s
section
variable{α:Type}
def IdxP(f:FuncId)(row:α->List Value)(v:α->Value)(sz:Nat):Prop:=∀{V:Mem} {l:Sl} {xs:List α} {g:Nat} {first caps:List Value} (hg:qIW g) (St Hit:Nat->Mem->Prop) (hrows:∀i V1,St i V1->qAd V1 l sz (xs.map row)) (h0:St 0 V)
  (hp:∀i x V1,xs[i]?=some x->St i V1->Tri Tryz.prog g (first.toArray++#[v x]++caps.toArray) V1 fun e V2=>∃b:Bool,e=.returned (.bool b)/\(b=true->Hit i V2)/\(b=false->St (i+1) V2)),
  Tri Tryz.prog f #[l.v,.func (.func g) first.toArray caps.toArray] V fun e V'=>(∃i:Nat,e=.returned (.int .i64 i)/\Hit i V')∨(e=.returned (.int .i64 (-1))/\St xs.length V')
def ConP(f:FuncId)(row:α->List Value)(v:α->Value)(sz:Nat):Prop:=∀{V:Mem} {l:Sl} {xs:List α} {g:Nat} {first caps:List Value} (hg:qIW g) (St Hit:Nat->Mem->Prop) (hrows:∀i V1,St i V1->qAd V1 l sz (xs.map row)) (h0:St 0 V)
  (hp:∀i x V1,xs[i]?=some x->St i V1->Tri Tryz.prog g (first.toArray++#[v x]++caps.toArray) V1 fun e V2=>∃b:Bool,e=.returned (.bool b)/\(b=true->Hit i V2)/\(b=false->St (i+1) V2)),
  Tri Tryz.prog f #[l.v,.func (.func g) first.toArray caps.toArray] V fun e V'=>(∃i:Nat,e=.returned (.bool true)/\Hit i V')∨(e=.returned (.bool false)/\St xs.length V')
def ConC(f:FuncId)(row:α->List Value)(v:α->Value)(sz:Nat):Prop:=∀{V:Mem} {l:Sl} {xs:List α} {g:Nat} {first caps:List Value} (h:qAd V l sz (xs.map row)) (hg:qIW g) (p:α->Bool) (hp:∀x∈xs,PP g (first++[v x]++caps) V (.bool (p x))),PP f [l.v,.func (.func g) first.toArray caps.toArray] V (.bool (xs.any p))
variable{f fc:FuncId}{row:α->List Value}{v:α->Value}{sz:Nat}
theorem conG(h:IdxP f row v sz)(hx:∀{l:Sl} {c:Value} {V:Mem} {R:RP},(TT f #[uL l,K.cast .f c] V fun e V1=>∃v2,e=rV (uI v2)/\R (rV (uB (decide (0<=v2)))) V1)->TT fc #[uL l,K.cast .f c] V R):ConP fc row v sz:=by
 intro V l xs g first caps hg St Hit hrows h0 hp
 refine hx (c:=.func (.func g) first.toArray caps.toArray) (Tri.mono (h hg St Hit hrows h0 hp) ?_)
 rintro e V' (⟨i,rfl,h⟩|⟨rfl,h⟩)
 ·refine⟨_,rfl,.inl ⟨i,?_,h⟩⟩
  have:(0:Int)<=(i:Int):=by omega
  simp[this]
 ·exact⟨_,rfl,.inr ⟨rfl,h⟩⟩
theorem conC(H:ConP fc row v sz):ConC fc row v sz:=by
 intro V l xs g first caps h hg p hp
 refine Tri.mono (H hg (fun i V1=>V1=V/\∀j x,j<i->xs[j]?=some x->p x=false) (fun i V1=>V1=V/\∃x∈xs,p x=true) (fun i V1 hs=>hs.1 ▸ h) ⟨rfl,fun j x hj=>absurd hj (Nat.not_lt_zero _)⟩ ?_) ?_
 ·rintro i x _ hx ⟨rfl,hs⟩
  have hm:x∈xs:=List.mem_of_getElem? hx
  have:=(hp x hm).callv (q:=fun e V2=>∃b:Bool,e=.returned (.bool b)/\(b=true->V2=_/\∃x∈xs,p x=true)/\(b=false->V2=_/\∀j x,j<i+1->xs[j]?=some x->p x=false)) ⟨_,rfl,fun hb=>⟨rfl,x,hm,hb⟩,fun hb=>⟨rfl,fun j y hj hy=>by
   rcases Nat.lt_succ_iff_lt_or_eq.1 hj with h'|rfl
   ·exact hs j y h' hy
   ·rw[hx]at hy;cases hy;exact hb⟩⟩
  exact this
 ·rintro e V' (⟨i,rfl,rfl,x,hm,hx⟩|⟨rfl,rfl,hs⟩)
  ·rw[List.any_eq_true.2 ⟨x,hm,hx⟩];exact⟨rfl,rfl⟩
  ·have:xs.any p=false:=List.any_eq_false.2 fun x hm hx=>by
    obtain⟨j,hj,rfl⟩:=List.mem_iff_getElem.1 hm
    rw[hs j _ hj (List.getElem?_eq_getElem hj)]at hx;cases hx
   rw[this];exact⟨rfl,rfl⟩
end
theorem g82:IdxP 82 Fld.row Fld.v 2:=by
 intro V l xs g first caps hg St Hit hrows h0 hp
 refine x82 (a:=l) (b:=.func (.func g) first.toArray caps.toArray) ?_
 unfold w82
 refine qAC xs.length St h0 ?_
 intro i b V1 J hi hs hJ
 have h:=hrows i V1 hs
 refine⟨fun hlt=>?_,fun hge=>?_⟩
 ·obtain⟨x,hm,hx,hd,hl,hp0,hz,hrow⟩:=h.get hlt
  refine⟨hp0,hz,hlt,_,_,hrow,g,_,_,rfl,hg,Tri.mono (hp i x V1 hx hs) ?_⟩
  rintro e V2 ⟨b,rfl,h1,h2⟩
  exact⟨b,rfl,fun hb=>.inl ⟨i,rfl,h1 hb⟩,fun hb=>⟨h.succ hlt,hJ hl _ _ (h2 (by simpa using hb))⟩⟩
 ·have e:i=xs.length:=by have:=(h.done hge).2;omega
  exact .inr ⟨rfl,e ▸ hs⟩
theorem g50:ConP 50 Fld.row Fld.v 2:=conG g82 x50
theorem c50:ConC 50 Fld.row Fld.v 2:=conC g50
theorem g249:IdxP 249 Iv.row Iv.v 6:=by
 intro V l xs g first caps hg St Hit hrows h0 hp
 refine x249 (a:=l) (b:=.func (.func g) first.toArray caps.toArray) ?_
 unfold w249
 refine qAC xs.length St h0 ?_
 intro i b V1 J hi hs hJ
 have h:=hrows i V1 hs
 refine⟨fun hlt=>?_,fun hge=>?_⟩
 ·obtain⟨x,hm,hx,hd,hl,hp0,hz,hrow⟩:=h.get hlt
  refine⟨hp0,hz,hlt,_,_,_,_,_,_,hrow,g,_,_,rfl,hg,Tri.mono (hp i x V1 hx hs) ?_⟩
  rintro e V2 ⟨b,rfl,h1,h2⟩
  exact⟨b,rfl,fun hb=>.inl ⟨i,rfl,h1 hb⟩,fun hb=>⟨h.succ hlt,hJ hl _ _ (h2 (by simpa using hb))⟩⟩
 ·have e:i=xs.length:=by have:=(h.done hge).2;omega
  exact .inr ⟨rfl,e ▸ hs⟩
theorem g224:ConP 224 Iv.row Iv.v 6:=conG g249 x224
theorem c224:ConC 224 Iv.row Iv.v 6:=conC g224
theorem g83:IdxP 83 Ty.row Ty.v 2:=by
 intro V l xs g first caps hg St Hit hrows h0 hp
 refine x83 (a:=l) (b:=.func (.func g) first.toArray caps.toArray) ?_
 unfold w83
 refine qAC xs.length St h0 ?_
 intro i b V1 J hi hs hJ
 have h:=hrows i V1 hs
 refine⟨fun hlt=>?_,fun hge=>?_⟩
 ·obtain⟨x,hm,hx,hd,hl,hp0,hz,hrow⟩:=h.get hlt
  refine⟨hp0,hz,hlt,_,_,hrow,g,_,_,rfl,hg,Tri.mono (hp i x V1 hx hs) ?_⟩
  rintro e V2 ⟨b,rfl,h1,h2⟩
  exact⟨b,rfl,fun hb=>.inl ⟨i,rfl,h1 hb⟩,fun hb=>⟨h.succ hlt,hJ hl _ _ (h2 (by simpa using hb))⟩⟩
 ·have e:i=xs.length:=by have:=(h.done hge).2;omega
  exact .inr ⟨rfl,e ▸ hs⟩
theorem g54:ConP 54 Ty.row Ty.v 2:=conG g83 x54
theorem c54:ConC 54 Ty.row Ty.v 2:=conC g54
theorem g111:IdxP 111 Pr.row Pr.v 5:=by
 intro V l xs g first caps hg St Hit hrows h0 hp
 refine x111 (a:=l) (b:=.func (.func g) first.toArray caps.toArray) ?_
 unfold w111
 refine qAC xs.length St h0 ?_
 intro i b V1 J hi hs hJ
 have h:=hrows i V1 hs
 refine⟨fun hlt=>?_,fun hge=>?_⟩
 ·obtain⟨x,hm,hx,hd,hl,hp0,hz,hrow⟩:=h.get hlt
  refine⟨hp0,hz,hlt,_,_,_,_,_,hrow,g,_,_,rfl,hg,Tri.mono (hp i x V1 hx hs) ?_⟩
  rintro e V2 ⟨b,rfl,h1,h2⟩
  exact⟨b,rfl,fun hb=>.inl ⟨i,rfl,h1 hb⟩,fun hb=>⟨h.succ hlt,hJ hl _ _ (h2 (by simpa using hb))⟩⟩
 ·have e:i=xs.length:=by have:=(h.done hge).2;omega
  exact .inr ⟨rfl,e ▸ hs⟩
theorem g79:ConP 79 Pr.row Pr.v 5:=conG g111 x79
theorem c79:ConC 79 Pr.row Pr.v 5:=conC g79
theorem g142:IdxP 142 Bd.row Bd.v 5:=by
 intro V l xs g first caps hg St Hit hrows h0 hp
 refine x142 (a:=l) (b:=.func (.func g) first.toArray caps.toArray) ?_
 unfold w142
 refine qAC xs.length St h0 ?_
 intro i b V1 J hi hs hJ
 have h:=hrows i V1 hs
 refine⟨fun hlt=>?_,fun hge=>?_⟩
 ·obtain⟨x,hm,hx,hd,hl,hp0,hz,hrow⟩:=h.get hlt
  refine⟨hp0,hz,hlt,_,_,_,_,_,hrow,g,_,_,rfl,hg,Tri.mono (hp i x V1 hx hs) ?_⟩
  rintro e V2 ⟨b,rfl,h1,h2⟩
  exact⟨b,rfl,fun hb=>.inl ⟨i,rfl,h1 hb⟩,fun hb=>⟨h.succ hlt,hJ hl _ _ (h2 (by simpa using hb))⟩⟩
 ·have e:i=xs.length:=by have:=(h.done hge).2;omega
  exact .inr ⟨rfl,e ▸ hs⟩
theorem g109:ConP 109 Bd.row Bd.v 5:=conG g142 x109
theorem c109:ConC 109 Bd.row Bd.v 5:=conC g109
theorem g198:IdxP 198 E.row E.v 4:=by
 intro V l xs g first caps hg St Hit hrows h0 hp
 refine x198 (a:=l) (b:=.func (.func g) first.toArray caps.toArray) ?_
 unfold w198
 refine qAC xs.length St h0 ?_
 intro i b V1 J hi hs hJ
 have h:=hrows i V1 hs
 refine⟨fun hlt=>?_,fun hge=>?_⟩
 ·obtain⟨x,hm,hx,hd,hl,hp0,hz,hrow⟩:=h.get hlt
  refine⟨hp0,hz,hlt,_,_,_,_,hrow,g,_,_,rfl,hg,Tri.mono (hp i x V1 hx hs) ?_⟩
  rintro e V2 ⟨b,rfl,h1,h2⟩
  exact⟨b,rfl,fun hb=>.inl ⟨i,rfl,h1 hb⟩,fun hb=>⟨h.succ hlt,hJ hl _ _ (h2 (by simpa using hb))⟩⟩
 ·have e:i=xs.length:=by have:=(h.done hge).2;omega
  exact .inr ⟨rfl,e ▸ hs⟩
theorem g145:ConP 145 E.row E.v 4:=conG g198 x145
theorem c145:ConC 145 E.row E.v 4:=conC g145
theorem g248:IdxP 248 Ms.row Ms.v 7:=by
 intro V l xs g first caps hg St Hit hrows h0 hp
 refine x248 (a:=l) (b:=.func (.func g) first.toArray caps.toArray) ?_
 unfold w248
 refine qAC xs.length St h0 ?_
 intro i b V1 J hi hs hJ
 have h:=hrows i V1 hs
 refine⟨fun hlt=>?_,fun hge=>?_⟩
 ·obtain⟨x,hm,hx,hd,hl,hp0,hz,hrow⟩:=h.get hlt
  refine⟨hp0,hz,hlt,_,_,_,_,_,_,_,hrow,g,_,_,rfl,hg,Tri.mono (hp i x V1 hx hs) ?_⟩
  rintro e V2 ⟨b,rfl,h1,h2⟩
  exact⟨b,rfl,fun hb=>.inl ⟨i,rfl,h1 hb⟩,fun hb=>⟨h.succ hlt,hJ hl _ _ (h2 (by simpa using hb))⟩⟩
 ·have e:i=xs.length:=by have:=(h.done hge).2;omega
  exact .inr ⟨rfl,e ▸ hs⟩
theorem g222:ConP 222 Ms.row Ms.v 7:=conG g248 x222
theorem c222:ConC 222 Ms.row Ms.v 7:=conC g222
theorem g268:IdxP 268 qBf strV 1:=by
 intro V l xs g first caps hg St Hit hrows h0 hp
 refine x268 (a:=l) (b:=.func (.func g) first.toArray caps.toArray) ?_
 unfold w268
 refine qAC xs.length St h0 ?_
 intro i b V1 J hi hs hJ
 have h:=hrows i V1 hs
 refine⟨fun hlt=>?_,fun hge=>?_⟩
 ·obtain⟨x,hm,hx,hd,hl,hp0,hz,hrow⟩:=h.get hlt
  refine⟨hp0,hz,hlt,_,hrow,g,_,_,rfl,hg,Tri.mono (hp i x V1 hx hs) ?_⟩
  rintro e V2 ⟨b,rfl,h1,h2⟩
  exact⟨b,rfl,fun hb=>.inl ⟨i,rfl,h1 hb⟩,fun hb=>⟨h.succ hlt,hJ hl _ _ (h2 (by simpa using hb))⟩⟩
 ·have e:i=xs.length:=by have:=(h.done hge).2;omega
  exact .inr ⟨rfl,e ▸ hs⟩
theorem g263:ConP 263 qBf strV 1:=conG g268 x263
theorem c263:ConC 263 qBf strV 1:=conC g263
end Go.Proofs
