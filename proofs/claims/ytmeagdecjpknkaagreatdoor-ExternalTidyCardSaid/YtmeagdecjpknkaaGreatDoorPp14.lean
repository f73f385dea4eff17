/- Part 14 of a proof of a law of this seat: no statement of the seat is proved here. -/
import Derived.Test.YtmeagdecjpknkaaGreatDoorPp04
import Derived.Test.YtmeagdecjpknkaaGreatDoorPp13
import Derived.Test.YtmeagdecjpknkaaGreatDoorPp11
import Derived.Test.YtmeagdecjpknkaaGreatDoorPp12
set_option linter.unusedVariables false
set_option linter.unusedSimpArgs false
namespace Go.Proofs
open Go Go.Sx
set_option maxRecDepth 100000
set_option linter.unusedVariables false
section
variable{V:Mem}{R:RP}
theorem qBs{H:qHl}{N:Nat}{cs:List Code}(slots:List (Nat×T)){outs:List Nat}(ρ:List Value){ins:List (Nat×Value)}(hins:ins=slots.map fun x=>(x.1,x.2.ev ρ id)){V:Mem}{R:List Value->Mem->Prop}{q:Prop}
  (hq:q=DT Tryz.prog {} (OV R) (segT Tryz.prog fs { H with N:=N } cs slots ρ.length outs) [] ρ V) (h:q):Seg Tryz.prog N cs ins outs V R :=
 seg_sound (H:=H) qIj qLb rfl ρ rfl hins hq h
theorem qAz{H:qHl}{N:Nat}{ops:Array Oper}{k m:Nat}(slots:List (Nat×T)){outs:List Nat}(ρ:List Value){ins:List (Nat×Value)}(hins:ins=slots.map fun x=>(x.1,x.2.ev ρ id)){V:Mem}{R:List Value->Mem->Prop}{q:Prop}
  (hq:q=DT Tryz.prog {} (OV R) (segOT Tryz.prog fs { H with N:=N } ops k m slots ρ.length outs) [] ρ V) (h:q):qDd Tryz.prog N ops k m ins outs V R :=
 sego_sound (H:=H) qIj rfl ρ rfl hins hq h
noncomputable def c311a:List Code:=((qCu (qAp Tryz.f311) []).drop 0).take 1
def w311a(a:Value)(b:Option Addr):MR:=fun V R=>∃c,V.rowp b ((0:Int).toNat*1) 1=some [uL c]/\IR ((c.n:Int)-1)/\R (rT #[K.cast .f a,uP b,uI ((c.n:Int)-1)]) V
theorem s311a{a:Value}{b:Option Addr}{V:Mem}{R:List Value->Mem->Prop}(h:w311a a b V (OV R)):Seg Tryz.prog 19 c311a [(0,K.cast .f a),(1,uP b)] [0,1,3] V R :=
 qBs (H:=hK 19) [(0,(.var .f 0)),(1,(.var .p 1))] [a,uP b] rfl (by kernel_rfl) h
noncomputable def c311b:List Code:=((qCu (qAp Tryz.f311) [1,0,0,0]).drop 0).take 1
def w311b(a:Value)(b:Option Addr)(c:Int):MR:=fun V R=>R (rT #[K.cast .f a,uP b,uI c,uB (decide (0<=c))]) V
theorem s311b{a:Value}{b:Option Addr}{c:Int}{V:Mem}{R:List Value->Mem->Prop}(h:w311b a b c V (OV R)):Seg Tryz.prog 19 c311b [(0,K.cast .f a),(1,uP b),(3,uI c)] [0,1,3,8] V R :=
 qBs (H:=hK 19) [(0,(.var .f 0)),(1,(.var .p 1)),(3,(.var (.i .i64) 2))] [a,uP b,uI c] rfl (by kernel_rfl) h
noncomputable def c311c:Array Oper:=qED ((qCu (qAp Tryz.f311) [1,0,0,0,2,0]).getD 0 .skip)
def w311c(a:Value)(b:Option Addr)(c:Int):MR:=fun V R=>∃d,V.rowp b ((0:Int).toNat*1) 1=some [uL d]/\Ix d c (∃g i,V.rowp d.p (c.toNat*2) 2=some [uS g,uS i]/\R (rT #[K.cast .f a,uP b,uI c,K.cast .f a,uI c,uA #[uS g,uS i]]) V)
theorem s311c{a:Value}{b:Option Addr}{c:Int}{V:Mem}{R:List Value->Mem->Prop}(h:w311c a b c V (OV R)):qDd Tryz.prog 19 c311c 0 6 [(0,K.cast .f a),(1,uP b),(3,uI c)] [0,1,3,11,12,16] V R :=
 qAz (H:=hK 19) [(0,(.var .f 0)),(1,(.var .p 1)),(3,(.var (.i .i64) 2))] [a,uP b,uI c] rfl (by kernel_rfl) h
noncomputable def c311d:Array Oper:=qED ((qCu (qAp Tryz.f311) [1,0,0,0,2,0]).getD 0 .skip)
def w311d(a:Value)(b:Option Addr)(c:Int)(d:Bool):MR:=fun V R=>R (rT #[K.cast .f a,uP b,uI c,uB (!d)]) V
theorem s311d{a:Value}{b:Option Addr}{c:Int}{d:Bool}{V:Mem}{R:List Value->Mem->Prop}(h:w311d a b c d V (OV R)):qDd Tryz.prog 19 c311d 7 1 [(0,K.cast .f a),(1,uP b),(3,uI c),(17,uB d)] [0,1,3,18] V R :=
 qAz (H:=hK 19) [(0,(.var .f 0)),(1,(.var .p 1)),(3,(.var (.i .i64) 2)),(17,(.var .b 3))] [a,uP b,uI c,uB d] rfl (by kernel_rfl) h
noncomputable def c311e:List Code:=((qCu (qAp Tryz.f311) [1,0,0,0]).drop 3).take 1
def w311e(a:Value)(b:Option Addr)(c:Int):MR:=fun V R=>IR (c-1)/\R (rT #[K.cast .f a,uP b,uI (c-1)]) V
theorem s311e{a:Value}{b:Option Addr}{c:Int}{V:Mem}{R:List Value->Mem->Prop}(h:w311e a b c V (OV R)):Seg Tryz.prog 19 c311e [(0,K.cast .f a),(1,uP b),(3,uI c)] [0,1,3] V R :=
 qBs (H:=hK 19) [(0,(.var .f 0)),(1,(.var .p 1)),(3,(.var (.i .i64) 2))] [a,uP b,uI c] rfl (by kernel_rfl) h
noncomputable def c218a:List Code:=((qCu (qAp Tryz.f218) []).drop 0).take 1
def w218a(a:Value)(b:Option Addr):MR:=fun V R=>∃c,V.rowp b ((0:Int).toNat*1) 1=some [uL c]/\IR ((c.n:Int)-1)/\R (rT #[K.cast .f a,uP b,uI ((c.n:Int)-1)]) V
theorem s218a{a:Value}{b:Option Addr}{V:Mem}{R:List Value->Mem->Prop}(h:w218a a b V (OV R)):Seg Tryz.prog 19 c218a [(0,K.cast .f a),(1,uP b)] [0,1,3] V R :=
 qBs (H:=hK 19) [(0,(.var .f 0)),(1,(.var .p 1))] [a,uP b] rfl (by kernel_rfl) h
noncomputable def c218b:List Code:=((qCu (qAp Tryz.f218) [1,0,0,0]).drop 0).take 1
def w218b(a:Value)(b:Option Addr)(c:Int):MR:=fun V R=>R (rT #[K.cast .f a,uP b,uI c,uB (decide (0<=c))]) V
theorem s218b{a:Value}{b:Option Addr}{c:Int}{V:Mem}{R:List Value->Mem->Prop}(h:w218b a b c V (OV R)):Seg Tryz.prog 19 c218b [(0,K.cast .f a),(1,uP b),(3,uI c)] [0,1,3,8] V R :=
 qBs (H:=hK 19) [(0,(.var .f 0)),(1,(.var .p 1)),(3,(.var (.i .i64) 2))] [a,uP b,uI c] rfl (by kernel_rfl) h
noncomputable def c218c:Array Oper:=qED ((qCu (qAp Tryz.f218) [1,0,0,0,2,0]).getD 0 .skip)
def w218c(a:Value)(b:Option Addr)(c:Int):MR:=fun V R=>∃d,V.rowp b ((0:Int).toNat*1) 1=some [uL d]/\Ix d c (∃g i,V.rowp d.p (c.toNat*2) 2=some [uS g,uL i]/\R (rT #[K.cast .f a,uP b,uI c,K.cast .f a,uI c,uA #[uS g,uL i]]) V)
theorem s218c{a:Value}{b:Option Addr}{c:Int}{V:Mem}{R:List Value->Mem->Prop}(h:w218c a b c V (OV R)):qDd Tryz.prog 19 c218c 0 6 [(0,K.cast .f a),(1,uP b),(3,uI c)] [0,1,3,11,12,16] V R :=
 qAz (H:=hK 19) [(0,(.var .f 0)),(1,(.var .p 1)),(3,(.var (.i .i64) 2))] [a,uP b,uI c] rfl (by kernel_rfl) h
noncomputable def c218d:Array Oper:=qED ((qCu (qAp Tryz.f218) [1,0,0,0,2,0]).getD 0 .skip)
def w218d(a:Value)(b:Option Addr)(c:Int)(d:Bool):MR:=fun V R=>R (rT #[K.cast .f a,uP b,uI c,uB (!d)]) V
theorem s218d{a:Value}{b:Option Addr}{c:Int}{d:Bool}{V:Mem}{R:List Value->Mem->Prop}(h:w218d a b c d V (OV R)):qDd Tryz.prog 19 c218d 7 1 [(0,K.cast .f a),(1,uP b),(3,uI c),(17,uB d)] [0,1,3,18] V R :=
 qAz (H:=hK 19) [(0,(.var .f 0)),(1,(.var .p 1)),(3,(.var (.i .i64) 2)),(17,(.var .b 3))] [a,uP b,uI c,uB d] rfl (by kernel_rfl) h
noncomputable def c218e:List Code:=((qCu (qAp Tryz.f218) [1,0,0,0]).drop 3).take 1
def w218e(a:Value)(b:Option Addr)(c:Int):MR:=fun V R=>IR (c-1)/\R (rT #[K.cast .f a,uP b,uI (c-1)]) V
theorem s218e{a:Value}{b:Option Addr}{c:Int}{V:Mem}{R:List Value->Mem->Prop}(h:w218e a b c V (OV R)):Seg Tryz.prog 19 c218e [(0,K.cast .f a),(1,uP b),(3,uI c)] [0,1,3] V R :=
 qBs (H:=hK 19) [(0,(.var .f 0)),(1,(.var .p 1)),(3,(.var (.i .i64) 2))] [a,uP b,uI c] rfl (by kernel_rfl) h
noncomputable def c219a:List Code:=((qCu (qAp Tryz.f219) []).drop 0).take 1
def w219a(a:Value)(b:Option Addr):MR:=fun V R=>∃c,V.rowp b ((0:Int).toNat*1) 1=some [uL c]/\IR ((c.n:Int)-1)/\R (rT #[K.cast .f a,uP b,uI ((c.n:Int)-1)]) V
theorem s219a{a:Value}{b:Option Addr}{V:Mem}{R:List Value->Mem->Prop}(h:w219a a b V (OV R)):Seg Tryz.prog 19 c219a [(0,K.cast .f a),(1,uP b)] [0,1,3] V R :=
 qBs (H:=hK 19) [(0,(.var .f 0)),(1,(.var .p 1))] [a,uP b] rfl (by kernel_rfl) h
noncomputable def c219b:List Code:=((qCu (qAp Tryz.f219) [1,0,0,0]).drop 0).take 1
def w219b(a:Value)(b:Option Addr)(c:Int):MR:=fun V R=>R (rT #[K.cast .f a,uP b,uI c,uB (decide (0<=c))]) V
theorem s219b{a:Value}{b:Option Addr}{c:Int}{V:Mem}{R:List Value->Mem->Prop}(h:w219b a b c V (OV R)):Seg Tryz.prog 19 c219b [(0,K.cast .f a),(1,uP b),(3,uI c)] [0,1,3,8] V R :=
 qBs (H:=hK 19) [(0,(.var .f 0)),(1,(.var .p 1)),(3,(.var (.i .i64) 2))] [a,uP b,uI c] rfl (by kernel_rfl) h
noncomputable def c219c:Array Oper:=qED ((qCu (qAp Tryz.f219) [1,0,0,0,2,0]).getD 0 .skip)
def w219c(a:Value)(b:Option Addr)(c:Int):MR:=fun V R=>∃d,V.rowp b ((0:Int).toNat*1) 1=some [uL d]/\Ix d c (∃g i j k l,V.rowp d.p (c.toNat*5) 5=some [uS g,uL i,uS j,uL k,uL l]/\R (rT #[K.cast .f a,uP b,uI c,K.cast .f a,uI c,uA #[uS g,uL i,uS j,uL k,uL l]]) V)
theorem s219c{a:Value}{b:Option Addr}{c:Int}{V:Mem}{R:List Value->Mem->Prop}(h:w219c a b c V (OV R)):qDd Tryz.prog 19 c219c 0 6 [(0,K.cast .f a),(1,uP b),(3,uI c)] [0,1,3,11,12,16] V R :=
 qAz (H:=hK 19) [(0,(.var .f 0)),(1,(.var .p 1)),(3,(.var (.i .i64) 2))] [a,uP b,uI c] rfl (by kernel_rfl) h
noncomputable def c219d:Array Oper:=qED ((qCu (qAp Tryz.f219) [1,0,0,0,2,0]).getD 0 .skip)
def w219d(a:Value)(b:Option Addr)(c:Int)(d:Bool):MR:=fun V R=>R (rT #[K.cast .f a,uP b,uI c,uB (!d)]) V
theorem s219d{a:Value}{b:Option Addr}{c:Int}{d:Bool}{V:Mem}{R:List Value->Mem->Prop}(h:w219d a b c d V (OV R)):qDd Tryz.prog 19 c219d 7 1 [(0,K.cast .f a),(1,uP b),(3,uI c),(17,uB d)] [0,1,3,18] V R :=
 qAz (H:=hK 19) [(0,(.var .f 0)),(1,(.var .p 1)),(3,(.var (.i .i64) 2)),(17,(.var .b 3))] [a,uP b,uI c,uB d] rfl (by kernel_rfl) h
noncomputable def c219e:List Code:=((qCu (qAp Tryz.f219) [1,0,0,0]).drop 3).take 1
def w219e(a:Value)(b:Option Addr)(c:Int):MR:=fun V R=>IR (c-1)/\R (rT #[K.cast .f a,uP b,uI (c-1)]) V
theorem s219e{a:Value}{b:Option Addr}{c:Int}{V:Mem}{R:List Value->Mem->Prop}(h:w219e a b c V (OV R)):Seg Tryz.prog 19 c219e [(0,K.cast .f a),(1,uP b),(3,uI c)] [0,1,3] V R :=
 qBs (H:=hK 19) [(0,(.var .f 0)),(1,(.var .p 1)),(3,(.var (.i .i64) 2))] [a,uP b,uI c] rfl (by kernel_rfl) h
noncomputable def c267a:List Code:=((qCu (qAp Tryz.f267) []).drop 0).take 3
def w267a(a:Option Addr)(b:Bool)(c:Sl):MR:=fun V R=>GenK Tryz.prog (.makeMap 312 none) 312 (gv []) V fun x V1=>∃d,x=uM d/\¬a=none/\¬a=none/\¬(qAa a 0)=none/\∃g,V1.rowp a 2 1=some [uL g]/\TT 296 #[uL g] V1 fun e V2=>∃i,K.f.ok i/\e=rV i/\qAs [uP none,uM none,uB false] 314 V2 fun j V3=>qAs [uP a,uM d,uB b] 314 V3 fun k V4=>R (rT #[uP a,uB b,uL c,uP (qAa j 0),uP (qAa k 0),K.cast .f i]) V4
theorem s267a{a:Option Addr}{b:Bool}{c:Sl}{V:Mem}{R:List Value->Mem->Prop}(h:w267a a b c V (OV R)):Seg Tryz.prog 63 c267a [(0,uP a),(1,uB b),(2,uL c)] [0,1,2,6,7,24] V R :=
 qBs (H:=hK 63) [(0,(.var .p 0)),(1,(.var .b 1)),(2,(.var .sl 2))] [uP a,uB b,uL c] rfl (by kernel_rfl) h
noncomputable def c267b:List Code:=((qCu (qAp Tryz.f267) [3,0,0,0]).drop 0).take 1
def w267b(a:Option Addr)(b c:ByteArray):MR:=fun V R=>qAs [uS b,uS c] 101 V fun d V1=>R (rT #[uP a,uP (qAa d 0)]) V1
theorem s267b{a:Option Addr}{b c:ByteArray}{V:Mem}{R:List Value->Mem->Prop}(h:w267b a b c V (OV R)):Seg Tryz.prog 63 c267b [(7,uP a),(26,uA #[uS b,uS c])] [7,9] V R :=
 qBs (H:=hK 63) [(7,(.var .p 0)),(26,(.agg (.cons (.var .s 1) (.cons (.var .s 2) .nil))))] [uP a,uS b,uS c] rfl (by kernel_rfl) h
noncomputable def c267c:List Code:=((qCu (qAp Tryz.f267) [3,0,0,1]).drop 0).take 1
def w267c(a b:Option Addr):MR:=fun V R=>¬a=none/\∃c,V.rowp a 1 1=some [uM c]/\¬b=none/\∃d,V.rowp b ((0:Int).toNat*1) 1=some [uS d]/\¬b=none/\∃g,V.rowp b 1 1=some [uS g]/\qDD Tryz.prog 312 (uM c) (uS d) (uS g) V fun V1=>R (rT #[]) V1
theorem s267c{a b:Option Addr}{V:Mem}{R:List Value->Mem->Prop}(h:w267c a b V (OV R)):Seg Tryz.prog 63 c267c [(7,uP a),(9,uP b)] [] V R :=
 qBs (H:=hK 63) [(7,(.var .p 0)),(9,(.var .p 1))] [uP a,uP b] rfl (by kernel_rfl) h
noncomputable def c267d:List Code:=((qCu (qAp Tryz.f267) []).drop 4).take 4
def w267d(a:Option Addr)(b:Bool)(c:Sl)(d g:Option Addr):MR:=fun V R=>GenK Tryz.prog (.makeMap 357 none) 357 (gv []) V fun x V1=>∃i,x=uM i/\Lp [uI 0] V1 fun I n V2=>∀j,I n [uI j] V2->∀J0:LMP,Nx I n J0->Br (j<(c.n:Int)) (Ix c j (∃k,V2.rowp c.p (j.toNat*1) 1=some [uL k]/\Lp [uI 0] V2 fun I n V3=>∀l,I n [uI l] V3->∀J1:LMP,Nx I n J1->Br (l<(k.n:Int)) (Ix k l (∃o p,V3.rowp k.p (l.toNat*2) 2=some [uS o,uS p]/\qBz Tryz.prog 357 (uM i) (uS o) false V3 fun x=>∃q,x=uB q/\Br (q=true) (IR (l+1)/\J1 [uI (l+1)] V3) (¬g=none/\∃r,V3.rowp g 1 1=some [uM r]/\qDD Tryz.prog 312 (uM r) (uS o) (uS p) V3 fun V4=>qDD Tryz.prog 357 (uM i) (uS o) (.bool true) V4 fun V5=>IR (l+1)/\J1 [uI (l+1)] V5))) (IR (j+1)/\J0 [uI (j+1)] V3))) (∃k l o,V2.rowp g ((0:Int).toNat*1) 3=some [uP k,uM l,uB o]/\StT d 0 [uP k,uM l,uB o] V2 fun V3=>R (rT #[uP d]) V3)
theorem s267d{a:Option Addr}{b:Bool}{c:Sl}{d g:Option Addr}{V:Mem}{R:List Value->Mem->Prop}(h:w267d a b c d g V (OV R)):Seg Tryz.prog 63 c267d [(0,uP a),(1,uB b),(2,uL c),(6,uP d),(7,uP g)] [6] V R :=
 qBs (H:=hK 63) [(0,(.var .p 0)),(1,(.var .b 1)),(2,(.var .sl 2)),(6,(.var .p 3)),(7,(.var .p 4))] [uP a,uB b,uL c,uP d,uP g] rfl (by kernel_rfl) h
noncomputable def c158a:List Code:=((qCu (qAp Tryz.f158) []).drop 0).take 3
def w158a(a:ByteArray)(b c d g i j k:Sl):MR:=fun V R=>GenK Tryz.prog (.makeMap 269 none) 269 (gv []) V fun x V1=>∃l,x=uM l/\GenK Tryz.prog (.makeMap 270 none) 270 (gv []) V1 fun x V2=>∃o,x=uM o/\TT 189 #[uL b] V2 fun e V3=>∃p,K.f.ok p/\e=rV p/\qAs [uS a,uL b,uL c,uL d,uL g,uL i,uL j,uL k] 30 V3 fun q V4=>qAs [uS a,uL b,uL c,uL d,uL g,uL i,uL j,uL k,uM l,uM o] 272 V4 fun r V5=>qAs [uP (qAa r 0)] 234 V5 fun s V6=>R (rT #[uP (qAa q 0),uP (qAa s 0),K.cast .f p]) V6
theorem s158a{a:ByteArray}{b c d g i j k:Sl}{V:Mem}{R:List Value->Mem->Prop}(h:w158a a b c d g i j k V (OV R)):Seg Tryz.prog 38 c158a [(0,uD a b c d g i j k)] [1,3,15] V R :=
 qBs (H:=hK 38) [(0,(.agg (.cons (.var .s 0) (.cons (.var .sl 1) (.cons (.var .sl 2) (.cons (.var .sl 3) (.cons (.var .sl 4) (.cons (.var .sl 5) (.cons (.var .sl 6) (.cons (.var .sl 7) .nil))))))))))] [uS a,uL b,uL c,uL d,uL g,uL i,uL j,uL k] rfl (by kernel_rfl) h
noncomputable def c158b:List Code:=((qCu (qAp Tryz.f158) [3,0,0,0]).drop 0).take 1
def w158b(a:Option Addr)(b:ByteArray)(c:Sl):MR:=fun V R=>qAs [uS b,uL c] 98 V fun d V1=>R (rT #[uP a,uP (qAa d 0)]) V1
theorem s158b{a:Option Addr}{b:ByteArray}{c:Sl}{V:Mem}{R:List Value->Mem->Prop}(h:w158b a b c V (OV R)):Seg Tryz.prog 38 c158b [(3,uP a),(17,uA #[uS b,uL c])] [3,5] V R :=
 qBs (H:=hK 38) [(3,(.var .p 0)),(17,(.agg (.cons (.var .s 1) (.cons (.var .sl 2) .nil))))] [uP a,uS b,uL c] rfl (by kernel_rfl) h
noncomputable def c158c:List Code:=((qCu (qAp Tryz.f158) [3,0,0,1]).drop 0).take 1
def w158c(a b:Option Addr):MR:=fun V R=>∃c,V.rowp a ((0:Int).toNat*1) 1=some [uP c]/\¬c=none/\¬c=none/\∃d,V.rowp c 8 1=some [uM d]/\¬b=none/\∃g,V.rowp b ((0:Int).toNat*1) 1=some [uS g]/\∃i j,V.rowp b ((0:Int).toNat*1) 2=some [uS i,uL j]/\qDD Tryz.prog 269 (uM d) (uS g) (uA #[uS i,uL j]) V fun V1=>R (rT #[]) V1
theorem s158c{a b:Option Addr}{V:Mem}{R:List Value->Mem->Prop}(h:w158c a b V (OV R)):Seg Tryz.prog 38 c158c [(3,uP a),(5,uP b)] [] V R :=
 qBs (H:=hK 38) [(3,(.var .p 0)),(5,(.var .p 1))] [uP a,uP b] rfl (by kernel_rfl) h
noncomputable def c158d:List Code:=((qCu (qAp Tryz.f158) []).drop 4).take 1
def w158d(a b:Option Addr):MR:=fun V R=>¬a=none/\∃c,V.rowp a 3 1=some [uL c]/\TT 190 #[uL c] V fun e V1=>∃d,K.f.ok d/\e=rV d/\R (rT #[uP b,K.cast .f d]) V1
theorem s158d{a b:Option Addr}{V:Mem}{R:List Value->Mem->Prop}(h:w158d a b V (OV R)):Seg Tryz.prog 38 c158d [(1,uP a),(3,uP b)] [3,27] V R :=
 qBs (H:=hK 38) [(1,(.var .p 0)),(3,(.var .p 1))] [uP a,uP b] rfl (by kernel_rfl) h
noncomputable def c158e:List Code:=((qCu (qAp Tryz.f158) [5,0,0,0]).drop 0).take 1
def w158e(a:Option Addr)(b:ByteArray)(c:Sl)(d:ByteArray)(g i:Sl):MR:=fun V R=>qAs [uS b,uL c,uS d,uL g,uL i] 143 V fun j V1=>R (rT #[uP a,uP (qAa j 0)]) V1
theorem s158e{a:Option Addr}{b:ByteArray}{c:Sl}{d:ByteArray}{g i:Sl}{V:Mem}{R:List Value->Mem->Prop}(h:w158e a b c d g i V (OV R)):Seg Tryz.prog 38 c158e [(3,uP a),(29,uA #[uS b,uL c,uS d,uL g,uL i])] [3,7] V R :=
 qBs (H:=hK 38) [(3,(.var .p 0)),(29,(.agg (.cons (.var .s 1) (.cons (.var .sl 2) (.cons (.var .s 3) (.cons (.var .sl 4) (.cons (.var .sl 5) .nil)))))))] [uP a,uS b,uL c,uS d,uL g,uL i] rfl (by kernel_rfl) h
noncomputable def c158f:List Code:=((qCu (qAp Tryz.f158) [5,0,0,1]).drop 0).take 1
def w158f(a b:Option Addr):MR:=fun V R=>∃c,V.rowp a ((0:Int).toNat*1) 1=some [uP c]/\¬c=none/\¬c=none/\∃d,V.rowp c 9 1=some [uM d]/\¬b=none/\∃g,V.rowp b ((0:Int).toNat*1) 1=some [uS g]/\∃i j k l o,V.rowp b ((0:Int).toNat*1) 5=some [uS i,uL j,uS k,uL l,uL o]/\qDD Tryz.prog 270 (uM d) (uS g) (uA #[uS i,uL j,uS k,uL l,uL o]) V fun V1=>R (rT #[]) V1
theorem s158f{a b:Option Addr}{V:Mem}{R:List Value->Mem->Prop}(h:w158f a b V (OV R)):Seg Tryz.prog 38 c158f [(3,uP a),(7,uP b)] [] V R :=
 qBs (H:=hK 38) [(3,(.var .p 0)),(7,(.var .p 1))] [uP a,uP b] rfl (by kernel_rfl) h
noncomputable def c158g:List Code:=((qCu (qAp Tryz.f158) []).drop 6).take 1
def w158g(a:Option Addr):MR:=fun V R=>∃b,V.rowp a ((0:Int).toNat*1) 1=some [uP b]/\R (rT #[uP b]) V
theorem s158g{a:Option Addr}{V:Mem}{R:List Value->Mem->Prop}(h:w158g a V (OV R)):Seg Tryz.prog 38 c158g [(3,uP a)] [2] V R :=
 qBs (H:=hK 38) [(3,(.var .p 0))] [uP a] rfl (by kernel_rfl) h
end
end Go.Proofs
namespace Go.Sx
open Go
section
variable{P:Program}
def Has(N:Nat)(a:Act)(l:List (Nat×Value)):Prop:=a.tmps.size=N/\∀s v,l.lookup s=some v->a.tmps.getD s undef=v
theorem Seg.step{r:Option Nat}{n N:Nat}{Q:Exit->Act->World->Prop}{cs rest:List Code}{ins:List (Nat×Value)}{outs:List Nat}{V:Mem}{R:List Value->Mem->Prop}{a:Act}{w:World}(h:Seg P N cs ins outs V R)(hV:V.le w)(ha:Has N a ins)
  (k:∀a' w' vs V',a'.defers=a.defers->Has N a' (outs.zip vs)->R vs V'->Frm V w V' w'->wpL r n P Q rest a' w'):wpL r n P Q (cs++rest) a w:=by
 refine qJN (qCI ?_ (h r n a w hV ha.1 ha.2))
 rintro e a' w' ⟨rfl,h1,h2,vs,V',h3,h4,h5⟩
 exact k a' w' vs V' h1 ⟨h2,h3⟩ h4 h5
theorem qDd.step{r:Option Nat}{n N k m:Nat}{Q:Exit->Act->World->Prop}{ops:Array Oper}{rest:List Nat}{ins:List (Nat×Value)}{outs:List Nat}{V:Mem}{R:List Value->Mem->Prop}{a:Act}{w:World}(h:qDd P N ops k m ins outs V R)(hV:V.le w)(ha:Has N a ins)
  (go:∀a' w' vs V',a'.defers=a.defers->Has N a' (outs.zip vs)->R vs V'->Frm V w V' w'->wpOpsIn (qAA r) n P ops Q rest a' w'):wpOpsIn (qAA r) n P ops Q (List.range' k m++rest) a w:=by
 refine qJB (fun c a w he=>by cases he.1) (fun⟨_,_,he⟩=>by cases he.1) ?_ (h r n a w hV ha.1 ha.2)
 rintro a' w' ⟨_,h1,h2,vs,V',h3,h4,h5⟩
 exact go a' w' vs V' h1 ⟨h2,h3⟩ h4 h5
theorem yield_op{ops:Array Oper}{i:Nat}{o:Oper}{c:Call}{fv:Operand}{l:Nat}{rec:Loop}{args:Array Value}{rest:List Nat}{Q:Exit->Act->World->Prop}{a:Act}{w:World}(ho:ops[i]?=some o)(hg:o.guard=none)(hop:o.op=.call c)(hc:c.callee=.value fv)
  (hf:a.eval fv=.func (.yield l) #[] #[]) (hargs:c.args.map a.eval=args) (hl:w.heap[l]?=some (.loop rec)) (hs:args.size=rec.params.size)
  (hR:RoundIn (qAA none) 0 P l rec.fn ((rec.params.zip args).foldl (fun t (p,v)=>t.setIfInBounds p v) rec.tmps) rec.assign rec.body w fun e w'=>∃v,e=.returned v/\wpOpsIn (qAA none) 0 P ops Q rest (a.put o.dst v) w') :
  wpOpsIn (qAA none) 0 P ops Q (i::rest) a w:=by
 rw[wpOpsIn_cons]
 unfold wpOpIn
 simp only[ho]
 rw[if_pos (by simp[Region.wanted,hg])]
 refine⟨fun _ _=>trivial,?_⟩
 rw[Oper.semAt_eq _ _ _ (fun d=>by simp_all)]
 have hrun:(execOp a.eval o).run P w=.ok (.round l rec.fn ((rec.params.zip args).foldl (fun t (p,v)=>t.setIfInBounds p v) rec.tmps) rec.assign rec.body) w:=by
  unfold execOp
  simp only[hop,resolve,hc,hf,hargs,Deferred.ofValue,Sem.run_bind,Sem.run_pure,Result.andThen_ok,invoke]
  grind [run_yield]
 rw[hrun]
 refine⟨fun h=>by simp[qAA,Fence.wide]at h,hR.mono ?_⟩
 simp_all
theorem Has.get{N:Nat}{a:Act}{l:List (Nat×Value)}(h:Has N a l){s:Nat}{v:Value}(hs:l.lookup s=some v):a.tmps.getD s undef=v:=h.2 s v hs
theorem qJu{f:FuncId}{fn:Func}{c L B:Code}{b0 b1 id:Nat}{cA cB cE:List Code}{ops:Array Oper}{o6:Oper}{at6:Array TypeId}{fn':FuncId}{tmps:Array Value}{ps:Array Tmp}{assign body:Code}{D:Nat}{l:Nat}{box:Option Addr}{n:Nat}{el:Nat->Value}{J:Nat->Mem->Prop}{Bk:Mem->Prop}{V:Mem}
  (hf:P.funcs[f]?=some fn) (hb:fn.body=some c) (e1:flat c=cA++[.block b0 (.loop L)]) (e2:flat L=cB++([.cond (.tmp 8) .skip (.exit b0),.block b1 B]++cE)) (e3:flat B=[.region id ops false,.cond (.tmp 18) .ret .skip])
  (ho:ops[6]?=some o6) (hgd:o6.guard=none) (hop:o6.op=.call { callee:=.value (.tmp 11),args:=#[.tmp 12,.tmp 16],argTypes:=at6 }) (hdst:o6.dst=some 17) (hsz:ops.size=8) (hres:fn.results=#[]) (hN:fn.ntmps=19) (hps:ps.size=2)
  (hA:∀M,Bk M->Seg P 19 cA [(0,.func (.yield l) #[] #[]),(1,.pointer box)] [0,1,3] M fun vs V'=>V'=M/\vs=[.func (.yield l) #[] #[],.pointer box,.int .i64 ((n:Int)-1)])
  (hB:∀M (j:Int),Seg P 19 cB [(0,.func (.yield l) #[] #[]),(1,.pointer box),(3,.int .i64 j)] [0,1,3,8] M fun vs V'=>V'=M/\vs=[.func (.yield l) #[] #[],.pointer box,.int .i64 j,.bool (decide (0<=j))])
  (hC:∀M (k:Nat),Bk M->k<n->qDd P 19 ops 0 6 [(0,.func (.yield l) #[] #[]),(1,.pointer box),(3,.int .i64 k)] [0,1,3,11,12,16] M fun vs V'=>V'=M/\vs=[.func (.yield l) #[] #[],.pointer box,.int .i64 k,.func (.yield l) #[] #[],.int .i64 k,el k])
  (hD:∀M (j:Int) (b:Bool),qDd P 19 ops 7 1 [(0,.func (.yield l) #[] #[]),(1,.pointer box),(3,.int .i64 j),(17,.bool b)] [0,1,3,18] M fun vs V'=>V'=M/\vs=[.func (.yield l) #[] #[],.pointer box,.int .i64 j,.bool (!b)])
  (hE:∀M (j:Int),Bk M->0<=j->j<n->Seg P 19 cE [(0,.func (.yield l) #[] #[]),(1,.pointer box),(3,.int .i64 j)] [0,1,3] M fun vs V'=>V'=M/\vs=[.func (.yield l) #[] #[],.pointer box,.int .i64 (j-1)])
  (hJ:∀i V2,J i V2->V2 l=none->Bk (V2.set l (.loop (qDG fn' tmps ps assign body D))))
  (hround:∀k,k<n->∀V2,J (n-1-k) V2->V2 l=none->∀w,(V2.set l (.loop (qDG fn' tmps ps assign body D))).le w ->
   RoundIn (qAA none) 0 P l fn' ((ps.zip #[.int .i64 k,el k]).foldl (fun t (p,v)=>t.setIfInBounds p v) tmps) assign body w fun e w' =>
    e=.returned (.bool true)/\∃V3,J (n-k) V3/\V3 l=none/\Frm (V2.set l (.loop (qDG fn' tmps ps assign body D))) w (V3.set l (.loop (qDG fn' tmps ps assign body D))) w')
  (h0:J 0 V) (hl:V l=none) :
  Tri P f #[.func (.yield l) #[] #[],.pointer box] (V.set l (.loop (qDG fn' tmps ps assign body D))) fun e V'=>(∃v,e=.returned v)/\∃V2,V'=V2.set l (.loop (qDG fn' tmps ps assign body D))/\V2 l=none/\J n V2:=by
 intro w hV
 refine(callsIn_wide (n:=0)).1 (callsIn_of_wp (F:=qAA none) hf hb trivial (qCy ?_) rfl)
 rw[e1]
 have hH0:Has 19 { tmps:=#[.func (.yield l) #[] #[],.pointer box]++Array.replicate (fn.ntmps-(#[Value.func (.yield l) #[] #[],.pointer box]).size) undef,defers:=[] } [(0,.func (.yield l) #[] #[]),(1,.pointer box)]:=by
  constructor
  ·simp[hN]
  ·intro s v hs
   simp only[List.lookup_cons]at hs
   split at hs
   ·simp_all
   ·split at hs
    ·simp_all
    ·cases hs
 refine(hA _ (hJ 0 V h0 hl)).step hV hH0 ?_
 rintro a1 w1 vs V1 hd1 hH1 ⟨rfl,rfl⟩ hF1
 refine wpIn_block ?_
 refine qFU (fun m a w'=>∃(i:Nat) (V2:Mem),i<=n/\m=n-i/\J i V2/\V2 l=none/\a.defers=[]/\Has 19 a [(0,.func (.yield l) #[] #[]),(1,.pointer box),(3,.int .i64 ((n:Int)-1-i))] /\
  Frm (V.set l (.loop (qDG fn' tmps ps assign body D))) w (V2.set l (.loop (qDG fn' tmps ps assign body D))) w') ⟨n,0,V,by omega,rfl,h0,hl,hd1,by simpa using hH1,hF1⟩ ?_
 rintro m a2 w2 ⟨i,V2,hi,rfl,hJi,hl2,hd2,hH2,hF2⟩
 refine qCy ?_
 rw[e2]
 refine(hB _ _).step hF2.le hH2 ?_
 rintro a3 w3 vs V3 hd3 hH3 ⟨rfl,rfl⟩ hF3
 have hev8:a3.eval (.tmp 8)=.bool (decide (0<=(n:Int)-1-i)):=hH3.get rfl
 show Code.wpIn (qAA none) 0 P _ _ a3 w3
 by_cases hlt:i<n
 ·have hdc:decide (0<=(n:Int)-1-i)=true:=by simp;omega
  rw[hdc]at hev8
  refine wpIn_cond_true hev8 (wpIn_skip ?_)
  show Code.wpIn (qAA none) 0 P _ _ a3 w3
  refine wpIn_block (qCy ?_)
  rw[e3]
  have hk:((n:Int)-1-i)=((n-1-i:Nat):Int):=by omega
  have hH3':Has 19 a3 [(0,.func (.yield l) #[] #[]),(1,.pointer box),(3,.int .i64 ((n-1-i:Nat):Int))]:=⟨hH3.1,fun s v hs=>hH3.2 s v (by
   grind [List.zip_cons_cons])⟩
  refine wpIn_region ?_
  rw[hsz,show List.range 8=List.range' 0 6++[6,7] from rfl]
  refine(hC _ (n-1-i) (hJ _ _ hJi hl2) (by omega)).step hF3.le hH3' ?_
  rintro a4 w4 vs V4 hd4 hH4 ⟨rfl,rfl⟩ hF4
  have hl4:w4.heap[l]?=some (.loop (qDG fn' tmps ps assign body D)):=hF4.le _ _ (Mem.set_same _ _ _)
  refine yield_op (args:=#[.int .i64 ((n-1-i:Nat):Int),el (n-1-i)]) ho hgd hop rfl (hH4.get rfl) ?_ hl4 (by simp[qDG,hps]) ?_
  ·have g1:a4.eval (.tmp 12)=.int .i64 ((n-1-i:Nat):Int):=hH4.get rfl
   have g2:a4.eval (.tmp 16)=el (n-1-i):=hH4.get rfl
   simp[g1,g2]
  refine(hround (n-1-i) (by omega) V2 (by grind) hl2 w4 hF4.le).mono ?_
  rintro e w5 ⟨rfl,V5,hJ5,hl5,hF5⟩
  refine⟨_,rfl,?_⟩
  rw[hdst]
  have hlt17:(17:Nat)<a4.tmps.size:=by rw[hH4.1];decide
  have hH5:Has 19 (a4.put (some 17) (.bool true)) [(0,.func (.yield l) #[] #[]),(1,.pointer box),(3,.int .i64 ((n-1-i:Nat):Int)),(17,.bool true)]:=by
   refine⟨by simp[Act.put,hH4.1],fun s v hs=>?_⟩
   have other:∀s,s≠17->(a4.put (some 17) (.bool true)).tmps.getD s undef=a4.tmps.getD s undef:=fun s hs=>by
    simp[Act.put,Array.getD_eq_getD_getElem?,Array.getElem?_setIfInBounds_ne (Ne.symm hs)]
   simp only[List.lookup_cons]at hs
   split at hs
   ·rename_i e;simp only[beq_iff_eq]at e;subst e;cases hs;rw[other _ (by decide)];exact hH4.get rfl
   ·split at hs
    ·rename_i e;simp only[beq_iff_eq]at e;subst e;cases hs;rw[other _ (by decide)];exact hH4.get rfl
    ·split at hs
     ·rename_i e;simp only[beq_iff_eq]at e;subst e;cases hs;rw[other _ (by decide)];exact hH4.get rfl
     ·split at hs
      ·simp_all [beq_iff_eq,Act.put,Array.getD_eq_getD_getElem?]
      ·cases hs
  rw[show [7]=List.range' 7 1++[] from rfl]
  refine(hD _ _ true).step hF5.le hH5 ?_
  rintro a6 w6 vs V6 hd6 hH6 ⟨rfl,rfl⟩ hF6
  show Code.wpIn (qAA none) 0 P (.cond (.tmp 18) .ret .skip) _ a6 w6
  refine wpIn_cond_false (hH6.get rfl) (wpIn_skip ?_)
  rw[<- List.append_nil cE]
  refine(hE _ ((n-1-i:Nat):Int) (hJ _ _ hJ5 hl5) (by omega) (by omega)).step hF6.le ⟨hH6.1,fun s v hs=>hH6.2 s v ?_⟩ ?_
  ·grind [List.zip_cons_cons]
  rintro a7 w7 vs V7 hd7 hH7 ⟨rfl,rfl⟩ hF7
  refine⟨n-(i+1),by omega,i+1,V5,by omega,rfl,?_,hl5,?_,?_,?_⟩
  ·grind
  ·rw[hd7,hd6]
   show a4.defers=[]
   grind
  ·rw[show (n:Int)-1-((i+1:Nat):Int)=((n-1-i:Nat):Int)-1 by omega]
   exact hH7
  ·exact((((hF2.trans hF3).trans hF4).trans hF5).trans hF6).trans hF7
 ·have hin:i=n:=by omega
  subst hin
  have hdc:decide (0<=(i:Int)-1-i)=false:=by simp;omega
  rw[hdc]at hev8
  refine wpIn_cond_false hev8 (wpIn_exit ?_)
  show (if b0=b0 then _ else _)
  rw[if_pos rfl]
  refine⟨?_,_,results_none hres _ _ _,_,⟨⟨_,rfl⟩,V2,rfl,hl2,hJi⟩,hF2.trans hF3⟩
  rw[hd3,hd2]
end
end Go.Sx
namespace Go.Proofs
open Go Go.Sx
attribute [local irreducible] Go.Sx.Tri
theorem GenK.makeMap{P:Program}{V:Mem}{t:TypeId}{ty:Nat}{vals:Operand->Value}{q:Value->Mem->Prop}(hq:∀b,V b=none->q (.map (some b)) (V.set b (.map #[] 0))):GenK P (.makeMap t none) ty vals V q:=by
 intro w hw
 have hn:V w.heap.size=none:=by
  cases hc:V w.heap.size with
  | none=>rfl
  | some o=>have:=(Array.getElem?_eq_some_iff.1 (hw _ o hc)).1;omega
 refine⟨_,w.alloc (.map #[] 0),V.set w.heap.size (.map #[] 0),rfl,?_,hq _ hn⟩
 refine⟨by simp,fun b o hb=>?_,fun b hb _=>Go.RowKit.Below.heap_alloc _ _ _ hb,fun b hb=>?_,rfl,rfl⟩
 ·by_cases e:b=w.heap.size
  ·grind [Mem.set_same,World.alloc_heap_new]
  ·rw[Mem.set_ne e]at hb
   have hlt:=(Array.getElem?_eq_some_iff.1 (hw b o hb)).1
   exact(Go.RowKit.Below.heap_alloc _ _ _ hlt).trans (hw b o hb)
 grind [inr,Mem.set_ne]
theorem qKL{α:Type}{V:Mem}{s:Sl}{sz:Nat}{row:α->List Value}{xs:List α}(h:qAc V s sz (xs.map row)):K.inR .i64 ((s.n:Int)-1):=by
 have:=h.cap;have:=h.fit
 exact⟨by omega,by omega⟩
theorem it311{V:Mem}{fn':FuncId}{tmps:Array Value}{ps:Array Tmp}{assign body:Code}{D:Nat}{l:Nat}{bx:Nat}{s:Sl}{xs:List Fld}{J:Nat->Mem->Prop}(hps:ps.size=2)
  (hJ:∀i V2,J i V2->V2 l=none->V2 bx=some (cell (.slice s.p s.n s.c) 23)/\qAc V2 s 2 (xs.map Fld.row))
  (hround:∀k x,xs[k]?=some x->∀V2,J (xs.length-1-k) V2->V2 l=none->∀w,(V2.set l (.loop (qDG fn' tmps ps assign body D))).le w ->
   RoundIn (qAA none) 0 Tryz.prog l fn' ((ps.zip #[.int .i64 k,Fld.v x]).foldl (fun t (p,v)=>t.setIfInBounds p v) tmps) assign body w fun e w' =>
    e=.returned (.bool true)/\∃V3,J (xs.length-k) V3/\V3 l=none/\Frm (V2.set l (.loop (qDG fn' tmps ps assign body D))) w (V3.set l (.loop (qDG fn' tmps ps assign body D))) w')
  (h0:J 0 V) (hl:V l=none) :
  Tri Tryz.prog 311 #[.func (.yield l) #[] #[],pv bx] (V.set l (.loop (qDG fn' tmps ps assign body D))) fun e V'=>(∃v,e=.returned v)/\∃V2,V'=V2.set l (.loop (qDG fn' tmps ps assign body D))/\V2 l=none/\J xs.length V2:=by
 refine qJu (c:=qAp Tryz.f311) (L:=kid ((qCu (qAp Tryz.f311) [1,0]).getD 0 .skip) 0) (B:=kid ((qCu (qAp Tryz.f311) [1,0,0,0]).getD 2 .skip) 0) (cA:=c311a) (cB:=c311b) (cE:=c311e) (ops:=c311c) (b0:=0) (b1:=1) (id:=3)
  (o6:=(c311c)[6]?.getD default) (at6:=#[3,101]) (el:=fun k=>(xs[k]?.map Fld.v).getD undef) (Bk:=fun M=>M bx=some (cell (.slice s.p s.n s.c) 23)/\qAc M s 2 (xs.map Fld.row))
  Tryz.func311 (by kernel_rfl) (by kernel_rfl) (by kernel_rfl) (by kernel_rfl) (by kernel_rfl) (by kernel_rfl) (by kernel_rfl) (by kernel_rfl) (by kernel_rfl) (by kernel_rfl) (by kernel_rfl) hps ?_ ?_ ?_ ?_ ?_ ?_ ?_ h0 hl
 ·rintro M ⟨h1,h2⟩
  refine s311a (a:=.func (.yield l) #[] #[]) (b:=some ⟨bx,0,none⟩) ?_
  unfold w311a
  exact⟨s,qBJ h1,qKL h2,_,rfl,rfl,by rw[h2.n_eq];rfl⟩
 ·intro M j
  refine s311b (a:=.func (.yield l) #[] #[]) (b:=some ⟨bx,0,none⟩) ?_
  unfold w311b
  exact⟨_,rfl,rfl,rfl⟩
 ·rintro M k ⟨h1,h2⟩ hk
  refine s311c (a:=.func (.yield l) #[] #[]) (b:=some ⟨bx,0,none⟩) ?_
  unfold w311c
  obtain⟨x,hm,hx,hdr,hlt,hnn,hz,hrow⟩:=h2.get (i:=k) (by rw[h2.n_eq];omega)
  exact⟨s,qBJ h1,hnn,hz,by rw[h2.n_eq];omega,x.name,x.ty,hrow,_,rfl,rfl,by rw[hx];rfl⟩
 ·intro M j b
  refine s311d (a:=.func (.yield l) #[] #[]) (b:=some ⟨bx,0,none⟩) ?_
  unfold w311d
  exact⟨_,rfl,rfl,rfl⟩
 ·rintro M j ⟨h1,h2⟩ hj hj2
  have hb1:=h2.cap
  have hb2:=h2.fit
  have hb3:=h2.n_eq
  refine s311e (a:=.func (.yield l) #[] #[]) (b:=some ⟨bx,0,none⟩) ?_
  unfold w311e
  exact⟨⟨by omega,by omega⟩,_,rfl,rfl,rfl⟩
 ·intro i V2 hj hl2
  obtain⟨h1,h2⟩:=hJ i V2 hj hl2
  have e:bx≠l:=fun e=>by simp_all
  exact⟨by rw[Mem.set_ne e];exact h1,h2.sub (Mem.sub_new hl2 _)⟩
 simp_all
theorem it218{V:Mem}{fn':FuncId}{tmps:Array Value}{ps:Array Tmp}{assign body:Code}{D:Nat}{l:Nat}{bx:Nat}{s:Sl}{xs:List Ty}{J:Nat->Mem->Prop}(hps:ps.size=2)
  (hJ:∀i V2,J i V2->V2 l=none->V2 bx=some (cell (.slice s.p s.n s.c) 22)/\qAc V2 s 2 (xs.map Ty.row))
  (hround:∀k x,xs[k]?=some x->∀V2,J (xs.length-1-k) V2->V2 l=none->∀w,(V2.set l (.loop (qDG fn' tmps ps assign body D))).le w ->
   RoundIn (qAA none) 0 Tryz.prog l fn' ((ps.zip #[.int .i64 k,Ty.v x]).foldl (fun t (p,v)=>t.setIfInBounds p v) tmps) assign body w fun e w' =>
    e=.returned (.bool true)/\∃V3,J (xs.length-k) V3/\V3 l=none/\Frm (V2.set l (.loop (qDG fn' tmps ps assign body D))) w (V3.set l (.loop (qDG fn' tmps ps assign body D))) w')
  (h0:J 0 V) (hl:V l=none) :
  Tri Tryz.prog 218 #[.func (.yield l) #[] #[],pv bx] (V.set l (.loop (qDG fn' tmps ps assign body D))) fun e V'=>(∃v,e=.returned v)/\∃V2,V'=V2.set l (.loop (qDG fn' tmps ps assign body D))/\V2 l=none/\J xs.length V2:=by
 refine qJu (c:=qAp Tryz.f218) (L:=kid ((qCu (qAp Tryz.f218) [1,0]).getD 0 .skip) 0) (B:=kid ((qCu (qAp Tryz.f218) [1,0,0,0]).getD 2 .skip) 0) (cA:=c218a) (cB:=c218b) (cE:=c218e) (ops:=c218c) (b0:=0) (b1:=1) (id:=3)
  (o6:=(c218c)[6]?.getD default) (at6:=#[3,98]) (el:=fun k=>(xs[k]?.map Ty.v).getD undef) (Bk:=fun M=>M bx=some (cell (.slice s.p s.n s.c) 22)/\qAc M s 2 (xs.map Ty.row))
  Tryz.func218 (by kernel_rfl) (by kernel_rfl) (by kernel_rfl) (by kernel_rfl) (by kernel_rfl) (by kernel_rfl) (by kernel_rfl) (by kernel_rfl) (by kernel_rfl) (by kernel_rfl) (by kernel_rfl) hps ?_ ?_ ?_ ?_ ?_ ?_ ?_ h0 hl
 ·rintro M ⟨h1,h2⟩
  refine s218a (a:=.func (.yield l) #[] #[]) (b:=some ⟨bx,0,none⟩) ?_
  unfold w218a
  exact⟨s,qBJ h1,qKL h2,_,rfl,rfl,by rw[h2.n_eq];rfl⟩
 ·intro M j
  refine s218b (a:=.func (.yield l) #[] #[]) (b:=some ⟨bx,0,none⟩) ?_
  unfold w218b
  exact⟨_,rfl,rfl,rfl⟩
 ·rintro M k ⟨h1,h2⟩ hk
  refine s218c (a:=.func (.yield l) #[] #[]) (b:=some ⟨bx,0,none⟩) ?_
  unfold w218c
  obtain⟨x,hm,hx,hdr,hlt,hnn,hz,hrow⟩:=h2.get (i:=k) (by rw[h2.n_eq];omega)
  exact⟨s,qBJ h1,hnn,hz,by rw[h2.n_eq];omega,x.name,x.fs,hrow,_,rfl,rfl,by rw[hx];rfl⟩
 ·intro M j b
  refine s218d (a:=.func (.yield l) #[] #[]) (b:=some ⟨bx,0,none⟩) ?_
  unfold w218d
  exact⟨_,rfl,rfl,rfl⟩
 ·rintro M j ⟨h1,h2⟩ hj hj2
  have hb1:=h2.cap
  have hb2:=h2.fit
  have hb3:=h2.n_eq
  refine s218e (a:=.func (.yield l) #[] #[]) (b:=some ⟨bx,0,none⟩) ?_
  unfold w218e
  exact⟨⟨by omega,by omega⟩,_,rfl,rfl,rfl⟩
 ·intro i V2 hj hl2
  obtain⟨h1,h2⟩:=hJ i V2 hj hl2
  have e:bx≠l:=fun e=>by simp_all
  exact⟨by rw[Mem.set_ne e];exact h1,h2.sub (Mem.sub_new hl2 _)⟩
 simp_all
theorem it219{V:Mem}{fn':FuncId}{tmps:Array Value}{ps:Array Tmp}{assign body:Code}{D:Nat}{l:Nat}{bx:Nat}{s:Sl}{xs:List Pr}{J:Nat->Mem->Prop}(hps:ps.size=2)
  (hJ:∀i V2,J i V2->V2 l=none->V2 bx=some (cell (.slice s.p s.n s.c) 24)/\qAc V2 s 5 (xs.map Pr.row))
  (hround:∀k x,xs[k]?=some x->∀V2,J (xs.length-1-k) V2->V2 l=none->∀w,(V2.set l (.loop (qDG fn' tmps ps assign body D))).le w ->
   RoundIn (qAA none) 0 Tryz.prog l fn' ((ps.zip #[.int .i64 k,Pr.v x]).foldl (fun t (p,v)=>t.setIfInBounds p v) tmps) assign body w fun e w' =>
    e=.returned (.bool true)/\∃V3,J (xs.length-k) V3/\V3 l=none/\Frm (V2.set l (.loop (qDG fn' tmps ps assign body D))) w (V3.set l (.loop (qDG fn' tmps ps assign body D))) w')
  (h0:J 0 V) (hl:V l=none) :
  Tri Tryz.prog 219 #[.func (.yield l) #[] #[],pv bx] (V.set l (.loop (qDG fn' tmps ps assign body D))) fun e V'=>(∃v,e=.returned v)/\∃V2,V'=V2.set l (.loop (qDG fn' tmps ps assign body D))/\V2 l=none/\J xs.length V2:=by
 refine qJu (c:=qAp Tryz.f219) (L:=kid ((qCu (qAp Tryz.f219) [1,0]).getD 0 .skip) 0) (B:=kid ((qCu (qAp Tryz.f219) [1,0,0,0]).getD 2 .skip) 0) (cA:=c219a) (cB:=c219b) (cE:=c219e) (ops:=c219c) (b0:=0) (b1:=1) (id:=3)
  (o6:=(c219c)[6]?.getD default) (at6:=#[3,143]) (el:=fun k=>(xs[k]?.map Pr.v).getD undef) (Bk:=fun M=>M bx=some (cell (.slice s.p s.n s.c) 24)/\qAc M s 5 (xs.map Pr.row))
  Tryz.func219 (by kernel_rfl) (by kernel_rfl) (by kernel_rfl) (by kernel_rfl) (by kernel_rfl) (by kernel_rfl) (by kernel_rfl) (by kernel_rfl) (by kernel_rfl) (by kernel_rfl) (by kernel_rfl) hps ?_ ?_ ?_ ?_ ?_ ?_ ?_ h0 hl
 ·rintro M ⟨h1,h2⟩
  refine s219a (a:=.func (.yield l) #[] #[]) (b:=some ⟨bx,0,none⟩) ?_
  unfold w219a
  exact⟨s,qBJ h1,qKL h2,_,rfl,rfl,by rw[h2.n_eq];rfl⟩
 ·intro M j
  refine s219b (a:=.func (.yield l) #[] #[]) (b:=some ⟨bx,0,none⟩) ?_
  unfold w219b
  exact⟨_,rfl,rfl,rfl⟩
 ·rintro M k ⟨h1,h2⟩ hk
  refine s219c (a:=.func (.yield l) #[] #[]) (b:=some ⟨bx,0,none⟩) ?_
  unfold w219c
  obtain⟨x,hm,hx,hdr,hlt,hnn,hz,hrow⟩:=h2.get (i:=k) (by rw[h2.n_eq];omega)
  exact⟨s,qBJ h1,hnn,hz,by rw[h2.n_eq];omega,x.name,x.ps,x.result,x.ls,x.bs,hrow,_,rfl,rfl,by rw[hx];rfl⟩
 ·intro M j b
  refine s219d (a:=.func (.yield l) #[] #[]) (b:=some ⟨bx,0,none⟩) ?_
  unfold w219d
  exact⟨_,rfl,rfl,rfl⟩
 ·rintro M j ⟨h1,h2⟩ hj hj2
  have hb1:=h2.cap
  have hb2:=h2.fit
  have hb3:=h2.n_eq
  refine s219e (a:=.func (.yield l) #[] #[]) (b:=some ⟨bx,0,none⟩) ?_
  unfold w219e
  exact⟨⟨by omega,by omega⟩,_,rfl,rfl,rfl⟩
 ·intro i V2 hj hl2
  obtain⟨h1,h2⟩:=hJ i V2 hj hl2
  have e:bx≠l:=fun e=>by simp_all
  exact⟨by rw[Mem.set_ne e];exact h1,h2.sub (Mem.sub_new hl2 _)⟩
 simp_all
theorem c296{V:Mem}{s:Sl}:Tri Tryz.prog 296 #[.slice s.p s.n s.c] V fun e V'=>∃b,V b=none/\e=.returned (.func (.func 311) #[] #[pv b])/\V'=V.set b (cell (.slice s.p s.n s.c) 23):=by
 refine x296 ?_
 unfold w296
 exact fun b hb=>⟨b,hb,rfl,rfl⟩
theorem c189{V:Mem}{s:Sl}:Tri Tryz.prog 189 #[.slice s.p s.n s.c] V fun e V'=>∃b,V b=none/\e=.returned (.func (.func 218) #[] #[pv b])/\V'=V.set b (cell (.slice s.p s.n s.c) 22):=by
 refine x189 ?_
 unfold w189
 exact fun b hb=>⟨b,hb,rfl,rfl⟩
theorem c190{V:Mem}{s:Sl}:Tri Tryz.prog 190 #[.slice s.p s.n s.c] V fun e V'=>∃b,V b=none/\e=.returned (.func (.func 219) #[] #[pv b])/\V'=V.set b (cell (.slice s.p s.n s.c) 24):=by
 refine x190 ?_
 unfold w190
 exact fun b hb=>⟨b,hb,rfl,rfl⟩
theorem qId{args:List Value}{N:Nat}(h:args.length<=N):Has N { tmps:=args.toArray++Array.replicate (N-args.toArray.size) undef,defers:=[] } ((List.range args.length).zip args):=by
 refine⟨by simp;omega,fun s v hs=>?_⟩
 rw[List.range_eq_range']at hs
 have key:∀(l:List Value) (k:Nat),((List.range' k l.length).zip l).lookup s=some v->k<=s/\l[s-k]?=some v:=by
  intro l
  induction l with
  | nil=>simp_all
  | cons x xs ih =>
   intro k h
   simp only[List.length_cons,List.range'_succ,List.zip_cons_cons,List.lookup_cons]at h
   grind
 obtain⟨-,h1⟩:=key args 0 hs
 have hlt:=(List.getElem?_eq_some_iff.1 h1).1
 simp_all [Nat.sub_zero,Array.getD_eq_getD_getElem?,Array.getElem?_append_left]
theorem qKA{tmps:Array Value}{p q:Nat}{u v:Value}:((#[p,q].zip #[u,v]).foldl (fun t (p,v)=>t.setIfInBounds p v) tmps)=(tmps.setIfInBounds p u).setIfInBounds q v:=by
 simp
theorem qIe{tmps:Array Value}{p s:Nat}{u:Value}(h:s≠p):(tmps.setIfInBounds p u).getD s undef=tmps.getD s undef:=by
 simp[Array.getD_eq_getD_getElem?,Array.getElem?_setIfInBounds_ne (Ne.symm h)]
theorem getD_same{tmps:Array Value}{p:Nat}{u:Value}(h:p<tmps.size):(tmps.setIfInBounds p u).getD p undef=u:=by
 simp_all
theorem qGN(f:Fld)(l:List Fld)(k:ByteArray):qBU (f::l) k=if k=f.name then some f.ty else qBU l k:=by
 grind [qBU]
theorem varOf_app(a b:List Fld)(k:ByteArray):qBU (a++b) k=(qBU a k).or (qBU b k):=by
 grind [qBU]
theorem varOf_any(a:List Fld)(k:ByteArray):(qBU a k).isSome=a.any fun f=>decide (f.name=k):=by
 grind [qBU]
theorem seen_old{a g:List Fld}{f:Fld}(h:(a.any fun x=>decide (x.name=f.name))=true)(k:ByteArray):qBU (a++[f]++g) k=qBU (a++g) k:=by
 simp only[varOf_app,qGN]
 rw[<- varOf_any]at h
 by_cases e:k=f.name
 ·subst e
  rw[if_pos rfl]
  cases hv:qBU a f.name with
  | none=>simp_all
  | some x=>rfl
 grind [qBU]
theorem seen_new{a g:List Fld}{f:Fld}(h:¬(a.any fun x=>decide (x.name=f.name))=true)(k:ByteArray):qBU (a++[f]++g) k=if k=f.name then some f.ty else qBU (a++g) k:=by
 simp only[varOf_app,qGN]
 rw[<- varOf_any]at h
 by_cases e:k=f.name
 ·simp_all
 grind [qBU]
structure SI (V:Mem) (c:Option Addr) (body:Bool) (d:Ds) (mb bx b6 b7:Nat) (m:ByteArray->Option Value) (V1:Mem):Prop where
 sub:V.sub V1
 nm:V mb=none
 n6:V b6=none
 map:qBo V1 mb m
 bx:V1 bx=some (cell (.slice d.gs.p d.gs.n d.gs.c) 23)
 b6:V1 b6=some (.cells #[.pointer none,.map none,.bool false] 314 (0,0))
 b7:V1 b7=some (.cells #[.pointer c,.map (some mb),.bool body] 314 (0,0))
section
variable{V V1:Mem}{c:Option Addr}{body:Bool}{d:Ds}{mb bx b6 b7:Nat}{m m':ByteArray->Option Value}
theorem SI.fresh(h:SI V c body d mb bx b6 b7 m V1){b:Nat}(hb:V1 b=none)(o:Obj):SI V c body d mb bx b6 b7 m (V1.set b o) :=
 have hs:=Mem.sub_new hb o
 ⟨h.sub.trans hs,h.nm,h.n6,h.map.sub hs,hs _ _ h.bx,hs _ _ h.b6,hs _ _ h.b7⟩
theorem SI.up(h:SI V c body d mb bx b6 b7 m V1){o:Obj}(ho:qBo (V1.set mb o) mb m'):SI V c body d mb bx b6 b7 m' (V1.set mb o):=by
 obtain⟨es,cl,hm,-,-⟩:=h.map.at_
 have e1:bx≠mb:=fun e=>by have:=h.bx;simp_all
 have e2:b6≠mb:=fun e=>by have:=h.b6;simp_all
 have e3:b7≠mb:=fun e=>by have:=h.b7;simp_all
 exact⟨h.sub.set h.nm o,h.nm,h.n6,ho,by rw[Mem.set_ne e1];exact h.bx,by rw[Mem.set_ne e2];exact h.b6,by rw[Mem.set_ne e3];exact h.b7⟩
theorem SI.cg(h:SI V c body d mb bx b6 b7 m V1)(e:∀k,m k=m' k):SI V c body d mb bx b6 b7 m' V1:=⟨h.sub,h.nm,h.n6,h.map.congr e,h.bx,h.b6,h.b7⟩
end
section
variable{V V1:Mem}{c:Option Addr}{body:Bool}{d:Ds}{mb bx b6 b7:Nat}{m m':ByteArray->Option Value}
theorem scopeRound{l:Sl}(h:SI V c body d mb bx b6 b7 m V1)(x:Fld)(V2:Mem)(b:Nat)(hb:V1 b=none)(e2:V2=V1.set b (.cells x.row.toArray 101 (0,0))) :
  Seg Tryz.prog 63 c267c [(7,pv b7),(9,pv b)] [] V2 fun _ V3=>SI V c body d mb bx b6 b7 (fun k=>if k=x.name then some (.string x.ty) else m k) V3:=by
 subst e2
 have h2:=h.fresh hb (.cells x.row.toArray 101 (0,0))
 refine s267c ?_
 unfold w267c
 refine⟨by simp,some mb,qAe h2.b7 1 1 (by simp),by simp,x.name,qAe mss 0 1 (by simp[Fld.row]),by simp,x.ty,qAe mss 1 1 (by simp[Fld.row]),?_⟩
 exact qDD.str Tryz.underlying312 Tryz.underlying9 h2.map fun o ho=>⟨_,rfl,h2.up ho⟩
theorem scopeAssign(x:Fld):Seg Tryz.prog 63 c267b [(7,pv b7),(26,Fld.v x)] [7,9] V1 fun vs V2=>∃b,V1 b=none/\V2=V1.set b (.cells x.row.toArray 101 (0,0))/\vs=[pv b7,pv b]:=by
 refine s267b (b:=x.name) (c:=x.ty) ?_
 unfold w267b
 exact fun b hb=>⟨_,rfl,b,hb,rfl,rfl⟩
theorem zero4(w:World):(zeroValue 4).run Tryz.prog w=.ok (.bool false) w:=by kernel_rfl
theorem scopeTail{l:Sl}{ls:List (Sl×List Fld)}(h:SI V c body d mb bx b6 b7 (fun k=>(qBU d.globals k).map Value.string) V1)(hl:qAc V l 1 (ls.map fun x=>[x.1.v]))(hls:∀x∈ls,qAc V x.1 2 (x.2.map Fld.row)) :
  Seg Tryz.prog 63 c267d [(0,.pointer c),(1,.bool body),(2,.slice l.p l.n l.c),(6,pv b6),(7,pv b7)] [6] V1 fun vs V2=>vs=[pv b6] /\
   V.sub V2/\V mb=none/\qBo V2 mb (fun k=>(qBU (ls.flatMap (·.2)++d.globals) k).map Value.string)/\V2 b6=some (.cells #[.pointer c,.map (some mb),.bool body] 314 (0,0)):=by
 refine s267d ?_
 unfold w267d
 refine GenK.makeMap fun sb hsb=>⟨some sb,rfl,?_⟩
 have hsV:V sb=none:=by
  cases hc:V sb with
  | none=>rfl
  | some o=>have:=h.sub _ _ hc;simp_all
 have hne:mb≠sb:=fun e=>by
  obtain⟨es,cl,hm,-,-⟩:=h.map.at_
  simp_all
 let TI (done:List Fld) (V2:Mem):Prop:=SI V c body d mb bx b6 b7 (fun k=>(qBU (done++d.globals) k).map Value.string) V2/\qBo V2 sb (fun k=>if (done.any fun f=>decide (f.name=k))=true then some (.bool true) else none)
 have h0:TI [] (V1.set sb (.map #[] 0)):=⟨h.fresh hsb _,(qBo.made V1 sb).congr fun k=>by simp⟩
 refine qLe ls.length (fun i V2=>TI ((ls.take i).flatMap (·.2)) V2) (by simpa using h0) ?_
 intro i V2 J hi hst hJ
 have hlV:=hl.sub hst.1.sub
 refine⟨fun hlt=>?_,fun hlt=>?_⟩
 ·obtain⟨x,hm,hx,hdr,hlt',hnn,hz,hrow⟩:=hlV.get hlt
  refine⟨hnn,hz,hlt,x.1,hrow,?_⟩
  have htk:(ls.take (i+1)).flatMap (·.2)=(ls.take i).flatMap (·.2)++x.2:=by
   grind
  refine qLe x.2.length (fun j V3=>TI ((ls.take i).flatMap (·.2)++x.2.take j) V3) (by simpa using hst) ?_
  intro j V3 J' hj hst' hJ'
  have hxV:=(hls x hm).sub hst'.1.sub
  refine⟨fun hlt2=>?_,fun hlt2=>?_⟩
  ·obtain⟨f,hmf,hf,hdrf,hltf,hnnf,hzf,hrowf⟩:=hxV.get hlt2
   have htj:(ls.take i).flatMap (·.2)++x.2.take (j+1)=((ls.take i).flatMap (·.2)++x.2.take j)++[f]:=by
    grind
   refine⟨hnnf,hzf,hlt2,f.name,f.ty,hrowf,?_⟩
   refine qBz.str1 Tryz.underlying357 Tryz.underlying9 zero4 hst'.2 ?_
   generalize hdone:(ls.take i).flatMap (·.2)++x.2.take j=done at hst' htj
   refine⟨done.any fun y=>decide (y.name=f.name),?_,fun hs=>?_,fun hs=>?_⟩
   ·grind
   ·refine⟨hxV.succ hlt2,hJ' hltf _ ?_⟩
    rw[htj]
    refine⟨hst'.1.cg fun k=>by rw[seen_old hs],hst'.2.congr fun k=>?_⟩
    grind
   ·refine⟨by simp,some mb,qAe hst'.1.b7 1 1 (by simp),?_⟩
    refine qDD.str Tryz.underlying312 Tryz.underlying9 hst'.1.map fun o ho=>?_
    have hsi:=hst'.1.up ho
    refine qDD.str Tryz.underlying357 Tryz.underlying9 (hst'.2.set (o:=o) (Ne.symm hne)) fun o2 ho2=>?_
    refine⟨hxV.succ hlt2,hJ' hltf _ ?_⟩
    rw[htj]
    have hsb6:b6≠sb:=fun e=>by have:=h.b6;simp_all
    have hsb7:b7≠sb:=fun e=>by have:=h.b7;simp_all
    have hsbx:bx≠sb:=fun e=>by have:=h.bx;simp_all
    refine⟨?_,ho2.congr fun k=>?_⟩
    ·have h3:=hsi.cg (m':=fun k=>(qBU (done++[f]++d.globals) k).map Value.string) fun k=>by
      rw[seen_new hs]
      grind
     exact⟨h3.sub.set hsV _,h3.nm,h3.n6,h3.map.set hne,by rw[Mem.set_ne hsbx];exact h3.bx,by rw[Mem.set_ne hsb6];exact h3.b6,by rw[Mem.set_ne hsb7];exact h3.b7⟩
    grind
  ·obtain⟨hd,hle⟩:=hxV.done hlt2
   refine⟨hlV.succ hlt,hJ hlt' _ ?_⟩
   simp_all [List.take_of_length_le]
 ·obtain⟨hd,hle⟩:=hlV.done hlt
  rw[List.take_of_length_le hle]at hst
  have hcells:=qAe hst.1.b7 0 3 (by simp)
  refine⟨c,some mb,body,hcells,⟨⟨b6,0,none⟩,_,_,rfl,hst.1.b6,rfl,by simp,?_⟩⟩
  have e7:mb≠b6:=fun e=>by
   obtain⟨es,cl,hm,-,-⟩:=hst.1.map.at_
   have:=hst.1.b6;simp_all
  exact⟨_,rfl,rfl,hst.1.sub.set h.n6 _,h.nm,hst.1.map.set e7,by rw[Mem.set_same];rfl⟩
end
theorem cell3{b:Nat}{c:Option Addr}{mb:Option Nat}{body:Bool}{w:World}(h:w.heap[b]?=some (.cells #[.pointer c,.map mb,.bool body] 314 (0,0))):(loadVar 314 ⟨b,0,none⟩).run Tryz.prog w=.ok (.agg #[.pointer c,.map mb,.bool body]) w :=
 qBW (P:=Tryz.prog) (t:=314) (cs:=.cons (.var .p 0) (.cons (.var .m 1) (.cons (.var .b 2) .nil))) (x:=.agg (.cons (.var .p 0) (.cons (.var .m 1) (.cons (.var .b 2) .nil)))) (ρ:=[.pointer c,.map mb,.bool body]) (β:=id) (o:=0) h (by kernel_rfl)
theorem results113{tmps:Array Value}{b:Nat}{c:Option Addr}{mb:Option Nat}{body:Bool}{w:World}(h6:tmps.getD 6 undef=pv b)(h:w.heap[b]?=some (.cells #[.pointer c,.map mb,.bool body] 314 (0,0))) :
  (results Tryz.f267 tmps).run Tryz.prog w=.ok (.agg #[.pointer c,.map mb,.bool body]) w:=by
 have hr:Tryz.f267.results=#[.cell 6 314]:=by kernel_rfl
 unfold results
 rw[hr]
 have e:asAddr (tmps.getD 6 undef)=pure ⟨b,0,none⟩:=by rw[h6];rfl
 simp only[List.mapM_toArray,List.mapM_cons,List.mapM_nil,Sem.run_bind,Sem.run_map,Sem.run_pure,Result.andThen_ok,e,cell3 h]
 rfl
theorem qFH{V V1 V2 V3:Mem}{w w1 w2 w3:World}{D:Nat}(h1:Frm V w V1 w1)(h2:Frm V1 w1 V2 w2)(hD:w1.heap.size<=D)(hn:V2 D=none)(hW:w2.heap[D]?=some (.deferred (some [])))(h3:Frm V2 w2 V3 w3) :
  Frm V w V3 w3/\w.heap.size<=D/\w3.heap[D]?=some (.deferred (some []))/\V3 D=none:=by
 have hlt:=(Array.getElem?_eq_some_iff.1 hW).1
 refine⟨(h1.trans h2).trans h3,Nat.le_trans h1.size hD,(h3.old D hlt hn).trans hW,?_⟩
 cases hc:V3 D with
 | none=>rfl
 | some o =>
  rcases h3.dom D (by rw[hc];simp) with h|h
  ·grind
  ·omega
theorem scopeC:qHI:=by
 intro V c d body l ls hc hl hls
 refine qHo (c:=qAp Tryz.f267) Tryz.func267 (by kernel_rfl) ?_
 intro w hV
 rw[show flat (qAp Tryz.f267)=c267a++([.block 0 (.rangeFunc (.tmp 24) #[25,26] ((qCu (qAp Tryz.f267) [3,0,0,0]).getD 0 .skip) ((qCu (qAp Tryz.f267) [3,0,0,1]).getD 0 .skip))]++(c267d++[.ret])) from by kernel_rfl]
 have hA:Seg Tryz.prog 63 c267a [(0,.pointer c),(1,.bool body),(2,.slice l.p l.n l.c)] [0,1,2,6,7,24] V fun vs V1=>∃mb bx b6 b7,
   vs=[.pointer c,.bool body,.slice l.p l.n l.c,pv b6,pv b7,.func (.func 311) #[] #[pv bx]]/\SI V c body d mb bx b6 b7 (fun _=>none) V1:=by
  refine s267a ?_
  unfold w267a
  refine GenK.makeMap fun mb hmb=>⟨some mb,rfl,hc.nn,hc.nn,?_,d.gs,?_,?_⟩
  ·obtain⟨cb,mt,mp,t,h1,h2,h3,h4⟩:=hc.at_
   rw[h1];simp[qAa]
  ·exact(hc.sub (Mem.sub_new hmb _)).cell (i:=2) rfl
  refine Tri.mono c296 ?_
  rintro _ V2 ⟨bx,hbx,rfl,rfl⟩
  refine⟨.func (.func 311) #[] #[pv bx],rfl,rfl,fun b6 hb6 b7 hb7=>⟨_,rfl,mb,bx,b6,b7,rfl,?_⟩⟩
  have n1:bx≠mb:=fun e=>by grind [Mem.set_same]
  have n2:b6≠bx:=fun e=>by grind [Mem.set_same]
  have n3:b7≠b6:=fun e=>by grind [Mem.set_same]
  have s1:=Mem.sub_new hmb (.map #[] 0)
  have s2:=Mem.sub_new hbx (cell (.slice d.gs.p d.gs.n d.gs.c) 23)
  have s3:=Mem.sub_new hb6 (.cells #[.pointer none,.map none,.bool false] 314 (0,0))
  have s4:=Mem.sub_new hb7 (.cells #[.pointer c,.map (some mb),.bool body] 314 (0,0))
  refine⟨s1.trans (s2.trans (s3.trans s4)),hmb,?_,(qBo.made V mb).sub (s2.trans (s3.trans s4)),(s3.trans s4) _ _ mss,s4 _ _ mss,Mem.set_same _ _ _⟩
  cases hv:V b6 with
  | none=>rfl
  | some o=>have:=(s1.trans s2) _ _ hv;simp_all
 refine hA.step hV (qId (args:=[.pointer c,.bool body,.slice l.p l.n l.c]) (N:=63) (by simp)) ?_
 rintro a1 w1 vs V1 hd1 hH1 ⟨mb,bx,b6,b7,rfl,hS1⟩ hF1
 show Code.wpIn (qAA none) 0 Tryz.prog _ _ a1 w1
 refine wpIn_block ?_
 have hit:=fun fn lp D hlp=>it311 (V:=V1) (fn':=fn) (tmps:=a1.tmps) (ps:=#[25,26]) (assign:=(qCu (qAp Tryz.f267) [3,0,0,0]).getD 0 .skip) (body:=(qCu (qAp Tryz.f267) [3,0,0,1]).getD 0 .skip) (D:=D) (l:=lp) (bx:=bx) (s:=d.gs) (xs:=d.globals)
  (J:=fun i V2=>SI V c body d mb bx b6 b7 (fun k=>(qBU (d.globals.drop (d.globals.length-i)) k).map Value.string) V2) rfl (fun i V2 hj _=>⟨hj.bx,hc.ok.globals.sub hj.sub⟩) (fun k x hx V2 hj hl2 w2 hw2=>by
   have hk:=(List.getElem?_eq_some_iff.1 hx).1
   refine qGS (N:=63) (insA:=[(7,pv b7),(26,Fld.v x)]) (outsA:=[7,9]) hl2 hw2 (by rw[qKA];simpa using hH1.1) ?_ (scopeAssign x) (fun vs V3 hvs=>?_)
   ·intro s v hs
    rw[qKA]
    simp only[List.lookup_cons]at hs
    split at hs
    ·rename_i e;simp only[beq_iff_eq]at e;subst e;cases hs
     rw[qIe (by decide),qIe (by decide)];exact hH1.get rfl
    ·split at hs
     ·rename_i e;simp only[beq_iff_eq]at e;subst e;cases hs
      exact getD_same (by simp[hH1.1])
     ·cases hs
   ·obtain⟨b,hb,e2,rfl⟩:=hvs
    refine(scopeRound (l:=l) hj x V3 b hb e2).mono fun _ V4 h4=>h4.cg fun y=>?_
    rw[show d.globals.length-(d.globals.length-1-k)=k+1 by omega,show d.globals.length-(d.globals.length-k)=k by omega]
    have e3:d.globals.drop k=x::d.globals.drop (k+1):=by
     grind [List.drop_eq_getElem_cons,List.getElem?_eq_some_iff]
    rw[e3,qGN]
    grind)
  (by simpa [qBU]using hS1) hlp
 refine qGW (Φ:=fun V2=>SI V c body d mb bx b6 b7 (fun k=>(qBU d.globals k).map Value.string) V2) hF1.le (hH1.get (s:=24) rfl) Tryz.call311 (fun fn lp D hlp=>Tri.mono (hit fn lp D hlp) fun e V' h=>?_) ?_
 ·simp_all
 ·intro D V2 W hD hF2 hn2 hW hS2
  show wpL none 0 Tryz.prog _ (c267d++[.ret]) _ W
  refine(scopeTail hS2 hl hls).step hF2.le ⟨hH1.1,fun s v hs=>hH1.2 s v ?_⟩ ?_
  ·simp only[List.zip_cons_cons,List.lookup_cons]at hs ⊢
   repeat' (split at hs <;> first|exact hs|skip)
   simp_all
  ·rintro a3 w3 vs V3 hd3 hH3 ⟨rfl,h1,h2,h3,h4⟩ hF3
   show Code.wpIn (qAA none) 0 Tryz.prog .ret _ a3 w3
   refine wpIn_ret ?_
   obtain⟨g1,g2,g3,g4⟩:=qFH hF1 hF2 hD hn2 hW hF3
   refine⟨.inr rfl,[D],?_,by simp,V3,g1,fun D' hD'=>?_,_,fun w4 hw4=>results113 (hH3.get rfl) (hw4 _ _ h4),mb,rfl,h1,h2,h3⟩
   ·simp_all
   simp_all
structure NI (V:Mem) (d:Ds) (cb mt mp p1 p3:Nat) (f g:ByteArray->Option Value) (V1:Mem):Prop where
 sub:V.sub V1
 nt:V mt=none
 np:V mp=none
 ne:mt≠mp
 ck:V1 cb=some (.cells (d.row++[Value.map (some mt),Value.map (some mp)]).toArray 272 (0,0))
 b1:V1 p1=some (.cells d.row.toArray 30 (0,0))
 b3:V1 p3=some (cell (pv cb) 234)
 mapT:qBo V1 mt f
 mapP:qBo V1 mp g
section
variable{V V1:Mem}{d:Ds}{cb mt mp p1 p3:Nat}{f g f' g':ByteArray->Option Value}
theorem NI.fresh(h:NI V d cb mt mp p1 p3 f g V1){b:Nat}(hb:V1 b=none)(o:Obj):NI V d cb mt mp p1 p3 f g (V1.set b o) :=
 have hs:=Mem.sub_new hb o
 ⟨h.sub.trans hs,h.nt,h.np,h.ne,hs _ _ h.ck,hs _ _ h.b1,hs _ _ h.b3,h.mapT.sub hs,h.mapP.sub hs⟩
theorem qEF{V:Mem}{b m:Nat}{c:Array Value}{t:Nat}{fr:Nat×Nat}{f:ByteArray->Option Value}(h:V b=some (.cells c t fr))(hm:qBo V m f):b≠m:=fun e=>by
 obtain⟨es,cl,hm,-,-⟩:=hm.at_
 simp_all
theorem NI.upT(h:NI V d cb mt mp p1 p3 f g V1){o:Obj}(ho:qBo (V1.set mt o) mt f'):NI V d cb mt mp p1 p3 f' g (V1.set mt o) :=
 ⟨h.sub.set h.nt o,h.nt,h.np,h.ne,by rw[Mem.set_ne (qEF h.ck h.mapT)];exact h.ck,by rw[Mem.set_ne (qEF h.b1 h.mapT)];exact h.b1,by rw[Mem.set_ne (qEF h.b3 h.mapT)];exact h.b3,ho,h.mapP.set (Ne.symm h.ne)⟩
theorem NI.upP(h:NI V d cb mt mp p1 p3 f g V1){o:Obj}(ho:qBo (V1.set mp o) mp g'):NI V d cb mt mp p1 p3 f g' (V1.set mp o) :=
 ⟨h.sub.set h.np o,h.nt,h.np,h.ne,by rw[Mem.set_ne (qEF h.ck h.mapP)];exact h.ck,by rw[Mem.set_ne (qEF h.b1 h.mapP)];exact h.b1,by rw[Mem.set_ne (qEF h.b3 h.mapP)];exact h.b3,h.mapT.set h.ne,ho⟩
theorem NI.cg(h:NI V d cb mt mp p1 p3 f g V1)(e1:∀k,f k=f' k)(e2:∀k,g k=g' k):NI V d cb mt mp p1 p3 f' g' V1:=⟨h.sub,h.nt,h.np,h.ne,h.ck,h.b1,h.b3,h.mapT.congr e1,h.mapP.congr e2⟩
theorem newRoundT(h:NI V d cb mt mp p1 p3 f g V1){bx:Nat}{v:Value}{ty:Nat}(hbx:V1 bx=some (cell v ty))(x:Ty)(V2:Mem)(b:Nat)(hb:V1 b=none)(e2:V2=V1.set b (.cells x.row.toArray 98 (0,0))) :
  Seg Tryz.prog 38 c158c [(3,pv p3),(5,pv b)] [] V2 fun _ V3=>NI V d cb mt mp p1 p3 (fun k=>if k=x.name then some x.v else f k) g V3/\V3 bx=some (cell v ty):=by
 subst e2
 have h2:=h.fresh hb (.cells x.row.toArray 98 (0,0))
 have hbx2:=Mem.sub_new hb (.cells x.row.toArray 98 (0,0)) _ _ hbx
 refine s158c ?_
 unfold w158c
 refine⟨_,qBJ h2.b3,by simp,by simp,some mt,qAe h2.ck 8 1 (by simp[Ds.row]),by simp,x.name,qAe mss 0 1 (by simp[Ty.row]),x.name,x.fs,qAe mss 0 2 (by simp[Ty.row]),?_⟩
 exact qDD.str Tryz.underlying269 Tryz.underlying9 h2.mapT fun o ho=>⟨_,rfl,h2.upT ho,by rw[Mem.set_ne (qEF hbx2 h2.mapT)];exact hbx2⟩
theorem newRoundP(h:NI V d cb mt mp p1 p3 f g V1){bx:Nat}{v:Value}{ty:Nat}(hbx:V1 bx=some (cell v ty))(x:Pr)(V2:Mem)(b:Nat)(hb:V1 b=none)(e2:V2=V1.set b (.cells x.row.toArray 143 (0,0))) :
  Seg Tryz.prog 38 c158f [(3,pv p3),(7,pv b)] [] V2 fun _ V3=>NI V d cb mt mp p1 p3 f (fun k=>if k=x.name then some x.v else g k) V3/\V3 bx=some (cell v ty):=by
 subst e2
 have h2:=h.fresh hb (.cells x.row.toArray 143 (0,0))
 have hbx2:=Mem.sub_new hb (.cells x.row.toArray 143 (0,0)) _ _ hbx
 refine s158f ?_
 unfold w158f
 refine⟨_,qBJ h2.b3,by simp,by simp,some mp,qAe h2.ck 9 1 (by simp[Ds.row]),by simp,x.name,qAe mss 0 1 (by simp[Pr.row]),x.name,x.ps,x.result,x.ls,x.bs,qAe mss 0 5 (by simp[Pr.row]),?_⟩
 exact qDD.str Tryz.underlying270 Tryz.underlying9 h2.mapP fun o ho=>⟨_,rfl,h2.upP ho,by rw[Mem.set_ne (qEF hbx2 h2.mapP)];exact hbx2⟩
theorem newAssignT(x:Ty):Seg Tryz.prog 38 c158b [(3,pv p3),(17,Ty.v x)] [3,5] V1 fun vs V2=>∃b,V1 b=none/\V2=V1.set b (.cells x.row.toArray 98 (0,0))/\vs=[pv p3,pv b]:=by
 refine s158b (b:=x.name) (c:=x.fs) ?_
 unfold w158b
 exact fun b hb=>⟨_,rfl,b,hb,rfl,rfl⟩
theorem newAssignP(x:Pr):Seg Tryz.prog 38 c158e [(3,pv p3),(29,Pr.v x)] [3,7] V1 fun vs V2=>∃b,V1 b=none/\V2=V1.set b (.cells x.row.toArray 143 (0,0))/\vs=[pv p3,pv b]:=by
 refine s158e (b:=x.name) (c:=x.ps) (d:=x.result) (g:=x.ls) (i:=x.bs) ?_
 unfold w158e
 exact fun b hb=>⟨_,rfl,b,hb,rfl,rfl⟩
end
theorem qLi{N:Nat}{a:Act}{p q r:Nat}{l:List (Nat×Value)}{vr u z:Value}(hH:Has N a l)(hr:l.lookup r=some vr)(hp:r≠p)(hq:r≠q)(hlt:q<N):Has N { tmps:=(#[p,q].zip #[u,z]).foldl (fun t (p,v)=>t.setIfInBounds p v) a.tmps,defers:=[] } [(r,vr),(q,z)]:=by
 refine⟨by rw[qKA];simpa using hH.1,fun s v hs=>?_⟩
 rw[qKA]
 simp only[List.lookup_cons]at hs
 split at hs
 ·rename_i e;simp only[beq_iff_eq]at e;subst e;cases hs
  rw[qIe hq,qIe hp];exact hH.get hr
 ·split at hs
  ·rename_i e;simp only[beq_iff_eq]at e;subst e;cases hs
   exact getD_same (by simp[hH.1,hlt])
  ·cases hs
theorem mark_keep{V V1:Mem}{w w1:World}{D:Nat}(h:Frm V w V1 w1)(hn:V D=none)(hW:w.heap[D]?=some (.deferred (some []))):w1.heap[D]?=some (.deferred (some []))/\V1 D=none:=by
 have hlt:=(Array.getElem?_eq_some_iff.1 hW).1
 refine⟨(h.old D hlt hn).trans hW,?_⟩
 cases hc:V1 D with
 | none=>rfl
 | some o =>
  rcases h.dom D (by rw[hc];simp) with h|h
  ·grind
  ·omega
theorem find_drop{α:Type}{l:List α}{nm:α->ByteArray}{vv:α->Value}{k:Nat}{x:α}(hx:l[k]?=some x)(y:ByteArray) :
  (if y=nm x then some (vv x) else ((l.drop (l.length-(l.length-1-k))).find? fun t=>decide (nm t=y)).map vv)=((l.drop (l.length-(l.length-k))).find? fun t=>decide (nm t=y)).map vv:=by
 have hk:=(List.getElem?_eq_some_iff.1 hx).1
 rw[show l.length-(l.length-1-k)=k+1 by omega,show l.length-(l.length-k)=k by omega]
 have e3:l.drop k=x::l.drop (k+1):=by
  grind [List.drop_eq_getElem_cons,List.getElem?_eq_some_iff]
 grind
theorem newC:NewC:=by
 intro V d hd
 refine qHo (c:=qAp Tryz.f158) Tryz.func158 (by kernel_rfl) ?_
 intro w hV
 rw[show flat (qAp Tryz.f158)=c158a++([.block 0 (.rangeFunc (.tmp 15) #[16,17] ((qCu (qAp Tryz.f158) [3,0,0,0]).getD 0 .skip) ((qCu (qAp Tryz.f158) [3,0,0,1]).getD 0 .skip))] ++
  (c158d++([.block 2 (.rangeFunc (.tmp 27) #[28,29] ((qCu (qAp Tryz.f158) [5,0,0,0]).getD 0 .skip) ((qCu (qAp Tryz.f158) [5,0,0,1]).getD 0 .skip))]++(c158g++[.ret])))) from by kernel_rfl]
 have hA:Seg Tryz.prog 38 c158a [(0,d.v)] [1,3,15] V fun vs V1=>∃cb mt mp p1 p3 bx,
   vs=[pv p1,pv p3,.func (.func 218) #[] #[pv bx]]/\NI V d cb mt mp p1 p3 (fun _=>none) (fun _=>none) V1/\V1 bx=some (cell (.slice d.ts.p d.ts.n d.ts.c) 22):=by
  refine s158a (a:=d.name) (b:=d.ts) (c:=d.gs) (d:=d.ps) (g:=d.ms) (i:=d.is) (j:=d.qs) (k:=d.bs) ?_
  unfold w158a
  refine GenK.makeMap fun mt hmt=>⟨some mt,rfl,GenK.makeMap fun mp hmp=>⟨some mp,rfl,?_⟩⟩
  refine Tri.mono c189 ?_
  rintro _ V2 ⟨bx,hbx,rfl,rfl⟩
  refine⟨.func (.func 218) #[] #[pv bx],rfl,rfl,fun p1 hp1 cb hcb p3 hp3=>⟨_,rfl,cb,mt,mp,p1,p3,bx,rfl,?_,?_⟩⟩
  all_goals
   have s1:=Mem.sub_new hmt (.map #[] 0)
   have s2:=Mem.sub_new hmp (.map #[] 0)
   have s3:=Mem.sub_new hbx (cell (.slice d.ts.p d.ts.n d.ts.c) 22)
   have s4:=Mem.sub_new hp1 (.cells d.row.toArray 30 (0,0))
   have s5:=Mem.sub_new hcb (.cells (d.row++[Value.map (some mt),Value.map (some mp)]).toArray 272 (0,0))
   have s6:=Mem.sub_new hp3 (cell (pv cb) 234)
  ·have nmp:mt≠mp:=fun e=>by grind [Mem.set_same]
   refine⟨s1.trans (s2.trans (s3.trans (s4.trans (s5.trans s6)))),hmt,?_,nmp,s6 _ _ mss,(s5.trans s6) _ _ mss,Mem.set_same _ _ _,(qBo.made V mt).sub (s2.trans (s3.trans (s4.trans (s5.trans s6)))),(qBo.made (V.set mt (.map #[] 0)) mp).sub (s3.trans (s4.trans (s5.trans s6)))⟩
   cases hv:V mp with
   | none=>rfl
   | some o=>have:=s1 _ _ hv;simp_all
  ·exact(s4.trans (s5.trans s6)) _ _ mss
 refine hA.step hV (qId (args:=[d.v]) (N:=38) (by simp)) ?_
 rintro a1 w1 vs V1 hd1 hH1 ⟨cb,mt,mp,p1,p3,bx,rfl,hN1,hbx1⟩ hF1
 show Code.wpIn (qAA none) 0 Tryz.prog _ _ a1 w1
 refine wpIn_block ?_
 have hit:=fun fn lp D hlp=>it218 (V:=V1) (fn':=fn) (tmps:=a1.tmps) (ps:=#[16,17]) (assign:=(qCu (qAp Tryz.f158) [3,0,0,0]).getD 0 .skip) (body:=(qCu (qAp Tryz.f158) [3,0,0,1]).getD 0 .skip) (D:=D) (l:=lp) (bx:=bx) (s:=d.ts) (xs:=d.types)
  (J:=fun i V2=>NI V d cb mt mp p1 p3 (fun y=>((d.types.drop (d.types.length-i)).find? fun t=>decide (t.name=y)).map Ty.v) (fun _=>none) V2/\V2 bx=some (cell (.slice d.ts.p d.ts.n d.ts.c) 22)) rfl (fun i V2 hj _=>⟨hj.2,hd.types.sub hj.1.sub⟩) (fun k x hx V2 hj hl2 w2 hw2=>by
   refine qGS (N:=38) (insA:=[(3,pv p3),(17,Ty.v x)]) (outsA:=[3,5]) hl2 hw2 (qLi (u:=.int .i64 k) (z:=Ty.v x) (p:=16) (q:=17) (r:=3) hH1 rfl (by decide) (by decide) (by decide)).1 (qLi (p:=16) (q:=17) (r:=3) hH1 rfl (by decide) (by decide) (by decide)).2 (newAssignT x) (fun vs V3 hvs=>?_)
   obtain⟨b,hb,e2,rfl⟩:=hvs
   exact(newRoundT hj.1 hj.2 x V3 b hb e2).mono fun _ V4 h4=>⟨h4.1.cg (find_drop (nm:=Ty.name) (vv:=Ty.v) hx) fun _=>rfl,h4.2⟩)
  ⟨by simpa using hN1,hbx1⟩ hlp
 refine qGW (Φ:=fun V2=>NI V d cb mt mp p1 p3 (fun y=>(qJC d y).map Ty.v) (fun _=>none) V2) hF1.le (hH1.get (s:=15) rfl) Tryz.call218 (fun fn lp D hlp=>Tri.mono (hit fn lp D hlp) fun e V' h=>?_) ?_
 ·obtain⟨h1,V2,h2,h3,h4⟩:=h
  exact⟨h1,V2,h2,h3,by simpa [qJC]using h4.1⟩
 intro D V2 W hD hF2 hn2 hW hN2
 show wpL none 0 Tryz.prog _ (c158d++_) _ W
 have hS:Seg Tryz.prog 38 c158d [(1,pv p1),(3,pv p3)] [3,27] V2 fun vs V3=>∃bx,vs=[pv p3,.func (.func 219) #[] #[pv bx]]/\NI V d cb mt mp p1 p3 (fun y=>(qJC d y).map Ty.v) (fun _=>none) V3/\V3 bx=some (cell (.slice d.ps.p d.ps.n d.ps.c) 24):=by
  refine s158d ?_
  unfold w158d
  refine⟨by simp,d.ps,qAe hN2.b1 3 1 (by simp[Ds.row]),?_⟩
  refine Tri.mono c190 ?_
  rintro _ V3 ⟨bx,hbx,rfl,rfl⟩
  exact⟨.func (.func 219) #[] #[pv bx],rfl,rfl,_,rfl,bx,rfl,hN2.fresh hbx _,Mem.set_same _ _ _⟩
 refine hS.step hF2.le ⟨hH1.1,fun s v hs=>hH1.2 s v ?_⟩ ?_
 ·grind [List.zip_cons_cons]
 rintro a3 w3 vs V3 hd3 hH3 ⟨bx2,rfl,hN3,hbx3⟩ hF3
 show Code.wpIn (qAA none) 0 Tryz.prog _ _ a3 w3
 refine wpIn_block ?_
 have hit2:=fun fn lp D hlp=>it219 (V:=V3) (fn':=fn) (tmps:=a3.tmps) (ps:=#[28,29]) (assign:=(qCu (qAp Tryz.f158) [5,0,0,0]).getD 0 .skip) (body:=(qCu (qAp Tryz.f158) [5,0,0,1]).getD 0 .skip) (D:=D) (l:=lp) (bx:=bx2) (s:=d.ps) (xs:=d.procs)
  (J:=fun i V2=>NI V d cb mt mp p1 p3 (fun y=>(qJC d y).map Ty.v) (fun y=>((d.procs.drop (d.procs.length-i)).find? fun t=>decide (t.name=y)).map Pr.v) V2/\V2 bx2=some (cell (.slice d.ps.p d.ps.n d.ps.c) 24)) rfl (fun i V2 hj _=>⟨hj.2,hd.procs.sub hj.1.sub⟩) (fun k x hx V2 hj hl2 w2 hw2=>by
   refine qGS (N:=38) (insA:=[(3,pv p3),(29,Pr.v x)]) (outsA:=[3,7]) hl2 hw2 (qLi (u:=.int .i64 k) (z:=Pr.v x) (p:=28) (q:=29) (r:=3) hH3 rfl (by decide) (by decide) (by decide)).1 (qLi (p:=28) (q:=29) (r:=3) hH3 rfl (by decide) (by decide) (by decide)).2 (newAssignP x) (fun vs V3 hvs=>?_)
   obtain⟨b,hb,e2,rfl⟩:=hvs
   exact(newRoundP hj.1 hj.2 x V3 b hb e2).mono fun _ V4 h4=>⟨h4.1.cg (fun _=>rfl) (find_drop (nm:=Pr.name) (vv:=Pr.v) hx),h4.2⟩)
  ⟨by simpa using hN3,hbx3⟩ hlp
 refine qGW (Φ:=fun V2=>NI V d cb mt mp p1 p3 (fun y=>(qJC d y).map Ty.v) (fun y=>(qFm d y).map Pr.v) V2) hF3.le (hH3.get (s:=27) rfl) Tryz.call219 (fun fn lp D hlp=>Tri.mono (hit2 fn lp D hlp) fun e V' h=>?_) ?_
 ·obtain⟨h1,V2,h2,h3,h4⟩:=h
  exact⟨h1,V2,h2,h3,by simpa [qFm]using h4.1⟩
 intro D2 V4 W4 hD2 hF4 hn4 hW4 hN4
 show wpL none 0 Tryz.prog _ (c158g++_) _ W4
 have hS2:Seg Tryz.prog 38 c158g [(3,pv p3)] [2] V4 fun vs V5=>V5=V4/\vs=[pv cb]:=by
  refine s158g ?_
  unfold w158g
  exact⟨_,qBJ hN4.b3,_,rfl,rfl,rfl⟩
 refine hS2.step hF4.le ⟨hH3.1,fun s v hs=>hH3.2 s v ?_⟩ ?_
 ·grind [List.zip_cons_cons]
 rintro a5 w5 vs V5 hd5 hH5 ⟨rfl,rfl⟩ hF5
 show Code.wpIn (qAA none) 0 Tryz.prog .ret _ a5 w5
 refine wpIn_ret ?_
 obtain⟨g1,g2,g3,g4⟩:=qFH hF1 hF2 hD hn2 hW hF3
 obtain⟨k1,k2,k3,k4⟩:=qFH g1 hF4 hD2 hn4 hW4 hF5
 obtain⟨m1,m2⟩:=mark_keep (hF4.trans hF5) g4 g3
 have hDlt:D<w3.heap.size:=(Array.getElem?_eq_some_iff.1 g3).1
 refine⟨.inr rfl,[D2,D],?_,by simp;omega,_,k1,fun D' hD'=>?_,_,fun w6 hw6=>results_tmp (t:=2) (by kernel_rfl) _ _ _,some ⟨cb,0,none⟩,by rw[hH5.get rfl],hN4.sub,?_⟩
 ·simp_all
 ·grind
 ·exact⟨⟨cb,mt,mp,272,rfl,hN4.ck,hN4.mapT,hN4.mapP⟩,hd.sub hN4.sub⟩
section
variable{P:Program}{V:Mem}{ty:Nat}{vals:Operand->Value}
theorem GenK.shr{t u:TypeId}{x:Operand}{k kk:IntKind}{n c:Int}(hx:vals x=.int k n)(hy:vals (.const (.int kk c))=.int kk c)(hc:¬c<0){q:Value->Mem->Prop}(hq:q (.int k (n.fdiv (2 ^ (min c.toNat k.bits)))) V):GenK P (.binOp .shr t x (.const (.int kk c)) u) ty vals V q:=by
 intro w hw
 refine⟨_,w,V,?_,Frm.refl hw,hq⟩
 unfold execOp
 simp[hx,hy,binOp,Op.shift,hc,eqGuard]
theorem GenK.max2{a b:Operand}{ts:Array TypeId}{n1 n2:Int}(h1:vals a=.int .i64 n1)(h2:vals b=.int .i64 n2){q:Value->Mem->Prop}(hq:q (.int .i64 (if n1<n2 then n2 else n1)) V):GenK P (.call { callee:=.builtin .max,args:=#[a,b],argTypes:=ts }) ty vals V q:=by
 intro w hw
 refine⟨_,w,V,?_,Frm.refl hw,hq⟩
 unfold execOp
 simp only[resolve,invoke,builtin,Sem.run_bind,Sem.run_pure,Result.andThen_ok,List.map_toArray,List.map_cons,List.map_nil,h1,h2]
 rfl
theorem GenK.min2{a b:Operand}{ts:Array TypeId}{n1 n2:Int}(h1:vals a=.int .i64 n1)(h2:vals b=.int .i64 n2){q:Value->Mem->Prop}(hq:q (.int .i64 (if n2<n1 then n2 else n1)) V):GenK P (.call { callee:=.builtin .min,args:=#[a,b],argTypes:=ts }) ty vals V q:=by
 intro w hw
 refine⟨_,w,V,?_,Frm.refl hw,hq⟩
 unfold execOp
 simp only[resolve,invoke,builtin,Sem.run_bind,Sem.run_pure,Result.andThen_ok,List.map_toArray,List.map_cons,List.map_nil,h1,h2]
 rfl
theorem GenK.iface{t:TypeId}{ts:Array Field}{x:Operand}{v:Value}(ht:P.underlying t=some (.struct ts))(hx:vals x=v){q:Value->Mem->Prop}(hq:q (.iface t v) V):GenK P (.makeInterface t x) ty vals V q:=by
 intro w hw
 refine⟨_,w,V,?_,Frm.refl hw,hq⟩
 unfold execOp
 simp[hx,Instr.makeInterface,run_underlying ht,Sem.run_bind]
end
section
variable{V:Mem}
theorem qLs{n:Nat}{k:Nat}:((n:Int)).fdiv (2 ^ k)=((n / 2 ^ k:Nat):Int):=by
 grind
theorem inU(n:Nat)(h:n<18446744073709551616):K.inR .u64 (n:Int):=K.inR_iff.2 (by simp[IntKind.min,IntKind.max,IntKind.signed,IntKind.bits];omega)
end
abbrev qIY:ByteArray:=qAm [0,1,2,2,3,3,3,3,4,4,4,4,4,4,4,4,5,5,5,5,5,5,5,5,5,5,5,5,5,5,5,5,6,6,6,6,6,6,6,6,6,6,6,6,6,6,6,6,6,6,6,6,6,6,6,6,6,6,6,6,6,6,6,6,7,7,7,7,7,7,7,7,7,7,7,7,7,7,7,7,7,7,7,7,7,7,7,7,7,7,7,7,7,7,7,7,7,7,7,7,7,7,7,7,7,7,7,7,7,7,7,7,7,7,7,7,7,7,7,7,7,7,7,7,7,7,7,7,8,8,8,8,8,8,8,8,8,8,8,8,8,8,8,8,8,8,8,8,8,8,8,8,8,8,8,8,8,8,8,8,8,8,8,8,8,8,8,8,8,8,8,8,8,8,8,8,8,8,8,8,8,8,8,8,8,8,8,8,8,8,8,8,8,8,8,8,8,8,8,8,8,8,8,8,8,8,8,8,8,8,8,8,8,8,8,8,8,8,8,8,8,8,8,8,8,8,8,8,8,8,8,8,8,8,8,8,8,8,8,8,8,8,8,8,8,8,8,8,8,8,8,8,8,8,8,8]
def lenN(n:Nat):Int:=if n=0 then 0 else (Nat.log2 n:Int)+1
theorem lenTab_at{n:Nat}(h:n<256):qBd qIY (n:Int)=lenN n:=by
 have:((List.range 256).all fun n=>decide (qBd qIY (n:Int)=lenN n))=true:=by kernel_rfl
 simp_all
theorem log2_shift{n k:Nat}(h:2 ^ k<=n):Nat.log2 n=k+Nat.log2 (n / 2 ^ k):=by
 have hp:0<2 ^ k:=Nat.two_pow_pos k
 have h0:n / 2 ^ k≠0:=by
  simp_all
 have hn:n≠0:=by omega
 have key:∀j,j<=Nat.log2 (n / 2 ^ k)↔k+j<=Nat.log2 n:=fun j=>by
  rw[Nat.le_log2 h0,Nat.le_log2 hn,Nat.le_div_iff_mul_le hp,<- Nat.pow_add,Nat.add_comm]
 have h1:=(key (Nat.log2 (n / 2 ^ k))).1 (Nat.le_refl _)
 have h2:k<=Nat.log2 n:=(Nat.le_log2 hn).2 h
 have h3:=(key (Nat.log2 n-k)).2 (by omega)
 omega
theorem qDJ{n k:Nat}(h:2 ^ k<=n):lenN n=k+lenN (n / 2 ^ k):=by
 have hp:0<2 ^ k:=Nat.two_pow_pos k
 have h0:n / 2 ^ k≠0:=by
  simp_all
 unfold lenN
 rw[if_neg (by omega),if_neg h0,log2_shift h]
 omega
theorem lenN_small{n:Nat}(h:n<256):0<=lenN n/\lenN n<=8:=by
 unfold lenN
 split
 ·omega
 ·rename_i h0
  have:Nat.log2 n<8:=(Nat.log2_lt h0).2 h
  omega
section
variable{V:Mem}
theorem c303{n:Nat}(hn:n<=1099511627776):PP 303 [.int .u64 n] V (.int .i64 (lenN n)):=by
 refine x303 ?_
 unfold w303
 have shr:∀(k:Nat) (c:Int),min c.toNat IntKind.u64.bits=k->(n:Int).fdiv (2 ^ (min c.toNat IntKind.u64.bits))=((n / 2 ^ k:Nat):Int):=fun k c h=>by rw[h,qLs]
 have leaf:∀(k c:Nat),k<256->c<=64->lenN n=c+lenN k->∀v:Int,v=(k:Int)->∀c':Int,c'=(c:Int)->K.inR .u8 v/\(0<=v/\v<(qIY.size:Int))/\IR (qBd qIY v)/\IR (c'+qBd qIY v)/\(rV (uI (c'+qBd qIY v))=Ending.returned (.int .i64 (lenN n))/\V=V):=by
  rintro k c h1 h2 h3 _ rfl _ rfl
  have h4:=lenN_small h1
  have hs:qIY.size=256:=by kernel_rfl
  rw[lenTab_at h1,hs,h3]
  exact⟨⟨by omega,by omega⟩,⟨by omega,by omega⟩,⟨by omega,by omega⟩,⟨by omega,by omega⟩,rfl,rfl⟩
 refine⟨fun h1=>GenK.shr rfl rfl (by decide) ⟨_,rfl,?_⟩,fun h1=>⟨fun h2=>GenK.shr rfl rfl (by decide) ⟨_,rfl,⟨by omega,by omega⟩,?_⟩,fun h2=>⟨fun h3=>GenK.shr rfl rfl (by decide) ⟨_,rfl,⟨by omega,by omega⟩,?_⟩,fun h3=>?_⟩⟩⟩
 ·rw[shr 32 _ rfl]
  have e:=qDJ (n:=n) (k:=32) (by omega)
  have hb:n / 2 ^ 32<=256:=by omega
  refine⟨fun h=>by omega,fun _=>⟨fun h2=>GenK.shr rfl rfl (by decide) ⟨_,rfl,⟨by omega,by omega⟩,?_⟩,fun h2=>leaf _ 32 (by omega) (by omega) (by omega) _ rfl _ rfl⟩⟩
  have e2:=qDJ (n:=n / 2 ^ 32) (k:=8) (by omega)
  have:((n / 2 ^ 32:Nat):Int).fdiv (2 ^ (min (8:Int).toNat IntKind.u64.bits))=((n / 2 ^ 32 / 2 ^ 8:Nat):Int):=by
   rw[show min (8:Int).toNat IntKind.u64.bits=8 from rfl,qLs]
  rw[this]
  exact leaf _ 40 (by omega) (by omega) (by omega) _ rfl _ rfl
 ·rw[shr 16 _ rfl]
  have e:=qDJ (n:=n) (k:=16) (by omega)
  refine⟨fun h=>GenK.shr rfl rfl (by decide) ⟨_,rfl,⟨by omega,by omega⟩,?_⟩,fun h=>leaf _ 16 (by omega) (by omega) (by omega) _ rfl _ rfl⟩
  have e2:=qDJ (n:=n / 2 ^ 16) (k:=8) (by omega)
  have:((n / 2 ^ 16:Nat):Int).fdiv (2 ^ (min (8:Int).toNat IntKind.u64.bits))=((n / 2 ^ 16 / 2 ^ 8:Nat):Int):=by
   rw[show min (8:Int).toNat IntKind.u64.bits=8 from rfl,qLs]
  rw[this]
  exact leaf _ 24 (by omega) (by omega) (by omega) _ rfl _ rfl
 ·rw[shr 8 _ rfl]
  have e:=qDJ (n:=n) (k:=8) (by omega)
  exact leaf _ 8 (by omega) (by omega) (by omega) _ rfl _ rfl
 ·exact leaf _ 0 (by omega) (by omega) (by omega) _ rfl _ rfl
theorem c272{n:Nat}(hn:n<=1099511627776):PP 272 [.int .u64 n] V (.int .i64 (lenN n)):=by
 refine x272 ?_
 unfold w272
 exact(c303 hn).call ⟨_,rfl,rfl,rfl⟩
end
end Go.Proofs
