/- Part 14: no statement of the seat is proved here. -/
import Derived.Test.YtmeagdecjpknkaaGreatDoorPs04
import Derived.Test.YtmeagdecjpknkaaGreatDoorPs13
import Derived.Test.YtmeagdecjpknkaaGreatDoorPs11
import Derived.Test.YtmeagdecjpknkaaGreatDoorPs12
set_option linter.unusedVariables false
set_option linter.unusedSimpArgs false
open Go.Proofs.Tryz renaming prog->xE,f311->wQ,f218->wR,f219->wS,f267->wT,f158->wU,underlying312->xv,underlying9->xw,underlying357->wy
open List renaming range'->wG,lookup_cons->zd,zip_cons_cons->wX,range->zB,getElem?_eq_some_iff->yv,take_of_length_le->wx,drop_eq_getElem_cons->wv,map_toArray->y7
open Go.Sem renaming run_bind->zK,run_pure->zM
open Go.Result renaming andThen_ok->zL
open Array renaming replicate->wI,getD_eq_getD_getElem?->wY,getElem?_setIfInBounds_ne->wZ,getElem?_eq_some_iff->yA
open Go.Code renaming wpIn->wW
open Ne renaming symm->wz
open Go.RowKit.Below renaming heap_alloc->xP
open Go.Value renaming string->xI,map->zz
open Nat renaming log2->wu,two_pow_pos->wq,le_log2->wo
open Go.IntKind renaming u64->wm
namespace Go.Proofs
open Go Go.Sx
set_option maxRecDepth 100000
section
variable{V:Mem}{R:RP}
theorem qBx{H:qHO}{N:Nat}{cs:List Code}(slots:List (Nat×T)){outs:List Nat}(ρ:List Value){k:List (Nat×Value)}(t:k=slots.map λx=>(x.1,x.2.ev ρ id)){V:Mem}{R:KZ}{q:Prop}
  (u:q=DT xE {} (OV R) (segT xE fs {H with N:=N} cs slots ρ.length outs) [] ρ V) (h:q):Seg xE N cs k outs V R:=
 seg_sound (H:=H) qIP qLI rfl ρ rfl t u h
theorem qAI{H:qHO}{N:Nat}{ops:Array Oper}{k m:Nat}(slots:List (Nat×T)){outs:List Nat}(ρ:List Value){t:List (Nat×Value)}(u:t=slots.map λx=>(x.1,x.2.ev ρ id)){V:Mem}{R:KZ}{q:Prop}
  (w:q=DT xE {} (OV R) (segOT xE fs {H with N:=N} ops k m slots ρ.length outs) [] ρ V) (h:q):qDB xE N ops k m t outs V R:=
 sego_sound (H:=H) qIP rfl ρ rfl u w h
noncomputable def c311a:List Code:=((qCK (qAs wQ) []).drop 0).take 1
def w311a(a:Value)(b:Option Addr):MR:=λV R=>∃c,V.rowp b ((0:Int).toNat*1) 1=some [uL c]/\IR ((c.n:Int)-1)/\R (rT #[K.cast .f a,uP b,uI ((c.n:Int)-1)]) V
theorem s311a{a:Value}{b:Option Addr}{V:Mem}{R:KZ}(h:w311a a b V (OV R)):Seg xE 19 c311a [(0,K.cast .f a),(1,uP b)] [0,1,3] V R:=
 qBx (H:=hK 19) [(0,(.var .f 0)),(1,(.var .p 1))] [a,uP b] rfl (by kernel_rfl) h
noncomputable def c311b:List Code:=((qCK (qAs wQ) [1,0,0,0]).drop 0).take 1
def w311b(a:Value)(b:Option Addr)(c:Int):MR:=λV R=>R (rT #[K.cast .f a,uP b,uI c,uB (decide (0<=c))]) V
theorem s311b{a:Value}{b:Option Addr}{c:Int}{V:Mem}{R:KZ}(h:w311b a b c V (OV R)):Seg xE 19 c311b [(0,K.cast .f a),(1,uP b),(3,uI c)] [0,1,3,8] V R:=
 qBx (H:=hK 19) [(0,(.var .f 0)),(1,(.var .p 1)),(3,(.var (.i .i64) 2))] [a,uP b,uI c] rfl (by kernel_rfl) h
noncomputable def c311c:Array Oper:=qFf ((qCK (qAs wQ) [1,0,0,0,2,0]).getD 0 .skip)
def w311c(a:Value)(b:Option Addr)(c:Int):MR:=λV R=>∃d,V.rowp b ((0:Int).toNat*1) 1=some [uL d]/\Ix d c (∃g i,V.rowp d.p (c.toNat*2) 2=some [uS g,uS i]/\R (rT #[K.cast .f a,uP b,uI c,K.cast .f a,uI c,uA #[uS g,uS i]]) V)
theorem s311c{a:Value}{b:Option Addr}{c:Int}{V:Mem}{R:KZ}(h:w311c a b c V (OV R)):qDB xE 19 c311c 0 6 [(0,K.cast .f a),(1,uP b),(3,uI c)] [0,1,3,11,12,16] V R:=
 qAI (H:=hK 19) [(0,(.var .f 0)),(1,(.var .p 1)),(3,(.var (.i .i64) 2))] [a,uP b,uI c] rfl (by kernel_rfl) h
noncomputable def c311d:Array Oper:=qFf ((qCK (qAs wQ) [1,0,0,0,2,0]).getD 0 .skip)
def w311d(a:Value)(b:Option Addr)(c:Int)(d:Bool):MR:=λV R=>R (rT #[K.cast .f a,uP b,uI c,uB (!d)]) V
theorem s311d{a:Value}{b:Option Addr}{c:Int}{d:Bool}{V:Mem}{R:KZ}(h:w311d a b c d V (OV R)):qDB xE 19 c311d 7 1 [(0,K.cast .f a),(1,uP b),(3,uI c),(17,uB d)] [0,1,3,18] V R:=
 qAI (H:=hK 19) [(0,(.var .f 0)),(1,(.var .p 1)),(3,(.var (.i .i64) 2)),(17,(.var .b 3))] [a,uP b,uI c,uB d] rfl (by kernel_rfl) h
noncomputable def c311e:List Code:=((qCK (qAs wQ) [1,0,0,0]).drop 3).take 1
def w311e(a:Value)(b:Option Addr)(c:Int):MR:=λV R=>IR (c-1)/\R (rT #[K.cast .f a,uP b,uI (c-1)]) V
theorem s311e{a:Value}{b:Option Addr}{c:Int}{V:Mem}{R:KZ}(h:w311e a b c V (OV R)):Seg xE 19 c311e [(0,K.cast .f a),(1,uP b),(3,uI c)] [0,1,3] V R:=
 qBx (H:=hK 19) [(0,(.var .f 0)),(1,(.var .p 1)),(3,(.var (.i .i64) 2))] [a,uP b,uI c] rfl (by kernel_rfl) h
noncomputable def c218a:List Code:=((qCK (qAs wR) []).drop 0).take 1
def w218a(a:Value)(b:Option Addr):MR:=λV R=>∃c,V.rowp b ((0:Int).toNat*1) 1=some [uL c]/\IR ((c.n:Int)-1)/\R (rT #[K.cast .f a,uP b,uI ((c.n:Int)-1)]) V
theorem s218a{a:Value}{b:Option Addr}{V:Mem}{R:KZ}(h:w218a a b V (OV R)):Seg xE 19 c218a [(0,K.cast .f a),(1,uP b)] [0,1,3] V R:=
 qBx (H:=hK 19) [(0,(.var .f 0)),(1,(.var .p 1))] [a,uP b] rfl (by kernel_rfl) h
noncomputable def c218b:List Code:=((qCK (qAs wR) [1,0,0,0]).drop 0).take 1
def w218b(a:Value)(b:Option Addr)(c:Int):MR:=λV R=>R (rT #[K.cast .f a,uP b,uI c,uB (decide (0<=c))]) V
theorem s218b{a:Value}{b:Option Addr}{c:Int}{V:Mem}{R:KZ}(h:w218b a b c V (OV R)):Seg xE 19 c218b [(0,K.cast .f a),(1,uP b),(3,uI c)] [0,1,3,8] V R:=
 qBx (H:=hK 19) [(0,(.var .f 0)),(1,(.var .p 1)),(3,(.var (.i .i64) 2))] [a,uP b,uI c] rfl (by kernel_rfl) h
noncomputable def c218c:Array Oper:=qFf ((qCK (qAs wR) [1,0,0,0,2,0]).getD 0 .skip)
def w218c(a:Value)(b:Option Addr)(c:Int):MR:=λV R=>∃d,V.rowp b ((0:Int).toNat*1) 1=some [uL d]/\Ix d c (∃g i,V.rowp d.p (c.toNat*2) 2=some [uS g,uL i]/\R (rT #[K.cast .f a,uP b,uI c,K.cast .f a,uI c,uA #[uS g,uL i]]) V)
theorem s218c{a:Value}{b:Option Addr}{c:Int}{V:Mem}{R:KZ}(h:w218c a b c V (OV R)):qDB xE 19 c218c 0 6 [(0,K.cast .f a),(1,uP b),(3,uI c)] [0,1,3,11,12,16] V R:=
 qAI (H:=hK 19) [(0,(.var .f 0)),(1,(.var .p 1)),(3,(.var (.i .i64) 2))] [a,uP b,uI c] rfl (by kernel_rfl) h
noncomputable def c218d:Array Oper:=qFf ((qCK (qAs wR) [1,0,0,0,2,0]).getD 0 .skip)
def w218d(a:Value)(b:Option Addr)(c:Int)(d:Bool):MR:=λV R=>R (rT #[K.cast .f a,uP b,uI c,uB (!d)]) V
theorem s218d{a:Value}{b:Option Addr}{c:Int}{d:Bool}{V:Mem}{R:KZ}(h:w218d a b c d V (OV R)):qDB xE 19 c218d 7 1 [(0,K.cast .f a),(1,uP b),(3,uI c),(17,uB d)] [0,1,3,18] V R:=
 qAI (H:=hK 19) [(0,(.var .f 0)),(1,(.var .p 1)),(3,(.var (.i .i64) 2)),(17,(.var .b 3))] [a,uP b,uI c,uB d] rfl (by kernel_rfl) h
noncomputable def c218e:List Code:=((qCK (qAs wR) [1,0,0,0]).drop 3).take 1
def w218e(a:Value)(b:Option Addr)(c:Int):MR:=λV R=>IR (c-1)/\R (rT #[K.cast .f a,uP b,uI (c-1)]) V
theorem s218e{a:Value}{b:Option Addr}{c:Int}{V:Mem}{R:KZ}(h:w218e a b c V (OV R)):Seg xE 19 c218e [(0,K.cast .f a),(1,uP b),(3,uI c)] [0,1,3] V R:=
 qBx (H:=hK 19) [(0,(.var .f 0)),(1,(.var .p 1)),(3,(.var (.i .i64) 2))] [a,uP b,uI c] rfl (by kernel_rfl) h
noncomputable def c219a:List Code:=((qCK (qAs wS) []).drop 0).take 1
def w219a(a:Value)(b:Option Addr):MR:=λV R=>∃c,V.rowp b ((0:Int).toNat*1) 1=some [uL c]/\IR ((c.n:Int)-1)/\R (rT #[K.cast .f a,uP b,uI ((c.n:Int)-1)]) V
theorem s219a{a:Value}{b:Option Addr}{V:Mem}{R:KZ}(h:w219a a b V (OV R)):Seg xE 19 c219a [(0,K.cast .f a),(1,uP b)] [0,1,3] V R:=
 qBx (H:=hK 19) [(0,(.var .f 0)),(1,(.var .p 1))] [a,uP b] rfl (by kernel_rfl) h
noncomputable def c219b:List Code:=((qCK (qAs wS) [1,0,0,0]).drop 0).take 1
def w219b(a:Value)(b:Option Addr)(c:Int):MR:=λV R=>R (rT #[K.cast .f a,uP b,uI c,uB (decide (0<=c))]) V
theorem s219b{a:Value}{b:Option Addr}{c:Int}{V:Mem}{R:KZ}(h:w219b a b c V (OV R)):Seg xE 19 c219b [(0,K.cast .f a),(1,uP b),(3,uI c)] [0,1,3,8] V R:=
 qBx (H:=hK 19) [(0,(.var .f 0)),(1,(.var .p 1)),(3,(.var (.i .i64) 2))] [a,uP b,uI c] rfl (by kernel_rfl) h
noncomputable def c219c:Array Oper:=qFf ((qCK (qAs wS) [1,0,0,0,2,0]).getD 0 .skip)
def w219c(a:Value)(b:Option Addr)(c:Int):MR:=λV R=>∃d,V.rowp b ((0:Int).toNat*1) 1=some [uL d]/\Ix d c (∃g i j k l,V.rowp d.p (c.toNat*5) 5=some [uS g,uL i,uS j,uL k,uL l]/\R (rT #[K.cast .f a,uP b,uI c,K.cast .f a,uI c,uA #[uS g,uL i,uS j,uL k,uL l]]) V)
theorem s219c{a:Value}{b:Option Addr}{c:Int}{V:Mem}{R:KZ}(h:w219c a b c V (OV R)):qDB xE 19 c219c 0 6 [(0,K.cast .f a),(1,uP b),(3,uI c)] [0,1,3,11,12,16] V R:=
 qAI (H:=hK 19) [(0,(.var .f 0)),(1,(.var .p 1)),(3,(.var (.i .i64) 2))] [a,uP b,uI c] rfl (by kernel_rfl) h
noncomputable def c219d:Array Oper:=qFf ((qCK (qAs wS) [1,0,0,0,2,0]).getD 0 .skip)
def w219d(a:Value)(b:Option Addr)(c:Int)(d:Bool):MR:=λV R=>R (rT #[K.cast .f a,uP b,uI c,uB (!d)]) V
theorem s219d{a:Value}{b:Option Addr}{c:Int}{d:Bool}{V:Mem}{R:KZ}(h:w219d a b c d V (OV R)):qDB xE 19 c219d 7 1 [(0,K.cast .f a),(1,uP b),(3,uI c),(17,uB d)] [0,1,3,18] V R:=
 qAI (H:=hK 19) [(0,(.var .f 0)),(1,(.var .p 1)),(3,(.var (.i .i64) 2)),(17,(.var .b 3))] [a,uP b,uI c,uB d] rfl (by kernel_rfl) h
noncomputable def c219e:List Code:=((qCK (qAs wS) [1,0,0,0]).drop 3).take 1
def w219e(a:Value)(b:Option Addr)(c:Int):MR:=λV R=>IR (c-1)/\R (rT #[K.cast .f a,uP b,uI (c-1)]) V
theorem s219e{a:Value}{b:Option Addr}{c:Int}{V:Mem}{R:KZ}(h:w219e a b c V (OV R)):Seg xE 19 c219e [(0,K.cast .f a),(1,uP b),(3,uI c)] [0,1,3] V R:=
 qBx (H:=hK 19) [(0,(.var .f 0)),(1,(.var .p 1)),(3,(.var (.i .i64) 2))] [a,uP b,uI c] rfl (by kernel_rfl) h
noncomputable def c267a:List Code:=((qCK (qAs wT) []).drop 0).take 3
def w267a(a:Option Addr)(b:Bool)(c:Sl):MR:=λV R=>GenK xE (.makeMap 312 none) 312 (gv []) V λx V1=>∃d,x=uM d/\N2 a (¬(qAa a 0)=none/\∃g,V1.rowp a 2 1=some [uL g]/\TT 296 #[uL g] V1 λe V2=>∃i,K.f.ok i/\e=rV i/\qAr [uP none,uM none,uB false] 314 V2 λj h=>qAr [uP a,uM d,uB b] 314 h λk t=>R (rT #[uP a,uB b,uL c,uP (qAa j 0),uP (qAa k 0),K.cast .f i]) t)
theorem s267a{a:Option Addr}{b:Bool}{c:Sl}{V:Mem}{R:KZ}(h:w267a a b c V (OV R)):Seg xE 63 c267a [(0,uP a),(1,uB b),(2,uL c)] [0,1,2,6,7,24] V R:=
 qBx (H:=hK 63) [(0,(.var .p 0)),(1,(.var .b 1)),(2,(.var .sl 2))] [uP a,uB b,uL c] rfl (by kernel_rfl) h
noncomputable def c267b:List Code:=((qCK (qAs wT) [3,0,0,0]).drop 0).take 1
def w267b(a:Option Addr)(b c:KB):MR:=λV R=>qAr [uS b,uS c] 101 V λd V1=>R (rT #[uP a,uP (qAa d 0)]) V1
theorem s267b{a:Option Addr}{b c:KB}{V:Mem}{R:KZ}(h:w267b a b c V (OV R)):Seg xE 63 c267b [(7,uP a),(26,uA #[uS b,uS c])] [7,9] V R:=
 qBx (H:=hK 63) [(7,(.var .p 0)),(26,(.agg (.cons (.var .s 1) (.cons (.var .s 2) .nil))))] [uP a,uS b,uS c] rfl (by kernel_rfl) h
noncomputable def c267c:List Code:=((qCK (qAs wT) [3,0,0,1]).drop 0).take 1
def w267c(a b:Option Addr):MR:=λV R=>¬a=none/\∃c,V.rowp a 1 1=some [uM c]/\¬b=none/\∃d,V.rowp b ((0:Int).toNat*1) 1=some [uS d]/\¬b=none/\∃g,V.rowp b 1 1=some [uS g]/\qEb xE 312 (uM c) (uS d) (uS g) V λV1=>R (rT #[]) V1
theorem s267c{a b:Option Addr}{V:Mem}{R:KZ}(h:w267c a b V (OV R)):Seg xE 63 c267c [(7,uP a),(9,uP b)] [] V R:=
 qBx (H:=hK 63) [(7,(.var .p 0)),(9,(.var .p 1))] [uP a,uP b] rfl (by kernel_rfl) h
noncomputable def c267d:List Code:=((qCK (qAs wT) []).drop 4).take 4
def w267d(a:Option Addr)(b:Bool)(c:Sl)(d g:Option Addr):MR:=λV R=>GenK xE (.makeMap 357 none) 357 (gv []) V λx V1=>∃i,x=uM i/\Lp [uI 0] V1 λI n V2=>∀j,I n [uI j] V2->∀u:LMP,Nx I n u->Br (j<(c.n:Int)) (Ix c j (∃k,V2.rowp c.p (j.toNat*1) 1=some [uL k]/\Lp [uI 0] V2 λI n h=>∀l,I n [uI l] h->∀t:LMP,Nx I n t->Br (l<(k.n:Int)) (Ix k l (∃o p,h.rowp k.p (l.toNat*2) 2=some [uS o,uS p]/\qBH xE 357 (uM i) (uS o) false h λx=>∃q,x=uB q/\Br (q=true) (IR (l+1)/\t [uI (l+1)] h) (¬g=none/\∃r,h.rowp g 1 1=some [uM r]/\qEb xE 312 (uM r) (uS o) (uS p) h λw=>qEb xE 357 (uM i) (uS o) (.bool true) w λz=>IR (l+1)/\t [uI (l+1)] z))) (IR (j+1)/\u [uI (j+1)] h))) (∃k l o,V2.rowp g ((0:Int).toNat*1) 3=some [uP k,uM l,uB o]/\StT d 0 [uP k,uM l,uB o] V2 λh=>R (rT #[uP d]) h)
theorem s267d{a:Option Addr}{b:Bool}{c:Sl}{d g:Option Addr}{V:Mem}{R:KZ}(h:w267d a b c d g V (OV R)):Seg xE 63 c267d [(0,uP a),(1,uB b),(2,uL c),(6,uP d),(7,uP g)] [6] V R:=
 qBx (H:=hK 63) [(0,(.var .p 0)),(1,(.var .b 1)),(2,(.var .sl 2)),(6,(.var .p 3)),(7,(.var .p 4))] [uP a,uB b,uL c,uP d,uP g] rfl (by kernel_rfl) h
noncomputable def c158a:List Code:=((qCK (qAs wU) []).drop 0).take 3
def w158a(a:KB)(b c d g i j k:Sl):MR:=λV R=>GenK xE (.makeMap 269 none) 269 (gv []) V λx V1=>∃l,x=uM l/\GenK xE (.makeMap 270 none) 270 (gv []) V1 λx V2=>∃o,x=uM o/\TT 189 #[uL b] V2 λe h=>∃p,K.f.ok p/\e=rV p/\qAr [uS a,uL b,uL c,uL d,uL g,uL i,uL j,uL k] 30 h λq t=>qAr [uS a,uL b,uL c,uL d,uL g,uL i,uL j,uL k,uM l,uM o] 272 t λr u=>qAr [uP (qAa r 0)] 234 u λs w=>R (rT #[uP (qAa q 0),uP (qAa s 0),K.cast .f p]) w
theorem s158a{a:KB}{b c d g i j k:Sl}{V:Mem}{R:KZ}(h:w158a a b c d g i j k V (OV R)):Seg xE 38 c158a [(0,uD a b c d g i j k)] [1,3,15] V R:=
 qBx (H:=hK 38) [(0,(.agg (.cons (.var .s 0) (.cons (.var .sl 1) (.cons (.var .sl 2) (.cons (.var .sl 3) (.cons (.var .sl 4) (.cons (.var .sl 5) (.cons (.var .sl 6) (.cons (.var .sl 7) .nil))))))))))] [uS a,uL b,uL c,uL d,uL g,uL i,uL j,uL k] rfl (by kernel_rfl) h
noncomputable def c158b:List Code:=((qCK (qAs wU) [3,0,0,0]).drop 0).take 1
def w158b(a:Option Addr)(b:KB)(c:Sl):MR:=λV R=>qAr [uS b,uL c] 98 V λd V1=>R (rT #[uP a,uP (qAa d 0)]) V1
theorem s158b{a:Option Addr}{b:KB}{c:Sl}{V:Mem}{R:KZ}(h:w158b a b c V (OV R)):Seg xE 38 c158b [(3,uP a),(17,uA #[uS b,uL c])] [3,5] V R:=
 qBx (H:=hK 38) [(3,(.var .p 0)),(17,(.agg (.cons (.var .s 1) (.cons (.var .sl 2) .nil))))] [uP a,uS b,uL c] rfl (by kernel_rfl) h
noncomputable def c158c:List Code:=((qCK (qAs wU) [3,0,0,1]).drop 0).take 1
def w158c(a b:Option Addr):MR:=λV R=>∃c,V.rowp a ((0:Int).toNat*1) 1=some [uP c]/\N2 c (∃d,V.rowp c 8 1=some [uM d]/\¬b=none/\∃g,V.rowp b ((0:Int).toNat*1) 1=some [uS g]/\∃i j,V.rowp b ((0:Int).toNat*1) 2=some [uS i,uL j]/\qEb xE 269 (uM d) (uS g) (uA #[uS i,uL j]) V λV1=>R (rT #[]) V1)
theorem s158c{a b:Option Addr}{V:Mem}{R:KZ}(h:w158c a b V (OV R)):Seg xE 38 c158c [(3,uP a),(5,uP b)] [] V R:=
 qBx (H:=hK 38) [(3,(.var .p 0)),(5,(.var .p 1))] [uP a,uP b] rfl (by kernel_rfl) h
noncomputable def c158d:List Code:=((qCK (qAs wU) []).drop 4).take 1
def w158d(a b:Option Addr):MR:=λV R=>¬a=none/\∃c,V.rowp a 3 1=some [uL c]/\TT 190 #[uL c] V λe V1=>∃d,K.f.ok d/\e=rV d/\R (rT #[uP b,K.cast .f d]) V1
theorem s158d{a b:Option Addr}{V:Mem}{R:KZ}(h:w158d a b V (OV R)):Seg xE 38 c158d [(1,uP a),(3,uP b)] [3,27] V R:=
 qBx (H:=hK 38) [(1,(.var .p 0)),(3,(.var .p 1))] [uP a,uP b] rfl (by kernel_rfl) h
noncomputable def c158e:List Code:=((qCK (qAs wU) [5,0,0,0]).drop 0).take 1
def w158e(a:Option Addr)(b:KB)(c:Sl)(d:KB)(g i:Sl):MR:=λV R=>qAr [uS b,uL c,uS d,uL g,uL i] 143 V λj V1=>R (rT #[uP a,uP (qAa j 0)]) V1
theorem s158e{a:Option Addr}{b:KB}{c:Sl}{d:KB}{g i:Sl}{V:Mem}{R:KZ}(h:w158e a b c d g i V (OV R)):Seg xE 38 c158e [(3,uP a),(29,uA #[uS b,uL c,uS d,uL g,uL i])] [3,7] V R:=
 qBx (H:=hK 38) [(3,(.var .p 0)),(29,(.agg (.cons (.var .s 1) (.cons (.var .sl 2) (.cons (.var .s 3) (.cons (.var .sl 4) (.cons (.var .sl 5) .nil)))))))] [uP a,uS b,uL c,uS d,uL g,uL i] rfl (by kernel_rfl) h
noncomputable def c158f:List Code:=((qCK (qAs wU) [5,0,0,1]).drop 0).take 1
def w158f(a b:Option Addr):MR:=λV R=>∃c,V.rowp a ((0:Int).toNat*1) 1=some [uP c]/\N2 c (∃d,V.rowp c 9 1=some [uM d]/\¬b=none/\∃g,V.rowp b ((0:Int).toNat*1) 1=some [uS g]/\∃i j k l o,V.rowp b ((0:Int).toNat*1) 5=some [uS i,uL j,uS k,uL l,uL o]/\qEb xE 270 (uM d) (uS g) (uA #[uS i,uL j,uS k,uL l,uL o]) V λV1=>R (rT #[]) V1)
theorem s158f{a b:Option Addr}{V:Mem}{R:KZ}(h:w158f a b V (OV R)):Seg xE 38 c158f [(3,uP a),(7,uP b)] [] V R:=
 qBx (H:=hK 38) [(3,(.var .p 0)),(7,(.var .p 1))] [uP a,uP b] rfl (by kernel_rfl) h
noncomputable def c158g:List Code:=((qCK (qAs wU) []).drop 6).take 1
def w158g(a:Option Addr):MR:=λV R=>∃b,V.rowp a ((0:Int).toNat*1) 1=some [uP b]/\R (rT #[uP b]) V
theorem s158g{a:Option Addr}{V:Mem}{R:KZ}(h:w158g a V (OV R)):Seg xE 38 c158g [(3,uP a)] [2] V R:=
 qBx (H:=hK 38) [(3,(.var .p 0))] [uP a] rfl (by kernel_rfl) h
end
end Go.Proofs
namespace Go.Sx
open Go
section
variable{P:Program}
def Has(N:Nat)(a:Act)(l:List (Nat×Value)):Prop:=a.tmps.size=N/\∀s v,l.lookup s=some v->a.tmps.getD s undef=v
theorem Seg.step{r:Option Nat}{n N:Nat}{Q:Exit->Act->World->Prop}{cs rest:List Code}{t:List (Nat×Value)}{outs:List Nat}{V:Mem}{R:KZ}{a:Act}{w:World}(h:Seg P N cs t outs V R)(y:V.le w)(z:Has N a t)
  (k:∀u w' vs V',u.defers=a.defers->Has N u (outs.zip vs)->R vs V'->Frm V w V' w'->wpL r n P Q rest u w'):wpL r n P Q (cs++rest) a w:=by
 refine qKz (qDb ?_ (h r n a w y z.1 z.2));rintro e u w' ⟨rfl,h1,h2,vs,V',h3,h4,x⟩;exact k u w' vs V' h1 ⟨h2,h3⟩ h4 x
theorem qDB.step{r:Option Nat}{n N k m:Nat}{Q:Exit->Act->World->Prop}{ops:Array Oper}{rest:List Nat}{t:List (Nat×Value)}{outs:List Nat}{V:Mem}{R:KZ}{a:Act}{w:World}(h:qDB P N ops k m t outs V R)(x:V.le w)(y:Has N a t)
  (j:∀u w' vs V',u.defers=a.defers->Has N u (outs.zip vs)->R vs V'->Frm V w V' w'->wpOpsIn (qAK r) n P ops Q rest u w'):wpOpsIn (qAK r) n P ops Q (wG k m++rest) a w:=by
 refine qKi (λc a w z=>by cases z.1) (λ⟨_,_,z⟩=>by cases z.1) ?_ (h r n a w x y.1 y.2);rintro u w' ⟨_,h1,h2,vs,V',h3,h4,i⟩;exact j u w' vs V' h1 ⟨h2,h3⟩ h4 i
theorem yield_op{ops:Array Oper}{i:Nat}{o:Oper}{c:Call}{fv:Operand}{l:Nat}{k:Loop}{args:Array Value}{rest:List Nat}{Q:Exit->Act->World->Prop}{a:Act}{w:World}(x:ops[i]?=some o)(j:o.guard=none)(y:o.op=.call c)(r:c.callee=.value fv)
  (q:a.eval fv=.func (.yield l) #[] #[]) (u:c.args.map a.eval=args) (s:w.heap[l]?=some (.loop k)) (H:args.size=k.params.size)
  (b:RoundIn (qAK none) 0 P l k.fn ((k.params.zip args).foldl (λt (p,v)=>t.setIfInBounds p v) k.tmps) k.assign k.body w λe w'=>∃v,e=.returned v/\wpOpsIn (qAK none) 0 P ops Q rest (a.put o.dst v) w'):
  wpOpsIn (qAK none) 0 P ops Q (i::rest) a w:=by
 rw[wpOpsIn_cons];unfold wpOpIn;simp only[x];rw[if_pos (by simp[Region.wanted,j])];refine⟨λ_ _=>trivial,?_⟩;rw[Oper.semAt_eq _ _ _ (λd=>by simp_all)];have z:(execOp a.eval o).run P w=.ok (.round l k.fn ((k.params.zip args).foldl (λt (p,v)=>t.setIfInBounds p v) k.tmps) k.assign k.body) w:=by
  unfold execOp;simp only[y,resolve,r,q,u,Deferred.ofValue,zK,zM,zL,invoke];grind[run_yield]
 rw[z];refine⟨λh=>by simp[qAK,Fence.wide]at h,b.mono ?_⟩;simp_all
theorem Has.get{N:Nat}{a:Act}{l:List (Nat×Value)}(h:Has N a l){s:Nat}{v:Value}(k:l.lookup s=some v):a.tmps.getD s undef=v:=h.2 s v k
theorem qJY{f:FuncId}{fn:Func}{c L B:Code}{b0 b1 id:Nat}{cA cB cE:List Code}{ops:Array Oper}{o6:Oper}{at6:Array TypeId}{fn':FuncId}{tmps:Array Value}{ps:Array Tmp}{assign body:Code}{D:Nat}{l:Nat}{box:Option Addr}{n:Nat}{el:Nat->Value}{J:Nat->Mem->Prop}{Bk:Mem->Prop}{V:Mem}
  (hf:P.funcs[f]?=some fn) (hb:fn.body=some c) (e1:flat c=cA++[.block b0 (.loop L)]) (e2:flat L=cB++([.cond (.tmp 8) .skip (.exit b0),.block b1 B]++cE)) (e3:flat B=[.region id ops false,.cond (.tmp 18) .ret .skip])
  (ho:ops[6]?=some o6) (E:o6.guard=none) (K:o6.op=.call {callee:=.value (.tmp 11),args:=#[.tmp 12,.tmp 16],argTypes:=at6}) (Y:o6.dst=some 17) (S:ops.size=8) (W:fn.results=#[]) (hN:fn.ntmps=19) (T:ps.size=2)
  (hA:∀M,Bk M->Seg P 19 cA [(0,.func (.yield l) #[] #[]),(1,.pointer box)] [0,1,3] M λvs V'=>V'=M/\vs=[.func (.yield l) #[] #[],.pointer box,.int .i64 ((n:Int)-1)])
  (hB:∀M (j:Int),Seg P 19 cB [(0,.func (.yield l) #[] #[]),(1,.pointer box),(3,.int .i64 j)] [0,1,3,8] M λvs V'=>V'=M/\vs=[.func (.yield l) #[] #[],.pointer box,.int .i64 j,.bool (decide (0<=j))])
  (hC:∀M (k:Nat),Bk M->k<n->qDB P 19 ops 0 6 [(0,.func (.yield l) #[] #[]),(1,.pointer box),(3,.int .i64 k)] [0,1,3,11,12,16] M λvs V'=>V'=M/\vs=[.func (.yield l) #[] #[],.pointer box,.int .i64 k,.func (.yield l) #[] #[],.int .i64 k,el k])
  (hD:∀M (j:Int) (b:Bool),qDB P 19 ops 7 1 [(0,.func (.yield l) #[] #[]),(1,.pointer box),(3,.int .i64 j),(17,.bool b)] [0,1,3,18] M λvs V'=>V'=M/\vs=[.func (.yield l) #[] #[],.pointer box,.int .i64 j,.bool (!b)])
  (hE:∀M (j:Int),Bk M->0<=j->j<n->Seg P 19 cE [(0,.func (.yield l) #[] #[]),(1,.pointer box),(3,.int .i64 j)] [0,1,3] M λvs V'=>V'=M/\vs=[.func (.yield l) #[] #[],.pointer box,.int .i64 (j-1)])
  (U:∀i V2,J i V2->V2 l=none->Bk (V2.set l (.loop (qEh fn' tmps ps assign body D))))
  (y:∀k,k<n->∀V2,J (n-1-k) V2->V2 l=none->∀w,(V2.set l (.loop (qEh fn' tmps ps assign body D))).le w->
   RoundIn (qAK none) 0 P l fn' ((ps.zip #[.int .i64 k,el k]).foldl (λt (p,v)=>t.setIfInBounds p v) tmps) assign body w λe w'=>
    e=.returned (.bool true)/\∃C,J (n-k) C/\C l=none/\Frm (V2.set l (.loop (qEh fn' tmps ps assign body D))) w (C.set l (.loop (qEh fn' tmps ps assign body D))) w')
  (h0:J 0 V) (hl:V l=none):
  Tri P f #[.func (.yield l) #[] #[],.pointer box] (V.set l (.loop (qEh fn' tmps ps assign body D))) λe V'=>(∃v,e=.returned v)/\∃V2,V'=V2.set l (.loop (qEh fn' tmps ps assign body D))/\V2 l=none/\J n V2:=by
 intro w hV;refine(callsIn_wide (n:=0)).1 (callsIn_of_wp (F:=qAK none) hf hb trivial (qCO ?_) rfl);rw[e1];have hH0:Has 19 {tmps:=#[.func (.yield l) #[] #[],.pointer box]++wI (fn.ntmps-(#[Value.func (.yield l) #[] #[],.pointer box]).size) undef,defers:=[]} [(0,.func (.yield l) #[] #[]),(1,.pointer box)]:=by
  constructor;·simp[hN]
  ·intro s v h;simp only[zd]at h;split at h;·simp_all
   ·split at h;·simp_all
    ·cases h
 refine(hA _ (U 0 V h0 hl)).step hV hH0 ?_;rintro a1 w1 vs V1 hd1 hH1 ⟨rfl,rfl⟩ hF1;refine wpIn_block ?_;refine qGx (λm a w'=>∃(i:Nat)(V2:Mem),i<=n/\m=n-i/\J i V2/\V2 l=none/\a.defers=[]/\Has 19 a [(0,.func (.yield l) #[] #[]),(1,.pointer box),(3,.int .i64 ((n:Int)-1-i))]/\
  Frm (V.set l (.loop (qEh fn' tmps ps assign body D))) w (V2.set l (.loop (qEh fn' tmps ps assign body D))) w') ⟨n,0,V,by omega,rfl,h0,hl,hd1,by simpa using hH1,hF1⟩ ?_
 rintro m a2 w2 ⟨i,V2,hi,rfl,Q,x,hd2,hH2,r⟩;refine qCO ?_;rw[e2];refine(hB _ _).step r.le hH2 ?_;rintro a3 w3 vs C hd3 q ⟨rfl,rfl⟩ o;have z:a3.eval (.tmp 8)=.bool (decide (0<=(n:Int)-1-i)):=q.get rfl;show wW (qAK none) 0 P _ _ a3 w3;by_cases hlt:i<n
 ·have H:decide (0<=(n:Int)-1-i)=true:=by simp;omega
  rw[H]at z;refine wpIn_cond_true z (wpIn_skip ?_);show wW (qAK none) 0 P _ _ a3 w3;refine wpIn_block (qCO ?_);rw[e3];have hk:((n:Int)-1-i)=((n-1-i:Nat):Int):=by omega
  have O:Has 19 a3 [(0,.func (.yield l) #[] #[]),(1,.pointer box),(3,.int .i64 ((n-1-i:Nat):Int))]:=⟨q.1,λs v h=>q.2 s v (by
   grind[wX])⟩
  refine wpIn_region ?_;rw[S,show zB 8=wG 0 6++[6,7]from rfl];refine(hC _ (n-1-i) (U _ _ Q x) (by omega)).step o.le O ?_;rintro G w4 vs V4 hd4 u ⟨rfl,rfl⟩ N;have hl4:w4.heap[l]?=some (.loop (qEh fn' tmps ps assign body D)):=N.le _ _ (Mem.set_same _ _ _);refine yield_op (args:=#[.int .i64 ((n-1-i:Nat):Int),el (n-1-i)]) ho E K rfl (u.get rfl) ?_ hl4 (by simp[qEh,T]) ?_
  ·have g1:G.eval (.tmp 12)=.int .i64 ((n-1-i:Nat):Int):=u.get rfl;have g2:G.eval (.tmp 16)=el (n-1-i):=u.get rfl;simp[g1,g2]
  refine(y (n-1-i) (by omega) V2 (by grind) x w4 N.le).mono ?_;rintro e w5 ⟨rfl,V5,hJ5,A,I⟩;refine⟨_,rfl,?_⟩;rw[Y];have hlt17:(17:Nat)<G.tmps.size:=by rw[u.1];decide
  have hH5:Has 19 (G.put (some 17) (.bool true)) [(0,.func (.yield l) #[] #[]),(1,.pointer box),(3,.int .i64 ((n-1-i:Nat):Int)),(17,.bool true)]:=by
   refine⟨by simp[Act.put,u.1],λs v h=>?_⟩;have other:∀s,s≠17->(G.put (some 17) (.bool true)).tmps.getD s undef=G.tmps.getD s undef:=λs h=>by
    simp[Act.put,wY,wZ (wz h)]
   simp only[zd]at h;split at h;·rename_i e;simp only[beq_iff_eq]at e;subst e;cases h;rw[other _ (by decide)];exact u.get rfl
   ·split at h;·rename_i e;simp only[beq_iff_eq]at e;subst e;cases h;rw[other _ (by decide)];exact u.get rfl
    ·split at h;·rename_i e;simp only[beq_iff_eq]at e;subst e;cases h;rw[other _ (by decide)];exact u.get rfl
     ·split at h;·simp_all[beq_iff_eq,Act.put,wY]
      ·cases h
  rw[show[7]=wG 7 1++[]from rfl];refine(hD _ _ true).step I.le hH5 ?_;rintro a6 w6 vs V6 hd6 Z ⟨rfl,rfl⟩ X;show wW (qAK none) 0 P (.cond (.tmp 18) .ret .skip) _ a6 w6;refine wpIn_cond_false (Z.get rfl) (wpIn_skip ?_);rw[<-List.append_nil cE];refine(hE _ ((n-1-i:Nat):Int) (U _ _ hJ5 A) (by omega) (by omega)).step X.le ⟨Z.1,λs v h=>Z.2 s v ?_⟩ ?_;·grind[wX]
  rintro a7 w7 vs V7 hd7 hH7 ⟨rfl,rfl⟩ hF7;refine⟨n-(i+1),by omega,i+1,V5,by omega,rfl,?_,A,?_,?_,?_⟩;·grind
  ·rw[hd7,hd6];show G.defers=[];grind
  ·rw[show(n:Int)-1-((i+1:Nat):Int)=((n-1-i:Nat):Int)-1 by omega];exact hH7
  ·exact((((r.trans o).trans N).trans I).trans X).trans hF7
 ·have hin:i=n:=by omega
  subst hin;have H:decide (0<=(i:Int)-1-i)=false:=by simp;omega
  rw[H]at z;refine wpIn_cond_false z (wpIn_exit ?_);show(if b0=b0 then _ else _);rw[if_pos rfl];refine⟨?_,_,results_none W _ _ _,_,⟨⟨_,rfl⟩,V2,rfl,x,Q⟩,r.trans o⟩;rw[hd3,hd2]
end
end Go.Sx
namespace Go.Proofs
open Go Go.Sx
attribute [local irreducible] Go.Sx.Tri
theorem GenK.makeMap{P:Program}{V:Mem}{t:TypeId}{ty:Nat}{vals:Operand->Value}{q:Value->Mem->Prop}(u:∀b,V b=none->q (.map (some b)) (V.set b (.map #[] 0))):GenK P (.makeMap t none) ty vals V q:=by
 intro w hw;have z:V w.heap.size=none:=by
  cases y:V w.heap.size with
  |none=>rfl
  |some o=>have:=(yA.1 (hw _ o y)).1;omega
 refine⟨_,w.alloc (.map #[] 0),V.set w.heap.size (.map #[] 0),rfl,?_,u _ z⟩;refine⟨by simp,λb o h=>?_,λb h _=>xP _ _ _ h,λb h=>?_,rfl,rfl⟩
 ·by_cases e:b=w.heap.size;·grind[Mem.set_same,World.alloc_heap_new]
  ·rw[Zm e]at h;have k:=(yA.1 (hw b o h)).1;exact(xP _ _ _ k).trans (hw b o h)
 grind[inr,Zm]
theorem qLv{α:Type}{V:Mem}{s:Sl}{sz:Nat}{row:α->List Value}{xs:List α}(h:qAc V s sz (xs.map row)):K.inR .i64 ((s.n:Int)-1):=by
 have:=h.cap;have:=h.fit;exact⟨by omega,by omega⟩
theorem it311{V:Mem}{fn':FuncId}{tmps:Array Value}{ps:Array Tmp}{assign body:Code}{D:Nat}{l:Nat}{bx:Nat}{s:Sl}{xs:List Fld}{J:Nat->Mem->Prop}(y:ps.size=2)
  (H:∀i V2,J i V2->V2 l=none->V2 bx=some (cell (.slice s.p s.n s.c) 23)/\qAc V2 s 2 (xs.map Fld.row))
  (z:∀k x,xs[k]?=some x->∀V2,J (xs.length-1-k) V2->V2 l=none->∀w,(V2.set l (.loop (qEh fn' tmps ps assign body D))).le w->
   RoundIn (qAK none) 0 xE l fn' ((ps.zip #[.int .i64 k,Fld.v x]).foldl (λt (p,v)=>t.setIfInBounds p v) tmps) assign body w λe w'=>
    e=.returned (.bool true)/\∃r,J (xs.length-k) r/\r l=none/\Frm (V2.set l (.loop (qEh fn' tmps ps assign body D))) w (r.set l (.loop (qEh fn' tmps ps assign body D))) w')
  (h0:J 0 V) (G:V l=none):
  Tri xE 311 #[.func (.yield l) #[] #[],pv bx] (V.set l (.loop (qEh fn' tmps ps assign body D))) λe V'=>(∃v,e=.returned v)/\∃V2,V'=V2.set l (.loop (qEh fn' tmps ps assign body D))/\V2 l=none/\J xs.length V2:=by
 refine qJY (c:=qAs wQ) (L:=kid ((qCK (qAs wQ) [1,0]).getD 0 .skip) 0) (B:=kid ((qCK (qAs wQ) [1,0,0,0]).getD 2 .skip) 0) (cA:=c311a) (cB:=c311b) (cE:=c311e) (ops:=c311c) (b0:=0) (b1:=1) (id:=3)
  (o6:=(c311c)[6]?.getD default) (at6:=#[3,101]) (el:=λk=>(xs[k]?.map Fld.v).getD undef) (Bk:=λM=>M bx=some (cell (.slice s.p s.n s.c) 23)/\qAc M s 2 (xs.map Fld.row))
  Tryz.func311 (by kernel_rfl) (by kernel_rfl) (by kernel_rfl) (by kernel_rfl) (by kernel_rfl) (by kernel_rfl) (by kernel_rfl) (by kernel_rfl) (by kernel_rfl) (by kernel_rfl) (by kernel_rfl) y ?_ ?_ ?_ ?_ ?_ ?_ ?_ h0 G
 ·rintro M ⟨h1,h2⟩;refine s311a (a:=.func (.yield l) #[] #[]) (b:=some ⟨bx,0,none⟩) ?_;unfold w311a;exact⟨s,qBR h1,qLv h2,_,rfl,rfl,by rw[h2.n_eq];rfl⟩
 ·intro M j;refine s311b (a:=.func (.yield l) #[] #[]) (b:=some ⟨bx,0,none⟩) ?_;unfold w311b;exact⟨_,rfl,rfl,rfl⟩
 ·rintro M k ⟨h1,h2⟩ F;refine s311c (a:=.func (.yield l) #[] #[]) (b:=some ⟨bx,0,none⟩) ?_;unfold w311c;obtain⟨x,hm,N,Z,Y,q,W,h⟩:=h2.get (i:=k) (by rw[h2.n_eq];omega);exact⟨s,qBR h1,q,W,by rw[h2.n_eq];omega,x.name,x.ty,h,_,rfl,rfl,by rw[N];rfl⟩
 ·intro M j b;refine s311d (a:=.func (.yield l) #[] #[]) (b:=some ⟨bx,0,none⟩) ?_;unfold w311d;exact⟨_,rfl,rfl,rfl⟩
 ·rintro M j ⟨h1,h2⟩ o Q;have O:=h2.cap;have A:=h2.fit;have I:=h2.n_eq;refine s311e (a:=.func (.yield l) #[] #[]) (b:=some ⟨bx,0,none⟩) ?_;unfold w311e;exact⟨⟨by omega,by omega⟩,_,rfl,rfl,rfl⟩
 ·intro i V2 o u;obtain⟨h1,h2⟩:=H i V2 o u;have e:bx≠l:=λe=>by simp_all
  exact⟨by rw[Zm e];exact h1,h2.sub (Zn u _)⟩
 simp_all
theorem it218{V:Mem}{fn':FuncId}{tmps:Array Value}{ps:Array Tmp}{assign body:Code}{D:Nat}{l:Nat}{bx:Nat}{s:Sl}{xs:List Ty}{J:Nat->Mem->Prop}(y:ps.size=2)
  (H:∀i V2,J i V2->V2 l=none->V2 bx=some (cell (.slice s.p s.n s.c) 22)/\qAc V2 s 2 (xs.map Ty.row))
  (z:∀k x,xs[k]?=some x->∀V2,J (xs.length-1-k) V2->V2 l=none->∀w,(V2.set l (.loop (qEh fn' tmps ps assign body D))).le w->
   RoundIn (qAK none) 0 xE l fn' ((ps.zip #[.int .i64 k,Ty.v x]).foldl (λt (p,v)=>t.setIfInBounds p v) tmps) assign body w λe w'=>
    e=.returned (.bool true)/\∃r,J (xs.length-k) r/\r l=none/\Frm (V2.set l (.loop (qEh fn' tmps ps assign body D))) w (r.set l (.loop (qEh fn' tmps ps assign body D))) w')
  (h0:J 0 V) (G:V l=none):
  Tri xE 218 #[.func (.yield l) #[] #[],pv bx] (V.set l (.loop (qEh fn' tmps ps assign body D))) λe V'=>(∃v,e=.returned v)/\∃V2,V'=V2.set l (.loop (qEh fn' tmps ps assign body D))/\V2 l=none/\J xs.length V2:=by
 refine qJY (c:=qAs wR) (L:=kid ((qCK (qAs wR) [1,0]).getD 0 .skip) 0) (B:=kid ((qCK (qAs wR) [1,0,0,0]).getD 2 .skip) 0) (cA:=c218a) (cB:=c218b) (cE:=c218e) (ops:=c218c) (b0:=0) (b1:=1) (id:=3)
  (o6:=(c218c)[6]?.getD default) (at6:=#[3,98]) (el:=λk=>(xs[k]?.map Ty.v).getD undef) (Bk:=λM=>M bx=some (cell (.slice s.p s.n s.c) 22)/\qAc M s 2 (xs.map Ty.row))
  Tryz.func218 (by kernel_rfl) (by kernel_rfl) (by kernel_rfl) (by kernel_rfl) (by kernel_rfl) (by kernel_rfl) (by kernel_rfl) (by kernel_rfl) (by kernel_rfl) (by kernel_rfl) (by kernel_rfl) y ?_ ?_ ?_ ?_ ?_ ?_ ?_ h0 G
 ·rintro M ⟨h1,h2⟩;refine s218a (a:=.func (.yield l) #[] #[]) (b:=some ⟨bx,0,none⟩) ?_;unfold w218a;exact⟨s,qBR h1,qLv h2,_,rfl,rfl,by rw[h2.n_eq];rfl⟩
 ·intro M j;refine s218b (a:=.func (.yield l) #[] #[]) (b:=some ⟨bx,0,none⟩) ?_;unfold w218b;exact⟨_,rfl,rfl,rfl⟩
 ·rintro M k ⟨h1,h2⟩ F;refine s218c (a:=.func (.yield l) #[] #[]) (b:=some ⟨bx,0,none⟩) ?_;unfold w218c;obtain⟨x,hm,N,Z,Y,q,W,h⟩:=h2.get (i:=k) (by rw[h2.n_eq];omega);exact⟨s,qBR h1,q,W,by rw[h2.n_eq];omega,x.name,x.fs,h,_,rfl,rfl,by rw[N];rfl⟩
 ·intro M j b;refine s218d (a:=.func (.yield l) #[] #[]) (b:=some ⟨bx,0,none⟩) ?_;unfold w218d;exact⟨_,rfl,rfl,rfl⟩
 ·rintro M j ⟨h1,h2⟩ o Q;have O:=h2.cap;have A:=h2.fit;have I:=h2.n_eq;refine s218e (a:=.func (.yield l) #[] #[]) (b:=some ⟨bx,0,none⟩) ?_;unfold w218e;exact⟨⟨by omega,by omega⟩,_,rfl,rfl,rfl⟩
 ·intro i V2 o u;obtain⟨h1,h2⟩:=H i V2 o u;have e:bx≠l:=λe=>by simp_all
  exact⟨by rw[Zm e];exact h1,h2.sub (Zn u _)⟩
 simp_all
theorem it219{V:Mem}{fn':FuncId}{tmps:Array Value}{ps:Array Tmp}{assign body:Code}{D:Nat}{l:Nat}{bx:Nat}{s:Sl}{xs:List Pr}{J:Nat->Mem->Prop}(y:ps.size=2)
  (H:∀i V2,J i V2->V2 l=none->V2 bx=some (cell (.slice s.p s.n s.c) 24)/\qAc V2 s 5 (xs.map Pr.row))
  (z:∀k x,xs[k]?=some x->∀V2,J (xs.length-1-k) V2->V2 l=none->∀w,(V2.set l (.loop (qEh fn' tmps ps assign body D))).le w->
   RoundIn (qAK none) 0 xE l fn' ((ps.zip #[.int .i64 k,Pr.v x]).foldl (λt (p,v)=>t.setIfInBounds p v) tmps) assign body w λe w'=>
    e=.returned (.bool true)/\∃r,J (xs.length-k) r/\r l=none/\Frm (V2.set l (.loop (qEh fn' tmps ps assign body D))) w (r.set l (.loop (qEh fn' tmps ps assign body D))) w')
  (h0:J 0 V) (G:V l=none):
  Tri xE 219 #[.func (.yield l) #[] #[],pv bx] (V.set l (.loop (qEh fn' tmps ps assign body D))) λe V'=>(∃v,e=.returned v)/\∃V2,V'=V2.set l (.loop (qEh fn' tmps ps assign body D))/\V2 l=none/\J xs.length V2:=by
 refine qJY (c:=qAs wS) (L:=kid ((qCK (qAs wS) [1,0]).getD 0 .skip) 0) (B:=kid ((qCK (qAs wS) [1,0,0,0]).getD 2 .skip) 0) (cA:=c219a) (cB:=c219b) (cE:=c219e) (ops:=c219c) (b0:=0) (b1:=1) (id:=3)
  (o6:=(c219c)[6]?.getD default) (at6:=#[3,143]) (el:=λk=>(xs[k]?.map Pr.v).getD undef) (Bk:=λM=>M bx=some (cell (.slice s.p s.n s.c) 24)/\qAc M s 5 (xs.map Pr.row))
  Tryz.func219 (by kernel_rfl) (by kernel_rfl) (by kernel_rfl) (by kernel_rfl) (by kernel_rfl) (by kernel_rfl) (by kernel_rfl) (by kernel_rfl) (by kernel_rfl) (by kernel_rfl) (by kernel_rfl) y ?_ ?_ ?_ ?_ ?_ ?_ ?_ h0 G
 ·rintro M ⟨h1,h2⟩;refine s219a (a:=.func (.yield l) #[] #[]) (b:=some ⟨bx,0,none⟩) ?_;unfold w219a;exact⟨s,qBR h1,qLv h2,_,rfl,rfl,by rw[h2.n_eq];rfl⟩
 ·intro M j;refine s219b (a:=.func (.yield l) #[] #[]) (b:=some ⟨bx,0,none⟩) ?_;unfold w219b;exact⟨_,rfl,rfl,rfl⟩
 ·rintro M k ⟨h1,h2⟩ F;refine s219c (a:=.func (.yield l) #[] #[]) (b:=some ⟨bx,0,none⟩) ?_;unfold w219c;obtain⟨x,hm,N,Z,Y,q,W,h⟩:=h2.get (i:=k) (by rw[h2.n_eq];omega);exact⟨s,qBR h1,q,W,by rw[h2.n_eq];omega,x.name,x.ps,x.result,x.ls,x.bs,h,_,rfl,rfl,by rw[N];rfl⟩
 ·intro M j b;refine s219d (a:=.func (.yield l) #[] #[]) (b:=some ⟨bx,0,none⟩) ?_;unfold w219d;exact⟨_,rfl,rfl,rfl⟩
 ·rintro M j ⟨h1,h2⟩ o Q;have O:=h2.cap;have A:=h2.fit;have I:=h2.n_eq;refine s219e (a:=.func (.yield l) #[] #[]) (b:=some ⟨bx,0,none⟩) ?_;unfold w219e;exact⟨⟨by omega,by omega⟩,_,rfl,rfl,rfl⟩
 ·intro i V2 o u;obtain⟨h1,h2⟩:=H i V2 o u;have e:bx≠l:=λe=>by simp_all
  exact⟨by rw[Zm e];exact h1,h2.sub (Zn u _)⟩
 simp_all
theorem c296{V:Mem}{s:Sl}:Tri xE 296 #[.slice s.p s.n s.c] V λe V'=>∃b,V b=none/\e=.returned (.func (.func 311) #[] #[pv b])/\V'=V.set b (cell (.slice s.p s.n s.c) 23):=by
 refine x296 ?_;exact λb h=>⟨b,h,rfl,rfl⟩
theorem c189{V:Mem}{s:Sl}:Tri xE 189 #[.slice s.p s.n s.c] V λe V'=>∃b,V b=none/\e=.returned (.func (.func 218) #[] #[pv b])/\V'=V.set b (cell (.slice s.p s.n s.c) 22):=by
 refine x189 ?_;exact λb h=>⟨b,h,rfl,rfl⟩
theorem c190{V:Mem}{s:Sl}:Tri xE 190 #[.slice s.p s.n s.c] V λe V'=>∃b,V b=none/\e=.returned (.func (.func 219) #[] #[pv b])/\V'=V.set b (cell (.slice s.p s.n s.c) 24):=by
 refine x190 ?_;exact λb h=>⟨b,h,rfl,rfl⟩
theorem qIJ{args:List Value}{N:Nat}(h:args.length<=N):Has N {tmps:=args.toArray++wI (N-args.toArray.size) undef,defers:=[]} ((zB args.length).zip args):=by
 refine⟨by simp;omega,λs v t=>?_⟩;rw[List.range_eq_range']at t;have key:∀(l:List Value)(k:Nat),((wG k l.length).zip l).lookup s=some v->k<=s/\l[s-k]?=some v:=by
  intro l;induction l with
  |nil=>simp_all
  |cons x xs w=>
   intro k h;simp only[List.length_cons,List.range'_succ,wX,zd]at h;grind
 obtain⟨-,h1⟩:=key args 0 t;have u:=(yv.1 h1).1;simp_all[Nat.sub_zero,wY,Array.getElem?_append_left]
theorem qLk{tmps:Array Value}{p q:Nat}{u v:Value}:((#[p,q].zip #[u,v]).foldl (λt (p,v)=>t.setIfInBounds p v) tmps)=(tmps.setIfInBounds p u).setIfInBounds q v:=by
 simp
theorem qIK{tmps:Array Value}{p s:Nat}{u:Value}(h:s≠p):(tmps.setIfInBounds p u).getD s undef=tmps.getD s undef:=by
 simp[wY,wZ (wz h)]
theorem getD_same{tmps:Array Value}{p:Nat}{u:Value}(h:p<tmps.size):(tmps.setIfInBounds p u).getD p undef=u:=by
 simp_all
theorem qHs(f:Fld)(l:List Fld)(k:KB):qCd (f::l) k=if k=f.name then some f.ty else qCd l k:=by
 grind[qCd]
theorem varOf_app(a b:List Fld)(k:KB):qCd (a++b) k=(qCd a k).or (qCd b k):=by
 grind[qCd]
theorem varOf_any(a:List Fld)(k:KB):(qCd a k).isSome=a.any λf=>decide (f.name=k):=by
 grind[qCd]
theorem seen_old{a g:List Fld}{f:Fld}(h:(a.any λx=>decide (x.name=f.name))=true)(k:KB):qCd (a++[f]++g) k=qCd (a++g) k:=by
 simp only[varOf_app,qHs];rw[<-varOf_any]at h;by_cases e:k=f.name
 ·subst e;rw[if_pos rfl];cases hv:qCd a f.name with
  |none=>simp_all
  |some x=>rfl
 grind[qCd]
theorem seen_new{a g:List Fld}{f:Fld}(h:¬(a.any λx=>decide (x.name=f.name))=true)(k:KB):qCd (a++[f]++g) k=if k=f.name then some f.ty else qCd (a++g) k:=by
 simp only[varOf_app,qHs];rw[<-varOf_any]at h;by_cases e:k=f.name;·simp_all
 grind[qCd]
structure SI (V:Mem)(c:Option Addr)(body:Bool)(d:Ds)(mb bx b6 b7:Nat)(m:KB->Option Value)(V1:Mem):Prop where
 sub:V.sub V1
 nm:V mb=none
 n6:V b6=none
 map:qBs V1 mb m
 bx:V1 bx=some (cell (.slice d.gs.p d.gs.n d.gs.c) 23)
 b6:V1 b6=some (.cells #[.pointer none,.map none,.bool false] 314 (0,0))
 b7:V1 b7=some (.cells #[.pointer c,.map (some mb),.bool body] 314 (0,0))
section
variable{V V1:Mem}{c:Option Addr}{body:Bool}{d:Ds}{mb bx b6 b7:Nat}{m m':KB->Option Value}
theorem SI.fresh(h:SI V c body d mb bx b6 b7 m V1){b:Nat}(t:V1 b=none)(o:Obj):SI V c body d mb bx b6 b7 m (V1.set b o):=
 have k:=Zn t o
 ⟨h.sub.trans k,h.nm,h.n6,h.map.sub k,k _ _ h.bx,k _ _ h.b6,k _ _ h.b7⟩
theorem SI.up(h:SI V c body d mb bx b6 b7 m V1){o:Obj}(k:qBs (V1.set mb o) mb m'):SI V c body d mb bx b6 b7 m' (V1.set mb o):=by
 obtain⟨es,cl,hm,-,-⟩:=h.map.at_;have t:bx≠mb:=λe=>by have:=h.bx;simp_all
 have u:b6≠mb:=λe=>by have:=h.b6;simp_all
 have w:b7≠mb:=λe=>by have:=h.b7;simp_all
 exact⟨h.sub.set h.nm o,h.nm,h.n6,k,by rw[Zm t];exact h.bx,by rw[Zm u];exact h.b6,by rw[Zm w];exact h.b7⟩
theorem SI.cg(h:SI V c body d mb bx b6 b7 m V1)(e:∀k,m k=m' k):SI V c body d mb bx b6 b7 m' V1:=⟨h.sub,h.nm,h.n6,h.map.congr e,h.bx,h.b6,h.b7⟩
end
section
variable{V V1:Mem}{c:Option Addr}{body:Bool}{d:Ds}{mb bx b6 b7:Nat}{m m':KB->Option Value}
theorem scopeRound{l:Sl}(h:SI V c body d mb bx b6 b7 m V1)(x:Fld)(V2:Mem)(b:Nat)(t:V1 b=none)(u:V2=V1.set b (.cells x.row.toArray 101 (0,0))):
  Seg xE 63 c267c [(7,pv b7),(9,pv b)] [] V2 λ_ w=>SI V c body d mb bx b6 b7 (λk=>if k=x.name then some (.string x.ty)else m k) w:=by
 subst u;have h2:=h.fresh t (.cells x.row.toArray 101 (0,0));refine s267c ?_;unfold w267c;refine⟨by simp,some mb,qAd h2.b7 1 1 (by simp),by simp,x.name,qAd mss 0 1 (by simp[Fld.row]),by simp,x.ty,qAd mss 1 1 (by simp[Fld.row]),?_⟩;exact qEb.str xv xw h2.map λo z=>⟨_,rfl,h2.up z⟩
theorem scopeAssign(x:Fld):Seg xE 63 c267b [(7,pv b7),(26,Fld.v x)] [7,9] V1 λvs V2=>∃b,V1 b=none/\V2=V1.set b (.cells x.row.toArray 101 (0,0))/\vs=[pv b7,pv b]:=by
 refine s267b (b:=x.name) (c:=x.ty) ?_;unfold w267b;exact λb h=>⟨_,rfl,b,h,rfl,rfl⟩
theorem zero4(w:World):(zeroValue 4).run xE w=.ok (.bool false) w:=by kernel_rfl
theorem scopeTail{l:Sl}{ls:List (Sl×List Fld)}(h:SI V c body d mb bx b6 b7 (λk=>(qCd d.globals k).map xI) V1)(hl:qAc V l 1 (ls.map λx=>[x.1.v]))(F:∀x∈ls,qAc V x.1 2 (x.2.map Fld.row)):
  Seg xE 63 c267d [(0,.pointer c),(1,.bool body),(2,.slice l.p l.n l.c),(6,pv b6),(7,pv b7)] [6] V1 λvs V2=>vs=[pv b6]/\
   V.sub V2/\V mb=none/\qBs V2 mb (λk=>(qCd (ls.flatMap (·.2)++d.globals) k).map xI)/\V2 b6=some (.cells #[.pointer c,.map (some mb),.bool body] 314 (0,0)):=by
 refine s267d ?_;unfold w267d;refine GenK.makeMap λr L=>⟨some r,rfl,?_⟩;have X:V r=none:=by
  cases hc:V r with
  |none=>rfl
  |some o=>have:=h.sub _ _ hc;simp_all
 have N:mb≠r:=λe=>by
  obtain⟨es,cl,hm,-,-⟩:=h.map.at_;simp_all
 let TI (done:List Fld) (V2:Mem):Prop:=SI V c body d mb bx b6 b7 (λk=>(qCd (done++d.globals) k).map xI) V2/\qBs V2 r (λk=>if(done.any λf=>decide (f.name=k))=true then some (.bool true)else none);have h0:TI [] (V1.set r (.map #[] 0)):=⟨h.fresh L _,(qBs.made V1 r).congr λk=>by simp⟩;refine qIs ls.length (λi V2=>TI ((ls.take i).flatMap (·.2)) V2) (by simpa using h0) ?_;intro i V2 J hi w hJ;have s:=hl.sub w.1.sub;refine⟨λz=>?_,λz=>?_⟩
 ·obtain⟨x,hm,hx,hdr,Z,B,hz,Y⟩:=s.get z;refine⟨B,hz,z,x.1,Y,?_⟩;have htk:(ls.take (i+1)).flatMap (·.2)=(ls.take i).flatMap (·.2)++x.2:=by
   grind
  refine qIs x.2.length (λj T=>TI ((ls.take i).flatMap (·.2)++x.2.take j) T) (by simpa using w) ?_;intro j T J' hj t W;have q:=(F x hm).sub t.1.sub;refine⟨λu=>?_,λu=>?_⟩
  ·obtain⟨f,hmf,hf,U,a,Q,C,H⟩:=q.get u;have G:(ls.take i).flatMap (·.2)++x.2.take (j+1)=((ls.take i).flatMap (·.2)++x.2.take j)++[f]:=by
    grind
   refine⟨Q,C,u,f.name,f.ty,H,?_⟩;refine qBH.str1 wy xw zero4 t.2 ?_;generalize D:(ls.take i).flatMap (·.2)++x.2.take j=done at t G;refine⟨done.any λy=>decide (y.name=f.name),?_,λE=>?_,λE=>?_⟩;·grind
   ·refine⟨q.succ u,W a _ ?_⟩;rw[G];refine⟨t.1.cg λk=>by rw[seen_old E],t.2.congr λk=>?_⟩;grind
   ·refine⟨by simp,some mb,qAd t.1.b7 1 1 (by simp),?_⟩;refine qEb.str xv xw t.1.map λo ho=>?_;have K:=t.1.up ho;refine qEb.str wy xw (t.2.set (o:=o) (wz N)) λo2 S=>?_;refine⟨q.succ u,W a _ ?_⟩;rw[G];have O:b6≠r:=λe=>by have:=h.b6;simp_all
    have A:b7≠r:=λe=>by have:=h.b7;simp_all
    have I:bx≠r:=λe=>by have:=h.bx;simp_all
    refine⟨?_,S.congr λk=>?_⟩
    ·have h3:=K.cg (m':=λk=>(qCd (done++[f]++d.globals) k).map xI) λk=>by
      rw[seen_new E];grind
     exact⟨h3.sub.set X _,h3.nm,h3.n6,h3.map.set N,by rw[Zm I];exact h3.bx,by rw[Zm O];exact h3.b6,by rw[Zm A];exact h3.b7⟩
    grind
  ·obtain⟨hd,M⟩:=q.done u;refine⟨s.succ z,hJ Z _ ?_⟩;simp_all[wx]
 ·obtain⟨hd,M⟩:=s.done z;rw[wx M]at w;have b:=qAd w.1.b7 0 3 (by simp);refine⟨c,some mb,body,b,⟨⟨b6,0,none⟩,_,_,rfl,w.1.b6,rfl,by simp,?_⟩⟩;have e7:mb≠b6:=λe=>by
   obtain⟨es,cl,hm,-,-⟩:=w.1.map.at_;have:=w.1.b6;simp_all
  exact⟨_,rfl,rfl,w.1.sub.set h.n6 _,h.nm,w.1.map.set e7,by rw[Mem.set_same];rfl⟩
end
theorem cell3{b:Nat}{c:Option Addr}{mb:Option Nat}{body:Bool}{w:World}(h:w.heap[b]?=some (.cells #[.pointer c,.map mb,.bool body] 314 (0,0))):(loadVar 314 ⟨b,0,none⟩).run xE w=.ok (.agg #[.pointer c,.map mb,.bool body]) w:=
 qCe (P:=xE) (t:=314) (cs:=.cons (.var .p 0) (.cons (.var .m 1) (.cons (.var .b 2) .nil))) (x:=.agg (.cons (.var .p 0) (.cons (.var .m 1) (.cons (.var .b 2) .nil)))) (ρ:=[.pointer c,.map mb,.bool body]) (β:=id) (o:=0) h (by kernel_rfl)
theorem results113{tmps:Array Value}{b:Nat}{c:Option Addr}{mb:Option Nat}{body:Bool}{w:World}(k:tmps.getD 6 undef=pv b)(h:w.heap[b]?=some (.cells #[.pointer c,.map mb,.bool body] 314 (0,0))):
  (results wT tmps).run xE w=.ok (.agg #[.pointer c,.map mb,.bool body]) w:=by
 have t:wT.results=#[.cell 6 314]:=by kernel_rfl
 unfold results;rw[t];have e:asAddr (tmps.getD 6 undef)=pure ⟨b,0,none⟩:=by rw[k];rfl
 simp only[List.mapM_toArray,List.mapM_cons,List.mapM_nil,zK,Sem.run_map,zM,zL,e,cell3 h];rfl
theorem qGm{V V1 V2 k:Mem}{w t u z:World}{D:Nat}(h1:Frm V w V1 t)(h2:Frm V1 t V2 u)(j:t.heap.size<=D)(i:V2 D=none)(x:u.heap[D]?=some (.deferred (some [])))(h3:Frm V2 u k z):
  Frm V w k z/\w.heap.size<=D/\z.heap[D]?=some (.deferred (some []))/\k D=none:=by
 have y:=(yA.1 x).1;refine⟨(h1.trans h2).trans h3,Nat.le_trans h1.size j,(h3.old D y i).trans x,?_⟩;cases l:k D with
 |none=>rfl
 |some o=>
  rcases h3.dom D (by rw[l];simp)with h|h
  ·grind
  ·omega
theorem scopeC:qIm:=by
 intro V c d body l ls q hl Y;refine qHS (c:=qAs wT) Tryz.func267 (by kernel_rfl) ?_;intro w hV;rw[show flat (qAs wT)=c267a++([.block 0 (.rangeFunc (.tmp 24) #[25,26] ((qCK (qAs wT) [3,0,0,0]).getD 0 .skip) ((qCK (qAs wT) [3,0,0,1]).getD 0 .skip))]++(c267d++[.ret]))from by kernel_rfl];have hA:Seg xE 63 c267a [(0,.pointer c),(1,.bool body),(2,.slice l.p l.n l.c)] [0,1,2,6,7,24] V λvs V1=>∃mb bx b6 b7,
   vs=[.pointer c,.bool body,.slice l.p l.n l.c,pv b6,pv b7,.func (.func 311) #[] #[pv bx]]/\SI V c body d mb bx b6 b7 (λ_=>none) V1:=by
  refine s267a ?_;unfold w267a;refine GenK.makeMap λmb j=>⟨some mb,rfl,q.nn,q.nn,?_,d.gs,?_,?_⟩
  ·obtain⟨cb,mt,mp,t,h1,h2,h3,h4⟩:=q.at_;rw[h1];simp[qAa]
  ·exact(q.sub (Zn j _)).cell (i:=2) rfl
  refine Tri.mono c296 ?_;rintro _ V2 ⟨bx,Q,rfl,rfl⟩;refine⟨.func (.func 311) #[] #[pv bx],rfl,rfl,λb6 O b7 A=>⟨_,rfl,mb,bx,b6,b7,rfl,?_⟩⟩;have n1:bx≠mb:=λe=>by grind[Mem.set_same]
  have n2:b6≠bx:=λe=>by grind[Mem.set_same]
  have n3:b7≠b6:=λe=>by grind[Mem.set_same]
  have s1:=Zn j (.map #[] 0);have I:=Zn Q (cell (.slice d.gs.p d.gs.n d.gs.c) 23);have M:=Zn O (.cells #[.pointer none,.map none,.bool false] 314 (0,0));have G:=Zn A (.cells #[.pointer c,.map (some mb),.bool body] 314 (0,0));refine⟨s1.trans (I.trans (M.trans G)),j,?_,(qBs.made V mb).sub (I.trans (M.trans G)),(M.trans G) _ _ mss,G _ _ mss,Mem.set_same _ _ _⟩;cases hv:V b6 with
  |none=>rfl
  |some o=>have:=(s1.trans I) _ _ hv;simp_all
 refine hA.step hV (qIJ (args:=[.pointer c,.bool body,.slice l.p l.n l.c]) (N:=63) (by simp)) ?_;rintro a1 w1 vs V1 hd1 u ⟨mb,bx,b6,b7,rfl,F⟩ a;show wW (qAK none) 0 xE _ _ a1 w1;refine wpIn_block ?_;have hit:=λfn L D r=>it311 (V:=V1) (fn':=fn) (tmps:=a1.tmps) (ps:=#[25,26]) (assign:=(qCK (qAs wT) [3,0,0,0]).getD 0 .skip) (body:=(qCK (qAs wT) [3,0,0,1]).getD 0 .skip) (D:=D) (l:=L) (bx:=bx) (s:=d.gs) (xs:=d.globals)
  (J:=λi V2=>SI V c body d mb bx b6 b7 (λk=>(qCd (d.globals.drop (d.globals.length-i)) k).map xI) V2) rfl (λi V2 Z _=>⟨Z.bx,q.ok.globals.sub Z.sub⟩) (λk x hx V2 Z X w2 B=>by
   have hk:=(yv.1 hx).1;refine qHv (N:=63) (insA:=[(7,pv b7),(26,Fld.v x)]) (outsA:=[7,9]) X B (by rw[qLk];simpa using u.1) ?_ (scopeAssign x) (λvs C E=>?_)
   ·intro s v z;rw[qLk];simp only[zd]at z;split at z
    ·rename_i e;simp only[beq_iff_eq]at e;subst e;cases z;rw[qIK (by decide),qIK (by decide)];exact u.get rfl
    ·split at z
     ·rename_i e;simp only[beq_iff_eq]at e;subst e;cases z;exact getD_same (by simp[u.1])
     ·cases z
   ·obtain⟨b,hb,e2,rfl⟩:=E;refine(scopeRound (l:=l) Z x C b hb e2).mono λ_ V4 h4=>h4.cg λy=>?_;rw[show d.globals.length-(d.globals.length-1-k)=k+1 by omega,show d.globals.length-(d.globals.length-k)=k by omega];have e3:d.globals.drop k=x::d.globals.drop (k+1):=by
     grind[wv,yv]
    rw[e3,qHs];grind)
  (by simpa [qCd]using F) r
 refine qHA (Φ:=λV2=>SI V c body d mb bx b6 b7 (λk=>(qCd d.globals k).map xI) V2) a.le (u.get (s:=24) rfl) Tryz.call311 (λfn L D r=>Tri.mono (hit fn L D r) λe V' h=>?_) ?_;·simp_all
 ·intro D V2 W hD H K hW S;show wpL none 0 xE _ (c267d++[.ret]) _ W;refine(scopeTail S hl Y).step H.le ⟨u.1,λs v z=>u.2 s v ?_⟩ ?_
  ·simp only[wX,zd]at z⊢
   repeat' (split at z<;>first|exact z|skip)
   simp_all
  ·rintro a3 w3 vs C hd3 T ⟨rfl,h1,h2,h3,h4⟩ U;show wW (qAK none) 0 xE .ret _ a3 w3;refine wpIn_ret ?_;obtain⟨g1,g2,g3,g4⟩:=qGm a H hD K hW U;refine⟨.inr rfl,[D],?_,by simp,C,g1,λD' hD'=>?_,_,λw4 hw4=>results113 (T.get rfl) (hw4 _ _ h4),mb,rfl,h1,h2,h3⟩;·simp_all
   simp_all
structure NI (V:Mem)(d:Ds)(cb mt mp p1 p3:Nat)(f g:KB->Option Value)(V1:Mem):Prop where
 sub:V.sub V1
 nt:V mt=none
 np:V mp=none
 ne:mt≠mp
 ck:V1 cb=some (.cells (d.row++[zz (some mt),zz (some mp)]).toArray 272 (0,0))
 b1:V1 p1=some (.cells d.row.toArray 30 (0,0))
 b3:V1 p3=some (cell (pv cb) 234)
 mapT:qBs V1 mt f
 mapP:qBs V1 mp g
section
variable{V V1:Mem}{d:Ds}{cb mt mp p1 p3:Nat}{f g f' g':KB->Option Value}
theorem NI.fresh(h:NI V d cb mt mp p1 p3 f g V1){b:Nat}(t:V1 b=none)(o:Obj):NI V d cb mt mp p1 p3 f g (V1.set b o):=
 have k:=Zn t o
 ⟨h.sub.trans k,h.nt,h.np,h.ne,k _ _ h.ck,k _ _ h.b1,k _ _ h.b3,h.mapT.sub k,h.mapP.sub k⟩
theorem qFh{V:Mem}{b m:Nat}{c:Array Value}{t:Nat}{fr:Nat×Nat}{f:KB->Option Value}(h:V b=some (.cells c t fr))(hm:qBs V m f):b≠m:=λe=>by
 obtain⟨es,cl,hm,-,-⟩:=hm.at_;simp_all
theorem NI.upT(h:NI V d cb mt mp p1 p3 f g V1){o:Obj}(k:qBs (V1.set mt o) mt f'):NI V d cb mt mp p1 p3 f' g (V1.set mt o):=
 ⟨h.sub.set h.nt o,h.nt,h.np,h.ne,by rw[Zm (qFh h.ck h.mapT)];exact h.ck,by rw[Zm (qFh h.b1 h.mapT)];exact h.b1,by rw[Zm (qFh h.b3 h.mapT)];exact h.b3,k,h.mapP.set (wz h.ne)⟩
theorem NI.upP(h:NI V d cb mt mp p1 p3 f g V1){o:Obj}(k:qBs (V1.set mp o) mp g'):NI V d cb mt mp p1 p3 f g' (V1.set mp o):=
 ⟨h.sub.set h.np o,h.nt,h.np,h.ne,by rw[Zm (qFh h.ck h.mapP)];exact h.ck,by rw[Zm (qFh h.b1 h.mapP)];exact h.b1,by rw[Zm (qFh h.b3 h.mapP)];exact h.b3,h.mapT.set h.ne,k⟩
theorem NI.cg(h:NI V d cb mt mp p1 p3 f g V1)(t:∀k,f k=f' k)(u:∀k,g k=g' k):NI V d cb mt mp p1 p3 f' g' V1:=⟨h.sub,h.nt,h.np,h.ne,h.ck,h.b1,h.b3,h.mapT.congr t,h.mapP.congr u⟩
theorem newRoundT(h:NI V d cb mt mp p1 p3 f g V1){bx:Nat}{v:Value}{ty:Nat}(u:V1 bx=some (cell v ty))(x:Ty)(V2:Mem)(b:Nat)(w:V1 b=none)(y:V2=V1.set b (.cells x.row.toArray 98 (0,0))):
  Seg xE 38 c158c [(3,pv p3),(5,pv b)] [] V2 λ_ z=>NI V d cb mt mp p1 p3 (λk=>if k=x.name then some x.v else f k) g z/\z bx=some (cell v ty):=by
 subst y;have h2:=h.fresh w (.cells x.row.toArray 98 (0,0));have t:=Zn w (.cells x.row.toArray 98 (0,0)) _ _ u;refine s158c ?_;unfold w158c;refine⟨_,qBR h2.b3,by simp,by simp,some mt,qAd h2.ck 8 1 (by simp[Ds.row]),by simp,x.name,qAd mss 0 1 (by simp[Ty.row]),x.name,x.fs,qAd mss 0 2 (by simp[Ty.row]),?_⟩;exact qEb.str Tryz.underlying269 xw h2.mapT λo j=>⟨_,rfl,h2.upT j,by rw[Zm (qFh t h2.mapT)];exact t⟩
theorem newRoundP(h:NI V d cb mt mp p1 p3 f g V1){bx:Nat}{v:Value}{ty:Nat}(u:V1 bx=some (cell v ty))(x:Pr)(V2:Mem)(b:Nat)(w:V1 b=none)(y:V2=V1.set b (.cells x.row.toArray 143 (0,0))):
  Seg xE 38 c158f [(3,pv p3),(7,pv b)] [] V2 λ_ z=>NI V d cb mt mp p1 p3 f (λk=>if k=x.name then some x.v else g k) z/\z bx=some (cell v ty):=by
 subst y;have h2:=h.fresh w (.cells x.row.toArray 143 (0,0));have t:=Zn w (.cells x.row.toArray 143 (0,0)) _ _ u;refine s158f ?_;unfold w158f;refine⟨_,qBR h2.b3,by simp,by simp,some mp,qAd h2.ck 9 1 (by simp[Ds.row]),by simp,x.name,qAd mss 0 1 (by simp[Pr.row]),x.name,x.ps,x.result,x.ls,x.bs,qAd mss 0 5 (by simp[Pr.row]),?_⟩;exact qEb.str Tryz.underlying270 xw h2.mapP λo j=>⟨_,rfl,h2.upP j,by rw[Zm (qFh t h2.mapP)];exact t⟩
theorem newAssignT(x:Ty):Seg xE 38 c158b [(3,pv p3),(17,Ty.v x)] [3,5] V1 λvs V2=>∃b,V1 b=none/\V2=V1.set b (.cells x.row.toArray 98 (0,0))/\vs=[pv p3,pv b]:=by
 refine s158b (b:=x.name) (c:=x.fs) ?_;unfold w158b;exact λb h=>⟨_,rfl,b,h,rfl,rfl⟩
theorem newAssignP(x:Pr):Seg xE 38 c158e [(3,pv p3),(29,Pr.v x)] [3,7] V1 λvs V2=>∃b,V1 b=none/\V2=V1.set b (.cells x.row.toArray 143 (0,0))/\vs=[pv p3,pv b]:=by
 refine s158e (b:=x.name) (c:=x.ps) (d:=x.result) (g:=x.ls) (i:=x.bs) ?_;unfold w158e;exact λb h=>⟨_,rfl,b,h,rfl,rfl⟩
end
theorem qLP{N:Nat}{a:Act}{p q r:Nat}{l:List (Nat×Value)}{y u z:Value}(k:Has N a l)(x:l.lookup r=some y)(j:r≠p)(i:r≠q)(w:q<N):Has N {tmps:=(#[p,q].zip #[u,z]).foldl (λt (p,v)=>t.setIfInBounds p v) a.tmps,defers:=[]} [(r,y),(q,z)]:=by
 refine⟨by rw[qLk];simpa using k.1,λs v h=>?_⟩;rw[qLk];simp only[zd]at h;split at h
 ·rename_i e;simp only[beq_iff_eq]at e;subst e;cases h;rw[qIK i,qIK j];exact k.get x
 ·split at h
  ·rename_i e;simp only[beq_iff_eq]at e;subst e;cases h;exact getD_same (by simp[k.1,w])
  ·cases h
theorem mark_keep{V V1:Mem}{w t:World}{D:Nat}(h:Frm V w V1 t)(z:V D=none)(u:w.heap[D]?=some (.deferred (some []))):t.heap[D]?=some (.deferred (some []))/\V1 D=none:=by
 have k:=(yA.1 u).1;refine⟨(h.old D k z).trans u,?_⟩;cases y:V1 D with
 |none=>rfl
 |some o=>
  rcases h.dom D (by rw[y];simp)with h|h
  ·grind
  ·omega
theorem find_drop{α:Type}{l:List α}{nm:α->KB}{vv:α->Value}{k:Nat}{x:α}(h:l[k]?=some x)(y:KB):
  (if y=nm x then some (vv x)else((l.drop (l.length-(l.length-1-k))).find? λt=>decide (nm t=y)).map vv)=((l.drop (l.length-(l.length-k))).find? λt=>decide (nm t=y)).map vv:=by
 have u:=(yv.1 h).1;rw[show l.length-(l.length-1-k)=k+1 by omega,show l.length-(l.length-k)=k by omega];have w:l.drop k=x::l.drop (k+1):=by
  grind[wv,yv]
 grind
theorem newC:NewC:=by
 intro V d hd;refine qHS (c:=qAs wU) Tryz.func158 (by kernel_rfl) ?_;intro w hV;rw[show flat (qAs wU)=c158a++([.block 0 (.rangeFunc (.tmp 15) #[16,17] ((qCK (qAs wU) [3,0,0,0]).getD 0 .skip) ((qCK (qAs wU) [3,0,0,1]).getD 0 .skip))]++
  (c158d++([.block 2 (.rangeFunc (.tmp 27) #[28,29] ((qCK (qAs wU) [5,0,0,0]).getD 0 .skip) ((qCK (qAs wU) [5,0,0,1]).getD 0 .skip))]++(c158g++[.ret]))))from by kernel_rfl]
 have hA:Seg xE 38 c158a [(0,d.v)] [1,3,15] V λvs V1=>∃cb mt mp p1 p3 bx,
   vs=[pv p1,pv p3,.func (.func 218) #[] #[pv bx]]/\NI V d cb mt mp p1 p3 (λ_=>none) (λ_=>none) V1/\V1 bx=some (cell (.slice d.ts.p d.ts.n d.ts.c) 22):=by
  refine s158a (a:=d.name) (b:=d.ts) (c:=d.gs) (d:=d.ps) (g:=d.ms) (i:=d.is) (j:=d.qs) (k:=d.bs) ?_;unfold w158a;refine GenK.makeMap λmt C=>⟨some mt,rfl,GenK.makeMap λmp hmp=>⟨some mp,rfl,?_⟩⟩;refine Tri.mono c189 ?_;rintro _ V2 ⟨bx,A,rfl,rfl⟩;refine⟨.func (.func 218) #[] #[pv bx],rfl,rfl,λp1 hp1 cb hcb p3 hp3=>⟨_,rfl,cb,mt,mp,p1,p3,bx,rfl,?_,?_⟩⟩;all_goals
   have s1:=Zn C (.map #[] 0);have s2:=Zn hmp (.map #[] 0);have s3:=Zn A (cell (.slice d.ts.p d.ts.n d.ts.c) 22);have s4:=Zn hp1 (.cells d.row.toArray 30 (0,0));have E:=Zn hcb (.cells (d.row++[zz (some mt),zz (some mp)]).toArray 272 (0,0));have B:=Zn hp3 (cell (pv cb) 234)
  ·have nmp:mt≠mp:=λe=>by grind[Mem.set_same]
   refine⟨s1.trans (s2.trans (s3.trans (s4.trans (E.trans B)))),C,?_,nmp,B _ _ mss,(E.trans B) _ _ mss,Mem.set_same _ _ _,(qBs.made V mt).sub (s2.trans (s3.trans (s4.trans (E.trans B)))),(qBs.made (V.set mt (.map #[] 0)) mp).sub (s3.trans (s4.trans (E.trans B)))⟩;cases hv:V mp with
   |none=>rfl
   |some o=>have:=s1 _ _ hv;simp_all
  ·exact(s4.trans (E.trans B)) _ _ mss
 refine hA.step hV (qIJ (args:=[d.v]) (N:=38) (by simp)) ?_;rintro a1 w1 vs V1 hd1 Z ⟨cb,mt,mp,p1,p3,bx,rfl,hN1,K⟩ S;show wW (qAK none) 0 xE _ _ a1 w1;refine wpIn_block ?_;have hit:=λfn I D H=>it218 (V:=V1) (fn':=fn) (tmps:=a1.tmps) (ps:=#[16,17]) (assign:=(qCK (qAs wU) [3,0,0,0]).getD 0 .skip) (body:=(qCK (qAs wU) [3,0,0,1]).getD 0 .skip) (D:=D) (l:=I) (bx:=bx) (s:=d.ts) (xs:=d.types)
  (J:=λi V2=>NI V d cb mt mp p1 p3 (λy=>((d.types.drop (d.types.length-i)).find? λt=>decide (t.name=y)).map Ty.v) (λ_=>none) V2/\V2 bx=some (cell (.slice d.ts.p d.ts.n d.ts.c) 22)) rfl (λi V2 Y _=>⟨Y.2,hd.types.sub Y.1.sub⟩) (λk x hx V2 Y M w2 F=>by
   refine qHv (N:=38) (insA:=[(3,pv p3),(17,Ty.v x)]) (outsA:=[3,5]) M F (qLP (u:=.int .i64 k) (z:=Ty.v x) (p:=16) (q:=17) (r:=3) Z rfl (by decide) (by decide) (by decide)).1 (qLP (p:=16) (q:=17) (r:=3) Z rfl (by decide) (by decide) (by decide)).2 (newAssignT x) (λvs O L=>?_);obtain⟨b,hb,e2,rfl⟩:=L;exact(newRoundT Y.1 Y.2 x O b hb e2).mono λ_ V4 h4=>⟨h4.1.cg (find_drop (nm:=Ty.name) (vv:=Ty.v) hx) λ_=>rfl,h4.2⟩)
  ⟨by simpa using hN1,K⟩ H
 refine qHA (Φ:=λV2=>NI V d cb mt mp p1 p3 (λy=>(qKj d y).map Ty.v) (λ_=>none) V2) S.le (Z.get (s:=15) rfl) Tryz.call218 (λfn I D H=>Tri.mono (hit fn I D H) λe V' h=>?_) ?_
 ·obtain⟨h1,V2,h2,h3,h4⟩:=h;exact⟨h1,V2,h2,h3,by simpa [qKj]using h4.1⟩
 intro D V2 W hD T hn2 hW U;show wpL none 0 xE _ (c158d++_) _ W;have hS:Seg xE 38 c158d [(1,pv p1),(3,pv p3)] [3,27] V2 λvs O=>∃bx,vs=[pv p3,.func (.func 219) #[] #[pv bx]]/\NI V d cb mt mp p1 p3 (λy=>(qKj d y).map Ty.v) (λ_=>none) O/\O bx=some (cell (.slice d.ps.p d.ps.n d.ps.c) 24):=by
  refine s158d ?_;unfold w158d;refine⟨by simp,d.ps,qAd U.b1 3 1 (by simp[Ds.row]),?_⟩;refine Tri.mono c190 ?_;rintro _ O ⟨bx,A,rfl,rfl⟩;exact⟨.func (.func 219) #[] #[pv bx],rfl,rfl,_,rfl,bx,rfl,U.fresh A _,Mem.set_same _ _ _⟩
 refine hS.step T.le ⟨Z.1,λs v hs=>Z.2 s v ?_⟩ ?_;·grind[wX]
 rintro a3 w3 vs O hd3 Q ⟨bx2,rfl,hN3,hbx3⟩ hF3;show wW (qAK none) 0 xE _ _ a3 w3;refine wpIn_block ?_;have hit2:=λfn I D H=>it219 (V:=O) (fn':=fn) (tmps:=a3.tmps) (ps:=#[28,29]) (assign:=(qCK (qAs wU) [5,0,0,0]).getD 0 .skip) (body:=(qCK (qAs wU) [5,0,0,1]).getD 0 .skip) (D:=D) (l:=I) (bx:=bx2) (s:=d.ps) (xs:=d.procs)
  (J:=λi V2=>NI V d cb mt mp p1 p3 (λy=>(qKj d y).map Ty.v) (λy=>((d.procs.drop (d.procs.length-i)).find? λt=>decide (t.name=y)).map Pr.v) V2/\V2 bx2=some (cell (.slice d.ps.p d.ps.n d.ps.c) 24)) rfl (λi V2 Y _=>⟨Y.2,hd.procs.sub Y.1.sub⟩) (λk x hx V2 Y M w2 F=>by
   refine qHv (N:=38) (insA:=[(3,pv p3),(29,Pr.v x)]) (outsA:=[3,7]) M F (qLP (u:=.int .i64 k) (z:=Pr.v x) (p:=28) (q:=29) (r:=3) Q rfl (by decide) (by decide) (by decide)).1 (qLP (p:=28) (q:=29) (r:=3) Q rfl (by decide) (by decide) (by decide)).2 (newAssignP x) (λvs O L=>?_);obtain⟨b,hb,e2,rfl⟩:=L;exact(newRoundP Y.1 Y.2 x O b hb e2).mono λ_ V4 h4=>⟨h4.1.cg (λ_=>rfl) (find_drop (nm:=Pr.name) (vv:=Pr.v) hx),h4.2⟩)
  ⟨by simpa using hN3,hbx3⟩ H
 refine qHA (Φ:=λV2=>NI V d cb mt mp p1 p3 (λy=>(qKj d y).map Ty.v) (λy=>(qFP d y).map Pr.v) V2) hF3.le (Q.get (s:=27) rfl) Tryz.call219 (λfn I D H=>Tri.mono (hit2 fn I D H) λe V' h=>?_) ?_
 ·obtain⟨h1,V2,h2,h3,h4⟩:=h;exact⟨h1,V2,h2,h3,by simpa [qFP]using h4.1⟩
 intro D2 V4 W4 hD2 X hn4 hW4 G;show wpL none 0 xE _ (c158g++_) _ W4;have hS2:Seg xE 38 c158g [(3,pv p3)] [2] V4 λvs V5=>V5=V4/\vs=[pv cb]:=by
  refine s158g ?_;unfold w158g;exact⟨_,qBR G.b3,_,rfl,rfl,rfl⟩
 refine hS2.step X.le ⟨Q.1,λs v hs=>Q.2 s v ?_⟩ ?_;·grind[wX]
 rintro a5 w5 vs V5 hd5 hH5 ⟨rfl,rfl⟩ hF5;show wW (qAK none) 0 xE .ret _ a5 w5;refine wpIn_ret ?_;obtain⟨g1,g2,g3,g4⟩:=qGm S T hD hn2 hW hF3;obtain⟨k1,k2,k3,k4⟩:=qGm g1 X hD2 hn4 hW4 hF5;obtain⟨m1,m2⟩:=mark_keep (X.trans hF5) g4 g3;have hDlt:D<w3.heap.size:=(yA.1 g3).1;refine⟨.inr rfl,[D2,D],?_,by simp;omega,_,k1,λD' hD'=>?_,_,λw6 hw6=>results_tmp (t:=2) (by kernel_rfl) _ _ _,some ⟨cb,0,none⟩,by rw[hH5.get rfl],G.sub,?_⟩;·simp_all
 ·grind
 ·exact⟨⟨cb,mt,mp,272,rfl,G.ck,G.mapT,G.mapP⟩,hd.sub G.sub⟩
section
variable{P:Program}{V:Mem}{ty:Nat}{vals:Operand->Value}
theorem GenK.shr{t u:TypeId}{x:Operand}{k h:IntKind}{n c:Int}(z:vals x=.int k n)(y:vals (.const (.int h c))=.int h c)(j:¬c<0){q:Value->Mem->Prop}(i:q (.int k (n.fdiv (2^(min c.toNat k.bits)))) V):GenK P (.binOp .shr t x (.const (.int h c)) u) ty vals V q:=by
 intro w hw;refine⟨_,w,V,?_,Frm.refl hw,i⟩;unfold execOp;simp[z,y,binOp,Op.shift,j,eqGuard]
theorem GenK.max2{a b:Operand}{ts:Array TypeId}{n1 n2:Int}(h1:vals a=.int .i64 n1)(h2:vals b=.int .i64 n2){q:Value->Mem->Prop}(h:q (.int .i64 (if n1<n2 then n2 else n1)) V):GenK P (.call {callee:=.builtin .max,args:=#[a,b],argTypes:=ts}) ty vals V q:=by
 intro w hw;refine⟨_,w,V,?_,Frm.refl hw,h⟩;unfold execOp;simp only[resolve,invoke,builtin,zK,zM,zL,y7,List.map_cons,List.map_nil,h1,h2];rfl
theorem GenK.min2{a b:Operand}{ts:Array TypeId}{n1 n2:Int}(h1:vals a=.int .i64 n1)(h2:vals b=.int .i64 n2){q:Value->Mem->Prop}(h:q (.int .i64 (if n2<n1 then n2 else n1)) V):GenK P (.call {callee:=.builtin .min,args:=#[a,b],argTypes:=ts}) ty vals V q:=by
 intro w hw;refine⟨_,w,V,?_,Frm.refl hw,h⟩;unfold execOp;simp only[resolve,invoke,builtin,zK,zM,zL,y7,List.map_cons,List.map_nil,h1,h2];rfl
theorem GenK.iface{t:TypeId}{ts:Array Field}{x:Operand}{v:Value}(h:P.underlying t=some (.struct ts))(k:vals x=v){q:Value->Mem->Prop}(u:q (.iface t v) V):GenK P (.makeInterface t x) ty vals V q:=by
 intro w hw;refine⟨_,w,V,?_,Frm.refl hw,u⟩;unfold execOp;simp[k,Instr.makeInterface,run_underlying h,zK]
end
section
variable{V:Mem}
theorem qLY{n:Nat}{k:Nat}:((n:Int)).fdiv (2^k)=((n/2^k:Nat):Int):=by
 grind
theorem inU(n:Nat)(h:n<18446744073709551616):K.inR .u64 (n:Int):=K.inR_iff.2 (by simp[IntKind.min,IntKind.max,IntKind.signed,IntKind.bits];omega)
end
abbrev qJz:KB:=qAo [0,1,2,2,3,3,3,3,4,4,4,4,4,4,4,4,5,5,5,5,5,5,5,5,5,5,5,5,5,5,5,5,6,6,6,6,6,6,6,6,6,6,6,6,6,6,6,6,6,6,6,6,6,6,6,6,6,6,6,6,6,6,6,6,7,7,7,7,7,7,7,7,7,7,7,7,7,7,7,7,7,7,7,7,7,7,7,7,7,7,7,7,7,7,7,7,7,7,7,7,7,7,7,7,7,7,7,7,7,7,7,7,7,7,7,7,7,7,7,7,7,7,7,7,7,7,7,7,8,8,8,8,8,8,8,8,8,8,8,8,8,8,8,8,8,8,8,8,8,8,8,8,8,8,8,8,8,8,8,8,8,8,8,8,8,8,8,8,8,8,8,8,8,8,8,8,8,8,8,8,8,8,8,8,8,8,8,8,8,8,8,8,8,8,8,8,8,8,8,8,8,8,8,8,8,8,8,8,8,8,8,8,8,8,8,8,8,8,8,8,8,8,8,8,8,8,8,8,8,8,8,8,8,8,8,8,8,8,8,8,8,8,8,8,8,8,8,8,8,8,8,8,8,8,8,8]
def lenN(n:Nat):Int:=if n=0 then 0 else(wu n:Int)+1
theorem lenTab_at{n:Nat}(h:n<256):qBj qJz (n:Int)=lenN n:=by
 have:((zB 256).all λn=>decide (qBj qJz (n:Int)=lenN n))=true:=by kernel_rfl
 simp_all
theorem log2_shift{n k:Nat}(h:2^k<=n):wu n=k+wu (n/2^k):=by
 have u:0<2^k:=wq k;have h0:n/2^k≠0:=by
  simp_all
 have t:n≠0:=by omega
 have key:∀j,j<=wu (n/2^k)↔k+j<=wu n:=λj=>by
  rw[wo h0,wo t,Nat.le_div_iff_mul_le u,<-Nat.pow_add,Nat.add_comm]
 have h1:=(key (wu (n/2^k))).1 (Nat.le_refl _);have h2:k<=wu n:=(wo t).2 h;have h3:=(key (wu n-k)).2 (by omega);omega
theorem qEj{n k:Nat}(h:2^k<=n):lenN n=k+lenN (n/2^k):=by
 have t:0<2^k:=wq k;have h0:n/2^k≠0:=by
  simp_all
 unfold lenN;rw[if_neg (by omega),if_neg h0,log2_shift h];omega
theorem lenN_small{n:Nat}(h:n<256):0<=lenN n/\lenN n<=8:=by
 unfold lenN;split;·omega
 ·rename_i h0;have:wu n<8:=(Nat.log2_lt h0).2 h;omega
section
variable{V:Mem}
theorem c303{n:Nat}(y:n<=1099511627776):PP 303 [.int .u64 n] V (.int .i64 (lenN n)):=by
 refine x303 ?_;have shr:∀(k:Nat)(c:Int),min c.toNat wm.bits=k->(n:Int).fdiv (2^(min c.toNat wm.bits))=((n/2^k:Nat):Int):=λk c h=>by rw[h,qLY]
 have t:∀(k c:Nat),k<256->c<=64->lenN n=c+lenN k->∀v:Int,v=(k:Int)->∀u:Int,u=(c:Int)->K.inR .u8 v/\(0<=v/\v<(qJz.size:Int))/\IR (qBj qJz v)/\IR (u+qBj qJz v)/\(rV (uI (u+qBj qJz v))=Ending.returned (.int .i64 (lenN n))/\V=V):=by
  rintro k c h1 h2 h3 _ rfl _ rfl;have h4:=lenN_small h1;have w:qJz.size=256:=by kernel_rfl
  rw[lenTab_at h1,w,h3];exact⟨⟨by omega,by omega⟩,⟨by omega,by omega⟩,⟨by omega,by omega⟩,⟨by omega,by omega⟩,rfl,rfl⟩
 refine⟨λh1=>GenK.shr rfl rfl (by decide) ⟨_,rfl,?_⟩,λh1=>⟨λh2=>GenK.shr rfl rfl (by decide) ⟨_,rfl,⟨by omega,by omega⟩,?_⟩,λh2=>⟨λh3=>GenK.shr rfl rfl (by decide) ⟨_,rfl,⟨by omega,by omega⟩,?_⟩,λh3=>?_⟩⟩⟩
 ·rw[shr 32 _ rfl];have e:=qEj (n:=n) (k:=32) (by omega);have x:n/2^32<=256:=by omega
  refine⟨λh=>by omega,λ_=>⟨λh2=>GenK.shr rfl rfl (by decide) ⟨_,rfl,⟨by omega,by omega⟩,?_⟩,λh2=>t _ 32 (by omega) (by omega) (by omega) _ rfl _ rfl⟩⟩;have z:=qEj (n:=n/2^32) (k:=8) (by omega);have:((n/2^32:Nat):Int).fdiv (2^(min (8:Int).toNat wm.bits))=((n/2^32/2^8:Nat):Int):=by
   rw[show min (8:Int).toNat wm.bits=8 from rfl,qLY]
  rw[this];exact t _ 40 (by omega) (by omega) (by omega) _ rfl _ rfl
 ·rw[shr 16 _ rfl];have e:=qEj (n:=n) (k:=16) (by omega);refine⟨λh=>GenK.shr rfl rfl (by decide) ⟨_,rfl,⟨by omega,by omega⟩,?_⟩,λh=>t _ 16 (by omega) (by omega) (by omega) _ rfl _ rfl⟩;have z:=qEj (n:=n/2^16) (k:=8) (by omega);have:((n/2^16:Nat):Int).fdiv (2^(min (8:Int).toNat wm.bits))=((n/2^16/2^8:Nat):Int):=by
   rw[show min (8:Int).toNat wm.bits=8 from rfl,qLY]
  rw[this];exact t _ 24 (by omega) (by omega) (by omega) _ rfl _ rfl
 ·rw[shr 8 _ rfl];have e:=qEj (n:=n) (k:=8) (by omega);exact t _ 8 (by omega) (by omega) (by omega) _ rfl _ rfl
 ·exact t _ 0 (by omega) (by omega) (by omega) _ rfl _ rfl
theorem c272{n:Nat}(h:n<=1099511627776):PP 272 [.int .u64 n] V (.int .i64 (lenN n)):=by
 refine x272 ?_;exact(c303 h).call ⟨_,rfl,rfl,rfl⟩
end
end Go.Proofs
