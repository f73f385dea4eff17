/- Part 8: no statement of the seat is proved here. -/
import Derived.Test.YtejinebghgaigaaGreatDoorPr04
import Derived.Test.YtejinebghgaigaaGreatDoorPr05
import Derived.Test.YtejinebghgaigaaGreatDoorPr06
import Derived.Test.YtejinebghgaigaaGreatDoorPr07
import Derived.Shelf.Strings.Fields
import Derived.Test.YtejinebghgaigaaGreatDoorProg
import Derived.Sort.Walk0
import Derived.RangeFuncRecord
set_option linter.unusedVariables false
set_option linter.unusedSimpArgs false
open Go.Proofs.Tryz renaming prog->xE
open Go.IntKind renaming wrap->xF
open Go.Ending renaming returned->xG
open And renaming intro->xH
open List renaming mem_iff_getElem->yd,getElem?_eq_getElem->yv,mem_of_getElem?->xJ,getElem?_cons_succ->xP,getElem?_eq_some_iff->yw
open Go.Value renaming string->yp
open Nat renaming le_of_ble_eq_true->xI
open Go.Lib renaming TabIs->xK,asciiSpaceTab->xL,fields->xM
open Array renaming getElem?_eq_some_iff->z8
open Go.RowKit.Below renaming heap_alloc->xN
open Go.Op renaming bytesLess->xO
open Bool renaming and_eq_true->zC
namespace Go.Proofs
open Go Go.Sx
set_option maxRecDepth 100000
section
variable{V:Mem}{R:RP}
abbrev w318_0(k:Sl)(V1:Mem)(a b:Option Addr)(c d:Int)(g:KB)(i:Sl)(R:RP):Prop:=¬k.p=none/\(0:Int)<=(0:Int)/\0<(k.n:Int)/\∃p,V1.rowp k.p ((0:Int).toNat*1) 1=some [uI p]/\¬k.p=none/\(0:Int)<=(1:Int)/\1<(k.n:Int)/\∃q,V1.rowp k.p 1 1=some [uI q]/\TI 334 #[uP a,uP b,uA #[uI c,uI d,uS g,uL i],uI p,uI q] V1 λr V2=>R (rV (uI r)) V2
theorem x318{a b:Option Addr}{c d:Int}{g:KB}{i:Sl}(h:N2 a (∃j,V.rowp a 13 1=some [uI j]/\Br (j=0) (Br (c=1) (R (rV (uI d)) V) (Br (c=2) (R (rV (uI d)) V) (Br (c=3) (R (rV (uI 0)) V) (Br (c=4) (TI 327 #[uP a,uP b,uS g] V λk V1=>R (rV (uI k)) V1) (Br (c=6) (TI 328 #[uP a,uS g] V λk V1=>R (rV (uI k)) V1) (Br (c=19) (TI 329 #[uP a,uP b,uA #[uI c,uI d,uS g,uL i]] V λk V1=>R (rV (uI k)) V1) (Br (c=20) (TI 329 #[uP a,uP b,uA #[uI c,uI d,uS g,uL i]] V λk V1=>R (rV (uI k)) V1) (Br (c=21) (TI 329 #[uP a,uP b,uA #[uI c,uI d,uS g,uL i]] V λk V1=>R (rV (uI k)) V1) (Lp [z0,uI 0,uI 0] V λI n V1=>∀k l o,I n [uL k,uI l,uI o] V1->∀m:LMP,Nx I n m->Br (o<(i.n:Int)) (Ix i o (∃p q r s,V1.rowp i.p (o.toNat*4) 4=some [uI p,uI q,uS r,uL s]/\TI 318 #[uP a,uP b,uA #[uI p,uI q,uS r,uL s]] V1 λu V2=>Ag [uI u] 3 V2 λy w=>Ap 52 61 43 (uL k) (.slice (Aa y 0) 1 1) w λz x=>N2 a (∃A,x.rowp a 13 1=some [uI A]/\Br (A=0) (IR (o+1)/\m [uL z,uI l,uI (o+1)] x) (R (rV (uI 0)) x)))) (Br (c=5) (¬k.p=none/\(0:Int)<=(0:Int)/\0<(k.n:Int)/\∃p,V1.rowp k.p ((0:Int).toNat*1) 1=some [uI p]/\Br (p=0) (TI 275 #[uP a,uI 17] V1 λq V2=>R (rV (uI q)) V2) (¬k.p=none/\(0:Int)<=(0:Int)/\0<(k.n:Int)/\∃q,V1.rowp k.p ((0:Int).toNat*1) 1=some [uI q]/\TI 330 #[uP a,uI q,uS g] V1 λr V2=>¬k.p=none/\(0:Int)<=(0:Int)/\0<(k.n:Int)/\∃s,V2.rowp k.p ((0:Int).toNat*1) 1=some [uI s]/\TT 331 #[uP a,uI 1,uI s,uI r] V2 λe w=>e=rT #[]/\N2 a (¬(Aa a 8)=none/\∃u,w.rowp a 9 1=some [uL u]/\¬k.p=none/\(0:Int)<=(0:Int)/\0<(k.n:Int)/\∃y,w.rowp k.p ((0:Int).toNat*1) 1=some [uI y]/\IR (y-1)/\Ix u (y-1) (¬(Aa u.p ((y-1).toNat*2))=none/\∃z A,w.rowp u.p ((y-1).toNat*2) 2=some [uI z,uL A]/\Ix A r (IY w A r λB=>R (rV (uI B)) w))))) (Br (c=7) (N2 a (∃p q r s u y z A,V1.rowp a ((0:Int).toNat*1) 8=some [uS p,uL q,uL r,uL s,uL u,uL y,uL z,uL A]/\TI 136 #[uD p q r s u y z A,uS g] V1 λB V2=>TI 241 #[uP a,uI B,uL k] V2 λC w=>R (rV (uI C)) w)) (Br (c=8) (¬k.p=none/\(0:Int)<=(0:Int)/\0<(k.n:Int)/\∃p,V1.rowp k.p ((0:Int).toNat*1) 1=some [uI p]/\IR (0-p)/\TI 332 #[uP a,uI (0-p)] V1 λq V2=>R (rV (uI q)) V2) (Br (c=24) (¬k.p=none/\(0:Int)<=(0:Int)/\0<(k.n:Int)/\∃p,V1.rowp k.p ((0:Int).toNat*1) 1=some [uI p]/\TI 333 #[uI p] V1 λq V2=>R (rV (uI q)) V2) (Br (c=18) (¬k.p=none/\(0:Int)<=(0:Int)/\0<(k.n:Int)/\∃p,V1.rowp k.p ((0:Int).toNat*1) 1=some [uI p]/\IR (1-p)/\R (rV (uI (1-p))) V1) (Br (c=14) (w318_0 k V1 a b c d g i R) (Br (c=15) (w318_0 k V1 a b c d g i R) (Br (c=16) (w318_0 k V1 a b c d g i R) (Br (c=17) (w318_0 k V1 a b c d g i R) (¬k.p=none/\(0:Int)<=(0:Int)/\0<(k.n:Int)/\∃p,V1.rowp k.p ((0:Int).toNat*1) 1=some [uI p]/\¬k.p=none/\(0:Int)<=(1:Int)/\1<(k.n:Int)/\∃q,V1.rowp k.p 1 1=some [uI q]/\TI 335 #[uP a,uI c,uI p,uI q] V1 λr V2=>R (rV (uI r)) V2))))))))))))))))))) (R (rV (uI 0)) V))):TT 318 #[uP a,uP b,uA #[uI c,uI d,uS g,uL i]] V R:=Ae Tryz.func318 h
theorem x319{a b:Option Addr}{c:KB}{d:Int}(h:N2 a (∃g,V.rowp a 13 1=some [uI g]/\Br (g=0) (N2 b (∃i,V.rowp b 5 1=some [uL i]/\TI 336 #[uL i,uS c] V λj V1=>Br (0<=j) (N2 b (∃k,V1.rowp b 6 1=some [uL k]/\Ix k j (Ao (Aa k.p (j.toNat*1)) 0 [uI d] V1 λV2=>R (rT #[]) V2))) (N2 a (¬(Aa a 0)=none/\∃k,V1.rowp a 2 1=some [uL k]/\TI 336 #[uL k,uS c] V1 λl V2=>TT 331 #[uP a,uI 2,uI 0,uI l] V2 λe u=>e=rT #[]/\N2 a (¬(Aa a 8)=none/\∃o,u.rowp a 8 1=some [uL o]/\Ix o l (Ao (Aa o.p (l.toNat*1)) 0 [uI d] u λw=>R (rT #[]) w)))))) (R (rT #[]) V))):TT 319 #[uP a,uP b,uS c,uI d] V R:=Ae Tryz.func319 h
theorem x320{a b:Option Addr}{c:Int}{d:KB}{g i j:Sl}(h:¬g.p=none/\(0:Int)<=(0:Int)/\0<(g.n:Int)/\∃k l o p,V.rowp g.p ((0:Int).toNat*4) 4=some [uI k,uI l,uS o,uL p]/\TI 318 #[uP a,uP b,uA #[uI k,uI l,uS o,uL p]] V λq V1=>¬g.p=none/\(0:Int)<=(1:Int)/\1<(g.n:Int)/\∃r s u y,V1.rowp g.p (1*4) 4=some [uI r,uI s,uS u,uL y]/\TI 318 #[uP a,uP b,uA #[uI r,uI s,uS u,uL y]] V1 λz V2=>N2 a (∃A,V2.rowp a 13 1=some [uI A]/\Br (A=0) (Br (q=0) (TI 275 #[uP a,uI 17] V2 λB w=>R (rT #[]) w) (TI 330 #[uP a,uI q,uS d] V2 λB w=>TT 331 #[uP a,uI 2,uI q,uI B] w λe x=>e=rT #[]/\N2 a (¬(Aa a 8)=none/\∃C,x.rowp a 9 1=some [uL C]/\IR (q-1)/\Ix C (q-1) (¬(Aa C.p ((q-1).toNat*2))=none/\∃D F,x.rowp C.p ((q-1).toNat*2) 2=some [uI D,uL F]/\Ix F B (Ao (Aa F.p (B.toNat*1)) 0 [uI z] x λm=>R (rT #[]) m))))) (R (rT #[]) V2))):TT 320 #[uP a,uP b,uA #[uI c,uS d,uL g,uL i,uL j]] V R:=Ae Tryz.func320 h
theorem x321{a:KB}{b:Sl}{c:Option Addr}(h:∃d,V.rowp c ((0:Int).toNat*1) 1=some [uS d]/\R (rV (uB (decide (a=d)))) V):TT 321 #[uA #[uS a,uL b],uP c] V R:=Ae Tryz.func321 h
abbrev Cq:KB:=
 Ac [0,1,2,2,3,3,3,3,4,4,4,4,4,4,4,4,5,5,5,5,5,5,5,5,5,5,5,5,5,5,5,5,6,6,6,6,6,6,6,6,6,6,6,6,6,6,6,6,6,6,6,6,6,6,6,6,6,6,6,6,6,6,6,6,7,7,7,7,7,7,7,7,7,7,7,7,7,7,7,7,7,7,7,7,7,7,7,7,7,7,7,7,7,7,7,7,7,7,7,7,7,7,7,7,7,7,7,7,7,7,7,7,7,7,7,7,7,7,7,7,7,7,7,7,7,7,7,7,8,8,8,8,8,8,8,8,8,8,8,8,8,8,8,8,8,8,8,8,8,8,8,8,8,8,8,8,8,8,8,8,8,8,8,8,8,8,8,8,8,8,8,8,8,8,8,8,8,8,8,8,8,8,8,8,8,8,8,8,8,8,8,8,8,8,8,8,8,8,8,8,8,8,8,8,8,8,8,8,8,8,8,8,8,8,8,8,8,8,8,8,8,8,8,8,8,8,8,8,8,8,8,8,8,8,8,8,8,8,8,8,8,8,8,8,8,8,8,8,8,8,8,8,8,8,8,8]
theorem x323{a:Int}(h:Br (4294967296<=a) (GenK xE (.binOp .shr 411 (.tmp 5) (.const (.int .u64 32)) 344) 411 (gv [(5,.int .u64 a)]) V λx V1=>∃b,x=.int .u64 b/\Br (65536<=b) (GenK xE (.binOp .shr 411 (.tmp 9) (.const (.int .u64 16)) 344) 411 (gv [(9,.int .u64 b)]) V1 λx V2=>∃c,x=.int .u64 c/\IR ((32:Int)+(16:Int))/\Br (256<=c) (GenK xE (.binOp .shr 411 (.tmp 15) (.const (.int .u64 8)) 344) 411 (gv [(15,.int .u64 c)]) V2 λx k=>∃d,x=.int .u64 d/\IR (((32:Int)+(16:Int))+8)/\K.inR .u8 d/\(0<=d/\d<((Cq).size:Int))/\IR (Bp (Cq) d)/\IR ((((32:Int)+(16:Int))+8)+(Bp (Cq) d))/\R (rV (uI ((((32:Int)+(16:Int))+8)+(Bp (Cq) d)))) k) (K.inR .u8 c/\(0<=c/\c<((Cq).size:Int))/\IR (Bp (Cq) c)/\IR (((32:Int)+(16:Int))+(Bp (Cq) c))/\R (rV (uI (((32:Int)+(16:Int))+(Bp (Cq) c)))) V2)) (Br (256<=b) (GenK xE (.binOp .shr 411 (.tmp 15) (.const (.int .u64 8)) 344) 411 (gv [(15,.int .u64 b)]) V1 λx V2=>∃c,x=.int .u64 c/\IR ((32:Int)+(8:Int))/\K.inR .u8 c/\(0<=c/\c<((Cq).size:Int))/\IR (Bp (Cq) c)/\IR (((32:Int)+(8:Int))+(Bp (Cq) c))/\R (rV (uI (((32:Int)+(8:Int))+(Bp (Cq) c)))) V2) (K.inR .u8 b/\(0<=b/\b<((Cq).size:Int))/\IR (Bp (Cq) b)/\IR (32+(Bp (Cq) b))/\R (rV (uI (32+(Bp (Cq) b)))) V1))) (Br (65536<=a) (GenK xE (.binOp .shr 411 (.tmp 9) (.const (.int .u64 16)) 344) 411 (gv [(9,.int .u64 a)]) V λx V1=>∃b,x=.int .u64 b/\IR ((0:Int)+(16:Int))/\Br (256<=b) (GenK xE (.binOp .shr 411 (.tmp 15) (.const (.int .u64 8)) 344) 411 (gv [(15,.int .u64 b)]) V1 λx V2=>∃c,x=.int .u64 c/\IR (((0:Int)+(16:Int))+8)/\K.inR .u8 c/\(0<=c/\c<((Cq).size:Int))/\IR (Bp (Cq) c)/\IR ((((0:Int)+(16:Int))+8)+(Bp (Cq) c))/\R (rV (uI ((((0:Int)+(16:Int))+8)+(Bp (Cq) c)))) V2) (K.inR .u8 b/\(0<=b/\b<((Cq).size:Int))/\IR (Bp (Cq) b)/\IR (((0:Int)+(16:Int))+(Bp (Cq) b))/\R (rV (uI (((0:Int)+(16:Int))+(Bp (Cq) b)))) V1)) (Br (256<=a) (GenK xE (.binOp .shr 411 (.tmp 15) (.const (.int .u64 8)) 344) 411 (gv [(15,.int .u64 a)]) V λx V1=>∃b,x=.int .u64 b/\IR ((0:Int)+(8:Int))/\K.inR .u8 b/\(0<=b/\b<((Cq).size:Int))/\IR (Bp (Cq) b)/\IR (((0:Int)+(8:Int))+(Bp (Cq) b))/\R (rV (uI (((0:Int)+(8:Int))+(Bp (Cq) b)))) V1) (K.inR .u8 a/\(0<=a/\a<((Cq).size:Int))/\IR (Bp (Cq) a)/\IR (0+(Bp (Cq) a))/\R (rV (uI (0+(Bp (Cq) a)))) V)))):TT 323 #[.int .u64 a] V R:=Ae Tryz.func323 h
theorem x324{a:Int}(h:IR (0-a)/\GenK xE (.call {callee:=(.builtin .max),args:=#[(.tmp 3),(.tmp 5)],argTypes:=#[3,3]}) 3 (gv [(3,uI a),(5,uI (0-a))]) V λx V1=>∃b,x=uI b/\R (rV (uI b)) V1):TT 324 #[uI a] V R:=Ae Tryz.func324 h
theorem x327{a b:Option Addr}{c:KB}(h:N2 b (∃d,V.rowp b 5 1=some [uL d]/\TI 336 #[uL d,uS c] V λg V1=>Br (0<=g) (N2 b (∃i,V1.rowp b 6 1=some [uL i]/\Ix i g (IY V1 i g λj=>R (rV (uI j)) V1))) (N2 a (¬(Aa a 0)=none/\∃i,V1.rowp a 2 1=some [uL i]/\TI 336 #[uL i,uS c] V1 λj V2=>TT 331 #[uP a,uI 1,uI 0,uI j] V2 λe u=>e=rT #[]/\N2 a (¬(Aa a 8)=none/\∃k,u.rowp a 8 1=some [uL k]/\Ix k j (IY u k j λl=>R (rV (uI l)) u)))))):TT 327 #[uP a,uP b,uS c] V R:=Ae Tryz.func327 h
theorem x328{a:Option Addr}{b:KB}(h:N2 a (¬(Aa a 8)=none/\∃c,V.rowp a 9 1=some [uL c]/\Br (4096<=(c.n:Int)) (TI 275 #[uP a,uI 21] V λd V1=>R (rV (uI d)) V1) (N2 a (∃d g i j k l o p,V.rowp a ((0:Int).toNat*1) 8=some [uS d,uL g,uL i,uL j,uL k,uL l,uL o,uL p]/\TI 93 #[uD d g i j k l o p,uS b] V λq V1=>N2 a (¬(Aa a 8)=none/\∃r,V1.rowp a 9 1=some [uL r]/\N2 a (¬(Aa a 0)=none/\∃s,V1.rowp a 1 1=some [uL s]/\Ix s q (¬(Aa s.p (q.toNat*2))=none/\∃u y,V1.rowp s.p (q.toNat*2) 2=some [uS u,uL y]/\GenK xE (.makeSlice 43 (.tmp 37) (.tmp 37)) 43 (gv [(37,uI (y.n:Int)),(37,uI (y.n:Int))]) V1 λx V2=>∃z,x=uL z/\V2.rowp (Aa a 9) 0 1=some [uL r]/\¬(Aa a 8)=none/\N2 a (V2.rowp (Aa a 9) 0 1=some [uL r]/\¬(Aa a 8)=none/\N2 a (Ag [uI q,uL z] 55 V2 λA H=>Ap 26 40 47 (uL r) (.slice (Aa A 0) 1 1) H λB J=>N2 a (¬(Aa a 8)=none/\Ao (Aa a 9) 0 [uL B] J λw=>N2 a (¬(Aa a 8)=none/\∃C,w.rowp a 9 1=some [uL C]/\TT 331 #[uP a,uI 3,uI (C.n:Int),uI q] w λe m=>e=rT #[]/\N2 a (¬(Aa a 8)=none/\∃D,m.rowp a 9 1=some [uL D]/\R (rV (uI (D.n:Int))) m)))))))))))):TT 328 #[uP a,uS b] V R:=Ae Tryz.func328 h
abbrev Hm(w:Sl)(V1:Mem)(x j:Option Addr)(R:RP):Prop:=
 ¬w.p=none/\(0:Int)<=(1:Int)/\1<(w.n:Int)/\∃h k g u,V1.rowp w.p (1*4) 4=some [uI h,uI k,uS g,uL u]/\
 TI 318 #[uP x,uP j,uA #[uI h,uI k,uS g,uL u]] V1 λy V2=>
 R (rV (uI y)) V2
theorem x329{a b:Option Addr}{c d:Int}{g:KB}{i:Sl}(h:¬i.p=none/\(0:Int)<=(0:Int)/\0<(i.n:Int)/\∃j k l o,V.rowp i.p ((0:Int).toNat*4) 4=some [uI j,uI k,uS l,uL o]/\TI 318 #[uP a,uP b,uA #[uI j,uI k,uS l,uL o]] V λp V1=>N2 a (∃q,V1.rowp a 13 1=some [uI q]/\Br (q=0) (Br (c=21) (Br (p=0) (¬i.p=none/\(0:Int)<=(2:Int)/\2<(i.n:Int)/\∃r s u y,V1.rowp i.p (2*4) 4=some [uI r,uI s,uS u,uL y]/\TI 318 #[uP a,uP b,uA #[uI r,uI s,uS u,uL y]] V1 λz V2=>R (rV (uI z)) V2) (Br (c=19) (Br (p=0) (R (rV (uI 0)) V1) (Br (c=20) (Br (p=0) (Hm i V1 a b R) (R (rV (uI 1)) V1)) (Hm i V1 a b R))) (Br (c=20) (Br (p=0) (Hm i V1 a b R) (R (rV (uI 1)) V1)) (Hm i V1 a b R)))) (Br (c=19) (Br (p=0) (R (rV (uI 0)) V1) (Br (c=20) (Br (p=0) (Hm i V1 a b R) (R (rV (uI 1)) V1)) (Hm i V1 a b R))) (Br (c=20) (Br (p=0) (Hm i V1 a b R) (R (rV (uI 1)) V1)) (Hm i V1 a b R)))) (R (rV (uI 0)) V1))):TT 329 #[uP a,uP b,uA #[uI c,uI d,uS g,uL i]] V R:=Ae Tryz.func329 h
theorem x330{a:Option Addr}{b:Int}{c:KB}(h:N2 a (¬(Aa a 0)=none/\∃d,V.rowp a 1 1=some [uL d]/\N2 a (¬(Aa a 8)=none/\∃g,V.rowp a 9 1=some [uL g]/\IR (b-1)/\Ix g (b-1) (¬(Aa g.p ((b-1).toNat*2))=none/\∃i j,V.rowp g.p ((b-1).toNat*2) 2=some [uI i,uL j]/\Ix d i (¬(Aa d.p (i.toNat*2))=none/\∃k l,V.rowp d.p (i.toNat*2) 2=some [uS k,uL l]/\TI 336 #[uL l,uS c] V λo V1=>R (rV (uI o)) V1))))):TT 330 #[uP a,uI b,uS c] V R:=Ae Tryz.func330 h
theorem x331{a:Option Addr}{b c d:Int}(h:N2 a (∃g,V.rowp a 17 1=some [uL g]/\Ag [uI b,uI c,uI d] 211 V λi V1=>Ap 12 17 138 (uL g) (.slice (Aa i 0) 1 1) V1 λj V2=>N2 a (Ao (Aa a 17) 0 [uL j] V2 λu=>Br (0<c) (N2 a (¬(Aa a 14)=none/\∃k,u.rowp a 15 1=some [uI k]/\IR (k+1)/\N2 a (¬(Aa a 14)=none/\Ao (Aa a 15) 0 [uI (k+1)] u λw=>R (rT #[]) w))) (R (rT #[]) u)))):TT 331 #[uP a,uI b,uI c,uI d] V R:=Ae Tryz.func331 h
theorem x332{a:Option Addr}{b:Int}(h:Br (b<(-1099511627776)) (TI 275 #[uP a,uI 5] V λc V1=>R (rV (uI c)) V1) (Br (1099511627776<b) (TI 275 #[uP a,uI 5] V λc V1=>R (rV (uI c)) V1) (R (rV (uI b)) V))):TT 332 #[uP a,uI b] V R:=Ae Tryz.func332 h
theorem x333{a:Int}(h:Lp [uI a,uI 0] V λI n V1=>∀b c,I n [uI b,uI c] V1->∀k:LMP,Nx I n k->Br (1<b) (¬(2:Int)=(0:Int)/\IR (c+1)/\k [uI (xF .i64 ((b).tdiv (2:Int))),uI (c+1)] V1) (R (rV (uI c)) V1)):TT 333 #[uI a] V R:=Ae Tryz.func333 h
abbrev w334_0(c j k:Int)(V2:Mem)(R:RP):Prop:=Br (c=15) (TI 338 #[uB (!(decide (j=k)))] V2 λu h=>R (rV (uI u)) h) (Br (c=16) (TI 338 #[uB (decide (j<k))] V2 λu h=>R (rV (uI u)) h) (TI 338 #[uB (decide (j<=k))] V2 λu h=>R (rV (uI u)) h))
theorem x334{a b:Option Addr}{c d:Int}{g:KB}{i:Sl}{j k:Int}(h:¬i.p=none/\(0:Int)<=(0:Int)/\0<(i.n:Int)/\∃l o p q,V.rowp i.p ((0:Int).toNat*4) 4=some [uI l,uI o,uS p,uL q]/\TB 337 #[uP a,uP b,uA #[uI l,uI o,uS p,uL q]] V λr V1=>Br (r=true) (N2 a (¬(Aa a 14)=none/\∃s,V1.rowp a 14 1=some [uI s]/\IR (s+1)/\N2 a (¬(Aa a 14)=none/\Ao (Aa a 14) 0 [uI (s+1)] V1 λV2=>Br (c=14) (TI 338 #[uB (decide (j=k))] V2 λu w=>R (rV (uI u)) w) (w334_0 c j k V2 R)))) (Br (c=14) (TI 338 #[uB (decide (j=k))] V1 λs V2=>R (rV (uI s)) V2) (w334_0 c j k V1 R))):TT 334 #[uP a,uP b,uA #[uI c,uI d,uS g,uL i],uI j,uI k] V R:=Ae Tryz.func334 h
theorem x335{a:Option Addr}{b c d:Int}(h:Br (b=9) (IR (c+d)/\TI 332 #[uP a,uI (c+d)] V λg V1=>R (rV (uI g)) V1) (Br (b=10) (IR (c-d)/\TI 332 #[uP a,uI (c-d)] V λg V1=>R (rV (uI g)) V1) (Br (b=11) (TI 339 #[uP a,uI c,uI d] V λg V1=>R (rV (uI g)) V1) (Br (b=22) (Br (c<d) (R (rV (uI d)) V) (R (rV (uI c)) V)) (Br (b=23) (Br (d<c) (R (rV (uI d)) V) (R (rV (uI c)) V)) (Br (d=0) (TI 275 #[uP a,uI 18] V λg V1=>R (rV (uI g)) V1) (Br (b=12) (¬d=0/\TI 332 #[uP a,uI (xF .i64 ((c).tdiv d))] V λg V1=>R (rV (uI g)) V1) (¬d=0/\R (rV (uI ((c).tmod d))) V)))))))):TT 335 #[uP a,uI b,uI c,uI d] V R:=Ae Tryz.func335 h
theorem x336{a:Sl}{b:KB}(h:Lp [uI 0,uI 0] V λI n V1=>∀c d,I n [uI c,uI d] V1->∀k:LMP,Nx I n k->Br (d<(a.n:Int)) (Ix a d (¬(Aa a.p (d.toNat*2))=none/\∃g i,V1.rowp a.p (d.toNat*2) 2=some [uS g,uS i]/\Br (g=b) (R (rV (uI d)) V1) (IR (d+1)/\k [uI c,uI (d+1)] V1))) (R (rV (uI (-1))) V1)):TT 336 #[uL a,uS b] V R:=Ae Tryz.func336 h
theorem x337{a b:Option Addr}{c d:Int}{g:KB}{i:Sl}(h:N2 a (∃j k l o p q r s,V.rowp a ((0:Int).toNat*1) 8=some [uS j,uL k,uL l,uL o,uL p,uL q,uL r,uL s]/\N2 a (∃u y z A B C D F,V.rowp a ((0:Int).toNat*1) 8=some [uS u,uL y,uL z,uL A,uL B,uL C,uL D,uL F]/\N2 b (∃G H L M N,V.rowp b ((0:Int).toNat*1) 5=some [uS G,uL H,uS L,uL M,uL N]/\TT 293 #[uD u y z A B C D F,uA #[uS G,uL H,uS L,uL M,uL N]] V λe V1=>∃O P,e=rV (uA #[uL O,uB P])/\V1.rowp (Aa a 0) 0 8=some [uS j,uL k,uL l,uL o,uL p,uL q,uL r,uL s]/\N2 a (TT 296 #[uD j k l o p q r s,uA #[uL O,uB P],uA #[uI c,uI d,uS g,uL i]] V1 λe V2=>∃Q U,e=rT #[uS Q,uI U]/\Br (U=0) (R (rV (uB (decide (Q=(Ac [105,110,116]))))) V2) (R KQ V2)))))):TT 337 #[uP a,uP b,uA #[uI c,uI d,uS g,uL i]] V R:=Ae Tryz.func337 h
theorem x338{a:Bool}(h:Br (a=true) (R (rV (uI 1)) V) (R (rV (uI 0)) V)):TT 338 #[uB a] V R:=Ae Tryz.func338 h
theorem x339{a:Option Addr}{b c:Int}(h:Br (b<0) (IR (0-b)/\Br (c<0) (IR (0-c)/\Br (0<(0-b)) (¬(0-b)=0/\Br ((xF .i64 (((1099511627776:Int)).tdiv (0-b)))<(0-c)) (TI 275 #[uP a,uI 5] V λd V1=>R (rV (uI d)) V1) (IR (b*c)/\R (rV (uI (b*c))) V)) (IR (b*c)/\R (rV (uI (b*c))) V)) (Br (0<(0-b)) (¬(0-b)=0/\Br ((xF .i64 (((1099511627776:Int)).tdiv (0-b)))<c) (TI 275 #[uP a,uI 5] V λd V1=>R (rV (uI d)) V1) (IR (b*c)/\R (rV (uI (b*c))) V)) (IR (b*c)/\R (rV (uI (b*c))) V))) (Br (c<0) (IR (0-c)/\Br (0<b) (¬b=0/\Br ((xF .i64 (((1099511627776:Int)).tdiv b))<(0-c)) (TI 275 #[uP a,uI 5] V λd V1=>R (rV (uI d)) V1) (IR (b*c)/\R (rV (uI (b*c))) V)) (IR (b*c)/\R (rV (uI (b*c))) V)) (Br (0<b) (¬b=0/\Br ((xF .i64 (((1099511627776:Int)).tdiv b))<c) (TI 275 #[uP a,uI 5] V λd V1=>R (rV (uI d)) V1) (IR (b*c)/\R (rV (uI (b*c))) V)) (IR (b*c)/\R (rV (uI (b*c))) V)))):TT 339 #[uP a,uI b,uI c] V R:=Ae Tryz.func339 h
theorem x9(h:TT 11 #[] V λe V1=>∃a b c d g i j k,e=rV (uD a b c d g i j k)/\TT 10 #[uD a b c d g i j k] V1 λe V2=>∃l o,e=rT #[uP l,uI o]/\Br (o=0) (Br (l=none) (R KQ V2) (Ag [uI 5,uI 7] 3 V2 λp Y=>Lp [uB false,uI 0] Y λI n m=>∀q r,I n [uB q,uI r] m->∀Z:LMP,Nx I n Z->Br (r<2) (¬(Aa p 0)=none/\0<=r/\r<2/\∃s,m.rowp (Aa p 0) (r.toNat*1) 1=some [uI s]/\Ag [uI s] 3 m λu J=>TT 12 #[uP l,uI 0,uA #[uS (Ac [112,117,115,104]),.slice (Aa u 0) 1 1],uI 100] J λe x=>∃y z A B C D F,e=rT #[uI y,uA #[uI z,uI A,uI B,uI C,uI D],uI F]/\IR (r+1)/\Br (y=(r+1)) (Br (z=0) (Br (F=0) (IR (r+1)/\Z [uB q,uI (r+1)] x) (R KQ x)) (R KQ x)) (R KQ x)) (TT 13 #[uP l,uI 1,uI 2,uS (Ac [97,112,112,101,110,100]),uI 100] m λe J=>∃s u y z A B C,e=rT #[uI s,uA #[uI u,uI y,uI z,uI A,uI B],uI C]/\TT 13 #[uP l,uI 3,uI 3,uS (Ac [97,112,112,101,110,100]),uI 100] J λe x=>∃D F G H L M N,e=rT #[uI D,uA #[uI F,uI G,uI H,uI L,uI M],uI N]/\TT 15 #[uP l,uI 4] x λe W=>∃O P,e=rT #[uI O,uI P]/\TT 16 #[uP l,uI 4] W λe w=>∃Q U,e=rT #[uI Q,uI U]/\Br (C=0) (Br (s=3) (Br (N=0) (Br (D=4) (Br (P=0) (Br (O=4) (Br (U=0) (R (rV (uB (decide (Q=4)))) w) (R KQ w)) (R KQ w)) (R KQ w)) (R KQ w)) (R KQ w)) (R KQ w)) (R KQ w)))) (R KQ V2)):TT 9 #[] V R:=ER Tryz.func9 [29] [] false (by kernel_rfl) (by kernel_rfl) h
theorem Qx{a:Option Addr}{b:Int}(h:Ag [uI b] 3 V λc V1=>TI 43 #[uP a,uI 0,.slice (Aa c 0) 1 1] V1 λd V2=>Br (d=0) (N2 a (∃g,V2.rowp a 8 1=some [uL g]/\Ix g b (¬(Aa g.p (b.toNat*5))=none/\∃i j k l o,V2.rowp g.p (b.toNat*5) 5=some [uL i,uL j,uL k,uL l,uI o]/\TL 51 #[uL i] V2 λp m=>Lp [uL p,z0,uI 0] m λI n w=>∀q r s,I n [uL q,uL r,uI s] w->∀x:LMP,Nx I n x->Br (s<(j.n:Int)) (Ix j s (∃u y,w.rowp j.p (s.toNat*2) 2=some [uI u,uL y]/\TL 51 #[uL y] w λz e=>Ag [uI u,uL z] 55 e λA H=>Ap 39 46 47 (uL r) (.slice (Aa A 0) 1 1) H λB J=>IR (s+1)/\x [uL q,uL B,uI (s+1)] J)) (R (rT #[uA #[uL q,uL r],uI 0]) w)))) (R (rT #[uA #[z0,z0],uI d]) V2)):TT 14 #[uP a,uI b] V R:=ER Tryz.func14 [] [(7,[8])] false (by kernel_rfl) (by kernel_rfl) h
theorem Qy{a:KB}{b c d g i j k l:Sl}(h:TT 10 #[uD a b c d g i j k] V λe V1=>∃o p,e=rT #[uP o,uI p]/\TB 55 #[uD a b c d g i j k] V1 λq V2=>Br (q=true) (TT 56 #[uD a b c d g i j k] V2 λe J=>∃r s u y z A B C D F,e=rV (uA #[uS r,uL s,uL u,uL y,uL z,uL A,uL B,uL C,uL D,uL F])/\Br (p=0) (Br (o=none) (R (rT #[uP none,uA #[uS r,uL s,uL u,uL y,uL z,uL A,uL B,uL C,uL D,uL F],uB false]) J) (Lp [uS r,uL s,uL u,uL y,uL z,uL A,uL B,uL C,uL D,uL F,uP none,uB false,uI 0] J λI n m=>∀G H L M N O P Q U W X Y Z,I n [uS G,uL H,uL L,uL M,uL N,uL O,uL P,uL Q,uL U,uL W,uP X,uB Y,uI Z] m->∀J0:LMP,Nx I n J0->Br (Z<(l.n:Int)) (Ix l Z (∃a0 a1 a2 a3 E,m.rowp l.p (Z.toNat*5) 5=some [uB a0,uI a1,uI a2,uS a3,uL E]/\TT 33 #[uP o,uA #[uB a0,uI a1,uI a2,uS a3,uL E]] m λe V5=>∃a5 a6 a7 a8 a9 b0 b1,e=rT #[uI a5,uA #[uI a6,uI a7,uI a8,uI a9,uI b0],uI b1]/\TT 57 #[uA #[uS G,uL H,uL L,uL M,uL N,uL O,uL P,uL Q,uL U,uL W],uA #[uB a0,uI a1,uI a2,uS a3,uL E],uI 120] V5 λe x=>∃b2 b3 K S b6 b7 b8 b9 T w c2 c3 c4 c5 c6 c7 c8,e=rT #[uA #[uS b2,uL b3,uL K,uL S,uL b6,uL b7,uL b8,uL b9,uL T,uL w],uI c2,uA #[uI c3,uI c4,uI c5,uI c6,uI c7],uI c8]/\Br (a5=c2) (Br ((a6=c3)/\((a7=c4)/\((a8=c5)/\((a9=c6)/\(b0=c7))))) (Br (b1=c8) (IR ((w.n:Int)-1)/\Ix w ((w.n:Int)-1) (¬(Aa w.p (((w.n:Int)-1).toNat*2))=none/\∃c9 d0,x.rowp w.p (((w.n:Int)-1).toNat*2) 2=some [uL c9,uL d0]/\Br (200<(d0.n:Int)) (R (rT #[uP o,uA #[uS b2,uL b3,uL K,uL S,uL b6,uL b7,uL b8,uL b9,uL T,uL w],uB true]) x) (IR (Z+1)/\J0 [uS b2,uL b3,uL K,uL S,uL b6,uL b7,uL b8,uL b9,uL T,uL w,uP X,uB Y,uI (Z+1)] x))) (R (rT #[uP none,uA #[uS G,uL H,uL L,uL M,uL N,uL O,uL P,uL Q,uL U,uL W],uB false]) x)) (R (rT #[uP none,uA #[uS G,uL H,uL L,uL M,uL N,uL O,uL P,uL Q,uL U,uL W],uB false]) x)) (R (rT #[uP none,uA #[uS G,uL H,uL L,uL M,uL N,uL O,uL P,uL Q,uL U,uL W],uB false]) x))) (R (rT #[uP o,uA #[uS G,uL H,uL L,uL M,uL N,uL O,uL P,uL Q,uL U,uL W],uB true]) m))) (R (rT #[uP none,uA #[uS r,uL s,uL u,uL y,uL z,uL A,uL B,uL C,uL D,uL F],uB false]) J)) (Br (p=1) (R (rT #[uP none,uA #[uS (Ac []),z0,z0,z0,z0,z0,z0,z0,z0,z0],uB (o).isNone]) V2) (R (rT #[uP none,uA #[uS (Ac []),z0,z0,z0,z0,z0,z0,z0,z0,z0],uB false]) V2))):TT 19 #[uD a b c d g i j k,uL l] V R:=ER Tryz.func19 [] [(8,[9])] false (by kernel_rfl) (by kernel_rfl) h
theorem Qz{a:KB}{b c d g i j k l o p q:Sl}(h:TT 61 #[uA #[uL l,uL o]] V λe V1=>∃r s,e=rV (uA #[uL r,uL s])/\TT 62 #[uD a b c d g i j k,uA #[uL p,uL q]] V1 λe V2=>∃u y,e=rV (uA #[uL u,uL y])/\Lp [uL r,uL s,uI 0] V2 λI n w=>∀z A B,I n [uL z,uL A,uI B] w->∀x:LMP,Nx I n x->Br (B<(y.n:Int)) (Ix y B (∃C D,w.rowp y.p (B.toNat*2) 2=some [uI C,uL D]/\Ix b C (¬(Aa b.p (C.toNat*2))=none/\∃F G,w.rowp b.p (C.toNat*2) 2=some [uS F,uL G]/\TL 63 #[uL G,uL D,uI (o.n:Int)] w λH m=>Ag [uI C,uL H] 55 m λL J=>Ap 34 49 47 (uL A) (.slice (Aa L 0) 1 1) J λM N=>IR (B+1)/\x [uL z,uL M,uI (B+1)] N))) (¬u.p=none/\(0:Int)<=(0:Int)/\0<(u.n:Int)/\∃C,w.rowp u.p ((0:Int).toNat*1) 1=some [uI C]/\Br (C=0) (R (rT #[uA #[uL z,uL A],uI 0]) w) (¬u.p=none/\(0:Int)<=(0:Int)/\0<(u.n:Int)/\∃D,w.rowp u.p ((0:Int).toNat*1) 1=some [uI D]/\IR ((o.n:Int)+D)/\IR ((o.n:Int)+D)/\w.rowp (Aa u.p ((0:Int).toNat*1)) 0 1=some [uI D]/\¬u.p=none/\(0:Int)<=(0:Int)/\0<(u.n:Int)/\R (rT #[uA #[uL z,uL A],uI ((o.n:Int)+D)]) w))):TT 30 #[uD a b c d g i j k,uA #[uL l,uL o],uA #[uL p,uL q]] V R:=ER Tryz.func30 [] [(5,[8])] false (by kernel_rfl) (by kernel_rfl) h
theorem QA{a:Option Addr}{b c d:Sl}{g:KB}{i:Sl}{j:Int}{k:Sl}(h:N2 a (∃l o p q r s u y,V.rowp a ((0:Int).toNat*1) 8=some [uS l,uL o,uL p,uL q,uL r,uL s,uL u,uL y]/\TT 31 #[uD l o p q r s u y,uA #[uL b,uL c],uA #[uS g,uL i],uI j] V λe V1=>∃z A B C D F G H,e=rT #[uA #[uI z,uI A,uI B,uI C,uI D],uA #[uL F,uL G],uI H]/\Br (H=0) (N2 a (∃L,V1.rowp a 8 1=some [uL L]/\Br (1000<=(L.n:Int)) (R (rT #[uI 0,uA #[uI 0,uI 0,uI 0,uI 0,uI 0],uI 4]) V1) (Br (z=0) (N2 a (∃M N O P Q U W X,V1.rowp a ((0:Int).toNat*1) 8=some [uS M,uL N,uL O,uL P,uL Q,uL U,uL W,uL X]/\TT 80 #[uD M N O P Q U W X,uA #[uL F,uL G]] V1 λe V2=>∃Y Z,e=rT #[uL Y,uI Z]/\Br (Z=0) (N2 a (∃a0 a1 a2 a3 a4 a5 a6 a7,V2.rowp a ((0:Int).toNat*1) 8=some [uS a0,uL a1,uL a2,uL a3,uL a4,uL a5,uL a6,uL a7]/\TT 81 #[uD a0 a1 a2 a3 a4 a5 a6 a7,uA #[uL F,uL G]] V2 λe V3=>∃a8 a9 b0,e=rT #[uA #[uL a8,uL a9],uI b0]/\Br (b0=0) (TL 82 #[uP a,uA #[uL b,uL c],uA #[uL F,uL G],uL d] V3 λb1 V4=>Lp [uL a8,uL a9,z0,uL k,uI 0,uI 0] V4 λI n J=>∀b2 b3 b4 b5 b6 b7,I n [uL b2,uL b3,uL b4,uL b5,uI b6,uI b7] J->∀J0:LMP,Nx I n J0->Br (b7<(Y.n:Int)) (Ix Y b7 (IY J Y b7 λb8=>IR (b8-1)/\Ix b1 (b8-1) (∃b9,J.rowp b1.p ((b8-1).toNat*1) 1=some [uB b9]/\Br (b9=true) (IR (b8-1)/\Ix d (b8-1) (∃m,J.rowp d.p ((b8-1).toNat*1) 1=some [uI m]/\Ag [uI m] 3 J λE w=>Ap 98 104 43 (uL b4) (.slice (Aa E 0) 1 1) w λK S=>IR (b7+1)/\J0 [uL b2,uL b3,uL K,uL b5,uI b6,uI (b7+1)] S)) (N2 a (∃m,J.rowp a 9 1=some [uI m]/\IR (m+1)/\N2 a (Ao (Aa a 9) 0 [uI (m+1)] J λw=>N2 a (∃E,w.rowp a 9 1=some [uI E]/\Ag [uI E] 3 w λK S=>Ap 115 120 43 (uL b4) (.slice (Aa K 0) 1 1) S λc3 V8=>IR (b7+1)/\J0 [uL b2,uL b3,uL c3,uL b5,uI b6,uI (b7+1)] V8))))))) (Lp [uL b2,uL b3,uL b4,uL b5,uI b6,uI 0] J λI n w=>∀b8 b9 m E K c3,I n [uL b8,uL b9,uL m,uL E,uI K,uI c3] w->∀J1:LMP,Nx I n J1->Br (c3<(k.n:Int)) (Ix k c3 (IY w k c3 λT=>N2 a (∃c5,w.rowp a 8 1=some [uL c5]/\Ix c5 T (¬(Aa c5.p (T.toNat*5))=none/\∃c6 c7 c8 c9 d0,w.rowp c5.p (T.toNat*5) 5=some [uL c6,uL c7,uL c8,uL c9,uI d0]/\IR (K+d0)/\GenK xE (.call {callee:=(.builtin .min),args:=#[(.const (.int .i64 1099511627776)),(.tmp 140)],argTypes:=#[3,3]}) 3 (gv [(140,uI (K+d0))]) w λx S=>∃d1,x=uI d1/\IR (c3+1)/\J1 [uL b8,uL b9,uL m,uL E,uI d1,uI (c3+1)] S)))) (N2 a (∃T,w.rowp a 8 1=some [uL T]/\w.rowp (Aa a 8) 0 1=some [uL T]/\N2 a (Ag [uL b8,uL b9,uL m,uL E,uI K] 98 w λc5 S=>Ap 148 150 99 (uL T) (.slice (Aa c5 0) 1 1) S λc6 V8=>N2 a (Ao (Aa a 8) 0 [uL c6] V8 λV9=>N2 a (∃c7,V9.rowp a 8 1=some [uL c7]/\IR ((c7.n:Int)-1)/\R (rT #[uI ((c7.n:Int)-1),uA #[uI z,uI A,uI B,uI C,uI D],uI 0]) V9))))))) (R (rT #[uI 0,uA #[uI 0,uI 0,uI 0,uI 0,uI 0],uI b0]) V3))) (R (rT #[uI 0,uA #[uI 0,uI 0,uI 0,uI 0,uI 0],uI Z]) V2))) (R (rT #[uI (-1),uA #[uI z,uI A,uI B,uI C,uI D],uI 0]) V1)))) (R (rT #[uI 0,uA #[uI 0,uI 0,uI 0,uI 0,uI 0],uI H]) V1))):TT 48 #[uP a,uA #[uL b,uL c],uL d,uA #[uS g,uL i],uI j,uL k] V R:=ER Tryz.func48 [] [(17,[19]),(25,[19])] false (by kernel_rfl) (by kernel_rfl) h
theorem QB{a:Option Addr}{b c:Int}(h:N2 a (∃d,V.rowp a 8 1=some [uL d]/\Ix d b (∃g i j k l,V.rowp d.p (b.toNat*5) 5=some [uL g,uL i,uL j,uL k,uI l]/\N2 a (∃o,V.rowp a 8 1=some [uL o]/\Ix o c (∃p q r s u,V.rowp o.p (c.toNat*5) 5=some [uL p,uL q,uL r,uL s,uI u]/\V.rowp (Aa o.p (c.toNat*5)) 0 5=some [uL p,uL q,uL r,uL s,uI u]/\Ix o c (V.rowp (Aa a 8) 0 1=some [uL o]/\N2 a (TL 51 #[uL g] V λy V1=>TL 83 #[uL i] V1 λz V2=>TL 51 #[uL j] V2 λA V3=>GenK xE (.makeSlice 43 (.tmp 55) (.tmp 55)) 43 (gv [(55,uI (p.n:Int)),(55,uI (p.n:Int))]) V3 λx V4=>∃B,x=uL B/\¬p.p=none/\(0:Int)<=(0:Int)/\0<(p.n:Int)/\∃C,V4.rowp p.p ((0:Int).toNat*1) 1=some [uI C]/\¬B.p=none/\(0:Int)<=(0:Int)/\0<(B.n:Int)/\Ao (Aa B.p ((0:Int).toNat*1)) 0 [uI C] V4 λV5=>N2 a (∃D F G H L M N O,V5.rowp a ((0:Int).toNat*1) 8=some [uS D,uL F,uL G,uL H,uL L,uL M,uL N,uL O]/\TT 80 #[uD D F G H L M N O,uA #[uL B,uL q]] V5 λe V6=>∃P Q,e=rT #[uL P,uI Q]/\Br (Q=0) (GenK xE (.makeMap 154 none) 154 (gv []) V6 λx V7=>∃U,x=uM U/\Lp [uI 0] V7 λI n V8=>∀W,I n [uI W] V8->∀J0:LMP,Nx I n J0->Br (W<(P.n:Int)) (Ix P W (IY V8 P W λX=>IR ((i.n:Int)+W)/\IR (((i.n:Int)+W)+1)/\C3 xE 154 (uM U) (uI X) (uI (((i.n:Int)+W)+1)) V8 λw=>IR (W+1)/\J0 [uI (W+1)] w)) (Lp [uL y,uL z,uL A,uI 0] V8 λI n w=>∀X Y Z a0,I n [uL X,uL Y,uL Z,uI a0] w->∀J1:LMP,Nx I n J1->Br (a0<(P.n:Int)) (Ix P a0 (IY w P a0 λa1=>IR (a1-1)/\Ix q (a1-1) (∃a2 a3,w.rowp q.p ((a1-1).toNat*2) 2=some [uI a2,uL a3]/\TL 51 #[uL a3] w λa4 S=>N2 a (¬(Aa a 0)=none/\∃a5,S.rowp a 1 1=some [uL a5]/\Ix a5 a2 (¬(Aa a5.p (a2.toNat*2))=none/\∃a6 a7,S.rowp a5.p (a2.toNat*2) 2=some [uS a6,uL a7]/\Lp [uI 0] S λI n E=>∀J,I n [uI J] E->∀J2:LMP,Nx I n J2->Br (J<(a7.n:Int)) (Ix a7 J (∃a9 b0,E.rowp a7.p (J.toNat*2) 2=some [uS a9,uS b0]/\TB 45 #[uS b0] E λb1 m=>Br (b1=true) (Ix a4 J (IY m a4 J λb2=>BJ xE 154 (uM U) (uI b2) false m λx=>∃b3,x=uI b3/\Ix a4 J (Ao (Aa a4.p (J.toNat*1)) 0 [uI b3] m λK=>IR (J+1)/\J2 [uI (J+1)] K))) (IR (J+1)/\J2 [uI (J+1)] m))) (Ag [uI a2,uL a4] 55 E λa9 m=>Ap 146 151 47 (uL Y) (.slice (Aa a9 0) 1 1) m λb0 K=>IR (a1-1)/\Ix r (a1-1) (∃b1,K.rowp r.p ((a1-1).toNat*1) 1=some [uI b1]/\TB 84 #[uL j,uI b1] K λb2 V14=>Br (b2=true) (Ag [uI 0] 3 V14 λb3 T=>Ap 164 166 43 (uL Z) (.slice (Aa b3 0) 1 1) T λb4 V16=>IR (a0+1)/\J1 [uL X,uL b0,uL b4,uI (a0+1)] V16) (Ag [uI b1] 3 V14 λb3 T=>Ap 164 166 43 (uL Z) (.slice (Aa b3 0) 1 1) T λb4 V16=>IR (a0+1)/\J1 [uL X,uL b0,uL b4,uI (a0+1)] V16)))))))) (¬p.p=none/\(0:Int)<=(0:Int)/\0<(p.n:Int)/\∃a1,w.rowp p.p ((0:Int).toNat*1) 1=some [uI a1]/\(w.rowp (Aa p.p ((0:Int).toNat*1)) 0 1=some [uI a1]/\¬p.p=none/\(0:Int)<=(0:Int)/\0<(p.n:Int)/\(w.rowp (Aa p.p ((0:Int).toNat*1)) 0 1=some [uI a1]/\¬p.p=none/\(0:Int)<=(0:Int)/\0<(p.n:Int)/\BJ xE 154 (uM U) (uI a1) false w λx=>∃a2,x=uI a2/\R (rT #[uA #[uL X,uL Y],uL Z,uI a2]) w)/\(BJ xE 154 (uM U) (uI a1) false w λx=>∃a2,x=uI a2/\R (rT #[uA #[uL X,uL Y],uL Z,uI a2]) w))/\(BJ xE 154 (uM U) (uI a1) false w λx=>∃a2,x=uI a2/\R (rT #[uA #[uL X,uL Y],uL Z,uI a2]) w)))) (R (rT #[uA #[uL y,uL z],uL A,uI 0]) V6))))))))):TT 50 #[uP a,uI b,uI c] V R:=ER Tryz.func50 [] [(16,[11])] false (by kernel_rfl) (by kernel_rfl) h
theorem QC{a b:Sl}(h:Ag [] 3 V λc V1=>Ap 5 7 43 (.slice (Aa c 0) (0:Int).toNat (0:Int).toNat) (uL a) V1 λd V2=>Lp [uL d,z0,uI 0] V2 λI n w=>∀g i j,I n [uL g,uL i,uI j] w->∀y:LMP,Nx I n y->Br (j<(b.n:Int)) (Ix b j (¬(Aa b.p (j.toNat*2))=none/\∃k l,w.rowp b.p (j.toNat*2) 2=some [uI k,uL l]/\Ix b j (¬(Aa b.p (j.toNat*2))=none/\∃o p,w.rowp b.p (j.toNat*2) 2=some [uI o,uL p]/\w.rowp (Aa (Aa b.p (j.toNat*2)) 1) 0 1=some [uL p]/\¬(Aa b.p (j.toNat*2))=none/\Ix b j (w.rowp (Aa (Aa b.p (j.toNat*2)) 0) 0 1=some [uI k]/\¬(Aa b.p (j.toNat*2))=none/\Ix b j (Ag [] 3 w λq m=>Ap 25 31 43 (.slice (Aa q 0) (0:Int).toNat (0:Int).toNat) (uL p) m λr x=>x.rowp (Aa (Aa b.p (j.toNat*2)) 0) 0 1=some [uI k]/\¬(Aa b.p (j.toNat*2))=none/\Ix b j (Ag [uI k,uL r] 55 x λs e=>Ap 18 34 47 (uL i) (.slice (Aa s 0) 1 1) e λu H=>IR (j+1)/\y [uL g,uL u,uI (j+1)] H)))))) (R (rV (uA #[uL g,uL i])) w)):TT 61 #[uA #[uL a,uL b]] V R:=ER Tryz.func61 [] [(3,[3])] false (by kernel_rfl) (by kernel_rfl) h
theorem QD{a:KB}{b c d g i j k l o:Sl}(h:TT 97 #[uD a b c d g i j k,uA #[uL l,uL o]] V λe V1=>∃p q,e=rV (uA #[uL p,uI q])/\TL 98 #[uL c,uL l,uL p] V1 λr V2=>Lp [uL r,z0,uI 0] V2 λI n w=>∀s u y,I n [uL s,uL u,uI y] w->∀x:LMP,Nx I n x->Br (y<(p.n:Int)) (Ix p y (∃z,w.rowp p.p (y.toNat*1) 1=some [uI z]/\IR (z-1)/\Ix o (z-1) (∃A B,w.rowp o.p ((z-1).toNat*2) 2=some [uI A,uL B]/\Ix b A (¬(Aa b.p (A.toNat*2))=none/\∃C D,w.rowp b.p (A.toNat*2) 2=some [uS C,uL D]/\TL 98 #[uL D,uL B,uL p] w λF m=>Ag [uI A,uL F] 55 m λG J=>Ap 36 51 47 (uL u) (.slice (Aa G 0) 1 1) J λH N=>IR (y+1)/\x [uL s,uL H,uI (y+1)] N)))) (R (rV (uA #[uL s,uL u])) w)):TT 65 #[uD a b c d g i j k,uA #[uL l,uL o]] V R:=ER Tryz.func65 [] [(4,[6])] false (by kernel_rfl) (by kernel_rfl) h
theorem QE{a:Option Addr}(h:GenK xE (.makeFunc (.func 117) #[(.tmp 6)] #[]) 160 (gv [(6,uP a)]) V λx V1=>∃b,K.f.ok b/\x=b/\GenK xE (.makeFunc (.func 118) #[(.tmp 8)] #[]) 160 (gv [(8,uP a)]) V1 λx V2=>∃c,K.f.ok c/\x=c/\GenK xE (.makeFunc (.func 119) #[(.tmp 10)] #[]) 160 (gv [(10,uP a)]) V2 λx r=>∃d,K.f.ok d/\x=d/\GenK xE (.makeFunc (.func 120) #[(.tmp 12)] #[]) 160 (gv [(12,uP a)]) r λx q=>∃g,K.f.ok g/\x=g/\GenK xE (.makeFunc (.func 121) #[(.tmp 14)] #[]) 160 (gv [(14,uP a)]) q λx s=>∃i,K.f.ok i/\x=i/\Ag [K.cast .f b,K.cast .f c,K.cast .f d,K.cast .f g,K.cast .f i] 160 s λj H=>Lp [uP none,uI 0] H λI n w=>∀k l,I n [uP k,uI l] w->∀y:LMP,Nx I n y->Br (l<5) (¬(Aa j 0)=none/\0<=l/\l<5/\∃o,K.f.ok o/\w.rowp (Aa j 0) (l.toNat*1) 1=some [o]/\∃f first u,K.cast .f o=.func (.func f) first u/\CO f/\TT f (first++#[]++u) w λe m=>∃p,e=rV (uP p)/\Br (p=none) (IR (l+1)/\y [uP k,uI (l+1)] m) (R (rV (uP p)) m)) (R (rV (uP none)) w)):TT 74 #[uP a] V R:=ER Tryz.func74 [16] [] false (by kernel_rfl) (by kernel_rfl) h
theorem QF{a b:Sl}(h:TL 51 #[uL a] V λc V1=>Lp [uL c,z0,uI 0] V1 λI n V2=>∀d g i,I n [uL d,uL g,uI i] V2->∀u:LMP,Nx I n u->Br (i<(b.n:Int)) (Ix b i (∃j k,V2.rowp b.p (i.toNat*2) 2=some [uI j,uL k]/\TL 51 #[uL k] V2 λl w=>Ag [uI j,uL l] 55 w λo y=>Ap 18 25 47 (uL g) (.slice (Aa o 0) 1 1) y λp x=>IR (i+1)/\u [uL d,uL p,uI (i+1)] x)) (R (rV (uA #[uL d,uL g])) V2)):TT 96 #[uA #[uL a,uL b]] V R:=ER Tryz.func96 [] [(3,[3])] false (by kernel_rfl) (by kernel_rfl) h
theorem x130{a:Option Addr}(h:N2 a (¬(Aa a 0)=none/\∃b,V.rowp a 2 1=some [uL b]/\N2 a (¬(Aa a 8)=none/\∃c,V.rowp a 8 1=some [uL c]/\TL 191 #[uP a,uL b,uL c] V λd V1=>N2 a (∃g,V1.rowp a 10 1=some [uL g]/\Lp [uL d,z0,uI 0] V1 λI n V2=>∀i j k,I n [uL i,uL j,uI k] V2->∀w:LMP,Nx I n w->Br (k<(g.n:Int)) (Ix g k (IY V2 g k λl=>N2 a (¬(Aa a 8)=none/\∃o,V2.rowp a 9 1=some [uL o]/\IR (l-1)/\Ix o (l-1) (∃p q,V2.rowp o.p ((l-1).toNat*2) 2=some [uI p,uL q]/\N2 a (¬(Aa a 0)=none/\∃r,V2.rowp a 1 1=some [uL r]/\Ix r p (¬(Aa r.p (p.toNat*2))=none/\∃s u,V2.rowp r.p (p.toNat*2) 2=some [uS s,uL u]/\TL 191 #[uP a,uL u,uL q] V2 λy x=>Ag [uI p,uL y] 55 x λz m=>Ap 39 57 47 (uL j) (.slice (Aa z 0) 1 1) m λA e=>IR (k+1)/\w [uL i,uL A,uI (k+1)] e)))))) (R (rV (uA #[uL i,uL j])) V2))))):TT 130 #[uP a] V R:=ER Tryz.func130 [] [(3,[3])] false (by kernel_rfl) (by kernel_rfl) h
theorem x146{a:KB}{b c d g i j k l o p:Sl}{q:Int}{r s:Sl}(h:Lp [uL p,uI q,uI 0] V λI n V1=>∀u y z,I n [uL u,uI y,uI z] V1->∀w:LMP,Nx I n w->Br (z<(r.n:Int)) (Ix s z (IY V1 s z λA=>Ix r z (¬(Aa r.p (z.toNat*2))=none/\∃B C,V1.rowp r.p (z.toNat*2) 2=some [uS B,uS C]/\Br (C=(Ac [105,110,116])) (IR (z+1)/\w [uL u,uI y,uI (z+1)] V1) (Ix r z (¬(Aa r.p (z.toNat*2))=none/\∃D F,V1.rowp r.p (z.toNat*2) 2=some [uS D,uS F]/\Br (F=(Ac [98,111,111,108])) (IR (z+1)/\w [uL u,uI y,uI (z+1)] V1) (Br (A=0) (IR (z+1)/\w [uL u,uI y,uI (z+1)] V1) (TI 147 #[uL u,uI A] V1 λG V2=>Br (0<=G) (Br (y=0) (IR (z+1)/\w [uL u,uI A,uI (z+1)] V2) (IR (z+1)/\w [uL u,uI y,uI (z+1)] V2)) (Ag [uI A] 3 V2 λH m=>Ap 52 54 43 (uL u) (.slice (Aa H 0) 1 1) m λL x=>IR (A-1)/\Ix o (A-1) (¬(Aa o.p ((A-1).toNat*2))=none/\∃M N,x.rowp o.p ((A-1).toNat*2) 2=some [uI M,uL N]/\Ix b M (¬(Aa b.p (M.toNat*2))=none/\∃O P,x.rowp b.p (M.toNat*2) 2=some [uS O,uL P]/\IR (A-1)/\Ix o (A-1) (¬(Aa o.p ((A-1).toNat*2))=none/\∃Q U,x.rowp o.p ((A-1).toNat*2) 2=some [uI Q,uL U]/\TT 146 #[uD a b c d g i j k,uA #[uL l,uL o],uA #[uL L,uI y],uL P,uL U] x λe J=>∃W X,e=rV (uA #[uL W,uI X])/\IR (z+1)/\w [uL W,uI X,uI (z+1)] J))))))))))) (R (rV (uA #[uL u,uI y])) V1)):TT 146 #[uD a b c d g i j k,uA #[uL l,uL o],uA #[uL p,uI q],uL r,uL s] V R:=ER Tryz.func146 [] [(2,[7])] false (by kernel_rfl) (by kernel_rfl) h
theorem x185{a:Option Addr}{b:Option Nat}{c:Bool}{d:Sl}{g:KB}{i:Option Addr}(h:Lp [uI 0,uI 0,uI 0] V λI n V1=>∀j k l,I n [uI j,uI k,uI l] V1->∀x:LMP,Nx I n x->Br (l<(d.n:Int)) (Ix d l (∃o p q r s,V1.rowp d.p (l.toNat*5) 5=some [uI o,uS p,uL q,uL r,uL s]/\¬i=none/\∃u,V1.rowp i ((0:Int).toNat*1) 1=some [uI u]/\¬i=none/\∃y,V1.rowp i ((0:Int).toNat*1) 1=some [uI y]/\IR (y+1)/\¬i=none/\Ao i 0 [uI (y+1)] V1 λV2=>TI 229 #[uA #[uP a,uM b,uB c],uA #[uI o,uS p,uL q,uL r,uL s],uS g] V2 λz m=>Br (z=0) (Ag [uL r,uL s] 74 m λA Z=>Lp [uI j,uI k,uI 0] Z λI n w=>∀B C D,I n [uI B,uI C,uI D] w->∀J:LMP,Nx I n J->Br (D<2) (¬(Aa A 0)=none/\0<=D/\D<2/\∃F,w.rowp (Aa A 0) (D.toNat*1) 1=some [uL F]/\TT 185 #[uA #[uP a,uM b,uB c],uL F,uS g,uP i] w λe N=>∃G H,e=rT #[uI G,uI H]/\Br (H=0) (IR (D+1)/\J [uI B,uI C,uI (D+1)] N) (R (rT #[uI G,uI H]) N)) (IR (l+1)/\x [uI B,uI C,uI (l+1)] w)) (R (rT #[uI u,uI z]) m))) (R (rT #[uI 0,uI 0]) V1)):TT 185 #[uA #[uP a,uM b,uB c],uL d,uS g,uP i] V R:=ER Tryz.func185 [44] [] false (by kernel_rfl) (by kernel_rfl) h
end
end Go.Proofs
namespace Go.Proofs
open Go Go.Sx
abbrev PP(f:FuncId)(args:List Value)(V:Mem)(v:Value):Prop:=Bv xE f args V v
def FC(c:Int):Bool:=decide (97<=c/\c<=122∨65<=c/\c<=90)
def HU(c:Int):Bool:=decide (48<=c/\c<=57)
def FD(c:Int):Bool:=FC c||HU c||decide (c=95)
theorem c198{V:Mem}{c:Int}:PP 198 [.int .u8 c] V (.bool (FC c)):=by
 refine x198 ?_;unfold FC;grind
theorem c243{V:Mem}{c:Int}:PP 243 [.int .u8 c] V (.bool (HU c)):=by
 refine x243 ?_;unfold HU;grind
theorem c199{V:Mem}{c:Int}:PP 199 [.int .u8 c] V (.bool (FD c)):=by
 refine x199 ?_;unfold FD;refine c198.call ⟨_,rfl,λh=>?_,λh=>?_⟩;·simp[h]
 ·refine c243.call ⟨_,rfl,λh=>?_,λh=>?_⟩<;>simp_all
def cls(c:Int):Int:=if c=32∨c=9∨c=13∨c=10 then 1 else if FC c then 2 else if HU c then 3 else if c=95 then 4 else 0
theorem c156{V:Mem}{c:Int}:PP 156 [.int .u8 c] V (.int .i64 (cls c)):=by
 refine x156 ?_;have key:∀n:Int,cls c=n->(xG (.int .i64 n)=xG (.int .i64 (cls c))/\V=V):=λn h=>by simp_all
 unfold cls FC HU at key
 repeat' (first|intro _|apply xH)
 all_goals first|rfl|(refine(key _ ?_).1;grind)
theorem cls_two(c:Int):cls c=2↔FC c=true:=by
 unfold cls FC HU;grind
theorem cls_word(c:Int):cls c<2↔FD c=false:=by
 unfold FD cls FC HU;grind
def IM:List KB:=[[116,121,112,101],[118,97,114],[112,114,111,99],[108,111,99,97,108],[109,101,97,115,117,114,101],[105,110,118,97,114,105,97,110,116],[112,111,116,101,110,116,105,97,108],[98,111,117,110,100],[105,102],[101,108,115,101],[119,104,105,108,101],[114,101,116,117,114,110],[110,101,119],[110,105,108],[116,114,117,101],[102,97,108,115,101],[97,110,100],[111,114],[110,111,116],[109,97,120],[109,105,110],[108,111,103],[105,110,116],[98,111,111,108],[116,104,105,115],[115,111,114,116],[111,112],[114,117,108,101],[115,112,101,99],[100,101,115,99],[115,99,114,105,112,116]].map Ac
def hasS(xs:List KB)(s:KB):Bool:=xs.any λx=>decide (x=s)
def isKw(s:KB):Bool:=hasS IM s
def BX(s:KB):Bool:=decide (s.size≠0/\s.size<=40/\FC (Bp s 0)=true/\(∀i:Nat,i<s.size->FD (Bp s i)=true))&&!isKw s
theorem c244{V:Mem}{l:Sl}{xs:List KB}{s:KB}(h:Ad V l 1 (xs.map λx=>[vS x])):PP 244 [l.v,.string s] V (.bool (hasS xs s)):=by
 refine x244 ?_;refine AU xs.length (λi V1=>V1=V/\∀j:Nat,j<i->xs[j]?≠some s) ⟨rfl,by simp⟩ ?_;rintro i b _ J hi ⟨rfl,q⟩ w;refine⟨λk=>?_,λu=>?_⟩
 ·obtain⟨x,hm,o,p,y,n,m,g⟩:=h.get k;refine⟨n,m,k,_,g,λe=>?_,λe=>⟨h.succ k,w y _ _ ⟨rfl,λj r=>?_⟩⟩⟩
  ·have:hasS xs s=true:=List.any_eq_true.2 ⟨x,hm,decide_eq_true e⟩;rw[this];exact⟨rfl,rfl⟩
  grind
 ·have c:=(h.done u).2;have:s∉xs:=λhm=>by
   grind[yd,yv]
  have:hasS xs s=false:=by
   grind[hasS]
  simp_all
theorem c200{V:Mem}{s:KB}:PP 200 [.string s] V (.bool (isKw s)):=by
 refine Bv.mk (x200 ?_);refine x245 ?_;intro b k;refine⟨⟨some ⟨b,0,none⟩,31,31⟩,rfl,?_⟩;have h:∀V0:Mem,Ad (V0.set b (.cells ((IM.map yp).toArray) 9 (0,0))) ⟨some ⟨b,0,none⟩,31,31⟩ 1 (IM.map λx=>[vS x]):=
  λV0=>Ad.cells (xs:=IM) (row:=λx=>[vS x]) Az rfl (λ_=>rfl) rfl (xI rfl)
 refine(c244 (h _)).call ⟨_,rfl,rfl,Mem.sub_new k _⟩
theorem c139{V:Mem}{s:KB}:PP 139 [.string s] V (.bool (BX s)):=by
 refine x139 ?_;refine⟨λh=>?_,λh=>⟨λh1=>?_,λh1=>⟨by omega,c198.call ⟨_,rfl,λh2=>?_,λh2=>?_⟩⟩⟩⟩;·grind[BX]
 ·grind[BX]
 ·refine AU s.size (λi V1=>V1=V/\∀j:Nat,j<i->FD (Bp s j)=true) ⟨rfl,by simp⟩ ?_;rintro i b _ J hi ⟨rfl,g⟩ u;refine⟨λw=>⟨by omega,c199.call ⟨_,rfl,λhw=>⟨⟨by omega,by omega⟩,u (by omega) _ _ ⟨rfl,λj k=>?_⟩⟩,λhw=>?_⟩⟩,λy=>?_⟩;·grind
  ·grind[FD,Bp,BX]
  ·refine c200.call ⟨_,rfl,?_⟩;have a1:s.size≠0:=by omega
   have a2:s.size<=40:=by omega
   have a3:∀i:Nat,i<s.size->FD (Bp s i)=true:=λj k=>g j (by omega);have:BX s=!isKw s:=by unfold BX;rw[decide_eq_true ⟨a1,a2,h2,a3⟩];simp
   rw[this];exact⟨rfl,rfl⟩
 grind[FC,Bp,BX]
end Go.Proofs
namespace Go.Proofs
open Go Go.Sx
attribute [local irreducible] Go.Sx.Tri
def Dj(s:KB):List Value:=[vS s]
def strV(s:KB):Value:=vS s
section
variable{α:Type}
def IdxP(f:FuncId)(row:α->List Value)(v:α->Value)(sz:Nat):Prop:=∀{V:Mem}{l:Sl}{xs:List α}{g:Nat}{first caps:List Value}(u:HT g)(St h:Nat->Mem->Prop)(k:∀i V1,St i V1->Ad V1 l sz (xs.map row))(w:St 0 V)
  (y:∀i x V1,xs[i]?=some x->St i V1->Tri xE g (first.toArray++#[v x]++caps.toArray) V1 λe V2=>∃b:Bool,e=.returned (.bool b)/\(b=true->h i V2)/\(b=false->St (i+1) V2)),
  Tri xE f #[l.v,.func (.func g) first.toArray caps.toArray] V λe V'=>(∃i:Nat,e=.returned (.int .i64 i)/\h i V')∨(e=.returned (.int .i64 (-1))/\St xs.length V')
def ConP(f:FuncId)(row:α->List Value)(v:α->Value)(sz:Nat):Prop:=∀{V:Mem}{l:Sl}{xs:List α}{g:Nat}{first caps:List Value}(u:HT g)(St h:Nat->Mem->Prop)(k:∀i V1,St i V1->Ad V1 l sz (xs.map row))(w:St 0 V)
  (y:∀i x V1,xs[i]?=some x->St i V1->Tri xE g (first.toArray++#[v x]++caps.toArray) V1 λe V2=>∃b:Bool,e=.returned (.bool b)/\(b=true->h i V2)/\(b=false->St (i+1) V2)),
  Tri xE f #[l.v,.func (.func g) first.toArray caps.toArray] V λe V'=>(∃i:Nat,e=.returned (.bool true)/\h i V')∨(e=.returned (.bool false)/\St xs.length V')
def ConC(f:FuncId)(row:α->List Value)(v:α->Value)(sz:Nat):Prop:=∀{V:Mem}{l:Sl}{xs:List α}{g:Nat}{first caps:List Value}(h:Ad V l sz (xs.map row))(k:HT g)(p:α->Bool) (u:∀x∈xs,PP g (first++[v x]++caps) V (.bool (p x))),PP f [l.v,.func (.func g) first.toArray caps.toArray] V (.bool (xs.any p))
variable{f fc:FuncId}{row:α->List Value}{v:α->Value}{sz:Nat}
theorem conG(h:IdxP f row v sz)(x:∀{l:Sl}{c:Value}{V:Mem}{R:RP},(TT f #[uL l,K.cast .f c] V λe V1=>∃y,e=rV (uI y)/\R (rV (uB (decide (0<=y)))) V1)->TT fc #[uL l,K.cast .f c] V R):ConP fc row v sz:=by
 intro V l xs g first u j St w k n m
 refine x (c:=.func (.func g) first.toArray u.toArray) (Tri.mono (h j St w k n m) ?_);rintro e V' (⟨i,rfl,h⟩|⟨rfl,h⟩)
 ·refine⟨_,rfl,.inl ⟨i,?_,h⟩⟩;rfl
 simp_all
theorem conC(H:ConP fc row v sz):ConC fc row v sz:=by
 intro V l xs g first n h r p o
 refine Tri.mono (H r (λi V1=>V1=V/\∀j x,j<i->xs[j]?=some x->p x=false) (λi V1=>V1=V/\∃x∈xs,p x=true) (λi V1 k=>k.1▸h) ⟨rfl,λj x u=>absurd u (Nat.not_lt_zero _)⟩ ?_) ?_
 ·rintro i x _ w ⟨rfl,k⟩;have hm:x∈xs:=xJ w;have:=(o x hm).callv (q:=λe V2=>∃b:Bool,e=.returned (.bool b)/\(b=true->V2=_/\∃x∈xs,p x=true)/\(b=false->V2=_/\∀j x,j<i+1->xs[j]?=some x->p x=false)) ⟨_,rfl,λm=>⟨rfl,x,hm,m⟩,λm=>⟨rfl,λj y u c=>by
   grind⟩⟩
  exact this
 ·rintro e V' (⟨i,rfl,rfl,x,hm,w⟩|⟨rfl,rfl,k⟩);·grind
  ·have:xs.any p=false:=List.any_eq_false.2 λx hm w=>by
    obtain⟨j,u,rfl⟩:=yd.1 hm;simp_all
   simp_all
end
theorem N7:IdxP 79 Fld.row Fld.v 2:=by
 intro V l xs g first w q St o k p c
 refine Qe (a:=l) (b:=.func (.func g) first.toArray w.toArray) ?_;refine AU xs.length St p ?_;intro i b V1 J hi r d;have h:=k i V1 r;refine⟨λu=>?_,λj=>?_⟩
 ·obtain⟨x,hm,s,N,H,n,G,y⟩:=h.get u;refine⟨n,G,u,_,_,y,g,_,_,rfl,q,Tri.mono (c i x V1 s r) ?_⟩;rintro e V2 ⟨b,rfl,h1,h2⟩;exact⟨b,rfl,λm=>.inl ⟨i,rfl,h1 m⟩,λm=>⟨h.succ u,d H _ _ (h2 (by simpa using m))⟩⟩
 ·have e:i=xs.length:=by have:=(h.done j).2;omega
  simp_all
theorem QG:ConP 46 Fld.row Fld.v 2:=conG N7 PI
theorem JD:ConC 46 Fld.row Fld.v 2:=conC QG
theorem g258:IdxP 258 Iv.row Iv.v 6:=by
 intro V l xs g first w q St o k p c
 refine x258 (a:=l) (b:=.func (.func g) first.toArray w.toArray) ?_;refine AU xs.length St p ?_;intro i b V1 J hi r d;have h:=k i V1 r;refine⟨λu=>?_,λj=>?_⟩
 ·obtain⟨x,hm,s,N,H,n,G,y⟩:=h.get u;refine⟨n,G,u,_,_,_,_,_,_,y,g,_,_,rfl,q,Tri.mono (c i x V1 s r) ?_⟩;rintro e V2 ⟨b,rfl,h1,h2⟩;exact⟨b,rfl,λm=>.inl ⟨i,rfl,h1 m⟩,λm=>⟨h.succ u,d H _ _ (h2 (by simpa using m))⟩⟩
 ·have e:i=xs.length:=by have:=(h.done j).2;omega
  simp_all
theorem g225:ConP 225 Iv.row Iv.v 6:=conG g258 x225
theorem c225:ConC 225 Iv.row Iv.v 6:=conC g225
theorem g164:IdxP 164 Ty.row Ty.v 2:=by
 intro V l xs g first w q St o k p c
 refine x164 (a:=l) (b:=.func (.func g) first.toArray w.toArray) ?_;refine AU xs.length St p ?_;intro i b V1 J hi r d;have h:=k i V1 r;refine⟨λu=>?_,λj=>?_⟩
 ·obtain⟨x,hm,s,N,H,n,G,y⟩:=h.get u;refine⟨n,G,u,_,_,y,g,_,_,rfl,q,Tri.mono (c i x V1 s r) ?_⟩;rintro e V2 ⟨b,rfl,h1,h2⟩;exact⟨b,rfl,λm=>.inl ⟨i,rfl,h1 m⟩,λm=>⟨h.succ u,d H _ _ (h2 (by simpa using m))⟩⟩
 ·have e:i=xs.length:=by have:=(h.done j).2;omega
  simp_all
theorem g111:ConP 111 Ty.row Ty.v 2:=conG g164 x111
theorem c111:ConC 111 Ty.row Ty.v 2:=conC g111
theorem N8:IdxP 26 Pr.row Pr.v 5:=by
 intro V l xs g first w q St o k p c
 refine Pt (a:=l) (b:=.func (.func g) first.toArray w.toArray) ?_;refine AU xs.length St p ?_;intro i b V1 J hi r d;have h:=k i V1 r;refine⟨λu=>?_,λj=>?_⟩
 ·obtain⟨x,hm,s,N,H,n,G,y⟩:=h.get u;refine⟨n,G,u,_,_,_,_,_,y,g,_,_,rfl,q,Tri.mono (c i x V1 s r) ?_⟩;rintro e V2 ⟨b,rfl,h1,h2⟩;exact⟨b,rfl,λm=>.inl ⟨i,rfl,h1 m⟩,λm=>⟨h.succ u,d H _ _ (h2 (by simpa using m))⟩⟩
 ·have e:i=xs.length:=by have:=(h.done j).2;omega
  simp_all
theorem QH:ConP 99 Pr.row Pr.v 5:=conG N8 Qw
theorem N9:ConC 99 Pr.row Pr.v 5:=conC QH
theorem g213:IdxP 213 Bd.row Bd.v 5:=by
 intro V l xs g first w q St o k p c
 refine x213 (a:=l) (b:=.func (.func g) first.toArray w.toArray) ?_;refine AU xs.length St p ?_;intro i b V1 J hi r d;have h:=k i V1 r;refine⟨λu=>?_,λj=>?_⟩
 ·obtain⟨x,hm,s,N,H,n,G,y⟩:=h.get u;refine⟨n,G,u,_,_,_,_,_,y,g,_,_,rfl,q,Tri.mono (c i x V1 s r) ?_⟩;rintro e V2 ⟨b,rfl,h1,h2⟩;exact⟨b,rfl,λm=>.inl ⟨i,rfl,h1 m⟩,λm=>⟨h.succ u,d H _ _ (h2 (by simpa using m))⟩⟩
 ·have e:i=xs.length:=by have:=(h.done j).2;omega
  simp_all
theorem g162:ConP 162 Bd.row Bd.v 5:=conG g213 x162
theorem c162:ConC 162 Bd.row Bd.v 5:=conC g162
theorem g256:IdxP 256 E.row E.v 4:=by
 intro V l xs g first w q St o k p c
 refine x256 (a:=l) (b:=.func (.func g) first.toArray w.toArray) ?_;refine AU xs.length St p ?_;intro i b V1 J hi r d;have h:=k i V1 r;refine⟨λu=>?_,λj=>?_⟩
 ·obtain⟨x,hm,s,N,H,n,G,y⟩:=h.get u;refine⟨n,G,u,_,_,_,_,y,g,_,_,rfl,q,Tri.mono (c i x V1 s r) ?_⟩;rintro e V2 ⟨b,rfl,h1,h2⟩;exact⟨b,rfl,λm=>.inl ⟨i,rfl,h1 m⟩,λm=>⟨h.succ u,d H _ _ (h2 (by simpa using m))⟩⟩
 ·have e:i=xs.length:=by have:=(h.done j).2;omega
  simp_all
theorem g216:ConP 216 E.row E.v 4:=conG g256 x216
theorem c216:ConC 216 E.row E.v 4:=conC g216
theorem g257:IdxP 257 Ms.row Ms.v 7:=by
 intro V l xs g first w q St o k p c
 refine x257 (a:=l) (b:=.func (.func g) first.toArray w.toArray) ?_;refine AU xs.length St p ?_;intro i b V1 J hi r d;have h:=k i V1 r;refine⟨λu=>?_,λj=>?_⟩
 ·obtain⟨x,hm,s,N,H,n,G,y⟩:=h.get u;refine⟨n,G,u,_,_,_,_,_,_,_,y,g,_,_,rfl,q,Tri.mono (c i x V1 s r) ?_⟩;rintro e V2 ⟨b,rfl,h1,h2⟩;exact⟨b,rfl,λm=>.inl ⟨i,rfl,h1 m⟩,λm=>⟨h.succ u,d H _ _ (h2 (by simpa using m))⟩⟩
 ·have e:i=xs.length:=by have:=(h.done j).2;omega
  simp_all
theorem g223:ConP 223 Ms.row Ms.v 7:=conG g257 x223
theorem c223:ConC 223 Ms.row Ms.v 7:=conC g223
theorem g314:IdxP 314 Dj strV 1:=by
 intro V l xs g first w q St o k p c
 refine x314 (a:=l) (b:=.func (.func g) first.toArray w.toArray) ?_;refine AU xs.length St p ?_;intro i b V1 J hi r d;have h:=k i V1 r;refine⟨λu=>?_,λj=>?_⟩
 ·obtain⟨x,hm,s,N,H,n,G,y⟩:=h.get u;refine⟨n,G,u,_,y,g,_,_,rfl,q,Tri.mono (c i x V1 s r) ?_⟩;rintro e V2 ⟨b,rfl,h1,h2⟩;exact⟨b,rfl,λm=>.inl ⟨i,rfl,h1 m⟩,λm=>⟨h.succ u,d H _ _ (h2 (by simpa using m))⟩⟩
 ·have e:i=xs.length:=by have:=(h.done j).2;omega
  simp_all
theorem g291:ConP 291 Dj strV 1:=conG g314 x291
theorem c291:ConC 291 Dj strV 1:=conC g291
end Go.Proofs
namespace Go.Proofs
open Go.Shelf
def Tryz.lays157_ren:Go.Shelf.Ren:=⟨λ|157=>252|229=>286|199=>287|261=>312|311=>325|312=>326|n=>n,λ|9=>9|31=>194|3=>3|5=>5|4=>4|119=>379|0=>0|40=>381|152=>398|21=>21|154=>400|51=>401|141=>403|196=>415|193=>412|198=>418|49=>416|194=>413|201=>421|226=>425|46=>344|227=>426|n=>n,λ|0=>0|6=>1|n=>n⟩
theorem Tryz.lays157:Go.Proofs.Lays.n157 xE Tryz.lays157_ren:={
 mixed:=by kernel_rfl
 f157:=Tryz.func252.trans (congrArg some (by kernel_rfl))
 f199:=Tryz.func287.trans (congrArg some (by kernel_rfl))
 f229:=Tryz.func286.trans (congrArg some (by kernel_rfl))
 f261:=Tryz.func312.trans (congrArg some (by kernel_rfl))
 f311:=Tryz.func325.trans (congrArg some (by kernel_rfl))
 f312:=Tryz.func326.trans (congrArg some (by kernel_rfl))
 t0:=Tryz.underlying0
 a0:=Tryz.isAgg0
 z0:=Tryz.sizeOf0
 v0:=Tryz.zeroValue0
 t3:=Tryz.underlying3
 a3:=Tryz.isAgg3
 z3:=Tryz.sizeOf3
 v3:=Tryz.zeroValue3
 t4:=Tryz.underlying4
 a4:=Tryz.isAgg4
 z4:=Tryz.sizeOf4
 v4:=Tryz.zeroValue4
 t5:=Tryz.underlying5
 a5:=Tryz.isAgg5
 z5:=Tryz.sizeOf5
 v5:=Tryz.zeroValue5
 t9:=Tryz.underlying9
 a9:=Tryz.isAgg9
 z9:=Tryz.sizeOf9
 v9:=Tryz.zeroValue9
 t21:=Tryz.underlying21
 a21:=Tryz.isAgg21
 z21:=Tryz.sizeOf21
 v21:=Tryz.zeroValue21
 t31:=Tryz.underlying194
 a31:=Tryz.isAgg194
 z31:=Tryz.sizeOf194
 v31:=Tryz.zeroValue194
 t40:=Tryz.underlying381
 a40:=Tryz.isAgg381
 z40:=Tryz.sizeOf381
 v40:=Tryz.zeroValue381
 t46:=Tryz.underlying344
 a46:=Tryz.isAgg344
 z46:=Tryz.sizeOf344
 v46:=Tryz.zeroValue344
 t49:=Tryz.underlying416
 a49:=Tryz.isAgg416
 z49:=Tryz.sizeOf416
 v49:=Tryz.zeroValue416
 t51:=Tryz.underlying401
 a51:=Tryz.isAgg401
 z51:=Tryz.sizeOf401
 v51:=Tryz.zeroValue401
 t119:=Tryz.underlying379
 a119:=Tryz.isAgg379
 z119:=Tryz.sizeOf379
 t141:=Tryz.underlying403
 a141:=Tryz.isAgg403
 z141:=Tryz.sizeOf403
 v141:=Tryz.zeroValue403
 t152:=Tryz.underlying398
 a152:=Tryz.isAgg398
 z152:=Tryz.sizeOf398
 v152:=Tryz.zeroValue398
 t154:=Tryz.underlying400
 a154:=Tryz.isAgg400
 z154:=Tryz.sizeOf400
 v154:=Tryz.zeroValue400
 t193:=Tryz.underlying412
 a193:=Tryz.isAgg412
 z193:=Tryz.sizeOf412
 v193:=Tryz.zeroValue412
 t194:=Tryz.underlying413
 a194:=Tryz.isAgg413
 z194:=Tryz.sizeOf413
 v194:=Tryz.zeroValue413
 t196:=Tryz.underlying415
 a196:=Tryz.isAgg415
 z196:=Tryz.sizeOf415
 v196:=Tryz.zeroValue415
 t198:=Tryz.underlying418
 a198:=Tryz.isAgg418
 z198:=Tryz.sizeOf418
 v198:=Tryz.zeroValue418
 t201:=Tryz.underlying421
 a201:=Tryz.isAgg421
 z201:=Tryz.sizeOf421
 v201:=Tryz.zeroValue421
 t226:=Tryz.underlying425
 a226:=Tryz.isAgg425
 z226:=Tryz.sizeOf425
 v226:=Tryz.zeroValue425
 t227:=Tryz.underlying426
 a227:=Tryz.isAgg426
 z227:=Tryz.sizeOf426
 v227:=Tryz.zeroValue426
 g0:=by kernel_rfl
 g6:=by kernel_rfl}
open Go.RowKit Go.Lib in
theorem Tryz.strings_Fields(s:KB)(w:World)(g:s.size<4294967281)(h:∀(j:Nat) b,s.data.toList[j]?=some b->b.toNat<128)(k:xK xE w "strings.asciiSpace" .u8 xL):
  Calls xE 252 #[.string s] w λe w'=>
   e=.returned (.slice (some ⟨w.heap.size,0,none⟩) (xM s.data.toList).length (xM s.data.toList).length)/\w'=w.alloc (.cells ((xM s.data.toList).map λl=>yp ⟨l.toArray⟩).toArray 9):=Any.strings_Fields Tryz.lays157 (by kernel_rfl) (by kernel_rfl) s w g h k
end Go.Proofs
namespace Go.Proofs
open Go Go.Sx
attribute [local irreducible] Go.Sx.Tri
class Tab (V:Mem):Prop where
 at_:∃t fr,V 0=some (.cells (xL.map λz=>Value.int .u8 z).toArray t fr)
theorem Tab.sub{V V':Mem}(h:Tab V)(k:V.sub V'):Tab V':=by
 obtain⟨t,fr,h⟩:=h.at_;exact⟨t,fr,k _ _ h⟩
theorem Tab.is{V:Mem}{w:World}(h:Tab V)(k:V.le w):xK xE w "strings.asciiSpace" .u8 xL:=by
 obtain⟨t,fr,h⟩:=h.at_;have g:xE.globalNamed "strings.asciiSpace" =some 0:=by kernel_rfl
 unfold xK World.var?;rw[g,Option.bind_some,k _ _ h]
theorem frm_new{V:Mem}{w:World}(hw:V.le w)(o:Obj):V w.heap.size=none/\Ax V w (V.set w.heap.size o) (w.alloc o):=by
 have g:V w.heap.size=none:=by
  cases u:V w.heap.size with
  |none=>rfl
  |some o=>have:=(z8.1 (hw _ o u)).1;omega
 refine⟨g,by simp,λb o h=>?_,λb h _=>xN _ _ _ h,λb h=>?_,rfl,rfl⟩
 ·by_cases e:b=w.heap.size;·grind[Mem.set_same,World.alloc_heap_new]
  ·rw[Mem.set_ne e]at h;have k:=(z8.1 (hw b o h)).1;exact(xN _ _ _ k).trans (hw b o h)
 grind[inr,Mem.set_ne]
def kwText:KB:=Ac [97,110,100,32,98,111,111,108,32,98,111,117,110,100,32,100,101,115,99,32,101,108,115,101,32,102,97,108,115,101,32,105,102,32,105,110,116,32,105,110,118,97,114,105,97,110,116,32,108,111,99,97,108,32,108,111,103,32,109,97,120,32,109,101,97,115,117,114,101,32,109,105,110,32,110,101,119,32,110,105,108,32,110,111,116,32,111,112,32,111,114,32,112,111,116,101,110,116,105,97,108,32,112,114,111,99,32,114,101,116,117,114,110,32,114,117,108,101,32,115,99,114,105,112,116,32,115,111,114,116,32,115,112,101,99,32,116,104,105,115,32,116,114,117,101,32,116,121,112,101,32,118,97,114,32,119,104,105,108,101]
def FE:List KB:=(xM kwText.data.toList).map λl=>⟨l.toArray⟩
theorem kwText_size:kwText.size=160:=by kernel_rfl
theorem Oa:FE.length=31:=by kernel_rfl
theorem c211{V:Mem}(k:Tab V):Tri xE 211 #[] V λe V'=>∃b,V b=none/\e=.returned (.slice (sa b) 31 31)/\V'=V.set b (.cells (FE.map yp).toArray 9 (0,0)):=by
 refine x211 ?_;refine Tri.mono (R:=λe V'=>∃b,V b=none/\e=.returned (.slice (sa b) 31 31)/\V'=V.set b (.cells (FE.map yp).toArray 9 (0,0))) ?_ ?_
 ·unfold Tri;intro w hw;refine IJ (Tryz.strings_Fields kwText w (by rw[kwText_size];decide) ?_ (k.is hw)) ?_
  ·have h:(kwText.data.toList.all λb=>decide (b.toNat<128))=true:=by kernel_rfl
   grind
  ·rintro e w' ⟨rfl,rfl⟩;obtain⟨g,u⟩:=frm_new hw (.cells (FE.map yp).toArray 9);refine⟨_,⟨w.heap.size,g,?_,rfl⟩,?_⟩;·rfl
   ·have e:((xM kwText.data.toList).map λl=>yp ⟨l.toArray⟩)=FE.map yp:=by
     rfl
    rw[e];exact u
 ·rintro e V' ⟨b,y,rfl,rfl⟩;exact⟨⟨some ⟨b,0,none⟩,31,31⟩,rfl,b,y,rfl,rfl⟩
theorem c285{V:Mem}{s:KB}:PP 285 [.string s] V (.bool false):=by
 refine x285 ?_;simp
theorem c251{V:Mem}{s:KB}:PP 251 [.string s] V (.bool false):=by
 refine x251 ?_;simp
def FV(s t:KB):Bool:=xO s.toList t.toList
theorem c250{V:Mem}{s t:KB}:PP 250 [.string s,.string t] V (.bool (FV s t)):=by
 refine x250 ?_;refine c285.call ⟨_,rfl,λh=>?_,λ_=>⟨rfl,rfl⟩⟩;cases h
theorem bl_trans:∀{a b c:List UInt8},xO a b=true->xO b c=true->xO a c=true
 |_,[],_,h,_=>by simp[xO]at h
 |_,_::_,[],_,k=>by simp[xO]at k
 |[],_::_,_::_,_,_=>rfl
 |a::x,b::y,c::z,h,k=>by
  simp only[xO,Bool.or_eq_true,decide_eq_true_eq,zC,beq_iff_eq]at h k⊢;rcases h with h|⟨rfl,h⟩;·grind
  ·rcases k with k|⟨rfl,k⟩;·exact .inl k
   ·exact .inr ⟨rfl,bl_trans h k⟩
theorem Mj{a b c:KB}(h:FV a b=true)(k:FV b c=true):FV a c=true:=bl_trans h k
theorem bl_irrefl:∀l:List UInt8,xO l l=false
 |[]=>rfl
 |a::l=>by
  have h1:¬(a<a):=by simp_all
  simp[xO,bl_irrefl l,h1]
theorem ltB_irrefl(a:KB):FV a a=false:=bl_irrefl _
def KC:List KB->Bool
 |a::b::l=>FV a b&&KC (b::l)
 |_=>true
theorem JE:∀{l:List KB},KC l=true->∀(i j:Nat)(x y:KB),i<j->l[i]?=some x->l[j]?=some y->FV x y=true
 |[],_,i,j,x,y,_,k,_=>by simp at k
 |[a],_,i,j,x,y,u,k,g=>by
  grind
 |a::b::l,h,i,j,x,y,u,k,g=>by
  simp only[KC,zC]at h;cases j with
  |zero=>omega
  |succ j=>
   rw[xP]at g;cases i with
   |succ i=>rw[xP]at k;exact JE h.2 i j x y (by omega) k g
   |zero=>
    simp only[List.getElem?_cons_zero,Option.some.injEq]at k;subst k;cases j with
    |zero=>simp_all
    |succ j=>exact Mj h.1 (JE h.2 0 (j+1) b y (by omega) rfl g)
theorem GenK.shr1{V:Mem}{vals:Operand->Value}{t ty:TypeId}{n:Int}(hv:vals (.tmp 19)=.int .u64 n)(h:vals (.const (.int .u64 1))=.int .u64 1){q:Value->Mem->Prop}(k:q (.int .u64 (n/2)) V):
  GenK xE (.binOp .shr t (.tmp 19) (.const (.int .u64 1)) t) ty vals V q:=by
 intro w hw;refine⟨_,w,V,?_,Ax.refl hw,k⟩;have e:Op.shift .shr .u64 n .u64 1=pure (.int .u64 (n/2)):=by
  unfold Op.shift;rw[if_neg (by decide)];show pure (Value.int .u64 (n.fdiv (2^1)))=_;grind
 simp_all[execOp,eqGuard,binOp_shr]
theorem Mk{xs:List KB}{s:KB}:hasS xs s=true↔s∈xs:=by
 grind[hasS]
def kwIx(s:KB):Bool:=hasS FE s
theorem kwIx_eq(s:KB):kwIx s=isKw s:=by
 have h1:(FE.all λx=>IM.any λy=>decide (y=x))=true:=by kernel_rfl
 have h2:(IM.all λx=>FE.any λy=>decide (y=x))=true:=by kernel_rfl
 unfold kwIx isKw;rw[Bool.eq_iff_iff,Mk,Mk];grind
theorem c210{V:Mem}{l:Sl}{xs:List KB}{s:KB}(h:Ad V l 1 (xs.map λx=>[vS x]))(d:KC xs=true)(Y:xs.length<=1000):
  Tri xE 210 #[l.v,.string s] V λe V'=>∃n:Int,e=.returned (.tuple #[.int .i64 n,.bool (hasS xs s)])/\V'=V:=by
 refine x210 ?_;have P:=h.n_eq;have B:=h.cap;have C:=h.fit;refine⟨λn O V1=>∃i j:Nat,O=[.int .i64 i,.int .i64 j]/\V1=V/\i<=j/\j<=xs.length/\n=j-i/\(∀(k:Nat) x,k<i->xs[k]?=some x->FV x s=true)/\(∀(k:Nat) x,j<=k->xs[k]?=some x->FV x s=false),xs.length,
  ⟨0,xs.length,by rw[P];rfl,rfl,by omega,by omega,by omega,λk x p=>by omega,λk x p c=>by simp_all⟩,?_⟩
 rintro n V1 D E ⟨i,j,m,rfl,A,I,rfl,H,G⟩ J W;simp only[List.cons.injEq,Value.int.injEq,true_and,and_true]at m;obtain⟨rfl,rfl⟩:=m;refine⟨λu=>?_,λM=>?_⟩
 ·refine⟨⟨by omega,by omega⟩,⟨by show(0:Int)<=_;omega,by show _<=(18446744073709551615:Int);omega⟩,?_⟩;refine GenK.shr1 (n:=(i:Int)+j) rfl rfl ⟨_,rfl,⟨by omega,by omega⟩,?_⟩;have hm:((i:Int)+j)/2=((i+j)/2:Nat):=by omega
  rw[hm];obtain⟨x,r,c,F,L,b,a,g⟩:=h.get (i:=(i+j)/2) (by omega);refine⟨b,a,by omega,x,g,c250.call ⟨_,rfl,λq=>⟨⟨by omega,by omega⟩,?_⟩,λq=>?_⟩⟩
  ·refine W (j-((i+j)/2+1)) _ _ (by omega) ⟨(i+j)/2+1,j,rfl,rfl,by omega,I,rfl,λk y p m=>?_,G⟩;rcases Nat.lt_or_ge k ((i+j)/2)with w|w;·exact Mj (JE d k _ y x w m c) q
   grind
  ·refine W ((i+j)/2-i) _ _ (by omega) ⟨i,(i+j)/2,rfl,rfl,by omega,by omega,rfl,H,λk y p m=>?_⟩;cases X:FV y s with
   |false=>rfl
   |true=>
    rcases Nat.lt_or_ge ((i+j)/2) k with w|w;·exact absurd (Mj (JE d _ k x y w c m) X) q
    grind
 ·have o:i=j:=by omega
  subst o;have key:s∈xs->xs[i]?=some s:=λhm=>by
   obtain⟨k,p,e⟩:=yd.1 hm;have N:xs[k]?=some s:=by simp_all
   rcases Nat.lt_trichotomy k i with w|w|w;·grind[ltB_irrefl]
   ·grind
   ·have Z:i<xs.length:=by omega
    have h2:=JE d i k xs[i] s w (yv Z) N;grind
  refine⟨λu=>?_,λQ=>?_⟩
  ·obtain⟨x,r,c,F,L,b,a,g⟩:=h.get (i:=i) u;refine⟨b,a,u,x,g,λe=>?_,λe=>⟨b,a,u,x,g,c251.call ⟨_,rfl,λq=>?_,λ_=>?_⟩⟩⟩
   ·subst e;exact⟨i,by rw[Mk.2 r],rfl⟩
   ·cases q
   ·refine⟨i,?_,rfl⟩;grind[hasS,absurd]
  ·refine⟨i,?_,rfl⟩;grind[hasS]
theorem c157{V:Mem}{s:KB}(k:Tab V):PP 157 [.string s] V (.bool (isKw s)):=by
 refine Bv.mk ?_;refine x157 ?_;refine Tri.mono (c211 k) ?_;rintro _ V' ⟨b,g,rfl,rfl⟩;refine⟨⟨some ⟨b,0,none⟩,31,31⟩,rfl,?_⟩;have h:Ad (V.set b (.cells ((FE.map yp).toArray) 9 (0,0))) ⟨some ⟨b,0,none⟩,31,31⟩ 1 (FE.map λx=>[vS x]):=
  Ad.cells (xs:=FE) (row:=λx=>[vS x]) Az (by simp;rfl) (λ_=>rfl) Oa.symm (xI rfl)
 refine Tri.mono (c210 h (by kernel_rfl) (by rw[Oa];decide)) ?_;rintro _ V2 ⟨n,rfl,rfl⟩;exact⟨n,_,rfl,by rw[<-kwIx_eq];rfl,Mem.sub_new g _⟩
theorem c108{V:Mem}[Tab V]{s:KB}:PP 108 [.string s] V (.bool (BX s)):=by
 refine x108 ?_;refine⟨λh=>?_,λh=>⟨λh1=>?_,λh1=>?_⟩⟩;·subst h;exact⟨rfl,rfl⟩
 ·grind[BX]
 ·have n:s.size≠0:=λe=>h (by
   have:s.data=#[]:=Array.eq_empty_of_size_eq_zero e;cases s;simp only at this;subst this;rfl)
  refine⟨by omega,c156.call ⟨_,rfl,λh2=>?_,λh2=>?_⟩⟩
  ·refine(c157 inferInstance).call ⟨_,rfl,λg=>?_,λg=>?_⟩;·simp[BX,g]
   ·refine AU s.size (λi V1=>V1=V/\∀j:Nat,j<i->FD (Bp s j)=true) ⟨rfl,by simp⟩ ?_;rintro i b _ J hi ⟨rfl,u⟩ w;refine⟨λy=>⟨by omega,c156.call ⟨_,rfl,λhw=>?_,λhw=>⟨⟨by omega,by omega⟩,w (by omega) _ _ ⟨rfl,λj k=>?_⟩⟩⟩⟩,λx=>?_⟩
    ·rw[cls_word]at hw;grind[FD,Bp,BX]
    ·rcases Nat.lt_succ_iff_lt_or_eq.1 k with l|rfl;·exact u j l
     simp_all[cls_word]
    grind[Nat,FD,Bp,BX,isKw,decide_eq_true,cls_two]
  grind[cls_two,FC,Bp,BX]
/-! Nodes. -/
def BS(op:Int):Int:=if(1<=op/\op<=4)∨op=6 then 0 else if op=5∨op=8∨op=18∨op=24 then 1 else if op=7 then -1 else if op=21 then 3 else if 9<=op/\op<=23 then 2 else -2
theorem c303{V:Mem}{op:Int}:PP 303 [.int .i64 op] V (.int .i64 (BS op)):=by
 refine x303 ?_;have key:∀n:Int,BS op=n->xG (.int .i64 n)=xG (.int .i64 (BS op)):=λn h=>by rw[h]
 unfold BS at key
 repeat' (first|intro _|apply xH)
 all_goals first|rfl|(refine key _ ?_;grind)
theorem c253{V:Mem}{op:Int}:PP 253 [.int .i64 op] V (.tuple #[.int .i64 (if BS op=-2 then 2 else BS op),.bool (decide (BS op≠-2))]):=by
 refine x253 ?_;have key:∀(n:Int)(b:Bool),(if BS op=-2 then 2 else BS op)=n->decide (BS op≠-2)=b->xG (.tuple #[.int .i64 n,.bool b])=xG (.tuple #[.int .i64 (if BS op=-2 then 2 else BS op),.bool (decide (BS op≠-2))]):=λn b h k=>by rw[h,k]
 unfold BS at key
 repeat' (first|intro _|apply xH)
 all_goals first|rfl|(refine key _ _ ?_ ?_<;>grind)
def sThis:KB:=Ac [116,104,105,115]
def Fg(op:Int)(s:KB):Bool:=if op=4 then decide (s=sThis)||BX s else if op=5∨op=6∨op=7 then BX s else decide (s=Ac [])
def numB(op n:Int):Bool:=if op=1 then decide (0<=n/\n<=1099511627776)else if op=2 then decide (n=0∨n=1)else decide (n=0)
def Dx(op n:Int)(s:KB)(len:Int):Bool:=decide (BS op≠-2/\(0<=BS op->len=BS op)/\(BS op=-1->len<=6))&&Fg op s&&numB op n
theorem c304{V:Mem}{e:E}:PP 304 [e.v] V (.bool (Fg e.op e.s)):=by
 refine x304 ?_;have key:∀b:Bool,Fg e.op e.s=b->xG (.bool b)=xG (.bool (Fg e.op e.s)):=λn h=>by rw[h]
 unfold Fg sThis at key
 repeat' (first|refine c139.call ⟨_,rfl,?_⟩|intro _|apply xH)
 all_goals first|rfl|(refine key _ ?_;grind)
theorem c254{V:Mem}[Tab V]{e:E}:PP 254 [e.v] V (.bool (Fg e.op e.s&&numB e.op e.n)):=by
 refine x254 ?_;have key:∀b:Bool,(Fg e.op e.s&&numB e.op e.n)=b->xG (.bool b)=xG (.bool (Fg e.op e.s&&numB e.op e.n)):=λn h=>by rw[h]
 unfold Fg numB sThis at key
 repeat' (first|refine c108.call ⟨_,rfl,?_⟩|intro _|apply xH)
 all_goals first|rfl|(refine key _ ?_;grind)
theorem c278{V:Mem}{e:E}{len:Int}(k:(e.l.n:Int)=len):PP 278 [e.v] V (.bool (Dx e.op e.n e.s len)):=by
 refine x278 ?_;rw[k];have key:∀b:Bool,Dx e.op e.n e.s len=b->xG (.bool b)=xG (.bool (Dx e.op e.n e.s len)):=λn h=>by rw[h]
 unfold Dx numB at key;refine c303.call ⟨_,rfl,?_⟩
 repeat' (first|refine(c304 (e:=e)).call ⟨_,rfl,?_⟩|intro _|apply xH)
 all_goals first|rfl|(refine key _ ?_;grind)
mutual
def Cz(d:Int):E->Bool|.mk op n s _ k=>decide (d<=60)&&Dx op n s k.length&&okEs (d+1) k
def okEs(d:Int):List E->Bool|[]=>true|x::xs=>Cz d x&&okEs d xs
end
mutual
def AB:E->Nat|.mk _ _ _ _ k=>1+szEs k
def szEs:List E->Nat|[]=>0|x::xs=>AB x+szEs xs
end
mutual
def cntE(d:Int):E->Int|.mk op n s _ k=>if 60<d then 1001 else if Dx op n s k.length=true then Ec (d+1) 1 k else 1001
def Ec(d acc:Int):List E->Int|[]=>acc|x::xs=>if 1000<acc+cntE d x then acc+cntE d x else Ec d (acc+cntE d x) xs
end
mutual
def vE(left d:Int):E->Bool×Int|.mk op n s _ k=>if 0<=left-1/\d<=60/\Dx op n s k.length=true then En (left-1) (d+1) k else(false,left-1)
def En(left d:Int):List E->Bool×Int|[]=>(true,left)|x::xs=>if(vE left d x).1=true then En (vE left d x).2 d xs else(false,(vE left d x).2)
end
def Bz(e:E):Bool:=decide (Cz 1 e=true/\AB e<=1000)
mutual
theorem vE_ok:∀(left d:Int)(e:E),((vE left d e).1=true↔Cz d e=true/\(AB e:Int)<=left)/\((vE left d e).1=true->(vE left d e).2=left-AB e)
 |left,d,.mk op n s l k=>by
  have h:=vEs_ok (left-1) (d+1) k;grind[vE,Cz,AB]
theorem vEs_ok:∀(left d:Int)(k:List E),0<=left->((En left d k).1=true↔okEs d k=true/\(szEs k:Int)<=left)/\((En left d k).1=true->(En left d k).2=left-szEs k)
 |left,d,[],h=>by simp[En,okEs,szEs,h]
 |left,d,x::xs,h=>by
  have h1:=vE_ok left d x;have h2:=vEs_ok (vE left d x).2 d xs;grind[En,okEs,szEs]
end
mutual
theorem cntE_ok:∀(d:Int)(e:E),1<=cntE d e/\(cntE d e<=1000↔Cz d e=true/\AB e<=1000)/\(cntE d e<=1000->cntE d e=AB e)/\cntE d e<=1001+1000*(61-d).toNat
 |d,.mk op n s l k=>by
  have h:=cntEs_ok (d+1) 1 k (by omega) (by omega);grind[cntE,Cz,AB]
theorem cntEs_ok:∀(d acc:Int)(k:List E),1<=acc->acc<=1000->acc<=Ec d acc k/\(Ec d acc k<=1000↔okEs d k=true/\acc+szEs k<=1000)/\(Ec d acc k<=1000->Ec d acc k=acc+szEs k)/\Ec d acc k<=2001+1000*(61-d).toNat
 |d,acc,[],h,g=>by simp[Ec,okEs,szEs];omega
 |d,acc,x::xs,h,g=>by
  have h1:=cntE_ok d x;have h2:=cntEs_ok d (acc+cntE d x) xs (by omega);grind[Ec,okEs,szEs]
end
theorem validE_cnt(e:E):decide (cntE 1 e<=1000)=Bz e:=by
 simp_all[cntE_ok,Bz]
theorem validE_v(e:E):(vE 1000 1 e).1=Bz e:=by
 grind[vE_ok,Bz]
theorem vE_bound{left d:Int}{e:E}(h:(vE left d e).1=true):0<=(vE left d e).2/\(vE left d e).2<=left:=by
 grind[vE_ok]
theorem cntE_eq(d:Int)(e:E):cntE d e=if 60<d then 1001 else if Dx e.op e.n e.s e.k.length=true then Ec (d+1) 1 e.k else 1001:=by
 cases e;unfold cntE;rfl
theorem vE_eq(left d:Int)(e:E):vE left d e=if 0<=left-1/\d<=60/\Dx e.op e.n e.s e.k.length=true then En (left-1) (d+1) e.k else(false,left-1):=by
 cases e;unfold vE;rfl
theorem cntEs_cons(d acc:Int)(x:E)(xs:List E):Ec d acc (x::xs)=if 1000<acc+cntE d x then acc+cntE d x else Ec d (acc+cntE d x) xs:=by rw[Ec]
theorem vEs_cons(left d:Int)(x:E)(xs:List E):En left d (x::xs)=if(vE left d x).1=true then En (vE left d x).2 d xs else(false,(vE left d x).2):=by rw[En]
theorem cntEs_nil(d acc:Int):Ec d acc []=acc:=by rw[Ec]
theorem vEs_nil(left d:Int):En left d []=(true,left):=by rw[En]
theorem c247{V:Mem}:∀e:E,E.Ok V e->∀d:Int,0<=d->d<=61->PP 247 [e.v,.int .i64 d] V (.int .i64 (cntE d e)):=by
 intro e;induction e using E.ind with
 |h e r=>
 intro n d q s;have u:=n.rows;refine x247 ?_;refine⟨λh=>?_,λh=>(c278 (e:=e) rfl).call ⟨_,rfl,λw=>?_,λw=>?_⟩⟩;·rw[cntE_eq,if_pos h];exact⟨rfl,rfl⟩
 ·rw[u.n_eq]at w;rw[cntE_eq,if_neg h,if_pos w];refine loop3s CY e.k.length (λi acc V1=>V1=V/\1<=acc/\acc<=1000/\Ec (d+1) 1 e.k=Ec (d+1) acc (e.k.drop i)) ⟨rfl,by omega,by omega,rfl⟩ ?_;rintro i acc c _ J hi ⟨rfl,o,H,m⟩ G;refine⟨λg=>?_,λj=>?_⟩
  ·obtain⟨x,hm,N,l,Z,p,b,y⟩:=u.get g;have Y:=cntE_ok (d+1) x;rw[l,cntEs_cons]at m;refine⟨p,b,g,_,_,_,_,y,⟨by omega,by omega⟩,(r x hm (n.kids x hm) (d+1) (by omega) (by omega)).call ⟨_,rfl,⟨by omega,by omega⟩,λa=>?_,λa=>⟨u.succ g,?_⟩⟩⟩;·simp_all
   grind
  ·rw[(u.done j).1,cntEs_nil]at m;simp_all
 ·rw[u.n_eq]at w;rw[cntE_eq,if_neg h,if_neg w];exact⟨rfl,rfl⟩
theorem c203{V:Mem}{e:E}(h:E.Ok V e):PP 203 [e.v] V (.bool (Bz e)):=by
 refine x203 ?_;refine(c247 e h 1 (by omega) (by omega)).call ⟨_,rfl,?_⟩;rw[validE_cnt];simp_all
theorem c214{V:Mem}{b t:Nat}{n:Int}(h:V b=some (cell (.int .i64 n) t))(k:-1000<=n)(h1:n<=100000):
  Tri xE 214 #[pv b] V λe V'=>e=.returned (.bool (decide (0<=n-1)))/\V'=V.set b (cell (.int .i64 (n-1)) t):=by
 refine x214 ?_;refine⟨by simp,by simp,_,AG h,⟨by omega,by omega⟩,by simp,by simp,Ao.cell h ⟨by simp,by simp,_,AG Az,rfl,rfl⟩⟩
set_option maxRecDepth 10000 in
theorem c212{V0:Mem}[S:Tab V0]{b t:Nat}(y:V0 b=none):∀e:E,E.Ok V0 e->∀(V:Mem),V0.sub V->∀left d:Int,V b=some (cell (.int .i64 left) t)->0<=left->left<=1000->0<=d->d<=61 ->
    Tri xE 212 #[e.v,.int .i64 d,pv b] V λr V'=>r=.returned (.bool (vE left d e).1)/\V'=V.set b (cell (.int .i64 (vE left d e).2) t):=by
  intro e;induction e using E.ind with
  |h e T=>
  intro C V N left d U hl0 hl1 hd0 hd;have D:=C.rows;have hn:=D.n_eq;refine Tri.less (x212 ?_);refine c253.call ⟨_,_,rfl,Tri.mono (c214 U (by omega) (by omega)) ?_⟩;rintro _ _ ⟨rfl,rfl⟩;refine⟨_,rfl,?_⟩;have w:¬(0<=left-1/\d<=60/\Dx e.op e.n e.s e.k.length=true)->∃W,(xG (.bool false)=xG (.bool (vE left d e).1)/\W=V.set b (cell (.int .i64 (vE left d e).2) t))/\W.sub (V.set b (cell (.int .i64 (left-1)) t)):=by
    intro h;rw[vE_eq,if_neg h];exact⟨_,⟨rfl,rfl⟩,Mem.sub.refl _⟩
  have u:(0<=left-1/\d<=60/\Dx e.op e.n e.s e.k.length=true)->Ag [(.int .i64 d)] 3 (V.set b (cell (.int .i64 (left-1)) t)) fun Z V4 =>
        Ag [(pv b)] 267 V4 λY V5=>
        Tri xE 216 #[(.slice e.l.p e.l.n e.l.c),(.func (.func 255) #[] #[(.pointer (Aa Z 0)),(.pointer (Aa Y 0))])] V5 λr V6=>∃a:Bool,r=.returned (.bool a)/\
        ∃W,(xG (.bool (!a))=xG (.bool (vE left d e).1)/\W=V.set b (cell (.int .i64 (vE left d e).2) t))/\W.sub V6:=by
    intro h b1 j b2 m;rw[vE_eq,if_pos h];have n1:b≠b1:=λe=>by grind[Mem.set_same]
    have n2:b1≠b2:=λe=>by grind[Mem.set_same]
    have n3:b≠b2:=λe=>by grind[Mem.set_ne,Mem.set_same]
    rw[Mem.set_ne (λe=>n1 e.symm)]at j;rw[Mem.set_ne (λe=>n2 e.symm),Mem.set_ne (λe=>n3 e.symm)]at m;have v1:V0 b1=none:=by cases Q:V0 b1 with
      |none=>rfl
      |some x=>rw[N _ _ Q]at j;cases j
    have v2:V0 b2=none:=by cases Q:V0 b2 with
      |none=>rfl
      |some x=>rw[N _ _ Q]at m;cases m
    let M:Int->Mem:=λg=>((V.set b (cell (.int .i64 g) t)).set b1 (cell (.int .i64 d) 3)).set b2 (cell (pv b) 267);have K:∀g,V0.sub (M g):=λg=>((N.set y _).set v1 _).set v2 _;have P:∀g,M g b=some (cell (.int .i64 g) t):=λg=>by grind[Mem.set_ne,Mem.set_same]
    have O:∀g,M g b1=some (cell (.int .i64 d) 3):=λg=>by grind[Mem.set_ne,Mem.set_same]
    have A:∀g,M g b2=some (cell (pv b) 267):=λg=>by grind[Mem.set_same]
    have hMs:∀g q,(M g).set b (cell (.int .i64 q) t)=M q:=λg q=>by
      grind[Mem.set_comm,Mem.set_set]
    have hW:∀g,(V.set b (cell (.int .i64 g) t)).sub (M g):=λg=>by
      refine((Mem.sub.refl _).set ?_ _).set ?_ _;· grind[Mem.set_ne]
      grind[Mem.set_ne]
    refine Tri.mono (g216 (l:=e.l) (xs:=e.k) (first:=[]) (caps:=[pv b1,pv b2]) Tryz.call255
      (λi V1=>∃g,V1=M g/\0<=g/\g<=1000/\En (left-1) (d+1) e.k=En g (d+1) (e.k.drop i)) (λi V1=>∃g,V1=M g/\En (left-1) (d+1) e.k=(false,g)) ?_ ⟨left-1,rfl,by omega,by omega,rfl⟩ ?_) ?_
    · rintro i _ ⟨g,rfl,-⟩;exact D.sub (K g)
    · rintro i x _ I ⟨g,rfl,H,J,o⟩;have hm:=xJ I;have F:=(yw.1 I).1;have L:e.k.drop i=x::e.k.drop (i+1):=by rw[List.drop_eq_getElem_cons F,(yw.1 I).2]
      rw[L,vEs_cons]at o;refine x255 ?_;refine⟨_,AG (O g),⟨by omega,by omega⟩,_,AG (A g),Tri.mono (T x hm (C.kids x hm) (M g) (K g) g (d+1) (P g) H J (by omega) (by omega)) ?_⟩;rintro _ _ ⟨rfl,rfl⟩;refine⟨_,rfl,_,rfl,λy=>?_,λy=>?_⟩;· simp_all
      · have y:(vE g (d+1) x).1=true:=by simpa using y
        have:=vE_bound y;grind
    · rintro _ _ (⟨i,rfl,g,rfl,o⟩|⟨rfl,g,rfl,H,J,o⟩);· simp_all
      · rw[List.drop_length,vEs_nil]at o;exact⟨_,rfl,_,⟨by rw[o];rfl,rfl⟩,by rw[o];exact hW g⟩
  have key:Dx e.op e.n e.s e.k.length=(decide (BS e.op≠-2/\(0<=BS e.op->(e.k.length:Int)=BS e.op)/\(BS e.op=-1->(e.k.length:Int)<=6))&&(Fg e.op e.s&&numB e.op e.n)):=by grind[Dx]
  have pr:-2<=BS e.op:=by unfold BS;grind
  rw[key]at w u;have X:(e.k.length:Int)=(e.l.n:Int):=by rw[hn]
  rw[X]at w u;generalize hkn:(e.l.n:Int)=kn at w u⊢;generalize hpn:BS e.op=pn at w u pr⊢;generalize B:(Fg e.op e.s&&numB e.op e.n)=nm at w u⊢;haveI:Tab (V.set b (cell (.int .i64 (left-1)) t)):=Tab.sub S (N.set y _);refine⟨λh8=>⟨λG=>w λh=>absurd h.2.1 (Int.not_le.2 G),λG=>⟨λh7=>(c254 (e:=e)).call ⟨nm,by rw[B],λh9=>?_,λh9=>w ?_⟩,λh7=>w ?_⟩⟩,λh8=>w ?_⟩;· grind
  · simp_all
  · simp_all
  grind
theorem c160{V:Mem}[Tab V]{e:E}(h:E.Ok V e):PP 160 [e.v] V (.bool (Bz e)):=by
 refine Bv.mk (x160 ?_);intro b k;refine Tri.mono (c212 k e h _ (Mem.sub_new k _) 1000 1 Az (by omega) (by omega) (by omega) (by omega)) ?_;rintro _ _ ⟨rfl,rfl⟩;rw[validE_v,Mem.set_set];exact⟨_,rfl,rfl,Mem.sub_new k _⟩
end Go.Proofs
