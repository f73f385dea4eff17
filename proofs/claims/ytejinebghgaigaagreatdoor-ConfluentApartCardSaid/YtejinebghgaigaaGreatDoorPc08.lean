/- Part 8: no statement of the seat is proved here. -/
import Derived.Test.YtejinebghgaigaaGreatDoorPc04
import Derived.Test.YtejinebghgaigaaGreatDoorPc05
import Derived.Test.YtejinebghgaigaaGreatDoorPc06
import Derived.Test.YtejinebghgaigaaGreatDoorPc07
import Derived.Shelf.Strings.Fields
import Derived.Test.YtejinebghgaigaaGreatDoorProg
import Derived.Sort.Walk0
import Derived.RangeFuncRecord
set_option linter.unusedVariables false
set_option linter.unusedSimpArgs false
open Go.Proofs.Tryz renaming prog->xG
open Go.IntKind renaming wrap->xH
open Go.Ending renaming returned->xI
open And renaming intro->xJ
open List renaming mem_iff_getElem->ya,getElem?_eq_getElem->yr,getElem?_cons_succ->xQ
open Go.Value renaming string->yn
open Nat renaming le_of_ble_eq_true->xK
open Go.Lib renaming TabIs->xL,asciiSpaceTab->xM,fields->xN
open Array renaming getElem?_eq_some_iff->yB
open Go.RowKit.Below renaming heap_alloc->xO
open Go.Op renaming bytesLess->xP
open Bool renaming and_eq_true->zC
namespace Go.Proofs
open Go Go.Sx
set_option maxRecDepth 100000
section
variable{V:Mem}{R:RP}
abbrev w318_0(k:Sl)(V1:Mem)(a b:Option Addr)(c d:Int)(g:KB)(i:Sl)(R:RP):Prop:=¬k.p=none/\(0:Int)<=(0:Int)/\0<(k.n:Int)/\∃p,V1.rowp k.p ((0:Int).toNat*1) 1=some [uI p]/\¬k.p=none/\(0:Int)<=(1:Int)/\1<(k.n:Int)/\∃q,V1.rowp k.p 1 1=some [uI q]/\TI 334 #[uP a,uP b,uA #[uI c,uI d,uS g,uL i],uI p,uI q] V1 λr V2=>R (rV (uI r)) V2
theorem x318{a b:Option Addr}{c d:Int}{g:KB}{i:Sl}(h:N2 a (∃j,V.rowp a 13 1=some [uI j]/\Br (j=0) (Br (c=1) (R (rV (uI d)) V) (Br (c=2) (R (rV (uI d)) V) (Br (c=3) (R (rV (uI 0)) V) (Br (c=4) (TI 327 #[uP a,uP b,uS g] V λk V1=>R (rV (uI k)) V1) (Br (c=6) (TI 328 #[uP a,uS g] V λk V1=>R (rV (uI k)) V1) (Br (c=19) (TI 329 #[uP a,uP b,uA #[uI c,uI d,uS g,uL i]] V λk V1=>R (rV (uI k)) V1) (Br (c=20) (TI 329 #[uP a,uP b,uA #[uI c,uI d,uS g,uL i]] V λk V1=>R (rV (uI k)) V1) (Br (c=21) (TI 329 #[uP a,uP b,uA #[uI c,uI d,uS g,uL i]] V λk V1=>R (rV (uI k)) V1) (Lp [z0,uI 0,uI 0] V λI n V1=>∀k l o,I n [uL k,uI l,uI o] V1->∀m:LMP,Nx I n m->Br (o<(i.n:Int)) (Ix i o (∃p q r s,V1.rowp i.p (o.toNat*4) 4=some [uI p,uI q,uS r,uL s]/\TI 318 #[uP a,uP b,uA #[uI p,uI q,uS r,uL s]] V1 λu V2=>Ag [uI u] 3 V2 λy w=>Ap 52 61 43 (uL k) (.slice (Aa y 0) 1 1) w λz x=>N2 a (∃A,x.rowp a 13 1=some [uI A]/\Br (A=0) (IR (o+1)/\m [uL z,uI l,uI (o+1)] x) (R (rV (uI 0)) x)))) (Br (c=5) (¬k.p=none/\(0:Int)<=(0:Int)/\0<(k.n:Int)/\∃p,V1.rowp k.p ((0:Int).toNat*1) 1=some [uI p]/\Br (p=0) (TI 275 #[uP a,uI 17] V1 λq V2=>R (rV (uI q)) V2) (¬k.p=none/\(0:Int)<=(0:Int)/\0<(k.n:Int)/\∃q,V1.rowp k.p ((0:Int).toNat*1) 1=some [uI q]/\TI 330 #[uP a,uI q,uS g] V1 λr V2=>¬k.p=none/\(0:Int)<=(0:Int)/\0<(k.n:Int)/\∃s,V2.rowp k.p ((0:Int).toNat*1) 1=some [uI s]/\TT 331 #[uP a,uI 1,uI s,uI r] V2 λe w=>e=rT #[]/\N2 a (¬(Aa a 8)=none/\∃u,w.rowp a 9 1=some [uL u]/\¬k.p=none/\(0:Int)<=(0:Int)/\0<(k.n:Int)/\∃y,w.rowp k.p ((0:Int).toNat*1) 1=some [uI y]/\IR (y-1)/\Ix u (y-1) (¬(Aa u.p ((y-1).toNat*2))=none/\∃z A,w.rowp u.p ((y-1).toNat*2) 2=some [uI z,uL A]/\Ix A r (IY w A r λB=>R (rV (uI B)) w))))) (Br (c=7) (N2 a (∃p q r s u y z A,V1.rowp a ((0:Int).toNat*1) 8=some [uS p,uL q,uL r,uL s,uL u,uL y,uL z,uL A]/\TI 136 #[uD p q r s u y z A,uS g] V1 λB V2=>TI 241 #[uP a,uI B,uL k] V2 λC w=>R (rV (uI C)) w)) (Br (c=8) (¬k.p=none/\(0:Int)<=(0:Int)/\0<(k.n:Int)/\∃p,V1.rowp k.p ((0:Int).toNat*1) 1=some [uI p]/\IR (0-p)/\TI 332 #[uP a,uI (0-p)] V1 λq V2=>R (rV (uI q)) V2) (Br (c=24) (¬k.p=none/\(0:Int)<=(0:Int)/\0<(k.n:Int)/\∃p,V1.rowp k.p ((0:Int).toNat*1) 1=some [uI p]/\TI 333 #[uI p] V1 λq V2=>R (rV (uI q)) V2) (Br (c=18) (¬k.p=none/\(0:Int)<=(0:Int)/\0<(k.n:Int)/\∃p,V1.rowp k.p ((0:Int).toNat*1) 1=some [uI p]/\IR (1-p)/\R (rV (uI (1-p))) V1) (Br (c=14) (w318_0 k V1 a b c d g i R) (Br (c=15) (w318_0 k V1 a b c d g i R) (Br (c=16) (w318_0 k V1 a b c d g i R) (Br (c=17) (w318_0 k V1 a b c d g i R) (¬k.p=none/\(0:Int)<=(0:Int)/\0<(k.n:Int)/\∃p,V1.rowp k.p ((0:Int).toNat*1) 1=some [uI p]/\¬k.p=none/\(0:Int)<=(1:Int)/\1<(k.n:Int)/\∃q,V1.rowp k.p 1 1=some [uI q]/\TI 335 #[uP a,uI c,uI p,uI q] V1 λr V2=>R (rV (uI r)) V2))))))))))))))))))) (R (rV (uI 0)) V))):TT 318 #[uP a,uP b,uA #[uI c,uI d,uS g,uL i]] V R:=Ae Tryz.func318 h
theorem x319{a b:Option Addr}{c:KB}{d:Int}(h:N2 a (∃g,V.rowp a 13 1=some [uI g]/\Br (g=0) (N2 b (∃i,V.rowp b 5 1=some [uL i]/\TI 336 #[uL i,uS c] V λj V1=>Br (0<=j) (N2 b (∃k,V1.rowp b 6 1=some [uL k]/\Ix k j (An (Aa k.p (j.toNat*1)) 0 [uI d] V1 λV2=>R (rT #[]) V2))) (N2 a (¬(Aa a 0)=none/\∃k,V1.rowp a 2 1=some [uL k]/\TI 336 #[uL k,uS c] V1 λl V2=>TT 331 #[uP a,uI 2,uI 0,uI l] V2 λe u=>e=rT #[]/\N2 a (¬(Aa a 8)=none/\∃o,u.rowp a 8 1=some [uL o]/\Ix o l (An (Aa o.p (l.toNat*1)) 0 [uI d] u λw=>R (rT #[]) w)))))) (R (rT #[]) V))):TT 319 #[uP a,uP b,uS c,uI d] V R:=Ae Tryz.func319 h
theorem x320{a b:Option Addr}{c:Int}{d:KB}{g i j:Sl}(h:¬g.p=none/\(0:Int)<=(0:Int)/\0<(g.n:Int)/\∃k l o p,V.rowp g.p ((0:Int).toNat*4) 4=some [uI k,uI l,uS o,uL p]/\TI 318 #[uP a,uP b,uA #[uI k,uI l,uS o,uL p]] V λq V1=>¬g.p=none/\(0:Int)<=(1:Int)/\1<(g.n:Int)/\∃r s u y,V1.rowp g.p (1*4) 4=some [uI r,uI s,uS u,uL y]/\TI 318 #[uP a,uP b,uA #[uI r,uI s,uS u,uL y]] V1 λz V2=>N2 a (∃A,V2.rowp a 13 1=some [uI A]/\Br (A=0) (Br (q=0) (TI 275 #[uP a,uI 17] V2 λB w=>R (rT #[]) w) (TI 330 #[uP a,uI q,uS d] V2 λB w=>TT 331 #[uP a,uI 2,uI q,uI B] w λe x=>e=rT #[]/\N2 a (¬(Aa a 8)=none/\∃C,x.rowp a 9 1=some [uL C]/\IR (q-1)/\Ix C (q-1) (¬(Aa C.p ((q-1).toNat*2))=none/\∃D F,x.rowp C.p ((q-1).toNat*2) 2=some [uI D,uL F]/\Ix F B (An (Aa F.p (B.toNat*1)) 0 [uI z] x λm=>R (rT #[]) m))))) (R (rT #[]) V2))):TT 320 #[uP a,uP b,uA #[uI c,uS d,uL g,uL i,uL j]] V R:=Ae Tryz.func320 h
theorem x321{a:KB}{b:Sl}{c:Option Addr}(h:∃d,V.rowp c ((0:Int).toNat*1) 1=some [uS d]/\R (rV (uB (decide (a=d)))) V):TT 321 #[uA #[uS a,uL b],uP c] V R:=Ae Tryz.func321 h
abbrev Ch:KB:=
 Ac [0,1,2,2,3,3,3,3,4,4,4,4,4,4,4,4,5,5,5,5,5,5,5,5,5,5,5,5,5,5,5,5,6,6,6,6,6,6,6,6,6,6,6,6,6,6,6,6,6,6,6,6,6,6,6,6,6,6,6,6,6,6,6,6,7,7,7,7,7,7,7,7,7,7,7,7,7,7,7,7,7,7,7,7,7,7,7,7,7,7,7,7,7,7,7,7,7,7,7,7,7,7,7,7,7,7,7,7,7,7,7,7,7,7,7,7,7,7,7,7,7,7,7,7,7,7,7,7,8,8,8,8,8,8,8,8,8,8,8,8,8,8,8,8,8,8,8,8,8,8,8,8,8,8,8,8,8,8,8,8,8,8,8,8,8,8,8,8,8,8,8,8,8,8,8,8,8,8,8,8,8,8,8,8,8,8,8,8,8,8,8,8,8,8,8,8,8,8,8,8,8,8,8,8,8,8,8,8,8,8,8,8,8,8,8,8,8,8,8,8,8,8,8,8,8,8,8,8,8,8,8,8,8,8,8,8,8,8,8,8,8,8,8,8,8,8,8,8,8,8,8,8,8,8,8,8]
theorem x323{a:Int}(h:Br (4294967296<=a) (GenK xG (.binOp .shr 411 (.tmp 5) (.const (.int .u64 32)) 344) 411 (gv [(5,.int .u64 a)]) V λx V1=>∃b,x=.int .u64 b/\Br (65536<=b) (GenK xG (.binOp .shr 411 (.tmp 9) (.const (.int .u64 16)) 344) 411 (gv [(9,.int .u64 b)]) V1 λx V2=>∃c,x=.int .u64 c/\IR ((32:Int)+(16:Int))/\Br (256<=c) (GenK xG (.binOp .shr 411 (.tmp 15) (.const (.int .u64 8)) 344) 411 (gv [(15,.int .u64 c)]) V2 λx k=>∃d,x=.int .u64 d/\IR (((32:Int)+(16:Int))+8)/\K.inR .u8 d/\(0<=d/\d<((Ch).size:Int))/\IR (Bq (Ch) d)/\IR ((((32:Int)+(16:Int))+8)+(Bq (Ch) d))/\R (rV (uI ((((32:Int)+(16:Int))+8)+(Bq (Ch) d)))) k) (K.inR .u8 c/\(0<=c/\c<((Ch).size:Int))/\IR (Bq (Ch) c)/\IR (((32:Int)+(16:Int))+(Bq (Ch) c))/\R (rV (uI (((32:Int)+(16:Int))+(Bq (Ch) c)))) V2)) (Br (256<=b) (GenK xG (.binOp .shr 411 (.tmp 15) (.const (.int .u64 8)) 344) 411 (gv [(15,.int .u64 b)]) V1 λx V2=>∃c,x=.int .u64 c/\IR ((32:Int)+(8:Int))/\K.inR .u8 c/\(0<=c/\c<((Ch).size:Int))/\IR (Bq (Ch) c)/\IR (((32:Int)+(8:Int))+(Bq (Ch) c))/\R (rV (uI (((32:Int)+(8:Int))+(Bq (Ch) c)))) V2) (K.inR .u8 b/\(0<=b/\b<((Ch).size:Int))/\IR (Bq (Ch) b)/\IR (32+(Bq (Ch) b))/\R (rV (uI (32+(Bq (Ch) b)))) V1))) (Br (65536<=a) (GenK xG (.binOp .shr 411 (.tmp 9) (.const (.int .u64 16)) 344) 411 (gv [(9,.int .u64 a)]) V λx V1=>∃b,x=.int .u64 b/\IR ((0:Int)+(16:Int))/\Br (256<=b) (GenK xG (.binOp .shr 411 (.tmp 15) (.const (.int .u64 8)) 344) 411 (gv [(15,.int .u64 b)]) V1 λx V2=>∃c,x=.int .u64 c/\IR (((0:Int)+(16:Int))+8)/\K.inR .u8 c/\(0<=c/\c<((Ch).size:Int))/\IR (Bq (Ch) c)/\IR ((((0:Int)+(16:Int))+8)+(Bq (Ch) c))/\R (rV (uI ((((0:Int)+(16:Int))+8)+(Bq (Ch) c)))) V2) (K.inR .u8 b/\(0<=b/\b<((Ch).size:Int))/\IR (Bq (Ch) b)/\IR (((0:Int)+(16:Int))+(Bq (Ch) b))/\R (rV (uI (((0:Int)+(16:Int))+(Bq (Ch) b)))) V1)) (Br (256<=a) (GenK xG (.binOp .shr 411 (.tmp 15) (.const (.int .u64 8)) 344) 411 (gv [(15,.int .u64 a)]) V λx V1=>∃b,x=.int .u64 b/\IR ((0:Int)+(8:Int))/\K.inR .u8 b/\(0<=b/\b<((Ch).size:Int))/\IR (Bq (Ch) b)/\IR (((0:Int)+(8:Int))+(Bq (Ch) b))/\R (rV (uI (((0:Int)+(8:Int))+(Bq (Ch) b)))) V1) (K.inR .u8 a/\(0<=a/\a<((Ch).size:Int))/\IR (Bq (Ch) a)/\IR (0+(Bq (Ch) a))/\R (rV (uI (0+(Bq (Ch) a)))) V)))):TT 323 #[.int .u64 a] V R:=Ae Tryz.func323 h
theorem x324{a:Int}(h:IR (0-a)/\GenK xG (.call {callee:=(.builtin .max),args:=#[(.tmp 3),(.tmp 5)],argTypes:=#[3,3]}) 3 (gv [(3,uI a),(5,uI (0-a))]) V λx V1=>∃b,x=uI b/\R (rV (uI b)) V1):TT 324 #[uI a] V R:=Ae Tryz.func324 h
theorem x327{a b:Option Addr}{c:KB}(h:N2 b (∃d,V.rowp b 5 1=some [uL d]/\TI 336 #[uL d,uS c] V λg V1=>Br (0<=g) (N2 b (∃i,V1.rowp b 6 1=some [uL i]/\Ix i g (IY V1 i g λj=>R (rV (uI j)) V1))) (N2 a (¬(Aa a 0)=none/\∃i,V1.rowp a 2 1=some [uL i]/\TI 336 #[uL i,uS c] V1 λj V2=>TT 331 #[uP a,uI 1,uI 0,uI j] V2 λe u=>e=rT #[]/\N2 a (¬(Aa a 8)=none/\∃k,u.rowp a 8 1=some [uL k]/\Ix k j (IY u k j λl=>R (rV (uI l)) u)))))):TT 327 #[uP a,uP b,uS c] V R:=Ae Tryz.func327 h
theorem x328{a:Option Addr}{b:KB}(h:N2 a (¬(Aa a 8)=none/\∃c,V.rowp a 9 1=some [uL c]/\Br (4096<=(c.n:Int)) (TI 275 #[uP a,uI 21] V λd V1=>R (rV (uI d)) V1) (N2 a (∃d g i j k l o p,V.rowp a ((0:Int).toNat*1) 8=some [uS d,uL g,uL i,uL j,uL k,uL l,uL o,uL p]/\TI 93 #[uD d g i j k l o p,uS b] V λq V1=>N2 a (¬(Aa a 8)=none/\∃r,V1.rowp a 9 1=some [uL r]/\N2 a (¬(Aa a 0)=none/\∃s,V1.rowp a 1 1=some [uL s]/\Ix s q (¬(Aa s.p (q.toNat*2))=none/\∃u y,V1.rowp s.p (q.toNat*2) 2=some [uS u,uL y]/\GenK xG (.makeSlice 43 (.tmp 37) (.tmp 37)) 43 (gv [(37,uI (y.n:Int)),(37,uI (y.n:Int))]) V1 λx V2=>∃z,x=uL z/\V2.rowp (Aa a 9) 0 1=some [uL r]/\¬(Aa a 8)=none/\N2 a (V2.rowp (Aa a 9) 0 1=some [uL r]/\¬(Aa a 8)=none/\N2 a (Ag [uI q,uL z] 55 V2 λA H=>Ap 26 40 47 (uL r) (.slice (Aa A 0) 1 1) H λB J=>N2 a (¬(Aa a 8)=none/\An (Aa a 9) 0 [uL B] J λw=>N2 a (¬(Aa a 8)=none/\∃C,w.rowp a 9 1=some [uL C]/\TT 331 #[uP a,uI 3,uI (C.n:Int),uI q] w λe m=>e=rT #[]/\N2 a (¬(Aa a 8)=none/\∃D,m.rowp a 9 1=some [uL D]/\R (rV (uI (D.n:Int))) m)))))))))))):TT 328 #[uP a,uS b] V R:=Ae Tryz.func328 h
abbrev Hp(w:Sl)(V1:Mem)(x j:Option Addr)(R:RP):Prop:=
 ¬w.p=none/\(0:Int)<=(1:Int)/\1<(w.n:Int)/\∃h k g u,V1.rowp w.p (1*4) 4=some [uI h,uI k,uS g,uL u]/\
 TI 318 #[uP x,uP j,uA #[uI h,uI k,uS g,uL u]] V1 λy V2=>
 R (rV (uI y)) V2
theorem x329{a b:Option Addr}{c d:Int}{g:KB}{i:Sl}(h:¬i.p=none/\(0:Int)<=(0:Int)/\0<(i.n:Int)/\∃j k l o,V.rowp i.p ((0:Int).toNat*4) 4=some [uI j,uI k,uS l,uL o]/\TI 318 #[uP a,uP b,uA #[uI j,uI k,uS l,uL o]] V λp V1=>N2 a (∃q,V1.rowp a 13 1=some [uI q]/\Br (q=0) (Br (c=21) (Br (p=0) (¬i.p=none/\(0:Int)<=(2:Int)/\2<(i.n:Int)/\∃r s u y,V1.rowp i.p (2*4) 4=some [uI r,uI s,uS u,uL y]/\TI 318 #[uP a,uP b,uA #[uI r,uI s,uS u,uL y]] V1 λz V2=>R (rV (uI z)) V2) (Br (c=19) (Br (p=0) (R (rV (uI 0)) V1) (Br (c=20) (Br (p=0) (Hp i V1 a b R) (R (rV (uI 1)) V1)) (Hp i V1 a b R))) (Br (c=20) (Br (p=0) (Hp i V1 a b R) (R (rV (uI 1)) V1)) (Hp i V1 a b R)))) (Br (c=19) (Br (p=0) (R (rV (uI 0)) V1) (Br (c=20) (Br (p=0) (Hp i V1 a b R) (R (rV (uI 1)) V1)) (Hp i V1 a b R))) (Br (c=20) (Br (p=0) (Hp i V1 a b R) (R (rV (uI 1)) V1)) (Hp i V1 a b R)))) (R (rV (uI 0)) V1))):TT 329 #[uP a,uP b,uA #[uI c,uI d,uS g,uL i]] V R:=Ae Tryz.func329 h
theorem x330{a:Option Addr}{b:Int}{c:KB}(h:N2 a (¬(Aa a 0)=none/\∃d,V.rowp a 1 1=some [uL d]/\N2 a (¬(Aa a 8)=none/\∃g,V.rowp a 9 1=some [uL g]/\IR (b-1)/\Ix g (b-1) (¬(Aa g.p ((b-1).toNat*2))=none/\∃i j,V.rowp g.p ((b-1).toNat*2) 2=some [uI i,uL j]/\Ix d i (¬(Aa d.p (i.toNat*2))=none/\∃k l,V.rowp d.p (i.toNat*2) 2=some [uS k,uL l]/\TI 336 #[uL l,uS c] V λo V1=>R (rV (uI o)) V1))))):TT 330 #[uP a,uI b,uS c] V R:=Ae Tryz.func330 h
theorem x331{a:Option Addr}{b c d:Int}(h:N2 a (∃g,V.rowp a 17 1=some [uL g]/\Ag [uI b,uI c,uI d] 211 V λi V1=>Ap 12 17 138 (uL g) (.slice (Aa i 0) 1 1) V1 λj V2=>N2 a (An (Aa a 17) 0 [uL j] V2 λu=>Br (0<c) (N2 a (¬(Aa a 14)=none/\∃k,u.rowp a 15 1=some [uI k]/\IR (k+1)/\N2 a (¬(Aa a 14)=none/\An (Aa a 15) 0 [uI (k+1)] u λw=>R (rT #[]) w))) (R (rT #[]) u)))):TT 331 #[uP a,uI b,uI c,uI d] V R:=Ae Tryz.func331 h
theorem x332{a:Option Addr}{b:Int}(h:Br (b<(-1099511627776)) (TI 275 #[uP a,uI 5] V λc V1=>R (rV (uI c)) V1) (Br (1099511627776<b) (TI 275 #[uP a,uI 5] V λc V1=>R (rV (uI c)) V1) (R (rV (uI b)) V))):TT 332 #[uP a,uI b] V R:=Ae Tryz.func332 h
theorem x333{a:Int}(h:Lp [uI a,uI 0] V λI n V1=>∀b c,I n [uI b,uI c] V1->∀k:LMP,Nx I n k->Br (1<b) (¬(2:Int)=(0:Int)/\IR (c+1)/\k [uI (xH .i64 ((b).tdiv (2:Int))),uI (c+1)] V1) (R (rV (uI c)) V1)):TT 333 #[uI a] V R:=Ae Tryz.func333 h
abbrev w334_0(c j k:Int)(V2:Mem)(R:RP):Prop:=Br (c=15) (TI 338 #[uB (!(decide (j=k)))] V2 λu h=>R (rV (uI u)) h) (Br (c=16) (TI 338 #[uB (decide (j<k))] V2 λu h=>R (rV (uI u)) h) (TI 338 #[uB (decide (j<=k))] V2 λu h=>R (rV (uI u)) h))
theorem x334{a b:Option Addr}{c d:Int}{g:KB}{i:Sl}{j k:Int}(h:¬i.p=none/\(0:Int)<=(0:Int)/\0<(i.n:Int)/\∃l o p q,V.rowp i.p ((0:Int).toNat*4) 4=some [uI l,uI o,uS p,uL q]/\TB 337 #[uP a,uP b,uA #[uI l,uI o,uS p,uL q]] V λr V1=>Br (r=true) (N2 a (¬(Aa a 14)=none/\∃s,V1.rowp a 14 1=some [uI s]/\IR (s+1)/\N2 a (¬(Aa a 14)=none/\An (Aa a 14) 0 [uI (s+1)] V1 λV2=>Br (c=14) (TI 338 #[uB (decide (j=k))] V2 λu w=>R (rV (uI u)) w) (w334_0 c j k V2 R)))) (Br (c=14) (TI 338 #[uB (decide (j=k))] V1 λs V2=>R (rV (uI s)) V2) (w334_0 c j k V1 R))):TT 334 #[uP a,uP b,uA #[uI c,uI d,uS g,uL i],uI j,uI k] V R:=Ae Tryz.func334 h
theorem x335{a:Option Addr}{b c d:Int}(h:Br (b=9) (IR (c+d)/\TI 332 #[uP a,uI (c+d)] V λg V1=>R (rV (uI g)) V1) (Br (b=10) (IR (c-d)/\TI 332 #[uP a,uI (c-d)] V λg V1=>R (rV (uI g)) V1) (Br (b=11) (TI 339 #[uP a,uI c,uI d] V λg V1=>R (rV (uI g)) V1) (Br (b=22) (Br (c<d) (R (rV (uI d)) V) (R (rV (uI c)) V)) (Br (b=23) (Br (d<c) (R (rV (uI d)) V) (R (rV (uI c)) V)) (Br (d=0) (TI 275 #[uP a,uI 18] V λg V1=>R (rV (uI g)) V1) (Br (b=12) (¬d=0/\TI 332 #[uP a,uI (xH .i64 ((c).tdiv d))] V λg V1=>R (rV (uI g)) V1) (¬d=0/\R (rV (uI ((c).tmod d))) V)))))))):TT 335 #[uP a,uI b,uI c,uI d] V R:=Ae Tryz.func335 h
theorem x336{a:Sl}{b:KB}(h:Lp [uI 0,uI 0] V λI n V1=>∀c d,I n [uI c,uI d] V1->∀k:LMP,Nx I n k->Br (d<(a.n:Int)) (Ix a d (¬(Aa a.p (d.toNat*2))=none/\∃g i,V1.rowp a.p (d.toNat*2) 2=some [uS g,uS i]/\Br (g=b) (R (rV (uI d)) V1) (IR (d+1)/\k [uI c,uI (d+1)] V1))) (R (rV (uI (-1))) V1)):TT 336 #[uL a,uS b] V R:=Ae Tryz.func336 h
theorem x337{a b:Option Addr}{c d:Int}{g:KB}{i:Sl}(h:N2 a (∃j k l o p q r s,V.rowp a ((0:Int).toNat*1) 8=some [uS j,uL k,uL l,uL o,uL p,uL q,uL r,uL s]/\N2 a (∃u y z A B C D F,V.rowp a ((0:Int).toNat*1) 8=some [uS u,uL y,uL z,uL A,uL B,uL C,uL D,uL F]/\N2 b (∃G H L M N,V.rowp b ((0:Int).toNat*1) 5=some [uS G,uL H,uS L,uL M,uL N]/\TT 293 #[uD u y z A B C D F,uA #[uS G,uL H,uS L,uL M,uL N]] V λe V1=>∃O P,e=rV (uA #[uL O,uB P])/\V1.rowp (Aa a 0) 0 8=some [uS j,uL k,uL l,uL o,uL p,uL q,uL r,uL s]/\N2 a (TT 296 #[uD j k l o p q r s,uA #[uL O,uB P],uA #[uI c,uI d,uS g,uL i]] V1 λe V2=>∃Q U,e=rT #[uS Q,uI U]/\Br (U=0) (R (rV (uB (decide (Q=(Ac [105,110,116]))))) V2) (R KQ V2)))))):TT 337 #[uP a,uP b,uA #[uI c,uI d,uS g,uL i]] V R:=Ae Tryz.func337 h
theorem x338{a:Bool}(h:Br (a=true) (R (rV (uI 1)) V) (R (rV (uI 0)) V)):TT 338 #[uB a] V R:=Ae Tryz.func338 h
theorem x339{a:Option Addr}{b c:Int}(h:Br (b<0) (IR (0-b)/\Br (c<0) (IR (0-c)/\Br (0<(0-b)) (¬(0-b)=0/\Br ((xH .i64 (((1099511627776:Int)).tdiv (0-b)))<(0-c)) (TI 275 #[uP a,uI 5] V λd V1=>R (rV (uI d)) V1) (IR (b*c)/\R (rV (uI (b*c))) V)) (IR (b*c)/\R (rV (uI (b*c))) V)) (Br (0<(0-b)) (¬(0-b)=0/\Br ((xH .i64 (((1099511627776:Int)).tdiv (0-b)))<c) (TI 275 #[uP a,uI 5] V λd V1=>R (rV (uI d)) V1) (IR (b*c)/\R (rV (uI (b*c))) V)) (IR (b*c)/\R (rV (uI (b*c))) V))) (Br (c<0) (IR (0-c)/\Br (0<b) (¬b=0/\Br ((xH .i64 (((1099511627776:Int)).tdiv b))<(0-c)) (TI 275 #[uP a,uI 5] V λd V1=>R (rV (uI d)) V1) (IR (b*c)/\R (rV (uI (b*c))) V)) (IR (b*c)/\R (rV (uI (b*c))) V)) (Br (0<b) (¬b=0/\Br ((xH .i64 (((1099511627776:Int)).tdiv b))<c) (TI 275 #[uP a,uI 5] V λd V1=>R (rV (uI d)) V1) (IR (b*c)/\R (rV (uI (b*c))) V)) (IR (b*c)/\R (rV (uI (b*c))) V)))):TT 339 #[uP a,uI b,uI c] V R:=Ae Tryz.func339 h
def w7(a:KB)(b c d g i j k l:Sl):MR:=λV R=>TB 9 #[] V λo V1=>Br (o=true) (TT 12 #[uP none,uI 0,uA #[uS (Ac []),z0],uI 0] V1 λe V2=>∃p q r s u y z,e=rT #[uI p,uA #[uI q,uI r,uI s,uI u,uI y],uI z]/\TT 13 #[uP none,uI 0,uI 0,uS (Ac []),uI 0] V2 λe V3=>∃A B C D F G H,e=rT #[uI A,uA #[uI B,uI C,uI D,uI F,uI G],uI H]/\TT 20 #[uP none,uI 0] V3 λe V4=>∃L M,e=rT #[uL L,uI M]/\TT 14 #[uP none,uI 0] V4 λe V5=>∃N O P,e=rT #[uA #[uL N,uL O],uI P]/\TT 15 #[uP none,uI 0] V5 λe V6=>∃Q U,e=rT #[uI Q,uI U]/\TT 16 #[uP none,uI 0] V6 λe V7=>∃W X,e=rT #[uI W,uI X]/\Ag [uI z,uI H,uI M,uI P,uI U,uI X] 24 V7 λY V8=>Lp [uB false,uI 0] V8 λI n V9=>∀Z a0,I n [uB Z,uI a0] V9->∀J0:LMP,Nx I n J0->Br (a0<6) (¬(Aa Y 0)=none/\0<=a0/\a0<6/\∃a1,V9.rowp (Aa Y 0) (a0.toNat*1) 1=some [uI a1]/\Br (a1=1) (IR (a0+1)/\J0 [uB Z,uI (a0+1)] V9) (R KQ V9)) (TI 21 #[uP none] V9 λa1 V10=>Br (a1=0) (TI 24 #[uP none] V10 λa2 V11=>Br (a2=0) (TB 18 #[uD a b c d g i j k,uL l] V11 λa3 V12=>Br (a3=true) (R KX V12) (TT 19 #[uD a b c d g i j k,uL l] V12 λe J=>∃a4 a5 a6 a7 a8 a9 b0 b1 b2 b3 b4 b5,e=rT #[uP a4,uA #[uS a5,uL a6,uL a7,uL a8,uL a9,uL b0,uL b1,uL b2,uL b3,uL b4],uB b5]/\Br (b5=true) (Br (a4=none) (R (rV (uB b5)) J) (IR ((b3.n:Int)-1)/\TT 14 #[uP a4,uI ((b3.n:Int)-1)] J λe V14=>∃b6 b7 b8,e=rT #[uA #[uL b6,uL b7],uI b8]/\TT 20 #[uP a4,uI ((b3.n:Int)-1)] V14 λe E=>∃b9 c0,e=rT #[uL b9,uI c0]/\Br (b8=0) (Br (c0=0) (Lp [uI 0] E λI n K=>∀c1,I n [uI c1] K->∀J1:LMP,Nx I n J1->Br (c1<(b6.n:Int)) (Ix b6 c1 (An (Aa b6.p (c1.toNat*1)) 0 [uI (-3)] K λh=>IR (c1+1)/\J1 [uI (c1+1)] h)) (Lp [uI 0] K λI n h=>∀S,I n [uI S] h->∀J2:LMP,Nx I n J2->Br (S<(b7.n:Int)) (Ix b7 S (¬(Aa b7.p (S.toNat*2))=none/\∃c3 c4,h.rowp b7.p (S.toNat*2) 2=some [uI c3,uL c4]/\GenK xG (.call {callee:=(.builtin .clear),args:=#[(.tmp 152)],argTypes:=#[43]}) 0 (gv [(152,uL c4)]) h λx w=>x=.tuple #[]/\IR (S+1)/\J2 [uI (S+1)] w)) (Lp [uI 0] h λI n w=>∀c3,I n [uI c3] w->∀J3:LMP,Nx I n J3->Br (c3<(b9.n:Int)) (Ix b9 c3 (An (Aa b9.p (c3.toNat*1)) 0 [uI (-7)] w λT=>IR (c3+1)/\J3 [uI (c3+1)] T)) (TT 14 #[uP a4,uI ((b3.n:Int)-1)] w λe T=>∃c4 c5 c6,e=rT #[uA #[uL c4,uL c5],uI c6]/\TT 20 #[uP a4,uI ((b3.n:Int)-1)] T λe m=>∃c7 c8,e=rT #[uL c7,uI c8]/\Br (c6=0) (Br (c8=0) (Ix b4 ((b3.n:Int)-1) (∃c9 d0,m.rowp b4.p (((b3.n:Int)-1).toNat*2) 2=some [uL c9,uL d0]/\TB 25 #[uA #[uL c4,uL c5],uA #[uL c9,uL d0]] m λd1 V21=>Br (d1=true) (Ix b3 ((b3.n:Int)-1) (∃d2,V21.rowp b3.p (((b3.n:Int)-1).toNat*1) 1=some [uL d2]/\TB 17 #[uL c7,uL d2] V21 λd3 V22=>R (rV (uB d3)) V22)) (R KQ V21))) (R KQ m)) (R KQ m))))) (R KQ E)) (R KQ E))) (R (rV (uB b5)) J))) (R KQ V11)) (R KQ V10))) (R KQ V1)
theorem x7{a:KB}{b c d g i j k l:Sl}(h:w7 a b c d g i j k l V R):TT 7 #[uD a b c d g i j k,uL l] V R:=EF Tryz.func7 [74] [] false (by kernel_rfl) (by kernel_rfl) h
theorem x9(h:TT 11 #[] V λe V1=>∃a b c d g i j k,e=rV (uD a b c d g i j k)/\TT 10 #[uD a b c d g i j k] V1 λe V2=>∃l o,e=rT #[uP l,uI o]/\Br (o=0) (Br (l=none) (R KQ V2) (Ag [uI 5,uI 7] 3 V2 λp Y=>Lp [uB false,uI 0] Y λI n m=>∀q r,I n [uB q,uI r] m->∀Z:LMP,Nx I n Z->Br (r<2) (¬(Aa p 0)=none/\0<=r/\r<2/\∃s,m.rowp (Aa p 0) (r.toNat*1) 1=some [uI s]/\Ag [uI s] 3 m λu J=>TT 12 #[uP l,uI 0,uA #[uS (Ac [112,117,115,104]),.slice (Aa u 0) 1 1],uI 100] J λe x=>∃y z A B C D F,e=rT #[uI y,uA #[uI z,uI A,uI B,uI C,uI D],uI F]/\IR (r+1)/\Br (y=(r+1)) (Br (z=0) (Br (F=0) (IR (r+1)/\Z [uB q,uI (r+1)] x) (R KQ x)) (R KQ x)) (R KQ x)) (TT 13 #[uP l,uI 1,uI 2,uS (Ac [97,112,112,101,110,100]),uI 100] m λe J=>∃s u y z A B C,e=rT #[uI s,uA #[uI u,uI y,uI z,uI A,uI B],uI C]/\TT 13 #[uP l,uI 3,uI 3,uS (Ac [97,112,112,101,110,100]),uI 100] J λe x=>∃D F G H L M N,e=rT #[uI D,uA #[uI F,uI G,uI H,uI L,uI M],uI N]/\TT 15 #[uP l,uI 4] x λe W=>∃O P,e=rT #[uI O,uI P]/\TT 16 #[uP l,uI 4] W λe w=>∃Q U,e=rT #[uI Q,uI U]/\Br (C=0) (Br (s=3) (Br (N=0) (Br (D=4) (Br (P=0) (Br (O=4) (Br (U=0) (R (rV (uB (decide (Q=4)))) w) (R KQ w)) (R KQ w)) (R KQ w)) (R KQ w)) (R KQ w)) (R KQ w)) (R KQ w)))) (R KQ V2)):TT 9 #[] V R:=EF Tryz.func9 [29] [] false (by kernel_rfl) (by kernel_rfl) h
theorem Og{a:Option Addr}{b:Int}(h:Ag [uI b] 3 V λc V1=>TI 43 #[uP a,uI 0,.slice (Aa c 0) 1 1] V1 λd V2=>Br (d=0) (N2 a (∃g,V2.rowp a 8 1=some [uL g]/\Ix g b (¬(Aa g.p (b.toNat*5))=none/\∃i j k l o,V2.rowp g.p (b.toNat*5) 5=some [uL i,uL j,uL k,uL l,uI o]/\TL 51 #[uL i] V2 λp m=>Lp [uL p,z0,uI 0] m λI n w=>∀q r s,I n [uL q,uL r,uI s] w->∀x:LMP,Nx I n x->Br (s<(j.n:Int)) (Ix j s (∃u y,w.rowp j.p (s.toNat*2) 2=some [uI u,uL y]/\TL 51 #[uL y] w λz e=>Ag [uI u,uL z] 55 e λA H=>Ap 39 46 47 (uL r) (.slice (Aa A 0) 1 1) H λB J=>IR (s+1)/\x [uL q,uL B,uI (s+1)] J)) (R (rT #[uA #[uL q,uL r],uI 0]) w)))) (R (rT #[uA #[z0,z0],uI d]) V2)):TT 14 #[uP a,uI b] V R:=EF Tryz.func14 [] [(7,[8])] false (by kernel_rfl) (by kernel_rfl) h
theorem QB{a:KB}{b c d g i j k l:Sl}(h:TT 10 #[uD a b c d g i j k] V λe V1=>∃o p,e=rT #[uP o,uI p]/\TB 55 #[uD a b c d g i j k] V1 λq V2=>Br (q=true) (TT 56 #[uD a b c d g i j k] V2 λe J=>∃r s u y z A B C D F,e=rV (uA #[uS r,uL s,uL u,uL y,uL z,uL A,uL B,uL C,uL D,uL F])/\Br (p=0) (Br (o=none) (R (rT #[uP none,uA #[uS r,uL s,uL u,uL y,uL z,uL A,uL B,uL C,uL D,uL F],uB false]) J) (Lp [uS r,uL s,uL u,uL y,uL z,uL A,uL B,uL C,uL D,uL F,uP none,uB false,uI 0] J λI n m=>∀G H L M N O P Q U W X Y Z,I n [uS G,uL H,uL L,uL M,uL N,uL O,uL P,uL Q,uL U,uL W,uP X,uB Y,uI Z] m->∀J0:LMP,Nx I n J0->Br (Z<(l.n:Int)) (Ix l Z (∃a0 a1 a2 a3 E,m.rowp l.p (Z.toNat*5) 5=some [uB a0,uI a1,uI a2,uS a3,uL E]/\TT 33 #[uP o,uA #[uB a0,uI a1,uI a2,uS a3,uL E]] m λe V5=>∃a5 a6 a7 a8 a9 b0 b1,e=rT #[uI a5,uA #[uI a6,uI a7,uI a8,uI a9,uI b0],uI b1]/\TT 57 #[uA #[uS G,uL H,uL L,uL M,uL N,uL O,uL P,uL Q,uL U,uL W],uA #[uB a0,uI a1,uI a2,uS a3,uL E],uI 120] V5 λe x=>∃b2 b3 K S b6 b7 b8 b9 T w c2 c3 c4 c5 c6 c7 c8,e=rT #[uA #[uS b2,uL b3,uL K,uL S,uL b6,uL b7,uL b8,uL b9,uL T,uL w],uI c2,uA #[uI c3,uI c4,uI c5,uI c6,uI c7],uI c8]/\Br (a5=c2) (Br ((a6=c3)/\((a7=c4)/\((a8=c5)/\((a9=c6)/\(b0=c7))))) (Br (b1=c8) (IR ((w.n:Int)-1)/\Ix w ((w.n:Int)-1) (¬(Aa w.p (((w.n:Int)-1).toNat*2))=none/\∃c9 d0,x.rowp w.p (((w.n:Int)-1).toNat*2) 2=some [uL c9,uL d0]/\Br (200<(d0.n:Int)) (R (rT #[uP o,uA #[uS b2,uL b3,uL K,uL S,uL b6,uL b7,uL b8,uL b9,uL T,uL w],uB true]) x) (IR (Z+1)/\J0 [uS b2,uL b3,uL K,uL S,uL b6,uL b7,uL b8,uL b9,uL T,uL w,uP X,uB Y,uI (Z+1)] x))) (R (rT #[uP none,uA #[uS G,uL H,uL L,uL M,uL N,uL O,uL P,uL Q,uL U,uL W],uB false]) x)) (R (rT #[uP none,uA #[uS G,uL H,uL L,uL M,uL N,uL O,uL P,uL Q,uL U,uL W],uB false]) x)) (R (rT #[uP none,uA #[uS G,uL H,uL L,uL M,uL N,uL O,uL P,uL Q,uL U,uL W],uB false]) x))) (R (rT #[uP o,uA #[uS G,uL H,uL L,uL M,uL N,uL O,uL P,uL Q,uL U,uL W],uB true]) m))) (R (rT #[uP none,uA #[uS r,uL s,uL u,uL y,uL z,uL A,uL B,uL C,uL D,uL F],uB false]) J)) (Br (p=1) (R (rT #[uP none,uA #[uS (Ac []),z0,z0,z0,z0,z0,z0,z0,z0,z0],uB (o).isNone]) V2) (R (rT #[uP none,uA #[uS (Ac []),z0,z0,z0,z0,z0,z0,z0,z0,z0],uB false]) V2))):TT 19 #[uD a b c d g i j k,uL l] V R:=EF Tryz.func19 [] [(8,[9])] false (by kernel_rfl) (by kernel_rfl) h
theorem QC{a:KB}{b c d g i j k l o p q:Sl}(h:TT 61 #[uA #[uL l,uL o]] V λe V1=>∃r s,e=rV (uA #[uL r,uL s])/\TT 62 #[uD a b c d g i j k,uA #[uL p,uL q]] V1 λe V2=>∃u y,e=rV (uA #[uL u,uL y])/\Lp [uL r,uL s,uI 0] V2 λI n w=>∀z A B,I n [uL z,uL A,uI B] w->∀x:LMP,Nx I n x->Br (B<(y.n:Int)) (Ix y B (∃C D,w.rowp y.p (B.toNat*2) 2=some [uI C,uL D]/\Ix b C (¬(Aa b.p (C.toNat*2))=none/\∃F G,w.rowp b.p (C.toNat*2) 2=some [uS F,uL G]/\TL 63 #[uL G,uL D,uI (o.n:Int)] w λH m=>Ag [uI C,uL H] 55 m λL J=>Ap 34 49 47 (uL A) (.slice (Aa L 0) 1 1) J λM N=>IR (B+1)/\x [uL z,uL M,uI (B+1)] N))) (¬u.p=none/\(0:Int)<=(0:Int)/\0<(u.n:Int)/\∃C,w.rowp u.p ((0:Int).toNat*1) 1=some [uI C]/\Br (C=0) (R (rT #[uA #[uL z,uL A],uI 0]) w) (¬u.p=none/\(0:Int)<=(0:Int)/\0<(u.n:Int)/\∃D,w.rowp u.p ((0:Int).toNat*1) 1=some [uI D]/\IR ((o.n:Int)+D)/\IR ((o.n:Int)+D)/\w.rowp (Aa u.p ((0:Int).toNat*1)) 0 1=some [uI D]/\¬u.p=none/\(0:Int)<=(0:Int)/\0<(u.n:Int)/\R (rT #[uA #[uL z,uL A],uI ((o.n:Int)+D)]) w))):TT 30 #[uD a b c d g i j k,uA #[uL l,uL o],uA #[uL p,uL q]] V R:=EF Tryz.func30 [] [(5,[8])] false (by kernel_rfl) (by kernel_rfl) h
theorem QD{a:Option Addr}{b c d:Sl}{g:KB}{i:Sl}{j:Int}{k:Sl}(h:N2 a (∃l o p q r s u y,V.rowp a ((0:Int).toNat*1) 8=some [uS l,uL o,uL p,uL q,uL r,uL s,uL u,uL y]/\TT 31 #[uD l o p q r s u y,uA #[uL b,uL c],uA #[uS g,uL i],uI j] V λe V1=>∃z A B C D F G H,e=rT #[uA #[uI z,uI A,uI B,uI C,uI D],uA #[uL F,uL G],uI H]/\Br (H=0) (N2 a (∃L,V1.rowp a 8 1=some [uL L]/\Br (1000<=(L.n:Int)) (R (rT #[uI 0,uA #[uI 0,uI 0,uI 0,uI 0,uI 0],uI 4]) V1) (Br (z=0) (N2 a (∃M N O P Q U W X,V1.rowp a ((0:Int).toNat*1) 8=some [uS M,uL N,uL O,uL P,uL Q,uL U,uL W,uL X]/\TT 80 #[uD M N O P Q U W X,uA #[uL F,uL G]] V1 λe V2=>∃Y Z,e=rT #[uL Y,uI Z]/\Br (Z=0) (N2 a (∃a0 a1 a2 a3 a4 a5 a6 a7,V2.rowp a ((0:Int).toNat*1) 8=some [uS a0,uL a1,uL a2,uL a3,uL a4,uL a5,uL a6,uL a7]/\TT 81 #[uD a0 a1 a2 a3 a4 a5 a6 a7,uA #[uL F,uL G]] V2 λe V3=>∃a8 a9 b0,e=rT #[uA #[uL a8,uL a9],uI b0]/\Br (b0=0) (TL 82 #[uP a,uA #[uL b,uL c],uA #[uL F,uL G],uL d] V3 λb1 V4=>Lp [uL a8,uL a9,z0,uL k,uI 0,uI 0] V4 λI n J=>∀b2 b3 T b5 b6 b7,I n [uL b2,uL b3,uL T,uL b5,uI b6,uI b7] J->∀J0:LMP,Nx I n J0->Br (b7<(Y.n:Int)) (Ix Y b7 (IY J Y b7 λb8=>IR (b8-1)/\Ix b1 (b8-1) (∃b9,J.rowp b1.p ((b8-1).toNat*1) 1=some [uB b9]/\Br (b9=true) (IR (b8-1)/\Ix d (b8-1) (∃m,J.rowp d.p ((b8-1).toNat*1) 1=some [uI m]/\Ag [uI m] 3 J λE w=>Ap 98 104 43 (uL T) (.slice (Aa E 0) 1 1) w λK S=>IR (b7+1)/\J0 [uL b2,uL b3,uL K,uL b5,uI b6,uI (b7+1)] S)) (N2 a (∃m,J.rowp a 9 1=some [uI m]/\IR (m+1)/\N2 a (An (Aa a 9) 0 [uI (m+1)] J λw=>N2 a (∃E,w.rowp a 9 1=some [uI E]/\Ag [uI E] 3 w λK S=>Ap 115 120 43 (uL T) (.slice (Aa K 0) 1 1) S λc3 V8=>IR (b7+1)/\J0 [uL b2,uL b3,uL c3,uL b5,uI b6,uI (b7+1)] V8))))))) (Lp [uL b2,uL b3,uL T,uL b5,uI b6,uI 0] J λI n w=>∀b8 b9 m E K c3,I n [uL b8,uL b9,uL m,uL E,uI K,uI c3] w->∀J1:LMP,Nx I n J1->Br (c3<(k.n:Int)) (Ix k c3 (IY w k c3 λc4=>N2 a (∃c5,w.rowp a 8 1=some [uL c5]/\Ix c5 c4 (¬(Aa c5.p (c4.toNat*5))=none/\∃c6 c7 c8 c9 d0,w.rowp c5.p (c4.toNat*5) 5=some [uL c6,uL c7,uL c8,uL c9,uI d0]/\IR (K+d0)/\GenK xG (.call {callee:=(.builtin .min),args:=#[(.const (.int .i64 1099511627776)),(.tmp 140)],argTypes:=#[3,3]}) 3 (gv [(140,uI (K+d0))]) w λx S=>∃d1,x=uI d1/\IR (c3+1)/\J1 [uL b8,uL b9,uL m,uL E,uI d1,uI (c3+1)] S)))) (N2 a (∃c4,w.rowp a 8 1=some [uL c4]/\w.rowp (Aa a 8) 0 1=some [uL c4]/\N2 a (Ag [uL b8,uL b9,uL m,uL E,uI K] 98 w λc5 S=>Ap 148 150 99 (uL c4) (.slice (Aa c5 0) 1 1) S λc6 V8=>N2 a (An (Aa a 8) 0 [uL c6] V8 λV9=>N2 a (∃c7,V9.rowp a 8 1=some [uL c7]/\IR ((c7.n:Int)-1)/\R (rT #[uI ((c7.n:Int)-1),uA #[uI z,uI A,uI B,uI C,uI D],uI 0]) V9))))))) (R (rT #[uI 0,uA #[uI 0,uI 0,uI 0,uI 0,uI 0],uI b0]) V3))) (R (rT #[uI 0,uA #[uI 0,uI 0,uI 0,uI 0,uI 0],uI Z]) V2))) (R (rT #[uI (-1),uA #[uI z,uI A,uI B,uI C,uI D],uI 0]) V1)))) (R (rT #[uI 0,uA #[uI 0,uI 0,uI 0,uI 0,uI 0],uI H]) V1))):TT 48 #[uP a,uA #[uL b,uL c],uL d,uA #[uS g,uL i],uI j,uL k] V R:=EF Tryz.func48 [] [(17,[19]),(25,[19])] false (by kernel_rfl) (by kernel_rfl) h
theorem QE{a:Option Addr}{b c:Int}(h:N2 a (∃d,V.rowp a 8 1=some [uL d]/\Ix d b (∃g i j k l,V.rowp d.p (b.toNat*5) 5=some [uL g,uL i,uL j,uL k,uI l]/\N2 a (∃o,V.rowp a 8 1=some [uL o]/\Ix o c (∃p q r s u,V.rowp o.p (c.toNat*5) 5=some [uL p,uL q,uL r,uL s,uI u]/\V.rowp (Aa o.p (c.toNat*5)) 0 5=some [uL p,uL q,uL r,uL s,uI u]/\Ix o c (V.rowp (Aa a 8) 0 1=some [uL o]/\N2 a (TL 51 #[uL g] V λy V1=>TL 83 #[uL i] V1 λz V2=>TL 51 #[uL j] V2 λA V3=>GenK xG (.makeSlice 43 (.tmp 55) (.tmp 55)) 43 (gv [(55,uI (p.n:Int)),(55,uI (p.n:Int))]) V3 λx V4=>∃B,x=uL B/\¬p.p=none/\(0:Int)<=(0:Int)/\0<(p.n:Int)/\∃C,V4.rowp p.p ((0:Int).toNat*1) 1=some [uI C]/\¬B.p=none/\(0:Int)<=(0:Int)/\0<(B.n:Int)/\An (Aa B.p ((0:Int).toNat*1)) 0 [uI C] V4 λV5=>N2 a (∃D F G H L M N O,V5.rowp a ((0:Int).toNat*1) 8=some [uS D,uL F,uL G,uL H,uL L,uL M,uL N,uL O]/\TT 80 #[uD D F G H L M N O,uA #[uL B,uL q]] V5 λe V6=>∃P Q,e=rT #[uL P,uI Q]/\Br (Q=0) (GenK xG (.makeMap 154 none) 154 (gv []) V6 λx V7=>∃U,x=uM U/\Lp [uI 0] V7 λI n V8=>∀W,I n [uI W] V8->∀J0:LMP,Nx I n J0->Br (W<(P.n:Int)) (Ix P W (IY V8 P W λX=>IR ((i.n:Int)+W)/\IR (((i.n:Int)+W)+1)/\C2 xG 154 (uM U) (uI X) (uI (((i.n:Int)+W)+1)) V8 λw=>IR (W+1)/\J0 [uI (W+1)] w)) (Lp [uL y,uL z,uL A,uI 0] V8 λI n w=>∀X Y Z a0,I n [uL X,uL Y,uL Z,uI a0] w->∀J1:LMP,Nx I n J1->Br (a0<(P.n:Int)) (Ix P a0 (IY w P a0 λa1=>IR (a1-1)/\Ix q (a1-1) (∃a2 a3,w.rowp q.p ((a1-1).toNat*2) 2=some [uI a2,uL a3]/\TL 51 #[uL a3] w λa4 S=>N2 a (¬(Aa a 0)=none/\∃a5,S.rowp a 1 1=some [uL a5]/\Ix a5 a2 (¬(Aa a5.p (a2.toNat*2))=none/\∃a6 a7,S.rowp a5.p (a2.toNat*2) 2=some [uS a6,uL a7]/\Lp [uI 0] S λI n E=>∀J,I n [uI J] E->∀J2:LMP,Nx I n J2->Br (J<(a7.n:Int)) (Ix a7 J (∃a9 b0,E.rowp a7.p (J.toNat*2) 2=some [uS a9,uS b0]/\TB 45 #[uS b0] E λb1 m=>Br (b1=true) (Ix a4 J (IY m a4 J λb2=>BJ xG 154 (uM U) (uI b2) false m λx=>∃b3,x=uI b3/\Ix a4 J (An (Aa a4.p (J.toNat*1)) 0 [uI b3] m λK=>IR (J+1)/\J2 [uI (J+1)] K))) (IR (J+1)/\J2 [uI (J+1)] m))) (Ag [uI a2,uL a4] 55 E λa9 m=>Ap 146 151 47 (uL Y) (.slice (Aa a9 0) 1 1) m λb0 K=>IR (a1-1)/\Ix r (a1-1) (∃b1,K.rowp r.p ((a1-1).toNat*1) 1=some [uI b1]/\TB 84 #[uL j,uI b1] K λb2 V14=>Br (b2=true) (Ag [uI 0] 3 V14 λb3 T=>Ap 164 166 43 (uL Z) (.slice (Aa b3 0) 1 1) T λb4 V16=>IR (a0+1)/\J1 [uL X,uL b0,uL b4,uI (a0+1)] V16) (Ag [uI b1] 3 V14 λb3 T=>Ap 164 166 43 (uL Z) (.slice (Aa b3 0) 1 1) T λb4 V16=>IR (a0+1)/\J1 [uL X,uL b0,uL b4,uI (a0+1)] V16)))))))) (¬p.p=none/\(0:Int)<=(0:Int)/\0<(p.n:Int)/\∃a1,w.rowp p.p ((0:Int).toNat*1) 1=some [uI a1]/\(w.rowp (Aa p.p ((0:Int).toNat*1)) 0 1=some [uI a1]/\¬p.p=none/\(0:Int)<=(0:Int)/\0<(p.n:Int)/\(w.rowp (Aa p.p ((0:Int).toNat*1)) 0 1=some [uI a1]/\¬p.p=none/\(0:Int)<=(0:Int)/\0<(p.n:Int)/\BJ xG 154 (uM U) (uI a1) false w λx=>∃a2,x=uI a2/\R (rT #[uA #[uL X,uL Y],uL Z,uI a2]) w)/\(BJ xG 154 (uM U) (uI a1) false w λx=>∃a2,x=uI a2/\R (rT #[uA #[uL X,uL Y],uL Z,uI a2]) w))/\(BJ xG 154 (uM U) (uI a1) false w λx=>∃a2,x=uI a2/\R (rT #[uA #[uL X,uL Y],uL Z,uI a2]) w)))) (R (rT #[uA #[uL y,uL z],uL A,uI 0]) V6))))))))):TT 50 #[uP a,uI b,uI c] V R:=EF Tryz.func50 [] [(16,[11])] false (by kernel_rfl) (by kernel_rfl) h
theorem QF{a b:Sl}(h:Ag [] 3 V λc V1=>Ap 5 7 43 (.slice (Aa c 0) (0:Int).toNat (0:Int).toNat) (uL a) V1 λd V2=>Lp [uL d,z0,uI 0] V2 λI n w=>∀g i j,I n [uL g,uL i,uI j] w->∀y:LMP,Nx I n y->Br (j<(b.n:Int)) (Ix b j (¬(Aa b.p (j.toNat*2))=none/\∃k l,w.rowp b.p (j.toNat*2) 2=some [uI k,uL l]/\Ix b j (¬(Aa b.p (j.toNat*2))=none/\∃o p,w.rowp b.p (j.toNat*2) 2=some [uI o,uL p]/\w.rowp (Aa (Aa b.p (j.toNat*2)) 1) 0 1=some [uL p]/\¬(Aa b.p (j.toNat*2))=none/\Ix b j (w.rowp (Aa (Aa b.p (j.toNat*2)) 0) 0 1=some [uI k]/\¬(Aa b.p (j.toNat*2))=none/\Ix b j (Ag [] 3 w λq m=>Ap 25 31 43 (.slice (Aa q 0) (0:Int).toNat (0:Int).toNat) (uL p) m λr x=>x.rowp (Aa (Aa b.p (j.toNat*2)) 0) 0 1=some [uI k]/\¬(Aa b.p (j.toNat*2))=none/\Ix b j (Ag [uI k,uL r] 55 x λs e=>Ap 18 34 47 (uL i) (.slice (Aa s 0) 1 1) e λu H=>IR (j+1)/\y [uL g,uL u,uI (j+1)] H)))))) (R (rV (uA #[uL g,uL i])) w)):TT 61 #[uA #[uL a,uL b]] V R:=EF Tryz.func61 [] [(3,[3])] false (by kernel_rfl) (by kernel_rfl) h
theorem QG{a:KB}{b c d g i j k l o:Sl}(h:TT 97 #[uD a b c d g i j k,uA #[uL l,uL o]] V λe V1=>∃p q,e=rV (uA #[uL p,uI q])/\TL 98 #[uL c,uL l,uL p] V1 λr V2=>Lp [uL r,z0,uI 0] V2 λI n w=>∀s u y,I n [uL s,uL u,uI y] w->∀x:LMP,Nx I n x->Br (y<(p.n:Int)) (Ix p y (∃z,w.rowp p.p (y.toNat*1) 1=some [uI z]/\IR (z-1)/\Ix o (z-1) (∃A B,w.rowp o.p ((z-1).toNat*2) 2=some [uI A,uL B]/\Ix b A (¬(Aa b.p (A.toNat*2))=none/\∃C D,w.rowp b.p (A.toNat*2) 2=some [uS C,uL D]/\TL 98 #[uL D,uL B,uL p] w λF m=>Ag [uI A,uL F] 55 m λG J=>Ap 36 51 47 (uL u) (.slice (Aa G 0) 1 1) J λH N=>IR (y+1)/\x [uL s,uL H,uI (y+1)] N)))) (R (rV (uA #[uL s,uL u])) w)):TT 65 #[uD a b c d g i j k,uA #[uL l,uL o]] V R:=EF Tryz.func65 [] [(4,[6])] false (by kernel_rfl) (by kernel_rfl) h
theorem QH{a:Option Addr}(h:GenK xG (.makeFunc (.func 117) #[(.tmp 6)] #[]) 160 (gv [(6,uP a)]) V λx V1=>∃b,K.f.ok b/\x=b/\GenK xG (.makeFunc (.func 118) #[(.tmp 8)] #[]) 160 (gv [(8,uP a)]) V1 λx V2=>∃c,K.f.ok c/\x=c/\GenK xG (.makeFunc (.func 119) #[(.tmp 10)] #[]) 160 (gv [(10,uP a)]) V2 λx r=>∃d,K.f.ok d/\x=d/\GenK xG (.makeFunc (.func 120) #[(.tmp 12)] #[]) 160 (gv [(12,uP a)]) r λx q=>∃g,K.f.ok g/\x=g/\GenK xG (.makeFunc (.func 121) #[(.tmp 14)] #[]) 160 (gv [(14,uP a)]) q λx s=>∃i,K.f.ok i/\x=i/\Ag [K.cast .f b,K.cast .f c,K.cast .f d,K.cast .f g,K.cast .f i] 160 s λj H=>Lp [uP none,uI 0] H λI n w=>∀k l,I n [uP k,uI l] w->∀y:LMP,Nx I n y->Br (l<5) (¬(Aa j 0)=none/\0<=l/\l<5/\∃o,K.f.ok o/\w.rowp (Aa j 0) (l.toNat*1) 1=some [o]/\∃f first u,K.cast .f o=.func (.func f) first u/\CO f/\TT f (first++#[]++u) w λe m=>∃p,e=rV (uP p)/\Br (p=none) (IR (l+1)/\y [uP k,uI (l+1)] m) (R (rV (uP p)) m)) (R (rV (uP none)) w)):TT 74 #[uP a] V R:=EF Tryz.func74 [16] [] false (by kernel_rfl) (by kernel_rfl) h
theorem QI{a b:Sl}(h:TL 51 #[uL a] V λc V1=>Lp [uL c,z0,uI 0] V1 λI n V2=>∀d g i,I n [uL d,uL g,uI i] V2->∀u:LMP,Nx I n u->Br (i<(b.n:Int)) (Ix b i (∃j k,V2.rowp b.p (i.toNat*2) 2=some [uI j,uL k]/\TL 51 #[uL k] V2 λl w=>Ag [uI j,uL l] 55 w λo y=>Ap 18 25 47 (uL g) (.slice (Aa o 0) 1 1) y λp x=>IR (i+1)/\u [uL d,uL p,uI (i+1)] x)) (R (rV (uA #[uL d,uL g])) V2)):TT 96 #[uA #[uL a,uL b]] V R:=EF Tryz.func96 [] [(3,[3])] false (by kernel_rfl) (by kernel_rfl) h
theorem x130{a:Option Addr}(h:N2 a (¬(Aa a 0)=none/\∃b,V.rowp a 2 1=some [uL b]/\N2 a (¬(Aa a 8)=none/\∃c,V.rowp a 8 1=some [uL c]/\TL 191 #[uP a,uL b,uL c] V λd V1=>N2 a (∃g,V1.rowp a 10 1=some [uL g]/\Lp [uL d,z0,uI 0] V1 λI n V2=>∀i j k,I n [uL i,uL j,uI k] V2->∀w:LMP,Nx I n w->Br (k<(g.n:Int)) (Ix g k (IY V2 g k λl=>N2 a (¬(Aa a 8)=none/\∃o,V2.rowp a 9 1=some [uL o]/\IR (l-1)/\Ix o (l-1) (∃p q,V2.rowp o.p ((l-1).toNat*2) 2=some [uI p,uL q]/\N2 a (¬(Aa a 0)=none/\∃r,V2.rowp a 1 1=some [uL r]/\Ix r p (¬(Aa r.p (p.toNat*2))=none/\∃s u,V2.rowp r.p (p.toNat*2) 2=some [uS s,uL u]/\TL 191 #[uP a,uL u,uL q] V2 λy x=>Ag [uI p,uL y] 55 x λz m=>Ap 39 57 47 (uL j) (.slice (Aa z 0) 1 1) m λA e=>IR (k+1)/\w [uL i,uL A,uI (k+1)] e)))))) (R (rV (uA #[uL i,uL j])) V2))))):TT 130 #[uP a] V R:=EF Tryz.func130 [] [(3,[3])] false (by kernel_rfl) (by kernel_rfl) h
theorem x146{a:KB}{b c d g i j k l o p:Sl}{q:Int}{r s:Sl}(h:Lp [uL p,uI q,uI 0] V λI n V1=>∀u y z,I n [uL u,uI y,uI z] V1->∀w:LMP,Nx I n w->Br (z<(r.n:Int)) (Ix s z (IY V1 s z λA=>Ix r z (¬(Aa r.p (z.toNat*2))=none/\∃B C,V1.rowp r.p (z.toNat*2) 2=some [uS B,uS C]/\Br (C=(Ac [105,110,116])) (IR (z+1)/\w [uL u,uI y,uI (z+1)] V1) (Ix r z (¬(Aa r.p (z.toNat*2))=none/\∃D F,V1.rowp r.p (z.toNat*2) 2=some [uS D,uS F]/\Br (F=(Ac [98,111,111,108])) (IR (z+1)/\w [uL u,uI y,uI (z+1)] V1) (Br (A=0) (IR (z+1)/\w [uL u,uI y,uI (z+1)] V1) (TI 147 #[uL u,uI A] V1 λG V2=>Br (0<=G) (Br (y=0) (IR (z+1)/\w [uL u,uI A,uI (z+1)] V2) (IR (z+1)/\w [uL u,uI y,uI (z+1)] V2)) (Ag [uI A] 3 V2 λH m=>Ap 52 54 43 (uL u) (.slice (Aa H 0) 1 1) m λL x=>IR (A-1)/\Ix o (A-1) (¬(Aa o.p ((A-1).toNat*2))=none/\∃M N,x.rowp o.p ((A-1).toNat*2) 2=some [uI M,uL N]/\Ix b M (¬(Aa b.p (M.toNat*2))=none/\∃O P,x.rowp b.p (M.toNat*2) 2=some [uS O,uL P]/\IR (A-1)/\Ix o (A-1) (¬(Aa o.p ((A-1).toNat*2))=none/\∃Q U,x.rowp o.p ((A-1).toNat*2) 2=some [uI Q,uL U]/\TT 146 #[uD a b c d g i j k,uA #[uL l,uL o],uA #[uL L,uI y],uL P,uL U] x λe J=>∃W X,e=rV (uA #[uL W,uI X])/\IR (z+1)/\w [uL W,uI X,uI (z+1)] J))))))))))) (R (rV (uA #[uL u,uI y])) V1)):TT 146 #[uD a b c d g i j k,uA #[uL l,uL o],uA #[uL p,uI q],uL r,uL s] V R:=EF Tryz.func146 [] [(2,[7])] false (by kernel_rfl) (by kernel_rfl) h
theorem x185{a:Option Addr}{b:Option Nat}{c:Bool}{d:Sl}{g:KB}{i:Option Addr}(h:Lp [uI 0,uI 0,uI 0] V λI n V1=>∀j k l,I n [uI j,uI k,uI l] V1->∀x:LMP,Nx I n x->Br (l<(d.n:Int)) (Ix d l (∃o p q r s,V1.rowp d.p (l.toNat*5) 5=some [uI o,uS p,uL q,uL r,uL s]/\¬i=none/\∃u,V1.rowp i ((0:Int).toNat*1) 1=some [uI u]/\¬i=none/\∃y,V1.rowp i ((0:Int).toNat*1) 1=some [uI y]/\IR (y+1)/\¬i=none/\An i 0 [uI (y+1)] V1 λV2=>TI 229 #[uA #[uP a,uM b,uB c],uA #[uI o,uS p,uL q,uL r,uL s],uS g] V2 λz m=>Br (z=0) (Ag [uL r,uL s] 74 m λA Z=>Lp [uI j,uI k,uI 0] Z λI n w=>∀B C D,I n [uI B,uI C,uI D] w->∀J:LMP,Nx I n J->Br (D<2) (¬(Aa A 0)=none/\0<=D/\D<2/\∃F,w.rowp (Aa A 0) (D.toNat*1) 1=some [uL F]/\TT 185 #[uA #[uP a,uM b,uB c],uL F,uS g,uP i] w λe N=>∃G H,e=rT #[uI G,uI H]/\Br (H=0) (IR (D+1)/\J [uI B,uI C,uI (D+1)] N) (R (rT #[uI G,uI H]) N)) (IR (l+1)/\x [uI B,uI C,uI (l+1)] w)) (R (rT #[uI u,uI z]) m))) (R (rT #[uI 0,uI 0]) V1)):TT 185 #[uA #[uP a,uM b,uB c],uL d,uS g,uP i] V R:=EF Tryz.func185 [44] [] false (by kernel_rfl) (by kernel_rfl) h
end
end Go.Proofs
namespace Go.Proofs
open Go Go.Sx
abbrev PP(f:FuncId)(args:List Value)(V:Mem)(v:Value):Prop:=Bf xG f args V v
def FJ(c:Int):Bool:=decide (97<=c/\c<=122∨65<=c/\c<=90)
def HV(c:Int):Bool:=decide (48<=c/\c<=57)
def FL(c:Int):Bool:=FJ c||HV c||decide (c=95)
theorem c198{V:Mem}{c:Int}:PP 198 [.int .u8 c] V (.bool (FJ c)):=by
 refine x198 ?_;unfold FJ;grind
theorem c243{V:Mem}{c:Int}:PP 243 [.int .u8 c] V (.bool (HV c)):=by
 refine x243 ?_;unfold HV;grind
theorem c199{V:Mem}{c:Int}:PP 199 [.int .u8 c] V (.bool (FL c)):=by
 refine x199 ?_;unfold FL;refine c198.call ⟨_,rfl,λh=>?_,λh=>?_⟩;·simp[h]
 ·refine c243.call ⟨_,rfl,λh=>?_,λh=>?_⟩<;>simp_all
def cls(c:Int):Int:=if c=32∨c=9∨c=13∨c=10 then 1 else if FJ c then 2 else if HV c then 3 else if c=95 then 4 else 0
theorem c156{V:Mem}{c:Int}:PP 156 [.int .u8 c] V (.int .i64 (cls c)):=by
 refine x156 ?_;have key:∀n:Int,cls c=n->(xI (.int .i64 n)=xI (.int .i64 (cls c))/\V=V):=λn h=>by simp_all
 unfold cls FJ HV at key
 repeat' (first|intro _|apply xJ)
 all_goals first|rfl|(refine(key _ ?_).1;grind)
theorem cls_two(c:Int):cls c=2↔FJ c=true:=by
 unfold cls FJ HV;grind
theorem cls_word(c:Int):cls c<2↔FL c=false:=by
 unfold FL cls FJ HV;grind
def IH:List KB:=[[116,121,112,101],[118,97,114],[112,114,111,99],[108,111,99,97,108],[109,101,97,115,117,114,101],[105,110,118,97,114,105,97,110,116],[112,111,116,101,110,116,105,97,108],[98,111,117,110,100],[105,102],[101,108,115,101],[119,104,105,108,101],[114,101,116,117,114,110],[110,101,119],[110,105,108],[116,114,117,101],[102,97,108,115,101],[97,110,100],[111,114],[110,111,116],[109,97,120],[109,105,110],[108,111,103],[105,110,116],[98,111,111,108],[116,104,105,115],[115,111,114,116],[111,112],[114,117,108,101],[115,112,101,99],[100,101,115,99],[115,99,114,105,112,116]].map Ac
def hasS(xs:List KB)(s:KB):Bool:=xs.any λx=>decide (x=s)
def isKw(s:KB):Bool:=hasS IH s
def BT(s:KB):Bool:=decide (s.size≠0/\s.size<=40/\FJ (Bq s 0)=true/\(∀i:Nat,i<s.size->FL (Bq s i)=true))&&!isKw s
theorem c244{V:Mem}{l:Sl}{xs:List KB}{s:KB}(h:Ad V l 1 (xs.map λx=>[vS x])):PP 244 [l.v,.string s] V (.bool (hasS xs s)):=by
 refine x244 ?_;refine AR xs.length (λi V1=>V1=V/\∀j:Nat,j<i->xs[j]?≠some s) ⟨rfl,by simp⟩ ?_;rintro i b _ J hi ⟨rfl,q⟩ w;refine⟨λk=>?_,λu=>?_⟩
 ·obtain⟨x,hm,o,p,y,n,m,g⟩:=h.get k;refine⟨n,m,k,_,g,λe=>?_,λe=>⟨h.succ k,w y _ _ ⟨rfl,λj r=>?_⟩⟩⟩
  ·have:hasS xs s=true:=List.any_eq_true.2 ⟨x,hm,decide_eq_true e⟩;rw[this];exact⟨rfl,rfl⟩
  grind
 ·have c:=(h.done u).2;have:s∉xs:=λhm=>by
   grind[ya,yr]
  have:hasS xs s=false:=by
   grind[hasS]
  simp_all
theorem c200{V:Mem}{s:KB}:PP 200 [.string s] V (.bool (isKw s)):=by
 refine Bf.mk (x200 ?_);refine x245 ?_;intro b k;refine⟨⟨some ⟨b,0,none⟩,31,31⟩,rfl,?_⟩;have h:∀V0:Mem,Ad (V0.set b (.cells ((IH.map yn).toArray) 9 (0,0))) ⟨some ⟨b,0,none⟩,31,31⟩ 1 (IH.map λx=>[vS x]):=
  λV0=>Ad.cells (xs:=IH) (row:=λx=>[vS x]) Az rfl (λ_=>rfl) rfl (xK rfl)
 refine(c244 (h _)).call ⟨_,rfl,rfl,Mem.sub_new k _⟩
theorem c139{V:Mem}{s:KB}:PP 139 [.string s] V (.bool (BT s)):=by
 refine x139 ?_;refine⟨λh=>?_,λh=>⟨λh1=>?_,λh1=>⟨by omega,c198.call ⟨_,rfl,λh2=>?_,λh2=>?_⟩⟩⟩⟩;·grind[BT]
 ·grind[BT]
 ·refine AR s.size (λi V1=>V1=V/\∀j:Nat,j<i->FL (Bq s j)=true) ⟨rfl,by simp⟩ ?_;rintro i b _ J hi ⟨rfl,g⟩ u;refine⟨λw=>⟨by omega,c199.call ⟨_,rfl,λhw=>⟨⟨by omega,by omega⟩,u (by omega) _ _ ⟨rfl,λj k=>?_⟩⟩,λhw=>?_⟩⟩,λy=>?_⟩;·grind
  ·grind[FL,Bq,BT]
  ·refine c200.call ⟨_,rfl,?_⟩;have a1:s.size≠0:=by omega
   have a2:s.size<=40:=by omega
   have a3:∀i:Nat,i<s.size->FL (Bq s i)=true:=λj k=>g j (by omega);have:BT s=!isKw s:=by unfold BT;rw[decide_eq_true ⟨a1,a2,h2,a3⟩];simp
   rw[this];exact⟨rfl,rfl⟩
 grind[FJ,Bq,BT]
end Go.Proofs
namespace Go.Proofs
open Go Go.Sx
attribute [local irreducible] Go.Sx.Tri
def Dm(s:KB):List Value:=[vS s]
def strV(s:KB):Value:=vS s
section
variable{α:Type}
def IdxP(f:FuncId)(row:α->List Value)(v:α->Value)(sz:Nat):Prop:=∀{V:Mem}{l:Sl}{xs:List α}{g:Nat}{first caps:List Value}(u:HU g)(St h:Nat->Mem->Prop)(k:∀i V1,St i V1->Ad V1 l sz (xs.map row))(w:St 0 V)
  (y:∀i x V1,xs[i]?=some x->St i V1->Tri xG g (first.toArray++#[v x]++caps.toArray) V1 λe V2=>∃b:Bool,e=.returned (.bool b)/\(b=true->h i V2)/\(b=false->St (i+1) V2)),
  Tri xG f #[l.v,.func (.func g) first.toArray caps.toArray] V λe V'=>(∃i:Nat,e=.returned (.int .i64 i)/\h i V')∨(e=.returned (.int .i64 (-1))/\St xs.length V')
def ConP(f:FuncId)(row:α->List Value)(v:α->Value)(sz:Nat):Prop:=∀{V:Mem}{l:Sl}{xs:List α}{g:Nat}{first caps:List Value}(u:HU g)(St h:Nat->Mem->Prop)(k:∀i V1,St i V1->Ad V1 l sz (xs.map row))(w:St 0 V)
  (y:∀i x V1,xs[i]?=some x->St i V1->Tri xG g (first.toArray++#[v x]++caps.toArray) V1 λe V2=>∃b:Bool,e=.returned (.bool b)/\(b=true->h i V2)/\(b=false->St (i+1) V2)),
  Tri xG f #[l.v,.func (.func g) first.toArray caps.toArray] V λe V'=>(∃i:Nat,e=.returned (.bool true)/\h i V')∨(e=.returned (.bool false)/\St xs.length V')
def ConC(f:FuncId)(row:α->List Value)(v:α->Value)(sz:Nat):Prop:=∀{V:Mem}{l:Sl}{xs:List α}{g:Nat}{first caps:List Value}(h:Ad V l sz (xs.map row))(k:HU g)(p:α->Bool) (u:∀x∈xs,PP g (first++[v x]++caps) V (.bool (p x))),PP f [l.v,.func (.func g) first.toArray caps.toArray] V (.bool (xs.any p))
variable{f fc:FuncId}{row:α->List Value}{v:α->Value}{sz:Nat}
theorem conG(h:IdxP f row v sz)(x:∀{l:Sl}{c:Value}{V:Mem}{R:RP},(TT f #[uL l,K.cast .f c] V λe V1=>∃y,e=rV (uI y)/\R (rV (uB (decide (0<=y)))) V1)->TT fc #[uL l,K.cast .f c] V R):ConP fc row v sz:=by
 intro V l xs g first u j St w k n m
 refine x (c:=.func (.func g) first.toArray u.toArray) (Tri.mono (h j St w k n m) ?_);rintro e V' (⟨i,rfl,h⟩|⟨rfl,h⟩)
 ·refine⟨_,rfl,.inl ⟨i,?_,h⟩⟩;rfl
 simp_all
theorem conC(H:ConP fc row v sz):ConC fc row v sz:=by
 intro V l xs g first n h r p o
 refine Tri.mono (H r (λi V1=>V1=V/\∀j x,j<i->xs[j]?=some x->p x=false) (λi V1=>V1=V/\∃x∈xs,p x=true) (λi V1 k=>k.1▸h) ⟨rfl,λj x u=>absurd u (Nat.not_lt_zero _)⟩ ?_) ?_
 ·rintro i x _ w ⟨rfl,k⟩;have hm:x∈xs:=List.mem_of_getElem? w;have:=(o x hm).callv (q:=λe V2=>∃b:Bool,e=.returned (.bool b)/\(b=true->V2=_/\∃x∈xs,p x=true)/\(b=false->V2=_/\∀j x,j<i+1->xs[j]?=some x->p x=false)) ⟨_,rfl,λm=>⟨rfl,x,hm,m⟩,λm=>⟨rfl,λj y u c=>by
   grind⟩⟩
  exact this
 ·rintro e V' (⟨i,rfl,rfl,x,hm,w⟩|⟨rfl,rfl,k⟩);·grind
  ·have:xs.any p=false:=List.any_eq_false.2 λx hm w=>by
    obtain⟨j,u,rfl⟩:=ya.1 hm;simp_all
   simp_all
end
theorem Oh:IdxP 79 Fld.row Fld.v 2:=by
 intro V l xs g first w q St o k p c
 refine Qi (a:=l) (b:=.func (.func g) first.toArray w.toArray) ?_;refine AR xs.length St p ?_;intro i b V1 J hi r d;have h:=k i V1 r;refine⟨λu=>?_,λj=>?_⟩
 ·obtain⟨x,hm,s,N,H,n,G,y⟩:=h.get u;refine⟨n,G,u,_,_,y,g,_,_,rfl,q,Tri.mono (c i x V1 s r) ?_⟩;rintro e V2 ⟨b,rfl,h1,h2⟩;exact⟨b,rfl,λm=>.inl ⟨i,rfl,h1 m⟩,λm=>⟨h.succ u,d H _ _ (h2 (by simpa using m))⟩⟩
 ·have e:i=xs.length:=by have:=(h.done j).2;omega
  simp_all
theorem QJ:ConP 46 Fld.row Fld.v 2:=conG Oh PN
theorem JB:ConC 46 Fld.row Fld.v 2:=conC QJ
theorem g258:IdxP 258 Iv.row Iv.v 6:=by
 intro V l xs g first w q St o k p c
 refine x258 (a:=l) (b:=.func (.func g) first.toArray w.toArray) ?_;refine AR xs.length St p ?_;intro i b V1 J hi r d;have h:=k i V1 r;refine⟨λu=>?_,λj=>?_⟩
 ·obtain⟨x,hm,s,N,H,n,G,y⟩:=h.get u;refine⟨n,G,u,_,_,_,_,_,_,y,g,_,_,rfl,q,Tri.mono (c i x V1 s r) ?_⟩;rintro e V2 ⟨b,rfl,h1,h2⟩;exact⟨b,rfl,λm=>.inl ⟨i,rfl,h1 m⟩,λm=>⟨h.succ u,d H _ _ (h2 (by simpa using m))⟩⟩
 ·have e:i=xs.length:=by have:=(h.done j).2;omega
  simp_all
theorem g225:ConP 225 Iv.row Iv.v 6:=conG g258 x225
theorem c225:ConC 225 Iv.row Iv.v 6:=conC g225
theorem g164:IdxP 164 Ty.row Ty.v 2:=by
 intro V l xs g first w q St o k p c
 refine x164 (a:=l) (b:=.func (.func g) first.toArray w.toArray) ?_;refine AR xs.length St p ?_;intro i b V1 J hi r d;have h:=k i V1 r;refine⟨λu=>?_,λj=>?_⟩
 ·obtain⟨x,hm,s,N,H,n,G,y⟩:=h.get u;refine⟨n,G,u,_,_,y,g,_,_,rfl,q,Tri.mono (c i x V1 s r) ?_⟩;rintro e V2 ⟨b,rfl,h1,h2⟩;exact⟨b,rfl,λm=>.inl ⟨i,rfl,h1 m⟩,λm=>⟨h.succ u,d H _ _ (h2 (by simpa using m))⟩⟩
 ·have e:i=xs.length:=by have:=(h.done j).2;omega
  simp_all
theorem g111:ConP 111 Ty.row Ty.v 2:=conG g164 x111
theorem c111:ConC 111 Ty.row Ty.v 2:=conC g111
theorem Oi:IdxP 26 Pr.row Pr.v 5:=by
 intro V l xs g first w q St o k p c
 refine Pz (a:=l) (b:=.func (.func g) first.toArray w.toArray) ?_;refine AR xs.length St p ?_;intro i b V1 J hi r d;have h:=k i V1 r;refine⟨λu=>?_,λj=>?_⟩
 ·obtain⟨x,hm,s,N,H,n,G,y⟩:=h.get u;refine⟨n,G,u,_,_,_,_,_,y,g,_,_,rfl,q,Tri.mono (c i x V1 s r) ?_⟩;rintro e V2 ⟨b,rfl,h1,h2⟩;exact⟨b,rfl,λm=>.inl ⟨i,rfl,h1 m⟩,λm=>⟨h.succ u,d H _ _ (h2 (by simpa using m))⟩⟩
 ·have e:i=xs.length:=by have:=(h.done j).2;omega
  simp_all
theorem QK:ConP 99 Pr.row Pr.v 5:=conG Oi QA
theorem Oj:ConC 99 Pr.row Pr.v 5:=conC QK
theorem g213:IdxP 213 Bd.row Bd.v 5:=by
 intro V l xs g first w q St o k p c
 refine x213 (a:=l) (b:=.func (.func g) first.toArray w.toArray) ?_;refine AR xs.length St p ?_;intro i b V1 J hi r d;have h:=k i V1 r;refine⟨λu=>?_,λj=>?_⟩
 ·obtain⟨x,hm,s,N,H,n,G,y⟩:=h.get u;refine⟨n,G,u,_,_,_,_,_,y,g,_,_,rfl,q,Tri.mono (c i x V1 s r) ?_⟩;rintro e V2 ⟨b,rfl,h1,h2⟩;exact⟨b,rfl,λm=>.inl ⟨i,rfl,h1 m⟩,λm=>⟨h.succ u,d H _ _ (h2 (by simpa using m))⟩⟩
 ·have e:i=xs.length:=by have:=(h.done j).2;omega
  simp_all
theorem g162:ConP 162 Bd.row Bd.v 5:=conG g213 x162
theorem c162:ConC 162 Bd.row Bd.v 5:=conC g162
theorem g256:IdxP 256 E.row E.v 4:=by
 intro V l xs g first w q St o k p c
 refine x256 (a:=l) (b:=.func (.func g) first.toArray w.toArray) ?_;refine AR xs.length St p ?_;intro i b V1 J hi r d;have h:=k i V1 r;refine⟨λu=>?_,λj=>?_⟩
 ·obtain⟨x,hm,s,N,H,n,G,y⟩:=h.get u;refine⟨n,G,u,_,_,_,_,y,g,_,_,rfl,q,Tri.mono (c i x V1 s r) ?_⟩;rintro e V2 ⟨b,rfl,h1,h2⟩;exact⟨b,rfl,λm=>.inl ⟨i,rfl,h1 m⟩,λm=>⟨h.succ u,d H _ _ (h2 (by simpa using m))⟩⟩
 ·have e:i=xs.length:=by have:=(h.done j).2;omega
  simp_all
theorem g216:ConP 216 E.row E.v 4:=conG g256 x216
theorem c216:ConC 216 E.row E.v 4:=conC g216
theorem g257:IdxP 257 Ms.row Ms.v 7:=by
 intro V l xs g first w q St o k p c
 refine x257 (a:=l) (b:=.func (.func g) first.toArray w.toArray) ?_;refine AR xs.length St p ?_;intro i b V1 J hi r d;have h:=k i V1 r;refine⟨λu=>?_,λj=>?_⟩
 ·obtain⟨x,hm,s,N,H,n,G,y⟩:=h.get u;refine⟨n,G,u,_,_,_,_,_,_,_,y,g,_,_,rfl,q,Tri.mono (c i x V1 s r) ?_⟩;rintro e V2 ⟨b,rfl,h1,h2⟩;exact⟨b,rfl,λm=>.inl ⟨i,rfl,h1 m⟩,λm=>⟨h.succ u,d H _ _ (h2 (by simpa using m))⟩⟩
 ·have e:i=xs.length:=by have:=(h.done j).2;omega
  simp_all
theorem g223:ConP 223 Ms.row Ms.v 7:=conG g257 x223
theorem c223:ConC 223 Ms.row Ms.v 7:=conC g223
theorem g314:IdxP 314 Dm strV 1:=by
 intro V l xs g first w q St o k p c
 refine x314 (a:=l) (b:=.func (.func g) first.toArray w.toArray) ?_;refine AR xs.length St p ?_;intro i b V1 J hi r d;have h:=k i V1 r;refine⟨λu=>?_,λj=>?_⟩
 ·obtain⟨x,hm,s,N,H,n,G,y⟩:=h.get u;refine⟨n,G,u,_,y,g,_,_,rfl,q,Tri.mono (c i x V1 s r) ?_⟩;rintro e V2 ⟨b,rfl,h1,h2⟩;exact⟨b,rfl,λm=>.inl ⟨i,rfl,h1 m⟩,λm=>⟨h.succ u,d H _ _ (h2 (by simpa using m))⟩⟩
 ·have e:i=xs.length:=by have:=(h.done j).2;omega
  simp_all
theorem g291:ConP 291 Dm strV 1:=conG g314 x291
theorem c291:ConC 291 Dm strV 1:=conC g291
end Go.Proofs
namespace Go.Proofs
open Go.Shelf
def Tryz.lays157_ren:Go.Shelf.Ren:=⟨λ|157=>252|229=>286|199=>287|261=>312|311=>325|312=>326|n=>n,λ|9=>9|31=>194|3=>3|5=>5|4=>4|119=>379|0=>0|40=>381|152=>398|21=>21|154=>400|51=>401|141=>403|196=>415|193=>412|198=>418|49=>416|194=>413|201=>421|226=>425|46=>344|227=>426|n=>n,λ|0=>0|6=>1|n=>n⟩
theorem Tryz.lays157:Go.Proofs.Lays.n157 xG Tryz.lays157_ren:={
 mixed:=by kernel_rfl
 f157:=Tryz.func252.trans (congrArg some (by kernel_rfl))
 f199:=Tryz.func287.trans (congrArg some (by kernel_rfl))
 f229:=Tryz.func286.trans (congrArg some (by kernel_rfl))
 f261:=Tryz.func312.trans (congrArg some (by kernel_rfl))
 f311:=Tryz.func325.trans (congrArg some (by kernel_rfl))
 f312:=Tryz.func326.trans (congrArg some (by kernel_rfl))
 t0:=Tryz.underlying0
 a0:=Tryz.isAgg0
 z0:=Tryz.sizeOf0
 v0:=Tryz.zeroValue0
 t3:=Tryz.underlying3
 a3:=Tryz.isAgg3
 z3:=Tryz.sizeOf3
 v3:=Tryz.zeroValue3
 t4:=Tryz.underlying4
 a4:=Tryz.isAgg4
 z4:=Tryz.sizeOf4
 v4:=Tryz.zeroValue4
 t5:=Tryz.underlying5
 a5:=Tryz.isAgg5
 z5:=Tryz.sizeOf5
 v5:=Tryz.zeroValue5
 t9:=Tryz.underlying9
 a9:=Tryz.isAgg9
 z9:=Tryz.sizeOf9
 v9:=Tryz.zeroValue9
 t21:=Tryz.underlying21
 a21:=Tryz.isAgg21
 z21:=Tryz.sizeOf21
 v21:=Tryz.zeroValue21
 t31:=Tryz.underlying194
 a31:=Tryz.isAgg194
 z31:=Tryz.sizeOf194
 v31:=Tryz.zeroValue194
 t40:=Tryz.underlying381
 a40:=Tryz.isAgg381
 z40:=Tryz.sizeOf381
 v40:=Tryz.zeroValue381
 t46:=Tryz.underlying344
 a46:=Tryz.isAgg344
 z46:=Tryz.sizeOf344
 v46:=Tryz.zeroValue344
 t49:=Tryz.underlying416
 a49:=Tryz.isAgg416
 z49:=Tryz.sizeOf416
 v49:=Tryz.zeroValue416
 t51:=Tryz.underlying401
 a51:=Tryz.isAgg401
 z51:=Tryz.sizeOf401
 v51:=Tryz.zeroValue401
 t119:=Tryz.underlying379
 a119:=Tryz.isAgg379
 z119:=Tryz.sizeOf379
 t141:=Tryz.underlying403
 a141:=Tryz.isAgg403
 z141:=Tryz.sizeOf403
 v141:=Tryz.zeroValue403
 t152:=Tryz.underlying398
 a152:=Tryz.isAgg398
 z152:=Tryz.sizeOf398
 v152:=Tryz.zeroValue398
 t154:=Tryz.underlying400
 a154:=Tryz.isAgg400
 z154:=Tryz.sizeOf400
 v154:=Tryz.zeroValue400
 t193:=Tryz.underlying412
 a193:=Tryz.isAgg412
 z193:=Tryz.sizeOf412
 v193:=Tryz.zeroValue412
 t194:=Tryz.underlying413
 a194:=Tryz.isAgg413
 z194:=Tryz.sizeOf413
 v194:=Tryz.zeroValue413
 t196:=Tryz.underlying415
 a196:=Tryz.isAgg415
 z196:=Tryz.sizeOf415
 v196:=Tryz.zeroValue415
 t198:=Tryz.underlying418
 a198:=Tryz.isAgg418
 z198:=Tryz.sizeOf418
 v198:=Tryz.zeroValue418
 t201:=Tryz.underlying421
 a201:=Tryz.isAgg421
 z201:=Tryz.sizeOf421
 v201:=Tryz.zeroValue421
 t226:=Tryz.underlying425
 a226:=Tryz.isAgg425
 z226:=Tryz.sizeOf425
 v226:=Tryz.zeroValue425
 t227:=Tryz.underlying426
 a227:=Tryz.isAgg426
 z227:=Tryz.sizeOf426
 v227:=Tryz.zeroValue426
 g0:=by kernel_rfl
 g6:=by kernel_rfl}
open Go.RowKit Go.Lib in
theorem Tryz.strings_Fields(s:KB)(w:World)(g:s.size<4294967281)(h:∀(j:Nat) b,s.data.toList[j]?=some b->b.toNat<128)(k:xL xG w "strings.asciiSpace" .u8 xM):
  Calls xG 252 #[.string s] w λe w'=>
   e=.returned (.slice (some ⟨w.heap.size,0,none⟩) (xN s.data.toList).length (xN s.data.toList).length)/\w'=w.alloc (.cells ((xN s.data.toList).map λl=>yn ⟨l.toArray⟩).toArray 9):=Any.strings_Fields Tryz.lays157 (by kernel_rfl) (by kernel_rfl) s w g h k
end Go.Proofs
namespace Go.Proofs
open Go Go.Sx
attribute [local irreducible] Go.Sx.Tri
class Tab (V:Mem):Prop where
 at_:∃t fr,V 0=some (.cells (xM.map λz=>Value.int .u8 z).toArray t fr)
theorem Tab.sub{V V':Mem}(h:Tab V)(k:V.sub V'):Tab V':=by
 obtain⟨t,fr,h⟩:=h.at_;exact⟨t,fr,k _ _ h⟩
theorem Tab.is{V:Mem}{w:World}(h:Tab V)(k:V.le w):xL xG w "strings.asciiSpace" .u8 xM:=by
 obtain⟨t,fr,h⟩:=h.at_;have g:xG.globalNamed "strings.asciiSpace" =some 0:=by kernel_rfl
 unfold xL World.var?;rw[g,Option.bind_some,k _ _ h]
theorem frm_new{V:Mem}{w:World}(hw:V.le w)(o:Obj):V w.heap.size=none/\Aw V w (V.set w.heap.size o) (w.alloc o):=by
 have g:V w.heap.size=none:=by
  cases u:V w.heap.size with
  |none=>rfl
  |some o=>have:=(yB.1 (hw _ o u)).1;omega
 refine⟨g,by simp,λb o h=>?_,λb h _=>xO _ _ _ h,λb h=>?_,rfl,rfl⟩
 ·by_cases e:b=w.heap.size;·grind[Mem.set_same,World.alloc_heap_new]
  ·rw[Mem.set_ne e]at h;have k:=(yB.1 (hw b o h)).1;exact(xO _ _ _ k).trans (hw b o h)
 grind[inr,Mem.set_ne]
def kwText:KB:=Ac [97,110,100,32,98,111,111,108,32,98,111,117,110,100,32,100,101,115,99,32,101,108,115,101,32,102,97,108,115,101,32,105,102,32,105,110,116,32,105,110,118,97,114,105,97,110,116,32,108,111,99,97,108,32,108,111,103,32,109,97,120,32,109,101,97,115,117,114,101,32,109,105,110,32,110,101,119,32,110,105,108,32,110,111,116,32,111,112,32,111,114,32,112,111,116,101,110,116,105,97,108,32,112,114,111,99,32,114,101,116,117,114,110,32,114,117,108,101,32,115,99,114,105,112,116,32,115,111,114,116,32,115,112,101,99,32,116,104,105,115,32,116,114,117,101,32,116,121,112,101,32,118,97,114,32,119,104,105,108,101]
def FM:List KB:=(xN kwText.data.toList).map λl=>⟨l.toArray⟩
theorem kwText_size:kwText.size=160:=by kernel_rfl
theorem Ol:FM.length=31:=by kernel_rfl
theorem c211{V:Mem}(k:Tab V):Tri xG 211 #[] V λe V'=>∃b,V b=none/\e=.returned (.slice (sa b) 31 31)/\V'=V.set b (.cells (FM.map yn).toArray 9 (0,0)):=by
 refine x211 ?_;refine Tri.mono (R:=λe V'=>∃b,V b=none/\e=.returned (.slice (sa b) 31 31)/\V'=V.set b (.cells (FM.map yn).toArray 9 (0,0))) ?_ ?_
 ·unfold Tri;intro w hw;refine GO (Tryz.strings_Fields kwText w (by rw[kwText_size];decide) ?_ (k.is hw)) ?_
  ·have h:(kwText.data.toList.all λb=>decide (b.toNat<128))=true:=by kernel_rfl
   grind
  ·rintro e w' ⟨rfl,rfl⟩;obtain⟨g,u⟩:=frm_new hw (.cells (FM.map yn).toArray 9);refine⟨_,⟨w.heap.size,g,?_,rfl⟩,?_⟩;·rfl
   ·have e:((xN kwText.data.toList).map λl=>yn ⟨l.toArray⟩)=FM.map yn:=by
     rfl
    rw[e];exact u
 ·rintro e V' ⟨b,y,rfl,rfl⟩;exact⟨⟨some ⟨b,0,none⟩,31,31⟩,rfl,b,y,rfl,rfl⟩
theorem c285{V:Mem}{s:KB}:PP 285 [.string s] V (.bool false):=by
 refine x285 ?_;simp
theorem c251{V:Mem}{s:KB}:PP 251 [.string s] V (.bool false):=by
 refine x251 ?_;simp
def Gb(s t:KB):Bool:=xP s.toList t.toList
theorem c250{V:Mem}{s t:KB}:PP 250 [.string s,.string t] V (.bool (Gb s t)):=by
 refine x250 ?_;refine c285.call ⟨_,rfl,λh=>?_,λ_=>⟨rfl,rfl⟩⟩;cases h
theorem bl_trans:∀{a b c:List UInt8},xP a b=true->xP b c=true->xP a c=true
 |_,[],_,h,_=>by simp[xP]at h
 |_,_::_,[],_,k=>by simp[xP]at k
 |[],_::_,_::_,_,_=>rfl
 |a::x,b::y,c::z,h,k=>by
  simp only[xP,Bool.or_eq_true,decide_eq_true_eq,zC,beq_iff_eq]at h k⊢;rcases h with h|⟨rfl,h⟩;·grind
  ·rcases k with k|⟨rfl,k⟩;·exact .inl k
   ·exact .inr ⟨rfl,bl_trans h k⟩
theorem Mf{a b c:KB}(h:Gb a b=true)(k:Gb b c=true):Gb a c=true:=bl_trans h k
theorem bl_irrefl:∀l:List UInt8,xP l l=false
 |[]=>rfl
 |a::l=>by
  have h1:¬(a<a):=by simp_all
  simp[xP,bl_irrefl l,h1]
theorem ltB_irrefl(a:KB):Gb a a=false:=bl_irrefl _
def Ky:List KB->Bool
 |a::b::l=>Gb a b&&Ky (b::l)
 |_=>true
theorem JC:∀{l:List KB},Ky l=true->∀(i j:Nat)(x y:KB),i<j->l[i]?=some x->l[j]?=some y->Gb x y=true
 |[],_,i,j,x,y,_,k,_=>by simp at k
 |[a],_,i,j,x,y,u,k,g=>by
  grind
 |a::b::l,h,i,j,x,y,u,k,g=>by
  simp only[Ky,zC]at h;cases j with
  |zero=>omega
  |succ j=>
   rw[xQ]at g;cases i with
   |succ i=>rw[xQ]at k;exact JC h.2 i j x y (by omega) k g
   |zero=>
    simp only[List.getElem?_cons_zero,Option.some.injEq]at k;subst k;cases j with
    |zero=>simp_all
    |succ j=>exact Mf h.1 (JC h.2 0 (j+1) b y (by omega) rfl g)
theorem GenK.shr1{V:Mem}{vals:Operand->Value}{t ty:TypeId}{n:Int}(hv:vals (.tmp 19)=.int .u64 n)(h:vals (.const (.int .u64 1))=.int .u64 1){q:Value->Mem->Prop}(k:q (.int .u64 (n/2)) V):
  GenK xG (.binOp .shr t (.tmp 19) (.const (.int .u64 1)) t) ty vals V q:=by
 intro w hw;refine⟨_,w,V,?_,Aw.refl hw,k⟩;have e:Op.shift .shr .u64 n .u64 1=pure (.int .u64 (n/2)):=by
  unfold Op.shift;rw[if_neg (by decide)];show pure (Value.int .u64 (n.fdiv (2^1)))=_;grind
 simp_all[execOp,eqGuard,binOp_shr]
theorem Mg{xs:List KB}{s:KB}:hasS xs s=true↔s∈xs:=by
 grind[hasS]
def kwIx(s:KB):Bool:=hasS FM s
theorem kwIx_eq(s:KB):kwIx s=isKw s:=by
 have h1:(FM.all λx=>IH.any λy=>decide (y=x))=true:=by kernel_rfl
 have h2:(IH.all λx=>FM.any λy=>decide (y=x))=true:=by kernel_rfl
 unfold kwIx isKw;rw[Bool.eq_iff_iff,Mg,Mg];grind
theorem c210{V:Mem}{l:Sl}{xs:List KB}{s:KB}(h:Ad V l 1 (xs.map λx=>[vS x]))(d:Ky xs=true)(Y:xs.length<=1000):
  Tri xG 210 #[l.v,.string s] V λe V'=>∃n:Int,e=.returned (.tuple #[.int .i64 n,.bool (hasS xs s)])/\V'=V:=by
 refine x210 ?_;have P:=h.n_eq;have B:=h.cap;have C:=h.fit;refine⟨λn O V1=>∃i j:Nat,O=[.int .i64 i,.int .i64 j]/\V1=V/\i<=j/\j<=xs.length/\n=j-i/\(∀(k:Nat) x,k<i->xs[k]?=some x->Gb x s=true)/\(∀(k:Nat) x,j<=k->xs[k]?=some x->Gb x s=false),xs.length,
  ⟨0,xs.length,by rw[P];rfl,rfl,by omega,by omega,by omega,λk x p=>by omega,λk x p c=>by simp_all⟩,?_⟩
 rintro n V1 D E ⟨i,j,m,rfl,A,I,rfl,H,G⟩ J W;simp only[List.cons.injEq,Value.int.injEq,true_and,and_true]at m;obtain⟨rfl,rfl⟩:=m;refine⟨λu=>?_,λM=>?_⟩
 ·refine⟨⟨by omega,by omega⟩,⟨by show(0:Int)<=_;omega,by show _<=(18446744073709551615:Int);omega⟩,?_⟩;refine GenK.shr1 (n:=(i:Int)+j) rfl rfl ⟨_,rfl,⟨by omega,by omega⟩,?_⟩;have hm:((i:Int)+j)/2=((i+j)/2:Nat):=by omega
  rw[hm];obtain⟨x,r,c,F,L,b,a,g⟩:=h.get (i:=(i+j)/2) (by omega);refine⟨b,a,by omega,x,g,c250.call ⟨_,rfl,λq=>⟨⟨by omega,by omega⟩,?_⟩,λq=>?_⟩⟩
  ·refine W (j-((i+j)/2+1)) _ _ (by omega) ⟨(i+j)/2+1,j,rfl,rfl,by omega,I,rfl,λk y p m=>?_,G⟩;rcases Nat.lt_or_ge k ((i+j)/2)with w|w;·exact Mf (JC d k _ y x w m c) q
   grind
  ·refine W ((i+j)/2-i) _ _ (by omega) ⟨i,(i+j)/2,rfl,rfl,by omega,by omega,rfl,H,λk y p m=>?_⟩;cases X:Gb y s with
   |false=>rfl
   |true=>
    rcases Nat.lt_or_ge ((i+j)/2) k with w|w;·exact absurd (Mf (JC d _ k x y w c m) X) q
    grind
 ·have o:i=j:=by omega
  subst o;have key:s∈xs->xs[i]?=some s:=λhm=>by
   obtain⟨k,p,e⟩:=ya.1 hm;have N:xs[k]?=some s:=by simp_all
   rcases Nat.lt_trichotomy k i with w|w|w;·grind[ltB_irrefl]
   ·grind
   ·have Z:i<xs.length:=by omega
    have h2:=JC d i k xs[i] s w (yr Z) N;grind
  refine⟨λu=>?_,λQ=>?_⟩
  ·obtain⟨x,r,c,F,L,b,a,g⟩:=h.get (i:=i) u;refine⟨b,a,u,x,g,λe=>?_,λe=>⟨b,a,u,x,g,c251.call ⟨_,rfl,λq=>?_,λ_=>?_⟩⟩⟩
   ·subst e;exact⟨i,by rw[Mg.2 r],rfl⟩
   ·cases q
   ·refine⟨i,?_,rfl⟩;grind[hasS,absurd]
  ·refine⟨i,?_,rfl⟩;grind[hasS]
theorem c157{V:Mem}{s:KB}(k:Tab V):PP 157 [.string s] V (.bool (isKw s)):=by
 refine Bf.mk ?_;refine x157 ?_;refine Tri.mono (c211 k) ?_;rintro _ V' ⟨b,g,rfl,rfl⟩;refine⟨⟨some ⟨b,0,none⟩,31,31⟩,rfl,?_⟩;have h:Ad (V.set b (.cells ((FM.map yn).toArray) 9 (0,0))) ⟨some ⟨b,0,none⟩,31,31⟩ 1 (FM.map λx=>[vS x]):=
  Ad.cells (xs:=FM) (row:=λx=>[vS x]) Az (by simp;rfl) (λ_=>rfl) Ol.symm (xK rfl)
 refine Tri.mono (c210 h (by kernel_rfl) (by rw[Ol];decide)) ?_;rintro _ V2 ⟨n,rfl,rfl⟩;exact⟨n,_,rfl,by rw[<-kwIx_eq];rfl,Mem.sub_new g _⟩
theorem c108{V:Mem}[Tab V]{s:KB}:PP 108 [.string s] V (.bool (BT s)):=by
 refine x108 ?_;refine⟨λh=>?_,λh=>⟨λh1=>?_,λh1=>?_⟩⟩;·subst h;exact⟨rfl,rfl⟩
 ·grind[BT]
 ·have n:s.size≠0:=λe=>h (by
   have:s.data=#[]:=Array.eq_empty_of_size_eq_zero e;cases s;simp only at this;subst this;rfl)
  refine⟨by omega,c156.call ⟨_,rfl,λh2=>?_,λh2=>?_⟩⟩
  ·refine(c157 inferInstance).call ⟨_,rfl,λg=>?_,λg=>?_⟩;·simp[BT,g]
   ·refine AR s.size (λi V1=>V1=V/\∀j:Nat,j<i->FL (Bq s j)=true) ⟨rfl,by simp⟩ ?_;rintro i b _ J hi ⟨rfl,u⟩ w;refine⟨λy=>⟨by omega,c156.call ⟨_,rfl,λhw=>?_,λhw=>⟨⟨by omega,by omega⟩,w (by omega) _ _ ⟨rfl,λj k=>?_⟩⟩⟩⟩,λx=>?_⟩
    ·rw[cls_word]at hw;grind[FL,Bq,BT]
    ·rcases Nat.lt_succ_iff_lt_or_eq.1 k with l|rfl;·exact u j l
     simp_all[cls_word]
    grind[Nat,FL,Bq,BT,isKw,decide_eq_true,cls_two]
  grind[cls_two,FJ,Bq,BT]
/-! Nodes. -/
def BO(op:Int):Int:=if(1<=op/\op<=4)∨op=6 then 0 else if op=5∨op=8∨op=18∨op=24 then 1 else if op=7 then -1 else if op=21 then 3 else if 9<=op/\op<=23 then 2 else -2
theorem c303{V:Mem}{op:Int}:PP 303 [.int .i64 op] V (.int .i64 (BO op)):=by
 refine x303 ?_;have key:∀n:Int,BO op=n->xI (.int .i64 n)=xI (.int .i64 (BO op)):=λn h=>by rw[h]
 unfold BO at key
 repeat' (first|intro _|apply xJ)
 all_goals first|rfl|(refine key _ ?_;grind)
theorem c253{V:Mem}{op:Int}:PP 253 [.int .i64 op] V (.tuple #[.int .i64 (if BO op=-2 then 2 else BO op),.bool (decide (BO op≠-2))]):=by
 refine x253 ?_;have key:∀(n:Int)(b:Bool),(if BO op=-2 then 2 else BO op)=n->decide (BO op≠-2)=b->xI (.tuple #[.int .i64 n,.bool b])=xI (.tuple #[.int .i64 (if BO op=-2 then 2 else BO op),.bool (decide (BO op≠-2))]):=λn b h k=>by rw[h,k]
 unfold BO at key
 repeat' (first|intro _|apply xJ)
 all_goals first|rfl|(refine key _ _ ?_ ?_<;>grind)
def sThis:KB:=Ac [116,104,105,115]
def Fp(op:Int)(s:KB):Bool:=if op=4 then decide (s=sThis)||BT s else if op=5∨op=6∨op=7 then BT s else decide (s=Ac [])
def numB(op n:Int):Bool:=if op=1 then decide (0<=n/\n<=1099511627776)else if op=2 then decide (n=0∨n=1)else decide (n=0)
def DB(op n:Int)(s:KB)(len:Int):Bool:=decide (BO op≠-2/\(0<=BO op->len=BO op)/\(BO op=-1->len<=6))&&Fp op s&&numB op n
theorem c304{V:Mem}{e:E}:PP 304 [e.v] V (.bool (Fp e.op e.s)):=by
 refine x304 ?_;have key:∀b:Bool,Fp e.op e.s=b->xI (.bool b)=xI (.bool (Fp e.op e.s)):=λn h=>by rw[h]
 unfold Fp sThis at key
 repeat' (first|refine c139.call ⟨_,rfl,?_⟩|intro _|apply xJ)
 all_goals first|rfl|(refine key _ ?_;grind)
theorem c254{V:Mem}[Tab V]{e:E}:PP 254 [e.v] V (.bool (Fp e.op e.s&&numB e.op e.n)):=by
 refine x254 ?_;have key:∀b:Bool,(Fp e.op e.s&&numB e.op e.n)=b->xI (.bool b)=xI (.bool (Fp e.op e.s&&numB e.op e.n)):=λn h=>by rw[h]
 unfold Fp numB sThis at key
 repeat' (first|refine c108.call ⟨_,rfl,?_⟩|intro _|apply xJ)
 all_goals first|rfl|(refine key _ ?_;grind)
theorem c278{V:Mem}{e:E}{len:Int}(k:(e.l.n:Int)=len):PP 278 [e.v] V (.bool (DB e.op e.n e.s len)):=by
 refine x278 ?_;rw[k];have key:∀b:Bool,DB e.op e.n e.s len=b->xI (.bool b)=xI (.bool (DB e.op e.n e.s len)):=λn h=>by rw[h]
 unfold DB numB at key;refine c303.call ⟨_,rfl,?_⟩
 repeat' (first|refine(c304 (e:=e)).call ⟨_,rfl,?_⟩|intro _|apply xJ)
 all_goals first|rfl|(refine key _ ?_;grind)
end Go.Proofs
