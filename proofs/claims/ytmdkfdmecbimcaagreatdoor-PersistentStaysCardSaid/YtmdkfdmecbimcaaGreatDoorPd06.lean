/- Part 6: no statement of the seat is proved here. -/
import Derived.Test.YtmdkfdmecbimcaaGreatDoorPd04
import Derived.Test.YtmdkfdmecbimcaaGreatDoorPd05
import Derived.Shelf.Strings.Fields
import Derived.Sort.Walk0
import Derived.RangeFuncRecord
set_option linter.unusedVariables false
set_option linter.unusedSimpArgs false
open Go.Proofs.Tryz renaming prog->xS
open Go.IntKind renaming wrap->xT
open Go.Op renaming bytesLess->xU
open Go.Ending renaming returned->xV
open List renaming mem_iff_getElem->xE,getElem?_eq_getElem->yi,getElem?_cons_succ->xy
open Go.Value renaming string->ye
open Nat renaming le_of_ble_eq_true->xW
open Go.Lib renaming TabIs->xX,asciiSpaceTab->xY,fields->xZ
open Array renaming getElem?_eq_some_iff->yE
open Go.RowKit.Below renaming heap_alloc->xz
open Bool renaming and_eq_true->zC
namespace Go.Proofs
open Go Go.Sx
set_option maxRecDepth 100000
section
variable{V:Mem}{R:RP}
abbrev w215_0(p:Sl)(V1:Mem)(R:RP):Prop:=¬p.p=none/\(0:Int)<=(0:Int)/\0<(p.n:Int)/\∃r,V1.rowp p.p ((0:Int).toNat*1) 1=some [uS r]/\Br (r=(Ad [98,111,111,108])) (R (rV (uI 0)) V1) (R (rV (uI 11)) V1)
theorem x215{a:Option Addr}{b:Option Nat}{c:Bool}{d:Int}{g:KB}{i j k:Sl}{l:KB}(h:Br (d=6) (¬i.p=none/\(0:Int)<=(0:Int)/\0<(i.n:Int)/\∃o p q r,V.rowp i.p ((0:Int).toNat*4) 4=some [uI o,uI p,uS q,uL r]/\TT 256 #[uA #[uP a,uM b,uB c],uA #[uI o,uI p,uS q,uL r]] V λe V1=>∃s u,e=rT #[uS s,uI u]/\R (rV (uI u)) V1) (Lp [uI 0,z0,uI 0] V λI n V1=>∀o p q,I n [uI o,uL p,uI q] V1->∀m:LMP,Nx I n m->Br (q<(i.n:Int)) (Ix i q (∃r s u y,V1.rowp i.p (q.toNat*4) 4=some [uI r,uI s,uS u,uL y]/\TT 216 #[uA #[uP a,uM b,uB c],uA #[uI r,uI s,uS u,uL y]] V1 λe V2=>∃z A,e=rT #[uS z,uI A]/\Br (A=0) (Ag [uS z] 9 V2 λB w=>Ap 48 50 159 (uL p) (.slice (Aa B 0) 1 1) w λC H=>IR (q+1)/\m [uI o,uL C,uI (q+1)] H) (R (rV (uI A)) V2))) (Br (d=1) (Cd xS 276 (uM b) (uS g) true V1 λx=>∃r s,x=.tuple #[uS r,uB s]/\Br (s=true) (¬p.p=none/\(0:Int)<=(0:Int)/\0<(p.n:Int)/\∃u,V1.rowp p.p ((0:Int).toNat*1) 1=some [uS u]/\TB 257 #[uP a,uS u,uS r] V1 λy V2=>Br (y=true) (R (rV (uI 0)) V2) (R (rV (uI 11)) V2)) (R (rV (uI 9)) V1)) (Br (d=2) (¬p.p=none/\(0:Int)<=(0:Int)/\0<(p.n:Int)/\∃r,V1.rowp p.p ((0:Int).toNat*1) 1=some [uS r]/\TT 258 #[uP a,uS r,uS g] V1 λe V2=>∃s u,e=rT #[uS s,uI u]/\Br (u=0) (¬p.p=none/\(0:Int)<=(1:Int)/\1<(p.n:Int)/\∃y,V2.rowp p.p 1 1=some [uS y]/\TB 257 #[uP a,uS y,uS s] V2 λz w=>Br (z=true) (R (rV (uI 0)) w) (R (rV (uI 11)) w)) (R (rV (uI u)) V2)) (Br (d=3) (w215_0 p V1 R) (Br (d=4) (w215_0 p V1 R) (Br (d=5) (Br ((p.n:Int)=0) (Br (l=(Ad [])) (R (rV (uI 0)) V1) (R (rV (uI 11)) V1)) (Br (l=(Ad [])) (R (rV (uI 11)) V1) (¬p.p=none/\(0:Int)<=(0:Int)/\0<(p.n:Int)/\∃r,V1.rowp p.p ((0:Int).toNat*1) 1=some [uS r]/\TB 257 #[uP a,uS r,uS l] V1 λs V2=>Br (s=true) (R (rV (uI 0)) V2) (R (rV (uI 11)) V2)))) (R (rV (uI 0)) V1)))))))):TT 215 #[uA #[uP a,uM b,uB c],uA #[uI d,uS g,uL i,uL j,uL k],uS l] V R:=Ae Tryz.func215 h
theorem x216{a:Option Addr}{b:Option Nat}{c:Bool}{d g:Int}{i:KB}{j:Sl}(h:Br (d=7) (TT 256 #[uA #[uP a,uM b,uB c],uA #[uI d,uI g,uS i,uL j]] V λe V1=>∃k l,e=rT #[uS k,uI l]/\Br (l=0) (Br (k=(Ad [])) (R (rT #[uS (Ad []),uI 11]) V1) (R (rT #[uS k,uI l]) V1)) (R (rT #[uS k,uI l]) V1)) (Lp [uS (Ad []),uI 0,z0,uI 0] V λI n V1=>∀k l o p,I n [uS k,uI l,uL o,uI p] V1->∀w:LMP,Nx I n w->Br (p<(j.n:Int)) (Ix j p (∃q r s u,V1.rowp j.p (p.toNat*4) 4=some [uI q,uI r,uS s,uL u]/\TT 216 #[uA #[uP a,uM b,uB c],uA #[uI q,uI r,uS s,uL u]] V1 λe V2=>∃y z,e=rT #[uS y,uI z]/\Br (z=0) (Ag [uS y] 9 V2 λA x=>Ap 46 48 159 (uL o) (.slice (Aa A 0) 1 1) x λB m=>IR (p+1)/\w [uS k,uI l,uL B,uI (p+1)] m) (R (rT #[uS (Ad []),uI z]) V2))) (TT 259 #[uA #[uP a,uM b,uB c],uA #[uI d,uI g,uS i,uL j],uL o] V1 λe V2=>∃q r,e=rT #[uS q,uI r]/\R (rT #[uS q,uI r]) V2))):TT 216 #[uA #[uP a,uM b,uB c],uA #[uI d,uI g,uS i,uL j]] V R:=Ae Tryz.func216 h
theorem x217{a:Int}(h:Br (48<=a) (R (rV (uB (decide (a<=57)))) V) (R KQ V)):TT 217 #[.int .u8 a] V R:=Ae Tryz.func217 h
theorem x218{a:Sl}{b:KB}(h:Lp [uB false,uI 0] V λI n V1=>∀c d,I n [uB c,uI d] V1->∀k:LMP,Nx I n k->Br (d<(a.n:Int)) (Ix a d (∃g,V1.rowp a.p (d.toNat*1) 1=some [uS g]/\Br (g=b) (R KX V1) (IR (d+1)/\k [uB c,uI (d+1)] V1))) (R KQ V1)):TT 218 #[uL a,uS b] V R:=Ae Tryz.func218 h
theorem x219(h:Ag [uS (Ad [116,121,112,101]),uS (Ad [118,97,114]),uS (Ad [112,114,111,99]),uS (Ad [108,111,99,97,108]),uS (Ad [109,101,97,115,117,114,101]),uS (Ad [105,110,118,97,114,105,97,110,116]),uS (Ad [112,111,116,101,110,116,105,97,108]),uS (Ad [98,111,117,110,100]),uS (Ad [105,102]),uS (Ad [101,108,115,101]),uS (Ad [119,104,105,108,101]),uS (Ad [114,101,116,117,114,110]),uS (Ad [110,101,119]),uS (Ad [110,105,108]),uS (Ad [116,114,117,101]),uS (Ad [102,97,108,115,101]),uS (Ad [97,110,100]),uS (Ad [111,114]),uS (Ad [110,111,116]),uS (Ad [109,97,120]),uS (Ad [109,105,110]),uS (Ad [108,111,103]),uS (Ad [105,110,116]),uS (Ad [98,111,111,108]),uS (Ad [116,104,105,115]),uS (Ad [115,111,114,116]),uS (Ad [111,112]),uS (Ad [114,117,108,101]),uS (Ad [115,112,101,99]),uS (Ad [100,101,115,99]),uS (Ad [115,99,114,105,112,116])] 9 V λa V1=>R (rV (.slice (Aa a 0) 31 31)) V1):TT 219 #[] V R:=Ae Tryz.func219 h
theorem x220{a:Int}{b:KB}{c d g:Sl}(h:Br ((d.n:Int)=0) (Br (a=1) (TB 129 #[uS b] V λi V1=>Br (i=true) (TB 260 #[uA #[uI a,uS b,uL c,uL d,uL g],uI 1,uI 1] V1 λj V2=>Br (j=true) (R (rV (uB (decide ((g.n:Int)=0)))) V2) (R KQ V2)) (R KQ V1)) (Br (a=2) (TB 129 #[uS b] V λi V1=>Br (i=true) (TB 260 #[uA #[uI a,uS b,uL c,uL d,uL g],uI 2,uI 2] V1 λj V2=>Br (j=true) (R (rV (uB (decide ((g.n:Int)=0)))) V2) (R KQ V2)) (R KQ V1)) (Br (a=3) (Br (b=(Ad [])) (TB 260 #[uA #[uI a,uS b,uL c,uL d,uL g],uI 1,uI 1] V λi V1=>R (rV (uB i)) V1) (R KQ V)) (Br (a=4) (Br (b=(Ad [])) (TB 260 #[uA #[uI a,uS b,uL c,uL d,uL g],uI 1,uI 1] V λi V1=>Br (i=true) (R (rV (uB (decide ((g.n:Int)=0)))) V1) (R KQ V1)) (R KQ V)) (Br (a=5) (Br (b=(Ad [])) (TB 260 #[uA #[uI a,uS b,uL c,uL d,uL g],uI 0,uI 1] V λi V1=>Br (i=true) (R (rV (uB (decide ((g.n:Int)=0)))) V1) (R KQ V1)) (R KQ V)) (Br (a=6) (Br (b=(Ad [])) (TB 260 #[uA #[uI a,uS b,uL c,uL d,uL g],uI 1,uI 1] V λi V1=>Br (i=true) (¬c.p=none/\(0:Int)<=(0:Int)/\0<(c.n:Int)/\¬(Aa c.p ((0:Int).toNat*4))=none/\∃j k l o,V1.rowp c.p ((0:Int).toNat*4) 4=some [uI j,uI k,uS l,uL o]/\Br (j=7) (R (rV (uB (decide ((g.n:Int)=0)))) V1) (R KQ V1)) (R KQ V1)) (R KQ V)) (R KQ V))))))) (Br (a=1) (TB 129 #[uS b] V λi V1=>Br (i=true) (TB 260 #[uA #[uI a,uS b,uL c,uL d,uL g],uI 1,uI 1] V1 λj V2=>Br (j=true) (R KQ V2) (R KQ V2)) (R KQ V1)) (Br (a=2) (TB 129 #[uS b] V λi V1=>Br (i=true) (TB 260 #[uA #[uI a,uS b,uL c,uL d,uL g],uI 2,uI 2] V1 λj V2=>Br (j=true) (R KQ V2) (R KQ V2)) (R KQ V1)) (Br (a=3) (Br (b=(Ad [])) (TB 260 #[uA #[uI a,uS b,uL c,uL d,uL g],uI 1,uI 1] V λi V1=>R (rV (uB i)) V1) (R KQ V)) (Br (a=4) (Br (b=(Ad [])) (TB 260 #[uA #[uI a,uS b,uL c,uL d,uL g],uI 1,uI 1] V λi V1=>Br (i=true) (R (rV (uB (decide ((g.n:Int)=0)))) V1) (R KQ V1)) (R KQ V)) (Br (a=5) (Br (b=(Ad [])) (TB 260 #[uA #[uI a,uS b,uL c,uL d,uL g],uI 0,uI 1] V λi V1=>Br (i=true) (R KQ V1) (R KQ V1)) (R KQ V)) (Br (a=6) (Br (b=(Ad [])) (TB 260 #[uA #[uI a,uS b,uL c,uL d,uL g],uI 1,uI 1] V λi V1=>Br (i=true) (¬c.p=none/\(0:Int)<=(0:Int)/\0<(c.n:Int)/\¬(Aa c.p ((0:Int).toNat*4))=none/\∃j k l o,V1.rowp c.p ((0:Int).toNat*4) 4=some [uI j,uI k,uS l,uL o]/\Br (j=7) (R KQ V1) (R KQ V1)) (R KQ V1)) (R KQ V)) (R KQ V)))))))):TT 220 #[uA #[uI a,uS b,uL c,uL d,uL g]] V R:=Ae Tryz.func220 h
theorem x221{a b:Int}{c:KB}{d:Sl}{g:Int}(h:Br (60<g) (R (rV (uI 1001)) V) (TB 261 #[uA #[uI a,uI b,uS c,uL d]] V λi V1=>Br (i=true) (Lp [uI 1,uI 0,uI 0] V1 λI n V2=>∀j k l,I n [uI j,uI k,uI l] V2->∀u:LMP,Nx I n u->Br (l<(d.n:Int)) (Ix d l (∃o p q r,V2.rowp d.p (l.toNat*4) 4=some [uI o,uI p,uS q,uL r]/\IR (g+1)/\TI 221 #[uA #[uI o,uI p,uS q,uL r],uI (g+1)] V2 λs w=>IR (j+s)/\Br (1000<(j+s)) (R (rV (uI (j+s))) w) (IR (l+1)/\u [uI (j+s),uI k,uI (l+1)] w))) (R (rV (uI j)) V2)) (R (rV (uI 1001)) V1))):TT 221 #[uA #[uI a,uI b,uS c,uL d],uI g] V R:=Ae Tryz.func221 h
theorem x222{a:KB}{b c d g i j k l:Sl}(h:Lp [uI 0,uI 0] V λI n V1=>∀o p,I n [uI o,uI p] V1->∀u:LMP,Nx I n u->Br (p<(l.n:Int)) (TI 223 #[uD a b c d g i j k,uL l,uI p] V1 λq V2=>Br (q=0) (IR (p+1)/\u [uI o,uI (p+1)] V2) (R (rV (uI q)) V2)) (R (rV (uI 0)) V1)):TT 222 #[uD a b c d g i j k,uL l] V R:=Ae Tryz.func222 h
theorem x223{a:KB}{b c d g i j k l:Sl}{o:Int}(h:Lp [uI 0,uI 0] V λI n V1=>∀p q,I n [uI p,uI q] V1->∀w:LMP,Nx I n w->Br (q<o) (Ix l q (¬(Aa l.p (q.toNat*2))=none/\∃r s,V1.rowp l.p (q.toNat*2) 2=some [uS r,uS s]/\Ix l o (¬(Aa l.p (o.toNat*2))=none/\∃u y,V1.rowp l.p (o.toNat*2) 2=some [uS u,uS y]/\Br (r=u) (R (rV (uI 10)) V1) (IR (q+1)/\w [uI p,uI (q+1)] V1)))) (Ix l o (¬(Aa l.p (o.toNat*2))=none/\∃r s,V1.rowp l.p (o.toNat*2) 2=some [uS r,uS s]/\TB 224 #[uD a b c d g i j k,uS s] V1 λu V2=>Br (u=true) (R (rV (uI 0)) V2) (R (rV (uI 9)) V2)))):TT 223 #[uD a b c d g i j k,uL l,uI o] V R:=Ae Tryz.func223 h
theorem x224{a:KB}{b c d g i j k:Sl}{l:KB}(h:Br (l=(Ad [105,110,116])) (R KX V) (Br (l=(Ad [98,111,111,108])) (R KX V) (TB 226 #[uD a b c d g i j k,uS l] V λo V1=>R (rV (uB o)) V1))):TT 224 #[uD a b c d g i j k,uS l] V R:=Ae Tryz.func224 h
theorem x225{a:KB}{b c d g i j k:Sl}{l:KB}(h:Lp [uI 0,uI 0] V λI n V1=>∀o p,I n [uI o,uI p] V1->∀w:LMP,Nx I n w->Br (p<(g.n:Int)) (Ix g p (¬(Aa g.p (p.toNat*7))=none/\∃q r s u y z A,V1.rowp g.p (p.toNat*7) 7=some [uS q,uS r,uI s,uI u,uI y,uS z,uL A]/\Br (q=l) (R (rV (uI p)) V1) (IR (p+1)/\w [uI o,uI (p+1)] V1))) (R (rV (uI (-1))) V1)):TT 225 #[uD a b c d g i j k,uS l] V R:=Ae Tryz.func225 h
theorem x226{a:KB}{b c d g i j k:Sl}{l:KB}(h:TI 88 #[uD a b c d g i j k,uS l] V λo V1=>R (rV (uB (decide (0<=o)))) V1):TT 226 #[uD a b c d g i j k,uS l] V R:=Ae Tryz.func226 h
abbrev w227_0(F:Sl)(h:Mem)(a:KB)(b c d g i j k:Sl)(H:KB)(R:RP):Prop:=¬F.p=none/\(0:Int)<=(0:Int)/\0<(F.n:Int)/\∃L,h.rowp F.p ((0:Int).toNat*1) 1=some [uS L]/\TB 267 #[uD a b c d g i j k,uS L,uS H] h λM u=>Br (M=true) (R (rV (uI 0)) u) (R (rV (uI 11)) u)
theorem x227{a:KB}{b c d g i j k:Sl}{l:KB}{o:Sl}{p:KB}{q r:Sl}{s:Int}{u:KB}{y z A:Sl}(h:TT 262 #[uD a b c d g i j k,uA #[uS l,uL o,uS p,uL q,uL r]] V λe V1=>∃B C,e=rV (uA #[uL B,uB C])/\Br (s=6) (¬y.p=none/\(0:Int)<=(0:Int)/\0<(y.n:Int)/\∃D F G H,V1.rowp y.p ((0:Int).toNat*4) 4=some [uI D,uI F,uS G,uL H]/\TT 263 #[uD a b c d g i j k,uA #[uL B,uB C],uA #[uI D,uI F,uS G,uL H]] V1 λe V2=>∃L M,e=rT #[uL L,uI M]/\Br (M=0) (¬y.p=none/\(0:Int)<=(0:Int)/\0<(y.n:Int)/\¬(Aa y.p ((0:Int).toNat*4))=none/\∃N O P Q,V2.rowp y.p ((0:Int).toNat*4) 4=some [uI N,uI O,uS P,uL Q]/\TT 264 #[uD a b c d g i j k,uS P,uL L] V2 λe w=>∃U W,e=rT #[uS U,uI W]/\R (rV (uI W)) w) (R (rV (uI M)) V2)) (Lp [uI 0,z0,uI 0] V1 λI n V2=>∀D F G,I n [uI D,uL F,uI G] V2->∀m:LMP,Nx I n m->Br (G<(y.n:Int)) (Ix y G (∃H L M N,V2.rowp y.p (G.toNat*4) 4=some [uI H,uI L,uS M,uL N]/\TT 265 #[uD a b c d g i j k,uA #[uL B,uB C],uA #[uI H,uI L,uS M,uL N]] V2 λe w=>∃O P,e=rT #[uS O,uI P]/\Br (P=0) (Ag [uS O] 9 w λQ x=>Ap 70 72 159 (uL F) (.slice (Aa Q 0) 1 1) x λU J=>IR (G+1)/\m [uI D,uL U,uI (G+1)] J) (R (rV (uI P)) w))) (Br (s=1) (TS 266 #[uL B,uS u] V2 λH w=>Br (H=(Ad [])) (R (rV (uI 9)) w) (w227_0 F w a b c d g i j k H R)) (Br (s=2) (¬F.p=none/\(0:Int)<=(0:Int)/\0<(F.n:Int)/\∃H,V2.rowp F.p ((0:Int).toNat*1) 1=some [uS H]/\TT 268 #[uD a b c d g i j k,uS H,uS u] V2 λe w=>∃L M,e=rT #[uS L,uI M]/\Br (M=0) (¬F.p=none/\(0:Int)<=(1:Int)/\1<(F.n:Int)/\∃N,w.rowp F.p 1 1=some [uS N]/\TB 267 #[uD a b c d g i j k,uS N,uS L] w λO x=>Br (O=true) (R (rV (uI 0)) x) (R (rV (uI 11)) x)) (R (rV (uI M)) w)) (Br (s=3) (w215_0 F V2 R) (Br (s=4) (w215_0 F V2 R) (Br (s=5) (Br ((F.n:Int)=0) (Br (p=(Ad [])) (R (rV (uI 0)) V2) (Br ((F.n:Int)=1) (Br (p=(Ad [])) (R (rV (uI 11)) V2) (w227_0 F V2 a b c d g i j k p R)) (R (rV (uI 11)) V2))) (Br ((F.n:Int)=1) (Br (p=(Ad [])) (R (rV (uI 11)) V2) (w227_0 F V2 a b c d g i j k p R)) (R (rV (uI 11)) V2))) (R (rV (uI 0)) V2)))))))):TT 227 #[uD a b c d g i j k,uA #[uS l,uL o,uS p,uL q,uL r],uA #[uI s,uS u,uL y,uL z,uL A]] V R:=Ae Tryz.func227 h
theorem x228{a:KB}{b c d g i j k l:Sl}{o:Bool}{p q:Int}{r:KB}{s:Sl}{u:KB}(h:TT 265 #[uD a b c d g i j k,uA #[uL l,uB o],uA #[uI p,uI q,uS r,uL s]] V λe V1=>∃y z,e=rT #[uS y,uI z]/\Br (z=0) (Br (y=u) (R (rV (uI 0)) V1) (R (rV (uI 11)) V1)) (R (rV (uI z)) V1)):TT 228 #[uD a b c d g i j k,uA #[uL l,uB o],uA #[uI p,uI q,uS r,uL s],uS u] V R:=Ae Tryz.func228 h
theorem x229{a:KB}{b c d g i j k:Sl}{l:KB}(h:Br (l=(Ad [])) (Ap 13 15 23 (z0) (uL c) V λo V1=>R (rV (uA #[uL o,uB false])) V1) (Ag [uS (Ad [116,104,105,115]),uS l] 138 V λo V1=>Ap 8 11 23 (z0) (.slice (Aa o 0) 1 1) V1 λp V2=>Ap 13 15 23 (uL p) (uL c) V2 λq u=>R (rV (uA #[uL q,uB false])) u)):TT 229 #[uD a b c d g i j k,uS l] V R:=Ae Tryz.func229 h
theorem x230{a:KB}{b c d g i j k:Sl}{l:KB}{o:Sl}{p:KB}{q r:Sl}(h:Ag [] 138 V λs V1=>Ap 5 7 23 (.slice (Aa s 0) (0:Int).toNat (0:Int).toNat) (uL o) V1 λu V2=>Ap 8 10 23 (uL u) (uL c) V2 λy w=>R (rV (uA #[uL y,uB false])) w):TT 230 #[uD a b c d g i j k,uA #[uS l,uL o,uS p,uL q,uL r]] V R:=Ae Tryz.func230 h
theorem x231{a:Option Nat}{b:KB}{c d g i j k l o p:Sl}(h:Br (G7 (uM a)=none) (R KQ V) (Br (4096<(p.n:Int)) (R KQ V) (Ag [uS b,uL c,uL d,uL g,uL i,uL j,uL k,uL l] 30 V λq V1=>TB 269 #[uL p,.func (.func 270) #[] #[uP (Aa q 0)]] V1 λr V2=>Br (r=true) (R KQ V2) (¬(Aa q 0)=none/\∃s,V2.rowp q 2 1=some [uL s]/\TB 271 #[uM a,uA #[uL o,uL p],uL s,uL o] V2 λu w=>Br (u=true) (Ag [uM a] 189 w λy x=>Ag [uL o,uL p] 45 x λz m=>TB 269 #[uL p,.func (.func 272) #[] #[uP (Aa y 0),uP (Aa z 0),uP (Aa q 0)]] m λA e=>R (rV (uB (!A))) e) (R KQ w))))):TT 231 #[uM a,uD b c d g i j k l,uA #[uL o,uL p]] V R:=Ae Tryz.func231 h
theorem x232{a:KB}{b c d g i j k:Sl}{l:KB}(h:Ag [uS l] 9 V λo V1=>TI 95 #[uL d,.func (.func 273) #[] #[uP (Aa o 0)]] V1 λp V2=>R (rV (uI p)) V2):TT 232 #[uD a b c d g i j k,uS l] V R:=Ae Tryz.func232 h
theorem x233{a:KB}{b c d g i j k l o:Sl}{p:KB}{q:Int}(h:Br (p=(Ad [105,110,116])) (Br ((-1099511627776)<=q) (R (rV (uB (decide (q<=1099511627776)))) V) (R KQ V)) (Br (p=(Ad [98,111,111,108])) (Br (q=0) (R KX V) (R (rV (uB (decide (q=1)))) V)) (Br (q=0) (R KX V) (Br (0<q) (Br (q<=(o.n:Int)) (IR (q-1)/\Ix o (q-1) (¬(Aa o.p ((q-1).toNat*2))=none/\∃r s,V.rowp o.p ((q-1).toNat*2) 2=some [uI r,uL s]/\Ix b r (¬(Aa b.p (r.toNat*2))=none/\∃u y,V.rowp b.p (r.toNat*2) 2=some [uS u,uL y]/\R (rV (uB (decide (u=p)))) V))) (R KQ V)) (R KQ V))))):TT 233 #[uD a b c d g i j k,uA #[uL l,uL o],uS p,uI q] V R:=Ae Tryz.func233 h
theorem x234{a:Option Addr}{b:Int}(h:GenK xS (.makeInterface 294 (.tmp 5)) 20 (gv [(5,uA #[uI b])]) V λx V1=>∃c,K.r.ok c/\x=c/\∃t x,K.cast .r c=.iface t x/\R (.panicked [{v:=.iface t x,recovered:=false}]) V1):TT 234 #[uP a,uI b] V R:=Ae Tryz.func234 h
theorem x235{a b:Option Addr}{c:Sl}(h:Lp [uI 0] V λI n V1=>∀d,I n [uI d] V1->∀u:LMP,Nx I n u->Br (d<(c.n:Int)) (Ix c d (∃g i j k l,V1.rowp c.p (d.toNat*5) 5=some [uI g,uS i,uL j,uL k,uL l]/\TT 274 #[uP a,uP b,uA #[uI g,uS i,uL j,uL k,uL l]] V1 λe V2=>(∃o p,e=rV (uA #[uB o,uI p])/\Br (o=true) (R (rV (uA #[uB o,uI p])) V2) (IR (d+1)/\u [uI (d+1)] V2))∨∃w,e=.panicked w/\R e V2)) (R (rV (uA #[uB false,uI 0])) V1)):TT 235 #[uP a,uP b,uL c] V R:=Ae Tryz.func235 h
theorem x236{a b:Option Addr}{c:KB}(h:N2 b (∃d,V.rowp b 5 1=some [uL d]/\TI 245 #[uL d,uS c] V λg V1=>Br (0<=g) (N2 b (∃i,V1.rowp b 6 1=some [uL i]/\Ix i g (IY V1 i g λj=>R (rV (uI j)) V1))) (N2 a (¬(Aa a 0)=none/\∃i,V1.rowp a 2 1=some [uL i]/\TI 245 #[uL i,uS c] V1 λj V2=>TT 240 #[uP a,uI 1,uI 0,uI j] V2 λe u=>e=rT #[]/\N2 a (¬(Aa a 8)=none/\∃k,u.rowp a 8 1=some [uL k]/\Ix k j (IY u k j λl=>R (rV (uI l)) u)))))):TT 236 #[uP a,uP b,uS c] V R:=Ae Tryz.func236 h
theorem x237{a:Option Addr}{b:KB}(h:N2 a (¬(Aa a 8)=none/\∃c,V.rowp a 9 1=some [uL c]/\Br (4096<=(c.n:Int)) (TI 104 #[uP a,uI 21] V λd V1=>R (rV (uI d)) V1) (N2 a (∃d g i j k l o p,V.rowp a ((0:Int).toNat*1) 8=some [uS d,uL g,uL i,uL j,uL k,uL l,uL o,uL p]/\TI 88 #[uD d g i j k l o p,uS b] V λq V1=>N2 a (¬(Aa a 8)=none/\∃r,V1.rowp a 9 1=some [uL r]/\N2 a (¬(Aa a 0)=none/\∃s,V1.rowp a 1 1=some [uL s]/\Ix s q (¬(Aa s.p (q.toNat*2))=none/\∃u y,V1.rowp s.p (q.toNat*2) 2=some [uS u,uL y]/\GenK xS (.makeSlice 35 (.tmp 37) (.tmp 37)) 35 (gv [(37,uI (y.n:Int)),(37,uI (y.n:Int))]) V1 λx V2=>∃z,x=uL z/\V2.rowp (Aa a 9) 0 1=some [uL r]/\¬(Aa a 8)=none/\N2 a (V2.rowp (Aa a 9) 0 1=some [uL r]/\¬(Aa a 8)=none/\N2 a (Ag [uI q,uL z] 85 V2 λA H=>Ap 26 40 43 (uL r) (.slice (Aa A 0) 1 1) H λB J=>N2 a (¬(Aa a 8)=none/\Ak (Aa a 9) 0 [uL B] J λw=>N2 a (¬(Aa a 8)=none/\∃C,w.rowp a 9 1=some [uL C]/\TT 240 #[uP a,uI 3,uI (C.n:Int),uI q] w λe m=>e=rT #[]/\N2 a (¬(Aa a 8)=none/\∃D,m.rowp a 9 1=some [uL D]/\R (rV (uI (D.n:Int))) m)))))))))))):TT 237 #[uP a,uS b] V R:=Ae Tryz.func237 h
abbrev Hh(w:Sl)(V1:Mem)(v0 x:Option Addr)(R:RP):Prop:=
 ¬w.p=none/\(0:Int)<=(1:Int)/\1<(w.n:Int)/\∃h k g u,V1.rowp w.p (1*4) 4=some [uI h,uI k,uS g,uL u]/\
 TI 193 #[uP v0,uP x,uA #[uI h,uI k,uS g,uL u]] V1 λy V2=>
 R (rV (uI y)) V2
theorem x238{a b:Option Addr}{c d:Int}{g:KB}{i:Sl}(h:¬i.p=none/\(0:Int)<=(0:Int)/\0<(i.n:Int)/\∃j k l o,V.rowp i.p ((0:Int).toNat*4) 4=some [uI j,uI k,uS l,uL o]/\TI 193 #[uP a,uP b,uA #[uI j,uI k,uS l,uL o]] V λp V1=>N2 a (∃q,V1.rowp a 13 1=some [uI q]/\Br (q=0) (Br (c=21) (Br (p=0) (¬i.p=none/\(0:Int)<=(2:Int)/\2<(i.n:Int)/\∃r s u y,V1.rowp i.p (2*4) 4=some [uI r,uI s,uS u,uL y]/\TI 193 #[uP a,uP b,uA #[uI r,uI s,uS u,uL y]] V1 λz V2=>R (rV (uI z)) V2) (Br (c=19) (Br (p=0) (R (rV (uI 0)) V1) (Br (c=20) (Br (p=0) (Hh i V1 a b R) (R (rV (uI 1)) V1)) (Hh i V1 a b R))) (Br (c=20) (Br (p=0) (Hh i V1 a b R) (R (rV (uI 1)) V1)) (Hh i V1 a b R)))) (Br (c=19) (Br (p=0) (R (rV (uI 0)) V1) (Br (c=20) (Br (p=0) (Hh i V1 a b R) (R (rV (uI 1)) V1)) (Hh i V1 a b R))) (Br (c=20) (Br (p=0) (Hh i V1 a b R) (R (rV (uI 1)) V1)) (Hh i V1 a b R)))) (R (rV (uI 0)) V1))):TT 238 #[uP a,uP b,uA #[uI c,uI d,uS g,uL i]] V R:=Ae Tryz.func238 h
theorem x239{a:Option Addr}{b:Int}{c:KB}(h:N2 a (¬(Aa a 0)=none/\∃d,V.rowp a 1 1=some [uL d]/\N2 a (¬(Aa a 8)=none/\∃g,V.rowp a 9 1=some [uL g]/\IR (b-1)/\Ix g (b-1) (¬(Aa g.p ((b-1).toNat*2))=none/\∃i j,V.rowp g.p ((b-1).toNat*2) 2=some [uI i,uL j]/\Ix d i (¬(Aa d.p (i.toNat*2))=none/\∃k l,V.rowp d.p (i.toNat*2) 2=some [uS k,uL l]/\TI 245 #[uL l,uS c] V λo V1=>R (rV (uI o)) V1))))):TT 239 #[uP a,uI b,uS c] V R:=Ae Tryz.func239 h
theorem x240{a:Option Addr}{b c d:Int}(h:N2 a (∃g,V.rowp a 17 1=some [uL g]/\Ag [uI b,uI c,uI d] 150 V λi V1=>Ap 12 17 110 (uL g) (.slice (Aa i 0) 1 1) V1 λj V2=>N2 a (Ak (Aa a 17) 0 [uL j] V2 λu=>Br (0<c) (N2 a (¬(Aa a 14)=none/\∃k,u.rowp a 15 1=some [uI k]/\IR (k+1)/\N2 a (¬(Aa a 14)=none/\Ak (Aa a 15) 0 [uI (k+1)] u λw=>R (rT #[]) w))) (R (rT #[]) u)))):TT 240 #[uP a,uI b,uI c,uI d] V R:=Ae Tryz.func240 h
theorem x241{a:Option Addr}{b:Int}(h:Br (b<(-1099511627776)) (TI 104 #[uP a,uI 5] V λc V1=>R (rV (uI c)) V1) (Br (1099511627776<b) (TI 104 #[uP a,uI 5] V λc V1=>R (rV (uI c)) V1) (R (rV (uI b)) V))):TT 241 #[uP a,uI b] V R:=Ae Tryz.func241 h
theorem x242{a:Int}(h:Lp [uI a,uI 0] V λI n V1=>∀b c,I n [uI b,uI c] V1->∀k:LMP,Nx I n k->Br (1<b) (¬(2:Int)=(0:Int)/\IR (c+1)/\k [uI (xT .i64 ((b).tdiv (2:Int))),uI (c+1)] V1) (R (rV (uI c)) V1)):TT 242 #[uI a] V R:=Ae Tryz.func242 h
abbrev w243_0(c j k:Int)(V2:Mem)(R:RP):Prop:=Br (c=15) (TI 276 #[uB (!(decide (j=k)))] V2 λu h=>R (rV (uI u)) h) (Br (c=16) (TI 276 #[uB (decide (j<k))] V2 λu h=>R (rV (uI u)) h) (TI 276 #[uB (decide (j<=k))] V2 λu h=>R (rV (uI u)) h))
theorem x243{a b:Option Addr}{c d:Int}{g:KB}{i:Sl}{j k:Int}(h:¬i.p=none/\(0:Int)<=(0:Int)/\0<(i.n:Int)/\∃l o p q,V.rowp i.p ((0:Int).toNat*4) 4=some [uI l,uI o,uS p,uL q]/\TB 275 #[uP a,uP b,uA #[uI l,uI o,uS p,uL q]] V λr V1=>Br (r=true) (N2 a (¬(Aa a 14)=none/\∃s,V1.rowp a 14 1=some [uI s]/\IR (s+1)/\N2 a (¬(Aa a 14)=none/\Ak (Aa a 14) 0 [uI (s+1)] V1 λV2=>Br (c=14) (TI 276 #[uB (decide (j=k))] V2 λu w=>R (rV (uI u)) w) (w243_0 c j k V2 R)))) (Br (c=14) (TI 276 #[uB (decide (j=k))] V1 λs V2=>R (rV (uI s)) V2) (w243_0 c j k V1 R))):TT 243 #[uP a,uP b,uA #[uI c,uI d,uS g,uL i],uI j,uI k] V R:=Ae Tryz.func243 h
theorem x244{a:Option Addr}{b c d:Int}(h:Br (b=9) (IR (c+d)/\TI 241 #[uP a,uI (c+d)] V λg V1=>R (rV (uI g)) V1) (Br (b=10) (IR (c-d)/\TI 241 #[uP a,uI (c-d)] V λg V1=>R (rV (uI g)) V1) (Br (b=11) (TI 277 #[uP a,uI c,uI d] V λg V1=>R (rV (uI g)) V1) (Br (b=22) (Br (c<d) (R (rV (uI d)) V) (R (rV (uI c)) V)) (Br (b=23) (Br (d<c) (R (rV (uI d)) V) (R (rV (uI c)) V)) (Br (d=0) (TI 104 #[uP a,uI 18] V λg V1=>R (rV (uI g)) V1) (Br (b=12) (¬d=0/\TI 241 #[uP a,uI (xT .i64 ((c).tdiv d))] V λg V1=>R (rV (uI g)) V1) (¬d=0/\R (rV (uI ((c).tmod d))) V)))))))):TT 244 #[uP a,uI b,uI c,uI d] V R:=Ae Tryz.func244 h
theorem x245{a:Sl}{b:KB}(h:Lp [uI 0,uI 0] V λI n V1=>∀c d,I n [uI c,uI d] V1->∀k:LMP,Nx I n k->Br (d<(a.n:Int)) (Ix a d (¬(Aa a.p (d.toNat*2))=none/\∃g i,V1.rowp a.p (d.toNat*2) 2=some [uS g,uS i]/\Br (g=b) (R (rV (uI d)) V1) (IR (d+1)/\k [uI c,uI (d+1)] V1))) (R (rV (uI (-1))) V1)):TT 245 #[uL a,uS b] V R:=Ae Tryz.func245 h
theorem x246{a b:KB}(h:TB 278 #[uS a] V λc V1=>Br (c=true) (TB 278 #[uS b] V1 λd V2=>Br (d=true) (R (rV (uB (xU (a).toList (b).toList))) V2) (R KX V2)) (R (rV (uB (xU (a).toList (b).toList))) V1)):TT 246 #[uS a,uS b] V R:=Ae Tryz.func246 h
theorem x247{a:KB}(h:R (rV (uB (!(decide (a=a))))) V):TT 247 #[uS a] V R:=Ae Tryz.func247 h
theorem x249{a:Int}(h:Br (a=1) (R (rT #[uI 0,uB true]) V) (Br (a=2) (R (rT #[uI 0,uB true]) V) (Br (a=3) (R (rT #[uI 0,uB true]) V) (Br (a=4) (R (rT #[uI 0,uB true]) V) (Br (a=6) (R (rT #[uI 0,uB true]) V) (Br (a=7) (R (rT #[uI (-1),uB true]) V) (Br (a=5) (R (rT #[uI 1,uB true]) V) (Br (a=8) (R (rT #[uI 1,uB true]) V) (Br (a=18) (R (rT #[uI 1,uB true]) V) (Br (a=24) (R (rT #[uI 1,uB true]) V) (Br (a=21) (R (rT #[uI 3,uB true]) V) (Br (9<=a) (R (rT #[uI 2,uB (decide (a<=23))]) V) (R (rT #[uI 2,uB false]) V))))))))))))):TT 249 #[uI a] V R:=Ae Tryz.func249 h
theorem x250{a b:Int}{c:KB}{d:Sl}(h:Br (a=1) (Br (0<=b) (Br (b<=1099511627776) (R (rV (uB (decide (c=(Ad []))))) V) (R KQ V)) (R KQ V)) (Br (a=2) (Br (b=0) (R (rV (uB (decide (c=(Ad []))))) V) (Br (b=1) (R (rV (uB (decide (c=(Ad []))))) V) (R KQ V))) (Br (a=4) (Br (b=0) (TB 110 #[uS c] V λg V1=>Br (g=true) (R KX V1) (R (rV (uB (decide (c=(Ad [116,104,105,115]))))) V1)) (R KQ V)) (Br (a=6) (Br (b=0) (TB 110 #[uS c] V λg V1=>R (rV (uB g)) V1) (R KQ V)) (Br (a=5) (Br (b=0) (TB 110 #[uS c] V λg V1=>R (rV (uB g)) V1) (R KQ V)) (Br (a=7) (Br (b=0) (TB 110 #[uS c] V λg V1=>R (rV (uB g)) V1) (R KQ V)) (Br (b=0) (R (rV (uB (decide (c=(Ad []))))) V) (R KQ V)))))))):TT 250 #[uA #[uI a,uI b,uS c,uL d]] V R:=Ae Tryz.func250 h
theorem x251{a b:Int}{c:KB}{d:Sl}{g i:Option Addr}(h:∃j,V.rowp g ((0:Int).toNat*1) 1=some [uI j]/\IR (j+1)/\∃k,V.rowp i ((0:Int).toNat*1) 1=some [uP k]/\TB 198 #[uA #[uI a,uI b,uS c,uL d],uI (j+1),uP k] V λl V1=>R (rV (uB (!l))) V1):TT 251 #[uA #[uI a,uI b,uS c,uL d],uP g,uP i] V R:=Ae Tryz.func251 h
theorem x252{a:Sl}{b:Value}(h:Lp [uI 0,uI 0] V λI n V1=>∀c d,I n [uI c,uI d] V1->∀w:LMP,Nx I n w->Br (d<(a.n:Int)) (Ix a d (∃g i j k,V1.rowp a.p (d.toNat*4) 4=some [uI g,uI i,uS j,uL k]/\∃f first u,K.cast .f b=.func (.func f) first u/\CO f/\TT f (first++#[uA #[uI g,uI i,uS j,uL k]]++u) V1 λe V2=>∃l,e=rV (uB l)/\Br (l=true) (R (rV (uI d)) V2) (IR (d+1)/\w [uI c,uI (d+1)] V2))) (R (rV (uI (-1))) V1)):TT 252 #[uL a,K.cast .f b] V R:=Co Tryz.func252 [] [] false [uL a,b] (by kernel_rfl) (by kernel_rfl) h
theorem x253{a:Sl}{b:Value}(h:Lp [uI 0,uI 0] V λI n V1=>∀c d,I n [uI c,uI d] V1->∀w:LMP,Nx I n w->Br (d<(a.n:Int)) (Ix a d (∃g i j k l o p,V1.rowp a.p (d.toNat*7) 7=some [uS g,uS i,uI j,uI k,uI l,uS o,uL p]/\∃f first u,K.cast .f b=.func (.func f) first u/\CO f/\TT f (first++#[uA #[uS g,uS i,uI j,uI k,uI l,uS o,uL p]]++u) V1 λe V2=>∃q,e=rV (uB q)/\Br (q=true) (R (rV (uI d)) V2) (IR (d+1)/\w [uI c,uI (d+1)] V2))) (R (rV (uI (-1))) V1)):TT 253 #[uL a,K.cast .f b] V R:=Co Tryz.func253 [] [] false [uL a,b] (by kernel_rfl) (by kernel_rfl) h
theorem x254{a:Sl}{b:Value}(h:Lp [uI 0,uI 0] V λI n V1=>∀c d,I n [uI c,uI d] V1->∀w:LMP,Nx I n w->Br (d<(a.n:Int)) (Ix a d (∃g i j k l o,V1.rowp a.p (d.toNat*6) 6=some [uS g,uS i,uI j,uI k,uS l,uL o]/\∃f first u,K.cast .f b=.func (.func f) first u/\CO f/\TT f (first++#[uA #[uS g,uS i,uI j,uI k,uS l,uL o]]++u) V1 λe V2=>∃p,e=rV (uB p)/\Br (p=true) (R (rV (uI d)) V2) (IR (d+1)/\w [uI c,uI (d+1)] V2))) (R (rV (uI (-1))) V1)):TT 254 #[uL a,K.cast .f b] V R:=Co Tryz.func254 [] [] false [uL a,b] (by kernel_rfl) (by kernel_rfl) h
theorem x255{a:Sl}(h:Ag [uL a] 23 V λb V1=>R (rV (.func (.func 281) #[] #[uP (Aa b 0)])) V1):TT 255 #[uL a] V R:=Ae Tryz.func255 h
theorem x256{a:Option Addr}{b:Option Nat}{c:Bool}{d g:Int}{i:KB}{j:Sl}(h:Lp [uS (Ad []),uI 0,z0,uI 0] V λI n V1=>∀k l o p,I n [uS k,uI l,uL o,uI p] V1->∀m:LMP,Nx I n m->Br (p<(j.n:Int)) (Ix j p (∃q r s u,V1.rowp j.p (p.toNat*4) 4=some [uI q,uI r,uS s,uL u]/\TT 216 #[uA #[uP a,uM b,uB c],uA #[uI q,uI r,uS s,uL u]] V1 λe V2=>∃y z,e=rT #[uS y,uI z]/\Br (z=0) (Ag [uS y] 9 V2 λA w=>Ap 31 33 159 (uL o) (.slice (Aa A 0) 1 1) w λB N=>IR (p+1)/\m [uS k,uI l,uL B,uI (p+1)] N) (R (rT #[uS (Ad []),uI z]) V2))) (Br (c=true) (N2 a (∃q,V1.rowp a 9 1=some [uM q]/\Cd xS 232 (uM q) (uS i) true V1 λx=>∃r s u y z A,x=.tuple #[uA #[uS r,uL s,uS u,uL y,uL z],uB A]/\Br (A=true) (Br ((o.n:Int)=(s.n:Int)) (Lp [uS k,uI l,uI 0] V1 λI n V2=>∀B C D,I n [uS B,uI C,uI D] V2->∀J:LMP,Nx I n J->Br (D<(o.n:Int)) (Ix o D (∃F,V2.rowp o.p (D.toNat*1) 1=some [uS F]/\Ix s D (¬(Aa s.p (D.toNat*2))=none/\∃G H,V2.rowp s.p (D.toNat*2) 2=some [uS G,uS H]/\TB 257 #[uP a,uS F,uS H] V2 λL w=>Br (L=true) (IR (D+1)/\J [uS B,uI C,uI (D+1)] w) (R (rT #[uS (Ad []),uI 11]) w)))) (R (rT #[uS u,uI 0]) V2)) (R (rT #[uS (Ad []),uI 3]) V1)) (R (rT #[uS (Ad []),uI 9]) V1))) (TT 282 #[uA #[uP a,uM b,uB c],uS i,uL o] V1 λe V2=>∃q r,e=rT #[uS q,uI r]/\R (rT #[uS q,uI r]) V2))):TT 256 #[uA #[uP a,uM b,uB c],uA #[uI d,uI g,uS i,uL j]] V R:=Ae Tryz.func256 h
theorem x257{a:Option Addr}{b c:KB}(h:Br (b=c) (R KX V) (Br (b=(Ad [110,105,108])) (TB 167 #[uP a,uS c] V λd V1=>R (rV (uB d)) V1) (R KQ V))):TT 257 #[uP a,uS b,uS c] V R:=Ae Tryz.func257 h
theorem x258{a:Option Addr}{b c:KB}(h:N2 a (∃d,V.rowp a 8 1=some [uM d]/\Cd xS 231 (uM d) (uS b) true V λx=>∃g i j,x=.tuple #[uA #[uS g,uL i],uB j]/\Br (j=true) (Lp [uS (Ad []),uI 0,uI 0] V λI n V1=>∀k l o,I n [uS k,uI l,uI o] V1->∀u:LMP,Nx I n u->Br (o<(i.n:Int)) (Ix i o (∃p q,V1.rowp i.p (o.toNat*2) 2=some [uS p,uS q]/\Br (p=c) (R (rT #[uS q,uI 0]) V1) (IR (o+1)/\u [uS k,uI l,uI (o+1)] V1))) (R (rT #[uS (Ad []),uI 9]) V1)) (R (rT #[uS (Ad []),uI 11]) V))):TT 258 #[uP a,uS b,uS c] V R:=Ae Tryz.func258 h
abbrev w259_0(k:Sl)(V:Mem)(a:Option Addr)(R:RP):Prop:=¬k.p=none/\(0:Int)<=(0:Int)/\0<(k.n:Int)/\∃l,V.rowp k.p ((0:Int).toNat*1) 1=some [uS l]/\¬k.p=none/\(0:Int)<=(1:Int)/\1<(k.n:Int)/\∃o,V.rowp k.p 1 1=some [uS o]/\TB 257 #[uP a,uS l,uS o] V λp V1=>Br (p=true) (R (rT #[uS (Ad [98,111,111,108]),uI 0]) V1) (¬k.p=none/\(0:Int)<=(1:Int)/\1<(k.n:Int)/\∃q,V1.rowp k.p 1 1=some [uS q]/\¬k.p=none/\(0:Int)<=(0:Int)/\0<(k.n:Int)/\∃r,V1.rowp k.p ((0:Int).toNat*1) 1=some [uS r]/\TB 257 #[uP a,uS q,uS r] V1 λs V2=>Br (s=true) (R (rT #[uS (Ad [98,111,111,108]),uI 0]) V2) (R (rT #[uS (Ad []),uI 11]) V2))
abbrev w259_1(k:Sl):MR:=λV R=>Ag [uL k] 159 V λl V1=>TT 283 #[uS (Ad [98,111,111,108]),uS (Ad [98,111,111,108]),uP (Aa l 0)] V1 λe V2=>∃o p,e=rT #[uS o,uI p]/\R (rT #[uS o,uI p]) V2
theorem x259{a:Option Addr}{b:Option Nat}{c:Bool}{d g:Int}{i:KB}{j k:Sl}(h:Br (d=1) (R (rT #[uS (Ad [105,110,116]),uI 0]) V) (Br (d=2) (R (rT #[uS (Ad [98,111,111,108]),uI 0]) V) (Br (d=3) (R (rT #[uS (Ad [110,105,108]),uI 0]) V) (Br (d=4) (Cd xS 276 (uM b) (uS i) true V λx=>∃l o,x=.tuple #[uS l,uB o]/\Br (o=true) (R (rT #[uS l,uI 0]) V) (R (rT #[uS (Ad []),uI 9]) V)) (Br (d=5) (¬k.p=none/\(0:Int)<=(0:Int)/\0<(k.n:Int)/\∃l,V.rowp k.p ((0:Int).toNat*1) 1=some [uS l]/\TT 258 #[uP a,uS l,uS i] V λe V1=>∃o p,e=rT #[uS o,uI p]/\R (rT #[uS o,uI p]) V1) (Br (d=6) (Br (c=true) (TB 167 #[uP a,uS i] V λl V1=>Br (l=true) (R (rT #[uS i,uI 0]) V1) (R (rT #[uS (Ad []),uI 9]) V1)) (R (rT #[uS (Ad []),uI 13]) V)) (Br (d=14) (w259_0 k V a R) (Br (d=15) (w259_0 k V a R) (Br (d=16) (Ag [uL k] 159 V λl V1=>TT 283 #[uS (Ad [105,110,116]),uS (Ad [98,111,111,108]),uP (Aa l 0)] V1 λe V2=>∃o p,e=rT #[uS o,uI p]/\R (rT #[uS o,uI p]) V2) (Br (d=17) (Ag [uL k] 159 V λl V1=>TT 283 #[uS (Ad [105,110,116]),uS (Ad [98,111,111,108]),uP (Aa l 0)] V1 λe V2=>∃o p,e=rT #[uS o,uI p]/\R (rT #[uS o,uI p]) V2) (Br (d=18) (w259_1 k V R) (Br (d=19) (w259_1 k V R) (Br (d=20) (w259_1 k V R) (Br (d=21) (¬k.p=none/\(0:Int)<=(0:Int)/\0<(k.n:Int)/\∃l,V.rowp k.p ((0:Int).toNat*1) 1=some [uS l]/\Br (l=(Ad [98,111,111,108])) (¬k.p=none/\(0:Int)<=(1:Int)/\1<(k.n:Int)/\∃o,V.rowp k.p 1 1=some [uS o]/\¬k.p=none/\(0:Int)<=(2:Int)/\2<(k.n:Int)/\∃p,V.rowp k.p 2 1=some [uS p]/\TB 257 #[uP a,uS o,uS p] V λq V1=>Br (q=true) (¬k.p=none/\(0:Int)<=(2:Int)/\2<(k.n:Int)/\∃r,V1.rowp k.p 2 1=some [uS r]/\R (rT #[uS r,uI 0]) V1) (¬k.p=none/\(0:Int)<=(2:Int)/\2<(k.n:Int)/\∃r,V1.rowp k.p 2 1=some [uS r]/\¬k.p=none/\(0:Int)<=(1:Int)/\1<(k.n:Int)/\∃s,V1.rowp k.p 1 1=some [uS s]/\TB 257 #[uP a,uS r,uS s] V1 λu V2=>Br (u=true) (¬k.p=none/\(0:Int)<=(1:Int)/\1<(k.n:Int)/\∃y,V2.rowp k.p 1 1=some [uS y]/\R (rT #[uS y,uI 0]) V2) (R (rT #[uS (Ad []),uI 11]) V2))) (R (rT #[uS (Ad []),uI 11]) V)) (Ag [uL k] 159 V λl V1=>TT 283 #[uS (Ad [105,110,116]),uS (Ad [105,110,116]),uP (Aa l 0)] V1 λe V2=>∃o p,e=rT #[uS o,uI p]/\R (rT #[uS o,uI p]) V2))))))))))))))):TT 259 #[uA #[uP a,uM b,uB c],uA #[uI d,uI g,uS i,uL j],uL k] V R:=Ae Tryz.func259 h
theorem x260{a:Int}{b:KB}{c d g:Sl}{i j:Int}(h:Br ((c.n:Int)<i) (R KQ V) (Br (j<(c.n:Int)) (R KQ V) (Lp [uB false,uI 0] V λI n V1=>∀k l,I n [uB k,uI l] V1->∀u:LMP,Nx I n u->Br (l<(c.n:Int)) (Ix c l (∃o p q r,V1.rowp c.p (l.toNat*4) 4=some [uI o,uI p,uS q,uL r]/\TB 182 #[uA #[uI o,uI p,uS q,uL r]] V1 λs V2=>Br (s=true) (IR (l+1)/\u [uB k,uI (l+1)] V2) (R KQ V2))) (R KX V1)))):TT 260 #[uA #[uI a,uS b,uL c,uL d,uL g],uI i,uI j] V R:=Ae Tryz.func260 h
abbrev w261_0(a b:Int)(c:KB)(d:Sl)(V1:Mem)(R:RP):Prop:=TB 287 #[uA #[uI a,uI b,uS c,uL d]] V1 λi V2=>Br (i=true) (Br (a=1) (Br (0<=b) (R (rV (uB (decide (b<=1099511627776)))) V2) (R KQ V2)) (Br (a=2) (Br (b=0) (R KX V2) (R (rV (uB (decide (b=1)))) V2)) (R (rV (uB (decide (b=0)))) V2))) (R KQ V2)
theorem x261{a b:Int}{c:KB}{d:Sl}(h:TI 286 #[uI a] V λg V1=>Br (g=(-2)) (R KQ V1) (Br (0<=g) (Br ((d.n:Int)=g) (Br (g=(-1)) (Br (6<(d.n:Int)) (R KQ V1) (w261_0 a b c d V1 R)) (w261_0 a b c d V1 R)) (R KQ V1)) (Br (g=(-1)) (Br (6<(d.n:Int)) (R KQ V1) (w261_0 a b c d V1 R)) (w261_0 a b c d V1 R)))):TT 261 #[uA #[uI a,uI b,uS c,uL d]] V R:=Ae Tryz.func261 h
theorem x262{a:KB}{b c d g i j k:Sl}{l:KB}{o:Sl}{p:KB}{q r:Sl}(h:Ag [] 138 V λs V1=>Ap 6 8 23 (.slice (Aa s 0) (0:Int).toNat (0:Int).toNat) (uL o) V1 λu V2=>Ap 9 11 23 (uL u) (uL q) V2 λy w=>Ap 13 15 23 (uL y) (uL c) w λz x=>R (rV (uA #[uL z,uB true])) x):TT 262 #[uD a b c d g i j k,uA #[uS l,uL o,uS p,uL q,uL r]] V R:=Ae Tryz.func262 h
theorem x263{a:KB}{b c d g i j k l:Sl}{o:Bool}{p q:Int}{r:KB}{s:Sl}(h:Lp [z0,uI 0,z0,uI 0] V λI n V1=>∀u y z A,I n [uL u,uI y,uL z,uI A] V1->∀w:LMP,Nx I n w->Br (A<(s.n:Int)) (Ix s A (∃B C D F,V1.rowp s.p (A.toNat*4) 4=some [uI B,uI C,uS D,uL F]/\TT 265 #[uD a b c d g i j k,uA #[uL l,uB o],uA #[uI B,uI C,uS D,uL F]] V1 λe V2=>∃G H,e=rT #[uS G,uI H]/\Br (H=0) (Ag [uS G] 9 V2 λL x=>Ap 33 35 159 (uL z) (.slice (Aa L 0) 1 1) x λM m=>IR (A+1)/\w [uL u,uI y,uL M,uI (A+1)] m) (R (rT #[z0,uI H]) V2))) (R (rT #[uL z,uI 0]) V1)):TT 263 #[uD a b c d g i j k,uA #[uL l,uB o],uA #[uI p,uI q,uS r,uL s]] V R:=Ae Tryz.func263 h
theorem x264{a:KB}{b c d g i j k:Sl}{l:KB}{o:Sl}(h:TI 71 #[uD a b c d g i j k,uS l] V λp V1=>Br (p<0) (R (rT #[uS (Ad []),uI 9]) V1) (Ix d p (∃q r s u y,V1.rowp d.p (p.toNat*5) 5=some [uS q,uL r,uS s,uL u,uL y]/\Br ((o.n:Int)=(r.n:Int)) (Lp [uS (Ad []),uI 0,uI 0] V1 λI n V2=>∀z A B,I n [uS z,uI A,uI B] V2->∀w:LMP,Nx I n w->Br (B<(o.n:Int)) (Ix o B (∃C,V2.rowp o.p (B.toNat*1) 1=some [uS C]/\Ix r B (¬(Aa r.p (B.toNat*2))=none/\∃D F,V2.rowp r.p (B.toNat*2) 2=some [uS D,uS F]/\TB 267 #[uD a b c d g i j k,uS C,uS F] V2 λG x=>Br (G=true) (IR (B+1)/\w [uS z,uI A,uI (B+1)] x) (R (rT #[uS (Ad []),uI 11]) x)))) (R (rT #[uS s,uI 0]) V2)) (R (rT #[uS (Ad []),uI 3]) V1)))):TT 264 #[uD a b c d g i j k,uS l,uL o] V R:=Ae Tryz.func264 h
abbrev w265_0(u:Sl)(V1:Mem)(a:KB)(b c d g i j k:Sl)(R:RP):Prop:=¬u.p=none/\(0:Int)<=(0:Int)/\0<(u.n:Int)/\∃z,V1.rowp u.p ((0:Int).toNat*1) 1=some [uS z]/\¬u.p=none/\(0:Int)<=(1:Int)/\1<(u.n:Int)/\∃A,V1.rowp u.p 1 1=some [uS A]/\TB 267 #[uD a b c d g i j k,uS z,uS A] V1 λB V2=>Br (B=true) (TT 289 #[uB true,uS (Ad [98,111,111,108])] V2 λe h=>∃C D,e=rT #[uS C,uI D]/\R (rT #[uS C,uI D]) h) (¬u.p=none/\(0:Int)<=(1:Int)/\1<(u.n:Int)/\∃C,V2.rowp u.p 1 1=some [uS C]/\¬u.p=none/\(0:Int)<=(0:Int)/\0<(u.n:Int)/\∃D,V2.rowp u.p ((0:Int).toNat*1) 1=some [uS D]/\TB 267 #[uD a b c d g i j k,uS C,uS D] V2 λF h=>TT 289 #[uB F,uS (Ad [98,111,111,108])] h λe w=>∃G H,e=rT #[uS G,uI H]/\R (rT #[uS G,uI H]) w)
abbrev w265_1(u:Sl)(V1:Mem)(a:KB)(b c d g i j k:Sl)(A:KB)(R:RP):Prop:=¬u.p=none/\(0:Int)<=(1:Int)/\1<(u.n:Int)/\∃C,V1.rowp u.p 1 1=some [uS C]/\¬u.p=none/\(0:Int)<=(2:Int)/\2<(u.n:Int)/\∃D,V1.rowp u.p 2 1=some [uS D]/\TB 267 #[uD a b c d g i j k,uS C,uS D] V1 λF V2=>Br (F=true) (TT 289 #[uB true,uS A] V2 λe h=>∃G H,e=rT #[uS G,uI H]/\R (rT #[uS G,uI H]) h) (¬u.p=none/\(0:Int)<=(2:Int)/\2<(u.n:Int)/\∃G,V2.rowp u.p 2 1=some [uS G]/\¬u.p=none/\(0:Int)<=(1:Int)/\1<(u.n:Int)/\∃H,V2.rowp u.p 1 1=some [uS H]/\TB 267 #[uD a b c d g i j k,uS G,uS H] V2 λL h=>TT 289 #[uB L,uS A] h λe w=>∃M N,e=rT #[uS M,uI N]/\R (rT #[uS M,uI N]) w)
abbrev w265_2(u:Sl)(V1:Mem)(R:RP):Prop:=TB 290 #[uL u,uS (Ad [98,111,111,108])] V1 λz V2=>TT 289 #[uB z,uS (Ad [98,111,111,108])] V2 λe h=>∃A B,e=rT #[uS A,uI B]/\R (rT #[uS A,uI B]) h
theorem x265{a:KB}{b c d g i j k l:Sl}{o:Bool}{p q:Int}{r:KB}{s:Sl}(h:TT 263 #[uD a b c d g i j k,uA #[uL l,uB o],uA #[uI p,uI q,uS r,uL s]] V λe V1=>∃u y,e=rT #[uL u,uI y]/\Br (y=0) (Br (p=1) (R (rT #[uS (Ad [105,110,116]),uI 0]) V1) (Br (p=2) (R (rT #[uS (Ad [98,111,111,108]),uI 0]) V1) (Br (p=3) (R (rT #[uS (Ad [110,105,108]),uI 0]) V1) (Br (p=4) (TS 266 #[uL l,uS r] V1 λz V2=>Br (z=(Ad [])) (R (rT #[uS (Ad []),uI 9]) V2) (R (rT #[uS z,uI 0]) V2)) (Br (p=5) (¬u.p=none/\(0:Int)<=(0:Int)/\0<(u.n:Int)/\∃z,V1.rowp u.p ((0:Int).toNat*1) 1=some [uS z]/\TT 268 #[uD a b c d g i j k,uS z,uS r] V1 λe V2=>∃A B,e=rT #[uS A,uI B]/\R (rT #[uS A,uI B]) V2) (Br (p=6) (Br (o=true) (TB 226 #[uD a b c d g i j k,uS r] V1 λz V2=>Br (z=true) (R (rT #[uS r,uI 0]) V2) (R (rT #[uS (Ad []),uI 9]) V2)) (R (rT #[uS (Ad []),uI 13]) V1)) (Br (p=7) (TT 288 #[uD a b c d g i j k,uA #[uL l,uB o],uS r,uL u] V1 λe V2=>∃z A,e=rT #[uS z,uI A]/\R (rT #[uS z,uI A]) V2) (Br (p=14) (w265_0 u V1 a b c d g i j k R) (Br (p=15) (w265_0 u V1 a b c d g i j k R) (Br (p=16) (TB 290 #[uL u,uS (Ad [105,110,116])] V1 λz V2=>TT 289 #[uB z,uS (Ad [98,111,111,108])] V2 λe w=>∃A B,e=rT #[uS A,uI B]/\R (rT #[uS A,uI B]) w) (Br (p=17) (TB 290 #[uL u,uS (Ad [105,110,116])] V1 λz V2=>TT 289 #[uB z,uS (Ad [98,111,111,108])] V2 λe w=>∃A B,e=rT #[uS A,uI B]/\R (rT #[uS A,uI B]) w) (Br (p=18) (w265_2 u V1 R) (Br (p=19) (w265_2 u V1 R) (Br (p=20) (w265_2 u V1 R) (Br (p=21) (¬u.p=none/\(0:Int)<=(1:Int)/\1<(u.n:Int)/\∃z,V1.rowp u.p 1 1=some [uS z]/\Br (z=(Ad [110,105,108])) (¬u.p=none/\(0:Int)<=(2:Int)/\2<(u.n:Int)/\∃A,V1.rowp u.p 2 1=some [uS A]/\¬u.p=none/\(0:Int)<=(0:Int)/\0<(u.n:Int)/\∃B,V1.rowp u.p ((0:Int).toNat*1) 1=some [uS B]/\Br (B=(Ad [98,111,111,108])) (w265_1 u V1 a b c d g i j k A R) (TT 289 #[uB false,uS A] V1 λe V2=>∃C D,e=rT #[uS C,uI D]/\R (rT #[uS C,uI D]) V2)) (¬u.p=none/\(0:Int)<=(0:Int)/\0<(u.n:Int)/\∃A,V1.rowp u.p ((0:Int).toNat*1) 1=some [uS A]/\Br (A=(Ad [98,111,111,108])) (w265_1 u V1 a b c d g i j k z R) (TT 289 #[uB false,uS z] V1 λe V2=>∃B C,e=rT #[uS B,uI C]/\R (rT #[uS B,uI C]) V2))) (TB 290 #[uL u,uS (Ad [105,110,116])] V1 λz V2=>TT 289 #[uB z,uS (Ad [105,110,116])] V2 λe w=>∃A B,e=rT #[uS A,uI B]/\R (rT #[uS A,uI B]) w)))))))))))))))) (R (rT #[uS (Ad []),uI y]) V1)):TT 265 #[uD a b c d g i j k,uA #[uL l,uB o],uA #[uI p,uI q,uS r,uL s]] V R:=Ae Tryz.func265 h
theorem x266{a:Sl}{b:KB}(h:Lp [uS (Ad []),uI 0] V λI n V1=>∀c d,I n [uS c,uI d] V1->∀u:LMP,Nx I n u->Br (d<(a.n:Int)) (Ix a d (¬(Aa a.p (d.toNat*2))=none/\∃g i,V1.rowp a.p (d.toNat*2) 2=some [uS g,uS i]/\Br (g=b) (Ix a d (¬(Aa a.p (d.toNat*2))=none/\∃j k,V1.rowp a.p (d.toNat*2) 2=some [uS j,uS k]/\R (rV (uS k)) V1)) (IR (d+1)/\u [uS c,uI (d+1)] V1))) (R (rV (uS (Ad []))) V1)):TT 266 #[uL a,uS b] V R:=Ae Tryz.func266 h
theorem x267{a:KB}{b c d g i j k:Sl}{l o:KB}(h:Br (l=o) (R KX V) (Br (l=(Ad [110,105,108])) (TB 226 #[uD a b c d g i j k,uS o] V λp V1=>R (rV (uB p)) V1) (R KQ V))):TT 267 #[uD a b c d g i j k,uS l,uS o] V R:=Ae Tryz.func267 h
theorem x268{a:KB}{b c d g i j k:Sl}{l o:KB}(h:TI 88 #[uD a b c d g i j k,uS l] V λp V1=>Br (p<0) (R (rT #[uS (Ad []),uI 11]) V1) (Ix b p (¬(Aa b.p (p.toNat*2))=none/\∃q r,V1.rowp b.p (p.toNat*2) 2=some [uS q,uL r]/\TS 266 #[uL r,uS o] V1 λs V2=>Br (s=(Ad [])) (R (rT #[uS (Ad []),uI 9]) V2) (R (rT #[uS s,uI 0]) V2)))):TT 268 #[uD a b c d g i j k,uS l,uS o] V R:=Ae Tryz.func268 h
theorem x269{a:Sl}{b:Value}(h:TI 291 #[uL a,K.cast .f b] V λc V1=>R (rV (uB (decide (0<=c)))) V1):TT 269 #[uL a,K.cast .f b] V R:=Co Tryz.func269 [] [] false [uL a,b] (by kernel_rfl) (by kernel_rfl) h
theorem x270{a:Int}{b:Sl}{c:Option Addr}(h:Br (a<0) (R KX V) (¬c=none/\∃d,V.rowp c 1 1=some [uL d]/\R (rV (uB (decide ((d.n:Int)<=a)))) V)):TT 270 #[uA #[uI a,uL b],uP c] V R:=Ae Tryz.func270 h
theorem x271{a:Option Nat}{b c d g:Sl}(h:Br ((d.n:Int)=(g.n:Int)) (Lp [uB false,uI 0] V λI n V1=>∀i j,I n [uB i,uI j] V1->∀u:LMP,Nx I n u->Br (j<(d.n:Int)) (Ix d j (∃k l,V1.rowp d.p (j.toNat*2) 2=some [uS k,uS l]/\Ix g j (IY V1 g j λo=>TB 292 #[uM a,uA #[uL b,uL c],uS l,uI o] V1 λp V2=>Br (p=true) (IR (j+1)/\u [uB i,uI (j+1)] V2) (R KQ V2)))) (R KX V1)) (R KQ V)):TT 271 #[uM a,uA #[uL b,uL c],uL d,uL g] V R:=Ae Tryz.func271 h
theorem x272{a:Int}{b:Sl}{c d g:Option Addr}(h:∃i,V.rowp c ((0:Int).toNat*1) 1=some [uM i]/\∃j k,V.rowp d ((0:Int).toNat*1) 2=some [uL j,uL k]/\¬g=none/\∃l,V.rowp g 1 1=some [uL l]/\Ix l a (¬(Aa l.p (a.toNat*2))=none/\∃o p,V.rowp l.p (a.toNat*2) 2=some [uS o,uL p]/\TB 271 #[uM i,uA #[uL j,uL k],uL p,uL b] V λq V1=>R (rV (uB (!q))) V1)):TT 272 #[uA #[uI a,uL b],uP c,uP d,uP g] V R:=Ae Tryz.func272 h
theorem x273{a:KB}{b:Sl}{c:KB}{d g:Sl}{i:Option Addr}(h:∃j,V.rowp i ((0:Int).toNat*1) 1=some [uS j]/\R (rV (uB (decide (a=j)))) V):TT 273 #[uA #[uS a,uL b,uS c,uL d,uL g],uP i] V R:=Ae Tryz.func273 h
theorem x274{a b:Option Addr}{c:Int}{d:KB}{g i j:Sl}(h:TT 293 #[uP a] V λe V1=>(e=rT #[]/\Br (c=1) (¬g.p=none/\(0:Int)<=(0:Int)/\0<(g.n:Int)/\∃k l o p,V1.rowp g.p ((0:Int).toNat*4) 4=some [uI k,uI l,uS o,uL p]/\TT 294 #[uP a,uP b,uA #[uI k,uI l,uS o,uL p]] V1 λe V2=>(∃q,e=rV (uI q)/\N2 b (∃r,V2.rowp b ((0:Int).toNat*1) 1=some [uL r]/\TI 295 #[uL r,uS d] V2 λs x=>Br (0<=s) (N2 b (∃u,x.rowp b 1 1=some [uL u]/\Ix u s (Ak (Aa u.p (s.toNat*1)) 0 [uI q] x λm=>R (rV (uA #[uB false,uI 0])) m))) (N2 a (¬(Aa a 0)=none/\∃u,x.rowp a 2 1=some [uL u]/\TI 295 #[uL u,uS d] x λy m=>TT 296 #[uP a,uI 2,uI 0,uI y] m λe H=>e=rT #[]/\N2 a (¬(Aa a 8)=none/\∃z,H.rowp a 8 1=some [uL z]/\Ix z y (Ak (Aa z.p (y.toNat*1)) 0 [uI q] H λJ=>R (rV (uA #[uB false,uI 0])) J))))))∨∃w,e=.panicked w/\R e V2) (Br (c=2) (¬g.p=none/\(0:Int)<=(0:Int)/\0<(g.n:Int)/\∃k l o p,V1.rowp g.p ((0:Int).toNat*4) 4=some [uI k,uI l,uS o,uL p]/\TT 294 #[uP a,uP b,uA #[uI k,uI l,uS o,uL p]] V1 λe V2=>(∃q,e=rV (uI q)/\¬g.p=none/\(0:Int)<=(1:Int)/\1<(g.n:Int)/\∃r s u y,V2.rowp g.p (1*4) 4=some [uI r,uI s,uS u,uL y]/\TT 294 #[uP a,uP b,uA #[uI r,uI s,uS u,uL y]] V2 λe x=>(∃z,e=rV (uI z)/\Br (q=0) (TT 234 #[uP a,uI 17] x λe m=>(e=rT #[]/\TI 297 #[uP a,uI q,uS d] m λA H=>TT 296 #[uP a,uI 2,uI q,uI A] H λe J=>e=rT #[]/\N2 a (¬(Aa a 8)=none/\∃B,J.rowp a 9 1=some [uL B]/\IR (q-1)/\Ix B (q-1) (¬(Aa B.p ((q-1).toNat*2))=none/\∃C D,J.rowp B.p ((q-1).toNat*2) 2=some [uI C,uL D]/\Ix D A (Ak (Aa D.p (A.toNat*1)) 0 [uI z] J λN=>R (rV (uA #[uB false,uI 0])) N))))∨∃w,e=.panicked w/\R e m) (TI 297 #[uP a,uI q,uS d] x λA m=>TT 296 #[uP a,uI 2,uI q,uI A] m λe H=>e=rT #[]/\N2 a (¬(Aa a 8)=none/\∃B,H.rowp a 9 1=some [uL B]/\IR (q-1)/\Ix B (q-1) (¬(Aa B.p ((q-1).toNat*2))=none/\∃C D,H.rowp B.p ((q-1).toNat*2) 2=some [uI C,uL D]/\Ix D A (Ak (Aa D.p (A.toNat*1)) 0 [uI z] H λJ=>R (rV (uA #[uB false,uI 0])) J)))))∨∃w,e=.panicked w/\R e x)∨∃w,e=.panicked w/\R e V2) (Br (c=3) (¬g.p=none/\(0:Int)<=(0:Int)/\0<(g.n:Int)/\∃k l o p,V1.rowp g.p ((0:Int).toNat*4) 4=some [uI k,uI l,uS o,uL p]/\TT 294 #[uP a,uP b,uA #[uI k,uI l,uS o,uL p]] V1 λe V2=>(∃q,e=rV (uI q)/\Br (q=1) (TT 235 #[uP a,uP b,uL i] V2 λe x=>(∃r s,e=rV (uA #[uB r,uI s])/\R (rV (uA #[uB r,uI s])) x)∨∃w,e=.panicked w/\R e x) (TT 235 #[uP a,uP b,uL j] V2 λe x=>(∃r s,e=rV (uA #[uB r,uI s])/\R (rV (uA #[uB r,uI s])) x)∨∃w,e=.panicked w/\R e x))∨∃w,e=.panicked w/\R e V2) (Br (c=4) (Lp [] V1 λI n V2=>I n [] V2->∀G:LMP,Nx I n G->¬g.p=none/\(0:Int)<=(0:Int)/\0<(g.n:Int)/\∃k l o p,V2.rowp g.p ((0:Int).toNat*4) 4=some [uI k,uI l,uS o,uL p]/\TT 294 #[uP a,uP b,uA #[uI k,uI l,uS o,uL p]] V2 λe x=>(∃q,e=rV (uI q)/\Br (q=1) (TT 235 #[uP a,uP b,uL i] x λe m=>(∃r s,e=rV (uA #[uB r,uI s])/\Br (r=true) (R (rV (uA #[uB r,uI s])) m) (TT 293 #[uP a] m λe H=>(e=rT #[]/\G [] H)∨∃w,e=.panicked w/\R e H))∨∃w,e=.panicked w/\R e m) (R (rV (uA #[uB false,uI 0])) x))∨∃w,e=.panicked w/\R e x) (Br (c=5) (Br ((g.n:Int)=0) (R (rV (uA #[uB true,uI 0])) V1) (¬g.p=none/\(0:Int)<=(0:Int)/\0<(g.n:Int)/\∃k l o p,V1.rowp g.p ((0:Int).toNat*4) 4=some [uI k,uI l,uS o,uL p]/\TT 294 #[uP a,uP b,uA #[uI k,uI l,uS o,uL p]] V1 λe V2=>(∃q,e=rV (uI q)/\R (rV (uA #[uB true,uI q])) V2)∨∃w,e=.panicked w/\R e V2)) (Br (c=6) (¬g.p=none/\(0:Int)<=(0:Int)/\0<(g.n:Int)/\∃k l o p,V1.rowp g.p ((0:Int).toNat*4) 4=some [uI k,uI l,uS o,uL p]/\TT 298 #[uP a,uP b,uA #[uI k,uI l,uS o,uL p]] V1 λe V2=>(∃q,e=rV (uI q)/\R (rV (uA #[uB false,uI 0])) V2)∨∃w,e=.panicked w/\R e V2) (R (rV (uA #[uB false,uI 0])) V1)))))))∨∃w,e=.panicked w/\R e V1):TT 274 #[uP a,uP b,uA #[uI c,uS d,uL g,uL i,uL j]] V R:=Ae Tryz.func274 h
theorem x275{a b:Option Addr}{c d:Int}{g:KB}{i:Sl}(h:N2 a (∃j k l o p q r s,V.rowp a ((0:Int).toNat*1) 8=some [uS j,uL k,uL l,uL o,uL p,uL q,uL r,uL s]/\N2 a (∃u y z A B C D F,V.rowp a ((0:Int).toNat*1) 8=some [uS u,uL y,uL z,uL A,uL B,uL C,uL D,uL F]/\N2 b (∃G H L M N,V.rowp b ((0:Int).toNat*1) 5=some [uS G,uL H,uS L,uL M,uL N]/\TT 262 #[uD u y z A B C D F,uA #[uS G,uL H,uS L,uL M,uL N]] V λe V1=>∃O P,e=rV (uA #[uL O,uB P])/\V1.rowp (Aa a 0) 0 8=some [uS j,uL k,uL l,uL o,uL p,uL q,uL r,uL s]/\N2 a (TT 265 #[uD j k l o p q r s,uA #[uL O,uB P],uA #[uI c,uI d,uS g,uL i]] V1 λe V2=>∃Q U,e=rT #[uS Q,uI U]/\Br (U=0) (R (rV (uB (decide (Q=(Ad [105,110,116]))))) V2) (R KQ V2)))))):TT 275 #[uP a,uP b,uA #[uI c,uI d,uS g,uL i]] V R:=Ae Tryz.func275 h
theorem x276{a:Bool}(h:Br (a=true) (R (rV (uI 1)) V) (R (rV (uI 0)) V)):TT 276 #[uB a] V R:=Ae Tryz.func276 h
theorem x277{a:Option Addr}{b c:Int}(h:Br (b<0) (IR (0-b)/\Br (c<0) (IR (0-c)/\Br (0<(0-b)) (¬(0-b)=0/\Br ((xT .i64 (((1099511627776:Int)).tdiv (0-b)))<(0-c)) (TI 104 #[uP a,uI 5] V λd V1=>R (rV (uI d)) V1) (IR (b*c)/\R (rV (uI (b*c))) V)) (IR (b*c)/\R (rV (uI (b*c))) V)) (Br (0<(0-b)) (¬(0-b)=0/\Br ((xT .i64 (((1099511627776:Int)).tdiv (0-b)))<c) (TI 104 #[uP a,uI 5] V λd V1=>R (rV (uI d)) V1) (IR (b*c)/\R (rV (uI (b*c))) V)) (IR (b*c)/\R (rV (uI (b*c))) V))) (Br (c<0) (IR (0-c)/\Br (0<b) (¬b=0/\Br ((xT .i64 (((1099511627776:Int)).tdiv b))<(0-c)) (TI 104 #[uP a,uI 5] V λd V1=>R (rV (uI d)) V1) (IR (b*c)/\R (rV (uI (b*c))) V)) (IR (b*c)/\R (rV (uI (b*c))) V)) (Br (0<b) (¬b=0/\Br ((xT .i64 (((1099511627776:Int)).tdiv b))<c) (TI 104 #[uP a,uI 5] V λd V1=>R (rV (uI d)) V1) (IR (b*c)/\R (rV (uI (b*c))) V)) (IR (b*c)/\R (rV (uI (b*c))) V)))):TT 277 #[uP a,uI b,uI c] V R:=Ae Tryz.func277 h
theorem x278{a:KB}(h:R (rV (uB (!(decide (a=a))))) V):TT 278 #[uS a] V R:=Ae Tryz.func278 h
theorem x282{a:Option Addr}{b:Option Nat}{c:Bool}{d:KB}{g:Sl}(h:N2 a (¬(Aa a 0)=none/\∃i,V.rowp a 4 1=some [uL i]/\Ag [uS d] 9 V λj V1=>TI 253 #[uL i,.func (.func 300) #[] #[uP (Aa j 0)]] V1 λk V2=>Br (k<0) (R (rT #[uS (Ad []),uI 9]) V2) (Br ((g.n:Int)=1) (¬g.p=none/\(0:Int)<=(0:Int)/\0<(g.n:Int)/\∃l,V2.rowp g.p ((0:Int).toNat*1) 1=some [uS l]/\N2 a (¬(Aa a 0)=none/\∃o,V2.rowp a 4 1=some [uL o]/\Ix o k (¬(Aa o.p (k.toNat*7))=none/\∃p q r s u y z,V2.rowp o.p (k.toNat*7) 7=some [uS p,uS q,uI r,uI s,uI u,uS y,uL z]/\TB 257 #[uP a,uS l,uS q] V2 λA w=>Br (A=true) (R (rT #[uS (Ad [105,110,116]),uI 0]) w) (R (rT #[uS (Ad []),uI 11]) w)))) (R (rT #[uS (Ad []),uI 3]) V2)))):TT 282 #[uA #[uP a,uM b,uB c],uS d,uL g] V R:=Ae Tryz.func282 h
theorem x283{a b:KB}{c:Option Addr}(h:∃d,V.rowp c ((0:Int).toNat*1) 1=some [uL d]/\Ag [uS a] 9 V λg V1=>TB 284 #[uL d,.func (.func 285) #[] #[uP (Aa g 0)]] V1 λi V2=>Br (i=true) (R (rT #[uS (Ad []),uI 11]) V2) (R (rT #[uS b,uI 0]) V2)):TT 283 #[uS a,uS b,uP c] V R:=Ae Tryz.func283 h
theorem x284{a:Sl}{b:Value}(h:TI 301 #[uL a,K.cast .f b] V λc V1=>R (rV (uB (decide (0<=c)))) V1):TT 284 #[uL a,K.cast .f b] V R:=Co Tryz.func284 [] [] false [uL a,b] (by kernel_rfl) (by kernel_rfl) h
theorem x285{a:KB}{b:Option Addr}(h:∃c,V.rowp b ((0:Int).toNat*1) 1=some [uS c]/\R (rV (uB (!(decide (a=c))))) V):TT 285 #[uS a,uP b] V R:=Ae Tryz.func285 h
abbrev w286_0(a:Int)(R:RP)(V:Mem):Prop:=Br (a=6) (R (rV (uI 0)) V) (Br (a=5) (R (rV (uI 1)) V) (Br (a=8) (R (rV (uI 1)) V) (Br (a=18) (R (rV (uI 1)) V) (Br (a=24) (R (rV (uI 1)) V) (Br (a=7) (R (rV (uI (-1))) V) (Br (a=21) (R (rV (uI 3)) V) (Br (9<=a) (Br (a<=23) (R (rV (uI 2)) V) (R (rV (uI (-2))) V)) (R (rV (uI (-2))) V))))))))
theorem x286{a:Int}(h:Br (1<=a) (Br (a<=4) (R (rV (uI 0)) V) (w286_0 a R V)) (w286_0 a R V)):TT 286 #[uI a] V R:=Ae Tryz.func286 h
theorem x287{a b:Int}{c:KB}{d:Sl}(h:Br (a=4) (Br (c=(Ad [116,104,105,115])) (R KX V) (TB 129 #[uS c] V λg V1=>R (rV (uB g)) V1)) (Br (a=5) (TB 129 #[uS c] V λg V1=>R (rV (uB g)) V1) (Br (a=6) (TB 129 #[uS c] V λg V1=>R (rV (uB g)) V1) (Br (a=7) (TB 129 #[uS c] V λg V1=>R (rV (uB g)) V1) (R (rV (uB (decide (c=(Ad []))))) V))))):TT 287 #[uA #[uI a,uI b,uS c,uL d]] V R:=Ae Tryz.func287 h
theorem x288{a:KB}{b c d g i j k l:Sl}{o:Bool}{p:KB}{q:Sl}(h:Br (o=true) (TT 264 #[uD a b c d g i j k,uS p,uL q] V λe V1=>∃r s,e=rT #[uS r,uI s]/\Br (s=0) (Br (r=(Ad [])) (R (rT #[uS (Ad []),uI 11]) V1) (R (rT #[uS r,uI s]) V1)) (R (rT #[uS r,uI s]) V1)) (TI 225 #[uD a b c d g i j k,uS p] V λr V1=>Br (r<0) (R (rT #[uS (Ad []),uI 9]) V1) (Br ((q.n:Int)=1) (¬q.p=none/\(0:Int)<=(0:Int)/\0<(q.n:Int)/\∃s,V1.rowp q.p ((0:Int).toNat*1) 1=some [uS s]/\Ix g r (¬(Aa g.p (r.toNat*7))=none/\∃u y z A B C D,V1.rowp g.p (r.toNat*7) 7=some [uS u,uS y,uI z,uI A,uI B,uS C,uL D]/\TB 267 #[uD a b c d g i j k,uS s,uS y] V1 λF V2=>TT 289 #[uB F,uS (Ad [105,110,116])] V2 λe w=>∃G H,e=rT #[uS G,uI H]/\R (rT #[uS G,uI H]) w)) (R (rT #[uS (Ad []),uI 3]) V1)))):TT 288 #[uD a b c d g i j k,uA #[uL l,uB o],uS p,uL q] V R:=Ae Tryz.func288 h
theorem x289{a:Bool}{b:KB}(h:Br (a=true) (R (rT #[uS b,uI 0]) V) (R (rT #[uS (Ad []),uI 11]) V)):TT 289 #[uB a,uS b] V R:=Ae Tryz.func289 h
theorem x290{a:Sl}{b:KB}(h:Lp [uB false,uI 0] V λI n V1=>∀c d,I n [uB c,uI d] V1->∀k:LMP,Nx I n k->Br (d<(a.n:Int)) (Ix a d (∃g,V1.rowp a.p (d.toNat*1) 1=some [uS g]/\Br (g=b) (IR (d+1)/\k [uB c,uI (d+1)] V1) (R KQ V1))) (R KX V1)):TT 290 #[uL a,uS b] V R:=Ae Tryz.func290 h
theorem x291{a:Sl}{b:Value}(h:Lp [uI 0,uI 0] V λI n V1=>∀c d,I n [uI c,uI d] V1->∀u:LMP,Nx I n u->Br (d<(a.n:Int)) (Ix a d (∃g i,V1.rowp a.p (d.toNat*2) 2=some [uI g,uL i]/\∃f first k,K.cast .f b=.func (.func f) first k/\CO f/\TT f (first++#[uA #[uI g,uL i]]++k) V1 λe V2=>∃j,e=rV (uB j)/\Br (j=true) (R (rV (uI d)) V2) (IR (d+1)/\u [uI c,uI (d+1)] V2))) (R (rV (uI (-1))) V1)):TT 291 #[uL a,K.cast .f b] V R:=Co Tryz.func291 [] [] false [uL a,b] (by kernel_rfl) (by kernel_rfl) h
theorem x292{a:Option Nat}{b c:Sl}{d:KB}{g:Int}(h:Br (d=(Ad [105,110,116])) (Br ((-1099511627776)<=g) (R (rV (uB (decide (g<=1099511627776)))) V) (R KQ V)) (Br (d=(Ad [98,111,111,108])) (Br (g=0) (R KX V) (R (rV (uB (decide (g=1)))) V)) (Br (g=0) (R KX V) (Br (0<g) (Br (g<=(c.n:Int)) (IR (g-1)/\Ix c (g-1) (¬(Aa c.p ((g-1).toNat*2))=none/\∃i j,V.rowp c.p ((g-1).toNat*2) 2=some [uI i,uL j]/\Cd xS 189 (uM a) (uS d) false V λx=>∃k,x=uI k/\V.rowp (Aa (Aa c.p ((g-1).toNat*2)) 0) 0 1=some [uI i]/\¬(Aa c.p ((g-1).toNat*2))=none/\Ix c (g-1) (IR (g-1)/\R (rV (uB (decide (i=k)))) V))) (R KQ V)) (R KQ V))))):TT 292 #[uM a,uA #[uL b,uL c],uS d,uI g] V R:=Ae Tryz.func292 h
theorem x293{a:Option Addr}(h:N2 a (∃b,V.rowp a 11 1=some [uI b]/\N2 a (∃c,V.rowp a 10 1=some [uI c]/\Br (c<=b) (TT 234 #[uP a,uI 20] V λe V1=>(e=rT #[]/\N2 a (∃d,V1.rowp a 11 1=some [uI d]/\IR (d+1)/\N2 a (Ak (Aa a 11) 0 [uI (d+1)] V1 λV2=>R (rT #[]) V2)))∨∃k,e=.panicked k/\R e V1) (N2 a (∃d,V.rowp a 11 1=some [uI d]/\IR (d+1)/\N2 a (Ak (Aa a 11) 0 [uI (d+1)] V λV1=>R (rT #[]) V1)))))):TT 293 #[uP a] V R:=Ae Tryz.func293 h
abbrev w294_0(i:Sl)(V2:Mem)(a b:Option Addr)(p y c:Int)(R:RP):Prop:=¬i.p=none/\(0:Int)<=(0:Int)/\0<(i.n:Int)/\∃z A B C,V2.rowp i.p ((0:Int).toNat*4) 4=some [uI z,uI A,uS B,uL C]/\TS 305 #[uP a,uP b,uA #[uI z,uI A,uS B,uL C]] V2 λD h=>Br (D=(Ad [105,110,116])) (N2 a (∃F,h.rowp a 13 1=some [uI F]/\IR (F+1)/\N2 a (Ak (Aa a 13) 0 [uI (F+1)] h λk=>TI 306 #[uB ((decide (p=y))==(decide (c=14)))] k λG g=>R (rV (uI G)) g))) (TI 306 #[uB ((decide (p=y))==(decide (c=14)))] h λF k=>R (rV (uI F)) k)
abbrev w294_1(i:Sl)(V1:Mem)(a b:Option Addr)(R:RP):Prop:=¬i.p=none/\(0:Int)<=(1:Int)/\1<(i.n:Int)/\∃q r s u,V1.rowp i.p (1*4) 4=some [uI q,uI r,uS s,uL u]/\TT 294 #[uP a,uP b,uA #[uI q,uI r,uS s,uL u]] V1 λe V2=>(∃y,e=rV (uI y)/\R (rV (uI y)) V2)∨∃h,e=.panicked h/\R e V2
def w294(a b:Option Addr)(c d:Int)(g:KB)(i:Sl):MR:=λV R=>Br (c=1) (R (rV (uI d)) V) (Br (c=2) (R (rV (uI d)) V) (Br (c=3) (R (rV (uI 0)) V) (Br (c=4) (N2 b (∃j,V.rowp b ((0:Int).toNat*1) 1=some [uL j]/\TI 295 #[uL j,uS g] V λk V1=>Br (0<=k) (N2 b (∃l,V1.rowp b 1 1=some [uL l]/\Ix l k (IY V1 l k λo=>R (rV (uI o)) V1))) (N2 a (¬(Aa a 0)=none/\∃l,V1.rowp a 2 1=some [uL l]/\TI 295 #[uL l,uS g] V1 λo V2=>TT 296 #[uP a,uI 1,uI 0,uI o] V2 λe w=>e=rT #[]/\N2 a (¬(Aa a 8)=none/\∃p,w.rowp a 8 1=some [uL p]/\Ix p o (IY w p o λq=>R (rV (uI q)) w)))))) (Br (c=5) (¬i.p=none/\(0:Int)<=(0:Int)/\0<(i.n:Int)/\∃j k l o,V.rowp i.p ((0:Int).toNat*4) 4=some [uI j,uI k,uS l,uL o]/\TT 294 #[uP a,uP b,uA #[uI j,uI k,uS l,uL o]] V λe V1=>(∃p,e=rV (uI p)/\Br (p=0) (TT 234 #[uP a,uI 17] V1 λe V2=>(e=rT #[]/\TI 297 #[uP a,uI p,uS g] V2 λq w=>TT 296 #[uP a,uI 1,uI p,uI q] w λe m=>e=rT #[]/\N2 a (¬(Aa a 8)=none/\∃r,m.rowp a 9 1=some [uL r]/\IR (p-1)/\Ix r (p-1) (¬(Aa r.p ((p-1).toNat*2))=none/\∃s u,m.rowp r.p ((p-1).toNat*2) 2=some [uI s,uL u]/\Ix u q (IY m u q λy=>R (rV (uI y)) m))))∨∃h,e=.panicked h/\R e V2) (TI 297 #[uP a,uI p,uS g] V1 λq V2=>TT 296 #[uP a,uI 1,uI p,uI q] V2 λe w=>e=rT #[]/\N2 a (¬(Aa a 8)=none/\∃r,w.rowp a 9 1=some [uL r]/\IR (p-1)/\Ix r (p-1) (¬(Aa r.p ((p-1).toNat*2))=none/\∃s u,w.rowp r.p ((p-1).toNat*2) 2=some [uI s,uL u]/\Ix u q (IY w u q λy=>R (rV (uI y)) w)))))∨∃h,e=.panicked h/\R e V1) (Br (c=6) (N2 a (¬(Aa a 8)=none/\∃j,V.rowp a 9 1=some [uL j]/\Br (4096<=(j.n:Int)) (TT 234 #[uP a,uI 21] V λe V1=>(e=rT #[]/\TI 302 #[uP a,uS g] V1 λk V2=>N2 a (¬(Aa a 8)=none/\∃l,V2.rowp a 9 1=some [uL l]/\N2 a (¬(Aa a 0)=none/\∃o,V2.rowp a 1 1=some [uL o]/\Ix o k (¬(Aa o.p (k.toNat*2))=none/\∃p q,V2.rowp o.p (k.toNat*2) 2=some [uS p,uL q]/\GenK xS (.makeSlice 35 (.tmp 126) (.tmp 126)) 35 (gv [(126,uI (q.n:Int)),(126,uI (q.n:Int))]) V2 λx w=>∃r,x=uL r/\w.rowp (Aa a 9) 0 1=some [uL l]/\¬(Aa a 8)=none/\N2 a (w.rowp (Aa a 9) 0 1=some [uL l]/\¬(Aa a 8)=none/\N2 a (Ag [uI k,uL r] 85 w λs m=>Ap 115 129 43 (uL l) (.slice (Aa s 0) 1 1) m λu J=>N2 a (¬(Aa a 8)=none/\Ak (Aa a 9) 0 [uL u] J λH=>N2 a (¬(Aa a 8)=none/\∃y,H.rowp a 9 1=some [uL y]/\TT 296 #[uP a,uI 3,uI (y.n:Int),uI k] H λe G=>e=rT #[]/\N2 a (¬(Aa a 8)=none/\∃z,G.rowp a 9 1=some [uL z]/\R (rV (uI (z.n:Int))) G)))))))))∨∃h,e=.panicked h/\R e V1) (TI 302 #[uP a,uS g] V λk V1=>N2 a (¬(Aa a 8)=none/\∃l,V1.rowp a 9 1=some [uL l]/\N2 a (¬(Aa a 0)=none/\∃o,V1.rowp a 1 1=some [uL o]/\Ix o k (¬(Aa o.p (k.toNat*2))=none/\∃p q,V1.rowp o.p (k.toNat*2) 2=some [uS p,uL q]/\GenK xS (.makeSlice 35 (.tmp 126) (.tmp 126)) 35 (gv [(126,uI (q.n:Int)),(126,uI (q.n:Int))]) V1 λx V2=>∃r,x=uL r/\V2.rowp (Aa a 9) 0 1=some [uL l]/\¬(Aa a 8)=none/\N2 a (V2.rowp (Aa a 9) 0 1=some [uL l]/\¬(Aa a 8)=none/\N2 a (Ag [uI k,uL r] 85 V2 λs w=>Ap 115 129 43 (uL l) (.slice (Aa s 0) 1 1) w λu m=>N2 a (¬(Aa a 8)=none/\Ak (Aa a 9) 0 [uL u] m λJ=>N2 a (¬(Aa a 8)=none/\∃y,J.rowp a 9 1=some [uL y]/\TT 296 #[uP a,uI 3,uI (y.n:Int),uI k] J λe H=>e=rT #[]/\N2 a (¬(Aa a 8)=none/\∃z,H.rowp a 9 1=some [uL z]/\R (rV (uI (z.n:Int))) H))))))))))) (Br (c=7) (TT 298 #[uP a,uP b,uA #[uI c,uI d,uS g,uL i]] V λe V1=>(∃j,e=rV (uI j)/\R (rV (uI j)) V1)∨∃h,e=.panicked h/\R e V1) (Br (c=8) (¬i.p=none/\(0:Int)<=(0:Int)/\0<(i.n:Int)/\∃j k l o,V.rowp i.p ((0:Int).toNat*4) 4=some [uI j,uI k,uS l,uL o]/\TT 294 #[uP a,uP b,uA #[uI j,uI k,uS l,uL o]] V λe V1=>(∃p,e=rV (uI p)/\IR (0-p)/\TT 303 #[uP a,uI (0-p)] V1 λe V2=>(∃q,e=rV (uI q)/\R (rV (uI q)) V2)∨∃h,e=.panicked h/\R e V2)∨∃h,e=.panicked h/\R e V1) (Br (c=24) (¬i.p=none/\(0:Int)<=(0:Int)/\0<(i.n:Int)/\∃j k l o,V.rowp i.p ((0:Int).toNat*4) 4=some [uI j,uI k,uS l,uL o]/\TT 294 #[uP a,uP b,uA #[uI j,uI k,uS l,uL o]] V λe V1=>(∃p,e=rV (uI p)/\GenK xS (.call {callee:=(.builtin .max),args:=#[(.const (.int .i64 1)),(.tmp 175)],argTypes:=#[3,3]}) 3 (gv [(175,uI p)]) V1 λx V2=>∃q,x=uI q/\K.inR .u64 q/\TI 304 #[.int .u64 q] V2 λr w=>IR (r-1)/\R (rV (uI (r-1))) w)∨∃h,e=.panicked h/\R e V1) (Br (c=18) (¬i.p=none/\(0:Int)<=(0:Int)/\0<(i.n:Int)/\∃j k l o,V.rowp i.p ((0:Int).toNat*4) 4=some [uI j,uI k,uS l,uL o]/\TT 294 #[uP a,uP b,uA #[uI j,uI k,uS l,uL o]] V λe V1=>(∃p,e=rV (uI p)/\IR (1-p)/\R (rV (uI (1-p))) V1)∨∃h,e=.panicked h/\R e V1) (Br (c=19) (¬i.p=none/\(0:Int)<=(0:Int)/\0<(i.n:Int)/\∃j k l o,V.rowp i.p ((0:Int).toNat*4) 4=some [uI j,uI k,uS l,uL o]/\TT 294 #[uP a,uP b,uA #[uI j,uI k,uS l,uL o]] V λe V1=>(∃p,e=rV (uI p)/\Br (p=0) (R (rV (uI 0)) V1) (w294_1 i V1 a b R))∨∃h,e=.panicked h/\R e V1) (Br (c=20) (¬i.p=none/\(0:Int)<=(0:Int)/\0<(i.n:Int)/\∃j k l o,V.rowp i.p ((0:Int).toNat*4) 4=some [uI j,uI k,uS l,uL o]/\TT 294 #[uP a,uP b,uA #[uI j,uI k,uS l,uL o]] V λe V1=>(∃p,e=rV (uI p)/\Br (p=1) (R (rV (uI 1)) V1) (w294_1 i V1 a b R))∨∃h,e=.panicked h/\R e V1) (Br (c=21) (¬i.p=none/\(0:Int)<=(0:Int)/\0<(i.n:Int)/\∃j k l o,V.rowp i.p ((0:Int).toNat*4) 4=some [uI j,uI k,uS l,uL o]/\TT 294 #[uP a,uP b,uA #[uI j,uI k,uS l,uL o]] V λe V1=>(∃p,e=rV (uI p)/\Br (p=1) (w294_1 i V1 a b R) (¬i.p=none/\(0:Int)<=(2:Int)/\2<(i.n:Int)/\∃q r s u,V1.rowp i.p (2*4) 4=some [uI q,uI r,uS s,uL u]/\TT 294 #[uP a,uP b,uA #[uI q,uI r,uS s,uL u]] V1 λe V2=>(∃y,e=rV (uI y)/\R (rV (uI y)) V2)∨∃h,e=.panicked h/\R e V2))∨∃h,e=.panicked h/\R e V1) (¬i.p=none/\(0:Int)<=(0:Int)/\0<(i.n:Int)/\∃j k l o,V.rowp i.p ((0:Int).toNat*4) 4=some [uI j,uI k,uS l,uL o]/\TT 294 #[uP a,uP b,uA #[uI j,uI k,uS l,uL o]] V λe V1=>(∃p,e=rV (uI p)/\¬i.p=none/\(0:Int)<=(1:Int)/\1<(i.n:Int)/\∃q r s u,V1.rowp i.p (1*4) 4=some [uI q,uI r,uS s,uL u]/\TT 294 #[uP a,uP b,uA #[uI q,uI r,uS s,uL u]] V1 λe V2=>(∃y,e=rV (uI y)/\Br (c=14) (w294_0 i V2 a b p y c R) (Br (c=15) (w294_0 i V2 a b p y c R) (Br (c=16) (N2 a (∃z,V2.rowp a 13 1=some [uI z]/\IR (z+1)/\N2 a (Ak (Aa a 13) 0 [uI (z+1)] V2 λw=>TI 306 #[uB (decide (p<y))] w λA m=>R (rV (uI A)) m))) (Br (c=17) (N2 a (∃z,V2.rowp a 13 1=some [uI z]/\IR (z+1)/\N2 a (Ak (Aa a 13) 0 [uI (z+1)] V2 λw=>TI 306 #[uB (decide (p<=y))] w λA m=>R (rV (uI A)) m))) (TT 307 #[uP a,uI c,uI p,uI y] V2 λe w=>(∃z,e=rV (uI z)/\R (rV (uI z)) w)∨∃h,e=.panicked h/\R e w)))))∨∃h,e=.panicked h/\R e V2)∨∃h,e=.panicked h/\R e V1)))))))))))))
theorem x294{a b:Option Addr}{c d:Int}{g:KB}{i:Sl}(h:w294 a b c d g i V R):TT 294 #[uP a,uP b,uA #[uI c,uI d,uS g,uL i]] V R:=Ae Tryz.func294 h
theorem x295{a:Sl}{b:KB}(h:Ag [uS b] 9 V λc V1=>TI 136 #[uL a,.func (.func 308) #[] #[uP (Aa c 0)]] V1 λd V2=>R (rV (uI d)) V2):TT 295 #[uL a,uS b] V R:=Ae Tryz.func295 h
theorem x296{a:Option Addr}{b c d:Int}(h:N2 a (∃g,V.rowp a 14 1=some [uL g]/\Ag [uI b,uI c,uI d] 150 V λi V1=>Ap 12 17 110 (uL g) (.slice (Aa i 0) 1 1) V1 λj V2=>N2 a (Ak (Aa a 14) 0 [uL j] V2 λk=>R (rT #[]) k))):TT 296 #[uP a,uI b,uI c,uI d] V R:=Ae Tryz.func296 h
theorem x297{a:Option Addr}{b:Int}{c:KB}(h:N2 a (¬(Aa a 0)=none/\∃d,V.rowp a 1 1=some [uL d]/\N2 a (¬(Aa a 8)=none/\∃g,V.rowp a 9 1=some [uL g]/\IR (b-1)/\Ix g (b-1) (¬(Aa g.p ((b-1).toNat*2))=none/\∃i j,V.rowp g.p ((b-1).toNat*2) 2=some [uI i,uL j]/\Ix d i (¬(Aa d.p (i.toNat*2))=none/\∃k l,V.rowp d.p (i.toNat*2) 2=some [uS k,uL l]/\TI 295 #[uL l,uS c] V λo V1=>R (rV (uI o)) V1))))):TT 297 #[uP a,uI b,uS c] V R:=Ae Tryz.func297 h
theorem x298{a b:Option Addr}{c d:Int}{g:KB}{i:Sl}(h:Lp [z0,uI 0] V λI n V1=>∀j k,I n [uL j,uI k] V1->∀m:LMP,Nx I n m->Br (k<(i.n:Int)) (Ix i k (∃l o p q,V1.rowp i.p (k.toNat*4) 4=some [uI l,uI o,uS p,uL q]/\TT 294 #[uP a,uP b,uA #[uI l,uI o,uS p,uL q]] V1 λe V2=>(∃r,e=rV (uI r)/\Ag [uI r] 3 V2 λs w=>Ap 17 22 35 (uL j) (.slice (Aa s 0) 1 1) w λu J=>IR (k+1)/\m [uL u,uI (k+1)] J)∨∃x,e=.panicked x/\R e V2)) (N2 a (¬(Aa a 0)=none/\∃l,V1.rowp a 3 1=some [uL l]/\N2 a (∃o p q r s u y z,V1.rowp a ((0:Int).toNat*1) 8=some [uS o,uL p,uL q,uL r,uL s,uL u,uL y,uL z]/\TI 232 #[uD o p q r s u y z,uS g] V1 λA V2=>V2.rowp (Aa a 3) 0 1=some [uL l]/\¬(Aa a 0)=none/\N2 a (Ix l A (∃B C D F G,V2.rowp l.p (A.toNat*5) 5=some [uS B,uL C,uS D,uL F,uL G]/\TT 192 #[uP a,uA #[uS B,uL C,uS D,uL F,uL G],uL j] V2 λe w=>(∃H,e=rV (uI H)/\R (rV (uI H)) w)∨∃x,e=.panicked x/\R e w)))))):TT 298 #[uP a,uP b,uA #[uI c,uI d,uS g,uL i]] V R:=Ae Tryz.func298 h
theorem x300{a b:KB}{c d g:Int}{i:KB}{j:Sl}{k:Option Addr}(h:∃l,V.rowp k ((0:Int).toNat*1) 1=some [uS l]/\R (rV (uB (decide (a=l)))) V):TT 300 #[uA #[uS a,uS b,uI c,uI d,uI g,uS i,uL j],uP k] V R:=Ae Tryz.func300 h
theorem x301{a:Sl}{b:Value}(h:Lp [uI 0,uI 0] V λI n V1=>∀c d,I n [uI c,uI d] V1->∀u:LMP,Nx I n u->Br (d<(a.n:Int)) (Ix a d (∃g,V1.rowp a.p (d.toNat*1) 1=some [uS g]/\∃f first k,K.cast .f b=.func (.func f) first k/\CO f/\TT f (first++#[uS g]++k) V1 λe V2=>∃i,e=rV (uB i)/\Br (i=true) (R (rV (uI d)) V2) (IR (d+1)/\u [uI c,uI (d+1)] V2))) (R (rV (uI (-1))) V1)):TT 301 #[uL a,K.cast .f b] V R:=Co Tryz.func301 [] [] false [uL a,b] (by kernel_rfl) (by kernel_rfl) h
theorem x302{a:Option Addr}{b:KB}(h:N2 a (¬(Aa a 0)=none/\∃c,V.rowp a 1 1=some [uL c]/\Ag [uS b] 9 V λd V1=>TI 152 #[uL c,.func (.func 311) #[] #[uP (Aa d 0)]] V1 λg V2=>R (rV (uI g)) V2)):TT 302 #[uP a,uS b] V R:=Ae Tryz.func302 h
theorem x303{a:Option Addr}{b:Int}(h:Br (1099511627776<b) (TT 234 #[uP a,uI 5] V λe V1=>(e=rT #[]/\R (rV (uI b)) V1)∨∃k,e=.panicked k/\R e V1) (Br (b<(-1099511627776)) (TT 234 #[uP a,uI 5] V λe V1=>(e=rT #[]/\R (rV (uI b)) V1)∨∃k,e=.panicked k/\R e V1) (R (rV (uI b)) V))):TT 303 #[uP a,uI b] V R:=Ae Tryz.func303 h
theorem x304{a:Int}(h:TI 313 #[.int .u64 a] V λb V1=>R (rV (uI b)) V1):TT 304 #[.int .u64 a] V R:=Ae Tryz.func304 h
theorem x305{a b:Option Addr}{c d:Int}{g:KB}{i:Sl}(h:Br (c=4) (N2 b (∃j,V.rowp b ((0:Int).toNat*1) 1=some [uL j]/\TI 295 #[uL j,uS g] V λk V1=>Br (0<=k) (N2 b (∃l,V1.rowp b ((0:Int).toNat*1) 1=some [uL l]/\Ix l k (¬(Aa l.p (k.toNat*2))=none/\∃o p,V1.rowp l.p (k.toNat*2) 2=some [uS o,uS p]/\R (rV (uS p)) V1))) (N2 a (¬(Aa a 0)=none/\∃l,V1.rowp a 2 1=some [uL l]/\N2 a (¬(Aa a 0)=none/\∃o,V1.rowp a 2 1=some [uL o]/\TI 295 #[uL o,uS g] V1 λp V2=>V2.rowp (Aa a 2) 0 1=some [uL l]/\¬(Aa a 0)=none/\N2 a (Ix l p (¬(Aa l.p (p.toNat*2))=none/\∃q r,V2.rowp l.p (p.toNat*2) 2=some [uS q,uS r]/\R (rV (uS r)) V2))))))) (Br (c=5) (N2 a (¬(Aa a 0)=none/\∃j,V.rowp a 1 1=some [uL j]/\¬i.p=none/\(0:Int)<=(0:Int)/\0<(i.n:Int)/\∃k l o p,V.rowp i.p ((0:Int).toNat*4) 4=some [uI k,uI l,uS o,uL p]/\TS 305 #[uP a,uP b,uA #[uI k,uI l,uS o,uL p]] V λq V1=>V1.rowp (Aa a 1) 0 1=some [uL j]/\¬(Aa a 0)=none/\N2 a (TI 302 #[uP a,uS q] V1 λr V2=>V2.rowp (Aa a 1) 0 1=some [uL j]/\¬(Aa a 0)=none/\N2 a (Ix j r (∃s u,V2.rowp j.p (r.toNat*2) 2=some [uS s,uL u]/\TI 295 #[uL u,uS g] V2 λy w=>Ix u y (¬(Aa u.p (y.toNat*2))=none/\∃z A,w.rowp u.p (y.toNat*2) 2=some [uS z,uS A]/\R (rV (uS A)) w)))))) (Br (c=6) (R (rV (uS g)) V) (Br (c=7) (N2 a (¬(Aa a 0)=none/\∃j,V.rowp a 3 1=some [uL j]/\N2 a (∃k l o p q r s u,V.rowp a ((0:Int).toNat*1) 8=some [uS k,uL l,uL o,uL p,uL q,uL r,uL s,uL u]/\TI 232 #[uD k l o p q r s u,uS g] V λy V1=>V1.rowp (Aa a 3) 0 1=some [uL j]/\¬(Aa a 0)=none/\N2 a (Ix j y (¬(Aa j.p (y.toNat*5))=none/\∃z A B C D,V1.rowp j.p (y.toNat*5) 5=some [uS z,uL A,uS B,uL C,uL D]/\R (rV (uS B)) V1))))) (Br (c=21) (¬i.p=none/\(0:Int)<=(1:Int)/\1<(i.n:Int)/\∃j k l o,V.rowp i.p (1*4) 4=some [uI j,uI k,uS l,uL o]/\TS 305 #[uP a,uP b,uA #[uI j,uI k,uS l,uL o]] V λp V1=>Br (p=(Ad [110,105,108])) (¬i.p=none/\(0:Int)<=(2:Int)/\2<(i.n:Int)/\∃q r s u,V1.rowp i.p (2*4) 4=some [uI q,uI r,uS s,uL u]/\TS 305 #[uP a,uP b,uA #[uI q,uI r,uS s,uL u]] V1 λy V2=>R (rV (uS y)) V2) (R (rV (uS p)) V1)) (Br (c=3) (R (rV (uS (Ad [110,105,108]))) V) (Br (c=2) (R (rV (uS (Ad [98,111,111,108]))) V) (Br (c=18) (R (rV (uS (Ad [98,111,111,108]))) V) (Br (c=19) (R (rV (uS (Ad [98,111,111,108]))) V) (Br (c=20) (R (rV (uS (Ad [98,111,111,108]))) V) (Br (c=14) (R (rV (uS (Ad [98,111,111,108]))) V) (Br (c=15) (R (rV (uS (Ad [98,111,111,108]))) V) (Br (c=16) (R (rV (uS (Ad [98,111,111,108]))) V) (Br (c=17) (R (rV (uS (Ad [98,111,111,108]))) V) (R (rV (uS (Ad [105,110,116]))) V))))))))))))))):TT 305 #[uP a,uP b,uA #[uI c,uI d,uS g,uL i]] V R:=Ae Tryz.func305 h
theorem x306{a:Bool}(h:Br (a=true) (R (rV (uI 1)) V) (R (rV (uI 0)) V)):TT 306 #[uB a] V R:=Ae Tryz.func306 h
abbrev w307_0(d:Int)(a:Option Addr)(V:Mem)(b:Int)(R:RP)(c:Int):Prop:=Br (d=0) (TT 234 #[uP a,uI 18] V λe V1=>(e=rT #[]/\Br (b=12) (¬d=0/\R (rV (uI (xT .i64 ((c).tdiv d)))) V1) (¬d=0/\R (rV (uI ((c).tmod d))) V1))∨∃h,e=.panicked h/\R e V1) (Br (b=12) (¬d=0/\R (rV (uI (xT .i64 ((c).tdiv d)))) V) (¬d=0/\R (rV (uI ((c).tmod d))) V))
theorem x307{a:Option Addr}{b c d:Int}(h:Br (b=9) (IR (c+d)/\TT 303 #[uP a,uI (c+d)] V λe V1=>(∃g,e=rV (uI g)/\R (rV (uI g)) V1)∨∃k,e=.panicked k/\R e V1) (Br (b=10) (IR (c-d)/\TT 303 #[uP a,uI (c-d)] V λe V1=>(∃g,e=rV (uI g)/\R (rV (uI g)) V1)∨∃k,e=.panicked k/\R e V1) (Br (b=11) (Br (c=0) (IR (c*d)/\R (rV (uI (c*d))) V) (TI 314 #[uI d] V λg V1=>TI 314 #[uI c] V1 λi V2=>¬i=0/\Br ((xT .i64 (((1099511627776:Int)).tdiv i))<g) (TT 234 #[uP a,uI 5] V2 λe u=>(e=rT #[]/\IR (c*d)/\R (rV (uI (c*d))) u)∨∃k,e=.panicked k/\R e u) (IR (c*d)/\R (rV (uI (c*d))) V2))) (Br (b=12) (w307_0 d a V b R c) (Br (b=13) (w307_0 d a V b R c) (Br (b=22) (GenK xS (.call {callee:=(.builtin .max),args:=#[(.tmp 58),(.tmp 59)],argTypes:=#[3,3]}) 3 (gv [(58,uI c),(59,uI d)]) V λx V1=>∃g,x=uI g/\R (rV (uI g)) V1) (GenK xS (.call {callee:=(.builtin .min),args:=#[(.tmp 61),(.tmp 62)],argTypes:=#[3,3]}) 3 (gv [(61,uI c),(62,uI d)]) V λx V1=>∃g,x=uI g/\R (rV (uI g)) V1))))))):TT 307 #[uP a,uI b,uI c,uI d] V R:=Ae Tryz.func307 h
theorem x308{a b:KB}{c:Option Addr}(h:∃d,V.rowp c ((0:Int).toNat*1) 1=some [uS d]/\R (rV (uB (decide (a=d)))) V):TT 308 #[uA #[uS a,uS b],uP c] V R:=Ae Tryz.func308 h
theorem x311{a:KB}{b:Sl}{c:Option Addr}(h:∃d,V.rowp c ((0:Int).toNat*1) 1=some [uS d]/\R (rV (uB (decide (a=d)))) V):TT 311 #[uA #[uS a,uL b],uP c] V R:=Ae Tryz.func311 h
end
end Go.Proofs
namespace Go.Proofs
open Go Go.Sx
set_option maxRecDepth 100000
section
variable{V:Mem}{R:RP}
abbrev Cj:KB:=
 Ad [0,1,2,2,3,3,3,3,4,4,4,4,4,4,4,4,5,5,5,5,5,5,5,5,5,5,5,5,5,5,5,5,6,6,6,6,6,6,6,6,6,6,6,6,6,6,6,6,6,6,6,6,6,6,6,6,6,6,6,6,6,6,6,6,7,7,7,7,7,7,7,7,7,7,7,7,7,7,7,7,7,7,7,7,7,7,7,7,7,7,7,7,7,7,7,7,7,7,7,7,7,7,7,7,7,7,7,7,7,7,7,7,7,7,7,7,7,7,7,7,7,7,7,7,7,7,7,7,8,8,8,8,8,8,8,8,8,8,8,8,8,8,8,8,8,8,8,8,8,8,8,8,8,8,8,8,8,8,8,8,8,8,8,8,8,8,8,8,8,8,8,8,8,8,8,8,8,8,8,8,8,8,8,8,8,8,8,8,8,8,8,8,8,8,8,8,8,8,8,8,8,8,8,8,8,8,8,8,8,8,8,8,8,8,8,8,8,8,8,8,8,8,8,8,8,8,8,8,8,8,8,8,8,8,8,8,8,8,8,8,8,8,8,8,8,8,8,8,8,8,8,8,8,8,8,8]
theorem x313{a:Int}(h:Br (4294967296<=a) (GenK xS (.binOp .shr 403 (.tmp 5) (.const (.int .u64 32)) 341) 403 (gv [(5,.int .u64 a)]) V λx V1=>∃b,x=.int .u64 b/\Br (65536<=b) (GenK xS (.binOp .shr 403 (.tmp 9) (.const (.int .u64 16)) 341) 403 (gv [(9,.int .u64 b)]) V1 λx V2=>∃c,x=.int .u64 c/\IR ((32:Int)+(16:Int))/\Br (256<=c) (GenK xS (.binOp .shr 403 (.tmp 15) (.const (.int .u64 8)) 341) 403 (gv [(15,.int .u64 c)]) V2 λx k=>∃d,x=.int .u64 d/\IR (((32:Int)+(16:Int))+8)/\K.inR .u8 d/\(0<=d/\d<((Cj).size:Int))/\IR (Bq (Cj) d)/\IR ((((32:Int)+(16:Int))+8)+(Bq (Cj) d))/\R (rV (uI ((((32:Int)+(16:Int))+8)+(Bq (Cj) d)))) k) (K.inR .u8 c/\(0<=c/\c<((Cj).size:Int))/\IR (Bq (Cj) c)/\IR (((32:Int)+(16:Int))+(Bq (Cj) c))/\R (rV (uI (((32:Int)+(16:Int))+(Bq (Cj) c)))) V2)) (Br (256<=b) (GenK xS (.binOp .shr 403 (.tmp 15) (.const (.int .u64 8)) 341) 403 (gv [(15,.int .u64 b)]) V1 λx V2=>∃c,x=.int .u64 c/\IR ((32:Int)+(8:Int))/\K.inR .u8 c/\(0<=c/\c<((Cj).size:Int))/\IR (Bq (Cj) c)/\IR (((32:Int)+(8:Int))+(Bq (Cj) c))/\R (rV (uI (((32:Int)+(8:Int))+(Bq (Cj) c)))) V2) (K.inR .u8 b/\(0<=b/\b<((Cj).size:Int))/\IR (Bq (Cj) b)/\IR (32+(Bq (Cj) b))/\R (rV (uI (32+(Bq (Cj) b)))) V1))) (Br (65536<=a) (GenK xS (.binOp .shr 403 (.tmp 9) (.const (.int .u64 16)) 341) 403 (gv [(9,.int .u64 a)]) V λx V1=>∃b,x=.int .u64 b/\IR ((0:Int)+(16:Int))/\Br (256<=b) (GenK xS (.binOp .shr 403 (.tmp 15) (.const (.int .u64 8)) 341) 403 (gv [(15,.int .u64 b)]) V1 λx V2=>∃c,x=.int .u64 c/\IR (((0:Int)+(16:Int))+8)/\K.inR .u8 c/\(0<=c/\c<((Cj).size:Int))/\IR (Bq (Cj) c)/\IR ((((0:Int)+(16:Int))+8)+(Bq (Cj) c))/\R (rV (uI ((((0:Int)+(16:Int))+8)+(Bq (Cj) c)))) V2) (K.inR .u8 b/\(0<=b/\b<((Cj).size:Int))/\IR (Bq (Cj) b)/\IR (((0:Int)+(16:Int))+(Bq (Cj) b))/\R (rV (uI (((0:Int)+(16:Int))+(Bq (Cj) b)))) V1)) (Br (256<=a) (GenK xS (.binOp .shr 403 (.tmp 15) (.const (.int .u64 8)) 341) 403 (gv [(15,.int .u64 a)]) V λx V1=>∃b,x=.int .u64 b/\IR ((0:Int)+(8:Int))/\K.inR .u8 b/\(0<=b/\b<((Cj).size:Int))/\IR (Bq (Cj) b)/\IR (((0:Int)+(8:Int))+(Bq (Cj) b))/\R (rV (uI (((0:Int)+(8:Int))+(Bq (Cj) b)))) V1) (K.inR .u8 a/\(0<=a/\a<((Cj).size:Int))/\IR (Bq (Cj) a)/\IR (0+(Bq (Cj) a))/\R (rV (uI (0+(Bq (Cj) a)))) V)))):TT 313 #[.int .u64 a] V R:=Ae Tryz.func313 h
theorem x314{a:Int}(h:IR (0-a)/\GenK xS (.call {callee:=(.builtin .max),args:=#[(.tmp 3),(.tmp 5)],argTypes:=#[3,3]}) 3 (gv [(3,uI a),(5,uI (0-a))]) V λx V1=>∃b,x=uI b/\R (rV (uI b)) V1):TT 314 #[uI a] V R:=Ae Tryz.func314 h
def Mi(a:KB)(b c d g i j k l:Sl):MR:=λV R=>TT 29 #[uD a b c d g i j k] V λe V1=>∃o p,e=rT #[uP o,uI p]/\TB 34 #[uD a b c d g i j k] V1 λq V2=>Br (q=true) (TT 35 #[uD a b c d g i j k] V2 λe m=>∃r s u y z A B C D F G H L,e=rV (uA #[uS r,uL s,uL u,uL y,uL z,uL A,uL B,uL C,uL D,uL F,uL G,uI H,uI L])/\Br (p=0) (Br (o=none) (R (rT #[uP none,uA #[uS r,uL s,uL u,uL y,uL z,uL A,uL B,uL C,uL D,uL F,uL G,uI H,uI L],uB false]) m) (Lp [uS r,uL s,uL u,uL y,uL z,uL A,uL B,uL C,uL D,uL F,uL G,uI H,uI L,uP none,uB false,uI 0] m λI n w=>∀M N O P Q U W X Y Z a0 a1 a2 a3 S h,I n [uS M,uL N,uL O,uL P,uL Q,uL U,uL W,uL X,uL Y,uL Z,uL a0,uI a1,uI a2,uP a3,uB S,uI h] w->∀T:LMP,Nx I n T->Br (h<(l.n:Int)) (Ix l h (∃J E K,w.rowp l.p (h.toNat*3) 3=some [uI J,uS E,uL K]/\TT 26 #[uP o,uI J,uA #[uS E,uL K],uI 120] w λe V5=>∃a9 b0 b1 b2 b3 b4 b5,e=rT #[uI a9,uA #[uI b0,uI b1,uI b2,uI b3,uI b4],uI b5]/\TT 36 #[uA #[uS M,uL N,uL O,uL P,uL Q,uL U,uL W,uL X,uL Y,uL Z,uL a0,uI a1,uI a2],uI J,uA #[uS E,uL K],uI 120] V5 λe x=>∃b6 b7 b8 b9 c0 c1 c2 c3 c4 c5 c6 c7 c8 c9 d0 d1 d2 d3 d4 d5,e=rT #[uA #[uS b6,uL b7,uL b8,uL b9,uL c0,uL c1,uL c2,uL c3,uL c4,uL c5,uL c6,uI c7,uI c8],uI c9,uA #[uI d0,uI d1,uI d2,uI d3,uI d4],uI d5]/\Br (a9=c9) (Br ((b0=d0)/\((b1=d1)/\((b2=d2)/\((b3=d3)/\(b4=d4))))) (Br (b5=d5) (IR (h+1)/\T [uS b6,uL b7,uL b8,uL b9,uL c0,uL c1,uL c2,uL c3,uL c4,uL c5,uL c6,uI c7,uI c8,uP a3,uB S,uI (h+1)] x) (R (rT #[uP none,uA #[uS M,uL N,uL O,uL P,uL Q,uL U,uL W,uL X,uL Y,uL Z,uL a0,uI a1,uI a2],uB false]) x)) (R (rT #[uP none,uA #[uS M,uL N,uL O,uL P,uL Q,uL U,uL W,uL X,uL Y,uL Z,uL a0,uI a1,uI a2],uB false]) x)) (R (rT #[uP none,uA #[uS M,uL N,uL O,uL P,uL Q,uL U,uL W,uL X,uL Y,uL Z,uL a0,uI a1,uI a2],uB false]) x))) (R (rT #[uP o,uA #[uS M,uL N,uL O,uL P,uL Q,uL U,uL W,uL X,uL Y,uL Z,uL a0,uI a1,uI a2],uB true]) w))) (R (rT #[uP none,uA #[uS r,uL s,uL u,uL y,uL z,uL A,uL B,uL C,uL D,uL F,uL G,uI H,uI L],uB false]) m)) (Br (p=1) (R (rT #[uP none,uA #[uS (Ad []),z0,z0,z0,z0,z0,z0,z0,z0,z0,z0,uI 0,uI 0],uB (o).isNone]) V2) (R (rT #[uP none,uA #[uS (Ad []),z0,z0,z0,z0,z0,z0,z0,z0,z0,z0,uI 0,uI 0],uB false]) V2))
theorem QY{a:KB}{b c d g i j k l:Sl}(h:Mi a b c d g i j k l V R):TT 10 #[uD a b c d g i j k,uL l] V R:=FJ Tryz.func10 [] [(8,[9])] false (by kernel_rfl) (by kernel_rfl) h
theorem QZ{a:KB}{b c d g i j k l o p:Sl}{q r s:Int}{u:KB}{y:Sl}{z:Int}(h:TI 42 #[uA #[uS a,uL b,uL c,uL d,uL g,uL i,uL j,uL k,uL l,uL o,uL p,uI q,uI r],uI s,uA #[uS u,uL y],uI z] V λA V1=>Br (A=0) (Br (1000<=(l.n:Int)) (R (rT #[uA #[uS a,uL b,uL c,uL d,uL g,uL i,uL j,uL k,uL l,uL o,uL p,uI q,uI r],uI 0,uA #[uI 0,uI 0,uI 0,uI 0,uI 0],uI 4]) V1) (Ix o s (∃B C,V1.rowp o.p (s.toNat*2) 2=some [uL B,uL C]/\TP 43 #[uD a b c d g i j k,uA #[uL B,uL C],uA #[uS u,uL y],uI z] V1 λD V2=>TT 44 #[uP D] V2 λe V3=>∃F G H L M,e=rV (uA #[uI F,uI G,uI H,uI L,uI M])/\Br (F=0) (Ix p s (∃N,V3.rowp p.p (s.toNat*1) 1=some [uL N]/\Ag [] 3 V3 λO V4=>Ap 53 58 35 (.slice (Aa O 0) (0:Int).toNat (0:Int).toNat) (uL N) V4 λP V5=>Lp [uS a,uL b,uL c,uL d,uL g,uL i,uL j,uL k,uL l,uL o,uL p,uI q,uI r,uL P] V5 λI n V6=>∀Q U W X Y Z a0 a1 a2 a3 a4 a5 a6 a7,I n [uS Q,uL U,uL W,uL X,uL Y,uL Z,uL a0,uL a1,uL a2,uL a3,uL a4,uI a5,uI a6,uL a7] V6->∀J0:LMP,Nx I n J0->N2 D (¬(Aa D 8)=none/\∃a8,V6.rowp D 9 1=some [uL a8]/\Br ((a7.n:Int)<(a8.n:Int)) (Ag [uI a5] 3 V6 λm x=>Ap 69 72 35 (uL a7) (.slice (Aa m 0) 1 1) x λb0 V8=>IR (a5+1)/\J0 [uS Q,uL U,uL W,uL X,uL Y,uL Z,uL a0,uL a1,uL a2,uL a3,uL a4,uI (a5+1),uI a6,uL b0] V8) (Lp [uS Q,uL U,uL W,uL X,uL Y,uL Z,uL a0,uL a1,uL a2,uL a3,uL a4,uI a5,uI a6,uI 0] V6 λI n x=>∀m b0 b1 b2 b3 K S b6 b7 b8 b9 c0 c1 w,I n [uS m,uL b0,uL b1,uL b2,uL b3,uL K,uL S,uL b6,uL b7,uL b8,uL b9,uI c0,uI c1,uI w] x->∀J1:LMP,Nx I n J1->N2 D (∃c3,x.rowp D 17 1=some [uL c3]/\Br (w<(c3.n:Int)) (N2 D (∃T,x.rowp D 17 1=some [uL T]/\Ix T w (¬(Aa T.p (w.toNat*3))=none/\∃c5 c6 c7,x.rowp T.p (w.toNat*3) 3=some [uI c5,uI c6,uI c7]/\Br (c5=2) (N2 D (∃J,x.rowp D 17 1=some [uL J]/\Ix J w (¬(Aa J.p (w.toNat*3))=none/\∃c9 E d1,x.rowp J.p (w.toNat*3) 3=some [uI c9,uI E,uI d1]/\Br (E=0) (IR (w+1)/\J1 [uS m,uL b0,uL b1,uL b2,uL b3,uL K,uL S,uL b6,uL b7,uL b8,uL b9,uI c0,uI c1,uI (w+1)] x) (IR (c1+1)/\IR (w+1)/\J1 [uS m,uL b0,uL b1,uL b2,uL b3,uL K,uL S,uL b6,uL b7,uL b8,uL b9,uI c0,uI (c1+1),uI (w+1)] x)))) (IR (w+1)/\J1 [uS m,uL b0,uL b1,uL b2,uL b3,uL K,uL S,uL b6,uL b7,uL b8,uL b9,uI c0,uI c1,uI (w+1)] x)))) (N2 D (∃T c5,x.rowp D 8 2=some [uL T,uL c5]/\TT 61 #[uD m b0 b1 b2 b3 K S b6,uA #[uL T,uL c5]] x λe V8=>∃c6 c7,e=rV (uA #[uL c6,uI c7])/\Lp [z0,uI 0] V8 λI n V9=>∀J c9,I n [uL J,uI c9] V9->∀J2:LMP,Nx I n J2->Br (c9<(c6.n:Int)) (Ix c6 c9 (IY V9 c6 c9 λE=>IR (E-1)/\Ix a7 (E-1) (∃d1,V9.rowp a7.p ((E-1).toNat*1) 1=some [uI d1]/\Ag [uI d1] 3 V9 λd2 V10=>Ap 125 134 35 (uL J) (.slice (Aa d2 0) 1 1) V10 λd3 V11=>IR (c9+1)/\J2 [uL d3,uI (c9+1)] V11))) (Ag [] 3 V9 λE V10=>Ap 136 138 35 (.slice (Aa E 0) (0:Int).toNat (0:Int).toNat) (uL b7) V10 λd1 V11=>Ag [uI s] 3 V11 λd2 V12=>Ap 139 141 35 (uL d1) (.slice (Aa d2 0) 1 1) V12 λd3 V13=>N2 D (∃d4 d5,V13.rowp D 8 2=some [uL d4,uL d5]/\V13.rowp (Aa D 8) 0 2=some [uL d4,uL d5]/\N2 D (Ag [] 45 V13 λd6 V14=>Ap 144 146 36 (.slice (Aa d6 0) (0:Int).toNat (0:Int).toNat) (uL b8) V14 λd7 V15=>V15.rowp (Aa D 8) 0 2=some [uL d4,uL d5]/\N2 D (TT 62 #[uD m b0 b1 b2 b3 K S b6,uA #[uL d4,uL d5]] V15 λe V16=>∃d8 d9,e=rV (uA #[uL d8,uL d9])/\Ag [uL d8,uL d9] 45 V16 λg0 V17=>Ap 147 155 36 (uL d7) (.slice (Aa g0 0) 1 1) V17 λg1 V18=>Ag [] 35 V18 λg2 V19=>Ap 158 160 37 (.slice (Aa g2 0) (0:Int).toNat (0:Int).toNat) (uL b9) V19 λg3 V20=>Ag [uL J] 35 V20 λg4 V21=>Ap 161 163 37 (uL g3) (.slice (Aa g4 0) 1 1) V21 λg5 V22=>IR ((d3.n:Int)-1)/\IR ((d3.n:Int)-1)/\R (rT #[uA #[uS m,uL b0,uL b1,uL b2,uL b3,uL K,uL S,uL b6,uL d3,uL g1,uL g5,uI c0,uI c1],uI ((d3.n:Int)-1),uA #[uI F,uI G,uI H,uI L,uI M],uI 0]) V22))))))))))) (R (rT #[uA #[uS a,uL b,uL c,uL d,uL g,uL i,uL j,uL k,uL l,uL o,uL p,uI q,uI r],uI (-1),uA #[uI F,uI G,uI H,uI L,uI M],uI 0]) V3)))) (R (rT #[uA #[uS a,uL b,uL c,uL d,uL g,uL i,uL j,uL k,uL l,uL o,uL p,uI q,uI r],uI 0,uA #[uI 0,uI 0,uI 0,uI 0,uI 0],uI A]) V1)):TT 36 #[uA #[uS a,uL b,uL c,uL d,uL g,uL i,uL j,uL k,uL l,uL o,uL p,uI q,uI r],uI s,uA #[uS u,uL y],uI z] V R:=FJ Tryz.func36 [] [(11,[4]),(15,[4])] false (by kernel_rfl) (by kernel_rfl) h
theorem Q0{a:KB}{b c d g i j k l o:Sl}(h:TT 61 #[uD a b c d g i j k,uA #[uL l,uL o]] V λe V1=>∃p q,e=rV (uA #[uL p,uI q])/\TL 92 #[uL c,uL l,uL p] V1 λr V2=>Lp [uL r,z0,uI 0] V2 λI n w=>∀s u y,I n [uL s,uL u,uI y] w->∀x:LMP,Nx I n x->Br (y<(p.n:Int)) (Ix p y (∃z,w.rowp p.p (y.toNat*1) 1=some [uI z]/\IR (z-1)/\Ix o (z-1) (∃A B,w.rowp o.p ((z-1).toNat*2) 2=some [uI A,uL B]/\Ix b A (¬(Aa b.p (A.toNat*2))=none/\∃C D,w.rowp b.p (A.toNat*2) 2=some [uS C,uL D]/\TL 92 #[uL D,uL B,uL p] w λF m=>Ag [uI A,uL F] 85 m λG J=>Ap 36 51 43 (uL u) (.slice (Aa G 0) 1 1) J λH N=>IR (y+1)/\x [uL s,uL H,uI (y+1)] N)))) (R (rV (uA #[uL s,uL u])) w)):TT 62 #[uD a b c d g i j k,uA #[uL l,uL o]] V R:=FJ Tryz.func62 [] [(4,[6])] false (by kernel_rfl) (by kernel_rfl) h
theorem Q1{a b:Sl}(h:Ag [] 3 V λc V1=>Ap 5 7 35 (.slice (Aa c 0) (0:Int).toNat (0:Int).toNat) (uL a) V1 λd V2=>Lp [uL d,z0,uI 0] V2 λI n w=>∀g i j,I n [uL g,uL i,uI j] w->∀y:LMP,Nx I n y->Br (j<(b.n:Int)) (Ix b j (¬(Aa b.p (j.toNat*2))=none/\∃k l,w.rowp b.p (j.toNat*2) 2=some [uI k,uL l]/\Ix b j (¬(Aa b.p (j.toNat*2))=none/\∃o p,w.rowp b.p (j.toNat*2) 2=some [uI o,uL p]/\w.rowp (Aa (Aa b.p (j.toNat*2)) 1) 0 1=some [uL p]/\¬(Aa b.p (j.toNat*2))=none/\Ix b j (w.rowp (Aa (Aa b.p (j.toNat*2)) 0) 0 1=some [uI k]/\¬(Aa b.p (j.toNat*2))=none/\Ix b j (Ag [] 3 w λq m=>Ap 25 31 35 (.slice (Aa q 0) (0:Int).toNat (0:Int).toNat) (uL p) m λr x=>x.rowp (Aa (Aa b.p (j.toNat*2)) 0) 0 1=some [uI k]/\¬(Aa b.p (j.toNat*2))=none/\Ix b j (Ag [uI k,uL r] 85 x λs e=>Ap 18 34 43 (uL i) (.slice (Aa s 0) 1 1) e λu H=>IR (j+1)/\y [uL g,uL u,uI (j+1)] H)))))) (R (rV (uA #[uL g,uL i])) w)):TT 74 #[uA #[uL a,uL b]] V R:=FJ Tryz.func74 [] [(3,[3])] false (by kernel_rfl) (by kernel_rfl) h
theorem Q2{a:Option Addr}(h:GenK xS (.makeFunc (.func 119) #[(.tmp 6)] #[]) 185 (gv [(6,uP a)]) V λx V1=>∃b,K.f.ok b/\x=b/\GenK xS (.makeFunc (.func 120) #[(.tmp 8)] #[]) 185 (gv [(8,uP a)]) V1 λx V2=>∃c,K.f.ok c/\x=c/\GenK xS (.makeFunc (.func 121) #[(.tmp 10)] #[]) 185 (gv [(10,uP a)]) V2 λx r=>∃d,K.f.ok d/\x=d/\GenK xS (.makeFunc (.func 122) #[(.tmp 12)] #[]) 185 (gv [(12,uP a)]) r λx q=>∃g,K.f.ok g/\x=g/\GenK xS (.makeFunc (.func 123) #[(.tmp 14)] #[]) 185 (gv [(14,uP a)]) q λx s=>∃i,K.f.ok i/\x=i/\Ag [K.cast .f b,K.cast .f c,K.cast .f d,K.cast .f g,K.cast .f i] 185 s λj H=>Lp [uP none,uI 0] H λI n w=>∀k l,I n [uP k,uI l] w->∀y:LMP,Nx I n y->Br (l<5) (¬(Aa j 0)=none/\0<=l/\l<5/\∃o,K.f.ok o/\w.rowp (Aa j 0) (l.toNat*1) 1=some [o]/\∃f first u,K.cast .f o=.func (.func f) first u/\CO f/\TT f (first++#[]++u) w λe m=>∃p,e=rV (uP p)/\Br (p=none) (IR (l+1)/\y [uP k,uI (l+1)] m) (R (rV (uP p)) m)) (R (rV (uP none)) w)):TT 81 #[uP a] V R:=FJ Tryz.func81 [16] [] false (by kernel_rfl) (by kernel_rfl) h
theorem Q3{a:KB}{b c d g i j k l o p:Sl}{q:Int}{r s:Sl}(h:Lp [uL p,uI q,uI 0] V λI n V1=>∀u y z,I n [uL u,uI y,uI z] V1->∀w:LMP,Nx I n w->Br (z<(r.n:Int)) (Ix s z (IY V1 s z λA=>Ix r z (¬(Aa r.p (z.toNat*2))=none/\∃B C,V1.rowp r.p (z.toNat*2) 2=some [uS B,uS C]/\Br (C=(Ad [105,110,116])) (IR (z+1)/\w [uL u,uI y,uI (z+1)] V1) (Ix r z (¬(Aa r.p (z.toNat*2))=none/\∃D F,V1.rowp r.p (z.toNat*2) 2=some [uS D,uS F]/\Br (F=(Ad [98,111,111,108])) (IR (z+1)/\w [uL u,uI y,uI (z+1)] V1) (Br (A=0) (IR (z+1)/\w [uL u,uI y,uI (z+1)] V1) (TI 134 #[uL u,uI A] V1 λG V2=>Br (0<=G) (Br (y=0) (IR (z+1)/\w [uL u,uI A,uI (z+1)] V2) (IR (z+1)/\w [uL u,uI y,uI (z+1)] V2)) (Ag [uI A] 3 V2 λH m=>Ap 52 54 35 (uL u) (.slice (Aa H 0) 1 1) m λL x=>IR (A-1)/\Ix o (A-1) (¬(Aa o.p ((A-1).toNat*2))=none/\∃M N,x.rowp o.p ((A-1).toNat*2) 2=some [uI M,uL N]/\Ix b M (¬(Aa b.p (M.toNat*2))=none/\∃O P,x.rowp b.p (M.toNat*2) 2=some [uS O,uL P]/\IR (A-1)/\Ix o (A-1) (¬(Aa o.p ((A-1).toNat*2))=none/\∃Q U,x.rowp o.p ((A-1).toNat*2) 2=some [uI Q,uL U]/\TT 91 #[uD a b c d g i j k,uA #[uL l,uL o],uA #[uL L,uI y],uL P,uL U] x λe J=>∃W X,e=rV (uA #[uL W,uI X])/\IR (z+1)/\w [uL W,uI X,uI (z+1)] J))))))))))) (R (rV (uA #[uL u,uI y])) V1)):TT 91 #[uD a b c d g i j k,uA #[uL l,uL o],uA #[uL p,uI q],uL r,uL s] V R:=FJ Tryz.func91 [] [(2,[7])] false (by kernel_rfl) (by kernel_rfl) h
theorem x139{a b:Sl}(h:TL 108 #[uL a] V λc V1=>Lp [uL c,z0,uI 0] V1 λI n V2=>∀d g i,I n [uL d,uL g,uI i] V2->∀u:LMP,Nx I n u->Br (i<(b.n:Int)) (Ix b i (∃j k,V2.rowp b.p (i.toNat*2) 2=some [uI j,uL k]/\TL 108 #[uL k] V2 λl w=>Ag [uI j,uL l] 85 w λo y=>Ap 18 25 43 (uL g) (.slice (Aa o 0) 1 1) y λp x=>IR (i+1)/\u [uL d,uL p,uI (i+1)] x)) (R (rV (uA #[uL d,uL g])) V2)):TT 139 #[uA #[uL a,uL b]] V R:=FJ Tryz.func139 [] [(3,[3])] false (by kernel_rfl) (by kernel_rfl) h
theorem x173{a:Option Addr}{b:Option Nat}{c:Bool}{d:Sl}{g:KB}{i:Option Addr}(h:Lp [uI 0,uI 0,uI 0] V λI n V1=>∀j k l,I n [uI j,uI k,uI l] V1->∀x:LMP,Nx I n x->Br (l<(d.n:Int)) (Ix d l (∃o p q r s,V1.rowp d.p (l.toNat*5) 5=some [uI o,uS p,uL q,uL r,uL s]/\¬i=none/\∃u,V1.rowp i ((0:Int).toNat*1) 1=some [uI u]/\¬i=none/\∃y,V1.rowp i ((0:Int).toNat*1) 1=some [uI y]/\IR (y+1)/\¬i=none/\Ak i 0 [uI (y+1)] V1 λV2=>TI 215 #[uA #[uP a,uM b,uB c],uA #[uI o,uS p,uL q,uL r,uL s],uS g] V2 λz m=>Br (z=0) (Ag [uL r,uL s] 133 m λA Z=>Lp [uI j,uI k,uI 0] Z λI n w=>∀B C D,I n [uI B,uI C,uI D] w->∀J:LMP,Nx I n J->Br (D<2) (¬(Aa A 0)=none/\0<=D/\D<2/\∃F,w.rowp (Aa A 0) (D.toNat*1) 1=some [uL F]/\TT 173 #[uA #[uP a,uM b,uB c],uL F,uS g,uP i] w λe N=>∃G H,e=rT #[uI G,uI H]/\Br (H=0) (IR (D+1)/\J [uI B,uI C,uI (D+1)] N) (R (rT #[uI G,uI H]) N)) (IR (l+1)/\x [uI B,uI C,uI (l+1)] w)) (R (rT #[uI u,uI z]) m))) (R (rT #[uI 0,uI 0]) V1)):TT 173 #[uA #[uP a,uM b,uB c],uL d,uS g,uP i] V R:=FJ Tryz.func173 [44] [] false (by kernel_rfl) (by kernel_rfl) h
end
end Go.Proofs
namespace Go.Proofs
open Go Go.Sx
abbrev PP(f:FuncId)(args:List Value)(V:Mem)(v:Value):Prop:=Bn xS f args V v
def FK(c:Int):Bool:=decide (97<=c/\c<=122∨65<=c/\c<=90)
def HT(c:Int):Bool:=decide (48<=c/\c<=57)
def FL(c:Int):Bool:=FK c||HT c||decide (c=95)
theorem c177{V:Mem}{c:Int}:PP 177 [.int .u8 c] V (.bool (FK c)):=by
 refine x177 ?_;unfold FK;grind
theorem c217{V:Mem}{c:Int}:PP 217 [.int .u8 c] V (.bool (HT c)):=by
 refine x217 ?_;unfold HT;grind
theorem c178{V:Mem}{c:Int}:PP 178 [.int .u8 c] V (.bool (FL c)):=by
 refine x178 ?_;unfold FL;refine c177.call ⟨_,rfl,λh=>?_,λh=>?_⟩;·simp[h]
 ·refine c217.call ⟨_,rfl,λh=>?_,λh=>?_⟩<;>simp_all
def cls(c:Int):Int:=if c=32∨c=9∨c=13∨c=10 then 1 else if FK c then 2 else if HT c then 3 else if c=95 then 4 else 0
theorem c144{V:Mem}{c:Int}:PP 144 [.int .u8 c] V (.int .i64 (cls c)):=by
 refine x144 ?_;have key:∀n:Int,cls c=n->(xV (.int .i64 n)=xV (.int .i64 (cls c))/\V=V):=λn h=>by simp_all
 unfold cls FK HT at key
 repeat' (first|intro _|apply And.intro)
 all_goals first|rfl|(refine(key _ ?_).1;grind)
theorem cls_two(c:Int):cls c=2↔FK c=true:=by
 unfold cls FK HT;grind
theorem cls_word(c:Int):cls c<2↔FL c=false:=by
 unfold FL cls FK HT;grind
def Iz:List KB:=[[116,121,112,101],[118,97,114],[112,114,111,99],[108,111,99,97,108],[109,101,97,115,117,114,101],[105,110,118,97,114,105,97,110,116],[112,111,116,101,110,116,105,97,108],[98,111,117,110,100],[105,102],[101,108,115,101],[119,104,105,108,101],[114,101,116,117,114,110],[110,101,119],[110,105,108],[116,114,117,101],[102,97,108,115,101],[97,110,100],[111,114],[110,111,116],[109,97,120],[109,105,110],[108,111,103],[105,110,116],[98,111,111,108],[116,104,105,115],[115,111,114,116],[111,112],[114,117,108,101],[115,112,101,99],[100,101,115,99],[115,99,114,105,112,116]].map Ad
def hasS(xs:List KB)(s:KB):Bool:=xs.any λx=>decide (x=s)
def isKw(s:KB):Bool:=hasS Iz s
def BR(s:KB):Bool:=decide (s.size≠0/\s.size<=40/\FK (Bq s 0)=true/\(∀i:Nat,i<s.size->FL (Bq s i)=true))&&!isKw s
theorem c218{V:Mem}{l:Sl}{xs:List KB}{s:KB}(h:Ab V l 1 (xs.map λx=>[vS x])):PP 218 [l.v,.string s] V (.bool (hasS xs s)):=by
 refine x218 ?_;refine AE xs.length (λi V1=>V1=V/\∀j:Nat,j<i->xs[j]?≠some s) ⟨rfl,by simp⟩ ?_;rintro i b _ J q ⟨rfl,o⟩ w;refine⟨λk=>?_,λu=>?_⟩
 ·obtain⟨x,hm,p,c,y,n,m,g⟩:=h.get k;refine⟨n,m,k,_,g,λe=>?_,λe=>⟨h.succ k,w y _ _ ⟨rfl,λj r=>?_⟩⟩⟩
  ·have:hasS xs s=true:=List.any_eq_true.2 ⟨x,hm,decide_eq_true e⟩;rw[this];exact⟨rfl,rfl⟩
  grind
 ·have a:=(h.done u).2;have:s∉xs:=λhm=>by
   grind[xE,yi]
  have:hasS xs s=false:=by
   grind[hasS]
  simp_all
theorem c179{V:Mem}{s:KB}:PP 179 [.string s] V (.bool (isKw s)):=by
 refine Bn.mk (x179 ?_);refine x219 ?_;intro b k;refine⟨⟨some ⟨b,0,none⟩,31,31⟩,rfl,?_⟩;have h:∀V0:Mem,Ab (V0.set b (.cells ((Iz.map ye).toArray) 9 (0,0))) ⟨some ⟨b,0,none⟩,31,31⟩ 1 (Iz.map λx=>[vS x]):=
  λV0=>Ab.cells (xs:=Iz) (row:=λx=>[vS x]) Au rfl (λ_=>rfl) rfl (xW rfl)
 refine(c218 (h _)).call ⟨_,rfl,rfl,Mem.sub_new k _⟩
theorem c129{V:Mem}{s:KB}:PP 129 [.string s] V (.bool (BR s)):=by
 refine x129 ?_;refine⟨λh=>?_,λh=>⟨λh1=>?_,λh1=>⟨by omega,c177.call ⟨_,rfl,λh2=>?_,λh2=>?_⟩⟩⟩⟩;·grind[BR]
 ·grind[BR]
 ·refine AE s.size (λi V1=>V1=V/\∀j:Nat,j<i->FL (Bq s j)=true) ⟨rfl,by simp⟩ ?_;rintro i b _ J x ⟨rfl,g⟩ u;refine⟨λw=>⟨by omega,c178.call ⟨_,rfl,λhw=>⟨⟨by omega,by omega⟩,u (by omega) _ _ ⟨rfl,λj k=>?_⟩⟩,λhw=>?_⟩⟩,λy=>?_⟩;·grind
  ·grind[FL,Bq,BR]
  ·refine c179.call ⟨_,rfl,?_⟩;have a1:s.size≠0:=by omega
   have a2:s.size<=40:=by omega
   have a3:∀i:Nat,i<s.size->FL (Bq s i)=true:=λj k=>g j (by omega);have:BR s=!isKw s:=by unfold BR;rw[decide_eq_true ⟨a1,a2,h2,a3⟩];simp
   rw[this];exact⟨rfl,rfl⟩
 grind[FK,Bq,BR]
end Go.Proofs
namespace Go.Proofs
open Go Go.Sx
attribute [local irreducible] Go.Sx.Tri
def CC(s:KB):List Value:=[vS s]
def strV(s:KB):Value:=vS s
section
variable{α:Type}
def IdxP(f:FuncId)(row:α->List Value)(v:α->Value)(sz:Nat):Prop:=∀{V:Mem}{l:Sl}{xs:List α}{g:Nat}{first caps:List Value}(u:GL g)(St h:Nat->Mem->Prop)(k:∀i V1,St i V1->Ab V1 l sz (xs.map row))(w:St 0 V)
  (y:∀i x V1,xs[i]?=some x->St i V1->Tri xS g (first.toArray++#[v x]++caps.toArray) V1 λe V2=>∃b:Bool,e=.returned (.bool b)/\(b=true->h i V2)/\(b=false->St (i+1) V2)),
  Tri xS f #[l.v,.func (.func g) first.toArray caps.toArray] V λe V'=>(∃i:Nat,e=.returned (.int .i64 i)/\h i V')∨(e=.returned (.int .i64 (-1))/\St xs.length V')
def ConP(f:FuncId)(row:α->List Value)(v:α->Value)(sz:Nat):Prop:=∀{V:Mem}{l:Sl}{xs:List α}{g:Nat}{first caps:List Value}(u:GL g)(St h:Nat->Mem->Prop)(k:∀i V1,St i V1->Ab V1 l sz (xs.map row))(w:St 0 V)
  (y:∀i x V1,xs[i]?=some x->St i V1->Tri xS g (first.toArray++#[v x]++caps.toArray) V1 λe V2=>∃b:Bool,e=.returned (.bool b)/\(b=true->h i V2)/\(b=false->St (i+1) V2)),
  Tri xS f #[l.v,.func (.func g) first.toArray caps.toArray] V λe V'=>(∃i:Nat,e=.returned (.bool true)/\h i V')∨(e=.returned (.bool false)/\St xs.length V')
def ConC(f:FuncId)(row:α->List Value)(v:α->Value)(sz:Nat):Prop:=∀{V:Mem}{l:Sl}{xs:List α}{g:Nat}{first caps:List Value}(h:Ab V l sz (xs.map row))(k:GL g)(p:α->Bool) (u:∀x∈xs,PP g (first++[v x]++caps) V (.bool (p x))),PP f [l.v,.func (.func g) first.toArray caps.toArray] V (.bool (xs.any p))
variable{f fc:FuncId}{row:α->List Value}{v:α->Value}{sz:Nat}
theorem conG(h:IdxP f row v sz)(x:∀{l:Sl}{c:Value}{V:Mem}{R:RP},(TT f #[uL l,K.cast .f c] V λe V1=>∃y,e=rV (uI y)/\R (rV (uB (decide (0<=y)))) V1)->TT fc #[uL l,K.cast .f c] V R):ConP fc row v sz:=by
 intro V l xs g first u j St w k n m
 refine x (c:=.func (.func g) first.toArray u.toArray) (Tri.mono (h j St w k n m) ?_);rintro e V' (⟨i,rfl,h⟩|⟨rfl,h⟩)
 ·refine⟨_,rfl,.inl ⟨i,?_,h⟩⟩;rfl
 simp_all
theorem conC(H:ConP fc row v sz):ConC fc row v sz:=by
 intro V l xs g first n h r p o
 refine Tri.mono (H r (λi V1=>V1=V/\∀j x,j<i->xs[j]?=some x->p x=false) (λi V1=>V1=V/\∃x∈xs,p x=true) (λi V1 k=>k.1▸h) ⟨rfl,λj x u=>absurd u (Nat.not_lt_zero _)⟩ ?_) ?_
 ·rintro i x _ w ⟨rfl,k⟩;have hm:x∈xs:=List.mem_of_getElem? w;have:=(o x hm).callv (q:=λe V2=>∃b:Bool,e=.returned (.bool b)/\(b=true->V2=_/\∃x∈xs,p x=true)/\(b=false->V2=_/\∀j x,j<i+1->xs[j]?=some x->p x=false)) ⟨_,rfl,λm=>⟨rfl,x,hm,m⟩,λm=>⟨rfl,λj y u c=>by
   grind⟩⟩
  exact this
 ·rintro e V' (⟨i,rfl,rfl,x,hm,w⟩|⟨rfl,rfl,k⟩);·grind
  ·have:xs.any p=false:=List.any_eq_false.2 λx hm w=>by
    obtain⟨j,u,rfl⟩:=xE.1 hm;simp_all
   simp_all
end
theorem g136:IdxP 136 Fld.row Fld.v 2:=by
 intro V l xs g first w q St o k p c
 refine x136 (a:=l) (b:=.func (.func g) first.toArray w.toArray) ?_;refine AE xs.length St p ?_;intro i b V1 J N r d;have h:=k i V1 r;refine⟨λu=>?_,λj=>?_⟩
 ·obtain⟨x,hm,s,Z,H,n,G,y⟩:=h.get u;refine⟨n,G,u,_,_,y,g,_,_,rfl,q,Tri.mono (c i x V1 s r) ?_⟩;rintro e V2 ⟨b,rfl,h1,h2⟩;exact⟨b,rfl,λm=>.inl ⟨i,rfl,h1 m⟩,λm=>⟨h.succ u,d H _ _ (h2 (by simpa using m))⟩⟩
 ·have e:i=xs.length:=by have:=(h.done j).2;omega
  simp_all
theorem Q4:ConP 98 Fld.row Fld.v 2:=conG g136 QW
theorem IA:ConC 98 Fld.row Fld.v 2:=conC Q4
theorem g254:IdxP 254 Iv.row Iv.v 6:=by
 intro V l xs g first w q St o k p c
 refine x254 (a:=l) (b:=.func (.func g) first.toArray w.toArray) ?_;refine AE xs.length St p ?_;intro i b V1 J N r d;have h:=k i V1 r;refine⟨λu=>?_,λj=>?_⟩
 ·obtain⟨x,hm,s,Z,H,n,G,y⟩:=h.get u;refine⟨n,G,u,_,_,_,_,_,_,y,g,_,_,rfl,q,Tri.mono (c i x V1 s r) ?_⟩;rintro e V2 ⟨b,rfl,h1,h2⟩;exact⟨b,rfl,λm=>.inl ⟨i,rfl,h1 m⟩,λm=>⟨h.succ u,d H _ _ (h2 (by simpa using m))⟩⟩
 ·have e:i=xs.length:=by have:=(h.done j).2;omega
  simp_all
theorem g211:ConP 211 Iv.row Iv.v 6:=conG g254 x211
theorem c211:ConC 211 Iv.row Iv.v 6:=conC g211
theorem g152:IdxP 152 Ty.row Ty.v 2:=by
 intro V l xs g first w q St o k p c
 refine x152 (a:=l) (b:=.func (.func g) first.toArray w.toArray) ?_;refine AE xs.length St p ?_;intro i b V1 J N r d;have h:=k i V1 r;refine⟨λu=>?_,λj=>?_⟩
 ·obtain⟨x,hm,s,Z,H,n,G,y⟩:=h.get u;refine⟨n,G,u,_,_,y,g,_,_,rfl,q,Tri.mono (c i x V1 s r) ?_⟩;rintro e V2 ⟨b,rfl,h1,h2⟩;exact⟨b,rfl,λm=>.inl ⟨i,rfl,h1 m⟩,λm=>⟨h.succ u,d H _ _ (h2 (by simpa using m))⟩⟩
 ·have e:i=xs.length:=by have:=(h.done j).2;omega
  simp_all
theorem g113:ConP 113 Ty.row Ty.v 2:=conG g152 x113
theorem c113:ConC 113 Ty.row Ty.v 2:=conC g113
theorem Ot:IdxP 95 Pr.row Pr.v 5:=by
 intro V l xs g first w q St o k p c
 refine QT (a:=l) (b:=.func (.func g) first.toArray w.toArray) ?_;refine AE xs.length St p ?_;intro i b V1 J N r d;have h:=k i V1 r;refine⟨λu=>?_,λj=>?_⟩
 ·obtain⟨x,hm,s,Z,H,n,G,y⟩:=h.get u;refine⟨n,G,u,_,_,_,_,_,y,g,_,_,rfl,q,Tri.mono (c i x V1 s r) ?_⟩;rintro e V2 ⟨b,rfl,h1,h2⟩;exact⟨b,rfl,λm=>.inl ⟨i,rfl,h1 m⟩,λm=>⟨h.succ u,d H _ _ (h2 (by simpa using m))⟩⟩
 ·have e:i=xs.length:=by have:=(h.done j).2;omega
  simp_all
theorem Q5:ConP 65 Pr.row Pr.v 5:=conG Ot Qt
theorem Mj:ConC 65 Pr.row Pr.v 5:=conC Q5
theorem g199:IdxP 199 Bd.row Bd.v 5:=by
 intro V l xs g first w q St o k p c
 refine x199 (a:=l) (b:=.func (.func g) first.toArray w.toArray) ?_;refine AE xs.length St p ?_;intro i b V1 J N r d;have h:=k i V1 r;refine⟨λu=>?_,λj=>?_⟩
 ·obtain⟨x,hm,s,Z,H,n,G,y⟩:=h.get u;refine⟨n,G,u,_,_,_,_,_,y,g,_,_,rfl,q,Tri.mono (c i x V1 s r) ?_⟩;rintro e V2 ⟨b,rfl,h1,h2⟩;exact⟨b,rfl,λm=>.inl ⟨i,rfl,h1 m⟩,λm=>⟨h.succ u,d H _ _ (h2 (by simpa using m))⟩⟩
 ·have e:i=xs.length:=by have:=(h.done j).2;omega
  simp_all
theorem g150:ConP 150 Bd.row Bd.v 5:=conG g199 x150
theorem c150:ConC 150 Bd.row Bd.v 5:=conC g150
theorem g252:IdxP 252 E.row E.v 4:=by
 intro V l xs g first w q St o k p c
 refine x252 (a:=l) (b:=.func (.func g) first.toArray w.toArray) ?_;refine AE xs.length St p ?_;intro i b V1 J N r d;have h:=k i V1 r;refine⟨λu=>?_,λj=>?_⟩
 ·obtain⟨x,hm,s,Z,H,n,G,y⟩:=h.get u;refine⟨n,G,u,_,_,_,_,y,g,_,_,rfl,q,Tri.mono (c i x V1 s r) ?_⟩;rintro e V2 ⟨b,rfl,h1,h2⟩;exact⟨b,rfl,λm=>.inl ⟨i,rfl,h1 m⟩,λm=>⟨h.succ u,d H _ _ (h2 (by simpa using m))⟩⟩
 ·have e:i=xs.length:=by have:=(h.done j).2;omega
  simp_all
theorem g202:ConP 202 E.row E.v 4:=conG g252 x202
theorem c202:ConC 202 E.row E.v 4:=conC g202
theorem g253:IdxP 253 Ms.row Ms.v 7:=by
 intro V l xs g first w q St o k p c
 refine x253 (a:=l) (b:=.func (.func g) first.toArray w.toArray) ?_;refine AE xs.length St p ?_;intro i b V1 J N r d;have h:=k i V1 r;refine⟨λu=>?_,λj=>?_⟩
 ·obtain⟨x,hm,s,Z,H,n,G,y⟩:=h.get u;refine⟨n,G,u,_,_,_,_,_,_,_,y,g,_,_,rfl,q,Tri.mono (c i x V1 s r) ?_⟩;rintro e V2 ⟨b,rfl,h1,h2⟩;exact⟨b,rfl,λm=>.inl ⟨i,rfl,h1 m⟩,λm=>⟨h.succ u,d H _ _ (h2 (by simpa using m))⟩⟩
 ·have e:i=xs.length:=by have:=(h.done j).2;omega
  simp_all
theorem g209:ConP 209 Ms.row Ms.v 7:=conG g253 x209
theorem c209:ConC 209 Ms.row Ms.v 7:=conC g209
theorem g301:IdxP 301 CC strV 1:=by
 intro V l xs g first w q St o k p c
 refine x301 (a:=l) (b:=.func (.func g) first.toArray w.toArray) ?_;refine AE xs.length St p ?_;intro i b V1 J N r d;have h:=k i V1 r;refine⟨λu=>?_,λj=>?_⟩
 ·obtain⟨x,hm,s,Z,H,n,G,y⟩:=h.get u;refine⟨n,G,u,_,y,g,_,_,rfl,q,Tri.mono (c i x V1 s r) ?_⟩;rintro e V2 ⟨b,rfl,h1,h2⟩;exact⟨b,rfl,λm=>.inl ⟨i,rfl,h1 m⟩,λm=>⟨h.succ u,d H _ _ (h2 (by simpa using m))⟩⟩
 ·have e:i=xs.length:=by have:=(h.done j).2;omega
  simp_all
theorem g284:ConP 284 CC strV 1:=conG g301 x284
theorem c284:ConC 284 CC strV 1:=conC g284
end Go.Proofs
namespace Go.Proofs
open Go.Shelf
def Tryz.lays157_ren:Go.Shelf.Ren:=⟨λ|157=>248|229=>279|199=>280|261=>299|311=>309|312=>310|n=>n,λ|9=>9|31=>159|3=>3|5=>5|4=>4|119=>370|0=>0|40=>372|152=>381|21=>21|154=>383|51=>384|141=>386|196=>393|193=>390|198=>396|49=>394|194=>391|201=>399|226=>404|46=>341|227=>405|n=>n,λ|0=>0|6=>1|n=>n⟩
theorem Tryz.lays157:Go.Proofs.Lays.n157 xS Tryz.lays157_ren:={
 mixed:=by kernel_rfl
 f157:=Tryz.func248.trans (congrArg some (by kernel_rfl))
 f199:=Tryz.func280.trans (congrArg some (by kernel_rfl))
 f229:=Tryz.func279.trans (congrArg some (by kernel_rfl))
 f261:=Tryz.func299.trans (congrArg some (by kernel_rfl))
 f311:=Tryz.func309.trans (congrArg some (by kernel_rfl))
 f312:=Tryz.func310.trans (congrArg some (by kernel_rfl))
 t0:=Tryz.underlying0
 a0:=Tryz.isAgg0
 z0:=Tryz.sizeOf0
 v0:=Tryz.zeroValue0
 t3:=Tryz.underlying3
 a3:=Tryz.isAgg3
 z3:=Tryz.sizeOf3
 v3:=Tryz.zeroValue3
 t4:=Tryz.underlying4
 a4:=Tryz.isAgg4
 z4:=Tryz.sizeOf4
 v4:=Tryz.zeroValue4
 t5:=Tryz.underlying5
 a5:=Tryz.isAgg5
 z5:=Tryz.sizeOf5
 v5:=Tryz.zeroValue5
 t9:=Tryz.underlying9
 a9:=Tryz.isAgg9
 z9:=Tryz.sizeOf9
 v9:=Tryz.zeroValue9
 t21:=Tryz.underlying21
 a21:=Tryz.isAgg21
 z21:=Tryz.sizeOf21
 v21:=Tryz.zeroValue21
 t31:=Tryz.underlying159
 a31:=Tryz.isAgg159
 z31:=Tryz.sizeOf159
 v31:=Tryz.zeroValue159
 t40:=Tryz.underlying372
 a40:=Tryz.isAgg372
 z40:=Tryz.sizeOf372
 v40:=Tryz.zeroValue372
 t46:=Tryz.underlying341
 a46:=Tryz.isAgg341
 z46:=Tryz.sizeOf341
 v46:=Tryz.zeroValue341
 t49:=Tryz.underlying394
 a49:=Tryz.isAgg394
 z49:=Tryz.sizeOf394
 v49:=Tryz.zeroValue394
 t51:=Tryz.underlying384
 a51:=Tryz.isAgg384
 z51:=Tryz.sizeOf384
 v51:=Tryz.zeroValue384
 t119:=Tryz.underlying370
 a119:=Tryz.isAgg370
 z119:=Tryz.sizeOf370
 t141:=Tryz.underlying386
 a141:=Tryz.isAgg386
 z141:=Tryz.sizeOf386
 v141:=Tryz.zeroValue386
 t152:=Tryz.underlying381
 a152:=Tryz.isAgg381
 z152:=Tryz.sizeOf381
 v152:=Tryz.zeroValue381
 t154:=Tryz.underlying383
 a154:=Tryz.isAgg383
 z154:=Tryz.sizeOf383
 v154:=Tryz.zeroValue383
 t193:=Tryz.underlying390
 a193:=Tryz.isAgg390
 z193:=Tryz.sizeOf390
 v193:=Tryz.zeroValue390
 t194:=Tryz.underlying391
 a194:=Tryz.isAgg391
 z194:=Tryz.sizeOf391
 v194:=Tryz.zeroValue391
 t196:=Tryz.underlying393
 a196:=Tryz.isAgg393
 z196:=Tryz.sizeOf393
 v196:=Tryz.zeroValue393
 t198:=Tryz.underlying396
 a198:=Tryz.isAgg396
 z198:=Tryz.sizeOf396
 v198:=Tryz.zeroValue396
 t201:=Tryz.underlying399
 a201:=Tryz.isAgg399
 z201:=Tryz.sizeOf399
 v201:=Tryz.zeroValue399
 t226:=Tryz.underlying404
 a226:=Tryz.isAgg404
 z226:=Tryz.sizeOf404
 v226:=Tryz.zeroValue404
 t227:=Tryz.underlying405
 a227:=Tryz.isAgg405
 z227:=Tryz.sizeOf405
 v227:=Tryz.zeroValue405
 g0:=by kernel_rfl
 g6:=by kernel_rfl}
open Go.RowKit Go.Lib in
theorem Tryz.strings_Fields(s:KB)(w:World)(g:s.size<4294967281)(h:∀(j:Nat) b,s.data.toList[j]?=some b->b.toNat<128)(k:xX xS w "strings.asciiSpace" .u8 xY):
  Calls xS 248 #[.string s] w λe w'=>
   e=.returned (.slice (some ⟨w.heap.size,0,none⟩) (xZ s.data.toList).length (xZ s.data.toList).length)/\w'=w.alloc (.cells ((xZ s.data.toList).map λl=>ye ⟨l.toArray⟩).toArray 9):=Any.strings_Fields Tryz.lays157 (by kernel_rfl) (by kernel_rfl) s w g h k
end Go.Proofs
namespace Go.Proofs
open Go Go.Sx
attribute [local irreducible] Go.Sx.Tri
class Tab (V:Mem):Prop where
 at_:∃t fr,V 0=some (.cells (xY.map λz=>Value.int .u8 z).toArray t fr)
theorem Tab.sub{V V':Mem}(h:Tab V)(k:V.sub V'):Tab V':=by
 obtain⟨t,fr,h⟩:=h.at_;exact⟨t,fr,k _ _ h⟩
theorem Tab.is{V:Mem}{w:World}(h:Tab V)(k:V.le w):xX xS w "strings.asciiSpace" .u8 xY:=by
 obtain⟨t,fr,h⟩:=h.at_;have g:xS.globalNamed "strings.asciiSpace" =some 0:=by kernel_rfl
 unfold xX World.var?;rw[g,Option.bind_some,k _ _ h]
theorem frm_new{V:Mem}{w:World}(hw:V.le w)(o:Obj):V w.heap.size=none/\As V w (V.set w.heap.size o) (w.alloc o):=by
 have g:V w.heap.size=none:=by
  cases u:V w.heap.size with
  |none=>rfl
  |some o=>have:=(yE.1 (hw _ o u)).1;omega
 refine⟨g,by simp,λb o h=>?_,λb h _=>xz _ _ _ h,λb h=>?_,rfl,rfl⟩
 ·by_cases e:b=w.heap.size;·grind[Mem.set_same,World.alloc_heap_new]
  ·rw[Mem.set_ne e]at h;have k:=(yE.1 (hw b o h)).1;exact(xz _ _ _ k).trans (hw b o h)
 grind[inr,Mem.set_ne]
def kwText:KB:=Ad [97,110,100,32,98,111,111,108,32,98,111,117,110,100,32,100,101,115,99,32,101,108,115,101,32,102,97,108,115,101,32,105,102,32,105,110,116,32,105,110,118,97,114,105,97,110,116,32,108,111,99,97,108,32,108,111,103,32,109,97,120,32,109,101,97,115,117,114,101,32,109,105,110,32,110,101,119,32,110,105,108,32,110,111,116,32,111,112,32,111,114,32,112,111,116,101,110,116,105,97,108,32,112,114,111,99,32,114,101,116,117,114,110,32,114,117,108,101,32,115,99,114,105,112,116,32,115,111,114,116,32,115,112,101,99,32,116,104,105,115,32,116,114,117,101,32,116,121,112,101,32,118,97,114,32,119,104,105,108,101]
def FM:List KB:=(xZ kwText.data.toList).map λl=>⟨l.toArray⟩
theorem kwText_size:kwText.size=160:=by kernel_rfl
theorem Ou:FM.length=31:=by kernel_rfl
theorem c197{V:Mem}(k:Tab V):Tri xS 197 #[] V λe V'=>∃b,V b=none/\e=.returned (.slice (sa b) 31 31)/\V'=V.set b (.cells (FM.map ye).toArray 9 (0,0)):=by
 refine x197 ?_;refine Tri.mono (R:=λe V'=>∃b,V b=none/\e=.returned (.slice (sa b) 31 31)/\V'=V.set b (.cells (FM.map ye).toArray 9 (0,0))) ?_ ?_
 ·unfold Tri;intro w hw;refine F6 (Tryz.strings_Fields kwText w (by rw[kwText_size];decide) ?_ (k.is hw)) ?_
  ·have h:(kwText.data.toList.all λb=>decide (b.toNat<128))=true:=by kernel_rfl
   grind
  ·rintro e w' ⟨rfl,rfl⟩;obtain⟨g,u⟩:=frm_new hw (.cells (FM.map ye).toArray 9);refine⟨_,⟨w.heap.size,g,?_,rfl⟩,?_⟩;·rfl
   ·have e:((xZ kwText.data.toList).map λl=>ye ⟨l.toArray⟩)=FM.map ye:=by
     rfl
    rw[e];exact u
 ·rintro e V' ⟨b,y,rfl,rfl⟩;exact⟨⟨some ⟨b,0,none⟩,31,31⟩,rfl,b,y,rfl,rfl⟩
theorem c278{V:Mem}{s:KB}:PP 278 [.string s] V (.bool false):=by
 refine x278 ?_;simp
theorem c247{V:Mem}{s:KB}:PP 247 [.string s] V (.bool false):=by
 refine x247 ?_;simp
def Gc(s t:KB):Bool:=xU s.toList t.toList
theorem c246{V:Mem}{s t:KB}:PP 246 [.string s,.string t] V (.bool (Gc s t)):=by
 refine x246 ?_;refine c278.call ⟨_,rfl,λh=>?_,λ_=>⟨rfl,rfl⟩⟩;cases h
theorem bl_trans:∀{a b c:List UInt8},xU a b=true->xU b c=true->xU a c=true
 |_,[],_,h,_=>by simp[xU]at h
 |_,_::_,[],_,k=>by simp[xU]at k
 |[],_::_,_::_,_,_=>rfl
 |a::x,b::y,c::z,h,k=>by
  simp only[xU,Bool.or_eq_true,decide_eq_true_eq,zC,beq_iff_eq]at h k⊢;rcases h with h|⟨rfl,h⟩;·grind
  ·rcases k with k|⟨rfl,k⟩;·exact .inl k
   ·exact .inr ⟨rfl,bl_trans h k⟩
theorem Mk{a b c:KB}(h:Gc a b=true)(k:Gc b c=true):Gc a c=true:=bl_trans h k
theorem bl_irrefl:∀l:List UInt8,xU l l=false
 |[]=>rfl
 |a::l=>by
  have h1:¬(a<a):=by simp_all
  simp[xU,bl_irrefl l,h1]
theorem ltB_irrefl(a:KB):Gc a a=false:=bl_irrefl _
def KC:List KB->Bool
 |a::b::l=>Gc a b&&KC (b::l)
 |_=>true
theorem Jx:∀{l:List KB},KC l=true->∀(i j:Nat)(x y:KB),i<j->l[i]?=some x->l[j]?=some y->Gc x y=true
 |[],_,i,j,x,y,_,k,_=>by simp at k
 |[a],_,i,j,x,y,u,k,g=>by
  grind
 |a::b::l,h,i,j,x,y,u,k,g=>by
  simp only[KC,zC]at h;cases j with
  |zero=>omega
  |succ j=>
   rw[xy]at g;cases i with
   |succ i=>rw[xy]at k;exact Jx h.2 i j x y (by omega) k g
   |zero=>
    simp only[List.getElem?_cons_zero,Option.some.injEq]at k;subst k;cases j with
    |zero=>simp_all
    |succ j=>exact Mk h.1 (Jx h.2 0 (j+1) b y (by omega) rfl g)
theorem GenK.shr1{V:Mem}{vals:Operand->Value}{t ty:TypeId}{n:Int}(hv:vals (.tmp 19)=.int .u64 n)(h:vals (.const (.int .u64 1))=.int .u64 1){q:Value->Mem->Prop}(k:q (.int .u64 (n/2)) V):
  GenK xS (.binOp .shr t (.tmp 19) (.const (.int .u64 1)) t) ty vals V q:=by
 intro w hw;refine⟨_,w,V,?_,As.refl hw,k⟩;have e:Op.shift .shr .u64 n .u64 1=pure (.int .u64 (n/2)):=by
  unfold Op.shift;rw[if_neg (by decide)];show pure (Value.int .u64 (n.fdiv (2^1)))=_;grind
 simp_all[execOp,eqGuard,binOp_shr]
theorem Ml{xs:List KB}{s:KB}:hasS xs s=true↔s∈xs:=by
 grind[hasS]
def kwIx(s:KB):Bool:=hasS FM s
theorem kwIx_eq(s:KB):kwIx s=isKw s:=by
 have h1:(FM.all λx=>Iz.any λy=>decide (y=x))=true:=by kernel_rfl
 have h2:(Iz.all λx=>FM.any λy=>decide (y=x))=true:=by kernel_rfl
 unfold kwIx isKw;rw[Bool.eq_iff_iff,Ml,Ml];grind
theorem c196{V:Mem}{l:Sl}{xs:List KB}{s:KB}(h:Ab V l 1 (xs.map λx=>[vS x]))(d:KC xs=true)(Y:xs.length<=1000):
  Tri xS 196 #[l.v,.string s] V λe V'=>∃n:Int,e=.returned (.tuple #[.int .i64 n,.bool (hasS xs s)])/\V'=V:=by
 refine x196 ?_;have P:=h.n_eq;have B:=h.cap;have C:=h.fit;refine⟨λn O V1=>∃i j:Nat,O=[.int .i64 i,.int .i64 j]/\V1=V/\i<=j/\j<=xs.length/\n=j-i/\(∀(k:Nat) x,k<i->xs[k]?=some x->Gc x s=true)/\(∀(k:Nat) x,j<=k->xs[k]?=some x->Gc x s=false),xs.length,
  ⟨0,xs.length,by rw[P];rfl,rfl,by omega,by omega,by omega,λk x p=>by omega,λk x p c=>by simp_all⟩,?_⟩
 rintro n V1 D E ⟨i,j,m,rfl,A,I,rfl,H,G⟩ J W;simp only[List.cons.injEq,Value.int.injEq,true_and,and_true]at m;obtain⟨rfl,rfl⟩:=m;refine⟨λu=>?_,λM=>?_⟩
 ·refine⟨⟨by omega,by omega⟩,⟨by show(0:Int)<=_;omega,by show _<=(18446744073709551615:Int);omega⟩,?_⟩;refine GenK.shr1 (n:=(i:Int)+j) rfl rfl ⟨_,rfl,⟨by omega,by omega⟩,?_⟩;have hm:((i:Int)+j)/2=((i+j)/2:Nat):=by omega
  rw[hm];obtain⟨x,r,c,F,L,b,a,g⟩:=h.get (i:=(i+j)/2) (by omega);refine⟨b,a,by omega,x,g,c246.call ⟨_,rfl,λq=>⟨⟨by omega,by omega⟩,?_⟩,λq=>?_⟩⟩
  ·refine W (j-((i+j)/2+1)) _ _ (by omega) ⟨(i+j)/2+1,j,rfl,rfl,by omega,I,rfl,λk y p m=>?_,G⟩;rcases Nat.lt_or_ge k ((i+j)/2)with w|w;·exact Mk (Jx d k _ y x w m c) q
   grind
  ·refine W ((i+j)/2-i) _ _ (by omega) ⟨i,(i+j)/2,rfl,rfl,by omega,by omega,rfl,H,λk y p m=>?_⟩;cases X:Gc y s with
   |false=>rfl
   |true=>
    rcases Nat.lt_or_ge ((i+j)/2) k with w|w;·exact absurd (Mk (Jx d _ k x y w c m) X) q
    grind
 ·have o:i=j:=by omega
  subst o;have key:s∈xs->xs[i]?=some s:=λhm=>by
   obtain⟨k,p,e⟩:=xE.1 hm;have N:xs[k]?=some s:=by simp_all
   rcases Nat.lt_trichotomy k i with w|w|w;·grind[ltB_irrefl]
   ·grind
   ·have Z:i<xs.length:=by omega
    have h2:=Jx d i k xs[i] s w (yi Z) N;grind
  refine⟨λu=>?_,λQ=>?_⟩
  ·obtain⟨x,r,c,F,L,b,a,g⟩:=h.get (i:=i) u;refine⟨b,a,u,x,g,λe=>?_,λe=>⟨b,a,u,x,g,c247.call ⟨_,rfl,λq=>?_,λ_=>?_⟩⟩⟩
   ·subst e;exact⟨i,by rw[Ml.2 r],rfl⟩
   ·cases q
   ·refine⟨i,?_,rfl⟩;grind[hasS,absurd]
  ·refine⟨i,?_,rfl⟩;grind[hasS]
theorem c145{V:Mem}{s:KB}(k:Tab V):PP 145 [.string s] V (.bool (isKw s)):=by
 refine Bn.mk ?_;refine x145 ?_;refine Tri.mono (c197 k) ?_;rintro _ V' ⟨b,g,rfl,rfl⟩;refine⟨⟨some ⟨b,0,none⟩,31,31⟩,rfl,?_⟩;have h:Ab (V.set b (.cells ((FM.map ye).toArray) 9 (0,0))) ⟨some ⟨b,0,none⟩,31,31⟩ 1 (FM.map λx=>[vS x]):=
  Ab.cells (xs:=FM) (row:=λx=>[vS x]) Au (by simp;rfl) (λ_=>rfl) Ou.symm (xW rfl)
 refine Tri.mono (c196 h (by kernel_rfl) (by rw[Ou];decide)) ?_;rintro _ V2 ⟨n,rfl,rfl⟩;exact⟨n,_,rfl,by rw[<-kwIx_eq];rfl,Mem.sub_new g _⟩
end Go.Proofs
