/- Part 6: no statement of the seat is proved here. -/
import Derived.Test.YtgdmkmfchcflpaaGreatDoorPe05
import Derived.Shelf.Strings.Fields
import Derived.Sort.Walk0
import Derived.RangeFuncRecord
set_option linter.unusedVariables false
set_option linter.unusedSimpArgs false
open Go.Proofs.Tryz renaming prog->xE
open Go.Op renaming bytesLess->xH
open Go.Ending renaming returned->xI
open And renaming intro->xJ
open List renaming mem_iff_getElem->yd,getElem?_cons_succ->xP
open Go.Lib renaming TabIs->xK,asciiSpaceTab->xL,fields->xM
open Go.Value renaming string->xN
open Array renaming getElem?_eq_some_iff->yA
open Go.RowKit.Below renaming heap_alloc->xO
open Bool renaming and_eq_true->zC
namespace Go.Proofs
open Go Go.Sx
set_option maxRecDepth 100000
section
variable{V:Mem}{R:RP}
theorem x223{a:Sl}{b:Value}(h:Lp [uI 0,uI 0] V λI n V1=>∀c d,I n [uI c,uI d] V1->∀w:LMP,Nx I n w->Br (d<(a.n:Int)) (Ix a d (∃g i j k l,V1.rowp a.p (d.toNat*5) 5=some [uS g,uI i,uI j,uS k,uL l]/\∃f first u,K.cast .f b=.func (.func f) first u/\CO f/\TT f (first++#[uA #[uS g,uI i,uI j,uS k,uL l]]++u) V1 λe V2=>∃o,e=rV (uB o)/\Br (o=true) (R (rV (uI d)) V2) (IR (d+1)/\w [uI c,uI (d+1)] V2))) (R (rV (uI (-1))) V1)):TT 223 #[uL a,K.cast .f b] V R:=BC Tryz.func223 [] [] false [uL a,b] (by kernel_rfl) (by kernel_rfl) h
theorem x224{a:Option Addr}(h:N2 a (∃b,V.rowp a ((0:Int).toNat*1) 1=some [uI b]/\IR (b-1)/\N2 a (AQ (Aa a 0) 0 [uI (b-1)] V λV1=>N2 a (∃c,V1.rowp a ((0:Int).toNat*1) 1=some [uI c]/\R (rV (uB (decide (0<=c)))) V1)))):TT 224 #[uP a] V R:=Ae Tryz.func224 h
theorem x225{a:Int}{b:KB}{c d g:Sl}(h:Br (a=1) (TB 140 #[uS b] V λi V1=>Br (i=true) (Br (a=3) (Br (a=1) (R (rV (uB (decide ((c.n:Int)=1)))) V1) (Br (a=3) (R (rV (uB (decide ((c.n:Int)=1)))) V1) (Br (a=4) (R (rV (uB (decide ((c.n:Int)=1)))) V1) (Br (a=2) (R (rV (uB (decide ((c.n:Int)=2)))) V1) (Br (a=5) (R (rV (uB (decide ((c.n:Int)<=1)))) V1) (Br (a=6) (Br ((c.n:Int)=1) (¬c.p=none/\(0:Int)<=(0:Int)/\0<(c.n:Int)/\¬(Aa c.p ((0:Int).toNat*4))=none/\∃j k l o,V1.rowp c.p ((0:Int).toNat*4) 4=some [uI j,uI k,uS l,uL o]/\R (rV (uB (decide (j=7)))) V1) (R KQ V1)) (R KQ V1))))))) (Br (0<(g.n:Int)) (R KQ V1) (Br (a=4) (Br (a=1) (R (rV (uB (decide ((c.n:Int)=1)))) V1) (Br (a=3) (R (rV (uB (decide ((c.n:Int)=1)))) V1) (Br (a=4) (R (rV (uB (decide ((c.n:Int)=1)))) V1) (Br (a=2) (R (rV (uB (decide ((c.n:Int)=2)))) V1) (Br (a=5) (R (rV (uB (decide ((c.n:Int)<=1)))) V1) (Br (a=6) (Br ((c.n:Int)=1) (¬c.p=none/\(0:Int)<=(0:Int)/\0<(c.n:Int)/\¬(Aa c.p ((0:Int).toNat*4))=none/\∃j k l o,V1.rowp c.p ((0:Int).toNat*4) 4=some [uI j,uI k,uS l,uL o]/\R (rV (uB (decide (j=7)))) V1) (R KQ V1)) (R KQ V1))))))) (Br (0<(d.n:Int)) (R KQ V1) (Br (a=1) (R (rV (uB (decide ((c.n:Int)=1)))) V1) (Br (a=3) (R (rV (uB (decide ((c.n:Int)=1)))) V1) (Br (a=4) (R (rV (uB (decide ((c.n:Int)=1)))) V1) (Br (a=2) (R (rV (uB (decide ((c.n:Int)=2)))) V1) (Br (a=5) (R (rV (uB (decide ((c.n:Int)<=1)))) V1) (Br (a=6) (Br ((c.n:Int)=1) (¬c.p=none/\(0:Int)<=(0:Int)/\0<(c.n:Int)/\¬(Aa c.p ((0:Int).toNat*4))=none/\∃j k l o,V1.rowp c.p ((0:Int).toNat*4) 4=some [uI j,uI k,uS l,uL o]/\R (rV (uB (decide (j=7)))) V1) (R KQ V1)) (R KQ V1))))))))))) (R KQ V1)) (Br (a=2) (TB 140 #[uS b] V λi V1=>Br (i=true) (Br (a=3) (Br (a=1) (R (rV (uB (decide ((c.n:Int)=1)))) V1) (Br (a=3) (R (rV (uB (decide ((c.n:Int)=1)))) V1) (Br (a=4) (R (rV (uB (decide ((c.n:Int)=1)))) V1) (Br (a=2) (R (rV (uB (decide ((c.n:Int)=2)))) V1) (Br (a=5) (R (rV (uB (decide ((c.n:Int)<=1)))) V1) (Br (a=6) (Br ((c.n:Int)=1) (¬c.p=none/\(0:Int)<=(0:Int)/\0<(c.n:Int)/\¬(Aa c.p ((0:Int).toNat*4))=none/\∃j k l o,V1.rowp c.p ((0:Int).toNat*4) 4=some [uI j,uI k,uS l,uL o]/\R (rV (uB (decide (j=7)))) V1) (R KQ V1)) (R KQ V1))))))) (Br (0<(g.n:Int)) (R KQ V1) (Br (a=4) (Br (a=1) (R (rV (uB (decide ((c.n:Int)=1)))) V1) (Br (a=3) (R (rV (uB (decide ((c.n:Int)=1)))) V1) (Br (a=4) (R (rV (uB (decide ((c.n:Int)=1)))) V1) (Br (a=2) (R (rV (uB (decide ((c.n:Int)=2)))) V1) (Br (a=5) (R (rV (uB (decide ((c.n:Int)<=1)))) V1) (Br (a=6) (Br ((c.n:Int)=1) (¬c.p=none/\(0:Int)<=(0:Int)/\0<(c.n:Int)/\¬(Aa c.p ((0:Int).toNat*4))=none/\∃j k l o,V1.rowp c.p ((0:Int).toNat*4) 4=some [uI j,uI k,uS l,uL o]/\R (rV (uB (decide (j=7)))) V1) (R KQ V1)) (R KQ V1))))))) (Br (0<(d.n:Int)) (R KQ V1) (Br (a=1) (R (rV (uB (decide ((c.n:Int)=1)))) V1) (Br (a=3) (R (rV (uB (decide ((c.n:Int)=1)))) V1) (Br (a=4) (R (rV (uB (decide ((c.n:Int)=1)))) V1) (Br (a=2) (R (rV (uB (decide ((c.n:Int)=2)))) V1) (Br (a=5) (R (rV (uB (decide ((c.n:Int)<=1)))) V1) (Br (a=6) (Br ((c.n:Int)=1) (¬c.p=none/\(0:Int)<=(0:Int)/\0<(c.n:Int)/\¬(Aa c.p ((0:Int).toNat*4))=none/\∃j k l o,V1.rowp c.p ((0:Int).toNat*4) 4=some [uI j,uI k,uS l,uL o]/\R (rV (uB (decide (j=7)))) V1) (R KQ V1)) (R KQ V1))))))))))) (R KQ V1)) (Br (b=(Ac [])) (Br (a=3) (Br (a=1) (R (rV (uB (decide ((c.n:Int)=1)))) V) (Br (a=3) (R (rV (uB (decide ((c.n:Int)=1)))) V) (Br (a=4) (R (rV (uB (decide ((c.n:Int)=1)))) V) (Br (a=2) (R (rV (uB (decide ((c.n:Int)=2)))) V) (Br (a=5) (R (rV (uB (decide ((c.n:Int)<=1)))) V) (Br (a=6) (Br ((c.n:Int)=1) (¬c.p=none/\(0:Int)<=(0:Int)/\0<(c.n:Int)/\¬(Aa c.p ((0:Int).toNat*4))=none/\∃i j k l,V.rowp c.p ((0:Int).toNat*4) 4=some [uI i,uI j,uS k,uL l]/\R (rV (uB (decide (i=7)))) V) (R KQ V)) (R KQ V))))))) (Br (0<(g.n:Int)) (R KQ V) (Br (a=4) (Br (a=1) (R (rV (uB (decide ((c.n:Int)=1)))) V) (Br (a=3) (R (rV (uB (decide ((c.n:Int)=1)))) V) (Br (a=4) (R (rV (uB (decide ((c.n:Int)=1)))) V) (Br (a=2) (R (rV (uB (decide ((c.n:Int)=2)))) V) (Br (a=5) (R (rV (uB (decide ((c.n:Int)<=1)))) V) (Br (a=6) (Br ((c.n:Int)=1) (¬c.p=none/\(0:Int)<=(0:Int)/\0<(c.n:Int)/\¬(Aa c.p ((0:Int).toNat*4))=none/\∃i j k l,V.rowp c.p ((0:Int).toNat*4) 4=some [uI i,uI j,uS k,uL l]/\R (rV (uB (decide (i=7)))) V) (R KQ V)) (R KQ V))))))) (Br (0<(d.n:Int)) (R KQ V) (Br (a=1) (R (rV (uB (decide ((c.n:Int)=1)))) V) (Br (a=3) (R (rV (uB (decide ((c.n:Int)=1)))) V) (Br (a=4) (R (rV (uB (decide ((c.n:Int)=1)))) V) (Br (a=2) (R (rV (uB (decide ((c.n:Int)=2)))) V) (Br (a=5) (R (rV (uB (decide ((c.n:Int)<=1)))) V) (Br (a=6) (Br ((c.n:Int)=1) (¬c.p=none/\(0:Int)<=(0:Int)/\0<(c.n:Int)/\¬(Aa c.p ((0:Int).toNat*4))=none/\∃i j k l,V.rowp c.p ((0:Int).toNat*4) 4=some [uI i,uI j,uS k,uL l]/\R (rV (uB (decide (i=7)))) V) (R KQ V)) (R KQ V))))))))))) (R KQ V)))):TT 225 #[uA #[uI a,uS b,uL c,uL d,uL g]] V R:=Ae Tryz.func225 h
theorem x226{a:Sl}{b:Value}(h:TI 252 #[uL a,K.cast .f b] V λc V1=>R (rV (uB (decide (0<=c)))) V1):TT 226 #[uL a,K.cast .f b] V R:=BC Tryz.func226 [] [] false [uL a,b] (by kernel_rfl) (by kernel_rfl) h
theorem x227{a b:Int}{c:KB}{d:Sl}(h:TB 180 #[uA #[uI a,uI b,uS c,uL d]] V λg V1=>R (rV (uB (!g))) V1):TT 227 #[uA #[uI a,uI b,uS c,uL d]] V R:=Ae Tryz.func227 h
theorem x228{a:KB}{b:Sl}{c d g:Option Addr}(h:∃i,K.f.ok i/\V.rowp c ((0:Int).toNat*1) 1=some [i]/\∃j,K.f.ok j/\V.rowp c ((0:Int).toNat*1) 1=some [j]/\∃k,V.rowp d ((0:Int).toNat*1) 1=some [uL k]/\∃l,V.rowp g ((0:Int).toNat*1) 1=some [uI l]/\Ix k l (∃o p,V.rowp k.p (l.toNat*2) 2=some [uS o,uL p]/\∃f first u,K.cast .f i=.func (.func f) first u/\CO f/\TT f (first++#[uA #[uS a,uL b]]++u) V λe V1=>∃q,e=rV (uS q)/\V1.rowp (Aa k.p (l.toNat*2)) 0 2=some [uS o,uL p]/\Ix k l (V1.rowp g 0 1=some [uI l]/\V1.rowp d 0 1=some [uL k]/\V1.rowp c 0 1=some [K.cast .f j]/\∃f first u,K.cast .f j=.func (.func f) first u/\CO f/\TT f (first++#[uA #[uS o,uL p]]++u) V1 λe V2=>∃r,e=rV (uS r)/\R (rV (uB (decide (q=r)))) V2))):TT 228 #[uA #[uS a,uL b],uP c,uP d,uP g] V R:=Ae Tryz.func228 h
theorem x229{a b:KB}{c:Option Addr}(h:¬c=none/\∃d,V.rowp c ((0:Int).toNat*1) 1=some [uS d]/\R (rV (uB (decide (a=d)))) V):TT 229 #[uA #[uS a,uS b],uP c] V R:=Ae Tryz.func229 h
theorem x230{a b:KB}{c d g:Option Addr}(h:∃i,K.f.ok i/\V.rowp c ((0:Int).toNat*1) 1=some [i]/\∃j,K.f.ok j/\V.rowp c ((0:Int).toNat*1) 1=some [j]/\∃k,V.rowp d ((0:Int).toNat*1) 1=some [uL k]/\∃l,V.rowp g ((0:Int).toNat*1) 1=some [uI l]/\Ix k l (∃o p,V.rowp k.p (l.toNat*2) 2=some [uS o,uS p]/\∃f first u,K.cast .f i=.func (.func f) first u/\CO f/\TT f (first++#[uA #[uS a,uS b]]++u) V λe V1=>∃q,e=rV (uS q)/\V1.rowp (Aa k.p (l.toNat*2)) 0 2=some [uS o,uS p]/\Ix k l (V1.rowp g 0 1=some [uI l]/\V1.rowp d 0 1=some [uL k]/\V1.rowp c 0 1=some [K.cast .f j]/\∃f first u,K.cast .f j=.func (.func f) first u/\CO f/\TT f (first++#[uA #[uS o,uS p]]++u) V1 λe V2=>∃r,e=rV (uS r)/\R (rV (uB (decide (q=r)))) V2))):TT 230 #[uA #[uS a,uS b],uP c,uP d,uP g] V R:=Ae Tryz.func230 h
theorem x231{a:KB}{b:Sl}{c:KB}{d g:Sl}{i j k:Option Addr}(h:∃l,K.f.ok l/\V.rowp i ((0:Int).toNat*1) 1=some [l]/\∃o,K.f.ok o/\V.rowp i ((0:Int).toNat*1) 1=some [o]/\∃p,V.rowp j ((0:Int).toNat*1) 1=some [uL p]/\∃q,V.rowp k ((0:Int).toNat*1) 1=some [uI q]/\Ix p q (∃r s u y z,V.rowp p.p (q.toNat*5) 5=some [uS r,uL s,uS u,uL y,uL z]/\∃f first w,K.cast .f l=.func (.func f) first w/\CO f/\TT f (first++#[uA #[uS a,uL b,uS c,uL d,uL g]]++w) V λe V1=>∃A,e=rV (uS A)/\V1.rowp (Aa p.p (q.toNat*5)) 0 5=some [uS r,uL s,uS u,uL y,uL z]/\Ix p q (V1.rowp k 0 1=some [uI q]/\V1.rowp j 0 1=some [uL p]/\V1.rowp i 0 1=some [K.cast .f o]/\∃f first w,K.cast .f o=.func (.func f) first w/\CO f/\TT f (first++#[uA #[uS r,uL s,uS u,uL y,uL z]]++w) V1 λe V2=>∃B,e=rV (uS B)/\R (rV (uB (decide (A=B)))) V2))):TT 231 #[uA #[uS a,uL b,uS c,uL d,uL g],uP i,uP j,uP k] V R:=Ae Tryz.func231 h
theorem x232{a:Sl}{b:Int}(h:Br (b<0) (GenK xE (.makeInterface 9 (.const (.string ⟨#[99,97,110,110,111,116,32,98,101,32,110,101,103,97,116,105,118,101]⟩))) 20 (gv []) V λx V1=>∃c,K.r.ok c/\x=c/\∃t x,K.cast .r c=.iface t x/\R (.panicked [{v:=.iface t x,recovered:=false}]) V1) (IR ((a.c:Int)-(a.n:Int))/\IR (b-((a.c:Int)-(a.n:Int)))/\Br (0<(b-((a.c:Int)-(a.n:Int)))) ((0<=(0:Int)/\(0:Int)<=(a.c:Int)/\(a.c:Int)<=(a.c:Int))/\GenK xE (.call {callee:=(.builtin .append),args:=#[(.tmp 20),(.tmp 21)],argTypes:=#[23,3]}) 23 (gv [(20,.slice (if(a.c:Int)=(0:Int)then a.p else Aa a.p ((0:Int).toNat*2)) ((a.c:Int)-0).toNat ((a.c:Int)-0).toNat),(21,uI (b-((a.c:Int)-(a.n:Int))))]) V λx V1=>∃c,x=uL c/\(0<=(0:Int)/\(0:Int)<=(a.n:Int)/\(a.n:Int)<=(c.c:Int))/\R (rV (.slice (if(c.c:Int)=(0:Int)then c.p else Aa c.p ((0:Int).toNat*2)) ((a.n:Int)-0).toNat ((c.c:Int)-0).toNat)) V1) (R (rV (uL a)) V))):TT 232 #[uL a,uI b] V R:=Ae Tryz.func232 h
theorem x233{a:Sl}{b:Value}(h:TI 253 #[uL a,K.cast .f b] V λc V1=>R (rV (uB (decide (0<=c)))) V1):TT 233 #[uL a,K.cast .f b] V R:=BC Tryz.func233 [] [] false [uL a,b] (by kernel_rfl) (by kernel_rfl) h
theorem x234{a b:KB}{c d g:Int}{i:KB}{j:Sl}{k l o:Option Addr}(h:∃p,K.f.ok p/\V.rowp k ((0:Int).toNat*1) 1=some [p]/\∃q,K.f.ok q/\V.rowp k ((0:Int).toNat*1) 1=some [q]/\∃r,V.rowp l ((0:Int).toNat*1) 1=some [uL r]/\∃s,V.rowp o ((0:Int).toNat*1) 1=some [uI s]/\Ix r s (∃u y z A B C D,V.rowp r.p (s.toNat*7) 7=some [uS u,uS y,uI z,uI A,uI B,uS C,uL D]/\∃f first w,K.cast .f p=.func (.func f) first w/\CO f/\TT f (first++#[uA #[uS a,uS b,uI c,uI d,uI g,uS i,uL j]]++w) V λe V1=>∃F,e=rV (uS F)/\V1.rowp (Aa r.p (s.toNat*7)) 0 7=some [uS u,uS y,uI z,uI A,uI B,uS C,uL D]/\Ix r s (V1.rowp o 0 1=some [uI s]/\V1.rowp l 0 1=some [uL r]/\V1.rowp k 0 1=some [K.cast .f q]/\∃f first w,K.cast .f q=.func (.func f) first w/\CO f/\TT f (first++#[uA #[uS u,uS y,uI z,uI A,uI B,uS C,uL D]]++w) V1 λe V2=>∃G,e=rV (uS G)/\R (rV (uB (decide (F=G)))) V2))):TT 234 #[uA #[uS a,uS b,uI c,uI d,uI g,uS i,uL j],uP k,uP l,uP o] V R:=Ae Tryz.func234 h
theorem x235{a:Sl}{b:Value}(h:TI 254 #[uL a,K.cast .f b] V λc V1=>R (rV (uB (decide (0<=c)))) V1):TT 235 #[uL a,K.cast .f b] V R:=BC Tryz.func235 [] [] false [uL a,b] (by kernel_rfl) (by kernel_rfl) h
theorem x236{a b:KB}{c d:Int}{g:KB}{i:Sl}{j k l:Option Addr}(h:∃o,K.f.ok o/\V.rowp j ((0:Int).toNat*1) 1=some [o]/\∃p,K.f.ok p/\V.rowp j ((0:Int).toNat*1) 1=some [p]/\∃q,V.rowp k ((0:Int).toNat*1) 1=some [uL q]/\∃r,V.rowp l ((0:Int).toNat*1) 1=some [uI r]/\Ix q r (∃s u y z A B,V.rowp q.p (r.toNat*6) 6=some [uS s,uS u,uI y,uI z,uS A,uL B]/\∃f first w,K.cast .f o=.func (.func f) first w/\CO f/\TT f (first++#[uA #[uS a,uS b,uI c,uI d,uS g,uL i]]++w) V λe V1=>∃C,e=rV (uS C)/\V1.rowp (Aa q.p (r.toNat*6)) 0 6=some [uS s,uS u,uI y,uI z,uS A,uL B]/\Ix q r (V1.rowp l 0 1=some [uI r]/\V1.rowp k 0 1=some [uL q]/\V1.rowp j 0 1=some [K.cast .f p]/\∃f first w,K.cast .f p=.func (.func f) first w/\CO f/\TT f (first++#[uA #[uS s,uS u,uI y,uI z,uS A,uL B]]++w) V1 λe V2=>∃D,e=rV (uS D)/\R (rV (uB (decide (C=D)))) V2))):TT 236 #[uA #[uS a,uS b,uI c,uI d,uS g,uL i],uP j,uP k,uP l] V R:=Ae Tryz.func236 h
theorem x237{a:KB}{b c:Int}{d:KB}{g:Sl}{i j k:Option Addr}(h:∃l,K.f.ok l/\V.rowp i ((0:Int).toNat*1) 1=some [l]/\∃o,K.f.ok o/\V.rowp i ((0:Int).toNat*1) 1=some [o]/\∃p,V.rowp j ((0:Int).toNat*1) 1=some [uL p]/\∃q,V.rowp k ((0:Int).toNat*1) 1=some [uI q]/\Ix p q (∃r s u y z,V.rowp p.p (q.toNat*5) 5=some [uS r,uI s,uI u,uS y,uL z]/\∃f first w,K.cast .f l=.func (.func f) first w/\CO f/\TT f (first++#[uA #[uS a,uI b,uI c,uS d,uL g]]++w) V λe V1=>∃A,e=rV (uS A)/\V1.rowp (Aa p.p (q.toNat*5)) 0 5=some [uS r,uI s,uI u,uS y,uL z]/\Ix p q (V1.rowp k 0 1=some [uI q]/\V1.rowp j 0 1=some [uL p]/\V1.rowp i 0 1=some [K.cast .f o]/\∃f first w,K.cast .f o=.func (.func f) first w/\CO f/\TT f (first++#[uA #[uS r,uI s,uI u,uS y,uL z]]++w) V1 λe V2=>∃B,e=rV (uS B)/\R (rV (uB (decide (A=B)))) V2))):TT 237 #[uA #[uS a,uI b,uI c,uS d,uL g],uP i,uP j,uP k] V R:=Ae Tryz.func237 h
theorem x239{a:Option Addr}{b:Option Nat}{c:Bool}{d:Int}{g:KB}{i j k:Sl}{l:KB}(h:Br (d=6) (¬i.p=none/\(0:Int)<=(0:Int)/\0<(i.n:Int)/\∃o p q r,V.rowp i.p ((0:Int).toNat*4) 4=some [uI o,uI p,uS q,uL r]/\TT 256 #[uA #[uP a,uM b,uB c],uA #[uI o,uI p,uS q,uL r]] V λe V1=>∃s u,e=rT #[uS s,uI u]/\R (rV (uI u)) V1) (Lp [uI 0,z0,uI 0] V λI n V1=>∀o p q,I n [uI o,uL p,uI q] V1->∀m:LMP,Nx I n m->Br (q<(i.n:Int)) (Ix i q (∃r s u y,V1.rowp i.p (q.toNat*4) 4=some [uI r,uI s,uS u,uL y]/\TT 240 #[uA #[uP a,uM b,uB c],uA #[uI r,uI s,uS u,uL y]] V1 λe V2=>∃z A,e=rT #[uS z,uI A]/\Br (A=0) (Af [uS z] 9 V2 λB w=>Ap 48 50 229 (uL p) (.slice (Aa B 0) 1 1) w λC H=>IR (q+1)/\m [uI o,uL C,uI (q+1)] H) (R (rV (uI A)) V2))) (Br (d=1) (Bl xE 267 (uM b) (uS g) true V1 λx=>∃r s,x=.tuple #[uS r,uB s]/\Br (s=true) (¬p.p=none/\(0:Int)<=(0:Int)/\0<(p.n:Int)/\∃u,V1.rowp p.p ((0:Int).toNat*1) 1=some [uS u]/\TB 257 #[uP a,uS u,uS r] V1 λy V2=>Br (y=true) (R (rV (uI 0)) V2) (R (rV (uI 11)) V2)) (R (rV (uI 9)) V1)) (Br (d=2) (¬p.p=none/\(0:Int)<=(0:Int)/\0<(p.n:Int)/\∃r,V1.rowp p.p ((0:Int).toNat*1) 1=some [uS r]/\TT 258 #[uP a,uS r,uS g] V1 λe V2=>∃s u,e=rT #[uS s,uI u]/\Br (u=0) (¬p.p=none/\(0:Int)<=(1:Int)/\1<(p.n:Int)/\∃y,V2.rowp p.p 1 1=some [uS y]/\TB 257 #[uP a,uS y,uS s] V2 λz w=>Br (z=true) (R (rV (uI 0)) w) (R (rV (uI 11)) w)) (R (rV (uI u)) V2)) (Br (d=3) (¬p.p=none/\(0:Int)<=(0:Int)/\0<(p.n:Int)/\∃r,V1.rowp p.p ((0:Int).toNat*1) 1=some [uS r]/\Br (r=(Ac [98,111,111,108])) (R (rV (uI 0)) V1) (R (rV (uI 11)) V1)) (Br (d=4) (¬p.p=none/\(0:Int)<=(0:Int)/\0<(p.n:Int)/\∃r,V1.rowp p.p ((0:Int).toNat*1) 1=some [uS r]/\Br (r=(Ac [98,111,111,108])) (R (rV (uI 0)) V1) (R (rV (uI 11)) V1)) (Br (d=5) (Br ((p.n:Int)=0) (Br (l=(Ac [])) (R (rV (uI 0)) V1) (R (rV (uI 11)) V1)) (Br (l=(Ac [])) (R (rV (uI 11)) V1) (¬p.p=none/\(0:Int)<=(0:Int)/\0<(p.n:Int)/\∃r,V1.rowp p.p ((0:Int).toNat*1) 1=some [uS r]/\TB 257 #[uP a,uS r,uS l] V1 λs V2=>Br (s=true) (R (rV (uI 0)) V2) (R (rV (uI 11)) V2)))) (R (rV (uI 0)) V1)))))))):TT 239 #[uA #[uP a,uM b,uB c],uA #[uI d,uS g,uL i,uL j,uL k],uS l] V R:=Ae Tryz.func239 h
theorem x240{a:Option Addr}{b:Option Nat}{c:Bool}{d g:Int}{i:KB}{j:Sl}(h:Br (d=7) (TT 256 #[uA #[uP a,uM b,uB c],uA #[uI d,uI g,uS i,uL j]] V λe V1=>∃k l,e=rT #[uS k,uI l]/\Br (l=0) (Br (k=(Ac [])) (R (rT #[uS (Ac []),uI 11]) V1) (R (rT #[uS k,uI l]) V1)) (R (rT #[uS k,uI l]) V1)) (Lp [uS (Ac []),uI 0,z0,uI 0] V λI n V1=>∀k l o p,I n [uS k,uI l,uL o,uI p] V1->∀w:LMP,Nx I n w->Br (p<(j.n:Int)) (Ix j p (∃q r s u,V1.rowp j.p (p.toNat*4) 4=some [uI q,uI r,uS s,uL u]/\TT 240 #[uA #[uP a,uM b,uB c],uA #[uI q,uI r,uS s,uL u]] V1 λe V2=>∃y z,e=rT #[uS y,uI z]/\Br (z=0) (Af [uS y] 9 V2 λA x=>Ap 46 48 229 (uL o) (.slice (Aa A 0) 1 1) x λB m=>IR (p+1)/\w [uS k,uI l,uL B,uI (p+1)] m) (R (rT #[uS (Ac []),uI z]) V2))) (TT 259 #[uA #[uP a,uM b,uB c],uA #[uI d,uI g,uS i,uL j],uL o] V1 λe V2=>∃q r,e=rT #[uS q,uI r]/\R (rT #[uS q,uI r]) V2))):TT 240 #[uA #[uP a,uM b,uB c],uA #[uI d,uI g,uS i,uL j]] V R:=Ae Tryz.func240 h
theorem x246{a b:KB}(h:TB 260 #[uS a] V λc V1=>Br (c=true) (TB 260 #[uS b] V1 λd V2=>Br (d=true) (R (rV (uB (xH (a).toList (b).toList))) V2) (R KX V2)) (R (rV (uB (xH (a).toList (b).toList))) V1)):TT 246 #[uS a,uS b] V R:=Ae Tryz.func246 h
theorem x247{a:KB}(h:R (rV (uB (!(decide (a=a))))) V):TT 247 #[uS a] V R:=Ae Tryz.func247 h
theorem x249{a:Int}(h:Br (a=1) (R (rT #[uI 0,uB true]) V) (Br (a=2) (R (rT #[uI 0,uB true]) V) (Br (a=3) (R (rT #[uI 0,uB true]) V) (Br (a=4) (R (rT #[uI 0,uB true]) V) (Br (a=6) (R (rT #[uI 0,uB true]) V) (Br (a=7) (R (rT #[uI (-1),uB true]) V) (Br (a=5) (R (rT #[uI 1,uB true]) V) (Br (a=8) (R (rT #[uI 1,uB true]) V) (Br (a=18) (R (rT #[uI 1,uB true]) V) (Br (a=24) (R (rT #[uI 1,uB true]) V) (Br (a=21) (R (rT #[uI 3,uB true]) V) (Br (9<=a) (R (rT #[uI 2,uB (decide (a<=23))]) V) (R (rT #[uI 2,uB false]) V))))))))))))):TT 249 #[uI a] V R:=Ae Tryz.func249 h
theorem x250{a b:Int}{c:KB}{d:Sl}(h:Br (a=1) (Br (0<=b) (Br (b<=1099511627776) (R (rV (uB (decide (c=(Ac []))))) V) (R KQ V)) (R KQ V)) (Br (a=2) (Br (b=0) (R (rV (uB (decide (c=(Ac []))))) V) (Br (b=1) (R (rV (uB (decide (c=(Ac []))))) V) (R KQ V))) (Br (a=4) (Br (b=0) (TB 140 #[uS c] V λg V1=>Br (g=true) (R KX V1) (R (rV (uB (decide (c=(Ac [116,104,105,115]))))) V1)) (R KQ V)) (Br (a=6) (Br (b=0) (TB 140 #[uS c] V λg V1=>R (rV (uB g)) V1) (R KQ V)) (Br (a=5) (Br (b=0) (TB 140 #[uS c] V λg V1=>R (rV (uB g)) V1) (R KQ V)) (Br (a=7) (Br (b=0) (TB 140 #[uS c] V λg V1=>R (rV (uB g)) V1) (R KQ V)) (Br (b=0) (R (rV (uB (decide (c=(Ac []))))) V) (R KQ V)))))))):TT 250 #[uA #[uI a,uI b,uS c,uL d]] V R:=Ae Tryz.func250 h
theorem x251{a b:Int}{c:KB}{d:Sl}{g i:Option Addr}(h:∃j,V.rowp g ((0:Int).toNat*1) 1=some [uI j]/\IR (j+1)/\∃k,V.rowp i ((0:Int).toNat*1) 1=some [uP k]/\TB 222 #[uA #[uI a,uI b,uS c,uL d],uI (j+1),uP k] V λl V1=>R (rV (uB (!l))) V1):TT 251 #[uA #[uI a,uI b,uS c,uL d],uP g,uP i] V R:=Ae Tryz.func251 h
theorem x252{a:Sl}{b:Value}(h:Lp [uI 0,uI 0] V λI n V1=>∀c d,I n [uI c,uI d] V1->∀w:LMP,Nx I n w->Br (d<(a.n:Int)) (Ix a d (∃g i j k,V1.rowp a.p (d.toNat*4) 4=some [uI g,uI i,uS j,uL k]/\∃f first u,K.cast .f b=.func (.func f) first u/\CO f/\TT f (first++#[uA #[uI g,uI i,uS j,uL k]]++u) V1 λe V2=>∃l,e=rV (uB l)/\Br (l=true) (R (rV (uI d)) V2) (IR (d+1)/\w [uI c,uI (d+1)] V2))) (R (rV (uI (-1))) V1)):TT 252 #[uL a,K.cast .f b] V R:=BC Tryz.func252 [] [] false [uL a,b] (by kernel_rfl) (by kernel_rfl) h
theorem x253{a:Sl}{b:Value}(h:Lp [uI 0,uI 0] V λI n V1=>∀c d,I n [uI c,uI d] V1->∀w:LMP,Nx I n w->Br (d<(a.n:Int)) (Ix a d (∃g i j k l o p,V1.rowp a.p (d.toNat*7) 7=some [uS g,uS i,uI j,uI k,uI l,uS o,uL p]/\∃f first u,K.cast .f b=.func (.func f) first u/\CO f/\TT f (first++#[uA #[uS g,uS i,uI j,uI k,uI l,uS o,uL p]]++u) V1 λe V2=>∃q,e=rV (uB q)/\Br (q=true) (R (rV (uI d)) V2) (IR (d+1)/\w [uI c,uI (d+1)] V2))) (R (rV (uI (-1))) V1)):TT 253 #[uL a,K.cast .f b] V R:=BC Tryz.func253 [] [] false [uL a,b] (by kernel_rfl) (by kernel_rfl) h
theorem x254{a:Sl}{b:Value}(h:Lp [uI 0,uI 0] V λI n V1=>∀c d,I n [uI c,uI d] V1->∀w:LMP,Nx I n w->Br (d<(a.n:Int)) (Ix a d (∃g i j k l o,V1.rowp a.p (d.toNat*6) 6=some [uS g,uS i,uI j,uI k,uS l,uL o]/\∃f first u,K.cast .f b=.func (.func f) first u/\CO f/\TT f (first++#[uA #[uS g,uS i,uI j,uI k,uS l,uL o]]++u) V1 λe V2=>∃p,e=rV (uB p)/\Br (p=true) (R (rV (uI d)) V2) (IR (d+1)/\w [uI c,uI (d+1)] V2))) (R (rV (uI (-1))) V1)):TT 254 #[uL a,K.cast .f b] V R:=BC Tryz.func254 [] [] false [uL a,b] (by kernel_rfl) (by kernel_rfl) h
theorem x255{a:Sl}(h:Af [uL a] 23 V λb V1=>R (rV (.func (.func 263) #[] #[uP (Aa b 0)])) V1):TT 255 #[uL a] V R:=Ae Tryz.func255 h
theorem x256{a:Option Addr}{b:Option Nat}{c:Bool}{d g:Int}{i:KB}{j:Sl}(h:Lp [uS (Ac []),uI 0,z0,uI 0] V λI n V1=>∀k l o p,I n [uS k,uI l,uL o,uI p] V1->∀m:LMP,Nx I n m->Br (p<(j.n:Int)) (Ix j p (∃q r s u,V1.rowp j.p (p.toNat*4) 4=some [uI q,uI r,uS s,uL u]/\TT 240 #[uA #[uP a,uM b,uB c],uA #[uI q,uI r,uS s,uL u]] V1 λe V2=>∃y z,e=rT #[uS y,uI z]/\Br (z=0) (Af [uS y] 9 V2 λA w=>Ap 31 33 229 (uL o) (.slice (Aa A 0) 1 1) w λB N=>IR (p+1)/\m [uS k,uI l,uL B,uI (p+1)] N) (R (rT #[uS (Ac []),uI z]) V2))) (Br (c=true) (N2 a (∃q,V1.rowp a 9 1=some [uM q]/\Bl xE 209 (uM q) (uS i) true V1 λx=>∃r s u y z A,x=.tuple #[uA #[uS r,uL s,uS u,uL y,uL z],uB A]/\Br (A=true) (Br ((o.n:Int)=(s.n:Int)) (Lp [uS k,uI l,uI 0] V1 λI n V2=>∀B C D,I n [uS B,uI C,uI D] V2->∀J:LMP,Nx I n J->Br (D<(o.n:Int)) (Ix o D (∃F,V2.rowp o.p (D.toNat*1) 1=some [uS F]/\Ix s D (¬(Aa s.p (D.toNat*2))=none/\∃G H,V2.rowp s.p (D.toNat*2) 2=some [uS G,uS H]/\TB 257 #[uP a,uS F,uS H] V2 λL w=>Br (L=true) (IR (D+1)/\J [uS B,uI C,uI (D+1)] w) (R (rT #[uS (Ac []),uI 11]) w)))) (R (rT #[uS u,uI 0]) V2)) (R (rT #[uS (Ac []),uI 3]) V1)) (R (rT #[uS (Ac []),uI 9]) V1))) (TT 264 #[uA #[uP a,uM b,uB c],uS i,uL o] V1 λe V2=>∃q r,e=rT #[uS q,uI r]/\R (rT #[uS q,uI r]) V2))):TT 256 #[uA #[uP a,uM b,uB c],uA #[uI d,uI g,uS i,uL j]] V R:=Ae Tryz.func256 h
theorem x257{a:Option Addr}{b c:KB}(h:Br (b=c) (R KX V) (Br (b=(Ac [110,105,108])) (TB 199 #[uP a,uS c] V λd V1=>R (rV (uB d)) V1) (R KQ V))):TT 257 #[uP a,uS b,uS c] V R:=Ae Tryz.func257 h
theorem x258{a:Option Addr}{b c:KB}(h:N2 a (∃d,V.rowp a 8 1=some [uM d]/\Bl xE 208 (uM d) (uS b) true V λx=>∃g i j,x=.tuple #[uA #[uS g,uL i],uB j]/\Br (j=true) (Lp [uS (Ac []),uI 0,uI 0] V λI n V1=>∀k l o,I n [uS k,uI l,uI o] V1->∀u:LMP,Nx I n u->Br (o<(i.n:Int)) (Ix i o (∃p q,V1.rowp i.p (o.toNat*2) 2=some [uS p,uS q]/\Br (p=c) (R (rT #[uS q,uI 0]) V1) (IR (o+1)/\u [uS k,uI l,uI (o+1)] V1))) (R (rT #[uS (Ac []),uI 9]) V1)) (R (rT #[uS (Ac []),uI 11]) V))):TT 258 #[uP a,uS b,uS c] V R:=Ae Tryz.func258 h
abbrev w259_0(k:Sl)(V:Mem)(a:Option Addr)(R:RP):Prop:=¬k.p=none/\(0:Int)<=(0:Int)/\0<(k.n:Int)/\∃l,V.rowp k.p ((0:Int).toNat*1) 1=some [uS l]/\¬k.p=none/\(0:Int)<=(1:Int)/\1<(k.n:Int)/\∃o,V.rowp k.p 1 1=some [uS o]/\TB 257 #[uP a,uS l,uS o] V λp V1=>Br (p=true) (R (rT #[uS (Ac [98,111,111,108]),uI 0]) V1) (¬k.p=none/\(0:Int)<=(1:Int)/\1<(k.n:Int)/\∃q,V1.rowp k.p 1 1=some [uS q]/\¬k.p=none/\(0:Int)<=(0:Int)/\0<(k.n:Int)/\∃r,V1.rowp k.p ((0:Int).toNat*1) 1=some [uS r]/\TB 257 #[uP a,uS q,uS r] V1 λs V2=>Br (s=true) (R (rT #[uS (Ac [98,111,111,108]),uI 0]) V2) (R (rT #[uS (Ac []),uI 11]) V2))
abbrev w259_1(k:Sl):MR:=λV R=>Af [uL k] 229 V λl V1=>TT 265 #[uS (Ac [98,111,111,108]),uS (Ac [98,111,111,108]),uP (Aa l 0)] V1 λe V2=>∃o p,e=rT #[uS o,uI p]/\R (rT #[uS o,uI p]) V2
theorem x259{a:Option Addr}{b:Option Nat}{c:Bool}{d g:Int}{i:KB}{j k:Sl}(h:Br (d=1) (R (rT #[uS (Ac [105,110,116]),uI 0]) V) (Br (d=2) (R (rT #[uS (Ac [98,111,111,108]),uI 0]) V) (Br (d=3) (R (rT #[uS (Ac [110,105,108]),uI 0]) V) (Br (d=4) (Bl xE 267 (uM b) (uS i) true V λx=>∃l o,x=.tuple #[uS l,uB o]/\Br (o=true) (R (rT #[uS l,uI 0]) V) (R (rT #[uS (Ac []),uI 9]) V)) (Br (d=5) (¬k.p=none/\(0:Int)<=(0:Int)/\0<(k.n:Int)/\∃l,V.rowp k.p ((0:Int).toNat*1) 1=some [uS l]/\TT 258 #[uP a,uS l,uS i] V λe V1=>∃o p,e=rT #[uS o,uI p]/\R (rT #[uS o,uI p]) V1) (Br (d=6) (Br (c=true) (TB 199 #[uP a,uS i] V λl V1=>Br (l=true) (R (rT #[uS i,uI 0]) V1) (R (rT #[uS (Ac []),uI 9]) V1)) (R (rT #[uS (Ac []),uI 13]) V)) (Br (d=14) (w259_0 k V a R) (Br (d=15) (w259_0 k V a R) (Br (d=16) (Af [uL k] 229 V λl V1=>TT 265 #[uS (Ac [105,110,116]),uS (Ac [98,111,111,108]),uP (Aa l 0)] V1 λe V2=>∃o p,e=rT #[uS o,uI p]/\R (rT #[uS o,uI p]) V2) (Br (d=17) (Af [uL k] 229 V λl V1=>TT 265 #[uS (Ac [105,110,116]),uS (Ac [98,111,111,108]),uP (Aa l 0)] V1 λe V2=>∃o p,e=rT #[uS o,uI p]/\R (rT #[uS o,uI p]) V2) (Br (d=18) (w259_1 k V R) (Br (d=19) (w259_1 k V R) (Br (d=20) (w259_1 k V R) (Br (d=21) (¬k.p=none/\(0:Int)<=(0:Int)/\0<(k.n:Int)/\∃l,V.rowp k.p ((0:Int).toNat*1) 1=some [uS l]/\Br (l=(Ac [98,111,111,108])) (¬k.p=none/\(0:Int)<=(1:Int)/\1<(k.n:Int)/\∃o,V.rowp k.p 1 1=some [uS o]/\¬k.p=none/\(0:Int)<=(2:Int)/\2<(k.n:Int)/\∃p,V.rowp k.p 2 1=some [uS p]/\TB 257 #[uP a,uS o,uS p] V λq V1=>Br (q=true) (¬k.p=none/\(0:Int)<=(2:Int)/\2<(k.n:Int)/\∃r,V1.rowp k.p 2 1=some [uS r]/\R (rT #[uS r,uI 0]) V1) (¬k.p=none/\(0:Int)<=(2:Int)/\2<(k.n:Int)/\∃r,V1.rowp k.p 2 1=some [uS r]/\¬k.p=none/\(0:Int)<=(1:Int)/\1<(k.n:Int)/\∃s,V1.rowp k.p 1 1=some [uS s]/\TB 257 #[uP a,uS r,uS s] V1 λu V2=>Br (u=true) (¬k.p=none/\(0:Int)<=(1:Int)/\1<(k.n:Int)/\∃y,V2.rowp k.p 1 1=some [uS y]/\R (rT #[uS y,uI 0]) V2) (R (rT #[uS (Ac []),uI 11]) V2))) (R (rT #[uS (Ac []),uI 11]) V)) (Af [uL k] 229 V λl V1=>TT 265 #[uS (Ac [105,110,116]),uS (Ac [105,110,116]),uP (Aa l 0)] V1 λe V2=>∃o p,e=rT #[uS o,uI p]/\R (rT #[uS o,uI p]) V2))))))))))))))):TT 259 #[uA #[uP a,uM b,uB c],uA #[uI d,uI g,uS i,uL j],uL k] V R:=Ae Tryz.func259 h
theorem x260{a:KB}(h:R (rV (uB (!(decide (a=a))))) V):TT 260 #[uS a] V R:=Ae Tryz.func260 h
theorem x264{a:Option Addr}{b:Option Nat}{c:Bool}{d:KB}{g:Sl}(h:N2 a (¬(Aa a 0)=none/\∃i,V.rowp a 4 1=some [uL i]/\Af [uS d] 9 V λj V1=>TI 253 #[uL i,.func (.func 269) #[] #[uP (Aa j 0)]] V1 λk V2=>Br (k<0) (R (rT #[uS (Ac []),uI 9]) V2) (Br ((g.n:Int)=1) (¬g.p=none/\(0:Int)<=(0:Int)/\0<(g.n:Int)/\∃l,V2.rowp g.p ((0:Int).toNat*1) 1=some [uS l]/\N2 a (¬(Aa a 0)=none/\∃o,V2.rowp a 4 1=some [uL o]/\Ix o k (¬(Aa o.p (k.toNat*7))=none/\∃p q r s u y z,V2.rowp o.p (k.toNat*7) 7=some [uS p,uS q,uI r,uI s,uI u,uS y,uL z]/\TB 257 #[uP a,uS l,uS q] V2 λA w=>Br (A=true) (R (rT #[uS (Ac [105,110,116]),uI 0]) w) (R (rT #[uS (Ac []),uI 11]) w)))) (R (rT #[uS (Ac []),uI 3]) V2)))):TT 264 #[uA #[uP a,uM b,uB c],uS d,uL g] V R:=Ae Tryz.func264 h
theorem x265{a b:KB}{c:Option Addr}(h:∃d,V.rowp c ((0:Int).toNat*1) 1=some [uL d]/\Af [uS a] 9 V λg V1=>TB 266 #[uL d,.func (.func 267) #[] #[uP (Aa g 0)]] V1 λi V2=>Br (i=true) (R (rT #[uS (Ac []),uI 11]) V2) (R (rT #[uS b,uI 0]) V2)):TT 265 #[uS a,uS b,uP c] V R:=Ae Tryz.func265 h
theorem x266{a:Sl}{b:Value}(h:TI 270 #[uL a,K.cast .f b] V λc V1=>R (rV (uB (decide (0<=c)))) V1):TT 266 #[uL a,K.cast .f b] V R:=BC Tryz.func266 [] [] false [uL a,b] (by kernel_rfl) (by kernel_rfl) h
theorem x267{a:KB}{b:Option Addr}(h:∃c,V.rowp b ((0:Int).toNat*1) 1=some [uS c]/\R (rV (uB (!(decide (a=c))))) V):TT 267 #[uS a,uP b] V R:=Ae Tryz.func267 h
theorem x269{a b:KB}{c d g:Int}{i:KB}{j:Sl}{k:Option Addr}(h:∃l,V.rowp k ((0:Int).toNat*1) 1=some [uS l]/\R (rV (uB (decide (a=l)))) V):TT 269 #[uA #[uS a,uS b,uI c,uI d,uI g,uS i,uL j],uP k] V R:=Ae Tryz.func269 h
theorem x270{a:Sl}{b:Value}(h:Lp [uI 0,uI 0] V λI n V1=>∀c d,I n [uI c,uI d] V1->∀u:LMP,Nx I n u->Br (d<(a.n:Int)) (Ix a d (∃g,V1.rowp a.p (d.toNat*1) 1=some [uS g]/\∃f first k,K.cast .f b=.func (.func f) first k/\CO f/\TT f (first++#[uS g]++k) V1 λe V2=>∃i,e=rV (uB i)/\Br (i=true) (R (rV (uI d)) V2) (IR (d+1)/\u [uI c,uI (d+1)] V2))) (R (rV (uI (-1))) V1)):TT 270 #[uL a,K.cast .f b] V R:=BC Tryz.func270 [] [] false [uL a,b] (by kernel_rfl) (by kernel_rfl) h
theorem NX{a:KB}{b c d g i j k l:Sl}(h:TB 44 #[uD a b c d g i j k] V λo V1=>Br (o=true) (IR ((c.n:Int)+1)/\IR (6*((c.n:Int)+1))/\Br ((l.n:Int)<(6*((c.n:Int)+1))) (R (rT #[uA #[z0,z0],uI 8]) V1) (Af [uL l,uB true] 86 V1 λp V2=>Lp [z0,z0,uI 0] V2 λI n Z=>∀q r s,I n [uL q,uL r,uI s] Z->∀X:LMP,Nx I n X->Br (s<(c.n:Int)) (TI 47 #[uP (Aa p 0)] Z λu e=>Af [uI u] 3 e λy x=>Ap 33 36 47 (uL q) (.slice (Aa y 0) 1 1) x λz w=>IR (s+1)/\X [uL z,uL r,uI (s+1)] w) (TI 47 #[uP (Aa p 0)] Z λu e=>Br (u<0) (R (rT #[uA #[z0,z0],uI 7]) e) (Br (4096<u) (R (rT #[uA #[z0,z0],uI 7]) e) (Lp [uL q,uL r,uI 0,uI 0] e λI n x=>∀y z A B,I n [uL y,uL z,uI A,uI B] x->∀E:LMP,Nx I n E->Br (B<u) (TL 48 #[uP (Aa p 0),uI 1] x λC w=>¬C.p=none/\(0:Int)<=(0:Int)/\0<(C.n:Int)/\∃D,w.rowp C.p ((0:Int).toNat*1) 1=some [.int .u8 D]/\IR D/\¬(Aa p 0)=none/\¬(Aa p 0)=none/\∃F,w.rowp p 1 1=some [uB F]/\Br (F=true) (Br ((b.n:Int)<=D) (R (rT #[uA #[z0,z0],uI 7]) w) (Ix b D (¬(Aa b.p (D.toNat*2))=none/\∃G H,w.rowp b.p (D.toNat*2) 2=some [uS G,uL H]/\Lp [uI D,z0,uI 0] w λI n J=>∀L M N,I n [uI L,uL M,uI N] J->∀K:LMP,Nx I n K->Br (N<(H.n:Int)) (TI 47 #[uP (Aa p 0)] J λO m=>Af [uI O] 3 m λP Y=>Ap 82 85 47 (uL M) (.slice (Aa P 0) 1 1) Y λQ W=>IR (N+1)/\K [uI L,uL Q,uI (N+1)] W) (Af [uI L,uL M] 90 J λO m=>Ap 90 92 48 (uL z) (.slice (Aa O 0) 1 1) m λP Y=>IR (B+1)/\E [uL y,uL P,uI A,uI (B+1)] Y)))) (R (rT #[uA #[z0,z0],uI 7]) w)) (¬(Aa p 0)=none/\¬(Aa p 0)=none/\∃C,x.rowp p 1 1=some [uB C]/\Br (C=true) (¬(Aa p 0)=none/\¬(Aa p 0)=none/\∃D,x.rowp p ((0:Int).toNat*1) 1=some [uL D]/\Br (0<(D.n:Int)) (R (rT #[uA #[z0,z0],uI 7]) x) (TB 45 #[uD a b c d g i j k,uA #[uL y,uL z]] x λF w=>Br (F=true) (TL 46 #[uD a b c d g i j k,uA #[uL y,uL z]] w λG J=>TB 19 #[uL G,uL l] J λH m=>Br (H=true) (R (rT #[uA #[uL y,uL z],uI 0]) m) (R (rT #[uA #[z0,z0],uI 7]) m)) (R (rT #[uA #[z0,z0],uI 7]) w))) (R (rT #[uA #[z0,z0],uI 7]) x))))))) (R (rT #[uA #[z0,z0],uI 1]) V1)):TT 20 #[uD a b c d g i j k,uL l] V R:=DB Tryz.func20 [26] [(8,[7]),(15,[7]),(21,[10])] false (by kernel_rfl) (by kernel_rfl) h
theorem NY{a:Int}{b:Sl}{c d:Int}{g:KB}{i j k l o p q r:Sl}(h:Af [uI a,uL b,uI c,uI d] 36 V λs V1=>TB 44 #[uD g i j k l o p q] V1 λu V2=>Br (u=true) (Af [uS g,uL i,uL j,uL k,uL l,uL o,uL p,uL q] 30 V2 λy V3=>TB 36 #[uL r,.func (.func 65) #[] #[uP (Aa y 0)]] V3 λz V4=>Br (z=true) (R (rT #[uA #[uI 0,z0,uI 0,uI 0],uI 0,uI 1]) V4) (∃A B C D,V4.rowp s ((0:Int).toNat*1) 4=some [uI A,uL B,uI C,uI D]/\TB 30 #[uA #[uI A,uL B,uI C,uI D]] V4 λF V5=>Br (F=true) (¬(Aa s 0)=none/\∃G,V5.rowp s ((0:Int).toNat*1) 1=some [uI G]/\Br (G<32) (R (rT #[uA #[uI 0,z0,uI 0,uI 0],uI 0,uI 30]) V5) (∃H L M N,V5.rowp s ((0:Int).toNat*1) 4=some [uI H,uL L,uI M,uI N]/\TT 55 #[uA #[uI H,uL L,uI M,uI N]] V5 λe V6=>∃O P Q,e=rT #[uA #[uL O,uL P],uI Q]/\Br (Q=0) (GenK xE (.makeMap 116 none) 116 (gv []) V6 λx V7=>∃U,x=uM U/\Lp [uI 0,uI 0,uI 0] V7 λI n V8=>∀W X Y,I n [uI W,uI X,uI Y] V8->∀J0:LMP,Nx I n J0->Br (Y<(O.n:Int)) (∃Z a0 a1 a2,V8.rowp s ((0:Int).toNat*1) 4=some [uI Z,uL a0,uI a1,uI a2]/\TT 56 #[uA #[uL O,uL P],uA #[uI Z,uL a0,uI a1,uI a2],uI Y] V8 λe V9=>∃a3 a4,e=rT #[uL a3,uI a4]/\Br (a4=0) (GenK xE (.convert 34 9 (.tmp 79)) 9 (gv [(79,uL a3)]) V9 λx V10=>∃a5,x=uS a5/\BQ xE 116 (uM U) (uS a5) (uI Y) V10 λV11=>IR (Y+1)/\J0 [uI W,uI X,uI (Y+1)] V11) (R (rT #[uA #[uI 0,z0,uI 0,uI 0],uI 0,uI a4]) V9)) (Lp [uI 0,uI 0] V8 λI n V9=>∀Z a0,I n [uI Z,uI a0] V9->∀J1:LMP,Nx I n J1->Br (a0<(P.n:Int)) (Ix P a0 (∃a1 a2,V9.rowp P.p (a0.toNat*2) 2=some [uI a1,uL a2]/\IR (Z+a1)/\IR (a0+1)/\J1 [uI (Z+a1),uI (a0+1)] V9)) (Af [z0] 47 V9 λa1 V10=>Af [z0] 41 V10 λa2 V11=>Lp [uL O,uL P,uI Z,uI W,uI X,uI 0] V11 λI n E=>∀a3 a4 a5 a6 a7 a8,I n [uL a3,uL a4,uI a5,uI a6,uI a7,uI a8] E->∀J2:LMP,Nx I n J2->Br (a8<(r.n:Int)) (Ix r a8 (∃a9 b0,E.rowp r.p (a8.toNat*2) 2=some [uL a9,uL b0]/\∃b1 b2 b3 b4 b5 b6 b7 b8,E.rowp y ((0:Int).toNat*1) 8=some [uS b1,uL b2,uL b3,uL b4,uL b5,uL b6,uL b7,uL b8]/\TL 46 #[uD b1 b2 b3 b4 b5 b6 b7 b8,uA #[uL a9,uL b0]] E λb9 J=>IR (a5+(b9.n:Int))/\Br (12000<(a5+(b9.n:Int))) (R (rT #[uA #[uI 0,z0,uI 0,uI 0],uI 0,uI 4]) J) (Br ((a4.n:Int)=30) (R (rT #[uA #[uI 0,z0,uI 0,uI 0],uI 0,uI 4]) J) (¬(Aa s 0)=none/\∃c0,J.rowp s ((0:Int).toNat*1) 1=some [uI c0]/\TL 54 #[uL b9,uI c0] J λc1 K=>Lp [uL a3,uL a4,uI (b9.n:Int),z0,uI 0] K λI n w=>∀S c3 c4 c5 c6,I n [uL S,uL c3,uI c4,uL c5,uI c6] w->∀J3:LMP,Nx I n J3->Br (c6<(c1.n:Int)) (Ix c1 c6 (∃c7,w.rowp c1.p (c6.toNat*1) 1=some [uL c7]/\GenK xE (.convert 34 9 (.tmp 135)) 9 (gv [(135,uL c7)]) w λx m=>∃c8,x=uS c8/\Bl xE 116 (uM U) (uS c8) true m λx=>∃c9 d0,x=.tuple #[uI c9,uB d0]/\Br (d0=true) (Af [uI c9] 3 m λd1 T=>Ap 162 164 47 (uL c5) (.slice (Aa d1 0) 1 1) T λd2 V18=>IR (c6+1)/\J3 [uL S,uL c3,uI c4,uL d2,uI (c6+1)] V18) (GenK xE (.convert 34 9 (.tmp 146)) 9 (gv [(146,uL c7)]) m λx T=>∃d1,x=uS d1/\BQ xE 116 (uM U) (uS d1) (uI (S.n:Int)) T λV18=>Af [uI (c7.n:Int)] 3 V18 λd2 V19=>Ap 150 153 47 (uL S) (.slice (Aa d2 0) 1 1) V19 λd3 V20=>IR (100+(S.n:Int))/\TT 66 #[uI (100+(S.n:Int)),uL c7,uP (Aa a1 0),uP (Aa a2 0),uP (Aa s 0)] V20 λe V21=>e=rT #[]/\Af [uI (S.n:Int)] 3 V21 λd4 V22=>Ap 162 164 47 (uL c5) (.slice (Aa d4 0) 1 1) V22 λd5 V23=>IR (c6+1)/\J3 [uL d3,uL c3,uI c4,uL d5,uI (c6+1)] V23))) (Af [uI c4,uL c5] 105 w λc7 m=>Ap 169 171 99 (uL c3) (.slice (Aa c7 0) 1 1) m λc8 T=>IR (a8+1)/\J2 [uL S,uL c8,uI (a5+(b9.n:Int)),uI a6,uI a7,uI (a8+1)] T))))) (Br ((r.n:Int)=0) (¬(Aa s 0)=none/\∃a9,E.rowp s 1 1=some [uL a9]/\TL 67 #[uL a9] E λb0 J=>¬(Aa s 0)=none/\AQ (Aa s 1) 0 [uL b0] J λK=>∃b1 b2 b3 b4,K.rowp s ((0:Int).toNat*1) 4=some [uI b1,uL b2,uI b3,uI b4]/\R (rT #[uA #[uI b1,uL b2,uI b3,uI b4],uI (P.n:Int),uI 0]) K) (¬(Aa s 0)=none/\∃a9,E.rowp s ((0:Int).toNat*1) 1=some [uI a9]/\TL 68 #[uA #[uL a3,uL a4]] E λb0 J=>J.rowp (Aa s 0) 0 1=some [uI a9]/\¬(Aa s 0)=none/\TL 54 #[uL b0,uI a9] J λb1 K=>Lp [uI 0] K λI n w=>∀b2,I n [uI b2] w->∀J3:LMP,Nx I n J3->Br (b2<(b1.n:Int)) (Ix b1 b2 (∃b3,w.rowp b1.p (b2.toNat*1) 1=some [uL b3]/\TT 66 #[uI b2,uL b3,uP (Aa a1 0),uP (Aa a2 0),uP (Aa s 0)] w λe m=>e=rT #[]/\IR (b2+1)/\J3 [uI (b2+1)] m)) (∃b3 b4 b5 b6,w.rowp s ((0:Int).toNat*1) 4=some [uI b3,uL b4,uI b5,uI b6]/\∃b7,w.rowp a1 ((0:Int).toNat*1) 1=some [uL b7]/\∃b8,w.rowp a2 ((0:Int).toNat*1) 1=some [uL b8]/\TT 69 #[uA #[uI b3,uL b4,uI b5,uI b6],uL b7,uL b8] w λe m=>∃b9 c0 c1 S c3,e=rT #[uA #[uI b9,uL c0,uI c1,uI S],uI c3]/\Br (c3=0) (R (rT #[uA #[uI b9,uL c0,uI c1,uI S],uI (P.n:Int),uI 0]) m) (R (rT #[uA #[uI b9,uL c0,uI c1,uI S],uI 0,uI c3]) m))))))) (R (rT #[uA #[uI 0,z0,uI 0,uI 0],uI 0,uI Q]) V6))) (R (rT #[uA #[uI 0,z0,uI 0,uI 0],uI 0,uI 1]) V5))) (R (rT #[uA #[uI 0,z0,uI 0,uI 0],uI 0,uI 1]) V2)):TT 41 #[uA #[uI a,uL b,uI c,uI d],uD g i j k l o p q,uL r] V R:=DB Tryz.func41 [3,19,20] [(27,[9]),(35,[9,25])] false (by kernel_rfl) (by kernel_rfl) h
theorem NZ{a:Int}{b:Sl}{c d:Int}(h:TT 80 #[uA #[uI a,uL b,uI c,uI d]] V λe V1=>∃g i,e=rT #[uI g,uI i]/\Br (i=0) (Br (g=0) (R (rT #[uA #[z0,z0],uI 0]) V1) (Br (a<32) (R (rT #[uA #[z0,z0],uI 7]) V1) (Af [z0,uB true] 86 V1 λj V2=>Af [uP (Aa j 0)] 84 V2 λk U=>Af [uI 0] 3 U λl V4=>Af [uI g] 3 V4 λo V5=>Af [uI a,uL b,uI c,uI d] 36 V5 λp V6=>TI 81 #[uP (Aa k 0),uP (Aa l 0),uP (Aa o 0),uP (Aa p 0)] V6 λq E=>Br (q=26743) (TI 81 #[uP (Aa k 0),uP (Aa l 0),uP (Aa o 0),uP (Aa p 0)] E λr V8=>TI 81 #[uP (Aa k 0),uP (Aa l 0),uP (Aa o 0),uP (Aa p 0)] V8 λs W=>Br (1000<r) (R (rT #[uA #[z0,z0],uI 7]) W) (Br (30<s) (R (rT #[uA #[z0,z0],uI 7]) W) (Lp [z0,z0,uI 0] W λI n J=>∀u y z,I n [uL u,uL y,uI z] J->∀K:LMP,Nx I n K->Br (z<r) (TI 81 #[uP (Aa k 0),uP (Aa l 0),uP (Aa o 0),uP (Aa p 0)] J λA w=>Af [uI A] 3 w λB x=>Ap 51 54 47 (uL u) (.slice (Aa B 0) 1 1) x λC m=>IR (z+1)/\K [uL C,uL y,uI (z+1)] m) (Lp [uL u,uL y,uI 0,uI 0] J λI n w=>∀A B C D,I n [uL A,uL B,uI C,uI D] w->∀S:LMP,Nx I n S->Br (D<s) (TI 81 #[uP (Aa k 0),uP (Aa l 0),uP (Aa o 0),uP (Aa p 0)] w λF x=>Br (12000<F) (R (rT #[uA #[uL A,uL B],uI 7]) x) (¬(Aa p 0)=none/\∃G,x.rowp p ((0:Int).toNat*1) 1=some [uI G]/\IR (F+G)/\IR ((F+G)-1)/\¬(Aa p 0)=none/\∃H,x.rowp p ((0:Int).toNat*1) 1=some [uI H]/\¬H=0/\Lp [uI F,z0,uI 0] x λI n m=>∀L M N,I n [uI L,uL M,uI N] m->∀T:LMP,Nx I n T->Br (N<(IntKind.wrap .i64 ((((F+G)-1)).tdiv H))) (TI 81 #[uP (Aa k 0),uP (Aa l 0),uP (Aa o 0),uP (Aa p 0)] m λO Z=>Af [uI O] 3 Z λP Y=>Ap 80 83 47 (uL M) (.slice (Aa P 0) 1 1) Y λQ X=>IR (N+1)/\T [uI L,uL Q,uI (N+1)] X) (Af [uI L,uL M] 105 m λO Z=>Ap 88 90 99 (uL B) (.slice (Aa O 0) 1 1) Z λP Y=>IR (D+1)/\S [uL A,uL P,uI C,uI (D+1)] Y))) (∃F,w.rowp k ((0:Int).toNat*1) 1=some [uP F]/\N2 F (∃G,w.rowp F 1 1=some [uB G]/\Br (G=true) (R (rT #[uA #[uL A,uL B],uI 0]) w) (R (rT #[uA #[uL A,uL B],uI 7]) w))))))) (R (rT #[uA #[z0,z0],uI 7]) E)))) (R (rT #[uA #[z0,z0],uI i]) V1)):TT 55 #[uA #[uI a,uL b,uI c,uI d]] V R:=DB Tryz.func55 [] [(18,[4]),(22,[4]),(27,[12])] false (by kernel_rfl) (by kernel_rfl) h
theorem N0{a:Sl}{b c:Int}(h:(0<=b/\b<=(a.n:Int)/\(a.n:Int)<=(a.c:Int))/\Br ((((a.n:Int)-b).toNat:Int)<8) (R (rT #[uA #[z0,z0,uI 0],uB false]) V) (TI 122 #[.slice (if(a.c:Int)=b then a.p else Aa a.p (b.toNat*1)) ((a.n:Int)-b).toNat ((a.c:Int)-b).toNat] V λd V1=>IR (4+c)/\IR (d*(4+c))/\IR (4+(d*(4+c)))/\Br (1000<d) (R (rT #[uA #[z0,z0,uI 0],uB false]) V1) (IR ((4+(d*(4+c)))+4)/\Br ((((a.n:Int)-b).toNat:Int)<((4+(d*(4+c)))+4)) (R (rT #[uA #[z0,z0,uI 0],uB false]) V1) ((0<=(0:Int)/\(0:Int)<=(4+(d*(4+c)))/\(4+(d*(4+c)))<=(((a.c:Int)-b).toNat:Int))/\(0<=(4+(d*(4+c)))/\(4+(d*(4+c)))<=(((a.n:Int)-b).toNat:Int)/\(((a.n:Int)-b).toNat:Int)<=(((a.c:Int)-b).toNat:Int))/\TT 123 #[.slice (if(((a.c:Int)-b).toNat:Int)=(0:Int)then(if(a.c:Int)=b then a.p else Aa a.p (b.toNat*1))else Aa (if(a.c:Int)=b then a.p else Aa a.p (b.toNat*1)) ((0:Int).toNat*1)) ((4+(d*(4+c)))-0).toNat ((((a.c:Int)-b).toNat:Int)-0).toNat] V1 λe V2=>∃g,e=rV (.int .u32 g)/\(0<=(4+(d*(4+c)))/\(4+(d*(4+c)))<=(((a.n:Int)-b).toNat:Int)/\(((a.n:Int)-b).toNat:Int)<=(((a.c:Int)-b).toNat:Int))/\TI 122 #[.slice (if(((a.c:Int)-b).toNat:Int)=(4+(d*(4+c)))then(if(a.c:Int)=b then a.p else Aa a.p (b.toNat*1))else Aa (if(a.c:Int)=b then a.p else Aa a.p (b.toNat*1)) ((4+(d*(4+c))).toNat*1)) ((((a.n:Int)-b).toNat:Int)-(4+(d*(4+c)))).toNat ((((a.c:Int)-b).toNat:Int)-(4+(d*(4+c)))).toNat] V2 λi m=>K.inR .u32 i/\Br (g=i) (Lp [z0,z0,uI 0,uB false,uI 0] m λI n w=>∀j k l o p,I n [uL j,uL k,uI l,uB o,uI p] w->∀H:LMP,Nx I n H->Br (p<d) (IR (4+c)/\IR (p*(4+c))/\IR (4+(p*(4+c)))/\(0<=(4+(p*(4+c)))/\(4+(p*(4+c)))<=(((a.n:Int)-b).toNat:Int)/\(((a.n:Int)-b).toNat:Int)<=(((a.c:Int)-b).toNat:Int))/\TI 122 #[.slice (if(((a.c:Int)-b).toNat:Int)=(4+(p*(4+c)))then(if(a.c:Int)=b then a.p else Aa a.p (b.toNat*1))else Aa (if(a.c:Int)=b then a.p else Aa a.p (b.toNat*1)) ((4+(p*(4+c))).toNat*1)) ((((a.n:Int)-b).toNat:Int)-(4+(p*(4+c)))).toNat ((((a.c:Int)-b).toNat:Int)-(4+(p*(4+c)))).toNat] w λq J=>Br (1000<=q) (R (rT #[uA #[uL j,uL k,uI l],uB false]) J) (TB 124 #[uL j,uI q] J λr G=>Br (r=true) (R (rT #[uA #[uL j,uL k,uI l],uB false]) G) (Af [uI q] 3 G λs N=>Ap 75 77 47 (uL j) (.slice (Aa s 0) 1 1) N λu Z=>IR ((4+(p*(4+c)))+4)/\IR ((4+(p*(4+c)))+4)/\IR (((4+(p*(4+c)))+4)+c)/\(0<=((4+(p*(4+c)))+4)/\((4+(p*(4+c)))+4)<=(((4+(p*(4+c)))+4)+c)/\(((4+(p*(4+c)))+4)+c)<=(((a.c:Int)-b).toNat:Int))/\Af [.slice (if(((a.c:Int)-b).toNat:Int)=((4+(p*(4+c)))+4)then(if(a.c:Int)=b then a.p else Aa a.p (b.toNat*1))else Aa (if(a.c:Int)=b then a.p else Aa a.p (b.toNat*1)) (((4+(p*(4+c)))+4).toNat*1)) ((((4+(p*(4+c)))+4)+c)-((4+(p*(4+c)))+4)).toNat ((((a.c:Int)-b).toNat:Int)-((4+(p*(4+c)))+4)).toNat] 34 Z λy Y=>Ap 81 90 41 (uL k) (.slice (Aa y 0) 1 1) Y λz x=>IR (p+1)/\H [uL u,uL z,uI l,uB o,uI (p+1)] x))) (IR (b+(4+(d*(4+c))))/\IR ((b+(4+(d*(4+c))))+4)/\R (rT #[uA #[uL j,uL k,uI ((b+(4+(d*(4+c))))+4)],uB true]) w)) (R (rT #[uA #[z0,z0,uI 0],uB false]) m))))):TT 83 #[uL a,uI b,uI c] V R:=DB Tryz.func83 [] [(10,[8])] false (by kernel_rfl) (by kernel_rfl) h
theorem x105{a:Option Addr}(h:GenK xE (.makeFunc (.func 149) #[(.tmp 6)] #[]) 178 (gv [(6,uP a)]) V λx V1=>∃b,K.f.ok b/\x=b/\GenK xE (.makeFunc (.func 150) #[(.tmp 8)] #[]) 178 (gv [(8,uP a)]) V1 λx V2=>∃c,K.f.ok c/\x=c/\GenK xE (.makeFunc (.func 151) #[(.tmp 10)] #[]) 178 (gv [(10,uP a)]) V2 λx r=>∃d,K.f.ok d/\x=d/\GenK xE (.makeFunc (.func 152) #[(.tmp 12)] #[]) 178 (gv [(12,uP a)]) r λx q=>∃g,K.f.ok g/\x=g/\GenK xE (.makeFunc (.func 153) #[(.tmp 14)] #[]) 178 (gv [(14,uP a)]) q λx s=>∃i,K.f.ok i/\x=i/\Af [K.cast .f b,K.cast .f c,K.cast .f d,K.cast .f g,K.cast .f i] 178 s λj H=>Lp [uP none,uI 0] H λI n w=>∀k l,I n [uP k,uI l] w->∀y:LMP,Nx I n y->Br (l<5) (¬(Aa j 0)=none/\0<=l/\l<5/\∃o,K.f.ok o/\w.rowp (Aa j 0) (l.toNat*1) 1=some [o]/\∃f first u,K.cast .f o=.func (.func f) first u/\CO f/\TT f (first++#[]++u) w λe m=>∃p,e=rV (uP p)/\Br (p=none) (IR (l+1)/\y [uP k,uI (l+1)] m) (R (rV (uP p)) m)) (R (rV (uP none)) w)):TT 105 #[uP a] V R:=DB Tryz.func105 [16] [] false (by kernel_rfl) (by kernel_rfl) h
theorem x118{a:Option Addr}(h:N2 a (¬(Aa a 0)=none/\∃b,V.rowp a 2 1=some [uL b]/\N2 a (¬(Aa a 8)=none/\∃c,V.rowp a 8 1=some [uL c]/\TL 159 #[uP a,uL b,uL c] V λd V1=>N2 a (∃g,V1.rowp a 10 1=some [uL g]/\Lp [uL d,z0,uI 0] V1 λI n V2=>∀i j k,I n [uL i,uL j,uI k] V2->∀w:LMP,Nx I n w->Br (k<(g.n:Int)) (Ix g k (IY V2 g k λl=>N2 a (¬(Aa a 8)=none/\∃o,V2.rowp a 9 1=some [uL o]/\IR (l-1)/\Ix o (l-1) (∃p q,V2.rowp o.p ((l-1).toNat*2) 2=some [uI p,uL q]/\N2 a (¬(Aa a 0)=none/\∃r,V2.rowp a 1 1=some [uL r]/\Ix r p (¬(Aa r.p (p.toNat*2))=none/\∃s u,V2.rowp r.p (p.toNat*2) 2=some [uS s,uL u]/\TL 159 #[uP a,uL u,uL q] V2 λy x=>Af [uI p,uL y] 90 x λz m=>Ap 39 57 48 (uL j) (.slice (Aa z 0) 1 1) m λA e=>IR (k+1)/\w [uL i,uL A,uI (k+1)] e)))))) (R (rV (uA #[uL i,uL j])) V2))))):TT 118 #[uP a] V R:=DB Tryz.func118 [] [(3,[3])] false (by kernel_rfl) (by kernel_rfl) h
theorem x205{a:Option Addr}{b:Option Nat}{c:Bool}{d:Sl}{g:KB}{i:Option Addr}(h:Lp [uI 0,uI 0,uI 0] V λI n V1=>∀j k l,I n [uI j,uI k,uI l] V1->∀x:LMP,Nx I n x->Br (l<(d.n:Int)) (Ix d l (∃o p q r s,V1.rowp d.p (l.toNat*5) 5=some [uI o,uS p,uL q,uL r,uL s]/\¬i=none/\∃u,V1.rowp i ((0:Int).toNat*1) 1=some [uI u]/\¬i=none/\∃y,V1.rowp i ((0:Int).toNat*1) 1=some [uI y]/\IR (y+1)/\¬i=none/\AQ i 0 [uI (y+1)] V1 λV2=>TI 239 #[uA #[uP a,uM b,uB c],uA #[uI o,uS p,uL q,uL r,uL s],uS g] V2 λz m=>Br (z=0) (Af [uL r,uL s] 142 m λA Z=>Lp [uI j,uI k,uI 0] Z λI n w=>∀B C D,I n [uI B,uI C,uI D] w->∀J:LMP,Nx I n J->Br (D<2) (¬(Aa A 0)=none/\0<=D/\D<2/\∃F,w.rowp (Aa A 0) (D.toNat*1) 1=some [uL F]/\TT 205 #[uA #[uP a,uM b,uB c],uL F,uS g,uP i] w λe N=>∃G H,e=rT #[uI G,uI H]/\Br (H=0) (IR (D+1)/\J [uI B,uI C,uI (D+1)] N) (R (rT #[uI G,uI H]) N)) (IR (l+1)/\x [uI B,uI C,uI (l+1)] w)) (R (rT #[uI u,uI z]) m))) (R (rT #[uI 0,uI 0]) V1)):TT 205 #[uA #[uP a,uM b,uB c],uL d,uS g,uP i] V R:=DB Tryz.func205 [44] [] false (by kernel_rfl) (by kernel_rfl) h
end
end Go.Proofs
namespace Go.Proofs
open Go Go.Sx
abbrev PP(f:FuncId)(args:List Value)(V:Mem)(v:Value):Prop:=AP xE f args V v
def EE(c:Int):Bool:=decide (97<=c/\c<=122∨65<=c/\c<=90)
def Gu(c:Int):Bool:=decide (48<=c/\c<=57)
def EF(c:Int):Bool:=EE c||Gu c||decide (c=95)
def cls(c:Int):Int:=if c=32∨c=9∨c=13∨c=10 then 1 else if EE c then 2 else if Gu c then 3 else if c=95 then 4 else 0
theorem c176{V:Mem}{c:Int}:PP 176 [.int .u8 c] V (.int .i64 (cls c)):=by
 refine x176 ?_;have key:∀n:Int,cls c=n->(xI (.int .i64 n)=xI (.int .i64 (cls c))/\V=V):=λn h=>by simp_all
 unfold cls EE Gu at key
 repeat' (first|intro _|apply xJ)
 all_goals first|rfl|(refine(key _ ?_).1;grind)
theorem cls_two(c:Int):cls c=2↔EE c=true:=by
 unfold cls EE Gu;grind
theorem cls_word(c:Int):cls c<2↔EF c=false:=by
 unfold EF cls EE Gu;grind
def G8:List KB:=[[116,121,112,101],[118,97,114],[112,114,111,99],[108,111,99,97,108],[109,101,97,115,117,114,101],[105,110,118,97,114,105,97,110,116],[112,111,116,101,110,116,105,97,108],[98,111,117,110,100],[105,102],[101,108,115,101],[119,104,105,108,101],[114,101,116,117,114,110],[110,101,119],[110,105,108],[116,114,117,101],[102,97,108,115,101],[97,110,100],[111,114],[110,111,116],[109,97,120],[109,105,110],[108,111,103],[105,110,116],[98,111,111,108],[116,104,105,115],[115,111,114,116],[111,112],[114,117,108,101],[115,112,101,99],[100,101,115,99],[115,99,114,105,112,116]].map Ac
def hasS(xs:List KB)(s:KB):Bool:=xs.any λx=>decide (x=s)
def isKw(s:KB):Bool:=hasS G8 s
def BW(s:KB):Bool:=decide (s.size≠0/\s.size<=40/\EE (Du s 0)=true/\(∀i:Nat,i<s.size->EF (Du s i)=true))&&!isKw s
end Go.Proofs
namespace Go.Proofs
open Go Go.Sx
attribute [local irreducible] Go.Sx.Tri
def CD(s:KB):List Value:=[vS s]
def strV(s:KB):Value:=vS s
section
variable{α:Type}
def IdxP(f:FuncId)(row:α->List Value)(v:α->Value)(sz:Nat):Prop:=∀{V:Mem}{l:Sl}{xs:List α}{g:Nat}{first caps:List Value}(u:Gt g)(St h:Nat->Mem->Prop)(k:∀i V1,St i V1->Ad V1 l sz (xs.map row))(w:St 0 V)
  (y:∀i x V1,xs[i]?=some x->St i V1->Tri xE g (first.toArray++#[v x]++caps.toArray) V1 λe V2=>∃b:Bool,e=.returned (.bool b)/\(b=true->h i V2)/\(b=false->St (i+1) V2)),
  Tri xE f #[l.v,.func (.func g) first.toArray caps.toArray] V λe V'=>(∃i:Nat,e=.returned (.int .i64 i)/\h i V')∨(e=.returned (.int .i64 (-1))/\St xs.length V')
def ConP(f:FuncId)(row:α->List Value)(v:α->Value)(sz:Nat):Prop:=∀{V:Mem}{l:Sl}{xs:List α}{g:Nat}{first caps:List Value}(u:Gt g)(St h:Nat->Mem->Prop)(k:∀i V1,St i V1->Ad V1 l sz (xs.map row))(w:St 0 V)
  (y:∀i x V1,xs[i]?=some x->St i V1->Tri xE g (first.toArray++#[v x]++caps.toArray) V1 λe V2=>∃b:Bool,e=.returned (.bool b)/\(b=true->h i V2)/\(b=false->St (i+1) V2)),
  Tri xE f #[l.v,.func (.func g) first.toArray caps.toArray] V λe V'=>(∃i:Nat,e=.returned (.bool true)/\h i V')∨(e=.returned (.bool false)/\St xs.length V')
def ConC(f:FuncId)(row:α->List Value)(v:α->Value)(sz:Nat):Prop:=∀{V:Mem}{l:Sl}{xs:List α}{g:Nat}{first caps:List Value}(h:Ad V l sz (xs.map row))(k:Gt g)(p:α->Bool) (u:∀x∈xs,PP g (first++[v x]++caps) V (.bool (p x))),PP f [l.v,.func (.func g) first.toArray caps.toArray] V (.bool (xs.any p))
variable{f fc:FuncId}{row:α->List Value}{v:α->Value}{sz:Nat}
theorem conG(h:IdxP f row v sz)(x:∀{l:Sl}{c:Value}{V:Mem}{R:RP},(TT f #[uL l,K.cast .f c] V λe V1=>∃y,e=rV (uI y)/\R (rV (uB (decide (0<=y)))) V1)->TT fc #[uL l,K.cast .f c] V R):ConP fc row v sz:=by
 intro V l xs g first u j St w k n m
 refine x (c:=.func (.func g) first.toArray u.toArray) (Tri.mono (h j St w k n m) ?_);rintro e V' (⟨i,rfl,h⟩|⟨rfl,h⟩)
 ·refine⟨_,rfl,.inl ⟨i,?_,h⟩⟩;rfl
 simp_all
theorem conC(H:ConP fc row v sz):ConC fc row v sz:=by
 intro V l xs g first n h r p o
 refine Tri.mono (H r (λi V1=>V1=V/\∀j x,j<i->xs[j]?=some x->p x=false) (λi V1=>V1=V/\∃x∈xs,p x=true) (λi V1 k=>k.1▸h) ⟨rfl,λj x u=>absurd u (Nat.not_lt_zero _)⟩ ?_) ?_
 ·rintro i x _ w ⟨rfl,k⟩;have hm:x∈xs:=List.mem_of_getElem? w;have:=(o x hm).callv (q:=λe V2=>∃b:Bool,e=.returned (.bool b)/\(b=true->V2=_/\∃x∈xs,p x=true)/\(b=false->V2=_/\∀j x,j<i+1->xs[j]?=some x->p x=false)) ⟨_,rfl,λm=>⟨rfl,x,hm,m⟩,λm=>⟨rfl,λj y u c=>by
   grind⟩⟩
  exact this
 ·rintro e V' (⟨i,rfl,rfl,x,hm,w⟩|⟨rfl,rfl,k⟩);·grind
  ·have:xs.any p=false:=List.any_eq_false.2 λx hm w=>by
    obtain⟨j,u,rfl⟩:=yd.1 hm;simp_all
   simp_all
end
theorem g154:IdxP 154 Fld.row Fld.v 2:=by
 intro V l xs g first w q St o k p c
 refine x154 (a:=l) (b:=.func (.func g) first.toArray w.toArray) ?_;refine Av xs.length St p ?_;intro i b V1 J Y r d;have h:=k i V1 r;refine⟨λu=>?_,λj=>?_⟩
 ·obtain⟨x,hm,s,W,H,n,G,y⟩:=h.get u;refine⟨n,G,u,_,_,y,g,_,_,rfl,q,Tri.mono (c i x V1 s r) ?_⟩;rintro e V2 ⟨b,rfl,N,Z⟩;exact⟨b,rfl,λm=>.inl ⟨i,rfl,N m⟩,λm=>⟨h.succ u,d H _ _ (Z (by simpa using m))⟩⟩
 ·have e:i=xs.length:=by have:=(h.done j).2;omega
  simp_all
theorem g107:ConP 107 Fld.row Fld.v 2:=conG g154 x107
theorem c107:ConC 107 Fld.row Fld.v 2:=conC g107
theorem g254:IdxP 254 Iv.row Iv.v 6:=by
 intro V l xs g first w q St o k p c
 refine x254 (a:=l) (b:=.func (.func g) first.toArray w.toArray) ?_;refine Av xs.length St p ?_;intro i b V1 J Y r d;have h:=k i V1 r;refine⟨λu=>?_,λj=>?_⟩
 ·obtain⟨x,hm,s,W,H,n,G,y⟩:=h.get u;refine⟨n,G,u,_,_,_,_,_,_,y,g,_,_,rfl,q,Tri.mono (c i x V1 s r) ?_⟩;rintro e V2 ⟨b,rfl,N,Z⟩;exact⟨b,rfl,λm=>.inl ⟨i,rfl,N m⟩,λm=>⟨h.succ u,d H _ _ (Z (by simpa using m))⟩⟩
 ·have e:i=xs.length:=by have:=(h.done j).2;omega
  simp_all
theorem g235:ConP 235 Iv.row Iv.v 6:=conG g254 x235
theorem c235:ConC 235 Iv.row Iv.v 6:=conC g235
theorem g155:IdxP 155 Ty.row Ty.v 2:=by
 intro V l xs g first w q St o k p c
 refine x155 (a:=l) (b:=.func (.func g) first.toArray w.toArray) ?_;refine Av xs.length St p ?_;intro i b V1 J Y r d;have h:=k i V1 r;refine⟨λu=>?_,λj=>?_⟩
 ·obtain⟨x,hm,s,W,H,n,G,y⟩:=h.get u;refine⟨n,G,u,_,_,y,g,_,_,rfl,q,Tri.mono (c i x V1 s r) ?_⟩;rintro e V2 ⟨b,rfl,N,Z⟩;exact⟨b,rfl,λm=>.inl ⟨i,rfl,N m⟩,λm=>⟨h.succ u,d H _ _ (Z (by simpa using m))⟩⟩
 ·have e:i=xs.length:=by have:=(h.done j).2;omega
  simp_all
theorem g111:ConP 111 Ty.row Ty.v 2:=conG g155 x111
theorem c111:ConC 111 Ty.row Ty.v 2:=conC g111
theorem g184:IdxP 184 Pr.row Pr.v 5:=by
 intro V l xs g first w q St o k p c
 refine x184 (a:=l) (b:=.func (.func g) first.toArray w.toArray) ?_;refine Av xs.length St p ?_;intro i b V1 J Y r d;have h:=k i V1 r;refine⟨λu=>?_,λj=>?_⟩
 ·obtain⟨x,hm,s,W,H,n,G,y⟩:=h.get u;refine⟨n,G,u,_,_,_,_,_,y,g,_,_,rfl,q,Tri.mono (c i x V1 s r) ?_⟩;rintro e V2 ⟨b,rfl,N,Z⟩;exact⟨b,rfl,λm=>.inl ⟨i,rfl,N m⟩,λm=>⟨h.succ u,d H _ _ (Z (by simpa using m))⟩⟩
 ·have e:i=xs.length:=by have:=(h.done j).2;omega
  simp_all
theorem g144:ConP 144 Pr.row Pr.v 5:=conG g184 x144
theorem c144:ConC 144 Pr.row Pr.v 5:=conC g144
theorem g223:IdxP 223 Bd.row Bd.v 5:=by
 intro V l xs g first w q St o k p c
 refine x223 (a:=l) (b:=.func (.func g) first.toArray w.toArray) ?_;refine Av xs.length St p ?_;intro i b V1 J Y r d;have h:=k i V1 r;refine⟨λu=>?_,λj=>?_⟩
 ·obtain⟨x,hm,s,W,H,n,G,y⟩:=h.get u;refine⟨n,G,u,_,_,_,_,_,y,g,_,_,rfl,q,Tri.mono (c i x V1 s r) ?_⟩;rintro e V2 ⟨b,rfl,N,Z⟩;exact⟨b,rfl,λm=>.inl ⟨i,rfl,N m⟩,λm=>⟨h.succ u,d H _ _ (Z (by simpa using m))⟩⟩
 ·have e:i=xs.length:=by have:=(h.done j).2;omega
  simp_all
theorem g182:ConP 182 Bd.row Bd.v 5:=conG g223 x182
theorem c182:ConC 182 Bd.row Bd.v 5:=conC g182
theorem g252:IdxP 252 E.row E.v 4:=by
 intro V l xs g first w q St o k p c
 refine x252 (a:=l) (b:=.func (.func g) first.toArray w.toArray) ?_;refine Av xs.length St p ?_;intro i b V1 J Y r d;have h:=k i V1 r;refine⟨λu=>?_,λj=>?_⟩
 ·obtain⟨x,hm,s,W,H,n,G,y⟩:=h.get u;refine⟨n,G,u,_,_,_,_,y,g,_,_,rfl,q,Tri.mono (c i x V1 s r) ?_⟩;rintro e V2 ⟨b,rfl,N,Z⟩;exact⟨b,rfl,λm=>.inl ⟨i,rfl,N m⟩,λm=>⟨h.succ u,d H _ _ (Z (by simpa using m))⟩⟩
 ·have e:i=xs.length:=by have:=(h.done j).2;omega
  simp_all
theorem g226:ConP 226 E.row E.v 4:=conG g252 x226
theorem c226:ConC 226 E.row E.v 4:=conC g226
theorem g253:IdxP 253 Ms.row Ms.v 7:=by
 intro V l xs g first w q St o k p c
 refine x253 (a:=l) (b:=.func (.func g) first.toArray w.toArray) ?_;refine Av xs.length St p ?_;intro i b V1 J Y r d;have h:=k i V1 r;refine⟨λu=>?_,λj=>?_⟩
 ·obtain⟨x,hm,s,W,H,n,G,y⟩:=h.get u;refine⟨n,G,u,_,_,_,_,_,_,_,y,g,_,_,rfl,q,Tri.mono (c i x V1 s r) ?_⟩;rintro e V2 ⟨b,rfl,N,Z⟩;exact⟨b,rfl,λm=>.inl ⟨i,rfl,N m⟩,λm=>⟨h.succ u,d H _ _ (Z (by simpa using m))⟩⟩
 ·have e:i=xs.length:=by have:=(h.done j).2;omega
  simp_all
theorem g233:ConP 233 Ms.row Ms.v 7:=conG g253 x233
theorem c233:ConC 233 Ms.row Ms.v 7:=conC g233
theorem g270:IdxP 270 CD strV 1:=by
 intro V l xs g first w q St o k p c
 refine x270 (a:=l) (b:=.func (.func g) first.toArray w.toArray) ?_;refine Av xs.length St p ?_;intro i b V1 J Y r d;have h:=k i V1 r;refine⟨λu=>?_,λj=>?_⟩
 ·obtain⟨x,hm,s,W,H,n,G,y⟩:=h.get u;refine⟨n,G,u,_,y,g,_,_,rfl,q,Tri.mono (c i x V1 s r) ?_⟩;rintro e V2 ⟨b,rfl,N,Z⟩;exact⟨b,rfl,λm=>.inl ⟨i,rfl,N m⟩,λm=>⟨h.succ u,d H _ _ (Z (by simpa using m))⟩⟩
 ·have e:i=xs.length:=by have:=(h.done j).2;omega
  simp_all
theorem g266:ConP 266 CD strV 1:=conG g270 x266
theorem c266:ConC 266 CD strV 1:=conC g266
end Go.Proofs
namespace Go.Proofs
open Go.Shelf
def Tryz.lays157_ren:Go.Shelf.Ren:=⟨λ|157=>248|229=>261|199=>262|261=>268|311=>271|312=>272|n=>n,λ|9=>9|31=>229|3=>3|5=>5|4=>4|119=>315|0=>0|40=>317|152=>321|21=>21|154=>323|51=>193|141=>325|196=>330|193=>327|198=>332|49=>73|194=>328|201=>335|226=>337|46=>132|227=>338|n=>n,λ|0=>0|6=>1|n=>n⟩
theorem Tryz.lays157:Go.Proofs.Lays.n157 xE Tryz.lays157_ren:={
 mixed:=by kernel_rfl
 f157:=Tryz.func248.trans (congrArg some (by kernel_rfl))
 f199:=Tryz.func262.trans (congrArg some (by kernel_rfl))
 f229:=Tryz.func261.trans (congrArg some (by kernel_rfl))
 f261:=Tryz.func268.trans (congrArg some (by kernel_rfl))
 f311:=Tryz.func271.trans (congrArg some (by kernel_rfl))
 f312:=Tryz.func272.trans (congrArg some (by kernel_rfl))
 t0:=Tryz.underlying0
 a0:=Tryz.isAgg0
 z0:=Tryz.sizeOf0
 v0:=Tryz.zeroValue0
 t3:=Tryz.underlying3
 a3:=Tryz.isAgg3
 z3:=Tryz.sizeOf3
 v3:=Tryz.zeroValue3
 t4:=Tryz.underlying4
 a4:=Tryz.isAgg4
 z4:=Tryz.sizeOf4
 v4:=Tryz.zeroValue4
 t5:=Tryz.underlying5
 a5:=Tryz.isAgg5
 z5:=Tryz.sizeOf5
 v5:=Tryz.zeroValue5
 t9:=Tryz.underlying9
 a9:=Tryz.isAgg9
 z9:=Tryz.sizeOf9
 v9:=Tryz.zeroValue9
 t21:=Tryz.underlying21
 a21:=Tryz.isAgg21
 z21:=Tryz.sizeOf21
 v21:=Tryz.zeroValue21
 t31:=Tryz.underlying229
 a31:=Tryz.isAgg229
 z31:=Tryz.sizeOf229
 v31:=Tryz.zeroValue229
 t40:=Tryz.underlying317
 a40:=Tryz.isAgg317
 z40:=Tryz.sizeOf317
 v40:=Tryz.zeroValue317
 t46:=Tryz.underlying132
 a46:=Tryz.isAgg132
 z46:=Tryz.sizeOf132
 v46:=Tryz.zeroValue132
 t49:=Tryz.underlying73
 a49:=Tryz.isAgg73
 z49:=Tryz.sizeOf73
 v49:=Tryz.zeroValue73
 t51:=Tryz.underlying193
 a51:=Tryz.isAgg193
 z51:=Tryz.sizeOf193
 v51:=Tryz.zeroValue193
 t119:=Tryz.underlying315
 a119:=Tryz.isAgg315
 z119:=Tryz.sizeOf315
 t141:=Tryz.underlying325
 a141:=Tryz.isAgg325
 z141:=Tryz.sizeOf325
 v141:=Tryz.zeroValue325
 t152:=Tryz.underlying321
 a152:=Tryz.isAgg321
 z152:=Tryz.sizeOf321
 v152:=Tryz.zeroValue321
 t154:=Tryz.underlying323
 a154:=Tryz.isAgg323
 z154:=Tryz.sizeOf323
 v154:=Tryz.zeroValue323
 t193:=Tryz.underlying327
 a193:=Tryz.isAgg327
 z193:=Tryz.sizeOf327
 v193:=Tryz.zeroValue327
 t194:=Tryz.underlying328
 a194:=Tryz.isAgg328
 z194:=Tryz.sizeOf328
 v194:=Tryz.zeroValue328
 t196:=Tryz.underlying330
 a196:=Tryz.isAgg330
 z196:=Tryz.sizeOf330
 v196:=Tryz.zeroValue330
 t198:=Tryz.underlying332
 a198:=Tryz.isAgg332
 z198:=Tryz.sizeOf332
 v198:=Tryz.zeroValue332
 t201:=Tryz.underlying335
 a201:=Tryz.isAgg335
 z201:=Tryz.sizeOf335
 v201:=Tryz.zeroValue335
 t226:=Tryz.underlying337
 a226:=Tryz.isAgg337
 z226:=Tryz.sizeOf337
 v226:=Tryz.zeroValue337
 t227:=Tryz.underlying338
 a227:=Tryz.isAgg338
 z227:=Tryz.sizeOf338
 v227:=Tryz.zeroValue338
 g0:=by kernel_rfl
 g6:=by kernel_rfl}
open Go.RowKit Go.Lib in
theorem Tryz.strings_Fields(s:KB)(w:World)(g:s.size<4294967281)(h:∀(j:Nat) b,s.data.toList[j]?=some b->b.toNat<128)(k:xK xE w "strings.asciiSpace" .u8 xL):
  Calls xE 248 #[.string s] w λe w'=>
   e=.returned (.slice (some ⟨w.heap.size,0,none⟩) (xM s.data.toList).length (xM s.data.toList).length)/\w'=w.alloc (.cells ((xM s.data.toList).map λl=>xN ⟨l.toArray⟩).toArray 9):=Any.strings_Fields Tryz.lays157 (by kernel_rfl) (by kernel_rfl) s w g h k
end Go.Proofs
namespace Go.Proofs
open Go Go.Sx
attribute [local irreducible] Go.Sx.Tri
class Tab (V:Mem):Prop where
 at_:∃t fr,V 0=some (.cells (xL.map λz=>Value.int .u8 z).toArray t fr)
theorem Tab.sub{V V':Mem}(h:Tab V)(k:V.sub V'):Tab V':=by
 obtain⟨t,fr,h⟩:=h.at_;exact⟨t,fr,k _ _ h⟩
theorem Tab.is{V:Mem}{w:World}(h:Tab V)(k:V.le w):xK xE w "strings.asciiSpace" .u8 xL:=by
 obtain⟨t,fr,h⟩:=h.at_;have g:xE.globalNamed "strings.asciiSpace" =some 0:=by kernel_rfl
 unfold xK World.var?;rw[g,Option.bind_some,k _ _ h]
theorem frm_new{V:Mem}{w:World}(hw:V.le w)(o:Obj):V w.heap.size=none/\Aq V w (V.set w.heap.size o) (w.alloc o):=by
 have g:V w.heap.size=none:=by
  cases u:V w.heap.size with
  |none=>rfl
  |some o=>have:=(yA.1 (hw _ o u)).1;omega
 refine⟨g,by simp,λb o h=>?_,λb h _=>xO _ _ _ h,λb h=>?_,rfl,rfl⟩
 ·by_cases e:b=w.heap.size;·grind[Mem.set_same,World.alloc_heap_new]
  ·rw[Mem.set_ne e]at h;have k:=(yA.1 (hw b o h)).1;exact(xO _ _ _ k).trans (hw b o h)
 grind[inr,Mem.set_ne]
def kwText:KB:=Ac [97,110,100,32,98,111,111,108,32,98,111,117,110,100,32,100,101,115,99,32,101,108,115,101,32,102,97,108,115,101,32,105,102,32,105,110,116,32,105,110,118,97,114,105,97,110,116,32,108,111,99,97,108,32,108,111,103,32,109,97,120,32,109,101,97,115,117,114,101,32,109,105,110,32,110,101,119,32,110,105,108,32,110,111,116,32,111,112,32,111,114,32,112,111,116,101,110,116,105,97,108,32,112,114,111,99,32,114,101,116,117,114,110,32,114,117,108,101,32,115,99,114,105,112,116,32,115,111,114,116,32,115,112,101,99,32,116,104,105,115,32,116,114,117,101,32,116,121,112,101,32,118,97,114,32,119,104,105,108,101]
def EG:List KB:=(xM kwText.data.toList).map λl=>⟨l.toArray⟩
theorem kwText_size:kwText.size=160:=by kernel_rfl
theorem L8:EG.length=31:=by kernel_rfl
theorem c221{V:Mem}(k:Tab V):Tri xE 221 #[] V λe V'=>∃b,V b=none/\e=.returned (.slice (sa b) 31 31)/\V'=V.set b (.cells (EG.map xN).toArray 9 (0,0)):=by
 refine x221 ?_;refine Tri.mono (R:=λe V'=>∃b,V b=none/\e=.returned (.slice (sa b) 31 31)/\V'=V.set b (.cells (EG.map xN).toArray 9 (0,0))) ?_ ?_
 ·unfold Tri;intro w hw;refine Fk (Tryz.strings_Fields kwText w (by rw[kwText_size];decide) ?_ (k.is hw)) ?_
  ·have h:(kwText.data.toList.all λb=>decide (b.toNat<128))=true:=by kernel_rfl
   grind
  ·rintro e w' ⟨rfl,rfl⟩;obtain⟨g,u⟩:=frm_new hw (.cells (EG.map xN).toArray 9);refine⟨_,⟨w.heap.size,g,?_,rfl⟩,?_⟩;·rfl
   ·have e:((xM kwText.data.toList).map λl=>xN ⟨l.toArray⟩)=EG.map xN:=by
     rfl
    rw[e];exact u
 ·rintro e V' ⟨b,y,rfl,rfl⟩;exact⟨⟨some ⟨b,0,none⟩,31,31⟩,rfl,b,y,rfl,rfl⟩
theorem c260{V:Mem}{s:KB}:PP 260 [.string s] V (.bool false):=by
 refine x260 ?_;simp
theorem c247{V:Mem}{s:KB}:PP 247 [.string s] V (.bool false):=by
 refine x247 ?_;simp
def E4(s t:KB):Bool:=xH s.toList t.toList
theorem c246{V:Mem}{s t:KB}:PP 246 [.string s,.string t] V (.bool (E4 s t)):=by
 refine x246 ?_;refine c260.call ⟨_,rfl,λh=>?_,λ_=>⟨rfl,rfl⟩⟩;cases h
theorem bl_trans:∀{a b c:List UInt8},xH a b=true->xH b c=true->xH a c=true
 |_,[],_,h,_=>by simp[xH]at h
 |_,_::_,[],_,k=>by simp[xH]at k
 |[],_::_,_::_,_,_=>rfl
 |a::x,b::y,c::z,h,k=>by
  simp only[xH,Bool.or_eq_true,decide_eq_true_eq,zC,beq_iff_eq]at h k⊢;rcases h with h|⟨rfl,h⟩;·grind
  ·rcases k with k|⟨rfl,k⟩;·exact .inl k
   ·exact .inr ⟨rfl,bl_trans h k⟩
theorem Kn{a b c:KB}(h:E4 a b=true)(k:E4 b c=true):E4 a c=true:=bl_trans h k
theorem bl_irrefl:∀l:List UInt8,xH l l=false
 |[]=>rfl
 |a::l=>by
  have h:¬(a<a):=by simp_all
  simp[xH,bl_irrefl l,h]
theorem ltB_irrefl(a:KB):E4 a a=false:=bl_irrefl _
def I1:List KB->Bool
 |a::b::l=>E4 a b&&I1 (b::l)
 |_=>true
theorem HU:∀{l:List KB},I1 l=true->∀(i j:Nat)(x y:KB),i<j->l[i]?=some x->l[j]?=some y->E4 x y=true
 |[],_,i,j,x,y,_,k,_=>by simp at k
 |[a],_,i,j,x,y,u,k,g=>by
  grind
 |a::b::l,h,i,j,x,y,u,k,g=>by
  simp only[I1,zC]at h;cases j with
  |zero=>omega
  |succ j=>
   rw[xP]at g;cases i with
   |succ i=>rw[xP]at k;exact HU h.2 i j x y (by omega) k g
   |zero=>
    simp only[List.getElem?_cons_zero,Option.some.injEq]at k;subst k;cases j with
    |zero=>simp_all
    |succ j=>exact Kn h.1 (HU h.2 0 (j+1) b y (by omega) rfl g)
theorem GenK.shr1{V:Mem}{vals:Operand->Value}{t ty:TypeId}{n:Int}(g:vals (.tmp 19)=.int .u64 n)(h:vals (.const (.int .u64 1))=.int .u64 1){q:Value->Mem->Prop}(k:q (.int .u64 (n/2)) V):
  GenK xE (.binOp .shr t (.tmp 19) (.const (.int .u64 1)) t) ty vals V q:=by
 intro w hw;refine⟨_,w,V,?_,Aq.refl hw,k⟩;have e:Op.shift .shr .u64 n .u64 1=pure (.int .u64 (n/2)):=by
  unfold Op.shift;rw[if_neg (by decide)];show pure (Value.int .u64 (n.fdiv (2^1)))=_;grind
 simp_all[execOp,eqGuard,binOp_shr]
theorem Ko{xs:List KB}{s:KB}:hasS xs s=true↔s∈xs:=by
 grind[hasS]
def kwIx(s:KB):Bool:=hasS EG s
theorem kwIx_eq(s:KB):kwIx s=isKw s:=by
 have h:(EG.all λx=>G8.any λy=>decide (y=x))=true:=by kernel_rfl
 have k:(G8.all λx=>EG.any λy=>decide (y=x))=true:=by kernel_rfl
 unfold kwIx isKw;rw[Bool.eq_iff_iff,Ko,Ko];grind
theorem c220{V:Mem}{l:Sl}{xs:List KB}{s:KB}(h:Ad V l 1 (xs.map λx=>[vS x]))(d:I1 xs=true)(Y:xs.length<=1000):
  Tri xE 220 #[l.v,.string s] V λe V'=>∃n:Int,e=.returned (.tuple #[.int .i64 n,.bool (hasS xs s)])/\V'=V:=by
 refine x220 ?_;have P:=h.n_eq;have B:=h.cap;have C:=h.fit;refine⟨λn O V1=>∃i j:Nat,O=[.int .i64 i,.int .i64 j]/\V1=V/\i<=j/\j<=xs.length/\n=j-i/\(∀(k:Nat) x,k<i->xs[k]?=some x->E4 x s=true)/\(∀(k:Nat) x,j<=k->xs[k]?=some x->E4 x s=false),xs.length,
  ⟨0,xs.length,by rw[P];rfl,rfl,by omega,by omega,by omega,λk x p=>by omega,λk x p c=>by simp_all⟩,?_⟩
 rintro n V1 D E ⟨i,j,m,rfl,A,I,rfl,H,G⟩ J W;simp only[List.cons.injEq,Value.int.injEq,true_and,and_true]at m;obtain⟨rfl,rfl⟩:=m;refine⟨λu=>?_,λM=>?_⟩
 ·refine⟨⟨by omega,by omega⟩,⟨by show(0:Int)<=_;omega,by show _<=(18446744073709551615:Int);omega⟩,?_⟩;refine GenK.shr1 (n:=(i:Int)+j) rfl rfl ⟨_,rfl,⟨by omega,by omega⟩,?_⟩;have hm:((i:Int)+j)/2=((i+j)/2:Nat):=by omega
  rw[hm];obtain⟨x,r,c,F,L,b,a,g⟩:=h.get (i:=(i+j)/2) (by omega);refine⟨b,a,by omega,x,g,c246.call ⟨_,rfl,λq=>⟨⟨by omega,by omega⟩,?_⟩,λq=>?_⟩⟩
  ·refine W (j-((i+j)/2+1)) _ _ (by omega) ⟨(i+j)/2+1,j,rfl,rfl,by omega,I,rfl,λk y p m=>?_,G⟩;rcases Nat.lt_or_ge k ((i+j)/2)with w|w;·exact Kn (HU d k _ y x w m c) q
   grind
  ·refine W ((i+j)/2-i) _ _ (by omega) ⟨i,(i+j)/2,rfl,rfl,by omega,by omega,rfl,H,λk y p m=>?_⟩;cases X:E4 y s with
   |false=>rfl
   |true=>
    rcases Nat.lt_or_ge ((i+j)/2) k with w|w;·exact absurd (Kn (HU d _ k x y w c m) X) q
    grind
 ·have o:i=j:=by omega
  subst o;have key:s∈xs->xs[i]?=some s:=λhm=>by
   obtain⟨k,p,e⟩:=yd.1 hm;have N:xs[k]?=some s:=by simp_all
   rcases Nat.lt_trichotomy k i with w|w|w;·grind[ltB_irrefl]
   ·grind
   ·have Z:i<xs.length:=by omega
    have K:=HU d i k xs[i] s w (List.getElem?_eq_getElem Z) N;grind
  refine⟨λu=>?_,λQ=>?_⟩
  ·obtain⟨x,r,c,F,L,b,a,g⟩:=h.get (i:=i) u;refine⟨b,a,u,x,g,λe=>?_,λe=>⟨b,a,u,x,g,c247.call ⟨_,rfl,λq=>?_,λ_=>?_⟩⟩⟩
   ·subst e;exact⟨i,by rw[Ko.2 r],rfl⟩
   ·cases q
   ·refine⟨i,?_,rfl⟩;grind[hasS,absurd]
  ·refine⟨i,?_,rfl⟩;grind[hasS]
theorem c177{V:Mem}{s:KB}(k:Tab V):PP 177 [.string s] V (.bool (isKw s)):=by
 refine AP.mk ?_;refine x177 ?_;refine Tri.mono (c221 k) ?_;rintro _ V' ⟨b,g,rfl,rfl⟩;refine⟨⟨some ⟨b,0,none⟩,31,31⟩,rfl,?_⟩;have h:Ad (V.set b (.cells ((EG.map xN).toArray) 9 (0,0))) ⟨some ⟨b,0,none⟩,31,31⟩ 1 (EG.map λx=>[vS x]):=
  Ad.cells (xs:=EG) (row:=λx=>[vS x]) As (by simp;rfl) (λ_=>rfl) L8.symm (Nat.le_of_ble_eq_true rfl)
 refine Tri.mono (c220 h (by kernel_rfl) (by rw[L8];decide)) ?_;rintro _ V2 ⟨n,rfl,rfl⟩;exact⟨n,_,rfl,by rw[<-kwIx_eq];rfl,Mem.sub_new g _⟩
theorem c140{V:Mem}[Tab V]{s:KB}:PP 140 [.string s] V (.bool (BW s)):=by
 refine x140 ?_;refine⟨λh=>?_,λh=>⟨λu=>?_,λu=>?_⟩⟩;·subst h;exact⟨rfl,rfl⟩
 ·grind[BW]
 ·have r:s.size≠0:=λe=>h (by
   have:s.data=#[]:=Array.eq_empty_of_size_eq_zero e;cases s;simp only at this;subst this;rfl)
  refine⟨by omega,c176.call ⟨_,rfl,λw=>?_,λw=>?_⟩⟩
  ·refine(c177 inferInstance).call ⟨_,rfl,λg=>?_,λg=>?_⟩;·simp[BW,g]
   ·refine Av s.size (λi V1=>V1=V/\∀j:Nat,j<i->EF (Du s j)=true) ⟨rfl,by simp⟩ ?_;rintro i b _ J q ⟨rfl,y⟩ x;refine⟨λl=>⟨by omega,c176.call ⟨_,rfl,λhw=>?_,λhw=>⟨⟨by omega,by omega⟩,x (by omega) _ _ ⟨rfl,λj k=>?_⟩⟩⟩⟩,λn=>?_⟩
    ·rw[cls_word]at hw;grind[EF,Du,BW]
    ·rcases Nat.lt_succ_iff_lt_or_eq.1 k with m|rfl;·exact y j m
     simp_all[cls_word]
    grind[Nat,EF,Du,BW,isKw,decide_eq_true,cls_two]
  grind[cls_two,EE,Du,BW]
/-! Nodes. -/
def Cc(op:Int):Int:=if(1<=op/\op<=4)∨op=6 then 0 else if op=5∨op=8∨op=18∨op=24 then 1 else if op=7 then -1 else if op=21 then 3 else if 9<=op/\op<=23 then 2 else -2
theorem c249{V:Mem}{op:Int}:PP 249 [.int .i64 op] V (.tuple #[.int .i64 (if Cc op=-2 then 2 else Cc op),.bool (decide (Cc op≠-2))]):=by
 refine x249 ?_;have key:∀(n:Int)(b:Bool),(if Cc op=-2 then 2 else Cc op)=n->decide (Cc op≠-2)=b->xI (.tuple #[.int .i64 n,.bool b])=xI (.tuple #[.int .i64 (if Cc op=-2 then 2 else Cc op),.bool (decide (Cc op≠-2))]):=λn b h k=>by rw[h,k]
 unfold Cc at key
 repeat' (first|intro _|apply xJ)
 all_goals first|rfl|(refine key _ _ ?_ ?_<;>grind)
def sThis:KB:=Ac [116,104,105,115]
def EH(op:Int)(s:KB):Bool:=if op=4 then decide (s=sThis)||BW s else if op=5∨op=6∨op=7 then BW s else decide (s=Ac [])
def numB(op n:Int):Bool:=if op=1 then decide (0<=n/\n<=1099511627776)else if op=2 then decide (n=0∨n=1)else decide (n=0)
def Dx(op n:Int)(s:KB)(len:Int):Bool:=decide (Cc op≠-2/\(0<=Cc op->len=Cc op)/\(Cc op=-1->len<=6))&&EH op s&&numB op n
theorem c250{V:Mem}[Tab V]{e:E}:PP 250 [e.v] V (.bool (EH e.op e.s&&numB e.op e.n)):=by
 refine x250 ?_;have key:∀b:Bool,(EH e.op e.s&&numB e.op e.n)=b->xI (.bool b)=xI (.bool (EH e.op e.s&&numB e.op e.n)):=λn h=>by rw[h]
 unfold EH numB sThis at key
 repeat' (first|refine c140.call ⟨_,rfl,?_⟩|intro _|apply xJ)
 all_goals first|rfl|(refine key _ ?_;grind)
end Go.Proofs
