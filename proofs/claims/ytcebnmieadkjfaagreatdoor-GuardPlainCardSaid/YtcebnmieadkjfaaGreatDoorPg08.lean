/- Part 8: no statement of the seat is proved here. -/
import Derived.Test.YtcebnmieadkjfaaGreatDoorPg05
import Derived.Test.YtcebnmieadkjfaaGreatDoorPg06
import Derived.Test.YtcebnmieadkjfaaGreatDoorPg07
import Derived.Shelf.Strings.Fields
import Derived.Sort.Walk0
import Derived.RangeFuncRecord
set_option linter.unusedVariables false
set_option linter.unusedSimpArgs false
open Go.Proofs.Tryz renaming prog->xG
open Go.Ending renaming returned->xJ
open And renaming intro->xK
open List renaming mem_iff_getElem->yc,getElem?_eq_getElem->yu,mem_of_getElem?->xM,getElem?_cons_succ->xU,getElem?_cons_zero->xV,getElem?_eq_some_iff->yv
open Go.Value renaming string->yo
open Nat renaming le_of_ble_eq_true->xL
open Go.Lib renaming TabIs->xP,asciiSpaceTab->xQ,fields->xR
open Array renaming getElem?_eq_some_iff->yA
open Go.RowKit.Below renaming heap_alloc->xS
open Go.Op renaming bytesLess->xT
open Bool renaming and_eq_true->zC
open Option.some renaming injEq->zF
namespace Go.Proofs
open Go Go.Sx
set_option maxRecDepth 100000
section
variable{V:Mem}{R:RP}
theorem ON{a:Option Addr}{b c:KB}{d g:Int}{i:KB}{j:Sl}(h:N2 a (¬(Aa a 0)=none/\∃k,V.rowp a 4 1=some [uL k]/\Lp [z0,uI 0] V λI n V1=>∀l o,I n [uL l,uI o] V1->∀J0:LMP,Nx I n J0->Br (o<(k.n:Int)) (Ix k o (∃p q r s u y z,V1.rowp k.p (o.toNat*7) 7=some [uS p,uS q,uI r,uI s,uI u,uS y,uL z]/\IR (((Ab [109,101,97,115,117,114,101,95]).size:Int)+(p.size:Int))/\N2 a (∃A,V1.rowp a 8 1=some [uS A]/\(TT 82 #[uP a] V1 λe V2=>∃B C D F,e=rV (uA #[uI B,uI C,uS D,uL F])/\V2.rowp (Aa a 8) 0 1=some [uS A]/\N2 a (IR (((Ab [109,101,97,115,117,114,101,95]).size:Int)+(p.size:Int))/\(TT 83 #[uI r] V2 λe T=>∃G H L M,e=rV (uA #[uI G,uI H,uS L,uL M])/\T.rowp (Aa a 8) 0 1=some [uS A]/\N2 a (IR (((Ab [109,101,97,115,117,114,101,95]).size:Int)+(p.size:Int))/\(TT 81 #[uA #[uI B,uI C,uS D,uL F],uA #[uI G,uI H,uS L,uL M]] T λe J=>∃N O P Q U,e=rV (uA #[uI N,uS O,uL P,uL Q,uL U])/\J.rowp (Aa a 8) 0 1=some [uS A]/\N2 a (IR (((Ab [109,101,97,115,117,114,101,95]).size:Int)+(p.size:Int))/\(TT 56 #[uP a,uA #[uI s,uI u,uS y,uL z]] J λe m=>∃W X Y Z,e=rV (uA #[uI W,uI X,uS Y,uL Z])/\m.rowp (Aa a 8) 0 1=some [uS A]/\N2 a (IR (((Ab [109,101,97,115,117,114,101,95]).size:Int)+(p.size:Int))/\(TT 84 #[uA #[uI W,uI X,uS Y,uL Z]] m λe x=>∃a0 a1 a2 a3 E,e=rV (uA #[uI a0,uS a1,uL a2,uL a3,uL E])/\x.rowp (Aa a 8) 0 1=some [uS A]/\N2 a (IR (((Ab [109,101,97,115,117,114,101,95]).size:Int)+(p.size:Int))/\(x.rowp (Aa a 8) 0 1=some [uS A]/\N2 a (IR (((Ab [109,101,97,115,117,114,101,95]).size:Int)+(p.size:Int))/\IR (((Ab [109,101,97,115,117,114,101,95]).size:Int)+(p.size:Int))/\Af [uS A,uS q] 110 x λa5 K=>Af [uI N,uS O,uL P,uL Q,uL U,uI a0,uS a1,uL a2,uL a3,uL E] 114 K λa6 S=>Af [uS ((Ab [109,101,97,115,117,114,101,95])++p),.slice (Aa a5 0) 1 1,uS (Ab [105,110,116]),z0,.slice (Aa a6 0) 2 2] 74 S λa7 V9=>Ap 23 48 24 (uL l) (.slice (Aa a7 0) 1 1) V9 λa8 w=>IR (o+1)/\J0 [uL a8,uI (o+1)] w))/\(IR (((Ab [109,101,97,115,117,114,101,95]).size:Int)+(p.size:Int))/\IR (((Ab [109,101,97,115,117,114,101,95]).size:Int)+(p.size:Int))/\Af [uS A,uS q] 110 x λa5 K=>Af [uI N,uS O,uL P,uL Q,uL U,uI a0,uS a1,uL a2,uL a3,uL E] 114 K λa6 S=>Af [uS ((Ab [109,101,97,115,117,114,101,95])++p),.slice (Aa a5 0) 1 1,uS (Ab [105,110,116]),z0,.slice (Aa a6 0) 2 2] 74 S λa7 V9=>Ap 23 48 24 (uL l) (.slice (Aa a7 0) 1 1) V9 λa8 w=>IR (o+1)/\J0 [uL a8,uI (o+1)] w)))/\(IR (((Ab [109,101,97,115,117,114,101,95]).size:Int)+(p.size:Int))/\TT 84 #[uA #[uI W,uI X,uS Y,uL Z]] m λe x=>∃a0 a1 a2 a3 E,e=rV (uA #[uI a0,uS a1,uL a2,uL a3,uL E])/\IR (((Ab [109,101,97,115,117,114,101,95]).size:Int)+(p.size:Int))/\IR (((Ab [109,101,97,115,117,114,101,95]).size:Int)+(p.size:Int))/\Af [uS A,uS q] 110 x λa5 K=>Af [uI N,uS O,uL P,uL Q,uL U,uI a0,uS a1,uL a2,uL a3,uL E] 114 K λa6 S=>Af [uS ((Ab [109,101,97,115,117,114,101,95])++p),.slice (Aa a5 0) 1 1,uS (Ab [105,110,116]),z0,.slice (Aa a6 0) 2 2] 74 S λa7 V9=>Ap 23 48 24 (uL l) (.slice (Aa a7 0) 1 1) V9 λa8 w=>IR (o+1)/\J0 [uL a8,uI (o+1)] w)))/\(IR (((Ab [109,101,97,115,117,114,101,95]).size:Int)+(p.size:Int))/\TT 56 #[uP a,uA #[uI s,uI u,uS y,uL z]] J λe m=>∃W X Y Z,e=rV (uA #[uI W,uI X,uS Y,uL Z])/\IR (((Ab [109,101,97,115,117,114,101,95]).size:Int)+(p.size:Int))/\TT 84 #[uA #[uI W,uI X,uS Y,uL Z]] m λe x=>∃a0 a1 a2 a3 E,e=rV (uA #[uI a0,uS a1,uL a2,uL a3,uL E])/\IR (((Ab [109,101,97,115,117,114,101,95]).size:Int)+(p.size:Int))/\IR (((Ab [109,101,97,115,117,114,101,95]).size:Int)+(p.size:Int))/\Af [uS A,uS q] 110 x λa5 K=>Af [uI N,uS O,uL P,uL Q,uL U,uI a0,uS a1,uL a2,uL a3,uL E] 114 K λa6 S=>Af [uS ((Ab [109,101,97,115,117,114,101,95])++p),.slice (Aa a5 0) 1 1,uS (Ab [105,110,116]),z0,.slice (Aa a6 0) 2 2] 74 S λa7 V9=>Ap 23 48 24 (uL l) (.slice (Aa a7 0) 1 1) V9 λa8 w=>IR (o+1)/\J0 [uL a8,uI (o+1)] w)))/\(IR (((Ab [109,101,97,115,117,114,101,95]).size:Int)+(p.size:Int))/\TT 81 #[uA #[uI B,uI C,uS D,uL F],uA #[uI G,uI H,uS L,uL M]] T λe J=>∃N O P Q U,e=rV (uA #[uI N,uS O,uL P,uL Q,uL U])/\IR (((Ab [109,101,97,115,117,114,101,95]).size:Int)+(p.size:Int))/\TT 56 #[uP a,uA #[uI s,uI u,uS y,uL z]] J λe m=>∃W X Y Z,e=rV (uA #[uI W,uI X,uS Y,uL Z])/\IR (((Ab [109,101,97,115,117,114,101,95]).size:Int)+(p.size:Int))/\TT 84 #[uA #[uI W,uI X,uS Y,uL Z]] m λe x=>∃a0 a1 a2 a3 E,e=rV (uA #[uI a0,uS a1,uL a2,uL a3,uL E])/\IR (((Ab [109,101,97,115,117,114,101,95]).size:Int)+(p.size:Int))/\IR (((Ab [109,101,97,115,117,114,101,95]).size:Int)+(p.size:Int))/\Af [uS A,uS q] 110 x λa5 K=>Af [uI N,uS O,uL P,uL Q,uL U,uI a0,uS a1,uL a2,uL a3,uL E] 114 K λa6 S=>Af [uS ((Ab [109,101,97,115,117,114,101,95])++p),.slice (Aa a5 0) 1 1,uS (Ab [105,110,116]),z0,.slice (Aa a6 0) 2 2] 74 S λa7 V9=>Ap 23 48 24 (uL l) (.slice (Aa a7 0) 1 1) V9 λa8 w=>IR (o+1)/\J0 [uL a8,uI (o+1)] w)))/\(IR (((Ab [109,101,97,115,117,114,101,95]).size:Int)+(p.size:Int))/\TT 83 #[uI r] V2 λe T=>∃G H L M,e=rV (uA #[uI G,uI H,uS L,uL M])/\IR (((Ab [109,101,97,115,117,114,101,95]).size:Int)+(p.size:Int))/\TT 81 #[uA #[uI B,uI C,uS D,uL F],uA #[uI G,uI H,uS L,uL M]] T λe J=>∃N O P Q U,e=rV (uA #[uI N,uS O,uL P,uL Q,uL U])/\IR (((Ab [109,101,97,115,117,114,101,95]).size:Int)+(p.size:Int))/\TT 56 #[uP a,uA #[uI s,uI u,uS y,uL z]] J λe m=>∃W X Y Z,e=rV (uA #[uI W,uI X,uS Y,uL Z])/\IR (((Ab [109,101,97,115,117,114,101,95]).size:Int)+(p.size:Int))/\TT 84 #[uA #[uI W,uI X,uS Y,uL Z]] m λe x=>∃a0 a1 a2 a3 E,e=rV (uA #[uI a0,uS a1,uL a2,uL a3,uL E])/\IR (((Ab [109,101,97,115,117,114,101,95]).size:Int)+(p.size:Int))/\IR (((Ab [109,101,97,115,117,114,101,95]).size:Int)+(p.size:Int))/\Af [uS A,uS q] 110 x λa5 K=>Af [uI N,uS O,uL P,uL Q,uL U,uI a0,uS a1,uL a2,uL a3,uL E] 114 K λa6 S=>Af [uS ((Ab [109,101,97,115,117,114,101,95])++p),.slice (Aa a5 0) 1 1,uS (Ab [105,110,116]),z0,.slice (Aa a6 0) 2 2] 74 S λa7 V9=>Ap 23 48 24 (uL l) (.slice (Aa a7 0) 1 1) V9 λa8 w=>IR (o+1)/\J0 [uL a8,uI (o+1)] w)))/\(IR (((Ab [109,101,97,115,117,114,101,95]).size:Int)+(p.size:Int))/\TT 82 #[uP a] V1 λe V2=>∃B C D F,e=rV (uA #[uI B,uI C,uS D,uL F])/\IR (((Ab [109,101,97,115,117,114,101,95]).size:Int)+(p.size:Int))/\TT 83 #[uI r] V2 λe T=>∃G H L M,e=rV (uA #[uI G,uI H,uS L,uL M])/\IR (((Ab [109,101,97,115,117,114,101,95]).size:Int)+(p.size:Int))/\TT 81 #[uA #[uI B,uI C,uS D,uL F],uA #[uI G,uI H,uS L,uL M]] T λe J=>∃N O P Q U,e=rV (uA #[uI N,uS O,uL P,uL Q,uL U])/\IR (((Ab [109,101,97,115,117,114,101,95]).size:Int)+(p.size:Int))/\TT 56 #[uP a,uA #[uI s,uI u,uS y,uL z]] J λe m=>∃W X Y Z,e=rV (uA #[uI W,uI X,uS Y,uL Z])/\IR (((Ab [109,101,97,115,117,114,101,95]).size:Int)+(p.size:Int))/\TT 84 #[uA #[uI W,uI X,uS Y,uL Z]] m λe x=>∃a0 a1 a2 a3 E,e=rV (uA #[uI a0,uS a1,uL a2,uL a3,uL E])/\IR (((Ab [109,101,97,115,117,114,101,95]).size:Int)+(p.size:Int))/\IR (((Ab [109,101,97,115,117,114,101,95]).size:Int)+(p.size:Int))/\Af [uS A,uS q] 110 x λa5 K=>Af [uI N,uS O,uL P,uL Q,uL U,uI a0,uS a1,uL a2,uL a3,uL E] 114 K λa6 S=>Af [uS ((Ab [109,101,97,115,117,114,101,95])++p),.slice (Aa a5 0) 1 1,uS (Ab [105,110,116]),z0,.slice (Aa a6 0) 2 2] 74 S λa7 V9=>Ap 23 48 24 (uL l) (.slice (Aa a7 0) 1 1) V9 λa8 w=>IR (o+1)/\J0 [uL a8,uI (o+1)] w)))) (IR (((Ab [99,104,101,99,107,95]).size:Int)+(b.size:Int))/\Br (c=(Ab [])) (TT 56 #[uP a,uA #[uI d,uI g,uS i,uL j]] V1 λe V2=>∃p q r s,e=rV (uA #[uI p,uI q,uS r,uL s])/\TT 84 #[uA #[uI p,uI q,uS r,uL s]] V2 λe T=>∃u y z A B,e=rV (uA #[uI u,uS y,uL z,uL A,uL B])/\Af [uI u,uS y,uL z,uL A,uL B] 114 T λC J=>Af [uS ((Ab [99,104,101,99,107,95])++b),z0,uS (Ab [98,111,111,108]),z0,.slice (Aa C 0) 1 1] 74 J λD m=>Ap 65 67 24 (uL l) (.slice (Aa D 0) 1 1) m λF x=>R (rV (uL F)) x) (N2 a (¬(Aa a 0)=none/\∃p,V1.rowp a 1 1=some [uL p]/\Lp [uL l,uI 0] V1 λI n V2=>∀q r,I n [uL q,uI r] V2->∀J1:LMP,Nx I n J1->Br (r<(p.n:Int)) (Ix p r (∃s u,V2.rowp p.p (r.toNat*2) 2=some [uS s,uL u]/\TT 85 #[uP a,uA #[uS s,uL u],uA #[uS b,uS c,uI d,uI g,uS i,uL j]] V2 λe T=>∃y z A B C,e=rV (uA #[uS y,uL z,uS A,uL B,uL C])/\Af [uS y,uL z,uS A,uL B,uL C] 74 T λD J=>Ap 79 84 24 (uL q) (.slice (Aa D 0) 1 1) J λF m=>IR (r+1)/\J1 [uL F,uI (r+1)] m)) (N2 a (¬(Aa a 0)=none/\∃s,V2.rowp a 2 1=some [uL s]/\Lp [uS ((Ab [99,104,101,99,107,95])++b),z0,uS (Ab [98,111,111,108]),z0,z0,uI 0] V2 λI n T=>∀u y z A B C,I n [uS u,uL y,uS z,uL A,uL B,uI C] T->∀J2:LMP,Nx I n J2->Br (C<(s.n:Int)) (Ix s C (∃D F,T.rowp s.p (C.toNat*2) 2=some [uS D,uS F]/\TB 86 #[uP a,uS F] T λG J=>Br (G=true) (TT 88 #[uS D] J λe m=>∃H L M N,e=rV (uA #[uI H,uI L,uS M,uL N])/\TT 87 #[uS F,uA #[uI H,uI L,uS M,uL N]] m λe x=>∃O P Q U W,e=rV (uA #[uI O,uS P,uL Q,uL U,uL W])/\Af [uI O,uS P,uL Q,uL U,uL W] 114 x λX K=>Ap 102 109 72 (uL B) (.slice (Aa X 0) 1 1) K λY S=>IR (C+1)/\J2 [uS u,uL y,uS z,uL A,uL Y,uI (C+1)] S) (IR (C+1)/\J2 [uS u,uL y,uS z,uL A,uL B,uI (C+1)] J))) (TT 89 #[uB true] T λe J=>∃D F G H,e=rV (uA #[uI D,uI F,uS G,uL H])/\TT 84 #[uA #[uI D,uI F,uS G,uL H]] J λe m=>∃L M N O P,e=rV (uA #[uI L,uS M,uL N,uL O,uL P])/\Af [uI L,uS M,uL N,uL O,uL P] 114 m λQ x=>Ap 114 117 72 (uL B) (.slice (Aa Q 0) 1 1) x λU K=>Af [uS u,uL y,uS z,uL A,uL U] 74 K λW S=>Ap 120 122 24 (uL q) (.slice (Aa W 0) 1 1) S λX V9=>R (rV (uL X)) V9)))))))):TT 48 #[uP a,uA #[uS b,uS c,uI d,uI g,uS i,uL j]] V R:=Dn Tryz.func48 [] [(17,[8])] false (by kernel_rfl) (by kernel_rfl) h
theorem OO{a:Option Addr}{b c:Int}{d:KB}{g:Sl}(h:Lp [uI b,uI c,uS d,z0,uI 0] V λI n V1=>∀i j k l o,I n [uI i,uI j,uS k,uL l,uI o] V1->∀w:LMP,Nx I n w->Br (o<(g.n:Int)) (Ix g o (∃p q r s,V1.rowp g.p (o.toNat*4) 4=some [uI p,uI q,uS r,uL s]/\TT 56 #[uP a,uA #[uI p,uI q,uS r,uL s]] V1 λe V2=>∃u y z A,e=rV (uA #[uI u,uI y,uS z,uL A])/\Af [uI u,uI y,uS z,uL A] 97 V2 λB x=>Ap 18 22 95 (uL l) (.slice (Aa B 0) 1 1) x λC m=>IR (o+1)/\w [uI i,uI j,uS k,uL C,uI (o+1)] m)) (Br (b=4) (Br (d=(Ab [116,104,105,115])) (N2 a (∃p,V1.rowp a 8 1=some [uS p]/\R (rV (uA #[uI i,uI j,uS p,uL l])) V1)) (Br (b=7) (IR (((Ab [109,101,97,115,117,114,101,95]).size:Int)+(d.size:Int))/\R (rV (uA #[uI i,uI j,uS ((Ab [109,101,97,115,117,114,101,95])++d),uL l])) V1) (R (rV (uA #[uI i,uI j,uS k,uL l])) V1))) (Br (b=7) (IR (((Ab [109,101,97,115,117,114,101,95]).size:Int)+(d.size:Int))/\R (rV (uA #[uI i,uI j,uS ((Ab [109,101,97,115,117,114,101,95])++d),uL l])) V1) (R (rV (uA #[uI i,uI j,uS k,uL l])) V1)))):TT 56 #[uP a,uA #[uI b,uI c,uS d,uL g]] V R:=Dn Tryz.func56 [] [(4,[5])] false (by kernel_rfl) (by kernel_rfl) h
abbrev w57_0(H:Sl)(O:Int)(h:Mem)(u:LMP):Prop:=Ix H O (¬(Aa H.p (O.toNat*5))=none/\∃P Q U W X,h.rowp H.p (O.toNat*5) 5=some [uS P,uI Q,uI U,uS W,uL X]/\TT 102 #[uA #[uI Q,uI U,uS W,uL X]] h λe k=>∃Y Z a0 a1,e=rV (uA #[uI Y,uI Z,uS a0,uL a1])/\Ix H O (¬(Aa H.p (O.toNat*5))=none/\As (Aa (Aa H.p (O.toNat*5)) 1) 0 [uI Y,uI Z,uS a0,uL a1] k λg=>IR (O+1)/\u [uI (O+1)] g))
theorem OP{a:KB}{b c d g i j k:Sl}(h:TL 94 #[uL b] V λl V1=>Lp [uI 0] V1 λI n V2=>∀o,I n [uI o] V2->∀J0:LMP,Nx I n J0->Br (o<(b.n:Int)) (Ix b o (∃p q,V2.rowp b.p (o.toNat*2) 2=some [uS p,uL q]/\TL 95 #[uL q] V2 λr S=>Ix l o (¬(Aa l.p (o.toNat*2))=none/\As (Aa (Aa l.p (o.toNat*2)) 1) 0 [uL r] S λJ=>IR (o+1)/\J0 [uI (o+1)] J))) (TL 95 #[uL c] V2 λp S=>Lp [uS a,uL l,uL p,z0,uL g,uL i,uL j,uL k,uI 0,uI 0] S λI n J=>∀q r s u y z A B C D,I n [uS q,uL r,uL s,uL u,uL y,uL z,uL A,uL B,uI C,uI D] J->∀J1:LMP,Nx I n J1->Br (D<(d.n:Int)) (Ix d D (∃F G H L M,J.rowp d.p (D.toNat*5) 5=some [uS F,uL G,uS H,uL L,uL M]/\TS 97 #[uS F] J λN T=>TT 96 #[uD a b c d g i j k,uS N] T λe E=>∃O P Q U W X,e=rT #[uA #[uS O,uL P,uS Q,uL U,uL W],uI X]/\Br (X=0) (Af [uS O,uL P,uS Q,uL U,uL W] 74 E λY V7=>Ap 62 64 24 (uL u) (.slice (Aa Y 0) 1 1) V7 λZ V8=>IR (D+1)/\J1 [uS q,uL r,uL s,uL Z,uL y,uL z,uL A,uL B,uI C,uI (D+1)] V8) (R (rT #[uA #[uS (Ab []),z0,z0,z0,z0,z0,z0,z0],uI X]) E))) (TL 98 #[uL g] J λF T=>TL 99 #[uL i] T λG E=>TL 100 #[uL j] E λH V7=>TL 101 #[uL k] V7 λL V8=>Lp [uI 0] V8 λI n K=>∀M,I n [uI M] K->∀J2:LMP,Nx I n J2->Br (M<(F.n:Int)) (Ix F M (¬(Aa F.p (M.toNat*7))=none/\∃N O P Q U W X,K.rowp F.p (M.toNat*7) 7=some [uS N,uS O,uI P,uI Q,uI U,uS W,uL X]/\TT 102 #[uA #[uI Q,uI U,uS W,uL X]] K λe x=>∃Y Z a0 a1,e=rV (uA #[uI Y,uI Z,uS a0,uL a1])/\Ix F M (¬(Aa F.p (M.toNat*7))=none/\As (Aa (Aa F.p (M.toNat*7)) 3) 0 [uI Y,uI Z,uS a0,uL a1] x λw=>IR (M+1)/\J2 [uI (M+1)] w))) (Lp [uI 0] K λI n x=>∀N,I n [uI N] x->∀J3:LMP,Nx I n J3->Br (N<(G.n:Int)) (Ix G N (¬(Aa G.p (N.toNat*6))=none/\∃O P Q U W X,x.rowp G.p (N.toNat*6) 6=some [uS O,uS P,uI Q,uI U,uS W,uL X]/\TT 102 #[uA #[uI Q,uI U,uS W,uL X]] x λe w=>∃Y Z a0 a1,e=rV (uA #[uI Y,uI Z,uS a0,uL a1])/\Ix G N (¬(Aa G.p (N.toNat*6))=none/\As (Aa (Aa G.p (N.toNat*6)) 2) 0 [uI Y,uI Z,uS a0,uL a1] w λm=>IR (N+1)/\J3 [uI (N+1)] m))) (Lp [uI 0] x λI n w=>∀O,I n [uI O] w->∀J4:LMP,Nx I n J4->Br (O<(H.n:Int)) (w57_0 H O w J4) (Lp [uI 0] w λI n m=>∀P,I n [uI P] m->∀J5:LMP,Nx I n J5->Br (P<(L.n:Int)) (w57_0 L P m J5) (R (rT #[uD q r s u F G H L,uI 0]) m))))))):TT 57 #[uD a b c d g i j k] V R:=Dn Tryz.func57 [] [(11,[4])] false (by kernel_rfl) (by kernel_rfl) h
theorem OQ{a b:Sl}(h:TL 120 #[uL a] V λc V1=>Lp [uL c,z0,uI 0] V1 λI n V2=>∀d g i,I n [uL d,uL g,uI i] V2->∀u:LMP,Nx I n u->Br (i<(b.n:Int)) (Ix b i (∃j k,V2.rowp b.p (i.toNat*2) 2=some [uI j,uL k]/\TL 120 #[uL k] V2 λl w=>Af [uI j,uL l] 130 w λo y=>Ap 18 25 32 (uL g) (.slice (Aa o 0) 1 1) y λp x=>IR (i+1)/\u [uL d,uL p,uI (i+1)] x)) (R (rV (uA #[uL d,uL g])) V2)):TT 68 #[uA #[uL a,uL b]] V R:=Dn Tryz.func68 [] [(3,[3])] false (by kernel_rfl) (by kernel_rfl) h
theorem OR{a:KB}{b c d g i j k l o:Sl}(h:TT 125 #[uD a b c d g i j k,uA #[uL l,uL o]] V λe V1=>∃p q,e=rV (uA #[uL p,uI q])/\TL 126 #[uL c,uL l,uL p] V1 λr V2=>Lp [uL r,z0,uI 0] V2 λI n w=>∀s u y,I n [uL s,uL u,uI y] w->∀x:LMP,Nx I n x->Br (y<(p.n:Int)) (Ix p y (∃z,w.rowp p.p (y.toNat*1) 1=some [uI z]/\IR (z-1)/\Ix o (z-1) (∃A B,w.rowp o.p ((z-1).toNat*2) 2=some [uI A,uL B]/\Ix b A (¬(Aa b.p (A.toNat*2))=none/\∃C D,w.rowp b.p (A.toNat*2) 2=some [uS C,uL D]/\TL 126 #[uL D,uL B,uL p] w λF m=>Af [uI A,uL F] 130 m λG J=>Ap 36 51 32 (uL u) (.slice (Aa G 0) 1 1) J λH N=>IR (y+1)/\x [uL s,uL H,uI (y+1)] N)))) (R (rV (uA #[uL s,uL u])) w)):TT 73 #[uD a b c d g i j k,uA #[uL l,uL o]] V R:=Dn Tryz.func73 [] [(4,[6])] false (by kernel_rfl) (by kernel_rfl) h
abbrev w85_0(c:Sl)(b5:Int)(k:Mem)(a:Option Addr)(b4:Sl)(j:LMP)(b0:KB)(b1:Sl)(b2:KB)(b3:Sl):Prop:=Ix c b5 (∃b6 b7,k.rowp c.p (b5.toNat*2) 2=some [uS b6,uS b7]/\TB 86 #[uP a,uS b7] k λb8 h=>Br (b8=true) (N2 a (∃b9,h.rowp a 8 1=some [uS b9]/\TT 88 #[uS b9] h λe g=>∃i l c2 c3,e=rV (uA #[uI i,uI l,uS c2,uL c3])/\Af [uI i,uI l,uS c2,uL c3] 97 g λc4 u=>TT 87 #[uS b7,uA #[uI 5,uI 0,uS b6,.slice (Aa c4 0) 1 1]] u λe w=>∃c5 n m c8 c9,e=rV (uA #[uI c5,uS n,uL m,uL c8,uL c9])/\Af [uI c5,uS n,uL m,uL c8,uL c9] 114 w λr y=>Ap 60 73 72 (uL b4) (.slice (Aa r 0) 1 1) y λq x=>IR (b5+1)/\j [uS b0,uL b1,uS b2,uL b3,uL q,uI (b5+1)] x)) (IR (b5+1)/\j [uS b0,uL b1,uS b2,uL b3,uL b4,uI (b5+1)] h))
abbrev w85_1(h:Mem)(b4:Sl)(R:RP)(b0:KB)(b1:Sl)(b2:KB)(b3:Sl):Prop:=TT 89 #[uB true] h λe k=>∃b6 b7 b8 b9,e=rV (uA #[uI b6,uI b7,uS b8,uL b9])/\TT 84 #[uA #[uI b6,uI b7,uS b8,uL b9]] k λe g=>∃y x c2 c3 c4,e=rV (uA #[uI y,uS x,uL c2,uL c3,uL c4])/\Af [uI y,uS x,uL c2,uL c3,uL c4] 114 g λc5 u=>Ap 78 81 72 (uL b4) (.slice (Aa c5 0) 1 1) u λj w=>R (rV (uA #[uS b0,uL b1,uS b2,uL b3,uL j])) w
theorem OS{a:Option Addr}{b:KB}{c:Sl}{d g:KB}{i j:Int}{k:KB}{l:Sl}(h:IR (((Ab [118,105,115,105,116,95]).size:Int)+(b.size:Int))/\N2 a (∃o,V.rowp a 8 1=some [uS o]/\Af [uS o,uS b] 110 V λp V1=>IR (((Ab [118,105,115,105,116,95]).size:Int)+(b.size:Int))/\TT 82 #[uP a] V1 λe V2=>∃q r s u,e=rV (uA #[uI q,uI r,uS s,uL u])/\TT 89 #[uB true] V2 λe V3=>∃y z A B,e=rV (uA #[uI y,uI z,uS A,uL B])/\TT 81 #[uA #[uI q,uI r,uS s,uL u],uA #[uI y,uI z,uS A,uL B]] V3 λe V4=>∃C D F G H,e=rV (uA #[uI C,uS D,uL F,uL G,uL H])/\Af [uI C,uS D,uL F,uL G,uL H] 114 V4 λL V5=>Ap 23 28 72 (z0) (.slice (Aa L 0) 1 1) V5 λM S=>Br (b=g) (TT 56 #[uP a,uA #[uI i,uI j,uS k,uL l]] S λe x=>∃N O P Q,e=rV (uA #[uI N,uI O,uS P,uL Q])/\TT 55 #[uA #[uI N,uI O,uS P,uL Q]] x λe V8=>∃U W X Y,e=rV (uA #[uI U,uI W,uS X,uL Y])/\TT 89 #[uB false] V8 λe V9=>∃Z a0 a1 a2,e=rV (uA #[uI Z,uI a0,uS a1,uL a2])/\TT 81 #[uA #[uI U,uI W,uS X,uL Y],uA #[uI Z,uI a0,uS a1,uL a2]] V9 λe J=>∃a3 T a5 a6 a7,e=rV (uA #[uI a3,uS T,uL a5,uL a6,uL a7])/\Af [uI a3,uS T,uL a5,uL a6,uL a7] 114 J λa8 E=>Ap 37 45 72 (uL M) (.slice (Aa a8 0) 1 1) E λa9 K=>Lp [uS ((Ab [118,105,115,105,116,95])++b),.slice (Aa p 0) 1 1,uS (Ab [98,111,111,108]),z0,uL a9,uI 0] K λI n w=>∀b0 b1 b2 b3 b4 b5,I n [uS b0,uL b1,uS b2,uL b3,uL b4,uI b5] w->∀m:LMP,Nx I n m->Br (b5<(c.n:Int)) (w85_0 c b5 w a b4 m b0 b1 b2 b3) (w85_1 w b4 R b0 b1 b2 b3)) (Lp [uS ((Ab [118,105,115,105,116,95])++b),.slice (Aa p 0) 1 1,uS (Ab [98,111,111,108]),z0,uL M,uI 0] S λI n x=>∀N O P Q U W,I n [uS N,uL O,uS P,uL Q,uL U,uI W] x->∀m:LMP,Nx I n m->Br (W<(c.n:Int)) (w85_0 c W x a U m N O P Q) (w85_1 x U R N O P Q)))):TT 85 #[uP a,uA #[uS b,uL c],uA #[uS d,uS g,uI i,uI j,uS k,uL l]] V R:=Dn Tryz.func85 [20] [(6,[7])] false (by kernel_rfl) (by kernel_rfl) h
theorem x102{a b:Int}{c:KB}{d:Sl}(h:Lp [uI a,uI b,uS c,z0,uI 0] V λI n V1=>∀g i j k l,I n [uI g,uI i,uS j,uL k,uI l] V1->∀w:LMP,Nx I n w->Br (l<(d.n:Int)) (Ix d l (∃o p q r,V1.rowp d.p (l.toNat*4) 4=some [uI o,uI p,uS q,uL r]/\TT 102 #[uA #[uI o,uI p,uS q,uL r]] V1 λe V2=>∃s u y z,e=rV (uA #[uI s,uI u,uS y,uL z])/\Af [uI s,uI u,uS y,uL z] 97 V2 λA x=>Ap 16 19 95 (uL k) (.slice (Aa A 0) 1 1) x λB m=>IR (l+1)/\w [uI g,uI i,uS j,uL B,uI (l+1)] m)) (R (rV (uA #[uI g,uI i,uS j,uL k])) V1)):TT 102 #[uA #[uI a,uI b,uS c,uL d]] V R:=Dn Tryz.func102 [] [(4,[3])] false (by kernel_rfl) (by kernel_rfl) h
theorem x129{a:Option Addr}(h:GenK xG (.makeFunc (.func 181) #[(.tmp 6)] #[]) 211 (gv [(6,uP a)]) V λx V1=>∃b,K.f.ok b/\x=b/\GenK xG (.makeFunc (.func 182) #[(.tmp 8)] #[]) 211 (gv [(8,uP a)]) V1 λx V2=>∃c,K.f.ok c/\x=c/\GenK xG (.makeFunc (.func 183) #[(.tmp 10)] #[]) 211 (gv [(10,uP a)]) V2 λx r=>∃d,K.f.ok d/\x=d/\GenK xG (.makeFunc (.func 184) #[(.tmp 12)] #[]) 211 (gv [(12,uP a)]) r λx q=>∃g,K.f.ok g/\x=g/\GenK xG (.makeFunc (.func 185) #[(.tmp 14)] #[]) 211 (gv [(14,uP a)]) q λx s=>∃i,K.f.ok i/\x=i/\Af [K.cast .f b,K.cast .f c,K.cast .f d,K.cast .f g,K.cast .f i] 211 s λj H=>Lp [uP none,uI 0] H λI n w=>∀k l,I n [uP k,uI l] w->∀y:LMP,Nx I n y->Br (l<5) (¬(Aa j 0)=none/\0<=l/\l<5/\∃o,K.f.ok o/\w.rowp (Aa j 0) (l.toNat*1) 1=some [o]/\∃f first u,K.cast .f o=.func (.func f) first u/\CO f/\TT f (first++#[]++u) w λe m=>∃p,e=rV (uP p)/\Br (p=none) (IR (l+1)/\y [uP k,uI (l+1)] m) (R (rV (uP p)) m)) (R (rV (uP none)) w)):TT 129 #[uP a] V R:=Dn Tryz.func129 [16] [] false (by kernel_rfl) (by kernel_rfl) h
theorem x171{a:KB}{b c d g i j k l o p:Sl}{q:Int}{r s:Sl}(h:Lp [uL p,uI q,uI 0] V λI n V1=>∀u y z,I n [uL u,uI y,uI z] V1->∀w:LMP,Nx I n w->Br (z<(r.n:Int)) (Ix s z (IY V1 s z λA=>Ix r z (¬(Aa r.p (z.toNat*2))=none/\∃B C,V1.rowp r.p (z.toNat*2) 2=some [uS B,uS C]/\Br (C=(Ab [105,110,116])) (IR (z+1)/\w [uL u,uI y,uI (z+1)] V1) (Ix r z (¬(Aa r.p (z.toNat*2))=none/\∃D F,V1.rowp r.p (z.toNat*2) 2=some [uS D,uS F]/\Br (F=(Ab [98,111,111,108])) (IR (z+1)/\w [uL u,uI y,uI (z+1)] V1) (Br (A=0) (IR (z+1)/\w [uL u,uI y,uI (z+1)] V1) (TI 172 #[uL u,uI A] V1 λG V2=>Br (0<=G) (Br (y=0) (IR (z+1)/\w [uL u,uI A,uI (z+1)] V2) (IR (z+1)/\w [uL u,uI y,uI (z+1)] V2)) (Af [uI A] 3 V2 λH m=>Ap 52 54 31 (uL u) (.slice (Aa H 0) 1 1) m λL x=>IR (A-1)/\Ix o (A-1) (¬(Aa o.p ((A-1).toNat*2))=none/\∃M N,x.rowp o.p ((A-1).toNat*2) 2=some [uI M,uL N]/\Ix b M (¬(Aa b.p (M.toNat*2))=none/\∃O P,x.rowp b.p (M.toNat*2) 2=some [uS O,uL P]/\IR (A-1)/\Ix o (A-1) (¬(Aa o.p ((A-1).toNat*2))=none/\∃Q U,x.rowp o.p ((A-1).toNat*2) 2=some [uI Q,uL U]/\TT 171 #[uD a b c d g i j k,uA #[uL l,uL o],uA #[uL L,uI y],uL P,uL U] x λe J=>∃W X,e=rV (uA #[uL W,uI X])/\IR (z+1)/\w [uL W,uI X,uI (z+1)] J))))))))))) (R (rV (uA #[uL u,uI y])) V1)):TT 171 #[uD a b c d g i j k,uA #[uL l,uL o],uA #[uL p,uI q],uL r,uL s] V R:=Dn Tryz.func171 [] [(2,[7])] false (by kernel_rfl) (by kernel_rfl) h
theorem x246{a:Option Addr}{b:Option Nat}{c:Bool}{d:Sl}{g:KB}{i:Option Addr}(h:Lp [uI 0,uI 0,uI 0] V λI n V1=>∀j k l,I n [uI j,uI k,uI l] V1->∀x:LMP,Nx I n x->Br (l<(d.n:Int)) (Ix d l (∃o p q r s,V1.rowp d.p (l.toNat*5) 5=some [uI o,uS p,uL q,uL r,uL s]/\¬i=none/\∃u,V1.rowp i ((0:Int).toNat*1) 1=some [uI u]/\¬i=none/\∃y,V1.rowp i ((0:Int).toNat*1) 1=some [uI y]/\IR (y+1)/\¬i=none/\As i 0 [uI (y+1)] V1 λV2=>TI 284 #[uA #[uP a,uM b,uB c],uA #[uI o,uS p,uL q,uL r,uL s],uS g] V2 λz m=>Br (z=0) (Af [uL r,uL s] 72 m λA Z=>Lp [uI j,uI k,uI 0] Z λI n w=>∀B C D,I n [uI B,uI C,uI D] w->∀J:LMP,Nx I n J->Br (D<2) (¬(Aa A 0)=none/\0<=D/\D<2/\∃F,w.rowp (Aa A 0) (D.toNat*1) 1=some [uL F]/\TT 246 #[uA #[uP a,uM b,uB c],uL F,uS g,uP i] w λe N=>∃G H,e=rT #[uI G,uI H]/\Br (H=0) (IR (D+1)/\J [uI B,uI C,uI (D+1)] N) (R (rT #[uI G,uI H]) N)) (IR (l+1)/\x [uI B,uI C,uI (l+1)] w)) (R (rT #[uI u,uI z]) m))) (R (rT #[uI 0,uI 0]) V1)):TT 246 #[uA #[uP a,uM b,uB c],uL d,uS g,uP i] V R:=Dn Tryz.func246 [44] [] false (by kernel_rfl) (by kernel_rfl) h
end
end Go.Proofs
namespace Go.Proofs
open Go Go.Sx
abbrev PP(f:FuncId)(args:List Value)(V:Mem)(v:Value):Prop:=A1 xG f args V v
def Ez(c:Int):Bool:=decide (97<=c/\c<=122∨65<=c/\c<=90)
def Gp(c:Int):Bool:=decide (48<=c/\c<=57)
def EA(c:Int):Bool:=Ez c||Gp c||decide (c=95)
theorem c106{V:Mem}{c:Int}:PP 106 [.int .u8 c] V (.bool (Ez c)):=by
 refine x106 ?_;unfold Ez;grind
theorem c151{V:Mem}{c:Int}:PP 151 [.int .u8 c] V (.bool (Gp c)):=by
 refine x151 ?_;unfold Gp;grind
theorem c107{V:Mem}{c:Int}:PP 107 [.int .u8 c] V (.bool (EA c)):=by
 refine x107 ?_;unfold EA;refine c106.call ⟨_,rfl,λh=>?_,λh=>?_⟩;·simp[h]
 ·refine c151.call ⟨_,rfl,λh=>?_,λh=>?_⟩<;>simp_all
def cls(c:Int):Int:=if c=32∨c=9∨c=13∨c=10 then 1 else if Ez c then 2 else if Gp c then 3 else if c=95 then 4 else 0
theorem Lz{V:Mem}{c:Int}:PP 91 [.int .u8 c] V (.int .i64 (cls c)):=by
 refine Oz ?_;have key:∀n:Int,cls c=n->(xJ (.int .i64 n)=xJ (.int .i64 (cls c))/\V=V):=λn h=>by simp_all
 unfold cls Ez Gp at key
 repeat' (first|intro _|apply xK)
 all_goals first|rfl|(refine(key _ ?_).1;grind)
theorem cls_two(c:Int):cls c=2↔Ez c=true:=by
 unfold cls Ez Gp;grind
theorem cls_word(c:Int):cls c<2↔EA c=false:=by
 unfold EA cls Ez Gp;grind
def G6:List KB:=[[116,121,112,101],[118,97,114],[112,114,111,99],[108,111,99,97,108],[109,101,97,115,117,114,101],[105,110,118,97,114,105,97,110,116],[112,111,116,101,110,116,105,97,108],[98,111,117,110,100],[105,102],[101,108,115,101],[119,104,105,108,101],[114,101,116,117,114,110],[110,101,119],[110,105,108],[116,114,117,101],[102,97,108,115,101],[97,110,100],[111,114],[110,111,116],[109,97,120],[109,105,110],[108,111,103],[105,110,116],[98,111,111,108],[116,104,105,115],[115,111,114,116],[111,112],[114,117,108,101],[115,112,101,99],[100,101,115,99],[115,99,114,105,112,116]].map Ab
def hasS(xs:List KB)(s:KB):Bool:=xs.any λx=>decide (x=s)
def isKw(s:KB):Bool:=hasS G6 s
def A6(s:KB):Bool:=decide (s.size≠0/\s.size<=40/\Ez (A0 s 0)=true/\(∀i:Nat,i<s.size->EA (A0 s i)=true))&&!isKw s
theorem c152{V:Mem}{l:Sl}{xs:List KB}{s:KB}(h:Ad V l 1 (xs.map λx=>[vS x])):PP 152 [l.v,.string s] V (.bool (hasS xs s)):=by
 refine x152 ?_;refine AK xs.length (λi V1=>V1=V/\∀j:Nat,j<i->xs[j]?≠some s) ⟨rfl,by simp⟩ ?_;rintro i b _ J q ⟨rfl,o⟩ w;refine⟨λk=>?_,λu=>?_⟩
 ·obtain⟨x,hm,p,c,y,n,m,g⟩:=h.get k;refine⟨n,m,k,_,g,λe=>?_,λe=>⟨h.succ k,w y _ _ ⟨rfl,λj r=>?_⟩⟩⟩
  ·have:hasS xs s=true:=List.any_eq_true.2 ⟨x,hm,decide_eq_true e⟩;rw[this];exact⟨rfl,rfl⟩
  grind
 ·have a:=(h.done u).2;have:s∉xs:=λhm=>by
   grind[yc,yu]
  have:hasS xs s=false:=by
   grind[hasS]
  simp_all
theorem c108{V:Mem}{s:KB}:PP 108 [.string s] V (.bool (isKw s)):=by
 refine A1.mk (x108 ?_);refine x153 ?_;intro b k;refine⟨⟨some ⟨b,0,none⟩,31,31⟩,rfl,?_⟩;have h:∀V0:Mem,Ad (V0.set b (.cells ((G6.map yo).toArray) 9 (0,0))) ⟨some ⟨b,0,none⟩,31,31⟩ 1 (G6.map λx=>[vS x]):=
  λV0=>Ad.cells (xs:=G6) (row:=λx=>[vS x]) Ao rfl (λ_=>rfl) rfl (xL rfl)
 refine(c152 (h _)).call ⟨_,rfl,rfl,Mem.sub_new k _⟩
theorem DZ{V:Mem}{s:KB}:PP 60 [.string s] V (.bool (A6 s)):=by
 refine N5 ?_;refine⟨λh=>?_,λh=>⟨λu=>?_,λu=>⟨by omega,c106.call ⟨_,rfl,λg=>?_,λg=>?_⟩⟩⟩⟩;·grind[A6]
 ·grind[A6]
 ·refine AK s.size (λi V1=>V1=V/\∀j:Nat,j<i->EA (A0 s j)=true) ⟨rfl,by simp⟩ ?_;rintro i b _ J n ⟨rfl,w⟩ y;refine⟨λx=>⟨by omega,c107.call ⟨_,rfl,λhw=>⟨⟨by omega,by omega⟩,y (by omega) _ _ ⟨rfl,λj k=>?_⟩⟩,λhw=>?_⟩⟩,λl=>?_⟩;·grind
  ·grind[EA,A0,A6]
  ·refine c108.call ⟨_,rfl,?_⟩;have a1:s.size≠0:=by omega
   have a2:s.size<=40:=by omega
   have a3:∀i:Nat,i<s.size->EA (A0 s i)=true:=λj k=>w j (by omega);have:A6 s=!isKw s:=by unfold A6;rw[decide_eq_true ⟨a1,a2,g,a3⟩];simp
   rw[this];exact⟨rfl,rfl⟩
 grind[Ez,A0,A6]
end Go.Proofs
namespace Go.Proofs
open Go Go.Sx
attribute [local irreducible] Go.Sx.Tri
def BD(s:KB):List Value:=[vS s]
def strV(s:KB):Value:=vS s
section
variable{α:Type}
def IdxP(f:FuncId)(row:α->List Value)(v:α->Value)(sz:Nat):Prop:=∀{V:Mem}{l:Sl}{xs:List α}{g:Nat}{first caps:List Value}(u:FP g)(St h:Nat->Mem->Prop)(k:∀i V1,St i V1->Ad V1 l sz (xs.map row))(w:St 0 V)
  (y:∀i x V1,xs[i]?=some x->St i V1->Tri xG g (first.toArray++#[v x]++caps.toArray) V1 λe V2=>∃b:Bool,e=.returned (.bool b)/\(b=true->h i V2)/\(b=false->St (i+1) V2)),
  Tri xG f #[l.v,.func (.func g) first.toArray caps.toArray] V λe V'=>(∃i:Nat,e=.returned (.int .i64 i)/\h i V')∨(e=.returned (.int .i64 (-1))/\St xs.length V')
def ConP(f:FuncId)(row:α->List Value)(v:α->Value)(sz:Nat):Prop:=∀{V:Mem}{l:Sl}{xs:List α}{g:Nat}{first caps:List Value}(u:FP g)(St h:Nat->Mem->Prop)(k:∀i V1,St i V1->Ad V1 l sz (xs.map row))(w:St 0 V)
  (y:∀i x V1,xs[i]?=some x->St i V1->Tri xG g (first.toArray++#[v x]++caps.toArray) V1 λe V2=>∃b:Bool,e=.returned (.bool b)/\(b=true->h i V2)/\(b=false->St (i+1) V2)),
  Tri xG f #[l.v,.func (.func g) first.toArray caps.toArray] V λe V'=>(∃i:Nat,e=.returned (.bool true)/\h i V')∨(e=.returned (.bool false)/\St xs.length V')
def ConC(f:FuncId)(row:α->List Value)(v:α->Value)(sz:Nat):Prop:=∀{V:Mem}{l:Sl}{xs:List α}{g:Nat}{first caps:List Value}(h:Ad V l sz (xs.map row))(k:FP g)(p:α->Bool) (u:∀x∈xs,PP g (first++[v x]++caps) V (.bool (p x))),PP f [l.v,.func (.func g) first.toArray caps.toArray] V (.bool (xs.any p))
variable{f fc:FuncId}{row:α->List Value}{v:α->Value}{sz:Nat}
theorem conG(h:IdxP f row v sz)(x:∀{l:Sl}{c:Value}{V:Mem}{R:RP},(TT f #[uL l,K.cast .f c] V λe V1=>∃y,e=rV (uI y)/\R (rV (uB (decide (0<=y)))) V1)->TT fc #[uL l,K.cast .f c] V R):ConP fc row v sz:=by
 intro V l xs g first u j St w k n m
 refine x (c:=.func (.func g) first.toArray u.toArray) (Tri.mono (h j St w k n m) ?_);rintro e V' (⟨i,rfl,h⟩|⟨rfl,h⟩)
 ·refine⟨_,rfl,.inl ⟨i,?_,h⟩⟩;rfl
 simp_all
theorem conC(H:ConP fc row v sz):ConC fc row v sz:=by
 intro V l xs g first n h r p o
 refine Tri.mono (H r (λi V1=>V1=V/\∀j x,j<i->xs[j]?=some x->p x=false) (λi V1=>V1=V/\∃x∈xs,p x=true) (λi V1 k=>k.1▸h) ⟨rfl,λj x u=>absurd u (Nat.not_lt_zero _)⟩ ?_) ?_
 ·rintro i x _ w ⟨rfl,k⟩;have hm:x∈xs:=xM w;have:=(o x hm).callv (q:=λe V2=>∃b:Bool,e=.returned (.bool b)/\(b=true->V2=_/\∃x∈xs,p x=true)/\(b=false->V2=_/\∀j x,j<i+1->xs[j]?=some x->p x=false)) ⟨_,rfl,λm=>⟨rfl,x,hm,m⟩,λm=>⟨rfl,λj y u c=>by
   grind⟩⟩
  exact this
 ·rintro e V' (⟨i,rfl,rfl,x,hm,w⟩|⟨rfl,rfl,k⟩);·grind
  ·have:xs.any p=false:=List.any_eq_false.2 λx hm w=>by
    obtain⟨j,u,rfl⟩:=yc.1 hm;simp_all
   simp_all
end
theorem LA:IdxP 80 Fld.row Fld.v 2:=by
 intro V l xs g first w q St o k p c
 refine Om (a:=l) (b:=.func (.func g) first.toArray w.toArray) ?_;refine AK xs.length St p ?_;intro i b V1 J Y r d;have h:=k i V1 r;refine⟨λu=>?_,λj=>?_⟩
 ·obtain⟨x,hm,s,W,H,n,G,y⟩:=h.get u;refine⟨n,G,u,_,_,y,g,_,_,rfl,q,Tri.mono (c i x V1 s r) ?_⟩;rintro e V2 ⟨b,rfl,N,Z⟩;exact⟨b,rfl,λm=>.inl ⟨i,rfl,N m⟩,λm=>⟨h.succ u,d H _ _ (Z (by simpa using m))⟩⟩
 ·have e:i=xs.length:=by have:=(h.done j).2;omega
  simp_all
theorem OT:ConP 46 Fld.row Fld.v 2:=conG LA NS
theorem HR:ConC 46 Fld.row Fld.v 2:=conC OT
theorem LB:IdxP 40 Iv.row Iv.v 6:=by
 intro V l xs g first w q St o k p c
 refine NN (a:=l) (b:=.func (.func g) first.toArray w.toArray) ?_;refine AK xs.length St p ?_;intro i b V1 J Y r d;have h:=k i V1 r;refine⟨λu=>?_,λj=>?_⟩
 ·obtain⟨x,hm,s,W,H,n,G,y⟩:=h.get u;refine⟨n,G,u,_,_,_,_,_,_,y,g,_,_,rfl,q,Tri.mono (c i x V1 s r) ?_⟩;rintro e V2 ⟨b,rfl,N,Z⟩;exact⟨b,rfl,λm=>.inl ⟨i,rfl,N m⟩,λm=>⟨h.succ u,d H _ _ (Z (by simpa using m))⟩⟩
 ·have e:i=xs.length:=by have:=(h.done j).2;omega
  simp_all
theorem g280:ConP 280 Iv.row Iv.v 6:=conG LB x280
theorem c280:ConC 280 Iv.row Iv.v 6:=conC g280
theorem g226:IdxP 226 Ty.row Ty.v 2:=by
 intro V l xs g first w q St o k p c
 refine x226 (a:=l) (b:=.func (.func g) first.toArray w.toArray) ?_;refine AK xs.length St p ?_;intro i b V1 J Y r d;have h:=k i V1 r;refine⟨λu=>?_,λj=>?_⟩
 ·obtain⟨x,hm,s,W,H,n,G,y⟩:=h.get u;refine⟨n,G,u,_,_,y,g,_,_,rfl,q,Tri.mono (c i x V1 s r) ?_⟩;rintro e V2 ⟨b,rfl,N,Z⟩;exact⟨b,rfl,λm=>.inl ⟨i,rfl,N m⟩,λm=>⟨h.succ u,d H _ _ (Z (by simpa using m))⟩⟩
 ·have e:i=xs.length:=by have:=(h.done j).2;omega
  simp_all
theorem g175:ConP 175 Ty.row Ty.v 2:=conG g226 x175
theorem c175:ConC 175 Ty.row Ty.v 2:=conC g175
theorem LC:IdxP 90 Pr.row Pr.v 5:=by
 intro V l xs g first w q St o k p c
 refine Oy (a:=l) (b:=.func (.func g) first.toArray w.toArray) ?_;refine AK xs.length St p ?_;intro i b V1 J Y r d;have h:=k i V1 r;refine⟨λu=>?_,λj=>?_⟩
 ·obtain⟨x,hm,s,W,H,n,G,y⟩:=h.get u;refine⟨n,G,u,_,_,_,_,_,y,g,_,_,rfl,q,Tri.mono (c i x V1 s r) ?_⟩;rintro e V2 ⟨b,rfl,N,Z⟩;exact⟨b,rfl,λm=>.inl ⟨i,rfl,N m⟩,λm=>⟨h.succ u,d H _ _ (Z (by simpa using m))⟩⟩
 ·have e:i=xs.length:=by have:=(h.done j).2;omega
  simp_all
theorem OU:ConP 49 Pr.row Pr.v 5:=conG LC NV
theorem HS:ConC 49 Pr.row Pr.v 5:=conC OU
theorem g271:IdxP 271 Bd.row Bd.v 5:=by
 intro V l xs g first w q St o k p c
 refine x271 (a:=l) (b:=.func (.func g) first.toArray w.toArray) ?_;refine AK xs.length St p ?_;intro i b V1 J Y r d;have h:=k i V1 r;refine⟨λu=>?_,λj=>?_⟩
 ·obtain⟨x,hm,s,W,H,n,G,y⟩:=h.get u;refine⟨n,G,u,_,_,_,_,_,y,g,_,_,rfl,q,Tri.mono (c i x V1 s r) ?_⟩;rintro e V2 ⟨b,rfl,N,Z⟩;exact⟨b,rfl,λm=>.inl ⟨i,rfl,N m⟩,λm=>⟨h.succ u,d H _ _ (Z (by simpa using m))⟩⟩
 ·have e:i=xs.length:=by have:=(h.done j).2;omega
  simp_all
theorem g224:ConP 224 Bd.row Bd.v 5:=conG g271 x224
theorem c224:ConC 224 Bd.row Bd.v 5:=conC g224
theorem g207:IdxP 207 E.row E.v 4:=by
 intro V l xs g first w q St o k p c
 refine x207 (a:=l) (b:=.func (.func g) first.toArray w.toArray) ?_;refine AK xs.length St p ?_;intro i b V1 J Y r d;have h:=k i V1 r;refine⟨λu=>?_,λj=>?_⟩
 ·obtain⟨x,hm,s,W,H,n,G,y⟩:=h.get u;refine⟨n,G,u,_,_,_,_,y,g,_,_,rfl,q,Tri.mono (c i x V1 s r) ?_⟩;rintro e V2 ⟨b,rfl,N,Z⟩;exact⟨b,rfl,λm=>.inl ⟨i,rfl,N m⟩,λm=>⟨h.succ u,d H _ _ (Z (by simpa using m))⟩⟩
 ·have e:i=xs.length:=by have:=(h.done j).2;omega
  simp_all
theorem g147:ConP 147 E.row E.v 4:=conG g207 x147
theorem c147:ConC 147 E.row E.v 4:=conC g147
theorem g198:IdxP 198 Ms.row Ms.v 7:=by
 intro V l xs g first w q St o k p c
 refine x198 (a:=l) (b:=.func (.func g) first.toArray w.toArray) ?_;refine AK xs.length St p ?_;intro i b V1 J Y r d;have h:=k i V1 r;refine⟨λu=>?_,λj=>?_⟩
 ·obtain⟨x,hm,s,W,H,n,G,y⟩:=h.get u;refine⟨n,G,u,_,_,_,_,_,_,_,y,g,_,_,rfl,q,Tri.mono (c i x V1 s r) ?_⟩;rintro e V2 ⟨b,rfl,N,Z⟩;exact⟨b,rfl,λm=>.inl ⟨i,rfl,N m⟩,λm=>⟨h.succ u,d H _ _ (Z (by simpa using m))⟩⟩
 ·have e:i=xs.length:=by have:=(h.done j).2;omega
  simp_all
theorem g278:ConP 278 Ms.row Ms.v 7:=conG g198 x278
theorem c278:ConC 278 Ms.row Ms.v 7:=conC g278
theorem OW:IdxP 59 BD strV 1:=by
 intro V l xs g first w q St o k p c
 refine N4 (a:=l) (b:=.func (.func g) first.toArray w.toArray) ?_;refine AK xs.length St p ?_;intro i b V1 J Y r d;have h:=k i V1 r;refine⟨λu=>?_,λj=>?_⟩
 ·obtain⟨x,hm,s,W,H,n,G,y⟩:=h.get u;refine⟨n,G,u,_,y,g,_,_,rfl,q,Tri.mono (c i x V1 s r) ?_⟩;rintro e V2 ⟨b,rfl,N,Z⟩;exact⟨b,rfl,λm=>.inl ⟨i,rfl,N m⟩,λm=>⟨h.succ u,d H _ _ (Z (by simpa using m))⟩⟩
 ·have e:i=xs.length:=by have:=(h.done j).2;omega
  simp_all
theorem g23:ConP 23 BD strV 1:=conG OW Nv
theorem LD:ConC 23 BD strV 1:=conC g23
end Go.Proofs
namespace Go.Proofs
open Go.Shelf
def Tryz.lays157_ren:Go.Shelf.Ren:=⟨λ|157=>206|229=>257|199=>258|261=>286|311=>298|312=>299|n=>n,λ|9=>9|31=>37|3=>3|5=>5|4=>4|119=>333|0=>0|40=>335|152=>351|21=>21|154=>353|51=>278|141=>355|196=>367|193=>364|198=>370|49=>368|194=>365|201=>373|226=>377|46=>227|227=>378|n=>n,λ|0=>0|6=>1|n=>n⟩
theorem Tryz.lays157:Go.Proofs.Lays.n157 xG Tryz.lays157_ren:={
 mixed:=by kernel_rfl
 f157:=Tryz.func206.trans (congrArg some (by kernel_rfl))
 f199:=Tryz.func258.trans (congrArg some (by kernel_rfl))
 f229:=Tryz.func257.trans (congrArg some (by kernel_rfl))
 f261:=Tryz.func286.trans (congrArg some (by kernel_rfl))
 f311:=Tryz.func298.trans (congrArg some (by kernel_rfl))
 f312:=Tryz.func299.trans (congrArg some (by kernel_rfl))
 t0:=Tryz.underlying0
 a0:=Tryz.isAgg0
 z0:=Tryz.sizeOf0
 v0:=Tryz.zeroValue0
 t3:=Tryz.underlying3
 a3:=Tryz.isAgg3
 z3:=Tryz.sizeOf3
 v3:=Tryz.zeroValue3
 t4:=Tryz.underlying4
 a4:=Tryz.isAgg4
 z4:=Tryz.sizeOf4
 v4:=Tryz.zeroValue4
 t5:=Tryz.underlying5
 a5:=Tryz.isAgg5
 z5:=Tryz.sizeOf5
 v5:=Tryz.zeroValue5
 t9:=Tryz.underlying9
 a9:=Tryz.isAgg9
 z9:=Tryz.sizeOf9
 v9:=Tryz.zeroValue9
 t21:=Tryz.underlying21
 a21:=Tryz.isAgg21
 z21:=Tryz.sizeOf21
 v21:=Tryz.zeroValue21
 t31:=Tryz.underlying37
 a31:=Tryz.isAgg37
 z31:=Tryz.sizeOf37
 v31:=Tryz.zeroValue37
 t40:=Tryz.underlying335
 a40:=Tryz.isAgg335
 z40:=Tryz.sizeOf335
 v40:=Tryz.zeroValue335
 t46:=Tryz.underlying227
 a46:=Tryz.isAgg227
 z46:=Tryz.sizeOf227
 v46:=Tryz.zeroValue227
 t49:=Tryz.underlying368
 a49:=Tryz.isAgg368
 z49:=Tryz.sizeOf368
 v49:=Tryz.zeroValue368
 t51:=Tryz.underlying278
 a51:=Tryz.isAgg278
 z51:=Tryz.sizeOf278
 v51:=Tryz.zeroValue278
 t119:=Tryz.underlying333
 a119:=Tryz.isAgg333
 z119:=Tryz.sizeOf333
 t141:=Tryz.underlying355
 a141:=Tryz.isAgg355
 z141:=Tryz.sizeOf355
 v141:=Tryz.zeroValue355
 t152:=Tryz.underlying351
 a152:=Tryz.isAgg351
 z152:=Tryz.sizeOf351
 v152:=Tryz.zeroValue351
 t154:=Tryz.underlying353
 a154:=Tryz.isAgg353
 z154:=Tryz.sizeOf353
 v154:=Tryz.zeroValue353
 t193:=Tryz.underlying364
 a193:=Tryz.isAgg364
 z193:=Tryz.sizeOf364
 v193:=Tryz.zeroValue364
 t194:=Tryz.underlying365
 a194:=Tryz.isAgg365
 z194:=Tryz.sizeOf365
 v194:=Tryz.zeroValue365
 t196:=Tryz.underlying367
 a196:=Tryz.isAgg367
 z196:=Tryz.sizeOf367
 v196:=Tryz.zeroValue367
 t198:=Tryz.underlying370
 a198:=Tryz.isAgg370
 z198:=Tryz.sizeOf370
 v198:=Tryz.zeroValue370
 t201:=Tryz.underlying373
 a201:=Tryz.isAgg373
 z201:=Tryz.sizeOf373
 v201:=Tryz.zeroValue373
 t226:=Tryz.underlying377
 a226:=Tryz.isAgg377
 z226:=Tryz.sizeOf377
 v226:=Tryz.zeroValue377
 t227:=Tryz.underlying378
 a227:=Tryz.isAgg378
 z227:=Tryz.sizeOf378
 v227:=Tryz.zeroValue378
 g0:=by kernel_rfl
 g6:=by kernel_rfl}
open Go.RowKit Go.Lib in
theorem Tryz.strings_Fields(s:KB)(w:World)(g:s.size<4294967281)(h:∀(j:Nat) b,s.data.toList[j]?=some b->b.toNat<128)(k:xP xG w "strings.asciiSpace" .u8 xQ):
  Calls xG 206 #[.string s] w λe w'=>
   e=.returned (.slice (some ⟨w.heap.size,0,none⟩) (xR s.data.toList).length (xR s.data.toList).length)/\w'=w.alloc (.cells ((xR s.data.toList).map λl=>yo ⟨l.toArray⟩).toArray 9):=Any.strings_Fields Tryz.lays157 (by kernel_rfl) (by kernel_rfl) s w g h k
end Go.Proofs
namespace Go.Proofs
open Go Go.Sx
attribute [local irreducible] Go.Sx.Tri
class Tab (V:Mem):Prop where
 at_:∃t fr,V 0=some (.cells (xQ.map λz=>Value.int .u8 z).toArray t fr)
theorem Tab.sub{V V':Mem}(h:Tab V)(k:V.sub V'):Tab V':=by
 obtain⟨t,fr,h⟩:=h.at_;exact⟨t,fr,k _ _ h⟩
theorem Tab.is{V:Mem}{w:World}(h:Tab V)(k:V.le w):xP xG w "strings.asciiSpace" .u8 xQ:=by
 obtain⟨t,fr,h⟩:=h.at_;have g:xG.globalNamed "strings.asciiSpace" =some 0:=by kernel_rfl
 unfold xP World.var?;rw[g,Option.bind_some,k _ _ h]
theorem frm_new{V:Mem}{w:World}(hw:V.le w)(o:Obj):V w.heap.size=none/\Aq V w (V.set w.heap.size o) (w.alloc o):=by
 have g:V w.heap.size=none:=by
  cases u:V w.heap.size with
  |none=>rfl
  |some o=>have:=(yA.1 (hw _ o u)).1;omega
 refine⟨g,by simp,λb o h=>?_,λb h _=>xS _ _ _ h,λb h=>?_,rfl,rfl⟩
 ·by_cases e:b=w.heap.size;·grind[Mem.set_same,World.alloc_heap_new]
  ·rw[Mem.set_ne e]at h;have k:=(yA.1 (hw b o h)).1;exact(xS _ _ _ k).trans (hw b o h)
 grind[inr,Mem.set_ne]
def kwText:KB:=Ab [97,110,100,32,98,111,111,108,32,98,111,117,110,100,32,100,101,115,99,32,101,108,115,101,32,102,97,108,115,101,32,105,102,32,105,110,116,32,105,110,118,97,114,105,97,110,116,32,108,111,99,97,108,32,108,111,103,32,109,97,120,32,109,101,97,115,117,114,101,32,109,105,110,32,110,101,119,32,110,105,108,32,110,111,116,32,111,112,32,111,114,32,112,111,116,101,110,116,105,97,108,32,112,114,111,99,32,114,101,116,117,114,110,32,114,117,108,101,32,115,99,114,105,112,116,32,115,111,114,116,32,115,112,101,99,32,116,104,105,115,32,116,114,117,101,32,116,121,112,101,32,118,97,114,32,119,104,105,108,101]
def EB:List KB:=(xR kwText.data.toList).map λl=>⟨l.toArray⟩
theorem kwText_size:kwText.size=160:=by kernel_rfl
theorem LF:EB.length=31:=by kernel_rfl
theorem c143{V:Mem}(k:Tab V):Tri xG 143 #[] V λe V'=>∃b,V b=none/\e=.returned (.slice (sa b) 31 31)/\V'=V.set b (.cells (EB.map yo).toArray 9 (0,0)):=by
 refine x143 ?_;refine Tri.mono (R:=λe V'=>∃b,V b=none/\e=.returned (.slice (sa b) 31 31)/\V'=V.set b (.cells (EB.map yo).toArray 9 (0,0))) ?_ ?_
 ·unfold Tri;intro w hw;refine Gn (Tryz.strings_Fields kwText w (by rw[kwText_size];decide) ?_ (k.is hw)) ?_
  ·have h:(kwText.data.toList.all λb=>decide (b.toNat<128))=true:=by kernel_rfl
   grind
  ·rintro e w' ⟨rfl,rfl⟩;obtain⟨g,u⟩:=frm_new hw (.cells (EB.map yo).toArray 9);refine⟨_,⟨w.heap.size,g,?_,rfl⟩,?_⟩;·rfl
   ·have e:((xR kwText.data.toList).map λl=>yo ⟨l.toArray⟩)=EB.map yo:=by
     rfl
    rw[e];exact u
 ·rintro e V' ⟨b,y,rfl,rfl⟩;exact⟨⟨some ⟨b,0,none⟩,31,31⟩,rfl,b,y,rfl,rfl⟩
theorem c256{V:Mem}{s:KB}:PP 256 [.string s] V (.bool false):=by
 refine x256 ?_;simp
theorem c205{V:Mem}{s:KB}:PP 205 [.string s] V (.bool false):=by
 refine x205 ?_;simp
def E4(s t:KB):Bool:=xT s.toList t.toList
theorem c204{V:Mem}{s t:KB}:PP 204 [.string s,.string t] V (.bool (E4 s t)):=by
 refine x204 ?_;refine c256.call ⟨_,rfl,λh=>?_,λ_=>⟨rfl,rfl⟩⟩;cases h
theorem bl_trans:∀{a b c:List UInt8},xT a b=true->xT b c=true->xT a c=true
 |_,[],_,h,_=>by simp[xT]at h
 |_,_::_,[],_,k=>by simp[xT]at k
 |[],_::_,_::_,_,_=>rfl
 |a::x,b::y,c::z,h,k=>by
  simp only[xT,Bool.or_eq_true,decide_eq_true_eq,zC,beq_iff_eq]at h k⊢;rcases h with h|⟨rfl,h⟩;·grind
  ·rcases k with k|⟨rfl,k⟩;·exact .inl k
   ·exact .inr ⟨rfl,bl_trans h k⟩
theorem JS{a b c:KB}(h:E4 a b=true)(k:E4 b c=true):E4 a c=true:=bl_trans h k
theorem bl_irrefl:∀l:List UInt8,xT l l=false
 |[]=>rfl
 |a::l=>by
  have h:¬(a<a):=by simp_all
  simp[xT,bl_irrefl l,h]
theorem ltB_irrefl(a:KB):E4 a a=false:=bl_irrefl _
def IJ:List KB->Bool
 |a::b::l=>E4 a b&&IJ (b::l)
 |_=>true
theorem HT:∀{l:List KB},IJ l=true->∀(i j:Nat)(x y:KB),i<j->l[i]?=some x->l[j]?=some y->E4 x y=true
 |[],_,i,j,x,y,_,k,_=>by simp at k
 |[a],_,i,j,x,y,u,k,g=>by
  grind
 |a::b::l,h,i,j,x,y,u,k,g=>by
  simp only[IJ,zC]at h;cases j with
  |zero=>omega
  |succ j=>
   rw[xU]at g;cases i with
   |succ i=>rw[xU]at k;exact HT h.2 i j x y (by omega) k g
   |zero=>
    simp only[xV,zF]at k;subst k;cases j with
    |zero=>simp_all
    |succ j=>exact JS h.1 (HT h.2 0 (j+1) b y (by omega) rfl g)
theorem GenK.shr1{V:Mem}{vals:Operand->Value}{t ty:TypeId}{n:Int}(hv:vals (.tmp 19)=.int .u64 n)(h:vals (.const (.int .u64 1))=.int .u64 1){q:Value->Mem->Prop}(k:q (.int .u64 (n/2)) V):
  GenK xG (.binOp .shr t (.tmp 19) (.const (.int .u64 1)) t) ty vals V q:=by
 intro w hw;refine⟨_,w,V,?_,Aq.refl hw,k⟩;have e:Op.shift .shr .u64 n .u64 1=pure (.int .u64 (n/2)):=by
  unfold Op.shift;rw[if_neg (by decide)];show pure (Value.int .u64 (n.fdiv (2^1)))=_;grind
 simp_all[execOp,eqGuard,binOp_shr]
theorem JT{xs:List KB}{s:KB}:hasS xs s=true↔s∈xs:=by
 grind[hasS]
def kwIx(s:KB):Bool:=hasS EB s
theorem kwIx_eq(s:KB):kwIx s=isKw s:=by
 have h:(EB.all λx=>G6.any λy=>decide (y=x))=true:=by kernel_rfl
 have k:(G6.all λx=>EB.any λy=>decide (y=x))=true:=by kernel_rfl
 unfold kwIx isKw;rw[Bool.eq_iff_iff,JT,JT];grind
theorem c142{V:Mem}{l:Sl}{xs:List KB}{s:KB}(h:Ad V l 1 (xs.map λx=>[vS x]))(d:IJ xs=true)(Y:xs.length<=1000):
  Tri xG 142 #[l.v,.string s] V λe V'=>∃n:Int,e=.returned (.tuple #[.int .i64 n,.bool (hasS xs s)])/\V'=V:=by
 refine x142 ?_;have P:=h.n_eq;have B:=h.cap;have C:=h.fit;refine⟨λn O V1=>∃i j:Nat,O=[.int .i64 i,.int .i64 j]/\V1=V/\i<=j/\j<=xs.length/\n=j-i/\(∀(k:Nat) x,k<i->xs[k]?=some x->E4 x s=true)/\(∀(k:Nat) x,j<=k->xs[k]?=some x->E4 x s=false),xs.length,
  ⟨0,xs.length,by rw[P];rfl,rfl,by omega,by omega,by omega,λk x p=>by omega,λk x p c=>by simp_all⟩,?_⟩
 rintro n V1 D E ⟨i,j,m,rfl,A,I,rfl,H,G⟩ J W;simp only[List.cons.injEq,Value.int.injEq,true_and,and_true]at m;obtain⟨rfl,rfl⟩:=m;refine⟨λu=>?_,λM=>?_⟩
 ·refine⟨⟨by omega,by omega⟩,⟨by show(0:Int)<=_;omega,by show _<=(18446744073709551615:Int);omega⟩,?_⟩;refine GenK.shr1 (n:=(i:Int)+j) rfl rfl ⟨_,rfl,⟨by omega,by omega⟩,?_⟩;have hm:((i:Int)+j)/2=((i+j)/2:Nat):=by omega
  rw[hm];obtain⟨x,r,c,F,L,b,a,g⟩:=h.get (i:=(i+j)/2) (by omega);refine⟨b,a,by omega,x,g,c204.call ⟨_,rfl,λq=>⟨⟨by omega,by omega⟩,?_⟩,λq=>?_⟩⟩
  ·refine W (j-((i+j)/2+1)) _ _ (by omega) ⟨(i+j)/2+1,j,rfl,rfl,by omega,I,rfl,λk y p m=>?_,G⟩;rcases Nat.lt_or_ge k ((i+j)/2)with w|w;·exact JS (HT d k _ y x w m c) q
   grind
  ·refine W ((i+j)/2-i) _ _ (by omega) ⟨i,(i+j)/2,rfl,rfl,by omega,by omega,rfl,H,λk y p m=>?_⟩;cases X:E4 y s with
   |false=>rfl
   |true=>
    rcases Nat.lt_or_ge ((i+j)/2) k with w|w;·exact absurd (JS (HT d _ k x y w c m) X) q
    grind
 ·have o:i=j:=by omega
  subst o;have key:s∈xs->xs[i]?=some s:=λhm=>by
   obtain⟨k,p,e⟩:=yc.1 hm;have N:xs[k]?=some s:=by simp_all
   rcases Nat.lt_trichotomy k i with w|w|w;·grind[ltB_irrefl]
   ·grind
   ·have Z:i<xs.length:=by omega
    have K:=HT d i k xs[i] s w (yu Z) N;grind
  refine⟨λu=>?_,λQ=>?_⟩
  ·obtain⟨x,r,c,F,L,b,a,g⟩:=h.get (i:=i) u;refine⟨b,a,u,x,g,λe=>?_,λe=>⟨b,a,u,x,g,c205.call ⟨_,rfl,λq=>?_,λ_=>?_⟩⟩⟩
   ·subst e;exact⟨i,by rw[JT.2 r],rfl⟩
   ·cases q
   ·refine⟨i,?_,rfl⟩;grind[hasS,absurd]
  ·refine⟨i,?_,rfl⟩;grind[hasS]
theorem OX{V:Mem}{s:KB}(k:Tab V):PP 92 [.string s] V (.bool (isKw s)):=by
 refine A1.mk ?_;refine OA ?_;refine Tri.mono (c143 k) ?_;rintro _ V' ⟨b,g,rfl,rfl⟩;refine⟨⟨some ⟨b,0,none⟩,31,31⟩,rfl,?_⟩;have h:Ad (V.set b (.cells ((EB.map yo).toArray) 9 (0,0))) ⟨some ⟨b,0,none⟩,31,31⟩ 1 (EB.map λx=>[vS x]):=
  Ad.cells (xs:=EB) (row:=λx=>[vS x]) Ao (by simp;rfl) (λ_=>rfl) LF.symm (xL rfl)
 refine Tri.mono (c142 h (by kernel_rfl) (by rw[LF];decide)) ?_;rintro _ V2 ⟨n,rfl,rfl⟩;exact⟨n,_,rfl,by rw[<-kwIx_eq];rfl,Mem.sub_new g _⟩
theorem DL{V:Mem}[Tab V]{s:KB}:PP 51 [.string s] V (.bool (A6 s)):=by
 refine NX ?_;refine⟨λh=>?_,λh=>⟨λu=>?_,λu=>?_⟩⟩;·subst h;exact⟨rfl,rfl⟩
 ·grind[A6]
 ·have r:s.size≠0:=λe=>h (by
   have:s.data=#[]:=Array.eq_empty_of_size_eq_zero e;cases s;simp only at this;subst this;rfl)
  refine⟨by omega,Lz.call ⟨_,rfl,λw=>?_,λw=>?_⟩⟩
  ·refine(OX inferInstance).call ⟨_,rfl,λg=>?_,λg=>?_⟩;·simp[A6,g]
   ·refine AK s.size (λi V1=>V1=V/\∀j:Nat,j<i->EA (A0 s j)=true) ⟨rfl,by simp⟩ ?_;rintro i b _ J q ⟨rfl,y⟩ x;refine⟨λl=>⟨by omega,Lz.call ⟨_,rfl,λhw=>?_,λhw=>⟨⟨by omega,by omega⟩,x (by omega) _ _ ⟨rfl,λj k=>?_⟩⟩⟩⟩,λn=>?_⟩
    ·rw[cls_word]at hw;grind[EA,A0,A6]
    ·rcases Nat.lt_succ_iff_lt_or_eq.1 k with m|rfl;·exact y j m
     simp_all[cls_word]
    grind[Nat,EA,A0,A6,isKw,decide_eq_true,cls_two]
  grind[cls_two,Ez,A0,A6]
/-! Nodes. -/
def Bs(op:Int):Int:=if(1<=op/\op<=4)∨op=6 then 0 else if op=5∨op=8∨op=18∨op=24 then 1 else if op=7 then -1 else if op=21 then 3 else if 9<=op/\op<=23 then 2 else -2
theorem c260{V:Mem}{op:Int}:PP 260 [.int .i64 op] V (.int .i64 (Bs op)):=by
 refine x260 ?_;have key:∀n:Int,Bs op=n->xJ (.int .i64 n)=xJ (.int .i64 (Bs op)):=λn h=>by rw[h]
 unfold Bs at key
 repeat' (first|intro _|apply xK)
 all_goals first|rfl|(refine key _ ?_;grind)
theorem c144{V:Mem}{op:Int}:PP 144 [.int .i64 op] V (.tuple #[.int .i64 (if Bs op=-2 then 2 else Bs op),.bool (decide (Bs op≠-2))]):=by
 refine x144 ?_;have key:∀(n:Int)(b:Bool),(if Bs op=-2 then 2 else Bs op)=n->decide (Bs op≠-2)=b->xJ (.tuple #[.int .i64 n,.bool b])=xJ (.tuple #[.int .i64 (if Bs op=-2 then 2 else Bs op),.bool (decide (Bs op≠-2))]):=λn b h k=>by rw[h,k]
 unfold Bs at key
 repeat' (first|intro _|apply xK)
 all_goals first|rfl|(refine key _ _ ?_ ?_<;>grind)
def sThis:KB:=Ab [116,104,105,115]
def D0(op:Int)(s:KB):Bool:=if op=4 then decide (s=sThis)||A6 s else if op=5∨op=6∨op=7 then A6 s else decide (s=Ab [])
def numB(op n:Int):Bool:=if op=1 then decide (0<=n/\n<=1099511627776)else if op=2 then decide (n=0∨n=1)else decide (n=0)
def CF(op n:Int)(s:KB)(len:Int):Bool:=decide (Bs op≠-2/\(0<=Bs op->len=Bs op)/\(Bs op=-1->len<=6))&&D0 op s&&numB op n
theorem c261{V:Mem}{e:E}:PP 261 [e.v] V (.bool (D0 e.op e.s)):=by
 refine x261 ?_;have key:∀b:Bool,D0 e.op e.s=b->xJ (.bool b)=xJ (.bool (D0 e.op e.s)):=λn h=>by rw[h]
 unfold D0 sThis at key
 repeat' (first|refine DZ.call ⟨_,rfl,?_⟩|intro _|apply xK)
 all_goals first|rfl|(refine key _ ?_;grind)
theorem c146{V:Mem}[Tab V]{e:E}:PP 146 [e.v] V (.bool (D0 e.op e.s&&numB e.op e.n)):=by
 refine x146 ?_;have key:∀b:Bool,(D0 e.op e.s&&numB e.op e.n)=b->xJ (.bool b)=xJ (.bool (D0 e.op e.s&&numB e.op e.n)):=λn h=>by rw[h]
 unfold D0 numB sThis at key
 repeat' (first|refine DL.call ⟨_,rfl,?_⟩|intro _|apply xK)
 all_goals first|rfl|(refine key _ ?_;grind)
theorem c210{V:Mem}{e:E}{len:Int}(k:(e.l.n:Int)=len):PP 210 [e.v] V (.bool (CF e.op e.n e.s len)):=by
 refine x210 ?_;rw[k];have key:∀b:Bool,CF e.op e.n e.s len=b->xJ (.bool b)=xJ (.bool (CF e.op e.n e.s len)):=λn h=>by rw[h]
 unfold CF numB at key;refine c260.call ⟨_,rfl,?_⟩
 repeat' (first|refine(c261 (e:=e)).call ⟨_,rfl,?_⟩|intro _|apply xK)
 all_goals first|rfl|(refine key _ ?_;grind)
mutual
def Bv(d:Int):E->Bool|.mk op n s _ k=>decide (d<=60)&&CF op n s k.length&&okEs (d+1) k
def okEs(d:Int):List E->Bool|[]=>true|x::xs=>Bv d x&&okEs d xs
end
mutual
def AG:E->Nat|.mk _ _ _ _ k=>1+Cu k
def Cu:List E->Nat|[]=>0|x::xs=>AG x+Cu xs
end
mutual
def cntE(d:Int):E->Int|.mk op n s _ k=>if 60<d then 1001 else if CF op n s k.length=true then Dg (d+1) 1 k else 1001
def Dg(d acc:Int):List E->Int|[]=>acc|x::xs=>if 1000<acc+cntE d x then acc+cntE d x else Dg d (acc+cntE d x) xs
end
mutual
def vE(left d:Int):E->Bool×Int|.mk op n s _ k=>if 0<=left-1/\d<=60/\CF op n s k.length=true then Do (left-1) (d+1) k else(false,left-1)
def Do(left d:Int):List E->Bool×Int|[]=>(true,left)|x::xs=>if(vE left d x).1=true then Do (vE left d x).2 d xs else(false,(vE left d x).2)
end
def Bf(e:E):Bool:=decide (Bv 1 e=true/\AG e<=1000)
mutual
theorem vE_ok:∀(left d:Int)(e:E),((vE left d e).1=true↔Bv d e=true/\(AG e:Int)<=left)/\((vE left d e).1=true->(vE left d e).2=left-AG e)
 |left,d,.mk op n s l k=>by
  have h:=vEs_ok (left-1) (d+1) k;grind[vE,Bv,AG]
theorem vEs_ok:∀(left d:Int)(k:List E),0<=left->((Do left d k).1=true↔okEs d k=true/\(Cu k:Int)<=left)/\((Do left d k).1=true->(Do left d k).2=left-Cu k)
 |left,d,[],h=>by simp[Do,okEs,Cu,h]
 |left,d,x::xs,h=>by
  have g:=vE_ok left d x;have u:=vEs_ok (vE left d x).2 d xs;grind[Do,okEs,Cu]
end
mutual
theorem cntE_ok:∀(d:Int)(e:E),1<=cntE d e/\(cntE d e<=1000↔Bv d e=true/\AG e<=1000)/\(cntE d e<=1000->cntE d e=AG e)/\cntE d e<=1001+1000*(61-d).toNat
 |d,.mk op n s l k=>by
  have h:=cntEs_ok (d+1) 1 k (by omega) (by omega);grind[cntE,Bv,AG]
theorem cntEs_ok:∀(d acc:Int)(k:List E),1<=acc->acc<=1000->acc<=Dg d acc k/\(Dg d acc k<=1000↔okEs d k=true/\acc+Cu k<=1000)/\(Dg d acc k<=1000->Dg d acc k=acc+Cu k)/\Dg d acc k<=2001+1000*(61-d).toNat
 |d,acc,[],h,g=>by simp[Dg,okEs,Cu];omega
 |d,acc,x::xs,h,g=>by
  have u:=cntE_ok d x;have w:=cntEs_ok d (acc+cntE d x) xs (by omega);grind[Dg,okEs,Cu]
end
theorem validE_cnt(e:E):decide (cntE 1 e<=1000)=Bf e:=by
 simp_all[cntE_ok,Bf]
theorem validE_v(e:E):(vE 1000 1 e).1=Bf e:=by
 grind[vE_ok,Bf]
theorem vE_bound{left d:Int}{e:E}(h:(vE left d e).1=true):0<=(vE left d e).2/\(vE left d e).2<=left:=by
 grind[vE_ok]
theorem cntE_eq(d:Int)(e:E):cntE d e=if 60<d then 1001 else if CF e.op e.n e.s e.k.length=true then Dg (d+1) 1 e.k else 1001:=by
 cases e;unfold cntE;rfl
theorem vE_eq(left d:Int)(e:E):vE left d e=if 0<=left-1/\d<=60/\CF e.op e.n e.s e.k.length=true then Do (left-1) (d+1) e.k else(false,left-1):=by
 cases e;unfold vE;rfl
theorem cntEs_cons(d acc:Int)(x:E)(xs:List E):Dg d acc (x::xs)=if 1000<acc+cntE d x then acc+cntE d x else Dg d (acc+cntE d x) xs:=by rw[Dg]
theorem vEs_cons(left d:Int)(x:E)(xs:List E):Do left d (x::xs)=if(vE left d x).1=true then Do (vE left d x).2 d xs else(false,(vE left d x).2):=by rw[Do]
theorem cntEs_nil(d acc:Int):Dg d acc []=acc:=by rw[Dg]
theorem vEs_nil(left d:Int):Do left d []=(true,left):=by rw[Do]
theorem c155{V:Mem}:∀e:E,E.Ok V e->∀d:Int,0<=d->d<=61->PP 155 [e.v,.int .i64 d] V (.int .i64 (cntE d e)):=by
 intro e;induction e using E.ind with
 |h e r=>
 intro n d q s;have u:=n.rows;refine x155 ?_;refine⟨λh=>?_,λh=>(c210 (e:=e) rfl).call ⟨_,rfl,λw=>?_,λw=>?_⟩⟩;·rw[cntE_eq,if_pos h];exact⟨rfl,rfl⟩
 ·rw[u.n_eq]at w;rw[cntE_eq,if_neg h,if_pos w];refine loop3s BG e.k.length (λi acc V1=>V1=V/\1<=acc/\acc<=1000/\Dg (d+1) 1 e.k=Dg (d+1) acc (e.k.drop i)) ⟨rfl,by omega,by omega,rfl⟩ ?_;rintro i acc c _ J H ⟨rfl,o,G,m⟩ N;refine⟨λg=>?_,λj=>?_⟩
  ·obtain⟨x,hm,Z,l,Y,p,b,y⟩:=u.get g;have W:=cntE_ok (d+1) x;rw[l,cntEs_cons]at m;refine⟨p,b,g,_,_,_,_,y,⟨by omega,by omega⟩,(r x hm (n.kids x hm) (d+1) (by omega) (by omega)).call ⟨_,rfl,⟨by omega,by omega⟩,λa=>?_,λa=>⟨u.succ g,?_⟩⟩⟩;·simp_all
   grind
  ·rw[(u.done j).1,cntEs_nil]at m;simp_all
 ·rw[u.n_eq]at w;rw[cntE_eq,if_neg h,if_neg w];exact⟨rfl,rfl⟩
theorem c111{V:Mem}{e:E}(h:E.Ok V e):PP 111 [e.v] V (.bool (Bf e)):=by
 refine x111 ?_;refine(c155 e h 1 (by omega) (by omega)).call ⟨_,rfl,?_⟩;rw[validE_cnt];simp_all
theorem c145{V:Mem}{b t:Nat}{n:Int}(h:V b=some (cell (.int .i64 n) t))(k:-1000<=n)(g:n<=100000):
  Tri xG 145 #[pv b] V λe V'=>e=.returned (.bool (decide (0<=n-1)))/\V'=V.set b (cell (.int .i64 (n-1)) t):=by
 refine x145 ?_;refine⟨by simp,by simp,_,Ax h,⟨by omega,by omega⟩,by simp,by simp,As.cell h ⟨by simp,by simp,_,Ax Ao,rfl,rfl⟩⟩
set_option maxRecDepth 10000 in
theorem OY{V0:Mem}[S:Tab V0]{b t:Nat}(y:V0 b=none):∀e:E,E.Ok V0 e->∀(V:Mem),V0.sub V->∀left d:Int,V b=some (cell (.int .i64 left) t)->0<=left->left<=1000->0<=d->d<=61 ->
    Tri xG 93 #[e.v,.int .i64 d,pv b] V λr V'=>r=.returned (.bool (vE left d e).1)/\V'=V.set b (cell (.int .i64 (vE left d e).2) t):=by
  intro e;induction e using E.ind with
  |h e T=>
  intro C V N left d U hl0 hl1 hd0 hd;have D:=C.rows;have hn:=D.n_eq;refine Tri.less (OB ?_);refine c144.call ⟨_,_,rfl,Tri.mono (c145 U (by omega) (by omega)) ?_⟩;rintro _ _ ⟨rfl,rfl⟩;refine⟨_,rfl,?_⟩;have w:¬(0<=left-1/\d<=60/\CF e.op e.n e.s e.k.length=true)->∃W,(xJ (.bool false)=xJ (.bool (vE left d e).1)/\W=V.set b (cell (.int .i64 (vE left d e).2) t))/\W.sub (V.set b (cell (.int .i64 (left-1)) t)):=by
    intro h;rw[vE_eq,if_neg h];exact⟨_,⟨rfl,rfl⟩,Mem.sub.refl _⟩
  have u:(0<=left-1/\d<=60/\CF e.op e.n e.s e.k.length=true)->Af [(.int .i64 d)] 3 (V.set b (cell (.int .i64 (left-1)) t)) fun Z V4 =>
        Af [(pv b)] 168 V4 λY V5=>
        Tri xG 147 #[(.slice e.l.p e.l.n e.l.c),(.func (.func 148) #[] #[(.pointer (Aa Z 0)),(.pointer (Aa Y 0))])] V5 λr V6=>∃a:Bool,r=.returned (.bool a)/\
        ∃W,(xJ (.bool (!a))=xJ (.bool (vE left d e).1)/\W=V.set b (cell (.int .i64 (vE left d e).2) t))/\W.sub V6:=by
    intro h b1 j b2 m;rw[vE_eq,if_pos h];have n1:b≠b1:=λe=>by grind[Mem.set_same]
    have n2:b1≠b2:=λe=>by grind[Mem.set_same]
    have n3:b≠b2:=λe=>by grind[Mem.set_ne,Mem.set_same]
    rw[Mem.set_ne (λe=>n1 e.symm)]at j;rw[Mem.set_ne (λe=>n2 e.symm),Mem.set_ne (λe=>n3 e.symm)]at m;have v1:V0 b1=none:=by cases Q:V0 b1 with
      |none=>rfl
      |some x=>rw[N _ _ Q]at j;cases j
    have v2:V0 b2=none:=by cases Q:V0 b2 with
      |none=>rfl
      |some x=>rw[N _ _ Q]at m;cases m
    let M:Int->Mem:=λg=>((V.set b (cell (.int .i64 g) t)).set b1 (cell (.int .i64 d) 3)).set b2 (cell (pv b) 168);have K:∀g,V0.sub (M g):=λg=>((N.set y _).set v1 _).set v2 _;have P:∀g,M g b=some (cell (.int .i64 g) t):=λg=>by grind[Mem.set_ne,Mem.set_same]
    have O:∀g,M g b1=some (cell (.int .i64 d) 3):=λg=>by grind[Mem.set_ne,Mem.set_same]
    have A:∀g,M g b2=some (cell (pv b) 168):=λg=>by grind[Mem.set_same]
    have hMs:∀g q,(M g).set b (cell (.int .i64 q) t)=M q:=λg q=>by
      grind[Mem.set_comm,Mem.set_set]
    have hW:∀g,(V.set b (cell (.int .i64 g) t)).sub (M g):=λg=>by
      refine((Mem.sub.refl _).set ?_ _).set ?_ _;· grind[Mem.set_ne]
      grind[Mem.set_ne]
    refine Tri.mono (g147 (l:=e.l) (xs:=e.k) (first:=[]) (caps:=[pv b1,pv b2]) Tryz.call148
      (λi V1=>∃g,V1=M g/\0<=g/\g<=1000/\Do (left-1) (d+1) e.k=Do g (d+1) (e.k.drop i)) (λi V1=>∃g,V1=M g/\Do (left-1) (d+1) e.k=(false,g)) ?_ ⟨left-1,rfl,by omega,by omega,rfl⟩ ?_) ?_
    · rintro i _ ⟨g,rfl,-⟩;exact D.sub (K g)
    · rintro i x _ I ⟨g,rfl,H,J,o⟩;have hm:=xM I;have F:=(yv.1 I).1;have L:e.k.drop i=x::e.k.drop (i+1):=by rw[List.drop_eq_getElem_cons F,(yv.1 I).2]
      rw[L,vEs_cons]at o;refine x148 ?_;refine⟨_,Ax (O g),⟨by omega,by omega⟩,_,Ax (A g),Tri.mono (T x hm (C.kids x hm) (M g) (K g) g (d+1) (P g) H J (by omega) (by omega)) ?_⟩;rintro _ _ ⟨rfl,rfl⟩;refine⟨_,rfl,_,rfl,λy=>?_,λy=>?_⟩;· simp_all
      · have y:(vE g (d+1) x).1=true:=by simpa using y
        have:=vE_bound y;grind
    · rintro _ _ (⟨i,rfl,g,rfl,o⟩|⟨rfl,g,rfl,H,J,o⟩);· simp_all
      · rw[List.drop_length,vEs_nil]at o;exact⟨_,rfl,_,⟨by rw[o];rfl,rfl⟩,by rw[o];exact hW g⟩
  have key:CF e.op e.n e.s e.k.length=(decide (Bs e.op≠-2/\(0<=Bs e.op->(e.k.length:Int)=Bs e.op)/\(Bs e.op=-1->(e.k.length:Int)<=6))&&(D0 e.op e.s&&numB e.op e.n)):=by grind[CF]
  have pr:-2<=Bs e.op:=by unfold Bs;grind
  rw[key]at w u;have X:(e.k.length:Int)=(e.l.n:Int):=by rw[hn]
  rw[X]at w u;generalize hkn:(e.l.n:Int)=kn at w u⊢;generalize hpn:Bs e.op=pn at w u pr⊢;generalize B:(D0 e.op e.s&&numB e.op e.n)=nm at w u⊢;haveI:Tab (V.set b (cell (.int .i64 (left-1)) t)):=Tab.sub S (N.set y _);refine⟨λh8=>⟨λG=>w λh=>absurd h.2.1 (Int.not_le.2 G),λG=>⟨λh7=>(c146 (e:=e)).call ⟨nm,by rw[B],λh9=>?_,λh9=>w ?_⟩,λh7=>w ?_⟩⟩,λh8=>w ?_⟩;· grind
  · simp_all
  · simp_all
  grind
theorem G7{V:Mem}[Tab V]{e:E}(h:E.Ok V e):PP 54 [e.v] V (.bool (Bf e)):=by
 refine A1.mk (N0 ?_);intro b k;refine Tri.mono (OY k e h _ (Mem.sub_new k _) 1000 1 Ao (by omega) (by omega) (by omega) (by omega)) ?_;rintro _ _ ⟨rfl,rfl⟩;rw[validE_v,Mem.set_set];exact⟨_,rfl,rfl,Mem.sub_new k _⟩
def JU:List E->Int|[]=>0|e::_=>e.op
def FQ(op:Int)(s:KB)(es:List E)(k h:Int):Bool:=
 if op=1 then A6 s&&decide ((es.length:Int)=1/\k=0/\h=0)else if op=2 then A6 s&&decide ((es.length:Int)=2/\k=0/\h=0)else if op=3 then decide (s=Ab []/\(es.length:Int)=1)
 else if op=4 then decide (s=Ab []/\(es.length:Int)=1/\h=0)else if op=5 then decide (s=Ab []/\(es.length:Int)<=1/\k=0/\h=0)else if op=6 then decide (s=Ab []/\(es.length:Int)=1/\JU es=7/\k=0/\h=0)else false
def CS(op:Int)(s:KB)(es:List E)(h k:Int):Bool:=FQ op s es h k&&es.all Bf
theorem c209{V:Mem}{s:S}(h:S.Ok V s){lo hi:Int}:PP 209 [s.v,.int .i64 lo,.int .i64 hi] V (.bool (decide (lo<=s.es.length/\(s.es.length:Int)<=hi)&&s.es.all Bf)):=by
 have u:=h.eRows;have d:=u.n_eq;rw[show s.v=.agg #[.int .i64 s.op,.string s.s,.slice s.el.p s.el.n s.el.c,.slice s.ll.p s.ll.n s.ll.c,.slice s.xl.p s.xl.n s.xl.c]by unfold S.v;rw[S.row_eq];rfl];refine x209 ?_;refine⟨λy=>?_,λy=>⟨λj=>?_,λj=>?_⟩⟩;·grind
 ·grind
 ·rw[decide_eq_true (by omega),Bool.true_and];refine AK s.es.length (λi V1=>V1=V/\s.es.all Bf=(s.es.drop i).all Bf) ⟨rfl,rfl⟩ ?_;rintro i b _ J hi ⟨rfl,l⟩ m;refine⟨λk=>?_,λr=>?_⟩
  ·obtain⟨x,hm,H,w,q,o,a,g⟩:=u.get k;rw[w,List.all_cons]at l;refine⟨o,a,k,_,_,_,_,g,(c111 (h.eOk x hm)).call ⟨_,rfl,λe=>⟨u.succ k,m q _ _ ⟨rfl,?_⟩⟩,λe=>?_⟩⟩;·simp_all
   simp_all
  grind
theorem IK{V:Mem}{s:S}(h:S.Ok V s):(s.es=[]/\s.el.n=0)∨∃k r,s.es=k::r/\0<s.el.n/\¬(s.el.p=none)/\¬(Aa s.el.p 0=none)/\V.rowp s.el.p 0 4=some [.int .i64 k.op,.int .i64 k.n,.string k.s,.slice k.l.p k.l.n k.l.c]:=by
 have w:=h.eRows;have o:=w.n_eq;cases g:s.es with
 |nil=>simp_all
 |cons k r=>
  have m:((0:Nat):Int)<(s.el.n:Int):=by simp_all
  obtain⟨x,hm,u,q,b,y,d,j⟩:=w.get m;rw[g]at u;simp only[xV,zF]at u;subst u;refine .inr ⟨k,r,rfl,by omega,y,λe=>?_,?_⟩
  ·cases i:s.el.p with
   |none=>exact y i
   |some a=>rw[i]at e;cases e
  grind[E.row,vI,vS,Sl.v]
set_option maxRecDepth 4000 in
theorem c154{V:Mem}{s:S}(h:S.Ok V s):PP 154 [s.v] V (.bool (CS s.op s.s s.es s.ls.length s.xs.length)):=by
 have d:=IK h;have cx:=λa e=>c209 h (lo:=a) (hi:=e);have j:=h.lRows.n_eq;have i:=h.xRows.n_eq;rw[show s.v=.agg #[.int .i64 s.op,.string s.s,.slice s.el.p s.el.n s.el.c,.slice s.ll.p s.ll.n s.ll.c,.slice s.xl.p s.xl.n s.xl.c]by unfold S.v;rw[S.row_eq];rfl]at cx⊢;refine x154 ?_;rw[<-j,<-i];generalize l:CS s.op s.s s.es s.ll.n s.xl.n=X;have key:∀b:Bool,X=b->xJ (.bool b)=xJ (.bool X):=λn h=>by rw[h]
 unfold CS FQ at l;generalize w:s.es.all Bf=va at cx;rcases d with⟨x,H⟩|⟨e0,r,x,H,J,m,y⟩
 ·have k:(s.es.length:Int)=0:=by rw[x];rfl
  have q:s.es.length=0:=by rw[x];rfl
  rw[k]at cx;rw[w,k]at l
  repeat' (first|refine DZ.call ⟨_,rfl,?_⟩|refine(cx _ _).call ⟨_,rfl,?_⟩|apply xK|intro _)
  all_goals first|rfl|(refine key _ ?_;clear key cx;grind)|(exfalso;clear key cx;grind)
 ·have o:JU s.es=e0.op:=by rw[x];rfl
  generalize k:(s.es.length:Int)=len at cx;rw[w,k,o]at l;have G:0<len:=by grind
  have N:(s.el.n:Int)=len:=by rw[<-k,h.eRows.n_eq]
  have c11:=cx 1 1;have g:=cx 2 2;have u:=cx 0 1;rw[show decide (1<=len/\len<=1)=decide (len=1)by grind]at c11;rw[show decide (2<=len/\len<=2)=decide (len=2)by grind]at g;rw[show decide (0<=len/\len<=1)=decide (len<=1)by grind]at u
  repeat' (first|refine DZ.call ⟨_,rfl,?_⟩|refine c11.call ⟨_,rfl,?_⟩|refine g.call ⟨_,rfl,?_⟩|refine u.call ⟨_,rfl,?_⟩|refine⟨_,_,_,_,y,?_⟩|exact J|exact m|apply xK|intro _)
  all_goals first|rfl|(refine key _ ?_;clear key cx c11 g u;grind)|omega|(exfalso;clear key cx c11 g u;grind)
mutual
def D1(d:Int):S->Bool|.mk op s _ es _ ls _ xs=>decide (d<=60)&&CS op s es ls.length xs.length&&Cv (d+1) ls&&Cv (d+1) xs
def Cv(d:Int):List S->Bool|[]=>true|x::xs=>D1 d x&&Cv d xs
end
mutual
def Eh:S->Nat|.mk _ _ _ _ _ ls _ xs=>1+Co ls+Co xs
def Co:List S->Nat|[]=>0|x::xs=>Eh x+Co xs
end
mutual
def cntS(d acc:Int):S->Int
 |.mk op s _ es _ ls _ xs=>
  if 60<d then 201 else if CS op s es ls.length xs.length=true then
    if acc+1<=200 then
      if acc+1+B6 (d+1) 0 ls<=200 then acc+1+B6 (d+1) 0 ls+B6 (d+1) 0 xs else acc+1+B6 (d+1) 0 ls
    else acc+1
  else 201
def B6(d acc:Int):List S->Int|[]=>acc|x::xs=>if 200<cntS d acc x then cntS d acc x else B6 d (cntS d acc x) xs
end
def gd{α:Type}(d left:Int)(l:List α)(r:Bool×Int):Bool×Int:=if 60<d/\l≠[]then(false,left)else r
mutual
def vStm(left d:Int):S->Bool×Int
 |.mk op s _ es _ ls _ xs=>
  if 0<=left-1/\CS op s es ls.length xs.length=true then
    if(gd (d+1) (left-1) ls (CH (left-1) (d+1) ls)).1=true then
      gd (d+1) (gd (d+1) (left-1) ls (CH (left-1) (d+1) ls)).2 xs (CH (gd (d+1) (left-1) ls (CH (left-1) (d+1) ls)).2 (d+1) xs)
    else(false,(gd (d+1) (left-1) ls (CH (left-1) (d+1) ls)).2)
  else(false,left-1)
def CH(left d:Int):List S->Bool×Int|[]=>(true,left)|x::xs=>if(vStm left d x).1=true then CH (vStm left d x).2 d xs else(false,(vStm left d x).2)
end
def Dp(left d:Int)(l:List S):Bool×Int:=gd d left l (CH left d l)
theorem vSs_cons(left d:Int)(x:S)(xs:List S):CH left d (x::xs)=if(vStm left d x).1=true then CH (vStm left d x).2 d xs else(false,(vStm left d x).2):=by rw[CH]
theorem vSs_nil(left d:Int):CH left d []=(true,left):=by rw[CH]
theorem cntSs_cons(d acc:Int)(x:S)(xs:List S):B6 d acc (x::xs)=if 200<cntS d acc x then cntS d acc x else B6 d (cntS d acc x) xs:=by rw[B6]
theorem cntSs_nil(d acc:Int):B6 d acc []=acc:=by rw[B6]
theorem vS_eq(left d:Int)(x:S):vStm left d x=if 0<=left-1/\CS x.op x.s x.es x.ls.length x.xs.length=true then(if(Dp (left-1) (d+1) x.ls).1=true then Dp (Dp (left-1) (d+1) x.ls).2 (d+1) x.xs else(false,(Dp (left-1) (d+1) x.ls).2))else(false,left-1):=by
 cases x;unfold vStm;rfl
theorem cntS_eq(d acc:Int)(x:S):cntS d acc x=if 60<d then 201 else if CS x.op x.s x.es x.ls.length x.xs.length=true then
  if acc+1<=200 then
   if acc+1+B6 (d+1) 0 x.ls<=200 then acc+1+B6 (d+1) 0 x.ls+B6 (d+1) 0 x.xs else acc+1+B6 (d+1) 0 x.ls
  else acc+1
 else 201:=by
 cases x;unfold cntS;rfl
mutual
theorem cntS_ok:∀(d acc:Int)(e:S),0<=acc->acc<=200->acc+1<=cntS d acc e/\(cntS d acc e<=200↔D1 d e=true/\acc+Eh e<=200)/\(cntS d acc e<=200->cntS d acc e=acc+Eh e)/\cntS d acc e<=201+200*(61-d).toNat
 |d,acc,.mk op s _ es _ ls _ xs,h,k=>by
  have g:=G8 (d+1) 0 ls (by omega) (by omega);have u:=G8 (d+1) 0 xs (by omega) (by omega);unfold cntS D1 Eh;grind
theorem G8:∀(d acc:Int)(k:List S),0<=acc->acc<=200->acc<=B6 d acc k/\(B6 d acc k<=200↔Cv d k=true/\acc+Co k<=200)/\(B6 d acc k<=200->B6 d acc k=acc+Co k)/\B6 d acc k<=201+200*(61-d).toNat
 |d,acc,[],h,g=>by simp[B6,Cv,Co];omega
 |d,acc,x::xs,h,g=>by
  have u:=cntS_ok d acc x h g;have w:=G8 d (cntS d acc x) xs (by omega);grind[B6,Cv,Co]
end
theorem okSs_deep{d:Int}(h:60<d):∀l:List S,l≠[]->Cv d l=false
 |[],k=>absurd rfl k
 |.mk _ _ _ _ _ _ _ _::xs,_=>by
  grind[Cv,D1]
mutual
theorem vS_ok:∀(left d:Int)(e:S),d<=60->((vStm left d e).1=true↔D1 d e=true/\(Eh e:Int)<=left)/\((vStm left d e).1=true->(vStm left d e).2=left-Eh e)
 |left,d,.mk op s _ es _ ls _ xs,k=>by
  have g:=vSs_ok (left-1) (d+1) ls;have u:=λl=>vSs_ok l (d+1) xs;have w:=λh=>okSs_deep (d:=d+1) h ls;have y:=λh=>okSs_deep (d:=d+1) h xs;grind[vStm,D1,Eh,gd,CS,CH,Cv,Co,absurd]
theorem vSs_ok:∀(left d:Int)(k:List S),0<=left->¬(60<d/\k≠[])->((CH left d k).1=true↔Cv d k=true/\(Co k:Int)<=left)/\((CH left d k).1=true->(CH left d k).2=left-Co k)
 |left,d,[],h,_=>by simp[CH,Cv,Co,h]
 |left,d,x::xs,h,g=>by
  have u:=vS_ok left d x (by grind);have w:=vSs_ok (vStm left d x).2 d xs;grind[vSs_cons,Cv,Co]
end
def Gq(l:List S):Bool:=decide (Cv 1 l=true/\Co l<=200)
theorem validSs_cnt(l:List S):decide (B6 1 0 l<=200)=Gq l:=by
 have:=G8 1 0 l (by omega) (by omega);unfold Gq;grind
theorem validSs_v(l:List S):(Dp 200 1 l).1=Gq l:=by
 have:=(vSs_ok 200 1 l (by omega) (by omega)).1;grind[Gq,Dp,gd]
theorem S.v_eq(s:S):s.v=.agg #[.int .i64 s.op,.string s.s,.slice s.el.p s.el.n s.el.c,.slice s.ll.p s.ll.n s.ll.c,.slice s.xl.p s.xl.n s.xl.c]:=by unfold S.v;rw[S.row_eq];rfl
theorem S.row_get{V:Mem}{p:Option Addr}{i:Nat}{x:S}(h:V.rowp p i 5=some x.row):V.rowp p i 5=some [.int .i64 x.op,.string x.s,.slice x.el.p x.el.n x.el.c,.slice x.ll.p x.ll.n x.ll.c,.slice x.xl.p x.xl.n x.xl.c]:=by
 rw[h,S.row_eq];rfl
theorem Ah{p:Option Addr}{n:Nat}(h:¬(p=none)):¬(Aa p n=none):=by
 cases p with
 |none=>grind
 |some a=>intro e;cases e
def CntP(V:Mem)(l:List S):Prop:=∀(sl:Sl)(d:Int),Ad V sl 5 (l.map S.row)->(∀x∈l,S.Ok V x)->0<=d->d<=61->PP 110 [sl.v,.int .i64 d] V (.int .i64 (B6 d 0 l))
theorem cntP_step{V:Mem}{l:List S}(e:∀x∈l,CntP V x.ls/\CntP V x.xs):CntP V l:=by
 intro sl d r q Y I;refine x110 ?_;refine loop3s BG l.length (λi acc V1=>V1=V/\0<=acc/\acc<=200/\B6 d 0 l=B6 d acc (l.drop i)) ⟨rfl,by omega,by omega,rfl⟩ ?_;rintro i acc c V1 J M ⟨rfl,W,F,s⟩ L;refine⟨λu=>?_,λo=>?_⟩
 ·obtain⟨x,hm,X,p,B,w,b,k⟩:=r.get u;have k:=S.row_get k;have g:=q x hm;have Q:=g.lRows.n_eq;have P:=g.xRows.n_eq;rw[p,cntSs_cons]at s;have m:=cntS_eq d acc x;have cs:=c154 g;rw[S.v_eq]at cs;have bad:cntS d acc x=201->(xJ (.int .i64 201)=xJ (.int .i64 (B6 d 0 l))/\V1=V1):=λh=>by
   grind
  have y:∀n,cntS d acc x=n->200<n->(xJ (.int .i64 n)=xJ (.int .i64 (B6 d 0 l))/\V1=V1):=λn h O=>by
   grind
  have A:∀n H,cntS d acc x=n->0<=n->¬200<n->J [.int .i64 n,.int .i64 H,.int .i64 ((i:Int)+1)] V1:=λn H h C O=>by
   grind
  refine⟨λj=>bad (by omega),λj=>⟨w,b,u,_,_,_,_,_,k,cs.call ⟨_,rfl,λG=>⟨⟨by omega,by omega⟩,λN=>?_,λN=>?_⟩,λG=>bad (by simp_all)⟩⟩⟩
  ·rw[if_neg j,if_pos G,if_pos N]at m;have b1:=G8 (d+1) 0 x.ls (by omega) (by omega);have b2:=G8 (d+1) 0 x.xs (by omega) (by omega);refine⟨w,b,u,Ah w,_,_,_,_,_,k,⟨by omega,by omega⟩,((e x hm).1 x.ll (d+1) g.lRows g.lOk (by omega) (by omega)).call ⟨_,rfl,⟨by omega,by omega⟩,λZ=>?_,λZ=>?_⟩⟩
   ·rw[if_pos Z]at m;refine⟨w,b,u,Ah w,_,_,_,_,_,k,⟨by omega,by omega⟩,((e x hm).2 x.xl (d+1) g.xRows g.xOk (by omega) (by omega)).call ⟨_,rfl,⟨by omega,by omega⟩,λa=>y _ m a,λa=>⟨r.succ u,A _ _ m (by omega) a⟩⟩⟩
   grind
  grind
 ·rw[(r.done o).1,cntSs_nil]at s;simp_all
theorem cntP_S(V:Mem):∀s:S,CntP V s.ls/\CntP V s.xs:=by
 intro s;induction s using S.ind with
 |h s k g=>grind[cntP_step]
theorem c110{V:Mem}{l:List S}{sl:Sl}{d:Int}(k:Ad V sl 5 (l.map S.row))(h:∀x∈l,S.Ok V x)(g:0<=d)(u:d<=61):PP 110 [sl.v,.int .i64 d] V (.int .i64 (B6 d 0 l)):=
 cntP_step (λx _=>cntP_S V x) sl d k h g u
set_option maxRecDepth 4000 in
theorem c272{V:Mem}[Tab V]{s:S}(h:S.Ok V s):PP 272 [s.v] V (.bool (FQ s.op s.s s.es s.ls.length s.xs.length)):=by
 have e:=IK h;have g:=h.lRows.n_eq;have u:=h.xRows.n_eq;have w:=h.eRows.n_eq;rw[S.v_eq];refine x272 ?_;rw[<-g,<-u];generalize x:FQ s.op s.s s.es s.ll.n s.xl.n=X;have key:∀b:Bool,X=b->xJ (.bool b)=xJ (.bool X):=λn h=>by rw[h]
 unfold FQ at x;rw[<-w]at x;have i:(0:Int)<=(s.el.n:Int):=by omega
 have l:(0:Int)<=(s.ll.n:Int):=by omega
 have m:(0:Int)<=(s.xl.n:Int):=by omega
 generalize a:(s.el.n:Int)=ne at x i;generalize(s.ll.n:Int)=nl at x l;generalize(s.xl.n:Int)=nx at x m;rcases e with⟨j,q⟩|⟨e0,r,j,q,o,y,k⟩
 ·have:ne=0:=by omega
  subst this;clear g u w q
  repeat' (first|refine DL.call ⟨_,rfl,?_⟩|apply xK|intro _)
  all_goals first|rfl|(refine key _ ?_;clear key h j;grind)|(exfalso;clear key h j;grind)
 ·have p:JU s.es=e0.op:=by rw[j];rfl
  rw[p]at x;have c:0<ne:=by omega
  clear g u w q
  repeat' (first|refine DL.call ⟨_,rfl,?_⟩|refine⟨_,_,_,_,k,?_⟩|exact o|exact y|exact c|apply xK|intro _)
  all_goals first|rfl|(refine key _ ?_;clear key h j k o y;grind)|(exfalso;clear key h j k o y;grind)|omega
end Go.Proofs
