/- Part 4: no statement of the seat is proved here. -/
import Derived.Test.YtkebnkjegieagaaGreatDoorPq03
import Derived.Shelf.Strings.Fields
import Derived.Sort.Walk0
import Derived.RangeFuncRecord
set_option linter.unusedVariables false
set_option linter.unusedSimpArgs false
open Go.Proofs.Tryz renaming prog->xV
open Go.IntKind renaming wrap->xW
open Go renaming bits->xX
open Go.Ending renaming returned->xY
open And renaming intro->xZ
open List renaming mem_iff_getElem->xE,getElem?_eq_getElem->yf,mem_of_getElem?->xw,getElem?_cons_succ->xn,getElem?_cons_zero->xm,getElem?_eq_some_iff->yg
open Go.Value renaming string->yb
open Nat renaming le_of_ble_eq_true->xz
open Go.Lib renaming TabIs->xv,asciiSpaceTab->xu,fields->xr
open Array renaming getElem?_eq_some_iff->yN
open Go.RowKit.Below renaming heap_alloc->xq
open Go.Op renaming bytesLess->xo
open Bool renaming and_eq_true->zD
open Option.some renaming injEq->zH
namespace Go.Proofs
open Go Go.Sx
set_option maxRecDepth 100000
section
variable{V:Mem}{R:RP}
theorem x259{a:XI}{b:KB}{c:Int}(h:Br (b=(Ab [116,104,105,115])) (R (Id c) V) (N2 a (¬(Aa a 8)=none/\∃d,V.rowp a 8 1=some [uL d]/\N2 a (¬(Aa a 0)=none/\∃g,V.rowp a 2 1=some [uL g]/\Af [uS b] 9 V λi V1=>TI 76 #[uL g,.func (.func 309) #[] #[uP (Aa i 0)]] V1 λj V2=>V2.rowp (Aa a 8) 0 1=some [uL d]/\¬(Aa a 8)=none/\N2 a (Ix d j (IY V2 d j λk=>R (Id k) V2)))))):TT 259 #[uP a,uS b,uI c] V R:=Ad Tryz.func259 h
theorem x260{a:XI}{b:Int}{c:KB}(h:Br (b=0) (GenK xV (.makeInterface 341 (.tmp 12)) 20 (gv [(12,uA #[uI 17])]) V λx V1=>∃d,K.r.ok d/\x=d/\∃t x,K.cast .r d=.iface t x/\R (.panicked [{v:=.iface t x,recovered:=false}]) V1) (N2 a (¬(Aa a 8)=none/\∃d,V.rowp a 9 1=some [uL d]/\IR (b-1)/\Ix d (b-1) (∃g i,V.rowp d.p ((b-1).toNat*2) 2=some [uI g,uL i]/\N2 a (¬(Aa a 0)=none/\∃j,V.rowp a 1 1=some [uL j]/\RZ V j g (λk l=>RW 310 #[uA #[uS k,uL l],uS c] V λo p V1=>Ix i o (IY V1 i o λq=>R (Id q) V1))))))):TT 260 #[uP a,uI b,uS c] V R:=Ad Tryz.func260 h
theorem x261{a:XI}{b c:Int}(h:N2 a (¬(Aa a 0)=none/\∃d,V.rowp a 4 1=some [uL d]/\RU V d b (λg i j k l o p=>Br (c=0) (R (Id j) V) (N2 a (∃q,V.rowp a 10 1=some [uM q]/\BE xV 268 (uM q) (uA #[uI b,uI c]) true V λx=>∃r s,x=.tuple #[uI r,uB s]/\Ac s (R (Id r) V) (N2 a (∃u,V.rowp a 11 1=some [uM u]/\BE xV 269 (uM u) (uA #[uI b,uI c]) false V λx=>∃y,x=uB y/\Ac y (GenK xV (.makeInterface 341 (.tmp 44)) 20 (gv [(44,uA #[uI 16])]) V λx V1=>∃z,K.r.ok z/\x=z/\∃t x,K.cast .r z=.iface t x/\R (.panicked [{v:=.iface t x,recovered:=false}]) V1) (N2 a (∃z,V.rowp a 11 1=some [uM z]/\Co xV 269 (uM z) (uA #[uI b,uI c]) (.bool true) V λV1=>TT 196 #[uP a,Rp k l o p,uI c] V1 λe V2=>(∃A,e=rV (uI A)/\N2 a (∃B,V2.rowp a 11 1=some [uM B]/\GenK xV (.call {callee:=(.builtin .delete),args:=#[(.tmp 59),(.tmp 60)],argTypes:=#[269,379]}) 0 (gv [(59,uM B),(60,uA #[uI b,uI c])]) V2 λx w=>x=.tuple #[]/\N2 a (∃C,w.rowp a 10 1=some [uM C]/\Co xV 268 (uM C) (uA #[uI b,uI c]) (uI A) w λn=>R (Id A) n)))∨∃m,e=.panicked m/\R e V2))))))))):TT 261 #[uP a,uI b,uI c] V R:=Ad Tryz.func261 h
theorem x262{a:XI}{b:KB}(h:N2 a (¬(Aa a 0)=none/\∃c,V.rowp a 4 1=some [uL c]/\Af [uS b] 9 V λd V1=>TI 311 #[uL c,.func (.func 312) #[] #[uP (Aa d 0)]] V1 λg V2=>R (Id g) V2)):TT 262 #[uP a,uS b] V R:=Ad Tryz.func262 h
theorem x263{a:Int}(h:Br (a<(-1099511627776)) (GenK xV (.makeInterface 341 (.tmp 9)) 20 (gv [(9,uA #[uI 5])]) V λx V1=>∃b,K.r.ok b/\x=b/\∃t x,K.cast .r b=.iface t x/\R (.panicked [{v:=.iface t x,recovered:=false}]) V1) (Br (1099511627776<a) (GenK xV (.makeInterface 341 (.tmp 9)) 20 (gv [(9,uA #[uI 5])]) V λx V1=>∃b,K.r.ok b/\x=b/\∃t x,K.cast .r b=.iface t x/\R (.panicked [{v:=.iface t x,recovered:=false}]) V1) (R (Id a) V))):TT 263 #[uI a] V R:=Ad Tryz.func263 h
theorem x264{a:Int}(h:TI 314 #[.int .u64 a] V λb V1=>R (Id b) V1):TT 264 #[.int .u64 a] V R:=Ad Tryz.func264 h
theorem x265{a b c:Int}(h:Br (a=9) (IR (b+c)/\TT 263 #[uI (b+c)] V λe V1=>(∃d,e=rV (uI d)/\R (Id d) V1)∨∃k,e=.panicked k/\R e V1) (Br (a=10) (IR (b-c)/\TT 263 #[uI (b-c)] V λe V1=>(∃d,e=rV (uI d)/\R (Id d) V1)∨∃k,e=.panicked k/\R e V1) (Br (a=11) (TT 315 #[uI b,uI c] V λe V1=>(∃d,e=rV (uI d)/\R (Id d) V1)∨∃k,e=.panicked k/\R e V1) (Br (a=22) (GenK xV (.call {callee:=(.builtin .max),args:=#[(.tmp 27),(.tmp 28)],argTypes:=#[3,3]}) 3 (gv [(27,uI b),(28,uI c)]) V λx V1=>∃d,x=uI d/\R (Id d) V1) (Br (a=23) (GenK xV (.call {callee:=(.builtin .min),args:=#[(.tmp 32),(.tmp 33)],argTypes:=#[3,3]}) 3 (gv [(32,uI b),(33,uI c)]) V λx V1=>∃d,x=uI d/\R (Id d) V1) (Br (a=14) (TI 316 #[uB (decide (b=c))] V λd V1=>R (Id d) V1) (Br (a=15) (TI 316 #[uB (!(decide (b=c)))] V λd V1=>R (Id d) V1) (Br (a=16) (TI 316 #[uB (decide (b<c))] V λd V1=>R (Id d) V1) (Br (a=17) (TI 316 #[uB (decide (b<=c))] V λd V1=>R (Id d) V1) (Br (c=0) (GenK xV (.makeInterface 341 (.tmp 61)) 20 (gv [(61,uA #[uI 18])]) V λx V1=>∃d,K.r.ok d/\x=d/\∃t x,K.cast .r d=.iface t x/\R (.panicked [{v:=.iface t x,recovered:=false}]) V1) (Br (a=12) (¬c=0/\TT 263 #[uI (xW .i64 ((b).tdiv c))] V λe V1=>(∃d,e=rV (uI d)/\R (Id d) V1)∨∃k,e=.panicked k/\R e V1) (¬c=0/\R (rV (uI ((b).tmod c))) V)))))))))))):TT 265 #[uI a,uI b,uI c] V R:=Ad Tryz.func265 h
theorem x266{a:Int}{b:KB}{c d g:Sl}{i j:Int}(h:Br ((c.n:Int)<i) (R KQ V) (Br (j<(c.n:Int)) (R KQ V) (LE [uB false,uI 0] V λk l u V1=>Br (l<(c.n:Int)) (RS V1 c l (λo p q r=>TB 152 #[Rp o p q r] V1 λs V2=>Ac s (LT uB k l u V2) (R KQ V2))) (R KX V1)))):TT 266 #[RN a b c d g,uI i,uI j] V R:=Ad Tryz.func266 h
abbrev w267_0(a b:Int)(c:KB)(d:Sl)(V1:Mem)(R:RP):Prop:=TB 318 #[Rp a b c d] V1 λi V2=>Ac i (Br (a=1) (Br (0<=b) (R (EQ (decide (b<=1099511627776))) V2) (R KQ V2)) (Br (a=2) (Br (b=0) (R KX V2) (R (EQ (decide (b=1))) V2)) (R (EQ (decide (b=0))) V2))) (R KQ V2)
theorem x267{a b:Int}{c:KB}{d:Sl}(h:TI 317 #[uI a] V λg V1=>Br (g=(-2)) (R KQ V1) (Br (0<=g) (Br ((d.n:Int)=g) (Br (g=(-1)) (Br (6<(d.n:Int)) (R KQ V1) (w267_0 a b c d V1 R)) (w267_0 a b c d V1 R)) (R KQ V1)) (Br (g=(-1)) (Br (6<(d.n:Int)) (R KQ V1) (w267_0 a b c d V1 R)) (w267_0 a b c d V1 R)))):TT 267 #[Rp a b c d] V R:=Ad Tryz.func267 h
theorem x268{a:KB}{b c d g i j k:Sl}{l:KB}{o:Sl}{p:KB}{q r:Sl}(h:Af [] 97 V λs V1=>Ap 6 8 23 (.slice (Aa s 0) (0:Int).toNat (0:Int).toNat) (uL o) V1 λu V2=>Ap 9 11 23 (uL u) (uL q) V2 λy w=>Ap 13 15 23 (uL y) (uL c) w λz x=>R (rV (uA #[uL z,uB true])) x):TT 268 #[uD a b c d g i j k,uA #[uS l,uL o,uS p,uL q,uL r]] V R:=Ad Tryz.func268 h
theorem x269{a:KB}{b c d g i j k l:Sl}{o:Bool}{p q:Int}{r:KB}{s:Sl}(h:Sh [z0,uI 0,z0,uI 0] V λu y z A w V1=>Br (A<(s.n:Int)) (RS V1 s A (λB C D F=>RV 271 #[uD a b c d g i j k,uA #[uL l,uB o],Rp B C D F] V1 λG H V2=>Br (H=0) (Af [uS G] 9 V2 λL x=>Ap 33 35 37 (uL z) (.slice (Aa L 0) 1 1) x λM m=>IR (A+1)/\w [uL u,uI y,uL M,uI (A+1)] m) (R (rT #[z0,uI H]) V2))) (R (rT #[uL z,uI 0]) V1)):TT 269 #[uD a b c d g i j k,uA #[uL l,uB o],Rp p q r s] V R:=Ad Tryz.func269 h
theorem x270{a:KB}{b c d g i j k:Sl}{l:KB}{o:Sl}(h:TI 159 #[uD a b c d g i j k,uS l] V λp V1=>Br (p<0) (R (rT #[uS (Ab []),uI 9]) V1) (Rz V1 d p (λq r s u y=>Br ((o.n:Int)=(r.n:Int)) (Lp [uS (Ab []),uI 0,uI 0] V1 λI n V2=>∀z A B,I n [uS z,uI A,uI B] V2->∀w:LMP,Nx I n w->Br (B<(o.n:Int)) (Or V2 o B (λC=>Rn V2 r B (λD F=>TB 273 #[uD a b c d g i j k,uS C,uS F] V2 λG x=>Ac G (Ru uS uI z A B w x) (R (rT #[uS (Ab []),uI 11]) x)))) (R (rT #[uS s,uI 0]) V2)) (R (rT #[uS (Ab []),uI 3]) V1)))):TT 270 #[uD a b c d g i j k,uS l,uL o] V R:=Ad Tryz.func270 h
abbrev w271_0(u:Sl)(V1:Mem)(a:KB)(b c d g i j k:Sl)(R:RP):Prop:=Or V1 u 0 λz=>Or V1 u 1 λA=>TB 273 #[uD a b c d g i j k,uS z,uS A] V1 λB V2=>Ac B (RV 320 #[uB true,uS RG] V2 λC D h=>R (rT #[uS C,uI D]) h) (Or V2 u 1 λC=>Or V2 u 0 λD=>TB 273 #[uD a b c d g i j k,uS C,uS D] V2 λF h=>RV 320 #[uB F,uS RG] h λG H w=>R (rT #[uS G,uI H]) w)
abbrev w271_1(u:Sl)(V1:Mem)(a:KB)(b c d g i j k:Sl)(A:KB)(R:RP):Prop:=Or V1 u 1 λC=>Or V1 u 2 λD=>TB 273 #[uD a b c d g i j k,uS C,uS D] V1 λF V2=>Ac F (RV 320 #[uB true,uS A] V2 λG H h=>R (rT #[uS G,uI H]) h) (Or V2 u 2 λG=>Or V2 u 1 λH=>TB 273 #[uD a b c d g i j k,uS G,uS H] V2 λL h=>RV 320 #[uB L,uS A] h λM N w=>R (rT #[uS M,uI N]) w)
abbrev w271_2(u:Sl)(V1:Mem)(R:RP):Prop:=TB 321 #[uL u,uS RG] V1 λz V2=>RV 320 #[uB z,uS RG] V2 λA B h=>R (rT #[uS A,uI B]) h
theorem x271{a:KB}{b c d g i j k l:Sl}{o:Bool}{p q:Int}{r:KB}{s:Sl}(h:RD 269 #[uD a b c d g i j k,uA #[uL l,uB o],Rp p q r s] V λu y V1=>Br (y=0) (Br (p=1) (R (rT #[uS RH,uI 0]) V1) (Br (p=2) (R (rT #[uS RG,uI 0]) V1) (Br (p=3) (R (rT #[uS (Ab [110,105,108]),uI 0]) V1) (Br (p=4) (TS 272 #[uL l,uS r] V1 λz V2=>Br (z=(Ab [])) (R (rT #[uS (Ab []),uI 9]) V2) (R (rT #[uS z,uI 0]) V2)) (Br (p=5) (Or V1 u 0 λz=>RV 274 #[uD a b c d g i j k,uS z,uS r] V1 λA B V2=>R (rT #[uS A,uI B]) V2) (Br (p=6) (Ac o (TB 206 #[uD a b c d g i j k,uS r] V1 λz V2=>Ac z (R (rT #[uS r,uI 0]) V2) (R (rT #[uS (Ab []),uI 9]) V2)) (R (rT #[uS (Ab []),uI 13]) V1)) (Br (p=7) (RV 319 #[uD a b c d g i j k,uA #[uL l,uB o],uS r,uL u] V1 λz A V2=>R (rT #[uS z,uI A]) V2) (Br (p=14) (w271_0 u V1 a b c d g i j k R) (Br (p=15) (w271_0 u V1 a b c d g i j k R) (Br (p=16) (TB 321 #[uL u,uS RH] V1 λz V2=>RV 320 #[uB z,uS RG] V2 λA B w=>R (rT #[uS A,uI B]) w) (Br (p=17) (TB 321 #[uL u,uS RH] V1 λz V2=>RV 320 #[uB z,uS RG] V2 λA B w=>R (rT #[uS A,uI B]) w) (Br (p=18) (w271_2 u V1 R) (Br (p=19) (w271_2 u V1 R) (Br (p=20) (w271_2 u V1 R) (Br (p=21) (Or V1 u 1 λz=>Br (z=(Ab [110,105,108])) (Or V1 u 2 λA=>Or V1 u 0 λB=>Br (B=RG) (w271_1 u V1 a b c d g i j k A R) (RV 320 #[uB false,uS A] V1 λC D V2=>R (rT #[uS C,uI D]) V2)) (Or V1 u 0 λA=>Br (A=RG) (w271_1 u V1 a b c d g i j k z R) (RV 320 #[uB false,uS z] V1 λB C V2=>R (rT #[uS B,uI C]) V2))) (TB 321 #[uL u,uS RH] V1 λz V2=>RV 320 #[uB z,uS RH] V2 λA B w=>R (rT #[uS A,uI B]) w)))))))))))))))) (R (rT #[uS (Ab []),uI y]) V1)):TT 271 #[uD a b c d g i j k,uA #[uL l,uB o],Rp p q r s] V R:=Ad Tryz.func271 h
theorem x272{a:Sl}{b:KB}(h:Lp [uS (Ab []),uI 0] V λI n V1=>∀c d,I n [uS c,uI d] V1->∀u:LMP,Nx I n u->Br (d<(a.n:Int)) (Rn V1 a d (λg i=>Br (g=b) (Rn V1 a d (λj k=>R (rV (uS k)) V1)) (LT uS c d u V1))) (R (rV (uS (Ab []))) V1)):TT 272 #[uL a,uS b] V R:=Ad Tryz.func272 h
theorem x273{a:KB}{b c d g i j k:Sl}{l o:KB}(h:Br (l=o) (R KX V) (Br (l=(Ab [110,105,108])) (TB 206 #[uD a b c d g i j k,uS o] V λp V1=>R (EQ p) V1) (R KQ V))):TT 273 #[uD a b c d g i j k,uS l,uS o] V R:=Ad Tryz.func273 h
theorem x274{a:KB}{b c d g i j k:Sl}{l o:KB}(h:TI 120 #[uD a b c d g i j k,uS l] V λp V1=>Br (p<0) (R (rT #[uS (Ab []),uI 11]) V1) (Rm V1 b p (λq r=>TS 272 #[uL r,uS o] V1 λs V2=>Br (s=(Ab [])) (R (rT #[uS (Ab []),uI 9]) V2) (R (rT #[uS s,uI 0]) V2)))):TT 274 #[uD a b c d g i j k,uS l,uS o] V R:=Ad Tryz.func274 h
theorem x275{a b:XI}{c:Int}{d:KB}{g i j:Sl}(h:Lp [] V λI n V1=>I n [] V1->∀m:LMP,Nx I n m->TB 276 #[uP a] V1 λk V2=>Ac k (RS V2 g 0 λl o p q=>TI 322 #[uP a,uP b,Rp l o p q] V2 λr x=>Br (r=0) (R (rT #[]) x) (N2 a (∃s,x.rowp a 13 1=some [uI s]/\Br (s=0) (TT 212 #[uP a,uP b,uL i] x λe w=>e=rT #[]/\N2 b (∃u,w.rowp b 7 1=some [uB u]/\Ac u (R (rT #[]) w) (N2 a (∃y,w.rowp a 13 1=some [uI y]/\Br (y=0) (m [] w) (R (rT #[]) w))))) (R (rT #[]) x)))) (R (rT #[]) V2)):TT 275 #[uP a,uP b,RN c d g i j] V R:=Ad Tryz.func275 h
theorem x276{a:XI}(h:N2 a (∃b,V.rowp a 13 1=some [uI b]/\Br (b=0) (N2 a (∃c,V.rowp a 11 1=some [uI c]/\N2 a (∃d,V.rowp a 10 1=some [uI d]/\Br (d<=c) (TI 211 #[uP a,uI 20] V λg V1=>R KQ V1) (N2 a (∃g,V.rowp a 11 1=some [uI g]/\IR (g+1)/\N2 a (Am (Aa a 11) 0 [uI (g+1)] V λV1=>R KX V1)))))) (R KQ V))):TT 276 #[uP a] V R:=Ad Tryz.func276 h
theorem x277{a b:XI}{c:Int}{d:KB}{g i j:Sl}(h:Br (c=1) (RS V g 0 λk l o p=>TI 322 #[uP a,uP b,Rp k l o p] V λq V1=>TT 323 #[uP a,uP b,uS d,uI q] V1 λe V2=>e=rT #[]/\R (rT #[]) V2) (Br (c=2) (TT 324 #[uP a,uP b,RN c d g i j] V λe V1=>e=rT #[]/\R (rT #[]) V1) (Br (c=3) (RS V g 0 λk l o p=>TI 322 #[uP a,uP b,Rp k l o p] V λq V1=>N2 a (∃r,V1.rowp a 13 1=some [uI r]/\Br (r=0) (Br (q=0) (TT 212 #[uP a,uP b,uL j] V1 λe V2=>e=rT #[]/\R (rT #[]) V2) (TT 212 #[uP a,uP b,uL i] V1 λe V2=>e=rT #[]/\R (rT #[]) V2)) (R (rT #[]) V1))) (Br (c=5) (Br ((g.n:Int)=1) (RS V g 0 λk l o p=>TI 322 #[uP a,uP b,Rp k l o p] V λq V1=>N2 b (Am (Aa b 8) 0 [uI q] V1 λV2=>N2 b (Am (Aa b 7) 0 [uB true] V2 λu=>R (rT #[]) u))) (N2 b (Am (Aa b 7) 0 [uB true] V λV1=>R (rT #[]) V1))) (Br (c=6) (RS V g 0 λk l o p=>TI 322 #[uP a,uP b,Rp k l o p] V λq V1=>R (rT #[]) V1) (R (rT #[]) V)))))):TT 277 #[uP a,uP b,RN c d g i j] V R:=Ad Tryz.func277 h
theorem x278{a:XI}{b:KB}{c:Int}(h:Br (b=(Ab [116,104,105,115])) (R (Id c) V) (Pi [uI 0,uI 0] V λd g u V1=>N2 a (¬(Aa a 0)=none/\∃i,V1.rowp a 2 1=some [uL i]/\Br (g<(i.n:Int)) (N2 a (¬(Aa a 0)=none/\∃j,V1.rowp a 2 1=some [uL j]/\Rn V1 j g (λk l=>Br (k=b) (N2 a (¬(Aa a 8)=none/\∃o,V1.rowp a 8 1=some [uL o]/\Ix o g (IY V1 o g λp=>R (Id p) V1))) (LT uI d g u V1)))) (R (Id 0) V1)))):TT 278 #[uP a,uS b,uI c] V R:=Ad Tryz.func278 h
abbrev w279_0(g:Sl)(V1:Mem)(a:XI)(i:Int)(R:RP):Prop:=RS V1 g 1 λr s u y=>TI 214 #[uP a,Rp r s u y,uI i] V1 λz V2=>R (Id z) V2
theorem x279{a:XI}{b c:Int}{d:KB}{g:Sl}{i:Int}(h:RS V g 0 λj k l o=>TI 214 #[uP a,Rp j k l o,uI i] V λp V1=>N2 a (∃q,V1.rowp a 11 1=some [uI q]/\Br (q=0) (Br (b=21) (Br (p=1) (w279_0 g V1 a i R) (RS V1 g 2 λr s u y=>TI 214 #[uP a,Rp r s u y,uI i] V1 λz V2=>R (Id z) V2)) (Br (((decide (p=1))==(decide (b=19)))=true) (w279_0 g V1 a i R) (R (Id p) V1))) (R (Id 0) V1))):TT 279 #[uP a,Rp b c d g,uI i] V R:=Ad Tryz.func279 h
theorem x280{a:XI}{b:Int}{c:KB}(h:Br (b=0) (TI 325 #[uP a,uI 17] V λd V1=>R (Id d) V1) (N2 a (¬(Aa a 8)=none/\∃d,V.rowp a 9 1=some [uL d]/\IR (b-1)/\Ix d (b-1) (∃g i,V.rowp d.p ((b-1).toNat*2) 2=some [uI g,uL i]/\N2 a (¬(Aa a 0)=none/\∃j,V.rowp a 1 1=some [uL j]/\Rm V j g (λk l=>TI 326 #[uL l,uS c] V λo V1=>Ix i o (IY V1 i o λp=>R (Id p) V1))))))):TT 280 #[uP a,uI b,uS c] V R:=Ad Tryz.func280 h
theorem x281{a:XI}{b c:Int}(h:Br (c=0) (N2 a (¬(Aa a 0)=none/\∃d,V.rowp a 4 1=some [uL d]/\Ry V d b (λg i j k l o p=>R (Id j) V))) (Pi [uI 0,uI 0] V λd g w V1=>N2 a (∃i,V1.rowp a 10 1=some [uL i]/\Br (g<(i.n:Int)) (N2 a (∃j,V1.rowp a 10 1=some [uL j]/\Si V1 j g (λk l o p=>Br (k=b) (N2 a (∃q,V1.rowp a 10 1=some [uL q]/\Si V1 q g (λr s u y=>Br (s=c) (N2 a (∃z,V1.rowp a 10 1=some [uL z]/\Si V1 z g (λA B C D=>Ac D (N2 a (∃F,V1.rowp a 10 1=some [uL F]/\Si V1 F g (λG H L M=>R (Id L) V1))) (TI 325 #[uP a,uI 16] V1 λF V2=>R (Id F) V2)))) (LT uI d g w V1)))) (LT uI d g w V1)))) (N2 a (∃j,V1.rowp a 10 1=some [uL j]/\N2 a (∃k,V1.rowp a 10 1=some [uL k]/\Af [uI b,uI c,uI 0,uB false] 389 V1 λl V2=>Ap 80 84 297 (uL k) (.slice (Aa l 0) 1 1) V2 λo J=>N2 a (Am (Aa a 10) 0 [uL o] J λx=>N2 a (¬(Aa a 0)=none/\∃p,x.rowp a 4 1=some [uL p]/\Ry x p b (λq r s u y z A=>TI 214 #[uP a,Rp u y z A,uI c] x λB m=>N2 a (∃C,m.rowp a 10 1=some [uL C]/\Ix C (j.n:Int) (¬(Aa C.p ((j.n:Int).toNat*4))=none/\Am (Aa (Aa C.p ((j.n:Int).toNat*4)) 2) 0 [uI B] m λe=>N2 a (∃D,e.rowp a 10 1=some [uL D]/\Ix D (j.n:Int) (¬(Aa D.p ((j.n:Int).toNat*4))=none/\Am (Aa (Aa D.p ((j.n:Int).toNat*4)) 3) 0 [uB true] e λN=>R (Id B) N))))))))))))):TT 281 #[uP a,uI b,uI c] V R:=Ad Tryz.func281 h
theorem x282{a:KB}{b c d g i j k:Sl}{l:KB}(h:Pi [uI 0,uI 0] V λo p w V1=>Br (p<(g.n:Int)) (Ry V1 g p (λq r s u y z A=>Br (q=l) (R (Id p) V1) (LT uI o p w V1))) (R (Id (-1)) V1)):TT 282 #[uD a b c d g i j k,uS l] V R:=Ad Tryz.func282 h
theorem x283{a:XI}{b:Int}(h:Br (b<(-1099511627776)) (TI 325 #[uP a,uI 5] V λc V1=>R (Id c) V1) (Br (1099511627776<b) (TI 325 #[uP a,uI 5] V λc V1=>R (Id c) V1) (R (Id b) V))):TT 283 #[uP a,uI b] V R:=Ad Tryz.func283 h
theorem x284{a:Int}(h:Pi [uI a,uI 0] V λb c k V1=>Br (1<b) (¬(2:Int)=(0:Int)/\IR (c+1)/\k [uI (xW .i64 ((b).tdiv (2:Int))),uI (c+1)] V1) (R (Id c) V1)):TT 284 #[uI a] V R:=Ad Tryz.func284 h
theorem x285{a:XI}{b c d:Int}(h:Br (b=9) (IR (c+d)/\TI 283 #[uP a,uI (c+d)] V λg V1=>R (Id g) V1) (Br (b=10) (IR (c-d)/\TI 283 #[uP a,uI (c-d)] V λg V1=>R (Id g) V1) (Br (b=11) (TI 327 #[uP a,uI c,uI d] V λg V1=>R (Id g) V1) (Br (b=14) (TI 328 #[uB (decide (c=d))] V λg V1=>R (Id g) V1) (Br (b=15) (TI 328 #[uB (!(decide (c=d)))] V λg V1=>R (Id g) V1) (Br (b=16) (TI 328 #[uB (decide (c<d))] V λg V1=>R (Id g) V1) (Br (b=17) (TI 328 #[uB (decide (c<=d))] V λg V1=>R (Id g) V1) (Br (b=22) (Br (c<d) (R (Id d) V) (R (Id c) V)) (Br (b=23) (Br (d<c) (R (Id d) V) (R (Id c) V)) (Br (d=0) (TI 325 #[uP a,uI 18] V λg V1=>R (Id g) V1) (Br (b=12) (¬d=0/\R (rV (uI (xW .i64 ((c).tdiv d)))) V) (¬d=0/\R (rV (uI ((c).tmod d))) V)))))))))))):TT 285 #[uP a,uI b,uI c,uI d] V R:=Ad Tryz.func285 h
theorem x286{a:Sl}{b:Value}(h:Lp [uI 0,uI 0] V λI n V1=>∀c d,I n [uI c,uI d] V1->∀w:LMP,Nx I n w->Br (d<(a.n:Int)) (Ix a d (∃g i j k l,V1.rowp a.p (d.toNat*5) 5=some [uS g,uI i,uI j,uS k,uL l]/\∃f first u,K.cast .f b=.func (.func f) first u/\CO f/\TT f (first++#[uA #[uS g,uI i,uI j,uS k,uL l]]++u) V1 λe V2=>∃o,e=rV (uB o)/\Br (o=true) (R (rV (uI d)) V2) (IR (d+1)/\w [uI c,uI (d+1)] V2))) (R (rV (uI (-1))) V1)):TT 286 #[uL a,K.cast .f b] V R:=Cp Tryz.func286 [] [] false [uL a,b] (by kernel_rfl) (by kernel_rfl) h
theorem x287{a:Int}{b:KB}{c d g:Sl}(h:Br (a=1) (TB 47 #[uS b] V λi V1=>Ac i (Br (a=3) (Br (a=1) (R (rV (uB (decide ((c.n:Int)=1)))) V1) (Br (a=3) (R (rV (uB (decide ((c.n:Int)=1)))) V1) (Br (a=4) (R (rV (uB (decide ((c.n:Int)=1)))) V1) (Br (a=2) (R (rV (uB (decide ((c.n:Int)=2)))) V1) (Br (a=5) (R (rV (uB (decide ((c.n:Int)<=1)))) V1) (Br (a=6) (Br ((c.n:Int)=1) (Sd V1 c 0 λj k l o=>R (EQ (decide (j=7))) V1) (R KQ V1)) (R KQ V1))))))) (Br (0<(g.n:Int)) (R KQ V1) (Br (a=4) (Br (a=1) (R (rV (uB (decide ((c.n:Int)=1)))) V1) (Br (a=3) (R (rV (uB (decide ((c.n:Int)=1)))) V1) (Br (a=4) (R (rV (uB (decide ((c.n:Int)=1)))) V1) (Br (a=2) (R (rV (uB (decide ((c.n:Int)=2)))) V1) (Br (a=5) (R (rV (uB (decide ((c.n:Int)<=1)))) V1) (Br (a=6) (Br ((c.n:Int)=1) (Sd V1 c 0 λj k l o=>R (EQ (decide (j=7))) V1) (R KQ V1)) (R KQ V1))))))) (Br (0<(d.n:Int)) (R KQ V1) (Br (a=1) (R (rV (uB (decide ((c.n:Int)=1)))) V1) (Br (a=3) (R (rV (uB (decide ((c.n:Int)=1)))) V1) (Br (a=4) (R (rV (uB (decide ((c.n:Int)=1)))) V1) (Br (a=2) (R (rV (uB (decide ((c.n:Int)=2)))) V1) (Br (a=5) (R (rV (uB (decide ((c.n:Int)<=1)))) V1) (Br (a=6) (Br ((c.n:Int)=1) (Sd V1 c 0 λj k l o=>R (EQ (decide (j=7))) V1) (R KQ V1)) (R KQ V1))))))))))) (R KQ V1)) (Br (a=2) (TB 47 #[uS b] V λi V1=>Ac i (Br (a=3) (Br (a=1) (R (rV (uB (decide ((c.n:Int)=1)))) V1) (Br (a=3) (R (rV (uB (decide ((c.n:Int)=1)))) V1) (Br (a=4) (R (rV (uB (decide ((c.n:Int)=1)))) V1) (Br (a=2) (R (rV (uB (decide ((c.n:Int)=2)))) V1) (Br (a=5) (R (rV (uB (decide ((c.n:Int)<=1)))) V1) (Br (a=6) (Br ((c.n:Int)=1) (Sd V1 c 0 λj k l o=>R (EQ (decide (j=7))) V1) (R KQ V1)) (R KQ V1))))))) (Br (0<(g.n:Int)) (R KQ V1) (Br (a=4) (Br (a=1) (R (rV (uB (decide ((c.n:Int)=1)))) V1) (Br (a=3) (R (rV (uB (decide ((c.n:Int)=1)))) V1) (Br (a=4) (R (rV (uB (decide ((c.n:Int)=1)))) V1) (Br (a=2) (R (rV (uB (decide ((c.n:Int)=2)))) V1) (Br (a=5) (R (rV (uB (decide ((c.n:Int)<=1)))) V1) (Br (a=6) (Br ((c.n:Int)=1) (Sd V1 c 0 λj k l o=>R (EQ (decide (j=7))) V1) (R KQ V1)) (R KQ V1))))))) (Br (0<(d.n:Int)) (R KQ V1) (Br (a=1) (R (rV (uB (decide ((c.n:Int)=1)))) V1) (Br (a=3) (R (rV (uB (decide ((c.n:Int)=1)))) V1) (Br (a=4) (R (rV (uB (decide ((c.n:Int)=1)))) V1) (Br (a=2) (R (rV (uB (decide ((c.n:Int)=2)))) V1) (Br (a=5) (R (rV (uB (decide ((c.n:Int)<=1)))) V1) (Br (a=6) (Br ((c.n:Int)=1) (Sd V1 c 0 λj k l o=>R (EQ (decide (j=7))) V1) (R KQ V1)) (R KQ V1))))))))))) (R KQ V1)) (Br (b=(Ab [])) (Br (a=3) (Br (a=1) (R (rV (uB (decide ((c.n:Int)=1)))) V) (Br (a=3) (R (rV (uB (decide ((c.n:Int)=1)))) V) (Br (a=4) (R (rV (uB (decide ((c.n:Int)=1)))) V) (Br (a=2) (R (rV (uB (decide ((c.n:Int)=2)))) V) (Br (a=5) (R (rV (uB (decide ((c.n:Int)<=1)))) V) (Br (a=6) (Br ((c.n:Int)=1) (Sd V c 0 λi j k l=>R (EQ (decide (i=7))) V) (R KQ V)) (R KQ V))))))) (Br (0<(g.n:Int)) (R KQ V) (Br (a=4) (Br (a=1) (R (rV (uB (decide ((c.n:Int)=1)))) V) (Br (a=3) (R (rV (uB (decide ((c.n:Int)=1)))) V) (Br (a=4) (R (rV (uB (decide ((c.n:Int)=1)))) V) (Br (a=2) (R (rV (uB (decide ((c.n:Int)=2)))) V) (Br (a=5) (R (rV (uB (decide ((c.n:Int)<=1)))) V) (Br (a=6) (Br ((c.n:Int)=1) (Sd V c 0 λi j k l=>R (EQ (decide (i=7))) V) (R KQ V)) (R KQ V))))))) (Br (0<(d.n:Int)) (R KQ V) (Br (a=1) (R (rV (uB (decide ((c.n:Int)=1)))) V) (Br (a=3) (R (rV (uB (decide ((c.n:Int)=1)))) V) (Br (a=4) (R (rV (uB (decide ((c.n:Int)=1)))) V) (Br (a=2) (R (rV (uB (decide ((c.n:Int)=2)))) V) (Br (a=5) (R (rV (uB (decide ((c.n:Int)<=1)))) V) (Br (a=6) (Br ((c.n:Int)=1) (Sd V c 0 λi j k l=>R (EQ (decide (i=7))) V) (R KQ V)) (R KQ V))))))))))) (R KQ V)))):TT 287 #[RN a b c d g] V R:=Ad Tryz.func287 h
theorem x288{a b:Int}{c:KB}{d:Sl}(h:TB 50 #[Rp a b c d] V λg V1=>R (EQ (!g)) V1):TT 288 #[Rp a b c d] V R:=Ad Tryz.func288 h
theorem x289{a:KB}{b:Sl}{c d g:XI}(h:∃i,K.f.ok i/\V.rowp c ((0:Int).toNat*1) 1=some [i]/\∃j,K.f.ok j/\V.rowp c ((0:Int).toNat*1) 1=some [j]/\∃k,V.rowp d ((0:Int).toNat*1) 1=some [uL k]/\∃l,V.rowp g ((0:Int).toNat*1) 1=some [uI l]/\RZ V k l (λo p=>∃f first u,K.cast .f i=.func (.func f) first u/\CO f/\TT f (first++#[uA #[uS a,uL b]]++u) V λe V1=>∃q,e=rV (uS q)/\V1.rowp (Aa k.p (l.toNat*2)) 0 2=some [uS o,uL p]/\Ix k l (V1.rowp g 0 1=some [uI l]/\V1.rowp d 0 1=some [uL k]/\V1.rowp c 0 1=some [K.cast .f j]/\∃f first u,K.cast .f j=.func (.func f) first u/\CO f/\TT f (first++#[uA #[uS o,uL p]]++u) V1 λe V2=>∃r,e=rV (uS r)/\R (EQ (decide (q=r))) V2))):TT 289 #[uA #[uS a,uL b],uP c,uP d,uP g] V R:=Ad Tryz.func289 h
theorem x290{a b:KB}{c:XI}(h:¬c=none/\∃d,V.rowp c ((0:Int).toNat*1) 1=some [uS d]/\R (EQ (decide (a=d))) V):TT 290 #[uA #[uS a,uS b],uP c] V R:=Ad Tryz.func290 h
theorem x291{a b:KB}{c d g:XI}(h:∃i,K.f.ok i/\V.rowp c ((0:Int).toNat*1) 1=some [i]/\∃j,K.f.ok j/\V.rowp c ((0:Int).toNat*1) 1=some [j]/\∃k,V.rowp d ((0:Int).toNat*1) 1=some [uL k]/\∃l,V.rowp g ((0:Int).toNat*1) 1=some [uI l]/\R9 V k l (λo p=>∃f first u,K.cast .f i=.func (.func f) first u/\CO f/\TT f (first++#[uA #[uS a,uS b]]++u) V λe V1=>∃q,e=rV (uS q)/\V1.rowp (Aa k.p (l.toNat*2)) 0 2=some [uS o,uS p]/\Ix k l (V1.rowp g 0 1=some [uI l]/\V1.rowp d 0 1=some [uL k]/\V1.rowp c 0 1=some [K.cast .f j]/\∃f first u,K.cast .f j=.func (.func f) first u/\CO f/\TT f (first++#[uA #[uS o,uS p]]++u) V1 λe V2=>∃r,e=rV (uS r)/\R (EQ (decide (q=r))) V2))):TT 291 #[uA #[uS a,uS b],uP c,uP d,uP g] V R:=Ad Tryz.func291 h
theorem x292{a:KB}{b:Sl}{c:KB}{d g:Sl}{i j k:XI}(h:∃l,K.f.ok l/\V.rowp i ((0:Int).toNat*1) 1=some [l]/\∃o,K.f.ok o/\V.rowp i ((0:Int).toNat*1) 1=some [o]/\∃p,V.rowp j ((0:Int).toNat*1) 1=some [uL p]/\∃q,V.rowp k ((0:Int).toNat*1) 1=some [uI q]/\Rz V p q (λr s u y z=>∃f first w,K.cast .f l=.func (.func f) first w/\CO f/\TT f (first++#[uA #[uS a,uL b,uS c,uL d,uL g]]++w) V λe V1=>∃A,e=rV (uS A)/\V1.rowp (Aa p.p (q.toNat*5)) 0 5=some [uS r,uL s,uS u,uL y,uL z]/\Ix p q (V1.rowp k 0 1=some [uI q]/\V1.rowp j 0 1=some [uL p]/\V1.rowp i 0 1=some [K.cast .f o]/\∃f first w,K.cast .f o=.func (.func f) first w/\CO f/\TT f (first++#[uA #[uS r,uL s,uS u,uL y,uL z]]++w) V1 λe V2=>∃B,e=rV (uS B)/\R (EQ (decide (A=B))) V2))):TT 292 #[uA #[uS a,uL b,uS c,uL d,uL g],uP i,uP j,uP k] V R:=Ad Tryz.func292 h
theorem x293{a:Sl}{b:Value}(h:TI 311 #[uL a,K.cast .f b] V λc V1=>R (rV (uB (decide (0<=c)))) V1):TT 293 #[uL a,K.cast .f b] V R:=Cp Tryz.func293 [] [] false [uL a,b] (by kernel_rfl) (by kernel_rfl) h
theorem x294{a b:KB}{c d g:Int}{i:KB}{j:Sl}{k l o:XI}(h:∃p,K.f.ok p/\V.rowp k ((0:Int).toNat*1) 1=some [p]/\∃q,K.f.ok q/\V.rowp k ((0:Int).toNat*1) 1=some [q]/\∃r,V.rowp l ((0:Int).toNat*1) 1=some [uL r]/\∃s,V.rowp o ((0:Int).toNat*1) 1=some [uI s]/\RU V r s (λu y z A B C D=>∃f first w,K.cast .f p=.func (.func f) first w/\CO f/\TT f (first++#[uA #[uS a,uS b,uI c,uI d,uI g,uS i,uL j]]++w) V λe V1=>∃F,e=rV (uS F)/\V1.rowp (Aa r.p (s.toNat*7)) 0 7=some [uS u,uS y,uI z,uI A,uI B,uS C,uL D]/\Ix r s (V1.rowp o 0 1=some [uI s]/\V1.rowp l 0 1=some [uL r]/\V1.rowp k 0 1=some [K.cast .f q]/\∃f first w,K.cast .f q=.func (.func f) first w/\CO f/\TT f (first++#[uA #[uS u,uS y,uI z,uI A,uI B,uS C,uL D]]++w) V1 λe V2=>∃G,e=rV (uS G)/\R (EQ (decide (F=G))) V2))):TT 294 #[uA #[uS a,uS b,uI c,uI d,uI g,uS i,uL j],uP k,uP l,uP o] V R:=Ad Tryz.func294 h
theorem x295{a:Sl}{b:Value}(h:TI 40 #[uL a,K.cast .f b] V λc V1=>R (rV (uB (decide (0<=c)))) V1):TT 295 #[uL a,K.cast .f b] V R:=Cp Tryz.func295 [] [] false [uL a,b] (by kernel_rfl) (by kernel_rfl) h
theorem x296{a b:KB}{c d:Int}{g:KB}{i:Sl}{j k l:XI}(h:∃o,K.f.ok o/\V.rowp j ((0:Int).toNat*1) 1=some [o]/\∃p,K.f.ok p/\V.rowp j ((0:Int).toNat*1) 1=some [p]/\∃q,V.rowp k ((0:Int).toNat*1) 1=some [uL q]/\∃r,V.rowp l ((0:Int).toNat*1) 1=some [uI r]/\RF V q r (λs u y z A B=>∃f first w,K.cast .f o=.func (.func f) first w/\CO f/\TT f (first++#[uA #[uS a,uS b,uI c,uI d,uS g,uL i]]++w) V λe V1=>∃C,e=rV (uS C)/\V1.rowp (Aa q.p (r.toNat*6)) 0 6=some [uS s,uS u,uI y,uI z,uS A,uL B]/\Ix q r (V1.rowp l 0 1=some [uI r]/\V1.rowp k 0 1=some [uL q]/\V1.rowp j 0 1=some [K.cast .f p]/\∃f first w,K.cast .f p=.func (.func f) first w/\CO f/\TT f (first++#[uA #[uS s,uS u,uI y,uI z,uS A,uL B]]++w) V1 λe V2=>∃D,e=rV (uS D)/\R (EQ (decide (C=D))) V2))):TT 296 #[uA #[uS a,uS b,uI c,uI d,uS g,uL i],uP j,uP k,uP l] V R:=Ad Tryz.func296 h
theorem x297{a:KB}{b c:Int}{d:KB}{g:Sl}{i j k:XI}(h:∃l,K.f.ok l/\V.rowp i ((0:Int).toNat*1) 1=some [l]/\∃o,K.f.ok o/\V.rowp i ((0:Int).toNat*1) 1=some [o]/\∃p,V.rowp j ((0:Int).toNat*1) 1=some [uL p]/\∃q,V.rowp k ((0:Int).toNat*1) 1=some [uI q]/\R8 V p q (λr s u y z=>∃f first w,K.cast .f l=.func (.func f) first w/\CO f/\TT f (first++#[uA #[uS a,uI b,uI c,uS d,uL g]]++w) V λe V1=>∃A,e=rV (uS A)/\V1.rowp (Aa p.p (q.toNat*5)) 0 5=some [uS r,uI s,uI u,uS y,uL z]/\Ix p q (V1.rowp k 0 1=some [uI q]/\V1.rowp j 0 1=some [uL p]/\V1.rowp i 0 1=some [K.cast .f o]/\∃f first w,K.cast .f o=.func (.func f) first w/\CO f/\TT f (first++#[uA #[uS r,uI s,uI u,uS y,uL z]]++w) V1 λe V2=>∃B,e=rV (uS B)/\R (EQ (decide (A=B))) V2))):TT 297 #[uA #[uS a,uI b,uI c,uS d,uL g],uP i,uP j,uP k] V R:=Ad Tryz.func297 h
theorem x299{a:XI}{b:XU}{c:Bool}{d:Int}{g:KB}{i j k:Sl}{l:KB}(h:Br (d=6) (RS V i 0 λo p q r=>RV 330 #[uA #[uP a,uM b,uB c],Rp o p q r] V λs u V1=>R (Id u) V1) (Se [uI 0,z0,uI 0] V λo p q m V1=>Br (q<(i.n:Int)) (RS V1 i q (λr s u y=>RV 300 #[uA #[uP a,uM b,uB c],Rp r s u y] V1 λz A V2=>Br (A=0) (Af [uS z] 9 V2 λB w=>Ap 48 50 37 (uL p) (.slice (Aa B 0) 1 1) w λC H=>Ru uI uL o C q m H) (R (Id A) V2))) (Br (d=1) (BE xV 321 (uM b) (uS g) true V1 λx=>∃r s,x=.tuple #[uS r,uB s]/\Ac s (Or V1 p 0 λu=>TB 331 #[uP a,uS u,uS r] V1 λy V2=>Ac y (R (Id 0) V2) (R (Id 11) V2)) (R (Id 9) V1)) (Br (d=2) (Or V1 p 0 λr=>RV 332 #[uP a,uS r,uS g] V1 λs u V2=>Br (u=0) (Or V2 p 1 λy=>TB 331 #[uP a,uS y,uS s] V2 λz w=>Ac z (R (Id 0) w) (R (Id 11) w)) (R (Id u) V2)) (Br (d=3) (Or V1 p 0 λr=>Br (r=RG) (R (Id 0) V1) (R (Id 11) V1)) (Br (d=4) (Or V1 p 0 λr=>Br (r=RG) (R (Id 0) V1) (R (Id 11) V1)) (Br (d=5) (Br ((p.n:Int)=0) (Br (l=(Ab [])) (R (Id 0) V1) (R (Id 11) V1)) (Br (l=(Ab [])) (R (Id 11) V1) (Or V1 p 0 λr=>TB 331 #[uP a,uS r,uS l] V1 λs V2=>Ac s (R (Id 0) V2) (R (Id 11) V2)))) (R (Id 0) V1)))))))):TT 299 #[uA #[uP a,uM b,uB c],RN d g i j k,uS l] V R:=Ad Tryz.func299 h
theorem x300{a:XI}{b:XU}{c:Bool}{d g:Int}{i:KB}{j:Sl}(h:Br (d=7) (RV 330 #[uA #[uP a,uM b,uB c],Rp d g i j] V λk l V1=>Br (l=0) (Br (k=(Ab [])) (R (rT #[uS (Ab []),uI 11]) V1) (R (rT #[uS k,uI l]) V1)) (R (rT #[uS k,uI l]) V1)) (Lp [uS (Ab []),uI 0,z0,uI 0] V λI n V1=>∀k l o p,I n [uS k,uI l,uL o,uI p] V1->∀w:LMP,Nx I n w->Br (p<(j.n:Int)) (RS V1 j p (λq r s u=>RV 300 #[uA #[uP a,uM b,uB c],Rp q r s u] V1 λy z V2=>Br (z=0) (Af [uS y] 9 V2 λA x=>Ap 46 48 37 (uL o) (.slice (Aa A 0) 1 1) x λB m=>IR (p+1)/\w [uS k,uI l,uL B,uI (p+1)] m) (R (rT #[uS (Ab []),uI z]) V2))) (RV 333 #[uA #[uP a,uM b,uB c],Rp d g i j,uL o] V1 λq r V2=>R (rT #[uS q,uI r]) V2))):TT 300 #[uA #[uP a,uM b,uB c],Rp d g i j] V R:=Ad Tryz.func300 h
theorem x302{a:XI}{b:KB}(h:N2 a (¬(Aa a 0)=none/\∃c,V.rowp a 1 1=some [uL c]/\Af [uS b] 9 V λd V1=>TI 220 #[uL c,.func (.func 336) #[] #[uP (Aa d 0)]] V1 λg V2=>R (Id g) V2)):TT 302 #[uP a,uS b] V R:=Ad Tryz.func302 h
theorem x303{a:XI}{b:Int}(h:Br (1099511627776<b) (TT 140 #[uP a,uI 5] V λe V1=>(e=rT #[]/\R (Id b) V1)∨∃k,e=.panicked k/\R e V1) (Br (b<(-1099511627776)) (TT 140 #[uP a,uI 5] V λe V1=>(e=rT #[]/\R (Id b) V1)∨∃k,e=.panicked k/\R e V1) (R (Id b) V))):TT 303 #[uP a,uI b] V R:=Ad Tryz.func303 h
theorem x304{a b:XI}{c d:Int}{g:KB}{i:Sl}(h:Br (c=4) (N2 b (∃j,V.rowp b ((0:Int).toNat*1) 1=some [uL j]/\TI 252 #[uL j,uS g] V λk V1=>Br (0<=k) (N2 b (∃l,V1.rowp b ((0:Int).toNat*1) 1=some [uL l]/\Rn V1 l k (λo p=>R (rV (uS p)) V1))) (N2 a (¬(Aa a 0)=none/\∃l,V1.rowp a 2 1=some [uL l]/\N2 a (¬(Aa a 0)=none/\∃o,V1.rowp a 2 1=some [uL o]/\TI 252 #[uL o,uS g] V1 λp V2=>V2.rowp (Aa a 2) 0 1=some [uL l]/\¬(Aa a 0)=none/\N2 a (Rn V2 l p (λq r=>R (rV (uS r)) V2))))))) (Br (c=5) (N2 a (¬(Aa a 0)=none/\∃j,V.rowp a 1 1=some [uL j]/\RS V i 0 λk l o p=>TS 304 #[uP a,uP b,Rp k l o p] V λq V1=>V1.rowp (Aa a 1) 0 1=some [uL j]/\¬(Aa a 0)=none/\N2 a (TI 302 #[uP a,uS q] V1 λr V2=>V2.rowp (Aa a 1) 0 1=some [uL j]/\¬(Aa a 0)=none/\N2 a (RZ V2 j r (λs u=>TI 252 #[uL u,uS g] V2 λy w=>Rn w u y (λz A=>R (rV (uS A)) w)))))) (Br (c=6) (R (rV (uS g)) V) (Br (c=7) (N2 a (¬(Aa a 0)=none/\∃j,V.rowp a 3 1=some [uL j]/\N2 a (∃k l o p q r s u,V.rowp a ((0:Int).toNat*1) 8=some [uS k,uL l,uL o,uL p,uL q,uL r,uL s,uL u]/\TI 138 #[uD k l o p q r s u,uS g] V λy V1=>V1.rowp (Aa a 3) 0 1=some [uL j]/\¬(Aa a 0)=none/\N2 a (Fr V1 j y (λz A B C D=>R (rV (uS B)) V1))))) (Br (c=21) (RS V i 1 λj k l o=>TS 304 #[uP a,uP b,Rp j k l o] V λp V1=>Br (p=(Ab [110,105,108])) (RS V1 i 2 λq r s u=>TS 304 #[uP a,uP b,Rp q r s u] V1 λy V2=>R (rV (uS y)) V2) (R (rV (uS p)) V1)) (Br (c=3) (R (rV (uS (Ab [110,105,108]))) V) (Br (c=2) (R (rV (uS RG)) V) (Br (c=18) (R (rV (uS RG)) V) (Br (c=19) (R (rV (uS RG)) V) (Br (c=20) (R (rV (uS RG)) V) (Br (c=14) (R (rV (uS RG)) V) (Br (c=15) (R (rV (uS RG)) V) (Br (c=16) (R (rV (uS RG)) V) (Br (c=17) (R (rV (uS RG)) V) (R (rV (uS RH)) V))))))))))))))):TT 304 #[uP a,uP b,Rp c d g i] V R:=Ad Tryz.func304 h
theorem x305{a:Bool}(h:Ac a (R (Id 1) V) (R (Id 0) V)):TT 305 #[uB a] V R:=Ad Tryz.func305 h
abbrev w306_0(d:Int)(a:XI)(V:Mem)(b:Int)(R:RP)(c:Int):Prop:=Br (d=0) (TT 140 #[uP a,uI 18] V λe V1=>(e=rT #[]/\Br (b=12) (¬d=0/\R (rV (uI (xW .i64 ((c).tdiv d)))) V1) (¬d=0/\R (rV (uI ((c).tmod d))) V1))∨∃h,e=.panicked h/\R e V1) (Br (b=12) (¬d=0/\R (rV (uI (xW .i64 ((c).tdiv d)))) V) (¬d=0/\R (rV (uI ((c).tmod d))) V))
theorem x306{a:XI}{b c d:Int}(h:Br (b=9) (IR (c+d)/\TT 303 #[uP a,uI (c+d)] V λe V1=>(∃g,e=rV (uI g)/\R (Id g) V1)∨∃k,e=.panicked k/\R e V1) (Br (b=10) (IR (c-d)/\TT 303 #[uP a,uI (c-d)] V λe V1=>(∃g,e=rV (uI g)/\R (Id g) V1)∨∃k,e=.panicked k/\R e V1) (Br (b=11) (Br (c=0) (IR (c*d)/\R (Id (c*d)) V) (TI 337 #[uI d] V λg V1=>TI 337 #[uI c] V1 λi V2=>¬i=0/\Br ((xW .i64 (((1099511627776:Int)).tdiv i))<g) (TT 140 #[uP a,uI 5] V2 λe u=>(e=rT #[]/\IR (c*d)/\R (Id (c*d)) u)∨∃k,e=.panicked k/\R e u) (IR (c*d)/\R (Id (c*d)) V2))) (Br (b=12) (w306_0 d a V b R c) (Br (b=13) (w306_0 d a V b R c) (Br (b=22) (GenK xV (.call {callee:=(.builtin .max),args:=#[(.tmp 58),(.tmp 59)],argTypes:=#[3,3]}) 3 (gv [(58,uI c),(59,uI d)]) V λx V1=>∃g,x=uI g/\R (Id g) V1) (GenK xV (.call {callee:=(.builtin .min),args:=#[(.tmp 61),(.tmp 62)],argTypes:=#[3,3]}) 3 (gv [(61,uI c),(62,uI d)]) V λx V1=>∃g,x=uI g/\R (Id g) V1))))))):TT 306 #[uP a,uI b,uI c,uI d] V R:=Ad Tryz.func306 h
theorem x307{a b:KB}{c:XI}(h:∃d,V.rowp c ((0:Int).toNat*1) 1=some [uS d]/\R (EQ (decide (a=d))) V):TT 307 #[uA #[uS a,uS b],uP c] V R:=Ad Tryz.func307 h
theorem x308{a:XI}{b:Int}(h:N2 a (∃c,V.rowp a 11 1=some [uM c]/\BE xV 272 (uM c) (uI b) false V λx=>∃d,x=uI d/\Br (d=0) (N2 a (∃g,V.rowp a 10 1=some [uL g]/\Af [uI b] 3 V λi V1=>Ap 25 27 31 (uL g) (.slice (Aa i 0) 1 1) V1 λj V2=>N2 a (Am (Aa a 10) 0 [uL j] V2 λy=>N2 a (∃k,y.rowp a 11 1=some [uM k]/\N2 a (∃l,y.rowp a 10 1=some [uL l]/\Co xV 272 (uM k) (uI b) (uI (l.n:Int)) y λw=>N2 a (¬(Aa a 8)=none/\∃o,w.rowp a 9 1=some [uL o]/\IR (b-1)/\Ix o (b-1) (∃p q,w.rowp o.p ((b-1).toNat*2) 2=some [uI p,uL q]/\N2 a (¬(Aa a 0)=none/\∃r,w.rowp a 1 1=some [uL r]/\Rm w r p (λs u=>TT 256 #[uP a,uL u,uL q] w λe m=>e=rT #[]/\R (rT #[]) m))))))))) (N2 a (∃g,V.rowp a 12 1=some [uI g]/\Br (g=0) (N2 a (Am (Aa a 12) 0 [uI b] V λV1=>R (rT #[]) V1)) (R (rT #[]) V))))):TT 308 #[uP a,uI b] V R:=Ad Tryz.func308 h
theorem x309{a b:KB}{c:XI}(h:∃d,V.rowp c ((0:Int).toNat*1) 1=some [uS d]/\R (EQ (decide (a=d))) V):TT 309 #[uA #[uS a,uS b],uP c] V R:=Ad Tryz.func309 h
theorem x310{a:KB}{b:Sl}{c:KB}(h:Af [uS c] 9 V λd V1=>TI 76 #[uL b,.func (.func 339) #[] #[uP (Aa d 0)]] V1 λg V2=>RW 338 #[uI g] V2 λi j k=>R (rT #[uI i,uI j]) k):TT 310 #[uA #[uS a,uL b],uS c] V R:=Ad Tryz.func310 h
theorem x311{a:Sl}{b:Value}(h:Lp [uI 0,uI 0] V λI n V1=>∀c d,I n [uI c,uI d] V1->∀w:LMP,Nx I n w->Br (d<(a.n:Int)) (Ix a d (∃g i j k l o p,V1.rowp a.p (d.toNat*7) 7=some [uS g,uS i,uI j,uI k,uI l,uS o,uL p]/\∃f first u,K.cast .f b=.func (.func f) first u/\CO f/\TT f (first++#[uA #[uS g,uS i,uI j,uI k,uI l,uS o,uL p]]++u) V1 λe V2=>∃q,e=rV (uB q)/\Br (q=true) (R (rV (uI d)) V2) (IR (d+1)/\w [uI c,uI (d+1)] V2))) (R (rV (uI (-1))) V1)):TT 311 #[uL a,K.cast .f b] V R:=Cp Tryz.func311 [] [] false [uL a,b] (by kernel_rfl) (by kernel_rfl) h
theorem x312{a b:KB}{c d g:Int}{i:KB}{j:Sl}{k:XI}(h:∃l,V.rowp k ((0:Int).toNat*1) 1=some [uS l]/\R (EQ (decide (a=l))) V):TT 312 #[uA #[uS a,uS b,uI c,uI d,uI g,uS i,uL j],uP k] V R:=Ad Tryz.func312 h
abbrev BU:KB:=
 Ab [0,1,2,2,3,3,3,3,4,4,4,4,4,4,4,4,5,5,5,5,5,5,5,5,5,5,5,5,5,5,5,5,6,6,6,6,6,6,6,6,6,6,6,6,6,6,6,6,6,6,6,6,6,6,6,6,6,6,6,6,6,6,6,6,7,7,7,7,7,7,7,7,7,7,7,7,7,7,7,7,7,7,7,7,7,7,7,7,7,7,7,7,7,7,7,7,7,7,7,7,7,7,7,7,7,7,7,7,7,7,7,7,7,7,7,7,7,7,7,7,7,7,7,7,7,7,7,7,8,8,8,8,8,8,8,8,8,8,8,8,8,8,8,8,8,8,8,8,8,8,8,8,8,8,8,8,8,8,8,8,8,8,8,8,8,8,8,8,8,8,8,8,8,8,8,8,8,8,8,8,8,8,8,8,8,8,8,8,8,8,8,8,8,8,8,8,8,8,8,8,8,8,8,8,8,8,8,8,8,8,8,8,8,8,8,8,8,8,8,8,8,8,8,8,8,8,8,8,8,8,8,8,8,8,8,8,8,8,8,8,8,8,8,8,8,8,8,8,8,8,8,8,8,8,8,8]
theorem x314{a:Int}(h:Br (4294967296<=a) (GenK xV (.binOp .shr 383 (.tmp 5) (.const (.int .u64 32)) 255) 383 (gv [(5,.int .u64 a)]) V λx V1=>∃b,x=.int .u64 b/\Br (65536<=b) (GenK xV (.binOp .shr 383 (.tmp 9) (.const (.int .u64 16)) 255) 383 (gv [(9,.int .u64 b)]) V1 λx V2=>∃c,x=.int .u64 c/\IR ((32:Int)+(16:Int))/\Br (256<=c) (GenK xV (.binOp .shr 383 (.tmp 15) (.const (.int .u64 8)) 255) 383 (gv [(15,.int .u64 c)]) V2 λx k=>∃d,x=.int .u64 d/\IR (((32:Int)+(16:Int))+8)/\(0<=(xW .u8 d)/\(xW .u8 d)<((BU).size:Int))/\IR (A7 (BU) (xW .u8 d))/\IR ((((32:Int)+(16:Int))+8)+(A7 (BU) (xW .u8 d)))/\R (rV (uI ((((32:Int)+(16:Int))+8)+(A7 (BU) (xW .u8 d))))) k) ((0<=(xW .u8 c)/\(xW .u8 c)<((BU).size:Int))/\IR (A7 (BU) (xW .u8 c))/\IR (((32:Int)+(16:Int))+(A7 (BU) (xW .u8 c)))/\R (rV (uI (((32:Int)+(16:Int))+(A7 (BU) (xW .u8 c))))) V2)) (Br (256<=b) (GenK xV (.binOp .shr 383 (.tmp 15) (.const (.int .u64 8)) 255) 383 (gv [(15,.int .u64 b)]) V1 λx V2=>∃c,x=.int .u64 c/\IR ((32:Int)+(8:Int))/\(0<=(xW .u8 c)/\(xW .u8 c)<((BU).size:Int))/\IR (A7 (BU) (xW .u8 c))/\IR (((32:Int)+(8:Int))+(A7 (BU) (xW .u8 c)))/\R (rV (uI (((32:Int)+(8:Int))+(A7 (BU) (xW .u8 c))))) V2) ((0<=(xW .u8 b)/\(xW .u8 b)<((BU).size:Int))/\IR (A7 (BU) (xW .u8 b))/\IR (32+(A7 (BU) (xW .u8 b)))/\R (rV (uI (32+(A7 (BU) (xW .u8 b))))) V1))) (Br (65536<=a) (GenK xV (.binOp .shr 383 (.tmp 9) (.const (.int .u64 16)) 255) 383 (gv [(9,.int .u64 a)]) V λx V1=>∃b,x=.int .u64 b/\IR ((0:Int)+(16:Int))/\Br (256<=b) (GenK xV (.binOp .shr 383 (.tmp 15) (.const (.int .u64 8)) 255) 383 (gv [(15,.int .u64 b)]) V1 λx V2=>∃c,x=.int .u64 c/\IR (((0:Int)+(16:Int))+8)/\(0<=(xW .u8 c)/\(xW .u8 c)<((BU).size:Int))/\IR (A7 (BU) (xW .u8 c))/\IR ((((0:Int)+(16:Int))+8)+(A7 (BU) (xW .u8 c)))/\R (rV (uI ((((0:Int)+(16:Int))+8)+(A7 (BU) (xW .u8 c))))) V2) ((0<=(xW .u8 b)/\(xW .u8 b)<((BU).size:Int))/\IR (A7 (BU) (xW .u8 b))/\IR (((0:Int)+(16:Int))+(A7 (BU) (xW .u8 b)))/\R (rV (uI (((0:Int)+(16:Int))+(A7 (BU) (xW .u8 b))))) V1)) (Br (256<=a) (GenK xV (.binOp .shr 383 (.tmp 15) (.const (.int .u64 8)) 255) 383 (gv [(15,.int .u64 a)]) V λx V1=>∃b,x=.int .u64 b/\IR ((0:Int)+(8:Int))/\(0<=(xW .u8 b)/\(xW .u8 b)<((BU).size:Int))/\IR (A7 (BU) (xW .u8 b))/\IR (((0:Int)+(8:Int))+(A7 (BU) (xW .u8 b)))/\R (rV (uI (((0:Int)+(8:Int))+(A7 (BU) (xW .u8 b))))) V1) ((0<=(xW .u8 a)/\(xW .u8 a)<((BU).size:Int))/\IR (A7 (BU) (xW .u8 a))/\IR (0+(A7 (BU) (xW .u8 a)))/\R (rV (uI (0+(A7 (BU) (xW .u8 a))))) V)))):TT 314 #[.int .u64 a] V R:=Ad Tryz.func314 h
theorem x315{a b:Int}(h:TT 340 #[uI a] V λe V1=>∃c,e=rV (.int .u64 c)/\TT 340 #[uI b] V1 λe V2=>∃d,e=rV (.int .u64 d)/\TT 341 #[.int .u64 c,.int .u64 d] V2 λe k=>∃g i,e=rT #[.int .u64 g,.int .u64 i]/\Br (g=0) (Br (1099511627776<i) (GenK xV (.makeInterface 341 (.tmp 24)) 20 (gv [(24,uA #[uI 5])]) k λx u=>∃j,K.r.ok j/\x=j/\∃t x,K.cast .r j=.iface t x/\R (.panicked [{v:=.iface t x,recovered:=false}]) u) (IR (a*b)/\R (Id (a*b)) k)) (GenK xV (.makeInterface 341 (.tmp 24)) 20 (gv [(24,uA #[uI 5])]) k λx u=>∃j,K.r.ok j/\x=j/\∃t x,K.cast .r j=.iface t x/\R (.panicked [{v:=.iface t x,recovered:=false}]) u)):TT 315 #[uI a,uI b] V R:=Ad Tryz.func315 h
theorem x316{a:Bool}(h:Ac a (R (Id 1) V) (R (Id 0) V)):TT 316 #[uB a] V R:=Ad Tryz.func316 h
abbrev w317_0(a:Int)(R:RP)(V:Mem):Prop:=Br (a=6) (R (Id 0) V) (Br (a=5) (R (Id 1) V) (Br (a=8) (R (Id 1) V) (Br (a=18) (R (Id 1) V) (Br (a=24) (R (Id 1) V) (Br (a=7) (R (Id (-1)) V) (Br (a=21) (R (Id 3) V) (Br (9<=a) (Br (a<=23) (R (Id 2) V) (R (Id (-2)) V)) (R (Id (-2)) V))))))))
theorem x317{a:Int}(h:Br (1<=a) (Br (a<=4) (R (Id 0) V) (w317_0 a R V)) (w317_0 a R V)):TT 317 #[uI a] V R:=Ad Tryz.func317 h
theorem x318{a b:Int}{c:KB}{d:Sl}(h:Br (a=4) (Br (c=(Ab [116,104,105,115])) (R KX V) (TB 110 #[uS c] V λg V1=>R (EQ g) V1)) (Br (a=5) (TB 110 #[uS c] V λg V1=>R (EQ g) V1) (Br (a=6) (TB 110 #[uS c] V λg V1=>R (EQ g) V1) (Br (a=7) (TB 110 #[uS c] V λg V1=>R (EQ g) V1) (R (rV (uB (decide (c=(Ab []))))) V))))):TT 318 #[Rp a b c d] V R:=Ad Tryz.func318 h
theorem x319{a:KB}{b c d g i j k l:Sl}{o:Bool}{p:KB}{q:Sl}(h:Ac o (RV 270 #[uD a b c d g i j k,uS p,uL q] V λr s V1=>Br (s=0) (Br (r=(Ab [])) (R (rT #[uS (Ab []),uI 11]) V1) (R (rT #[uS r,uI s]) V1)) (R (rT #[uS r,uI s]) V1)) (TI 205 #[uD a b c d g i j k,uS p] V λr V1=>Br (r<0) (R (rT #[uS (Ab []),uI 9]) V1) (Br ((q.n:Int)=1) (Or V1 q 0 λs=>Ry V1 g r (λu y z A B C D=>TB 273 #[uD a b c d g i j k,uS s,uS y] V1 λF V2=>RV 320 #[uB F,uS RH] V2 λG H w=>R (rT #[uS G,uI H]) w)) (R (rT #[uS (Ab []),uI 3]) V1)))):TT 319 #[uD a b c d g i j k,uA #[uL l,uB o],uS p,uL q] V R:=Ad Tryz.func319 h
theorem x320{a:Bool}{b:KB}(h:Ac a (R (rT #[uS b,uI 0]) V) (R (rT #[uS (Ab []),uI 11]) V)):TT 320 #[uB a,uS b] V R:=Ad Tryz.func320 h
theorem x321{a:Sl}{b:KB}(h:LE [uB false,uI 0] V λc d k V1=>Br (d<(a.n:Int)) (Or V1 a d (λg=>Br (g=b) (LT uB c d k V1) (R KQ V1))) (R KX V1)):TT 321 #[uL a,uS b] V R:=Ad Tryz.func321 h
abbrev w322_0(k:Sl)(V1:Mem)(a b:XI)(c d:Int)(g:KB)(i:Sl)(R:RP):Prop:=Sg V1 k 0 λp=>Sg V1 k 1 λq=>TI 349 #[uP a,uP b,Rp c d g i,uI p,uI q] V1 λr V2=>R (Id r) V2
theorem x322{a b:XI}{c d:Int}{g:KB}{i:Sl}(h:N2 a (∃j,V.rowp a 13 1=some [uI j]/\Br (j=0) (Br (c=1) (R (Id d) V) (Br (c=2) (R (Id d) V) (Br (c=3) (R (Id 0) V) (Br (c=4) (TI 342 #[uP a,uP b,uS g] V λk V1=>R (Id k) V1) (Br (c=6) (TI 343 #[uP a,uS g] V λk V1=>R (Id k) V1) (Br (c=19) (TI 344 #[uP a,uP b,Rp c d g i] V λk V1=>R (Id k) V1) (Br (c=20) (TI 344 #[uP a,uP b,Rp c d g i] V λk V1=>R (Id k) V1) (Br (c=21) (TI 344 #[uP a,uP b,Rp c d g i] V λk V1=>R (Id k) V1) (Sj [z0,uI 0,uI 0] V λk l o m V1=>Br (o<(i.n:Int)) (RS V1 i o (λp q r s=>TI 322 #[uP a,uP b,Rp p q r s] V1 λu V2=>Af [uI u] 3 V2 λy w=>Ap 52 61 31 (uL k) (.slice (Aa y 0) 1 1) w λz x=>N2 a (∃A,x.rowp a 13 1=some [uI A]/\Br (A=0) (Ru uL uI z l o m x) (R (Id 0) x)))) (Br (c=5) (Sg V1 k 0 λp=>Br (p=0) (TI 211 #[uP a,uI 17] V1 λq V2=>R (Id q) V2) (Sg V1 k 0 λq=>TI 345 #[uP a,uI q,uS g] V1 λr V2=>Sg V2 k 0 λs=>TT 346 #[uP a,uI 1,uI s,uI r] V2 λe w=>e=rT #[]/\N2 a (¬(Aa a 8)=none/\∃u,w.rowp a 9 1=some [uL u]/\Sg w k 0 λy=>IR (y-1)/\Ix u (y-1) (¬(Aa u.p ((y-1).toNat*2))=none/\∃z A,w.rowp u.p ((y-1).toNat*2) 2=some [uI z,uL A]/\Ix A r (IY w A r λB=>R (Id B) w))))) (Br (c=7) (N2 a (∃p q r s u y z A,V1.rowp a ((0:Int).toNat*1) 8=some [uS p,uL q,uL r,uL s,uL u,uL y,uL z,uL A]/\TI 159 #[uD p q r s u y z A,uS g] V1 λB V2=>TI 161 #[uP a,uI B,uL k] V2 λC w=>R (Id C) w)) (Br (c=8) (Sg V1 k 0 λp=>IR (0-p)/\TI 347 #[uP a,uI (0-p)] V1 λq V2=>R (Id q) V2) (Br (c=24) (Sg V1 k 0 λp=>TI 348 #[uI p] V1 λq V2=>R (Id q) V2) (Br (c=18) (Sg V1 k 0 λp=>IR (1-p)/\R (Id (1-p)) V1) (Br (c=14) (w322_0 k V1 a b c d g i R) (Br (c=15) (w322_0 k V1 a b c d g i R) (Br (c=16) (w322_0 k V1 a b c d g i R) (Br (c=17) (w322_0 k V1 a b c d g i R) (Sg V1 k 0 λp=>Sg V1 k 1 λq=>TI 350 #[uP a,uI c,uI p,uI q] V1 λr V2=>R (Id r) V2))))))))))))))))))) (R (Id 0) V))):TT 322 #[uP a,uP b,Rp c d g i] V R:=Ad Tryz.func322 h
theorem x323{a b:XI}{c:KB}{d:Int}(h:N2 a (∃g,V.rowp a 13 1=some [uI g]/\Br (g=0) (N2 b (∃i,V.rowp b 5 1=some [uL i]/\TI 326 #[uL i,uS c] V λj V1=>Br (0<=j) (N2 b (∃k,V1.rowp b 6 1=some [uL k]/\Ix k j (Am (Aa k.p (j.toNat*1)) 0 [uI d] V1 λV2=>R (rT #[]) V2))) (N2 a (¬(Aa a 0)=none/\∃k,V1.rowp a 2 1=some [uL k]/\TI 326 #[uL k,uS c] V1 λl V2=>TT 346 #[uP a,uI 2,uI 0,uI l] V2 λe u=>e=rT #[]/\N2 a (¬(Aa a 8)=none/\∃o,u.rowp a 8 1=some [uL o]/\Ix o l (Am (Aa o.p (l.toNat*1)) 0 [uI d] u λw=>R (rT #[]) w)))))) (R (rT #[]) V))):TT 323 #[uP a,uP b,uS c,uI d] V R:=Ad Tryz.func323 h
theorem x324{a b:XI}{c:Int}{d:KB}{g i j:Sl}(h:RS V g 0 λk l o p=>TI 322 #[uP a,uP b,Rp k l o p] V λq V1=>RS V1 g 1 λr s u y=>TI 322 #[uP a,uP b,Rp r s u y] V1 λz V2=>N2 a (∃A,V2.rowp a 13 1=some [uI A]/\Br (A=0) (Br (q=0) (TI 211 #[uP a,uI 17] V2 λB w=>R (rT #[]) w) (TI 345 #[uP a,uI q,uS d] V2 λB w=>TT 346 #[uP a,uI 2,uI q,uI B] w λe x=>e=rT #[]/\N2 a (¬(Aa a 8)=none/\∃C,x.rowp a 9 1=some [uL C]/\IR (q-1)/\Ix C (q-1) (¬(Aa C.p ((q-1).toNat*2))=none/\∃D F,x.rowp C.p ((q-1).toNat*2) 2=some [uI D,uL F]/\Ix F B (Am (Aa F.p (B.toNat*1)) 0 [uI z] x λm=>R (rT #[]) m))))) (R (rT #[]) V2))):TT 324 #[uP a,uP b,RN c d g i j] V R:=Ad Tryz.func324 h
theorem x325{a:XI}{b:Int}(h:N2 a (∃c,V.rowp a 11 1=some [uI c]/\Br (c=0) (N2 a (Am (Aa a 11) 0 [uI b] V λV1=>R (Id 0) V1)) (R (Id 0) V))):TT 325 #[uP a,uI b] V R:=Ad Tryz.func325 h
theorem x326{a:Sl}{b:KB}(h:Pi [uI 0,uI 0] V λc d k V1=>Br (d<(a.n:Int)) (Rn V1 a d (λg i=>Br (g=b) (R (Id d) V1) (LT uI c d k V1))) (R (Id (-1)) V1)):TT 326 #[uL a,uS b] V R:=Ad Tryz.func326 h
theorem x327{a:XI}{b c:Int}(h:Br (b<0) (IR (0-b)/\Br (c<0) (IR (0-c)/\Br ((0-c)=0) (IR (b*c)/\R (Id (b*c)) V) (¬(0-c)=0/\Br ((xW .i64 (((1099511627776:Int)).tdiv (0-c)))<(0-b)) (TI 325 #[uP a,uI 5] V λd V1=>R (Id d) V1) (IR (b*c)/\R (Id (b*c)) V))) (Br (c=0) (IR (b*c)/\R (Id (b*c)) V) (¬c=0/\Br ((xW .i64 (((1099511627776:Int)).tdiv c))<(0-b)) (TI 325 #[uP a,uI 5] V λd V1=>R (Id d) V1) (IR (b*c)/\R (Id (b*c)) V)))) (Br (c<0) (IR (0-c)/\Br ((0-c)=0) (IR (b*c)/\R (Id (b*c)) V) (¬(0-c)=0/\Br ((xW .i64 (((1099511627776:Int)).tdiv (0-c)))<b) (TI 325 #[uP a,uI 5] V λd V1=>R (Id d) V1) (IR (b*c)/\R (Id (b*c)) V))) (Br (c=0) (IR (b*c)/\R (Id (b*c)) V) (¬c=0/\Br ((xW .i64 (((1099511627776:Int)).tdiv c))<b) (TI 325 #[uP a,uI 5] V λd V1=>R (Id d) V1) (IR (b*c)/\R (Id (b*c)) V))))):TT 327 #[uP a,uI b,uI c] V R:=Ad Tryz.func327 h
theorem x328{a:Bool}(h:Ac a (R (Id 1) V) (R (Id 0) V)):TT 328 #[uB a] V R:=Ad Tryz.func328 h
theorem x329{a:Sl}(h:Af [uL a] 23 V λb V1=>R (rV (.func (.func 351) #[] #[uP (Aa b 0)])) V1):TT 329 #[uL a] V R:=Ad Tryz.func329 h
theorem x330{a:XI}{b:XU}{c:Bool}{d g:Int}{i:KB}{j:Sl}(h:Lp [uS (Ab []),uI 0,z0,uI 0] V λI n V1=>∀k l o p,I n [uS k,uI l,uL o,uI p] V1->∀m:LMP,Nx I n m->Br (p<(j.n:Int)) (RS V1 j p (λq r s u=>RV 300 #[uA #[uP a,uM b,uB c],Rp q r s u] V1 λy z V2=>Br (z=0) (Af [uS y] 9 V2 λA w=>Ap 31 33 37 (uL o) (.slice (Aa A 0) 1 1) w λB N=>IR (p+1)/\m [uS k,uI l,uL B,uI (p+1)] N) (R (rT #[uS (Ab []),uI z]) V2))) (Ac c (N2 a (∃q,V1.rowp a 9 1=some [uM q]/\BE xV 245 (uM q) (uS i) true V1 λx=>∃r s u y z A,x=.tuple #[uA #[uS r,uL s,uS u,uL y,uL z],uB A]/\Ac A (Br ((o.n:Int)=(s.n:Int)) (R5 [uS k,uI l,uI 0] V1 λB C D J V2=>Br (D<(o.n:Int)) (Or V2 o D (λF=>Rn V2 s D (λG H=>TB 331 #[uP a,uS F,uS H] V2 λL w=>Ac L (Ru uS uI B C D J w) (R (rT #[uS (Ab []),uI 11]) w)))) (R (rT #[uS u,uI 0]) V2)) (R (rT #[uS (Ab []),uI 3]) V1)) (R (rT #[uS (Ab []),uI 9]) V1))) (RV 352 #[uA #[uP a,uM b,uB c],uS i,uL o] V1 λq r V2=>R (rT #[uS q,uI r]) V2))):TT 330 #[uA #[uP a,uM b,uB c],Rp d g i j] V R:=Ad Tryz.func330 h
theorem x331{a:XI}{b c:KB}(h:Br (b=c) (R KX V) (Br (b=(Ab [110,105,108])) (TB 234 #[uP a,uS c] V λd V1=>R (EQ d) V1) (R KQ V))):TT 331 #[uP a,uS b,uS c] V R:=Ad Tryz.func331 h
theorem x332{a:XI}{b c:KB}(h:N2 a (∃d,V.rowp a 8 1=some [uM d]/\BE xV 244 (uM d) (uS b) true V λx=>∃g i j,x=.tuple #[uA #[uS g,uL i],uB j]/\Ac j (Lp [uS (Ab []),uI 0,uI 0] V λI n V1=>∀k l o,I n [uS k,uI l,uI o] V1->∀u:LMP,Nx I n u->Br (o<(i.n:Int)) (R9 V1 i o (λp q=>Br (p=c) (R (rT #[uS q,uI 0]) V1) (Ru uS uI k l o u V1))) (R (rT #[uS (Ab []),uI 9]) V1)) (R (rT #[uS (Ab []),uI 11]) V))):TT 332 #[uP a,uS b,uS c] V R:=Ad Tryz.func332 h
abbrev w333_0(k:Sl)(V:Mem)(a:XI)(R:RP):Prop:=Or V k 0 λl=>Or V k 1 λo=>TB 331 #[uP a,uS l,uS o] V λp V1=>Ac p (R (rT #[uS RG,uI 0]) V1) (Or V1 k 1 λq=>Or V1 k 0 λr=>TB 331 #[uP a,uS q,uS r] V1 λs V2=>Ac s (R (rT #[uS RG,uI 0]) V2) (R (rT #[uS (Ab []),uI 11]) V2))
abbrev w333_1(k:Sl):MR:=λV R=>Af [uL k] 37 V λl V1=>RV 353 #[uS RG,uS RG,uP (Aa l 0)] V1 λo p V2=>R (rT #[uS o,uI p]) V2
theorem x333{a:XI}{b:XU}{c:Bool}{d g:Int}{i:KB}{j k:Sl}(h:Br (d=1) (R (rT #[uS RH,uI 0]) V) (Br (d=2) (R (rT #[uS RG,uI 0]) V) (Br (d=3) (R (rT #[uS (Ab [110,105,108]),uI 0]) V) (Br (d=4) (BE xV 321 (uM b) (uS i) true V λx=>∃l o,x=.tuple #[uS l,uB o]/\Ac o (R (rT #[uS l,uI 0]) V) (R (rT #[uS (Ab []),uI 9]) V)) (Br (d=5) (Or V k 0 λl=>RV 332 #[uP a,uS l,uS i] V λo p V1=>R (rT #[uS o,uI p]) V1) (Br (d=6) (Ac c (TB 234 #[uP a,uS i] V λl V1=>Ac l (R (rT #[uS i,uI 0]) V1) (R (rT #[uS (Ab []),uI 9]) V1)) (R (rT #[uS (Ab []),uI 13]) V)) (Br (d=14) (w333_0 k V a R) (Br (d=15) (w333_0 k V a R) (Br (d=16) (Af [uL k] 37 V λl V1=>RV 353 #[uS RH,uS RG,uP (Aa l 0)] V1 λo p V2=>R (rT #[uS o,uI p]) V2) (Br (d=17) (Af [uL k] 37 V λl V1=>RV 353 #[uS RH,uS RG,uP (Aa l 0)] V1 λo p V2=>R (rT #[uS o,uI p]) V2) (Br (d=18) (w333_1 k V R) (Br (d=19) (w333_1 k V R) (Br (d=20) (w333_1 k V R) (Br (d=21) (Or V k 0 λl=>Br (l=RG) (Or V k 1 λo=>Or V k 2 λp=>TB 331 #[uP a,uS o,uS p] V λq V1=>Ac q (Or V1 k 2 λr=>R (rT #[uS r,uI 0]) V1) (Or V1 k 2 λr=>Or V1 k 1 λs=>TB 331 #[uP a,uS r,uS s] V1 λu V2=>Ac u (Or V2 k 1 λy=>R (rT #[uS y,uI 0]) V2) (R (rT #[uS (Ab []),uI 11]) V2))) (R (rT #[uS (Ab []),uI 11]) V)) (Af [uL k] 37 V λl V1=>RV 353 #[uS RH,uS RH,uP (Aa l 0)] V1 λo p V2=>R (rT #[uS o,uI p]) V2))))))))))))))):TT 333 #[uA #[uP a,uM b,uB c],Rp d g i j,uL k] V R:=Ad Tryz.func333 h
theorem x336{a:KB}{b:Sl}{c:XI}(h:∃d,V.rowp c ((0:Int).toNat*1) 1=some [uS d]/\R (EQ (decide (a=d))) V):TT 336 #[uA #[uS a,uL b],uP c] V R:=Ad Tryz.func336 h
theorem x337{a:Int}(h:IR (0-a)/\GenK xV (.call {callee:=(.builtin .max),args:=#[(.tmp 3),(.tmp 5)],argTypes:=#[3,3]}) 3 (gv [(3,uI a),(5,uI (0-a))]) V λx V1=>∃b,x=uI b/\R (Id b) V1):TT 337 #[uI a] V R:=Ad Tryz.func337 h
theorem x338{a:Int}(h:Br (a<0) (R (rT #[uI 0,uI 12]) V) (R (rT #[uI a,uI 0]) V)):TT 338 #[uI a] V R:=Ad Tryz.func338 h
theorem x339{a b:KB}{c:XI}(h:∃d,V.rowp c ((0:Int).toNat*1) 1=some [uS d]/\R (EQ (decide (a=d))) V):TT 339 #[uA #[uS a,uS b],uP c] V R:=Ad Tryz.func339 h
theorem x340{a:Int}(h:IR (0-a)/\GenK xV (.call {callee:=(.builtin .max),args:=#[(.tmp 3),(.tmp 5)],argTypes:=#[3,3]}) 3 (gv [(3,uI a),(5,uI (0-a))]) V λx V1=>∃b,x=uI b/\K.inR .u64 b/\R (rV (.int .u64 b)) V1):TT 340 #[uI a] V R:=Ad Tryz.func340 h
theorem x341{a b:Int}(h:GenK xV (.binOp .shr 383 (.tmp 16) (.const (.int .u64 32)) 255) 383 (gv [(16,.int .u64 a)]) V λx V1=>∃c,x=.int .u64 c/\GenK xV (.binOp .shr 383 (.tmp 20) (.const (.int .u64 32)) 255) 383 (gv [(20,.int .u64 b)]) V1 λx V2=>∃d,x=.int .u64 d/\GenK xV (.binOp .shr 383 (.tmp 28) (.const (.int .u64 32)) 255) 383 (gv [(28,.int .u64 (xW .u64 ((xX .and .u64 a (4294967295:Int))*(xX .and .u64 b (4294967295:Int)))))]) V2 λx k=>∃g,x=.int .u64 g/\K.inR .u64 ((xW .u64 (c*(xX .and .u64 b (4294967295:Int))))+g)/\GenK xV (.binOp .shr 383 (.tmp 33) (.const (.int .u64 32)) 255) 383 (gv [(33,.int .u64 ((xW .u64 (c*(xX .and .u64 b (4294967295:Int))))+g))]) k λx u=>∃i,x=.int .u64 i/\K.inR .u64 ((xX .and .u64 ((xW .u64 (c*(xX .and .u64 b (4294967295:Int))))+g) (4294967295:Int))+(xW .u64 ((xX .and .u64 a (4294967295:Int))*d)))/\K.inR .u64 ((xW .u64 (c*d))+i)/\GenK xV (.binOp .shr 383 (.tmp 45) (.const (.int .u64 32)) 255) 383 (gv [(45,.int .u64 ((xX .and .u64 ((xW .u64 (c*(xX .and .u64 b (4294967295:Int))))+g) (4294967295:Int))+(xW .u64 ((xX .and .u64 a (4294967295:Int))*d))))]) u λx w=>∃j,x=.int .u64 j/\K.inR .u64 (((xW .u64 (c*d))+i)+j)/\R (rT #[.int .u64 (((xW .u64 (c*d))+i)+j),.int .u64 (xW .u64 (a*b))]) w):TT 341 #[.int .u64 a,.int .u64 b] V R:=Ad Tryz.func341 h
theorem x342{a b:XI}{c:KB}(h:N2 b (∃d,V.rowp b 5 1=some [uL d]/\TI 326 #[uL d,uS c] V λg V1=>Br (0<=g) (N2 b (∃i,V1.rowp b 6 1=some [uL i]/\Ix i g (IY V1 i g λj=>R (Id j) V1))) (N2 a (¬(Aa a 0)=none/\∃i,V1.rowp a 2 1=some [uL i]/\TI 326 #[uL i,uS c] V1 λj V2=>TT 346 #[uP a,uI 1,uI 0,uI j] V2 λe u=>e=rT #[]/\N2 a (¬(Aa a 8)=none/\∃k,u.rowp a 8 1=some [uL k]/\Ix k j (IY u k j λl=>R (Id l) u)))))):TT 342 #[uP a,uP b,uS c] V R:=Ad Tryz.func342 h
theorem x343{a:XI}{b:KB}(h:N2 a (¬(Aa a 8)=none/\∃c,V.rowp a 9 1=some [uL c]/\Br (4096<=(c.n:Int)) (TI 211 #[uP a,uI 21] V λd V1=>R (Id d) V1) (N2 a (∃d g i j k l o p,V.rowp a ((0:Int).toNat*1) 8=some [uS d,uL g,uL i,uL j,uL k,uL l,uL o,uL p]/\TI 120 #[uD d g i j k l o p,uS b] V λq V1=>N2 a (¬(Aa a 8)=none/\∃r,V1.rowp a 9 1=some [uL r]/\N2 a (¬(Aa a 0)=none/\∃s,V1.rowp a 1 1=some [uL s]/\Rm V1 s q (λu y=>GenK xV (.makeSlice 31 (.tmp 37) (.tmp 37)) 31 (gv [(37,uI (y.n:Int)),(37,uI (y.n:Int))]) V1 λx V2=>∃z,x=uL z/\V2.rowp (Aa a 9) 0 1=some [uL r]/\¬(Aa a 8)=none/\N2 a (V2.rowp (Aa a 9) 0 1=some [uL r]/\¬(Aa a 8)=none/\N2 a (Af [uI q,uL z] 121 V2 λA H=>Ap 26 40 32 (uL r) (.slice (Aa A 0) 1 1) H λB J=>N2 a (¬(Aa a 8)=none/\Am (Aa a 9) 0 [uL B] J λw=>N2 a (¬(Aa a 8)=none/\∃C,w.rowp a 9 1=some [uL C]/\TT 346 #[uP a,uI 3,uI (C.n:Int),uI q] w λe m=>e=rT #[]/\N2 a (¬(Aa a 8)=none/\∃D,m.rowp a 9 1=some [uL D]/\R (Id (D.n:Int)) m)))))))))))):TT 343 #[uP a,uS b] V R:=Ad Tryz.func343 h
end
section
variable{V:Mem}{R:RP}
abbrev Gz(w:Sl)(V1:Mem)(x j:XI)(R:RP):Prop:=
 ¬w.p=none/\(0:Int)<=(1:Int)/\1<(w.n:Int)/\∃h k g u,V1.rowp w.p (1*4) 4=some [uI h,uI k,uS g,uL u]/\
 TI 322 #[uP x,uP j,uA #[uI h,uI k,uS g,uL u]] V1 λy V2=>
 R (rV (uI y)) V2
theorem x344{a b:XI}{c d:Int}{g:KB}{i:Sl}(h:RS V i 0 λj k l o=>TI 322 #[uP a,uP b,Rp j k l o] V λp V1=>N2 a (∃q,V1.rowp a 13 1=some [uI q]/\Br (q=0) (Br (c=21) (Br (p=0) (RS V1 i 2 λr s u y=>TI 322 #[uP a,uP b,Rp r s u y] V1 λz V2=>R (Id z) V2) (Br (c=19) (Br (p=0) (R (Id 0) V1) (Br (c=20) (Br (p=0) (Gz i V1 a b R) (R (Id 1) V1)) (Gz i V1 a b R))) (Br (c=20) (Br (p=0) (Gz i V1 a b R) (R (Id 1) V1)) (Gz i V1 a b R)))) (Br (c=19) (Br (p=0) (R (Id 0) V1) (Br (c=20) (Br (p=0) (Gz i V1 a b R) (R (Id 1) V1)) (Gz i V1 a b R))) (Br (c=20) (Br (p=0) (Gz i V1 a b R) (R (Id 1) V1)) (Gz i V1 a b R)))) (R (Id 0) V1))):TT 344 #[uP a,uP b,Rp c d g i] V R:=Ad Tryz.func344 h
theorem x345{a:XI}{b:Int}{c:KB}(h:N2 a (¬(Aa a 0)=none/\∃d,V.rowp a 1 1=some [uL d]/\N2 a (¬(Aa a 8)=none/\∃g,V.rowp a 9 1=some [uL g]/\IR (b-1)/\Ix g (b-1) (¬(Aa g.p ((b-1).toNat*2))=none/\∃i j,V.rowp g.p ((b-1).toNat*2) 2=some [uI i,uL j]/\Rm V d i (λk l=>TI 326 #[uL l,uS c] V λo V1=>R (Id o) V1))))):TT 345 #[uP a,uI b,uS c] V R:=Ad Tryz.func345 h
theorem x346{a:XI}{b c d:Int}(h:N2 a (∃g,V.rowp a 17 1=some [uL g]/\Af [uI b,uI c,uI d] 188 V λi V1=>Ap 12 17 128 (uL g) (.slice (Aa i 0) 1 1) V1 λj V2=>N2 a (Am (Aa a 17) 0 [uL j] V2 λu=>Br (0<c) (N2 a (¬(Aa a 14)=none/\∃k,u.rowp a 15 1=some [uI k]/\IR (k+1)/\N2 a (¬(Aa a 14)=none/\Am (Aa a 15) 0 [uI (k+1)] u λw=>R (rT #[]) w))) (R (rT #[]) u)))):TT 346 #[uP a,uI b,uI c,uI d] V R:=Ad Tryz.func346 h
theorem x347{a:XI}{b:Int}(h:Br (b<(-1099511627776)) (TI 211 #[uP a,uI 5] V λc V1=>R (Id c) V1) (Br (1099511627776<b) (TI 211 #[uP a,uI 5] V λc V1=>R (Id c) V1) (R (Id b) V))):TT 347 #[uP a,uI b] V R:=Ad Tryz.func347 h
theorem x348{a:Int}(h:Pi [uI a,uI 0] V λb c k V1=>Br (1<b) (¬(2:Int)=(0:Int)/\IR (c+1)/\k [uI (xW .i64 ((b).tdiv (2:Int))),uI (c+1)] V1) (R (Id c) V1)):TT 348 #[uI a] V R:=Ad Tryz.func348 h
abbrev w349_0(c j k:Int)(V2:Mem)(R:RP):Prop:=Br (c=15) (TI 356 #[uB (!(decide (j=k)))] V2 λu h=>R (Id u) h) (Br (c=16) (TI 356 #[uB (decide (j<k))] V2 λu h=>R (Id u) h) (TI 356 #[uB (decide (j<=k))] V2 λu h=>R (Id u) h))
theorem x349{a b:XI}{c d:Int}{g:KB}{i:Sl}{j k:Int}(h:RS V i 0 λl o p q=>TB 355 #[uP a,uP b,Rp l o p q] V λr V1=>Ac r (N2 a (¬(Aa a 14)=none/\∃s,V1.rowp a 14 1=some [uI s]/\IR (s+1)/\N2 a (¬(Aa a 14)=none/\Am (Aa a 14) 0 [uI (s+1)] V1 λV2=>Br (c=14) (TI 356 #[uB (decide (j=k))] V2 λu w=>R (Id u) w) (w349_0 c j k V2 R)))) (Br (c=14) (TI 356 #[uB (decide (j=k))] V1 λs V2=>R (Id s) V2) (w349_0 c j k V1 R))):TT 349 #[uP a,uP b,Rp c d g i,uI j,uI k] V R:=Ad Tryz.func349 h
theorem x350{a:XI}{b c d:Int}(h:Br (b=9) (IR (c+d)/\TI 347 #[uP a,uI (c+d)] V λg V1=>R (Id g) V1) (Br (b=10) (IR (c-d)/\TI 347 #[uP a,uI (c-d)] V λg V1=>R (Id g) V1) (Br (b=11) (TI 357 #[uP a,uI c,uI d] V λg V1=>R (Id g) V1) (Br (b=22) (Br (c<d) (R (Id d) V) (R (Id c) V)) (Br (b=23) (Br (d<c) (R (Id d) V) (R (Id c) V)) (Br (d=0) (TI 211 #[uP a,uI 18] V λg V1=>R (Id g) V1) (Br (b=12) (¬d=0/\TI 347 #[uP a,uI (xW .i64 ((c).tdiv d))] V λg V1=>R (Id g) V1) (¬d=0/\R (rV (uI ((c).tmod d))) V)))))))):TT 350 #[uP a,uI b,uI c,uI d] V R:=Ad Tryz.func350 h
theorem x352{a:XI}{b:XU}{c:Bool}{d:KB}{g:Sl}(h:N2 a (¬(Aa a 0)=none/\∃i,V.rowp a 4 1=some [uL i]/\Af [uS d] 9 V λj V1=>TI 311 #[uL i,.func (.func 358) #[] #[uP (Aa j 0)]] V1 λk V2=>Br (k<0) (R (rT #[uS (Ab []),uI 9]) V2) (Br ((g.n:Int)=1) (Or V2 g 0 λl=>N2 a (¬(Aa a 0)=none/\∃o,V2.rowp a 4 1=some [uL o]/\Ry V2 o k (λp q r s u y z=>TB 331 #[uP a,uS l,uS q] V2 λA w=>Ac A (R (rT #[uS RH,uI 0]) w) (R (rT #[uS (Ab []),uI 11]) w)))) (R (rT #[uS (Ab []),uI 3]) V2)))):TT 352 #[uA #[uP a,uM b,uB c],uS d,uL g] V R:=Ad Tryz.func352 h
theorem x353{a b:KB}{c:XI}(h:∃d,V.rowp c ((0:Int).toNat*1) 1=some [uL d]/\Af [uS a] 9 V λg V1=>TB 23 #[uL d,.func (.func 354) #[] #[uP (Aa g 0)]] V1 λi V2=>Ac i (R (rT #[uS (Ab []),uI 11]) V2) (R (rT #[uS b,uI 0]) V2)):TT 353 #[uS a,uS b,uP c] V R:=Ad Tryz.func353 h
theorem x354{a:KB}{b:XI}(h:∃c,V.rowp b ((0:Int).toNat*1) 1=some [uS c]/\R (rV (uB (!(decide (a=c))))) V):TT 354 #[uS a,uP b] V R:=Ad Tryz.func354 h
theorem x355{a b:XI}{c d:Int}{g:KB}{i:Sl}(h:N2 a (∃j k l o p q r s,V.rowp a ((0:Int).toNat*1) 8=some [uS j,uL k,uL l,uL o,uL p,uL q,uL r,uL s]/\N2 a (∃u y z A B C D F,V.rowp a ((0:Int).toNat*1) 8=some [uS u,uL y,uL z,uL A,uL B,uL C,uL D,uL F]/\N2 b (∃G H L M N,V.rowp b ((0:Int).toNat*1) 5=some [uS G,uL H,uS L,uL M,uL N]/\R7 268 #[uD u y z A B C D F,uA #[uS G,uL H,uS L,uL M,uL N]] V λO P V1=>V1.rowp (Aa a 0) 0 8=some [uS j,uL k,uL l,uL o,uL p,uL q,uL r,uL s]/\N2 a (RV 271 #[uD j k l o p q r s,uA #[uL O,uB P],Rp c d g i] V1 λQ U V2=>Br (U=0) (R (EQ (decide (Q=RH))) V2) (R KQ V2)))))):TT 355 #[uP a,uP b,Rp c d g i] V R:=Ad Tryz.func355 h
theorem x356{a:Bool}(h:Ac a (R (Id 1) V) (R (Id 0) V)):TT 356 #[uB a] V R:=Ad Tryz.func356 h
theorem x357{a:XI}{b c:Int}(h:Br (b<0) (IR (0-b)/\Br (c<0) (IR (0-c)/\Br (0<(0-b)) (¬(0-b)=0/\Br ((xW .i64 (((1099511627776:Int)).tdiv (0-b)))<(0-c)) (TI 211 #[uP a,uI 5] V λd V1=>R (Id d) V1) (IR (b*c)/\R (Id (b*c)) V)) (IR (b*c)/\R (Id (b*c)) V)) (Br (0<(0-b)) (¬(0-b)=0/\Br ((xW .i64 (((1099511627776:Int)).tdiv (0-b)))<c) (TI 211 #[uP a,uI 5] V λd V1=>R (Id d) V1) (IR (b*c)/\R (Id (b*c)) V)) (IR (b*c)/\R (Id (b*c)) V))) (Br (c<0) (IR (0-c)/\Br (0<b) (¬b=0/\Br ((xW .i64 (((1099511627776:Int)).tdiv b))<(0-c)) (TI 211 #[uP a,uI 5] V λd V1=>R (Id d) V1) (IR (b*c)/\R (Id (b*c)) V)) (IR (b*c)/\R (Id (b*c)) V)) (Br (0<b) (¬b=0/\Br ((xW .i64 (((1099511627776:Int)).tdiv b))<c) (TI 211 #[uP a,uI 5] V λd V1=>R (Id d) V1) (IR (b*c)/\R (Id (b*c)) V)) (IR (b*c)/\R (Id (b*c)) V)))):TT 357 #[uP a,uI b,uI c] V R:=Ad Tryz.func357 h
theorem x358{a b:KB}{c d g:Int}{i:KB}{j:Sl}{k:XI}(h:∃l,V.rowp k ((0:Int).toNat*1) 1=some [uS l]/\R (EQ (decide (a=l))) V):TT 358 #[uA #[uS a,uS b,uI c,uI d,uI g,uS i,uL j],uP k] V R:=Ad Tryz.func358 h
abbrev w15_0(z:Int)(a:KB)(b c d g i j k q:Sl)(V1:Mem)(u y p:Sl)(r:Int)(R:RP):Prop:=Br (z=0) (TT 26 #[uD a b c d g i j k,uL q] V1 λe V2=>∃A B C D F G H L M,e=rT #[uD A B C D F G H L,uI M]/\Br (M=0) (Sk [uL u,uL y,z0,z0,uI 0,uI 0] V2 λN O P Q U W m h=>Br (W<(p.n:Int)) (RZ h p W (λX Y=>TT 27 #[uD a b c d g i j k,uD A B C D F G H L,uA #[uL N,uL O],uA #[uS X,uL Y],uI r] h λe o=>∃Z a0 a1 a2 a3 w x s J l,e=rT #[uA #[uI Z,uI a0,uI a1,uI a2,uI a3],uA #[uL w,uL x],uA #[uS s,uI J],uI l]/\Br (l=0) (Af [uI Z,uI a0,uI a1,uI a2,uI a3] 46 o λK S=>Ap 77 79 59 (uL P) (.slice (Aa K 0) 1 1) S λb0 E=>Br (Z=22) (R (rT #[uL b0,uA #[uL w,uL x],uA #[uS s,uI J],uI 0]) E) (IR (W+1)/\m [uL w,uL x,uL b0,uL Q,uI U,uI (W+1)] E)) (R (rT #[z0,uA #[z0,z0],uA #[uS (Ab []),uI 0],uI l]) o))) (R (rT #[uL P,uA #[uL N,uL O],uA #[uS (Ab []),uI 0],uI 0]) h)) (R (rT #[z0,uA #[z0,z0],uA #[uS (Ab []),uI 0],uI M]) V2)) (R (rT #[z0,uA #[z0,z0],uA #[uS (Ab []),uI 0],uI z]) V1)
theorem P5{a:KB}{b c d g i j k l o p q:Sl}{r:Int}(h:TT 25 #[uD a b c d g i j k,uA #[uL l,uL o],z0,uI r] V λe V1=>∃s u y z,e=rT #[uL s,uA #[uL u,uL y],uI z]/\Br (z=0) (Br (2000<(p.n:Int)) (R (rT #[z0,uA #[z0,z0],uA #[uS (Ab []),uI 0],uI 4]) V1) (w15_0 z a b c d g i j k q V1 u y p r R)) (w15_0 z a b c d g i j k q V1 u y p r R)):TT 15 #[uD a b c d g i j k,uA #[uL l,uL o],uL p,uL q,uI r] V R:=Dl Tryz.func15 [] [(11,[6])] false (by kernel_rfl) (by kernel_rfl) h
abbrev w20_0(h:Mem)(L:XI)(G:Sl)(R:RP):Prop:=∃Z a0 a1 a2 a3 u w y,h.rowp L ((0:Int).toNat*1) 8=some [uS Z,uL a0,uL a1,uL a2,uL a3,uL u,uL w,uL y]/\TT 53 #[uD Z a0 a1 a2 a3 u w y] h λe k=>∃x j i b0 b1 b2 b3 b4 b5,e=rT #[uD x j i b0 b1 b2 b3 b4,uI b5]/\Br (b5=0) (Ap 87 88 24 (uL b0) (uL G) k λb6 g=>R (rT #[uD x j i b6 b1 b2 b3 b4,uI 0]) g) (R (rT #[uA #[uS (Ab []),z0,z0,z0,z0,z0,z0,z0],uI b5]) k)
theorem P9{a:KB}{b c d g i j k:Sl}{l:KB}(h:TB 39 #[uD a b c d g i j k] V λo V1=>Br (o=true) (Af [uS l] 9 V1 λp V2=>TI 40 #[uL i,.func (.func 41) #[] #[uP (Aa p 0)]] V2 λq V3=>Br (q<0) (R (rT #[uA #[uS (Ab []),z0,z0,z0,z0,z0,z0,z0],uI 12]) V3) (Af [uP none] 108 V3 λr V4=>Af [uS a,uL b,uL c,uL d,uL g,uL i,uL j,uL k,uS (Ab [110])] 110 V4 λs V5=>Am (Aa r 0) 0 [uP (Aa s 0)] V5 λV6=>Lp [] V6 λI n V7=>I n [] V7->∀J0:LMP,Nx I n J0->TB 42 #[uL c,.func (.func 43) #[] #[uP (Aa r 0)]] V7 λu x=>Br (u=true) (∃y,x.rowp r ((0:Int).toNat*1) 1=some [uP y]/\N2 y (∃z,x.rowp y 8 1=some [uS z]/\IR ((z.size:Int)+((Ab [95]).size:Int))/\N2 y (Am (Aa y 8) 0 [uS (z++(Ab [95]))] x λE=>J0 [] E))) (∃y,x.rowp r ((0:Int).toNat*1) 1=some [uP y]/\Ix i q (∃z A B C D F,x.rowp i.p (q.toNat*6) 6=some [uS z,uS A,uI B,uI C,uS D,uL F]/\TL 44 #[uP y,uA #[uS z,uS A,uI B,uI C,uS D,uL F]] x λG E=>TB 45 #[uL G,.func (.func 46) #[] #[]] E λH m=>Br (H=true) (R (rT #[uA #[uS (Ab []),z0,z0,z0,z0,z0,z0,z0],uI 9]) m) (Af [uS a,uL b,uL c,uL d,uL g,uL i,uL j,uL k] 30 m λL K=>TB 45 #[uL G,.func (.func 48) #[] #[uP (Aa L 0)]] K λM w=>Br (M=true) (R (rT #[uA #[uS (Ab []),z0,z0,z0,z0,z0,z0,z0],uI 10]) w) (¬(Aa L 0)=none/\∃N,w.rowp L 3 1=some [uL N]/\IR ((N.n:Int)+(G.n:Int))/\Br (40<((N.n:Int)+(G.n:Int))) (R (rT #[uA #[uS (Ab []),z0,z0,z0,z0,z0,z0,z0],uI 4]) w) (¬(Aa L 0)=none/\∃O,w.rowp L 5 1=some [uL O]/\Ix O q (∃P Q U W X Y,w.rowp O.p (q.toNat*6) 6=some [uS P,uS Q,uI U,uI W,uS X,uL Y]/\Br (Q=(Ab [])) (w20_0 w L G R) (∃Z,w.rowp r ((0:Int).toNat*1) 1=some [uP Z]/\TT 52 #[uP Z,uA #[uI U,uI W,uS X,uL Y]] w λe S=>∃a0 a1 a2 a3,e=rV (uA #[uI a0,uI a1,uS a2,uL a3])/\TT 51 #[uA #[uI a0,uI a1,uS a2,uL a3]] S λe T=>∃a4 a5 a6 a7,e=rV (uA #[uI a4,uI a5,uS a6,uL a7])/\TB 50 #[uA #[uI a4,uI a5,uS a6,uL a7]] T λa8 J=>Br (a8=true) (w20_0 J L G R) (R (rT #[uA #[uS (Ab []),z0,z0,z0,z0,z0,z0,z0],uI 4]) J)))))))))) (R (rT #[uA #[uS (Ab []),z0,z0,z0,z0,z0,z0,z0],uI 1]) V1)):TT 20 #[uD a b c d g i j k,uS l] V R:=Dl Tryz.func20 [7] [] false (by kernel_rfl) (by kernel_rfl) h
theorem Qa{a:KB}{b c d g i j k l o p:Sl}{q:Int}(h:TI 56 #[uD a b c d g i j k,uA #[uL l,uL o],uI q] V λr V1=>Br (r=0) (Br (2000<(p.n:Int)) (R (rT #[z0,uA #[z0,z0],uI 4]) V1) (TT 57 #[uA #[uL l,uL o]] V1 λe V2=>∃s u,e=rV (uA #[uL s,uL u])/\Lp [uL s,uL u,z0,uI 0,z0,uI 0] V2 λI n w=>∀y z A B C D,I n [uL y,uL z,uL A,uI B,uL C,uI D] w->∀x:LMP,Nx I n x->Br (D<(p.n:Int)) (Ix p D (∃F G,w.rowp p.p (D.toNat*2) 2=some [uS F,uL G]/\TT 58 #[uD a b c d g i j k,uA #[uL y,uL z],uA #[uS F,uL G],uI q] w λe m=>∃H L M N O P Q,e=rT #[uP H,uA #[uI L,uI M,uI N,uI O,uI P],uI Q]/\Br (Q=0) (Af [uI L,uI M,uI N,uI O,uI P] 46 m λU Z=>Ap 51 53 59 (uL C) (.slice (Aa U 0) 1 1) Z λW J=>N2 H (∃X Y,J.rowp H 8 2=some [uL X,uL Y]/\IR (D+1)/\x [uL X,uL Y,uL A,uI B,uL W,uI (D+1)] J)) (R (rT #[z0,uA #[z0,z0],uI Q]) m))) (R (rT #[uL C,uA #[uL y,uL z],uI 0]) w))) (R (rT #[z0,uA #[z0,z0],uI r]) V1)):TT 25 #[uD a b c d g i j k,uA #[uL l,uL o],uL p,uI q] V R:=Dl Tryz.func25 [] [(9,[5])] false (by kernel_rfl) (by kernel_rfl) h
theorem Qb{a:KB}{b c d g i j k l:Sl}(h:Lp [uS a,uL b,uL c,uL d,uL g,z0,uL j,uL k,uI 0,uI 0] V λI n V1=>∀o p q r s u y z A B,I n [uS o,uL p,uL q,uL r,uL s,uL u,uL y,uL z,uI A,uI B] V1->∀x:LMP,Nx I n x->Br (B<(l.n:Int)) (Ix l B (∃C,V1.rowp l.p (B.toNat*1) 1=some [uS C]/\Af [uS C] 9 V1 λD V2=>TI 40 #[uL i,.func (.func 59) #[] #[uP (Aa D 0)]] V2 λF w=>Br (F<0) (R (rT #[uA #[uS (Ab []),z0,z0,z0,z0,z0,z0,z0],uI 9]) w) (Ix i F (∃G H L M N O,w.rowp i.p (F.toNat*6) 6=some [uS G,uS H,uI L,uI M,uS N,uL O]/\Af [uS G,uS H,uI L,uI M,uS N,uL O] 105 w λP e=>Ap 28 34 26 (uL u) (.slice (Aa P 0) 1 1) e λQ J=>IR (B+1)/\x [uS o,uL p,uL q,uL r,uL s,uL Q,uL y,uL z,uI A,uI (B+1)] J)))) (Lp [uI A,uI 0] V1 λI n V2=>∀C D,I n [uI C,uI D] V2->∀m:LMP,Nx I n m->Br (D<(l.n:Int)) (Ix l D (∃F,V2.rowp l.p (D.toNat*1) 1=some [uS F]/\(0<=(0:Int)/\(0:Int)<=D/\D<=(l.c:Int))/\TB 60 #[.slice (if(l.c:Int)=(0:Int)then l.p else Aa l.p ((0:Int).toNat*1)) (D-0).toNat ((l.c:Int)-0).toNat,uS F] V2 λG w=>Br (G=true) (R (rT #[uA #[uS (Ab []),z0,z0,z0,z0,z0,z0,z0],uI 10]) w) (IR (D+1)/\m [uI C,uI (D+1)] w))) (R (rT #[uD o p q r s u y z,uI 0]) V2))):TT 26 #[uD a b c d g i j k,uL l] V R:=Dl Tryz.func26 [] [(4,[6])] false (by kernel_rfl) (by kernel_rfl) h
theorem Qc{a:KB}{b c d g i j k l o p:Sl}(h:TT 35 #[uD a b c d g i j k,uA #[uL l,uL o]] V λe V1=>∃q r,e=rV (uA #[uL q,uI r])/\Lp [uB false,uI 0] V1 λI n V2=>∀s u,I n [uB s,uI u] V2->∀Z:LMP,Nx I n Z->Br (u<(p.n:Int)) (Ix p u (∃y,V2.rowp p.p (u.toNat*1) 1=some [uS y]/\TI 65 #[uD a b c d g i j k,uS y] V2 λz Y=>Ix i z (∃A B C D F G,Y.rowp i.p (z.toNat*6) 6=some [uS A,uS B,uI C,uI D,uS F,uL G]/\Br (B=(Ab [])) (Af [uI 0] 3 Y λH J=>Lp [uB s,uI 0] J λI n w=>∀L M,I n [uB L,uI M] w->∀x:LMP,Nx I n x->Br (M<1) (¬(Aa H 0)=none/\0<=M/\M<1/\∃N,w.rowp (Aa H 0) (M.toNat*1) 1=some [uI N]/\TS 68 #[uD a b c d g i j k,uA #[uL l,uL o],uI N] w λO m=>Br (O=B) (¬(Aa H 0)=none/\0<=M/\M<1/\∃P,m.rowp (Aa H 0) (M.toNat*1) 1=some [uI P]/\TT 69 #[uD a b c d g i j k,uA #[uL l,uL o],uS A,uI P] m λe X=>∃Q U,e=rT #[uB Q,uI U]/\Br (Q=true) (IR (M+1)/\x [uB L,uI (M+1)] X) (¬(Aa H 0)=none/\0<=M/\M<1/\∃W,X.rowp (Aa H 0) (M.toNat*1) 1=some [uI W]/\R (rT #[uA #[uS A,uI W],uB true]) X)) (IR (M+1)/\x [uB L,uI (M+1)] m)) (IR (u+1)/\Z [uB L,uI (u+1)] w)) (Lp [uB s,uI 0] Y λI n J=>∀H L,I n [uB H,uI L] J->∀x:LMP,Nx I n x->Br (L<(q.n:Int)) (Ix q L (IY J q L λM=>TS 68 #[uD a b c d g i j k,uA #[uL l,uL o],uI M] J λN w=>Br (N=B) (Ix q L (IY w q L λO=>TT 69 #[uD a b c d g i j k,uA #[uL l,uL o],uS A,uI O] w λe m=>∃P Q,e=rT #[uB P,uI Q]/\Br (P=true) (IR (L+1)/\x [uB H,uI (L+1)] m) (Ix q L (IY m q L λU=>R (rT #[uA #[uS A,uI U],uB true]) m)))) (IR (L+1)/\x [uB H,uI (L+1)] w))) (IR (u+1)/\Z [uB H,uI (u+1)] J))))) (R (rT #[uA #[uS (Ab []),uI 0],uB false]) V2)):TT 31 #[uD a b c d g i j k,uA #[uL l,uL o],uL p] V R:=Dl Tryz.func31 [39] [] false (by kernel_rfl) (by kernel_rfl) h
theorem Qd{a:XI}{b c:KB}{d g:Int}{i:KB}{j:Sl}(h:N2 a (¬(Aa a 0)=none/\∃k,V.rowp a 4 1=some [uL k]/\Lp [z0,uI 0] V λI n V1=>∀l o,I n [uL l,uI o] V1->∀J0:LMP,Nx I n J0->Br (o<(k.n:Int)) (Ix k o (∃p q r s u y z,V1.rowp k.p (o.toNat*7) 7=some [uS p,uS q,uI r,uI s,uI u,uS y,uL z]/\IR (((Ab [109,101,97,115,117,114,101,95]).size:Int)+(p.size:Int))/\N2 a (∃A,V1.rowp a 8 1=some [uS A]/\(TT 78 #[uP a] V1 λe V2=>∃B C D F,e=rV (uA #[uI B,uI C,uS D,uL F])/\V2.rowp (Aa a 8) 0 1=some [uS A]/\N2 a (IR (((Ab [109,101,97,115,117,114,101,95]).size:Int)+(p.size:Int))/\(TT 79 #[uI r] V2 λe T=>∃G H L M,e=rV (uA #[uI G,uI H,uS L,uL M])/\T.rowp (Aa a 8) 0 1=some [uS A]/\N2 a (IR (((Ab [109,101,97,115,117,114,101,95]).size:Int)+(p.size:Int))/\(TT 77 #[uA #[uI B,uI C,uS D,uL F],uA #[uI G,uI H,uS L,uL M]] T λe J=>∃N O P Q U,e=rV (uA #[uI N,uS O,uL P,uL Q,uL U])/\J.rowp (Aa a 8) 0 1=some [uS A]/\N2 a (IR (((Ab [109,101,97,115,117,114,101,95]).size:Int)+(p.size:Int))/\(TT 52 #[uP a,uA #[uI s,uI u,uS y,uL z]] J λe m=>∃W X Y Z,e=rV (uA #[uI W,uI X,uS Y,uL Z])/\m.rowp (Aa a 8) 0 1=some [uS A]/\N2 a (IR (((Ab [109,101,97,115,117,114,101,95]).size:Int)+(p.size:Int))/\(TT 80 #[uA #[uI W,uI X,uS Y,uL Z]] m λe x=>∃a0 a1 a2 a3 E,e=rV (uA #[uI a0,uS a1,uL a2,uL a3,uL E])/\x.rowp (Aa a 8) 0 1=some [uS A]/\N2 a (IR (((Ab [109,101,97,115,117,114,101,95]).size:Int)+(p.size:Int))/\(x.rowp (Aa a 8) 0 1=some [uS A]/\N2 a (IR (((Ab [109,101,97,115,117,114,101,95]).size:Int)+(p.size:Int))/\IR (((Ab [109,101,97,115,117,114,101,95]).size:Int)+(p.size:Int))/\Af [uS A,uS q] 97 x λa5 K=>Af [uI N,uS O,uL P,uL Q,uL U,uI a0,uS a1,uL a2,uL a3,uL E] 101 K λa6 S=>Af [uS ((Ab [109,101,97,115,117,114,101,95])++p),.slice (Aa a5 0) 1 1,uS (Ab [105,110,116]),z0,.slice (Aa a6 0) 2 2] 72 S λa7 V9=>Ap 23 48 24 (uL l) (.slice (Aa a7 0) 1 1) V9 λa8 w=>IR (o+1)/\J0 [uL a8,uI (o+1)] w))/\(IR (((Ab [109,101,97,115,117,114,101,95]).size:Int)+(p.size:Int))/\IR (((Ab [109,101,97,115,117,114,101,95]).size:Int)+(p.size:Int))/\Af [uS A,uS q] 97 x λa5 K=>Af [uI N,uS O,uL P,uL Q,uL U,uI a0,uS a1,uL a2,uL a3,uL E] 101 K λa6 S=>Af [uS ((Ab [109,101,97,115,117,114,101,95])++p),.slice (Aa a5 0) 1 1,uS (Ab [105,110,116]),z0,.slice (Aa a6 0) 2 2] 72 S λa7 V9=>Ap 23 48 24 (uL l) (.slice (Aa a7 0) 1 1) V9 λa8 w=>IR (o+1)/\J0 [uL a8,uI (o+1)] w)))/\(IR (((Ab [109,101,97,115,117,114,101,95]).size:Int)+(p.size:Int))/\TT 80 #[uA #[uI W,uI X,uS Y,uL Z]] m λe x=>∃a0 a1 a2 a3 E,e=rV (uA #[uI a0,uS a1,uL a2,uL a3,uL E])/\IR (((Ab [109,101,97,115,117,114,101,95]).size:Int)+(p.size:Int))/\IR (((Ab [109,101,97,115,117,114,101,95]).size:Int)+(p.size:Int))/\Af [uS A,uS q] 97 x λa5 K=>Af [uI N,uS O,uL P,uL Q,uL U,uI a0,uS a1,uL a2,uL a3,uL E] 101 K λa6 S=>Af [uS ((Ab [109,101,97,115,117,114,101,95])++p),.slice (Aa a5 0) 1 1,uS (Ab [105,110,116]),z0,.slice (Aa a6 0) 2 2] 72 S λa7 V9=>Ap 23 48 24 (uL l) (.slice (Aa a7 0) 1 1) V9 λa8 w=>IR (o+1)/\J0 [uL a8,uI (o+1)] w)))/\(IR (((Ab [109,101,97,115,117,114,101,95]).size:Int)+(p.size:Int))/\TT 52 #[uP a,uA #[uI s,uI u,uS y,uL z]] J λe m=>∃W X Y Z,e=rV (uA #[uI W,uI X,uS Y,uL Z])/\IR (((Ab [109,101,97,115,117,114,101,95]).size:Int)+(p.size:Int))/\TT 80 #[uA #[uI W,uI X,uS Y,uL Z]] m λe x=>∃a0 a1 a2 a3 E,e=rV (uA #[uI a0,uS a1,uL a2,uL a3,uL E])/\IR (((Ab [109,101,97,115,117,114,101,95]).size:Int)+(p.size:Int))/\IR (((Ab [109,101,97,115,117,114,101,95]).size:Int)+(p.size:Int))/\Af [uS A,uS q] 97 x λa5 K=>Af [uI N,uS O,uL P,uL Q,uL U,uI a0,uS a1,uL a2,uL a3,uL E] 101 K λa6 S=>Af [uS ((Ab [109,101,97,115,117,114,101,95])++p),.slice (Aa a5 0) 1 1,uS (Ab [105,110,116]),z0,.slice (Aa a6 0) 2 2] 72 S λa7 V9=>Ap 23 48 24 (uL l) (.slice (Aa a7 0) 1 1) V9 λa8 w=>IR (o+1)/\J0 [uL a8,uI (o+1)] w)))/\(IR (((Ab [109,101,97,115,117,114,101,95]).size:Int)+(p.size:Int))/\TT 77 #[uA #[uI B,uI C,uS D,uL F],uA #[uI G,uI H,uS L,uL M]] T λe J=>∃N O P Q U,e=rV (uA #[uI N,uS O,uL P,uL Q,uL U])/\IR (((Ab [109,101,97,115,117,114,101,95]).size:Int)+(p.size:Int))/\TT 52 #[uP a,uA #[uI s,uI u,uS y,uL z]] J λe m=>∃W X Y Z,e=rV (uA #[uI W,uI X,uS Y,uL Z])/\IR (((Ab [109,101,97,115,117,114,101,95]).size:Int)+(p.size:Int))/\TT 80 #[uA #[uI W,uI X,uS Y,uL Z]] m λe x=>∃a0 a1 a2 a3 E,e=rV (uA #[uI a0,uS a1,uL a2,uL a3,uL E])/\IR (((Ab [109,101,97,115,117,114,101,95]).size:Int)+(p.size:Int))/\IR (((Ab [109,101,97,115,117,114,101,95]).size:Int)+(p.size:Int))/\Af [uS A,uS q] 97 x λa5 K=>Af [uI N,uS O,uL P,uL Q,uL U,uI a0,uS a1,uL a2,uL a3,uL E] 101 K λa6 S=>Af [uS ((Ab [109,101,97,115,117,114,101,95])++p),.slice (Aa a5 0) 1 1,uS (Ab [105,110,116]),z0,.slice (Aa a6 0) 2 2] 72 S λa7 V9=>Ap 23 48 24 (uL l) (.slice (Aa a7 0) 1 1) V9 λa8 w=>IR (o+1)/\J0 [uL a8,uI (o+1)] w)))/\(IR (((Ab [109,101,97,115,117,114,101,95]).size:Int)+(p.size:Int))/\TT 79 #[uI r] V2 λe T=>∃G H L M,e=rV (uA #[uI G,uI H,uS L,uL M])/\IR (((Ab [109,101,97,115,117,114,101,95]).size:Int)+(p.size:Int))/\TT 77 #[uA #[uI B,uI C,uS D,uL F],uA #[uI G,uI H,uS L,uL M]] T λe J=>∃N O P Q U,e=rV (uA #[uI N,uS O,uL P,uL Q,uL U])/\IR (((Ab [109,101,97,115,117,114,101,95]).size:Int)+(p.size:Int))/\TT 52 #[uP a,uA #[uI s,uI u,uS y,uL z]] J λe m=>∃W X Y Z,e=rV (uA #[uI W,uI X,uS Y,uL Z])/\IR (((Ab [109,101,97,115,117,114,101,95]).size:Int)+(p.size:Int))/\TT 80 #[uA #[uI W,uI X,uS Y,uL Z]] m λe x=>∃a0 a1 a2 a3 E,e=rV (uA #[uI a0,uS a1,uL a2,uL a3,uL E])/\IR (((Ab [109,101,97,115,117,114,101,95]).size:Int)+(p.size:Int))/\IR (((Ab [109,101,97,115,117,114,101,95]).size:Int)+(p.size:Int))/\Af [uS A,uS q] 97 x λa5 K=>Af [uI N,uS O,uL P,uL Q,uL U,uI a0,uS a1,uL a2,uL a3,uL E] 101 K λa6 S=>Af [uS ((Ab [109,101,97,115,117,114,101,95])++p),.slice (Aa a5 0) 1 1,uS (Ab [105,110,116]),z0,.slice (Aa a6 0) 2 2] 72 S λa7 V9=>Ap 23 48 24 (uL l) (.slice (Aa a7 0) 1 1) V9 λa8 w=>IR (o+1)/\J0 [uL a8,uI (o+1)] w)))/\(IR (((Ab [109,101,97,115,117,114,101,95]).size:Int)+(p.size:Int))/\TT 78 #[uP a] V1 λe V2=>∃B C D F,e=rV (uA #[uI B,uI C,uS D,uL F])/\IR (((Ab [109,101,97,115,117,114,101,95]).size:Int)+(p.size:Int))/\TT 79 #[uI r] V2 λe T=>∃G H L M,e=rV (uA #[uI G,uI H,uS L,uL M])/\IR (((Ab [109,101,97,115,117,114,101,95]).size:Int)+(p.size:Int))/\TT 77 #[uA #[uI B,uI C,uS D,uL F],uA #[uI G,uI H,uS L,uL M]] T λe J=>∃N O P Q U,e=rV (uA #[uI N,uS O,uL P,uL Q,uL U])/\IR (((Ab [109,101,97,115,117,114,101,95]).size:Int)+(p.size:Int))/\TT 52 #[uP a,uA #[uI s,uI u,uS y,uL z]] J λe m=>∃W X Y Z,e=rV (uA #[uI W,uI X,uS Y,uL Z])/\IR (((Ab [109,101,97,115,117,114,101,95]).size:Int)+(p.size:Int))/\TT 80 #[uA #[uI W,uI X,uS Y,uL Z]] m λe x=>∃a0 a1 a2 a3 E,e=rV (uA #[uI a0,uS a1,uL a2,uL a3,uL E])/\IR (((Ab [109,101,97,115,117,114,101,95]).size:Int)+(p.size:Int))/\IR (((Ab [109,101,97,115,117,114,101,95]).size:Int)+(p.size:Int))/\Af [uS A,uS q] 97 x λa5 K=>Af [uI N,uS O,uL P,uL Q,uL U,uI a0,uS a1,uL a2,uL a3,uL E] 101 K λa6 S=>Af [uS ((Ab [109,101,97,115,117,114,101,95])++p),.slice (Aa a5 0) 1 1,uS (Ab [105,110,116]),z0,.slice (Aa a6 0) 2 2] 72 S λa7 V9=>Ap 23 48 24 (uL l) (.slice (Aa a7 0) 1 1) V9 λa8 w=>IR (o+1)/\J0 [uL a8,uI (o+1)] w)))) (IR (((Ab [99,104,101,99,107,95]).size:Int)+(b.size:Int))/\Br (c=(Ab [])) (TT 52 #[uP a,uA #[uI d,uI g,uS i,uL j]] V1 λe V2=>∃p q r s,e=rV (uA #[uI p,uI q,uS r,uL s])/\TT 80 #[uA #[uI p,uI q,uS r,uL s]] V2 λe T=>∃u y z A B,e=rV (uA #[uI u,uS y,uL z,uL A,uL B])/\Af [uI u,uS y,uL z,uL A,uL B] 101 T λC J=>Af [uS ((Ab [99,104,101,99,107,95])++b),z0,uS (Ab [98,111,111,108]),z0,.slice (Aa C 0) 1 1] 72 J λD m=>Ap 65 67 24 (uL l) (.slice (Aa D 0) 1 1) m λF x=>R (rV (uL F)) x) (N2 a (¬(Aa a 0)=none/\∃p,V1.rowp a 1 1=some [uL p]/\Lp [uL l,uI 0] V1 λI n V2=>∀q r,I n [uL q,uI r] V2->∀J1:LMP,Nx I n J1->Br (r<(p.n:Int)) (Ix p r (∃s u,V2.rowp p.p (r.toNat*2) 2=some [uS s,uL u]/\TT 81 #[uP a,uA #[uS s,uL u],uA #[uS b,uS c,uI d,uI g,uS i,uL j]] V2 λe T=>∃y z A B C,e=rV (uA #[uS y,uL z,uS A,uL B,uL C])/\Af [uS y,uL z,uS A,uL B,uL C] 72 T λD J=>Ap 79 84 24 (uL q) (.slice (Aa D 0) 1 1) J λF m=>IR (r+1)/\J1 [uL F,uI (r+1)] m)) (N2 a (¬(Aa a 0)=none/\∃s,V2.rowp a 2 1=some [uL s]/\Lp [uS ((Ab [99,104,101,99,107,95])++b),z0,uS (Ab [98,111,111,108]),z0,z0,uI 0] V2 λI n T=>∀u y z A B C,I n [uS u,uL y,uS z,uL A,uL B,uI C] T->∀J2:LMP,Nx I n J2->Br (C<(s.n:Int)) (Ix s C (∃D F,T.rowp s.p (C.toNat*2) 2=some [uS D,uS F]/\TB 82 #[uP a,uS F] T λG J=>Br (G=true) (TT 84 #[uS D] J λe m=>∃H L M N,e=rV (uA #[uI H,uI L,uS M,uL N])/\TT 83 #[uS F,uA #[uI H,uI L,uS M,uL N]] m λe x=>∃O P Q U W,e=rV (uA #[uI O,uS P,uL Q,uL U,uL W])/\Af [uI O,uS P,uL Q,uL U,uL W] 101 x λX K=>Ap 102 109 70 (uL B) (.slice (Aa X 0) 1 1) K λY S=>IR (C+1)/\J2 [uS u,uL y,uS z,uL A,uL Y,uI (C+1)] S) (IR (C+1)/\J2 [uS u,uL y,uS z,uL A,uL B,uI (C+1)] J))) (TT 85 #[uB true] T λe J=>∃D F G H,e=rV (uA #[uI D,uI F,uS G,uL H])/\TT 80 #[uA #[uI D,uI F,uS G,uL H]] J λe m=>∃L M N O P,e=rV (uA #[uI L,uS M,uL N,uL O,uL P])/\Af [uI L,uS M,uL N,uL O,uL P] 101 m λQ x=>Ap 114 117 70 (uL B) (.slice (Aa Q 0) 1 1) x λU K=>Af [uS u,uL y,uS z,uL A,uL U] 72 K λW S=>Ap 120 122 24 (uL q) (.slice (Aa W 0) 1 1) S λX V9=>R (rV (uL X)) V9)))))))):TT 44 #[uP a,uA #[uS b,uS c,uI d,uI g,uS i,uL j]] V R:=Dl Tryz.func44 [] [(17,[8])] false (by kernel_rfl) (by kernel_rfl) h
theorem Qe{a:XI}{b c:Int}{d:KB}{g:Sl}(h:Lp [uI b,uI c,uS d,z0,uI 0] V λI n V1=>∀i j k l o,I n [uI i,uI j,uS k,uL l,uI o] V1->∀w:LMP,Nx I n w->Br (o<(g.n:Int)) (Ix g o (∃p q r s,V1.rowp g.p (o.toNat*4) 4=some [uI p,uI q,uS r,uL s]/\TT 52 #[uP a,uA #[uI p,uI q,uS r,uL s]] V1 λe V2=>∃u y z A,e=rV (uA #[uI u,uI y,uS z,uL A])/\Af [uI u,uI y,uS z,uL A] 93 V2 λB x=>Ap 18 22 91 (uL l) (.slice (Aa B 0) 1 1) x λC m=>IR (o+1)/\w [uI i,uI j,uS k,uL C,uI (o+1)] m)) (Br (b=4) (Br (d=(Ab [116,104,105,115])) (N2 a (∃p,V1.rowp a 8 1=some [uS p]/\R (rV (uA #[uI i,uI j,uS p,uL l])) V1)) (Br (b=7) (IR (((Ab [109,101,97,115,117,114,101,95]).size:Int)+(d.size:Int))/\R (rV (uA #[uI i,uI j,uS ((Ab [109,101,97,115,117,114,101,95])++d),uL l])) V1) (R (rV (uA #[uI i,uI j,uS k,uL l])) V1))) (Br (b=7) (IR (((Ab [109,101,97,115,117,114,101,95]).size:Int)+(d.size:Int))/\R (rV (uA #[uI i,uI j,uS ((Ab [109,101,97,115,117,114,101,95])++d),uL l])) V1) (R (rV (uA #[uI i,uI j,uS k,uL l])) V1)))):TT 52 #[uP a,uA #[uI b,uI c,uS d,uL g]] V R:=Dl Tryz.func52 [] [(4,[5])] false (by kernel_rfl) (by kernel_rfl) h
abbrev w53_0(H:Sl)(O:Int)(h:Mem)(u:LMP):Prop:=Rr h H O (λP Q U W X=>RL 98 #[Rp Q U W X] h λY Z a0 a1 k=>Ix H O (¬(Aa H.p (O.toNat*5))=none/\Am (Aa (Aa H.p (O.toNat*5)) 1) 0 [uI Y,uI Z,uS a0,uL a1] k λg=>R4 O u g))
theorem Qf{a:KB}{b c d g i j k:Sl}(h:TL 90 #[uL b] V λl V1=>Lp [uI 0] V1 λI n V2=>∀o,I n [uI o] V2->∀J0:LMP,Nx I n J0->Br (o<(b.n:Int)) (Ix b o (∃p q,V2.rowp b.p (o.toNat*2) 2=some [uS p,uL q]/\TL 91 #[uL q] V2 λr S=>Ix l o (¬(Aa l.p (o.toNat*2))=none/\Am (Aa (Aa l.p (o.toNat*2)) 1) 0 [uL r] S λJ=>IR (o+1)/\J0 [uI (o+1)] J))) (TL 91 #[uL c] V2 λp S=>Lp [uS a,uL l,uL p,z0,uL g,uL i,uL j,uL k,uI 0,uI 0] S λI n J=>∀q r s u y z A B C D,I n [uS q,uL r,uL s,uL u,uL y,uL z,uL A,uL B,uI C,uI D] J->∀J1:LMP,Nx I n J1->Br (D<(d.n:Int)) (Ix d D (∃F G H L M,J.rowp d.p (D.toNat*5) 5=some [uS F,uL G,uS H,uL L,uL M]/\TS 93 #[uS F] J λN T=>TT 92 #[uD a b c d g i j k,uS N] T λe E=>∃O P Q U W X,e=rT #[uA #[uS O,uL P,uS Q,uL U,uL W],uI X]/\Br (X=0) (Af [uS O,uL P,uS Q,uL U,uL W] 72 E λY V7=>Ap 62 64 24 (uL u) (.slice (Aa Y 0) 1 1) V7 λZ V8=>IR (D+1)/\J1 [uS q,uL r,uL s,uL Z,uL y,uL z,uL A,uL B,uI C,uI (D+1)] V8) (R (rT #[uA #[uS (Ab []),z0,z0,z0,z0,z0,z0,z0],uI X]) E))) (TL 94 #[uL g] J λF T=>TL 95 #[uL i] T λG E=>TL 96 #[uL j] E λH V7=>TL 97 #[uL k] V7 λL V8=>Lp [uI 0] V8 λI n K=>∀M,I n [uI M] K->∀J2:LMP,Nx I n J2->Br (M<(F.n:Int)) (Ix F M (¬(Aa F.p (M.toNat*7))=none/\∃N O P Q U W X,K.rowp F.p (M.toNat*7) 7=some [uS N,uS O,uI P,uI Q,uI U,uS W,uL X]/\TT 98 #[uA #[uI Q,uI U,uS W,uL X]] K λe x=>∃Y Z a0 a1,e=rV (uA #[uI Y,uI Z,uS a0,uL a1])/\Ix F M (¬(Aa F.p (M.toNat*7))=none/\Am (Aa (Aa F.p (M.toNat*7)) 3) 0 [uI Y,uI Z,uS a0,uL a1] x λw=>IR (M+1)/\J2 [uI (M+1)] w))) (Lp [uI 0] K λI n x=>∀N,I n [uI N] x->∀J3:LMP,Nx I n J3->Br (N<(G.n:Int)) (Ix G N (¬(Aa G.p (N.toNat*6))=none/\∃O P Q U W X,x.rowp G.p (N.toNat*6) 6=some [uS O,uS P,uI Q,uI U,uS W,uL X]/\TT 98 #[uA #[uI Q,uI U,uS W,uL X]] x λe w=>∃Y Z a0 a1,e=rV (uA #[uI Y,uI Z,uS a0,uL a1])/\Ix G N (¬(Aa G.p (N.toNat*6))=none/\Am (Aa (Aa G.p (N.toNat*6)) 2) 0 [uI Y,uI Z,uS a0,uL a1] w λm=>IR (N+1)/\J3 [uI (N+1)] m))) (Lp [uI 0] x λI n w=>∀O,I n [uI O] w->∀J4:LMP,Nx I n J4->Br (O<(H.n:Int)) (w53_0 H O w J4) (Lp [uI 0] w λI n m=>∀P,I n [uI P] m->∀J5:LMP,Nx I n J5->Br (P<(L.n:Int)) (w53_0 L P m J5) (R (rT #[uD q r s u F G H L,uI 0]) m))))))):TT 53 #[uD a b c d g i j k] V R:=Dl Tryz.func53 [] [(11,[4])] false (by kernel_rfl) (by kernel_rfl) h
theorem Qg{a b:Sl}(h:TL 103 #[uL a] V λc V1=>Lp [uL c,z0,uI 0] V1 λI n V2=>∀d g i,I n [uL d,uL g,uI i] V2->∀u:LMP,Nx I n u->Br (i<(b.n:Int)) (Ix b i (∃j k,V2.rowp b.p (i.toNat*2) 2=some [uI j,uL k]/\TL 103 #[uL k] V2 λl w=>Af [uI j,uL l] 121 w λo y=>Ap 18 25 32 (uL g) (.slice (Aa o 0) 1 1) y λp x=>IR (i+1)/\u [uL d,uL p,uI (i+1)] x)) (R (rV (uA #[uL d,uL g])) V2)):TT 57 #[uA #[uL a,uL b]] V R:=Dl Tryz.func57 [] [(3,[3])] false (by kernel_rfl) (by kernel_rfl) h
theorem Qh{a:KB}{b c d g i j k l o:Sl}(h:TT 35 #[uD a b c d g i j k,uA #[uL l,uL o]] V λe V1=>∃p q,e=rV (uA #[uL p,uI q])/\TL 122 #[uL c,uL l,uL p] V1 λr V2=>Lp [uL r,z0,uI 0] V2 λI n w=>∀s u y,I n [uL s,uL u,uI y] w->∀x:LMP,Nx I n x->Br (y<(p.n:Int)) (Ix p y (∃z,w.rowp p.p (y.toNat*1) 1=some [uI z]/\IR (z-1)/\Ix o (z-1) (∃A B,w.rowp o.p ((z-1).toNat*2) 2=some [uI A,uL B]/\Ix b A (¬(Aa b.p (A.toNat*2))=none/\∃C D,w.rowp b.p (A.toNat*2) 2=some [uS C,uL D]/\TL 122 #[uL D,uL B,uL p] w λF m=>Af [uI A,uL F] 121 m λG J=>Ap 36 51 32 (uL u) (.slice (Aa G 0) 1 1) J λH N=>IR (y+1)/\x [uL s,uL H,uI (y+1)] N)))) (R (rV (uA #[uL s,uL u])) w)):TT 73 #[uD a b c d g i j k,uA #[uL l,uL o]] V R:=Dl Tryz.func73 [] [(4,[6])] false (by kernel_rfl) (by kernel_rfl) h
theorem Qi{a:KB}{b c d g i j k l o p:Sl}{q:Int}{r s:Sl}(h:Lp [uL p,uI q,uI 0] V λI n V1=>∀u y z,I n [uL u,uI y,uI z] V1->∀w:LMP,Nx I n w->Br (z<(r.n:Int)) (Ix s z (IY V1 s z λA=>Ix r z (¬(Aa r.p (z.toNat*2))=none/\∃B C,V1.rowp r.p (z.toNat*2) 2=some [uS B,uS C]/\Br (C=(Ab [105,110,116])) (IR (z+1)/\w [uL u,uI y,uI (z+1)] V1) (Ix r z (¬(Aa r.p (z.toNat*2))=none/\∃D F,V1.rowp r.p (z.toNat*2) 2=some [uS D,uS F]/\Br (F=(Ab [98,111,111,108])) (IR (z+1)/\w [uL u,uI y,uI (z+1)] V1) (Br (A=0) (IR (z+1)/\w [uL u,uI y,uI (z+1)] V1) (TI 123 #[uL u,uI A] V1 λG V2=>Br (0<=G) (Br (y=0) (IR (z+1)/\w [uL u,uI A,uI (z+1)] V2) (IR (z+1)/\w [uL u,uI y,uI (z+1)] V2)) (Af [uI A] 3 V2 λH m=>Ap 52 54 31 (uL u) (.slice (Aa H 0) 1 1) m λL x=>IR (A-1)/\Ix o (A-1) (¬(Aa o.p ((A-1).toNat*2))=none/\∃M N,x.rowp o.p ((A-1).toNat*2) 2=some [uI M,uL N]/\Ix b M (¬(Aa b.p (M.toNat*2))=none/\∃O P,x.rowp b.p (M.toNat*2) 2=some [uS O,uL P]/\IR (A-1)/\Ix o (A-1) (¬(Aa o.p ((A-1).toNat*2))=none/\∃Q U,x.rowp o.p ((A-1).toNat*2) 2=some [uI Q,uL U]/\TT 74 #[uD a b c d g i j k,uA #[uL l,uL o],uA #[uL L,uI y],uL P,uL U] x λe J=>∃W X,e=rV (uA #[uL W,uI X])/\IR (z+1)/\w [uL W,uI X,uI (z+1)] J))))))))))) (R (rV (uA #[uL u,uI y])) V1)):TT 74 #[uD a b c d g i j k,uA #[uL l,uL o],uA #[uL p,uI q],uL r,uL s] V R:=Dl Tryz.func74 [] [(2,[7])] false (by kernel_rfl) (by kernel_rfl) h
abbrev w81_0(c:Sl)(b5:Int)(k:Mem)(a:XI)(b4:Sl)(j:LMP)(b0:KB)(b1:Sl)(b2:KB)(b3:Sl):Prop:=R9 k c b5 (λb6 b7=>TB 82 #[uP a,uS b7] k λb8 h=>Ac b8 (N2 a (∃b9,h.rowp a 8 1=some [uS b9]/\RL 84 #[uS b9] h λi l c2 c3 g=>Af [uI i,uI l,uS c2,uL c3] 93 g λc4 u=>RJ 83 #[uS b7,uA #[uI 5,uI 0,uS b6,.slice (Aa c4 0) 1 1]] u λc5 n c7 m c9 w=>Af [uI c5,uS n,uL c7,uL m,uL c9] 101 w λr y=>Ap 60 73 70 (uL b4) (.slice (Aa r 0) 1 1) y λq x=>IR (b5+1)/\j [uS b0,uL b1,uS b2,uL b3,uL q,uI (b5+1)] x)) (IR (b5+1)/\j [uS b0,uL b1,uS b2,uL b3,uL b4,uI (b5+1)] h))
abbrev w81_1(h:Mem)(b4:Sl)(R:RP)(b0:KB)(b1:Sl)(b2:KB)(b3:Sl):Prop:=RL 85 #[uB true] h λb6 b7 b8 b9 k=>RJ 80 #[Rp b6 b7 b8 b9] k λy x c2 c3 c4 g=>Af [uI y,uS x,uL c2,uL c3,uL c4] 101 g λc5 u=>Ap 78 81 70 (uL b4) (.slice (Aa c5 0) 1 1) u λj w=>R (rV (uA #[uS b0,uL b1,uS b2,uL b3,uL j])) w
theorem Qj{a:XI}{b:KB}{c:Sl}{d g:KB}{i j:Int}{k:KB}{l:Sl}(h:IR (((Ab [118,105,115,105,116,95]).size:Int)+(b.size:Int))/\N2 a (∃o,V.rowp a 8 1=some [uS o]/\Af [uS o,uS b] 97 V λp V1=>IR (((Ab [118,105,115,105,116,95]).size:Int)+(b.size:Int))/\TT 78 #[uP a] V1 λe V2=>∃q r s u,e=rV (uA #[uI q,uI r,uS s,uL u])/\TT 85 #[uB true] V2 λe V3=>∃y z A B,e=rV (uA #[uI y,uI z,uS A,uL B])/\TT 77 #[uA #[uI q,uI r,uS s,uL u],uA #[uI y,uI z,uS A,uL B]] V3 λe V4=>∃C D F G H,e=rV (uA #[uI C,uS D,uL F,uL G,uL H])/\Af [uI C,uS D,uL F,uL G,uL H] 101 V4 λL V5=>Ap 23 28 70 (z0) (.slice (Aa L 0) 1 1) V5 λM S=>Br (b=g) (TT 52 #[uP a,uA #[uI i,uI j,uS k,uL l]] S λe x=>∃N O P Q,e=rV (uA #[uI N,uI O,uS P,uL Q])/\TT 51 #[uA #[uI N,uI O,uS P,uL Q]] x λe V8=>∃U W X Y,e=rV (uA #[uI U,uI W,uS X,uL Y])/\TT 85 #[uB false] V8 λe V9=>∃Z a0 a1 a2,e=rV (uA #[uI Z,uI a0,uS a1,uL a2])/\TT 77 #[uA #[uI U,uI W,uS X,uL Y],uA #[uI Z,uI a0,uS a1,uL a2]] V9 λe J=>∃a3 T a5 a6 a7,e=rV (uA #[uI a3,uS T,uL a5,uL a6,uL a7])/\Af [uI a3,uS T,uL a5,uL a6,uL a7] 101 J λa8 E=>Ap 37 45 70 (uL M) (.slice (Aa a8 0) 1 1) E λa9 K=>Lp [uS ((Ab [118,105,115,105,116,95])++b),.slice (Aa p 0) 1 1,uS (Ab [98,111,111,108]),z0,uL a9,uI 0] K λI n w=>∀b0 b1 b2 b3 b4 b5,I n [uS b0,uL b1,uS b2,uL b3,uL b4,uI b5] w->∀m:LMP,Nx I n m->Br (b5<(c.n:Int)) (w81_0 c b5 w a b4 m b0 b1 b2 b3) (w81_1 w b4 R b0 b1 b2 b3)) (Lp [uS ((Ab [118,105,115,105,116,95])++b),.slice (Aa p 0) 1 1,uS (Ab [98,111,111,108]),z0,uL M,uI 0] S λI n x=>∀N O P Q U W,I n [uS N,uL O,uS P,uL Q,uL U,uI W] x->∀m:LMP,Nx I n m->Br (W<(c.n:Int)) (w81_0 c W x a U m N O P Q) (w81_1 x U R N O P Q)))):TT 81 #[uP a,uA #[uS b,uL c],uA #[uS d,uS g,uI i,uI j,uS k,uL l]] V R:=Dl Tryz.func81 [20] [(6,[7])] false (by kernel_rfl) (by kernel_rfl) h
theorem Qk{a b:Int}{c:KB}{d:Sl}(h:Lp [uI a,uI b,uS c,z0,uI 0] V λI n V1=>∀g i j k l,I n [uI g,uI i,uS j,uL k,uI l] V1->∀w:LMP,Nx I n w->Br (l<(d.n:Int)) (Ix d l (∃o p q r,V1.rowp d.p (l.toNat*4) 4=some [uI o,uI p,uS q,uL r]/\TT 98 #[uA #[uI o,uI p,uS q,uL r]] V1 λe V2=>∃s u y z,e=rV (uA #[uI s,uI u,uS y,uL z])/\Af [uI s,uI u,uS y,uL z] 93 V2 λA x=>Ap 16 19 91 (uL k) (.slice (Aa A 0) 1 1) x λB m=>IR (l+1)/\w [uI g,uI i,uS j,uL B,uI (l+1)] m)) (R (rV (uA #[uI g,uI i,uS j,uL k])) V1)):TT 98 #[uA #[uI a,uI b,uS c,uL d]] V R:=Dl Tryz.func98 [] [(4,[3])] false (by kernel_rfl) (by kernel_rfl) h
abbrev w109_0(p:XI)(z A:KB)(B C:Int)(D:KB)(F:Sl)(M:Int)(g:Mem)(L:Int)(h:LMP)(H:Sl):Prop:=TB 146 #[uP p,uA #[uS z,uS A,uI B,uI C,uS D,uL F],uI M] g λO k=>Ac O (LT uL H L h k) (Af [uS z,uI M] 48 k λP u=>Ap 64 69 191 (uL H) (.slice (Aa P 0) 1 1) u λQ w=>LT uL Q L h w)
theorem x109{a:KB}{b c d g i j k l o:Sl}(h:TT 143 #[uD a b c d g i j k,uA #[uL l,uL o]] V λe V1=>∃p q,e=rT #[uP p,uI q]/\Br (q=0) (TT 144 #[uD a b c d g i j k,uA #[uL l,uL o]] V1 λe V2=>∃r s,e=rT #[uL r,uI s]/\Br (s=0) (Lp [z0,uI 0] V2 λI n J=>∀u y,I n [uL u,uI y] J->∀Z:LMP,Nx I n Z->Br (y<(i.n:Int)) (Ix i y (∃z A B C D F,J.rowp i.p (y.toNat*6) 6=some [uS z,uS A,uI B,uI C,uS D,uL F]/\Br (A=(Ab [])) (Af [uI 0] 3 J λG m=>Lp [uL u,uI 0] m λI n w=>∀H L,I n [uL H,uI L] w->∀x:LMP,Nx I n x->Br (L<1) (¬(Aa G 0)=none/\0<=L/\L<1/\∃M,w.rowp (Aa G 0) (L.toNat*1) 1=some [uI M]/\TS 145 #[uP p,uI M] w λN Y=>Br (N=A) (w109_0 p z A B C D F M Y L x H) (IR (L+1)/\x [uL H,uI (L+1)] Y)) (IR (y+1)/\Z [uL H,uI (y+1)] w)) (Lp [uL u,uI 0] J λI n m=>∀G H,I n [uL G,uI H] m->∀x:LMP,Nx I n x->Br (H<(r.n:Int)) (Ix r H (IY m r H λL=>TS 145 #[uP p,uI L] m λM w=>Br (M=A) (w109_0 p z A B C D F L w H x G) (IR (H+1)/\x [uL G,uI (H+1)] w))) (IR (y+1)/\Z [uL G,uI (y+1)] m)))) (R (rT #[uL u,uI 0]) J)) (R (rT #[z0,uI s]) V2)) (R (rT #[z0,uI q]) V1)):TT 109 #[uD a b c d g i j k,uA #[uL l,uL o]] V R:=Dl Tryz.func109 [44] [] false (by kernel_rfl) (by kernel_rfl) h
theorem x126{a:XI}(h:GenK xV (.makeFunc (.func 171) #[(.tmp 6)] #[]) 207 (gv [(6,uP a)]) V λx V1=>∃b,K.f.ok b/\x=b/\GenK xV (.makeFunc (.func 172) #[(.tmp 8)] #[]) 207 (gv [(8,uP a)]) V1 λx V2=>∃c,K.f.ok c/\x=c/\GenK xV (.makeFunc (.func 173) #[(.tmp 10)] #[]) 207 (gv [(10,uP a)]) V2 λx r=>∃d,K.f.ok d/\x=d/\GenK xV (.makeFunc (.func 174) #[(.tmp 12)] #[]) 207 (gv [(12,uP a)]) r λx q=>∃g,K.f.ok g/\x=g/\GenK xV (.makeFunc (.func 175) #[(.tmp 14)] #[]) 207 (gv [(14,uP a)]) q λx s=>∃i,K.f.ok i/\x=i/\Af [K.cast .f b,K.cast .f c,K.cast .f d,K.cast .f g,K.cast .f i] 207 s λj H=>Lp [uP none,uI 0] H λI n w=>∀k l,I n [uP k,uI l] w->∀y:LMP,Nx I n y->Br (l<5) (¬(Aa j 0)=none/\0<=l/\l<5/\∃o,K.f.ok o/\w.rowp (Aa j 0) (l.toNat*1) 1=some [o]/\∃f first u,K.cast .f o=.func (.func f) first u/\CO f/\TT f (first++#[]++u) w λe m=>∃p,e=rV (uP p)/\Br (p=none) (IR (l+1)/\y [uP k,uI (l+1)] m) (R (rV (uP p)) m)) (R (rV (uP none)) w)):TT 126 #[uP a] V R:=Dl Tryz.func126 [16] [] false (by kernel_rfl) (by kernel_rfl) h
theorem x160{a b:Sl}(h:Af [] 3 V λc V1=>Ap 5 7 31 (.slice (Aa c 0) (0:Int).toNat (0:Int).toNat) (uL a) V1 λd V2=>Lp [uL d,z0,uI 0] V2 λI n w=>∀g i j,I n [uL g,uL i,uI j] w->∀y:LMP,Nx I n y->Br (j<(b.n:Int)) (Ix b j (¬(Aa b.p (j.toNat*2))=none/\∃k l,w.rowp b.p (j.toNat*2) 2=some [uI k,uL l]/\Ix b j (¬(Aa b.p (j.toNat*2))=none/\∃o p,w.rowp b.p (j.toNat*2) 2=some [uI o,uL p]/\w.rowp (Aa (Aa b.p (j.toNat*2)) 1) 0 1=some [uL p]/\¬(Aa b.p (j.toNat*2))=none/\Ix b j (w.rowp (Aa (Aa b.p (j.toNat*2)) 0) 0 1=some [uI k]/\¬(Aa b.p (j.toNat*2))=none/\Ix b j (Af [] 3 w λq m=>Ap 25 31 31 (.slice (Aa q 0) (0:Int).toNat (0:Int).toNat) (uL p) m λr x=>x.rowp (Aa (Aa b.p (j.toNat*2)) 0) 0 1=some [uI k]/\¬(Aa b.p (j.toNat*2))=none/\Ix b j (Af [uI k,uL r] 121 x λs e=>Ap 18 34 32 (uL i) (.slice (Aa s 0) 1 1) e λu H=>IR (j+1)/\y [uL g,uL u,uI (j+1)] H)))))) (R (rV (uA #[uL g,uL i])) w)):TT 160 #[uA #[uL a,uL b]] V R:=Dl Tryz.func160 [] [(3,[3])] false (by kernel_rfl) (by kernel_rfl) h
theorem x240{a:XI}{b:XU}{c:Bool}{d:Sl}{g:KB}{i:XI}(h:Lp [uI 0,uI 0,uI 0] V λI n V1=>∀j k l,I n [uI j,uI k,uI l] V1->∀x:LMP,Nx I n x->Br (l<(d.n:Int)) (Ix d l (∃o p q r s,V1.rowp d.p (l.toNat*5) 5=some [uI o,uS p,uL q,uL r,uL s]/\¬i=none/\∃u,V1.rowp i ((0:Int).toNat*1) 1=some [uI u]/\¬i=none/\∃y,V1.rowp i ((0:Int).toNat*1) 1=some [uI y]/\IR (y+1)/\¬i=none/\Am i 0 [uI (y+1)] V1 λV2=>TI 299 #[uA #[uP a,uM b,uB c],uA #[uI o,uS p,uL q,uL r,uL s],uS g] V2 λz m=>Br (z=0) (Af [uL r,uL s] 70 m λA Z=>Lp [uI j,uI k,uI 0] Z λI n w=>∀B C D,I n [uI B,uI C,uI D] w->∀J:LMP,Nx I n J->Br (D<2) (¬(Aa A 0)=none/\0<=D/\D<2/\∃F,w.rowp (Aa A 0) (D.toNat*1) 1=some [uL F]/\TT 240 #[uA #[uP a,uM b,uB c],uL F,uS g,uP i] w λe N=>∃G H,e=rT #[uI G,uI H]/\Br (H=0) (IR (D+1)/\J [uI B,uI C,uI (D+1)] N) (R (rT #[uI G,uI H]) N)) (IR (l+1)/\x [uI B,uI C,uI (l+1)] w)) (R (rT #[uI u,uI z]) m))) (R (rT #[uI 0,uI 0]) V1)):TT 240 #[uA #[uP a,uM b,uB c],uL d,uS g,uP i] V R:=Dl Tryz.func240 [44] [] false (by kernel_rfl) (by kernel_rfl) h
end
abbrev PP(f:FuncId)(args:XV)(V:Mem)(v:Value):Prop:=A6 xV f args V v
def E2(c:Int):Bool:=decide (97<=c/\c<=122∨65<=c/\c<=90)
def Hb(c:Int):Bool:=decide (48<=c/\c<=57)
def E3(c:Int):Bool:=E2 c||Hb c||decide (c=95)
theorem c147{V:Mem}{c:Int}:PP 147 [.int .u8 c] V (uB (E2 c)):=by
 refine x147 ?_;unfold E2;grind
theorem c197{V:Mem}{c:Int}:PP 197 [.int .u8 c] V (uB (Hb c)):=by
 refine x197 ?_;unfold Hb;grind
theorem c148{V:Mem}{c:Int}:PP 148 [.int .u8 c] V (uB (E3 c)):=by
 refine x148 ?_;unfold E3;refine c147.call ⟨_,rfl,λh=>?_,λh=>?_⟩;.simp[h]
 .refine c197.call ⟨_,rfl,λh=>?_,λh=>?_⟩<;>simp_all
def cls(c:Int):Int:=if c=32∨c=9∨c=13∨c=10 then 1 else if E2 c then 2 else if Hb c then 3 else if c=95 then 4 else 0
theorem Nf{V:Mem}{c:Int}:PP 87 [.int .u8 c] V (uI (cls c)):=by
 refine PO ?_;have key:∀n:Int,cls c=n->(xY (uI n)=xY (uI (cls c))/\V=V):=λn h=>by simp_all
 unfold cls E2 Hb at key
 repeat' (first|intro _|apply xZ)
 all_goals first|rfl|(refine(key _ ?_).1;grind)
theorem cls_two(c:Int):cls c=2↔E2 c=true:=by
 unfold cls E2 Hb;grind
theorem cls_word(c:Int):cls c<2↔E3 c=false:=by
 unfold E3 cls E2 Hb;grind
def HT:XN:=[[116,121,112,101],[118,97,114],[112,114,111,99],[108,111,99,97,108],[109,101,97,115,117,114,101],[105,110,118,97,114,105,97,110,116],[112,111,116,101,110,116,105,97,108],[98,111,117,110,100],[105,102],[101,108,115,101],[119,104,105,108,101],[114,101,116,117,114,110],[110,101,119],[110,105,108],[116,114,117,101],[102,97,108,115,101],[97,110,100],[111,114],[110,111,116],[109,97,120],[109,105,110],[108,111,103],[105,110,116],[98,111,111,108],[116,104,105,115],[115,111,114,116],[111,112],[114,117,108,101],[115,112,101,99],[100,101,115,99],[115,99,114,105,112,116]].map Ab
def hasS(xs:XN)(s:KB):Bool:=xs.any λx=>decide (x=s)
def isKw(s:KB):Bool:=hasS HT s
def Bg(s:KB):Bool:=decide (s.size≠0/\s.size<=40/\E2 (A7 s 0)=true/\(∀i:Nat,i<s.size->E3 (A7 s i)=true))&&!isKw s
theorem c198{V:Mem}{l:Sl}{xs:XN}{s:KB}(h:Ae V l 1 (xs.map λx=>[vS x])):PP 198 [l.v,uS s] V (uB (hasS xs s)):=by
 refine x198 ?_;refine AG xs.length (λi V1=>V1=V/\∀j:Nat,j<i->xs[j]?≠some s) ⟨rfl,by simp⟩ ?_;rintro i b _ J q ⟨rfl,o⟩ w;refine⟨λk=>?_,λu=>?_⟩
 .obtain⟨x,hm,p,c,y,n,m,g⟩:=h.get k;refine⟨n,m,k,_,g,λe=>?_,λe=>⟨h.succ k,w y _ _ ⟨rfl,λj r=>?_⟩⟩⟩
  .have:hasS xs s=true:=List.any_eq_true.2 ⟨x,hm,decide_eq_true e⟩;rw[this];exact⟨rfl,rfl⟩
  grind
 .have a:=(h.done u).2;have:s∉xs:=λhm=>by
   grind[xE,yf]
  have:hasS xs s=false:=by
   grind[hasS]
  simp_all
theorem c149{V:Mem}{s:KB}:PP 149 [uS s] V (uB (isKw s)):=by
 refine A6.mk (x149 ?_);refine x199 ?_;intro b k;refine⟨⟨some ⟨b,0,none⟩,31,31⟩,rfl,?_⟩;have h:∀V0:Mem,Ae (V0.set b (.cells ((HT.map yb).toArray) 9 (0,0))) ⟨some ⟨b,0,none⟩,31,31⟩ 1 (HT.map λx=>[vS x]):=
  λV0=>Ae.cells (xs:=HT) (row:=λx=>[vS x]) Av rfl (λ_=>rfl) rfl (xz rfl)
 refine(c198 (h _)).call ⟨_,rfl,rfl,Mem.sub_new k _⟩
theorem c110{V:Mem}{s:KB}:PP 110 [uS s] V (uB (Bg s)):=by
 refine x110 ?_;refine⟨λh=>?_,λh=>⟨λu=>?_,λu=>⟨by omega,c147.call ⟨_,rfl,λg=>?_,λg=>?_⟩⟩⟩⟩;.grind[Bg]
 .grind[Bg]
 .refine AG s.size (λi V1=>V1=V/\∀j:Nat,j<i->E3 (A7 s j)=true) ⟨rfl,by simp⟩ ?_;rintro i b _ J n ⟨rfl,w⟩ y;refine⟨λx=>⟨by omega,c148.call ⟨_,rfl,λhw=>⟨⟨by omega,by omega⟩,y (by omega) _ _ ⟨rfl,λj k=>?_⟩⟩,λhw=>?_⟩⟩,λl=>?_⟩;.grind
  .grind[E3,A7,Bg]
  .refine c149.call ⟨_,rfl,?_⟩;have a1:s.size≠0:=by omega
   have a2:s.size<=40:=by omega
   have a3:∀i:Nat,i<s.size->E3 (A7 s i)=true:=λj k=>w j (by omega);have:Bg s=!isKw s:=by unfold Bg;rw[decide_eq_true ⟨a1,a2,g,a3⟩];simp
   rw[this];exact⟨rfl,rfl⟩
 grind[E2,A7,Bg]
attribute [local irreducible] Go.Sx.Tri
def Bs(s:KB):XV:=[vS s]
def strV(s:KB):Value:=vS s
section
variable{α:Type}
def IdxP(f:FuncId)(row:α->XV)(v:α->Value)(sz:Nat):Prop:=∀{V:Mem}{l:Sl}{xs:List α}{g:Nat}{first caps:XV}(u:Gy g)(St h:Nat->Mem->Prop)(k:∀i V1,St i V1->Ae V1 l sz (xs.map row))(w:St 0 V)
  (y:∀i x V1,xs[i]?=some x->St i V1->Tri xV g (first.toArray++#[v x]++caps.toArray) V1 λe V2=>∃b:Bool,e=EQ b/\(b=true->h i V2)/\(b=false->St (i+1) V2)),
  Tri xV f #[l.v,.func (.func g) first.toArray caps.toArray] V λe V'=>(∃i:Nat,e=Id i/\h i V')∨(e=Id (-1)/\St xs.length V')
def ConP(f:FuncId)(row:α->XV)(v:α->Value)(sz:Nat):Prop:=∀{V:Mem}{l:Sl}{xs:List α}{g:Nat}{first caps:XV}(u:Gy g)(St h:Nat->Mem->Prop)(k:∀i V1,St i V1->Ae V1 l sz (xs.map row))(w:St 0 V)
  (y:∀i x V1,xs[i]?=some x->St i V1->Tri xV g (first.toArray++#[v x]++caps.toArray) V1 λe V2=>∃b:Bool,e=EQ b/\(b=true->h i V2)/\(b=false->St (i+1) V2)),
  Tri xV f #[l.v,.func (.func g) first.toArray caps.toArray] V λe V'=>(∃i:Nat,e=EQ true/\h i V')∨(e=EQ false/\St xs.length V')
def ConC(f:FuncId)(row:α->XV)(v:α->Value)(sz:Nat):Prop:=∀{V:Mem}{l:Sl}{xs:List α}{g:Nat}{first caps:XV}(h:Ae V l sz (xs.map row))(k:Gy g)(p:α->Bool) (u:∀x∈xs,PP g (first++[v x]++caps) V (uB (p x))),PP f [l.v,.func (.func g) first.toArray caps.toArray] V (uB (xs.any p))
variable{f fc:FuncId}{row:α->XV}{v:α->Value}{sz:Nat}
theorem conG(h:IdxP f row v sz)(x:∀{l:Sl}{c:Value}{V:Mem}{R:RP},(TT f #[uL l,K.cast .f c] V λe V1=>∃y,e=rV (uI y)/\R (rV (uB (decide (0<=y)))) V1)->TT fc #[uL l,K.cast .f c] V R):ConP fc row v sz:=by
 intro V l xs g first u j St w k n m
 refine x (c:=.func (.func g) first.toArray u.toArray) (Tri.mono (h j St w k n m) ?_);rintro e V' (⟨i,rfl,h⟩|⟨rfl,h⟩)
 .refine⟨_,rfl,.inl ⟨i,?_,h⟩⟩;rfl
 simp_all
theorem conC(H:ConP fc row v sz):ConC fc row v sz:=by
 intro V l xs g first n h r p o
 refine Tri.mono (H r (λi V1=>V1=V/\∀j x,j<i->xs[j]?=some x->p x=false) (λi V1=>V1=V/\∃x∈xs,p x=true) (λi V1 k=>k.1▸h) ⟨rfl,λj x u=>absurd u (Nat.not_lt_zero _)⟩ ?_) ?_
 .rintro i x _ w ⟨rfl,k⟩;have hm:x∈xs:=xw w;have:=(o x hm).callv (q:=λe V2=>∃b:Bool,e=EQ b/\(b=true->V2=_/\∃x∈xs,p x=true)/\(b=false->V2=_/\∀j x,j<i+1->xs[j]?=some x->p x=false)) ⟨_,rfl,λm=>⟨rfl,x,hm,m⟩,λm=>⟨rfl,λj y u c=>by
   grind⟩⟩
  exact this
 .rintro e V' (⟨i,rfl,rfl,x,hm,w⟩|⟨rfl,rfl,k⟩);.grind
  .have:xs.any p=false:=List.any_eq_false.2 λx hm w=>by
    obtain⟨j,u,rfl⟩:=xE.1 hm;simp_all
   simp_all
end
theorem Ng:IdxP 76 Fld.row Fld.v 2:=by
 intro V l xs g first w q St o k p c
 refine PD (a:=l) (b:=.func (.func g) first.toArray w.toArray) ?_;refine AG xs.length St p ?_;intro i b V1 J Y r d;have h:=k i V1 r;refine⟨λu=>?_,λj=>?_⟩
 .obtain⟨x,hm,s,W,H,n,G,y⟩:=h.get u;refine⟨n,G,u,_,_,y,g,_,_,rfl,q,Tri.mono (c i x V1 s r) ?_⟩;rintro e V2 ⟨b,rfl,N,Z⟩;exact⟨b,rfl,λm=>.inl ⟨i,rfl,N m⟩,λm=>⟨h.succ u,d H _ _ (Z (by simpa using m))⟩⟩
 .have e:i=xs.length:=by have:=(h.done j).2;omega
  simp_all
theorem Ql:ConP 42 Fld.row Fld.v 2:=conG Ng O7
theorem IJ:ConC 42 Fld.row Fld.v 2:=conC Ql
theorem Nh:IdxP 40 Iv.row Iv.v 6:=by
 intro V l xs g first w q St o k p c
 refine O5 (a:=l) (b:=.func (.func g) first.toArray w.toArray) ?_;refine AG xs.length St p ?_;intro i b V1 J Y r d;have h:=k i V1 r;refine⟨λu=>?_,λj=>?_⟩
 .obtain⟨x,hm,s,W,H,n,G,y⟩:=h.get u;refine⟨n,G,u,_,_,_,_,_,_,y,g,_,_,rfl,q,Tri.mono (c i x V1 s r) ?_⟩;rintro e V2 ⟨b,rfl,N,Z⟩;exact⟨b,rfl,λm=>.inl ⟨i,rfl,N m⟩,λm=>⟨h.succ u,d H _ _ (Z (by simpa using m))⟩⟩
 .have e:i=xs.length:=by have:=(h.done j).2;omega
  simp_all
theorem g295:ConP 295 Iv.row Iv.v 6:=conG Nh x295
theorem c295:ConC 295 Iv.row Iv.v 6:=conC g295
theorem g220:IdxP 220 Ty.row Ty.v 2:=by
 intro V l xs g first w q St o k p c
 refine x220 (a:=l) (b:=.func (.func g) first.toArray w.toArray) ?_;refine AG xs.length St p ?_;intro i b V1 J Y r d;have h:=k i V1 r;refine⟨λu=>?_,λj=>?_⟩
 .obtain⟨x,hm,s,W,H,n,G,y⟩:=h.get u;refine⟨n,G,u,_,_,y,g,_,_,rfl,q,Tri.mono (c i x V1 s r) ?_⟩;rintro e V2 ⟨b,rfl,N,Z⟩;exact⟨b,rfl,λm=>.inl ⟨i,rfl,N m⟩,λm=>⟨h.succ u,d H _ _ (Z (by simpa using m))⟩⟩
 .have e:i=xs.length:=by have:=(h.done j).2;omega
  simp_all
theorem g165:ConP 165 Ty.row Ty.v 2:=conG g220 x165
theorem c165:ConC 165 Ty.row Ty.v 2:=conC g165
theorem Ni:IdxP 86 Pr.row Pr.v 5:=by
 intro V l xs g first w q St o k p c
 refine PN (a:=l) (b:=.func (.func g) first.toArray w.toArray) ?_;refine AG xs.length St p ?_;intro i b V1 J Y r d;have h:=k i V1 r;refine⟨λu=>?_,λj=>?_⟩
 .obtain⟨x,hm,s,W,H,n,G,y⟩:=h.get u;refine⟨n,G,u,_,_,_,_,_,y,g,_,_,rfl,q,Tri.mono (c i x V1 s r) ?_⟩;rintro e V2 ⟨b,rfl,N,Z⟩;exact⟨b,rfl,λm=>.inl ⟨i,rfl,N m⟩,λm=>⟨h.succ u,d H _ _ (Z (by simpa using m))⟩⟩
 .have e:i=xs.length:=by have:=(h.done j).2;omega
  simp_all
theorem Qm:ConP 45 Pr.row Pr.v 5:=conG Ni O9
theorem IK:ConC 45 Pr.row Pr.v 5:=conC Qm
theorem g286:IdxP 286 Bd.row Bd.v 5:=by
 intro V l xs g first w q St o k p c
 refine x286 (a:=l) (b:=.func (.func g) first.toArray w.toArray) ?_;refine AG xs.length St p ?_;intro i b V1 J Y r d;have h:=k i V1 r;refine⟨λu=>?_,λj=>?_⟩
 .obtain⟨x,hm,s,W,H,n,G,y⟩:=h.get u;refine⟨n,G,u,_,_,_,_,_,y,g,_,_,rfl,q,Tri.mono (c i x V1 s r) ?_⟩;rintro e V2 ⟨b,rfl,N,Z⟩;exact⟨b,rfl,λm=>.inl ⟨i,rfl,N m⟩,λm=>⟨h.succ u,d H _ _ (Z (by simpa using m))⟩⟩
 .have e:i=xs.length:=by have:=(h.done j).2;omega
  simp_all
theorem g218:ConP 218 Bd.row Bd.v 5:=conG g286 x218
theorem c218:ConC 218 Bd.row Bd.v 5:=conC g218
theorem g179:IdxP 179 E.row E.v 4:=by
 intro V l xs g first w q St o k p c
 refine x179 (a:=l) (b:=.func (.func g) first.toArray w.toArray) ?_;refine AG xs.length St p ?_;intro i b V1 J Y r d;have h:=k i V1 r;refine⟨λu=>?_,λj=>?_⟩
 .obtain⟨x,hm,s,W,H,n,G,y⟩:=h.get u;refine⟨n,G,u,_,_,_,_,y,g,_,_,rfl,q,Tri.mono (c i x V1 s r) ?_⟩;rintro e V2 ⟨b,rfl,N,Z⟩;exact⟨b,rfl,λm=>.inl ⟨i,rfl,N m⟩,λm=>⟨h.succ u,d H _ _ (Z (by simpa using m))⟩⟩
 .have e:i=xs.length:=by have:=(h.done j).2;omega
  simp_all
theorem g132:ConP 132 E.row E.v 4:=conG g179 x132
theorem c132:ConC 132 E.row E.v 4:=conC g132
theorem g311:IdxP 311 Ms.row Ms.v 7:=by
 intro V l xs g first w q St o k p c
 refine x311 (a:=l) (b:=.func (.func g) first.toArray w.toArray) ?_;refine AG xs.length St p ?_;intro i b V1 J Y r d;have h:=k i V1 r;refine⟨λu=>?_,λj=>?_⟩
 .obtain⟨x,hm,s,W,H,n,G,y⟩:=h.get u;refine⟨n,G,u,_,_,_,_,_,_,_,y,g,_,_,rfl,q,Tri.mono (c i x V1 s r) ?_⟩;rintro e V2 ⟨b,rfl,N,Z⟩;exact⟨b,rfl,λm=>.inl ⟨i,rfl,N m⟩,λm=>⟨h.succ u,d H _ _ (Z (by simpa using m))⟩⟩
 .have e:i=xs.length:=by have:=(h.done j).2;omega
  simp_all
theorem g293:ConP 293 Ms.row Ms.v 7:=conG g311 x293
theorem c293:ConC 293 Ms.row Ms.v 7:=conC g293
theorem Qn:IdxP 55 Bs strV 1:=by
 intro V l xs g first w q St o k p c
 refine Ph (a:=l) (b:=.func (.func g) first.toArray w.toArray) ?_;refine AG xs.length St p ?_;intro i b V1 J Y r d;have h:=k i V1 r;refine⟨λu=>?_,λj=>?_⟩
 .obtain⟨x,hm,s,W,H,n,G,y⟩:=h.get u;refine⟨n,G,u,_,y,g,_,_,rfl,q,Tri.mono (c i x V1 s r) ?_⟩;rintro e V2 ⟨b,rfl,N,Z⟩;exact⟨b,rfl,λm=>.inl ⟨i,rfl,N m⟩,λm=>⟨h.succ u,d H _ _ (Z (by simpa using m))⟩⟩
 .have e:i=xs.length:=by have:=(h.done j).2;omega
  simp_all
theorem g23:ConP 23 Bs strV 1:=conG Qn OP
theorem Nj:ConC 23 Bs strV 1:=conC g23
end Go.Proofs
namespace Go.Proofs
open Go.Shelf
def Tryz.lays157_ren:Go.Shelf.Ren:=⟨λ|157=>178|229=>245|199=>246|261=>301|311=>334|312=>335|n=>n,λ|9=>9|31=>37|3=>3|5=>5|4=>4|119=>329|0=>0|40=>331|152=>368|21=>21|154=>370|51=>371|141=>373|196=>400|193=>397|198=>403|49=>401|194=>398|201=>406|226=>416|46=>255|227=>417|n=>n,λ|0=>0|6=>1|n=>n⟩
theorem Tryz.lays157:Go.Proofs.Lays.n157 xV Tryz.lays157_ren:={
 mixed:=by kernel_rfl
 f157:=Tryz.func178.trans (congrArg some (by kernel_rfl))
 f199:=Tryz.func246.trans (congrArg some (by kernel_rfl))
 f229:=Tryz.func245.trans (congrArg some (by kernel_rfl))
 f261:=Tryz.func301.trans (congrArg some (by kernel_rfl))
 f311:=Tryz.func334.trans (congrArg some (by kernel_rfl))
 f312:=Tryz.func335.trans (congrArg some (by kernel_rfl))
 t0:=Tryz.underlying0
 a0:=Tryz.isAgg0
 z0:=Tryz.sizeOf0
 v0:=Tryz.zeroValue0
 t3:=Tryz.underlying3
 a3:=Tryz.isAgg3
 z3:=Tryz.sizeOf3
 v3:=Tryz.zeroValue3
 t4:=Tryz.underlying4
 a4:=Tryz.isAgg4
 z4:=Tryz.sizeOf4
 v4:=Tryz.zeroValue4
 t5:=Tryz.underlying5
 a5:=Tryz.isAgg5
 z5:=Tryz.sizeOf5
 v5:=Tryz.zeroValue5
 t9:=Tryz.underlying9
 a9:=Tryz.isAgg9
 z9:=Tryz.sizeOf9
 v9:=Tryz.zeroValue9
 t21:=Tryz.underlying21
 a21:=Tryz.isAgg21
 z21:=Tryz.sizeOf21
 v21:=Tryz.zeroValue21
 t31:=Tryz.underlying37
 a31:=Tryz.isAgg37
 z31:=Tryz.sizeOf37
 v31:=Tryz.zeroValue37
 t40:=Tryz.underlying331
 a40:=Tryz.isAgg331
 z40:=Tryz.sizeOf331
 v40:=Tryz.zeroValue331
 t46:=Tryz.underlying255
 a46:=Tryz.isAgg255
 z46:=Tryz.sizeOf255
 v46:=Tryz.zeroValue255
 t49:=Tryz.underlying401
 a49:=Tryz.isAgg401
 z49:=Tryz.sizeOf401
 v49:=Tryz.zeroValue401
 t51:=Tryz.underlying371
 a51:=Tryz.isAgg371
 z51:=Tryz.sizeOf371
 v51:=Tryz.zeroValue371
 t119:=Tryz.underlying329
 a119:=Tryz.isAgg329
 z119:=Tryz.sizeOf329
 t141:=Tryz.underlying373
 a141:=Tryz.isAgg373
 z141:=Tryz.sizeOf373
 v141:=Tryz.zeroValue373
 t152:=Tryz.underlying368
 a152:=Tryz.isAgg368
 z152:=Tryz.sizeOf368
 v152:=Tryz.zeroValue368
 t154:=Tryz.underlying370
 a154:=Tryz.isAgg370
 z154:=Tryz.sizeOf370
 v154:=Tryz.zeroValue370
 t193:=Tryz.underlying397
 a193:=Tryz.isAgg397
 z193:=Tryz.sizeOf397
 v193:=Tryz.zeroValue397
 t194:=Tryz.underlying398
 a194:=Tryz.isAgg398
 z194:=Tryz.sizeOf398
 v194:=Tryz.zeroValue398
 t196:=Tryz.underlying400
 a196:=Tryz.isAgg400
 z196:=Tryz.sizeOf400
 v196:=Tryz.zeroValue400
 t198:=Tryz.underlying403
 a198:=Tryz.isAgg403
 z198:=Tryz.sizeOf403
 v198:=Tryz.zeroValue403
 t201:=Tryz.underlying406
 a201:=Tryz.isAgg406
 z201:=Tryz.sizeOf406
 v201:=Tryz.zeroValue406
 t226:=Tryz.underlying416
 a226:=Tryz.isAgg416
 z226:=Tryz.sizeOf416
 v226:=Tryz.zeroValue416
 t227:=Tryz.underlying417
 a227:=Tryz.isAgg417
 z227:=Tryz.sizeOf417
 v227:=Tryz.zeroValue417
 g0:=by kernel_rfl
 g6:=by kernel_rfl}
open Go.RowKit Go.Lib in
theorem Tryz.strings_Fields(s:KB)(w:World)(g:s.size<4294967281)(h:∀(j:Nat) b,s.data.toList[j]?=some b->b.toNat<128)(k:xv xV w "strings.asciiSpace" .u8 xu):
  Calls xV 178 #[uS s] w λe w'=>
   e=.returned (.slice (some ⟨w.heap.size,0,none⟩) (xr s.data.toList).length (xr s.data.toList).length)/\w'=w.alloc (.cells ((xr s.data.toList).map λl=>yb ⟨l.toArray⟩).toArray 9):=Any.strings_Fields Tryz.lays157 (by kernel_rfl) (by kernel_rfl) s w g h k
end Go.Proofs
namespace Go.Proofs
open Go Go.Sx
attribute [local irreducible] Go.Sx.Tri
class Tab (V:Mem):Prop where
 at_:∃t fr,V 0=some (.cells (xu.map λz=>Value.int .u8 z).toArray t fr)
theorem Tab.sub{V V':Mem}(h:Tab V)(k:V.sub V'):Tab V':=by
 obtain⟨t,fr,h⟩:=h.at_;exact⟨t,fr,k _ _ h⟩
theorem Tab.is{V:Mem}{w:World}(h:Tab V)(k:V.le w):xv xV w "strings.asciiSpace" .u8 xu:=by
 obtain⟨t,fr,h⟩:=h.at_;have g:xV.globalNamed "strings.asciiSpace" =some 0:=by kernel_rfl
 unfold xv World.var?;rw[g,Option.bind_some,k _ _ h]
theorem frm_new{V:Mem}{w:World}(hw:V.le w)(o:Obj):V w.heap.size=none/\Ax V w (V.set w.heap.size o) (w.alloc o):=by
 have g:V w.heap.size=none:=by
  cases u:V w.heap.size with
  |none=>rfl
  |some o=>have:=(yN.1 (hw _ o u)).1;omega
 refine⟨g,by simp,λb o h=>?_,λb h _=>xq _ _ _ h,λb h=>?_,rfl,rfl⟩
 .by_cases e:b=w.heap.size;.grind[Mem.set_same,World.alloc_heap_new]
  .rw[Mem.set_ne e]at h;have k:=(yN.1 (hw b o h)).1;exact(xq _ _ _ k).trans (hw b o h)
 grind[inr,Mem.set_ne]
def kwText:KB:=Ab [97,110,100,32,98,111,111,108,32,98,111,117,110,100,32,100,101,115,99,32,101,108,115,101,32,102,97,108,115,101,32,105,102,32,105,110,116,32,105,110,118,97,114,105,97,110,116,32,108,111,99,97,108,32,108,111,103,32,109,97,120,32,109,101,97,115,117,114,101,32,109,105,110,32,110,101,119,32,110,105,108,32,110,111,116,32,111,112,32,111,114,32,112,111,116,101,110,116,105,97,108,32,112,114,111,99,32,114,101,116,117,114,110,32,114,117,108,101,32,115,99,114,105,112,116,32,115,111,114,116,32,115,112,101,99,32,116,104,105,115,32,116,114,117,101,32,116,121,112,101,32,118,97,114,32,119,104,105,108,101]
def E4:XN:=(xr kwText.data.toList).map λl=>⟨l.toArray⟩
theorem kwText_size:kwText.size=160:=by kernel_rfl
theorem Nk:E4.length=31:=by kernel_rfl
theorem c128{V:Mem}(k:Tab V):Tri xV 128 #[] V λe V'=>∃b,V b=none/\e=.returned (.slice (sa b) 31 31)/\V'=V.set b (.cells (E4.map yb).toArray 9 (0,0)):=by
 refine x128 ?_;refine Tri.mono (R:=λe V'=>∃b,V b=none/\e=.returned (.slice (sa b) 31 31)/\V'=V.set b (.cells (E4.map yb).toArray 9 (0,0))) ?_ ?_
 .unfold Tri;intro w hw;refine Gu (Tryz.strings_Fields kwText w (by rw[kwText_size];decide) ?_ (k.is hw)) ?_
  .have h:(kwText.data.toList.all λb=>decide (b.toNat<128))=true:=by kernel_rfl
   grind
  .rintro e w' ⟨rfl,rfl⟩;obtain⟨g,u⟩:=frm_new hw (.cells (E4.map yb).toArray 9);refine⟨_,⟨w.heap.size,g,?_,rfl⟩,?_⟩;.rfl
   .have e:((xr kwText.data.toList).map λl=>yb ⟨l.toArray⟩)=E4.map yb:=by
     rfl
    rw[e];exact u
 .rintro e V' ⟨b,y,rfl,rfl⟩;exact⟨⟨some ⟨b,0,none⟩,31,31⟩,rfl,b,y,rfl,rfl⟩
theorem c244{V:Mem}{s:KB}:PP 244 [uS s] V (uB false):=by
 refine x244 ?_;simp
theorem c177{V:Mem}{s:KB}:PP 177 [uS s] V (uB false):=by
 refine x177 ?_;simp
def FA(s t:KB):Bool:=xo s.toList t.toList
theorem c176{V:Mem}{s t:KB}:PP 176 [uS s,uS t] V (uB (FA s t)):=by
 refine x176 ?_;refine c244.call ⟨_,rfl,λh=>?_,λ_=>⟨rfl,rfl⟩⟩;cases h
theorem bl_trans:∀{a b c:List UInt8},xo a b=true->xo b c=true->xo a c=true
 |_,[],_,h,_=>by simp[xo]at h
 |_,_::_,[],_,k=>by simp[xo]at k
 |[],_::_,_::_,_,_=>rfl
 |a::x,b::y,c::z,h,k=>by
  simp only[xo,Bool.or_eq_true,decide_eq_true_eq,zD,beq_iff_eq]at h k⊢;rcases h with h|⟨rfl,h⟩;.grind
  .rcases k with k|⟨rfl,k⟩;.exact .inl k
   .exact .inr ⟨rfl,bl_trans h k⟩
theorem Lk{a b c:KB}(h:FA a b=true)(k:FA b c=true):FA a c=true:=bl_trans h k
theorem bl_irrefl:∀l:List UInt8,xo l l=false
 |[]=>rfl
 |a::l=>by
  have h:¬(a<a):=by simp_all
  simp[xo,bl_irrefl l,h]
theorem ltB_irrefl(a:KB):FA a a=false:=bl_irrefl _
def JJ:XN->Bool
 |a::b::l=>FA a b&&JJ (b::l)
 |_=>true
theorem IL:∀{l:XN},JJ l=true->∀(i j:Nat)(x y:KB),i<j->l[i]?=some x->l[j]?=some y->FA x y=true
 |[],_,i,j,x,y,_,k,_=>by simp at k
 |[a],_,i,j,x,y,u,k,g=>by
  grind
 |a::b::l,h,i,j,x,y,u,k,g=>by
  simp only[JJ,zD]at h;cases j with
  |zero=>omega
  |succ j=>
   rw[xn]at g;cases i with
   |succ i=>rw[xn]at k;exact IL h.2 i j x y (by omega) k g
   |zero=>
    simp only[xm,zH]at k;subst k;cases j with
    |zero=>simp_all
    |succ j=>exact Lk h.1 (IL h.2 0 (j+1) b y (by omega) rfl g)
theorem GenK.shr1{V:Mem}{vals:Operand->Value}{t ty:TypeId}{n:Int}(hv:vals (.tmp 19)=.int .u64 n)(h:vals (.const (.int .u64 1))=.int .u64 1){q:Value->Mem->Prop}(k:q (.int .u64 (n/2)) V):
  GenK xV (.binOp .shr t (.tmp 19) (.const (.int .u64 1)) t) ty vals V q:=by
 intro w hw;refine⟨_,w,V,?_,Ax.refl hw,k⟩;have e:Op.shift .shr .u64 n .u64 1=pure (.int .u64 (n/2)):=by
  unfold Op.shift;rw[if_neg (by decide)];show pure (Value.int .u64 (n.fdiv (2^1)))=_;grind
 simp_all[execOp,eqGuard,binOp_shr]
theorem Ll{xs:XN}{s:KB}:hasS xs s=true↔s∈xs:=by
 grind[hasS]
def kwIx(s:KB):Bool:=hasS E4 s
theorem kwIx_eq(s:KB):kwIx s=isKw s:=by
 have h:(E4.all λx=>HT.any λy=>decide (y=x))=true:=by kernel_rfl
 have k:(HT.all λx=>E4.any λy=>decide (y=x))=true:=by kernel_rfl
 unfold kwIx isKw;rw[Bool.eq_iff_iff,Ll,Ll];grind
theorem c127{V:Mem}{l:Sl}{xs:XN}{s:KB}(h:Ae V l 1 (xs.map λx=>[vS x]))(d:JJ xs=true)(Y:xs.length<=1000):
  Tri xV 127 #[l.v,uS s] V λe V'=>∃n:Int,e=rT #[uI n,.bool (hasS xs s)]/\V'=V:=by
 refine x127 ?_;have P:=h.n_eq;have B:=h.cap;have C:=h.fit;refine⟨λn O V1=>∃i j:Nat,O=[uI i,uI j]/\V1=V/\i<=j/\j<=xs.length/\n=j-i/\(∀(k:Nat) x,k<i->xs[k]?=some x->FA x s=true)/\(∀(k:Nat) x,j<=k->xs[k]?=some x->FA x s=false),xs.length,
  ⟨0,xs.length,by rw[P];rfl,rfl,by omega,by omega,by omega,λk x p=>by omega,λk x p c=>by simp_all⟩,?_⟩
 rintro n V1 D E ⟨i,j,m,rfl,A,I,rfl,H,G⟩ J W;simp only[List.cons.injEq,Value.int.injEq,true_and,and_true]at m;obtain⟨rfl,rfl⟩:=m;refine⟨λu=>?_,λM=>?_⟩
 .refine⟨⟨by omega,by omega⟩,⟨by show(0:Int)<=_;omega,by show _<=(18446744073709551615:Int);omega⟩,?_⟩;refine GenK.shr1 (n:=(i:Int)+j) rfl rfl ⟨_,rfl,⟨by omega,by omega⟩,?_⟩;have hm:((i:Int)+j)/2=((i+j)/2:Nat):=by omega
  rw[hm];obtain⟨x,r,c,F,L,b,a,g⟩:=h.get (i:=(i+j)/2) (by omega);refine⟨b,a,by omega,x,g,c176.call ⟨_,rfl,λq=>⟨⟨by omega,by omega⟩,?_⟩,λq=>?_⟩⟩
  .refine W (j-((i+j)/2+1)) _ _ (by omega) ⟨(i+j)/2+1,j,rfl,rfl,by omega,I,rfl,λk y p m=>?_,G⟩;rcases Nat.lt_or_ge k ((i+j)/2)with w|w;.exact Lk (IL d k _ y x w m c) q
   grind
  .refine W ((i+j)/2-i) _ _ (by omega) ⟨i,(i+j)/2,rfl,rfl,by omega,by omega,rfl,H,λk y p m=>?_⟩;cases X:FA y s with
   |false=>rfl
   |true=>
    rcases Nat.lt_or_ge ((i+j)/2) k with w|w;.exact absurd (Lk (IL d _ k x y w c m) X) q
    grind
 .have o:i=j:=by omega
  subst o;have key:s∈xs->xs[i]?=some s:=λhm=>by
   obtain⟨k,p,e⟩:=xE.1 hm;have N:xs[k]?=some s:=by simp_all
   rcases Nat.lt_trichotomy k i with w|w|w;.grind[ltB_irrefl]
   .grind
   .have Z:i<xs.length:=by omega
    have K:=IL d i k xs[i] s w (yf Z) N;grind
  refine⟨λu=>?_,λQ=>?_⟩
  .obtain⟨x,r,c,F,L,b,a,g⟩:=h.get (i:=i) u;refine⟨b,a,u,x,g,λe=>?_,λe=>⟨b,a,u,x,g,c177.call ⟨_,rfl,λq=>?_,λ_=>?_⟩⟩⟩
   .subst e;exact⟨i,by rw[Ll.2 r],rfl⟩
   .cases q
   .refine⟨i,?_,rfl⟩;grind[hasS,absurd]
  .refine⟨i,?_,rfl⟩;grind[hasS]
theorem Qo{V:Mem}{s:KB}(k:Tab V):PP 88 [uS s] V (uB (isKw s)):=by
 refine A6.mk ?_;refine PQ ?_;refine Tri.mono (c128 k) ?_;rintro _ V' ⟨b,g,rfl,rfl⟩;refine⟨⟨some ⟨b,0,none⟩,31,31⟩,rfl,?_⟩;have h:Ae (V.set b (.cells ((E4.map yb).toArray) 9 (0,0))) ⟨some ⟨b,0,none⟩,31,31⟩ 1 (E4.map λx=>[vS x]):=
  Ae.cells (xs:=E4) (row:=λx=>[vS x]) Av (by simp;rfl) (λ_=>rfl) Nk.symm (xz rfl)
 refine Tri.mono (c127 h (by kernel_rfl) (by rw[Nk];decide)) ?_;rintro _ V2 ⟨n,rfl,rfl⟩;exact⟨n,_,rfl,by rw[<-kwIx_eq];rfl,Mem.sub_new g _⟩
theorem Eb{V:Mem}[Tab V]{s:KB}:PP 47 [uS s] V (uB (Bg s)):=by
 refine Pb ?_;refine⟨λh=>?_,λh=>⟨λu=>?_,λu=>?_⟩⟩;.subst h;exact⟨rfl,rfl⟩
 .grind[Bg]
 .have r:s.size≠0:=λe=>h (by
   have:s.data=#[]:=Array.eq_empty_of_size_eq_zero e;cases s;simp only at this;subst this;rfl)
  refine⟨by omega,Nf.call ⟨_,rfl,λw=>?_,λw=>?_⟩⟩
  .refine(Qo inferInstance).call ⟨_,rfl,λg=>?_,λg=>?_⟩;.simp[Bg,g]
   .refine AG s.size (λi V1=>V1=V/\∀j:Nat,j<i->E3 (A7 s j)=true) ⟨rfl,by simp⟩ ?_;rintro i b _ J q ⟨rfl,y⟩ x;refine⟨λl=>⟨by omega,Nf.call ⟨_,rfl,λhw=>?_,λhw=>⟨⟨by omega,by omega⟩,x (by omega) _ _ ⟨rfl,λj k=>?_⟩⟩⟩⟩,λn=>?_⟩
    .rw[cls_word]at hw;grind[E3,A7,Bg]
    .rcases Nat.lt_succ_iff_lt_or_eq.1 k with m|rfl;.exact y j m
     simp_all[cls_word]
    grind[Nat,E3,A7,Bg,isKw,decide_eq_true,cls_two]
  grind[cls_two,E2,A7,Bg]
/-! Nodes. -/
def BD(op:Int):Int:=if(1<=op/\op<=4)∨op=6 then 0 else if op=5∨op=8∨op=18∨op=24 then 1 else if op=7 then -1 else if op=21 then 3 else if 9<=op/\op<=23 then 2 else -2
theorem c317{V:Mem}{op:Int}:PP 317 [uI op] V (uI (BD op)):=by
 refine x317 ?_;have key:∀n:Int,BD op=n->xY (uI n)=xY (uI (BD op)):=λn h=>by rw[h]
 unfold BD at key
 repeat' (first|intro _|apply xZ)
 all_goals first|rfl|(refine key _ ?_;grind)
theorem c129{V:Mem}{op:Int}:PP 129 [uI op] V (.tuple #[uI (if BD op=-2 then 2 else BD op),.bool (decide (BD op≠-2))]):=by
 refine x129 ?_;have key:∀(n:Int)(b:Bool),(if BD op=-2 then 2 else BD op)=n->decide (BD op≠-2)=b->xY (.tuple #[uI n,.bool b])=xY (.tuple #[uI (if BD op=-2 then 2 else BD op),.bool (decide (BD op≠-2))]):=λn b h k=>by rw[h,k]
 unfold BD at key
 repeat' (first|intro _|apply xZ)
 all_goals first|rfl|(refine key _ _ ?_ ?_<;>grind)
def sThis:KB:=Ab [116,104,105,115]
def Eo(op:Int)(s:KB):Bool:=if op=4 then decide (s=sThis)||Bg s else if op=5∨op=6∨op=7 then Bg s else decide (s=Ab [])
def numB(op n:Int):Bool:=if op=1 then decide (0<=n/\n<=1099511627776)else if op=2 then decide (n=0∨n=1)else decide (n=0)
def CL(op n:Int)(s:KB)(len:Int):Bool:=decide (BD op≠-2/\(0<=BD op->len=BD op)/\(BD op=-1->len<=6))&&Eo op s&&numB op n
theorem c318{V:Mem}{e:E}:PP 318 [e.v] V (uB (Eo e.op e.s)):=by
 refine x318 ?_;have key:∀b:Bool,Eo e.op e.s=b->xY (.bool b)=xY (.bool (Eo e.op e.s)):=λn h=>by rw[h]
 unfold Eo sThis at key
 repeat' (first|refine c110.call ⟨_,rfl,?_⟩|intro _|apply xZ)
 all_goals first|rfl|(refine key _ ?_;grind)
theorem c131{V:Mem}[Tab V]{e:E}:PP 131 [e.v] V (uB (Eo e.op e.s&&numB e.op e.n)):=by
 refine x131 ?_;have key:∀b:Bool,(Eo e.op e.s&&numB e.op e.n)=b->xY (.bool b)=xY (.bool (Eo e.op e.s&&numB e.op e.n)):=λn h=>by rw[h]
 unfold Eo numB sThis at key
 repeat' (first|refine Eb.call ⟨_,rfl,?_⟩|intro _|apply xZ)
 all_goals first|rfl|(refine key _ ?_;grind)
theorem c267{V:Mem}{e:E}{len:Int}(k:(e.l.n:Int)=len):PP 267 [e.v] V (uB (CL e.op e.n e.s len)):=by
 refine x267 ?_;rw[k];have key:∀b:Bool,CL e.op e.n e.s len=b->xY (.bool b)=xY (.bool (CL e.op e.n e.s len)):=λn h=>by rw[h]
 unfold CL numB at key;refine c317.call ⟨_,rfl,?_⟩
 repeat' (first|refine(c318 (e:=e)).call ⟨_,rfl,?_⟩|intro _|apply xZ)
 all_goals first|rfl|(refine key _ ?_;grind)
mutual
def BF(d:Int):E->Bool|.mk op n s _ k=>decide (d<=60)&&CL op n s k.length&&okEs (d+1) k
def okEs(d:Int):XY->Bool|[]=>true|x::xs=>BF d x&&okEs d xs
end
mutual
def Az:E->Nat|.mk _ _ _ _ k=>1+CE k
def CE:XY->Nat|[]=>0|x::xs=>Az x+CE xs
end
mutual
def cntE(d:Int):E->Int|.mk op n s _ k=>if 60<d then 1001 else if CL op n s k.length=true then DD (d+1) 1 k else 1001
def DD(d acc:Int):XY->Int|[]=>acc|x::xs=>if 1000<acc+cntE d x then acc+cntE d x else DD d (acc+cntE d x) xs
end
mutual
def vE(left d:Int):E->Bool×Int|.mk op n s _ k=>if 0<=left-1/\d<=60/\CL op n s k.length=true then DK (left-1) (d+1) k else(false,left-1)
def DK(left d:Int):XY->Bool×Int|[]=>(true,left)|x::xs=>if(vE left d x).1=true then DK (vE left d x).2 d xs else(false,(vE left d x).2)
end
def Bh(e:E):Bool:=decide (BF 1 e=true/\Az e<=1000)
mutual
theorem vE_ok:∀(left d:Int)(e:E),((vE left d e).1=true↔BF d e=true/\(Az e:Int)<=left)/\((vE left d e).1=true->(vE left d e).2=left-Az e)
 |left,d,.mk op n s l k=>by
  have h:=vEs_ok (left-1) (d+1) k;grind[vE,BF,Az]
theorem vEs_ok:∀(left d:Int)(k:XY),0<=left->((DK left d k).1=true↔okEs d k=true/\(CE k:Int)<=left)/\((DK left d k).1=true->(DK left d k).2=left-CE k)
 |left,d,[],h=>by simp[DK,okEs,CE,h]
 |left,d,x::xs,h=>by
  have g:=vE_ok left d x;have u:=vEs_ok (vE left d x).2 d xs;grind[DK,okEs,CE]
end
mutual
theorem cntE_ok:∀(d:Int)(e:E),1<=cntE d e/\(cntE d e<=1000↔BF d e=true/\Az e<=1000)/\(cntE d e<=1000->cntE d e=Az e)/\cntE d e<=1001+1000*(61-d).toNat
 |d,.mk op n s l k=>by
  have h:=cntEs_ok (d+1) 1 k (by omega) (by omega);grind[cntE,BF,Az]
theorem cntEs_ok:∀(d acc:Int)(k:XY),1<=acc->acc<=1000->acc<=DD d acc k/\(DD d acc k<=1000↔okEs d k=true/\acc+CE k<=1000)/\(DD d acc k<=1000->DD d acc k=acc+CE k)/\DD d acc k<=2001+1000*(61-d).toNat
 |d,acc,[],h,g=>by simp[DD,okEs,CE];omega
 |d,acc,x::xs,h,g=>by
  have u:=cntE_ok d x;have w:=cntEs_ok d (acc+cntE d x) xs (by omega);grind[DD,okEs,CE]
end
theorem validE_cnt(e:E):decide (cntE 1 e<=1000)=Bh e:=by
 simp_all[cntE_ok,Bh]
theorem validE_v(e:E):(vE 1000 1 e).1=Bh e:=by
 grind[vE_ok,Bh]
theorem vE_bound{left d:Int}{e:E}(h:(vE left d e).1=true):0<=(vE left d e).2/\(vE left d e).2<=left:=by
 grind[vE_ok]
theorem cntE_eq(d:Int)(e:E):cntE d e=if 60<d then 1001 else if CL e.op e.n e.s e.k.length=true then DD (d+1) 1 e.k else 1001:=by
 cases e;unfold cntE;rfl
theorem vE_eq(left d:Int)(e:E):vE left d e=if 0<=left-1/\d<=60/\CL e.op e.n e.s e.k.length=true then DK (left-1) (d+1) e.k else(false,left-1):=by
 cases e;unfold vE;rfl
theorem cntEs_cons(d acc:Int)(x:E)(xs:XY):DD d acc (x::xs)=if 1000<acc+cntE d x then acc+cntE d x else DD d (acc+cntE d x) xs:=by rw[DD]
theorem vEs_cons(left d:Int)(x:E)(xs:XY):DK left d (x::xs)=if(vE left d x).1=true then DK (vE left d x).2 d xs else(false,(vE left d x).2):=by rw[DK]
theorem cntEs_nil(d acc:Int):DD d acc []=acc:=by rw[DD]
theorem vEs_nil(left d:Int):DK left d []=(true,left):=by rw[DK]
theorem c201{V:Mem}:∀e:E,E.Ok V e->∀d:Int,0<=d->d<=61->PP 201 [e.v,uI d] V (uI (cntE d e)):=by
 intro e;induction e using E.ind with
 |h e r=>
 intro n d q s;have u:=n.rows;refine x201 ?_;refine⟨λh=>?_,λh=>(c267 (e:=e) rfl).call ⟨_,rfl,λw=>?_,λw=>?_⟩⟩;.rw[cntE_eq,if_pos h];exact⟨rfl,rfl⟩
 .rw[u.n_eq]at w;rw[cntE_eq,if_neg h,if_pos w];refine loop3s BJ e.k.length (λi acc V1=>V1=V/\1<=acc/\acc<=1000/\DD (d+1) 1 e.k=DD (d+1) acc (e.k.drop i)) ⟨rfl,by omega,by omega,rfl⟩ ?_;rintro i acc c _ J H ⟨rfl,o,G,m⟩ N;refine⟨λg=>?_,λj=>?_⟩
  .obtain⟨x,hm,Z,l,Y,p,b,y⟩:=u.get g;have W:=cntE_ok (d+1) x;rw[l,cntEs_cons]at m;refine⟨p,b,g,_,_,_,_,y,⟨by omega,by omega⟩,(r x hm (n.kids x hm) (d+1) (by omega) (by omega)).call ⟨_,rfl,⟨by omega,by omega⟩,λa=>?_,λa=>⟨u.succ g,?_⟩⟩⟩;.simp_all
   grind
  .rw[(u.done j).1,cntEs_nil]at m;simp_all
 .rw[u.n_eq]at w;rw[cntE_eq,if_neg h,if_neg w];exact⟨rfl,rfl⟩
theorem c152{V:Mem}{e:E}(h:E.Ok V e):PP 152 [e.v] V (uB (Bh e)):=by
 refine x152 ?_;refine(c201 e h 1 (by omega) (by omega)).call ⟨_,rfl,?_⟩;rw[validE_cnt];simp_all
theorem c130{V:Mem}{b t:Nat}{n:Int}(h:V b=some (cell (uI n) t))(k:-1000<=n)(g:n<=100000):
  Tri xV 130 #[pv b] V λe V'=>e=.returned (uB (decide (0<=n-1)))/\V'=V.set b (cell (uI (n-1)) t):=by
 refine x130 ?_;refine⟨by simp,by simp,_,AD h,⟨by omega,by omega⟩,by simp,by simp,Am.cell h ⟨by simp,by simp,_,AD Av,rfl,rfl⟩⟩
set_option maxRecDepth 10000 in
theorem Qp{V0:Mem}[S:Tab V0]{b t:Nat}(y:V0 b=none):∀e:E,E.Ok V0 e->∀(V:Mem),V0.sub V->∀left d:Int,V b=some (cell (uI left) t)->0<=left->left<=1000->0<=d->d<=61 ->
    Tri xV 89 #[e.v,uI d,pv b] V λr V'=>r=.returned (uB (vE left d e).1)/\V'=V.set b (cell (uI (vE left d e).2) t):=by
  intro e;induction e using E.ind with
  |h e T=>
  intro C V N left d U hl0 hl1 hd0 hd;have D:=C.rows;have hn:=D.n_eq;refine Tri.less (PR ?_);refine c129.call ⟨_,_,rfl,Tri.mono (c130 U (by omega) (by omega)) ?_⟩;rintro _ _ ⟨rfl,rfl⟩;refine⟨_,rfl,?_⟩;have w:¬(0<=left-1/\d<=60/\CL e.op e.n e.s e.k.length=true)->∃W,(xY (.bool false)=xY (.bool (vE left d e).1)/\W=V.set b (cell (uI (vE left d e).2) t))/\W.sub (V.set b (cell (uI (left-1)) t)):=by
    intro h;rw[vE_eq,if_neg h];exact⟨_,⟨rfl,rfl⟩,Mem.sub.refl _⟩
  have u:(0<=left-1/\d<=60/\CL e.op e.n e.s e.k.length=true)->Af [(uI d)] 3 (V.set b (cell (uI (left-1)) t)) fun Z V4 =>
        Af [(pv b)] 163 V4 λY V5=>
        Tri xV 132 #[(.slice e.l.p e.l.n e.l.c),(.func (.func 133) #[] #[(.pointer (Aa Z 0)),(.pointer (Aa Y 0))])] V5 λr V6=>∃a:Bool,r=EQ a/\
        ∃W,(xY (.bool (!a))=xY (.bool (vE left d e).1)/\W=V.set b (cell (uI (vE left d e).2) t))/\W.sub V6:=by
    intro h b1 j b2 m;rw[vE_eq,if_pos h];have n1:b≠b1:=λe=>by grind[Mem.set_same]
    have n2:b1≠b2:=λe=>by grind[Mem.set_same]
    have n3:b≠b2:=λe=>by grind[Mem.set_ne,Mem.set_same]
    rw[Mem.set_ne (λe=>n1 e.symm)]at j;rw[Mem.set_ne (λe=>n2 e.symm),Mem.set_ne (λe=>n3 e.symm)]at m;have v1:V0 b1=none:=by cases Q:V0 b1 with
      |none=>rfl
      |some x=>rw[N _ _ Q]at j;cases j
    have v2:V0 b2=none:=by cases Q:V0 b2 with
      |none=>rfl
      |some x=>rw[N _ _ Q]at m;cases m
    let M:Int->Mem:=λg=>((V.set b (cell (uI g) t)).set b1 (cell (uI d) 3)).set b2 (cell (pv b) 163);have K:∀g,V0.sub (M g):=λg=>((N.set y _).set v1 _).set v2 _;have P:∀g,M g b=some (cell (uI g) t):=λg=>by grind[Mem.set_ne,Mem.set_same]
    have O:∀g,M g b1=some (cell (uI d) 3):=λg=>by grind[Mem.set_ne,Mem.set_same]
    have A:∀g,M g b2=some (cell (pv b) 163):=λg=>by grind[Mem.set_same]
    have hMs:∀g q,(M g).set b (cell (uI q) t)=M q:=λg q=>by
      grind[Mem.set_comm,Mem.set_set]
    have hW:∀g,(V.set b (cell (uI g) t)).sub (M g):=λg=>by
      refine((Mem.sub.refl _).set ?_ _).set ?_ _;· grind[Mem.set_ne]
      grind[Mem.set_ne]
    refine Tri.mono (g132 (l:=e.l) (xs:=e.k) (first:=[]) (caps:=[pv b1,pv b2]) Tryz.call133
      (λi V1=>∃g,V1=M g/\0<=g/\g<=1000/\DK (left-1) (d+1) e.k=DK g (d+1) (e.k.drop i)) (λi V1=>∃g,V1=M g/\DK (left-1) (d+1) e.k=(false,g)) ?_ ⟨left-1,rfl,by omega,by omega,rfl⟩ ?_) ?_
    · rintro i _ ⟨g,rfl,-⟩;exact D.sub (K g)
    · rintro i x _ I ⟨g,rfl,H,J,o⟩;have hm:=xw I;have F:=(yg.1 I).1;have L:e.k.drop i=x::e.k.drop (i+1):=by rw[List.drop_eq_getElem_cons F,(yg.1 I).2]
      rw[L,vEs_cons]at o;refine x133 ?_;refine⟨_,AD (O g),⟨by omega,by omega⟩,_,AD (A g),Tri.mono (T x hm (C.kids x hm) (M g) (K g) g (d+1) (P g) H J (by omega) (by omega)) ?_⟩;rintro _ _ ⟨rfl,rfl⟩;refine⟨_,rfl,_,rfl,λy=>?_,λy=>?_⟩;· simp_all
      · have y:(vE g (d+1) x).1=true:=by simpa using y
        have:=vE_bound y;grind
    · rintro _ _ (⟨i,rfl,g,rfl,o⟩|⟨rfl,g,rfl,H,J,o⟩);· simp_all
      · rw[List.drop_length,vEs_nil]at o;exact⟨_,rfl,_,⟨by rw[o];rfl,rfl⟩,by rw[o];exact hW g⟩
  have key:CL e.op e.n e.s e.k.length=(decide (BD e.op≠-2/\(0<=BD e.op->(e.k.length:Int)=BD e.op)/\(BD e.op=-1->(e.k.length:Int)<=6))&&(Eo e.op e.s&&numB e.op e.n)):=by grind[CL]
  have pr:-2<=BD e.op:=by unfold BD;grind
  rw[key]at w u;have X:(e.k.length:Int)=(e.l.n:Int):=by rw[hn]
  rw[X]at w u;generalize hkn:(e.l.n:Int)=kn at w u⊢;generalize hpn:BD e.op=pn at w u pr⊢;generalize B:(Eo e.op e.s&&numB e.op e.n)=nm at w u⊢;haveI:Tab (V.set b (cell (uI (left-1)) t)):=Tab.sub S (N.set y _);refine⟨λh8=>⟨λG=>w λh=>absurd h.2.1 (Int.not_le.2 G),λG=>⟨λh7=>(c131 (e:=e)).call ⟨nm,by rw[B],λh9=>?_,λh9=>w ?_⟩,λh7=>w ?_⟩⟩,λh8=>w ?_⟩;· grind
  · simp_all
  · simp_all
  grind
theorem HU{V:Mem}[Tab V]{e:E}(h:E.Ok V e):PP 50 [e.v] V (uB (Bh e)):=by
 refine A6.mk (Pe ?_);intro b k;refine Tri.mono (Qp k e h _ (Mem.sub_new k _) 1000 1 Av (by omega) (by omega) (by omega) (by omega)) ?_;rintro _ _ ⟨rfl,rfl⟩;rw[validE_v,Mem.set_set];exact⟨_,rfl,rfl,Mem.sub_new k _⟩
def Lm:XY->Int|[]=>0|e::_=>e.op
def GA(op:Int)(s:KB)(es:XY)(k h:Int):Bool:=
 if op=1 then Bg s&&decide ((es.length:Int)=1/\k=0/\h=0)else if op=2 then Bg s&&decide ((es.length:Int)=2/\k=0/\h=0)else if op=3 then decide (s=Ab []/\(es.length:Int)=1)
 else if op=4 then decide (s=Ab []/\(es.length:Int)=1/\h=0)else if op=5 then decide (s=Ab []/\(es.length:Int)<=1/\k=0/\h=0)else if op=6 then decide (s=Ab []/\(es.length:Int)=1/\Lm es=7/\k=0/\h=0)else false
def Db(op:Int)(s:KB)(es:XY)(h k:Int):Bool:=GA op s es h k&&es.all Bh
theorem c266{V:Mem}{s:S}(h:S.Ok V s){lo hi:Int}:PP 266 [s.v,uI lo,uI hi] V (uB (decide (lo<=s.es.length/\(s.es.length:Int)<=hi)&&s.es.all Bh)):=by
 have u:=h.eRows;have d:=u.n_eq;rw[show s.v=.agg #[uI s.op,uS s.s,.slice s.el.p s.el.n s.el.c,.slice s.ll.p s.ll.n s.ll.c,.slice s.xl.p s.xl.n s.xl.c]by unfold S.v;rw[S.row_eq];rfl];refine x266 ?_;refine⟨λy=>?_,λy=>⟨λj=>?_,λj=>?_⟩⟩;.grind
 .grind
 .rw[decide_eq_true (by omega),Bool.true_and];refine AG s.es.length (λi V1=>V1=V/\s.es.all Bh=(s.es.drop i).all Bh) ⟨rfl,rfl⟩ ?_;rintro i b _ J hi ⟨rfl,l⟩ m;refine⟨λk=>?_,λr=>?_⟩
  .obtain⟨x,hm,H,w,q,o,a,g⟩:=u.get k;rw[w,List.all_cons]at l;refine⟨o,a,k,_,_,_,_,g,(c152 (h.eOk x hm)).call ⟨_,rfl,λe=>⟨u.succ k,m q _ _ ⟨rfl,?_⟩⟩,λe=>?_⟩⟩;.simp_all
   simp_all
  grind
theorem JK{V:Mem}{s:S}(h:S.Ok V s):(s.es=[]/\s.el.n=0)∨∃k r,s.es=k::r/\0<s.el.n/\¬(s.el.p=none)/\¬(Aa s.el.p 0=none)/\V.rowp s.el.p 0 4=some [uI k.op,uI k.n,uS k.s,.slice k.l.p k.l.n k.l.c]:=by
 have w:=h.eRows;have o:=w.n_eq;cases g:s.es with
 |nil=>simp_all
 |cons k r=>
  have m:((0:Nat):Int)<(s.el.n:Int):=by simp_all
  obtain⟨x,hm,u,q,b,y,d,j⟩:=w.get m;rw[g]at u;simp only[xm,zH]at u;subst u;refine .inr ⟨k,r,rfl,by omega,y,λe=>?_,?_⟩
  .cases i:s.el.p with
   |none=>exact y i
   |some a=>rw[i]at e;cases e
  grind[E.row,vI,vS,Sl.v]
set_option maxRecDepth 4000 in
theorem c200{V:Mem}{s:S}(h:S.Ok V s):PP 200 [s.v] V (uB (Db s.op s.s s.es s.ls.length s.xs.length)):=by
 have d:=JK h;have cx:=λa e=>c266 h (lo:=a) (hi:=e);have j:=h.lRows.n_eq;have i:=h.xRows.n_eq;rw[show s.v=.agg #[uI s.op,uS s.s,.slice s.el.p s.el.n s.el.c,.slice s.ll.p s.ll.n s.ll.c,.slice s.xl.p s.xl.n s.xl.c]by unfold S.v;rw[S.row_eq];rfl]at cx⊢;refine x200 ?_;rw[<-j,<-i];generalize l:Db s.op s.s s.es s.ll.n s.xl.n=X;have key:∀b:Bool,X=b->xY (.bool b)=xY (.bool X):=λn h=>by rw[h]
 unfold Db GA at l;generalize w:s.es.all Bh=va at cx;rcases d with⟨x,H⟩|⟨e0,r,x,H,J,m,y⟩
 .have k:(s.es.length:Int)=0:=by rw[x];rfl
  have q:s.es.length=0:=by rw[x];rfl
  rw[k]at cx;rw[w,k]at l
  repeat' (first|refine c110.call ⟨_,rfl,?_⟩|refine(cx _ _).call ⟨_,rfl,?_⟩|apply xZ|intro _)
  all_goals first|rfl|(refine key _ ?_;clear key cx;grind)|(exfalso;clear key cx;grind)
 .have o:Lm s.es=e0.op:=by rw[x];rfl
  generalize k:(s.es.length:Int)=len at cx;rw[w,k,o]at l;have G:0<len:=by grind
  have N:(s.el.n:Int)=len:=by rw[<-k,h.eRows.n_eq]
  have c11:=cx 1 1;have g:=cx 2 2;have u:=cx 0 1;rw[show decide (1<=len/\len<=1)=decide (len=1)by grind]at c11;rw[show decide (2<=len/\len<=2)=decide (len=2)by grind]at g;rw[show decide (0<=len/\len<=1)=decide (len<=1)by grind]at u
  repeat' (first|refine c110.call ⟨_,rfl,?_⟩|refine c11.call ⟨_,rfl,?_⟩|refine g.call ⟨_,rfl,?_⟩|refine u.call ⟨_,rfl,?_⟩|refine⟨_,_,_,_,y,?_⟩|exact J|exact m|apply xZ|intro _)
  all_goals first|rfl|(refine key _ ?_;clear key cx c11 g u;grind)|omega|(exfalso;clear key cx c11 g u;grind)
end Go.Proofs
