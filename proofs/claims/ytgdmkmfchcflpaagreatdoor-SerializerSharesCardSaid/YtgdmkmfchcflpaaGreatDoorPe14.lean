/- Part 14: no statement of the seat is proved here. -/
import Derived.Test.YtgdmkmfchcflpaaGreatDoorPe13
set_option linter.unusedVariables false
set_option linter.unusedSimpArgs false
open Go.Proofs.Tryz renaming f120->uo,prog->xE,f119->um,underlying34->ur
open List renaming range->zB,lookup_cons->zc,eq_nil_of_length_eq_zero->ya,length_drop->wY,drop_zero->wu,drop_drop->vY,length_map->wq,length_range->vl,getElem?_map->y4,getElem?_eq_some_iff->yv,mem_cons->yD,not_mem_nil->xC,flatMap_append->uh,length_append->zw,mem_flatMap->uv,take_add_one->wh,append_assoc->zH,take_of_length_le->wH,getElem?_eq_none->uy,drop_of_length_le->ug,drop_take->uf,mem_singleton->zO,mem_cons_self->zb,mem_cons_of_mem->za,mem_append->wZ,mem_replicate->vm,mem_flatten->ud
open Go.Instr renaming sliceBounds->zm
open Option renaming map_some->zJ,map_eq_some_iff->zi,bind_some->zr
open Nat renaming mul_one->wy,add_sub_cancel_left->uk,succ_mul->vW,le_refl->yV
open Go.Code renaming wpIn->xh
open Array renaming getD_eq_getD_getElem?->wF,getElem?_setIfInBounds_ne->uj
open Go.Value renaming func->ui
open Go.Addr renaming add->zE
open Int renaming toNat_natCast->vM,le_refl->ue
open Go.IntKind renaming bits->zR,wrap->xF,signed->zQ
open Option.some renaming injEq->zF
namespace Go.Proofs
open Go Go.Sx
set_option maxRecDepth 100000
/- slices.Chunk[[]byte,byte]$1, piece a -/
noncomputable def c120a:List Code:=((AI (Ay uo) []).drop 0).take 1
def w120a(a:Value)(b c:Option Addr)(V:Mem)(R:RP):Prop:=R (rT #[K.cast .f a,uP b,uP c,uI 0]) V
theorem s120a{a:Value}{b c:Option Addr}{V:Mem}{R:KZ}(h:w120a a b c V (OV R)):AH xE 31 c120a [(0,K.cast .f a),(1,uP b),(2,uP c)] [0,1,2,4] V R:=
 BS (H:={N:=0,early:=[],loops:=[],keep:=zB 31}) [(0,(.var .f 0)),(1,(.var .p 1)),(2,(.var .p 2))] [a,uP b,uP c] rfl (by kernel_rfl) h
/- slices.Chunk[[]byte,byte]$1, piece b -/
noncomputable def c120b:List Code:=((AI (Ay uo) [1,0,0,0]).drop 0).take 1
def w120b(a:Value)(b c:Option Addr)(d:Int)(V:Mem)(R:RP):Prop:=∃g,V.rowp b ((0:Int).toNat*1) 1=some [uL g]/\R (rT #[K.cast .f a,uP b,uP c,uI d,uB (decide (d<(g.n:Int)))]) V
theorem s120b{a:Value}{b c:Option Addr}{d:Int}{V:Mem}{R:KZ}(h:w120b a b c d V (OV R)):AH xE 31 c120b [(0,K.cast .f a),(1,uP b),(2,uP c),(4,uI d)] [0,1,2,4,9] V R:=
 BS (H:={N:=0,early:=[],loops:=[],keep:=zB 31}) [(0,(.var .f 0)),(1,(.var .p 1)),(2,(.var .p 2)),(4,(.var (.i .i64) 3))] [a,uP b,uP c,uI d] rfl (by kernel_rfl) h
/- slices.Chunk[[]byte,byte]$1, piece c -/
noncomputable def c120c:List Code:=((AI (Ay uo) [1,0,0,0,2,0]).drop 0).take 1
def w120c(a:Value)(b c:Option Addr)(d:Int)(V:Mem)(R:RP):Prop:=∃g,V.rowp c ((0:Int).toNat*1) 1=some [uI g]/\∃i,V.rowp b ((0:Int).toNat*1) 1=some [uL i]/\(0<=d/\d<=(i.n:Int)/\(i.n:Int)<=(i.c:Int))/\GenK xE (.call {callee:=(.builtin .min),args:=#[(.tmp 13),(.tmp 17)],argTypes:=#[3,3]}) 3 (gv [(13,uI g),(17,uI (((i.n:Int)-d).toNat:Int))]) V λx V1=>∃j,x=uI j/\R (rT #[K.cast .f a,uP b,uP c,uI d,uI j]) V1
theorem s120c{a:Value}{b c:Option Addr}{d:Int}{V:Mem}{R:KZ}(h:w120c a b c d V (OV R)):AH xE 31 c120c [(0,K.cast .f a),(1,uP b),(2,uP c),(4,uI d)] [0,1,2,4,5] V R:=
 BS (H:={N:=0,early:=[],loops:=[],keep:=zB 31}) [(0,(.var .f 0)),(1,(.var .p 1)),(2,(.var .p 2)),(4,(.var (.i .i64) 3))] [a,uP b,uP c,uI d] rfl (by kernel_rfl) h
/- slices.Chunk[[]byte,byte]$1, piece d -/
noncomputable def FC:Array Oper:=opsOf ((AI (Ay uo) [1,0,0,0,2,0]).getD 1 .skip)
def w120d(a:Value)(b c:Option Addr)(d g:Int)(V:Mem)(R:RP):Prop:=∃i,V.rowp b ((0:Int).toNat*1) 1=some [uL i]/\IR (d+g)/\IR (d+g)/\GenK xE (.slice 34 (.tmp 20) (some (.tmp 21)) (some (.tmp 24)) (some (.tmp 27))) 34 (gv [(20,uL i),(21,uI d),(24,uI (d+g)),(27,uI (d+g))]) V λx V1=>∃j,x=uL j/\R (rT #[K.cast .f a,uP b,uP c,uI d,K.cast .f a,uL j]) V1
theorem s120d{a:Value}{b c:Option Addr}{d g:Int}{V:Mem}{R:KZ}(h:w120d a b c d g V (OV R)):SegO xE 31 FC 0 10 [(0,K.cast .f a),(1,uP b),(2,uP c),(4,uI d),(5,uI g)] [0,1,2,4,19,28] V R:=
 F0 (H:={N:=0,early:=[],loops:=[],keep:=zB 31}) [(0,(.var .f 0)),(1,(.var .p 1)),(2,(.var .p 2)),(4,(.var (.i .i64) 3)),(5,(.var (.i .i64) 4))] [a,uP b,uP c,uI d,uI g] rfl (by kernel_rfl) h
/- slices.Chunk[[]byte,byte]$1, piece e -/
def w120e(a:Value)(b c:Option Addr)(d:Int)(g:Bool)(V:Mem)(R:RP):Prop:=R (rT #[K.cast .f a,uP b,uP c,uI d,uB (!g)]) V
theorem s120e{a:Value}{b c:Option Addr}{d:Int}{g:Bool}{V:Mem}{R:KZ}(h:w120e a b c d g V (OV R)):SegO xE 31 FC 11 1 [(0,K.cast .f a),(1,uP b),(2,uP c),(4,uI d),(29,uB g)] [0,1,2,4,30] V R:=
 F0 (H:={N:=0,early:=[],loops:=[],keep:=zB 31}) [(0,(.var .f 0)),(1,(.var .p 1)),(2,(.var .p 2)),(4,(.var (.i .i64) 3)),(29,(.var .b 4))] [a,uP b,uP c,uI d,uB g] rfl (by kernel_rfl) h
/- slices.Chunk[[]byte,byte]$1, piece f -/
noncomputable def c120f:List Code:=((AI (Ay uo) [1,0,0,0]).drop 3).take 1
def w120f(a:Value)(b c:Option Addr)(d:Int)(V:Mem)(R:RP):Prop:=∃g,V.rowp c ((0:Int).toNat*1) 1=some [uI g]/\IR (d+g)/\R (rT #[K.cast .f a,uP b,uP c,uI (d+g)]) V
theorem s120f{a:Value}{b c:Option Addr}{d:Int}{V:Mem}{R:KZ}(h:w120f a b c d V (OV R)):AH xE 31 c120f [(0,K.cast .f a),(1,uP b),(2,uP c),(4,uI d)] [0,1,2,4] V R:=
 BS (H:={N:=0,early:=[],loops:=[],keep:=zB 31}) [(0,(.var .f 0)),(1,(.var .p 1)),(2,(.var .p 2)),(4,(.var (.i .i64) 3))] [a,uP b,uP c,uI d] rfl (by kernel_rfl) h
/- slices.AppendSeq[[][]byte,[]byte], piece a -/
noncomputable def c119a:List Code:=((AI (Ay um) []).drop 0).take 2
def w119a(a:Sl)(b:Value)(V:Mem)(R:RP):Prop:=Af [uL a] 41 V λc V1=>R (rT #[uP (Aa c 0),K.cast .f b]) V1
theorem s119a{a:Sl}{b:Value}{V:Mem}{R:KZ}(h:w119a a b V (OV R)):AH xE 13 c119a [(0,uL a),(1,K.cast .f b)] [2,6] V R:=
 BS (H:={N:=0,early:=[],loops:=[],keep:=zB 13}) [(0,(.var .sl 0)),(1,(.var .f 1))] [uL a,b] rfl (by kernel_rfl) h
/- slices.AppendSeq[[][]byte,[]byte], piece b -/
noncomputable def c119b:List Code:=((AI (Ay um) [2,0,0,0]).drop 0).take 1
def w119b(a:Option Addr)(b:Sl)(V:Mem)(R:RP):Prop:=R (rT #[uP a,uL b]) V
theorem s119b{a:Option Addr}{b:Sl}{V:Mem}{R:KZ}(h:w119b a b V (OV R)):AH xE 13 c119b [(2,uP a),(7,uL b)] [2,5] V R:=
 BS (H:={N:=0,early:=[],loops:=[],keep:=zB 13}) [(2,(.var .p 0)),(7,(.var .sl 1))] [uP a,uL b] rfl (by kernel_rfl) h
/- slices.AppendSeq[[][]byte,[]byte], piece c -/
noncomputable def c119c:List Code:=((AI (Ay um) [2,0,0,1]).drop 0).take 1
def w119c(a:Option Addr)(b:Sl)(V:Mem)(R:RP):Prop:=∃c,V.rowp a ((0:Int).toNat*1) 1=some [uL c]/\Af [uL b] 34 V λd V1=>GenK xE (.call {callee:=(.builtin .append),args:=#[(.tmp 8),(.tmp 10)],argTypes:=#[41,41]}) 41 (gv [(8,uL c),(10,.slice (Aa d 0) (1:Int).toNat (1:Int).toNat)]) V1 λx V2=>∃g,x=uL g/\AQ a 0 [uL g] V2 λf=>R (rT #[]) f
theorem s119c{a:Option Addr}{b:Sl}{V:Mem}{R:KZ}(h:w119c a b V (OV R)):AH xE 13 c119c [(2,uP a),(5,uL b)] [] V R:=
 BS (H:={N:=0,early:=[],loops:=[],keep:=zB 13}) [(2,(.var .p 0)),(5,(.var .sl 1))] [uP a,uL b] rfl (by kernel_rfl) h
/- slices.AppendSeq[[][]byte,[]byte], piece d -/
noncomputable def c119d:List Code:=((AI (Ay um) []).drop 3).take 1
def w119d(a:Option Addr)(V:Mem)(R:RP):Prop:=∃b,V.rowp a ((0:Int).toNat*1) 1=some [uL b]/\R (rT #[uL b]) V
theorem s119d{a:Option Addr}{V:Mem}{R:KZ}(h:w119d a V (OV R)):AH xE 13 c119d [(2,uP a)] [4] V R:=
 BS (H:={N:=0,early:=[],loops:=[],keep:=zB 13}) [(2,(.var .p 0))] [uP a] rfl (by kernel_rfl) h
end Go.Proofs
namespace Go.Proofs
open Go Go.Sx
attribute [local irreducible] Go.Sx.Tri
theorem GenK.slice3{P:Program}{V:Mem}{t e:TypeId}{ty:Nat}{vals:Operand->Value}{x a b c:Operand}{s:Sl}{l h m sz:Nat}(j:P.underlying t=some (.slice e))(hz:Ch P e=some sz)(o:vals x=.slice s.p s.n s.c)(H:vals a=.int .i64 l)(G:vals b=.int .i64 h)(N:vals c=.int .i64 m)(Z:l<=h)(Y:h<=m)(Q:m<=s.c){q:Value->Mem->Prop}(O:q (.slice (if m=l then s.p else Aa s.p (l*sz)) (h-l) (m-l)) V):GenK P (.slice t x (some a) (some b) (some c)) ty vals V q:=by
 intro w hw;refine⟨_,w,V,?_,Aq.refl hw,O⟩;unfold execOp;have f:((zm true s.n s.c (some (.int .i64 l)) (some (.int .i64 h)) (some (.int .i64 m))).run P w:Result (Nat×Nat×Nat))=.ok (l,h,m) w:=by
  simp[zm,Instr.sliceBound,asIntOf,Z,Y,Q]
 simp only[zJ,o,H,G,N,Instr.sliceAt,Sem.run_bind,run_underlying j,Result.andThen_ok,Instr.slice,f,DZ hz,Sem.run_pure];rfl
def Dy(s:Sl)(sz i:Nat):Sl:=⟨Aa s.p (i*sz),min sz (s.n-i*sz),min sz (s.n-i*sz)⟩
section
variable{V:Mem}{fn':FuncId}{tmps:Array Value}{ps:Array Tmp}{assign body:Code}{D l bs bn:Nat}{s:Sl}{sz:Nat}{J:Nat->Mem->Prop}
theorem it120(hps:ps.size=1)(hz:0<sz)(hz2:sz<=1073741824)(hn:s.n<=1073741824)(hc:s.n<=s.c)
  (hJ:∀i V2,J i V2->V2 l=none->V2 bs=some (cell (.slice s.p s.n s.c) 34)/\V2 bn=some (cell (.int .i64 sz) 3))
  (Q:∀i,i*sz<s.n->∀V2,J i V2->V2 l=none->∀w,(V2.set l (.loop (AO fn' tmps ps assign body D))).le w->
   RoundIn (AV none) 0 xE l fn' ((ps.zip #[(Dy s sz i).v]).foldl (λt (p,v)=>t.setIfInBounds p v) tmps) assign body w λe w'=>
    e=.returned (.bool true)/\∃V3,J (i+1) V3/\V3 l=none/\Aq (V2.set l (.loop (AO fn' tmps ps assign body D))) w (V3.set l (.loop (AO fn' tmps ps assign body D))) w')
  (h0:J 0 V) (hl:V l=none):
  Tri xE 120 #[.func (.yield l) #[] #[],pv bs,pv bn] (V.set l (.loop (AO fn' tmps ps assign body D))) λe V'=>(∃v,e=.returned v)/\∃V2,V'=V2.set l (.loop (AO fn' tmps ps assign body D))/\V2 l=none/\∃n,s.n<=n*sz/\(n=0∨(n-1)*sz<s.n)/\J n V2:=by
 unfold Tri;intro w hV;obtain⟨L,hL⟩:∃L,L=Fw ((AI (Ay uo) [1,0]).getD 0 .skip) 0:=⟨_,rfl⟩;obtain⟨B,hB⟩:∃B,B=Fw ((AI (Ay uo) [1,0,0,0]).getD 2 .skip) 0:=⟨_,rfl⟩;have e1:flat (Ay uo)=c120a++[.block 0 (.loop L)]:=by rw[hL];kernel_rfl
 have e2:flat L=c120b++([.cond (.tmp 9) .skip (.exit 0),.block 1 B]++c120f):=by rw[hL,hB];kernel_rfl
 have e3:flat B=c120c++[.region 4 FC false,.cond (.tmp 30) .ret .skip]:=by rw[hB];kernel_rfl
 refine(callsIn_wide (n:=0)).1 (callsIn_of_wp (F:=AV none) Tryz.func120 (show uo.body=some (Ay uo)by kernel_rfl) trivial (GC ?_) rfl);rw[e1];have hH0:=Jb (args:=[.func (.yield l) #[] #[],pv bs,pv bn]) (N:=31) (by simp);have hA:∀M,AH xE 31 c120a [(0,.func (.yield l) #[] #[]),(1,pv bs),(2,pv bn)] [0,1,2,4] M λvs V'=>V'=M/\vs=[.func (.yield l) #[] #[],pv bs,pv bn,.int .i64 0]:=λM=>by
  refine s120a (a:=.func (.yield l) #[] #[]) (b:=some ⟨bs,0,none⟩) (c:=some ⟨bn,0,none⟩) ?_;unfold w120a;exact⟨_,rfl,rfl,rfl⟩
 have hBb:∀M (j:Int),M bs=some (cell (.slice s.p s.n s.c) 34)->AH xE 31 c120b [(0,.func (.yield l) #[] #[]),(1,pv bs),(2,pv bn),(4,.int .i64 j)] [0,1,2,4,9] M λvs V'=>V'=M/\vs=[.func (.yield l) #[] #[],pv bs,pv bn,.int .i64 j,.bool (decide (j<(s.n:Int)))]:=λM j O=>by
  refine s120b (a:=.func (.yield l) #[] #[]) (b:=some ⟨bs,0,none⟩) (c:=some ⟨bn,0,none⟩) ?_;unfold w120b;exact⟨s,Al O,_,rfl,rfl,rfl⟩
 have hC:∀M (i:Nat),i*sz<s.n->M bs=some (cell (.slice s.p s.n s.c) 34)->M bn=some (cell (.int .i64 sz) 3)->AH xE 31 c120c [(0,.func (.yield l) #[] #[]),(1,pv bs),(2,pv bn),(4,.int .i64 ((i*sz:Nat):Int))] [0,1,2,4,5] M λvs V'=>V'=M/\vs=[.func (.yield l) #[] #[],pv bs,pv bn,.int .i64 ((i*sz:Nat):Int),.int .i64 ((min sz (s.n-i*sz):Nat):Int)]:=λM i hi O A=>by
  refine s120c (a:=.func (.yield l) #[] #[]) (b:=some ⟨bs,0,none⟩) (c:=some ⟨bn,0,none⟩) ?_;unfold w120c;have e:(if(((s.n:Int)-((i*sz:Nat):Int)).toNat:Int)<(sz:Int)then(((s.n:Int)-((i*sz:Nat):Int)).toNat:Int)else(sz:Int))=((min sz (s.n-i*sz):Nat):Int):=by
   generalize i*sz=j at hi⊢;split<;>omega
  refine⟨sz,Al A,s,Al O,⟨by omega,by omega,by omega⟩,GenK.min2 rfl rfl ?_⟩;rw[e];exact⟨_,rfl,_,rfl,rfl,rfl⟩
 have hD:∀M (i:Nat),i*sz<s.n->M bs=some (cell (.slice s.p s.n s.c) 34)->SegO xE 31 FC 0 10 [(0,.func (.yield l) #[] #[]),(1,pv bs),(2,pv bn),(4,.int .i64 ((i*sz:Nat):Int)),(5,.int .i64 ((min sz (s.n-i*sz):Nat):Int))] [0,1,2,4,19,28] M λvs V'=>V'=M/\vs=[.func (.yield l) #[] #[],pv bs,pv bn,.int .i64 ((i*sz:Nat):Int),.func (.yield l) #[] #[],(Dy s sz i).v]:=λM i hi O=>by
  refine s120d (a:=.func (.yield l) #[] #[]) (b:=some ⟨bs,0,none⟩) (c:=some ⟨bn,0,none⟩) ?_;unfold w120d;obtain⟨m,hm⟩:∃m,m=min sz (s.n-i*sz):=⟨_,rfl⟩;have hm1:0<m/\i*sz+m<=s.n:=by omega
  unfold Dy;rw[<-hm];refine⟨s,Al O,⟨by omega,by omega⟩,⟨by omega,by omega⟩,GenK.slice3 (l:=i*sz) (h:=i*sz+m) (m:=i*sz+m) (sz:=1) ur (by kernel_rfl) rfl rfl rfl rfl (by omega) (by omega) (by omega) ?_⟩;rw[if_neg (by omega),wy,uk];exact⟨⟨Aa s.p (i*sz),m,m⟩,rfl,_,rfl,rfl,rfl⟩
 have hE:∀M (j:Int) (b:Bool),SegO xE 31 FC 11 1 [(0,.func (.yield l) #[] #[]),(1,pv bs),(2,pv bn),(4,.int .i64 j),(29,.bool b)] [0,1,2,4,30] M λvs V'=>V'=M/\vs=[.func (.yield l) #[] #[],pv bs,pv bn,.int .i64 j,.bool (!b)]:=λM j b=>by
  refine s120e (a:=.func (.yield l) #[] #[]) (b:=some ⟨bs,0,none⟩) (c:=some ⟨bn,0,none⟩) ?_;unfold w120e;exact⟨_,rfl,rfl,rfl⟩
 have hF:∀M (i:Nat),i*sz<s.n->M bn=some (cell (.int .i64 sz) 3)->AH xE 31 c120f [(0,.func (.yield l) #[] #[]),(1,pv bs),(2,pv bn),(4,.int .i64 ((i*sz:Nat):Int))] [0,1,2,4] M λvs V'=>V'=M/\vs=[.func (.yield l) #[] #[],pv bs,pv bn,.int .i64 (((i+1)*sz:Nat):Int)]:=λM i hi A=>by
  refine s120f (a:=.func (.yield l) #[] #[]) (b:=some ⟨bs,0,none⟩) (c:=some ⟨bn,0,none⟩) ?_;unfold w120f;have e:((i*sz:Nat):Int)+(sz:Int)=(((i+1)*sz:Nat):Int):=by rw[vW,Int.natCast_add]
  refine⟨sz,Al A,⟨by omega,by omega⟩,?_⟩;rw[e];exact⟨_,rfl,rfl,rfl⟩
 have ne:∀{i:Nat}{V2:Mem},J i V2->V2 l=none->(V2.set l (.loop (AO fn' tmps ps assign body D))) bs=some (cell (.slice s.p s.n s.c) 34)/\(V2.set l (.loop (AO fn' tmps ps assign body D))) bn=some (cell (.int .i64 sz) 3):=λhj f=>by
  obtain⟨O,A⟩:=hJ _ _ hj f;exact⟨by rw[Mem.set_ne (λe=>by rw[e,f]at O;cases O)];exact O,by rw[Mem.set_ne (λe=>by rw[e,f]at A;cases A)];exact A⟩
 refine(hA _).step hV hH0 ?_;rintro a1 w1 vs V1 hd1 hH1 ⟨rfl,rfl⟩ hF1;refine wpIn_block ?_;refine KH (λm a w'=>∃(i:Nat)(V2:Mem),(i=0∨(i-1)*sz<s.n)/\m=s.n+sz-i*sz/\J i V2/\V2 l=none/\a.defers=[]/\Has 31 a [(0,.func (.yield l) #[] #[]),(1,pv bs),(2,pv bn),(4,.int .i64 ((i*sz:Nat):Int))]/\
  Aq (V.set l (.loop (AO fn' tmps ps assign body D))) w (V2.set l (.loop (AO fn' tmps ps assign body D))) w') ⟨s.n+sz,0,V,.inl rfl,by omega,h0,hl,hd1,by simpa using hH1,hF1⟩ ?_
 rintro m a2 w2 ⟨i,V2,hi,rfl,I,f,hd2,hH2,R⟩;refine GC ?_;rw[e2];obtain⟨c1,c2⟩:=ne I f;refine(hBb _ _ c1).step R.le hH2 ?_;rintro a3 w3 vs V3 hd3 X ⟨rfl,rfl⟩ C;have H:a3.eval (.tmp 9)=.bool (decide (((i*sz:Nat):Int)<(s.n:Int))):=X.get rfl;show xh (AV none) 0 xE _ _ a3 w3;by_cases Z:i*sz<s.n
 ·have E:decide (((i*sz:Nat):Int)<(s.n:Int))=true:=by simp;omega
  rw[E]at H;refine wpIn_cond_true H (wpIn_skip ?_);show xh (AV none) 0 xE _ _ a3 w3;refine wpIn_block (GC ?_);rw[e3];refine(hC _ i Z c1 c2).step C.le ⟨X.1,λs v q=>X.2 s v (by
   simp only[zc]at q
   repeat' split at q
   all_goals first
    |(rename_i e;simp only[beq_iff_eq]at e;subst e;exact q)
    |cases q)⟩ ?_
  rintro a4 w4 vs V4 hd4 hH4 ⟨rfl,rfl⟩ hF4;show xh (AV none) 0 xE (.region 4 FC false) _ a4 w4;refine wpIn_region ?_;rw[show FC.size=12 by kernel_rfl,show zB 12=List.range' 0 10++[10,11]from rfl];refine(hD _ i Z c1).step hF4.le hH4 ?_;rintro U w5 vs V5 hd5 Y ⟨rfl,rfl⟩ K;have hl5:w5.heap[l]?=some (.loop (AO fn' tmps ps assign body D)):=K.le _ _ As;obtain⟨G,ho10,hg10,S,hd10⟩:∃G:Oper,(FC)[10]?=some G/\G.guard=none/\G.op=.call {callee:=.value (.tmp 19),args:=#[.tmp 28],argTypes:=#[34]}/\G.dst=some 29:=⟨(FC)[10]?.getD default,by kernel_rfl,by kernel_rfl,by kernel_rfl,by kernel_rfl⟩;refine yield_op (args:=#[(Dy s sz i).v]) (o:=G) (c:={callee:=.value (.tmp 19),args:=#[.tmp 28],argTypes:=#[34]}) (fv:=.tmp 19) ho10 hg10 S rfl (Y.get rfl) ?_ hl5 (by simp[AO,hps]) ?_
  ·have g2:U.eval (.tmp 28)=(Dy s sz i).v:=Y.get rfl;simp[g2]
  refine(Q i Z V2 I f w5 K.le).mono ?_;rintro e w6 ⟨rfl,V6,hJ6,hl6,hF6⟩;refine⟨_,rfl,?_⟩;rw[hd10];have hlt29:(29:Nat)<U.tmps.size:=by rw[Y.1];decide
  have hH6:Has 31 (U.put (some 29) (.bool true)) [(0,.func (.yield l) #[] #[]),(1,pv bs),(2,pv bn),(4,.int .i64 ((i*sz:Nat):Int)),(29,.bool true)]:=by
   refine⟨by simp[Act.put,Y.1],λs v q=>?_⟩;have other:∀s,s≠29->(U.put (some 29) (.bool true)).tmps.getD s undef=U.tmps.getD s undef:=λs q=>by
    simp[Act.put,wF,uj (Ne.symm q)]
   simp only[zc]at q
   repeat' split at q
   all_goals first
    |(rename_i e;simp only[beq_iff_eq]at e;subst e;cases q;rw[other _ (by decide)];exact Y.get rfl)
    |simp_all[beq_iff_eq,Act.put,wF]
  rw[show[11]=List.range' 11 1++[]from rfl];refine(hE _ _ true).step hF6.le hH6 ?_;rintro a7 w7 vs V7 hd7 T ⟨rfl,rfl⟩ hF7;show xh (AV none) 0 xE (.cond (.tmp 30) .ret .skip) _ a7 w7;refine wpIn_cond_false (T.get rfl) (wpIn_skip ?_);rw[<-List.append_nil c120f];obtain⟨c3,c4⟩:=ne hJ6 hl6;refine(hF _ i Z c4).step hF7.le ⟨T.1,λs v q=>T.2 s v (by
   simp only[zc]at q
   repeat' split at q
   all_goals first
    |(rename_i e;simp only[beq_iff_eq]at e;subst e;exact q)
    |cases q)⟩ ?_
  rintro a8 w8 vs V8 hd8 hH8 ⟨rfl,rfl⟩ hF8;refine⟨s.n+sz-(i+1)*sz,by rw[vW];omega,i+1,V6,.inr (by simpa using Z),rfl,hJ6,hl6,?_,hH8,?_⟩
  ·rw[hd8,hd7];show U.defers=[];rw[hd5,hd4,hd3,hd2]
  ·exact(((((R.trans C).trans hF4).trans K).trans hF6).trans hF7).trans hF8
 ·have E:decide (((i*sz:Nat):Int)<(s.n:Int))=false:=by simp;omega
  rw[E]at H;refine wpIn_cond_false H (wpIn_exit ?_);simp only[↓reduceIte];refine⟨?_,_,results_none (by kernel_rfl) _ _ _,_,⟨⟨_,rfl⟩,V2,rfl,f,i,by omega,hi,I⟩,R.trans C⟩;rw[hd3,hd2]
end
theorem MC{n:Nat}(t:0<n):∀(m:Nat)(b:List Int),b.length<=m*n->(m=0∨(m-1)*n<b.length)->AK n b=(zB m).map λi=>(b.drop (i*n)).take n
 |0,b,h,_=>by
  obtain rfl:=ya (show b.length=0 by omega);rw[K5];rfl
 |m+1,b,h,f=>by
  have f:m*n<b.length:=by
   rcases f with f|f;·omega
   ·simpa using f
  have w:b≠[]:=λe=>by rw[e]at f;simp at f
  rw[vW]at h;rw[GJ t w,MC t m (b.drop n) (by rw[wY];omega) ?_,List.range_succ_eq_map,List.map_cons,List.map_map,Nat.zero_mul,wu]
  ·congr 1;refine List.map_congr_left λi _=>?_;simp only[Function.comp_def,vY,vW,Nat.add_comm]
  ·cases m with
   |zero=>exact .inl rfl
   |succ m=>right;rw[wY];rw[vW]at f;simp only[Nat.add_sub_cancel];omega
def Il(V:Mem)(p:Nat)(s:Sl)(sz i:Nat)(V2:Mem):Prop:=∃o:Sl,V2 p=some (cell (.slice o.p o.n o.c) 41)/\V p=none/\Sx.Own V V2 34 1 o (((zB i).map (Dy s sz)).flatMap BL)
section
variable{V V2:Mem}{p bs bn sz i:Nat}{s:Sl}{b:List Int}
theorem apBody(Y:Il V p s sz i V2)(hi:i<=1073741824):AH xE 13 c119c [(2,pv p),(5,(Dy s sz i).v)] [] V2 λ_ t=>Il V p s sz (i+1) t:=by
 refine s119c (a:=some ⟨p,0,none⟩) (b:=Dy s sz i) ?_;unfold w119c;obtain⟨o,f,G,ho⟩:=Y;have nB:¬Ct o p:=λw=>by
  obtain⟨Q,N⟩:=Own.some ho w;rw[f]at N;simp at N
 refine⟨o,Al f,λb3 j=>?_⟩;refine oneG app41 (row:=BL) (x:=Dy s sz i) ho.but j (by rw[wq,vl];omega) rfl rfl (λ_=>rfl) λZ t q=>?_;obtain⟨O,A,I⟩:=pushG ho q;have H:t p=some (cell (.slice o.p o.n o.c) 41):=by rw[A p nB (by rw[f];simp)];exact f
 refine⟨Z,rfl,AQ.cell H ⟨_,rfl,Z,Mem.set_same _ _ _,G,?_⟩⟩;rw[List.range_succ,List.map_append];exact O.put (λw=>(I p w).elim nB λh=>by rw[f]at h;cases h) G _
theorem c119(h1:V bs=some (cell (.slice s.p s.n s.c) 34))(h2:V bn=some (cell (.int .i64 sz) 3))(hz:0<sz)(L:sz<=1073741824)(hn:s.n<=1073741824)(hc:s.n<=s.c):
  Tri xE 119 #[.slice none 0 0,.func (.func 120) #[] #[pv bs,pv bn]] V λe V'=>∃o:Sl,e=.returned (.slice o.p o.n o.c)/\∃n,s.n<=n*sz/\(n=0∨(n-1)*sz<s.n)/\Sx.Own V V' 34 1 o (((zB n).map (Dy s sz)).flatMap BL):=by
 refine KL (c:=Ay um) Tryz.func119 (by kernel_rfl) ?_;intro w hV;obtain⟨j,q⟩:∃j,j=(AI (Ay um) [2,0,0,0]).getD 0 .skip:=⟨_,rfl⟩;obtain⟨Z,Y⟩:∃Z,Z=(AI (Ay um) [2,0,0,1]).getD 0 .skip:=⟨_,rfl⟩;have R:[j]=c119b:=by rw[q];kernel_rfl
 have X:[Z]=c119c:=by rw[Y];kernel_rfl
 rw[show flat (Ay um)=c119a++([.block 0 (.rangeFunc (.tmp 6) #[7] j Z)]++(c119d++[.ret]))from by rw[q,Y];kernel_rfl];have hA:AH xE 13 c119a [(0,.slice none 0 0),(1,(ui (.func 120) #[] #[pv bs,pv bn]))] [2,6] V λvs V1=>∃p,vs=[pv p,(ui (.func 120) #[] #[pv bs,pv bn])]/\Il V p s sz 0 V1:=by
  refine s119a (a:=Ah) (b:=(ui (.func 120) #[] #[pv bs,pv bn])) ?_;unfold w119a;have e:∀p,Aa (some (⟨p,0,none⟩:Addr)) 0=some ⟨p,0,none⟩:=λp=>by simp[Aa,zE]
  exact λp M=>⟨_,rfl,p,by rw[e];rfl,Ah,Mem.set_same _ _ _,M,Own.nil (Mem.sub_new M _) _ _⟩
 refine hA.step hV (Jb (args:=[.slice none 0 0,(ui (.func 120) #[] #[pv bs,pv bn])]) (N:=13) (by simp)) ?_;rintro Q w1 vs V1 hd1 f ⟨p,rfl,B⟩ O;show xh (AV none) 0 xE _ _ Q w1;refine wpIn_block ?_;have C:=λfn E D H=>it120 (V:=V1) (fn':=fn) (tmps:=Q.tmps) (ps:=#[7]) (assign:=j) (body:=Z) (D:=D) (l:=E) (bs:=bs) (bn:=bn) (s:=s) (sz:=sz)
  (J:=λi V2=>Il V p s sz i V2) rfl hz L hn hc (λi V2 K _=>by
   obtain⟨o,-,-,ho⟩:=K;exact⟨ho.sub _ _ h1,ho.sub _ _ h2⟩) (λk hk V2 K S w2 T=>by
   have U:k<=1073741824:=by
    have:k*1<=k*sz:=Nat.mul_le_mul_left k hz;omega
   have A:(#[7].zip #[(Dy s sz k).v]).foldl (λ(t:Array Value) (p,v)=>t.setIfInBounds p v) Q.tmps=Q.tmps.setIfInBounds 7 (Dy s sz k).v:=by simp
   refine Ja (N:=13) (insA:=[(2,pv p),(7,(Dy s sz k).v)]) (outsA:=[2,5]) (RA:=λvs V'=>V'=V2/\vs=[pv p,(Dy s sz k).v]) S T (by rw[A,Array.size_setIfInBounds];exact f.1) (λt v G=>?_) ?_ (λvs V3 hvs=>?_)
   ·rw[A];simp only[zc]at G;split at G
    ·rename_i e;simp only[beq_iff_eq]at e;subst e;cases G;rw[wF,uj (by decide),<-wF];exact f.get rfl
    ·split at G
     ·rename_i e;simp only[beq_iff_eq]at e;subst e;cases G;have:7<Q.tmps.size:=by rw[f.1];decide
      simp[wF,this]
     ·cases G
   ·rw[R];refine s119b (a:=some ⟨p,0,none⟩) (b:=Dy s sz k) ?_;unfold w119b;exact⟨_,rfl,rfl,rfl⟩
   ·obtain⟨rfl,rfl⟩:=hvs;rw[X];exact apBody K U)
  B H
 refine I9 (Φ:=λV2=>∃n,s.n<=n*sz/\(n=0∨(n-1)*sz<s.n)/\Il V p s sz n V2) O.le (f.get (s:=6) rfl) Tryz.call120 (λfn E D H=>Tri.mono (C fn E D H) λe V' h=>?_) ?_
 ·obtain⟨g1,V2,g2,g3,g4⟩:=h;exact⟨g1,V2,g2,g3,g4⟩
 intro D V2 W hD I hn2 hW hN2;obtain⟨n,n1,n2,o,M,h0,ho⟩:=hN2;show Dd none 0 xE _ (c119d++[.ret]) _ W;have hS:AH xE 13 c119d [(2,pv p)] [4] V2 λvs V3=>V3=V2/\vs=[.slice o.p o.n o.c]:=by
  refine s119d ?_;unfold w119d;exact⟨o,Al M,_,rfl,rfl,rfl⟩
 refine hS.step I.le ⟨f.1,λs v F=>f.2 s v (by
  simp only[zc]at F
  repeat' split at F
  all_goals first
   |(rename_i e;simp only[beq_iff_eq]at e;subst e;exact F)
   |cases F)⟩ ?_
 rintro a3 w3 vs V3 hd3 hH3 ⟨rfl,rfl⟩ hF3;show xh (AV none) 0 xE .ret _ a3 w3;refine wpIn_ret ?_;obtain⟨g1,g2,g3,g4⟩:=Je O I hD hn2 hW hF3;refine⟨.inr rfl,[D],?_,by simp,_,g1,λD' hD'=>?_,_,λw4 hw4=>results_tmp (t:=4) (by kernel_rfl) _ _ _,o,by rw[hH3.get rfl],n,n1,n2,ho⟩;·simp_all
 ·simp_all
theorem ck_ls{o:Sl}{n:Nat}(t:Bt V s b)(ho:Sx.Own V V2 34 1 o (((zB n).map (Dy s sz)).flatMap BL))(hz:0<sz)(n1:s.n<=n*sz)(n2:n=0∨(n-1)*sz<s.n):Ls V2 o (AK sz b):=by
 have Q:=t.n;rw[MC hz n b (by omega) (by omega)];refine⟨(zB n).map (Dy s sz),ho.rows (λ_=>rfl) (by decide),by simp,λi u x q H=>?_⟩;rw[y4,zi]at q H;obtain⟨j,G,rfl⟩:=q;obtain⟨I,f,rfl⟩:=H;obtain⟨w,rfl⟩:=yv.1 G;rw[G]at f;cases f;rw[List.getElem_range];rw[vl]at w;have N:i*sz<b.length:=by
  have:i*sz<=(n-1)*sz:=Nat.mul_le_mul_right _ (by omega);omega
 have h:=(t.sub ho.sub).sl (lo:=i*sz) (hi:=i*sz+min sz (s.n-i*sz)) (by omega) (by omega);have Z:=t.rows.cap;have Y:=t.rows.fit;rw[uk,if_neg (by omega)]at h;have e:(b.drop (i*sz)).take (min sz (s.n-i*sz))=(b.drop (i*sz)).take sz:=by
  rw[List.take_eq_take_iff,wY];omega
 rw[e]at h;have O:((i*sz:Nat):Int).toNat*1=i*sz:=by omega
 have A:((((i*sz+min sz (s.n-i*sz):Nat):Int)-((i*sz:Nat):Int))).toNat=min sz (s.n-i*sz):=by omega
 refine⟨⟨?_,yV _,?_,h.rows.size,?_⟩,h.b⟩
 ·have:=h.rows.len;rw[A]at this;exact this
 ·show min sz (s.n-i*sz)<=_;omega
 ·have:=h.rows.at_;rw[O]at this;exact this
theorem Lg(f:Bt V s b)(hl:b.length<=1073741824)(hz:0<sz)(t:sz<=1073741824):Tri xE 54 #[s.v,.int .i64 sz] V λe V'=>V.sub V'/\∃o:Sl,e=.returned o.v/\Ls V' o (AK sz b):=by
 refine Nu ?_;have G:=f.n;refine NN ?_;have e:∀p,Aa (some (⟨p,0,none⟩:Addr)) 0=some ⟨p,0,none⟩:=λp=>by simp[Aa,zE]
 refine⟨λh=>absurd h (by omega),λ_ b1 w b2 j=>?_⟩;simp only[e];have H:=Mem.sub_new w (cell (.slice s.p s.n s.c) 34);have q:=Mem.sub_new j (cell (.int .i64 sz) 3);refine⟨.func (.func 120) #[] #[pv b1,pv b2],rfl,rfl,NM (a:=.func (.func 120) #[] #[pv b1,pv b2]) ?_⟩;refine Tri.mono (c119 (s:=s) (sz:=sz) (q _ _ As) As hz t (by omega) f.rows.cap) ?_;rintro _ Y ⟨o,rfl,n,N,Z,ho⟩;exact⟨o,rfl,o,rfl,(H.trans q).trans ho.sub,o,rfl,ck_ls ((f.sub H).sub q) ho hz N Z⟩
end
end Go.Proofs
namespace Go.Proofs
open Go Go.Sx
theorem mapM_all{α β:Type}{f:α->Option β}:∀(l:List α)(r:List β),l.length=r.length->(∀(i:Nat)(x:α)(y:β),l[i]?=some x->r[i]?=some y->f x=some y)->l.mapM f=some r
 |[],[],_,_=>rfl
 |[],_::_,h,_=>by cases h
 |_::_,[],h,_=>by cases h
 |a::l,y::r,h,t=>by
  have w:=t 0 a y rfl rfl;have j:=mapM_all l r (by simpa using h) λi x z q hz=>t (i+1) x z (by simpa using q) (by simpa using hz);simp[List.mapM_cons,w,j]
def loadK(k:Dk)(i:Int):Option (List Int):=((Au k).1.all[i.toNat]?).bind λv=>(v.2.mapM λp=>Cg k (Au k).1 p).map List.flatten
inductive LoadQ (d:Ds)(k:Dk)(i:Int)(m:Mm)(er:Int):Prop where
 |arg (h:¬AL d) (he:er=1) (hz:m.plain=([],[]))
 |opn (h:AL d) (ho:(Au k).2≠0) (he:er=(Au k).2) (hz:m.plain=([],[]))
 |rng (h:AL d) (ho:(Au k).2=0) (hi:i<0∨((Au k).1.all.length:Int)<=i) (he:er=2) (hz:m.plain=([],[]))
 |form (h:AL d) (ho:(Au k).2=0) (hi:0<=i/\i<((Au k).1.all.length:Int)) (hl:loadK k i=none) (he:er=7) (hz:m.plain=([],[]))
 |dec {b:List Int} (h:AL d) (ho:(Au k).2=0) (hi:0<=i/\i<((Au k).1.all.length:Int)) (hl:loadK k i=some b) (hd:DecQ d b m er)
theorem can_idem2{d:Ds}{m:Mm}(G:BR d m):Bx d (Ga (Bx d m))=Bx d m:=by
 have f:BR d (Ga (Bx d m)):=Ie G Ju;have:=can_sim (sim_start G.mem Ju) (good_st G).mem (good_st f).mem;grind[K2,Mq]
section
variable{d:Ds}{m x:Mm}{b:List Int}{er:Int}{k:Dk}{codes:List (List Int)}
theorem Lh(G:BR d m)(h:DecQ d (Ai d m) x er):er=0/\x.plain=Bx d m/\AB d x=true/\Bx d x=x.plain:=by
 have f:=Ii G;cases h with
 |arg h=>exact absurd ⟨G.valid,G.chk⟩ h
 |short h hl=>
  have:=raw_len (Bx d m);have:=f.gl;unfold Ai at hl;omega
 |ok h hl t w j=>exact⟨rfl,Jk (ET t) f j,t,w⟩
 |form h hl hz q=>exact absurd (by rw[K3];rfl) (q (Ga (Bx d m)) (Ie G Ju).mem (by rw[can_idem2 G,K3]))
theorem AX.loads(h:AX k codes){i:Nat}(hi:codes[i]?=some b):loadK k i=some b:=by
 obtain⟨w,q⟩:=h.code hi;have o:0<k.page.toNat:=by have:=h.n32;omega
 unfold loadK;rw[h.opn,vM,w,zr];rw[mapM_all _ (AK k.page.toNat b) (by simp[CZ]) λj p c H t=>by
  obtain⟨-,N,f,G⟩:=q j p H;rw[f]at t;cases t;exact G]
 rw[zJ,Mx o]
theorem AX.len(h:AX k codes):(Au k).1.all.length=codes.length:=by rw[h.opn];simp[AZ]
theorem AX.load(h:AX k codes)(t:AL d){i:Nat}(hi:codes[i]?=some b)(w:LoadQ d k i x er):DecQ d b x er:=by
 have j:=(yv.1 hi).1;have ho:(Au k).2=0:=by rw[h.opn]
 have hl:=h.len;cases w with
 |arg f=>exact absurd t f
 |opn _ f=>exact absurd ho f
 |rng _ _ f=>omega
 |form _ _ _ f=>rw[h.loads hi]at f;cases f
 |dec _ _ _ f hd=>rw[h.loads hi]at f;cases f;exact hd
end
end Go.Proofs
namespace Go.Proofs
open Go Go.Sx
attribute [local irreducible] Go.Sx.Tri
structure Vn where
 size:Int
 sl:Sl
 parts:List Int
def Vn.row(v:Vn):List Value:=[.int .i64 v.size,v.sl.v]
def Vn.p(v:Vn):Int×List Int:=(v.size,v.parts)
structure Gd (V:Mem)(a b:Sl)(vs:List Vn)(x:Dir):Prop where
 sizes:Ad V a 1 (x.sizes.map Am)
 rows:Ad V b 2 (vs.map Vn.row)
 parts:∀v∈vs,Ad V v.sl 1 (v.parts.map Am)
 all:vs.map Vn.p=x.all
theorem Gd.sub{V V':Mem}{a b:Sl}{vs:List Vn}{x:Dir}(h:Gd V a b vs x)(f:V.sub V'):Gd V' a b vs x:=⟨h.sizes.sub f,h.rows.sub f,λv t=>(h.parts v t).sub f,h.all⟩
theorem GenK.shrU{P:Program}{V:Mem}{t u:TypeId}{ty:Nat}{vals:Operand->Value}{x y:Operand}{n c:Int}(f:vals x=.int .i64 n)(j:vals y=.int .u64 c)(o:¬c<0){q:Value->Mem->Prop}(H:q (.int .i64 (n.fdiv (2^(min c.toNat 64)))) V):GenK P (.binOp .shr t x y u) ty vals V q:=by
 intro w hw;refine⟨_,w,V,?_,Aq.refl hw,H⟩;unfold execOp;simp[f,j,binOp,Op.shift,o,eqGuard,zR]
structure Hy (W:Mem)(p:Nat)(s:Sl)(b:List Int)(V:Mem):Prop where
 at_:V p=some (cell (.slice s.p s.n s.c) 34)
 p0:W p=none
 own:Sx.Own W V 5 1 s (b.flatMap AS)
theorem put2_b(n:Int):An (BD n):=λx f=>by
 simp only[BD,yD,xC,or_false]at f;omega
theorem Li{α:Type}(f:α->List Int)(l:List α)(i:Nat):((l.take i).flatMap f).length<=(l.flatMap f).length:=by
 conv=>rhs;rw[<-List.take_append_drop i l]
 rw[uh,zw];omega
theorem An.flat{α:Type}{f:α->List Int}{l:List α}(h:∀x∈l,An (f x)):An (l.flatMap f):=λy t=>by
 obtain⟨x,w,t⟩:=uv.1 t;exact h x w y t
theorem dir_b(x:Dir):An (BE x):=by
 have f:An [104,119]:=λx t=>by
  simp only[yD,xC,or_false]at t;omega
 exact(((f.app (put2_b _)).app (put2_b _)).app (An.flat λx _=>put2_b x)).app (An.flat λv _=>(put2_b v.1).app (An.flat λx _=>put2_b x))
section
variable{W V:Mem}{p:Nat}{s:Sl}{b:List Int}{n:Int}
theorem Im(h:Hy W p s b V)(hl:b.length<=1000000):Tri xE 94 #[.int .i64 n,pv p] V λe V'=>e=.returned (.tuple #[])/\∃s',Hy W p s' (b++BD n) V':=by
 refine NR ?_;refine⟨s,Al h.at_,GenK.shrU (n:=n) (c:=8) rfl rfl (by decide) ⟨_,rfl,λb3 f=>?_⟩⟩;have H:xF .u8 (n.fdiv (2^(min (8:Int).toNat 64)))=n/256 % 256:=by
  rw[GI,Int.fdiv_eq_ediv_of_nonneg _ (by decide)];rfl
 rw[H,GI];have nB:¬Ct s p:=λt=>by
  obtain⟨G,q⟩:=Own.some h.own t;rw[h.at_]at q;simp at q
 refine Ek (s:=s) (u:=⟨some ⟨b3,0,none⟩,2,2⟩) (xs:=b) (ys:=BD n) rfl rfl (h.own.but.new f _) (Ad.cells (xs:=BD n) (row:=AS) As rfl (λ_=>rfl) rfl (by simp[BD])) (by show b.length+2<=_;omega) λs' N w=>?_;obtain⟨Z,Y,Q⟩:=pushG h.own w;have j:N p=some (cell (.slice s.p s.n s.c) 34):=by rw[Y p nB (by rw[h.at_];simp)];exact h.at_
 exact⟨s',rfl,AQ.cell j ⟨rfl,s',Mem.set_same _ _ _,h.p0,Z.put (λt=>(Q p t).elim nB λo=>by rw[h.at_]at o;cases o) h.p0 _⟩⟩
end
section
variable{V:Mem}{a b s:Sl}{vs:List Vn}{x:Dir}{k:Dk}
theorem Ov(h:Gd V a b vs x)(hl:(BE x).length<=1000000):Tri xE 68 #[.agg #[a.v,b.v]] V λe V'=>∃s':Sl,e=.returned s'.v/\Sx.Own V V' 5 1 s' ((BE x).flatMap AS):=by
 refine ND ?_;have e:∀p,Aa (some (⟨p,0,none⟩:Addr)) 0=some ⟨p,0,none⟩:=λp=>by simp[Aa,zE]
 intro b2 Y p Q;simp only[e];have O:p≠b2:=λhe=>by rw[he,Mem.set_same]at Q;cases Q
 have S:V p=none:=by rw[Mem.set_ne O]at Q;exact Q
 have T:=hl;simp only[BE,zw]at T;have C0:Hy V p ⟨some ⟨b2,0,none⟩,2,2⟩ [104,119] ((V.set b2 (.cells #[.int .u8 104,.int .u8 119] 5 (0,0))).set p (.cells #[.slice (sa b2) (2:Int).toNat (2:Int).toNat] 34 (0,0))):=by
  refine⟨Mem.set_same _ _ _,S,⟨(Mem.sub_new Y _).trans (Mem.sub_new Q _),rfl,.inr ⟨b2,#[.int .u8 104,.int .u8 119],rfl,Y,?_,yV _,by simp[maxLen],rfl,rfl⟩⟩⟩;rw[Mem.set_ne O.symm];exact Mem.set_same _ _ _
 have U:=h.sizes.n_eq;have hbn:=h.rows.n_eq;have I:vs.length=x.all.length:=by rw[<-h.all,wq]
 refine Tri.mono (Im C0 (by decide)) ?_;rintro _ V3 ⟨rfl,s3,C3⟩;refine⟨rfl,Tri.mono (Im C3 (by simp[BD])) ?_⟩;rintro _ V4 ⟨rfl,s4,C4⟩;refine⟨rfl,?_⟩;obtain⟨A,hA⟩:∃A,A=[104,119]++BD (a.n:Int)++BD (b.n:Int):=⟨_,rfl⟩;have hAl:A.length=6:=by rw[hA];rfl
 rw[<-hA]at C4;have M:(BE x)=A++x.sizes.flatMap BD++x.all.flatMap CR:=by rw[hA,U,hbn,I];rfl
 rw[M]at hl⊢;simp only[zw]at hl;refine E3 x.sizes.length (λi V5=>∃s5,Hy V p s5 (A++(x.sizes.take i).flatMap BD) V5) ⟨s4,by simpa using C4⟩ ?_;rintro i V5 J hi ⟨s5,F⟩ hJ;refine⟨λf=>?_,λhge=>?_⟩
 ·obtain⟨y,hm,hy,-,hil,H,hz,t⟩:=(h.sizes.sub F.own.sub).get f;refine⟨H,hz,f,y,t,Tri.mono (Im F (by have:=Li BD x.sizes i;rw[zw];omega)) ?_⟩;rintro _ V6 ⟨rfl,Z,o⟩;refine⟨rfl,h.sizes.succ f,hJ hil _ ⟨Z,?_⟩⟩;rw[wh,hy,uh,<-zH];simpa using o
 ·have hd:=(h.sizes.done hge).2;rw[wH hd]at F;obtain⟨B,hB⟩:∃B,B=A++x.sizes.flatMap BD:=⟨_,rfl⟩;rw[<-hB]at F⊢;have hBl:B.length=6+(x.sizes.flatMap BD).length:=by rw[hB,zw,hAl]
  refine E3 x.all.length (λi V6=>∃Z,Hy V p Z (B++(x.all.take i).flatMap CR) V6) ⟨s5,by simpa using F⟩ ?_;rintro j V6 J1 hj ⟨Z,o⟩ hJ1;refine⟨λf=>?_,λL=>?_⟩
  ·obtain⟨v,hm,hv,-,hjl,H,hz,t⟩:=(h.rows.sub o.own.sub).get f;have R:x.all[j]?=some v.p:=by rw[<-h.all,y4,hv];rfl
   have X:j<x.all.length:=by omega
   have hpl:((x.all.take j).flatMap CR).length+(CR v.p).length<=(x.all.flatMap CR).length:=by
    have:=Li CR x.all (j+1);rw[wh,R,uh,zw]at this;simpa using this
   have hvl:(CR v.p).length=2+(v.parts.flatMap BD).length:=by rw[CR,zw];rfl
   refine⟨H,hz,f,v.size,v.sl,t,Tri.mono (Im o (by rw[zw];omega)) ?_⟩;rintro _ V7 ⟨rfl,s7,C7⟩;refine⟨rfl,?_⟩;obtain⟨E,hE⟩:∃E,E=B++(x.all.take j).flatMap CR++BD v.size:=⟨_,rfl⟩;rw[<-hE]at C7;have hEl:E.length=B.length+((x.all.take j).flatMap CR).length+2:=by rw[hE,zw,zw];rfl
   refine E3 v.parts.length (λi V8=>∃s8,Hy V p s8 (E++(v.parts.take i).flatMap BD) V8) ⟨s7,by simpa using C7⟩ ?_;rintro q V8 J2 hq ⟨s8,K⟩ hJ2;have G:=(h.parts v hm).sub K.own.sub;refine⟨λw=>?_,λC=>?_⟩
   ·obtain⟨y,-,hy,-,hql,hp2,hz2,N⟩:=G.get w;refine⟨hp2,hz2,w,y,N,Tri.mono (Im K (by have:=Li BD v.parts q;rw[zw];omega)) ?_⟩;rintro _ V9 ⟨rfl,s9,C9⟩;refine⟨rfl,G.succ w,hJ2 hql _ ⟨s9,?_⟩⟩;rw[wh,hy,uh,<-zH];simpa using C9
   ·have hd3:=(G.done C).2;rw[wH hd3]at K;refine⟨(h.rows.sub o.own.sub).succ f,hJ1 X _ ⟨s8,?_⟩⟩;have e5:B++(x.all.take (j+1)).flatMap CR=E++v.parts.flatMap BD:=by
     rw[wh,R,uh,hE];simp[CR,Vn.p]
    rw[e5];exact K
  ·have hd:=((h.rows.sub o.own.sub).done L).2;rw[wH (by omega)]at o;exact⟨Z,Al o.at_,Z,rfl,o.own⟩
theorem MD(h:Gd V a b vs x)(I:Bt V s k.data)(hl:k.data.length<=2147483648)(M:AY k=true)(F:∀y∈x.sizes,0<=y){i:Int}(h0:0<=i)(h1:i<=100000):
  Tri xE 56 #[.agg #[a.v,b.v],k.v s,.int .i64 i] V λe V'=>V.sub V'/\match Cg k x i with
   |none=>e=.returned (.tuple #[Ah.v,.int .i64 7])
   |some c=>∃u:Sl,e=.returned (.tuple #[u.v,.int .i64 0])/\Bt V' u c:=by
 obtain⟨R,H⟩:∃R:Ending->Mem->Prop,R=λe V'=>V.sub V'/\match Cg k x i with
   |none=>e=.returned (.tuple #[Ah.v,.int .i64 7])
   |some c=>∃u:Sl,e=.returned (.tuple #[u.v,.int .i64 0])/\Bt V' u c:=⟨_,rfl⟩
 rw[<-H];have bad:∀{V':Mem},Cg k x i=none->V.sub V'->R (.returned (.tuple #[Ah.v,.int .i64 7])) V':=λe s=>by
  rw[H];dsimp only;rw[e];exact⟨s,rfl⟩
 refine Nv ?_;have L:=h.sizes.n_eq;refine⟨λX=>bad ?_ (Mem.sub.refl _),λB=>⟨⟨by omega,by omega⟩,?_⟩⟩
 ·unfold Cg;rw[uy (by omega)]
 refine Tri.mono (Mz I hl) ?_;rintro _ V1 ⟨q,o⟩;rw[if_pos M]at o;split at o
 ·rename_i G;obtain⟨u,y,rfl,C,N⟩:=o;obtain⟨j,rfl⟩:∃j:Nat,i=j:=⟨i.toNat,by omega⟩;obtain⟨z,Z,hz,-,-,t,E,f⟩:=(h.sizes.sub q).get (i:=j) (by omega);have K:=F z Z;have w:Cg k x (j:Int)=if(y.length:Int)<z then none else some (y.take z.toNat):=by
   unfold Cg;rw[vM,hz,C]
  have S:=N.n;have Q:=N.rows.cap;refine⟨u,0,rfl,λ_=>⟨t,by omega,by omega,z,f,λO=>bad ?_ q,λA=>⟨t,by omega,by omega,z,f,⟨by omega,by omega,by omega⟩,?_⟩⟩,λh=>absurd rfl h⟩;·rw[w,if_pos (by omega)]
  ·have Y:=N.sl (lo:=0) (hi:=z.toNat) (by omega) (by omega);rw[wu,Nat.sub_zero]at Y;have T:((z.toNat:Nat):Int)=z:=by omega
   rw[T]at Y;rw[H];dsimp only;rw[w,if_neg (by omega)];exact⟨q,_,rfl,Y⟩
 ·rename_i G;subst o;refine⟨Ah,2,rfl,λh=>absurd h (by decide),λ_=>bad ?_ q⟩;unfold Cg;rw[uy (l:=Bh k) (by omega)];split;·rename_i U;cases U
  ·rfl
end
def BlkA(s:Sl)(c:Nat):Prop:=s.c≠0/\∃f,s.p=some ⟨c,f,none⟩
section
variable{W W' V V':Mem}{e:TypeId}{s:Sl}{vs:List Value}
theorem GM(h:Cp W V e s vs){c:Nat}(j:BlkA s c):W c=none/\∃f,V c=some (.cells f e (0,0)):=by
 obtain⟨q,o,w⟩:=j;rcases h.at_ with⟨-,t,-⟩|⟨g,off',f,t,H,G,-⟩;·exact absurd t q
 ·rw[t]at w;cases w;exact⟨H,f,G⟩
theorem Hz(h:Cp W V e s vs)(H:W'.sub V')(G:∀g o,BlkA s g->W g=none->V g=some o->W' g=none/\V' g=some o):Cp W' V' e s vs:=by
 refine⟨H,h.len,?_⟩;by_cases t:s.c=0
 ·rcases h.at_ with f|⟨g,off,cur,f,w,j,q,Q,O,N⟩;·exact .inl f
  ·have:s.n=0:=by omega
   exact .inl ⟨this,t,by rw[<-N,this,List.take_zero]⟩
 ·rcases h.at_ with f|⟨g,off,cur,f,w,j,q⟩;·exact absurd f.2.1 t
  ·obtain⟨Z,Y⟩:=G g _ ⟨t,off,f⟩ w j;exact .inr ⟨g,off,cur,f,Z,Y,q⟩
open Classical in
noncomputable def butA(V:Mem)(s:Sl):Mem:=λc=>if BlkA s c then none else V c
theorem butA_no{c:Nat}(h:BlkA s c):butA V s c=none:=if_pos h
theorem butA_at{c:Nat}(h:¬BlkA s c):butA V s c=V c:=if_neg h
theorem butA_sub:(butA V s).sub V:=λc o f=>by
 by_cases h:BlkA s c;·rw[butA_no h]at f;cases f
 ·rw[butA_at h]at f;exact f
theorem ownA_but(h:Cp W V e s vs):Cp (butA V s) V e s vs:=Hz h butA_sub λ_ _ f _ t=>⟨butA_no f,t⟩
theorem ME(h:Cp W V e s vs):W.sub (butA V s):=λc o f=>by
 by_cases t:BlkA s c;·rw[(GM h t).1]at f;cases f
 ·rw[butA_at t];exact h.sub _ _ f
theorem ownA_push{s':Sl}{ys:List Value}(o:Cp W V e s vs)(h:Cp (butA V s) V' e s' ys):Cp W V' e s' ys/\(∀c,¬BlkA s c->V c≠none->V' c=V c):=by
 refine⟨Hz h ((ME o).trans h.sub) λg x q t f=>⟨?_,f⟩,λc w j=>?_⟩
 ·cases hw:W g with
  |none=>rfl
  |some y=>rw[ME o _ _ hw]at t;cases t
 ·cases f:V c with
  |none=>exact absurd f j
  |some x=>exact h.sub _ _ (by rw[butA_at w];exact f)
theorem Lj(h:Cp W V e s vs){c:Nat}(f:¬BlkA s c)(t:W c=none)(o:Obj):Cp W (V.set c o) e s vs:=
 Hz h (h.sub.set t o) λg x w hw j=>⟨hw,by rw[Mem.set_ne λhe=>f (by rw[<-he];exact w)];exact j⟩
theorem ownA_grow(h:Cp W V e s vs)(f:V.sub V'):Cp W V' e s vs:=Hz h (h.sub.trans f) λ_ _ _ hw t=>⟨hw,f _ _ t⟩
theorem ownA_drop(h:Cp W V e s vs){n:Nat}(H:n<=vs.length):Cp W V e ⟨if(s.c:Int)=(n:Int)then s.p else Aa s.p ((n:Int).toNat*1),((s.n:Int)-(n:Int)).toNat,((s.c:Int)-(n:Int)).toNat⟩ (vs.drop n):=by
 have hl:=h.len;refine⟨h.sub,by rw[wY];show _=((s.n:Int)-(n:Int)).toNat;omega,?_⟩;rcases h.at_ with⟨t,w,f⟩|⟨g,off,cur,t,w,f,G,N,Z,q⟩
 ·refine .inl ⟨?_,?_,by rw[f];simp⟩;·show((s.n:Int)-(n:Int)).toNat=0;omega
  ·show((s.c:Int)-(n:Int)).toNat=0;omega
 ·by_cases o:(s.c:Int)=n
  ·refine .inl ⟨?_,?_,ug (by omega)⟩;·show((s.n:Int)-(n:Int)).toNat=0;omega
   ·show((s.c:Int)-(n:Int)).toNat=0;omega
  ·refine .inr ⟨g,off+n,cur,?_,w,f,?_,?_,?_,?_⟩
   ·show(if(s.c:Int)=(n:Int)then s.p else Aa s.p ((n:Int).toNat*1))=_;rw[if_neg o,t,vM,wy];by_cases j:n=0;·subst j;rfl
    ·simp[Aa,zE,j]
   ·show((s.n:Int)-(n:Int)).toNat<=((s.c:Int)-(n:Int)).toNat;omega
   ·show((s.c:Int)-(n:Int)).toNat<=_;omega
   ·show off+n+((s.c:Int)-(n:Int)).toNat<=_;omega
   ·show(cur.toList.drop (off+n)).take ((s.n:Int)-(n:Int)).toNat=_;rw[<-q,uf,vY,show((s.n:Int)-(n:Int)).toNat=s.n-n by omega]
theorem ownA_bt{u:Sl}{c:List Int}(h:Cp W V 5 u (c.flatMap AS))(o:An c)(A:c.length<=2147483648):Bt V u c:=by
 have hl:=h.len;rw[FQ (sz:=1) (λ_=>rfl),wy]at hl;refine⟨?_,o⟩;rcases h.at_ with⟨f,H,t⟩|⟨g,off,cur,f,H,t,G,N,I,Z⟩
 ·obtain rfl:c=[]:=ya (by omega);exact⟨by simp;omega,by omega,by omega,by simp,by simp⟩
 ·refine⟨by rw[wq];omega,G,by simp only[maxLen]at N;omega,?_,λi r hi=>⟨_,f,?_⟩⟩
  ·intro r Y;obtain⟨x,-,rfl⟩:=List.mem_map.1 Y;rfl
  ·rw[y4,zi]at hi;obtain⟨x,w,rfl⟩:=hi;have Q:=(yv.1 w).1;have O:(⟨g,off,none⟩:Addr).add (i*1)=⟨g,off+i,none⟩:=by
    rw[wy];by_cases j:i=0;·subst j;rfl
    ·simp[zE,j]
   unfold Mem.row;simp only[O,t];rw[if_pos ⟨rfl,by omega⟩];have q:=IX (sz:=1) (row:=AS) (λ_=>rfl) c i x w;rw[wy,<-Z,uf,vY,List.take_take,Nat.min_eq_left (by omega)]at q;rw[q]
end
structure P5 where
 a:Nat
 b:Nat
 c:Nat
 d:Nat
 r:Nat
structure Tw (P:P5)(k:Dk)(s0:Sl)(W V:Mem)(u:Sl)(c:List Int)(ok:Bool)(g:Nat):Prop where
 na:W P.a=none
 nb:W P.b=none
 nc:W P.c=none
 nd:W P.d=none
 nr:W P.r=none
 va:V P.a=some (cell (.pointer (some ⟨P.r,0,none⟩)) 84)
 vb:V P.b=some (cell (.int .i64 g) 3)
 vc:V P.c=some (cell (.int .i64 (Bh k).length) 3)
 vd:V P.d=some (.cells #[.int .i64 k.page,s0.v,.int .i64 k.syn,.int .i64 k.aft] 36 (0,0))
 vr:V P.r=some (BN u ok)
 ne:P.b≠P.c
 own:Cp W V 5 u (c.flatMap AS)
 isb:An c
 gle:g<=min (Bh k).length 100
def strR(k:Dk)(g:Nat):List Int:=(((Bh k).take 100).drop g).flatten
def BG(P:P5)(k:Dk)(s0:Sl)(st:List Int×Bool)(W V:Mem):Prop:=∃u c ok g,Tw P k s0 W V u c ok g/\st=(c++strR k g,ok)/\c.length<=100000
theorem rd2_rdB{c rest:List Int}{ok:Bool}(h:ok=true->2<=c.length∨rest=[]):AT (c++rest,ok)=((AU c ok 2).1.getD 0 0*256+(AU c ok 2).1.getD 1 0,((AU c ok 2).2.1++rest,(AU c ok 2).2.2)):=by
 cases ok with
 |false=>simp[AT,AU]
 |true=>
  match c,h rfl with
  |a::b::c,_=>simp[AT,AU]
  |[],.inr f=>subst f;simp[AT,AU]
  |[a],.inr f=>subst f;simp[AT,AU]
section
variable{W V V':Mem}{P:P5}{k:Dk}{s0 u:Sl}{c:List Int}{ok:Bool}{g:Nat}{st:List Int×Bool}
theorem Tw.grow(h:Tw P k s0 W V u c ok g)(f:V.sub V'):Tw P k s0 W V' u c ok g:=⟨h.na,h.nb,h.nc,h.nd,h.nr,f _ _ h.va,f _ _ h.vb,f _ _ h.vc,f _ _ h.vd,f _ _ h.vr,h.ne,ownA_grow h.own f,h.isb,h.gle⟩
theorem Tw.nB(h:Tw P k s0 W V u c ok g){p:Nat}{cs:Array Value}{t:Nat}(w:V p=some (.cells cs t (0,0)))(j:t≠5):¬BlkA u p:=λq=>by
 obtain⟨-,o,f⟩:=GM h.own q;rw[w]at f;simp only[zF,Obj.cells.injEq]at f;exact j f.2.1
theorem Tw.nR(h:Tw P k s0 W V u c ok g):P.a≠P.r/\P.b≠P.r/\P.c≠P.r/\P.d≠P.r:=by
 have f:=h.vr;refine⟨λe=>?_,λe=>?_,λe=>?_,λe=>?_⟩;·have:=h.va;rw[e,f]at this;simp[BN]at this
 ·have:=h.vb;rw[e,f]at this;simp[BN]at this
 ·have:=h.vc;rw[e,f]at this;simp[BN]at this
 ·have:=h.vd;rw[e,f]at this;simp[BN]at this
theorem Tw.nP(h:Tw P k s0 W V u c ok g):P.a≠P.b/\P.c≠P.b/\P.d≠P.b:=by
 have f:=h.vb;refine⟨λe=>?_,λe=>h.ne e.symm,λe=>?_⟩;·have:=h.va;rw[e,f]at this;simp at this
 ·have:=h.vd;rw[e,f]at this;simp at this
theorem Tw.setR(h:Tw P k s0 W V u c ok g){f:Sl}{t:List Int}(ok':Bool)(ho:Cp W V 5 f (t.flatMap AS))(w:An t):Tw P k s0 W (V.set P.r (BN f ok')) f t ok' g:=by
 obtain⟨q,o,H,G⟩:=h.nR;refine⟨h.na,h.nb,h.nc,h.nd,h.nr,?_,?_,?_,?_,Mem.set_same _ _ _,h.ne,Lj ho (λw=>?_) h.nr _,w,h.gle⟩;·rw[Mem.set_ne q];exact h.va
 ·rw[Mem.set_ne o];exact h.vb
 ·rw[Mem.set_ne H];exact h.vc
 ·rw[Mem.set_ne G];exact h.vd
 ·obtain⟨-,N,j⟩:=GM ho w;rw[h.vr]at j;simp[BN]at j
theorem Tw.setG(h:Tw P k s0 W V u c ok g){g':Nat}(f:g'<=min (Bh k).length 100):Tw P k s0 W (V.set P.b (cell (.int .i64 g') 3)) u c ok g':=by
 obtain⟨t,w,j⟩:=h.nP;obtain⟨-,q,-,-⟩:=h.nR;refine⟨h.na,h.nb,h.nc,h.nd,h.nr,?_,Mem.set_same _ _ _,?_,?_,?_,h.ne,Lj h.own (h.nB h.vb (by decide)) h.nb _,h.isb,f⟩;·rw[Mem.set_ne t];exact h.va
 ·rw[Mem.set_ne w];exact h.vc
 ·rw[Mem.set_ne j];exact h.vd
 ·rw[Mem.set_ne q.symm];exact h.vr
theorem Tw.two(h:Tw P k s0 W V u c ok g)(F:c.length<=100000){R:Ending->Mem->Prop}(K:∀S V',Tw P k s0 W V' S (AU c ok 2).2.1 (AU c ok 2).2.2 g->R (.returned (.int .i64 ((AU c ok 2).1.getD 0 0*256+(AU c ok 2).1.getD 1 0))) V') :
    TT 48 #[uP (some ⟨P.r,0,none⟩),uI 2] V λe t=>∃f,e=rV (uL f)/\
 ¬f.p=none/\(0:Int)<=(0:Int)/\0<(f.n:Int)/\∃w,t.rowp f.p ((0:Int).toNat*1) 1=some [.int .u8 w]/\
 ¬f.p=none/\(0:Int)<=(1:Int)/\1<(f.n:Int)/\∃j,t.rowp f.p ((1:Int).toNat*1) 1=some [.int .u8 j]/\
 (IR j/\t.rowp (Aa f.p ((0:Int).toNat*1)) 0 1=some [.int .u8 w]/\¬f.p=none/\(0:Int)<=(0:Int)/\0<(f.n:Int)/\IR w/\R (rV (uI (Go.bits .or .i64 (xF .i64 (w*(256:Int))) j))) t)/\
 (IR w/\t.rowp (Aa f.p ((1:Int).toNat*1)) 0 1=some [.int .u8 j]/\¬f.p=none/\(0:Int)<=(1:Int)/\1<(f.n:Int)/\IR j/\R (rV (uI (Go.bits .or .i64 (xF .i64 (w*(256:Int))) j))) t):=by
  have T:(Mem.minus V λc=>c=P.r).sub V:=GB;have L:(Mem.minus V λc=>c=P.r) P.r=none:=Do rfl;have X:Bt (Mem.minus V λc=>c=P.r) u c:=by
    refine ownA_bt (W:=λ_=>none) (Hz h.own (λb o B=>by cases B) λb o B hw Z=>⟨rfl,?_⟩) h.isb (by omega);rw[Cn (λe=>?_)];· exact Z
    · obtain⟨-,U,F⟩:=GM h.own B;rw[e,h.vr]at F;simp[BN]at F
  refine Tri.mono (c248 (n:=2) T L h.vr X (by decide)) ?_;rintro _ t ⟨v,rfl,hs,Z,-⟩;have Y:Cp W V 5 (rdSl u c ok 2) ((AU c ok 2).2.1.flatMap AS):=by
    by_cases q:ok=true/\2<=c.length
    · have C:AU c ok 2=(c.take 2,c.drop 2,true):=if_pos q;have E:rdSl u c ok 2=_:=if_pos q;rw[C,E];have:=ownA_drop h.own (n:=2) (by rw[FQ (sz:=1) (fun _=>rfl)];omega);have e3:(c.flatMap AS).drop 2=(c.drop 2).flatMap AS:=by
        match c,q.2 with
        |a::b::c,_=>rfl
      rw[e3]at this;exact this
    · have C:AU c ok 2=(List.replicate 2 0,c,false):=if_neg q;have E:rdSl u c ok 2=u:=if_neg q;rw[C,E];exact h.own
  have hT:=(h.setR (AU c ok 2).2.2 Y (rdB_b h.isb ok 2).2).grow hs;have hl:=JG c ok 2;have Q:=(rdB_b h.isb ok 2).1;obtain⟨o,ho⟩:∃o,o=(AU c ok 2).1:=⟨_,rfl⟩;have A:=K _ t hT;rw[<-ho]at Z hl Q A
  match o,hl with
  |[x,y],_=>
    have H:=Z.n;have hx:=Q x (by simp);have hy:=Q y (by simp);obtain⟨-,-,-,-,-,O,-,-⟩:=Z.rows.get (i:=0) (by rw[H];simp);have I:t.rowp v.p ((0:Int).toNat*1) 1=some [.int .u8 x]:=Z.rows.at_get (i:=0) rfl;have M:t.rowp v.p ((1:Int).toNat*1) 1=some [.int .u8 y]:=Z.rows.at_get (i:=1) rfl;have ra:t.rowp (Aa v.p ((0:Int).toNat*1)) 0 1=some [.int .u8 x]:=by
      cases G:v.p with
      |none=>exact absurd G O
      |some a=>
        rw[G]at I;simp only[Mem.rowp,Aa,zJ,IZ]at I⊢;simpa using I
    have rb:t.rowp (Aa v.p ((1:Int).toNat*1)) 0 1=some [.int .u8 y]:=by
      cases G:v.p with
      |none=>exact absurd G O
      |some a=>
        rw[G]at M;simp only[Mem.rowp,Aa,zJ,IZ]at M⊢;simpa using M
    have ev:Go.bits .or .i64 (xF .i64 (x*(256:Int))) y=x*256+y:=by
      rw[Eh ⟨by simp[IntKind.min,zQ,zR];omega,by simp[IntKind.max,zQ,zR];omega⟩];have:=bits_or (a:=y) (x:=x) (k:=8) hy.1 (by omega) hx.1 (by omega);rw[bits_comm,show x*256=x*2^8 by rfl,this];omega
    have N:R (.returned (.int .i64 (x*256+y))) t:=A;refine⟨v,rfl,O,by decide,by rw[H];simp,x,I,O,by decide,by rw[H];simp,y,M,⟨⟨by omega,by omega⟩,ra,O,by decide,by rw[H];simp,⟨by omega,by omega⟩,?_⟩,⟨⟨by omega,by omega⟩,rb,O,by decide,by rw[H];simp,⟨by omega,by omega⟩,?_⟩⟩;· rw[ev];exact N
    · rw[ev];exact N
end
theorem Ow{V0 V:Mem}{s u:Sl}{c x:List Int}{y z:Operand}{ty:Nat}{vals:Operand->Value}(O:vals y=.slice s.p s.n s.c)(hz:vals z=.slice u.p u.n u.c)(o:Cp V0 V 5 s (c.flatMap AS))(w:Bt V u x)(t:x≠[])(hl:c.length+x.length<=2147483648){q:Value->Mem->Prop}
  (A:∀s' V',Cp V0 V' 5 s' ((c++x).flatMap AS)->q (.slice s'.p s'.n s'.c) V'):GenK xE (.call {callee:=.builtin .append,args:=#[y,z],argTypes:=#[34,34]}) ty vals V q:=by
 have H:=w.n;have G:=o.len;rw[FQ (sz:=1) (λ_=>rfl),wy]at G;obtain⟨F,N⟩:=List.exists_mem_of_ne_nil _ t;cases Z:u.p with
 |none=>
  obtain⟨j,I,-⟩:=List.mem_iff_getElem.1 N;have:=w.rows.base (i:=j) (by simpa using I);rw[Z]at this;cases this
 |some a=>
  have f:=Ad.flat (V:=V) (row:=AS) (sz:=1) (by decide) x a t λi y Y=>by
   have:=w.rows.at_get Y;rw[Z]at this;exact this
  rw[wy]at f;refine GenK.appendA (i:=ti 5) (z:=(ti 5).zero.getD undef) (a:=a) (m:=x.length) (c:=u.c) (news:=x.flatMap AS) ur (by kernel_rfl) (by kernel_rfl) (by kernel_rfl) (by kernel_rfl) (of_decide_eq_true (by kernel_rfl)) O (by rw[hz,Z,H]) o f ?_ (by omega) λs' V' ho=>A s' V' (by rw[uh];exact ho);intro v M;obtain⟨n,-,Q⟩:=uv.1 M;simp only[AS,zO]at Q;rw[Q];rfl
section
variable{W V V':Mem}{P:P5}{k:Dk}{s0 u v:Sl}{c x:List Int}{ok:Bool}{g:Nat}{st:List Int×Bool}
theorem Tw.page(h:Tw P k s0 W V u c ok g)(F:Bt V v x)(Q:x≠[])(hl:c.length+x.length<=2147483648)(B:g+1<=min (Bh k).length 100){J:Mem->Prop}(C:∀q V',Tw P k s0 W V' q (c++x) ok (g+1)->J V') :
    ∃f,V.rowp (some ⟨P.a,0,none⟩) ((0:Int).toNat*1) 1=some [uP f]/\
 ∃w,V.rowp (some ⟨P.a,0,none⟩) ((0:Int).toNat*1) 1=some [uP w]/\
 ¬w=none/\¬w=none/\∃o,V.rowp w ((0:Int).toNat*1) 1=some [uL o]/\
 GenK xE (.call {callee:=(.builtin .append),args:=#[(.tmp 41),(.tmp 42)],argTypes:=#[34,34]}) 34 (gv [(41,uL o),(42,uL v)]) V λx t=>∃H,x=uL H/\
 t.rowp (some ⟨P.a,0,none⟩) 0 1=some [uP f]/\¬f=none/\¬f=none/\AQ (Aa f 0) 0 [uL H] t λL=>
 ∃j,L.rowp (some ⟨P.b,0,none⟩) ((0:Int).toNat*1) 1=some [uI j]/\
 IR (j+1)/\AQ (some ⟨P.b,0,none⟩) 0 [uI (j+1)] L λE=>J E:=by
  have O:g<100:=by have:=h.gle;omega
  refine⟨_,Al h.va,_,Al h.va,by simp,by simp,u,At h.vr 0 1 (by simp),?_⟩;refine Ow (c:=c) rfl rfl (ownA_but h.own) F Q hl λq t A=>?_;obtain⟨R,G⟩:=ownA_push h.own A;have X:t P.a=V P.a:=G P.a (h.nB h.va (by decide)) (by rw[h.va];simp);have I:t P.b=V P.b:=G P.b (h.nB h.vb (by decide)) (by rw[h.vb];simp);have Z:t P.c=V P.c:=G P.c (h.nB h.vc (by decide)) (by rw[h.vc];simp);have hd:t P.d=V P.d:=G P.d (h.nB h.vd (by decide)) (by rw[h.vd];simp);have K:t P.r=V P.r:=G P.r (h.nB h.vr (by decide)) (by rw[h.vr];simp);have N:t P.r=some (BN u ok):=by rw[K];exact h.vr
  have Y:=h.nR;refine⟨q,rfl,by rw[show t.rowp (some ⟨P.a,0,none⟩) 0 1=_ from Al (by rw[X];exact h.va)],by simp,by simp,AQ.at2 (off:=0) N (by simp) ?_⟩;have M:Tw P k s0 W (t.set P.r (BN q ok)) q (c++x) ok g:=by
    refine⟨h.na,h.nb,h.nc,h.nd,h.nr,?_,?_,?_,?_,Mem.set_same _ _ _,h.ne,Lj R (λI=>?_) h.nr _,h.isb.app F.b,h.gle⟩;· rw[Mem.set_ne Y.1,X];exact h.va
    · rw[Mem.set_ne Y.2.1,I];exact h.vb
    · rw[Mem.set_ne Y.2.2.1,Z];exact h.vc
    · rw[Mem.set_ne Y.2.2.2,hd];exact h.vd
    · obtain⟨-,S,Z⟩:=GM R I;rw[N]at Z;simp[BN]at Z
  refine⟨g,Al M.vb,⟨by omega,by omega⟩,AQ.cell M.vb ?_⟩;have:=M.setG (g':=g+1) B;exact C q _ this
theorem BG.sub(h:BG P k s0 st W V):W.sub V:=by
 obtain⟨u,c,ok,g,h,-⟩:=h;exact h.own.sub
theorem strR_succ{k:Dk}{g:Nat}{x:List Int}(j:g<100)(t:(Bh k)[g]?=some x):strR k g=x++strR k (g+1):=by
 have q:=(yv.1 t).1;have w:((Bh k).take 100)[g]?=some x:=by rw[List.getElem?_take_of_lt j];exact t
 have f:=(yv.1 w).1;unfold strR;rw[List.drop_eq_getElem_cons f,List.flatten_cons];congr 1;exact(yv.1 w).2
theorem strR_end{k:Dk}{g:Nat}(f:min (Bh k).length 100<=g):strR k g=[]:=by
 unfold strR;rw[ug (by rw[List.length_take];omega)];rfl
theorem Ox(h:BG P k s0 st W V)(S:Bt W s0 k.data)(hl:k.data.length<=2147483648)(E:AY k=true):
  Tri xE 81 #[.pointer (some ⟨P.a,0,none⟩),.pointer (some ⟨P.b,0,none⟩),.pointer (some ⟨P.c,0,none⟩),.pointer (some ⟨P.d,0,none⟩)] V λe V'=>e=.returned (.int .i64 (AT st).1)/\BG P k s0 (AT st).2 W V':=by
 obtain⟨R,K⟩:∃R:Ending->Mem->Prop,R=λe V'=>e=.returned (.int .i64 (AT st).1)/\BG P k s0 (AT st).2 W V':=⟨_,rfl⟩;rw[<-K];have T:=BF E;refine NP ?_;obtain⟨u,c,ok,g,t,q,j⟩:=h;refine⟨λm xs V1=>xs=[]/\∃u c g,m=100-g/\Tw P k s0 W V1 u c ok g/\st=(c++strR k g,ok)/\c.length<=100000,100-g,⟨rfl,u,c,g,rfl,t,q,j⟩,?_⟩;clear t q j;rintro m V1 ⟨-,u,c,g,rfl,t,q,j⟩ J U;have Y:(ok=true->2<=c.length∨strR k g=[])->∀Q V',Tw P k s0 W V' Q (AU c ok 2).2.1 (AU c ok 2).2.2 g->R (.returned (.int .i64 ((AU c ok 2).1.getD 0 0*256+(AU c ok 2).1.getD 1 0))) V':=λho Q V' Z=>by
  have e:=rd2_rdB ho;rw[<-q]at e;rw[K,e];refine⟨rfl,Q,_,_,g,Z,rfl,?_⟩;unfold AU;split;·rw[wY];omega
  ·exact j
 have hun:u.n=c.length:=by
  have:=t.own.len;rw[FQ (sz:=1) (λ_=>rfl),wy]at this;exact this.symm
 refine⟨_,Al t.va,by simp,by simp,u,At t.vr 0 1 (by simp),λhlt=>?_,λhge=>⟨_,Al t.va,t.two j (Y λ_=>.inl (by omega))⟩⟩;refine⟨g,Al t.vb,(Bh k).length,Al t.vc,GenK.min2 rfl rfl ⟨_,rfl,λO=>?_,λA=>?_⟩⟩;rotate_left
 ·refine⟨_,Al t.va,t.two j (Y λ_=>.inr (strR_end ?_))⟩;split at A<;>omega
 have hg:g<min (Bh k).length 100:=by split at O<;>omega
 refine⟨k.page,s0,k.syn,k.aft,At t.vd 0 4 (by simp),g,Al t.vb,?_⟩;refine Tri.mono (Mz (page:=(g:Int)) (S.sub t.own.sub) hl) ?_;rintro _ L ⟨s3,G⟩;rw[if_pos E,if_pos ⟨by omega,by omega⟩]at G;obtain⟨w,x,rfl,X,hw⟩:=G;rw[vM]at X;have f:=t.grow s3;have I:=K0 k x (List.mem_of_getElem? X);have M:x≠[]:=λe=>by rw[e]at I;simp at I;omega
 have F:st=(c++x++strR k (g+1),ok):=by rw[q,strR_succ (by omega) X,zH]
 have next:∀B,Tw P k s0 W B u c ok g->Bt B w x->_:=λB h4 C=>h4.page C M (by omega) (by omega) (J:=J []) λQ V' Z=>U (100-(g+1)) _ _ (by omega) ⟨rfl,Q,c++x,g+1,rfl,Z,F,by rw[zw];omega⟩
 have N:∀ok',ok'=ok->Tw P k s0 W (L.set P.r (BN u ok')) u c ok g:=λok' e=>e▸f.setR ok' f.own f.isb;have o:∀ok',ok'=ok->Bt (L.set P.r (BN u ok')) w x:=λok' e=>by
  have:L.set P.r (BN u ok')=L:=Mem.set_eq (by rw[e];exact f.vr);rw[this];exact hw
 refine⟨w,0,rfl,_,Al f.va,_,Al f.va,by simp,by simp,ok,At f.vr 1 1 (by simp),Al f.va,λH=>⟨by simp,by simp,AQ.at2 (off:=1) f.vr (by simp) ?_⟩,λH=>⟨by simp,by simp,AQ.at2 (off:=1) f.vr (by simp) ?_⟩⟩;·exact next _ (N true (by rw[H])) (o true (by rw[H]))
 ·exact next _ (N false (by simpa using Eq.symm (by simpa using H))) (o false (by simpa using Eq.symm (by simpa using H)))
end
end Go.Proofs
namespace Go.Proofs
open Go Go.Sx
theorem FD{s:List Int×Bool}(h:An s.1):in16 (AT s).1/\An (AT s).2.1:=by
 obtain⟨b,ok⟩:=s
 match b,ok,h with
 |x::y::r,true,h=>
  have f:=h x zb;have t:=h y (za _ zb);exact⟨⟨by show 0<=x*256+y;omega,by show x*256+y<65536;omega⟩,λz hz=>h z (za _ (za _ hz))⟩
 |[],ok,h=>cases ok<;>exact⟨⟨ue 0,show(0:Int)<65536 by decide⟩,h⟩
 |[x],ok,h=>cases ok<;>exact⟨⟨ue 0,show(0:Int)<65536 by decide⟩,h⟩
 |x::y::r,false,h=>exact⟨⟨ue 0,show(0:Int)<65536 by decide⟩,h⟩
theorem Lk:∀(n:Nat)(s:List Int×Bool),BT (n+1) s=((BT n s).1++[(AT (BT n s).2).1],(AT (BT n s).2).2)
 |0,s=>rfl
 |n+1,s=>by
  rw[BT,Lk n (AT s).2];rfl
theorem rdL_b:∀(n:Nat)(s:List Int×Bool),An s.1->(∀x∈(BT n s).1,in16 x)/\An (BT n s).2.1/\(BT n s).1.length=n
 |0,s,h=>⟨(λx f=>by cases f),h,rfl⟩
 |n+1,s,h=>by
  obtain⟨t,w⟩:=FD h;obtain⟨j,q,o⟩:=rdL_b n _ w;refine⟨λx f=>?_,q,by show(_::_).length=_;rw[List.length_cons,o]⟩;rcases yD.1 f with rfl|f;·exact t
  ·exact j x f
def FE(page:Nat)(s:List Int×Bool):Option ((Int×List Int)×(List Int×Bool)):=
 if 12000<(AT s).1 then none else some (((AT s).1,(BT (((AT s).1.toNat+page-1)/page) (AT s).2).1),(BT (((AT s).1.toNat+page-1)/page) (AT s).2).2)
theorem rdV_one(page n:Nat)(s:List Int×Bool):Df page (n+1) s=(FE page s).bind λz=>(Df page n z.2).map λy=>(z.1::y.1,y.2):=by
 rw[Df,FE];split;·rfl
 ·simp only[zr];cases Df page n (BT (((AT s).1.toNat+page-1)/page) (AT s).2).2 with
  |none=>rfl
  |some y=>rfl
theorem JJ(page:Nat):∀(n:Nat)(s:List Int×Bool),Df page (n+1) s=(Df page n s).bind λy=>(FE page y.2).map λz=>(y.1++[z.1],z.2)
 |0,s=>by
  rw[rdV_one,Df,zr];cases FE page s with
  |none=>rfl
  |some z=>rfl
 |n+1,s=>by
  rw[rdV_one,rdV_one page n];cases FE page s with
  |none=>rfl
  |some z=>
   simp only[zr];rw[JJ page n];cases Df page n z.2 with
   |none=>rfl
   |some y=>
    simp only[zr,zJ];cases FE page y.2 with
    |none=>rfl
    |some z=>rfl
theorem rdV_gone{page n:Nat}{s:List Int×Bool}(h:Df page n s=none):∀m,n<=m->Df page m s=none:=by
 intro m hm;induction hm with
 |refl=>exact h
 |step _ f=>rw[JJ,f];rfl
structure DirB (page:Nat)(x:Dir):Prop where
 n:x.sizes.length<=1000
 c:x.all.length<=30
 s:∀y∈x.sizes,in16 y
 v:∀y∈x.all,0<=y.1/\y.1<=12000/\y.2.length=(y.1.toNat+page-1)/page/\∀z∈y.2,in16 z
theorem rdV_b{page:Nat}:∀(n:Nat)(s:List Int×Bool)(y:List (Int×List Int)×(List Int×Bool)),An s.1->Df page n s=some y->(∀v∈y.1,0<=v.1/\v.1<=12000/\v.2.length=(v.1.toNat+page-1)/page/\∀z∈v.2,in16 z)/\An y.2.1/\y.1.length=n
 |0,s,y,t,h=>by
  rw[Df]at h;cases h;exact⟨(λv f=>by cases f),t,rfl⟩
 |n+1,s,y,t,h=>by
  rw[JJ]at h;cases w:Df page n s with
  |none=>rw[w]at h;cases h
  |some x=>
   obtain⟨j,q,o⟩:=rdV_b n s x t w;rw[w,zr,FE]at h;obtain⟨H,G⟩:=FD q;obtain⟨N,Z,Y⟩:=rdL_b (((AT x.2).1.toNat+page-1)/page) _ G;split at h;·cases h
   ·rename_i Q;cases h;refine⟨λv f=>?_,Z,by rw[zw,o];rfl⟩;rcases wZ.1 f with f|f;·exact j v f
    ·rw[zO.1 f];exact⟨H.1,by show(AT x.2).1<=12000;omega,Y,N⟩
theorem setPg_b{page:Nat}{out:List (List Int)}{x:Int×List Int}(h:∀p∈out,An p)(t:An x.2):∀p∈CB page out x,An p:=λp f=>by
 unfold CB at f;rcases List.mem_or_eq_of_mem_set f with f|rfl
 ·rcases wZ.1 f with f|f;·exact h p f
  ·rw[(vm.1 f).2];exact λy w=>by rw[(vm.1 w).2];decide
 ·exact t
theorem fold_b{page:Nat}:∀(l:List (Int×List Int))(out:List (List Int)),(∀p∈out,An p)->(∀x∈l,An x.2)->∀p∈l.foldl (CB page) out,An p
 |[],_,h,_=>h
 |x::l,_,h,hl=>fold_b l _ (setPg_b h (hl x zb)) λy f=>hl y (za _ f)
theorem parse_b{page:Nat}{b:List Int}(t:An b){l:List (Int×List Int)}{s:Nat}(h:BH page b=some (l,s)):∀x∈l,An x.2:=λx f=>by
 unfold BH at h;simp only at h;split at h;·cases h
 ·split at h;·cases h
  ·split at h
   ·simp only[zF,Prod.mk.injEq]at h;rw[<-h.1]at f;obtain⟨i,-,rfl⟩:=List.mem_map.1 f;exact(t.drop _).take _
   ·cases h
theorem recF_b(page:Nat):∀(n:Nat)(b:List Int),b.length<=n->An b->∀l∈(Ao page b).1,∀x∈l,An x.2
 |0,b,w,t,l,hl=>by
  obtain rfl:=ya (Nat.le_zero.1 w);rw[Ib]at hl;cases hl
 |n+1,b,w,t,l,hl=>by
  rw[Fy]at hl;cases f:BH page b with
  |none=>rw[f]at hl;cases hl
  |some y=>
   obtain⟨j,s⟩:=y;have q:=F7 f;rw[f]at hl;rcases yD.1 hl with rfl|hl;·exact parse_b t f
   ·exact recF_b page n (b.drop s) (by rw[wY];omega) (t.drop s) l hl
theorem pgs_isB{k:Dk}(h:An k.data):∀p∈Bh k,An p:=by
 refine fold_b _ _ (λp t=>by cases t) λx f=>?_;obtain⟨l,hl,f⟩:=ud.1 f;exact recF_b k.page.toNat _ k.data (yV _) h l hl x f
theorem str_isB{k:Dk}(h:An k.data):An (strK k):=λx f=>by
 obtain⟨p,t,f⟩:=ud.1 f;exact pgs_isB h p (List.mem_of_mem_take t) x f
theorem openS_b{page:Nat}{s:List Int}{x:Dir}(w:An s)(h:EP page s=some x):DirB page x:=by
 unfold EP at h;simp only at h;have j:=FD (s:=(s,true)) w;have f:=FD j.2;have t:=FD f.2;split at h;·cases h
 ·split at h;·cases h
  ·rename_i H;obtain⟨b1,b2,b3⟩:=rdL_b (AT (AT (s,true)).2).1.toNat _ t.2;split at h;·cases h
   ·rename_i v q;obtain⟨o,G,c3⟩:=rdV_b _ _ _ b2 q;split at h
    ·cases h;have:=f.1.1;have:=t.1.1;exact⟨by show(BT _ _).1.length<=1000;omega,by show v.1.length<=30;omega,b1,o⟩
    ·cases h
theorem open_b{k:Dk}(t:An k.data):DirB k.page.toNat (Au k).1:=by
 have nil:DirB k.page.toNat ⟨[],[]⟩:=⟨by decide,by decide,(λy f=>by cases f),λy f=>by cases f⟩;unfold Au;split;·exact nil
 ·split;·exact nil
  ·split;·exact nil
   ·cases ho:EP k.page.toNat (strK k)with
    |none=>exact nil
    |some x=>exact openS_b (str_isB t) ho
end Go.Proofs
