/- Part 21: no statement of the seat is proved here. -/
import Derived.Test.YtcebnmieadkjfaaGreatDoorPg20
set_option linter.unusedVariables false
set_option linter.unusedSimpArgs false
open Go.Proofs.Tryz renaming f19->uw,prog->xG,call42->uu,call43->ur
open List renaming range->zB,lookup_cons->zc,map->uv,mem_singleton->zO,mem_cons->yD
open Go.IntKind renaming i64->yr
open Array renaming replicate->xd
namespace Go.Proofs
open Go Go.Sx
set_option maxRecDepth 100000
/- heartwood/heartwoodlaw18.list, piece a -/
noncomputable def c19a:List Code:=((AP (Az uw) []).drop 0).take 4
def w19a(V:Mem)(R:RP):Prop:=TT 42 #[uS (Ab [116,104,105,115])] V λe V1=>∃a b c d,e=rV (uA #[uI a,uI b,uS c,uL d])/\Af [uS (Ab []),.slice none 0 0,.slice none 0 0,.slice none 0 0,.slice none 0 0,.slice none 0 0,.slice none 0 0,.slice none 0 0] 30 V1 λg V2=>Af [uI a,uI b,uS c,uL d] 97 V2 λi h=>R (rT #[uP (Aa g 0),.func (.func 42) #[] #[],.func (.func 43) #[] #[],uP (Aa i 0)]) h
theorem s19a{V:Mem}{R:KZ}(h:w19a V (OV R)):AO xG 70 c19a [] [0,1,2,3] V R:=
 B7 (H:={N:=0,early:=[],loops:=[],keep:=zB 70}) [] [] rfl (by kernel_rfl) h
/- heartwood/heartwoodlaw18.list, piece o0 -/
noncomputable def AF:Array Oper:=Cj ((AP (Az uw) []).getD 4 .skip)
def w19o0(V:Mem)(R:RP):Prop:=R (rT #[uA #[uS (Ab [107]),uS (Ab [105,110,116])]]) V
theorem s19o0{V:Mem}{R:KZ}(h:w19o0 V (OV R)):Aw xG 70 AF 0 1 [] [6] V R:=
 AC (H:={N:=0,early:=[],loops:=[],keep:=zB 70}) [] [] rfl (by kernel_rfl) h
/- heartwood/heartwoodlaw18.list, piece o1 -/
def w19o1(V:Mem)(R:RP):Prop:=R (rT #[uA #[uS (Ab [110,101,120,116]),uS (Ab [76])]]) V
theorem s19o1{V:Mem}{R:KZ}(h:w19o1 V (OV R)):Aw xG 70 AF 1 1 [] [7] V R:=
 AC (H:={N:=0,early:=[],loops:=[],keep:=zB 70}) [] [] rfl (by kernel_rfl) h
/- heartwood/heartwoodlaw18.list, piece o2 -/
def w19o2(a b c d:KB)(V:Mem)(R:RP):Prop:=Af [uS a,uS b,uS c,uS d] 110 V λg V1=>R (rT #[.slice (Aa g 0) (2:Int).toNat (2:Int).toNat]) V1
theorem s19o2{a b c d:KB}{V:Mem}{R:KZ}(h:w19o2 a b c d V (OV R)):Aw xG 70 AF 2 1 [(6,uA #[uS a,uS b]),(7,uA #[uS c,uS d])] [8] V R:=
 AC (H:={N:=0,early:=[],loops:=[],keep:=zB 70}) [(6,(.agg (.cons (.var .s 0) (.cons (.var .s 1) .nil)))),(7,(.agg (.cons (.var .s 2) (.cons (.var .s 3) .nil))))] [uS a,uS b,uS c,uS d] rfl (by kernel_rfl) h
/- heartwood/heartwoodlaw18.list, piece o3 -/
def w19o3(a:Sl)(V:Mem)(R:RP):Prop:=R (rT #[uA #[uS (Ab [76]),uL a]]) V
theorem s19o3{a:Sl}{V:Mem}{R:KZ}(h:w19o3 a V (OV R)):Aw xG 70 AF 3 1 [(8,uL a)] [9] V R:=
 AC (H:={N:=0,early:=[],loops:=[],keep:=zB 70}) [(8,(.var .sl 0))] [uL a] rfl (by kernel_rfl) h
/- heartwood/heartwoodlaw18.list, piece o4 -/
def w19o4(a:KB)(b:Sl)(V:Mem)(R:RP):Prop:=Af [uS a,uL b] 112 V λc V1=>R (rT #[.slice (Aa c 0) (1:Int).toNat (1:Int).toNat]) V1
theorem s19o4{a:KB}{b:Sl}{V:Mem}{R:KZ}(h:w19o4 a b V (OV R)):Aw xG 70 AF 4 1 [(9,uA #[uS a,uL b])] [10] V R:=
 AC (H:={N:=0,early:=[],loops:=[],keep:=zB 70}) [(9,(.agg (.cons (.var .s 0) (.cons (.var .sl 1) .nil))))] [uS a,uL b] rfl (by kernel_rfl) h
/- heartwood/heartwoodlaw18.list, piece o5 -/
def w19o5(V:Mem)(R:RP):Prop:=R (rT #[uA #[uS (Ab [104,101,97,100]),uS (Ab [76])]]) V
theorem s19o5{V:Mem}{R:KZ}(h:w19o5 V (OV R)):Aw xG 70 AF 5 1 [] [11] V R:=
 AC (H:={N:=0,early:=[],loops:=[],keep:=zB 70}) [] [] rfl (by kernel_rfl) h
/- heartwood/heartwoodlaw18.list, piece o6 -/
def w19o6(a b:KB)(V:Mem)(R:RP):Prop:=Af [uS a,uS b] 110 V λc V1=>R (rT #[.slice (Aa c 0) (1:Int).toNat (1:Int).toNat]) V1
theorem s19o6{a b:KB}{V:Mem}{R:KZ}(h:w19o6 a b V (OV R)):Aw xG 70 AF 6 1 [(11,uA #[uS a,uS b])] [12] V R:=
 AC (H:={N:=0,early:=[],loops:=[],keep:=zB 70}) [(11,(.agg (.cons (.var .s 0) (.cons (.var .s 1) .nil))))] [uS a,uS b] rfl (by kernel_rfl) h
/- heartwood/heartwoodlaw18.list, piece o7 -/
def w19o7(V:Mem)(R:RP):Prop:=R (rT #[uA #[uS (Ab [107]),uS (Ab [105,110,116])]]) V
theorem s19o7{V:Mem}{R:KZ}(h:w19o7 V (OV R)):Aw xG 70 AF 7 1 [] [13] V R:=
 AC (H:={N:=0,early:=[],loops:=[],keep:=zB 70}) [] [] rfl (by kernel_rfl) h
/- heartwood/heartwoodlaw18.list, piece o8 -/
def w19o8(a b:KB)(V:Mem)(R:RP):Prop:=Af [uS a,uS b] 110 V λc V1=>R (rT #[.slice (Aa c 0) (1:Int).toNat (1:Int).toNat]) V1
theorem s19o8{a b:KB}{V:Mem}{R:KZ}(h:w19o8 a b V (OV R)):Aw xG 70 AF 8 1 [(13,uA #[uS a,uS b])] [14] V R:=
 AC (H:={N:=0,early:=[],loops:=[],keep:=zB 70}) [(13,(.agg (.cons (.var .s 0) (.cons (.var .s 1) .nil))))] [uS a,uS b] rfl (by kernel_rfl) h
/- heartwood/heartwoodlaw18.list, piece o9 -/
def w19o9(V:Mem)(R:RP):Prop:=R (rT #[uA #[uS (Ab [120]),uS (Ab [76])]]) V
theorem s19o9{V:Mem}{R:KZ}(h:w19o9 V (OV R)):Aw xG 70 AF 9 1 [] [15] V R:=
 AC (H:={N:=0,early:=[],loops:=[],keep:=zB 70}) [] [] rfl (by kernel_rfl) h
/- heartwood/heartwoodlaw18.list, piece o10 -/
def w19o10(a b:KB)(V:Mem)(R:RP):Prop:=Af [uS a,uS b] 110 V λc V1=>R (rT #[.slice (Aa c 0) (1:Int).toNat (1:Int).toNat]) V1
theorem s19o10{a b:KB}{V:Mem}{R:KZ}(h:w19o10 a b V (OV R)):Aw xG 70 AF 10 1 [(15,uA #[uS a,uS b])] [16] V R:=
 AC (H:={N:=0,early:=[],loops:=[],keep:=zB 70}) [(15,(.agg (.cons (.var .s 0) (.cons (.var .s 1) .nil))))] [uS a,uS b] rfl (by kernel_rfl) h
/- heartwood/heartwoodlaw18.list, piece o11 -/
def w19o11(V:Mem)(R:RP):Prop:=R (rT #[uA #[uI 6,uI 0,uS (Ab [76]),.slice none 0 0]]) V
theorem s19o11{V:Mem}{R:KZ}(h:w19o11 V (OV R)):Aw xG 70 AF 11 1 [] [17] V R:=
 AC (H:={N:=0,early:=[],loops:=[],keep:=zB 70}) [] [] rfl (by kernel_rfl) h
/- heartwood/heartwoodlaw18.list, piece o12 -/
def w19o12(a b:Int)(c:KB)(d:Sl)(V:Mem)(R:RP):Prop:=Af [uI a,uI b,uS c,uL d] 97 V λg V1=>R (rT #[.slice (Aa g 0) (1:Int).toNat (1:Int).toNat]) V1
theorem s19o12{a b:Int}{c:KB}{d:Sl}{V:Mem}{R:KZ}(h:w19o12 a b c d V (OV R)):Aw xG 70 AF 12 1 [(17,uA #[uI a,uI b,uS c,uL d])] [18] V R:=
 AC (H:={N:=0,early:=[],loops:=[],keep:=zB 70}) [(17,(.agg (.cons (.var (.i .i64) 0) (.cons (.var (.i .i64) 1) (.cons (.var .s 2) (.cons (.var .sl 3) .nil))))))] [uI a,uI b,uS c,uL d] rfl (by kernel_rfl) h
/- heartwood/heartwoodlaw18.list, piece o13 -/
def w19o13(a:Sl)(V:Mem)(R:RP):Prop:=R (rT #[uA #[uI 1,uS (Ab [120]),uL a,.slice none 0 0,.slice none 0 0]]) V
theorem s19o13{a:Sl}{V:Mem}{R:KZ}(h:w19o13 a V (OV R)):Aw xG 70 AF 13 1 [(18,uL a)] [19] V R:=
 AC (H:={N:=0,early:=[],loops:=[],keep:=zB 70}) [(18,(.var .sl 0))] [uL a] rfl (by kernel_rfl) h
/- heartwood/heartwoodlaw18.list, piece o14 -/
def w19o14(a:Value)(V:Mem)(R:RP):Prop:=R (rT #[K.cast .f a]) V
theorem s19o14{a:Value}{V:Mem}{R:KZ}(h:w19o14 a V (OV R)):Aw xG 70 AF 14 1 [(1,K.cast .f a)] [20] V R:=
 AC (H:={N:=0,early:=[],loops:=[],keep:=zB 70}) [(1,(.var .f 0))] [a] rfl (by kernel_rfl) h
/- heartwood/heartwoodlaw18.list, piece o15 -/
def w19o15(a:Value)(V:Mem)(R:RP):Prop:=∃f first h,K.cast .f a=.func (.func f) first h/\CO f/\TT f (first++#[uS (Ab [120])]++h) V λe V1=>∃b c d g,e=rV (uA #[uI b,uI c,uS d,uL g])/\R (rT #[uA #[uI b,uI c,uS d,uL g]]) V1
theorem s19o15{a:Value}{V:Mem}{R:KZ}(h:w19o15 a V (OV R)):Aw xG 70 AF 15 1 [(20,K.cast .f a)] [21] V R:=
 AC (H:={N:=0,early:=[],loops:=[],keep:=zB 70}) [(20,(.var .f 0))] [a] rfl (by kernel_rfl) h
/- heartwood/heartwoodlaw18.list, piece o16 -/
def w19o16(a:Value)(V:Mem)(R:RP):Prop:=R (rT #[K.cast .f a]) V
theorem s19o16{a:Value}{V:Mem}{R:KZ}(h:w19o16 a V (OV R)):Aw xG 70 AF 16 1 [(1,K.cast .f a)] [22] V R:=
 AC (H:={N:=0,early:=[],loops:=[],keep:=zB 70}) [(1,(.var .f 0))] [a] rfl (by kernel_rfl) h
/- heartwood/heartwoodlaw18.list, piece o17 -/
def w19o17(a:Value)(V:Mem)(R:RP):Prop:=∃f first h,K.cast .f a=.func (.func f) first h/\CO f/\TT f (first++#[uS (Ab [107])]++h) V λe V1=>∃b c d g,e=rV (uA #[uI b,uI c,uS d,uL g])/\R (rT #[uA #[uI b,uI c,uS d,uL g]]) V1
theorem s19o17{a:Value}{V:Mem}{R:KZ}(h:w19o17 a V (OV R)):Aw xG 70 AF 17 1 [(22,K.cast .f a)] [23] V R:=
 AC (H:={N:=0,early:=[],loops:=[],keep:=zB 70}) [(22,(.var .f 0))] [a] rfl (by kernel_rfl) h
/- heartwood/heartwoodlaw18.list, piece o18 -/
def w19o18(a b:Int)(c:KB)(d:Sl)(g i:Int)(j:KB)(k:Sl)(V:Mem)(R:RP):Prop:=Af [uI a,uI b,uS c,uL d,uI g,uI i,uS j,uL k] 97 V λl V1=>R (rT #[.slice (Aa l 0) (2:Int).toNat (2:Int).toNat]) V1
theorem s19o18{a b:Int}{c:KB}{d:Sl}{g i:Int}{j:KB}{k:Sl}{V:Mem}{R:KZ}(h:w19o18 a b c d g i j k V (OV R)):Aw xG 70 AF 18 1 [(21,uA #[uI a,uI b,uS c,uL d]),(23,uA #[uI g,uI i,uS j,uL k])] [24] V R:=
 AC (H:={N:=0,early:=[],loops:=[],keep:=zB 70}) [(21,(.agg (.cons (.var (.i .i64) 0) (.cons (.var (.i .i64) 1) (.cons (.var .s 2) (.cons (.var .sl 3) .nil)))))),(23,(.agg (.cons (.var (.i .i64) 4) (.cons (.var (.i .i64) 5) (.cons (.var .s 6) (.cons (.var .sl 7) .nil))))))] [uI a,uI b,uS c,uL d,uI g,uI i,uS j,uL k] rfl (by kernel_rfl) h
/- heartwood/heartwoodlaw18.list, piece o19 -/
def w19o19(a:Sl)(V:Mem)(R:RP):Prop:=R (rT #[uA #[uI 2,uS (Ab [107]),uL a,.slice none 0 0,.slice none 0 0]]) V
theorem s19o19{a:Sl}{V:Mem}{R:KZ}(h:w19o19 a V (OV R)):Aw xG 70 AF 19 1 [(24,uL a)] [25] V R:=
 AC (H:={N:=0,early:=[],loops:=[],keep:=zB 70}) [(24,(.var .sl 0))] [uL a] rfl (by kernel_rfl) h
/- heartwood/heartwoodlaw18.list, piece o20 -/
def w19o20(a:Value)(V:Mem)(R:RP):Prop:=R (rT #[K.cast .f a]) V
theorem s19o20{a:Value}{V:Mem}{R:KZ}(h:w19o20 a V (OV R)):Aw xG 70 AF 20 1 [(1,K.cast .f a)] [26] V R:=
 AC (H:={N:=0,early:=[],loops:=[],keep:=zB 70}) [(1,(.var .f 0))] [a] rfl (by kernel_rfl) h
/- heartwood/heartwoodlaw18.list, piece o21 -/
def w19o21(a:Value)(V:Mem)(R:RP):Prop:=∃f first h,K.cast .f a=.func (.func f) first h/\CO f/\TT f (first++#[uS (Ab [120])]++h) V λe V1=>∃b c d g,e=rV (uA #[uI b,uI c,uS d,uL g])/\R (rT #[uA #[uI b,uI c,uS d,uL g]]) V1
theorem s19o21{a:Value}{V:Mem}{R:KZ}(h:w19o21 a V (OV R)):Aw xG 70 AF 21 1 [(26,K.cast .f a)] [27] V R:=
 AC (H:={N:=0,early:=[],loops:=[],keep:=zB 70}) [(26,(.var .f 0))] [a] rfl (by kernel_rfl) h
/- heartwood/heartwoodlaw18.list, piece o22 -/
def w19o22(a:Value)(V:Mem)(R:RP):Prop:=R (rT #[K.cast .f a]) V
theorem s19o22{a:Value}{V:Mem}{R:KZ}(h:w19o22 a V (OV R)):Aw xG 70 AF 22 1 [(1,K.cast .f a)] [28] V R:=
 AC (H:={N:=0,early:=[],loops:=[],keep:=zB 70}) [(1,(.var .f 0))] [a] rfl (by kernel_rfl) h
/- heartwood/heartwoodlaw18.list, piece o23 -/
def w19o23(a:Value)(V:Mem)(R:RP):Prop:=∃f first h,K.cast .f a=.func (.func f) first h/\CO f/\TT f (first++#[uS (Ab [104,101,97,100])]++h) V λe V1=>∃b c d g,e=rV (uA #[uI b,uI c,uS d,uL g])/\R (rT #[uA #[uI b,uI c,uS d,uL g]]) V1
theorem s19o23{a:Value}{V:Mem}{R:KZ}(h:w19o23 a V (OV R)):Aw xG 70 AF 23 1 [(28,K.cast .f a)] [29] V R:=
 AC (H:={N:=0,early:=[],loops:=[],keep:=zB 70}) [(28,(.var .f 0))] [a] rfl (by kernel_rfl) h
/- heartwood/heartwoodlaw18.list, piece o24 -/
def w19o24(a b:Int)(c:KB)(d:Sl)(g i:Int)(j:KB)(k:Sl)(V:Mem)(R:RP):Prop:=Af [uI a,uI b,uS c,uL d,uI g,uI i,uS j,uL k] 97 V λl V1=>R (rT #[.slice (Aa l 0) (2:Int).toNat (2:Int).toNat]) V1
theorem s19o24{a b:Int}{c:KB}{d:Sl}{g i:Int}{j:KB}{k:Sl}{V:Mem}{R:KZ}(h:w19o24 a b c d g i j k V (OV R)):Aw xG 70 AF 24 1 [(27,uA #[uI a,uI b,uS c,uL d]),(29,uA #[uI g,uI i,uS j,uL k])] [30] V R:=
 AC (H:={N:=0,early:=[],loops:=[],keep:=zB 70}) [(27,(.agg (.cons (.var (.i .i64) 0) (.cons (.var (.i .i64) 1) (.cons (.var .s 2) (.cons (.var .sl 3) .nil)))))),(29,(.agg (.cons (.var (.i .i64) 4) (.cons (.var (.i .i64) 5) (.cons (.var .s 6) (.cons (.var .sl 7) .nil))))))] [uI a,uI b,uS c,uL d,uI g,uI i,uS j,uL k] rfl (by kernel_rfl) h
/- heartwood/heartwoodlaw18.list, piece o25 -/
def w19o25(a:Sl)(V:Mem)(R:RP):Prop:=R (rT #[uA #[uI 2,uS (Ab [110,101,120,116]),uL a,.slice none 0 0,.slice none 0 0]]) V
theorem s19o25{a:Sl}{V:Mem}{R:KZ}(h:w19o25 a V (OV R)):Aw xG 70 AF 25 1 [(30,uL a)] [31] V R:=
 AC (H:={N:=0,early:=[],loops:=[],keep:=zB 70}) [(30,(.var .sl 0))] [uL a] rfl (by kernel_rfl) h
/- heartwood/heartwoodlaw18.list, piece o26 -/
def w19o26(a:Value)(V:Mem)(R:RP):Prop:=R (rT #[K.cast .f a]) V
theorem s19o26{a:Value}{V:Mem}{R:KZ}(h:w19o26 a V (OV R)):Aw xG 70 AF 26 1 [(1,K.cast .f a)] [32] V R:=
 AC (H:={N:=0,early:=[],loops:=[],keep:=zB 70}) [(1,(.var .f 0))] [a] rfl (by kernel_rfl) h
/- heartwood/heartwoodlaw18.list, piece o27 -/
def w19o27(a:Value)(V:Mem)(R:RP):Prop:=∃f first h,K.cast .f a=.func (.func f) first h/\CO f/\TT f (first++#[uS (Ab [120])]++h) V λe V1=>∃b c d g,e=rV (uA #[uI b,uI c,uS d,uL g])/\R (rT #[uA #[uI b,uI c,uS d,uL g]]) V1
theorem s19o27{a:Value}{V:Mem}{R:KZ}(h:w19o27 a V (OV R)):Aw xG 70 AF 27 1 [(32,K.cast .f a)] [33] V R:=
 AC (H:={N:=0,early:=[],loops:=[],keep:=zB 70}) [(32,(.var .f 0))] [a] rfl (by kernel_rfl) h
/- heartwood/heartwoodlaw18.list, piece o28 -/
def w19o28(a b:Int)(c:KB)(d:Sl)(V:Mem)(R:RP):Prop:=Af [uI a,uI b,uS c,uL d] 97 V λg V1=>R (rT #[.slice (Aa g 0) (1:Int).toNat (1:Int).toNat]) V1
theorem s19o28{a b:Int}{c:KB}{d:Sl}{V:Mem}{R:KZ}(h:w19o28 a b c d V (OV R)):Aw xG 70 AF 28 1 [(33,uA #[uI a,uI b,uS c,uL d])] [34] V R:=
 AC (H:={N:=0,early:=[],loops:=[],keep:=zB 70}) [(33,(.agg (.cons (.var (.i .i64) 0) (.cons (.var (.i .i64) 1) (.cons (.var .s 2) (.cons (.var .sl 3) .nil))))))] [uI a,uI b,uS c,uL d] rfl (by kernel_rfl) h
/- heartwood/heartwoodlaw18.list, piece o29 -/
def w19o29(a:Sl)(V:Mem)(R:RP):Prop:=R (rT #[uA #[uI 1,uS (Ab [104,101,97,100]),uL a,.slice none 0 0,.slice none 0 0]]) V
theorem s19o29{a:Sl}{V:Mem}{R:KZ}(h:w19o29 a V (OV R)):Aw xG 70 AF 29 1 [(34,uL a)] [35] V R:=
 AC (H:={N:=0,early:=[],loops:=[],keep:=zB 70}) [(34,(.var .sl 0))] [uL a] rfl (by kernel_rfl) h
/- heartwood/heartwoodlaw18.list, piece o30 -/
def w19o30(a:Int)(b:KB)(c d g:Sl)(i:Int)(j:KB)(k l o:Sl)(p:Int)(q:KB)(r s u:Sl)(y:Int)(z:KB)(A B C:Sl)(V:Mem)(R:RP):Prop:=Af [uI a,uS b,uL c,uL d,uL g,uI i,uS j,uL k,uL l,uL o,uI p,uS q,uL r,uL s,uL u,uI y,uS z,uL A,uL B,uL C] 114 V λD V1=>R (rT #[.slice (Aa D 0) (4:Int).toNat (4:Int).toNat]) V1
theorem s19o30{a:Int}{b:KB}{c d g:Sl}{i:Int}{j:KB}{k l o:Sl}{p:Int}{q:KB}{r s u:Sl}{y:Int}{z:KB}{A B C:Sl}{V:Mem}{R:KZ}(h:w19o30 a b c d g i j k l o p q r s u y z A B C V (OV R)):Aw xG 70 AF 30 1 [(19,uA #[uI a,uS b,uL c,uL d,uL g]),(25,uA #[uI i,uS j,uL k,uL l,uL o]),(31,uA #[uI p,uS q,uL r,uL s,uL u]),(35,uA #[uI y,uS z,uL A,uL B,uL C])] [36] V R:=
 AC (H:={N:=0,early:=[],loops:=[],keep:=zB 70}) [(19,(.agg (.cons (.var (.i .i64) 0) (.cons (.var .s 1) (.cons (.var .sl 2) (.cons (.var .sl 3) (.cons (.var .sl 4) .nil))))))),(25,(.agg (.cons (.var (.i .i64) 5) (.cons (.var .s 6) (.cons (.var .sl 7) (.cons (.var .sl 8) (.cons (.var .sl 9) .nil))))))),(31,(.agg (.cons (.var (.i .i64) 10) (.cons (.var .s 11) (.cons (.var .sl 12) (.cons (.var .sl 13) (.cons (.var .sl 14) .nil))))))),(35,(.agg (.cons (.var (.i .i64) 15) (.cons (.var .s 16) (.cons (.var .sl 17) (.cons (.var .sl 18) (.cons (.var .sl 19) .nil)))))))] [uI a,uS b,uL c,uL d,uL g,uI i,uS j,uL k,uL l,uL o,uI p,uS q,uL r,uL s,uL u,uI y,uS z,uL A,uL B,uL C] rfl (by kernel_rfl) h
/- heartwood/heartwoodlaw18.list, piece o31 -/
def w19o31(a b c:Sl)(V:Mem)(R:RP):Prop:=R (rT #[uA #[uS (Ab [112,117,115,104]),uL a,uS (Ab []),uL b,uL c]]) V
theorem s19o31{a b c:Sl}{V:Mem}{R:KZ}(h:w19o31 a b c V (OV R)):Aw xG 70 AF 31 1 [(14,uL a),(16,uL b),(36,uL c)] [37] V R:=
 AC (H:={N:=0,early:=[],loops:=[],keep:=zB 70}) [(14,(.var .sl 0)),(16,(.var .sl 1)),(36,(.var .sl 2))] [uL a,uL b,uL c] rfl (by kernel_rfl) h
/- heartwood/heartwoodlaw18.list, piece o32 -/
def w19o32(a:KB)(b:Sl)(c:KB)(d g:Sl)(V:Mem)(R:RP):Prop:=Af [uS a,uL b,uS c,uL d,uL g] 74 V λi V1=>R (rT #[.slice (Aa i 0) (1:Int).toNat (1:Int).toNat]) V1
theorem s19o32{a:KB}{b:Sl}{c:KB}{d g:Sl}{V:Mem}{R:KZ}(h:w19o32 a b c d g V (OV R)):Aw xG 70 AF 32 1 [(37,uA #[uS a,uL b,uS c,uL d,uL g])] [38] V R:=
 AC (H:={N:=0,early:=[],loops:=[],keep:=zB 70}) [(37,(.agg (.cons (.var .s 0) (.cons (.var .sl 1) (.cons (.var .s 2) (.cons (.var .sl 3) (.cons (.var .sl 4) .nil)))))))] [uS a,uL b,uS c,uL d,uL g] rfl (by kernel_rfl) h
/- heartwood/heartwoodlaw18.list, piece o33 -/
def w19o33(V:Mem)(R:RP):Prop:=R (rT #[uA #[uI 1,uI 1,uS (Ab []),.slice none 0 0]]) V
theorem s19o33{V:Mem}{R:KZ}(h:w19o33 V (OV R)):Aw xG 70 AF 33 1 [] [39] V R:=
 AC (H:={N:=0,early:=[],loops:=[],keep:=zB 70}) [] [] rfl (by kernel_rfl) h
/- heartwood/heartwoodlaw18.list, piece o34 -/
def w19o34(a:Value)(V:Mem)(R:RP):Prop:=R (rT #[K.cast .f a]) V
theorem s19o34{a:Value}{V:Mem}{R:KZ}(h:w19o34 a V (OV R)):Aw xG 70 AF 34 1 [(2,K.cast .f a)] [40] V R:=
 AC (H:={N:=0,early:=[],loops:=[],keep:=zB 70}) [(2,(.var .f 0))] [a] rfl (by kernel_rfl) h
/- heartwood/heartwoodlaw18.list, piece o35 -/
def w19o35(a:Option Addr)(V:Mem)(R:RP):Prop:=∃b c d g,V.rowp a ((0:Int).toNat*1) 4=some [uI b,uI c,uS d,uL g]/\R (rT #[uA #[uI b,uI c,uS d,uL g]]) V
theorem s19o35{a:Option Addr}{V:Mem}{R:KZ}(h:w19o35 a V (OV R)):Aw xG 70 AF 35 1 [(3,uP a)] [41] V R:=
 AC (H:={N:=0,early:=[],loops:=[],keep:=zB 70}) [(3,(.var .p 0))] [uP a] rfl (by kernel_rfl) h
/- heartwood/heartwoodlaw18.list, piece o36 -/
def w19o36(a:Value)(b c:Int)(d:KB)(g:Sl)(V:Mem)(R:RP):Prop:=∃f first h,K.cast .f a=.func (.func f) first h/\CO f/\TT f (first++#[uA #[uI b,uI c,uS d,uL g],uS (Ab [110,101,120,116])]++h) V λe V1=>∃i j k l,e=rV (uA #[uI i,uI j,uS k,uL l])/\R (rT #[uA #[uI i,uI j,uS k,uL l]]) V1
theorem s19o36{a:Value}{b c:Int}{d:KB}{g:Sl}{V:Mem}{R:KZ}(h:w19o36 a b c d g V (OV R)):Aw xG 70 AF 36 1 [(40,K.cast .f a),(41,uA #[uI b,uI c,uS d,uL g])] [42] V R:=
 AC (H:={N:=0,early:=[],loops:=[],keep:=zB 70}) [(40,(.var .f 0)),(41,(.agg (.cons (.var (.i .i64) 1) (.cons (.var (.i .i64) 2) (.cons (.var .s 3) (.cons (.var .sl 4) .nil))))))] [a,uI b,uI c,uS d,uL g] rfl (by kernel_rfl) h
/- heartwood/heartwoodlaw18.list, piece o37 -/
def w19o37(a b:Int)(c:KB)(d:Sl)(V:Mem)(R:RP):Prop:=Af [uI a,uI b,uS c,uL d] 97 V λg V1=>R (rT #[.slice (Aa g 0) (1:Int).toNat (1:Int).toNat]) V1
theorem s19o37{a b:Int}{c:KB}{d:Sl}{V:Mem}{R:KZ}(h:w19o37 a b c d V (OV R)):Aw xG 70 AF 37 1 [(42,uA #[uI a,uI b,uS c,uL d])] [43] V R:=
 AC (H:={N:=0,early:=[],loops:=[],keep:=zB 70}) [(42,(.agg (.cons (.var (.i .i64) 0) (.cons (.var (.i .i64) 1) (.cons (.var .s 2) (.cons (.var .sl 3) .nil))))))] [uI a,uI b,uS c,uL d] rfl (by kernel_rfl) h
/- heartwood/heartwoodlaw18.list, piece o38 -/
def w19o38(a:Sl)(V:Mem)(R:RP):Prop:=R (rT #[uA #[uI 7,uI 0,uS (Ab [108,101,110,103,116,104]),uL a]]) V
theorem s19o38{a:Sl}{V:Mem}{R:KZ}(h:w19o38 a V (OV R)):Aw xG 70 AF 38 1 [(43,uL a)] [44] V R:=
 AC (H:={N:=0,early:=[],loops:=[],keep:=zB 70}) [(43,(.var .sl 0))] [uL a] rfl (by kernel_rfl) h
/- heartwood/heartwoodlaw18.list, piece o39 -/
def w19o39(a b:Int)(c:KB)(d:Sl)(g i:Int)(j:KB)(k:Sl)(V:Mem)(R:RP):Prop:=Af [uI a,uI b,uS c,uL d,uI g,uI i,uS j,uL k] 97 V λl V1=>R (rT #[.slice (Aa l 0) (2:Int).toNat (2:Int).toNat]) V1
theorem s19o39{a b:Int}{c:KB}{d:Sl}{g i:Int}{j:KB}{k:Sl}{V:Mem}{R:KZ}(h:w19o39 a b c d g i j k V (OV R)):Aw xG 70 AF 39 1 [(39,uA #[uI a,uI b,uS c,uL d]),(44,uA #[uI g,uI i,uS j,uL k])] [45] V R:=
 AC (H:={N:=0,early:=[],loops:=[],keep:=zB 70}) [(39,(.agg (.cons (.var (.i .i64) 0) (.cons (.var (.i .i64) 1) (.cons (.var .s 2) (.cons (.var .sl 3) .nil)))))),(44,(.agg (.cons (.var (.i .i64) 4) (.cons (.var (.i .i64) 5) (.cons (.var .s 6) (.cons (.var .sl 7) .nil))))))] [uI a,uI b,uS c,uL d,uI g,uI i,uS j,uL k] rfl (by kernel_rfl) h
/- heartwood/heartwoodlaw18.list, piece o40 -/
def w19o40(a:Sl)(V:Mem)(R:RP):Prop:=R (rT #[uA #[uI 9,uI 0,uS (Ab []),uL a]]) V
theorem s19o40{a:Sl}{V:Mem}{R:KZ}(h:w19o40 a V (OV R)):Aw xG 70 AF 40 1 [(45,uL a)] [46] V R:=
 AC (H:={N:=0,early:=[],loops:=[],keep:=zB 70}) [(45,(.var .sl 0))] [uL a] rfl (by kernel_rfl) h
/- heartwood/heartwoodlaw18.list, piece o41 -/
def w19o41(a b:Int)(c:KB)(d:Sl)(V:Mem)(R:RP):Prop:=R (rT #[uA #[uS (Ab [108,101,110,103,116,104]),uS (Ab [76]),uI 0,uI a,uI b,uS c,uL d]]) V
theorem s19o41{a b:Int}{c:KB}{d:Sl}{V:Mem}{R:KZ}(h:w19o41 a b c d V (OV R)):Aw xG 70 AF 41 1 [(46,uA #[uI a,uI b,uS c,uL d])] [47] V R:=
 AC (H:={N:=0,early:=[],loops:=[],keep:=zB 70}) [(46,(.agg (.cons (.var (.i .i64) 0) (.cons (.var (.i .i64) 1) (.cons (.var .s 2) (.cons (.var .sl 3) .nil))))))] [uI a,uI b,uS c,uL d] rfl (by kernel_rfl) h
/- heartwood/heartwoodlaw18.list, piece o42 -/
def w19o42(a b:KB)(c d g:Int)(i:KB)(j:Sl)(V:Mem)(R:RP):Prop:=Af [uS a,uS b,uI c,uI d,uI g,uS i,uL j] 116 V λk V1=>R (rT #[.slice (Aa k 0) (1:Int).toNat (1:Int).toNat]) V1
theorem s19o42{a b:KB}{c d g:Int}{i:KB}{j:Sl}{V:Mem}{R:KZ}(h:w19o42 a b c d g i j V (OV R)):Aw xG 70 AF 42 1 [(47,uA #[uS a,uS b,uI c,uI d,uI g,uS i,uL j])] [48] V R:=
 AC (H:={N:=0,early:=[],loops:=[],keep:=zB 70}) [(47,(.agg (.cons (.var .s 0) (.cons (.var .s 1) (.cons (.var (.i .i64) 2) (.cons (.var (.i .i64) 3) (.cons (.var (.i .i64) 4) (.cons (.var .s 5) (.cons (.var .sl 6) .nil)))))))))] [uS a,uS b,uI c,uI d,uI g,uS i,uL j] rfl (by kernel_rfl) h
/- heartwood/heartwoodlaw18.list, piece o43 -/
def w19o43(a:Value)(V:Mem)(R:RP):Prop:=R (rT #[K.cast .f a]) V
theorem s19o43{a:Value}{V:Mem}{R:KZ}(h:w19o43 a V (OV R)):Aw xG 70 AF 43 1 [(2,K.cast .f a)] [49] V R:=
 AC (H:={N:=0,early:=[],loops:=[],keep:=zB 70}) [(2,(.var .f 0))] [a] rfl (by kernel_rfl) h
/- heartwood/heartwoodlaw18.list, piece o44 -/
def w19o44(a:Option Addr)(V:Mem)(R:RP):Prop:=∃b c d g,V.rowp a ((0:Int).toNat*1) 4=some [uI b,uI c,uS d,uL g]/\R (rT #[uA #[uI b,uI c,uS d,uL g]]) V
theorem s19o44{a:Option Addr}{V:Mem}{R:KZ}(h:w19o44 a V (OV R)):Aw xG 70 AF 44 1 [(3,uP a)] [50] V R:=
 AC (H:={N:=0,early:=[],loops:=[],keep:=zB 70}) [(3,(.var .p 0))] [uP a] rfl (by kernel_rfl) h
/- heartwood/heartwoodlaw18.list, piece o45 -/
def w19o45(a:Value)(b c:Int)(d:KB)(g:Sl)(V:Mem)(R:RP):Prop:=∃f first h,K.cast .f a=.func (.func f) first h/\CO f/\TT f (first++#[uA #[uI b,uI c,uS d,uL g],uS (Ab [110,101,120,116])]++h) V λe V1=>∃i j k l,e=rV (uA #[uI i,uI j,uS k,uL l])/\R (rT #[uA #[uI i,uI j,uS k,uL l]]) V1
theorem s19o45{a:Value}{b c:Int}{d:KB}{g:Sl}{V:Mem}{R:KZ}(h:w19o45 a b c d g V (OV R)):Aw xG 70 AF 45 1 [(49,K.cast .f a),(50,uA #[uI b,uI c,uS d,uL g])] [51] V R:=
 AC (H:={N:=0,early:=[],loops:=[],keep:=zB 70}) [(49,(.var .f 0)),(50,(.agg (.cons (.var (.i .i64) 1) (.cons (.var (.i .i64) 2) (.cons (.var .s 3) (.cons (.var .sl 4) .nil))))))] [a,uI b,uI c,uS d,uL g] rfl (by kernel_rfl) h
/- heartwood/heartwoodlaw18.list, piece o46 -/
def w19o46(V:Mem)(R:RP):Prop:=R (rT #[uA #[uI 3,uI 0,uS (Ab []),.slice none 0 0]]) V
theorem s19o46{V:Mem}{R:KZ}(h:w19o46 V (OV R)):Aw xG 70 AF 46 1 [] [52] V R:=
 AC (H:={N:=0,early:=[],loops:=[],keep:=zB 70}) [] [] rfl (by kernel_rfl) h
/- heartwood/heartwoodlaw18.list, piece o47 -/
def w19o47(a b:Int)(c:KB)(d:Sl)(g i:Int)(j:KB)(k:Sl)(V:Mem)(R:RP):Prop:=Af [uI a,uI b,uS c,uL d,uI g,uI i,uS j,uL k] 97 V λl V1=>R (rT #[.slice (Aa l 0) (2:Int).toNat (2:Int).toNat]) V1
theorem s19o47{a b:Int}{c:KB}{d:Sl}{g i:Int}{j:KB}{k:Sl}{V:Mem}{R:KZ}(h:w19o47 a b c d g i j k V (OV R)):Aw xG 70 AF 47 1 [(51,uA #[uI a,uI b,uS c,uL d]),(52,uA #[uI g,uI i,uS j,uL k])] [53] V R:=
 AC (H:={N:=0,early:=[],loops:=[],keep:=zB 70}) [(51,(.agg (.cons (.var (.i .i64) 0) (.cons (.var (.i .i64) 1) (.cons (.var .s 2) (.cons (.var .sl 3) .nil)))))),(52,(.agg (.cons (.var (.i .i64) 4) (.cons (.var (.i .i64) 5) (.cons (.var .s 6) (.cons (.var .sl 7) .nil))))))] [uI a,uI b,uS c,uL d,uI g,uI i,uS j,uL k] rfl (by kernel_rfl) h
/- heartwood/heartwoodlaw18.list, piece o48 -/
def w19o48(a:Sl)(V:Mem)(R:RP):Prop:=R (rT #[uA #[uI 14,uI 0,uS (Ab []),uL a]]) V
theorem s19o48{a:Sl}{V:Mem}{R:KZ}(h:w19o48 a V (OV R)):Aw xG 70 AF 48 1 [(53,uL a)] [54] V R:=
 AC (H:={N:=0,early:=[],loops:=[],keep:=zB 70}) [(53,(.var .sl 0))] [uL a] rfl (by kernel_rfl) h
/- heartwood/heartwoodlaw18.list, piece o49 -/
def w19o49(a:Value)(V:Mem)(R:RP):Prop:=R (rT #[K.cast .f a]) V
theorem s19o49{a:Value}{V:Mem}{R:KZ}(h:w19o49 a V (OV R)):Aw xG 70 AF 49 1 [(2,K.cast .f a)] [55] V R:=
 AC (H:={N:=0,early:=[],loops:=[],keep:=zB 70}) [(2,(.var .f 0))] [a] rfl (by kernel_rfl) h
/- heartwood/heartwoodlaw18.list, piece o50 -/
def w19o50(a:Option Addr)(V:Mem)(R:RP):Prop:=∃b c d g,V.rowp a ((0:Int).toNat*1) 4=some [uI b,uI c,uS d,uL g]/\R (rT #[uA #[uI b,uI c,uS d,uL g]]) V
theorem s19o50{a:Option Addr}{V:Mem}{R:KZ}(h:w19o50 a V (OV R)):Aw xG 70 AF 50 1 [(3,uP a)] [56] V R:=
 AC (H:={N:=0,early:=[],loops:=[],keep:=zB 70}) [(3,(.var .p 0))] [uP a] rfl (by kernel_rfl) h
/- heartwood/heartwoodlaw18.list, piece o51 -/
def w19o51(a:Value)(b c:Int)(d:KB)(g:Sl)(V:Mem)(R:RP):Prop:=∃f first h,K.cast .f a=.func (.func f) first h/\CO f/\TT f (first++#[uA #[uI b,uI c,uS d,uL g],uS (Ab [107])]++h) V λe V1=>∃i j k l,e=rV (uA #[uI i,uI j,uS k,uL l])/\R (rT #[uA #[uI i,uI j,uS k,uL l]]) V1
theorem s19o51{a:Value}{b c:Int}{d:KB}{g:Sl}{V:Mem}{R:KZ}(h:w19o51 a b c d g V (OV R)):Aw xG 70 AF 51 1 [(55,K.cast .f a),(56,uA #[uI b,uI c,uS d,uL g])] [57] V R:=
 AC (H:={N:=0,early:=[],loops:=[],keep:=zB 70}) [(55,(.var .f 0)),(56,(.agg (.cons (.var (.i .i64) 1) (.cons (.var (.i .i64) 2) (.cons (.var .s 3) (.cons (.var .sl 4) .nil))))))] [a,uI b,uI c,uS d,uL g] rfl (by kernel_rfl) h
/- heartwood/heartwoodlaw18.list, piece o52 -/
def w19o52(a:Value)(V:Mem)(R:RP):Prop:=R (rT #[K.cast .f a]) V
theorem s19o52{a:Value}{V:Mem}{R:KZ}(h:w19o52 a V (OV R)):Aw xG 70 AF 52 1 [(2,K.cast .f a)] [58] V R:=
 AC (H:={N:=0,early:=[],loops:=[],keep:=zB 70}) [(2,(.var .f 0))] [a] rfl (by kernel_rfl) h
/- heartwood/heartwoodlaw18.list, piece o53 -/
def w19o53(a:Value)(V:Mem)(R:RP):Prop:=R (rT #[K.cast .f a]) V
theorem s19o53{a:Value}{V:Mem}{R:KZ}(h:w19o53 a V (OV R)):Aw xG 70 AF 53 1 [(2,K.cast .f a)] [59] V R:=
 AC (H:={N:=0,early:=[],loops:=[],keep:=zB 70}) [(2,(.var .f 0))] [a] rfl (by kernel_rfl) h
/- heartwood/heartwoodlaw18.list, piece o54 -/
def w19o54(a:Option Addr)(V:Mem)(R:RP):Prop:=∃b c d g,V.rowp a ((0:Int).toNat*1) 4=some [uI b,uI c,uS d,uL g]/\R (rT #[uA #[uI b,uI c,uS d,uL g]]) V
theorem s19o54{a:Option Addr}{V:Mem}{R:KZ}(h:w19o54 a V (OV R)):Aw xG 70 AF 54 1 [(3,uP a)] [60] V R:=
 AC (H:={N:=0,early:=[],loops:=[],keep:=zB 70}) [(3,(.var .p 0))] [uP a] rfl (by kernel_rfl) h
/- heartwood/heartwoodlaw18.list, piece o55 -/
def w19o55(a:Value)(b c:Int)(d:KB)(g:Sl)(V:Mem)(R:RP):Prop:=∃f first h,K.cast .f a=.func (.func f) first h/\CO f/\TT f (first++#[uA #[uI b,uI c,uS d,uL g],uS (Ab [110,101,120,116])]++h) V λe V1=>∃i j k l,e=rV (uA #[uI i,uI j,uS k,uL l])/\R (rT #[uA #[uI i,uI j,uS k,uL l]]) V1
theorem s19o55{a:Value}{b c:Int}{d:KB}{g:Sl}{V:Mem}{R:KZ}(h:w19o55 a b c d g V (OV R)):Aw xG 70 AF 55 1 [(59,K.cast .f a),(60,uA #[uI b,uI c,uS d,uL g])] [61] V R:=
 AC (H:={N:=0,early:=[],loops:=[],keep:=zB 70}) [(59,(.var .f 0)),(60,(.agg (.cons (.var (.i .i64) 1) (.cons (.var (.i .i64) 2) (.cons (.var .s 3) (.cons (.var .sl 4) .nil))))))] [a,uI b,uI c,uS d,uL g] rfl (by kernel_rfl) h
/- heartwood/heartwoodlaw18.list, piece o56 -/
def w19o56(a:Value)(b c:Int)(d:KB)(g:Sl)(V:Mem)(R:RP):Prop:=∃f first h,K.cast .f a=.func (.func f) first h/\CO f/\TT f (first++#[uA #[uI b,uI c,uS d,uL g],uS (Ab [107])]++h) V λe V1=>∃i j k l,e=rV (uA #[uI i,uI j,uS k,uL l])/\R (rT #[uA #[uI i,uI j,uS k,uL l]]) V1
theorem s19o56{a:Value}{b c:Int}{d:KB}{g:Sl}{V:Mem}{R:KZ}(h:w19o56 a b c d g V (OV R)):Aw xG 70 AF 56 1 [(58,K.cast .f a),(61,uA #[uI b,uI c,uS d,uL g])] [62] V R:=
 AC (H:={N:=0,early:=[],loops:=[],keep:=zB 70}) [(58,(.var .f 0)),(61,(.agg (.cons (.var (.i .i64) 1) (.cons (.var (.i .i64) 2) (.cons (.var .s 3) (.cons (.var .sl 4) .nil))))))] [a,uI b,uI c,uS d,uL g] rfl (by kernel_rfl) h
/- heartwood/heartwoodlaw18.list, piece o57 -/
def w19o57(a b:Int)(c:KB)(d:Sl)(g i:Int)(j:KB)(k:Sl)(V:Mem)(R:RP):Prop:=Af [uI a,uI b,uS c,uL d,uI g,uI i,uS j,uL k] 97 V λl V1=>R (rT #[.slice (Aa l 0) (2:Int).toNat (2:Int).toNat]) V1
theorem s19o57{a b:Int}{c:KB}{d:Sl}{g i:Int}{j:KB}{k:Sl}{V:Mem}{R:KZ}(h:w19o57 a b c d g i j k V (OV R)):Aw xG 70 AF 57 1 [(57,uA #[uI a,uI b,uS c,uL d]),(62,uA #[uI g,uI i,uS j,uL k])] [63] V R:=
 AC (H:={N:=0,early:=[],loops:=[],keep:=zB 70}) [(57,(.agg (.cons (.var (.i .i64) 0) (.cons (.var (.i .i64) 1) (.cons (.var .s 2) (.cons (.var .sl 3) .nil)))))),(62,(.agg (.cons (.var (.i .i64) 4) (.cons (.var (.i .i64) 5) (.cons (.var .s 6) (.cons (.var .sl 7) .nil))))))] [uI a,uI b,uS c,uL d,uI g,uI i,uS j,uL k] rfl (by kernel_rfl) h
/- heartwood/heartwoodlaw18.list, piece o58 -/
def w19o58(a:Sl)(V:Mem)(R:RP):Prop:=R (rT #[uA #[uI 17,uI 0,uS (Ab []),uL a]]) V
theorem s19o58{a:Sl}{V:Mem}{R:KZ}(h:w19o58 a V (OV R)):Aw xG 70 AF 58 1 [(63,uL a)] [64] V R:=
 AC (H:={N:=0,early:=[],loops:=[],keep:=zB 70}) [(63,(.var .sl 0))] [uL a] rfl (by kernel_rfl) h
/- heartwood/heartwoodlaw18.list, piece o59 -/
def w19o59(a b:Int)(c:KB)(d:Sl)(g i:Int)(j:KB)(k:Sl)(V:Mem)(R:RP):Prop:=Af [uI a,uI b,uS c,uL d,uI g,uI i,uS j,uL k] 97 V λl V1=>R (rT #[.slice (Aa l 0) (2:Int).toNat (2:Int).toNat]) V1
theorem s19o59{a b:Int}{c:KB}{d:Sl}{g i:Int}{j:KB}{k:Sl}{V:Mem}{R:KZ}(h:w19o59 a b c d g i j k V (OV R)):Aw xG 70 AF 59 1 [(54,uA #[uI a,uI b,uS c,uL d]),(64,uA #[uI g,uI i,uS j,uL k])] [65] V R:=
 AC (H:={N:=0,early:=[],loops:=[],keep:=zB 70}) [(54,(.agg (.cons (.var (.i .i64) 0) (.cons (.var (.i .i64) 1) (.cons (.var .s 2) (.cons (.var .sl 3) .nil)))))),(64,(.agg (.cons (.var (.i .i64) 4) (.cons (.var (.i .i64) 5) (.cons (.var .s 6) (.cons (.var .sl 7) .nil))))))] [uI a,uI b,uS c,uL d,uI g,uI i,uS j,uL k] rfl (by kernel_rfl) h
/- heartwood/heartwoodlaw18.list, piece o60 -/
def w19o60(a:Sl)(V:Mem)(R:RP):Prop:=R (rT #[uA #[uI 20,uI 0,uS (Ab []),uL a]]) V
theorem s19o60{a:Sl}{V:Mem}{R:KZ}(h:w19o60 a V (OV R)):Aw xG 70 AF 60 1 [(65,uL a)] [66] V R:=
 AC (H:={N:=0,early:=[],loops:=[],keep:=zB 70}) [(65,(.var .sl 0))] [uL a] rfl (by kernel_rfl) h
/- heartwood/heartwoodlaw18.list, piece o61 -/
def w19o61(a b:Int)(c:KB)(d:Sl)(V:Mem)(R:RP):Prop:=R (rT #[uA #[uS (Ab [115,111,114,116,101,100]),uS (Ab [76]),uI a,uI b,uS c,uL d]]) V
theorem s19o61{a b:Int}{c:KB}{d:Sl}{V:Mem}{R:KZ}(h:w19o61 a b c d V (OV R)):Aw xG 70 AF 61 1 [(66,uA #[uI a,uI b,uS c,uL d])] [67] V R:=
 AC (H:={N:=0,early:=[],loops:=[],keep:=zB 70}) [(66,(.agg (.cons (.var (.i .i64) 0) (.cons (.var (.i .i64) 1) (.cons (.var .s 2) (.cons (.var .sl 3) .nil))))))] [uI a,uI b,uS c,uL d] rfl (by kernel_rfl) h
/- heartwood/heartwoodlaw18.list, piece o62 -/
def w19o62(a b:KB)(c d:Int)(g:KB)(i:Sl)(V:Mem)(R:RP):Prop:=Af [uS a,uS b,uI c,uI d,uS g,uL i] 99 V λj V1=>R (rT #[.slice (Aa j 0) (1:Int).toNat (1:Int).toNat]) V1
theorem s19o62{a b:KB}{c d:Int}{g:KB}{i:Sl}{V:Mem}{R:KZ}(h:w19o62 a b c d g i V (OV R)):Aw xG 70 AF 62 1 [(67,uA #[uS a,uS b,uI c,uI d,uS g,uL i])] [68] V R:=
 AC (H:={N:=0,early:=[],loops:=[],keep:=zB 70}) [(67,(.agg (.cons (.var .s 0) (.cons (.var .s 1) (.cons (.var (.i .i64) 2) (.cons (.var (.i .i64) 3) (.cons (.var .s 4) (.cons (.var .sl 5) .nil))))))))] [uS a,uS b,uI c,uI d,uS g,uL i] rfl (by kernel_rfl) h
/- heartwood/heartwoodlaw18.list, piece o63 -/
def w19o63(a b c d g:Sl)(V:Mem)(R:RP):Prop:=R (rT #[uA #[uS (Ab [108,105,115,116]),uL a,uL b,uL c,uL d,uL g,.slice none 0 0,.slice none 0 0]]) V
theorem s19o63{a b c d g:Sl}{V:Mem}{R:KZ}(h:w19o63 a b c d g V (OV R)):Aw xG 70 AF 63 1 [(10,uL a),(12,uL b),(38,uL c),(48,uL d),(68,uL g)] [69] V R:=
 AC (H:={N:=0,early:=[],loops:=[],keep:=zB 70}) [(10,(.var .sl 0)),(12,(.var .sl 1)),(38,(.var .sl 2)),(48,(.var .sl 3)),(68,(.var .sl 4))] [uL a,uL b,uL c,uL d,uL g] rfl (by kernel_rfl) h
/- heartwood/heartwoodlaw18.list, piece o64 -/
def w19o64(a:Option Addr)(b:KB)(c d g i j k l:Sl)(V:Mem)(R:RP):Prop:=As a 0 [uS b,uL c,uL d,uL g,uL i,uL j,uL k,uL l] V λV1=>R (rT #[]) V1
theorem s19o64{a:Option Addr}{b:KB}{c d g i j k l:Sl}{V:Mem}{R:KZ}(h:w19o64 a b c d g i j k l V (OV R)):Aw xG 70 AF 64 1 [(0,uP a),(69,uA #[uS b,uL c,uL d,uL g,uL i,uL j,uL k,uL l])] [] V R:=
 AC (H:={N:=0,early:=[],loops:=[],keep:=zB 70}) [(0,(.var .p 0)),(69,(.agg (.cons (.var .s 1) (.cons (.var .sl 2) (.cons (.var .sl 3) (.cons (.var .sl 4) (.cons (.var .sl 5) (.cons (.var .sl 6) (.cons (.var .sl 7) (.cons (.var .sl 8) .nil))))))))))] [uP a,uS b,uL c,uL d,uL g,uL i,uL j,uL k,uL l] rfl (by kernel_rfl) h
end Go.Proofs
namespace Go.Proofs
open Go Go.Sx
attribute [local irreducible] Go.Sx.Tri
def Cc:Value:=.func (.func 42) #[] #[]
def Cd:Value:=.func (.func 43) #[] #[]
def qE(P:E->Prop)(v:Value)(A:Mem):Prop:=∃e,v=e.v/\P e/\E.Ok A e
def qL(Q:List E->Prop)(v:Value)(A:Mem):Prop:=∃(s:Sl)(es:List E),v=s.v/\Q es/\Ad A s 4 (es.map E.row)/\∀e∈es,E.Ok A e
def qS(P:S->Prop)(v:Value)(A:Mem):Prop:=∃(op:Int)(s:KB)(l:Sl)(es:List E),v=.agg #[uI op,uS s,uL l,.slice none 0 0,.slice none 0 0]/\P (.mk op s l es Ag [] Ag [])/\S.Ok A (.mk op s l es Ag [] Ag [])
def qB(v:Value)(A:Mem):Prop:=∃(s:Sl)(es:List S),v=s.v/\xBody es/\Ad A s 5 (es.map S.row)/\∀e∈es,S.Ok A e
def qF(fs:List Fld)(v:Value)(A:Mem):Prop:=∃s:Sl,v=s.v/\Ad A s 2 (fs.map Fld.row)
def qT(v:Value)(A:Mem):Prop:=∃fs:Sl,v=.agg #[uS AU,uL fs]/\Ad A fs 2 (xTF.map Fld.row)
def Ic(v:Value)(A:Mem):Prop:=∃s fs:Sl,v=s.v/\Ad A s 2 ([(⟨AU,fs,xTF⟩:Ty)].map Ty.row)/\Ad A fs 2 (xTF.map Fld.row)
def qP(v:Value)(A:Mem):Prop:=∃p:Pr,v=p.v/\KT p/\Pr.Ok A p
def Ie(v:Value)(A:Mem):Prop:=∃(s:Sl)(p:Pr),v=s.v/\KT p/\Ad A s 5 ([p].map Pr.row)/\Pr.Ok A p
def qM(v:Value)(A:Mem):Prop:=∃e,v=.agg #[uS EP,uS AU,uI 0,uI e.op,uI e.n,uS e.s,uL e.l]/\xPlus e/\E.Ok A e
def If(v:Value)(A:Mem):Prop:=∃(s:Sl)(e:E),v=s.v/\xPlus e/\Ad A s 7 ([(⟨EP,AU,0,e⟩:Ms)].map Ms.row)/\E.Ok A e
def qI(v:Value)(A:Mem):Prop:=∃e,v=.agg #[uS Bq,uS AU,uI e.op,uI e.n,uS e.s,uL e.l]/\xSort e/\E.Ok A e
def Ig(v:Value)(A:Mem):Prop:=∃(s:Sl)(e:E),v=s.v/\xSort e/\Ad A s 6 ([(⟨Bq,AU,e⟩:Iv)].map Iv.row)/\E.Ok A e
def qD(v:Value)(A:Mem):Prop:=∃d:Ds,v=d.v/\IsEx d/\Ds.Ok A d
section
variable{A B:Mem}{v:Value}(hs:A.sub B)
include hs
theorem qE.mono{P:E->Prop}(h:qE P v A):qE P v B:=by obtain⟨e,a,b,c⟩:=h;exact⟨e,a,b,c.sub hs⟩
theorem qL.mono{Q:List E->Prop}(h:qL Q v A):qL Q v B:=by obtain⟨s,es,a,b,c,d⟩:=h;exact⟨s,es,a,b,c.sub hs,λe k=>(d e k).sub hs⟩
theorem qS.mono{P:S->Prop}(h:qS P v A):qS P v B:=by obtain⟨o,s,l,es,a,b,c⟩:=h;exact⟨o,s,l,es,a,b,c.sub hs⟩
theorem qB.mono(h:qB v A):qB v B:=by obtain⟨s,es,a,b,c,d⟩:=h;exact⟨s,es,a,b,c.sub hs,λe k=>(d e k).sub hs⟩
theorem qF.mono{f:List Fld}(h:qF f v A):qF f v B:=by obtain⟨s,a,b⟩:=h;exact⟨s,a,b.sub hs⟩
theorem qT.mono(h:qT v A):qT v B:=by obtain⟨s,a,b⟩:=h;exact⟨s,a,b.sub hs⟩
theorem Ic.mono(h:Ic v A):Ic v B:=by obtain⟨s,f,a,b,c⟩:=h;exact⟨s,f,a,b.sub hs,c.sub hs⟩
theorem xpr_sub{p:Pr}(h:Pr.Ok A p):Pr.Ok B p:=⟨h.params.sub hs,h.locals.sub hs,h.body.sub hs,λs k=>(h.stmts s k).sub hs⟩
theorem qP.mono(h:qP v A):qP v B:=by obtain⟨p,a,b,c⟩:=h;exact⟨p,a,b,xpr_sub hs c⟩
theorem Ie.mono(h:Ie v A):Ie v B:=by obtain⟨s,p,a,b,c,d⟩:=h;exact⟨s,p,a,b,c.sub hs,xpr_sub hs d⟩
theorem qM.mono(h:qM v A):qM v B:=by obtain⟨e,a,b,c⟩:=h;exact⟨e,a,b,c.sub hs⟩
theorem If.mono(h:If v A):If v B:=by obtain⟨s,e,a,b,c,d⟩:=h;exact⟨s,e,a,b,c.sub hs,d.sub hs⟩
theorem qI.mono(h:qI v A):qI v B:=by obtain⟨e,a,b,c⟩:=h;exact⟨e,a,b,c.sub hs⟩
theorem Ig.mono(h:Ig v A):Ig v B:=by obtain⟨s,e,a,b,c,d⟩:=h;exact⟨s,e,a,b,c.sub hs,d.sub hs⟩
theorem qD.mono(h:qD v A):qD v B:=by obtain⟨d,a,b,c⟩:=h;exact⟨d,a,b,c.sub hs⟩
end
def AY:Nat->List Nat
 |2=>[0,1]
 |3=>[2]
 |4=>[3]
 |6=>[5]
 |8=>[7]
 |10=>[9]
 |12=>[11]
 |13=>[12]
 |15=>[14]
 |17=>[16]
 |18=>[15,17]
 |19=>[18]
 |21=>[20]
 |23=>[22]
 |24=>[21,23]
 |25=>[24]
 |27=>[26]
 |28=>[27]
 |29=>[28]
 |30=>[13,19,25,29]
 |31=>[8,10,30]
 |32=>[31]
 |36=>[34,35]
 |37=>[36]
 |38=>[37]
 |39=>[33,38]
 |40=>[39]
 |41=>[40]
 |42=>[41]
 |45=>[43,44]
 |47=>[45,46]
 |48=>[47]
 |51=>[49,50]
 |55=>[53,54]
 |56=>[52,55]
 |57=>[51,56]
 |58=>[57]
 |59=>[48,58]
 |60=>[59]
 |61=>[60]
 |62=>[61]
 |63=>[4,6,32,42,62]
 |64=>[63]
 |_=>[]
def Hy(A:Mem):Nat->Value->Prop
 |0,v=>v=.agg #[uS BO,uS Ai]
 |1,v=>v=.agg #[uS Ec,uS AU]
 |2,v=>qF xTF v A
 |3,v=>qT v A
 |4,v=>Ic v A
 |5,v=>v=.agg #[uS Dc,uS AU]
 |6,v=>qF [⟨Dc,AU⟩] v A
 |7,v=>v=.agg #[uS BO,uS Ai]
 |8,v=>qF [⟨BO,Ai⟩] v A
 |9,v=>v=.agg #[uS B3,uS AU]
 |10,v=>qF [⟨B3,AU⟩] v A
 |11,v=>qE xNew v A
 |12,v=>qL (GG xNew) v A
 |13,v=>qS MP v A
 |14,v=>v=Cc
 |15,v=>qE (xN B3) v A
 |16,v=>v=Cc
 |17,v=>qE (xN BO) v A
 |18,v=>qL (Ep (xN B3) (xN BO)) v A
 |19,v=>qS MQ v A
 |20,v=>v=Cc
 |21,v=>qE (xN B3) v A
 |22,v=>v=Cc
 |23,v=>qE (xN Dc) v A
 |24,v=>qL (Ep (xN B3) (xN Dc)) v A
 |25,v=>qS MS v A
 |26,v=>v=Cc
 |27,v=>qE (xN B3) v A
 |28,v=>qL (GG (xN B3)) v A
 |29,v=>qS MT v A
 |30,v=>qB v A
 |31,v=>qP v A
 |32,v=>Ie v A
 |33,v=>qE xOne v A
 |34,v=>v=Cd
 |35,v=>qE xThis v A
 |36,v=>qE Fk v A
 |37,v=>qL (GG Fk) v A
 |38,v=>qE xCall v A
 |39,v=>qL (Ep xOne xCall) v A
 |40,v=>qE xPlus v A
 |41,v=>qM v A
 |42,v=>If v A
 |43,v=>v=Cd
 |44,v=>qE xThis v A
 |45,v=>qE Fk v A
 |46,v=>qE xNil v A
 |47,v=>qL (Ep Fk xNil) v A
 |48,v=>qE KS v A
 |49,v=>v=Cd
 |50,v=>qE xThis v A
 |51,v=>qE (xF xThis BO) v A
 |52,v=>v=Cd
 |53,v=>v=Cd
 |54,v=>qE xThis v A
 |55,v=>qE Fk v A
 |56,v=>qE (xF Fk BO) v A
 |57,v=>qL (Ep (xF xThis BO) (xF Fk BO)) v A
 |58,v=>qE xLess v A
 |59,v=>qL (Ep KS xLess) v A
 |60,v=>qE xSort v A
 |61,v=>qI v A
 |62,v=>Ig v A
 |63,v=>qD v A
 |_,_=>True
theorem xlQ_mono{A B:Mem}(hs:A.sub B):∀(i:Nat)(v:Value),Hy A i v->Hy B i v
 |0,_,h=>h
 |1,_,h=>h
 |2,_,h=>qF.mono hs h
 |3,_,h=>qT.mono hs h
 |4,_,h=>Ic.mono hs h
 |5,_,h=>h
 |6,_,h=>qF.mono hs h
 |7,_,h=>h
 |8,_,h=>qF.mono hs h
 |9,_,h=>h
 |10,_,h=>qF.mono hs h
 |11,_,h=>qE.mono hs h
 |12,_,h=>qL.mono hs h
 |13,_,h=>qS.mono hs h
 |14,_,h=>h
 |15,_,h=>qE.mono hs h
 |16,_,h=>h
 |17,_,h=>qE.mono hs h
 |18,_,h=>qL.mono hs h
 |19,_,h=>qS.mono hs h
 |20,_,h=>h
 |21,_,h=>qE.mono hs h
 |22,_,h=>h
 |23,_,h=>qE.mono hs h
 |24,_,h=>qL.mono hs h
 |25,_,h=>qS.mono hs h
 |26,_,h=>h
 |27,_,h=>qE.mono hs h
 |28,_,h=>qL.mono hs h
 |29,_,h=>qS.mono hs h
 |30,_,h=>qB.mono hs h
 |31,_,h=>qP.mono hs h
 |32,_,h=>Ie.mono hs h
 |33,_,h=>qE.mono hs h
 |34,_,h=>h
 |35,_,h=>qE.mono hs h
 |36,_,h=>qE.mono hs h
 |37,_,h=>qL.mono hs h
 |38,_,h=>qE.mono hs h
 |39,_,h=>qL.mono hs h
 |40,_,h=>qE.mono hs h
 |41,_,h=>qM.mono hs h
 |42,_,h=>If.mono hs h
 |43,_,h=>h
 |44,_,h=>qE.mono hs h
 |45,_,h=>qE.mono hs h
 |46,_,h=>qE.mono hs h
 |47,_,h=>qL.mono hs h
 |48,_,h=>qE.mono hs h
 |49,_,h=>h
 |50,_,h=>qE.mono hs h
 |51,_,h=>qE.mono hs h
 |52,_,h=>h
 |53,_,h=>h
 |54,_,h=>qE.mono hs h
 |55,_,h=>qE.mono hs h
 |56,_,h=>qE.mono hs h
 |57,_,h=>qL.mono hs h
 |58,_,h=>qE.mono hs h
 |59,_,h=>qL.mono hs h
 |60,_,h=>qE.mono hs h
 |61,_,h=>qI.mono hs h
 |62,_,h=>Ig.mono hs h
 |63,_,h=>qD.mono hs h
 |_+64,_,_=>trivial
def xO(b0:Nat)(V:Mem):Mem:=λc=>if c=b0 then none else V c
theorem xO_ne{b0 c:Nat}{A:Mem}(h:c≠b0):xO b0 A c=A c:=if_neg h
theorem xO_no{b0 c:Nat}{A:Mem}(h:c=b0):xO b0 A c=none:=if_pos h
theorem xO_sub{b0:Nat}{A B:Mem}(h:A.sub B):(xO b0 A).sub (xO b0 B):=λc o k=>by
 by_cases e:c=b0;·grind[xO_no]
 ·rw[xO_ne e]at k⊢;exact h _ _ k
theorem xO_le{b0:Nat}{A:Mem}:(xO b0 A).sub A:=λc o h=>by
 grind[xO_no,xO_ne]
def xlBase(b0 b3:Nat):List (Nat×Value):=[(0,pv b0),(1,Cc),(2,Cd),(3,pv b3)]
structure K0 (V:Mem)(b0 b3:Nat):Prop where
 z:∃o,V b0=some o
 this:V b3=some (.cells (E.mk 4 0 CI Ag []).row.toArray 97 (0,0))
def MZ(i:Nat)(b0 b3:Nat)(V1:Mem)(val:Nat->Value):Prop:=∃h,(∀s v,h.lookup s=some v->(xlBase b0 b3).lookup s=some v∨∃j∈AY i,s=6+j/\v=val j)/\Aw xG 70 AF i 1 h [6+i] V1 λvs V2=>∃v,vs=[v]/\V1.sub V2/\Hy (xO b0 V2) i v
theorem xlIns{val:Nat->Value}:∀{l:List Nat}{s:Nat}{v:Value},(l.map λj=>(6+j,val j)).lookup s=some v->∃j∈l,s=6+j/\v=val j
 |[],_,_,h=>by cases h
 |j::l,s,v,h=>by
  rw[List.map_cons,zc]at h;split at h;·simp_all
  ·obtain⟨k,g,f⟩:=xlIns h;grind
theorem DI{k s:Nat}{x v:Value}(h:[(k,x)].lookup s=some v):s=k/\v=x:=by
 grind
theorem xlIn0{s:Nat}{v:Value}{Q:Prop}(h:([]:List (Nat×Value)).lookup s=some v):Q:=by cases h
section
variable{V V1:Mem}{b0 b3:Nat}{val:Nat->Value}
theorem CG(g:K0 V b0 b3)(hs:V.sub V1){b:Nat}(k:V1 b=none)(o:Obj):xO b0 (V1.set b o) b=some o:=by
 have h:b≠b0:=λe=>by
  obtain⟨o,f⟩:=g.z;rw[e,hs _ _ f]at k;cases k
 rw[xO_ne h];exact Mem.set_same _ _ _
theorem B9{b:Nat}(h:V1 b=none)(o:Obj):(xO b0 V1).sub (xO b0 (V1.set b o)):=xO_sub (Mem.sub_new h o)
theorem xEmp{α:Type}{row:α->List Value}{sz:Nat}:Ad V Ag sz (([]:List α).map row):=Ad.nil
theorem Er{op n:Int}{s:KB}(h:yr.min<=op/\op<=yr.max)(k:yr.min<=n/\n<=yr.max):E.Ok V (.mk op n s Ag []):=.mk xEmp (λ_ h=>by simp at h) h k
theorem Hz{s:KB}:PP 42 [.string s] V (E.mk 4 0 s Ag []).v:=by
 refine NP ?_;exact⟨rfl,rfl⟩
end
section
variable{V V1:Mem}{b0 b3:Nat}{val:Nat->Value}
theorem Be{i:Nat}{k:List (Nat×Value)}(eq:k=(AY i).map λj=>(6+j,val j))(h:Aw xG 70 AF i 1 k [6+i] V1 λvs V2=>∃v,vs=[v]/\V1.sub V2/\Hy (xO b0 V2) i v):MZ i b0 b3 V1 val:=
 ⟨k,λs v h=>.inr (xlIns (by rw[<-eq];exact h)),h⟩
theorem xlStep(Z:K0 V b0 b3)(hs:V.sub V1):∀i,i<64->(∀j∈AY i,Hy (xO b0 V1) j (val j))->MZ i b0 b3 V1 val
 |0,_,hv=>by
  exact⟨[],λ_ _ h=>xlIn0 h,s19o0 ⟨_,rfl,.agg #[uS BO,uS Ai],rfl,Mem.sub.refl _,rfl⟩⟩
 |1,_,hv=>by
  exact⟨[],λ_ _ h=>xlIn0 h,s19o1 ⟨_,rfl,.agg #[uS Ec,uS AU],rfl,Mem.sub.refl _,rfl⟩⟩
 |2,_,hv=>by
  have h0:val 0=_:=hv 0 (by decide);have h1:val 1=_:=hv 1 (by decide);refine Be (by simp only[AY,uv,h0,h1]<;>rfl) (s19o2 (a:=BO) (b:=Ai) (c:=Ec) (d:=AU) ?_);unfold w19o2;intro b w;exact⟨_,rfl,_,rfl,Mem.sub_new w _,⟨some ⟨b,0,none⟩,2,2⟩,rfl,Ad.cells (xs:=[⟨BO,Ai⟩,⟨Ec,AU⟩]) (row:=Fld.row) (CG Z hs w _) rfl (λ_=>rfl) rfl (by simp)⟩
 |3,_,hv=>by
  obtain⟨l,Y,W⟩:=hv 2 (by decide);refine Be (by simp only[AY,uv,Y]<;>rfl) (s19o3 (a:=l) ⟨_,rfl,_,rfl,Mem.sub.refl _,l,rfl,W⟩)
 |4,_,hv=>by
  obtain⟨l,Y,W⟩:=hv 3 (by decide);refine Be (by simp only[AY,uv,Y]<;>rfl) (s19o4 (a:=AU) (b:=l) ?_);unfold w19o4;intro b w;exact⟨_,rfl,_,rfl,Mem.sub_new w _,⟨some ⟨b,0,none⟩,1,1⟩,l,rfl,Ad.cells (xs:=[⟨AU,l,xTF⟩]) (row:=Ty.row) (CG Z hs w _) rfl (λ_=>rfl) rfl (by simp),W.sub (B9 w _)⟩
 |5,_,hv=>by
  exact⟨[],λ_ _ h=>xlIn0 h,s19o5 ⟨_,rfl,.agg #[uS Dc,uS AU],rfl,Mem.sub.refl _,rfl⟩⟩
 |6,_,hv=>by
  have h5:val 5=_:=hv 5 (by decide);refine Be (by simp only[AY,uv,h5]<;>rfl) (s19o6 (a:=Dc) (b:=AU) ?_);unfold w19o6;intro b w;exact⟨_,rfl,_,rfl,Mem.sub_new w _,⟨some ⟨b,0,none⟩,1,1⟩,rfl,Ad.cells (xs:=[⟨Dc,AU⟩]) (row:=Fld.row) (CG Z hs w _) rfl (λ_=>rfl) rfl (by simp)⟩
 |7,_,hv=>by
  exact⟨[],λ_ _ h=>xlIn0 h,s19o7 ⟨_,rfl,.agg #[uS BO,uS Ai],rfl,Mem.sub.refl _,rfl⟩⟩
 |8,_,hv=>by
  have h7:val 7=_:=hv 7 (by decide);refine Be (by simp only[AY,uv,h7]<;>rfl) (s19o8 (a:=BO) (b:=Ai) ?_);unfold w19o8;intro b w;exact⟨_,rfl,_,rfl,Mem.sub_new w _,⟨some ⟨b,0,none⟩,1,1⟩,rfl,Ad.cells (xs:=[⟨BO,Ai⟩]) (row:=Fld.row) (CG Z hs w _) rfl (λ_=>rfl) rfl (by simp)⟩
 |9,_,hv=>by
  exact⟨[],λ_ _ h=>xlIn0 h,s19o9 ⟨_,rfl,.agg #[uS B3,uS AU],rfl,Mem.sub.refl _,rfl⟩⟩
 |10,_,hv=>by
  have h9:val 9=_:=hv 9 (by decide);refine Be (by simp only[AY,uv,h9]<;>rfl) (s19o10 (a:=B3) (b:=AU) ?_);unfold w19o10;intro b w;exact⟨_,rfl,_,rfl,Mem.sub_new w _,⟨some ⟨b,0,none⟩,1,1⟩,rfl,Ad.cells (xs:=[⟨B3,AU⟩]) (row:=Fld.row) (CG Z hs w _) rfl (λ_=>rfl) rfl (by simp)⟩
 |11,_,hv=>by
  exact⟨[],λ_ _ h=>xlIn0 h,s19o11 ⟨_,rfl,_,rfl,Mem.sub.refl _,.mk 6 0 AU Ag [],rfl,⟨_,_,rfl,rfl⟩,Er (by decide) (by decide)⟩⟩
 |12,_,hv=>by
  obtain⟨e,J,G,N⟩:=hv 11 (by decide);refine Be (by simp only[AY,uv,J]<;>rfl) (s19o12 (a:=e.op) (b:=e.n) (c:=e.s) (d:=e.l) ?_);unfold w19o12;intro b w;exact⟨_,rfl,_,rfl,Mem.sub_new w _,⟨some ⟨b,0,none⟩,1,1⟩,[e],rfl,⟨e,G,rfl⟩,Ad.cells (xs:=[e]) (row:=E.row) (CG Z hs w _) rfl (λ_=>rfl) rfl (by simp),λx H=>by rw[zO.1 H];exact N.sub (B9 w _)⟩
 |13,_,hv=>by
  obtain⟨l,es,Y,W,Q,P⟩:=hv 12 (by decide);refine Be (by simp only[AY,uv,Y]<;>rfl) (s19o13 (a:=l) ⟨_,rfl,_,rfl,Mem.sub.refl _,1,B3,l,es,rfl,⟨_,_,W,rfl⟩,.mk Q P xEmp (λ_ h=>by simp at h) xEmp (λ_ h=>by simp at h) (by decide)⟩)
 |14,_,hv=>by
  exact⟨[(1,Cc)],λs v h=>.inl (by obtain⟨rfl,rfl⟩:=DI h;rfl),s19o14 (a:=Cc) ⟨_,rfl,Cc,rfl,Mem.sub.refl _,rfl⟩⟩
 |15,_,hv=>by
  have X:val 14=_:=hv 14 (by decide);refine Be (by simp only[AY,uv,X]<;>rfl) (s19o15 (a:=Cc) ?_);unfold w19o15;exact⟨42,#[],#[],rfl,uu,(Hz (s:=B3)).callv (first:=[]) (caps:=[]) ⟨_,_,_,_,rfl,_,rfl,_,rfl,Mem.sub.refl _,.mk 4 0 B3 Ag [],rfl,⟨_,_,rfl,rfl⟩,Er (by decide) (by decide)⟩⟩
 |16,_,hv=>by
  exact⟨[(1,Cc)],λs v h=>.inl (by obtain⟨rfl,rfl⟩:=DI h;rfl),s19o16 (a:=Cc) ⟨_,rfl,Cc,rfl,Mem.sub.refl _,rfl⟩⟩
 |17,_,hv=>by
  have D:val 16=_:=hv 16 (by decide);refine Be (by simp only[AY,uv,D]<;>rfl) (s19o17 (a:=Cc) ?_);unfold w19o17;exact⟨42,#[],#[],rfl,uu,(Hz (s:=BO)).callv (first:=[]) (caps:=[]) ⟨_,_,_,_,rfl,_,rfl,_,rfl,Mem.sub.refl _,.mk 4 0 BO Ag [],rfl,⟨_,_,rfl,rfl⟩,Er (by decide) (by decide)⟩⟩
 |18,_,hv=>by
  obtain⟨e,J,G,N⟩:=hv 15 (by decide);obtain⟨f,O,f2,f3⟩:=hv 17 (by decide);refine Be (by simp only[AY,uv,J,O]<;>rfl) (s19o18 (a:=e.op) (b:=e.n) (c:=e.s) (d:=e.l) (g:=f.op) (i:=f.n) (j:=f.s) (k:=f.l) ?_);unfold w19o18;intro b w;exact⟨_,rfl,_,rfl,Mem.sub_new w _,⟨some ⟨b,0,none⟩,2,2⟩,[e,f],rfl,⟨e,f,G,f2,rfl⟩,Ad.cells (xs:=[e,f]) (row:=E.row) (CG Z hs w _) rfl (λ_=>rfl) rfl (by simp),λx H=>by
   rcases yD.1 H with rfl|H;·exact N.sub (B9 w _)
   ·rw[zO.1 H];exact f3.sub (B9 w _)⟩
 |19,_,hv=>by
  obtain⟨l,es,Y,W,Q,P⟩:=hv 18 (by decide);refine Be (by simp only[AY,uv,Y]<;>rfl) (s19o19 (a:=l) ⟨_,rfl,_,rfl,Mem.sub.refl _,2,BO,l,es,rfl,⟨_,_,W,rfl⟩,.mk Q P xEmp (λ_ h=>by simp at h) xEmp (λ_ h=>by simp at h) (by decide)⟩)
 |20,_,hv=>by
  exact⟨[(1,Cc)],λs v h=>.inl (by obtain⟨rfl,rfl⟩:=DI h;rfl),s19o20 (a:=Cc) ⟨_,rfl,Cc,rfl,Mem.sub.refl _,rfl⟩⟩
 |21,_,hv=>by
  have K:val 20=_:=hv 20 (by decide);refine Be (by simp only[AY,uv,K]<;>rfl) (s19o21 (a:=Cc) ?_);unfold w19o21;exact⟨42,#[],#[],rfl,uu,(Hz (s:=B3)).callv (first:=[]) (caps:=[]) ⟨_,_,_,_,rfl,_,rfl,_,rfl,Mem.sub.refl _,.mk 4 0 B3 Ag [],rfl,⟨_,_,rfl,rfl⟩,Er (by decide) (by decide)⟩⟩
 |22,_,hv=>by
  exact⟨[(1,Cc)],λs v h=>.inl (by obtain⟨rfl,rfl⟩:=DI h;rfl),s19o22 (a:=Cc) ⟨_,rfl,Cc,rfl,Mem.sub.refl _,rfl⟩⟩
 |23,_,hv=>by
  have T:val 22=_:=hv 22 (by decide);refine Be (by simp only[AY,uv,T]<;>rfl) (s19o23 (a:=Cc) ?_);unfold w19o23;exact⟨42,#[],#[],rfl,uu,(Hz (s:=Dc)).callv (first:=[]) (caps:=[]) ⟨_,_,_,_,rfl,_,rfl,_,rfl,Mem.sub.refl _,.mk 4 0 Dc Ag [],rfl,⟨_,_,rfl,rfl⟩,Er (by decide) (by decide)⟩⟩
 |24,_,hv=>by
  obtain⟨e,J,G,N⟩:=hv 21 (by decide);obtain⟨f,O,f2,f3⟩:=hv 23 (by decide);refine Be (by simp only[AY,uv,J,O]<;>rfl) (s19o24 (a:=e.op) (b:=e.n) (c:=e.s) (d:=e.l) (g:=f.op) (i:=f.n) (j:=f.s) (k:=f.l) ?_);unfold w19o24;intro b w;exact⟨_,rfl,_,rfl,Mem.sub_new w _,⟨some ⟨b,0,none⟩,2,2⟩,[e,f],rfl,⟨e,f,G,f2,rfl⟩,Ad.cells (xs:=[e,f]) (row:=E.row) (CG Z hs w _) rfl (λ_=>rfl) rfl (by simp),λx H=>by
   rcases yD.1 H with rfl|H;·exact N.sub (B9 w _)
   ·rw[zO.1 H];exact f3.sub (B9 w _)⟩
 |25,_,hv=>by
  obtain⟨l,es,Y,W,Q,P⟩:=hv 24 (by decide);refine Be (by simp only[AY,uv,Y]<;>rfl) (s19o25 (a:=l) ⟨_,rfl,_,rfl,Mem.sub.refl _,2,Ec,l,es,rfl,⟨_,_,W,rfl⟩,.mk Q P xEmp (λ_ h=>by simp at h) xEmp (λ_ h=>by simp at h) (by decide)⟩)
 |26,_,hv=>by
  exact⟨[(1,Cc)],λs v h=>.inl (by obtain⟨rfl,rfl⟩:=DI h;rfl),s19o26 (a:=Cc) ⟨_,rfl,Cc,rfl,Mem.sub.refl _,rfl⟩⟩
 |27,_,hv=>by
  have U:val 26=_:=hv 26 (by decide);refine Be (by simp only[AY,uv,U]<;>rfl) (s19o27 (a:=Cc) ?_);unfold w19o27;exact⟨42,#[],#[],rfl,uu,(Hz (s:=B3)).callv (first:=[]) (caps:=[]) ⟨_,_,_,_,rfl,_,rfl,_,rfl,Mem.sub.refl _,.mk 4 0 B3 Ag [],rfl,⟨_,_,rfl,rfl⟩,Er (by decide) (by decide)⟩⟩
 |28,_,hv=>by
  obtain⟨e,J,G,N⟩:=hv 27 (by decide);refine Be (by simp only[AY,uv,J]<;>rfl) (s19o28 (a:=e.op) (b:=e.n) (c:=e.s) (d:=e.l) ?_);unfold w19o28;intro b w;exact⟨_,rfl,_,rfl,Mem.sub_new w _,⟨some ⟨b,0,none⟩,1,1⟩,[e],rfl,⟨e,G,rfl⟩,Ad.cells (xs:=[e]) (row:=E.row) (CG Z hs w _) rfl (λ_=>rfl) rfl (by simp),λx H=>by rw[zO.1 H];exact N.sub (B9 w _)⟩
 |29,_,hv=>by
  obtain⟨l,es,Y,W,Q,P⟩:=hv 28 (by decide);refine Be (by simp only[AY,uv,Y]<;>rfl) (s19o29 (a:=l) ⟨_,rfl,_,rfl,Mem.sub.refl _,1,Dc,l,es,rfl,⟨_,_,W,rfl⟩,.mk Q P xEmp (λ_ h=>by simp at h) xEmp (λ_ h=>by simp at h) (by decide)⟩)
 |30,_,hv=>by
  obtain⟨o0,n0,l0,M,p0,q0,r0⟩:=hv 13 (by decide);obtain⟨o1,n1,l1,F,p1,q1,r1⟩:=hv 19 (by decide);obtain⟨o2,n2,l2,L,p2,q2,r2⟩:=hv 25 (by decide);obtain⟨o3,n3,l3,R,p3,q3,r3⟩:=hv 29 (by decide);refine Be (by simp only[AY,uv,p0,p1,p2,p3]<;>rfl) (s19o30 (a:=o0) (b:=n0) (c:=l0) (d:=Ag) (g:=Ag) (i:=o1) (j:=n1) (k:=l1) (l:=Ag) (o:=Ag) (p:=o2) (q:=n2) (r:=l2) (s:=Ag) (u:=Ag) (y:=o3) (z:=n3) (A:=l3) (B:=Ag) (C:=Ag) ?_);unfold w19o30;intro b w;exact⟨_,rfl,_,rfl,Mem.sub_new w _,⟨some ⟨b,0,none⟩,4,4⟩,[S.mk o0 n0 l0 M Ag [] Ag [],S.mk o1 n1 l1 F Ag [] Ag [],S.mk o2 n2 l2 L Ag [] Ag [],S.mk o3 n3 l3 R Ag [] Ag []],rfl,⟨_,_,_,_,q0,q1,q2,q3,rfl⟩,Ad.cells (xs:=[S.mk o0 n0 l0 M Ag [] Ag [],S.mk o1 n1 l1 F Ag [] Ag [],S.mk o2 n2 l2 L Ag [] Ag [],S.mk o3 n3 l3 R Ag [] Ag []]) (row:=S.row) (CG Z hs w _) rfl (λx=>by cases x;rfl) rfl (by simp),λx H=>by
   simp only[yD,List.not_mem_nil,or_false]at H;rcases H with rfl|rfl|rfl|rfl;·exact r0.sub (B9 w _)
   ·exact r1.sub (B9 w _)
   ·exact r2.sub (B9 w _)
   ·exact r3.sub (B9 w _)⟩
 |31,_,hv=>by
  obtain⟨l,Y,W⟩:=hv 8 (by decide);obtain⟨m,m1,m2⟩:=hv 10 (by decide);obtain⟨k,ss,k1,k2,k3,k4⟩:=hv 30 (by decide);refine Be (by simp only[AY,uv,Y,m1,k1]<;>rfl) (s19o31 (a:=l) (b:=m) (c:=k) ⟨_,rfl,_,rfl,Mem.sub.refl _,⟨BS,l,[⟨BO,Ai⟩],sE,m,[⟨B3,AU⟩],k,ss⟩,rfl,⟨_,_,_,_,k2,rfl⟩,⟨W,m2,k3,k4⟩⟩)
 |32,_,hv=>by
  obtain⟨p,J,G,N⟩:=hv 31 (by decide);refine Be (by simp only[AY,uv,J]<;>rfl) (s19o32 (a:=p.name) (b:=p.ps) (c:=p.result) (d:=p.ls) (g:=p.bs) ?_);unfold w19o32;intro b w;exact⟨_,rfl,_,rfl,Mem.sub_new w _,⟨some ⟨b,0,none⟩,1,1⟩,p,rfl,G,Ad.cells (xs:=[p]) (row:=Pr.row) (CG Z hs w _) rfl (λ_=>rfl) rfl (by simp),xpr_sub (B9 w _) N⟩
 |33,_,hv=>by
  exact⟨[],λ_ _ h=>xlIn0 h,s19o33 ⟨_,rfl,_,rfl,Mem.sub.refl _,.mk 1 1 sE Ag [],rfl,⟨_,_,rfl,rfl⟩,Er (by decide) (by decide)⟩⟩
 |34,_,hv=>by
  exact⟨[(2,Cd)],λs v h=>.inl (by obtain⟨rfl,rfl⟩:=DI h;rfl),s19o34 (a:=Cd) ⟨_,rfl,Cd,rfl,Mem.sub.refl _,rfl⟩⟩
 |35,_,hv=>by
  exact⟨[(3,pv b3)],λs v h=>.inl (by obtain⟨rfl,rfl⟩:=DI h;rfl),s19o35 (a:=some ⟨b3,0,none⟩) ⟨_,_,_,_,An (hs _ _ Z.this) 0 4 (by simp[E.row]),_,rfl,_,rfl,Mem.sub.refl _,.mk 4 0 CI Ag [],rfl,⟨_,_,rfl,rfl⟩,Er (by decide) (by decide)⟩⟩
 |36,_,hv=>by
  have h34:val 34=_:=hv 34 (by decide);obtain⟨e,J,G,N⟩:=hv 35 (by decide);refine Be (by simp only[AY,uv,h34,J]<;>rfl) (s19o36 (a:=Cd) (b:=e.op) (c:=e.n) (d:=e.s) (g:=e.l) ?_);unfold w19o36;refine⟨43,#[],#[],rfl,ur,HQ ?_⟩;intro b w;exact⟨_,_,_,_,rfl,_,rfl,_,rfl,Mem.sub_new w _,.mk 5 0 Ec ⟨some ⟨b,0,none⟩,1,1⟩ [e],rfl,⟨_,_,⟨e,G,rfl⟩,rfl⟩,.mk (Ad.cells (xs:=[e]) (row:=E.row) (CG Z hs w _) rfl (λ_=>rfl) rfl (by simp)) (λx H=>by rw[zO.1 H];exact N.sub (B9 w _)) (by decide) (by decide)⟩
 |37,_,hv=>by
  obtain⟨e,J,G,N⟩:=hv 36 (by decide);refine Be (by simp only[AY,uv,J]<;>rfl) (s19o37 (a:=e.op) (b:=e.n) (c:=e.s) (d:=e.l) ?_);unfold w19o37;intro b w;exact⟨_,rfl,_,rfl,Mem.sub_new w _,⟨some ⟨b,0,none⟩,1,1⟩,[e],rfl,⟨e,G,rfl⟩,Ad.cells (xs:=[e]) (row:=E.row) (CG Z hs w _) rfl (λ_=>rfl) rfl (by simp),λx H=>by rw[zO.1 H];exact N.sub (B9 w _)⟩
 |38,_,hv=>by
  obtain⟨l,es,Y,W,Q,P⟩:=hv 37 (by decide);refine Be (by simp only[AY,uv,Y]<;>rfl) (s19o38 (a:=l) ⟨_,rfl,_,rfl,Mem.sub.refl _,.mk 7 0 EP l es,rfl,⟨_,_,W,rfl⟩,.mk Q P (by decide) (by decide)⟩)
 |39,_,hv=>by
  obtain⟨e,J,G,N⟩:=hv 33 (by decide);obtain⟨f,O,f2,f3⟩:=hv 38 (by decide);refine Be (by simp only[AY,uv,J,O]<;>rfl) (s19o39 (a:=e.op) (b:=e.n) (c:=e.s) (d:=e.l) (g:=f.op) (i:=f.n) (j:=f.s) (k:=f.l) ?_);unfold w19o39;intro b w;exact⟨_,rfl,_,rfl,Mem.sub_new w _,⟨some ⟨b,0,none⟩,2,2⟩,[e,f],rfl,⟨e,f,G,f2,rfl⟩,Ad.cells (xs:=[e,f]) (row:=E.row) (CG Z hs w _) rfl (λ_=>rfl) rfl (by simp),λx H=>by
   rcases yD.1 H with rfl|H;·exact N.sub (B9 w _)
   ·rw[zO.1 H];exact f3.sub (B9 w _)⟩
 |40,_,hv=>by
  obtain⟨l,es,Y,W,Q,P⟩:=hv 39 (by decide);refine Be (by simp only[AY,uv,Y]<;>rfl) (s19o40 (a:=l) ⟨_,rfl,_,rfl,Mem.sub.refl _,.mk 9 0 sE l es,rfl,⟨_,_,W,rfl⟩,.mk Q P (by decide) (by decide)⟩)
 |41,_,hv=>by
  obtain⟨e,J,G,N⟩:=hv 40 (by decide);refine Be (by simp only[AY,uv,J]<;>rfl) (s19o41 (a:=e.op) (b:=e.n) (c:=e.s) (d:=e.l) ⟨_,rfl,_,rfl,Mem.sub.refl _,e,rfl,G,N⟩)
 |42,_,hv=>by
  obtain⟨e,J,G,N⟩:=hv 41 (by decide);refine Be (by simp only[AY,uv,J]<;>rfl) (s19o42 (a:=EP) (b:=AU) (c:=0) (d:=e.op) (g:=e.n) (i:=e.s) (j:=e.l) ?_);unfold w19o42;intro b w;exact⟨_,rfl,_,rfl,Mem.sub_new w _,⟨some ⟨b,0,none⟩,1,1⟩,e,rfl,G,Ad.cells (xs:=[⟨EP,AU,0,e⟩]) (row:=Ms.row) (CG Z hs w _) rfl (λ_=>rfl) rfl (by simp),N.sub (B9 w _)⟩
 |43,_,hv=>by
  exact⟨[(2,Cd)],λs v h=>.inl (by obtain⟨rfl,rfl⟩:=DI h;rfl),s19o43 (a:=Cd) ⟨_,rfl,Cd,rfl,Mem.sub.refl _,rfl⟩⟩
 |44,_,hv=>by
  exact⟨[(3,pv b3)],λs v h=>.inl (by obtain⟨rfl,rfl⟩:=DI h;rfl),s19o44 (a:=some ⟨b3,0,none⟩) ⟨_,_,_,_,An (hs _ _ Z.this) 0 4 (by simp[E.row]),_,rfl,_,rfl,Mem.sub.refl _,.mk 4 0 CI Ag [],rfl,⟨_,_,rfl,rfl⟩,Er (by decide) (by decide)⟩⟩
 |45,_,hv=>by
  have h43:val 43=_:=hv 43 (by decide);obtain⟨e,J,G,N⟩:=hv 44 (by decide);refine Be (by simp only[AY,uv,h43,J]<;>rfl) (s19o45 (a:=Cd) (b:=e.op) (c:=e.n) (d:=e.s) (g:=e.l) ?_);unfold w19o45;refine⟨43,#[],#[],rfl,ur,HQ ?_⟩;intro b w;exact⟨_,_,_,_,rfl,_,rfl,_,rfl,Mem.sub_new w _,.mk 5 0 Ec ⟨some ⟨b,0,none⟩,1,1⟩ [e],rfl,⟨_,_,⟨e,G,rfl⟩,rfl⟩,.mk (Ad.cells (xs:=[e]) (row:=E.row) (CG Z hs w _) rfl (λ_=>rfl) rfl (by simp)) (λx H=>by rw[zO.1 H];exact N.sub (B9 w _)) (by decide) (by decide)⟩
 |46,_,hv=>by
  exact⟨[],λ_ _ h=>xlIn0 h,s19o46 ⟨_,rfl,_,rfl,Mem.sub.refl _,.mk 3 0 sE Ag [],rfl,⟨_,_,rfl,rfl⟩,Er (by decide) (by decide)⟩⟩
 |47,_,hv=>by
  obtain⟨e,J,G,N⟩:=hv 45 (by decide);obtain⟨f,O,f2,f3⟩:=hv 46 (by decide);refine Be (by simp only[AY,uv,J,O]<;>rfl) (s19o47 (a:=e.op) (b:=e.n) (c:=e.s) (d:=e.l) (g:=f.op) (i:=f.n) (j:=f.s) (k:=f.l) ?_);unfold w19o47;intro b w;exact⟨_,rfl,_,rfl,Mem.sub_new w _,⟨some ⟨b,0,none⟩,2,2⟩,[e,f],rfl,⟨e,f,G,f2,rfl⟩,Ad.cells (xs:=[e,f]) (row:=E.row) (CG Z hs w _) rfl (λ_=>rfl) rfl (by simp),λx H=>by
   rcases yD.1 H with rfl|H;·exact N.sub (B9 w _)
   ·rw[zO.1 H];exact f3.sub (B9 w _)⟩
 |48,_,hv=>by
  obtain⟨l,es,Y,W,Q,P⟩:=hv 47 (by decide);refine Be (by simp only[AY,uv,Y]<;>rfl) (s19o48 (a:=l) ⟨_,rfl,_,rfl,Mem.sub.refl _,.mk 14 0 sE l es,rfl,⟨_,_,W,rfl⟩,.mk Q P (by decide) (by decide)⟩)
 |49,_,hv=>by
  exact⟨[(2,Cd)],λs v h=>.inl (by obtain⟨rfl,rfl⟩:=DI h;rfl),s19o49 (a:=Cd) ⟨_,rfl,Cd,rfl,Mem.sub.refl _,rfl⟩⟩
 |50,_,hv=>by
  exact⟨[(3,pv b3)],λs v h=>.inl (by obtain⟨rfl,rfl⟩:=DI h;rfl),s19o50 (a:=some ⟨b3,0,none⟩) ⟨_,_,_,_,An (hs _ _ Z.this) 0 4 (by simp[E.row]),_,rfl,_,rfl,Mem.sub.refl _,.mk 4 0 CI Ag [],rfl,⟨_,_,rfl,rfl⟩,Er (by decide) (by decide)⟩⟩
 |51,_,hv=>by
  have h49:val 49=_:=hv 49 (by decide);obtain⟨e,J,G,N⟩:=hv 50 (by decide);refine Be (by simp only[AY,uv,h49,J]<;>rfl) (s19o51 (a:=Cd) (b:=e.op) (c:=e.n) (d:=e.s) (g:=e.l) ?_);unfold w19o51;refine⟨43,#[],#[],rfl,ur,HQ ?_⟩;intro b w;exact⟨_,_,_,_,rfl,_,rfl,_,rfl,Mem.sub_new w _,.mk 5 0 BO ⟨some ⟨b,0,none⟩,1,1⟩ [e],rfl,⟨_,_,⟨e,G,rfl⟩,rfl⟩,.mk (Ad.cells (xs:=[e]) (row:=E.row) (CG Z hs w _) rfl (λ_=>rfl) rfl (by simp)) (λx H=>by rw[zO.1 H];exact N.sub (B9 w _)) (by decide) (by decide)⟩
 |52,_,hv=>by
  exact⟨[(2,Cd)],λs v h=>.inl (by obtain⟨rfl,rfl⟩:=DI h;rfl),s19o52 (a:=Cd) ⟨_,rfl,Cd,rfl,Mem.sub.refl _,rfl⟩⟩
 |53,_,hv=>by
  exact⟨[(2,Cd)],λs v h=>.inl (by obtain⟨rfl,rfl⟩:=DI h;rfl),s19o53 (a:=Cd) ⟨_,rfl,Cd,rfl,Mem.sub.refl _,rfl⟩⟩
 |54,_,hv=>by
  exact⟨[(3,pv b3)],λs v h=>.inl (by obtain⟨rfl,rfl⟩:=DI h;rfl),s19o54 (a:=some ⟨b3,0,none⟩) ⟨_,_,_,_,An (hs _ _ Z.this) 0 4 (by simp[E.row]),_,rfl,_,rfl,Mem.sub.refl _,.mk 4 0 CI Ag [],rfl,⟨_,_,rfl,rfl⟩,Er (by decide) (by decide)⟩⟩
 |55,_,hv=>by
  have h53:val 53=_:=hv 53 (by decide);obtain⟨e,J,G,N⟩:=hv 54 (by decide);refine Be (by simp only[AY,uv,h53,J]<;>rfl) (s19o55 (a:=Cd) (b:=e.op) (c:=e.n) (d:=e.s) (g:=e.l) ?_);unfold w19o55;refine⟨43,#[],#[],rfl,ur,HQ ?_⟩;intro b w;exact⟨_,_,_,_,rfl,_,rfl,_,rfl,Mem.sub_new w _,.mk 5 0 Ec ⟨some ⟨b,0,none⟩,1,1⟩ [e],rfl,⟨_,_,⟨e,G,rfl⟩,rfl⟩,.mk (Ad.cells (xs:=[e]) (row:=E.row) (CG Z hs w _) rfl (λ_=>rfl) rfl (by simp)) (λx H=>by rw[zO.1 H];exact N.sub (B9 w _)) (by decide) (by decide)⟩
 |56,_,hv=>by
  have h52:val 52=_:=hv 52 (by decide);obtain⟨e,J,G,N⟩:=hv 55 (by decide);refine Be (by simp only[AY,uv,h52,J]<;>rfl) (s19o56 (a:=Cd) (b:=e.op) (c:=e.n) (d:=e.s) (g:=e.l) ?_);unfold w19o56;refine⟨43,#[],#[],rfl,ur,HQ ?_⟩;intro b w;exact⟨_,_,_,_,rfl,_,rfl,_,rfl,Mem.sub_new w _,.mk 5 0 BO ⟨some ⟨b,0,none⟩,1,1⟩ [e],rfl,⟨_,_,⟨e,G,rfl⟩,rfl⟩,.mk (Ad.cells (xs:=[e]) (row:=E.row) (CG Z hs w _) rfl (λ_=>rfl) rfl (by simp)) (λx H=>by rw[zO.1 H];exact N.sub (B9 w _)) (by decide) (by decide)⟩
 |57,_,hv=>by
  obtain⟨e,J,G,N⟩:=hv 51 (by decide);obtain⟨f,O,f2,f3⟩:=hv 56 (by decide);refine Be (by simp only[AY,uv,J,O]<;>rfl) (s19o57 (a:=e.op) (b:=e.n) (c:=e.s) (d:=e.l) (g:=f.op) (i:=f.n) (j:=f.s) (k:=f.l) ?_);unfold w19o57;intro b w;exact⟨_,rfl,_,rfl,Mem.sub_new w _,⟨some ⟨b,0,none⟩,2,2⟩,[e,f],rfl,⟨e,f,G,f2,rfl⟩,Ad.cells (xs:=[e,f]) (row:=E.row) (CG Z hs w _) rfl (λ_=>rfl) rfl (by simp),λx H=>by
   rcases yD.1 H with rfl|H;·exact N.sub (B9 w _)
   ·rw[zO.1 H];exact f3.sub (B9 w _)⟩
 |58,_,hv=>by
  obtain⟨l,es,Y,W,Q,P⟩:=hv 57 (by decide);refine Be (by simp only[AY,uv,Y]<;>rfl) (s19o58 (a:=l) ⟨_,rfl,_,rfl,Mem.sub.refl _,.mk 17 0 sE l es,rfl,⟨_,_,W,rfl⟩,.mk Q P (by decide) (by decide)⟩)
 |59,_,hv=>by
  obtain⟨e,J,G,N⟩:=hv 48 (by decide);obtain⟨f,O,f2,f3⟩:=hv 58 (by decide);refine Be (by simp only[AY,uv,J,O]<;>rfl) (s19o59 (a:=e.op) (b:=e.n) (c:=e.s) (d:=e.l) (g:=f.op) (i:=f.n) (j:=f.s) (k:=f.l) ?_);unfold w19o59;intro b w;exact⟨_,rfl,_,rfl,Mem.sub_new w _,⟨some ⟨b,0,none⟩,2,2⟩,[e,f],rfl,⟨e,f,G,f2,rfl⟩,Ad.cells (xs:=[e,f]) (row:=E.row) (CG Z hs w _) rfl (λ_=>rfl) rfl (by simp),λx H=>by
   rcases yD.1 H with rfl|H;·exact N.sub (B9 w _)
   ·rw[zO.1 H];exact f3.sub (B9 w _)⟩
 |60,_,hv=>by
  obtain⟨l,es,Y,W,Q,P⟩:=hv 59 (by decide);refine Be (by simp only[AY,uv,Y]<;>rfl) (s19o60 (a:=l) ⟨_,rfl,_,rfl,Mem.sub.refl _,.mk 20 0 sE l es,rfl,⟨_,_,W,rfl⟩,.mk Q P (by decide) (by decide)⟩)
 |61,_,hv=>by
  obtain⟨e,J,G,N⟩:=hv 60 (by decide);refine Be (by simp only[AY,uv,J]<;>rfl) (s19o61 (a:=e.op) (b:=e.n) (c:=e.s) (d:=e.l) ⟨_,rfl,_,rfl,Mem.sub.refl _,e,rfl,G,N⟩)
 |62,_,hv=>by
  obtain⟨e,J,G,N⟩:=hv 61 (by decide);refine Be (by simp only[AY,uv,J]<;>rfl) (s19o62 (a:=Bq) (b:=AU) (c:=e.op) (d:=e.n) (g:=e.s) (i:=e.l) ?_);unfold w19o62;intro b w;exact⟨_,rfl,_,rfl,Mem.sub_new w _,⟨some ⟨b,0,none⟩,1,1⟩,e,rfl,G,Ad.cells (xs:=[⟨Bq,AU,e⟩]) (row:=Iv.row) (CG Z hs w _) rfl (λ_=>rfl) rfl (by simp),N.sub (B9 w _)⟩
 |63,_,hv=>by
  obtain⟨ts,fs,t1,t2,t3⟩:=hv 4 (by decide);obtain⟨gs,g1,g2⟩:=hv 6 (by decide);obtain⟨ps,p,p1,p2,p3,p4⟩:=hv 32 (by decide);obtain⟨ms,m,m1,m2,m3,m4⟩:=hv 42 (by decide);obtain⟨is,q,i1,i2,i3,i4⟩:=hv 62 (by decide);refine Be (by simp only[AY,uv,t1,g1,p1,m1,i1]<;>rfl) (s19o63 (a:=ts) (b:=gs) (c:=ps) (d:=ms) (g:=is) ⟨_,rfl,_,rfl,Mem.sub.refl _,⟨exList,ts,[⟨AU,fs,xTF⟩],gs,[⟨Dc,AU⟩],ps,[p],ms,[⟨EP,AU,0,m⟩],is,[⟨Bq,AU,q⟩],Ag,[],Ag,[]⟩,rfl,⟨ts,fs,gs,ps,p,ms,m,is,q,p2,m2,i2,rfl⟩,?_⟩);exact
   {types:=t2
    typesOk:=λt I=>by rw[zO.1 I];exact⟨t3⟩
    globals:=g2
    procs:=p3
    procsOk:=λt I=>by rw[zO.1 I];exact p4
    measures:=m3
    measuresOk:=λt I=>by rw[zO.1 I];exact⟨m4,(by decide:yr.min<=(0:Int)/\(0:Int)<=yr.max)⟩
    invs:=i3
    invsOk:=λt I=>by rw[zO.1 I];exact i4
    pots:=Ad.nil
    potsOk:=λ_ h=>by simp at h
    bounds:=Ad.nil
    boundsOk:=λ_ h=>by simp at h}
 |_+64,h,_=>by omega
end
section
variable{V V1:Mem}{b0 b3:Nat}{val:Nat->Value}
noncomputable def xlR4:Code:=(flat (Az uw)).getD 4 .skip
theorem xl_flat:flat (Az uw)=c19a++[xlR4,.ret]:=by kernel_rfl
theorem xlR4_eq:xlR4=.region 4 AF true:=by kernel_rfl
theorem xlR4_ok:anyOk AF 64 6 AY=true:=by kernel_rfl
theorem xlR4_size:(AF).size=65:=by kernel_rfl
theorem results_xl{tmps:Array Value}{b:Nat}{d:Ds}{w:World}(k:tmps.getD 0 undef=pv b)(h:w.heap[b]?=some (.cells d.row.toArray 30 (0,0))):(results uw tmps).run xG w=.ok d.v w:=by
 have g:uw.results=#[.cell 0 30]:=by kernel_rfl
 unfold results;rw[g];have e:asAddr (tmps.getD 0 undef)=pure ⟨b,0,none⟩:=by rw[k];rfl
 have f:=GY (P:=xG) (t:=30) (cs:=.cons (.var .s 0) (.cons (.var .sl 1) (.cons (.var .sl 2) (.cons (.var .sl 3) (.cons (.var .sl 4) (.cons (.var .sl 5) (.cons (.var .sl 6) (.cons (.var .sl 7) .nil)))))))) (x:=.agg (.cons (.var .s 0) (.cons (.var .sl 1) (.cons (.var .sl 2) (.cons (.var .sl 3) (.cons (.var .sl 4) (.cons (.var .sl 5) (.cons (.var .sl 6) (.cons (.var .sl 7) .nil))))))))) (ρ:=d.row) (β:=id) (o:=0) (b:=b) (w:=w) h (by kernel_rfl);simp only[List.mapM_toArray,List.mapM_cons,List.mapM_nil,Sem.run_bind,Sem.run_map,Sem.run_pure,Result.andThen_ok,e,show(loadVar 30 ⟨b,0,none⟩).run xG w=.ok d.v w from f];rfl
theorem M0{V:Mem}:Tri xG 19 #[] V λe V'=>V.sub V'/\∃d:Ds,e=.returned d.v/\IsEx d/\Ds.Ok V' d:=by
 unfold Go.Sx.Tri;intro w R;refine(callsIn_wide (n:=0)).1 (callsIn_of_wp (F:=Au none) Tryz.func19 (c:=Az uw) (by kernel_rfl) trivial (E9 ?_) rfl);rw[xl_flat];have X:AO xG 70 c19a [] [0,1,2,3] V λvs V1=>∃b0 b3,vs=[pv b0,Cc,Cd,pv b3]/\K0 V1 b0 b3/\V.sub V1/\V b0=none/\∃c,c.size=8/\V1 b0=some (.cells c 30 (0,0)):=by
  refine s19a ?_;unfold w19a;refine(Hz (s:=CI)).call ⟨_,_,_,_,rfl,λb0 f b3 r=>⟨_,rfl,b0,b3,rfl,?_⟩⟩;have s0:=Mem.sub_new f (.cells #[uS (Ab []),.slice none 0 0,.slice none 0 0,.slice none 0 0,.slice none 0 0,.slice none 0 0,.slice none 0 0,.slice none 0 0] 30 (0,0));have P:=Mem.sub_new r (.cells (E.mk 4 0 CI Ag []).row.toArray 97 (0,0));have O:=P _ _ (Mem.set_same V b0 (.cells #[uS (Ab []),.slice none 0 0,.slice none 0 0,.slice none 0 0,.slice none 0 0,.slice none 0 0,.slice none 0 0,.slice none 0 0] 30 (0,0)));exact⟨⟨⟨_,O⟩,Mem.set_same _ _ _⟩,s0.trans P,f,_,rfl,O⟩
 refine X.step R ⟨by simp,λs v h=>by cases h⟩ ?_;rintro a1 I vs V1 q p ⟨b0,b3,rfl,C,H,f,c,L,J⟩ u;show Code.wpIn (Au none) 0 xG xlR4 _ a1 I;rw[xlR4_eq];refine wpIn_region_any (by kernel_rfl) ?_;rw[xlR4_size];refine anyR_sound (M:=64) (k0:=6) (N:=70) (deps:=AY) (Pr:=λi v A=>Hy (xO b0 A) i v) (Φ:=λV'=>V.sub V'/\∃d:Ds,IsEx d/\Ds.Ok V' d/\V' b0=some (.cells d.row.toArray 30 (0,0))) (V:=V1) (base:=xlBase b0 b3) (a0:=a1) (w0:=I) xlR4_ok (λi v A B h=>xlQ_mono (xO_sub h) i v) (λs v h=>?_) (by decide)
  (λi G A t val hv=>xlStep C t i G hv) (λA t val hv=>?_) (λD w' V' Z Y W y=>?_) 65 _ _ _ (by simp) ?_ (.inl ⟨V1,Mem.sub.refl _,⟨Nat.le_refl _,u.le,λ_ _ _=>rfl,λ_ h=>.inl h,rfl,rfl⟩,rfl,p,by simp,λi G h=>?_,λi G h=>?_⟩)
 ·grind[xlBase]
 ·obtain⟨d,K,S,T⟩:qD (val 63) (xO b0 A):=hv 63 (by simp[AY]);refine⟨[(0,pv b0),(69,d.v)],λs v h=>?_,s19o64 (a:=some ⟨b0,0,none⟩) (b:=d.name) (c:=d.ts) (d:=d.gs) (g:=d.ps) (i:=d.ms) (j:=d.is) (k:=d.qs) (l:=d.bs) ?_⟩
  ·rw[zc]at h;split at h;·rename_i e;simp only[beq_iff_eq]at e;subst e;cases h;exact .inl rfl
   ·obtain⟨rfl,rfl⟩:=DI h;exact .inr ⟨63,by simp[AY],rfl,K.symm⟩
  ·unfold w19o64;have Q:=t _ _ J;refine As.at_ Q (by simp[L]) ⟨_,rfl,(H.trans t).set f _,d,S,T.sub λx o U=>?_,?_⟩
   ·by_cases e:x=b0;·grind[xO_no]
    ·rw[Mem.set_ne e];exact xO_le _ _ U
   ·rw[Mem.set_same];have:c.toList.drop (0+8)=[]:=List.drop_eq_nil_of_le (by simp[L]);show some (Obj.cells (c.toList.take 0++d.row++c.toList.drop (0+8)).toArray _ _)=_;rw[this];simp
 ·obtain⟨h1,d,m,h3,h4⟩:=W;show Code.wpIn (Au none) 0 xG .ret _ D w';refine wpIn_ret ?_;exact⟨Z.trans q,d.v,results_xl (Y.get rfl) (y.le _ _ h4),V',⟨h1,d,rfl,m,h3⟩,u.trans y⟩
 ·have m:=List.length_filter_le (λi=>!(xd 65 false).getD i true) (zB (64+1));rw[List.length_range]at m;exact m
 ·have hf:(xd 65 false).getD i false=false:=by simp[Array.getD]
  simp_all
 ·have hf:(xd 65 false).getD i false=false:=by simp[Array.getD]
  simp_all
end
end Go.Proofs
