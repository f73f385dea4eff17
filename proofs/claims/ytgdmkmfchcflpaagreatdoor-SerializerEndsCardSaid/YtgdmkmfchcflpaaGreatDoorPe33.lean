/- Part 33: no statement of the seat is proved here. -/
import Derived.Test.YtgdmkmfchcflpaaGreatDoorPe16
import Derived.Test.YtgdmkmfchcflpaaGreatDoorPe25
import Derived.Test.YtgdmkmfchcflpaaGreatDoorPe26
set_option linter.unusedVariables false
set_option linter.unusedSimpArgs false
open Go.Proofs.Tryz renaming prog->xE
open Go.Value renaming int->xw
namespace Go.Proofs
open Go Go.Sx
set_option maxRecDepth 100000
section
variable{V:Mem}{R:RP}
abbrev w5_0(m:Mem)(a:Int)(b:Sl)(c d M F H L:Int)(G:Sl)(R:RP)(j l:Int)(B:Sl)(k o D:Int):Prop:=TT 28 #[] m λe r=>∃N O P Q U W X Y,e=rV (uD N O P Q U W X Y)/\Af [uI 1] 3 r λZ q=>TT 16 #[uA #[uI a,uL b,uI c,uI d],uD N O P Q U W X Y,uA #[.slice (Aa Z 0) 1 1,z0]] q λe p=>∃t v J A I u,e=rT #[uA #[uI t,uL v,uI J,uI A],uI I,uI u]/\TB 30 #[uA #[uI a,uL b,uI c,uI d]] p λC h=>Br (C=true) (TT 31 #[uA #[uI a,uL b,uI c,uI d]] h λe g=>∃z y x i b1,e=rT #[uA #[uI z,uL y,uI x,uI i],uI b1]/\Br (b1=0) (Br (M=0) (Br (F=z) (Br (H=x) (Br (L=i) (TB 19 #[uL G,uL y] g λb2 f=>R (rV (uB b2)) f) (R KQ g)) (R KQ g)) (R KQ g)) (R KQ g)) (R KQ g)) (Br (j=0) (Br (l=0) (Br ((B.n:Int)=0) (Br (F=0) (Br (t=0) (Br (k=1) (Br (o=1) (Br (D=1) (Br (M=1) (R (rV (uB (decide (u=1)))) h) (R KQ h)) (R KQ h)) (R KQ h)) (R KQ h)) (R KQ h)) (R KQ h)) (R KQ h)) (R KQ h)) (R KQ h))
def w5(a:Int)(b:Sl)(c d g:Int):MR:=λV R=>TB 8 #[] V λi V1=>Br (i=true) (Br (3000<(b.n:Int)) (R KX V1) (TT 25 #[uA #[uI a,uL b,uI c,uI d]] V1 λe V2=>∃j k,e=rT #[uI j,uI k]/\TT 26 #[uA #[uI a,uL b,uI c,uI d]] V2 λe f=>∃l o,e=rT #[uI l,uI o]/\TT 28 #[] f λe t=>∃p q r s u y z A,e=rV (uD p q r s u y z A)/\TT 27 #[uA #[uI a,uL b,uI c,uI d],uD p q r s u y z A,uI g] t λe x=>∃B C D,e=rT #[uA #[uL B,uL C],uI D]/\TT 29 #[uA #[uI a,uL b,uI c,uI d]] x λe h=>∃F G H L M,e=rT #[uA #[uI F,uL G,uI H,uI L],uI M]/\(w5_0 h a b c d M F H L G R j l B k o D)/\(w5_0 h a b c d M F H L G R j l B k o D))) (R KQ V1)
theorem x5{a:Int}{b:Sl}{c d g:Int}(h:w5 a b c d g V R):TT 5 #[uA #[uI a,uL b,uI c,uI d],uI g] V R:=Ae Tryz.func5 h
end
end Go.Proofs
namespace Go.Proofs.YtgdmkmfchcflpaaGreatDoor
open Go Go.Sx Go.Proofs Go.ChangeShapes Go.WideShapes Go.ChangeAt Go.RowKit
section
variable{H:Type}{enc:TypeId×Value->H}{w:World}
theorem clBs:xE.cellsOf 34=1:=by kernel_rfl
theorem clDk:xE.cellsOf 36=4:=by kernel_rfl
theorem rdDk{n:Nat}{cs:List Value}{x:DataW H×List MemPlace}(h:TR enc w n 36 cs=some x):∃(k:Dk)(s:Sl),[xw .i64 k.page,s.v,.int .i64 k.syn,.int .i64 k.aft]=cs/\Bt (A3 w) s k.data:=by
 obtain⟨f,m,-,g⟩:=Ej Tryz.underlying36 h;obtain⟨a,b,c,d,rfl⟩:=len4 (f.trans clDk);obtain⟨pg,rfl,-⟩:=gI (at1 (g 0 _ rfl) Fx rfl);obtain⟨s,l,rfl,t⟩:=M2 (at1 (g 1 _ rfl) clBs rfl);obtain⟨u,rfl,-⟩:=gI (at1 (g 2 _ rfl) Fx rfl);obtain⟨z,rfl,-⟩:=gI (at1 (g 3 _ rfl) Fx rfl);exact⟨⟨pg,l,u,z⟩,s,rfl,t⟩
end
theorem disk_of{H:Type}{enc:TypeId×Value->H}{W:World}{v:Value}{u:DataW H}{p:List MemPlace}(h:DataW.Trod enc xE W 0 (λ_=>true) true 36 v u p):∃(k:Dk)(s:Sl),v=k.v s/\Bt (A3 W) s k.data:=by
 obtain⟨f,h⟩:=h;obtain⟨k,s,hm,g⟩:=rdDk h;refine⟨k,s,?_,g⟩;have z:v.cells.toList.length=4:=by rw[<-hm];rfl
 cases v with
 |agg t=>
  have:t.toList=[xw .i64 k.page,s.v,.int .i64 k.syn,.int .i64 k.aft]:=hm.symm;show Value.agg t=.agg ([xw .i64 k.page,s.v,.int .i64 k.syn,.int .i64 k.aft]:List Value).toArray;rw[<-this]
 |_=>simp[Value.cells]at z
end Go.Proofs.YtgdmkmfchcflpaaGreatDoor
namespace Go.Proofs
open Go Go.Sx
attribute [local irreducible] Go.Sx.Tri
section
variable{V:Mem}{d:Ds}{k:Dk}{s l sb:Sl}{ms:List Mm}{b:List Int}{size vn:Int}
theorem c5[hT:Tab V](r:Bt V s k.data):PP 5 [k.v s,.int .i64 vn] V (.bool true):=by
 obtain⟨R,hR⟩:∃R:Ending->Mem->Prop,R=λe V'=>e=.returned (.bool true)/\V.sub V':=⟨_,rfl⟩;refine AP.mk ?_;rw[<-hR];have q:∀{V'},V.sub V'->R (.returned (.bool true)) V':=λh=>by rw[hR];exact⟨rfl,h⟩
 refine x5 ?_;unfold w5;have hbn:=r.n;refine c8.call ⟨_,rfl,λ_=>⟨λ_=>q (Mem.sub.refl _),λh3=>?_⟩,λh=>absurd rfl h⟩;have g:k.data.length<=2147483648:=by omega
 refine(MZ r g).call ⟨_,_,rfl,(Lx r g).call ⟨_,_,rfl,?_⟩⟩;refine Tri.mono Ir ?_;rintro _ V4 ⟨s4,gs,rfl,hd⟩;haveI:Tab V4:=Tab.sub (V:=V) inferInstance s4;refine⟨_,_,_,_,_,_,_,_,rfl,Tri.mono (JL (i:=vn) hd (r.sub s4) g) ?_⟩;rintro _ V5 ⟨s5,m,er,rfl,hmo,hq⟩;have G:=s4.trans s5;refine⟨m.gs,m.ns,er,rfl,Tri.mono (M4 (r.sub G) g) ?_⟩;rintro _ V6 ⟨s6,y⟩;have s46:=G.trans s6;have key:∀(o:Dk)(J:Sl)(N:Int),(if AY k=true then o=CV k/\N=0/\Bt V6 J (CV k).data else o=Ca/\N=1)->TT 28 #[] V6 λe V7=>∃Z Y W Q P O A I,e=rV (uA #[uS Z,uL Y,uL W,uL Q,uL P,uL O,uL A,uL I])/\
   Af [uI 1] 3 V7 λv34 V8=>
   TT 16 #[uA #[uI k.page,uL s,uI k.syn,uI k.aft],uA #[uS Z,uL Y,uL W,uL Q,uL P,uL O,uL A,uL I],uA #[.slice (Aa v34 0) (1:Int).toNat (1:Int).toNat,.slice none 0 0]] V8 λe V9=>∃M v36 v37 v38 v39 F,e=rT #[uA #[uI M,uL v36,uI v37,uI v38],uI v39,uI F]/\
   TT 30 #[uA #[uI k.page,uL s,uI k.syn,uI k.aft]] V9 λe f=>∃L,e=rV (uB L)/\
   Br (L=true)
   (TT 31 #[uA #[uI k.page,uL s,uI k.syn,uI k.aft]] f λe t=>∃X B C D E,e=rT #[uA #[uI X,uL B,uI C,uI D],uI E]/\
   Br (E=0)
   (Br (N=0)
   (Br (o.page=X)
   (Br (o.syn=C)
   (Br (o.aft=D)
   (TT 19 #[uL J,uL B] t λe V12=>∃K,e=rV (uB K)/\
   R (rV (uB K)) V12)
   (R KQ t))
   (R KQ t))
   (R KQ t))
   (R KQ t))
   (R KQ t))
   (Br ((if(Au k).2=0 then((Au k).1.all.length:Int)else 0)=0)
   (Br ((if(Au k).2=0 then((Au k).1.sizes.length:Int)else 0)=0)
   (Br ((m.gs.n:Int)=0)
   (Br (o.page=0)
   (Br (M=0)
   (Br ((Au k).2=1)
   (Br ((Au k).2=1)
   (Br (er=1)
   (Br (N=1)
   (R (rV (uB (decide (F=1)))) f)
   (R KQ f))
   (R KQ f))
   (R KQ f))
   (R KQ f))
   (R KQ f))
   (R KQ f))
   (R KQ f))
   (R KQ f))
   (R KQ f)):=λo J N x=>by
  refine Tri.mono Ir ?_;rintro _ V7 ⟨s7,gs2,rfl,hd2⟩;refine⟨_,_,_,_,_,_,_,_,rfl,λp hp=>?_⟩;have e0:Aa (some (⟨p,0,none⟩:Addr)) 0=some ⟨p,0,none⟩:=by simp[Aa,Addr.add]
  simp only[e0];have s8:=Mem.sub_new hp (.cells #[.int .i64 1] 3 (0,0));have c:=(s46.trans s7).trans s8;haveI:Tab (V7.set p (.cells #[.int .i64 1] 3 (0,0))):=Tab.sub (V:=V) inferInstance c;have hm:Mm.Ok (V7.set p (.cells #[.int .i64 1] 3 (0,0))) (numM ⟨some ⟨p,0,none⟩,1,1⟩ 1):=num_ok (Ad.cells (xs:=[(1:Int)]) (row:=Am) As rfl (λ_=>rfl) rfl (by simp)) ⟨by decide,by decide⟩;refine Tri.mono (GN (hd2.sub s8) (r.sub c) g hm) ?_;rintro _ V9 ⟨s9,t9,rfl,hb9⟩;have j:=c.trans s9;refine⟨_,t9,_,_,_,_,rfl,(FA (r.sub j) g).call ⟨_,rfl,λu=>?_,λu=>?_⟩⟩
  ·have u:AY k=true:=u;rw[if_pos u]at x;obtain⟨rfl,rfl,a⟩:=x;refine Tri.mono (M3 (r.sub j) g) ?_;rintro _ t ⟨S,ho⟩;rw[if_pos u]at ho;obtain⟨t11,rfl,T⟩:=ho;have hq:=Ik (a.sub (((s7.trans s8).trans s9).trans S)) T;rw[decide_eq_true rfl]at hq;exact⟨_,t11,_,_,_,rfl,λ_=>⟨λ_=>⟨λ_=>⟨λ_=>⟨λ_=>hq.call ⟨_,rfl,q (j.trans S)⟩,λh=>absurd rfl h⟩,λh=>absurd rfl h⟩,λh=>absurd rfl h⟩,λh=>absurd rfl h⟩,λh=>absurd rfl h⟩
  ·have u:¬AY k=true:=u;rw[if_neg u]at x;obtain⟨rfl,rfl⟩:=x;have z:(Au k).2=1:=by unfold Au;rw[if_pos (by simpa using u)]
   have hsv:CU (numD gs2) k [numM ⟨some ⟨p,0,none⟩,1,1⟩ 1]=(Ca,0,1):=by unfold CU;rw[if_neg λh=>u h.2.2]
   have hld:er=1/\m.plain=([],[]):=by
    cases hq with
    |arg h=>exact absurd (JO gs) h
    |opn _ _ he hz=>exact⟨he.trans z,hz⟩
    |rng _ h=>rw[z]at h;cases h
    |form _ h=>rw[z]at h;cases h
    |dec _ h=>rw[z]at h;cases h
   obtain⟨rfl,hpl⟩:=hld;have hg:m.globals=[]:=congrArg Prod.fst hpl;have U:=hmo.globals.n_eq;rw[hg]at U;rw[hsv,z];exact⟨λ_=>⟨λ_=>⟨λ_=>⟨λ_=>⟨λ_=>⟨λ_=>⟨λ_=>⟨λ_=>⟨λ_=>q j,λh=>absurd rfl h⟩,λh=>absurd rfl h⟩,λh=>absurd rfl h⟩,λh=>absurd rfl h⟩,λh=>absurd rfl h⟩,λh=>absurd rfl h⟩,λh=>absurd (by rw[U];rfl) h⟩,λh=>absurd (by rw[if_neg (by decide)]) h⟩,λh=>absurd (by rw[if_neg (by decide)]) h⟩
 by_cases u:AY k=true
 ·rw[if_pos u]at y;obtain⟨J,rfl,a⟩:=y;have hk:=key (CV k) J 0 (by rw[if_pos u];exact⟨rfl,rfl,a⟩);exact⟨_,J,_,_,_,rfl,hk,hk⟩
 ·rw[if_neg u]at y;subst y;have hk:=key Ca Ah 1 (by rw[if_neg u];exact⟨rfl,rfl⟩);exact⟨_,Ah,_,_,_,rfl,hk,hk⟩
end
end Go.Proofs
