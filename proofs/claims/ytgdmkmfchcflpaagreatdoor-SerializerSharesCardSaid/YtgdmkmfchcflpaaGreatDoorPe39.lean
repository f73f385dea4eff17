/- Part 39: no statement of the seat is proved here. -/
import Derived.Test.YtgdmkmfchcflpaaGreatDoorPe24
import Derived.Test.YtgdmkmfchcflpaaGreatDoorPe27
import Derived.Test.YtgdmkmfchcflpaaGreatDoorPe29
set_option linter.unusedVariables false
set_option linter.unusedSimpArgs false
open List renaming mem_cons_self->zb,mem_cons_of_mem->za,append_assoc->zH,length_append->zw,map_append->yP,sum_append->uR,nil_append->vX,length_take->wX
namespace Go.Proofs
open Go Go.Sx
set_option maxRecDepth 100000
section
variable{V:Mem}{R:RP}
theorem PB{a:KB}{b c d g i j k l o p q:Sl}(h:TT 43 #[uD a b c d g i j k,uA #[uL l,uL o]] V λe V1=>∃r s,e=rV (uA #[uL r,uL s])/\TT 43 #[uD a b c d g i j k,uA #[uL p,uL q]] V1 λe V2=>∃u y,e=rV (uA #[uL u,uL y])/\TB 22 #[uA #[uL r,uL s],uA #[uL u,uL y]] V2 λz f=>R (rV (uB z)) f):TT 32 #[uD a b c d g i j k,uA #[uL l,uL o],uA #[uL p,uL q]] V R:=Ae Tryz.func32 h
end
end Go.Proofs
namespace Go.Proofs
open Go Go.Sx
set_option maxRecDepth 100000
section
variable{V:Mem}{R:RP}
def w6(a:KB)(b c d g i j k l:Sl):MR:=λV R=>TB 8 #[] V λo V1=>Br (o=true) (TB 9 #[uD a b c d g i j k,uL l] V1 λp V2=>Br (p=true) (Br (4<(l.n:Int)) (R KX V2) (TB 11 #[uD a b c d g i j k,uL l] V2 λq V3=>Br (q=true) (TL 13 #[uD a b c d g i j k,uL l] V3 λr V4=>TL 13 #[uD a b c d g i j k,uL l] V4 λs V5=>Ap 43 46 41 (uL r) (uL s) V5 λu V6=>TB 14 #[uL u] V6 λy V7=>Br (y=true) (TT 10 #[uI 64,uI (-1)] V7 λe V8=>∃z A B C D,e=rT #[uA #[uI z,uL A,uI B,uI C],uI D]/\TT 12 #[uA #[uI z,uL A,uI B,uI C],uD a b c d g i j k,uL l] V8 λe V9=>∃F G H L M,e=rT #[uA #[uI F,uL G,uI H,uI L],uI M]/\TT 26 #[uA #[uI F,uL G,uI H,uI L]] V9 λe f=>∃N O,e=rT #[uI N,uI O]/\Br (D=0) (Br (M=0) (Br (O=0) (Lp [uI F,uL G,uI H,uI L,uB false,uI 0] f λI n t=>∀P Q U W X Y,I n [uI P,uL Q,uI U,uI W,uB X,uI Y] t->∀J0:LMP,Nx I n J0->Br (Y<(l.n:Int)) (Ix l Y (∃Z v,t.rowp l.p (Y.toNat*2) 2=some [uL Z,uL v]/\TT 17 #[uD a b c d g i j k,uA #[uL Z,uL v]] t λe w=>∃J E,e=rT #[uL J,uI E]/\TT 20 #[uD a b c d g i j k,uL J] w λe h=>∃S T a5,e=rT #[uA #[uL S,uL T],uI a5]/\Br (E=0) (Br (a5=0) (TB 32 #[uD a b c d g i j k,uA #[uL S,uL T],uA #[uL Z,uL v]] h λa6 K=>Br (a6=true) (TT 16 #[uA #[uI P,uL Q,uI U,uI W],uD a b c d g i j k,uA #[uL S,uL T]] K λe m=>∃a7 a8 a9 b0 b1 b2,e=rT #[uA #[uI a7,uL a8,uI a9,uI b0],uI b1,uI b2]/\Br (b2=0) (IR ((l.n:Int)+Y)/\Br (b1=((l.n:Int)+Y)) (IR (Y+1)/\J0 [uI a7,uL a8,uI a9,uI b0,uB X,uI (Y+1)] m) (R KQ m)) (R KQ m)) (R KQ K)) (R KQ h)) (R KQ h))) (TT 26 #[uA #[uI P,uL Q,uI U,uI W]] t λe w=>∃Z v,e=rT #[uI Z,uI v]/\TT 23 #[uD a b c d g i j k,uL l,uI 64] w λe h=>∃J E,e=rT #[uI J,uI E]/\Br (v=0) (Br (Z=N) (Br (E=0) (R (rV (uB (decide (J=N)))) h) (R KQ h)) (R KQ h)) (R KQ h))) (R KQ f)) (R KQ f)) (R KQ f)) (R KX V7)) (R KX V3))) (R KX V2)) (R KQ V1)
theorem x6{a:KB}{b c d g i j k l:Sl}(h:w6 a b c d g i j k l V R):TT 6 #[uD a b c d g i j k,uL l] V R:=DB Tryz.func6 [] [(11,[5])] false (by kernel_rfl) (by kernel_rfl) h
end
end Go.Proofs
namespace Go.Proofs
open Go Go.Sx
attribute [local irreducible] Go.Sx.Tri
theorem dist_old:∀(l C:List (List Int)),(∀c∈l,c∈C)->l.foldl A8 C=C
 |[],_,_=>rfl
 |c::l,C,h=>by
  rw[List.foldl_cons];have:A8 C c=C:=if_pos (h c zb);rw[this];exact dist_old l C λx k=>h x (za _ k)
theorem dist_same{n:Nat}{codes:List (List Int)}:∀(more:List (List Int)),(∀b∈more,b∈codes)->∀base,(∀c∈Aw n codes,c∈Aw n base)->Aw n (base++more)=Aw n base
 |[],_,base,_=>by rw[List.append_nil]
 |b::more,h,base,k=>by
  have e:Aw n (base++[b])=Aw n base:=by
   rw[Hw];exact dist_old _ _ λc g=>k c (Jv (h b zb) g)
  have:=dist_same (n:=n) (codes:=codes) more (λx f=>h x (za _ f)) (base++[b]) (by rw[e];exact k);rw[zH]at this;rw[show b::more=[b]++more from rfl,this,e]
section
variable{V V' D:Mem}{d:Ds}{o u l:Sl}{xs ys:List (List Int)}{ms:List Mm}{page tg:Int}{x y:Mm}
theorem PC(g:Ds.Ok V d)(f:BR d x)(t:BR d y)(z:Mm.Ok V x)(j:Mm.Ok V y)(h:Bx d x=Bx d y):PP 32 [d.v,x.v,y.v] V (.bool true):=by
 refine AP.mk (PB ?_);refine Tri.mono (JU f g z) ?_;rintro _ V1 ⟨k,a,rfl,i,n⟩;refine⟨_,_,rfl,Tri.mono (JU t (g.sub k) (j.sub k)) ?_⟩;rintro _ V2 ⟨w,b,rfl,m,r⟩;have e:a.plain=b.plain:=by rw[H9 f.mem n,H9 t.mem r,h]
 refine⟨_,_,rfl,(c22 (i.sub w) m).call ⟨_,rfl,?_⟩⟩;rw[decide_eq_true e];exact⟨rfl,k.trans w⟩
end
section
variable{V:Mem}{d:Ds}{o l:Sl}{ms:List Mm}{page tg:Int}
theorem c6[hT:Tab V](Q:Ds.Ok V d)(W:CT V l ms):PP 6 [d.v,l.v] V (.bool true):=by
 obtain⟨R,hR⟩:∃R:Ending->Mem->Prop,R=λe V'=>e=.returned (.bool true)/\V.sub V':=⟨_,rfl⟩;refine AP.mk ?_;rw[<-hR];have r:∀{V'},V.sub V'->R (.returned (.bool true)) V':=λh=>by rw[hR];exact⟨rfl,h⟩
 refine x6 ?_;unfold w6;refine c8.call ⟨_,rfl,λ_=>?_,λh=>absurd rfl h⟩;refine Tri.mono (c9 Q W) ?_;rintro _ V2 ⟨rfl,bf,rfl,h8⟩;have hln:=W.rows.n_eq;refine⟨bf,rfl,λhbf=>⟨λ_=>r (Mem.sub.refl _),λh4=>?_⟩,λ_=>r (Mem.sub.refl _)⟩;refine(c11 Q W).call ⟨_,rfl,λb=>?_,λ_=>r (Mem.sub.refl _)⟩;have b:(decide (AL d)&&Cr d ms)=true:=b;rw[Bool.and_eq_true]at b;have P:AL d:=of_decide_eq_true b.1;have L:=b.2;have a:=EU.1 L;have hG:∀m∈ms,BR d m:=λm hm=>⟨P.1,P.2,a m hm⟩;refine codes2 (gvf:=λs t=>gv [(43,uL s),(46,uL t)]) Q W P L (by omega) (λ_ _=>rfl) (λ_ _=>rfl) λo V6 B C=>⟨o,rfl,?_⟩;obtain⟨codes,g⟩:∃codes,codes=ms.map (Ai d):=⟨_,rfl⟩;have hcl:codes.length=ms.length:=by rw[g,List.length_map]
 rw[<-g]at C;have hRm:=Ly C (by rw[zw];omega) λx E=>by
  rw[List.mem_append,or_self,g]at E;obtain⟨m,hm,rfl⟩:=List.mem_map.1 E;exact Gb (hG m hm)
 refine hRm.call ⟨_,rfl,λz=>?_,λ_=>r B⟩;have z:roomP (codes++codes)=true:=z;obtain⟨hrm1,hrm2⟩:=JX z;have hf:=JB (V:=V6) (page:=64) (aft:=-1);rw[if_pos (by decide)]at hf;have A0:AX (By 64 (-1)) []:=JA (by decide) (by decide) (by decide) (by decide);haveI:Tab V6:=Tab.sub (V:=V) inferInstance B;refine hf.call ⟨64,Ah,0,-1,0,rfl,?_⟩;refine Tri.mono (JY (k:=By 64 (-1)) (s:=Ah) (Q.sub B) Bt.nil (by simp[By]) (W.sub B)) ?_;rintro _ V9 ⟨s9,t9,rfl,O⟩;rw[FH P a A0.ok,<-g]at O⊢;rw[yP,uR,zw]at*
 obtain⟨k1,hk1,A1,C1,I,ha1⟩:=A0.adds0 (l:=codes) JP (by decide) (by rw[vX];omega) (by rw[vX];omega) rfl;rw[vX]at A1;rw[hk1]at O⊢;have I:k1.page=64:=I;have s69:=B.trans s9;have K:∀{k:Dk}{s:Sl}{cs:List (List Int)}{V':Mem},AX k cs->Bt V' s k.data->k.page=64->PP 26 [k.v s] V' (.tuple #[.int .i64 ((Aw 64 cs).length:Nat),.int .i64 0]):=λ{k s cs V'} A hb hp=>by
  have hlk:=(BF A.ok).2.2.1;have h:=Lx hb (by omega);have ho:(Au k).2=0:=by rw[A.opn]
  have hsl:(Au k).1.sizes.length=(Aw 64 cs).length:=by rw[A.opn,hp];simp[AZ]
  rw[if_pos ho,ho,hsl]at h;exact h
 refine⟨_,t9,_,_,_,rfl,(K A1 O I).call ⟨_,_,rfl,λ_=>⟨λ_=>⟨λ_=>?_,λh=>absurd rfl h⟩,λh=>absurd rfl h⟩,λh=>absurd rfl h⟩⟩;refine⟨λmm xs H=>∃(i:Nat)(k:Dk)(s:Sl)(q:Nat),mm=ms.length-i/\i<=ms.length/\xs=[.int .i64 k.page,.slice s.p s.n s.c,.int .i64 k.syn,.int .i64 k.aft,.bool false,.int .i64 i]/\V.sub H/\Bt H s k.data/\AX k (codes++codes.take i)/\q<=i+1/\DI k q/\k.aft=-1/\k.page=64,ms.length,
  ⟨0,k1,t9,_,rfl,Nat.zero_le _,rfl,s69,O,by simpa using A1,Nat.le_refl _,C1,ha1,I⟩,?_⟩
 rintro mm H v28 v29 v30 v31 v32 v33 ⟨i,k,s,q,rfl,hi,S,f,M,N,hq,C11,T,F⟩ J hJ;simp only[List.cons.injEq,and_true]at S;obtain⟨q1,q2,q3,q4,q5,q6⟩:=S;cases Ax _ _ q1;cases AG _ _ q2;cases Ax _ _ q3;cases Ax _ _ q4;cases q5;cases Ax _ _ q6;haveI:Tab H:=Tab.sub (V:=V) inferInstance f;have hl11:=(BF N.ok).2.2.1;refine⟨λX=>?_,λhge=>?_⟩
 ·obtain⟨m,hm,hmi,-,hil,hp,hz,U⟩:=(W.rows.sub f).get X;have G:=hG m hm;have hcl2:=Gb G;refine⟨hp,hz,X,m.gs,m.ns,U,Tri.mono (M0 (Q.sub f) ((W.ok m hm).sub f)) ?_⟩;rintro _ V12 ⟨s12,h12⟩;rw[if_pos ⟨P,a m hm⟩]at h12;obtain⟨sc,rfl,hbc⟩:=h12;have Z:=f.trans s12;haveI:Tab V12:=Tab.sub (V:=V) inferInstance Z;refine⟨sc,0,rfl,Tri.mono (Lf (Q.sub Z) hbc (by omega)) ?_⟩;rintro _ V13 ⟨s13,x,er,rfl,E,hdq⟩;obtain⟨rfl,hxp,hxv,hxc⟩:=Lh G hdq;have Gx:BR d x:=⟨P.1,P.2,hxv⟩;have w:=Z.trans s13;have hSm:=PC (Q.sub w) Gx G E ((W.ok m hm).sub w) (by rw[hxc,hxp]);haveI:Tab V13:=Tab.sub (V:=V) inferInstance w;refine⟨x.gs,x.ns,0,rfl,λ_=>⟨λ_=>hSm.call ⟨_,rfl,λ_=>?_,λh=>absurd rfl h⟩,λh=>absurd rfl h⟩,λh=>absurd rfl h⟩;refine Tri.mono (GN (k:=k) (Q.sub w) (M.sub (s12.trans s13)) (by omega) E) ?_;rintro _ V15 ⟨s15,t15,rfl,j⟩;have hcx:Ai d x=Ai d m:=by unfold Ai;rw[hxc,hxp]
  have hci:codes[i]?=some (Ai d m):=by rw[g,List.getElem?_map,hmi];rfl
  have Y:codes++codes.take i++[Ai d m]=codes++codes.take (i+1):=by rw[List.take_add_one,hci,zH];rfl
  rw[FH P (λy hy=>by rw[List.mem_singleton.1 hy];exact hxv) N.ok]at j⊢;have hmap:[x].map (Ai d)=[Ai d m]:=by rw[List.map_cons,hcx];rfl
  rw[hmap]at j⊢;have hsum:=GO codes (i+1);obtain⟨k2,hk2,A2,C2,hp2,ha2⟩:=N.adds0 (l:=[Ai d m]) C11 (by omega) (by rw[Y,yP,uR];omega) (by rw[Y,zw,wX];omega) T;rw[hk2]at j⊢;rw[Y]at A2;refine⟨_,t15,_,_,_,_,rfl,λ_=>⟨⟨by omega,by omega⟩,λ_=>⟨W.rows.succ X,hJ _ _ _ (show ms.length-(i+1)<ms.length-i by omega) ⟨i+1,k2,t15,_,rfl,hil,rfl,w.trans s15,j,A2,by omega,C2,ha2,hp2.trans F⟩⟩,λh=>absurd ?_ h⟩,λh=>absurd rfl h⟩;show((codes++codes.take i).length:Int)=(l.n:Int)+(i:Int);rw[zw,wX];omega
 ·have hie:codes.take i=codes:=List.take_of_length_le (by omega);rw[hie]at N;have hds:Aw 64 (codes++codes)=Aw 64 codes:=dist_same (codes:=codes) codes (λ_ h=>h) codes λ_ h=>h;have hS:=K N M F;rw[hds]at hS;have hD:=M1 (size:=64) (Q.sub f) (W.sub f);rw[if_pos ⟨P,L⟩,if_neg (by decide),<-g]at hD;refine hS.call ⟨_,_,rfl,hD.call ⟨_,_,rfl,λ_=>⟨λ_=>⟨λ_=>?_,λh=>absurd rfl h⟩,λh=>absurd rfl h⟩,λh=>absurd rfl h⟩⟩;show R (.returned (.bool (decide (((Aw 64 codes).length:Int)=((Aw 64 codes).length:Int))))) H;rw[decide_eq_true rfl];exact r f
end
end Go.Proofs
