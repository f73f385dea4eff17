/- Part 32: no statement of the seat is proved here. -/
import Derived.Test.YtejinebghgaigaaGreatDoorPc22
set_option linter.unusedVariables false
set_option linter.unusedSimpArgs false
open Go.Op renaming shift->uZ
open List renaming length->uz,length_map->xi,getElem?_map->y6
namespace Go.Proofs
open Go Go.Sx
def dblL(k:Int)(n:Nat):List (Int×List Int):=(List.range n).map λj=>((0:Int),[k,if j+1=n then 0 else(j:Int)+2])
def dblV(k:Int)(i:Nat):PV:=⟨([1],dblL k (2^i)),if i=0 then[0]else[(i:Int),(i:Int)],((2^i:Nat):Int)⟩
def Dy(k:Int):Nat->List PV
 |0=>[Dd,dblV k 0]
 |i+1=>Dy k i++[dblV k (i+1)]
theorem Jl(k:Int):∀i,(Dy k i).length=i+2
 |0=>rfl
 |i+1=>by rw[Dy,List.length_append,Jl k i];rfl
theorem dbl_at(k:Int):∀i,(Dy k i)[i+1]?=some (dblV k i)
 |0=>rfl
 |i+1=>by rw[Dy,List.getElem?_append_right (by rw[Jl];omega),Jl];simp
theorem push_0{k b:Int}{l:Sl}(g:-1099511627776<=k/\k<=1099511627776):lsDo 100 [Dd] (Im b l k)=(0,0,Dy k 0):=by
 have t:Cb Ct 100 [Dd] (Im b l k)=0:=by
  show Dw Ct 100 [Dd] 0 Il [k]=0;unfold Dw;rw[if_neg (by decide),if_pos (by decide),if_neg (by decide),if_pos (by kernel_rfl)];have u:(Ct.procs[(AC Ct Il).toNat]?)=some FU:=by kernel_rfl
  unfold AQ;rw[if_neg (by decide),u];have hv:Ax Ct (Bl [Dd] 0) FU.params [k]=true:=by
   rw[Cw];refine⟨rfl,λj f v h hv=>?_⟩
   match j,h,hv with
   |0,h,hv=>
    cases h;cases hv;unfold AL;rw[if_pos rfl];exact decide_eq_true g
   |j+1,h,hv=>cases h
  have w:[k].length=FU.params.length:=rfl;show(if[k].length=FU.params.length then(if Ax Ct (Bl [Dd] 0) FU.params [k]=true then 0 else 11)else 3)=(0:Int);rw[if_pos w,if_pos hv]
 have z:(DI (Cr Ct (100:Int).toNat [Dd] (Im b l k)),runV Ct (Cr Ct (100:Int).toNat [Dd] (Im b l k)) [Dd] [0])=(0,Dy k 0):=by kernel_rfl
 unfold lsDo CV;rw[t,if_pos rfl];exact Prod.ext rfl z
theorem dbl_0{k:Int}:lsDo 1000 (Dy k 0) (He 1 1)=(0,0,Dy k 1):=by kernel_rfl
theorem dbl_1{k:Int}:lsDo 1000 (Dy k 1) (He 2 2)=(0,0,Dy k 2):=by kernel_rfl
theorem dbl_2{k:Int}:lsDo 1000 (Dy k 2) (He 3 3)=(0,0,Dy k 3):=by kernel_rfl
theorem dbl_3{k:Int}:lsDo 1000 (Dy k 3) (He 4 4)=(0,0,Dy k 4):=by kernel_rfl
theorem dbl_4{k:Int}:lsDo 1000 (Dy k 4) (He 5 5)=(0,0,Dy k 5):=by kernel_rfl
theorem dbl_5{k:Int}:lsDo 1000 (Dy k 5) (He 6 6)=(0,0,Dy k 6):=by kernel_rfl
theorem dbl_step{k:Int}(j:Nat)(h:j<6):lsDo 1000 (Dy k j) (He ((j:Int)+1) ((j:Int)+1))=(0,0,Dy k (j+1)):=by
 match j,h with
 |0,_=>exact dbl_0
 |1,_=>exact dbl_1
 |2,_=>exact dbl_2
 |3,_=>exact dbl_3
 |4,_=>exact dbl_4
 |5,_=>exact dbl_5
end Go.Proofs
namespace Go.Proofs
open Go Go.Sx
attribute [local irreducible] Go.Sx.Tri
theorem GenK.shl6{V:Mem}{ty:Nat}{vals:Operand->Value}{x y:Operand}{n:Nat}(k:vals x=.int .i64 1)(h:vals y=.int .u8 n)(g:n<=6){q:Value->Mem->Prop}(f:q (.int .i64 ((2^n:Nat):Int)) V):GenK Tryz.prog (.binOp .shl 3 x y 5) ty vals V q:=by
 intro w hw;refine⟨_,w,V,?_,Aw.refl hw,f⟩;unfold execOp
 match n,g,h with
 |0,_,h=>simp[k,h,binOp,uZ,eqGuard];rfl
 |1,_,h=>simp[k,h,binOp,uZ,eqGuard];rfl
 |2,_,h=>simp[k,h,binOp,uZ,eqGuard];rfl
 |3,_,h=>simp[k,h,binOp,uZ,eqGuard];rfl
 |4,_,h=>simp[k,h,binOp,uZ,eqGuard];rfl
 |5,_,h=>simp[k,h,binOp,uZ,eqGuard];rfl
 |6,_,h=>simp[k,h,binOp,uZ,eqGuard];rfl
section
variable{V:Mem}
theorem c3[Tab V]{Q k:Int}(hn0:0<=Q/\Q<=255):PP 3 [.int .u8 Q,.int .i64 k] V (.bool true):=by
 obtain⟨R,hR⟩:∃R:Ending->Mem->Prop,R=λe V'=>e=.returned (.bool true)/\V.sub V':=⟨_,rfl⟩;refine Bf.mk ?_;rw[<-hR];refine x3 ?_;unfold w3;have q:∀{V'},V.sub V'->R (.returned (.bool true)) V':=λh=>by rw[hR];exact⟨rfl,h⟩
 refine c9.call ⟨_,rfl,λ_=>⟨λ_=>q (Mem.sub.refl _),λh6=>⟨λ_=>q (Mem.sub.refl _),λP=>⟨λ_=>q (Mem.sub.refl _),λO=>?_⟩⟩⟩,λh=>absurd rfl h⟩;have h6:¬6<Q:=h6;have P:¬k< -1099511627776:=P;have O:¬1099511627776<k:=O;obtain⟨n,rfl⟩:∃n:Nat,Q=(n:Int):=⟨Q.toNat,by omega⟩;have o:n<=6:=by omega
 have h2n:2^n<=64:=Nat.le_trans (Nat.pow_le_pow_right (by decide) o) (by decide);have h2p:0<2^n:=Nat.pow_pos (by decide);refine Tri.mono c11 ?_;rintro _ V1 ⟨s1,d,rfl,A,hd⟩;haveI:Tab V1:=Tab.sub (V:=V) inferInstance s1;refine⟨_,_,_,_,_,_,_,_,rfl,Tri.mono (Nu hd) ?_⟩;have G0:Ao d (BX d Ai):=by rw[LF A];exact Ao.same ls_good A
 rintro _ V2 ⟨s2,⟨hG,-⟩|⟨G,p,D,v,rfl,hD,hv,hpv,hcl,B⟩⟩;·exact absurd G0 hG
 have A2:=Cs.new G hv hpv hcl B;have e0:(⟨(BX d Ai).plain,[],1⟩:PV)=Dd:=by rw[LF A];rfl
 rw[e0]at A2;refine⟨_,_,rfl,λ_=>⟨λh=>absurd h nn,λ_ b hb=>?_⟩,λh=>absurd rfl h⟩;obtain⟨A3,hD3⟩:=A2.pub hb (.cells #[.int .i64 k] 3 (0,0));have d3:=hD.trans hD3;haveI:Tab (D.set b (.cells #[.int .i64 k] 3 (0,0))):=Tab.sub (V:=V1) inferInstance d3;refine Tri.mono (A3.call (F:=100) (a:=0) (b:=0) (nm:=Il) (l:=⟨some ⟨b,0,none⟩,1,1⟩) (args:=[k]) (hd.sub d3) (.inl (by decide)) (FP k) (by decide)) ?_;intro e V5 hS;obtain⟨D5,a1,a2,a3,h5,A5,rfl⟩:=stepL A (push_0 (by omega)) hS;have d5:=d3.trans h5;refine⟨_,_,_,_,_,_,_,rfl,λ_=>⟨λ_=>⟨λ_=>⟨⟨by omega,by omega⟩,?_⟩,λh=>absurd rfl h⟩,λh=>absurd rfl h⟩,λh=>absurd rfl h⟩;refine⟨λr ys V6=>∃(j:Nat)(D6:Mem),r=n-j/\j<=n/\ys=[.bool false,.int .i64 j]/\D5.sub D6/\Cs D6 V6 p d (Dy k j),n,⟨0,D5,rfl,Nat.zero_le _,rfl,Mem.sub.refl _,A5⟩,?_⟩;rintro r V6 v21 v22 ⟨j,D6,rfl,hj,I,M,A6⟩ J hJ;simp only[List.cons.injEq,and_true]at I;obtain⟨q1,q2⟩:=I;cases inj_b _ _ q1;cases Cu _ _ q2;have d6:=d5.trans M;refine⟨λg=>?_,λX=>?_⟩
 ·have g:(j:Int)<(n:Int):=g;have hI:IR ((j:Int)+1):=⟨by omega,by omega⟩;haveI:Tab D6:=Tab.sub (V:=V1) inferInstance d6;refine⟨hI,hI,Tri.mono (A6.meld (F:=1000) (a:=(j:Int)+1) (b:=(j:Int)+1) (nm:=lsApp) (l:=Ai) (args:=[]) (hd.sub d6) (.inl (by decide)) (by rw[Jl];omega)) ?_⟩;intro e V7 hS;obtain⟨D7,a4,a5,a6,h7,A7,rfl⟩:=stepL A (dbl_step j (by omega)) hS;rw[Jl];exact⟨_,_,_,_,_,_,_,rfl,⟨by omega,by omega⟩,λ_=>⟨λ_=>⟨λ_=>⟨hI,hJ _ _ _ (show n-(j+1)<n-j by omega) ⟨j+1,D7,rfl,by omega,rfl,M.trans h7,A7⟩⟩,λh=>absurd rfl h⟩,λh=>absurd rfl h⟩,λh=>absurd (by omega) h⟩
 ·have X:¬(j:Int)<(n:Int):=X;obtain rfl:j=n:=by omega
  obtain⟨vs,kk,C,H⟩:=A6;obtain⟨W,hDW,hWV,L,S⟩:=H.bs.use;have hvl:vs.length=j+2:=by
   have:=congrArg uz C;rw[xi,Jl]at this;exact this
  have h4:(vs.map Vr.pv)[j+1]?=some (dblV k j):=by rw[C];exact dbl_at k j
  rw[y6,Option.map_eq_some_iff]at h4;obtain⟨x,hx,E⟩:=h4;have hxm:=List.mem_of_getElem? hx;have hm4:x.m.plain=(dblV k j).m:=congrArg PV.m E;have hpt:x.paths=((2^j:Nat):Int):=congrArg PV.paths E;have K:x.m.nodes.map (λn=>(n.ty,n.f))=dblL k (2^j):=(Prod.mk.inj hm4).2;have hnl:x.m.nodes.length=2^j:=by
   have:=congrArg uz K;simpa [dblL]using this
  have hxn:x.m.ns.n=2^j:=by rw[(H.ok x hxm).mem.nodes.n_eq];exact hnl
  have N:IR ((j:Int)):=⟨by omega,by omega⟩;have u:IR ((j:Int)+1):=⟨by omega,by omega⟩;have c:0<=(j:Int)+1/\(j:Int)+1<(vs.length:Int):=by omega
  have Z:((j:Int)+1).toNat=j+1:=by omega
  have e6:=H.bs.sub;refine⟨N,u,Tri.mono (Lw S (v:=(j:Int)+1) (λy hy=>(H.ok y hy).sub e6) H.inv.good) ?_⟩;rintro _ V7 ⟨s7,⟨hno,-⟩|⟨-,y,gs,ns,nd,hy,rfl,Ly⟩⟩;·exact absurd c hno
  rw[Z,hx]at hy;cases hy;have S7:=S.grow s7;have c4:CD 0 vs.length [(j:Int)+1]=0:=by rw[GB,if_pos c]
  have z4:Fi vs ((j:Int)+1)=((2^j:Nat):Int):=by
   unfold Fi;rw[if_pos c,Z,hx];show(x.m.ns.n:Int)=_;rw[hxn]
  have f4:Fj vs ((j:Int)+1)=((2^j:Nat):Int):=by
   unfold Fj;rw[if_pos c,Z,hx];exact hpt
  have cs:=Nr S7 (v:=(j:Int)+1);have ce:=Ns S7 (v:=(j:Int)+1);rw[c4,z4]at cs;rw[c4,f4]at ce;have sV:V.sub V7:=s1.trans (d6.trans (e6.trans s7));have T:=Ly.nodes.rows (row:=Nd.row) (λ_=>rfl) (by decide);have hnn:=T.n_eq;have hndl:nd.length=2^j:=by
   have:=congrArg uz Ly.eq;simp only[xi,AY]at this;omega
  refine⟨_,_,_,rfl,N,u,cs.call ⟨_,_,rfl,N,u,ce.call ⟨_,_,rfl,λ_=>⟨λ_=>GenK.shl6 (n:=j) rfl rfl o ⟨_,rfl,λ_=>⟨λ_=>GenK.shl6 (n:=j) rfl rfl o ⟨_,rfl,λ_=>GenK.shl6 (n:=j) rfl rfl o ⟨_,rfl,λ_=>?_,λh=>absurd (show(ns.n:Int)=((2^j:Nat):Int)by omega) h⟩,λh=>absurd rfl h⟩,λh=>absurd rfl h⟩,λh=>absurd rfl h⟩,λh=>absurd rfl h⟩,λh=>absurd rfl h⟩⟩⟩;refine AR (mk:=.bool) (b0:=false) (2^j) (λi s=>V7.sub s) (Mem.sub.refl _) ?_;rintro i bb s J1 hi w U;refine⟨λg=>?_,λ_=>q (sV.trans w)⟩;have g:(i:Int)<(ns.n:Int):=g;obtain⟨z,hzm,hz,-,hil,hpz,hzz,hrz⟩:=(T.sub w).get (i:=i) (by omega);have hzf:z.f=[k,if i+1=2^j then 0 else(i:Int)+2]:=by
   have h1:(nd.map λn=>(n.ty,n.f))[i]?=some (z.ty,z.f):=by rw[y6,hz];rfl
   rw[Ly.eq]at h1;have h2:(AY x.m).ns=dblL k (2^j):=K;rw[h2]at h1;unfold dblL at h1;rw[y6,List.getElem?_range (by omega)]at h1;exact(congrArg Prod.snd (Option.some.inj h1)).symm
  have zr:=((Ly.fld z hzm).rows (row:=Ak) (λ_=>rfl) (by decide)).sub w;rw[hzf]at zr;refine⟨hpz,hzz,g,_,_,hrz,⟨by omega,by omega⟩,⟨by omega,by omega⟩,λhl tb Y=>?_,λhl tb Y=>?_⟩
  ·have hl:(i:Int)=(ns.n:Int)-1:=hl;have t:=Mem.sub_new Y (.cells #[.int .i64 k,.int .i64 0] 3 (0,0));rw[if_pos (by omega)]at zr;exact(JW (zr.sub t) (Ji (V:=s) (b:=tb) k 0)).call ⟨_,rfl,λ_=>⟨⟨by omega,by omega⟩,U (by omega) _ _ (w.trans t)⟩,λh=>absurd (decide_eq_true rfl) h⟩
  ·have hl:¬(i:Int)=(ns.n:Int)-1:=hl;have t:=Mem.sub_new Y (.cells #[.int .i64 k,.int .i64 ((i:Int)+2)] 3 (0,0));rw[if_neg (by omega)]at zr;exact(JW (zr.sub t) (Ji (V:=s) (b:=tb) k ((i:Int)+2))).call ⟨_,rfl,λ_=>⟨⟨by omega,by omega⟩,U (by omega) _ _ (w.trans t)⟩,λh=>absurd (decide_eq_true rfl) h⟩
end
end Go.Proofs
