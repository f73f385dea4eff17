/- Part 12: no statement of the seat is proved here. -/
import Derived.Test.YtkebnkjegieagaaGreatDoorPq11
set_option linter.unusedVariables false
set_option linter.unusedSimpArgs false
open Go.Proofs.Tryz renaming prog->xV,f19->tH
open List renaming range->zC,map->tG,mem_singleton->zZ,mem_cons->zJ,not_mem_nil->xT
open Eq renaming mp->tF
open Go.IntKind renaming i64->ye
open Array renaming replicate->wM
namespace Go.Proofs
open Go Go.Sx
attribute [local irreducible] Go.Sx.Tri
set_option maxRecDepth 100000
def Ek(i:Nat)(slots:List (Nat×T))(ρ:XV)(R:Value->Mem->Prop)(V:Mem):Prop:=
 DT xV {} (λe V'=>∃vs:XV,e=.returned (.tuple vs.toArray)/\∃v,vs=[v]/\R v V') (segOT xV fs {keep:=zC 70,N:=70} c19o0 i 1 slots ρ.length [6+i]) [] ρ V
def FP(v:Value)(R:Value->Mem->Prop)(V:Mem):Prop:=∃vs:XV,Ending.returned (.tuple #[v])=.returned (.tuple vs.toArray)/\∃w,vs=[w]/\R w V
def xlPub(cs:XV)(t n:Nat)(R:Value->Mem->Prop)(V:Mem):Prop:=∀b,V b=none->FP (.slice (sa b) n n) R (V.set b (.cells cs.toArray t (0,0)))
theorem Hw{v:Value}{R:Value->Mem->Prop}{V:Mem}(h:R v V):FP v R V:=⟨[v],rfl,v,rfl,h⟩
abbrev FQ(b n:Nat):Sl:=⟨some ⟨b,0,none⟩,n,n⟩
def tE(k:Nat):T:=.agg (.cons (.var (.i .i64) k) (.cons (.var (.i .i64) (k+1)) (.cons (.var .s (k+2)) (.cons (.var .sl (k+3)) .nil))))
def tS(k:Nat):T:=.agg (.cons (.var (.i .i64) k) (.cons (.var .s (k+1)) (.cons (.var .sl (k+2)) (.cons (.var .sl (k+3)) (.cons (.var .sl (k+4)) .nil)))))
def t2(a c:K)(k:Nat):T:=.agg (.cons (.var a k) (.cons (.var c (k+1)) .nil))
section
variable{V V1:Mem}{b0 b3 i:Nat}{val:Nat->Value}
theorem xlRun{ins:List (Nat×Value)}{slots:List (Nat×T)}{ρ:XV}(g:∀s v,ins.lookup s=some v->(xlBase b0 b3).lookup s=some v∨∃j∈BY i,s=6+j/\v=val j)(k:ins=slots.map λx=>(x.1,x.2.ev ρ id))
  (h:Ek i slots ρ (λv V2=>V1.sub V2/\BZ (xO b0 V2) i v) V1):D8 i b0 b3 V1 val:=⟨ins,g,ND (H:={N:=0,keep:=zC 70}) II rfl ρ rfl k rfl h⟩
theorem xlUse{slots:List (Nat×T)}{ρ:XV}(eq:(slots.map λx=>(x.1,x.2.ev ρ id))=(BY i).map λj=>(6+j,val j))(h:Ek i slots ρ (λv V2=>V1.sub V2/\BZ (xO b0 V2) i v) V1):D8 i b0 b3 V1 val:=
 xlRun (λs v h=>.inr (xlIns (by rw[<-eq];exact h))) rfl h
theorem Hy{slots:List (Nat×T)}{ρ:XV}{x:Value}(eq:(slots.map λx=>(x.1,x.2.ev ρ id))=(BY i).map λj=>(6+j,val j))(k:∀R V,FP x R V=Ek i slots ρ R V)(h:BZ (xO b0 V1) i x):D8 i b0 b3 V1 val:=
 xlUse eq (tF (k _ _) (Hw ⟨Mem.sub.refl _,h⟩))
theorem Gk{slots:List (Nat×T)}{ρ cs:XV}{t n:Nat}(eq:(slots.map λx=>(x.1,x.2.ev ρ id))=(BY i).map λj=>(6+j,val j))(g:∀R V,xlPub cs t n R V=Ek i slots ρ R V)(h:∀b,V1 b=none->BZ (xO b0 (V1.set b (.cells cs.toArray t (0,0)))) i (.slice (sa b) n n)):D8 i b0 b3 V1 val:=
 xlUse eq (tF (g _ _) λb k=>Hw ⟨Mem.sub_new k _,h b k⟩)
theorem GW(x:Value)(k:∀A,BZ A i x)(g:∀R V,FP x R V=Ek i [] [] R V:=by intros;kernel_rfl):D8 i b0 b3 V1 val:=
 xlRun (ins:=[]) (λ_ _ h=>xlIn0 h) rfl (tF (g _ _) (Hw ⟨Mem.sub.refl _,k _⟩))
theorem FS(k:Nat)(x:Value)(g:(xlBase b0 b3).lookup k=some x)(t:∀A,BZ A i x)(hi:[(k,x)]=[(k,T.var .f 0)].map λy=>(y.1,y.2.ev [x] id):=by rfl)(u:∀R V,FP x R V=Ek i [(k,T.var .f 0)] [x] R V:=by intros;kernel_rfl):D8 i b0 b3 V1 val:=
 xlRun (λs v h=>.inl (by obtain⟨rfl,rfl⟩:=xlIn1 h;exact g)) hi (tF (u _ _) (Hw ⟨Mem.sub.refl _,t _⟩))
theorem xlLf{op n:Int}{s:KB}{A:Mem}(h:ye.min<=op/\op<=ye.max:=by decide)(k:ye.min<=n/\n<=ye.max:=by decide):qE (nE op n s Je) (E.mk op n s Ah []).v A:=⟨_,rfl,⟨_,_,rfl,rfl⟩,xLeaf h k⟩
theorem KO(hv:∀j∈BY i,BZ (xO b0 V1) j (val j))(op:Int)(s:KB)(j:Nat){Q:XY->Prop}(k:BY i=[j]:=by rfl)(g:∀A v,BZ A j v=qL Q v A:=by intros;rfl)(hi:∀A v,BZ A i v=qS (nS op s Q) v A:=by intros;rfl)(f:ye.min<=op/\op<=ye.max:=by decide)
  (t:∀(l:Sl) R V,FP (.agg #[uI op,uS s,uL l,z0,z0]) R V=Ek i [(6+j,.var .sl 0)] [uL l] R V:=by intros;kernel_rfl):D8 i b0 b3 V1 val:=by
 obtain⟨l,es,u,w,z,y⟩:=tF (g _ _) (hv j (by rw[k];simp));exact Hy (by rw[k];simp only[tG,u]<;>rfl) (t l) (by rw[hi];exact⟨op,s,l,es,rfl,⟨_,_,w,rfl⟩,.mk z y xEmp (λ_ h=>by simp at h) xEmp (λ_ h=>by simp at h) f⟩)
theorem Jk(hv:∀j∈BY i,BZ (xO b0 V1) j (val j))(op:Int)(s:KB)(j:Nat){Q:XY->Prop}(h:BY i=[j]:=by rfl)(k:∀A v,BZ A j v=qL Q v A:=by intros;rfl)(hi:∀A v,BZ A i v=qE (nE op 0 s Q) v A:=by intros;rfl)(g:ye.min<=op/\op<=ye.max:=by decide)
  (f:∀(l:Sl) R V,FP (.agg #[uI op,uI 0,uS s,uL l]) R V=Ek i [(6+j,.var .sl 0)] [uL l] R V:=by intros;kernel_rfl):D8 i b0 b3 V1 val:=by
 obtain⟨l,es,t,u,w,z⟩:=tF (k _ _) (hv j (by rw[h];simp));exact Hy (by rw[h];simp only[tG,t]<;>rfl) (f l) (by rw[hi];exact⟨.mk op 0 s l es,rfl,⟨_,_,u,rfl⟩,.mk w z g (by decide)⟩)
theorem xlK1(hv:∀j∈BY i,BZ (xO b0 V1) j (val j))(s:KB)(j:Nat)(h:BY i=[j]:=by rfl)(k:∀A v,BZ A j v=(v=D7):=by intros;rfl)(hi:∀A v,BZ A i v=qE (xN s) v A:=by intros;rfl)
  (g:∀R V,CallvT xV false (λ_ _=>True) D7 [uS s] [.agg [.i .i64,.i .i64,.s,.sl]] V (λvs V'=>FP (.agg vs.toArray) R V')=Ek i [(6+j,.var .f 0)] [D7] R V:=by intros;kernel_rfl):D8 i b0 b3 V1 val:=by
 have t:=tF (k _ _) (hv j (by rw[h];simp));refine xlUse (by rw[h];simp only[tG,t]<;>rfl) (tF (g _ _) ?_);exact⟨37,#[],#[],rfl,Tryz.call37,(Ou (s:=s)).callv (first:=[]) (caps:=[]) ⟨_,_,_,_,rfl,Hw ⟨Mem.sub.refl _,by rw[hi];exact xlLf⟩⟩⟩
variable(hB:KN V b0 b3)(hs:V.sub V1)
include hB hs
theorem KR(k:∀A,BZ A i (E.mk 4 0 C3 Ah []).v)(g:∀p R V,(M6 (V.rowp p 0 4) [.i .i64,.i .i64,.s,.sl] λvs=>FP (.agg vs.toArray) R V)=Ek i [(3,.var .p 0)] [.pointer p] R V:=by intros;kernel_rfl):D8 i b0 b3 V1 val:=
 xlRun (ins:=[(3,pv b3)]) (λs v h=>.inl (by obtain⟨rfl,rfl⟩:=xlIn1 h;rfl)) rfl (tF (g _ _ _) ⟨_,_,_,_,Aj (hs _ _ hB.this) 0 4 (by simp[E.row]),Hw ⟨Mem.sub.refl _,k _⟩⟩)
theorem FT{α:Type}{row:α->XV}{sz t n b:Nat}{cs:XV}{xs:List α}(k:V1 b=none)(g:xs.length=n:=by rfl)(h:cs=xs.flatMap row:=by rfl)(hc:∀x,(row x).length=sz:=by intros;rfl)(f:n<=4:=by decide):Ae (xO b0 (V1.set b (.cells cs.toArray t (0,0)))) (FQ b n) sz (xs.map row):=by
 subst g h;exact Ae.cells (xs:=xs) (row:=row) (xO_at hB hs k _) rfl hc rfl (by omega)
variable(hv:∀j∈BY i,BZ (xO b0 V1) j (val j))
include hv
theorem xlF1(j:Nat)(f:Fld)(h:BY i=[j]:=by rfl)(k:∀A v,BZ A j v=(v=.agg #[uS f.name,uS f.ty]):=by intros;rfl)(hi:∀A v,BZ A i v=qF [f] v A:=by intros;rfl)(g:∀R V,xlPub (Fld.row f) 97 1 R V=Ek i [(6+j,t2 .s .s 0)] (Fld.row f) R V:=by intros;kernel_rfl):D8 i b0 b3 V1 val:=by
 have t:=tF (k _ _) (hv j (by rw[h];simp));exact Gk (by rw[h];simp only[tG,t]<;>rfl) g λb u=>by rw[hi];exact⟨FQ b 1,rfl,FT hB hs u⟩
theorem xlE1(j:Nat){P:E->Prop}(h:BY i=[j]:=by rfl)(g:∀A v,BZ A j v=qE P v A:=by intros;rfl)(hi:∀A v,BZ A i v=qL (GU P) v A:=by intros;rfl)(f:∀(e:E) R V,xlPub e.row 93 1 R V=Ek i [(6+j,tE 0)] e.row R V:=by intros;kernel_rfl):D8 i b0 b3 V1 val:=by
 obtain⟨e,t,u,w⟩:=tF (g _ _) (hv j (by rw[h];simp));exact Gk (by rw[h];simp only[tG,t]<;>rfl) (f e) λb k=>by rw[hi];exact⟨FQ b 1,[e],rfl,⟨e,u,rfl⟩,FT hB hs k,λx z=>by rw[zZ.1 z];exact w.sub (EU k _)⟩
theorem xlE2(j k:Nat){P Q:E->Prop}(h:BY i=[j,k]:=by rfl)(u:∀A v,BZ A j v=qE P v A:=by intros;rfl)(w:∀A v,BZ A k v=qE Q v A:=by intros;rfl)(hi:∀A v,BZ A i v=qL (EC P Q) v A:=by intros;rfl)
  (z:∀(e f:E) R V,xlPub (e.row++f.row) 93 2 R V=Ek i [(6+j,tE 0),(6+k,tE 4)] (e.row++f.row) R V:=by intros;kernel_rfl):D8 i b0 b3 V1 val:=by
 obtain⟨e,y,l,n⟩:=tF (u _ _) (hv j (by rw[h];simp));obtain⟨f,m,f2,f3⟩:=tF (w _ _) (hv k (by rw[h];simp));exact Gk (by rw[h];simp only[tG,y,m]<;>rfl) (z e f) λb g=>by
  rw[hi];exact⟨FQ b 2,[e,f],rfl,⟨e,f,l,f2,rfl⟩,FT hB hs g,λx t=>by
   rcases zJ.1 t with rfl|t;.exact n.sub (EU g _)
   .rw[zZ.1 t];exact f3.sub (EU g _)⟩
theorem xlK2(s:KB)(f j:Nat){P:E->Prop}(h:BY i=[f,j]:=by rfl)(g:∀A v,BZ A f v=(v=xfF):=by intros;rfl)(t:∀A v,BZ A j v=qE P v A:=by intros;rfl)(hi:∀A v,BZ A i v=qE (xF P s) v A:=by intros;rfl)
  (u:∀(e:E) R V,CallvT xV false (λ_ _=>True) xfF [e.v,uS s] [.agg [.i .i64,.i .i64,.s,.sl]] V (λvs V'=>FP (.agg vs.toArray) R V')=Ek i [(6+f,.var .f 0),(6+j,tE 1)] (xfF::e.row) R V:=by intros;kernel_rfl):D8 i b0 b3 V1 val:=by
 have w:=tF (g _ _) (hv f (by rw[h];simp));obtain⟨e,z,y,l⟩:=tF (t _ _) (hv j (by rw[h];simp));refine xlUse (by rw[h];simp only[tG,w,z]<;>rfl) (tF (u e _ _) ?_);refine⟨38,#[],#[],rfl,Tryz.call38,O2 ?_⟩;intro b k;exact⟨_,_,_,_,rfl,Hw ⟨Mem.sub_new k _,by rw[hi];exact⟨.mk 5 0 s ⟨some ⟨b,0,none⟩,1,1⟩ [e],rfl,⟨_,_,⟨e,y,rfl⟩,rfl⟩,.mk (FT hB hs k) (λx n=>by rw[zZ.1 n];exact l.sub (EU k _)) (by decide) (by decide)⟩⟩⟩
end
section
variable{V V1:Mem}{b0 b3:Nat}{val:Nat->Value}
theorem xlStep(hB:KN V b0 b3)(hs:V.sub V1):∀i,i<64->(∀j∈BY i,BZ (xO b0 V1) j (val j))->D8 i b0 b3 V1 val
 |0,_,hv=>GW (.agg #[uS Ci,uS Ak]) λ_=>rfl
 |1,_,hv=>GW (.agg #[uS Fm,uS A3]) λ_=>rfl
 |2,_,hv=>by
  have B:val 0=_:=hv 0 (by decide);have C:val 1=_:=hv 1 (by decide);exact Gk (slots:=[(6,t2 .s .s 0),(7,t2 .s .s 2)]) (ρ:=xTF.flatMap Fld.row) (by simp only[BY,tG,B,C]<;>rfl) (cs:=xTF.flatMap Fld.row) (t:=97) (n:=2) (by intros;kernel_rfl) λb g=>⟨FQ b 2,rfl,FT hB hs g⟩
 |3,_,hv=>by
  obtain⟨l,a,H⟩:=hv 2 (by decide);exact Hy (slots:=[(8,.var .sl 0)]) (ρ:=[uL l]) (by simp only[BY,tG,a]<;>rfl) (x:=.agg #[uS A3,uL l]) (by intros;kernel_rfl) ⟨l,rfl,H⟩
 |4,_,hv=>by
  obtain⟨l,a,H⟩:=hv 3 (by decide);exact Gk (slots:=[(9,t2 .s .sl 0)]) (ρ:=[uS A3,uL l]) (by simp only[BY,tG,a]<;>rfl) (cs:=[uS A3,uL l]) (t:=99) (n:=1) (by intros;kernel_rfl) λb g=>⟨FQ b 1,l,rfl,FT hB hs g,H.sub (EU g _)⟩
 |5,_,hv=>GW (.agg #[uS DR,uS A3]) λ_=>rfl
 |6,_,hv=>xlF1 hB hs hv 5 ⟨DR,A3⟩
 |7,_,hv=>GW (.agg #[uS Ci,uS Ak]) λ_=>rfl
 |8,_,hv=>xlF1 hB hs hv 7 ⟨Ci,Ak⟩
 |9,_,hv=>GW (.agg #[uS CB,uS A3]) λ_=>rfl
 |10,_,hv=>xlF1 hB hs hv 9 ⟨CB,A3⟩
 |11,_,hv=>GW (E.mk 6 0 A3 Ah []).v λ_=>xlLf
 |12,_,hv=>xlE1 hB hs hv 11
 |13,_,hv=>KO hv 1 CB 12
 |14,_,hv=>FS 1 D7 rfl λ_=>rfl
 |15,_,hv=>xlK1 hv CB 14
 |16,_,hv=>FS 1 D7 rfl λ_=>rfl
 |17,_,hv=>xlK1 hv Ci 16
 |18,_,hv=>xlE2 hB hs hv 15 17
 |19,_,hv=>KO hv 2 Ci 18
 |20,_,hv=>FS 1 D7 rfl λ_=>rfl
 |21,_,hv=>xlK1 hv CB 20
 |22,_,hv=>FS 1 D7 rfl λ_=>rfl
 |23,_,hv=>xlK1 hv DR 22
 |24,_,hv=>xlE2 hB hs hv 21 23
 |25,_,hv=>KO hv 2 Fm 24
 |26,_,hv=>FS 1 D7 rfl λ_=>rfl
 |27,_,hv=>xlK1 hv CB 26
 |28,_,hv=>xlE1 hB hs hv 27
 |29,_,hv=>KO hv 1 DR 28
 |30,_,hv=>by
  obtain⟨J,G,N,z,p0,q0,D⟩:=hv 13 (by decide);obtain⟨Z,Y,W,y,p1,K,T⟩:=hv 19 (by decide);obtain⟨Q,P,O,r,A,U,r2⟩:=hv 25 (by decide);obtain⟨I,M,F,o,p3,q3,r3⟩:=hv 29 (by decide);exact Gk (slots:=[(19,tS 0),(25,tS 5),(31,tS 10),(35,tS 15)]) (ρ:=[S.mk J G N z Ah [] Ah [],S.mk Z Y W y Ah [] Ah [],S.mk Q P O r Ah [] Ah [],S.mk I M F o Ah [] Ah []].flatMap S.row) (by simp only[BY,tG,p0,p1,A,p3]<;>rfl) (cs:=[S.mk J G N z Ah [] Ah [],S.mk Z Y W y Ah [] Ah [],S.mk Q P O r Ah [] Ah [],S.mk I M F o Ah [] Ah []].flatMap S.row) (t:=101) (n:=4) (by intros;kernel_rfl) λb g=>⟨FQ b 4,[S.mk J G N z Ah [] Ah [],S.mk Z Y W y Ah [] Ah [],S.mk Q P O r Ah [] Ah [],S.mk I M F o Ah [] Ah []],rfl,⟨_,_,_,_,q0,K,U,q3,rfl⟩,FT hB hs g (hc:=λx=>by cases x;rfl),λx X=>by
   simp only[zJ,xT,or_false]at X;rcases X with rfl|rfl|rfl|rfl;.exact D.sub (EU g _)
   .exact T.sub (EU g _)
   .exact r2.sub (EU g _)
   .exact r3.sub (EU g _)⟩
 |31,_,hv=>by
  obtain⟨l,a,H⟩:=hv 8 (by decide);obtain⟨m,L,R⟩:=hv 10 (by decide);obtain⟨k,ss,k1,k2,k3,k4⟩:=hv 30 (by decide);exact Hy (slots:=[(14,.var .sl 0),(16,.var .sl 1),(36,.var .sl 2)]) (ρ:=[uL l,uL m,uL k]) (by simp only[BY,tG,a,L,k1]<;>rfl) (x:=.agg #[uS Bm,uL l,uS sE,uL m,uL k]) (by intros;kernel_rfl) ⟨⟨Bm,l,[⟨Ci,Ak⟩],sE,m,[⟨CB,A3⟩],k,ss⟩,rfl,⟨_,_,_,_,k2,rfl⟩,⟨H,R,k3,k4⟩⟩
 |32,_,hv=>by
  obtain⟨p,f,u,w⟩:=hv 31 (by decide);exact Gk (slots:=[(37,.agg (.cons (.var .s 0) (.cons (.var .sl 1) (.cons (.var .s 2) (.cons (.var .sl 3) (.cons (.var .sl 4) .nil))))))]) (ρ:=p.row) (by simp only[BY,tG,f]<;>rfl) (cs:=p.row) (t:=72) (n:=1) (by intros;kernel_rfl) λb g=>⟨FQ b 1,p,rfl,u,FT hB hs g,xpr_sub (EU g _) w⟩
 |33,_,hv=>GW (E.mk 1 1 sE Ah []).v λ_=>xlLf
 |34,_,hv=>FS 2 xfF rfl λ_=>rfl
 |35,_,hv=>KR hB hs λ_=>xlLf
 |36,_,hv=>xlK2 hB hs hv Fm 34 35
 |37,_,hv=>xlE1 hB hs hv 36
 |38,_,hv=>Jk hv 7 ET 37
 |39,_,hv=>xlE2 hB hs hv 33 38
 |40,_,hv=>Jk hv 9 sE 39
 |41,_,hv=>by
  obtain⟨e,f,u,w⟩:=hv 40 (by decide);exact Hy (slots:=[(46,tE 0)]) (ρ:=e.row) (by simp only[BY,tG,f]<;>rfl) (x:=.agg #[uS ET,uS A3,uI 0,uI e.op,uI e.n,uS e.s,uL e.l]) (by intros;kernel_rfl) ⟨e,rfl,u,w⟩
 |42,_,hv=>by
  obtain⟨e,f,u,w⟩:=hv 41 (by decide);exact Gk (slots:=[(47,.agg (.cons (.var .s 0) (.cons (.var .s 1) (.cons (.var (.i .i64) 2) (.cons (.var (.i .i64) 3) (.cons (.var (.i .i64) 4) (.cons (.var .s 5) (.cons (.var .sl 6) .nil))))))))]) (ρ:=Ms.row ⟨ET,A3,0,e⟩) (by simp only[BY,tG,f]<;>rfl) (cs:=Ms.row ⟨ET,A3,0,e⟩) (t:=103) (n:=1) (by intros;kernel_rfl) λb g=>⟨FQ b 1,e,rfl,u,FT hB hs g,w.sub (EU g _)⟩
 |43,_,hv=>FS 2 xfF rfl λ_=>rfl
 |44,_,hv=>KR hB hs λ_=>xlLf
 |45,_,hv=>xlK2 hB hs hv Fm 43 44
 |46,_,hv=>GW (E.mk 3 0 sE Ah []).v λ_=>xlLf
 |47,_,hv=>xlE2 hB hs hv 45 46
 |48,_,hv=>Jk hv 14 sE 47
 |49,_,hv=>FS 2 xfF rfl λ_=>rfl
 |50,_,hv=>KR hB hs λ_=>xlLf
 |51,_,hv=>xlK2 hB hs hv Ci 49 50
 |52,_,hv=>FS 2 xfF rfl λ_=>rfl
 |53,_,hv=>FS 2 xfF rfl λ_=>rfl
 |54,_,hv=>KR hB hs λ_=>xlLf
 |55,_,hv=>xlK2 hB hs hv Fm 53 54
 |56,_,hv=>xlK2 hB hs hv Ci 52 55
 |57,_,hv=>xlE2 hB hs hv 51 56
 |58,_,hv=>Jk hv 17 sE 57
 |59,_,hv=>xlE2 hB hs hv 48 58
 |60,_,hv=>Jk hv 20 sE 59
 |61,_,hv=>by
  obtain⟨e,f,u,w⟩:=hv 60 (by decide);exact Hy (slots:=[(66,tE 0)]) (ρ:=e.row) (by simp only[BY,tG,f]<;>rfl) (x:=.agg #[uS Bp,uS A3,uI e.op,uI e.n,uS e.s,uL e.l]) (by intros;kernel_rfl) ⟨e,rfl,u,w⟩
 |62,_,hv=>by
  obtain⟨e,f,u,w⟩:=hv 61 (by decide);exact Gk (slots:=[(67,.agg (.cons (.var .s 0) (.cons (.var .s 1) (.cons (.var (.i .i64) 2) (.cons (.var (.i .i64) 3) (.cons (.var .s 4) (.cons (.var .sl 5) .nil)))))))]) (ρ:=Iv.row ⟨Bp,A3,e⟩) (by simp only[BY,tG,f]<;>rfl) (cs:=Iv.row ⟨Bp,A3,e⟩) (t:=105) (n:=1) (by intros;kernel_rfl) λb g=>⟨FQ b 1,e,rfl,u,FT hB hs g,w.sub (EU g _)⟩
 |63,_,hv=>by
  obtain⟨ts,fs,t1,t2,t3⟩:=hv 4 (by decide);obtain⟨gs,g1,g2⟩:=hv 6 (by decide);obtain⟨ps,p,p1,A,p3,p4⟩:=hv 32 (by decide);obtain⟨ms,m,L,R,m3,m4⟩:=hv 42 (by decide);obtain⟨is,q,i1,i2,i3,i4⟩:=hv 62 (by decide);refine Hy (slots:=[(10,.var .sl 0),(12,.var .sl 1),(38,.var .sl 2),(48,.var .sl 3),(68,.var .sl 4)]) (ρ:=[uL ts,uL gs,uL ps,uL ms,uL is]) (by simp only[BY,tG,t1,g1,p1,L,i1]<;>rfl) (x:=.agg #[uS exList,uL ts,uL gs,uL ps,uL ms,uL is,z0,z0]) (by intros;kernel_rfl) ⟨⟨exList,ts,[⟨A3,fs,xTF⟩],gs,[⟨DR,A3⟩],ps,[p],ms,[⟨ET,A3,0,m⟩],is,[⟨Bp,A3,q⟩],Ah,[],Ah,[]⟩,rfl,⟨ts,fs,gs,ps,p,ms,m,is,q,A,R,i2,rfl⟩,?_⟩;exact
   {types:=t2
    typesOk:=λt c=>by rw[zZ.1 c];exact⟨t3⟩
    globals:=g2
    procs:=p3
    procsOk:=λt c=>by rw[zZ.1 c];exact p4
    measures:=m3
    measuresOk:=λt c=>by rw[zZ.1 c];exact⟨m4,(by decide:ye.min<=(0:Int)/\(0:Int)<=ye.max)⟩
    invs:=i3
    invsOk:=λt c=>by rw[zZ.1 c];exact i4
    pots:=Ae.nil
    potsOk:=λ_ h=>by simp at h
    bounds:=Ae.nil
    boundsOk:=λ_ h=>by simp at h}
 |_+64,h,_=>by omega
end
section
variable{V V1:Mem}{b0 b3:Nat}{val:Nat->Value}
noncomputable def xlR4:Code:=(flat (AF tH)).getD 4 .skip
theorem xl_flat:flat (AF tH)=c19a++[xlR4,.ret]:=by kernel_rfl
theorem xlR4_eq:xlR4=.region 4 c19o0 true:=by kernel_rfl
theorem xlR4_ok:anyOk c19o0 64 6 BY=true:=by kernel_rfl
theorem xlR4_size:(c19o0).size=65:=by kernel_rfl
theorem results_xl{tmps:XQ}{b:Nat}{d:Ds}{w:World}(k:tmps.getD 0 undef=pv b)(h:w.heap[b]?=some (.cells d.row.toArray 30 (0,0))):(results tH tmps).run xV w=.ok d.v w:=by
 have g:tH.results=#[.cell 0 30]:=by kernel_rfl
 unfold results;rw[g];have e:asAddr (tmps.getD 0 undef)=pure ⟨b,0,none⟩:=by rw[k];rfl
 have f:=HP (P:=xV) (t:=30) (cs:=.cons (.var .s 0) (.cons (.var .sl 1) (.cons (.var .sl 2) (.cons (.var .sl 3) (.cons (.var .sl 4) (.cons (.var .sl 5) (.cons (.var .sl 6) (.cons (.var .sl 7) .nil)))))))) (x:=.agg (.cons (.var .s 0) (.cons (.var .sl 1) (.cons (.var .sl 2) (.cons (.var .sl 3) (.cons (.var .sl 4) (.cons (.var .sl 5) (.cons (.var .sl 6) (.cons (.var .sl 7) .nil))))))))) (ρ:=d.row) (β:=id) (o:=0) (b:=b) (w:=w) h (by kernel_rfl);simp only[List.mapM_toArray,List.mapM_cons,List.mapM_nil,Sem.run_bind,Sem.run_map,Sem.run_pure,Result.andThen_ok,e,show(loadVar 30 ⟨b,0,none⟩).run xV w=.ok d.v w from f];rfl
theorem Ov{V:Mem}:Tri xV 19 #[] V λe V'=>V.sub V'/\∃d:Ds,e=.returned d.v/\IsEx d/\Ds.Ok V' d:=by
 unfold Go.Sx.Tri;intro w L;refine(callsIn_wide (n:=0)).1 (callsIn_of_wp (F:=AB none) Tryz.func19 (c:=AF tH) (by kernel_rfl) trivial (FE ?_) rfl);rw[xl_flat];have R:AS xV 70 c19a [] [0,1,2,3] V λvs V1=>∃b0 b3,vs=[pv b0,D7,xfF,pv b3]/\KN V1 b0 b3/\V.sub V1/\V b0=none/\∃c,c.size=8/\V1 b0=some (.cells c 30 (0,0)):=by
  refine s19a ?_;unfold w19a;refine(Ou (s:=C3)).call ⟨_,_,_,_,rfl,λb0 f b3 m=>⟨_,rfl,b0,b3,rfl,?_⟩⟩;have s0:=Mem.sub_new f (.cells #[uS (Ab []),z0,z0,z0,z0,z0,z0,z0] 30 (0,0));have Q:=Mem.sub_new m (.cells (E.mk 4 0 C3 Ah []).row.toArray 93 (0,0));have P:=Q _ _ (Mem.set_same V b0 (.cells #[uS (Ab []),z0,z0,z0,z0,z0,z0,z0] 30 (0,0)));exact⟨⟨⟨_,P⟩,Mem.set_same _ _ _⟩,s0.trans Q,f,_,rfl,P⟩
 refine R.step L ⟨by simp,λs v h=>by cases h⟩ ?_;rintro a1 O vs V1 r q ⟨b0,b3,rfl,hB,p,f,c,I,H⟩ u;show Code.wpIn (AB none) 0 xV xlR4 _ a1 O;rw[xlR4_eq];refine wpIn_region_any (by kernel_rfl) ?_;rw[xlR4_size];refine anyR_sound (M:=64) (k0:=6) (N:=70) (deps:=BY) (Pr:=λi v A=>BZ (xO b0 A) i v) (Φ:=λV'=>V.sub V'/\∃d:Ds,IsEx d/\Ds.Ok V' d/\V' b0=some (.cells d.row.toArray 30 (0,0))) (V:=V1) (base:=xlBase b0 b3) (a0:=a1) (w0:=O) xlR4_ok (λi v A B h=>xlQ_mono (xO_sub h) i v) (λs v h=>?_) (by decide)
  (λi J A t val hv=>xlStep hB t i J hv) (λA t val hv=>?_) (λX w' V' G Z Y z=>?_) 65 _ _ _ (by simp) ?_ (.inl ⟨V1,Mem.sub.refl _,⟨Nat.le_refl _,u.le,λ_ _ _=>rfl,λ_ h=>.inl h,rfl,rfl⟩,rfl,q,by simp,λi J h=>?_,λi J h=>?_⟩)
 .grind[xlBase]
 .obtain⟨d,C,D,K⟩:qD (val 63) (xO b0 A):=hv 63 (by simp[BY]);refine⟨[(0,pv b0),(69,d.v)],λs v h=>?_,s19o64 (a:=some ⟨b0,0,none⟩) (b:=d.name) (c:=d.ts) (d:=d.gs) (g:=d.ps) (i:=d.ms) (j:=d.is) (k:=d.qs) (l:=d.bs) ?_⟩
  .rw[List.lookup_cons]at h;split at h;.rename_i e;simp only[beq_iff_eq]at e;subst e;cases h;exact .inl rfl
   .obtain⟨rfl,rfl⟩:=xlIn1 h;exact .inr ⟨63,by simp[BY],rfl,C.symm⟩
  .unfold w19o64;have W:=t _ _ H;refine Am.at_ W (by simp[I]) ⟨_,rfl,(p.trans t).set f _,d,D,K.sub λx o S=>?_,?_⟩
   .by_cases e:x=b0;.grind[xO_no]
    .rw[Mem.set_ne e];exact xO_le _ _ S
   .rw[Mem.set_same];have:c.toList.drop (0+8)=[]:=List.drop_eq_nil_of_le (by simp[I]);show some (Obj.cells (c.toList.take 0++d.row++c.toList.drop (0+8)).toArray _ _)=_;rw[this];simp
 .obtain⟨T,d,y,U,h4⟩:=Y;show Code.wpIn (AB none) 0 xV .ret _ X w';refine wpIn_ret ?_;exact⟨G.trans r,d.v,results_xl (Z.get rfl) (z.le _ _ h4),V',⟨T,d,rfl,y,U⟩,u.trans z⟩
 .have y:=List.length_filter_le (λi=>!(wM 65 false).getD i true) (zC (64+1));rw[List.length_range]at y;exact y
 .have hf:(wM 65 false).getD i false=false:=by simp[Array.getD]
  simp_all
 .have hf:(wM 65 false).getD i false=false:=by simp[Array.getD]
  simp_all
end
section
variable{σ:Nat->Sl}
theorem ex_mild:Mild (AI σ):=by
 refine⟨λm h=>?_,λt h=>?_,λg h=>?_,of_decide_eq_true (by kernel_rfl),of_decide_eq_true (by kernel_rfl),of_decide_eq_true (by kernel_rfl)⟩
 .rw[show(AI σ).measures=[(AI σ).measures.getD 0 ⟨sE,sE,0,Ge⟩]from rfl]at h;rw[zZ.1 h];exact⟨of_decide_eq_true (by kernel_rfl),⟨of_decide_eq_true (by kernel_rfl),of_decide_eq_true (by kernel_rfl)⟩,by kernel_rfl⟩
 .rw[show(AI σ).types=[⟨A3,σ 2,xTF⟩]from rfl]at h;rw[zZ.1 h];refine⟨of_decide_eq_true (by kernel_rfl),of_decide_eq_true (by kernel_rfl),λf k=>?_⟩;have k:f∈xTF:=k;simp only[xTF,zJ,xT,or_false]at k;rcases k with rfl|rfl<;>decide
 .rw[show(AI σ).globals=[⟨DR,A3⟩]from rfl]at h;rw[zZ.1 h];decide
def exPr(σ:Nat->Sl):Pr:=(AI σ).procs.getD 0 ⟨sE,Ah,[],sE,Ah,[],Ah,[]⟩
theorem ex_mild2:Mild2 (AI σ):=by
 refine⟨λp h=>?_,λm h=>?_,λm h=>?_,of_decide_eq_true (by kernel_rfl),of_decide_eq_true (by kernel_rfl),rfl,rfl⟩
 .rw[show(AI σ).procs=[exPr σ]from rfl]at h;rw[zZ.1 h];exact⟨of_decide_eq_true (by kernel_rfl),of_decide_eq_true (by kernel_rfl),of_decide_eq_true (by kernel_rfl)⟩
 .rw[show(AI σ).measures=[(AI σ).measures.getD 0 ⟨sE,sE,0,Ge⟩]from rfl]at h;rw[zZ.1 h];exact of_decide_eq_true (by kernel_rfl)
 .rw[show(AI σ).invs=[DS σ]from rfl]at h;rw[zZ.1 h];exact of_decide_eq_true (by kernel_rfl)
def exNames:XN:=[sMeas++ET,Ht++A3,Hu++Bp]
section
variable{V:Mem}{d:Ds}{nm:KB}
theorem Q8[Tab V](k:Ds.Ok V d)(hv:A8 d=true)(hc:B0 d=none):PP 39 [d.v] V (uB true):=by
 refine A6.mk (O3 ?_);have h:=Lu scopeC newC k;rw[if_pos hv,hc]at h;exact h.call ⟨_,_,_,rfl,rfl,Mem.sub.refl _⟩
theorem Q9{b t:Nat}(h:V b=some (cell (uS nm) t)){v:Iv}:PP 41 [v.v,pv b] V (uB (decide (v.name=nm))):=by
 refine O6 ?_;exact⟨_,AD h,rfl,rfl⟩
theorem Ra{b t p:Nat}(h:V b=some (cell (pv p) t))(k:KP V p d){v:Fld}:PP 43 [v.v,pv b] V (uB (decide (v.name=Gj))):=by
 refine O8 ?_;exact⟨_,AD h,nn,nn,_,k.param,rfl,rfl⟩
theorem Rb[Tab V]{p:Pr}:PP 46 [p.v] V (uB (!Bg p.name)):=by
 refine Pa ?_;exact Eb.call ⟨_,rfl,rfl,rfl⟩
theorem Rc{b t:Nat}{p q:Pr}(h:V b=some (.cells p.row.toArray t (0,0))):PP 49 [q.v,pv b] V (uB (decide (q.name=p.name))):=by
 refine Pd ?_;exact⟨nn,_,Aj h 0 1 (by simp[Pr.row]),rfl,rfl⟩
theorem Rd{b t:Nat}(k:Ds.Ok V d){p:Pr}(g:V b=some (.cells d.row.toArray t (0,0))):PP 48 [p.v,pv b] V (uB (d.procs.any λq=>decide (q.name=p.name))):=by
 refine A6.mk (Pc ?_);refine⟨nn,d.ps,Aj g 3 1 (by simp[Ds.row]),λc f=>?_⟩;have h:=Mem.sub_new f (.cells p.row.toArray 72 (0,0));exact(IK (first:=[]) (caps:=[pv c]) (k.procs.sub h) Tryz.call49 (λq=>decide (q.name=p.name)) (λq _=>Rc Av)).call ⟨_,rfl,rfl,h⟩
theorem ex_not:Bh (.mk 18 0 sE Ah [carE (DS σ).x])=true:=by kernel_rfl
theorem any_names{l:List Pr}{ns:XN}(h:l.map (·.name)=ns){f:KB->Bool}(k:ns.any f=false):(l.any λp=>f p.name)=false:=by
 rw[<-h,List.any_map]at k;exact k
theorem exGenerate[Tab V](K:Ds.Ok V (AI σ)):Tri xV 20 #[(AI σ).v,uS Bp] V λr V'=>V.sub V'/\∃(o:Ds)(l:List Pr),r=rT #[o.v,uI 0]/\Ae V' o.ps 5 (l.map Pr.row)/\l.length=4/\(l[3]?).map (·.name)=some (Hu++Bp):=by
 obtain⟨R,hR⟩:∃R:RP,R=λr V'=>V.sub V'/\∃(o:Ds)(l:List Pr),r=rT #[o.v,uI 0]/\Ae V' o.ps 5 (l.map Pr.row)/\l.length=4/\(l[3]?).map (·.name)=some (Hu++Bp):=⟨_,rfl⟩;rw[<-hR];refine P9 ?_;refine(Q8 K Mr ex_chk).call ⟨_,rfl,λ_ b hb=>?_,λh=>absurd rfl h⟩;have s2:=Mem.sub_new hb (cell (uS Bp) 9);have A:=K.sub s2;refine(NG (first:=[]) (caps:=[pv b]) A.invs Tryz.call41 (λt=>decide (t.name=Bp)) (λv _=>Q9 Av)).call ?_;rw[show B1 (λt:Iv=>decide (t.name=Bp)) (AI σ).invs=0 by kernel_rfl];obtain⟨V3,hV3⟩:∃V3,V3=V.set b (cell (uS Bp) 9):=⟨_,rfl⟩;show ∃v11,_=rV (uI v11)/\_;change Ds.Ok (V.set b (cell (uS Bp) 9)) (AI σ)at A;refine⟨0,rfl,λh=>absurd h (by decide),λ_ c hc p P=>?_⟩;have S:p≠c:=λe=>by rw[e,Mem.set_same]at P;cases P
 have L:V.sub (V.set b (cell (uS Bp) 9)):=s2;refine Am.cell (t:=108) ((Mem.sub_new P _) _ _ Av) ?_;obtain⟨T,N⟩:∃T,T=(((V.set b (cell (uS Bp) 9)).set c (.cells #[uP none] 108 (0,0))).set p (.cells ((AI σ).row++[Value.string Gj]).toArray 110 (0,0))).set c (cell (uP (sa p)) 108):=⟨_,rfl⟩;have B:KP T p (AI σ):=by
  unfold KP;rw[N,Mem.set_ne S,Mem.set_same]
 have g:T c=some (cell (uP (sa p)) 108):=by rw[N,Mem.set_same]
 have C:V.sub T:=λx o hx=>by
  have I:=s2 _ _ hx;have xc:x≠c:=λe=>by rw[e,hc]at I;cases I
  have xp:x≠p:=λe=>by subst e;rw[Mem.set_ne S]at P;rw[P]at I;cases I
  rw[N,Mem.set_ne xc,Mem.set_ne xp,Mem.set_ne xc];exact I
 subst N;refine⟨λ_ _ X=>V.sub X/\KP X p (AI σ)/\X c=some (cell (uP (sa p)) 108),0,⟨C,B,g⟩,?_⟩;clear C B g A s2 L P hc hb;rintro n X ⟨C,B,g⟩ J -
 have a:=K.sub C;haveI:Tab X:=Tab.sub (V:=V) inferInstance C;refine(IJ (first:=[]) (caps:=[pv c]) a.globals Tryz.call43 (λf=>decide (f.name=Gj)) (λf _=>Ra g B)).call ⟨_,rfl,λh=>absurd h (by rw[show((AI σ).globals.any λf=>decide (f.name=Gj))=false by kernel_rfl];decide),λ_=>⟨_,AD g,?_⟩⟩;have iv:(AI σ).invs[0]?=some (DS σ):=rfl;have U:DS σ∈(AI σ).invs:=List.mem_of_getElem? iv;have inn:(AI σ).is.n=1:=a.invs.n_eq;have get:∀{Y:Mem},X.sub Y->¬(AI σ).is.p=none/\(0:Int)<=(0:Int)/\(0:Int)<((AI σ).is.n:Int)/\Y.rowp (AI σ).is.p (0*6) 6=some (DS σ).row:=λ{Y} hs=>by
  obtain⟨y,-,hy,-,-,P,hz,hrow⟩:=(a.invs.sub hs).get (i:=0) (by omega);rw[iv]at hy;cases hy;exact⟨P,hz,by omega,hrow⟩
 obtain⟨g1,g2,g3,g4⟩:=get (Mem.sub.refl X);refine⟨g1,g2,g3,_,_,_,_,_,_,g4,Tri.mono (QY B a ex_mild (v:=DS σ) (show A3≠sE by decide) (of_decide_eq_true (by kernel_rfl)) (a.invsOk _ U) (k:=1) (by kernel_rfl)) ?_⟩;rintro _ D ⟨s9,sl,l,rfl,hl,m⟩;have m:l.map (·.name)=exNames:=m;have s69:=C.trans s9;haveI:Tab D:=Tab.sub (V:=V) inferInstance s69;refine⟨sl,rfl,(IK (first:=[]) (caps:=[]) hl Tryz.call46 (λp=>!Bg p.name) (λp _=>Rb)).call ⟨_,rfl,λh=>absurd h (by rw[any_names (f:=λs=>!Bg s) m (by kernel_rfl)];decide),λ_ b2 hb2=>?_⟩⟩;have M:=Mem.sub_new hb2 (.cells (AI σ).row.toArray 30 (0,0));have H:(D.set b2 (.cells (AI σ).row.toArray 30 (0,0))) b2=some (.cells (AI σ).row.toArray 30 (0,0)):=Mem.set_same _ _ _;have L:V.sub (D.set b2 (.cells (AI σ).row.toArray 30 (0,0))):=s69.trans M;have hX:X.sub (D.set b2 (.cells (AI σ).row.toArray 30 (0,0))):=s9.trans M;have w:=K.sub L;have z:=hl.sub M;obtain⟨Y,hY⟩:∃Y,Y=D.set b2 (.cells (AI σ).row.toArray 30 (0,0)):=⟨_,rfl⟩;rw[<-hY]at H L hX w z;show Tri _ _ _ (D.set b2 (.cells (AI σ).row.toArray 30 (0,0))) _;rw[<-hY];haveI:Tab Y:=Tab.sub (V:=V) inferInstance L;refine(IK (first:=[]) (caps:=[pv b2]) z Tryz.call48 (λp=>(AI σ).procs.any λq=>decide (q.name=p.name)) (λp _=>Rd w H)).call ⟨_,rfl,λh=>absurd h (by rw[any_names (f:=λs=>(AI σ).procs.any λq=>decide (q.name=s)) m (by kernel_rfl)];decide),λ_=>?_⟩;have hll:l.length=3:=by have:=congrArg List.length m;rw[List.length_map]at this;exact this
 have hln:=z.n_eq;have hpn:(AI σ).ps.n=1:=w.procs.n_eq;refine⟨nn,(AI σ).ps,Aj H 3 1 (by simp[Ds.row]),⟨by omega,by omega⟩,λh=>absurd h (by omega),λ_=>⟨nn,(AI σ).is,Aj H 5 1 (by simp[Ds.row]),?_⟩⟩;obtain⟨h1,h2,I,h4⟩:=get hX;refine⟨h1,h2,I,_,_,_,_,_,_,h4,λh=>absurd h (show ¬A3=sE by decide),λ_=>⟨_,AD (hX _ _ g),Tri.mono (Mv (DS σ).x Y (B.sub hX) (w.invsOk _ U) 1 (by kernel_rfl)) ?_⟩⟩;rintro _ V13 ⟨F,e,rfl,he,heo⟩;refine⟨_,_,_,_,rfl,Tri.mono (Mu (e:=e)) ?_⟩;rintro _ V14 ⟨Z,le,rfl,hle⟩;have G:=L.trans (F.trans Z);haveI:Tab V14:=Tab.sub (V:=V) inferInstance G;have hok:E.Ok V14 (.mk 18 0 sE le [e]):=.mk hle (λx hx=>by rw[zZ.1 hx];exact(heo.sub nw_le).sub Z) (by decide) (by decide);have hval:Bh (.mk 18 0 sE le [e])=true:=by
  rw[<-validE_er];have:EE (.mk 18 0 sE le [e])=.mk 18 0 sE Ah [carE (DS σ).x]:=by
   show E.mk 18 0 sE Ah (eErs [e])=_;rw[KJ,List.map_singleton,he]
  rw[this];exact ex_not
 refine⟨_,_,_,_,rfl,(HU hok).call ⟨_,rfl,λ_=>?_,λh=>absurd hval h⟩⟩;refine⟨_,_,_,_,_,_,_,_,Aj ((F.trans Z) _ _ H) 0 8 (by simp[Ds.row]),Tri.mono (Q7 (K.sub G) Mr ex_mild ex_mild2 λq hq=>?_) ?_⟩
 .rw[show(AI σ).procs=[exPr σ]from rfl]at hq;rw[zZ.1 hq];exact of_decide_eq_true (by kernel_rfl)
 rintro _ V16 ⟨s16,o,ps,rfl,⟨W,hW,own⟩,Q⟩;have Q:ps.length=1:=Q;refine⟨_,_,_,_,_,_,_,_,_,rfl,λ_=>?_,λh=>absurd rfl h⟩;refine ap24 (s:=o.ps) (u:=sl) (xs:=ps) (ys:=l) rfl rfl own (z.sub (F.trans (Z.trans s16))) (by omega) λo' V' O=>⟨o',rfl,?_⟩;rw[hR];refine⟨(G.trans hW).trans O.sub,⟨o.name,o.ts,[],o.gs,[],o',[],o.ms,[],o.is,[],o.qs,[],o.bs,[]⟩,ps++l,rfl,O.rows (λ_=>rfl) (by decide),by rw[List.length_append,Q,hll],?_⟩;rw[List.getElem?_append_right (by omega),Q];have:(l.map (·.name))[2]?=some (Hu++Bp):=by rw[m];rfl
 rw[List.getElem?_map]at this;exact this
theorem Mw{n:Int}:Tri xV 18 #[uI n] V λr V'=>V.sub V'/\∃s:Sl,r=.returned (.agg #[uS Bm,s.v])/\Ae V' s 1 ([n].map Aw):=by
 refine OM ?_;exact λb h=>⟨Mem.sub_new h _,⟨some ⟨b,0,none⟩,1,1⟩,rfl,Ae.cells (xs:=[n]) (row:=Aw) Av rfl (λ_=>rfl) rfl (by simp)⟩
theorem c5(V:Mem)[Tab V]:PP 5 [] V (uB true):=by
 refine A6.mk (x5 ?_);unfold w5;refine Tri.mono Ov ?_;rintro _ V1 ⟨T,d,rfl,Z,hd⟩;obtain⟨σ,rfl⟩:=ex_form Z;refine⟨_,_,_,_,_,_,_,_,rfl,Tri.mono Mw ?_⟩;rintro _ V2 ⟨s2,z,rfl,h0⟩;refine⟨_,_,rfl,Tri.mono Mw ?_⟩;rintro _ V3 ⟨B,y,rfl,h1⟩;refine⟨_,_,rfl,Tri.mono Mw ?_⟩;rintro _ C ⟨Y,m,rfl,h2⟩;refine⟨_,_,rfl,λb hb c hc e he=>?_⟩;have sb:=Mem.sub_new hb (.cells #[uI 0] 3 (0,0));have sc:=Mem.sub_new hc (.cells #[uS Bm,uL z,uS Bm,uL y,uS Bm,uL m] 36 (0,0));have W:=Mem.sub_new he (.cells #[uS Bp] 9 (0,0));have k:=sb.trans (sc.trans W);have f:=s2.trans (B.trans (Y.trans k));obtain⟨U,G⟩:∃U,U=((C.set b (.cells #[uI 0] 3 (0,0))).set c (.cells #[uS Bm,uL z,uS Bm,uL y,uS Bm,uL m] 36 (0,0))).set e (.cells #[uS Bp] 9 (0,0)):=⟨_,rfl⟩;have Q:U b=some (.cells #[uI 0] 3 (0,0)):=by rw[G];exact(sc.trans W) _ _ Av
 have P:U c=some (.cells #[uS Bm,uL z,uS Bm,uL y,uS Bm,uL m] 36 (0,0)):=by rw[G];exact W _ _ Av
 have O:U e=some (.cells #[uS Bp] 9 (0,0)):=by rw[G];exact Mem.set_same _ _ _
 show Tri _ _ _ (((C.set b (.cells #[uI 0] 3 (0,0))).set c (.cells #[uS Bm,uL z,uS Bm,uL y,uS Bm,uL m] 36 (0,0))).set e (.cells #[uS Bp] 9 (0,0))) _;rw[<-G]at k f⊢;have D:V.sub U:=T.trans f;haveI:Tab U:=Tab.sub (V:=V) inferInstance D;have r:Cls.Ok U ⟨some ⟨c,0,none⟩,3,3⟩ [⟨Bm,z,[3]⟩,⟨Bm,y,[5]⟩,⟨Bm,m,[1]⟩]:=⟨Ae.cells (row:=Be.row) P rfl (λ_=>rfl) rfl (by simp),λx E=>by
  simp only[zJ,xT,or_false]at E;rcases E with rfl|rfl|rfl;.exact h0.sub (B.trans (Y.trans k))
  .exact h1.sub (Y.trans k)
  .exact h2.sub k⟩
 refine Tri.mono (exScript (g:=⟨some ⟨b,0,none⟩,1,1⟩) (l:=⟨some ⟨c,0,none⟩,3,3⟩) (ns:=⟨some ⟨e,0,none⟩,1,1⟩) (hd.sub f) (Ae.cells (xs:=[0]) (row:=Aw) Q rfl (λ_=>rfl) rfl (by simp)) r (Ae.cells (xs:=[Bp]) (row:=Bs) O rfl (λ_=>rfl) rfl (by simp))) ?_;rintro _ V8 ⟨s8,o,oa,ob,o0,o1,rfl,p,e0,e1,en⟩;refine⟨_,_,_,_,_,_,rfl,Tri.mono Ov ?_⟩;rintro _ V9 ⟨K,d,rfl,Z,A⟩;obtain⟨τ,rfl⟩:=ex_form Z;have a:=D.trans (s8.trans K);haveI:Tab V9:=Tab.sub (V:=V) inferInstance a;refine⟨_,_,_,_,_,_,_,_,rfl,Tri.mono (exGenerate A) ?_⟩;rintro _ V10 ⟨s,x,l,rfl,S,I,N⟩;have p:=p.sub (K.trans s);have hn:o.n=2:=p.n_eq;have hxn:x.ps.n=4:=S.n_eq.trans I;obtain⟨y0,-,M,-,-,v,F,t⟩:=p.get (i:=0) (by omega);cases M;obtain⟨y1,-,L,-,-,H,R,u⟩:=p.get (i:=1) (by omega);cases L;obtain⟨q,-,hq,-,-,J,X,w⟩:=S.get (i:=3) (by omega);rw[hq]at N;have N:q.name=Hu++Bp:=Option.some.inj N;refine⟨_,_,_,_,_,_,_,_,_,rfl,λ_=>⟨λ_=>⟨v,F,by omega,Ai v,_,_,_,_,_,t,λ_=>⟨H,R,by omega,Ai H,_,_,_,_,_,u,λ_=>⟨λ_=>⟨λ_=>⟨λ_=>⟨λ_=>⟨J,X,by omega,Ai J,_,_,_,_,_,w,?_⟩,λh=>absurd (by omega) h⟩,λh=>absurd rfl h⟩,λh=>absurd ⟨rfl,rfl⟩ h⟩,λh=>absurd (by omega) h⟩,λh=>absurd e1 h⟩,λh=>absurd e0 h⟩,λh=>absurd (by omega) h⟩,λh=>absurd rfl h⟩;refine⟨?_,a.trans s⟩;rw[show decide (q.name=Ab [99,104,101,99,107,95,115,111,114,116,101,100])=true from decide_eq_true (N.trans (by kernel_rfl))]
end
end
end Go.Proofs
