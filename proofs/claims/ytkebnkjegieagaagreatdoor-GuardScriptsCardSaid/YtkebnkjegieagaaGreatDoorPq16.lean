/- Part 16: no statement of the seat is proved here. -/
import Derived.Test.YtkebnkjegieagaaGreatDoorPq12
set_option linter.unusedVariables false
set_option linter.unusedSimpArgs false
open Prod renaming ext->tL
open Int.ofNat renaming inj->tM
open List renaming take_of_length_le->wm
open Go.Proofs.Tryz renaming prog->xV,underlying57->tN
namespace Go.Proofs
open Go Go.Sx
set_option maxRecDepth 100000
section
variable{V:Mem}{R:RP}
abbrev w4_0(a:KB)(b c d g i j k l o p q:Sl)(r:Int)(t:Mem)(R:RP):Prop:=TT 15 #[uD a b c d g i j k,uA #[uL l,uL o],uL p,uL q,uI r] t λe u=>∃A B C D F G,e=rT #[uL A,uA #[uL B,uL C],uA #[uS D,uI F],uI G]/\TT 16 #[uD a b c d g i j k,uA #[uL l,uL o],uL p,uL q,uI r] u λe h=>∃H L M N O P,e=rT #[uL H,uA #[uL L,uL M],uA #[uS N,uI O],uI P]/\Br (G=P) (TB 17 #[uL A,uL H] h λQ f=>Ac Q (w4_1 D N G a b c d g i j k B C L M f F O R) (R KQ f)) (R KQ h)
abbrev w4_2(p:Sl)(R:RP)(V2:Mem)(q:Sl)(r:Int)(a:KB)(b c d g i j k l o:Sl):Prop:=Br (3000<(p.n:Int)) (R KX V2) (TB 14 #[uL p,.func (.func 7) #[] #[]] V2 λy f=>Ac y (R KX f) (TB 8 #[uL q] f λz h=>Ac z (R KX h) (Br ((p.n:Int)<=14) (Br (r<=1048576) (Br (400<(IntKind.wrap .i64 ((p.n:Int)*r))) (R KX h) (w4_0 a b c d g i j k l o p q r h R)) (w4_0 a b c d g i j k l o p q r h R)) (w4_0 a b c d g i j k l o p q r h R))))
def w4(a:KB)(b c d g i j k l o p q:Sl)(r:Int):MR:=λV R=>TB 5 #[] V λs V1=>Ac s (TB 6 #[uD a b c d g i j k,uA #[uL l,uL o],uI r] V1 λu V2=>Ac u (R KX V2) (Br (14<(p.n:Int)) (Br ((p.n:Int)<=2000) (R KX V2) (w4_2 p R V2 q r a b c d g i j k l o)) (w4_2 p R V2 q r a b c d g i j k l o))) (R KQ V1)
theorem x4{a:KB}{b c d g i j k l o p q:Sl}{r:Int}(h:w4 a b c d g i j k l o p q r V R):TT 4 #[uD a b c d g i j k,uA #[uL l,uL o],uL p,uL q,uI r] V R:=Ad Tryz.func4 h
theorem Re{a:Sl}{b:Value}(h:TI 36 #[uL a,K.cast .f b] V λc V1=>R (rV (uB (decide (0<=c)))) V1):TT 14 #[uL a,K.cast .f b] V R:=Cp Tryz.func14 [] [] false [uL a,b] (by kernel_rfl) (by kernel_rfl) h
theorem Rf{a b:Sl}(h:Br ((a.n:Int)=(b.n:Int)) (LE [uB false,uI 0] V λc d f V1=>Br (d<(a.n:Int)) (So V1 a d (λg i j k l=>So V1 b d (λo p q r s=>Br ((g=o)/\((i=p)/\((j=q)/\((k=r)/\(l=s))))) (LT uB c d f V1) (R KQ V1)))) (R KX V1)) (R KQ V)):TT 17 #[uL a,uL b] V R:=Ad Tryz.func17 h
theorem Rg{a:Sl}{b:Value}(h:Lp [uI 0,uI 0] V λI n V1=>∀c d,I n [uI c,uI d] V1->∀t:LMP,Nx I n t->Br (d<(a.n:Int)) (Ix a d (∃g i,V1.rowp a.p (d.toNat*2) 2=some [uS g,uL i]/\∃f first k,K.cast .f b=.func (.func f) first k/\CO f/\TT f (first++#[uA #[uS g,uL i]]++k) V1 λe V2=>∃j,e=rV (uB j)/\Br (j=true) (R (rV (uI d)) V2) (IR (d+1)/\t [uI c,uI (d+1)] V2))) (R (rV (uI (-1))) V1)):TT 36 #[uL a,K.cast .f b] V R:=Cp Tryz.func36 [] [] false [uL a,b] (by kernel_rfl) (by kernel_rfl) h
end
section
variable{V:Mem}{R:RP}
abbrev w16_0(l o:Sl)(V2:Mem)(p:Sl)(a:KB)(b c d g i j k q:Sl)(r:Int)(R:RP):Prop:=Lp [uL l,uL o,z0,z0,uS (Ab []),uI 0,z0,z0,uI 0,uI 0] V2 λI n h=>∀y z A B C D F G H L,I n [uL y,uL z,uL A,uL B,uS C,uI D,uL F,uL G,uI H,uI L] h->∀f:LMP,Nx I n f->Br (L<(p.n:Int)) (RZ h p L (λM N=>TT 10 #[uD a b c d g i j k,uA #[uL y,uL z],uA #[uS M,uL N],uL q,uI r] h λe t=>∃O P Q U W X Y Z a0 a1,e=rT #[uA #[uI O,uI P,uI Q,uI U,uI W],uA #[uL X,uL Y],uA #[uS Z,uI a0],uI a1]/\Br (a1=0) (Af [uI O,uI P,uI Q,uI U,uI W] 46 t λa2 w=>Ap 67 69 59 (uL F) (.slice (Aa a2 0) 1 1) w λa3 u=>Br (O=22) (R (rT #[uL a3,uA #[uL X,uL Y],uA #[uS Z,uI a0],uI 0]) u) (IR (L+1)/\f [uL X,uL Y,uL A,uL B,uS C,uI D,uL a3,uL G,uI H,uI (L+1)] u)) (R (rT #[z0,uA #[z0,z0],uA #[uS (Ab []),uI 0],uI a1]) t))) (R (rT #[uL F,uA #[uL y,uL z],uA #[uS (Ab []),uI 0],uI 0]) h)
abbrev w16_1(s:Int)(a:KB)(b c d g i j k q:Sl)(V1:Mem)(l o p:Sl)(r:Int)(R:RP):Prop:=Br (s=0) (TI 29 #[uD a b c d g i j k,uL q] V1 λu V2=>Br (u=0) (w16_0 l o V2 p a b c d g i j k q r R) (R (rT #[z0,uA #[z0,z0],uA #[uS (Ab []),uI 0],uI u]) V2)) (Br (s=0) (w16_0 l o V1 p a b c d g i j k q r R) (R (rT #[z0,uA #[z0,z0],uA #[uS (Ab []),uI 0],uI s]) V1))
theorem Rh{a:KB}{b c d g i j k l o p q:Sl}{r:Int}(h:TI 28 #[uD a b c d g i j k,uA #[uL l,uL o],uI r] V λs V1=>Br (s=0) (Br (2000<(p.n:Int)) (R (rT #[z0,uA #[z0,z0],uA #[uS (Ab []),uI 0],uI 4]) V1) (w16_1 s a b c d g i j k q V1 l o p r R)) (w16_1 s a b c d g i j k q V1 l o p r R)):TT 16 #[uD a b c d g i j k,uA #[uL l,uL o],uL p,uL q,uI r] V R:=Dl Tryz.func16 [] [(10,[6,11,12])] false (by kernel_rfl) (by kernel_rfl) h
end
attribute [local irreducible] Go.Sx.Tri
theorem Ow{V:Mem}{s t:Sl}{xs ys:List O4}(h:Ae V s 5 (xs.map oRow))(k:Ae V t 5 (ys.map oRow)):PP 17 [uL s,uL t] V (uB (decide (xs=ys))):=by
 refine Rf ?_;have G:=h.n_eq;have N:=k.n_eq;refine⟨λv=>?_,λv=>?_⟩
 .refine AG (mk:=.bool) (b0:=false) xs.length (λi V1=>V=V1/\xs.take i=ys.take i) ⟨rfl,rfl⟩ ?_;rintro i b V1 J I ⟨rfl,z⟩ Z;refine⟨λg=>?_,λj=>?_⟩
  .obtain⟨x,Y,r,-,q,W,Q,w⟩:=h.get g;obtain⟨y,P,H,-,O,o,a,f⟩:=k.get (i:=i) (by omega);refine⟨W,Q,g,_,_,_,_,_,w,o,a,by omega,_,_,_,_,_,f,λu=>⟨h.succ g,Z q _ _ ⟨rfl,take_eq z r H (tL u.1 (tL u.2.1 (tL (tM u.2.2.1) (tM u.2.2.2.1))))⟩⟩,λu=>?_⟩;rw[decide_eq_false λe=>?_];.exact⟨rfl,rfl⟩
   .rw[e,H]at r;cases r;exact u ⟨rfl,rfl,rfl,rfl,rfl⟩
  .have A:=(h.done j).2;rw[wm A,wm (by omega)]at z;rw[decide_eq_true z];exact⟨rfl,rfl⟩
 .rw[decide_eq_false λe=>v (by rw[G,N,e])];exact⟨rfl,rfl⟩
end Go.Proofs
namespace Go.Proofs.YtkebnkjegieagaaGreatDoor
open Go Go.Sx Go.Proofs Go.ChangeShapes Go.WideShapes Go.ChangeAt Go.RowKit
set_option maxRecDepth 100000 in
theorem cls_of{H:Type}{enc:TypeId×Value->H}{W f:World}{r:Reach}{b0:Nat}{v:Value}{t:DataW H}{p:List MemPlace}(k:Value.okWide xV f r b0 57 v)(h:DataW.Trod enc xV W 0 (λ_=>true) true 57 v t p):∃(l:Sl)(cs:List Be),v=l.v/\Cls.Ok (Bb W) l cs:=by
 obtain⟨a,len,cap,rfl⟩:=okWide_slice tN k;obtain⟨fuel,h⟩:=h;have h:∃y,TR enc W fuel 57 [.slice a len cap]=some y:=⟨_,h⟩;obtain⟨s,cs,u,w,z⟩:=DQ (row:=Be.row) (ok:=λc:Be=>Ae (Bb W) c.sl 1 (c.args.map Aw)) tN clCl (by decide) (λ_=>rfl) (λi _ cs x j=>by
  obtain⟨nm,l,xs,hm,g⟩:=rdCl j;exact⟨⟨nm,l,xs⟩,hm,g⟩) h
 exact⟨s,cs,u,w,z⟩
end Go.Proofs.YtkebnkjegieagaaGreatDoor
namespace Go.Proofs
open Go Go.Sx
attribute [local irreducible] Go.Sx.Tri
section
variable{V:Mem}{d:Ds}{m:Mm}{l ns:Sl}{nms:XN}{cs:List Be}
theorem Ox(P:Ds.Ok V d)(hm:Mm.Ok V m)(N:Cls.Ok V l cs)(Z:Ae V ns 1 (nms.map Bs)){F:Int}(hF:F<=3000∨1048576<F):
  Tri xV 16 #[d.v,m.v,l.v,ns.v,uI F] V (GscP V d F m nms cs):=by
 obtain⟨R,M⟩:∃R,R=GscP V d F m nms cs:=⟨_,rfl⟩;rw[<-M];refine Rh ?_;have hln:=N.rows.n_eq;have G:=Mem.sub.refl V;have bad:∀{k:Int}{V':Mem},gscE d F m nms cs=k->k≠0->V.sub V'->R (rT #[Ah.v,.agg #[Ah.v,Ah.v],.agg #[uS sE,uI 0],uI k]) V':=λh f hs=>by
  rw[M];exact⟨hs,.inl ⟨by rw[h];exact f,by rw[h]⟩⟩
 refine(Mj P hm).call ⟨_,rfl,λf=>⟨λh=>?_,λh=>⟨λ_=>(Oe P Z).call ⟨_,rfl,λz=>?_,λz=>?_⟩,λh=>absurd f h⟩⟩,λf=>⟨λh=>absurd h f,λ_=>⟨λh=>absurd h f,λ_=>bad (by unfold gscE;rw[if_neg f]) f G⟩⟩⟩
 .have h:(2000:Int)<(l.n:Int):=h;exact bad (by unfold gscE;rw[if_pos f,if_pos (by omega)]) (by decide) G
 rotate_left;.exact bad (by unfold gscE;rw[if_pos f,if_neg (by have h:¬(2000:Int)<(l.n:Int):=h;omega),if_neg z]) z G
 have f:BT d m F=0:=f;have z:Ch d nms=0:=z;have hl:¬2000<cs.length:=by
  have h:¬(2000:Int)<(l.n:Int):=h;omega
 have hf:=Jb f;obtain⟨n,rfl⟩:∃n:Nat,F=(n:Int):=⟨F.toNat,by omega⟩;have X:=gsc_of (F:=(n:Int)) f hl z;rw[Int.toNat_natCast]at X;refine⟨λmm xs V3=>∃(i:Nat)(a b o:Sl)(s:St)(nd:XH),mm=cs.length-i/\i<=cs.length/\xs=[uL a,uL b,uL Ah,uL Ah,uS sE,uI 0,uL o,uL Ah,uI 0,uI i]/\ED V d n nms (AV m) cs V3 i a b o s nd,cs.length,⟨0,m.gs,m.ns,Ah,AV m,m.nodes,rfl,Nat.zero_le _,rfl,⟨V,[],G,Own.nil G _ _,hm,.start rfl (I5 (I6 f))⟩,rfl⟩,?_⟩;rintro mm V3 j q v17 v18 v19 v20 v21 v22 v23 v24 ⟨i,a,b,o,s,nd,rfl,hi,O,S⟩ J hJ;simp only[List.cons.injEq,and_true]at O;obtain⟨q1,q2,q3,q4,q5,q6,q7,q8,q9,B⟩:=O;cases AT _ _ q1;cases AT _ _ q2;cases AT _ _ q3;cases AT _ _ q4;cases F0 _ _ q5;cases BJ _ _ q6;cases AT _ _ q7;cases AT _ _ q8;cases BJ _ _ q9;cases BJ _ _ B;obtain⟨A,C⟩:=S.sub;have p:=N.sub A;have fin:∀{I:Mem}{w D b4:Sl}{u:XH}{y:Option (KB×Int)},GFin V I d n nms (AV m) cs D b4 w u y->R (rT #[w.v,.agg #[D.v,b4.v],.agg (grdX y).toArray,uI 0]) I:=λ{I w D b4 u y} h=>by
  rw[M];exact h.fin G X
 refine⟨λY=>?_,λE=>?_⟩
 .obtain⟨c,T,hcc,W,hil,hp,hz,Q⟩:=p.rows.get Y;have U:runE d ⟨j,s.g,q,nd⟩ c.name c.args nms n=Cg d ⟨j,s.g,q,nd⟩ c.name c.args n:=by
   unfold runE;rw[S.given (by omega),if_pos rfl,if_pos z]
  refine⟨hp,hz,Y,_,_,Q,Tri.mono (Mo (nms:=nms) (m:=⟨j,s.g,q,nd⟩) (args:=c.args) (P.sub A) C (p.args _ T) (Z.sub A) hF) ?_⟩;rw[U];rintro e I (⟨t,s4,rfl⟩|⟨t,r,gs,ns4,ls,u,hr,L,rfl⟩);.exact⟨_,_,_,_,_,_,_,_,_,_,rfl,λh=>absurd h t,λ_=>bad (X.trans (S.stop W (by omega) t)) t (A.trans s4)⟩
  .obtain⟨x,O,K⟩:=S.step P W (by omega) hr (I7 t).2 L;rw[O];cases x with
   |none=>exact⟨_,_,_,_,_,_,_,_,_,_,rfl,λ_ tb H=>K H rfl rfl λw V5 f _=>⟨w,rfl,λh=>absurd (hr▸h) no22,λ_=>⟨⟨by omega,by omega⟩,hJ _ _ _ (show cs.length-(i+1)<cs.length-i by omega) ⟨i+1,gs,ns4,w,CN r.st,u,rfl,by omega,rfl,f rfl⟩⟩⟩,λh=>absurd rfl h⟩
   |some y=>exact⟨_,_,_,_,_,_,_,_,_,_,rfl,λ_ tb H=>K H rfl rfl λw V5 _ f=>⟨w,rfl,λ_=>fin (f _ rfl),λh=>absurd rfl h⟩,λh=>absurd rfl h⟩
 .exact fin (y:=none) (S.done (p.rows.done E).2)
end
def KS(c:Be):Value:=.agg (Be.row c).toArray
theorem Ri:IdxP 36 Be.row KS 2:=by
 intro V l xs g first t n St r k q o
 refine Rg (a:=l) (b:=.func (.func g) first.toArray t.toArray) ?_;refine AG xs.length St q ?_;intro i b V1 J N w p;have h:=k i V1 w;refine⟨λf=>?_,λz=>?_⟩
 .obtain⟨x,hm,c,Z,s,y,v,u⟩:=h.get f;refine⟨y,v,f,_,_,u,g,_,_,rfl,n,Tri.mono (o i x V1 c w) ?_⟩;rintro e V2 ⟨b,rfl,H,G⟩;exact⟨b,rfl,λj=>.inl ⟨i,rfl,H j⟩,λj=>⟨h.succ f,p s _ _ (G (by simpa using j))⟩⟩
 .have e:i=xs.length:=by have:=(h.done z).2;omega
  exact .inr ⟨rfl,e▸w⟩
theorem g14:ConP 14 Be.row KS 2:=conG Ri Re
theorem Rj:ConC 14 Be.row KS 2:=conC g14
section
variable{V:Mem}{d:Ds}{m:Mm}{l ns:Sl}{nms:XN}{cs:List Be}
theorem c7{c:Be}:PP 7 [KS c] V (uB (decide (100<(c.name.size:Int))||decide (60<(c.sl.n:Int)))):=by
 refine x7 ?_;unfold w7;refine⟨λh=>⟨?_,rfl⟩,λh=>⟨?_,rfl⟩⟩;.rw[decide_eq_true h];rfl
 .rw[decide_eq_false h];rfl
theorem gsP_vio{F:Nat}:∀{cs:List Be}{s:St},(Cr d F nms s cs).2.2.2=none∨(Cr d F nms s cs).2.2.2=CA d (Cr d F nms s cs).2.2.1.mm nms
 |[],s=>.inl rfl
 |c::cs,s=>by
  rw[Cr];split
  .split
   .show D6 d F nms c s=none∨D6 d F nms c s=CA d (CP d F c s).st.mm nms;unfold D6 Cm;split;.exact .inr rfl
    .exact .inl rfl
   .exact gsP_vio
  .exact .inl rfl
theorem c4(i:∀(V:Mem) [Tab V],PP 5 [] V (uB true))[Tab V](y:Ds.Ok V d)(hm:Mm.Ok V m)(f:Cls.Ok V l cs)(u:Ae V ns 1 (nms.map Bs)){F:Int}:
  PP 4 [d.v,m.v,l.v,ns.v,uI F] V (uB true):=by
 refine A6.mk (x4 ?_);unfold w4;have w:=Mem.sub.refl V;have fin:∀{V':Mem},V.sub V'->(Ending.returned (uB true)=EQ true/\V.sub V'):=λh=>⟨rfl,h⟩;refine(i V).call ⟨_,rfl,λ_=>Tri.mono (largeF y hm) ?_,λh=>absurd rfl h⟩;rintro _ _ ⟨rfl,b,rfl,x⟩;refine⟨_,rfl,λ_=>fin w,λh=>?_⟩;have x:=x (by simpa using h);have Z:=Rj (first:=[]) (caps:=[]) f.rows Tryz.call7 _ (λc _=>c7 (c:=c));refine⟨λ_=>⟨λ_=>fin w,λ_=>⟨λ_=>fin w,λ_=>?_⟩⟩,λ_=>⟨λ_=>fin w,λ_=>?_⟩⟩;all_goals
  refine Z.call ⟨_,rfl,λ_=>fin w,λ_=>Tri.mono (manyF u) ?_⟩;rintro _ _ ⟨rfl,b,rfl,H⟩;refine⟨_,rfl,λ_=>fin w,λh=>?_⟩;have H:=H (by simpa using h);refine⟨λ_=>⟨λ_=>⟨λ_=>fin w,λ_=>?_⟩,λ_=>?_⟩,λ_=>?_⟩;all_goals
   refine Tri.mono (Ol y hm f u (by omega) x) ?_;rintro e V1 ⟨k,⟨j,rfl⟩|⟨j,o,a,b,nd,t,J,Y,Q,P,G,rfl⟩⟩
   .refine⟨_,_,_,_,_,_,rfl,Tri.mono (Ox (y.sub k) (hm.sub k) (f.sub k) (u.sub k) x) ?_⟩;rintro e V2 ⟨z,⟨-,rfl⟩|⟨h,-⟩⟩;.exact⟨_,_,_,_,_,_,rfl,λ_=>(Ow (s:=Ah) (t:=Ah) (xs:=[]) (ys:=[]) Ae.nil Ae.nil).call ⟨_,rfl,λ_=>⟨λ_=>⟨λh=>absurd h j,λ_=>(c11 (a:=Ah) (b:=Ah)).call ⟨_,rfl,λ_=>⟨by simp,k.trans z⟩,λh=>absurd rfl h⟩⟩,λh=>absurd rfl h⟩,λh=>absurd rfl h⟩,λh=>absurd rfl h⟩
    .exact absurd h j
   have N:(⟨a,t.2.2.1.g,b,nd⟩:Mm).plain=t.2.2.1.mm.plain:=Hs P;have O:0<=(t.2.2.2.getD (sE,0)).2:=by
    rcases(J▸gsP_vio:t.2.2.2=none∨t.2.2.2=CA d t.2.2.1.mm nms)with h|h;.rw[h];exact Int.le_refl _
    .rw[h];exact vioNode G
   obtain⟨w0,n,hw,r⟩:∃w0 n,grdX t.2.2.2=[uS w0,uI n]/\n=(t.2.2.2.getD (sE,0)).2:=by
    cases t.2.2.2;.exact⟨_,_,rfl,rfl⟩
    .exact⟨_,_,rfl,rfl⟩
   rw[hw];refine⟨_,_,_,_,_,_,rfl,Tri.mono (Ox (y.sub k) (hm.sub k) (f.sub k) (u.sub k) x) ?_⟩;rintro e V2 ⟨z,⟨h,-⟩|⟨-,L,a2,b2,nd2,t2,q,A,I,M,-,rfl⟩⟩;.exact absurd j h
   obtain rfl:t2=t:=q.trans J.symm;have p:(⟨a2,t2.2.2.1.g,b2,nd2⟩:Mm).plain=t2.2.2.1.mm.plain:=Hs M;rw[hw];refine⟨_,_,_,_,_,_,rfl,λ_=>(Ow (Y.sub z) A).call ⟨_,rfl,λ_=>⟨λ_=>⟨λ_=>tailG (R:=λe W=>e=EQ true/\V.sub W) (y.sub (k.trans z)) (An.plain G N.symm) (Q.sub z) I (N.trans p.symm) (by rw[r];exact O) (fin (k.trans z)),λh=>absurd rfl h⟩,λh=>absurd rfl h⟩,λh=>absurd (decide_eq_true rfl) h⟩,λh=>absurd rfl h⟩
end
end Go.Proofs
namespace Go.Proofs
open Go Go.Sx
theorem cScripts{V:Mem}{d:Ds}{m:Mm}{l ns:Sl}{nms:XN}{cs:List Be}[Tab V](g:Ds.Ok V d)(hm:Mm.Ok V m)(h:Cls.Ok V l cs)(k:Ae V ns 1 (nms.map Bs)){F:Int}:PP 4 [d.v,m.v,l.v,ns.v,uI F] V (uB true):=
 c4 (λV _=>c5 V) g hm h k
end Go.Proofs
