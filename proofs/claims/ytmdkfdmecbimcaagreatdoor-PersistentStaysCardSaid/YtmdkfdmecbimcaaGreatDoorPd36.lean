/- Part 36: no statement of the seat is proved here. -/
import Derived.Test.YtmdkfdmecbimcaaGreatDoorPd18
import Derived.Test.YtmdkfdmecbimcaaGreatDoorPd19
import Derived.Test.YtmdkfdmecbimcaaGreatDoorPd23
set_option linter.unusedVariables false
set_option linter.unusedSimpArgs false
open List.cons renaming injEq->yJ
open Bool renaming not_eq_true->tC
open List renaming mem_of_getElem?->x8
namespace Go.Proofs
open Go Go.Sx
set_option maxRecDepth 100000
section
variable{V:Mem}{R:RP}
theorem Su{a:Int}{b c:Option Addr}(h:∃d,V.rowp b ((0:Int).toNat*1) 1=some [uP d]/\TT 12 #[uP d,uI a] V λe V1=>∃g i j,e=rT #[uA #[uL g,uL i],uI j]/\∃k,V1.rowp b ((0:Int).toNat*1) 1=some [uP k]/\∃l o,V1.rowp c ((0:Int).toNat*1) 2=some [uS l,uL o]/\TT 20 #[uP k,uI a,uA #[uS l,uL o],uI 120] V1 λe V2=>∃p q r s u y,e=rT #[uA #[uI p,uI q,uI r,uI s,uI u],uI y]/\R (rT #[uA #[uL g,uL i,uI p,uI q,uI r,uI s,uI u,uI y],uB (decide (j=0))]) V2):TT 25 #[uI a,uP b,uP c] V R:=Ae Tryz.func25 h
theorem Sv{a:Sl}(h:Br ((a.n:Int)<1) (R KQ V) (Br (1000<(a.n:Int)) (R KQ V) (¬a.p=none/\(0:Int)<=(0:Int)/\0<(a.n:Int)/\∃b,V.rowp a.p ((0:Int).toNat*1) 1=some [uI b]/\Br (b=(-1)) (Lp [uB false,uI 1] V λI n V1=>∀c d,I n [uB c,uI d] V1->∀k:LMP,Nx I n k->Br (d<(a.n:Int)) (Ix a d (IY V1 a d λg=>Br (g<0) (R KQ V1) (Ix a d (IY V1 a d λi=>Br (d<=i) (R KQ V1) (IR (d+1)/\k [uB c,uI (d+1)] V1))))) (R KX V1)) (R KQ V)))):TT 27 #[uA #[uL a]] V R:=Ae Tryz.func27 h
end
end Go.Proofs
namespace Go.Proofs
open Go Go.Sx
set_option maxRecDepth 100000
section
variable{V:Mem}{R:RP}
def w6(a:KB)(b c d g i j k l o:Sl)(p:KB)(q:Sl):MR:=λV R=>Ag [uS p,uL q] 57 V λr V1=>TB 8 #[] V1 λs V2=>Br (s=true) (TB 9 #[uD a b c d g i j k,uL l] V2 λu V3=>Br (u=true) (R KX V3) (TB 9 #[uD a b c d g i j k,uL o] V3 λy V4=>Br (y=true) (R KX V4) (∃z A,V4.rowp r ((0:Int).toNat*1) 2=some [uS z,uL A]/\TB 19 #[uA #[uS z,uL A]] V4 λB V5=>Br (B=true) (R KX V5) (TT 10 #[uD a b c d g i j k,uL l] V5 λe V6=>∃C D F G H L M N O P Q U W X Y,e=rT #[uP C,uA #[uS D,uL F,uL G,uL H,uL L,uL M,uL N,uL O,uL P,uL Q,uL U,uI W,uI X],uB Y]/\Ag [uP none] 34 V6 λZ V7=>Ak (Aa Z 0) 0 [uP C] V7 λV8=>Br (Y=true) (∃a0,V8.rowp Z ((0:Int).toNat*1) 1=some [uP a0]/\Br (a0=none) (R (rV (uB Y)) V8) (TB 11 #[uA #[uS D,uL F,uL G,uL H,uL L,uL M,uL N,uL O,uL P,uL Q,uL U,uI W,uI X]] V8 λa1 V9=>Br (a1=true) (Lp [uB false,z0,uI 0] V9 λI n V10=>∀a2 a3 a4,I n [uB a2,uL a3,uI a4] V10->∀J0:LMP,Nx I n J0->Br (a4<(P.n:Int)) (TT 25 #[uI a4,uP (Aa Z 0),uP (Aa r 0)] V10 λe w=>∃S T t K x b0 b1 b2 b3,e=rT #[uA #[uL S,uL T,uI t,uI K,uI x,uI b0,uI b1,uI b2],uB b3]/\Br (b3=true) (Ag [uL S,uL T,uI t,uI K,uI x,uI b0,uI b1,uI b2] 74 w λb4 J=>Ap 71 73 76 (uL a3) (.slice (Aa b4 0) 1 1) J λb5 E=>IR (a4+1)/\J0 [uB a2,uL b5,uI (a4+1)] E) (R KQ w)) (Lp [uI 0] V10 λI n w=>∀S,I n [uI S] w->∀J1:LMP,Nx I n J1->Br (S<(o.n:Int)) (Ix o S (∃T t K,w.rowp o.p (S.toNat*3) 3=some [uI T,uS t,uL K]/\∃x,w.rowp Z ((0:Int).toNat*1) 1=some [uP x]/\TT 26 #[uP x,uI T,uA #[uS t,uL K],uI 120] w λe J=>∃b0 b1 b2 b3 b4 b5 b6,e=rT #[uI b0,uA #[uI b1,uI b2,uI b3,uI b4,uI b5],uI b6]/\IR (S+1)/\J1 [uI (S+1)] J)) (Lp [uB a2,uI 0] w λI n J=>∀T t,I n [uB T,uI t] J->∀J2:LMP,Nx I n J2->Br (t<(P.n:Int)) (TT 25 #[uI t,uP (Aa Z 0),uP (Aa r 0)] J λe E=>∃K x b0 b1 b2 b3 b4 b5 b6,e=rT #[uA #[uL K,uL x,uI b0,uI b1,uI b2,uI b3,uI b4,uI b5],uB b6]/\Br (b6=true) (Ix a3 t (¬(Aa a3.p (t.toNat*8))=none/\∃b7 b8 b9 c0 c1 c2 c3 c4,E.rowp a3.p (t.toNat*8) 8=some [uL b7,uL b8,uI b9,uI c0,uI c1,uI c2,uI c3,uI c4]/\TB 17 #[uA #[uL K,uL x],uA #[uL b7,uL b8]] E λc5 h=>Br (c5=true) (Ix a3 t (¬(Aa a3.p (t.toNat*8))=none/\∃c6 c7 c8 c9 d0 d1 d2 d3,h.rowp a3.p (t.toNat*8) 8=some [uL c6,uL c7,uI c8,uI c9,uI d0,uI d1,uI d2,uI d3]/\Br ((b0=c8)/\((b1=c9)/\((b2=d0)/\((b3=d1)/\(b4=d2))))) (Ix a3 t (¬(Aa a3.p (t.toNat*8))=none/\∃d4 d5 d6 d7 d8 d9 g0 g1,h.rowp a3.p (t.toNat*8) 8=some [uL d4,uL d5,uI d6,uI d7,uI d8,uI d9,uI g0,uI g1]/\Br (b5=g1) (IR (t+1)/\J2 [uB T,uI (t+1)] h) (R KQ h))) (R KQ h))) (R KQ h))) (R KQ E)) (∃K,J.rowp Z ((0:Int).toNat*1) 1=some [uP K]/\TT 23 #[uP K] J λe E=>∃x,e=rV (uA #[uL x])/\TB 27 #[uA #[uL x]] E λb0 h=>Br (b0=true) (Br ((P.n:Int)<=(x.n:Int)) ((0<=(0:Int)/\(0:Int)<=(P.n:Int)/\(P.n:Int)<=(x.c:Int))/\TB 22 #[.slice (if(x.c:Int)=(0:Int)then x.p else Aa x.p ((0:Int).toNat*1)) ((P.n:Int)-0).toNat ((x.c:Int)-0).toNat,uL P] h λb1 V15=>R (rV (uB b1)) V15) (R KQ h)) (R KQ h))))) (R (rV (uB Y)) V9))) (R (rV (uB Y)) V8))))) (R KQ V2)
theorem x6{a:KB}{b c d g i j k l o:Sl}{p:KB}{q:Sl}(h:w6 a b c d g i j k l o p q V R):TT 6 #[uD a b c d g i j k,uL l,uL o,uA #[uS p,uL q]] V R:=FJ Tryz.func6 [7,9] [] false (by kernel_rfl) (by kernel_rfl) h
end
end Go.Proofs
namespace Go.Proofs
open Go Go.Sx
attribute [local irreducible] Go.Sx.Tri
theorem own_pre{α:Type}{V0 V:Mem}{e:TypeId}{sz:Nat}{s:Sl}{row:α->List Value}{xs:List α}(h:Sx.Own V0 V e sz s (xs.flatMap row))(t:∀x,(row x).length=sz)(g:0<sz){k:Nat}(y:k<=xs.length):
  Ab V ⟨if(s.c:Int)=(0:Int)then s.p else Aa s.p ((0:Int).toNat*sz),((k:Int)-0).toNat,((s.c:Int)-0).toNat⟩ sz ((xs.take k).map row):=by
 have R:=h.rows t g;have j:=R.n_eq;have n:=R.cap;have u:(if(s.c:Int)=(0:Int)then s.p else Aa s.p ((0:Int).toNat*sz))=s.p:=by
  by_cases w:s.c=0;·simp_all
  ·rw[if_neg (by omega)];exact own_p0 h w sz
 refine⟨by simp;omega,by grind,by have:=R.fit;simp_all,λr z=>?_,λi r o=>?_⟩;·grind
 ·rw[u];refine R.at_ i r ?_;grind
theorem LM{V V' D k:Mem}{e sz:Nat}{s:Sl}{vs:List Value}(o:Sx.Own V V' e sz s vs)(t:D.sub k)(u:∀b,V b=none->D b=none/\k b=V' b):Sx.Own D k e sz s vs:=⟨t,o.len,by
 rcases o.at_ with h|⟨g,cur,a,b,c,dd⟩;·exact .inl h
 simp_all⟩
theorem lay_catch{V V' D g:Mem}{gs ns ls:Sl}{nd:List Nd}{st:St}(L:AJ V V' gs ns ls nd st)(h:D.sub g)(k:∀b,V b=none->D b=none/\g b=V' b):AJ D g gs ns ls nd st:=
 ⟨LM L.glob h k,LM L.nodes h k,LM L.log h k,λn t=>LM (L.fld n t) h k,L.eq,L.gf,L.ff⟩
def B9(s s':PsS):Prop:=∃t,s'.vs=s.vs++t
section
variable{V D:Mem}{p:Nat}{d:Ds}{s s':PsS}{v F:Int}{nm:KB}{args:List Int}{cl:Sl}
theorem B9.next(h:B9 s s'){r:Rx Int}{er:Int}:B9 s (CL d s' v r er):=by
 obtain⟨t,h⟩:=h;unfold CL G5;split
 ·split;·exact⟨_,by rw[h,List.append_assoc]⟩
  ·exact⟨t,h⟩
 ·exact⟨t,h⟩
theorem B9.at_(h:B9 s s')(hv:Bm s v):Bm s' v/\Bo s' v=Bo s v/\memS (s'.vs.map PsV.pv) v=memS (s.vs.map PsV.pv) v:=by
 obtain⟨t,h⟩:=h;have k:=hv.1;have h1:=hv.2;have g:v.toNat<s.vs.length:=by omega
 refine⟨⟨hv.1,by grind⟩,?_,?_⟩;·grind[Bo]
 grind[memS]
theorem B9.run(h:B9 s s')(hv:Bm s v){n:Nat}:AH d F s' v nm args=AH d F s v nm args/\AZ d n s' v nm args=AZ d n s v nm args:=by
 obtain⟨h1,-,h3⟩:=h.at_ hv;simp_all[Gx,AH,CR,if_pos,AZ,psMem]
theorem Sw{o:Sl}{xs:List Int}(h:Ab V o 1 (xs.map Ah))(h1:xs[0]?=some (-1))(I:xs.length<=1000)(N:∀(i:Nat) x,xs[i]?=some x->0<i->0<=x/\x<(i:Int)):PP 27 [.agg #[o.v]] V (.bool true):=by
 refine Sv ?_;have Z:=h.n_eq;have t:0<xs.length:=(List.getElem?_eq_some_iff.1 h1).1;refine⟨λh=>absurd (show(o.n:Int)<1 from h) (by omega),λ_=>⟨λh=>absurd (show(1000:Int)<(o.n:Int)from h) (by omega),λ_=>?_⟩⟩;obtain⟨x,-,G,-,-,r,M,u⟩:=h.get (i:=0) (by omega);rw[h1]at G;cases G;refine⟨r,Int.le_refl _,by omega,_,u,λ_=>?_,λh=>absurd rfl h⟩;refine⟨λn Y V'=>∃i:Nat,n=xs.length-i/\1<=i/\i<=xs.length/\Y=[.bool false,.int .i64 (i:Int)]/\V'=V,_,⟨1,rfl,Nat.le_refl _,t,rfl,rfl⟩,?_⟩;rintro n V1 L X ⟨i,rfl,W,B,w,rfl⟩ J Q;simp only[yJ,and_true]at w;obtain⟨P,O⟩:=w;cases inj_b _ _ P;cases BX _ _ O;refine⟨λg=>?_,λ_=>⟨rfl,rfl⟩⟩;obtain⟨y,-,A,-,H,z,j,k⟩:=h.get g;have C:=N i y A (by omega);exact⟨z,j,g,y,k,λh=>absurd (show y<0 from h) (by omega),λ_=>⟨z,j,g,y,k,λh=>absurd (show(i:Int)<=y from h) (by omega),λ_=>⟨⟨by omega,by omega⟩,Q _ _ _ (show xs.length-(i+1)<xs.length-i by omega) ⟨i+1,rfl,by omega,H,rfl,rfl⟩⟩⟩⟩
theorem BI.tree(h:BI D V p d s):(s.vs.map PsV.par)[0]?=some (-1)/\∀(i:Nat) x,(s.vs.map PsV.par)[i]?=some x->0<i->0<=x/\x<(i:Int):=by
 obtain⟨q,vl,gl,nl,tr,gs,ns,H⟩:=h;have I:=H.inv;rw[<-I.par];refine⟨?_,λi x k g=>?_⟩
 ·obtain⟨a,b,l,e⟩:=I.trok.z;rw[e];rfl
 ·rw[List.getElem?_map]at k;cases e:tr[i]? with
  |none=>simp_all
  |some t=>
   rw[e]at k;cases k;have:=I.trok.par i t e;simp_all
section
variable{q:Nat}{vl gl nl:Sl}{tr:List Tv}{g2:List Gl}{n2:List Nn}
theorem staysC[Tab D](H:Fc D V p q d vl gl nl tr g2 n2 s)(y:Ds.Ok D d)(k:s.vs.length<=900)(hv:Bm s v){b1 b2 r o:Nat}(h1:D b1=some (cell (pv p) r))(h2:D b2=some (.cells #[.string nm,cl.v] o (0,0)))(J:Ab D cl 1 (args.map Ah)){a1 a2 a3 j i:Int}(G:Dn (AH d 120 s v nm args) (AZ d 120 s v nm args)=.agg #[.int .i64 a1,.int .i64 a2,.int .i64 a3,.int .i64 j,.int .i64 i]):
  Tri Tryz.prog 25 #[.int .i64 v,pv b1,pv b2] V λe V'=>∃u gs ns nd,D.sub u/\Bi u V' (At p q d vl gl nl s.wr vl tr gl g2 nl n2 n2)/\AJ D u gs ns Af nd (Bf (AY (Bo s v).m))/\e=.returned (.tuple #[.agg #[gs.v,ns.v,.int .i64 a1,.int .i64 a2,.int .i64 a3,.int .i64 j,.int .i64 i,.int .i64 (AH d 120 s v nm args)],.bool true]):=by
 refine Su ?_;have t:=H.bs.sub;refine⟨some ⟨p,0,none⟩,An (t _ _ h1),Tri.mono (Kd ⟨q,vl,gl,nl,tr,g2,n2,H⟩ y (by omega)) ?_⟩;rintro _ V1 ⟨w,⟨N,-⟩|⟨-,x,gs,ns,nd,Z,rfl,Y⟩⟩;·grind
 have z:=(Gw Z).1;obtain⟨W,h,Q,P⟩:=H.bs.catch w;have O:=lay_catch Y h λb n=>⟨Cz t n,P b n⟩;haveI:Tab W:=Tab.sub (V:=D) inferInstance h;refine⟨gs,ns,_,rfl,some ⟨p,0,none⟩,An (w _ _ (t _ _ h1)),nm,cl,Aj (w _ _ (t _ _ h2)) 0 2 (by simp),Tri.mono (peekB (v:=v) (nm:=nm) (F:=120) (H.more h Q) (y.sub h) (J.sub h) (.inl (by decide)) k) ?_⟩;rintro _ V2 ⟨A,g,I,rfl⟩;rw[show(120:Int).toNat=120 from rfl,G];refine⟨_,_,_,_,_,_,rfl,A,gs,ns,nd,h.trans g,I,?_,rfl⟩;rw[z];exact O.grow g
end
end
structure Sn where
 gs:Sl
 ns:Sl
 a:Int
 b:Int
 c:Int
 e:Int
 f:Int
 er:Int
def Sn.row(x:Sn):List Value:=[x.gs.v,x.ns.v,.int .i64 x.a,.int .i64 x.b,.int .i64 x.c,.int .i64 x.e,.int .i64 x.f,.int .i64 x.er]
theorem appSn:AppP 76 74 8 Sn.row:=appG Tryz.underlying76 (by kernel_rfl) (by kernel_rfl) (by kernel_rfl) (by kernel_rfl) (by kernel_rfl) (by decide) (by intro _;rfl) λx u hu=>by simp only[Sn.row,Sl.v,List.mem_cons,List.not_mem_nil,or_false]at hu;rcases hu with rfl|rfl|rfl|rfl|rfl|rfl|rfl|rfl<;>rfl
def SnOk(W:Mem)(d:Ds)(s:PsS)(nm:KB)(args:List Int)(v:Int)(x:Sn):Prop:=
 (∃g nd,Mm.Ok W ⟨x.gs,g,x.ns,nd⟩/\(⟨x.gs,g,x.ns,nd⟩:Mm).plain=(AY (Bo s v).m).plain)/\Dn (AH d 120 s v nm args) (AZ d 120 s v nm args)=.agg #[.int .i64 x.a,.int .i64 x.b,.int .i64 x.c,.int .i64 x.e,.int .i64 x.f]/\x.er=AH d 120 s v nm args
theorem SnOk.sub{W k:Mem}{d:Ds}{s:PsS}{nm:KB}{args:List Int}{v:Int}{x:Sn}(h:SnOk W d s nm args v x)(t:W.sub k):SnOk k d s nm args v x:=by
 obtain⟨⟨g,nd,h1,h2⟩,h3,h4⟩:=h;exact⟨⟨g,nd,h1.sub t,h2⟩,h3,h4⟩
theorem but_out{V:Mem}{o:Sl}{c:Nat}(h:¬AP o c):(V.but o) c=V c:=by
 grind[Mem.but]
theorem sub_but{W D:Mem}{e sz:Nat}{o:Sl}{vs:List Value}(k:Sx.Own W D e sz o vs):W.sub (D.but o):=λc x g=>by
 have h:¬AP o c:=λh=>by grind[Own.none0]
 rw[but_out h];exact k.sub _ _ g
section
variable{V:Mem}{d:Ds}{l m cl:Sl}{xs ms:List Sq}{nm:KB}{args:List Int}
theorem Sy[Tab V](hAw:∀{U:Mem} [Tab U],PP 8 [] U (.bool true))(S:Ds.Ok V d)(hl:Fe V l xs)(hm:Fe V m ms)(hc:Ab V cl 1 (args.map Ah)):PP 6 [d.v,l.v,m.v,.agg #[.string nm,cl.v]] V (.bool true):=by
 obtain⟨R,hR⟩:∃R:Ending->Mem->Prop,R=λe V'=>e=.returned (.bool true)/\V.sub V':=⟨_,rfl⟩;refine Bn.mk ?_;rw[<-hR];refine x6 ?_;unfold w6;have Z:∀{V':Mem},V.sub V'->R (.returned (.bool true)) V':=λh=>by simp_all
 intro tb htb;have Y:=Mem.sub_new htb (.cells #[.string nm,cl.v] 57 (0,0));have A:(V.set tb (.cells #[.string nm,cl.v] 57 (0,0))) tb=some (.cells #[.string nm,cl.v] 57 (0,0)):=Mem.set_same _ _ _;obtain⟨V1,hV1⟩:∃V1,V1=V.set tb (.cells #[.string nm,cl.v] 57 (0,0)):=⟨_,rfl⟩;show Tri _ _ _ (V.set tb (.cells #[.string nm,cl.v] 57 (0,0))) _;rw[<-hV1]at Y A⊢;haveI:Tab V1:=Tab.sub (V:=V) inferInstance Y;refine hAw.call ⟨_,rfl,λ_=>?_,λh=>absurd rfl h⟩;refine Tri.mono (c9 (S.sub Y) (hl.sub Y)) ?_;rintro _ _ ⟨rfl,b1,rfl,hb⟩;refine⟨b1,rfl,λ_=>Z Y,λhbf=>?_⟩;have O:=hb ((tC _).mp hbf);refine Tri.mono (c9 (S.sub Y) (hm.sub Y)) ?_;rintro _ _ ⟨rfl,b2,rfl,hb2⟩;refine⟨b2,rfl,λ_=>Z Y,λhbf2=>⟨nm,cl,Aj A 0 2 (by simp),?_⟩⟩;have hx2:=hb2 ((tC _).mp hbf2);refine Tri.mono NF ?_;rintro _ _ ⟨rfl,b3,rfl⟩;refine⟨b3,rfl,λ_=>Z Y,λ_=>?_⟩;refine Tri.mono (J7 (S.sub Y) (hl.sub Y) (by omega)) ?_;rintro _ V6 ⟨s6,⟨hG,rfl⟩|⟨G,p,D6,P,M,I,s,rfl,hD,A6,hRf,hl1,hl2⟩⟩
 ·refine⟨none,Ad [],Af,Af,Af,Af,Af,Af,Af,Af,Af,Af,0,0,true,rfl,λb C=>Ak.cell (v':=.pointer none) (t:=34) Au ⟨λ_=>⟨none,An Au,λ_=>Z ?_,λh=>absurd rfl h⟩,λh=>absurd rfl h⟩⟩;rw[Mem.set_set];exact Y.trans (s6.trans (Mem.sub_new C _))
 obtain⟨q,vl,gl,nl,tr,g2,n2,H6⟩:=A6;have K:PsOk d s:=BI.ok ⟨q,vl,gl,nl,tr,g2,n2,H6⟩;have hPn:=hRf.pn;refine⟨_,_,_,_,_,_,_,_,_,_,_,_,_,_,_,rfl,λb C=>Ak.cell (v':=.pointer none) (t:=34) Au ?_⟩;rw[Mem.set_set];have e6:=H6.bs.sub;have B8:=H6.bs.pub C (cell (pv p) 34);have L:=Mem.sub_new (Cz e6 C) (cell (pv p) 34);have w:(D6.set b (cell (pv p) 34)) b=some (cell (pv p) 34):=Mem.set_same _ _ _;obtain⟨T,hD8e⟩:∃T,T=D6.set b (cell (pv p) 34):=⟨_,rfl⟩;obtain⟨V8,hV8e⟩:∃V8,V8=V6.set b (cell (pv p) 34):=⟨_,rfl⟩;rw[<-hD8e]at B8 L w;rw[<-hV8e]at B8⊢;have H8:=H6.more L B8;have z1:V1.sub T:=hD.trans L;have z8:V.sub T:=Y.trans z1;have bx8:=z1 _ _ A;have e8:=B8.sub;refine⟨λ_=>⟨some ⟨p,0,none⟩,An (e8 _ _ w),λh=>absurd h nn,λ_=>?_⟩,λh=>absurd rfl h⟩;refine Tri.mono (c11 ((hRf.sub L).sub e8).mr) ?_;rintro _ _ ⟨rfl,b4,rfl⟩;refine⟨b4,rfl,λ_=>?_,λ_=>Z (z8.trans e8)⟩;refine⟨λn ys U=>∃(i:Nat)(o:Sl)(rs:List Sn)(W D:Mem),n=s.vs.length-i/\i<=s.vs.length/\ys=[.bool false,.slice o.p o.n o.c,.int .i64 (i:Int)]/\T.sub W/\Sx.Own W D 74 8 o (rs.flatMap Sn.row)/\Bi D U (At p q d vl gl nl s.wr vl tr gl g2 nl n2 n2)/\rs.length=i/\(∀(j:Nat) x,rs[j]?=some x->SnOk W d s nm args (j:Int) x),s.vs.length,⟨0,Af,[],T,T,rfl,Nat.zero_le _,rfl,Mem.sub.refl _,Own.nil (Mem.sub.refl _) _ _,B8,rfl,by simp_all⟩,?_⟩;rintro n U v37 o v39 ⟨i,o0,rs,W,D,rfl,hi,hys,hW,ho,BU,hrl,hrs⟩ J hJ;simp only[yJ,and_true]at hys;obtain⟨q1,q2,q3⟩:=hys;cases inj_b _ _ q1;cases Bb _ _ q2;cases BX _ _ q3;have N:=hW.trans ho.sub;have HU:=H8.more N BU;have zD:=z8.trans N;haveI:Tab D:=Tab.sub (V:=V) inferInstance zD;refine⟨λz=>?_,λhge=>?_⟩
 ·have z:(i:Int)<(P.n:Int):=z;have hv:Bm s (i:Int):=⟨by omega,by omega⟩;obtain⟨a1,a2,a3,a4,a5,eo⟩:=LB (AH d 120 s (i:Int) nm args) (AZ d 120 s (i:Int) nm args);refine Tri.mono (staysC HU (S.sub zD) (by omega) hv (N _ _ w) (N _ _ bx8) (hc.sub zD) eo) ?_;rintro _ U2 ⟨D2,gs,ns,nd,y,B2,L2,rfl⟩;refine⟨gs,ns,_,_,_,_,_,_,_,rfl,λ_=>?_,λh=>absurd rfl h⟩;intro c hcb;obtain⟨W2,hDW2,hWU2,hq2⟩:=B2.use;have o2:=Own.growS ho (y.trans hDW2);have sb:=sub_but o2;have L3:=lay_catch (L2.grow hDW2) sb λb' hb'=>⟨Cz ho.sub hb',but_out λhk=>by
   grind[Own.some]⟩
  have zW:=z8.trans hW;obtain⟨am,ap⟩:=lay_ok (S.sub zW) (K.good _ (x8 (LL hv))) L3;refine pushW appSn (x:=(⟨gs,ns,a1,a2,a3,a4,a5,AH d 120 s (i:Int) nm args⟩:Sn)) (λ_=>rfl) At.over ⟨W2,o2.but,hq2⟩ hcb (by omega) rfl rfl rfl λo' U3 hq3=>⟨o',rfl,⟨by omega,by omega⟩,?_⟩;obtain⟨W3,o3,hq3⟩:=hq3;refine hJ _ _ _ (show s.vs.length-(i+1)<s.vs.length-i by omega) ⟨i+1,o',rs++[⟨gs,ns,a1,a2,a3,a4,a5,AH d 120 s (i:Int) nm args⟩],W2.but o,W3,rfl,by omega,rfl,hW.trans sb,o3,Bi.mk At.over hq3 (Mem.sub.refl _),by grind,λj x O=>?_⟩;by_cases hj:j<rs.length
  ·rw[List.getElem?_append_left hj]at O;exact(hrs j x O).sub sb
  ·rw[List.getElem?_append_right (by omega)]at O;have hji:j=rs.length:=by
    grind
   subst hji;rw[Nat.sub_self,List.getElem?_cons_zero]at O;cases O;rw[hrl];exact⟨⟨_,nd,am,ap⟩,eo,rfl⟩
 have hge:¬(i:Int)<(P.n:Int):=hge;have ro:=ho.rows (row:=Sn.row) (λ_=>rfl) (by decide);have hsn:∀(j:Nat) x,rs[j]?=some x->SnOk D d s nm args (j:Int) x:=λj x O=>(hrs j x O).sub ho.sub;refine E4 ms.length (λj U'=>∃D' s',D.sub D'/\BI D' U' p d s'/\B9 s s'/\s'.vs.length<=s.vs.length+j) ⟨D,s,Mem.sub.refl _,⟨q,vl,gl,nl,tr,g2,n2,HU⟩,⟨[],(List.append_nil _).symm⟩,by omega⟩ ?_;rintro j U1 J hj ⟨D1,E,Q,A1,pr,hl1'⟩ hJ;have X:=zD.trans Q;haveI:Tab D1:=Tab.sub (V:=V) inferInstance X;have e1:=A1.sub;have hm1:=hm.sub (X.trans e1);have c1:=Q _ _ (N _ _ w);refine⟨λz=>?_,λhge2=>?_⟩
 ·obtain⟨x,hxm,O,-,hjl,hp,hz,H⟩:=hm1.rows.get z;refine⟨hp,hz,z,_,_,_,H,some ⟨p,0,none⟩,An (e1 _ _ c1),Tri.mono (Nw (v:=x.ver) A1 (S.sub X) ((hm.args x hxm).sub X) (F:=120) (.inl (by decide)) (by omega)) ?_⟩;rintro _ U2 ⟨D5,hD5,A5,rfl⟩;obtain⟨a1,a2,a3,a4,a5,eo⟩:=LB (AH d 120 E x.ver x.nm x.args) (AZ d (120:Int).toNat E x.ver x.nm x.args);rw[resV_eq,eo];have hne:=Pk (d:=d) (s:=E) (v:=x.ver) (r:=AZ d (120:Int).toNat E x.ver x.nm x.args) (er:=AH d 120 E x.ver x.nm x.args);exact⟨_,_,_,_,_,_,_,rfl,hm1.rows.succ z,hJ (by omega) _ ⟨D5,_,Q.trans hD5,A5,pr.next,by omega⟩⟩
 have hpl:s.vs.length<=E.vs.length:=by
  obtain⟨t,ht⟩:=pr;grind
 refine AE (mk:=.bool) (b0:=false) s.vs.length (λk U'=>∃D',D1.sub D'/\BI D' U' p d E) ⟨D1,Mem.sub.refl _,A1⟩ ?_;rintro k bb U2 J hk ⟨D2,y,A2⟩ hJ;have z2:=X.trans y;haveI:Tab D2:=Tab.sub (V:=V) inferInstance z2;have c2:=y _ _ c1;refine⟨λz=>?_,λhge3=>?_⟩
 ·have z:(k:Int)<(P.n:Int):=z;have hv:Bm s (k:Int):=⟨by omega,by omega⟩;obtain⟨hv1,hpa,-⟩:=pr.at_ hv;obtain⟨pe,pR⟩:=pr.run (d:=d) (F:=120) (n:=120) (nm:=nm) (args:=args) hv;have hon:=ro.n_eq;obtain⟨x,-,O,-,-,-,-,-⟩:=ro.get (i:=k) (by omega);obtain⟨⟨g,nd,hmo,hpl'⟩,hres,her⟩:=hsn k x O;rw[<-pe,<-pR]at hres;have K2:=A2.ok;obtain⟨q',vl',gl',nl',tr',g2',n2',H2⟩:=A2;refine Tri.mono (staysC H2 (S.sub z2) (by omega) hv1 c2 (y _ _ (Q _ _ (N _ _ bx8))) (hc.sub z2) hres) ?_;rintro _ U3 ⟨D3,gs,ns,nd',hD3,B3,L3,rfl⟩;refine⟨gs,ns,_,_,_,_,_,_,_,rfl,λ_=>?_,λh=>absurd rfl h⟩;have e3:=B3.sub;have up:D.sub U3:=Q.trans (y.trans (hD3.trans e3));have ro3:=ro.sub up;obtain⟨x',-,hx',-,-,hp,hz,H⟩:=ro3.get (i:=k) (by omega);rw[O]at hx';cases hx';have B:(k:Int)<(o.n:Int):=by omega
  obtain⟨am,ap⟩:=lay_ok (S.sub z2) (K2.good _ (x8 (LL hv1))) L3;have heq:(⟨gs,(AY (Bo E (k:Int)).m).globals,ns,nd'⟩:Mm).plain=(⟨x.gs,g,x.ns,nd⟩:Mm).plain:=by grind
  refine⟨hp,hz,B,Al hp,_,_,_,_,_,_,_,_,H,(LK (am.sub e3) (hmo.sub up)).call ⟨_,rfl,λ_=>⟨hp,hz,B,Al hp,_,_,_,_,_,_,_,_,H,λ_=>⟨hp,hz,B,Al hp,_,_,_,_,_,_,_,_,H,λ_=>⟨⟨by omega,by omega⟩,hJ (by omega) _ _ ⟨D3,y.trans hD3,q',vl',gl',nl',tr',g2',n2',H2.more hD3 B3⟩⟩,λh=>absurd (pe.trans her.symm) h⟩,λh=>absurd ⟨rfl,rfl,rfl,rfl,rfl⟩ h⟩,λh=>absurd (decide_eq_true heq) h⟩⟩
 ·have e2:=A2.sub;refine⟨some ⟨p,0,none⟩,An (e2 _ _ c2),Tri.mono (LJ A2 (by omega)) ?_⟩;rintro _ U3 ⟨u,rfl,hu⟩;have ur:=hu.rows (row:=Ah) (λ_=>rfl) (by decide);have hun:=ur.n_eq;rw[List.length_map]at hun;obtain⟨t0,tp⟩:=A2.tree;have up:T.sub U3:=N.trans (Q.trans (y.trans (e2.trans hu.sub)));refine⟨u,rfl,(Sw ur t0 (by grind) tp).call ⟨_,rfl,λ_=>⟨λ_=>?_,λh=>absurd (show(P.n:Int)<=(u.n:Int)by omega) h⟩,λh=>absurd rfl h⟩⟩;have hcap:=ur.cap;have R1:=own_pre (row:=Ah) (k:=P.n) hu (λ_=>rfl) (by decide) (by grind);have he:(E.vs.map PsV.par).take P.n=s.vs.map PsV.par:=by
   obtain⟨t,ht⟩:=pr;grind
  rw[he]at R1;refine⟨⟨Int.le_refl _,by omega,by omega⟩,(c22 R1 ((hRf.pr.sub L).sub up)).call ⟨_,rfl,?_⟩⟩;rw[decide_eq_true rfl];exact Z (z8.trans up)
end
end Go.Proofs
