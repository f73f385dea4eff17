/- Part 22: no statement of the seat is proved here. -/
import Derived.Test.YtcebnmieadkjfaaGreatDoorPg21
set_option linter.unusedVariables false
set_option linter.unusedSimpArgs false
open List renaming mem_singleton->zO,not_mem_nil->xD
namespace Go.Proofs
open Go Go.Sx
attribute [local irreducible] Go.Sx.Tri
section
variable{σ:Nat->Sl}
theorem ex_mild:Mild (AA σ):=by
 refine⟨λm h=>?_,λt h=>?_,λg h=>?_,of_decide_eq_true (by kernel_rfl),of_decide_eq_true (by kernel_rfl),of_decide_eq_true (by kernel_rfl)⟩
 ·rw[show(AA σ).measures=[(AA σ).measures.getD 0 ⟨sE,sE,0,FA⟩]from rfl]at h;rw[zO.1 h];exact⟨of_decide_eq_true (by kernel_rfl),⟨of_decide_eq_true (by kernel_rfl),of_decide_eq_true (by kernel_rfl)⟩,by kernel_rfl⟩
 ·rw[show(AA σ).types=[⟨AU,σ 2,xTF⟩]from rfl]at h;rw[zO.1 h];refine⟨of_decide_eq_true (by kernel_rfl),of_decide_eq_true (by kernel_rfl),λf k=>?_⟩;have k:f∈xTF:=k;simp only[xTF,List.mem_cons,xD,or_false]at k;rcases k with rfl|rfl<;>decide
 ·rw[show(AA σ).globals=[⟨Dc,AU⟩]from rfl]at h;rw[zO.1 h];decide
def exPr(σ:Nat->Sl):Pr:=(AA σ).procs.getD 0 ⟨sE,Ag,[],sE,Ag,[],Ag,[]⟩
theorem ex_mild2:Mild2 (AA σ):=by
 refine⟨λp h=>?_,λm h=>?_,λm h=>?_,of_decide_eq_true (by kernel_rfl),of_decide_eq_true (by kernel_rfl),rfl,rfl⟩
 ·rw[show(AA σ).procs=[exPr σ]from rfl]at h;rw[zO.1 h];exact⟨of_decide_eq_true (by kernel_rfl),of_decide_eq_true (by kernel_rfl),of_decide_eq_true (by kernel_rfl)⟩
 ·rw[show(AA σ).measures=[(AA σ).measures.getD 0 ⟨sE,sE,0,FA⟩]from rfl]at h;rw[zO.1 h];exact of_decide_eq_true (by kernel_rfl)
 ·rw[show(AA σ).invs=[Dx σ]from rfl]at h;rw[zO.1 h];exact of_decide_eq_true (by kernel_rfl)
def exNames:List KB:=[sMeas++EP,GH++AU,GI++Bq]
section
variable{V:Mem}{d:Ds}{nm:KB}
theorem PY[Tab V](k:Ds.Ok V d)(hv:A7 d=true)(g:BJ d=none):PP 44 [d.v] V (.bool true):=by
 refine A1.mk (NQ ?_);have h:=J8 scopeC newC k;rw[if_pos hv,g]at h;exact h.call ⟨_,_,_,rfl,rfl,Mem.sub.refl _⟩
theorem PZ{b t:Nat}(h:V b=some (cell (.string nm) t)){v:Iv}:PP 45 [v.v,pv b] V (.bool (decide (v.name=nm))):=by
 refine NR ?_;exact⟨_,Ax h,rfl,rfl⟩
theorem P0{b t p:Nat}(h:V b=some (cell (pv p) t))(k:KP V p d){v:Fld}:PP 47 [v.v,pv b] V (.bool (decide (v.name=FF))):=by
 refine NU ?_;exact⟨_,Ax h,nn,nn,_,k.param,rfl,rfl⟩
theorem P1[Tab V]{p:Pr}:PP 50 [p.v] V (.bool (!A6 p.name)):=by
 refine NW ?_;exact DL.call ⟨_,rfl,rfl,rfl⟩
theorem P2{b t:Nat}{p q:Pr}(h:V b=some (.cells p.row.toArray t (0,0))):PP 53 [q.v,pv b] V (.bool (decide (q.name=p.name))):=by
 refine NZ ?_;exact⟨nn,_,An h 0 1 (by simp[Pr.row]),rfl,rfl⟩
theorem P3{b t:Nat}(k:Ds.Ok V d){p:Pr}(g:V b=some (.cells d.row.toArray t (0,0))):PP 52 [p.v,pv b] V (.bool (d.procs.any λq=>decide (q.name=p.name))):=by
 refine A1.mk (NY ?_);refine⟨nn,d.ps,An g 3 1 (by simp[Ds.row]),λc f=>?_⟩;have h:=Mem.sub_new f (.cells p.row.toArray 74 (0,0));exact(HS (first:=[]) (caps:=[pv c]) (k.procs.sub h) Tryz.call53 (λq=>decide (q.name=p.name)) (λq _=>P2 Ao)).call ⟨_,rfl,rfl,h⟩
theorem ex_not:Bf (.mk 18 0 sE Ag [carE (Dx σ).x])=true:=by kernel_rfl
theorem any_names{l:List Pr}{ns:List KB}(h:l.map (·.name)=ns){f:KB->Bool}(k:ns.any f=false):(l.any λp=>f p.name)=false:=by
 rw[<-h,List.any_map]at k;exact k
theorem exGenerate[Tab V](D:Ds.Ok V (AA σ)):Tri Tryz.prog 20 #[(AA σ).v,.string Bq] V λr V'=>V.sub V'/\∃(o:Ds)(l:List Pr),r=.returned (.tuple #[o.v,.int .i64 0])/\Ad V' o.ps 5 (l.map Pr.row)/\l.length=4/\(l[3]?).map (·.name)=some (GI++Bq):=by
 obtain⟨R,hR⟩:∃R:Ending->Mem->Prop,R=λr V'=>V.sub V'/\∃(o:Ds)(l:List Pr),r=.returned (.tuple #[o.v,.int .i64 0])/\Ad V' o.ps 5 (l.map Pr.row)/\l.length=4/\(l[3]?).map (·.name)=some (GI++Bq):=⟨_,rfl⟩;rw[<-hR];refine OK ?_;refine(PY D Hw ex_chk).call ⟨_,rfl,λ_ b hb=>?_,λh=>absurd rfl h⟩;have s2:=Mem.sub_new hb (cell (.string Bq) 9);have O:=D.sub s2;refine(Kq (first:=[]) (caps:=[pv b]) O.invs Tryz.call45 (λt=>decide (t.name=Bq)) (λv _=>PZ Ao)).call ?_;rw[show Ci (λt:Iv=>decide (t.name=Bq)) (AA σ).invs=0 by kernel_rfl];obtain⟨V3,hV3⟩:∃V3,V3=V.set b (cell (.string Bq) 9):=⟨_,rfl⟩;show ∃v11,_=rV (uI v11)/\_;change Ds.Ok (V.set b (cell (.string Bq) 9)) (AA σ)at O;refine⟨0,rfl,λh=>absurd h (by decide),λ_ c hc p Q=>?_⟩;have K:p≠c:=λe=>by rw[e,Mem.set_same]at Q;cases Q
 have F:V.sub (V.set b (cell (.string Bq) 9)):=s2;refine As.cell (t:=117) ((Mem.sub_new Q _) _ _ Ao) ?_;obtain⟨S,G⟩:∃S,S=(((V.set b (cell (.string Bq) 9)).set c (.cells #[uP none] 117 (0,0))).set p (.cells ((AA σ).row++[Value.string FF]).toArray 119 (0,0))).set c (cell (uP (sa p)) 117):=⟨_,rfl⟩;have L:KP S p (AA σ):=by
  unfold KP;rw[G,Mem.set_ne K,Mem.set_same]
 have g:S c=some (cell (uP (sa p)) 117):=by rw[G,Mem.set_same]
 have B:V.sub S:=λx o hx=>by
  have A:=s2 _ _ hx;have xc:x≠c:=λe=>by rw[e,hc]at A;cases A
  have xp:x≠p:=λe=>by subst e;rw[Mem.set_ne K]at Q;rw[Q]at A;cases A
  rw[G,Mem.set_ne xc,Mem.set_ne xp,Mem.set_ne xc];exact A
 subst G;refine⟨λ_ _ X=>V.sub X/\KP X p (AA σ)/\X c=some (cell (uP (sa p)) 117),0,⟨B,L,g⟩,?_⟩;clear B L g O s2 F Q hc hb;rintro n X ⟨B,L,g⟩ J -
 have m:=D.sub B;haveI:Tab X:=Tab.sub (V:=V) inferInstance B;refine(HR (first:=[]) (caps:=[pv c]) m.globals Tryz.call47 (λf=>decide (f.name=FF)) (λf _=>P0 g L)).call ⟨_,rfl,λh=>absurd h (by rw[show((AA σ).globals.any λf=>decide (f.name=FF))=false by kernel_rfl];decide),λ_=>⟨_,Ax g,?_⟩⟩;have iv:(AA σ).invs[0]?=some (Dx σ):=rfl;have T:Dx σ∈(AA σ).invs:=List.mem_of_getElem? iv;have inn:(AA σ).is.n=1:=m.invs.n_eq;have get:∀{Y:Mem},X.sub Y->¬(AA σ).is.p=none/\(0:Int)<=(0:Int)/\(0:Int)<((AA σ).is.n:Int)/\Y.rowp (AA σ).is.p (0*6) 6=some (Dx σ).row:=λ{Y} hs=>by
  obtain⟨y,-,hy,-,-,Q,hz,U⟩:=(m.invs.sub hs).get (i:=0) (by omega);rw[iv]at hy;cases hy;exact⟨Q,hz,by omega,U⟩
 obtain⟨g1,g2,g3,g4⟩:=get (Mem.sub.refl X);refine⟨g1,g2,g3,_,_,_,_,_,_,g4,Tri.mono (PL L m ex_mild (v:=Dx σ) (show AU≠sE by decide) (of_decide_eq_true (by kernel_rfl)) (m.invsOk _ T) (k:=1) (by kernel_rfl)) ?_⟩;rintro _ C ⟨s9,sl,l,rfl,hl,j⟩;have j:l.map (·.name)=exNames:=j;have s69:=B.trans s9;haveI:Tab C:=Tab.sub (V:=V) inferInstance s69;refine⟨sl,rfl,(HS (first:=[]) (caps:=[]) hl Tryz.call50 (λp=>!A6 p.name) (λp _=>P1)).call ⟨_,rfl,λh=>absurd h (by rw[any_names (f:=λs=>!A6 s) j (by kernel_rfl)];decide),λ_ b2 hb2=>?_⟩⟩;have I:=Mem.sub_new hb2 (.cells (AA σ).row.toArray 30 (0,0));have a:(C.set b2 (.cells (AA σ).row.toArray 30 (0,0))) b2=some (.cells (AA σ).row.toArray 30 (0,0)):=Mem.set_same _ _ _;have F:V.sub (C.set b2 (.cells (AA σ).row.toArray 30 (0,0))):=s69.trans I;have hX:X.sub (C.set b2 (.cells (AA σ).row.toArray 30 (0,0))):=s9.trans I;have w:=D.sub F;have z:=hl.sub I;obtain⟨Y,hY⟩:∃Y,Y=C.set b2 (.cells (AA σ).row.toArray 30 (0,0)):=⟨_,rfl⟩;rw[<-hY]at a F hX w z;show Tri _ _ _ (C.set b2 (.cells (AA σ).row.toArray 30 (0,0))) _;rw[<-hY];haveI:Tab Y:=Tab.sub (V:=V) inferInstance F;refine(HS (first:=[]) (caps:=[pv b2]) z Tryz.call52 (λp=>(AA σ).procs.any λq=>decide (q.name=p.name)) (λp _=>P3 w a)).call ⟨_,rfl,λh=>absurd h (by rw[any_names (f:=λs=>(AA σ).procs.any λq=>decide (q.name=s)) j (by kernel_rfl)];decide),λ_=>?_⟩;have hll:l.length=3:=by have:=congrArg List.length j;rw[List.length_map]at this;exact this
 have hln:=z.n_eq;have hpn:(AA σ).ps.n=1:=w.procs.n_eq;refine⟨nn,(AA σ).ps,An a 3 1 (by simp[Ds.row]),⟨by omega,by omega⟩,λh=>absurd h (by omega),λ_=>⟨nn,(AA σ).is,An a 5 1 (by simp[Ds.row]),?_⟩⟩;obtain⟨h1,h2,A,h4⟩:=get hX;refine⟨h1,h2,A,_,_,_,_,_,_,h4,λh=>absurd h (show ¬AU=sE by decide),λ_=>⟨_,Ax (hX _ _ g),Tri.mono (KY (Dx σ).x Y (L.sub hX) (w.invsOk _ T) 1 (by kernel_rfl)) ?_⟩⟩;rintro _ V13 ⟨M,e,rfl,he,heo⟩;refine⟨_,_,_,_,rfl,Tri.mono (KW (e:=e)) ?_⟩;rintro _ V14 ⟨N,le,rfl,hle⟩;have H:=F.trans (M.trans N);haveI:Tab V14:=Tab.sub (V:=V) inferInstance H;have hok:E.Ok V14 (.mk 18 0 sE le [e]):=.mk hle (λx hx=>by rw[zO.1 hx];exact(heo.sub nw_le).sub N) (by decide) (by decide);have hval:Bf (.mk 18 0 sE le [e])=true:=by
  rw[<-validE_er];have:Ed (.mk 18 0 sE le [e])=.mk 18 0 sE Ag [carE (Dx σ).x]:=by
   show E.mk 18 0 sE Ag (eErs [e])=_;rw[Js,List.map_singleton,he]
  rw[this];exact ex_not
 refine⟨_,_,_,_,rfl,(G7 hok).call ⟨_,rfl,λ_=>?_,λh=>absurd hval h⟩⟩;refine⟨_,_,_,_,_,_,_,_,An ((M.trans N) _ _ a) 0 8 (by simp[Ds.row]),Tri.mono (PW (D.sub H) Hw ex_mild ex_mild2 λq hq=>?_) ?_⟩
 ·rw[show(AA σ).procs=[exPr σ]from rfl]at hq;rw[zO.1 hq];exact of_decide_eq_true (by kernel_rfl)
 rintro _ V16 ⟨s16,o,ps,rfl,⟨W,hW,own⟩,Z⟩;have Z:ps.length=1:=Z;refine⟨_,_,_,_,_,_,_,_,_,rfl,λ_=>?_,λh=>absurd rfl h⟩;refine ap24 (s:=o.ps) (u:=sl) (xs:=ps) (ys:=l) rfl rfl own (z.sub (M.trans (N.trans s16))) (by omega) λo' V' P=>⟨o',rfl,?_⟩;rw[hR];refine⟨(H.trans hW).trans P.sub,⟨o.name,o.ts,[],o.gs,[],o',[],o.ms,[],o.is,[],o.qs,[],o.bs,[]⟩,ps++l,rfl,P.rows (λ_=>rfl) (by decide),by rw[List.length_append,Z,hll],?_⟩;rw[List.getElem?_append_right (by omega),Z];have:(l.map (·.name))[2]?=some (GI++Bq):=by rw[j];rfl
 rw[List.getElem?_map]at this;exact this
theorem K3{n:Int}:Tri Tryz.prog 17 #[.int .i64 n] V λr V'=>V.sub V'/\∃s:Sl,r=.returned (.agg #[.string BS,s.v])/\Ad V' s 1 ([n].map AE):=by
 refine Ns ?_;exact λb h=>⟨Mem.sub_new h _,⟨some ⟨b,0,none⟩,1,1⟩,rfl,Ad.cells (xs:=[n]) (row:=AE) Ao rfl (λ_=>rfl) rfl (by simp)⟩
theorem c4(V:Mem)[Tab V]:PP 4 [] V (.bool true):=by
 refine A1.mk (x4 ?_);unfold w4;refine Tri.mono M0 ?_;rintro _ V1 ⟨S,d,rfl,N,T⟩;obtain⟨σ,rfl⟩:=ex_form N;refine⟨_,_,_,_,_,_,_,_,rfl,Tri.mono K3 ?_⟩;rintro _ V2 ⟨s2,z,rfl,h0⟩;refine⟨_,_,rfl,Tri.mono K3 ?_⟩;rintro _ V3 ⟨X,y,rfl,h1⟩;refine⟨_,_,rfl,Tri.mono K3 ?_⟩;rintro _ B ⟨Z,j,rfl,h2⟩;refine⟨_,_,rfl,λb hb c hc e he=>?_⟩;have sb:=Mem.sub_new hb (.cells #[uI 0] 3 (0,0));have sc:=Mem.sub_new hc (.cells #[uS BS,uL z,uS BS,uL y,uS BS,uL j] 36 (0,0));have Y:=Mem.sub_new he (.cells #[uS Bq] 9 (0,0));have k:=sb.trans (sc.trans Y);have f:=s2.trans (X.trans (Z.trans k));obtain⟨U,J⟩:∃U,U=((B.set b (.cells #[uI 0] 3 (0,0))).set c (.cells #[uS BS,uL z,uS BS,uL y,uS BS,uL j] 36 (0,0))).set e (.cells #[uS Bq] 9 (0,0)):=⟨_,rfl⟩;have W:U b=some (.cells #[uI 0] 3 (0,0)):=by rw[J];exact(sc.trans Y) _ _ Ao
 have Q:U c=some (.cells #[uS BS,uL z,uS BS,uL y,uS BS,uL j] 36 (0,0)):=by rw[J];exact Y _ _ Ao
 have P:U e=some (.cells #[uS Bq] 9 (0,0)):=by rw[J];exact Mem.set_same _ _ _
 show Tri _ _ _ (((B.set b (.cells #[uI 0] 3 (0,0))).set c (.cells #[uS BS,uL z,uS BS,uL y,uS BS,uL j] 36 (0,0))).set e (.cells #[uS Bq] 9 (0,0))) _;rw[<-J]at k f⊢;have C:V.sub U:=S.trans f;haveI:Tab U:=Tab.sub (V:=V) inferInstance C;have m:Cls.Ok U ⟨some ⟨c,0,none⟩,3,3⟩ [⟨BS,z,[3]⟩,⟨BS,y,[5]⟩,⟨BS,j,[1]⟩]:=⟨Ad.cells (row:=Dw.row) Q rfl (λ_=>rfl) rfl (by simp),λx D=>by
  simp only[List.mem_cons,xD,or_false]at D;rcases D with rfl|rfl|rfl;·exact h0.sub (X.trans (Z.trans k))
  ·exact h1.sub (Z.trans k)
  ·exact h2.sub k⟩
 refine Tri.mono (exScript (g:=⟨some ⟨b,0,none⟩,1,1⟩) (l:=⟨some ⟨c,0,none⟩,3,3⟩) (ns:=⟨some ⟨e,0,none⟩,1,1⟩) (T.sub f) (Ad.cells (xs:=[0]) (row:=AE) W rfl (λ_=>rfl) rfl (by simp)) m (Ad.cells (xs:=[Bq]) (row:=BD) P rfl (λ_=>rfl) rfl (by simp))) ?_;rintro _ V8 ⟨s8,o,oa,ob,o0,o1,rfl,r,e0,e1,en⟩;refine⟨_,_,_,_,_,_,rfl,Tri.mono M0 ?_⟩;rintro _ V9 ⟨E,d,rfl,N,O⟩;obtain⟨τ,rfl⟩:=ex_form N;have p:=C.trans (s8.trans E);haveI:Tab V9:=Tab.sub (V:=V) inferInstance p;refine⟨_,_,_,_,_,_,_,_,rfl,Tri.mono (exGenerate O) ?_⟩;rintro _ V10 ⟨a,x,l,rfl,K,A,G⟩;have r:=r.sub (E.trans a);have hn:o.n=2:=r.n_eq;have hxn:x.ps.n=4:=K.n_eq.trans A;obtain⟨y0,-,I,-,-,s,M,t⟩:=r.get (i:=0) (by omega);cases I;obtain⟨y1,-,F,-,-,v,L,u⟩:=r.get (i:=1) (by omega);cases F;obtain⟨q,-,hq,-,-,H,R,w⟩:=K.get (i:=3) (by omega);rw[hq]at G;have G:q.name=GI++Bq:=Option.some.inj G;refine⟨_,_,_,_,_,_,_,_,_,rfl,λ_=>⟨λ_=>⟨s,M,by omega,Ah s,_,_,_,_,_,t,λ_=>⟨v,L,by omega,Ah v,_,_,_,_,_,u,λ_=>⟨λ_=>⟨λ_=>⟨λ_=>⟨λ_=>⟨H,R,by omega,Ah H,_,_,_,_,_,w,?_⟩,λh=>absurd (by omega) h⟩,λh=>absurd rfl h⟩,λh=>absurd ⟨rfl,rfl⟩ h⟩,λh=>absurd (by omega) h⟩,λh=>absurd e1 h⟩,λh=>absurd e0 h⟩,λh=>absurd (by omega) h⟩,λh=>absurd rfl h⟩;refine⟨?_,p.trans a⟩;rw[show decide (q.name=Ab [99,104,101,99,107,95,115,111,114,116,101,100])=true from decide_eq_true (G.trans (by kernel_rfl))]
end
end
end Go.Proofs
namespace Go.Proofs
open Go Go.Sx
theorem cPlain{V:Mem}{d:Ds}{m:Mm}{nm:KB}{args:List Int}{l ns:Sl}{nms:List KB}[Tab V](k:Ds.Ok V d)(hm:Mm.Ok V m)(g:Ad V l 1 (args.map AE))(h:Ad V ns 1 (nms.map BD)){F:Int}:PP 3 [d.v,m.v,.agg #[.string nm,l.v],ns.v,.int .i64 F] V (.bool true):=
 c3 (λV _=>c4 V) k hm g h
end Go.Proofs
