/- Part 20 of a proof of a law of this seat: no statement of the seat is proved here. -/
import Derived.Test.YtmeagdecjpknkaaGreatDoorPp18
import Derived.Test.YtmeagdecjpknkaaGreatDoorPp19
set_option linter.unusedVariables false
set_option linter.unusedSimpArgs false
namespace Go.Sx
open Go
variable{P:Program}{V:Mem}{t e:TypeId}{i:TypeInfo}{z:Value}{ty sz:Nat}
theorem GenK.make0(ht:P.underlying t=some (.slice e))(hi:P.info? e=some i)(hz:i.zero=some z)(hsize:i.size=sz)(hby:i.bytes<=65536){x y:Operand}{vals:Operand->Value}{n:Nat}(hx:vals x=.int .i64 0)(hy:vals y=.int .i64 n)(hn:n<=2147483648){q:Value->Mem->Prop}
  (hq:∀g,V g=none->q (.slice (some ⟨g,0,none⟩) 0 n) (V.set g (.cells (madeCells z.cells (n*sz)) e (0,0)))):GenK P (.makeSlice t x y) ty vals V q:=by
 intro w hw
 subst hsize
 have hb:(i.bytes:Int)*(n:Int)<=281474976710656:=by
  have:i.bytes*n<=65536*2147483648:=Nat.mul_le_mul hby hn
  omega
 have hr:=run_make (P:=P) w t e i z ht hi hz .i64 .i64 0 n (by omega) (by omega) hb (by omega)
 grind [Int.toNat_natCast,Frm.made,madeCells,execOp,Sem.run_bind,Sem.run_pure,Result.andThen_ok]
end Go.Sx
namespace Go.Proofs
open Go Go.Sx
attribute [local irreducible] Go.Sx.Tri
structure OpS (V V':Mem) (nx b u:Sl) (N B U:List Int):Prop where
 on:Sx.Own V V' 3 1 nx (N.flatMap qAe)
 ob:Sx.Own V V' 3 1 b (B.flatMap qAe)
 ou:Sx.Own V V' 3 1 u (U.flatMap qAe)
 d1:∀c,Blk b c->¬Blk nx c
 d2:∀c,Blk u c->¬Blk nx c
 d3:∀c,Blk b c->¬Blk u c
section
variable{V V':Mem}{nx b u:Sl}{N B U:List Int}
theorem qFI{W A A':Mem}{s:Sl}{vs:List Value}(o:Sx.Own W A 3 1 s vs)(hs:W.sub A')(h:∀c,Blk s c->A' c=A c):Sx.Own W A' 3 1 s vs:=Own.moveB o hs fun g cur hg hc=>by simp_all
theorem OpS.setU(h:OpS V V' nx b u N B U){i:Nat}(hi:i<U.length){x:Int}{q:Mem->Prop}(hq:∀A,OpS V A nx b u N B (U.set i x)->q A):StT (qAa u.p (i*1)) 0 [.int .i64 x] V' q:=by
 rw[Nat.mul_one]
 refine Own.store h.ou (i:=i) (by rw[qDf];exact hi) fun A o hk=>?_
 rw[qDe]at o
 exact hq A ⟨qFI h.on o.sub fun c hc=>hk c fun hu=>h.d2 c hu hc,qFI h.ob o.sub fun c hc=>hk c (h.d3 c hc),o,h.d1,h.d2,h.d3⟩
theorem OpS.setB(h:OpS V V' nx b u N B U){i:Nat}(hi:i<B.length){x:Int}{q:Mem->Prop}(hq:∀A,OpS V A nx b u N (B.set i x) U->q A):StT (qAa b.p (i*1)) 0 [.int .i64 x] V' q:=by
 rw[Nat.mul_one]
 refine Own.store h.ob (i:=i) (by rw[qDf];exact hi) fun A o hk=>?_
 rw[qDe]at o
 exact hq A ⟨qFI h.on o.sub fun c hc=>hk c fun hu=>h.d1 c hu hc,o,qFI h.ou o.sub fun c hc=>hk c fun hb=>h.d3 c hb hc,h.d1,h.d2,h.d3⟩
theorem OpS.pushB(h:OpS V V' nx b u N B U){A:Mem}{s:Sl}{X:List Int}(o:Sx.Own (V'.but b) A 3 1 s (X.flatMap qAe)):OpS V A nx s u N X U:=by
 obtain⟨h1,h2,h3⟩:=qDK h.ob o
 exact⟨qFI h.on h1.sub fun c hc=>h2 c (fun hb=>h.d1 c hb hc) (by obtain⟨x,hx⟩:=Own.some h.on hc;rw[hx];simp),h1,qFI h.ou h1.sub fun c hc=>h2 c (fun hb=>h.d3 c hb hc) (by obtain⟨x,hx⟩:=Own.some h.ou hc;rw[hx];simp),
  fun c hc hn=>(h3 c hc).elim (fun hb=>h.d1 c hb hn) (by obtain⟨x,hx⟩:=Own.some h.on hn;rw[hx];simp),h.d2,fun c hc hu=>(h3 c hc).elim (fun hb=>h.d3 c hb hu) (by obtain⟨x,hx⟩:=Own.some h.ou hu;rw[hx];simp)⟩
theorem OpS.pushU(h:OpS V V' nx b u N B U){A:Mem}{s:Sl}{X:List Int}(o:Sx.Own (V'.but u) A 3 1 s (X.flatMap qAe)):OpS V A nx b s N B X:=by
 obtain⟨h1,h2,h3⟩:=qDK h.ou o
 exact⟨qFI h.on h1.sub fun c hc=>h2 c (fun hb=>h.d2 c hb hc) (by obtain⟨x,hx⟩:=Own.some h.on hc;rw[hx];simp),qFI h.ob h1.sub fun c hc=>h2 c (h.d3 c hc) (by obtain⟨x,hx⟩:=Own.some h.ob hc;rw[hx];simp),h1,
  h.d1,fun c hc hn=>(h3 c hc).elim (fun hb=>h.d2 c hb hn) (by obtain⟨x,hx⟩:=Own.some h.on hn;rw[hx];simp),fun c hc hu=>(h3 c hu).elim (h.d3 c hc) (by obtain⟨x,hx⟩:=Own.some h.ob hc;rw[hx];simp)⟩
theorem c74{s:Sl}{l:List Int}(h:qAc V s 1 (l.map qAe)){x:Int}:PP 74 [s.v,.int .i64 x] V (.int .i64 (qIQ (fun y=>decide (x=y)) l)):=by
 refine x74 ?_
 unfold w74
 refine qBp (mk:=.int .i64) (b0:=0) l.length (fun j V1=>V=V1/\qCV (fun y:Int=>!decide (x=y)) l j) ⟨rfl,qCV.zero _ _⟩ ?_
 rintro j b V1 J hj ⟨rfl,ha⟩ hJ
 refine⟨fun hlt=>?_,fun hge=>?_⟩
 ·obtain⟨y,hym,hy,-,hjl,hp,hz,hrow⟩:=h.get hlt
  refine⟨hp,hz,hlt,_,hrow,fun hE=>?_,fun hE=>⟨h.succ hlt,hJ hjl _ _ ⟨rfl,qId ha hy (decide_eq_false hE)⟩⟩⟩
  rw[qJB ha hy (decide_eq_true hE)];simp_all
 ·rw[idxI_none ha (h.done hge).2]
  simp_all
theorem own_cap{g n:Nat}{W A:Mem}(h0:W g=none)(hs:W.sub A)(hg:A g=some (.cells (madeCells (Value.int .i64 0).cells (n*1)) 3 (0,0)))(hn:n<=2147483648):Sx.Own W A 3 1 ⟨some ⟨g,0,none⟩,0,n⟩ (([]:List Int).flatMap qAe):=by
 obtain⟨-,-,h⟩:=qHs (V:=fun _=>none) (g:=g) (n:=n) rfl hn
 refine⟨hs,by simp,?_⟩
 rcases h with⟨-,h2,-⟩|⟨g',cur,h1,-,h3,h4,h5,h6,-⟩
 ·simp_all
 ·cases h1
  rw[Mem.set_same]at h3
  cases h3
  exact .inr ⟨g,_,rfl,h0,hg,Nat.zero_le _,h5,h6,by simp⟩
end
theorem ops_new{V V4:Mem}{nx:Sl}{L:List Int}{x y n:Nat}(o:Sx.Own V V4 3 1 nx (L.flatMap qAe))(hx:V4 x=none)(hy:V4.set x (.cells (madeCells (Value.int .i64 0).cells (n*1)) 3 (0,0)) y=none)(hn:n<=2147483648) :
  OpS V ((V4.set x (.cells (madeCells (Value.int .i64 0).cells (n*1)) 3 (0,0))).set y (.cells (madeCells (Value.int .i64 0).cells (n*1)) 3 (0,0))) nx ⟨some ⟨x,0,none⟩,0,n⟩ ⟨some ⟨y,0,none⟩,0,n⟩ L [] [] /\
  OpS V ((V4.set x (.cells (madeCells (Value.int .i64 0).cells (n*1)) 3 (0,0))).set y (.cells (madeCells (Value.int .i64 0).cells (n*1)) 3 (0,0))) nx ⟨some ⟨y,0,none⟩,0,n⟩ ⟨some ⟨x,0,none⟩,0,n⟩ L [] []:=by
 have s1:=Mem.sub_new hx (.cells (madeCells (Value.int .i64 0).cells (n*1)) 3 (0,0))
 have s2:=Mem.sub_new hy (.cells (madeCells (Value.int .i64 0).cells (n*1)) 3 (0,0))
 have none0:∀{A U:Mem} {b:Nat},A.sub U->U b=none->A b=none:=fun {A U b} hs hb=>by
  cases e:A b with
  | none=>rfl
  | some o=>rw[hs _ _ e]at hb;cases hb
 have oN:=Own.growS o (s1.trans s2)
 have oX:=own_cap (n:=n) (none0 o.sub hx) (o.sub.trans (s1.trans s2)) (s2 _ _ mss) hn
 have oY:=own_cap (n:=n) (none0 (o.sub.trans s1) hy) (o.sub.trans (s1.trans s2)) mss hn
 have nx0:∀{c z:Nat},Blk nx c->V4 z=none->c≠z:=fun {c z} hc hz e=>by
  grind [Own.some]
 have blk:∀{z c:Nat},Blk ⟨some ⟨z,0,none⟩,0,n⟩ c->c=z:=fun {z c} h=>by
  have:=h.2
  grind
 have hxy:x≠y:=fun e=>by grind [Mem.set_same]
 exact⟨⟨oN,oX,oY,fun c h1 h2=>nx0 h2 hx (blk h1),fun c h1 h2=>nx0 h2 (none0 s1 hy) (blk h1),fun c h1 h2=>hxy ((blk h1).symm.trans (blk h2))⟩,
  ⟨oN,oY,oX,fun c h1 h2=>nx0 h2 (none0 s1 hy) (blk h1),fun c h1 h2=>nx0 h2 hx (blk h1),fun c h1 h2=>hxy ((blk h2).symm.trans (blk h1))⟩⟩
section
variable{V:Mem}{l:Sl}{xs:List Int}
theorem c35(hl:qAc V l 1 (xs.map qAe))(hb:∀x∈xs,0<=x/\x<=1048576){m:Nat}(hm:1<=m/\m<=1000)(hx:xs.length<=65536):Tri Tryz.prog 35 #[l.v,.int .i64 m] V fun e V'=>V.sub V'/\∃(n:Nat) (C:List Int),e=.returned (.tuple #[.int .i64 n,.int .i64 0])/\n<=xs.length/\Opt m xs C n:=by
 obtain⟨R,hR⟩:∃R:Ending->Mem->Prop,R=fun e V'=>V.sub V'/\∃(n:Nat) (C:List Int),e=.returned (.tuple #[.int .i64 n,.int .i64 0])/\n<=xs.length/\Opt m xs C n:=⟨_,rfl⟩
 rw[<- hR]
 refine x35 ?_
 unfold w35
 have hn:=hl.n_eq
 have hc0:(if 1<=(m:Int)/\(m:Int)<=1000 then (if 65536<xs.length then 4 else 0) else 2:Int)=0:=by omega
 refine(c62 (m:=(m:Int)) hl hb).call ⟨_,rfl,fun _=>?_,fun h=>absurd hc0 h⟩
 refine mk31 (n:=l.n) rfl rfl (by omega) fun g hg=>⟨⟨some ⟨g,0,none⟩,l.n,l.n⟩,rfl,?_⟩
 have N0:=qHs hg (n:=l.n) (by omega)
 obtain⟨nx,hnx⟩:∃nx:Sl,nx=⟨some ⟨g,0,none⟩,l.n,l.n⟩:=⟨_,rfl⟩
 rw[<- hnx]at N0 ⊢
 refine GenK.makeMap fun mb hmb=>⟨some mb,rfl,⟨by omega,by omega⟩,?_⟩
 have M0:=qEd.made (enc:=Value.int .i64) (V.set g (.cells (madeCells (Value.int .i64 0).cells (l.n*1)) 3 (0,0))) mb
 have N1:=N0.new hmb (.map #[] 0)
 have hgm:∀c,Blk nx c->c≠mb:=fun c hc e=>by
  grind [Own.some]
 have hVm:V mb=none:=by
  cases e:V mb with
  | none=>rfl
  | some o=>rw[N0.sub _ _ e]at hmb;cases hmb
 -- the next references: whatever they are
 refine⟨fun n ys V4=>∃(i:Nat) (L:List Int) (f:Int->Option Int),ys=[.int .i64 ((i:Int)-1)]/\n=i/\i<=xs.length/\Sx.Own V V4 3 1 nx (L.flatMap qAe)/\L.length=l.n/\qEd (Value.int .i64) V4 mb (fun x=>(f x).map (Value.int .i64)),l.n,⟨l.n,_,fun _=>none,rfl,rfl,by omega,N1,by simp,M0.congr fun _=>rfl⟩,?_⟩
 rintro i V4 v5 ⟨_,L,f,hv,rfl,hi,N4,hL,M4⟩ J hJ
 cases hv
 have hl4:=hl.sub N4.sub
 have nr:=(N4.rows (row:=qAe) (xs:=L) (fun _=>rfl) (by decide)).n_eq
 have hpn:0<i->¬nx.p=none:=fun _=>by grind
 refine⟨fun h0=>?_,fun h0=>?_⟩
 ·have h0:0<=(i:Int)-1:=h0
  obtain⟨j,rfl⟩:∃j,i=j+1:=⟨i-1,by omega⟩
  have ej:((j+1:Nat):Int)-1=(j:Int):=by omega
  rw[ej]
  have hlt:(j:Int)<(l.n:Int):=by omega
  obtain⟨x,hxm,hxj,-,hjl,hp,hz,hrow⟩:=hl4.get hlt
  have put:∀{A:Mem} {X:List Int} {y:Int} {q:Mem->Prop},Sx.Own V A 3 1 nx (X.flatMap qAe)->X.length=l.n->qEd (Value.int .i64) A mb (fun x=>(f x).map (Value.int .i64))->(∀A',Sx.Own V A' 3 1 nx ((X.set j y).flatMap qAe)->qEd (Value.int .i64) A' mb (fun x=>(f x).map (Value.int .i64))->q A')->StT (qAa nx.p (j*1)) 0 [.int .i64 y] A q:=fun {A X y q} o hX M hq=>by
   rw[Nat.mul_one]
   refine Own.store o (i:=j) (by rw[qDf];omega) fun A' o' hk=>?_
   rw[qDe]at o'
   exact hq A' o' (qDN M (hk mb fun hc=>hgm mb hc rfl))
  have upd:∀{A:Mem} {X:List Int},Sx.Own V A 3 1 nx (X.flatMap qAe)->X.length=l.n->qEd (Value.int .i64) A mb (fun x=>(f x).map (Value.int .i64))->¬l.p=none/\(0:Int)<=(j:Int)/\(j:Int)<(l.n:Int)/\∃v9,A.rowp l.p ((j:Int).toNat*1) 1=some [.int .i64 v9]/\qCv Tryz.prog 132 (.map (some mb)) (.int .i64 v9) (.int .i64 (j:Int)) A fun V7=>IR ((j:Int)-1)/\J [.int .i64 ((j:Int)-1)] V7:=fun {A X} o hX M=>by
   obtain⟨x',-,hx',-,-,hp',hz',hrow'⟩:=(hl.sub o.sub).get hlt
   refine⟨hp',hz',hlt,x',hrow',qCv.key (k:=x') (qEa Tryz.underlying3) Tryz.underlying132 M fun ob M'=>⟨⟨by omega,by omega⟩,hJ j _ _ (Nat.lt_succ_self j) ⟨j,X,fun y=>if y=x' then some (j:Int) else f y,rfl,rfl,by omega,?_,hX,M'.congr fun y=>?_⟩⟩⟩
   ·exact qFI o (o.sub.set hVm _) fun c hc=>Mem.set_ne (hgm c hc)
   grind
  refine⟨hpn (by omega),hz,by rw[nr];omega,put N4 hL M4 fun A N5 M5=>?_⟩
  obtain⟨x5,-,hx5,-,-,hp5,hz5,hrow5⟩:=(hl.sub N5.sub).get hlt
  refine⟨hp5,hz5,hlt,x5,hrow5,qBi.key2 (k:=x5) (qEa Tryz.underlying3) Tryz.underlying132 qEf M5 ?_⟩
  have res:∀(y:Int) (d:Bool),Br (d=true) (¬nx.p=none/\(0:Int)<=(j:Int)/\(j:Int)<(nx.n:Int)/\StT (qAa nx.p ((j:Int).toNat*1)) 0 [.int .i64 y] A fun V6=>¬l.p=none/\(0:Int)<=(j:Int)/\(j:Int)<(l.n:Int)/\∃v9,V6.rowp l.p ((j:Int).toNat*1) 1=some [.int .i64 v9]/\qCv Tryz.prog 132 (.map (some mb)) (.int .i64 v9) (.int .i64 (j:Int)) V6 fun V7=>IR ((j:Int)-1)/\J [.int .i64 ((j:Int)-1)] V7) _:=fun y d =>
   ⟨fun _=>⟨hpn (by omega),hz,by rw[nr];omega,put N5 (by simp[hL]) M5 fun A' N6 M6=>upd N6 (by simp[hL]) M6⟩,fun _=>upd N5 (by simp[hL]) M5⟩
  cases hf:f x5 with
  | none=>exact⟨0,false,rfl,res 0 false⟩
  | some y=>exact⟨y,true,rfl,res y true⟩
 ·clear J hJ
  have mk:∀{A:Mem} {q:Value->Mem->Prop} {ty:Nat} {x y:Operand} {vals:Operand->Value},vals x=.int .i64 0->vals y=.int .i64 (m:Int)->(∀g,A g=none->q (.slice (sa g) 0 m) (A.set g (.cells (madeCells (Value.int .i64 0).cells (m*1)) 3 (0,0))))->GenK Tryz.prog (.makeSlice 31 x y) ty vals A q:=fun hx hy hq=>GenK.make0 (z:=.int .i64 0) (i:=ti 3) Tryz.underlying31 (by kernel_rfl) (by kernel_rfl) (by kernel_rfl) (of_decide_eq_true (by kernel_rfl)) hx hy (by omega) hq
  refine⟨mk rfl rfl fun u0 hu0=>⟨⟨some ⟨u0,0,none⟩,0,m⟩,rfl,mk rfl rfl fun b0 hb0=>⟨⟨some ⟨b0,0,none⟩,0,m⟩,rfl,?_⟩⟩,mk rfl rfl fun b0 hb0=>⟨⟨some ⟨b0,0,none⟩,0,m⟩,rfl,mk rfl rfl fun u0 hu0=>⟨⟨some ⟨u0,0,none⟩,0,m⟩,rfl,?_⟩,mk rfl rfl fun u0 hu0=>⟨⟨some ⟨u0,0,none⟩,0,m⟩,rfl,?_⟩⟩⟩
  all_goals
   first
    | have T:=(ops_new N4 hb0 hu0 (n:=m) (by omega)).1
    | have T:=(ops_new N4 hu0 hb0 (n:=m) (by omega)).2
   refine⟨fun n ys V7=>∃(i k:Nat) (b u:Sl) (B U:List Int),ys=[.slice b.p b.n b.c,.slice u.p u.n u.c,.int .i64 (k:Int),.int .i64 (i:Int)]/\n=xs.length-i/\i<=xs.length/\k<=i/\OpS V V7 nx b u L B U/\U.length=B.length/\Opt m (xs.take i) B k/\B.length<=m,xs.length,⟨0,0,_,_,[],[],rfl,rfl,Nat.zero_le _,Nat.le_refl _,T,rfl,Opt.nil,Nat.zero_le _⟩,?_⟩
   rintro n V7 b u v10 v11 ⟨i,k,b1,u1,B,U,hys,rfl,hi,hk,T,hUB,hO,hBm⟩ J hJ
   simp only[List.cons.injEq,and_true]at hys
   obtain⟨h1,h2,h3,h4⟩:=hys
   cases qBE _ _ h1;cases qBE _ _ h2;cases qFS _ _ h3;cases qFS _ _ h4
   have hl7:=hl.sub T.on.sub
   have rB:=T.ob.rows (row:=qAe) (xs:=B) (fun _=>rfl) (by decide)
   have rU:=T.ou.rows (row:=qAe) (xs:=U) (fun _=>rfl) (by decide)
   have nB:=rB.n_eq
   have nU:=rU.n_eq
   refine⟨fun hlt=>?_,fun hge=>?_⟩
   ·obtain⟨x,hxm,hxi,-,hil,hp,hz,hrow⟩:=hl7.get hlt
    have et:xs.take (i+1)=xs.take i++[x]:=by rw[List.take_add_one,hxi];rfl
    have hsu:=hl7.succ hlt
    have nxt:∀{A:Mem} {b u:Sl} {B U:List Int},OpS V A nx b u L B U->¬nx.p=none/\(0:Int)<=(i:Int)/\(i:Int)<(nx.n:Int)/\A.rowp nx.p (i*1) 1=some [.int .i64 (L.getD i 0)]:=fun {A b u B U} T=>by
     have e:=List.getElem?_eq_getElem (show i<L.length by omega)
     obtain⟨c1,c2,c3,c4⟩:=qBV (T.on.rows (row:=qAe) (xs:=L) (fun _=>rfl) (by decide)) e
     rw[List.getD_eq_getElem?_getD,e]
     exact⟨c1,c2,c3,c4⟩
    refine⟨hp,hz,hlt,x,hrow,(c74 rB).call ⟨_,rfl,fun hf=>?_,fun hf=>?_⟩⟩
    ·rcases qBh (fun y=>decide (x=y)) B with⟨e,-⟩|⟨j,y,e,hj,-,hjl,hy,hym,-⟩
     ·have hf:0<=qIQ (fun y=>decide (x=y)) B:=hf
      omega
     obtain rfl:x=y:=of_decide_eq_true hy
     rw[e]
     obtain⟨c1,c2,c3,c4⟩:=nxt T
     obtain⟨d1,d2,d3,-⟩:=qBV rU (List.getElem?_eq_getElem (show j<U.length by omega))
     exact⟨c1,c2,c3,_,c4,d1,d2,d3,T.setU (by omega) fun A T'=>⟨hsu,hJ _ _ _ (show xs.length-(i+1)<_ by omega) ⟨i+1,k,b,u,B,_,rfl,rfl,hil,by omega,T',by rw[List.length_set];exact hUB,by rw[et];exact hO.hit hym,hBm⟩⟩⟩
    ·have hxB:x ∉ B:=fun hm=>by
      rcases qBh (fun y=>decide (x=y)) B with⟨-,-,h⟩|⟨j,y,e,-⟩
      ·rw[List.any_eq_false]at h
       exact h x hm (decide_eq_true rfl)
      ·exact hf (show 0<=qIQ (fun y=>decide (x=y)) B by omega)
     refine⟨fun hr c hc=>?_,fun hr=>?_⟩
     ·have hr:(b.n:Int)<(m:Int):=hr
      refine oneG (row:=qAe) qFs (x:=x) (s:=b) T.ob.but hc (by omega) rfl rfl (fun _=>rfl) fun b' A o=>⟨b',rfl,fun c2 hc2=>?_⟩
      have T1:=T.pushB o
      refine oneG (row:=qAe) qFs (x:=0) (s:=u) T1.ou.but hc2 (by omega) rfl rfl (fun _=>rfl) fun u' A' o'=>⟨u',rfl,⟨by omega,by omega⟩,?_⟩
      have T2:=T1.pushU o'
      obtain⟨c1,c2',c3,c4⟩:=nxt T2
      obtain⟨d1,d2,d3,-⟩:=qBV (T2.ou.rows (row:=qAe) (xs:=U++[0]) (fun _=>rfl) (by decide)) (i:=b.n) (List.getElem?_eq_getElem (by rw[List.length_append,List.length_singleton];omega))
      exact⟨c1,c2',c3,_,c4,d1,d2,d3,T2.setU (by rw[List.length_append,List.length_singleton];omega) fun A T'=>⟨hsu,hJ _ _ _ (show xs.length-(i+1)<_ by omega) ⟨i+1,k+1,b',u',B++[x],_,rfl,rfl,hil,by omega,T',by simp[hUB],by rw[et];exact hO.miss (by simp) (fun y hy=>(List.mem_append.1 hy).symm.imp (fun h=>List.mem_singleton.1 h) id) (by simp;omega),by simp;omega⟩⟩⟩
     ·have hr:¬(b.n:Int)<(m:Int):=hr
      refine qEX (mk:=.int .i64) (b0:=0) qFS U.length (fun j a A=>A=V7/\0<=a/\a<(u.n:Int)) ⟨rfl,Int.le_refl _,by omega⟩ ?_
      rintro j a A J2 hj ⟨rfl,ha0,ha1⟩ hJ2
      obtain⟨q,rfl⟩:∃q:Nat,a=(q:Int):=⟨a.toNat,by omega⟩
      refine⟨fun hlt2=>?_,fun _=>?_⟩
      ·obtain⟨y,hym,hyj,-,hjl,hp2,hz2,hrow2⟩:=rU.get hlt2
       obtain⟨d1,d2,d3,d4⟩:=qBV rU (List.getElem?_eq_getElem (show q<U.length by omega))
       exact⟨hp2,hz2,hlt2,_,hrow2,d1,d2,d3,_,d4,fun _=>⟨rU.succ hlt2,hJ2 hjl _ _ ⟨rfl,by omega,by omega⟩⟩,fun _=>⟨rU.succ hlt2,hJ2 hjl _ _ ⟨rfl,ha0,ha1⟩⟩⟩
      ·obtain⟨d1,d2,d3,-⟩:=qBV rB (List.getElem?_eq_getElem (show q<B.length by omega))
       refine⟨d1,d2,d3,T.setB (by omega) fun A T1=>⟨⟨by omega,by omega⟩,?_⟩⟩
       obtain⟨c1,c2',c3,c4⟩:=nxt T1
       obtain⟨e1,e2,e3,-⟩:=qBV (T1.ou.rows (row:=qAe) (xs:=U) (fun _=>rfl) (by decide)) (List.getElem?_eq_getElem (show q<U.length by omega))
       exact⟨c1,c2',c3,_,c4,e1,e2,e3,T1.setU (by omega) fun A T'=>⟨hsu,hJ _ _ _ (show xs.length-(i+1)<_ by omega) ⟨i+1,k+1,b,u,_,_,rfl,rfl,hil,by omega,T',by rw[List.length_set,List.length_set];exact hUB,by rw[et];exact hO.miss (List.mem_set (by omega) x) (fun y hy=>(List.mem_or_eq_of_mem_set hy).symm) (by rw[List.length_set];exact hBm),by rw[List.length_set];exact hBm⟩⟩⟩
   ·have hd:=(hl7.done hge).2
    rw[List.take_of_length_le hd]at hO
    rw[hR]
    exact⟨T.on.sub,k,B,rfl,by omega,hO⟩
end
end Go.Proofs
namespace Go.Proofs
open Go Go.Sx
attribute [local irreducible] Go.Sx.Tri
theorem mtf_map{f:Int->Int}(hf:∀a b,f a=f b->a=b)(b:Int):∀T:List Int,(T.map f).erase (f b)=(T.erase b).map f
 | []=>rfl
 | c::T=>by
  rw[List.map_cons]
  by_cases e:c=b
  ·subst e;simp
  ·rw[List.erase_cons_tail (by grind),List.erase_cons_tail (by simpa using e),List.map_cons,mtf_map hf b T]
theorem stk_map{f:Int->Int}(hf:∀a b,f a=f b->a=b):∀(l T:List Int),stk (T.map f) (l.map f)=(stk T l).map f
 | [],_=>rfl
 | b::l,T=>by
  show stk (mtf (T.map f) (f b)) (l.map f)=(stk (mtf T b) l).map f
  rw[<- stk_map hf l (mtf T b)]
  unfold mtf
  rw[mtf_map hf,List.map_cons]
def ndsL(lg:List (Int×Int×Int)):List Int:=(lg.filter fun a=>decide (0<a.2.1)).map fun a=>a.2.1
theorem ndsL_succ{lg:List (Int×Int×Int)}{i:Nat}{a:Int×Int×Int}(h:lg[i]?=some a):ndsL (lg.take (i+1))=ndsL (lg.take i)++if 0<a.2.1 then [a.2.1] else []:=by
 grind [ndsL,List.take_add_one]
theorem own_mis{n m k:Nat}{lg:List (Int×Int×Int)}(L:qKP n lg m)(hk:0<k)(h:(stk [] (ndsL lg)).length<=k):qIP k [] (qBZ 1 lg ((List.range n).map fun i:Nat=>(i:Int))).2=(stk [] (ndsL lg)).length:=by
 have e:=blk_own L lg.length (Nat.le_refl _)
 rw[List.take_length]at e
 rw[e,qHv hk]
 have e2:((lg.filter fun a=>decide (0<a.2.1)).map fun a=>a.2.1-1)=(ndsL lg).map fun x=>x-1:=by
  unfold ndsL
  simp_all
 have e3:=stk_map (f:=fun x=>x-1) (fun a b h=>by omega) (ndsL lg) []
 grind [mis_all,ndsL,List.length_map,List.length_nil,qIW]
section
variable{V:Mem}{d:Ds}{m:Mm}{nm:ByteArray}{args pl:List Int}{l ps:Sl}{size most:Int}
theorem exr_in{F:Int}(h:1<=most/\most<=1000):qFa d m pl size most nm args F=qFa d m pl size 1 nm args F:=by
 grind [exE,qFa]
theorem exr_zero{F:Int}(h:qFa d m pl size most nm args F=0):exE d m size most F=0:=Classical.byContradiction fun h0=>by
 grind [qFa]
theorem place_size{k:Int}(h0:plF d m k size=0):1<=size/\size<=64:=by
 grind [plF,qAx]
theorem sub_out{A B:Mem}{b:Nat}(h:A b=none)(hs:A.sub B)(o:Obj):A.sub (B.set b o):=fun c x hc=>by
 rw[Mem.set_ne fun e=>by simp_all]
 exact hs _ _ hc
theorem qKD[Tab V]{F:Int}{e:Ending}{V':Mem}(h:ExrP V d F m nm args pl size most e V'):V.sub V':=by
 rcases h with⟨-,h,-⟩|⟨-,_,_,_,_,_,_,_,L,-⟩
 ·exact h
 ·exact L.sub
theorem c8[Tab V](hd:Ds.Ok V d)(hm:Mm.Ok V m){k h fu:Int}(hk:0<=k/\k<=255)(hh:0<=h/\h<=255)(ha:qAc V l 1 (args.map qAe)):PP 8 [d.v,m.v,.int .i64 size,.int .u8 k,.int .u8 h,.agg #[.string nm,l.v],.int .i64 fu] V (.bool true):=by
 obtain⟨R,hR⟩:∃R:Ending->Mem->Prop,R=fun e V'=>e=.returned (.bool true)/\V.sub V':=⟨_,rfl⟩
 refine Pur.mk ?_
 rw[<- hR]
 refine x8 ?_
 unfold w8
 have fin:∀{V'},V.sub V'->R (.returned (.bool true)) V':=fun h=>by simp_all
 refine c9.call ⟨_,rfl,fun _=>?_,fun h=>absurd rfl h⟩
 refine Tri.mono (c10 hd hm (fu:=fu)) ?_
 rintro _ V0 ⟨rfl,b,rfl,hfu⟩
 refine⟨_,rfl,fun _=>fin (Mem.sub.refl _),fun hb=>?_⟩
 have hF:fu<=4000∨1048576<fu:=(hfu ((Bool.not_eq_true _).mp hb)).imp (fun h=>by omega) id
 refine Tri.mono c18 ?_
 rintro _ _ ⟨rfl,b,rfl⟩
 refine⟨_,rfl,fun _=>fin (Mem.sub.refl _),fun _=>?_⟩
 refine Tri.mono (c14 hd hm (k:=2) (size:=size)) ?_
 rintro _ V4 ⟨q,rfl,s4,hno,hyes⟩
 haveI:Tab V4:=Tab.sub inferInstance s4
 refine⟨_,_,rfl,fun h0=>?_,fun h0=>?_⟩
 rotate_left
 ·simp_all
 obtain⟨pl,o,P⟩:=hyes h0
 have hsz:=place_size h0
 obtain⟨z,rfl⟩:∃z:Nat,size=(z:Int):=⟨size.toNat,by omega⟩
 rw[Int.toNat_natCast]at P
 have hq:=o.rows (row:=qAe) (fun _=>rfl) (by decide)
 have t1:h.tmod 10=((h.toNat % 10:Nat):Int):=by
  grind
 have t2:k.tmod 10=((k.toNat % 10:Nat):Int):=by
  grind
 obtain⟨a,hal⟩:∃a,a=h.toNat % 10:=⟨_,rfl⟩
 obtain⟨b,hbl⟩:∃b,b=k.toNat % 10:=⟨_,rfl⟩
 rw[t1,t2,<- hal,<- hbl]
 have ha9:a<10:=by omega
 have hb9:b<10:=by omega
 refine⟨⟨by omega,by omega⟩,by decide,⟨by omega,by omega⟩,⟨by omega,by omega⟩,by decide,⟨by omega,by omega⟩,⟨by omega,by omega⟩,by decide,⟨by omega,by omega⟩,?_⟩
 obtain⟨S,hS⟩:∃S:Nat,S=1+a:=⟨_,rfl⟩
 obtain⟨T,hT⟩:∃T:Nat,T=1+a+b:=⟨_,rfl⟩
 rw[show (1+(a:Int)+(b:Int))=(T:Int) by omega,show (1+(a:Int))=(S:Int) by omega]
 have e1:qFa d m pl (z:Int) (S:Int) nm args fu=qFa d m pl z 1 nm args fu:=exr_in (by omega)
 have e2:qFa d m pl (z:Int) (T:Int) nm args fu=qFa d m pl z 1 nm args fu:=exr_in (by omega)
 refine Tri.mono (c19 (nm:=nm) (size:=(z:Int)) (most:=(S:Int)) (hd.sub s4) (hm.sub s4) (ha.sub s4) hF hq) ?_
 rintro e V5 run1
 have s5:V4.sub V5:=qKD run1
 haveI:Tab V5:=Tab.sub inferInstance (s4.trans s5)
 have k2:=c19 (nm:=nm) (size:=(z:Int)) (most:=(T:Int)) (hd.sub (s4.trans s5)) (hm.sub (s4.trans s5)) (ha.sub (s4.trans s5)) hF (hq.sub s5)
 have k3:∀{V6:Mem},V5.sub V6->Tri Tryz.prog 20 #[d.v,m.v,q.v,.int .i64 z,.agg #[.string nm,l.v],.int .i64 fu] V6 (ExtrP V6 d fu m nm args pl z):=fun {V6} s6=>by
  haveI:Tab V6:=Tab.sub inferInstance (s4.trans (s5.trans s6))
  exact c20 (nm:=nm) (size:=(z:Int)) (hd.sub (s4.trans (s5.trans s6))) (hm.sub (s4.trans (s5.trans s6))) (ha.sub (s4.trans (s5.trans s6))) hF (hq.sub (s5.trans s6))
 rcases run1 with⟨hx,-,rfl⟩|⟨hx,r,gs,ns,ls,nd,p,hr,-,-,rfl⟩
 ·refine⟨_,_,_,_,_,_,_,_,_,rfl,Tri.mono k2 ?_⟩
  rintro _ V6 run2
  have s6:V5.sub V6:=qKD run2
  rcases run2 with⟨hx2,-,rfl⟩|⟨hx2,-⟩
  rotate_left
  ·exact absurd (e1.trans (e2.symm.trans hx2)) hx
  refine⟨_,_,_,_,_,_,_,_,_,rfl,Tri.mono (k3 s6) ?_⟩
  rintro _ V7 ⟨s7,⟨-,rfl⟩|⟨hx3,-⟩|⟨hx3,-⟩⟩
  ·refine⟨_,_,rfl,fun h=>absurd h hx,fun _=>⟨fun _=>?_,fun h=>absurd (e1.trans e2.symm) h⟩⟩
   rw[decide_eq_true e1.symm]
   exact fin (s4.trans (s5.trans (s6.trans s7)))
  ·exact absurd (e1.trans hx3) hx
  ·exact absurd (e1.trans hx3) hx
 ·refine⟨_,_,_,_,_,_,_,_,_,rfl,Tri.mono k2 ?_⟩
  rintro _ V6 run2
  have s6:V5.sub V6:=qKD run2
  rcases run2 with⟨hx2,-⟩|⟨hx2,r2,gs2,ns2,ls2,nd2,p2,hr2,-,-,rfl⟩
  ·exact absurd (e2.trans (e1.symm.trans hx)) hx2
  obtain rfl:r2=r:=by rw[hr2,hr]
  have hst:=exr_start hx
  obtain⟨G,-,-,-,-,hf0,hf1⟩:=ex_zero (exr_zero hx)
  obtain⟨F,rfl⟩:∃F:Nat,fu=(F:Int):=⟨fu.toNat,by omega⟩
  rw[Int.toNat_natCast]at hst hr
  obtain⟨b1,b2,b3,b4,b5,b6,b7⟩:=blk_right hst hr P (by omega)
  have hmono:=mis_mono (k:=S) (k':=T) (by omega) (qBZ (z:Int) r2.st.lg pl).2 []
  rw[<- qHv (k:=S) (by omega),<- qHv (k:=T) (by omega)]at hmono
  refine⟨_,_,_,_,_,_,_,_,_,rfl,Tri.mono (k3 s6) ?_⟩
  rintro _ V7 ⟨s7,⟨hx3,-⟩|⟨hx3,-,rfl⟩|⟨hx3,hlt,t,rfl,ht⟩⟩
  ·exact absurd (e1.symm.trans hx) hx3
  ·refine⟨_,_,rfl,fun _=>⟨fun _=>⟨fun _=>?_,fun _=>⟨fun h=>absurd h (by decide),fun _=>?_⟩⟩,fun h=>absurd rfl h⟩,fun h=>absurd rfl h⟩
   all_goals
    rw[decide_eq_true rfl]
    exact fin (s4.trans (s5.trans (s6.trans s7)))
  ·rw[Int.toNat_natCast,<- hr]at ht hlt
   have s47:=s4.trans (s5.trans (s6.trans s7))
   have nt:=ht.n_eq
   have hF4:F<=4000:=by omega
   obtain⟨hlog,hlen⟩:=qHq hst
   rw[<- hr]at hlog hlen
   refine⟨_,_,rfl,fun _=>⟨fun _=>⟨fun h=>absurd h (by grind),fun _=>⟨fun _=>⟨fun h2=>Tri.mono (c35 ht b7 (m:=S) (by omega) (by omega)) ?_,fun h2=>?_⟩,fun h=>absurd rfl h⟩⟩,fun h=>absurd rfl h⟩,fun h=>absurd rfl h⟩
   rintro _ V8 ⟨s8,n,C,rfl,hn,hO⟩
   have h2:(t.n:Int)<=2000:=h2
   have hle:=qKn T (qBZ (z:Int) r2.st.lg pl).2 []
   have hc:=comp_le (k:=T) (h:=S) (by omega) (by omega) hO
   rw[<- qHv (k:=T) (by omega)]at hc
   obtain⟨X,hX⟩:∃X:Nat,X=qIP T [] (qBZ (z:Int) r2.st.lg pl).2:=⟨_,rfl⟩
   rw[<- hX]at hle hc
   rw[Int.toNat_natCast (n:=T),<- hX]
   have eD:(T:Int)-(S:Int)+1=((T-S+1:Nat):Int):=by omega
   have p1:((T:Int)-(S:Int)+1)*(X:Int)=(((T-S+1)*X:Nat):Int):=by simp_all
   have p2:(T:Int)*(n:Int)=((T*n:Nat):Int):=by omega
   have q1:(T-S+1)*X<=20*2000:=Nat.mul_le_mul (by omega) (by omega)
   have q2:T*n<=20*2000:=Nat.mul_le_mul (by omega) (by omega)
   rw[p1]
   refine⟨(n:Int),0,rfl,?_⟩
   rw[p2]
   refine⟨fun _=>⟨fun h=>absurd h (by omega),fun _=>⟨⟨by omega,by omega⟩,⟨by omega,by omega⟩,⟨by omega,by omega⟩,⟨by omega,by omega⟩,fun h=>absurd h (by omega),fun _=>?_⟩⟩,fun h=>absurd rfl h⟩
   all_goals
    first
     | have z8:=s47.trans s8
     | have z8:=s47
    have pl1:=qKg (d:=d) (m:=m) (k:=1) (size:=1) G.mem (by decide)
    refine Tri.mono (@c14 _ _ _ (Tab.sub inferInstance z8) (hd.sub z8) (hm.sub z8) 1 1) ?_
    rintro _ V9 ⟨q9,rfl,s9,-,hy9⟩
    obtain⟨zs,o9,P9⟩:=hy9 pl1
    have P9:qAK d m 1 1 zs:=P9
    have z9:=z8.trans s9
    obtain⟨g1,g2,-⟩:=blk_right hst hr P9 (by decide)
    have h1:qBs d m 0=0:=by grind [qBs]
    have hx9:qFa d m zs 1 1000 nm args F=0:=by
     unfold qFa exE
     rw[if_pos h1,if_pos (by omega),if_pos ⟨g2,g1⟩]
     exact hst
    refine⟨_,_,rfl,Tri.mono (@c19 V9 d m nm args zs 1 1000 (Tab.sub inferInstance z9) l q9 F (hd.sub z9) (hm.sub z9) (ha.sub z9) hF (o9.rows (row:=qAe) (fun _=>rfl) (by decide))) ?_⟩
    rintro _ V10 (⟨hx,-⟩|⟨-,r3,gs3,ns3,ls3,nd3,p3,hr3,L3,-,rfl⟩)
    ·exact absurd hx9 hx
    obtain rfl:r3=r2:=by rw[hr3,hr];rfl
    have z10:=z9.trans L3.sub
    refine⟨_,_,_,_,_,_,_,_,_,rfl,Tri.mono (@c36 _ _ _ _ _ _ _ (Tab.sub inferInstance z10) (hd.sub z10) (hm.sub z10) (ha.sub z10) hF4) ?_⟩
    rintro _ V11 (⟨hc,-⟩|⟨-,r4,lt,hr4,o4,rfl⟩)
    ·exact absurd hst hc
    obtain rfl:r4=r3:=by rw[hr4,hr]
    have z11:=z10.trans o4.sub
    have rl:=o4.rows (row:=qGa) (fun _=>rfl) (by decide)
    refine⟨_,_,rfl,fun _=>⟨fun _=>⟨fun _=>?_,fun h=>absurd rfl h⟩,fun h=>absurd rfl h⟩,fun h=>absurd pl1 h⟩
    refine GenK.makeMap fun mb hmb=>⟨some mb,rfl,?_⟩
    have M0:=qEd.made (enc:=Value.int .i64) V11 mb
    have hV1:V11.sub (V11.set mb (.map #[] 0)):=Mem.sub_new hmb _
    refine qIY r4.st.lg.length (fun i A=>V11.sub A/\qEd (Value.int .i64) A mb fun x=>if x∈stk [] (ndsL (r4.st.lg.take i)) then some (.bool true) else none) ⟨hV1,M0.congr fun _=>by simp[ndsL,stk]⟩ ?_
    rintro i A J hi ⟨sA,MA⟩ hJ
    have rA:=rl.sub sA
    have hnd:=nodup_stk (ndsL (r4.st.lg.take i)) [] List.nodup_nil
    refine⟨fun hlt=>?_,fun hge=>?_⟩
    ·obtain⟨x,hxm,hxi,-,hil,hp,hz,hrow⟩:=rA.get hlt
     have es:=ndsL_succ hxi
     refine⟨hp,hz,hlt,x.1,x.2.1,x.2.2,hrow,fun c=>?_,fun c=>⟨rA.succ hlt,hJ hil _ ⟨sA,?_⟩⟩⟩
     ·have c:0<x.2.1:=c
      refine qCv.key (k:=x.2.1) (qEa Tryz.underlying3) Tryz.underlying87 MA fun ob M'=>⟨rA.succ hlt,hJ hil _ ⟨sub_out hmb sA ob,M'.congr fun y=>?_⟩⟩
      rw[es,if_pos c,stk_snoc]
      simp only[mem_mtf]
      by_cases e:y=x.2.1
      ·simp[e]
      ·simp[e]
     ·have c:¬0<x.2.1:=c
      rw[es,if_neg c,List.append_nil];exact MA
    ·have hdn:=(rA.done hge).2
     rw[List.take_of_length_le hdn]at MA hnd
     have hdec:∀y:Int,((if y∈stk [] (ndsL r4.st.lg) then some (Value.bool true) else none).isSome)=decide (y∈stk [] (ndsL r4.st.lg)):=fun y=>by split <;> simp_all
     refine GenK.lenMap Tryz.underlying87 MA hnd hdec rfl ⟨_,rfl,fun _=>fin (z11.trans sA),fun hk=>?_⟩
     refine GenK.lenMap Tryz.underlying87 MA hnd hdec rfl ⟨_,rfl,?_⟩
     have hk:¬(1000:Int)<((stk [] (ndsL r4.st.lg)).length:Int):=hk
     have eo:=own_mis (k:=1000) hlog (by decide) (by omega)
     rw[<- place_own P9]at eo
     rw[decide_eq_true (show ((qIP (1000:Int).toNat [] (qBZ 1 r4.st.lg zs).2:Nat):Int)=((stk [] (ndsL r4.st.lg)).length:Int) from congrArg _ eo)]
     exact fin (z11.trans sA)
end
end Go.Proofs
