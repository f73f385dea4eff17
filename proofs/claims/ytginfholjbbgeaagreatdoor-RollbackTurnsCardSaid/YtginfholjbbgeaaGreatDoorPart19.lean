/- Part 19 of a proof of a law of this seat: no statement of the seat is proved here. -/
import Derived.Test.YtginfholjbbgeaaGreatDoorPart18
import Derived.Test.YtginfholjbbgeaaGreatDoorPart17
import Derived.Test.YtginfholjbbgeaaGreatDoorPart16
set_option linter.unusedVariables false
set_option linter.unusedSimpArgs false
namespace Go.Proofs
open Go Go.Sx
attribute [local irreducible] Go.Sx.Tri
section
variable{V0 V V':Mem}{p:Nat}{d:Ds}{x x':Gm}{log:List En}{ends logs:List Nat}{mems:List Gm}{Ok:Gm->Prop}{k:Nat}{lg en gs ns:Sl}{nd nd':List Nd}
theorem SA.markAt(S:SA V0 V p d x log ends k lg en):V.rowp (sa p) 12 1=some [.int .i64 k]:=by
 obtain⟨-,gs,ns,nd,S⟩:=S;exact S.read (j:=12) (n:=1) (by decide)
theorem SA.enAt(S:SA V0 V p d x log ends k lg en):V.rowp (sa p) 11 1=some [en.v]:=by
 obtain⟨-,gs,ns,nd,S⟩:=S;exact S.read (j:=11) (n:=1) (by decide)
theorem c18(S:SA V0 V p d x log ends k lg en):PP 18 [pv p] V (.int .i64 k):=by
 refine x18 ?_
 unfold w18
 exact⟨fun h=>absurd h nn,fun _=>⟨nn,nn,_,S.markAt,rfl,rfl⟩⟩
theorem c19(S:SA V0 V p d x log ends k lg en):PP 19 [pv p] V (.int .i64 ends.length):=by
 refine x19 ?_
 unfold w19
 have hn:=S.enRows.n_eq
 exact⟨fun h=>absurd h nn,fun _=>⟨nn,nn,_,S.enAt,by rw[hn],rfl⟩⟩
theorem c20(S:SA V0 V p d x log ends k lg en)(hk:k<=ends.length):PP 20 [pv p] V (.int .i64 (qAI ends k)):=by
 refine x20 ?_
 unfold w20
 refine⟨fun h=>absurd h nn,fun _=>⟨nn,nn,_,S.markAt,fun h=>?_,fun h=>?_⟩⟩
 ·obtain rfl:k=0:=by have h:(k:Int)=0:=h;omega
  exact⟨rfl,rfl⟩
 ·obtain⟨j,rfl⟩:∃j,k=j+1:=⟨k-1,by have h:¬(k:Int)=0:=h;omega⟩
  have e1:(((j+1:Nat):Int)-1)=(j:Int):=by omega
  obtain⟨a1,a2,a3,a4⟩:=en_at S (i:=j) (by omega)
  have:=S.enRows.fit;have:=S.enRows.cap
  refine⟨nn,nn,en,S.enAt,nn,nn,_,S.markAt,⟨by omega,by omega⟩,?_⟩
  rw[e1]
  exact⟨a1,a2,a3,_,a4,rfl,rfl⟩
theorem c13(S:SA V0 V p d x log ends k lg en)(H:qGk Ok mems logs k log ends)(hx:mems[k]?=some x){j:Int}:Tri Tryz.prog 13 #[pv p,.int .i64 j] V fun e V' =>
  (¬(0<=j/\j<=(k:Int))/\e=.returned (.int .i64 2)/\V'=V)∨(∃n:Nat,j=n/\n<=k/\e=.returned (.int .i64 0)/\∃x',mems[n]?=some x'/\SA V0 V' p d x' log ends n lg en):=by
 refine x13 ?_
 unfold w13
 refine⟨fun h=>absurd h nn,fun _=>⟨fun h=>.inl ⟨fun hj=>by have h:j<0:=h;omega,rfl,rfl⟩,fun h=>⟨nn,nn,_,S.markAt,fun h2=>.inl ⟨fun hj=>by have h2:(k:Int)<j:=h2;omega,rfl,rfl⟩,fun h2=>?_⟩⟩⟩
 have h:¬j<0:=h
 have h2:¬(k:Int)<j:=h2
 obtain⟨n,rfl⟩:∃n:Nat,j=n:=⟨j.toNat,by omega⟩
 have hnk:n<=k:=by omega
 have hkl:=H.le
 have hel:=H.elen
 have hf1:=S.enRows.n_eq
 have hf2:=S.enRows.cap
 have hf3:=S.enRows.fit
 refine⟨fun m xs V1=>xs=[]/\∃t x',m=t-n/\n<=t/\t<=k/\mems[t]?=some x'/\SA V0 V1 p d x' log ends t lg en,k-n,⟨rfl,k,x,rfl,hnk,Nat.le_refl _,hx,S⟩,?_⟩
 rintro m V1 ⟨-,t,x',rfl,ht1,ht2,hxt,S1⟩ J hJ
 refine⟨nn,nn,_,S1.markAt,fun hlt=>?_,fun hge=>?_⟩
 ·have hlt:(n:Int)<(t:Int):=hlt
  obtain⟨t',rfl⟩:∃t',t=t'+1:=⟨t-1,by omega⟩
  have e1:(((t'+1:Nat):Int)-1)=(t':Int):=by omega
  refine⟨nn,nn,_,S1.markAt,⟨by omega,by omega⟩,nn,nn,?_⟩
  rw[e1]
  refine S1.mark (k':=(t':Int)) fun V2 S2=>⟨nn,nn,_,S2.markAt,?_⟩
  have H':=H.move (j:=t') (by omega)
  have hi:t'<logs.length:=by omega
  refine(c39 S2 H' hi).call ⟨_,rfl,?_⟩
  obtain⟨b,hb,-⟩:=H.get (i:=t') (by omega)
  have hw:=(H.way t' b x' hb hxt).2
  obtain⟨l,hl⟩:∃l,l=qJj log ends t':=⟨_,rfl⟩
  obtain⟨ps,hps⟩:∃ps,ps=qIA lg (qAI ends t') (qAI ends (t'+1)):=⟨_,rfl⟩
  rw[<- hl]at hw
  rw[<- hps]
  have rows:∀{U:Mem} {u:Gm},SA V0 U p d u log ends t' lg en->qAc U ps 7 (l.map qDK):=fun S=>by rw[hps,hl];exact part_rows S H' hi
  have hpn:=(rows S2).n_eq
  have hpc:=(rows S2).cap
  have hpf:=(rows S2).fit
  refine⟨⟨by omega,by omega⟩,fun m xs V4=>∃(q:Nat) (u:Gm),xs=[.int .i64 ((q:Int)-1)]/\m=q/\q<=l.length/\Chn qHY undoK u (l.take q).reverse b/\SA V0 V4 p d u log ends t' lg en,l.length,⟨l.length,x',by rw[hpn],rfl,Nat.le_refl _,by rw[List.take_of_length_le (Nat.le_refl _)];exact hw,S2⟩,?_⟩
  rintro m V4 v ⟨q,u,hv,rfl,hq,hc,S4⟩ J1 hJ1
  simp only[List.cons.injEq,Value.int.injEq,true_and,and_true]at hv
  subst hv
  refine⟨fun h0=>?_,fun h0=>?_⟩
  ·have h0:(0:Int)<=(m:Int)-1:=h0
   obtain⟨q',rfl⟩:∃q',m=q'+1:=⟨m-1,by omega⟩
   have e2:(((q'+1:Nat):Int)-1)=(q':Int):=by omega
   rw[e2]
   obtain⟨e,hem,he,-,hel2,hp,hz,hrow⟩:=(rows S4).get (i:=q') (by omega)
   have ht:(l.take (q'+1)).reverse=e::(l.take q').reverse:=by rw[List.take_add_one,he,List.reverse_append];rfl
   rw[ht]at hc
   cases hc with
   | cons ho hc =>
   have hlt2:(q':Int)<(ps.n:Int):=by omega
   have hq':=qAe (n:=q'*7) hp
   have next:∀{V5:Mem},SA V0 V5 p d (qHY u e) log ends t' lg en->IR ((q':Int)-1)/\J1 [.int .i64 ((q':Int)-1)] V5:=fun {V5} S5=>⟨⟨by omega,by omega⟩,hJ1 q' _ _ (by omega) ⟨q',qHY u e,rfl,rfl,by omega,hc,S5⟩⟩
   refine⟨hp,hz,hlt2,hq',_,_,_,_,_,_,_,hrow,fun ha=>?_,fun ha=>?_⟩
   ·have ha:e.al=true:=ha
    rcases ho with⟨-,n',hn',hle⟩|⟨hno,-⟩
    ·obtain⟨c,c1,c2,c3⟩:=S4.cut hle
     have e3:e.node-1=(n':Int):=by omega
     have e4:qHY u e=(u.1,u.2.take n'):=by unfold qHY;rw[if_pos ha,e3];rfl
     rw[e4]at next
     have hcc:c.c<=9223372036854775807:=by
      obtain⟨-,gs,ns,nd,St⟩:=S4
      have:=(St.lay.nodes.rows (row:=Nd.row) (fun _=>rfl) (by decide)).fit
      have e5:=(St.read (j:=9) (n:=1) (by decide)).symm.trans c1
      have e5:ns.v=c.v:=by simpa [qGo]using e5
      have:ns.c=c.c:=by unfold Sl.v at e5;cases ns;cases c;simp_all
      omega
     refine⟨nn,nn,pnn,c,c1,hp,hz,hlt2,hq',_,_,_,_,_,_,_,hrow,?_⟩
     rw[e3]
     exact⟨⟨by omega,by omega⟩,⟨by omega,by omega,by omega⟩,nn,nn,pnn,c3 fun V5 S5=>next S5⟩
    ·rw[ha]at hno;cases hno
   ·have ha:¬e.al=true:=ha
    rcases ho with⟨hyes,-⟩|⟨-,n',i',hn',hi',hin⟩
    ·exact absurd hyes ha
    ·have e4:qHY u e=qIt u n' i' e.old:=by unfold qHY;rw[if_neg ha,hn',hi'];rfl
     rw[e4]at next
     have T:=c40 S4 hin (v:=e.old)
     rw[<- hn',<- hi']at T
     refine⟨hp,hz,hlt2,hq',_,_,_,_,_,_,_,hrow,hp,hz,hlt2,hq',_,_,_,_,_,_,_,hrow,hp,hz,hlt2,hq',_,_,_,_,_,_,_,hrow,Tri.mono T ?_⟩
     rintro _ V5 ⟨rfl,S5⟩
     exact⟨rfl,next S5⟩
  ·obtain rfl:m=0:=by have h0:¬(0:Int)<=(m:Int)-1:=h0;omega
   have hub:u=b:=by
    rw[List.take_zero,List.reverse_nil]at hc
    cases hc;rfl
   subst hub
   exact hJ (t'-n) [] V4 (by omega) ⟨rfl,t',u,rfl,by omega,by omega,hb,S4⟩
 ·have hge:¬(n:Int)<(t:Int):=hge
  obtain rfl:t=n:=by omega
  exact .inr ⟨t,rfl,ht2,rfl,x',hxt,S1⟩
end
section
variable{V0 V V':Mem}{p:Nat}{d:Ds}{x x':Gm}{log:List En}{ends logs:List Nat}{mems:List Gm}{Ok:Gm->Prop}{k:Nat}{lg en gs ns:Sl}{nd nd':List Nd}
theorem SAt.node(S:SAt V0 V p d x log ends k lg en gs ns nd)(p0:V0 p=none){n:Nd}{V1:Mem}(hown:Sx.Own V V1 3 1 n.sl (n.f.flatMap qAn)){ty tb:Nat}{y z:Operand}{vals:Operand->Value}(htb:V1 tb=none)(hx:vals y=.slice ns.p ns.n ns.c)(hy:vals z=.slice (sa tb) 1 1)(hfit:x.2.length+1<=2147483648){q:Value->Mem->Prop}
  (hq:∀(s':Sl) V',(∀{q':Mem->Prop},(∀V2,SA V0 V2 p d (x.1,x.2++[(n.ty,n.f)]) log ends k lg en->q' V2)->StT (qAa (sa p) 9) 0 [s'.v] V' q')->q (.slice s'.p s'.n s'.c) V') :
  GenK Tryz.prog (.call { callee:=.builtin .append,args:=#[y,z],argTypes:=#[32,32] }) ty vals (V1.set tb (.cells n.row.toArray 104 (0,0))) q:=by
 have hnl:=S.lay.len
 have hnl:nd.length=x.2.length:=hnl
 refine S.lay.new hown htb hx hy (by omega) fun s' V' L hk=>hq s' V' fun {q'} hq'=>?_
 have s1:=hown.sub
 have np:¬Blk ns p:=S.lay.nodes.apart fun cur=>S.alien cur _ (.inr (.inl rfl))
 have at':V' p=some (.cells (qGo d gs ns lg en k).toArray 88 (0,0)):=hk _ _ (s1 _ _ S.at_) np
 refine StT.at2 (off:=9) at' (by simp[qGo]) (hq' _ ⟨p0,gs,s',nd++[n],?_⟩)
 have lg':Sx.Own V0 V' 101 7 lg (log.flatMap qDK):=Own.moveB S.lgo L.sub fun g cur hg hc=>hk _ _ (s1 _ _ hc) (S.lgN S.lay.nodes (.inr (.inl rfl)) hg)
 have en':Sx.Own V0 V' 3 1 en (ends.flatMap qFt):=Own.moveB S.eno L.sub fun g cur hg hc=>hk _ _ (s1 _ _ hc) (S.lay.nodes.apart fun cur' h'=>by
  rw[hc]at h'
  simp only[Option.some.injEq,Obj.cells.injEq]at h'
  exact absurd h'.2.1 (by decide))
 have S':SAt V0 V' p d (x.1,x.2++[(n.ty,n.f)]) log ends k lg en gs s' (nd++[n])->SAt V0 (V'.set p (.cells (qGo d gs s' lg en k).toArray 88 (0,0))) p d (x.1,x.2++[(n.ty,n.f)]) log ends k lg en gs s' (nd++[n]):=fun S=>S.put p0 rfl
 have al:qIh V' p:=qBU at' qCK.1
 refine⟨by erw [Mem.set_same];rfl,L.put al p0 _,lg'.put (lg'.apart fun cur hc=>?_) p0 _,en'.put (en'.apart fun cur=>al cur _ (.inl rfl)) p0 _,S.eg,fun m hm c hc hb=>?_⟩
 ·rw[at']at hc
  simp only[Option.some.injEq,Obj.cells.injEq]at hc
  exact qCK.2.1 hc.2.1
 ·rcases List.mem_append.1 hm with hm|hm
  ·exact S.ef m hm c hc hb
  ·rw[List.mem_singleton.1 hm]at hb
   have h0:=Own.none0 hown hb
   obtain⟨cur,h1⟩:=Own.some S.eno hc
   rw[h0]at h1;cases h1
theorem c15(S:SA V0 V p d x log ends k lg en)(H:qGk Ok mems logs k log ends)(hx:mems[k]?=some x):Tri Tryz.prog 15 #[pv p] V fun e V' =>
  (k=logs.length/\e=.returned (.tuple #[.int .i64 0,.int .i64 12])/\V'=V)∨(k<logs.length/\e=.returned (.tuple #[.int .i64 ((k+1:Nat):Int),.int .i64 0])/\∃x',mems[k+1]?=some x'/\SA V0 V' p d x' log ends ((k+1:Nat):Int) lg en):=by
 refine x15 ?_
 unfold w15
 have hkl:=H.le
 have hel:=H.elen
 have hf1:=S.enRows.n_eq
 have hf2:=S.enRows.cap
 have hf3:=S.enRows.fit
 refine⟨fun h=>absurd h nn,fun _=>⟨nn,nn,_,S.markAt,nn,nn,_,S.enAt,fun h=>.inl ⟨by have h:(k:Int)=(en.n:Int):=h;omega,rfl,rfl⟩,fun h=>⟨nn,nn,_,S.markAt,?_⟩⟩⟩
 have h:¬(k:Int)=(en.n:Int):=h
 have hi:k<logs.length:=by omega
 refine(c39 S H hi).call ⟨_,rfl,?_⟩
 obtain⟨a,ha,-⟩:=H.get (i:=k+1) hi
 have hw:=(H.way k x a hx ha).1
 obtain⟨l,hl⟩:∃l,l=qJj log ends k:=⟨_,rfl⟩
 obtain⟨ps,hps⟩:∃ps,ps=qIA lg (qAI ends k) (qAI ends (k+1)):=⟨_,rfl⟩
 rw[<- hl]at hw
 rw[<- hps]
 have rows:∀{U:Mem} {u:Gm},SA V0 U p d u log ends k lg en->qAc U ps 7 (l.map qDK):=fun S=>by rw[hps,hl];exact part_rows S H hi
 have hpn:=(rows S).n_eq
 refine qHw l.length (fun i V1=>∃u,Chn qGH redoK u (l.drop i) a/\SA V0 V1 p d u log ends k lg en) ⟨x,hw,S⟩ ?_
 rintro i V2 J hil ⟨u,hc,S2⟩ hJ
 refine⟨fun hlt=>?_,fun hge=>?_⟩
 ·obtain⟨e,hem,he,hdr,hel2,hp,hz,hrow⟩:=(rows S2).get hlt
  rw[hdr]at hc
  cases hc with
  | cons ho hc =>
  have next:∀{V5:Mem},SA V0 V5 p d (qGH u e) log ends k lg en->IR ((i:Int)+1)/\J [.int .i64 ((i:Int)+1)] V5:=fun {V5} S5=>⟨(rows S2).succ hlt,hJ hel2 _ ⟨qGH u e,hc,S5⟩⟩
  refine⟨hp,hz,hlt,_,_,_,_,_,_,_,hrow,fun hal=>?_,fun hal=>?_⟩
  ·have hal:e.al=true:=hal
   rcases ho with⟨-,⟨n,hn,hn12⟩,hu⟩|⟨hno,-⟩
   ·have e4:qGH u e=(u.1,u.2++[(e.typ,List.replicate n 0)]):=by unfold qGH;rw[if_pos hal,hn];rfl
    rw[e4]at next
    obtain⟨p0,gs,ns,nd,St⟩:=S2
    rw[hn]
    refine⟨nn,nn,pnn,ns,St.read (j:=9) (n:=1) (by decide),mk31 (n:=n) rfl rfl (by omega) fun g hg=>⟨⟨some ⟨g,0,none⟩,n,n⟩,rfl,?_⟩⟩
    have hown:=own_made hg (n:=n) (by omega)
    have s1:=hown.sub
    refine⟨qAK (s1 _ _ St.at_) 9 0 1 (by simp[qGo]),pnn,nn,nn,qAK (s1 _ _ St.at_) 9 0 1 (by simp[qGo]),pnn,nn,nn,fun tb htb=>?_⟩
    refine St.node p0 (n:=⟨e.typ,⟨some ⟨g,0,none⟩,n,n⟩,List.replicate n 0⟩) hown htb rfl rfl (by omega) fun s' V' hst=>⟨s',rfl,nn,nn,pnn,hst fun V6 S6=>next S6⟩
   ·rw[hal]at hno;cases hno
  ·have hal:¬e.al=true:=hal
   rcases ho with⟨hyes,-⟩|⟨-,n',i',hn',hi',hin⟩
   ·exact absurd hyes hal
   ·have e4:qGH u e=qIt u n' i' e.new:=by unfold qGH;rw[if_neg hal,hn',hi'];rfl
    rw[e4]at next
    have T:=c40 S2 hin (v:=e.new)
    rw[<- hn',<- hi']at T
    refine Tri.mono T ?_
    rintro _ V5 ⟨rfl,S5⟩
    exact⟨rfl,next S5⟩
 ·have hd:=((rows S2).done hge).2
  rw[List.drop_of_length_le hd]at hc
  have hub:u=a:=by cases hc;rfl
  subst hub
  refine⟨nn,nn,_,S2.markAt,⟨by omega,by omega⟩,nn,nn,S2.mark (k':=(k:Int)+1) fun V3 S3=>⟨nn,nn,(k:Int)+1,?_,?_⟩⟩
  ·obtain⟨-,gs,ns,nd,St⟩:=S3
   exact St.read (j:=12) (n:=1) (by decide)
  ·exact .inr ⟨hi,rfl,u,ha,S3⟩
theorem SAt.mm(S:SAt V0 V p d x log ends k lg en gs ns nd){d0:Ds}(hd:Ds.Ok V0 d0)(G:OkG d0 x):Mm.Ok V ⟨gs,x.1,ns,nd⟩/\(⟨gs,x.1,ns,nd⟩:Mm).plain=x:=qDZ hd S.lay G
theorem c21(S:SA V0 V p d x log ends k lg en){d0:Ds}(hd:Ds.Ok V0 d0)(G:OkG d0 x):Tri Tryz.prog 21 #[pv p] V fun e V'=>V.sub V'/\∃m:Mm,e=.returned m.v/\Mm.Ok V' m/\m.plain=x:=by
 refine x21 ?_
 unfold w21
 obtain⟨-,gs,ns,nd,St⟩:=S
 obtain⟨hm,hpl⟩:=St.mm hd G
 have G':qAo d0 ⟨gs,x.1,ns,nd⟩:=G.to hpl
 obtain⟨l1,l2,l3⟩:=qHF G'
 refine⟨fun h=>absurd h nn,fun _=>⟨nn,nn,gs,ns,St.read (j:=8) (n:=2) (by decide),Tri.mono (c32 hm l1 l2 l3) ?_⟩⟩
 rintro _ V1 ⟨gs',ns',nd',rfl,L⟩
 obtain⟨h1,h2⟩:=ok_copy hm L
 exact⟨gs',ns',rfl,L.sub,⟨gs',x.1,ns',nd'⟩,rfl,h1,h2.trans hpl⟩
end
section
variable{V0 V V':Mem}{p:Nat}{d:Ds}{x x':Gm}{log:List En}{ends logs:List Nat}{mems:List Gm}{Ok:Gm->Prop}{k:Int}{lg en gs ns:Sl}{nd nd':List Nd}{m:Mm}
theorem c63(hm:Mm.Ok V m)(hp:m.plain=x){n i:Nat}(h:x.2.length<n∨InP x n i):PP 63 [m.v,.int .i64 n,.int .i64 i] V (.int .i64 (qGI x n i)):=by
 subst hp
 refine x63 ?_
 unfold w63
 have hgn:=hm.globals.n_eq
 have hnn:=hm.nodes.n_eq
 have hnc:=hm.nodes.cap
 have hnf:=hm.nodes.fit
 have hl:m.plain.2.length=m.nodes.length:=by simp[Mm.plain]
 have hg:m.plain.1=m.globals:=rfl
 refine⟨fun h0=>?_,fun h0=>⟨fun h1=>?_,fun h1=>?_⟩⟩
 ·obtain rfl:n=0:=by have h0:(n:Int)=0:=h0;omega
  rcases h with h|⟨-,h⟩|⟨_,_,_,h,_⟩
  ·omega
  ·rw[hg]at h
   obtain⟨y,-,hy,-,-,hp,hz,hrow⟩:=hm.globals.get (i:=i) (by omega)
   refine⟨hp,hz,by omega,y,hrow,?_,rfl⟩
   rw[loc_g,hg,List.getD_eq_getElem?_getD,hy];rfl
  ·omega
 ·have h1:(m.ns.n:Int)<(n:Int):=h1
  obtain⟨q,rfl⟩:∃q,n=q+1:=⟨n-1,by omega⟩
  refine⟨?_,rfl⟩
  have:qGI m.plain (q+1) i=0:=by
   have e:m.plain.2.getD q (0,[])=(0,[]):=by rw[List.getD_eq_getElem?_getD,List.getElem?_eq_none (by omega)];rfl
   rw[qFw,e];rfl
  rw[this]
 ·have h1:¬(m.ns.n:Int)<(n:Int):=h1
  have h0:¬(n:Int)=0:=h0
  obtain⟨q,rfl⟩:∃q,n=q+1:=⟨n-1,by omega⟩
  have e1:(((q+1:Nat):Int)-1)=(q:Int):=by omega
  rcases h with h|⟨h,-⟩|⟨q',t,f,h,h2,h3⟩
  ·omega
  ·omega
  ·obtain rfl:q'=q:=by omega
   obtain⟨y,hym,hy,-,-,hp,hz,hrow⟩:=hm.nodes.get (i:=q') (by omega)
   have h2':m.plain.2[q']?=some (y.ty,y.f):=by
    show (m.nodes.map fun n=>(n.ty,n.f))[q']?=_
    rw[List.getElem?_map,hy];rfl
   rw[h2']at h2;cases h2
   have hr:=(hm.nodesOk y hym).rows
   have hrn:=hr.n_eq
   obtain⟨z,-,hzz,-,-,hp2,hz2,hrow2⟩:=hr.get (i:=i) (by omega)
   refine⟨⟨by omega,by omega⟩,?_⟩
   rw[e1]
   refine⟨hp,hz,by omega,qAe hp,_,_,hrow,hp2,hz2,by omega,z,hrow2,?_,rfl⟩
   rw[loc_at h2',List.getD_eq_getElem?_getD,hzz];rfl
theorem SAt.grow(S:SAt V0 V p d x log ends k lg en gs ns nd)(hs:V.sub V'):SAt V0 V' p d x log ends k lg en gs ns nd:=⟨hs _ _ S.at_,S.lay.grow hs,own_grow S.lgo hs,own_grow S.eno hs,S.eg,S.ef⟩
theorem cut_sl{e sz:Nat}{s:Sl}{vs:List Value}(o:Sx.Own V0 V e sz s vs)(n:Nat):(.slice (if (s.c:Int)=(0:Int) then s.p else qAa s.p ((0:Int).toNat*sz)) ((n:Int)-0).toNat ((s.c:Int)-0).toNat:Value)=(⟨s.p,n,s.c⟩:Sl).v:=by
 rw[show ((n:Int)-0).toNat=n by omega,show ((s.c:Int)-0).toNat=s.c by omega,show (0:Int).toNat*sz=0 by simp]
 by_cases h:s.c=0
 ·rw[if_pos (by omega)];rfl
 ·rw[if_neg (by omega),ptr_zero o h];rfl
theorem SAt.cutEn(S:SAt V0 V p d x log ends k lg en gs ns nd)(p0:V0 p=none){n:Nat}(hn:n<=ends.length){q:Mem->Prop}(hq:∀V',SAt V0 V' p d x log (ends.take n) k lg ⟨en.p,n,en.c⟩ gs ns nd->(∀c,c≠p->V' c=V c)->q V') :
  n<=en.c/\StT (qAa (sa p) 11) 0 [.slice (if (en.c:Int)=(0:Int) then en.p else qAa en.p ((0:Int).toNat*1)) ((n:Int)-0).toNat ((en.c:Int)-0).toNat] V q:=by
 have R:=S.eno.rows qDm (by decide)
 have:=R.n_eq
 have:=R.cap
 refine⟨by omega,?_⟩
 rw[cut_sl S.eno]
 refine StT.at2 (off:=11) S.at_ (by simp[qGo]) (hq _ ?_ fun c hc=>Mem.set_ne hc)
 have nb:¬Blk en p:=S.eno.apart fun cur=>S.alien cur _ (.inl rfl)
 exact⟨Mem.set_same _ _ _,S.lay.put S.alien p0 _,S.lgo.put S.notLg p0 _,(own_cut qDm S.eno hn (by decide)).put nb p0 _,S.eg,S.ef⟩
theorem SAt.cutLg(S:SAt V0 V p d x log ends k lg en gs ns nd)(p0:V0 p=none){n:Nat}(hn:n<=log.length){q:Mem->Prop}(hq:∀V',SAt V0 V' p d x (log.take n) ends k ⟨lg.p,n,lg.c⟩ en gs ns nd->(∀c,c≠p->V' c=V c)->q V') :
  n<=lg.c/\StT (qAa (sa p) 10) 0 [.slice (if (lg.c:Int)=(0:Int) then lg.p else qAa lg.p ((0:Int).toNat*7)) ((n:Int)-0).toNat ((lg.c:Int)-0).toNat] V q:=by
 have R:=S.lgo.rows qCC (by decide)
 have:=R.n_eq
 have:=R.cap
 refine⟨by omega,?_⟩
 rw[cut_sl S.lgo]
 refine StT.at2 (off:=10) S.at_ (by simp[qGo]) (hq _ ?_ fun c hc=>Mem.set_ne hc)
 exact⟨Mem.set_same _ _ _,S.lay.put S.alien p0 _,(own_cut qCC S.lgo hn (by decide)).put S.notLg p0 _,S.eno.put (S.eno.apart fun cur=>S.alien cur _ (.inl rfl)) p0 _,S.eg,S.ef⟩
theorem SAt.addLg(S:SAt V0 V p d x log ends k lg en gs ns nd)(p0:V0 p=none){e:En}{ty tb:Nat}{y z:Operand}{vals:Operand->Value}(htb:V tb=none)(hx:vals y=.slice lg.p lg.n lg.c)(hy:vals z=.slice (sa tb) 1 1)(hfit:log.length+1<=2147483648){q:Value->Mem->Prop}
  (hq:∀(s':Sl) V',(∀{q':Mem->Prop},(∀V2,SAt V0 V2 p d x (log++[e]) ends k s' en gs ns nd->(∀c o,V c=some o->c≠p->¬Blk lg c->V2 c=some o)->q' V2)->StT (qAa (sa p) 10) 0 [s'.v] V' q')->q (.slice s'.p s'.n s'.c) V') :
  GenK Tryz.prog (.call { callee:=.builtin .append,args:=#[y,z],argTypes:=#[86,86] }) ty vals (V.set tb (.cells (qDK e).toArray 101 (0,0))) q:=by
 refine app86 (s:=lg) (u:=⟨some ⟨tb,0,none⟩,1,1⟩) (xs:=log) (ys:=[e]) hx hy (S.lgo.but.new htb _) (qAc.cells (xs:=[e]) (row:=qDK) mss (by simp) (fun _=>rfl) rfl (by simp)) (by simpa using hfit) fun s' V' ho=>hq s' V' fun {q'} hq'=>?_
 have hk:∀c o,V c=some o->¬Blk lg c->V' c=some o:=fun c o hc hb=>ho.sub _ _ (Mem.but_at hc hb)
 have hs:V0.sub V':=S.lgo.sub_but.trans ho.sub
 have at':=hk _ _ S.at_ S.notLg
 have al:qIh V' p:=qBU at' qCK.1
 have L':Lay V0 V' gs ns qAv nd (gst x):=S.lay.move hs fun c o hc h0 hna=>hk c o hc fun hb=>hna (by
  obtain⟨cur,h⟩:=Own.some S.lgo hb
  exact qBU h qCK.2.2)
 have en':Sx.Own V0 V' 3 1 en (ends.flatMap qFt):=Own.moveB S.eno hs fun g cur hg hc=>hk _ _ hc fun hb=>S.lgN S.eno (.inl rfl) hb hg
 have lg':=ho.narrow S.lgo.sub_but
 refine StT.at2 (off:=10) at' (by simp[qGo]) (hq' _ ⟨by erw [Mem.set_same];rfl,L'.put al p0 _,lg'.put (lg'.apart fun cur hc=>?_) p0 _,en'.put (en'.apart fun cur=>al cur _ (.inl rfl)) p0 _,S.eg,S.ef⟩ fun c o hc hcp hb=>?_)
 ·rw[at']at hc
  simp only[Option.some.injEq,Obj.cells.injEq]at hc
  exact qCK.2.1 hc.2.1
 ·rw[Mem.set_ne hcp];exact hk c o hc hb
theorem SAt.addEn(S:SAt V0 V p d x log ends k lg en gs ns nd)(p0:V0 p=none){e:Nat}{ty tb:Nat}{y z:Operand}{vals:Operand->Value}(htb:V tb=none)(hx:vals y=.slice en.p en.n en.c)(hy:vals z=.slice (sa tb) 1 1)(hfit:ends.length+1<=2147483648){q:Value->Mem->Prop}
  (hq:∀(s':Sl) V',(∀{q':Mem->Prop},(∀V2,SAt V0 V2 p d x log (ends++[e]) k lg s' gs ns nd->(∀c o,V c=some o->c≠p->¬Blk en c->V2 c=some o)->(∀c,Blk s' c->Blk en c∨V c=none)->q' V2)->StT (qAa (sa p) 11) 0 [s'.v] V' q')->q (.slice s'.p s'.n s'.c) V') :
  GenK Tryz.prog (.call { callee:=.builtin .append,args:=#[y,z],argTypes:=#[31,31] }) ty vals (V.set tb (.cells (qFt e).toArray 3 (0,0))) q:=by
 refine appN (s:=en) (u:=⟨some ⟨tb,0,none⟩,1,1⟩) (xs:=ends) (ys:=[e]) hx hy (S.eno.but.new htb _) (qAc.cells (xs:=[e]) (row:=qFt) mss (by simp) (fun _=>rfl) rfl (by simp)) (by simpa using hfit) fun s' V' ho=>hq s' V' fun {q'} hq'=>?_
 have hk:∀c o,V c=some o->¬Blk en c->V' c=some o:=fun c o hc hb=>ho.sub _ _ (Mem.but_at hc hb)
 have hs:V0.sub V':=S.eno.sub_but.trans ho.sub
 have nb:¬Blk en p:=S.eno.apart fun cur=>S.alien cur _ (.inl rfl)
 have at':=hk _ _ S.at_ nb
 have al:qIh V' p:=qBU at' qCK.1
 have hnew:∀c,Blk s' c->Blk en c∨V c=none:=fun c hc=>by
  have h0:=Own.none0 ho hc
  by_cases hb:Blk en c
  ·exact .inl hb
  ·right
   cases hv:V c with
   | none=>rfl
   | some o=>rw[Mem.but_at hv hb]at h0;cases h0
 have glob':Sx.Own V0 V' 3 1 gs (x.1.flatMap qAn):=Own.moveB S.lay.glob hs fun g cur hg hc=>hk _ _ hc fun hb=>S.eg g hb hg
 have node':Sx.Own V0 V' 104 2 ns (nd.flatMap Nd.row):=Own.moveB S.lay.nodes hs fun g cur hg hc=>hk _ _ hc (S.eno.apart fun cur' h'=>by
  rw[hc]at h'
  simp only[Option.some.injEq,Obj.cells.injEq]at h'
  exact absurd h'.2.1 (by decide))
 have L':Lay V0 V' gs ns qAv nd (gst x):=⟨glob',node',Own.nil hs _ _,fun n hn=>Own.moveB (S.lay.fld n hn) hs fun g cur hg hc=>hk _ _ hc fun hb=>S.ef n hn g hb hg,S.lay.eq,S.lay.gf,S.lay.ff⟩
 have lg':Sx.Own V0 V' 101 7 lg (log.flatMap qDK):=Own.moveB S.lgo hs fun g cur hg hc=>hk _ _ hc fun hb=>S.lgN S.eno (.inl rfl) hg hb
 have en':=ho.narrow S.eno.sub_but
 have far:∀{s:Sl} {e sz:Nat} {vs:List Value},Sx.Own V0 V e sz s vs->(∀c,Blk en c->¬Blk s c)->∀c,Blk s' c->¬Blk s c:=fun {s e sz vs} o h c hc hs=>by
  rcases hnew c hc with h1|h1
  ·exact h c h1 hs
  ·obtain⟨cur,h2⟩:=Own.some o hs
   rw[h1]at h2;cases h2
 refine StT.at2 (off:=11) at' (by simp[qGo]) (hq' _ ⟨by erw [Mem.set_same];rfl,L'.put al p0 _,lg'.put (lg'.apart fun cur hc=>?_) p0 _,en'.put (en'.apart fun cur=>al cur _ (.inl rfl)) p0 _,far S.lay.glob S.eg,fun n hn=>far (S.lay.fld n hn) (S.ef n hn)⟩ (fun c o hc hcp hb=>?_) hnew)
 ·rw[at']at hc
  simp only[Option.some.injEq,Obj.cells.injEq]at hc
  exact qCK.2.1 hc.2.1
 ·rw[Mem.set_ne hcp];exact hk c o hc hb
end
section
variable{V0 V V':Mem}{p:Nat}{d d':Ds}{x:Gm}{log:List En}{ends logs:List Nat}{mems:List Gm}{Ok:Gm->Prop}{k F:Nat}{lg en gs ns l:Sl}{nd:List Nd}{nm:ByteArray}{args:List Int}{m m':Mm}{at':Bool}
theorem start_same(G:qAo d m)(G':qAo d' m')(SD:qEY d d')(hp:m'.plain=m.plain){F:Int}:qAO d' m' nm args F=qAO d m nm args F:=by
 unfold qAO qBs
 rw[if_pos G,if_pos G',SD.cll,qGh hp]
def outRow(r:Rx Int):List Value:=qDv (outC r) (outV r) r.st.cm (qCl r.st.lg)
def StepP(V0:Mem)(p:Nat)(d d':Ds)(x:Gm)(log:List En)(ends:List Nat)(k F:Nat)(lg en:Sl)(nm:ByteArray)(args:List Int)(atm:Bool):Ending->Mem->Prop:=fun e V' =>
 (qAO d (gmM x) nm args F≠0/\e=.returned (.tuple #[.agg (qDv 0 0 0 0).toArray,.int .i64 (qAO d (gmM x) nm args F)])/\SA V0 V' p d' x log ends k lg en) ∨
 (qAO d (gmM x) nm args F=0/\∃r:Rx Int,r=qCq d F (qDT d nm) args (gst x) /\
  ((2000<=k/\e=.returned (.tuple #[.agg (qDv 0 0 0 0).toArray,.int .i64 4])/\SA V0 V' p d' x log ends k lg en) ∨
  (k<2000/\atm=true/\outC r≠0/\e=.returned (.tuple #[.agg (outRow r).toArray,.int .i64 0])/\SA V0 V' p d' x log ends k lg en) ∨
  (k<2000/\¬(atm=true/\outC r≠0)/\e=.returned (.tuple #[.agg (outRow r).toArray,.int .i64 0])/\∃lg' en',SA V0 V' p d' (r.st.g,r.st.ns) (log.take (qAI ends k)++qBF d x (r.st.g,r.st.ns) r.st.lg) (ends.take k++[qAI ends k+(qBF d x (r.st.g,r.st.ns) r.st.lg).length]) ((k+1:Nat):Int) lg' en')))
structure New1 (V0:Mem) (V:Mem) (gs ns ls:Sl) (nd:List Nd) (lt:Sl) (s:St):Prop where
 lay:Lay V0 V gs ns ls nd s
 tr:Sx.Own V0 V 98 3 lt (s.lg.flatMap qFK)
theorem New1.move{lt ls:Sl}{s:St}(h:New1 V0 V gs ns ls nd lt s)(hs:V0.sub V')(hk:∀c o,V c=some o->V0 c=none->¬qIh V c->V' c=some o):New1 V0 V' gs ns ls nd lt s :=
 ⟨h.lay.move hs hk,Own.moveB h.tr hs fun g cur hg hc=>hk _ _ hc (Own.none0 h.tr hg) fun ha=>ha _ _ (.inr (.inr rfl)) hc⟩
theorem ents_succ{b a:Gm}{t:Int×Int×Int}{l:List (Int×Int×Int)}{i:Nat}(h:l[i]?=some t):qBF d b a (l.take (i+1))=qBF d b a (l.take i)++qIe d b a t:=by
 unfold qBF
 rw[List.take_add_one,h,List.flatMap_append];simp
theorem ents_le{b a:Gm}{l:List (Int×Int×Int)}{i:Nat}:(qBF d b a (l.take i)).length<=i:=by
 induction i with
 | zero=>simp[qBF]
 | succ i ih =>
  cases h:l[i]? with
  | none=>rw[List.take_add_one,h];simp only[Option.toList,List.append_nil];omega
  | some t =>
   rw[ents_succ h,List.length_append]
   have:(qIe d b a t).length<=1:=by
    unfold qIe
    by_cases h2:t.1=2
    ·rw[if_pos h2];exact Nat.le_refl _
    ·rw[if_neg h2]
     by_cases h3:t.1=3
     ·rw[if_pos h3];exact Nat.le_refl _
     ·rw[if_neg h3];exact Nat.zero_le _
   omega
theorem c35[Tab V0](S:SA V0 V p d' x log ends k lg en)(H:qGk Ok mems logs k log ends)(G:OkG d x)(SD:qEY d d')(hd':Ds.Ok V0 d')(ha:qAc V0 l 1 (args.map qAn))(hF:F<=4000)(hlog:log.length+4000*F+1<=2147483648)(hends:ends.length+1<=2147483648) :
  Tri Tryz.prog 35 #[pv p,.agg #[.string nm,l.v],.int .i64 F,.bool at'] V (StepP V0 p d d' x log ends k F lg en nm args at'):=by
 obtain⟨R,hR⟩:∃R,R=StepP V0 p d d' x log ends k F lg en nm args at':=⟨_,rfl⟩
 rw[<- hR]
 refine x35 (R:=R) ?_
 unfold w35
 obtain⟨p0,gs,ns,nd,Sa⟩:=S
 have s0:=Sa.lay.sub
 have hhe:=H.elen
 have hhl:=H.le
 have hek:k<=ends.length:=by omega
 have hlk:=H.bound hhl
 have hp:(⟨gs,x.1,ns,nd⟩:Mm).plain=x:=by unfold Mm.plain;rw[Sa.lay.eq];rfl
 have G1:qAo d ⟨gs,x.1,ns,nd⟩:=G.to hp
 have G2:qAo d' ⟨gs,x.1,ns,nd⟩:=G1.same SD
 have hm:Mm.Ok V ⟨gs,x.1,ns,nd⟩:=(qDZ hd' Sa.lay (OkG.of G2 |> fun h=>(by have:=h;rw[hp]at this;exact this))).1
 have hst:qBG ⟨gs,x.1,ns,nd⟩=gst x:=by
  show (⟨x.1,nd.map fun n=>(n.ty,n.f),0,0,[]⟩:St)=⟨x.1,x.2,0,0,[]⟩
  rw[Sa.lay.eq];rfl
 have hsE:qAO d' ⟨gs,x.1,ns,nd⟩ nm args F=qAO d (gmM x) nm args F:=start_same G G2 SD (hp.trans (qFB x).symm)
 have hpl:∀i,qCq d' F i args (qBG ⟨gs,x.1,ns,nd⟩)=qCq d F i args (gst x):=fun i=>by rw[SD.play,hst]
 haveI:Tab V:=Tab.sub (V:=V0) inferInstance s0
 refine⟨fun h=>absurd h nn,fun _=>⟨nn,nn,_,_,_,_,_,_,_,_,Sa.read (j:=0) (n:=8) (by decide),nn,nn,gs,ns,Sa.read (j:=8) (n:=2) (by decide),Tri.mono (c62 (F:=F) (m:=⟨gs,x.1,ns,nd⟩) (hd'.sub s0) hm (ha.sub s0) hF) ?_⟩⟩
 rintro e V1 (⟨hc,s1,rfl⟩|⟨hc,r,gs1,ns1,ls1,nd1,hr,L,rfl⟩)
 ·refine⟨_,_,_,_,_,_,_,_,rfl,fun h=>absurd h hc,fun _=>?_⟩
  rw[hsE]at hc ⊢
  rw[hR]
  exact .inl ⟨hc,rfl,p0,gs,ns,nd,Sa.grow s1⟩
 have hc':=hc
 rw[hsE]at hc'
 rw[SD.idx,hpl]at hr
 have S1:=Sa.grow L.sub
 have fin:∀{e:Ending} {U:Mem},(2000<=k/\e=.returned (.tuple #[.agg (qDv 0 0 0 0).toArray,.int .i64 4])/\SA V0 U p d' x log ends k lg en) ∨
  (k<2000/\at'=true/\outC r≠0/\e=.returned (.tuple #[.agg (outRow r).toArray,.int .i64 0])/\SA V0 U p d' x log ends k lg en) ∨
  (k<2000/\¬(at'=true/\outC r≠0)/\e=.returned (.tuple #[.agg (outRow r).toArray,.int .i64 0])/\∃lg' en',SA V0 U p d' (r.st.g,r.st.ns) (log.take (qAI ends k)++qBF d x (r.st.g,r.st.ns) r.st.lg) (ends.take k++[qAI ends k+(qBF d x (r.st.g,r.st.ns) r.st.lg).length]) ((k+1:Nat):Int) lg' en')->R e U:=fun {e U} h=>by
  rw[hR];exact .inr ⟨hc',r,hr,h⟩
 refine⟨_,_,_,_,_,_,_,_,rfl,fun _=>⟨nn,nn,_,S1.read (j:=12) (n:=1) (by decide),fun hk=>fin (.inl ⟨by have hk:(2000:Int)<=(k:Int):=hk;omega,rfl,p0,gs,ns,nd,S1⟩),fun hk=>?_⟩,fun h=>absurd rfl h⟩
 have hk:k<2000:=by have hk:¬(2000:Int)<=(k:Int):=hk;omega
 refine(fun(key:¬(at'=true/\outC r≠0)->_)=>⟨fun h1=>⟨fun h2=>key fun h=>h.2 h2,fun h2=>fin (.inr (.inl ⟨hk,h1,h2,rfl,p0,gs,ns,nd,S1⟩))⟩,fun h1=>key fun h=>h1 h.1⟩) fun hat=>?_
 -- the call, once more
 haveI:Tab V1:=Tab.sub (V:=V) inferInstance L.sub
 have s01:=s0.trans L.sub
 refine⟨nn,nn,_,_,_,_,_,_,_,_,S1.read (j:=0) (n:=8) (by decide),nn,nn,gs,ns,S1.read (j:=8) (n:=2) (by decide),Tri.mono (c29 (F:=F) (m:=⟨gs,x.1,ns,nd⟩) (hd'.sub s01) (hm.sub L.sub) (ha.sub s01) hF) ?_⟩
 rintro e V2 (⟨hc2,-⟩|⟨-,r2,lt,hr2,oT,rfl⟩)
 ·exact absurd hc hc2
 obtain rfl:r2=r:=by rw[hr2,SD.idx,hpl,hr]
 have hcl:qCn d ⟨gs,x.1,ns,nd⟩ nm args=0:=by rw[<- SD.cll];exact(qIp hc).2
 have hdid:=did_play F G1 hcl (r:=r2) (by rw[hst,hr])
 rw[hp]at hdid
 have hok:=hdid.ok
 have hGy:qAo d' r2.st.mm:=qAo.same (m:=r2.st.mm) hok SD
 have Gx:OkG d' x:=by have:=OkG.of G2;rw[hp]at this;exact this
 have S2:=S1.grow oT.sub
 have N2:New1 V0 V2 gs1 ns1 ls1 nd1 lt r2.st:=⟨(L.narrow s0).grow oT.sub,oT.narrow s01⟩
 have far:∀c,(Blk gs1 c∨∃n∈nd1,Blk n.sl c)->V c=none:=by
  rintro c (h|⟨n,hn,h⟩)
  ·exact Own.none0 L.glob h
  ·exact Own.none0 (L.fld n hn) h
 have enV:∀c,Blk en c->V c≠none:=fun c hc=>by obtain⟨cur,h⟩:=Own.some Sa.eno hc;rw[h];simp
 have capE:k<=en.c:=by
  have R1:=Sa.eno.rows qDm (by decide)
  have:=R1.n_eq;have:=R1.cap;omega
 have capL:qAI ends k<=lg.c:=by
  have R1:=Sa.lgo.rows qCC (by decide)
  have:=R1.n_eq;have:=R1.cap;omega
 refine⟨_,_,rfl,nn,nn,en,S2.read (j:=11) (n:=1) (by decide),nn,nn,_,S2.read (j:=12) (n:=1) (by decide),⟨by omega,by omega,by omega⟩,nn,nn,(SAt.cutEn S2 p0 hek fun V3 S3 k3=>?_).2⟩
 have N3:New1 V0 V3 gs1 ns1 ls1 nd1 lt r2.st:=N2.move S3.lay.sub fun c o hc _ hna=>by rw[k3 c fun e=>hna (by rw[e];exact S2.alien)];exact hc
 have hlt:(ends.take k).length=k:=by rw[List.length_take];omega
 have hea:qAI (ends.take k) k=qAI ends k:=by
  cases k with
  | zero=>rfl
  | succ j =>
   show (ends.take (j+1)).getD j 0=ends.getD j 0
   rw[List.getD_eq_getElem?_getD,List.getD_eq_getElem?_getD,List.getElem?_take,if_pos (by omega)]
 refine⟨nn,nn,lg,S3.read (j:=10) (n:=1) (by decide),(c20 (k:=k) (ends:=ends.take k) ⟨p0,gs,ns,nd,S3⟩ (by omega)).call ⟨_,rfl,?_⟩⟩
 rw[hea]
 refine⟨qAK S3.at_ 10 0 1 (by simp[qGo]),nn,nn,⟨by omega,by omega,by omega⟩,nn,nn,(SAt.cutLg S3 p0 hlk fun V5 S5 k5=>?_).2⟩
 have N5:New1 V0 V5 gs1 ns1 ls1 nd1 lt r2.st:=N3.move S5.lay.sub fun c o hc _ hna=>by rw[k5 c fun e=>hna (by rw[e];exact S3.alien)];exact hc
 have hltl:(log.take (qAI ends k)).length=qAI ends k:=by rw[List.length_take];omega
 have hln:=hdid.len
 refine qHw r2.st.lg.length (fun i V6=>∃lg6,SAt V0 V6 p d' x (log.take (qAI ends k)++qBF d x (r2.st.g,r2.st.ns) (r2.st.lg.take i)) (ends.take k) k lg6 ⟨en.p,k,en.c⟩ gs ns nd/\New1 V0 V6 gs1 ns1 ls1 nd1 lt r2.st) ⟨⟨lg.p,qAI ends k,lg.c⟩,by
  have e:qBF d x (r2.st.g,r2.st.ns) (r2.st.lg.take 0)=[]:=rfl
  rw[e,List.append_nil];exact S5,N5⟩ ?_
 rintro i V6 J hi ⟨lg6,S6,N6⟩ hJ
 have TR:=N6.tr.rows (row:=qFK) (fun _=>rfl) (by decide)
 have hle:(qBF d x (r2.st.g,r2.st.ns) (r2.st.lg.take i)).length<=i:=ents_le
 have hfit:(log.take (qAI ends k)++qBF d x (r2.st.g,r2.st.ns) (r2.st.lg.take i)).length+1<=2147483648∨i=r2.st.lg.length:=by
  rw[List.length_append,hltl];omega
 have moveN:∀{V7:Mem},V0.sub V7->(∀c o,V6 c=some o->c≠p->¬Blk lg6 c->V7 c=some o)->New1 V0 V7 gs1 ns1 ls1 nd1 lt r2.st:=fun hs hk=>N6.move hs fun c o hc _ hna=>hk c o hc (fun e=>hna (by rw[e];exact S6.alien)) fun hb=>hna (by
  obtain⟨cur,h⟩:=Own.some S6.lgo hb
  exact qBU h qCK.2.2)
 refine⟨fun hlt6=>?_,fun hge=>?_⟩
 ·obtain⟨t,htm,ht,-,hil,hp6,hz6,hrow⟩:=TR.get hlt6
  have hes:=ents_succ (d:=d) (b:=x) (a:=(r2.st.g,r2.st.ns)) ht
  have next:∀{V7:Mem} {s':Sl} {ex:List En},qIe d x (r2.st.g,r2.st.ns) t=ex->SAt V0 V7 p d' x (log.take (qAI ends k)++qBF d x (r2.st.g,r2.st.ns) (r2.st.lg.take i)++ex) (ends.take k) k s' ⟨en.p,k,en.c⟩ gs ns nd->New1 V0 V7 gs1 ns1 ls1 nd1 lt r2.st->IR ((i:Int)+1)/\J [.int .i64 ((i:Int)+1)] V7:=fun {V7 s' ex} he S7 N7=>⟨TR.succ hlt6,hJ hil _ ⟨s',by rw[hes,he,<- List.append_assoc];exact S7,N7⟩⟩
  have hf:(log.take (qAI ends k)++qBF d x (r2.st.g,r2.st.ns) (r2.st.lg.take i)).length+1<=2147483648:=by rcases hfit with h|h <;> omega
  have rd:∀{U:Mem},V6.sub U->U.rowp (qAa (sa p) 10) 0 1=some [lg6.v]:=fun hs=>qAK (hs _ _ S6.at_) 10 0 1 (by simp[qGo])
  have hkind:=hdid.tra.at_ t htm
  obtain⟨t1,t2,t3⟩:=t
  simp only at hkind
  refine⟨hp6,hz6,hlt6,t1,t2,t3,hrow,fun h2=>?_,fun h2=>⟨fun h3=>?_,fun h3=>?_⟩⟩
  ·have h2:t1=2:=h2
   rcases hkind with h|⟨-,n,j,rfl,rfl,hin,hor⟩|⟨h,-⟩
   ·omega
   ·obtain⟨hm6,hp6'⟩:=S6.mm hd' Gx
    obtain⟨hmN,hpN⟩:=qDZ hd' N6.lay hGy
    refine⟨nn,nn,lg6,S6.read (j:=10) (n:=1) (by decide),nn,nn,gs,ns,S6.read (j:=8) (n:=2) (by decide),(c63 (m:=⟨gs,x.1,ns,nd⟩) hm6 hp6' hor).call ⟨_,rfl,rd (Mem.sub.refl _),nn,nn,(c63 (m:=⟨gs1,r2.st.g,ns1,nd1⟩) hmN hpN (.inr hin)).call ⟨_,rfl,rd (Mem.sub.refl _),nn,nn,rd (Mem.sub.refl _),nn,nn,fun tb htb=>?_⟩⟩⟩
    refine S6.addLg p0 (e:=⟨n,j,qGI x n j,qGI (r2.st.g,r2.st.ns) n j,false,0,0⟩) htb rfl rfl hf fun s' V' hst=>⟨s',rfl,nn,nn,hst fun V7 S7 k7=>next ?_ S7 (moveN S7.lay.sub k7)⟩
    unfold qIe
    rw[if_pos h2]
    simp only[Int.toNat_natCast]
   ·omega
  ·have h3:t1=3:=h3
   rcases hkind with h|⟨h,-⟩|⟨-,n,f,rfl,hy⟩
   ·omega
   ·omega
   ·obtain⟨ty0,ty1⟩:=OkG.type (d:=d') (y:=(r2.st.g,r2.st.ns)) hGy hy
    obtain⟨j,rfl⟩:∃j:Nat,t3=j:=⟨t3.toNat,by omega⟩
    have htn:=hd'.types.n_eq
    obtain⟨tt,httm,htt,-,-,hp7,hz7,hrow7⟩:=(hd'.types.sub S6.lay.sub).get (i:=j) (by omega)
    have hfo:qAm d (j:Int)=tt.fields:=by rw[<- SD.fields];exact qBu htt rfl
    have hfn:=(hd'.typesOk tt httm).fields.n_eq
    refine⟨nn,nn,lg6,S6.read (j:=10) (n:=1) (by decide),nn,nn,pnn,d'.ts,S6.read (j:=1) (n:=1) (by decide),hp7,hz7,by omega,qAe hp7,_,_,hrow7,rd (Mem.sub.refl _),nn,nn,fun tb htb=>?_⟩
    refine S6.addLg p0 (e:=⟨(n:Int)+1,0,0,0,true,j,tt.fs.n⟩) htb rfl rfl hf fun s' V' hst=>⟨s',rfl,nn,nn,hst fun V7 S7 k7=>next ?_ S7 (moveN S7.lay.sub k7)⟩
    unfold qIe
    rw[if_neg (by show ¬t1=2;omega),if_pos h3]
    simp only[hfo,hfn]
  ·have h2:¬t1=2:=h2
   have h3:¬t1=3:=h3
   refine next (ex:=[]) ?_ (by rw[List.append_nil];exact S6) N6
   unfold qIe
   rw[if_neg h2,if_neg h3]
 ·have hd:=(TR.done hge).2
  rw[List.take_of_length_le hd]at S6 hle
  have hlgn:=(S6.lgo.rows qCC (by decide)).n_eq
  rw[List.length_append,hltl]at hlgn
  refine⟨nn,nn,⟨en.p,k,en.c⟩,S6.read (j:=11) (n:=1) (by decide),nn,nn,lg6,S6.read (j:=10) (n:=1) (by decide),qAK S6.at_ 11 0 1 (by simp[qGo]),nn,nn,fun tb htb=>?_⟩
  rw[hlgn]
  refine S6.addEn p0 (e:=qAI ends k+(qBF d x (r2.st.g,r2.st.ns) r2.st.lg).length) htb rfl rfl (by omega) fun s' V' hst=>⟨s',rfl,nn,nn,hst fun V7 S7 k7 h7=>⟨nn,nn,_,S7.read (j:=12) (n:=1) (by decide),⟨by omega,by omega⟩,nn,nn,?_⟩⟩
  refine StT.at2 (off:=12) S7.at_ (by simp[qGo]) ⟨nn,nn,?_⟩
  have S8:=S7.put p0 (k':=(k:Int)+1) (c:=((qGo d' gs ns lg6 s' k).toArray.toList.take 12++[Value.int .i64 ((k:Int)+1)]++(qGo d' gs ns lg6 s' k).toArray.toList.drop (12+[Value.int .i64 ((k:Int)+1)].length)).toArray) rfl
  have np:∀{g:Nat} {cur:Array Value} {e:Nat},V6 g=some (.cells cur e (0,0))->(e=3∨e=104∨e=98)->g≠p:=fun {g cur e} hg he e'=>S6.alien cur e he (by rw[<- e'];exact hg)
  have L7:Lay V0 V7 gs1 ns1 qAv nd1 (gst (r2.st.g,r2.st.ns)):=⟨Own.moveB N6.lay.glob S7.lay.sub fun g cur hg hc=>k7 g _ hc (np hc (.inl rfl)) fun hb=>enV g hb (far g (.inl hg)),Own.moveB N6.lay.nodes S7.lay.sub fun g cur hg hc=>k7 g _ hc (np hc (.inr (.inl rfl))) (S6.eno.apart fun cur' h'=>by
   rw[hc]at h'
   simp only[Option.some.injEq,Obj.cells.injEq]at h'
   exact absurd h'.2.1 (by decide)),Own.nil S7.lay.sub _ _,fun n hn=>Own.moveB (N6.lay.fld n hn) S7.lay.sub fun g cur hg hc=>k7 g _ hc (np hc (.inl rfl)) fun hb=>enV g hb (far g (.inr ⟨n,hn,hg⟩)),N6.lay.eq,N6.lay.gf,N6.lay.ff⟩
  have L8:=L7.put S7.alien p0 (.cells ((qGo d' gs ns lg6 s' k).toArray.toList.take 12++[Value.int .i64 ((k:Int)+1)]++(qGo d' gs ns lg6 s' k).toArray.toList.drop (12+[Value.int .i64 ((k:Int)+1)].length)).toArray 88 (0,0))
  have away:∀{s:Sl} {vs:List Value},Sx.Own V0 V6 3 1 s vs->(∀c,Blk s c->V c=none)->∀c,Blk s' c->¬Blk s c:=fun {s vs} o h c hc hs=>by
   rcases h7 c hc with h1|h1
   ·exact enV c h1 (h c hs)
   ·obtain⟨cur,h2⟩:=Own.some o hs
    rw[h1]at h2;cases h2
  refine StT.at2 (off:=8) S8.at_ (by simp[qGo]) (fin (.inr (.inr ⟨hk,hat,rfl,lg6,s',p0,gs1,ns1,nd1,?_⟩)))
  exact⟨by erw [Mem.set_same];rfl,L8.put S8.alien p0 _,S8.lgo.put S8.notLg p0 _,S8.eno.put (S8.eno.apart fun cur=>S8.alien cur _ (.inl rfl)) p0 _,away N6.lay.glob fun c hc=>far c (.inl hc),fun n hn=>away (N6.lay.fld n hn) fun c hc=>far c (.inr ⟨n,hn,hc⟩)⟩
end
section
variable{V0 V V':Mem}{p:Nat}{d d':Ds}{x:Gm}{log:List En}{ends logs:List Nat}{mems:List Gm}{Ok:Gm->Prop}{k F:Nat}{lg en gs ns l:Sl}{nd:List Nd}{nm:ByteArray}{args:List Int}{m m':Mm}{at':Bool}
theorem cll_not1:qCn d m nm args≠1:=by
 unfold qCn
 repeat' split
 all_goals decide
theorem given_zero(G:qAo d m):qBs d m ((0:Nat):Int)=0:=by
 unfold qBs
 rw[if_pos G];rfl
def NewP(V:Mem)(d:Ds)(m:Mm):Ending->Mem->Prop:=fun e V' =>
 (¬qAo d m/\V.sub V'/\e=.returned (.tuple #[.pointer none,.int .i64 1])) ∨
 (qAo d m/\∃p d' W,e=.returned (.tuple #[pv p,.int .i64 0])/\V.sub W/\Ds.Ok W d'/\qEY d d'/\SA W V' p d' m.plain [] [] ((0:Nat):Int) qAv qAv)
theorem c8[Tab V](hd:Ds.Ok V d)(hm:Mm.Ok V m):Tri Tryz.prog 8 #[d.v,m.v] V (NewP V d m):=by
 refine x8 (R:=NewP V d m) ?_
 unfold w8
 refine Tri.mono (c29 (F:=0) (nm:=qAq []) (args:=[]) (l:=qAv) hd hm qAc.nil (by decide)) fun e V1 h=>?_
 have key:∃ls:Sl,e=.returned (.tuple #[ls.v,.int .i64 (qAO d m (qAq []) [] ((0:Nat):Int))])/\V.sub V1:=by
  rcases h with⟨hc,hs,rfl⟩|⟨hc,r,ls,-,o,rfl⟩
  ·exact⟨qAv,rfl,hs⟩
  ·exact⟨ls,by rw[hc],o.sub⟩
 obtain⟨ls,rfl,s1⟩:=key
 haveI:Tab V1:=Tab.sub (V:=V) inferInstance s1
 refine⟨ls,_,rfl,fun h1=>.inl ⟨fun G=>?_,s1,rfl⟩,fun h1=>?_⟩
 ·have h1:qAO d m (qAq []) [] ((0:Nat):Int)=1:=h1
  unfold qAO at h1
  rw[if_pos (given_zero G)]at h1
  exact cll_not1 h1
 ·have h1:¬qAO d m (qAq []) [] ((0:Nat):Int)=1:=h1
  have G:qAo d m:=by
   refine Classical.byContradiction fun hG=>h1 ?_
   unfold qAO qBs
   rw[if_neg hG];rfl
  refine(c30 (hd.sub s1) (hm.sub s1)).call ⟨_,rfl,fun _=>?_,fun h=>absurd G.mem h⟩
  refine Tri.mono (c31 (hd.sub s1) G.valid) ?_
  rintro _ V3 ⟨d',rfl,s3,hd',SD⟩
  obtain⟨l1,l2,l3⟩:=qHF G
  have s03:=s1.trans s3
  refine⟨d'.name,d'.ts,d'.gs,d'.ps,d'.ms,d'.is,d'.qs,d'.bs,rfl,Tri.mono (c32 (hm.sub s03) l1 l2 l3) ?_⟩
  rintro _ V4 ⟨gs,ns,nd,rfl,L⟩
  refine⟨gs,ns,rfl,fun b hb=>.inr ⟨G,b,d',V3,rfl,s03,hd',SD,free L.sub hb,gs,ns,nd,?_⟩⟩
  have s5:=Mem.sub_new hb (.cells (qGo d' gs ns qAv qAv ((0:Nat):Int)).toArray 88 (0,0))
  exact⟨Mem.set_same _ _ _,L.grow s5,Own.nil (L.sub.trans s5) _ _,Own.nil (L.sub.trans s5) _ _,fun c hc=>absurd rfl hc.1,fun n hn c hc=>absurd rfl hc.1⟩
def OneP(P:Ending->Mem->Prop):Prop:=∀e V,P e V->∃a b c d f g:Int,e=.returned (.tuple #[.agg #[.int .i64 a,.int .i64 b,.int .i64 c,.int .i64 d,.int .i64 f],.int .i64 g])
theorem c10{P:Ending->Mem->Prop}(h1:OneP P){q:Option Addr}{F:Int}(H:Tri Tryz.prog 35 #[.pointer q,.agg #[.string nm,l.v],.int .i64 F,.bool false] V P):Tri Tryz.prog 10 #[.pointer q,.agg #[.string nm,l.v],.int .i64 F] V P:=by
 refine x10 (R:=P) ?_
 unfold w10
 refine Tri.mono H fun e V1 h=>?_
 obtain⟨a,b,c,d,f,g,rfl⟩:=h1 e V1 h
 exact⟨_,_,_,_,_,_,rfl,h⟩
end
section
variable{W V V':Mem}{p:Nat}{d:Ds}{x:Gm}{log:List En}{ends:List Nat}{k:Int}{lg en:Sl}
theorem SA.after(S:SA W V p d x log ends k lg en)(hs:V.sub V'):∃W',W.sub W'/\W'.sub V'/\SA W' V' p d x log ends k lg en/\∀b o,V b=none->V' b=some o->W' b=some o:=by
 obtain⟨p0,gs,ns,nd,S⟩:=S
 obtain⟨M,hM⟩:∃M:Nat->Prop,M=fun c=>c=p∨Blk gs c∨Blk ns c∨Blk lg c∨Blk en c∨∃n∈nd,Blk n.sl c:=⟨_,rfl⟩
 have own:∀{e sz:Nat} {s:Sl} {vs:List Value},Sx.Own W V e sz s vs->∀c,Blk s c->V c≠none/\W c=none:=fun {e sz s vs} o c hc=>⟨by obtain⟨cur,h⟩:=Own.some o hc;rw[h];simp,Own.none0 o hc⟩
 have hin:∀c,M c->V c≠none/\W c=none:=fun c hc=>by
  rw[hM]at hc
  rcases hc with rfl|h|h|h|h|⟨n,hn,h⟩
  ·exact⟨by rw[S.at_];simp,p0⟩
  ·exact own S.lay.glob c h
  ·exact own S.lay.nodes c h
  ·exact own S.lgo c h
  ·exact own S.eno c h
  ·exact own (S.lay.fld n hn) c h
 have go:∀{e sz:Nat} {s:Sl} {vs:List Value},(∀c,Blk s c->M c)->Sx.Own W V e sz s vs->Sx.Own (Mem.minus V' M) V' e sz s vs:=fun {e sz s vs} hm h=>⟨qBH,h.len,by
  rcases h.cases0 with h1|⟨hc,g,cur,h1,h2,h3,h4⟩
  ·exact .inl h1
  ·exact .inr ⟨g,cur,h1,qCg (hm g ⟨hc,h1⟩),hs _ _ h3,h4⟩⟩
 refine⟨Mem.minus V' M,fun b o hb=>?_,qBH,⟨qCg (by rw[hM];exact .inl rfl),gs,ns,nd,hs _ _ S.at_,⟨go (fun c h=>by rw[hM];exact .inr (.inl h)) S.lay.glob,go (fun c h=>by rw[hM];exact .inr (.inr (.inl h))) S.lay.nodes,Own.nil qBH _ _,fun n hn=>go (fun c h=>by rw[hM];exact .inr (.inr (.inr (.inr (.inr ⟨n,hn,h⟩))))) (S.lay.fld n hn),S.lay.eq,S.lay.gf,S.lay.ff⟩,go (fun c h=>by rw[hM];exact .inr (.inr (.inr (.inl h)))) S.lgo,go (fun c h=>by rw[hM];exact .inr (.inr (.inr (.inr (.inl h))))) S.eno,S.eg,S.ef⟩,fun b o hb hb'=>?_⟩
 ·rw[qAS fun hm=>by rw[(hin b hm).2]at hb;cases hb];exact hs _ _ (S.lay.sub _ _ hb)
 ·rw[qAS fun hm=>(hin b hm).1 hb];exact hb'
end
def rbS(l1 l2:Sl):S:=.mk 1 awN l2 [awE l1] qAv [] qAv []
def rbP(ps bs l1 l2:Sl):Pr:=⟨qAq [97,100,100],ps,[⟨awK,awI⟩],qAq [],qAv,[],bs,[rbS l1 l2]⟩
def rbD(gs pr ps bs l1 l2:Sl):Ds:=⟨qAq [115,117,109],qAv,[],gs,[⟨awN,awI⟩],pr,[rbP ps bs l1 l2],qAv,[],qAv,[],qAv,[],qAv,[]⟩
def adds:ByteArray:=qAq [97,100,100]
section
variable{gs pr ps bs l1 l2:Sl}
theorem rb_valid:qAH (rbD gs pr ps bs l1 l2)=true:=by kernel_rfl
theorem rb_chk:qHQ (rbD gs pr ps bs l1 l2)=none:=by kernel_rfl
theorem rb_mem1:qBK (rbD gs pr ps bs l1 l2) (gmM ([1],[]))=true:=by kernel_rfl
theorem rb_mem3:qBK (rbD gs pr ps bs l1 l2) (gmM ([3],[]))=true:=by kernel_rfl
theorem rb_cll1:qCn (rbD gs pr ps bs l1 l2) (gmM ([1],[])) adds [2]=0:=by kernel_rfl
theorem rb_cll3:qCn (rbD gs pr ps bs l1 l2) (gmM ([3],[])) adds [3]=0:=by kernel_rfl
theorem rb_idx:qDT (rbD gs pr ps bs l1 l2) adds=0:=by kernel_rfl
theorem rb_run1:(fun r:Rx Int=>(outC r,r.st.g,r.st.ns)) (qCq (rbD gs pr ps bs l1 l2) 5 0 [2] (gst ([1],[])))=(0,[3],[]):=by kernel_rfl
theorem rb_run3:(fun r:Rx Int=>(outC r,r.st.g,r.st.ns)) (qCq (rbD gs pr ps bs l1 l2) 5 0 [3] (gst ([3],[])))=(0,[6],[]):=by kernel_rfl
theorem c24{V:Mem}:Tri Tryz.prog 24 #[] V fun e V'=>∃gs pr ps bs l1 l2,e=.returned (rbD gs pr ps bs l1 l2).v/\V.sub V'/\Ds.Ok V' (rbD gs pr ps bs l1 l2):=by
 refine x24 ?_
 unfold w24
 intro b0 h0 b1 h1 b2 h2 b3 h3 b4 h4 b5 h5
 have s0:=fun o=>Mem.sub_new h0 o
 have s1:=fun o=>Mem.sub_new h1 o
 have s2:=fun o=>Mem.sub_new h2 o
 have s3:=fun o=>Mem.sub_new h3 o
 have s4:=fun o=>Mem.sub_new h4 o
 have s5:=fun o=>Mem.sub_new h5 o
 refine⟨qIN b0 1,qIN b5 1,qIN b1 1,qIN b4 1,qIN b2 2,qIN b3 1,rfl,(s0 _).trans ((s1 _).trans ((s2 _).trans ((s3 _).trans ((s4 _).trans (s5 _))))),?_⟩
 have k0:=((s1 _).trans ((s2 _).trans ((s3 _).trans ((s4 _).trans (s5 (.cells #[.string adds,.slice (sa b1) 1 1,.string (qAq []),.slice none 0 0,.slice (sa b4) 1 1] 121 (0,0))))))) _ _ mss
 have k1:=((s2 _).trans ((s3 _).trans ((s4 _).trans (s5 (.cells #[.string adds,.slice (sa b1) 1 1,.string (qAq []),.slice none 0 0,.slice (sa b4) 1 1] 121 (0,0)))))) _ _ mss
 have k2:=((s3 _).trans ((s4 _).trans (s5 (.cells #[.string adds,.slice (sa b1) 1 1,.string (qAq []),.slice none 0 0,.slice (sa b4) 1 1] 121 (0,0))))) _ _ mss
 have k3:=((s4 _).trans (s5 (.cells #[.string adds,.slice (sa b1) 1 1,.string (qAq []),.slice none 0 0,.slice (sa b4) 1 1] 121 (0,0)))) _ _ mss
 have k4:=(s5 (.cells #[.string adds,.slice (sa b1) 1 1,.string (qAq []),.slice none 0 0,.slice (sa b4) 1 1] 121 (0,0))) _ _ mss
 have hE:E.Ok _ (awE (qIN b2 2)):=.mk (qAc.cells (row:=E.row) (xs:=[.mk 4 0 awN qAv [],.mk 4 0 awK qAv []]) k2 rfl (fun _=>rfl) rfl (by simp)) (fun x hx=>by
  simp only[List.mem_cons,List.not_mem_nil,or_false]at hx
  rcases hx with rfl|rfl <;> exact nameOk) (by decide) (by decide)
 have hS:S.Ok _ (rbS (qIN b2 2) (qIN b3 1)):=.mk (qAc.cells (row:=E.row) (xs:=[awE (qIN b2 2)]) k3 rfl (fun _=>rfl) rfl (by simp)) (fun x hx=>by
  simp only[List.mem_cons,List.not_mem_nil,or_false]at hx
  subst hx;exact hE) qAc.nil (by simp) qAc.nil (by simp) (by decide)
 exact⟨qAc.nil,by simp[rbD],qAc.cells (row:=Fld.row) (xs:=[⟨awN,awI⟩]) k0 rfl (fun _=>rfl) rfl (by simp),qAc.cells (row:=Pr.row) (xs:=[rbP (qIN b1 1) (qIN b4 1) (qIN b2 2) (qIN b3 1)]) mss rfl (fun _=>rfl) rfl (by simp),fun x hx=>by
  simp only[rbD,List.mem_cons,List.not_mem_nil,or_false]at hx
  subst hx
  exact⟨qAc.cells (row:=Fld.row) (xs:=[⟨awK,awI⟩]) k1 rfl (fun _=>rfl) rfl (by simp),qAc.nil,qAc.cells (row:=S.row) (xs:=[rbS (qIN b2 2) (qIN b3 1)]) k4 rfl (fun x=>by rw[S.row_eq];rfl) rfl (by simp),fun y hy=>by
   simp only[rbP,List.mem_cons,List.not_mem_nil,or_false]at hy
   subst hy;exact hS⟩,qAc.nil,by simp[rbD],qAc.nil,by simp[rbD],qAc.nil,by simp[rbD],qAc.nil,by simp[rbD]⟩
end
section
variable{W V:Mem}{p:Nat}{d d':Ds}{x:Gm}{log:List En}{ends logs:List Nat}{mems:List Gm}{k F:Nat}{lg en l:Sl}{nm:ByteArray}{args:List Int}{at':Bool}{r:Rx Int}
def MadeP(W:Mem)(p:Nat)(d d':Ds)(log:List En)(ends logs:List Nat)(mems:List Gm)(k F:Nat)(r:Rx Int):Ending->Mem->Prop:=fun e V'=>e=.returned (.tuple #[.agg (outRow r).toArray,.int .i64 0])/\∃lg' en' es,SA W V' p d' (r.st.g,r.st.ns) (log.take (qAI ends k)++es) (ends.take k++[qAI ends k+es.length]) ((k+1:Nat):Int) lg' en' /\
 qGk (OkG d) (mems.take (k+1)++[(r.st.g,r.st.ns)]) (logs.take k++[es.length]) (k+1) (log.take (qAI ends k)++es) (ends.take k++[qAI ends k+es.length])/\es.length<=4000*F/\es.length=(r.st.lg.filter fun t=>decide (t.1≠1)).length
theorem MadeP.one:OneP (MadeP W p d d' log ends logs mems k F r):=by
 rintro e V' ⟨rfl,-⟩
 exact⟨_,_,_,_,_,_,rfl⟩
theorem made_of(H:qGk (OkG d) mems logs k log ends)(hx:mems[k]?=some x)(hc:qAO d (gmM x) nm args F=0)(hr:r=qCq d F (qDT d nm) args (gst x)) :
  qGk (OkG d) (mems.take (k+1)++[(r.st.g,r.st.ns)]) (logs.take k++[(qBF d x (r.st.g,r.st.ns) r.st.lg).length]) (k+1) (log.take (qAI ends k)++qBF d x (r.st.g,r.st.ns) r.st.lg) (ends.take k++[qAI ends k+(qBF d x (r.st.g,r.st.ns) r.st.lg).length])/\(qBF d x (r.st.g,r.st.ns) r.st.lg).length<=4000*F/\(qBF d x (r.st.g,r.st.ns) r.st.lg).length=(r.st.lg.filter fun t=>decide (t.1≠1)).length:=by
 obtain⟨G,hcl⟩:=qIp hc
 have hst:qBG (gmM x)=gst x:=by
  unfold qBG gmM gst
  simp[Function.comp_def]
 have hd:=did_play F G hcl (r:=r) (by rw[hst,hr])
 rw[qFB]at hd
 have hl:=hd.len
 have h1:=ents_le (d:=d) (b:=x) (a:=(r.st.g,r.st.ns)) (l:=r.st.lg) (i:=r.st.lg.length)
 rw[List.take_of_length_le (Nat.le_refl _)]at h1
 exact⟨H.step hx hd.way hd.ok,by omega,ents_len hd.tra _ _⟩
theorem stepM[Tab W](S:SA W V p d' x log ends k lg en)(H:qGk (OkG d) mems logs k log ends)(hx:mems[k]?=some x)(SD:qEY d d')(hd':Ds.Ok W d')(ha:qAc W l 1 (args.map qAn))(hF:F<=4000)(hlog:log.length+4000*F+1<=2147483648)(hends:ends.length+1<=2147483648)(hk:k<2000)(hc:qAO d (gmM x) nm args F=0)(hr:r=qCq d F (qDT d nm) args (gst x))(hat:¬(at'=true/\outC r≠0)) :
  Tri Tryz.prog 35 #[pv p,.agg #[.string nm,l.v],.int .i64 F,.bool at'] V (MadeP W p d d' log ends logs mems k F r):=by
 have G:OkG d x:=by
  obtain⟨hl,e⟩:=List.getElem?_eq_some_iff.1 hx
  exact H.ok x (e ▸ List.getElem_mem hl)
 refine Tri.mono (c35 S H G SD hd' ha hF hlog hends) ?_
 rintro e V' (⟨h,-⟩|⟨-,r',hr',⟨h,-⟩|⟨-,h1,h2,-⟩|⟨-,-,rfl,lg',en',S'⟩⟩)
 ·exact absurd hc h
 ·omega
 ·rw[hr',<- hr]at h2
  exact absurd ⟨h1,h2⟩ hat
 ·obtain rfl:r'=r:=by rw[hr',hr]
  obtain⟨a,b,c⟩:=made_of H hx hc hr'
  exact⟨rfl,lg',en',_,S',a,b,c⟩
end
section
variable{V:Mem}
theorem qJg{gs pr ps bs l1 l2:Sl}:qAo (rbD gs pr ps bs l1 l2) (gmM ([1],[])):=⟨rb_valid,rb_chk,rb_mem1⟩
theorem rb_good3{gs pr ps bs l1 l2:Sl}:qAo (rbD gs pr ps bs l1 l2) (gmM ([3],[])):=⟨rb_valid,rb_chk,rb_mem3⟩
theorem c6[Tab V]:PP 6 [] V (.bool true):=by
 refine Pur.mk (x6 ?_)
 unfold w6
 refine Tri.mono c24 ?_
 rintro _ V1 ⟨gs,pr,ps,bs,l1,l2,rfl,s1,hd⟩
 refine⟨_,_,_,_,_,_,_,_,rfl,fun b1 h1=>?_⟩
 obtain⟨V2,e2⟩:∃V2,V2=V1.set b1 (.cells #[.int .i64 1] 3 (0,0)):=⟨_,rfl⟩
 have s2:V1.sub V2:=by rw[e2];exact Mem.sub_new h1 _
 have c1:V2 b1=some (.cells #[.int .i64 1] 3 (0,0)):=by rw[e2];exact Mem.set_same _ _ _
 erw [<- e2]
 have hm:Mm.Ok V2 ⟨qIN b1 1,[1],qAv,[]⟩:=⟨qAc.cells (row:=qAn) (xs:=[1]) c1 rfl (fun _=>rfl) rfl (by simp),fun x hx=>by
  simp only[List.mem_cons,List.not_mem_nil,or_false]at hx
  subst hx;unfold inI;omega,qAc.nil,by simp⟩
 haveI:Tab V2:=Tab.sub (V:=V) inferInstance (s1.trans s2)
 have G:qAo (rbD gs pr ps bs l1 l2) ⟨qIN b1 1,[1],qAv,[]⟩:=OkG.to (y:=([1],[])) qJg rfl
 refine Tri.mono (c8 (hd.sub s2) hm) ?_
 rintro _ V3 (⟨hG,-⟩|⟨-,p,d',W,rfl,sW,hd',SD,S⟩)
 ·exact absurd G hG
 have S:SA W V3 p d' ([1],[]) [] [] ((0:Nat):Int) qAv qAv:=S
 have s13:=(s1.trans s2).trans (sW.trans S.sub)
 refine⟨_,_,rfl,fun _=>⟨fun h=>absurd h nn,fun _ b2 h2=>?_⟩,fun h=>absurd rfl h⟩
 have s4:=Mem.sub_new h2 (.cells #[.int .i64 2] 3 (0,0))
 obtain⟨W4,w4,-,S4,n4⟩:=S.after s4
 haveI:Tab W4:=Tab.sub (V:=V2) inferInstance (sW.trans w4)
 have H0:qGk (OkG (rbD gs pr ps bs l1 l2)) [([1],[])] [] 0 [] []:=qGk.start qJg
 have r1:=rb_run1 (gs:=gs) (pr:=pr) (ps:=ps) (bs:=bs) (l1:=l1) (l2:=l2)
 obtain⟨ra,hra⟩:∃r,r=qCq (rbD gs pr ps bs l1 l2) 5 0 [2] (gst ([1],[])):=⟨_,rfl⟩
 rw[<- hra]at r1
 simp only[Prod.mk.injEq]at r1
 obtain⟨o1,g1,n1⟩:=r1
 refine Tri.mono (c10 MadeP.one (stepM (F:=5) (nm:=adds) (args:=[2]) (l:=qIN b2 1) (r:=ra) S4 H0 rfl SD (hd'.sub w4) (qAc.cells (row:=qAn) (xs:=[2]) (n4 _ _ h2 mss) rfl (fun _=>rfl) rfl (by simp)) (by decide) (by decide) (by decide) (by decide) (by rw[qIY qJg ⟨by decide,by decide⟩];exact rb_cll1) (by rw[rb_idx];exact hra) (fun h=>by cases h.1))) ?_
 rintro _ V5 ⟨rfl,lg1,en1,es1,S5,H5,le1,-⟩
 rw[g1,n1]at S5 H5
 have s45:=Mem.sub.trans (sW.trans w4) S5.sub
 refine⟨_,_,_,_,_,_,rfl,fun b3 h3=>?_⟩
 have s6:=Mem.sub_new h3 (.cells #[.int .i64 3] 3 (0,0))
 obtain⟨W6,w6,-,S6,n6⟩:=S5.after s6
 haveI:Tab W6:=Tab.sub (V:=W4) inferInstance w6
 have r3:=rb_run3 (gs:=gs) (pr:=pr) (ps:=ps) (bs:=bs) (l1:=l1) (l2:=l2)
 obtain⟨rb,hrb⟩:∃r,r=qCq (rbD gs pr ps bs l1 l2) 5 0 [3] (gst ([3],[])):=⟨_,rfl⟩
 rw[<- hrb]at r3
 simp only[Prod.mk.injEq]at r3
 obtain⟨o3,g3,n3⟩:=r3
 refine Tri.mono (c10 MadeP.one (stepM (F:=5) (nm:=adds) (args:=[3]) (l:=qIN b3 1) (r:=rb) (x:=([3],[])) S6 H5 rfl SD (hd'.sub (w4.trans w6)) (qAc.cells (row:=qAn) (xs:=[3]) (n6 _ _ h3 mss) rfl (fun _=>rfl) rfl (by simp)) (by decide) (by simp[qAI];omega) (by simp) (by decide) (by rw[qIY rb_good3 ⟨by decide,by decide⟩];exact rb_cll3) (by rw[rb_idx];exact hrb) (fun h=>by cases h.1))) ?_
 rintro _ V7 ⟨rfl,lg2,en2,es2,S7,H7,le2,-⟩
 rw[g3,n3]at S7 H7
 refine⟨_,_,_,_,_,_,rfl,Tri.mono (c13 (k:=2) S7 H7 rfl) ?_⟩
 rintro _ V8 (⟨hno,-⟩|⟨n,hn,-,rfl,x8,hx8,S8⟩)
 ·exact absurd ⟨by decide,by decide⟩ hno
 obtain rfl:n=1:=by omega
 have hx8:some (([3],[]):Gm)=some x8:=hx8
 cases hx8
 refine⟨_,rfl,Tri.mono (c21 S8 (hd'.sub (w4.trans w6)) (show OkG d' ([3],[]) from qAo.same (m:=gmM ([3],[])) rb_good3 SD)) ?_⟩
 rintro _ V9 ⟨s9,m,rfl,hm9,hp9⟩
 have hg9:m.globals=[3]:=(Prod.mk.inj hp9).1
 have hn9:=hm9.globals.n_eq
 rw[hg9]at hn9
 have hn9:m.gs.n=1:=hn9
 obtain⟨y,-,hy,-,-,hp,hz,hrow⟩:=hm9.globals.get (i:=0) (by omega)
 rw[hg9]at hy
 cases hy
 obtain⟨q0,gs8,ns8,nd8,T8⟩:=S8
 have S9:SA W6 V9 p d' ([3],[]) _ _ ((1:Nat):Int) lg2 en2:=⟨q0,gs8,ns8,nd8,T8.grow s9⟩
 refine⟨m.gs,m.ns,rfl,fun _=>⟨fun _=>⟨fun _=>⟨fun _=>⟨hp,by decide,by omega,3,hrow,fun _=>(c18 (k:=1) S9).call ⟨_,rfl,fun _=>(c19 (k:=1) S9).call ⟨_,rfl,?_⟩,fun h=>absurd rfl h⟩,fun h=>absurd rfl h⟩,fun h=>absurd (by show (m.gs.n:Int)=1;omega) h⟩,fun h=>absurd rfl h⟩,fun h=>absurd rfl h⟩,fun h=>absurd rfl h⟩
 refine⟨?_,((s1.trans s2).trans ((sW.trans w4).trans w6)).trans S9.sub⟩
 simp[qAI]
end
structure Stp where
 kind:Int
 nm:ByteArray
 l:Sl
 fuel:Int
 n:Int
def Stp.row(x:Stp):List Value:=[.int .i64 x.kind,.string x.nm,x.l.v,.int .i64 x.fuel,.int .i64 x.n]
def fuelOk(F:Int):Prop:=F<=600∨1048576<F
section
variable{V:Mem}{d:Ds}{m:Mm}
theorem smallOne{x:Stp}:Tri Tryz.prog 28 #[.agg x.row.toArray] V fun e V'=>V=V'/\∃b:Bool,e=.returned (.bool b)/\(b=false->fuelOk x.fuel):=by
 refine x28 ?_
 unfold w28
 refine⟨fun _=>⟨rfl,true,rfl,fun h=>by cases h⟩,fun _=>⟨fun _=>⟨rfl,true,rfl,fun h=>by cases h⟩,fun _=>⟨fun h1=>⟨rfl,_,rfl,fun h=>.inr ?_⟩,fun h1=>⟨rfl,false,rfl,fun _=>.inl ?_⟩⟩⟩⟩
 ·have:=of_decide_eq_false h;omega
 ·have h1:¬600<x.fuel:=h1;omega
theorem smallIx{s:Sl}{cs:List Stp}(h:qAc V s 5 (cs.map Stp.row)):Tri Tryz.prog 47 #[.slice s.p s.n s.c,.func (.func 28) #[] #[]] V fun e V'=>V=V'/\∃r:Int,e=.returned (.int .i64 r)/\(¬0<=r->∀x∈cs,fuelOk x.fuel):=by
 refine x47 (a:=s) (b:=.func (.func 28) #[] #[]) ?_
 unfold w47
 refine qBe (mk:=.int .i64) (b0:=0) cs.length (fun i V1=>V=V1/\∀j x,j<i->cs[j]?=some x->fuelOk x.fuel) ⟨rfl,fun j x h=>by omega⟩ ?_
 rintro i b V1 J hi ⟨rfl,ha⟩ hJ
 refine⟨fun hlt=>?_,fun hge=>?_⟩
 ·obtain⟨x,hxm,hx,-,hil,hp,hz,hrow⟩:=h.get hlt
  refine⟨hp,hz,hlt,_,_,_,_,_,hrow,28,#[],#[],rfl,Tryz.call28,Tri.mono (smallOne (x:=x)) ?_⟩
  rintro _ _ ⟨rfl,b,rfl,hb⟩
  refine⟨b,rfl,fun _=>⟨rfl,_,rfl,fun hn=>absurd (by omega) hn⟩,fun hf=>⟨h.succ hlt,hJ hil _ _ ⟨rfl,fun j y hj hy=>?_⟩⟩⟩
  rcases Nat.lt_succ_iff_lt_or_eq.1 hj with h'|rfl
  ·exact ha j y h' hy
  ·rw[hx]at hy;cases hy
   exact hb (by simpa using hf)
 ·have hd:=(h.done hge).2
  refine⟨rfl,_,rfl,fun _ x hx=>?_⟩
  obtain⟨j,hj⟩:=List.mem_iff_getElem?.1 hx
  exact ha j x (by have:=(List.getElem?_eq_some_iff.1 hj).1;omega) hj
theorem smallS(hd:Ds.Ok V d)(hm:Mm.Ok V m){s:Sl}{cs:List Stp}(h:qAc V s 5 (cs.map Stp.row)):Tri Tryz.prog 7 #[d.v,m.v,.slice s.p s.n s.c] V fun e V'=>V=V'/\∃b:Bool,e=.returned (.bool b)/\(b=true->cs.length<=14/\∀x∈cs,fuelOk x.fuel):=by
 have hn:=h.n_eq
 refine x7 ?_
 unfold w7
 refine Tri.mono (greatC hd) ?_
 rintro _ _ ⟨rfl,b,rfl⟩
 refine⟨_,rfl,fun _=>⟨rfl,false,rfl,fun h=>by cases h⟩,fun _=>Tri.mono (manyC hm) ?_⟩
 rintro _ _ ⟨rfl,b,rfl⟩
 refine⟨_,rfl,fun _=>⟨rfl,false,rfl,fun h=>by cases h⟩,fun _=>⟨fun h1=>?_,fun _=>⟨rfl,false,rfl,fun h=>by cases h⟩⟩⟩
 have h1:(s.n:Int)<=14:=h1
 refine Tri.mono (x27 (a:=s) (b:=.func (.func 28) #[] #[]) (R:=fun e V'=>V=V'/\∃r:Int,e=.returned (.bool (decide (0<=r)))/\(¬0<=r->∀x∈cs,fuelOk x.fuel)) ?_) ?_
 ·unfold w27
  refine Tri.mono (smallIx h) ?_
  rintro _ _ ⟨rfl,r,rfl,hr⟩
  exact⟨r,rfl,rfl,r,rfl,hr⟩
 ·rintro _ _ ⟨rfl,r,rfl,hr⟩
  refine⟨_,rfl,rfl,_,rfl,fun hb=>⟨by omega,hr ?_⟩⟩
  simpa using hb
end
theorem tri_frame{P:Program}{f:FuncId}{args:Array Value}{U:Mem}{M:Nat->Prop}{R:Ending->Mem->Prop}(hM:∀b,M b->U b≠none)(h:Tri P f args (Mem.minus U M) R) :
  Tri P f args U fun e V2=>∃V',R e V'/\V'.sub V2/\(∀b o,M b->U b=some o->V2 b=some o)/\∀b,M b->V' b=none:=by
 unfold Tri at h ⊢
 intro w hw
 have hlt:∀b,M b->b<w.heap.size:=fun b hb=>by
  cases hu:U b with
  | none=>exact absurd hu (hM b hb)
  | some o=>exact(Array.getElem?_eq_some_iff.1 (hw b o hu)).1
 intro cs
 obtain⟨e,w',fr,⟨V',hR,hF⟩,rest⟩:=h w (fun b o hb=>hw b o (qBH b o hb)) cs
 have hno:∀b,M b->V' b=none:=fun b hb=>by
  cases hv:V' b with
  | none=>rfl
  | some o =>
   rcases hF.dom b (by rw[hv];simp) with h1|h1
   ·exact absurd (qCg hb) h1
   ·have:=hlt b hb;omega
 classical
 refine⟨e,w',fr,⟨fun b=>if M b then U b else V' b,⟨V',hR,fun b o hb=>?_,fun b o hm hb=>?_,hno⟩,⟨hF.size,fun b o hb=>?_,fun b hb hu=>?_,fun b hb=>?_,hF.os,hF.out⟩⟩,rest⟩
 ·show (if M b then U b else V' b)=some o
  rw[if_neg fun hm=>by rw[hno b hm]at hb;cases hb];exact hb
 ·show (if M b then U b else V' b)=some o
  rw[if_pos hm];exact hb
 ·have hb:(if M b then U b else V' b)=some o:=hb
  by_cases hm:M b
  ·rw[if_pos hm]at hb
   rw[hF.old b (hlt b hm) (qCg hm)]
   exact hw b o hb
  ·rw[if_neg hm]at hb
   exact hF.le b o hb
 ·refine hF.old b hb ?_
  by_cases hm:M b
  ·exact qCg hm
  ·rw[qAS hm];exact hu
 ·have hb:(if M b then U b else V' b)≠none:=hb
  by_cases hm:M b
  ·exact .inl (hM b hm)
  ·rw[if_neg hm]at hb
   rcases hF.dom b hb with h1|h1
   ·rw[qAS hm]at h1;exact .inl h1
   ·exact .inr h1
section
variable{W V V':Mem}{p:Nat}{d:Ds}{x:Gm}{log:List En}{ends:List Nat}{k:Int}{lg en:Sl}
def SF(M:Nat->Prop)(V:Mem)(p:Nat)(d:Ds)(x:Gm)(log:List En)(ends:List Nat)(k:Int)(lg en:Sl):Prop:=(∀b,M b->V b≠none)/\∀V',(∀b o,M b->V b=some o->V' b=some o)->SA (Mem.minus V' M) V' p d x log ends k lg en
theorem SA.frame(S:SA W V p d x log ends k lg en):∃M,(∀b,M b->W b=none)/\SF M V p d x log ends k lg en:=by
 obtain⟨p0,gs,ns,nd,S⟩:=S
 have own:∀{e sz:Nat} {s:Sl} {vs:List Value},Sx.Own W V e sz s vs->∀c,Blk s c->V c≠none/\W c=none:=fun {e sz s vs} o c hc=>⟨by obtain⟨cur,h⟩:=Own.some o hc;rw[h];simp,Own.none0 o hc⟩
 obtain⟨M,hM⟩:∃M:Nat->Prop,M=fun c=>c=p∨Blk gs c∨Blk ns c∨Blk lg c∨Blk en c∨∃n∈nd,Blk n.sl c:=⟨_,rfl⟩
 have hin:∀c,M c->V c≠none/\W c=none:=fun c hc=>by
  rw[hM]at hc
  rcases hc with rfl|h|h|h|h|⟨n,hn,h⟩
  ·exact⟨by rw[S.at_];simp,p0⟩
  ·exact own S.lay.glob c h
  ·exact own S.lay.nodes c h
  ·exact own S.lgo c h
  ·exact own S.eno c h
  ·exact own (S.lay.fld n hn) c h
 refine⟨M,fun b hb=>(hin b hb).2,fun b hb=>(hin b hb).1,fun V' hk=>?_⟩
 have go:∀{e sz:Nat} {s:Sl} {vs:List Value},(∀c,Blk s c->M c)->Sx.Own W V e sz s vs->Sx.Own (Mem.minus V' M) V' e sz s vs:=fun {e sz s vs} hm h=>⟨qBH,h.len,by
  rcases h.cases0 with h1|⟨hc,g,cur,h1,h2,h3,h4⟩
  ·exact .inl h1
  ·exact .inr ⟨g,cur,h1,qCg (hm g ⟨hc,h1⟩),hk _ _ (hm g ⟨hc,h1⟩) h3,h4⟩⟩
 have hp:M p:=by rw[hM];exact .inl rfl
 exact⟨qCg hp,gs,ns,nd,hk _ _ hp S.at_,⟨go (fun c h=>by rw[hM];exact .inr (.inl h)) S.lay.glob,go (fun c h=>by rw[hM];exact .inr (.inr (.inl h))) S.lay.nodes,Own.nil qBH _ _,fun n hn=>go (fun c h=>by rw[hM];exact .inr (.inr (.inr (.inr (.inr ⟨n,hn,h⟩))))) (S.lay.fld n hn),S.lay.eq,S.lay.gf,S.lay.ff⟩,go (fun c h=>by rw[hM];exact .inr (.inr (.inr (.inl h)))) S.lgo,go (fun c h=>by rw[hM];exact .inr (.inr (.inr (.inr (.inl h))))) S.eno,S.eg,S.ef⟩
theorem SF.keep{M:Nat->Prop}(h:SF M V p d x log ends k lg en)(hk:∀b o,M b->V b=some o->V' b=some o):SF M V' p d x log ends k lg en:=⟨fun b hb=>by
 cases hv:V b with
 | none=>exact absurd hv (h.1 b hb)
 | some o=>rw[hk b o hb hv];simp,fun V2 h2=>h.2 V2 fun b o hb hv=>h2 b o hb (hk b o hb hv)⟩
end
structure Sto where
 p:Nat
 d:Ds
 x:Gm
 log:List En
 ends:List Nat
 k:Int
 lg:Sl
 en:Sl
abbrev SAs(W V:Mem)(s:Sto):Prop:=SA W V s.p s.d s.x s.log s.ends s.k s.lg s.en
section
variable{D V V':Mem}{s t:Sto}
end
section
variable{D V:Mem}{d:Ds}{x0 x1:Gm}{s t s' t':Sto}{k n n2 F:Nat}{nm:ByteArray}{args:List Int}{l:Sl}{atm atm2:Bool}{row row2:List Value}{code code2:Int}
end
section
variable{D V:Mem}{d:Ds}{x0 x1:Gm}{s t s' t':Sto}{k n n2 F:Nat}{nm:ByteArray}{args:List Int}{l:Sl}{row row2:List Value}{code code2:Int}{R:RP}
end
section
variable{V:Mem}{d:Ds}{m:Mm}{na nb:ByteArray}{xa xb:List Int}{la lb:Sl}
end
def One(D V:Mem)(B:Nat->Prop)(s:Sto):Prop:=∃M:Nat->Prop,SF M V s.p s.d s.x s.log s.ends s.k s.lg s.en/\(∀b,B b->V b≠none/\¬M b)/\D.sub V/\∀b,D b≠none->¬M b/\¬B b
section
variable{D D' V V' W:Mem}{B:Nat->Prop}{s:Sto}
theorem One.sub(h:One D V B s):D.sub V:=by obtain⟨M,-,-,h,-⟩:=h;exact h
theorem One.weak(h:One D V B s)(hs:D'.sub D):One D' V B s:=by
 obtain⟨M,f,hb,hd,hn⟩:=h
 exact⟨M,f,hb,hs.trans hd,fun b hD=>hn b fun e=>by
  cases h':D' b with
  | none=>exact hD h'
  | some o=>rw[hs _ _ h']at e;cases e⟩
theorem One.new(S:SAs W V s)(hD:D.sub W):One D V (fun _=>False) s:=by
 obtain⟨M,h1,h2⟩:=SA.frame S
 refine⟨M,h2,fun _ h=>h.elim,hD.trans S.sub,fun b hb=>⟨fun hm=>?_,id⟩⟩
 cases h':D b with
 | none=>exact hb h'
 | some o =>
  have:=hD _ _ h'
  rw[h1 b hm]at this
  cases this
theorem One.sto(h:One D V B s):∃W,D.sub W/\W.sub V/\SAs W V s/\∀{V':Mem} {s':Sto},SAs W V' s'->One D V' B s'/\∀b,B b->V' b=V b:=by
 obtain⟨M,f,hb,hd,hn⟩:=h
 have hD:D.sub (Mem.minus V M):=fun b o hb=>by
  rw[qAS (hn b (by rw[hb];simp)).1];exact hd _ _ hb
 refine⟨Mem.minus V M,hD,qBH,f.2 V fun _ _ _ h=>h,fun {V' s'} S'=>?_⟩
 obtain⟨M',h1,h2⟩:=SA.frame S'
 have hB:∀b,B b->Mem.minus V M b=V b:=fun b hB=>qAS (hb b hB).2
 have hV:∀b,B b->V' b=V b:=fun b hB'=>by
  cases hv:V b with
  | none=>exact absurd hv (hb b hB').1
  | some o=>exact S'.sub _ _ (by rw[hB b hB',hv])
 refine⟨⟨M',h2,fun b hB'=>⟨by rw[hV b hB'];exact(hb b hB').1,fun hm=>?_⟩,hD.trans S'.sub,fun b hb'=>⟨fun hm=>?_,(hn b hb').2⟩⟩,hV⟩
 ·have h0:=h1 b hm
  rw[hB b hB']at h0
  exact(hb b hB').1 h0
 ·have h0:=h1 b hm
  cases hd:D b with
  | none=>exact hb' hd
  | some o=>rw[hD _ _ hd]at h0;cases h0
theorem One.run{P:Program}{f:FuncId}{args:Array Value}{R:Ending->Mem->Prop}(h:One D V B s)(H:∀U,D.sub U->Tri P f args U fun e U'=>U.sub U'/\R e U') :
  Tri P f args V fun e V'=>∃D',D.sub D'/\R e D'/\One D' V' B s/\∀b,B b->V' b=V b:=by
 obtain⟨M,f,hb,hd,hn⟩:=h
 obtain⟨N,hN⟩:∃N:Nat->Prop,N=fun b=>M b∨B b:=⟨_,rfl⟩
 have hD:D.sub (Mem.minus V N):=fun b o hb=>by
  have:=hn b (by rw[hb];simp)
  rw[qAS (by rw[hN];exact fun h=>h.elim this.1 this.2)];exact hd _ _ hb
 have hNV:∀b,N b->V b≠none:=fun b h=>by
  rw[hN]at h
  exact h.elim (f.1 b) fun h=>(hb b h).1
 refine Tri.mono (tri_frame hNV (H _ hD)) ?_
 rintro e V2 ⟨V3,⟨h1,h2⟩,k1,k2,k3⟩
 have hV:∀b,N b->V2 b=V b:=fun b h=>by
  cases hv:V b with
  | none=>exact absurd hv (hNV b h)
  | some o=>exact k2 b o h hv
 have nM:∀b,M b->N b:=fun b h=>by rw[hN];exact .inl h
 have nB:∀b,B b->N b:=fun b h=>by rw[hN];exact .inr h
 refine⟨V3,hD.trans h1,h2,⟨M,f.keep fun b o hm hv=>k2 b o (nM b hm) hv,fun b hB=>⟨by rw[hV b (nB b hB)];exact(hb b hB).1,(hb b hB).2⟩,k1,fun b hv=>⟨fun hm=>hv (k3 b (nM b hm)),fun hB=>hv (k3 b (nB b hB))⟩⟩,fun b hB=>hV b (nB b hB)⟩
end
section
variable{d:Ds}{F:Nat}
theorem sc_at:∀(cs:List Cl2) (s:St) (i:Nat) (c:Cl2),scE d F s cs=0->cs[i]?=some c->qCn d (scS d F s (cs.take i)).mm c.name c.args=0/\(scO d F s cs)[i]?=some (outO (qEL d F c (scS d F s (cs.take i))))/\scS d F s (cs.take (i+1))=rsS (qEL d F c (scS d F s (cs.take i))).st
 | [],_,_,_,_,h=>by cases h
 | c0::cs,s,0,c,h,hc=>by
  cases hc
  unfold scE at h
  by_cases h0:qCn d s.mm c0.name c0.args=0
  ·exact⟨h0,rfl,rfl⟩
  ·rw[if_neg h0]at h;exact absurd h h0
 | c0::cs,s,i+1,c,h,hc=>by
  unfold scE at h
  by_cases h0:qCn d s.mm c0.name c0.args=0
  ·rw[if_pos h0]at h
   exact sc_at cs _ i c h (by simpa using hc)
  ·rw[if_neg h0]at h;exact absurd h h0
theorem sc_take:∀(cs:List Cl2) (s:St) (k:Nat),scE d F s cs=0->scE d F s (cs.take k)=0
 | [],_,k,_=>by rw[List.take_nil];rfl
 | c0::cs,s,0,_=>rfl
 | c0::cs,s,k+1,h=>by
  rw[List.take_succ_cons]
  unfold scE at h ⊢
  by_cases h0:qCn d s.mm c0.name c0.args=0
  ·rw[if_pos h0]at h ⊢;exact sc_take cs _ k h
  ·rw[if_neg h0]at h;exact absurd h h0
theorem sc_len:∀(cs:List Cl2) (s:St),(scO d F s cs).length=cs.length
 | [],_=>rfl
 | c::cs,s=>by unfold scO;rw[List.length_cons,List.length_cons,sc_len cs]
theorem sc_rs:∀(cs:List Cl2) (s:St),s=rsS s->scS d F s cs=rsS (scS d F s cs)
 | [],_,h=>h
 | c::cs,s,_=>sc_rs cs (rsS (qEL d F c s).st) rfl
def gmS(s:St):Gm:=(s.g,s.ns)
theorem gst_gmS{s:St}(h:s=rsS s):gst (gmS s)=s:=by rw[h];rfl
end
theorem base0(s:Sl)(k:Nat):(if (s.c:Int)=(0:Int) then s.p else qAa s.p ((0:Int).toNat*k))=s.p:=by
 split
 ·rfl
 ·rw[show (0:Int).toNat*k=0 by simp]
  cases s.p with
  | none=>rfl
  | some a =>
   show some (a.add 0)=some a
   unfold Addr.add;simp
theorem rows_pre{α:Type}{V:Mem}{s:Sl}{sz:Nat}{row:α->List Value}{xs:List α}(h:qAc V s sz (xs.map row)){n:Nat}(hn:n<=xs.length):qAc V ⟨s.p,n,s.c⟩ sz ((xs.take n).map row):=by
 have h0:=h.n_eq
 have hc:=h.cap
 refine⟨?_,by show n<=s.c;omega,h.fit,fun r hr=>?_,fun i r hr=>?_⟩
 ·show n=_
  rw[List.length_map,List.length_take];omega
 ·obtain⟨x,hx,rfl⟩:=List.mem_map.1 hr
  exact h.size _ (List.mem_map.2 ⟨x,List.mem_of_mem_take hx,rfl⟩)
 ·rw[List.getElem?_map,List.getElem?_take]at hr
  split at hr
  ·exact h.at_ i r (by rw[List.getElem?_map];exact hr)
  ·cases hr
theorem Cls.Ok.pre{V:Mem}{l:Sl}{cs:List Cl2}(h:Cls.Ok V l cs){n:Nat}(hn:n<=cs.length):Cls.Ok V ⟨l.p,n,l.c⟩ (cs.take n):=⟨rows_pre h.rows hn,fun c hc=>h.args c (List.mem_of_mem_take hc)⟩
theorem One.grow{D V V':Mem}{B:Nat->Prop}{s:Sto}(h:One D V B s)(hs:V.sub V'):One D V' B s:=by
 obtain⟨M,f,hb,hd,hn⟩:=h
 exact⟨M,f.keep fun c o _ hc=>hs _ _ hc,fun c hc=>⟨by
  cases hv:V c with
  | none=>exact absurd hv (hb c hc).1
  | some o=>rw[hs _ _ hv];simp,(hb c hc).2⟩,hd.trans hs,hn⟩
structure Trn (D:Mem) (d:Ds) (st:Nat->St) (s:Sto) (i n:Nat):Prop where
 hk:s.k=(i:Int)
 sd:qEY d s.d
 ok:Ds.Ok D s.d
 x:s.x=gmS (st i)
 ex:∃mems logs,qGk (OkG d) mems logs i s.log s.ends/\logs.length=n/\∀j,j<=n->mems[j]?=some (gmS (st j))
 lg:s.log.length<=2400000*n
section
variable{D V:Mem}{B:Nat->Prop}{d:Ds}{st:Nat->St}{s:Sto}{i n F:Nat}{c:Cl2}
theorem Trn.le(T:Trn D d st s i n):i<=n/\s.ends.length=n:=by
 obtain⟨mems,logs,H,h1,-⟩:=T.ex
 exact⟨h1 ▸ H.le,by rw[H.elen,h1]⟩
theorem Trn.good(T:Trn D d st s i n):OkG d s.x:=by
 obtain⟨mems,logs,H,h1,h2⟩:=T.ex
 have:=H.le
 have:=h2 i (by omega)
 rw[T.x]
 exact H.ok _ (List.mem_of_getElem? this)
theorem trnCall[Tab D](O:One D V B s)(T:Trn D d st s i i)(hst:st (i+1)=rsS (qEL d F c (st i)).st)(hrs:st i=rsS (st i))(h0:qCn d (st i).mm c.name c.args=0)(ha:qAc D c.sl 1 (c.args.map qAn))(hF:F<=600)(hi:i<=14) :
  Tri Tryz.prog 10 #[.pointer (some ⟨s.p,0,none⟩),.agg #[.string c.name,c.sl.v],.int .i64 F] V fun e V'=>e=.returned (.tuple #[.agg (oRow (outO (qEL d F c (st i)))).toArray,.int .i64 0])/\∃s',s'.p=s.p/\One D V' B s'/\Trn D d st s' (i+1) (i+1):=by
 obtain⟨W,w1,-,S,back⟩:=O.sto
 have S:SA W V s.p s.d s.x s.log s.ends s.k s.lg s.en:=S
 rw[T.hk]at S
 haveI:Tab W:=Tab.sub (V:=D) inferInstance w1
 have hg:=T.good
 obtain⟨mems,logs,H,hl,hm⟩:=T.ex
 have hlg:=T.lg
 have hen:=T.le.2
 have hx:=hm i (Nat.le_refl _)
 rw[<- T.x]at hx
 have hgs:gst s.x=st i:=by rw[T.x];exact gst_gmS hrs
 obtain⟨r,hr⟩:∃r,r=qEL d F c (st i):=⟨_,rfl⟩
 refine Tri.mono (c10 MadeP.one (stepM (F:=F) (nm:=c.name) (args:=c.args) (l:=c.sl) (r:=r) (at':=false) S H hx T.sd (T.ok.sub w1) (ha.sub w1) (by omega) (by omega) (by omega) (by omega) ?_ ?_ (fun h=>by cases h.1))) ?_
 ·rw[qIY hg ⟨by omega,by omega⟩,T.x];exact h0
 ·rw[hr,hgs];rfl
 rintro _ V' ⟨rfl,lg',en',es,S',H',h1,-⟩
 have hml:=H.len
 have hlt:(s.log.take (qAI s.ends i)).length=qAI s.ends i:=by
  have:=H.bound H.le
  rw[List.length_take];omega
 have hb:=H.bound H.le
 have hgx:gmS (st (i+1))=(r.st.g,r.st.ns):=by rw[hst,hr];rfl
 refine⟨by rw[<- hr];rfl,⟨s.p,s.d,(r.st.g,r.st.ns),_,_,_,lg',en'⟩,rfl,(back (s':=⟨s.p,s.d,(r.st.g,r.st.ns),_,_,_,lg',en'⟩) S').1,rfl,T.sd,T.ok,hgx.symm,⟨_,_,H',?_,fun j hj=>?_⟩,?_⟩
 ·rw[List.length_append,List.length_take,List.length_singleton];omega
 ·by_cases hji:j<=i
  ·rw[List.getElem?_append_left (by rw[List.length_take];omega),List.getElem?_take,if_pos (by omega)];exact hm j hji
  ·obtain rfl:j=i+1:=by omega
   rw[List.getElem?_append_right (by rw[List.length_take];omega),List.length_take,Nat.min_eq_left (by omega),Nat.sub_self,hgx];rfl
 ·show (s.log.take (qAI s.ends i)++es).length<=_
  rw[List.length_append,hlt];omega
theorem qFf(O:One D V B s)(T:Trn D d st s i n):Tri Tryz.prog 21 #[.pointer (some ⟨s.p,0,none⟩)] V fun e V'=>V.sub V'/\∃m:Mm,e=.returned m.v/\Mm.Ok V' m/\m.plain=gmS (st i):=by
 obtain⟨W,w1,-,S,-⟩:=O.sto
 have S:SA W V s.p s.d s.x s.log s.ends s.k s.lg s.en:=S
 rw[T.hk]at S
 rw[<- T.x]
 exact c21 S (T.ok.sub w1) (show OkG s.d s.x from qAo.same (m:=gmM s.x) T.good T.sd)
theorem qHd(O:One D V B s)(T:Trn D d st s i n):PP 20 [.pointer (some ⟨s.p,0,none⟩)] V (.int .i64 (qAI s.ends i)):=by
 obtain⟨W,w1,-,S,-⟩:=O.sto
 have S:SA W V s.p s.d s.x s.log s.ends s.k s.lg s.en:=S
 rw[T.hk]at S
 exact c20 S (by have:=T.le;omega)
theorem trnUndo(O:One D V B s)(T:Trn D d st s i n){k:Nat}(hk:k<=i):Tri Tryz.prog 13 #[.pointer (some ⟨s.p,0,none⟩),.int .i64 k] V fun e V'=>e=.returned (.int .i64 0)/\∃s',s'.p=s.p/\s'.ends=s.ends/\s'.d=s.d/\One D V' B s'/\Trn D d st s' k n:=by
 obtain⟨W,w1,-,S,back⟩:=O.sto
 have S:SA W V s.p s.d s.x s.log s.ends s.k s.lg s.en:=S
 rw[T.hk]at S
 obtain⟨mems,logs,H,hl,hm⟩:=T.ex
 have hle:=H.le
 have hx:=hm i (by omega)
 rw[<- T.x]at hx
 refine Tri.mono (c13 (j:=(k:Int)) S H hx) ?_
 rintro _ V' (⟨hno,-⟩|⟨q,hq,-,rfl,x',hx',S'⟩)
 ·exact absurd ⟨by omega,by omega⟩ hno
 obtain rfl:q=k:=by omega
 have h2:=hm q (by omega)
 rw[hx']at h2;cases h2
 exact⟨rfl,⟨s.p,s.d,gmS (st q),s.log,s.ends,_,s.lg,s.en⟩,rfl,rfl,rfl,(back (s':=⟨s.p,s.d,gmS (st q),s.log,s.ends,_,s.lg,s.en⟩) S').1,rfl,T.sd,T.ok,rfl,⟨mems,logs,H.move (by omega),hl,hm⟩,T.lg⟩
theorem trnRedo(O:One D V B s)(T:Trn D d st s i n):Tri Tryz.prog 15 #[.pointer (some ⟨s.p,0,none⟩)] V fun e V' =>
  (i=n/\e=.returned (.tuple #[.int .i64 0,.int .i64 12])/\V'=V)∨(i<n/\e=.returned (.tuple #[.int .i64 ((i+1:Nat):Int),.int .i64 0])/\∃s',s'.p=s.p/\s'.ends=s.ends/\One D V' B s'/\Trn D d st s' (i+1) n):=by
 obtain⟨W,w1,-,S,back⟩:=O.sto
 have S:SA W V s.p s.d s.x s.log s.ends s.k s.lg s.en:=S
 rw[T.hk]at S
 obtain⟨mems,logs,H,hl,hm⟩:=T.ex
 have hle:=H.le
 have hx:=hm i (by omega)
 rw[<- T.x]at hx
 refine Tri.mono (c15 S H hx) ?_
 rintro _ V' (⟨h,rfl,rfl⟩|⟨h,rfl,x',hx',S'⟩)
 ·exact .inl ⟨by omega,rfl,rfl⟩
 have h2:=hm (i+1) (by omega)
 rw[hx']at h2;cases h2
 exact .inr ⟨by omega,rfl,⟨s.p,s.d,gmS (st (i+1)),s.log,s.ends,_,s.lg,s.en⟩,rfl,rfl,(back (s':=⟨s.p,s.d,gmS (st (i+1)),s.log,s.ends,_,s.lg,s.en⟩) S').1,rfl,T.sd,T.ok,rfl,⟨mems,logs,H.move (by omega),hl,hm⟩,T.lg⟩
end
theorem app35:AppP 35 50 5 Stp.row:=appG Tryz.underlying35 (by kernel_rfl) (by kernel_rfl) (by kernel_rfl) (by kernel_rfl) (by kernel_rfl) (by decide) (by intro _;rfl) fun x u hu=>by simp only[Stp.row,List.mem_cons,List.not_mem_nil,or_false]at hu;rcases hu with rfl|rfl|rfl|rfl|rfl <;> rfl
end Go.Proofs
