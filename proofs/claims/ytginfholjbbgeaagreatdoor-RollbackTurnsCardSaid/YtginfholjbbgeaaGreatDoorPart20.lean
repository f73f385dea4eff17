/- Part 20 of a proof of a law of this seat: no statement of the seat is proved here. -/
import Derived.Test.YtginfholjbbgeaaGreatDoorPart19
set_option linter.unusedVariables false
set_option linter.unusedSimpArgs false
namespace Go.Proofs
open Go Go.Sx
attribute [local irreducible] Go.Sx.Tri
section
variable{V:Mem}{d:Ds}{m:Mm}{l:Sl}{cs:List Cl2}
theorem c5[Tab V](hd:Ds.Ok V d)(hm:Mm.Ok V m)(hcs:Cls.Ok V l cs){fu:Int}(hfu:0<=fu/\fu<=65535) :
  PP 5 [d.v,m.v,l.v,.int .u16 fu] V (.bool true):=by
 refine Pur.mk (x5 ?_)
 unfold w5
 obtain⟨a,rfl⟩:∃a:Nat,fu=(a:Int):=⟨fu.toNat,by omega⟩
 have hmod:((a:Int).tmod (601:Int))=((a % 601:Nat):Int):=(Int.ofNat_tmod a 601).symm
 obtain⟨F,hF⟩:∃F,F=a % 601:=⟨_,rfl⟩
 have hF6:F<=600:=by omega
 rw[hmod,<- hF]
 have fin:∀{V':Mem},V.sub V'->(Ending.returned (.bool true)=.returned (.bool true)/\V.sub V'):=fun h=>⟨rfl,h⟩
 have hln:=hcs.rows.n_eq
 have hlc:=hcs.rows.cap
 refine c6.call ⟨_,rfl,fun _=>⟨⟨by omega,by omega⟩,by decide,GenK.min2 rfl rfl ⟨_,rfl,?_⟩⟩,fun h=>absurd rfl h⟩
 rw[base0]
 obtain⟨K,hK⟩:∃K:Nat,K=if 15<l.n then 15 else l.n:=⟨_,rfl⟩
 have hK2:(if (15:Int)<(l.n:Int) then (15:Int) else (l.n:Int))=(K:Int):=by rw[hK];split <;> split <;> omega
 have hKl:K<=cs.length:=by rw[hK];split <;> omega
 rw[hK2,show ((K:Int)-0).toNat=K by omega]
 refine⟨⟨by omega,by omega,by omega⟩,qGv (mk:=fun s:Sl=>.slice s.p s.n s.c) (b0:=qAv) qCY K (fun i b V1=>Sx.Own V V1 50 5 b (((cs.take i).map fun c=>(⟨1,c.name,c.sl,(F:Int),0⟩:Stp)).flatMap Stp.row)) (Own.nil (Mem.sub.refl _) _ _) ?_⟩
 rintro i b V1 J hi ho hJ
 have hr:=(rows_pre hcs.rows hKl).sub ho.sub
 have hpl:((cs.take i).map fun c=>(⟨1,c.name,c.sl,(F:Int),0⟩:Stp)).length=i:=by rw[List.length_map,List.length_take];omega
 refine⟨fun hlt=>?_,fun hge=>?_⟩
 ·obtain⟨c,hcm,hc,-,hil,hp,hz,hrow⟩:=hr.get (i:=i) hlt
  refine⟨hp,hz,hlt,_,_,hrow,fun tb htb=>?_⟩
  have hc':cs[i]?=some c:=by
   rw[List.getElem?_take]at hc
   split at hc
   ·exact hc
   ·cases hc
  refine app35 (s:=b) (u:=⟨some ⟨tb,0,none⟩,1,1⟩) (xs:=(cs.take i).map fun c=>(⟨1,c.name,c.sl,(F:Int),0⟩:Stp)) (ys:=[⟨1,c.name,c.sl,(F:Int),0⟩]) rfl rfl (ho.new htb _) (qAc.cells (xs:=[(⟨1,c.name,c.sl,(F:Int),0⟩:Stp)]) (row:=Stp.row) mss rfl (fun _=>rfl) rfl (by simp)) (by rw[hpl];simp;omega) fun s' V' ho'=>⟨s',rfl,⟨by omega,by omega⟩,hJ (by omega) _ _ ?_⟩
  rw[List.take_add_one,hc',List.map_append]
  exact ho'
 have hge:¬(i:Int)<(K:Int):=hge
 obtain rfl:i=K:=by omega
 have s1:=ho.sub
 refine⟨fun _=>fin s1,fun h14=>?_⟩
 have h14:¬(14:Int)<(l.n:Int):=h14
 haveI:Tab V1:=Tab.sub (V:=V) inferInstance s1
 refine Tri.mono (smallS (hd.sub s1) (hm.sub s1) (ho.rows (row:=Stp.row) (fun _=>rfl) (by decide))) ?_
 rintro _ _ ⟨rfl,bb,rfl,-⟩
 refine⟨_,rfl,fun _=>?_,fun _=>fin s1⟩
 refine Tri.mono (c23 (hd.sub s1) (hm.sub s1) (hcs.sub s1) (F:=(F:Int)) (.inl (by omega))) ?_
 rintro e V2 ⟨s2,hscr⟩
 have s12:=s1.trans s2
 haveI:Tab V2:=Tab.sub (V:=V) inferInstance s12
 -- without a store, or a script
 have early:∀{e1:Int},e1≠0->∀{V3:Mem} {p:Option Addr} {k:Int},V.sub V3->(k=0∨p=none)->∀(B1 B2:Prop),(Br (e1=0) B1 (Br (k=0) (Ending.returned (.bool true)=.returned (.bool true)/\V.sub V3) (Ending.returned (.bool p.isNone)=.returned (.bool true)/\V.sub V3))):=fun h V3 p k hs hk B1 _=>⟨fun h'=>absurd h' h,fun _=>⟨fun _=>fin hs,fun h0=>by
  rcases hk with h'|rfl
  ·exact absurd h' h0
  ·exact fin hs⟩⟩
 rcases hscr with⟨hne,rfl⟩|⟨hz0,o,xg,xn,nd,hor,hxo,hxe,hxg,rfl⟩
 ·refine⟨_,_,_,_,rfl,Tri.mono (c8 (hd.sub s12) (hm.sub s12)) ?_⟩
  rintro _ V3 (⟨hG,s3,rfl⟩|⟨G,p,d1,W,rfl,sW,hd1,SD1,S⟩)
  ·exact⟨_,_,rfl,early hne (s12.trans s3) (.inr rfl) _ True⟩
  ·exact⟨_,_,rfl,early hne (s12.trans (sW.trans S.sub)) (.inl rfl) _ True⟩
 have G:=scr_zero hz0
 have hz:scE d F (qBG m) cs=0:=by
  unfold scrE at hz0
  split at hz0
  ·split at hz0
   ·cases hz0
   ·exact hz0
  ·contradiction
 obtain⟨st,hst⟩:∃st:Nat->St,st=fun j=>scS d F (qBG m) (cs.take j):=⟨_,rfl⟩
 have hrs:∀j,st j=rsS (st j):=fun j=>by rw[hst];exact sc_rs _ _ rfl
 have hst0:gmS (st 0)=m.plain:=by rw[hst];rfl
 have hstn:st cs.length=scS d F (qBG m) cs:=by rw[hst];show scS d F (qBG m) (cs.take cs.length)=_;rw[List.take_of_length_le (Nat.le_refl _)]
 refine⟨_,_,_,_,rfl,Tri.mono (c8 (hd.sub s12) (hm.sub s12)) ?_⟩
 rintro _ V3 (⟨hG,s3,rfl⟩|⟨-,p,d1,W,rfl,sW,hd1,SD1,S⟩)
 ·exact absurd G hG
 refine⟨_,_,rfl,fun _=>⟨fun _=>?_,fun h=>absurd rfl h⟩,fun h=>absurd rfl h⟩
 have sVW:=s12.trans sW
 haveI:Tab W:=Tab.sub (V:=V) inferInstance sVW
 have hdW:=hd.sub sVW
 have hmW:=hm.sub sVW
 have hcW:=hcs.sub sVW
 have hoW:=hor.sub sW
 have hxW:=hxo.sub sW
 have hor2:o.n=cs.length:=by have:=hoW.n_eq;rw[sc_len]at this;exact this
 have hF0:((F:Int)).toNat=F:=rfl
 have O0:One W V3 (fun _=>False) ⟨p,d1,m.plain,[],[],((0:Nat):Int),qAv,qAv⟩:=One.new (s:=⟨p,d1,m.plain,[],[],((0:Nat):Int),qAv,qAv⟩) S (Mem.sub.refl _)
 have T0:Trn W d st ⟨p,d1,m.plain,[],[],((0:Nat):Int),qAv,qAv⟩ 0 0:=⟨rfl,SD1,hd1,hst0.symm,⟨[m.plain],[],qGk.start (OkG.of G),rfl,fun j hj=>by
  obtain rfl:j=0:=by omega
  rw[hst0];rfl⟩,Nat.le_refl _⟩
 refine qBe (mk:=.bool) (b0:=false) cs.length (fun i V1=>∃s,s.p=p/\One W V1 (fun _=>False) s/\Trn W d st s i i) ⟨_,rfl,O0,T0⟩ ?_
 rintro i b4 V4 J1 hi4 ⟨s,hsp,O,T⟩ hJ1
 have hc4:=hcW.sub O.sub
 refine⟨fun hlt=>?_,fun hge=>?_⟩
 ·obtain⟨c,hcm,hc,-,hil,hp,hz4,hrow⟩:=hc4.rows.get hlt
  obtain⟨h1,h2,h3⟩:=sc_at cs (qBG m) i c hz hc
  refine⟨hp,hz4,hlt,_,_,hrow,?_⟩
  have e1:st i=scS d F (qBG m) (cs.take i):=by rw[hst]
  have e2:st (i+1)=scS d F (qBG m) (cs.take (i+1)):=by rw[hst]
  rw[<- e1]at h1 h2 h3
  rw[<- e2]at h3
  have C:=trnCall (F:=F) (c:=c) O T h3 (hrs i) h1 (hcW.args c hcm) hF6 (by omega)
  rw[hsp]at C
  refine Tri.mono C ?_
  rintro _ V5 ⟨rfl,s',hsp',O',T'⟩
  refine⟨_,_,_,_,_,_,rfl,fun _=>⟨fun hle=>absurd hle (by show ¬(o.n:Int)<=(i:Int);omega),fun _=>?_⟩,fun h=>absurd rfl h⟩
  obtain⟨y,-,hy,-,-,hp2,hz2,hrow2⟩:=(hoW.sub O'.sub).get (i:=i) (by omega)
  have h2:(scO d F (qBG m) cs)[i]?=some y:=hy
  obtain⟨-,h2',-⟩:=sc_at cs (qBG m) i c hz hc
  rw[h2,<- e1]at h2'
  cases h2'
  exact⟨hp2,hz2,by omega,_,_,_,_,_,hrow2,fun _=>⟨hc4.rows.succ hlt,hJ1 hil _ _ ⟨s',hsp',O',T'⟩⟩,fun h=>absurd ⟨rfl,rfl,rfl,rfl,rfl⟩ h⟩
 have hdn:=(hc4.rows.done hge).2
 obtain rfl:i=cs.length:=by omega
 have M4:=qFf O T
 rw[hsp]at M4
 refine Tri.mono M4 ?_
 rintro _ V5 ⟨s5,m5,rfl,ho5,hp5⟩
 have O5:=O.grow s5
 have hxp:(⟨xg,(scS d F (qBG m) cs).g,xn,nd⟩:Mm).plain=gmS (st cs.length):=by
  rw[hstn];exact Prod.ext rfl hxe
 refine⟨m5.gs,m5.ns,rfl,(c22 (a:=m5) (b:=⟨xg,(scS d F (qBG m) cs).g,xn,nd⟩) ho5 (hxW.sub O5.sub)).call ⟨_,rfl,fun _=>?_,fun h=>absurd (decide_eq_true (hp5.trans hxp.symm)) h⟩⟩
 have L5:=qHd O5 T
 rw[hsp]at L5
 refine L5.call ⟨_,rfl,?_⟩
 obtain⟨E0,hE0⟩:∃E0,E0=s.ends:=⟨_,rfl⟩
 rw[<- hE0,hln]
 obtain⟨N,hN⟩:∃N,N=cs.length:=⟨_,rfl⟩
 rw[<- hN]at T ⊢
 refine⟨fun m1 xs V6=>∃(q:Nat) (bq:Bool),xs=[.bool bq,.int .i64 ((q:Int)-1)]/\m1=q/\q<=N+1/\∃s,s.p=p/\s.ends=E0/\One W V6 (fun _=>False) s/\Trn W d st s (min q N) N,N+1,⟨N+1,b4,by rw[show (((N+1:Nat):Int)-1)=(N:Int) by omega],rfl,Nat.le_refl _,s,hsp,hE0.symm,O5,by rw[Nat.min_eq_right (by omega)];exact T⟩,?_⟩
 rintro m1 V6 b6 v6 ⟨q,bq,hv,rfl,hq,s6,hp6,hE6,O6,T6⟩ J2 hJ2
 simp only[List.cons.injEq,Value.int.injEq,Value.bool.injEq,true_and,and_true]at hv
 obtain⟨rfl,rfl⟩:=hv
 refine⟨fun h0=>?_,fun h0=>?_⟩
 ·have h0:(0:Int)<=(m1:Int)-1:=h0
  obtain⟨k,rfl⟩:∃k,m1=k+1:=⟨m1-1,by omega⟩
  have e1:(((k+1:Nat):Int)-1)=(k:Int):=by omega
  rw[e1,show ((k:Int)-0).toNat=k by omega,show ((l.c:Int)-0).toNat=l.c by omega]
  have hkc:k<=cs.length:=by omega
  refine⟨⟨by omega,by omega,by omega⟩,Tri.mono (One.run (R:=fun e V'=>(scrE d (F:Int) m (cs.take k)≠0/\e=.returned (.tuple #[qAv.v,.agg #[qAv.v,qAv.v],.int .i64 (scrE d (F:Int) m (cs.take k))])) ∨
   (scrE d (F:Int) m (cs.take k)=0/\∃(o a b:Sl) (nd:List Nd),qAc V' o 5 ((scO d (F:Int).toNat (qBG m) (cs.take k)).map oRow)/\Mm.Ok V' ⟨a,(scS d (F:Int).toNat (qBG m) (cs.take k)).g,b,nd⟩/\nd.map (fun n=>(n.ty,n.f))=(scS d (F:Int).toNat (qBG m) (cs.take k)).ns/\qAo d (scS d (F:Int).toNat (qBG m) (cs.take k)).mm/\e=.returned (.tuple #[o.v,.agg #[a.v,b.v],.int .i64 0]))) O6 fun U hU=>?_) ?_⟩
  ·haveI:Tab U:=Tab.sub (V:=W) inferInstance hU
   exact c23 (l:=⟨l.p,k,l.c⟩) (hdW.sub hU) (hmW.sub hU) ((hcW.sub hU).pre hkc) (F:=(F:Int)) (.inl (by omega))
  have hzk:scrE d (F:Int) m (cs.take k)=0:=by
   unfold scrE
   have hg0:qBs d m (F:Int)=0:=by
    unfold qBs
    rw[if_pos G,if_neg (by omega),if_neg (by omega)]
   rw[if_pos hg0,if_neg (by rw[List.length_take];omega)]
   exact sc_take cs _ k hz
  rintro e V7 ⟨D',sD,h|⟨-,o7,a7,b7,nd7,-,hm7,he7,-,rfl⟩,O7,-⟩
  ·exact absurd hzk h.1
  refine⟨_,_,_,_,rfl,fun _=>?_,fun h=>absurd rfl h⟩
  have T7:Trn D' d st s6 (min (k+1) N) N:=⟨T6.hk,T6.sd,T6.ok.sub sD,T6.x,T6.ex,T6.lg⟩
  have U7:=trnUndo O7 T7 (k:=k) (by omega)
  rw[hp6]at U7
  refine Tri.mono U7 ?_
  rintro _ V8 ⟨rfl,s8,hp8,hE8,hd8,O8,T8⟩
  refine⟨_,rfl,fun _=>?_,fun h=>absurd rfl h⟩
  have M8:=qFf O8 T8
  rw[hp8]at M8
  refine Tri.mono M8 ?_
  rintro _ V9 ⟨s9,m9,rfl,ho9,hp9⟩
  have O9:=O8.grow s9
  have hxp9:(⟨a7,(scS d F (qBG m) (cs.take k)).g,b7,nd7⟩:Mm).plain=gmS (st k):=by
   rw[hst];exact Prod.ext rfl he7
  refine⟨m9.gs,m9.ns,rfl,(c22 (a:=m9) (b:=⟨a7,(scS d F (qBG m) (cs.take k)).g,b7,nd7⟩) ho9 (hm7.sub O9.sub)).call ⟨_,rfl,fun _=>⟨⟨by omega,by omega⟩,hJ2 k _ _ (by omega) ⟨k,b6,rfl,rfl,by omega,s8,hp8,hE8.trans hE6,O9.weak sD,?_⟩⟩,fun h=>absurd (decide_eq_true (hp9.trans hxp9.symm)) h⟩⟩
  rw[Nat.min_eq_left (by omega)]
  exact⟨T8.hk,T8.sd,by rw[hd8];exact T6.ok,T8.x,T8.ex,T8.lg⟩
 have h0:¬(0:Int)<=(m1:Int)-1:=h0
 obtain rfl:m1=0:=by omega
 rw[Nat.zero_min]at T6
 have L6:=qHd O6 T6
 rw[hp6]at L6
 refine L6.call ⟨_,rfl,fun _=>?_,fun h=>absurd rfl h⟩
 have M6:=qFf O6 T6
 rw[hp6]at M6
 refine Tri.mono M6 ?_
 rintro _ V7 ⟨s7,m7,rfl,ho7,hp7⟩
 have O7:=O6.grow s7
 refine⟨m7.gs,m7.ns,rfl,(c22 (a:=m7) (b:=m) ho7 (hmW.sub O7.sub)).call ⟨_,rfl,fun _=>?_,fun h=>absurd (decide_eq_true (hp7.trans hst0)) h⟩⟩
 refine qBe (mk:=.bool) (b0:=b6) N (fun i V1=>∃s,s.p=p/\s.ends=E0/\One W V1 (fun _=>False) s/\Trn W d st s i N) ⟨s6,hp6,hE6,O7,T6⟩ ?_
 rintro i b8 V8 J3 hi8 ⟨s8,hp8,hE8,O8,T8⟩ hJ3
 have R8:=trnRedo O8 T8
 rw[hp8]at R8
 refine⟨fun hlt=>?_,fun hge=>?_⟩
 ·have hlt:(i:Int)<(N:Int):=hlt
  refine Tri.mono R8 ?_
  rintro _ V9 (⟨h,-⟩|⟨h,rfl,s9,hp9,hE9,O9,T9⟩)
  ·omega
  exact⟨_,_,rfl,fun _=>⟨⟨by omega,by omega⟩,fun _=>⟨⟨by omega,by omega⟩,hJ3 (by omega) _ _ ⟨s9,hp9,hE9.trans hE8,O9,T9⟩⟩,fun h=>absurd (by show ((i+1:Nat):Int)=(i:Int)+1;omega) h⟩,fun h=>absurd rfl h⟩
 have hge:¬(i:Int)<(N:Int):=hge
 obtain rfl:i=N:=by omega
 refine Tri.mono R8 ?_
 rintro _ V9 (⟨-,rfl,rfl⟩|⟨h,-⟩)
 ·have L9:=qHd O8 T8
  rw[hp8,hE8]at L9
  refine⟨_,_,rfl,fun _=>L9.call ⟨_,rfl,fun _=>?_,fun h=>absurd rfl h⟩,fun h=>absurd rfl h⟩
  have M9:=qFf O8 T8
  rw[hp8]at M9
  refine Tri.mono M9 ?_
  rintro _ V10 ⟨s10,m10,rfl,ho10,hp10⟩
  have O10:=O8.grow s10
  have hxp':(⟨xg,(scS d F (qBG m) cs).g,xn,nd⟩:Mm).plain=gmS (st i):=by rw[hN];exact hxp
  refine⟨m10.gs,m10.ns,rfl,(c22 (a:=m10) (b:=⟨xg,(scS d F (qBG m) cs).g,xn,nd⟩) ho10 (hxW.sub O10.sub)).call ⟨_,rfl,?_⟩⟩
  rw[decide_eq_true (hp10.trans hxp'.symm)]
  exact fin (sVW.trans O10.sub)
 ·omega
end
end Go.Proofs
