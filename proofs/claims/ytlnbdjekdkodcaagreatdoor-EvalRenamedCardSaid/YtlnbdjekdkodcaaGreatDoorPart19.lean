/- Part 19 of a proof of a law of this seat: no statement of the seat is proved here. -/
import Derived.Test.YtlnbdjekdkodcaaGreatDoorPart18
import Derived.Test.YtlnbdjekdkodcaaGreatDoorPart17
set_option linter.unusedVariables false
set_option linter.unusedSimpArgs false
namespace Go.Proofs
open Go Go.Sx
attribute [local irreducible] Go.Sx.Tri
theorem copyInt{V:Mem}{b:Nat}{l:Sl}{xs:List Int}(hb:V b=none)(h:qAd V l 1 (xs.map qAn))(hn:xs.length<=2147483648){ty:Nat}{x y:Operand}{vals:Operand->Value}(hx:vals x=.slice (sa b) 0 0)(hy:vals y=.slice l.p l.n l.c){Q:Value->Mem->Prop}(hQ:∀s V',Sx.Own V V' 3 1 s (xs.flatMap qAn)->Q (.slice s.p s.n s.c) V') :
  GenK Tryz.prog (.call { callee:=.builtin .append,args:=#[x,y],argTypes:=#[31,31] }) ty vals (V.set b (.cells #[] 3 (0,0))) Q:=by
 have s1:=Mem.sub_new hb (.cells #[] 3 (0,0))
 exact app31 (s:=⟨some ⟨b,0,none⟩,0,0⟩) (u:=l) (xs:=[]) (ys:=xs) hx hy (Own.empty (V0:=V) s1 _ _ _) (h.sub s1) (by simpa using hn) fun s' V' ho=>hQ s' V' (by simpa using ho)
theorem c40{V:Mem}{m:Mm}(hm:Mm.Ok V m)(h1:m.globals.length<=2147483648)(h2:m.nodes.length<=4096)(h3:∀n∈m.nodes,n.f.length<=2147483648):Tri Tryz.prog 40 #[m.v] V fun e V'=>∃gs ns nd,e=.returned (.agg #[.slice gs.p gs.n gs.c,.slice ns.p ns.n ns.c])/\Lay V V' gs ns qAK nd (qBQ m):=by
 refine x40 ?_
 unfold w40
 intro b0 hb0
 refine copyInt hb0 hm.globals h1 rfl rfl fun gs V1 o1=>?_
 refine⟨gs,rfl,loop3u (mk:=fun s:Sl=>.slice s.p s.n s.c) (mc:=fun s:Sl=>.slice s.p s.n s.c) (b0:=gs) (c0:=⟨none,0,0⟩) qCo qCo m.nodes.length (fun i b ns V2=>b=gs/\∃nd,Lay V V2 gs ns qAK nd ⟨m.globals,(m.nodes.take i).map fun n=>(n.ty,n.f),0,0,[]⟩/\nd.length=i) ⟨rfl,[],⟨o1,Own.nil o1.sub _ _,Own.nil o1.sub _ _,(fun n hn=>by cases hn),rfl,(fun n hn=>by cases hn),(fun i j n n' c h=>by cases h)⟩,rfl⟩ ?_⟩
 rintro i b ns V2 J hi ⟨rfl,nd,L,hnl⟩ hJ
 have hr:=hm.nodes.sub L.sub
 refine⟨fun hlt=>?_,fun hge=>?_⟩
 ·obtain⟨x,hxm,hx,-,hil,hp,hz,hrow⟩:=hr.get hlt
  have hq:=qAe (n:=i*2) hp
  have hlt':(i:Int)<(m.ns.n:Int):=hlt
  refine⟨hp,hz,hlt,hq,x.ty,x.sl,hrow,hp,hz,hlt,hq,x.ty,x.sl,hrow,qEq (j:=1) (m:=1) hrow (by decide) (by decide),hq,hp,hz,hlt,qEI (k:=1) hrow (by decide),hq,hp,hz,hlt,fun b1 hb1=>?_⟩
  refine copyInt hb1 ((hm.nodesOk x hxm).rows.sub L.sub) (h3 x hxm) rfl rfl fun fs V3 o3=>?_
  have hrow3:=(hr.sub o3.sub).get hlt
  obtain⟨y,-,hy,-,-,-,-,hrow3⟩:=hrow3
  rw[hx]at hy;cases hy
  refine⟨fs,rfl,qEI (k:=1) hrow3 (by decide),hq,hp,hz,hlt,fun tb htb=>L.new (n:=⟨x.ty,fs,x.f⟩) o3 htb rfl rfl (by omega) fun s' V' L' _=>⟨s',rfl,hr.succ hlt,hJ hil _ _ _ ⟨rfl,nd++[⟨x.ty,fs,x.f⟩],?_,by rw[List.length_append,hnl];rfl⟩⟩⟩
  rw[List.take_add_one,hx]
  simpa using L'
 ·have hd:=(hr.done hge).2
  rw[List.take_of_length_le hd]at L
  exact⟨b,ns,nd,rfl,L⟩
section
variable{V V0:Mem}{d:Ds}{m:Mm}{F:Nat}{nm:ByteArray}{args:List Int}{l:Sl}
theorem c34(hd:Ds.Ok V d)(hm:Mm.Ok V m){F:Int}:PP 34 [d.v,m.v,.int .i64 F] V (.int .i64 (qAM d m F)):=by
 refine x34 ?_
 unfold w34
 have bad:¬qAr d m->(Ending.returned (.int .i64 1)=.returned (.int .i64 (qAM d m F))/\V=V):=fun h=>⟨by unfold qAM;rw[if_neg h],rfl⟩
 refine(c60 hd).call ⟨_,rfl,fun h1=>(c61 hd).call ⟨_,rfl,fun h2=>(c62 hd hm).call ⟨_,rfl,fun h3=>?_,fun h3=>bad fun G=>h3 G.mem⟩,fun h2=>bad fun G=>h2 ?_⟩,fun h1=>bad fun G=>h1 G.valid⟩
 ·have h2:wellT d=true:=h2
  unfold wellT at h2
  rw[Bool.and_eq_true,decide_eq_true_eq]at h2
  have G:qAr d m:=⟨h1,chk_none h2.2,h3⟩
  refine⟨fun h=>⟨?_,rfl⟩,fun h=>⟨fun h2=>⟨?_,rfl⟩,fun h2=>⟨?_,rfl⟩⟩⟩
  ·unfold qAM;rw[if_pos G,if_pos h]
  ·unfold qAM;rw[if_pos G,if_neg h,if_pos h2]
  ·unfold qAM;rw[if_pos G,if_neg h,if_neg h2]
 ·show wellT d=true
  unfold wellT
  rw[G.chk,G.valid];rfl
theorem c35(hd:Ds.Ok V d)(hm:Mm.Ok V m)(ha:qAd V l 1 (args.map qAn)) :
  PP 35 [d.v,m.v,.agg #[.string nm,l.v]] V (.int .i64 (qCF d m nm args)):=by
 refine x35 ?_
 unfold w35
 have fin:∀{e:Int},qCF d m nm args=e->(Ending.returned (.int .i64 e)=.returned (.int .i64 (qCF d m nm args))/\V=V):=fun e=>⟨by rw[e],rfl⟩
 refine(c23 hd).call ⟨_,rfl,fun h=>?_,fun h=>?_⟩
 ·exact fin (by unfold qCF;rw[if_pos (show qEs d nm<0 from h)])
 ·have h:¬qEs d nm<0:=h
  rcases qAB (fun t:Pr=>decide (t.name=nm)) d.procs with⟨h1,-⟩|⟨i,pr,h1,h2,-⟩
  ·have:qEs d nm=-1:=h1
   omega
  have hi:qEs d nm=(i:Int):=h1
  have hn:=hd.procs.n_eq
  have hil:=(List.getElem?_eq_some_iff.1 h2).1
  obtain⟨y,hym,hy,-,-,hp,hz,hrow⟩:=hd.procs.get (i:=i) (by omega)
  rw[h2]at hy;cases hy
  have hc:qCF d m nm args=if args.length=pr.params.length then (if qAg d m pr.params args=true then 0 else 11) else 3:=by unfold qCF;rw[if_neg h,hi,Int.toNat_natCast,h2]
  have hok:=(hd.procsOk pr hym).params
  have hln:=hok.n_eq
  have han:=ha.n_eq
  rw[h1]
  refine⟨hp,hz,by omega,_,_,_,_,_,hrow,fun hlen=>?_,fun hlen=>?_⟩
  ·have hlen:(l.n:Int)=(pr.ps.n:Int):=hlen
   have hl2:args.length=pr.params.length:=by omega
   rw[if_pos hl2]at hc
   refine qAC (mk:=fun k:Int=>.int .i64 k) (b0:=0) args.length (fun j V1=>V1=V/\∀(i:Nat) f v,i<j->pr.params[i]?=some f->args[i]?=some v->qAv d m f.ty v=true) ⟨rfl,fun i f v h=>by omega⟩ ?_
   rintro j b V1 J hj ⟨rfl,hall⟩ hJ
   refine⟨fun hlt=>?_,fun hge=>?_⟩
   ·obtain⟨v,hvm,hv,-,hjl,hp1,hz1,hr1⟩:=ha.get hlt
    obtain⟨f,hfm,hf,-,-,hp2,hz2,hr2⟩:=hok.get (i:=j) (by omega)
    refine⟨hp2,hz2,by omega,qAe hp2,_,_,hr2,hp1,hz1,hlt,v,hr1,(c63 hd hm).call ⟨_,rfl,fun hb=>⟨ha.succ hlt,hJ hjl _ _ ⟨rfl,fun i g w hi' hg hw=>?_⟩⟩,fun hb=>fin ?_⟩⟩
    ·rcases Nat.lt_or_ge i j with h3|h3
     ·exact hall i g w h3 hg hw
     ·obtain rfl:i=j:=by omega
      rw[hf]at hg;cases hg
      rw[hv]at hw;cases hw
      exact hb
    ·rw[hc,if_neg fun k=>hb ((qAq.1 k).2 j f v hf hv)]
   ·have hd2:=(ha.done hge).2
    have hval:qAg d m pr.params args=true:=qAq.2 ⟨hl2.symm,fun i f v hf hv=>hall i f v (by have:=(List.getElem?_eq_some_iff.1 hv).1;omega) hf hv⟩
    rw[if_pos hval]at hc
    exact fin hc
  ·have hlen:¬(l.n:Int)=(pr.ps.n:Int):=hlen
   exact fin (by rw[hc,if_neg (by omega)])
theorem qIC(G:qAr d m):m.globals.length<=2147483648/\m.nodes.length<=4096/\∀n∈m.nodes,n.f.length<=2147483648:=by
 obtain⟨p1,p2,p3,p4,p5⟩:=qAp G.mem
 have h12:=qJI G.valid
 refine⟨by have:=(qAq.1 p4).1;omega,p2,fun n hn=>?_⟩
 have:=(qAq.1 (p5 n hn)).1
 have hty:=of_decide_eq_true (p3 n hn)
 obtain⟨j,hj⟩:∃j:Nat,n.ty=(j:Int):=⟨n.ty.toNat,by omega⟩
 have hjl:j<d.types.length:=by omega
 have hx:=List.getElem?_eq_getElem hjl
 rw[hj,qAW hx rfl]at this
 have:=h12.2 _ (List.getElem_mem hjl)
 omega
def PlayX(V0:Mem)(d:Ds)(F:Nat)(m:Mm)(nm:ByteArray)(args:List Int):Ending->Mem->Prop:=fun e V' =>
 ∃p,∃r:Rx Int,r=qFa d F (qEs d nm) args (qBQ m)/\XM V0 d p F V' r.st (outV r) (outC r)/\e=.returned (pv p)
theorem c36(hd:Ds.Ok V d)(hm:Mm.Ok V m)(G:qAr d m)(ha:qAd V l 1 (args.map qAn))(hc:qCF d m nm args=0)(hF:F<=4000) :
  Tri Tryz.prog 36 #[d.v,m.v,.agg #[.string nm,l.v],.int .i64 F] V (PlayX V d F m nm args):=by
 refine x36 (R:=PlayX V d F m nm args) ?_
 unfold w36
 obtain⟨i,pr,hi,hpr,hval⟩:=qDg hc
 obtain⟨l1,l2,l3⟩:=qIC G
 refine Tri.mono (c40 hm l1 l2 l3) ?_
 rintro _ V1 ⟨gs,ns,nd,rfl,L⟩
 refine⟨gs,ns,rfl,(c23 (hd.sub L.sub)).call ⟨_,rfl,?_⟩⟩
 rw[show qHo (fun t:Pr=>decide (t.name=nm)) d.procs=(i:Int) from hi]
 intro p hp
 have p0:V p=none:=free L.sub hp
 have s1:=Mem.sub_new hp (.cells (qBv d F 0 0 0 0 0 gs ns qAK).toArray 66 (0,0))
 have M1:XM V d p F (V1.set p (.cells (qBv d F 0 0 0 0 0 gs ns qAK).toArray 66 (0,0))) (qBQ m) ((0:Nat):Int) 0:=⟨p0,gs,ns,qAK,nd,by rw[Mem.set_same];rfl,L.grow s1⟩
 have HC:=callY (allY d p F (F+1)) V (V1.set p (.cells (qBv d F 0 0 0 0 0 gs ns qAK).toArray 66 (0,0))) (qBQ m) 0 i pr args l ⟨hd,G.valid,qEM G.valid G.chk,hF⟩ hpr (qGA G) (qAh (qBW (qEH m).symm) hval) ha M1 (by show 0<=F;omega) (by show F<F+1+0;omega) (by unfold BW;simp[qBQ])
 refine XR.any HC fun v kf s2 V2 M2 hk=>?_
 obtain⟨gs2,ns2,ls2,nd2,hat2,L2⟩:=M2.ex
 refine⟨pnn,pnn,StT.at2 (off:=12) hat2 (by simp[qBv]) ?_⟩
 have M3:XM V d p F (V2.set p (.cells (qBv d F s2.tk v kf s2.cm (qAw s2.lg) gs2 ns2 ls2).toArray 66 (0,0))) s2 v kf:=MA.set (row':=qBv d F s2.tk v kf s2.cm (qAw s2.lg)) ntX M2.p0 hat2 L2 rfl rfl rfl rfl
 have hr:qFa d F (qEs d nm) args (qBQ m)=qBY d (qCe d F (F+1)) 0 i args (qBQ m):=by rw[hi];rfl
 rcases hk with⟨rfl,e⟩|⟨hk0,rfl,e⟩
 ·exact⟨p,.ok v s2,by rw[hr,e],M3,rfl⟩
 ·exact⟨p,.bad kf s2,by rw[hr,e],M3,rfl⟩
theorem c30{p:Nat}{s:St}{c k:Int}(M:XM V0 d p F V s c k):PP 30 [pv p] V (.agg (qDS k c s.cm (qAw s.lg)).toArray):=by
 obtain⟨gs,ns,ls,nd,hat,L⟩:=M.ex
 refine x30 ?_
 unfold w30
 exact⟨nn,nn,_,qAc hat 13 1 (by simp[qBv]),nn,nn,_,qAc hat 12 1 (by simp[qBv]),nn,nn,_,_,_,qAc hat 14 3 (by simp[qBv]),rfl,rfl⟩
def StartX(V:Mem)(d:Ds)(F:Nat)(m:Mm)(nm:ByteArray)(args:List Int):Ending->Mem->Prop:=fun e V' =>
 (qBs d m nm args F≠0/\V.sub V'/\∃q,V' q=some (.cells ([Go.Sx.vS (qAm []),qAK.v,qAK.v,qAK.v,qAK.v,qAK.v,qAK.v,qAK.v,qAK.v,qAK.v,.int .i64 0,.int .i64 0,.int .i64 0,.int .i64 0,.int .i64 0,.int .i64 0,.int .i64 0,qAK.v]:List Value).toArray 66 (0,0))/\e=.returned (.tuple #[pv q,.int .i64 (qBs d m nm args F)])) ∨
 (qBs d m nm args F=0/\∃p,∃r:Rx Int,r=qFa d F (qEs d nm) args (qBQ m)/\XM V d p F V' r.st (outV r) (outC r)/\e=.returned (.tuple #[pv p,.int .i64 0]))
theorem c17(hd:Ds.Ok V d)(hm:Mm.Ok V m)(ha:qAd V l 1 (args.map qAn))(hF:F<=4000):Tri Tryz.prog 17 #[d.v,m.v,.agg #[.string nm,l.v],.int .i64 F] V (StartX V d F m nm args):=by
 refine x17 (R:=StartX V d F m nm args) ?_
 unfold w17
 have bad:∀{e:Int},qBs d m nm args F=e->e≠0->∀b,V b=none->StartX V d F m nm args (.returned (.tuple #[pv b,.int .i64 e])) (V.set b (.cells ([Go.Sx.vS (qAm []),qAK.v,qAK.v,qAK.v,qAK.v,qAK.v,qAK.v,qAK.v,qAK.v,qAK.v,.int .i64 0,.int .i64 0,.int .i64 0,.int .i64 0,.int .i64 0,.int .i64 0,.int .i64 0,qAK.v]:List Value).toArray 66 (0,0))):=fun h he b hb=>.inl ⟨by rw[h];exact he,Mem.sub_new hb _,b,Mem.set_same _ _ _,by rw[h]⟩
 refine(c34 hd hm).call ⟨_,rfl,fun h0=>?_,fun h0=>⟨fun h=>absurd h h0,fun _ b hb=>?_⟩⟩
 ·have G:=qCT h0
  have hs:qBs d m nm args F=qCF d m nm args:=by unfold qBs;rw[if_pos h0]
  refine(c35 hd hm ha).call ⟨_,rfl,fun h1=>?_,fun h1 b hb=>bad hs h1 b hb⟩
  refine Tri.mono (c36 hd hm G ha h1 hF) ?_
  rintro _ V1 ⟨p,r,hr,M,rfl⟩
  exact⟨_,rfl,.inr ⟨by rw[hs];exact h1,p,r,hr,M,rfl⟩⟩
 ·exact bad (by unfold qBs;rw[if_neg h0]) h0 b hb
theorem c12(hd:Ds.Ok V d)(hm:Mm.Ok V m)(ha:qAd V l 1 (args.map qAn))(hF:F<=4000):Tri Tryz.prog 12 #[d.v,m.v,.agg #[.string nm,l.v],.int .i64 F] V (RunP V d F m nm args):=by
 refine x12 (R:=RunP V d F m nm args) ?_
 unfold w12
 refine Tri.mono (c17 hd hm ha hF) ?_
 rintro e V1 (⟨hc,hs,q,-,rfl⟩|⟨hc,p,r,hr,M,rfl⟩)
 ·exact⟨_,_,rfl,fun h=>absurd h hc,fun _=>.inl ⟨hc,hs,rfl⟩⟩
 ·obtain⟨gs,ns,ls,nd,hat,L⟩:=M.ex
  exact⟨_,_,rfl,fun _=>⟨nn,nn,gs,ns,qAc hat 8 2 (by simp[qBv]),(c30 M).call ⟨_,_,_,_,_,rfl,qBa hat 8 0 2 (by simp[qBv]),nn,nn,qBa hat 8 0 2 (by simp[qBv]),nn,nn,.inr ⟨hc,r,gs,ns,ls,nd,hr,L,rfl⟩⟩⟩,fun h=>absurd rfl h⟩
end
theorem qEC{p q B X:Prop}(hX:(¬p∨¬q)->X)(hB:p->q->B):Br p (Br q B X) X:=⟨fun hp=>⟨fun hq=>hB hp hq,fun hq=>hX (.inr hq)⟩,fun hp=>hX (.inl hp)⟩
theorem qGn{α:Type}{xs ys:List α}{i:Nat}{x y:α}(h:xs.take i=ys.take i)(hx:xs[i]?=some x)(hy:ys[i]?=some y)(e:x=y):xs.take (i+1)=ys.take (i+1):=by
 rw[List.take_add_one,List.take_add_one,h,hx,hy,e]
section
variable{V:Mem}{d:Ds}{m:Mm}
def RI(V:Mem):Ending->Mem->Prop:=fun e V'=>V=V'/\∃r:Int,e=.returned (.int .i64 r)/\-1<=r/\r<=2000
def RY(V:Mem):Ending->Mem->Prop:=fun e V'=>V=V'/\∃b:Bool,e=.returned (.bool b)
theorem RI.mk{r:Int}(h:-1<=r/\r<=2000):RI V (.returned (.int .i64 r)) V:=⟨rfl,r,rfl,h⟩
theorem RY.mk{b:Bool}:RY V (.returned (.bool b)) V:=⟨rfl,b,rfl⟩
theorem leftC:∀(k:Nat),k<=65->∀(e:E) (n:Int),E.Ok V e->-1<=n->n<=2000->Tri Tryz.prog 74 #[e.v,.int .i64 k,.int .i64 n] V (RI V):=by
 intro k
 induction k with
 | zero =>
  intro _ e n he h1 h2
  refine Tri.mono (x74 (R:=RI V) ?_) fun _ _ h=>h
  unfold w74
  exact⟨fun _=>.mk ⟨by omega,by omega⟩,fun _=>⟨fun _=>.mk ⟨by omega,by omega⟩,fun h=>absurd rfl h⟩⟩
 | succ k ih =>
  intro hk e n he h1 h2
  refine Tri.mono (x74 (R:=RI V) ?_) fun _ _ h=>h
  unfold w74
  refine⟨fun _=>.mk ⟨by omega,by omega⟩,fun h3=>⟨fun _=>.mk ⟨by omega,by omega⟩,fun _=>⟨fun _=>.mk ⟨by omega,by omega⟩,fun _=>⟨⟨by omega,by omega⟩,?_⟩⟩⟩⟩
  have h3:¬n<=0:=h3
  refine qIu (mk:=.int .i64) (b0:=n-1) qFw e.k.length (fun i a V1=>V=V1/\-1<=a/\a<=2000) ⟨rfl,by omega,by omega⟩ ?_
  rintro i a V1 J hi ⟨rfl,ha1,ha2⟩ hJ
  refine qEC (fun _=>.mk ⟨ha1,ha2⟩) (fun hlt hn=>?_)
  obtain⟨x,hxm,hx,-,hil,hp,hz,hrow⟩:=he.rows.get hlt
  refine⟨hp,hz,hlt,_,_,_,_,hrow,⟨by omega,by omega⟩,?_⟩
  rw[show ((k+1:Nat):Int)-1=(k:Int) by omega]
  refine Tri.mono (ih (by omega) x a (he.kids x hxm) ha1 ha2) ?_
  rintro _ _ ⟨rfl,r,rfl,h4⟩
  exact⟨_,rfl,he.rows.succ hlt,hJ hil _ _ ⟨rfl,h4⟩⟩
theorem leftAllC:∀(k:Nat),k<=65->∀(s:Sl) (xs:List S) (n:Int),qAd V s 5 (xs.map S.row)->(∀x∈xs,S.Ok V x)->-1<=n->n<=2000->Tri Tryz.prog 73 #[s.v,.int .i64 k,.int .i64 n] V (RI V):=by
 intro k
 induction k with
 | zero =>
  intro _ s xs n hr ho h1 h2
  refine Tri.mono (x73 (R:=RI V) ?_) fun _ _ h=>h
  unfold w73
  exact⟨fun _=>.mk ⟨by omega,by omega⟩,fun h=>absurd rfl h⟩
 | succ k ih =>
  intro hk s xs n hr ho h1 h2
  refine Tri.mono (x73 (R:=RI V) ?_) fun _ _ h=>h
  unfold w73
  refine⟨fun _=>.mk ⟨by omega,by omega⟩,fun _=>?_⟩
  refine qGW (mk:=.int .i64) (mc:=.int .i64) 0 n qFw xs.length (fun i a V1=>V=V1/\-1<=a/\a<=2000) ⟨rfl,h1,h2⟩ ?_
  rintro i b a V1 J hi ⟨rfl,ha1,ha2⟩ hJ
  refine qEC (fun _=>.mk ⟨ha1,ha2⟩) (fun hlt hn=>?_)
  have hn:0<=a:=hn
  obtain⟨x,hxm,hx,-,hil,hp,hz,hrow⟩:=hr.get hlt
  have hxo:=ho x hxm
  cases x with
  | mk op sn el es ll ls xl xs' =>
  cases hxo with
  | mk he hes hl hls hxr hxs hop =>
  have hq:=qAe (n:=i*5) hp
  have hsucc:=hr.succ hlt
  refine⟨⟨by omega,by omega⟩,hp,hz,hlt,hq,_,_,_,_,_,hrow,fun _=>.mk ⟨by omega,by omega⟩,fun _=>?_⟩
  refine qIu (mk:=.int .i64) (b0:=a-1) qFw es.length (fun j c V2=>V=V2/\-1<=c/\c<=2000) ⟨rfl,by omega,by omega⟩ ?_
  rintro j c V2 J1 hj ⟨rfl,hc1,hc2⟩ hJ1
  have ek:((k+1:Nat):Int)-1=(k:Int):=by omega
  refine⟨hp,hz,hlt,hq,_,_,_,_,_,hrow,qEC (fun _=>⟨fun hc=>⟨hp,hz,hlt,hq,_,_,_,_,_,hrow,⟨by omega,by omega⟩,?_⟩,fun hc=>⟨fun h=>absurd h hc,fun _=>⟨hsucc,hJ hil _ _ _ ⟨rfl,hc1,hc2⟩⟩⟩⟩) (fun hlt2 hc=>?_)⟩
  ·rw[ek]
   refine Tri.mono (ih (by omega) ll ls c hl hls hc1 hc2) ?_
   rintro _ _ ⟨rfl,r,rfl,h3⟩
   refine⟨_,rfl,fun hr0=>⟨hp,hz,hlt,hq,_,_,_,_,_,hrow,⟨by omega,by omega⟩,Tri.mono (ih (by omega) xl xs' r hxr hxs h3.1 h3.2) ?_⟩,fun _=>⟨hsucc,hJ hil _ _ _ ⟨rfl,h3⟩⟩⟩
   rintro _ _ ⟨rfl,r2,rfl,h4⟩
   exact⟨_,rfl,hsucc,hJ hil _ _ _ ⟨rfl,h4⟩⟩
  ·obtain⟨y,hym,hy,-,hjl,hpy,hzy,hrowy⟩:=he.get hlt2
   refine⟨hp,hz,hlt,hq,_,_,_,_,_,hrow,hpy,hzy,hlt2,_,_,_,_,hrowy,Tri.mono (leftC 65 (by omega) y c (hes y hym) hc1 hc2) ?_⟩
   rintro _ _ ⟨rfl,r,rfl,h3⟩
   exact⟨_,rfl,he.succ hlt2,hJ1 hjl _ _ ⟨rfl,h3⟩⟩
theorem wideC{l:Sl}{xs:List Fld}(hr:qAd V l 2 (xs.map Fld.row)):Tri Tryz.prog 72 #[l.v] V (RY V):=by
 refine Tri.mono (x72 (R:=RY V) ?_) fun _ _ h=>h
 unfold w72
 refine⟨fun _=>.mk,fun _=>qAC (mk:=.bool) (b0:=false) xs.length (fun i V1=>V=V1) rfl ?_⟩
 rintro i b V1 J hi rfl hJ
 refine⟨fun hlt=>?_,fun _=>.mk⟩
 obtain⟨x,hxm,hx,-,hil,hp,hz,hrow⟩:=hr.get hlt
 have hq:=qAe (n:=i*2) hp
 exact⟨hp,hz,hlt,hq,_,_,hrow,fun _=>.mk,fun _=>⟨hp,hz,hlt,hq,_,_,hrow,fun _=>.mk,fun _=>⟨hr.succ hlt,hJ hil _ _ rfl⟩⟩⟩
theorem overC(hd:Ds.Ok V d){n:Int}(h1:-1<=n)(h2:n<=2000):Tri Tryz.prog 46 #[d.v,.int .i64 n] V (RY V):=by
 refine Tri.mono (x46 (R:=RY V) ?_) fun _ _ h=>h
 unfold w46
 refine⟨fun _=>.mk,fun _=>⟨fun _=>.mk,fun _=>⟨fun _=>.mk,fun _=>⟨fun _=>.mk,fun _=>⟨fun _=>.mk,fun _=>⟨fun _=>.mk,fun _=>⟨fun _=>.mk,fun _=>Tri.mono (wideC hd.globals) ?_⟩⟩⟩⟩⟩⟩⟩
 rintro _ _ ⟨rfl,b,rfl⟩
 refine⟨_,rfl,fun _=>.mk,fun _=>qAC (mk:=.bool) (b0:=false) d.types.length (fun i V1=>V=V1) rfl ?_⟩
 rintro i b V1 J hi rfl hJ
 refine⟨fun hlt=>?_,fun _=>?_⟩
 ·obtain⟨x,hxm,hx,-,hil,hp,hz,hrow⟩:=hd.types.get hlt
  have hq:=qAe (n:=i*2) hp
  refine⟨hp,hz,hlt,hq,_,_,hrow,fun _=>.mk,fun _=>⟨hp,hz,hlt,hq,_,_,hrow,Tri.mono (wideC (hd.typesOk x hxm).fields) ?_⟩⟩
  rintro _ _ ⟨rfl,b,rfl⟩
  exact⟨_,rfl,fun _=>.mk,fun _=>⟨hd.types.succ hlt,hJ hil _ _ rfl⟩⟩
 refine qGW (mk:=.bool) (mc:=.int .i64) b n qFw d.procs.length (fun i a V1=>V=V1/\-1<=a/\a<=2000) ⟨rfl,h1,h2⟩ ?_
 rintro i b a V1 J hi ⟨rfl,ha1,ha2⟩ hJ
 refine qEC (fun _=>?_) (fun hlt hn=>?_)
 rotate_left
 ·obtain⟨x,hxm,hx,-,hil,hp,hz,hrow⟩:=hd.procs.get hlt
  have ho:=hd.procsOk x hxm
  refine⟨hp,hz,hlt,_,_,_,_,_,hrow,fun _=>.mk,fun _=>⟨fun _=>.mk,fun _=>Tri.mono (wideC ho.params) ?_⟩⟩
  rintro _ _ ⟨rfl,b1,rfl⟩
  refine⟨_,rfl,fun _=>.mk,fun _=>Tri.mono (wideC ho.locals) ?_⟩
  rintro _ _ ⟨rfl,b2,rfl⟩
  refine⟨_,rfl,fun _=>.mk,fun _=>Tri.mono (leftAllC 65 (by omega) x.bs x.body a ho.body ho.stmts ha1 ha2) ?_⟩
  rintro _ _ ⟨rfl,r,rfl,h3⟩
  exact⟨_,rfl,hd.procs.succ hlt,hJ hil _ _ _ ⟨rfl,h3⟩⟩
 refine qGW (mk:=.bool) (mc:=.int .i64) b a qFw d.measures.length (fun i a V1=>V=V1/\-1<=a/\a<=2000) ⟨rfl,ha1,ha2⟩ ?_
 clear hJ
 rintro i b a V1 J hi ⟨rfl,ha1,ha2⟩ hJ
 refine qEC (fun _=>?_) (fun hlt hn=>?_)
 rotate_left
 ·obtain⟨x,hxm,hx,-,hil,hp,hz,hrow⟩:=hd.measures.get hlt
  have hq:=qAe (n:=i*7) hp
  refine⟨hp,hz,hlt,hq,_,_,_,_,_,_,_,hrow,fun _=>.mk,fun _=>⟨hp,hz,hlt,hq,_,_,_,_,_,_,_,hrow,fun _=>.mk,fun _=>⟨hp,hz,hlt,hq,_,_,_,_,_,_,_,hrow,Tri.mono (leftC 65 (by omega) x.x a (hd.measuresOk x hxm).x ha1 ha2) ?_⟩⟩⟩
  rintro _ _ ⟨rfl,r,rfl,h3⟩
  exact⟨_,rfl,hd.measures.succ hlt,hJ hil _ _ _ ⟨rfl,h3⟩⟩
 refine qGW (mk:=.bool) (mc:=.int .i64) b a qFw d.invs.length (fun i a V1=>V=V1/\-1<=a/\a<=2000) ⟨rfl,ha1,ha2⟩ ?_
 clear hJ
 rintro i b a V1 J hi ⟨rfl,ha1,ha2⟩ hJ
 refine qEC (fun _=>?_) (fun hlt hn=>?_)
 rotate_left
 ·obtain⟨x,hxm,hx,-,hil,hp,hz,hrow⟩:=hd.invs.get hlt
  have hq:=qAe (n:=i*6) hp
  refine⟨hp,hz,hlt,hq,_,_,_,_,_,_,hrow,fun _=>.mk,fun _=>⟨hp,hz,hlt,hq,_,_,_,_,_,_,hrow,fun _=>.mk,fun _=>⟨hp,hz,hlt,hq,_,_,_,_,_,_,hrow,Tri.mono (leftC 65 (by omega) x.x a (hd.invsOk x hxm) ha1 ha2) ?_⟩⟩⟩
  rintro _ _ ⟨rfl,r,rfl,h3⟩
  exact⟨_,rfl,hd.invs.succ hlt,hJ hil _ _ _ ⟨rfl,h3⟩⟩
 refine qGW (mk:=.bool) (mc:=.int .i64) b a qFw d.pots.length (fun i a V1=>V=V1/\-1<=a/\a<=2000) ⟨rfl,ha1,ha2⟩ ?_
 clear hJ
 rintro i b a V1 J hi ⟨rfl,ha1,ha2⟩ hJ
 refine qEC (fun _=>?_) (fun hlt hn=>?_)
 rotate_left
 ·obtain⟨x,hxm,hx,-,hil,hp,hz,hrow⟩:=hd.pots.get hlt
  have hq:=qAe (n:=i*5) hp
  refine⟨hp,hz,hlt,hq,_,_,_,_,_,hrow,fun _=>.mk,fun _=>⟨hp,hz,hlt,hq,_,_,_,_,_,hrow,Tri.mono (leftC 65 (by omega) x.x a (hd.potsOk x hxm) ha1 ha2) ?_⟩⟩
  rintro _ _ ⟨rfl,r,rfl,h3⟩
  exact⟨_,rfl,hd.pots.succ hlt,hJ hil _ _ _ ⟨rfl,h3⟩⟩
 refine qGW (mk:=.bool) (mc:=.int .i64) b a qFw d.bounds.length (fun i a V1=>V=V1/\-1<=a/\a<=2000) ⟨rfl,ha1,ha2⟩ ?_
 clear hJ
 rintro i b a V1 J hi ⟨rfl,ha1,ha2⟩ hJ
 refine qEC (fun _=>.mk) (fun hlt hn=>?_)
 obtain⟨x,hxm,hx,-,hil,hp,hz,hrow⟩:=hd.bounds.get hlt
 have hq:=qAe (n:=i*5) hp
 refine⟨hp,hz,hlt,hq,_,_,_,_,_,hrow,fun _=>.mk,fun _=>⟨hp,hz,hlt,hq,_,_,_,_,_,hrow,Tri.mono (leftC 65 (by omega) x.x a (hd.boundsOk x hxm) ha1 ha2) ?_⟩⟩
 rintro _ _ ⟨rfl,r,rfl,h3⟩
 exact⟨_,rfl,hd.bounds.succ hlt,hJ hil _ _ _ ⟨rfl,h3⟩⟩
theorem greatC(hd:Ds.Ok V d):Tri Tryz.prog 25 #[d.v] V (RY V):=by
 refine Tri.mono (x25 (R:=RY V) ?_) fun _ _ h=>h
 unfold w25
 refine Tri.mono (overC hd (n:=2000) (by omega) (by omega)) ?_
 rintro _ _ ⟨rfl,b,rfl⟩
 exact⟨_,rfl,.mk⟩
theorem manyC(hm:Mm.Ok V m):Tri Tryz.prog 26 #[m.v] V (RY V):=by
 refine Tri.mono (x26 (R:=RY V) ?_) fun _ _ h=>h
 unfold w26
 refine⟨fun _=>.mk,fun _=>⟨fun _=>.mk,fun _=>qAC (mk:=.bool) (b0:=false) m.nodes.length (fun i V1=>V=V1) rfl ?_⟩⟩
 rintro i b V1 J hi rfl hJ
 refine⟨fun hlt=>?_,fun _=>.mk⟩
 obtain⟨x,hxm,hx,-,hil,hp,hz,hrow⟩:=hm.nodes.get hlt
 exact⟨hp,hz,hlt,qAe hp,_,_,hrow,fun _=>.mk,fun _=>⟨hm.nodes.succ hlt,hJ hil _ _ rfl⟩⟩
theorem c31{s t:Sl}{xs ys:List Int}(h:qAd V s 1 (xs.map qAn))(k:qAd V t 1 (ys.map qAn)):PP 31 [.slice s.p s.n s.c,.slice t.p t.n t.c] V (.bool (decide (xs=ys))):=by
 refine x31 ?_
 unfold w31
 have n1:=h.n_eq
 have n2:=k.n_eq
 refine⟨fun hl=>?_,fun hl=>?_⟩
 ·refine qAC (mk:=.bool) (b0:=false) xs.length (fun i V1=>V=V1/\xs.take i=ys.take i) ⟨rfl,rfl⟩ ?_
  rintro i b V1 J hi ⟨rfl,he⟩ hJ
  refine⟨fun hlt=>?_,fun hge=>?_⟩
  ·obtain⟨x,hxm,hx,-,hil,hp,hz,hrow⟩:=h.get hlt
   obtain⟨y,hym,hy,-,hjl,hp2,hz2,hrow2⟩:=k.get (i:=i) (by omega)
   refine⟨hp,hz,hlt,_,hrow,hp2,hz2,by omega,_,hrow2,fun hE=>⟨h.succ hlt,hJ hil _ _ ⟨rfl,qGn he hx hy hE⟩⟩,fun hE=>?_⟩
   rw[decide_eq_false fun e=>?_]
   ·exact⟨rfl,rfl⟩
   ·rw[e,hy]at hx;cases hx;exact hE rfl
  ·have hd:=(h.done hge).2
   rw[List.take_of_length_le hd,List.take_of_length_le (by omega)]at he
   rw[decide_eq_true he];exact⟨rfl,rfl⟩
 ·rw[decide_eq_false fun e=>hl (by rw[n1,n2,e])];exact⟨rfl,rfl⟩
theorem c18{s t:Sl}{xs ys:List (Int×Int×Int)}(h:qAd V s 3 (xs.map qEF))(k:qAd V t 3 (ys.map qEF)):PP 18 [.slice s.p s.n s.c,.slice t.p t.n t.c] V (.bool (decide (xs=ys))):=by
 refine x18 ?_
 unfold w18
 have n1:=h.n_eq
 have n2:=k.n_eq
 refine⟨fun hl=>?_,fun hl=>?_⟩
 ·refine qAC (mk:=.bool) (b0:=false) xs.length (fun i V1=>V=V1/\xs.take i=ys.take i) ⟨rfl,rfl⟩ ?_
  rintro i b V1 J hi ⟨rfl,he⟩ hJ
  refine⟨fun hlt=>?_,fun hge=>?_⟩
  ·obtain⟨x,hxm,hx,-,hil,hp,hz,hrow⟩:=h.get hlt
   obtain⟨y,hym,hy,-,hjl,hp2,hz2,hrow2⟩:=k.get (i:=i) (by omega)
   refine⟨hp,hz,hlt,_,_,_,hrow,hp2,hz2,by omega,_,_,_,hrow2,fun hE=>⟨h.succ hlt,hJ hil _ _ ⟨rfl,qGn he hx hy (Prod.ext hE.1 (Prod.ext hE.2.1 hE.2.2))⟩⟩,fun hE=>?_⟩
   rw[decide_eq_false fun e=>?_]
   ·exact⟨rfl,rfl⟩
   ·rw[e,hy]at hx;cases hx;exact hE ⟨rfl,rfl,rfl⟩
  ·have hd:=(h.done hge).2
   rw[List.take_of_length_le hd,List.take_of_length_le (by omega)]at he
   rw[decide_eq_true he];exact⟨rfl,rfl⟩
 ·rw[decide_eq_false fun e=>hl (by rw[n1,n2,e])];exact⟨rfl,rfl⟩
theorem plain_ext{a b:Mm}(hg:a.globals=b.globals)(hn:(a.nodes.map fun n=>(n.ty,n.f))=b.nodes.map fun n=>(n.ty,n.f)):a.plain=b.plain:=by unfold Mm.plain;rw[hg,hn]
instance:DecidableEq (List Int×List (Int×List Int)):=inferInstance
theorem c13{a b:Mm}(ha:Mm.Ok V a)(hb:Mm.Ok V b):PP 13 [a.v,b.v] V (.bool (decide (a.plain=b.plain))):=by
 refine x13 ?_
 unfold w13
 have n1:=ha.nodes.n_eq
 have n2:=hb.nodes.n_eq
 have no:a.plain≠b.plain->(Ending.returned (.bool false)=.returned (.bool (decide (a.plain=b.plain)))/\V=V):=fun h=>⟨by rw[decide_eq_false h],rfl⟩
 refine(c31 ha.globals hb.globals).call ⟨_,rfl,fun hg=>?_,fun hg=>no fun e=>hg (decide_eq_true (Prod.mk.inj e).1)⟩
 have hg:=of_decide_eq_true hg
 refine⟨fun hl=>?_,fun hl=>no fun e=>hl (by rw[n1,n2,qDG e])⟩
 refine qAC (mk:=.bool) (b0:=false) a.nodes.length (fun i V1=>V=V1/\(a.nodes.map fun n=>(n.ty,n.f)).take i=(b.nodes.map fun n=>(n.ty,n.f)).take i) ⟨rfl,rfl⟩ ?_
 rintro i b0 V1 J hi ⟨rfl,he⟩ hJ
 refine⟨fun hlt=>?_,fun hge=>?_⟩
 ·obtain⟨x,hxm,hx,-,hil,hp,hz,hrow⟩:=ha.nodes.get hlt
  obtain⟨y,hym,hy,-,hjl,hp2,hz2,hrow2⟩:=hb.nodes.get (i:=i) (by omega)
  have l2:(i:Int)<(b.ns.n:Int):=by omega
  have hx':(a.nodes.map fun n=>(n.ty,n.f))[i]?=some (x.ty,x.f):=by rw[List.getElem?_map,hx];rfl
  have hy':(b.nodes.map fun n=>(n.ty,n.f))[i]?=some (y.ty,y.f):=by rw[List.getElem?_map,hy];rfl
  have bad:(x.ty,x.f)≠(y.ty,y.f)->a.plain≠b.plain:=fun h e=>h (by rw[show (a.nodes.map fun n=>(n.ty,n.f))=b.nodes.map fun n=>(n.ty,n.f) from (Prod.mk.inj e).2,hy']at hx';exact(Option.some.inj hx').symm)
  refine⟨hp,hz,hlt,qAe hp,_,_,hrow,hp2,hz2,l2,qAe hp2,_,_,hrow2,fun ht=>⟨hp,hz,hlt,qAe hp,_,_,hrow,hp2,hz2,l2,qAe hp2,_,_,hrow2,(c31 (ha.nodesOk x hxm).rows (hb.nodesOk y hym).rows).call ⟨_,rfl,fun hf=>⟨ha.nodes.succ hlt,hJ hil _ _ ⟨rfl,qGn he hx' hy' (Prod.ext ht (of_decide_eq_true hf))⟩⟩,fun hf=>no (bad fun e=>hf (decide_eq_true (Prod.mk.inj e).2))⟩⟩,fun ht=>no (bad fun e=>ht (Prod.mk.inj e).1)⟩
 ·have hd:=(ha.nodes.done hge).2
  rw[List.take_of_length_le (by rw[List.length_map];exact hd),List.take_of_length_le (by rw[List.length_map];omega)]at he
  exact⟨by rw[decide_eq_true (plain_ext hg he)],rfl⟩
structure Cl1 where
 name:ByteArray
 args:Sl
def Cl1.row(c:Cl1):List Value:=[.string c.name,c.args.v]
theorem smallIdx{s:Sl}{cs:List Cl1}(h:qAd V s 2 (cs.map Cl1.row)):Tri Tryz.prog 47 #[.slice s.p s.n s.c,.func (.func 28) #[] #[]] V fun e V'=>V=V'/\∃r:Int,e=.returned (.int .i64 r):=by
 refine x47 (a:=s) (b:=.func (.func 28) #[] #[]) ?_
 unfold w47
 refine qAC (mk:=.int .i64) (b0:=(0:Int)) cs.length (fun i V1=>V=V1) rfl ?_
 rintro i b V1 J hi rfl hJ
 refine⟨fun hlt=>?_,fun hge=>⟨rfl,_,rfl⟩⟩
 obtain⟨x,hxm,hx,-,hil,hp,hz,hrow⟩:=h.get hlt
 refine⟨hp,hz,hlt,_,_,hrow,_,_,_,rfl,Tryz.call28,?_⟩
 refine Tri.mono (x28 (R:=fun e V'=>V=V'/\∃b:Bool,e=.returned (.bool b)) ?_) ?_
 ·unfold w28
  exact⟨fun _=>⟨rfl,_,rfl⟩,fun _=>⟨rfl,_,rfl⟩⟩
 ·rintro _ _ ⟨rfl,b,rfl⟩
  exact⟨b,rfl,fun _=>⟨rfl,_,rfl⟩,fun _=>⟨h.succ hlt,hJ hil _ _ rfl⟩⟩
end
def awN:ByteArray:=qAm [110]
def awK:ByteArray:=qAm [107]
def awI:ByteArray:=qAm [105,110,116]
def awE(l:Sl):E:=.mk 9 0 (qAm []) l [.mk 4 0 awN qAK [],.mk 4 0 awK qAK []]
def awS1(l1 l2:Sl):S:=.mk 1 awN l2 [awE l1] qAK [] qAK []
def awS2(l3:Sl):S:=.mk 5 (qAm []) l3 [.mk 4 0 awN qAK []] qAK [] qAK []
def awP(ps bs l1 l2 l3:Sl):Pr:=⟨qAm [97,100,100],ps,[⟨awK,awI⟩],awI,qAK,[],bs,[awS1 l1 l2,awS2 l3]⟩
def awD(gs pr ps bs l1 l2 l3:Sl):Ds:=⟨qAm [115,117,109],qAK,[],gs,[⟨awN,awI⟩],pr,[awP ps bs l1 l2 l3],qAK,[],qAK,[],qAK,[],qAK,[]⟩
section
variable{gs pr ps bs l1 l2 l3 g:Sl}
theorem aw_valid:qAT (awD gs pr ps bs l1 l2 l3)=true:=by kernel_rfl
theorem aw_chk:qJR (awD gs pr ps bs l1 l2 l3)=none:=by kernel_rfl
theorem aw_mem:qAN (awD gs pr ps bs l1 l2 l3) ⟨g,[3],qAK,[]⟩=true:=by kernel_rfl
theorem aw_start:qCF (awD gs pr ps bs l1 l2 l3) ⟨g,[3],qAK,[]⟩ (qAm [97,100,100]) [4]=0:=by kernel_rfl
theorem aw_idx:qEs (awD gs pr ps bs l1 l2 l3) (qAm [97,100,100])=0:=by kernel_rfl
theorem aw_run:(fun r:Rx Int=>(outC r,outV r,r.st.cm,qAw r.st.lg,r.st.g)) (qFa (awD gs pr ps bs l1 l2 l3) 10 0 [4] (qBQ ⟨g,[3],qAK,[]⟩))=(0,7,0,0,[7]):=by kernel_rfl
end
theorem start_ok{d:Ds}{m:Mm}{nm:ByteArray}{args:List Int}{F:Int}(G:qAr d m)(h:0<=F/\F<=1048576):qBs d m nm args F=qCF d m nm args:=by
 have:qAM d m F=0:=by unfold qAM;rw[if_pos G,if_neg (by omega),if_neg (by omega)]
 unfold qBs;rw[if_pos this]
section
variable{V:Mem}
def qDo(b n:Nat):Sl:=⟨some ⟨b,0,none⟩,n,n⟩
theorem nameOk{V:Mem}{s:ByteArray}:E.Ok V (.mk 4 0 s qAK []):=.mk qAd.nil (by simp) (by decide) (by decide)
theorem awakeRun[Tab V]{b0 b1 b2 b3 b4 b5 b6 b7 b8:Nat}{U:Mem}(s:V.sub U)
  (c0:U b0=some (.cells #[.string awN,.string awI] 81 (0,0))) (c1:U b1=some (.cells #[.string awK,.string awI] 81 (0,0)))
  (c2:U b2=some (.cells #[.int .i64 4,.int .i64 0,.string awN,.slice none 0 0,.int .i64 4,.int .i64 0,.string awK,.slice none 0 0] 87 (0,0)))
  (c3:U b3=some (.cells #[.int .i64 9,.int .i64 0,.string (qAm []),.slice (sa b2) 2 2] 87 (0,0)))
  (c4:U b4=some (.cells #[.int .i64 4,.int .i64 0,.string awN,.slice none 0 0] 87 (0,0)))
  (c5:U b5=some (.cells #[.int .i64 1,.string awN,.slice (sa b3) 1 1,.slice none 0 0,.slice none 0 0,.int .i64 5,.string (qAm []),.slice (sa b4) 1 1,.slice none 0 0,.slice none 0 0] 89 (0,0)))
  (c6:U b6=some (.cells #[.string (qAm [97,100,100]),.slice (sa b1) 1 1,.string awI,.slice none 0 0,.slice (sa b5) 2 2] 79 (0,0)))
  (c7:U b7=some (.cells #[.int .i64 3] 3 (0,0))) (c8:U b8=some (.cells #[.int .i64 4] 3 (0,0))) :
  Tri Tryz.prog 11 #[(awD (qDo b0 1) (qDo b6 1) (qDo b1 1) (qDo b5 2) (qDo b2 2) (qDo b3 1) (qDo b4 1)).v,(⟨qDo b7 1,[3],qAK,[]⟩:Mm).v,.agg #[.string (qAm [97,100,100]),(qDo b8 1).v],.int .i64 (10:Nat)] U fun e V' =>
   ∃gs ns:Sl,e=.returned (.tuple #[.agg (qDS 0 7 0 0).toArray,.agg #[gs.v,ns.v],.int .i64 0])/\qAd V' gs 1 (([7]:List Int).map qAn)/\V.sub V':=by
 haveI:Tab U:=Tab.sub (V:=V) inferInstance s
 have hE:E.Ok U (awE (qDo b2 2)):=.mk (qAd.cells (row:=E.row) (xs:=[.mk 4 0 awN qAK [],.mk 4 0 awK qAK []]) c2 rfl (fun _=>rfl) rfl (by simp)) (fun x hx=>by
  simp only[List.mem_cons,List.not_mem_nil,or_false]at hx
  rcases hx with rfl|rfl <;> exact nameOk) (by decide) (by decide)
 have hS1:S.Ok U (awS1 (qDo b2 2) (qDo b3 1)):=.mk (qAd.cells (row:=E.row) (xs:=[awE (qDo b2 2)]) c3 rfl (fun _=>rfl) rfl (by simp)) (fun x hx=>by
  simp only[List.mem_cons,List.not_mem_nil,or_false]at hx
  subst hx;exact hE) qAd.nil (by simp) qAd.nil (by simp) (by decide)
 have hS2:S.Ok U (awS2 (qDo b4 1)):=.mk (qAd.cells (row:=E.row) (xs:=[.mk 4 0 awN qAK []]) c4 rfl (fun _=>rfl) rfl (by simp)) (fun x hx=>by
  simp only[List.mem_cons,List.not_mem_nil,or_false]at hx
  subst hx;exact nameOk) qAd.nil (by simp) qAd.nil (by simp) (by decide)
 have hP:Pr.Ok U (awP (qDo b1 1) (qDo b5 2) (qDo b2 2) (qDo b3 1) (qDo b4 1)):=⟨qAd.cells (row:=Fld.row) (xs:=[⟨awK,awI⟩]) c1 rfl (fun _=>rfl) rfl (by simp),qAd.nil,qAd.cells (row:=S.row) (xs:=[awS1 (qDo b2 2) (qDo b3 1),awS2 (qDo b4 1)]) c5 rfl (fun x=>by rw[S.row_eq];rfl) rfl (by simp),fun x hx=>by
  simp only[awP,List.mem_cons,List.not_mem_nil,or_false]at hx
  rcases hx with rfl|rfl
  ·exact hS1
  ·exact hS2⟩
 have hd:Ds.Ok U (awD (qDo b0 1) (qDo b6 1) (qDo b1 1) (qDo b5 2) (qDo b2 2) (qDo b3 1) (qDo b4 1)):=⟨qAd.nil,by simp[awD],qAd.cells (row:=Fld.row) (xs:=[⟨awN,awI⟩]) c0 rfl (fun _=>rfl) rfl (by simp),qAd.cells (row:=Pr.row) (xs:=[awP (qDo b1 1) (qDo b5 2) (qDo b2 2) (qDo b3 1) (qDo b4 1)]) c6 rfl (fun _=>rfl) rfl (by simp),fun x hx=>by
  simp only[awD,List.mem_cons,List.not_mem_nil,or_false]at hx
  subst hx;exact hP,qAd.nil,by simp[awD],qAd.nil,by simp[awD],qAd.nil,by simp[awD],qAd.nil,by simp[awD]⟩
 have hm:Mm.Ok U ⟨qDo b7 1,[3],qAK,[]⟩:=⟨qAd.cells (row:=qAn) (xs:=[3]) c7 rfl (fun _=>rfl) rfl (by simp),fun x hx=>by
  simp only[List.mem_cons,List.not_mem_nil,or_false]at hx
  subst hx;unfold inI;omega,qAd.nil,by simp⟩
 refine Tri.mono (c11 (F:=10) (nm:=qAm [97,100,100]) (args:=[4]) (l:=qDo b8 1) hd hm (qAd.cells (row:=qAn) (xs:=[4]) c8 rfl (fun _=>rfl) rfl (by simp)) (by decide)) ?_
 rintro e V' (⟨hc,-⟩|⟨-,r,gs,ns,ls,nd,hr,L,rfl⟩)
 ·exfalso
  apply hc
  rw[start_ok ⟨aw_valid,aw_chk,aw_mem⟩ ⟨by decide,by decide⟩]
  exact aw_start
 ·rw[aw_idx]at hr
  have h:=aw_run (gs:=qDo b0 1) (pr:=qDo b6 1) (ps:=qDo b1 1) (bs:=qDo b5 2) (l1:=qDo b2 2) (l2:=qDo b3 1) (l3:=qDo b4 1) (g:=qDo b7 1)
  rw[<- hr]at h
  simp only[Prod.mk.injEq]at h
  obtain⟨h1,h2,h3,h4,h5⟩:=h
  refine⟨gs,ns,by rw[h1,h2,h3,h4];rfl,?_,s.trans L.sub⟩
  have:=L.glob.rows (row:=qAn) (fun _=>rfl) (by decide)
  rw[h5]at this
  exact this
theorem c9[Tab V]:PP 9 [] V (.bool true):=by
 refine Pur.mk (x9 ?_)
 unfold w9
 intro b0 h0 b1 h1 b2 h2 b3 h3 b4 h4 b5 h5 b6 h6 b7 h7 b8 h8
 have s0:=fun o=>Mem.sub_new h0 o
 have s1:=fun o=>Mem.sub_new h1 o
 have s2:=fun o=>Mem.sub_new h2 o
 have s3:=fun o=>Mem.sub_new h3 o
 have s4:=fun o=>Mem.sub_new h4 o
 have s5:=fun o=>Mem.sub_new h5 o
 have s6:=fun o=>Mem.sub_new h6 o
 have s7:=fun o=>Mem.sub_new h7 o
 have s8:=fun o=>Mem.sub_new h8 o
 refine Tri.mono (awakeRun (V:=V) (b0:=b0) (b1:=b1) (b2:=b2) (b3:=b3) (b4:=b4) (b5:=b5) (b6:=b6) (b7:=b7) (b8:=b8)
  ((s0 _).trans ((s1 _).trans ((s2 _).trans ((s3 _).trans ((s4 _).trans ((s5 _).trans ((s6 _).trans ((s7 _).trans (s8 _)))))))))
  (((s1 _).trans ((s2 _).trans ((s3 _).trans ((s4 _).trans ((s5 _).trans ((s6 _).trans ((s7 _).trans (s8 _)))))))) _ _ mss)
  (((s2 _).trans ((s3 _).trans ((s4 _).trans ((s5 _).trans ((s6 _).trans ((s7 _).trans (s8 _))))))) _ _ mss)
  (((s3 _).trans ((s4 _).trans ((s5 _).trans ((s6 _).trans ((s7 _).trans (s8 _)))))) _ _ mss)
  (((s4 _).trans ((s5 _).trans ((s6 _).trans ((s7 _).trans (s8 _))))) _ _ mss)
  (((s5 _).trans ((s6 _).trans ((s7 _).trans (s8 _)))) _ _ mss)
  (((s6 _).trans ((s7 _).trans (s8 _))) _ _ mss)
  (((s7 _).trans (s8 _)) _ _ mss)
  ((s8 _) _ _ mss) mss) ?_
 rintro _ V' ⟨gs,ns,rfl,hr,hs⟩
 have hn:=hr.n_eq
 obtain⟨x,-,hx,-,-,hp,hz,hrow⟩:=hr.get (i:=0) (by rw[hn];decide)
 cases hx
 refine⟨_,_,_,_,_,_,_,_,rfl,fun _=>⟨fun _=>⟨fun _=>⟨hp,by decide,by rw[hn];decide,_,hrow,?_⟩,fun h=>absurd (by rw[hn];rfl) h⟩,fun h=>absurd ⟨rfl,rfl,rfl,rfl,rfl⟩ h⟩,fun h=>absurd rfl h⟩
 exact⟨rfl,hs⟩
end
section
variable{V V0:Mem}{d:Ds}{F:Nat}{m:Mm}{nm:ByteArray}{args:List Int}{l:Sl}
theorem start_zero{F:Int}(h:qBs d m nm args F=0):qAr d m/\qCF d m nm args=0:=by
 unfold qBs at h
 split at h
 ·exact⟨qCT (by assumption),h⟩
 ·rename_i hn;exact absurd h hn
end
section
variable{V V0:Mem}{d:Ds}{F:Nat}{m:Mm}{nm:ByteArray}{args:List Int}{l:Sl}
theorem qDI(hd:Ds.Ok V d){V':Mem}{gs ns ls:Sl}{nd:List Nd}{s:St}(L:Lay V V' gs ns ls nd s)(hg:qAr d s.mm):Mm.Ok V' ⟨gs,s.g,ns,nd⟩/\(⟨gs,s.g,ns,nd⟩:Mm).plain=(s.g,s.ns):=by
 have hp:(⟨gs,s.g,ns,nd⟩:Mm).plain=(s.g,s.ns):=by
  unfold Mm.plain
  rw[<- L.eq]
 obtain⟨p1,p2,p3,p4,p5⟩:=qAp hg.mem
 have vi:∀{t:List Fld} {vs:List Int},qAg d s.mm t vs=true->∀v∈vs,inI v:=fun {t vs} h v hv=>by
  obtain⟨j,hj⟩:=List.mem_iff_getElem?.1 hv
  obtain⟨hl,hk⟩:=qAq.1 h
  have hjl:=(List.getElem?_eq_some_iff.1 hj).1
  have:=hk j _ v (List.getElem?_eq_getElem (by omega)) hj
  unfold qAv at this
  unfold inI
  split at this
  ·have:=of_decide_eq_true this;omega
  ·split at this
   ·have:=of_decide_eq_true this;omega
   ·have:=of_decide_eq_true this
    omega
 refine⟨⟨L.glob.rows (fun _=>rfl) (by decide),vi p4,L.nodes.rows (fun _=>rfl) (by decide),fun n hn=>?_⟩,hp⟩
 have hmem:(⟨n.ty,qAK,n.f⟩:Nd)∈s.mm.nodes:=by
  unfold St.mm
  rw[<- L.eq]
  simp only[List.map_map]
  exact List.mem_map.2 ⟨n,hn,rfl⟩
 refine⟨(L.fld n hn).rows (fun _=>rfl) (by decide),?_,vi (p5 ⟨n.ty,qAK,n.f⟩ hmem)⟩
 have:=of_decide_eq_true (p3 ⟨n.ty,qAK,n.f⟩ hmem)
 have hl:d.types.length<=9223372036854775807:=by
  have:=hd.types.n_eq;have:=hd.types.cap;have:=hd.types.fit;omega
 unfold inI
 simp only at this
 omega
theorem qIm(G:qAr d m)(hc:qCF d m nm args=0):qAr d (qFa d F (qEs d nm) args (qBQ m)).st.mm:=by
 obtain⟨i,q,hi,hq,hval⟩:=qDg hc
 rw[hi]
 exact(play_snd (F:=F) (qEM G.valid G.chk) hq (qGA G) (qAh (qBW (qEH m).symm) hval)).good
end
section
variable{V V0:Mem}{d:Ds}{m:Mm}{nm:ByteArray}{args:List Int}{l:Sl}
def RF(V:Mem)(F:Int)(n:Nat):Ending->Mem->Prop:=fun e V'=>V=V'/\∃b:Bool,e=.returned (.bool b)/\(b=true->(F<=3000∨1048576<F)/\(n<=20∨2000<n))
theorem smallF(hd:Ds.Ok V d)(hm:Mm.Ok V m){s:Sl}{cs:List Cl1}(h:qAd V s 2 (cs.map Cl1.row)){F:Int}:Tri Tryz.prog 10 #[d.v,m.v,.slice s.p s.n s.c,.int .i64 F] V (RF V F cs.length):=by
 have hn:=h.n_eq
 refine Tri.mono (x10 (R:=RF V F cs.length) ?_) fun _ _ h=>h
 unfold w10
 have no:RF V F cs.length (.returned (.bool false)) V:=⟨rfl,false,rfl,fun h=>by cases h⟩
 refine Tri.mono (greatC hd) ?_
 rintro _ _ ⟨rfl,b,rfl⟩
 refine⟨_,rfl,fun _=>no,fun _=>Tri.mono (manyC hm) ?_⟩
 rintro _ _ ⟨rfl,b,rfl⟩
 have fin:(F<=3000∨1048576<F)/\(cs.length<=20∨2000<cs.length)->Tri Tryz.prog 27 #[.slice s.p s.n s.c,.func (.func 28) #[] #[]] V fun e V3=>∃v14,e=rV (uB v14)/\RF V F cs.length (rV (uB (!v14))) V3:=fun hF=>by
  refine x27 (a:=s) (b:=.func (.func 28) #[] #[]) ?_
  unfold w27
  refine Tri.mono (smallIdx h) ?_
  rintro _ _ ⟨rfl,r,rfl⟩
  exact⟨_,rfl,_,rfl,rfl,_,rfl,fun _=>hF⟩
 refine⟨_,rfl,fun _=>no,fun _=>⟨fun h1=>⟨fun _=>no,fun h2=>⟨fun _=>no,fun _=>⟨fun h3=>⟨fun _=>no,fun h4=>fin ?_⟩,fun h3=>fin ?_⟩⟩⟩,fun h1=>⟨fun _=>no,fun _=>⟨fun h3=>⟨fun _=>no,fun h4=>fin ?_⟩,fun h3=>fin ?_⟩⟩⟩⟩
 ·have h1:20<(s.n:Int):=h1
  have h2:¬(s.n:Int)<=2000:=h2
  have h4:¬F<=1048576:=h4
  exact⟨.inr (by omega),.inr (by omega)⟩
 ·have h2:¬(s.n:Int)<=2000:=h2
  have h3:¬3000<F:=h3
  exact⟨.inl (by omega),.inr (by omega)⟩
 ·have h1:¬20<(s.n:Int):=h1
  have h4:¬F<=1048576:=h4
  exact⟨.inr (by omega),.inl (by omega)⟩
 ·have h1:¬20<(s.n:Int):=h1
  have h3:¬3000<F:=h3
  exact⟨.inl (by omega),.inl (by omega)⟩
def RunE(V:Mem)(k:Int):Ending->Mem->Prop:=fun e V'=>V.sub V'/\e=.returned (.tuple #[.agg (qDS 0 0 0 0).toArray,.agg #[qAK.v,qAK.v],.int .i64 k])
theorem startEv[Tab V](hd:Ds.Ok V d)(hm:Mm.Ok V m){F:Int}(hg:qAM d m F≠0):Tri Tryz.prog 29 #[d.v,m.v,.agg #[.string nm,l.v],.int .i64 F] V fun e V'=>V'=V/\e=.returned (.tuple #[.pointer none,.agg (qDS 0 0 0 0).toArray,.int .i64 (qAM d m F)]):=by
 refine x29 ?_
 unfold w29
 exact(c37 hd hm).call ⟨_,rfl,fun h=>absurd h hg,fun _=>⟨rfl,rfl⟩⟩
theorem runEv[Tab V](hd:Ds.Ok V d)(hm:Mm.Ok V m){F:Int}(hg:qAM d m F≠0):Tri Tryz.prog 11 #[d.v,m.v,.agg #[.string nm,l.v],.int .i64 F] V (RunE V (qAM d m F)):=by
 refine x11 (R:=RunE V (qAM d m F)) ?_
 unfold w11
 refine Tri.mono (startEv hd hm hg) ?_
 rintro _ _ ⟨rfl,rfl⟩
 exact⟨_,_,_,_,_,_,_,rfl,fun h=>absurd h hg,fun _=>⟨Mem.sub.refl _,rfl⟩⟩
theorem traceEv[Tab V](hd:Ds.Ok V d)(hm:Mm.Ok V m){F:Int}(hg:qAM d m F≠0):Tri Tryz.prog 14 #[d.v,m.v,.agg #[.string nm,l.v],.int .i64 F] V fun e V'=>V'=V/\e=.returned (.tuple #[qAK.v,.int .i64 (qAM d m F)]):=by
 refine x14 ?_
 unfold w14
 refine Tri.mono (startEv hd hm hg) ?_
 rintro _ _ ⟨rfl,rfl⟩
 exact⟨_,_,_,_,_,_,_,rfl,fun h=>absurd h hg,fun _=>⟨rfl,rfl⟩⟩
theorem ticksEv[Tab V](hd:Ds.Ok V d)(hm:Mm.Ok V m){F:Int}(hg:qAM d m F≠0):Tri Tryz.prog 16 #[d.v,m.v,.agg #[.string nm,l.v],.int .i64 F] V fun e V'=>V'=V/\e=.returned (.tuple #[.int .i64 0,.int .i64 (qAM d m F)]):=by
 refine x16 ?_
 unfold w16
 refine Tri.mono (startEv hd hm hg) ?_
 rintro _ _ ⟨rfl,rfl⟩
 exact⟨_,_,_,_,_,_,_,rfl,fun h=>absurd h hg,fun _=>⟨rfl,rfl⟩⟩
def qJQ:List Value:=[Go.Sx.vS (qAm []),qAK.v,qAK.v,qAK.v,qAK.v,qAK.v,qAK.v,qAK.v,qAK.v,qAK.v,.int .i64 0,.int .i64 0,.int .i64 0,.int .i64 0,.int .i64 0,.int .i64 0,.int .i64 0,qAK.v]
theorem startXe(hd:Ds.Ok V d)(hm:Mm.Ok V m){F:Int}(hg:qAM d m F≠0):Tri Tryz.prog 17 #[d.v,m.v,.agg #[.string nm,l.v],.int .i64 F] V fun e V'=>V.sub V'/\∃q,V' q=some (.cells qJQ.toArray 66 (0,0))/\e=.returned (.tuple #[pv q,.int .i64 (qAM d m F)]):=by
 refine x17 ?_
 unfold w17
 exact(c34 hd hm).call ⟨_,rfl,fun h=>absurd h hg,fun _=>⟨fun h=>absurd h hg,fun _ b hb=>⟨Mem.sub_new hb _,b,Mem.set_same _ _ _,rfl⟩⟩⟩
theorem runXe(hd:Ds.Ok V d)(hm:Mm.Ok V m){F:Int}(hg:qAM d m F≠0):Tri Tryz.prog 12 #[d.v,m.v,.agg #[.string nm,l.v],.int .i64 F] V (RunE V (qAM d m F)):=by
 refine x12 (R:=RunE V (qAM d m F)) ?_
 unfold w12
 refine Tri.mono (startXe hd hm hg) ?_
 rintro _ V1 ⟨hs,q,hq,rfl⟩
 exact⟨_,_,rfl,fun h=>absurd h hg,fun _=>⟨hs,rfl⟩⟩
theorem nilOk:Mm.Ok V ⟨qAK,[],qAK,[]⟩:=⟨qAd.nil,(fun _ h=>by cases h),qAd.nil,(fun _ h=>by cases h)⟩
theorem qER{F:Int}(h:qAM d m F=0):0<=F/\F<=1048576:=by
 unfold qAM at h
 split at h
 ·split at h
  ·cases h
  ·split at h
   ·cases h
   ·omega
 ·cases h
theorem c3[Tab V](hd:Ds.Ok V d)(hm:Mm.Ok V m)(ha:qAd V l 1 (args.map qAn)){F:Int} :
  PP 3 [d.v,m.v,.agg #[.string nm,l.v],.int .i64 F] V (.bool true):=by
 refine Pur.mk (x3 ?_)
 unfold w3
 refine c9.call ⟨_,rfl,fun _ b hb=>?_,fun h=>absurd rfl h⟩
 have s2:=Mem.sub_new hb (.cells #[.string nm,.slice l.p l.n l.c] 36 (0,0))
 obtain⟨U,hU⟩:∃U,U=V.set b (.cells #[.string nm,.slice l.p l.n l.c] 36 (0,0)):=⟨_,rfl⟩
 show Tri _ _ #[_,_,.slice (sa b) 1 1,_] (V.set b (.cells #[.string nm,.slice l.p l.n l.c] 36 (0,0))) _
 have hcb:U b=some (.cells #[.string nm,.slice l.p l.n l.c] 36 (0,0)):=by rw[hU];exact Mem.set_same _ _ _
 rw[<- hU]at s2 ⊢
 refine Tri.mono (smallF (hd.sub s2) (hm.sub s2) (s:=⟨some ⟨b,0,none⟩,1,1⟩) (cs:=[⟨nm,l⟩]) (qAd.cells (row:=Cl1.row) (xs:=[⟨nm,l⟩]) hcb rfl (fun _=>rfl) rfl (by simp))) ?_
 rintro _ _ ⟨rfl,bb,rfl,hbb⟩
 have fin:∀{V':Mem},V.sub V'->(Ending.returned (.bool true)=.returned (.bool true)/\V.sub V'):=fun h=>⟨rfl,h⟩
 refine⟨_,rfl,fun h=>?_,fun _=>fin s2⟩
 obtain⟨hF,-⟩:=hbb h
 haveI:Tab U:=Tab.sub (V:=V) inferInstance s2
 have hdU:=hd.sub s2
 have hmU:=hm.sub s2
 have haU:=ha.sub s2
 have eq:∀{V5:Mem} {x y:Mm},U.sub V5->Mm.Ok V5 x->Mm.Ok V5 y->x.plain=y.plain->Tri Tryz.prog 13 #[x.v,y.v] V5 fun e V6=>∃v32,e=.returned (.bool v32)/\(Ending.returned (.bool v32)=.returned (.bool true)/\V.sub V6):=fun h5 hx hy hp=>(c13 hx hy).call ⟨_,rfl,by rw[decide_eq_true hp];exact fin (s2.trans h5)⟩
 by_cases hg:qAM d m F=0
 rotate_left
 ·refine Tri.mono (runEv hdU hmU hg) ?_
  rintro _ V4 ⟨s4,rfl⟩
  refine⟨_,_,_,_,_,_,_,_,rfl,Tri.mono (runXe (hdU.sub s4) (hmU.sub s4) hg) ?_⟩
  rintro _ V5 ⟨s5,rfl⟩
  exact⟨_,_,_,_,_,_,_,_,rfl,fun _=>⟨fun _=>eq (x:=⟨qAK,[],qAK,[]⟩) (y:=⟨qAK,[],qAK,[]⟩) (s4.trans s5) nilOk nilOk rfl,fun h=>absurd ⟨rfl,rfl,rfl,rfl,rfl⟩ h⟩,fun h=>absurd rfl h⟩
 have hf:=qER hg
 obtain⟨n,rfl⟩:∃n:Nat,F=(n:Int):=⟨F.toNat,by omega⟩
 refine Tri.mono (c11 (F:=n) hdU hmU haU (by omega)) ?_
 rintro e V4 (⟨hc,s4,rfl⟩|⟨hst,r,gs,ns,ls4,nd4,hr,L,rfl⟩)
 ·refine⟨_,_,_,_,_,_,_,_,rfl,Tri.mono (c12 (F:=n) (hdU.sub s4) (hmU.sub s4) (haU.sub s4) (by omega)) ?_⟩
  rintro e V5 (⟨-,s5,rfl⟩|⟨hc2,-⟩)
  ·exact⟨_,_,_,_,_,_,_,_,rfl,fun _=>⟨fun _=>eq (x:=⟨qAK,[],qAK,[]⟩) (y:=⟨qAK,[],qAK,[]⟩) (s4.trans s5) nilOk nilOk rfl,fun h=>absurd ⟨rfl,rfl,rfl,rfl,rfl⟩ h⟩,fun h=>absurd rfl h⟩
  ·exact absurd hc2 hc
 ·have s4:=L.sub
  refine⟨_,_,_,_,_,_,_,_,rfl,Tri.mono (c12 (F:=n) (hdU.sub s4) (hmU.sub s4) (haU.sub s4) (by omega)) ?_⟩
  rintro e V5 (⟨hc2,-⟩|⟨-,r5,gs5,ns5,ls5,nd5,hr5,L5,rfl⟩)
  ·exact absurd hst hc2
  obtain rfl:r5=r:=by rw[hr5,hr]
  obtain⟨G,hcl⟩:=start_zero hst
  have hgd:=qIm (F:=n) G hcl
  rw[<- hr]at hgd
  obtain⟨hmA,hpA⟩:=qDI hdU L hgd
  obtain⟨hmB,hpB⟩:=qDI (hdU.sub s4) L5 hgd
  exact⟨_,_,_,_,_,_,_,_,rfl,fun _=>⟨fun _=>eq (s4.trans L5.sub) (hmA.sub L5.sub) hmB (hpA.trans hpB.symm),fun h=>absurd ⟨rfl,rfl,rfl,rfl,rfl⟩ h⟩,fun h=>absurd rfl h⟩
theorem c5[Tab V](hd:Ds.Ok V d)(hm:Mm.Ok V m)(ha:qAd V l 1 (args.map qAn)){F:Int} :
  PP 5 [d.v,m.v,.agg #[.string nm,l.v],.int .i64 F] V (.bool true):=by
 refine Pur.mk (x5 ?_)
 unfold w5
 refine c9.call ⟨_,rfl,fun _ b hb=>?_,fun h=>absurd rfl h⟩
 have s2:=Mem.sub_new hb (.cells #[.string nm,.slice l.p l.n l.c] 36 (0,0))
 obtain⟨U,hU⟩:∃U,U=V.set b (.cells #[.string nm,.slice l.p l.n l.c] 36 (0,0)):=⟨_,rfl⟩
 show Tri _ _ #[_,_,.slice (sa b) 1 1,_] (V.set b (.cells #[.string nm,.slice l.p l.n l.c] 36 (0,0))) _
 have hcb:U b=some (.cells #[.string nm,.slice l.p l.n l.c] 36 (0,0)):=by rw[hU];exact Mem.set_same _ _ _
 rw[<- hU]at s2 ⊢
 refine Tri.mono (smallF (hd.sub s2) (hm.sub s2) (s:=⟨some ⟨b,0,none⟩,1,1⟩) (cs:=[⟨nm,l⟩]) (qAd.cells (row:=Cl1.row) (xs:=[⟨nm,l⟩]) hcb rfl (fun _=>rfl) rfl (by simp))) ?_
 rintro _ _ ⟨rfl,bb,rfl,hbb⟩
 have fin:∀{V':Mem},V.sub V'->(Ending.returned (.bool true)=.returned (.bool true)/\V.sub V'):=fun h=>⟨rfl,h⟩
 refine⟨_,rfl,fun h=>?_,fun _=>fin s2⟩
 obtain⟨hF,-⟩:=hbb h
 haveI:Tab U:=Tab.sub (V:=V) inferInstance s2
 have hdU:=hd.sub s2
 have hmU:=hm.sub s2
 have haU:=ha.sub s2
 by_cases hg:qAM d m F=0
 rotate_left
 ·refine Tri.mono (traceEv hdU hmU hg) ?_
  rintro _ _ ⟨rfl,rfl⟩
  refine⟨_,_,rfl,Tri.mono (ticksEv hdU hmU hg) ?_⟩
  rintro _ _ ⟨rfl,rfl⟩
  refine⟨_,_,rfl,Tri.mono (startXe hdU hmU hg) ?_⟩
  rintro _ V6 ⟨s6,q,hq,rfl⟩
  exact⟨_,_,rfl,fun _=>⟨fun _=>⟨nn,nn,qAK,qAc hq 17 1 (by simp[qJQ]),(c18 (s:=qAK) (t:=qAK) (xs:=[]) (ys:=[]) qAd.nil qAd.nil).call ⟨_,rfl,fun _=>⟨nn,nn,_,qAc hq 11 1 (by simp[qJQ]),fin (s2.trans s6)⟩,fun h=>absurd rfl h⟩⟩,fun h=>absurd rfl h⟩,fun h=>absurd rfl h⟩
 have hf:=qER hg
 obtain⟨n,rfl⟩:∃n:Nat,F=(n:Int):=⟨F.toNat,by omega⟩
 refine Tri.mono (c14 (F:=n) hdU hmU haU (by omega)) ?_
 rintro e V4 (⟨hc,s4,rfl⟩|⟨hst,r,ls,hr,o,rfl⟩)
 ·haveI:Tab V4:=Tab.sub (V:=U) inferInstance s4
  refine⟨_,_,rfl,Tri.mono (c16 (F:=n) (hdU.sub s4) (hmU.sub s4) (haU.sub s4) (by omega)) ?_⟩
  rintro e V5 ⟨s5,⟨-,rfl⟩|⟨hc2,-⟩⟩
  rotate_left
  ·exact absurd hc2 hc
  have s45:=s4.trans s5
  refine⟨_,_,rfl,Tri.mono (c17 (F:=n) (hdU.sub s45) (hmU.sub s45) (haU.sub s45) (by omega)) ?_⟩
  rintro e V6 (⟨-,s6,q,hq,rfl⟩|⟨hc2,-⟩)
  rotate_left
  ·exact absurd hc2 hc
  have hq:V6 q=some (.cells qJQ.toArray 66 (0,0)):=hq
  exact⟨_,_,rfl,fun _=>⟨fun _=>⟨nn,nn,qAK,qAc hq 17 1 (by simp[qJQ]),(c18 (s:=qAK) (t:=qAK) (xs:=[]) (ys:=[]) qAd.nil qAd.nil).call ⟨_,rfl,fun _=>⟨nn,nn,_,qAc hq 11 1 (by simp[qJQ]),fin (s2.trans (s45.trans s6))⟩,fun h=>absurd rfl h⟩⟩,fun h=>absurd rfl h⟩,fun h=>absurd rfl h⟩
 ·have s4:=o.sub
  haveI:Tab V4:=Tab.sub (V:=U) inferInstance s4
  refine⟨_,_,rfl,Tri.mono (c16 (F:=n) (hdU.sub s4) (hmU.sub s4) (haU.sub s4) (by omega)) ?_⟩
  rintro e V5 ⟨s5,⟨hc2,-⟩|⟨-,rfl⟩⟩
  ·exact absurd hst hc2
  have s45:=s4.trans s5
  refine⟨_,_,rfl,Tri.mono (c17 (F:=n) (hdU.sub s45) (hmU.sub s45) (haU.sub s45) (by omega)) ?_⟩
  rintro e V6 (⟨hc2,-⟩|⟨-,q,r6,hr6,M,rfl⟩)
  ·exact absurd hst hc2
  obtain rfl:r6=r:=by rw[hr6,hr]
  obtain⟨gs6,ns6,ls6,nd6,hat,L⟩:=M.ex
  have h1:qAd V6 ls 3 (r6.st.lg.map qEF):=(o.rows (fun _=>rfl) (by decide)).sub (s5.trans L.sub)
  have h2:qAd V6 ls6 3 (r6.st.lg.map qEF):=L.log.rows (fun _=>rfl) (by decide)
  refine⟨_,_,rfl,fun _=>⟨fun _=>⟨nn,nn,ls6,qAc hat 17 1 (by simp[qBv]),(c18 h1 h2).call ⟨_,rfl,fun _=>⟨nn,nn,_,qAc hat 11 1 (by simp[qBv]),?_⟩,fun h=>absurd (decide_eq_true rfl) h⟩⟩,fun h=>absurd rfl h⟩,fun h=>absurd rfl h⟩
  rw[<- hr,decide_eq_true rfl]
  exact fin (s2.trans (s45.trans L.sub))
end
def rsS(s:St):St:=⟨s.g,s.ns,0,0,[]⟩
abbrev O4:=Int×Int×Nat×Nat
def oRow(o:O4):List Value:=qDS o.1 o.2.1 o.2.2.1 o.2.2.2
def outO(r:Rx Int):O4:=(outC r,outV r,r.st.cm,qAw r.st.lg)
structure Cl2 where
 name:ByteArray
 sl:Sl
 args:List Int
def Cl2.row(c:Cl2):List Value:=[.string c.name,c.sl.v]
structure Cls.Ok (V:Mem) (l:Sl) (cs:List Cl2):Prop where
 rows:qAd V l 2 (cs.map Cl2.row)
 args:∀c∈cs,qAd V c.sl 1 (c.args.map qAn)
theorem Cls.Ok.sub{V V':Mem}{l:Sl}{cs:List Cl2}(h:Cls.Ok V l cs)(hs:V.sub V'):Cls.Ok V' l cs:=⟨h.rows.sub hs,fun c hc=>(h.args c hc).sub hs⟩
section
variable(d:Ds)(F:Nat)
def qCY(c:Cl2)(s:St):Rx Int:=qFa d F (qEs d c.name) c.args s
def scE:St->List Cl2->Int
 | _,[]=>0
 | s,c::cs=>if qCF d s.mm c.name c.args=0 then scE (rsS (qCY d F c s).st) cs else qCF d s.mm c.name c.args
def scO:St->List Cl2->List O4
 | _,[]=>[]
 | s,c::cs=>outO (qCY d F c s)::scO (rsS (qCY d F c s).st) cs
def scS:St->List Cl2->St
 | s,[]=>s
 | s,c::cs=>scS (rsS (qCY d F c s).st) cs
end
noncomputable def qKd(d:Ds)(F:Int)(m:Mm)(cs:List Cl2):Int:=if qAM d m F=0 then (if 2000<cs.length then 4 else scE d F.toNat (qBQ m) cs) else qAM d m F
theorem loop6{V:Mem}{B:Sl->Sl->Sl->Int->Sl->Int->Mem->(List Value->Mem->Prop)->Prop}{a0 b0 x0:Sl}{y0:Int}{c0:Sl}(len:Nat)(St:Nat->Sl->Sl->Sl->Mem->Prop)(h0:St 0 a0 b0 c0 V)
  (step:∀(i:Nat) (a b x:Sl) (y:Int) (c:Sl) V1 J,i<=len->St i a b c V1->(i<len->∀(a' b' x':Sl) (y':Int) (c':Sl) V2,St (i+1) a' b' c' V2->J [.slice a'.p a'.n a'.c,.slice b'.p b'.n b'.c,.slice x'.p x'.n x'.c,.int .i64 y',.slice c'.p c'.n c'.c,.int .i64 ((i:Int)+1)] V2)->B a b x y c (i:Int) V1 J) :
  ∃(I:Nat->List Value->Mem->Prop) (n0:Nat),I n0 [.slice a0.p a0.n a0.c,.slice b0.p b0.n b0.c,.slice x0.p x0.n x0.c,.int .i64 y0,.slice c0.p c0.n c0.c,.int .i64 0] V/\∀n V1,∀(a b x:Sl) (y:Int) (c:Sl) (v:Int),I n [.slice a.p a.n a.c,.slice b.p b.n b.c,.slice x.p x.n x.c,.int .i64 y,.slice c.p c.n c.c,.int .i64 v] V1->∀J:List Value->Mem->Prop,(∀m ys V'',m<n->I m ys V''->J ys V'')->B a b x y c v V1 J:=by
 refine⟨LI len fun i xs V=>∃(a b x:Sl) (y:Int) (c:Sl),xs=[.slice a.p a.n a.c,.slice b.p b.n b.c,.slice x.p x.n x.c,.int .i64 y,.slice c.p c.n c.c,.int .i64 i]/\St i a b c V,len,LI.start ⟨a0,b0,x0,y0,c0,rfl,h0⟩,?_⟩
 rintro n V1 a b x y c v ⟨i,rfl,hi,a',b',x',y',c',hx,hs⟩ J hJ
 simp only[List.cons.injEq,Value.int.injEq,true_and,and_true]at hx
 obtain⟨h1,h2,h3,rfl,h5,rfl⟩:=hx
 cases qCo _ _ h1
 cases qCo _ _ h2
 cases qCo _ _ h5
 exact step i _ _ _ _ _ V1 J hi hs fun hlt a' b' x' y' c' V2 h2=>LI.next hJ hlt ⟨a',b',x',y',c',rfl,h2⟩
theorem app68:AppP 68 44 5 oRow:=appG Tryz.underlying68 (by kernel_rfl) (by kernel_rfl) (by kernel_rfl) (by kernel_rfl) (by kernel_rfl) (by decide) (by intro _;rfl) fun x u hu=>by simp only[oRow,qDS,List.mem_cons,List.not_mem_nil,or_false]at hu;rcases hu with rfl|rfl|rfl|rfl|rfl <;> rfl
theorem one_out{V:Mem}{b t:Nat}(o:O4)(h:V b=some (.cells (oRow o).toArray t (0,0))):qAd V ⟨some ⟨b,0,none⟩,1,1⟩ 5 ([o].map oRow) :=
 qAd.cells (xs:=[o]) (row:=oRow) h rfl (fun _=>rfl) rfl (by simp)
theorem c21{V:Mem}{s t:Sl}{xs ys:List O4}(h:qAd V s 5 (xs.map oRow))(k:qAd V t 5 (ys.map oRow)):PP 21 [.slice s.p s.n s.c,.slice t.p t.n t.c] V (.bool (decide (xs=ys))):=by
 refine x21 ?_
 unfold w21
 have n1:=h.n_eq
 have n2:=k.n_eq
 refine⟨fun hl=>?_,fun hl=>?_⟩
 ·refine qAC (mk:=.bool) (b0:=false) xs.length (fun i V1=>V=V1/\xs.take i=ys.take i) ⟨rfl,rfl⟩ ?_
  rintro i b V1 J hi ⟨rfl,he⟩ hJ
  refine⟨fun hlt=>?_,fun hge=>?_⟩
  ·obtain⟨x,hxm,hx,-,hil,hp,hz,hrow⟩:=h.get hlt
   obtain⟨y,hym,hy,-,hjl,hp2,hz2,hrow2⟩:=k.get (i:=i) (by omega)
   refine⟨hp,hz,hlt,_,_,_,_,_,hrow,hp2,hz2,by omega,_,_,_,_,_,hrow2,fun hE=>⟨h.succ hlt,hJ hil _ _ ⟨rfl,qGn he hx hy (Prod.ext hE.1 (Prod.ext hE.2.1 (Prod.ext (Int.ofNat.inj hE.2.2.1) (Int.ofNat.inj hE.2.2.2.1))))⟩⟩,fun hE=>?_⟩
   rw[decide_eq_false fun e=>?_]
   ·exact⟨rfl,rfl⟩
   ·rw[e,hy]at hx;cases hx;exact hE ⟨rfl,rfl,rfl,rfl,rfl⟩
  ·have hd:=(h.done hge).2
   rw[List.take_of_length_le hd,List.take_of_length_le (by omega)]at he
   rw[decide_eq_true he];exact⟨rfl,rfl⟩
 ·rw[decide_eq_false fun e=>hl (by rw[n1,n2,e])];exact⟨rfl,rfl⟩
section
variable{V V0:Mem}{d:Ds}{F:Nat}{m:Mm}{l:Sl}{cs:List Cl2}
theorem qDu{s:St}{a b:Sl}{nd:List Nd}(h:nd.map (fun n=>(n.ty,n.f))=s.ns):(⟨a,s.g,b,nd⟩:Mm).plain=s.mm.plain:=by
 rw[St.plain];unfold Mm.plain;rw[h]
theorem lay_rs{W V:Mem}{gs ns ls:Sl}{nd:List Nd}{s:St}(L:Lay W V gs ns ls nd s):Lay W V gs ns qAK nd (rsS s):=⟨L.glob,L.nodes,Own.nil L.sub _ _,L.fld,L.eq,L.gf,L.ff⟩
theorem st_eta{s:St}(h:s=rsS s){a b:Sl}{nd:List Nd}(he:nd.map (fun n=>(n.ty,n.f))=s.ns):qBQ ⟨a,s.g,b,nd⟩=s:=by
 rw[h];unfold qBQ rsS;simp only[he]
def ScrP(V:Mem)(d:Ds)(F:Int)(m:Mm)(cs:List Cl2):Ending->Mem->Prop:=fun e V'=>V.sub V' /\
 ((qKd d F m cs≠0/\e=.returned (.tuple #[qAK.v,.agg #[qAK.v,qAK.v],.int .i64 (qKd d F m cs)])) ∨
 (qKd d F m cs=0/\∃(o a b:Sl) (nd:List Nd),qAd V' o 5 ((scO d F.toNat (qBQ m) cs).map oRow)/\Mm.Ok V' ⟨a,(scS d F.toNat (qBQ m) cs).g,b,nd⟩/\nd.map (fun n=>(n.ty,n.f))=(scS d F.toNat (qBQ m) cs).ns/\qAr d (scS d F.toNat (qBQ m) cs).mm/\e=.returned (.tuple #[o.v,.agg #[a.v,b.v],.int .i64 0])))
structure At (d:Ds) (F:Nat) (s0:St) (cs:List Cl2) (j:Nat) (outs:List O4) (s:St):Prop where
 err:scE d F s0 cs=scE d F s (cs.drop j)
 out:scO d F s0 cs=outs++scO d F s (cs.drop j)
 st:scS d F s0 cs=scS d F s (cs.drop j)
 len:outs.length=j
 rs:s=rsS s
 good:qAr d s.mm
theorem At.start{s:St}(h:s=rsS s)(G:qAr d s.mm):At d F s cs 0 [] s:=⟨by rw[List.drop_zero],by rw[List.drop_zero];rfl,by rw[List.drop_zero],rfl,h,G⟩
theorem At.next{s0 s:St}{j:Nat}{outs:List O4}{c:Cl2}(h:At d F s0 cs j outs s)(hc:cs.drop j=c::cs.drop (j+1))(h0:qCF d s.mm c.name c.args=0)(hg:qAr d (qCY d F c s).st.mm):At d F s0 cs (j+1) (outs++[outO (qCY d F c s)]) (rsS (qCY d F c s).st):=by
 have e1:=h.err
 have e2:=h.out
 have e3:=h.st
 rw[hc]at e1 e2 e3
 refine⟨?_,?_,e3,by rw[List.length_append,h.len];rfl,rfl,⟨hg.valid,hg.chk,hg.mem⟩⟩
 ·rw[e1,scE,if_pos h0]
 ·rw[e2,scO];simp
theorem At.stop{s0 s:St}{j:Nat}{outs:List O4}{c:Cl2}(h:At d F s0 cs j outs s)(hc:cs.drop j=c::cs.drop (j+1))(h0:qCF d s.mm c.name c.args≠0):scE d F s0 cs=qCF d s.mm c.name c.args:=by
 rw[h.err,hc,scE,if_neg h0]
theorem scr_zero{F:Int}(h:qKd d F m cs=0):qAr d m:=by
 unfold qKd at h
 split at h
 ·exact qCT (by assumption)
 ·contradiction
theorem c19[Tab V](hd:Ds.Ok V d)(hm:Mm.Ok V m)(hcs:Cls.Ok V l cs){F:Int}(hF:F<=3000∨1048576<F):Tri Tryz.prog 19 #[d.v,m.v,l.v,.int .i64 F] V (ScrP V d F m cs):=by
 refine x19 (R:=ScrP V d F m cs) ?_
 unfold w19
 have hln:=hcs.rows.n_eq
 have bad:∀{k:Int} {V':Mem},qKd d F m cs=k->k≠0->V.sub V'->ScrP V d F m cs (.returned (.tuple #[qAK.v,.agg #[qAK.v,qAK.v],.int .i64 k])) V':=fun h hk hs=>⟨hs,.inl ⟨by rw[h];exact hk,by rw[h]⟩⟩
 refine(c37 hd hm).call ⟨_,rfl,fun h0=>⟨fun hl=>?_,fun hl=>?_⟩,fun h0=>?_⟩
 ·exact bad (by unfold qKd;rw[if_pos h0,if_pos (by have hl:(2000:Int)<(l.n:Int):=hl;omega)]) (by decide) (Mem.sub.refl _)
 rotate_left
 ·exact bad (by unfold qKd;rw[if_neg h0]) h0 (Mem.sub.refl _)
 have hl:¬(2000:Int)<(l.n:Int):=hl
 have G:=qCT h0
 have hf:=qER h0
 obtain⟨n,rfl⟩:∃n:Nat,F=(n:Int):=⟨F.toNat,by omega⟩
 have hsc:qKd d (n:Int) m cs=scE d n (qBQ m) cs:=by unfold qKd;rw[if_pos h0,if_neg (by omega)];rfl
 obtain⟨l1,l2,l3⟩:=qIC G
 refine Tri.mono (c38 hm l1 l2 l3) ?_
 rintro _ V1 ⟨gs,ns,nd,rfl,L⟩
 refine⟨gs,ns,rfl,loop6 (x0:=qAK) (y0:=0) (c0:=qAK) cs.length (fun j a b o V2=>∃W outs s nd,V.sub W/\Sx.Own V W 44 5 o (outs.flatMap oRow)/\Lay W V2 a b qAK nd s/\At d n (qBQ m) cs j outs s) ⟨V,[],qBQ m,nd,Mem.sub.refl _,Own.nil (Mem.sub.refl _) _ _,L,.start rfl (qGA G)⟩ ?_⟩
 rintro j a b x y o V2 J hj ⟨W,outs,s,nd,hW,ho,L,A⟩ hJ
 have hc2:=hcs.sub (hW.trans L.sub)
 refine⟨fun hlt=>?_,fun hge=>?_⟩
 ·obtain⟨c,hcm,hc,hdr,hjl,hp,hz,hrow⟩:=hc2.rows.get hlt
  have hst:=st_eta (a:=a) (b:=b) A.rs L.eq
  have Gm:qAr d ⟨a,s.g,b,nd⟩:=⟨A.good.valid,A.good.chk,qCp (qDu L.eq).symm A.good.mem⟩
  have hmk:=(qDI (hd.sub hW) L A.good).1
  have hcl:qCF d ⟨a,s.g,b,nd⟩ c.name c.args=qCF d s.mm c.name c.args:=qGE (qDu L.eq)
  refine⟨hp,hz,hlt,_,_,hrow,Tri.mono (c39 (F:=n) (m:=⟨a,s.g,b,nd⟩) ⟨hd.sub hW,G.valid,qEM G.valid G.chk,by omega⟩ (by rw[hst];exact L) hmk Gm ((hcs.args c hcm).sub hW)) ?_⟩
  rintro e V3 (⟨hk,s3,rfl⟩|⟨hk,p,cc,r,hr,M,rfl⟩)
  ·rw[hcl]at hk ⊢
   exact⟨_,_,_,_,_,_,_,rfl,fun h=>absurd h hk,fun _=>bad (hsc.trans (A.stop hdr hk)) hk (hW.trans (L.sub.trans s3))⟩
  ·rw[hcl]at hk
   rw[hst]at hr
   have hr:r=qCY d n c s:=hr
   refine⟨_,_,_,_,_,_,_,rfl,fun _ tb htb=>?_,fun h=>absurd rfl h⟩
   have ho3:Sx.Own V V3 44 5 o (outs.flatMap oRow):=Own.moveB ho (hW.trans M.sub) fun g cur _ hg=>M.sub _ _ hg
   refine app68 (s:=o) (u:=⟨some ⟨tb,0,none⟩,1,1⟩) (xs:=outs) (ys:=[outO r]) rfl rfl (ho3.but.new htb (.cells (oRow (outO r)).toArray 44 (0,0))) (one_out (outO r) mss) (by have:=A.len;simp;omega) fun o4 V4 ho4=>⟨o4,rfl,?_⟩
   obtain⟨W',hW',M4,ho5⟩:=M.beside hW ho ho4
   obtain⟨gs4,ns4,ls4,nd4,hat,L4⟩:=M4.ex
   have hgd:qAr d (qCY d n c s).st.mm:=by
    have:=qIm (F:=n) Gm (by rw[hcl];exact hk)
    rw[hst]at this;exact this
   have A':=A.next hdr hk hgd
   rw[<- hr]at A'
   exact⟨nn,nn,gs4,ns4,qAc hat 8 2 (by simp[qBO]),hc2.rows.succ hlt,hJ hjl _ _ _ _ _ _ ⟨W',_,_,nd4,hW',ho5,lay_rs L4,A'⟩⟩
 ·have hdn:=(hc2.rows.done hge).2
  have e1:=A.err
  have e2:=A.out
  have e3:=A.st
  rw[List.drop_eq_nil_of_le hdn]at e1 e2 e3
  have e1:scE d n (qBQ m) cs=0:=e1
  have e2:scO d n (qBQ m) cs=outs:=by rw[e2];simp[scO]
  have e3:scS d n (qBQ m) cs=s:=e3
  refine⟨hW.trans L.sub,.inr ⟨hsc.trans e1,o,a,b,nd,?_,?_,?_,?_,rfl⟩⟩
  ·show qAd V2 o 5 ((scO d n (qBQ m) cs).map oRow)
   rw[e2];exact(ho.rows (fun _=>rfl) (by decide)).sub L.sub
  ·show Mm.Ok V2 ⟨a,(scS d n (qBQ m) cs).g,b,nd⟩
   rw[e3];exact(qDI (hd.sub hW) L A.good).1
  ·show _=(scS d n (qBQ m) cs).ns
   rw[e3];exact L.eq
  ·show qAr d (scS d n (qBQ m) cs).mm
   rw[e3];exact A.good
end
section
variable{V V0:Mem}{d:Ds}{F:Nat}{m:Mm}{l:Sl}{cs:List Cl2}
theorem c20(hd:Ds.Ok V d)(hm:Mm.Ok V m)(hcs:Cls.Ok V l cs){F:Int}(hF:F<=3000∨1048576<F):Tri Tryz.prog 20 #[d.v,m.v,l.v,.int .i64 F] V (ScrP V d F m cs):=by
 refine x20 (R:=ScrP V d F m cs) ?_
 unfold w20
 have hln:=hcs.rows.n_eq
 have bad:∀{k:Int} {V':Mem},qKd d F m cs=k->k≠0->V.sub V'->ScrP V d F m cs (.returned (.tuple #[qAK.v,.agg #[qAK.v,qAK.v],.int .i64 k])) V':=fun h hk hs=>⟨hs,.inl ⟨by rw[h];exact hk,by rw[h]⟩⟩
 refine(c34 hd hm).call ⟨_,rfl,fun h0=>⟨fun hl=>?_,fun hl=>⟨fun _=>?_,fun h=>absurd h0 h⟩⟩,fun h0=>⟨fun h=>absurd h h0,fun _=>?_⟩⟩
 ·exact bad (by unfold qKd;rw[if_pos h0,if_pos (by have hl:(2000:Int)<(l.n:Int):=hl;omega)]) (by decide) (Mem.sub.refl _)
 rotate_left
 ·exact bad (by unfold qKd;rw[if_neg h0]) h0 (Mem.sub.refl _)
 have hl:¬(2000:Int)<(l.n:Int):=hl
 have G:=qCT h0
 have hf:=qER h0
 obtain⟨n,rfl⟩:∃n:Nat,F=(n:Int):=⟨F.toNat,by omega⟩
 have hsc:qKd d (n:Int) m cs=scE d n (qBQ m) cs:=by unfold qKd;rw[if_pos h0,if_neg (by omega)];rfl
 obtain⟨l1,l2,l3⟩:=qIC G
 refine Tri.mono (c40 hm l1 l2 l3) ?_
 rintro _ V1 ⟨gs,ns,nd,rfl,L⟩
 have hG0:=qGA G
 refine⟨gs,ns,rfl,loop6 (x0:=qAK) (y0:=0) (c0:=qAK) cs.length (fun j a b o V2=>∃outs s nd,Sx.Own V V2 44 5 o (outs.flatMap oRow)/\Mm.Ok V2 ⟨a,s.g,b,nd⟩/\nd.map (fun n=>(n.ty,n.f))=s.ns/\At d n (qBQ m) cs j outs s) ⟨[],qBQ m,nd,Own.nil L.sub _ _,(qDI hd L hG0).1,L.eq,.start rfl hG0⟩ ?_⟩
 rintro j a b x y o V2 J hj ⟨outs,s,nd,ho,hmk,he,A⟩ hJ
 have hd2:=hd.sub ho.sub
 have hc2:=hcs.sub ho.sub
 refine⟨fun hlt=>?_,fun hge=>?_⟩
 ·obtain⟨c,hcm,hc,hdr,hjl,hp,hz,hrow⟩:=hc2.rows.get hlt
  have hst:=st_eta (a:=a) (b:=b) A.rs he
  have Gm:qAr d ⟨a,s.g,b,nd⟩:=⟨A.good.valid,A.good.chk,qCp (qDu he).symm A.good.mem⟩
  have hcl:qCF d ⟨a,s.g,b,nd⟩ c.name c.args=qCF d s.mm c.name c.args:=qGE (qDu he)
  have ha2:=hc2.args c hcm
  refine⟨hp,hz,hlt,_,_,hrow,(c35 (m:=⟨a,s.g,b,nd⟩) (nm:=c.name) hd2 hmk ha2).call ⟨_,rfl,fun hk=>?_,fun hk=>?_⟩⟩
  rotate_left
  ·rw[hcl]at hk ⊢
   exact bad (hsc.trans (A.stop hdr hk)) hk ho.sub
  have hk0:=hk
  rw[hcl]at hk
  refine⟨hp,hz,hlt,_,_,hrow,Tri.mono (c36 (F:=n) (m:=⟨a,s.g,b,nd⟩) hd2 hmk Gm ha2 hk0 (by omega)) ?_⟩
  rintro _ V3 ⟨p,r,hr,M,rfl⟩
  rw[hst]at hr
  have hr:r=qCY d n c s:=hr
  refine⟨_,rfl,(c30 M).call ⟨_,_,_,_,_,rfl,fun tb htb=>?_⟩⟩
  have ho3:Sx.Own V V3 44 5 o (outs.flatMap oRow):=Own.moveB ho (ho.sub.trans M.sub) fun g cur _ hg=>M.sub _ _ hg
  refine app68 (s:=o) (u:=⟨some ⟨tb,0,none⟩,1,1⟩) (xs:=outs) (ys:=[outO r]) rfl rfl (ho3.but.new htb (.cells (oRow (outO r)).toArray 44 (0,0))) (one_out (outO r) mss) (by have:=A.len;simp;omega) fun o4 V4 ho4=>⟨o4,rfl,?_⟩
  obtain⟨W',hW',M4,ho5⟩:=M.beside ho.sub ho ho4
  obtain⟨gs4,ns4,ls4,nd4,hat,L4⟩:=M4.ex
  have hgd:qAr d (qCY d n c s).st.mm:=by
   have:=qIm (F:=n) Gm hk0
   rw[hst]at this;exact this
  have A':=A.next hdr hk hgd
  rw[<- hr]at A' hgd
  have hmk4:=(qDI (hd.sub hW') L4 hgd).1
  exact⟨nn,nn,gs4,ns4,qAc hat 8 2 (by simp[qBv]),hc2.rows.succ hlt,hJ hjl _ _ _ _ _ _ ⟨_,rsS r.st,nd4,Own.moveB ho5 (hW'.trans M4.sub) fun g cur _ hg=>M4.sub _ _ hg,hmk4,L4.eq,A'⟩⟩
 ·have hdn:=(hc2.rows.done hge).2
  have e1:=A.err
  have e2:=A.out
  have e3:=A.st
  rw[List.drop_eq_nil_of_le hdn]at e1 e2 e3
  have e1:scE d n (qBQ m) cs=0:=e1
  have e2:scO d n (qBQ m) cs=outs:=by rw[e2];simp[scO]
  have e3:scS d n (qBQ m) cs=s:=e3
  refine⟨ho.sub,.inr ⟨hsc.trans e1,o,a,b,nd,?_,?_,?_,?_,rfl⟩⟩
  ·show qAd V2 o 5 ((scO d n (qBQ m) cs).map oRow)
   rw[e2];exact ho.rows (fun _=>rfl) (by decide)
  ·show Mm.Ok V2 ⟨a,(scS d n (qBQ m) cs).g,b,nd⟩
   rw[e3];exact hmk
  ·show _=(scS d n (qBQ m) cs).ns
   rw[e3];exact he
  ·show qAr d (scS d n (qBQ m) cs).mm
   rw[e3];exact A.good
theorem small_cls(hcs:Cls.Ok V l cs):qAd V l 2 ((cs.map fun c:Cl2=>(⟨c.name,c.sl⟩:Cl1)).map Cl1.row):=by
 have:=hcs.rows
 rw[List.map_map]
 exact this
theorem c7[Tab V](hd:Ds.Ok V d)(hm:Mm.Ok V m)(hcs:Cls.Ok V l cs){F:Int} :
  PP 7 [d.v,m.v,l.v,.int .i64 F] V (.bool true):=by
 refine Pur.mk (x7 ?_)
 unfold w7
 refine c9.call ⟨_,rfl,fun _=>?_,fun h=>absurd rfl h⟩
 refine Tri.mono (smallF hd hm (small_cls hcs)) ?_
 rintro _ _ ⟨rfl,bb,rfl,hbb⟩
 refine⟨_,rfl,fun h=>?_,fun _=>⟨rfl,Mem.sub.refl _⟩⟩
 obtain⟨hF,-⟩:=hbb h
 refine Tri.mono (c19 hd hm hcs hF) ?_
 rintro e V4 ⟨s4,⟨hc,rfl⟩|⟨hc,o,a,b,nd,h1,h2,h3,-,rfl⟩⟩
 ·refine⟨_,_,_,_,rfl,Tri.mono (c20 (hd.sub s4) (hm.sub s4) (hcs.sub s4) hF) ?_⟩
  rintro e V5 ⟨s5,⟨-,rfl⟩|⟨hc2,-⟩⟩
  rotate_left
  ·exact absurd hc2 hc
  refine⟨_,_,_,_,rfl,fun _=>(c21 (s:=qAK) (t:=qAK) (xs:=[]) (ys:=[]) qAd.nil qAd.nil).call ⟨_,rfl,fun _=>(c13 (a:=⟨qAK,[],qAK,[]⟩) (b:=⟨qAK,[],qAK,[]⟩) nilOk nilOk).call ⟨_,rfl,?_⟩,fun h=>absurd (decide_eq_true rfl) h⟩,fun h=>absurd rfl h⟩
  rw[decide_eq_true rfl];exact⟨rfl,s4.trans s5⟩
 ·refine⟨_,_,_,_,rfl,Tri.mono (c20 (hd.sub s4) (hm.sub s4) (hcs.sub s4) hF) ?_⟩
  rintro e V5 ⟨s5,⟨hc2,-⟩|⟨-,o',a',b',nd',k1,k2,k3,-,rfl⟩⟩
  ·exact absurd hc hc2
  refine⟨_,_,_,_,rfl,fun _=>(c21 (h1.sub s5) k1).call ⟨_,rfl,fun _=>(c13 (h2.sub s5) k2).call ⟨_,rfl,?_⟩,fun h=>absurd (decide_eq_true rfl) h⟩,fun h=>absurd rfl h⟩
  rw[decide_eq_true ((qDu h3).trans (qDu k3).symm)];exact⟨rfl,s4.trans s5⟩
end
end Go.Proofs
