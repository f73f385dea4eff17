/- Part 19 of a proof of a law of this seat: no statement of the seat is proved here. -/
import Derived.Test.YtmeagdecjpknkaaGreatDoorPp18
import Derived.Test.YtmeagdecjpknkaaGreatDoorPp17
import Derived.Test.YtmeagdecjpknkaaGreatDoorPp15
import Derived.Test.YtmeagdecjpknkaaGreatDoorPp16
set_option linter.unusedVariables false
set_option linter.unusedSimpArgs false
namespace Go.Proofs
open Go Go.Sx
attribute [local irreducible] Go.Sx.Tri
theorem ntBool:∀(cur r:Array Value),Obj.cells cur 3 (0,0)≠Obj.cells r 4 (0,0):=fun _ _ h=>by
 simp_all
structure Two (V0 V:Mem) (l gs:Sl) (xs:List Int) (F:List Bool):Prop where
 ol:Sx.Own V0 V 3 1 l (xs.flatMap qAe)
 og:Sx.Own V0 V 4 1 gs (F.flatMap qCR)
structure Thr (V0 V:Mem) (l gs q:Sl) (xs:List Int) (F:List Bool) (ys:List Int):Prop where
 two:Two V0 V l gs xs F
 oq:Sx.Own (fun _=>none) V 3 1 q (ys.flatMap qAe)
 ql:∀c,Blk q c->¬Blk l c
def qDF(N:Nat)(F:List Bool)(but xs:List Int):Prop:=F.length=N+1/\∀j:Nat,j<N+1->F[j]?=some (decide ((j:Int)∈but∨(j:Int)∈xs))
section
variable{V0 V V':Mem}{l gs q:Sl}{xs ys but:List Int}{F:List Bool}{N:Nat}
theorem Two.apart(h:Two V0 V l gs xs F){c:Nat}(hg:Blk gs c):¬Blk l c:=fun hl=>by
 obtain⟨c1,h1⟩:=Own.some h.og hg
 obtain⟨c2,h2⟩:=Own.some h.ol hl
 simp_all
theorem Two.grow(h:Two V0 V l gs xs F)(hs:V.sub V'):Two V0 V' l gs xs F:=⟨Own.growS h.ol hs,Own.growS h.og hs⟩
theorem Thr.apart(h:Thr V0 V l gs q xs F ys){c:Nat}(hg:Blk q c):¬Blk gs c:=fun hl=>by
 obtain⟨c1,h1⟩:=Own.some h.two.og hl
 obtain⟨c2,h2⟩:=Own.some h.oq hg
 simp_all
theorem Thr.mk'(h:Two V0 V l gs xs F)(hs:V.sub V')(o:Sx.Own V V' 3 1 q (ys.flatMap qAe)):Thr V0 V' l gs q xs F ys:=⟨h.grow hs,o.narrow (fun c x h=>by cases h),fun c hc hl=>by
 have h0:=Own.none0 o hc
 obtain⟨c2,h2⟩:=Own.some h.ol hl
 simp_all⟩
theorem Thr.push(h:Thr V0 V l gs q xs F ys){l':Sl}{x:Int}(o:Sx.Own (V.but l) V' 3 1 l' ((xs++[x]).flatMap qAe)):Thr V0 V' l' gs q (xs++[x]) F ys:=by
 obtain⟨h1,h2,h3⟩:=qDK h.two.ol o
 refine⟨⟨h1,Own.moveB h.two.og h1.sub fun g cur hg hc=>?_⟩,Own.moveB h.oq (fun c x h=>by cases h) fun g cur hg hc=>?_,fun c hc hl=>?_⟩
 ·rw[h2 g (h.two.apart hg) (by rw[hc];simp)];exact hc
 ·rw[h2 g (h.ql g hg) (by rw[hc];simp)];exact hc
 ·rcases h3 c hl with hb|hb
  ·exact h.ql c hc hb
  ·obtain⟨cur,hcur⟩:=Own.some h.oq hc
   simp_all
theorem Thr.mark(h:Thr V0 V l gs q xs F ys){j:Nat}(hj:j<F.length){Q:Mem->Prop}(hq:∀V',Thr V0 V' l gs q xs (F.set j true) ys->Q V'):StT (qAa gs.p (j*1)) 0 [.bool true] V Q:=by
 rw[Nat.mul_one]
 refine Own.store h.two.og (i:=j) (by rw[qIw];exact hj) fun V' o hk=>hq V' ?_
 rw[qIv]at o
 exact⟨⟨Own.moveB h.two.ol o.sub fun g cur hg hc=>by rw[hk g fun hb=>h.two.apart hb hg];exact hc,o⟩,Own.moveB h.oq (fun c x h=>by cases h) fun g cur hg hc=>by rw[hk g (h.apart hg)];exact hc,h.ql⟩
theorem qDF.mark(h:qDF N F but xs){j:Nat}(hj:j<N+1):qDF N (F.set j true) but (xs++[(j:Int)]):=by
 refine⟨by rw[List.length_set];exact h.1,fun i hi=>?_⟩
 by_cases c:j=i
 ·subst c
  rw[List.getElem?_set_self (by rw[h.1];exact hj)]
  simp
 ·rw[List.getElem?_set_ne c,h.2 i hi]
  grind
theorem addStep{d:Ds}{most:Nat}{y:Int}(T:Thr V0 V l gs q xs F ys)(hF:qDF N F but xs)(hx:Nds N xs)(hN:N<=4096)(hgs:∃g,gs=⟨some ⟨g,0,none⟩,N+1,N+1⟩)(hy:1<=y/\y<=(N:Int)){J:Sl->List Int->List Bool->Mem->Prop} :
  (¬gs.p=none/\0<=y/\y<(gs.n:Int))/\V.rowp gs.p (y.toNat*1) 1=some [.bool (decide (y∈but∨y∈xs))]:=by
 obtain⟨g,rfl⟩:=hgs
 obtain⟨j,rfl⟩:∃j:Nat,y=(j:Int):=⟨y.toNat,by omega⟩
 obtain⟨b1,b2,b3,b4⟩:=bool_at (T.two.og.rows (fun _=>rfl) (by decide)) (hF.2 j (by omega))
 simp_all
end
section
variable{V0 V:Mem}{d:Ds}{m:Mm}{l gs:Sl}{xs but:List Int}{F:List Bool}{most:Nat}
theorem c83(hv:qAF d=true)(hmv:qAx d m=true)(hd:Ds.Ok V0 d)(hm:Mm.Ok V0 m)(T:Two V0 V l gs xs F)(hF:qDF m.nodes.length F but xs)(hx:Nds m.nodes.length xs)(hgs:∃g,gs=⟨some ⟨g,0,none⟩,m.nodes.length+1,m.nodes.length+1⟩) :
  Tri Tryz.prog 83 #[d.v,m.v,l.v,gs.v,.int .i64 most] V fun e V'=>∃s:Sl,e=.returned s.v/\∃F',Two V0 V' s gs (qDH d m xs most but) F'/\qDF m.nodes.length F' but (qDH d m xs most but):=by
 obtain⟨R,hR⟩:∃R:Ending->Mem->Prop,R=fun e V'=>∃s:Sl,e=.returned s.v/\∃F',Two V0 V' s gs (qDH d m xs most but) F'/\qDF m.nodes.length F' but (qDH d m xs most but):=⟨_,rfl⟩
 rw[<- hR]
 refine x83 ?_
 unfold w83
 have hN:=(qAi hmv).2.1
 obtain⟨N,hNd⟩:∃N,N=m.nodes.length:=⟨_,rfl⟩
 refine⟨fun n ys V1=>∃(i:Nat) (s:Sl) (zs:List Int) (F':List Bool),ys=[s.v,.int .i64 i]/\i<=zs.length/\n=N+1-i/\Two V0 V1 s gs zs F'/\qDF m.nodes.length F' but zs/\Nds m.nodes.length zs/\bfsP d m most but (N+1-i) zs i=qDH d m xs most but,N+1,⟨0,l,xs,F,rfl,Nat.zero_le _,rfl,T,hF,hx,by rw[hNd];rfl⟩,?_⟩
 rintro n V1 v13 v14 ⟨i,s,zs,F1,hys,hi,rfl,T1,hF1,hz1,hb1⟩ J hJ
 simp only[List.cons.injEq,Value.int.injEq,true_and,and_true]at hys
 obtain⟨h5,rfl⟩:=hys
 cases qBE _ _ h5
 have hzl:=hz1.len
 have hzr:=T1.ol.rows (row:=qAe) (xs:=zs) (fun _=>rfl) (by decide)
 have s1:=T1.ol.sub
 refine⟨fun hlt=>?_,fun hge=>?_⟩
 ·obtain⟨x,hxm,hxi,-,hil,hp,hz,hrow⟩:=hzr.get hlt
  have hxr:=hz1.rng x hxm
  refine⟨hp,hz,hlt,_,hrow,Tri.mono (c134 hv hmv (hd.sub s1) (hm.sub s1) hxr) ?_⟩
  rintro _ V2 ⟨q,rfl,oq⟩
  have tin:=(qJj hmv).2 x
  refine⟨q,rfl,?_⟩
  have T2:Thr V0 V2 v13 gs q zs F1 (qAO d m x):=Thr.mk' T1 oq.sub oq
  refine⟨fun n ys V3=>∃(k:Nat) (s:Sl) (us:List Int) (F':List Bool),ys=[s.v,.int .i64 k]/\k<=(qAO d m x).length/\n=(qAO d m x).length-k/\us=((qAO d m x).take k).foldl (qHc most but) zs/\Thr V0 V3 s gs q us F' (qAO d m x)/\qDF m.nodes.length F' but us/\Nds m.nodes.length us,(qAO d m x).length,⟨0,v13,zs,F1,rfl,Nat.zero_le _,rfl,rfl,T2,hF1,hz1⟩,?_⟩
  rintro n V3 v17 v18 ⟨k,s3,us,F3,hys,hk,rfl,hus,T3,hF3,hz3⟩ J1 hJ1
  simp only[List.cons.injEq,Value.int.injEq,true_and,and_true]at hys
  obtain⟨h5,rfl⟩:=hys
  cases qBE _ _ h5
  have hqr:=T3.oq.rows (row:=qAe) (xs:=qAO d m x) (fun _=>rfl) (by decide)
  have husn:=(T3.two.ol.rows (row:=qAe) (xs:=us) (fun _=>rfl) (by decide)).n_eq
  have hul:=hz3.len
  refine⟨fun hlt3=>?_,fun hge3=>?_⟩
  ·obtain⟨y,hym,hyi,-,hkl,hp3,hz33,hrow3⟩:=hqr.get hlt3
   have hyr:=tin y hym
   have hsu:=hqr.succ hlt3
   have e:((qAO d m x).take (k+1)).foldl (qHc most but) zs=qHc most but us y:=by rw[qCn hyi,List.foldl_append,<- hus];rfl
   have hz4:Nds m.nodes.length (qHc most but us y):=hz3.add hyr
   obtain⟨⟨a1,a2,a3⟩,a4⟩:=addStep (d:=d) (most:=most) (J:=fun _ _ _ _=>True) T3 hF3 hz3 hN hgs hyr
   have stay:qHc most but us y=us->J1 [v17.v,.int .i64 ((k:Int)+1)] V3:=fun h=>hJ1 ((qAO d m x).length-(k+1)) _ _ (by omega) ⟨k+1,v17,us,F3,rfl,hkl,rfl,by rw[e,h],T3,hF3,hz3⟩
   refine⟨hp3,hz33,hlt3,_,hrow3,fun c1=>⟨a1,a2,a3,_,a4,fun c2=>⟨hsu,stay ?_⟩,fun c2=>⟨a1,a2,a3,?_⟩⟩,fun c1=>⟨hsu,stay ?_⟩⟩
   ·grind [qHc]
   ·have c1:(v17.n:Int)<(most:Int):=c1
    have c2:¬(y∈but∨y∈us):=fun h=>c2 (decide_eq_true h)
    rw[not_or]at c2
    have ea:qHc most but us y=us++[y]:=by grind [qHc]
    obtain⟨j,rfl⟩:∃j:Nat,y=(j:Int):=⟨y.toNat,by omega⟩
    refine T3.mark (j:=j) (by rw[hF3.1];omega) fun V4 T4 b hb=>?_
    refine oneG (row:=qAe) qFs (x:=(j:Int)) (s:=v17) T4.two.ol.but hb (by omega) rfl rfl (fun _=>rfl) fun s' V5 o'=>?_
    exact⟨s',rfl,hsu,hJ1 ((qAO d m x).length-(k+1)) _ _ (by omega) ⟨k+1,s',us++[(j:Int)],_,rfl,hkl,rfl,by rw[e,ea],T4.push o',hF3.mark (by omega),by grind⟩⟩
   grind [qHc]
  ·have hd3:=(hqr.done hge3).2
   rw[List.take_of_length_le hd3]at hus
   refine⟨hzr.succ hlt,hJ (N+1-(i+1)) _ _ (by omega) ⟨i+1,v17,us,F3,rfl,?_,rfl,T3.two,hF3,hz3,?_⟩⟩
   ·have hs:=Spr.fold (N:=m.nodes.length) (most:=most) (but:=but) (qAO d m x) zs (Spr.refl hz1) tin
    have h1:=nodup_le zs us hz1.nd (by rw[hus];exact hs.sub)
    omega
   ·rw[<- hb1,show N+1-i=(N+1-(i+1))+1 by omega]
    grind [bfsP]
 ·have hge:¬(i:Int)<(v13.n:Int):=hge
  have hzn:=hzr.n_eq
  rw[show N+1-i=(N-i)+1 by omega]at hb1
  unfold bfsP at hb1
  grind
end
section
variable{V0 V V':Mem}{l b q:Sl}{xs but ys zs:List Int}
theorem qEk(o:Sx.Own V0 V 3 1 q (ys.flatMap qAe)):Sx.Own (fun _=>none) V 3 1 q (ys.flatMap qAe):=o.narrow fun c x h=>by cases h
theorem qEj{q:Sl}{vs:List Value}(o:Sx.Own (fun _=>none) V 3 1 q vs)(h:∀c,Blk q c->V' c=V c):Sx.Own (fun _=>none) V' 3 1 q vs:=Own.moveB o (fun c x h=>by cases h) fun g cur hg hc=>by simp_all
end
section
variable{V0 V:Mem}{d:Ds}{m:Mm}{l b q:Sl}{xs but ys:List Int}{most:Nat}
theorem c81[Tab V](hmv:qAx d m=true)(hd:Ds.Ok V d)(hm:Mm.Ok V m):Tri Tryz.prog 81 #[d.v,m.v] V (TgtP V (qCP d m)):=by
 refine x81 ?_
 unfold w81
 refine Tri.mono (c132 hmv hd hm) ?_
 rintro _ V1 ⟨o,rfl,ho⟩
 have R:=qKd hmv
 refine⟨o,_,rfl,Tri.mono (c80 ho ⟨R.dup,R.rng⟩ (qAi hmv).2.1 hm.nodes.n_eq) ?_⟩
 rintro _ V2 ⟨s,rfl,o2⟩
 exact⟨s,rfl,s,rfl,o2⟩
theorem c82(hv:qAF d=true)(hmv:qAx d m=true)(hd:Ds.Ok V d)(hm:Mm.Ok V m):Tri Tryz.prog 82 #[d.v,m.v] V (TgtP V (qIJ d m)):=by
 obtain⟨R,hR⟩:∃R,R=TgtP V (qIJ d m):=⟨_,rfl⟩
 rw[<- hR]
 refine x82 ?_
 unfold w82
 obtain⟨p1,hN,p3,p4,p5⟩:=qAi hmv
 have hns:=hm.nodes.n_eq
 obtain⟨N,hNd⟩:∃N,N=m.nodes.length:=⟨_,rfl⟩
 rw[hns,<- hNd]
 refine⟨⟨by omega,by omega⟩,mk162 (n:=N+1) rfl rfl (by omega) fun g hg=>⟨⟨some ⟨g,0,none⟩,N+1,N+1⟩,rfl,?_⟩⟩
 have C0:=qIb hg (n:=N+1) (by omega)
 obtain⟨V1,hV1⟩:∃V1,V1=V.set g (.cells (madeCells ((Value.bool false).cells) ((N+1)*1)) 4 (0,0)):=⟨_,rfl⟩
 rw[<- hV1]at C0 ⊢
 have hgl:=(lens_of hv).1
 refine Tri.mono (c133 (hd.globals.sub C0.sub) (hm.globals.sub C0.sub) p4 (by omega)) ?_
 rintro _ V2 ⟨q,rfl,oq⟩
 refine⟨q,rfl,?_⟩
 have tin:=(qJj hmv).1
 have T0:Thr V V2 ⟨none,0,0⟩ ⟨some ⟨g,0,none⟩,N+1,N+1⟩ q [] (List.replicate (N+1) false) (tgt d.globals m.globals):=Thr.mk' ⟨Own.nil C0.sub _ _,C0⟩ oq.sub oq
 refine⟨fun n ys V3=>∃(k:Nat) (s:Sl) (us:List Int) (F:List Bool),ys=[s.v,.int .i64 k]/\k<=(tgt d.globals m.globals).length/\n=(tgt d.globals m.globals).length-k/\us=((tgt d.globals m.globals).take k).foldl (qHc (N+1) []) []/\Thr V V3 s ⟨some ⟨g,0,none⟩,N+1,N+1⟩ q us F (tgt d.globals m.globals)/\qDF N F [] us/\Nds N us,(tgt d.globals m.globals).length,⟨0,_,[],_,rfl,Nat.zero_le _,rfl,rfl,T0,⟨List.length_replicate,fun j hj=>by simp_all⟩,Nds.nil⟩,?_⟩
 rintro n V3 v12 v13 ⟨k,s3,us,F3,hys,hk,rfl,hus,T3,hF3,hz3⟩ J1 hJ1
 simp only[List.cons.injEq,Value.int.injEq,true_and,and_true]at hys
 obtain⟨h5,rfl⟩:=hys
 cases qBE _ _ h5
 have hqr:=T3.oq.rows (row:=qAe) (xs:=tgt d.globals m.globals) (fun _=>rfl) (by decide)
 have hul:=hz3.len
 refine⟨fun hlt3=>?_,fun hge3=>?_⟩
 ·obtain⟨y,hym,hyi,-,hkl,hp3,hz33,hrow3⟩:=hqr.get hlt3
  have hyr:=tin y hym
  rw[<- hNd]at hyr
  have hsu:=hqr.succ hlt3
  have e:((tgt d.globals m.globals).take (k+1)).foldl (qHc (N+1) []) []=qHc (N+1) [] us y:=by simp_all [qCn,List.foldl_append]
  have hz4:Nds N (qHc (N+1) [] us y):=hz3.add hyr
  obtain⟨⟨a1,a2,a3⟩,a4⟩:=addStep (d:=d) (most:=N+1) (J:=fun _ _ _ _=>True) T3 hF3 hz3 (by omega) ⟨g,rfl⟩ hyr
  refine⟨hp3,hz33,hlt3,_,hrow3,a1,a2,a3,_,a4,fun c2=>⟨hsu,hJ1 ((tgt d.globals m.globals).length-(k+1)) _ _ (by omega) ⟨k+1,v12,us,F3,rfl,hkl,rfl,?_,T3,hF3,hz3⟩⟩,fun c2=>⟨a1,a2,a3,?_⟩⟩
  ·grind [qHc]
  ·have c2:¬(y∈[]∨y∈us):=fun h=>c2 (decide_eq_true h)
   rw[not_or]at c2
   have ea:qHc (N+1) [] us y=us++[y]:=by grind [qHc]
   obtain⟨j,rfl⟩:∃j:Nat,y=(j:Int):=⟨y.toNat,by omega⟩
   refine T3.mark (j:=j) (by rw[hF3.1];omega) fun V4 T4 b hb=>?_
   refine oneG (row:=qAe) qFs (x:=(j:Int)) (s:=v12) T4.two.ol.but hb (by omega) rfl rfl (fun _=>rfl) fun s' V5 o'=>?_
   exact⟨s',rfl,hsu,hJ1 ((tgt d.globals m.globals).length-(k+1)) _ _ (by omega) ⟨k+1,s',us++[(j:Int)],_,rfl,hkl,rfl,by rw[e,ea],T4.push o',hF3.mark (by omega),by simp_all⟩⟩
 ·have hd3:=(hqr.done hge3).2
  rw[List.take_of_length_le hd3,hNd]at hus
  have hus:us=firstP d m:=hus
  subst hus
  rw[hNd]at T3 hF3 hz3 ⊢
  have hsv:=T3.two.ol.sub
  refine Tri.mono (c83 (most:=m.nodes.length) (but:=[]) hv hmv hd hm T3.two hF3 hz3 ⟨g,rfl⟩) ?_
  rintro _ V4 ⟨s4,rfl,F4,T4,hF4⟩
  refine⟨s4,rfl,Tri.mono (c80 T4.ol (qJL hmv hz3).nds hN hns) ?_⟩
  rintro _ V5 ⟨s5,rfl,o5⟩
  rw[hR]
  exact⟨s5,rfl,s5,rfl,o5⟩
end
theorem div_wrap{i s:Nat}(hi:i<=1048576)(hs:1<=s):IntKind.wrap .i64 ((i:Int).tdiv (s:Int))=((i / s:Nat):Int):=by
 rw[show (i:Int).tdiv (s:Int)=((i / s:Nat):Int) from (Int.ofNat_tdiv i s).symm]
 have h1:i / s<=i:=Nat.div_le_self i s
 generalize i / s=q at h1 ⊢
 exact qGY ⟨by show (-9223372036854775808:Int)<=q;omega,by show (q:Int)<=9223372036854775807;omega⟩
section
variable{V0 V:Mem}{N size:Nat}{O zs:List Int}{os out:Sl}{R:RP}
theorem qGu(oo:Sx.Own V0 V 3 1 out (zs.flatMap qAe))(hz:zs.length=N)(hos:Sx.Own (fun _=>none) V 3 1 os (O.flatMap qAe))(hd:∀c,Blk os c->¬Blk out c)(hO:Nds N O)(hN:N<=4096)(hs:1<=size)
    (hR:∀V' zs',Sx.Own V0 V' 3 1 out (zs'.flatMap qAe)->qEA N O size zs'->R (rV (uL out)) V') :
    ∃(I:Nat->List Value->Mem->Prop) (n0:Nat),I n0 [uI 0] V/\∀n V4,∀v15,I n [uI v15] V4->∀J0:List Value->Mem->Prop,(∀m ys V'',m<n->I m ys V''->J0 ys V'') ->
     Br (v15<(os.n:Int))
     (¬os.p=none/\0<=v15/\v15<(os.n:Int)/\∃v16,V4.rowp os.p (v15.toNat*1) 1=some [uI v16] /\
     IR (v16-1)/\¬(size:Int)=0/\¬out.p=none/\0<=(v16-1)/\(v16-1)<(out.n:Int)/\StT (qAa out.p ((v16-1).toNat*1)) 0 [uI (IntKind.wrap .i64 ((v15).tdiv (size:Int)))] V4 fun V5 =>
     IR (v15+1)/\J0 [uI (v15+1)] V5)
     (R (rV (uL out)) V4):=by
  refine qIY O.length (fun i V1=>∃zs:List Int,Sx.Own V0 V1 3 1 out (zs.flatMap qAe)/\zs.length=N/\Sx.Own (fun _=>none) V1 3 1 os (O.flatMap qAe)/\∀(j:Nat) n,j<i->O[j]?=some n->zs[(n-1).toNat]?=some ((j / size:Nat):Int)) ⟨zs,oo,hz,hos,fun j n h=>by omega⟩ ?_
  rintro i V1 J hi ⟨zs1,o1,hz1,h1,ha⟩ hJ
  have hr:=h1.rows (row:=qAe) (xs:=O) (fun _=>rfl) (by decide)
  have hOl:=hO.len
  refine⟨fun hlt=>?_,fun hge=>?_⟩
  · obtain⟨n,hnm,hn,-,hil,hp,hz0,hrow⟩:=hr.get hlt
    have hnr:=hO.rng n hnm
    obtain⟨q,hq⟩:∃q:Nat,n-1=(q:Int):=⟨(n-1).toNat,by omega⟩
    have hzr:=o1.rows (row:=qAe) (xs:=zs1) (fun _=>rfl) (by decide)
    obtain⟨c1,c2,c3,-⟩:=qBV hzr (List.getElem?_eq_getElem (show q<zs1.length by omega))
    refine⟨hp,hz0,hlt,_,hrow,⟨by omega,by omega⟩,by omega,c1,by omega,by omega,?_⟩
    rw[div_wrap (by omega) hs,hq,Int.toNat_natCast,Nat.mul_one]
    refine Own.store o1 (i:=q) (by rw[qDf];omega) fun V2 o2 hk=>?_
    rw[qDe]at o2
    refine⟨hr.succ hlt,hJ hil _ ⟨_,o2,by simp[hz1],qEj h1 fun c hc=>hk c (hd c hc),fun j n' hj hn'=>?_⟩⟩
    by_cases e:j=i
    · subst e
      rw[hn]at hn';cases hn'
      rw[hq,Int.toNat_natCast,List.getElem?_set_self (by omega)]
    · have hne:n'≠n:=fun h=>e ((List.getElem?_inj (List.getElem?_eq_some_iff.1 hn').1 hO.nd).1 (by rw[hn',hn,h]))
      have hn'r:=hO.rng n' (List.mem_of_getElem? hn')
      rw[List.getElem?_set_ne (by omega)]
      grind
  · have hdn:=(hr.done hge).2
    exact hR V1 zs1 o1 ⟨hz1,fun j n hj=>ha j n (by grind) hj⟩
end
structure Clu (V0 V:Mem) (out gs os:Sl) (zs:List Int) (F:List Bool) (O:List Int):Prop where
 oo:Sx.Own V0 V 3 1 out (zs.flatMap qAe)
 og:Sx.Own V0 V 4 1 gs (F.flatMap qCR)
 os_:Sx.Own (fun _=>none) V 3 1 os (O.flatMap qAe)
 d1:∀c,Blk os c->¬Blk out c
section
variable{V0 V V':Mem}{out gs os s:Sl}{zs O xs:List Int}{F:List Bool}
theorem qEJ{W W':Mem}{a b:Sl}{u v:List Value}(h:Sx.Own W V 3 1 a u)(k:Sx.Own W' V 4 1 b v){c:Nat}(hc:Blk a c):¬Blk b c:=fun hb=>by
 grind [Own.some,ntBool,Option.some.inj]
theorem qDb{W:Mem}{e:Nat}{a:Sl}{u:List Value}(h:Sx.Own W V e 1 a u){c:Nat}(hc:Blk a c):V c≠none:=by
 grind [Own.some]
theorem Clu.grow(h:Clu V0 V out gs os zs F O)(hs:V.sub V'):Clu V0 V' out gs os zs F O:=⟨Own.growS h.oo hs,Own.growS h.og hs,Own.growS h.os_ hs,h.d1⟩
theorem Clu.mark(h:Clu V0 V out gs os zs F O){j:Nat}(hj:j<F.length){Q:Mem->Prop}(hq:∀V',Clu V0 V' out gs os zs (F.set j true) O->Q V'):StT (qAa gs.p (j*1)) 0 [.bool true] V Q:=by
 rw[Nat.mul_one]
 refine Own.store h.og (i:=j) (by rw[qIw];exact hj) fun V' o hk=>hq V' ?_
 rw[qIv]at o
 exact⟨Own.moveB h.oo o.sub fun g cur hg hc=>by rw[hk g (qEJ h.oo h.og hg)];exact hc,o,qEj h.os_ fun c hc=>hk c (qEJ h.os_ h.og hc),h.d1⟩
theorem Clu.place(h:Clu V0 V out gs os zs F O)(hs:Sx.Own (fun _=>none) V 3 1 s (xs.flatMap qAe))(hd:∀c,Blk s c->¬Blk out c){j:Nat}{b:Int}(hj:j<zs.length){Q:Mem->Prop}(hq:∀V',Clu V0 V' out gs os (zs.set j b) F O->Sx.Own (fun _=>none) V' 3 1 s (xs.flatMap qAe)->Q V'):StT (qAa out.p (j*1)) 0 [.int .i64 b] V Q:=by
 rw[Nat.mul_one]
 refine Own.store h.oo (i:=j) (by rw[qDf];exact hj) fun V' o hk=>?_
 rw[qDe]at o
 exact hq V' ⟨o,Own.moveB h.og o.sub fun g cur hg hc=>by rw[hk g fun hb=>qEJ h.oo h.og hb hg];exact hc,qEj h.os_ fun c hc=>hk c (h.d1 c hc),h.d1⟩ (qEj hs fun c hc=>hk c (hd c hc))
end
section
variable{V:Mem}{d:Ds}{m:Mm}{size:Nat}
theorem spreadC{V1:Mem}{out gs os:Sl}{zs O:List Int}{F:List Bool}{b:Nat}{n:Int}{but:List Int}(hv:qAF d=true)(hmv:qAx d m=true)(hd:Ds.Ok V d)(hm:Mm.Ok V m)(C:Clu V V1 out gs os zs F O)(hb:V1 b=none)(hF:qDF m.nodes.length F but [n])(hn:1<=n/\n<=(m.nodes.length:Int))(hgs:∃g,gs=⟨some ⟨g,0,none⟩,m.nodes.length+1,m.nodes.length+1⟩) :
  Tri Tryz.prog 83 #[d.v,m.v,.slice (sa b) 1 1,gs.v,.int .i64 size] (V1.set b (.cells #[.int .i64 n] 3 (0,0))) fun e V'=>∃s:Sl,e=.returned s.v/\∃F',Clu V V' out gs os zs F' O/\qDF m.nodes.length F' but (qDH d m [n] size but)/\Sx.Own (fun _=>none) V' 3 1 s ((qDH d m [n] size but).flatMap qAe)/\∀c,Blk s c->¬Blk out c:=by
 have s1:=Mem.sub_new hb (.cells #[.int .i64 n] 3 (0,0))
 obtain⟨U,hU⟩:∃U,U=V1.set b (.cells #[.int .i64 n] 3 (0,0)):=⟨_,rfl⟩
 have hUb:U b=some (.cells #[.int .i64 n] 3 (0,0)):=by rw[hU];exact Mem.set_same _ _ _
 rw[<- hU]at s1 ⊢
 have C1:=C.grow s1
 obtain⟨M,hM⟩:∃M:Nat->Prop,M=fun c=>c=b∨Blk gs c:=⟨_,rfl⟩
 have hMV:∀c,M c->V c=none:=fun c hc=>by
  rw[hM]at hc
  rcases hc with rfl|hc
  ·cases e:V c with
   | none=>rfl
   | some o=>rw[C.oo.sub _ _ e]at hb;cases hb
  ·exact Own.none0 C.og hc
 have hVW:V.sub (Mem.minus U M):=fun c o hc=>by
  rw[qCB fun h=>by grind]
  exact C1.oo.sub _ _ hc
 have T:Two (Mem.minus U M) U ⟨some ⟨b,0,none⟩,1,1⟩ gs [n] F:=by
  refine⟨⟨qEq,rfl,.inr ⟨b,_,rfl,qFM (by simp_all),hUb,Nat.le_refl _,(show 1<=maxLen by decide),rfl,rfl⟩⟩,⟨qEq,C1.og.len,?_⟩⟩
  rcases C1.og.cases0 with h1|⟨hc,g,cur,h1,h2,h3,h4⟩
  ·exact .inl h1
  ·exact .inr ⟨g,cur,h1,qFM (by rw[hM];exact .inr ⟨hc,h1⟩),h3,h4⟩
 refine Tri.mono (c83 (l:=⟨some ⟨b,0,none⟩,1,1⟩) (most:=size) hv hmv (hd.sub hVW) (hm.sub hVW) T hF (Nds.nil.snoc hn (by simp)) hgs) ?_
 rintro _ V2 ⟨s,rfl,F',T2,hF2⟩
 have sW:=T2.ol.sub
 have nb:∀{c:Nat},V1 c≠none->¬Blk gs c->V2 c=U c:=fun {c} h1 h2=>by
  have hM':¬M c:=fun h=>by
   simp_all
  cases e:U c with
  | none =>
   cases e1:V1 c with
   | none=>grind
   | some o=>rw[s1 _ _ e1]at e;cases e
  | some o=>exact sW _ _ (by rw[qCB hM'];exact e)
 refine⟨s,rfl,F',⟨Own.moveB C1.oo (hVW.trans sW) fun g cur hg hc=>?_,T2.og.narrow hVW,qEj C1.os_ fun c hc=>nb (qDb C.os_ hc) (qEJ C.os_ C.og hc),C.d1⟩,hF2,qEk T2.ol,fun c hc ho=>?_⟩
 ·rw[nb (qDb C.oo hg) (qEJ C.oo C.og hg)];exact hc
 ·have h0:=Own.none0 T2.ol hc
  have h1:=qDb C.oo ho
  have hM':¬M c:=fun h=>by
   rw[hM]at h
   rcases h with rfl|h
   ·exact h1 hb
   ·exact qEJ C.oo C.og ho h
  rw[qCB hM']at h0
  exact qDb C1.oo ho h0
theorem c45[Tab V](hv:qAF d=true)(hmv:qAx d m=true)(hd:Ds.Ok V d)(hm:Mm.Ok V m){k:Int}(hk:1<=k/\k<=4)(hs:1<=size/\size<=64) :
  Tri Tryz.prog 45 #[d.v,m.v,.int .i64 k,.int .i64 size] V fun e V'=>∃(s:Sl) (zs:List Int),e=.returned s.v/\Sx.Own V V' 3 1 s (zs.flatMap qAe)/\qAK d m k size zs:=by
 obtain⟨R,hR⟩:∃R:Ending->Mem->Prop,R=fun e V'=>∃(s:Sl) (zs:List Int),e=.returned s.v/\Sx.Own V V' 3 1 s (zs.flatMap qAe)/\qAK d m k size zs:=⟨_,rfl⟩
 rw[<- hR]
 refine x45 ?_
 unfold w45
 obtain⟨p1,hN,p3,p4,p5⟩:=qAi hmv
 have hns:=hm.nodes.n_eq
 rw[hns]
 refine mk31 (n:=m.nodes.length) rfl rfl (by omega) fun g hg=>⟨⟨some ⟨g,0,none⟩,m.nodes.length,m.nodes.length⟩,rfl,?_⟩
 have C0:=qHs hg (n:=m.nodes.length) (by omega)
 obtain⟨V1,hV1⟩:∃V1,V1=V.set g (.cells (madeCells ((Value.int .i64 0).cells) (m.nodes.length*1)) 3 (0,0)):=⟨_,rfl⟩
 rw[<- hV1]at C0 ⊢
 obtain⟨out,hout⟩:∃out:Sl,out=⟨some ⟨g,0,none⟩,m.nodes.length,m.nodes.length⟩:=⟨_,rfl⟩
 rw[<- hout]at C0 ⊢
 refine Tri.mono (c80 (V0:=V1) (l:=⟨none,0,0⟩) (xs:=[]) (Own.nil (Mem.sub.refl _) _ _) Nds.nil hN hns) ?_
 rintro _ V2 ⟨o0,rfl,ho0⟩
 have C2:=Own.growS C0 ho0.sub
 have hd2:=hd.sub C2.sub
 have hm2:=hm.sub C2.sub
 haveI:Tab V2:=Tab.sub (V:=V) inferInstance C2.sub
 have ok:=qKi hmv k
 have far:∀{U U':Mem} {q:Sl} {ys:List Int},V1.sub U->Sx.Own U U' 3 1 q (ys.flatMap qAe)->∀c,Blk q c->¬Blk out c:=fun {U U' q ys} hs o c hc ho=>by
  have h0:=Own.none0 o hc
  obtain⟨cur,h⟩:=Own.some C0 ho
  rw[hs _ _ h]at h0;cases h0
 have fin:k<4->∀V' zs',Sx.Own V V' 3 1 out (zs'.flatMap qAe)->qEA m.nodes.length (qCL d m k) size zs'->R (rV (uL out)) V':=fun h V' zs' o P=>by
  rw[hR]
  exact⟨out,zs',rfl,o,by grind [qAK]⟩
 refine⟨o0,rfl,fun c=>?_,fun c2=>⟨fun c=>?_,fun c3=>⟨fun c=>?_,fun c4=>?_⟩⟩⟩
 ·have c:k=2:=c
  refine Tri.mono (c81 hmv hd2 hm2) ?_
  rintro _ V3 ⟨s,rfl,o3⟩
  have e:qCL d m k=qCP d m:=by grind [qCL]
  rw[e]at ok fin
  exact⟨s,rfl,qGu (Own.growS C2 o3.sub) List.length_replicate (qEk o3) (far ho0.sub o3) ok.1 hN hs.1 (fin (by omega))⟩
 ·have c:k=3:=c
  refine Tri.mono (c82 hv hmv hd2 hm2) ?_
  rintro _ V3 ⟨s,rfl,o3⟩
  have e:qCL d m k=qIJ d m:=by grind [qCL]
  rw[e]at ok fin
  exact⟨s,rfl,qGu (Own.growS C2 o3.sub) List.length_replicate (qEk o3) (far ho0.sub o3) ok.1 hN hs.1 (fin (by omega))⟩
 ·have c:k=4:=c
  obtain⟨N,hNd⟩:∃N,N=m.nodes.length:=⟨_,rfl⟩
  refine⟨⟨by omega,by omega⟩,mk162 (n:=m.nodes.length+1) rfl rfl (by omega) fun g2 hg2=>⟨⟨some ⟨g2,0,none⟩,m.nodes.length+1,m.nodes.length+1⟩,rfl,?_⟩⟩
  have B0:=qIb hg2 (n:=m.nodes.length+1) (by omega)
  obtain⟨V3,hV3⟩:∃V3,V3=V2.set g2 (.cells (madeCells ((Value.bool false).cells) ((m.nodes.length+1)*1)) 4 (0,0)):=⟨_,rfl⟩
  rw[<- hV3]at B0 ⊢
  obtain⟨gs,hgs⟩:∃gs:Sl,gs=⟨some ⟨g2,0,none⟩,m.nodes.length+1,m.nodes.length+1⟩:=⟨_,rfl⟩
  rw[<- hgs]at B0 ⊢
  haveI:Tab V3:=Tab.sub (V:=V2) inferInstance B0.sub
  refine Tri.mono (c81 hmv (hd2.sub B0.sub) (hm2.sub B0.sub)) ?_
  rintro _ V4 ⟨os,rfl,o4⟩
  refine⟨os,rfl,?_⟩
  have dok:=qGD hmv
  have CL0:Clu V V4 out gs os (List.replicate m.nodes.length 0) (List.replicate (m.nodes.length+1) false) (qCP d m):=⟨Own.growS C2 (B0.sub.trans o4.sub),(Own.growS B0 o4.sub).narrow C2.sub,qEk o4,far (ho0.sub.trans B0.sub) o4⟩
  have hOl:=dok.1.len
  -- the clusters of the first nodes of the order
  refine⟨fun n ys V5=>∃(i:Nat) (cls:List (List Int)) (zs:List Int) (F:List Bool),ys=[.int .i64 cls.length,.int .i64 i]/\i<=(qCP d m).length/\n=(qCP d m).length-i/\cls=((qCP d m).take i).foldl (cluS d m size) []/\CluI m.nodes.length size cls/\Clu V V5 out gs os zs F (qCP d m)/\CluOf m.nodes.length size cls zs/\qDF m.nodes.length F cls.flatten [],(qCP d m).length,⟨0,[],_,_,rfl,Nat.zero_le _,rfl,rfl,⟨Nds.nil,by simp⟩,CL0,⟨List.length_replicate,by simp⟩,⟨List.length_replicate,fun j hj=>by simp_all⟩⟩,?_⟩
  rintro n V5 v16 v17 ⟨i,cls,zs,F,hys,hi,rfl,hcl,hI,CL,hOf,hF⟩ J hJ
  simp only[List.cons.injEq,Value.int.injEq,true_and,and_true]at hys
  obtain⟨rfl,rfl⟩:=hys
  have hor:=CL.os_.rows (row:=qAe) (xs:=qCP d m) (fun _=>rfl) (by decide)
  have hcll:=hI.len
  refine⟨fun hlt=>?_,fun hge=>?_⟩
  ·obtain⟨x,hxm,hx,-,hil,hp,hz,hrow⟩:=hor.get hlt
   have hxr:=dok.1.rng x hxm
   have hsu:=hor.succ hlt
   have e:((qCP d m).take (i+1)).foldl (cluS d m size) []=cluS d m size cls x:=by rw[qCn hx,List.foldl_append,<- hcl];rfl
   obtain⟨I1,-,-⟩:=hI.step hmv hs.1 hxr
   obtain⟨j,rfl⟩:∃j:Nat,x=(j:Int):=⟨x.toNat,by omega⟩
   obtain⟨b1,b2,b3,b4⟩:=bool_at (CL.og.rows (fun _=>rfl) (by decide)) (hF.2 j (by omega))
   refine⟨hp,hz,hlt,_,hrow,b1,b2,b3,_,b4,fun c=>⟨hsu,hJ ((qCP d m).length-(i+1)) _ _ (by omega) ⟨i+1,cls,zs,F,rfl,hil,rfl,?_,hI,CL,hOf,hF⟩⟩,fun c=>⟨b1,b2,b3,?_⟩⟩
   ·grind [cluS]
   ·have c:¬((j:Int)∈cls.flatten∨(j:Int)∈[]):=fun h=>c (decide_eq_true h)
    have hnot:(j:Int) ∉ cls.flatten:=fun h=>c (.inl h)
    have ec:cluS d m size cls (j:Int)=cls++[qDH d m [(j:Int)] size cls.flatten]:=by grind [cluS]
    obtain⟨w1,w2,w3,w4⟩:=clu_new hmv hs.1 hxr hnot
    refine CL.mark (j:=j) (by rw[hF.1];omega) fun V6 CL6 b hb=>?_
    refine Tri.mono (spreadC (size:=size) (b:=b) (n:=(j:Int)) (but:=cls.flatten) hv hmv hd hm CL6 hb (hF.mark (by omega)) hxr ⟨g2,hgs⟩) ?_
    rintro _ V8 ⟨s8,rfl,F8,CL8,hF8,os8,hd8⟩
    refine⟨s8,rfl,?_⟩
    obtain⟨W,hW⟩:∃W,W=qDH d m [(j:Int)] size cls.flatten:=⟨_,rfl⟩
    rw[<- hW]at hF8 os8 ec w1 w2 w3 w4
    refine qIY W.length (fun t V9=>∃zs':List Int,Clu V V9 out gs os zs' F8 (qCP d m)/\Sx.Own (fun _=>none) V9 3 1 s8 (W.flatMap qAe)/\CluOf m.nodes.length size cls zs'/\∀y∈W.take t,zs'[(y-1).toNat]?=some ((cls.length:Nat):Int)) ⟨zs,CL8,os8,hOf,by simp⟩ ?_
    rintro t V9 J1 ht ⟨zs9,CL9,os9,hOf9,hall9⟩ hJ1
    have hwr:=os9.rows (row:=qAe) (xs:=W) (fun _=>rfl) (by decide)
    have hzr:=CL9.oo.rows (row:=qAe) (xs:=zs9) (fun _=>rfl) (by decide)
    refine⟨fun hlt9=>?_,fun hge9=>?_⟩
    ·obtain⟨y,hym,hy,-,htl,hp9,hz9,hrow9⟩:=hwr.get hlt9
     have hyr:=w1.rng y hym
     obtain⟨q,hq⟩:∃q:Nat,y-1=(q:Int):=⟨(y-1).toNat,by omega⟩
     have hzl:=hOf9.len
     obtain⟨c1,c2,c3,-⟩:=qBV hzr (List.getElem?_eq_getElem (show q<zs9.length by omega))
     refine⟨hp9,hz9,hlt9,_,hrow9,⟨by omega,by omega⟩,c1,by omega,by omega,?_⟩
     rw[hq,Int.toNat_natCast]
     refine CL9.place os9 hd8 (j:=q) (by omega) fun V10 CL10 os10=>⟨hwr.succ hlt9,hJ1 htl _ ⟨_,CL10,os10,⟨by grind,fun a c' hc' z hz'=>?_⟩,fun z hz'=>?_⟩⟩
     ·have hne:z≠y:=fun h=>w3 y hym (by grind [List.mem_flatten,List.mem_of_getElem?])
      have hzr':=hI.nds.rng z (List.mem_flatten.2 ⟨c',List.mem_of_getElem? hc',hz'⟩)
      rw[List.getElem?_set_ne (by omega)]
      exact hOf9.at_ a c' hc' z hz'
     ·by_cases h:z=y
      ·rw[h,hq,Int.toNat_natCast,List.getElem?_set_self (by omega)]
      ·rw[qCn hy]at hz'
       have hz':z∈W.take t:=by
        rcases List.mem_append.1 hz' with h1|h1
        ·exact h1
        grind
       have hzr':=w1.rng z (List.mem_of_mem_take hz')
       rw[List.getElem?_set_ne (by omega)]
       exact hall9 z hz'
    ·have hd9:=(hwr.done hge9).2
     rw[List.take_of_length_le hd9]at hall9
     have hI1:=I1
     rw[ec]at hI1
     have hl1:=hI1.len
     rw[List.length_append,List.length_singleton]at hl1
     refine⟨⟨by omega,by omega⟩,hsu,hJ ((qCP d m).length-(i+1)) _ _ (by omega) ⟨i+1,cls++[W],zs9,F8,?_,hil,rfl,by rw[e,ec],hI1,CL9,⟨hOf9.len,fun a c' hc' z hz'=>?_⟩,⟨hF8.1,fun a ha=>?_⟩⟩⟩
     ·rw[List.length_append,List.length_singleton];rfl
     ·by_cases h:a<cls.length
      ·rw[List.getElem?_append_left h]at hc'
       exact hOf9.at_ a c' hc' z hz'
      ·rw[List.getElem?_append_right (by omega)]at hc'
       have ha0:a-cls.length=0:=by
        grind
       rw[ha0]at hc'
       cases hc'
       rw[hall9 z hz',show a=cls.length by omega]
     ·rw[hF8.2 a ha]
      congr 1
      rw[List.flatten_append,List.flatten_singleton]
      simp
  ·have hdn:=(hor.done hge).2
   rw[List.take_of_length_le hdn]at hcl
   rw[hR]
   refine⟨out,zs,rfl,CL.oo,?_⟩
   unfold qAK
   rw[if_neg (by omega)]
   rw[hcl]at hOf;exact hOf
 ·have c2:¬k=2:=c2
  have c3:¬k=3:=c3
  have c4:¬k=4:=c4
  have e:qCL d m k=qHi [] m.nodes.length:=by grind [qCL]
  rw[e]at ok fin
  exact qGu C2 List.length_replicate (qEk ho0) (far (Mem.sub.refl _) ho0) ok.1 hN hs.1 (fin (by omega))
end
def plF(d:Ds)(m:Mm)(k size:Int):Int:=if qAx d m=true then (if 1<=k/\k<=4/\1<=size/\size<=64 then 0 else 2) else 1
section
variable{V:Mem}{d:Ds}{m:Mm}{size:Nat}
theorem c14[Tab V](hd:Ds.Ok V d)(hm:Mm.Ok V m){k size:Int} :
  Tri Tryz.prog 14 #[d.v,m.v,.int .i64 k,.int .i64 size] V fun e V'=>∃s:Sl,e=.returned (.tuple #[s.v,.int .i64 (plF d m k size)])/\V.sub V'/\(plF d m k size≠0->s.n=0)/\(plF d m k size=0->∃zs,Sx.Own V V' 3 1 s (zs.flatMap qAe)/\qAK d m k size.toNat zs):=by
 obtain⟨R,hR⟩:∃R:Ending->Mem->Prop,R=fun e V'=>∃s:Sl,e=.returned (.tuple #[s.v,.int .i64 (plF d m k size)])/\V.sub V'/\(plF d m k size≠0->s.n=0)/\(plF d m k size=0->∃zs,Sx.Own V V' 3 1 s (zs.flatMap qAe)/\qAK d m k size.toNat zs):=⟨_,rfl⟩
 rw[<- hR]
 refine x14 ?_
 unfold w14
 have bad:∀f:Int,f≠0->plF d m k size=f->R (.returned (.tuple #[.slice none 0 0,.int .i64 f])) V:=fun f h0 hf=>by
  rw[hR]
  exact⟨⟨none,0,0⟩,by rw[hf];rfl,Mem.sub.refl _,fun _=>rfl,fun h=>absurd (hf.symm.trans h) h0⟩
 refine(c44 hd hm).call ⟨_,rfl,fun hmv=>?_,fun h=>bad 1 (by decide) (by grind [plF])⟩
 have out:¬(1<=k/\k<=4/\1<=size/\size<=64)->R (.returned (.tuple #[.slice none 0 0,.int .i64 2])) V:=fun h=>bad 2 (by decide) (by grind [plF])
 refine⟨fun h=>out (by omega),fun h1=>⟨fun h=>out (by omega),fun h2=>⟨fun h=>out (by omega),fun h3=>⟨fun h=>out (by omega),fun h4=>?_⟩⟩⟩⟩
 obtain⟨z,rfl⟩:∃z:Nat,size=(z:Int):=⟨size.toNat,by omega⟩
 refine Tri.mono (c45 (size:=z) (by grind [qAx,hasT]) hmv hd hm (k:=k) (by omega) (by omega)) ?_
 rintro _ V2 ⟨s,zs,rfl,o,P⟩
 have e:plF d m k z=0:=by grind [plF]
 refine⟨s,rfl,?_⟩
 rw[hR]
 exact⟨s,by rw[e];rfl,o.sub,fun h=>absurd e h,fun _=>⟨zs,o,by simp_all⟩⟩
end
noncomputable def exE(d:Ds)(m:Mm)(size most fuel:Int):Int:=if qBs d m 0=0 then (if 1<=size/\size<=64/\1<=most/\most<=1000/\0<=fuel/\fuel<=1048576 then 0 else 2) else qBs d m 0
structure Pt (V0 V:Mem) (p t:Sl) (xs ys:List Int):Prop where
 op:Sx.Own V0 V 3 1 p (xs.flatMap qAe)
 ot:Sx.Own V0 V 3 1 t (ys.flatMap qAe)
 dj:∀c,Blk p c->¬Blk t c
section
variable{V0 V V':Mem}{p t:Sl}{xs ys zs:List Int}
theorem Pt.pushP(h:Pt V0 V p t xs ys){q:Sl}(o:Sx.Own (V.but p) V' 3 1 q (zs.flatMap qAe)):Pt V0 V' q t zs ys:=by
 obtain⟨h1,h2,h3⟩:=qDK h.op o
 exact⟨h1,Own.moveB h.ot h1.sub fun g cur hg hc=>by rw[h2 g (fun hb=>h.dj g hb hg) (qDb h.ot hg)];exact hc,fun c hc ht=>(h3 c hc).elim (fun hb=>h.dj c hb ht) (qDb h.ot ht)⟩
theorem Pt.pushT(h:Pt V0 V p t xs ys){q:Sl}(o:Sx.Own (V.but t) V' 3 1 q (zs.flatMap qAe)):Pt V0 V' p q xs zs:=by
 obtain⟨h1,h2,h3⟩:=qDK h.ot o
 exact⟨Own.moveB h.op h1.sub fun g cur hg hc=>by rw[h2 g (fun hb=>h.dj g hg hb) (qDb h.op hg)];exact hc,h1,fun c hc ht=>(h3 c ht).elim (fun hb=>h.dj c hc hb) (qDb h.op hc)⟩
end
section
variable{V:Mem}{d:Ds}{m:Mm}
theorem c51[Tab V](hd:Ds.Ok V d)(hm:Mm.Ok V m){size most fuel:Int}:Tri Tryz.prog 51 #[d.v,m.v,.int .i64 size,.int .i64 most,.int .i64 fuel] V fun e V'=>e=.returned (.int .i64 (exE d m size most fuel))/\V.sub V':=by
 refine x51 ?_
 unfold w51
 have e:scrE d 0 m []=qBs d m 0:=by
  unfold scrE
  by_cases h:qBs d m 0=0
  ·rw[if_pos h,h];rfl
  ·rw[if_neg h]
 refine Tri.mono (c33 hd hm (l:=qAL) (cs:=[]) ⟨qAc.nil,by simp⟩ (F:=0) (.inl (by omega))) ?_
 rintro _ V1 ⟨hs,⟨h0,rfl⟩|⟨h0,o,a,b,nd,-,-,-,-,rfl⟩⟩
 ·rw[e]at h0
  refine⟨qAL,qAL,qAL,_,rfl,fun h=>absurd (e ▸ h) h0,fun _=>⟨?_,hs⟩⟩
  unfold exE
  rw[if_neg h0,e]
 ·rw[e]at h0
  have out:¬(1<=size/\size<=64/\1<=most/\most<=1000/\0<=fuel/\fuel<=1048576)->exE d m size most fuel=2:=fun h=>by unfold exE;rw[if_pos h0,if_neg h]
  have bad:¬(1<=size/\size<=64/\1<=most/\most<=1000/\0<=fuel/\fuel<=1048576)->Ending.returned (.int .i64 2)=.returned (.int .i64 (exE d m size most fuel))/\V.sub V1:=fun h=>⟨by rw[out h],hs⟩
  refine⟨o,a,b,0,rfl,fun _=>⟨fun h=>bad (by omega),fun h1=>⟨fun h=>bad (by omega),fun h2=>⟨fun h=>bad (by omega),fun h3=>⟨fun h=>bad (by omega),fun h4=>⟨fun h=>bad (by omega),fun h5=>⟨fun h=>bad (by omega),fun h6=>⟨?_,hs⟩⟩⟩⟩⟩⟩⟩,fun h=>absurd rfl h⟩
  unfold exE
  rw[if_pos h0,if_pos (by omega)]
end
end Go.Proofs
namespace Go.Proofs
open Go Go.Sx
def blkS(size:Int)(s:List Int×List Int)(a:Int×Int×Int):List Int×List Int :=
 (if a.1=3 then s.1++[qCa s.1 size] else s.1,if 0<a.2.1 then s.2++[(if a.1=3 then s.1++[qCa s.1 size] else s.1).getD (a.2.1-1).toNat 0] else s.2)
def qBZ(size:Int)(lg:List (Int×Int×Int))(pl:List Int):List Int×List Int:=lg.foldl (blkS size) (pl,[])
theorem qDi{size:Int}{lg:List (Int×Int×Int)}{pl:List Int}{i:Nat}{a:Int×Int×Int}(h:lg[i]?=some a):qBZ size (lg.take (i+1)) pl=blkS size (qBZ size (lg.take i) pl) a:=by
 grind [qBZ,List.take_add_one]
theorem qCX{α:Type}{p:Nat->Prop}(l:List α)(h0:p 0)(h:∀i a,l[i]?=some a->p i->p (i+1)):∀i,i<=l.length->p i
 | 0,_=>h0
 | i+1,hi=>h i _ (List.getElem?_eq_getElem (show i<l.length by omega)) (qCX l h0 h i (by omega))
theorem qHF{l:List (Int×Int×Int)}{i:Nat}{x:Int×Int×Int}(h:l[i]?=some x):alN (l.take (i+1))=alN (l.take i)+if x.1=3 then 1 else 0:=by
 unfold alN
 rw[List.take_add_one,h,List.filter_append,List.length_append]
 grind
section
variable{size:Int}{lg:List (Int×Int×Int)}{pl:List Int}
theorem blk_len(i:Nat)(hi:i<=lg.length):(qBZ size (lg.take i) pl).1.length=pl.length+alN (lg.take i):=by
 refine qCX (p:=fun i=>(qBZ size (lg.take i) pl).1.length=pl.length+alN (lg.take i)) lg rfl (fun i a h ih=>?_) i hi
 rw[qDi h,qHF h]
 grind [blkS]
theorem blk_tr(i:Nat)(hi:i<=lg.length):(qBZ size (lg.take i) pl).2.length=qBe (lg.take i):=by
 refine qCX (p:=fun i=>(qBZ size (lg.take i) pl).2.length=qBe (lg.take i)) lg rfl (fun i a h ih=>?_) i hi
 rw[qDi h,qIe h]
 unfold blkS
 by_cases c:0<a.2.1
 ·simp_all
 grind
theorem blk_pre(i:Nat)(hi:i<=lg.length):pl <+: (qBZ size (lg.take i) pl).1:=by
 refine qCX (p:=fun i=>pl <+: (qBZ size (lg.take i) pl).1) lg (List.prefix_refl _) (fun i a h ih=>?_) i hi
 rw[qDi h]
 grind [blkS]
theorem furth_hi{l:List Int}{M:Int}(h:∀b∈l,b<=M)(h0:-1<=M):qCa l size<=M+1:=by
 obtain⟨h1,h2,h3,-⟩:=qCE l
 grind [qDx,qCa]
theorem blk_rng{M:Int}(h:∀b∈pl,0<=b/\b<=M)(h0:-1<=M)(i:Nat)(hi:i<=lg.length):(∀b∈(qBZ size (lg.take i) pl).1,0<=b/\b<=M+alN (lg.take i))/\∀b∈(qBZ size (lg.take i) pl).2,0<=b/\b<=M+alN (lg.take i)+1:=by
 refine qCX (p:=fun i=>(∀b∈(qBZ size (lg.take i) pl).1,0<=b/\b<=M+alN (lg.take i))/\∀b∈(qBZ size (lg.take i) pl).2,0<=b/\b<=M+alN (lg.take i)+1) lg ⟨fun b hb=>?_,fun b hb=>by cases hb⟩ (fun i a h ih=>?_) i hi
 ·have:=h b hb
  omega
 obtain⟨ih1,ih2⟩:=ih
 have hn:=qHF h
 have key:∀b∈(if a.1=3 then (qBZ size (lg.take i) pl).1++[qCa (qBZ size (lg.take i) pl).1 size] else (qBZ size (lg.take i) pl).1),0<=b/\b<=M+alN (lg.take (i+1)):=fun b hb=>by
  by_cases c:a.1=3
  ·rw[if_pos c]at hb hn
   rcases List.mem_append.1 hb with hb|hb
   ·grind
   ·rw[List.mem_singleton.1 hb]
    have h1:=qKA (qBZ size (lg.take i) pl).1 size
    have h2:=furth_hi (size:=size) (fun b hb=>(ih1 b hb).2) (by omega)
    omega
  simp_all
 rw[qDi h]
 unfold blkS
 refine⟨key,fun b hb=>?_⟩
 by_cases c:0<a.2.1
 ·simp only[if_pos c]at hb
  rcases List.mem_append.1 hb with hb|hb
  ·grind
  ·rw[List.mem_singleton.1 hb,List.getD_eq_getElem?_getD]
   cases e:(if a.1=3 then (qBZ size (lg.take i) pl).1++[qCa (qBZ size (lg.take i) pl).1 size] else (qBZ size (lg.take i) pl).1)[(a.2.1-1).toNat]? with
   | none=>simp only[Option.getD_none];omega
   | some y=>have:=key y (List.mem_of_getElem? e);simp only[Option.getD_some];omega
 grind
theorem blk_plc(h:Plc pl size)(hl:Low pl)(hs:1<=size)(hn:pl.length+alN lg<=4096)(i:Nat)(hi:i<=lg.length):Plc (qBZ size (lg.take i) pl).1 size/\Low (qBZ size (lg.take i) pl).1:=by
 have mono:∀j,j<=lg.length->alN (lg.take j)<=alN lg:=fun j _=>by
  grind [alN,List.take_sublist]
 refine qCX (p:=fun i=>Plc (qBZ size (lg.take i) pl).1 size/\Low (qBZ size (lg.take i) pl).1) lg ⟨h,hl⟩ (fun i a h ih=>?_) i hi
 have hlt:=(List.getElem?_eq_some_iff.1 h).1
 have h1:=qHF h
 have h2:=mono (i+1) hlt
 have h3:=blk_len (size:=size) (pl:=pl) i (Nat.le_of_lt hlt)
 rw[qDi h]
 unfold blkS
 by_cases c:a.1=3
 ·simp only[if_pos c]at h1 ⊢
  grind [furth_ok]
 simp_all
end
theorem blk_own{n m:Nat}{lg:List (Int×Int×Int)}(L:qKP n lg m)(i:Nat)(hi:i<=lg.length) :
  qBZ 1 (lg.take i) ((List.range n).map fun i:Nat=>(i:Int))=((List.range (n+alN (lg.take i))).map fun i:Nat=>(i:Int),((lg.take i).filter fun a=>decide (0<a.2.1)).map fun a=>a.2.1-1):=by
 refine qCX (p:=fun i=>qBZ 1 (lg.take i) ((List.range n).map fun i:Nat=>(i:Int))=((List.range (n+alN (lg.take i))).map fun i:Nat=>(i:Int),((lg.take i).filter fun a=>decide (0<a.2.1)).map fun a=>a.2.1-1)) lg rfl (fun i a h ih=>?_) i hi
 obtain⟨k1,k2,k3,k4,-⟩:=L.at_ i a h
 have hn:=qHF h
 have key:(if a.1=3 then ((List.range (n+alN (lg.take i))).map fun i:Nat=>(i:Int))++[qCa ((List.range (n+alN (lg.take i))).map fun i:Nat=>(i:Int)) 1] else (List.range (n+alN (lg.take i))).map fun i:Nat=>(i:Int))=(List.range (n+alN (lg.take (i+1)))).map fun i:Nat=>(i:Int):=by
  by_cases c:a.1=3
  ·rw[if_pos c]at hn ⊢
   rw[furth_own,hn,<- Nat.add_assoc,List.range_succ,List.map_append];rfl
  simp_all
 have ef:((lg.take (i+1)).filter fun a=>decide (0<a.2.1)).map (fun a=>a.2.1-1)=((lg.take i).filter fun a=>decide (0<a.2.1)).map (fun a=>a.2.1-1)++if 0<a.2.1 then [a.2.1-1] else []:=by
  grind [List.take_add_one]
 rw[qDi h,ih]
 unfold blkS
 simp only[key]
 refine Prod.ext rfl ?_
 rw[ef]
 by_cases c:0<a.2.1
 ·simp only[if_pos c]
  congr 2
  have hlt:(a.2.1-1).toNat<n+alN (lg.take (i+1)):=by
   grind
  rw[List.getD_eq_getElem?_getD,List.getElem?_map,List.getElem?_range hlt]
  grind
 grind
end Go.Proofs
namespace Go.Proofs
open Go Go.Sx
attribute [local irreducible] Go.Sx.Tri
theorem alN_le(l:List (Int×Int×Int))(i:Nat):alN (l.take i)<=i:=by
 unfold alN
 refine Nat.le_trans (List.length_filter_le _ _) ?_
 rw[List.length_take];omega
section
variable{V V0:Mem}{d:Ds}{F:Nat}{m:Mm}{nm:ByteArray}{args:List Int}{l:Sl}
theorem play_gr(G:qAz d m)(hc:qDh d m nm args=0):Gr F 0 (qBR m) (qBM d F (qCU d nm) args (qBR m)).st:=by
 obtain⟨i,q,hi,hq,hval⟩:=qIG hc
 rw[hi]
 exact(play_snd (F:=F) (qHp G.valid G.chk) hq (qKx G) (qAk (qDJ (qED m).symm) hval)).gr
end
section
variable{size:Int}{lg:List (Int×Int×Int)}{pl:List Int}
theorem blk_pl0(h:Pl0 pl size)(hs:1<=size)(i:Nat)(hi:i<=lg.length):Pl0 (qBZ size (lg.take i) pl).1 size:=by
 refine qCX (p:=fun i=>Pl0 (qBZ size (lg.take i) pl).1 size) lg h (fun i a h ih=>?_) i hi
 rw[qDi h]
 unfold blkS
 by_cases c:a.1=3
 ·simp_all [if_pos,furth_pl0]
 simp_all
end
section
variable{V:Mem}{d:Ds}{m:Mm}{nm:ByteArray}{args pl:List Int}{F:Nat}{size:Int}
theorem qHq(h:qBc d m nm args F=0):qKP m.nodes.length (qBM d F (qCU d nm) args (qBR m)).st.lg (qBM d F (qCU d nm) args (qBR m)).st.ns.length/\(qBM d F (qCU d nm) args (qBR m)).st.lg.length<=4000*F:=by
 obtain⟨G,hc⟩:=qGn h
 have g:=play_gr (F:=F) G hc
 generalize (qBM d F (qCU d nm) args (qBR m)).st=s at g ⊢
 obtain⟨l,h1,h2,-⟩:=g.lg
 have h3:=g.fu (Nat.zero_le _)
 have h4:=g.w
 have e:(qBR m).lg=[]:=rfl
 rw[e,List.nil_append]at h1
 subst h1
 rw[show (qBR m).ns.length=m.nodes.length from List.length_map ..]at h2
 rw[show (qBR m).lg.length=0 from rfl,show (qBR m).cm=0 from rfl,show (qBR m).tk=0 from rfl]at h4
 grind
def ExtP(V:Mem)(d:Ds)(F:Nat)(m:Mm)(nm:ByteArray)(args pl:List Int)(size:Int):Ending->Mem->Prop:=fun e V' =>
 (qBc d m nm args F≠0/\V.sub V'/\e=.returned (.tuple #[.agg #[.int .i64 0,.int .i64 0,.int .i64 0,.int .i64 0,.int .i64 0,qAL.v,qAL.v,qAL.v,qAL.v],.int .i64 (qBc d m nm args F)])) ∨
 (qBc d m nm args F=0/\∃r:Rx Int,∃(gs ns ls:Sl) (nd:List Nd) (p t:Sl),r=qBM d F (qCU d nm) args (qBR m)/\Lay V V' gs ns ls nd r.st/\Pt V V' p t (qBZ size r.st.lg pl).1 (qBZ size r.st.lg pl).2/\e=.returned (.tuple #[.agg #[.int .i64 (outC r),.int .i64 (outV r),.int .i64 r.st.cm,.int .i64 (qBe r.st.lg),.int .i64 0,gs.v,ns.v,p.v,t.v],.int .i64 0]))
theorem c52[Tab V]{l ps:Sl}{M:Int}(hd:Ds.Ok V d)(hm:Mm.Ok V m)(ha:qAc V l 1 (args.map qAe))(hF:F<=4000)(hp:qAc V ps 1 (pl.map qAe))(hpl:pl.length=m.nodes.length)(h0:Pl0 pl size)(hs:1<=size)(hb:∀b∈pl,b<=M)(hM:-1<=M/\M<=100000)(hN:∀r,r=qBM d F (qCU d nm) args (qBR m)->qBc d m nm args F=0->r.st.ns.length<=4096) :
  Tri Tryz.prog 52 #[d.v,m.v,ps.v,.int .i64 size,.agg #[.string nm,l.v],.int .i64 F] V (ExtP V d F m nm args pl size):=by
 obtain⟨R,hR⟩:∃R,R=ExtP V d F m nm args pl size:=⟨_,rfl⟩
 rw[<- hR]
 refine x52 ?_
 unfold w52
 refine Tri.mono (c24 hd hm ha hF) ?_
 rintro _ V1 (⟨hc,s1,rfl⟩|⟨hc,r,gs,ns,ls,nd,hr,L,rfl⟩)
 ·refine⟨0,0,0,0,0,qAL,qAL,_,rfl,fun h=>absurd h hc,fun _=>?_⟩
  rw[hR];exact .inl ⟨hc,s1,rfl⟩
 have s1:=L.sub
 haveI:Tab V1:=Tab.sub (V:=V) inferInstance s1
 refine⟨_,_,_,_,_,_,_,_,rfl,fun _=>?_,fun h=>absurd rfl h⟩
 refine Tri.mono (c36 (nm:=nm) (hd.sub s1) (hm.sub s1) (ha.sub s1) hF) ?_
 rintro _ V2 (⟨hc2,-,-⟩|⟨-,r2,lt,hr2,ol,rfl⟩)
 ·exact absurd hc hc2
 rw[<- hr]at hr2
 subst hr2
 refine⟨lt,_,rfl,fun _=>?_,fun h=>absurd rfl h⟩
 have s2:=s1.trans ol.sub
 obtain⟨hlog,hlen⟩:=qHq hc
 rw[<- hr]at hlog hlen
 have hns:=hN _ hr hc
 refine Tri.mono (c42 (hp.sub s2) (by rw[hpl];have:=hlog.len;omega)) ?_
 rintro _ V3 ⟨p3,rfl,o3⟩
 refine⟨p3,rfl,?_⟩
 have hln:=hlog.len
 have T0:Pt V2 V3 p3 ⟨none,0,0⟩ pl []:=⟨o3,Own.nil o3.sub _ _,fun c _ h=>absurd rfl h.1⟩
 refine⟨fun n ys V4=>∃(i:Nat) (p t:Sl),ys=[.int .i64 (outC r2),.int .i64 (outV r2),.int .i64 r2.st.cm,.int .i64 (qBe r2.st.lg),.int .i64 0,gs.v,ns.v,p.v,t.v,.int .i64 i]/\i<=r2.st.lg.length/\n=r2.st.lg.length-i/\Pt V2 V4 p t (qBZ size (r2.st.lg.take i) pl).1 (qBZ size (r2.st.lg.take i) pl).2,r2.st.lg.length,⟨0,p3,⟨none,0,0⟩,rfl,Nat.zero_le _,rfl,T0⟩,?_⟩
 rintro n V4 v26 v27 v28 v29 v30 v31 v32 v33 v34 v35 ⟨i,p,t,hys,hi,rfl,T⟩ J hJ
 simp only[List.cons.injEq,Value.int.injEq,true_and,and_true]at hys
 obtain⟨rfl,rfl,rfl,rfl,rfl,h5,h6,h7,h8,rfl⟩:=hys
 cases qBE _ _ h5;cases qBE _ _ h6;cases qBE _ _ h7;cases qBE _ _ h8
 have hlr:=(Own.growS ol (T.op.sub)).rows (row:=qGa) (xs:=r2.st.lg) (fun _=>rfl) (by decide)
 refine⟨fun hlt=>?_,fun hge=>?_⟩
 ·obtain⟨a,ham,hia,-,hil,hpn,hz,hrow⟩:=hlr.get hlt
  obtain⟨k1,k2,k3,k4,-⟩:=hlog.at_ i a hia
  have hS:=qDi (size:=size) (pl:=pl) hia
  have hbl:=blk_len (size:=size) (pl:=pl) i (Nat.le_of_lt hil)
  have hbt:=blk_tr (size:=size) (pl:=pl) i (Nat.le_of_lt hil)
  have hal:=alN_le r2.st.lg i
  have hnl:qBe (r2.st.lg.take i)<=16000000:=by
   grind [qBe]
  have hmono:alN (r2.st.lg.take i)<=alN r2.st.lg:=by
   grind [alN,List.take_sublist]
  refine⟨hpn,hz,hlt,a.1,a.2.1,a.2.2,hrow,fun c=>?_,fun c=>?_⟩
  ·have c:a.1=3:=c
   have hrg:=(blk_rng (size:=size) (lg:=r2.st.lg) (pl:=pl) (M:=M) (fun b hb'=>⟨h0.lo b hb',hb b hb'⟩) hM.1 i (Nat.le_of_lt hil)).1
   refine(c41 (size:=size) (T.op.rows (row:=qAe) (fun _=>rfl) (by decide)) (blk_pl0 h0 hs i (Nat.le_of_lt hil)) (fun b hb'=>by grind)).call ⟨_,rfl,fun b5 hb5=>?_⟩
   refine oneG (row:=qAe) qFs (x:=qCa (qBZ size (r2.st.lg.take i) pl).1 size) (s:=v33) T.op.but hb5 (by omega) rfl rfl (fun _=>rfl) fun s5 V5 o5=>⟨s5,rfl,?_⟩
   have T5:=T.pushP o5
   obtain⟨X,hX⟩:∃X,X=(if a.1=3 then (qBZ size (r2.st.lg.take i) pl).1++[qCa (qBZ size (r2.st.lg.take i) pl).1 size] else (qBZ size (r2.st.lg.take i) pl).1):=⟨_,rfl⟩
   have hX2:=hX
   rw[if_pos c]at hX2
   rw[<- hX2]at T5
   have hXl:X.length=pl.length+alN (r2.st.lg.take i)+1:=by simp_all
   have:=k2 c
   refine⟨fun c2=>?_,fun c2=>?_⟩
   ·have c2:0<a.2.1:=c2
    obtain⟨q,hq⟩:∃q:Nat,a.2.1-1=(q:Int):=⟨(a.2.1-1).toNat,by omega⟩
    obtain⟨d1,d2,d3,d4⟩:=qBV (T5.op.rows (row:=qAe) (xs:=X) (fun _=>rfl) (by decide)) (List.getElem?_eq_getElem (show q<X.length by omega))
    rw[hq]
    refine⟨⟨by omega,by omega⟩,d1,d2,d3,_,d4,fun b hb=>?_⟩
    refine oneG (row:=qAe) qFs (x:=X[q]'(by omega)) (s:=v34) T5.ot.but hb (by omega) rfl rfl (fun _=>rfl) fun s6 V6 o6=>⟨s6,rfl,hlr.succ hlt,?_⟩
    refine hJ (r2.st.lg.length-(i+1)) _ _ (by omega) ⟨i+1,s5,s6,rfl,hil,rfl,?_⟩
    rw[hS]
    have T6:=T5.pushT o6
    unfold blkS
    rw[if_pos c2]
    have e1:X.getD (a.2.1-1).toNat 0=X[q]'(by omega):=by rw[hq,Int.toNat_natCast,List.getD_eq_getElem?_getD,List.getElem?_eq_getElem (show q<X.length by omega)];rfl
    simp_all
   omega
  ·have c:¬a.1=3:=c
   have T5:=T
   obtain⟨X,hX⟩:∃X,X=(if a.1=3 then (qBZ size (r2.st.lg.take i) pl).1++[qCa (qBZ size (r2.st.lg.take i) pl).1 size] else (qBZ size (r2.st.lg.take i) pl).1):=⟨_,rfl⟩
   have hX2:=hX
   rw[if_neg c]at hX2
   rw[<- hX2]at T5
   have hXl:X.length=pl.length+alN (r2.st.lg.take i):=by rw[hX2,hbl]
   have:=k3 c
   refine⟨fun c2=>?_,fun c2=>?_⟩
   ·have c2:0<a.2.1:=c2
    obtain⟨q,hq⟩:∃q:Nat,a.2.1-1=(q:Int):=⟨(a.2.1-1).toNat,by omega⟩
    obtain⟨d1,d2,d3,d4⟩:=qBV (T5.op.rows (row:=qAe) (xs:=X) (fun _=>rfl) (by decide)) (List.getElem?_eq_getElem (show q<X.length by omega))
    rw[hq]
    refine⟨⟨by omega,by omega⟩,d1,d2,d3,_,d4,fun b hb=>?_⟩
    refine oneG (row:=qAe) qFs (x:=X[q]'(by omega)) (s:=v34) T5.ot.but hb (by omega) rfl rfl (fun _=>rfl) fun s6 V6 o6=>⟨s6,rfl,hlr.succ hlt,?_⟩
    refine hJ (r2.st.lg.length-(i+1)) _ _ (by omega) ⟨i+1,v33,s6,rfl,hil,rfl,?_⟩
    rw[hS]
    have T6:=T5.pushT o6
    unfold blkS
    rw[if_pos c2]
    have e1:X.getD (a.2.1-1).toNat 0=X[q]'(by omega):=by rw[hq,Int.toNat_natCast,List.getD_eq_getElem?_getD,List.getElem?_eq_getElem (show q<X.length by omega)];rfl
    simp_all
   ·have c2:¬0<a.2.1:=c2
    refine⟨hlr.succ hlt,hJ (r2.st.lg.length-(i+1)) _ _ (by omega) ⟨i+1,v33,v34,rfl,hil,rfl,?_⟩⟩
    grind [blkS]
 ·have hdn:=(hlr.done hge).2
  rw[List.take_of_length_le hdn]at T
  rw[hR]
  refine .inr ⟨hc,r2,gs,ns,ls,nd,v33,v34,hr,L.grow (ol.sub.trans T.op.sub),⟨T.op.narrow s2,T.ot.narrow s2,T.dj⟩,rfl⟩
end
section
variable{V:Mem}{d:Ds}{m:Mm}{nm:ByteArray}{args pl:List Int}{F:Nat}{size most:Int}
theorem qEF(h:qBc d m nm args F=0):(qBM d F (qCU d nm) args (qBR m)).st.ns.length<=4096:=by
 obtain⟨G,hc⟩:=qGn h
 have g:=play_good (F:=F) G hc
 have h1:=(qAi g.mem).2.1
 generalize (qBM d F (qCU d nm) args (qBR m)).st=s at h1 ⊢
 rw[show s.mm.nodes.length=s.ns.length from List.length_map ..]at h1
 exact h1
noncomputable def qFa(d:Ds)(m:Mm)(pl:List Int)(size most:Int)(nm:ByteArray)(args:List Int)(F:Int):Int:=if exE d m size most F=0 then (if pl.length=m.nodes.length/\plB pl size=true then qBc d m nm args F else 30) else exE d m size most F
theorem ex_zero{F:Int}(h:exE d m size most F=0):qAz d m/\1<=size/\size<=64/\1<=most/\most<=1000/\0<=F/\F<=1048576:=by
 grind [exE,qBs,absurd]
def ExrP(V:Mem)(d:Ds)(F:Int)(m:Mm)(nm:ByteArray)(args pl:List Int)(size most:Int):Ending->Mem->Prop:=fun e V' =>
 (qFa d m pl size most nm args F≠0/\V.sub V'/\e=.returned (.tuple #[.agg #[.int .i64 0,.int .i64 0,.int .i64 0,.int .i64 0,.int .i64 0],.agg #[qAL.v,qAL.v],qAL.v,.int .i64 (qFa d m pl size most nm args F)])) ∨
 (qFa d m pl size most nm args F=0/\∃r:Rx Int,∃(gs ns ls:Sl) (nd:List Nd) (p:Sl),r=qBM d F.toNat (qCU d nm) args (qBR m)/\Lay V V' gs ns ls nd r.st/\qAc V' p 1 ((qBZ size r.st.lg pl).1.map qAe)/\e=.returned (.tuple #[.agg #[.int .i64 (outC r),.int .i64 (outV r),.int .i64 r.st.cm,.int .i64 (qBe r.st.lg),.int .i64 (qIP most.toNat [] (qBZ size r.st.lg pl).2)],.agg #[gs.v,ns.v],p.v,.int .i64 0]))
theorem c19[Tab V]{l ps:Sl}{fu:Int}(hd:Ds.Ok V d)(hm:Mm.Ok V m)(ha:qAc V l 1 (args.map qAe))(hF:fu<=4000∨1048576<fu)(hp:qAc V ps 1 (pl.map qAe)) :
  Tri Tryz.prog 19 #[d.v,m.v,ps.v,.int .i64 size,.int .i64 most,.agg #[.string nm,l.v],.int .i64 fu] V (ExrP V d fu m nm args pl size most):=by
 obtain⟨R,hR⟩:∃R,R=ExrP V d fu m nm args pl size most:=⟨_,rfl⟩
 rw[<- hR]
 refine x19 ?_
 unfold w19
 have bad:∀{k:Int} {V':Mem},qFa d m pl size most nm args fu=k->k≠0->V.sub V'->R (.returned (.tuple #[.agg #[.int .i64 0,.int .i64 0,.int .i64 0,.int .i64 0,.int .i64 0],.agg #[qAL.v,qAL.v],qAL.v,.int .i64 k])) V':=fun h hk hs=>by rw[hR];exact .inl ⟨by rw[h];exact hk,hs,by rw[h]⟩
 have hnn:=hm.nodes.n_eq
 refine Tri.mono (c51 hd hm) ?_
 rintro _ V1 ⟨rfl,s1⟩
 haveI:Tab V1:=Tab.sub (V:=V) inferInstance s1
 refine⟨_,rfl,fun h0=>?_,fun h0=>⟨fun h=>absurd h h0,fun _=>bad (by grind [qFa]) h0 s1⟩⟩
 have h0:exE d m size most fu=0:=h0
 obtain⟨G,hs1,hs2,hm1,hm2,hf0,hf1⟩:=ex_zero h0
 obtain⟨F,rfl⟩:∃F:Nat,fu=(F:Int):=⟨fu.toNat,by omega⟩
 have hF:F<=4000:=by omega
 refine(c40 (size:=size) (n:=(m.ns.n:Int)) (hp.sub s1)).call ⟨_,rfl,fun h1=>?_,fun h1=>bad (k:=30) ?_ (by decide) s1⟩
 ·have h1:(decide ((pl.length:Int)=(m.ns.n:Int))&&plB pl size)=true:=h1
  rw[Bool.and_eq_true,decide_eq_true_eq,hnn]at h1
  have h1l:pl.length=m.nodes.length:=by omega
  obtain⟨hl4,hplc⟩:=qFG.1 h1.2
  have er:qFa d m pl size most nm args F=qBc d m nm args F:=by grind [qFa]
  refine⟨fun _=>?_,fun h=>absurd h0 h⟩
  refine Tri.mono (c52 (M:=4095) (pl:=pl) (size:=size) (nm:=nm) (hd.sub s1) (hm.sub s1) (ha.sub s1) hF (hp.sub s1) h1l hplc.pl0 hs1 (fun b hb=>by have:=(hplc.rng b hb).2;omega) (by omega) fun r hr hc=>by rw[hr];exact qEF hc) ?_
  rintro _ V2 (⟨hc,s2,rfl⟩|⟨hc,r,gs,ns,ls,nd,p,t,hr,L,T,rfl⟩)
  ·exact⟨0,0,0,0,0,qAL,qAL,qAL,qAL,_,rfl,fun h=>absurd h hc,fun _=>bad er hc (s1.trans s2)⟩
  have s2:=T.op.sub
  obtain⟨hlog,hlen⟩:=qHq hc
  rw[<- hr]at hlog hlen
  have hns:r.st.ns.length<=4096:=by rw[hr];exact qEF hc
  have hln:=hlog.len
  have hrg:=(blk_rng (size:=size) (lg:=r.st.lg) (pl:=pl) (M:=4095) (fun b hb=>⟨(hplc.rng b hb).1,by have:=(hplc.rng b hb).2;omega⟩) (by omega) r.st.lg.length (Nat.le_refl _)).2
  have htl:=blk_tr (size:=size) (lg:=r.st.lg) (pl:=pl) r.st.lg.length (Nat.le_refl _)
  rw[List.take_length]at hrg htl
  have hnl:qBe r.st.lg<=16000000:=by
   grind [qBe]
  refine⟨_,_,_,_,_,gs,ns,p,t,_,rfl,fun _=>?_,fun h=>absurd rfl h⟩
  refine Tri.mono (c53 (m:=most)) ?_
  rintro _ V3 (⟨h,-⟩|⟨-,q,rfl,C⟩)
  ·exact absurd ⟨hm1,hm2⟩ h
  refine⟨some ⟨q,0,none⟩,0,rfl,fun _=>?_,fun h=>absurd rfl h⟩
  refine Tri.mono (c54 C (by omega) (T.ot.rows (row:=qAe) (fun _=>rfl) (by decide)) (fun x hx=>by grind) (by omega)) ?_
  rintro _ V4 ⟨rfl,C4⟩
  refine⟨_,rfl,?_⟩
  have s4:=C4.sub
  rw[hR]
  exact .inr ⟨er.trans hc,r,gs,ns,ls,nd,p,hr,(L.narrow s1).grow s4,(T.op.rows (row:=qAe) (fun _=>rfl) (by decide)).sub s4,rfl⟩
 grind [qFa]
end
section
variable{V:Mem}{d:Ds}{m:Mm}{nm:ByteArray}{args pl:List Int}{F:Nat}{size:Int}
def ExtrP(V:Mem)(d:Ds)(F:Int)(m:Mm)(nm:ByteArray)(args pl:List Int)(size:Int):Ending->Mem->Prop:=fun e V'=>V.sub V' /\
 ((qFa d m pl size 1 nm args F≠0/\e=.returned (.tuple #[qAL.v,.int .i64 (qFa d m pl size 1 nm args F)])) ∨
 (qFa d m pl size 1 nm args F=0/\65536<(qBZ size (qBM d F.toNat (qCU d nm) args (qBR m)).st.lg pl).2.length/\e=.returned (.tuple #[qAL.v,.int .i64 4])) ∨
 (qFa d m pl size 1 nm args F=0/\¬65536<(qBZ size (qBM d F.toNat (qCU d nm) args (qBR m)).st.lg pl).2.length/\∃t:Sl,e=.returned (.tuple #[t.v,.int .i64 0])/\qAc V' t 1 ((qBZ size (qBM d F.toNat (qCU d nm) args (qBR m)).st.lg pl).2.map qAe)))
theorem c20[Tab V]{l ps:Sl}{fu:Int}(hd:Ds.Ok V d)(hm:Mm.Ok V m)(ha:qAc V l 1 (args.map qAe))(hF:fu<=4000∨1048576<fu)(hp:qAc V ps 1 (pl.map qAe)) :
  Tri Tryz.prog 20 #[d.v,m.v,ps.v,.int .i64 size,.agg #[.string nm,l.v],.int .i64 fu] V (ExtrP V d fu m nm args pl size):=by
 obtain⟨R,hR⟩:∃R,R=ExtrP V d fu m nm args pl size:=⟨_,rfl⟩
 rw[<- hR]
 refine x20 ?_
 unfold w20
 have bad:∀{k:Int} {V':Mem},qFa d m pl size 1 nm args fu=k->k≠0->V.sub V'->R (.returned (.tuple #[qAL.v,.int .i64 k])) V':=fun h hk hs=>by rw[hR];exact⟨hs,.inl ⟨by rw[h];exact hk,by rw[h]⟩⟩
 have hnn:=hm.nodes.n_eq
 refine Tri.mono (c51 hd hm) ?_
 rintro _ V1 ⟨rfl,s1⟩
 haveI:Tab V1:=Tab.sub (V:=V) inferInstance s1
 refine⟨_,rfl,fun h0=>?_,fun h0=>⟨fun h=>absurd h h0,fun _=>bad (by unfold qFa;rw[if_neg h0]) h0 s1⟩⟩
 have h0:exE d m size 1 fu=0:=h0
 obtain⟨G,hs1,hs2,-,-,hf0,hf1⟩:=ex_zero h0
 obtain⟨F,rfl⟩:∃F:Nat,fu=(F:Int):=⟨fu.toNat,by omega⟩
 have hF:F<=4000:=by omega
 refine(c40 (size:=size) (n:=(m.ns.n:Int)) (hp.sub s1)).call ⟨_,rfl,fun h1=>?_,fun h1=>bad (k:=30) ?_ (by decide) s1⟩
 ·have h1:(decide ((pl.length:Int)=(m.ns.n:Int))&&plB pl size)=true:=h1
  rw[Bool.and_eq_true,decide_eq_true_eq,hnn]at h1
  have h1l:pl.length=m.nodes.length:=by omega
  obtain⟨hl4,hplc⟩:=qFG.1 h1.2
  have er:qFa d m pl size 1 nm args F=qBc d m nm args F:=by unfold qFa;rw[if_pos h0,if_pos ⟨h1l,h1.2⟩]
  refine⟨fun _=>?_,fun h=>absurd h0 h⟩
  refine Tri.mono (c52 (M:=4095) (pl:=pl) (size:=size) (nm:=nm) (hd.sub s1) (hm.sub s1) (ha.sub s1) hF (hp.sub s1) h1l hplc.pl0 hs1 (fun b hb=>by have:=(hplc.rng b hb).2;omega) (by omega) fun r hr hc=>by rw[hr];exact qEF hc) ?_
  rintro _ V2 (⟨hc,s2,rfl⟩|⟨hc,r,gs,ns,ls,nd,p,t,hr,L,T,rfl⟩)
  ·exact⟨0,0,0,0,0,qAL,qAL,qAL,qAL,_,rfl,fun h=>absurd h hc,fun _=>bad er hc (s1.trans s2)⟩
  have s2:=s1.trans T.op.sub
  have tr:=T.ot.rows (row:=qAe) (fun _=>rfl) (by decide)
  have hn:=tr.n_eq
  rw[hr]at tr hn
  rw[hR]
  have ef:((F:Int)).toNat=F:=Int.toNat_natCast F
  refine⟨_,_,_,_,_,gs,ns,p,t,_,rfl,fun _=>⟨fun h=>?_,fun h=>?_⟩,fun h=>absurd rfl h⟩
  ·have h:(65536:Int)<(t.n:Int):=h
   exact⟨s2,.inr (.inl ⟨er.trans hc,by rw[ef];omega,rfl⟩)⟩
  ·have h:¬(65536:Int)<(t.n:Int):=h
   exact⟨s2,.inr (.inr ⟨er.trans hc,by rw[ef];omega,t,rfl,tr⟩)⟩
 ·unfold qFa
  rw[if_pos h0,if_neg fun h=>h1 ?_]
  rw[h.2,hnn,h.1];simp
end
section
variable{V:Mem}{d:Ds}{m:Mm}
theorem c10(hd:Ds.Ok V d)(hm:Mm.Ok V m){fu:Int}:Tri Tryz.prog 10 #[d.v,m.v,.int .i64 fu] V fun e V'=>V'=V/\∃b:Bool,e=.returned (.bool b)/\(b=false->fu<=3000∨1048576<fu):=by
 refine x10 ?_
 unfold w10
 refine Tri.mono (greatC hd) ?_
 rintro _ _ ⟨rfl,b,rfl⟩
 refine⟨b,rfl,fun _=>⟨rfl,true,rfl,fun h=>by cases h⟩,fun _=>Tri.mono (manyC hm) ?_⟩
 rintro _ _ ⟨rfl,c,rfl⟩
 refine⟨c,rfl,fun _=>⟨rfl,true,rfl,fun h=>by cases h⟩,fun _=>⟨fun h=>⟨rfl,_,rfl,fun h2=>?_⟩,fun h=>⟨rfl,false,rfl,fun _=>?_⟩⟩⟩
 ·have:=of_decide_eq_false h2
  omega
 ·have h:¬3000<fu:=h
  omega
theorem c18{nm:ByteArray}{l:Sl}:Tri Tryz.prog 18 #[.agg #[.string nm,l.v]] V (RY V):=by
 refine x18 ?_
 unfold w18
 exact⟨fun _=>⟨rfl,true,rfl⟩,fun _=>⟨rfl,_,rfl⟩⟩
end
end Go.Proofs
namespace Go.Proofs
open Go Go.Sx
section
variable{d d':Ds}{m m':Mm}(hn:∀n,qAO d' m' n=qAO d m n)
include hn
theorem ent_same:∀(n:Nat) (s:Sr) (x:Int),qET d' m' n s x=qET d m n s x:=by
 intro n
 induction n with
 | zero=>intro s x;rfl
 | succ n ih =>
  intro s x
  have e:qET d' m' n=qET d m n:=funext fun s=>funext fun x=>ih s x
  unfold qET
  rw[hn,e]
theorem bfs_same(most:Nat)(but:List Int):∀(f:Nat) (l:List Int) (i:Nat),bfsP d' m' most but f l i=bfsP d m most but f l i:=by
 intro f
 induction f with
 | zero=>intro l i;rfl
 | succ f ih =>
  intro l i
  unfold bfsP
  simp only[ih,hn]
variable(hl:m'.nodes.length=m.nodes.length)
include hl
theorem wide_same(l:List Int)(most:Nat)(but:List Int):qDH d' m' l most but=qDH d m l most but:=by
 unfold qDH
 rw[hl]
 exact bfs_same hn _ _ _ _ _
theorem place_like(ht:tgt d'.globals m'.globals=tgt d.globals m.globals){k:Int}{size:Nat}{zs:List Int}(h:qAK d' m' k size zs):qAK d m k size zs:=by
 have e1:qHX d' m'=qHX d m:=by unfold qHX lookP;rw[ht,hl,show qET d' m' (m.nodes.length+1)=qET d m (m.nodes.length+1) from funext fun s=>funext fun x=>ent_same hn _ s x]
 have e2:qCP d' m'=qCP d m:=by unfold qCP;rw[e1,hl]
 have e3:qIJ d' m'=qIJ d m:=by
  unfold qIJ firstP
  rw[wide_same hn hl,ht,hl]
 have e4:cluS d' m' size=cluS d m size:=by
  funext s n
  unfold cluS
  rw[wide_same hn hl]
 unfold qAK qCL cluP at h ⊢
 rw[e2,e3,e4,hl]at h
 exact h
end
theorem place_same{d d':Ds}{m:Mm}(hf:∀t,qAq d' t=qAq d t)(hg:d'.globals=d.globals){k:Int}{size:Nat}{zs:List Int}(h:qAK d' m k size zs):qAK d m k size zs :=
 place_like (fun n=>by unfold qAO;simp only[hf]) rfl (by rw[hg]) h
end Go.Proofs
namespace Go.Proofs
open Go Go.Sx
def chM(a b s0 s1 s2 s3:Sl):Mm:=⟨a,[4],b,[⟨0,s0,[0]⟩,⟨0,s1,[1]⟩,⟨0,s2,[2]⟩,⟨0,s3,[3]⟩]⟩
section
variable{a b s0 s1 s2 s3:Sl}
theorem ch_valid:qAF qBY=true:=by kernel_rfl
theorem ch_chk:qIH qBY=none:=by kernel_rfl
theorem ch_mem:qAx qBY (chM a b s0 s1 s2 s3)=true:=by kernel_rfl
theorem ch_good:qAz qBY (chM a b s0 s1 s2 s3):=⟨ch_valid,ch_chk,ch_mem⟩
theorem ch_start:qDh qBY (chM a b s0 s1 s2 s3) qHa []=0:=by kernel_rfl
theorem ch_idx:qCU qBY qHa=0:=by kernel_rfl
theorem ch_run:(fun r:Rx Int=>(outC r,outV r,r.st.cm,qBe r.st.lg,(qBZ 2 r.st.lg [1,1,0,0]).1,qIP 1 [] (qBZ 2 r.st.lg [1,1,0,0]).2)) (qBM qBY 100 0 [] (qBR (chM a b s0 s1 s2 s3)))=(0,0,0,4,[1,1,0,0],2):=by kernel_rfl
theorem ch_ord:qCL qBY (chM a b s0 s1 s2 s3) 1=[1,2,3,4]:=by kernel_rfl
theorem ch_deep:qCP qBY (chM a b s0 s1 s2 s3)=[4,3,2,1]:=by kernel_rfl
theorem ch_clu:cluP qBY (chM a b s0 s1 s2 s3) 2 [4,3,2,1]=[[4,3],[2,1]]:=by kernel_rfl
end
end Go.Proofs
namespace Go.Proofs
open Go Go.Sx
section
variable{a b s0 s1 s2 s3:Sl}
theorem ch_pl1:qAK qBY (chM a b s0 s1 s2 s3) 1 2 [0,0,1,1]:=by
 unfold qAK
 rw[if_pos (by decide),ch_ord]
 refine⟨rfl,fun j n hj=>?_⟩
 match j,hj with
 | 0,hj=>cases hj;rfl
 | 1,hj=>cases hj;rfl
 | 2,hj=>cases hj;rfl
 | 3,hj=>cases hj;rfl
 | j+4,hj=>cases hj
theorem ch_pl4:qAK qBY (chM a b s0 s1 s2 s3) 4 2 [1,1,0,0]:=by
 unfold qAK
 rw[if_neg (by decide),ch_deep,ch_clu]
 refine⟨rfl,fun j c hj n hn=>?_⟩
 match j,hj with
 | 0,hj =>
  cases hj
  simp only[List.mem_cons,List.not_mem_nil,or_false]at hn
  rcases hn with rfl|rfl <;> rfl
 | 1,hj =>
  cases hj
  simp only[List.mem_cons,List.not_mem_nil,or_false]at hn
  rcases hn with rfl|rfl <;> rfl
 | j+2,hj=>cases hj
theorem ch_place{d:Ds}(SD:qIM qBY d){k:Int}{zs ys:List Int}(h:qAK d (chM a b s0 s1 s2 s3) k 2 zs)(h2:qAK qBY (chM a b s0 s1 s2 s3) k 2 ys):zs=ys :=
 place_eq ch_mem (by decide) (place_same SD.fields (congrArg Ds.globals SD.er).symm h) h2
end
end Go.Proofs
namespace Go.Proofs
open Go Go.Sx
attribute [local irreducible] Go.Sx.Tri
theorem qKg{d:Ds}{m:Mm}{k size:Int}(h:qAx d m=true)(h1:1<=k/\k<=4/\1<=size/\size<=64):plF d m k size=0:=by grind [plF]
section
variable{a b s0 s1 s2 s3:Sl}{d:Ds}(SD:qIM qBY d)
include SD
theorem ch_gd:qAz d (chM a b s0 s1 s2 s3):=qAz.same ch_good SD
theorem ch_exr:qFa d (chM a b s0 s1 s2 s3) [1,1,0,0] 2 1 qHa [] 100=0:=by
 have G:=ch_gd (a:=a) (b:=b) (s0:=s0) (s1:=s1) (s2:=s2) (s3:=s3) SD
 have h0:qBs d (chM a b s0 s1 s2 s3) 0=0:=by grind [qBs]
 have P:=(place_plc (a:=[1,1,0,0]) (ch_mem (a:=a) (b:=b) (s0:=s0) (s1:=s1) (s2:=s2) (s3:=s3)) (by decide) ch_pl4).1
 unfold qFa exE
 rw[if_pos h0,if_pos (by decide),if_pos ⟨by rfl,qFG.2 ⟨by decide,P⟩⟩,start_ok G (by decide),SD.cll,ch_start]
theorem ch_play{r:Rx Int}(hr:r=qBM d (100:Int).toNat (qCU d qHa) [] (qBR (chM a b s0 s1 s2 s3))):outC r=0/\outV r=0/\r.st.cm=0/\qBe r.st.lg=4/\(qBZ 2 r.st.lg [1,1,0,0]).1=[1,1,0,0]/\qIP (1:Int).toNat [] (qBZ 2 r.st.lg [1,1,0,0]).2=2:=by
 rw[SD.idx,ch_idx,SD.play]at hr
 grind [ch_run,qBM,qBY,qBR,chM,Prod.mk.injEq]
end
section
variable{V:Mem}
theorem qDP{V:Mem}{b n:Nat}{xs:List Int}(h:V b=some (.cells (xs.map (Value.int .i64)).toArray 3 (0,0)))(hn:n=xs.length)(hx:xs.length<=100):qAc V (qDG b n) 1 (xs.map qAe) :=
 qAc.cells (row:=qAe) (xs:=xs) h (by rw[qAW]) (fun _=>rfl) hn (Nat.le_trans hx (by decide))
theorem c9[Tab V]:PP 9 [] V (.bool true):=by
 refine Pur.mk (x9 ?_)
 unfold w9
 refine Tri.mono c37 ?_
 rintro _ V1 ⟨s1,d,rfl,SD,hd⟩
 refine⟨_,_,_,_,_,_,_,_,rfl,fun b8 h8 b9 h9 b10 h10 b11 h11 b12 h12 b13 h13=>?_⟩
 have t8:=Mem.sub_new h8 (.cells ([4].map (Value.int .i64)).toArray 3 (0,0))
 have t9:=Mem.sub_new h9 (.cells ([0].map (Value.int .i64)).toArray 3 (0,0))
 have t10:=Mem.sub_new h10 (.cells ([1].map (Value.int .i64)).toArray 3 (0,0))
 have t11:=Mem.sub_new h11 (.cells ([2].map (Value.int .i64)).toArray 3 (0,0))
 have t12:=Mem.sub_new h12 (.cells ([3].map (Value.int .i64)).toArray 3 (0,0))
 have t13:=Mem.sub_new h13 (.cells #[.int .i64 0,(qDG b9 1).v,.int .i64 0,(qDG b10 1).v,.int .i64 0,(qDG b11 1).v,.int .i64 0,(qDG b12 1).v] 92 (0,0))
 obtain⟨U,hU⟩:∃U,U=((((((V1.set b8 (.cells ([4].map (Value.int .i64)).toArray 3 (0,0))).set b9 (.cells ([0].map (Value.int .i64)).toArray 3 (0,0))).set b10 (.cells ([1].map (Value.int .i64)).toArray 3 (0,0))).set b11 (.cells ([2].map (Value.int .i64)).toArray 3 (0,0))).set b12 (.cells ([3].map (Value.int .i64)).toArray 3 (0,0))).set b13 (.cells #[.int .i64 0,(qDG b9 1).v,.int .i64 0,(qDG b10 1).v,.int .i64 0,(qDG b11 1).v,.int .i64 0,(qDG b12 1).v] 92 (0,0))):=⟨_,rfl⟩
 have sU:V1.sub U:=by rw[hU];exact t8.trans (t9.trans (t10.trans (t11.trans (t12.trans t13))))
 have ca8:qAc U (qDG b8 1) 1 (([4]:List Int).map qAe):=qDP (xs:=[4]) (by rw[hU];exact(t9.trans (t10.trans (t11.trans (t12.trans t13)))) _ _ mss) rfl (by decide)
 have ca9:qAc U (qDG b9 1) 1 (([0]:List Int).map qAe):=qDP (xs:=[0]) (by rw[hU];exact(t10.trans (t11.trans (t12.trans t13))) _ _ mss) rfl (by decide)
 have ca10:qAc U (qDG b10 1) 1 (([1]:List Int).map qAe):=qDP (xs:=[1]) (by rw[hU];exact(t11.trans (t12.trans t13)) _ _ mss) rfl (by decide)
 have ca11:qAc U (qDG b11 1) 1 (([2]:List Int).map qAe):=qDP (xs:=[2]) (by rw[hU];exact(t12.trans t13) _ _ mss) rfl (by decide)
 have ca12:qAc U (qDG b12 1) 1 (([3]:List Int).map qAe):=qDP (xs:=[3]) (by rw[hU];exact t13 _ _ mss) rfl (by decide)
 have ca13:U b13=some (.cells #[.int .i64 0,(qDG b9 1).v,.int .i64 0,(qDG b10 1).v,.int .i64 0,(qDG b11 1).v,.int .i64 0,(qDG b12 1).v] 92 (0,0)):=by rw[hU];exact Mem.set_same _ _ _
 obtain⟨m,hm⟩:∃m,m=chM (qDG b8 1) (qDG b13 4) (qDG b9 1) (qDG b10 1) (qDG b11 1) (qDG b12 1):=⟨_,rfl⟩
 have M:Mm.Ok U m:=by
  rw[hm]
  refine⟨ca8,fun x hx=>by grind [chM,inI],qAc.cells (row:=Nd.row) ca13 rfl (fun _=>rfl) rfl (by simp[chM]),fun n hn=>?_⟩
  have one:∀{s:Sl} {x:Int},qAc U s 1 (([x]:List Int).map qAe)->inI x->Nd.Ok U ⟨0,s,[x]⟩:=fun h hx=>⟨h,(show inI 0 by unfold inI;decide),fun y hy=>by simp_all⟩
  simp only[chM,List.mem_cons,List.not_mem_nil,or_false]at hn
  rcases hn with rfl|rfl|rfl|rfl
  ·grind [inI]
  ·grind [inI]
  ·grind [inI]
  grind [inI]
 have z:V.sub U:=s1.trans sU
 haveI:Tab U:=Tab.sub (V:=V) inferInstance z
 have mv:m.v=.agg #[(qDG b8 1).v,(qDG b13 4).v]:=by rw[hm];rfl
 show Tri _ _ #[d.v,.agg #[(qDG b8 1).v,(qDG b13 4).v],.int .i64 1,.int .i64 2] ((((((V1.set b8 (.cells ([4].map (Value.int .i64)).toArray 3 (0,0))).set b9 (.cells ([0].map (Value.int .i64)).toArray 3 (0,0))).set b10 (.cells ([1].map (Value.int .i64)).toArray 3 (0,0))).set b11 (.cells ([2].map (Value.int .i64)).toArray 3 (0,0))).set b12 (.cells ([3].map (Value.int .i64)).toArray 3 (0,0))).set b13 (.cells #[.int .i64 0,(qDG b9 1).v,.int .i64 0,(qDG b10 1).v,.int .i64 0,(qDG b11 1).v,.int .i64 0,(qDG b12 1).v] 92 (0,0))) _
 rw[<- hU,<- mv]
 clear hU t8 t9 t10 t11 t12 t13 h8 h9 h10 h11 h12 h13
 refine Tri.mono (c14 (hd.sub sU) M (k:=1) (size:=2)) ?_
 rintro _ V8 ⟨p,rfl,s8,-,hp⟩
 have G1:qAx d m=true:=by rw[hm];exact(ch_gd SD).mem
 have e8:=qKg (k:=1) (size:=2) G1 (by decide)
 obtain⟨zs,o8,P8⟩:=hp e8
 obtain rfl:zs=[0,0,1,1]:=by grind [ch_place,ch_pl1]
 refine⟨_,_,rfl,Tri.mono c37 ?_⟩
 rintro _ V9 ⟨s9,d2,rfl,SD2,hd2⟩
 haveI:Tab V9:=Tab.sub (V:=U) inferInstance (s8.trans s9)
 refine⟨_,_,_,_,_,_,_,_,rfl,?_⟩
 show Tri _ _ #[d2.v,.agg #[(qDG b8 1).v,(qDG b13 4).v],.int .i64 4,.int .i64 2] V9 _
 rw[<- mv]
 refine Tri.mono (c14 hd2 (M.sub (s8.trans s9)) (k:=4) (size:=2)) ?_
 rintro _ V10 ⟨p2,rfl,s10,-,hp2⟩
 have G2:qAx d2 m=true:=by rw[hm];exact(ch_gd SD2).mem
 have e10:=qKg (k:=4) (size:=2) G2 (by decide)
 obtain⟨zs2,o10,P10⟩:=hp2 e10
 obtain rfl:zs2=[1,1,0,0]:=by grind [ch_place,ch_pl4]
 have r8:=(o8.rows (row:=qAe) (xs:=[0,0,1,1]) (fun _=>rfl) (by decide)).sub (s9.trans s10)
 have r10:=o10.rows (row:=qAe) (xs:=[1,1,0,0]) (fun _=>rfl) (by decide)
 refine⟨_,_,rfl,and_self_iff.2 (Tri.mono c37 ?_)⟩
 rintro _ V11 ⟨s11,d3,rfl,SD3,hd3⟩
 refine⟨_,_,_,_,_,_,_,_,rfl,fun b34 h34=>?_⟩
 have t34:=Mem.sub_new h34 (.cells (([1,1,0,0]:List Int).map (Value.int .i64)).toArray 3 (0,0))
 have z12:U.sub (V11.set b34 (.cells (([1,1,0,0]:List Int).map (Value.int .i64)).toArray 3 (0,0))):=s8.trans (s9.trans (s10.trans (s11.trans t34)))
 haveI:Tab (V11.set b34 (.cells (([1,1,0,0]:List Int).map (Value.int .i64)).toArray 3 (0,0))):=Tab.sub (V:=U) inferInstance z12
 show Tri _ _ #[d3.v,.agg #[(qDG b8 1).v,(qDG b13 4).v],(qDG b34 4).v,.int .i64 2,.int .i64 1,.agg #[.string qHa,qAL.v],.int .i64 100] (V11.set b34 (.cells (([1,1,0,0]:List Int).map (Value.int .i64)).toArray 3 (0,0))) _
 rw[<- mv]
 refine Tri.mono (c19 (nm:=qHa) (args:=[]) (pl:=[1,1,0,0]) (size:=2) (most:=1) (hd3.sub t34) (M.sub z12) qAc.nil (.inl (by decide)) (qDP (xs:=[1,1,0,0]) mss rfl (by decide))) ?_
 rintro _ V13 (⟨h,-⟩|⟨-,r,gs,ns,ls,nd,q,hr,L,hq,rfl⟩)
 ·exact absurd (by rw[hm];exact ch_exr SD3) h
 rw[hm]at hr
 obtain⟨k1,k2,k3,k4,k5,k6⟩:=ch_play SD3 hr
 rw[k1,k2,k3,k4,k6]
 rw[k5]at hq
 have s13:=t34.trans L.sub
 have eq:∀{V':Mem} {s t:Sl} {xs:List Int},V.sub V'->qAc V' s 1 (xs.map qAe)->qAc V' t 1 (xs.map qAe)->∀{q:Ending->Mem->Prop},(V.sub V'->q (.returned (.bool true)) V')->Tri Tryz.prog 13 #[s.v,t.v] V' q:=fun h h1 h2 _ hq=>(c13 h1 h2).call (by simp_all)
 have z13:V.sub V13:=z.trans (z12.trans L.sub)
 refine⟨_,_,_,_,_,_,_,_,_,rfl,fun _ b14 h14=>?_,fun h=>absurd e8 h⟩
 have t14:=Mem.sub_new h14 (.cells (([0,0,1,1]:List Int).map (Value.int .i64)).toArray 3 (0,0))
 refine eq (xs:=[0,0,1,1]) (t:=qDG b14 4) (z13.trans t14) (r8.sub (s11.trans (s13.trans t14))) (qDP (xs:=[0,0,1,1]) mss rfl (by decide)) fun z14=>⟨_,rfl,fun _=>⟨fun _ b16 h16=>?_,fun h=>absurd e10 h⟩,fun h=>absurd rfl h⟩
 have t16:=Mem.sub_new h16 (.cells (([1,1,0,0]:List Int).map (Value.int .i64)).toArray 3 (0,0))
 refine eq (xs:=[1,1,0,0]) (t:=qDG b16 4) (z14.trans t16) (r10.sub (s11.trans (s13.trans (t14.trans t16)))) (qDP (xs:=[1,1,0,0]) mss rfl (by decide)) fun z16=>⟨_,rfl,fun _=>⟨fun _=>⟨fun _ b18 h18=>?_,fun h=>absurd ⟨rfl,rfl,rfl,rfl,rfl⟩ h⟩,fun h=>absurd rfl h⟩,fun h=>absurd rfl h⟩
 have t18:=Mem.sub_new h18 (.cells (([1,1,0,0]:List Int).map (Value.int .i64)).toArray 3 (0,0))
 exact eq (xs:=[1,1,0,0]) (t:=qDG b18 4) (z16.trans t18) (hq.sub (t14.trans (t16.trans t18))) (qDP (xs:=[1,1,0,0]) mss rfl (by decide)) fun z18=>⟨_,rfl,rfl,z18⟩
end
section
variable{V:Mem}{d:Ds}{m:Mm}{nm:ByteArray}{args pl:List Int}{l ps:Sl}{size most:Int}
theorem exr_start{F:Int}(h:qFa d m pl size most nm args F=0):qBc d m nm args F.toNat=0:=by
 grind [qFa,exE,plB,absurd]
end
section
variable{V:Mem}{d:Ds}{m:Mm}{nm:ByteArray}{args pl:List Int}{l ps:Sl}{size most:Int}
theorem blk_right{F:Nat}{k:Int}{z:Nat}{r:Rx Int}(h:qBc d m nm args F=0)(hr:r=qBM d F (qCU d nm) args (qBR m))(hP:qAK d m k z pl)(hz:1<=z) :
  plB pl z=true/\pl.length=m.nodes.length/\plB (qBZ z r.st.lg pl).1 z=true/\(qBZ z r.st.lg pl).1.length=r.st.ns.length/\pl <+: (qBZ z r.st.lg pl).1/\(qBZ z r.st.lg pl).2.length=qBe r.st.lg/\∀b∈(qBZ z r.st.lg pl).2,0<=b/\b<=1048576:=by
 have G:=(qGn h).1
 obtain⟨hlog,hlen⟩:=qHq h
 have hns:r.st.ns.length<=4096:=by rw[hr];exact qEF h
 rw[<- hr]at hlog hlen
 obtain⟨P,hlow,hl⟩:=place_plc G.mem hz hP
 have hln:=hlog.len
 have h4:=(qAi G.mem).2.1
 have a1:=blk_plc (lg:=r.st.lg) P hlow (by omega) (by omega) r.st.lg.length (Nat.le_refl _)
 have a2:=blk_len (size:=(z:Int)) (lg:=r.st.lg) (pl:=pl) r.st.lg.length (Nat.le_refl _)
 have a3:=blk_pre (size:=(z:Int)) (lg:=r.st.lg) (pl:=pl) r.st.lg.length (Nat.le_refl _)
 have a4:=blk_tr (size:=(z:Int)) (lg:=r.st.lg) (pl:=pl) r.st.lg.length (Nat.le_refl _)
 have a5:=(blk_rng (size:=(z:Int)) (lg:=r.st.lg) (pl:=pl) (M:=4095) (fun b hb=>⟨(P.rng b hb).1,by have:=(P.rng b hb).2;omega⟩) (by omega) r.st.lg.length (Nat.le_refl _)).2
 rw[List.take_length]at a1 a2 a3 a4 a5
 grind [qFG]
end
end Go.Proofs
