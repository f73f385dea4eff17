/- Part 21 of a proof of a law of this seat: no statement of the seat is proved here. -/
import Derived.Test.YtlnbdjekdkodcaaGreatDoorPart20
import Derived.Test.YtlnbdjekdkodcaaGreatDoorPart19
import Derived.ProofKit
import Derived.Test.YtlnbdjekdkodcaaGreatDoorRows
import Derived.Lib.LaidIn
import Derived.Lib.LaidTab
import Derived.Handed
set_option linter.unusedVariables false
set_option linter.unusedSimpArgs false
namespace Go.Proofs
open Go Go.Sx
attribute [local irreducible] Go.Sx.Tri
section
variable{V:Mem}{d:Ds}{m:Mm}
theorem Own.growS{V0 V V':Mem}{e:TypeId}{sz:Nat}{s:Sl}{vs:List Value}(h:Sx.Own V0 V e sz s vs)(hs:V.sub V'):Sx.Own V0 V' e sz s vs:=Own.moveB h (h.sub.trans hs) fun _ _ _ hg=>hs _ _ hg
theorem qJp(h:hasT d=true):qAT d=true:=by
 unfold hasT at h
 simp only[Bool.and_eq_true]at h
 exact h.1.1
theorem SrAt.grow{U V V':Mem}{p ib:Nat}{st:Sr}{o:Sl}(h:SrAt U d m p ib V st o)(hs:V.sub V'):SrAt U d m p ib V' st o:=⟨hs _ _ h.at_,Own.growS h.own hs,h.map.sub hs,h.cap,h.rng⟩
structure CanAt (d:Ds) (m:Mm) (V2 V:Mem) (s:Sl) (i:Nat) (nd:List Nd):Prop where
 len:nd.length=i
 at_:∀(j:Nat) n x,j<i->(qAA d m).order[j]?=some n->m.nodes[(n-1).toNat]?=some x->∃s,nd[j]?=some ⟨x.ty,s,qFr (qAA d m).order (qAx d x.ty) x.f⟩
 mem:∃W,V2.sub W/\Sx.Own W V 102 2 s (nd.flatMap Nd.row)/\∀n∈nd,Nd.Ok W n
theorem ren_in{O:List Int}{xs:List Fld}{vs:List Int}(hO:O.length<=4096)(h:∀v∈vs,inI v):∀v∈qFr O xs vs,inI v:=fun v hv=>by
 unfold qFr at hv
 obtain⟨⟨a,b⟩,hab,rfl⟩:=List.mem_map.1 hv
 have hb:=h b (List.of_mem_zip hab).2
 show inI (if _ then b else rho O b)
 split
 ·exact hb
 ·unfold rho
  split
  ·exact⟨by omega,by omega⟩
  ·unfold posI
   rcases qAB (fun z=>decide (z=b)) O with⟨e,-⟩|⟨j,_,e,-,-,e2,-⟩
   ·rw[e];exact⟨by decide,by decide⟩
   ·rw[e];exact⟨by show (-9223372036854775808:Int)<=(j:Int)+1;omega,by show (j:Int)+1<=(9223372036854775807:Int);omega⟩
theorem qGF{U:Mem}{p ib:Nat}{o:Sl}(hvd:qAT d=true)(hmv:qAN d m=true)(hd:Ds.Ok V d)(hm:Mm.Ok V m)(hs:SrAt U d m p ib V (qAA d m) o):Tri Tryz.prog 42 #[pv p] V fun e V'=>V.sub V'/\∃c:Mm,e=.returned (.agg #[c.gs.v,c.ns.v])/\Mm.Ok V' c/\IsCan d m c (qAA d m).order:=by
 refine x42 ?_
 unfold w42
 have R:=qEL hmv
 obtain⟨p1,p2,p3,p4,p5⟩:=qAp hmv
 obtain⟨l1,l2⟩:=qJI hvd
 have hcap:=R.cap
 have hoR:qAd V o 1 ((qAA d m).order.map qAn):=hs.own.rows (fun _=>rfl) (by decide)
 refine⟨nn,nn,pnn,d.gs,hs.cell 2 1 (by decide),nn,nn,pnn,m.gs,hs.cell 8 1 (by decide),Tri.mono (qIj hs hd.globals hm.globals (qAq.1 p4).1 (by omega)) ?_⟩
 rintro _ V2 ⟨gs,rfl,hg⟩
 have hs2:=hs.grow hg.sub
 refine⟨gs,rfl,nn,nn,o,hs2.cell 10 1 (by decide),?_⟩
 have hgR:qAd V2 gs 1 ((qFr (qAA d m).order d.globals m.globals).map qAn):=hg.rows (fun _=>rfl) (by decide)
 refine loop3u (mk:=fun s:Sl=>.slice s.p s.n s.c) (mc:=fun s:Sl=>.slice s.p s.n s.c) (b0:=gs) (c0:=⟨none,0,0⟩) qCo qCo (qAA d m).order.length (fun i b c V3=>b=gs/\∃nd,CanAt d m V2 V3 c i nd) ⟨rfl,[],rfl,(fun _ _ _ h=>by omega),V2,Mem.sub.refl _,Own.nil (Mem.sub.refl _) _ _,(fun _ h=>by cases h)⟩ ?_
 rintro i b s V3 J hi ⟨rfl,nd,C⟩ hJ
 obtain⟨W,hW,hown,hnd⟩:=C.mem
 have s23:=hW.trans hown.sub
 have s03:V.sub V3:=hg.sub.trans s23
 have hd3:=hd.sub s03
 have hm3:=hm.sub s03
 have hs3:=hs2.grow s23
 have ho3:=hoR.sub s03
 refine⟨fun hlt=>?_,fun hge=>?_⟩
 ·obtain⟨n,hnm,hn,-,hil,hp,hz,hrow⟩:=ho3.get hlt
  have hr:=R.rng n hnm
  obtain⟨k,rfl⟩:∃k:Nat,n=(k:Int)+1:=⟨(n-1).toNat,by omega⟩
  have hnn:=hm3.nodes.n_eq
  obtain⟨z,hzm,hz',-,hl2,hpx,hzx,hrowx⟩:=hm3.nodes.get (i:=k) (by omega)
  obtain⟨c1,c2⟩:=of_decide_eq_true (p3 z hzm)
  obtain⟨j,hj⟩:∃j:Nat,z.ty=(j:Int):=⟨_,(Int.toNat_of_nonneg c1).symm⟩
  have htn:=hd3.types.n_eq
  obtain⟨t,htm,ht,-,hl3,hpt3,hzt,hrowt⟩:=hd3.types.get (i:=j) (by omega)
  have hI:IR ((k:Int)):=⟨by omega,by have:=(hm3.nodes.succ (i:=k) (by omega)).2;omega⟩
  have hfo:=qAW ht hj
  have hvals:=p5 z hzm
  rw[hfo]at hvals
  refine⟨hp,hz,hlt,_,hrow,nn,nn,pnn,m.ns,hs3.cell 9 1 (by decide),?_⟩
  rw[show ((k:Int)+1-1)=(k:Int) by omega]
  refine⟨hI,hpx,hzx,by omega,_,_,hrowx,nn,nn,pnn,d.ts,hs3.cell 1 1 (by decide),?_⟩
  rw[hj]
  refine⟨hpt3,hzt,by omega,qAe hpt3,_,_,hrowt,Tri.mono (qIj hs3 (hd3.typesOk t htm).fields (hm3.nodesOk z hzm).rows (qAq.1 hvals).1 (by have:=l2 t htm;omega)) ?_⟩
  rintro _ V4 ⟨fs,rfl,hf⟩
  refine⟨fs,rfl,fun tb htb=>?_⟩
  have ho4:=Own.growS hown hf.sub
  obtain⟨nn,hnn'⟩:∃nn:Nd,nn=⟨(j:Int),fs,qFr (qAA d m).order t.fields z.f⟩:=⟨_,rfl⟩
  have hblk:qAd (V4.but s) fs 1 ((qFr (qAA d m).order t.fields z.f).map qAn):=by
   have:Sx.Own (fun _=>none) (V4.but s) 3 1 fs ((qFr (qAA d m).order t.fields z.f).flatMap qAn):=⟨(fun _ _ h=>by cases h),hf.len,by
    rcases hf.at_ with h|⟨g,cur,a,b,c,dd⟩
    ·exact .inl h
    ·exact .inr ⟨g,cur,a,rfl,Mem.but_at c (hown.apartN b),dd⟩⟩
   exact this.rows (fun _=>rfl) (by decide)
  have hn2:Nd.Ok (V4.but s) nn:=by
   rw[hnn']
   exact⟨hblk,⟨by show -9223372036854775808<=(j:Int);omega,by show (j:Int)<=9223372036854775807;have:=(hd3.types.succ (i:=j) (by omega)).2;omega⟩,ren_in (by omega) (hm3.nodesOk z hzm).vals⟩
  have hlen:nd.length<=4096:=by rw[C.len];omega
  refine app32 (s:=s) (u:=⟨some ⟨tb,0,none⟩,1,1⟩) (xs:=nd) (ys:=[nn]) rfl rfl (ho4.but.new htb (.cells #[uI (j:Int),uL fs] 102 (0,0))) (qAd.cells (xs:=[nn]) (row:=Nd.row) mss (by rw[hnn'];simp[Nd.row,Sl.v]) (fun _=>rfl) rfl (by simp)) (by simp;omega) fun o2 V5 ho2=>⟨o2,rfl,ho3.succ hlt,hJ hil _ _ _ ⟨rfl,nd++[nn],by rw[List.length_append,C.len];rfl,fun q w x hq hw hx=>?_,V4.but s,hW.trans ho4.sub_but,ho2,fun w hw=>?_⟩⟩
  ·by_cases hqi:q<i
   ·obtain⟨sl,hs⟩:=C.at_ q w x hqi hw hx
    exact⟨sl,by rw[List.getElem?_append_left (by rw[C.len];exact hqi)];exact hs⟩
   ·have:q=i:=by omega
    subst this
    rw[hn]at hw;cases hw
    rw[show ((k:Int)+1-1).toNat=k by omega,hz']at hx;cases hx
    refine⟨fs,?_⟩
    rw[<- C.len,List.getElem?_concat_length,hnn',hfo,hj]
  ·rcases List.mem_append.1 hw with hw|hw
   ·exact(hnd w hw).sub ho4.sub_but
   ·rw[List.mem_singleton.1 hw];exact hn2
 ·have hdn:=(ho3.done hge).2
  have hi':i=(qAA d m).order.length:=by omega
  refine⟨s03,⟨b,qFr (qAA d m).order d.globals m.globals,s,nd⟩,rfl,⟨hgR.sub s23,ren_in (by omega) hm.gIn,hown.rows (fun _=>rfl) (by decide),fun n hn=>(hnd n hn).sub hown.sub⟩,rfl,by rw[<- hi'];exact C.len,fun j n x hj hx=>C.at_ j n x (by rw[hi'];exact(List.getElem?_eq_some_iff.1 hj).1) hj hx⟩
theorem c22[Tab V](hd:Ds.Ok V d)(hm:Mm.Ok V m):Tri Tryz.prog 22 #[d.v,m.v] V fun e V'=>V.sub V' /\
  ((qAN d m=false/\e=.returned (.tuple #[.agg #[qAK.v,qAK.v],.int .i64 1]))∨(qAN d m=true/\∃c:Mm,e=.returned (.tuple #[.agg #[c.gs.v,c.ns.v],.int .i64 0])/\Mm.Ok V' c/\IsCan d m c (qAA d m).order)):=by
 refine x22 ?_
 unfold w22
 refine Tri.mono (c15 hd hm) ?_
 rintro _ V1 ⟨rfl,rfl⟩
 refine⟨_,rfl,fun h=>?_,fun h=>⟨Mem.sub.refl _,.inl ⟨(Bool.not_eq_true _).mp h,rfl⟩⟩⟩
 have h:qAN d m=true:=h
 have hvd:=qJp (qAp h).1
 refine Tri.mono (c41 h hd hm) ?_
 rintro _ V2 ⟨p,ib,o,rfl,hs⟩
 refine⟨_,rfl,Tri.mono (qGF hvd h (hd.sub hs.own.sub) (hm.sub hs.own.sub) hs) ?_⟩
 rintro _ V3 ⟨s3,c,rfl,hc,I⟩
 exact⟨_,_,rfl,hs.own.sub.trans s3,.inr ⟨h,c,rfl,hc,I⟩⟩
theorem c43{s t:Sl}{xs ys:List Int}(h:qAd V s 1 (xs.map qAn))(k:qAd V t 1 (ys.map qAn)):PP 43 [.slice s.p s.n s.c,.slice t.p t.n t.c] V (.bool (decide (xs=ys))):=by
 refine x43 ?_
 unfold w43
 have n1:=h.n_eq
 have n2:=k.n_eq
 refine⟨fun hl=>?_,fun hl=>?_⟩
 ·refine qAC (mk:=.bool) (b0:=false) xs.length (fun i V1=>V=V1/\xs.take i=ys.take i) ⟨rfl,rfl⟩ ?_
  rintro i b V1 J hi ⟨rfl,he⟩ hJ
  refine⟨fun hlt=>?_,fun hge=>?_⟩
  ·obtain⟨x,hxm,hx,-,hil,hp,hz,hrow⟩:=h.get hlt
   obtain⟨y,hym,hy,-,hjl,hp2,hz2,hrow2⟩:=k.get (i:=i) (by omega)
   refine⟨hp,hz,hlt,_,hrow,hp2,hz2,by omega,_,hrow2,fun hE=>⟨h.succ hlt,hJ hil _ _ ⟨rfl,qGn he hx hy hE⟩⟩,fun hE=>?_⟩
   rw[decide_eq_false fun e=>?_]
   ·exact⟨rfl,rfl⟩
   ·rw[e,hy]at hx;cases hx;exact hE rfl
  ·have hd:=(h.done hge).2
   rw[List.take_of_length_le hd,List.take_of_length_le (by omega)]at he
   rw[decide_eq_true he];exact⟨rfl,rfl⟩
 ·rw[decide_eq_false fun e=>hl (by rw[n1,n2,e])];exact⟨rfl,rfl⟩
theorem nodesEq{s t:Sl}{xs ys:List Nd}(h:qAd V s 2 (xs.map Nd.row))(k:qAd V t 2 (ys.map Nd.row))(hx:∀x∈xs,Nd.Ok V x)(hy:∀y∈ys,Nd.Ok V y):PP 44 [.slice s.p s.n s.c,.slice t.p t.n t.c,.func (.func 45) #[] #[]] V (.bool (decide ((xs.map fun n=>(n.ty,n.f))=ys.map fun n=>(n.ty,n.f)))):=by
 refine x44 (a:=s) (b:=t) (c:=.func (.func 45) #[] #[]) ?_
 unfold w44
 have n1:=h.n_eq
 have n2:=k.n_eq
 refine⟨fun hl=>?_,fun hl=>?_⟩
 ·refine qAC (mk:=.bool) (b0:=false) xs.length (fun i V1=>V=V1/\(xs.map fun n=>(n.ty,n.f)).take i=(ys.map fun n=>(n.ty,n.f)).take i) ⟨rfl,rfl⟩ ?_
  rintro i b V1 J hi ⟨rfl,he⟩ hJ
  refine⟨fun hlt=>?_,fun hge=>?_⟩
  ·obtain⟨x,hxm,hx',-,hil,hp,hz,hrow⟩:=h.get hlt
   obtain⟨y,hym,hy',-,hjl,hp2,hz2,hrow2⟩:=k.get (i:=i) (by omega)
   have ex:(xs.map fun n=>(n.ty,n.f))[i]?=some (x.ty,x.f):=by rw[List.getElem?_map,hx'];rfl
   have ey:(ys.map fun n=>(n.ty,n.f))[i]?=some (y.ty,y.f):=by rw[List.getElem?_map,hy'];rfl
   have no:(x.ty,x.f)≠(y.ty,y.f)->(Ending.returned (.bool false)=.returned (.bool (decide ((xs.map fun n=>(n.ty,n.f))=ys.map fun n=>(n.ty,n.f))))/\V=V):=fun hne=>⟨by rw[decide_eq_false fun e=>hne (by rw[e,ey]at ex;exact(Option.some.inj ex).symm)],rfl⟩
   refine⟨hp,hz,hlt,_,_,hrow,hp2,hz2,by omega,_,_,hrow2,_,_,_,rfl,Tryz.call45,x45 ?_⟩
   unfold w45
   refine⟨fun hE=>(c43 (hx x hxm).rows (hy y hym).rows).call ⟨_,rfl,_,rfl,fun hf=>⟨h.succ hlt,hJ hil _ _ ⟨rfl,qGn he ex ey (Prod.ext hE (of_decide_eq_true hf))⟩⟩,fun hf=>no fun e=>hf (decide_eq_true (Prod.mk.inj e).2)⟩,fun hE=>⟨_,rfl,(fun hf=>by cases hf),fun _=>no fun e=>hE (Prod.mk.inj e).1⟩⟩
  ·have hd:=(h.done hge).2
   rw[List.take_of_length_le (by rw[List.length_map];exact hd),List.take_of_length_le (by rw[List.length_map];omega)]at he
   rw[decide_eq_true he];exact⟨rfl,rfl⟩
 ·rw[decide_eq_false fun e=>hl (by have:=congrArg List.length e;simp at this;omega)];exact⟨rfl,rfl⟩
theorem canP_of{c:Mm}(hmv:qAN d m=true)(I:IsCan d m c (qAA d m).order):c.plain=canP d m:=by
 have R:=qEL hmv
 unfold Mm.plain canP
 rw[I.globals]
 refine Prod.ext rfl (List.ext_getElem? fun i=>?_)
 rw[List.getElem?_map,List.getElem?_map]
 cases hn:(qAA d m).order[i]? with
 | none =>
  have:c.nodes[i]?=none:=by
   rw[List.getElem?_eq_none_iff]at hn ⊢
   rw[I.len];exact hn
  rw[this];rfl
 | some n =>
  have hr:=R.rng n (List.mem_of_getElem? hn)
  have hx:=List.getElem?_eq_getElem (l:=m.nodes) (i:=(n-1).toNat) (by omega)
  obtain⟨sl,hs⟩:=I.at_ i n _ hn hx
  rw[hs]
  simp only[Option.map_some]
  rw[hx]
theorem c24[Tab V]{a b:Mm}(ha:qAN d a=true)(hb:qAN d b=true)(hd:Ds.Ok V d)(hma:Mm.Ok V a)(hmb:Mm.Ok V b):Tri Tryz.prog 24 #[d.v,a.v,b.v] V fun e V'=>V.sub V'/\e=.returned (.tuple #[.bool (decide (canP d a=canP d b)),.int .i64 0]):=by
 refine x24 ?_
 unfold w24
 have hvd:=qJp (qAp ha).1
 refine(c15 hd hma).call ⟨_,rfl,fun _=>(c15 hd hmb).call ⟨_,rfl,fun _=>?_,fun h=>absurd hb h⟩,fun h=>absurd ha h⟩
 refine Tri.mono (c41 ha hd hma) ?_
 rintro _ V1 ⟨p,ib,o,rfl,hs⟩
 have s1:=hs.own.sub
 refine⟨_,rfl,Tri.mono (qGF hvd ha (hd.sub s1) (hma.sub s1) hs) ?_⟩
 rintro _ V2 ⟨s2,x,rfl,hx,Ix⟩
 have s12:=s1.trans s2
 refine⟨_,_,rfl,Tri.mono (c41 hb (hd.sub s12) (hmb.sub s12)) ?_⟩
 rintro _ V3 ⟨p',ib',o',rfl,hs'⟩
 have s3:=hs'.own.sub
 have s13:=s12.trans s3
 refine⟨_,rfl,Tri.mono (qGF hvd hb (hd.sub s13) (hmb.sub s13) hs') ?_⟩
 rintro _ V4 ⟨s4,y,rfl,hy,Iy⟩
 have s24:=s3.trans s4
 have hx4:=hx.sub s24
 have e:decide (canP d a=canP d b)=(decide (x.globals=y.globals)&&decide ((x.nodes.map fun n=>(n.ty,n.f))=y.nodes.map fun n=>(n.ty,n.f))):=by
  rw[<- canP_of ha Ix,<- canP_of hb Iy]
  unfold Mm.plain
  rw[<- Bool.decide_and,decide_eq_decide]
  exact⟨fun h=>Prod.mk.inj h,fun h=>Prod.ext h.1 h.2⟩
 refine⟨_,_,rfl,(c43 hx4.globals hy.globals).call ⟨_,rfl,fun h=>(nodesEq hx4.nodes hy.nodes hx4.nodesOk hy.nodesOk).call ⟨_,rfl,s13.trans s4,?_⟩,fun h=>⟨s13.trans s4,?_⟩⟩⟩
 ·rw[e,show decide (x.globals=y.globals)=true from h,Bool.true_and]
 ·rw[e,(Bool.not_eq_true _).mp h,Bool.false_and]
end
section
variable{d:Ds}{F:Nat}{m m':Mm}
theorem qKp(h:m.plain=m'.plain)(n:Int):nodeTgt d m n=nodeTgt d m' n:=by
 unfold nodeTgt
 cases hx:m.nodes[(n-1).toNat]? with
 | some x =>
  obtain⟨y,h1,h2,h3⟩:=qDW h hx
  rw[h1];simp only[h2,h3]
 | none =>
  have:m'.nodes[(n-1).toNat]?=none:=by
   rw[List.getElem?_eq_none_iff]at hx ⊢
   rw[<- qDG h];exact hx
  rw[this]
theorem qJP(h:m.plain=m'.plain):∀f:Nat,qDU d m f=qDU d m' f
 | 0=>by funext st n;rw[qDU,qDU]
 | f+1=>by
  funext st n
  rw[qDU,qDU,qKp h,qJP h f]
theorem reachP_plain(h:m.plain=m'.plain):qAA d m=qAA d m':=by
 have hg:m.globals=m'.globals:=(Prod.mk.inj h).1
 unfold qAA lookP
 rw[qDG h,qJP h,hg]
theorem qJS(h:m.plain=m'.plain):canP d m=canP d m':=by
 have hg:m.globals=m'.globals:=(Prod.mk.inj h).1
 unfold canP
 rw[reachP_plain h,hg]
 refine Prod.ext rfl (List.map_congr_left fun n _=>?_)
 cases hx:m.nodes[(n-1).toNat]? with
 | some x =>
  obtain⟨y,h1,h2,h3⟩:=qDW h hx
  rw[h1];simp only[h2,h3]
 | none =>
  have:m'.nodes[(n-1).toNat]?=none:=by
   rw[List.getElem?_eq_none_iff]at hx ⊢
   rw[<- qDG h];exact hx
  rw[this]
def PlainC(d:Ds)(nm:ByteArray):Prop:=∀(i:Nat) pr,qEs d nm=(i:Int)->d.procs[i]?=some pr->(∀f∈pr.params,qAE f.ty=true)/\(pr.result=sE∨qAE pr.result=true)
theorem right_pl{t:ByteArray}(h:qAE t=true){v:Int}:qAv d m t v=qAv d m' t v:=by
 unfold qAE at h
 simp only[Bool.or_eq_true,decide_eq_true_eq]at h
 unfold qAv
 rcases h with h|h
 ·rw[if_pos h,if_pos h]
 ·by_cases h1:t=qAP
  ·rw[if_pos h1,if_pos h1]
  ·rw[if_neg h1,if_neg h1,if_pos h,if_pos h]
theorem cll_pl{nm:ByteArray}{args:List Int}(hp:PlainC d nm)(h:qCF d m nm args=0):qCF d m' nm args=0:=by
 obtain⟨i,pr,hi,hpr,hval⟩:=qDg h
 have hv':qAg d m' pr.params args=true:=by
  rw[qAq]at hval ⊢
  exact⟨hval.1,fun j f v hf hv=>by rw[right_pl (m':=m) ((hp i pr hi hpr).1 f (List.mem_of_getElem? hf))];exact hval.2 j f v hf hv⟩
 unfold qCF
 rw[hi,if_neg (by omega),Int.toNat_natCast,hpr]
 simp only
 rw[if_pos (qAq.1 hv').1.symm,if_pos hv']
theorem step_ext(c:Cl2)(s:St):s.ns.length<=(qCY d F c s).st.ns.length:=(qEX (qHW (F+1)) 0 _ _ s).2.2
theorem sc_ext:∀(cs:List Cl2) (s:St),s.ns.length<=(scS d F s cs).ns.length
 | [],s=>Nat.le_refl _
 | c::cs,s=>Nat.le_trans (step_ext c s) (sc_ext cs (rsS (qCY d F c s).st))
theorem sim_rs{B:Bj}{s t:St}(h:Sim d B s t):Sim d B (rsS s) (rsS t):=⟨h.bij,h.node,h.glob,rfl,rfl,rfl,h.len⟩
theorem good_of{s:St}{c:Cl2}(G:qAr d s.mm)(hs:s=rsS s)(h:qCF d s.mm c.name c.args=0):qAr d (qCY d F c s).st.mm:=by
 obtain⟨i,pr,hi,hpr,hval⟩:=qDg h
 unfold qCY
 rw[hi]
 exact(play_snd (F:=F) (qEM G.valid G.chk) hpr G hval).good
theorem sim_scr:∀(cs:List Cl2) (s t:St) (B:Bj),s=rsS s->t=rsS t->qAr d s.mm->Sim d B s t->(∀c∈cs,PlainC d c.name)->scE d F s cs=0->(scS d F s cs).ns.length<4096 ->
  scE d F t cs=0/\scO d F t cs=scO d F s cs/\∃B',Sim d B' (scS d F s cs) (scS d F t cs)
 | [],s,t,B,_,_,_,h,_,_,_=>⟨rfl,rfl,B,h⟩
 | c::cs,s,t,B,hs,ht,G,h,hp,he,hl=>by
  rw[scE]at he
  split at he
  ·rename_i h0
   have hpc:=hp c List.mem_cons_self
   have h1:=cll_pl (m':=t.mm) hpc h0
   obtain⟨i,pr,hi,hpr,hval⟩:=qDg h0
   obtain⟨q1,q2⟩:=hpc i pr hi hpr
   have hrl:RL B pr.params c.args c.args:=⟨rfl,fun j f v v' hf hv hv'=>by
    rw[hv]at hv';cases hv'
    exact RV.of (q1 f (List.mem_of_getElem? hf))⟩
   have hsim:=play_sim (F:=F) (qEM G.valid G.chk) hpr G hval hrl h
   have hG:=good_of (F:=F) G hs h0
   rw[<- hi]at hsim
   have hsim:qBU d B _ (qCY d F c s) (qCY d F c t):=hsim
   have hl:(scS d F (rsS (qCY d F c s).st) cs).ns.length<4096:=hl
   have hmono:(qCY d F c s).st.ns.length<=(scS d F (rsS (qCY d F c s).st) cs).ns.length:=sc_ext cs (rsS (qCY d F c s).st)
   rcases hsim with hbad|⟨B',hB,hS,hres⟩
   ·omega
   ·obtain⟨r1,r2,r3⟩:=sim_scr cs (rsS (qCY d F c s).st) (rsS (qCY d F c t).st) B' rfl rfl ⟨hG.valid,hG.chk,hG.mem⟩ (sim_rs hS) (fun c hc=>hp c (List.mem_cons_of_mem _ hc)) he hl
    refine⟨by rw[scE,if_pos h1];exact r1,?_,r3⟩
    rw[scO,scO,r2]
    congr 1
    unfold outO
    rw[hS.cm,hS.nd]
    rcases hres with⟨v,v',s',t',e1,e2,q3,q4⟩|⟨k,s',t',e1,e2⟩
    ·have hvv:v'=v:=by
      rcases q2 with q2|q2
      ·obtain⟨h1,h2⟩:=q3 q2;rw[h1,h2]
      ·by_cases hr:pr.result=sE
       ·obtain⟨h1,h2⟩:=q3 hr;rw[h1,h2]
       ·exact(q4 hr).plain q2
     rw[e1,e2,hvv];rfl
    ·rw[e1,e2];rfl
  ·contradiction
end
section
variable{d:Ds}{m c:Mm}{O:List Int}
structure Ren (d:Ds) (m c:Mm) (O:List Int):Prop where
 good:qAr d m
 rch:Rch d m O
 can:IsCan d m c O
theorem Ren.node(H:Ren d m c O){x:Int}(hx:x∈O):∃(i:Nat) (n:Nd) (s:Sl),O[i]?=some x/\rho O x=(i:Int)+1/\i<O.length/\m.nodes[(x-1).toNat]?=some n/\n∈m.nodes/\c.nodes[(rho O x-1).toNat]?=some ⟨n.ty,s,qFr O (qAx d n.ty) n.f⟩:=by
 obtain⟨i,h1,h2,h3⟩:=qGs H.rch hx
 have hr:=H.rch.rng x hx
 have hl:(x-1).toNat<m.nodes.length:=by omega
 obtain⟨s,hs⟩:=H.can.at_ i x _ h1 (List.getElem?_eq_getElem hl)
 refine⟨i,_,s,h1,h2,h3,List.getElem?_eq_getElem hl,List.getElem_mem _,?_⟩
 rw[h2,show ((i:Int)+1-1).toNat=i by omega];exact hs
theorem plain_not{t:ByteArray}(h:qAE t=false):t≠qAP/\t≠qAu:=by
 unfold qAE at h
 simpa using h
theorem ren_right(H:Ren d m c O){t:ByteArray}{v:Int}(h:qAv d m t v=true)(hv:qAE t=false->v=0∨v∈O):qAv d c t (if qAE t=true then v else rho O v)=true:=by
 cases hp:qAE t with
 | true =>
  rw[if_pos rfl]
  unfold qAE at hp
  unfold qAv at h ⊢
  by_cases h1:t=qAP
  ·rw[if_pos h1]at h ⊢;exact h
  ·rw[if_neg h1]at h ⊢
   have h2:t=qAu:=by simpa [h1]using hp
   rw[if_pos h2]at h ⊢;exact h
 | false =>
  rw[if_neg (by decide)]
  obtain⟨h1,h2⟩:=plain_not hp
  unfold qAv at h ⊢
  rw[if_neg h1,if_neg h2,decide_eq_true_eq]at h ⊢
  rcases hv hp with rfl|hm
  ·exact .inl qEK
  ·obtain⟨i,n,s,-,e1,e2,e3,-,e4⟩:=H.node hm
   have hr:=H.rch.rng v hm
   rw[e4]
   rw[e3]at h
   have hl:=H.can.len
   refine .inr ⟨by omega,by omega,?_⟩
   rcases h with h|h
   ·omega
   ·exact h.2.2
theorem qJx(H:Ren d m c O){l:List Fld}{vs:List Int}(h:qAg d m l vs=true)(ht:∀y∈tgt l vs,y∈O):qAg d c l (qFr O l vs)=true:=by
 unfold qAg at h ⊢
 rw[Bool.and_eq_true,decide_eq_true_eq,qCR]at h ⊢
 obtain⟨h1,h2⟩:=h
 refine⟨by unfold qFr;rw[List.length_map,List.length_zip];omega,fun j x hx=>?_⟩
 have hj:=(List.getElem?_eq_some_iff.1 hx).1
 have hj':j<vs.length:=by unfold qFr at hj;rw[List.length_map,List.length_zip]at hj;omega
 obtain⟨v,hv⟩:∃v,vs[j]?=some v:=⟨_,List.getElem?_eq_getElem hj'⟩
 obtain⟨f,hf⟩:∃f,l[j]?=some f:=⟨_,List.getElem?_eq_getElem (by omega)⟩
 rw[ren_at hf hv]at hx
 have hr:=h2 j v hv
 have ety:tyAt l j=f.ty:=by unfold tyAt;rw[hf];rfl
 rw[ety]at hr ⊢
 rw[<- Option.some.inj hx]
 refine ren_right H hr fun hp=>?_
 by_cases h0:v=0
 ·exact .inl h0
 ·exact .inr (ht v (qHU.2 ⟨j,f,hf,hv,hp,h0⟩))
theorem ren_tgtN(H:Ren d m c O){x:Int}(hx:x∈O){n:Nd}(hn:m.nodes[(x-1).toNat]?=some n):∀y∈tgt (qAx d n.ty) n.f,y∈O:=by
 have:=H.rch.shut x hx
 unfold Proofs.nodeTgt at this
 rw[hn]at this
 exact this
theorem ren_good(H:Ren d m c O):qAr d c:=by
 refine⟨H.good.valid,H.good.chk,?_⟩
 obtain⟨p1,p2,p3,p4,p5⟩:=qAp H.good.mem
 have hl:=H.can.len
 have hc:=H.rch.cap
 have nd:∀n∈c.nodes,∃x∈m.nodes,n.ty=x.ty/\qAg d c (qAx d n.ty) n.f=true:=fun n hn=>by
  obtain⟨i,hi⟩:=List.mem_iff_getElem?.1 hn
  have hil:=(List.getElem?_eq_some_iff.1 hi).1
  have hx:O[i]?=some (O[i]'(by omega)):=List.getElem?_eq_getElem _
  have hm:=List.mem_of_getElem? hx
  have hr:=H.rch.rng _ hm
  have hxm:=List.getElem?_eq_getElem (l:=m.nodes) (i:=((O[i]'(by omega))-1).toNat) (by omega)
  obtain⟨s,hs⟩:=H.can.at_ i _ _ hx hxm
  rw[hi]at hs
  cases hs
  exact⟨_,List.getElem_mem _,rfl,qJx H (p5 _ (List.getElem_mem _)) (ren_tgtN H hm hxm)⟩
 unfold qAN
 simp only[Bool.and_eq_true,List.all_eq_true,decide_eq_true_eq]
 refine⟨⟨⟨⟨p1,by omega⟩,fun n hn=>?_⟩,?_⟩,fun n hn=>?_⟩
 ·obtain⟨x,hx,e,-⟩:=nd n hn
  have:=p3 x hx
  unfold qDb at this ⊢
  rw[e];exact this
 ·rw[H.can.globals];exact qJx H p4 H.rch.glob
 ·obtain⟨x,hx,e,h⟩:=nd n hn
  exact h
end
section
variable{V V0:Mem}{d:Ds}{F:Nat}{m:Mm}{l:Sl}{cs:List Cl2}
theorem can_good{c:Mm}(G:qAr d m)(I:IsCan d m c (qAA d m).order):qAr d c:=ren_good ⟨G,qEL G.mem,I⟩
theorem sc_known:∀(cs:List Cl2) (s:St),scE d F s cs=0->∀c∈cs,∃(i:Nat) (pr:Pr),qEs d c.name=(i:Int)/\d.procs[i]?=some pr
 | [],_,_,c,h=>by cases h
 | a::cs,s,he,c,h=>by
  rw[scE]at he
  split at he
  ·rename_i h0
   rcases List.mem_cons.1 h with rfl|h
   ·obtain⟨i,pr,h1,h2,-⟩:=qDg h0
    exact⟨i,pr,h1,h2⟩
   ·exact sc_known cs _ he c h
  ·contradiction
theorem c8[Tab V](hd:Ds.Ok V d)(hm:Mm.Ok V m)(hcs:Cls.Ok V l cs){fu:Int}(hfu:0<=fu/\fu<=65535) :
  PP 8 [d.v,m.v,l.v,.int .u16 fu] V (.bool true):=by
 refine Pur.mk (x8 ?_)
 unfold w8
 first|unfold w8_0|skip
 obtain⟨a,rfl⟩:∃a:Nat,fu=(a:Int):=⟨fu.toNat,by omega⟩
 have hmod:((a:Int).tmod (1001:Int))=((a % 1001:Nat):Int):=(Int.ofNat_tmod a 1001).symm
 obtain⟨F,hF⟩:∃F,F=a % 1001:=⟨_,rfl⟩
 have hF3:F<=1000:=by omega
 rw[hmod,<- hF]
 have fin:∀{V':Mem},V.sub V'->(Ending.returned (.bool true)=.returned (.bool true)/\V.sub V'):=fun h=>⟨rfl,h⟩
 refine c9.call ⟨_,rfl,fun _=>⟨⟨by omega,by omega⟩,by decide,?_⟩,fun h=>absurd rfl h⟩
 refine Tri.mono (smallF hd hm (small_cls hcs)) ?_
 rintro _ _ ⟨rfl,bb,rfl,-⟩
 refine⟨_,rfl,fun _=>?_,fun _=>fin (Mem.sub.refl _)⟩
 refine Tri.mono (c22 hd hm) ?_
 rintro e V3 ⟨s3,hk⟩
 haveI:Tab V3:=Tab.sub (V:=V) inferInstance s3
 have script:=c19 (hd.sub s3) (hm.sub s3) (hcs.sub s3) (F:=(F:Int)) (.inl (by omega))
 rcases hk with⟨-,rfl⟩|⟨hval,c,rfl,hc,I⟩
 ·refine⟨_,_,_,rfl,Tri.mono script ?_⟩
  rintro e V4 ⟨s4,⟨-,rfl⟩|⟨-,o,x,y,nd,-,-,-,-,rfl⟩⟩
  ·exact⟨_,_,_,_,rfl,fun h=>absurd h (by decide),fun _=>fin (s3.trans s4)⟩
  ·exact⟨_,_,_,_,rfl,fun h=>absurd h (by decide),fun _=>fin (s3.trans s4)⟩
 refine⟨_,_,_,rfl,Tri.mono script ?_⟩
 rintro e V4 ⟨s4,⟨hne,rfl⟩|⟨h0,o,xg,xn,nd,ho,hx,hxe,hxg,rfl⟩⟩
 ·exact⟨_,_,_,_,rfl,fun _=>⟨fun h=>absurd h hne,fun _=>fin (s3.trans s4)⟩,fun h=>absurd rfl h⟩
 have s34:=s3.trans s4
 have G:=scr_zero h0
 have hsc0:scE d F (qBQ m) cs=0:=by
  have:=h0
  unfold qKd at this
  split at this
  ·split at this
   ·cases this
   ·exact this
  ·contradiction
 have hlen:¬2000<cs.length:=by
  have:=h0
  unfold qKd at this
  split at this
  ·split at this
   ·cases this
   ·assumption
  ·contradiction
 have hdV:=hd.sub s34
 have hxn:=hx.nodes.n_eq
 have hnl:nd.length=(scS d F (qBQ m) cs).ns.length:=by
  have:=congrArg List.length hxe
  rwa [List.length_map]at this
 refine⟨_,_,_,_,rfl,fun _=>⟨fun _=>⟨fun _=>fin s34,fun hsm=>?_⟩,fun h=>absurd rfl h⟩,fun h=>absurd rfl h⟩
 have hsm:¬(3996:Int)<(xn.n:Int):=hsm
 have hxn:xn.n=nd.length:=hxn
 have hc4:=hcs.sub s34
 refine qAC (mk:=.bool) (b0:=false) cs.length (fun i V5=>V5=V4/\∀c∈cs.take i,PlainC d c.name) ⟨rfl,fun c h=>by simp at h⟩ ?_
 rintro i b V5 J hi ⟨rfl,hpl⟩ hJ
 refine⟨fun hlt=>?_,fun hge=>?_⟩
 ·obtain⟨cc,hcm,hcc,-,hil,hp,hz,hrow⟩:=hc4.rows.get hlt
  obtain⟨k,pr,hk,hpr⟩:=sc_known (F:=F) cs _ hsc0 cc hcm
  have hnp:=hdV.procs.n_eq
  have hkl:=(List.getElem?_eq_some_iff.1 hpr).1
  obtain⟨y,hym,hy,-,-,hpp,hpz,hprow⟩:=hdV.procs.get (i:=k) (by omega)
  rw[hpr]at hy;cases hy
  refine⟨hp,hz,hlt,_,_,hrow,(c23 hdV).call ⟨_,rfl,?_⟩⟩
  rw[show qHo (fun t:Pr=>decide (t.name=cc.name)) d.procs=(k:Int) from hk]
  refine⟨fun h=>absurd h (by omega),fun _=>⟨hpp,hpz,by omega,qAe hpp,_,_,_,_,_,hprow,?_⟩⟩
  have hpar:=(hdV.procsOk pr hym).params
  refine qAC (mk:=.bool) (b0:=b) pr.params.length (fun j V6=>V6=V5/\∀f∈pr.params.take j,qAE f.ty=true) ⟨rfl,fun f h=>by simp at h⟩ ?_
  rintro j b2 V6 J1 hj ⟨rfl,hpf⟩ hJ1
  refine⟨fun hlt2=>?_,fun hge2=>?_⟩
  ·obtain⟨f,hfm,hf,-,hjl,hp2,hz2,hrow2⟩:=hpar.get hlt2
   have nx:qAE f.ty=true->∀g∈pr.params.take (j+1),qAE g.ty=true:=fun h g hg=>by
    rw[List.take_add_one,hf]at hg
    rcases List.mem_append.1 hg with hg|hg
    ·exact hpf g hg
    ·simp at hg;rw[hg];exact h
   refine⟨hp2,hz2,hlt2,_,_,hrow2,fun h1=>⟨hpar.succ hlt2,hJ1 hjl _ _ ⟨rfl,nx ?_⟩⟩,fun h1=>⟨fun h2=>⟨hpar.succ hlt2,hJ1 hjl _ _ ⟨rfl,nx ?_⟩⟩,fun _=>fin s34⟩⟩
   ·rw[show f.ty=qAP from h1];exact qEl
   ·rw[show f.ty=qAu from h2];exact qCu
  ·have hdn:=(hpar.done hge2).2
   rw[List.take_of_length_le hdn]at hpf
   have nx:(pr.result=sE∨qAE pr.result=true)->∀c∈cs.take (i+1),PlainC d c.name:=fun h c hc=>by
    rw[List.take_add_one,hcc]at hc
    rcases List.mem_append.1 hc with hc|hc
    ·exact hpl c hc
    ·simp at hc
     rw[hc]
     intro i' pr' hi' hpr'
     have:i'=k:=by omega
     subst this
     rw[hpr]at hpr';cases hpr'
     exact⟨hpf,h⟩
   refine⟨hpp,hpz,by omega,qAe hpp,_,_,_,_,_,hprow,fun h1=>⟨hc4.rows.succ hlt,hJ hil _ _ ⟨rfl,nx (.inl h1)⟩⟩,fun h1=>⟨fun h2=>⟨hc4.rows.succ hlt,hJ hil _ _ ⟨rfl,nx (.inr ?_)⟩⟩,fun h2=>⟨fun h3=>⟨hc4.rows.succ hlt,hJ hil _ _ ⟨rfl,nx (.inr ?_)⟩⟩,fun _=>fin s34⟩⟩⟩
   ·rw[show pr.result=qAP from h2];exact qEl
   ·rw[show pr.result=qAu from h3];exact qCu
 ·have hdn:=(hc4.rows.done hge).2
  rw[List.take_of_length_le hdn]at hpl
  have Gc:=can_good G I
  have hS:=sim_start G.mem I
  obtain⟨r1,r2,B',r3⟩:=sim_scr cs (qBQ m) (qBQ c) _ rfl rfl (qGA G) hS hpl hsc0 (by omega)
  have hgc:qAM d c (F:Int)=0:=by unfold qAM;rw[if_pos Gc,if_neg (by omega),if_neg (by omega)]
  have hzc:qKd d (F:Int) c cs=0:=by unfold qKd;rw[if_pos hgc,if_neg hlen];exact r1
  haveI:Tab V5:=Tab.sub (V:=V) inferInstance s34
  refine Tri.mono (c19 hdV (hc.sub s4) hc4 (F:=(F:Int)) (.inl (by omega))) ?_
  rintro e V6 ⟨s6,⟨hne,-⟩|⟨-,o',yg,yn,nd',ho',hy,hye,hyg,rfl⟩⟩
  ·exact absurd hzc hne
  haveI:Tab V6:=Tab.sub (V:=V5) inferInstance s6
  have hvx:qAN d ⟨xg,(scS d F (qBQ m) cs).g,xn,nd⟩=true:=qCp (qDu hxe).symm hxg.mem
  have hvy:qAN d ⟨yg,(scS d F (qBQ c) cs).g,yn,nd'⟩=true:=qCp (qDu hye).symm hyg.mem
  refine⟨_,_,_,_,rfl,Tri.mono (c24 hvx hvy (hdV.sub s6) (hx.sub s6) hy) ?_⟩
  rintro _ V7 ⟨s7,rfl⟩
  have hcan:=can_sim r3 hxg.mem hyg.mem
  refine⟨_,_,rfl,fun _=>(c21 ((ho.sub s6).sub s7) (ho'.sub s7)).call ⟨_,rfl,fun _=>⟨fun _=>?_,fun h=>absurd rfl h⟩,fun h=>absurd (decide_eq_true r2.symm) h⟩,fun h=>absurd rfl h⟩
  have hcan2:canP d ⟨xg,(scS d F (qBQ m) cs).g,xn,nd⟩=canP d ⟨yg,(scS d F (qBQ c) cs).g,yn,nd'⟩:=(qJS (qDu hxe)).trans (hcan.trans (qJS (qDu hye)).symm)
  rw[decide_eq_true hcan2]
  exact fin (s34.trans (s6.trans s7))
end
end Go.Proofs
namespace Go.Proofs
open Go Go.Sx
def qBi(w:World):Mem:=fun b=>w.heap[b]?
theorem heapM_le(w:World):(qBi w).le w:=fun _ _ h=>h
theorem qFV{α β:Type}{f:α->Option β}:∀{l:List α} {r:List β},l.mapM f=some r->r.length=l.length/\∀(i:Nat) (a:α),l[i]?=some a->∃b,r[i]?=some b/\f a=some b
 | [],r,h=>by simp at h;subst h;simp
 | x::l,r,h=>by
  simp only[List.mapM_cons,Option.bind_eq_bind,Option.bind_eq_some_iff,Option.pure_def,Option.some.injEq]at h
  obtain⟨b,hb,r',hr',rfl⟩:=h
  obtain⟨h1,h2⟩:=qFV hr'
  refine⟨by simp[h1],fun i a ha=>?_⟩
  cases i with
  | zero=>simp at ha;subst ha;exact⟨b,by simp,hb⟩
  | succ i=>simp at ha;simpa using h2 i a ha
theorem cells_row{w:World}{a:Addr}{n:Nat}{cs:List Value}(h:w.cells? 0 a n=some cs)(hn:0<n):(qBi w).row a n=some cs:=by
 unfold World.cells? at h
 rw[if_pos (Nat.zero_le _)]at h
 obtain⟨h1,h2⟩:=qFV h
 have hat:∀i,i<n->∃v,cs[i]?=some v/\w.cell? (a.add i)=some v:=fun i hi=>h2 i i (by simp[hi])
 obtain⟨v0,-,hc0⟩:=hat 0 hn
 have e0:a.add 0=a:=by unfold Addr.add;rw[if_pos rfl]
 rw[e0]at hc0
 unfold World.cell? at hc0
 split at hc0
 ·rename_i c t fr hb
  split at hc0
  ·cases hc0
  ·rename_i hsp
   have hsp':a.spot.isNone=true:=by cases hs:a.spot with
    | none=>rfl
    | some x=>rw[hs]at hsp;exact absurd rfl hsp
   have hsp2:a.spot=none:=by cases hs:a.spot with
    | none=>rfl
    | some x=>rw[hs]at hsp';cases hsp'
   have hci:∀i,i<n->∃v,cs[i]?=some v/\c[a.off+i]?=some v:=fun i hi=>by
    obtain⟨v,hv,hc⟩:=hat i hi
    refine⟨v,hv,?_⟩
    have e:a.add i=⟨a.block,a.off+i,none⟩:=by
     unfold Addr.add
     by_cases h0:i=0
     ·subst h0;rw[if_pos rfl]
      cases a with
      | mk b o s=>simp only at hsp2;subst hsp2;rfl
     ·rw[if_neg h0]
    rw[e]at hc
    simpa [World.cell?,hb]using hc
   have hlen:a.off+n<=c.size:=by
    obtain⟨v,_,hc⟩:=hci (n-1) (by omega)
    have:=(Array.getElem?_eq_some_iff.1 hc).1
    omega
   have hcs:cs.length=n:=by rw[h1];simp
   unfold Mem.row qBi
   simp only[hb]
   rw[if_pos ⟨hsp',hlen⟩]
   congr 1
   apply List.ext_getElem?
   intro i
   by_cases hi:i<n
   ·obtain⟨v,hv,hc⟩:=hci i hi
    rw[hv,List.getElem?_take,if_pos hi,List.getElem?_drop,Array.getElem?_toList,hc]
   ·rw[List.getElem?_eq_none (by simp;omega),List.getElem?_eq_none (by omega)]
 ·cases hc0
section
variable{H:Type}{enc:TypeId×Value->H}{w:World}
noncomputable abbrev TR(enc:TypeId×Value->H)(w:World)(n:Nat)(t:TypeId)(cs:List Value):=DataW.trod enc Tryz.prog w 0 (fun _=>true) true n t cs
theorem rd_str{n:Nat}{t:TypeId}{cs:List Value}{x:DataW H×List MemPlace}(ht:Tryz.prog.underlying t=some .string)(h:TR enc w n t cs=some x):∃s,cs=[.string s]:=by
 cases n with
 | zero=>cases h
 | succ n =>
  unfold TR DataW.trod at h
  rw[ht]at h
  split at h <;> first | (rename_i e;cases e;done) | skip
  all_goals first|exact⟨_,rfl⟩ | (simp_all;done)
theorem rd_int{n:Nat}{t:TypeId}{cs:List Value}{x:DataW H×List MemPlace}(ht:Tryz.prog.underlying t=some (.int .i64))(h:TR enc w n t cs=some x):∃v:Int,cs=[.int .i64 v]/\IntKind.i64.min<=v/\v<=IntKind.i64.max:=by
 cases n with
 | zero=>cases h
 | succ n =>
  unfold TR DataW.trod at h
  rw[ht]at h
  split at h <;> simp_all
  obtain⟨⟨-,hw⟩,-⟩:=h
  simp only[Lit.wf,Bool.and_eq_true,decide_eq_true_eq]at hw
  exact hw
theorem rd_slice{α:Type}{row:α->List Value}{ok:α->Prop}{sz n:Nat}{t e:TypeId}{cs:List Value}{x:DataW H×List MemPlace}(ht:Tryz.prog.underlying t=some (.slice e))(hc:Tryz.prog.cellsOf e=sz)(hsz:0<sz)(hrow:∀a,(row a).length=sz)
  (hE:∀m,m<n->∀cs x,TR enc w m e cs=some x->∃a,row a=cs/\ok a) (h:TR enc w n t cs=some x):∃(s:Sl) (xs:List α),cs=[.slice s.p s.n s.c]/\qAd (qBi w) s sz (xs.map row)/\∀a∈xs,ok a:=by
 cases n with
 | zero=>cases h
 | succ n =>
  have key:∀(a:Addr) (len cap:Nat),TR enc w (n+1) t [.slice (some a) len cap]=some x->∃(xs:List α),qAd (qBi w) ⟨some a,len,cap⟩ sz (xs.map row)/\∀a∈xs,ok a:=by
   intro a len cap h
   unfold TR DataW.trod at h
   rw[ht]at h
   simp only at h
   split at h
   case isFalse=>cases h
   rename_i hcond
   simp only[Option.bind_eq_some_iff]at h
   obtain⟨elems,hm,-⟩:=h
   obtain⟨h1,h2⟩:=qFV hm
   have hex:∀i:Fin len,∃y:α,(qBi w).row (a.add (i*sz)) sz=some (row y)/\ok y:=by
    intro i
    obtain⟨b,-,hb⟩:=h2 i i (by simp)
    simp only[Option.bind_eq_some_iff]at hb
    obtain⟨ci,hci,hti⟩:=hb
    obtain⟨y,hy,hok⟩:=hE n (Nat.lt_succ_self n) ci _ hti
    rw[hc]at hci
    exact⟨y,by rw[hy];exact cells_row hci hsz,hok⟩
   refine⟨List.ofFn fun i=>Classical.choose (hex i),⟨by simp,hcond.2.1,by have:=hcond.2.2;unfold maxLen at this;omega,?_,?_⟩,?_⟩
   ·intro r hr
    simp only[List.mem_map]at hr
    obtain⟨y,-,rfl⟩:=hr
    exact hrow y
   ·intro i r hr
    simp only[List.getElem?_map,List.getElem?_ofFn]at hr
    split at hr
    ·rename_i hi
     simp only[Option.map_some,Option.some.injEq]at hr
     subst hr
     exact⟨a,rfl,(Classical.choose_spec (hex ⟨i,hi⟩)).1⟩
    ·cases hr
   ·intro y hy
    simp only[List.mem_ofFn]at hy
    obtain⟨i,rfl⟩:=hy
    exact(Classical.choose_spec (hex i)).2
  have main:cs=[.slice none 0 0]∨∃a len cap,cs=[.slice (some a) len cap]:=by
   unfold TR DataW.trod at h
   rw[ht]at h
   clear key hE
   split at h <;> first | (rename_i e;cases e;done) | (rename_i e _;cases e;done) | (rename_i e _ _;cases e;done) | (left;rfl) | (right;exact⟨_,_,_,rfl⟩) | (cases h;done) | skip
  rcases main with rfl|⟨a,len,cap,rfl⟩
  ·exact⟨⟨none,0,0⟩,[],rfl,qAd.nil,by simp⟩
  ·obtain⟨xs,g1,g2⟩:=key a len cap h
   exact⟨⟨some a,len,cap⟩,xs,rfl,g1,g2⟩
theorem qBt{n:Nat}{t:TypeId}{fs:Array Field}{cs:List Value}{x:DataW H×List MemPlace}(ht:Tryz.prog.underlying t=some (.struct fs))(h:TR enc w n t cs=some x) :
  cs.length=Tryz.prog.cellsOf t/\∃m,m<n/\∀(i:Nat) (f:Field),fs.toList[i]?=some f->∃y,TR enc w m f.type ((cs.drop f.offset).take (Tryz.prog.cellsOf f.type))=some y:=by
 cases n with
 | zero=>cases h
 | succ n =>
  have key:cs.length=Tryz.prog.cellsOf t->(∃xs,(fs.toList.mapM fun f=>DataW.trod enc Tryz.prog w 0 (fun _=>true) true n f.type ((cs.drop f.offset).take (Tryz.prog.cellsOf f.type)))=some xs) ->
    cs.length=Tryz.prog.cellsOf t/\∃m,m<n+1/\∀(i:Nat) (f:Field),fs.toList[i]?=some f->∃y,TR enc w m f.type ((cs.drop f.offset).take (Tryz.prog.cellsOf f.type))=some y:=by
   rintro hl ⟨xs,hx⟩
   refine⟨hl,n,Nat.lt_succ_self n,fun i f hf=>?_⟩
   obtain⟨-,h2⟩:=qFV hx
   obtain⟨b,-,hb⟩:=h2 i f hf
   exact⟨b,hb⟩
  unfold TR DataW.trod at h
  rw[ht]at h
  split at h
  all_goals first | (rename_i e;cases e;done) | (rename_i e _;cases e;done) | (rename_i e _ _;cases e;done) | (exact absurd rfl ((by assumption:∀fs_1:Array Field,some (TypeDesc.struct fs)=some (TypeDesc.struct fs_1)->False) fs)) | skip
  rename_i e
  cases e
  split at h
  ·rename_i hl
   simp only[Option.map_eq_some_iff]at h
   obtain⟨xs,hx,-⟩:=h
   exact key hl ⟨xs,hx⟩
  ·simp only[reduceCtorEq]at h
end
end Go.Proofs
namespace Go.Proofs
open Go Go.Sx
section
variable{H:Type}{enc:TypeId×Value->H}{w:World}
theorem at1{cs:List Value}{v:Value}{off m:Nat}{t:TypeId}(h:∃y,TR enc w m t ((cs.drop off).take (Tryz.prog.cellsOf t))=some y)(hc:Tryz.prog.cellsOf t=1)(hv:cs[off]?=some v):∃y,TR enc w m t [v]=some y:=by
 obtain⟨y,hy⟩:=h
 refine⟨y,?_⟩
 have hlt:=(List.getElem?_eq_some_iff.1 hv).1
 have e:(cs.drop off).take 1=[v]:=by
  rw[List.drop_eq_getElem_cons hlt,(List.getElem?_eq_some_iff.1 hv).2]
  simp
 rw[hc,e]at hy
 exact hy
theorem cl9:Tryz.prog.cellsOf 9=1:=by kernel_rfl
theorem cl3:Tryz.prog.cellsOf 3=1:=by kernel_rfl
theorem cl22:Tryz.prog.cellsOf 22=1:=by kernel_rfl
theorem cl23:Tryz.prog.cellsOf 23=1:=by kernel_rfl
theorem cl24:Tryz.prog.cellsOf 24=1:=by kernel_rfl
theorem cl25:Tryz.prog.cellsOf 25=1:=by kernel_rfl
theorem cl26:Tryz.prog.cellsOf 26=1:=by kernel_rfl
theorem cl27:Tryz.prog.cellsOf 27=1:=by kernel_rfl
theorem cl28:Tryz.prog.cellsOf 28=1:=by kernel_rfl
theorem cl38:Tryz.prog.cellsOf 85=1:=by kernel_rfl
theorem cl52:Tryz.prog.cellsOf 77=1:=by kernel_rfl
theorem cl40:Tryz.prog.cellsOf 87=4:=by kernel_rfl
theorem cl67:Tryz.prog.cellsOf 81=2:=by kernel_rfl
theorem cl94:Tryz.prog.cellsOf 119=2:=by kernel_rfl
theorem cl54:Tryz.prog.cellsOf 79=5:=by kernel_rfl
theorem cl75:Tryz.prog.cellsOf 89=5:=by kernel_rfl
theorem cl97:Tryz.prog.cellsOf 148=7:=by kernel_rfl
theorem cl58:Tryz.prog.cellsOf 151=6:=by kernel_rfl
theorem cl61:Tryz.prog.cellsOf 153=5:=by kernel_rfl
theorem cl64:Tryz.prog.cellsOf 155=5:=by kernel_rfl
theorem cl30:Tryz.prog.cellsOf 30=8:=by kernel_rfl
theorem gS{m:Nat}{v:Value}(h:∃y,TR enc w m 9 [v]=some y):∃s,v=.string s:=by
 obtain⟨y,hy⟩:=h
 obtain⟨s,e⟩:=rd_str Tryz.underlying9 hy
 exact⟨s,by simpa using e⟩
theorem gI{m:Nat}{v:Value}(h:∃y,TR enc w m 3 [v]=some y):∃n:Int,v=.int .i64 n/\IntKind.i64.min<=n/\n<=IntKind.i64.max:=by
 obtain⟨y,hy⟩:=h
 obtain⟨s,e,h1⟩:=rd_int Tryz.underlying3 hy
 exact⟨s,by simpa using e,h1⟩
theorem gSl{α:Type}{row:α->List Value}{ok:α->Prop}{sz m:Nat}{t e:TypeId}{v:Value}(ht:Tryz.prog.underlying t=some (.slice e))(hc:Tryz.prog.cellsOf e=sz)(hsz:0<sz)(hrow:∀a,(row a).length=sz)
  (hE:∀m',m'<m->∀cs x,TR enc w m' e cs=some x->∃a,row a=cs/\ok a) (h:∃y,TR enc w m t [v]=some y):∃(s:Sl) (xs:List α),v=.slice s.p s.n s.c/\qAd (qBi w) s sz (xs.map row)/\∀a∈xs,ok a:=by
 obtain⟨y,hy⟩:=h
 obtain⟨s,xs,e,h1,h2⟩:=rd_slice ht hc hsz hrow hE hy
 exact⟨s,xs,by simpa using e,h1,h2⟩
theorem len2{cs:List Value}(h:cs.length=2):∃a b,cs=[a,b]:=by
 match cs,h with
 | [a,b],_=>exact⟨a,b,rfl⟩
theorem len4{cs:List Value}(h:cs.length=4):∃a b c d,cs=[a,b,c,d]:=by
 match cs,h with
 | [a,b,c,d],_=>exact⟨a,b,c,d,rfl⟩
theorem len5{cs:List Value}(h:cs.length=5):∃a b c d e,cs=[a,b,c,d,e]:=by
 match cs,h with
 | [a,b,c,d,e],_=>exact⟨a,b,c,d,e,rfl⟩
theorem len6{cs:List Value}(h:cs.length=6):∃a b c d e f,cs=[a,b,c,d,e,f]:=by
 match cs,h with
 | [a,b,c,d,e,f],_=>exact⟨a,b,c,d,e,f,rfl⟩
theorem len7{cs:List Value}(h:cs.length=7):∃a b c d e f g,cs=[a,b,c,d,e,f,g]:=by
 match cs,h with
 | [a,b,c,d,e,f,g],_=>exact⟨a,b,c,d,e,f,g,rfl⟩
theorem len8{cs:List Value}(h:cs.length=8):∃a b c d e f g i,cs=[a,b,c,d,e,f,g,i]:=by
 match cs,h with
 | [a,b,c,d,e,f,g,i],_=>exact⟨a,b,c,d,e,f,g,i,rfl⟩
theorem rdFld{n:Nat}{cs:List Value}{x:DataW H×List MemPlace}(h:TR enc w n 81 cs=some x):∃f:Fld,Fld.row f=cs/\True:=by
 obtain⟨hl,m,-,hs⟩:=qBt Tryz.underlying81 h
 obtain⟨a,b,rfl⟩:=len2 (hl.trans cl67)
 obtain⟨s1,rfl⟩:=gS (at1 (hs 0 _ rfl) cl9 rfl)
 obtain⟨s2,rfl⟩:=gS (at1 (hs 1 _ rfl) cl9 rfl)
 exact⟨⟨s1,s2⟩,rfl,trivial⟩
theorem rdE:∀(n:Nat) (cs:List Value) (x:DataW H×List MemPlace),TR enc w n 87 cs=some x->∃e:E,E.row e=cs/\E.Ok (qBi w) e:=by
 intro n
 induction n using Nat.strongRecOn with
 | _ n ih =>
 intro cs x h
 obtain⟨hl,m,hm,hs⟩:=qBt Tryz.underlying87 h
 obtain⟨a,b,c,d,rfl⟩:=len4 (hl.trans cl40)
 obtain⟨op,rfl,ho⟩:=gI (at1 (hs 0 _ rfl) cl3 rfl)
 obtain⟨nn,rfl,hn⟩:=gI (at1 (hs 1 _ rfl) cl3 rfl)
 obtain⟨s,rfl⟩:=gS (at1 (hs 2 _ rfl) cl9 rfl)
 obtain⟨l,k,rfl,hr,hk⟩:=gSl (row:=E.row) (ok:=E.Ok (qBi w)) Tryz.underlying85 cl40 (by decide) (fun _=>rfl) (fun m' hm'=>ih m' (by omega)) (at1 (hs 3 _ rfl) cl38 rfl)
 exact⟨.mk op nn s l k,rfl,.mk hr hk ho hn⟩
theorem S.row_len:∀s:S,(S.row s).length=5:=fun s=>by cases s;rfl
theorem rdS:∀(n:Nat) (cs:List Value) (x:DataW H×List MemPlace),TR enc w n 89 cs=some x->∃e:S,S.row e=cs/\S.Ok (qBi w) e:=by
 intro n
 induction n using Nat.strongRecOn with
 | _ n ih =>
 intro cs x h
 obtain⟨hl,m,hm,hs⟩:=qBt Tryz.underlying89 h
 obtain⟨a,b,c,d,e,rfl⟩:=len5 (hl.trans cl75)
 obtain⟨op,rfl,ho⟩:=gI (at1 (hs 0 _ rfl) cl3 rfl)
 obtain⟨s,rfl⟩:=gS (at1 (hs 1 _ rfl) cl9 rfl)
 obtain⟨el,es,rfl,hr1,hk1⟩:=gSl (row:=E.row) (ok:=E.Ok (qBi w)) Tryz.underlying85 cl40 (by decide) (fun _=>rfl) (fun m' _=>rdE m') (at1 (hs 2 _ rfl) cl38 rfl)
 obtain⟨ll,ls,rfl,hr2,hk2⟩:=gSl (row:=S.row) (ok:=S.Ok (qBi w)) Tryz.underlying77 cl75 (by decide) S.row_len (fun m' hm'=>ih m' (by omega)) (at1 (hs 3 _ rfl) cl52 rfl)
 obtain⟨xl,xs,rfl,hr3,hk3⟩:=gSl (row:=S.row) (ok:=S.Ok (qBi w)) Tryz.underlying77 cl75 (by decide) S.row_len (fun m' hm'=>ih m' (by omega)) (at1 (hs 4 _ rfl) cl52 rfl)
 exact⟨.mk op s el es ll ls xl xs,rfl,.mk hr1 hk1 hr2 hk2 hr3 hk3 ho⟩
theorem gF{m:Nat}{v:Value}(h:∃y,TR enc w m 23 [v]=some y):∃(s:Sl) (xs:List Fld),v=.slice s.p s.n s.c/\qAd (qBi w) s 2 (xs.map Fld.row):=by
 obtain⟨s,xs,h1,h2,-⟩:=gSl (row:=Fld.row) (ok:=fun _=>True) Tryz.underlying23 cl67 (by decide) (fun _=>rfl) (fun _ _ _ _=>rdFld) h
 exact⟨s,xs,h1,h2⟩
theorem rdTy{n:Nat}{cs:List Value}{x:DataW H×List MemPlace}(h:TR enc w n 119 cs=some x):∃f:Ty,Ty.row f=cs/\Ty.Ok (qBi w) f:=by
 obtain⟨hl,m,-,hs⟩:=qBt Tryz.underlying119 h
 obtain⟨a,b,rfl⟩:=len2 (hl.trans cl94)
 obtain⟨s1,rfl⟩:=gS (at1 (hs 0 _ rfl) cl9 rfl)
 obtain⟨l,k,rfl,hr⟩:=gF (at1 (hs 1 _ rfl) cl23 rfl)
 exact⟨⟨s1,l,k⟩,rfl,⟨hr⟩⟩
theorem rdPr{n:Nat}{cs:List Value}{x:DataW H×List MemPlace}(h:TR enc w n 79 cs=some x):∃f:Pr,Pr.row f=cs/\Pr.Ok (qBi w) f:=by
 obtain⟨hl,m,-,hs⟩:=qBt Tryz.underlying79 h
 obtain⟨a,b,c,d,e,rfl⟩:=len5 (hl.trans cl54)
 obtain⟨s1,rfl⟩:=gS (at1 (hs 0 _ rfl) cl9 rfl)
 obtain⟨l1,k1,rfl,hr1⟩:=gF (at1 (hs 1 _ rfl) cl23 rfl)
 obtain⟨s2,rfl⟩:=gS (at1 (hs 2 _ rfl) cl9 rfl)
 obtain⟨l2,k2,rfl,hr2⟩:=gF (at1 (hs 3 _ rfl) cl23 rfl)
 obtain⟨l3,k3,rfl,hr3,hk3⟩:=gSl (row:=S.row) (ok:=S.Ok (qBi w)) Tryz.underlying77 cl75 (by decide) S.row_len (fun m' _=>rdS m') (at1 (hs 4 _ rfl) cl52 rfl)
 exact⟨⟨s1,l1,k1,s2,l2,k2,l3,k3⟩,rfl,⟨hr1,hr2,hr3,hk3⟩⟩
theorem rdMs{n:Nat}{cs:List Value}{x:DataW H×List MemPlace}(h:TR enc w n 148 cs=some x):∃f:Ms,Ms.row f=cs/\Ms.Ok (qBi w) f:=by
 obtain⟨hl,m,-,hs⟩:=qBt Tryz.underlying148 h
 obtain⟨a,b,c,d,e,f,g,rfl⟩:=len7 (hl.trans cl97)
 obtain⟨s1,rfl⟩:=gS (at1 (hs 0 _ rfl) cl9 rfl)
 obtain⟨s2,rfl⟩:=gS (at1 (hs 1 _ rfl) cl9 rfl)
 obtain⟨nn,rfl,hn⟩:=gI (at1 (hs 2 _ rfl) cl3 rfl)
 obtain⟨y,hy⟩:=hs 3 _ rfl
 change TR enc w m 87 (([Value.string s1,.string s2,.int .i64 nn,d,e,f,g].drop 3).take (Tryz.prog.cellsOf 87))=some y at hy
 rw[cl40]at hy
 obtain⟨x,hx,hxo⟩:=rdE m _ _ hy
 simp only[List.drop_succ_cons,List.drop_zero,List.take_succ_cons,List.take_zero,E.row,List.cons.injEq,and_true]at hx
 obtain⟨rfl,rfl,rfl,rfl⟩:=hx
 exact⟨⟨s1,s2,nn,x⟩,rfl,⟨hxo,hn⟩⟩
theorem rdIv{n:Nat}{cs:List Value}{x:DataW H×List MemPlace}(h:TR enc w n 151 cs=some x):∃f:Iv,Iv.row f=cs/\E.Ok (qBi w) f.x:=by
 obtain⟨hl,m,-,hs⟩:=qBt Tryz.underlying151 h
 obtain⟨a,b,d,e,f,g,rfl⟩:=len6 (hl.trans cl58)
 obtain⟨s1,rfl⟩:=gS (at1 (hs 0 _ rfl) cl9 rfl)
 obtain⟨s2,rfl⟩:=gS (at1 (hs 1 _ rfl) cl9 rfl)
 obtain⟨y,hy⟩:=hs 2 _ rfl
 change TR enc w m 87 (([Value.string s1,.string s2,d,e,f,g].drop 2).take (Tryz.prog.cellsOf 87))=some y at hy
 rw[cl40]at hy
 obtain⟨x,hx,hxo⟩:=rdE m _ _ hy
 simp only[List.drop_succ_cons,List.drop_zero,List.take_succ_cons,List.take_zero,E.row,List.cons.injEq,and_true]at hx
 obtain⟨rfl,rfl,rfl,rfl⟩:=hx
 exact⟨⟨s1,s2,x⟩,rfl,hxo⟩
theorem rdPo{n:Nat}{cs:List Value}{x:DataW H×List MemPlace}(h:TR enc w n 153 cs=some x):∃f:Po,Po.row f=cs/\E.Ok (qBi w) f.x:=by
 obtain⟨hl,m,-,hs⟩:=qBt Tryz.underlying153 h
 obtain⟨a,d,e,f,g,rfl⟩:=len5 (hl.trans cl61)
 obtain⟨s1,rfl⟩:=gS (at1 (hs 0 _ rfl) cl9 rfl)
 obtain⟨y,hy⟩:=hs 1 _ rfl
 change TR enc w m 87 (([Value.string s1,d,e,f,g].drop 1).take (Tryz.prog.cellsOf 87))=some y at hy
 rw[cl40]at hy
 obtain⟨x,hx,hxo⟩:=rdE m _ _ hy
 simp only[List.drop_succ_cons,List.drop_zero,List.take_succ_cons,List.take_zero,E.row,List.cons.injEq,and_true]at hx
 obtain⟨rfl,rfl,rfl,rfl⟩:=hx
 exact⟨⟨s1,x⟩,rfl,hxo⟩
theorem rdBd{n:Nat}{cs:List Value}{x:DataW H×List MemPlace}(h:TR enc w n 155 cs=some x):∃f:Bd,Bd.row f=cs/\E.Ok (qBi w) f.x:=by
 obtain⟨hl,m,-,hs⟩:=qBt Tryz.underlying155 h
 obtain⟨a,d,e,f,g,rfl⟩:=len5 (hl.trans cl64)
 obtain⟨s1,rfl⟩:=gS (at1 (hs 0 _ rfl) cl9 rfl)
 obtain⟨y,hy⟩:=hs 1 _ rfl
 change TR enc w m 87 (([Value.string s1,d,e,f,g].drop 1).take (Tryz.prog.cellsOf 87))=some y at hy
 rw[cl40]at hy
 obtain⟨x,hx,hxo⟩:=rdE m _ _ hy
 simp only[List.drop_succ_cons,List.drop_zero,List.take_succ_cons,List.take_zero,E.row,List.cons.injEq,and_true]at hx
 obtain⟨rfl,rfl,rfl,rfl⟩:=hx
 exact⟨⟨s1,x⟩,rfl,hxo⟩
theorem rdDs{n:Nat}{cs:List Value}{x:DataW H×List MemPlace}(h:TR enc w n 30 cs=some x):∃d:Ds,d.row=cs/\Ds.Ok (qBi w) d:=by
 obtain⟨hl,m,-,hs⟩:=qBt Tryz.underlying30 h
 obtain⟨a,b,c,d,e,f,g,i,rfl⟩:=len8 (hl.trans cl30)
 obtain⟨s1,rfl⟩:=gS (at1 (hs 0 _ rfl) cl9 rfl)
 obtain⟨l1,k1,rfl,h1,o1⟩:=gSl (row:=Ty.row) (ok:=Ty.Ok (qBi w)) Tryz.underlying22 cl94 (by decide) (fun _=>rfl) (fun _ _ _ _=>rdTy) (at1 (hs 1 _ rfl) cl22 rfl)
 obtain⟨l2,k2,rfl,h2⟩:=gF (at1 (hs 2 _ rfl) cl23 rfl)
 obtain⟨l3,k3,rfl,h3,o3⟩:=gSl (row:=Pr.row) (ok:=Pr.Ok (qBi w)) Tryz.underlying24 cl54 (by decide) (fun _=>rfl) (fun _ _ _ _=>rdPr) (at1 (hs 3 _ rfl) cl24 rfl)
 obtain⟨l4,k4,rfl,h4,o4⟩:=gSl (row:=Ms.row) (ok:=Ms.Ok (qBi w)) Tryz.underlying25 cl97 (by decide) (fun _=>rfl) (fun _ _ _ _=>rdMs) (at1 (hs 4 _ rfl) cl25 rfl)
 obtain⟨l5,k5,rfl,h5,o5⟩:=gSl (row:=Iv.row) (ok:=fun f=>E.Ok (qBi w) f.x) Tryz.underlying26 cl58 (by decide) (fun _=>rfl) (fun _ _ _ _=>rdIv) (at1 (hs 5 _ rfl) cl26 rfl)
 obtain⟨l6,k6,rfl,h6,o6⟩:=gSl (row:=Po.row) (ok:=fun f=>E.Ok (qBi w) f.x) Tryz.underlying27 cl61 (by decide) (fun _=>rfl) (fun _ _ _ _=>rdPo) (at1 (hs 6 _ rfl) cl27 rfl)
 obtain⟨l7,k7,rfl,h7,o7⟩:=gSl (row:=Bd.row) (ok:=fun f=>E.Ok (qBi w) f.x) Tryz.underlying28 cl64 (by decide) (fun _=>rfl) (fun _ _ _ _=>rdBd) (at1 (hs 7 _ rfl) cl28 rfl)
 exact⟨⟨s1,l1,k1,l2,k2,l3,k3,l4,k4,l5,k5,l6,k6,l7,k7⟩,rfl,⟨h1,o1,h2,h3,o3,h4,o4,h5,o5,h6,o6,h7,o7⟩⟩
end
end Go.Proofs
namespace Go.Proofs.YtlnbdjekdkodcaaGreatDoor
open Go Go.Sx Go.Proofs Go.ChangeShapes Go.WideShapes Go.ChangeAt Go.RowKit
theorem qHy{P:Program}{f:FuncId}{args:List Value}{W:World}{v:Value}(h:Pur P f args (qBi W) v):Calls P f args.toArray W fun e W'=>e=.returned v/\W'.os=W.os/\W'.output=W.output/\W.heap.size<=W'.heap.size/\∀b,b<W.heap.size->W'.heap[b]?=W.heap[b]?:=by
 have h2:Tri P f args.toArray (qBi W) fun e V'=>e=.returned v/\V'=qBi W:=h
 unfold Tri at h2
 refine qBN (h2 W (heapM_le W)) ?_
 rintro e W' ⟨V',⟨rfl,rfl⟩,hF⟩
 refine⟨rfl,hF.os,hF.out,hF.size,fun b hb=>?_⟩
 have:qBi W b=some W.heap[b]:=Array.getElem?_eq_getElem hb
 rw[hF.le b _ this];exact this.symm
theorem Tryz.own:ownKnob Tryz.prog.godebug=none:=by kernel_rfl
theorem Tryz.laidOut:laidOutB Tryz.prog=true:=by kernel_rfl
theorem tab_of{W:World}(h:Lib.TabIs Tryz.prog W "strings.asciiSpace" .u8 Lib.asciiSpaceTab):Tab (qBi W):=by
 have hg:Tryz.prog.globalNamed "strings.asciiSpace" = some 0:=by kernel_rfl
 unfold Lib.TabIs World.var? at h
 rw[hg,Option.bind_some]at h
 split at h
 ·rename_i cs t fr hb
  simp only[Option.some.injEq]at h
  exact⟨t,fr,by rw[<- h];exact hb⟩
 ·cases h
theorem qKI{H:Type}{enc:TypeId×Value->H}{W:World}{v:Value}{d0:DataW H}{p:List MemPlace}(h:DataW.Trod enc Tryz.prog W 0 (fun _=>true) true 30 v d0 p):∃d:Ds,v=d.v/\Ds.Ok (qBi W) d:=by
 obtain⟨fuel,h⟩:=h
 obtain⟨d,hd,hok⟩:=rdDs h
 refine⟨d,?_,hok⟩
 have hl:v.cells.toList.length=8:=by rw[<- hd];rfl
 cases v with
 | agg cs =>
  have:cs.toList=d.row:=hd.symm
  show Value.agg cs=.agg d.row.toArray
  rw[<- this]
 | _=>simp[Value.cells]at hl
noncomputable def qEw(os:Os):World :=
 let w0:=World.holding Tryz.prog os ⟨#[.cells #[.int .u16 9,.int .u16 13,.int .u16 1,.int .u16 32,.int .u16 133,.int .u16 101,.int .u16 160,.int .u16 5760,.int .u16 5600,.int .u16 8192,.int .u16 8202,.int .u16 1,.int .u16 8232,.int .u16 8233,.int .u16 1,.int .u16 8239,.int .u16 8287,.int .u16 48,.int .u16 12288,.int .u16 12288,.int .u16 1] 328,
  .cells #[.slice (some ⟨(World.settled Tryz.prog os).heap.size,0,none⟩) 7 7,.slice none 0 0,.int .i64 2] 326],#[],[]⟩
 {w0 with heap:=(w0.heap.modify 0 fun
   | .cells _ t frozen=>.cells (Lib.asciiSpaceTab.map fun z=>Value.int .u8 z).toArray t frozen
   | o=>o).modify 1 fun
   | .cells _ t frozen=>.cells #[.pointer (some ⟨(World.settled Tryz.prog os).heap.size+1,0,none⟩)] t frozen
   | o=>o }
theorem qCP(os:Os)(args:Array Value):laidMet Tryz.prog [("unicode.White_Space",Rows.laid_unicode_White_Space),("strings.asciiSpace",Rows.laid_strings_asciiSpace)] ((qEw os).forCall (fun _ _=>0) ⟨#[],args,[]⟩).memory :=
 (LaidIn.of_run [0,1,(World.settled Tryz.prog os).heap.size,(World.settled Tryz.prog os).heap.size+1] 12 (by kernel_rfl) (by kernel_rfl) (by kernel_rfl) (by kernel_rfl)).met
end Go.Proofs.YtlnbdjekdkodcaaGreatDoor
namespace Go.Proofs.YtlnbdjekdkodcaaGreatDoor
open Go Go.Sx Go.Proofs Go.ChangeShapes Go.WideShapes Go.ChangeAt Go.RowKit
abbrev qFd:List (String×DataW Unit):=[("unicode.White_Space",Rows.laid_unicode_White_Space),("strings.asciiSpace",Rows.laid_strings_asciiSpace)]
theorem noHandles:(qFd.filter fun x=>x.2.handleName?.isSome)=[]:=by kernel_rfl
theorem qBw{w:World}:laidMetH Tryz.prog qFd w↔laidMet Tryz.prog qFd w:=by
 unfold laidMetH
 rw[noHandles]
theorem qHv{W:World}(h:laidMet Tryz.prog qFd W):Tab (qBi W):=by
 obtain⟨ps,h1,h2,h3⟩:=h
 obtain⟨g,t,cs,fuel,p,q,hg,ht,hvar,hd,hrest,hps⟩:=h1
 obtain⟨g',t',cs',fuel',p',q',hg',ht',hvar',hd',hrest',hps'⟩:=hrest
 refine tab_of ?_
 unfold Lib.TabIs
 rw[hvar']
 have hgg:g'=0:=Option.some.inj (hg'.symm.trans (show Tryz.prog.globalNamed "strings.asciiSpace" = some 0 by kernel_rfl))
 subst hgg
 have htt:t'=295:=Option.some.inj (ht'.symm.trans (show (Tryz.prog.globals[0]?).map (·.type)=some 295 by kernel_rfl))
 subst htt
 have hdat:(Rows.laid_strings_asciiSpace:DataW Unit)=Lib.tabData .u8 Lib.asciiSpaceTab:=by kernel_rfl
 rw[hdat]at hd'
 rw[<- Lib.cells_of_tab (n:=256) (e:=5) Tryz.underlying295 Tryz.underlying5 (by kernel_rfl) (by kernel_rfl) hd']
theorem kept{W W':World}(h1:W'.os=W.os)(h2:W'.output=W.output)(hold:∀b,b<W.heap.size->W'.heap[b]?=W.heap[b]?)(may:MemPlace->Prop):W.keptBut W' may:=by
 refine⟨h1,h2,fun i hi=>?_⟩
 rw[hold i hi]
 split <;> simp_all
theorem again_arg{H:Type}{enc:TypeId×Value->H}{t:TypeId}(hr:Tryz.prog.readableRec t=true)(hrow:t<Tryz.prog.types.size){W W':World}{v:Value}{d:DataW H}{ps:List MemPlace}(h:DataW.Trod enc Tryz.prog W 0 (fun _=>true) true t v d ps)
  (hold:∀b,b<W.heap.size->W'.heap[b]?=W.heap[b]?) (hlt:∀x∈ps,x.block<W.heap.size):DataW.Trod enc Tryz.prog W' 0 (fun b=>decide (b<W.heap.size)) true t v d ps :=
 WideElems.Trod_stays Tryz.laidOut hr hrow h (fun x hx=>by
  have:=hlt x hx
  cases x with
  | cell b o=>exact World.cell?_of_block (w:=W) (hold b this)
  | map b=>exact hold b this) (fun x hx=>by simpa using hlt x hx)
theorem wit{C:Checked}{os:Os}{f:FuncId}{fn:Func}{s:ChangeSpec}{conds:List PathCond}{apart:Bool}{X:World->Array Value->Prop}{H:Type}{enc:TypeId×Value->H}(w0:World)(args:Array Value)(fuel:Nat)(hos:w0.os=os)
  (hv:(w0.forCall (fun _ _=>0) ⟨#[],args,[]⟩).variablesRefB C.prog=true)
  (hr:((w0.forCall (fun _ _=>0) ⟨#[],args,[]⟩).heap.toList.drop C.prog.globals.size).take ((begin C.prog (fun _ _=>0) default).world.heap.size-C.prog.globals.size) =
   (begin C.prog (fun _ _=>0) default).world.heap.toList.drop C.prog.globals.size)
  (hok:Input.okWideB C.prog (w0.forCall (fun _ _=>0) ⟨#[],args,[]⟩) f ⟨#[],args,[]⟩=true)
  (hpre:s.preB enc C.prog fn conds apart (w0.forCall (fun _ _=>0) ⟨#[],args,[]⟩).memory args fuel=true)
  (hsz:s.sizedB enc C.prog fn apart (w0.forCall (fun _ _=>0) ⟨#[],args,[]⟩).memory args fuel=true)
  (hx:X (w0.forCall (fun _ _=>0) ⟨#[],args,[]⟩).memory args) :
  ∃(w:World) (tape:Tape) (i:Input),w.os=os/\(w.forCall tape i).Shaped C.prog/\i.vars=[]/\Input.okWide C.prog (w.forCall tape i) .any w.heap.size f i /\
   ((s.pre enc C.prog fn conds apart (w.forCall tape i).memory i.args/\X (w.forCall tape i).memory i.args)/\sizedMet enc C.prog fn (OpenSpec.ofChange s) apart (w.forCall tape i).memory i.args)/\({}:Assume).holds C.prog (lone (Frame.enter C.prog f i.args .normal) [] (w.forCall tape i)) :=
 ⟨w0,fun _ _=>0,⟨#[],args,[]⟩,hos,World.shaped_of_RefB hv hr,(Input.okWide_of_okWideB (base:=0) hok).1,(Input.okWide_of_okWideB hok).2,⟨⟨ChangeSpec.pre_of_preB hpre,hx⟩,sizedMet_of_sizedB hsz⟩,by
  first|exact⟨trivial,trivial⟩|simp[Assume.holds]⟩
theorem qEE{H:Type}{enc:TypeId×Value->H}{W W':World}(hold:∀b,b<W.heap.size->W'.heap[b]?=W.heap[b]?):∀{ts:List TypeId} {vs:List Value} {ds:List (DataW H)} {ps:List MemPlace},(∀t∈ts,Tryz.prog.readableRec t=true/\t<Tryz.prog.types.size) ->
  DataW.TrodAll enc Tryz.prog W 0 (fun _=>true) true ts vs ds ps->(∀x∈ps,x.block<W.heap.size)->DataW.TrodAll enc Tryz.prog W' 0 (fun b=>decide (b<W.heap.size)) true ts vs ds ps
 | [],_,_,_,_,h,_=>by
  obtain⟨rfl,rfl,rfl⟩:=trodAll_nil h
  exact trodAll_mk0
 | t::ts,_,_,_,hr,h,hlt=>by
  obtain⟨v,vs,d,ds,p,q,rfl,rfl,rfl,h1,h2⟩:=trodAll_cons h
  exact⟨p,q,again_arg (hr t (by simp)).1 (hr t (by simp)).2 h1 hold (fun x hx=>hlt x (List.mem_append_left _ hx)),qEE hold (fun u hu=>hr u (by simp[hu])) h2 (fun x hx=>hlt x (List.mem_append_right _ hx)),rfl⟩
end Go.Proofs.YtlnbdjekdkodcaaGreatDoor
namespace Go.Proofs.YtlnbdjekdkodcaaGreatDoor
open Go Go.Sx Go.Proofs Go.ChangeShapes Go.WideShapes Go.ChangeAt Go.RowKit
section
variable{H:Type}{enc:TypeId×Value->H}{w:World}
theorem cl31:Tryz.prog.cellsOf 31=1:=by kernel_rfl
theorem clNd:Tryz.prog.cellsOf 102=2:=by kernel_rfl
theorem clNds:Tryz.prog.cellsOf 32=1:=by kernel_rfl
theorem clMm:Tryz.prog.cellsOf 34=2:=by kernel_rfl
theorem gInts{m:Nat}{v:Value}(h:∃y,TR enc w m 31 [v]=some y):∃(s:Sl) (xs:List Int),v=.slice s.p s.n s.c/\qAd (qBi w) s 1 (xs.map qAn)/\∀x∈xs,inI x :=
 gSl (row:=qAn) (ok:=inI) Tryz.underlying31 cl3 (by decide) (fun _=>rfl) (fun m' _ cs x hx=>by
  obtain⟨n,rfl,hn⟩:=rd_int Tryz.underlying3 hx
  exact⟨n,rfl,hn⟩) h
theorem rdNd{n:Nat}{cs:List Value}{x:DataW H×List MemPlace}(h:TR enc w n 102 cs=some x):∃f:Nd,Nd.row f=cs/\Nd.Ok (qBi w) f:=by
 obtain⟨hl,m,-,hs⟩:=qBt Tryz.underlying102 h
 obtain⟨a,b,rfl⟩:=len2 (hl.trans clNd)
 obtain⟨t,rfl,ht⟩:=gI (at1 (hs 0 _ rfl) cl3 rfl)
 obtain⟨l,k,rfl,hr,hk⟩:=gInts (at1 (hs 1 _ rfl) cl31 rfl)
 exact⟨⟨t,l,k⟩,rfl,⟨hr,ht,hk⟩⟩
theorem rdMm{n:Nat}{cs:List Value}{x:DataW H×List MemPlace}(h:TR enc w n 34 cs=some x):∃m:Mm,m.row=cs/\Mm.Ok (qBi w) m:=by
 obtain⟨hl,m,-,hs⟩:=qBt Tryz.underlying34 h
 obtain⟨a,b,rfl⟩:=len2 (hl.trans clMm)
 obtain⟨l1,k1,rfl,h1,o1⟩:=gInts (at1 (hs 0 _ rfl) cl31 rfl)
 obtain⟨l2,k2,rfl,h2,o2⟩:=gSl (row:=Nd.row) (ok:=Nd.Ok (qBi w)) Tryz.underlying32 clNd (by decide) (fun _=>rfl) (fun _ _ _ _=>rdNd) (at1 (hs 1 _ rfl) clNds rfl)
 exact⟨⟨l1,k1,l2,k2⟩,rfl,⟨h1,o1,h2,o2⟩⟩
theorem clCl:Tryz.prog.cellsOf 36=2:=by kernel_rfl
theorem rdCl{n:Nat}{cs:List Value}{x:DataW H×List MemPlace}(h:TR enc w n 36 cs=some x):∃(nm:ByteArray) (l:Sl) (xs:List Int),[Value.string nm,l.v]=cs/\qAd (qBi w) l 1 (xs.map qAn):=by
 obtain⟨hl,m,-,hs⟩:=qBt Tryz.underlying36 h
 obtain⟨a,b,rfl⟩:=len2 (hl.trans clCl)
 obtain⟨t,rfl⟩:=gS (at1 (hs 0 _ rfl) cl9 rfl)
 obtain⟨l,k,rfl,hr,-⟩:=gInts (at1 (hs 1 _ rfl) cl31 rfl)
 exact⟨t,l,k,rfl,hr⟩
end
theorem mem_of{H:Type}{enc:TypeId×Value->H}{W:World}{v:Value}{d0:DataW H}{p:List MemPlace}(h:DataW.Trod enc Tryz.prog W 0 (fun _=>true) true 34 v d0 p):∃m:Mm,v=m.v/\Mm.Ok (qBi W) m:=by
 obtain⟨fuel,h⟩:=h
 obtain⟨m,hm,hok⟩:=rdMm h
 refine⟨m,?_,hok⟩
 have hl:v.cells.toList.length=2:=by rw[<- hm];rfl
 cases v with
 | agg cs =>
  have:cs.toList=m.row:=hm.symm
  show Value.agg cs=.agg m.row.toArray
  rw[<- this]
 | _=>simp[Value.cells]at hl
theorem call_of{H:Type}{enc:TypeId×Value->H}{W:World}{v:Value}{d0:DataW H}{p:List MemPlace}(h:DataW.Trod enc Tryz.prog W 0 (fun _=>true) true 36 v d0 p):∃(nm:ByteArray) (l:Sl) (xs:List Int),v=.agg #[.string nm,l.v]/\qAd (qBi W) l 1 (xs.map qAn):=by
 obtain⟨fuel,h⟩:=h
 obtain⟨nm,l,xs,hm,hok⟩:=rdCl h
 refine⟨nm,l,xs,?_,hok⟩
 have hl:v.cells.toList.length=2:=by rw[<- hm];rfl
 cases v with
 | agg cs =>
  have:cs.toList=[Value.string nm,l.v]:=hm.symm
  show Value.agg cs=.agg ([Value.string nm,l.v]:List Value).toArray
  rw[<- this]
 | _=>simp[Value.cells]at hl
theorem u16R{n:Int}(h:(Lit.int .u16 n).wf=true):0<=n/\n<=65535:=by
 simp only[Lit.wf,Bool.and_eq_true,decide_eq_true_eq]at h
 exact⟨h.1,h.2⟩
end Go.Proofs.YtlnbdjekdkodcaaGreatDoor
namespace Go.Proofs.YtlnbdjekdkodcaaGreatDoor
open Go Go.Sx Go.Proofs Go.ChangeShapes Go.WideShapes Go.ChangeAt Go.RowKit
set_option maxRecDepth 100000 in
theorem cls_of{H:Type}{enc:TypeId×Value->H}{W W':World}{r:Reach}{b0:Nat}{v:Value}{d0:DataW H}{p:List MemPlace}(hval:Value.okWide Tryz.prog W' r b0 39 v)(h:DataW.Trod enc Tryz.prog W 0 (fun _=>true) true 39 v d0 p):∃(l:Sl) (cs:List Cl2),v=l.v/\Cls.Ok (qBi W) l cs:=by
 obtain⟨a,len,cap,rfl⟩:=okWide_slice Tryz.underlying39 hval
 obtain⟨fuel,h⟩:=h
 have h:∃y,TR enc W fuel 39 [.slice a len cap]=some y:=⟨_,h⟩
 obtain⟨s,cs,hs,hr,hk⟩:=gSl (row:=Cl2.row) (ok:=fun c:Cl2=>qAd (qBi W) c.sl 1 (c.args.map qAn)) Tryz.underlying39 clCl (by decide) (fun _=>rfl) (fun m' _ cs x hx=>by
  obtain⟨nm,l,xs,hm,hok⟩:=rdCl hx
  exact⟨⟨nm,l,xs⟩,hm,hok⟩) h
 exact⟨s,cs,hs,hr,hk⟩
end Go.Proofs.YtlnbdjekdkodcaaGreatDoor
